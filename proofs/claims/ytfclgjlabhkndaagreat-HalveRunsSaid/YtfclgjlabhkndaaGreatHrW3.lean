/- Part 3. -/
import Derived.Test.YtfclgjlabhkndaaGreatHrW2
noncomputable section
namespace Go.Pf.Vc
open Go Go.Pf
set_option maxRecDepth 100000
theorem yoq (e:Es) (he:EG e):SEOk (Uni (E e)) (ykI e yaF):=yas (Sub.uni _) ⟨(yen e he),trivial⟩ trivial he.ok
theorem ysW (e:Es) (a0):ybM (ykI e a0) 5 a yq4 false (yns a0):=fun _=>⟨fun _=>by kernel_rfl,fun _ _=>by kernel_rfl,trivial⟩
theorem ysX (e:Es) (he:EG e):LpT (Uni (E e)) (yql yaF) [] 45203600 (.loop 45203600 yq4):=fun _ _ _=>ysB.st (Sub.uni _) (yaD (yoq e he) 5) (YOk.no _ _) (yam (by kernel_rfl)) (ysW e _ _)
theorem yzX (e:Es) (a0):EqW (ykI e a0) 6 ysK yzW (yho a0):=fun _ _=>by kernel_rfl
theorem yqm (e:Es) (he:EG e):OkF (E e) (yzW.pw yee) yif:=okU he (yzX e _) (yoq e he) ynm.flat (yaW (l:=[(45203600,.loop 45203600 yq4)]) ⟨ysX e he,trivial⟩ (by kernel_rfl))
abbrev yac:Type:=Int→(Int→Int→Prop)→Prop
def yqn (p0:Int) (K:Int→Int→Prop):Prop :=
 (K p0 (1:Int))
def ybR:yac:=yqn
def ykJ:Sg:=⟨pt3,Int→Int→Prop,fun K=>(fun r0 r1=>K (.agg [(.int .i64 r0),(.int .i64 r1)]))⟩
def yzY (e:Es):SE:=sE (E e) [] lp0
theorem yzZ (e:Es):EqW (yzY e) 6 yBT ykJ yqn:=fun _ _=>by kernel_rfl
theorem yhp (e:Es) (he:EG e):OkF (E e) (ykJ.pw ybR) yd9:=okU he (yzZ e) (yas (Sub.uni _) trivial trivial he.ok) ynm.flat (yam (by kernel_rfl))
abbrev yau:Type:=Int→Int→Int→Int→(Bool→Prop)→Prop
def ymy (a0:yah) (p0 p1 p2 p3:Int) (K:Bool→Prop):Prop :=
 (a0 p0 p1 p2 p3 (fun a _ =>
 (K (decide (a<(0:Int))))))
def ycc:yau:=ymy ya0
def ysY:Sg:=⟨pt12,Bool→Prop,fun K=>(fun r0=>K (.bool r0))⟩
def yCb (e:Es) (a0:yah):SE:=sE (E e) [(ydZ,yB0.pw a0)] lp0
theorem yCc (e:Es) (a0):EqW (yCb e a0) 6 yD7 ysY (ymy a0):=fun _ _=>by kernel_rfl
theorem yio (e:Es) (he:EG e):OkF (E e) (ysY.pw ycc) yeG:=okU he (yCc e _) (yas (Sub.uni _) ⟨(ye5 e he),trivial⟩ trivial he.ok) ynm.flat (yam (by kernel_rfl))
abbrev ybS:Type:=Int→Ls→Ls→Int→Int→(Bool→Prop)→Prop
def ykK (a0:yav) (a1:yac) (a2:yau) (p0:Int) (_ _:Ls) (p3 p4:Int) (K:Bool→Prop):Prop :=
 (a0 p3 p4 (fun a =>
 (cbr (a ==(0:Int))
 (cbr (decide (p3≥(0:Int)))
 (a1 p0 (fun b c =>
 (a2 b c p3 p4 (fun d =>
 (K (!d))))))
 (K false))
 (K false))))
def ybT:ybS:=ykK ybA ybR ycc
def yz0:Sg:=⟨(lC pt15 pt8),Bool→Prop,fun K=>(fun r0=>K (.bool r0))⟩
def yz1 (e:Es) (a0:yav) (a1:yac) (a2:yau):SE:=sE (E e) [(ydA,yoe.pw a0),(yd9,ykJ.pw a1),(yeG,ysY.pw a2)] lp0
theorem yz2 (e:Es) (a0 a1 a2):EqW (yz1 e a0 a1 a2) 6 yBU yz0 (ykK a0 a1 a2):=fun _ _=>by kernel_rfl
theorem ykL (e:Es) (he:EG e):OkF (E e) (yz0.pw ybT) ye1:=okU he (yz2 e _ _ _) (yas (Sub.uni _) ⟨(yeJ e he),(yhp e he),(yio e he),trivial⟩ trivial he.ok) ynm.flat (yam (by kernel_rfl))
abbrev ybU:Type:=Int→Ls→Ls→Int→Int→Int→Int→(Int→Int→Int→Prop)→Prop
def yaP (a0:yap) (a1:ybS) (a2:yau) (a3:yac) (a4:yaf) (a5:yaf) (a6:yaf) (x0:Int→Int→Int→Prop) (x1:Int→Ls→Ls→Int→Int→Int→Int→Int→Int→Int→Int→Ls→Int→Int→Bool→Prop):Nat→Int→Ls→Ls→Int→Int→Int→Int→Int→Int→Int→Int→Ls→Int→Int→Prop
 | 0,_,_,_,_,_,_,_,_,_,_,_,_,_,_=>False
 | n+1,i0,l1,l2,i3,i4,i5,i6,i7,i8,i9,i10,l11,i12,i13 =>
 (cbr (decide (i13<i12))
 (asr (decide ((0:Int)≤i13))
 (asr (decide (i13<(((List.length l11):Nat):Int)))
 (asr (conf zI (List.getD l11 (i13.toNat) .nils))
 (asr (decide ((0:Int)≤(IntKind.i64.wrap (i13+(1:Int)))))
 (asr (decide ((IntKind.i64.wrap (i13+(1:Int)))<(((List.length l1):Nat):Int)))
 (asr (conf zI (List.getD l1 ((IntKind.i64.wrap (i13+(1:Int))).toNat) .nils))
 (a3 (yaa (List.getD l1 ((IntKind.i64.wrap (i13+(1:Int))).toNat) .nils)) (fun a b =>
 (a2 i3 i4 a b (fun i =>
 (cbr i
 (cbr ((yaa (List.getD l11 (i13.toNat) .nils)) ==(0:Int))
 (a2 i9 i10 i3 i4 (fun j =>
 (cbr j
 (yaP a0 a1 a2 a3 a4 a5 a6 x0 x1 n i0 l1 l2 i3 i4 i5 i6 i7 i8 i3 i4 l11 i12 (IntKind.i64.wrap (i13+(1:Int))))
 (yaP a0 a1 a2 a3 a4 a5 a6 x0 x1 n i0 l1 l2 i3 i4 i5 i6 i7 i8 i9 i10 l11 i12 (IntKind.i64.wrap (i13+(1:Int)))))))
 (a2 i9 i10 i3 i4 (fun k =>
 (cbr (!k)
 (a2 i9 i10 i3 i4 (fun l =>
 (cbr l
 (yaP a0 a1 a2 a3 a4 a5 a6 x0 x1 n i0 l1 l2 i3 i4 i5 i6 i7 i8 i3 i4 l11 i12 (IntKind.i64.wrap (i13+(1:Int))))
 (yaP a0 a1 a2 a3 a4 a5 a6 x0 x1 n i0 l1 l2 i3 i4 i5 i6 i7 i8 i9 i10 l11 i12 (IntKind.i64.wrap (i13+(1:Int)))))))
 (a4 i3 i4 i9 i10 (fun m o c =>
 (cbr (c !=(0:Int))
 (x0 (0:Int) (0:Int) c)
 (a3 (yaa (List.getD l11 (i13.toNat) .nils)) (fun p q =>
 (a5 m o p q (fun r s d =>
 (cbr (d !=(0:Int))
 (x0 (0:Int) (0:Int) d)
 (a6 i7 i8 r s (fun t u e =>
 (cbr (e !=(0:Int))
 (x0 (0:Int) (0:Int) e)
 (yaP a0 a1 a2 a3 a4 a5 a6 x0 x1 n i0 l1 l2 i3 i4 i5 i6 t u i3 i4 l11 i12 (IntKind.i64.wrap (i13+(1:Int)))))))))))))))))))
 (cbr ((yaa (List.getD l11 (i13.toNat) .nils)) ==(0:Int))
 (a2 i9 i10 a b (fun v =>
 (cbr v
 (yaP a0 a1 a2 a3 a4 a5 a6 x0 x1 n i0 l1 l2 i3 i4 i5 i6 i7 i8 a b l11 i12 (IntKind.i64.wrap (i13+(1:Int))))
 (yaP a0 a1 a2 a3 a4 a5 a6 x0 x1 n i0 l1 l2 i3 i4 i5 i6 i7 i8 i9 i10 l11 i12 (IntKind.i64.wrap (i13+(1:Int)))))))
 (a2 i9 i10 a b (fun w =>
 (cbr (!w)
 (a2 i9 i10 a b (fun x =>
 (cbr x
 (yaP a0 a1 a2 a3 a4 a5 a6 x0 x1 n i0 l1 l2 i3 i4 i5 i6 i7 i8 a b l11 i12 (IntKind.i64.wrap (i13+(1:Int))))
 (yaP a0 a1 a2 a3 a4 a5 a6 x0 x1 n i0 l1 l2 i3 i4 i5 i6 i7 i8 i9 i10 l11 i12 (IntKind.i64.wrap (i13+(1:Int)))))))
 (a4 a b i9 i10 (fun y z f =>
 (cbr (f !=(0:Int))
 (x0 (0:Int) (0:Int) f)
 (a3 (yaa (List.getD l11 (i13.toNat) .nils)) (fun A B =>
 (a5 y z A B (fun C D g =>
 (cbr (g !=(0:Int))
 (x0 (0:Int) (0:Int) g)
 (a6 i7 i8 C D (fun E F h =>
 (cbr (h !=(0:Int))
 (x0 (0:Int) (0:Int) h)
 (yaP a0 a1 a2 a3 a4 a5 a6 x0 x1 n i0 l1 l2 i3 i4 i5 i6 E F a b l11 i12 (IntKind.i64.wrap (i13+(1:Int))))))))))))))))))))))))))))))
 (x1 i0 l1 l2 i3 i4 i5 i6 i7 i8 i9 i10 l11 i12 i13 false))
def ykM (a0:yap) (a1:ybS) (a2:yau) (a3:yac) (a4:yaf) (a5:yaf) (a6:yaf) (p0:Int) (p1 p2:Ls) (p3 p4 p5 p6:Int) (K:Int→Int→Int→Prop):Prop :=
 (a0 p0 p1 p2 (fun a =>
 (cbr (a !=(0:Int))
 (K (0:Int) (0:Int) a)
 (a1 p0 p1 p2 p3 p4 (fun b =>
 (cbr (!b)
 (K (0:Int) (0:Int) (2:Int))
 (a1 p0 p1 p2 p5 p6 (fun c =>
 (cbr (!c)
 (K (0:Int) (0:Int) (2:Int))
 (a2 p5 p6 p3 p4 (fun d =>
 (cbr d
 (K (0:Int) (0:Int) (2:Int))
 (a3 (0:Int) (fun e f =>
 (∃ n:Nat,yaP a0 a1 a2 a3 a4 a5 a6
 (fun g h i=>(K g h i))
 (fun _ _ _ _ _ _ _ j k _ _ _ _ _ _=>(K j k (0:Int)))
 n p0 p1 p2 p5 p6 (0:Int) (0:Int) e f p3 p4 p2 (((List.length p2):Nat):Int) (0:Int))))))))))))))))
def ye7:ybU:=ykM yaF ybT ycc ybR ybH ybg ybC
def pt18:LPt:=lC pt15 pt12
def yhq:Sg:=⟨pt18,Int→Int→Int→Prop,fun K=>(fun r0 r1 r2=>K (.tup [(.agg [(.int .i64 r0),(.int .i64 r1)]),(.int .i64 r2)]))⟩
def yuV (Q:Qx):Int→Int→Int→Prop:=(fun i0 i1 i2=>Q .ret [(6,.box (.agg [(.int .i64 i0),(.int .i64 i1)])),(7,.v (.int .i64 i2))] [])
def yuW (Q:Qx):Int→Ls→Ls→Int→Int→Int→Int→Int→Int→Int→Int→Ls→Int→Int→Bool→Prop:=(fun i0 l1 l2 i3 i4 i5 i6 i7 i8 i9 i10 l11 i12 i13 b14=>Q (.exit 0) [(3,.box (.agg [(.int .i64 i0),(.data l1),(.data l2)])),(5,.box (.agg [(.int .i64 i3),(.int .i64 i4)])),(6,.box (.agg [(.int .i64 i5),(.int .i64 i6)])),(9,.box (.agg [(.int .i64 i7),(.int .i64 i8)])),(10,.box (.agg [(.int .i64 i9),(.int .i64 i10)])),(42,.v (.data l11)),(43,.v (.int .i64 i12)),(44,.v (.int .i64 i13)),(45,.v (.bool b14))] [])
def ynt (a0:yap) (a1:ybS) (a2:yau) (a3:yac) (a4:yaf) (a5:yaf) (a6:yaf) (Q:Qx):List St:=[⟨(pS hN (fX 3 pt15 (fX 5 pt7 (fX 6 pt7 (fX 9 pt7 (fX 10 pt7 (fV 42 vD (fV 43 pt2 (fV 44 pt2 fN)))))))) fN),yaP a0 a1 a2 a3 a4 a5 a6 (yuV Q) (yuW Q)⟩]
def yqo (a0:yap) (a1:ybS) (a2:yau) (a3:yac) (a4:yaf) (a5:yaf) (a6:yaf):LP:=lpS [(85339800,ynt a0 a1 a2 a3 a4 a5 a6)]
def ykN (e:Es) (a0:yap) (a1:ybS) (a2:yau) (a3:yac) (a4:yaf) (a5:yaf) (a6:yaf):SE:=sE (E e) [(ydk,ykG.pw a0),(ye1,yz0.pw a1),(yeG,ysY.pw a2),(yd9,ykJ.pw a3),(yfW,yds.pw a4),(yd0,yds.pw a5),(yeH,yds.pw a6)] (yqo a0 a1 a2 a3 a4 a5 a6)
theorem yor (e:Es) (he:EG e):SEOk (Uni (E e)) (ykN e yaF ybT ycc ybR ybH ybg ybC):=yas (Sub.uni _) ⟨(yen e he),(ykL e he),(yio e he),(yhp e he),(yin e he),(ye6 e he),(ygo e he),trivial⟩ trivial he.ok
theorem ysZ (e:Es) (a0 a1 a2 a3 a4 a5 a6):ybM (ykN e a0 a1 a2 a3 a4 a5 a6) 5 a yq8 false (ynt a0 a1 a2 a3 a4 a5 a6):=fun _=>⟨fun _=>by kernel_rfl,fun _ _=>by kernel_rfl,trivial⟩
theorem ys0 (e:Es) (he:EG e):LpT (Uni (E e)) (yqo yaF ybT ycc ybR ybH ybg ybC) [] 85339800 (.loop 85339800 yq8):=fun _ _ _=>ysB.st (Sub.uni _) (yaD (yor e he) 5) (YOk.no _ _) (yam (by kernel_rfl)) (ysZ e _ _ _ _ _ _ _ _)
theorem yz3 (e:Es) (a0 a1 a2 a3 a4 a5 a6):EqW (ykN e a0 a1 a2 a3 a4 a5 a6) 6 ysL yhq (ykM a0 a1 a2 a3 a4 a5 a6):=fun _ _=>by kernel_rfl
theorem yqp (e:Es) (he:EG e):OkF (E e) (yhq.pw ye7) yig:=okU he (yz3 e _ _ _ _ _ _ _) (yor e he) ynm.flat (yaW (l:=[(85339800,.loop 85339800 yq8)]) ⟨ys0 e he,trivial⟩ (by kernel_rfl))
def ybo (a0:yap) (a1:ybS) (a2:yav) (a3:yac) (a4:yau) (a5:yaf) (a6:yaf) (a7:yaf) (a8:yaf) (x0:Int→Int→Int→Int→Int→Int→Prop) (x1:Int→Int→Int→Int→Int→Int→Ls→Ls→Int→Int→Ls→Int→Int→Bool→Prop):Nat→Int→Int→Int→Int→Int→Int→Ls→Ls→Int→Int→Ls→Int→Int→Prop
 | 0,_,_,_,_,_,_,_,_,_,_,_,_,_=>False
 | n+1,i0,i1,i2,i3,i4,i5,l6,l7,i8,i9,l10,i11,i12 =>
 (cbr (decide (i12<i11))
 (asr (decide ((0:Int)≤i12))
 (asr (decide (i12<(((List.length l10):Nat):Int)))
 (asr (conf zI (List.getD l10 (i12.toNat) .nils))
 (asr (decide ((0:Int)≤(IntKind.i64.wrap (i12+(1:Int)))))
 (asr (decide ((IntKind.i64.wrap (i12+(1:Int)))<(((List.length l6):Nat):Int)))
 (asr (conf zI (List.getD l6 ((IntKind.i64.wrap (i12+(1:Int))).toNat) .nils))
 (a3 (yaa (List.getD l6 ((IntKind.i64.wrap (i12+(1:Int))).toNat) .nils)) (fun a b =>
 (a4 i8 i9 a b (fun r =>
 (cbr (!r)
 (ybo a0 a1 a2 a3 a4 a5 a6 a7 a8 x0 x1 n i0 i1 i2 i3 i4 i5 l6 l7 i8 i9 l10 i11 (IntKind.i64.wrap (i12+(1:Int))))
 (a3 (0:Int) (fun i j =>
 (cbr (decide ((yaa (List.getD l10 (i12.toNat) .nils))>(0:Int)))
 (a5 a b i8 i9 (fun s t k =>
 (cbr (k !=(0:Int))
 (x0 i0 i1 i2 i3 i4 k)
 (a3 (yaa (List.getD l10 (i12.toNat) .nils)) (fun u v =>
 (a6 s t u v (fun l m o =>
 (cbr (o !=(0:Int))
 (x0 i0 i1 i2 i3 i4 o)
 (cbr ((yaa (List.getD l10 (i12.toNat) .nils)) ==(0:Int))
 (ybo a0 a1 a2 a3 a4 a5 a6 a7 a8 x0 x1 n i0 i1 i2 i3 i4 i5 l6 l7 a b l10 i11 (IntKind.i64.wrap (i12+(1:Int))))
 (a4 l m i0 i1 (fun w =>
 (cbr w
 (a5 i0 i1 l m (fun e f c =>
 (cbr (c !=(0:Int))
 (cbr (c !=(0:Int))
 (x0 e f i2 i3 c (0:Int))
 (ybo a0 a1 a2 a3 a4 a5 a6 a7 a8 x0 x1 n e f i2 i3 c i5 l6 l7 a b l10 i11 (IntKind.i64.wrap (i12+(1:Int)))))
 (cbr (c !=(0:Int))
 (x0 e f i2 i3 (6:Int) (0:Int))
 (ybo a0 a1 a2 a3 a4 a5 a6 a7 a8 x0 x1 n e f i2 i3 (6:Int) i5 l6 l7 a b l10 i11 (IntKind.i64.wrap (i12+(1:Int))))))))
 (a3 (yaa (List.getD l10 (i12.toNat) .nils)) (fun x y =>
 (a7 i0 i1 x y (fun z A p =>
 (cbr (p ==(0:Int))
 (a8 i8 i9 z A (fun B C D =>
 (x0 i0 i1 B C D (0:Int))))
 (x0 i0 i1 i2 i3 p (0:Int)))))))))))))))))))
 (cbr ((yaa (List.getD l10 (i12.toNat) .nils)) ==(0:Int))
 (ybo a0 a1 a2 a3 a4 a5 a6 a7 a8 x0 x1 n i0 i1 i2 i3 i4 i5 l6 l7 a b l10 i11 (IntKind.i64.wrap (i12+(1:Int))))
 (a4 i j i0 i1 (fun E =>
 (cbr E
 (a5 i0 i1 i j (fun g h d =>
 (cbr (d !=(0:Int))
 (cbr (d !=(0:Int))
 (x0 g h i2 i3 d (0:Int))
 (ybo a0 a1 a2 a3 a4 a5 a6 a7 a8 x0 x1 n g h i2 i3 d i5 l6 l7 a b l10 i11 (IntKind.i64.wrap (i12+(1:Int)))))
 (cbr (d !=(0:Int))
 (x0 g h i2 i3 (6:Int) (0:Int))
 (ybo a0 a1 a2 a3 a4 a5 a6 a7 a8 x0 x1 n g h i2 i3 (6:Int) i5 l6 l7 a b l10 i11 (IntKind.i64.wrap (i12+(1:Int))))))))
 (a3 (yaa (List.getD l10 (i12.toNat) .nils)) (fun F G =>
 (a7 i0 i1 F G (fun H I q =>
 (cbr (q ==(0:Int))
 (a8 i8 i9 H I (fun J K L =>
 (x0 i0 i1 J K L (0:Int))))
 (x0 i0 i1 i2 i3 q (0:Int)))))))))))))))))))))))))
 (x1 i0 i1 i2 i3 i4 i5 l6 l7 i8 i9 l10 i11 i12 false))
def ymz (a0:yap) (a1:ybS) (a2:yav) (a3:yac) (a4:yau) (a5:yaf) (a6:yaf) (a7:yaf) (a8:yaf) (p0:Int) (p1 p2:Ls) (p3 p4 p5 p6:Int) (K:Int→Int→Int→Prop):Prop :=
 (a0 p0 p1 p2 (fun b =>
 (cbr (b !=(0:Int))
 (K (0:Int) (0:Int) b)
 (a1 p0 p1 p2 p3 p4 (fun g =>
 (cbr (!g)
 (K (0:Int) (0:Int) (2:Int))
 (a2 p5 p6 (fun h =>
 (cbr (h !=(0:Int))
 (K (0:Int) (0:Int) (2:Int))
 (cbr (decide (p5<(0:Int)))
 (K (0:Int) (0:Int) (2:Int))
 (cbr (p5 ==(0:Int))
 (K p3 p4 (0:Int))
 (∃ n:Nat,ybo a0 a1 a2 a3 a4 a5 a6 a7 a8
 (fun _ _ c d e a=>(cbr (a !=(0:Int))
 (cbr (a !=(0:Int))
 (K (0:Int) (0:Int) a)
 (K c d (0:Int)))
 (cbr (e !=(0:Int))
 (K (0:Int) (0:Int) e)
 (K c d (0:Int)))))
 (fun _ _ i j f _ _ _ _ _ _ _ _ _=>(cbr (f !=(0:Int))
 (K (0:Int) (0:Int) f)
 (K i j (0:Int))))
 n p5 p6 (0:Int) (0:Int) (6:Int) p0 p1 p2 p3 p4 p2 (((List.length p2):Nat):Int) (0:Int)))))))))))))
def yf2:ybU:=ymz yaF ybT ybA ybR ycc ybH ybg ycx ybC
def ywG (Q:Qx):Int→Int→Int→Int→Int→Int→Prop:=(fun i0 i1 i2 i3 i4 i5=>Q .ret [(6,.v (.int .i64 i5))] [⟨false,true,2,([(.agg [(.int .i64 i0),(.int .i64 i1)])]:Ls)⟩,⟨false,true,2,([(.agg [(.int .i64 i2),(.int .i64 i3)])]:Ls)⟩,⟨false,true,1,([(.int .i64 i4)]:Ls)⟩])
def ywH (Q:Qx):Int→Int→Int→Int→Int→Int→Ls→Ls→Int→Int→Ls→Int→Int→Bool→Prop:=(fun i0 i1 i2 i3 i4 i5 l6 l7 i8 i9 l10 i11 i12 b13=>Q (.exit 0) [(2,.v (.fn (.func yfo) [] [(.ptr 0 1 0 0),(.ptr 2 1 0 0),(.ptr 1 1 0 0)])),(3,.box (.agg [(.int .i64 i5),(.data l6),(.data l7)])),(4,.box (.agg [(.int .i64 i8),(.int .i64 i9)])),(14,.v (.data l10)),(15,.v (.int .i64 i11)),(16,.v (.int .i64 i12)),(17,.v (.bool b13))] [⟨false,true,2,([(.agg [(.int .i64 i0),(.int .i64 i1)])]:Ls)⟩,⟨false,true,2,([(.agg [(.int .i64 i2),(.int .i64 i3)])]:Ls)⟩,⟨false,true,1,([(.int .i64 i4)]:Ls)⟩])
def yos (a0:yap) (a1:ybS) (a2:yav) (a3:yac) (a4:yau) (a5:yaf) (a6:yaf) (a7:yaf) (a8:yaf) (Q:Qx):List St:=[⟨(pS (hB false true 2 (rC pt7 rN) (hB false true 2 (rC pt7 rN) (hB false true 1 (rC pt2 rN) hN))) (fV 2 (vF yfo lN (lC (vP 0 0 (nK 1) (nK 0)) (lC (vP 2 0 (nK 1) (nK 0)) (lC (vP 1 0 (nK 1) (nK 0)) lN)))) (fX 3 pt15 (fX 4 pt7 pt17))) fN),ybo a0 a1 a2 a3 a4 a5 a6 a7 a8 (ywG Q) (ywH Q)⟩]
def ymA (a0:yap) (a1:ybS) (a2:yav) (a3:yac) (a4:yau) (a5:yaf) (a6:yaf) (a7:yaf) (a8:yaf):LP:=lpS [(41613500,yos a0 a1 a2 a3 a4 a5 a6 a7 a8)]
def ys1 (e:Es) (a0:yap) (a1:ybS) (a2:yav) (a3:yac) (a4:yau) (a5:yaf) (a6:yaf) (a7:yaf) (a8:yaf):SE:=⟨(E e),yh1 [(ydk,ykG.pw a0),(ye1,yz0.pw a1),(ydA,yoe.pw a2),(yd9,ykJ.pw a3),(yeG,ysY.pw a4),(yfW,yds.pw a5),(yd0,yds.pw a6),(yhz,yds.pw a7),(yeH,yds.pw a8)],yh2 [(yfo,yqb)],ymA a0 a1 a2 a3 a4 a5 a6 a7 a8,fun _=>none⟩
def ys2 (e:Es) (a0:yap) (a1:ybS) (a2:yav) (a3:yac) (a4:yau) (a5:yaf) (a6:yaf) (a7:yaf) (a8:yaf):SE:=⟨(E e),yh1 [(ydk,ykG.pw a0),(ye1,yz0.pw a1),(ydA,yoe.pw a2),(yd9,ykJ.pw a3),(yeG,ysY.pw a4),(yfW,yds.pw a5),(yd0,yds.pw a6),(yhz,yds.pw a7),(yeH,yds.pw a8)],yh2 [(yv1,yv4),(yfo,yqb)],ymA a0 a1 a2 a3 a4 a5 a6 a7 a8,fun _=>none⟩
theorem yz4 (e:Es) (he:EG e):SEOk (Uni (E e)) (ys1 e yaF ybT ybA ybR ycc ybH ybg ycx ybC):=yas (Sub.uni _) ⟨(yen e he),(ykL e he),(yeJ e he),(yhp e he),(yio e he),(yin e he),(ye6 e he),(ymw e he),(ygo e he),trivial⟩ ⟨⟨by kernel_rfl,by kernel_rfl,rfl,fun az=>ybs (by kernel_rfl) az,he.num _ (by kernel_rfl),by kernel_rfl,(yam (by kernel_rfl))⟩,trivial⟩ he.ok
theorem yuX (e:Es) (a0 a1 a2 a3 a4 a5 a6 a7 a8):ybM (ys1 e a0 a1 a2 a3 a4 a5 a6 a7 a8) 5 a yra false (yos a0 a1 a2 a3 a4 a5 a6 a7 a8):=fun _=>⟨fun _=>by kernel_rfl,fun _ _=>by kernel_rfl,trivial⟩
theorem yuY (e:Es) (he:EG e):LpT (Uni (E e)) (ymA yaF ybT ybA ybR ycc ybH ybg ycx ybC) [] 41613500 (.loop 41613500 yra):=fun _ _ _=>ysB.st (Sub.uni _) (yaD (yz4 e he) 5) (YOk.no _ _) (yam (by kernel_rfl)) (yuX e _ _ _ _ _ _ _ _ _ _)
theorem yz5 (e:Es) (he:EG e):SEOk (Uni (E e)) (ys2 e yaF ybT ybA ybR ycc ybH ybg ycx ybC):=yas (Sub.uni _) ⟨(yen e he),(ykL e he),(yeJ e he),(yhp e he),(yio e he),(yin e he),(ye6 e he),(ymw e he),(ygo e he),trivial⟩ ⟨⟨by kernel_rfl,by kernel_rfl,rfl,fun az=>ybs (by kernel_rfl) az,he.num _ (by kernel_rfl),by kernel_rfl,(yaW (l:=[(41613500,.loop 41613500 yra)]) ⟨yuY e he,trivial⟩ (by kernel_rfl))⟩,⟨by kernel_rfl,by kernel_rfl,rfl,fun az=>ybs (by kernel_rfl) az,he.num _ (by kernel_rfl),by kernel_rfl,(yam (by kernel_rfl))⟩,trivial⟩ he.ok
theorem yCd (e:Es) (a0 a1 a2 a3 a4 a5 a6 a7 a8):EqW (ys2 e a0 a1 a2 a3 a4 a5 a6 a7 a8) 6 yEd yhq (ymz a0 a1 a2 a3 a4 a5 a6 a7 a8):=fun _ _=>by kernel_rfl
theorem ys3 (e:Es) (he:EG e):OkF (E e) (yhq.pw yf2) yjT:=okU he (yCd e _ _ _ _ _ _ _ _ _) (yz5 e he) ynm.flat (yam (by kernel_rfl))
set_option linter.unusedVariables false
theorem yyJ (p0:Int) (p1:Ls) (p2:Ls) (r0:Int) (h:∀ K:Int→Prop,K r0→yaF p0 p1 p2 K) (K:Int→Prop):yaF p0 p1 p2 K=K r0 :=
 propext ⟨fun k=>detC (yen [] ya1) (az:=[(.agg [(.int .i64 p0),(.data p1),(.data p2)])]) (x:=(.int .i64 r0)) (fun K' k'=>h (fun r0=>K' (.int .i64 r0)) k') (K:=fun x=>match x with | (.int .i64 r0)=>K r0 | _=>False) k,h K⟩
theorem yyK (p0:Int) (p1:Ls) (p2:Ls) (r0:Int) (r1:Int) (h:∀ K:Int→Int→Prop,K r0 r1→yee p0 p1 p2 K) (K:Int→Int→Prop):yee p0 p1 p2 K=K r0 r1 :=
 propext ⟨fun k=>detC (yqm [] ya1) (az:=[(.agg [(.int .i64 p0),(.data p1),(.data p2)])]) (x:=(.tup [(.int .i64 r0),(.int .i64 r1)])) (fun K' k'=>h (fun r0 r1=>K' (.tup [(.int .i64 r0),(.int .i64 r1)])) k') (K:=fun x=>match x with | (.tup [(.int .i64 r0),(.int .i64 r1)])=>K r0 r1 | _=>False) k,h K⟩
theorem yyL (p0:Int) (p1:Ls) (p2:Ls) (p3:Int) (p4:Int) (p5:Int) (p6:Int) (r0:Int) (r1:Int) (r2:Int) (h:∀ K:Int→Int→Int→Prop,K r0 r1 r2→ye7 p0 p1 p2 p3 p4 p5 p6 K) (K:Int→Int→Int→Prop):ye7 p0 p1 p2 p3 p4 p5 p6 K=K r0 r1 r2 :=
 propext ⟨fun k=>detC (yqp [] ya1) (az:=[(.agg [(.int .i64 p0),(.data p1),(.data p2)]),(.agg [(.int .i64 p3),(.int .i64 p4)]),(.agg [(.int .i64 p5),(.int .i64 p6)])]) (x:=(.tup [(.agg [(.int .i64 r0),(.int .i64 r1)]),(.int .i64 r2)])) (fun K' k'=>h (fun r0 r1 r2=>K' (.tup [(.agg [(.int .i64 r0),(.int .i64 r1)]),(.int .i64 r2)])) k') (K:=fun x=>match x with | (.tup [(.agg [(.int .i64 r0),(.int .i64 r1)]),(.int .i64 r2)])=>K r0 r1 r2 | _=>False) k,h K⟩
theorem yz6 (p0:Int) (p1:Ls) (p2:Ls) (p3:Int) (p4:Int) (p5:Int) (p6:Int) (r0:Int) (r1:Int) (r2:Int) (h:∀ K:Int→Int→Int→Prop,K r0 r1 r2→yf2 p0 p1 p2 p3 p4 p5 p6 K) (K:Int→Int→Int→Prop):yf2 p0 p1 p2 p3 p4 p5 p6 K=K r0 r1 r2 :=
 propext ⟨fun k=>detC (ys3 [] ya1) (az:=[(.agg [(.int .i64 p0),(.data p1),(.data p2)]),(.agg [(.int .i64 p3),(.int .i64 p4)]),(.agg [(.int .i64 p5),(.int .i64 p6)])]) (x:=(.tup [(.agg [(.int .i64 r0),(.int .i64 r1)]),(.int .i64 r2)])) (fun K' k'=>h (fun r0 r1 r2=>K' (.tup [(.agg [(.int .i64 r0),(.int .i64 r1)]),(.int .i64 r2)])) k') (K:=fun x=>match x with | (.tup [(.agg [(.int .i64 r0),(.int .i64 r1)]),(.int .i64 r2)])=>K r0 r1 r2 | _=>False) k,h K⟩
abbrev yan:Type:=Ls→Ls→(Int→Prop)→Prop
def ydc (a0:yap) (a:Int→Prop) (b:Ls→Ls→Ls→Int→Int→Bool→Prop):Nat→Ls→Ls→Ls→Int→Int→Prop
 | 0,_,_,_,_,_=>False
 | d+1,l0,l1,l2,i3,i4 =>
 (cbr (decide (i4<i3))
 (asr (decide ((0:Int)≤i4))
 (asr (decide (i4<(((List.length l2):Nat):Int)))
 (asr (conf zK (List.getD l2 (i4.toNat) .nils))
 (a0 (yaa (yab (List.getD l2 (i4.toNat) .nils) 0)) (yaX (yab (List.getD l2 (i4.toNat) .nils) 1)) (yaX (yab (List.getD l2 (i4.toNat) .nils) 2)) (fun c =>
 (cbr (c !=(0:Int))
 (a c)
 (ydc a0 a b d l0 l1 l2 i3 (IntKind.i64.wrap (i4+(1:Int))))))))))
 (b l0 l1 l2 i3 i4 false))
def ycJ (a0:yap) (a:Int→Prop) (b:Ls→Ls→Ls→Int→Int→Bool→Prop):Nat→Ls→Ls→Ls→Int→Int→Prop
 | 0,_,_,_,_,_=>False
 | c+1,l0,l1,l2,i3,i4 =>
 (cbr (decide (i4<i3))
 (asr (decide ((0:Int)≤i4))
 (asr (decide (i4<(((List.length l2):Nat):Int)))
 (asr (conf zK (List.getD l2 (i4.toNat) .nils))
 (asr (decide ((0:Int)<(((List.length l0):Nat):Int)))
 (asr (conf zK (List.getD l0 0 .nils))
 (cbr ((yaa (yab (List.getD l2 (i4.toNat) .nils) 0)) !=(yaa (yab (List.getD l0 0 .nils) 0)))
 (a (8:Int))
 (ycJ a0 a b c l0 l1 l2 i3 (IntKind.i64.wrap (i4+(1:Int))))))))))
 (b l0 l1 l2 i3 i4 false))
def ymB (a0:yap) (p0 p1:Ls) (K:Int→Prop):Prop :=
 (cbr (decide ((((List.length p0):Nat):Int)>(6:Int)))
 (K (4:Int))
 (cbr (decide ((((List.length p1):Nat):Int)>(2000:Int)))
 (K (4:Int))
 (cbr ((((List.length p0):Nat):Int) ==(0:Int))
 (K (8:Int))
 (∃ b:Nat,ydc a0
 (fun c=>(K c))
 (fun a d g h i j=>(∃ e:Nat,ycJ a0
 (fun f=>(K f))
 (fun k l m n o p=>(K (0:Int)))
 e a d a (((List.length a):Nat):Int) (0:Int)))
 b p0 p1 p0 (((List.length p0):Nat):Int) (0:Int)))))
def yaU:yan:=ymB yaF
def pt19:VPt:=vA (lC vD pt9)
def ys4:Sg:=⟨(lC pt19 lN),Int→Prop,fun K=>(fun r0=>K (.int .i64 r0))⟩
def ywI (Q:Qx):Int→Prop:=(fun i0=>Q .ret [(2,.v (.int .i64 i0))] [])
def ywJ (Q:Qx):Ls→Ls→Ls→Int→Int→Bool→Prop:=(fun l0 l1 l2 i3 i4 b5=>Q (.exit 0) [(1,.box (.agg [(.data l0),(.data l1)])),(23,.v (.data l2)),(24,.v (.int .i64 i3)),(25,.v (.int .i64 i4)),(26,.v (.bool b5))] [])
def ywK (Q:Qx):Int→Prop:=(fun i0=>Q .ret [(2,.v (.int .i64 i0))] [])
def ywL (Q:Qx):Ls→Ls→Ls→Int→Int→Bool→Prop:=(fun l0 l1 l2 i3 i4 b5=>Q (.exit 2) [(1,.box (.agg [(.data l0),(.data l1)])),(36,.v (.data l2)),(37,.v (.int .i64 i3)),(38,.v (.int .i64 i4)),(39,.v (.bool b5))] [])
def yot (a0:yap) (Q:Qx):List St:=[⟨(pS hN (fX 1 pt19 (fV 23 vD (fV 24 pt2 (fV 25 pt2 fN)))) fN),ydc a0 (ywI Q) (ywJ Q)⟩]
def you (a0:yap) (Q:Qx):List St:=[⟨(pS hN (fX 1 pt19 (fV 36 vD (fV 37 pt2 (fV 38 pt2 fN)))) fN),ycJ a0 (ywK Q) (ywL Q)⟩]
def ymC (a0:yap):LP:=lpS [(12157600,yot a0),(12157601,you a0)]
def yip (e:Es) (a0:yap):SE:=sE (E e) [(ydk,ykG.pw a0)] (ymC a0)
theorem ykO (e:Es) (he:EG e):SEOk (Uni (E e)) (yip e yaF):=yas (Sub.uni _) ⟨(yen e he),trivial⟩ trivial he.ok
theorem yuZ (e:Es) (a0):ybM (yip e a0) 5 a yqX false (yot a0):=fun _=>⟨fun _=>by kernel_rfl,fun _ _=>by kernel_rfl,trivial⟩
theorem yu0 (e:Es) (he:EG e):LpT (Uni (E e)) (ymC yaF) [] 12157600 (.loop 12157600 yqX):=fun _ _ _=>ysB.st (Sub.uni _) (yaD (ykO e he) 5) (YOk.no _ _) (yam (by kernel_rfl)) (yuZ e _ _)
theorem yu1 (e:Es) (a0):ybM (yip e a0) 5 a yqY false (you a0):=fun _=>⟨fun _=>by kernel_rfl,fun _ _=>by kernel_rfl,trivial⟩
theorem yu2 (e:Es) (he:EG e):LpT (Uni (E e)) (ymC yaF) [] 12157601 (.loop 12157601 yqY):=fun _ _ _=>ysB.st (Sub.uni _) (yaD (ykO e he) 5) (YOk.no _ _) (yam (by kernel_rfl)) (yu1 e _ _)
theorem yCe (e:Es) (a0):EqW (yip e a0) 6 yn7 ys4 (ymB a0):=fun _ _=>by kernel_rfl
theorem ydt (e:Es) (he:EG e):OkF (E e) (ys4.pw yaU) ycQ:=okU he (yCe e _) (ykO e he) ynm.flat (yaW (l:=[(12157600,.loop 12157600 yqX),(12157601,.loop 12157601 yqY)]) ⟨yu0 e he,yu2 e he,trivial⟩ (by kernel_rfl))
abbrev ybt:Type:=Ls→(Ls→Prop)→Prop
mutual
def ye8 (a0:ycH) (x0:Ls→Ls→Int→Int→Bool→Prop) (x1:Ls→Int→Int→Bool→Prop):Nat→Ls→Int→Int→Prop
 | 0,_,_,_=>False
 | n+1,l0,i1,i2 =>
 (cbr (decide (i2<i1))
 (asr (decide ((0:Int)≤i2))
 (asr (decide (i2<(((List.length l0):Nat):Int)))
 (asr (conf zK (List.getD l0 (i2.toNat) .nils))
 (a0 (yaX (yab (List.getD l0 (i2.toNat) .nils) 1)) (fun a =>
 (a0 (yaX (yab (List.getD l0 (i2.toNat) .nils) 2)) (fun b =>
 (asr (decide (1=List.length ([(.agg [(.int .i64 (yaa (yab (List.getD l0 (i2.toNat) .nils) 0))),(.data a),(.data b)])]:Ls))&&decide (1=List.length ([(.agg [(.int .i64 (yaa (yab (List.getD l0 (i2.toNat) .nils) 0))),(.data a),(.data b)])]:Ls)))
 (yc1 a0 x0 x1 n ([(.agg [(.int .i64 (yaa (yab (List.getD l0 (i2.toNat) .nils) 0))),(.data a),(.data b)])]:Ls) l0 i1 (IntKind.i64.wrap (i2+(1:Int))))))))))))
 (x1 l0 i1 i2 false))
def yc1 (a0:ycH) (x0:Ls→Ls→Int→Int→Bool→Prop) (x1:Ls→Int→Int→Bool→Prop):Nat→Ls→Ls→Int→Int→Prop
 | 0,_,_,_,_=>False
 | n+1,l0,l3,i4,i5 =>
 (cbr (decide (i5<i4))
 (asr (decide ((0:Int)≤i5))
 (asr (decide (i5<(((List.length l3):Nat):Int)))
 (asr (conf zK (List.getD l3 (i5.toNat) .nils))
 (a0 (yaX (yab (List.getD l3 (i5.toNat) .nils) 1)) (fun a =>
 (a0 (yaX (yab (List.getD l3 (i5.toNat) .nils) 2)) (fun b =>
 (asr (decide ((List.length l0)=(List.length l0)))
 (asr (decide ((0+(List.length l0))≤(List.length l0)))
 (asr (!(decide (((0+(List.length l0))+1)≤(List.length l0))))
 (asr (decide ((List.length l0)=(List.length l0)))
 (asr (decide ((((List.length l0)+1)+64)*(56+1)≤room))
 (asr (decide ((List.length (l0++([(.agg [(.int .i64 (yaa (yab (List.getD l3 (i5.toNat) .nils) 0))),(.data a),(.data b)])]:Ls)))=List.length (l0++([(.agg [(.int .i64 (yaa (yab (List.getD l3 (i5.toNat) .nils) 0))),(.data a),(.data b)])]:Ls)))&&decide ((List.length (l0++([(.agg [(.int .i64 (yaa (yab (List.getD l3 (i5.toNat) .nils) 0))),(.data a),(.data b)])]:Ls)))=List.length (l0++([(.agg [(.int .i64 (yaa (yab (List.getD l3 (i5.toNat) .nils) 0))),(.data a),(.data b)])]:Ls))))
 (yc1 a0 x0 x1 n (l0++([(.agg [(.int .i64 (yaa (yab (List.getD l3 (i5.toNat) .nils) 0))),(.data a),(.data b)])]:Ls)) l3 i4 (IntKind.i64.wrap (i5+(1:Int)))))))))))))))))
 (x0 l0 l3 i4 i5 false))
end
def ykP (a0:ycH) (p0:Ls) (K:Ls→Prop):Prop :=
 (∃ n:Nat,ye8 a0
 (fun a b c d e=>(asr (decide ((List.length a)=(List.length a)))
 (asr (decide ((0+(List.length a))≤(List.length a)))
 (K (List.take (List.length a) a)))))
 (fun f g h i=>(K ([]:Ls)))
 n p0 (((List.length p0):Nat):Int) (0:Int))
def ydu:ybt:=ykP ydo
def ykQ:Sg:=⟨pt9,Ls→Prop,fun K=>(fun r0=>K (.data r0))⟩
def ylo (Q:Qx):Ls→Ls→Int→Int→Bool→Prop:=(fun l0 l3 i4 i5 b6=>Q (.exit 0) [(3,.v (.own 0 0 (List.length l0) (List.length l0) none)),(6,.v (.data l3)),(7,.v (.int .i64 i4)),(8,.v (.int .i64 i5)),(9,.v (.bool b6))] [⟨false,true,3,l0⟩])
def ylp (Q:Qx):Ls→Int→Int→Bool→Prop:=(fun l0 i1 i2 b3=>Q (.exit 0) [(3,.v .nils),(6,.v (.data l0)),(7,.v (.int .i64 i1)),(8,.v (.int .i64 i2)),(9,.v (.bool b3))] [])
def pt20:HPt:=hB false true 3 rA hN
def pt21:VPt:=vW 0 (nK 0) (nT 0) (nT 0)
def ynu (a0:ycH) (Q:Qx):List St:=[⟨(pS hN (fV 3 vNs pt11) fN),ye8 a0 (ylo Q) (ylp Q)⟩,⟨(pS pt20 (fV 3 pt21 pt11) fN),yc1 a0 (ylo Q) (ylp Q)⟩]
def yqq (a0:ycH):LP:=lpS [(94933800,ynu a0)]
def ykR (e:Es) (a0:ycH):SE:=sE (E e) [(ydl,yrq a0)] (yqq a0)
theorem yov (e:Es) (he:EG e):SEOk (Uni (E e)) (ykR e ydo):=yas (Sub.uni _) ⟨(yrs e he),trivial⟩ trivial he.ok
theorem ys5 (e:Es) (a0):ybM (ykR e a0) 5 a yqZ false (ynu a0):=fun _=>⟨fun _=>by kernel_rfl,fun _ _=>by kernel_rfl,fun _=>by kernel_rfl,fun _ _=>by kernel_rfl,trivial⟩
theorem ys6 (e:Es) (he:EG e):LpT (Uni (E e)) (yqq ydo) [] 94933800 (.loop 94933800 yqZ):=fun _ _ _=>ysB.st (Sub.uni _) (yaD (yov e he) 5) (YOk.no _ _) (yam (by kernel_rfl)) (ys5 e _ _)
theorem yz7 (e:Es) (a0):EqW (ykR e a0) 6 ysH ykQ (ykP a0):=fun _ _=>by kernel_rfl
theorem yhr (e:Es) (he:EG e):OkF (E e) (ykQ.pw ydu) yeZ:=okU he (yz7 e _) (yov e he) ynm.flat (yaW (l:=[(94933800,.loop 94933800 yqZ)]) ⟨ys6 e he,trivial⟩ (by kernel_rfl))
abbrev yaZ:Type:=Ls→(Ls→Ls→Int→Prop)→Prop
def yow (a0:yan) (a1:ybt) (p0:Ls) (K:Ls→Ls→Int→Prop):Prop :=
 (a0 p0 ([]:Ls) (fun a =>
 (cbr (a !=(0:Int))
 (K ([]:Ls) ([]:Ls) a)
 (a1 p0 (fun b =>
 (K b ([]:Ls) (0:Int)))))))
def yfJ:yaZ:=yow yaU ydu
def ywa:Sg:=⟨pt9,Ls→Ls→Int→Prop,fun K=>(fun r0 r1 r2=>K (.tup [(.agg [(.data r0),(.data r1)]),(.int .i64 r2)]))⟩
def yEq (e:Es) (a0:yan) (a1:ybt):SE:=sE (E e) [(ycQ,ys4.pw a0),(yeZ,ykQ.pw a1)] lp0
theorem yEr (e:Es) (a0 a1):EqW (yEq e a0 a1) 6 yF1 ywa (yow a0 a1):=fun _ _=>by kernel_rfl
theorem yEs (e:Es) (he:EG e):OkF (E e) (ywa.pw yfJ) ylY:=okU he (yEr e _ _) (yas (Sub.uni _) ⟨(ydt e he),(yhr e he),trivial⟩ trivial he.ok) ynm.flat (yam (by kernel_rfl))
abbrev ybB:Type:=Ls→Ls→Int→(Bool→Prop)→Prop
def ygp (p0 p1:Ls) (p2:Int) (K:Bool→Prop):Prop :=
 (cbr (decide (p2≥(0:Int)))
 (K (decide (p2<(((List.length p0):Nat):Int))))
 (K false))
def yc2:ybB:=ygp
def yj6:Sg:=⟨(lC pt19 pt3),Bool→Prop,fun K=>(fun r0=>K (.bool r0))⟩
def ys7 (e:Es):SE:=sE (E e) [] lp0
theorem ys8 (e:Es):EqW (ys7 e) 6 yuB yj6 ygp:=fun _ _=>by kernel_rfl
theorem ygq (e:Es) (he:EG e):OkF (E e) (yj6.pw yc2) ycX:=okU he (ys8 e) (yas (Sub.uni _) trivial trivial he.ok) ynm.flat (yam (by kernel_rfl))
abbrev yox:Type:=Ls→Ls→Int→(Int→Int→Prop)→Prop
def ymD (a0:yan) (a1:ybB) (a2:ymx) (p0 p1:Ls) (p2:Int) (K:Int→Int→Prop):Prop :=
 (a0 p0 p1 (fun b =>
 (cbr (b !=(0:Int))
 (K (0:Int) b)
 (a1 p0 p1 p2 (fun c =>
 (cbr (!c)
 (K (0:Int) (2:Int))
 (asr (decide ((0:Int)≤p2))
 (asr (decide (p2<(((List.length p0):Nat):Int)))
 (lt (List.getD p0 (p2.toNat) .nils) (fun a =>
 (asr (conf zK a)
 (a2 (yaa (yab a 0)) (yaX (yab a 1)) (yaX (yab a 2)) (fun d e =>
 (K d e))))))))))))))
def yhI:yox:=ymD yaU yc2 yee
def yCf:Sg:=⟨(lC pt19 pt3),Int→Int→Prop,fun K=>(fun r0 r1=>K (.tup [(.int .i64 r0),(.int .i64 r1)]))⟩
def yCg (e:Es) (a0:yan) (a1:ybB) (a2:ymx):SE:=sE (E e) [(ycQ,ys4.pw a0),(ycX,yj6.pw a1),(yif,yzW.pw a2)] lp0
theorem yCh (e:Es) (a0 a1 a2):EqW (yCg e a0 a1 a2) 6 yD6 yCf (ymD a0 a1 a2):=fun _ _=>by kernel_rfl
theorem yCi (e:Es) (he:EG e):OkF (E e) (yCf.pw yhI) yjR:=okU he (yCh e _ _ _) (yas (Sub.uni _) ⟨(ydt e he),(ygq e he),(yqm e he),trivial⟩ trivial he.ok) ynm.flat (yam (by kernel_rfl))
abbrev ycv:Type:=Ls→Ls→Int→Int→Int→Int→Int→(Int→Int→Int→Prop)→Prop
def yfj (a0:ybU) (p0 p1:Ls) (p2 p3 p4 p5 p6:Int) (K:Int→Int→Int→Prop):Prop :=
 (asr (decide ((0:Int)≤p2))
 (asr (decide (p2<(((List.length p0):Nat):Int)))
 (asr (conf zK (List.getD p0 (p2.toNat) .nils))
 (a0 (yaa (yab (List.getD p0 (p2.toNat) .nils) 0)) (yaX (yab (List.getD p0 (p2.toNat) .nils) 1)) (yaX (yab (List.getD p0 (p2.toNat) .nils) 2)) p3 p4 p5 p6 (fun a b c =>
 (K a b c))))))
def yfK:ycv:=yfj ye7
def pt22:LPt:=lC pt19 (lC pt2 pt12)
def yh4:Sg:=⟨pt22,Int→Int→Int→Prop,fun K=>(fun r0 r1 r2=>K (.tup [(.agg [(.int .i64 r0),(.int .i64 r1)]),(.int .i64 r2)]))⟩
def ypQ (e:Es) (a0:ybU):SE:=sE (E e) [(yig,yhq.pw a0)] lp0
theorem ypR (e:Es) (a0):EqW (ypQ e a0) 6 yq9 yh4 (yfj a0):=fun _ _=>by kernel_rfl
theorem ypS (e:Es) (he:EG e):OkF (E e) (yh4.pw yfK) yeb:=okU he (ypR e _) (yas (Sub.uni _) ⟨(yqp e he),trivial⟩ trivial he.ok) ynm.flat (yam (by kernel_rfl))
abbrev yaO:Type:=Ls→Ls→Int→Int→Int→Int→Int→(Ls→Ls→Int→Int→Int→Prop)→Prop
def ymE (a0:yan) (a1:ybB) (a2:ycv) (a3:ybt) (p0 p1:Ls) (p2 p3 p4 p5 p6:Int) (K:Ls→Ls→Int→Int→Int→Prop):Prop :=
 (a0 p0 p1 (fun c =>
 (cbr (c !=(0:Int))
 (K ([]:Ls) ([]:Ls) (0:Int) (0:Int) c)
 (a1 p0 p1 p2 (fun f =>
 (cbr (!f)
 (K ([]:Ls) ([]:Ls) (0:Int) (0:Int) (2:Int))
 (a2 p0 p1 p2 p3 p4 p5 p6 (fun a b d =>
 (cbr (d !=(0:Int))
 (K ([]:Ls) ([]:Ls) (0:Int) (0:Int) d)
 (cbr (decide ((((List.length p1):Nat):Int)≥(2000:Int)))
 (K ([]:Ls) ([]:Ls) (0:Int) (0:Int) (4:Int))
 (asr (decide ((0:Int)≤(IntKind.i64.wrap ((((List.length p1):Nat):Int)+(1:Int)))))
 (asr (decide ((((IntKind.i64.wrap ((((List.length p1):Nat):Int)+(1:Int))).toNat)+64)*(64+1)≤room))
 (a3 p0 (fun e =>
 (asr (ycj 8 p1)
 (asr (decide ((List.length (List.replicate ((IntKind.i64.wrap ((((List.length p1):Nat):Int)+(1:Int))).toNat) ((.agg [(.int .i64 (0)),(.int .u8 (0)),(.int .i64 (0)),(.int .i64 (0)),(.int .i64 (0)),(.int .i64 (0)),(.int .i64 (0)),(.int .i64 (0))]):PV)))=((IntKind.i64.wrap ((((List.length p1):Nat):Int)+(1:Int))).toNat)))
 (asr (decide (0≤((IntKind.i64.wrap ((((List.length p1):Nat):Int)+(1:Int))).toNat)))
 (cbr (List.isEmpty p1)
 (asr (decide ((List.length (List.replicate ((IntKind.i64.wrap ((((List.length p1):Nat):Int)+(1:Int))).toNat) ((.agg [(.int .i64 (0)),(.int .u8 (0)),(.int .i64 (0)),(.int .i64 (0)),(.int .i64 (0)),(.int .i64 (0)),(.int .i64 (0)),(.int .i64 (0))]):PV)))=((IntKind.i64.wrap ((((List.length p1):Nat):Int)+(1:Int))).toNat)))
 (asr (decide (0≤((IntKind.i64.wrap ((((List.length p1):Nat):Int)+(1:Int))).toNat)))
 (asr (decide (1≤((IntKind.i64.wrap ((((List.length p1):Nat):Int)+(1:Int))).toNat)))
 (asr (decide ((List.length (([(.agg [(.int .i64 p2),(.int .u8 (1:Int)),(.int .i64 p3),(.int .i64 p4),(.int .i64 p5),(.int .i64 p6),(.int .i64 a),(.int .i64 b)])]:Ls)++(List.drop 1 (List.replicate ((IntKind.i64.wrap ((((List.length p1):Nat):Int)+(1:Int))).toNat) ((.agg [(.int .i64 (0)),(.int .u8 (0)),(.int .i64 (0)),(.int .i64 (0)),(.int .i64 (0)),(.int .i64 (0)),(.int .i64 (0)),(.int .i64 (0))]):PV)))))=((IntKind.i64.wrap ((((List.length p1):Nat):Int)+(1:Int))).toNat)))
 (asr (decide (1≤((IntKind.i64.wrap ((((List.length p1):Nat):Int)+(1:Int))).toNat)))
 (K e (List.take 1 (([(.agg [(.int .i64 p2),(.int .u8 (1:Int)),(.int .i64 p3),(.int .i64 p4),(.int .i64 p5),(.int .i64 p6),(.int .i64 a),(.int .i64 b)])]:Ls)++(List.drop 1 (List.replicate ((IntKind.i64.wrap ((((List.length p1):Nat):Int)+(1:Int))).toNat) ((.agg [(.int .i64 (0)),(.int .u8 (0)),(.int .i64 (0)),(.int .i64 (0)),(.int .i64 (0)),(.int .i64 (0)),(.int .i64 (0)),(.int .i64 (0))]):PV))))) a b (0:Int)))))))
 (asr (decide ((0+(List.length p1))≤((IntKind.i64.wrap ((((List.length p1):Nat):Int)+(1:Int))).toNat)))
 (asr (decide ((List.length (p1++(List.drop (0+(List.length p1)) (List.replicate ((IntKind.i64.wrap ((((List.length p1):Nat):Int)+(1:Int))).toNat) ((.agg [(.int .i64 (0)),(.int .u8 (0)),(.int .i64 (0)),(.int .i64 (0)),(.int .i64 (0)),(.int .i64 (0)),(.int .i64 (0)),(.int .i64 (0))]):PV)))))=((IntKind.i64.wrap ((((List.length p1):Nat):Int)+(1:Int))).toNat)))
 (asr (decide ((0+(0+(List.length p1)))≤((IntKind.i64.wrap ((((List.length p1):Nat):Int)+(1:Int))).toNat)))
 (asr (decide (((0+(List.length p1))+1)≤((IntKind.i64.wrap ((((List.length p1):Nat):Int)+(1:Int))).toNat)))
 (asr (decide ((List.length ((List.take (0+(0+(List.length p1))) (p1++(List.drop (0+(List.length p1)) (List.replicate ((IntKind.i64.wrap ((((List.length p1):Nat):Int)+(1:Int))).toNat) ((.agg [(.int .i64 (0)),(.int .u8 (0)),(.int .i64 (0)),(.int .i64 (0)),(.int .i64 (0)),(.int .i64 (0)),(.int .i64 (0)),(.int .i64 (0))]):PV)))))++(([(.agg [(.int .i64 p2),(.int .u8 (1:Int)),(.int .i64 p3),(.int .i64 p4),(.int .i64 p5),(.int .i64 p6),(.int .i64 a),(.int .i64 b)])]:Ls)++(List.drop ((0+(0+(List.length p1)))+1) (p1++(List.drop (0+(List.length p1)) (List.replicate ((IntKind.i64.wrap ((((List.length p1):Nat):Int)+(1:Int))).toNat) ((.agg [(.int .i64 (0)),(.int .u8 (0)),(.int .i64 (0)),(.int .i64 (0)),(.int .i64 (0)),(.int .i64 (0)),(.int .i64 (0)),(.int .i64 (0))]):PV))))))))=((IntKind.i64.wrap ((((List.length p1):Nat):Int)+(1:Int))).toNat)))
 (asr (decide ((0+((0+(List.length p1))+1))≤((IntKind.i64.wrap ((((List.length p1):Nat):Int)+(1:Int))).toNat)))
 (K e (List.take ((0+(List.length p1))+1) ((List.take (0+(0+(List.length p1))) (p1++(List.drop (0+(List.length p1)) (List.replicate ((IntKind.i64.wrap ((((List.length p1):Nat):Int)+(1:Int))).toNat) ((.agg [(.int .i64 (0)),(.int .u8 (0)),(.int .i64 (0)),(.int .i64 (0)),(.int .i64 (0)),(.int .i64 (0)),(.int .i64 (0)),(.int .i64 (0))]):PV)))))++(([(.agg [(.int .i64 p2),(.int .u8 (1:Int)),(.int .i64 p3),(.int .i64 p4),(.int .i64 p5),(.int .i64 p6),(.int .i64 a),(.int .i64 b)])]:Ls)++(List.drop ((0+(0+(List.length p1)))+1) (p1++(List.drop (0+(List.length p1)) (List.replicate ((IntKind.i64.wrap ((((List.length p1):Nat):Int)+(1:Int))).toNat) ((.agg [(.int .i64 (0)),(.int .u8 (0)),(.int .i64 (0)),(.int .i64 (0)),(.int .i64 (0)),(.int .i64 (0)),(.int .i64 (0)),(.int .i64 (0))]):PV)))))))) a b (0:Int))))))))))))))))))))))))))
def ydv:yaO:=ymE yaU yc2 yfK ydu
def yiq:Sg:=⟨pt22,Ls→Ls→Int→Int→Int→Prop,fun K=>(fun r0 r1 r2 r3 r4=>K (.tup [(.agg [(.data r0),(.data r1)]),(.agg [(.int .i64 r2),(.int .i64 r3)]),(.int .i64 r4)]))⟩
def yCj (e:Es) (a0:yan) (a1:ybB) (a2:ycv) (a3:ybt):SE:=⟨(E e),yh1 [(ycQ,ys4.pw a0),(ycX,yj6.pw a1),(yeb,yh4.pw a2),(yeZ,ykQ.pw a3)],yh2 [(ygW,yli)],lp0,fun _=>none⟩
theorem yCk (e:Es) (a0 a1 a2 a3):EqW (yCj e a0 a1 a2 a3) 6 yEb yiq (ymE a0 a1 a2 a3):=fun _ _=>by kernel_rfl
theorem ys9 (e:Es) (he:EG e):OkF (E e) (yiq.pw ydv) yjS:=okU he (yCk e _ _ _ _) (yas (Sub.uni _) ⟨(ydt e he),(ygq e he),(ypS e he),(yhr e he),trivial⟩ ⟨⟨by kernel_rfl,by kernel_rfl,rfl,fun az=>ybs (by kernel_rfl) az,he.num _ (by kernel_rfl),by kernel_rfl,(yam (by kernel_rfl))⟩,trivial⟩ he.ok) ynm.flat (yam (by kernel_rfl))
def yfL (a0:ybU) (p0 p1:Ls) (p2 p3 p4 p5 p6:Int) (K:Int→Int→Int→Prop):Prop :=
 (asr (decide ((0:Int)≤p2))
 (asr (decide (p2<(((List.length p0):Nat):Int)))
 (asr (conf zK (List.getD p0 (p2.toNat) .nils))
 (a0 (yaa (yab (List.getD p0 (p2.toNat) .nils) 0)) (yaX (yab (List.getD p0 (p2.toNat) .nils) 1)) (yaX (yab (List.getD p0 (p2.toNat) .nils) 2)) p3 p4 p5 p6 (fun a b c =>
 (K a b c))))))
def ygr:ycv:=yfL yf2
def yrE (e:Es) (a0:ybU):SE:=sE (E e) [(yjT,yhq.pw a0)] lp0
theorem yrF (e:Es) (a0):EqW (yrE e a0) 6 ysM yh4 (yfL a0):=fun _ _=>by kernel_rfl
theorem yrG (e:Es) (he:EG e):OkF (E e) (yh4.pw ygr) yew:=okU he (yrF e _) (yas (Sub.uni _) ⟨(ys3 e he),trivial⟩ trivial he.ok) ynm.flat (yam (by kernel_rfl))
def yoy (a0:yan) (a1:ybB) (a2:ycv) (a3:ybt) (p0 p1:Ls) (p2 p3 p4 p5 p6:Int) (K:Ls→Ls→Int→Int→Int→Prop):Prop :=
 (a0 p0 p1 (fun c =>
 (cbr (c !=(0:Int))
 (K ([]:Ls) ([]:Ls) (0:Int) (0:Int) c)
 (a1 p0 p1 p2 (fun f =>
 (cbr (!f)
 (K ([]:Ls) ([]:Ls) (0:Int) (0:Int) (2:Int))
 (a2 p0 p1 p2 p3 p4 p5 p6 (fun a b d =>
 (cbr (d !=(0:Int))
 (K ([]:Ls) ([]:Ls) (0:Int) (0:Int) d)
 (cbr (decide ((((List.length p1):Nat):Int)≥(2000:Int)))
 (K ([]:Ls) ([]:Ls) (0:Int) (0:Int) (4:Int))
 (asr (decide ((0:Int)≤(IntKind.i64.wrap ((((List.length p1):Nat):Int)+(1:Int)))))
 (asr (decide ((((IntKind.i64.wrap ((((List.length p1):Nat):Int)+(1:Int))).toNat)+64)*(64+1)≤room))
 (a3 p0 (fun e =>
 (asr (ycj 8 p1)
 (asr (decide ((List.length (List.replicate ((IntKind.i64.wrap ((((List.length p1):Nat):Int)+(1:Int))).toNat) ((.agg [(.int .i64 (0)),(.int .u8 (0)),(.int .i64 (0)),(.int .i64 (0)),(.int .i64 (0)),(.int .i64 (0)),(.int .i64 (0)),(.int .i64 (0))]):PV)))=((IntKind.i64.wrap ((((List.length p1):Nat):Int)+(1:Int))).toNat)))
 (asr (decide (0≤((IntKind.i64.wrap ((((List.length p1):Nat):Int)+(1:Int))).toNat)))
 (cbr (List.isEmpty p1)
 (asr (decide ((List.length (List.replicate ((IntKind.i64.wrap ((((List.length p1):Nat):Int)+(1:Int))).toNat) ((.agg [(.int .i64 (0)),(.int .u8 (0)),(.int .i64 (0)),(.int .i64 (0)),(.int .i64 (0)),(.int .i64 (0)),(.int .i64 (0)),(.int .i64 (0))]):PV)))=((IntKind.i64.wrap ((((List.length p1):Nat):Int)+(1:Int))).toNat)))
 (asr (decide (0≤((IntKind.i64.wrap ((((List.length p1):Nat):Int)+(1:Int))).toNat)))
 (asr (decide (1≤((IntKind.i64.wrap ((((List.length p1):Nat):Int)+(1:Int))).toNat)))
 (asr (decide ((List.length (([(.agg [(.int .i64 p2),(.int .u8 (2:Int)),(.int .i64 p3),(.int .i64 p4),(.int .i64 p5),(.int .i64 p6),(.int .i64 a),(.int .i64 b)])]:Ls)++(List.drop 1 (List.replicate ((IntKind.i64.wrap ((((List.length p1):Nat):Int)+(1:Int))).toNat) ((.agg [(.int .i64 (0)),(.int .u8 (0)),(.int .i64 (0)),(.int .i64 (0)),(.int .i64 (0)),(.int .i64 (0)),(.int .i64 (0)),(.int .i64 (0))]):PV)))))=((IntKind.i64.wrap ((((List.length p1):Nat):Int)+(1:Int))).toNat)))
 (asr (decide (1≤((IntKind.i64.wrap ((((List.length p1):Nat):Int)+(1:Int))).toNat)))
 (K e (List.take 1 (([(.agg [(.int .i64 p2),(.int .u8 (2:Int)),(.int .i64 p3),(.int .i64 p4),(.int .i64 p5),(.int .i64 p6),(.int .i64 a),(.int .i64 b)])]:Ls)++(List.drop 1 (List.replicate ((IntKind.i64.wrap ((((List.length p1):Nat):Int)+(1:Int))).toNat) ((.agg [(.int .i64 (0)),(.int .u8 (0)),(.int .i64 (0)),(.int .i64 (0)),(.int .i64 (0)),(.int .i64 (0)),(.int .i64 (0)),(.int .i64 (0))]):PV))))) a b (0:Int)))))))
 (asr (decide ((0+(List.length p1))≤((IntKind.i64.wrap ((((List.length p1):Nat):Int)+(1:Int))).toNat)))
 (asr (decide ((List.length (p1++(List.drop (0+(List.length p1)) (List.replicate ((IntKind.i64.wrap ((((List.length p1):Nat):Int)+(1:Int))).toNat) ((.agg [(.int .i64 (0)),(.int .u8 (0)),(.int .i64 (0)),(.int .i64 (0)),(.int .i64 (0)),(.int .i64 (0)),(.int .i64 (0)),(.int .i64 (0))]):PV)))))=((IntKind.i64.wrap ((((List.length p1):Nat):Int)+(1:Int))).toNat)))
 (asr (decide ((0+(0+(List.length p1)))≤((IntKind.i64.wrap ((((List.length p1):Nat):Int)+(1:Int))).toNat)))
 (asr (decide (((0+(List.length p1))+1)≤((IntKind.i64.wrap ((((List.length p1):Nat):Int)+(1:Int))).toNat)))
 (asr (decide ((List.length ((List.take (0+(0+(List.length p1))) (p1++(List.drop (0+(List.length p1)) (List.replicate ((IntKind.i64.wrap ((((List.length p1):Nat):Int)+(1:Int))).toNat) ((.agg [(.int .i64 (0)),(.int .u8 (0)),(.int .i64 (0)),(.int .i64 (0)),(.int .i64 (0)),(.int .i64 (0)),(.int .i64 (0)),(.int .i64 (0))]):PV)))))++(([(.agg [(.int .i64 p2),(.int .u8 (2:Int)),(.int .i64 p3),(.int .i64 p4),(.int .i64 p5),(.int .i64 p6),(.int .i64 a),(.int .i64 b)])]:Ls)++(List.drop ((0+(0+(List.length p1)))+1) (p1++(List.drop (0+(List.length p1)) (List.replicate ((IntKind.i64.wrap ((((List.length p1):Nat):Int)+(1:Int))).toNat) ((.agg [(.int .i64 (0)),(.int .u8 (0)),(.int .i64 (0)),(.int .i64 (0)),(.int .i64 (0)),(.int .i64 (0)),(.int .i64 (0)),(.int .i64 (0))]):PV))))))))=((IntKind.i64.wrap ((((List.length p1):Nat):Int)+(1:Int))).toNat)))
 (asr (decide ((0+((0+(List.length p1))+1))≤((IntKind.i64.wrap ((((List.length p1):Nat):Int)+(1:Int))).toNat)))
 (K e (List.take ((0+(List.length p1))+1) ((List.take (0+(0+(List.length p1))) (p1++(List.drop (0+(List.length p1)) (List.replicate ((IntKind.i64.wrap ((((List.length p1):Nat):Int)+(1:Int))).toNat) ((.agg [(.int .i64 (0)),(.int .u8 (0)),(.int .i64 (0)),(.int .i64 (0)),(.int .i64 (0)),(.int .i64 (0)),(.int .i64 (0)),(.int .i64 (0))]):PV)))))++(([(.agg [(.int .i64 p2),(.int .u8 (2:Int)),(.int .i64 p3),(.int .i64 p4),(.int .i64 p5),(.int .i64 p6),(.int .i64 a),(.int .i64 b)])]:Ls)++(List.drop ((0+(0+(List.length p1)))+1) (p1++(List.drop (0+(List.length p1)) (List.replicate ((IntKind.i64.wrap ((((List.length p1):Nat):Int)+(1:Int))).toNat) ((.agg [(.int .i64 (0)),(.int .u8 (0)),(.int .i64 (0)),(.int .i64 (0)),(.int .i64 (0)),(.int .i64 (0)),(.int .i64 (0)),(.int .i64 (0))]):PV)))))))) a b (0:Int))))))))))))))))))))))))))
def ydD:yaO:=yoy yaU yc2 ygr ydu
def yEt (e:Es) (a0:yan) (a1:ybB) (a2:ycv) (a3:ybt):SE:=⟨(E e),yh1 [(ycQ,ys4.pw a0),(ycX,yj6.pw a1),(yew,yh4.pw a2),(yeZ,ykQ.pw a3)],yh2 [(ygW,yli)],lp0,fun _=>none⟩
theorem yEu (e:Es) (a0 a1 a2 a3):EqW (yEt e a0 a1 a2 a3) 6 yF2 yiq (yoy a0 a1 a2 a3):=fun _ _=>by kernel_rfl
theorem ywb (e:Es) (he:EG e):OkF (E e) (yiq.pw ydD) ylZ:=okU he (yEu e _ _ _ _) (yas (Sub.uni _) ⟨(ydt e he),(ygq e he),(yrG e he),(yhr e he),trivial⟩ ⟨⟨by kernel_rfl,by kernel_rfl,rfl,fun az=>ybs (by kernel_rfl) az,he.num _ (by kernel_rfl),by kernel_rfl,(yam (by kernel_rfl))⟩,trivial⟩ he.ok) ynm.flat (yam (by kernel_rfl))
set_option linter.unusedVariables false
theorem yz8 (p0:Ls) (p1:Ls) (r0:Int) (h:∀ K:Int→Prop,K r0→yaU p0 p1 K) (K:Int→Prop):yaU p0 p1 K=K r0 :=
 propext ⟨fun k=>detC (ydt [] ya1) (az:=[(.agg [(.data p0),(.data p1)])]) (x:=(.int .i64 r0)) (fun K' k'=>h (fun r0=>K' (.int .i64 r0)) k') (K:=fun x=>match x with | (.int .i64 r0)=>K r0 | _=>False) k,h K⟩
theorem yyM (p0:Ls) (r0:Ls) (h:∀ K:Ls→Prop,K r0→ydu p0 K) (K:Ls→Prop):ydu p0 K=K r0 :=
 propext ⟨fun k=>detC (yhr [] ya1) (az:=[(.data p0)]) (x:=(.data r0)) (fun K' k'=>h (fun r0=>K' (.data r0)) k') (K:=fun x=>match x with | (.data r0)=>K r0 | _=>False) k,h K⟩
theorem yz9 (p0:Ls) (p1:Ls) (p2:Int) (p3:Int) (p4:Int) (p5:Int) (p6:Int) (r0:Ls) (r1:Ls) (r2:Int) (r3:Int) (r4:Int) (h:∀ K:Ls→Ls→Int→Int→Int→Prop,K r0 r1 r2 r3 r4→ydv p0 p1 p2 p3 p4 p5 p6 K) (K:Ls→Ls→Int→Int→Int→Prop):ydv p0 p1 p2 p3 p4 p5 p6 K=K r0 r1 r2 r3 r4 :=
 propext ⟨fun k=>detC (ys9 [] ya1) (az:=[(.agg [(.data p0),(.data p1)]),(.int .i64 p2),(.agg [(.int .i64 p3),(.int .i64 p4)]),(.agg [(.int .i64 p5),(.int .i64 p6)])]) (x:=(.tup [(.agg [(.data r0),(.data r1)]),(.agg [(.int .i64 r2),(.int .i64 r3)]),(.int .i64 r4)])) (fun K' k'=>h (fun r0 r1 r2 r3 r4=>K' (.tup [(.agg [(.data r0),(.data r1)]),(.agg [(.int .i64 r2),(.int .i64 r3)]),(.int .i64 r4)])) k') (K:=fun x=>match x with | (.tup [(.agg [(.data r0),(.data r1)]),(.agg [(.int .i64 r2),(.int .i64 r3)]),(.int .i64 r4)])=>K r0 r1 r2 r3 r4 | _=>False) k,h K⟩
theorem yCl (p0:Ls) (p1:Ls) (p2:Int) (p3:Int) (p4:Int) (p5:Int) (p6:Int) (r0:Ls) (r1:Ls) (r2:Int) (r3:Int) (r4:Int) (h:∀ K:Ls→Ls→Int→Int→Int→Prop,K r0 r1 r2 r3 r4→ydD p0 p1 p2 p3 p4 p5 p6 K) (K:Ls→Ls→Int→Int→Int→Prop):ydD p0 p1 p2 p3 p4 p5 p6 K=K r0 r1 r2 r3 r4 :=
 propext ⟨fun k=>detC (ywb [] ya1) (az:=[(.agg [(.data p0),(.data p1)]),(.int .i64 p2),(.agg [(.int .i64 p3),(.int .i64 p4)]),(.agg [(.int .i64 p5),(.int .i64 p6)])]) (x:=(.tup [(.agg [(.data r0),(.data r1)]),(.agg [(.int .i64 r2),(.int .i64 r3)]),(.int .i64 r4)])) (fun K' k'=>h (fun r0 r1 r2 r3 r4=>K' (.tup [(.agg [(.data r0),(.data r1)]),(.agg [(.int .i64 r2),(.int .i64 r3)]),(.int .i64 r4)])) k') (K:=fun x=>match x with | (.tup [(.agg [(.data r0),(.data r1)]),(.agg [(.int .i64 r2),(.int .i64 r3)]),(.int .i64 r4)])=>K r0 r1 r2 r3 r4 | _=>False) k,h K⟩
def yA5 (p0:Int) (K:Int→Int→Prop):Prop :=
 (K p0 (1:Int))
def ybn:yac:=yA5
def yIj (e:Es):SE:=sE (E e) [] lp0
theorem yIk (e:Es):EqW (yIj e) 6 yJj ykJ yA5:=fun _ _=>by kernel_rfl
theorem ylq (e:Es) (he:EG e):OkF (E e) (ykJ.pw ybn) yhC:=okU he (yIk e) (yas (Sub.uni _) trivial trivial he.ok) ynm.flat (yam (by kernel_rfl))
def yrH (p0:Int) (K:Int→Prop):Prop :=
 (cbr (decide (p0<(0:Int)))
 (K (IntKind.u64.wrap ((IntKind.u64.wrap (IntKind.i64.wrap ((0:Int)-(IntKind.i64.wrap (p0+(1:Int))))))+(1:Int))))
 (K (IntKind.u64.wrap p0)))
def yf3:yaj:=yrH
def yGp (e:Es):SE:=sE (E e) [] lp0
theorem yGq (e:Es):EqW (yGp e) 6 yId yqc yrH:=fun _ _=>by kernel_rfl
theorem yjq (e:Es) (he:EG e):OkF (E e) (yqc.pw yf3) yfY:=okU he (yGq e) (yas (Sub.uni _) trivial trivial he.ok) ynm.flat (yam (by kernel_rfl))
def yfq (x0:Int→Int→Bool→Prop):Nat→Int→Int→Prop
 | 0,_,_=>False
 | n+1,i0,i1 =>
 (cbr (i1 !=(0:Int))
 (asr (!(decide (i1=(0:Int))))
 (yfq x0 n i1 (Int.tmod i0 i1)))
 (x0 i0 i1 false))
def yrI (p0 p1:Int) (K:Int→Prop):Prop :=
 (∃ n:Nat,yfq
 (fun a b c=>(K a))
 n p0 p1)
def ydd:yav:=yrI
def yAa (Q:Qx):Int→Int→Bool→Prop:=(fun i0 i1 b2=>Q (.exit 0) [(0,.v (.int .u64 i0)),(1,.v (.int .u64 i1)),(6,.v (.bool b2))] [])
def yta (Q:Qx):List St:=[⟨pt5,yfq (yAa Q)⟩]
def yyN:LP:=lpS [(16774900,yta)]
def yrJ (e:Es):SE:=sE (E e) [] (yyN)
theorem ywc (e:Es) (he:EG e):SEOk (Uni (E e)) (yrJ e):=yas (Sub.uni _) trivial trivial he.ok
theorem yyO (e:Es):ybM (yrJ e) 5 a yrg false (yta):=fun _=>⟨fun _=>by kernel_rfl,fun _ _=>by kernel_rfl,trivial⟩
theorem yyP (e:Es) (he:EG e):LpT (Uni (E e)) (yyN) [] 16774900 (.loop 16774900 yrg):=fun _ _ _=>ysB.st (Sub.uni _) (yaD (ywc e he) 5) (YOk.no _ _) (yam (by kernel_rfl)) (yyO e _)
theorem yGr (e:Es):EqW (yrJ e) 6 yA1 ysO yrI:=fun _ _=>by kernel_rfl
theorem yjr (e:Es) (he:EG e):OkF (E e) (ysO.pw ydd) ygX:=okU he (yGr e) (ywc e he) ynm.flat (yaW (l:=[(16774900,.loop 16774900 yrg)]) ⟨yyP e he,trivial⟩ (by kernel_rfl))
abbrev yfM:Type:=Bool→Int→Int→Int→Int→(Int→Int→Int→Prop)→Prop
def yoz (p0:Bool) (p1 p2 p3 p4:Int) (K:Int→Int→Int→Prop):Prop :=
 (cbr (decide (p1>(0:Int)))
 (K (0:Int) (0:Int) (16:Int))
 (cbr (decide (p3>(0:Int)))
 (K (0:Int) (0:Int) (16:Int))
 (cbr (decide (p2>(1000000000000000000:Int)))
 (K (0:Int) (0:Int) (16:Int))
 (cbr (decide (p4>(1000000000000000000:Int)))
 (K (0:Int) (0:Int) (16:Int))
 (cbr p0
 (K (IntKind.i64.wrap ((0:Int)-(IntKind.i64.wrap p2))) (IntKind.i64.wrap p4) (0:Int))
 (K (IntKind.i64.wrap p2) (IntKind.i64.wrap p4) (0:Int)))))))
def yfN:yfM:=yoz
def pt23:LPt:=lC (vA pt4) (lC (vA pt4) lN)
def yEv:Sg:=⟨(lC vB pt23),Int→Int→Int→Prop,fun K=>(fun r0 r1 r2=>K (.tup [(.agg [(.int .i64 r0),(.int .i64 r1)]),(.int .i64 r2)]))⟩
def yEw (e:Es):SE:=sE (E e) [] lp0
theorem yEx (e:Es):EqW (yEw e) 6 yF5 yEv yoz:=fun _ _=>by kernel_rfl
theorem yoA (e:Es) (he:EG e):OkF (E e) (yEv.pw yfN) ygY:=okU he (yEx e) (yas (Sub.uni _) trivial trivial he.ok) ynm.flat (yam (by kernel_rfl))
def yoB (a0:yaj) (a1:yav) (a2:yfM) (p0 p1:Int) (K:Int→Int→Int→Prop):Prop :=
 (cbr (p1 ==(0:Int))
 (K (0:Int) (0:Int) (18:Int))
 (a0 p0 (fun b =>
 (a0 p1 (fun c =>
 (a1 b c (fun a =>
 (asr (!(decide (a=(0:Int))))
 (asr (!(decide (a=(0:Int))))
 (a2 ((decide (p0<(0:Int))) !=(decide (p1<(0:Int)))) (0:Int) (IntKind.u64.wrap (Int.tdiv b a)) (0:Int) (IntKind.u64.wrap (Int.tdiv c a)) (fun d e f =>
 (K d e f))))))))))))
def ybp:yal:=yoB yf3 ydd yfN
def yEy (e:Es) (a0:yaj) (a1:yav) (a2:yfM):SE:=sE (E e) [(yfY,yqc.pw a0),(ygX,ysO.pw a1),(ygY,yEv.pw a2)] lp0
theorem yEz (e:Es) (a0 a1 a2):EqW (yEy e a0 a1 a2) 6 yF6 yqf (yoB a0 a1 a2):=fun _ _=>by kernel_rfl
theorem yEA (e:Es) (he:EG e):OkF (E e) (yqf.pw ybp) ymc:=okU he (yEz e _ _ _) (yas (Sub.uni _) ⟨(yjq e he),(yjr e he),(yoA e he),trivial⟩ trivial he.ok) ynm.flat (yam (by kernel_rfl))
def ymF (a0:yaj) (a1:yav) (p0 p1:Int) (K:Int→Prop):Prop :=
 (cbr (decide (p1<(1:Int)))
 (K (8:Int))
 (cbr (decide (p1>(1000000000000000000:Int)))
 (K (8:Int))
 (cbr (decide (p0<(-1000000000000000000:Int)))
 (K (8:Int))
 (cbr (decide (p0>(1000000000000000000:Int)))
 (K (8:Int))
 (a0 p0 (fun a =>
 (a1 a (IntKind.u64.wrap p1) (fun b =>
 (cbr (b !=(1:Int))
 (K (8:Int))
 (K (0:Int)))))))))))
def ydw:yav:=ymF yf3 ydd
def yCm (e:Es) (a0:yaj) (a1:yav):SE:=sE (E e) [(yfY,yqc.pw a0),(ygX,ysO.pw a1)] lp0
theorem yCn (e:Es) (a0 a1):EqW (yCm e a0 a1) 6 yEf yoe (ymF a0 a1):=fun _ _=>by kernel_rfl
theorem ymG (e:Es) (he:EG e):OkF (E e) (yoe.pw ydw) yfZ:=okU he (yCn e _ _) (yas (Sub.uni _) ⟨(yjq e he),(yjr e he),trivial⟩ trivial he.ok) ynm.flat (yam (by kernel_rfl))
def ymH (p0 p1:Int) (K:Int→Int→Prop):Prop :=
 (K (IntKind.u64.wrap ((IntKind.u64.wrap ((IntKind.u64.wrap ((Int.fdiv p0 4294967296)*(Int.fdiv p1 4294967296)))+(Int.fdiv (IntKind.u64.wrap ((Int.fdiv p0 4294967296)*(IntKind.u64.wrap (BitVec.ofInt IntKind.u64.bits p1&&&BitVec.ofInt IntKind.u64.bits (4294967295:Int)).toNat))) 4294967296)))+(Int.fdiv (IntKind.u64.wrap ((IntKind.u64.wrap ((IntKind.u64.wrap (BitVec.ofInt IntKind.u64.bits (IntKind.u64.wrap ((Int.fdiv p0 4294967296)*(IntKind.u64.wrap (BitVec.ofInt IntKind.u64.bits p1&&&BitVec.ofInt IntKind.u64.bits (4294967295:Int)).toNat)))&&&BitVec.ofInt IntKind.u64.bits (4294967295:Int)).toNat)+(IntKind.u64.wrap ((IntKind.u64.wrap (BitVec.ofInt IntKind.u64.bits p0&&&BitVec.ofInt IntKind.u64.bits (4294967295:Int)).toNat)*(Int.fdiv p1 4294967296)))))+(Int.fdiv (IntKind.u64.wrap ((IntKind.u64.wrap (BitVec.ofInt IntKind.u64.bits p0&&&BitVec.ofInt IntKind.u64.bits (4294967295:Int)).toNat)*(IntKind.u64.wrap (BitVec.ofInt IntKind.u64.bits p1&&&BitVec.ofInt IntKind.u64.bits (4294967295:Int)).toNat))) 4294967296))) 4294967296))) (IntKind.u64.wrap (BitVec.ofInt IntKind.u64.bits (IntKind.u64.wrap ((IntKind.u64.wrap ((IntKind.u64.wrap ((IntKind.u64.wrap (BitVec.ofInt IntKind.u64.bits (IntKind.u64.wrap ((Int.fdiv p0 4294967296)*(IntKind.u64.wrap (BitVec.ofInt IntKind.u64.bits p1&&&BitVec.ofInt IntKind.u64.bits (4294967295:Int)).toNat)))&&&BitVec.ofInt IntKind.u64.bits (4294967295:Int)).toNat)+(IntKind.u64.wrap ((IntKind.u64.wrap (BitVec.ofInt IntKind.u64.bits p0&&&BitVec.ofInt IntKind.u64.bits (4294967295:Int)).toNat)*(Int.fdiv p1 4294967296)))))+(Int.fdiv (IntKind.u64.wrap ((IntKind.u64.wrap (BitVec.ofInt IntKind.u64.bits p0&&&BitVec.ofInt IntKind.u64.bits (4294967295:Int)).toNat)*(IntKind.u64.wrap (BitVec.ofInt IntKind.u64.bits p1&&&BitVec.ofInt IntKind.u64.bits (4294967295:Int)).toNat))) 4294967296)))*(4294967296:Int)))|||BitVec.ofInt IntKind.u64.bits (IntKind.u64.wrap (BitVec.ofInt IntKind.u64.bits (IntKind.u64.wrap ((IntKind.u64.wrap (BitVec.ofInt IntKind.u64.bits p0&&&BitVec.ofInt IntKind.u64.bits (4294967295:Int)).toNat)*(IntKind.u64.wrap (BitVec.ofInt IntKind.u64.bits p1&&&BitVec.ofInt IntKind.u64.bits (4294967295:Int)).toNat)))&&&BitVec.ofInt IntKind.u64.bits (4294967295:Int)).toNat)).toNat))
def yd1:ycb:=ymH
def yCo:Sg:=⟨pt4,Int→Int→Prop,fun K=>(fun r0 r1=>K (.agg [(.int .u64 r0),(.int .u64 r1)]))⟩
def yCp (e:Es):SE:=sE (E e) [] lp0
theorem yCq (e:Es):EqW (yCp e) 6 yEg yCo ymH:=fun _ _=>by kernel_rfl
theorem ymI (e:Es) (he:EG e):OkF (E e) (yCo.pw yd1) yf0:=okU he (yCq e) (yas (Sub.uni _) trivial trivial he.ok) ynm.flat (yam (by kernel_rfl))
def yoC (p0 p1 p2 p3:Int) (K:Bool→Prop):Prop :=
 (cbr (decide (p0<p2))
 (K true)
 (cbr (p0 == p2)
 (K (decide (p1<p3)))
 (K false)))
def yjs:yau:=yoC
def yEB:Sg:=⟨pt23,Bool→Prop,fun K=>(fun r0=>K (.bool r0))⟩
def yEC (e:Es):SE:=sE (E e) [] lp0
theorem yED (e:Es):EqW (yEC e) 6 yF7 yEB yoC:=fun _ _=>by kernel_rfl
theorem ywd (e:Es) (he:EG e):OkF (E e) (yEB.pw yjs) yjd:=okU he (yED e) (yas (Sub.uni _) trivial trivial he.ok) ynm.flat (yam (by kernel_rfl))
def yoD (a0:yaj) (a1:ycb) (a2:yau) (p0 p1 p2 p3:Int) (K:Bool→Prop):Prop :=
 (cbr ((decide (p0<(0:Int))) !=(decide (p2<(0:Int))))
 (K (decide (p0<(0:Int))))
 (a0 p0 (fun e =>
 (a1 e (IntKind.u64.wrap p3) (fun a b =>
 (a0 p2 (fun f =>
 (a1 f (IntKind.u64.wrap p1) (fun c d =>
 (cbr (decide (p0<(0:Int)))
 (a2 c d a b (fun g =>
 (K g)))
 (a2 a b c d (fun h =>
 (K h)))))))))))))
def yaC:yau:=yoD yf3 yd1 yjs
def yEE (e:Es) (a0:yaj) (a1:ycb) (a2:yau):SE:=sE (E e) [(yfY,yqc.pw a0),(yf0,yCo.pw a1),(yjd,yEB.pw a2)] lp0
theorem yEF (e:Es) (a0 a1 a2):EqW (yEE e a0 a1 a2) 6 yF8 ysY (yoD a0 a1 a2):=fun _ _=>by kernel_rfl
theorem yeM (e:Es) (he:EG e):OkF (E e) (ysY.pw yaC) ydC:=okU he (yEF e _ _ _) (yas (Sub.uni _) ⟨(yjq e he),(ymI e he),(ywd e he),trivial⟩ trivial he.ok) ynm.flat (yam (by kernel_rfl))
def yoE (a0:yav) (p0 p1 p2 p3:Int) (K:Int→Prop):Prop :=
 (a0 p0 p1 (fun a =>
 (cbr (a !=(0:Int))
 (a0 p0 p1 (fun b =>
 (K b)))
 (a0 p2 p3 (fun c =>
 (K c))))))
def yfO:yae:=yoE ydw
def yEG (e:Es) (a0:yav):SE:=sE (E e) [(yfZ,yoe.pw a0)] lp0
theorem yEH (e:Es) (a0):EqW (yEG e a0) 6 yF9 yjm (yoE a0):=fun _ _=>by kernel_rfl
theorem yj7 (e:Es) (he:EG e):OkF (E e) (yjm.pw yfO) yfG:=okU he (yEH e _) (yas (Sub.uni _) ⟨(ymG e he),trivial⟩ trivial he.ok) ynm.flat (yam (by kernel_rfl))
def yrK (p0 p1:Int) (K:Int→Int→Prop):Prop :=
 (K (IntKind.i64.wrap ((0:Int)-p0)) p1)
def ypw:ycb:=yrK
def yGs:Sg:=⟨pt8,Int→Int→Prop,fun K=>(fun r0 r1=>K (.agg [(.int .i64 r0),(.int .i64 r1)]))⟩
def yGt (e:Es):SE:=sE (E e) [] lp0
theorem yGu (e:Es):EqW (yGt e) 6 yIe yGs yrK:=fun _ _=>by kernel_rfl
theorem yGv (e:Es) (he:EG e):OkF (E e) (yGs.pw ypw) yps:=okU he (yGu e) (yas (Sub.uni _) trivial trivial he.ok) ynm.flat (yam (by kernel_rfl))
def yoF (p0 p1 p2 p3:Int) (K:Int→Int→Prop):Prop :=
 (cbr (decide ((IntKind.u64.wrap (p1+p3))<p1))
 (K (IntKind.u64.wrap ((IntKind.u64.wrap (p0+p2))+(1:Int))) (IntKind.u64.wrap (p1+p3)))
 (K (IntKind.u64.wrap (p0+p2)) (IntKind.u64.wrap (p1+p3))))
def ydE:yah:=yoF
def ywe:Sg:=⟨pt23,Int→Int→Prop,fun K=>(fun r0 r1=>K (.agg [(.int .u64 r0),(.int .u64 r1)]))⟩
def yEI (e:Es):SE:=sE (E e) [] lp0
theorem yEJ (e:Es):EqW (yEI e) 6 yGa ywe yoF:=fun _ _=>by kernel_rfl
theorem ywf (e:Es) (he:EG e):OkF (E e) (ywe.pw ydE) yje:=okU he (yEJ e) (yas (Sub.uni _) trivial trivial he.ok) ynm.flat (yam (by kernel_rfl))
def yir (p0 p1 p2 p3:Int) (K:Int→Int→Prop):Prop :=
 (cbr (decide (p1<p3))
 (K (IntKind.u64.wrap ((IntKind.u64.wrap (p0-p2))-(1:Int))) (IntKind.u64.wrap (p1-p3)))
 (K (IntKind.u64.wrap (p0-p2)) (IntKind.u64.wrap (p1-p3))))
def yf4:yah:=yir
def yCr (e:Es):SE:=sE (E e) [] lp0
theorem yCs (e:Es):EqW (yCr e) 6 yEj ywe yir:=fun _ _=>by kernel_rfl
theorem yCt (e:Es) (he:EG e):OkF (E e) (ywe.pw yf4) yjX:=okU he (yCs e) (yas (Sub.uni _) trivial trivial he.ok) ynm.flat (yam (by kernel_rfl))
abbrev yoG:Type:=Int→Int→Int→(Int→Int→Int→Prop)→Prop
def ybw (a0:yah) (x0:Int→Int→Int→Int→Int→Int→Int→Int→Int→Bool→Prop):Nat→Int→Int→Int→Int→Int→Int→Int→Int→Int→Prop
 | 0,_,_,_,_,_,_,_,_,_=>False
 | n+1,i0,i1,i2,i3,i4,i5,i6,i7,i8 =>
 (cbr (decide (i8≥(0:Int)))
 (asr (!(decide ((IntKind.i64.wrap (BitVec.ofInt IntKind.i64.bits i8&&&BitVec.ofInt IntKind.i64.bits (63:Int)).toNat)<(0:Int))))
 (cbr (decide (i8≥(64:Int)))
 (asr (!(decide ((IntKind.i64.wrap (BitVec.ofInt IntKind.i64.bits i8&&&BitVec.ofInt IntKind.i64.bits (63:Int)).toNat)<(0:Int))))
 (a0 i5 i6 i5 i6 (fun a b =>
 (cbr (decide ((IntKind.u64.wrap (BitVec.ofInt IntKind.u64.bits (IntKind.u64.wrap (i7*(2:Int)))|||BitVec.ofInt IntKind.u64.bits (IntKind.u64.wrap (BitVec.ofInt IntKind.u64.bits (Int.fdiv i1 (2 ^ (min (IntKind.i64.wrap (BitVec.ofInt IntKind.i64.bits i8&&&BitVec.ofInt IntKind.i64.bits (63:Int)).toNat).toNat IntKind.u64.bits)))&&&BitVec.ofInt IntKind.u64.bits (1:Int)).toNat)).toNat)≥i0))
 (ybw a0 x0 n i0 i1 i2 i3 i4 a (IntKind.u64.wrap (BitVec.ofInt IntKind.u64.bits b|||BitVec.ofInt IntKind.u64.bits (1:Int)).toNat) (IntKind.u64.wrap ((IntKind.u64.wrap (BitVec.ofInt IntKind.u64.bits (IntKind.u64.wrap (i7*(2:Int)))|||BitVec.ofInt IntKind.u64.bits (IntKind.u64.wrap (BitVec.ofInt IntKind.u64.bits (Int.fdiv i1 (2 ^ (min (IntKind.i64.wrap (BitVec.ofInt IntKind.i64.bits i8&&&BitVec.ofInt IntKind.i64.bits (63:Int)).toNat).toNat IntKind.u64.bits)))&&&BitVec.ofInt IntKind.u64.bits (1:Int)).toNat)).toNat)-i0)) (IntKind.i64.wrap (i8-(1:Int))))
 (ybw a0 x0 n i0 i1 i2 i3 i4 a b (IntKind.u64.wrap (BitVec.ofInt IntKind.u64.bits (IntKind.u64.wrap (i7*(2:Int)))|||BitVec.ofInt IntKind.u64.bits (IntKind.u64.wrap (BitVec.ofInt IntKind.u64.bits (Int.fdiv i1 (2 ^ (min (IntKind.i64.wrap (BitVec.ofInt IntKind.i64.bits i8&&&BitVec.ofInt IntKind.i64.bits (63:Int)).toNat).toNat IntKind.u64.bits)))&&&BitVec.ofInt IntKind.u64.bits (1:Int)).toNat)).toNat) (IntKind.i64.wrap (i8-(1:Int))))))))
 (a0 i5 i6 i5 i6 (fun c d =>
 (cbr (decide ((IntKind.u64.wrap (BitVec.ofInt IntKind.u64.bits (IntKind.u64.wrap (i7*(2:Int)))|||BitVec.ofInt IntKind.u64.bits (IntKind.u64.wrap (BitVec.ofInt IntKind.u64.bits (Int.fdiv i2 (2 ^ (min (IntKind.i64.wrap (BitVec.ofInt IntKind.i64.bits i8&&&BitVec.ofInt IntKind.i64.bits (63:Int)).toNat).toNat IntKind.u64.bits)))&&&BitVec.ofInt IntKind.u64.bits (1:Int)).toNat)).toNat)≥i0))
 (ybw a0 x0 n i0 i1 i2 i3 i4 c (IntKind.u64.wrap (BitVec.ofInt IntKind.u64.bits d|||BitVec.ofInt IntKind.u64.bits (1:Int)).toNat) (IntKind.u64.wrap ((IntKind.u64.wrap (BitVec.ofInt IntKind.u64.bits (IntKind.u64.wrap (i7*(2:Int)))|||BitVec.ofInt IntKind.u64.bits (IntKind.u64.wrap (BitVec.ofInt IntKind.u64.bits (Int.fdiv i2 (2 ^ (min (IntKind.i64.wrap (BitVec.ofInt IntKind.i64.bits i8&&&BitVec.ofInt IntKind.i64.bits (63:Int)).toNat).toNat IntKind.u64.bits)))&&&BitVec.ofInt IntKind.u64.bits (1:Int)).toNat)).toNat)-i0)) (IntKind.i64.wrap (i8-(1:Int))))
 (ybw a0 x0 n i0 i1 i2 i3 i4 c d (IntKind.u64.wrap (BitVec.ofInt IntKind.u64.bits (IntKind.u64.wrap (i7*(2:Int)))|||BitVec.ofInt IntKind.u64.bits (IntKind.u64.wrap (BitVec.ofInt IntKind.u64.bits (Int.fdiv i2 (2 ^ (min (IntKind.i64.wrap (BitVec.ofInt IntKind.i64.bits i8&&&BitVec.ofInt IntKind.i64.bits (63:Int)).toNat).toNat IntKind.u64.bits)))&&&BitVec.ofInt IntKind.u64.bits (1:Int)).toNat)).toNat) (IntKind.i64.wrap (i8-(1:Int)))))))))
 (x0 i0 i1 i2 i3 i4 i5 i6 i7 i8 false))
def ymJ (a0:yah) (p0 p1 p2:Int) (K:Int→Int→Int→Prop):Prop :=
 (∃ n:Nat,ybw a0
 (fun d e f g h a b c i j=>(K a b c))
 n p2 p0 p1 (0:Int) (0:Int) (0:Int) (0:Int) (0:Int) (127:Int))
def ydx:yoG:=ymJ ydE
def yCu:Sg:=⟨(lC (vA pt4) pt1),Int→Int→Int→Prop,fun K=>(fun r0 r1 r2=>K (.tup [(.agg [(.int .u64 r0),(.int .u64 r1)]),(.int .u64 r2)]))⟩
def ywM (Q:Qx):Int→Int→Int→Int→Int→Int→Int→Int→Int→Bool→Prop:=(fun i0 i1 i2 i3 i4 i5 i6 i7 i8 b9=>Q (.exit 0) [(1,.v (.int .u64 i0)),(2,.box (.agg [(.int .u64 i1),(.int .u64 i2)])),(4,.box (.agg [(.int .u64 i3),(.int .u64 i4)])),(6,.box (.agg [(.int .u64 i5),(.int .u64 i6)])),(7,.v (.int .u64 i7)),(8,.v (.int .i64 i8)),(11,.v (.bool b9))] [])
def yoH (a0:yah) (Q:Qx):List St:=[⟨(pS hN (fV 1 pt0 (fX 2 (vA pt4) (fX 4 (vA pt4) (fX 6 (vA pt4) (fV 7 pt0 pt10))))) fN),ybw a0 (ywM Q)⟩]
def ytb (a0:yah):LP:=lpS [(22549700,yoH a0)]
def ymK (e:Es) (a0:yah):SE:=sE (E e) [(yje,ywe.pw a0)] (ytb a0)
theorem yqr (e:Es) (he:EG e):SEOk (Uni (E e)) (ymK e ydE):=yas (Sub.uni _) ⟨(ywf e he),trivial⟩ trivial he.ok
theorem yu3 (e:Es) (a0):ybM (ymK e a0) 5 a yri false (yoH a0):=fun _=>⟨fun _=>by kernel_rfl,fun _ _=>by kernel_rfl,trivial⟩
theorem yu4 (e:Es) (he:EG e):LpT (Uni (E e)) (ytb ydE) [] 22549700 (.loop 22549700 yri):=fun _ _ _=>ysB.st (Sub.uni _) (yaD (yqr e he) 5) (YOk.no _ _) (yam (by kernel_rfl)) (yu3 e _ _)
theorem yCv (e:Es) (a0):EqW (ymK e a0) 6 yv8 yCu (ymJ a0):=fun _ _=>by kernel_rfl
theorem ytc (e:Es) (he:EG e):OkF (E e) (yCu.pw ydx) yjY:=okU he (yCv e _) (yqr e he) ynm.flat (yaW (l:=[(22549700,.loop 22549700 yri)]) ⟨yu4 e he,trivial⟩ (by kernel_rfl))
def yrL (a0:yae) (a1:yav) (a2:yaj) (a3:ycb) (a4:yah) (a5:yah) (a6:yau) (a7:yoG) (a8:yfM) (p0 p1 p2 p3:Int) (K:Int→Int→Int→Prop):Prop :=
 (a0 p0 p1 p2 p3 (fun o =>
 (cbr (o !=(0:Int))
 (a0 p0 p1 p2 p3 (fun p =>
 (K (0:Int) (0:Int) p)))
 (a1 (IntKind.u64.wrap p1) (IntKind.u64.wrap p3) (fun a =>
 (a2 p0 (fun q =>
 (asr (!(decide (a=(0:Int))))
 (a3 q (IntKind.u64.wrap (Int.tdiv (IntKind.u64.wrap p3) a)) (fun b c =>
 (a2 p2 (fun r =>
 (asr (!(decide (a=(0:Int))))
 (a3 r (IntKind.u64.wrap (Int.tdiv (IntKind.u64.wrap p1) a)) (fun d e =>
 (a4 b c d e (fun f g =>
 (cbr ((decide (p0<(0:Int))) !=(decide (p2<(0:Int))))
 (a5 b c d e (fun h i =>
 (a6 b c d e (fun s =>
 (cbr s
 (a5 d e b c (fun j k =>
 (cbr ((j ==(0:Int))&&((k ==(0:Int))&&true))
 (K (0:Int) (1:Int) (0:Int))
 (a7 j k a (fun T U t =>
 (a1 t a (fun l =>
 (a7 j k l (fun u v V =>
 (asr (!(decide (a=(0:Int))))
 (asr (!(decide (l=(0:Int))))
 (a3 (IntKind.u64.wrap (Int.tdiv (IntKind.u64.wrap p1) a)) (IntKind.u64.wrap (Int.tdiv (IntKind.u64.wrap p3) l)) (fun w x =>
 (a8 (decide (p2<(0:Int))) u v w x (fun y z A =>
 (K y z A))))))))))))))))
 (cbr ((h ==(0:Int))&&((i ==(0:Int))&&true))
 (K (0:Int) (1:Int) (0:Int))
 (a7 h i a (fun W X B =>
 (a1 B a (fun m =>
 (a7 h i m (fun C D Y =>
 (asr (!(decide (a=(0:Int))))
 (asr (!(decide (m=(0:Int))))
 (a3 (IntKind.u64.wrap (Int.tdiv (IntKind.u64.wrap p1) a)) (IntKind.u64.wrap (Int.tdiv (IntKind.u64.wrap p3) m)) (fun E F =>
 (a8 (decide (p0<(0:Int))) C D E F (fun G H I =>
 (K G H I)))))))))))))))))))
 (cbr ((f ==(0:Int))&&((g ==(0:Int))&&true))
 (K (0:Int) (1:Int) (0:Int))
 (a7 f g a (fun Z va J =>
 (a1 J a (fun n =>
 (a7 f g n (fun L M vb =>
 (asr (!(decide (a=(0:Int))))
 (asr (!(decide (n=(0:Int))))
 (a3 (IntKind.u64.wrap (Int.tdiv (IntKind.u64.wrap p1) a)) (IntKind.u64.wrap (Int.tdiv (IntKind.u64.wrap p3) n)) (fun N O =>
 (a8 (decide (p0<(0:Int))) L M N O (fun Q R S =>
 (K Q R S))))))))))))))))))))))))))))))))
def yde:yaf:=yrL yfO ydd yf3 yd1 ydE yf4 yjs ydx yfN
def yGw (e:Es) (a0:yae) (a1:yav) (a2:yaj) (a3:ycb) (a4:yah) (a5:yah) (a6:yau) (a7:yoG) (a8:yfM):SE:=sE (E e) [(yfG,yjm.pw a0),(ygX,ysO.pw a1),(yfY,yqc.pw a2),(yf0,yCo.pw a3),(yje,ywe.pw a4),(yjX,ywe.pw a5),(yjd,yEB.pw a6),(yjY,yCu.pw a7),(ygY,yEv.pw a8)] lp0
theorem yGx (e:Es) (a0 a1 a2 a3 a4 a5 a6 a7 a8):EqW (yGw e a0 a1 a2 a3 a4 a5 a6 a7 a8) 6 yIf yds (yrL a0 a1 a2 a3 a4 a5 a6 a7 a8):=fun _ _=>by kernel_rfl
theorem yrM (e:Es) (he:EG e):OkF (E e) (yds.pw yde) yiH:=okU he (yGx e _ _ _ _ _ _ _ _ _) (yas (Sub.uni _) ⟨(yj7 e he),(yjr e he),(yjq e he),(ymI e he),(ywf e he),(yCt e he),(ywd e he),(ytc e he),(yoA e he),trivial⟩ trivial he.ok) ynm.flat (yam (by kernel_rfl))
def yrN (a0:yae) (a1:ycb) (a2:yaf) (p0 p1 p2 p3:Int) (K:Int→Int→Int→Prop):Prop :=
 (a0 p0 p1 p2 p3 (fun a =>
 (cbr (a !=(0:Int))
 (a0 p0 p1 p2 p3 (fun b =>
 (K (0:Int) (0:Int) b)))
 (a1 p2 p3 (fun c d =>
 (a2 p0 p1 c d (fun e f g =>
 (K e f g))))))))
def yf5:yaf:=yrN yfO ypw yde
def yGy (e:Es) (a0:yae) (a1:ycb) (a2:yaf):SE:=sE (E e) [(yfG,yjm.pw a0),(yps,yGs.pw a1),(yiH,yds.pw a2)] lp0
theorem yGz (e:Es) (a0 a1 a2):EqW (yGy e a0 a1 a2) 6 yIg yds (yrN a0 a1 a2):=fun _ _=>by kernel_rfl
theorem yyQ (e:Es) (he:EG e):OkF (E e) (yds.pw yf5) ylg:=okU he (yGz e _ _ _) (yas (Sub.uni _) ⟨(yj7 e he),(yGv e he),(yrM e he),trivial⟩ trivial he.ok) ynm.flat (yam (by kernel_rfl))
def yrO (a0:yae) (a1:yaj) (a2:yav) (a3:ycb) (a4:yfM) (p0 p1 p2 p3:Int) (K:Int→Int→Int→Prop):Prop :=
 (a0 p0 p1 p2 p3 (fun c =>
 (cbr (c !=(0:Int))
 (a0 p0 p1 p2 p3 (fun d =>
 (K (0:Int) (0:Int) d)))
 (a1 p0 (fun e =>
 (a2 e (IntKind.u64.wrap p3) (fun a =>
 (a1 p2 (fun f =>
 (a2 f (IntKind.u64.wrap p1) (fun b =>
 (cbr ((decide (p0<(0:Int))) !=(decide (p2<(0:Int))))
 (cbr (p0 !=(0:Int))
 (a1 p0 (fun g =>
 (asr (!(decide (a=(0:Int))))
 (a1 p2 (fun h =>
 (asr (!(decide (b=(0:Int))))
 (a3 (IntKind.u64.wrap (Int.tdiv g a)) (IntKind.u64.wrap (Int.tdiv h b)) (fun i j =>
 (asr (!(decide (b=(0:Int))))
 (asr (!(decide (a=(0:Int))))
 (a3 (IntKind.u64.wrap (Int.tdiv (IntKind.u64.wrap p1) b)) (IntKind.u64.wrap (Int.tdiv (IntKind.u64.wrap p3) a)) (fun k l =>
 (a4 (p2 !=(0:Int)) i j k l (fun m n o =>
 (K m n o)))))))))))))))
 (a1 p0 (fun p =>
 (asr (!(decide (a=(0:Int))))
 (a1 p2 (fun q =>
 (asr (!(decide (b=(0:Int))))
 (a3 (IntKind.u64.wrap (Int.tdiv p a)) (IntKind.u64.wrap (Int.tdiv q b)) (fun r s =>
 (asr (!(decide (b=(0:Int))))
 (asr (!(decide (a=(0:Int))))
 (a3 (IntKind.u64.wrap (Int.tdiv (IntKind.u64.wrap p1) b)) (IntKind.u64.wrap (Int.tdiv (IntKind.u64.wrap p3) a)) (fun t u =>
 (a4 false r s t u (fun v w x =>
 (K v w x))))))))))))))))
 (a1 p0 (fun y =>
 (asr (!(decide (a=(0:Int))))
 (a1 p2 (fun z =>
 (asr (!(decide (b=(0:Int))))
 (a3 (IntKind.u64.wrap (Int.tdiv y a)) (IntKind.u64.wrap (Int.tdiv z b)) (fun A B =>
 (asr (!(decide (b=(0:Int))))
 (asr (!(decide (a=(0:Int))))
 (a3 (IntKind.u64.wrap (Int.tdiv (IntKind.u64.wrap p1) b)) (IntKind.u64.wrap (Int.tdiv (IntKind.u64.wrap p3) a)) (fun C D =>
 (a4 false A B C D (fun E F G =>
 (K E F G)))))))))))))))))))))))))))
def ybe:yaf:=yrO yfO yf3 ydd yd1 yfN
def yGA (e:Es) (a0:yae) (a1:yaj) (a2:yav) (a3:ycb) (a4:yfM):SE:=sE (E e) [(yfG,yjm.pw a0),(yfY,yqc.pw a1),(ygX,ysO.pw a2),(yf0,yCo.pw a3),(ygY,yEv.pw a4)] lp0
theorem yGB (e:Es) (a0 a1 a2 a3 a4):EqW (yGA e a0 a1 a2 a3 a4) 6 yIh yds (yrO a0 a1 a2 a3 a4):=fun _ _=>by kernel_rfl
theorem yrP (e:Es) (he:EG e):OkF (E e) (yds.pw ybe) yiI:=okU he (yGB e _ _ _ _ _) (yas (Sub.uni _) ⟨(yj7 e he),(yjq e he),(yjr e he),(ymI e he),(yoA e he),trivial⟩ trivial he.ok) ynm.flat (yam (by kernel_rfl))
def yrQ (a0:yae) (a1:yaf) (p0 p1 p2 p3:Int) (K:Int→Int→Int→Prop):Prop :=
 (a0 p0 p1 p2 p3 (fun a =>
 (cbr (a !=(0:Int))
 (a0 p0 p1 p2 p3 (fun b =>
 (K (0:Int) (0:Int) b)))
 (cbr (p2 ==(0:Int))
 (K (0:Int) (0:Int) (18:Int))
 (cbr (decide (p2<(0:Int)))
 (a1 p0 p1 (IntKind.i64.wrap ((0:Int)-p3)) (IntKind.i64.wrap ((0:Int)-p2)) (fun c d e =>
 (K c d e)))
 (a1 p0 p1 p3 p2 (fun f g h =>
 (K f g h))))))))
def yg7:yaf:=yrQ yfO ybe
def yGC (e:Es) (a0:yae) (a1:yaf):SE:=sE (E e) [(yfG,yjm.pw a0),(yiI,yds.pw a1)] lp0
theorem yGD (e:Es) (a0 a1):EqW (yGC e a0 a1) 6 yIi yds (yrQ a0 a1):=fun _ _=>by kernel_rfl
theorem yGE (e:Es) (he:EG e):OkF (E e) (yds.pw yg7) ypt:=okU he (yGD e _ _) (yas (Sub.uni _) ⟨(yj7 e he),(yrP e he),trivial⟩ trivial he.ok) ynm.flat (yam (by kernel_rfl))
set_option linter.unusedVariables false
theorem yEK (p0:Int) (p1:Int) (r0:Int) (h:∀ K:Int→Prop,K r0→ydd p0 p1 K) (K:Int→Prop):ydd p0 p1 K=K r0 :=
 propext ⟨fun k=>detC (yjr [] ya1) (az:=[(.int .u64 p0),(.int .u64 p1)]) (x:=(.int .u64 r0)) (fun K' k'=>h (fun r0=>K' (.int .u64 r0)) k') (K:=fun x=>match x with | (.int .u64 r0)=>K r0 | _=>False) k,h K⟩
theorem yAb (p0:Int) (p1:Int) (p2:Int) (r0:Int) (r1:Int) (r2:Int) (h:∀ K:Int→Int→Int→Prop,K r0 r1 r2→ydx p0 p1 p2 K) (K:Int→Int→Int→Prop):ydx p0 p1 p2 K=K r0 r1 r2 :=
 propext ⟨fun k=>detC (ytc [] ya1) (az:=[(.agg [(.int .u64 p0),(.int .u64 p1)]),(.int .u64 p2)]) (x:=(.tup [(.agg [(.int .u64 r0),(.int .u64 r1)]),(.int .u64 r2)])) (fun K' k'=>h (fun r0 r1 r2=>K' (.tup [(.agg [(.int .u64 r0),(.int .u64 r1)]),(.int .u64 r2)])) k') (K:=fun x=>match x with | (.tup [(.agg [(.int .u64 r0),(.int .u64 r1)]),(.int .u64 r2)])=>K r0 r1 r2 | _=>False) k,h K⟩
abbrev yf6:Type:=Int→Ls→Ls→(Bool→Prop)→Prop
def ymL (p0:Int) (p1 p2:Ls) (K:Bool→Prop):Prop :=
 (cbr (decide ((((List.length p1):Nat):Int)>(60:Int)))
 (K true)
 (K (decide ((((List.length p2):Nat):Int)>(60:Int)))))
def yeN:yf6:=ymL
def yCw:Sg:=⟨pt16,Bool→Prop,fun K=>(fun r0=>K (.bool r0))⟩
def yCx (e:Es):SE:=sE (E e) [] lp0
theorem yCy (e:Es):EqW (yCx e) 6 yD4 yCw ymL:=fun _ _=>by kernel_rfl
theorem yCz (e:Es) (he:EG e):OkF (E e) (yCw.pw yeN) yjP:=okU he (yCy e) (yas (Sub.uni _) trivial trivial he.ok) ynm.flat (yam (by kernel_rfl))
def ycK (x0:Int→Prop) (x1:Int→Ls→Ls→Bool→Int→Bool→Prop):Nat→Int→Ls→Ls→Bool→Int→Prop
 | 0,_,_,_,_,_=>False
 | n+1,i0,l1,l2,b3,i4 =>
 (cbr (decide (i4<(((List.length l2):Nat):Int)))
 (asr (decide ((0:Int)≤(IntKind.i64.wrap (i4+(1:Int)))))
 (asr (decide ((IntKind.i64.wrap (i4+(1:Int)))<(((List.length l1):Nat):Int)))
 (asr (conf zI (List.getD l1 ((IntKind.i64.wrap (i4+(1:Int))).toNat) .nils))
 (asr (decide ((0:Int)≤i4))
 (asr (decide (i4<(((List.length l1):Nat):Int)))
 (asr (conf zI (List.getD l1 (i4.toNat) .nils))
 (cbr (decide ((yaa (List.getD l1 ((IntKind.i64.wrap (i4+(1:Int))).toNat) .nils))≤(yaa (List.getD l1 (i4.toNat) .nils))))
 (x0 (8:Int))
 (asr (decide ((0:Int)≤i4))
 (asr (decide (i4<(((List.length l2):Nat):Int)))
 (asr (conf zI (List.getD l2 (i4.toNat) .nils))
 (cbr (decide ((yaa (List.getD l2 (i4.toNat) .nils))<(0:Int)))
 (x0 (8:Int))
 (asr (decide ((0:Int)≤i4))
 (asr (decide (i4<(((List.length l2):Nat):Int)))
 (asr (conf zI (List.getD l2 (i4.toNat) .nils))
 (cbr (decide ((yaa (List.getD l2 (i4.toNat) .nils))>(12:Int)))
 (x0 (8:Int))
 (cbr b3
 (ycK x0 x1 n i0 l1 l2 true (IntKind.i64.wrap (i4+(1:Int))))
 (asr (decide ((0:Int)≤i4))
 (asr (decide (i4<(((List.length l2):Nat):Int)))
 (asr (conf zI (List.getD l2 (i4.toNat) .nils))
 (ycK x0 x1 n i0 l1 l2 (decide ((yaa (List.getD l2 (i4.toNat) .nils))>(0:Int))) (IntKind.i64.wrap (i4+(1:Int)))))))))))))))))))))))
 (x1 i0 l1 l2 b3 i4 false))
def ymM (p0:Int) (p1 p2:Ls) (K:Int→Prop):Prop :=
 (cbr (decide (p0>(1000:Int)))
 (K (4:Int))
 (cbr (decide ((((List.length p1):Nat):Int)>(40:Int)))
 (K (4:Int))
 (cbr (decide (p0<(1:Int)))
 (K (8:Int))
 (cbr (decide ((((List.length p1):Nat):Int)<(2:Int)))
 (K (8:Int))
 (cbr ((((List.length p2):Nat):Int) !=(IntKind.i64.wrap ((((List.length p1):Nat):Int)-(1:Int))))
 (K (8:Int))
 (asr (decide ((0:Int)<(((List.length p1):Nat):Int)))
 (asr (conf zI (List.getD p1 0 .nils))
 (cbr ((yaa (List.getD p1 0 .nils)) !=(0:Int))
 (K (8:Int))
 (asr (decide ((0:Int)≤(IntKind.i64.wrap ((((List.length p1):Nat):Int)-(1:Int)))))
 (asr (decide ((IntKind.i64.wrap ((((List.length p1):Nat):Int)-(1:Int)))<(((List.length p1):Nat):Int)))
 (asr (conf zI (List.getD p1 ((IntKind.i64.wrap ((((List.length p1):Nat):Int)-(1:Int))).toNat) .nils))
 (cbr ((yaa (List.getD p1 ((IntKind.i64.wrap ((((List.length p1):Nat):Int)-(1:Int))).toNat) .nils)) != p0)
 (K (8:Int))
 (∃ n:Nat,ycK
 (fun a=>(K a))
 (fun c d e b f g=>(cbr (!b)
 (K (8:Int))
 (K (0:Int))))
 n p0 p1 p2 false (0:Int))))))))))))))
def ybc:yap:=ymM
def ywN (Q:Qx):Int→Prop:=(fun i0=>Q .ret [(2,.v (.int .i64 i0))] [])
def ywO (Q:Qx):Int→Ls→Ls→Bool→Int→Bool→Prop:=(fun i0 l1 l2 b3 i4 b5=>Q (.exit 0) [(1,.box (.agg [(.int .i64 i0),(.data l1),(.data l2)])),(3,.v (.bool b3)),(4,.v (.int .i64 i4)),(57,.v (.bool b5))] [])
def yoI (Q:Qx):List St:=[⟨(pS hN (fX 1 pt15 (fV 3 vB pt13)) fN),ycK (ywN Q) (ywO Q)⟩]
def ytd:LP:=lpS [(94526800,yoI)]
def ymN (e:Es):SE:=sE (E e) [] (ytd)
theorem yqs (e:Es) (he:EG e):SEOk (Uni (E e)) (ymN e):=yas (Sub.uni _) trivial trivial he.ok
theorem yu5 (e:Es):ybM (ymN e) 5 a yre false (yoI):=fun _=>⟨fun _=>by kernel_rfl,fun _ _=>by kernel_rfl,trivial⟩
theorem yu6 (e:Es) (he:EG e):LpT (Uni (E e)) (ytd) [] 94526800 (.loop 94526800 yre):=fun _ _ _=>ysB.st (Sub.uni _) (yaD (yqs e he) 5) (YOk.no _ _) (yam (by kernel_rfl)) (yu5 e _)
theorem yCA (e:Es):EqW (ymN e) 6 yv5 ykG ymM:=fun _ _=>by kernel_rfl
theorem yis (e:Es) (he:EG e):OkF (E e) (ykG.pw ybc) yfX:=okU he (yCA e) (yqs e he) ynm.flat (yaW (l:=[(94526800,.loop 94526800 yre)]) ⟨yu6 e he,trivial⟩ (by kernel_rfl))
abbrev yfP:Type:=Int→Ls→Ls→(Int→Ls→Ls→Prop)→Prop
def yoJ (p0:Int) (p1 p2:Ls) (K:Int→Ls→Ls→Prop):Prop :=
 (asr (ycj 1 p1)
 (cbr (List.isEmpty p1)
 (asr (ycj 1 p2)
 (cbr (List.isEmpty p2)
 (K p0 ([]:Ls) ([]:Ls))
 (asr (decide (((List.length p2)+64)*(8+1)≤room))
 (asr (decide ((List.length p2)=(List.length p2)))
 (asr (decide ((0+(List.length p2))≤(List.length p2)))
 (K p0 ([]:Ls) (List.take (List.length p2) p2)))))))
 (asr (decide (((List.length p1)+64)*(8+1)≤room))
 (asr (ycj 1 p2)
 (cbr (List.isEmpty p2)
 (asr (decide ((List.length p1)=(List.length p1)))
 (asr (decide ((0+(List.length p1))≤(List.length p1)))
 (K p0 (List.take (List.length p1) p1) ([]:Ls))))
 (asr (decide (((List.length p2)+64)*(8+1)≤room))
 (asr (decide ((List.length p1)=(List.length p1)))
 (asr (decide ((0+(List.length p1))≤(List.length p1)))
 (asr (decide ((List.length p2)=(List.length p2)))
 (asr (decide ((0+(List.length p2))≤(List.length p2)))
 (K p0 (List.take (List.length p1) p1) (List.take (List.length p2) p2))))))))))))
def yfQ:yfP:=yoJ
def yEL:Sg:=⟨pt16,Int→Ls→Ls→Prop,fun K=>(fun r0 r1 r2=>K (.agg [(.int .i64 r0),(.data r1),(.data r2)]))⟩
def yEM (e:Es):SE:=sE (E e) [] lp0
theorem yEN (e:Es):EqW (yEM e) 6 yF3 yEL yoJ:=fun _ _=>by kernel_rfl
theorem yEO (e:Es) (he:EG e):OkF (E e) (yEL.pw yfQ) yma:=okU he (yEN e) (yas (Sub.uni _) trivial trivial he.ok) ynm.flat (yam (by kernel_rfl))
def ydf (x0:Int→Ls→Ls→Int→Int→Bool→Prop):Nat→Int→Ls→Ls→Int→Int→Prop
 | 0,_,_,_,_,_=>False
 | n+1,i0,l1,l2,i3,i4 =>
 (cbr (decide (i4<(((List.length l2):Nat):Int)))
 (asr (decide ((0:Int)≤i4))
 (asr (decide (i4<(((List.length l2):Nat):Int)))
 (asr (conf zI (List.getD l2 (i4.toNat) .nils))
 (asr (decide ((0:Int)≤(IntKind.i64.wrap (i4+(1:Int)))))
 (asr (decide ((IntKind.i64.wrap (i4+(1:Int)))<(((List.length l1):Nat):Int)))
 (asr (conf zI (List.getD l1 ((IntKind.i64.wrap (i4+(1:Int))).toNat) .nils))
 (asr (decide ((0:Int)≤i4))
 (asr (decide (i4<(((List.length l1):Nat):Int)))
 (asr (conf zI (List.getD l1 (i4.toNat) .nils))
 (ydf x0 n i0 l1 l2 (IntKind.i64.wrap (i3+(IntKind.i64.wrap ((yaa (List.getD l2 (i4.toNat) .nils))*(IntKind.i64.wrap ((yaa (List.getD l1 ((IntKind.i64.wrap (i4+(1:Int))).toNat) .nils))-(yaa (List.getD l1 (i4.toNat) .nils)))))))) (IntKind.i64.wrap (i4+(1:Int)))))))))))))
 (x0 i0 l1 l2 i3 i4 false))
def ymO (p0:Int) (p1 p2:Ls) (K:Int→Prop):Prop :=
 (∃ n:Nat,ydf
 (fun b c d a e f=>(K a))
 n p0 p1 p2 (0:Int) (0:Int))
def ya2:yap:=ymO
def ywP (Q:Qx):Int→Ls→Ls→Int→Int→Bool→Prop:=(fun i0 l1 l2 i3 i4 b5=>Q (.exit 0) [(1,.box (.agg [(.int .i64 i0),(.data l1),(.data l2)])),(3,.v (.int .i64 i3)),(4,.v (.int .i64 i4)),(9,.v (.bool b5))] [])
def yoK (Q:Qx):List St:=[⟨(pS hN (fX 1 pt15 (fV 3 pt2 pt13)) fN),ydf (ywP Q)⟩]
def yte:LP:=lpS [(21661800,yoK)]
def ymP (e:Es):SE:=sE (E e) [] (yte)
theorem yqt (e:Es) (he:EG e):SEOk (Uni (E e)) (ymP e):=yas (Sub.uni _) trivial trivial he.ok
theorem yu7 (e:Es):ybM (ymP e) 5 a yrh false (yoK):=fun _=>⟨fun _=>by kernel_rfl,fun _ _=>by kernel_rfl,trivial⟩
theorem yu8 (e:Es) (he:EG e):LpT (Uni (E e)) (yte) [] 21661800 (.loop 21661800 yrh):=fun _ _ _=>ysB.st (Sub.uni _) (yaD (yqt e he) 5) (YOk.no _ _) (yam (by kernel_rfl)) (yu7 e _)
theorem yCB (e:Es):EqW (ymP e) 6 yv7 ykG ymO:=fun _ _=>by kernel_rfl
theorem ytf (e:Es) (he:EG e):OkF (E e) (ykG.pw ya2) yjV:=okU he (yCB e) (yqt e he) ynm.flat (yaW (l:=[(21661800,.loop 21661800 yrh)]) ⟨yu8 e he,trivial⟩ (by kernel_rfl))
abbrev ycy:Type:=Int→Int→Int→(Bool→Prop)→Prop
def ymQ (a0:yav) (a1:yac) (a2:yau) (p0 p1 p2:Int) (K:Bool→Prop):Prop :=
 (a0 p1 p2 (fun a =>
 (cbr (a ==(0:Int))
 (cbr (decide (p1≥(0:Int)))
 (a1 p0 (fun b c =>
 (a2 b c p1 p2 (fun d =>
 (K (!d))))))
 (K false))
 (K false))))
def ycz:ycy:=ymQ ydw ybn yaC
def yCC:Sg:=⟨(lC pt2 pt8),Bool→Prop,fun K=>(fun r0=>K (.bool r0))⟩
def yCD (e:Es) (a0:yav) (a1:yac) (a2:yau):SE:=sE (E e) [(yfZ,yoe.pw a0),(yhC,ykJ.pw a1),(ydC,ysY.pw a2)] lp0
theorem yCE (e:Es) (a0 a1 a2):EqW (yCD e a0 a1 a2) 6 yEh yCC (ymQ a0 a1 a2):=fun _ _=>by kernel_rfl
theorem ytg (e:Es) (he:EG e):OkF (E e) (yCC.pw ycz) yhD:=okU he (yCE e _ _ _) (yas (Sub.uni _) ⟨(ymG e he),(ylq e he),(yeM e he),trivial⟩ trivial he.ok) ynm.flat (yam (by kernel_rfl))
def ymR (a0:yau) (p0 p1 p2 p3:Int) (K:Int→Int→Prop):Prop :=
 (a0 p0 p1 p2 p3 (fun a =>
 (cbr a
 (K p2 p3)
 (K p0 p1))))
def yd2:yah:=ymR yaC
def yth:Sg:=⟨pt12,Int→Int→Prop,fun K=>(fun r0 r1=>K (.agg [(.int .i64 r0),(.int .i64 r1)]))⟩
def yCF (e:Es) (a0:yau):SE:=sE (E e) [(ydC,ysY.pw a0)] lp0
theorem yCG (e:Es) (a0):EqW (yCF e a0) 6 yEi yth (ymR a0):=fun _ _=>by kernel_rfl
theorem yti (e:Es) (he:EG e):OkF (E e) (yth.pw yd2) yhE:=okU he (yCG e _) (yas (Sub.uni _) ⟨(yeM e he),trivial⟩ trivial he.ok) ynm.flat (yam (by kernel_rfl))
def ykS (a0:yau) (p0 p1 p2 p3:Int) (K:Int→Int→Prop):Prop :=
 (a0 p0 p1 p2 p3 (fun a =>
 (cbr a
 (K p0 p1)
 (K p2 p3))))
def yit:yah:=ykS yaC
def yAc (e:Es) (a0:yau):SE:=sE (E e) [(ydC,ysY.pw a0)] lp0
theorem yAd (e:Es) (a0):EqW (yAc e a0) 6 yBW yth (ykS a0):=fun _ _=>by kernel_rfl
theorem yAe (e:Es) (he:EG e):OkF (E e) (yth.pw yit) yih:=okU he (yAd e _) (yas (Sub.uni _) ⟨(yeM e he),trivial⟩ trivial he.ok) ynm.flat (yam (by kernel_rfl))
abbrev ycA:Type:=Int→Ls→Ls→Int→Int→Int→Int→Int→(Int→Int→Int→Prop)→Prop
def ymS (a0:yac) (a1:yah) (a2:yah) (a3:yau) (a4:yaf) (a5:yaf) (p0:Int) (p1 p2:Ls) (p3 p4 p5 p6 p7:Int) (K:Int→Int→Int→Prop):Prop :=
 (asr (decide ((0:Int)≤p3))
 (asr (decide (p3<(((List.length p1):Nat):Int)))
 (asr (conf zI (List.getD p1 (p3.toNat) .nils))
 (a0 (yaa (List.getD p1 (p3.toNat) .nils)) (fun f g =>
 (a1 p4 p5 f g (fun a b =>
 (asr (decide ((0:Int)≤(IntKind.i64.wrap (p3+(1:Int)))))
 (asr (decide ((IntKind.i64.wrap (p3+(1:Int)))<(((List.length p1):Nat):Int)))
 (asr (conf zI (List.getD p1 ((IntKind.i64.wrap (p3+(1:Int))).toNat) .nils))
 (a0 (yaa (List.getD p1 ((IntKind.i64.wrap (p3+(1:Int))).toNat) .nils)) (fun h i =>
 (a2 p6 p7 h i (fun c d =>
 (a3 a b c d (fun j =>
 (cbr (!j)
 (K (0:Int) (1:Int) (0:Int))
 (asr (decide ((0:Int)≤p3))
 (asr (decide (p3<(((List.length p2):Nat):Int)))
 (asr (conf zI (List.getD p2 (p3.toNat) .nils))
 (cbr ((yaa (List.getD p2 (p3.toNat) .nils)) ==(0:Int))
 (K (0:Int) (1:Int) (0:Int))
 (a4 c d a b (fun k l e =>
 (cbr (e !=(0:Int))
 (K (0:Int) (0:Int) e)
 (asr (decide ((0:Int)≤p3))
 (asr (decide (p3<(((List.length p2):Nat):Int)))
 (asr (conf zI (List.getD p2 (p3.toNat) .nils))
 (a0 (yaa (List.getD p2 (p3.toNat) .nils)) (fun m n =>
 (a5 k l m n (fun o p q =>
 (K o p q))))))))))))))))))))))))))))))))
def ycB:ycA:=ymS ybn yd2 yit yaC yf5 ybe
def yCH:Sg:=⟨(lC pt15 (lC pt2 pt12)),Int→Int→Int→Prop,fun K=>(fun r0 r1 r2=>K (.tup [(.agg [(.int .i64 r0),(.int .i64 r1)]),(.int .i64 r2)]))⟩
def yCI (e:Es) (a0:yac) (a1:yah) (a2:yah) (a3:yau) (a4:yaf) (a5:yaf):SE:=sE (E e) [(yhC,ykJ.pw a0),(yhE,yth.pw a1),(yih,yth.pw a2),(ydC,ysY.pw a3),(ylg,yds.pw a4),(yiI,yds.pw a5)] lp0
theorem yCJ (e:Es) (a0 a1 a2 a3 a4 a5):EqW (yCI e a0 a1 a2 a3 a4 a5) 6 yEk yCH (ymS a0 a1 a2 a3 a4 a5):=fun _ _=>by kernel_rfl
theorem ytj (e:Es) (he:EG e):OkF (E e) (yCH.pw ycB) yhF:=okU he (yCJ e _ _ _ _ _ _) (yas (Sub.uni _) ⟨(ylq e he),(yti e he),(yAe e he),(yeM e he),(yyQ e he),(yrP e he),trivial⟩ trivial he.ok) ynm.flat (yam (by kernel_rfl))
def ydg (a0:yap) (a1:ycy) (a2:yau) (a3:ycA) (a4:yaf) (x0:Int→Int→Int→Prop) (x1:Int→Ls→Ls→Int→Int→Int→Int→Int→Int→Int→Int→Int→Bool→Prop):Nat→Int→Ls→Ls→Int→Int→Int→Int→Int→Int→Int→Int→Int→Prop
 | 0,_,_,_,_,_,_,_,_,_,_,_,_=>False
 | n+1,i0,l1,l2,i3,i4,i5,i6,i7,i8,i9,i10,i11 =>
 (cbr (decide (i11<(((List.length l2):Nat):Int)))
 (a3 i0 l1 l2 i11 i3 i4 i5 i6 (fun c d a =>
 (cbr (a !=(0:Int))
 (x0 (0:Int) (0:Int) a)
 (a4 i9 i10 c d (fun e f b =>
 (cbr (b !=(0:Int))
 (x0 (0:Int) (0:Int) b)
 (ydg a0 a1 a2 a3 a4 x0 x1 n i0 l1 l2 i3 i4 i5 i6 i7 i8 e f (IntKind.i64.wrap (i11+(1:Int))))))))))
 (x1 i0 l1 l2 i3 i4 i5 i6 i7 i8 i9 i10 i11 false))
def ymT (a0:yap) (a1:ycy) (a2:yau) (a3:ycA) (a4:yaf) (p0:Int) (p1 p2:Ls) (p3 p4 p5 p6:Int) (K:Int→Int→Int→Prop):Prop :=
 (a0 p0 p1 p2 (fun a =>
 (cbr (a !=(0:Int))
 (a0 p0 p1 p2 (fun b =>
 (K (0:Int) (0:Int) b)))
 (a1 p0 p3 p4 (fun c =>
 (cbr (!c)
 (K (0:Int) (0:Int) (2:Int))
 (a1 p0 p5 p6 (fun d =>
 (cbr (!d)
 (K (0:Int) (0:Int) (2:Int))
 (a2 p5 p6 p3 p4 (fun e =>
 (cbr e
 (K (0:Int) (0:Int) (2:Int))
 (∃ n:Nat,ydg a0 a1 a2 a3 a4
 (fun f g h=>(K f g h))
 (fun k l m o p q r s t i j u v=>(K i j (0:Int)))
 n p0 p1 p2 p3 p4 p5 p6 (0:Int) (0:Int) (0:Int) (1:Int) (0:Int))))))))))))))
def yf7:ybU:=ymT ybc ycz yaC ycB yde
def ywQ (Q:Qx):Int→Int→Int→Prop:=(fun i0 i1 i2=>Q .ret [(6,.box (.agg [(.int .i64 i0),(.int .i64 i1)])),(7,.v (.int .i64 i2))] [])
def ywR (Q:Qx):Int→Ls→Ls→Int→Int→Int→Int→Int→Int→Int→Int→Int→Bool→Prop:=(fun i0 l1 l2 i3 i4 i5 i6 i7 i8 i9 i10 i11 b12=>Q (.exit 0) [(3,.box (.agg [(.int .i64 i0),(.data l1),(.data l2)])),(4,.box (.agg [(.int .i64 i3),(.int .i64 i4)])),(5,.box (.agg [(.int .i64 i5),(.int .i64 i6)])),(6,.box (.agg [(.int .i64 i7),(.int .i64 i8)])),(8,.box (.agg [(.int .i64 i9),(.int .i64 i10)])),(9,.v (.int .i64 i11)),(41,.v (.bool b12))] [])
def pt24:Pat Sta:=pS hN (fX 3 pt15 (fX 4 pt7 (fX 5 pt7 (fX 6 pt7 (fX 8 pt7 (fV 9 pt2 fN)))))) fN
def yoL (a0:yap) (a1:ycy) (a2:yau) (a3:ycA) (a4:yaf) (Q:Qx):List St:=[⟨pt24,ydg a0 a1 a2 a3 a4 (ywQ Q) (ywR Q)⟩]
def ytk (a0:yap) (a1:ycy) (a2:yau) (a3:ycA) (a4:yaf):LP:=lpS [(92446900,yoL a0 a1 a2 a3 a4)]
def ymU (e:Es) (a0:yap) (a1:ycy) (a2:yau) (a3:ycA) (a4:yaf):SE:=sE (E e) [(yfX,ykG.pw a0),(yhD,yCC.pw a1),(ydC,ysY.pw a2),(yhF,yCH.pw a3),(yiH,yds.pw a4)] (ytk a0 a1 a2 a3 a4)
theorem yqu (e:Es) (he:EG e):SEOk (Uni (E e)) (ymU e ybc ycz yaC ycB yde):=yas (Sub.uni _) ⟨(yis e he),(ytg e he),(yeM e he),(ytj e he),(yrM e he),trivial⟩ trivial he.ok
theorem yu9 (e:Es) (a0 a1 a2 a3 a4):ybM (ymU e a0 a1 a2 a3 a4) 5 a yrj false (yoL a0 a1 a2 a3 a4):=fun _=>⟨fun _=>by kernel_rfl,fun _ _=>by kernel_rfl,trivial⟩
theorem yva (e:Es) (he:EG e):LpT (Uni (E e)) (ytk ybc ycz yaC ycB yde) [] 92446900 (.loop 92446900 yrj):=fun _ _ _=>ysB.st (Sub.uni _) (yaD (yqu e he) 5) (YOk.no _ _) (yam (by kernel_rfl)) (yu9 e _ _ _ _ _ _)
theorem yCK (e:Es) (a0 a1 a2 a3 a4):EqW (ymU e a0 a1 a2 a3 a4) 6 yv9 yhq (ymT a0 a1 a2 a3 a4):=fun _ _=>by kernel_rfl
theorem ytl (e:Es) (he:EG e):OkF (E e) (yhq.pw yf7) yjZ:=okU he (yCK e _ _ _ _ _) (yqu e he) ynm.flat (yaW (l:=[(92446900,.loop 92446900 yrj)]) ⟨yva e he,trivial⟩ (by kernel_rfl))
def ycm (a0:yap) (a1:ycy) (a2:yav) (a3:yac) (a4:yau) (a5:yah) (a6:ycA) (a7:yaf) (a8:yaf) (a9:yaf) (x0:Int→Int→Int→Prop) (x1:Int→Ls→Ls→Int→Int→Int→Int→Int→Int→Int→Int→Int→Bool→Prop):Nat→Int→Ls→Ls→Int→Int→Int→Int→Int→Int→Int→Int→Int→Prop
 | 0,_,_,_,_,_,_,_,_,_,_,_,_=>False
 | n+1,i0,l1,l2,i3,i4,i5,i6,i7,i8,i9,i10,i11 =>
 (cbr (decide (i11<(((List.length l2):Nat):Int)))
 (cbr (decide (i5>(0:Int)))
 (asr (decide ((0:Int)≤(IntKind.i64.wrap (i11+(1:Int)))))
 (asr (decide ((IntKind.i64.wrap (i11+(1:Int)))<(((List.length l1):Nat):Int)))
 (asr (conf zI (List.getD l1 ((IntKind.i64.wrap (i11+(1:Int))).toNat) .nils))
 (a3 (yaa (List.getD l1 ((IntKind.i64.wrap (i11+(1:Int))).toNat) .nils)) (fun a b =>
 (a4 i9 i10 a b (fun h =>
 (cbr (!h)
 (a5 i9 i10 a b (fun i j =>
 (ycm a0 a1 a2 a3 a4 a5 a6 a7 a8 a9 x0 x1 n i0 l1 l2 i3 i4 i5 i6 i7 i8 i j (IntKind.i64.wrap (i11+(1:Int))))))
 (asr (decide ((0:Int)≤i11))
 (asr (decide (i11<(((List.length l2):Nat):Int)))
 (asr (conf zI (List.getD l2 (i11.toNat) .nils))
 (cbr ((yaa (List.getD l2 (i11.toNat) .nils)) ==(0:Int))
 (a5 i9 i10 a b (fun k l =>
 (ycm a0 a1 a2 a3 a4 a5 a6 a7 a8 a9 x0 x1 n i0 l1 l2 i3 i4 i5 i6 i7 i8 k l (IntKind.i64.wrap (i11+(1:Int))))))
 (a6 i0 l1 l2 i11 i9 i10 a b (fun c d e =>
 (cbr (e !=(0:Int))
 (x0 (0:Int) (0:Int) e)
 (a4 c d i5 i6 (fun m =>
 (cbr (!m)
 (asr (decide ((0:Int)≤i11))
 (asr (decide (i11<(((List.length l2):Nat):Int)))
 (asr (conf zI (List.getD l2 (i11.toNat) .nils))
 (a3 (yaa (List.getD l2 (i11.toNat) .nils)) (fun o p =>
 (a7 i5 i6 o p (fun q r f =>
 (cbr (f !=(0:Int))
 (x0 (0:Int) (0:Int) f)
 (a8 i9 i10 q r (fun s t u =>
 (x0 s t u)))))))))))
 (a9 i5 i6 c d (fun v w g =>
 (cbr (g !=(0:Int))
 (x0 (0:Int) (0:Int) g)
 (ycm a0 a1 a2 a3 a4 a5 a6 a7 a8 a9 x0 x1 n i0 l1 l2 i3 i4 v w i7 i8 a b (IntKind.i64.wrap (i11+(1:Int)))))))))))))))))))))))))
 (x1 i0 l1 l2 i3 i4 i5 i6 i7 i8 i9 i10 i11 false))
 (x1 i0 l1 l2 i3 i4 i5 i6 i7 i8 i9 i10 i11 false))
def yoM (a0:yap) (a1:ycy) (a2:yav) (a3:yac) (a4:yau) (a5:yah) (a6:ycA) (a7:yaf) (a8:yaf) (a9:yaf) (p0:Int) (p1 p2:Ls) (p3 p4 p5 p6:Int) (K:Int→Int→Int→Prop):Prop :=
 (a0 p0 p1 p2 (fun a =>
 (cbr (a !=(0:Int))
 (a0 p0 p1 p2 (fun b =>
 (K (0:Int) (0:Int) b)))
 (a1 p0 p3 p4 (fun c =>
 (cbr (!c)
 (K (0:Int) (0:Int) (2:Int))
 (a2 p5 p6 (fun d =>
 (cbr (d !=(0:Int))
 (K (0:Int) (0:Int) (2:Int))
 (cbr (decide (p5<(0:Int)))
 (K (0:Int) (0:Int) (2:Int))
 (∃ n:Nat,ycm a0 a1 a2 a3 a4 a5 a6 a7 a8 a9
 (fun e f g=>(K e f g))
 (fun k l m h i j o p q r s t u=>(cbr (decide (j>(0:Int)))
 (K (0:Int) (0:Int) (6:Int))
 (K h i (0:Int))))
 n p0 p1 p2 p3 p4 p5 p6 (0:Int) (0:Int) p3 p4 (0:Int))))))))))))
def yg8:ybU:=yoM ybc ycz ydw ybn yaC yd2 ycB yg7 yde yf5
def yyR (Q:Qx):Int→Int→Int→Prop:=(fun i0 i1 i2=>Q .ret [(6,.box (.agg [(.int .i64 i0),(.int .i64 i1)])),(7,.v (.int .i64 i2))] [])
def yyS (Q:Qx):Int→Ls→Ls→Int→Int→Int→Int→Int→Int→Int→Int→Int→Bool→Prop:=(fun i0 l1 l2 i3 i4 i5 i6 i7 i8 i9 i10 i11 b12=>Q (.exit 0) [(3,.box (.agg [(.int .i64 i0),(.data l1),(.data l2)])),(4,.box (.agg [(.int .i64 i3),(.int .i64 i4)])),(5,.box (.agg [(.int .i64 i5),(.int .i64 i6)])),(6,.box (.agg [(.int .i64 i7),(.int .i64 i8)])),(8,.box (.agg [(.int .i64 i9),(.int .i64 i10)])),(9,.v (.int .i64 i11)),(47,.v (.bool b12))] [])
def yqv (a0:yap) (a1:ycy) (a2:yav) (a3:yac) (a4:yau) (a5:yah) (a6:ycA) (a7:yaf) (a8:yaf) (a9:yaf) (Q:Qx):List St:=[⟨pt24,ycm a0 a1 a2 a3 a4 a5 a6 a7 a8 a9 (yyR Q) (yyS Q)⟩]
def ywg (a0:yap) (a1:ycy) (a2:yav) (a3:yac) (a4:yau) (a5:yah) (a6:ycA) (a7:yaf) (a8:yaf) (a9:yaf):LP:=lpS [(63725400,yqv a0 a1 a2 a3 a4 a5 a6 a7 a8 a9)]
def yoN (e:Es) (a0:yap) (a1:ycy) (a2:yav) (a3:yac) (a4:yau) (a5:yah) (a6:ycA) (a7:yaf) (a8:yaf) (a9:yaf):SE:=sE (E e) [(yfX,ykG.pw a0),(yhD,yCC.pw a1),(yfZ,yoe.pw a2),(yhC,ykJ.pw a3),(ydC,ysY.pw a4),(yhE,yth.pw a5),(yhF,yCH.pw a6),(ypt,yds.pw a7),(yiH,yds.pw a8),(ylg,yds.pw a9)] (ywg a0 a1 a2 a3 a4 a5 a6 a7 a8 a9)
theorem ytm (e:Es) (he:EG e):SEOk (Uni (E e)) (yoN e ybc ycz ydw ybn yaC yd2 ycB yg7 yde yf5):=yas (Sub.uni _) ⟨(yis e he),(ytg e he),(ymG e he),(ylq e he),(yeM e he),(yti e he),(ytj e he),(yGE e he),(yrM e he),(yyQ e he),trivial⟩ trivial he.ok
theorem ywS (e:Es) (a0 a1 a2 a3 a4 a5 a6 a7 a8 a9):ybM (yoN e a0 a1 a2 a3 a4 a5 a6 a7 a8 a9) 5 a yrk false (yqv a0 a1 a2 a3 a4 a5 a6 a7 a8 a9):=fun _=>⟨fun _=>by kernel_rfl,fun _ _=>by kernel_rfl,trivial⟩
theorem ywT (e:Es) (he:EG e):LpT (Uni (E e)) (ywg ybc ycz ydw ybn yaC yd2 ycB yg7 yde yf5) [] 63725400 (.loop 63725400 yrk):=fun _ _ _=>ysB.st (Sub.uni _) (yaD (ytm e he) 5) (YOk.no _ _) (yam (by kernel_rfl)) (ywS e _ _ _ _ _ _ _ _ _ _ _)
theorem yEP (e:Es) (a0 a1 a2 a3 a4 a5 a6 a7 a8 a9):EqW (yoN e a0 a1 a2 a3 a4 a5 a6 a7 a8 a9) 6 yyw yhq (yoM a0 a1 a2 a3 a4 a5 a6 a7 a8 a9):=fun _ _=>by kernel_rfl
theorem ywh (e:Es) (he:EG e):OkF (E e) (yhq.pw yg8) ymd:=okU he (yEP e _ _ _ _ _ _ _ _ _ _) (ytm e he) ynm.flat (yaW (l:=[(63725400,.loop 63725400 yrk)]) ⟨ywT e he,trivial⟩ (by kernel_rfl))
set_option linter.unusedVariables false
theorem yAf (p0:Int) (p1:Ls) (p2:Ls) (r0:Int) (h:∀ K:Int→Prop,K r0→ybc p0 p1 p2 K) (K:Int→Prop):ybc p0 p1 p2 K=K r0 :=
 propext ⟨fun k=>detC (yis [] ya1) (az:=[(.agg [(.int .i64 p0),(.data p1),(.data p2)])]) (x:=(.int .i64 r0)) (fun K' k'=>h (fun r0=>K' (.int .i64 r0)) k') (K:=fun x=>match x with | (.int .i64 r0)=>K r0 | _=>False) k,h K⟩
theorem yAg (p0:Int) (p1:Ls) (p2:Ls) (r0:Int) (h:∀ K:Int→Prop,K r0→ya2 p0 p1 p2 K) (K:Int→Prop):ya2 p0 p1 p2 K=K r0 :=
 propext ⟨fun k=>detC (ytf [] ya1) (az:=[(.agg [(.int .i64 p0),(.data p1),(.data p2)])]) (x:=(.int .i64 r0)) (fun K' k'=>h (fun r0=>K' (.int .i64 r0)) k') (K:=fun x=>match x with | (.int .i64 r0)=>K r0 | _=>False) k,h K⟩
theorem yAh (p0:Int) (p1:Ls) (p2:Ls) (p3:Int) (p4:Int) (p5:Int) (p6:Int) (r0:Int) (r1:Int) (r2:Int) (h:∀ K:Int→Int→Int→Prop,K r0 r1 r2→yf7 p0 p1 p2 p3 p4 p5 p6 K) (K:Int→Int→Int→Prop):yf7 p0 p1 p2 p3 p4 p5 p6 K=K r0 r1 r2 :=
 propext ⟨fun k=>detC (ytl [] ya1) (az:=[(.agg [(.int .i64 p0),(.data p1),(.data p2)]),(.agg [(.int .i64 p3),(.int .i64 p4)]),(.agg [(.int .i64 p5),(.int .i64 p6)])]) (x:=(.tup [(.agg [(.int .i64 r0),(.int .i64 r1)]),(.int .i64 r2)])) (fun K' k'=>h (fun r0 r1 r2=>K' (.tup [(.agg [(.int .i64 r0),(.int .i64 r1)]),(.int .i64 r2)])) k') (K:=fun x=>match x with | (.tup [(.agg [(.int .i64 r0),(.int .i64 r1)]),(.int .i64 r2)])=>K r0 r1 r2 | _=>False) k,h K⟩
theorem yCL (p0:Int) (p1:Ls) (p2:Ls) (p3:Int) (p4:Int) (p5:Int) (p6:Int) (r0:Int) (r1:Int) (r2:Int) (h:∀ K:Int→Int→Int→Prop,K r0 r1 r2→yg8 p0 p1 p2 p3 p4 p5 p6 K) (K:Int→Int→Int→Prop):yg8 p0 p1 p2 p3 p4 p5 p6 K=K r0 r1 r2 :=
 propext ⟨fun k=>detC (ywh [] ya1) (az:=[(.agg [(.int .i64 p0),(.data p1),(.data p2)]),(.agg [(.int .i64 p3),(.int .i64 p4)]),(.agg [(.int .i64 p5),(.int .i64 p6)])]) (x:=(.tup [(.agg [(.int .i64 r0),(.int .i64 r1)]),(.int .i64 r2)])) (fun K' k'=>h (fun r0 r1 r2=>K' (.tup [(.agg [(.int .i64 r0),(.int .i64 r1)]),(.int .i64 r2)])) k') (K:=fun x=>match x with | (.tup [(.agg [(.int .i64 r0),(.int .i64 r1)]),(.int .i64 r2)])=>K r0 r1 r2 | _=>False) k,h K⟩
abbrev yg9:Type:=Ls→(Bool→Prop)→Prop
def ycd (a0:yf6) (x0:Bool→Prop) (x1:Ls→Int→Bool→Prop):Nat→Ls→Int→Prop
 | 0,_,_=>False
 | n+1,l0,i1 =>
 (cbr (decide (i1<(((List.length l0):Nat):Int)))
 (asr (decide ((0:Int)≤i1))
 (asr (decide (i1<(((List.length l0):Nat):Int)))
 (asr (conf zK (List.getD l0 (i1.toNat) .nils))
 (a0 (yaa (yab (List.getD l0 (i1.toNat) .nils) 0)) (yaX (yab (List.getD l0 (i1.toNat) .nils) 1)) (yaX (yab (List.getD l0 (i1.toNat) .nils) 2)) (fun a =>
 (cbr a
 (x0 true)
 (ycd a0 x0 x1 n l0 (IntKind.i64.wrap (i1+(1:Int))))))))))
 (x1 l0 i1 false))
def ygs (a0:yf6) (p0:Ls) (K:Bool→Prop):Prop :=
 (∃ n:Nat,ycd a0
 (fun a=>(K a))
 (fun b c d=>(K (decide ((((List.length b):Nat):Int)>(10:Int)))))
 n p0 (0:Int))
def yc3:yg9:=ygs yeN
def ytn:Sg:=⟨pt9,Bool→Prop,fun K=>(fun r0=>K (.bool r0))⟩
def yoO (Q:Qx):Bool→Prop:=(fun b0=>Q .ret [(2,.v (.bool b0))] [])
def yoP (Q:Qx):Ls→Int→Bool→Prop:=(fun l0 i1 b2=>Q (.exit 0) [(0,.v (.data l0)),(3,.v (.int .i64 i1)),(7,.v (.bool b2))] [])
def yh5 (a0:yf6) (Q:Qx):List St:=[⟨(pS hN (fV 0 vD (fV 3 pt2 fN)) fN),ycd a0 (yoO Q) (yoP Q)⟩]
def yj9 (a0:yf6):LP:=lpS [(4277600,yh5 a0)]
def ygt (e:Es) (a0:yf6):SE:=sE (E e) [(yjP,yCw.pw a0)] (yj9 a0)
theorem yjt (e:Es) (he:EG e):SEOk (Uni (E e)) (ygt e yeN):=yas (Sub.uni _) ⟨(yCz e he),trivial⟩ trivial he.ok
theorem ynP (e:Es) (a0):ybM (ygt e a0) 5 a yuA false (yh5 a0):=fun _=>⟨fun _=>by kernel_rfl,fun _ _=>by kernel_rfl,trivial⟩
theorem ynQ (e:Es) (he:EG e):LpT (Uni (E e)) (yj9 yeN) [] 4277600 (.loop 4277600 yuA):=fun _ _ _=>ysB.st (Sub.uni _) (yaD (yjt e he) 5) (YOk.no _ _) (yam (by kernel_rfl)) (ynP e _ _)
theorem yto (e:Es) (a0):EqW (ygt e a0) 6 ylh ytn (ygs a0):=fun _ _=>by kernel_rfl
theorem yka (e:Es) (he:EG e):OkF (E e) (ytn.pw yc3) yeY:=okU he (yto e _) (yjt e he) ynm.flat (yaW (l:=[(4277600,.loop 4277600 yuA)]) ⟨ynQ e he,trivial⟩ (by kernel_rfl))
def ydh (a0:yap) (a:Int→Prop) (b:Ls→Ls→Int→Bool→Prop):Nat→Ls→Ls→Int→Prop
 | 0,_,_,_=>False
 | c+1,l0,l1,i2 =>
 (cbr (decide (i2<(((List.length l0):Nat):Int)))
 (asr (decide ((0:Int)≤i2))
 (asr (decide (i2<(((List.length l0):Nat):Int)))
 (asr (conf zK (List.getD l0 (i2.toNat) .nils))
 (a0 (yaa (yab (List.getD l0 (i2.toNat) .nils) 0)) (yaX (yab (List.getD l0 (i2.toNat) .nils) 1)) (yaX (yab (List.getD l0 (i2.toNat) .nils) 2)) (fun d =>
 (cbr (d !=(0:Int))
 (asr (decide ((0:Int)≤i2))
 (asr (decide (i2<(((List.length l0):Nat):Int)))
 (asr (conf zK (List.getD l0 (i2.toNat) .nils))
 (a0 (yaa (yab (List.getD l0 (i2.toNat) .nils) 0)) (yaX (yab (List.getD l0 (i2.toNat) .nils) 1)) (yaX (yab (List.getD l0 (i2.toNat) .nils) 2)) (fun e =>
 (a e))))))
 (ydh a0 a b c l0 l1 (IntKind.i64.wrap (i2+(1:Int))))))))))
 (b l0 l1 i2 false))
def ycL (a0:yap) (a:Int→Prop) (b:Ls→Ls→Int→Bool→Prop):Nat→Ls→Ls→Int→Prop
 | 0,_,_,_=>False
 | c+1,l0,l1,i2 =>
 (cbr (decide (i2<(((List.length l0):Nat):Int)))
 (asr (decide ((0:Int)≤i2))
 (asr (decide (i2<(((List.length l0):Nat):Int)))
 (asr (conf zK (List.getD l0 (i2.toNat) .nils))
 (asr (decide ((0:Int)<(((List.length l0):Nat):Int)))
 (asr (conf zK (List.getD l0 0 .nils))
 (cbr ((yaa (yab (List.getD l0 (i2.toNat) .nils) 0)) !=(yaa (yab (List.getD l0 0 .nils) 0)))
 (a (8:Int))
 (ycL a0 a b c l0 l1 (IntKind.i64.wrap (i2+(1:Int))))))))))
 (b l0 l1 i2 false))
def ymV (a0:yap) (p0 p1:Ls) (K:Int→Prop):Prop :=
 (cbr (decide ((((List.length p0):Nat):Int)>(6:Int)))
 (K (4:Int))
 (cbr (decide ((((List.length p1):Nat):Int)>(2000:Int)))
 (K (4:Int))
 (cbr ((((List.length p0):Nat):Int) ==(0:Int))
 (K (8:Int))
 (∃ a:Nat,ydh a0
 (fun b=>(K b))
 (fun c d g h=>(∃ e:Nat,ycL a0
 (fun f=>(K f))
 (fun i j k l=>(K (0:Int)))
 e c d (0:Int)))
 a p0 p1 (0:Int)))))
def yeO:yan:=ymV ybc
def ywU (Q:Qx):Int→Prop:=(fun i0=>Q .ret [(2,.v (.int .i64 i0))] [])
def ywV (Q:Qx):Ls→Ls→Int→Bool→Prop:=(fun l0 l1 i2 b3=>Q (.exit 0) [(1,.box (.agg [(.data l0),(.data l1)])),(3,.v (.int .i64 i2)),(23,.v (.bool b3))] [])
def ywW (Q:Qx):Int→Prop:=(fun i0=>Q .ret [(2,.v (.int .i64 i0))] [])
def ywX (Q:Qx):Ls→Ls→Int→Bool→Prop:=(fun l0 l1 i2 b3=>Q (.exit 2) [(1,.box (.agg [(.data l0),(.data l1)])),(4,.v (.int .i64 i2)),(43,.v (.bool b3))] [])
def yoQ (a0:yap) (Q:Qx):List St:=[⟨(pS hN (fX 1 pt19 (fV 3 pt2 fN)) fN),ydh a0 (ywU Q) (ywV Q)⟩]
def yoR (a0:yap) (Q:Qx):List St:=[⟨(pS hN (fX 1 pt19 pt13) fN),ycL a0 (ywW Q) (ywX Q)⟩]
def ymW (a0:yap):LP:=lpS [(6981300,yoQ a0),(6981301,yoR a0)]
def yiu (e:Es) (a0:yap):SE:=sE (E e) [(yfX,ykG.pw a0)] (ymW a0)
theorem ykT (e:Es) (he:EG e):SEOk (Uni (E e)) (yiu e ybc):=yas (Sub.uni _) ⟨(yis e he),trivial⟩ trivial he.ok
theorem yvb (e:Es) (a0):ybM (yiu e a0) 5 a yuD false (yoQ a0):=fun _=>⟨fun _=>by kernel_rfl,fun _ _=>by kernel_rfl,trivial⟩
theorem yvc (e:Es) (he:EG e):LpT (Uni (E e)) (ymW ybc) [] 6981300 (.loop 6981300 yuD):=fun _ _ _=>ysB.st (Sub.uni _) (yaD (ykT e he) 5) (YOk.no _ _) (yam (by kernel_rfl)) (yvb e _ _)
theorem yvd (e:Es) (a0):ybM (yiu e a0) 5 a yuE false (yoR a0):=fun _=>⟨fun _=>by kernel_rfl,fun _ _=>by kernel_rfl,trivial⟩
theorem yve (e:Es) (he:EG e):LpT (Uni (E e)) (ymW ybc) [] 6981301 (.loop 6981301 yuE):=fun _ _ _=>ysB.st (Sub.uni _) (yaD (ykT e he) 5) (YOk.no _ _) (yam (by kernel_rfl)) (yvd e _ _)
theorem yCM (e:Es) (a0):EqW (yiu e a0) 6 yoa ys4 (ymV a0):=fun _ _=>by kernel_rfl
theorem ymX (e:Es) (he:EG e):OkF (E e) (ys4.pw yeO) yhA:=okU he (yCM e _) (ykT e he) ynm.flat (yaW (l:=[(6981300,.loop 6981300 yuD),(6981301,.loop 6981301 yuE)]) ⟨yvc e he,yve e he,trivial⟩ (by kernel_rfl))
mutual
def yfA (a0:yfP) (x0:Ls→Ls→Int→Bool→Prop) (x1:Ls→Int→Bool→Prop):Nat→Ls→Int→Prop
 | 0,_,_=>False
 | n+1,l0,i1 =>
 (cbr (decide (i1<(((List.length l0):Nat):Int)))
 (asr (decide ((0:Int)≤i1))
 (asr (decide (i1<(((List.length l0):Nat):Int)))
 (asr (conf zK (List.getD l0 (i1.toNat) .nils))
 (a0 (yaa (yab (List.getD l0 (i1.toNat) .nils) 0)) (yaX (yab (List.getD l0 (i1.toNat) .nils) 1)) (yaX (yab (List.getD l0 (i1.toNat) .nils) 2)) (fun a b c =>
 (asr (decide (1=List.length ([(.agg [(.int .i64 a),(.data b),(.data c)])]:Ls))&&decide (1=List.length ([(.agg [(.int .i64 a),(.data b),(.data c)])]:Ls)))
 (ydi a0 x0 x1 n ([(.agg [(.int .i64 a),(.data b),(.data c)])]:Ls) l0 (IntKind.i64.wrap (i1+(1:Int))))))))))
 (x1 l0 i1 false))
def ydi (a0:yfP) (x0:Ls→Ls→Int→Bool→Prop) (x1:Ls→Int→Bool→Prop):Nat→Ls→Ls→Int→Prop
 | 0,_,_,_=>False
 | n+1,l0,l1,i4 =>
 (cbr (decide (i4<(((List.length l1):Nat):Int)))
 (asr (decide ((0:Int)≤i4))
 (asr (decide (i4<(((List.length l1):Nat):Int)))
 (asr (conf zK (List.getD l1 (i4.toNat) .nils))
 (a0 (yaa (yab (List.getD l1 (i4.toNat) .nils) 0)) (yaX (yab (List.getD l1 (i4.toNat) .nils) 1)) (yaX (yab (List.getD l1 (i4.toNat) .nils) 2)) (fun a b c =>
 (asr (decide ((List.length l0)=(List.length l0)))
 (asr (decide ((0+(List.length l0))≤(List.length l0)))
 (asr (!(decide (((0+(List.length l0))+1)≤(List.length l0))))
 (asr (decide ((List.length l0)=(List.length l0)))
 (asr (decide ((((List.length l0)+1)+64)*(56+1)≤room))
 (asr (decide ((List.length (l0++([(.agg [(.int .i64 a),(.data b),(.data c)])]:Ls)))=List.length (l0++([(.agg [(.int .i64 a),(.data b),(.data c)])]:Ls)))&&decide ((List.length (l0++([(.agg [(.int .i64 a),(.data b),(.data c)])]:Ls)))=List.length (l0++([(.agg [(.int .i64 a),(.data b),(.data c)])]:Ls))))
 (ydi a0 x0 x1 n (l0++([(.agg [(.int .i64 a),(.data b),(.data c)])]:Ls)) l1 (IntKind.i64.wrap (i4+(1:Int)))))))))))))))
 (x0 l0 l1 i4 false))
end
def ymY (a0:yfP) (p0:Ls) (K:Ls→Prop):Prop :=
 (∃ n:Nat,yfA a0
 (fun a b c d=>(asr (decide ((List.length a)=(List.length a)))
 (asr (decide ((0+(List.length a))≤(List.length a)))
 (K (List.take (List.length a) a)))))
 (fun e f g=>(K ([]:Ls)))
 n p0 (0:Int))
def yeP:ybt:=ymY yfQ
def ynv (Q:Qx):Ls→Ls→Int→Bool→Prop:=(fun l0 l1 i4 b5=>Q (.exit 0) [(0,.v (.data l1)),(3,.v (.own 0 0 (List.length l0) (List.length l0) none)),(4,.v (.int .i64 i4)),(8,.v (.bool b5))] [⟨false,true,3,l0⟩])
def ynw (Q:Qx):Ls→Int→Bool→Prop:=(fun l0 i1 b2=>Q (.exit 0) [(0,.v (.data l0)),(3,.v .nils),(4,.v (.int .i64 i1)),(8,.v (.bool b2))] [])
def pt25:Pat Sta:=pS hN (fV 0 vD (fV 3 vNs pt13)) fN
def yoS (a0:yfP) (Q:Qx):List St:=[⟨pt25,yfA a0 (ynv Q) (ynw Q)⟩,⟨(pS pt20 (fV 0 vD (fV 3 pt21 pt13)) fN),ydi a0 (ynv Q) (ynw Q)⟩]
def ytp (a0:yfP):LP:=lpS [(44560800,yoS a0)]
def ymZ (e:Es) (a0:yfP):SE:=sE (E e) [(yma,yEL.pw a0)] (ytp a0)
theorem yqw (e:Es) (he:EG e):SEOk (Uni (E e)) (ymZ e yfQ):=yas (Sub.uni _) ⟨(yEO e he),trivial⟩ trivial he.ok
theorem yvf (e:Es) (a0):ybM (ymZ e a0) 5 a yrf false (yoS a0):=fun _=>⟨fun _=>by kernel_rfl,fun _ _=>by kernel_rfl,fun _=>by kernel_rfl,fun _ _=>by kernel_rfl,trivial⟩
theorem yvg (e:Es) (he:EG e):LpT (Uni (E e)) (ytp yfQ) [] 44560800 (.loop 44560800 yrf):=fun _ _ _=>ysB.st (Sub.uni _) (yaD (yqw e he) 5) (YOk.no _ _) (yam (by kernel_rfl)) (yvf e _ _)
theorem yCN (e:Es) (a0):EqW (ymZ e a0) 6 yv6 ykQ (ymY a0):=fun _ _=>by kernel_rfl
theorem ym0 (e:Es) (he:EG e):OkF (E e) (ykQ.pw yeP) yhB:=okU he (yCN e _) (yqw e he) ynm.flat (yaW (l:=[(44560800,.loop 44560800 yrf)]) ⟨yvg e he,trivial⟩ (by kernel_rfl))
def yoT (a0:yan) (a1:ybt) (p0:Ls) (K:Ls→Ls→Int→Prop):Prop :=
 (a0 p0 ([]:Ls) (fun a =>
 (cbr (a !=(0:Int))
 (a0 p0 ([]:Ls) (fun b =>
 (K ([]:Ls) ([]:Ls) b)))
 (a1 p0 (fun c =>
 (K c ([]:Ls) (0:Int)))))))
def yha:yaZ:=yoT yeO yeP
def yEQ (e:Es) (a0:yan) (a1:ybt):SE:=sE (E e) [(yhA,ys4.pw a0),(yhB,ykQ.pw a1)] lp0
theorem yER (e:Es) (a0 a1):EqW (yEQ e a0 a1) 6 yF4 ywa (yoT a0 a1):=fun _ _=>by kernel_rfl
theorem yES (e:Es) (he:EG e):OkF (E e) (ywa.pw yha) ymb:=okU he (yER e _ _) (yas (Sub.uni _) ⟨(ymX e he),(ym0 e he),trivial⟩ trivial he.ok) ynm.flat (yam (by kernel_rfl))
def ym1 (p0 p1:Ls) (p2:Int) (K:Bool→Prop):Prop :=
 (cbr (decide (p2≥(0:Int)))
 (K (decide (p2<(((List.length p0):Nat):Int))))
 (K false))
def ykb:ybB:=ym1
def yCO (e:Es):SE:=sE (E e) [] lp0
theorem yCP (e:Es):EqW (yCO e) 6 yEe yj6 ym1:=fun _ _=>by kernel_rfl
theorem yCQ (e:Es) (he:EG e):OkF (E e) (yj6.pw ykb) yjW:=okU he (yCP e) (yas (Sub.uni _) trivial trivial he.ok) ynm.flat (yam (by kernel_rfl))
abbrev ym2:Type:=Ls→Int→Int→Int→Int→Int→Int→Int→Int→(Int→Int→Int→Prop)→Prop
def ykU (a0:ybU) (a1:ybU) (p0:Ls) (p1 p2 p3 p4 p5 p6 p7 p8:Int) (K:Int→Int→Int→Prop):Prop :=
 (cbr (p2 ==(1:Int))
 (asr (decide ((0:Int)≤p1))
 (asr (decide (p1<(((List.length p0):Nat):Int)))
 (asr (conf zK (List.getD p0 (p1.toNat) .nils))
 (a0 (yaa (yab (List.getD p0 (p1.toNat) .nils) 0)) (yaX (yab (List.getD p0 (p1.toNat) .nils) 1)) (yaX (yab (List.getD p0 (p1.toNat) .nils) 2)) p3 p4 p5 p6 (fun a b c =>
 (K a b c))))))
 (asr (decide ((0:Int)≤p1))
 (asr (decide (p1<(((List.length p0):Nat):Int)))
 (asr (conf zK (List.getD p0 (p1.toNat) .nils))
 (a1 (yaa (yab (List.getD p0 (p1.toNat) .nils) 0)) (yaX (yab (List.getD p0 (p1.toNat) .nils) 1)) (yaX (yab (List.getD p0 (p1.toNat) .nils) 2)) p3 p4 p5 p6 (fun d e f =>
 (K d e f)))))))
def yiv:ym2:=ykU yf7 yg8
def pt26:LPt:=lC pt2 (lC pt2 pt6)
def pt27:LPt:=lC (vA (lC pt2 (lC (vI IntKind.u8) (lC pt2 (lC pt2 pt26))))) lN
def yAi:Sg:=⟨(lC vD pt27),Int→Int→Int→Prop,fun K=>(fun r0 r1 r2=>K (.tup [(.agg [(.int .i64 r0),(.int .i64 r1)]),(.int .i64 r2)]))⟩
def yAj (e:Es) (a0:ybU) (a1:ybU):SE:=sE (E e) [(yjZ,yhq.pw a0),(ymd,yhq.pw a1)] lp0
theorem yAk (e:Es) (a0 a1):EqW (yAj e a0 a1) 6 yBX yAi (ykU a0 a1):=fun _ _=>by kernel_rfl
theorem yAl (e:Es) (he:EG e):OkF (E e) (yAi.pw yiv) yii:=okU he (yAk e _ _) (yas (Sub.uni _) ⟨(ytl e he),(ywh e he),trivial⟩ trivial he.ok) ynm.flat (yam (by kernel_rfl))
abbrev yhJ:Type:=Ls→Ls→Int→Int→Int→Int→Int→Int→Int→Int→(Ls→Ls→Int→Int→Int→Prop)→Prop
def ym3 (a0:yan) (a1:ybB) (a2:ym2) (a3:ybt) (p0 p1:Ls) (p2 p3 p4 p5 p6 p7 p8 p9:Int) (K:Ls→Ls→Int→Int→Int→Prop):Prop :=
 (a0 p0 p1 (fun e =>
 (cbr (e !=(0:Int))
 (a0 p0 p1 (fun f =>
 (K ([]:Ls) ([]:Ls) (0:Int) (0:Int) f)))
 (a1 p0 p1 p2 (fun g =>
 (cbr (!g)
 (K ([]:Ls) ([]:Ls) (0:Int) (0:Int) (2:Int))
 (a2 p0 p2 p3 p4 p5 p6 p7 p8 p9 (fun a b c =>
 (cbr (c !=(0:Int))
 (K ([]:Ls) ([]:Ls) (0:Int) (0:Int) c)
 (cbr ((((List.length p1):Nat):Int) ==(2000:Int))
 (K ([]:Ls) ([]:Ls) (0:Int) (0:Int) (4:Int))
 (a3 p0 (fun d =>
 (asr (ycj 8 p1)
 (cbr (List.isEmpty p1)
 (K d ([(.agg [(.int .i64 p2),(.int .u8 p3),(.int .i64 p4),(.int .i64 p5),(.int .i64 p6),(.int .i64 p7),(.int .i64 a),(.int .i64 b)])]:Ls) a b (0:Int))
 (asr (decide (((List.length p1)+64)*(64+1)≤room))
 (asr (decide ((List.length p1)=(List.length p1)))
 (asr (decide ((0+(List.length p1))≤(List.length p1)))
 (asr (!(decide (((0+(List.length p1))+1)≤(List.length p1))))
 (asr (decide ((List.length p1)=(List.length p1)))
 (asr (decide ((((List.length p1)+1)+64)*(64+1)≤room))
 (asr (decide ((List.length (p1++([(.agg [(.int .i64 p2),(.int .u8 p3),(.int .i64 p4),(.int .i64 p5),(.int .i64 p6),(.int .i64 p7),(.int .i64 a),(.int .i64 b)])]:Ls)))=(List.length (p1++([(.agg [(.int .i64 p2),(.int .u8 p3),(.int .i64 p4),(.int .i64 p5),(.int .i64 p6),(.int .i64 p7),(.int .i64 a),(.int .i64 b)])]:Ls)))))
 (asr (decide ((0+(List.length (p1++([(.agg [(.int .i64 p2),(.int .u8 p3),(.int .i64 p4),(.int .i64 p5),(.int .i64 p6),(.int .i64 p7),(.int .i64 a),(.int .i64 b)])]:Ls))))≤(List.length (p1++([(.agg [(.int .i64 p2),(.int .u8 p3),(.int .i64 p4),(.int .i64 p5),(.int .i64 p6),(.int .i64 p7),(.int .i64 a),(.int .i64 b)])]:Ls)))))
 (K d (List.take (List.length (p1++([(.agg [(.int .i64 p2),(.int .u8 p3),(.int .i64 p4),(.int .i64 p5),(.int .i64 p6),(.int .i64 p7),(.int .i64 a),(.int .i64 b)])]:Ls))) (p1++([(.agg [(.int .i64 p2),(.int .u8 p3),(.int .i64 p4),(.int .i64 p5),(.int .i64 p6),(.int .i64 p7),(.int .i64 a),(.int .i64 b)])]:Ls))) a b (0:Int))))))))))))))))))))))))
def yeQ:yhJ:=ym3 yeO ykb yiv yeP
def yCR:Sg:=⟨(lC pt19 pt27),Ls→Ls→Int→Int→Int→Prop,fun K=>(fun r0 r1 r2 r3 r4=>K (.tup [(.agg [(.data r0),(.data r1)]),(.agg [(.int .i64 r2),(.int .i64 r3)]),(.int .i64 r4)]))⟩
def yCS (e:Es) (a0:yan) (a1:ybB) (a2:ym2) (a3:ybt):SE:=sE (E e) [(yhA,ys4.pw a0),(yjW,yj6.pw a1),(yii,yAi.pw a2),(yhB,ykQ.pw a3)] lp0
theorem yCT (e:Es) (a0 a1 a2 a3):EqW (yCS e a0 a1 a2 a3) 6 yEl yCR (ym3 a0 a1 a2 a3):=fun _ _=>by kernel_rfl
theorem ym4 (e:Es) (he:EG e):OkF (E e) (yCR.pw yeQ) yhG:=okU he (yCT e _ _ _ _) (yas (Sub.uni _) ⟨(ymX e he),(yCQ e he),(yAl e he),(ym0 e he),trivial⟩ trivial he.ok) ynm.flat (yam (by kernel_rfl))
def ym5 (a0:yhJ) (p0 p1:Ls) (p2 p3 p4 p5 p6:Int) (K:Ls→Ls→Int→Int→Int→Prop):Prop :=
 (a0 p0 p1 p2 (1:Int) p3 p4 p5 p6 (0:Int) (0:Int) (fun a b c d e =>
 (K a b c d e)))
def yaV:yaO:=ym5 yeQ
def yCU (e:Es) (a0:yhJ):SE:=sE (E e) [(yhG,yCR.pw a0)] lp0
theorem yCV (e:Es) (a0):EqW (yCU e a0) 6 yEm yiq (ym5 a0):=fun _ _=>by kernel_rfl
theorem yCW (e:Es) (he:EG e):OkF (E e) (yiq.pw yaV) yj0:=okU he (yCV e _) (yas (Sub.uni _) ⟨(ym4 e he),trivial⟩ trivial he.ok) ynm.flat (yam (by kernel_rfl))
def yoU (a0:yhJ) (p0 p1:Ls) (p2 p3 p4 p5 p6:Int) (K:Ls→Ls→Int→Int→Int→Prop):Prop :=
 (a0 p0 p1 p2 (2:Int) p3 p4 p5 p6 (0:Int) (0:Int) (fun a b c d e =>
 (K a b c d e)))
def ybd:yaO:=yoU yeQ
def yET (e:Es) (a0:yhJ):SE:=sE (E e) [(yhG,yCR.pw a0)] lp0
theorem yEU (e:Es) (a0):EqW (yET e a0) 6 yGb yiq (yoU a0):=fun _ _=>by kernel_rfl
theorem yEV (e:Es) (he:EG e):OkF (E e) (yiq.pw ybd) yme:=okU he (yEU e _) (yas (Sub.uni _) ⟨(ym4 e he),trivial⟩ trivial he.ok) ynm.flat (yam (by kernel_rfl))
abbrev ybx:Type:=Ls→Ls→(Bool→Prop)→Prop
def yca (x0:Bool→Prop) (x1:Ls→Ls→Int→Bool→Prop):Nat→Ls→Ls→Int→Prop
 | 0,_,_,_=>False
 | n+1,l0,l1,i2 =>
 (cbr (decide (i2<(((List.length l0):Nat):Int)))
 (asr (decide ((0:Int)≤i2))
 (asr (decide (i2<(((List.length l0):Nat):Int)))
 (asr (conf (.agg [.i .i64,.i .u8,.i .i64,.i .i64,.i .i64,.i .i64,.i .i64,.i .i64]) (List.getD l0 (i2.toNat) .nils))
 (asr (decide ((0:Int)≤i2))
 (asr (decide (i2<(((List.length l1):Nat):Int)))
 (asr (conf (.agg [.i .i64,.i .u8,.i .i64,.i .i64,.i .i64,.i .i64,.i .i64,.i .i64]) (List.getD l1 (i2.toNat) .nils))
 (cbr (!(((yaa (yab (List.getD l0 (i2.toNat) .nils) 0)) ==(yaa (yab (List.getD l1 (i2.toNat) .nils) 0)))&&(((yaa (yab (List.getD l0 (i2.toNat) .nils) 1)) ==(yaa (yab (List.getD l1 (i2.toNat) .nils) 1)))&&(((yaa (yab (List.getD l0 (i2.toNat) .nils) 2)) ==(yaa (yab (List.getD l1 (i2.toNat) .nils) 2)))&&(((yaa (yab (List.getD l0 (i2.toNat) .nils) 3)) ==(yaa (yab (List.getD l1 (i2.toNat) .nils) 3)))&&(((yaa (yab (List.getD l0 (i2.toNat) .nils) 4)) ==(yaa (yab (List.getD l1 (i2.toNat) .nils) 4)))&&(((yaa (yab (List.getD l0 (i2.toNat) .nils) 5)) ==(yaa (yab (List.getD l1 (i2.toNat) .nils) 5)))&&(((yaa (yab (List.getD l0 (i2.toNat) .nils) 6)) ==(yaa (yab (List.getD l1 (i2.toNat) .nils) 6)))&&(((yaa (yab (List.getD l0 (i2.toNat) .nils) 7)) ==(yaa (yab (List.getD l1 (i2.toNat) .nils) 7)))&&true)))))))))
 (x0 false)
 (yca x0 x1 n l0 l1 (IntKind.i64.wrap (i2+(1:Int)))))))))))
 (x1 l0 l1 i2 false))
def yhV (p0 p1:Ls) (K:Bool→Prop):Prop :=
 (cbr ((((List.length p0):Nat):Int) !=(((List.length p1):Nat):Int))
 (K false)
 (∃ n:Nat,yca
 (fun a=>(K a))
 (fun b c d e=>(K true))
 n p0 p1 (0:Int)))
def ycC:ybx:=yhV
def ynx:Sg:=⟨(lC vD pt9),Bool→Prop,fun K=>(fun r0=>K (.bool r0))⟩
def yrR (Q:Qx):Bool→Prop:=(fun b0=>Q .ret [(4,.v (.bool b0))] [])
def yrS (Q:Qx):Ls→Ls→Int→Bool→Prop:=(fun l0 l1 i2 b3=>Q (.exit 0) [(0,.v (.data l0)),(1,.v (.data l1)),(5,.v (.int .i64 i2)),(14,.v (.bool b3))] [])
def pt28:Pat Sta:=pS hN (fV 0 vD (fV 1 vD (fV 5 pt2 fN))) fN
def ykc (Q:Qx):List St:=[⟨pt28,yca (yrR Q) (yrS Q)⟩]
def yny:LP:=lpS [(11728400,ykc)]
def yhW (e:Es):SE:=sE (E e) [] (yny)
theorem ylr (e:Es) (he:EG e):SEOk (Uni (E e)) (yhW e):=yas (Sub.uni _) trivial trivial he.ok
theorem ypT (e:Es):ybM (yhW e) 5 a yrp false (ykc):=fun _=>⟨fun _=>by kernel_rfl,fun _ _=>by kernel_rfl,trivial⟩
theorem ypU (e:Es) (he:EG e):LpT (Uni (E e)) (yny) [] 11728400 (.loop 11728400 yrp):=fun _ _ _=>ysB.st (Sub.uni _) (yaD (ylr e he) 5) (YOk.no _ _) (yam (by kernel_rfl)) (ypT e _)
theorem ywY (e:Es):EqW (yhW e) 6 yoc ynx yhV:=fun _ _=>by kernel_rfl
theorem ynz (e:Es) (he:EG e):OkF (E e) (ynx.pw ycC) ygm:=okU he (ywY e) (ylr e he) ynm.flat (yaW (l:=[(11728400,.loop 11728400 yrp)]) ⟨ypU e he,trivial⟩ (by kernel_rfl))
set_option linter.unusedVariables false
theorem yrT (p0:Ls) (r0:Bool) (h:∀ K:Bool→Prop,K r0→yc3 p0 K) (K:Bool→Prop):yc3 p0 K=K r0 :=
 propext ⟨fun k=>detC (yka [] ya1) (az:=[(.data p0)]) (x:=(.bool r0)) (fun K' k'=>h (fun r0=>K' (.bool r0)) k') (K:=fun x=>match x with | (.bool r0)=>K r0 | _=>False) k,h K⟩
theorem yAm (p0:Ls) (p1:Ls) (r0:Int) (h:∀ K:Int→Prop,K r0→yeO p0 p1 K) (K:Int→Prop):yeO p0 p1 K=K r0 :=
 propext ⟨fun k=>detC (ymX [] ya1) (az:=[(.agg [(.data p0),(.data p1)])]) (x:=(.int .i64 r0)) (fun K' k'=>h (fun r0=>K' (.int .i64 r0)) k') (K:=fun x=>match x with | (.int .i64 r0)=>K r0 | _=>False) k,h K⟩
theorem yAn (p0:Ls) (r0:Ls) (h:∀ K:Ls→Prop,K r0→yeP p0 K) (K:Ls→Prop):yeP p0 K=K r0 :=
 propext ⟨fun k=>detC (ym0 [] ya1) (az:=[(.data p0)]) (x:=(.data r0)) (fun K' k'=>h (fun r0=>K' (.data r0)) k') (K:=fun x=>match x with | (.data r0)=>K r0 | _=>False) k,h K⟩
theorem yAo (p0:Ls) (p1:Ls) (p2:Int) (p3:Int) (p4:Int) (p5:Int) (p6:Int) (p7:Int) (p8:Int) (p9:Int) (r0:Ls) (r1:Ls) (r2:Int) (r3:Int) (r4:Int) (h:∀ K:Ls→Ls→Int→Int→Int→Prop,K r0 r1 r2 r3 r4→yeQ p0 p1 p2 p3 p4 p5 p6 p7 p8 p9 K) (K:Ls→Ls→Int→Int→Int→Prop):yeQ p0 p1 p2 p3 p4 p5 p6 p7 p8 p9 K=K r0 r1 r2 r3 r4 :=
 propext ⟨fun k=>detC (ym4 [] ya1) (az:=[(.agg [(.data p0),(.data p1)]),(.agg [(.int .i64 p2),(.int .u8 p3),(.int .i64 p4),(.int .i64 p5),(.int .i64 p6),(.int .i64 p7),(.int .i64 p8),(.int .i64 p9)])]) (x:=(.tup [(.agg [(.data r0),(.data r1)]),(.agg [(.int .i64 r2),(.int .i64 r3)]),(.int .i64 r4)])) (fun K' k'=>h (fun r0 r1 r2 r3 r4=>K' (.tup [(.agg [(.data r0),(.data r1)]),(.agg [(.int .i64 r2),(.int .i64 r3)]),(.int .i64 r4)])) k') (K:=fun x=>match x with | (.tup [(.agg [(.data r0),(.data r1)]),(.agg [(.int .i64 r2),(.int .i64 r3)]),(.int .i64 r4)])=>K r0 r1 r2 r3 r4 | _=>False) k,h K⟩
theorem yvh (p0:Ls) (p1:Ls) (r0:Bool) (h:∀ K:Bool→Prop,K r0→ycC p0 p1 K) (K:Bool→Prop):ycC p0 p1 K=K r0 :=
 propext ⟨fun k=>detC (ynz [] ya1) (az:=[(.data p0),(.data p1)]) (x:=(.bool r0)) (fun K' k'=>h (fun r0=>K' (.bool r0)) k') (K:=fun x=>match x with | (.bool r0)=>K r0 | _=>False) k,h K⟩
def yhX (x0:Int→Int→Int→Bool→Prop):Nat→Int→Int→Int→Prop
 | 0,_,_,_=>False
 | n+1,i0,i1,i2 =>
 (cbr (decide (i2<i0))
 (lt (IntKind.i64.wrap (i2*(2:Int))) (fun a =>
 (lt (IntKind.i64.wrap (i1+(1:Int))) (fun b =>
 (yhX x0 n i0 b a)))))
 (x0 i0 i1 i2 false))
def ym6 (p0:Int) (K:Int→Int→Prop):Prop :=
 (jn (fun (a:Bool→Prop) =>
 (cbr (decide (p0<(1:Int)))
 (a true)
 (a (decide (p0>(6:Int))))))
 (fun c=>(cbr c
 (K (0:Int) (2:Int))
 (∃ n:Nat,yhX
 (fun b d h i=>(cbr (b ==(1:Int))
 (K (0:Int) (0:Int))
 (lt (IntKind.i64.wrap ((2:Int)*d)) (fun e =>
 (lt (IntKind.i64.wrap (e-(1:Int))) (fun f =>
 (lt (IntKind.i64.wrap (b*f)) (fun g =>
 (K g (0:Int))))))))))
 n p0 (0:Int) (1:Int)))))
def yf8:yac:=ym6
def ytq:Sg:=⟨pt3,Int→Int→Prop,fun K=>(fun r0 r1=>K (.tup [(.int .i64 r0),(.int .i64 r1)]))⟩
def ywZ (Q:Qx):Int→Int→Int→Bool→Prop:=(fun i0 i1 i2 b3=>Q (.exit 0) [(0,.v (.int .i64 i0)),(4,.v (.int .i64 i1)),(5,.v (.int .i64 i2)),(14,.v (.bool b3))] [])
def yoV (Q:Qx):List St:=[⟨(pS hN (fV 0 pt2 (fV 4 pt2 (fV 5 pt2 fN))) fN),yhX (ywZ Q)⟩]
def ytr:LP:=lpS [(88911600,yoV)]
def ym7 (e:Es):SE:=sE (E e) [] (ytr)
theorem yqx (e:Es) (he:EG e):SEOk (Uni (E e)) (ym7 e):=yas (Sub.uni _) trivial trivial he.ok
theorem yvi (e:Es):ybM (ym7 e) 5 a yqT false (yoV):=fun _=>⟨fun _=>by kernel_rfl,fun _ _=>by kernel_rfl,trivial⟩
theorem yvj (e:Es) (he:EG e):LpT (Uni (E e)) (ytr) [] 88911600 (.loop 88911600 yqT):=fun _ _ _=>ysB.st (Sub.uni _) (yaD (yqx e he) 5) (YOk.no _ _) (yam (by kernel_rfl)) (yvi e _)
theorem yCX (e:Es):EqW (ym7 e) 6 yv2 ytq ym6:=fun _ _=>by kernel_rfl
theorem yts (e:Es) (he:EG e):OkF (E e) (ytq.pw yf8) yjQ:=okU he (yCX e) (yqx e he) ynm.flat (yaW (l:=[(88911600,.loop 88911600 yqT)]) ⟨yvj e he,trivial⟩ (by kernel_rfl))
abbrev yoW:Type:=Ls→Ls→Ls→Int→Int→Int→Int→(Ls→Ls→Ls→Int→Prop)→Prop
def yaK (a0:yal) (a1:yac) (a2:yap) (a3:yaO) (a4:yaf) (a5:yaO) (a6:yau) (h:Ls→Ls→Ls→Ls→Int→Int→Int→Int→Int→Int→Int→Int→Int→Int→Bool→Prop):Nat→Ls→Ls→Ls→Ls→Int→Int→Int→Int→Int→Int→Int→Int→Int→Int→Prop
 | 0,_,_,_,_,_,_,_,_,_,_,_,_,_,_=>False
 | k+1,l0,l1,l2,l3,i4,i5,i6,i7,i8,i9,i10,i11,i14,i15 =>
 (jn (fun (j:Bool→Prop) =>
 (cbr (decide (i15>(0:Int)))
 (asr (decide ((0:Int)≤i15))
 (asr (decide (i15<(((List.length l0):Nat):Int)))
 (asr (decide ((List.length l0)=(List.length l0)))
 (asr (decide ((0+(i15.toNat))<(List.length l0)))
 (lt (List.getD l0 (0+(i15.toNat)) .nils) (fun f =>
 (asr (conf (.agg [.i .i64,.i .i64,.i .i64]) f)
 (lt (IntKind.i64.wrap (i15-(1:Int))) (fun d =>
 (asr (decide ((0:Int)≤d))
 (asr (decide (d<(((List.length l0):Nat):Int)))
 (asr (decide ((List.length l0)=(List.length l0)))
 (asr (decide ((0+(d.toNat))<(List.length l0)))
 (lt (List.getD l0 (0+(d.toNat)) .nils) (fun g =>
 (asr (conf (.agg [.i .i64,.i .i64,.i .i64]) g)
 (a6 (yaa (yab f 0)) (yaa (yab f 1)) (yaa (yab g 0)) (yaa (yab g 1)) (fun l =>
 (j l)))))))))))))))))))
 (j false)))
 (fun m=>(cbr m
 (lt (IntKind.i64.wrap (i15-(1:Int))) (fun b =>
 (asr (decide ((0:Int)≤i15))
 (asr (decide (i15<(((List.length l0):Nat):Int)))
 (asr (decide ((List.length l0)=(List.length l0)))
 (asr (decide ((0+(i15.toNat))<(List.length l0)))
 (lt (List.getD l0 (0+(i15.toNat)) .nils) (fun a =>
 (asr (conf (.agg [.i .i64,.i .i64,.i .i64]) a)
 (lt (IntKind.i64.wrap (i15-(1:Int))) (fun e =>
 (asr (decide ((0:Int)≤e))
 (asr (decide (e<(((List.length l0):Nat):Int)))
 (asr (decide ((List.length l0)=(List.length l0)))
 (asr (decide ((0+(e.toNat))<(List.length l0)))
 (lt (List.getD l0 (0+(e.toNat)) .nils) (fun c =>
 (asr (conf (.agg [.i .i64,.i .i64,.i .i64]) c)
 (asr (decide ((0:Int)≤b))
 (asr (decide (b<(((List.length l0):Nat):Int)))
 (asr (decide ((List.length l0)=(List.length l0)))
 (asr (decide ((0+(b.toNat))<(List.length l0)))
 (lt (List.getD l0 (0+(b.toNat)) .nils) (fun n =>
 (asr (conf (.agg [.i .i64,.i .i64,.i .i64]) n)
 (asr (decide ((0:Int)≤i15))
 (asr (decide (i15<(((List.length l0):Nat):Int)))
 (asr (decide ((List.length (List.set l0 (0+(b.toNat)) (.agg [(.int .i64 (yaa (yab a 0))),(.int .i64 (yaa (yab a 1))),(.int .i64 (yaa (yab a 2)))])))=(List.length l0)))
 (asr (decide ((0+(i15.toNat))<(List.length (List.set l0 (0+(b.toNat)) (.agg [(.int .i64 (yaa (yab a 0))),(.int .i64 (yaa (yab a 1))),(.int .i64 (yaa (yab a 2)))])))))
 (lt (List.getD (List.set l0 (0+(b.toNat)) (.agg [(.int .i64 (yaa (yab a 0))),(.int .i64 (yaa (yab a 1))),(.int .i64 (yaa (yab a 2)))])) (0+(i15.toNat)) .nils) (fun o =>
 (asr (conf (.agg [.i .i64,.i .i64,.i .i64]) o)
 (lt (IntKind.i64.wrap (i15-(1:Int))) (fun p =>
 (asr (decide ((List.length l0)=List.length (List.set (List.set l0 (0+(b.toNat)) (.agg [(.int .i64 (yaa (yab a 0))),(.int .i64 (yaa (yab a 1))),(.int .i64 (yaa (yab a 2)))])) (0+(i15.toNat)) (.agg [(.int .i64 (yaa (yab c 0))),(.int .i64 (yaa (yab c 1))),(.int .i64 (yaa (yab c 2)))])))&&decide ((List.length l0)=List.length (List.set (List.set l0 (0+(b.toNat)) (.agg [(.int .i64 (yaa (yab a 0))),(.int .i64 (yaa (yab a 1))),(.int .i64 (yaa (yab a 2)))])) (0+(i15.toNat)) (.agg [(.int .i64 (yaa (yab c 0))),(.int .i64 (yaa (yab c 1))),(.int .i64 (yaa (yab c 2)))]))))
 (yaK a0 a1 a2 a3 a4 a5 a6 h k (List.set (List.set l0 (0+(b.toNat)) (.agg [(.int .i64 (yaa (yab a 0))),(.int .i64 (yaa (yab a 1))),(.int .i64 (yaa (yab a 2)))])) (0+(i15.toNat)) (.agg [(.int .i64 (yaa (yab c 0))),(.int .i64 (yaa (yab c 1))),(.int .i64 (yaa (yab c 2)))])) l1 l2 l3 i4 i5 i6 i7 i8 i9 i10 i11 i14 p))))))))))))))))))))))))))))))))))))
 (h l0 l1 l2 l3 i4 i5 i6 i7 i8 i9 i10 i11 i14 i15 false))))
def yaQ (a0:yal) (a1:yac) (a2:yap) (a3:yaO) (a4:yaf) (a5:yaO) (a6:yau) (g:Ls→Ls→Ls→Ls→Int→Int→Int→Int→Int→Int→Int→Int→Int→Bool→Prop) (h:Ls→Int→Prop):Nat→Ls→Ls→Ls→Ls→Int→Int→Int→Int→Int→Int→Int→Int→Int→Prop
 | 0,_,_,_,_,_,_,_,_,_,_,_,_,_=>False
 | v+1,l0,l1,l2,l3,i4,i5,i6,i7,i8,i9,i10,i11,i14 =>
 (cbr (decide (i14<(((List.length l1):Nat):Int)))
 (asr (decide ((0:Int)≤i14))
 (asr (decide (i14<(((List.length l1):Nat):Int)))
 (lt (List.getD l1 (i14.toNat) .nils) (fun e =>
 (asr (conf zI e)
 (asr (decide ((0:Int)≤(yaa e)))
 (asr (decide ((yaa e)<(((List.length l2):Nat):Int)))
 (lt (List.getD l2 ((yaa e).toNat) .nils) (fun f =>
 (asr (conf zK f)
 (a2 (yaa (yab f 0)) (yaX (yab f 1)) (yaX (yab f 2)) (fun w =>
 (a1 w (fun x y =>
 (jn (fun (i:Ls→Ls→Int→Int→Int→Prop) =>
 (jn (fun (j:Bool→Prop) =>
 (cbr (i4 !=(0:Int))
 (j true)
 (j (!((i6 == i10)&&((i7 == i11)&&true))))))
 (fun z=>(cbr z
 (asr (decide ((0:Int)≤i14))
 (asr (decide (i14<(((List.length l1):Nat):Int)))
 (lt (List.getD l1 (i14.toNat) .nils) (fun k =>
 (asr (conf zI k)
 (a3 l2 l3 (yaa k) i4 i5 i6 i7 (fun A B C D E =>
 (i A B C D E))))))))
 (i l2 l3 x y (0:Int))))))
 (fun l m n o p=>(jn (fun (q:Int→Int→Int→Prop) =>
 (cbr (p ==(0:Int))
 (a4 n o i8 i9 (fun F G H =>
 (q F G H)))
 (q n o p)))
 (fun I J r=>(asr (decide ((0:Int)≤i14))
 (asr (decide (i14<(((List.length l1):Nat):Int)))
 (lt (List.getD l1 (i14.toNat) .nils) (fun a =>
 (asr (conf zI a)
 (jn (fun (s:Ls→Ls→Int→Int→Int→Prop) =>
 (cbr (r ==(0:Int))
 (asr (decide ((0:Int)≤i14))
 (asr (decide (i14<(((List.length l1):Nat):Int)))
 (lt (List.getD l1 (i14.toNat) .nils) (fun t =>
 (asr (conf zI t)
 (a5 l m (yaa t) i4 i5 I J (fun K L M N O =>
 (s K L O M N))))))))
 (s l m r (0:Int) (0:Int))))
 (fun Q R u b c=>(cbr (u !=(0:Int))
 (h l0 u)
 (asr (decide ((List.length l0)=(List.length l0)))
 (asr (decide ((0+(List.length l0))≤(List.length l0)))
 (asr (!(decide (((0+(List.length l0))+1)≤(List.length l0))))
 (asr (decide ((List.length l0)=(List.length l0)))
 (asr (decide ((((List.length l0)+1)+64)*(24+1)≤room))
 (lt (IntKind.i64.wrap ((((List.length (l0++([(.agg [(.int .i64 b),(.int .i64 c),(.int .i64 (yaa a))])]:Ls))):Nat):Int)-(1:Int))) (fun S =>
 (asr (decide ((List.length (l0++([(.agg [(.int .i64 b),(.int .i64 c),(.int .i64 (yaa a))])]:Ls)))=List.length (l0++([(.agg [(.int .i64 b),(.int .i64 c),(.int .i64 (yaa a))])]:Ls)))&&decide ((List.length (l0++([(.agg [(.int .i64 b),(.int .i64 c),(.int .i64 (yaa a))])]:Ls)))=List.length (l0++([(.agg [(.int .i64 b),(.int .i64 c),(.int .i64 (yaa a))])]:Ls))))
 (∃ T:Nat,yaK a0 a1 a2 a3 a4 a5 a6
 (fun d U V W X Y Z va vb vc vd ve vf vh vi=>(lt (IntKind.i64.wrap (vf+(1:Int))) (fun vg =>
 (asr (decide ((List.length d)=List.length d)&&decide ((List.length d)=List.length d))
 (yaQ a0 a1 a2 a3 a4 a5 a6 g h v d U V W X Y Z va vb vc vd ve vg)))))
 T (l0++([(.agg [(.int .i64 b),(.int .i64 c),(.int .i64 (yaa a))])]:Ls)) l1 Q R i4 i5 i6 i7 i8 i9 i10 i11 i14 S)))))))))))))))))))))))))))))))))))
 (g l0 l1 l2 l3 i4 i5 i6 i7 i8 i9 i10 i11 i14 false))
def yfB (a0:yal) (a1:yac) (a2:yap) (a3:yaO) (a4:yaf) (a5:yaO) (a6:yau) (t:Ls→Ls→Ls→Int→Int→Int→Int→Int→Int→Int→Int→Int→Bool→Prop) (u:Int→Prop) (v:Ls→Ls→Ls→Ls→Int→Int→Int→Int→Int→Int→Int→Int→Int→Bool→Prop) (w:Ls→Int→Prop):Nat→Ls→Ls→Ls→Int→Int→Int→Int→Int→Int→Int→Int→Int→Prop
 | 0,_,_,_,_,_,_,_,_,_,_,_,_=>False
 | x+1,l0,l1,l2,i3,i4,i5,i6,i7,i8,i9,i10,i11 =>
 (cbr (decide (i11<(((List.length l0):Nat):Int)))
 (asr (decide ((0:Int)≤i11))
 (asr (decide (i11<(((List.length l0):Nat):Int)))
 (lt (List.getD l0 (i11.toNat) .nils) (fun b =>
 (asr (conf zI b)
 (asr (decide ((0:Int)≤(yaa b)))
 (asr (decide ((yaa b)<(((List.length l1):Nat):Int)))
 (lt (List.getD l1 ((yaa b).toNat) .nils) (fun c =>
 (asr (conf zK c)
 (a2 (yaa (yab c 0)) (yaX (yab c 1)) (yaX (yab c 2)) (fun y =>
 (a1 y (fun z A =>
 (jn (fun (g:Ls→Ls→Int→Int→Int→Prop) =>
 (jn (fun (h:Bool→Prop) =>
 (cbr (i3 !=(0:Int))
 (h true)
 (h (!((i5 == i9)&&((i6 == i10)&&true))))))
 (fun B=>(cbr B
 (asr (decide ((0:Int)≤i11))
 (asr (decide (i11<(((List.length l0):Nat):Int)))
 (lt (List.getD l0 (i11.toNat) .nils) (fun i =>
 (asr (conf zI i)
 (a3 l1 l2 (yaa i) i3 i4 i5 i6 (fun C D E F G =>
 (g C D E F G))))))))
 (g l1 l2 z A (0:Int))))))
 (fun j k l m n=>(jn (fun (o:Int→Int→Int→Prop) =>
 (cbr (n ==(0:Int))
 (a4 l m i7 i8 (fun H I J =>
 (o H I J)))
 (o l m n)))
 (fun K L p=>(asr (decide ((0:Int)≤i11))
 (asr (decide (i11<(((List.length l0):Nat):Int)))
 (lt (List.getD l0 (i11.toNat) .nils) (fun d =>
 (asr (conf zI d)
 (jn (fun (q:Ls→Ls→Int→Int→Int→Prop) =>
 (cbr (p ==(0:Int))
 (asr (decide ((0:Int)≤i11))
 (asr (decide (i11<(((List.length l0):Nat):Int)))
 (lt (List.getD l0 (i11.toNat) .nils) (fun r =>
 (asr (conf zI r)
 (a5 j k (yaa r) i3 i4 K L (fun M N O Q R =>
 (q M N R O Q))))))))
 (q j k p (0:Int) (0:Int))))
 (fun S T s e f=>(cbr (s !=(0:Int))
 (u s)
 (asr (decide (1=List.length ([(.agg [(.int .i64 e),(.int .i64 f),(.int .i64 (yaa d))])]:Ls))&&decide (1=List.length ([(.agg [(.int .i64 e),(.int .i64 f),(.int .i64 (yaa d))])]:Ls)))
 (∃ U:Nat,yaK a0 a1 a2 a3 a4 a5 a6
 (fun a V W X Y Z va vb vc vd ve vf vg vi vj=>(lt (IntKind.i64.wrap (vg+(1:Int))) (fun vh =>
 (asr (decide ((List.length a)=List.length a)&&decide ((List.length a)=List.length a))
 (yaQ a0 a1 a2 a3 a4 a5 a6 v w x a V W X Y Z va vb vc vd ve vf vh)))))
 U ([(.agg [(.int .i64 e),(.int .i64 f),(.int .i64 (yaa d))])]:Ls) l0 S T i3 i4 i5 i6 i7 i8 i9 i10 i11 (0:Int)))))))))))))))))))))))))))))
 (t l0 l1 l2 i3 i4 i5 i6 i7 i8 i9 i10 i11 false))
def ym8 (a0:yal) (a1:yac) (a2:yap) (a3:yaO) (a4:yaf) (a5:yaO) (a6:yau) (p0 p1 p2:Ls) (p3 p4 p5 p6:Int) (K:Ls→Ls→Ls→Int→Prop):Prop :=
 (lt (IntKind.i64.wrap (Int.tdiv (((List.length p2):Nat):Int) (2:Int))) (fun c =>
 (a0 c (((List.length p2):Nat):Int) (fun d e o =>
 (asr (decide ((0:Int)<(((List.length p0):Nat):Int)))
 (lt (List.getD p0 0 .nils) (fun b =>
 (asr (conf zK b)
 (a1 (yaa (yab b 0)) (fun f g =>
 (∃ h:Nat,yfB a0 a1 a2 a3 a4 a5 a6
 (fun p i j q r s t u v w x y z=>(K i j ([]:Ls) (0:Int)))
 (fun k=>(K ([]:Ls) ([]:Ls) ([]:Ls) k))
 (fun a A l m B C D E F G H I J L=>(asr (decide ((List.length a)=(List.length a)))
 (asr (decide ((0+(List.length a))≤(List.length a)))
 (K l m (List.take (List.length a) a) (0:Int)))))
 (fun M n=>(K ([]:Ls) ([]:Ls) ([]:Ls) n))
 h p2 p0 p1 p3 p4 p5 p6 d e f g (0:Int))))))))))))
def ykd:yoW:=ym8 ybp ybn ya2 yaV ybe ybd yaC
def pt29:LPt:=lC pt19 (lC vD pt12)
def yCY:Sg:=⟨pt29,Ls→Ls→Ls→Int→Prop,fun K=>(fun r0 r1 r2 r3=>K (.tup [(.agg [(.data r0),(.data r1)]),(.data r2),(.int .i64 r3)]))⟩
def yw0 (Q:Qx):Ls→Ls→Ls→Ls→Int→Int→Int→Int→Int→Int→Int→Int→Int→Int→Bool→Prop:=(fun l0 l1 l2 l3 i4 i5 i6 i7 i8 i9 i10 i11 i14 i15 b16=>Q (.exit 2) [(1,.v (.data l1)),(4,.box (.agg [(.data l2),(.data l3)])),(6,.box (.agg [(.int .i64 i4),(.int .i64 i5)])),(7,.box (.agg [(.int .i64 i6),(.int .i64 i7)])),(8,.box (.agg [.nils,.nils])),(11,.box (.agg [(.int .i64 i8),(.int .i64 i9)])),(13,.box (.agg [(.int .i64 i10),(.int .i64 i11)])),(14,.v (.own 0 0 (List.length l0) (List.length l0) none)),(15,.v (.int .i64 i14)),(19,.v (.int .i64 i15)),(125,.v (.bool b16))] [⟨false,true,3,l0⟩])
def yw1 (Q:Qx):Ls→Ls→Ls→Int→Int→Int→Int→Int→Int→Int→Int→Int→Bool→Prop:=(fun l0 l1 l2 i3 i4 i5 i6 i7 i8 i9 i10 i11 b12=>Q (.exit 0) [(1,.v (.data l0)),(4,.box (.agg [(.data l1),(.data l2)])),(6,.box (.agg [(.int .i64 i3),(.int .i64 i4)])),(7,.box (.agg [(.int .i64 i5),(.int .i64 i6)])),(8,.box (.agg [.nils,.nils])),(11,.box (.agg [(.int .i64 i7),(.int .i64 i8)])),(13,.box (.agg [(.int .i64 i9),(.int .i64 i10)])),(14,.v .nils),(15,.v (.int .i64 i11)),(38,.v (.bool b12))] [])
def yw2 (Q:Qx):Int→Prop:=(fun i0=>Q .ret [(8,.box (.agg [.nils,.nils])),(9,.v .nils),(10,.v (.int .i64 i0))] [])
def ynA (Q:Qx):Ls→Ls→Ls→Ls→Int→Int→Int→Int→Int→Int→Int→Int→Int→Bool→Prop:=(fun l0 l1 l2 l3 i4 i5 i6 i7 i8 i9 i10 i11 i14 b15=>Q (.exit 0) [(1,.v (.data l1)),(4,.box (.agg [(.data l2),(.data l3)])),(6,.box (.agg [(.int .i64 i4),(.int .i64 i5)])),(7,.box (.agg [(.int .i64 i6),(.int .i64 i7)])),(8,.box (.agg [.nils,.nils])),(11,.box (.agg [(.int .i64 i8),(.int .i64 i9)])),(13,.box (.agg [(.int .i64 i10),(.int .i64 i11)])),(14,.v (.own 0 0 (List.length l0) (List.length l0) none)),(15,.v (.int .i64 i14)),(38,.v (.bool b15))] [⟨false,true,3,l0⟩])
def ynB (Q:Qx):Ls→Int→Prop:=(fun l0 i1=>Q .ret [(8,.box (.agg [.nils,.nils])),(9,.v .nils),(10,.v (.int .i64 i1))] [⟨false,true,3,l0⟩])
def pt30:VPt:=vA (lC vNs (lC vNs lN))
def yoX (a0:yal) (a1:yac) (a2:yap) (a3:yaO) (a4:yaf) (a5:yaO) (a6:yau) (Q:Qx):List St:=[⟨(pS pt20 (fV 1 vD (fX 4 pt19 (fX 6 pt7 (fX 7 pt7 (fX 8 pt30 (fX 11 pt7 (fX 13 pt7 (fV 14 pt21 (fV 15 pt2 (fV 19 pt2 fN)))))))))) fN),yaK a0 a1 a2 a3 a4 a5 a6 (yw0 Q)⟩]
def yoY (a0:yal) (a1:yac) (a2:yap) (a3:yaO) (a4:yaf) (a5:yaO) (a6:yau) (Q:Qx):List St:=[⟨(pS hN (fV 1 vD (fX 4 pt19 (fX 6 pt7 (fX 7 pt7 (fX 8 pt30 (fX 11 pt7 (fX 13 pt7 (fV 14 vNs (fV 15 pt2 fN))))))))) fN),yfB a0 a1 a2 a3 a4 a5 a6 (yw1 Q) (yw2 Q) (ynA Q) (ynB Q)⟩,⟨(pS pt20 (fV 1 vD (fX 4 pt19 (fX 6 pt7 (fX 7 pt7 (fX 8 pt30 (fX 11 pt7 (fX 13 pt7 (fV 14 pt21 (fV 15 pt2 fN))))))))) fN),yaQ a0 a1 a2 a3 a4 a5 a6 (ynA Q) (ynB Q)⟩]
def ym9 (a0:yal) (a1:yac) (a2:yap) (a3:yaO) (a4:yaf) (a5:yaO) (a6:yau):LP:=lpS [(7534500,yoX a0 a1 a2 a3 a4 a5 a6),(7534501,yoY a0 a1 a2 a3 a4 a5 a6)]
def yiw (e:Es) (a0:yal) (a1:yac) (a2:yap) (a3:yaO) (a4:yaf) (a5:yaO) (a6:yau):SE:=sE (E e) [(ymc,yqf.pw a0),(yhC,ykJ.pw a1),(yjV,ykG.pw a2),(yj0,yiq.pw a3),(yiI,yds.pw a4),(yme,yiq.pw a5),(ydC,ysY.pw a6)] (ym9 a0 a1 a2 a3 a4 a5 a6)
theorem ykV (e:Es) (he:EG e):SEOk (Uni (E e)) (yiw e ybp ybn ya2 yaV ybe ybd yaC):=yas (Sub.uni _) ⟨(yEA e he),(ylq e he),(ytf e he),(yCW e he),(yrP e he),(yEV e he),(yeM e he),trivial⟩ trivial he.ok
theorem yvk (e:Es) (a0 a1 a2 a3 a4 a5 a6):ybM (yiw e a0 a1 a2 a3 a4 a5 a6) 5 a ypv false (yoX a0 a1 a2 a3 a4 a5 a6):=fun _=>⟨fun _=>by kernel_rfl,fun _ _=>by kernel_rfl,trivial⟩
theorem yls (e:Es) (he:EG e):LpT (Uni (E e)) (ym9 ybp ybn ya2 yaV ybe ybd yaC) [] 7534500 (.loop 7534500 ypv):=fun _ _ _=>ysB.st (Sub.uni _) (yaD (ykV e he) 5) (YOk.no _ _) (yam (by kernel_rfl)) (yvk e _ _ _ _ _ _ _ _)
theorem yvl (e:Es) (a0 a1 a2 a3 a4 a5 a6):ybM (yiw e a0 a1 a2 a3 a4 a5 a6) 5 a yuF false (yoY a0 a1 a2 a3 a4 a5 a6):=fun _=>⟨fun _=>by kernel_rfl,fun _ _=>by kernel_rfl,fun _=>by kernel_rfl,fun _ _=>by kernel_rfl,trivial⟩
theorem yvm (e:Es) (he:EG e):LpT (Uni (E e)) (ym9 ybp ybn ya2 yaV ybe ybd yaC) [] 7534501 (.loop 7534501 yuF):=fun _ _ _=>ysB.st (Sub.uni _) (yaD (ykV e he) 5) (YOk.no _ _) (yaW (l:=[(7534500,.loop 7534500 ypv)]) ⟨yls e he,trivial⟩ (by kernel_rfl)) (yvl e _ _ _ _ _ _ _ _)
theorem yCZ (e:Es) (a0 a1 a2 a3 a4 a5 a6):EqW (yiw e a0 a1 a2 a3 a4 a5 a6) 6 yob yCY (ym8 a0 a1 a2 a3 a4 a5 a6):=fun _ _=>by kernel_rfl
theorem yC0 (e:Es) (he:EG e):OkF (E e) (yCY.pw ykd) yj1:=okU he (yCZ e _ _ _ _ _ _ _) (ykV e he) ynm.flat (yaW (l:=[(7534500,.loop 7534500 ypv),(7534501,.loop 7534501 yuF)]) ⟨yls e he,yvm e he,trivial⟩ (by kernel_rfl))
def ya3 (f:Ls→Ls→Int→Int→Bool→Prop):Nat→Ls→Ls→Int→Int→Prop
 | 0,_,_,_,_=>False
 | j+1,l0,l1,i4,i5 =>
 (jn (fun (g:Bool→Prop) =>
 (cbr (decide (i5>(0:Int)))
 (asr (decide ((0:Int)≤i5))
 (asr (decide (i5<(((List.length l0):Nat):Int)))
 (asr (decide ((List.length l0)=(List.length l0)))
 (asr (decide ((0+(i5.toNat))<(List.length l0)))
 (lt (List.getD l0 (0+(i5.toNat)) .nils) (fun h =>
 (asr (conf zI h)
 (lt (IntKind.i64.wrap (i5-(1:Int))) (fun c =>
 (asr (decide ((0:Int)≤c))
 (asr (decide (c<(((List.length l0):Nat):Int)))
 (asr (decide ((List.length l0)=(List.length l0)))
 (asr (decide ((0+(c.toNat))<(List.length l0)))
 (lt (List.getD l0 (0+(c.toNat)) .nils) (fun i =>
 (asr (conf zI i)
 (g (decide ((yaa h)<(yaa i))))))))))))))))))))
 (g false)))
 (fun k=>(cbr k
 (lt (IntKind.i64.wrap (i5-(1:Int))) (fun a =>
 (asr (decide ((0:Int)≤i5))
 (asr (decide (i5<(((List.length l0):Nat):Int)))
 (asr (decide ((List.length l0)=(List.length l0)))
 (asr (decide ((0+(i5.toNat))<(List.length l0)))
 (lt (List.getD l0 (0+(i5.toNat)) .nils) (fun b =>
 (asr (conf zI b)
 (lt (IntKind.i64.wrap (i5-(1:Int))) (fun d =>
 (asr (decide ((0:Int)≤d))
 (asr (decide (d<(((List.length l0):Nat):Int)))
 (asr (decide ((List.length l0)=(List.length l0)))
 (asr (decide ((0+(d.toNat))<(List.length l0)))
 (lt (List.getD l0 (0+(d.toNat)) .nils) (fun e =>
 (asr (conf zI e)
 (asr (decide ((0:Int)≤a))
 (asr (decide (a<(((List.length l0):Nat):Int)))
 (asr (decide ((List.length l0)=(List.length l0)))
 (asr (decide ((0+(a.toNat))<(List.length l0)))
 (lt (List.getD l0 (0+(a.toNat)) .nils) (fun l =>
 (asr (conf zI l)
 (asr (decide ((0:Int)≤i5))
 (asr (decide (i5<(((List.length l0):Nat):Int)))
 (asr (decide ((List.length (List.set l0 (0+(a.toNat)) (.int .i64 (yaa b))))=(List.length l0)))
 (asr (decide ((0+(i5.toNat))<(List.length (List.set l0 (0+(a.toNat)) (.int .i64 (yaa b))))))
 (lt (List.getD (List.set l0 (0+(a.toNat)) (.int .i64 (yaa b))) (0+(i5.toNat)) .nils) (fun m =>
 (asr (conf zI m)
 (lt (IntKind.i64.wrap (i5-(1:Int))) (fun n =>
 (asr (decide ((List.length l0)=List.length (List.set (List.set l0 (0+(a.toNat)) (.int .i64 (yaa b))) (0+(i5.toNat)) (.int .i64 (yaa e))))&&decide ((List.length l0)=List.length (List.set (List.set l0 (0+(a.toNat)) (.int .i64 (yaa b))) (0+(i5.toNat)) (.int .i64 (yaa e)))))
 (ya3 f j (List.set (List.set l0 (0+(a.toNat)) (.int .i64 (yaa b))) (0+(i5.toNat)) (.int .i64 (yaa e))) l1 i4 n))))))))))))))))))))))))))))))))))))
 (f l0 l1 i4 i5 false))))
def ybf (c:Ls→Ls→Int→Bool→Prop):Nat→Ls→Ls→Int→Prop
 | 0,_,_,_=>False
 | d+1,l0,l1,i4 =>
 (cbr (decide (i4<(((List.length l1):Nat):Int)))
 (asr (decide ((0:Int)≤i4))
 (asr (decide (i4<(((List.length l1):Nat):Int)))
 (lt (List.getD l1 (i4.toNat) .nils) (fun a =>
 (asr (conf (.agg [.i .i64,.i .i64,.i .i64]) a)
 (asr (decide ((List.length l0)=(List.length l0)))
 (asr (decide ((0+(List.length l0))≤(List.length l0)))
 (asr (!(decide (((0+(List.length l0))+1)≤(List.length l0))))
 (asr (decide ((List.length l0)=(List.length l0)))
 (asr (decide ((((List.length l0)+1)+64)*(8+1)≤room))
 (lt (IntKind.i64.wrap ((((List.length (l0++([(.int .i64 (yaa (yab a 2)))]:Ls))):Nat):Int)-(1:Int))) (fun e =>
 (asr (decide ((List.length (l0++([(.int .i64 (yaa (yab a 2)))]:Ls)))=List.length (l0++([(.int .i64 (yaa (yab a 2)))]:Ls)))&&decide ((List.length (l0++([(.int .i64 (yaa (yab a 2)))]:Ls)))=List.length (l0++([(.int .i64 (yaa (yab a 2)))]:Ls))))
 (∃ f:Nat,ya3
 (fun b g h k l=>(lt (IntKind.i64.wrap (h+(1:Int))) (fun j =>
 (asr (decide ((List.length b)=List.length b)&&decide ((List.length b)=List.length b))
 (ybf c d b g j)))))
 f (l0++([(.int .i64 (yaa (yab a 2)))]:Ls)) l1 i4 e))))))))))))))
 (c l0 l1 i4 false))
def yc4 (c:Ls→Int→Bool→Prop) (d:Ls→Ls→Int→Bool→Prop):Nat→Ls→Int→Prop
 | 0,_,_=>False
 | e+1,l0,i1 =>
 (cbr (decide (i1<(((List.length l0):Nat):Int)))
 (asr (decide ((0:Int)≤i1))
 (asr (decide (i1<(((List.length l0):Nat):Int)))
 (lt (List.getD l0 (i1.toNat) .nils) (fun b =>
 (asr (conf (.agg [.i .i64,.i .i64,.i .i64]) b)
 (asr (decide (1=List.length ([(.int .i64 (yaa (yab b 2)))]:Ls))&&decide (1=List.length ([(.int .i64 (yaa (yab b 2)))]:Ls)))
 (∃ f:Nat,ya3
 (fun a g h k l=>(lt (IntKind.i64.wrap (h+(1:Int))) (fun j =>
 (asr (decide ((List.length a)=List.length a)&&decide ((List.length a)=List.length a))
 (ybf d e a g j)))))
 f ([(.int .i64 (yaa (yab b 2)))]:Ls) l0 i1 (0:Int))))))))
 (c l0 i1 false))
def ykW (p0:Ls) (K:Ls→Prop):Prop :=
 (∃ b:Nat,yc4
 (fun c d e=>(K ([]:Ls)))
 (fun a f g h=>(asr (decide ((List.length a)=(List.length a)))
 (asr (decide ((0+(List.length a))≤(List.length a)))
 (K (List.take (List.length a) a)))))
 b p0 (0:Int))
def yix:ybt:=ykW
def yvn (Q:Qx):Ls→Ls→Int→Int→Bool→Prop:=(fun l0 l1 i4 i5 b6=>Q (.exit 2) [(0,.v (.data l1)),(3,.v (.own 0 0 (List.length l0) (List.length l0) none)),(4,.v (.int .i64 i4)),(5,.v (.int .i64 i5)),(36,.v (.bool b6))] [⟨false,true,1,l0⟩])
def yvo (Q:Qx):Ls→Int→Bool→Prop:=(fun l0 i1 b2=>Q (.exit 0) [(0,.v (.data l0)),(3,.v .nils),(4,.v (.int .i64 i1)),(9,.v (.bool b2))] [])
def ylt (Q:Qx):Ls→Ls→Int→Bool→Prop:=(fun l0 l1 i4 b5=>Q (.exit 0) [(0,.v (.data l1)),(3,.v (.own 0 0 (List.length l0) (List.length l0) none)),(4,.v (.int .i64 i4)),(9,.v (.bool b5))] [⟨false,true,1,l0⟩])
def pt31:HPt:=hB false true 1 rA hN
def ynC (Q:Qx):List St:=[⟨(pS pt31 (fV 0 vD (fV 3 pt21 (fV 4 pt2 (fV 5 pt2 fN)))) fN),ya3 (yvn Q)⟩]
def ynD (Q:Qx):List St:=[⟨pt25,yc4 (yvo Q) (ylt Q)⟩,⟨(pS pt31 (fV 0 vD (fV 3 pt21 pt13)) fN),ybf (ylt Q)⟩]
def ykX:LP:=lpS [(96513100,ynC),(96513101,ynD)]
def yhs (e:Es):SE:=sE (E e) [] (ykX)
theorem yju (e:Es) (he:EG e):SEOk (Uni (E e)) (yhs e):=yas (Sub.uni _) trivial trivial he.ok
theorem ytt (e:Es):ybM (yhs e) 5 a yml false (ynC):=fun _=>⟨fun _=>by kernel_rfl,fun _ _=>by kernel_rfl,trivial⟩
theorem yke (e:Es) (he:EG e):LpT (Uni (E e)) (ykX) [] 96513100 (.loop 96513100 yml):=fun _ _ _=>ysB.st (Sub.uni _) (yaD (yju e he) 5) (YOk.no _ _) (yam (by kernel_rfl)) (ytt e _)
theorem ytu (e:Es):ybM (yhs e) 5 a yrl false (ynD):=fun _=>⟨fun _=>by kernel_rfl,fun _ _=>by kernel_rfl,fun _=>by kernel_rfl,fun _ _=>by kernel_rfl,trivial⟩
theorem ytv (e:Es) (he:EG e):LpT (Uni (E e)) (ykX) [] 96513101 (.loop 96513101 yrl):=fun _ _ _=>ysB.st (Sub.uni _) (yaD (yju e he) 5) (YOk.no _ _) (yaW (l:=[(96513100,.loop 96513100 yml)]) ⟨yke e he,trivial⟩ (by kernel_rfl)) (ytu e _)
theorem yAp (e:Es):EqW (yhs e) 6 ymk ykQ ykW:=fun _ _=>by kernel_rfl
theorem yAq (e:Es) (he:EG e):OkF (E e) (ykQ.pw yix) yij:=okU he (yAp e) (yju e he) ynm.flat (yaW (l:=[(96513100,.loop 96513100 yml),(96513101,.loop 96513101 yrl)]) ⟨yke e he,ytv e he,trivial⟩ (by kernel_rfl))
abbrev ybI:Type:=Ls→Ls→Ls→Int→Int→Int→Int→(Ls→Ls→Int→Int→Ls→Ls→Int→Prop)→Prop
def yna (a0:yoW) (a1:ybt) (p0 p1 p2:Ls) (p3 p4 p5 p6:Int) (K:Ls→Ls→Int→Int→Ls→Ls→Int→Prop):Prop :=
 (a0 p0 p1 p2 p3 p4 p5 p6 (fun f g a e =>
 (cbr (e !=(0:Int))
 (K ([]:Ls) ([]:Ls) (0:Int) (0:Int) ([]:Ls) ([]:Ls) e)
 (lt (IntKind.i64.wrap (Int.tdiv (((List.length p2):Nat):Int) (2:Int))) (fun b =>
 (lt (IntKind.i64.wrap (b-(1:Int))) (fun c =>
 (asr (decide ((0:Int)≤c))
 (asr (decide (c<(((List.length a):Nat):Int)))
 (lt (List.getD a (c.toNat) .nils) (fun d =>
 (asr (conf (.agg [.i .i64,.i .i64,.i .i64]) d)
 (asr (decide ((0:Int)≤b))
 (asr (decide (b≤(((List.length a):Nat):Int)))
 (a1 (List.take (b.toNat) a) (fun h =>
 (asr (decide ((0:Int)≤b))
 (asr (decide (b≤(((List.length a):Nat):Int)))
 (asr (decide ((((List.length a):Nat):Int)≤(((List.length a):Nat):Int)))
 (asr ((decide (b=(0:Int)))||(ycj 3 a))
 (a1 (List.drop (b.toNat) (List.take (List.length a) a)) (fun j =>
 (K f g (yaa (yab d 0)) (yaa (yab d 1)) h j (0:Int))))))))))))))))))))))))
def yce:ybI:=yna ykd yix
def ytw:Sg:=⟨pt29,Ls→Ls→Int→Int→Ls→Ls→Int→Prop,fun K=>(fun r0 r1 r2 r3 r4 r5 r6=>K (.tup [(.agg [(.data r0),(.data r1)]),(.agg [(.int .i64 r2),(.int .i64 r3)]),(.data r4),(.data r5),(.int .i64 r6)]))⟩
def yC1 (e:Es) (a0:yoW) (a1:ybt):SE:=sE (E e) [(yj1,yCY.pw a0),(yij,ykQ.pw a1)] lp0
theorem yC2 (e:Es) (a0 a1):EqW (yC1 e a0 a1) 6 yEn ytw (yna a0 a1):=fun _ _=>by kernel_rfl
theorem yC3 (e:Es) (he:EG e):OkF (E e) (ytw.pw yce) yj2:=okU he (yC2 e _ _) (yas (Sub.uni _) ⟨(yC0 e he),(yAq e he),trivial⟩ trivial he.ok) ynm.flat (yam (by kernel_rfl))
abbrev ybV:Type:=Ls→Ls→Ls→Int→Int→Int→Int→Ls→Nat→Nat→Nat→(Ls→Ls→Int→Ls→Prop)→Prop
def yht (yce:ybI) (ybW:ybV) (p0 p1 p2:Ls) (p3 p4 p5 p6:Int) (p7:Ls) (p8 p9 p10:Nat) (K:Ls→Ls→Int→Ls→Prop):Prop :=
 (cbr ((((List.length p2):Nat):Int) ==(1:Int))
 (asr (decide ((0:Int)<(((List.length p2):Nat):Int)))
 (lt (List.getD p2 0 .nils) (fun a =>
 (asr (conf zI a)
 (asr (decide ((0:Int)≤(yaa a)))
 (asr (decide ((yaa a)<((p8:Nat):Int)))
 (asr (decide ((List.length p7)=p9))
 (asr (decide ((0+((yaa a).toNat))<(List.length p7)))
 (lt (List.getD p7 (0+((yaa a).toNat)) .nils) (fun l =>
 (asr (conf zD l)
 (asr (decide ((List.length (List.set p7 (0+((yaa a).toNat)) (.data ([(.agg [(.int .i64 p3),(.int .i64 p4),(.int .i64 p5),(.int .i64 p6)])]:Ls))))=(List.length p7)))
 (K p0 p1 (0:Int) (List.set p7 (0+((yaa a).toNat)) (.data ([(.agg [(.int .i64 p3),(.int .i64 p4),(.int .i64 p5),(.int .i64 p6)])]:Ls))))))))))))))))
 (yce p0 p1 p2 p3 p4 p5 p6 (fun c d e f m n g =>
 (cbr (g !=(0:Int))
 (asr (decide ((List.length p7)=(List.length p7)))
 (K c d g p7))
 (ybW c d m p3 p4 e f p7 p8 p9 p10 (fun h i j b =>
 (cbr (j !=(0:Int))
 (asr (decide ((List.length b)=(List.length p7)))
 (K h i j b))
 (ybW h i n e f p5 p6 b p8 p9 p10 (fun o p q k =>
 (asr (decide ((List.length k)=(List.length p7)))
 (K o p q k)))))))))))
def yfr:Nat→ybV
 | 0=>fun _ _ _ _ _ _ _ _ _ _ _ _=>False
 | n+1=>yht yce (yfr n)
def ybW:ybV:=fun p0 p1 p2 p3 p4 p5 p6 p7 p8 p9 p10 K=>∃ n,yfr n p0 p1 p2 p3 p4 p5 p6 p7 p8 p9 p10 K
def ycW (w:ybV) (az:Ls) (b:HB) (K:PV→Ls→Prop):Prop :=
 match az,b with
 | [(.agg [(.data p0),(.data p1)]),(.data p2),(.agg [(.int .i64 p3),(.int .i64 p4)]),(.agg [(.int .i64 p5),(.int .i64 p6)]),(.own 0 0 p8 p9 (some p10))],⟨false,true,1,p7⟩=>w p0 p1 p2 p3 p4 p5 p6 p7 p8 p9 p10 (fun r0 r1 r2 r3=>K (.tup [(.agg [(.data r0),(.data r1)]),(.int .i64 r2)]) r3)
 | _,_=>False
def yqy (az:Ls) (b:HB) (K:PV→Ls→Prop):Prop:=ycW ybW az b K
def yqz (e:Es) (yce:ybI) (ybW:ybV):SE:=⟨(E e),yh1 [(yj2,ytw.pw yce)],yh2 [],lp0,yym [(yec,ycW ybW)]⟩
theorem yyT (e:Es) (he:EG e) {a:ybV} (ha:OkL (E e) (ycW a) yec):SEOk (Uni (E e)) (yqz e yce a):=yD2 (Sub.uni _) ⟨(yC3 e he),trivial⟩ trivial he.ok ⟨ha,trivial⟩
theorem yAr (e:Es) ( yce ybW p0 p1 p2 p3 p4 p5 p6 p7 p8 p9 p10 K):WPL (yqz e yce ybW) 6 yBY [(.agg [(.data p0),(.data p1)]),(.data p2),(.agg [(.int .i64 p3),(.int .i64 p4)]),(.agg [(.int .i64 p5),(.int .i64 p6)]),(.own 0 0 p8 p9 (some p10))] ⟨false,true,1,p7⟩ K=yht yce ybW p0 p1 p2 p3 p4 p5 p6 p7 p8 p9 p10 (fun r0 r1 r2 r3=>K (.tup [(.agg [(.data r0),(.data r1)]),(.int .i64 r2)]) r3):=by kernel_rfl
theorem yoZ (e:Es) (he:EG e):∀ n,OkL (E e) (ycW (yfr n)) yec
 | 0=>by
   intro az b K h
   unfold ycW at h
   split at h
   · exact h.elim
   · exact h.elim
 | n+1=>by
  intro az b K h
  unfold ycW at h
  split at h
  · exact yLD (yyT e he (yoZ e he n)) ynm.flat (yam (by kernel_rfl)) (by kernel_rfl) (he.num _ (by kernel_rfl)) ((yAr ..).mpr h)
  · exact h.elim
theorem yAs (e:Es) (he:EG e):OkL (E e) yqy yec:=by
 intro az b K h
 unfold yqy ycW at h
 split at h
 ·obtain ⟨n,h⟩:=h
  exact yoZ e he n _ _ K h
 ·exact h.elim
def yci (a0:yaZ) (a1:yac) (a2:ybV) (x1:Ls→Ls→Ls→Ls→Int→Bool→Prop):Nat→Ls→Ls→Ls→Ls→Int→Prop
 | 0,_,_,_,_,_=>False
 | n+1,l0,l1,l2,l3,i6 =>
 (cbr (decide (i6<(((List.length l1):Nat):Int)))
 (asr (decide ((List.length l0)=(List.length l0)))
 (asr (decide ((0+(List.length l0))≤(List.length l0)))
 (asr (!(decide (((0+(List.length l0))+1)≤(List.length l0))))
 (asr (decide ((List.length l0)=(List.length l0)))
 (asr (decide ((((List.length l0)+1)+64)*(8+1)≤room))
 (lt (IntKind.i64.wrap (i6+(1:Int))) (fun a =>
 (asr (decide ((List.length (l0++([(.int .i64 i6)]:Ls)))=List.length (l0++([(.int .i64 i6)]:Ls)))&&decide ((List.length (l0++([(.int .i64 i6)]:Ls)))=List.length (l0++([(.int .i64 i6)]:Ls))))
 (yci a0 a1 a2 x1 n (l0++([(.int .i64 i6)]:Ls)) l1 l2 l3 a)))))))))
 (x1 l0 l1 l2 l3 i6 false))
def yfs (a0:yaZ) (a1:yac) (a2:ybV) (x0:Ls→Ls→Ls→Int→Bool→Prop) (x1:Ls→Ls→Ls→Ls→Int→Bool→Prop):Nat→Ls→Ls→Ls→Int→Prop
 | 0,_,_,_,_=>False
 | n+1,l0,l1,l2,i3 =>
 (cbr (decide (i3<(((List.length l0):Nat):Int)))
 (lt (IntKind.i64.wrap (i3+(1:Int))) (fun a =>
 (asr (decide (1=List.length ([(.int .i64 i3)]:Ls))&&decide (1=List.length ([(.int .i64 i3)]:Ls)))
 (yci a0 a1 a2 x1 n ([(.int .i64 i3)]:Ls) l0 l1 l2 a))))
 (x0 l0 l1 l2 i3 false))
def ynb (a0:yaZ) (a1:yac) (a2:ybV) (p0:Ls) (K:Ls→Ls→Int→Prop):Prop :=
 (a0 p0 (fun k l d =>
 (cbr (d !=(0:Int))
 (K ([]:Ls) ([]:Ls) d)
 (∃ n:Nat,yfs a0 a1 a2
 (fun a m o B C=>(asr (decide ((0:Int)≤(((List.length a):Nat):Int)))
 (asr (decide ((((List.length a):Nat):Int)≤(((List.length a):Nat):Int)))
 (asr (decide (((List.length a)+64)*(24+1)≤room))
 (a1 (0:Int) (fun p q =>
 (asr (decide ((0:Int)<(((List.length a):Nat):Int)))
 (lt (List.getD a 0 .nils) (fun e =>
 (asr (conf zK e)
 (a1 (yaa (yab e 0)) (fun r s =>
 (a2 m o ([]:Ls) p q r s (List.replicate (List.length a) ((.data []):PV)) (List.length a) (List.length a) (List.length a) (fun D t f g =>
 (cbr (f !=(0:Int))
 (K ([]:Ls) ([]:Ls) f)
 (asr (decide ((List.length g)=(List.length a)))
 (asr (decide ((0+(List.length a))≤(List.length a)))
 (K (List.take (List.length a) g) t (0:Int)))))))))))))))))))
 (fun c b u v E F=>(asr (decide ((0:Int)≤(((List.length b):Nat):Int)))
 (asr (decide ((((List.length b):Nat):Int)≤(((List.length b):Nat):Int)))
 (asr (decide (((List.length b)+64)*(24+1)≤room))
 (a1 (0:Int) (fun w x =>
 (asr (decide ((0:Int)<(((List.length b):Nat):Int)))
 (lt (List.getD b 0 .nils) (fun h =>
 (asr (conf zK h)
 (a1 (yaa (yab h 0)) (fun y z =>
 (asr (decide ((List.length c)=(List.length c)))
 (asr (decide ((0+(List.length c))≤(List.length c)))
 (a2 u v (List.take (List.length c) c) w x y z (List.replicate (List.length b) ((.data []):PV)) (List.length b) (List.length b) (List.length b) (fun G A i j =>
 (cbr (i !=(0:Int))
 (K ([]:Ls) ([]:Ls) i)
 (asr (decide ((List.length j)=(List.length b)))
 (asr (decide ((0+(List.length b))≤(List.length b)))
 (K (List.take (List.length b) j) A (0:Int)))))))))))))))))))))
 n p0 k l (0:Int)))))
def yf9:yaZ:=ynb yha ybn ybW
def yyU:Sg:=⟨pt9,Ls→Ls→Int→Prop,fun K=>(fun r0 r1 r2=>K (.tup [(.agg [(.data r0)]),(.data r1),(.int .i64 r2)]))⟩
def yAt (Q:Qx):Ls→Ls→Ls→Int→Bool→Prop:=(fun l0 l1 l2 i3 b4=>Q (.exit 0) [(0,.v (.data l0)),(2,.box (.agg [.nils])),(5,.box (.agg [(.data l1),(.data l2)])),(7,.v .nils),(8,.v (.int .i64 i3)),(22,.v (.bool b4))] [])
def yqA (Q:Qx):Ls→Ls→Ls→Ls→Int→Bool→Prop:=(fun l0 l1 l2 l3 i6 b7=>Q (.exit 0) [(0,.v (.data l1)),(2,.box (.agg [.nils])),(5,.box (.agg [(.data l2),(.data l3)])),(7,.v (.own 0 0 (List.length l0) (List.length l0) none)),(8,.v (.int .i64 i6)),(22,.v (.bool b7))] [⟨false,true,1,l0⟩])
def pt32:VPt:=vA (lC vNs lN)
def ytx (a0:yaZ) (a1:yac) (a2:ybV) (Q:Qx):List St:=[⟨(pS hN (fV 0 vD (fX 2 pt32 (fX 5 pt19 (fV 7 vNs pt10)))) fN),yfs a0 a1 a2 (yAt Q) (yqA Q)⟩,⟨(pS pt31 (fV 0 vD (fX 2 pt32 (fX 5 pt19 (fV 7 pt21 pt10)))) fN),yci a0 a1 a2 (yqA Q)⟩]
def yyV (a0:yaZ) (a1:yac) (a2:ybV):LP:=lpS [(84913900,ytx a0 a1 a2)]
def yrU (e:Es) (a0:yaZ) (a1:yac) (a2:ybV):SE:=⟨(E e),yh1 [(ymb,ywa.pw a0),(yhC,ykJ.pw a1)],yh2 [],yyV a0 a1 a2,yym [(yec,ycW a2)]⟩
theorem ywi (e:Es) (he:EG e):SEOk (Uni (E e)) (yrU e yha ybn ybW):=yD2 (Sub.uni _) ⟨(yES e he),(ylq e he),trivial⟩ trivial he.ok ⟨(yAs e he),trivial⟩
theorem yyW (e:Es) (a0 a1 a2):ybM (yrU e a0 a1 a2) 5 a yrm false (ytx a0 a1 a2):=fun _=>⟨fun _=>by kernel_rfl,fun _ _=>by kernel_rfl,fun _=>by kernel_rfl,fun _ _=>by kernel_rfl,trivial⟩
theorem yyX (e:Es) (he:EG e):LpT (Uni (E e)) (yyV yha ybn ybW) [] 84913900 (.loop 84913900 yrm):=fun _ _ _=>ysB.st (Sub.uni _) (yaD (ywi e he) 5) (YOk.no _ _) (yam (by kernel_rfl)) (yyW e _ _ _ _)
theorem yGF (e:Es) (a0 a1 a2):EqW (yrU e a0 a1 a2) 6 yA2 yyU (ynb a0 a1 a2):=fun _ _=>by kernel_rfl
theorem yyY (e:Es) (he:EG e):OkF (E e) (yyU.pw yf9) ypu:=okU he (yGF e _ _ _) (ywi e he) ynm.flat (yaW (l:=[(84913900,.loop 84913900 yrm)]) ⟨yyX e he,trivial⟩ (by kernel_rfl))
def ydU (x0:Bool→Prop) (x1:Ls→Ls→Int→Bool→Prop):Nat→Ls→Ls→Int→Prop
 | 0,_,_,_=>False
 | n+1,l0,l1,i2 =>
 (cbr (decide (i2<(((List.length l0):Nat):Int)))
 (asr (decide ((0:Int)≤i2))
 (asr (decide (i2<(((List.length l0):Nat):Int)))
 (asr (conf z4 (List.getD l0 (i2.toNat) .nils))
 (asr (decide ((0:Int)≤i2))
 (asr (decide (i2<(((List.length l1):Nat):Int)))
 (asr (conf z4 (List.getD l1 (i2.toNat) .nils))
 (cbr (!(((yaa (yab (List.getD l0 (i2.toNat) .nils) 0)) ==(yaa (yab (List.getD l1 (i2.toNat) .nils) 0)))&&(((yaa (yab (List.getD l0 (i2.toNat) .nils) 1)) ==(yaa (yab (List.getD l1 (i2.toNat) .nils) 1)))&&(((yaa (yab (List.getD l0 (i2.toNat) .nils) 2)) ==(yaa (yab (List.getD l1 (i2.toNat) .nils) 2)))&&(((yaa (yab (List.getD l0 (i2.toNat) .nils) 3)) ==(yaa (yab (List.getD l1 (i2.toNat) .nils) 3)))&&true)))))
 (x0 false)
 (ydU x0 x1 n l0 l1 (IntKind.i64.wrap (i2+(1:Int)))))))))))
 (x1 l0 l1 i2 false))
def yo0 (p0 p1:Ls) (K:Bool→Prop):Prop :=
 (cbr ((((List.length p0):Nat):Int) !=(((List.length p1):Nat):Int))
 (K false)
 (∃ n:Nat,ydU
 (fun a=>(K a))
 (fun b c d e=>(K true))
 n p0 p1 (0:Int)))
def ydF:ybx:=yo0
def yyZ (Q:Qx):Bool→Prop:=(fun b0=>Q .ret [(4,.v (.bool b0))] [])
def yy0 (Q:Qx):Ls→Ls→Int→Bool→Prop:=(fun l0 l1 i2 b3=>Q (.exit 0) [(0,.v (.data l0)),(1,.v (.data l1)),(5,.v (.int .i64 i2)),(14,.v (.bool b3))] [])
def yqB (Q:Qx):List St:=[⟨pt28,ydU (yyZ Q) (yy0 Q)⟩]
def ywj:LP:=lpS [(27088800,yqB)]
def yo1 (e:Es):SE:=sE (E e) [] (ywj)
theorem yty (e:Es) (he:EG e):SEOk (Uni (E e)) (yo1 e):=yas (Sub.uni _) trivial trivial he.ok
theorem yw3 (e:Es):ybM (yo1 e) 5 a yrn false (yqB):=fun _=>⟨fun _=>by kernel_rfl,fun _ _=>by kernel_rfl,trivial⟩
theorem yw4 (e:Es) (he:EG e):LpT (Uni (E e)) (ywj) [] 27088800 (.loop 27088800 yrn):=fun _ _ _=>ysB.st (Sub.uni _) (yaD (yty e he) 5) (YOk.no _ _) (yam (by kernel_rfl)) (yw3 e _)
theorem yEW (e:Es):EqW (yo1 e) 6 yyx ynx yo0:=fun _ _=>by kernel_rfl
theorem ywk (e:Es) (he:EG e):OkF (E e) (ynx.pw ydF) ymf:=okU he (yEW e) (yty e he) ynm.flat (yaW (l:=[(27088800,.loop 27088800 yrn)]) ⟨yw4 e he,trivial⟩ (by kernel_rfl))
def ydV (a0:ybx) (x0:Bool→Prop) (x1:Ls→Ls→Int→Bool→Prop):Nat→Ls→Ls→Int→Prop
 | 0,_,_,_=>False
 | n+1,l0,l1,i2 =>
 (cbr (decide (i2<(((List.length l0):Nat):Int)))
 (asr (decide ((0:Int)≤i2))
 (asr (decide (i2<(((List.length l0):Nat):Int)))
 (asr (conf zD (List.getD l0 (i2.toNat) .nils))
 (asr (decide ((0:Int)≤i2))
 (asr (decide (i2<(((List.length l1):Nat):Int)))
 (asr (conf zD (List.getD l1 (i2.toNat) .nils))
 (a0 (yaX (List.getD l0 (i2.toNat) .nils)) (yaX (List.getD l1 (i2.toNat) .nils)) (fun a =>
 (cbr (!a)
 (x0 false)
 (ydV a0 x0 x1 n l0 l1 (IntKind.i64.wrap (i2+(1:Int)))))))))))))
 (x1 l0 l1 i2 false))
def yo2 (a0:ybx) (p0 p1:Ls) (K:Bool→Prop):Prop :=
 (cbr ((((List.length p0):Nat):Int) !=(((List.length p1):Nat):Int))
 (K false)
 (∃ n:Nat,ydV a0
 (fun a=>(K a))
 (fun b c d e=>(K true))
 n p0 p1 (0:Int)))
def yeR:ybx:=yo2 ydF
def yEX:Sg:=⟨(lC (vA pt9) (lC (vA pt9) lN)),Bool→Prop,fun K=>(fun r0=>K (.bool r0))⟩
def yy1 (Q:Qx):Bool→Prop:=(fun b0=>Q .ret [(4,.v (.bool b0))] [])
def yy2 (Q:Qx):Ls→Ls→Int→Bool→Prop:=(fun l0 l1 i2 b3=>Q (.exit 0) [(2,.box (.agg [(.data l0)])),(3,.box (.agg [(.data l1)])),(5,.v (.int .i64 i2)),(17,.v (.bool b3))] [])
def yqC (a0:ybx) (Q:Qx):List St:=[⟨(pS hN (fX 2 (vA pt9) (fX 3 (vA pt9) (fV 5 pt2 fN))) fN),ydV a0 (yy1 Q) (yy2 Q)⟩]
def ywl (a0:ybx):LP:=lpS [(70742100,yqC a0)]
def yo3 (e:Es) (a0:ybx):SE:=sE (E e) [(ymf,ynx.pw a0)] (ywl a0)
theorem ytz (e:Es) (he:EG e):SEOk (Uni (E e)) (yo3 e ydF):=yas (Sub.uni _) ⟨(ywk e he),trivial⟩ trivial he.ok
theorem yw5 (e:Es) (a0):ybM (yo3 e a0) 5 a yro false (yqC a0):=fun _=>⟨fun _=>by kernel_rfl,fun _ _=>by kernel_rfl,trivial⟩
theorem yw6 (e:Es) (he:EG e):LpT (Uni (E e)) (ywl ydF) [] 70742100 (.loop 70742100 yro):=fun _ _ _=>ysB.st (Sub.uni _) (yaD (ytz e he) 5) (YOk.no _ _) (yam (by kernel_rfl)) (yw5 e _ _)
theorem yEY (e:Es) (a0):EqW (yo3 e a0) 6 yyy yEX (yo2 a0):=fun _ _=>by kernel_rfl
theorem ywm (e:Es) (he:EG e):OkF (E e) (yEX.pw yeR) ymg:=okU he (yEY e _) (ytz e he) ynm.flat (yaW (l:=[(70742100,.loop 70742100 yro)]) ⟨yw6 e he,trivial⟩ (by kernel_rfl))
set_option linter.unusedVariables false
theorem yAu (p0:Int) (r0:Int) (r1:Int) (h:∀ K:Int→Int→Prop,K r0 r1→yf8 p0 K) (K:Int→Int→Prop):yf8 p0 K=K r0 r1 :=
 propext ⟨fun k=>detC (yts [] ya1) (az:=[(.int .i64 p0)]) (x:=(.tup [(.int .i64 r0),(.int .i64 r1)])) (fun K' k'=>h (fun r0 r1=>K' (.tup [(.int .i64 r0),(.int .i64 r1)])) k') (K:=fun x=>match x with | (.tup [(.int .i64 r0),(.int .i64 r1)])=>K r0 r1 | _=>False) k,h K⟩
theorem yEZ (p0:Ls) (r0:Ls) (r1:Ls) (r2:Int) (h:∀ K:Ls→Ls→Int→Prop,K r0 r1 r2→yf9 p0 K) (K:Ls→Ls→Int→Prop):yf9 p0 K=K r0 r1 r2 :=
 propext ⟨fun k=>detC (yyY [] ya1) (az:=[(.data p0)]) (x:=(.tup [(.agg [(.data r0)]),(.data r1),(.int .i64 r2)])) (fun K' k'=>h (fun r0 r1 r2=>K' (.tup [(.agg [(.data r0)]),(.data r1),(.int .i64 r2)])) k') (K:=fun x=>match x with | (.tup [(.agg [(.data r0)]),(.data r1),(.int .i64 r2)])=>K r0 r1 r2 | _=>False) k,h K⟩
theorem yC4 (p0:Ls) (p1:Ls) (r0:Bool) (h:∀ K:Bool→Prop,K r0→ydF p0 p1 K) (K:Bool→Prop):ydF p0 p1 K=K r0 :=
 propext ⟨fun k=>detC (ywk [] ya1) (az:=[(.data p0),(.data p1)]) (x:=(.bool r0)) (fun K' k'=>h (fun r0=>K' (.bool r0)) k') (K:=fun x=>match x with | (.bool r0)=>K r0 | _=>False) k,h K⟩
theorem yC5 (p0:Ls) (p1:Ls) (r0:Bool) (h:∀ K:Bool→Prop,K r0→yeR p0 p1 K) (K:Bool→Prop):yeR p0 p1 K=K r0 :=
 propext ⟨fun k=>detC (ywm [] ya1) (az:=[(.agg [(.data p0)]),(.agg [(.data p1)])]) (x:=(.bool r0)) (fun K' k'=>h (fun r0=>K' (.bool r0)) k') (K:=fun x=>match x with | (.bool r0)=>K r0 | _=>False) k,h K⟩
def yjv (a0:yaj) (p0:Int) (K:Int→Int→Prop):Prop :=
 (jn (fun (a:Bool→Prop) =>
 (cbr (decide (p0<(1:Int)))
 (a true)
 (a (decide (p0>(6:Int))))))
 (fun b=>(cbr b
 (K (0:Int) (2:Int))
 (cbr (p0 ==(1:Int))
 (K (0:Int) (0:Int))
 (lt (IntKind.i64.wrap (p0-(1:Int))) (fun c =>
 (a0 (IntKind.u64.wrap c) (fun d =>
 (lt (IntKind.i64.wrap ((2:Int)*d)) (fun e =>
 (lt (IntKind.i64.wrap (e-(1:Int))) (fun f =>
 (lt (IntKind.i64.wrap (p0*f)) (fun g =>
 (K g (0:Int))))))))))))))))
def yhu:yac:=yjv ydp
def yy3 (e:Es) (a0:yaj):SE:=sE (E e) [(ylX,yru.pw a0)] lp0
theorem yy4 (e:Es) (a0):EqW (yy3 e a0) 6 yzF ytq (yjv a0):=fun _ _=>by kernel_rfl
theorem yy5 (e:Es) (he:EG e):OkF (E e) (ytq.pw yhu) yhj:=okU he (yy4 e _) (yas (Sub.uni _) ⟨(ysN e he),trivial⟩ trivial he.ok) ynm.flat (yam (by kernel_rfl))
def yo4 (p0:Int) (K:Int→Int→Prop):Prop :=
 (K p0 (1:Int))
def yaL:yac:=yo4
def yy6 (e:Es):SE:=sE (E e) [] lp0
theorem yy7 (e:Es):EqW (yy6 e) 6 yzG ykJ yo4:=fun _ _=>by kernel_rfl
theorem yeS (e:Es) (he:EG e):OkF (E e) (ykJ.pw yaL) ycR:=okU he (yy7 e) (yas (Sub.uni _) trivial trivial he.ok) ynm.flat (yam (by kernel_rfl))
def ygu (a0:yah) (p0 p1 p2 p3:Int) (K:Int→Prop):Prop :=
 (a0 p0 p1 p2 p3 (fun a b =>
 (K a)))
def yaS:yae:=ygu ya0
def yy8 (e:Es) (a0:yah):SE:=sE (E e) [(ydZ,yB0.pw a0)] lp0
theorem yy9 (e:Es) (a0):EqW (yy8 e a0) 6 yzJ yjm (ygu a0):=fun _ _=>by kernel_rfl
theorem ygv (e:Es) (he:EG e):OkF (E e) (yjm.pw yaS) ydB:=okU he (yy9 e _) (yas (Sub.uni _) ⟨(ye5 e he),trivial⟩ trivial he.ok) ynm.flat (yam (by kernel_rfl))
abbrev yaq:Type:=Ls→Ls→Int→Int→Int→Int→Int→Int→Int→(Ls→Ls→Int→Int→Int→Prop)→Prop
def ykY (a0:yox) (a1:yac) (a2:yaO) (a3:yaf) (a4:yaO) (p0 p1:Ls) (p2 p3 p4 p5 p6 p7 p8:Int) (K:Ls→Ls→Int→Int→Int→Prop):Prop :=
 (a0 p0 p1 p2 (fun l b =>
 (a1 l (fun m n =>
 (jn (fun (c:Ls→Ls→Int→Int→Int→Prop) =>
 (jn (fun (a:Bool→Prop) =>
 (cbr (b ==(0:Int))
 (cbr (decide (p3>(0:Int)))
 (a true)
 (asr (decide ((0:Int)<(((List.length p0):Nat):Int)))
 (lt (List.getD p0 0 .nils) (fun d =>
 (asr (conf zK d)
 (a1 (yaa (yab d 0)) (fun o p =>
 (a (!((p5 == o)&&((p6 == p)&&true)))))))))))
 (a false)))
 (fun q=>(cbr q
 (a2 p0 p1 p2 p3 p4 p5 p6 (fun r s t u v =>
 (c r s v t u)))
 (c p0 p1 b m n)))))
 (fun e f g h i=>(jn (fun (j:Int→Int→Int→Prop) =>
 (cbr (g ==(0:Int))
 (a3 h i p7 p8 (fun w x y =>
 (j y w x)))
 (j g h i)))
 (fun k z A=>(cbr (k !=(0:Int))
 (K e f (0:Int) (0:Int) k)
 (a4 e f p2 p3 p4 z A (fun B C D E F =>
 (K B C D E F))))))))))))
def yay:yaq:=ykY yhI yaL ydv ybg ydD
def yAv:Sg:=⟨(lC pt19 (lC pt2 (lC pt7 pt12))),Ls→Ls→Int→Int→Int→Prop,fun K=>(fun r0 r1 r2 r3 r4=>K (.tup [(.agg [(.data r0),(.data r1)]),(.agg [(.int .i64 r2),(.int .i64 r3)]),(.int .i64 r4)]))⟩
def yAw (e:Es) (a0:yox) (a1:yac) (a2:yaO) (a3:yaf) (a4:yaO):SE:=sE (E e) [(yjR,yCf.pw a0),(ycR,ykJ.pw a1),(yjS,yiq.pw a2),(yd0,yds.pw a3),(ylZ,yiq.pw a4)] lp0
theorem yAx (e:Es) (a0 a1 a2 a3 a4):EqW (yAw e a0 a1 a2 a3 a4) 6 yBV yAv (ykY a0 a1 a2 a3 a4):=fun _ _=>by kernel_rfl
theorem ykZ (e:Es) (he:EG e):OkF (E e) (yAv.pw yay) ye2:=okU he (yAx e _ _ _ _ _) (yas (Sub.uni _) ⟨(yCi e he),(yeS e he),(ys9 e he),(ye6 e he),(ywb e he),trivial⟩ trivial he.ok) ynm.flat (yam (by kernel_rfl))
abbrev yai:Type:=Int→Int→Int→Int→Int→Int→(Int→Prop)→Prop
def yhb (a0:yae) (p0 p1 p2 p3 p4 p5:Int) (K:Int→Prop):Prop :=
 (a0 p1 p2 p4 p5 (fun a =>
 (K a)))
def yaw:yai:=yhb yaS
def yvp:Sg:=⟨(lC (vA (lC pt2 pt6)) (lC (vA (lC pt2 pt6)) lN)),Int→Prop,fun K=>(fun r0=>K (.int .i64 r0))⟩
def yvq (e:Es) (a0:yae):SE:=sE (E e) [(ydB,yjm.pw a0)] lp0
theorem yvr (e:Es) (a0):EqW (yvq e a0) 6 ywv yvp (yhb a0):=fun _ _=>by kernel_rfl
theorem yhc (e:Es) (he:EG e):OkF (E e) (yvp.pw yaw) yaY:=okU he (yvr e _) (yas (Sub.uni _) ⟨(ygv e he),trivial⟩ trivial he.ok) ynm.flat (yam (by kernel_rfl))
def ybr (a0:yan) (a1:yah) (a2:yac) (a3:yae) (a4:yal) (a5:yaq) (a6:yaj) (a7:yai) (a8:yak) (b:Ls→Ls→Ls→Int→Int→Int→Int→Int→Int→Bool→Int→Bool→Prop):Nat→Ls→Ls→Ls→Int→Int→Int→Int→Int→Int→Bool→Int→Prop
 | 0,_,_,_,_,_,_,_,_,_,_,_=>False
 | f+1,l0,l1,l2,i3,i4,i5,i6,i7,i8,b9,i10 =>
 (cbr (decide (i10<(((List.length l0):Nat):Int)))
 (jn (fun (c:Bool→Prop) =>
 (cbr b9
 (lt (IntKind.i64.wrap (i10-(1:Int))) (fun a =>
 (asr (decide ((0:Int)≤a))
 (asr (decide (a<(((List.length l0):Nat):Int)))
 (lt (List.getD l0 (a.toNat) .nils) (fun d =>
 (asr (conf zI d)
 (asr (decide ((0:Int)≤i10))
 (asr (decide (i10<(((List.length l0):Nat):Int)))
 (lt (List.getD l0 (i10.toNat) .nils) (fun e =>
 (asr (conf zI e)
 (c (decide ((yaa d)<(yaa e))))))))))))))))
 (c false)))
 (fun g=>(lt (IntKind.i64.wrap (i10+(1:Int))) (fun h =>
 (ybr a0 a1 a2 a3 a4 a5 a6 a7 a8 b f l0 l1 l2 i3 i4 i5 i6 i7 i8 g h)))))
 (b l0 l1 l2 i3 i4 i5 i6 i7 i8 b9 i10 false))
def ya4 (a0:yan) (a1:yah) (a2:yac) (a3:yae) (a4:yal) (a5:yaq) (a6:yaj) (a7:yai) (a8:yak) (d:Ls→Ls→Ls→Int→Int→Int→Int→Int→Int→Int→Int→Int→Ls→Int→Int→Bool→Prop) (e:Ls→Int→Int→Int→Prop):Nat→Ls→Ls→Ls→Int→Int→Int→Int→Int→Int→Int→Int→Int→Ls→Int→Int→Prop
 | 0,_,_,_,_,_,_,_,_,_,_,_,_,_,_,_=>False
 | g+1,l0,l1,l2,i3,i4,i5,i6,i7,i8,i9,i10,i11,l14,i15,i16 =>
 (cbr (decide (i16<i15))
 (asr (decide ((0:Int)≤i16))
 (asr (decide (i16<(((List.length l14):Nat):Int)))
 (lt (List.getD l14 (i16.toNat) .nils) (fun a =>
 (asr (conf zI a)
 (a5 l1 l2 (yaa a) i3 i4 i5 i6 i10 i11 (fun h i b c f =>
 (cbr (f !=(0:Int))
 (e l0 (0:Int) (0:Int) f)
 (asr (decide ((List.length l0)=(List.length l0)))
 (asr (decide ((0+(List.length l0))≤(List.length l0)))
 (asr (!(decide (((0+(List.length l0))+1)≤(List.length l0))))
 (asr (decide ((List.length l0)=(List.length l0)))
 (asr (decide ((((List.length l0)+1)+64)*(24+1)≤room))
 (lt (IntKind.i64.wrap (i16+(1:Int))) (fun j =>
 (asr (decide ((List.length (l0++([(.agg [(.int .i64 (yaa a)),(.int .i64 b),(.int .i64 c)])]:Ls)))=List.length (l0++([(.agg [(.int .i64 (yaa a)),(.int .i64 b),(.int .i64 c)])]:Ls)))&&decide ((List.length (l0++([(.agg [(.int .i64 (yaa a)),(.int .i64 b),(.int .i64 c)])]:Ls)))=List.length (l0++([(.agg [(.int .i64 (yaa a)),(.int .i64 b),(.int .i64 c)])]:Ls))))
 (ya4 a0 a1 a2 a3 a4 a5 a6 a7 a8 d e g (l0++([(.agg [(.int .i64 (yaa a)),(.int .i64 b),(.int .i64 c)])]:Ls)) h i i3 i4 i5 i6 i7 i8 i9 i10 i11 l14 i15 j)))))))))))))))))
 (d l0 l1 l2 i3 i4 i5 i6 i7 i8 i9 i10 i11 l14 i15 i16 false))
def ydy (a0:yan) (a1:yah) (a2:yac) (a3:yae) (a4:yal) (a5:yaq) (a6:yaj) (a7:yai) (a8:yak) (e:Ls→Ls→Int→Int→Int→Int→Int→Int→Int→Int→Int→Ls→Int→Int→Bool→Prop) (f:Int→Int→Int→Prop) (g:Ls→Ls→Ls→Int→Int→Int→Int→Int→Int→Int→Int→Int→Ls→Int→Int→Bool→Prop) (h:Ls→Int→Int→Int→Prop):Nat→Ls→Ls→Int→Int→Int→Int→Int→Int→Int→Int→Int→Ls→Int→Int→Prop
 | 0,_,_,_,_,_,_,_,_,_,_,_,_,_,_=>False
 | i+1,l0,l1,i2,i3,i4,i5,i6,i7,i8,i9,i10,l11,i12,i13 =>
 (cbr (decide (i13<i12))
 (asr (decide ((0:Int)≤i13))
 (asr (decide (i13<(((List.length l11):Nat):Int)))
 (lt (List.getD l11 (i13.toNat) .nils) (fun a =>
 (asr (conf zI a)
 (a5 l0 l1 (yaa a) i2 i3 i4 i5 i9 i10 (fun j k b c d =>
 (cbr (d !=(0:Int))
 (f (0:Int) (0:Int) d)
 (lt (IntKind.i64.wrap (i13+(1:Int))) (fun l =>
 (asr (decide (1=List.length ([(.agg [(.int .i64 (yaa a)),(.int .i64 b),(.int .i64 c)])]:Ls))&&decide (1=List.length ([(.agg [(.int .i64 (yaa a)),(.int .i64 b),(.int .i64 c)])]:Ls)))
 (ya4 a0 a1 a2 a3 a4 a5 a6 a7 a8 g h i ([(.agg [(.int .i64 (yaa a)),(.int .i64 b),(.int .i64 c)])]:Ls) j k i2 i3 i4 i5 i6 i7 i8 i9 i10 l11 i12 l))))))))))))
 (e l0 l1 i2 i3 i4 i5 i6 i7 i8 i9 i10 l11 i12 i13 false))
def ykf (a0:yan) (a1:yah) (a2:yac) (a3:yae) (a4:yal) (a5:yaq) (a6:yaj) (a7:yai) (a8:yak) (a:Int→Int→Int→Int→Bool→Prop):Nat→Int→Int→Int→Int→Prop
 | 0,_,_,_,_=>False
 | b+1,i0,i1,i2,i3 =>
 (cbr (decide (i3≤i0))
 False
 (a i0 i1 i2 i3 false))
def yex (a0:yan) (a1:yah) (a2:yac) (a3:yae) (a4:yal) (a5:yaq) (a6:yaj) (a7:yai) (a8:yak) (a:Ls→Int→Int→Int→Int→Bool→Prop):Nat→Ls→Int→Int→Int→Int→Prop
 | 0,_,_,_,_,_=>False
 | b+1,l0,i3,i4,i5,i6 =>
 (cbr (decide (i6≤i3))
 False
 (a l0 i3 i4 i5 i6 false))
def ykg (a0:yan) (a1:yah) (a2:yac) (a3:yae) (a4:yal) (a5:yaq) (a6:yaj) (a7:yai) (a8:yak) (a:Int→Int→Int→Int→Bool→Prop):Nat→Int→Int→Int→Int→Prop
 | 0,_,_,_,_=>False
 | b+1,i0,i1,i2,i3 =>
 (cbr (decide (i3>i0))
 False
 (a i0 i1 i2 i3 false))
def ybh (a0:yan) (a1:yah) (a2:yac) (a3:yae) (a4:yal) (a5:yaq) (a6:yaj) (a7:yai) (a8:yak) (h:Ls→Int→Int→Int→Int→Bool→Prop):Nat→Ls→Int→Int→Int→Int→Prop
 | 0,_,_,_,_,_=>False
 | k+1,l0,i3,i4,i5,i6 =>
 (jn (fun (j:Bool→Prop) =>
 (cbr (decide (i6>i3))
 (asr (decide ((0:Int)≤i6))
 (asr (decide (i6<(((List.length l0):Nat):Int)))
 (asr (decide ((List.length l0)=(List.length l0)))
 (asr (decide ((0+(i6.toNat))<(List.length l0)))
 (lt (List.getD l0 (0+(i6.toNat)) .nils) (fun d =>
 (asr (conf (.agg [.i .i64,.i .i64,.i .i64]) d)
 (lt (IntKind.i64.wrap (i6-(1:Int))) (fun e =>
 (asr (decide ((0:Int)≤e))
 (asr (decide (e<(((List.length l0):Nat):Int)))
 (asr (decide ((List.length l0)=(List.length l0)))
 (asr (decide ((0+(e.toNat))<(List.length l0)))
 (lt (List.getD l0 (0+(e.toNat)) .nils) (fun f =>
 (asr (conf (.agg [.i .i64,.i .i64,.i .i64]) f)
 (a7 (yaa (yab d 0)) (yaa (yab d 1)) (yaa (yab d 2)) (yaa (yab f 0)) (yaa (yab f 1)) (yaa (yab f 2)) (fun l =>
 (j (decide (l<(0:Int))))))))))))))))))))))
 (j false)))
 (fun m=>(cbr m
 (lt (IntKind.i64.wrap (i6-(1:Int))) (fun c =>
 (lt (IntKind.i64.wrap (i6-(1:Int))) (fun g =>
 (asr (decide ((0:Int)≤g))
 (asr (decide (g<(((List.length l0):Nat):Int)))
 (asr (decide ((List.length l0)=(List.length l0)))
 (asr (decide ((0+(g.toNat))<(List.length l0)))
 (lt (List.getD l0 (0+(g.toNat)) .nils) (fun a =>
 (asr (conf (.agg [.i .i64,.i .i64,.i .i64]) a)
 (asr (decide ((0:Int)≤i6))
 (asr (decide (i6<(((List.length l0):Nat):Int)))
 (asr (decide ((List.length l0)=(List.length l0)))
 (asr (decide ((0+(i6.toNat))<(List.length l0)))
 (lt (List.getD l0 (0+(i6.toNat)) .nils) (fun b =>
 (asr (conf (.agg [.i .i64,.i .i64,.i .i64]) b)
 (asr (decide ((0:Int)≤i6))
 (asr (decide (i6<(((List.length l0):Nat):Int)))
 (asr (decide ((List.length l0)=(List.length l0)))
 (asr (decide ((0+(i6.toNat))<(List.length l0)))
 (lt (List.getD l0 (0+(i6.toNat)) .nils) (fun n =>
 (asr (conf (.agg [.i .i64,.i .i64,.i .i64]) n)
 (asr (decide ((0:Int)≤c))
 (asr (decide (c<(((List.length l0):Nat):Int)))
 (asr (decide ((List.length (List.set l0 (0+(i6.toNat)) (.agg [(.int .i64 (yaa (yab a 0))),(.int .i64 (yaa (yab a 1))),(.int .i64 (yaa (yab a 2)))])))=(List.length l0)))
 (asr (decide ((0+(c.toNat))<(List.length (List.set l0 (0+(i6.toNat)) (.agg [(.int .i64 (yaa (yab a 0))),(.int .i64 (yaa (yab a 1))),(.int .i64 (yaa (yab a 2)))])))))
 (lt (List.getD (List.set l0 (0+(i6.toNat)) (.agg [(.int .i64 (yaa (yab a 0))),(.int .i64 (yaa (yab a 1))),(.int .i64 (yaa (yab a 2)))])) (0+(c.toNat)) .nils) (fun o =>
 (asr (conf (.agg [.i .i64,.i .i64,.i .i64]) o)
 (lt (IntKind.i64.wrap (i6-(1:Int))) (fun p =>
 (asr (decide ((List.length l0)=List.length (List.set (List.set l0 (0+(i6.toNat)) (.agg [(.int .i64 (yaa (yab a 0))),(.int .i64 (yaa (yab a 1))),(.int .i64 (yaa (yab a 2)))])) (0+(c.toNat)) (.agg [(.int .i64 (yaa (yab b 0))),(.int .i64 (yaa (yab b 1))),(.int .i64 (yaa (yab b 2)))])))&&decide ((List.length l0)=List.length (List.set (List.set l0 (0+(i6.toNat)) (.agg [(.int .i64 (yaa (yab a 0))),(.int .i64 (yaa (yab a 1))),(.int .i64 (yaa (yab a 2)))])) (0+(c.toNat)) (.agg [(.int .i64 (yaa (yab b 0))),(.int .i64 (yaa (yab b 1))),(.int .i64 (yaa (yab b 2)))]))))
 (ybh a0 a1 a2 a3 a4 a5 a6 a7 a8 h k (List.set (List.set l0 (0+(i6.toNat)) (.agg [(.int .i64 (yaa (yab a 0))),(.int .i64 (yaa (yab a 1))),(.int .i64 (yaa (yab a 2)))])) (0+(c.toNat)) (.agg [(.int .i64 (yaa (yab b 0))),(.int .i64 (yaa (yab b 1))),(.int .i64 (yaa (yab b 2)))])) i3 i4 i5 p))))))))))))))))))))))))))))))))))))
 (h l0 i3 i4 i5 i6 false))))
def ykh (a0:yan) (a1:yah) (a2:yac) (a3:yae) (a4:yal) (a5:yaq) (a6:yaj) (a7:yai) (a8:yak) (a:Int→Int→Bool→Prop):Nat→Int→Int→Prop
 | 0,_,_=>False
 | b+1,i0,i1 =>
 (cbr (decide (i1<i0))
 False
 (a i0 i1 false))
def yey (a0:yan) (a1:yah) (a2:yac) (a3:yae) (a4:yal) (a5:yaq) (a6:yaj) (a7:yai) (a8:yak) (a:Ls→Nat→Nat→Int→Int→Bool→Prop):Nat→Ls→Nat→Nat→Int→Int→Prop
 | 0,_,_,_,_,_=>False
 | b+1,l0,n1,n2,i3,i4 =>
 (cbr (decide (i4<i3))
 False
 (a l0 n1 n2 i3 i4 false))
def yki (a0:yan) (a1:yah) (a2:yac) (a3:yae) (a4:yal) (a5:yaq) (a6:yaj) (a7:yai) (a8:yak) (a:Ls→Ls→Int→Int→Int→Int→Int→Bool→Prop):Nat→Ls→Ls→Int→Int→Int→Int→Int→Prop
 | 0,_,_,_,_,_,_,_=>False
 | b+1,l0,l1,i2,i3,i4,i5,i6 =>
 (cbr (decide (i6<i5))
 False
 (a l0 l1 i2 i3 i4 i5 i6 false))
def ya5 (a0:yan) (a1:yah) (a2:yac) (a3:yae) (a4:yal) (a5:yaq) (a6:yaj) (a7:yai) (a8:yak) (d:Ls→Ls→Ls→Ls→Ls→Int→Int→Int→Nat→Nat→Nat→Nat→Int→Int→Bool→Prop):Nat→Ls→Ls→Ls→Ls→Ls→Int→Int→Int→Nat→Nat→Nat→Nat→Int→Int→Prop
 | 0,_,_,_,_,_,_,_,_,_,_,_,_,_,_=>False
 | f+1,l0,l1,l2,l3,l4,i5,i6,i11,n12,n13,n14,n15,i16,i17 =>
 (cbr (decide (i17<i16))
 (jn (fun (e:Ls→Ls→Prop) =>
 (asr (decide ((0:Int)≤i17))
 (asr (decide (i17<((n14:Nat):Int)))
 (asr (decide ((List.length l0)=n15))
 (asr (decide ((0+(i17.toNat))<(List.length l0)))
 (lt (List.getD l0 (0+(i17.toNat)) .nils) (fun c =>
 (asr (conf (.agg [.i .i64,.i .i64,.i .i64]) c)
 (cbr (decide (i17<i11))
 (asr (decide ((List.length l1)=(List.length l1)))
 (asr (decide ((0+(List.length l1))≤(List.length l1)))
 (asr (!(decide (((0+(List.length l1))+1)≤(List.length l1))))
 (asr (decide ((List.length l1)=(List.length l1)))
 (asr (decide ((((List.length l1)+1)+64)*(8+1)≤room))
 (e (l1++([(.int .i64 (yaa (yab c 0)))]:Ls)) l2))))))
 (asr (decide ((List.length l2)=(List.length l2)))
 (asr (decide ((0+(List.length l2))≤(List.length l2)))
 (asr (!(decide (((0+(List.length l2))+1)≤(List.length l2))))
 (asr (decide ((List.length l2)=(List.length l2)))
 (asr (decide ((((List.length l2)+1)+64)*(8+1)≤room))
 (e l1 (l2++([(.int .i64 (yaa (yab c 0)))]:Ls)))))))))))))))))
 (fun a b=>(lt (IntKind.i64.wrap (i17+(1:Int))) (fun g =>
 (asr (decide ((List.length a)=List.length a)&&decide ((List.length a)=List.length a)&&decide ((List.length b)=List.length b)&&decide ((List.length b)=List.length b))
 (ya5 a0 a1 a2 a3 a4 a5 a6 a7 a8 d f l0 a b l3 l4 i5 i6 i11 n12 n13 n14 n15 i16 g))))))
 (d l0 l1 l2 l3 l4 i5 i6 i11 n12 n13 n14 n15 i16 i17 false))
def ya6 (a0:yan) (a1:yah) (a2:yac) (a3:yae) (a4:yal) (a5:yaq) (a6:yaj) (a7:yai) (a8:yak) (b:Ls→Ls→Ls→Ls→Int→Int→Int→Nat→Nat→Nat→Nat→Int→Int→Bool→Prop) (c:Ls→Ls→Ls→Ls→Ls→Int→Int→Int→Nat→Nat→Nat→Nat→Int→Int→Bool→Prop):Nat→Ls→Ls→Ls→Ls→Int→Int→Int→Nat→Nat→Nat→Nat→Int→Int→Prop
 | 0,_,_,_,_,_,_,_,_,_,_,_,_,_=>False
 | d+1,l0,l1,l2,l3,i4,i5,i8,n9,n10,n11,n12,i13,i14 =>
 (cbr (decide (i14<i13))
 (asr (decide ((0:Int)≤i14))
 (asr (decide (i14<((n11:Nat):Int)))
 (asr (decide ((List.length l0)=n12))
 (asr (decide ((0+(i14.toNat))<(List.length l0)))
 (lt (List.getD l0 (0+(i14.toNat)) .nils) (fun a =>
 (asr (conf (.agg [.i .i64,.i .i64,.i .i64]) a)
 (cbr (decide (i14<i8))
 (asr (decide ((List.length l1)=(List.length l1)))
 (asr (decide ((0+(List.length l1))≤(List.length l1)))
 (asr (!(decide (((0+(List.length l1))+1)≤(List.length l1))))
 (asr (decide ((List.length l1)=(List.length l1)))
 (asr (decide ((((List.length l1)+1)+64)*(8+1)≤room))
 (lt (IntKind.i64.wrap (i14+(1:Int))) (fun e =>
 (asr (decide ((List.length (l1++([(.int .i64 (yaa (yab a 0)))]:Ls)))=List.length (l1++([(.int .i64 (yaa (yab a 0)))]:Ls)))&&decide ((List.length (l1++([(.int .i64 (yaa (yab a 0)))]:Ls)))=List.length (l1++([(.int .i64 (yaa (yab a 0)))]:Ls))))
 (ya6 a0 a1 a2 a3 a4 a5 a6 a7 a8 b c d l0 (l1++([(.int .i64 (yaa (yab a 0)))]:Ls)) l2 l3 i4 i5 i8 n9 n10 n11 n12 i13 e)))))))))
 (lt (IntKind.i64.wrap (i14+(1:Int))) (fun f =>
 (asr (decide ((List.length l1)=List.length l1)&&decide ((List.length l1)=List.length l1)&&decide (1=List.length ([(.int .i64 (yaa (yab a 0)))]:Ls))&&decide (1=List.length ([(.int .i64 (yaa (yab a 0)))]:Ls)))
 (ya5 a0 a1 a2 a3 a4 a5 a6 a7 a8 c d l0 l1 ([(.int .i64 (yaa (yab a 0)))]:Ls) l2 l3 i4 i5 i8 n9 n10 n11 n12 i13 f))))))))))))
 (b l0 l1 l2 l3 i4 i5 i8 n9 n10 n11 n12 i13 i14 false))
def ygw (a0:yan) (a1:yah) (a2:yac) (a3:yae) (a4:yal) (a5:yaq) (a6:yaj) (a7:yai) (a8:yak) (d:Ls→Ls→Ls→Ls→Ls→Int→Int→Int→Nat→Nat→Nat→Nat→Int→Int→Bool→Prop):Nat→Ls→Ls→Ls→Ls→Ls→Int→Int→Int→Nat→Nat→Nat→Nat→Int→Int→Prop
 | 0,_,_,_,_,_,_,_,_,_,_,_,_,_,_=>False
 | f+1,l0,l1,l2,l3,l4,i5,i6,i11,n12,n13,n14,n15,i16,i17 =>
 (cbr (decide (i17<i16))
 (jn (fun (e:Ls→Ls→Prop) =>
 (asr (decide ((0:Int)≤i17))
 (asr (decide (i17<((n14:Nat):Int)))
 (asr (decide ((List.length l0)=n15))
 (asr (decide ((0+(i17.toNat))<(List.length l0)))
 (lt (List.getD l0 (0+(i17.toNat)) .nils) (fun c =>
 (asr (conf (.agg [.i .i64,.i .i64,.i .i64]) c)
 (cbr (decide (i17<i11))
 (asr (decide ((List.length l2)=(List.length l2)))
 (asr (decide ((0+(List.length l2))≤(List.length l2)))
 (asr (!(decide (((0+(List.length l2))+1)≤(List.length l2))))
 (asr (decide ((List.length l2)=(List.length l2)))
 (asr (decide ((((List.length l2)+1)+64)*(8+1)≤room))
 (e l1 (l2++([(.int .i64 (yaa (yab c 0)))]:Ls))))))))
 (asr (decide ((List.length l1)=(List.length l1)))
 (asr (decide ((0+(List.length l1))≤(List.length l1)))
 (asr (!(decide (((0+(List.length l1))+1)≤(List.length l1))))
 (asr (decide ((List.length l1)=(List.length l1)))
 (asr (decide ((((List.length l1)+1)+64)*(8+1)≤room))
 (e (l1++([(.int .i64 (yaa (yab c 0)))]:Ls)) l2)))))))))))))))
 (fun a b=>(lt (IntKind.i64.wrap (i17+(1:Int))) (fun g =>
 (asr (decide ((List.length b)=List.length b)&&decide ((List.length b)=List.length b)&&decide ((List.length a)=List.length a)&&decide ((List.length a)=List.length a))
 (ygw a0 a1 a2 a3 a4 a5 a6 a7 a8 d f l0 a b l3 l4 i5 i6 i11 n12 n13 n14 n15 i16 g))))))
 (d l0 l1 l2 l3 l4 i5 i6 i11 n12 n13 n14 n15 i16 i17 false))
def ygx (a0:yan) (a1:yah) (a2:yac) (a3:yae) (a4:yal) (a5:yaq) (a6:yaj) (a7:yai) (a8:yak) (b:Ls→Ls→Ls→Ls→Int→Int→Int→Nat→Nat→Nat→Nat→Int→Int→Bool→Prop) (c:Ls→Ls→Ls→Ls→Ls→Int→Int→Int→Nat→Nat→Nat→Nat→Int→Int→Bool→Prop):Nat→Ls→Ls→Ls→Ls→Int→Int→Int→Nat→Nat→Nat→Nat→Int→Int→Prop
 | 0,_,_,_,_,_,_,_,_,_,_,_,_,_=>False
 | d+1,l0,l1,l2,l3,i4,i5,i8,n9,n10,n11,n12,i13,i14 =>
 (cbr (decide (i14<i13))
 (asr (decide ((0:Int)≤i14))
 (asr (decide (i14<((n11:Nat):Int)))
 (asr (decide ((List.length l0)=n12))
 (asr (decide ((0+(i14.toNat))<(List.length l0)))
 (lt (List.getD l0 (0+(i14.toNat)) .nils) (fun a =>
 (asr (conf (.agg [.i .i64,.i .i64,.i .i64]) a)
 (cbr (decide (i14<i8))
 (lt (IntKind.i64.wrap (i14+(1:Int))) (fun e =>
 (asr (decide (1=List.length ([(.int .i64 (yaa (yab a 0)))]:Ls))&&decide (1=List.length ([(.int .i64 (yaa (yab a 0)))]:Ls))&&decide ((List.length l1)=List.length l1)&&decide ((List.length l1)=List.length l1))
 (ygw a0 a1 a2 a3 a4 a5 a6 a7 a8 c d l0 l1 ([(.int .i64 (yaa (yab a 0)))]:Ls) l2 l3 i4 i5 i8 n9 n10 n11 n12 i13 e))))
 (asr (decide ((List.length l1)=(List.length l1)))
 (asr (decide ((0+(List.length l1))≤(List.length l1)))
 (asr (!(decide (((0+(List.length l1))+1)≤(List.length l1))))
 (asr (decide ((List.length l1)=(List.length l1)))
 (asr (decide ((((List.length l1)+1)+64)*(8+1)≤room))
 (lt (IntKind.i64.wrap (i14+(1:Int))) (fun f =>
 (asr (decide ((List.length (l1++([(.int .i64 (yaa (yab a 0)))]:Ls)))=List.length (l1++([(.int .i64 (yaa (yab a 0)))]:Ls)))&&decide ((List.length (l1++([(.int .i64 (yaa (yab a 0)))]:Ls)))=List.length (l1++([(.int .i64 (yaa (yab a 0)))]:Ls))))
 (ygx a0 a1 a2 a3 a4 a5 a6 a7 a8 b c d l0 (l1++([(.int .i64 (yaa (yab a 0)))]:Ls)) l2 l3 i4 i5 i8 n9 n10 n11 n12 i13 f)))))))))))))))))
 (b l0 l1 l2 l3 i4 i5 i8 n9 n10 n11 n12 i13 i14 false))
def ydz (a0:yan) (a1:yah) (a2:yac) (a3:yae) (a4:yal) (a5:yaq) (a6:yaj) (a7:yai) (a8:yak) (c:Ls→Ls→Ls→Int→Int→Int→Nat→Nat→Nat→Nat→Int→Int→Bool→Prop) (d:Ls→Ls→Ls→Ls→Int→Int→Int→Nat→Nat→Nat→Nat→Int→Int→Bool→Prop) (e:Ls→Ls→Ls→Ls→Ls→Int→Int→Int→Nat→Nat→Nat→Nat→Int→Int→Bool→Prop) (f:Ls→Ls→Ls→Ls→Int→Int→Int→Nat→Nat→Nat→Nat→Int→Int→Bool→Prop) (g:Ls→Ls→Ls→Ls→Ls→Int→Int→Int→Nat→Nat→Nat→Nat→Int→Int→Bool→Prop):Nat→Ls→Ls→Ls→Int→Int→Int→Nat→Nat→Nat→Nat→Int→Int→Prop
 | 0,_,_,_,_,_,_,_,_,_,_,_,_=>False
 | b+1,l0,l1,l2,i3,i4,i5,n6,n7,n8,n9,i10,i11 =>
 (cbr (decide (i11<i10))
 (asr (decide ((0:Int)≤i11))
 (asr (decide (i11<((n8:Nat):Int)))
 (asr (decide ((List.length l0)=n9))
 (asr (decide ((0+(i11.toNat))<(List.length l0)))
 (lt (List.getD l0 (0+(i11.toNat)) .nils) (fun a =>
 (asr (conf (.agg [.i .i64,.i .i64,.i .i64]) a)
 (cbr (decide (i11<i5))
 (lt (IntKind.i64.wrap (i11+(1:Int))) (fun h =>
 (asr (decide (1=List.length ([(.int .i64 (yaa (yab a 0)))]:Ls))&&decide (1=List.length ([(.int .i64 (yaa (yab a 0)))]:Ls)))
 (ya6 a0 a1 a2 a3 a4 a5 a6 a7 a8 d e b l0 ([(.int .i64 (yaa (yab a 0)))]:Ls) l1 l2 i3 i4 i5 n6 n7 n8 n9 i10 h))))
 (lt (IntKind.i64.wrap (i11+(1:Int))) (fun j =>
 (asr (decide (1=List.length ([(.int .i64 (yaa (yab a 0)))]:Ls))&&decide (1=List.length ([(.int .i64 (yaa (yab a 0)))]:Ls)))
 (ygx a0 a1 a2 a3 a4 a5 a6 a7 a8 f g b l0 ([(.int .i64 (yaa (yab a 0)))]:Ls) l1 l2 i3 i4 i5 n6 n7 n8 n9 i10 j))))))))))))
 (c l0 l1 l2 i3 i4 i5 n6 n7 n8 n9 i10 i11 false))
def ykj (a0:yan) (a1:yah) (a2:yac) (a3:yae) (a4:yal) (a5:yaq) (a6:yaj) (a7:yai) (a8:yak) (a:Int→Int→Int→Int→Bool→Prop):Nat→Int→Int→Int→Int→Prop
 | 0,_,_,_,_=>False
 | b+1,i0,i1,i2,i3 =>
 (cbr (decide (i3>i0))
 False
 (a i0 i1 i2 i3 false))
def ykk (a0:yan) (a1:yah) (a2:yac) (a3:yae) (a4:yal) (a5:yaq) (a6:yaj) (a7:yai) (a8:yak) (a:Ls→Int→Int→Int→Int→Bool→Prop):Nat→Ls→Int→Int→Int→Int→Prop
 | 0,_,_,_,_,_=>False
 | b+1,l0,i1,i2,i3,i4 =>
 (cbr (decide (i4>i1))
 False
 (a l0 i1 i2 i3 i4 false))
def ygy (a0:yan) (a1:yah) (a2:yac) (a3:yae) (a4:yal) (a5:yaq) (a6:yaj) (a7:yai) (a8:yak) (e:Ls→Ls→Nat→Nat→Int→Int→Int→Int→Bool→Prop):Nat→Ls→Ls→Nat→Nat→Int→Int→Int→Int→Prop
 | 0,_,_,_,_,_,_,_,_=>False
 | j+1,l0,l1,n2,n3,i4,i5,i6,i7 =>
 (jn (fun (f:Bool→Prop) =>
 (cbr (decide (i7>i4))
 (asr (decide ((0:Int)≤i7))
 (asr (decide (i7<((n2:Nat):Int)))
 (asr (decide ((List.length l1)=n3))
 (asr (decide ((0+(i7.toNat))<(List.length l1)))
 (lt (List.getD l1 (0+(i7.toNat)) .nils) (fun g =>
 (asr (conf zI g)
 (lt (IntKind.i64.wrap (i7-(1:Int))) (fun c =>
 (asr (decide ((0:Int)≤c))
 (asr (decide (c<((n2:Nat):Int)))
 (asr (decide ((List.length l1)=n3))
 (asr (decide ((0+(c.toNat))<(List.length l1)))
 (lt (List.getD l1 (0+(c.toNat)) .nils) (fun h =>
 (asr (conf zI h)
 (a8 (yaa g) (yaa h) (fun k =>
 (f k)))))))))))))))))))
 (f false)))
 (fun l=>(cbr l
 (lt (IntKind.i64.wrap (i7-(1:Int))) (fun a =>
 (lt (IntKind.i64.wrap (i7-(1:Int))) (fun d =>
 (asr (decide ((0:Int)≤d))
 (asr (decide (d<((n2:Nat):Int)))
 (asr (decide ((List.length l1)=n3))
 (asr (decide ((0+(d.toNat))<(List.length l1)))
 (lt (List.getD l1 (0+(d.toNat)) .nils) (fun b =>
 (asr (conf zI b)
 (asr (decide ((0:Int)≤i7))
 (asr (decide (i7<((n2:Nat):Int)))
 (asr (decide ((List.length l1)=n3))
 (asr (decide ((0+(i7.toNat))<(List.length l1)))
 (lt (List.getD l1 (0+(i7.toNat)) .nils) (fun i =>
 (asr (conf zI i)
 (asr (decide ((0:Int)≤i7))
 (asr (decide (i7<((n2:Nat):Int)))
 (asr (decide ((List.length l1)=n3))
 (asr (decide ((0+(i7.toNat))<(List.length l1)))
 (lt (List.getD l1 (0+(i7.toNat)) .nils) (fun m =>
 (asr (conf zI m)
 (asr (decide ((0:Int)≤a))
 (asr (decide (a<((n2:Nat):Int)))
 (asr (decide ((List.length (List.set l1 (0+(i7.toNat)) (.int .i64 (yaa b))))=n3))
 (asr (decide ((0+(a.toNat))<(List.length (List.set l1 (0+(i7.toNat)) (.int .i64 (yaa b))))))
 (lt (List.getD (List.set l1 (0+(i7.toNat)) (.int .i64 (yaa b))) (0+(a.toNat)) .nils) (fun n =>
 (asr (conf zI n)
 (lt (IntKind.i64.wrap (i7-(1:Int))) (fun o =>
 (ygy a0 a1 a2 a3 a4 a5 a6 a7 a8 e j l0 (List.set (List.set l1 (0+(i7.toNat)) (.int .i64 (yaa b))) (0+(a.toNat)) (.int .i64 (yaa i))) n2 n3 i4 i5 i6 o)))))))))))))))))))))))))))))))))))
 (e l0 l1 n2 n3 i4 i5 i6 i7 false))))
def ykl (a0:yan) (a1:yah) (a2:yac) (a3:yae) (a4:yal) (a5:yaq) (a6:yaj) (a7:yai) (a8:yak) (a:Ls→Ls→Int→Int→Int→Int→Bool→Prop):Nat→Ls→Ls→Int→Int→Int→Int→Prop
 | 0,_,_,_,_,_,_=>False
 | b+1,l0,l1,i2,i3,i4,i5 =>
 (cbr (decide (i5>i2))
 False
 (a l0 l1 i2 i3 i4 i5 false))
def ybi (a0:yan) (a1:yah) (a2:yac) (a3:yae) (a4:yal) (a5:yaq) (a6:yaj) (a7:yai) (a8:yak) (e:Ls→Ls→Ls→Nat→Nat→Int→Int→Int→Int→Bool→Prop):Nat→Ls→Ls→Ls→Nat→Nat→Int→Int→Int→Int→Prop
 | 0,_,_,_,_,_,_,_,_,_=>False
 | j+1,l0,l1,l2,n3,n4,i5,i6,i7,i8 =>
 (jn (fun (f:Bool→Prop) =>
 (cbr (decide (i8>i5))
 (asr (decide ((0:Int)≤i8))
 (asr (decide (i8<((n3:Nat):Int)))
 (asr (decide ((List.length l1)=n4))
 (asr (decide ((0+(i8.toNat))<(List.length l1)))
 (lt (List.getD l1 (0+(i8.toNat)) .nils) (fun g =>
 (asr (conf zI g)
 (lt (IntKind.i64.wrap (i8-(1:Int))) (fun c =>
 (asr (decide ((0:Int)≤c))
 (asr (decide (c<((n3:Nat):Int)))
 (asr (decide ((List.length l1)=n4))
 (asr (decide ((0+(c.toNat))<(List.length l1)))
 (lt (List.getD l1 (0+(c.toNat)) .nils) (fun h =>
 (asr (conf zI h)
 (a8 (yaa g) (yaa h) (fun k =>
 (f k)))))))))))))))))))
 (f false)))
 (fun l=>(cbr l
 (lt (IntKind.i64.wrap (i8-(1:Int))) (fun a =>
 (lt (IntKind.i64.wrap (i8-(1:Int))) (fun d =>
 (asr (decide ((0:Int)≤d))
 (asr (decide (d<((n3:Nat):Int)))
 (asr (decide ((List.length l1)=n4))
 (asr (decide ((0+(d.toNat))<(List.length l1)))
 (lt (List.getD l1 (0+(d.toNat)) .nils) (fun b =>
 (asr (conf zI b)
 (asr (decide ((0:Int)≤i8))
 (asr (decide (i8<((n3:Nat):Int)))
 (asr (decide ((List.length l1)=n4))
 (asr (decide ((0+(i8.toNat))<(List.length l1)))
 (lt (List.getD l1 (0+(i8.toNat)) .nils) (fun i =>
 (asr (conf zI i)
 (asr (decide ((0:Int)≤i8))
 (asr (decide (i8<((n3:Nat):Int)))
 (asr (decide ((List.length l1)=n4))
 (asr (decide ((0+(i8.toNat))<(List.length l1)))
 (lt (List.getD l1 (0+(i8.toNat)) .nils) (fun m =>
 (asr (conf zI m)
 (asr (decide ((0:Int)≤a))
 (asr (decide (a<((n3:Nat):Int)))
 (asr (decide ((List.length (List.set l1 (0+(i8.toNat)) (.int .i64 (yaa b))))=n4))
 (asr (decide ((0+(a.toNat))<(List.length (List.set l1 (0+(i8.toNat)) (.int .i64 (yaa b))))))
 (lt (List.getD (List.set l1 (0+(i8.toNat)) (.int .i64 (yaa b))) (0+(a.toNat)) .nils) (fun n =>
 (asr (conf zI n)
 (lt (IntKind.i64.wrap (i8-(1:Int))) (fun o =>
 (ybi a0 a1 a2 a3 a4 a5 a6 a7 a8 e j l0 (List.set (List.set l1 (0+(i8.toNat)) (.int .i64 (yaa b))) (0+(a.toNat)) (.int .i64 (yaa i))) l2 n3 n4 i5 i6 i7 o)))))))))))))))))))))))))))))))))))
 (e l0 l1 l2 n3 n4 i5 i6 i7 i8 false))))
def ybj (a0:yan) (a1:yah) (a2:yac) (a3:yae) (a4:yal) (a5:yaq) (a6:yaj) (a7:yai) (a8:yak) (e:Ls→Ls→Ls→Nat→Nat→Int→Int→Int→Int→Bool→Prop):Nat→Ls→Ls→Ls→Nat→Nat→Int→Int→Int→Int→Prop
 | 0,_,_,_,_,_,_,_,_,_=>False
 | j+1,l0,l1,l2,n3,n4,i5,i6,i7,i8 =>
 (jn (fun (f:Bool→Prop) =>
 (cbr (decide (i8>i5))
 (asr (decide ((0:Int)≤i8))
 (asr (decide (i8<((n3:Nat):Int)))
 (asr (decide ((List.length l2)=n4))
 (asr (decide ((0+(i8.toNat))<(List.length l2)))
 (lt (List.getD l2 (0+(i8.toNat)) .nils) (fun g =>
 (asr (conf zI g)
 (lt (IntKind.i64.wrap (i8-(1:Int))) (fun c =>
 (asr (decide ((0:Int)≤c))
 (asr (decide (c<((n3:Nat):Int)))
 (asr (decide ((List.length l2)=n4))
 (asr (decide ((0+(c.toNat))<(List.length l2)))
 (lt (List.getD l2 (0+(c.toNat)) .nils) (fun h =>
 (asr (conf zI h)
 (a8 (yaa g) (yaa h) (fun k =>
 (f k)))))))))))))))))))
 (f false)))
 (fun l=>(cbr l
 (lt (IntKind.i64.wrap (i8-(1:Int))) (fun a =>
 (lt (IntKind.i64.wrap (i8-(1:Int))) (fun d =>
 (asr (decide ((0:Int)≤d))
 (asr (decide (d<((n3:Nat):Int)))
 (asr (decide ((List.length l2)=n4))
 (asr (decide ((0+(d.toNat))<(List.length l2)))
 (lt (List.getD l2 (0+(d.toNat)) .nils) (fun b =>
 (asr (conf zI b)
 (asr (decide ((0:Int)≤i8))
 (asr (decide (i8<((n3:Nat):Int)))
 (asr (decide ((List.length l2)=n4))
 (asr (decide ((0+(i8.toNat))<(List.length l2)))
 (lt (List.getD l2 (0+(i8.toNat)) .nils) (fun i =>
 (asr (conf zI i)
 (asr (decide ((0:Int)≤i8))
 (asr (decide (i8<((n3:Nat):Int)))
 (asr (decide ((List.length l2)=n4))
 (asr (decide ((0+(i8.toNat))<(List.length l2)))
 (lt (List.getD l2 (0+(i8.toNat)) .nils) (fun m =>
 (asr (conf zI m)
 (asr (decide ((0:Int)≤a))
 (asr (decide (a<((n3:Nat):Int)))
 (asr (decide ((List.length (List.set l2 (0+(i8.toNat)) (.int .i64 (yaa b))))=n4))
 (asr (decide ((0+(a.toNat))<(List.length (List.set l2 (0+(i8.toNat)) (.int .i64 (yaa b))))))
 (lt (List.getD (List.set l2 (0+(i8.toNat)) (.int .i64 (yaa b))) (0+(a.toNat)) .nils) (fun n =>
 (asr (conf zI n)
 (lt (IntKind.i64.wrap (i8-(1:Int))) (fun o =>
 (ybj a0 a1 a2 a3 a4 a5 a6 a7 a8 e j l0 l1 (List.set (List.set l2 (0+(i8.toNat)) (.int .i64 (yaa b))) (0+(a.toNat)) (.int .i64 (yaa i))) n3 n4 i5 i6 i7 o)))))))))))))))))))))))))))))))))))
 (e l0 l1 l2 n3 n4 i5 i6 i7 i8 false))))
def ygz (a0:yan) (a1:yah) (a2:yac) (a3:yae) (a4:yal) (a5:yaq) (a6:yaj) (a7:yai) (a8:yak) (a:Int→Int→Int→Bool→Prop):Nat→Int→Int→Int→Prop
 | 0,_,_,_=>False
 | b+1,i0,i1,i2 =>
 (cbr (decide (i2<i1))
 (∃ c:Nat,ykg a0 a1 a2 a3 a4 a5 a6 a7 a8
 (fun d e f h i=>(lt (IntKind.i64.wrap (f+(1:Int))) (fun g =>
 (ygz a0 a1 a2 a3 a4 a5 a6 a7 a8 a b d e g))))
 c i0 i1 i2 i2)
 (a i0 i1 i2 false))
def ya7 (a0:yan) (a1:yah) (a2:yac) (a3:yae) (a4:yal) (a5:yaq) (a6:yaj) (a7:yai) (a8:yak) (b:Ls→Int→Int→Int→Bool→Prop):Nat→Ls→Int→Int→Int→Prop
 | 0,_,_,_,_=>False
 | c+1,l0,i3,i4,i5 =>
 (cbr (decide (i5<i4))
 (asr (decide ((List.length l0)=List.length l0)&&decide ((List.length l0)=List.length l0))
 (∃ d:Nat,ybh a0 a1 a2 a3 a4 a5 a6 a7 a8
 (fun a e f g i j=>(lt (IntKind.i64.wrap (g+(1:Int))) (fun h =>
 (asr (decide ((List.length a)=List.length a)&&decide ((List.length a)=List.length a))
 (ya7 a0 a1 a2 a3 a4 a5 a6 a7 a8 b c a e f h)))))
 d l0 i3 i4 i5 i5))
 (b l0 i3 i4 i5 false))
def ygA (a0:yan) (a1:yah) (a2:yac) (a3:yae) (a4:yal) (a5:yaq) (a6:yaj) (a7:yai) (a8:yak) (a:Int→Int→Int→Bool→Prop):Nat→Int→Int→Int→Prop
 | 0,_,_,_=>False
 | b+1,i0,i1,i2 =>
 (cbr (decide (i2<i1))
 (∃ c:Nat,ykj a0 a1 a2 a3 a4 a5 a6 a7 a8
 (fun d e f h i=>(lt (IntKind.i64.wrap (f+(1:Int))) (fun g =>
 (ygA a0 a1 a2 a3 a4 a5 a6 a7 a8 a b d e g))))
 c i0 i1 i2 i2)
 (a i0 i1 i2 false))
def ygB (a0:yan) (a1:yah) (a2:yac) (a3:yae) (a4:yal) (a5:yaq) (a6:yaj) (a7:yai) (a8:yak) (a:Ls→Int→Int→Int→Bool→Prop):Nat→Ls→Int→Int→Int→Prop
 | 0,_,_,_,_=>False
 | b+1,l0,i1,i2,i3 =>
 (cbr (decide (i3<i2))
 (∃ c:Nat,ykk a0 a1 a2 a3 a4 a5 a6 a7 a8
 (fun d e f g i j=>(lt (IntKind.i64.wrap (g+(1:Int))) (fun h =>
 (ygB a0 a1 a2 a3 a4 a5 a6 a7 a8 a b d e f h))))
 c l0 i1 i2 i3 i3)
 (a l0 i1 i2 i3 false))
def ygC (a0:yan) (a1:yah) (a2:yac) (a3:yae) (a4:yal) (a5:yaq) (a6:yaj) (a7:yai) (a8:yak) (a:Ls→Ls→Nat→Nat→Int→Int→Int→Bool→Prop):Nat→Ls→Ls→Nat→Nat→Int→Int→Int→Prop
 | 0,_,_,_,_,_,_,_=>False
 | b+1,l0,l1,n2,n3,i4,i5,i6 =>
 (cbr (decide (i6<i5))
 (∃ c:Nat,ygy a0 a1 a2 a3 a4 a5 a6 a7 a8
 (fun d e f g h i j l m=>(lt (IntKind.i64.wrap (j+(1:Int))) (fun k =>
 (ygC a0 a1 a2 a3 a4 a5 a6 a7 a8 a b d e f g h i k))))
 c l0 l1 n2 n3 i4 i5 i6 i6)
 (a l0 l1 n2 n3 i4 i5 i6 false))
def ygD (a0:yan) (a1:yah) (a2:yac) (a3:yae) (a4:yal) (a5:yaq) (a6:yaj) (a7:yai) (a8:yak) (a:Ls→Ls→Int→Int→Int→Bool→Prop):Nat→Ls→Ls→Int→Int→Int→Prop
 | 0,_,_,_,_,_=>False
 | b+1,l0,l1,i2,i3,i4 =>
 (cbr (decide (i4<i3))
 (∃ c:Nat,ykl a0 a1 a2 a3 a4 a5 a6 a7 a8
 (fun d e f g h j k=>(lt (IntKind.i64.wrap (h+(1:Int))) (fun i =>
 (ygD a0 a1 a2 a3 a4 a5 a6 a7 a8 a b d e f g i))))
 c l0 l1 i2 i3 i4 i4)
 (a l0 l1 i2 i3 i4 false))
def ybk (a0:yan) (a1:yah) (a2:yac) (a3:yae) (a4:yal) (a5:yaq) (a6:yaj) (a7:yai) (a8:yak) (a:Ls→Ls→Ls→Nat→Nat→Int→Int→Int→Bool→Prop):Nat→Ls→Ls→Ls→Nat→Nat→Int→Int→Int→Prop
 | 0,_,_,_,_,_,_,_,_=>False
 | b+1,l0,l1,l2,n3,n4,i5,i6,i7 =>
 (cbr (decide (i7<i6))
 (∃ c:Nat,ybi a0 a1 a2 a3 a4 a5 a6 a7 a8
 (fun d e f g h i j k m n=>(lt (IntKind.i64.wrap (k+(1:Int))) (fun l =>
 (ybk a0 a1 a2 a3 a4 a5 a6 a7 a8 a b d e f g h i j l))))
 c l0 l1 l2 n3 n4 i5 i6 i7 i7)
 (a l0 l1 l2 n3 n4 i5 i6 i7 false))
def ybl (a0:yan) (a1:yah) (a2:yac) (a3:yae) (a4:yal) (a5:yaq) (a6:yaj) (a7:yai) (a8:yak) (a:Ls→Ls→Ls→Nat→Nat→Int→Int→Int→Bool→Prop):Nat→Ls→Ls→Ls→Nat→Nat→Int→Int→Int→Prop
 | 0,_,_,_,_,_,_,_,_=>False
 | b+1,l0,l1,l2,n3,n4,i5,i6,i7 =>
 (cbr (decide (i7<i6))
 (∃ c:Nat,ybj a0 a1 a2 a3 a4 a5 a6 a7 a8
 (fun d e f g h i j k m n=>(lt (IntKind.i64.wrap (k+(1:Int))) (fun l =>
 (ybl a0 a1 a2 a3 a4 a5 a6 a7 a8 a b d e f g h i j l))))
 c l0 l1 l2 n3 n4 i5 i6 i7 i7)
 (a l0 l1 l2 n3 n4 i5 i6 i7 false))
def ygE (a0:yan) (a1:yah) (a2:yac) (a3:yae) (a4:yal) (a5:yaq) (a6:yaj) (a7:yai) (a8:yak) (a:Prop):Nat→Int→Int→Int→Bool→Bool→Prop
 | 0,_,_,_,_,_=>False
 | e+1,i0,i1,i2,b3,b4 =>
 (lt (IntKind.i64.wrap (i1-i0)) (fun b =>
 (cbr (decide (b≤(12:Int)))
 (lt (IntKind.i64.wrap (i0+(1:Int))) (fun c =>
 (∃ d:Nat,ygA a0 a1 a2 a3 a4 a5 a6 a7 a8
 (fun f g h i=>a)
 d i0 i1 c)))
 False)))
def ygF (a0:yan) (a1:yah) (a2:yac) (a3:yae) (a4:yal) (a5:yaq) (a6:yaj) (a7:yai) (a8:yak) (a:Ls→Prop):Nat→Ls→Int→Int→Int→Bool→Bool→Prop
 | 0,_,_,_,_,_,_=>False
 | f+1,l0,i1,i2,i3,b4,b5 =>
 (lt (IntKind.i64.wrap (i2-i1)) (fun b =>
 (cbr (decide (b≤(12:Int)))
 (lt (IntKind.i64.wrap (i1+(1:Int))) (fun c =>
 (∃ d:Nat,ygB a0 a1 a2 a3 a4 a5 a6 a7 a8
 (fun e g h i j=>(a e))
 d l0 i1 i2 c)))
 False)))
def ygG (a0:yan) (a1:yah) (a2:yac) (a3:yae) (a4:yal) (a5:yaq) (a6:yaj) (a7:yai) (a8:yak) (a:Ls→Ls→Prop):Nat→Ls→Ls→Nat→Nat→Int→Int→Int→Bool→Bool→Prop
 | 0,_,_,_,_,_,_,_,_,_=>False
 | g+1,l0,l1,n2,n3,i4,i5,i6,b7,b8 =>
 (lt (IntKind.i64.wrap (i5-i4)) (fun b =>
 (cbr (decide (b≤(12:Int)))
 (lt (IntKind.i64.wrap (i4+(1:Int))) (fun c =>
 (∃ d:Nat,ygC a0 a1 a2 a3 a4 a5 a6 a7 a8
 (fun e f h i j k l m=>(a e f))
 d l0 l1 n2 n3 i4 i5 c)))
 False)))
def ygH (a0:yan) (a1:yah) (a2:yac) (a3:yae) (a4:yal) (a5:yaq) (a6:yaj) (a7:yai) (a8:yak) (a:Ls→Ls→Prop):Nat→Ls→Ls→Int→Int→Int→Bool→Bool→Prop
 | 0,_,_,_,_,_,_,_=>False
 | g+1,l0,l1,i2,i3,i4,b5,b6 =>
 (lt (IntKind.i64.wrap (i3-i2)) (fun b =>
 (cbr (decide (b≤(12:Int)))
 (lt (IntKind.i64.wrap (i2+(1:Int))) (fun c =>
 (∃ d:Nat,ygD a0 a1 a2 a3 a4 a5 a6 a7 a8
 (fun e f h i j k=>(a e f))
 d l0 l1 i2 i3 c)))
 False)))
def ycn (a0:yan) (a1:yah) (a2:yac) (a3:yae) (a4:yal) (a5:yaq) (a6:yaj) (a7:yai) (a8:yak) (a:Ls→Ls→Ls→Prop):Nat→Ls→Ls→Ls→Nat→Nat→Int→Int→Int→Bool→Bool→Prop
 | 0,_,_,_,_,_,_,_,_,_,_=>False
 | h+1,l0,l1,l2,n3,n4,i5,i6,i7,b8,b9 =>
 (lt (IntKind.i64.wrap (i6-i5)) (fun b =>
 (cbr (decide (b≤(12:Int)))
 (lt (IntKind.i64.wrap (i5+(1:Int))) (fun c =>
 (∃ d:Nat,ybk a0 a1 a2 a3 a4 a5 a6 a7 a8
 (fun e f g i j k l m n=>(a e f g))
 d l0 l1 l2 n3 n4 i5 i6 c)))
 False)))
def yco (a0:yan) (a1:yah) (a2:yac) (a3:yae) (a4:yal) (a5:yaq) (a6:yaj) (a7:yai) (a8:yak) (a:Ls→Ls→Ls→Prop):Nat→Ls→Ls→Ls→Nat→Nat→Int→Int→Int→Bool→Bool→Prop
 | 0,_,_,_,_,_,_,_,_,_,_=>False
 | h+1,l0,l1,l2,n3,n4,i5,i6,i7,b8,b9 =>
 (lt (IntKind.i64.wrap (i6-i5)) (fun b =>
 (cbr (decide (b≤(12:Int)))
 (lt (IntKind.i64.wrap (i5+(1:Int))) (fun c =>
 (∃ d:Nat,ybl a0 a1 a2 a3 a4 a5 a6 a7 a8
 (fun e f g i j k l m n=>(a e f g))
 d l0 l1 l2 n3 n4 i5 i6 c)))
 False)))
def yjw (a0:yan) (a1:yah) (a2:yac) (a3:yae) (a4:yal) (a5:yaq) (a6:yaj) (a7:yai) (a8:yak) (p0 p1 p2:Ls) (p3 p4 p5 p6:Int) (K:Ls→Ls→Int→Int→Ls→Ls→Int→Prop):Prop :=
 (a0 p0 p1 (fun M =>
 (cbr (M !=(0:Int))
 (K ([]:Ls) ([]:Ls) (0:Int) (0:Int) ([]:Ls) ([]:Ls) M)
 (jn (fun (r:Bool→Prop) =>
 (cbr (decide ((((List.length p2):Nat):Int)>(1:Int)))
 (asr (decide ((0:Int)<(((List.length p2):Nat):Int)))
 (lt (List.getD p2 0 .nils) (fun N =>
 (asr (conf zI N)
 (cbr (decide ((yaa N)≥(0:Int)))
 (lt (IntKind.i64.wrap ((((List.length p2):Nat):Int)-(1:Int))) (fun s =>
 (asr (decide ((0:Int)≤s))
 (asr (decide (s<(((List.length p2):Nat):Int)))
 (lt (List.getD p2 (s.toNat) .nils) (fun O =>
 (asr (conf zI O)
 (r (decide ((yaa O)<(((List.length p0):Nat):Int)))))))))))
 (r false))))))
 (r false)))
 (fun vd=>(∃ ve:Nat,ybr a0 a1 a2 a3 a4 a5 a6 a7 a8
 (fun l t vf u Q v w vg vh vi wG wH=>(a1 u Q v w (fun vj vk =>
 (jn (fun (k:Bool→Prop) =>
 (cbr (!vi)
 (k true)
 (cbr (vk !=(0:Int))
 (k true)
 (cbr (decide (vj≥(0:Int)))
 (k true)
 (cbr (decide (u<(0:Int)))
 (k true)
 (asr (decide ((0:Int)<(((List.length t):Nat):Int)))
 (lt (List.getD t 0 .nils) (fun R =>
 (asr (conf zK R)
 (a2 (yaa (yab R 0)) (fun vl vm =>
 (a3 v w vl vm (fun vn =>
 (k (decide (vn>(0:Int)))))))))))))))))
 (fun vo=>(cbr vo
 (K ([]:Ls) ([]:Ls) (0:Int) (0:Int) ([]:Ls) ([]:Ls) (2:Int))
 (lt (IntKind.i64.wrap (Int.tdiv (((List.length l):Nat):Int) (2:Int))) (fun S =>
 (a4 S (((List.length l):Nat):Int) (fun vp vq wI =>
 (∃ vr:Nat,ydy a0 a1 a2 a3 a4 a5 a6 a7 a8
 (fun vs vt wJ wK wL wM vu vv vw wN wO wP wQ wR wS=>(∃ x:Nat,ykf a0 a1 a2 a3 a4 a5 a6 a7 a8
 (fun T vx U wT wU=>(lt (IntKind.i64.wrap (U+(1:Int))) (fun vy =>
 (∃ y:Nat,ygz a0 a1 a2 a3 a4 a5 a6 a7 a8
 (fun wV wW wX wY=>(∃ z:Nat,ykh a0 a1 a2 a3 a4 a5 a6 a7 a8
 (fun wZ w0 w1=>(∃ A:Nat,yki a0 a1 a2 a3 a4 a5 a6 a7 a8
 (fun w2 w3 w4 w5 vz w6 w7 w8=>(a6 (0:Int) (fun vA =>
 (∃ a:Nat,ygE a0 a1 a2 a3 a4 a5 a6 a7 a8
 (a6 (0:Int) (fun vB =>
 (∃ a:Nat,ygE a0 a1 a2 a3 a4 a5 a6 a7 a8
 (lt (IntKind.i64.wrap (vz-(1:Int))) (fun w9 =>
 False))
 a (0:Int) (0:Int) vB true true)))
 a (0:Int) (0:Int) vA true true))))
 A vs vt vu vv vw (0:Int) (0:Int)))
 z T vx))
 y U T vy))))
 x (0:Int) (20:Int) (0:Int) (20:Int)))
 (fun vC vD vE=>(K ([]:Ls) ([]:Ls) vC vD ([]:Ls) ([]:Ls) vE))
 (fun b vF vG vaa vab vac vad vH vI vJ vae vaf vag vah vai vaj=>(asr (decide ((List.length b)=List.length b)&&decide ((List.length b)=List.length b))
 (∃ x:Nat,yex a0 a1 a2 a3 a4 a5 a6 a7 a8
 (fun j V vK W vak val=>(lt (IntKind.i64.wrap (W+(1:Int))) (fun vL =>
 (asr (decide ((List.length j)=List.length j)&&decide ((List.length j)=List.length j))
 (∃ y:Nat,ya7 a0 a1 a2 a3 a4 a5 a6 a7 a8
 (fun vM vam van vao vap=>(∃ z:Nat,yey a0 a1 a2 a3 a4 a5 a6 a7 a8
 (fun vN vaq var vas vat vau=>(∃ A:Nat,ydz a0 a1 a2 a3 a4 a5 a6 a7 a8
 (fun vO vP vQ vav vaw vR vS vT vax vay vaz vaA vaB=>(a6 (0:Int) (fun vU =>
 (∃ a:Nat,ygF a0 a1 a2 a3 a4 a5 a6 a7 a8
 (fun vV=>(a6 (0:Int) (fun vW =>
 (∃ a:Nat,ygF a0 a1 a2 a3 a4 a5 a6 a7 a8
 (fun B=>(lt (IntKind.i64.wrap (vR-(1:Int))) (fun m =>
 (asr (decide ((0:Int)≤m))
 (asr (decide (m<((vS:Nat):Int)))
 (asr (decide ((List.length B)=vT))
 (asr (decide ((0+(m.toNat))<(List.length B)))
 (lt (List.getD B (0+(m.toNat)) .nils) (fun C =>
 (asr (conf (.agg [.i .i64,.i .i64,.i .i64]) C)
 (K vP vQ (yaa (yab C 1)) (yaa (yab C 2)) ([]:Ls) ([]:Ls) (0:Int))))))))))))
 a vV (0:Int) (0:Int) vW true true))))
 a vO (0:Int) (0:Int) vU true true))))
 (fun vX c vY vZ vaC vaD v0 v1 v2 vaE vaF vaG vaH vaI=>(a6 (IntKind.u64.wrap (((List.length c):Nat):Int)) (fun v3 =>
 (∃ a:Nat,ygG a0 a1 a2 a3 a4 a5 a6 a7 a8
 (fun v4 v5=>(a6 (0:Int) (fun v6 =>
 (∃ a:Nat,ygH a0 a1 a2 a3 a4 a5 a6 a7 a8
 (fun D X=>(lt (IntKind.i64.wrap (v0-(1:Int))) (fun n =>
 (asr (decide ((0:Int)≤n))
 (asr (decide (n<((v1:Nat):Int)))
 (asr (decide ((List.length D)=v2))
 (asr (decide ((0+(n.toNat))<(List.length D)))
 (lt (List.getD D (0+(n.toNat)) .nils) (fun E =>
 (asr (conf (.agg [.i .i64,.i .i64,.i .i64]) E)
 (asr (decide ((List.length X)=(List.length c)))
 (asr (decide ((0+(List.length c))≤(List.length c)))
 (K vY vZ (yaa (yab E 1)) (yaa (yab E 2)) (List.take (List.length c) X) ([]:Ls) (0:Int))))))))))))))
 a v4 v5 (0:Int) (0:Int) v6 true true))))
 a vX c (List.length c) (List.length c) (0:Int) (((List.length c):Nat):Int) v3 true true))))
 (fun v7 d e v8 v9 vaJ vaK wa wb wc vaL vaM vaN vaO vaP=>(a6 (IntKind.u64.wrap (((List.length d):Nat):Int)) (fun wd =>
 (∃ a:Nat,ycn a0 a1 a2 a3 a4 a5 a6 a7 a8
 (fun we wf wg=>(a6 (IntKind.u64.wrap (((List.length e):Nat):Int)) (fun wh =>
 (∃ a:Nat,yco a0 a1 a2 a3 a4 a5 a6 a7 a8
 (fun F Y Z=>(lt (IntKind.i64.wrap (wa-(1:Int))) (fun o =>
 (asr (decide ((0:Int)≤o))
 (asr (decide (o<((wb:Nat):Int)))
 (asr (decide ((List.length F)=wc))
 (asr (decide ((0+(o.toNat))<(List.length F)))
 (lt (List.getD F (0+(o.toNat)) .nils) (fun G =>
 (asr (conf (.agg [.i .i64,.i .i64,.i .i64]) G)
 (asr (decide ((List.length Y)=(List.length d)))
 (asr (decide ((0+(List.length d))≤(List.length d)))
 (asr (decide ((List.length Z)=(List.length e)))
 (asr (decide ((0+(List.length e))≤(List.length e)))
 (K v8 v9 (yaa (yab G 1)) (yaa (yab G 2)) (List.take (List.length d) Y) (List.take (List.length e) Z) (0:Int))))))))))))))))
 a we wf wg (List.length e) (List.length e) (0:Int) (((List.length e):Nat):Int) wh true true))))
 a v7 d e (List.length d) (List.length d) (0:Int) (((List.length d):Nat):Int) wd true true))))
 (fun wi f wj wk vaQ vaR wl wm wn vaS vaT vaU vaV vaW=>(a6 (0:Int) (fun wo =>
 (∃ a:Nat,ygH a0 a1 a2 a3 a4 a5 a6 a7 a8
 (fun wp wq=>(a6 (IntKind.u64.wrap (((List.length f):Nat):Int)) (fun wr =>
 (∃ a:Nat,ygG a0 a1 a2 a3 a4 a5 a6 a7 a8
 (fun H va=>(lt (IntKind.i64.wrap (wl-(1:Int))) (fun p =>
 (asr (decide ((0:Int)≤p))
 (asr (decide (p<((wm:Nat):Int)))
 (asr (decide ((List.length H)=wn))
 (asr (decide ((0+(p.toNat))<(List.length H)))
 (lt (List.getD H (0+(p.toNat)) .nils) (fun I =>
 (asr (conf (.agg [.i .i64,.i .i64,.i .i64]) I)
 (asr (decide ((List.length va)=(List.length f)))
 (asr (decide ((0+(List.length f))≤(List.length f)))
 (K wj wk (yaa (yab I 1)) (yaa (yab I 2)) ([]:Ls) (List.take (List.length f) va) (0:Int))))))))))))))
 a wp wq (List.length f) (List.length f) (0:Int) (((List.length f):Nat):Int) wr true true))))
 a wi f (0:Int) (0:Int) wo true true))))
 (fun ws g h wt wu vaX vaY wv ww wx vaZ va0 va1 va2 va3=>(a6 (IntKind.u64.wrap (((List.length h):Nat):Int)) (fun wy =>
 (∃ a:Nat,yco a0 a1 a2 a3 a4 a5 a6 a7 a8
 (fun wz wA wB=>(a6 (IntKind.u64.wrap (((List.length g):Nat):Int)) (fun wC =>
 (∃ a:Nat,ycn a0 a1 a2 a3 a4 a5 a6 a7 a8
 (fun J vb vc=>(lt (IntKind.i64.wrap (wv-(1:Int))) (fun q =>
 (asr (decide ((0:Int)≤q))
 (asr (decide (q<((ww:Nat):Int)))
 (asr (decide ((List.length J)=wx))
 (asr (decide ((0+(q.toNat))<(List.length J)))
 (lt (List.getD J (0+(q.toNat)) .nils) (fun L =>
 (asr (conf (.agg [.i .i64,.i .i64,.i .i64]) L)
 (asr (decide ((List.length vc)=(List.length h)))
 (asr (decide ((0+(List.length h))≤(List.length h)))
 (asr (decide ((List.length vb)=(List.length g)))
 (asr (decide ((0+(List.length g))≤(List.length g)))
 (K wt wu (yaa (yab L 1)) (yaa (yab L 2)) (List.take (List.length h) vc) (List.take (List.length g) vb) (0:Int))))))))))))))))
 a wz wA wB (List.length g) (List.length g) (0:Int) (((List.length g):Nat):Int) wC true true))))
 a ws g h (List.length h) (List.length h) (0:Int) (((List.length h):Nat):Int) wy true true))))
 A vN vF vG vH vI vJ (List.length b) (List.length b) (List.length b) (List.length b) (((List.length b):Nat):Int) (0:Int)))
 z vM (List.length j) (List.length j) V vK))
 y j W V vL)))))
 x b (((List.length b):Nat):Int) (20:Int) (0:Int) (20:Int))))
 (fun va4 wD wE wF=>(K ([]:Ls) ([]:Ls) wD wE ([]:Ls) ([]:Ls) wF))
 vr t vf u Q v w vg vh S vp vq l (((List.length l):Nat):Int) (0:Int))))))))))))
 ve p2 p0 p1 p3 p4 p5 p6 (0:Int) (0:Int) vd (1:Int)))))))
def yaz:ybI:=yjw yaU ya0 yaL yaS yaR yay ydp yaw yao
def ytA (Q:Qx):Ls→Ls→Ls→Int→Int→Int→Int→Int→Int→Bool→Int→Bool→Prop:=(fun l0 l1 l2 i3 i4 i5 i6 i7 i8 b9 i10 b11=>Q (.exit 0) [(1,.v (.data l0)),(4,.box (.agg [(.data l1),(.data l2)])),(6,.box (.agg [(.int .i64 i3),(.int .i64 i4)])),(7,.box (.agg [(.int .i64 i5),(.int .i64 i6)])),(8,.box (.agg [.nils,.nils])),(9,.box (.agg [(.int .i64 i7),(.int .i64 i8)])),(10,.v .nils),(11,.v .nils),(14,.v (.bool b9)),(15,.v (.int .i64 i10)),(58,.v (.bool b11))] [])
def ytB (Q:Qx):Ls→Ls→Int→Int→Int→Int→Int→Int→Int→Int→Int→Ls→Int→Int→Bool→Prop:=(fun l0 l1 i2 i3 i4 i5 i6 i7 i8 i9 i10 l11 i12 i13 b14=>Q (.exit 2) [(4,.box (.agg [(.data l0),(.data l1)])),(6,.box (.agg [(.int .i64 i2),(.int .i64 i3)])),(7,.box (.agg [(.int .i64 i4),(.int .i64 i5)])),(8,.box (.agg [.nils,.nils])),(9,.box (.agg [(.int .i64 i6),(.int .i64 i7)])),(10,.v .nils),(11,.v .nils),(18,.v (.int .i64 i8)),(19,.box (.agg [(.int .i64 i9),(.int .i64 i10)])),(21,.v .nils),(118,.v (.data l11)),(119,.v (.int .i64 i12)),(120,.v (.int .i64 i13)),(121,.v (.bool b14))] [])
def ytC (Q:Qx):Int→Int→Int→Prop:=(fun i0 i1 i2=>Q .ret [(8,.box (.agg [.nils,.nils])),(9,.box (.agg [(.int .i64 i0),(.int .i64 i1)])),(10,.v .nils),(11,.v .nils),(12,.v (.int .i64 i2))] [])
def ykm (Q:Qx):Ls→Ls→Ls→Int→Int→Int→Int→Int→Int→Int→Int→Int→Ls→Int→Int→Bool→Prop:=(fun l0 l1 l2 i3 i4 i5 i6 i7 i8 i9 i10 i11 l14 i15 i16 b17=>Q (.exit 2) [(4,.box (.agg [(.data l1),(.data l2)])),(6,.box (.agg [(.int .i64 i3),(.int .i64 i4)])),(7,.box (.agg [(.int .i64 i5),(.int .i64 i6)])),(8,.box (.agg [.nils,.nils])),(9,.box (.agg [(.int .i64 i7),(.int .i64 i8)])),(10,.v .nils),(11,.v .nils),(18,.v (.int .i64 i9)),(19,.box (.agg [(.int .i64 i10),(.int .i64 i11)])),(21,.v (.own 0 0 (List.length l0) (List.length l0) none)),(118,.v (.data l14)),(119,.v (.int .i64 i15)),(120,.v (.int .i64 i16)),(121,.v (.bool b17))] [⟨false,true,3,l0⟩])
def ykn (Q:Qx):Ls→Int→Int→Int→Prop:=(fun l0 i1 i2 i3=>Q .ret [(8,.box (.agg [.nils,.nils])),(9,.box (.agg [(.int .i64 i1),(.int .i64 i2)])),(10,.v .nils),(11,.v .nils),(12,.v (.int .i64 i3))] [⟨false,true,3,l0⟩])
def ytD (Q:Qx):Int→Int→Int→Int→Bool→Prop:=(fun i0 i1 i2 i3 b4=>Q (.exit 0) [(0,.v .nils),(1,.v (.int .i64 i0)),(2,.v (.fn (.func yaY) [] [])),(6,.v (.int .i64 i1)),(7,.v (.int .i64 i2)),(8,.v (.int .i64 i3)),(13,.v (.bool b4))] [])
def ytE (Q:Qx):Ls→Int→Int→Int→Int→Bool→Prop:=(fun l0 i3 i4 i5 i6 b7=>Q (.exit 0) [(0,.v (.own 0 0 (List.length l0) (List.length l0) none)),(1,.v (.int .i64 i3)),(2,.v (.fn (.func yaY) [] [])),(6,.v (.int .i64 i4)),(7,.v (.int .i64 i5)),(8,.v (.int .i64 i6)),(13,.v (.bool b7))] [⟨false,true,3,l0⟩])
def ytF (Q:Qx):Int→Int→Int→Int→Bool→Prop:=(fun i0 i1 i2 i3 b4=>Q (.exit 2) [(0,.v .nils),(1,.v (.int .i64 i0)),(2,.v (.int .i64 i1)),(3,.v (.fn (.func yaY) [] [])),(8,.v (.int .i64 i2)),(9,.v (.int .i64 i3)),(34,.v (.bool b4))] [])
def ytG (Q:Qx):Ls→Int→Int→Int→Int→Bool→Prop:=(fun l0 i3 i4 i5 i6 b7=>Q (.exit 2) [(0,.v (.own 0 0 (List.length l0) (List.length l0) none)),(1,.v (.int .i64 i3)),(2,.v (.int .i64 i4)),(3,.v (.fn (.func yaY) [] [])),(8,.v (.int .i64 i5)),(9,.v (.int .i64 i6)),(34,.v (.bool b7))] [⟨false,true,3,l0⟩])
def ytH (Q:Qx):Int→Int→Bool→Prop:=(fun i0 i1 b2=>Q (.exit 2) [(0,.v .nils),(1,.v (.int .i64 i0)),(2,.v (.fn (.func yaY) [] [])),(6,.v (.int .i64 i1)),(30,.v (.bool b2))] [])
def ytI (Q:Qx):Ls→Nat→Nat→Int→Int→Bool→Prop:=(fun l0 n1 n2 i3 i4 b5=>Q (.exit 2) [(0,.v (.own 0 0 n1 n2 none)),(1,.v (.int .i64 i3)),(2,.v (.fn (.func yaY) [] [])),(6,.v (.int .i64 i4)),(30,.v (.bool b5))] [⟨false,true,3,l0⟩])
def ytJ (Q:Qx):Ls→Ls→Int→Int→Int→Int→Int→Bool→Prop:=(fun l0 l1 i2 i3 i4 i5 i6 b7=>Q (.exit 4) [(4,.box (.agg [(.data l0),(.data l1)])),(8,.box (.agg [.nils,.nils])),(9,.box (.agg [(.int .i64 i2),(.int .i64 i3)])),(10,.v .nils),(11,.v .nils),(18,.v (.int .i64 i4)),(21,.v .nils),(148,.v .nils),(149,.v (.int .i64 i5)),(150,.v (.int .i64 i6)),(151,.v (.bool b7))] [])
def ytK (Q:Qx):Ls→Ls→Ls→Int→Int→Int→Nat→Nat→Nat→Nat→Int→Int→Bool→Prop:=(fun l0 l1 l2 i3 i4 i5 n6 n7 n8 n9 i10 i11 b12=>Q (.exit 4) [(4,.box (.agg [(.data l1),(.data l2)])),(8,.box (.agg [.nils,.nils])),(9,.box (.agg [(.int .i64 i3),(.int .i64 i4)])),(10,.v .nils),(11,.v .nils),(18,.v (.int .i64 i5)),(21,.v (.own 0 0 n6 n7 none)),(148,.v (.own 0 0 n8 n9 none)),(149,.v (.int .i64 i10)),(150,.v (.int .i64 i11)),(151,.v (.bool b12))] [⟨false,true,3,l0⟩])
def yko (Q:Qx):Ls→Ls→Ls→Ls→Int→Int→Int→Nat→Nat→Nat→Nat→Int→Int→Bool→Prop:=(fun l0 l1 l2 l3 i4 i5 i8 n9 n10 n11 n12 i13 i14 b15=>Q (.exit 4) [(4,.box (.agg [(.data l2),(.data l3)])),(8,.box (.agg [.nils,.nils])),(9,.box (.agg [(.int .i64 i4),(.int .i64 i5)])),(10,.v (.own 1 0 (List.length l1) (List.length l1) none)),(11,.v .nils),(18,.v (.int .i64 i8)),(21,.v (.own 0 0 n9 n10 none)),(148,.v (.own 0 0 n11 n12 none)),(149,.v (.int .i64 i13)),(150,.v (.int .i64 i14)),(151,.v (.bool b15))] [⟨false,true,3,l0⟩,⟨false,true,1,l1⟩])
def ygI (Q:Qx):Ls→Ls→Ls→Ls→Ls→Int→Int→Int→Nat→Nat→Nat→Nat→Int→Int→Bool→Prop:=(fun l0 l1 l2 l3 l4 i5 i6 i11 n12 n13 n14 n15 i16 i17 b18=>Q (.exit 4) [(4,.box (.agg [(.data l3),(.data l4)])),(8,.box (.agg [.nils,.nils])),(9,.box (.agg [(.int .i64 i5),(.int .i64 i6)])),(10,.v (.own 1 0 (List.length l1) (List.length l1) none)),(11,.v (.own 2 0 (List.length l2) (List.length l2) none)),(18,.v (.int .i64 i11)),(21,.v (.own 0 0 n12 n13 none)),(148,.v (.own 0 0 n14 n15 none)),(149,.v (.int .i64 i16)),(150,.v (.int .i64 i17)),(151,.v (.bool b18))] [⟨false,true,3,l0⟩,⟨false,true,1,l1⟩,⟨false,true,1,l2⟩])
def ykp (Q:Qx):Ls→Ls→Ls→Ls→Int→Int→Int→Nat→Nat→Nat→Nat→Int→Int→Bool→Prop:=(fun l0 l1 l2 l3 i4 i5 i8 n9 n10 n11 n12 i13 i14 b15=>Q (.exit 4) [(4,.box (.agg [(.data l2),(.data l3)])),(8,.box (.agg [.nils,.nils])),(9,.box (.agg [(.int .i64 i4),(.int .i64 i5)])),(10,.v .nils),(11,.v (.own 1 0 (List.length l1) (List.length l1) none)),(18,.v (.int .i64 i8)),(21,.v (.own 0 0 n9 n10 none)),(148,.v (.own 0 0 n11 n12 none)),(149,.v (.int .i64 i13)),(150,.v (.int .i64 i14)),(151,.v (.bool b15))] [⟨false,true,3,l0⟩,⟨false,true,1,l1⟩])
def ygJ (Q:Qx):Ls→Ls→Ls→Ls→Ls→Int→Int→Int→Nat→Nat→Nat→Nat→Int→Int→Bool→Prop:=(fun l0 l1 l2 l3 l4 i5 i6 i11 n12 n13 n14 n15 i16 i17 b18=>Q (.exit 4) [(4,.box (.agg [(.data l3),(.data l4)])),(8,.box (.agg [.nils,.nils])),(9,.box (.agg [(.int .i64 i5),(.int .i64 i6)])),(10,.v (.own 2 0 (List.length l2) (List.length l2) none)),(11,.v (.own 1 0 (List.length l1) (List.length l1) none)),(18,.v (.int .i64 i11)),(21,.v (.own 0 0 n12 n13 none)),(148,.v (.own 0 0 n14 n15 none)),(149,.v (.int .i64 i16)),(150,.v (.int .i64 i17)),(151,.v (.bool b18))] [⟨false,true,3,l0⟩,⟨false,true,1,l1⟩,⟨false,true,1,l2⟩])
def ytL (Q:Qx):Int→Int→Int→Int→Bool→Prop:=(fun i0 i1 i2 i3 b4=>Q (.exit 2) [(0,.v .nils),(1,.v (.int .i64 i0)),(2,.v (.int .i64 i1)),(6,.v (.int .i64 i2)),(7,.v (.int .i64 i3)),(30,.v (.bool b4))] [])
def ytM (Q:Qx):Ls→Int→Int→Int→Int→Bool→Prop:=(fun l0 i1 i2 i3 i4 b5=>Q (.exit 2) [(0,.v .nils),(1,.v (.int .i64 i1)),(2,.v (.int .i64 i2)),(6,.v (.int .i64 i3)),(7,.v (.int .i64 i4)),(30,.v (.bool b5))] [⟨false,true,3,l0⟩])
def ytN (Q:Qx):Ls→Ls→Nat→Nat→Int→Int→Int→Int→Bool→Prop:=(fun l0 l1 n2 n3 i4 i5 i6 i7 b8=>Q (.exit 2) [(0,.v (.own 1 0 n2 n3 none)),(1,.v (.int .i64 i4)),(2,.v (.int .i64 i5)),(6,.v (.int .i64 i6)),(7,.v (.int .i64 i7)),(30,.v (.bool b8))] [⟨false,true,3,l0⟩,⟨false,true,1,l1⟩])
def ytO (Q:Qx):Ls→Ls→Int→Int→Int→Int→Bool→Prop:=(fun l0 l1 i2 i3 i4 i5 b6=>Q (.exit 2) [(0,.v .nils),(1,.v (.int .i64 i2)),(2,.v (.int .i64 i3)),(6,.v (.int .i64 i4)),(7,.v (.int .i64 i5)),(30,.v (.bool b6))] [⟨false,true,3,l0⟩,⟨false,true,1,l1⟩])
def ytP (Q:Qx):Ls→Ls→Ls→Nat→Nat→Int→Int→Int→Int→Bool→Prop:=(fun l0 l1 l2 n3 n4 i5 i6 i7 i8 b9=>Q (.exit 2) [(0,.v (.own 1 0 n3 n4 none)),(1,.v (.int .i64 i5)),(2,.v (.int .i64 i6)),(6,.v (.int .i64 i7)),(7,.v (.int .i64 i8)),(30,.v (.bool b9))] [⟨false,true,3,l0⟩,⟨false,true,1,l1⟩,⟨false,true,1,l2⟩])
def ytQ (Q:Qx):Ls→Ls→Ls→Nat→Nat→Int→Int→Int→Int→Bool→Prop:=(fun l0 l1 l2 n3 n4 i5 i6 i7 i8 b9=>Q (.exit 2) [(0,.v (.own 2 0 n3 n4 none)),(1,.v (.int .i64 i5)),(2,.v (.int .i64 i6)),(6,.v (.int .i64 i7)),(7,.v (.int .i64 i8)),(30,.v (.bool b9))] [⟨false,true,3,l0⟩,⟨false,true,1,l1⟩,⟨false,true,1,l2⟩])
def ytR (Q:Qx):Int→Int→Int→Bool→Prop:=(fun i0 i1 i2 b3=>Q (.exit 0) [(0,.v .nils),(1,.v (.int .i64 i0)),(2,.v (.int .i64 i1)),(3,.v (.fn (.func yaY) [] [])),(8,.v (.int .i64 i2)),(14,.v (.bool b3))] [])
def ytS (Q:Qx):Ls→Int→Int→Int→Bool→Prop:=(fun l0 i3 i4 i5 b6=>Q (.exit 0) [(0,.v (.own 0 0 (List.length l0) (List.length l0) none)),(1,.v (.int .i64 i3)),(2,.v (.int .i64 i4)),(3,.v (.fn (.func yaY) [] [])),(8,.v (.int .i64 i5)),(14,.v (.bool b6))] [⟨false,true,3,l0⟩])
def ytT (Q:Qx):Int→Int→Int→Bool→Prop:=(fun i0 i1 i2 b3=>Q (.exit 0) [(0,.v .nils),(1,.v (.int .i64 i0)),(2,.v (.int .i64 i1)),(6,.v (.int .i64 i2)),(12,.v (.bool b3))] [])
def ytU (Q:Qx):Ls→Int→Int→Int→Bool→Prop:=(fun l0 i1 i2 i3 b4=>Q (.exit 0) [(0,.v .nils),(1,.v (.int .i64 i1)),(2,.v (.int .i64 i2)),(6,.v (.int .i64 i3)),(12,.v (.bool b4))] [⟨false,true,3,l0⟩])
def ytV (Q:Qx):Ls→Ls→Nat→Nat→Int→Int→Int→Bool→Prop:=(fun l0 l1 n2 n3 i4 i5 i6 b7=>Q (.exit 0) [(0,.v (.own 1 0 n2 n3 none)),(1,.v (.int .i64 i4)),(2,.v (.int .i64 i5)),(6,.v (.int .i64 i6)),(12,.v (.bool b7))] [⟨false,true,3,l0⟩,⟨false,true,1,l1⟩])
def ytW (Q:Qx):Ls→Ls→Int→Int→Int→Bool→Prop:=(fun l0 l1 i2 i3 i4 b5=>Q (.exit 0) [(0,.v .nils),(1,.v (.int .i64 i2)),(2,.v (.int .i64 i3)),(6,.v (.int .i64 i4)),(12,.v (.bool b5))] [⟨false,true,3,l0⟩,⟨false,true,1,l1⟩])
def ytX (Q:Qx):Ls→Ls→Ls→Nat→Nat→Int→Int→Int→Bool→Prop:=(fun l0 l1 l2 n3 n4 i5 i6 i7 b8=>Q (.exit 0) [(0,.v (.own 1 0 n3 n4 none)),(1,.v (.int .i64 i5)),(2,.v (.int .i64 i6)),(6,.v (.int .i64 i7)),(12,.v (.bool b8))] [⟨false,true,3,l0⟩,⟨false,true,1,l1⟩,⟨false,true,1,l2⟩])
def ytY (Q:Qx):Ls→Ls→Ls→Nat→Nat→Int→Int→Int→Bool→Prop:=(fun l0 l1 l2 n3 n4 i5 i6 i7 b8=>Q (.exit 0) [(0,.v (.own 2 0 n3 n4 none)),(1,.v (.int .i64 i5)),(2,.v (.int .i64 i6)),(6,.v (.int .i64 i7)),(12,.v (.bool b8))] [⟨false,true,3,l0⟩,⟨false,true,1,l1⟩,⟨false,true,1,l2⟩])
def ytZ (Q:Qx):Prop:=Q .ret [] []
def yt0 (Q:Qx):Ls→Prop:=(fun l0=>Q .ret [] [⟨false,true,3,l0⟩])
def ykq (Q:Qx):Ls→Ls→Prop:=(fun l0 l1=>Q .ret [] [⟨false,true,3,l0⟩,⟨false,true,1,l1⟩])
def ykr (Q:Qx):Ls→Ls→Ls→Prop:=(fun l0 l1 l2=>Q .ret [] [⟨false,true,3,l0⟩,⟨false,true,1,l1⟩,⟨false,true,1,l2⟩])
def ylu (a0:yan) (a1:yah) (a2:yac) (a3:yae) (a4:yal) (a5:yaq) (a6:yaj) (a7:yai) (a8:yak) (Q:Qx):List St:=[⟨(pS hN (fV 1 vD (fX 4 pt19 (fX 6 pt7 (fX 7 pt7 (fX 8 pt30 (fX 9 pt7 (fV 10 vNs (fV 11 vNs (fV 14 vB (fV 15 pt2 fN)))))))))) fN),ybr a0 a1 a2 a3 a4 a5 a6 a7 a8 (ytA Q)⟩]
def pt33:Pat Frm:=fV 118 vD (fV 119 pt2 (fV 120 pt2 fN))
def ylv (a0:yan) (a1:yah) (a2:yac) (a3:yae) (a4:yal) (a5:yaq) (a6:yaj) (a7:yai) (a8:yak) (Q:Qx):List St:=[⟨(pS hN (fX 4 pt19 (fX 6 pt7 (fX 7 pt7 (fX 8 pt30 (fX 9 pt7 (fV 10 vNs (fV 11 vNs (fV 18 pt2 (fX 19 pt7 (fV 21 vNs pt33)))))))))) fN),ydy a0 a1 a2 a3 a4 a5 a6 a7 a8 (ytB Q) (ytC Q) (ykm Q) (ykn Q)⟩,⟨(pS pt20 (fX 4 pt19 (fX 6 pt7 (fX 7 pt7 (fX 8 pt30 (fX 9 pt7 (fV 10 vNs (fV 11 vNs (fV 18 pt2 (fX 19 pt7 (fV 21 pt21 pt33)))))))))) fN),ya4 a0 a1 a2 a3 a4 a5 a6 a7 a8 (ykm Q) (ykn Q)⟩]
def pt34:VPt:=vF yaY lN lN
def pt35:Pat Frm:=fV 1 pt2 (fV 2 pt34 (fV 6 pt2 (fV 7 pt2 pt10)))
def ylw (a0:yan) (a1:yah) (a2:yac) (a3:yae) (a4:yal) (a5:yaq) (a6:yaj) (a7:yai) (a8:yak) (Q:Qx):List St:=[⟨(pS hN (fV 0 vNs pt35) fN),ykf a0 a1 a2 a3 a4 a5 a6 a7 a8 (ytD Q)⟩,⟨(pS pt20 (fV 0 pt21 pt35) fN),yex a0 a1 a2 a3 a4 a5 a6 a7 a8 (ytE Q)⟩]
def pt36:Pat Frm:=fV 1 pt2 (fV 2 pt2 (fV 3 pt34 (fV 8 pt2 (fV 9 pt2 fN))))
def ylx (a0:yan) (a1:yah) (a2:yac) (a3:yae) (a4:yal) (a5:yaq) (a6:yaj) (a7:yai) (a8:yak) (Q:Qx):List St:=[⟨(pS hN (fV 0 vNs pt36) fN),ykg a0 a1 a2 a3 a4 a5 a6 a7 a8 (ytF Q)⟩,⟨(pS pt20 (fV 0 pt21 pt36) fN),ybh a0 a1 a2 a3 a4 a5 a6 a7 a8 (ytG Q)⟩]
def pt37:Pat Frm:=fV 1 pt2 (fV 2 pt34 (fV 6 pt2 fN))
def pt38:VPt:=vW 0 (nK 0) nV nV
def yly (a0:yan) (a1:yah) (a2:yac) (a3:yae) (a4:yal) (a5:yaq) (a6:yaj) (a7:yai) (a8:yak) (Q:Qx):List St:=[⟨(pS hN (fV 0 vNs pt37) fN),ykh a0 a1 a2 a3 a4 a5 a6 a7 a8 (ytH Q)⟩,⟨(pS pt20 (fV 0 pt38 pt37) fN),yey a0 a1 a2 a3 a4 a5 a6 a7 a8 (ytI Q)⟩]
def pt39:Pat Frm:=fV 149 pt2 (fV 150 pt2 fN)
def pt40:Pat Frm:=fV 18 pt2 (fV 21 pt38 (fV 148 pt38 pt39))
def pt41:HPt:=hB false true 3 rA pt31
def pt42:VPt:=vW 1 (nK 0) (nT 1) (nT 1)
def pt43:HPt:=hB false true 3 rA (hB false true 1 rA pt31)
def pt44:VPt:=vW 2 (nK 0) (nT 2) (nT 2)
end Go.Pf.Vc
