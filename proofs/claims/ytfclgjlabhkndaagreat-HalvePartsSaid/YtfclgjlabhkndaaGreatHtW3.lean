/- Part 3. -/
import Derived.Test.YtfclgjlabhkndaaGreatHtW2
noncomputable section
namespace Go.Pf.Vc
open Go Go.Pf
set_option maxRecDepth 100000
def yj0 (a0:yaw) (a1:ybM) (a2:yay) (a3:yad) (a4:yaj) (a5:yaj) (a6:yaj) (p0:Int) (p1 p2:Ls) (p3 p4 p5 p6:Int) (K:Int→Int→Int→Prop):Prop :=
 (a0 p0 p1 p2 (fun a =>
 (cbr (a !=(0:Int))
 (K (0:Int) (0:Int) a)
 (a1 p0 p1 p2 p3 p4 (fun b =>
 (cbr (!b)
 (K (0:Int) (0:Int) (2:Int))
 (a1 p0 p1 p2 p5 p6 (fun c =>
 (cbr (!c)
 (K (0:Int) (0:Int) (2:Int))
 (a2 p5 p6 p3 p4 (fun d =>
 (cbr d
 (K (0:Int) (0:Int) (2:Int))
 (a3 (0:Int) (fun e f =>
 (∃ n:Nat,yaP a0 a1 a2 a3 a4 a5 a6
 (fun g h i=>(K g h i))
 (fun _ _ _ _ _ _ _ j k _ _ _ _ _ _=>(K j k (0:Int)))
 n p0 p1 p2 p5 p6 (0:Int) (0:Int) e f p3 p4 p2 (((List.length p2):Nat):Int) (0:Int))))))))))))))))
def yeS:ybz:=yj0 yaE ybN ybS ybL ybC yaI ybv
def yj1:Sg:=⟨(lC pt13 pt11),Int→Int→Int→Prop,fun K=>(fun r0 r1 r2=>K (.tup [(.agg [(.int .i64 r0),(.int .i64 r1)]),(.int .i64 r2)]))⟩
def yta (Q:Qx):Int→Int→Int→Prop:=(fun i0 i1 i2=>Q .ret [(6,.box (.agg [(.int .i64 i0),(.int .i64 i1)])),(7,.v (.int .i64 i2))] [])
def ytb (Q:Qx):Int→Ls→Ls→Int→Int→Int→Int→Int→Int→Int→Int→Ls→Int→Int→Bool→Prop:=(fun i0 l1 l2 i3 i4 i5 i6 i7 i8 i9 i10 l11 i12 i13 b14=>Q (.exit 0) [(3,.box (.agg [(.int .i64 i0),(.data l1),(.data l2)])),(5,.box (.agg [(.int .i64 i3),(.int .i64 i4)])),(6,.box (.agg [(.int .i64 i5),(.int .i64 i6)])),(9,.box (.agg [(.int .i64 i7),(.int .i64 i8)])),(10,.box (.agg [(.int .i64 i9),(.int .i64 i10)])),(42,.v (.data l11)),(43,.v (.int .i64 i12)),(44,.v (.int .i64 i13)),(45,.v (.bool b14))] [])
def yml (a0:yaw) (a1:ybM) (a2:yay) (a3:yad) (a4:yaj) (a5:yaj) (a6:yaj) (Q:Qx):List St:=[⟨(pS hN (fX 3 pt13 (fX 5 pt7 (fX 6 pt7 (fX 9 pt7 (fX 10 pt7 (fV 42 vD (fV 43 pt0 (fV 44 pt0 fN)))))))) fN),yaP a0 a1 a2 a3 a4 a5 a6 (yta Q) (ytb Q)⟩]
def yo0 (a0:yaw) (a1:ybM) (a2:yay) (a3:yad) (a4:yaj) (a5:yaj) (a6:yaj):LP:=lpS [(85339800,yml a0 a1 a2 a3 a4 a5 a6)]
def yj2 (e:Es) (a0:yaw) (a1:ybM) (a2:yay) (a3:yad) (a4:yaj) (a5:yaj) (a6:yaj):SE:=sE (E e) [(yc1,yoV.pw a0),(yeM,yxY.pw a1),(yer,yrh.pw a2),(ydR,yjX.pw a3),(yfz,ydW.pw a4),(ydI,ydW.pw a5),(yet,ydW.pw a6)] (yo0 a0 a1 a2 a3 a4 a5 a6)
theorem yna (e:Es) (he:EG e):SEOk (Uni (E e)) (yj2 e yaE ybN ybS ybL ybC yaI ybv):=yas (Sub.uni _) ⟨(yd7 e he),(yjZ e he),(yhN e he),(yg2 e he),(yhM e he),(yeR e he),(yf1 e he),trivial⟩ trivial he.ok
theorem yri (e:Es) (a0 a1 a2 a3 a4 a5 a6):ybZ (yj2 e a0 a1 a2 a3 a4 a5 a6) 5 a ypD false (yml a0 a1 a2 a3 a4 a5 a6):=fun _=>⟨fun _=>by kernel_rfl,fun _ _=>by kernel_rfl,trivial⟩
theorem yrj (e:Es) (he:EG e):LpT (Uni (E e)) (yo0 yaE ybN ybS ybL ybC yaI ybv) [] 85339800 (.loop 85339800 ypD):=fun _ _ _=>yqU.st (Sub.uni _) (yaF (yna e he) 5) (YOk.no _ _) (yan (by kernel_rfl)) (yri e _ _ _ _ _ _ _ _)
theorem yx1 (e:Es) (a0 a1 a2 a3 a4 a5 a6):EqW (yj2 e a0 a1 a2 a3 a4 a5 a6) 6 yq4 yj1 (yj0 a0 a1 a2 a3 a4 a5 a6):=fun _ _=>by kernel_rfl
theorem yo1 (e:Es) (he:EG e):OkF (E e) (yj1.pw yeS) yhH:=okU he (yx1 e _ _ _ _ _ _ _) (yna e he) ymP.flat (ya5 (l:=[(85339800,.loop 85339800 ypD)]) ⟨yrj e he,trivial⟩ (by kernel_rfl))
def ybh (a0:yaw) (a1:ybM) (a2:yav) (a3:yad) (a4:yay) (a5:yaj) (a6:yaj) (a7:yaj) (a8:yaj) (x0:Int→Int→Int→Int→Int→Int→Prop) (x1:Int→Int→Int→Int→Int→Int→Ls→Ls→Int→Int→Ls→Int→Int→Bool→Prop):Nat→Int→Int→Int→Int→Int→Int→Ls→Ls→Int→Int→Ls→Int→Int→Prop
 | 0,_,_,_,_,_,_,_,_,_,_,_,_,_=>False
 | n+1,i0,i1,i2,i3,i4,i5,l6,l7,i8,i9,l10,i11,i12 =>
 (cbr (decide (i12<i11))
 (asr (decide ((0:Int)≤i12))
 (asr (decide (i12<(((List.length l10):Nat):Int)))
 (asr (conf zI (List.getD l10 (i12.toNat) .nils))
 (asr (decide ((0:Int)≤(IntKind.i64.wrap (i12+(1:Int)))))
 (asr (decide ((IntKind.i64.wrap (i12+(1:Int)))<(((List.length l6):Nat):Int)))
 (asr (conf zI (List.getD l6 ((IntKind.i64.wrap (i12+(1:Int))).toNat) .nils))
 (a3 (yaa (List.getD l6 ((IntKind.i64.wrap (i12+(1:Int))).toNat) .nils)) (fun a b =>
 (a4 i8 i9 a b (fun r =>
 (cbr (!r)
 (ybh a0 a1 a2 a3 a4 a5 a6 a7 a8 x0 x1 n i0 i1 i2 i3 i4 i5 l6 l7 i8 i9 l10 i11 (IntKind.i64.wrap (i12+(1:Int))))
 (a3 (0:Int) (fun i j =>
 (cbr (decide ((yaa (List.getD l10 (i12.toNat) .nils))>(0:Int)))
 (a5 a b i8 i9 (fun s t k =>
 (cbr (k !=(0:Int))
 (x0 i0 i1 i2 i3 i4 k)
 (a3 (yaa (List.getD l10 (i12.toNat) .nils)) (fun u v =>
 (a6 s t u v (fun l m o =>
 (cbr (o !=(0:Int))
 (x0 i0 i1 i2 i3 i4 o)
 (cbr ((yaa (List.getD l10 (i12.toNat) .nils)) ==(0:Int))
 (ybh a0 a1 a2 a3 a4 a5 a6 a7 a8 x0 x1 n i0 i1 i2 i3 i4 i5 l6 l7 a b l10 i11 (IntKind.i64.wrap (i12+(1:Int))))
 (a4 l m i0 i1 (fun w =>
 (cbr w
 (a5 i0 i1 l m (fun e f c =>
 (cbr (c !=(0:Int))
 (cbr (c !=(0:Int))
 (x0 e f i2 i3 c (0:Int))
 (ybh a0 a1 a2 a3 a4 a5 a6 a7 a8 x0 x1 n e f i2 i3 c i5 l6 l7 a b l10 i11 (IntKind.i64.wrap (i12+(1:Int)))))
 (cbr (c !=(0:Int))
 (x0 e f i2 i3 (6:Int) (0:Int))
 (ybh a0 a1 a2 a3 a4 a5 a6 a7 a8 x0 x1 n e f i2 i3 (6:Int) i5 l6 l7 a b l10 i11 (IntKind.i64.wrap (i12+(1:Int))))))))
 (a3 (yaa (List.getD l10 (i12.toNat) .nils)) (fun x y =>
 (a7 i0 i1 x y (fun z A p =>
 (cbr (p ==(0:Int))
 (a8 i8 i9 z A (fun B C D =>
 (x0 i0 i1 B C D (0:Int))))
 (x0 i0 i1 i2 i3 p (0:Int)))))))))))))))))))
 (cbr ((yaa (List.getD l10 (i12.toNat) .nils)) ==(0:Int))
 (ybh a0 a1 a2 a3 a4 a5 a6 a7 a8 x0 x1 n i0 i1 i2 i3 i4 i5 l6 l7 a b l10 i11 (IntKind.i64.wrap (i12+(1:Int))))
 (a4 i j i0 i1 (fun E =>
 (cbr E
 (a5 i0 i1 i j (fun g h d =>
 (cbr (d !=(0:Int))
 (cbr (d !=(0:Int))
 (x0 g h i2 i3 d (0:Int))
 (ybh a0 a1 a2 a3 a4 a5 a6 a7 a8 x0 x1 n g h i2 i3 d i5 l6 l7 a b l10 i11 (IntKind.i64.wrap (i12+(1:Int)))))
 (cbr (d !=(0:Int))
 (x0 g h i2 i3 (6:Int) (0:Int))
 (ybh a0 a1 a2 a3 a4 a5 a6 a7 a8 x0 x1 n g h i2 i3 (6:Int) i5 l6 l7 a b l10 i11 (IntKind.i64.wrap (i12+(1:Int))))))))
 (a3 (yaa (List.getD l10 (i12.toNat) .nils)) (fun F G =>
 (a7 i0 i1 F G (fun H I q =>
 (cbr (q ==(0:Int))
 (a8 i8 i9 H I (fun J K L =>
 (x0 i0 i1 J K L (0:Int))))
 (x0 i0 i1 i2 i3 q (0:Int)))))))))))))))))))))))))
 (x1 i0 i1 i2 i3 i4 i5 l6 l7 i8 i9 l10 i11 i12 false))
def yls (a0:yaw) (a1:ybM) (a2:yav) (a3:yad) (a4:yay) (a5:yaj) (a6:yaj) (a7:yaj) (a8:yaj) (p0:Int) (p1 p2:Ls) (p3 p4 p5 p6:Int) (K:Int→Int→Int→Prop):Prop :=
 (a0 p0 p1 p2 (fun b =>
 (cbr (b !=(0:Int))
 (K (0:Int) (0:Int) b)
 (a1 p0 p1 p2 p3 p4 (fun g =>
 (cbr (!g)
 (K (0:Int) (0:Int) (2:Int))
 (a2 p5 p6 (fun h =>
 (cbr (h !=(0:Int))
 (K (0:Int) (0:Int) (2:Int))
 (cbr (decide (p5<(0:Int)))
 (K (0:Int) (0:Int) (2:Int))
 (cbr (p5 ==(0:Int))
 (K p3 p4 (0:Int))
 (∃ n:Nat,ybh a0 a1 a2 a3 a4 a5 a6 a7 a8
 (fun _ _ c d e a=>(cbr (a !=(0:Int))
 (cbr (a !=(0:Int))
 (K (0:Int) (0:Int) a)
 (K c d (0:Int)))
 (cbr (e !=(0:Int))
 (K (0:Int) (0:Int) e)
 (K c d (0:Int)))))
 (fun _ _ i j f _ _ _ _ _ _ _ _ _=>(cbr (f !=(0:Int))
 (K (0:Int) (0:Int) f)
 (K i j (0:Int))))
 n p5 p6 (0:Int) (0:Int) (6:Int) p0 p1 p2 p3 p4 p2 (((List.length p2):Nat):Int) (0:Int)))))))))))))
def yfD:ybz:=yls yaE ybN ybu ybL ybS ybC yaI ycn ybv
def yuF (Q:Qx):Int→Int→Int→Int→Int→Int→Prop:=(fun i0 i1 i2 i3 i4 i5=>Q .ret [(6,.v (.int .i64 i5))] [⟨false,true,2,([(.agg [(.int .i64 i0),(.int .i64 i1)])]:Ls)⟩,⟨false,true,2,([(.agg [(.int .i64 i2),(.int .i64 i3)])]:Ls)⟩,⟨false,true,1,([(.int .i64 i4)]:Ls)⟩])
def yuG (Q:Qx):Int→Int→Int→Int→Int→Int→Ls→Ls→Int→Int→Ls→Int→Int→Bool→Prop:=(fun i0 i1 i2 i3 i4 i5 l6 l7 i8 i9 l10 i11 i12 b13=>Q (.exit 0) [(2,.v (.fn (.func ye9) [] [(.ptr 0 1 0 0),(.ptr 2 1 0 0),(.ptr 1 1 0 0)])),(3,.box (.agg [(.int .i64 i5),(.data l6),(.data l7)])),(4,.box (.agg [(.int .i64 i8),(.int .i64 i9)])),(14,.v (.data l10)),(15,.v (.int .i64 i11)),(16,.v (.int .i64 i12)),(17,.v (.bool b13))] [⟨false,true,2,([(.agg [(.int .i64 i0),(.int .i64 i1)])]:Ls)⟩,⟨false,true,2,([(.agg [(.int .i64 i2),(.int .i64 i3)])]:Ls)⟩,⟨false,true,1,([(.int .i64 i4)]:Ls)⟩])
def ynb (a0:yaw) (a1:ybM) (a2:yav) (a3:yad) (a4:yay) (a5:yaj) (a6:yaj) (a7:yaj) (a8:yaj) (Q:Qx):List St:=[⟨(pS (hB false true 2 (rC pt7 rN) (hB false true 2 (rC pt7 rN) (hB false true 1 (rC pt0 rN) hN))) (fV 2 (vF ye9 lN (lC (vP 0 0 (nK 1) (nK 0)) (lC (vP 2 0 (nK 1) (nK 0)) (lC (vP 1 0 (nK 1) (nK 0)) lN)))) (fX 3 pt13 (fX 4 pt7 pt15))) fN),ybh a0 a1 a2 a3 a4 a5 a6 a7 a8 (yuF Q) (yuG Q)⟩]
def ylt (a0:yaw) (a1:ybM) (a2:yav) (a3:yad) (a4:yay) (a5:yaj) (a6:yaj) (a7:yaj) (a8:yaj):LP:=lpS [(41613500,ynb a0 a1 a2 a3 a4 a5 a6 a7 a8)]
def yrk (e:Es) (a0:yaw) (a1:ybM) (a2:yav) (a3:yad) (a4:yay) (a5:yaj) (a6:yaj) (a7:yaj) (a8:yaj):SE:=⟨(E e),yko [(yc1,yoV.pw a0),(yeM,yxY.pw a1),(yde,ymX.pw a2),(ydR,yjX.pw a3),(yer,yrh.pw a4),(yfz,ydW.pw a5),(ydI,ydW.pw a6),(yhb,ydW.pw a7),(yet,ydW.pw a8)],ykp [(ye9,yoM)],ylt a0 a1 a2 a3 a4 a5 a6 a7 a8,fun _=>none⟩
def yrl (e:Es) (a0:yaw) (a1:ybM) (a2:yav) (a3:yad) (a4:yay) (a5:yaj) (a6:yaj) (a7:yaj) (a8:yaj):SE:=⟨(E e),yko [(yc1,yoV.pw a0),(yeM,yxY.pw a1),(yde,ymX.pw a2),(ydR,yjX.pw a3),(yer,yrh.pw a4),(yfz,ydW.pw a5),(ydI,ydW.pw a6),(yhb,ydW.pw a7),(yet,ydW.pw a8)],ykp [(yt2,yt5),(ye9,yoM)],ylt a0 a1 a2 a3 a4 a5 a6 a7 a8,fun _=>none⟩
theorem yx2 (e:Es) (he:EG e):SEOk (Uni (E e)) (yrk e yaE ybN ybu ybL ybS ybC yaI ycn ybv):=yas (Sub.uni _) ⟨(yd7 e he),(yjZ e he),(yev e he),(yg2 e he),(yhN e he),(yhM e he),(yeR e he),(ylp e he),(yf1 e he),trivial⟩ ⟨⟨by kernel_rfl,by kernel_rfl,rfl,fun az=>ybo (by kernel_rfl) az,he.num _ (by kernel_rfl),by kernel_rfl,(yan (by kernel_rfl))⟩,trivial⟩ he.ok
theorem ytc (e:Es) (a0 a1 a2 a3 a4 a5 a6 a7 a8):ybZ (yrk e a0 a1 a2 a3 a4 a5 a6 a7 a8) 5 a ypF false (ynb a0 a1 a2 a3 a4 a5 a6 a7 a8):=fun _=>⟨fun _=>by kernel_rfl,fun _ _=>by kernel_rfl,trivial⟩
theorem ytd (e:Es) (he:EG e):LpT (Uni (E e)) (ylt yaE ybN ybu ybL ybS ybC yaI ycn ybv) [] 41613500 (.loop 41613500 ypF):=fun _ _ _=>yqU.st (Sub.uni _) (yaF (yx2 e he) 5) (YOk.no _ _) (yan (by kernel_rfl)) (ytc e _ _ _ _ _ _ _ _ _ _)
theorem yx3 (e:Es) (he:EG e):SEOk (Uni (E e)) (yrl e yaE ybN ybu ybL ybS ybC yaI ycn ybv):=yas (Sub.uni _) ⟨(yd7 e he),(yjZ e he),(yev e he),(yg2 e he),(yhN e he),(yhM e he),(yeR e he),(ylp e he),(yf1 e he),trivial⟩ ⟨⟨by kernel_rfl,by kernel_rfl,rfl,fun az=>ybo (by kernel_rfl) az,he.num _ (by kernel_rfl),by kernel_rfl,(ya5 (l:=[(41613500,.loop 41613500 ypF)]) ⟨ytd e he,trivial⟩ (by kernel_rfl))⟩,⟨by kernel_rfl,by kernel_rfl,rfl,fun az=>ybo (by kernel_rfl) az,he.num _ (by kernel_rfl),by kernel_rfl,(yan (by kernel_rfl))⟩,trivial⟩ he.ok
theorem yzU (e:Es) (a0 a1 a2 a3 a4 a5 a6 a7 a8):EqW (yrl e a0 a1 a2 a3 a4 a5 a6 a7 a8) 6 yBZ yj1 (yls a0 a1 a2 a3 a4 a5 a6 a7 a8):=fun _ _=>by kernel_rfl
theorem yrm (e:Es) (he:EG e):OkF (E e) (yj1.pw yfD) yje:=okU he (yzU e _ _ _ _ _ _ _ _ _) (yx3 e he) ymP.flat (yan (by kernel_rfl))
set_option linter.unusedVariables false
theorem ywC (p0:Int) (p1:Ls) (p2:Ls) (r0:Int) (h:∀ K:Int→Prop,K r0→yaE p0 p1 p2 K) (K:Int→Prop):yaE p0 p1 p2 K=K r0 :=
 propext ⟨fun k=>detC (yd7 [] ybm) (az:=[(.agg [(.int .i64 p0),(.data p1),(.data p2)])]) (x:=(.int .i64 r0)) (fun K' k'=>h (fun r0=>K' (.int .i64 r0)) k') (K:=fun x=>match x with | (.int .i64 r0)=>K r0 | _=>False) k,h K⟩
theorem ywD (p0:Int) (p1:Ls) (p2:Ls) (r0:Int) (r1:Int) (h:∀ K:Int→Int→Prop,K r0 r1→ydX p0 p1 p2 K) (K:Int→Int→Prop):ydX p0 p1 p2 K=K r0 r1 :=
 propext ⟨fun k=>detC (yoY [] ybm) (az:=[(.agg [(.int .i64 p0),(.data p1),(.data p2)])]) (x:=(.tup [(.int .i64 r0),(.int .i64 r1)])) (fun K' k'=>h (fun r0 r1=>K' (.tup [(.int .i64 r0),(.int .i64 r1)])) k') (K:=fun x=>match x with | (.tup [(.int .i64 r0),(.int .i64 r1)])=>K r0 r1 | _=>False) k,h K⟩
theorem ywE (p0:Int) (p1:Ls) (p2:Ls) (p3:Int) (p4:Int) (p5:Int) (p6:Int) (r0:Int) (r1:Int) (r2:Int) (h:∀ K:Int→Int→Int→Prop,K r0 r1 r2→yeS p0 p1 p2 p3 p4 p5 p6 K) (K:Int→Int→Int→Prop):yeS p0 p1 p2 p3 p4 p5 p6 K=K r0 r1 r2 :=
 propext ⟨fun k=>detC (yo1 [] ybm) (az:=[(.agg [(.int .i64 p0),(.data p1),(.data p2)]),(.agg [(.int .i64 p3),(.int .i64 p4)]),(.agg [(.int .i64 p5),(.int .i64 p6)])]) (x:=(.tup [(.agg [(.int .i64 r0),(.int .i64 r1)]),(.int .i64 r2)])) (fun K' k'=>h (fun r0 r1 r2=>K' (.tup [(.agg [(.int .i64 r0),(.int .i64 r1)]),(.int .i64 r2)])) k') (K:=fun x=>match x with | (.tup [(.agg [(.int .i64 r0),(.int .i64 r1)]),(.int .i64 r2)])=>K r0 r1 r2 | _=>False) k,h K⟩
theorem yx4 (p0:Int) (p1:Ls) (p2:Ls) (p3:Int) (p4:Int) (p5:Int) (p6:Int) (r0:Int) (r1:Int) (r2:Int) (h:∀ K:Int→Int→Int→Prop,K r0 r1 r2→yfD p0 p1 p2 p3 p4 p5 p6 K) (K:Int→Int→Int→Prop):yfD p0 p1 p2 p3 p4 p5 p6 K=K r0 r1 r2 :=
 propext ⟨fun k=>detC (yrm [] ybm) (az:=[(.agg [(.int .i64 p0),(.data p1),(.data p2)]),(.agg [(.int .i64 p3),(.int .i64 p4)]),(.agg [(.int .i64 p5),(.int .i64 p6)])]) (x:=(.tup [(.agg [(.int .i64 r0),(.int .i64 r1)]),(.int .i64 r2)])) (fun K' k'=>h (fun r0 r1 r2=>K' (.tup [(.agg [(.int .i64 r0),(.int .i64 r1)]),(.int .i64 r2)])) k') (K:=fun x=>match x with | (.tup [(.agg [(.int .i64 r0),(.int .i64 r1)]),(.int .i64 r2)])=>K r0 r1 r2 | _=>False) k,h K⟩
abbrev yal:Type:=Ls→Ls→(Int→Prop)→Prop
def ycX (a0:yaw) (a:Int→Prop) (b:Ls→Ls→Ls→Int→Int→Bool→Prop):Nat→Ls→Ls→Ls→Int→Int→Prop
 | 0,_,_,_,_,_=>False
 | d+1,l0,l1,l2,i3,i4 =>
 (cbr (decide (i4<i3))
 (asr (decide ((0:Int)≤i4))
 (asr (decide (i4<(((List.length l2):Nat):Int)))
 (asr (conf zK (List.getD l2 (i4.toNat) .nils))
 (a0 (yaa (yac (List.getD l2 (i4.toNat) .nils) 0)) (ya6 (yac (List.getD l2 (i4.toNat) .nils) 1)) (ya6 (yac (List.getD l2 (i4.toNat) .nils) 2)) (fun c =>
 (cbr (c !=(0:Int))
 (a c)
 (ycX a0 a b d l0 l1 l2 i3 (IntKind.i64.wrap (i4+(1:Int))))))))))
 (b l0 l1 l2 i3 i4 false))
def ycw (a0:yaw) (a:Int→Prop) (b:Ls→Ls→Ls→Int→Int→Bool→Prop):Nat→Ls→Ls→Ls→Int→Int→Prop
 | 0,_,_,_,_,_=>False
 | c+1,l0,l1,l2,i3,i4 =>
 (cbr (decide (i4<i3))
 (asr (decide ((0:Int)≤i4))
 (asr (decide (i4<(((List.length l2):Nat):Int)))
 (asr (conf zK (List.getD l2 (i4.toNat) .nils))
 (asr (decide ((0:Int)<(((List.length l0):Nat):Int)))
 (asr (conf zK (List.getD l0 0 .nils))
 (cbr ((yaa (yac (List.getD l2 (i4.toNat) .nils) 0)) !=(yaa (yac (List.getD l0 0 .nils) 0)))
 (a (8:Int))
 (ycw a0 a b c l0 l1 l2 i3 (IntKind.i64.wrap (i4+(1:Int))))))))))
 (b l0 l1 l2 i3 i4 false))
def ylu (a0:yaw) (p0 p1:Ls) (K:Int→Prop):Prop :=
 (cbr (decide ((((List.length p0):Nat):Int)>(6:Int)))
 (K (4:Int))
 (cbr (decide ((((List.length p1):Nat):Int)>(2000:Int)))
 (K (4:Int))
 (cbr ((((List.length p0):Nat):Int) ==(0:Int))
 (K (8:Int))
 (∃ b:Nat,ycX a0
 (fun c=>(K c))
 (fun a d g h i j=>(∃ e:Nat,ycw a0
 (fun f=>(K f))
 (fun k l m n o p=>(K (0:Int)))
 e a d a (((List.length a):Nat):Int) (0:Int)))
 b p0 p1 p0 (((List.length p0):Nat):Int) (0:Int)))))
def yaT:yal:=ylu yaE
def pt16:VPt:=vA (lC vD pt9)
def yrn:Sg:=⟨(lC pt16 lN),Int→Prop,fun K=>(fun r0=>K (.int .i64 r0))⟩
def yuH (Q:Qx):Int→Prop:=(fun i0=>Q .ret [(2,.v (.int .i64 i0))] [])
def yuI (Q:Qx):Ls→Ls→Ls→Int→Int→Bool→Prop:=(fun l0 l1 l2 i3 i4 b5=>Q (.exit 0) [(1,.box (.agg [(.data l0),(.data l1)])),(23,.v (.data l2)),(24,.v (.int .i64 i3)),(25,.v (.int .i64 i4)),(26,.v (.bool b5))] [])
def yuJ (Q:Qx):Int→Prop:=(fun i0=>Q .ret [(2,.v (.int .i64 i0))] [])
def yuK (Q:Qx):Ls→Ls→Ls→Int→Int→Bool→Prop:=(fun l0 l1 l2 i3 i4 b5=>Q (.exit 2) [(1,.box (.agg [(.data l0),(.data l1)])),(36,.v (.data l2)),(37,.v (.int .i64 i3)),(38,.v (.int .i64 i4)),(39,.v (.bool b5))] [])
def ync (a0:yaw) (Q:Qx):List St:=[⟨(pS hN (fX 1 pt16 (fV 23 vD (fV 24 pt0 (fV 25 pt0 fN)))) fN),ycX a0 (yuH Q) (yuI Q)⟩]
def ynd (a0:yaw) (Q:Qx):List St:=[⟨(pS hN (fX 1 pt16 (fV 36 vD (fV 37 pt0 (fV 38 pt0 fN)))) fN),ycw a0 (yuJ Q) (yuK Q)⟩]
def ylv (a0:yaw):LP:=lpS [(12157600,ync a0),(12157601,ynd a0)]
def yhO (e:Es) (a0:yaw):SE:=sE (E e) [(yc1,yoV.pw a0)] (ylv a0)
theorem yj4 (e:Es) (he:EG e):SEOk (Uni (E e)) (yhO e yaE):=yas (Sub.uni _) ⟨(yd7 e he),trivial⟩ trivial he.ok
theorem yte (e:Es) (a0):ybZ (yhO e a0) 5 a yps false (ync a0):=fun _=>⟨fun _=>by kernel_rfl,fun _ _=>by kernel_rfl,trivial⟩
theorem ytf (e:Es) (he:EG e):LpT (Uni (E e)) (ylv yaE) [] 12157600 (.loop 12157600 yps):=fun _ _ _=>yqU.st (Sub.uni _) (yaF (yj4 e he) 5) (YOk.no _ _) (yan (by kernel_rfl)) (yte e _ _)
theorem ytg (e:Es) (a0):ybZ (yhO e a0) 5 a ypt false (ynd a0):=fun _=>⟨fun _=>by kernel_rfl,fun _ _=>by kernel_rfl,trivial⟩
theorem yth (e:Es) (he:EG e):LpT (Uni (E e)) (ylv yaE) [] 12157601 (.loop 12157601 ypt):=fun _ _ _=>yqU.st (Sub.uni _) (yaF (yj4 e he) 5) (YOk.no _ _) (yan (by kernel_rfl)) (ytg e _ _)
theorem yzV (e:Es) (a0):EqW (yhO e a0) 6 ymT yrn (ylu a0):=fun _ _=>by kernel_rfl
theorem yc9 (e:Es) (he:EG e):OkF (E e) (yrn.pw yaT) ycD:=okU he (yzV e _) (yj4 e he) ymP.flat (ya5 (l:=[(12157600,.loop 12157600 yps),(12157601,.loop 12157601 ypt)]) ⟨ytf e he,yth e he,trivial⟩ (by kernel_rfl))
abbrev ydY:Type:=Ls→(Ls→Prop)→Prop
mutual
def yeT (a0:ycu) (x0:Ls→Ls→Int→Int→Bool→Prop) (x1:Ls→Int→Int→Bool→Prop):Nat→Ls→Int→Int→Prop
 | 0,_,_,_=>False
 | n+1,l0,i1,i2 =>
 (cbr (decide (i2<i1))
 (asr (decide ((0:Int)≤i2))
 (asr (decide (i2<(((List.length l0):Nat):Int)))
 (asr (conf zK (List.getD l0 (i2.toNat) .nils))
 (a0 (ya6 (yac (List.getD l0 (i2.toNat) .nils) 1)) (fun a =>
 (a0 (ya6 (yac (List.getD l0 (i2.toNat) .nils) 2)) (fun b =>
 (asr (decide (1=List.length ([(.agg [(.int .i64 (yaa (yac (List.getD l0 (i2.toNat) .nils) 0))),(.data a),(.data b)])]:Ls))&&decide (1=List.length ([(.agg [(.int .i64 (yaa (yac (List.getD l0 (i2.toNat) .nils) 0))),(.data a),(.data b)])]:Ls)))
 (ycO a0 x0 x1 n ([(.agg [(.int .i64 (yaa (yac (List.getD l0 (i2.toNat) .nils) 0))),(.data a),(.data b)])]:Ls) l0 i1 (IntKind.i64.wrap (i2+(1:Int))))))))))))
 (x1 l0 i1 i2 false))
def ycO (a0:ycu) (x0:Ls→Ls→Int→Int→Bool→Prop) (x1:Ls→Int→Int→Bool→Prop):Nat→Ls→Ls→Int→Int→Prop
 | 0,_,_,_,_=>False
 | n+1,l0,l3,i4,i5 =>
 (cbr (decide (i5<i4))
 (asr (decide ((0:Int)≤i5))
 (asr (decide (i5<(((List.length l3):Nat):Int)))
 (asr (conf zK (List.getD l3 (i5.toNat) .nils))
 (a0 (ya6 (yac (List.getD l3 (i5.toNat) .nils) 1)) (fun a =>
 (a0 (ya6 (yac (List.getD l3 (i5.toNat) .nils) 2)) (fun b =>
 (asr (decide ((List.length l0)=(List.length l0)))
 (asr (decide ((0+(List.length l0))≤(List.length l0)))
 (asr (!(decide (((0+(List.length l0))+1)≤(List.length l0))))
 (asr (decide ((List.length l0)=(List.length l0)))
 (asr (decide ((((List.length l0)+1)+64)*(56+1)≤room))
 (asr (decide ((List.length (l0++([(.agg [(.int .i64 (yaa (yac (List.getD l3 (i5.toNat) .nils) 0))),(.data a),(.data b)])]:Ls)))=List.length (l0++([(.agg [(.int .i64 (yaa (yac (List.getD l3 (i5.toNat) .nils) 0))),(.data a),(.data b)])]:Ls)))&&decide ((List.length (l0++([(.agg [(.int .i64 (yaa (yac (List.getD l3 (i5.toNat) .nils) 0))),(.data a),(.data b)])]:Ls)))=List.length (l0++([(.agg [(.int .i64 (yaa (yac (List.getD l3 (i5.toNat) .nils) 0))),(.data a),(.data b)])]:Ls))))
 (ycO a0 x0 x1 n (l0++([(.agg [(.int .i64 (yaa (yac (List.getD l3 (i5.toNat) .nils) 0))),(.data a),(.data b)])]:Ls)) l3 i4 (IntKind.i64.wrap (i5+(1:Int)))))))))))))))))
 (x0 l0 l3 i4 i5 false))
end
def yj5 (a0:ycu) (p0:Ls) (K:Ls→Prop):Prop :=
 (∃ n:Nat,yeT a0
 (fun a b c d e=>(asr (decide ((List.length a)=(List.length a)))
 (asr (decide ((0+(List.length a))≤(List.length a)))
 (K (List.take (List.length a) a)))))
 (fun f g h i=>(K ([]:Ls)))
 n p0 (((List.length p0):Nat):Int) (0:Int))
def yda:ydY:=yj5 yc5
def yx5:Sg:=⟨pt9,Ls→Prop,fun K=>(fun r0=>K (.data r0))⟩
def ykB (Q:Qx):Ls→Ls→Int→Int→Bool→Prop:=(fun l0 l3 i4 i5 b6=>Q (.exit 0) [(3,.v (.own 0 0 (List.length l0) (List.length l0) none)),(6,.v (.data l3)),(7,.v (.int .i64 i4)),(8,.v (.int .i64 i5)),(9,.v (.bool b6))] [⟨false,true,3,l0⟩])
def ykC (Q:Qx):Ls→Int→Int→Bool→Prop:=(fun l0 i1 i2 b3=>Q (.exit 0) [(3,.v .nils),(6,.v (.data l0)),(7,.v (.int .i64 i1)),(8,.v (.int .i64 i2)),(9,.v (.bool b3))] [])
def pt17:HPt:=hB false true 3 rA hN
def pt18:VPt:=vW 0 (nK 0) (nT 0) (nT 0)
def ymm (a0:ycu) (Q:Qx):List St:=[⟨(pS hN (fV 3 vNs pt10) fN),yeT a0 (ykB Q) (ykC Q)⟩,⟨(pS pt17 (fV 3 pt18 pt10) fN),ycO a0 (ykB Q) (ykC Q)⟩]
def yo2 (a0:ycu):LP:=lpS [(94933800,ymm a0)]
def yj6 (e:Es) (a0:ycu):SE:=sE (E e) [(yc2,ypQ a0)] (yo2 a0)
theorem yne (e:Es) (he:EG e):SEOk (Uni (E e)) (yj6 e yc5):=yas (Sub.uni _) ⟨(ypS e he),trivial⟩ trivial he.ok
theorem yro (e:Es) (a0):ybZ (yj6 e a0) 5 a ypu false (ymm a0):=fun _=>⟨fun _=>by kernel_rfl,fun _ _=>by kernel_rfl,fun _=>by kernel_rfl,fun _ _=>by kernel_rfl,trivial⟩
theorem yrp (e:Es) (he:EG e):LpT (Uni (E e)) (yo2 yc5) [] 94933800 (.loop 94933800 ypu):=fun _ _ _=>yqU.st (Sub.uni _) (yaF (yne e he) 5) (YOk.no _ _) (yan (by kernel_rfl)) (yro e _ _)
theorem yx6 (e:Es) (a0):EqW (yj6 e a0) 6 yq0 yx5 (yj5 a0):=fun _ _=>by kernel_rfl
theorem yg3 (e:Es) (he:EG e):OkF (E e) (yx5.pw yda) yeK:=okU he (yx6 e _) (yne e he) ymP.flat (ya5 (l:=[(94933800,.loop 94933800 ypu)]) ⟨yrp e he,trivial⟩ (by kernel_rfl))
abbrev ybQ:Type:=Ls→(Ls→Ls→Int→Prop)→Prop
def ynf (a0:yal) (a1:ydY) (p0:Ls) (K:Ls→Ls→Int→Prop):Prop :=
 (a0 p0 ([]:Ls) (fun a =>
 (cbr (a !=(0:Int))
 (K ([]:Ls) ([]:Ls) a)
 (a1 p0 (fun b =>
 (K b ([]:Ls) (0:Int)))))))
def yfn:ybQ:=ynf yaT yda
def yB9:Sg:=⟨pt9,Ls→Ls→Int→Prop,fun K=>(fun r0 r1 r2=>K (.tup [(.agg [(.data r0),(.data r1)]),(.int .i64 r2)]))⟩
def yCa (e:Es) (a0:yal) (a1:ydY):SE:=sE (E e) [(ycD,yrn.pw a0),(yeK,yx5.pw a1)] lp0
theorem yCb (e:Es) (a0 a1):EqW (yCa e a0 a1) 6 yDr yB9 (ynf a0 a1):=fun _ _=>by kernel_rfl
theorem yCc (e:Es) (he:EG e):OkF (E e) (yB9.pw yfn) yk5:=okU he (yCb e _ _) (yas (Sub.uni _) ⟨(yc9 e he),(yg3 e he),trivial⟩ trivial he.ok) ymP.flat (yan (by kernel_rfl))
abbrev yaX:Type:=Ls→Ls→Int→(Bool→Prop)→Prop
def yf2 (p0 p1:Ls) (p2:Int) (K:Bool→Prop):Prop :=
 (cbr (decide (p2≥(0:Int)))
 (K (decide (p2<(((List.length p0):Nat):Int))))
 (K false))
def ybi:yaX:=yf2
def yjp:Sg:=⟨(lC pt16 pt1),Bool→Prop,fun K=>(fun r0=>K (.bool r0))⟩
def yrq (e:Es):SE:=sE (E e) [] lp0
theorem yrr (e:Es):EqW (yrq e) 6 ysT yjp yf2:=fun _ _=>by kernel_rfl
theorem yf3 (e:Es) (he:EG e):OkF (E e) (yjp.pw ybi) ycK:=okU he (yrr e) (yas (Sub.uni _) trivial trivial he.ok) ymP.flat (yan (by kernel_rfl))
abbrev yng:Type:=Ls→Ls→Int→(Int→Int→Prop)→Prop
def ylw (a0:yal) (a1:yaX) (a2:ylq) (p0 p1:Ls) (p2:Int) (K:Int→Int→Prop):Prop :=
 (a0 p0 p1 (fun b =>
 (cbr (b !=(0:Int))
 (K (0:Int) b)
 (a1 p0 p1 p2 (fun c =>
 (cbr (!c)
 (K (0:Int) (2:Int))
 (asr (decide ((0:Int)≤p2))
 (asr (decide (p2<(((List.length p0):Nat):Int)))
 (lt (List.getD p0 (p2.toNat) .nils) (fun a =>
 (asr (conf zK a)
 (a2 (yaa (yac a 0)) (ya6 (yac a 1)) (ya6 (yac a 2)) (fun d e =>
 (K d e))))))))))))))
def yfE:yng:=ylw yaT ybi ydX
def yzW:Sg:=⟨(lC pt16 pt1),Int→Int→Prop,fun K=>(fun r0 r1=>K (.tup [(.int .i64 r0),(.int .i64 r1)]))⟩
def yzX (e:Es) (a0:yal) (a1:yaX) (a2:ylq):SE:=sE (E e) [(ycD,yrn.pw a0),(ycK,yjp.pw a1),(yhG,yxU.pw a2)] lp0
theorem yzY (e:Es) (a0 a1 a2):EqW (yzX e a0 a1 a2) 6 yBS yzW (ylw a0 a1 a2):=fun _ _=>by kernel_rfl
theorem yzZ (e:Es) (he:EG e):OkF (E e) (yzW.pw yfE) yjc:=okU he (yzY e _ _ _) (yas (Sub.uni _) ⟨(yc9 e he),(yf3 e he),(yoY e he),trivial⟩ trivial he.ok) ymP.flat (yan (by kernel_rfl))
abbrev ycj:Type:=Ls→Ls→Int→Int→Int→Int→Int→(Int→Int→Int→Prop)→Prop
def ye4 (a0:ybz) (p0 p1:Ls) (p2 p3 p4 p5 p6:Int) (K:Int→Int→Int→Prop):Prop :=
 (asr (decide ((0:Int)≤p2))
 (asr (decide (p2<(((List.length p0):Nat):Int)))
 (asr (conf zK (List.getD p0 (p2.toNat) .nils))
 (a0 (yaa (yac (List.getD p0 (p2.toNat) .nils) 0)) (ya6 (yac (List.getD p0 (p2.toNat) .nils) 1)) (ya6 (yac (List.getD p0 (p2.toNat) .nils) 2)) p3 p4 p5 p6 (fun a b c =>
 (K a b c))))))
def yfo:ycj:=ye4 yeS
def pt19:LPt:=lC pt16 (lC pt0 pt11)
def yht:Sg:=⟨pt19,Int→Int→Int→Prop,fun K=>(fun r0 r1 r2=>K (.tup [(.agg [(.int .i64 r0),(.int .i64 r1)]),(.int .i64 r2)]))⟩
def yov (e:Es) (a0:ybz):SE:=sE (E e) [(yhH,yj1.pw a0)] lp0
theorem yow (e:Es) (a0):EqW (yov e a0) 6 ypE yht (ye4 a0):=fun _ _=>by kernel_rfl
theorem yox (e:Es) (he:EG e):OkF (E e) (yht.pw yfo) ydT:=okU he (yow e _) (yas (Sub.uni _) ⟨(yo1 e he),trivial⟩ trivial he.ok) ymP.flat (yan (by kernel_rfl))
abbrev yfF:Type:=Ls→Ls→Int→Int→Int→Int→Int→(Ls→Ls→Int→Int→Int→Prop)→Prop
def ylx (a0:yal) (a1:yaX) (a2:ycj) (a3:ydY) (p0 p1:Ls) (p2 p3 p4 p5 p6:Int) (K:Ls→Ls→Int→Int→Int→Prop):Prop :=
 (a0 p0 p1 (fun c =>
 (cbr (c !=(0:Int))
 (K ([]:Ls) ([]:Ls) (0:Int) (0:Int) c)
 (a1 p0 p1 p2 (fun f =>
 (cbr (!f)
 (K ([]:Ls) ([]:Ls) (0:Int) (0:Int) (2:Int))
 (a2 p0 p1 p2 p3 p4 p5 p6 (fun a b d =>
 (cbr (d !=(0:Int))
 (K ([]:Ls) ([]:Ls) (0:Int) (0:Int) d)
 (cbr (decide ((((List.length p1):Nat):Int)≥(2000:Int)))
 (K ([]:Ls) ([]:Ls) (0:Int) (0:Int) (4:Int))
 (asr (decide ((0:Int)≤(IntKind.i64.wrap ((((List.length p1):Nat):Int)+(1:Int)))))
 (asr (decide ((((IntKind.i64.wrap ((((List.length p1):Nat):Int)+(1:Int))).toNat)+64)*(64+1)≤room))
 (a3 p0 (fun e =>
 (asr (ydq 8 p1)
 (asr (decide ((List.length (List.replicate ((IntKind.i64.wrap ((((List.length p1):Nat):Int)+(1:Int))).toNat) ((.agg [(.int .i64 (0)),(.int .u8 (0)),(.int .i64 (0)),(.int .i64 (0)),(.int .i64 (0)),(.int .i64 (0)),(.int .i64 (0)),(.int .i64 (0))]):PV)))=((IntKind.i64.wrap ((((List.length p1):Nat):Int)+(1:Int))).toNat)))
 (asr (decide (0≤((IntKind.i64.wrap ((((List.length p1):Nat):Int)+(1:Int))).toNat)))
 (cbr (List.isEmpty p1)
 (asr (decide ((List.length (List.replicate ((IntKind.i64.wrap ((((List.length p1):Nat):Int)+(1:Int))).toNat) ((.agg [(.int .i64 (0)),(.int .u8 (0)),(.int .i64 (0)),(.int .i64 (0)),(.int .i64 (0)),(.int .i64 (0)),(.int .i64 (0)),(.int .i64 (0))]):PV)))=((IntKind.i64.wrap ((((List.length p1):Nat):Int)+(1:Int))).toNat)))
 (asr (decide (0≤((IntKind.i64.wrap ((((List.length p1):Nat):Int)+(1:Int))).toNat)))
 (asr (decide (1≤((IntKind.i64.wrap ((((List.length p1):Nat):Int)+(1:Int))).toNat)))
 (asr (decide ((List.length (([(.agg [(.int .i64 p2),(.int .u8 (1:Int)),(.int .i64 p3),(.int .i64 p4),(.int .i64 p5),(.int .i64 p6),(.int .i64 a),(.int .i64 b)])]:Ls)++(List.drop 1 (List.replicate ((IntKind.i64.wrap ((((List.length p1):Nat):Int)+(1:Int))).toNat) ((.agg [(.int .i64 (0)),(.int .u8 (0)),(.int .i64 (0)),(.int .i64 (0)),(.int .i64 (0)),(.int .i64 (0)),(.int .i64 (0)),(.int .i64 (0))]):PV)))))=((IntKind.i64.wrap ((((List.length p1):Nat):Int)+(1:Int))).toNat)))
 (asr (decide (1≤((IntKind.i64.wrap ((((List.length p1):Nat):Int)+(1:Int))).toNat)))
 (K e (List.take 1 (([(.agg [(.int .i64 p2),(.int .u8 (1:Int)),(.int .i64 p3),(.int .i64 p4),(.int .i64 p5),(.int .i64 p6),(.int .i64 a),(.int .i64 b)])]:Ls)++(List.drop 1 (List.replicate ((IntKind.i64.wrap ((((List.length p1):Nat):Int)+(1:Int))).toNat) ((.agg [(.int .i64 (0)),(.int .u8 (0)),(.int .i64 (0)),(.int .i64 (0)),(.int .i64 (0)),(.int .i64 (0)),(.int .i64 (0)),(.int .i64 (0))]):PV))))) a b (0:Int)))))))
 (asr (decide ((0+(List.length p1))≤((IntKind.i64.wrap ((((List.length p1):Nat):Int)+(1:Int))).toNat)))
 (asr (decide ((List.length (p1++(List.drop (0+(List.length p1)) (List.replicate ((IntKind.i64.wrap ((((List.length p1):Nat):Int)+(1:Int))).toNat) ((.agg [(.int .i64 (0)),(.int .u8 (0)),(.int .i64 (0)),(.int .i64 (0)),(.int .i64 (0)),(.int .i64 (0)),(.int .i64 (0)),(.int .i64 (0))]):PV)))))=((IntKind.i64.wrap ((((List.length p1):Nat):Int)+(1:Int))).toNat)))
 (asr (decide ((0+(0+(List.length p1)))≤((IntKind.i64.wrap ((((List.length p1):Nat):Int)+(1:Int))).toNat)))
 (asr (decide (((0+(List.length p1))+1)≤((IntKind.i64.wrap ((((List.length p1):Nat):Int)+(1:Int))).toNat)))
 (asr (decide ((List.length ((List.take (0+(0+(List.length p1))) (p1++(List.drop (0+(List.length p1)) (List.replicate ((IntKind.i64.wrap ((((List.length p1):Nat):Int)+(1:Int))).toNat) ((.agg [(.int .i64 (0)),(.int .u8 (0)),(.int .i64 (0)),(.int .i64 (0)),(.int .i64 (0)),(.int .i64 (0)),(.int .i64 (0)),(.int .i64 (0))]):PV)))))++(([(.agg [(.int .i64 p2),(.int .u8 (1:Int)),(.int .i64 p3),(.int .i64 p4),(.int .i64 p5),(.int .i64 p6),(.int .i64 a),(.int .i64 b)])]:Ls)++(List.drop ((0+(0+(List.length p1)))+1) (p1++(List.drop (0+(List.length p1)) (List.replicate ((IntKind.i64.wrap ((((List.length p1):Nat):Int)+(1:Int))).toNat) ((.agg [(.int .i64 (0)),(.int .u8 (0)),(.int .i64 (0)),(.int .i64 (0)),(.int .i64 (0)),(.int .i64 (0)),(.int .i64 (0)),(.int .i64 (0))]):PV))))))))=((IntKind.i64.wrap ((((List.length p1):Nat):Int)+(1:Int))).toNat)))
 (asr (decide ((0+((0+(List.length p1))+1))≤((IntKind.i64.wrap ((((List.length p1):Nat):Int)+(1:Int))).toNat)))
 (K e (List.take ((0+(List.length p1))+1) ((List.take (0+(0+(List.length p1))) (p1++(List.drop (0+(List.length p1)) (List.replicate ((IntKind.i64.wrap ((((List.length p1):Nat):Int)+(1:Int))).toNat) ((.agg [(.int .i64 (0)),(.int .u8 (0)),(.int .i64 (0)),(.int .i64 (0)),(.int .i64 (0)),(.int .i64 (0)),(.int .i64 (0)),(.int .i64 (0))]):PV)))))++(([(.agg [(.int .i64 p2),(.int .u8 (1:Int)),(.int .i64 p3),(.int .i64 p4),(.int .i64 p5),(.int .i64 p6),(.int .i64 a),(.int .i64 b)])]:Ls)++(List.drop ((0+(0+(List.length p1)))+1) (p1++(List.drop (0+(List.length p1)) (List.replicate ((IntKind.i64.wrap ((((List.length p1):Nat):Int)+(1:Int))).toNat) ((.agg [(.int .i64 (0)),(.int .u8 (0)),(.int .i64 (0)),(.int .i64 (0)),(.int .i64 (0)),(.int .i64 (0)),(.int .i64 (0)),(.int .i64 (0))]):PV)))))))) a b (0:Int))))))))))))))))))))))))))
def ybH:yfF:=ylx yaT ybi yfo yda
def yrs:Sg:=⟨pt19,Ls→Ls→Int→Int→Int→Prop,fun K=>(fun r0 r1 r2 r3 r4=>K (.tup [(.agg [(.data r0),(.data r1)]),(.agg [(.int .i64 r2),(.int .i64 r3)]),(.int .i64 r4)]))⟩
def yz0 (e:Es) (a0:yal) (a1:yaX) (a2:ycj) (a3:ydY):SE:=⟨(E e),yko [(ycD,yrn.pw a0),(ycK,yjp.pw a1),(ydT,yht.pw a2),(yeK,yx5.pw a3)],ykp [(ygz,ykv)],lp0,fun _=>none⟩
theorem yz1 (e:Es) (a0 a1 a2 a3):EqW (yz0 e a0 a1 a2 a3) 6 yBX yrs (ylx a0 a1 a2 a3):=fun _ _=>by kernel_rfl
theorem yrt (e:Es) (he:EG e):OkF (E e) (yrs.pw ybH) yjd:=okU he (yz1 e _ _ _ _) (yas (Sub.uni _) ⟨(yc9 e he),(yf3 e he),(yox e he),(yg3 e he),trivial⟩ ⟨⟨by kernel_rfl,by kernel_rfl,rfl,fun az=>ybo (by kernel_rfl) az,he.num _ (by kernel_rfl),by kernel_rfl,(yan (by kernel_rfl))⟩,trivial⟩ he.ok) ymP.flat (yan (by kernel_rfl))
def yfp (a0:ybz) (p0 p1:Ls) (p2 p3 p4 p5 p6:Int) (K:Int→Int→Int→Prop):Prop :=
 (asr (decide ((0:Int)≤p2))
 (asr (decide (p2<(((List.length p0):Nat):Int)))
 (asr (conf zK (List.getD p0 (p2.toNat) .nils))
 (a0 (yaa (yac (List.getD p0 (p2.toNat) .nils) 0)) (ya6 (yac (List.getD p0 (p2.toNat) .nils) 1)) (ya6 (yac (List.getD p0 (p2.toNat) .nils) 2)) p3 p4 p5 p6 (fun a b c =>
 (K a b c))))))
def yf4:ycj:=yfp yfD
def yp4 (e:Es) (a0:ybz):SE:=sE (E e) [(yje,yj1.pw a0)] lp0
theorem yp5 (e:Es) (a0):EqW (yp4 e a0) 6 yq5 yht (yfp a0):=fun _ _=>by kernel_rfl
theorem yp6 (e:Es) (he:EG e):OkF (E e) (yht.pw yf4) yeg:=okU he (yp5 e _) (yas (Sub.uni _) ⟨(yrm e he),trivial⟩ trivial he.ok) ymP.flat (yan (by kernel_rfl))
def ynh (a0:yal) (a1:yaX) (a2:ycj) (a3:ydY) (p0 p1:Ls) (p2 p3 p4 p5 p6:Int) (K:Ls→Ls→Int→Int→Int→Prop):Prop :=
 (a0 p0 p1 (fun c =>
 (cbr (c !=(0:Int))
 (K ([]:Ls) ([]:Ls) (0:Int) (0:Int) c)
 (a1 p0 p1 p2 (fun f =>
 (cbr (!f)
 (K ([]:Ls) ([]:Ls) (0:Int) (0:Int) (2:Int))
 (a2 p0 p1 p2 p3 p4 p5 p6 (fun a b d =>
 (cbr (d !=(0:Int))
 (K ([]:Ls) ([]:Ls) (0:Int) (0:Int) d)
 (cbr (decide ((((List.length p1):Nat):Int)≥(2000:Int)))
 (K ([]:Ls) ([]:Ls) (0:Int) (0:Int) (4:Int))
 (asr (decide ((0:Int)≤(IntKind.i64.wrap ((((List.length p1):Nat):Int)+(1:Int)))))
 (asr (decide ((((IntKind.i64.wrap ((((List.length p1):Nat):Int)+(1:Int))).toNat)+64)*(64+1)≤room))
 (a3 p0 (fun e =>
 (asr (ydq 8 p1)
 (asr (decide ((List.length (List.replicate ((IntKind.i64.wrap ((((List.length p1):Nat):Int)+(1:Int))).toNat) ((.agg [(.int .i64 (0)),(.int .u8 (0)),(.int .i64 (0)),(.int .i64 (0)),(.int .i64 (0)),(.int .i64 (0)),(.int .i64 (0)),(.int .i64 (0))]):PV)))=((IntKind.i64.wrap ((((List.length p1):Nat):Int)+(1:Int))).toNat)))
 (asr (decide (0≤((IntKind.i64.wrap ((((List.length p1):Nat):Int)+(1:Int))).toNat)))
 (cbr (List.isEmpty p1)
 (asr (decide ((List.length (List.replicate ((IntKind.i64.wrap ((((List.length p1):Nat):Int)+(1:Int))).toNat) ((.agg [(.int .i64 (0)),(.int .u8 (0)),(.int .i64 (0)),(.int .i64 (0)),(.int .i64 (0)),(.int .i64 (0)),(.int .i64 (0)),(.int .i64 (0))]):PV)))=((IntKind.i64.wrap ((((List.length p1):Nat):Int)+(1:Int))).toNat)))
 (asr (decide (0≤((IntKind.i64.wrap ((((List.length p1):Nat):Int)+(1:Int))).toNat)))
 (asr (decide (1≤((IntKind.i64.wrap ((((List.length p1):Nat):Int)+(1:Int))).toNat)))
 (asr (decide ((List.length (([(.agg [(.int .i64 p2),(.int .u8 (2:Int)),(.int .i64 p3),(.int .i64 p4),(.int .i64 p5),(.int .i64 p6),(.int .i64 a),(.int .i64 b)])]:Ls)++(List.drop 1 (List.replicate ((IntKind.i64.wrap ((((List.length p1):Nat):Int)+(1:Int))).toNat) ((.agg [(.int .i64 (0)),(.int .u8 (0)),(.int .i64 (0)),(.int .i64 (0)),(.int .i64 (0)),(.int .i64 (0)),(.int .i64 (0)),(.int .i64 (0))]):PV)))))=((IntKind.i64.wrap ((((List.length p1):Nat):Int)+(1:Int))).toNat)))
 (asr (decide (1≤((IntKind.i64.wrap ((((List.length p1):Nat):Int)+(1:Int))).toNat)))
 (K e (List.take 1 (([(.agg [(.int .i64 p2),(.int .u8 (2:Int)),(.int .i64 p3),(.int .i64 p4),(.int .i64 p5),(.int .i64 p6),(.int .i64 a),(.int .i64 b)])]:Ls)++(List.drop 1 (List.replicate ((IntKind.i64.wrap ((((List.length p1):Nat):Int)+(1:Int))).toNat) ((.agg [(.int .i64 (0)),(.int .u8 (0)),(.int .i64 (0)),(.int .i64 (0)),(.int .i64 (0)),(.int .i64 (0)),(.int .i64 (0)),(.int .i64 (0))]):PV))))) a b (0:Int)))))))
 (asr (decide ((0+(List.length p1))≤((IntKind.i64.wrap ((((List.length p1):Nat):Int)+(1:Int))).toNat)))
 (asr (decide ((List.length (p1++(List.drop (0+(List.length p1)) (List.replicate ((IntKind.i64.wrap ((((List.length p1):Nat):Int)+(1:Int))).toNat) ((.agg [(.int .i64 (0)),(.int .u8 (0)),(.int .i64 (0)),(.int .i64 (0)),(.int .i64 (0)),(.int .i64 (0)),(.int .i64 (0)),(.int .i64 (0))]):PV)))))=((IntKind.i64.wrap ((((List.length p1):Nat):Int)+(1:Int))).toNat)))
 (asr (decide ((0+(0+(List.length p1)))≤((IntKind.i64.wrap ((((List.length p1):Nat):Int)+(1:Int))).toNat)))
 (asr (decide (((0+(List.length p1))+1)≤((IntKind.i64.wrap ((((List.length p1):Nat):Int)+(1:Int))).toNat)))
 (asr (decide ((List.length ((List.take (0+(0+(List.length p1))) (p1++(List.drop (0+(List.length p1)) (List.replicate ((IntKind.i64.wrap ((((List.length p1):Nat):Int)+(1:Int))).toNat) ((.agg [(.int .i64 (0)),(.int .u8 (0)),(.int .i64 (0)),(.int .i64 (0)),(.int .i64 (0)),(.int .i64 (0)),(.int .i64 (0)),(.int .i64 (0))]):PV)))))++(([(.agg [(.int .i64 p2),(.int .u8 (2:Int)),(.int .i64 p3),(.int .i64 p4),(.int .i64 p5),(.int .i64 p6),(.int .i64 a),(.int .i64 b)])]:Ls)++(List.drop ((0+(0+(List.length p1)))+1) (p1++(List.drop (0+(List.length p1)) (List.replicate ((IntKind.i64.wrap ((((List.length p1):Nat):Int)+(1:Int))).toNat) ((.agg [(.int .i64 (0)),(.int .u8 (0)),(.int .i64 (0)),(.int .i64 (0)),(.int .i64 (0)),(.int .i64 (0)),(.int .i64 (0)),(.int .i64 (0))]):PV))))))))=((IntKind.i64.wrap ((((List.length p1):Nat):Int)+(1:Int))).toNat)))
 (asr (decide ((0+((0+(List.length p1))+1))≤((IntKind.i64.wrap ((((List.length p1):Nat):Int)+(1:Int))).toNat)))
 (K e (List.take ((0+(List.length p1))+1) ((List.take (0+(0+(List.length p1))) (p1++(List.drop (0+(List.length p1)) (List.replicate ((IntKind.i64.wrap ((((List.length p1):Nat):Int)+(1:Int))).toNat) ((.agg [(.int .i64 (0)),(.int .u8 (0)),(.int .i64 (0)),(.int .i64 (0)),(.int .i64 (0)),(.int .i64 (0)),(.int .i64 (0)),(.int .i64 (0))]):PV)))))++(([(.agg [(.int .i64 p2),(.int .u8 (2:Int)),(.int .i64 p3),(.int .i64 p4),(.int .i64 p5),(.int .i64 p6),(.int .i64 a),(.int .i64 b)])]:Ls)++(List.drop ((0+(0+(List.length p1)))+1) (p1++(List.drop (0+(List.length p1)) (List.replicate ((IntKind.i64.wrap ((((List.length p1):Nat):Int)+(1:Int))).toNat) ((.agg [(.int .i64 (0)),(.int .u8 (0)),(.int .i64 (0)),(.int .i64 (0)),(.int .i64 (0)),(.int .i64 (0)),(.int .i64 (0)),(.int .i64 (0))]):PV)))))))) a b (0:Int))))))))))))))))))))))))))
def ybj:yfF:=ynh yaT ybi yf4 yda
def yCd (e:Es) (a0:yal) (a1:yaX) (a2:ycj) (a3:ydY):SE:=⟨(E e),yko [(ycD,yrn.pw a0),(ycK,yjp.pw a1),(yeg,yht.pw a2),(yeK,yx5.pw a3)],ykp [(ygz,ykv)],lp0,fun _=>none⟩
theorem yCe (e:Es) (a0 a1 a2 a3):EqW (yCd e a0 a1 a2 a3) 6 yDs yrs (ynh a0 a1 a2 a3):=fun _ _=>by kernel_rfl
theorem yt8 (e:Es) (he:EG e):OkF (E e) (yrs.pw ybj) yk6:=okU he (yCe e _ _ _ _) (yas (Sub.uni _) ⟨(yc9 e he),(yf3 e he),(yp6 e he),(yg3 e he),trivial⟩ ⟨⟨by kernel_rfl,by kernel_rfl,rfl,fun az=>ybo (by kernel_rfl) az,he.num _ (by kernel_rfl),by kernel_rfl,(yan (by kernel_rfl))⟩,trivial⟩ he.ok) ymP.flat (yan (by kernel_rfl))
set_option linter.unusedVariables false
theorem yx7 (p0:Ls) (p1:Ls) (r0:Int) (h:∀ K:Int→Prop,K r0→yaT p0 p1 K) (K:Int→Prop):yaT p0 p1 K=K r0 :=
 propext ⟨fun k=>detC (yc9 [] ybm) (az:=[(.agg [(.data p0),(.data p1)])]) (x:=(.int .i64 r0)) (fun K' k'=>h (fun r0=>K' (.int .i64 r0)) k') (K:=fun x=>match x with | (.int .i64 r0)=>K r0 | _=>False) k,h K⟩
theorem ywF (p0:Ls) (r0:Ls) (h:∀ K:Ls→Prop,K r0→yda p0 K) (K:Ls→Prop):yda p0 K=K r0 :=
 propext ⟨fun k=>detC (yg3 [] ybm) (az:=[(.data p0)]) (x:=(.data r0)) (fun K' k'=>h (fun r0=>K' (.data r0)) k') (K:=fun x=>match x with | (.data r0)=>K r0 | _=>False) k,h K⟩
theorem yx8 (p0:Ls) (p1:Ls) (p2:Int) (p3:Int) (p4:Int) (p5:Int) (p6:Int) (r0:Ls) (r1:Ls) (r2:Int) (r3:Int) (r4:Int) (h:∀ K:Ls→Ls→Int→Int→Int→Prop,K r0 r1 r2 r3 r4→ybH p0 p1 p2 p3 p4 p5 p6 K) (K:Ls→Ls→Int→Int→Int→Prop):ybH p0 p1 p2 p3 p4 p5 p6 K=K r0 r1 r2 r3 r4 :=
 propext ⟨fun k=>detC (yrt [] ybm) (az:=[(.agg [(.data p0),(.data p1)]),(.int .i64 p2),(.agg [(.int .i64 p3),(.int .i64 p4)]),(.agg [(.int .i64 p5),(.int .i64 p6)])]) (x:=(.tup [(.agg [(.data r0),(.data r1)]),(.agg [(.int .i64 r2),(.int .i64 r3)]),(.int .i64 r4)])) (fun K' k'=>h (fun r0 r1 r2 r3 r4=>K' (.tup [(.agg [(.data r0),(.data r1)]),(.agg [(.int .i64 r2),(.int .i64 r3)]),(.int .i64 r4)])) k') (K:=fun x=>match x with | (.tup [(.agg [(.data r0),(.data r1)]),(.agg [(.int .i64 r2),(.int .i64 r3)]),(.int .i64 r4)])=>K r0 r1 r2 r3 r4 | _=>False) k,h K⟩
theorem yz2 (p0:Ls) (p1:Ls) (p2:Int) (p3:Int) (p4:Int) (p5:Int) (p6:Int) (r0:Ls) (r1:Ls) (r2:Int) (r3:Int) (r4:Int) (h:∀ K:Ls→Ls→Int→Int→Int→Prop,K r0 r1 r2 r3 r4→ybj p0 p1 p2 p3 p4 p5 p6 K) (K:Ls→Ls→Int→Int→Int→Prop):ybj p0 p1 p2 p3 p4 p5 p6 K=K r0 r1 r2 r3 r4 :=
 propext ⟨fun k=>detC (yt8 [] ybm) (az:=[(.agg [(.data p0),(.data p1)]),(.int .i64 p2),(.agg [(.int .i64 p3),(.int .i64 p4)]),(.agg [(.int .i64 p5),(.int .i64 p6)])]) (x:=(.tup [(.agg [(.data r0),(.data r1)]),(.agg [(.int .i64 r2),(.int .i64 r3)]),(.int .i64 r4)])) (fun K' k'=>h (fun r0 r1 r2 r3 r4=>K' (.tup [(.agg [(.data r0),(.data r1)]),(.agg [(.int .i64 r2),(.int .i64 r3)]),(.int .i64 r4)])) k') (K:=fun x=>match x with | (.tup [(.agg [(.data r0),(.data r1)]),(.agg [(.int .i64 r2),(.int .i64 r3)]),(.int .i64 r4)])=>K r0 r1 r2 r3 r4 | _=>False) k,h K⟩
def yyU (p0:Int) (K:Int→Int→Prop):Prop :=
 (K p0 (1:Int))
def yco:yad:=yyU
def yFz (e:Es):SE:=sE (E e) [] lp0
theorem yFA (e:Es):EqW (yFz e) 6 yGF yjX yyU:=fun _ _=>by kernel_rfl
theorem yoc (e:Es) (he:EG e):OkF (E e) (yjX.pw yco) yil:=okU he (yFA e) (yas (Sub.uni _) trivial trivial he.ok) ymP.flat (yan (by kernel_rfl))
def yp7 (p0:Int) (K:Int→Prop):Prop :=
 (cbr (decide (p0<(0:Int)))
 (K (IntKind.u64.wrap ((IntKind.u64.wrap (IntKind.i64.wrap ((0:Int)-(IntKind.i64.wrap (p0+(1:Int))))))+(1:Int))))
 (K (IntKind.u64.wrap p0)))
def ygM:yae:=yp7
def yDL (e:Es):SE:=sE (E e) [] lp0
theorem yDM (e:Es):EqW (yDL e) 6 yFu yoN yp7:=fun _ _=>by kernel_rfl
theorem yly (e:Es) (he:EG e):OkF (E e) (yoN.pw ygM) ygA:=okU he (yDM e) (yas (Sub.uni _) trivial trivial he.ok) ymP.flat (yan (by kernel_rfl))
def yfb (x0:Int→Int→Bool→Prop):Nat→Int→Int→Prop
 | 0,_,_=>False
 | n+1,i0,i1 =>
 (cbr (i1 !=(0:Int))
 (asr (!(decide (i1=(0:Int))))
 (yfb x0 n i1 (Int.tmod i0 i1)))
 (x0 i0 i1 false))
def yp8 (p0 p1:Int) (K:Int→Prop):Prop :=
 (∃ n:Nat,yfb
 (fun a b c=>(K a))
 n p0 p1)
def ydy:yav:=yp8
def yx9 (Q:Qx):Int→Int→Bool→Prop:=(fun i0 i1 b2=>Q (.exit 0) [(0,.v (.int .u64 i0)),(1,.v (.int .u64 i1)),(6,.v (.bool b2))] [])
def yru (Q:Qx):List St:=[⟨pt5,yfb (yx9 Q)⟩]
def ywG:LP:=lpS [(16774900,yru)]
def yp9 (e:Es):SE:=sE (E e) [] (ywG)
theorem yt9 (e:Es) (he:EG e):SEOk (Uni (E e)) (yp9 e):=yas (Sub.uni _) trivial trivial he.ok
theorem ywH (e:Es):ybZ (yp9 e) 5 a ypM false (yru):=fun _=>⟨fun _=>by kernel_rfl,fun _ _=>by kernel_rfl,trivial⟩
theorem ywI (e:Es) (he:EG e):LpT (Uni (E e)) (ywG) [] 16774900 (.loop 16774900 ypM):=fun _ _ _=>yqU.st (Sub.uni _) (yaF (yt9 e he) 5) (YOk.no _ _) (yan (by kernel_rfl)) (ywH e _)
theorem yDN (e:Es):EqW (yp9 e) 6 yyR yq6 yp8:=fun _ _=>by kernel_rfl
theorem ylz (e:Es) (he:EG e):OkF (E e) (yq6.pw ydy) yh2:=okU he (yDN e) (yt9 e he) ymP.flat (ya5 (l:=[(16774900,.loop 16774900 ypM)]) ⟨ywI e he,trivial⟩ (by kernel_rfl))
def ylA (a0:yae) (a1:yav) (p0 p1:Int) (K:Int→Prop):Prop :=
 (cbr (decide (p1<(1:Int)))
 (K (8:Int))
 (cbr (decide (p1>(1000000000000000000:Int)))
 (K (8:Int))
 (cbr (decide (p0<(-1000000000000000000:Int)))
 (K (8:Int))
 (cbr (decide (p0>(1000000000000000000:Int)))
 (K (8:Int))
 (a0 p0 (fun a =>
 (a1 a (IntKind.u64.wrap p1) (fun b =>
 (cbr (b !=(1:Int))
 (K (8:Int))
 (K (0:Int)))))))))))
def ycp:yav:=ylA ygM ydy
def yz3 (e:Es) (a0:yae) (a1:yav):SE:=sE (E e) [(ygA,yoN.pw a0),(yh2,yq6.pw a1)] lp0
theorem yz4 (e:Es) (a0 a1):EqW (yz3 e a0 a1) 6 yB1 ymX (ylA a0 a1):=fun _ _=>by kernel_rfl
theorem ylB (e:Es) (he:EG e):OkF (E e) (ymX.pw ycp) yfA:=okU he (yz4 e _ _) (yas (Sub.uni _) ⟨(yly e he),(ylz e he),trivial⟩ trivial he.ok) ymP.flat (yan (by kernel_rfl))
def ylC (p0 p1:Int) (K:Int→Int→Prop):Prop :=
 (K (IntKind.u64.wrap ((IntKind.u64.wrap ((IntKind.u64.wrap ((Int.fdiv p0 4294967296)*(Int.fdiv p1 4294967296)))+(Int.fdiv (IntKind.u64.wrap ((Int.fdiv p0 4294967296)*(IntKind.u64.wrap (BitVec.ofInt IntKind.u64.bits p1&&&BitVec.ofInt IntKind.u64.bits (4294967295:Int)).toNat))) 4294967296)))+(Int.fdiv (IntKind.u64.wrap ((IntKind.u64.wrap ((IntKind.u64.wrap (BitVec.ofInt IntKind.u64.bits (IntKind.u64.wrap ((Int.fdiv p0 4294967296)*(IntKind.u64.wrap (BitVec.ofInt IntKind.u64.bits p1&&&BitVec.ofInt IntKind.u64.bits (4294967295:Int)).toNat)))&&&BitVec.ofInt IntKind.u64.bits (4294967295:Int)).toNat)+(IntKind.u64.wrap ((IntKind.u64.wrap (BitVec.ofInt IntKind.u64.bits p0&&&BitVec.ofInt IntKind.u64.bits (4294967295:Int)).toNat)*(Int.fdiv p1 4294967296)))))+(Int.fdiv (IntKind.u64.wrap ((IntKind.u64.wrap (BitVec.ofInt IntKind.u64.bits p0&&&BitVec.ofInt IntKind.u64.bits (4294967295:Int)).toNat)*(IntKind.u64.wrap (BitVec.ofInt IntKind.u64.bits p1&&&BitVec.ofInt IntKind.u64.bits (4294967295:Int)).toNat))) 4294967296))) 4294967296))) (IntKind.u64.wrap (BitVec.ofInt IntKind.u64.bits (IntKind.u64.wrap ((IntKind.u64.wrap ((IntKind.u64.wrap ((IntKind.u64.wrap (BitVec.ofInt IntKind.u64.bits (IntKind.u64.wrap ((Int.fdiv p0 4294967296)*(IntKind.u64.wrap (BitVec.ofInt IntKind.u64.bits p1&&&BitVec.ofInt IntKind.u64.bits (4294967295:Int)).toNat)))&&&BitVec.ofInt IntKind.u64.bits (4294967295:Int)).toNat)+(IntKind.u64.wrap ((IntKind.u64.wrap (BitVec.ofInt IntKind.u64.bits p0&&&BitVec.ofInt IntKind.u64.bits (4294967295:Int)).toNat)*(Int.fdiv p1 4294967296)))))+(Int.fdiv (IntKind.u64.wrap ((IntKind.u64.wrap (BitVec.ofInt IntKind.u64.bits p0&&&BitVec.ofInt IntKind.u64.bits (4294967295:Int)).toNat)*(IntKind.u64.wrap (BitVec.ofInt IntKind.u64.bits p1&&&BitVec.ofInt IntKind.u64.bits (4294967295:Int)).toNat))) 4294967296)))*(4294967296:Int)))|||BitVec.ofInt IntKind.u64.bits (IntKind.u64.wrap (BitVec.ofInt IntKind.u64.bits (IntKind.u64.wrap ((IntKind.u64.wrap (BitVec.ofInt IntKind.u64.bits p0&&&BitVec.ofInt IntKind.u64.bits (4294967295:Int)).toNat)*(IntKind.u64.wrap (BitVec.ofInt IntKind.u64.bits p1&&&BitVec.ofInt IntKind.u64.bits (4294967295:Int)).toNat)))&&&BitVec.ofInt IntKind.u64.bits (4294967295:Int)).toNat)).toNat))
def ydJ:ybR:=ylC
def yz5:Sg:=⟨pt4,Int→Int→Prop,fun K=>(fun r0 r1=>K (.agg [(.int .u64 r0),(.int .u64 r1)]))⟩
def yz6 (e:Es):SE:=sE (E e) [] lp0
theorem yz7 (e:Es):EqW (yz6 e) 6 yB2 yz5 ylC:=fun _ _=>by kernel_rfl
theorem ylD (e:Es) (he:EG e):OkF (E e) (yz5.pw ydJ) yfB:=okU he (yz7 e) (yas (Sub.uni _) trivial trivial he.ok) ymP.flat (yan (by kernel_rfl))
def yni (p0 p1 p2 p3:Int) (K:Bool→Prop):Prop :=
 (cbr (decide (p0<p2))
 (K true)
 (cbr (p0 == p2)
 (K (decide (p1<p3)))
 (K false)))
def yiA:yay:=yni
def pt20:LPt:=lC (vA pt4) (lC (vA pt4) lN)
def yCf:Sg:=⟨pt20,Bool→Prop,fun K=>(fun r0=>K (.bool r0))⟩
def yCg (e:Es):SE:=sE (E e) [] lp0
theorem yCh (e:Es):EqW (yCg e) 6 yDt yCf yni:=fun _ _=>by kernel_rfl
theorem yua (e:Es) (he:EG e):OkF (E e) (yCf.pw yiA) yim:=okU he (yCh e) (yas (Sub.uni _) trivial trivial he.ok) ymP.flat (yan (by kernel_rfl))
def ynj (a0:yae) (a1:ybR) (a2:yay) (p0 p1 p2 p3:Int) (K:Bool→Prop):Prop :=
 (cbr ((decide (p0<(0:Int))) !=(decide (p2<(0:Int))))
 (K (decide (p0<(0:Int))))
 (a0 p0 (fun e =>
 (a1 e (IntKind.u64.wrap p3) (fun a b =>
 (a0 p2 (fun f =>
 (a1 f (IntKind.u64.wrap p1) (fun c d =>
 (cbr (decide (p0<(0:Int)))
 (a2 c d a b (fun g =>
 (K g)))
 (a2 a b c d (fun h =>
 (K h)))))))))))))
def yaV:yay:=ynj ygM ydJ yiA
def yCi (e:Es) (a0:yae) (a1:ybR) (a2:yay):SE:=sE (E e) [(ygA,yoN.pw a0),(yfB,yz5.pw a1),(yim,yCf.pw a2)] lp0
theorem yCj (e:Es) (a0 a1 a2):EqW (yCi e a0 a1 a2) 6 yDu yrh (ynj a0 a1 a2):=fun _ _=>by kernel_rfl
theorem yfG (e:Es) (he:EG e):OkF (E e) (yrh.pw yaV) ydU:=okU he (yCj e _ _ _) (yas (Sub.uni _) ⟨(yly e he),(ylD e he),(yua e he),trivial⟩ trivial he.ok) ymP.flat (yan (by kernel_rfl))
def ynk (a0:yav) (p0 p1 p2 p3:Int) (K:Int→Prop):Prop :=
 (a0 p0 p1 (fun a =>
 (cbr (a !=(0:Int))
 (a0 p0 p1 (fun b =>
 (K b)))
 (a0 p2 p3 (fun c =>
 (K c))))))
def ygN:yaf:=ynk ycp
def yCk (e:Es) (a0:yav):SE:=sE (E e) [(yfA,ymX.pw a0)] lp0
theorem yCl (e:Es) (a0):EqW (yCk e a0) 6 yDv yiw (ynk a0):=fun _ _=>by kernel_rfl
theorem ynl (e:Es) (he:EG e):OkF (E e) (yiw.pw ygN) ygB:=okU he (yCl e _) (yas (Sub.uni _) ⟨(ylB e he),trivial⟩ trivial he.ok) ymP.flat (yan (by kernel_rfl))
def yqa (p0 p1:Int) (K:Int→Int→Prop):Prop :=
 (K (IntKind.i64.wrap ((0:Int)-p0)) p1)
def yod:ybR:=yqa
def yDO:Sg:=⟨pt8,Int→Int→Prop,fun K=>(fun r0 r1=>K (.agg [(.int .i64 r0),(.int .i64 r1)]))⟩
def yDP (e:Es):SE:=sE (E e) [] lp0
theorem yDQ (e:Es):EqW (yDP e) 6 yFv yDO yqa:=fun _ _=>by kernel_rfl
theorem yDR (e:Es) (he:EG e):OkF (E e) (yDO.pw yod) yoa:=okU he (yDQ e) (yas (Sub.uni _) trivial trivial he.ok) ymP.flat (yan (by kernel_rfl))
def ynm (p0 p1 p2 p3:Int) (K:Int→Int→Prop):Prop :=
 (cbr (decide ((IntKind.u64.wrap (p1+p3))<p1))
 (K (IntKind.u64.wrap ((IntKind.u64.wrap (p0+p2))+(1:Int))) (IntKind.u64.wrap (p1+p3)))
 (K (IntKind.u64.wrap (p0+p2)) (IntKind.u64.wrap (p1+p3))))
def ydg:yai:=ynm
def yub:Sg:=⟨pt20,Int→Int→Prop,fun K=>(fun r0 r1=>K (.agg [(.int .u64 r0),(.int .u64 r1)]))⟩
def yCm (e:Es):SE:=sE (E e) [] lp0
theorem yCn (e:Es):EqW (yCm e) 6 yDw yub ynm:=fun _ _=>by kernel_rfl
theorem yuc (e:Es) (he:EG e):OkF (E e) (yub.pw ydg) yin:=okU he (yCn e) (yas (Sub.uni _) trivial trivial he.ok) ymP.flat (yan (by kernel_rfl))
def yhP (p0 p1 p2 p3:Int) (K:Int→Int→Prop):Prop :=
 (cbr (decide (p1<p3))
 (K (IntKind.u64.wrap ((IntKind.u64.wrap (p0-p2))-(1:Int))) (IntKind.u64.wrap (p1-p3)))
 (K (IntKind.u64.wrap (p0-p2)) (IntKind.u64.wrap (p1-p3))))
def yfH:yai:=yhP
def yz8 (e:Es):SE:=sE (E e) [] lp0
theorem yz9 (e:Es):EqW (yz8 e) 6 yB5 yub yhP:=fun _ _=>by kernel_rfl
theorem yAa (e:Es) (he:EG e):OkF (E e) (yub.pw yfH) yjj:=okU he (yz9 e) (yas (Sub.uni _) trivial trivial he.ok) ymP.flat (yan (by kernel_rfl))
abbrev ynn:Type:=Int→Int→Int→(Int→Int→Int→Prop)→Prop
def ybr (a0:yai) (x0:Int→Int→Int→Int→Int→Int→Int→Int→Int→Bool→Prop):Nat→Int→Int→Int→Int→Int→Int→Int→Int→Int→Prop
 | 0,_,_,_,_,_,_,_,_,_=>False
 | n+1,i0,i1,i2,i3,i4,i5,i6,i7,i8 =>
 (cbr (decide (i8≥(0:Int)))
 (asr (!(decide ((IntKind.i64.wrap (BitVec.ofInt IntKind.i64.bits i8&&&BitVec.ofInt IntKind.i64.bits (63:Int)).toNat)<(0:Int))))
 (cbr (decide (i8≥(64:Int)))
 (asr (!(decide ((IntKind.i64.wrap (BitVec.ofInt IntKind.i64.bits i8&&&BitVec.ofInt IntKind.i64.bits (63:Int)).toNat)<(0:Int))))
 (a0 i5 i6 i5 i6 (fun a b =>
 (cbr (decide ((IntKind.u64.wrap (BitVec.ofInt IntKind.u64.bits (IntKind.u64.wrap (i7*(2:Int)))|||BitVec.ofInt IntKind.u64.bits (IntKind.u64.wrap (BitVec.ofInt IntKind.u64.bits (Int.fdiv i1 (2 ^ (min (IntKind.i64.wrap (BitVec.ofInt IntKind.i64.bits i8&&&BitVec.ofInt IntKind.i64.bits (63:Int)).toNat).toNat IntKind.u64.bits)))&&&BitVec.ofInt IntKind.u64.bits (1:Int)).toNat)).toNat)≥i0))
 (ybr a0 x0 n i0 i1 i2 i3 i4 a (IntKind.u64.wrap (BitVec.ofInt IntKind.u64.bits b|||BitVec.ofInt IntKind.u64.bits (1:Int)).toNat) (IntKind.u64.wrap ((IntKind.u64.wrap (BitVec.ofInt IntKind.u64.bits (IntKind.u64.wrap (i7*(2:Int)))|||BitVec.ofInt IntKind.u64.bits (IntKind.u64.wrap (BitVec.ofInt IntKind.u64.bits (Int.fdiv i1 (2 ^ (min (IntKind.i64.wrap (BitVec.ofInt IntKind.i64.bits i8&&&BitVec.ofInt IntKind.i64.bits (63:Int)).toNat).toNat IntKind.u64.bits)))&&&BitVec.ofInt IntKind.u64.bits (1:Int)).toNat)).toNat)-i0)) (IntKind.i64.wrap (i8-(1:Int))))
 (ybr a0 x0 n i0 i1 i2 i3 i4 a b (IntKind.u64.wrap (BitVec.ofInt IntKind.u64.bits (IntKind.u64.wrap (i7*(2:Int)))|||BitVec.ofInt IntKind.u64.bits (IntKind.u64.wrap (BitVec.ofInt IntKind.u64.bits (Int.fdiv i1 (2 ^ (min (IntKind.i64.wrap (BitVec.ofInt IntKind.i64.bits i8&&&BitVec.ofInt IntKind.i64.bits (63:Int)).toNat).toNat IntKind.u64.bits)))&&&BitVec.ofInt IntKind.u64.bits (1:Int)).toNat)).toNat) (IntKind.i64.wrap (i8-(1:Int))))))))
 (a0 i5 i6 i5 i6 (fun c d =>
 (cbr (decide ((IntKind.u64.wrap (BitVec.ofInt IntKind.u64.bits (IntKind.u64.wrap (i7*(2:Int)))|||BitVec.ofInt IntKind.u64.bits (IntKind.u64.wrap (BitVec.ofInt IntKind.u64.bits (Int.fdiv i2 (2 ^ (min (IntKind.i64.wrap (BitVec.ofInt IntKind.i64.bits i8&&&BitVec.ofInt IntKind.i64.bits (63:Int)).toNat).toNat IntKind.u64.bits)))&&&BitVec.ofInt IntKind.u64.bits (1:Int)).toNat)).toNat)≥i0))
 (ybr a0 x0 n i0 i1 i2 i3 i4 c (IntKind.u64.wrap (BitVec.ofInt IntKind.u64.bits d|||BitVec.ofInt IntKind.u64.bits (1:Int)).toNat) (IntKind.u64.wrap ((IntKind.u64.wrap (BitVec.ofInt IntKind.u64.bits (IntKind.u64.wrap (i7*(2:Int)))|||BitVec.ofInt IntKind.u64.bits (IntKind.u64.wrap (BitVec.ofInt IntKind.u64.bits (Int.fdiv i2 (2 ^ (min (IntKind.i64.wrap (BitVec.ofInt IntKind.i64.bits i8&&&BitVec.ofInt IntKind.i64.bits (63:Int)).toNat).toNat IntKind.u64.bits)))&&&BitVec.ofInt IntKind.u64.bits (1:Int)).toNat)).toNat)-i0)) (IntKind.i64.wrap (i8-(1:Int))))
 (ybr a0 x0 n i0 i1 i2 i3 i4 c d (IntKind.u64.wrap (BitVec.ofInt IntKind.u64.bits (IntKind.u64.wrap (i7*(2:Int)))|||BitVec.ofInt IntKind.u64.bits (IntKind.u64.wrap (BitVec.ofInt IntKind.u64.bits (Int.fdiv i2 (2 ^ (min (IntKind.i64.wrap (BitVec.ofInt IntKind.i64.bits i8&&&BitVec.ofInt IntKind.i64.bits (63:Int)).toNat).toNat IntKind.u64.bits)))&&&BitVec.ofInt IntKind.u64.bits (1:Int)).toNat)).toNat) (IntKind.i64.wrap (i8-(1:Int)))))))))
 (x0 i0 i1 i2 i3 i4 i5 i6 i7 i8 false))
def ylE (a0:yai) (p0 p1 p2:Int) (K:Int→Int→Int→Prop):Prop :=
 (∃ n:Nat,ybr a0
 (fun d e f g h a b c i j=>(K a b c))
 n p2 p0 p1 (0:Int) (0:Int) (0:Int) (0:Int) (0:Int) (127:Int))
def ydb:ynn:=ylE ydg
def yAb:Sg:=⟨(lC (vA pt4) pt3),Int→Int→Int→Prop,fun K=>(fun r0 r1 r2=>K (.tup [(.agg [(.int .u64 r0),(.int .u64 r1)]),(.int .u64 r2)]))⟩
def yuL (Q:Qx):Int→Int→Int→Int→Int→Int→Int→Int→Int→Bool→Prop:=(fun i0 i1 i2 i3 i4 i5 i6 i7 i8 b9=>Q (.exit 0) [(1,.v (.int .u64 i0)),(2,.box (.agg [(.int .u64 i1),(.int .u64 i2)])),(4,.box (.agg [(.int .u64 i3),(.int .u64 i4)])),(6,.box (.agg [(.int .u64 i5),(.int .u64 i6)])),(7,.v (.int .u64 i7)),(8,.v (.int .i64 i8)),(11,.v (.bool b9))] [])
def yno (a0:yai) (Q:Qx):List St:=[⟨(pS hN (fV 1 pt2 (fX 2 (vA pt4) (fX 4 (vA pt4) (fX 6 (vA pt4) (fV 7 pt2 (fV 8 pt0 fN)))))) fN),ybr a0 (yuL Q)⟩]
def yrv (a0:yai):LP:=lpS [(22549700,yno a0)]
def ylF (e:Es) (a0:yai):SE:=sE (E e) [(yin,yub.pw a0)] (yrv a0)
theorem yo3 (e:Es) (he:EG e):SEOk (Uni (E e)) (ylF e ydg):=yas (Sub.uni _) ⟨(yuc e he),trivial⟩ trivial he.ok
theorem yti (e:Es) (a0):ybZ (ylF e a0) 5 a ypN false (yno a0):=fun _=>⟨fun _=>by kernel_rfl,fun _ _=>by kernel_rfl,trivial⟩
theorem ytj (e:Es) (he:EG e):LpT (Uni (E e)) (yrv ydg) [] 22549700 (.loop 22549700 ypN):=fun _ _ _=>yqU.st (Sub.uni _) (yaF (yo3 e he) 5) (YOk.no _ _) (yan (by kernel_rfl)) (yti e _ _)
theorem yAc (e:Es) (a0):EqW (ylF e a0) 6 yt6 yAb (ylE a0):=fun _ _=>by kernel_rfl
theorem yrw (e:Es) (he:EG e):OkF (E e) (yAb.pw ydb) yjk:=okU he (yAc e _) (yo3 e he) ymP.flat (ya5 (l:=[(22549700,.loop 22549700 ypN)]) ⟨ytj e he,trivial⟩ (by kernel_rfl))
abbrev yiB:Type:=Bool→Int→Int→Int→Int→(Int→Int→Int→Prop)→Prop
def ynp (p0:Bool) (p1 p2 p3 p4:Int) (K:Int→Int→Int→Prop):Prop :=
 (cbr (decide (p1>(0:Int)))
 (K (0:Int) (0:Int) (16:Int))
 (cbr (decide (p3>(0:Int)))
 (K (0:Int) (0:Int) (16:Int))
 (cbr (decide (p2>(1000000000000000000:Int)))
 (K (0:Int) (0:Int) (16:Int))
 (cbr (decide (p4>(1000000000000000000:Int)))
 (K (0:Int) (0:Int) (16:Int))
 (cbr p0
 (K (IntKind.i64.wrap ((0:Int)-(IntKind.i64.wrap p2))) (IntKind.i64.wrap p4) (0:Int))
 (K (IntKind.i64.wrap p2) (IntKind.i64.wrap p4) (0:Int)))))))
def ygO:yiB:=ynp
def yCo:Sg:=⟨(lC vB pt20),Int→Int→Int→Prop,fun K=>(fun r0 r1 r2=>K (.tup [(.agg [(.int .i64 r0),(.int .i64 r1)]),(.int .i64 r2)]))⟩
def yCp (e:Es):SE:=sE (E e) [] lp0
theorem yCq (e:Es):EqW (yCp e) 6 yDx yCo ynp:=fun _ _=>by kernel_rfl
theorem yud (e:Es) (he:EG e):OkF (E e) (yCo.pw ygO) yio:=okU he (yCq e) (yas (Sub.uni _) trivial trivial he.ok) ymP.flat (yan (by kernel_rfl))
def yqb (a0:yaf) (a1:yav) (a2:yae) (a3:ybR) (a4:yai) (a5:yai) (a6:yay) (a7:ynn) (a8:yiB) (p0 p1 p2 p3:Int) (K:Int→Int→Int→Prop):Prop :=
 (a0 p0 p1 p2 p3 (fun o =>
 (cbr (o !=(0:Int))
 (a0 p0 p1 p2 p3 (fun p =>
 (K (0:Int) (0:Int) p)))
 (a1 (IntKind.u64.wrap p1) (IntKind.u64.wrap p3) (fun a =>
 (a2 p0 (fun q =>
 (asr (!(decide (a=(0:Int))))
 (a3 q (IntKind.u64.wrap (Int.tdiv (IntKind.u64.wrap p3) a)) (fun b c =>
 (a2 p2 (fun r =>
 (asr (!(decide (a=(0:Int))))
 (a3 r (IntKind.u64.wrap (Int.tdiv (IntKind.u64.wrap p1) a)) (fun d e =>
 (a4 b c d e (fun f g =>
 (cbr ((decide (p0<(0:Int))) !=(decide (p2<(0:Int))))
 (a5 b c d e (fun h i =>
 (a6 b c d e (fun s =>
 (cbr s
 (a5 d e b c (fun j k =>
 (cbr ((j ==(0:Int))&&((k ==(0:Int))&&true))
 (K (0:Int) (1:Int) (0:Int))
 (a7 j k a (fun T U t =>
 (a1 t a (fun l =>
 (a7 j k l (fun u v V =>
 (asr (!(decide (a=(0:Int))))
 (asr (!(decide (l=(0:Int))))
 (a3 (IntKind.u64.wrap (Int.tdiv (IntKind.u64.wrap p1) a)) (IntKind.u64.wrap (Int.tdiv (IntKind.u64.wrap p3) l)) (fun w x =>
 (a8 (decide (p2<(0:Int))) u v w x (fun y z A =>
 (K y z A))))))))))))))))
 (cbr ((h ==(0:Int))&&((i ==(0:Int))&&true))
 (K (0:Int) (1:Int) (0:Int))
 (a7 h i a (fun W X B =>
 (a1 B a (fun m =>
 (a7 h i m (fun C D Y =>
 (asr (!(decide (a=(0:Int))))
 (asr (!(decide (m=(0:Int))))
 (a3 (IntKind.u64.wrap (Int.tdiv (IntKind.u64.wrap p1) a)) (IntKind.u64.wrap (Int.tdiv (IntKind.u64.wrap p3) m)) (fun E F =>
 (a8 (decide (p0<(0:Int))) C D E F (fun G H I =>
 (K G H I)))))))))))))))))))
 (cbr ((f ==(0:Int))&&((g ==(0:Int))&&true))
 (K (0:Int) (1:Int) (0:Int))
 (a7 f g a (fun Z va J =>
 (a1 J a (fun n =>
 (a7 f g n (fun L M vb =>
 (asr (!(decide (a=(0:Int))))
 (asr (!(decide (n=(0:Int))))
 (a3 (IntKind.u64.wrap (Int.tdiv (IntKind.u64.wrap p1) a)) (IntKind.u64.wrap (Int.tdiv (IntKind.u64.wrap p3) n)) (fun N O =>
 (a8 (decide (p0<(0:Int))) L M N O (fun Q R S =>
 (K Q R S))))))))))))))))))))))))))))))))
def yfI:yaj:=yqb ygN ydy ygM ydJ ydg yfH yiA ydb ygO
def yDS (e:Es) (a0:yaf) (a1:yav) (a2:yae) (a3:ybR) (a4:yai) (a5:yai) (a6:yay) (a7:ynn) (a8:yiB):SE:=sE (E e) [(ygB,yiw.pw a0),(yh2,yq6.pw a1),(ygA,yoN.pw a2),(yfB,yz5.pw a3),(yin,yub.pw a4),(yjj,yub.pw a5),(yim,yCf.pw a6),(yjk,yAb.pw a7),(yio,yCo.pw a8)] lp0
theorem yDT (e:Es) (a0 a1 a2 a3 a4 a5 a6 a7 a8):EqW (yDS e a0 a1 a2 a3 a4 a5 a6 a7 a8) 6 yFw ydW (yqb a0 a1 a2 a3 a4 a5 a6 a7 a8):=fun _ _=>by kernel_rfl
theorem ywJ (e:Es) (he:EG e):OkF (E e) (ydW.pw yfI) yks:=okU he (yDT e _ _ _ _ _ _ _ _ _) (yas (Sub.uni _) ⟨(ynl e he),(ylz e he),(yly e he),(ylD e he),(yuc e he),(yAa e he),(yua e he),(yrw e he),(yud e he),trivial⟩ trivial he.ok) ymP.flat (yan (by kernel_rfl))
def yqc (a0:yaf) (a1:ybR) (a2:yaj) (p0 p1 p2 p3:Int) (K:Int→Int→Int→Prop):Prop :=
 (a0 p0 p1 p2 p3 (fun a =>
 (cbr (a !=(0:Int))
 (a0 p0 p1 p2 p3 (fun b =>
 (K (0:Int) (0:Int) b)))
 (a1 p2 p3 (fun c d =>
 (a2 p0 p1 c d (fun e f g =>
 (K e f g))))))))
def yoe:yaj:=yqc ygN yod yfI
def yDU (e:Es) (a0:yaf) (a1:ybR) (a2:yaj):SE:=sE (E e) [(ygB,yiw.pw a0),(yoa,yDO.pw a1),(yks,ydW.pw a2)] lp0
theorem yDV (e:Es) (a0 a1 a2):EqW (yDU e a0 a1 a2) 6 yFx ydW (yqc a0 a1 a2):=fun _ _=>by kernel_rfl
theorem yDW (e:Es) (he:EG e):OkF (E e) (ydW.pw yoe) yob:=okU he (yDV e _ _ _) (yas (Sub.uni _) ⟨(ynl e he),(yDR e he),(ywJ e he),trivial⟩ trivial he.ok) ymP.flat (yan (by kernel_rfl))
def ylG (a0:yaf) (a1:yae) (a2:yav) (a3:ybR) (a4:yiB) (p0 p1 p2 p3:Int) (K:Int→Int→Int→Prop):Prop :=
 (a0 p0 p1 p2 p3 (fun c =>
 (cbr (c !=(0:Int))
 (a0 p0 p1 p2 p3 (fun d =>
 (K (0:Int) (0:Int) d)))
 (a1 p0 (fun e =>
 (a2 e (IntKind.u64.wrap p3) (fun a =>
 (a1 p2 (fun f =>
 (a2 f (IntKind.u64.wrap p1) (fun b =>
 (cbr ((decide (p0<(0:Int))) !=(decide (p2<(0:Int))))
 (cbr (p0 !=(0:Int))
 (a1 p0 (fun g =>
 (asr (!(decide (a=(0:Int))))
 (a1 p2 (fun h =>
 (asr (!(decide (b=(0:Int))))
 (a3 (IntKind.u64.wrap (Int.tdiv g a)) (IntKind.u64.wrap (Int.tdiv h b)) (fun i j =>
 (asr (!(decide (b=(0:Int))))
 (asr (!(decide (a=(0:Int))))
 (a3 (IntKind.u64.wrap (Int.tdiv (IntKind.u64.wrap p1) b)) (IntKind.u64.wrap (Int.tdiv (IntKind.u64.wrap p3) a)) (fun k l =>
 (a4 (p2 !=(0:Int)) i j k l (fun m n o =>
 (K m n o)))))))))))))))
 (a1 p0 (fun p =>
 (asr (!(decide (a=(0:Int))))
 (a1 p2 (fun q =>
 (asr (!(decide (b=(0:Int))))
 (a3 (IntKind.u64.wrap (Int.tdiv p a)) (IntKind.u64.wrap (Int.tdiv q b)) (fun r s =>
 (asr (!(decide (b=(0:Int))))
 (asr (!(decide (a=(0:Int))))
 (a3 (IntKind.u64.wrap (Int.tdiv (IntKind.u64.wrap p1) b)) (IntKind.u64.wrap (Int.tdiv (IntKind.u64.wrap p3) a)) (fun t u =>
 (a4 false r s t u (fun v w x =>
 (K v w x))))))))))))))))
 (a1 p0 (fun y =>
 (asr (!(decide (a=(0:Int))))
 (a1 p2 (fun z =>
 (asr (!(decide (b=(0:Int))))
 (a3 (IntKind.u64.wrap (Int.tdiv y a)) (IntKind.u64.wrap (Int.tdiv z b)) (fun A B =>
 (asr (!(decide (b=(0:Int))))
 (asr (!(decide (a=(0:Int))))
 (a3 (IntKind.u64.wrap (Int.tdiv (IntKind.u64.wrap p1) b)) (IntKind.u64.wrap (Int.tdiv (IntKind.u64.wrap p3) a)) (fun C D =>
 (a4 false A B C D (fun E F G =>
 (K E F G)))))))))))))))))))))))))))
def ybn:yaj:=ylG ygN ygM ydy ydJ ygO
def yDX (e:Es) (a0:yaf) (a1:yae) (a2:yav) (a3:ybR) (a4:yiB):SE:=sE (E e) [(ygB,yiw.pw a0),(ygA,yoN.pw a1),(yh2,yq6.pw a2),(yfB,yz5.pw a3),(yio,yCo.pw a4)] lp0
theorem yDY (e:Es) (a0 a1 a2 a3 a4):EqW (yDX e a0 a1 a2 a3 a4) 6 yFy ydW (ylG a0 a1 a2 a3 a4):=fun _ _=>by kernel_rfl
theorem ywK (e:Es) (he:EG e):OkF (E e) (ydW.pw ybn) ykt:=okU he (yDY e _ _ _ _ _) (yas (Sub.uni _) ⟨(ynl e he),(yly e he),(ylz e he),(ylD e he),(yud e he),trivial⟩ trivial he.ok) ymP.flat (yan (by kernel_rfl))
set_option linter.unusedVariables false
theorem yCr (p0:Int) (p1:Int) (r0:Int) (h:∀ K:Int→Prop,K r0→ydy p0 p1 K) (K:Int→Prop):ydy p0 p1 K=K r0 :=
 propext ⟨fun k=>detC (ylz [] ybm) (az:=[(.int .u64 p0),(.int .u64 p1)]) (x:=(.int .u64 r0)) (fun K' k'=>h (fun r0=>K' (.int .u64 r0)) k') (K:=fun x=>match x with | (.int .u64 r0)=>K r0 | _=>False) k,h K⟩
theorem yya (p0:Int) (p1:Int) (p2:Int) (r0:Int) (r1:Int) (r2:Int) (h:∀ K:Int→Int→Int→Prop,K r0 r1 r2→ydb p0 p1 p2 K) (K:Int→Int→Int→Prop):ydb p0 p1 p2 K=K r0 r1 r2 :=
 propext ⟨fun k=>detC (yrw [] ybm) (az:=[(.agg [(.int .u64 p0),(.int .u64 p1)]),(.int .u64 p2)]) (x:=(.tup [(.agg [(.int .u64 r0),(.int .u64 r1)]),(.int .u64 r2)])) (fun K' k'=>h (fun r0 r1 r2=>K' (.tup [(.agg [(.int .u64 r0),(.int .u64 r1)]),(.int .u64 r2)])) k') (K:=fun x=>match x with | (.tup [(.agg [(.int .u64 r0),(.int .u64 r1)]),(.int .u64 r2)])=>K r0 r1 r2 | _=>False) k,h K⟩
abbrev yfJ:Type:=Int→Ls→Ls→(Bool→Prop)→Prop
def ylH (p0:Int) (p1 p2:Ls) (K:Bool→Prop):Prop :=
 (cbr (decide ((((List.length p1):Nat):Int)>(60:Int)))
 (K true)
 (K (decide ((((List.length p2):Nat):Int)>(60:Int)))))
def yey:yfJ:=ylH
def yAd:Sg:=⟨pt14,Bool→Prop,fun K=>(fun r0=>K (.bool r0))⟩
def yAe (e:Es):SE:=sE (E e) [] lp0
theorem yAf (e:Es):EqW (yAe e) 6 yBN yAd ylH:=fun _ _=>by kernel_rfl
theorem yAg (e:Es) (he:EG e):OkF (E e) (yAd.pw yey) yiX:=okU he (yAf e) (yas (Sub.uni _) trivial trivial he.ok) ymP.flat (yan (by kernel_rfl))
def ycx (x0:Int→Prop) (x1:Int→Ls→Ls→Bool→Int→Bool→Prop):Nat→Int→Ls→Ls→Bool→Int→Prop
 | 0,_,_,_,_,_=>False
 | n+1,i0,l1,l2,b3,i4 =>
 (cbr (decide (i4<(((List.length l2):Nat):Int)))
 (asr (decide ((0:Int)≤(IntKind.i64.wrap (i4+(1:Int)))))
 (asr (decide ((IntKind.i64.wrap (i4+(1:Int)))<(((List.length l1):Nat):Int)))
 (asr (conf zI (List.getD l1 ((IntKind.i64.wrap (i4+(1:Int))).toNat) .nils))
 (asr (decide ((0:Int)≤i4))
 (asr (decide (i4<(((List.length l1):Nat):Int)))
 (asr (conf zI (List.getD l1 (i4.toNat) .nils))
 (cbr (decide ((yaa (List.getD l1 ((IntKind.i64.wrap (i4+(1:Int))).toNat) .nils))≤(yaa (List.getD l1 (i4.toNat) .nils))))
 (x0 (8:Int))
 (asr (decide ((0:Int)≤i4))
 (asr (decide (i4<(((List.length l2):Nat):Int)))
 (asr (conf zI (List.getD l2 (i4.toNat) .nils))
 (cbr (decide ((yaa (List.getD l2 (i4.toNat) .nils))<(0:Int)))
 (x0 (8:Int))
 (asr (decide ((0:Int)≤i4))
 (asr (decide (i4<(((List.length l2):Nat):Int)))
 (asr (conf zI (List.getD l2 (i4.toNat) .nils))
 (cbr (decide ((yaa (List.getD l2 (i4.toNat) .nils))>(12:Int)))
 (x0 (8:Int))
 (cbr b3
 (ycx x0 x1 n i0 l1 l2 true (IntKind.i64.wrap (i4+(1:Int))))
 (asr (decide ((0:Int)≤i4))
 (asr (decide (i4<(((List.length l2):Nat):Int)))
 (asr (conf zI (List.getD l2 (i4.toNat) .nils))
 (ycx x0 x1 n i0 l1 l2 (decide ((yaa (List.getD l2 (i4.toNat) .nils))>(0:Int))) (IntKind.i64.wrap (i4+(1:Int)))))))))))))))))))))))
 (x1 i0 l1 l2 b3 i4 false))
def ylI (p0:Int) (p1 p2:Ls) (K:Int→Prop):Prop :=
 (cbr (decide (p0>(1000:Int)))
 (K (4:Int))
 (cbr (decide ((((List.length p1):Nat):Int)>(40:Int)))
 (K (4:Int))
 (cbr (decide (p0<(1:Int)))
 (K (8:Int))
 (cbr (decide ((((List.length p1):Nat):Int)<(2:Int)))
 (K (8:Int))
 (cbr ((((List.length p2):Nat):Int) !=(IntKind.i64.wrap ((((List.length p1):Nat):Int)-(1:Int))))
 (K (8:Int))
 (asr (decide ((0:Int)<(((List.length p1):Nat):Int)))
 (asr (conf zI (List.getD p1 0 .nils))
 (cbr ((yaa (List.getD p1 0 .nils)) !=(0:Int))
 (K (8:Int))
 (asr (decide ((0:Int)≤(IntKind.i64.wrap ((((List.length p1):Nat):Int)-(1:Int)))))
 (asr (decide ((IntKind.i64.wrap ((((List.length p1):Nat):Int)-(1:Int)))<(((List.length p1):Nat):Int)))
 (asr (conf zI (List.getD p1 ((IntKind.i64.wrap ((((List.length p1):Nat):Int)-(1:Int))).toNat) .nils))
 (cbr ((yaa (List.getD p1 ((IntKind.i64.wrap ((((List.length p1):Nat):Int)-(1:Int))).toNat) .nils)) != p0)
 (K (8:Int))
 (∃ n:Nat,ycx
 (fun a=>(K a))
 (fun c d e b f g=>(cbr (!b)
 (K (8:Int))
 (K (0:Int))))
 n p0 p1 p2 false (0:Int))))))))))))))
def ybw:yaw:=ylI
def yuM (Q:Qx):Int→Prop:=(fun i0=>Q .ret [(2,.v (.int .i64 i0))] [])
def yuN (Q:Qx):Int→Ls→Ls→Bool→Int→Bool→Prop:=(fun i0 l1 l2 b3 i4 b5=>Q (.exit 0) [(1,.box (.agg [(.int .i64 i0),(.data l1),(.data l2)])),(3,.v (.bool b3)),(4,.v (.int .i64 i4)),(57,.v (.bool b5))] [])
def ynq (Q:Qx):List St:=[⟨(pS hN (fX 1 pt13 (fV 3 vB (fV 4 pt0 fN))) fN),ycx (yuM Q) (yuN Q)⟩]
def yrx:LP:=lpS [(94526800,ynq)]
def ylJ (e:Es):SE:=sE (E e) [] (yrx)
theorem yo4 (e:Es) (he:EG e):SEOk (Uni (E e)) (ylJ e):=yas (Sub.uni _) trivial trivial he.ok
theorem ytk (e:Es):ybZ (ylJ e) 5 a ypn false (ynq):=fun _=>⟨fun _=>by kernel_rfl,fun _ _=>by kernel_rfl,trivial⟩
theorem ytl (e:Es) (he:EG e):LpT (Uni (E e)) (yrx) [] 94526800 (.loop 94526800 ypn):=fun _ _ _=>yqU.st (Sub.uni _) (yaF (yo4 e he) 5) (YOk.no _ _) (yan (by kernel_rfl)) (ytk e _)
theorem yAh (e:Es):EqW (ylJ e) 6 yt3 yoV ylI:=fun _ _=>by kernel_rfl
theorem ylK (e:Es) (he:EG e):OkF (E e) (yoV.pw ybw) yha:=okU he (yAh e) (yo4 e he) ymP.flat (ya5 (l:=[(94526800,.loop 94526800 ypn)]) ⟨ytl e he,trivial⟩ (by kernel_rfl))
abbrev yfK:Type:=Int→Int→Int→(Bool→Prop)→Prop
def ylL (a0:yav) (a1:yad) (a2:yay) (p0 p1 p2:Int) (K:Bool→Prop):Prop :=
 (a0 p1 p2 (fun a =>
 (cbr (a ==(0:Int))
 (cbr (decide (p1≥(0:Int)))
 (a1 p0 (fun b c =>
 (a2 b c p1 p2 (fun d =>
 (K (!d))))))
 (K false))
 (K false))))
def yez:yfK:=ylL ycp yco yaV
def yAi:Sg:=⟨(lC pt0 pt8),Bool→Prop,fun K=>(fun r0=>K (.bool r0))⟩
def yAj (e:Es) (a0:yav) (a1:yad) (a2:yay):SE:=sE (E e) [(yfA,ymX.pw a0),(yil,yjX.pw a1),(ydU,yrh.pw a2)] lp0
theorem yAk (e:Es) (a0 a1 a2):EqW (yAj e a0 a1 a2) 6 yB3 yAi (ylL a0 a1 a2):=fun _ _=>by kernel_rfl
theorem yAl (e:Es) (he:EG e):OkF (E e) (yAi.pw yez) yjh:=okU he (yAk e _ _ _) (yas (Sub.uni _) ⟨(ylB e he),(yoc e he),(yfG e he),trivial⟩ trivial he.ok) ymP.flat (yan (by kernel_rfl))
def ylM (a0:yay) (p0 p1 p2 p3:Int) (K:Int→Int→Prop):Prop :=
 (a0 p0 p1 p2 p3 (fun a =>
 (cbr a
 (K p2 p3)
 (K p0 p1))))
def yjq:yai:=ylM yaV
def yry:Sg:=⟨pt11,Int→Int→Prop,fun K=>(fun r0 r1=>K (.agg [(.int .i64 r0),(.int .i64 r1)]))⟩
def yAm (e:Es) (a0:yay):SE:=sE (E e) [(ydU,yrh.pw a0)] lp0
theorem yAn (e:Es) (a0):EqW (yAm e a0) 6 yB4 yry (ylM a0):=fun _ _=>by kernel_rfl
theorem yAo (e:Es) (he:EG e):OkF (E e) (yry.pw yjq) yji:=okU he (yAn e _) (yas (Sub.uni _) ⟨(yfG e he),trivial⟩ trivial he.ok) ymP.flat (yan (by kernel_rfl))
def yj7 (a0:yay) (p0 p1 p2 p3:Int) (K:Int→Int→Prop):Prop :=
 (a0 p0 p1 p2 p3 (fun a =>
 (cbr a
 (K p0 p1)
 (K p2 p3))))
def yhQ:yai:=yj7 yaV
def yyb (e:Es) (a0:yay):SE:=sE (E e) [(ydU,yrh.pw a0)] lp0
theorem yyc (e:Es) (a0):EqW (yyb e a0) 6 yzF yry (yj7 a0):=fun _ _=>by kernel_rfl
theorem yyd (e:Es) (he:EG e):OkF (E e) (yry.pw yhQ) yhI:=okU he (yyc e _) (yas (Sub.uni _) ⟨(yfG e he),trivial⟩ trivial he.ok) ymP.flat (yan (by kernel_rfl))
abbrev yfL:Type:=Int→Ls→Ls→Int→Int→Int→Int→Int→(Int→Int→Int→Prop)→Prop
def ylN (a0:yad) (a1:yai) (a2:yai) (a3:yay) (a4:yaj) (a5:yaj) (p0:Int) (p1 p2:Ls) (p3 p4 p5 p6 p7:Int) (K:Int→Int→Int→Prop):Prop :=
 (asr (decide ((0:Int)≤p3))
 (asr (decide (p3<(((List.length p1):Nat):Int)))
 (asr (conf zI (List.getD p1 (p3.toNat) .nils))
 (a0 (yaa (List.getD p1 (p3.toNat) .nils)) (fun f g =>
 (a1 p4 p5 f g (fun a b =>
 (asr (decide ((0:Int)≤(IntKind.i64.wrap (p3+(1:Int)))))
 (asr (decide ((IntKind.i64.wrap (p3+(1:Int)))<(((List.length p1):Nat):Int)))
 (asr (conf zI (List.getD p1 ((IntKind.i64.wrap (p3+(1:Int))).toNat) .nils))
 (a0 (yaa (List.getD p1 ((IntKind.i64.wrap (p3+(1:Int))).toNat) .nils)) (fun h i =>
 (a2 p6 p7 h i (fun c d =>
 (a3 a b c d (fun j =>
 (cbr (!j)
 (K (0:Int) (1:Int) (0:Int))
 (asr (decide ((0:Int)≤p3))
 (asr (decide (p3<(((List.length p2):Nat):Int)))
 (asr (conf zI (List.getD p2 (p3.toNat) .nils))
 (cbr ((yaa (List.getD p2 (p3.toNat) .nils)) ==(0:Int))
 (K (0:Int) (1:Int) (0:Int))
 (a4 c d a b (fun k l e =>
 (cbr (e !=(0:Int))
 (K (0:Int) (0:Int) e)
 (asr (decide ((0:Int)≤p3))
 (asr (decide (p3<(((List.length p2):Nat):Int)))
 (asr (conf zI (List.getD p2 (p3.toNat) .nils))
 (a0 (yaa (List.getD p2 (p3.toNat) .nils)) (fun m n =>
 (a5 k l m n (fun o p q =>
 (K o p q))))))))))))))))))))))))))))))))
def yeA:yfL:=ylN yco yjq yhQ yaV yoe ybn
def yAp:Sg:=⟨(lC pt13 (lC pt0 pt11)),Int→Int→Int→Prop,fun K=>(fun r0 r1 r2=>K (.tup [(.agg [(.int .i64 r0),(.int .i64 r1)]),(.int .i64 r2)]))⟩
def yAq (e:Es) (a0:yad) (a1:yai) (a2:yai) (a3:yay) (a4:yaj) (a5:yaj):SE:=sE (E e) [(yil,yjX.pw a0),(yji,yry.pw a1),(yhI,yry.pw a2),(ydU,yrh.pw a3),(yob,ydW.pw a4),(ykt,ydW.pw a5)] lp0
theorem yAr (e:Es) (a0 a1 a2 a3 a4 a5):EqW (yAq e a0 a1 a2 a3 a4 a5) 6 yB6 yAp (ylN a0 a1 a2 a3 a4 a5):=fun _ _=>by kernel_rfl
theorem yAs (e:Es) (he:EG e):OkF (E e) (yAp.pw yeA) yjl:=okU he (yAr e _ _ _ _ _ _) (yas (Sub.uni _) ⟨(yoc e he),(yAo e he),(yyd e he),(yfG e he),(yDW e he),(ywK e he),trivial⟩ trivial he.ok) ymP.flat (yan (by kernel_rfl))
def ycY (a0:yaw) (a1:yfK) (a2:yay) (a3:yfL) (a4:yaj) (x0:Int→Int→Int→Prop) (x1:Int→Ls→Ls→Int→Int→Int→Int→Int→Int→Int→Int→Int→Bool→Prop):Nat→Int→Ls→Ls→Int→Int→Int→Int→Int→Int→Int→Int→Int→Prop
 | 0,_,_,_,_,_,_,_,_,_,_,_,_=>False
 | n+1,i0,l1,l2,i3,i4,i5,i6,i7,i8,i9,i10,i11 =>
 (cbr (decide (i11<(((List.length l2):Nat):Int)))
 (a3 i0 l1 l2 i11 i3 i4 i5 i6 (fun c d a =>
 (cbr (a !=(0:Int))
 (x0 (0:Int) (0:Int) a)
 (a4 i9 i10 c d (fun e f b =>
 (cbr (b !=(0:Int))
 (x0 (0:Int) (0:Int) b)
 (ycY a0 a1 a2 a3 a4 x0 x1 n i0 l1 l2 i3 i4 i5 i6 i7 i8 e f (IntKind.i64.wrap (i11+(1:Int))))))))))
 (x1 i0 l1 l2 i3 i4 i5 i6 i7 i8 i9 i10 i11 false))
def ylO (a0:yaw) (a1:yfK) (a2:yay) (a3:yfL) (a4:yaj) (p0:Int) (p1 p2:Ls) (p3 p4 p5 p6:Int) (K:Int→Int→Int→Prop):Prop :=
 (a0 p0 p1 p2 (fun a =>
 (cbr (a !=(0:Int))
 (a0 p0 p1 p2 (fun b =>
 (K (0:Int) (0:Int) b)))
 (a1 p0 p3 p4 (fun c =>
 (cbr (!c)
 (K (0:Int) (0:Int) (2:Int))
 (a1 p0 p5 p6 (fun d =>
 (cbr (!d)
 (K (0:Int) (0:Int) (2:Int))
 (a2 p5 p6 p3 p4 (fun e =>
 (cbr e
 (K (0:Int) (0:Int) (2:Int))
 (∃ n:Nat,ycY a0 a1 a2 a3 a4
 (fun f g h=>(K f g h))
 (fun k l m o p q r s t i j u v=>(K i j (0:Int)))
 n p0 p1 p2 p3 p4 p5 p6 (0:Int) (0:Int) (0:Int) (1:Int) (0:Int))))))))))))))
def ya7:ybz:=ylO ybw yez yaV yeA yfI
def yuO (Q:Qx):Int→Int→Int→Prop:=(fun i0 i1 i2=>Q .ret [(6,.box (.agg [(.int .i64 i0),(.int .i64 i1)])),(7,.v (.int .i64 i2))] [])
def yuP (Q:Qx):Int→Ls→Ls→Int→Int→Int→Int→Int→Int→Int→Int→Int→Bool→Prop:=(fun i0 l1 l2 i3 i4 i5 i6 i7 i8 i9 i10 i11 b12=>Q (.exit 0) [(3,.box (.agg [(.int .i64 i0),(.data l1),(.data l2)])),(4,.box (.agg [(.int .i64 i3),(.int .i64 i4)])),(5,.box (.agg [(.int .i64 i5),(.int .i64 i6)])),(6,.box (.agg [(.int .i64 i7),(.int .i64 i8)])),(8,.box (.agg [(.int .i64 i9),(.int .i64 i10)])),(9,.v (.int .i64 i11)),(41,.v (.bool b12))] [])
def ynr (a0:yaw) (a1:yfK) (a2:yay) (a3:yfL) (a4:yaj) (Q:Qx):List St:=[⟨(pS hN (fX 3 pt13 (fX 4 pt7 (fX 5 pt7 (fX 6 pt7 (fX 8 pt7 (fV 9 pt0 fN)))))) fN),ycY a0 a1 a2 a3 a4 (yuO Q) (yuP Q)⟩]
def yrz (a0:yaw) (a1:yfK) (a2:yay) (a3:yfL) (a4:yaj):LP:=lpS [(92446900,ynr a0 a1 a2 a3 a4)]
def ylP (e:Es) (a0:yaw) (a1:yfK) (a2:yay) (a3:yfL) (a4:yaj):SE:=sE (E e) [(yha,yoV.pw a0),(yjh,yAi.pw a1),(ydU,yrh.pw a2),(yjl,yAp.pw a3),(yks,ydW.pw a4)] (yrz a0 a1 a2 a3 a4)
theorem yo5 (e:Es) (he:EG e):SEOk (Uni (E e)) (ylP e ybw yez yaV yeA yfI):=yas (Sub.uni _) ⟨(ylK e he),(yAl e he),(yfG e he),(yAs e he),(ywJ e he),trivial⟩ trivial he.ok
theorem ytm (e:Es) (a0 a1 a2 a3 a4):ybZ (ylP e a0 a1 a2 a3 a4) 5 a ypO false (ynr a0 a1 a2 a3 a4):=fun _=>⟨fun _=>by kernel_rfl,fun _ _=>by kernel_rfl,trivial⟩
theorem ytn (e:Es) (he:EG e):LpT (Uni (E e)) (yrz ybw yez yaV yeA yfI) [] 92446900 (.loop 92446900 ypO):=fun _ _ _=>yqU.st (Sub.uni _) (yaF (yo5 e he) 5) (YOk.no _ _) (yan (by kernel_rfl)) (ytm e _ _ _ _ _ _)
theorem yAt (e:Es) (a0 a1 a2 a3 a4):EqW (ylP e a0 a1 a2 a3 a4) 6 yt7 yj1 (ylO a0 a1 a2 a3 a4):=fun _ _=>by kernel_rfl
theorem yrA (e:Es) (he:EG e):OkF (E e) (yj1.pw ya7) yjm:=okU he (yAt e _ _ _ _ _) (yo5 e he) ymP.flat (ya5 (l:=[(92446900,.loop 92446900 ypO)]) ⟨ytn e he,trivial⟩ (by kernel_rfl))
set_option linter.unusedVariables false
theorem yye (p0:Int) (p1:Ls) (p2:Ls) (r0:Int) (h:∀ K:Int→Prop,K r0→ybw p0 p1 p2 K) (K:Int→Prop):ybw p0 p1 p2 K=K r0 :=
 propext ⟨fun k=>detC (ylK [] ybm) (az:=[(.agg [(.int .i64 p0),(.data p1),(.data p2)])]) (x:=(.int .i64 r0)) (fun K' k'=>h (fun r0=>K' (.int .i64 r0)) k') (K:=fun x=>match x with | (.int .i64 r0)=>K r0 | _=>False) k,h K⟩
theorem yyf (p0:Int) (p1:Ls) (p2:Ls) (p3:Int) (p4:Int) (p5:Int) (p6:Int) (r0:Int) (r1:Int) (r2:Int) (h:∀ K:Int→Int→Int→Prop,K r0 r1 r2→ya7 p0 p1 p2 p3 p4 p5 p6 K) (K:Int→Int→Int→Prop):ya7 p0 p1 p2 p3 p4 p5 p6 K=K r0 r1 r2 :=
 propext ⟨fun k=>detC (yrA [] ybm) (az:=[(.agg [(.int .i64 p0),(.data p1),(.data p2)]),(.agg [(.int .i64 p3),(.int .i64 p4)]),(.agg [(.int .i64 p5),(.int .i64 p6)])]) (x:=(.tup [(.agg [(.int .i64 r0),(.int .i64 r1)]),(.int .i64 r2)])) (fun K' k'=>h (fun r0 r1 r2=>K' (.tup [(.agg [(.int .i64 r0),(.int .i64 r1)]),(.int .i64 r2)])) k') (K:=fun x=>match x with | (.tup [(.agg [(.int .i64 r0),(.int .i64 r1)]),(.int .i64 r2)])=>K r0 r1 r2 | _=>False) k,h K⟩
abbrev ygP:Type:=Ls→(Bool→Prop)→Prop
def ybT (a0:yfJ) (x0:Bool→Prop) (x1:Ls→Int→Bool→Prop):Nat→Ls→Int→Prop
 | 0,_,_=>False
 | n+1,l0,i1 =>
 (cbr (decide (i1<(((List.length l0):Nat):Int)))
 (asr (decide ((0:Int)≤i1))
 (asr (decide (i1<(((List.length l0):Nat):Int)))
 (asr (conf zK (List.getD l0 (i1.toNat) .nils))
 (a0 (yaa (yac (List.getD l0 (i1.toNat) .nils) 0)) (ya6 (yac (List.getD l0 (i1.toNat) .nils) 1)) (ya6 (yac (List.getD l0 (i1.toNat) .nils) 2)) (fun a =>
 (cbr a
 (x0 true)
 (ybT a0 x0 x1 n l0 (IntKind.i64.wrap (i1+(1:Int))))))))))
 (x1 l0 i1 false))
def yf5 (a0:yfJ) (p0:Ls) (K:Bool→Prop):Prop :=
 (∃ n:Nat,ybT a0
 (fun a=>(K a))
 (fun b c d=>(K (decide ((((List.length b):Nat):Int)>(10:Int)))))
 n p0 (0:Int))
def ycP:ygP:=yf5 yey
def yrB:Sg:=⟨pt9,Bool→Prop,fun K=>(fun r0=>K (.bool r0))⟩
def yns (Q:Qx):Bool→Prop:=(fun b0=>Q .ret [(2,.v (.bool b0))] [])
def ynt (Q:Qx):Ls→Int→Bool→Prop:=(fun l0 i1 b2=>Q (.exit 0) [(0,.v (.data l0)),(3,.v (.int .i64 i1)),(7,.v (.bool b2))] [])
def yhu (a0:yfJ) (Q:Qx):List St:=[⟨(pS hN (fV 0 vD (fV 3 pt0 fN)) fN),ybT a0 (yns Q) (ynt Q)⟩]
def yjr (a0:yfJ):LP:=lpS [(4277600,yhu a0)]
def yf6 (e:Es) (a0:yfJ):SE:=sE (E e) [(yiX,yAd.pw a0)] (yjr a0)
theorem yiC (e:Es) (he:EG e):SEOk (Uni (E e)) (yf6 e yey):=yas (Sub.uni _) ⟨(yAg e he),trivial⟩ trivial he.ok
theorem ymy (e:Es) (a0):ybZ (yf6 e a0) 5 a ysQ false (yhu a0):=fun _=>⟨fun _=>by kernel_rfl,fun _ _=>by kernel_rfl,trivial⟩
theorem ymz (e:Es) (he:EG e):LpT (Uni (E e)) (yjr yey) [] 4277600 (.loop 4277600 ysQ):=fun _ _ _=>yqU.st (Sub.uni _) (yaF (yiC e he) 5) (YOk.no _ _) (yan (by kernel_rfl)) (ymy e _ _)
theorem yrC (e:Es) (a0):EqW (yf6 e a0) 6 yku yrB (yf5 a0):=fun _ _=>by kernel_rfl
theorem yjs (e:Es) (he:EG e):OkF (E e) (yrB.pw ycP) yeJ:=okU he (yrC e _) (yiC e he) ymP.flat (ya5 (l:=[(4277600,.loop 4277600 ysQ)]) ⟨ymz e he,trivial⟩ (by kernel_rfl))
abbrev ya4:Type:=Ls→Ls→(Bool→Prop)→Prop
def ylQ (a0:ygP) (p0 p1:Ls) (K:Bool→Prop):Prop :=
 (a0 p0 (fun a =>
 (cbr a
 (K true)
 (cbr (decide ((((List.length p1):Nat):Int)>(40:Int)))
 (cbr (decide ((((List.length p1):Nat):Int)<(1999:Int)))
 (K true)
 (K (decide ((((List.length p1):Nat):Int)>(2010:Int)))))
 (K (decide ((((List.length p1):Nat):Int)>(2010:Int))))))))
def ydK:ya4:=ylQ ycP
def yAu:Sg:=⟨(lC pt16 lN),Bool→Prop,fun K=>(fun r0=>K (.bool r0))⟩
def yAv (e:Es) (a0:ygP):SE:=sE (E e) [(yeJ,yrB.pw a0)] lp0
theorem yAw (e:Es) (a0):EqW (yAv e a0) 6 yBO yAu (ylQ a0):=fun _ _=>by kernel_rfl
theorem yAx (e:Es) (he:EG e):OkF (E e) (yAu.pw ydK) yiY:=okU he (yAw e _) (yas (Sub.uni _) ⟨(yjs e he),trivial⟩ trivial he.ok) ymP.flat (yan (by kernel_rfl))
def ycZ (a0:yaw) (a:Int→Prop) (b:Ls→Ls→Int→Bool→Prop):Nat→Ls→Ls→Int→Prop
 | 0,_,_,_=>False
 | c+1,l0,l1,i2 =>
 (cbr (decide (i2<(((List.length l0):Nat):Int)))
 (asr (decide ((0:Int)≤i2))
 (asr (decide (i2<(((List.length l0):Nat):Int)))
 (asr (conf zK (List.getD l0 (i2.toNat) .nils))
 (a0 (yaa (yac (List.getD l0 (i2.toNat) .nils) 0)) (ya6 (yac (List.getD l0 (i2.toNat) .nils) 1)) (ya6 (yac (List.getD l0 (i2.toNat) .nils) 2)) (fun d =>
 (cbr (d !=(0:Int))
 (asr (decide ((0:Int)≤i2))
 (asr (decide (i2<(((List.length l0):Nat):Int)))
 (asr (conf zK (List.getD l0 (i2.toNat) .nils))
 (a0 (yaa (yac (List.getD l0 (i2.toNat) .nils) 0)) (ya6 (yac (List.getD l0 (i2.toNat) .nils) 1)) (ya6 (yac (List.getD l0 (i2.toNat) .nils) 2)) (fun e =>
 (a e))))))
 (ycZ a0 a b c l0 l1 (IntKind.i64.wrap (i2+(1:Int))))))))))
 (b l0 l1 i2 false))
def ycy (a0:yaw) (a:Int→Prop) (b:Ls→Ls→Int→Bool→Prop):Nat→Ls→Ls→Int→Prop
 | 0,_,_,_=>False
 | c+1,l0,l1,i2 =>
 (cbr (decide (i2<(((List.length l0):Nat):Int)))
 (asr (decide ((0:Int)≤i2))
 (asr (decide (i2<(((List.length l0):Nat):Int)))
 (asr (conf zK (List.getD l0 (i2.toNat) .nils))
 (asr (decide ((0:Int)<(((List.length l0):Nat):Int)))
 (asr (conf zK (List.getD l0 0 .nils))
 (cbr ((yaa (yac (List.getD l0 (i2.toNat) .nils) 0)) !=(yaa (yac (List.getD l0 0 .nils) 0)))
 (a (8:Int))
 (ycy a0 a b c l0 l1 (IntKind.i64.wrap (i2+(1:Int))))))))))
 (b l0 l1 i2 false))
def ylR (a0:yaw) (p0 p1:Ls) (K:Int→Prop):Prop :=
 (cbr (decide ((((List.length p0):Nat):Int)>(6:Int)))
 (K (4:Int))
 (cbr (decide ((((List.length p1):Nat):Int)>(2000:Int)))
 (K (4:Int))
 (cbr ((((List.length p0):Nat):Int) ==(0:Int))
 (K (8:Int))
 (∃ a:Nat,ycZ a0
 (fun b=>(K b))
 (fun c d g h=>(∃ e:Nat,ycy a0
 (fun f=>(K f))
 (fun i j k l=>(K (0:Int)))
 e c d (0:Int)))
 a p0 p1 (0:Int)))))
def ycJ:yal:=ylR ybw
def yuQ (Q:Qx):Int→Prop:=(fun i0=>Q .ret [(2,.v (.int .i64 i0))] [])
def yuR (Q:Qx):Ls→Ls→Int→Bool→Prop:=(fun l0 l1 i2 b3=>Q (.exit 0) [(1,.box (.agg [(.data l0),(.data l1)])),(3,.v (.int .i64 i2)),(23,.v (.bool b3))] [])
def yuS (Q:Qx):Int→Prop:=(fun i0=>Q .ret [(2,.v (.int .i64 i0))] [])
def yuT (Q:Qx):Ls→Ls→Int→Bool→Prop:=(fun l0 l1 i2 b3=>Q (.exit 2) [(1,.box (.agg [(.data l0),(.data l1)])),(4,.v (.int .i64 i2)),(43,.v (.bool b3))] [])
def ynu (a0:yaw) (Q:Qx):List St:=[⟨(pS hN (fX 1 pt16 (fV 3 pt0 fN)) fN),ycZ a0 (yuQ Q) (yuR Q)⟩]
def ynv (a0:yaw) (Q:Qx):List St:=[⟨(pS hN (fX 1 pt16 (fV 4 pt0 fN)) fN),ycy a0 (yuS Q) (yuT Q)⟩]
def ylS (a0:yaw):LP:=lpS [(6981300,ynu a0),(6981301,ynv a0)]
def yhR (e:Es) (a0:yaw):SE:=sE (E e) [(yha,yoV.pw a0)] (ylS a0)
theorem yj9 (e:Es) (he:EG e):SEOk (Uni (E e)) (yhR e ybw):=yas (Sub.uni _) ⟨(ylK e he),trivial⟩ trivial he.ok
theorem yto (e:Es) (a0):ybZ (yhR e a0) 5 a ysR false (ynu a0):=fun _=>⟨fun _=>by kernel_rfl,fun _ _=>by kernel_rfl,trivial⟩
theorem ytp (e:Es) (he:EG e):LpT (Uni (E e)) (ylS ybw) [] 6981300 (.loop 6981300 ysR):=fun _ _ _=>yqU.st (Sub.uni _) (yaF (yj9 e he) 5) (YOk.no _ _) (yan (by kernel_rfl)) (yto e _ _)
theorem ytq (e:Es) (a0):ybZ (yhR e a0) 5 a ysS false (ynv a0):=fun _=>⟨fun _=>by kernel_rfl,fun _ _=>by kernel_rfl,trivial⟩
theorem ytr (e:Es) (he:EG e):LpT (Uni (E e)) (ylS ybw) [] 6981301 (.loop 6981301 ysS):=fun _ _ _=>yqU.st (Sub.uni _) (yaF (yj9 e he) 5) (YOk.no _ _) (yan (by kernel_rfl)) (ytq e _ _)
theorem yAy (e:Es) (a0):EqW (yhR e a0) 6 ymS yrn (ylR a0):=fun _ _=>by kernel_rfl
theorem yrD (e:Es) (he:EG e):OkF (E e) (yrn.pw ycJ) yiZ:=okU he (yAy e _) (yj9 e he) ymP.flat (ya5 (l:=[(6981300,.loop 6981300 ysR),(6981301,.loop 6981301 ysS)]) ⟨ytp e he,ytr e he,trivial⟩ (by kernel_rfl))
def yrE (p0 p1:Ls) (p2:Int) (K:Bool→Prop):Prop :=
 (cbr (decide (p2≥(0:Int)))
 (K (decide (p2<(((List.length p0):Nat):Int))))
 (K false))
def yjt:yaX:=yrE
def yAz (e:Es):SE:=sE (E e) [] lp0
theorem yAA (e:Es):EqW (yAz e) 6 yBP yjp yrE:=fun _ _=>by kernel_rfl
theorem yAB (e:Es) (he:EG e):OkF (E e) (yjp.pw yjt) yja:=okU he (yAA e) (yas (Sub.uni _) trivial trivial he.ok) ymP.flat (yan (by kernel_rfl))
set_option linter.unusedVariables false
theorem yqd (p0:Ls) (r0:Bool) (h:∀ K:Bool→Prop,K r0→ycP p0 K) (K:Bool→Prop):ycP p0 K=K r0 :=
 propext ⟨fun k=>detC (yjs [] ybm) (az:=[(.data p0)]) (x:=(.bool r0)) (fun K' k'=>h (fun r0=>K' (.bool r0)) k') (K:=fun x=>match x with | (.bool r0)=>K r0 | _=>False) k,h K⟩
theorem yyg (p0:Ls) (p1:Ls) (r0:Int) (h:∀ K:Int→Prop,K r0→ycJ p0 p1 K) (K:Int→Prop):ycJ p0 p1 K=K r0 :=
 propext ⟨fun k=>detC (yrD [] ybm) (az:=[(.agg [(.data p0),(.data p1)])]) (x:=(.int .i64 r0)) (fun K' k'=>h (fun r0=>K' (.int .i64 r0)) k') (K:=fun x=>match x with | (.int .i64 r0)=>K r0 | _=>False) k,h K⟩
abbrev yfM:Type:=Ls→Ls→Ls→(Bool→Prop)→Prop
def ybX (a0:yaX) (x0:Ls→Ls→Ls→Int→Bool→Prop) (x1:Bool→Prop):Nat→Ls→Ls→Ls→Int→Prop
 | 0,_,_,_,_=>False
 | n+1,l0,l1,l2,i3 =>
 (cbr (decide (i3<(((List.length l0):Nat):Int)))
 (jn (fun (a:Bool→Prop) =>
 (asr (decide ((0:Int)≤i3))
 (asr (decide (i3<(((List.length l0):Nat):Int)))
 (lt (List.getD l0 (i3.toNat) .nils) (fun c =>
 (asr (conf zI c)
 (a0 l1 l2 (yaa c) (fun f =>
 (cbr (!f)
 (a true)
 (cbr (decide (i3>(0:Int)))
 (asr (decide ((0:Int)≤i3))
 (asr (decide (i3<(((List.length l0):Nat):Int)))
 (lt (List.getD l0 (i3.toNat) .nils) (fun d =>
 (asr (conf zI d)
 (lt (IntKind.i64.wrap (i3-(1:Int))) (fun b =>
 (asr (decide ((0:Int)≤b))
 (asr (decide (b<(((List.length l0):Nat):Int)))
 (lt (List.getD l0 (b.toNat) .nils) (fun e =>
 (asr (conf zI e)
 (a (decide ((yaa d)≤(yaa e))))))))))))))))
 (a false)))))))))))
 (fun g=>(cbr g
 (x1 false)
 (lt (IntKind.i64.wrap (i3+(1:Int))) (fun h =>
 (ybX a0 x0 x1 n l0 l1 l2 h))))))
 (x0 l0 l1 l2 i3 false))
def yqe (a0:yaX) (p0 p1 p2:Ls) (K:Bool→Prop):Prop :=
 (∃ n:Nat,ybX a0
 (fun a c d e f=>(K (decide ((((List.length a):Nat):Int)>(0:Int)))))
 (fun b=>(K b))
 n p2 p0 p1 (0:Int))
def yd8:yfM:=yqe yjt
def yDZ:Sg:=⟨(lC pt16 pt9),Bool→Prop,fun K=>(fun r0=>K (.bool r0))⟩
def yyh (Q:Qx):Ls→Ls→Ls→Int→Bool→Prop:=(fun l0 l1 l2 i3 b4=>Q (.exit 0) [(1,.v (.data l0)),(2,.box (.agg [(.data l1),(.data l2)])),(5,.v (.int .i64 i3)),(9,.v (.bool b4))] [])
def yyi (Q:Qx):Bool→Prop:=(fun b0=>Q .ret [(4,.v (.bool b0))] [])
def yrF (a0:yaX) (Q:Qx):List St:=[⟨(pS hN (fV 1 vD (fX 2 pt16 (fV 5 pt0 fN))) fN),ybX a0 (yyh Q) (yyi Q)⟩]
def ywL (a0:yaX):LP:=lpS [(35929100,yrF a0)]
def yqf (e:Es) (a0:yaX):SE:=sE (E e) [(yja,yjp.pw a0)] (ywL a0)
theorem yue (e:Es) (he:EG e):SEOk (Uni (E e)) (yqf e yjt):=yas (Sub.uni _) ⟨(yAB e he),trivial⟩ trivial he.ok
theorem ywM (e:Es) (a0):ybZ (yqf e a0) 5 a ypo false (yrF a0):=fun _=>⟨fun _=>by kernel_rfl,fun _ _=>by kernel_rfl,trivial⟩
theorem ywN (e:Es) (he:EG e):LpT (Uni (E e)) (ywL yjt) [] 35929100 (.loop 35929100 ypo):=fun _ _ _=>yqU.st (Sub.uni _) (yaF (yue e he) 5) (YOk.no _ _) (yan (by kernel_rfl)) (ywM e _ _)
theorem yD0 (e:Es) (a0):EqW (yqf e a0) 6 yyQ yDZ (yqe a0):=fun _ _=>by kernel_rfl
theorem yD1 (e:Es) (he:EG e):OkF (E e) (yDZ.pw yd8) yn8:=okU he (yD0 e _) (yue e he) ymP.flat (ya5 (l:=[(35929100,.loop 35929100 ypo)]) ⟨ywN e he,trivial⟩ (by kernel_rfl))
def ydz (x0:Bool→Prop) (x1:Ls→Ls→Int→Bool→Prop):Nat→Ls→Ls→Int→Prop
 | 0,_,_,_=>False
 | n+1,l0,l1,i2 =>
 (cbr (decide (i2<(((List.length l0):Nat):Int)))
 (asr (decide ((0:Int)≤i2))
 (asr (decide (i2<(((List.length l0):Nat):Int)))
 (asr (conf z4 (List.getD l0 (i2.toNat) .nils))
 (asr (decide ((0:Int)≤i2))
 (asr (decide (i2<(((List.length l1):Nat):Int)))
 (asr (conf z4 (List.getD l1 (i2.toNat) .nils))
 (cbr (!(((yaa (yac (List.getD l0 (i2.toNat) .nils) 0)) ==(yaa (yac (List.getD l1 (i2.toNat) .nils) 0)))&&(((yaa (yac (List.getD l0 (i2.toNat) .nils) 1)) ==(yaa (yac (List.getD l1 (i2.toNat) .nils) 1)))&&(((yaa (yac (List.getD l0 (i2.toNat) .nils) 2)) ==(yaa (yac (List.getD l1 (i2.toNat) .nils) 2)))&&(((yaa (yac (List.getD l0 (i2.toNat) .nils) 3)) ==(yaa (yac (List.getD l1 (i2.toNat) .nils) 3)))&&true)))))
 (x0 false)
 (ydz x0 x1 n l0 l1 (IntKind.i64.wrap (i2+(1:Int)))))))))))
 (x1 l0 l1 i2 false))
def ynw (p0 p1:Ls) (K:Bool→Prop):Prop :=
 (cbr ((((List.length p0):Nat):Int) !=(((List.length p1):Nat):Int))
 (K false)
 (∃ n:Nat,ydz
 (fun a=>(K a))
 (fun b c d e=>(K true))
 n p0 p1 (0:Int)))
def ydh:ya4:=ynw
def yuf:Sg:=⟨(lC vD pt9),Bool→Prop,fun K=>(fun r0=>K (.bool r0))⟩
def ywO (Q:Qx):Bool→Prop:=(fun b0=>Q .ret [(4,.v (.bool b0))] [])
def ywP (Q:Qx):Ls→Ls→Int→Bool→Prop:=(fun l0 l1 i2 b3=>Q (.exit 0) [(0,.v (.data l0)),(1,.v (.data l1)),(5,.v (.int .i64 i2)),(14,.v (.bool b3))] [])
def pt21:Pat Sta:=pS hN (fV 0 vD (fV 1 vD (fV 5 pt0 fN))) fN
def yo6 (Q:Qx):List St:=[⟨pt21,ydz (ywO Q) (ywP Q)⟩]
def yug:LP:=lpS [(27088800,yo6)]
def ynx (e:Es):SE:=sE (E e) [] (yug)
theorem yrG (e:Es) (he:EG e):SEOk (Uni (E e)) (ynx e):=yas (Sub.uni _) trivial trivial he.ok
theorem yuU (e:Es):ybZ (ynx e) 5 a ypJ false (yo6):=fun _=>⟨fun _=>by kernel_rfl,fun _ _=>by kernel_rfl,trivial⟩
theorem yuV (e:Es) (he:EG e):LpT (Uni (E e)) (yug) [] 27088800 (.loop 27088800 ypJ):=fun _ _ _=>yqU.st (Sub.uni _) (yaF (yrG e he) 5) (YOk.no _ _) (yan (by kernel_rfl)) (yuU e _)
theorem yCs (e:Es):EqW (ynx e) 6 ywp yuf ynw:=fun _ _=>by kernel_rfl
theorem yuh (e:Es) (he:EG e):OkF (E e) (yuf.pw ydh) yk8:=okU he (yCs e) (yrG e he) ymP.flat (ya5 (l:=[(27088800,.loop 27088800 ypJ)]) ⟨yuV e he,trivial⟩ (by kernel_rfl))
def ydA (a0:ya4) (x0:Bool→Prop) (x1:Ls→Ls→Int→Bool→Prop):Nat→Ls→Ls→Int→Prop
 | 0,_,_,_=>False
 | n+1,l0,l1,i2 =>
 (cbr (decide (i2<(((List.length l0):Nat):Int)))
 (asr (decide ((0:Int)≤i2))
 (asr (decide (i2<(((List.length l0):Nat):Int)))
 (asr (conf zD (List.getD l0 (i2.toNat) .nils))
 (asr (decide ((0:Int)≤i2))
 (asr (decide (i2<(((List.length l1):Nat):Int)))
 (asr (conf zD (List.getD l1 (i2.toNat) .nils))
 (a0 (ya6 (List.getD l0 (i2.toNat) .nils)) (ya6 (List.getD l1 (i2.toNat) .nils)) (fun a =>
 (cbr (!a)
 (x0 false)
 (ydA a0 x0 x1 n l0 l1 (IntKind.i64.wrap (i2+(1:Int)))))))))))))
 (x1 l0 l1 i2 false))
def yny (a0:ya4) (p0 p1:Ls) (K:Bool→Prop):Prop :=
 (cbr ((((List.length p0):Nat):Int) !=(((List.length p1):Nat):Int))
 (K false)
 (∃ n:Nat,ydA a0
 (fun a=>(K a))
 (fun b c d e=>(K true))
 n p0 p1 (0:Int)))
def yfq:ya4:=yny ydh
def yCt:Sg:=⟨(lC (vA pt9) (lC (vA pt9) lN)),Bool→Prop,fun K=>(fun r0=>K (.bool r0))⟩
def ywQ (Q:Qx):Bool→Prop:=(fun b0=>Q .ret [(4,.v (.bool b0))] [])
def ywR (Q:Qx):Ls→Ls→Int→Bool→Prop:=(fun l0 l1 i2 b3=>Q (.exit 0) [(2,.box (.agg [(.data l0)])),(3,.box (.agg [(.data l1)])),(5,.v (.int .i64 i2)),(17,.v (.bool b3))] [])
def yo7 (a0:ya4) (Q:Qx):List St:=[⟨(pS hN (fX 2 (vA pt9) (fX 3 (vA pt9) (fV 5 pt0 fN))) fN),ydA a0 (ywQ Q) (ywR Q)⟩]
def yui (a0:ya4):LP:=lpS [(70742100,yo7 a0)]
def ynz (e:Es) (a0:ya4):SE:=sE (E e) [(yk8,yuf.pw a0)] (yui a0)
theorem yrH (e:Es) (he:EG e):SEOk (Uni (E e)) (ynz e ydh):=yas (Sub.uni _) ⟨(yuh e he),trivial⟩ trivial he.ok
theorem yuW (e:Es) (a0):ybZ (ynz e a0) 5 a ypK false (yo7 a0):=fun _=>⟨fun _=>by kernel_rfl,fun _ _=>by kernel_rfl,trivial⟩
theorem yuX (e:Es) (he:EG e):LpT (Uni (E e)) (yui ydh) [] 70742100 (.loop 70742100 ypK):=fun _ _ _=>yqU.st (Sub.uni _) (yaF (yrH e he) 5) (YOk.no _ _) (yan (by kernel_rfl)) (yuW e _ _)
theorem yCu (e:Es) (a0):EqW (ynz e a0) 6 ywq yCt (yny a0):=fun _ _=>by kernel_rfl
theorem yuj (e:Es) (he:EG e):OkF (E e) (yCt.pw yfq) yk9:=okU he (yCu e _) (yrH e he) ymP.flat (ya5 (l:=[(70742100,.loop 70742100 ypK)]) ⟨yuX e he,trivial⟩ (by kernel_rfl))
def ydB (x0:Bool→Prop) (x1:Ls→Ls→Int→Bool→Prop):Nat→Ls→Ls→Int→Prop
 | 0,_,_,_=>False
 | n+1,l0,l1,i2 =>
 (cbr (decide (i2<(((List.length l0):Nat):Int)))
 (asr (decide ((0:Int)≤i2))
 (asr (decide (i2<(((List.length l0):Nat):Int)))
 (asr (conf zI (List.getD l0 (i2.toNat) .nils))
 (asr (decide ((0:Int)≤i2))
 (asr (decide (i2<(((List.length l1):Nat):Int)))
 (asr (conf zI (List.getD l1 (i2.toNat) .nils))
 (cbr ((yaa (List.getD l0 (i2.toNat) .nils)) !=(yaa (List.getD l1 (i2.toNat) .nils)))
 (x0 false)
 (ydB x0 x1 n l0 l1 (IntKind.i64.wrap (i2+(1:Int)))))))))))
 (x1 l0 l1 i2 false))
def ynA (p0 p1:Ls) (K:Bool→Prop):Prop :=
 (cbr ((((List.length p0):Nat):Int) !=(((List.length p1):Nat):Int))
 (K false)
 (∃ n:Nat,ydB
 (fun a=>(K a))
 (fun b c d e=>(K true))
 n p0 p1 (0:Int)))
def yfr:ya4:=ynA
def ywS (Q:Qx):Bool→Prop:=(fun b0=>Q .ret [(4,.v (.bool b0))] [])
def ywT (Q:Qx):Ls→Ls→Int→Bool→Prop:=(fun l0 l1 i2 b3=>Q (.exit 0) [(0,.v (.data l0)),(1,.v (.data l1)),(5,.v (.int .i64 i2)),(14,.v (.bool b3))] [])
def yo8 (Q:Qx):List St:=[⟨pt21,ydB (ywS Q) (ywT Q)⟩]
def yuk:LP:=lpS [(14397100,yo8)]
def ynB (e:Es):SE:=sE (E e) [] (yuk)
theorem yrI (e:Es) (he:EG e):SEOk (Uni (E e)) (ynB e):=yas (Sub.uni _) trivial trivial he.ok
theorem yuY (e:Es):ybZ (ynB e) 5 a ypL false (yo8):=fun _=>⟨fun _=>by kernel_rfl,fun _ _=>by kernel_rfl,trivial⟩
theorem yuZ (e:Es) (he:EG e):LpT (Uni (E e)) (yuk) [] 14397100 (.loop 14397100 ypL):=fun _ _ _=>yqU.st (Sub.uni _) (yaF (yrI e he) 5) (YOk.no _ _) (yan (by kernel_rfl)) (yuY e _)
theorem yCv (e:Es):EqW (ynB e) 6 ywr yuf ynA:=fun _ _=>by kernel_rfl
theorem yul (e:Es) (he:EG e):OkF (E e) (yuf.pw yfr) yla:=okU he (yCv e) (yrI e he) ymP.flat (ya5 (l:=[(14397100,.loop 14397100 ypL)]) ⟨yuZ e he,trivial⟩ (by kernel_rfl))
set_option linter.unusedVariables false
theorem yAC (p0:Ls) (p1:Ls) (r0:Bool) (h:∀ K:Bool→Prop,K r0→ydh p0 p1 K) (K:Bool→Prop):ydh p0 p1 K=K r0 :=
 propext ⟨fun k=>detC (yuh [] ybm) (az:=[(.data p0),(.data p1)]) (x:=(.bool r0)) (fun K' k'=>h (fun r0=>K' (.bool r0)) k') (K:=fun x=>match x with | (.bool r0)=>K r0 | _=>False) k,h K⟩
theorem yAD (p0:Ls) (p1:Ls) (r0:Bool) (h:∀ K:Bool→Prop,K r0→yfq p0 p1 K) (K:Bool→Prop):yfq p0 p1 K=K r0 :=
 propext ⟨fun k=>detC (yuj [] ybm) (az:=[(.agg [(.data p0)]),(.agg [(.data p1)])]) (x:=(.bool r0)) (fun K' k'=>h (fun r0=>K' (.bool r0)) k') (K:=fun x=>match x with | (.bool r0)=>K r0 | _=>False) k,h K⟩
theorem yAE (p0:Ls) (p1:Ls) (r0:Bool) (h:∀ K:Bool→Prop,K r0→yfr p0 p1 K) (K:Bool→Prop):yfr p0 p1 K=K r0 :=
 propext ⟨fun k=>detC (yul [] ybm) (az:=[(.data p0),(.data p1)]) (x:=(.bool r0)) (fun K' k'=>h (fun r0=>K' (.bool r0)) k') (K:=fun x=>match x with | (.bool r0)=>K r0 | _=>False) k,h K⟩
def ynC (p0:Int) (K:Int→Int→Prop):Prop :=
 (K p0 (1:Int))
def yaJ:yad:=ynC
def ywU (e:Es):SE:=sE (E e) [] lp0
theorem ywV (e:Es):EqW (ywU e) 6 yxC yjX ynC:=fun _ _=>by kernel_rfl
theorem yeB (e:Es) (he:EG e):OkF (E e) (yjX.pw yaJ) ycE:=okU he (ywV e) (yas (Sub.uni _) trivial trivial he.ok) ymP.flat (yan (by kernel_rfl))
def yeC (a0:yai) (p0 p1 p2 p3:Int) (K:Int→Prop):Prop :=
 (a0 p0 p1 p2 p3 (fun a b =>
 (K a)))
def yaK:yaf:=yeC yaS
def ywW (e:Es) (a0:yai):SE:=sE (E e) [(ydH,yzH.pw a0)] lp0
theorem ywX (e:Es) (a0):EqW (ywW e a0) 6 yxF yiw (yeC a0):=fun _ _=>by kernel_rfl
theorem yf7 (e:Es) (he:EG e):OkF (E e) (yiw.pw yaK) ydf:=okU he (ywX e _) (yas (Sub.uni _) ⟨(yeQ e he),trivial⟩ trivial he.ok) ymP.flat (yan (by kernel_rfl))
abbrev yaq:Type:=Ls→Ls→Int→Int→Int→Int→Int→Int→Int→(Ls→Ls→Int→Int→Int→Prop)→Prop
def yfc (a0:yng) (a1:yad) (a2:yfF) (a3:yaj) (a4:yfF) (p0 p1:Ls) (p2 p3 p4 p5 p6 p7 p8:Int) (K:Ls→Ls→Int→Int→Int→Prop):Prop :=
 (a0 p0 p1 p2 (fun l b =>
 (a1 l (fun m n =>
 (jn (fun (c:Ls→Ls→Int→Int→Int→Prop) =>
 (jn (fun (a:Bool→Prop) =>
 (cbr (b ==(0:Int))
 (cbr (decide (p3>(0:Int)))
 (a true)
 (asr (decide ((0:Int)<(((List.length p0):Nat):Int)))
 (lt (List.getD p0 0 .nils) (fun d =>
 (asr (conf zK d)
 (a1 (yaa (yac d 0)) (fun o p =>
 (a (!((p5 == o)&&((p6 == p)&&true)))))))))))
 (a false)))
 (fun q=>(cbr q
 (a2 p0 p1 p2 p3 p4 p5 p6 (fun r s t u v =>
 (c r s v t u)))
 (c p0 p1 b m n)))))
 (fun e f g h i=>(jn (fun (j:Int→Int→Int→Prop) =>
 (cbr (g ==(0:Int))
 (a3 h i p7 p8 (fun w x y =>
 (j y w x)))
 (j g h i)))
 (fun k z A=>(cbr (k !=(0:Int))
 (K e f (0:Int) (0:Int) k)
 (a4 e f p2 p3 p4 z A (fun B C D E F =>
 (K B C D E F))))))))))))
def yam:yaq:=yfc yfE yaJ ybH yaI ybj
def yyj:Sg:=⟨(lC pt16 (lC pt0 (lC pt7 pt11))),Ls→Ls→Int→Int→Int→Prop,fun K=>(fun r0 r1 r2 r3 r4=>K (.tup [(.agg [(.data r0),(.data r1)]),(.agg [(.int .i64 r2),(.int .i64 r3)]),(.int .i64 r4)]))⟩
def yyk (e:Es) (a0:yng) (a1:yad) (a2:yfF) (a3:yaj) (a4:yfF):SE:=sE (E e) [(yjc,yzW.pw a0),(ycE,yjX.pw a1),(yjd,yrs.pw a2),(ydI,ydW.pw a3),(yk6,yrs.pw a4)] lp0
theorem yyl (e:Es) (a0 a1 a2 a3 a4):EqW (yyk e a0 a1 a2 a3 a4) 6 yzE yyj (yfc a0 a1 a2 a3 a4):=fun _ _=>by kernel_rfl
theorem yka (e:Es) (he:EG e):OkF (E e) (yyj.pw yam) yeN:=okU he (yyl e _ _ _ _ _) (yas (Sub.uni _) ⟨(yzZ e he),(yeB e he),(yrt e he),(yeR e he),(yt8 e he),trivial⟩ trivial he.ok) ymP.flat (yan (by kernel_rfl))
abbrev yah:Type:=Int→Int→Int→Int→Int→Int→(Int→Prop)→Prop
def ygQ (a0:yaf) (p0 p1 p2 p3 p4 p5:Int) (K:Int→Prop):Prop :=
 (a0 p1 p2 p4 p5 (fun a =>
 (K a)))
def yax:yah:=ygQ yaK
def yts:Sg:=⟨(lC (vA (lC pt0 pt6)) (lC (vA (lC pt0 pt6)) lN)),Int→Prop,fun K=>(fun r0=>K (.int .i64 r0))⟩
def ytt (e:Es) (a0:yaf):SE:=sE (E e) [(ydf,yiw.pw a0)] lp0
theorem ytu (e:Es) (a0):EqW (ytt e a0) 6 yuv yts (ygQ a0):=fun _ _=>by kernel_rfl
theorem ygR (e:Es) (he:EG e):OkF (E e) (yts.pw yax) yaU:=okU he (ytu e _) (yas (Sub.uni _) ⟨(yf7 e he),trivial⟩ trivial he.ok) ymP.flat (yan (by kernel_rfl))
abbrev yaL:Type:=Ls→Ls→Ls→Int→Int→Int→Int→(Ls→Ls→Int→Int→Ls→Ls→Int→Prop)→Prop
def ybl (a0:yal) (a1:yai) (a2:yad) (a3:yaf) (a4:yap) (a5:yaq) (a6:yae) (a7:yah) (a8:yak) (b:Ls→Ls→Ls→Int→Int→Int→Int→Int→Int→Bool→Int→Bool→Prop):Nat→Ls→Ls→Ls→Int→Int→Int→Int→Int→Int→Bool→Int→Prop
 | 0,_,_,_,_,_,_,_,_,_,_,_=>False
 | f+1,l0,l1,l2,i3,i4,i5,i6,i7,i8,b9,i10 =>
 (cbr (decide (i10<(((List.length l0):Nat):Int)))
 (jn (fun (c:Bool→Prop) =>
 (cbr b9
 (lt (IntKind.i64.wrap (i10-(1:Int))) (fun a =>
 (asr (decide ((0:Int)≤a))
 (asr (decide (a<(((List.length l0):Nat):Int)))
 (lt (List.getD l0 (a.toNat) .nils) (fun d =>
 (asr (conf zI d)
 (asr (decide ((0:Int)≤i10))
 (asr (decide (i10<(((List.length l0):Nat):Int)))
 (lt (List.getD l0 (i10.toNat) .nils) (fun e =>
 (asr (conf zI e)
 (c (decide ((yaa d)<(yaa e))))))))))))))))
 (c false)))
 (fun g=>(lt (IntKind.i64.wrap (i10+(1:Int))) (fun h =>
 (ybl a0 a1 a2 a3 a4 a5 a6 a7 a8 b f l0 l1 l2 i3 i4 i5 i6 i7 i8 g h)))))
 (b l0 l1 l2 i3 i4 i5 i6 i7 i8 b9 i10 false))
def yaB (a0:yal) (a1:yai) (a2:yad) (a3:yaf) (a4:yap) (a5:yaq) (a6:yae) (a7:yah) (a8:yak) (d:Ls→Ls→Ls→Int→Int→Int→Int→Int→Int→Int→Int→Int→Ls→Int→Int→Bool→Prop) (e:Ls→Int→Int→Int→Prop):Nat→Ls→Ls→Ls→Int→Int→Int→Int→Int→Int→Int→Int→Int→Ls→Int→Int→Prop
 | 0,_,_,_,_,_,_,_,_,_,_,_,_,_,_,_=>False
 | g+1,l0,l1,l2,i3,i4,i5,i6,i7,i8,i9,i10,i11,l14,i15,i16 =>
 (cbr (decide (i16<i15))
 (asr (decide ((0:Int)≤i16))
 (asr (decide (i16<(((List.length l14):Nat):Int)))
 (lt (List.getD l14 (i16.toNat) .nils) (fun a =>
 (asr (conf zI a)
 (a5 l1 l2 (yaa a) i3 i4 i5 i6 i10 i11 (fun h i b c f =>
 (cbr (f !=(0:Int))
 (e l0 (0:Int) (0:Int) f)
 (asr (decide ((List.length l0)=(List.length l0)))
 (asr (decide ((0+(List.length l0))≤(List.length l0)))
 (asr (!(decide (((0+(List.length l0))+1)≤(List.length l0))))
 (asr (decide ((List.length l0)=(List.length l0)))
 (asr (decide ((((List.length l0)+1)+64)*(24+1)≤room))
 (lt (IntKind.i64.wrap (i16+(1:Int))) (fun j =>
 (asr (decide ((List.length (l0++([(.agg [(.int .i64 (yaa a)),(.int .i64 b),(.int .i64 c)])]:Ls)))=List.length (l0++([(.agg [(.int .i64 (yaa a)),(.int .i64 b),(.int .i64 c)])]:Ls)))&&decide ((List.length (l0++([(.agg [(.int .i64 (yaa a)),(.int .i64 b),(.int .i64 c)])]:Ls)))=List.length (l0++([(.agg [(.int .i64 (yaa a)),(.int .i64 b),(.int .i64 c)])]:Ls))))
 (yaB a0 a1 a2 a3 a4 a5 a6 a7 a8 d e g (l0++([(.agg [(.int .i64 (yaa a)),(.int .i64 b),(.int .i64 c)])]:Ls)) h i i3 i4 i5 i6 i7 i8 i9 i10 i11 l14 i15 j)))))))))))))))))
 (d l0 l1 l2 i3 i4 i5 i6 i7 i8 i9 i10 i11 l14 i15 i16 false))
def ya8 (a0:yal) (a1:yai) (a2:yad) (a3:yaf) (a4:yap) (a5:yaq) (a6:yae) (a7:yah) (a8:yak) (e:Ls→Ls→Int→Int→Int→Int→Int→Int→Int→Int→Int→Ls→Int→Int→Bool→Prop) (f:Int→Int→Int→Prop) (g:Ls→Ls→Ls→Int→Int→Int→Int→Int→Int→Int→Int→Int→Ls→Int→Int→Bool→Prop) (h:Ls→Int→Int→Int→Prop):Nat→Ls→Ls→Int→Int→Int→Int→Int→Int→Int→Int→Int→Ls→Int→Int→Prop
 | 0,_,_,_,_,_,_,_,_,_,_,_,_,_,_=>False
 | i+1,l0,l1,i2,i3,i4,i5,i6,i7,i8,i9,i10,l11,i12,i13 =>
 (cbr (decide (i13<i12))
 (asr (decide ((0:Int)≤i13))
 (asr (decide (i13<(((List.length l11):Nat):Int)))
 (lt (List.getD l11 (i13.toNat) .nils) (fun a =>
 (asr (conf zI a)
 (a5 l0 l1 (yaa a) i2 i3 i4 i5 i9 i10 (fun j k b c d =>
 (cbr (d !=(0:Int))
 (f (0:Int) (0:Int) d)
 (lt (IntKind.i64.wrap (i13+(1:Int))) (fun l =>
 (asr (decide (1=List.length ([(.agg [(.int .i64 (yaa a)),(.int .i64 b),(.int .i64 c)])]:Ls))&&decide (1=List.length ([(.agg [(.int .i64 (yaa a)),(.int .i64 b),(.int .i64 c)])]:Ls)))
 (yaB a0 a1 a2 a3 a4 a5 a6 a7 a8 g h i ([(.agg [(.int .i64 (yaa a)),(.int .i64 b),(.int .i64 c)])]:Ls) j k i2 i3 i4 i5 i6 i7 i8 i9 i10 l11 i12 l))))))))))))
 (e l0 l1 i2 i3 i4 i5 i6 i7 i8 i9 i10 l11 i12 i13 false))
def yju (a0:yal) (a1:yai) (a2:yad) (a3:yaf) (a4:yap) (a5:yaq) (a6:yae) (a7:yah) (a8:yak) (a:Int→Int→Int→Int→Bool→Prop):Nat→Int→Int→Int→Int→Prop
 | 0,_,_,_,_=>False
 | b+1,i0,i1,i2,i3 =>
 (cbr (decide (i3≤i0))
 False
 (a i0 i1 i2 i3 false))
def yeh (a0:yal) (a1:yai) (a2:yad) (a3:yaf) (a4:yap) (a5:yaq) (a6:yae) (a7:yah) (a8:yak) (a:Ls→Int→Int→Int→Int→Bool→Prop):Nat→Ls→Int→Int→Int→Int→Prop
 | 0,_,_,_,_,_=>False
 | b+1,l0,i3,i4,i5,i6 =>
 (cbr (decide (i6≤i3))
 False
 (a l0 i3 i4 i5 i6 false))
def yjv (a0:yal) (a1:yai) (a2:yad) (a3:yaf) (a4:yap) (a5:yaq) (a6:yae) (a7:yah) (a8:yak) (a:Int→Int→Int→Int→Bool→Prop):Nat→Int→Int→Int→Int→Prop
 | 0,_,_,_,_=>False
 | b+1,i0,i1,i2,i3 =>
 (cbr (decide (i3>i0))
 False
 (a i0 i1 i2 i3 false))
def ya9 (a0:yal) (a1:yai) (a2:yad) (a3:yaf) (a4:yap) (a5:yaq) (a6:yae) (a7:yah) (a8:yak) (h:Ls→Int→Int→Int→Int→Bool→Prop):Nat→Ls→Int→Int→Int→Int→Prop
 | 0,_,_,_,_,_=>False
 | k+1,l0,i3,i4,i5,i6 =>
 (jn (fun (j:Bool→Prop) =>
 (cbr (decide (i6>i3))
 (asr (decide ((0:Int)≤i6))
 (asr (decide (i6<(((List.length l0):Nat):Int)))
 (asr (decide ((List.length l0)=(List.length l0)))
 (asr (decide ((0+(i6.toNat))<(List.length l0)))
 (lt (List.getD l0 (0+(i6.toNat)) .nils) (fun d =>
 (asr (conf (.agg [.i .i64,.i .i64,.i .i64]) d)
 (lt (IntKind.i64.wrap (i6-(1:Int))) (fun e =>
 (asr (decide ((0:Int)≤e))
 (asr (decide (e<(((List.length l0):Nat):Int)))
 (asr (decide ((List.length l0)=(List.length l0)))
 (asr (decide ((0+(e.toNat))<(List.length l0)))
 (lt (List.getD l0 (0+(e.toNat)) .nils) (fun f =>
 (asr (conf (.agg [.i .i64,.i .i64,.i .i64]) f)
 (a7 (yaa (yac d 0)) (yaa (yac d 1)) (yaa (yac d 2)) (yaa (yac f 0)) (yaa (yac f 1)) (yaa (yac f 2)) (fun l =>
 (j (decide (l<(0:Int))))))))))))))))))))))
 (j false)))
 (fun m=>(cbr m
 (lt (IntKind.i64.wrap (i6-(1:Int))) (fun c =>
 (lt (IntKind.i64.wrap (i6-(1:Int))) (fun g =>
 (asr (decide ((0:Int)≤g))
 (asr (decide (g<(((List.length l0):Nat):Int)))
 (asr (decide ((List.length l0)=(List.length l0)))
 (asr (decide ((0+(g.toNat))<(List.length l0)))
 (lt (List.getD l0 (0+(g.toNat)) .nils) (fun a =>
 (asr (conf (.agg [.i .i64,.i .i64,.i .i64]) a)
 (asr (decide ((0:Int)≤i6))
 (asr (decide (i6<(((List.length l0):Nat):Int)))
 (asr (decide ((List.length l0)=(List.length l0)))
 (asr (decide ((0+(i6.toNat))<(List.length l0)))
 (lt (List.getD l0 (0+(i6.toNat)) .nils) (fun b =>
 (asr (conf (.agg [.i .i64,.i .i64,.i .i64]) b)
 (asr (decide ((0:Int)≤i6))
 (asr (decide (i6<(((List.length l0):Nat):Int)))
 (asr (decide ((List.length l0)=(List.length l0)))
 (asr (decide ((0+(i6.toNat))<(List.length l0)))
 (lt (List.getD l0 (0+(i6.toNat)) .nils) (fun n =>
 (asr (conf (.agg [.i .i64,.i .i64,.i .i64]) n)
 (asr (decide ((0:Int)≤c))
 (asr (decide (c<(((List.length l0):Nat):Int)))
 (asr (decide ((List.length (List.set l0 (0+(i6.toNat)) (.agg [(.int .i64 (yaa (yac a 0))),(.int .i64 (yaa (yac a 1))),(.int .i64 (yaa (yac a 2)))])))=(List.length l0)))
 (asr (decide ((0+(c.toNat))<(List.length (List.set l0 (0+(i6.toNat)) (.agg [(.int .i64 (yaa (yac a 0))),(.int .i64 (yaa (yac a 1))),(.int .i64 (yaa (yac a 2)))])))))
 (lt (List.getD (List.set l0 (0+(i6.toNat)) (.agg [(.int .i64 (yaa (yac a 0))),(.int .i64 (yaa (yac a 1))),(.int .i64 (yaa (yac a 2)))])) (0+(c.toNat)) .nils) (fun o =>
 (asr (conf (.agg [.i .i64,.i .i64,.i .i64]) o)
 (lt (IntKind.i64.wrap (i6-(1:Int))) (fun p =>
 (asr (decide ((List.length l0)=List.length (List.set (List.set l0 (0+(i6.toNat)) (.agg [(.int .i64 (yaa (yac a 0))),(.int .i64 (yaa (yac a 1))),(.int .i64 (yaa (yac a 2)))])) (0+(c.toNat)) (.agg [(.int .i64 (yaa (yac b 0))),(.int .i64 (yaa (yac b 1))),(.int .i64 (yaa (yac b 2)))])))&&decide ((List.length l0)=List.length (List.set (List.set l0 (0+(i6.toNat)) (.agg [(.int .i64 (yaa (yac a 0))),(.int .i64 (yaa (yac a 1))),(.int .i64 (yaa (yac a 2)))])) (0+(c.toNat)) (.agg [(.int .i64 (yaa (yac b 0))),(.int .i64 (yaa (yac b 1))),(.int .i64 (yaa (yac b 2)))]))))
 (ya9 a0 a1 a2 a3 a4 a5 a6 a7 a8 h k (List.set (List.set l0 (0+(i6.toNat)) (.agg [(.int .i64 (yaa (yac a 0))),(.int .i64 (yaa (yac a 1))),(.int .i64 (yaa (yac a 2)))])) (0+(c.toNat)) (.agg [(.int .i64 (yaa (yac b 0))),(.int .i64 (yaa (yac b 1))),(.int .i64 (yaa (yac b 2)))])) i3 i4 i5 p))))))))))))))))))))))))))))))))))))
 (h l0 i3 i4 i5 i6 false))))
def yjw (a0:yal) (a1:yai) (a2:yad) (a3:yaf) (a4:yap) (a5:yaq) (a6:yae) (a7:yah) (a8:yak) (a:Int→Int→Bool→Prop):Nat→Int→Int→Prop
 | 0,_,_=>False
 | b+1,i0,i1 =>
 (cbr (decide (i1<i0))
 False
 (a i0 i1 false))
def yei (a0:yal) (a1:yai) (a2:yad) (a3:yaf) (a4:yap) (a5:yaq) (a6:yae) (a7:yah) (a8:yak) (a:Ls→Nat→Nat→Int→Int→Bool→Prop):Nat→Ls→Nat→Nat→Int→Int→Prop
 | 0,_,_,_,_,_=>False
 | b+1,l0,n1,n2,i3,i4 =>
 (cbr (decide (i4<i3))
 False
 (a l0 n1 n2 i3 i4 false))
def yjx (a0:yal) (a1:yai) (a2:yad) (a3:yaf) (a4:yap) (a5:yaq) (a6:yae) (a7:yah) (a8:yak) (a:Ls→Ls→Int→Int→Int→Int→Int→Bool→Prop):Nat→Ls→Ls→Int→Int→Int→Int→Int→Prop
 | 0,_,_,_,_,_,_,_=>False
 | b+1,l0,l1,i2,i3,i4,i5,i6 =>
 (cbr (decide (i6<i5))
 False
 (a l0 l1 i2 i3 i4 i5 i6 false))
def yaY (a0:yal) (a1:yai) (a2:yad) (a3:yaf) (a4:yap) (a5:yaq) (a6:yae) (a7:yah) (a8:yak) (d:Ls→Ls→Ls→Ls→Ls→Int→Int→Int→Nat→Nat→Nat→Nat→Int→Int→Bool→Prop):Nat→Ls→Ls→Ls→Ls→Ls→Int→Int→Int→Nat→Nat→Nat→Nat→Int→Int→Prop
 | 0,_,_,_,_,_,_,_,_,_,_,_,_,_,_=>False
 | f+1,l0,l1,l2,l3,l4,i5,i6,i11,n12,n13,n14,n15,i16,i17 =>
 (cbr (decide (i17<i16))
 (jn (fun (e:Ls→Ls→Prop) =>
 (asr (decide ((0:Int)≤i17))
 (asr (decide (i17<((n14:Nat):Int)))
 (asr (decide ((List.length l0)=n15))
 (asr (decide ((0+(i17.toNat))<(List.length l0)))
 (lt (List.getD l0 (0+(i17.toNat)) .nils) (fun c =>
 (asr (conf (.agg [.i .i64,.i .i64,.i .i64]) c)
 (cbr (decide (i17<i11))
 (asr (decide ((List.length l1)=(List.length l1)))
 (asr (decide ((0+(List.length l1))≤(List.length l1)))
 (asr (!(decide (((0+(List.length l1))+1)≤(List.length l1))))
 (asr (decide ((List.length l1)=(List.length l1)))
 (asr (decide ((((List.length l1)+1)+64)*(8+1)≤room))
 (e (l1++([(.int .i64 (yaa (yac c 0)))]:Ls)) l2))))))
 (asr (decide ((List.length l2)=(List.length l2)))
 (asr (decide ((0+(List.length l2))≤(List.length l2)))
 (asr (!(decide (((0+(List.length l2))+1)≤(List.length l2))))
 (asr (decide ((List.length l2)=(List.length l2)))
 (asr (decide ((((List.length l2)+1)+64)*(8+1)≤room))
 (e l1 (l2++([(.int .i64 (yaa (yac c 0)))]:Ls)))))))))))))))))
 (fun a b=>(lt (IntKind.i64.wrap (i17+(1:Int))) (fun g =>
 (asr (decide ((List.length a)=List.length a)&&decide ((List.length a)=List.length a)&&decide ((List.length b)=List.length b)&&decide ((List.length b)=List.length b))
 (yaY a0 a1 a2 a3 a4 a5 a6 a7 a8 d f l0 a b l3 l4 i5 i6 i11 n12 n13 n14 n15 i16 g))))))
 (d l0 l1 l2 l3 l4 i5 i6 i11 n12 n13 n14 n15 i16 i17 false))
def yaZ (a0:yal) (a1:yai) (a2:yad) (a3:yaf) (a4:yap) (a5:yaq) (a6:yae) (a7:yah) (a8:yak) (b:Ls→Ls→Ls→Ls→Int→Int→Int→Nat→Nat→Nat→Nat→Int→Int→Bool→Prop) (c:Ls→Ls→Ls→Ls→Ls→Int→Int→Int→Nat→Nat→Nat→Nat→Int→Int→Bool→Prop):Nat→Ls→Ls→Ls→Ls→Int→Int→Int→Nat→Nat→Nat→Nat→Int→Int→Prop
 | 0,_,_,_,_,_,_,_,_,_,_,_,_,_=>False
 | d+1,l0,l1,l2,l3,i4,i5,i8,n9,n10,n11,n12,i13,i14 =>
 (cbr (decide (i14<i13))
 (asr (decide ((0:Int)≤i14))
 (asr (decide (i14<((n11:Nat):Int)))
 (asr (decide ((List.length l0)=n12))
 (asr (decide ((0+(i14.toNat))<(List.length l0)))
 (lt (List.getD l0 (0+(i14.toNat)) .nils) (fun a =>
 (asr (conf (.agg [.i .i64,.i .i64,.i .i64]) a)
 (cbr (decide (i14<i8))
 (asr (decide ((List.length l1)=(List.length l1)))
 (asr (decide ((0+(List.length l1))≤(List.length l1)))
 (asr (!(decide (((0+(List.length l1))+1)≤(List.length l1))))
 (asr (decide ((List.length l1)=(List.length l1)))
 (asr (decide ((((List.length l1)+1)+64)*(8+1)≤room))
 (lt (IntKind.i64.wrap (i14+(1:Int))) (fun e =>
 (asr (decide ((List.length (l1++([(.int .i64 (yaa (yac a 0)))]:Ls)))=List.length (l1++([(.int .i64 (yaa (yac a 0)))]:Ls)))&&decide ((List.length (l1++([(.int .i64 (yaa (yac a 0)))]:Ls)))=List.length (l1++([(.int .i64 (yaa (yac a 0)))]:Ls))))
 (yaZ a0 a1 a2 a3 a4 a5 a6 a7 a8 b c d l0 (l1++([(.int .i64 (yaa (yac a 0)))]:Ls)) l2 l3 i4 i5 i8 n9 n10 n11 n12 i13 e)))))))))
 (lt (IntKind.i64.wrap (i14+(1:Int))) (fun f =>
 (asr (decide ((List.length l1)=List.length l1)&&decide ((List.length l1)=List.length l1)&&decide (1=List.length ([(.int .i64 (yaa (yac a 0)))]:Ls))&&decide (1=List.length ([(.int .i64 (yaa (yac a 0)))]:Ls)))
 (yaY a0 a1 a2 a3 a4 a5 a6 a7 a8 c d l0 l1 ([(.int .i64 (yaa (yac a 0)))]:Ls) l2 l3 i4 i5 i8 n9 n10 n11 n12 i13 f))))))))))))
 (b l0 l1 l2 l3 i4 i5 i8 n9 n10 n11 n12 i13 i14 false))
def yf8 (a0:yal) (a1:yai) (a2:yad) (a3:yaf) (a4:yap) (a5:yaq) (a6:yae) (a7:yah) (a8:yak) (d:Ls→Ls→Ls→Ls→Ls→Int→Int→Int→Nat→Nat→Nat→Nat→Int→Int→Bool→Prop):Nat→Ls→Ls→Ls→Ls→Ls→Int→Int→Int→Nat→Nat→Nat→Nat→Int→Int→Prop
 | 0,_,_,_,_,_,_,_,_,_,_,_,_,_,_=>False
 | f+1,l0,l1,l2,l3,l4,i5,i6,i11,n12,n13,n14,n15,i16,i17 =>
 (cbr (decide (i17<i16))
 (jn (fun (e:Ls→Ls→Prop) =>
 (asr (decide ((0:Int)≤i17))
 (asr (decide (i17<((n14:Nat):Int)))
 (asr (decide ((List.length l0)=n15))
 (asr (decide ((0+(i17.toNat))<(List.length l0)))
 (lt (List.getD l0 (0+(i17.toNat)) .nils) (fun c =>
 (asr (conf (.agg [.i .i64,.i .i64,.i .i64]) c)
 (cbr (decide (i17<i11))
 (asr (decide ((List.length l2)=(List.length l2)))
 (asr (decide ((0+(List.length l2))≤(List.length l2)))
 (asr (!(decide (((0+(List.length l2))+1)≤(List.length l2))))
 (asr (decide ((List.length l2)=(List.length l2)))
 (asr (decide ((((List.length l2)+1)+64)*(8+1)≤room))
 (e l1 (l2++([(.int .i64 (yaa (yac c 0)))]:Ls))))))))
 (asr (decide ((List.length l1)=(List.length l1)))
 (asr (decide ((0+(List.length l1))≤(List.length l1)))
 (asr (!(decide (((0+(List.length l1))+1)≤(List.length l1))))
 (asr (decide ((List.length l1)=(List.length l1)))
 (asr (decide ((((List.length l1)+1)+64)*(8+1)≤room))
 (e (l1++([(.int .i64 (yaa (yac c 0)))]:Ls)) l2)))))))))))))))
 (fun a b=>(lt (IntKind.i64.wrap (i17+(1:Int))) (fun g =>
 (asr (decide ((List.length b)=List.length b)&&decide ((List.length b)=List.length b)&&decide ((List.length a)=List.length a)&&decide ((List.length a)=List.length a))
 (yf8 a0 a1 a2 a3 a4 a5 a6 a7 a8 d f l0 a b l3 l4 i5 i6 i11 n12 n13 n14 n15 i16 g))))))
 (d l0 l1 l2 l3 l4 i5 i6 i11 n12 n13 n14 n15 i16 i17 false))
def yf9 (a0:yal) (a1:yai) (a2:yad) (a3:yaf) (a4:yap) (a5:yaq) (a6:yae) (a7:yah) (a8:yak) (b:Ls→Ls→Ls→Ls→Int→Int→Int→Nat→Nat→Nat→Nat→Int→Int→Bool→Prop) (c:Ls→Ls→Ls→Ls→Ls→Int→Int→Int→Nat→Nat→Nat→Nat→Int→Int→Bool→Prop):Nat→Ls→Ls→Ls→Ls→Int→Int→Int→Nat→Nat→Nat→Nat→Int→Int→Prop
 | 0,_,_,_,_,_,_,_,_,_,_,_,_,_=>False
 | d+1,l0,l1,l2,l3,i4,i5,i8,n9,n10,n11,n12,i13,i14 =>
 (cbr (decide (i14<i13))
 (asr (decide ((0:Int)≤i14))
 (asr (decide (i14<((n11:Nat):Int)))
 (asr (decide ((List.length l0)=n12))
 (asr (decide ((0+(i14.toNat))<(List.length l0)))
 (lt (List.getD l0 (0+(i14.toNat)) .nils) (fun a =>
 (asr (conf (.agg [.i .i64,.i .i64,.i .i64]) a)
 (cbr (decide (i14<i8))
 (lt (IntKind.i64.wrap (i14+(1:Int))) (fun e =>
 (asr (decide (1=List.length ([(.int .i64 (yaa (yac a 0)))]:Ls))&&decide (1=List.length ([(.int .i64 (yaa (yac a 0)))]:Ls))&&decide ((List.length l1)=List.length l1)&&decide ((List.length l1)=List.length l1))
 (yf8 a0 a1 a2 a3 a4 a5 a6 a7 a8 c d l0 l1 ([(.int .i64 (yaa (yac a 0)))]:Ls) l2 l3 i4 i5 i8 n9 n10 n11 n12 i13 e))))
 (asr (decide ((List.length l1)=(List.length l1)))
 (asr (decide ((0+(List.length l1))≤(List.length l1)))
 (asr (!(decide (((0+(List.length l1))+1)≤(List.length l1))))
 (asr (decide ((List.length l1)=(List.length l1)))
 (asr (decide ((((List.length l1)+1)+64)*(8+1)≤room))
 (lt (IntKind.i64.wrap (i14+(1:Int))) (fun f =>
 (asr (decide ((List.length (l1++([(.int .i64 (yaa (yac a 0)))]:Ls)))=List.length (l1++([(.int .i64 (yaa (yac a 0)))]:Ls)))&&decide ((List.length (l1++([(.int .i64 (yaa (yac a 0)))]:Ls)))=List.length (l1++([(.int .i64 (yaa (yac a 0)))]:Ls))))
 (yf9 a0 a1 a2 a3 a4 a5 a6 a7 a8 b c d l0 (l1++([(.int .i64 (yaa (yac a 0)))]:Ls)) l2 l3 i4 i5 i8 n9 n10 n11 n12 i13 f)))))))))))))))))
 (b l0 l1 l2 l3 i4 i5 i8 n9 n10 n11 n12 i13 i14 false))
def ydc (a0:yal) (a1:yai) (a2:yad) (a3:yaf) (a4:yap) (a5:yaq) (a6:yae) (a7:yah) (a8:yak) (c:Ls→Ls→Ls→Int→Int→Int→Nat→Nat→Nat→Nat→Int→Int→Bool→Prop) (d:Ls→Ls→Ls→Ls→Int→Int→Int→Nat→Nat→Nat→Nat→Int→Int→Bool→Prop) (e:Ls→Ls→Ls→Ls→Ls→Int→Int→Int→Nat→Nat→Nat→Nat→Int→Int→Bool→Prop) (f:Ls→Ls→Ls→Ls→Int→Int→Int→Nat→Nat→Nat→Nat→Int→Int→Bool→Prop) (g:Ls→Ls→Ls→Ls→Ls→Int→Int→Int→Nat→Nat→Nat→Nat→Int→Int→Bool→Prop):Nat→Ls→Ls→Ls→Int→Int→Int→Nat→Nat→Nat→Nat→Int→Int→Prop
 | 0,_,_,_,_,_,_,_,_,_,_,_,_=>False
 | b+1,l0,l1,l2,i3,i4,i5,n6,n7,n8,n9,i10,i11 =>
 (cbr (decide (i11<i10))
 (asr (decide ((0:Int)≤i11))
 (asr (decide (i11<((n8:Nat):Int)))
 (asr (decide ((List.length l0)=n9))
 (asr (decide ((0+(i11.toNat))<(List.length l0)))
 (lt (List.getD l0 (0+(i11.toNat)) .nils) (fun a =>
 (asr (conf (.agg [.i .i64,.i .i64,.i .i64]) a)
 (cbr (decide (i11<i5))
 (lt (IntKind.i64.wrap (i11+(1:Int))) (fun h =>
 (asr (decide (1=List.length ([(.int .i64 (yaa (yac a 0)))]:Ls))&&decide (1=List.length ([(.int .i64 (yaa (yac a 0)))]:Ls)))
 (yaZ a0 a1 a2 a3 a4 a5 a6 a7 a8 d e b l0 ([(.int .i64 (yaa (yac a 0)))]:Ls) l1 l2 i3 i4 i5 n6 n7 n8 n9 i10 h))))
 (lt (IntKind.i64.wrap (i11+(1:Int))) (fun j =>
 (asr (decide (1=List.length ([(.int .i64 (yaa (yac a 0)))]:Ls))&&decide (1=List.length ([(.int .i64 (yaa (yac a 0)))]:Ls)))
 (yf9 a0 a1 a2 a3 a4 a5 a6 a7 a8 f g b l0 ([(.int .i64 (yaa (yac a 0)))]:Ls) l1 l2 i3 i4 i5 n6 n7 n8 n9 i10 j))))))))))))
 (c l0 l1 l2 i3 i4 i5 n6 n7 n8 n9 i10 i11 false))
def yjy (a0:yal) (a1:yai) (a2:yad) (a3:yaf) (a4:yap) (a5:yaq) (a6:yae) (a7:yah) (a8:yak) (a:Int→Int→Int→Int→Bool→Prop):Nat→Int→Int→Int→Int→Prop
 | 0,_,_,_,_=>False
 | b+1,i0,i1,i2,i3 =>
 (cbr (decide (i3>i0))
 False
 (a i0 i1 i2 i3 false))
def yjz (a0:yal) (a1:yai) (a2:yad) (a3:yaf) (a4:yap) (a5:yaq) (a6:yae) (a7:yah) (a8:yak) (a:Ls→Int→Int→Int→Int→Bool→Prop):Nat→Ls→Int→Int→Int→Int→Prop
 | 0,_,_,_,_,_=>False
 | b+1,l0,i1,i2,i3,i4 =>
 (cbr (decide (i4>i1))
 False
 (a l0 i1 i2 i3 i4 false))
def yga (a0:yal) (a1:yai) (a2:yad) (a3:yaf) (a4:yap) (a5:yaq) (a6:yae) (a7:yah) (a8:yak) (e:Ls→Ls→Nat→Nat→Int→Int→Int→Int→Bool→Prop):Nat→Ls→Ls→Nat→Nat→Int→Int→Int→Int→Prop
 | 0,_,_,_,_,_,_,_,_=>False
 | j+1,l0,l1,n2,n3,i4,i5,i6,i7 =>
 (jn (fun (f:Bool→Prop) =>
 (cbr (decide (i7>i4))
 (asr (decide ((0:Int)≤i7))
 (asr (decide (i7<((n2:Nat):Int)))
 (asr (decide ((List.length l1)=n3))
 (asr (decide ((0+(i7.toNat))<(List.length l1)))
 (lt (List.getD l1 (0+(i7.toNat)) .nils) (fun g =>
 (asr (conf zI g)
 (lt (IntKind.i64.wrap (i7-(1:Int))) (fun c =>
 (asr (decide ((0:Int)≤c))
 (asr (decide (c<((n2:Nat):Int)))
 (asr (decide ((List.length l1)=n3))
 (asr (decide ((0+(c.toNat))<(List.length l1)))
 (lt (List.getD l1 (0+(c.toNat)) .nils) (fun h =>
 (asr (conf zI h)
 (a8 (yaa g) (yaa h) (fun k =>
 (f k)))))))))))))))))))
 (f false)))
 (fun l=>(cbr l
 (lt (IntKind.i64.wrap (i7-(1:Int))) (fun a =>
 (lt (IntKind.i64.wrap (i7-(1:Int))) (fun d =>
 (asr (decide ((0:Int)≤d))
 (asr (decide (d<((n2:Nat):Int)))
 (asr (decide ((List.length l1)=n3))
 (asr (decide ((0+(d.toNat))<(List.length l1)))
 (lt (List.getD l1 (0+(d.toNat)) .nils) (fun b =>
 (asr (conf zI b)
 (asr (decide ((0:Int)≤i7))
 (asr (decide (i7<((n2:Nat):Int)))
 (asr (decide ((List.length l1)=n3))
 (asr (decide ((0+(i7.toNat))<(List.length l1)))
 (lt (List.getD l1 (0+(i7.toNat)) .nils) (fun i =>
 (asr (conf zI i)
 (asr (decide ((0:Int)≤i7))
 (asr (decide (i7<((n2:Nat):Int)))
 (asr (decide ((List.length l1)=n3))
 (asr (decide ((0+(i7.toNat))<(List.length l1)))
 (lt (List.getD l1 (0+(i7.toNat)) .nils) (fun m =>
 (asr (conf zI m)
 (asr (decide ((0:Int)≤a))
 (asr (decide (a<((n2:Nat):Int)))
 (asr (decide ((List.length (List.set l1 (0+(i7.toNat)) (.int .i64 (yaa b))))=n3))
 (asr (decide ((0+(a.toNat))<(List.length (List.set l1 (0+(i7.toNat)) (.int .i64 (yaa b))))))
 (lt (List.getD (List.set l1 (0+(i7.toNat)) (.int .i64 (yaa b))) (0+(a.toNat)) .nils) (fun n =>
 (asr (conf zI n)
 (lt (IntKind.i64.wrap (i7-(1:Int))) (fun o =>
 (yga a0 a1 a2 a3 a4 a5 a6 a7 a8 e j l0 (List.set (List.set l1 (0+(i7.toNat)) (.int .i64 (yaa b))) (0+(a.toNat)) (.int .i64 (yaa i))) n2 n3 i4 i5 i6 o)))))))))))))))))))))))))))))))))))
 (e l0 l1 n2 n3 i4 i5 i6 i7 false))))
def yjA (a0:yal) (a1:yai) (a2:yad) (a3:yaf) (a4:yap) (a5:yaq) (a6:yae) (a7:yah) (a8:yak) (a:Ls→Ls→Int→Int→Int→Int→Bool→Prop):Nat→Ls→Ls→Int→Int→Int→Int→Prop
 | 0,_,_,_,_,_,_=>False
 | b+1,l0,l1,i2,i3,i4,i5 =>
 (cbr (decide (i5>i2))
 False
 (a l0 l1 i2 i3 i4 i5 false))
def yba (a0:yal) (a1:yai) (a2:yad) (a3:yaf) (a4:yap) (a5:yaq) (a6:yae) (a7:yah) (a8:yak) (e:Ls→Ls→Ls→Nat→Nat→Int→Int→Int→Int→Bool→Prop):Nat→Ls→Ls→Ls→Nat→Nat→Int→Int→Int→Int→Prop
 | 0,_,_,_,_,_,_,_,_,_=>False
 | j+1,l0,l1,l2,n3,n4,i5,i6,i7,i8 =>
 (jn (fun (f:Bool→Prop) =>
 (cbr (decide (i8>i5))
 (asr (decide ((0:Int)≤i8))
 (asr (decide (i8<((n3:Nat):Int)))
 (asr (decide ((List.length l1)=n4))
 (asr (decide ((0+(i8.toNat))<(List.length l1)))
 (lt (List.getD l1 (0+(i8.toNat)) .nils) (fun g =>
 (asr (conf zI g)
 (lt (IntKind.i64.wrap (i8-(1:Int))) (fun c =>
 (asr (decide ((0:Int)≤c))
 (asr (decide (c<((n3:Nat):Int)))
 (asr (decide ((List.length l1)=n4))
 (asr (decide ((0+(c.toNat))<(List.length l1)))
 (lt (List.getD l1 (0+(c.toNat)) .nils) (fun h =>
 (asr (conf zI h)
 (a8 (yaa g) (yaa h) (fun k =>
 (f k)))))))))))))))))))
 (f false)))
 (fun l=>(cbr l
 (lt (IntKind.i64.wrap (i8-(1:Int))) (fun a =>
 (lt (IntKind.i64.wrap (i8-(1:Int))) (fun d =>
 (asr (decide ((0:Int)≤d))
 (asr (decide (d<((n3:Nat):Int)))
 (asr (decide ((List.length l1)=n4))
 (asr (decide ((0+(d.toNat))<(List.length l1)))
 (lt (List.getD l1 (0+(d.toNat)) .nils) (fun b =>
 (asr (conf zI b)
 (asr (decide ((0:Int)≤i8))
 (asr (decide (i8<((n3:Nat):Int)))
 (asr (decide ((List.length l1)=n4))
 (asr (decide ((0+(i8.toNat))<(List.length l1)))
 (lt (List.getD l1 (0+(i8.toNat)) .nils) (fun i =>
 (asr (conf zI i)
 (asr (decide ((0:Int)≤i8))
 (asr (decide (i8<((n3:Nat):Int)))
 (asr (decide ((List.length l1)=n4))
 (asr (decide ((0+(i8.toNat))<(List.length l1)))
 (lt (List.getD l1 (0+(i8.toNat)) .nils) (fun m =>
 (asr (conf zI m)
 (asr (decide ((0:Int)≤a))
 (asr (decide (a<((n3:Nat):Int)))
 (asr (decide ((List.length (List.set l1 (0+(i8.toNat)) (.int .i64 (yaa b))))=n4))
 (asr (decide ((0+(a.toNat))<(List.length (List.set l1 (0+(i8.toNat)) (.int .i64 (yaa b))))))
 (lt (List.getD (List.set l1 (0+(i8.toNat)) (.int .i64 (yaa b))) (0+(a.toNat)) .nils) (fun n =>
 (asr (conf zI n)
 (lt (IntKind.i64.wrap (i8-(1:Int))) (fun o =>
 (yba a0 a1 a2 a3 a4 a5 a6 a7 a8 e j l0 (List.set (List.set l1 (0+(i8.toNat)) (.int .i64 (yaa b))) (0+(a.toNat)) (.int .i64 (yaa i))) l2 n3 n4 i5 i6 i7 o)))))))))))))))))))))))))))))))))))
 (e l0 l1 l2 n3 n4 i5 i6 i7 i8 false))))
def ybb (a0:yal) (a1:yai) (a2:yad) (a3:yaf) (a4:yap) (a5:yaq) (a6:yae) (a7:yah) (a8:yak) (e:Ls→Ls→Ls→Nat→Nat→Int→Int→Int→Int→Bool→Prop):Nat→Ls→Ls→Ls→Nat→Nat→Int→Int→Int→Int→Prop
 | 0,_,_,_,_,_,_,_,_,_=>False
 | j+1,l0,l1,l2,n3,n4,i5,i6,i7,i8 =>
 (jn (fun (f:Bool→Prop) =>
 (cbr (decide (i8>i5))
 (asr (decide ((0:Int)≤i8))
 (asr (decide (i8<((n3:Nat):Int)))
 (asr (decide ((List.length l2)=n4))
 (asr (decide ((0+(i8.toNat))<(List.length l2)))
 (lt (List.getD l2 (0+(i8.toNat)) .nils) (fun g =>
 (asr (conf zI g)
 (lt (IntKind.i64.wrap (i8-(1:Int))) (fun c =>
 (asr (decide ((0:Int)≤c))
 (asr (decide (c<((n3:Nat):Int)))
 (asr (decide ((List.length l2)=n4))
 (asr (decide ((0+(c.toNat))<(List.length l2)))
 (lt (List.getD l2 (0+(c.toNat)) .nils) (fun h =>
 (asr (conf zI h)
 (a8 (yaa g) (yaa h) (fun k =>
 (f k)))))))))))))))))))
 (f false)))
 (fun l=>(cbr l
 (lt (IntKind.i64.wrap (i8-(1:Int))) (fun a =>
 (lt (IntKind.i64.wrap (i8-(1:Int))) (fun d =>
 (asr (decide ((0:Int)≤d))
 (asr (decide (d<((n3:Nat):Int)))
 (asr (decide ((List.length l2)=n4))
 (asr (decide ((0+(d.toNat))<(List.length l2)))
 (lt (List.getD l2 (0+(d.toNat)) .nils) (fun b =>
 (asr (conf zI b)
 (asr (decide ((0:Int)≤i8))
 (asr (decide (i8<((n3:Nat):Int)))
 (asr (decide ((List.length l2)=n4))
 (asr (decide ((0+(i8.toNat))<(List.length l2)))
 (lt (List.getD l2 (0+(i8.toNat)) .nils) (fun i =>
 (asr (conf zI i)
 (asr (decide ((0:Int)≤i8))
 (asr (decide (i8<((n3:Nat):Int)))
 (asr (decide ((List.length l2)=n4))
 (asr (decide ((0+(i8.toNat))<(List.length l2)))
 (lt (List.getD l2 (0+(i8.toNat)) .nils) (fun m =>
 (asr (conf zI m)
 (asr (decide ((0:Int)≤a))
 (asr (decide (a<((n3:Nat):Int)))
 (asr (decide ((List.length (List.set l2 (0+(i8.toNat)) (.int .i64 (yaa b))))=n4))
 (asr (decide ((0+(a.toNat))<(List.length (List.set l2 (0+(i8.toNat)) (.int .i64 (yaa b))))))
 (lt (List.getD (List.set l2 (0+(i8.toNat)) (.int .i64 (yaa b))) (0+(a.toNat)) .nils) (fun n =>
 (asr (conf zI n)
 (lt (IntKind.i64.wrap (i8-(1:Int))) (fun o =>
 (ybb a0 a1 a2 a3 a4 a5 a6 a7 a8 e j l0 l1 (List.set (List.set l2 (0+(i8.toNat)) (.int .i64 (yaa b))) (0+(a.toNat)) (.int .i64 (yaa i))) n3 n4 i5 i6 i7 o)))))))))))))))))))))))))))))))))))
 (e l0 l1 l2 n3 n4 i5 i6 i7 i8 false))))
def ygb (a0:yal) (a1:yai) (a2:yad) (a3:yaf) (a4:yap) (a5:yaq) (a6:yae) (a7:yah) (a8:yak) (a:Int→Int→Int→Bool→Prop):Nat→Int→Int→Int→Prop
 | 0,_,_,_=>False
 | b+1,i0,i1,i2 =>
 (cbr (decide (i2<i1))
 (∃ c:Nat,yjv a0 a1 a2 a3 a4 a5 a6 a7 a8
 (fun d e f h i=>(lt (IntKind.i64.wrap (f+(1:Int))) (fun g =>
 (ygb a0 a1 a2 a3 a4 a5 a6 a7 a8 a b d e g))))
 c i0 i1 i2 i2)
 (a i0 i1 i2 false))
def ya0 (a0:yal) (a1:yai) (a2:yad) (a3:yaf) (a4:yap) (a5:yaq) (a6:yae) (a7:yah) (a8:yak) (b:Ls→Int→Int→Int→Bool→Prop):Nat→Ls→Int→Int→Int→Prop
 | 0,_,_,_,_=>False
 | c+1,l0,i3,i4,i5 =>
 (cbr (decide (i5<i4))
 (asr (decide ((List.length l0)=List.length l0)&&decide ((List.length l0)=List.length l0))
 (∃ d:Nat,ya9 a0 a1 a2 a3 a4 a5 a6 a7 a8
 (fun a e f g i j=>(lt (IntKind.i64.wrap (g+(1:Int))) (fun h =>
 (asr (decide ((List.length a)=List.length a)&&decide ((List.length a)=List.length a))
 (ya0 a0 a1 a2 a3 a4 a5 a6 a7 a8 b c a e f h)))))
 d l0 i3 i4 i5 i5))
 (b l0 i3 i4 i5 false))
def ygc (a0:yal) (a1:yai) (a2:yad) (a3:yaf) (a4:yap) (a5:yaq) (a6:yae) (a7:yah) (a8:yak) (a:Int→Int→Int→Bool→Prop):Nat→Int→Int→Int→Prop
 | 0,_,_,_=>False
 | b+1,i0,i1,i2 =>
 (cbr (decide (i2<i1))
 (∃ c:Nat,yjy a0 a1 a2 a3 a4 a5 a6 a7 a8
 (fun d e f h i=>(lt (IntKind.i64.wrap (f+(1:Int))) (fun g =>
 (ygc a0 a1 a2 a3 a4 a5 a6 a7 a8 a b d e g))))
 c i0 i1 i2 i2)
 (a i0 i1 i2 false))
def ygd (a0:yal) (a1:yai) (a2:yad) (a3:yaf) (a4:yap) (a5:yaq) (a6:yae) (a7:yah) (a8:yak) (a:Ls→Int→Int→Int→Bool→Prop):Nat→Ls→Int→Int→Int→Prop
 | 0,_,_,_,_=>False
 | b+1,l0,i1,i2,i3 =>
 (cbr (decide (i3<i2))
 (∃ c:Nat,yjz a0 a1 a2 a3 a4 a5 a6 a7 a8
 (fun d e f g i j=>(lt (IntKind.i64.wrap (g+(1:Int))) (fun h =>
 (ygd a0 a1 a2 a3 a4 a5 a6 a7 a8 a b d e f h))))
 c l0 i1 i2 i3 i3)
 (a l0 i1 i2 i3 false))
def yge (a0:yal) (a1:yai) (a2:yad) (a3:yaf) (a4:yap) (a5:yaq) (a6:yae) (a7:yah) (a8:yak) (a:Ls→Ls→Nat→Nat→Int→Int→Int→Bool→Prop):Nat→Ls→Ls→Nat→Nat→Int→Int→Int→Prop
 | 0,_,_,_,_,_,_,_=>False
 | b+1,l0,l1,n2,n3,i4,i5,i6 =>
 (cbr (decide (i6<i5))
 (∃ c:Nat,yga a0 a1 a2 a3 a4 a5 a6 a7 a8
 (fun d e f g h i j l m=>(lt (IntKind.i64.wrap (j+(1:Int))) (fun k =>
 (yge a0 a1 a2 a3 a4 a5 a6 a7 a8 a b d e f g h i k))))
 c l0 l1 n2 n3 i4 i5 i6 i6)
 (a l0 l1 n2 n3 i4 i5 i6 false))
def ygf (a0:yal) (a1:yai) (a2:yad) (a3:yaf) (a4:yap) (a5:yaq) (a6:yae) (a7:yah) (a8:yak) (a:Ls→Ls→Int→Int→Int→Bool→Prop):Nat→Ls→Ls→Int→Int→Int→Prop
 | 0,_,_,_,_,_=>False
 | b+1,l0,l1,i2,i3,i4 =>
 (cbr (decide (i4<i3))
 (∃ c:Nat,yjA a0 a1 a2 a3 a4 a5 a6 a7 a8
 (fun d e f g h j k=>(lt (IntKind.i64.wrap (h+(1:Int))) (fun i =>
 (ygf a0 a1 a2 a3 a4 a5 a6 a7 a8 a b d e f g i))))
 c l0 l1 i2 i3 i4 i4)
 (a l0 l1 i2 i3 i4 false))
def ybc (a0:yal) (a1:yai) (a2:yad) (a3:yaf) (a4:yap) (a5:yaq) (a6:yae) (a7:yah) (a8:yak) (a:Ls→Ls→Ls→Nat→Nat→Int→Int→Int→Bool→Prop):Nat→Ls→Ls→Ls→Nat→Nat→Int→Int→Int→Prop
 | 0,_,_,_,_,_,_,_,_=>False
 | b+1,l0,l1,l2,n3,n4,i5,i6,i7 =>
 (cbr (decide (i7<i6))
 (∃ c:Nat,yba a0 a1 a2 a3 a4 a5 a6 a7 a8
 (fun d e f g h i j k m n=>(lt (IntKind.i64.wrap (k+(1:Int))) (fun l =>
 (ybc a0 a1 a2 a3 a4 a5 a6 a7 a8 a b d e f g h i j l))))
 c l0 l1 l2 n3 n4 i5 i6 i7 i7)
 (a l0 l1 l2 n3 n4 i5 i6 i7 false))
def ybd (a0:yal) (a1:yai) (a2:yad) (a3:yaf) (a4:yap) (a5:yaq) (a6:yae) (a7:yah) (a8:yak) (a:Ls→Ls→Ls→Nat→Nat→Int→Int→Int→Bool→Prop):Nat→Ls→Ls→Ls→Nat→Nat→Int→Int→Int→Prop
 | 0,_,_,_,_,_,_,_,_=>False
 | b+1,l0,l1,l2,n3,n4,i5,i6,i7 =>
 (cbr (decide (i7<i6))
 (∃ c:Nat,ybb a0 a1 a2 a3 a4 a5 a6 a7 a8
 (fun d e f g h i j k m n=>(lt (IntKind.i64.wrap (k+(1:Int))) (fun l =>
 (ybd a0 a1 a2 a3 a4 a5 a6 a7 a8 a b d e f g h i j l))))
 c l0 l1 l2 n3 n4 i5 i6 i7 i7)
 (a l0 l1 l2 n3 n4 i5 i6 i7 false))
def ygg (a0:yal) (a1:yai) (a2:yad) (a3:yaf) (a4:yap) (a5:yaq) (a6:yae) (a7:yah) (a8:yak) (a:Prop):Nat→Int→Int→Int→Bool→Bool→Prop
 | 0,_,_,_,_,_=>False
 | e+1,i0,i1,i2,b3,b4 =>
 (lt (IntKind.i64.wrap (i1-i0)) (fun b =>
 (cbr (decide (b≤(12:Int)))
 (lt (IntKind.i64.wrap (i0+(1:Int))) (fun c =>
 (∃ d:Nat,ygc a0 a1 a2 a3 a4 a5 a6 a7 a8
 (fun f g h i=>a)
 d i0 i1 c)))
 False)))
def ygh (a0:yal) (a1:yai) (a2:yad) (a3:yaf) (a4:yap) (a5:yaq) (a6:yae) (a7:yah) (a8:yak) (a:Ls→Prop):Nat→Ls→Int→Int→Int→Bool→Bool→Prop
 | 0,_,_,_,_,_,_=>False
 | f+1,l0,i1,i2,i3,b4,b5 =>
 (lt (IntKind.i64.wrap (i2-i1)) (fun b =>
 (cbr (decide (b≤(12:Int)))
 (lt (IntKind.i64.wrap (i1+(1:Int))) (fun c =>
 (∃ d:Nat,ygd a0 a1 a2 a3 a4 a5 a6 a7 a8
 (fun e g h i j=>(a e))
 d l0 i1 i2 c)))
 False)))
def ygi (a0:yal) (a1:yai) (a2:yad) (a3:yaf) (a4:yap) (a5:yaq) (a6:yae) (a7:yah) (a8:yak) (a:Ls→Ls→Prop):Nat→Ls→Ls→Nat→Nat→Int→Int→Int→Bool→Bool→Prop
 | 0,_,_,_,_,_,_,_,_,_=>False
 | g+1,l0,l1,n2,n3,i4,i5,i6,b7,b8 =>
 (lt (IntKind.i64.wrap (i5-i4)) (fun b =>
 (cbr (decide (b≤(12:Int)))
 (lt (IntKind.i64.wrap (i4+(1:Int))) (fun c =>
 (∃ d:Nat,yge a0 a1 a2 a3 a4 a5 a6 a7 a8
 (fun e f h i j k l m=>(a e f))
 d l0 l1 n2 n3 i4 i5 c)))
 False)))
def ygj (a0:yal) (a1:yai) (a2:yad) (a3:yaf) (a4:yap) (a5:yaq) (a6:yae) (a7:yah) (a8:yak) (a:Ls→Ls→Prop):Nat→Ls→Ls→Int→Int→Int→Bool→Bool→Prop
 | 0,_,_,_,_,_,_,_=>False
 | g+1,l0,l1,i2,i3,i4,b5,b6 =>
 (lt (IntKind.i64.wrap (i3-i2)) (fun b =>
 (cbr (decide (b≤(12:Int)))
 (lt (IntKind.i64.wrap (i2+(1:Int))) (fun c =>
 (∃ d:Nat,ygf a0 a1 a2 a3 a4 a5 a6 a7 a8
 (fun e f h i j k=>(a e f))
 d l0 l1 i2 i3 c)))
 False)))
def ycb (a0:yal) (a1:yai) (a2:yad) (a3:yaf) (a4:yap) (a5:yaq) (a6:yae) (a7:yah) (a8:yak) (a:Ls→Ls→Ls→Prop):Nat→Ls→Ls→Ls→Nat→Nat→Int→Int→Int→Bool→Bool→Prop
 | 0,_,_,_,_,_,_,_,_,_,_=>False
 | h+1,l0,l1,l2,n3,n4,i5,i6,i7,b8,b9 =>
 (lt (IntKind.i64.wrap (i6-i5)) (fun b =>
 (cbr (decide (b≤(12:Int)))
 (lt (IntKind.i64.wrap (i5+(1:Int))) (fun c =>
 (∃ d:Nat,ybc a0 a1 a2 a3 a4 a5 a6 a7 a8
 (fun e f g i j k l m n=>(a e f g))
 d l0 l1 l2 n3 n4 i5 i6 c)))
 False)))
def ycc (a0:yal) (a1:yai) (a2:yad) (a3:yaf) (a4:yap) (a5:yaq) (a6:yae) (a7:yah) (a8:yak) (a:Ls→Ls→Ls→Prop):Nat→Ls→Ls→Ls→Nat→Nat→Int→Int→Int→Bool→Bool→Prop
 | 0,_,_,_,_,_,_,_,_,_,_=>False
 | h+1,l0,l1,l2,n3,n4,i5,i6,i7,b8,b9 =>
 (lt (IntKind.i64.wrap (i6-i5)) (fun b =>
 (cbr (decide (b≤(12:Int)))
 (lt (IntKind.i64.wrap (i5+(1:Int))) (fun c =>
 (∃ d:Nat,ybd a0 a1 a2 a3 a4 a5 a6 a7 a8
 (fun e f g i j k l m n=>(a e f g))
 d l0 l1 l2 n3 n4 i5 i6 c)))
 False)))
def ydC (a0:yal) (a1:yai) (a2:yad) (a3:yaf) (a4:yap) (a5:yaq) (a6:yae) (a7:yah) (a8:yak) (p0 p1 p2:Ls) (p3 p4 p5 p6:Int) (K:Ls→Ls→Int→Int→Ls→Ls→Int→Prop):Prop :=
 (a0 p0 p1 (fun M =>
 (cbr (M !=(0:Int))
 (K ([]:Ls) ([]:Ls) (0:Int) (0:Int) ([]:Ls) ([]:Ls) M)
 (jn (fun (r:Bool→Prop) =>
 (cbr (decide ((((List.length p2):Nat):Int)>(1:Int)))
 (asr (decide ((0:Int)<(((List.length p2):Nat):Int)))
 (lt (List.getD p2 0 .nils) (fun N =>
 (asr (conf zI N)
 (cbr (decide ((yaa N)≥(0:Int)))
 (lt (IntKind.i64.wrap ((((List.length p2):Nat):Int)-(1:Int))) (fun s =>
 (asr (decide ((0:Int)≤s))
 (asr (decide (s<(((List.length p2):Nat):Int)))
 (lt (List.getD p2 (s.toNat) .nils) (fun O =>
 (asr (conf zI O)
 (r (decide ((yaa O)<(((List.length p0):Nat):Int)))))))))))
 (r false))))))
 (r false)))
 (fun vd=>(∃ ve:Nat,ybl a0 a1 a2 a3 a4 a5 a6 a7 a8
 (fun l t vf u Q v w vg vh vi wG wH=>(a1 u Q v w (fun vj vk =>
 (jn (fun (k:Bool→Prop) =>
 (cbr (!vi)
 (k true)
 (cbr (vk !=(0:Int))
 (k true)
 (cbr (decide (vj≥(0:Int)))
 (k true)
 (cbr (decide (u<(0:Int)))
 (k true)
 (asr (decide ((0:Int)<(((List.length t):Nat):Int)))
 (lt (List.getD t 0 .nils) (fun R =>
 (asr (conf zK R)
 (a2 (yaa (yac R 0)) (fun vl vm =>
 (a3 v w vl vm (fun vn =>
 (k (decide (vn>(0:Int)))))))))))))))))
 (fun vo=>(cbr vo
 (K ([]:Ls) ([]:Ls) (0:Int) (0:Int) ([]:Ls) ([]:Ls) (2:Int))
 (lt (IntKind.i64.wrap (Int.tdiv (((List.length l):Nat):Int) (2:Int))) (fun S =>
 (a4 S (((List.length l):Nat):Int) (fun vp vq wI =>
 (∃ vr:Nat,ya8 a0 a1 a2 a3 a4 a5 a6 a7 a8
 (fun vs vt wJ wK wL wM vu vv vw wN wO wP wQ wR wS=>(∃ x:Nat,yju a0 a1 a2 a3 a4 a5 a6 a7 a8
 (fun T vx U wT wU=>(lt (IntKind.i64.wrap (U+(1:Int))) (fun vy =>
 (∃ y:Nat,ygb a0 a1 a2 a3 a4 a5 a6 a7 a8
 (fun wV wW wX wY=>(∃ z:Nat,yjw a0 a1 a2 a3 a4 a5 a6 a7 a8
 (fun wZ w0 w1=>(∃ A:Nat,yjx a0 a1 a2 a3 a4 a5 a6 a7 a8
 (fun w2 w3 w4 w5 vz w6 w7 w8=>(a6 (0:Int) (fun vA =>
 (∃ a:Nat,ygg a0 a1 a2 a3 a4 a5 a6 a7 a8
 (a6 (0:Int) (fun vB =>
 (∃ a:Nat,ygg a0 a1 a2 a3 a4 a5 a6 a7 a8
 (lt (IntKind.i64.wrap (vz-(1:Int))) (fun w9 =>
 False))
 a (0:Int) (0:Int) vB true true)))
 a (0:Int) (0:Int) vA true true))))
 A vs vt vu vv vw (0:Int) (0:Int)))
 z T vx))
 y U T vy))))
 x (0:Int) (20:Int) (0:Int) (20:Int)))
 (fun vC vD vE=>(K ([]:Ls) ([]:Ls) vC vD ([]:Ls) ([]:Ls) vE))
 (fun b vF vG vaa vab vac vad vH vI vJ vae vaf vag vah vai vaj=>(asr (decide ((List.length b)=List.length b)&&decide ((List.length b)=List.length b))
 (∃ x:Nat,yeh a0 a1 a2 a3 a4 a5 a6 a7 a8
 (fun j V vK W vak val=>(lt (IntKind.i64.wrap (W+(1:Int))) (fun vL =>
 (asr (decide ((List.length j)=List.length j)&&decide ((List.length j)=List.length j))
 (∃ y:Nat,ya0 a0 a1 a2 a3 a4 a5 a6 a7 a8
 (fun vM vam van vao vap=>(∃ z:Nat,yei a0 a1 a2 a3 a4 a5 a6 a7 a8
 (fun vN vaq var vas vat vau=>(∃ A:Nat,ydc a0 a1 a2 a3 a4 a5 a6 a7 a8
 (fun vO vP vQ vav vaw vR vS vT vax vay vaz vaA vaB=>(a6 (0:Int) (fun vU =>
 (∃ a:Nat,ygh a0 a1 a2 a3 a4 a5 a6 a7 a8
 (fun vV=>(a6 (0:Int) (fun vW =>
 (∃ a:Nat,ygh a0 a1 a2 a3 a4 a5 a6 a7 a8
 (fun B=>(lt (IntKind.i64.wrap (vR-(1:Int))) (fun m =>
 (asr (decide ((0:Int)≤m))
 (asr (decide (m<((vS:Nat):Int)))
 (asr (decide ((List.length B)=vT))
 (asr (decide ((0+(m.toNat))<(List.length B)))
 (lt (List.getD B (0+(m.toNat)) .nils) (fun C =>
 (asr (conf (.agg [.i .i64,.i .i64,.i .i64]) C)
 (K vP vQ (yaa (yac C 1)) (yaa (yac C 2)) ([]:Ls) ([]:Ls) (0:Int))))))))))))
 a vV (0:Int) (0:Int) vW true true))))
 a vO (0:Int) (0:Int) vU true true))))
 (fun vX c vY vZ vaC vaD v0 v1 v2 vaE vaF vaG vaH vaI=>(a6 (IntKind.u64.wrap (((List.length c):Nat):Int)) (fun v3 =>
 (∃ a:Nat,ygi a0 a1 a2 a3 a4 a5 a6 a7 a8
 (fun v4 v5=>(a6 (0:Int) (fun v6 =>
 (∃ a:Nat,ygj a0 a1 a2 a3 a4 a5 a6 a7 a8
 (fun D X=>(lt (IntKind.i64.wrap (v0-(1:Int))) (fun n =>
 (asr (decide ((0:Int)≤n))
 (asr (decide (n<((v1:Nat):Int)))
 (asr (decide ((List.length D)=v2))
 (asr (decide ((0+(n.toNat))<(List.length D)))
 (lt (List.getD D (0+(n.toNat)) .nils) (fun E =>
 (asr (conf (.agg [.i .i64,.i .i64,.i .i64]) E)
 (asr (decide ((List.length X)=(List.length c)))
 (asr (decide ((0+(List.length c))≤(List.length c)))
 (K vY vZ (yaa (yac E 1)) (yaa (yac E 2)) (List.take (List.length c) X) ([]:Ls) (0:Int))))))))))))))
 a v4 v5 (0:Int) (0:Int) v6 true true))))
 a vX c (List.length c) (List.length c) (0:Int) (((List.length c):Nat):Int) v3 true true))))
 (fun v7 d e v8 v9 vaJ vaK wa wb wc vaL vaM vaN vaO vaP=>(a6 (IntKind.u64.wrap (((List.length d):Nat):Int)) (fun wd =>
 (∃ a:Nat,ycb a0 a1 a2 a3 a4 a5 a6 a7 a8
 (fun we wf wg=>(a6 (IntKind.u64.wrap (((List.length e):Nat):Int)) (fun wh =>
 (∃ a:Nat,ycc a0 a1 a2 a3 a4 a5 a6 a7 a8
 (fun F Y Z=>(lt (IntKind.i64.wrap (wa-(1:Int))) (fun o =>
 (asr (decide ((0:Int)≤o))
 (asr (decide (o<((wb:Nat):Int)))
 (asr (decide ((List.length F)=wc))
 (asr (decide ((0+(o.toNat))<(List.length F)))
 (lt (List.getD F (0+(o.toNat)) .nils) (fun G =>
 (asr (conf (.agg [.i .i64,.i .i64,.i .i64]) G)
 (asr (decide ((List.length Y)=(List.length d)))
 (asr (decide ((0+(List.length d))≤(List.length d)))
 (asr (decide ((List.length Z)=(List.length e)))
 (asr (decide ((0+(List.length e))≤(List.length e)))
 (K v8 v9 (yaa (yac G 1)) (yaa (yac G 2)) (List.take (List.length d) Y) (List.take (List.length e) Z) (0:Int))))))))))))))))
 a we wf wg (List.length e) (List.length e) (0:Int) (((List.length e):Nat):Int) wh true true))))
 a v7 d e (List.length d) (List.length d) (0:Int) (((List.length d):Nat):Int) wd true true))))
 (fun wi f wj wk vaQ vaR wl wm wn vaS vaT vaU vaV vaW=>(a6 (0:Int) (fun wo =>
 (∃ a:Nat,ygj a0 a1 a2 a3 a4 a5 a6 a7 a8
 (fun wp wq=>(a6 (IntKind.u64.wrap (((List.length f):Nat):Int)) (fun wr =>
 (∃ a:Nat,ygi a0 a1 a2 a3 a4 a5 a6 a7 a8
 (fun H va=>(lt (IntKind.i64.wrap (wl-(1:Int))) (fun p =>
 (asr (decide ((0:Int)≤p))
 (asr (decide (p<((wm:Nat):Int)))
 (asr (decide ((List.length H)=wn))
 (asr (decide ((0+(p.toNat))<(List.length H)))
 (lt (List.getD H (0+(p.toNat)) .nils) (fun I =>
 (asr (conf (.agg [.i .i64,.i .i64,.i .i64]) I)
 (asr (decide ((List.length va)=(List.length f)))
 (asr (decide ((0+(List.length f))≤(List.length f)))
 (K wj wk (yaa (yac I 1)) (yaa (yac I 2)) ([]:Ls) (List.take (List.length f) va) (0:Int))))))))))))))
 a wp wq (List.length f) (List.length f) (0:Int) (((List.length f):Nat):Int) wr true true))))
 a wi f (0:Int) (0:Int) wo true true))))
 (fun ws g h wt wu vaX vaY wv ww wx vaZ va0 va1 va2 va3=>(a6 (IntKind.u64.wrap (((List.length h):Nat):Int)) (fun wy =>
 (∃ a:Nat,ycc a0 a1 a2 a3 a4 a5 a6 a7 a8
 (fun wz wA wB=>(a6 (IntKind.u64.wrap (((List.length g):Nat):Int)) (fun wC =>
 (∃ a:Nat,ycb a0 a1 a2 a3 a4 a5 a6 a7 a8
 (fun J vb vc=>(lt (IntKind.i64.wrap (wv-(1:Int))) (fun q =>
 (asr (decide ((0:Int)≤q))
 (asr (decide (q<((ww:Nat):Int)))
 (asr (decide ((List.length J)=wx))
 (asr (decide ((0+(q.toNat))<(List.length J)))
 (lt (List.getD J (0+(q.toNat)) .nils) (fun L =>
 (asr (conf (.agg [.i .i64,.i .i64,.i .i64]) L)
 (asr (decide ((List.length vc)=(List.length h)))
 (asr (decide ((0+(List.length h))≤(List.length h)))
 (asr (decide ((List.length vb)=(List.length g)))
 (asr (decide ((0+(List.length g))≤(List.length g)))
 (K wt wu (yaa (yac L 1)) (yaa (yac L 2)) (List.take (List.length h) vc) (List.take (List.length g) vb) (0:Int))))))))))))))))
 a wz wA wB (List.length g) (List.length g) (0:Int) (((List.length g):Nat):Int) wC true true))))
 a ws g h (List.length h) (List.length h) (0:Int) (((List.length h):Nat):Int) wy true true))))
 A vN vF vG vH vI vJ (List.length b) (List.length b) (List.length b) (List.length b) (((List.length b):Nat):Int) (0:Int)))
 z vM (List.length j) (List.length j) V vK))
 y j W V vL)))))
 x b (((List.length b):Nat):Int) (20:Int) (0:Int) (20:Int))))
 (fun va4 wD wE wF=>(K ([]:Ls) ([]:Ls) wD wE ([]:Ls) ([]:Ls) wF))
 vr t vf u Q v w vg vh S vp vq l (((List.length l):Nat):Int) (0:Int))))))))))))
 ve p2 p0 p1 p3 p4 p5 p6 (0:Int) (0:Int) vd (1:Int)))))))
def yau:yaL:=ydC yaT yaS yaJ yaK yaN yam yc8 yax yao
def ywY:Sg:=⟨(lC pt16 (lC vD pt11)),Ls→Ls→Int→Int→Ls→Ls→Int→Prop,fun K=>(fun r0 r1 r2 r3 r4 r5 r6=>K (.tup [(.agg [(.data r0),(.data r1)]),(.agg [(.int .i64 r2),(.int .i64 r3)]),(.data r4),(.data r5),(.int .i64 r6)]))⟩
def yrJ (Q:Qx):Ls→Ls→Ls→Int→Int→Int→Int→Int→Int→Bool→Int→Bool→Prop:=(fun l0 l1 l2 i3 i4 i5 i6 i7 i8 b9 i10 b11=>Q (.exit 0) [(1,.v (.data l0)),(4,.box (.agg [(.data l1),(.data l2)])),(6,.box (.agg [(.int .i64 i3),(.int .i64 i4)])),(7,.box (.agg [(.int .i64 i5),(.int .i64 i6)])),(8,.box (.agg [.nils,.nils])),(9,.box (.agg [(.int .i64 i7),(.int .i64 i8)])),(10,.v .nils),(11,.v .nils),(14,.v (.bool b9)),(15,.v (.int .i64 i10)),(58,.v (.bool b11))] [])
def yrK (Q:Qx):Ls→Ls→Int→Int→Int→Int→Int→Int→Int→Int→Int→Ls→Int→Int→Bool→Prop:=(fun l0 l1 i2 i3 i4 i5 i6 i7 i8 i9 i10 l11 i12 i13 b14=>Q (.exit 2) [(4,.box (.agg [(.data l0),(.data l1)])),(6,.box (.agg [(.int .i64 i2),(.int .i64 i3)])),(7,.box (.agg [(.int .i64 i4),(.int .i64 i5)])),(8,.box (.agg [.nils,.nils])),(9,.box (.agg [(.int .i64 i6),(.int .i64 i7)])),(10,.v .nils),(11,.v .nils),(18,.v (.int .i64 i8)),(19,.box (.agg [(.int .i64 i9),(.int .i64 i10)])),(21,.v .nils),(118,.v (.data l11)),(119,.v (.int .i64 i12)),(120,.v (.int .i64 i13)),(121,.v (.bool b14))] [])
def yrL (Q:Qx):Int→Int→Int→Prop:=(fun i0 i1 i2=>Q .ret [(8,.box (.agg [.nils,.nils])),(9,.box (.agg [(.int .i64 i0),(.int .i64 i1)])),(10,.v .nils),(11,.v .nils),(12,.v (.int .i64 i2))] [])
def yjB (Q:Qx):Ls→Ls→Ls→Int→Int→Int→Int→Int→Int→Int→Int→Int→Ls→Int→Int→Bool→Prop:=(fun l0 l1 l2 i3 i4 i5 i6 i7 i8 i9 i10 i11 l14 i15 i16 b17=>Q (.exit 2) [(4,.box (.agg [(.data l1),(.data l2)])),(6,.box (.agg [(.int .i64 i3),(.int .i64 i4)])),(7,.box (.agg [(.int .i64 i5),(.int .i64 i6)])),(8,.box (.agg [.nils,.nils])),(9,.box (.agg [(.int .i64 i7),(.int .i64 i8)])),(10,.v .nils),(11,.v .nils),(18,.v (.int .i64 i9)),(19,.box (.agg [(.int .i64 i10),(.int .i64 i11)])),(21,.v (.own 0 0 (List.length l0) (List.length l0) none)),(118,.v (.data l14)),(119,.v (.int .i64 i15)),(120,.v (.int .i64 i16)),(121,.v (.bool b17))] [⟨false,true,3,l0⟩])
def yjC (Q:Qx):Ls→Int→Int→Int→Prop:=(fun l0 i1 i2 i3=>Q .ret [(8,.box (.agg [.nils,.nils])),(9,.box (.agg [(.int .i64 i1),(.int .i64 i2)])),(10,.v .nils),(11,.v .nils),(12,.v (.int .i64 i3))] [⟨false,true,3,l0⟩])
def yrM (Q:Qx):Int→Int→Int→Int→Bool→Prop:=(fun i0 i1 i2 i3 b4=>Q (.exit 0) [(0,.v .nils),(1,.v (.int .i64 i0)),(2,.v (.fn (.func yaU) [] [])),(6,.v (.int .i64 i1)),(7,.v (.int .i64 i2)),(8,.v (.int .i64 i3)),(13,.v (.bool b4))] [])
def yrN (Q:Qx):Ls→Int→Int→Int→Int→Bool→Prop:=(fun l0 i3 i4 i5 i6 b7=>Q (.exit 0) [(0,.v (.own 0 0 (List.length l0) (List.length l0) none)),(1,.v (.int .i64 i3)),(2,.v (.fn (.func yaU) [] [])),(6,.v (.int .i64 i4)),(7,.v (.int .i64 i5)),(8,.v (.int .i64 i6)),(13,.v (.bool b7))] [⟨false,true,3,l0⟩])
def yrO (Q:Qx):Int→Int→Int→Int→Bool→Prop:=(fun i0 i1 i2 i3 b4=>Q (.exit 2) [(0,.v .nils),(1,.v (.int .i64 i0)),(2,.v (.int .i64 i1)),(3,.v (.fn (.func yaU) [] [])),(8,.v (.int .i64 i2)),(9,.v (.int .i64 i3)),(34,.v (.bool b4))] [])
def yrP (Q:Qx):Ls→Int→Int→Int→Int→Bool→Prop:=(fun l0 i3 i4 i5 i6 b7=>Q (.exit 2) [(0,.v (.own 0 0 (List.length l0) (List.length l0) none)),(1,.v (.int .i64 i3)),(2,.v (.int .i64 i4)),(3,.v (.fn (.func yaU) [] [])),(8,.v (.int .i64 i5)),(9,.v (.int .i64 i6)),(34,.v (.bool b7))] [⟨false,true,3,l0⟩])
def yrQ (Q:Qx):Int→Int→Bool→Prop:=(fun i0 i1 b2=>Q (.exit 2) [(0,.v .nils),(1,.v (.int .i64 i0)),(2,.v (.fn (.func yaU) [] [])),(6,.v (.int .i64 i1)),(30,.v (.bool b2))] [])
def yrR (Q:Qx):Ls→Nat→Nat→Int→Int→Bool→Prop:=(fun l0 n1 n2 i3 i4 b5=>Q (.exit 2) [(0,.v (.own 0 0 n1 n2 none)),(1,.v (.int .i64 i3)),(2,.v (.fn (.func yaU) [] [])),(6,.v (.int .i64 i4)),(30,.v (.bool b5))] [⟨false,true,3,l0⟩])
def yrS (Q:Qx):Ls→Ls→Int→Int→Int→Int→Int→Bool→Prop:=(fun l0 l1 i2 i3 i4 i5 i6 b7=>Q (.exit 4) [(4,.box (.agg [(.data l0),(.data l1)])),(8,.box (.agg [.nils,.nils])),(9,.box (.agg [(.int .i64 i2),(.int .i64 i3)])),(10,.v .nils),(11,.v .nils),(18,.v (.int .i64 i4)),(21,.v .nils),(148,.v .nils),(149,.v (.int .i64 i5)),(150,.v (.int .i64 i6)),(151,.v (.bool b7))] [])
def yrT (Q:Qx):Ls→Ls→Ls→Int→Int→Int→Nat→Nat→Nat→Nat→Int→Int→Bool→Prop:=(fun l0 l1 l2 i3 i4 i5 n6 n7 n8 n9 i10 i11 b12=>Q (.exit 4) [(4,.box (.agg [(.data l1),(.data l2)])),(8,.box (.agg [.nils,.nils])),(9,.box (.agg [(.int .i64 i3),(.int .i64 i4)])),(10,.v .nils),(11,.v .nils),(18,.v (.int .i64 i5)),(21,.v (.own 0 0 n6 n7 none)),(148,.v (.own 0 0 n8 n9 none)),(149,.v (.int .i64 i10)),(150,.v (.int .i64 i11)),(151,.v (.bool b12))] [⟨false,true,3,l0⟩])
def yjD (Q:Qx):Ls→Ls→Ls→Ls→Int→Int→Int→Nat→Nat→Nat→Nat→Int→Int→Bool→Prop:=(fun l0 l1 l2 l3 i4 i5 i8 n9 n10 n11 n12 i13 i14 b15=>Q (.exit 4) [(4,.box (.agg [(.data l2),(.data l3)])),(8,.box (.agg [.nils,.nils])),(9,.box (.agg [(.int .i64 i4),(.int .i64 i5)])),(10,.v (.own 1 0 (List.length l1) (List.length l1) none)),(11,.v .nils),(18,.v (.int .i64 i8)),(21,.v (.own 0 0 n9 n10 none)),(148,.v (.own 0 0 n11 n12 none)),(149,.v (.int .i64 i13)),(150,.v (.int .i64 i14)),(151,.v (.bool b15))] [⟨false,true,3,l0⟩,⟨false,true,1,l1⟩])
def ygk (Q:Qx):Ls→Ls→Ls→Ls→Ls→Int→Int→Int→Nat→Nat→Nat→Nat→Int→Int→Bool→Prop:=(fun l0 l1 l2 l3 l4 i5 i6 i11 n12 n13 n14 n15 i16 i17 b18=>Q (.exit 4) [(4,.box (.agg [(.data l3),(.data l4)])),(8,.box (.agg [.nils,.nils])),(9,.box (.agg [(.int .i64 i5),(.int .i64 i6)])),(10,.v (.own 1 0 (List.length l1) (List.length l1) none)),(11,.v (.own 2 0 (List.length l2) (List.length l2) none)),(18,.v (.int .i64 i11)),(21,.v (.own 0 0 n12 n13 none)),(148,.v (.own 0 0 n14 n15 none)),(149,.v (.int .i64 i16)),(150,.v (.int .i64 i17)),(151,.v (.bool b18))] [⟨false,true,3,l0⟩,⟨false,true,1,l1⟩,⟨false,true,1,l2⟩])
def yjE (Q:Qx):Ls→Ls→Ls→Ls→Int→Int→Int→Nat→Nat→Nat→Nat→Int→Int→Bool→Prop:=(fun l0 l1 l2 l3 i4 i5 i8 n9 n10 n11 n12 i13 i14 b15=>Q (.exit 4) [(4,.box (.agg [(.data l2),(.data l3)])),(8,.box (.agg [.nils,.nils])),(9,.box (.agg [(.int .i64 i4),(.int .i64 i5)])),(10,.v .nils),(11,.v (.own 1 0 (List.length l1) (List.length l1) none)),(18,.v (.int .i64 i8)),(21,.v (.own 0 0 n9 n10 none)),(148,.v (.own 0 0 n11 n12 none)),(149,.v (.int .i64 i13)),(150,.v (.int .i64 i14)),(151,.v (.bool b15))] [⟨false,true,3,l0⟩,⟨false,true,1,l1⟩])
def ygl (Q:Qx):Ls→Ls→Ls→Ls→Ls→Int→Int→Int→Nat→Nat→Nat→Nat→Int→Int→Bool→Prop:=(fun l0 l1 l2 l3 l4 i5 i6 i11 n12 n13 n14 n15 i16 i17 b18=>Q (.exit 4) [(4,.box (.agg [(.data l3),(.data l4)])),(8,.box (.agg [.nils,.nils])),(9,.box (.agg [(.int .i64 i5),(.int .i64 i6)])),(10,.v (.own 2 0 (List.length l2) (List.length l2) none)),(11,.v (.own 1 0 (List.length l1) (List.length l1) none)),(18,.v (.int .i64 i11)),(21,.v (.own 0 0 n12 n13 none)),(148,.v (.own 0 0 n14 n15 none)),(149,.v (.int .i64 i16)),(150,.v (.int .i64 i17)),(151,.v (.bool b18))] [⟨false,true,3,l0⟩,⟨false,true,1,l1⟩,⟨false,true,1,l2⟩])
def yrU (Q:Qx):Int→Int→Int→Int→Bool→Prop:=(fun i0 i1 i2 i3 b4=>Q (.exit 2) [(0,.v .nils),(1,.v (.int .i64 i0)),(2,.v (.int .i64 i1)),(6,.v (.int .i64 i2)),(7,.v (.int .i64 i3)),(30,.v (.bool b4))] [])
def yrV (Q:Qx):Ls→Int→Int→Int→Int→Bool→Prop:=(fun l0 i1 i2 i3 i4 b5=>Q (.exit 2) [(0,.v .nils),(1,.v (.int .i64 i1)),(2,.v (.int .i64 i2)),(6,.v (.int .i64 i3)),(7,.v (.int .i64 i4)),(30,.v (.bool b5))] [⟨false,true,3,l0⟩])
def yrW (Q:Qx):Ls→Ls→Nat→Nat→Int→Int→Int→Int→Bool→Prop:=(fun l0 l1 n2 n3 i4 i5 i6 i7 b8=>Q (.exit 2) [(0,.v (.own 1 0 n2 n3 none)),(1,.v (.int .i64 i4)),(2,.v (.int .i64 i5)),(6,.v (.int .i64 i6)),(7,.v (.int .i64 i7)),(30,.v (.bool b8))] [⟨false,true,3,l0⟩,⟨false,true,1,l1⟩])
def yrX (Q:Qx):Ls→Ls→Int→Int→Int→Int→Bool→Prop:=(fun l0 l1 i2 i3 i4 i5 b6=>Q (.exit 2) [(0,.v .nils),(1,.v (.int .i64 i2)),(2,.v (.int .i64 i3)),(6,.v (.int .i64 i4)),(7,.v (.int .i64 i5)),(30,.v (.bool b6))] [⟨false,true,3,l0⟩,⟨false,true,1,l1⟩])
def yrY (Q:Qx):Ls→Ls→Ls→Nat→Nat→Int→Int→Int→Int→Bool→Prop:=(fun l0 l1 l2 n3 n4 i5 i6 i7 i8 b9=>Q (.exit 2) [(0,.v (.own 1 0 n3 n4 none)),(1,.v (.int .i64 i5)),(2,.v (.int .i64 i6)),(6,.v (.int .i64 i7)),(7,.v (.int .i64 i8)),(30,.v (.bool b9))] [⟨false,true,3,l0⟩,⟨false,true,1,l1⟩,⟨false,true,1,l2⟩])
def yrZ (Q:Qx):Ls→Ls→Ls→Nat→Nat→Int→Int→Int→Int→Bool→Prop:=(fun l0 l1 l2 n3 n4 i5 i6 i7 i8 b9=>Q (.exit 2) [(0,.v (.own 2 0 n3 n4 none)),(1,.v (.int .i64 i5)),(2,.v (.int .i64 i6)),(6,.v (.int .i64 i7)),(7,.v (.int .i64 i8)),(30,.v (.bool b9))] [⟨false,true,3,l0⟩,⟨false,true,1,l1⟩,⟨false,true,1,l2⟩])
def yr0 (Q:Qx):Int→Int→Int→Bool→Prop:=(fun i0 i1 i2 b3=>Q (.exit 0) [(0,.v .nils),(1,.v (.int .i64 i0)),(2,.v (.int .i64 i1)),(3,.v (.fn (.func yaU) [] [])),(8,.v (.int .i64 i2)),(14,.v (.bool b3))] [])
def yr1 (Q:Qx):Ls→Int→Int→Int→Bool→Prop:=(fun l0 i3 i4 i5 b6=>Q (.exit 0) [(0,.v (.own 0 0 (List.length l0) (List.length l0) none)),(1,.v (.int .i64 i3)),(2,.v (.int .i64 i4)),(3,.v (.fn (.func yaU) [] [])),(8,.v (.int .i64 i5)),(14,.v (.bool b6))] [⟨false,true,3,l0⟩])
def yr2 (Q:Qx):Int→Int→Int→Bool→Prop:=(fun i0 i1 i2 b3=>Q (.exit 0) [(0,.v .nils),(1,.v (.int .i64 i0)),(2,.v (.int .i64 i1)),(6,.v (.int .i64 i2)),(12,.v (.bool b3))] [])
def yr3 (Q:Qx):Ls→Int→Int→Int→Bool→Prop:=(fun l0 i1 i2 i3 b4=>Q (.exit 0) [(0,.v .nils),(1,.v (.int .i64 i1)),(2,.v (.int .i64 i2)),(6,.v (.int .i64 i3)),(12,.v (.bool b4))] [⟨false,true,3,l0⟩])
def yr4 (Q:Qx):Ls→Ls→Nat→Nat→Int→Int→Int→Bool→Prop:=(fun l0 l1 n2 n3 i4 i5 i6 b7=>Q (.exit 0) [(0,.v (.own 1 0 n2 n3 none)),(1,.v (.int .i64 i4)),(2,.v (.int .i64 i5)),(6,.v (.int .i64 i6)),(12,.v (.bool b7))] [⟨false,true,3,l0⟩,⟨false,true,1,l1⟩])
def yr5 (Q:Qx):Ls→Ls→Int→Int→Int→Bool→Prop:=(fun l0 l1 i2 i3 i4 b5=>Q (.exit 0) [(0,.v .nils),(1,.v (.int .i64 i2)),(2,.v (.int .i64 i3)),(6,.v (.int .i64 i4)),(12,.v (.bool b5))] [⟨false,true,3,l0⟩,⟨false,true,1,l1⟩])
def yr6 (Q:Qx):Ls→Ls→Ls→Nat→Nat→Int→Int→Int→Bool→Prop:=(fun l0 l1 l2 n3 n4 i5 i6 i7 b8=>Q (.exit 0) [(0,.v (.own 1 0 n3 n4 none)),(1,.v (.int .i64 i5)),(2,.v (.int .i64 i6)),(6,.v (.int .i64 i7)),(12,.v (.bool b8))] [⟨false,true,3,l0⟩,⟨false,true,1,l1⟩,⟨false,true,1,l2⟩])
def yr7 (Q:Qx):Ls→Ls→Ls→Nat→Nat→Int→Int→Int→Bool→Prop:=(fun l0 l1 l2 n3 n4 i5 i6 i7 b8=>Q (.exit 0) [(0,.v (.own 2 0 n3 n4 none)),(1,.v (.int .i64 i5)),(2,.v (.int .i64 i6)),(6,.v (.int .i64 i7)),(12,.v (.bool b8))] [⟨false,true,3,l0⟩,⟨false,true,1,l1⟩,⟨false,true,1,l2⟩])
def yr8 (Q:Qx):Prop:=Q .ret [] []
def yr9 (Q:Qx):Ls→Prop:=(fun l0=>Q .ret [] [⟨false,true,3,l0⟩])
def yjF (Q:Qx):Ls→Ls→Prop:=(fun l0 l1=>Q .ret [] [⟨false,true,3,l0⟩,⟨false,true,1,l1⟩])
def yjG (Q:Qx):Ls→Ls→Ls→Prop:=(fun l0 l1 l2=>Q .ret [] [⟨false,true,3,l0⟩,⟨false,true,1,l1⟩,⟨false,true,1,l2⟩])
def pt22:VPt:=vA (lC vNs (lC vNs lN))
def ykD (a0:yal) (a1:yai) (a2:yad) (a3:yaf) (a4:yap) (a5:yaq) (a6:yae) (a7:yah) (a8:yak) (Q:Qx):List St:=[⟨(pS hN (fV 1 vD (fX 4 pt16 (fX 6 pt7 (fX 7 pt7 (fX 8 pt22 (fX 9 pt7 (fV 10 vNs (fV 11 vNs (fV 14 vB (fV 15 pt0 fN)))))))))) fN),ybl a0 a1 a2 a3 a4 a5 a6 a7 a8 (yrJ Q)⟩]
def pt23:Pat Frm:=fV 118 vD (fV 119 pt0 (fV 120 pt0 fN))
def ykE (a0:yal) (a1:yai) (a2:yad) (a3:yaf) (a4:yap) (a5:yaq) (a6:yae) (a7:yah) (a8:yak) (Q:Qx):List St:=[⟨(pS hN (fX 4 pt16 (fX 6 pt7 (fX 7 pt7 (fX 8 pt22 (fX 9 pt7 (fV 10 vNs (fV 11 vNs (fV 18 pt0 (fX 19 pt7 (fV 21 vNs pt23)))))))))) fN),ya8 a0 a1 a2 a3 a4 a5 a6 a7 a8 (yrK Q) (yrL Q) (yjB Q) (yjC Q)⟩,⟨(pS pt17 (fX 4 pt16 (fX 6 pt7 (fX 7 pt7 (fX 8 pt22 (fX 9 pt7 (fV 10 vNs (fV 11 vNs (fV 18 pt0 (fX 19 pt7 (fV 21 pt18 pt23)))))))))) fN),yaB a0 a1 a2 a3 a4 a5 a6 a7 a8 (yjB Q) (yjC Q)⟩]
def pt24:VPt:=vF yaU lN lN
def pt25:Pat Frm:=fV 1 pt0 (fV 2 pt24 (fV 6 pt0 (fV 7 pt0 (fV 8 pt0 fN))))
def ykF (a0:yal) (a1:yai) (a2:yad) (a3:yaf) (a4:yap) (a5:yaq) (a6:yae) (a7:yah) (a8:yak) (Q:Qx):List St:=[⟨(pS hN (fV 0 vNs pt25) fN),yju a0 a1 a2 a3 a4 a5 a6 a7 a8 (yrM Q)⟩,⟨(pS pt17 (fV 0 pt18 pt25) fN),yeh a0 a1 a2 a3 a4 a5 a6 a7 a8 (yrN Q)⟩]
def pt26:Pat Frm:=fV 1 pt0 (fV 2 pt0 (fV 3 pt24 (fV 8 pt0 (fV 9 pt0 fN))))
def ykG (a0:yal) (a1:yai) (a2:yad) (a3:yaf) (a4:yap) (a5:yaq) (a6:yae) (a7:yah) (a8:yak) (Q:Qx):List St:=[⟨(pS hN (fV 0 vNs pt26) fN),yjv a0 a1 a2 a3 a4 a5 a6 a7 a8 (yrO Q)⟩,⟨(pS pt17 (fV 0 pt18 pt26) fN),ya9 a0 a1 a2 a3 a4 a5 a6 a7 a8 (yrP Q)⟩]
def pt27:Pat Frm:=fV 1 pt0 (fV 2 pt24 (fV 6 pt0 fN))
def pt28:VPt:=vW 0 (nK 0) nV nV
def ykH (a0:yal) (a1:yai) (a2:yad) (a3:yaf) (a4:yap) (a5:yaq) (a6:yae) (a7:yah) (a8:yak) (Q:Qx):List St:=[⟨(pS hN (fV 0 vNs pt27) fN),yjw a0 a1 a2 a3 a4 a5 a6 a7 a8 (yrQ Q)⟩,⟨(pS pt17 (fV 0 pt28 pt27) fN),yei a0 a1 a2 a3 a4 a5 a6 a7 a8 (yrR Q)⟩]
def pt29:Pat Frm:=fV 149 pt0 (fV 150 pt0 fN)
def pt30:Pat Frm:=fV 18 pt0 (fV 21 pt28 (fV 148 pt28 pt29))
def pt31:HPt:=hB false true 1 rA hN
def pt32:HPt:=hB false true 3 rA pt31
def pt33:VPt:=vW 1 (nK 0) (nT 1) (nT 1)
def pt34:HPt:=hB false true 3 rA (hB false true 1 rA pt31)
def pt35:VPt:=vW 2 (nK 0) (nT 2) (nT 2)
def ykI (a0:yal) (a1:yai) (a2:yad) (a3:yaf) (a4:yap) (a5:yaq) (a6:yae) (a7:yah) (a8:yak) (Q:Qx):List St:=[⟨(pS hN (fX 4 pt16 (fX 8 pt22 (fX 9 pt7 (fV 10 vNs (fV 11 vNs (fV 18 pt0 (fV 21 vNs (fV 148 vNs pt29)))))))) fN),yjx a0 a1 a2 a3 a4 a5 a6 a7 a8 (yrS Q)⟩,⟨(pS pt17 (fX 4 pt16 (fX 8 pt22 (fX 9 pt7 (fV 10 vNs (fV 11 vNs pt30))))) fN),ydc a0 a1 a2 a3 a4 a5 a6 a7 a8 (yrT Q) (yjD Q) (ygk Q) (yjE Q) (ygl Q)⟩,⟨(pS pt32 (fX 4 pt16 (fX 8 pt22 (fX 9 pt7 (fV 10 pt33 (fV 11 vNs pt30))))) fN),yaZ a0 a1 a2 a3 a4 a5 a6 a7 a8 (yjD Q) (ygk Q)⟩,⟨(pS pt34 (fX 4 pt16 (fX 8 pt22 (fX 9 pt7 (fV 10 pt33 (fV 11 pt35 pt30))))) fN),yaY a0 a1 a2 a3 a4 a5 a6 a7 a8 (ygk Q)⟩,⟨(pS pt32 (fX 4 pt16 (fX 8 pt22 (fX 9 pt7 (fV 10 vNs (fV 11 pt33 pt30))))) fN),yf9 a0 a1 a2 a3 a4 a5 a6 a7 a8 (yjE Q) (ygl Q)⟩,⟨(pS pt34 (fX 4 pt16 (fX 8 pt22 (fX 9 pt7 (fV 10 pt35 (fV 11 pt33 pt30))))) fN),yf8 a0 a1 a2 a3 a4 a5 a6 a7 a8 (ygl Q)⟩]
def pt36:Pat Frm:=fV 1 pt0 (fV 2 pt0 (fV 6 pt0 (fV 7 pt0 fN)))
def pt37:VPt:=vW 1 (nK 0) nV nV
def pt38:VPt:=vW 2 (nK 0) nV nV
def ykJ (a0:yal) (a1:yai) (a2:yad) (a3:yaf) (a4:yap) (a5:yaq) (a6:yae) (a7:yah) (a8:yak) (Q:Qx):List St:=[⟨(pS hN (fV 0 vNs pt36) fN),yjy a0 a1 a2 a3 a4 a5 a6 a7 a8 (yrU Q)⟩,⟨(pS pt17 (fV 0 vNs pt36) fN),yjz a0 a1 a2 a3 a4 a5 a6 a7 a8 (yrV Q)⟩,⟨(pS pt32 (fV 0 pt37 pt36) fN),yga a0 a1 a2 a3 a4 a5 a6 a7 a8 (yrW Q)⟩,⟨(pS pt32 (fV 0 vNs pt36) fN),yjA a0 a1 a2 a3 a4 a5 a6 a7 a8 (yrX Q)⟩,⟨(pS pt34 (fV 0 pt37 pt36) fN),yba a0 a1 a2 a3 a4 a5 a6 a7 a8 (yrY Q)⟩,⟨(pS pt34 (fV 0 pt38 pt36) fN),ybb a0 a1 a2 a3 a4 a5 a6 a7 a8 (yrZ Q)⟩]
def pt39:Pat Frm:=fV 1 pt0 (fV 2 pt0 (fV 3 pt24 (fV 8 pt0 fN)))
def ykK (a0:yal) (a1:yai) (a2:yad) (a3:yaf) (a4:yap) (a5:yaq) (a6:yae) (a7:yah) (a8:yak) (Q:Qx):List St:=[⟨(pS hN (fV 0 vNs pt39) fN),ygb a0 a1 a2 a3 a4 a5 a6 a7 a8 (yr0 Q)⟩,⟨(pS pt17 (fV 0 pt18 pt39) fN),ya0 a0 a1 a2 a3 a4 a5 a6 a7 a8 (yr1 Q)⟩]
def pt40:Pat Frm:=fV 1 pt0 (fV 2 pt0 (fV 6 pt0 fN))
def ykL (a0:yal) (a1:yai) (a2:yad) (a3:yaf) (a4:yap) (a5:yaq) (a6:yae) (a7:yah) (a8:yak) (Q:Qx):List St:=[⟨(pS hN (fV 0 vNs pt40) fN),ygc a0 a1 a2 a3 a4 a5 a6 a7 a8 (yr2 Q)⟩,⟨(pS pt17 (fV 0 vNs pt40) fN),ygd a0 a1 a2 a3 a4 a5 a6 a7 a8 (yr3 Q)⟩,⟨(pS pt32 (fV 0 pt37 pt40) fN),yge a0 a1 a2 a3 a4 a5 a6 a7 a8 (yr4 Q)⟩,⟨(pS pt32 (fV 0 vNs pt40) fN),ygf a0 a1 a2 a3 a4 a5 a6 a7 a8 (yr5 Q)⟩,⟨(pS pt34 (fV 0 pt37 pt40) fN),ybc a0 a1 a2 a3 a4 a5 a6 a7 a8 (yr6 Q)⟩,⟨(pS pt34 (fV 0 pt38 pt40) fN),ybd a0 a1 a2 a3 a4 a5 a6 a7 a8 (yr7 Q)⟩]
def pt41:Pat Frm:=fV 1 pt0 (fV 2 pt0 (fV 3 pt0 (fV 8 vB (fV 9 vB fN))))
def ykM (a0:yal) (a1:yai) (a2:yad) (a3:yaf) (a4:yap) (a5:yaq) (a6:yae) (a7:yah) (a8:yak) (Q:Qx):List St:=[⟨(pS hN (fV 0 vNs pt41) fN),ygg a0 a1 a2 a3 a4 a5 a6 a7 a8 (yr8 Q)⟩,⟨(pS pt17 (fV 0 vNs pt41) fN),ygh a0 a1 a2 a3 a4 a5 a6 a7 a8 (yr9 Q)⟩,⟨(pS pt32 (fV 0 pt37 pt41) fN),ygi a0 a1 a2 a3 a4 a5 a6 a7 a8 (yjF Q)⟩,⟨(pS pt32 (fV 0 vNs pt41) fN),ygj a0 a1 a2 a3 a4 a5 a6 a7 a8 (yjF Q)⟩,⟨(pS pt34 (fV 0 pt37 pt41) fN),ycb a0 a1 a2 a3 a4 a5 a6 a7 a8 (yjG Q)⟩,⟨(pS pt34 (fV 0 pt38 pt41) fN),ycc a0 a1 a2 a3 a4 a5 a6 a7 a8 (yjG Q)⟩]
def ybk (a0:yal) (a1:yai) (a2:yad) (a3:yaf) (a4:yap) (a5:yaq) (a6:yae) (a7:yah) (a8:yak):LP:=lpS [(42112300,ykD a0 a1 a2 a3 a4 a5 a6 a7 a8),(42112301,ykE a0 a1 a2 a3 a4 a5 a6 a7 a8),(34804800,ykF a0 a1 a2 a3 a4 a5 a6 a7 a8),(44419400,ykG a0 a1 a2 a3 a4 a5 a6 a7 a8),(34804802,ykH a0 a1 a2 a3 a4 a5 a6 a7 a8),(42112302,ykI a0 a1 a2 a3 a4 a5 a6 a7 a8),(58428500,ykJ a0 a1 a2 a3 a4 a5 a6 a7 a8),(44419401,ykK a0 a1 a2 a3 a4 a5 a6 a7 a8),(58428501,ykL a0 a1 a2 a3 a4 a5 a6 a7 a8),(82372100,ykM a0 a1 a2 a3 a4 a5 a6 a7 a8)]
def ybK (e:Es) (a0:yal) (a1:yai) (a2:yad) (a3:yaf) (a4:yap) (a5:yaq) (a6:yae) (a7:yah) (a8:yak):SE:=⟨(E e),yko [(ycD,yrn.pw a0),(ydH,yzH.pw a1),(ycE,yjX.pw a2),(ydf,yiw.pw a3),(yeL,yxM.pw a4),(yeN,yyj.pw a5),(yk7,ypZ.pw a6),(yaU,yts.pw a7),(ycQ,yuB.pw a8)],ykp [(ya2,ybx),(yeO,ygD)],ybk a0 a1 a2 a3 a4 a5 a6 a7 a8,fun _=>none⟩
def ynD (e:Es) (a0:yal) (a1:yai) (a2:yad) (a3:yaf) (a4:yap) (a5:yaq) (a6:yae) (a7:yah) (a8:yak):SE:=⟨(E e),yko [(ycD,yrn.pw a0),(ydH,yzH.pw a1),(ycE,yjX.pw a2),(ydf,yiw.pw a3),(yeL,yxM.pw a4),(yeN,yyj.pw a5),(yk7,ypZ.pw a6),(yaU,yts.pw a7),(ycQ,yuB.pw a8)],ykp [(ya2,ybx),(ybW,ycT),(yaO,ya3),(yeO,ygD),(ybs,ybt)],ybk a0 a1 a2 a3 a4 a5 a6 a7 a8,fun _=>none⟩
def ynE (e:Es) (a0:yal) (a1:yai) (a2:yad) (a3:yaf) (a4:yap) (a5:yaq) (a6:yae) (a7:yah) (a8:yak):SE:=⟨(E e),yko [(ycD,yrn.pw a0),(ydH,yzH.pw a1),(ycE,yjX.pw a2),(ydf,yiw.pw a3),(yeL,yxM.pw a4),(yeN,yyj.pw a5),(yk7,ypZ.pw a6),(yaU,yts.pw a7),(ycQ,yuB.pw a8)],ykp [(ya2,ybx),(ybW,ycT),(yaO,ya3),(yeO,ygD),(ybU,yhJ),(ybs,ybt)],ybk a0 a1 a2 a3 a4 a5 a6 a7 a8,fun _=>none⟩
theorem ybO (e:Es) (he:EG e):SEOk (Uni (E e)) (ybK e yaT yaS yaJ yaK yaN yam yc8 yax yao):=yas (Sub.uni _) ⟨(yc9 e he),(yeQ e he),(yeB e he),(yf7 e he),(ygZ e he),(yka e he),(yrc e he),(ygR e he),(yho e he),trivial⟩ ⟨⟨by kernel_rfl,by kernel_rfl,rfl,fun az=>ybo (by kernel_rfl) az,he.num _ (by kernel_rfl),by kernel_rfl,(yan (by kernel_rfl))⟩,⟨by kernel_rfl,by kernel_rfl,rfl,fun az=>ybo (by kernel_rfl) az,he.num _ (by kernel_rfl),by kernel_rfl,(yan (by kernel_rfl))⟩,trivial⟩ he.ok
theorem yqg (e:Es) (a0 a1 a2 a3 a4 a5 a6 a7 a8):ybZ (ybK e a0 a1 a2 a3 a4 a5 a6 a7 a8) 5 a ypG false (ykD a0 a1 a2 a3 a4 a5 a6 a7 a8):=fun _=>⟨fun _=>by kernel_rfl,fun _ _=>by kernel_rfl,trivial⟩
theorem yqh (e:Es) (he:EG e):LpT (Uni (E e)) (ybk yaT yaS yaJ yaK yaN yam yc8 yax yao) [] 42112300 (.loop 42112300 ypG):=fun _ _ _=>yqU.st (Sub.uni _) (yaF (ybO e he) 5) (YOk.no _ _) (yan (by kernel_rfl)) (yqg e _ _ _ _ _ _ _ _ _ _)
theorem yqi (e:Es) (a0 a1 a2 a3 a4 a5 a6 a7 a8):ybZ (ybK e a0 a1 a2 a3 a4 a5 a6 a7 a8) 5 a ypH false (ykE a0 a1 a2 a3 a4 a5 a6 a7 a8):=fun _=>⟨fun _=>by kernel_rfl,fun _ _=>by kernel_rfl,fun _=>by kernel_rfl,fun _ _=>by kernel_rfl,trivial⟩
theorem yqj (e:Es) (he:EG e):LpT (Uni (E e)) (ybk yaT yaS yaJ yaK yaN yam yc8 yax yao) [] 42112301 (.loop 42112301 ypH):=fun _ _ _=>yqU.st (Sub.uni _) (yaF (ybO e he) 5) (YOk.no _ _) (yan (by kernel_rfl)) (yqi e _ _ _ _ _ _ _ _ _ _)
theorem yqk (e:Es) (a0 a1 a2 a3 a4 a5 a6 a7 a8):ybZ (ybK e a0 a1 a2 a3 a4 a5 a6 a7 a8) 5 a yir false (ykF a0 a1 a2 a3 a4 a5 a6 a7 a8):=fun _=>⟨fun _=>by kernel_rfl,fun _ _=>by kernel_rfl,fun _=>by kernel_rfl,fun _ _=>by kernel_rfl,trivial⟩
theorem yiD (e:Es) (he:EG e):LpT (Uni (E e)) (ybk yaT yaS yaJ yaK yaN yam yc8 yax yao) [] 34804800 (.loop 34804800 yir):=fun _ _ _=>yqU.st (Sub.uni _) (yaF (ybO e he) 5) (YOk.no _ _) (yan (by kernel_rfl)) (yqk e _ _ _ _ _ _ _ _ _ _)
theorem yql (e:Es) (a0 a1 a2 a3 a4 a5 a6 a7 a8):ybZ (ybK e a0 a1 a2 a3 a4 a5 a6 a7 a8) 5 a yiq false (ykG a0 a1 a2 a3 a4 a5 a6 a7 a8):=fun _=>⟨fun _=>by kernel_rfl,fun _ _=>by kernel_rfl,fun _=>by kernel_rfl,fun _ _=>by kernel_rfl,trivial⟩
theorem yfs (e:Es) (he:EG e):LpT (Uni (E e)) (ybk yaT yaS yaJ yaK yaN yam yc8 yax yao) [] 44419400 (.loop 44419400 yiq):=fun _ _ _=>yqU.st (Sub.uni _) (yaF (ybO e he) 5) (YOk.no _ _) (yan (by kernel_rfl)) (yql e _ _ _ _ _ _ _ _ _ _)
theorem yqm (e:Es) (a0 a1 a2 a3 a4 a5 a6 a7 a8):ybZ (ybK e a0 a1 a2 a3 a4 a5 a6 a7 a8) 5 a yis false (ykH a0 a1 a2 a3 a4 a5 a6 a7 a8):=fun _=>⟨fun _=>by kernel_rfl,fun _ _=>by kernel_rfl,fun _=>by kernel_rfl,fun _ _=>by kernel_rfl,trivial⟩
theorem yiE (e:Es) (he:EG e):LpT (Uni (E e)) (ybk yaT yaS yaJ yaK yaN yam yc8 yax yao) [] 34804802 (.loop 34804802 yis):=fun _ _ _=>yqU.st (Sub.uni _) (yaF (ybO e he) 5) (YOk.no _ _) (yan (by kernel_rfl)) (yqm e _ _ _ _ _ _ _ _ _ _)
theorem yqn (e:Es) (a0 a1 a2 a3 a4 a5 a6 a7 a8):ybZ (ybK e a0 a1 a2 a3 a4 a5 a6 a7 a8) 5 a ypI false (ykI a0 a1 a2 a3 a4 a5 a6 a7 a8):=fun _=>⟨fun _=>by kernel_rfl,fun _ _=>by kernel_rfl,fun _=>by kernel_rfl,fun _ _=>by kernel_rfl,fun _=>by kernel_rfl,fun _ _=>by kernel_rfl,fun _=>by kernel_rfl,fun _ _=>by kernel_rfl,fun _=>by kernel_rfl,fun _ _=>by kernel_rfl,fun _=>by kernel_rfl,fun _ _=>by kernel_rfl,trivial⟩
theorem yqo (e:Es) (he:EG e):LpT (Uni (E e)) (ybk yaT yaS yaJ yaK yaN yam yc8 yax yao) [] 42112302 (.loop 42112302 ypI):=fun _ _ _=>yqU.st (Sub.uni _) (yaF (ybO e he) 5) (YOk.no _ _) (yan (by kernel_rfl)) (yqn e _ _ _ _ _ _ _ _ _ _)
theorem yqp (e:Es) (a0 a1 a2 a3 a4 a5 a6 a7 a8):ybZ (ybK e a0 a1 a2 a3 a4 a5 a6 a7 a8) 5 a yit false (ykJ a0 a1 a2 a3 a4 a5 a6 a7 a8):=fun _=>⟨fun _=>by kernel_rfl,fun _ _=>by kernel_rfl,fun _=>by kernel_rfl,fun _ _=>by kernel_rfl,fun _=>by kernel_rfl,fun _ _=>by kernel_rfl,fun _=>by kernel_rfl,fun _ _=>by kernel_rfl,fun _=>by kernel_rfl,fun _ _=>by kernel_rfl,fun _=>by kernel_rfl,fun _ _=>by kernel_rfl,trivial⟩
theorem yft (e:Es) (he:EG e):LpT (Uni (E e)) (ybk yaT yaS yaJ yaK yaN yam yc8 yax yao) [] 58428500 (.loop 58428500 yit):=fun _ _ _=>yqU.st (Sub.uni _) (yaF (ybO e he) 5) (YOk.no _ _) (yan (by kernel_rfl)) (yqp e _ _ _ _ _ _ _ _ _ _)
theorem yqq (e:Es) (a0 a1 a2 a3 a4 a5 a6 a7 a8):ybZ (ybK e a0 a1 a2 a3 a4 a5 a6 a7 a8) 5 a ylb false (ykK a0 a1 a2 a3 a4 a5 a6 a7 a8):=fun _=>⟨fun _=>by kernel_rfl,fun _ _=>by kernel_rfl,fun _=>by kernel_rfl,fun _ _=>by kernel_rfl,trivial⟩
theorem yiF (e:Es) (he:EG e):LpT (Uni (E e)) (ybk yaT yaS yaJ yaK yaN yam yc8 yax yao) [] 44419401 (.loop 44419401 ylb):=fun _ _ _=>yqU.st (Sub.uni _) (yaF (ybO e he) 5) (YOk.no _ _) (ya5 (l:=[(44419400,.loop 44419400 yiq)]) ⟨yfs e he,trivial⟩ (by kernel_rfl)) (yqq e _ _ _ _ _ _ _ _ _ _)
theorem yqr (e:Es) (a0 a1 a2 a3 a4 a5 a6 a7 a8):ybZ (ybK e a0 a1 a2 a3 a4 a5 a6 a7 a8) 5 a ylc false (ykL a0 a1 a2 a3 a4 a5 a6 a7 a8):=fun _=>⟨fun _=>by kernel_rfl,fun _ _=>by kernel_rfl,fun _=>by kernel_rfl,fun _ _=>by kernel_rfl,fun _=>by kernel_rfl,fun _ _=>by kernel_rfl,fun _=>by kernel_rfl,fun _ _=>by kernel_rfl,fun _=>by kernel_rfl,fun _ _=>by kernel_rfl,fun _=>by kernel_rfl,fun _ _=>by kernel_rfl,trivial⟩
theorem yiG (e:Es) (he:EG e):LpT (Uni (E e)) (ybk yaT yaS yaJ yaK yaN yam yc8 yax yao) [] 58428501 (.loop 58428501 ylc):=fun _ _ _=>yqU.st (Sub.uni _) (yaF (ybO e he) 5) (YOk.no _ _) (ya5 (l:=[(58428500,.loop 58428500 yit)]) ⟨yft e he,trivial⟩ (by kernel_rfl)) (yqr e _ _ _ _ _ _ _ _ _ _)
theorem yu0 (e:Es) (he:EG e):SEOk (Uni (E e)) (ynD e yaT yaS yaJ yaK yaN yam yc8 yax yao):=yas (Sub.uni _) ⟨(yc9 e he),(yeQ e he),(yeB e he),(yf7 e he),(ygZ e he),(yka e he),(yrc e he),(ygR e he),(yho e he),trivial⟩ ⟨⟨by kernel_rfl,by kernel_rfl,rfl,fun az=>ybo (by kernel_rfl) az,he.num _ (by kernel_rfl),by kernel_rfl,(yan (by kernel_rfl))⟩,⟨by kernel_rfl,by kernel_rfl,rfl,fun az=>ybo (by kernel_rfl) az,he.num _ (by kernel_rfl),by kernel_rfl,(ya5 (l:=[(34804800,.loop 34804800 yir),(34804802,.loop 34804802 yis)]) ⟨yiD e he,yiE e he,trivial⟩ (by kernel_rfl))⟩,⟨by kernel_rfl,by kernel_rfl,rfl,fun az=>ybo (by kernel_rfl) az,he.num _ (by kernel_rfl),by kernel_rfl,(ya5 (l:=[(44419400,.loop 44419400 yiq),(44419401,.loop 44419401 ylb)]) ⟨yfs e he,yiF e he,trivial⟩ (by kernel_rfl))⟩,⟨by kernel_rfl,by kernel_rfl,rfl,fun az=>ybo (by kernel_rfl) az,he.num _ (by kernel_rfl),by kernel_rfl,(yan (by kernel_rfl))⟩,⟨by kernel_rfl,by kernel_rfl,rfl,fun az=>ybo (by kernel_rfl) az,he.num _ (by kernel_rfl),by kernel_rfl,(ya5 (l:=[(58428500,.loop 58428500 yit),(58428501,.loop 58428501 ylc)]) ⟨yft e he,yiG e he,trivial⟩ (by kernel_rfl))⟩,trivial⟩ he.ok
theorem yqs (e:Es) (a0 a1 a2 a3 a4 a5 a6 a7 a8):ybZ (ynD e a0 a1 a2 a3 a4 a5 a6 a7 a8) 5 a yld false (ykM a0 a1 a2 a3 a4 a5 a6 a7 a8):=fun _=>⟨fun _=>by kernel_rfl,fun _ _=>by kernel_rfl,fun _=>by kernel_rfl,fun _ _=>by kernel_rfl,fun _=>by kernel_rfl,fun _ _=>by kernel_rfl,fun _=>by kernel_rfl,fun _ _=>by kernel_rfl,fun _=>by kernel_rfl,fun _ _=>by kernel_rfl,fun _=>by kernel_rfl,fun _ _=>by kernel_rfl,trivial⟩
theorem yqt (e:Es) (he:EG e):LpT (Uni (E e)) (ybk yaT yaS yaJ yaK yaN yam yc8 yax yao) [] 82372100 (.loop 82372100 yld):=fun _ _ _=>yqU.st (Sub.uni _) (yaF (yu0 e he) 5) (YOk.no _ _) (yan (by kernel_rfl)) (yqs e _ _ _ _ _ _ _ _ _ _)
theorem yu1 (e:Es) (he:EG e):SEOk (Uni (E e)) (ynE e yaT yaS yaJ yaK yaN yam yc8 yax yao):=yas (Sub.uni _) ⟨(yc9 e he),(yeQ e he),(yeB e he),(yf7 e he),(ygZ e he),(yka e he),(yrc e he),(ygR e he),(yho e he),trivial⟩ ⟨⟨by kernel_rfl,by kernel_rfl,rfl,fun az=>ybo (by kernel_rfl) az,he.num _ (by kernel_rfl),by kernel_rfl,(yan (by kernel_rfl))⟩,⟨by kernel_rfl,by kernel_rfl,rfl,fun az=>ybo (by kernel_rfl) az,he.num _ (by kernel_rfl),by kernel_rfl,(ya5 (l:=[(34804800,.loop 34804800 yir),(34804802,.loop 34804802 yis)]) ⟨yiD e he,yiE e he,trivial⟩ (by kernel_rfl))⟩,⟨by kernel_rfl,by kernel_rfl,rfl,fun az=>ybo (by kernel_rfl) az,he.num _ (by kernel_rfl),by kernel_rfl,(ya5 (l:=[(44419400,.loop 44419400 yiq),(44419401,.loop 44419401 ylb)]) ⟨yfs e he,yiF e he,trivial⟩ (by kernel_rfl))⟩,⟨by kernel_rfl,by kernel_rfl,rfl,fun az=>ybo (by kernel_rfl) az,he.num _ (by kernel_rfl),by kernel_rfl,(yan (by kernel_rfl))⟩,⟨by kernel_rfl,by kernel_rfl,rfl,fun az=>ybo (by kernel_rfl) az,he.num _ (by kernel_rfl),by kernel_rfl,(ya5 (l:=[(82372100,.loop 82372100 yld)]) ⟨yqt e he,trivial⟩ (by kernel_rfl))⟩,⟨by kernel_rfl,by kernel_rfl,rfl,fun az=>ybo (by kernel_rfl) az,he.num _ (by kernel_rfl),by kernel_rfl,(ya5 (l:=[(58428500,.loop 58428500 yit),(58428501,.loop 58428501 ylc)]) ⟨yft e he,yiG e he,trivial⟩ (by kernel_rfl))⟩,trivial⟩ he.ok
theorem ywZ (e:Es) (a0 a1 a2 a3 a4 a5 a6 a7 a8):EqW (ynE e a0 a1 a2 a3 a4 a5 a6 a7 a8) 6 ygY ywY (ydC a0 a1 a2 a3 a4 a5 a6 a7 a8):=fun _ _=>by kernel_rfl
theorem yiH (e:Es) (he:EG e):OkF (E e) (ywY.pw yau) yd5:=okU he (ywZ e _ _ _ _ _ _ _ _ _) (yu1 e he) ymP.flat (ya5 (l:=[(42112300,.loop 42112300 ypG),(42112301,.loop 42112301 ypH),(42112302,.loop 42112302 ypI)]) ⟨yqh e he,yqj e he,yqo e he,trivial⟩ (by kernel_rfl))
def ybE (a0:ybQ) (a1:yad) (a2:yaL) (a:Ls→Ls→Ls→Ls→Int→Int→Int→Int→Int→Int→Bool→Prop):Nat→Ls→Ls→Ls→Ls→Int→Int→Int→Int→Int→Int→Prop
 | 0,_,_,_,_,_,_,_,_,_,_=>False
 | b+1,l0,l1,l2,l3,i6,i7,i8,i9,i10,i11 =>
 (cbr (decide (i11<i10))
 (asr (decide ((List.length l0)=(List.length l0)))
 (asr (decide ((0+(List.length l0))≤(List.length l0)))
 (asr (!(decide (((0+(List.length l0))+1)≤(List.length l0))))
 (asr (decide ((List.length l0)=(List.length l0)))
 (asr (decide ((((List.length l0)+1)+64)*(8+1)≤room))
 (lt (IntKind.i64.wrap (i11+(1:Int))) (fun c =>
 (asr (decide ((List.length (l0++([(.int .i64 i11)]:Ls)))=List.length (l0++([(.int .i64 i11)]:Ls)))&&decide ((List.length (l0++([(.int .i64 i11)]:Ls)))=List.length (l0++([(.int .i64 i11)]:Ls))))
 (ybE a0 a1 a2 a b (l0++([(.int .i64 i11)]:Ls)) l1 l2 l3 i6 i7 i8 i9 i10 c)))))))))
 (a l0 l1 l2 l3 i6 i7 i8 i9 i10 i11 false))
def yd1 (a0:ybQ) (a1:yad) (a2:yaL) (a:Ls→Ls→Ls→Int→Int→Int→Int→Int→Int→Bool→Prop) (b:Ls→Ls→Ls→Ls→Int→Int→Int→Int→Int→Int→Bool→Prop):Nat→Ls→Ls→Ls→Int→Int→Int→Int→Int→Int→Prop
 | 0,_,_,_,_,_,_,_,_,_=>False
 | c+1,l0,l1,l2,i3,i4,i5,i6,i7,i8 =>
 (cbr (decide (i8<i7))
 (lt (IntKind.i64.wrap (i8+(1:Int))) (fun d =>
 (asr (decide (1=List.length ([(.int .i64 i8)]:Ls))&&decide (1=List.length ([(.int .i64 i8)]:Ls)))
 (ybE a0 a1 a2 b c ([(.int .i64 i8)]:Ls) l0 l1 l2 i3 i4 i5 i6 i7 d))))
 (a l0 l1 l2 i3 i4 i5 i6 i7 i8 false))
def yfi (a0:ybQ) (a1:yad) (a2:yaL) (h:Ls→Ls→Ls→Nat→Nat→Nat→Ls→Ls→Nat→Nat→Bool→Prop) (j:Ls→Ls→Ls→Int→Prop):Nat→Ls→Ls→Ls→Nat→Nat→Nat→Ls→Ls→Nat→Nat→Prop
 | 0,_,_,_,_,_,_,_,_,_,_=>False
 | k+1,l0,l1,l2,n3,n4,n5,l6,l7,n8,n9 =>
 (cbr (decide (((n8:Nat):Int)>(0:Int)))
 (lt (IntKind.i64.wrap (((n8:Nat):Int)-(1:Int))) (fun e =>
 (asr (decide ((0:Int)≤e))
 (asr (decide (e<((n8:Nat):Int)))
 (asr (decide ((List.length l2)=n9))
 (asr (decide ((0+(e.toNat))<(List.length l2)))
 (lt (List.getD l2 (0+(e.toNat)) .nils) (fun a =>
 (asr (conf (.agg [.d,.i .i64,.i .i64,.i .i64,.i .i64]) a)
 (lt (IntKind.i64.wrap (((n8:Nat):Int)-(1:Int))) (fun b =>
 (asr (decide ((0:Int)≤b))
 (asr ((decide (b≤((n8:Nat):Int)))||(decide (b≤((n8:Nat):Int))))
 (cbr ((((List.length (ya6 (yac a 0))):Nat):Int) ==(1:Int))
 (asr (decide ((0:Int)<(((List.length (ya6 (yac a 0))):Nat):Int)))
 (lt (List.getD (ya6 (yac a 0)) 0 .nils) (fun c =>
 (asr (conf zI c)
 (asr (decide ((0:Int)≤(yaa c)))
 (asr (decide ((yaa c)<((n3:Nat):Int)))
 (asr (decide ((List.length l0)=n4))
 (asr (decide ((0+((yaa c).toNat))<(List.length l0)))
 (lt (List.getD l0 (0+((yaa c).toNat)) .nils) (fun p =>
 (asr (conf zD p)
 (yfi a0 a1 a2 h j k (List.set l0 (0+((yaa c).toNat)) (.data ([(.agg [(.int .i64 (yaa (yac a 1))),(.int .i64 (yaa (yac a 2))),(.int .i64 (yaa (yac a 3))),(.int .i64 (yaa (yac a 4)))])]:Ls))) l1 l2 n3 n4 n5 l6 l7 ((b-(0:Int)).toNat) n9))))))))))))
 (a2 l6 l7 (ya6 (yac a 0)) (yaa (yac a 1)) (yaa (yac a 2)) (yaa (yac a 3)) (yaa (yac a 4)) (fun q r f g l m n =>
 (cbr (n !=(0:Int))
 (j l0 l1 l2 n)
 (jn (fun (o:Ls→Nat→Prop) =>
 (asr (decide ((List.length l2)=n9))
 (asr (decide ((0+((b-(0:Int)).toNat))≤n9))
 (cbr (decide (((0+((b-(0:Int)).toNat))+2)≤n9))
 (o ((List.take (0+((b-(0:Int)).toNat)) l2)++(([(.agg [(.data m),(.int .i64 f),(.int .i64 g),(.int .i64 (yaa (yac a 3))),(.int .i64 (yaa (yac a 4)))]),(.agg [(.data l),(.int .i64 (yaa (yac a 1))),(.int .i64 (yaa (yac a 2))),(.int .i64 f),(.int .i64 g)])]:Ls)++(List.drop ((0+((b-(0:Int)).toNat))+2) l2))) n9)
 (asr (decide (((b-(0:Int)).toNat)≤n9))
 (asr (decide (((((b-(0:Int)).toNat)+2)+64)*(56+1)≤room))
 (o ((List.take ((b-(0:Int)).toNat) l2)++([(.agg [(.data m),(.int .i64 f),(.int .i64 g),(.int .i64 (yaa (yac a 3))),(.int .i64 (yaa (yac a 4)))]),(.agg [(.data l),(.int .i64 (yaa (yac a 1))),(.int .i64 (yaa (yac a 2))),(.int .i64 f),(.int .i64 g)])]:Ls)) (((b-(0:Int)).toNat)+2))))))))
 (fun s t=>(yfi a0 a1 a2 h j k l0 l1 s n3 n4 n5 q r (((b-(0:Int)).toNat)+2) t))))))))))))))))))))
 (h l0 l1 l2 n3 n4 n5 l6 l7 n8 n9 false))
def yfj (a0:ybQ) (a1:yad) (a2:yaL) (k:Ls→Ls→Nat→Nat→Nat→Ls→Ls→Nat→Nat→Bool→Prop) (l:Ls→Ls→Int→Prop) (m:Ls→Ls→Ls→Nat→Nat→Nat→Ls→Ls→Nat→Nat→Bool→Prop) (n:Ls→Ls→Ls→Int→Prop):Nat→Ls→Ls→Nat→Nat→Nat→Ls→Ls→Nat→Nat→Prop
 | 0,_,_,_,_,_,_,_,_,_=>False
 | o+1,l0,l1,n2,n3,n4,l5,l6,n7,n9 =>
 (cbr (decide (((n7:Nat):Int)>(0:Int)))
 (lt (IntKind.i64.wrap (((n7:Nat):Int)-(1:Int))) (fun j =>
 (asr (decide ((0:Int)≤j))
 (asr (decide (j<((n7:Nat):Int)))
 (asr (decide ((List.length l1)=(List.length l1)))
 (asr (decide ((0+(j.toNat))<(List.length l1)))
 (lt (List.getD l1 (0+(j.toNat)) .nils) (fun a =>
 (asr (conf (.agg [.d,.i .i64,.i .i64,.i .i64,.i .i64]) a)
 (lt (IntKind.i64.wrap (((n7:Nat):Int)-(1:Int))) (fun b =>
 (asr (decide ((0:Int)≤b))
 (asr ((decide (b≤((n7:Nat):Int)))||(decide (b≤((n9:Nat):Int))))
 (cbr ((((List.length (ya6 (yac a 0))):Nat):Int) ==(1:Int))
 (asr (decide ((0:Int)<(((List.length (ya6 (yac a 0))):Nat):Int)))
 (lt (List.getD (ya6 (yac a 0)) 0 .nils) (fun f =>
 (asr (conf zI f)
 (asr (decide ((0:Int)≤(yaa f)))
 (asr (decide ((yaa f)<((n2:Nat):Int)))
 (asr (decide ((List.length l0)=n3))
 (asr (decide ((0+((yaa f).toNat))<(List.length l0)))
 (lt (List.getD l0 (0+((yaa f).toNat)) .nils) (fun s =>
 (asr (conf zD s)
 (asr (decide ((List.length l1)=List.length l1))
 (yfj a0 a1 a2 k l m n o (List.set l0 (0+((yaa f).toNat)) (.data ([(.agg [(.int .i64 (yaa (yac a 1))),(.int .i64 (yaa (yac a 2))),(.int .i64 (yaa (yac a 3))),(.int .i64 (yaa (yac a 4)))])]:Ls))) l1 n2 n3 n4 l5 l6 ((b-(0:Int)).toNat) (n9-0))))))))))))))
 (a2 l5 l6 (ya6 (yac a 0)) (yaa (yac a 1)) (yaa (yac a 2)) (yaa (yac a 3)) (yaa (yac a 4)) (fun p q c e g h r =>
 (cbr (r !=(0:Int))
 (l l0 l1 r)
 (asr (decide ((List.length l1)=(List.length l1)))
 (asr (decide ((0+((b-(0:Int)).toNat))≤(List.length l1)))
 (cbr (decide ((((b-(0:Int)).toNat)+2)≤(n9-0)))
 (asr (decide ((List.length l1)=List.length ((List.take (0+((b-(0:Int)).toNat)) l1)++(([(.agg [(.data h),(.int .i64 c),(.int .i64 e),(.int .i64 (yaa (yac a 3))),(.int .i64 (yaa (yac a 4)))]),(.agg [(.data g),(.int .i64 (yaa (yac a 1))),(.int .i64 (yaa (yac a 2))),(.int .i64 c),(.int .i64 e)])]:Ls)++(List.drop ((0+((b-(0:Int)).toNat))+2) l1)))))
 (yfj a0 a1 a2 k l m n o l0 ((List.take (0+((b-(0:Int)).toNat)) l1)++(([(.agg [(.data h),(.int .i64 c),(.int .i64 e),(.int .i64 (yaa (yac a 3))),(.int .i64 (yaa (yac a 4)))]),(.agg [(.data g),(.int .i64 (yaa (yac a 1))),(.int .i64 (yaa (yac a 2))),(.int .i64 c),(.int .i64 e)])]:Ls)++(List.drop ((0+((b-(0:Int)).toNat))+2) l1))) n2 n3 n4 p q (((b-(0:Int)).toNat)+2) (n9-0)))
 (asr (decide (((List.length ((List.take ((b-(0:Int)).toNat) l1)++([(.agg [(.data h),(.int .i64 c),(.int .i64 e),(.int .i64 (yaa (yac a 3))),(.int .i64 (yaa (yac a 4)))]),(.agg [(.data g),(.int .i64 (yaa (yac a 1))),(.int .i64 (yaa (yac a 2))),(.int .i64 c),(.int .i64 e)])]:Ls)))+64)*(56+1)≤room))
 (yfi a0 a1 a2 m n o l0 l1 ((List.take ((b-(0:Int)).toNat) l1)++([(.agg [(.data h),(.int .i64 c),(.int .i64 e),(.int .i64 (yaa (yac a 3))),(.int .i64 (yaa (yac a 4)))]),(.agg [(.data g),(.int .i64 (yaa (yac a 1))),(.int .i64 (yaa (yac a 2))),(.int .i64 c),(.int .i64 e)])]:Ls)) n2 n3 n4 p q (List.length ((List.take ((b-(0:Int)).toNat) l1)++([(.agg [(.data h),(.int .i64 c),(.int .i64 e),(.int .i64 (yaa (yac a 3))),(.int .i64 (yaa (yac a 4)))]),(.agg [(.data g),(.int .i64 (yaa (yac a 1))),(.int .i64 (yaa (yac a 2))),(.int .i64 c),(.int .i64 e)])]:Ls))) (List.length ((List.take ((b-(0:Int)).toNat) l1)++([(.agg [(.data h),(.int .i64 c),(.int .i64 e),(.int .i64 (yaa (yac a 3))),(.int .i64 (yaa (yac a 4)))]),(.agg [(.data g),(.int .i64 (yaa (yac a 1))),(.int .i64 (yaa (yac a 2))),(.int .i64 c),(.int .i64 e)])]:Ls)))))))))))))))))))))))))
 (k l0 l1 n2 n3 n4 l5 l6 n7 n9 false))
def yaD (a0:ybQ) (a1:yad) (a2:yaL) (h:Ls→Ls→Ls→Ls→Nat→Nat→Nat→Ls→Ls→Nat→Nat→Bool→Prop) (j:Ls→Ls→Ls→Ls→Int→Prop):Nat→Ls→Ls→Ls→Ls→Nat→Nat→Nat→Ls→Ls→Nat→Nat→Prop
 | 0,_,_,_,_,_,_,_,_,_,_,_=>False
 | k+1,l0,l1,l2,l3,n4,n5,n6,l7,l8,n9,n10 =>
 (cbr (decide (((n9:Nat):Int)>(0:Int)))
 (lt (IntKind.i64.wrap (((n9:Nat):Int)-(1:Int))) (fun e =>
 (asr (decide ((0:Int)≤e))
 (asr (decide (e<((n9:Nat):Int)))
 (asr (decide ((List.length l3)=n10))
 (asr (decide ((0+(e.toNat))<(List.length l3)))
 (lt (List.getD l3 (0+(e.toNat)) .nils) (fun a =>
 (asr (conf (.agg [.d,.i .i64,.i .i64,.i .i64,.i .i64]) a)
 (lt (IntKind.i64.wrap (((n9:Nat):Int)-(1:Int))) (fun b =>
 (asr (decide ((0:Int)≤b))
 (asr ((decide (b≤((n9:Nat):Int)))||(decide (b≤((n9:Nat):Int))))
 (cbr ((((List.length (ya6 (yac a 0))):Nat):Int) ==(1:Int))
 (asr (decide ((0:Int)<(((List.length (ya6 (yac a 0))):Nat):Int)))
 (lt (List.getD (ya6 (yac a 0)) 0 .nils) (fun c =>
 (asr (conf zI c)
 (asr (decide ((0:Int)≤(yaa c)))
 (asr (decide ((yaa c)<((n4:Nat):Int)))
 (asr (decide ((List.length l1)=n5))
 (asr (decide ((0+((yaa c).toNat))<(List.length l1)))
 (lt (List.getD l1 (0+((yaa c).toNat)) .nils) (fun p =>
 (asr (conf zD p)
 (yaD a0 a1 a2 h j k l0 (List.set l1 (0+((yaa c).toNat)) (.data ([(.agg [(.int .i64 (yaa (yac a 1))),(.int .i64 (yaa (yac a 2))),(.int .i64 (yaa (yac a 3))),(.int .i64 (yaa (yac a 4)))])]:Ls))) l2 l3 n4 n5 n6 l7 l8 ((b-(0:Int)).toNat) n10))))))))))))
 (a2 l7 l8 (ya6 (yac a 0)) (yaa (yac a 1)) (yaa (yac a 2)) (yaa (yac a 3)) (yaa (yac a 4)) (fun q r f g l m n =>
 (cbr (n !=(0:Int))
 (j l0 l1 l2 l3 n)
 (jn (fun (o:Ls→Nat→Prop) =>
 (asr (decide ((List.length l3)=n10))
 (asr (decide ((0+((b-(0:Int)).toNat))≤n10))
 (cbr (decide (((0+((b-(0:Int)).toNat))+2)≤n10))
 (o ((List.take (0+((b-(0:Int)).toNat)) l3)++(([(.agg [(.data m),(.int .i64 f),(.int .i64 g),(.int .i64 (yaa (yac a 3))),(.int .i64 (yaa (yac a 4)))]),(.agg [(.data l),(.int .i64 (yaa (yac a 1))),(.int .i64 (yaa (yac a 2))),(.int .i64 f),(.int .i64 g)])]:Ls)++(List.drop ((0+((b-(0:Int)).toNat))+2) l3))) n10)
 (asr (decide (((b-(0:Int)).toNat)≤n10))
 (asr (decide (((((b-(0:Int)).toNat)+2)+64)*(56+1)≤room))
 (o ((List.take ((b-(0:Int)).toNat) l3)++([(.agg [(.data m),(.int .i64 f),(.int .i64 g),(.int .i64 (yaa (yac a 3))),(.int .i64 (yaa (yac a 4)))]),(.agg [(.data l),(.int .i64 (yaa (yac a 1))),(.int .i64 (yaa (yac a 2))),(.int .i64 f),(.int .i64 g)])]:Ls)) (((b-(0:Int)).toNat)+2))))))))
 (fun s t=>(yaD a0 a1 a2 h j k l0 l1 l2 s n4 n5 n6 q r (((b-(0:Int)).toNat)+2) t))))))))))))))))))))
 (h l0 l1 l2 l3 n4 n5 n6 l7 l8 n9 n10 false))
def ya1 (a0:ybQ) (a1:yad) (a2:yaL) (k:Ls→Ls→Ls→Nat→Nat→Nat→Ls→Ls→Nat→Nat→Bool→Prop) (l:Ls→Ls→Ls→Int→Prop) (m:Ls→Ls→Ls→Ls→Nat→Nat→Nat→Ls→Ls→Nat→Nat→Bool→Prop) (n:Ls→Ls→Ls→Ls→Int→Prop):Nat→Ls→Ls→Ls→Nat→Nat→Nat→Ls→Ls→Nat→Nat→Prop
 | 0,_,_,_,_,_,_,_,_,_,_=>False
 | o+1,l0,l1,l2,n3,n4,n5,l6,l7,n8,n10 =>
 (cbr (decide (((n8:Nat):Int)>(0:Int)))
 (lt (IntKind.i64.wrap (((n8:Nat):Int)-(1:Int))) (fun j =>
 (asr (decide ((0:Int)≤j))
 (asr (decide (j<((n8:Nat):Int)))
 (asr (decide ((List.length l2)=(List.length l2)))
 (asr (decide ((0+(j.toNat))<(List.length l2)))
 (lt (List.getD l2 (0+(j.toNat)) .nils) (fun a =>
 (asr (conf (.agg [.d,.i .i64,.i .i64,.i .i64,.i .i64]) a)
 (lt (IntKind.i64.wrap (((n8:Nat):Int)-(1:Int))) (fun b =>
 (asr (decide ((0:Int)≤b))
 (asr ((decide (b≤((n8:Nat):Int)))||(decide (b≤((n10:Nat):Int))))
 (cbr ((((List.length (ya6 (yac a 0))):Nat):Int) ==(1:Int))
 (asr (decide ((0:Int)<(((List.length (ya6 (yac a 0))):Nat):Int)))
 (lt (List.getD (ya6 (yac a 0)) 0 .nils) (fun f =>
 (asr (conf zI f)
 (asr (decide ((0:Int)≤(yaa f)))
 (asr (decide ((yaa f)<((n3:Nat):Int)))
 (asr (decide ((List.length l1)=n4))
 (asr (decide ((0+((yaa f).toNat))<(List.length l1)))
 (lt (List.getD l1 (0+((yaa f).toNat)) .nils) (fun s =>
 (asr (conf zD s)
 (asr (decide ((List.length l2)=List.length l2))
 (ya1 a0 a1 a2 k l m n o l0 (List.set l1 (0+((yaa f).toNat)) (.data ([(.agg [(.int .i64 (yaa (yac a 1))),(.int .i64 (yaa (yac a 2))),(.int .i64 (yaa (yac a 3))),(.int .i64 (yaa (yac a 4)))])]:Ls))) l2 n3 n4 n5 l6 l7 ((b-(0:Int)).toNat) (n10-0))))))))))))))
 (a2 l6 l7 (ya6 (yac a 0)) (yaa (yac a 1)) (yaa (yac a 2)) (yaa (yac a 3)) (yaa (yac a 4)) (fun p q c e g h r =>
 (cbr (r !=(0:Int))
 (l l0 l1 l2 r)
 (asr (decide ((List.length l2)=(List.length l2)))
 (asr (decide ((0+((b-(0:Int)).toNat))≤(List.length l2)))
 (cbr (decide ((((b-(0:Int)).toNat)+2)≤(n10-0)))
 (asr (decide ((List.length l2)=List.length ((List.take (0+((b-(0:Int)).toNat)) l2)++(([(.agg [(.data h),(.int .i64 c),(.int .i64 e),(.int .i64 (yaa (yac a 3))),(.int .i64 (yaa (yac a 4)))]),(.agg [(.data g),(.int .i64 (yaa (yac a 1))),(.int .i64 (yaa (yac a 2))),(.int .i64 c),(.int .i64 e)])]:Ls)++(List.drop ((0+((b-(0:Int)).toNat))+2) l2)))))
 (ya1 a0 a1 a2 k l m n o l0 l1 ((List.take (0+((b-(0:Int)).toNat)) l2)++(([(.agg [(.data h),(.int .i64 c),(.int .i64 e),(.int .i64 (yaa (yac a 3))),(.int .i64 (yaa (yac a 4)))]),(.agg [(.data g),(.int .i64 (yaa (yac a 1))),(.int .i64 (yaa (yac a 2))),(.int .i64 c),(.int .i64 e)])]:Ls)++(List.drop ((0+((b-(0:Int)).toNat))+2) l2))) n3 n4 n5 p q (((b-(0:Int)).toNat)+2) (n10-0)))
 (asr (decide (((List.length ((List.take ((b-(0:Int)).toNat) l2)++([(.agg [(.data h),(.int .i64 c),(.int .i64 e),(.int .i64 (yaa (yac a 3))),(.int .i64 (yaa (yac a 4)))]),(.agg [(.data g),(.int .i64 (yaa (yac a 1))),(.int .i64 (yaa (yac a 2))),(.int .i64 c),(.int .i64 e)])]:Ls)))+64)*(56+1)≤room))
 (yaD a0 a1 a2 m n o l0 l1 l2 ((List.take ((b-(0:Int)).toNat) l2)++([(.agg [(.data h),(.int .i64 c),(.int .i64 e),(.int .i64 (yaa (yac a 3))),(.int .i64 (yaa (yac a 4)))]),(.agg [(.data g),(.int .i64 (yaa (yac a 1))),(.int .i64 (yaa (yac a 2))),(.int .i64 c),(.int .i64 e)])]:Ls)) n3 n4 n5 p q (List.length ((List.take ((b-(0:Int)).toNat) l2)++([(.agg [(.data h),(.int .i64 c),(.int .i64 e),(.int .i64 (yaa (yac a 3))),(.int .i64 (yaa (yac a 4)))]),(.agg [(.data g),(.int .i64 (yaa (yac a 1))),(.int .i64 (yaa (yac a 2))),(.int .i64 c),(.int .i64 e)])]:Ls))) (List.length ((List.take ((b-(0:Int)).toNat) l2)++([(.agg [(.data h),(.int .i64 c),(.int .i64 e),(.int .i64 (yaa (yac a 3))),(.int .i64 (yaa (yac a 4)))]),(.agg [(.data g),(.int .i64 (yaa (yac a 1))),(.int .i64 (yaa (yac a 2))),(.int .i64 c),(.int .i64 e)])]:Ls)))))))))))))))))))))))))
 (k l0 l1 l2 n3 n4 n5 l6 l7 n8 n10 false))
def ylT (a0:ybQ) (a1:yad) (a2:yaL) (p0:Ls) (K:Ls→Ls→Int→Prop):Prop :=
 (a0 p0 (fun A B e =>
 (cbr (e !=(0:Int))
 (K ([]:Ls) ([]:Ls) e)
 (asr (decide ((0:Int)<(((List.length p0):Nat):Int)))
 (lt (List.getD p0 0 .nils) (fun f =>
 (asr (conf zK f)
 (a1 (yaa (yac f 0)) (fun C D =>
 (a1 (0:Int) (fun E F =>
 (∃ G:Nat,yd1 a0 a1 a2
 (fun b H I g h i j V W X=>(asr (decide ((0:Int)≤(((List.length b):Nat):Int)))
 (asr (decide ((((List.length b):Nat):Int)≤(((List.length b):Nat):Int)))
 (asr (decide (((List.length b)+64)*(24+1)≤room))
 (asr (decide (1=List.length ([(.agg [(.data ([]:Ls)),(.int .i64 g),(.int .i64 h),(.int .i64 i),(.int .i64 j)])]:Ls)))
 (∃ d:Nat,yfj a0 a1 a2
 (fun k Y l m Z va J vb vc vd=>(asr (decide ((List.length k)=m))
 (asr (decide ((0+l)≤m))
 (K (List.take l k) J (0:Int)))))
 (fun ve vf L=>(K ([]:Ls) ([]:Ls) L))
 (fun n vg vh o p vi vj M vk vl vm=>(asr (decide ((List.length n)=p))
 (asr (decide ((0+o)≤p))
 (K (List.take o n) M (0:Int)))))
 (fun vn vo vp N=>(K ([]:Ls) ([]:Ls) N))
 d (List.replicate (List.length b) ((.data []):PV)) ([(.agg [(.data ([]:Ls)),(.int .i64 g),(.int .i64 h),(.int .i64 i),(.int .i64 j)])]:Ls) (List.length b) (List.length b) (List.length b) H I 1 1))))))
 (fun a c O Q q r s t vq vr vs=>(asr (decide ((0:Int)≤(((List.length c):Nat):Int)))
 (asr (decide ((((List.length c):Nat):Int)≤(((List.length c):Nat):Int)))
 (asr (decide (((List.length c)+64)*(24+1)≤room))
 (asr (decide ((List.length a)=(List.length a)))
 (asr (decide ((0+(List.length a))≤(List.length a)))
 (asr (decide (1=List.length ([(.agg [(.data (List.take (List.length a) a)),(.int .i64 q),(.int .i64 r),(.int .i64 s),(.int .i64 t)])]:Ls)))
 (∃ d:Nat,ya1 a0 a1 a2
 (fun vt u vu v w vv vw R vx vy vz=>(asr (decide ((List.length u)=w))
 (asr (decide ((0+v)≤w))
 (K (List.take v u) R (0:Int)))))
 (fun vA vB vC S=>(K ([]:Ls) ([]:Ls) S))
 (fun vD x vE vF y z vG vH T vI vJ vK=>(asr (decide ((List.length x)=z))
 (asr (decide ((0+y)≤z))
 (K (List.take y x) T (0:Int)))))
 (fun vL vM vN vO U=>(K ([]:Ls) ([]:Ls) U))
 d a (List.replicate (List.length c) ((.data []):PV)) ([(.agg [(.data (List.take (List.length a) a)),(.int .i64 q),(.int .i64 r),(.int .i64 s),(.int .i64 t)])]:Ls) (List.length c) (List.length c) (List.length c) O Q 1 1))))))))
 G p0 A B E F C D (((List.length p0):Nat):Int) (0:Int)))))))))))))
def yjH:ybQ:=ylT yfn yaJ yau
def yAF:Sg:=⟨pt9,Ls→Ls→Int→Prop,fun K=>(fun r0 r1 r2=>K (.tup [(.agg [(.data r0)]),(.data r1),(.int .i64 r2)]))⟩
def yu2 (Q:Qx):Ls→Ls→Ls→Int→Int→Int→Int→Int→Int→Bool→Prop:=(fun l0 l1 l2 i3 i4 i5 i6 i7 i8 b9=>Q (.exit 0) [(0,.v (.data l0)),(2,.box (.agg [.nils])),(5,.box (.agg [(.data l1),(.data l2)])),(6,.box (.agg [.nils,(.int .i64 i3),(.int .i64 i4),(.int .i64 i5),(.int .i64 i6)])),(32,.v (.int .i64 i7)),(33,.v (.int .i64 i8)),(34,.v (.bool b9))] [])
def ymn (Q:Qx):Ls→Ls→Ls→Ls→Int→Int→Int→Int→Int→Int→Bool→Prop:=(fun l0 l1 l2 l3 i6 i7 i8 i9 i10 i11 b12=>Q (.exit 0) [(0,.v (.data l1)),(2,.box (.agg [.nils])),(5,.box (.agg [(.data l2),(.data l3)])),(6,.box (.agg [(.own 0 0 (List.length l0) (List.length l0) none),(.int .i64 i6),(.int .i64 i7),(.int .i64 i8),(.int .i64 i9)])),(32,.v (.int .i64 i10)),(33,.v (.int .i64 i11)),(34,.v (.bool b12))] [⟨false,true,1,l0⟩])
def yu3 (Q:Qx):Ls→Ls→Nat→Nat→Nat→Ls→Ls→Nat→Nat→Bool→Prop:=(fun l0 l1 n2 n3 n4 l5 l6 n7 n9 b10=>Q (.exit 2) [(2,.box (.agg [(.own 0 0 n2 n3 (some n4))])),(5,.box (.agg [(.data l5),(.data l6)])),(8,.v (.own 1 0 n7 (List.length l1) (some n9))),(51,.v (.bool b10))] [⟨false,true,1,l0⟩,⟨false,true,5,l1⟩])
def yu4 (Q:Qx):Ls→Ls→Int→Prop:=(fun l0 l1 i2=>Q .ret [(2,.box (.agg [.nils])),(3,.v .nils),(4,.v (.int .i64 i2))] [⟨false,true,1,l0⟩,⟨false,true,5,l1⟩])
def ymo (Q:Qx):Ls→Ls→Ls→Nat→Nat→Nat→Ls→Ls→Nat→Nat→Bool→Prop:=(fun l0 l1 l2 n3 n4 n5 l6 l7 n8 n9 b10=>Q (.exit 2) [(2,.box (.agg [(.own 0 0 n3 n4 (some n5))])),(5,.box (.agg [(.data l6),(.data l7)])),(8,.v (.own 2 0 n8 n9 none)),(51,.v (.bool b10))] [⟨false,true,1,l0⟩,⟨false,true,5,l1⟩,⟨false,true,5,l2⟩])
def ymp (Q:Qx):Ls→Ls→Ls→Int→Prop:=(fun l0 l1 l2 i3=>Q .ret [(2,.box (.agg [.nils])),(3,.v .nils),(4,.v (.int .i64 i3))] [⟨false,true,1,l0⟩,⟨false,true,5,l1⟩,⟨false,true,5,l2⟩])
def yu5 (Q:Qx):Ls→Ls→Ls→Nat→Nat→Nat→Ls→Ls→Nat→Nat→Bool→Prop:=(fun l0 l1 l2 n3 n4 n5 l6 l7 n8 n10 b11=>Q (.exit 2) [(2,.box (.agg [(.own 1 0 n3 n4 (some n5))])),(5,.box (.agg [(.data l6),(.data l7)])),(8,.v (.own 2 0 n8 (List.length l2) (some n10))),(51,.v (.bool b11))] [⟨true,true,1,l0⟩,⟨false,true,1,l1⟩,⟨false,true,5,l2⟩])
def yu6 (Q:Qx):Ls→Ls→Ls→Int→Prop:=(fun l0 l1 l2 i3=>Q .ret [(2,.box (.agg [.nils])),(3,.v .nils),(4,.v (.int .i64 i3))] [⟨true,true,1,l0⟩,⟨false,true,1,l1⟩,⟨false,true,5,l2⟩])
def ymq (Q:Qx):Ls→Ls→Ls→Ls→Nat→Nat→Nat→Ls→Ls→Nat→Nat→Bool→Prop:=(fun l0 l1 l2 l3 n4 n5 n6 l7 l8 n9 n10 b11=>Q (.exit 2) [(2,.box (.agg [(.own 1 0 n4 n5 (some n6))])),(5,.box (.agg [(.data l7),(.data l8)])),(8,.v (.own 3 0 n9 n10 none)),(51,.v (.bool b11))] [⟨true,true,1,l0⟩,⟨false,true,1,l1⟩,⟨false,true,5,l2⟩,⟨false,true,5,l3⟩])
def ymr (Q:Qx):Ls→Ls→Ls→Ls→Int→Prop:=(fun l0 l1 l2 l3 i4=>Q .ret [(2,.box (.agg [.nils])),(3,.v .nils),(4,.v (.int .i64 i4))] [⟨true,true,1,l0⟩,⟨false,true,1,l1⟩,⟨false,true,5,l2⟩,⟨false,true,5,l3⟩])
def ynF (a0:ybQ) (a1:yad) (a2:yaL) (Q:Qx):List St:=[⟨(pS hN (fV 0 vD (fX 2 (vA (lC vNs lN)) (fX 5 pt16 (fX 6 (vA (lC vNs (lC pt0 (lC pt0 pt6)))) (fV 32 pt0 (fV 33 pt0 fN)))))) fN),yd1 a0 a1 a2 (yu2 Q) (ymn Q)⟩,⟨(pS pt31 (fV 0 vD (fX 2 (vA (lC vNs lN)) (fX 5 pt16 (fX 6 (vA (lC pt18 (lC pt0 (lC pt0 pt6)))) (fV 32 pt0 (fV 33 pt0 fN)))))) fN),ybE a0 a1 a2 (ymn Q)⟩]
def pt42:HPt:=hB false true 1 rA (hB false true 5 rA hN)
def pt43:VPt:=vA (lC (vO 0 (nK 0) nV nV nV) lN)
def pt44:HPt:=hB false true 1 rA (hB false true 5 rA (hB false true 5 rA hN))
def pt45:VPt:=vA (lC (vO 1 (nK 0) nV nV nV) lN)
def ynG (a0:ybQ) (a1:yad) (a2:yaL) (Q:Qx):List St:=[⟨(pS pt42 (fX 2 pt43 (fX 5 pt16 (fV 8 (vO 1 (nK 0) nV (nT 1) nV) fN))) fN),yfj a0 a1 a2 (yu3 Q) (yu4 Q) (ymo Q) (ymp Q)⟩,⟨(pS pt44 (fX 2 pt43 (fX 5 pt16 (fV 8 pt38 fN))) fN),yfi a0 a1 a2 (ymo Q) (ymp Q)⟩,⟨(pS (hB true true 1 rA pt42) (fX 2 pt45 (fX 5 pt16 (fV 8 (vO 2 (nK 0) nV (nT 2) nV) fN))) fN),ya1 a0 a1 a2 (yu5 Q) (yu6 Q) (ymq Q) (ymr Q)⟩,⟨(pS (hB true true 1 rA pt44) (fX 2 pt45 (fX 5 pt16 (fV 8 (vW 3 (nK 0) nV nV) fN))) fN),yaD a0 a1 a2 (ymq Q) (ymr Q)⟩]
def ylU (a0:ybQ) (a1:yad) (a2:yaL):LP:=lpS [(682800,ynF a0 a1 a2),(682801,ynG a0 a1 a2)]
def yhS (e:Es) (a0:ybQ) (a1:yad) (a2:yaL):SE:=sE (E e) [(yk5,yB9.pw a0),(ycE,yjX.pw a1),(yd5,ywY.pw a2)] (ylU a0 a1 a2)
theorem ykb (e:Es) (he:EG e):SEOk (Uni (E e)) (yhS e yfn yaJ yau):=yas (Sub.uni _) ⟨(yCc e he),(yeB e he),(yiH e he),trivial⟩ trivial he.ok
theorem ytv (e:Es) (a0 a1 a2):ybZ (yhS e a0 a1 a2) 5 a ywn false (ynF a0 a1 a2):=fun _=>⟨fun _=>by kernel_rfl,fun _ _=>by kernel_rfl,fun _=>by kernel_rfl,fun _ _=>by kernel_rfl,trivial⟩
theorem ytw (e:Es) (he:EG e):LpT (Uni (E e)) (ylU yfn yaJ yau) [] 682800 (.loop 682800 ywn):=fun _ _ _=>yqU.st (Sub.uni _) (yaF (ykb e he) 5) (YOk.no _ _) (yan (by kernel_rfl)) (ytv e _ _ _ _)
theorem ytx (e:Es) (a0 a1 a2):ybZ (yhS e a0 a1 a2) 5 a ywo false (ynG a0 a1 a2):=fun _=>⟨fun _=>by kernel_rfl,fun _ _=>by kernel_rfl,fun _=>by kernel_rfl,fun _ _=>by kernel_rfl,fun _=>by kernel_rfl,fun _ _=>by kernel_rfl,fun _=>by kernel_rfl,fun _ _=>by kernel_rfl,trivial⟩
theorem yty (e:Es) (he:EG e):LpT (Uni (E e)) (ylU yfn yaJ yau) [] 682801 (.loop 682801 ywo):=fun _ _ _=>yqU.st (Sub.uni _) (yaF (ykb e he) 5) (YOk.no _ _) (yan (by kernel_rfl)) (ytx e _ _ _ _)
theorem yAG (e:Es) (a0 a1 a2):EqW (yhS e a0 a1 a2) 6 ymV yAF (ylT a0 a1 a2):=fun _ _=>by kernel_rfl
theorem yAH (e:Es) (he:EG e):OkF (E e) (yAF.pw yjH) yjf:=okU he (yAG e _ _ _) (ykb e he) ymP.flat (ya5 (l:=[(682800,.loop 682800 ywn),(682801,.loop 682801 ywo)]) ⟨ytw e he,yty e he,trivial⟩ (by kernel_rfl))
def yiI (a0:yae) (p0:Int) (K:Int→Int→Prop):Prop :=
 (jn (fun (a:Bool→Prop) =>
 (cbr (decide (p0<(1:Int)))
 (a true)
 (a (decide (p0>(6:Int))))))
 (fun b=>(cbr b
 (K (0:Int) (2:Int))
 (cbr (p0 ==(1:Int))
 (K (0:Int) (0:Int))
 (lt (IntKind.i64.wrap (p0-(1:Int))) (fun c =>
 (a0 (IntKind.u64.wrap c) (fun d =>
 (lt (IntKind.i64.wrap ((2:Int)*d)) (fun e =>
 (lt (IntKind.i64.wrap (e-(1:Int))) (fun f =>
 (lt (IntKind.i64.wrap (p0*f)) (fun g =>
 (K g (0:Int))))))))))))))))
def yg4:yad:=yiI yc8
def yw0:Sg:=⟨pt1,Int→Int→Prop,fun K=>(fun r0 r1=>K (.tup [(.int .i64 r0),(.int .i64 r1)]))⟩
def yw1 (e:Es) (a0:yae):SE:=sE (E e) [(yk7,ypZ.pw a0)] lp0
theorem yw2 (e:Es) (a0):EqW (yw1 e a0) 6 yxG yw0 (yiI a0):=fun _ _=>by kernel_rfl
theorem yw3 (e:Es) (he:EG e):OkF (E e) (yw0.pw yg4) ygW:=okU he (yw2 e _) (yas (Sub.uni _) ⟨(yrc e he),trivial⟩ trivial he.ok) ymP.flat (yan (by kernel_rfl))
abbrev ynH:Type:=(Ls→Prop)→Prop
def ysa (K:Ls→Prop):Prop :=
 (K ([(.agg [(.int .i64 (6:Int)),(.data ([(.int .i64 (0:Int)),(.int .i64 (6:Int))]:Ls)),(.data ([(.int .i64 (1:Int))]:Ls))]),(.agg [(.int .i64 (6:Int)),(.data ([(.int .i64 (0:Int)),(.int .i64 (4:Int)),(.int .i64 (6:Int))]:Ls)),(.data ([(.int .i64 (1:Int)),(.int .i64 (4:Int))]:Ls))]),(.agg [(.int .i64 (6:Int)),(.data ([(.int .i64 (0:Int)),(.int .i64 (2:Int)),(.int .i64 (6:Int))]:Ls)),(.data ([(.int .i64 (2:Int)),(.int .i64 (0:Int))]:Ls))])]:Ls))
def ynI:ynH:=ysa
def yAI:Sg:=⟨lN,Ls→Prop,fun K=>(fun r0=>K (.data r0))⟩
def yAJ (e:Es):SE:=sE (E e) [] lp0
theorem yAK (e:Es):EqW (yAJ e) 6 yBQ yAI ysa:=fun _ _=>by kernel_rfl
theorem yAL (e:Es) (he:EG e):OkF (E e) (yAI.pw ynI) yjb:=okU he (yAK e) (yas (Sub.uni _) trivial trivial he.ok) ymP.flat (yan (by kernel_rfl))
abbrev ykc:Type:=Int→Int→Int→Int→(Ls→Prop)→Prop
def ynJ (p0 p1 p2 p3:Int) (K:Ls→Prop):Prop :=
 (K ([(.agg [(.int .i64 p0),(.int .i64 p1),(.int .i64 p2),(.int .i64 p3)])]:Ls))
def ykd:ykc:=ynJ
def yw4:Sg:=⟨pt11,Ls→Prop,fun K=>(fun r0=>K (.data r0))⟩
def yw5 (e:Es):SE:=sE (E e) [] lp0
theorem yw6 (e:Es):EqW (yw5 e) 6 yxH yw4 ynJ:=fun _ _=>by kernel_rfl
theorem yw7 (e:Es) (he:EG e):OkF (E e) (yw4.pw ykd) ygX:=okU he (yw6 e) (yas (Sub.uni _) trivial trivial he.ok) ymP.flat (yan (by kernel_rfl))
abbrev ydL:Type:=(Bool→Prop)→Prop
def ylV (a0:yad) (a1:ynH) (a2:ybQ) (a3:yaL) (a4:yad) (a5:ykc) (a6:ya4) (a7:ya4) (K:Bool→Prop):Prop :=
 (a0 (0:Int) (fun b c =>
 (a0 (6:Int) (fun d e =>
 (a1  (fun f =>
 (a2 f (fun g h i =>
 (a1  (fun j =>
 (a3 j ([]:Ls) ([(.int .i64 (0:Int)),(.int .i64 (1:Int)),(.int .i64 (2:Int))]:Ls) b c d e (fun y z k l m n o =>
 (a4 (3:Int) (fun p q =>
 (jn (fun (a:Bool→Prop) =>
 (cbr (i ==(0:Int))
 (a5 (2:Int) (3:Int) (10:Int) (3:Int) (fun r =>
 (a5 (10:Int) (3:Int) d e (fun s =>
 (a5 b c (2:Int) (3:Int) (fun t =>
 (a6 g ([(.data r),(.data s),(.data t)]:Ls) (fun u =>
 (cbr u
 (cbr ((((List.length h):Nat):Int) ==(7:Int))
 (cbr (o ==(0:Int))
 (cbr ((k ==(2:Int))&&((l ==(3:Int))&&true))
 (a7 m ([(.int .i64 (2:Int))]:Ls) (fun v =>
 (cbr v
 (a7 n ([(.int .i64 (0:Int)),(.int .i64 (1:Int))]:Ls) (fun w =>
 (cbr w
 (cbr (q ==(0:Int))
 (a (p ==(9:Int)))
 (a false))
 (a false))))
 (a false))))
 (a false))
 (a false))
 (a false))
 (a false))))))))))
 (a false)))
 (fun x=>(K x)))))))))))))))))
def ydd:ydL:=ylV yco ynI yjH yau yg4 ykd yfq yfr
def yAM:Sg:=⟨lN,Bool→Prop,fun K=>(fun r0=>K (.bool r0))⟩
def yAN (e:Es) (a0:yad) (a1:ynH) (a2:ybQ) (a3:yaL) (a4:yad) (a5:ykc) (a6:ya4) (a7:ya4):SE:=sE (E e) [(yil,yjX.pw a0),(yjb,yAI.pw a1),(yjf,yAF.pw a2),(yd5,ywY.pw a3),(ygW,yw0.pw a4),(ygX,yw4.pw a5),(yk9,yCt.pw a6),(yla,yuf.pw a7)] lp0
theorem yAO (e:Es) (a0 a1 a2 a3 a4 a5 a6 a7):EqW (yAN e a0 a1 a2 a3 a4 a5 a6 a7) 6 yB0 yAM (ylV a0 a1 a2 a3 a4 a5 a6 a7):=fun _ _=>by kernel_rfl
theorem yAP (e:Es) (he:EG e):OkF (E e) (yAM.pw ydd) yjg:=okU he (yAO e _ _ _ _ _ _ _ _) (yas (Sub.uni _) ⟨(yoc e he),(yAL e he),(yAH e he),(yiH e he),(yw3 e he),(yw7 e he),(yuj e he),(yul e he),trivial⟩ trivial he.ok) ymP.flat (yan (by kernel_rfl))
abbrev ytz:Type:=Ls→Ls→Ls→Int→Int→Int→Int→(Bool→Prop)→Prop
def ybe (a0:ya4) (a1:yal) (a2:yfM) (a3:ydL) (a4:yaL) (a5:yav) (a6:yay) (a7:ybz) (a8:yaj) (a9:yad) (a:Ls→Ls→Ls→Int→Int→Int→Int→Int→Int→Ls→Int→Int→Int→Bool→Int→Bool→Prop):Nat→Ls→Ls→Ls→Int→Int→Int→Int→Int→Int→Ls→Int→Int→Int→Bool→Int→Prop
 | 0,_,_,_,_,_,_,_,_,_,_,_,_,_,_,_=>False
 | e+1,l0,l1,l2,i3,i4,i5,i6,i7,i8,l9,i10,i11,i12,b13,i14 =>
 (cbr (decide (i14<i11))
 (jn (fun (b:Bool→Prop) =>
 (cbr b13
 (b true)
 (asr (decide ((0:Int)≤i14))
 (asr (decide (i14<(((List.length l9):Nat):Int)))
 (lt (List.getD l9 (i14.toNat) .nils) (fun c =>
 (asr (conf zI c)
 (asr (decide ((0:Int)≤i12))
 (asr (decide (i12<(((List.length l0):Nat):Int)))
 (lt (List.getD l0 (i12.toNat) .nils) (fun d =>
 (asr (conf zI d)
 (b ((yaa c) ==(yaa d)))))))))))))))
 (fun f=>(lt (IntKind.i64.wrap (i14+(1:Int))) (fun g =>
 (ybe a0 a1 a2 a3 a4 a5 a6 a7 a8 a9 a e l0 l1 l2 i3 i4 i5 i6 i7 i8 l9 i10 i11 i12 f g)))))
 (a l0 l1 l2 i3 i4 i5 i6 i7 i8 l9 i10 i11 i12 b13 i14 false))
def yaW (a0:ya4) (a1:yal) (a2:yfM) (a3:ydL) (a4:yaL) (a5:yav) (a6:yay) (a7:ybz) (a8:yaj) (a9:yad) (o:Ls→Ls→Ls→Int→Int→Int→Int→Int→Int→Ls→Int→Int→Int→Bool→Prop) (p:Bool→Prop):Nat→Ls→Ls→Ls→Int→Int→Int→Int→Int→Int→Ls→Int→Int→Int→Prop
 | 0,_,_,_,_,_,_,_,_,_,_,_,_,_=>False
 | r+1,l0,l1,l2,i3,i4,i5,i6,i7,i8,l9,i10,i11,i12 =>
 (cbr (decide (i12<i10))
 (∃ s:Nat,ybe a0 a1 a2 a3 a4 a5 a6 a7 a8 a9
 (fun e f t g h i j k l u m n c v U V=>(jn (fun (q:Int→Int→Int→Int→Int→Prop) =>
 (cbr (!v)
 (lt (IntKind.i64.wrap (m-n)) (fun w =>
 (q k l i j w)))
 (q g h k l n)))
 (fun x y z A B=>(asr (decide ((0:Int)≤c))
 (asr (decide (c<(((List.length e):Nat):Int)))
 (lt (List.getD e (c.toNat) .nils) (fun d =>
 (asr (conf zI d)
 (asr (decide ((0:Int)≤(yaa d)))
 (asr (decide ((yaa d)<(((List.length f):Nat):Int)))
 (lt (List.getD f ((yaa d).toNat) .nils) (fun a =>
 (asr (conf zK a)
 (a7 (yaa (yac a 0)) (ya6 (yac a 1)) (ya6 (yac a 2)) g h i j (fun C D E =>
 (a7 (yaa (yac a 0)) (ya6 (yac a 1)) (ya6 (yac a 2)) x y z A (fun F G H =>
 (a8 C D (1:Int) m (fun I J K =>
 (a9 B (fun L M =>
 (a8 I J L M (fun N O Q =>
 (jn (fun (b:Bool→Prop) =>
 (cbr (E ==(0:Int))
 (cbr (H ==(0:Int))
 (cbr (K ==(0:Int))
 (cbr (Q ==(0:Int))
 (a6 F G N O (fun R =>
 (b R)))
 (b false))
 (b false))
 (b false))
 (b false)))
 (fun S=>(cbr S
 (p false)
 (lt (IntKind.i64.wrap (c+(1:Int))) (fun T =>
 (yaW a0 a1 a2 a3 a4 a5 a6 a7 a8 a9 o p r e f t g h i j k l u m n T)))))))))))))))))))))))))))))
 s l0 l1 l2 i3 i4 i5 i6 i7 i8 l9 i10 i11 i12 false (0:Int))
 (o l0 l1 l2 i3 i4 i5 i6 i7 i8 l9 i10 i11 i12 false))
def ygm (a0:ya4) (a1:yal) (a2:yfM) (a3:ydL) (a4:yaL) (a5:yav) (a6:yay) (a7:ybz) (a8:yaj) (a9:yad) (p0 p1 p2:Ls) (p3 p4 p5 p6:Int) (K:Bool→Prop):Prop :=
 (jn (fun (d:Bool→Prop) =>
 (a0 p0 p1 (fun k =>
 (cbr k
 (d true)
 (cbr (decide ((((List.length p1):Nat):Int)>(40:Int)))
 (d true)
 (a1 p0 p1 (fun l =>
 (cbr (l !=(0:Int))
 (d true)
 (cbr (decide ((((List.length p2):Nat):Int)<(2:Int)))
 (d true)
 (a2 p0 p1 p2 (fun m =>
 (d (!m)))))))))))))
 (fun n=>(cbr n
 (a3  (fun o =>
 (K o)))
 (a4 p0 p1 p2 p3 p4 p5 p6 (fun H p b c e i f =>
 (cbr (f !=(0:Int))
 (jn (fun (g:Bool→Prop) =>
 (cbr (f ==(2:Int))
 (a3  (fun q =>
 (g q)))
 (cbr (f ==(16:Int))
 (a3  (fun r =>
 (g r)))
 (g false))))
 (fun s=>(K s)))
 (lt (IntKind.i64.wrap (Int.tdiv (((List.length p2):Nat):Int) (2:Int))) (fun h =>
 (lt (IntKind.i64.wrap ((((List.length p):Nat):Int)-(((List.length p1):Nat):Int))) (fun j =>
 (jn (fun (a:Bool→Prop) =>
 (cbr ((((List.length e):Nat):Int) != h)
 (a true)
 (lt (IntKind.i64.wrap ((((List.length p2):Nat):Int)-h)) (fun t =>
 (cbr ((((List.length i):Nat):Int) != t)
 (a true)
 (a2 p0 p1 e (fun u =>
 (cbr (!u)
 (a true)
 (a2 p0 p1 i (fun v =>
 (cbr (!v)
 (a true)
 (cbr (j !=(((List.length p2):Nat):Int))
 (lt (IntKind.i64.wrap ((2:Int)*(((List.length p2):Nat):Int))) (fun w =>
 (cbr (j != w)
 (a true)
 (a5 b c (fun x =>
 (cbr (x !=(0:Int))
 (a true)
 (a6 b c p3 p4 (fun y =>
 (cbr y
 (a true)
 (a6 p5 p6 b c (fun z =>
 (a z))))))))))))
 (a5 b c (fun A =>
 (cbr (A !=(0:Int))
 (a true)
 (a6 b c p3 p4 (fun B =>
 (cbr B
 (a true)
 (a6 p5 p6 b c (fun C =>
 (a C)))))))))))))))))))))
 (fun D=>(cbr D
 (K false)
 (∃ E:Nat,yaW a0 a1 a2 a3 a4 a5 a6 a7 a8 a9
 (fun I J L M N O Q R S T U V W X=>(a3  (fun F =>
 (K F))))
 (fun G=>(K G))
 E p2 p0 p1 p3 p4 p5 p6 b c e (((List.length p2):Nat):Int) h (0:Int)))))))))))))))
def yeU:ytz:=ygm ydK ycJ yd8 ydd yau ycp yaV ya7 ybn yco
def ysb:Sg:=⟨(lC pt16 (lC vD pt11)),Bool→Prop,fun K=>(fun r0=>K (.bool r0))⟩
def ynK (Q:Qx):Ls→Ls→Ls→Int→Int→Int→Int→Int→Int→Ls→Int→Int→Int→Bool→Int→Bool→Prop:=(fun l0 l1 l2 i3 i4 i5 i6 i7 i8 l9 i10 i11 i12 b13 i14 b15=>Q (.exit 2) [(1,.v (.data l0)),(4,.box (.agg [(.data l1),(.data l2)])),(6,.box (.agg [(.int .i64 i3),(.int .i64 i4)])),(7,.box (.agg [(.int .i64 i5),(.int .i64 i6)])),(10,.box (.agg [(.int .i64 i7),(.int .i64 i8)])),(11,.v (.data l9)),(14,.v (.int .i64 i10)),(15,.v (.int .i64 i11)),(17,.v (.int .i64 i12)),(18,.v (.bool b13)),(19,.v (.int .i64 i14)),(148,.v (.bool b15))] [])
def ynL (Q:Qx):Ls→Ls→Ls→Int→Int→Int→Int→Int→Int→Ls→Int→Int→Int→Bool→Prop:=(fun l0 l1 l2 i3 i4 i5 i6 i7 i8 l9 i10 i11 i12 b13=>Q (.exit 0) [(1,.v (.data l0)),(4,.box (.agg [(.data l1),(.data l2)])),(6,.box (.agg [(.int .i64 i3),(.int .i64 i4)])),(7,.box (.agg [(.int .i64 i5),(.int .i64 i6)])),(10,.box (.agg [(.int .i64 i7),(.int .i64 i8)])),(11,.v (.data l9)),(14,.v (.int .i64 i10)),(15,.v (.int .i64 i11)),(17,.v (.int .i64 i12)),(143,.v (.bool b13))] [])
def ynM (Q:Qx):Bool→Prop:=(fun b0=>Q .ret [(8,.v (.bool b0))] [])
def yhv (a0:ya4) (a1:yal) (a2:yfM) (a3:ydL) (a4:yaL) (a5:yav) (a6:yay) (a7:ybz) (a8:yaj) (a9:yad) (Q:Qx):List St:=[⟨(pS hN (fV 1 vD (fX 4 pt16 (fX 6 pt7 (fX 7 pt7 (fX 10 pt7 (fV 11 vD (fV 14 pt0 (fV 15 pt0 (fV 17 pt0 (fV 18 vB (fV 19 pt0 fN))))))))))) fN),ybe a0 a1 a2 a3 a4 a5 a6 a7 a8 a9 (ynK Q)⟩]
def yhw (a0:ya4) (a1:yal) (a2:yfM) (a3:ydL) (a4:yaL) (a5:yav) (a6:yay) (a7:ybz) (a8:yaj) (a9:yad) (Q:Qx):List St:=[⟨(pS hN (fV 1 vD (fX 4 pt16 (fX 6 pt7 (fX 7 pt7 (fX 10 pt7 (fV 11 vD (fV 14 pt0 (fV 15 pt0 (fV 17 pt0 fN))))))))) fN),yaW a0 a1 a2 a3 a4 a5 a6 a7 a8 a9 (ynL Q) (ynM Q)⟩]
def ygn (a0:ya4) (a1:yal) (a2:yfM) (a3:ydL) (a4:yaL) (a5:yav) (a6:yay) (a7:ybz) (a8:yaj) (a9:yad):LP:=lpS [(76325800,yhv a0 a1 a2 a3 a4 a5 a6 a7 a8 a9),(76325801,yhw a0 a1 a2 a3 a4 a5 a6 a7 a8 a9)]
def yej (e:Es) (a0:ya4) (a1:yal) (a2:yfM) (a3:ydL) (a4:yaL) (a5:yav) (a6:yay) (a7:ybz) (a8:yaj) (a9:yad):SE:=sE (E e) [(yiY,yAu.pw a0),(yiZ,yrn.pw a1),(yn8,yDZ.pw a2),(yjg,yAM.pw a3),(yd5,ywY.pw a4),(yfA,ymX.pw a5),(ydU,yrh.pw a6),(yjm,yj1.pw a7),(ykt,ydW.pw a8),(yil,yjX.pw a9)] (ygn a0 a1 a2 a3 a4 a5 a6 a7 a8 a9)
theorem yfu (e:Es) (he:EG e):SEOk (Uni (E e)) (yej e ydK ycJ yd8 ydd yau ycp yaV ya7 ybn yco):=yas (Sub.uni _) ⟨(yAx e he),(yrD e he),(yD1 e he),(yAP e he),(yiH e he),(ylB e he),(yfG e he),(yrA e he),(ywK e he),(yoc e he),trivial⟩ trivial he.ok
theorem ymA (e:Es) (a0 a1 a2 a3 a4 a5 a6 a7 a8 a9):ybZ (yej e a0 a1 a2 a3 a4 a5 a6 a7 a8 a9) 5 a yle false (yhv a0 a1 a2 a3 a4 a5 a6 a7 a8 a9):=fun _=>⟨fun _=>by kernel_rfl,fun _ _=>by kernel_rfl,trivial⟩
theorem ygq (e:Es) (he:EG e):LpT (Uni (E e)) (ygn ydK ycJ yd8 ydd yau ycp yaV ya7 ybn yco) [] 76325800 (.loop 76325800 yle):=fun _ _ _=>yqU.st (Sub.uni _) (yaF (yfu e he) 5) (YOk.no _ _) (yan (by kernel_rfl)) (ymA e _ _ _ _ _ _ _ _ _ _ _)
theorem ymB (e:Es) (a0 a1 a2 a3 a4 a5 a6 a7 a8 a9):ybZ (yej e a0 a1 a2 a3 a4 a5 a6 a7 a8 a9) 5 a ypP false (yhw a0 a1 a2 a3 a4 a5 a6 a7 a8 a9):=fun _=>⟨fun _=>by kernel_rfl,fun _ _=>by kernel_rfl,trivial⟩
theorem ymC (e:Es) (he:EG e):LpT (Uni (E e)) (ygn ydK ycJ yd8 ydd yau ycp yaV ya7 ybn yco) [] 76325801 (.loop 76325801 ypP):=fun _ _ _=>yqU.st (Sub.uni _) (yaF (yfu e he) 5) (YOk.no _ _) (ya5 (l:=[(76325800,.loop 76325800 yle)]) ⟨ygq e he,trivial⟩ (by kernel_rfl)) (ymB e _ _ _ _ _ _ _ _ _ _ _)
theorem ysc (e:Es) (a0 a1 a2 a3 a4 a5 a6 a7 a8 a9):EqW (yej e a0 a1 a2 a3 a4 a5 a6 a7 a8 a9) 6 ygE ysb (ygm a0 a1 a2 a3 a4 a5 a6 a7 a8 a9):=fun _ _=>by kernel_rfl
theorem ysd (e:Es) (he:EG e):OkF (E e) (ysb.pw yeU) ygC:=okU he (ysc e _ _ _ _ _ _ _ _ _ _) (yfu e he) ymP.flat (ya5 (l:=[(76325800,.loop 76325800 yle),(76325801,.loop 76325801 ypP)]) ⟨ygq e he,ymC e he,trivial⟩ (by kernel_rfl))
def I64 (n:Int):Prop:=-9223372036854775808≤n∧n≤9223372036854775807
def U64 (n:Int):Prop:=0≤n∧n≤18446744073709551615
theorem yhx (n:Int):IntKind.u64.wrap n=n % 18446744073709551616:=by
 simp only [IntKind.wrap,IntKind.signed,IntKind.bits,Bool.false_and,qAr,if_false]
 rfl
theorem yJg (n:Int):IntKind.i64.wrap n=if n % 18446744073709551616≥9223372036854775808 then n % 18446744073709551616-18446744073709551616 else n % 18446744073709551616:=by
 have e1:(2:Int) ^ 64=18446744073709551616:=rfl
 have e2:(2:Int) ^ (64-1)=9223372036854775808:=rfl
 simp only [IntKind.wrap,IntKind.signed,IntKind.bits,Bool.true_and,e1,e2]
 by_cases h:n % 18446744073709551616≥9223372036854775808 <;> simp [h]
theorem wu64 {n:Int} (h:U64 n):IntKind.u64.wrap n=n:=by
 unfold U64 at h
 rw [yhx]
 omega
theorem wi64 {n:Int} (h:I64 n):IntKind.i64.wrap n=n:=by
 unfold I64 at h
 rw [yJg]
 split <;> omega
theorem yag {x y:Prop}:cbr true x y=x:=rfl
theorem yab {x y:Prop}:cbr false x y=y:=rfl
theorem yaH {x:Prop}:asr true x=x:=rfl
theorem yg5 {p:Int} (h:I64 p) (K:Int→Prop):yc6 p K=K (p.natAbs:Int):=by
 unfold I64 at h
 unfold yc6 yjQ
 by_cases hp:p<0
 ·have e:IntKind.u64.wrap ((0:Int)-IntKind.u64.wrap p)=(p.natAbs:Int):=by
   rw [yhx,yhx]
   omega
  rw [decide_eq_true hp,yag,e]
 ·rw [decide_eq_false hp,yab,wu64 ⟨by omega,by omega⟩]
  congr 1
  omega
theorem yCw (x:Int→Int→Bool→Prop):∀ (n a b:Nat),b<n→yd0 x n (a:Int) (b:Int)=x ((Nat.gcd a b:Nat):Int) 0 false
 | 0,a,b,h=>by omega
 | n+1,a,b,h=>by
  unfold yd0
  by_cases hb:b=0
  ·subst hb
   simp [cbr]
  ·have h1:(b:Int)>0:=by omega
   have h2:¬((b:Int)=0):=by omega
   rw [decide_eq_true h1,yag,decide_eq_false h2,qA7,yaH]
   have e:Int.tmod (a:Int) (b:Int)=((a % b:Nat):Int):=by rw [Int.tmod_eq_emod_of_nonneg (by omega)];omega
   rw [e,yCw x n b (a % b) (by have:=Nat.mod_lt a (show b>0 by omega);omega)]
   rw [Nat.gcd_comm a b,Nat.gcd_rec b a,Nat.gcd_comm]
theorem ytA (a b:Nat) (K:Int→Prop) (h:K ((Nat.gcd a b:Nat):Int)):yci (a:Int) (b:Int) K:=by
 unfold yci ylf
 exact ⟨b+1,by rw [yCw _ (b+1) a b (by omega)];exact h⟩
def RV (n d:Int):Prop:=1≤d∧d≤1000000000000000000∧-1000000000000000000≤n∧n≤1000000000000000000∧Nat.gcd n.natAbs d.natAbs=1
instance (n d:Int):Decidable (RV n d):=by unfold RV;infer_instance
def chk (n d:Int):Int:=if RV n d then 0 else 8
theorem yw8 {n d:Int} (hn:I64 n) (hd:I64 d) {K:Int→Prop} (h:K (chk n d)):ybu n d K:=by
 unfold ybu yiu
 by_cases h1:d<1
 ·have e:chk n d=8:=if_neg fun h=>by have:=h.1;omega
  rw [decide_eq_true h1,yag,← e];exact h
 ·have hd':=hd;have hn':=hn
  unfold I64 at hd' hn'
  have ed:IntKind.u64.wrap d=((d.natAbs:Nat):Int):=by rw [wu64 ⟨by omega,by omega⟩];omega
  rw [decide_eq_false h1,yab,yg5 hn,ed]
  by_cases h2:((if ((d.natAbs:Nat):Int)>((n.natAbs:Nat):Int) then ((d.natAbs:Nat):Int) else ((n.natAbs:Nat):Int))>1000000000000000000)
  ·have e:chk n d=8:=if_neg fun h=>by
    obtain ⟨a1,a2,a3,a4,_⟩:=h
    revert h2;split <;> omega
   rw [decide_eq_true h2,yag,← e];exact h
  ·rw [decide_eq_false h2,yab,yg5 hn]
   refine ytA _ _ _ ?_
   have h3:0<Nat.gcd n.natAbs d.natAbs:=qBd _ (by omega)
   have h4:d≤1000000000000000000∧-1000000000000000000≤n∧n≤1000000000000000000:=by
    revert h2;split <;> omega
   by_cases h5:((Nat.gcd n.natAbs d.natAbs:Nat):Int)>1
   ·have e:chk n d=8:=if_neg fun h=>by have:=h.2.2.2.2;omega
    rw [decide_eq_true h5,yag,← e];exact h
   ·have e:chk n d=0:=if_pos ⟨by omega,h4.1,h4.2.1,h4.2.2,by omega⟩
    rw [decide_eq_false h5,yab,← e];exact h
theorem ylW {p:Int} (h:U64 p):IntKind.u64.wrap (BitVec.ofInt IntKind.u64.bits p&&&BitVec.ofInt IntKind.u64.bits (4294967295:Int)).toNat=p % 4294967296:=by
 unfold U64 at h
 have e1:(BitVec.ofInt 64 p).toNat=p.toNat:=by
  rw [BitVec.toNat_ofInt];omega
 have e2:(BitVec.ofInt 64 (4294967295:Int)).toNat=4294967295:=rfl
 have e3:(BitVec.ofInt IntKind.u64.bits p&&&BitVec.ofInt IntKind.u64.bits (4294967295:Int)).toNat=p.toNat % 4294967296:=by
  show (BitVec.ofInt 64 p&&&BitVec.ofInt 64 (4294967295:Int)).toNat=_
  rw [BitVec.toNat_and,e1,e2]
  exact Nat.and_two_pow_sub_one_eq_mod p.toNat 32
 rw [e3,yhx]
 omega
theorem yGI (p:Int):Int.fdiv p 4294967296=p / 4294967296:=by
 rw [Int.fdiv_eq_ediv_of_nonneg _ (by omega)]
theorem yiJ {a b:Int} (ha:U64 a) (hb:U64 b) (K:Int→Int→Prop):yeP a b K=K (a*b / 18446744073709551616) (a*b % 18446744073709551616):=by
 unfold yeP ypW
 simp only [yGI]
 rw [ylW ha,ylW hb]
 unfold U64 at ha hb
 have ha':=ha;have hb':=hb
 obtain ⟨x1,hx1⟩:∃ x,x=a / 4294967296:=⟨_,rfl⟩
 obtain ⟨x0,hx0⟩:∃ x,x=a % 4294967296:=⟨_,rfl⟩
 obtain ⟨y1,hy1⟩:∃ x,x=b / 4294967296:=⟨_,rfl⟩
 obtain ⟨y0,hy0⟩:∃ x,x=b % 4294967296:=⟨_,rfl⟩
 rw [← hx1,← hx0,← hy1,← hy0]
 have b1:0≤x1∧x1≤4294967295:=by omega
 have b2:0≤x0∧x0≤4294967295:=by omega
 have b3:0≤y1∧y1≤4294967295:=by omega
 have b4:0≤y0∧y0≤4294967295:=by omega
 have pb:∀ x y:Int,0≤x∧x≤4294967295→0≤y∧y≤4294967295→0≤x*y∧x*y≤18446744065119617025:=by
  intro x y hx hy
  refine ⟨qA5 hx.1 hy.1,?_⟩
  have:=Int.mul_le_mul hx.2 hy.2 hy.1 (by omega:(0:Int)≤4294967295)
  omega
 have p1:=pb x1 y1 b1 b3
 have p2:=pb x1 y0 b1 b4
 have p3:=pb x0 y1 b2 b3
 have p4:=pb x0 y0 b2 b4
 have ea:a=x1*4294967296+x0:=by omega
 have eb:b=y1*4294967296+y0:=by omega
 have eab:a*b=x1*y1*18446744073709551616+x1*y0*4294967296+x0*y1*4294967296+x0*y0:=by
  rw [ea,eb];grind
 obtain ⟨P,hP⟩:∃ x,x=x1*y1:=⟨_,rfl⟩
 obtain ⟨Q,hQ⟩:∃ x,x=x1*y0:=⟨_,rfl⟩
 obtain ⟨R,hR⟩:∃ x,x=x0*y1:=⟨_,rfl⟩
 obtain ⟨S,hS⟩:∃ x,x=x0*y0:=⟨_,rfl⟩
 rw [← hP] at p1;rw [← hQ] at p2;rw [← hR] at p3;rw [← hS] at p4
 rw [← hP,← hQ,← hR,← hS] at eab ⊢
 have w1:IntKind.u64.wrap S=S:=wu64 ⟨by omega,by omega⟩
 have w2:IntKind.u64.wrap Q=Q:=wu64 ⟨by omega,by omega⟩
 have w3:IntKind.u64.wrap R=R:=wu64 ⟨by omega,by omega⟩
 have w4:IntKind.u64.wrap P=P:=wu64 ⟨by omega,by omega⟩
 rw [w1,w2,w3,w4]
 have w5:IntKind.u64.wrap (Q+S / 4294967296)=Q+S / 4294967296:=wu64 ⟨by omega,by omega⟩
 rw [w5,ylW ⟨by omega,by omega⟩]
 have w6:IntKind.u64.wrap ((Q+S / 4294967296) % 4294967296+R)=(Q+S / 4294967296) % 4294967296+R:=wu64 ⟨by omega,by omega⟩
 rw [w6]
 have w7:IntKind.u64.wrap (P+(Q+S / 4294967296) / 4294967296)=P+(Q+S / 4294967296) / 4294967296:=by
  have:a*b / 18446744073709551616≤18446744073709551615:=by
   have h1:a*b≤18446744073709551615*18446744073709551615:=by
    have:=Int.mul_le_mul ha'.2 hb'.2 hb'.1 (by omega:(0:Int)≤18446744073709551615)
    exact this
   omega
  exact wu64 ⟨by omega,by omega⟩
 rw [w7]
 have hab:a*b≤18446744073709551615*18446744073709551615:=Int.mul_le_mul ha'.2 hb'.2 hb'.1 (by omega:(0:Int)≤18446744073709551615)
 rw [eab] at hab ⊢
 rw [yhx,yhx]
 congr 1
 omega
theorem yIR {a b:Int} {K:Int→Prop} (h:K (if a=0 then b else a)):ydV [.int .i64 a,.int .i64 b] K:=by
 unfold ydV ye0
 refine ⟨3,?_⟩
 have e1:IntKind.i64.wrap 1=1:=by decide
 have e2:IntKind.i64.wrap 2=2:=by decide
 by_cases ha:a=0
 ·by_cases hb:b=0
  ·simp [ybF,yag,yab,yaH,conf,yme,yaa,e1,e2,ha,hb] at h ⊢;exact h
  ·have e3:(b != 0)=true:=by simpa using hb
   simp [ybF,yag,yab,yaH,conf,yme,yaa,e1,e2,ha,e3] at h ⊢;exact h
 ·have e3:(a != 0)=true:=by simpa using ha
  simp [ybF,yag,yab,yaH,conf,yme,yaa,e1,e2,ha,e3] at h ⊢;exact h
def chk2 (a b c d:Int):Int:=if chk a b=0 then chk c d else chk a b
theorem ynN {a b c d:Int} (ha:I64 a) (hb:I64 b) (hc:I64 c) (hd:I64 d) {K:Int→Prop} (h:K (chk2 a b c d)):ycG a b c d K:=by
 unfold ycG yiv
 exact yw8 ha hb (yw8 hc hd (yIR h))
def cmp3 (a b:Int):Int:=if a<b then -1 else if a>b then 1 else 0
theorem yAQ (a b:Int) (K:Int→Prop):ydn a b K=K (cmp3 a b):=by
 unfold ydn yex
 simp only [yf0,yfl,bne_self_eq_false,yab,cmp3]
 by_cases h:a<b
 ·simp [h,yag]
 ·by_cases h2:a>b
  ·simp [h,h2,yag,yab]
  ·simp [h,h2,yab]
end Go.Pf.Vc
