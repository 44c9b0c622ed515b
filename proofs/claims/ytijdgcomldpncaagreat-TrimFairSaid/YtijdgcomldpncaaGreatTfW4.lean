/- Part 4. -/
import Derived.Test.YtijdgcomldpncaaGreatTfW3
namespace Go.Pf.Vc
open Go Go.Pf
set_option maxRecDepth 100000
def ycS (a0:yaV) (a1:yak) (a2:yab) (a3:yal) (e:Ls→Ls→Int→Int→Bool→Prop) (f:Int→Prop):Nat→Ls→Ls→Int→Int→Prop
 | 0,_,_,_,_=>False
 | i+1,l0,l1,i2,i3 =>
 (cbr (decide (i3<i2))
 (asr (decide ((0:Int)≤i3))
 (asr (decide (i3<(((List.length l1):Nat):Int)))
 (lt (List.getD l1 (i3.toNat) .nils) (fun a =>
 (asr (conf zD a)
 (jn (fun (b:Bool→Prop) =>
 (cbr (decide ((((List.length (yaE a)):Nat):Int)>(0:Int)))
 (asr (decide ((0:Int)<(((List.length (yaE a)):Nat):Int)))
 (lt (List.getD (yaE a) 0 .nils) (fun g =>
 (asr (conf z4 g)
 (cbr (decide ((yac (yaj g 0))<(0:Int)))
 (b true)
 (asr (decide ((0:Int)<(((List.length l0):Nat):Int)))
 (lt (List.getD l0 0 .nils) (fun h =>
 (asr (conf zK h)
 (a2 (yac (yaj h 0)) (fun j k =>
 (lt (IntKind.i64.wrap ((((List.length (yaE a)):Nat):Int)-(1:Int))) (fun c =>
 (asr (decide ((0:Int)≤c))
 (asr (decide (c<(((List.length (yaE a)):Nat):Int)))
 (lt (List.getD (yaE a) (c.toNat) .nils) (fun d =>
 (asr (conf z4 d)
 (a3 j k (yac (yaj d 2)) (yac (yaj d 3)) (fun l =>
 (b l)))))))))))))))))))))
 (b false)))
 (fun m=>(cbr m
 (f (2:Int))
 (lt (IntKind.i64.wrap (i3+(1:Int))) (fun n =>
 (ycS a0 a1 a2 a3 e f i l0 l1 i2 n)))))))))))
 (e l0 l1 i2 i3 false))
def ykq (a0:yaV) (a1:yak) (a2:yab) (a3:yal) (p0 p1:Ls) (K:Int→Prop):Prop :=
 (a0 p0 ([]:Ls) (fun a =>
 (cbr (a !=(0:Int))
 (K a)
 (cbr ((((List.length p1):Nat):Int) !=(((List.length p0):Nat):Int))
 (K (2:Int))
 (∃ c:Nat,ydu a0 a1 a2 a3
 (fun d b _ _ _ _=>(∃ e:Nat,ycS a0 a1 a2 a3
 (fun _ _ _ _ _=>(K (0:Int)))
 (fun f=>(K f))
 e d b (((List.length b):Nat):Int) (0:Int)))
 (fun g=>(K g))
 c p0 p1 p1 (((List.length p1):Nat):Int) (0:Int))))))
def ydi:yaV:=ykq ybP yaW yaA yah
def pt27:LPt:=lC vD (lC (vA pt7) lN)
def yzz:Sg:=⟨pt27,Int→Prop,fun K=>(fun r0=>K (.int .i64 r0))⟩
def ypR (as:Ls) (K:PV→Prop):Prop:=yzz.pw ydi as K
def yur (Q:Qx):Ls→Ls→Ls→Int→Int→Bool→Prop:=(fun l0 l1 l2 i3 i4 b5=>Q (.exit 0) [(0,.v (.data l0)),(3,.box (.agg [(.data l1)])),(25,.v (.data l2)),(26,.v (.int .i64 i3)),(27,.v (.int .i64 i4)),(28,.v (.bool b5))] [])
def yus (Q:Qx):Int→Prop:=(fun i0=>Q .ret [(4,.v (.int .i64 i0))] [])
def yut (Q:Qx):Ls→Ls→Int→Int→Bool→Prop:=(fun l0 l1 i2 i3 b4=>Q (.exit 2) [(0,.v (.data l0)),(38,.v (.data l1)),(39,.v (.int .i64 i2)),(40,.v (.int .i64 i3)),(41,.v (.bool b4))] [])
def yuu (Q:Qx):Int→Prop:=(fun i0=>Q .ret [(4,.v (.int .i64 i0))] [])
def ymu (a0:yaV) (a1:yak) (a2:yab) (a3:yal) (Q:Qx):List St:=[⟨(pS hN (fV 0 vD (fX 3 (vA pt7) pt26)) fN),ydu a0 a1 a2 a3 (yur Q) (yus Q)⟩]
def ymv (a0:yaV) (a1:yak) (a2:yab) (a3:yal) (Q:Qx):List St:=[⟨(pS hN (fV 0 vD (fV 38 vD (fV 39 pt0 (fV 40 pt0 fN)))) fN),ycS a0 a1 a2 a3 (yut Q) (yuu Q)⟩]
def ykr (a0:yaV) (a1:yak) (a2:yab) (a3:yal):LP:=lpS [(8206000,ymu a0 a1 a2 a3),(8206001,ymv a0 a1 a2 a3)]
def yhE (e:Es) (a0:yaV) (a1:yak) (a2:yab) (a3:yal):SE:=sE (E e) [(ycj,yud.pw a0),(ydQ,ycU.pw a1),(ybw,yis.pw a2),(ybo,ynD.pw a3)] (ykr a0 a1 a2 a3)
theorem yjc (e:Es) (he:EG e):SEOk (Uni (E e)) (yhE e ybP yaW yaA yah):=yaw (Sub.uni _) ⟨(yfr e he),(yhz e he),(yee e he),(yeS e he),trivial⟩ trivial he.ok
theorem ysT (e:Es) (a0 a1 a2 a3):ycp (yhE e a0 a1 a2 a3) 10 a yqC false (ymu a0 a1 a2 a3):=fun _=>⟨fun _=>by kernel_rfl,fun _ _=>by kernel_rfl,trivial⟩
theorem ysU (e:Es) (he:EG e):LpT (Uni (E e)) (ykr ybP yaW yaA yah) [] 8206000 (.loop 8206000 yqC):=fun _ _ _=>yok.st (Sub.uni _) (yaD (yjc e he) 10) (YOk.no _ _) (yai (by kernel_rfl)) (ysT e _ _ _ _ _)
theorem ysV (e:Es) (a0 a1 a2 a3):ycp (yhE e a0 a1 a2 a3) 10 a yqD false (ymv a0 a1 a2 a3):=fun _=>⟨fun _=>by kernel_rfl,fun _ _=>by kernel_rfl,trivial⟩
theorem ysW (e:Es) (he:EG e):LpT (Uni (E e)) (ykr ybP yaW yaA yah) [] 8206001 (.loop 8206001 yqD):=fun _ _ _=>yok.st (Sub.uni _) (yaD (yjc e he) 10) (YOk.no _ _) (yai (by kernel_rfl)) (ysV e _ _ _ _ _)
theorem yzA (e:Es) (a0 a1 a2 a3):EqW (yhE e a0 a1 a2 a3) 11 yAx yzz (ykq a0 a1 a2 a3):=fun _ _=>by kernel_rfl
theorem ypS (e:Es) (he:EG e):OkF (E e) (yzz.pw ydi) ydR:=okU he (yzA e _ _ _ _) (yjc e he) yj6.flat (ybe (l:=[(8206000,.loop 8206000 yqC),(8206001,.loop 8206001 yqD)]) ⟨ysU e he,ysW e he,trivial⟩ (by kernel_rfl))
abbrev yaM:Type:=Ls→Ls→(Ls→Int→Prop)→Prop
def yaF (p0 p1:Ls) (K:Ls→Int→Prop):Prop :=
 ∃ r0 r1,K r0 r1∧∀ e:Es,EG e→Ans (E e) ybc [(.data p0),(.agg [(.data p1)])] (.tup [(.data r0),(.int .i64 r1)])
def yLj:Sg:=⟨pt27,Ls→Int→Prop,fun K=>(fun r0 r1=>K (.tup [(.data r0),(.int .i64 r1)]))⟩
theorem yf9 (e:Es) (he:EG e):OkF (E e) (yLj.pw yaF) ybc:=fun as K h=>by
 obtain ⟨a,e1,r0,r1,hk,ha⟩:=Sg.inv h
 subst e1
 exact ⟨_,hk,ha e he⟩
abbrev ydD:Type:=Int→Int→Int→Int→Ls→(Bool→Prop)→Prop
def ycY (a0:yal) (x0:Int→Int→Int→Int→Ls→Int→Int→Bool→Prop) (x1:Int→Int→Int→Int→Int→Prop):Nat→Int→Int→Int→Int→Ls→Int→Int→Prop
 | 0,_,_,_,_,_,_,_=>False
 | n+1,i0,i1,i2,i3,l4,i5,i6 =>
 (cbr (decide (i6<i5))
 (asr (decide ((0:Int)≤i6))
 (asr (decide (i6<(((List.length l4):Nat):Int)))
 (lt (List.getD l4 (i6.toNat) .nils) (fun a =>
 (asr (conf z4 a)
 (jn (fun (b:Bool→Prop) =>
 (a0 i0 i1 (yac (yaj a 2)) (yac (yaj a 3)) (fun c =>
 (cbr c
 (a0 (yac (yaj a 0)) (yac (yaj a 1)) i2 i3 (fun d =>
 (b d)))
 (b false)))))
 (fun e=>(cbr e
 (x1 i0 i1 i2 i3 i6)
 (lt (IntKind.i64.wrap (i6+(1:Int))) (fun f =>
 (ycY a0 x0 x1 n i0 i1 i2 i3 l4 i5 f)))))))))))
 (x0 i0 i1 i2 i3 l4 i5 i6 false))
def yh9 (a0:yal) (p0 p1 p2 p3:Int) (p4:Ls) (K:Bool→Prop):Prop :=
 (jn (fun (a:Int→Int→Int→Int→Int→Prop) =>
 (∃ n:Nat,ycY a0
 (fun b c d e _ _ _ _=>(a b c d e (-1:Int)))
 (fun f g h i j=>(a f g h i j))
 n p0 p1 p2 p3 p4 (((List.length p4):Nat):Int) (0:Int)))
 (fun _ _ _ _ k=>(K (decide (k≥(0:Int))))))
def ybZ:ydD:=yh9 yah
def yv0:Sg:=⟨(lC pt21 (lC (vX 0 vD) lN)),Bool→Prop,fun K=>(fun r0=>K (.bool r0))⟩
def yq7 (Q:Qx):Int→Int→Int→Int→Ls→Int→Int→Bool→Prop:=(fun i0 i1 i2 i3 l4 i5 i6 b7=>Q (.exit 0) [(0,.v (.data l4)),(1,.v (.fn (.func ydr) [] [(.ptr 0 1 0 0)])),(7,.v (.int .i64 i5)),(8,.v (.int .i64 i6)),(9,.v (.bool b7))] [⟨false,false,4,([(.agg [(.int .i64 i0),(.int .i64 i1),(.int .i64 i2),(.int .i64 i3)])]:Ls)⟩])
def yq8 (Q:Qx):Int→Int→Int→Int→Int→Prop:=(fun i0 i1 i2 i3 i4=>Q .ret [(4,.v (.int .i64 i4))] [⟨false,false,4,([(.agg [(.int .i64 i0),(.int .i64 i1),(.int .i64 i2),(.int .i64 i3)])]:Ls)⟩])
def yks (a0:yal) (Q:Qx):List St:=[⟨(pS (hB false false 4 (rC pt21 rN) hN) (fV 0 vD (fV 1 (vF ydr lN pt22) pt8)) fN),ycY a0 (yq7 Q) (yq8 Q)⟩]
def yia (a0:yal):LP:=lpS [(68674300,yks a0)]
def ymw (e:Es) (a0:yal):SE:=⟨(E e),yeB [(ybo,ynD.pw a0)],yeC [(yaK,ybF),(ydr,ykU)],yia a0,fun _=>none⟩
def ymx (e:Es) (a0:yal):SE:=⟨(E e),yeB [(ybo,ynD.pw a0)],yeC [(yaK,ybF),(ybT,yeT),(ydr,ykU)],yia a0,fun _=>none⟩
theorem yuv (e:Es) (he:EG e):SEOk (Uni (E e)) (ymw e yah):=yaw (Sub.uni _) ⟨(yeS e he),trivial⟩ ⟨⟨by kernel_rfl,by kernel_rfl,rfl,fun as=>yax (by kernel_rfl) as,he.num _ (by kernel_rfl),by kernel_rfl,(yai (by kernel_rfl))⟩,⟨by kernel_rfl,by kernel_rfl,rfl,fun as=>yax (by kernel_rfl) as,he.num _ (by kernel_rfl),by kernel_rfl,(yai (by kernel_rfl))⟩,trivial⟩ he.ok
theorem ypT (e:Es) (a0):ycp (ymw e a0) 10 a ygQ false (yks a0):=fun _=>⟨fun _=>by kernel_rfl,fun _ _=>by kernel_rfl,trivial⟩
theorem ypU (e:Es) (he:EG e):LpT (Uni (E e)) (yia yah) [] 68674300 (.loop 68674300 ygQ):=fun _ _ _=>yok.st (Sub.uni _) (yaD (yuv e he) 10) (YOk.no _ _) (yai (by kernel_rfl)) (ypT e _ _)
theorem yuw (e:Es) (he:EG e):SEOk (Uni (E e)) (ymx e yah):=yaw (Sub.uni _) ⟨(yeS e he),trivial⟩ ⟨⟨by kernel_rfl,by kernel_rfl,rfl,fun as=>yax (by kernel_rfl) as,he.num _ (by kernel_rfl),by kernel_rfl,(yai (by kernel_rfl))⟩,⟨by kernel_rfl,by kernel_rfl,rfl,fun as=>yax (by kernel_rfl) as,he.num _ (by kernel_rfl),by kernel_rfl,(ybe (l:=[(68674300,.loop 68674300 ygQ)]) ⟨ypU e he,trivial⟩ (by kernel_rfl))⟩,⟨by kernel_rfl,by kernel_rfl,rfl,fun as=>yax (by kernel_rfl) as,he.num _ (by kernel_rfl),by kernel_rfl,(yai (by kernel_rfl))⟩,trivial⟩ he.ok
theorem yv1 (e:Es) (a0):EqW (ymx e a0) 11 yw0 yv0 (yh9 a0):=fun _ _=>by kernel_rfl
theorem yib (e:Es) (he:EG e):OkF (E e) (yv0.pw ybZ) ycu:=okU he (yv1 e _) (yuw e he) yj6.flat (yai (by kernel_rfl))
def ydv (a0:ydD) (x0:Ls→Ls→Int→Int→Bool→Prop) (x1:Ls→Int→Prop):Nat→Ls→Ls→Int→Int→Prop
 | 0,_,_,_,_=>False
 | n+1,l0,l1,i2,i3 =>
 (cbr (decide (i3<i2))
 (asr (decide ((0:Int)≤i3))
 (asr (decide (i3<(((List.length l1):Nat):Int)))
 (lt (List.getD l1 (i3.toNat) .nils) (fun a =>
 (asr (conf z4 a)
 (a0 (yac (yaj a 0)) (yac (yaj a 1)) (yac (yaj a 2)) (yac (yaj a 3)) l0 (fun b =>
 (cbr b
 (x1 l0 i3)
 (lt (IntKind.i64.wrap (i3+(1:Int))) (fun c =>
 (ydv a0 x0 x1 n l0 l1 i2 c)))))))))))
 (x0 l0 l1 i2 i3 false))
def ykt (a0:ydD) (p0 p1:Ls) (K:Bool→Prop):Prop :=
 (jn (fun (a:Ls→Int→Prop) =>
 (∃ n:Nat,ydv a0
 (fun b _ _ _ _=>(a b (-1:Int)))
 (fun c d=>(a c d))
 n p1 p0 (((List.length p0):Nat):Int) (0:Int)))
 (fun _ e=>(K (decide (e≥(0:Int))))))
def yan:yaa:=ykt ybZ
def yux (Q:Qx):Ls→Ls→Int→Int→Bool→Prop:=(fun l0 l1 i2 i3 b4=>Q (.exit 0) [(0,.v (.data l1)),(1,.v (.fn (.func ycu) [] [(.ptr 0 1 0 0)])),(7,.v (.int .i64 i2)),(8,.v (.int .i64 i3)),(9,.v (.bool b4))] [⟨false,false,1,([(.data l0)]:Ls)⟩])
def yuy (Q:Qx):Ls→Int→Prop:=(fun l0 i1=>Q .ret [(4,.v (.int .i64 i1))] [⟨false,false,1,([(.data l0)]:Ls)⟩])
def pt28:RPt:=rC vD rN
def ymy (a0:ydD) (Q:Qx):List St:=[⟨(pS (hB false false 1 pt28 hN) (fV 0 vD (fV 1 (vF ycu lN pt22) pt8)) fN),ydv a0 (yux Q) (yuy Q)⟩]
def yku (a0:ydD):LP:=lpS [(68674300,ymy a0)]
def ypV (e:Es) (a0:ydD):SE:=⟨(E e),yeB [(ycu,yv0.pw a0)],yeC [(yaK,ybF)],yku a0,fun _=>none⟩
def ypW (e:Es) (a0:ydD):SE:=⟨(E e),yeB [(ycu,yv0.pw a0)],yeC [(yaK,ybF),(ybT,yeT)],yku a0,fun _=>none⟩
theorem yxp (e:Es) (he:EG e):SEOk (Uni (E e)) (ypV e ybZ):=yaw (Sub.uni _) ⟨(yib e he),trivial⟩ ⟨⟨by kernel_rfl,by kernel_rfl,rfl,fun as=>yax (by kernel_rfl) as,he.num _ (by kernel_rfl),by kernel_rfl,(yai (by kernel_rfl))⟩,trivial⟩ he.ok
theorem ysX (e:Es) (a0):ycp (ypV e a0) 10 a ygQ false (ymy a0):=fun _=>⟨fun _=>by kernel_rfl,fun _ _=>by kernel_rfl,trivial⟩
theorem ysY (e:Es) (he:EG e):LpT (Uni (E e)) (yku ybZ) [] 68674300 (.loop 68674300 ygQ):=fun _ _ _=>yok.st (Sub.uni _) (yaD (yxp e he) 10) (YOk.no _ _) (yai (by kernel_rfl)) (ysX e _ _)
theorem yxq (e:Es) (he:EG e):SEOk (Uni (E e)) (ypW e ybZ):=yaw (Sub.uni _) ⟨(yib e he),trivial⟩ ⟨⟨by kernel_rfl,by kernel_rfl,rfl,fun as=>yax (by kernel_rfl) as,he.num _ (by kernel_rfl),by kernel_rfl,(yai (by kernel_rfl))⟩,⟨by kernel_rfl,by kernel_rfl,rfl,fun as=>yax (by kernel_rfl) as,he.num _ (by kernel_rfl),by kernel_rfl,(ybe (l:=[(68674300,.loop 68674300 ygQ)]) ⟨ysY e he,trivial⟩ (by kernel_rfl))⟩,trivial⟩ he.ok
theorem yzB (e:Es) (a0):EqW (ypW e a0) 11 yAz ydb (ykt a0):=fun _ _=>by kernel_rfl
theorem ykv (e:Es) (he:EG e):OkF (E e) (ydb.pw yan) yfH:=okU he (yzB e _) (yxq e he) yj6.flat (yai (by kernel_rfl))
abbrev yq9:Type:=Int→Int→Int→Int→Int→Int→Int→Int→(Int→Prop)→Prop
def yga (a0:ycE) (p0 p1 _ _ p4 p5 _ _:Int) (K:Int→Prop):Prop :=
 (a0 p0 p1 p4 p5 (fun a _ =>
 (K a)))
def ygy:yq9:=yga yc0
def ypX:Sg:=⟨(lC pt21 (lC pt21 lN)),Int→Prop,fun K=>(fun r0=>K (.int .i64 r0))⟩
def ypY (e:Es) (a0:ycE):SE:=sE (E e) [(ybU,yDw.pw a0)] lp0
theorem ypZ (e:Es) (a0):EqW (ypY e a0) 11 yqR ypX (yga a0):=fun _ _=>by kernel_rfl
theorem yp0 (e:Es) (he:EG e):OkF (E e) (ypX.pw ygy) ycg:=okU he (ypZ e _) (yaw (Sub.uni _) ⟨(yfo e he),trivial⟩ trivial he.ok) yj6.flat (yai (by kernel_rfl))
abbrev yaG:Type:=Ls→Ls→Ls→Ls→(Bool→Prop)→Prop
def ycl (a0:yab) (a1:yal) (a:Ls→Int→Ls→Int→Int→Bool→Prop):Nat→Ls→Int→Ls→Int→Int→Prop
 | 0,_,_,_,_,_=>False
 | d+1,l0,i1,l2,i3,i4 =>
 (cbr (decide (i4<i3))
 (asr (decide ((0:Int)≤i4))
 (asr (decide (i4<(((List.length l2):Nat):Int)))
 (lt (List.getD l2 (i4.toNat) .nils) (fun b =>
 (asr (conf zD b)
 (lt (IntKind.i64.wrap (i1+(((List.length (yaE b)):Nat):Int))) (fun c =>
 (cbr (decide (c<(0:Int)))
 False
 (lt (IntKind.i64.wrap (i4+(1:Int))) (fun e =>
 (ycl a0 a1 a d l0 c l2 i3 e)))))))))))
 (a l0 i1 l2 i3 i4 false))
def ybp (a0:yab) (a1:yal) (b:Ls→Nat→Ls→Int→Int→Bool→Prop):Nat→Ls→Nat→Ls→Int→Int→Prop
 | 0,_,_,_,_,_=>False
 | c+1,l0,n1,l3,i4,i5 =>
 (cbr (decide (i5<i4))
 (asr (decide ((0:Int)≤i5))
 (asr (decide (i5<(((List.length l3):Nat):Int)))
 (lt (List.getD l3 (i5.toNat) .nils) (fun a =>
 (asr (conf zD a)
 (asr (yd7 4 (yaE a))
 (asr (decide ((List.length l0)=(List.length l0)))
 (asr (decide ((0+n1)≤(List.length l0)))
 (cbr (List.isEmpty (yaE a))
 (lt (IntKind.i64.wrap (i5+(1:Int))) (fun d =>
 (asr (decide ((List.length l0)=List.length l0))
 (ybp a0 a1 b c l0 n1 l3 i4 d))))
 (asr (decide (((0+n1)+(List.length (yaE a)))≤(List.length l0)))
 (lt (IntKind.i64.wrap (i5+(1:Int))) (fun e =>
 (asr (decide ((List.length l0)=List.length ((List.take (0+n1) l0)++((yaE a)++(List.drop ((0+n1)+(List.length (yaE a))) l0)))))
 (ybp a0 a1 b c ((List.take (0+n1) l0)++((yaE a)++(List.drop ((0+n1)+(List.length (yaE a))) l0))) (n1+(List.length (yaE a))) l3 i4 e))))))))))))))
 (b l0 n1 l3 i4 i5 false))
def ycm (a0:yab) (a1:yal) (b:Ls→Int→Int→Bool→Prop) (c:Ls→Nat→Ls→Int→Int→Bool→Prop):Nat→Ls→Int→Int→Prop
 | 0,_,_,_=>False
 | d+1,l0,i1,i2 =>
 (cbr (decide (i2<i1))
 (asr (decide ((0:Int)≤i2))
 (asr (decide (i2<(((List.length l0):Nat):Int)))
 (lt (List.getD l0 (i2.toNat) .nils) (fun a =>
 (asr (conf zD a)
 (asr (yd7 4 (yaE a))
 (cbr (List.isEmpty (yaE a))
 (lt (IntKind.i64.wrap (i2+(1:Int))) (fun e =>
 (ycm a0 a1 b c d l0 i1 e)))
 (asr (decide (((List.length (yaE a))+64)*(32+1)≤room))
 (lt (IntKind.i64.wrap (i2+(1:Int))) (fun f =>
 (asr (decide ((List.length (yaE a))=List.length (yaE a)))
 (ybp a0 a1 c d (yaE a) (List.length (yaE a)) l0 i1 f))))))))))))
 (b l0 i1 i2 false))
def ycn (a0:yab) (a1:yal) (b:Ls→Ls→Ls→Ls→Ls→Int→Int→Nat→Int→Int→Bool→Prop) (c:Ls→Bool→Prop):Nat→Ls→Ls→Ls→Ls→Ls→Int→Int→Nat→Int→Int→Prop
 | 0,_,_,_,_,_,_,_,_,_,_=>False
 | e+1,l0,l1,l2,l3,l4,i5,i6,n7,i9,i10 =>
 (cbr (decide (i10<i9))
 (jn (fun (d:Int→Int→Prop) =>
 (asr (decide ((0:Int)≤i10))
 (asr (decide (i10<((n7:Nat):Int)))
 (asr (decide ((List.length l0)=(List.length l0)))
 (asr (decide ((0+(i10.toNat))<(List.length l0)))
 (lt (List.getD l0 (0+(i10.toNat)) .nils) (fun a =>
 (asr (conf z4 a)
 (a1 i5 i6 (yac (yaj a 0)) (yac (yaj a 1)) (fun f =>
 (cbr f
 (c l0 true)
 (a1 i5 i6 (yac (yaj a 2)) (yac (yaj a 3)) (fun g =>
 (cbr g
 (d (yac (yaj a 2)) (yac (yaj a 3)))
 (d i5 i6)))))))))))))))
 (fun h i=>(lt (IntKind.i64.wrap (i10+(1:Int))) (fun j =>
 (asr (decide ((List.length l0)=List.length l0))
 (ycn a0 a1 b c e l0 l1 l2 l3 l4 h i n7 i9 j))))))
 (b l0 l1 l2 l3 l4 i5 i6 n7 i9 i10 false))
def yfN (_:yab) (_:yal) (a:Ls→Ls→Ls→Ls→Int→Int→Int→Int→Bool→Prop):Nat→Ls→Ls→Ls→Ls→Int→Int→Int→Int→Prop
 | 0,_,_,_,_,_,_,_,_=>False
 | _+1,l0,l1,l2,l3,i4,i5,i6,i7 =>
 (cbr (decide (i7<i6))
 False
 (a l0 l1 l2 l3 i4 i5 i6 i7 false))
def ygV (a0:yab) (a1:yal) (p0 p1 p2 p3:Ls) (K:Bool→Prop):Prop :=
 (jn (fun (g:Ls→Nat→Prop) =>
 (∃ n:Nat,ycl a0 a1
 (fun d h _ _ _ _=>(cbr (decide (h<(0:Int)))
 False
 (jn (fun i =>
 (lt (IntKind.i64.wrap (h-(0:Int))) (fun a =>
 (cbr (decide (a>(0:Int)))
 (asr (decide ((0:Int)≤a))
 (cbr (decide ((a.toNat)=0))
 i
 (asr (decide (((List.length (List.replicate (a.toNat) ((.agg [(.int .i64 (0)),(.int .i64 (0)),(.int .i64 (0)),(.int .i64 (0))]):PV)))+64)*(32+1)≤room))
 (asr ((decide ((0:Int)≤(((List.length (List.replicate (a.toNat) ((.agg [(.int .i64 (0)),(.int .i64 (0)),(.int .i64 (0)),(.int .i64 (0))]):PV))):Nat):Int)))||(decide ((0:Int)≤(((List.length (List.replicate (a.toNat) ((.agg [(.int .i64 (0)),(.int .i64 (0)),(.int .i64 (0)),(.int .i64 (0))]):PV))):Nat):Int))))
 (asr (decide ((List.length (List.replicate (a.toNat) ((.agg [(.int .i64 (0)),(.int .i64 (0)),(.int .i64 (0)),(.int .i64 (0))]):PV)))=List.length (List.replicate (a.toNat) ((.agg [(.int .i64 (0)),(.int .i64 (0)),(.int .i64 (0)),(.int .i64 (0))]):PV))))
 (∃ e:Nat,ybp a0 a1
 (fun o p _ _ _ _=>(g o p))
 e (List.replicate (a.toNat) ((.agg [(.int .i64 (0)),(.int .i64 (0)),(.int .i64 (0)),(.int .i64 (0))]):PV)) 0 d (((List.length d):Nat):Int) (0:Int)))))))
 i))))
 (∃ e:Nat,ycm a0 a1
 (fun _ _ _ _=>(a0 (0:Int) (fun q r =>
 (∃ f:Nat,yfN a0 a1
 (fun j _ _ _ t u _ _ _=>(asr (decide ((0:Int)<(((List.length j):Nat):Int)))
 (lt (List.getD j 0 .nils) (fun k =>
 (asr (conf zK k)
 (a0 (yac (yaj k 0)) (fun v w =>
 (a1 t u v w (fun x =>
 (K x))))))))))
 f p0 p1 p2 p3 q r (0:Int) (0:Int)))))
 (fun y z _ _ _ _=>(g y z))
 e d (((List.length d):Nat):Int) (0:Int)))))
 n p1 (0:Int) p1 (((List.length p1):Nat):Int) (0:Int)))
 (fun b c=>(asr (Srt.cond yoG.s b 0 c (List.length b) 4 false)
 (a0 (0:Int) (fun A B =>
 (asr (decide ((List.length b)=List.length (List.take 0 b++(Srt.sorted yoG.s yoG.srt (List.take c (List.drop 0 b))++List.drop (0+c) b))))
 (∃ f:Nat,ycn a0 a1
 (fun _ l _ _ _ C D _ _ _ _=>(asr (decide ((0:Int)<(((List.length l):Nat):Int)))
 (lt (List.getD l 0 .nils) (fun m =>
 (asr (conf zK m)
 (a0 (yac (yaj m 0)) (fun E F =>
 (a1 C D E F (fun G =>
 (K G))))))))))
 (fun _ H=>(K H))
 f (List.take 0 b++(Srt.sorted yoG.s yoG.srt (List.take c (List.drop 0 b))++List.drop (0+c) b)) p0 p1 p2 p3 A B c ((c:Nat):Int) (0:Int))))))))
def yad:yaG:=ygV yaA yah
def pt29:VPt:=vX 0 (vA (lC vD (lC vD pt13)))
def ysZ:Sg:=⟨(lC pt29 lN),Bool→Prop,fun K=>(fun r0=>K (.bool r0))⟩
def yoN (Q:Qx):Ls→Int→Ls→Int→Int→Bool→Prop:=(fun l0 i1 l2 i3 i4 b5=>Q (.exit 0) [(0,.v (.data l0)),(3,.v (.int .i64 i1)),(9,.v (.data l2)),(10,.v (.int .i64 i3)),(11,.v (.int .i64 i4)),(12,.v (.bool b5))] [])
def yoO (Q:Qx):Ls→Int→Int→Bool→Prop:=(fun l0 i1 i2 b3=>Q (.exit 2) [(6,.v .nils),(25,.v (.data l0)),(26,.v (.int .i64 i1)),(27,.v (.int .i64 i2)),(28,.v (.bool b3))] [])
def yhQ (Q:Qx):Ls→Nat→Ls→Int→Int→Bool→Prop:=(fun l0 n1 l3 i4 i5 b6=>Q (.exit 2) [(6,.v (.own 0 0 n1 (List.length l0) none)),(25,.v (.data l3)),(26,.v (.int .i64 i4)),(27,.v (.int .i64 i5)),(28,.v (.bool b6))] [⟨false,true,4,l0⟩])
def yoP (Q:Qx):Ls→Ls→Ls→Ls→Ls→Int→Int→Nat→Int→Int→Bool→Prop:=(fun l0 l1 l2 l3 l4 i5 i6 n7 i9 i10 b11=>Q (.exit 0) [(0,.v (.eptr [(.agg [(.data l1),(.data l2),(.data l3),(.data l4)])] 0 0)),(4,.box (.agg [(.int .i64 i5),(.int .i64 i6)])),(15,.v (.own 0 0 n7 (List.length l0) none)),(16,.v (.int .i64 i9)),(17,.v (.int .i64 i10)),(18,.v (.bool b11))] [⟨false,true,4,l0⟩])
def yoQ (Q:Qx):Ls→Bool→Prop:=(fun l0 b1=>Q .ret [(2,.v (.bool b1))] [⟨false,true,4,l0⟩])
def yoR (Q:Qx):Ls→Ls→Ls→Ls→Int→Int→Int→Int→Bool→Prop:=(fun l0 l1 l2 l3 i4 i5 i6 i7 b8=>Q (.exit 0) [(0,.v (.eptr [(.agg [(.data l0),(.data l1),(.data l2),(.data l3)])] 0 0)),(4,.box (.agg [(.int .i64 i4),(.int .i64 i5)])),(15,.v .nils),(16,.v (.int .i64 i6)),(17,.v (.int .i64 i7)),(18,.v (.bool b8))] [])
def yiP (a0:yab) (a1:yal) (Q:Qx):List St:=[⟨(pS hN (fV 0 vD (fV 3 pt0 (fV 9 vD (fV 10 pt0 (fV 11 pt0 fN))))) fN),ycl a0 a1 (yoN Q)⟩]
def yiQ (a0:yab) (a1:yal) (Q:Qx):List St:=[⟨(pS hN (fV 6 vNs pt26) fN),ycm a0 a1 (yoO Q) (yhQ Q)⟩,⟨(pS (hB false true 4 rA hN) (fV 6 (vW 0 (nK 0) nV (nT 0)) pt26) fN),ybp a0 a1 (yhQ Q)⟩]
def pt30:Pat Frm:=fV 16 pt0 (fV 17 pt0 fN)
def yiR (a0:yab) (a1:yal) (Q:Qx):List St:=[⟨(pS (hB false true 4 rA hN) (fV 0 pt29 (fX 4 pt6 (fV 15 (vW 0 (nK 0) nV (nT 0)) pt30))) fN),ycn a0 a1 (yoP Q) (yoQ Q)⟩,⟨(pS hN (fV 0 pt29 (fX 4 pt6 (fV 15 vNs pt30))) fN),yfN a0 a1 (yoR Q)⟩]
def yef (a0:yab) (a1:yal):LP:=lpS [(14451100,yiP a0 a1),(14451101,yiQ a0 a1),(93107500,yiR a0 a1)]
def yfu (a0:yab) (a1:yal):SE:=⟨(E ef0),yeB [(ybw,yis.pw a0),(ybo,ynD.pw a1)],yeC [(ycO,yf4)],yef a0 a1,fun _=>none⟩
def ykw (a0:yab) (a1:yal):SE:=⟨(E ef0),yeB [(ybw,yis.pw a0),(ybo,ynD.pw a1)],yeC [(ydy,yiZ),(ycO,yf4)],yef a0 a1,fun _=>none⟩
theorem ygz:SEOk (Uni (E ef0)) (yfu yaA yah):=yaw (Sub.uni _) ⟨(yee ef0 ycJ),(yeS ef0 ycJ),trivial⟩ ⟨⟨by kernel_rfl,by kernel_rfl,rfl,fun as=>yax (by kernel_rfl) as,ycJ.num _ (by kernel_rfl),by kernel_rfl,(yai (by kernel_rfl))⟩,trivial⟩ ycJ.ok
theorem ynS (a0 a1):ycp (yfu a0 a1) 10 a ynm false (yiP a0 a1):=fun _=>⟨fun _=>by kernel_rfl,fun _ _=>by kernel_rfl,trivial⟩
theorem ynT:LpT (Uni (E ef0)) (yef yaA yah) [] 14451100 (.loop 14451100 ynm):=fun _ _ _=>yok.st (Sub.uni _) (yaD (ygz) 10) (YOk.no _ _) (yai (by kernel_rfl)) (ynS _ _ _)
theorem ynU (a0 a1):ycp (yfu a0 a1) 10 a ynn false (yiQ a0 a1):=fun _=>⟨fun _=>by kernel_rfl,fun _ _=>by kernel_rfl,fun _=>by kernel_rfl,fun _ _=>by kernel_rfl,trivial⟩
theorem ynV:LpT (Uni (E ef0)) (yef yaA yah) [] 14451101 (.loop 14451101 ynn):=fun _ _ _=>yok.st (Sub.uni _) (yaD (ygz) 10) (YOk.no _ _) (yai (by kernel_rfl)) (ynU _ _ _)
theorem ynW (a0 a1):ycp (yfu a0 a1) 10 a yno false (yiR a0 a1):=fun _=>⟨fun _=>by kernel_rfl,fun _ _=>by kernel_rfl,fun _=>by kernel_rfl,fun _ _=>by kernel_rfl,trivial⟩
theorem ynX:LpT (Uni (E ef0)) (yef yaA yah) [] 93107500 (.loop 93107500 yno):=fun _ _ _=>yok.st (Sub.uni _) (yaD (ygz) 10) (YOk.no _ _) (yai (by kernel_rfl)) (ynW _ _ _)
theorem yra:SEOk (Uni (E ef0)) (ykw yaA yah):=yaw (Sub.uni _) ⟨(yee ef0 ycJ),(yeS ef0 ycJ),trivial⟩ ⟨⟨by kernel_rfl,by kernel_rfl,rfl,fun as=>yax (by kernel_rfl) as,ycJ.num _ (by kernel_rfl),by kernel_rfl,(ybe (l:=[(14451100,.loop 14451100 ynm),(14451101,.loop 14451101 ynn)]) ⟨ynT,ynV,trivial⟩ (by kernel_rfl))⟩,⟨by kernel_rfl,by kernel_rfl,rfl,fun as=>yax (by kernel_rfl) as,ycJ.num _ (by kernel_rfl),by kernel_rfl,(yai (by kernel_rfl))⟩,trivial⟩ ycJ.ok
theorem ys0 (a0 a1):EqW (ykw a0 a1) 11 ytR ysZ (ygV a0 a1):=fun _ _=>by kernel_rfl
theorem ygW:OkF (E ef0) (ysZ.pw yad) ycP:=okU ycJ (ys0 _ _) (yra) yj6.flat (ybe (l:=[(93107500,.loop 93107500 yno)]) ⟨ynX,trivial⟩ (by kernel_rfl))
abbrev yas:Type:=Ls→Ls→Ls→Ls→Int→(Int→Int→Bool→Prop)→Prop
def ya0 (a0:yaa) (a1:yaG) (a2:yav) (a3:ybg) (a4:yal) (a:Ls→Ls→Ls→Ls→Ls→Ls→Ls→Ls→Int→Int→Int→Int→Int→Bool→Prop) (b:Ls→Ls→Ls→Ls→Int→Int→Bool→Prop):Nat→Ls→Ls→Ls→Ls→Ls→Ls→Ls→Ls→Int→Int→Int→Int→Int→Prop
 | 0,_,_,_,_,_,_,_,_,_,_,_,_,_=>False
 | f+1,l0,l1,l2,l3,l4,l5,l6,l7,i8,i9,i10,i11,i12 =>
 (cbr (decide (i12<i11))
 (jn (fun (c:Bool→Prop) =>
 (cbr (decide (i8<i12))
 (asr (decide ((0:Int)≤i8))
 (asr (decide (i8<(((List.length l1):Nat):Int)))
 (lt (List.getD l1 (i8.toNat) .nils) (fun d =>
 (asr (conf zD d)
 (asr (decide ((0:Int)≤i12))
 (asr (decide (i12<(((List.length l1):Nat):Int)))
 (lt (List.getD l1 (i12.toNat) .nils) (fun e =>
 (asr (conf zD e)
 (a0 (yaE d) (yaE e) (fun g =>
 (c g)))))))))))))
 (c false)))
 (fun h=>(cbr h
 (b l0 l1 l2 l3 i8 i12 true)
 (lt (IntKind.i64.wrap (i12+(1:Int))) (fun i =>
 (ya0 a0 a1 a2 a3 a4 a b f l0 l1 l2 l3 l4 l5 l6 l7 i8 i9 i10 i11 i))))))
 (a l0 l1 l2 l3 l4 l5 l6 l7 i8 i9 i10 i11 i12 false))
def ya1 (a0:yaa) (a1:yaG) (a2:yav) (a3:ybg) (a4:yal) (d:Ls→Ls→Ls→Ls→Int→Int→Bool→Prop) (e:Ls→Ls→Ls→Ls→Ls→Ls→Ls→Ls→Int→Int→Int→Int→Int→Bool→Prop):Nat→Ls→Ls→Ls→Ls→Ls→Ls→Ls→Ls→Int→Int→Int→Int→Int→Prop
 | 0,_,_,_,_,_,_,_,_,_,_,_,_,_=>False
 | g+1,l0,l1,l2,l3,l4,l5,l6,l7,i8,i9,i10,i11,i12 =>
 (cbr (decide (i12<i11))
 (asr (decide ((0:Int)≤i8))
 (asr (decide (i8<(((List.length l0):Nat):Int)))
 (lt (List.getD l0 (i8.toNat) .nils) (fun a =>
 (asr (conf zK a)
 (a2 (yac (yaj a 0)) (yaE (yaj a 1)) (yaE (yaj a 2)) (fun h _ =>
 (a3 h (((List.length l0):Nat):Int) (fun i j _ =>
 (jn (fun (f:Bool→Prop) =>
 (cbr (i8 == i12)
 (asr (decide ((0:Int)≤i8))
 (asr (decide (i8<(((List.length l2):Nat):Int)))
 (lt (List.getD l2 (i8.toNat) .nils) (fun b =>
 (asr (conf zD b)
 (asr (decide ((0:Int)≤i8))
 (asr (decide (i8<(((List.length (yaE b)):Nat):Int)))
 (lt (List.getD (yaE b) (i8.toNat) .nils) (fun c =>
 (asr (conf z2 c)
 (a4 (yac (yaj c 0)) (yac (yaj c 1)) i j (fun k =>
 (f k)))))))))))))
 (f false)))
 (fun l=>(cbr l
 (d l0 l1 l2 l3 i8 i12 true)
 (lt (IntKind.i64.wrap (i12+(1:Int))) (fun m =>
 (ya1 a0 a1 a2 a3 a4 d e g l0 l1 l2 l3 l4 l5 l6 l7 i8 i9 i10 i11 m)))))))))))))))
 (e l0 l1 l2 l3 l4 l5 l6 l7 i8 i9 i10 i11 i12 false))
def ya2 (a0:yaa) (a1:yaG) (a2:yav) (a3:ybg) (a4:yal) (e:Ls→Ls→Ls→Ls→Int→Int→Bool→Prop) (f:Ls→Ls→Ls→Ls→Ls→Ls→Ls→Ls→Int→Int→Int→Int→Int→Bool→Prop):Nat→Ls→Ls→Ls→Ls→Ls→Ls→Ls→Ls→Int→Int→Int→Int→Int→Prop
 | 0,_,_,_,_,_,_,_,_,_,_,_,_,_=>False
 | g+1,l0,l1,l2,l3,l4,l5,l6,l7,i8,i9,i10,i11,i12 =>
 (cbr (decide (i12<i11))
 (asr (decide ((0:Int)≤i8))
 (asr (decide (i8<(((List.length l2):Nat):Int)))
 (lt (List.getD l2 (i8.toNat) .nils) (fun a =>
 (asr (conf zD a)
 (asr (decide ((0:Int)≤i8))
 (asr (decide (i8<(((List.length (yaE a)):Nat):Int)))
 (lt (List.getD (yaE a) (i8.toNat) .nils) (fun b =>
 (asr (conf z2 b)
 (asr (decide ((0:Int)≤i8))
 (asr (decide (i8<(((List.length l2):Nat):Int)))
 (lt (List.getD l2 (i8.toNat) .nils) (fun c =>
 (asr (conf zD c)
 (asr (decide ((0:Int)≤i12))
 (asr (decide (i12<(((List.length (yaE c)):Nat):Int)))
 (lt (List.getD (yaE c) (i12.toNat) .nils) (fun d =>
 (asr (conf z2 d)
 (a4 (yac (yaj b 0)) (yac (yaj b 1)) (yac (yaj d 0)) (yac (yaj d 1)) (fun h =>
 (cbr h
 (e l0 l1 l2 l3 i8 i12 true)
 (lt (IntKind.i64.wrap (i12+(1:Int))) (fun i =>
 (ya2 a0 a1 a2 a3 a4 e f g l0 l1 l2 l3 l4 l5 l6 l7 i8 i9 i10 i11 i))))))))))))))))))))))))))
 (f l0 l1 l2 l3 l4 l5 l6 l7 i8 i9 i10 i11 i12 false))
def ya3 (a0:yaa) (a1:yaG) (a2:yav) (a3:ybg) (a4:yal) (c:Ls→Ls→Ls→Ls→Int→Int→Bool→Prop) (d:Ls→Ls→Ls→Ls→Ls→Ls→Ls→Ls→Int→Int→Int→Int→Int→Bool→Prop):Nat→Ls→Ls→Ls→Ls→Ls→Ls→Ls→Ls→Int→Int→Int→Int→Int→Prop
 | 0,_,_,_,_,_,_,_,_,_,_,_,_,_=>False
 | f+1,l0,l1,l2,l3,l4,l5,l6,l7,i8,i9,i10,i11,i12 =>
 (cbr (decide (i12<i11))
 (jn (fun (e:Bool→Prop) =>
 (cbr (i12 ==(0:Int))
 (asr (decide ((0:Int)≤i8))
 (asr (decide (i8<(((List.length l3):Nat):Int)))
 (lt (List.getD l3 (i8.toNat) .nils) (fun a =>
 (asr (conf z2 a)
 (asr (decide ((0:Int)<(((List.length l3):Nat):Int)))
 (lt (List.getD l3 0 .nils) (fun b =>
 (asr (conf z2 b)
 (e (!(((yac (yaj a 0)) ==(yac (yaj b 0)))&&(((yac (yaj a 1)) ==(yac (yaj b 1)))&&true)))))))))))))
 (e false)))
 (fun g=>(cbr g
 (c l0 l1 l2 l3 i8 i12 true)
 (lt (IntKind.i64.wrap (i12+(1:Int))) (fun h =>
 (ya3 a0 a1 a2 a3 a4 c d f l0 l1 l2 l3 l4 l5 l6 l7 i8 i9 i10 i11 h))))))
 (d l0 l1 l2 l3 l4 l5 l6 l7 i8 i9 i10 i11 i12 false))
def ya4 (a0:yaa) (a1:yaG) (a2:yav) (a3:ybg) (a4:yal) (a:Ls→Ls→Ls→Ls→Int→Int→Bool→Prop) (b:Ls→Ls→Ls→Ls→Ls→Ls→Ls→Ls→Int→Int→Int→Int→Int→Bool→Prop):Nat→Ls→Ls→Ls→Ls→Ls→Ls→Ls→Ls→Int→Int→Int→Int→Int→Prop
 | 0,_,_,_,_,_,_,_,_,_,_,_,_,_=>False
 | e+1,l0,l1,l2,l3,l4,l5,l6,l7,i8,i9,i10,i11,i12 =>
 (cbr (decide (i12<i11))
 (jn (fun (c:Bool→Prop) =>
 (cbr (i8 == i12)
 (asr (decide ((0:Int)≤i8))
 (asr (decide (i8<(((List.length l1):Nat):Int)))
 (lt (List.getD l1 (i8.toNat) .nils) (fun d =>
 (asr (conf zD d)
 (c ((((List.length (yaE d)):Nat):Int) !=(1:Int))))))))
 (c false)))
 (fun f=>(cbr f
 (a l0 l1 l2 l3 i8 i12 true)
 (lt (IntKind.i64.wrap (i12+(1:Int))) (fun g =>
 (ya4 a0 a1 a2 a3 a4 a b e l0 l1 l2 l3 l4 l5 l6 l7 i8 i9 i10 i11 g))))))
 (b l0 l1 l2 l3 l4 l5 l6 l7 i8 i9 i10 i11 i12 false))
def ya5 (a0:yaa) (a1:yaG) (a2:yav) (a3:ybg) (a4:yal) (a:Ls→Ls→Ls→Ls→Ls→Ls→Ls→Ls→Int→Int→Bool→Prop) (b:Ls→Ls→Ls→Ls→Int→Int→Bool→Prop):Nat→Ls→Ls→Ls→Ls→Ls→Ls→Ls→Ls→Int→Int→Prop
 | 0,_,_,_,_,_,_,_,_,_,_=>False
 | c+1,l0,l1,l2,l3,l4,l5,l6,l7,i8,i9 =>
 (cbr (decide (i9<i8))
 (∃ d:Nat,ya0 a0 a1 a2 a3 a4
 (fun e f g h i j k l _ m n _ _ _=>(lt (IntKind.i64.wrap (n+(1:Int))) (fun o =>
 (ya5 a0 a1 a2 a3 a4 a b c e f g h i j k l m o))))
 (fun p q r s t u v=>(b p q r s t u v))
 d l0 l1 l2 l3 l4 l5 l6 l7 i9 i8 i9 (((List.length l4):Nat):Int) (0:Int))
 (a l0 l1 l2 l3 l4 l5 l6 l7 i8 i9 false))
def ya6 (a0:yaa) (a1:yaG) (a2:yav) (a3:ybg) (a4:yal) (a:Ls→Ls→Ls→Ls→Int→Int→Bool→Prop) (b:Ls→Ls→Ls→Ls→Ls→Ls→Ls→Ls→Int→Int→Bool→Prop):Nat→Ls→Ls→Ls→Ls→Ls→Ls→Ls→Ls→Int→Int→Prop
 | 0,_,_,_,_,_,_,_,_,_,_=>False
 | c+1,l0,l1,l2,l3,l4,l5,l6,l7,i8,i9 =>
 (cbr (decide (i9<i8))
 (∃ d:Nat,ya1 a0 a1 a2 a3 a4
 (fun e f g h i j k=>(a e f g h i j k))
 (fun l m n o p q r s _ t u _ _ _=>(lt (IntKind.i64.wrap (u+(1:Int))) (fun v =>
 (ya6 a0 a1 a2 a3 a4 a b c l m n o p q r s t v))))
 d l0 l1 l2 l3 l4 l5 l6 l7 i9 i8 i9 (((List.length l4):Nat):Int) (0:Int))
 (b l0 l1 l2 l3 l4 l5 l6 l7 i8 i9 false))
def ya7 (a0:yaa) (a1:yaG) (a2:yav) (a3:ybg) (a4:yal) (a:Ls→Ls→Ls→Ls→Int→Int→Bool→Prop) (b:Ls→Ls→Ls→Ls→Ls→Ls→Ls→Ls→Int→Int→Bool→Prop):Nat→Ls→Ls→Ls→Ls→Ls→Ls→Ls→Ls→Int→Int→Prop
 | 0,_,_,_,_,_,_,_,_,_,_=>False
 | c+1,l0,l1,l2,l3,l4,l5,l6,l7,i8,i9 =>
 (cbr (decide (i9<i8))
 (∃ d:Nat,ya2 a0 a1 a2 a3 a4
 (fun e f g h i j k=>(a e f g h i j k))
 (fun l m n o p q r s _ t u _ _ _=>(lt (IntKind.i64.wrap (u+(1:Int))) (fun v =>
 (ya7 a0 a1 a2 a3 a4 a b c l m n o p q r s t v))))
 d l0 l1 l2 l3 l4 l5 l6 l7 i9 i8 i9 (((List.length l4):Nat):Int) (0:Int))
 (b l0 l1 l2 l3 l4 l5 l6 l7 i8 i9 false))
def ya8 (a0:yaa) (a1:yaG) (a2:yav) (a3:ybg) (a4:yal) (a:Ls→Ls→Ls→Ls→Int→Int→Bool→Prop) (b:Ls→Ls→Ls→Ls→Ls→Ls→Ls→Ls→Int→Int→Bool→Prop):Nat→Ls→Ls→Ls→Ls→Ls→Ls→Ls→Ls→Int→Int→Prop
 | 0,_,_,_,_,_,_,_,_,_,_=>False
 | c+1,l0,l1,l2,l3,l4,l5,l6,l7,i8,i9 =>
 (cbr (decide (i9<i8))
 (∃ d:Nat,ya3 a0 a1 a2 a3 a4
 (fun e f g h i j k=>(a e f g h i j k))
 (fun l m n o p q r s _ t u _ _ _=>(lt (IntKind.i64.wrap (u+(1:Int))) (fun v =>
 (ya8 a0 a1 a2 a3 a4 a b c l m n o p q r s t v))))
 d l0 l1 l2 l3 l4 l5 l6 l7 i9 i8 i9 (((List.length l4):Nat):Int) (0:Int))
 (b l0 l1 l2 l3 l4 l5 l6 l7 i8 i9 false))
def ya9 (a0:yaa) (a1:yaG) (a2:yav) (a3:ybg) (a4:yal) (a:Ls→Ls→Ls→Ls→Int→Int→Bool→Prop) (b:Ls→Ls→Ls→Ls→Ls→Ls→Ls→Ls→Int→Int→Bool→Prop):Nat→Ls→Ls→Ls→Ls→Ls→Ls→Ls→Ls→Int→Int→Prop
 | 0,_,_,_,_,_,_,_,_,_,_=>False
 | c+1,l0,l1,l2,l3,l4,l5,l6,l7,i8,i9 =>
 (cbr (decide (i9<i8))
 (∃ d:Nat,ya4 a0 a1 a2 a3 a4
 (fun e f g h i j k=>(a e f g h i j k))
 (fun l m n o p q r s _ t u _ _ _=>(lt (IntKind.i64.wrap (u+(1:Int))) (fun v =>
 (ya9 a0 a1 a2 a3 a4 a b c l m n o p q r s t v))))
 d l0 l1 l2 l3 l4 l5 l6 l7 i9 i8 i9 (((List.length l4):Nat):Int) (0:Int))
 (b l0 l1 l2 l3 l4 l5 l6 l7 i8 i9 false))
def yfO (a0:yaa) (a1:yaG) (a2:yav) (a3:ybg) (a4:yal) (p0 p1 p2 p3:Ls) (p4:Int) (K:Int→Int→Bool→Prop):Prop :=
 (cbr (p4 ==(1:Int))
 (jn (fun (b:Ls→Ls→Ls→Ls→Int→Int→Bool→Prop) =>
 (∃ a:Nat,ya5 a0 a1 a2 a3 a4
 (fun i j k l _ _ _ _ _ _ _=>(b i j k l (0:Int) (0:Int) false))
 (fun m n o p q r s=>(b m n o p q r s))
 a p0 p1 p2 p3 p0 p1 p2 p3 (((List.length p0):Nat):Int) (0:Int)))
 (fun t u v w x y c=>(jn (fun (d:Bool→Prop) =>
 (cbr (!c)
 (a1 t u v w (fun z =>
 (d z)))
 (d false)))
 (fun A=>(cbr A
 (K (-1:Int) (-1:Int) true)
 (K x y c))))))
 (cbr (p4 ==(2:Int))
 (jn (fun (e:Ls→Ls→Ls→Ls→Int→Int→Bool→Prop) =>
 (∃ a:Nat,ya6 a0 a1 a2 a3 a4
 (fun B C D E F G H=>(e B C D E F G H))
 (fun I J L M _ _ _ _ _ _ _=>(e I J L M (0:Int) (0:Int) false))
 a p0 p1 p2 p3 p0 p1 p2 p3 (((List.length p0):Nat):Int) (0:Int)))
 (fun _ _ _ _ N O Q=>(K N O Q)))
 (cbr (p4 ==(4:Int))
 (jn (fun (f:Ls→Ls→Ls→Ls→Int→Int→Bool→Prop) =>
 (∃ a:Nat,ya7 a0 a1 a2 a3 a4
 (fun R S T U V W X=>(f R S T U V W X))
 (fun Y Z va vb _ _ _ _ _ _ _=>(f Y Z va vb (0:Int) (0:Int) false))
 a p0 p1 p2 p3 p0 p1 p2 p3 (((List.length p0):Nat):Int) (0:Int)))
 (fun _ _ _ _ vc vd ve=>(K vc vd ve)))
 (cbr (p4 ==(8:Int))
 (jn (fun (g:Ls→Ls→Ls→Ls→Int→Int→Bool→Prop) =>
 (∃ a:Nat,ya8 a0 a1 a2 a3 a4
 (fun vf vg vh vi vj vk vl=>(g vf vg vh vi vj vk vl))
 (fun vm vn vo vp _ _ _ _ _ _ _=>(g vm vn vo vp (0:Int) (0:Int) false))
 a p0 p1 p2 p3 p0 p1 p2 p3 (((List.length p0):Nat):Int) (0:Int)))
 (fun _ _ _ _ vq vr vs=>(K vq vr vs)))
 (jn (fun (h:Ls→Ls→Ls→Ls→Int→Int→Bool→Prop) =>
 (∃ a:Nat,ya9 a0 a1 a2 a3 a4
 (fun vt vu vv vw vx vy vz=>(h vt vu vv vw vx vy vz))
 (fun vA vB vC vD _ _ _ _ _ _ _=>(h vA vB vC vD (0:Int) (0:Int) false))
 a p0 p1 p2 p3 p0 p1 p2 p3 (((List.length p0):Nat):Int) (0:Int)))
 (fun _ _ _ _ vE vF vG=>(K vE vF vG)))))))
def yat:yas:=yfO yan yad yaf yao yah
def yoS:Sg:=⟨(lC pt29 (lC (vI IntKind.u8) lN)),Int→Int→Bool→Prop,fun K=>(fun r0 r1 r2=>K (.tup [(.int .i64 r0),(.int .i64 r1),(.bool r2)]))⟩
def ylz (Q:Qx):Ls→Ls→Ls→Ls→Ls→Ls→Ls→Ls→Int→Int→Int→Int→Int→Bool→Prop:=(fun l0 l1 l2 l3 l4 l5 l6 l7 i8 i9 i10 i11 i12 b13=>Q (.exit 2) [(0,.v (.eptr [(.agg [(.data l4),(.data l5),(.data l6),(.data l7)])] 0 0)),(1,.v (.fn (.func ybA) [] [(.ptr 0 1 0 0)])),(7,.v (.int .i64 i8)),(13,.v (.int .i64 i9)),(14,.v (.int .i64 i10)),(21,.v (.int .i64 i11)),(22,.v (.int .i64 i12)),(23,.v (.bool b13))] [⟨false,false,1,([(.eptr [(.agg [(.data l0),(.data l1),(.data l2),(.data l3)])] 0 0)]:Ls)⟩])
def ycr (Q:Qx):Ls→Ls→Ls→Ls→Int→Int→Bool→Prop:=(fun l0 l1 l2 l3 i4 i5 b6=>Q .ret [(4,.v (.int .i64 i4)),(5,.v (.int .i64 i5)),(6,.v (.bool b6))] [⟨false,false,1,([(.eptr [(.agg [(.data l0),(.data l1),(.data l2),(.data l3)])] 0 0)]:Ls)⟩])
def ylA (Q:Qx):Ls→Ls→Ls→Ls→Ls→Ls→Ls→Ls→Int→Int→Int→Int→Int→Bool→Prop:=(fun l0 l1 l2 l3 l4 l5 l6 l7 i8 i9 i10 i11 i12 b13=>Q (.exit 2) [(0,.v (.eptr [(.agg [(.data l4),(.data l5),(.data l6),(.data l7)])] 0 0)),(1,.v (.fn (.func ybB) [] [(.ptr 0 1 0 0)])),(7,.v (.int .i64 i8)),(13,.v (.int .i64 i9)),(14,.v (.int .i64 i10)),(21,.v (.int .i64 i11)),(22,.v (.int .i64 i12)),(23,.v (.bool b13))] [⟨false,false,1,([(.eptr [(.agg [(.data l0),(.data l1),(.data l2),(.data l3)])] 0 0)]:Ls)⟩])
def ylB (Q:Qx):Ls→Ls→Ls→Ls→Ls→Ls→Ls→Ls→Int→Int→Int→Int→Int→Bool→Prop:=(fun l0 l1 l2 l3 l4 l5 l6 l7 i8 i9 i10 i11 i12 b13=>Q (.exit 2) [(0,.v (.eptr [(.agg [(.data l4),(.data l5),(.data l6),(.data l7)])] 0 0)),(1,.v (.fn (.func ybC) [] [(.ptr 0 1 0 0)])),(7,.v (.int .i64 i8)),(13,.v (.int .i64 i9)),(14,.v (.int .i64 i10)),(21,.v (.int .i64 i11)),(22,.v (.int .i64 i12)),(23,.v (.bool b13))] [⟨false,false,1,([(.eptr [(.agg [(.data l0),(.data l1),(.data l2),(.data l3)])] 0 0)]:Ls)⟩])
def ylC (Q:Qx):Ls→Ls→Ls→Ls→Ls→Ls→Ls→Ls→Int→Int→Int→Int→Int→Bool→Prop:=(fun l0 l1 l2 l3 l4 l5 l6 l7 i8 i9 i10 i11 i12 b13=>Q (.exit 2) [(0,.v (.eptr [(.agg [(.data l4),(.data l5),(.data l6),(.data l7)])] 0 0)),(1,.v (.fn (.func ybD) [] [(.ptr 0 1 0 0)])),(7,.v (.int .i64 i8)),(13,.v (.int .i64 i9)),(14,.v (.int .i64 i10)),(21,.v (.int .i64 i11)),(22,.v (.int .i64 i12)),(23,.v (.bool b13))] [⟨false,false,1,([(.eptr [(.agg [(.data l0),(.data l1),(.data l2),(.data l3)])] 0 0)]:Ls)⟩])
def ylD (Q:Qx):Ls→Ls→Ls→Ls→Ls→Ls→Ls→Ls→Int→Int→Int→Int→Int→Bool→Prop:=(fun l0 l1 l2 l3 l4 l5 l6 l7 i8 i9 i10 i11 i12 b13=>Q (.exit 2) [(0,.v (.eptr [(.agg [(.data l4),(.data l5),(.data l6),(.data l7)])] 0 0)),(1,.v (.fn (.func ybE) [] [(.ptr 0 1 0 0)])),(7,.v (.int .i64 i8)),(13,.v (.int .i64 i9)),(14,.v (.int .i64 i10)),(21,.v (.int .i64 i11)),(22,.v (.int .i64 i12)),(23,.v (.bool b13))] [⟨false,false,1,([(.eptr [(.agg [(.data l0),(.data l1),(.data l2),(.data l3)])] 0 0)]:Ls)⟩])
def ylE (Q:Qx):Ls→Ls→Ls→Ls→Ls→Ls→Ls→Ls→Int→Int→Bool→Prop:=(fun l0 l1 l2 l3 l4 l5 l6 l7 i8 i9 b10=>Q (.exit 0) [(0,.v (.eptr [(.agg [(.data l4),(.data l5),(.data l6),(.data l7)])] 0 0)),(1,.v (.fn (.func ybA) [] [(.ptr 0 1 0 0)])),(13,.v (.int .i64 i8)),(14,.v (.int .i64 i9)),(15,.v (.bool b10))] [⟨false,false,1,([(.eptr [(.agg [(.data l0),(.data l1),(.data l2),(.data l3)])] 0 0)]:Ls)⟩])
def ycs (Q:Qx):Ls→Ls→Ls→Ls→Int→Int→Bool→Prop:=(fun l0 l1 l2 l3 i4 i5 b6=>Q .ret [(4,.v (.int .i64 i4)),(5,.v (.int .i64 i5)),(6,.v (.bool b6))] [⟨false,false,1,([(.eptr [(.agg [(.data l0),(.data l1),(.data l2),(.data l3)])] 0 0)]:Ls)⟩])
def ylF (Q:Qx):Ls→Ls→Ls→Ls→Ls→Ls→Ls→Ls→Int→Int→Bool→Prop:=(fun l0 l1 l2 l3 l4 l5 l6 l7 i8 i9 b10=>Q (.exit 0) [(0,.v (.eptr [(.agg [(.data l4),(.data l5),(.data l6),(.data l7)])] 0 0)),(1,.v (.fn (.func ybB) [] [(.ptr 0 1 0 0)])),(13,.v (.int .i64 i8)),(14,.v (.int .i64 i9)),(15,.v (.bool b10))] [⟨false,false,1,([(.eptr [(.agg [(.data l0),(.data l1),(.data l2),(.data l3)])] 0 0)]:Ls)⟩])
def ylG (Q:Qx):Ls→Ls→Ls→Ls→Ls→Ls→Ls→Ls→Int→Int→Bool→Prop:=(fun l0 l1 l2 l3 l4 l5 l6 l7 i8 i9 b10=>Q (.exit 0) [(0,.v (.eptr [(.agg [(.data l4),(.data l5),(.data l6),(.data l7)])] 0 0)),(1,.v (.fn (.func ybC) [] [(.ptr 0 1 0 0)])),(13,.v (.int .i64 i8)),(14,.v (.int .i64 i9)),(15,.v (.bool b10))] [⟨false,false,1,([(.eptr [(.agg [(.data l0),(.data l1),(.data l2),(.data l3)])] 0 0)]:Ls)⟩])
def ylH (Q:Qx):Ls→Ls→Ls→Ls→Ls→Ls→Ls→Ls→Int→Int→Bool→Prop:=(fun l0 l1 l2 l3 l4 l5 l6 l7 i8 i9 b10=>Q (.exit 0) [(0,.v (.eptr [(.agg [(.data l4),(.data l5),(.data l6),(.data l7)])] 0 0)),(1,.v (.fn (.func ybD) [] [(.ptr 0 1 0 0)])),(13,.v (.int .i64 i8)),(14,.v (.int .i64 i9)),(15,.v (.bool b10))] [⟨false,false,1,([(.eptr [(.agg [(.data l0),(.data l1),(.data l2),(.data l3)])] 0 0)]:Ls)⟩])
def ylI (Q:Qx):Ls→Ls→Ls→Ls→Ls→Ls→Ls→Ls→Int→Int→Bool→Prop:=(fun l0 l1 l2 l3 l4 l5 l6 l7 i8 i9 b10=>Q (.exit 0) [(0,.v (.eptr [(.agg [(.data l4),(.data l5),(.data l6),(.data l7)])] 0 0)),(1,.v (.fn (.func ybE) [] [(.ptr 0 1 0 0)])),(13,.v (.int .i64 i8)),(14,.v (.int .i64 i9)),(15,.v (.bool b10))] [⟨false,false,1,([(.eptr [(.agg [(.data l0),(.data l1),(.data l2),(.data l3)])] 0 0)]:Ls)⟩])
def pt31:HPt:=hB false false 1 (rC pt29 rN) hN
def pt32:VPt:=vF ybA lN pt22
def pt33:Pat Frm:=fV 7 pt0 (fV 13 pt0 (fV 14 pt0 (fV 21 pt0 (fV 22 pt0 fN))))
def pt34:VPt:=vF ybB lN pt22
def pt35:VPt:=vF ybC lN pt22
def pt36:VPt:=vF ybD lN pt22
def pt37:VPt:=vF ybE lN pt22
def yg9 (a0:yaa) (a1:yaG) (a2:yav) (a3:ybg) (a4:yal) (Q:Qx):List St:=[⟨(pS pt31 (fV 0 pt29 (fV 1 pt32 pt33)) fN),ya0 a0 a1 a2 a3 a4 (ylz Q) (ycr Q)⟩,⟨(pS pt31 (fV 0 pt29 (fV 1 pt34 pt33)) fN),ya1 a0 a1 a2 a3 a4 (ycr Q) (ylA Q)⟩,⟨(pS pt31 (fV 0 pt29 (fV 1 pt35 pt33)) fN),ya2 a0 a1 a2 a3 a4 (ycr Q) (ylB Q)⟩,⟨(pS pt31 (fV 0 pt29 (fV 1 pt36 pt33)) fN),ya3 a0 a1 a2 a3 a4 (ycr Q) (ylC Q)⟩,⟨(pS pt31 (fV 0 pt29 (fV 1 pt37 pt33)) fN),ya4 a0 a1 a2 a3 a4 (ycr Q) (ylD Q)⟩]
def yha (a0:yaa) (a1:yaG) (a2:yav) (a3:ybg) (a4:yal) (Q:Qx):List St:=[⟨(pS pt31 (fV 0 pt29 (fV 1 pt32 pt23)) fN),ya5 a0 a1 a2 a3 a4 (ylE Q) (ycs Q)⟩,⟨(pS pt31 (fV 0 pt29 (fV 1 pt34 pt23)) fN),ya6 a0 a1 a2 a3 a4 (ycs Q) (ylF Q)⟩,⟨(pS pt31 (fV 0 pt29 (fV 1 pt35 pt23)) fN),ya7 a0 a1 a2 a3 a4 (ycs Q) (ylG Q)⟩,⟨(pS pt31 (fV 0 pt29 (fV 1 pt36 pt23)) fN),ya8 a0 a1 a2 a3 a4 (ycs Q) (ylH Q)⟩,⟨(pS pt31 (fV 0 pt29 (fV 1 pt37 pt23)) fN),ya9 a0 a1 a2 a3 a4 (ycs Q) (ylI Q)⟩]
def yej (a0:yaa) (a1:yaG) (a2:yav) (a3:ybg) (a4:yal):LP:=lpS [(97930200,yg9 a0 a1 a2 a3 a4),(97930201,yha a0 a1 a2 a3 a4)]
def yfP (a0:yaa) (a1:yaG) (a2:yav) (a3:ybg) (a4:yal):SE:=⟨(E ef0),yeB [(yfH,ydb.pw a0),(ycP,ysZ.pw a1),(ycb,yAO.pw a2),(yeE,yAD.pw a3),(ybo,ynD.pw a4)],yeC [(ybA,yhs),(ybB,yht),(ybC,yhu),(ybD,yhv),(ybE,yhw)],yej a0 a1 a2 a3 a4,fun _=>none⟩
def yhR (a0:yaa) (a1:yaG) (a2:yav) (a3:ybg) (a4:yal):SE:=⟨(E ef0),yeB [(yfH,ydb.pw a0),(ycP,ysZ.pw a1),(ycb,yAO.pw a2),(yeE,yAD.pw a3),(ybo,ynD.pw a4)],yeC [(ycf,yqQ),(ybA,yhs),(ybB,yht),(ybC,yhu),(ybD,yhv),(ybE,yhw)],yej a0 a1 a2 a3 a4,fun _=>none⟩
theorem yhF:SEOk (Uni (E ef0)) (yfP yan yad yaf yao yah):=yaw (Sub.uni _) ⟨(ykv ef0 ycJ),ygW,(ydY ef0 ycJ),(yip ef0 ycJ),(yeS ef0 ycJ),trivial⟩ ⟨⟨by kernel_rfl,by kernel_rfl,rfl,fun as=>yax (by kernel_rfl) as,ycJ.num _ (by kernel_rfl),by kernel_rfl,(yai (by kernel_rfl))⟩,⟨by kernel_rfl,by kernel_rfl,rfl,fun as=>yax (by kernel_rfl) as,ycJ.num _ (by kernel_rfl),by kernel_rfl,(yai (by kernel_rfl))⟩,⟨by kernel_rfl,by kernel_rfl,rfl,fun as=>yax (by kernel_rfl) as,ycJ.num _ (by kernel_rfl),by kernel_rfl,(yai (by kernel_rfl))⟩,⟨by kernel_rfl,by kernel_rfl,rfl,fun as=>yax (by kernel_rfl) as,ycJ.num _ (by kernel_rfl),by kernel_rfl,(yai (by kernel_rfl))⟩,⟨by kernel_rfl,by kernel_rfl,rfl,fun as=>yax (by kernel_rfl) as,ycJ.num _ (by kernel_rfl),by kernel_rfl,(yai (by kernel_rfl))⟩,trivial⟩ ycJ.ok
theorem ykI (a0 a1 a2 a3 a4):ycp (yfP a0 a1 a2 a3 a4) 10 a yka false (yg9 a0 a1 a2 a3 a4):=fun _=>⟨fun _=>by kernel_rfl,fun _ _=>by kernel_rfl,fun _=>by kernel_rfl,fun _ _=>by kernel_rfl,fun _=>by kernel_rfl,fun _ _=>by kernel_rfl,fun _=>by kernel_rfl,fun _ _=>by kernel_rfl,fun _=>by kernel_rfl,fun _ _=>by kernel_rfl,trivial⟩
theorem ygq:LpT (Uni (E ef0)) (yej yan yad yaf yao yah) [] 97930200 (.loop 97930200 yka):=fun _ _ _=>yok.st (Sub.uni _) (yaD (yhF) 10) (YOk.no _ _) (yai (by kernel_rfl)) (ykI _ _ _ _ _ _)
theorem ykJ (a0 a1 a2 a3 a4):ycp (yfP a0 a1 a2 a3 a4) 10 a ynl false (yha a0 a1 a2 a3 a4):=fun _=>⟨fun _=>by kernel_rfl,fun _ _=>by kernel_rfl,fun _=>by kernel_rfl,fun _ _=>by kernel_rfl,fun _=>by kernel_rfl,fun _ _=>by kernel_rfl,fun _=>by kernel_rfl,fun _ _=>by kernel_rfl,fun _=>by kernel_rfl,fun _ _=>by kernel_rfl,trivial⟩
theorem ykK:LpT (Uni (E ef0)) (yej yan yad yaf yao yah) [] 97930201 (.loop 97930201 ynl):=fun _ _ _=>yok.st (Sub.uni _) (yaD (yhF) 10) (YOk.no _ _) (ybe (l:=[(97930200,.loop 97930200 yka)]) ⟨ygq,trivial⟩ (by kernel_rfl)) (ykJ _ _ _ _ _ _)
theorem ynY:SEOk (Uni (E ef0)) (yhR yan yad yaf yao yah):=yaw (Sub.uni _) ⟨(ykv ef0 ycJ),ygW,(ydY ef0 ycJ),(yip ef0 ycJ),(yeS ef0 ycJ),trivial⟩ ⟨⟨by kernel_rfl,by kernel_rfl,rfl,fun as=>yax (by kernel_rfl) as,ycJ.num _ (by kernel_rfl),by kernel_rfl,(ybe (l:=[(97930200,.loop 97930200 yka),(97930201,.loop 97930201 ynl)]) ⟨ygq,ykK,trivial⟩ (by kernel_rfl))⟩,⟨by kernel_rfl,by kernel_rfl,rfl,fun as=>yax (by kernel_rfl) as,ycJ.num _ (by kernel_rfl),by kernel_rfl,(yai (by kernel_rfl))⟩,⟨by kernel_rfl,by kernel_rfl,rfl,fun as=>yax (by kernel_rfl) as,ycJ.num _ (by kernel_rfl),by kernel_rfl,(yai (by kernel_rfl))⟩,⟨by kernel_rfl,by kernel_rfl,rfl,fun as=>yax (by kernel_rfl) as,ycJ.num _ (by kernel_rfl),by kernel_rfl,(yai (by kernel_rfl))⟩,⟨by kernel_rfl,by kernel_rfl,rfl,fun as=>yax (by kernel_rfl) as,ycJ.num _ (by kernel_rfl),by kernel_rfl,(yai (by kernel_rfl))⟩,⟨by kernel_rfl,by kernel_rfl,rfl,fun as=>yax (by kernel_rfl) as,ycJ.num _ (by kernel_rfl),by kernel_rfl,(yai (by kernel_rfl))⟩,trivial⟩ ycJ.ok
theorem yoT (a0 a1 a2 a3 a4):EqW (yhR a0 a1 a2 a3 a4) 11 ype yoS (yfO a0 a1 a2 a3 a4):=fun _ _=>by kernel_rfl
theorem yc4:OkF (E ef0) (yoS.pw yat) ybh:=okU ycJ (yoT _ _ _ _ _) (ynY) yj6.flat (yai (by kernel_rfl))
abbrev ynZ:Type:=Ls→Ls→(Int→Ls→Int→Prop)→Prop
def yd6 (a0:yaM) (a1:yav) (a2:yab) (a3:yag) (a4:yas) (f:Ls→Ls→Ls→Ls→Int→Int→Bool→Prop) (g:Ls→Ls→Ls→Ls→Int→Prop):Nat→Ls→Ls→Ls→Ls→Int→Int→Prop
 | 0,_,_,_,_,_,_=>False
 | i+1,l0,l1,l2,l3,i6,i7 =>
 (cbr (decide (i7<i6))
 (asr (decide ((0:Int)≤i7))
 (asr (decide (i7<(((List.length l1):Nat):Int)))
 (lt (List.getD l1 (i7.toNat) .nils) (fun c =>
 (asr (conf zK c)
 (a1 (yac (yaj c 0)) (yaE (yaj c 1)) (yaE (yaj c 2)) (fun j _ =>
 (asr (decide ((0:Int)≤i7))
 (asr (decide (i7<(((List.length l3):Nat):Int)))
 (lt (List.getD l3 (i7.toNat) .nils) (fun d =>
 (asr (conf zD d)
 (asr (decide ((0:Int)≤i7))
 (asr (decide (i7<(((List.length (yaE d)):Nat):Int)))
 (lt (List.getD (yaE d) (i7.toNat) .nils) (fun e =>
 (asr (conf z2 e)
 (a2 j (fun k l =>
 (a3 (yac (yaj e 0)) (yac (yaj e 1)) k l (fun a b h =>
 (cbr (h !=(0:Int))
 (g l0 l1 l2 l3 h)
 (asr (decide ((List.length l0)=(List.length l0)))
 (asr (decide ((0+(List.length l0))≤(List.length l0)))
 (asr (!(decide (((0+(List.length l0))+1)≤(List.length l0))))
 (asr (decide ((List.length l0)=(List.length l0)))
 (asr (decide ((((List.length l0)+1)+64)*(16+1)≤room))
 (lt (IntKind.i64.wrap (i7+(1:Int))) (fun m =>
 (asr (decide ((List.length (l0++([(.agg [(.int .i64 a),(.int .i64 b)])]:Ls)))=List.length (l0++([(.agg [(.int .i64 a),(.int .i64 b)])]:Ls)))&&decide ((List.length (l0++([(.agg [(.int .i64 a),(.int .i64 b)])]:Ls)))=List.length (l0++([(.agg [(.int .i64 a),(.int .i64 b)])]:Ls))))
 (yd6 a0 a1 a2 a3 a4 f g i (l0++([(.agg [(.int .i64 a),(.int .i64 b)])]:Ls)) l1 l2 l3 i6 m)))))))))))))))))))))))))))))))
 (f l0 l1 l2 l3 i6 i7 false))
def ygo (a0:yaM) (a1:yav) (a2:yab) (a3:yag) (a4:yas) (g:Ls→Ls→Ls→Int→Int→Bool→Prop) (h:Ls→Ls→Ls→Int→Prop) (i:Ls→Ls→Ls→Ls→Int→Int→Bool→Prop) (j:Ls→Ls→Ls→Ls→Int→Prop):Nat→Ls→Ls→Ls→Int→Int→Prop
 | 0,_,_,_,_,_=>False
 | k+1,l0,l1,l2,i3,i4 =>
 (cbr (decide (i4<i3))
 (asr (decide ((0:Int)≤i4))
 (asr (decide (i4<(((List.length l0):Nat):Int)))
 (lt (List.getD l0 (i4.toNat) .nils) (fun a =>
 (asr (conf zK a)
 (a1 (yac (yaj a 0)) (yaE (yaj a 1)) (yaE (yaj a 2)) (fun l _ =>
 (asr (decide ((0:Int)≤i4))
 (asr (decide (i4<(((List.length l2):Nat):Int)))
 (lt (List.getD l2 (i4.toNat) .nils) (fun b =>
 (asr (conf zD b)
 (asr (decide ((0:Int)≤i4))
 (asr (decide (i4<(((List.length (yaE b)):Nat):Int)))
 (lt (List.getD (yaE b) (i4.toNat) .nils) (fun c =>
 (asr (conf z2 c)
 (a2 l (fun m n =>
 (a3 (yac (yaj c 0)) (yac (yaj c 1)) m n (fun d e f =>
 (cbr (f !=(0:Int))
 (h l0 l1 l2 f)
 (lt (IntKind.i64.wrap (i4+(1:Int))) (fun o =>
 (asr (decide (1=List.length ([(.agg [(.int .i64 d),(.int .i64 e)])]:Ls))&&decide (1=List.length ([(.agg [(.int .i64 d),(.int .i64 e)])]:Ls)))
 (yd6 a0 a1 a2 a3 a4 i j k ([(.agg [(.int .i64 d),(.int .i64 e)])]:Ls) l0 l1 l2 i3 o))))))))))))))))))))))))))
 (g l0 l1 l2 i3 i4 false))
def yic (a0:yaM) (a1:yav) (a2:yab) (a3:yag) (a4:yas) (a:Ls→Ls→Ls→Int→Int→Ls→Int→Bool→Prop):Nat→Ls→Ls→Ls→Int→Int→Ls→Int→Prop
 | 0,_,_,_,_,_,_,_=>False
 | c+1,l0,l1,l2,i3,i4,l5,i6 =>
 (cbr (decide (i6<(5:Int)))
 (jn (fun (b:Int→Prop) =>
 (asr (!(decide (i6<(0:Int))))
 (lt (IntKind.u8.wrap ((1:Int)*2 ^ (min i6.toNat IntKind.u8.bits))) (fun d =>
 (a4 l0 l1 l2 ([]:Ls) d (fun _ _ e =>
 (cbr (!e)
 (asr (!(decide (i6<(0:Int))))
 (lt (IntKind.u8.wrap ((1:Int)*2 ^ (min i6.toNat IntKind.u8.bits))) (fun f =>
 (lt (IntKind.u8.wrap (BitVec.ofInt IntKind.u8.bits i4|||BitVec.ofInt IntKind.u8.bits f).toNat) (fun g =>
 (b g))))))
 (b i4))))))))
 (fun h=>(lt (IntKind.i64.wrap (i6+(1:Int))) (fun i =>
 (yic a0 a1 a2 a3 a4 a c l0 l1 l2 i3 h l5 i)))))
 (a l0 l1 l2 i3 i4 l5 i6 false))
def ydf (a0:yaM) (a1:yav) (a2:yab) (a3:yag) (a4:yas) (a:Ls→Ls→Ls→Ls→Int→Int→Ls→Int→Bool→Prop):Nat→Ls→Ls→Ls→Ls→Int→Int→Ls→Int→Prop
 | 0,_,_,_,_,_,_,_,_=>False
 | c+1,l0,l1,l2,l3,i6,i7,l8,i9 =>
 (cbr (decide (i9<(5:Int)))
 (jn (fun (b:Int→Prop) =>
 (asr (!(decide (i9<(0:Int))))
 (lt (IntKind.u8.wrap ((1:Int)*2 ^ (min i9.toNat IntKind.u8.bits))) (fun d =>
 (asr (decide ((List.length l0)=(List.length l0)))
 (asr (decide ((0+(List.length l0))≤(List.length l0)))
 (a4 l1 l2 l3 (List.take (List.length l0) l0) d (fun _ _ e =>
 (cbr (!e)
 (asr (!(decide (i9<(0:Int))))
 (lt (IntKind.u8.wrap ((1:Int)*2 ^ (min i9.toNat IntKind.u8.bits))) (fun f =>
 (lt (IntKind.u8.wrap (BitVec.ofInt IntKind.u8.bits i7|||BitVec.ofInt IntKind.u8.bits f).toNat) (fun g =>
 (b g))))))
 (b i7))))))))))
 (fun h=>(lt (IntKind.i64.wrap (i9+(1:Int))) (fun i =>
 (asr (decide ((List.length l0)=List.length l0)&&decide ((List.length l0)=List.length l0))
 (ydf a0 a1 a2 a3 a4 a c l0 l1 l2 l3 i6 h l8 i))))))
 (a l0 l1 l2 l3 i6 i7 l8 i9 false))
def ylJ (a0:yaM) (a1:yav) (a2:yab) (a3:yag) (a4:yas) (p0 p1:Ls) (K:Int→Ls→Int→Prop):Prop :=
 (a0 p0 p1 (fun j b =>
 (cbr (b !=(0:Int))
 (cbr (b ==(0:Int))
 False
 (cbr (b !=(0:Int))
 (K (0:Int) ([]:Ls) b)
 False))
 (jn (fun (d:Ls→Ls→Ls→Int→Prop) =>
 (jn (fun (e:Ls→Ls→Ls→Ls→Int→Prop) =>
 (∃ k:Nat,ygo a0 a1 a2 a3 a4
 (fun l m n _ _ _=>(d l m n (0:Int)))
 (fun o p q r=>(d o p q r))
 (fun s t u v _ _ _=>(e s t u v (0:Int)))
 (fun w x y z A=>(e w x y z A))
 k p0 p1 j (((List.length p0):Nat):Int) (0:Int)))
 (fun a B C f g=>(cbr (g !=(0:Int))
 (K (0:Int) ([]:Ls) g)
 (asr (decide ((List.length a)=List.length a)&&decide ((List.length a)=List.length a))
 (∃ c:Nat,ydf a0 a1 a2 a3 a4
 (fun _ _ _ _ _ D E _ _=>(K D E (0:Int)))
 c a B C f (0:Int) (0:Int) f (0:Int)))))))
 (fun F G h i=>(cbr (i !=(0:Int))
 (K (0:Int) ([]:Ls) i)
 (∃ c:Nat,yic a0 a1 a2 a3 a4
 (fun _ _ _ _ H I _ _=>(K H I (0:Int)))
 c F G h (0:Int) (0:Int) h (0:Int))))))))
def yfv:ynZ:=ylJ yaF yaf yaA yaJ yat
def yBb:Sg:=⟨pt27,Int→Ls→Int→Prop,fun K=>(fun r0 r1 r2=>K (.tup [(.agg [(.int .u8 r0),(.data r1)]),(.int .i64 r2)]))⟩
def yv2 (Q:Qx):Ls→Ls→Ls→Int→Int→Bool→Prop:=(fun l0 l1 l2 i3 i4 b5=>Q (.exit 0) [(0,.v (.ptr 0 1 0 0)),(12,.v (.int .i64 i3)),(13,.v (.int .i64 i4)),(14,.v (.bool b5))] [⟨false,false,4,([(.agg [(.data l0),(.data l1),(.data l2),.nils])]:Ls)⟩])
def yv3 (Q:Qx):Ls→Ls→Ls→Int→Prop:=(fun l0 l1 l2 i3=>Q .ret [(2,.v (.int .i64 i3))] [⟨false,false,4,([(.agg [(.data l0),(.data l1),(.data l2),.nils])]:Ls)⟩])
def ymz (Q:Qx):Ls→Ls→Ls→Ls→Int→Int→Bool→Prop:=(fun l0 l1 l2 l3 i6 i7 b8=>Q (.exit 0) [(0,.v (.ptr 0 1 0 0)),(12,.v (.int .i64 i6)),(13,.v (.int .i64 i7)),(14,.v (.bool b8))] [⟨false,false,4,([(.agg [(.data l1),(.data l2),(.data l3),(.own 1 0 (List.length l0) (List.length l0) none)])]:Ls)⟩,⟨false,true,2,l0⟩])
def ymA (Q:Qx):Ls→Ls→Ls→Ls→Int→Prop:=(fun l0 l1 l2 l3 i6=>Q .ret [(2,.v (.int .i64 i6))] [⟨false,false,4,([(.agg [(.data l1),(.data l2),(.data l3),(.own 1 0 (List.length l0) (List.length l0) none)])]:Ls)⟩,⟨false,true,2,l0⟩])
def yv4 (Q:Qx):Ls→Ls→Ls→Int→Int→Ls→Int→Bool→Prop:=(fun l0 l1 l2 i3 i4 l5 i6 b7=>Q (.exit 0) [(4,.box (.agg [(.int .u8 i3),.nils])),(6,.v (.ptr 0 1 0 0)),(8,.box (.agg [(.int .u8 i4),(.data l5)])),(32,.v (.int .i64 i6)),(33,.v (.bool b7))] [⟨false,false,4,([(.agg [(.data l0),(.data l1),(.data l2),.nils])]:Ls)⟩])
def yv5 (Q:Qx):Ls→Ls→Ls→Ls→Int→Int→Ls→Int→Bool→Prop:=(fun l0 l1 l2 l3 i6 i7 l8 i9 b10=>Q (.exit 0) [(4,.box (.agg [(.int .u8 i6),.nils])),(6,.v (.ptr 0 1 0 0)),(8,.box (.agg [(.int .u8 i7),(.data l8)])),(32,.v (.int .i64 i9)),(33,.v (.bool b10))] [⟨false,false,4,([(.agg [(.data l1),(.data l2),(.data l3),(.own 1 0 (List.length l0) (List.length l0) none)])]:Ls)⟩,⟨false,true,2,l0⟩])
def pt38:HPt:=hB false false 4 (rC (vA (lC vD (lC vD (lC vD (lC vNs lN))))) rN) hN
def pt39:Pat Frm:=fV 0 pt18 (fV 12 pt0 (fV 13 pt0 fN))
def pt40:HPt:=hB false false 4 (rC (vA (lC vD (lC vD (lC vD (lC (vW 1 (nK 0) (nT 1) (nT 1)) lN))))) rN) (hB false true 2 rA hN)
def yow (a0:yaM) (a1:yav) (a2:yab) (a3:yag) (a4:yas) (Q:Qx):List St:=[⟨(pS pt38 pt39 fN),ygo a0 a1 a2 a3 a4 (yv2 Q) (yv3 Q) (ymz Q) (ymA Q)⟩,⟨(pS pt40 pt39 fN),fun n l1 l2 l3 l0 i6 i7=>yd6 a0 a1 a2 a3 a4 (ymz Q) (ymA Q) n l0 l1 l2 l3 i6 i7⟩]
def pt41:VPt:=vA (lC (vI IntKind.u8) pt7)
def pt42:Pat Frm:=fX 4 (vA (lC (vI IntKind.u8) (lC vNs lN))) (fV 6 pt18 (fX 8 pt41 (fV 32 pt0 fN)))
def yox (a0:yaM) (a1:yav) (a2:yab) (a3:yag) (a4:yas) (Q:Qx):List St:=[⟨(pS pt38 pt42 fN),yic a0 a1 a2 a3 a4 (yv4 Q)⟩,⟨(pS pt40 pt42 fN),fun n l1 l2 l3 l0 i6 i7 l8 i9=>ydf a0 a1 a2 a3 a4 (yv5 Q) n l0 l1 l2 l3 i6 i7 l8 i9⟩]
def yiw (a0:yaM) (a1:yav) (a2:yab) (a3:yag) (a4:yas):LP:=lpS [(20643600,yow a0 a1 a2 a3 a4),(65264200,yox a0 a1 a2 a3 a4)]
def ylK (a0:yaM) (a1:yav) (a2:yab) (a3:yag) (a4:yas):SE:=⟨(E ef0),yeB [(ybc,yLj.pw a0),(ycb,yAO.pw a1),(ybw,yis.pw a2),(ydl,yju.pw a3),(ybh,yoS.pw a4)],yeC [(yc9,ygk)],yiw a0 a1 a2 a3 a4,fun _=>none⟩
def yrT (a0:yaM) (a1:yav) (a2:yab) (a3:yag) (a4:yas):SE:=⟨(E ef0),yeB [(ybc,yLj.pw a0),(ycb,yAO.pw a1),(ybw,yis.pw a2),(ydl,yju.pw a3),(ybh,yoS.pw a4)],yeC [(yc9,ygk),(yeb,yj9)],yiw a0 a1 a2 a3 a4,fun _=>none⟩
theorem yp1:SEOk (Uni (E ef0)) (ylK yaF yaf yaA yaJ yat):=yaw (Sub.uni _) ⟨(yf9 ef0 ycJ),(ydY ef0 ycJ),(yee ef0 ycJ),(yfq ef0 ycJ),yc4,trivial⟩ ⟨⟨by kernel_rfl,by kernel_rfl,rfl,fun as=>yax (by kernel_rfl) as,ycJ.num _ (by kernel_rfl),by kernel_rfl,(yai (by kernel_rfl))⟩,trivial⟩ ycJ.ok
theorem yuz (a0 a1 a2 a3 a4):ycp (ylK a0 a1 a2 a3 a4) 10 a ygP false (yow a0 a1 a2 a3 a4):=fun _=>⟨fun _=>by kernel_rfl,fun _ _=>by kernel_rfl,fun _=>by kernel_rfl,fun _ _=>by kernel_rfl,trivial⟩
theorem yuA:LpT (Uni (E ef0)) (yiw yaF yaf yaA yaJ yat) [] 20643600 (.loop 20643600 ygP):=fun _ _ _=>yok.st (Sub.uni _) (yaD (yp1) 10) (YOk.no _ _) (yai (by kernel_rfl)) (yuz _ _ _ _ _ _)
theorem yuB (a0 a1 a2 a3 a4):ycp (ylK a0 a1 a2 a3 a4) 10 a ynp false (yox a0 a1 a2 a3 a4):=fun _=>⟨fun _=>by kernel_rfl,fun _ _=>by kernel_rfl,fun _=>by kernel_rfl,fun _ _=>by kernel_rfl,trivial⟩
theorem yuC:LpT (Uni (E ef0)) (yiw yaF yaf yaA yaJ yat) [] 65264200 (.loop 65264200 ynp):=fun _ _ _=>yok.st (Sub.uni _) (yaD (yp1) 10) (YOk.no _ _) (yai (by kernel_rfl)) (yuB _ _ _ _ _ _)
theorem yzC:SEOk (Uni (E ef0)) (yrT yaF yaf yaA yaJ yat):=yaw (Sub.uni _) ⟨(yf9 ef0 ycJ),(ydY ef0 ycJ),(yee ef0 ycJ),(yfq ef0 ycJ),yc4,trivial⟩ ⟨⟨by kernel_rfl,by kernel_rfl,rfl,fun as=>yax (by kernel_rfl) as,ycJ.num _ (by kernel_rfl),by kernel_rfl,(yai (by kernel_rfl))⟩,⟨by kernel_rfl,by kernel_rfl,rfl,fun as=>yax (by kernel_rfl) as,ycJ.num _ (by kernel_rfl),by kernel_rfl,(ybe (l:=[(20643600,.loop 20643600 ygP)]) ⟨yuA,trivial⟩ (by kernel_rfl))⟩,trivial⟩ ycJ.ok
theorem yBc (a0 a1 a2 a3 a4):EqW (yrT a0 a1 a2 a3 a4) 11 yDt yBb (ylJ a0 a1 a2 a3 a4):=fun _ _=>by kernel_rfl
theorem yrU:OkF (E ef0) (yBb.pw yfv) yhr:=okU ycJ (yBc _ _ _ _ _) (yzC) yj6.flat (ybe (l:=[(65264200,.loop 65264200 ynp)]) ⟨yuC,trivial⟩ (by kernel_rfl))
abbrev ykx:Type:=Ls→Ls→Int→Ls→(Bool→Int→Prop)→Prop
def ydg (a0:yaM) (a1:yaa) (a2:yav) (a3:yab) (a4:yag) (a5:yas) (a:Ls→Ls→Ls→Ls→Ls→Int→Int→Bool→Prop) (b:Ls→Ls→Ls→Bool→Prop):Nat→Ls→Ls→Ls→Ls→Ls→Int→Int→Prop
 | 0,_,_,_,_,_,_,_=>False
 | e+1,l0,l1,l2,l3,l4,i5,i6 =>
 (cbr (decide (i6<i5))
 (asr (decide ((0:Int)≤i6))
 (asr (decide (i6<(((List.length l4):Nat):Int)))
 (lt (List.getD l4 (i6.toNat) .nils) (fun c =>
 (asr (conf zD c)
 (asr (decide ((0:Int)≤i6))
 (asr (decide (i6<(((List.length l3):Nat):Int)))
 (lt (List.getD l3 (i6.toNat) .nils) (fun d =>
 (asr (conf zD d)
 (a1 (yaE c) (yaE d) (fun f =>
 (cbr (!f)
 (b l0 l1 l2 false)
 (lt (IntKind.i64.wrap (i6+(1:Int))) (fun g =>
 (ydg a0 a1 a2 a3 a4 a5 a b e l0 l1 l2 l3 l4 i5 g))))))))))))))))
 (a l0 l1 l2 l3 l4 i5 i6 false))
def ygX (a0:yaM) (a1:yaa) (a2:yav) (a3:yab) (a4:yag) (a5:yas) (f:Ls→Ls→Ls→Ls→Int→Int→Bool→Prop) (g:Ls→Ls→Ls→Ls→Int→Prop):Nat→Ls→Ls→Ls→Ls→Int→Int→Prop
 | 0,_,_,_,_,_,_=>False
 | i+1,l0,l1,l2,l3,i6,i7 =>
 (cbr (decide (i7<i6))
 (asr (decide ((0:Int)≤i7))
 (asr (decide (i7<(((List.length l1):Nat):Int)))
 (lt (List.getD l1 (i7.toNat) .nils) (fun c =>
 (asr (conf zK c)
 (a2 (yac (yaj c 0)) (yaE (yaj c 1)) (yaE (yaj c 2)) (fun j _ =>
 (asr (decide ((0:Int)≤i7))
 (asr (decide (i7<(((List.length l3):Nat):Int)))
 (lt (List.getD l3 (i7.toNat) .nils) (fun d =>
 (asr (conf zD d)
 (asr (decide ((0:Int)≤i7))
 (asr (decide (i7<(((List.length (yaE d)):Nat):Int)))
 (lt (List.getD (yaE d) (i7.toNat) .nils) (fun e =>
 (asr (conf z2 e)
 (a3 j (fun k l =>
 (a4 (yac (yaj e 0)) (yac (yaj e 1)) k l (fun a b h =>
 (cbr (h !=(0:Int))
 (g l0 l1 l2 l3 h)
 (asr (decide ((List.length l0)=(List.length l0)))
 (asr (decide ((0+(List.length l0))≤(List.length l0)))
 (asr (!(decide (((0+(List.length l0))+1)≤(List.length l0))))
 (asr (decide ((List.length l0)=(List.length l0)))
 (asr (decide ((((List.length l0)+1)+64)*(16+1)≤room))
 (lt (IntKind.i64.wrap (i7+(1:Int))) (fun m =>
 (asr (decide ((List.length (l0++([(.agg [(.int .i64 a),(.int .i64 b)])]:Ls)))=List.length (l0++([(.agg [(.int .i64 a),(.int .i64 b)])]:Ls)))&&decide ((List.length (l0++([(.agg [(.int .i64 a),(.int .i64 b)])]:Ls)))=List.length (l0++([(.agg [(.int .i64 a),(.int .i64 b)])]:Ls))))
 (ygX a0 a1 a2 a3 a4 a5 f g i (l0++([(.agg [(.int .i64 a),(.int .i64 b)])]:Ls)) l1 l2 l3 i6 m)))))))))))))))))))))))))))))))
 (f l0 l1 l2 l3 i6 i7 false))
def yky (a0:yaM) (a1:yaa) (a2:yav) (a3:yab) (a4:yag) (a5:yas) (g:Ls→Ls→Ls→Int→Int→Bool→Prop) (h:Ls→Ls→Ls→Int→Prop) (i:Ls→Ls→Ls→Ls→Int→Int→Bool→Prop) (j:Ls→Ls→Ls→Ls→Int→Prop):Nat→Ls→Ls→Ls→Int→Int→Prop
 | 0,_,_,_,_,_=>False
 | k+1,l0,l1,l2,i3,i4 =>
 (cbr (decide (i4<i3))
 (asr (decide ((0:Int)≤i4))
 (asr (decide (i4<(((List.length l0):Nat):Int)))
 (lt (List.getD l0 (i4.toNat) .nils) (fun a =>
 (asr (conf zK a)
 (a2 (yac (yaj a 0)) (yaE (yaj a 1)) (yaE (yaj a 2)) (fun l _ =>
 (asr (decide ((0:Int)≤i4))
 (asr (decide (i4<(((List.length l2):Nat):Int)))
 (lt (List.getD l2 (i4.toNat) .nils) (fun b =>
 (asr (conf zD b)
 (asr (decide ((0:Int)≤i4))
 (asr (decide (i4<(((List.length (yaE b)):Nat):Int)))
 (lt (List.getD (yaE b) (i4.toNat) .nils) (fun c =>
 (asr (conf z2 c)
 (a3 l (fun m n =>
 (a4 (yac (yaj c 0)) (yac (yaj c 1)) m n (fun d e f =>
 (cbr (f !=(0:Int))
 (h l0 l1 l2 f)
 (lt (IntKind.i64.wrap (i4+(1:Int))) (fun o =>
 (asr (decide (1=List.length ([(.agg [(.int .i64 d),(.int .i64 e)])]:Ls))&&decide (1=List.length ([(.agg [(.int .i64 d),(.int .i64 e)])]:Ls)))
 (ygX a0 a1 a2 a3 a4 a5 i j k ([(.agg [(.int .i64 d),(.int .i64 e)])]:Ls) l0 l1 l2 i3 o))))))))))))))))))))))))))
 (g l0 l1 l2 i3 i4 false))
def ycA (a0:yaM) (a1:yaa) (a2:yav) (a3:yab) (a4:yag) (a5:yas) (a:Ls→Ls→Ls→Int→Ls→Int→Bool→Prop) (b:Ls→Ls→Ls→Bool→Int→Prop):Nat→Ls→Ls→Ls→Int→Ls→Int→Prop
 | 0,_,_,_,_,_,_=>False
 | d+1,l0,l1,l2,i3,l4,i5 =>
 (cbr (decide (i5<(5:Int)))
 (jn (fun c =>
 (asr (!(decide (i5<(0:Int))))
 (lt (Int.fdiv i3 (2 ^ (min i5.toNat IntKind.u8.bits))) (fun e =>
 (lt (IntKind.u8.wrap (BitVec.ofInt IntKind.u8.bits e&&&BitVec.ofInt IntKind.u8.bits (1:Int)).toNat) (fun f =>
 (cbr (f ==(0:Int))
 c
 (asr (!(decide (i5<(0:Int))))
 (lt (IntKind.u8.wrap ((1:Int)*2 ^ (min i5.toNat IntKind.u8.bits))) (fun g =>
 (a5 l0 l1 l2 ([]:Ls) g (fun _ _ h =>
 (cbr h
 (b l0 l1 l2 false (0:Int))
 c)))))))))))))
 (lt (IntKind.i64.wrap (i5+(1:Int))) (fun i =>
 (ycA a0 a1 a2 a3 a4 a5 a b d l0 l1 l2 i3 l4 i))))
 (a l0 l1 l2 i3 l4 i5 false))
def ygY (a0:yaM) (a1:yaa) (a2:yav) (a3:yab) (a4:yag) (a5:yas) (a:Ls→Ls→Ls→Ls→Int→Ls→Int→Bool→Prop) (b:Ls→Ls→Ls→Ls→Bool→Int→Prop):Nat→Ls→Ls→Ls→Ls→Int→Ls→Int→Prop
 | 0,_,_,_,_,_,_,_=>False
 | d+1,l0,l1,l2,l3,i6,l7,i8 =>
 (cbr (decide (i8<(5:Int)))
 (jn (fun c =>
 (asr (!(decide (i8<(0:Int))))
 (lt (Int.fdiv i6 (2 ^ (min i8.toNat IntKind.u8.bits))) (fun e =>
 (lt (IntKind.u8.wrap (BitVec.ofInt IntKind.u8.bits e&&&BitVec.ofInt IntKind.u8.bits (1:Int)).toNat) (fun f =>
 (cbr (f ==(0:Int))
 c
 (asr (!(decide (i8<(0:Int))))
 (lt (IntKind.u8.wrap ((1:Int)*2 ^ (min i8.toNat IntKind.u8.bits))) (fun g =>
 (asr (decide ((List.length l0)=(List.length l0)))
 (asr (decide ((0+(List.length l0))≤(List.length l0)))
 (a5 l1 l2 l3 (List.take (List.length l0) l0) g (fun _ _ h =>
 (cbr h
 (b l0 l1 l2 l3 false (0:Int))
 c)))))))))))))))
 (lt (IntKind.i64.wrap (i8+(1:Int))) (fun i =>
 (asr (decide ((List.length l0)=List.length l0)&&decide ((List.length l0)=List.length l0))
 (ygY a0 a1 a2 a3 a4 a5 a b d l0 l1 l2 l3 i6 l7 i)))))
 (a l0 l1 l2 l3 i6 l7 i8 false))
def yjd (a0:yaM) (a1:yaa) (a2:yav) (a3:yab) (a4:yag) (a5:yas) (p0 p1:Ls) (p2:Int) (p3:Ls) (K:Bool→Int→Prop):Prop :=
 (a0 p0 p1 (fun a c =>
 (cbr (c !=(0:Int))
 (cbr (c !=(0:Int))
 (K false c)
 (cbr (decide (p2≥(32:Int)))
 (K false (0:Int))
 False))
 (jn (fun (g:Ls→Ls→Ls→Bool→Prop) =>
 (cbr (decide (p2≥(32:Int)))
 (g p0 p1 a true)
 (jn (fun (d:Ls→Ls→Ls→Bool→Prop) =>
 (cbr ((((List.length a):Nat):Int) !=(((List.length p3):Nat):Int))
 (d p0 p1 a false)
 (∃ o:Nat,ydg a0 a1 a2 a3 a4 a5
 (fun p q r _ _ _ _ _=>(d p q r true))
 (fun s t u v=>(d s t u v))
 o p0 p1 a p3 a (((List.length a):Nat):Int) (0:Int))))
 (fun w x y z=>(g w x y (!z))))))
 (fun e h i A=>(cbr A
 (K false (0:Int))
 (jn (fun (j:Ls→Ls→Ls→Prop) =>
 (lt (IntKind.u8.wrap (BitVec.ofInt IntKind.u8.bits p2&&&BitVec.ofInt IntKind.u8.bits (8:Int)).toNat) (fun B =>
 (cbr (B !=(0:Int))
 (jn (fun (k:Ls→Ls→Ls→Int→Prop) =>
 (jn (fun (l:Ls→Ls→Ls→Ls→Int→Prop) =>
 (∃ C:Nat,yky a0 a1 a2 a3 a4 a5
 (fun D E F _ _ _=>(k D E F (0:Int)))
 (fun G H I J=>(k G H I J))
 (fun L M N O _ _ _=>(l L M N O (0:Int)))
 (fun Q R S T U=>(l Q R S T U))
 C e h i (((List.length e):Nat):Int) (0:Int)))
 (fun b V W X m=>(cbr (m !=(0:Int))
 (K false m)
 (asr (decide ((List.length b)=List.length b)&&decide ((List.length b)=List.length b))
 (∃ f:Nat,ygY a0 a1 a2 a3 a4 a5
 (fun _ _ _ _ _ _ _ _=>(K true (0:Int)))
 (fun _ _ _ _ Y Z=>(K Y Z))
 f b V W X p2 p3 (0:Int)))))))
 (fun va vb vc n=>(cbr (n !=(0:Int))
 (K false n)
 (j va vb vc))))
 (j e h i)))))
 (fun vd ve vf=>(∃ f:Nat,ycA a0 a1 a2 a3 a4 a5
 (fun _ _ _ _ _ _ _=>(K true (0:Int)))
 (fun _ _ _ vg vh=>(K vg vh))
 f vd ve vf p2 p3 (0:Int))))))))))
def yeg:ykx:=yjd yaF yaz yaf yaA yaJ yat
def yxr:Sg:=⟨(lC vD (lC (vA pt7) (lC pt41 lN))),Bool→Int→Prop,fun K=>(fun r0 r1=>K (.tup [(.bool r0),(.int .i64 r1)]))⟩
def ys1 (Q:Qx):Ls→Ls→Ls→Ls→Ls→Int→Int→Bool→Prop:=(fun l0 l1 l2 l3 l4 i5 i6 b7=>Q (.exit 0) [(1,.v (.data l3)),(2,.v (.fn (.func yaR) [] [])),(15,.v (.data l4)),(16,.v (.int .i64 i5)),(17,.v (.int .i64 i6)),(18,.v (.bool b7))] [⟨false,false,4,([(.agg [(.data l0),(.data l1),(.data l2),.nils])]:Ls)⟩])
def ys2 (Q:Qx):Ls→Ls→Ls→Bool→Prop:=(fun l0 l1 l2 b3=>Q .ret [(6,.v (.bool b3))] [⟨false,false,4,([(.agg [(.data l0),(.data l1),(.data l2),.nils])]:Ls)⟩])
def ys3 (Q:Qx):Ls→Ls→Ls→Int→Int→Bool→Prop:=(fun l0 l1 l2 i3 i4 b5=>Q (.exit 0) [(0,.v (.ptr 0 1 0 0)),(12,.v (.int .i64 i3)),(13,.v (.int .i64 i4)),(14,.v (.bool b5))] [⟨false,false,4,([(.agg [(.data l0),(.data l1),(.data l2),.nils])]:Ls)⟩])
def ys4 (Q:Qx):Ls→Ls→Ls→Int→Prop:=(fun l0 l1 l2 i3=>Q .ret [(2,.v (.int .i64 i3))] [⟨false,false,4,([(.agg [(.data l0),(.data l1),(.data l2),.nils])]:Ls)⟩])
def ykz (Q:Qx):Ls→Ls→Ls→Ls→Int→Int→Bool→Prop:=(fun l0 l1 l2 l3 i6 i7 b8=>Q (.exit 0) [(0,.v (.ptr 0 1 0 0)),(12,.v (.int .i64 i6)),(13,.v (.int .i64 i7)),(14,.v (.bool b8))] [⟨false,false,4,([(.agg [(.data l1),(.data l2),(.data l3),(.own 1 0 (List.length l0) (List.length l0) none)])]:Ls)⟩,⟨false,true,2,l0⟩])
def ykA (Q:Qx):Ls→Ls→Ls→Ls→Int→Prop:=(fun l0 l1 l2 l3 i6=>Q .ret [(2,.v (.int .i64 i6))] [⟨false,false,4,([(.agg [(.data l1),(.data l2),(.data l3),(.own 1 0 (List.length l0) (List.length l0) none)])]:Ls)⟩,⟨false,true,2,l0⟩])
def ys5 (Q:Qx):Ls→Ls→Ls→Int→Ls→Int→Bool→Prop:=(fun l0 l1 l2 i3 l4 i5 b6=>Q (.exit 0) [(5,.box (.agg [(.int .u8 i3),(.data l4)])),(8,.v (.ptr 0 1 0 0)),(46,.v (.int .i64 i5)),(47,.v (.bool b6))] [⟨false,false,4,([(.agg [(.data l0),(.data l1),(.data l2),.nils])]:Ls)⟩])
def ys6 (Q:Qx):Ls→Ls→Ls→Bool→Int→Prop:=(fun l0 l1 l2 b3 i4=>Q .ret [(6,.v (.bool b3)),(7,.v (.int .i64 i4))] [⟨false,false,4,([(.agg [(.data l0),(.data l1),(.data l2),.nils])]:Ls)⟩])
def ys7 (Q:Qx):Ls→Ls→Ls→Ls→Int→Ls→Int→Bool→Prop:=(fun l0 l1 l2 l3 i6 l7 i8 b9=>Q (.exit 0) [(5,.box (.agg [(.int .u8 i6),(.data l7)])),(8,.v (.ptr 0 1 0 0)),(46,.v (.int .i64 i8)),(47,.v (.bool b9))] [⟨false,false,4,([(.agg [(.data l1),(.data l2),(.data l3),(.own 1 0 (List.length l0) (List.length l0) none)])]:Ls)⟩,⟨false,true,2,l0⟩])
def ys8 (Q:Qx):Ls→Ls→Ls→Ls→Bool→Int→Prop:=(fun l0 l1 l2 l3 b6 i7=>Q .ret [(6,.v (.bool b6)),(7,.v (.int .i64 i7))] [⟨false,false,4,([(.agg [(.data l1),(.data l2),(.data l3),(.own 1 0 (List.length l0) (List.length l0) none)])]:Ls)⟩,⟨false,true,2,l0⟩])
def yk1 (a0:yaM) (a1:yaa) (a2:yav) (a3:yab) (a4:yag) (a5:yas) (Q:Qx):List St:=[⟨(pS pt38 (fV 1 vD (fV 2 (vF yaR lN lN) (fV 15 vD pt30))) fN),ydg a0 a1 a2 a3 a4 a5 (ys1 Q) (ys2 Q)⟩]
def yk2 (a0:yaM) (a1:yaa) (a2:yav) (a3:yab) (a4:yag) (a5:yas) (Q:Qx):List St:=[⟨(pS pt38 pt39 fN),yky a0 a1 a2 a3 a4 a5 (ys3 Q) (ys4 Q) (ykz Q) (ykA Q)⟩,⟨(pS pt40 pt39 fN),fun n l1 l2 l3 l0 i6 i7=>ygX a0 a1 a2 a3 a4 a5 (ykz Q) (ykA Q) n l0 l1 l2 l3 i6 i7⟩]
def pt43:Pat Frm:=fX 5 pt41 (fV 8 pt18 (fV 46 pt0 fN))
def yk3 (a0:yaM) (a1:yaa) (a2:yav) (a3:yab) (a4:yag) (a5:yas) (Q:Qx):List St:=[⟨(pS pt38 pt43 fN),ycA a0 a1 a2 a3 a4 a5 (ys5 Q) (ys6 Q)⟩,⟨(pS pt40 pt43 fN),fun n l1 l2 l3 l0 i6 l7 i8=>ygY a0 a1 a2 a3 a4 a5 (ys7 Q) (ys8 Q) n l0 l1 l2 l3 i6 l7 i8⟩]
def yfD (a0:yaM) (a1:yaa) (a2:yav) (a3:yab) (a4:yag) (a5:yas):LP:=lpS [(8009400,yk1 a0 a1 a2 a3 a4 a5),(20643600,yk2 a0 a1 a2 a3 a4 a5),(47320500,yk3 a0 a1 a2 a3 a4 a5)]
def ygK (a0:yaM) (a1:yaa) (a2:yav) (a3:yab) (a4:yag) (a5:yas):SE:=⟨(E ef0),yeB [(ybc,yLj.pw a0),(yaR,ydb.pw a1),(ycb,yAO.pw a2),(ybw,yis.pw a3),(ydl,yju.pw a4),(ybh,yoS.pw a5)],yeC [(yc9,ygk)],yfD a0 a1 a2 a3 a4 a5,fun _=>none⟩
def yoy (a0:yaM) (a1:yaa) (a2:yav) (a3:yab) (a4:yag) (a5:yas):SE:=⟨(E ef0),yeB [(ybc,yLj.pw a0),(yaR,ydb.pw a1),(ycb,yAO.pw a2),(ybw,yis.pw a3),(ydl,yju.pw a4),(ybh,yoS.pw a5)],yeC [(yc9,ygk),(ybf,ydI),(yeb,yj9)],yfD a0 a1 a2 a3 a4 a5,fun _=>none⟩
theorem yid:SEOk (Uni (E ef0)) (ygK yaF yaz yaf yaA yaJ yat):=yaw (Sub.uni _) ⟨(yf9 ef0 ycJ),(ydd ef0 ycJ),(ydY ef0 ycJ),(yee ef0 ycJ),(yfq ef0 ycJ),yc4,trivial⟩ ⟨⟨by kernel_rfl,by kernel_rfl,rfl,fun as=>yax (by kernel_rfl) as,ycJ.num _ (by kernel_rfl),by kernel_rfl,(yai (by kernel_rfl))⟩,trivial⟩ ycJ.ok
theorem yrb (a0 a1 a2 a3 a4 a5):ycp (ygK a0 a1 a2 a3 a4 a5) 10 a yqE false (yk1 a0 a1 a2 a3 a4 a5):=fun _=>⟨fun _=>by kernel_rfl,fun _ _=>by kernel_rfl,trivial⟩
theorem yrc:LpT (Uni (E ef0)) (yfD yaF yaz yaf yaA yaJ yat) [] 8009400 (.loop 8009400 yqE):=fun _ _ _=>yok.st (Sub.uni _) (yaD (yid) 10) (YOk.no _ _) (yai (by kernel_rfl)) (yrb _ _ _ _ _ _ _)
theorem yrd (a0 a1 a2 a3 a4 a5):ycp (ygK a0 a1 a2 a3 a4 a5) 10 a ygP false (yk2 a0 a1 a2 a3 a4 a5):=fun _=>⟨fun _=>by kernel_rfl,fun _ _=>by kernel_rfl,fun _=>by kernel_rfl,fun _ _=>by kernel_rfl,trivial⟩
theorem yre:LpT (Uni (E ef0)) (yfD yaF yaz yaf yaA yaJ yat) [] 20643600 (.loop 20643600 ygP):=fun _ _ _=>yok.st (Sub.uni _) (yaD (yid) 10) (YOk.no _ _) (yai (by kernel_rfl)) (yrd _ _ _ _ _ _ _)
theorem yrf (a0 a1 a2 a3 a4 a5):ycp (ygK a0 a1 a2 a3 a4 a5) 10 a ynr false (yk3 a0 a1 a2 a3 a4 a5):=fun _=>⟨fun _=>by kernel_rfl,fun _ _=>by kernel_rfl,fun _=>by kernel_rfl,fun _ _=>by kernel_rfl,trivial⟩
theorem yrg:LpT (Uni (E ef0)) (yfD yaF yaz yaf yaA yaJ yat) [] 47320500 (.loop 47320500 ynr):=fun _ _ _=>yok.st (Sub.uni _) (yaD (yid) 10) (YOk.no _ _) (yai (by kernel_rfl)) (yrf _ _ _ _ _ _ _)
theorem yv6:SEOk (Uni (E ef0)) (yoy yaF yaz yaf yaA yaJ yat):=yaw (Sub.uni _) ⟨(yf9 ef0 ycJ),(ydd ef0 ycJ),(ydY ef0 ycJ),(yee ef0 ycJ),(yfq ef0 ycJ),yc4,trivial⟩ ⟨⟨by kernel_rfl,by kernel_rfl,rfl,fun as=>yax (by kernel_rfl) as,ycJ.num _ (by kernel_rfl),by kernel_rfl,(yai (by kernel_rfl))⟩,⟨by kernel_rfl,by kernel_rfl,rfl,fun as=>yax (by kernel_rfl) as,ycJ.num _ (by kernel_rfl),by kernel_rfl,(ybe (l:=[(8009400,.loop 8009400 yqE)]) ⟨yrc,trivial⟩ (by kernel_rfl))⟩,⟨by kernel_rfl,by kernel_rfl,rfl,fun as=>yax (by kernel_rfl) as,ycJ.num _ (by kernel_rfl),by kernel_rfl,(ybe (l:=[(20643600,.loop 20643600 ygP)]) ⟨yre,trivial⟩ (by kernel_rfl))⟩,trivial⟩ ycJ.ok
theorem yxs (a0 a1 a2 a3 a4 a5):EqW (yoy a0 a1 a2 a3 a4 a5) 11 yy5 yxr (yjd a0 a1 a2 a3 a4 a5):=fun _ _=>by kernel_rfl
theorem yoz:OkF (E ef0) (yxr.pw yeg) yf3:=okU ycJ (yxs _ _ _ _ _ _) (yv6) yj6.flat (ybe (l:=[(47320500,.loop 47320500 ynr)]) ⟨yrg,trivial⟩ (by kernel_rfl))
set_option linter.unusedVariables false
theorem yxt (p0:Ls) (p1:Ls) (r0:Int) (h:∀ K:Int→Prop,K r0→ydi p0 p1 K) (K:Int→Prop):ydi p0 p1 K=K r0 :=
 propext ⟨fun k=>detC (ypS [] ybm) (as:=[(.data p0),(.agg [(.data p1)])]) (x:=(.int .i64 r0)) (fun K' k'=>h (fun r0=>K' (.int .i64 r0)) k') (K:=fun x=>match x with | (.int .i64 r0)=>K r0 | _=>False) k,h K⟩
theorem yxu (p0:Ls) (p1:Ls) (r0:Ls) (r1:Int) (h:∀ K:Ls→Int→Prop,K r0 r1→yaF p0 p1 K) (K:Ls→Int→Prop):yaF p0 p1 K=K r0 r1 :=
 propext ⟨fun k=>detC (yf9 [] ybm) (as:=[(.data p0),(.agg [(.data p1)])]) (x:=(.tup [(.data r0),(.int .i64 r1)])) (fun K' k'=>h (fun r0 r1=>K' (.tup [(.data r0),(.int .i64 r1)])) k') (K:=fun x=>match x with | (.tup [(.data r0),(.int .i64 r1)])=>K r0 r1 | _=>False) k,h K⟩
theorem yuD (p0:Int) (p1:Int) (p2:Int) (p3:Int) (p4:Ls) (r0:Bool) (h:∀ K:Bool→Prop,K r0→ybZ p0 p1 p2 p3 p4 K) (K:Bool→Prop):ybZ p0 p1 p2 p3 p4 K=K r0 :=
 propext ⟨fun k=>detC (yib [] ybm) (as:=[(.agg [(.int .i64 p0),(.int .i64 p1),(.int .i64 p2),(.int .i64 p3)]),(.eptr [(.data p4)] 0 0)]) (x:=(.bool r0)) (fun K' k'=>h (fun r0=>K' (.bool r0)) k') (K:=fun x=>match x with | (.bool r0)=>K r0 | _=>False) k,h K⟩
theorem yxv (p0:Ls) (p1:Ls) (r0:Bool) (h:∀ K:Bool→Prop,K r0→yan p0 p1 K) (K:Bool→Prop):yan p0 p1 K=K r0 :=
 propext ⟨fun k=>detC (ykv [] ybm) (as:=[(.data p0),(.data p1)]) (x:=(.bool r0)) (fun K' k'=>h (fun r0=>K' (.bool r0)) k') (K:=fun x=>match x with | (.bool r0)=>K r0 | _=>False) k,h K⟩
theorem yrh (p0:Ls) (p1:Ls) (p2:Ls) (p3:Ls) (r0:Bool) (h:∀ K:Bool→Prop,K r0→yad p0 p1 p2 p3 K) (K:Bool→Prop):yad p0 p1 p2 p3 K=K r0 :=
 propext ⟨fun k=>detC ygW (as:=[(.eptr [(.agg [(.data p0),(.data p1),(.data p2),(.data p3)])] 0 0)]) (x:=(.bool r0)) (fun K' k'=>h (fun r0=>K' (.bool r0)) k') (K:=fun x=>match x with | (.bool r0)=>K r0 | _=>False) k,h K⟩
theorem yn2 (p0:Ls) (p1:Ls) (p2:Ls) (p3:Ls) (p4:Int) (r0:Int) (r1:Int) (r2:Bool) (h:∀ K:Int→Int→Bool→Prop,K r0 r1 r2→yat p0 p1 p2 p3 p4 K) (K:Int→Int→Bool→Prop):yat p0 p1 p2 p3 p4 K=K r0 r1 r2 :=
 propext ⟨fun k=>detC yc4 (as:=[(.eptr [(.agg [(.data p0),(.data p1),(.data p2),(.data p3)])] 0 0),(.int .u8 p4)]) (x:=(.tup [(.int .i64 r0),(.int .i64 r1),(.bool r2)])) (fun K' k'=>h (fun r0 r1 r2=>K' (.tup [(.int .i64 r0),(.int .i64 r1),(.bool r2)])) k') (K:=fun x=>match x with | (.tup [(.int .i64 r0),(.int .i64 r1),(.bool r2)])=>K r0 r1 r2 | _=>False) k,h K⟩
theorem yzD (p0:Ls) (p1:Ls) (r0:Int) (r1:Ls) (r2:Int) (h:∀ K:Int→Ls→Int→Prop,K r0 r1 r2→yfv p0 p1 K) (K:Int→Ls→Int→Prop):yfv p0 p1 K=K r0 r1 r2 :=
 propext ⟨fun k=>detC yrU (as:=[(.data p0),(.agg [(.data p1)])]) (x:=(.tup [(.agg [(.int .u8 r0),(.data r1)]),(.int .i64 r2)])) (fun K' k'=>h (fun r0 r1 r2=>K' (.tup [(.agg [(.int .u8 r0),(.data r1)]),(.int .i64 r2)])) k') (K:=fun x=>match x with | (.tup [(.agg [(.int .u8 r0),(.data r1)]),(.int .i64 r2)])=>K r0 r1 r2 | _=>False) k,h K⟩
theorem yv7 (p0:Ls) (p1:Ls) (p2:Int) (p3:Ls) (r0:Bool) (r1:Int) (h:∀ K:Bool→Int→Prop,K r0 r1→yeg p0 p1 p2 p3 K) (K:Bool→Int→Prop):yeg p0 p1 p2 p3 K=K r0 r1 :=
 propext ⟨fun k=>detC yoz (as:=[(.data p0),(.agg [(.data p1)]),(.agg [(.int .u8 p2),(.data p3)])]) (x:=(.tup [(.bool r0),(.int .i64 r1)])) (fun K' k'=>h (fun r0 r1=>K' (.tup [(.bool r0),(.int .i64 r1)])) k') (K:=fun x=>match x with | (.tup [(.bool r0),(.int .i64 r1)])=>K r0 r1 | _=>False) k,h K⟩
def yrV (p0:Int) (K:Int→Int→Prop):Prop :=
 (K p0 (1:Int))
def yaQ:yab:=yrV
def yBd (e:Es):SE:=sE (E e) [] lp0
theorem yBe (e:Es):EqW (yBd e) 6 yDg yis yrV:=fun _ _=>by kernel_rfl
theorem ylL (e:Es) (he:EG e):OkF (E e) (yis.pw yaQ) ydL:=okU he (yBe e) (yaw (Sub.uni _) trivial trivial he.ok) yj6.flat (yai (by kernel_rfl))
def ylM (a0:yeN) (a1:ybg) (p0 p1:Ls) (p2:Int) (K:Int→Int→Prop):Prop :=
 (a0 p0 p1 p2 (fun a _ =>
 (a1 a (((List.length p0):Nat):Int) (fun b c _ =>
 (K b c)))))
def yeO:yeN:=ylM ypG yao
def yBf:Sg:=⟨(lC pt24 pt1),Int→Int→Prop,fun K=>(fun r0 r1=>K (.agg [(.int .i64 r0),(.int .i64 r1)]))⟩
def yBg (e:Es) (a0:yeN) (a1:ybg):SE:=sE (E e) [(yiI,yDM.pw a0),(yeE,yAD.pw a1)] lp0
theorem yBh (e:Es) (a0 a1):EqW (yBg e a0 a1) 6 yDk yBf (ylM a0 a1):=fun _ _=>by kernel_rfl
theorem yBi (e:Es) (he:EG e):OkF (E e) (yBf.pw yeO) ygh:=okU he (yBh e _ _) (yaw (Sub.uni _) ⟨(yDP e he),(yip e he),trivial⟩ trivial he.ok) yj6.flat (yai (by kernel_rfl))
def yn3 (a0:ycE) (p0 p1 p2 p3:Int) (K:Bool→Prop):Prop :=
 (a0 p0 p1 p2 p3 (fun a _ =>
 (K (decide (a>(0:Int))))))
def yfi:yal:=yn3 yc0
def yDZ (e:Es) (a0:ycE):SE:=sE (E e) [(ybU,yDw.pw a0)] lp0
theorem yD0 (e:Es) (a0):EqW (yDZ e a0) 6 yFI ynD (yn3 a0):=fun _ _=>by kernel_rfl
theorem yD1 (e:Es) (he:EG e):OkF (E e) (ynD.pw yfi) yiL:=okU he (yD0 e _) (yaw (Sub.uni _) ⟨(yfo e he),trivial⟩ trivial he.ok) yj6.flat (yai (by kernel_rfl))
abbrev ybs:Type:=Ls→Ls→Ls→Nat→Nat→Nat→Int→Int→(Ls→Ls→Int→Int→Int→Int→Int→Int→Int→Ls→Prop)→Prop
def ybk (a0:yab) (a1:ydA) (a2:yeN) (a3:yal) (a4:ydA) (x0:Ls→Ls→Ls→Int→Int→Int→Int→Int→Int→Int→Int→Nat→Nat→Nat→Int→Int→Int→Int→Int→Int→Nat→Nat→Nat→Int→Int→Bool→Prop) (x1:Ls→Ls→Ls→Int→Int→Int→Int→Int→Int→Int→Int→Nat→Nat→Nat→Int→Int→Int→Int→Int→Int→Int→Int→Nat→Nat→Nat→Int→Int→Bool→Prop) (x2:Ls→Ls→Ls→Int→Int→Int→Int→Int→Int→Int→Int→Int→Int→Int→Int→Int→Int→Int→Prop):Nat→Ls→Ls→Ls→Int→Int→Int→Int→Int→Int→Int→Int→Nat→Nat→Nat→Int→Int→Int→Int→Int→Int→Nat→Nat→Nat→Int→Int→Prop
 | 0,_,_,_,_,_,_,_,_,_,_,_,_,_,_,_,_,_,_,_,_,_,_,_,_,_=>False
 | n+1,l0,l1,l2,i3,i4,i5,i6,i7,i8,i9,i10,n11,n12,n13,i14,i15,i16,i17,i18,i19,n20,n21,n22,i23,i24 =>
 (cbr (decide (i24<i23))
 (jn (fun (g:Ls→Ls→Int→Int→Int→Int→Prop) =>
 (asr (decide ((0:Int)≤i24))
 (asr (decide (i24<((n20:Nat):Int)))
 (asr (decide ((List.length l0)=n21))
 (asr (decide ((0+(i24.toNat))<(List.length l0)))
 (lt (List.getD l0 (0+(i24.toNat)) .nils) (fun a =>
 (asr (conf zI a)
 (cbr (((n11:Nat):Int) ==(1:Int))
 (x1 l0 l1 l2 i3 i4 i5 i6 i7 i8 i9 i10 n11 n12 n13 i14 i15 i16 i17 i18 i19 i24 (yac a) n20 n21 n22 i23 i24 true)
 (jn (fun (h:Ls→Ls→Int→Prop) =>
 (cbr (decide (i24>(0:Int)))
 (a1 l1 l2 (yac a) i3 i4 i8 i9 (fun b c r s i =>
 (cbr (i !=(0:Int))
 (x2 l0 l1 l2 i3 i4 i5 i6 i7 i8 i9 i10 (0:Int) (0:Int) (0:Int) (0:Int) (0:Int) (0:Int) i)
 (a2 b c (yac a) (fun t u =>
 (a3 r s t u (fun v =>
 (cbr (!v)
 (g b c i5 i8 i9 i10)
 (lt (IntKind.i64.wrap (i10+(1:Int))) (fun w =>
 (h b c w)))))))))))
 (h l1 l2 i10)))
 (fun d e j=>(a2 d e (yac a) (fun x y =>
 (a4 d e (yac a) i3 i4 x y (fun z A B C f =>
 (jn (fun (k:Ls→Ls→Int→Int→Int→Prop) =>
 (cbr (f ==(0:Int))
 (k z A (yac a) B C)
 (k d e i5 i8 i9)))
 (fun l m o p q=>(cbr (f !=(0:Int))
 (x2 l0 l m i3 i4 o i6 i7 p q j (0:Int) (0:Int) (0:Int) (0:Int) (0:Int) (0:Int) f)
 (g l m o p q j)))))))))))))))))))
 (fun D E F G H I=>(lt (IntKind.i64.wrap (i24+(1:Int))) (fun J =>
 (ybk a0 a1 a2 a3 a4 x0 x1 x2 n l0 D E i3 i4 F i6 i7 G H I n11 n12 n13 i14 i15 i16 i17 i18 i19 n20 n21 n22 i23 J)))))
 (x0 l0 l1 l2 i3 i4 i5 i6 i7 i8 i9 i10 n11 n12 n13 i14 i15 i16 i17 i18 i19 n20 n21 n22 i23 i24 false))
def ylN (a0:yab) (a1:ydA) (a2:yeN) (a3:yal) (a4:ydA) (p0 p1 p2:Ls) (p3 p4 p5:Nat) (p6 p7:Int) (K:Ls→Ls→Int→Int→Int→Int→Int→Int→Int→Ls→Prop):Prop :=
 (asr (decide ((0:Int)<((p3:Nat):Int)))
 (asr (decide ((List.length p2)=p4))
 (asr (decide (0<(List.length p2)))
 (lt (List.getD p2 0 .nils) (fun a =>
 (asr (conf zI a)
 (asr (decide ((0:Int)<(((List.length p0):Nat):Int)))
 (lt (List.getD p0 0 .nils) (fun b =>
 (asr (conf zK b)
 (a0 (yac (yaj b 0)) (fun f g =>
 (jn (fun (c:Ls→Ls→Ls→Int→Int→Int→Int→Int→Int→Int→Int→Int→Int→Int→Int→Int→Int→Prop) =>
 (∃ n:Nat,ybk a0 a1 a2 a3 a4
 (fun h i j k l m o p q r s _ _ _ t u v w x y _ _ _ _ _ _=>(c h i j k l m o p q r s t u v w x y))
 (fun z A B C D E F G H I J _ _ _ L M N O Q R _ _ _ _ _ _ _ _=>(c z A B C D E F G H I J L M N O Q R))
 (fun d _ _ _ _ _ _ _ _ _ _ S T U V W X Y=>(asr (decide ((List.length d)=(List.length p2)))
 (K ([]:Ls) ([]:Ls) S T U V W X Y d)))
 n p2 p0 p1 p6 p7 (yac a) p6 p7 f g (0:Int) p3 p4 p5 (0:Int) (0:Int) (0:Int) (0:Int) (0:Int) (0:Int) p3 p4 p5 ((p3:Nat):Int) (0:Int)))
 (fun e Z va _ _ vb vc vd ve vf vg _ _ _ _ _ _=>(asr (decide ((List.length e)=(List.length p2)))
 (K Z va vb vc vd ve vf vg (0:Int) e))))))))))))))))
def ybb:ybs:=ylN yaQ ydn yeO yfi yed
def yix (w:ybs) (as:Ls) (b:HB) (K:PV→Ls→Prop):Prop :=
 match as,b with
 | [(.agg [(.data p0),(.data p1)]),(.own 0 0 p3 p4 (some p5)),(.agg [(.int .i64 p6),(.int .i64 p7)])],⟨false,true,1,p2⟩=>w p0 p1 p2 p3 p4 p5 p6 p7 (fun r0 r1 r2 r3 r4 r5 r6 r7 r8 r9=>K (.tup [(.agg [(.data r0),(.data r1)]),(.agg [(.int .i64 r2),(.int .i64 r3),(.int .i64 r4),(.int .i64 r5),(.int .i64 r6),(.int .i64 r7)]),(.int .i64 r8)]) r9)
 | _,_=>False
def yrW (as:Ls) (b:HB) (K:PV→Ls→Prop):Prop:=yix ybb as b K
def yv8 (Q:Qx):Ls→Ls→Ls→Int→Int→Int→Int→Int→Int→Int→Int→Nat→Nat→Nat→Int→Int→Int→Int→Int→Int→Nat→Nat→Nat→Int→Int→Bool→Prop:=(fun l0 l1 l2 i3 i4 i5 i6 i7 i8 i9 i10 n11 n12 n13 i14 i15 i16 i17 i18 i19 n20 n21 n22 i23 i24 b25=>Q (.exit 0) [(1,.v (.own 0 0 n11 n12 (some n13))),(3,.v (.ptr 1 1 0 0)),(5,.v (.ptr 2 1 0 0)),(6,.box (.agg [.nils,.nils])),(7,.box (.agg [(.int .i64 i14),(.int .i64 i15),(.int .i64 i16),(.int .i64 i17),(.int .i64 i18),(.int .i64 i19)])),(9,.v (.ptr 3 1 0 0)),(10,.v (.fn (.func ye3) [] [(.ptr 1 1 0 0),(.ptr 2 1 0 0),(.ptr 3 1 0 0)])),(29,.v (.own 0 0 n20 n21 (some n22))),(30,.v (.int .i64 i23)),(31,.v (.int .i64 i24)),(32,.v (.bool b25))] [⟨false,true,1,l0⟩,⟨false,true,2,([(.agg [(.data l1),(.data l2)])]:Ls)⟩,⟨false,true,2,([(.agg [(.int .i64 i3),(.int .i64 i4)])]:Ls)⟩,⟨false,true,6,([(.agg [(.int .i64 i5),(.int .i64 i6),(.int .i64 i7),(.int .i64 i8),(.int .i64 i9),(.int .i64 i10)])]:Ls)⟩])
def yv9 (Q:Qx):Ls→Ls→Ls→Int→Int→Int→Int→Int→Int→Int→Int→Nat→Nat→Nat→Int→Int→Int→Int→Int→Int→Int→Int→Nat→Nat→Nat→Int→Int→Bool→Prop:=(fun l0 l1 l2 i3 i4 i5 i6 i7 i8 i9 i10 n11 n12 n13 i14 i15 i16 i17 i18 i19 i20 i21 n22 n23 n24 i25 i26 b27=>Q (.exit 0) [(1,.v (.own 0 0 n11 n12 (some n13))),(3,.v (.ptr 1 1 0 0)),(5,.v (.ptr 2 1 0 0)),(6,.box (.agg [.nils,.nils])),(7,.box (.agg [(.int .i64 i14),(.int .i64 i15),(.int .i64 i16),(.int .i64 i17),(.int .i64 i18),(.int .i64 i19)])),(9,.v (.ptr 3 1 0 0)),(10,.v (.fn (.func ye3) [] [(.ptr 1 1 0 0),(.ptr 2 1 0 0),(.ptr 3 1 0 0)])),(11,.v (.int .i64 i20)),(12,.v (.int .i64 i21)),(29,.v (.own 0 0 n22 n23 (some n24))),(30,.v (.int .i64 i25)),(31,.v (.int .i64 i26)),(38,.v (.bool b27))] [⟨false,true,1,l0⟩,⟨false,true,2,([(.agg [(.data l1),(.data l2)])]:Ls)⟩,⟨false,true,2,([(.agg [(.int .i64 i3),(.int .i64 i4)])]:Ls)⟩,⟨false,true,6,([(.agg [(.int .i64 i5),(.int .i64 i6),(.int .i64 i7),(.int .i64 i8),(.int .i64 i9),(.int .i64 i10)])]:Ls)⟩])
def ywa (Q:Qx):Ls→Ls→Ls→Int→Int→Int→Int→Int→Int→Int→Int→Int→Int→Int→Int→Int→Int→Int→Prop:=(fun l0 l1 l2 i3 i4 i5 i6 i7 i8 i9 i10 i11 i12 i13 i14 i15 i16 i17=>Q .ret [(6,.box (.agg [.nils,.nils])),(7,.box (.agg [(.int .i64 i11),(.int .i64 i12),(.int .i64 i13),(.int .i64 i14),(.int .i64 i15),(.int .i64 i16)])),(8,.v (.int .i64 i17))] [⟨false,true,1,l0⟩,⟨false,true,2,([(.agg [(.data l1),(.data l2)])]:Ls)⟩,⟨false,true,2,([(.agg [(.int .i64 i3),(.int .i64 i4)])]:Ls)⟩,⟨false,true,6,([(.agg [(.int .i64 i5),(.int .i64 i6),(.int .i64 i7),(.int .i64 i8),(.int .i64 i9),(.int .i64 i10)])]:Ls)⟩])
def pt44:RPt:=rC pt24 rN
def pt45:VPt:=vA (lC pt0 (lC pt0 (lC pt0 (lC pt0 pt5))))
def pt46:RPt:=rC pt45 rN
def pt47:VPt:=vP 3 0 (nK 1) (nK 0)
def yoA (a0:yab) (a1:ydA) (a2:yeN) (a3:yal) (a4:ydA) (Q:Qx):List St:=[⟨(pS (hB false true 1 rA (hB false true 2 pt44 (hB false true 2 (rC pt6 rN) (hB false true 6 pt46 hN)))) (fV 1 (vO 0 (nK 0) nV nV nV) (fV 3 pt20 (fV 5 pt19 (fX 6 (vA (lC vNs (lC vNs lN))) (fX 7 pt45 (fV 9 pt47 (fV 10 (vF ye3 lN (lC pt20 (lC pt19 (lC pt47 lN)))) (fV 29 (vO 0 (nK 0) nV nV nV) (fV 30 pt0 (fV 31 pt0 fN)))))))))) fN),ybk a0 a1 a2 a3 a4 (yv8 Q) (yv9 Q) (ywa Q)⟩]
def yrX (a0:yab) (a1:ydA) (a2:yeN) (a3:yal) (a4:ydA):LP:=lpS [(62467600,yoA a0 a1 a2 a3 a4)]
def ylO (e:Es) (a0:yab) (a1:ydA) (a2:yeN) (a3:yal) (a4:ydA):SE:=⟨(E e),yeB [(ydL,yis.pw a0),(yiK,ywI.pw a1),(ygh,yBf.pw a2),(yiL,ynD.pw a3),(yj7,ywI.pw a4)],yeC [(ye3,yy4)],yrX a0 a1 a2 a3 a4,fun _=>none⟩
theorem yp2 (e:Es) (he:EG e):SEOk (Uni (E e)) (ylO e yaQ ydn yeO yfi yed):=yaw (Sub.uni _) ⟨(ylL e he),(yuj e he),(yBi e he),(yD1 e he),(ywJ e he),trivial⟩ ⟨⟨by kernel_rfl,by kernel_rfl,rfl,fun as=>yax (by kernel_rfl) as,he.num _ (by kernel_rfl),by kernel_rfl,(yai (by kernel_rfl))⟩,trivial⟩ he.ok
theorem yuE (e:Es) (a0 a1 a2 a3 a4):ycp (ylO e a0 a1 a2 a3 a4) 5 a ym9 false (yoA a0 a1 a2 a3 a4):=fun _=>⟨fun _=>by kernel_rfl,fun _ _=>by kernel_rfl,trivial⟩
theorem yuF (e:Es) (he:EG e):LpT (Uni (E e)) (yrX yaQ ydn yeO yfi yed) [] 62467600 (.loop 62467600 ym9):=fun _ _ _=>yok.st (Sub.uni _) (yaD (yp2 e he) 5) (YOk.no _ _) (yai (by kernel_rfl)) (yuE e _ _ _ _ _ _)
theorem yBj (e:Es) (a0 a1 a2 a3 a4 p0 p1 p2 p3 p4 p5 p6 p7 K):WPL (ylO e a0 a1 a2 a3 a4) 6 yDp [(.agg [(.data p0),(.data p1)]),(.own 0 0 p3 p4 (some p5)),(.agg [(.int .i64 p6),(.int .i64 p7)])] ⟨false,true,1,p2⟩ K=ylN a0 a1 a2 a3 a4 p0 p1 p2 p3 p4 p5 p6 p7 (fun r0 r1 r2 r3 r4 r5 r6 r7 r8 r9=>K (.tup [(.agg [(.data r0),(.data r1)]),(.agg [(.int .i64 r2),(.int .i64 r3),(.int .i64 r4),(.int .i64 r5),(.int .i64 r6),(.int .i64 r7)]),(.int .i64 r8)]) r9):=by kernel_rfl
theorem yrY (e:Es) (he:EG e):OkL (E e) yrW yfl:=by
 intro as b K h
 unfold yrW yix at h
 split at h
 ·exact yOg (yp2 e he) yj6.flat (ybe (l:=[(62467600,.loop 62467600 ym9)]) ⟨yuF e he,trivial⟩ (by kernel_rfl)) (by kernel_rfl) (he.num _ (by kernel_rfl)) ((yBj ..).mpr h)
 ·exact h.elim
abbrev ykB:Type:=Ls→(Ls→Ls→Ls→Int→Prop)→Prop
def ye5 (a0:ych) (a1:yab) (a2:ybs) (a:Ls→Ls→Ls→Nat→Nat→Nat→Ls→Int→Ls→Ls→Nat→Nat→Nat→Int→Int→Bool→Prop):Nat→Ls→Ls→Ls→Nat→Nat→Nat→Ls→Int→Ls→Ls→Nat→Nat→Nat→Int→Int→Prop
 | 0,_,_,_,_,_,_,_,_,_,_,_,_,_,_,_=>False
 | b+1,l0,l1,l2,n3,n4,n5,l6,i7,l8,l9,n10,n11,n12,i13,i14 =>
 (cbr (decide (i14<i13))
 (asr (decide ((0:Int)≤i14))
 (asr (decide (i14<((n10:Nat):Int)))
 (asr (decide ((List.length l1)=n11))
 (asr (decide ((0+(i14.toNat))<(List.length l1)))
 (lt (List.getD l1 (0+(i14.toNat)) .nils) (fun c =>
 (asr (conf zI c)
 (lt (IntKind.i64.wrap (i14+(1:Int))) (fun d =>
 (ye5 a0 a1 a2 a b l0 (List.set l1 (0+(i14.toNat)) (.int .i64 i14)) l2 n3 n4 n5 l6 i7 l8 l9 n10 n11 n12 i13 d))))))))))
 (a l0 l1 l2 n3 n4 n5 l6 i7 l8 l9 n10 n11 n12 i13 i14 false))
def ye6 (a0:ych) (a1:yab) (a2:ybs) (a:Ls→Ls→Ls→Ls→Nat→Nat→Nat→Ls→Int→Ls→Ls→Int→Int→Int→Int→Int→Int→Ls→Ls→Int→Int→Int→Int→Int→Int→Nat→Nat→Nat→Int→Int→Bool→Prop) (b:Ls→Ls→Ls→Ls→Nat→Nat→Nat→Ls→Int→Ls→Ls→Int→Int→Int→Int→Int→Int→Ls→Ls→Int→Int→Int→Int→Int→Int→Int→Prop):Nat→Ls→Ls→Ls→Ls→Nat→Nat→Nat→Ls→Int→Ls→Ls→Int→Int→Int→Int→Int→Int→Ls→Ls→Int→Int→Int→Int→Int→Int→Nat→Nat→Nat→Int→Int→Prop
 | 0,_,_,_,_,_,_,_,_,_,_,_,_,_,_,_,_,_,_,_,_,_,_,_,_,_,_,_,_,_,_=>False
 | d+1,l0,l1,l2,l3,n4,n5,n6,l9,i10,l11,l12,i13,i14,i15,i16,i17,i18,l19,l20,i21,i22,i23,i24,i25,i26,n27,n28,n29,i30,i31 =>
 (cbr (decide (i31<i30))
 (asr (decide ((0:Int)≤i31))
 (asr (decide (i31<((n27:Nat):Int)))
 (asr (decide ((List.length l1)=n28))
 (asr (decide ((0+(i31.toNat))<(List.length l1)))
 (lt (List.getD l1 (0+(i31.toNat)) .nils) (fun c =>
 (asr (conf zI c)
 (cbr ((yac c) == i13)
 (b l0 l1 l2 l3 n4 n5 n6 l9 i10 l11 l12 i13 i14 i15 i16 i17 i18 l19 l20 i21 i22 i23 i24 i25 i26 i31)
 (lt (IntKind.i64.wrap (i31+(1:Int))) (fun e =>
 (asr (decide ((List.length l2)=List.length l2)&&decide ((List.length l2)=List.length l2))
 (ye6 a0 a1 a2 a b d l0 l1 l2 l3 n4 n5 n6 l9 i10 l11 l12 i13 i14 i15 i16 i17 i18 l19 l20 i21 i22 i23 i24 i25 i26 n27 n28 n29 i30 e))))))))))))
 (a l0 l1 l2 l3 n4 n5 n6 l9 i10 l11 l12 i13 i14 i15 i16 i17 i18 l19 l20 i21 i22 i23 i24 i25 i26 n27 n28 n29 i30 i31 false))
def ye7 (a0:ych) (a1:yab) (a2:ybs) (a:Ls→Ls→Ls→Ls→Nat→Nat→Nat→Ls→Int→Ls→Ls→Int→Int→Int→Int→Int→Int→Ls→Ls→Int→Int→Int→Int→Int→Int→Nat→Nat→Nat→Int→Int→Bool→Prop) (b:Ls→Ls→Ls→Ls→Nat→Nat→Nat→Ls→Int→Ls→Ls→Int→Int→Int→Int→Int→Int→Ls→Ls→Int→Int→Int→Int→Int→Int→Int→Prop):Nat→Ls→Ls→Ls→Ls→Nat→Nat→Nat→Ls→Int→Ls→Ls→Int→Int→Int→Int→Int→Int→Ls→Ls→Int→Int→Int→Int→Int→Int→Nat→Nat→Nat→Int→Int→Prop
 | 0,_,_,_,_,_,_,_,_,_,_,_,_,_,_,_,_,_,_,_,_,_,_,_,_,_,_,_,_,_,_=>False
 | d+1,l0,l1,l2,l3,n4,n5,n6,l9,i10,l11,l12,i13,i14,i15,i16,i17,i18,l19,l20,i21,i22,i23,i24,i25,i26,n27,n28,n29,i30,i31 =>
 (cbr (decide (i31<i30))
 (asr (decide ((0:Int)≤i31))
 (asr (decide (i31<((n27:Nat):Int)))
 (asr (decide ((List.length l1)=n28))
 (asr (decide ((0+(i31.toNat))<(List.length l1)))
 (lt (List.getD l1 (0+(i31.toNat)) .nils) (fun c =>
 (asr (conf zI c)
 (cbr ((yac c) == i13)
 (b l0 l1 l2 l3 n4 n5 n6 l9 i10 l11 l12 i13 i14 i15 i16 i17 i18 l19 l20 i21 i22 i23 i24 i25 i26 i31)
 (lt (IntKind.i64.wrap (i31+(1:Int))) (fun e =>
 (asr (decide ((List.length l2)=List.length l2)&&decide ((List.length l2)=List.length l2))
 (ye7 a0 a1 a2 a b d l0 l1 l2 l3 n4 n5 n6 l9 i10 l11 l12 i13 i14 i15 i16 i17 i18 l19 l20 i21 i22 i23 i24 i25 i26 n27 n28 n29 i30 e))))))))))))
 (a l0 l1 l2 l3 n4 n5 n6 l9 i10 l11 l12 i13 i14 i15 i16 i17 i18 l19 l20 i21 i22 i23 i24 i25 i26 n27 n28 n29 i30 i31 false))
def ye8 (a0:ych) (a1:yab) (a2:ybs) (b:Ls→Ls→Ls→Ls→Nat→Nat→Nat→Ls→Int→Ls→Ls→Int→Int→Int→Int→Int→Int→Ls→Ls→Int→Int→Int→Int→Int→Int→Nat→Nat→Nat→Int→Int→Bool→Prop):Nat→Ls→Ls→Ls→Ls→Nat→Nat→Nat→Ls→Int→Ls→Ls→Int→Int→Int→Int→Int→Int→Ls→Ls→Int→Int→Int→Int→Int→Int→Nat→Nat→Nat→Int→Int→Prop
 | 0,_,_,_,_,_,_,_,_,_,_,_,_,_,_,_,_,_,_,_,_,_,_,_,_,_,_,_,_,_,_=>False
 | d+1,l0,l1,l2,l3,n4,n5,n6,l9,i10,l11,l12,i13,i14,i15,i16,i17,i18,l19,l20,i21,i22,i23,i24,i25,i26,n27,n28,n29,i30,i31 =>
 (cbr (decide (i31<((n27:Nat):Int)))
 (jn (fun (c:Ls→Int→Prop) =>
 (asr (decide ((0:Int)≤i31))
 (asr (decide (i31<((n27:Nat):Int)))
 (asr (decide ((List.length l1)=n28))
 (asr (decide ((0+(i31.toNat))<(List.length l1)))
 (lt (List.getD l1 (0+(i31.toNat)) .nils) (fun a =>
 (asr (conf zI a)
 (cbr (!((yac a) == i13))
 (asr (decide ((0:Int)≤i30))
 (asr (decide (i30<((n27:Nat):Int)))
 (asr (decide ((List.length l1)=n28))
 (asr (decide ((0+(i30.toNat))<(List.length l1)))
 (lt (List.getD l1 (0+(i30.toNat)) .nils) (fun e =>
 (asr (conf zI e)
 (lt (IntKind.i64.wrap (i30+(1:Int))) (fun f =>
 (c (List.set l1 (0+(i30.toNat)) (.int .i64 (yac a))) f))))))))))
 (c l1 i30))))))))))
 (fun g h=>(lt (IntKind.i64.wrap (i31+(1:Int))) (fun i =>
 (asr (decide ((List.length l2)=List.length l2)&&decide ((List.length l2)=List.length l2))
 (ye8 a0 a1 a2 b d l0 g l2 l3 n4 n5 n6 l9 i10 l11 l12 i13 i14 i15 i16 i17 i18 l19 l20 i21 i22 i23 i24 i25 i26 n27 n28 n29 h i))))))
 (b l0 l1 l2 l3 n4 n5 n6 l9 i10 l11 l12 i13 i14 i15 i16 i17 i18 l19 l20 i21 i22 i23 i24 i25 i26 n27 n28 n29 i30 i31 false))
def ye9 (a0:ych) (a1:yab) (a2:ybs) (b:Ls→Ls→Ls→Ls→Nat→Nat→Nat→Ls→Int→Ls→Ls→Int→Int→Int→Int→Int→Int→Ls→Ls→Int→Int→Int→Int→Int→Int→Nat→Nat→Nat→Int→Int→Bool→Prop):Nat→Ls→Ls→Ls→Ls→Nat→Nat→Nat→Ls→Int→Ls→Ls→Int→Int→Int→Int→Int→Int→Ls→Ls→Int→Int→Int→Int→Int→Int→Nat→Nat→Nat→Int→Int→Prop
 | 0,_,_,_,_,_,_,_,_,_,_,_,_,_,_,_,_,_,_,_,_,_,_,_,_,_,_,_,_,_,_=>False
 | d+1,l0,l1,l2,l3,n4,n5,n6,l9,i10,l11,l12,i13,i14,i15,i16,i17,i18,l19,l20,i21,i22,i23,i24,i25,i26,n27,n28,n29,i30,i31 =>
 (cbr (decide (i31<((n27:Nat):Int)))
 (jn (fun (c:Ls→Int→Prop) =>
 (asr (decide ((0:Int)≤i31))
 (asr (decide (i31<((n27:Nat):Int)))
 (asr (decide ((List.length l1)=n28))
 (asr (decide ((0+(i31.toNat))<(List.length l1)))
 (lt (List.getD l1 (0+(i31.toNat)) .nils) (fun a =>
 (asr (conf zI a)
 (cbr (!((yac a) == i13))
 (asr (decide ((0:Int)≤i30))
 (asr (decide (i30<((n27:Nat):Int)))
 (asr (decide ((List.length l1)=n28))
 (asr (decide ((0+(i30.toNat))<(List.length l1)))
 (lt (List.getD l1 (0+(i30.toNat)) .nils) (fun e =>
 (asr (conf zI e)
 (lt (IntKind.i64.wrap (i30+(1:Int))) (fun f =>
 (c (List.set l1 (0+(i30.toNat)) (.int .i64 (yac a))) f))))))))))
 (c l1 i30))))))))))
 (fun g h=>(lt (IntKind.i64.wrap (i31+(1:Int))) (fun i =>
 (asr (decide ((List.length l2)=List.length l2)&&decide ((List.length l2)=List.length l2))
 (ye9 a0 a1 a2 b d l0 g l2 l3 n4 n5 n6 l9 i10 l11 l12 i13 i14 i15 i16 i17 i18 l19 l20 i21 i22 i23 i24 i25 i26 n27 n28 n29 h i))))))
 (b l0 l1 l2 l3 n4 n5 n6 l9 i10 l11 l12 i13 i14 i15 i16 i17 i18 l19 l20 i21 i22 i23 i24 i25 i26 n27 n28 n29 i30 i31 false))
def yeh (a0:ych) (a1:yab) (a2:ybs) (s:Ls→Ls→Ls→Ls→Nat→Nat→Nat→Ls→Int→Ls→Ls→Nat→Nat→Nat→Int→Int→Bool→Prop) (t:Ls→Ls→Ls→Ls→Nat→Nat→Nat→Ls→Int→Ls→Ls→Int→Int→Int→Int→Int→Int→Prop) (u:Ls→Ls→Ls→Ls→Nat→Nat→Nat→Ls→Int→Ls→Ls→Int→Int→Int→Int→Int→Int→Ls→Ls→Int→Int→Int→Int→Int→Int→Nat→Nat→Nat→Int→Int→Ls→Ls→Int→Bool→Ls→Ls→Int→Int→Int→Int→Int→Int→Bool→Bool→Prop):Nat→Ls→Ls→Ls→Ls→Nat→Nat→Nat→Ls→Int→Ls→Ls→Nat→Nat→Nat→Int→Int→Prop
 | 0,_,_,_,_,_,_,_,_,_,_,_,_,_,_,_,_=>False
 | X+1,l0,l1,l2,l3,n4,n5,n6,l9,i10,l11,l12,n13,n14,n15,i16,i17 =>
 (cbr (decide (((n13:Nat):Int)>(0:Int)))
 (a2 l11 l12 l1 n13 n14 n15 i16 i17 (fun k i a d e b c f n o =>
 (cbr (n !=(0:Int))
 (t l0 o l2 l3 n4 n5 n6 l9 n l11 l12 a d e b c f)
 (asr (decide ((List.length l2)=(List.length l2)))
 (asr (decide ((0+(List.length l2))≤(List.length l2)))
 (asr (!(decide (((0+(List.length l2))+1)≤(List.length l2))))
 (asr (decide ((List.length l2)=(List.length l2)))
 (asr (decide ((((List.length l2)+1)+64)*(48+1)≤room))
 (asr (decide ((0:Int)≤a))
 (asr (decide (a<((n4:Nat):Int)))
 (asr (decide ((List.length l0)=n5))
 (asr (decide ((0+(a.toNat))<(List.length l0)))
 (lt (List.getD l0 (0+(a.toNat)) .nils) (fun Y =>
 (asr (conf zD Y)
 (cbr ((((List.length (l2++([(.agg [(.int .i64 a),(.int .i64 d),(.int .i64 e),(.int .i64 b),(.int .i64 c),(.int .i64 f)])]:Ls))):Nat):Int) ==(((List.length l3):Nat):Int))
 (u (List.set l0 (0+(a.toNat)) (.data ([(.agg [(.int .i64 d),(.int .i64 e),(.int .i64 b),(.int .i64 c)])]:Ls))) o (l2++([(.agg [(.int .i64 a),(.int .i64 d),(.int .i64 e),(.int .i64 b),(.int .i64 c),(.int .i64 f)])]:Ls)) l3 n4 n5 n6 i i10 l11 l12 a d e b c f k i a d e b c f n13 n14 n15 i16 i17 k i n false k i a d e b c f false true)
 (jn (fun (v:Ls→Ls→Ls→Ls→Nat→Nat→Nat→Ls→Int→Ls→Ls→Int→Int→Int→Int→Int→Int→Ls→Ls→Int→Int→Int→Int→Int→Int→Nat→Nat→Nat→Prop) =>
 (jn (fun (w:Ls→Ls→Ls→Ls→Nat→Nat→Nat→Ls→Int→Ls→Ls→Int→Int→Int→Int→Int→Int→Ls→Ls→Int→Int→Int→Int→Int→Int→Int→Prop) =>
 (asr (decide ((List.length (l2++([(.agg [(.int .i64 a),(.int .i64 d),(.int .i64 e),(.int .i64 b),(.int .i64 c),(.int .i64 f)])]:Ls)))=List.length (l2++([(.agg [(.int .i64 a),(.int .i64 d),(.int .i64 e),(.int .i64 b),(.int .i64 c),(.int .i64 f)])]:Ls)))&&decide ((List.length (l2++([(.agg [(.int .i64 a),(.int .i64 d),(.int .i64 e),(.int .i64 b),(.int .i64 c),(.int .i64 f)])]:Ls)))=List.length (l2++([(.agg [(.int .i64 a),(.int .i64 d),(.int .i64 e),(.int .i64 b),(.int .i64 c),(.int .i64 f)])]:Ls))))
 (∃ Z:Nat,ye7 a0 a1 a2
 (fun va vb vc vd ve vf vg vh vi vj vk vl vm vn vo vp vq vr vs vt vu vv vw vx vy _ _ _ _ _ _=>(w va vb vc vd ve vf vg vh vi vj vk vl vm vn vo vp vq vr vs vt vu vv vw vx vy (-1:Int)))
 (fun vz vA vB vC vD vE vF vG vH vI vJ vK vL vM vN vO vP vQ vR vS vT vU vV vW vX vY=>(w vz vA vB vC vD vE vF vG vH vI vJ vK vL vM vN vO vP vQ vR vS vT vU vV vW vX vY))
 Z (List.set l0 (0+(a.toNat)) (.data ([(.agg [(.int .i64 d),(.int .i64 e),(.int .i64 b),(.int .i64 c)])]:Ls))) o (l2++([(.agg [(.int .i64 a),(.int .i64 d),(.int .i64 e),(.int .i64 b),(.int .i64 c),(.int .i64 f)])]:Ls)) l3 n4 n5 n6 i i10 k i a d e b c f k i a d e b c f n13 n14 n15 ((n13:Nat):Int) (0:Int))))
 (fun x y j z A B C D E F G H I J K L M N O Q R S T U V p=>(cbr (p ==(-1:Int))
 (v x y j z A B C D E F G H I J K L M N O Q R S T U V n13 n14 n15)
 (lt (IntKind.i64.wrap (p+(1:Int))) (fun vZ =>
 (asr (decide ((List.length j)=List.length j)&&decide ((List.length j)=List.length j))
 (∃ v0:Nat,ye9 a0 a1 a2
 (fun v1 m v2 v3 v4 v5 v6 v7 v8 v9 wa wb wc wd we wf wg wh wi wj wk wl wm wn wo h q r g _ _=>(jn (fun (W:Ls→Prop) =>
 (asr (decide ((0:Int)≤g))
 (asr (decide (g≤((h:Nat):Int)))
 (asr ((decide (((h:Nat):Int)≤((h:Nat):Int)))||(decide (((h:Nat):Int)≤((r:Nat):Int))))
 (cbr (decide (((((h:Nat):Int)-g).toNat)=0))
 (W m)
 (asr (decide ((List.length m)=q))
 (asr (decide (((0+(g.toNat))+((((h:Nat):Int)-g).toNat))≤q))
 (W ((List.take (0+(g.toNat)) m)++((List.replicate ((((h:Nat):Int)-g).toNat) ((.int .i64 (0)):PV))++(List.drop ((0+(g.toNat))+((((h:Nat):Int)-g).toNat)) m)))))))))))
 (fun wp=>(asr (decide ((0:Int)≤g))
 (asr ((decide (g≤((h:Nat):Int)))||(decide (g≤((r:Nat):Int))))
 (v v1 wp v2 v3 v4 v5 v6 v7 v8 v9 wa wb wc wd we wf wg wh wi wj wk wl wm wn wo ((g-(0:Int)).toNat) q (r-0)))))))
 v0 x y j z A B C D E F G H I J K L M N O Q R S T U V n13 n14 n15 p vZ))))))))
 (fun wq wr l ws wt wu wv ww wx wy wz _ _ _ _ _ _ _ _ _ _ _ _ _ _ wA wB wC=>(asr (decide ((List.length l)=List.length l)&&decide ((List.length l)=List.length l))
 (yeh a0 a1 a2 s t u X wq wr l ws wt wu wv ww wx wy wz wA wB wC b c))))))))))))))))))))
 (s l0 l1 l2 l3 n4 n5 n6 l9 i10 l11 l12 n13 n14 n15 i16 i17 false))
def yei (a0:ych) (a1:yab) (a2:ybs) (U:Ls→Ls→Ls→Nat→Nat→Nat→Ls→Int→Ls→Ls→Nat→Nat→Nat→Int→Int→Bool→Prop) (V:Ls→Ls→Ls→Nat→Nat→Nat→Ls→Int→Ls→Ls→Int→Int→Int→Int→Int→Int→Prop) (W:Ls→Ls→Ls→Ls→Nat→Nat→Nat→Ls→Int→Ls→Ls→Int→Int→Int→Int→Int→Int→Ls→Ls→Int→Int→Int→Int→Int→Int→Nat→Nat→Nat→Int→Int→Ls→Ls→Int→Bool→Ls→Ls→Int→Int→Int→Int→Int→Int→Bool→Bool→Prop) (X:Ls→Ls→Ls→Ls→Nat→Nat→Nat→Ls→Int→Ls→Ls→Nat→Nat→Nat→Int→Int→Bool→Prop) (Y:Ls→Ls→Ls→Ls→Nat→Nat→Nat→Ls→Int→Ls→Ls→Int→Int→Int→Int→Int→Int→Prop) (Z:Ls→Ls→Ls→Ls→Nat→Nat→Nat→Ls→Int→Ls→Ls→Int→Int→Int→Int→Int→Int→Ls→Ls→Int→Int→Int→Int→Int→Int→Nat→Nat→Nat→Int→Int→Ls→Ls→Int→Bool→Ls→Ls→Int→Int→Int→Int→Int→Int→Bool→Bool→Prop):Nat→Ls→Ls→Ls→Nat→Nat→Nat→Ls→Int→Ls→Ls→Nat→Nat→Nat→Int→Int→Prop
 | 0,_,_,_,_,_,_,_,_,_,_,_,_,_,_,_=>False
 | va+1,l0,l1,l2,n3,n4,n5,l6,i7,l8,l9,n10,n11,n12,i13,i14 =>
 (cbr (decide (((n10:Nat):Int)>(0:Int)))
 (a2 l8 l9 l1 n10 n11 n12 i13 i14 (fun k i a e f b c g n o =>
 (cbr (n !=(0:Int))
 (V l0 o l2 n3 n4 n5 l6 n l8 l9 a e f b c g)
 (asr (decide ((0:Int)≤a))
 (asr (decide (a<((n3:Nat):Int)))
 (asr (decide ((List.length l0)=n4))
 (asr (decide ((0+(a.toNat))<(List.length l0)))
 (lt (List.getD l0 (0+(a.toNat)) .nils) (fun vb =>
 (asr (conf zD vb)
 (cbr ((1:Int) ==(((List.length l2):Nat):Int))
 (W (List.set l0 (0+(a.toNat)) (.data ([(.agg [(.int .i64 e),(.int .i64 f),(.int .i64 b),(.int .i64 c)])]:Ls))) o ([(.agg [(.int .i64 a),(.int .i64 e),(.int .i64 f),(.int .i64 b),(.int .i64 c),(.int .i64 g)])]:Ls) l2 n3 n4 n5 i i7 l8 l9 a e f b c g k i a e f b c g n10 n11 n12 i13 i14 k i n false k i a e f b c g false true)
 (jn (fun (s:Ls→Ls→Ls→Ls→Nat→Nat→Nat→Ls→Int→Ls→Ls→Int→Int→Int→Int→Int→Int→Ls→Ls→Int→Int→Int→Int→Int→Int→Nat→Nat→Nat→Prop) =>
 (jn (fun (t:Ls→Ls→Ls→Ls→Nat→Nat→Nat→Ls→Int→Ls→Ls→Int→Int→Int→Int→Int→Int→Ls→Ls→Int→Int→Int→Int→Int→Int→Int→Prop) =>
 (asr (decide (1=List.length ([(.agg [(.int .i64 a),(.int .i64 e),(.int .i64 f),(.int .i64 b),(.int .i64 c),(.int .i64 g)])]:Ls))&&decide (1=List.length ([(.agg [(.int .i64 a),(.int .i64 e),(.int .i64 f),(.int .i64 b),(.int .i64 c),(.int .i64 g)])]:Ls)))
 (∃ vc:Nat,ye6 a0 a1 a2
 (fun vd ve vf vg vh vi vj vk vl vm vn vo vp vq vr vs vt vu vv vw vx vy vz vA vB _ _ _ _ _ _=>(t vd ve vf vg vh vi vj vk vl vm vn vo vp vq vr vs vt vu vv vw vx vy vz vA vB (-1:Int)))
 (fun vC vD vE vF vG vH vI vJ vK vL vM vN vO vP vQ vR vS vT vU vV vW vX vY vZ v0 v1=>(t vC vD vE vF vG vH vI vJ vK vL vM vN vO vP vQ vR vS vT vU vV vW vX vY vZ v0 v1))
 vc (List.set l0 (0+(a.toNat)) (.data ([(.agg [(.int .i64 e),(.int .i64 f),(.int .i64 b),(.int .i64 c)])]:Ls))) o ([(.agg [(.int .i64 a),(.int .i64 e),(.int .i64 f),(.int .i64 b),(.int .i64 c),(.int .i64 g)])]:Ls) l2 n3 n4 n5 i i7 k i a e f b c g k i a e f b c g n10 n11 n12 ((n10:Nat):Int) (0:Int))))
 (fun u v j w x y z A B C D E F G H I J K L M N O Q R S p=>(cbr (p ==(-1:Int))
 (s u v j w x y z A B C D E F G H I J K L M N O Q R S n10 n11 n12)
 (lt (IntKind.i64.wrap (p+(1:Int))) (fun v2 =>
 (asr (decide ((List.length j)=List.length j)&&decide ((List.length j)=List.length j))
 (∃ v3:Nat,ye8 a0 a1 a2
 (fun v4 m v5 v6 v7 v8 v9 wa wb wc wd we wf wg wh wi wj wk wl wm wn wo wp wq wr h q r d _ _=>(jn (fun (T:Ls→Prop) =>
 (asr (decide ((0:Int)≤d))
 (asr (decide (d≤((h:Nat):Int)))
 (asr ((decide (((h:Nat):Int)≤((h:Nat):Int)))||(decide (((h:Nat):Int)≤((r:Nat):Int))))
 (cbr (decide (((((h:Nat):Int)-d).toNat)=0))
 (T m)
 (asr (decide ((List.length m)=q))
 (asr (decide (((0+(d.toNat))+((((h:Nat):Int)-d).toNat))≤q))
 (T ((List.take (0+(d.toNat)) m)++((List.replicate ((((h:Nat):Int)-d).toNat) ((.int .i64 (0)):PV))++(List.drop ((0+(d.toNat))+((((h:Nat):Int)-d).toNat)) m)))))))))))
 (fun ws=>(asr (decide ((0:Int)≤d))
 (asr ((decide (d≤((h:Nat):Int)))||(decide (d≤((r:Nat):Int))))
 (s v4 ws v5 v6 v7 v8 v9 wa wb wc wd we wf wg wh wi wj wk wl wm wn wo wp wq wr ((d-(0:Int)).toNat) q (r-0)))))))
 v3 u v j w x y z A B C D E F G H I J K L M N O Q R S n10 n11 n12 p v2))))))))
 (fun wt wu l wv ww wx wy wz wA wB wC _ _ _ _ _ _ _ _ _ _ _ _ _ _ wD wE wF=>(asr (decide ((List.length l)=List.length l)&&decide ((List.length l)=List.length l))
 (yeh a0 a1 a2 X Y Z va wt wu l wv ww wx wy wz wA wB wC wD wE wF b c)))))))))))))))
 (U l0 l1 l2 n3 n4 n5 l6 i7 l8 l9 n10 n11 n12 i13 i14 false))
def yk4 (a0:ych) (a1:yab) (a2:ybs) (p0:Ls) (K:Ls→Ls→Ls→Int→Prop):Prop :=
 (a0 p0 (fun a L f =>
 (cbr (f !=(0:Int))
 (K ([]:Ls) ([]:Ls) ([]:Ls) f)
 (asr (decide ((0:Int)≤(((List.length p0):Nat):Int)))
 (asr (decide ((((List.length p0):Nat):Int)≤(((List.length p0):Nat):Int)))
 (asr (decide (((List.length p0)+64)*(24+1)≤room))
 (asr (decide ((0:Int)≤(((List.length a):Nat):Int)))
 (asr (decide ((((List.length a):Nat):Int)≤(((List.length a):Nat):Int)))
 (asr (decide (((List.length a)+64)*(8+1)≤room))
 (∃ M:Nat,ye5 a0 a1 a2
 (fun N O Q R S T U V W X Y Z va _ _ _=>(a1 (0:Int) (fun vb vc =>
 (∃ vd:Nat,yei a0 a1 a2
 (fun g ve vf h i vg E j vh vi _ _ _ _ _ _=>(asr (noYH (noY 0) (fun _=>true) [⟨false,true,1,([(.data vf)]:Ls)⟩,⟨false,false,1,([(.agg [(.own 5 0 h i (some vg))])]:Ls)⟩,⟨false,false,1,([.nils]:Ls)⟩,⟨false,true,1,([(.data E)]:Ls)⟩,⟨false,true,1,([(.int .i64 j)]:Ls)⟩,⟨false,true,1,g⟩,⟨false,true,2,([(.agg [(.data vh),(.data vi)])]:Ls)⟩,⟨false,false,1,([(.fn (.func yaO) [] [(.ptr 4 1 0 0)])]:Ls)⟩,⟨false,true,1,ve⟩])
 (cbr (j !=(0:Int))
 (K ([]:Ls) ([]:Ls) ([]:Ls) j)
 (asr (decide ((List.length g)=i))
 (asr (decide ((0+h)≤i))
 (K (List.take h g) ([]:Ls) E (0:Int)))))))
 (fun k vj vk l m vl F n vm vn vo vp vq vr vs vt=>(asr (noYH (noY 0) (fun _=>true) [⟨false,true,1,([(.data vk)]:Ls)⟩,⟨false,false,1,([(.agg [(.own 5 0 l m (some vl))])]:Ls)⟩,⟨false,false,1,([.nils]:Ls)⟩,⟨false,true,1,([(.data F)]:Ls)⟩,⟨false,true,1,([(.int .i64 n)]:Ls)⟩,⟨false,true,1,k⟩,⟨false,true,2,([(.agg [(.data vm),(.data vn)])]:Ls)⟩,⟨false,false,1,([(.fn (.func yaO) [] [(.ptr 4 1 0 0)])]:Ls)⟩,⟨false,true,1,vj⟩,⟨false,true,6,([(.agg [(.int .i64 vo),(.int .i64 vp),(.int .i64 vq),(.int .i64 vr),(.int .i64 vs),(.int .i64 vt)])]:Ls)⟩])
 (cbr (n !=(0:Int))
 (K ([]:Ls) ([]:Ls) ([]:Ls) n)
 (asr (decide ((List.length k)=m))
 (asr (decide ((0+l)≤m))
 (K (List.take l k) ([]:Ls) F (0:Int)))))))
 (fun o vu b vv p q vw G r vx vy vz vA vB vC vD vE vF vG vH vI vJ vK vL vM _ _ _ _ _ _ _ _ _ _ _ _ _ _ _ _ _ _ _=>(asr (noYH (noY 0) (fun _=>true) [⟨false,true,1,([(.data vv)]:Ls)⟩,⟨false,false,1,([(.agg [(.own 5 0 p q (some vw))])]:Ls)⟩,⟨false,false,1,([(.own 12 0 (List.length b) (List.length b) none)]:Ls)⟩,⟨false,true,1,([(.data G)]:Ls)⟩,⟨false,true,1,([(.int .i64 r)]:Ls)⟩,⟨false,true,1,o⟩,⟨false,true,2,([(.agg [(.data vx),(.data vy)])]:Ls)⟩,⟨false,false,1,([(.fn (.func yaO) [] [(.ptr 4 1 0 0)])]:Ls)⟩,⟨false,true,1,vu⟩,⟨false,true,6,([(.agg [(.int .i64 vz),(.int .i64 vA),(.int .i64 vB),(.int .i64 vC),(.int .i64 vD),(.int .i64 vE)])]:Ls)⟩,⟨false,true,2,([(.agg [(.data vF),(.data vG)])]:Ls)⟩,⟨false,true,6,([(.agg [(.int .i64 vH),(.int .i64 vI),(.int .i64 vJ),(.int .i64 vK),(.int .i64 vL),(.int .i64 vM)])]:Ls)⟩,⟨false,true,6,b⟩])
 (cbr (r !=(0:Int))
 (K ([]:Ls) ([]:Ls) ([]:Ls) r)
 (asr (decide ((List.length o)=q))
 (asr (decide ((0+p)≤q))
 (asr (decide ((List.length b)=(List.length b)))
 (asr (decide ((0+(List.length b))≤(List.length b)))
 (K (List.take p o) (List.take (List.length b) b) G (0:Int)))))))))
 (fun s vN c vO t u vP H v vQ vR _ _ _ _ _ _=>(asr (noYH (noY 0) (fun _=>true) [⟨false,true,1,([(.data vO)]:Ls)⟩,⟨false,false,1,([(.agg [(.own 5 0 t u (some vP))])]:Ls)⟩,⟨false,false,1,([(.own 12 0 (List.length c) (List.length c) none)]:Ls)⟩,⟨false,true,1,([(.data H)]:Ls)⟩,⟨false,true,1,([(.int .i64 v)]:Ls)⟩,⟨false,true,1,s⟩,⟨false,true,2,([(.agg [(.data vQ),(.data vR)])]:Ls)⟩,⟨false,false,1,([(.fn (.func yaO) [] [(.ptr 4 1 0 0)])]:Ls)⟩,⟨false,true,1,vN⟩,⟨false,true,6,([]:Ls)⟩,⟨false,true,2,([]:Ls)⟩,⟨false,true,6,([]:Ls)⟩,⟨false,true,6,c⟩])
 (cbr (v !=(0:Int))
 (K ([]:Ls) ([]:Ls) ([]:Ls) v)
 (asr (decide ((List.length s)=u))
 (asr (decide ((0+t)≤u))
 (asr (decide ((List.length c)=(List.length c)))
 (asr (decide ((0+(List.length c))≤(List.length c)))
 (K (List.take t s) (List.take (List.length c) c) H (0:Int)))))))))
 (fun w vS d vT x y vU I z vV vW vX vY vZ v0 v1 v2=>(asr (noYH (noY 0) (fun _=>true) [⟨false,true,1,([(.data vT)]:Ls)⟩,⟨false,false,1,([(.agg [(.own 5 0 x y (some vU))])]:Ls)⟩,⟨false,false,1,([(.own 12 0 (List.length d) (List.length d) none)]:Ls)⟩,⟨false,true,1,([(.data I)]:Ls)⟩,⟨false,true,1,([(.int .i64 z)]:Ls)⟩,⟨false,true,1,w⟩,⟨false,true,2,([(.agg [(.data vV),(.data vW)])]:Ls)⟩,⟨false,false,1,([(.fn (.func yaO) [] [(.ptr 4 1 0 0)])]:Ls)⟩,⟨false,true,1,vS⟩,⟨false,true,6,([]:Ls)⟩,⟨false,true,2,([]:Ls)⟩,⟨false,true,6,([]:Ls)⟩,⟨false,true,6,d⟩,⟨false,true,6,([(.agg [(.int .i64 vX),(.int .i64 vY),(.int .i64 vZ),(.int .i64 v0),(.int .i64 v1),(.int .i64 v2)])]:Ls)⟩])
 (cbr (z !=(0:Int))
 (K ([]:Ls) ([]:Ls) ([]:Ls) z)
 (asr (decide ((List.length w)=y))
 (asr (decide ((0+x)≤y))
 (asr (decide ((List.length d)=(List.length d)))
 (asr (decide ((0+(List.length d))≤(List.length d)))
 (K (List.take x w) (List.take (List.length d) d) I (0:Int)))))))))
 (fun A v3 e v4 B C v5 J D v6 v7 v8 v9 wa wb wc wd we wf wg wh wi wj wk wl _ _ _ _ _ _ _ _ _ _ _ _ _ _ _ _ _ _ _=>(asr (noYH (noY 0) (fun _=>true) [⟨false,true,1,([(.data v4)]:Ls)⟩,⟨false,false,1,([(.agg [(.own 5 0 B C (some v5))])]:Ls)⟩,⟨false,false,1,([(.own 12 0 (List.length e) (List.length e) none)]:Ls)⟩,⟨false,true,1,([(.data J)]:Ls)⟩,⟨false,true,1,([(.int .i64 D)]:Ls)⟩,⟨false,true,1,A⟩,⟨false,true,2,([(.agg [(.data v6),(.data v7)])]:Ls)⟩,⟨false,false,1,([(.fn (.func yaO) [] [(.ptr 4 1 0 0)])]:Ls)⟩,⟨false,true,1,v3⟩,⟨false,true,6,([]:Ls)⟩,⟨false,true,2,([]:Ls)⟩,⟨false,true,6,([]:Ls)⟩,⟨false,true,6,e⟩,⟨false,true,6,([(.agg [(.int .i64 v8),(.int .i64 v9),(.int .i64 wa),(.int .i64 wb),(.int .i64 wc),(.int .i64 wd)])]:Ls)⟩,⟨false,true,2,([(.agg [(.data we),(.data wf)])]:Ls)⟩,⟨false,true,6,([(.agg [(.int .i64 wg),(.int .i64 wh),(.int .i64 wi),(.int .i64 wj),(.int .i64 wk),(.int .i64 wl)])]:Ls)⟩])
 (cbr (D !=(0:Int))
 (K ([]:Ls) ([]:Ls) ([]:Ls) D)
 (asr (decide ((List.length A)=C))
 (asr (decide ((0+B)≤C))
 (asr (decide ((List.length e)=(List.length e)))
 (asr (decide ((0+(List.length e))≤(List.length e)))
 (K (List.take B A) (List.take (List.length e) e) J (0:Int)))))))))
 vd N O Q R S T U V W X Y Z va vb vc))))
 M (List.replicate (List.length p0) ((.data []):PV)) (List.replicate (List.length a) ((.int .i64 (0)):PV)) p0 (List.length p0) (List.length p0) (List.length p0) ([]:Ls) f a L (List.length a) (List.length a) (List.length a) (((List.length a):Nat):Int) (0:Int)))))))))))
def yfw:ykB:=yk4 ybG yaQ ybb
def yFS:Sg:=⟨pt7,Ls→Ls→Ls→Int→Prop,fun K=>(fun r0 r1 r2 r3=>K (.tup [(.agg [(.data r0)]),(.data r1),(.data r2),(.int .i64 r3)]))⟩
def yzE (Q:Qx):Ls→Ls→Ls→Nat→Nat→Nat→Ls→Int→Ls→Ls→Nat→Nat→Nat→Int→Int→Bool→Prop:=(fun l0 l1 l2 n3 n4 n5 l6 i7 l8 l9 n10 n11 n12 i13 i14 b15=>Q (.exit 0) [(0,.v (.fn (.yield 0) [] [])),(1,.v (.ptr 6 1 0 0)),(2,.v (.ptr 7 1 0 0)),(4,.v (.own 8 0 n10 n11 (some n12))),(15,.v (.int .i64 i13)),(16,.v (.int .i64 i14)),(17,.v (.bool b15))] [⟨false,true,1,([(.data l2)]:Ls)⟩,⟨false,false,1,([(.agg [(.own 5 0 n3 n4 (some n5))])]:Ls)⟩,⟨false,false,1,([.nils]:Ls)⟩,⟨false,true,1,([(.data l6)]:Ls)⟩,⟨false,true,1,([(.int .i64 i7)]:Ls)⟩,⟨false,true,1,l0⟩,⟨false,true,2,([(.agg [(.data l8),(.data l9)])]:Ls)⟩,⟨false,false,1,([(.fn (.func yaO) [] [(.ptr 4 1 0 0)])]:Ls)⟩,⟨false,true,1,l1⟩])
def yzF (Q:Qx):Ls→Ls→Ls→Ls→Nat→Nat→Nat→Ls→Int→Ls→Ls→Int→Int→Int→Int→Int→Int→Ls→Ls→Int→Int→Int→Int→Int→Int→Nat→Nat→Nat→Int→Int→Bool→Prop:=(fun l0 l1 l2 l3 n4 n5 n6 l9 i10 l11 l12 i13 i14 i15 i16 i17 i18 l19 l20 i21 i22 i23 i24 i25 i26 n27 n28 n29 i30 i31 b32=>Q (.exit 0) [(0,.v (.own 8 0 n27 n28 (some n29))),(1,.v (.fn (.func ybr) [] [(.ptr 9 1 0 0)])),(7,.v (.int .i64 i30)),(8,.v (.int .i64 i31)),(9,.v (.bool b32))] [⟨false,true,1,([(.data l3)]:Ls)⟩,⟨false,false,1,([(.agg [(.own 5 0 n4 n5 (some n6))])]:Ls)⟩,⟨false,false,1,([(.own 12 0 (List.length l2) (List.length l2) none)]:Ls)⟩,⟨false,true,1,([(.data l9)]:Ls)⟩,⟨false,true,1,([(.int .i64 i10)]:Ls)⟩,⟨false,true,1,l0⟩,⟨false,true,2,([(.agg [(.data l11),(.data l12)])]:Ls)⟩,⟨false,false,1,([(.fn (.func yaO) [] [(.ptr 4 1 0 0)])]:Ls)⟩,⟨false,true,1,l1⟩,⟨false,true,6,([(.agg [(.int .i64 i13),(.int .i64 i14),(.int .i64 i15),(.int .i64 i16),(.int .i64 i17),(.int .i64 i18)])]:Ls)⟩,⟨false,true,2,([(.agg [(.data l19),(.data l20)])]:Ls)⟩,⟨false,true,6,([(.agg [(.int .i64 i21),(.int .i64 i22),(.int .i64 i23),(.int .i64 i24),(.int .i64 i25),(.int .i64 i26)])]:Ls)⟩,⟨false,true,6,l2⟩])
def yzG (Q:Qx):Ls→Ls→Ls→Ls→Nat→Nat→Nat→Ls→Int→Ls→Ls→Int→Int→Int→Int→Int→Int→Ls→Ls→Int→Int→Int→Int→Int→Int→Int→Prop:=(fun l0 l1 l2 l3 n4 n5 n6 l9 i10 l11 l12 i13 i14 i15 i16 i17 i18 l19 l20 i21 i22 i23 i24 i25 i26 i27=>Q .ret [(4,.v (.int .i64 i27))] [⟨false,true,1,([(.data l3)]:Ls)⟩,⟨false,false,1,([(.agg [(.own 5 0 n4 n5 (some n6))])]:Ls)⟩,⟨false,false,1,([(.own 12 0 (List.length l2) (List.length l2) none)]:Ls)⟩,⟨false,true,1,([(.data l9)]:Ls)⟩,⟨false,true,1,([(.int .i64 i10)]:Ls)⟩,⟨false,true,1,l0⟩,⟨false,true,2,([(.agg [(.data l11),(.data l12)])]:Ls)⟩,⟨false,false,1,([(.fn (.func yaO) [] [(.ptr 4 1 0 0)])]:Ls)⟩,⟨false,true,1,l1⟩,⟨false,true,6,([(.agg [(.int .i64 i13),(.int .i64 i14),(.int .i64 i15),(.int .i64 i16),(.int .i64 i17),(.int .i64 i18)])]:Ls)⟩,⟨false,true,2,([(.agg [(.data l19),(.data l20)])]:Ls)⟩,⟨false,true,6,([(.agg [(.int .i64 i21),(.int .i64 i22),(.int .i64 i23),(.int .i64 i24),(.int .i64 i25),(.int .i64 i26)])]:Ls)⟩,⟨false,true,6,l2⟩])
def yzH (Q:Qx):Ls→Ls→Ls→Ls→Nat→Nat→Nat→Ls→Int→Ls→Ls→Int→Int→Int→Int→Int→Int→Ls→Ls→Int→Int→Int→Int→Int→Int→Nat→Nat→Nat→Int→Int→Bool→Prop:=(fun l0 l1 l2 l3 n4 n5 n6 l9 i10 l11 l12 i13 i14 i15 i16 i17 i18 l19 l20 i21 i22 i23 i24 i25 i26 n27 n28 n29 i30 i31 b32=>Q (.exit 0) [(0,.v (.own 8 0 n27 n28 (some n29))),(1,.v (.fn (.func ybr) [] [(.ptr 13 1 0 0)])),(7,.v (.int .i64 i30)),(8,.v (.int .i64 i31)),(9,.v (.bool b32))] [⟨false,true,1,([(.data l3)]:Ls)⟩,⟨false,false,1,([(.agg [(.own 5 0 n4 n5 (some n6))])]:Ls)⟩,⟨false,false,1,([(.own 12 0 (List.length l2) (List.length l2) none)]:Ls)⟩,⟨false,true,1,([(.data l9)]:Ls)⟩,⟨false,true,1,([(.int .i64 i10)]:Ls)⟩,⟨false,true,1,l0⟩,⟨false,true,2,([(.agg [(.data l11),(.data l12)])]:Ls)⟩,⟨false,false,1,([(.fn (.func yaO) [] [(.ptr 4 1 0 0)])]:Ls)⟩,⟨false,true,1,l1⟩,⟨false,true,6,([]:Ls)⟩,⟨false,true,2,([]:Ls)⟩,⟨false,true,6,([]:Ls)⟩,⟨false,true,6,l2⟩,⟨false,true,6,([(.agg [(.int .i64 i13),(.int .i64 i14),(.int .i64 i15),(.int .i64 i16),(.int .i64 i17),(.int .i64 i18)])]:Ls)⟩,⟨false,true,2,([(.agg [(.data l19),(.data l20)])]:Ls)⟩,⟨false,true,6,([(.agg [(.int .i64 i21),(.int .i64 i22),(.int .i64 i23),(.int .i64 i24),(.int .i64 i25),(.int .i64 i26)])]:Ls)⟩])
def yzI (Q:Qx):Ls→Ls→Ls→Ls→Nat→Nat→Nat→Ls→Int→Ls→Ls→Int→Int→Int→Int→Int→Int→Ls→Ls→Int→Int→Int→Int→Int→Int→Int→Prop:=(fun l0 l1 l2 l3 n4 n5 n6 l9 i10 l11 l12 i13 i14 i15 i16 i17 i18 l19 l20 i21 i22 i23 i24 i25 i26 i27=>Q .ret [(4,.v (.int .i64 i27))] [⟨false,true,1,([(.data l3)]:Ls)⟩,⟨false,false,1,([(.agg [(.own 5 0 n4 n5 (some n6))])]:Ls)⟩,⟨false,false,1,([(.own 12 0 (List.length l2) (List.length l2) none)]:Ls)⟩,⟨false,true,1,([(.data l9)]:Ls)⟩,⟨false,true,1,([(.int .i64 i10)]:Ls)⟩,⟨false,true,1,l0⟩,⟨false,true,2,([(.agg [(.data l11),(.data l12)])]:Ls)⟩,⟨false,false,1,([(.fn (.func yaO) [] [(.ptr 4 1 0 0)])]:Ls)⟩,⟨false,true,1,l1⟩,⟨false,true,6,([]:Ls)⟩,⟨false,true,2,([]:Ls)⟩,⟨false,true,6,([]:Ls)⟩,⟨false,true,6,l2⟩,⟨false,true,6,([(.agg [(.int .i64 i13),(.int .i64 i14),(.int .i64 i15),(.int .i64 i16),(.int .i64 i17),(.int .i64 i18)])]:Ls)⟩,⟨false,true,2,([(.agg [(.data l19),(.data l20)])]:Ls)⟩,⟨false,true,6,([(.agg [(.int .i64 i21),(.int .i64 i22),(.int .i64 i23),(.int .i64 i24),(.int .i64 i25),(.int .i64 i26)])]:Ls)⟩])
def yzJ (Q:Qx):Ls→Ls→Ls→Ls→Nat→Nat→Nat→Ls→Int→Ls→Ls→Int→Int→Int→Int→Int→Int→Ls→Ls→Int→Int→Int→Int→Int→Int→Nat→Nat→Nat→Int→Int→Bool→Prop:=(fun l0 l1 l2 l3 n4 n5 n6 l9 i10 l11 l12 i13 i14 i15 i16 i17 i18 l19 l20 i21 i22 i23 i24 i25 i26 n27 n28 n29 i30 i31 b32=>Q (.exit 0) [(0,.v (.own 8 0 n27 n28 (some n29))),(1,.v (.fn (.func ybr) [] [(.ptr 9 1 0 0)])),(5,.v (.int .i64 i30)),(6,.v (.int .i64 i31)),(19,.v (.bool b32))] [⟨false,true,1,([(.data l3)]:Ls)⟩,⟨false,false,1,([(.agg [(.own 5 0 n4 n5 (some n6))])]:Ls)⟩,⟨false,false,1,([(.own 12 0 (List.length l2) (List.length l2) none)]:Ls)⟩,⟨false,true,1,([(.data l9)]:Ls)⟩,⟨false,true,1,([(.int .i64 i10)]:Ls)⟩,⟨false,true,1,l0⟩,⟨false,true,2,([(.agg [(.data l11),(.data l12)])]:Ls)⟩,⟨false,false,1,([(.fn (.func yaO) [] [(.ptr 4 1 0 0)])]:Ls)⟩,⟨false,true,1,l1⟩,⟨false,true,6,([(.agg [(.int .i64 i13),(.int .i64 i14),(.int .i64 i15),(.int .i64 i16),(.int .i64 i17),(.int .i64 i18)])]:Ls)⟩,⟨false,true,2,([(.agg [(.data l19),(.data l20)])]:Ls)⟩,⟨false,true,6,([(.agg [(.int .i64 i21),(.int .i64 i22),(.int .i64 i23),(.int .i64 i24),(.int .i64 i25),(.int .i64 i26)])]:Ls)⟩,⟨false,true,6,l2⟩])
def yzK (Q:Qx):Ls→Ls→Ls→Ls→Nat→Nat→Nat→Ls→Int→Ls→Ls→Int→Int→Int→Int→Int→Int→Ls→Ls→Int→Int→Int→Int→Int→Int→Nat→Nat→Nat→Int→Int→Bool→Prop:=(fun l0 l1 l2 l3 n4 n5 n6 l9 i10 l11 l12 i13 i14 i15 i16 i17 i18 l19 l20 i21 i22 i23 i24 i25 i26 n27 n28 n29 i30 i31 b32=>Q (.exit 0) [(0,.v (.own 8 0 n27 n28 (some n29))),(1,.v (.fn (.func ybr) [] [(.ptr 13 1 0 0)])),(5,.v (.int .i64 i30)),(6,.v (.int .i64 i31)),(19,.v (.bool b32))] [⟨false,true,1,([(.data l3)]:Ls)⟩,⟨false,false,1,([(.agg [(.own 5 0 n4 n5 (some n6))])]:Ls)⟩,⟨false,false,1,([(.own 12 0 (List.length l2) (List.length l2) none)]:Ls)⟩,⟨false,true,1,([(.data l9)]:Ls)⟩,⟨false,true,1,([(.int .i64 i10)]:Ls)⟩,⟨false,true,1,l0⟩,⟨false,true,2,([(.agg [(.data l11),(.data l12)])]:Ls)⟩,⟨false,false,1,([(.fn (.func yaO) [] [(.ptr 4 1 0 0)])]:Ls)⟩,⟨false,true,1,l1⟩,⟨false,true,6,([]:Ls)⟩,⟨false,true,2,([]:Ls)⟩,⟨false,true,6,([]:Ls)⟩,⟨false,true,6,l2⟩,⟨false,true,6,([(.agg [(.int .i64 i13),(.int .i64 i14),(.int .i64 i15),(.int .i64 i16),(.int .i64 i17),(.int .i64 i18)])]:Ls)⟩,⟨false,true,2,([(.agg [(.data l19),(.data l20)])]:Ls)⟩,⟨false,true,6,([(.agg [(.int .i64 i21),(.int .i64 i22),(.int .i64 i23),(.int .i64 i24),(.int .i64 i25),(.int .i64 i26)])]:Ls)⟩])
def yzL (Q:Qx):Ls→Ls→Ls→Nat→Nat→Nat→Ls→Int→Ls→Ls→Nat→Nat→Nat→Int→Int→Bool→Prop:=(fun l0 l1 l2 n3 n4 n5 l6 i7 l8 l9 n10 n11 n12 i13 i14 b15=>Q (.exit 2) [(0,.v (.fn (.yield 0) [] [])),(1,.v (.ptr 6 1 0 0)),(2,.v (.ptr 7 1 0 0)),(4,.v (.own 8 0 n10 n11 (some n12))),(6,.box (.agg [(.int .i64 i13),(.int .i64 i14)])),(27,.v (.bool b15))] [⟨false,true,1,([(.data l2)]:Ls)⟩,⟨false,false,1,([(.agg [(.own 5 0 n3 n4 (some n5))])]:Ls)⟩,⟨false,false,1,([.nils]:Ls)⟩,⟨false,true,1,([(.data l6)]:Ls)⟩,⟨false,true,1,([(.int .i64 i7)]:Ls)⟩,⟨false,true,1,l0⟩,⟨false,true,2,([(.agg [(.data l8),(.data l9)])]:Ls)⟩,⟨false,false,1,([(.fn (.func yaO) [] [(.ptr 4 1 0 0)])]:Ls)⟩,⟨false,true,1,l1⟩])
def yzM (Q:Qx):Ls→Ls→Ls→Nat→Nat→Nat→Ls→Int→Ls→Ls→Int→Int→Int→Int→Int→Int→Prop:=(fun l0 l1 l2 n3 n4 n5 l6 i7 l8 l9 i10 i11 i12 i13 i14 i15=>Q .ret [] [⟨false,true,1,([(.data l2)]:Ls)⟩,⟨false,false,1,([(.agg [(.own 5 0 n3 n4 (some n5))])]:Ls)⟩,⟨false,false,1,([.nils]:Ls)⟩,⟨false,true,1,([(.data l6)]:Ls)⟩,⟨false,true,1,([(.int .i64 i7)]:Ls)⟩,⟨false,true,1,l0⟩,⟨false,true,2,([(.agg [(.data l8),(.data l9)])]:Ls)⟩,⟨false,false,1,([(.fn (.func yaO) [] [(.ptr 4 1 0 0)])]:Ls)⟩,⟨false,true,1,l1⟩,⟨false,true,6,([(.agg [(.int .i64 i10),(.int .i64 i11),(.int .i64 i12),(.int .i64 i13),(.int .i64 i14),(.int .i64 i15)])]:Ls)⟩])
def yzN (Q:Qx):Ls→Ls→Ls→Ls→Nat→Nat→Nat→Ls→Int→Ls→Ls→Int→Int→Int→Int→Int→Int→Ls→Ls→Int→Int→Int→Int→Int→Int→Nat→Nat→Nat→Int→Int→Ls→Ls→Int→Bool→Ls→Ls→Int→Int→Int→Int→Int→Int→Bool→Bool→Prop:=(fun l0 l1 l2 l3 n4 n5 n6 l9 i10 l11 l12 i13 i14 i15 i16 i17 i18 l19 l20 i21 i22 i23 i24 i25 i26 n27 n28 n29 i30 i31 l32 l33 i34 b35 l36 l37 i38 i39 i40 i41 i42 i43 b44 b45=>Q (.brk 0 0) [(0,.v (.fn (.yield 0) [] [])),(1,.v (.ptr 6 1 0 0)),(2,.v (.ptr 7 1 0 0)),(4,.v (.own 8 0 n27 n28 (some n29))),(6,.box (.agg [(.int .i64 i30),(.int .i64 i31)])),(7,.box (.agg [(.data l32),(.data l33)])),(8,.v (.ptr 9 1 0 0)),(9,.v (.int .i64 i34)),(37,.v (.bool b35)),(41,.v (.fn (.yield 0) [] [])),(42,.v (.agg [(.data l36),(.data l37)])),(43,.v (.agg [(.int .i64 i38),(.int .i64 i39),(.int .i64 i40),(.int .i64 i41),(.int .i64 i42),(.int .i64 i43)])),(44,.v (.bool b44)),(45,.v (.bool b45))] [⟨false,true,1,([(.data l3)]:Ls)⟩,⟨false,false,1,([(.agg [(.own 5 0 n4 n5 (some n6))])]:Ls)⟩,⟨false,false,1,([(.own 12 0 (List.length l2) (List.length l2) none)]:Ls)⟩,⟨false,true,1,([(.data l9)]:Ls)⟩,⟨false,true,1,([(.int .i64 i10)]:Ls)⟩,⟨false,true,1,l0⟩,⟨false,true,2,([(.agg [(.data l11),(.data l12)])]:Ls)⟩,⟨false,false,1,([(.fn (.func yaO) [] [(.ptr 4 1 0 0)])]:Ls)⟩,⟨false,true,1,l1⟩,⟨false,true,6,([(.agg [(.int .i64 i13),(.int .i64 i14),(.int .i64 i15),(.int .i64 i16),(.int .i64 i17),(.int .i64 i18)])]:Ls)⟩,⟨false,true,2,([(.agg [(.data l19),(.data l20)])]:Ls)⟩,⟨false,true,6,([(.agg [(.int .i64 i21),(.int .i64 i22),(.int .i64 i23),(.int .i64 i24),(.int .i64 i25),(.int .i64 i26)])]:Ls)⟩,⟨false,true,6,l2⟩])
def yp3 (Q:Qx):Ls→Ls→Ls→Ls→Nat→Nat→Nat→Ls→Int→Ls→Ls→Nat→Nat→Nat→Int→Int→Bool→Prop:=(fun l0 l1 l2 l3 n4 n5 n6 l9 i10 l11 l12 n13 n14 n15 i16 i17 b18=>Q (.exit 2) [(0,.v (.fn (.yield 0) [] [])),(1,.v (.ptr 6 1 0 0)),(2,.v (.ptr 7 1 0 0)),(4,.v (.own 8 0 n13 n14 (some n15))),(6,.box (.agg [(.int .i64 i16),(.int .i64 i17)])),(27,.v (.bool b18))] [⟨false,true,1,([(.data l3)]:Ls)⟩,⟨false,false,1,([(.agg [(.own 5 0 n4 n5 (some n6))])]:Ls)⟩,⟨false,false,1,([(.own 12 0 (List.length l2) (List.length l2) none)]:Ls)⟩,⟨false,true,1,([(.data l9)]:Ls)⟩,⟨false,true,1,([(.int .i64 i10)]:Ls)⟩,⟨false,true,1,l0⟩,⟨false,true,2,([(.agg [(.data l11),(.data l12)])]:Ls)⟩,⟨false,false,1,([(.fn (.func yaO) [] [(.ptr 4 1 0 0)])]:Ls)⟩,⟨false,true,1,l1⟩,⟨false,true,6,([]:Ls)⟩,⟨false,true,2,([]:Ls)⟩,⟨false,true,6,([]:Ls)⟩,⟨false,true,6,l2⟩])
def yp4 (Q:Qx):Ls→Ls→Ls→Ls→Nat→Nat→Nat→Ls→Int→Ls→Ls→Int→Int→Int→Int→Int→Int→Prop:=(fun l0 l1 l2 l3 n4 n5 n6 l9 i10 l11 l12 i13 i14 i15 i16 i17 i18=>Q .ret [] [⟨false,true,1,([(.data l3)]:Ls)⟩,⟨false,false,1,([(.agg [(.own 5 0 n4 n5 (some n6))])]:Ls)⟩,⟨false,false,1,([(.own 12 0 (List.length l2) (List.length l2) none)]:Ls)⟩,⟨false,true,1,([(.data l9)]:Ls)⟩,⟨false,true,1,([(.int .i64 i10)]:Ls)⟩,⟨false,true,1,l0⟩,⟨false,true,2,([(.agg [(.data l11),(.data l12)])]:Ls)⟩,⟨false,false,1,([(.fn (.func yaO) [] [(.ptr 4 1 0 0)])]:Ls)⟩,⟨false,true,1,l1⟩,⟨false,true,6,([]:Ls)⟩,⟨false,true,2,([]:Ls)⟩,⟨false,true,6,([]:Ls)⟩,⟨false,true,6,l2⟩,⟨false,true,6,([(.agg [(.int .i64 i13),(.int .i64 i14),(.int .i64 i15),(.int .i64 i16),(.int .i64 i17),(.int .i64 i18)])]:Ls)⟩])
def yp5 (Q:Qx):Ls→Ls→Ls→Ls→Nat→Nat→Nat→Ls→Int→Ls→Ls→Int→Int→Int→Int→Int→Int→Ls→Ls→Int→Int→Int→Int→Int→Int→Nat→Nat→Nat→Int→Int→Ls→Ls→Int→Bool→Ls→Ls→Int→Int→Int→Int→Int→Int→Bool→Bool→Prop:=(fun l0 l1 l2 l3 n4 n5 n6 l9 i10 l11 l12 i13 i14 i15 i16 i17 i18 l19 l20 i21 i22 i23 i24 i25 i26 n27 n28 n29 i30 i31 l32 l33 i34 b35 l36 l37 i38 i39 i40 i41 i42 i43 b44 b45=>Q (.brk 0 0) [(0,.v (.fn (.yield 0) [] [])),(1,.v (.ptr 6 1 0 0)),(2,.v (.ptr 7 1 0 0)),(4,.v (.own 8 0 n27 n28 (some n29))),(6,.box (.agg [(.int .i64 i30),(.int .i64 i31)])),(7,.box (.agg [(.data l32),(.data l33)])),(8,.v (.ptr 13 1 0 0)),(9,.v (.int .i64 i34)),(37,.v (.bool b35)),(41,.v (.fn (.yield 0) [] [])),(42,.v (.agg [(.data l36),(.data l37)])),(43,.v (.agg [(.int .i64 i38),(.int .i64 i39),(.int .i64 i40),(.int .i64 i41),(.int .i64 i42),(.int .i64 i43)])),(44,.v (.bool b44)),(45,.v (.bool b45))] [⟨false,true,1,([(.data l3)]:Ls)⟩,⟨false,false,1,([(.agg [(.own 5 0 n4 n5 (some n6))])]:Ls)⟩,⟨false,false,1,([(.own 12 0 (List.length l2) (List.length l2) none)]:Ls)⟩,⟨false,true,1,([(.data l9)]:Ls)⟩,⟨false,true,1,([(.int .i64 i10)]:Ls)⟩,⟨false,true,1,l0⟩,⟨false,true,2,([(.agg [(.data l11),(.data l12)])]:Ls)⟩,⟨false,false,1,([(.fn (.func yaO) [] [(.ptr 4 1 0 0)])]:Ls)⟩,⟨false,true,1,l1⟩,⟨false,true,6,([]:Ls)⟩,⟨false,true,2,([]:Ls)⟩,⟨false,true,6,([]:Ls)⟩,⟨false,true,6,l2⟩,⟨false,true,6,([(.agg [(.int .i64 i13),(.int .i64 i14),(.int .i64 i15),(.int .i64 i16),(.int .i64 i17),(.int .i64 i18)])]:Ls)⟩,⟨false,true,2,([(.agg [(.data l19),(.data l20)])]:Ls)⟩,⟨false,true,6,([(.agg [(.int .i64 i21),(.int .i64 i22),(.int .i64 i23),(.int .i64 i24),(.int .i64 i25),(.int .i64 i26)])]:Ls)⟩])
def pt48:RPt:=rC (vA (lC (vO 5 (nK 0) nV nV nV) lN)) rN
def pt49:RPt:=rC (vF yaO lN (lC (vP 4 0 (nK 1) (nK 0)) lN)) rN
def pt50:HPt:=hB false true 1 pt28 (hB false false 1 pt48 (hB false false 1 (rC vNs rN) (hB false true 1 pt28 (hB false true 1 pt17 (hB false true 1 rA (hB false true 2 pt44 (hB false false 1 pt49 (hB false true 1 rA hN))))))))
def pt51:VPt:=vP 6 0 (nK 1) (nK 0)
def pt52:VPt:=vP 7 0 (nK 1) (nK 0)
def pt53:VPt:=vO 8 (nK 0) nV nV nV
def pt54:Pat Frm:=fV 1 pt18 (fV 2 pt20 (fV 3 pt19 (fV 4 pt47 (fV 5 (vP 4 0 (nK 1) (nK 0)) (fV 24 (vF yep lN (lC pt51 (lC pt52 lN))) fN)))))
def yrZ (a0:ych) (a1:yab) (a2:ybs) (Q:Qx):List St:=[⟨(pS pt50 (fV 0 vY (fV 1 pt51 (fV 2 pt52 (fV 4 pt53 (fV 15 pt0 (fV 16 pt0 fN)))))) pt54),fun n l2 n3 n4 n5 l6 i7 l0 l8 l9 l1 n10 n11 n12 i13 i14=>ye5 a0 a1 a2 (yzE Q) n l0 l1 l2 n3 n4 n5 l6 i7 l8 l9 n10 n11 n12 i13 i14⟩]
def pt55:RPt:=rC (vW 12 (nK 0) (nT 12) (nT 12)) rN
def pt56:HPt:=hB false true 1 pt28 (hB false false 1 pt48 (hB false false 1 pt55 (hB false true 1 pt28 (hB false true 1 pt17 (hB false true 1 rA (hB false true 2 pt44 (hB false false 1 pt49 (hB false true 1 rA (hB false true 6 pt46 (hB false true 2 pt44 (hB false true 6 pt46 (hB false true 6 rA hN))))))))))))
def pt57:VPt:=vF ybr lN (lC (vP 9 0 (nK 1) (nK 0)) lN)
def pt58:HPt:=hB false true 1 pt28 (hB false false 1 pt48 (hB false false 1 pt55 (hB false true 1 pt28 (hB false true 1 pt17 (hB false true 1 rA (hB false true 2 pt44 (hB false false 1 pt49 (hB false true 1 rA (hB false true 6 rN (hB false true 2 rN (hB false true 6 rN (hB false true 6 rA (hB false true 6 pt46 (hB false true 2 pt44 (hB false true 6 pt46 hN)))))))))))))))
def pt59:VPt:=vF ybr lN (lC (vP 13 0 (nK 1) (nK 0)) lN)
def yr0 (a0:ych) (a1:yab) (a2:ybs) (Q:Qx):List St:=[⟨(pS pt56 (fV 0 pt53 (fV 1 pt57 pt8)) fN),fun n l3 n4 n5 n6 l9 i10 l0 l11 l12 l1 i13 i14 i15 i16 i17 i18 l19 l20 i21 i22 i23 i24 i25 i26 l2 n27 n28 n29 i30 i31=>ye6 a0 a1 a2 (yzF Q) (yzG Q) n l0 l1 l2 l3 n4 n5 n6 l9 i10 l11 l12 i13 i14 i15 i16 i17 i18 l19 l20 i21 i22 i23 i24 i25 i26 n27 n28 n29 i30 i31⟩,⟨(pS pt58 (fV 0 pt53 (fV 1 pt59 pt8)) fN),fun n l3 n4 n5 n6 l9 i10 l0 l11 l12 l1 l2 i13 i14 i15 i16 i17 i18 l19 l20 i21 i22 i23 i24 i25 i26 n27 n28 n29 i30 i31=>ye7 a0 a1 a2 (yzH Q) (yzI Q) n l0 l1 l2 l3 n4 n5 n6 l9 i10 l11 l12 i13 i14 i15 i16 i17 i18 l19 l20 i21 i22 i23 i24 i25 i26 n27 n28 n29 i30 i31⟩]
def yr1 (a0:ych) (a1:yab) (a2:ybs) (Q:Qx):List St:=[⟨(pS pt56 (fV 0 pt53 (fV 1 pt57 (fV 5 pt0 (fV 6 pt0 fN)))) fN),fun n l3 n4 n5 n6 l9 i10 l0 l11 l12 l1 i13 i14 i15 i16 i17 i18 l19 l20 i21 i22 i23 i24 i25 i26 l2 n27 n28 n29 i30 i31=>ye8 a0 a1 a2 (yzJ Q) n l0 l1 l2 l3 n4 n5 n6 l9 i10 l11 l12 i13 i14 i15 i16 i17 i18 l19 l20 i21 i22 i23 i24 i25 i26 n27 n28 n29 i30 i31⟩,⟨(pS pt58 (fV 0 pt53 (fV 1 pt59 (fV 5 pt0 (fV 6 pt0 fN)))) fN),fun n l3 n4 n5 n6 l9 i10 l0 l11 l12 l1 l2 i13 i14 i15 i16 i17 i18 l19 l20 i21 i22 i23 i24 i25 i26 n27 n28 n29 i30 i31=>ye9 a0 a1 a2 (yzK Q) n l0 l1 l2 l3 n4 n5 n6 l9 i10 l11 l12 i13 i14 i15 i16 i17 i18 l19 l20 i21 i22 i23 i24 i25 i26 n27 n28 n29 i30 i31⟩]
def pt60:Pat Frm:=fV 0 vY (fV 1 pt51 (fV 2 pt52 (fV 4 pt53 (fX 6 pt6 fN))))
def yr2 (a0:ych) (a1:yab) (a2:ybs) (Q:Qx):List St:=[⟨(pS pt50 pt60 pt54),fun n l2 n3 n4 n5 l6 i7 l0 l8 l9 l1 n10 n11 n12 i13 i14=>yei a0 a1 a2 (yzL Q) (yzM Q) (yzN Q) (yp3 Q) (yp4 Q) (yp5 Q) n l0 l1 l2 n3 n4 n5 l6 i7 l8 l9 n10 n11 n12 i13 i14⟩,⟨(pS (hB false true 1 pt28 (hB false false 1 pt48 (hB false false 1 pt55 (hB false true 1 pt28 (hB false true 1 pt17 (hB false true 1 rA (hB false true 2 pt44 (hB false false 1 pt49 (hB false true 1 rA (hB false true 6 rN (hB false true 2 rN (hB false true 6 rN (hB false true 6 rA hN))))))))))))) pt60 pt54),fun n l3 n4 n5 n6 l9 i10 l0 l11 l12 l1 l2 n13 n14 n15 i16 i17=>yeh a0 a1 a2 (yp3 Q) (yp4 Q) (yp5 Q) n l0 l1 l2 l3 n4 n5 n6 l9 i10 l11 l12 n13 n14 n15 i16 i17⟩]
def yfj (a0:ych) (a1:yab) (a2:ybs):LP:=lpS [(82399400,yrZ a0 a1 a2),(91326000,yr0 a0 a1 a2),(55401000,yr1 a0 a1 a2),(82399401,yr2 a0 a1 a2)]
def yiS (e:Es) (a0:ych) (a1:yab) (a2:ybs):SE:=⟨(E e),yeB [(yhX,yFN.pw a0),(ydL,yis.pw a1)],yeC [(yio,yrB),(yaO,ytN),(ybr,ykT)],yfj a0 a1 a2,yyW [(yfl,yix a2)]⟩
def yiT (e:Es) (a0:ych) (a1:yab) (a2:ybs):SE:=⟨(E e),yeB [(yhX,yFN.pw a0),(ydL,yis.pw a1)],yeC [(yio,yrB),(yaO,ytN),(ydN,ync),(yfL,yoF),(ybr,ykT)],yfj a0 a1 a2,yyW [(yfl,yix a2)]⟩
theorem yjz (e:Es) (he:EG e):SEOk (Uni (E e)) (yiS e ybG yaQ ybb):=yFq (Sub.uni _) ⟨(ywH e he),(ylL e he),trivial⟩ ⟨⟨by kernel_rfl,by kernel_rfl,rfl,fun as=>yax (by kernel_rfl) as,he.num _ (by kernel_rfl),by kernel_rfl,(yai (by kernel_rfl))⟩,⟨by kernel_rfl,by kernel_rfl,rfl,fun as=>yax (by kernel_rfl) as,he.num _ (by kernel_rfl),by kernel_rfl,(yai (by kernel_rfl))⟩,⟨by kernel_rfl,by kernel_rfl,rfl,fun as=>yax (by kernel_rfl) as,he.num _ (by kernel_rfl),by kernel_rfl,(yai (by kernel_rfl))⟩,trivial⟩ he.ok ⟨(yrY e he),trivial⟩
theorem yxw (e:Es) (a0 a1 a2):ycp (yiS e a0 a1 a2) 5 (fun G=>WYk (E e) (yhO (yiS e a0 a1 a2) 5) (yfj a0 a1 a2) G [25,26] ydS ydT) ynd true (yrZ a0 a1 a2):=fun _=>⟨fun _=>by kernel_rfl,fun _ _=>by kernel_rfl,trivial⟩
theorem yxx (e:Es) (he:EG e) (G:Frm):LpT (Rng (E e) G [25,26] (erase ydS) (erase ydT)) (yfj ybG yaQ ybb) G 82399400 (.lG 82399400 ynd):=fun _ _ _=>yok.stG (P:=(Rng (E e) G [25,26] (erase ydS) (erase ydT))) (Sub.rng _ _ _ _ _) ((yaD (yjz e he) 5).sub (Sub.rng _ _ _ _ _)) (yLb (as:=ydS) (bd:=ydT) (yaD (yjz e he) 5) (by kernel_rfl) (by kernel_rfl) (yai (by kernel_rfl)) (yai (by kernel_rfl))) (yai (by kernel_rfl)) (yxw e _ _ _ _)
theorem yxy (e:Es) (a0 a1 a2):ycp (yiS e a0 a1 a2) 5 a yna false (yr0 a0 a1 a2):=fun _=>⟨fun _=>by kernel_rfl,fun _ _=>by kernel_rfl,fun _=>by kernel_rfl,fun _ _=>by kernel_rfl,trivial⟩
theorem yxz (e:Es) (he:EG e):LpT (Uni (E e)) (yfj ybG yaQ ybb) [] 91326000 (.loop 91326000 yna):=fun _ _ _=>yok.st (Sub.uni _) (yaD (yjz e he) 5) (YOk.no _ _) (yai (by kernel_rfl)) (yxy e _ _ _ _)
theorem yxA (e:Es) (a0 a1 a2):ycp (yiS e a0 a1 a2) 5 a ynb false (yr1 a0 a1 a2):=fun _=>⟨fun _=>by kernel_rfl,fun _ _=>by kernel_rfl,fun _=>by kernel_rfl,fun _ _=>by kernel_rfl,trivial⟩
theorem yxB (e:Es) (he:EG e):LpT (Uni (E e)) (yfj ybG yaQ ybb) [] 55401000 (.loop 55401000 ynb):=fun _ _ _=>yok.st (Sub.uni _) (yaD (yjz e he) 5) (YOk.no _ _) (yai (by kernel_rfl)) (yxA e _ _ _ _)
theorem yjA (e:Es) (he:EG e):SEOk (Uni (E e)) (yiT e ybG yaQ ybb):=yFq (Sub.uni _) ⟨(ywH e he),(ylL e he),trivial⟩ ⟨⟨by kernel_rfl,by kernel_rfl,rfl,fun as=>yax (by kernel_rfl) as,he.num _ (by kernel_rfl),by kernel_rfl,(yai (by kernel_rfl))⟩,⟨by kernel_rfl,by kernel_rfl,rfl,fun as=>yax (by kernel_rfl) as,he.num _ (by kernel_rfl),by kernel_rfl,(yai (by kernel_rfl))⟩,⟨by kernel_rfl,by kernel_rfl,rfl,fun as=>yax (by kernel_rfl) as,he.num _ (by kernel_rfl),by kernel_rfl,(ybe (l:=[(55401000,.loop 55401000 ynb)]) ⟨yxB e he,trivial⟩ (by kernel_rfl))⟩,⟨by kernel_rfl,by kernel_rfl,rfl,fun as=>yax (by kernel_rfl) as,he.num _ (by kernel_rfl),by kernel_rfl,(ybe (l:=[(91326000,.loop 91326000 yna)]) ⟨yxz e he,trivial⟩ (by kernel_rfl))⟩,⟨by kernel_rfl,by kernel_rfl,rfl,fun as=>yax (by kernel_rfl) as,he.num _ (by kernel_rfl),by kernel_rfl,(yai (by kernel_rfl))⟩,trivial⟩ he.ok ⟨(yrY e he),trivial⟩
theorem yxC (e:Es) (a0 a1 a2):ycp (yiT e a0 a1 a2) 5 (fun G=>WYk (E e) (yhO (yiT e a0 a1 a2) 5) (yfj a0 a1 a2) G [25,26] ydS ydT) yne true (yr2 a0 a1 a2):=fun _=>⟨fun _=>by kernel_rfl,fun _ _=>by kernel_rfl,fun _=>by kernel_rfl,fun _ _=>by kernel_rfl,trivial⟩
theorem yxD (e:Es) (he:EG e) (G:Frm):LpT (Rng (E e) G [25,26] (erase ydS) (erase ydT)) (yfj ybG yaQ ybb) G 82399401 (.lG 82399401 yne):=fun _ _ _=>yok.stG (P:=(Rng (E e) G [25,26] (erase ydS) (erase ydT))) (Sub.rng _ _ _ _ _) ((yaD (yjA e he) 5).sub (Sub.rng _ _ _ _ _)) (yLb (as:=ydS) (bd:=ydT) (yaD (yjA e he) 5) (by kernel_rfl) (by kernel_rfl) (yai (by kernel_rfl)) (yai (by kernel_rfl))) (yai (by kernel_rfl)) (yxC e _ _ _ _)
theorem yFT (e:Es) (a0 a1 a2):EqW (yiT e a0 a1 a2) 6 yHv yFS (yk4 a0 a1 a2):=fun _ _=>by kernel_rfl
theorem yp6 (e:Es) (he:EG e):OkS (E e) (yFS.pw yfw) ygO:=okU he (yFT e _ _ _) (SEOk.solo (S:=(yiT e ybG yaQ ybb)) (yjA e he)) (yj6.one ((yjA e he)) 6) (yLc (r:=yFJ) (l:=[]) trivial (by kernel_rfl) (by kernel_rfl) (yJL (f:=yep) (by kernel_rfl) (by kernel_rfl) (by kernel_rfl) (by kernel_rfl) (fun G=>(ybe (l:=[(82399400,.lG 82399400 ynd),(82399401,.lG 82399401 yne)]) ⟨yxx e he G,yxD e he G,trivial⟩ (by kernel_rfl))) (yai (by kernel_rfl)) (yai (by kernel_rfl))))
def ylP (p0:Int) (K:Int→Int→Prop):Prop :=
 (jn (fun (a:Bool→Prop) =>
 (cbr (decide (p0<(1:Int)))
 (a true)
 (a (decide (p0>(6:Int))))))
 (fun b=>(cbr b
 (K (0:Int) (2:Int))
 (lt (IntKind.i64.wrap (p0*p0)) (fun c =>
 (lt (IntKind.i64.wrap (c-(1:Int))) (fun d =>
 (K d (0:Int)))))))))
def yhG:yab:=ylP
def yBk:Sg:=⟨pt1,Int→Int→Prop,fun K=>(fun r0 r1=>K (.tup [(.int .i64 r0),(.int .i64 r1)]))⟩
def yBl (e:Es):SE:=sE (E e) [] lp0
theorem yBm (e:Es):EqW (yBl e) 6 yDq yBk ylP:=fun _ _=>by kernel_rfl
theorem yr3 (e:Es) (he:EG e):OkF (E e) (yBk.pw yhG) yfm:=okU he (yBm e) (yaw (Sub.uni _) trivial trivial he.ok) yj6.flat (yai (by kernel_rfl))
set_option linter.unusedVariables false
theorem yn4 (p0:Ls) (r0:Ls) (r1:Ls) (r2:Ls) (r3:Int) (h:∀ K:Ls→Ls→Ls→Int→Prop,K r0 r1 r2 r3→yfw p0 K) (K:Ls→Ls→Ls→Int→Prop):yfw p0 K=K r0 r1 r2 r3 :=
 propext ⟨fun k=>detS (yp6 [] ybm) (as:=[(.data p0)]) (x:=(.tup [(.agg [(.data r0)]),(.data r1),(.data r2),(.int .i64 r3)])) (fun K' k'=>h (fun r0 r1 r2 r3=>K' (.tup [(.agg [(.data r0)]),(.data r1),(.data r2),(.int .i64 r3)])) k') (K:=fun x=>match x with | (.tup [(.agg [(.data r0)]),(.data r1),(.data r2),(.int .i64 r3)])=>K r0 r1 r2 r3 | _=>False) k,h K⟩
def ys9 (a0:yde) (a1:yaV) (p0:Ls) (K:Bool→Prop):Prop :=
 (jn (fun (a:Bool→Prop) =>
 (a0 p0 (fun b =>
 (cbr (!b)
 (a1 p0 ([]:Ls) (fun c =>
 (a (c ==(0:Int)))))
 (a false)))))
 (fun d=>(K d)))
def yqG:yde:=ys9 yd5 yg8
def yHN (e:Es) (a0:yde) (a1:yaV):SE:=sE (E e) [(ye1,yhC.pw a0),(yiG,yud.pw a1)] lp0
theorem yHO (e:Es) (a0 a1):EqW (yHN e a0 a1) 6 yJS yhC (ys9 a0 a1):=fun _ _=>by kernel_rfl
theorem yHP (e:Es) (he:EG e):OkF (E e) (yhC.pw yqG) ymf:=okU he (yHO e _ _) (yaw (Sub.uni _) ⟨(ykY e he),(yup e he),trivial⟩ trivial he.ok) yj6.flat (yai (by kernel_rfl))
abbrev yp7:Type:=(Ls→Prop)→Prop
def yuG (K:Ls→Prop):Prop :=
 (K ([(.agg [(.int .i64 (6:Int)),(.data ([(.int .i64 (0:Int)),(.int .i64 (6:Int))]:Ls)),(.data ([(.int .i64 (1:Int))]:Ls))]),(.agg [(.int .i64 (6:Int)),(.data ([(.int .i64 (0:Int)),(.int .i64 (4:Int)),(.int .i64 (6:Int))]:Ls)),(.data ([(.int .i64 (1:Int)),(.int .i64 (4:Int))]:Ls))]),(.agg [(.int .i64 (6:Int)),(.data ([(.int .i64 (0:Int)),(.int .i64 (2:Int)),(.int .i64 (6:Int))]:Ls)),(.data ([(.int .i64 (2:Int)),(.int .i64 (0:Int))]:Ls))])]:Ls))
def yp8:yp7:=yuG
def yD2:Sg:=⟨lN,Ls→Prop,fun K=>(fun r0=>K (.data r0))⟩
def yD3 (e:Es):SE:=sE (E e) [] lp0
theorem yD4 (e:Es):EqW (yD3 e) 6 yFv yD2 yuG:=fun _ _=>by kernel_rfl
theorem yD5 (e:Es) (he:EG e):OkF (E e) (yD2.pw yp8) yiH:=okU he (yD4 e) (yaw (Sub.uni _) trivial trivial he.ok) yj6.flat (yai (by kernel_rfl))
abbrev yp9:Type:=(Bool→Prop)→Prop
def yn5 (a0:yp7) (a1:ykB) (a2:yab) (a3:yab) (a4:yaa) (K:Bool→Prop):Prop :=
 (a0  (fun b =>
 (a1 b (fun _ c d e =>
 (a2 (3:Int) (fun f g =>
 (a3 (0:Int) (fun h i =>
 (a3 (6:Int) (fun j k =>
 (jn (fun (a:Bool→Prop) =>
 (cbr (e ==(0:Int))
 (a4 c ([(.agg [(.int .i64 (2:Int)),(.int .i64 h),(.int .i64 i),(.int .i64 (2:Int)),(.int .i64 (3:Int)),(.int .i64 (1:Int))]),(.agg [(.int .i64 (0:Int)),(.int .i64 (2:Int)),(.int .i64 (3:Int)),(.int .i64 (8:Int)),(.int .i64 (3:Int)),(.int .i64 (0:Int))]),(.agg [(.int .i64 (1:Int)),(.int .i64 (8:Int)),(.int .i64 (3:Int)),(.int .i64 j),(.int .i64 k),(.int .i64 (0:Int))])]:Ls) (fun l =>
 (cbr l
 (cbr ((((List.length d):Nat):Int) ==(6:Int))
 (cbr (g ==(0:Int))
 (a (f ==(8:Int)))
 (a false))
 (a false))
 (a false))))
 (a false)))
 (fun m=>(K m)))))))))))))
def yiU:yp9:=yn5 yp8 yfw yhG yzw yex
def yD6:Sg:=⟨lN,Bool→Prop,fun K=>(fun r0=>K (.bool r0))⟩
def yD7 (e:Es) (a0:yp7) (a1:ykB) (a2:yab) (a3:yab) (a4:yaa):SE:=sE (E e) [(yiH,yD2.pw a0),(ygO,yFS.pw a1),(yfm,yBk.pw a2),(ymh,yis.pw a3),(yfB,ydb.pw a4)] lp0
theorem yD8 (e:Es) (a0 a1 a2 a3 a4):EqW (yD7 e a0 a1 a2 a3 a4) 6 yFK yD6 (yn5 a0 a1 a2 a3 a4):=fun _ _=>by kernel_rfl
theorem yD9 (e:Es) (he:EG e):OkS (E e) (yD6.pw yiU) yg4:=okU he (yD8 e _ _ _ _ _) (yaw (Sub.solo _) ⟨(OkF.solo (yD5 e he)),(yp6 e he),(OkF.solo (yr3 e he)),(OkF.solo (yJZ e he)),(OkF.solo (ymt e he)),trivial⟩ trivial he.ok) yj6.flat (yai (by kernel_rfl))
def yje (a0:yde) (a1:yp9) (a2:ykB) (a3:yab) (a4:ynM) (a5:ynZ) (a6:ykx) (p0:Ls) (K:Bool→Prop):Prop :=
 (a0 p0 (fun e =>
 (cbr (!e)
 (a1  (fun f =>
 (K f)))
 (a2 p0 (fun d _ b g =>
 (a3 (((List.length p0):Nat):Int) (fun h i =>
 (a4 p0 b (fun j k =>
 (a5 p0 d (fun _ l m =>
 (jn (fun (a:Bool→Prop) =>
 (cbr (g !=(0:Int))
 (a true)
 (cbr (i !=(0:Int))
 (a true)
 (cbr (k !=(0:Int))
 (a true)
 (cbr (j !=(((List.length b):Nat):Int))
 (a true)
 (cbr (decide ((((List.length b):Nat):Int)>h))
 (a true)
 (a (m !=(0:Int)))))))))
 (fun n=>(cbr n
 (K false)
 (a6 p0 d (19:Int) l (fun o p =>
 (jn (fun (c:Bool→Prop) =>
 (cbr (p ==(0:Int))
 (cbr o
 (a1  (fun q =>
 (c q)))
 (c false))
 (c false)))
 (fun r=>(K r)))))))))))))))))))
def yhH:yde:=yje yqG yiU yfw yhG ygn yfv yeg
def yxE (a0:yde) (a1:yp9) (a2:ykB) (a3:yab) (a4:ynM) (a5:ynZ) (a6:ykx):SE:=sE (E ef0) [(ymf,yhC.pw a0),(yg4,yD6.pw a1),(ygO,yFS.pw a2),(yfm,yBk.pw a3),(yhq,yA3.pw a4),(yhr,yBb.pw a5),(yf3,yxr.pw a6)] lp0
theorem yxF (a0 a1 a2 a3 a4 a5 a6):EqW (yxE a0 a1 a2 a3 a4 a5 a6) 6 yy6 yhC (yje a0 a1 a2 a3 a4 a5 a6):=fun _ _=>by kernel_rfl
theorem yxG:OkS (E ef0) (yhC.pw yhH) yj8:=okU ycJ (yxF _ _ _ _ _ _ _) (yaw (Sub.solo _) ⟨(OkF.solo (yHP ef0 ycJ)),(yD9 ef0 ycJ),(yp6 ef0 ycJ),(OkF.solo (yr3 ef0 ycJ)),(OkF.solo (yrR ef0 ycJ)),(OkF.solo yrU),(OkF.solo yoz),trivial⟩ trivial ycJ.ok) yj6.flat (yai (by kernel_rfl))
def I64 (n:Int):Prop:=-9223372036854775808≤n∧n≤9223372036854775807
def U64 (n:Int):Prop:=0≤n∧n≤18446744073709551615
theorem ywK (n:Int):IntKind.u64.wrap n=n % 18446744073709551616:=by
 simp only [IntKind.wrap,IntKind.signed,IntKind.bits,qBm,qAs,if_false]
 rfl
theorem yOR (n:Int):IntKind.i64.wrap n=if n % 18446744073709551616≥9223372036854775808 then n % 18446744073709551616-18446744073709551616 else n % 18446744073709551616:=by
 have e1:(2:Int) ^ 64=18446744073709551616:=rfl
 have e2:(2:Int) ^ (64-1)=9223372036854775808:=rfl
 simp only [IntKind.wrap,IntKind.signed,IntKind.bits,qA7,e1,e2]
 by_cases h:n % 18446744073709551616≥9223372036854775808 <;> simp [h]
theorem wu64 {n:Int} (h:U64 n):IntKind.u64.wrap n=n:=by
 unfold U64 at h
 rw [ywK]
 omega
theorem wi64 {n:Int} (h:I64 n):IntKind.i64.wrap n=n:=by
 unfold I64 at h
 rw [yOR]
 split <;> omega
theorem yam {x y:Prop}:cbr true x y=x:=rfl
theorem yae {x y:Prop}:cbr false x y=y:=rfl
theorem yau {x:Prop}:asr true x=x:=rfl
theorem yiy {p:Int} (h:I64 p) (K:Int→Prop):yeI p K=K (p.natAbs:Int):=by
 unfold I64 at h
 unfold yeI ylh
 by_cases hp:p<0
 ·have e:IntKind.u64.wrap ((0:Int)-IntKind.u64.wrap p)=(p.natAbs:Int):=by
   rw [ywK,ywK]
   omega
  rw [decide_eq_true hp,yam,e]
 ·rw [decide_eq_false hp,yae,wu64 ⟨by omega,by omega⟩]
  congr 1
  omega
theorem yFU (x:Int→Int→Bool→Prop):∀ (n a b:Nat),b<n→yfC x n (a:Int) (b:Int)=x ((Nat.gcd a b:Nat):Int) 0 false
 | 0,a,b,h=>by omega
 | n+1,a,b,h=>by
  unfold yfC
  by_cases hb:b=0
  ·subst hb
   simp [cbr]
  ·have h1:(b:Int)>0:=by omega
   have h2:¬((b:Int)=0):=by omega
   rw [decide_eq_true h1,yam,decide_eq_false h2,qBt,yau]
   have e:Int.tmod (a:Int) (b:Int)=((a % b:Nat):Int):=by rw [Int.tmod_eq_emod_of_nonneg (by omega)];omega
   rw [e,yFU x n b (a % b) (by have:=Nat.mod_lt a (show b>0 by omega);omega)]
   rw [Nat.gcd_comm a b,Nat.gcd_rec b a,Nat.gcd_comm]
theorem ywb (a b:Nat) (K:Int→Prop) (h:K ((Nat.gcd a b:Nat):Int)):ycZ (a:Int) (b:Int) K:=by
 unfold ycZ yns
 exact ⟨b+1,by rw [yFU _ (b+1) a b (by omega)];exact h⟩
def RV (n d:Int):Prop:=1≤d∧d≤1000000000000000000∧-1000000000000000000≤n∧n≤1000000000000000000∧Nat.gcd n.natAbs d.natAbs=1
instance (n d:Int):Decidable (RV n d):=by unfold RV;infer_instance
def chk (n d:Int):Int:=if RV n d then 0 else 8
theorem yzO {n d:Int} (hn:I64 n) (hd:I64 d) {K:Int→Prop} (h:K (chk n d)):ybM n d K:=by
 unfold ybM ykb
 by_cases h1:d<1
 ·have e:chk n d=8:=if_neg fun h=>by have:=h.1;omega
  rw [decide_eq_true h1,yam,← e];exact h
 ·have hd':=hd;have hn':=hn
  unfold I64 at hd' hn'
  have ed:IntKind.u64.wrap d=((d.natAbs:Nat):Int):=by rw [wu64 ⟨by omega,by omega⟩];omega
  rw [decide_eq_false h1,yae,yiy hn,ed]
  by_cases h2:((if ((d.natAbs:Nat):Int)>((n.natAbs:Nat):Int) then ((d.natAbs:Nat):Int) else ((n.natAbs:Nat):Int))>1000000000000000000)
  ·have e:chk n d=8:=if_neg fun h=>by
    obtain ⟨a1,a2,a3,a4,_⟩:=h
    revert h2;split <;> omega
   rw [decide_eq_true h2,yam,← e];exact h
  ·rw [decide_eq_false h2,yae,yiy hn]
   refine ywb _ _ _ ?_
   have h3:0<Nat.gcd n.natAbs d.natAbs:=qB4 _ (by omega)
   have h4:d≤1000000000000000000∧-1000000000000000000≤n∧n≤1000000000000000000:=by
    revert h2;split <;> omega
   by_cases h5:((Nat.gcd n.natAbs d.natAbs:Nat):Int)>1
   ·have e:chk n d=8:=if_neg fun h=>by have:=h.2.2.2.2;omega
    rw [decide_eq_true h5,yam,← e];exact h
   ·have e:chk n d=0:=if_pos ⟨by omega,h4.1,h4.2.1,h4.2.2,by omega⟩
    rw [decide_eq_false h5,yae,← e];exact h
theorem yzP {p:Int} (h:U64 p):IntKind.u64.wrap (BitVec.ofInt IntKind.u64.bits p&&&BitVec.ofInt IntKind.u64.bits (4294967295:Int)).toNat=p % 4294967296:=by
 unfold U64 at h
 have e1:(BitVec.ofInt 64 p).toNat=p.toNat:=by
  rw [BitVec.toNat_ofInt];omega
 have e2:(BitVec.ofInt 64 (4294967295:Int)).toNat=4294967295:=rfl
 have e3:(BitVec.ofInt IntKind.u64.bits p&&&BitVec.ofInt IntKind.u64.bits (4294967295:Int)).toNat=p.toNat % 4294967296:=by
  show (BitVec.ofInt 64 p&&&BitVec.ofInt 64 (4294967295:Int)).toNat=_
  rw [BitVec.toNat_and,e1,e2]
  exact Nat.and_two_pow_sub_one_eq_mod p.toNat 32
 rw [e3,ywK]
 omega
theorem yOk (p:Int):Int.fdiv p 4294967296=p / 4294967296:=by
 rw [Int.fdiv_eq_ediv_of_nonneg _ (by omega)]
theorem ykC {a b:Int} (ha:U64 a) (hb:U64 b) (K:Int→Int→Prop):ygl a b K=K (a*b / 18446744073709551616) (a*b % 18446744073709551616):=by
 unfold ygl ysG
 simp only [yOk]
 rw [yzP ha,yzP hb]
 unfold U64 at ha hb
 have ha':=ha;have hb':=hb
 obtain ⟨x1,hx1⟩:∃ x,x=a / 4294967296:=⟨_,rfl⟩
 obtain ⟨x0,hx0⟩:∃ x,x=a % 4294967296:=⟨_,rfl⟩
 obtain ⟨y1,hy1⟩:∃ x,x=b / 4294967296:=⟨_,rfl⟩
 obtain ⟨y0,hy0⟩:∃ x,x=b % 4294967296:=⟨_,rfl⟩
 rw [← hx1,← hx0,← hy1,← hy0]
 have b1:0≤x1∧x1≤4294967295:=by omega
 have b2:0≤x0∧x0≤4294967295:=by omega
 have b3:0≤y1∧y1≤4294967295:=by omega
 have b4:0≤y0∧y0≤4294967295:=by omega
 have pb:∀ x y:Int,0≤x∧x≤4294967295→0≤y∧y≤4294967295→0≤x*y∧x*y≤18446744065119617025:=by
  intro x y hx hy
  refine ⟨qBf hx.1 hy.1,?_⟩
  have:=qB9 hx.2 hy.2 hy.1 (by omega:(0:Int)≤4294967295)
  omega
 have p1:=pb x1 y1 b1 b3
 have p2:=pb x1 y0 b1 b4
 have p3:=pb x0 y1 b2 b3
 have p4:=pb x0 y0 b2 b4
 have ea:a=x1*4294967296+x0:=by omega
 have eb:b=y1*4294967296+y0:=by omega
 have eab:a*b=x1*y1*18446744073709551616+x1*y0*4294967296+x0*y1*4294967296+x0*y0:=by
  rw [ea,eb];grind
 obtain ⟨P,hP⟩:∃ x,x=x1*y1:=⟨_,rfl⟩
 obtain ⟨Q,hQ⟩:∃ x,x=x1*y0:=⟨_,rfl⟩
 obtain ⟨R,hR⟩:∃ x,x=x0*y1:=⟨_,rfl⟩
 obtain ⟨S,hS⟩:∃ x,x=x0*y0:=⟨_,rfl⟩
 rw [← hP] at p1;rw [← hQ] at p2;rw [← hR] at p3;rw [← hS] at p4
 rw [← hP,← hQ,← hR,← hS] at eab ⊢
 have w1:IntKind.u64.wrap S=S:=wu64 ⟨by omega,by omega⟩
 have w2:IntKind.u64.wrap Q=Q:=wu64 ⟨by omega,by omega⟩
 have w3:IntKind.u64.wrap R=R:=wu64 ⟨by omega,by omega⟩
 have w4:IntKind.u64.wrap P=P:=wu64 ⟨by omega,by omega⟩
 rw [w1,w2,w3,w4]
 have w5:IntKind.u64.wrap (Q+S / 4294967296)=Q+S / 4294967296:=wu64 ⟨by omega,by omega⟩
 rw [w5,yzP ⟨by omega,by omega⟩]
 have w6:IntKind.u64.wrap ((Q+S / 4294967296) % 4294967296+R)=(Q+S / 4294967296) % 4294967296+R:=wu64 ⟨by omega,by omega⟩
 rw [w6]
 have w7:IntKind.u64.wrap (P+(Q+S / 4294967296) / 4294967296)=P+(Q+S / 4294967296) / 4294967296:=by
  have:a*b / 18446744073709551616≤18446744073709551615:=by
   have h1:a*b≤18446744073709551615*18446744073709551615:=by
    have:=qB9 ha'.2 hb'.2 hb'.1 (by omega:(0:Int)≤18446744073709551615)
    exact this
   omega
  exact wu64 ⟨by omega,by omega⟩
 rw [w7]
 have hab:a*b≤18446744073709551615*18446744073709551615:=qB9 ha'.2 hb'.2 hb'.1 (by omega:(0:Int)≤18446744073709551615)
 rw [eab] at hab ⊢
 rw [ywK,ywK]
 congr 1
 omega
theorem yOl {a b:Int} {K:Int→Prop} (h:K (if a=0 then b else a)):yfn [.int .i64 a,.int .i64 b] K:=by
 unfold yfn ygu
 refine ⟨3,?_⟩
 have e1:IntKind.i64.wrap 1=1:=by decide
 have e2:IntKind.i64.wrap 2=2:=by decide
 by_cases ha:a=0
 ·by_cases hb:b=0
  ·simp [ycc,yam,yae,yau,conf,yhl,yac,e1,e2,ha,hb] at h ⊢;exact h
  ·have e3:(b != 0)=true:=by simpa using hb
   simp [ycc,yam,yae,yau,conf,yhl,yac,e1,e2,ha,e3] at h ⊢;exact h
 ·have e3:(a != 0)=true:=by simpa using ha
  simp [ycc,yam,yae,yau,conf,yhl,yac,e1,e2,ha,e3] at h ⊢;exact h
def chk2 (a b c d:Int):Int:=if chk a b=0 then chk c d else chk a b
theorem yqa {a b c d:Int} (ha:I64 a) (hb:I64 b) (hc:I64 c) (hd:I64 d) {K:Int→Prop} (h:K (chk2 a b c d)):ydU a b c d K:=by
 unfold ydU ykc
 exact yzO ha hb (yzO hc hd (yOl h))
def cmp3 (a b:Int):Int:=if a<b then -1 else if a>b then 1 else 0
theorem yEa (a b:Int) (K:Int→Prop):yeX a b K=K (cmp3 a b):=by
 unfold yeX yf7
 simp only [yhx,ygR,bne_self_eq_false,yae,cmp3]
 by_cases h:a<b
 ·simp [h,yam]
 ·by_cases h2:a>b
  ·simp [h,h2,yam,yae]
  ·simp [h,h2,yae]
theorem yuH (a b:Int) (K:Int→Prop):yeJ a b K=K (cmp3 a b):=by
 unfold yeJ yfM
 simp only [ygS,ygw,bne_self_eq_false,yae,cmp3]
 by_cases h:a<b
 ·simp [h,yam]
 ·by_cases h2:a>b
  ·simp [h,h2,yam,yae]
  ·simp [h,h2,yae]
theorem yM3 {a b:Int} {K:Int→Prop} (h:K (if a=0 then b else a)):yjt [.int .i64 a,.int .i64 b] K:=by
 unfold yjt ylj
 refine ⟨3,?_⟩
 have e1:IntKind.i64.wrap 1=1:=by decide
 have e2:IntKind.i64.wrap 2=2:=by decide
 by_cases ha:a=0
 ·by_cases hb:b=0
  ·simp [yd0,yam,yae,yau,conf,yhl,yac,e1,e2,ha,hb] at h ⊢;exact h
  ·have e3:(b != 0)=true:=by simpa using hb
   simp [yd0,yam,yae,yau,conf,yhl,yac,e1,e2,ha,e3] at h ⊢;exact h
 ·have e3:(a != 0)=true:=by simpa using ha
  simp [yd0,yam,yae,yau,conf,yhl,yac,e1,e2,ha,e3] at h ⊢;exact h
theorem yey {a b c d:Int}:chk2 a b c d=0↔RV a b∧RV c d:=by
 unfold chk2 chk
 by_cases h1:RV a b <;> by_cases h2:RV c d <;> simp [h1,h2]
def cmpR (a b c d:Int):Int:=cmp3 (a*d) (c*b)
theorem yJ0 {x y:Int} (_:0≤x) (_:0≤y):(if cmp3 (x / 18446744073709551616) (y / 18446744073709551616)=0 then cmp3 (x % 18446744073709551616) (y % 18446744073709551616) else cmp3 (x / 18446744073709551616) (y / 18446744073709551616))=cmp3 x y:=by
 unfold cmp3
 split <;> rename_i h <;> revert h <;> repeat' split <;> intro h <;> omega
theorem U64.abs {n:Int} (h:I64 n):U64 ((n.natAbs:Nat):Int):=by unfold I64 at h;unfold U64;omega
theorem yLk {a b c d:Int} (ha:I64 a) (hb:I64 b) (hc:I64 c) (hd:I64 d) {K:Int→Int→Prop} (h:K (if chk2 a b c d=0 then cmpR a b c d else 0) (chk2 a b c d)):yc0 a b c d K:=by
 unfold yc0 ynw
 refine yqa ha hb hc hd ?_
 by_cases hk:chk2 a b c d=0
 ·rw [if_pos hk] at h
  rw [hk] at h ⊢
  obtain ⟨⟨b1,b2,a1,a2,_⟩,d1,d2,c1,c2,_⟩:=yey.1 hk
  simp only [bne_self_eq_false,yae]
  by_cases hs:decide (a<0)=decide (c<0)
  ·have e:(decide (a<0) != decide (c<0))=false:=by rw [hs];simp
   rw [e,yae,yiy ha,wu64 ⟨by omega,by omega⟩,ykC (U64.abs ha) ⟨by omega,by omega⟩,yiy hc,wu64 ⟨by omega,by omega⟩,ykC (U64.abs hc) ⟨by omega,by omega⟩,yuH,yuH]
   refine yM3 ?_
   have p1:0≤((a.natAbs:Nat):Int)*d:=qBf (by omega) (by omega)
   have p2:0≤((c.natAbs:Nat):Int)*b:=qBf (by omega) (by omega)
   rw [yJ0 p1 p2]
   by_cases hneg:a<0
   ·have hcn:c<0:=by simpa [hneg] using hs.symm
    rw [decide_eq_true hneg,yam]
    have e1:((a.natAbs:Nat):Int)*d=-(a*d):=by
     rw [show ((a.natAbs:Nat):Int)=-a by omega,Int.neg_mul]
    have e2:((c.natAbs:Nat):Int)*b=-(c*b):=by
     rw [show ((c.natAbs:Nat):Int)=-c by omega,Int.neg_mul]
    have e3:IntKind.i64.wrap (0-cmp3 (((a.natAbs:Nat):Int)*d) (((c.natAbs:Nat):Int)*b))=cmpR a b c d:=by
     rw [e1,e2]
     unfold cmpR cmp3
     rw [wi64 (by unfold I64;repeat' split <;> omega)]
     repeat' split <;> omega
    rw [e3];exact h
   ·have hcn:¬c<0:=by simpa [hneg] using hs.symm
    rw [decide_eq_false hneg,yae,show ((a.natAbs:Nat):Int)=a by omega,show ((c.natAbs:Nat):Int)=c by omega]
    exact h
  ·have e:(decide (a<0) != decide (c<0))=true:=by simpa using hs
   rw [e,yam,yEa]
   have e2:cmp3 a c=cmpR a b c d:=by
    unfold cmpR cmp3
    by_cases hneg:a<0
    ·have hcn:¬c<0:=by intro hcn;simp [hneg,hcn] at hs
     have q1:a*d<0:=Int.mul_neg_of_neg_of_pos hneg (by omega)
     have q2:0≤c*b:=qBf (by omega) (by omega)
     rw [if_pos (by omega),if_pos (by omega)]
    ·have hcn:c<0:=by
      by_cases hcn:c<0
      ·exact hcn
      ·simp [hneg,hcn] at hs
     have q1:c*b<0:=Int.mul_neg_of_neg_of_pos hcn (by omega)
     have q2:0≤a*d:=qBf (by omega) (by omega)
     rw [if_neg (by omega),if_pos (by omega),if_neg (by omega),if_pos (by omega)]
   rw [e2];exact h
 ·rw [if_neg hk] at h
  have e:(chk2 a b c d != 0)=true:=by simpa using hk
  rw [e,yam];exact h
def blen (x:Nat):Nat:=if x=0 then 0 else x.log2+1
theorem yIJ (x:Nat):x<2 ^ blen x:=by
 unfold blen
 split
 ·rename_i h;subst h;decide
 ·exact Nat.lt_log2_self
theorem yxV {x:Nat} (h:x≠0):2 ^ (blen x-1)≤x:=by
 unfold blen
 rw [if_neg h]
 exact Nat.log2_self_le h
theorem yM4 {x m:Nat} (h1:2 ^ m≤x) (h2:x<2 ^ (m+1)):blen x=m+1:=by
 have hx:x≠0:=by have:=Nat.two_pow_pos m;omega
 unfold blen
 rw [if_neg hx]
 congr 1
 have a:=Nat.log2_self_le hx
 have b:=Nat.lt_log2_self (n:=x)
 have c1:¬(x.log2<m):=fun h=>by
  have:=Nat.pow_le_pow_right (show 0<2 by omega) (show x.log2+1≤m by omega)
  omega
 have c2:¬(m<x.log2):=fun h=>by
  have:=Nat.pow_le_pow_right (show 0<2 by omega) (show m+1≤x.log2 by omega)
  omega
 omega
theorem yLl {x k:Nat} (h:2 ^ k≤x):blen x=k+blen (x / 2 ^ k):=by
 have hp:=Nat.two_pow_pos k
 have hq:x / 2 ^ k≠0:=by
  have:=Nat.div_pos h hp
  omega
 have h1:=yxV hq
 have h2:=yIJ (x / 2 ^ k)
 obtain ⟨m,hm⟩:∃ m,blen (x / 2 ^ k)=m+1:=⟨blen (x / 2 ^ k)-1,by
  have:blen (x / 2 ^ k)≠0:=by unfold blen;rw [if_neg hq];omega
  omega⟩
 rw [hm] at h1 h2 ⊢
 rw [Nat.add_sub_cancel] at h1
 have:=yM4 (x:=x) (m:=k+m) (by
   rw [Nat.pow_add]
   calc 2 ^ k*2 ^ m≤2 ^ k*(x / 2 ^ k):=Nat.mul_le_mul_left _ h1
    _≤x:=Nat.mul_div_le _ _) (by
   rw [show k+m+1=k+(m+1) by omega,Nat.pow_add]
   rw [Nat.mul_comm]
   exact (Nat.div_lt_iff_lt_mul hp).1 h2)
 omega
theorem yOm:∀ x:Nat,x<256→yac (List.getD yhn x .nils)=(blen x:Int):=by decide +kernel
theorem wu8 {n:Int} (h0:0≤n) (h1:n<256):IntKind.u8.wrap n=n:=by
 have e1:(2:Int) ^ 8=256:=rfl
 simp only [IntKind.wrap,IntKind.signed,IntKind.bits,qBm,qAs,if_false,e1]
 omega
theorem yM5 {n:Int} (h0:0≤n) (h1:n<256):yac (List.getD yhn (IntKind.u8.wrap n).toNat .nils)=(blen n.toNat:Int):=by
 rw [wu8 h0 h1]
 exact yOm n.toNat (by omega)
theorem yOS {n:Nat} (h:n<256):blen n≤8:=by
 by_cases h0:n=0
 ·subst h0;decide
 ·have:=yxV h0
  have h2:blen n-1<8:=by
   refine Nat.lt_of_not_le fun hc=>?_
   have:=Nat.pow_le_pow_right (show 0<2 by omega) hc
   omega
  omega
theorem ywL {n k:Int} (h0:0≤n) (h1:n<256) (hk:0≤k∧k≤56) {m:Int} (hm:m=k+blen n.toNat) {K:Int→Prop} (h:K m) :
  asr (decide ((0:Int)≤(IntKind.u8.wrap n))) (asr (decide ((IntKind.u8.wrap n)<(256:Int))) (K (IntKind.i64.wrap (k+(IntKind.i64.wrap (yac (List.getD yhn ((IntKind.u8.wrap n).toNat) .nils))))))):=by
 have hb:=yOS (n:=n.toNat) (by omega)
 have e1:IntKind.i64.wrap (blen n.toNat:Int)=blen n.toNat:=wi64 (by unfold I64;omega)
 have e2:IntKind.i64.wrap (k+blen n.toNat:Int)=k+blen n.toNat:=wi64 (by unfold I64;omega)
 rw [yM5 h0 h1,wu8 h0 h1,decide_eq_true h0,yau,decide_eq_true h1,yau,e1,e2,← hm]
 exact h
theorem yzQ (p q:Int) (hq:0≤q):Int.fdiv p q=p / q:=Int.fdiv_eq_ediv_of_nonneg _ hq
theorem yLm {p:Int} (hp:U64 p) {K:Int→Prop} (h:K (blen p.toNat:Int)):yqF p K:=by
 unfold U64 at hp
 unfold yqF ysI
 simp only [yzQ _ 4294967296 (by omega),yzQ _ 65536 (by omega),yzQ _ 256 (by omega)]
 have key:∀ (k:Nat) (q:Int),2 ^ k≤p.toNat→q=p / (2 ^ k:Nat)→(blen p.toNat:Int)=k+blen q.toNat:=by
  intro k q hk hq
  have e:q.toNat=p.toNat / 2 ^ k:=by
   rw [hq]
   obtain ⟨m,rfl⟩:∃ m:Nat,p=m:=⟨p.toNat,by omega⟩
   rw [← qBx,qAe,qAe]
  rw [e]
  have:=yLl hk
  omega
 by_cases h1:p≥4294967296
 ·rw [decide_eq_true h1,yam]
  by_cases h2:p / 4294967296≥65536
  ·rw [decide_eq_true h2,yam]
   by_cases h3:p / 4294967296 / 65536≥256
   ·rw [decide_eq_true h3,yam]
    exact ywL (by omega) (by omega) (by omega) (key 56 _ (by omega) (by omega)) h
   ·rw [decide_eq_false h3,yae]
    exact ywL (by omega) (by omega) (by omega) (key 48 _ (by omega) (by omega)) h
  ·rw [decide_eq_false h2,yae]
   by_cases h3:p / 4294967296≥256
   ·rw [decide_eq_true h3,yam]
    exact ywL (by omega) (by omega) (by omega) (key 40 _ (by omega) (by omega)) h
   ·rw [decide_eq_false h3,yae]
    exact ywL (by omega) (by omega) (by omega) (key 32 _ (by omega) (by omega)) h
 ·rw [decide_eq_false h1,yae]
  by_cases h2:p≥65536
  ·rw [decide_eq_true h2,yam]
   by_cases h3:p / 65536≥256
   ·rw [decide_eq_true h3,yam]
    exact ywL (by omega) (by omega) (by omega) (key 24 _ (by omega) (by omega)) h
   ·rw [decide_eq_false h3,yae]
    exact ywL (by omega) (by omega) (by omega) (key 16 _ (by omega) (by omega)) h
  ·rw [decide_eq_false h2,yae]
   by_cases h3:p≥256
   ·rw [decide_eq_true h3,yam]
    exact ywL (by omega) (by omega) (by omega) (key 8 _ (by omega) (by omega)) h
   ·rw [decide_eq_false h3,yae]
    exact ywL (by omega) (by omega) (by omega) (by simp) h
theorem yuI {p:Int} (hp:U64 p) {K:Int→Prop} (h:K (64-blen p.toNat:Int)):ybV p K:=by
 unfold ybV ygx
 refine yLm hp ?_
 have hb:blen p.toNat≤64:=by
  unfold U64 at hp
  by_cases h0:p.toNat=0
  ·rw [h0];decide
  ·have:=yxV h0
   have h2:blen p.toNat-1<64:=by
    refine Nat.lt_of_not_le fun hc=>?_
    have:=Nat.pow_le_pow_right (show 0<2 by omega) hc
    omega
   omega
 rw [wi64 (by unfold I64;omega)]
 exact h
structure DI (y a b u un q r:Int):Prop where
 hy:y=a*4294967296+b
 h1:2147483648≤a∧a≤4294967295
 h0:0≤b∧b≤4294967295
 hn:0≤un∧un≤4294967295
 hu:q*a+r=u
 hq:0≤q∧q≤4294967297
 hr:0≤r∧r≤4294967295
 hlt:u<y
 hU:u*4294967296+un<(q+1)*y
def DG (y u un q:Int):Prop:=0≤q∧q≤4294967295∧q*y≤u*4294967296+un∧u*4294967296+un<(q+1)*y
theorem DI.step {y a b u un q r:Int} (h:DI y a b u un q r) {A B C:Prop}
  (hA:DG y u un (q-1)→0≤q-1→q-1≤4294967296→A)
  (hB:DI y a b u un (q-1) (r+a)→B)
  (hC:DG y u un q→C) :
  cbr (decide (q≥(4294967296:Int)))
   (cbr (decide ((IntKind.u64.wrap (r+a))≥(4294967296:Int))) A B)
   (cbr (decide ((IntKind.u64.wrap (q*b))>(IntKind.u64.wrap ((IntKind.u64.wrap ((4294967296:Int)*r))+un))))
    (cbr (decide ((IntKind.u64.wrap (r+a))≥(4294967296:Int))) A B) C):=by
 have h':=h
 obtain ⟨hy,h1,h0,hn,hu,hq,hr,hlt,hU⟩:=h
 have e1:IntKind.u64.wrap (r+a)=r+a:=wu64 ⟨by omega,by omega⟩
 have eq1:q*y=q*a*4294967296+q*b:=by rw [hy];grind
 have eq2:(q-1)*y=q*y-y:=by grind
 have eq3:(q-1)*a=q*a-a:=by grind
 have eq4:(q-1+1)*y=q*y:=by grind
 have eq5:(q-1)*b=q*b-b:=by grind
 have big:u*4294967296+un<q*y→cbr (decide ((IntKind.u64.wrap (r+a))≥(4294967296:Int))) A B:=by
  intro hb
  have q1:0≤q-1:=by
   refine Int.not_lt.1 fun hc=>?_
   have hq0:q=0:=by omega
   subst hq0
   simp at hb hu
   omega
  rw [e1]
  by_cases hc:r+a≥4294967296
  ·rw [decide_eq_true hc,yam]
   have hp:(q-1)*b≤4294967296*4294967295:=qB9 (by omega) h0.2 h0.1 (by omega)
   have hle:(q-1)*y≤u*4294967296+un:=by
    have:(q-1)*y=(q-1)*a*4294967296+(q-1)*b:=by rw [hy];grind
    omega
   have hlt32:q-1≤4294967295:=by
    refine Int.not_lt.1 fun hc=>?_
    have:4294967296*y≤(q-1)*y:=qAy (by omega) (by omega)
    omega
   exact hA ⟨q1,hlt32,hle,by rw [eq4];exact hb⟩ q1 (by omega)
  ·rw [decide_eq_false hc,yae]
   exact hB ⟨hy,h1,h0,hn,by rw [eq3];omega,⟨q1,by omega⟩,⟨by omega,by omega⟩,hlt,by rw [eq4];exact hb⟩
 by_cases ha:q≥4294967296
 ·rw [decide_eq_true ha,yam]
  refine big ?_
  have:4294967296*y≤q*y:=qAy (by omega) (by omega)
  omega
 ·rw [decide_eq_false ha,yae]
  have hp:q*b≤4294967295*4294967295:=qB9 (by omega) h0.2 h0.1 (by omega)
  have hp0:0≤q*b:=qBf hq.1 h0.1
  have w1:IntKind.u64.wrap (q*b)=q*b:=wu64 ⟨hp0,by omega⟩
  have w2:IntKind.u64.wrap ((4294967296:Int)*r)=4294967296*r:=wu64 ⟨by omega,by omega⟩
  have w3:IntKind.u64.wrap ((4294967296:Int)*r+un)=4294967296*r+un:=wu64 ⟨by omega,by omega⟩
  rw [w1,w2,w3]
  by_cases hb:q*b>4294967296*r+un
  ·rw [decide_eq_true hb,yam]
   exact big (by omega)
  ·rw [decide_eq_false hb,yae]
   exact hC ⟨hq.1,by omega,by omega,hU⟩
theorem yOT (W:Int→(Int→Prop)→Prop) {y a c u un:Int} (s v un0:Int) {x0 x1:Int→Int→Int→Int→Int→Int→Int→Int→Int→Bool→Prop}
  (hx:∀ q r b,DG y u un q→x0 y s a c v un un0 q r b) (hx1:∀ q r b,DG y u un q→x1 y s a c v un un0 q r b) :
  ∀ (n:Nat) (q r:Int) (b:Bool),DI y a c u un q r→4294967296≤r+n*2147483648→ydV W x0 x1 (n+1) y s a c v un un0 q r b:=by
 intro n
 induction n with
 | zero =>
  intro q r b h hn
  have:=h.hr.2
  exact absurd hn (by omega)
 | succ n ih =>
  intro q r b h hn
  unfold ydV
  refine h.step (fun g a1 a2=>?_) (fun g=>?_) (fun g=>hx1 _ _ _ g)
  ·rw [wu64 (n:=q-1) ⟨by omega,by omega⟩]
   exact hx _ _ _ g
  ·have e1:IntKind.u64.wrap (q-1)=q-1:=wu64 ⟨g.hq.1,by have:=g.hq.2;omega⟩
   have e2:IntKind.u64.wrap (r+a)=r+a:=wu64 ⟨g.hr.1,by have:=g.hr.2;omega⟩
   rw [e1,e2]
   exact ih _ _ _ g (by have:=h.h1.1;omega)
theorem yOU (W:Int→(Int→Prop)→Prop) {y a c u un:Int} (s q1 v:Int) {x0 x1:Int→Int→Int→Int→Int→Int→Int→Int→Int→Bool→Prop}
  (hx:∀ q r b,DG y u un q→x0 y s a c un q1 r v q b) (hx1:∀ q r b,DG y u un q→x1 y s a c un q1 r v q b) :
  ∀ (n:Nat) (q r:Int) (b:Bool),DI y a c u un q r→4294967296≤r+n*2147483648→ydW W x0 x1 (n+1) y s a c un q1 r v q b:=by
 intro n
 induction n with
 | zero =>
  intro q r b h hn
  have:=h.hr.2
  exact absurd hn (by omega)
 | succ n ih =>
  intro q r b h hn
  unfold ydW
  refine h.step (fun g a1 a2=>?_) (fun g=>?_) (fun g=>hx1 _ _ _ g)
  ·rw [wu64 (n:=q-1) ⟨by omega,by omega⟩]
   exact hx _ _ _ g
  ·have e1:IntKind.u64.wrap (q-1)=q-1:=wu64 ⟨g.hq.1,by have:=g.hq.2;omega⟩
   have e2:IntKind.u64.wrap (r+a)=r+a:=wu64 ⟨g.hr.1,by have:=g.hr.2;omega⟩
   rw [e1,e2]
   exact ih _ _ _ g (by have:=h.h1.1;omega)
theorem yOn (W:Int→(Int→Prop)→Prop) {y a c u un:Int} (s v un0:Int) {x0 x1:Int→Int→Int→Int→Int→Int→Int→Int→Int→Bool→Prop}
  (hx:∀ q r b,DG y u un q→x0 y s a c v un un0 q r b) (hx1:∀ q r b,DG y u un q→x1 y s a c v un un0 q r b) (q r:Int) (h:DI y a c u un q r):yiq W x0 x1 3 y s a c v un un0 q r:=by
 have:=yOT W s v un0 hx hx1 2 q r true h (by have:=h.hr.1;omega)
 unfold ydV at this
 unfold yiq
 exact this
theorem yOo (W:Int→(Int→Prop)→Prop) {y a c u un:Int} (s q1 v:Int) {x0 x1:Int→Int→Int→Int→Int→Int→Int→Int→Int→Bool→Prop}
  (hx:∀ q r b,DG y u un q→x0 y s a c un q1 r v q b) (hx1:∀ q r b,DG y u un q→x1 y s a c un q1 r v q b) (q r:Int) (h:DI y a c u un q r):yfI W x0 x1 3 y s a c un q1 r v q:=by
 have:=yOU W s q1 v hx hx1 2 q r true h (by have:=h.hr.1;omega)
 unfold ydW at this
 unfold yfI
 exact this
theorem DI.init {y a b u un:Int} (hy:y=a*4294967296+b) (h1:2147483648≤a∧a≤4294967295) (h0:0≤b∧b≤4294967295) (hn:0≤un∧un≤4294967295)
  (hu:0≤u) (hlt:u<y):DI y a b u un (u / a) (u-u / a*a):=by
 have a1:=Int.mul_ediv_add_emod u a
 have a2:=Int.emod_nonneg u (show a≠0 by omega)
 have a3:=Int.emod_lt_of_pos u (show 0<a by omega)
 have a4:u / a*a=a*(u / a):=Int.mul_comm _ _
 have a5:0≤u / a:=Int.ediv_nonneg hu (by omega)
 have a6:u / a≤4294967297:=by
  refine Int.not_lt.1 fun hc=>?_
  have:a*4294967298≤a*(u / a):=Int.mul_le_mul_of_nonneg_left (by omega) (by omega)
  omega
 refine ⟨hy,h1,h0,hn,by omega,⟨a5,a6⟩,⟨by omega,by omega⟩,hlt,?_⟩
 have e:(u / a+1)*y=a*(u / a)*4294967296+a*4294967296+(u / a+1)*b:=by
  obtain ⟨t,ht⟩:∃ t,t=u / a:=⟨_,rfl⟩
  rw [← ht,hy];grind
 have:0≤(u / a+1)*b:=qBf (by omega) h0.1
 omega
theorem yOV {a b:Int} {k:Nat} (ha:0≤a) (hb:0≤b∧b<2 ^ k) (hab:a*2 ^ k≤18446744073709551615∧b≤18446744073709551615) (hs:a*2 ^ k+b≤18446744073709551615) :
  IntKind.u64.wrap (BitVec.ofInt IntKind.u64.bits (a*2 ^ k)|||BitVec.ofInt IntKind.u64.bits b).toNat=a*2 ^ k+b:=by
 obtain ⟨x,rfl⟩:∃ x:Nat,a=x:=⟨a.toNat,by omega⟩
 obtain ⟨z,rfl⟩:∃ z:Nat,b=z:=⟨b.toNat,by omega⟩
 have ec:((x:Int)*2 ^ k)=((2 ^ k*x:Nat):Int):=by push_cast;exact Int.mul_comm _ _
 rw [ec] at hab hs ⊢
 have hz:z<2 ^ k:=by have:=hb.2;exact_mod_cast this
 have e:(BitVec.ofInt IntKind.u64.bits ((2 ^ k*x:Nat):Int)|||BitVec.ofInt IntKind.u64.bits (z:Int)).toNat=2 ^ k*x+z:=by
  show (BitVec.ofInt 64 ((2 ^ k*x:Nat):Int)|||BitVec.ofInt 64 (z:Int)).toNat=_
  rw [BitVec.toNat_or,BitVec.toNat_ofInt,BitVec.toNat_ofInt]
  have e1:(((2 ^ k*x:Nat):Int) % (2 ^ 64:Nat)).toNat=2 ^ k*x:=by omega
  have e2:((z:Int) % (2 ^ 64:Nat)).toNat=z:=by omega
  rw [e1,e2,Nat.two_pow_add_eq_or_of_lt hz]
 rw [e,wu64 ⟨by omega,by omega⟩]
 push_cast;rfl
theorem yIK {u un q y:Int} (h0:0≤u*4294967296+un-q*y) (h1:u*4294967296+un-q*y≤18446744073709551615) :
  IntKind.u64.wrap (IntKind.u64.wrap (IntKind.u64.wrap (u*4294967296)+un)-IntKind.u64.wrap (q*y))=u*4294967296+un-q*y:=by
 simp only [ywK]
 omega
theorem ymB {a b:Int} (h:0≤a):Int.tdiv a b=a / b:=Int.tdiv_eq_ediv_of_nonneg h
theorem yNO {a b:Int} (h:0≤a):Int.tmod a b=a % b:=Int.tmod_eq_emod_of_nonneg h
theorem yFV {h l y:Int} (hh:U64 h) (hl:U64 l) (hy:U64 y) (hlt:h<y) {K:Int→Int→Prop}
  (k:K ((h*18446744073709551616+l) / y) ((h*18446744073709551616+l) % y)):yg5 h l y K:=by
 unfold U64 at hh hl hy
 unfold yg5 ysJ
 have b1:(y ==(0:Int))=false:=beq_eq_false_iff_ne.2 (by omega)
 have b2:decide (y≤h)=false:=decide_eq_false (by omega)
 have b3:(!(decide (y=(0:Int))))=true:=by rw [decide_eq_false (by omega)];rfl
 rw [b1,yae,b2,yae,b3]
 by_cases h0:h=0
 ·subst h0
  have:((0:Int) == 0)=true:=rfl
  rw [this,yam,yau,yau,ymB hl.1,yNO hl.1]
  have e:(0:Int)*18446744073709551616+l=l:=by omega
  rw [e] at k
  have b4:l / y≤l:=Int.ediv_le_self _ hl.1
  rw [wu64 ⟨Int.ediv_nonneg hl.1 (by omega),by omega⟩]
  exact k
 ·have b4:(h ==(0:Int))=false:=beq_eq_false_iff_ne.2 h0
  rw [b4,yae]
  refine yuI ⟨by omega,by omega⟩ ?_
  have hyn:y.toNat≠0:=by omega
  have c1:=yIJ y.toNat
  have c2:=yxV hyn
  have c3:blen y.toNat≤64:=by
   refine Nat.le_of_not_lt fun hc=>?_
   have:=Nat.pow_le_pow_right (show 0<2 by omega) (show 64≤blen y.toNat-1 by omega)
   omega
  have c4:1≤blen y.toNat:=by
   refine Nat.le_of_not_lt fun hc=>?_
   have:blen y.toNat=0:=by omega
   rw [this] at c1
   omega
  obtain ⟨m,hm⟩:∃ m,m=64-blen y.toNat:=⟨_,rfl⟩
  have es:(64-(blen y.toNat:Int))=(m:Int):=by omega
  rw [es]
  have m63:m≤63:=by omega
  have e1:IntKind.u64.wrap (m:Int)=m:=wu64 ⟨by omega,by omega⟩
  have e2:IntKind.u64.wrap ((64:Int)-m)=((64-m:Nat):Int):=by
   rw [wu64 ⟨by omega,by omega⟩];omega
  have e3:min ((m:Int)).toNat IntKind.u64.bits=m:=by
   show min ((m:Int)).toNat 64=m
   rw [qAe];omega
  have e4:min (((64-m:Nat):Int)).toNat IntKind.u64.bits=64-m:=by
   show min (((64-m:Nat):Int)).toNat 64=64-m
   rw [qAe];omega
  simp only [e1]
  rw [e2,e3,e4]
  have p64:(2:Int) ^ (64-m)*2 ^ m=18446744073709551616:=by
   rw [← Int.pow_add,show 64-m+m=64 by omega];rfl
  have p63:(2:Int) ^ (63-m)*2 ^ m=9223372036854775808:=by
   rw [← Int.pow_add,show 63-m+m=63 by omega];rfl
  have tp:(0:Int)<2 ^ m:=Int.pow_pos (by omega)
  have tp':(0:Int)<2 ^ (64-m):=Int.pow_pos (by omega)
  have y1:y<(2:Int) ^ (64-m):=by
   have:blen y.toNat=64-m:=by omega
   rw [this] at c1
   have c1':((y.toNat:Nat):Int)<((2 ^ (64-m):Nat):Int):=by exact_mod_cast c1
   push_cast at c1'
   omega
  have y2:(2:Int) ^ (63-m)≤y:=by
   have:blen y.toNat-1=63-m:=by omega
   rw [this] at c2
   have c2':((2 ^ (63-m):Nat):Int)≤((y.toNat:Nat):Int):=by exact_mod_cast c2
   push_cast at c2'
   omega
  have Y1:y*2 ^ m<18446744073709551616:=by
   have:=Int.mul_lt_mul_of_pos_right y1 tp
   omega
  have Y2:9223372036854775808≤y*2 ^ m:=by
   have:=qAy y2 (show (0:Int)≤2 ^ m by omega)
   omega
  have H1:(h+1)*2 ^ m≤y*2 ^ m:=qAy (by omega) (by omega)
  have H2:(h+1)*2 ^ m=h*2 ^ m+2 ^ m:=by grind
  have H0:0≤h*2 ^ m:=qBf hh.1 (by omega)
  have fd:Int.fdiv l (2 ^ (64-m))=l / 2 ^ (64-m):=yzQ _ _ (by omega)
  have L1:=Int.mul_ediv_add_emod l (2 ^ (64-m))
  have L2:=Int.emod_nonneg l (show (2:Int) ^ (64-m)≠0 by omega)
  have L3:=Int.emod_lt_of_pos l tp'
  have L4:0≤l / 2 ^ (64-m):=Int.ediv_nonneg hl.1 (by omega)
  have L5:l / 2 ^ (64-m)<2 ^ m:=by
   refine Int.ediv_lt_of_lt_mul tp' ?_
   rw [Int.mul_comm,p64];omega
  have w1:IntKind.u64.wrap (y*2 ^ m)=y*2 ^ m:=wu64 ⟨by omega,by omega⟩
  have w2:IntKind.u64.wrap (h*2 ^ m)=h*2 ^ m:=wu64 ⟨by omega,by omega⟩
  have w3:IntKind.u64.wrap (BitVec.ofInt IntKind.u64.bits (h*2 ^ m)|||BitVec.ofInt IntKind.u64.bits (l / 2 ^ (64-m))).toNat=h*2 ^ m+l / 2 ^ (64-m) :=
   yOV hh.1 ⟨L4,L5⟩ ⟨by omega,by omega⟩ (by omega)
  have w4:IntKind.u64.wrap (l*2 ^ m)=l % 2 ^ (64-m)*2 ^ m:=by
   have e:l*2 ^ m=(l / 2 ^ (64-m))*18446744073709551616+l % 2 ^ (64-m)*2 ^ m:=by
    rw [← p64]
    obtain ⟨a,ha⟩:∃ a,a=l / 2 ^ (64-m):=⟨_,rfl⟩
    obtain ⟨b,hb⟩:∃ b,b=l % 2 ^ (64-m):=⟨_,rfl⟩
    obtain ⟨t,ht⟩:∃ t,t=(2:Int) ^ m:=⟨_,rfl⟩
    obtain ⟨t',ht'⟩:∃ t,t=(2:Int) ^ (64-m):=⟨_,rfl⟩
    rw [← ha,← hb,← ht'] at L1
    rw [← ha,← hb,← ht,← ht']
    rw [← L1];grind
   have e5:l % 2 ^ (64-m)*2 ^ m<18446744073709551616:=by
    rw [← p64];exact Int.mul_lt_mul_of_pos_right L3 tp
   have e6:0≤l % 2 ^ (64-m)*2 ^ m:=qBf L2 (by omega)
   rw [e,ywK];omega
  have e5:l % 2 ^ (64-m)*2 ^ m<18446744073709551616:=by
   rw [← p64];exact Int.mul_lt_mul_of_pos_right L3 tp
  have e6:0≤l % 2 ^ (64-m)*2 ^ m:=qBf L2 (by omega)
  have eN:(h*18446744073709551616+l)*2 ^ m=(h*2 ^ m+l / 2 ^ (64-m))*18446744073709551616+l % 2 ^ (64-m)*2 ^ m:=by
   rw [← p64]
   obtain ⟨a,ha⟩:∃ a,a=l / 2 ^ (64-m):=⟨_,rfl⟩
   obtain ⟨b,hb⟩:∃ b,b=l % 2 ^ (64-m):=⟨_,rfl⟩
   obtain ⟨t,ht⟩:∃ t,t=(2:Int) ^ m:=⟨_,rfl⟩
   obtain ⟨t',ht'⟩:∃ t,t=(2:Int) ^ (64-m):=⟨_,rfl⟩
   rw [← ha,← hb,← ht'] at L1
   rw [← ha,← hb,← ht,← ht']
   rw [← L1];grind
  have U1:h*2 ^ m+l / 2 ^ (64-m)<y*2 ^ m:=by omega
  have U0:0≤h*2 ^ m+l / 2 ^ (64-m):=by omega
  rw [fd,w1,w2,w3,w4]
  have b5:(!(decide ((m:Int)<0)))=true:=by rw [decide_eq_false (by omega)];rfl
  have b6:(!(decide (((64-m:Nat):Int)<0)))=true:=by rw [decide_eq_false (by omega)];rfl
  rw [b5,b6,yau,yau,yau,yau]
  generalize h*2 ^ m+l / 2 ^ (64-m)=u at *
  generalize hl0:l % 2 ^ (64-m)*2 ^ m=v at *
  generalize hY:y*2 ^ m=Y at *
  rw [yzQ Y _ (by omega),yzQ v _ (by omega),yzP ⟨by omega,by omega⟩,yzP ⟨by omega,by omega⟩,ymB U0]
  have b7:(!(decide (Y / 4294967296=(0:Int))))=true:=by rw [decide_eq_false (by omega)];rfl
  rw [b7,yau]
  obtain ⟨c,hyn1⟩:∃ a,a=Y / 4294967296:=⟨_,rfl⟩
  obtain ⟨d,hyn0⟩:∃ a,a=Y % 4294967296:=⟨_,rfl⟩
  obtain ⟨un1,hun1⟩:∃ a,a=v / 4294967296:=⟨_,rfl⟩
  obtain ⟨un0,hun0⟩:∃ a,a=v % 4294967296:=⟨_,rfl⟩
  rw [← hyn1,← hyn0,← hun1,← hun0]
  have d1:2147483648≤c∧c≤4294967295:=by omega
  have d0:0≤d∧d≤4294967295:=by omega
  have dn1:0≤un1∧un1≤4294967295:=by omega
  have dn0:0≤un0∧un0≤4294967295:=by omega
  have dY:Y=c*4294967296+d:=by omega
  have g1:=DI.init dY d1 d0 dn1 U0 U1
  have x1:IntKind.u64.wrap (u / c)=u / c:=wu64 ⟨g1.hq.1,by have:=g1.hq.2;omega⟩
  have x2:IntKind.u64.wrap (u-IntKind.u64.wrap (u / c*c))=u-u / c*c:=by
   have r1:=g1.hr.1
   have r2:0≤u / c*c:=qBf g1.hq.1 (by omega)
   have r3:=g1.hr.2
   rw [wu64 (n:=u / c*c) ⟨r2,by omega⟩,wu64 ⟨r1,by omega⟩]
  rw [x1,x2]
  have fin:∀ q1:Int,DG Y u un1 q1→∀ (un21:Int),un21=u*4294967296+un1-q1*Y→∀ q0,DG Y un21 un0 q0 →
    K (IntKind.u64.wrap ((IntKind.u64.wrap (q1*(4294967296:Int)))+q0)) (Int.fdiv (IntKind.u64.wrap ((IntKind.u64.wrap ((IntKind.u64.wrap (un21*(4294967296:Int)))+un0))-(IntKind.u64.wrap (q0*Y)))) (2 ^ (min ((m:Int)).toNat IntKind.u64.bits))):=by
   intro q1 G1 un21 e21 q0 G0
   obtain ⟨a1,a2,a3,a4⟩:=G1
   obtain ⟨c1,c2,c3,c4⟩:=G0
   have s1:(q1+1)*Y=q1*Y+Y:=by grind
   have s0:(q0+1)*Y=q0*Y+Y:=by grind
   have w5:IntKind.u64.wrap (q1*4294967296)=q1*4294967296:=wu64 ⟨by omega,by omega⟩
   have w6:IntKind.u64.wrap (q1*4294967296+q0)=q1*4294967296+q0:=wu64 ⟨by omega,by omega⟩
   rw [yIK (by omega) (by omega),w5,w6,e3,yzQ _ _ (by omega)]
   have eT:un21*4294967296+un0-q0*Y=(h*18446744073709551616+l-(q1*4294967296+q0)*y)*2 ^ m:=by
    have f1:(q1*4294967296+q0)*Y=q1*Y*4294967296+q0*Y:=by grind
    have f2:(h*18446744073709551616+l-(q1*4294967296+q0)*y)*2 ^ m=(h*18446744073709551616+l)*2 ^ m-(q1*4294967296+q0)*Y:=by
     rw [← hY,Int.sub_mul,Int.mul_assoc (q1*4294967296+q0)]
    rw [f2,f1,eN]
    omega
   rw [eT,Int.mul_ediv_cancel _ (by omega)]
   have r0:0≤h*18446744073709551616+l-(q1*4294967296+q0)*y:=by
    refine Int.not_lt.1 fun hc=>?_
    have:=Int.mul_neg_of_neg_of_pos hc tp
    omega
   have r1:h*18446744073709551616+l-(q1*4294967296+q0)*y<y:=by
    refine Int.not_le.1 fun hc=>?_
    have:=qAy hc (show (0:Int)≤2 ^ m by omega)
    omega
   obtain ⟨Q,hQ⟩:∃ Q,Q=q1*4294967296+q0:=⟨_,rfl⟩
   rw [← hQ] at r0 r1 ⊢
   have z1:(h*18446744073709551616+l) / y=Q:=by
    have:h*18446744073709551616+l=(h*18446744073709551616+l-Q*y)+Q*y:=by omega
    rw [this,Int.add_mul_ediv_right _ _ (by omega),Int.ediv_eq_zero_of_lt r0 r1];omega
   have z2:(h*18446744073709551616+l) % y=h*18446744073709551616+l-Q*y:=by
    have:=Int.mul_ediv_add_emod (h*18446744073709551616+l) y
    rw [z1,Int.mul_comm] at this
    omega
   rw [z1,z2] at k
   exact k
  have mid:∀ q:Int,DG Y u un1 q→∀ (X:Int→Int→Int→Int→Int→Int→Int→Int→Int→Bool→Prop),(∀ q0 r0 b0,DG Y (u*4294967296+un1-q*Y) un0 q0→X Y m c d un0 q r0 (u*4294967296+un1-q*Y) q0 b0) →
    asr (!(decide (c=(0:Int)))) (∃ n:Nat,yfI ybV X X n Y m c d un0 q ((IntKind.u64.wrap ((IntKind.u64.wrap ((IntKind.u64.wrap ((IntKind.u64.wrap (u*(4294967296:Int)))+un1))-(IntKind.u64.wrap (q*Y))))-(IntKind.u64.wrap ((IntKind.u64.wrap (Int.tdiv (IntKind.u64.wrap ((IntKind.u64.wrap ((IntKind.u64.wrap (u*(4294967296:Int)))+un1))-(IntKind.u64.wrap (q*Y)))) c))*c))))) (IntKind.u64.wrap ((IntKind.u64.wrap ((IntKind.u64.wrap (u*(4294967296:Int)))+un1))-(IntKind.u64.wrap (q*Y)))) (IntKind.u64.wrap (Int.tdiv (IntKind.u64.wrap ((IntKind.u64.wrap ((IntKind.u64.wrap (u*(4294967296:Int)))+un1))-(IntKind.u64.wrap (q*Y)))) c))):=by
   intro q G X hX
   obtain ⟨a1,a2,a3,a4⟩:=G
   have s1:(q+1)*Y=q*Y+Y:=by grind
   have b8:(!(decide (c=(0:Int))))=true:=by rw [decide_eq_false (by omega)];rfl
   rw [b8,yau,yIK (by omega) (by omega),ymB (by omega)]
   have g0:=DI.init dY d1 d0 dn0 (u:=u*4294967296+un1-q*Y) (by omega) (by omega)
   generalize u*4294967296+un1-q*Y=u2 at *
   have x1:IntKind.u64.wrap (u2 / c)=u2 / c:=wu64 ⟨g0.hq.1,by have:=g0.hq.2;omega⟩
   have x2:IntKind.u64.wrap (u2-IntKind.u64.wrap (u2 / c*c))=u2-u2 / c*c:=by
    have r1:=g0.hr.1
    have r2:0≤u2 / c*c:=qBf g0.hq.1 (by omega)
    have r3:=g0.hr.2
    have r4:=g0.hlt
    rw [wu64 (n:=u2 / c*c) ⟨r2,by omega⟩,wu64 ⟨r1,by omega⟩]
   rw [x1,x2]
   exact ⟨3,yOo _ _ _ _ (fun q0 r0 b0 g=>hX q0 r0 b0 g) (fun q0 r0 b0 g=>hX q0 r0 b0 g) _ _ g0⟩
  have leaf:∀ {P:Prop},P→asr (!(decide ((m:Int)<0))) P:=fun p=>by rw [b5,yau];exact p
  refine ⟨3,yOn _ _ _ _ (fun q r b G=>?_) (fun q r b G=>?_) _ _ g1⟩
  ·exact mid q G _ (fun q0 r0 b0 G0=>leaf (fin q G _ rfl q0 G0))
  ·exact mid q G _ (fun q0 r0 b0 G0=>leaf (fin q G _ rfl q0 G0))
theorem yLn {h l y:Int} (hh:U64 h) (hl:U64 l) (hy:U64 y) (h0:0<y) {K:Int→Prop}
  (k:K ((h*18446744073709551616+l) % y)):yh1 h l y K:=by
 unfold yh1 ysL
 have b3:(!(decide (y=(0:Int))))=true:=by rw [decide_eq_false (by omega)];rfl
 have a1:=Int.emod_nonneg h (show y≠0 by omega)
 have a2:=Int.emod_lt_of_pos h h0
 have hh':=hh
 unfold U64 at hh hy
 rw [b3,yau,yNO hh.1]
 refine yFV ⟨a1,by omega⟩ hl ⟨by omega,by omega⟩ a2 ?_
 have e:(h % y*18446744073709551616+l) % y=(h*18446744073709551616+l) % y:=by
  rw [Int.add_emod,Int.mul_emod,Int.emod_emod,← Int.mul_emod,← Int.add_emod]
 rw [e]
 exact k
def outS (s:Bool) (a b:Int) (K:Int→Int→Int→Prop):Prop :=
 if a≤1000000000000000000∧b≤1000000000000000000 then K (if s then -a else a) b 0 else K 0 0 16
theorem yqH {s:Bool} {a b:Int} (ha:0≤a) (hb:0≤b) (K:Int→Int→Int→Prop):ycQ s a b K=outS s a b K:=by
 unfold ycQ yja outS
 by_cases h:a≤1000000000000000000∧b≤1000000000000000000
 ·have e:decide ((if b>a then b else a)>(1000000000000000000:Int))=false:=by
   refine decide_eq_false ?_
   split <;> omega
  have w1:IntKind.i64.wrap a=a:=wi64 ⟨by omega,by omega⟩
  have w2:IntKind.i64.wrap b=b:=wi64 ⟨by omega,by omega⟩
  have w3:IntKind.i64.wrap (0-a)=-a:=by rw [wi64 ⟨by omega,by omega⟩];omega
  rw [e,yae,if_pos h,w1,w2,w3]
  cases s
  ·rfl
  ·rfl
 ·have e:decide ((if b>a then b else a)>(1000000000000000000:Int))=true:=by
   refine decide_eq_true ?_
   split <;> omega
  rw [e,yam,if_neg h]
theorem Make_of {n d:Int} (hn:I64 n) (hd:I64 d) {K:Int→Int→Int→Prop}
  (k:if d=0 then K 0 0 18 else outS (decide (n<0) != decide (d<0)) ((n.natAbs / Nat.gcd n.natAbs d.natAbs:Nat):Int) ((d.natAbs / Nat.gcd n.natAbs d.natAbs:Nat):Int) K):yao n d K:=by
 unfold yao yli
 by_cases h:d=0
 ·rw [if_pos h] at k
  have:(d ==(0:Int))=true:=beq_iff_eq.2 h
  rw [this,yam]
  exact k
 ·rw [if_neg h] at k
  have:(d ==(0:Int))=false:=beq_eq_false_iff_ne.2 h
  rw [this,yae,yiy hn,yiy hd]
  refine ywb _ _ _ ?_
  have gp:0<Nat.gcd n.natAbs d.natAbs:=qB4 _ (by omega)
  have b3:(!(decide (((Nat.gcd n.natAbs d.natAbs:Nat):Int)=(0:Int))))=true:=by rw [decide_eq_false (by omega)];rfl
  unfold I64 at hn hd
  have u1:n.natAbs / Nat.gcd n.natAbs d.natAbs≤n.natAbs:=Nat.div_le_self _ _
  have u2:d.natAbs / Nat.gcd n.natAbs d.natAbs≤d.natAbs:=Nat.div_le_self _ _
  rw [b3,yau,yau,ymB (by omega),ymB (by omega),← qBx,← qBx]
  generalize n.natAbs / Nat.gcd n.natAbs d.natAbs=A at *
  generalize d.natAbs / Nat.gcd n.natAbs d.natAbs=B at *
  rw [wu64 (n:=(A:Int)) ⟨by omega,by omega⟩,wu64 (n:=(B:Int)) ⟨by omega,by omega⟩,yqH (by omega) (by omega)]
  exact k
def numM (a c:Int) (b d:Int):Nat:=(a.natAbs / Nat.gcd a.natAbs d.natAbs)*(c.natAbs / Nat.gcd c.natAbs b.natAbs)
def denM (a c:Int) (b d:Int):Nat:=(b.natAbs / Nat.gcd c.natAbs b.natAbs)*(d.natAbs / Nat.gcd a.natAbs d.natAbs)
theorem yHQ {a b c d:Int} (ha:I64 a) (hb:I64 b) (hc:I64 c) (hd:I64 d) {K:Int→Int→Int→Prop}
  (k:if chk2 a b c d=0 then outS (decide (a<0) != decide (c<0)) (numM a c b d) (denM a c b d) K else K 0 0 (chk2 a b c d)):ybO a b c d K:=by
 unfold ybO ynA
 refine yqa ha hb hc hd ?_
 by_cases h:chk2 a b c d=0
 ·rw [if_pos h] at k
  have:(chk2 a b c d !=(0:Int))=false:=by rw [h];rfl
  rw [this,yae,yiy ha,yiy hc]
  obtain ⟨⟨b1,b2,a1,a2,_⟩,d1,d2,c1,c2,_⟩:=yey.1 h
  have wb:IntKind.u64.wrap b=((b.natAbs:Nat):Int):=by rw [wu64 ⟨by omega,by omega⟩];omega
  have wd:IntKind.u64.wrap d=((d.natAbs:Nat):Int):=by rw [wu64 ⟨by omega,by omega⟩];omega
  rw [wb,wd]
  refine ywb _ _ _ (ywb _ _ _ ?_)
  unfold numM denM at k
  have g1:0<Nat.gcd a.natAbs d.natAbs:=qB4 _ (by omega)
  have g2:0<Nat.gcd c.natAbs b.natAbs:=qB4 _ (by omega)
  obtain ⟨g3,h3⟩:∃ g,g=Nat.gcd a.natAbs d.natAbs:=⟨_,rfl⟩
  obtain ⟨g4,h4⟩:∃ g,g=Nat.gcd c.natAbs b.natAbs:=⟨_,rfl⟩
  rw [← h3,← h4] at k ⊢
  rw [← h3] at g1;rw [← h4] at g2
  have n3:(!(decide ((g3:Int)=(0:Int))))=true:=by rw [decide_eq_false (by omega)];rfl
  have n4:(!(decide ((g4:Int)=(0:Int))))=true:=by rw [decide_eq_false (by omega)];rfl
  rw [n3,n4,yau,yau,ymB (by omega),ymB (by omega),ymB (by omega),ymB (by omega),← qBx,← qBx,← qBx,← qBx]
  have q1:a.natAbs / g3≤a.natAbs:=Nat.div_le_self _ _
  have q2:c.natAbs / g4≤c.natAbs:=Nat.div_le_self _ _
  have q3:b.natAbs / g4≤b.natAbs:=Nat.div_le_self _ _
  have q4:d.natAbs / g3≤d.natAbs:=Nat.div_le_self _ _
  generalize a.natAbs / g3=A at *
  generalize c.natAbs / g4=C at *
  generalize b.natAbs / g4=B at *
  generalize d.natAbs / g3=D at *
  rw [wu64 (n:=(A:Int)) ⟨by omega,by omega⟩,wu64 (n:=(C:Int)) ⟨by omega,by omega⟩,wu64 (n:=(B:Int)) ⟨by omega,by omega⟩,wu64 (n:=(D:Int)) ⟨by omega,by omega⟩,
   ykC ⟨by omega,by omega⟩ ⟨by omega,by omega⟩,yau,yau,ykC ⟨by omega,by omega⟩ ⟨by omega,by omega⟩]
  have m1:A*C≤1000000000000000000*1000000000000000000:=Nat.mul_le_mul (by omega) (by omega)
  have m2:B*D≤1000000000000000000*1000000000000000000:=Nat.mul_le_mul (by omega) (by omega)
  rw [← Int.natCast_mul,← Int.natCast_mul]
  generalize A*C=M at *
  generalize B*D=N at *
  have wm:IntKind.u64.wrap ((M:Int) / 18446744073709551616+(N:Int) / 18446744073709551616)=(M:Int) / 18446744073709551616+(N:Int) / 18446744073709551616:=wu64 ⟨by omega,by omega⟩
  rw [wm]
  by_cases hb:(M:Int) / 18446744073709551616+(N:Int) / 18446744073709551616>0
  ·rw [decide_eq_true hb,yam]
   unfold outS at k
   rw [if_neg (by omega)] at k
   exact k
  ·rw [decide_eq_false hb,yae]
   have eM:(M:Int) % 18446744073709551616=M:=by omega
   have eN:(N:Int) % 18446744073709551616=N:=by omega
   rw [eM,eN]
   by_cases h0:(M:Int)>0
   ·rw [decide_eq_true h0,yam,yqH (by omega) (by omega)]
    exact k
   ·rw [decide_eq_false h0,yae,yqH (by omega) (by omega)]
    have hz:M=0:=by omega
    subst hz
    unfold outS at k ⊢
    by_cases hN:(N:Int)≤1000000000000000000
    ·rw [if_pos ⟨by omega,hN⟩] at k ⊢
     have e:(if (decide (a<0) != decide (c<0))=true then -((0:Nat):Int) else ((0:Nat):Int))=0:=by split <;> rfl
     rw [e] at k
     exact k
    ·rw [if_neg (by omega)] at k ⊢
     exact k
 ·rw [if_neg h] at k
  have:(chk2 a b c d !=(0:Int))=true:=by rw [bne_iff_ne];exact h
  rw [this,yam]
  exact k
theorem RV.swap {c d:Int} (h:RV c d) (h0:0<c):RV d c:=by
 obtain ⟨d1,d2,c1,c2,g⟩:=h
 exact ⟨by omega,c2,by omega,d2,by rw [Nat.gcd_comm];exact g⟩
theorem RV.swapn {c d:Int} (h:RV c d) (h0:c<0):RV (-d) (-c):=by
 obtain ⟨d1,d2,c1,c2,g⟩:=h
 exact ⟨by omega,by omega,by omega,by omega,by rw [Int.natAbs_neg,Int.natAbs_neg,Nat.gcd_comm];exact g⟩
theorem yOp {a b c d:Int} (ha:I64 a) (hb:I64 b) (hc:I64 c) (hd:I64 d) {K:Int→Int→Int→Prop}
  (k:if chk2 a b c d=0 then (if c=0 then K 0 0 18 else outS (decide (a<0) != decide (c<0)) (numM a d b c) (denM a d b c) K) else K 0 0 (chk2 a b c d)):yaJ a b c d K:=by
 unfold yaJ ynB
 refine yqa ha hb hc hd ?_
 by_cases h:chk2 a b c d=0
 ·rw [if_pos h] at k
  have:(chk2 a b c d !=(0:Int))=false:=by rw [h];rfl
  rw [this,yae]
  obtain ⟨hab,hcd⟩:=yey.1 h
  obtain ⟨d1,d2,c1,c2,_⟩:=id hcd
  by_cases h0:c=0
  ·rw [if_pos h0] at k
   have:(c ==(0:Int))=true:=beq_iff_eq.2 h0
   rw [this,yam]
   exact k
  ·rw [if_neg h0] at k
   have:(c ==(0:Int))=false:=beq_eq_false_iff_ne.2 h0
   rw [this,yae]
   by_cases hn:c<0
   ·rw [decide_eq_true hn] at k
    rw [decide_eq_true hn,yam,wi64 (n:=0-d) ⟨by omega,by omega⟩,wi64 (n:=0-c) ⟨by omega,by omega⟩,Int.zero_sub,Int.zero_sub]
    have e:chk2 a b (-d) (-c)=0:=yey.2 ⟨hab,hcd.swapn hn⟩
    refine yHQ ha hb ⟨by omega,by omega⟩ ⟨by omega,by omega⟩ ?_
    rw [if_pos e,decide_eq_true (show -d<0 by omega)]
    unfold numM denM at k ⊢
    rw [Int.natAbs_neg,Int.natAbs_neg]
    exact k
   ·rw [decide_eq_false hn] at k
    rw [decide_eq_false hn,yae]
    have e:chk2 a b d c=0:=yey.2 ⟨hab,hcd.swap (by omega)⟩
    refine yHQ ha hb hd hc ?_
    rw [if_pos e,decide_eq_false (show ¬d<0 by omega)]
    exact k
 ·rw [if_neg h] at k
  have:(chk2 a b c d !=(0:Int))=true:=by rw [bne_iff_ne];exact h
  rw [this,yam]
  exact k
theorem yM6 {s:Bool} {hi lo p1 p3:Int} {g:Nat} (hh:U64 hi) (hl:U64 lo) (hg:0<g) (g1:(g:Int)≤1000000000000000000)
   (h1:0≤p1∧p1≤1000000000000000000) (h3:0≤p3∧p3≤1000000000000000000) {K:Int→Int→Int→Prop}
   (k:outS s (((hi*18446744073709551616+lo).toNat / Nat.gcd (hi*18446744073709551616+lo).toNat g:Nat):Int)
    (((p1.toNat / g)*(p3.toNat / Nat.gcd (hi*18446744073709551616+lo).toNat g):Nat):Int) K) :
   (yh1 hi lo (g:Int) (fun (b:Int) =>
 (ycZ b (g:Int) (fun (a:Int) =>
 (cbr (decide (hi≥a))
 (K (0:Int) (0:Int) (16:Int))
 (yg5 hi lo a (fun (c:Int) (_:Int) =>
 (asr (!(decide ((g:Int)=(0:Int))))
 (asr (!(decide (a=(0:Int))))
 (ygl (IntKind.u64.wrap (Int.tdiv (IntKind.u64.wrap p1) (g:Int))) (IntKind.u64.wrap (Int.tdiv (IntKind.u64.wrap p3) a)) (fun (d:Int) (e:Int) =>
 (cbr (decide (d>(0:Int)))
 (K (0:Int) (0:Int) (16:Int))
 (ycQ s c e (fun (f:Int) (h:Int) (i:Int) =>
 (K f h i))))))))))))))):=by
  unfold U64 at hh hl
  obtain ⟨X,hX⟩:∃ X:Nat,X=(hi*18446744073709551616+lo).toNat:=⟨_,rfl⟩
  have eX:hi*18446744073709551616+lo=(X:Int):=by omega
  rw [← hX] at k
  refine yLn hh hl ⟨by omega,by omega⟩ (by omega) ?_
  rw [eX,← Int.natCast_emod]
  refine ywb _ _ _ ?_
  have eg:Nat.gcd (X % g) g=Nat.gcd X g:=by rw [Nat.gcd_comm,Nat.gcd_comm X,Nat.gcd_rec g X,Nat.gcd_comm]
  rw [eg]
  have gp:0<Nat.gcd X g:=qB4 _ hg
  have gl:Nat.gcd X g≤g:=Nat.le_of_dvd hg (Nat.gcd_dvd_right _ _)
  generalize Nat.gcd X g=G at *
  by_cases hb:hi≥(G:Int)
  ·rw [decide_eq_true hb,yam]
   unfold outS at k
   have:18446744073709551616≤X / G:=by
    rw [Nat.le_div_iff_mul_le gp]
    omega
   rw [if_neg (by omega)] at k
   exact k
  ·rw [decide_eq_false hb,yae]
   refine yFV hh hl ⟨by omega,by omega⟩ (by omega) ?_
   rw [eX]
   have n3:(!(decide ((g:Int)=(0:Int))))=true:=by rw [decide_eq_false (by omega)];rfl
   have n4:(!(decide ((G:Int)=(0:Int))))=true:=by rw [decide_eq_false (by omega)];rfl
   have e1:IntKind.u64.wrap p1=(p1.toNat:Int):=by rw [wu64 ⟨by omega,by omega⟩];omega
   have e3:IntKind.u64.wrap p3=(p3.toNat:Int):=by rw [wu64 ⟨by omega,by omega⟩];omega
   rw [n3,n4,yau,yau,e1,e3,ymB (by omega),ymB (by omega),← qBx,← qBx,← qBx]
   have q1:p1.toNat / g≤p1.toNat:=Nat.div_le_self _ _
   have q3:p3.toNat / G≤p3.toNat:=Nat.div_le_self _ _
   generalize p1.toNat / g=A at *
   generalize p3.toNat / G=B at *
   generalize X / G=N at *
   rw [wu64 (n:=(A:Int)) ⟨by omega,by omega⟩,wu64 (n:=(B:Int)) ⟨by omega,by omega⟩,ykC ⟨by omega,by omega⟩ ⟨by omega,by omega⟩,← Int.natCast_mul]
   generalize A*B=D at *
   by_cases hd:((D:Int) / 18446744073709551616)>0
   ·rw [decide_eq_true hd,yam]
    unfold outS at k
    rw [if_neg (by omega)] at k
    exact k
   ·rw [decide_eq_false hd,yae]
    have eD:(D:Int) % 18446744073709551616=D:=by omega
    rw [eD,yqH (by omega) (by omega)]
    exact k
theorem yFW {p q c:Int} {K:Int→Int→Prop} (hc:c.toNat≤1) (k:K (((p.toNat+q.toNat+c.toNat) % 18446744073709551616:Nat):Int) (((p.toNat+q.toNat+c.toNat) / 18446744073709551616:Nat):Int)):yjF p q c K:=by
 unfold yjF
 rw [decide_eq_true hc,yau]
 exact k
theorem yFX {p q c:Int} {K:Int→Int→Prop} (hc:c.toNat≤1) (k:K (((p.toNat+18446744073709551616-q.toNat-c.toNat) % 18446744073709551616:Nat):Int) ((if q.toNat+c.toNat≤p.toNat then 0 else 1:Nat):Int)):yjG p q c K:=by
 unfold yjG
 rw [decide_eq_true hc,yau]
 have e:(bif Nat.ble (q.toNat+c.toNat) p.toNat then 0 else 1:Nat)=(if q.toNat+c.toNat≤p.toNat then 0 else 1:Nat):=by
  by_cases h:q.toNat+c.toNat≤p.toNat
  ·rw [if_pos h,show Nat.ble (q.toNat+c.toNat) p.toNat=true from Nat.ble_eq_true_of_le h];rfl
  ·rw [if_neg h]
   cases hb:Nat.ble (q.toNat+c.toNat) p.toNat
   ·rfl
   ·exact absurd (qB5 hb) h
 rw [e]
 exact k
theorem yLo {X Y:Int} (hx:0≤X) (hy:0≤Y) (hs:X+Y<340282366920938463463374607431768211456) {F:Int→Int→Int→Int→Prop}
  (h:∀ c1 c2,F ((X+Y) % 18446744073709551616) c1 ((X+Y) / 18446744073709551616) c2) :
  yjF (X % 18446744073709551616) (Y % 18446744073709551616) 0 (fun lo c1=>yjF (X / 18446744073709551616) (Y / 18446744073709551616) c1 (fun hi c2=>F lo c1 hi c2)):=by
 obtain ⟨x,rfl⟩:∃ x:Nat,X=x:=⟨X.toNat,by omega⟩
 obtain ⟨y,rfl⟩:∃ y:Nat,Y=y:=⟨Y.toNat,by omega⟩
 refine yFW (by decide) (yFW (by omega) ?_)
 have e1:(((((x:Int) % 18446744073709551616).toNat+((y:Int) % 18446744073709551616).toNat+(0:Int).toNat) % 18446744073709551616:Nat):Int)=((x:Int)+y) % 18446744073709551616:=by omega
 have e2:(((((x:Int) / 18446744073709551616).toNat+((y:Int) / 18446744073709551616).toNat+(((((x:Int) % 18446744073709551616).toNat+((y:Int) % 18446744073709551616).toNat+(0:Int).toNat) / 18446744073709551616:Nat):Int).toNat) % 18446744073709551616:Nat):Int)=((x:Int)+y) / 18446744073709551616:=by omega
 rw [e1,e2]
 exact h _ _
theorem yuJ {X Y:Int} (hy:0≤Y) (hxy:Y≤X) (hs:X<340282366920938463463374607431768211456) {F:Int→Int→Int→Int→Prop}
  (h:∀ c1 c2,F ((X-Y) % 18446744073709551616) c1 ((X-Y) / 18446744073709551616) c2) :
  yjG (X % 18446744073709551616) (Y % 18446744073709551616) 0 (fun lo c1=>yjG (X / 18446744073709551616) (Y / 18446744073709551616) c1 (fun hi c2=>F lo c1 hi c2)):=by
 obtain ⟨x,rfl⟩:∃ x:Nat,X=x:=⟨X.toNat,by omega⟩
 obtain ⟨y,rfl⟩:∃ y:Nat,Y=y:=⟨Y.toNat,by omega⟩
 refine yFX (by decide) (yFX (by split <;> omega) ?_)
 have e1:(((((x:Int) % 18446744073709551616).toNat+18446744073709551616-((y:Int) % 18446744073709551616).toNat-(0:Int).toNat) % 18446744073709551616:Nat):Int)=((x:Int)-y) % 18446744073709551616:=by omega
 rw [e1]
 by_cases hb:((y:Int) % 18446744073709551616).toNat+(0:Int).toNat≤((x:Int) % 18446744073709551616).toNat
 ·rw [if_pos hb]
  have e2:(((((x:Int) / 18446744073709551616).toNat+18446744073709551616-((y:Int) / 18446744073709551616).toNat-((0:Nat):Int).toNat) % 18446744073709551616:Nat):Int)=((x:Int)-y) / 18446744073709551616:=by omega
  rw [e2]
  exact h _ _
 ·rw [if_neg hb]
  have e2:(((((x:Int) / 18446744073709551616).toNat+18446744073709551616-((y:Int) / 18446744073709551616).toNat-((1:Nat):Int).toNat) % 18446744073709551616:Nat):Int)=((x:Int)-y) / 18446744073709551616:=by omega
  rw [e2]
  exact h _ _
def outA (s:Bool) (Z p1 p3:Int) (g:Nat) (K:Int→Int→Int→Prop):Prop :=
 if Z=0 then K 0 1 0 else outS s ((Z.toNat / Nat.gcd Z.toNat g:Nat):Int) (((p1.toNat / g)*(p3.toNat / Nat.gcd Z.toNat g):Nat):Int) K
theorem yzR {s:Bool} {Z p1 p3:Int} {g:Nat} (hz:0≤Z) (hz2:Z<340282366920938463463374607431768211456) (hg:0<g) (g1:(g:Int)≤1000000000000000000)
   (h1:0≤p1∧p1≤1000000000000000000) (h3:0≤p3∧p3≤1000000000000000000) {K:Int→Int→Int→Prop}
   (k:outA s Z p1 p3 g K) :
   cbr (Z / 18446744073709551616 ==(0:Int)) (cbr (Z % 18446744073709551616 ==(0:Int)) (K 0 1 0) (yh1 (Z / 18446744073709551616) (Z % 18446744073709551616) (g:Int) (fun (b:Int) =>
 (ycZ b (g:Int) (fun (a:Int) =>
 (cbr (decide ((Z / 18446744073709551616)≥a))
 (K (0:Int) (0:Int) (16:Int))
 (yg5 (Z / 18446744073709551616) (Z % 18446744073709551616) a (fun (c:Int) (_:Int) =>
 (asr (!(decide ((g:Int)=(0:Int))))
 (asr (!(decide (a=(0:Int))))
 (ygl (IntKind.u64.wrap (Int.tdiv (IntKind.u64.wrap p1) (g:Int))) (IntKind.u64.wrap (Int.tdiv (IntKind.u64.wrap p3) a)) (fun (d:Int) (e:Int) =>
 (cbr (decide (d>(0:Int)))
 (K (0:Int) (0:Int) (16:Int))
 (ycQ s c e (fun (f:Int) (h:Int) (i:Int) =>
 (K f h i)))))))))))))))) (yh1 (Z / 18446744073709551616) (Z % 18446744073709551616) (g:Int) (fun (b:Int) =>
 (ycZ b (g:Int) (fun (a:Int) =>
 (cbr (decide ((Z / 18446744073709551616)≥a))
 (K (0:Int) (0:Int) (16:Int))
 (yg5 (Z / 18446744073709551616) (Z % 18446744073709551616) a (fun (c:Int) (_:Int) =>
 (asr (!(decide ((g:Int)=(0:Int))))
 (asr (!(decide (a=(0:Int))))
 (ygl (IntKind.u64.wrap (Int.tdiv (IntKind.u64.wrap p1) (g:Int))) (IntKind.u64.wrap (Int.tdiv (IntKind.u64.wrap p3) a)) (fun (d:Int) (e:Int) =>
 (cbr (decide (d>(0:Int)))
 (K (0:Int) (0:Int) (16:Int))
 (ycQ s c e (fun (f:Int) (h:Int) (i:Int) =>
 (K f h i))))))))))))))):=by
  unfold outA at k
  have eZ:Z / 18446744073709551616*18446744073709551616+Z % 18446744073709551616=Z:=by omega
  by_cases h0:Z=0
  ·rw [if_pos h0] at k
   subst h0
   have e1:((0:Int) / 18446744073709551616 ==(0:Int))=true:=by decide
   have e2:((0:Int) % 18446744073709551616 ==(0:Int))=true:=by decide
   rw [e1,yam,e2,yam]
   exact k
  ·rw [if_neg h0] at k
   have t:=yM6 (s:=s) (hi:=Z / 18446744073709551616) (lo:=Z % 18446744073709551616) (p1:=p1) (p3:=p3) (g:=g) (K:=K) ⟨by omega,by omega⟩ ⟨by omega,by omega⟩ hg g1 h1 h3 (by rw [eZ];exact k)
   cases h4:(Z / 18446744073709551616 ==(0:Int))
   ·rw [yae];exact t
   ·rw [yam]
    cases h2:(Z % 18446744073709551616 ==(0:Int))
    ·rw [yae];exact t
    ·have:=beq_iff_eq.1 h2
     have:=beq_iff_eq.1 h4
     exact absurd (show Z=0 by omega) h0
theorem yta {s s':Bool} {Z Z' p1 p3:Int} {g:Nat} {K:Int→Int→Int→Prop} (k:outA s' Z' p1 p3 g K) (hz:Z=Z') (hs:Z≠0→s=s'):outA s Z p1 p3 g K:=by
 subst hz
 unfold outA at k ⊢
 by_cases h:Z=0
 ·rw [if_pos h] at k ⊢;exact k
 ·rw [if_neg h] at k ⊢;rw [hs h];exact k
theorem yLp {a b c d:Int} (ha:I64 a) (hb:I64 b) (hc:I64 c) (hd:I64 d) {K:Int→Int→Int→Prop}
  (k:if chk2 a b c d=0 then outA (decide (a*(d / (Nat.gcd b.natAbs d.natAbs:Nat))+c*(b / (Nat.gcd b.natAbs d.natAbs:Nat))<0))
    ((a*(d / (Nat.gcd b.natAbs d.natAbs:Nat))+c*(b / (Nat.gcd b.natAbs d.natAbs:Nat))).natAbs:Int) b d (Nat.gcd b.natAbs d.natAbs) K
   else K 0 0 (chk2 a b c d)):yaU a b c d K:=by
 unfold yaU yny
 refine yqa ha hb hc hd ?_
 by_cases h:chk2 a b c d=0
 ·rw [if_pos h] at k
  have:(chk2 a b c d !=(0:Int))=false:=by rw [h];rfl
  rw [this,yae]
  obtain ⟨⟨b1,b2,a1,a2,_⟩,d1,d2,c1,c2,_⟩:=yey.1 h
  have wb:IntKind.u64.wrap b=((b.natAbs:Nat):Int):=by rw [wu64 ⟨by omega,by omega⟩];omega
  have wd:IntKind.u64.wrap d=((d.natAbs:Nat):Int):=by rw [wu64 ⟨by omega,by omega⟩];omega
  have g1:0<Nat.gcd b.natAbs d.natAbs:=qB4 _ (by omega)
  have g2:Nat.gcd b.natAbs d.natAbs≤d.natAbs:=Nat.le_of_dvd (by omega) (Nat.gcd_dvd_right _ _)
  have go:ycZ (IntKind.u64.wrap b) (IntKind.u64.wrap d)=ycZ ((b.natAbs:Nat):Int) ((d.natAbs:Nat):Int):=by rw [wb,wd]
  rw [go]
  refine ywb _ _ _ ?_
  generalize Nat.gcd b.natAbs d.natAbs=g at *
  have n3:(!(decide ((g:Int)=(0:Int))))=true:=by rw [decide_eq_false (by omega)];rfl
  have q1:0≤b / (g:Int):=Int.ediv_nonneg (by omega) (by omega)
  have q2:0≤d / (g:Int):=Int.ediv_nonneg (by omega) (by omega)
  have q3:b / (g:Int)≤b:=Int.ediv_le_self _ (by omega)
  have q4:d / (g:Int)≤d:=Int.ediv_le_self _ (by omega)
  have ed:IntKind.u64.wrap (Int.tdiv (IntKind.u64.wrap d) (g:Int))=d / (g:Int):=by
   rw [wu64 (n:=d) ⟨by omega,by omega⟩,ymB (by omega),wu64 ⟨by omega,by omega⟩]
  have eb:IntKind.u64.wrap (Int.tdiv (IntKind.u64.wrap b) (g:Int))=b / (g:Int):=by
   rw [wu64 (n:=b) ⟨by omega,by omega⟩,ymB (by omega),wu64 ⟨by omega,by omega⟩]
  have ylQ:∀ {c:Bool} {P:Prop},c=true→P→asr c P:=fun h p=>by rw [h,yau];exact p
  rw [yiy ha]
  refine ylQ n3 ?_
  rw [ykC (U64.abs ha) (by rw [ed];exact ⟨by omega,by omega⟩),yiy hc]
  refine ylQ n3 ?_
  rw [ykC (U64.abs hc) (by rw [eb];exact ⟨by omega,by omega⟩)]
  obtain ⟨X,hX⟩:∃ X,X=((a.natAbs:Nat):Int)*IntKind.u64.wrap (Int.tdiv (IntKind.u64.wrap d) (g:Int)):=⟨_,rfl⟩
  obtain ⟨Y,hY⟩:∃ Y,Y=((c.natAbs:Nat):Int)*IntKind.u64.wrap (Int.tdiv (IntKind.u64.wrap b) (g:Int)):=⟨_,rfl⟩
  rw [← hX,← hY]
  rw [ed] at hX;rw [eb] at hY
  have X0:0≤X:=by rw [hX];exact qBf (by omega) q2
  have Y0:0≤Y:=by rw [hY];exact qBf (by omega) q1
  have X1:X≤1000000000000000000*1000000000000000000:=by rw [hX];exact qB9 (by omega) (by omega) q2 (by omega)
  have Y1:Y≤1000000000000000000*1000000000000000000:=by rw [hY];exact qB9 (by omega) (by omega) q1 (by omega)
  have ax:a*(d / (g:Int))=if a<0 then -X else X:=by
   split
   ·rw [hX,show ((a.natAbs:Nat):Int)=-a by omega,Int.neg_mul,Int.neg_neg]
   ·rw [hX,show ((a.natAbs:Nat):Int)=a by omega]
  have cy:c*(b / (g:Int))=if c<0 then -Y else Y:=by
   split
   ·rw [hY,show ((c.natAbs:Nat):Int)=-c by omega,Int.neg_mul,Int.neg_neg]
   ·rw [hY,show ((c.natAbs:Nat):Int)=c by omega]
  rw [ax,cy] at k
  clear hX hY ax cy ed eb n3
  by_cases hs:decide (a<0)=decide (c<0)
  ·have e:(decide (a<0) == decide (c<0))=true:=beq_iff_eq.2 hs
   rw [e,yam]
   refine yLo X0 Y0 (by omega) (fun c1 c2=>?_)
   refine yzR (by omega) (by omega) g1 (by omega) ⟨by omega,b2⟩ ⟨by omega,d2⟩ (yta k ?_ ?_)
   ·by_cases h1:a<0
    ·have h2:c<0:=by simpa [h1] using hs.symm
     rw [if_pos h1,if_pos h2];omega
    ·have h2:¬c<0:=by simpa [h1] using hs.symm
     rw [if_neg h1,if_neg h2];omega
   ·intro h0
    by_cases h1:a<0
    ·have h2:c<0:=by simpa [h1] using hs.symm
     rw [if_pos h1,if_pos h2,decide_eq_true h1,decide_eq_true (by omega)]
    ·have h2:¬c<0:=by simpa [h1] using hs.symm
     rw [if_neg h1,if_neg h2,decide_eq_false h1,decide_eq_false (by omega)]
  ·have e:(decide (a<0) == decide (c<0))=false:=beq_eq_false_iff_ne.2 hs
   rw [e,yae]
   have h12:(a<0∧¬c<0)∨(¬a<0∧c<0):=by
    by_cases h1:a<0 <;> by_cases h2:c<0 <;> simp [h1,h2] at hs ⊢
   by_cases hlt:X<Y
   ·have kk:outA (!decide (a<0)) (Y-X) b d g K:=by
     refine yta k ?_ ?_
     ·rcases h12 with ⟨h1,h2⟩ | ⟨h1,h2⟩
      ·rw [if_pos h1,if_neg h2];omega
      ·rw [if_neg h1,if_pos h2];omega
     ·intro h0
      rcases h12 with ⟨h1,h2⟩ | ⟨h1,h2⟩
      ·rw [if_pos h1,if_neg h2,decide_eq_true h1,decide_eq_false (by omega)];rfl
      ·rw [if_neg h1,if_pos h2,decide_eq_false h1,decide_eq_true (by omega)];rfl
    by_cases h1:X / 18446744073709551616<Y / 18446744073709551616
    ·rw [decide_eq_true h1,yam]
     refine yuJ X0 (by omega) (by omega) (fun c1 c2=>?_)
     exact yzR (by omega) (by omega) g1 (by omega) ⟨by omega,b2⟩ ⟨by omega,d2⟩ kk
    ·have e1:(X / 18446744073709551616 == Y / 18446744073709551616)=true:=beq_iff_eq.2 (by omega)
     rw [decide_eq_false h1,yae,e1,yam,decide_eq_true (show X % 18446744073709551616<Y % 18446744073709551616 by have:=beq_iff_eq.1 e1;omega),yam]
     refine yuJ X0 (by omega) (by omega) (fun c1 c2=>?_)
     exact yzR (by omega) (by omega) g1 (by omega) ⟨by omega,b2⟩ ⟨by omega,d2⟩ kk
   ·have kk:outA (decide (a<0)) (X-Y) b d g K:=by
     refine yta k ?_ ?_
     ·rcases h12 with ⟨h1,h2⟩ | ⟨h1,h2⟩
      ·rw [if_pos h1,if_neg h2];omega
      ·rw [if_neg h1,if_pos h2];omega
     ·intro h0
      rcases h12 with ⟨h1,h2⟩ | ⟨h1,h2⟩
      ·rw [if_pos h1,if_neg h2,decide_eq_true h1,decide_eq_true (by omega)]
      ·rw [if_neg h1,if_pos h2,decide_eq_false h1,decide_eq_false (by omega)]
    have h1:¬X / 18446744073709551616<Y / 18446744073709551616:=by omega
    rw [decide_eq_false h1,yae]
    cases e1:(X / 18446744073709551616 == Y / 18446744073709551616)
    ·rw [yae]
     refine yuJ Y0 (by omega) (by omega) (fun c1 c2=>?_)
     exact yzR (by omega) (by omega) g1 (by omega) ⟨by omega,b2⟩ ⟨by omega,d2⟩ kk
    ·rw [yam,decide_eq_false (show ¬X % 18446744073709551616<Y % 18446744073709551616 by have:=beq_iff_eq.1 e1;omega),yae]
     refine yuJ Y0 (by omega) (by omega) (fun c1 c2=>?_)
     exact yzR (by omega) (by omega) g1 (by omega) ⟨by omega,b2⟩ ⟨by omega,d2⟩ kk
 ·rw [if_neg h] at k
  have:(chk2 a b c d !=(0:Int))=true:=by rw [bne_iff_ne];exact h
  rw [this,yam]
  exact k
theorem RV.neg {c d:Int} (h:RV c d):RV (-c) d:=by
 obtain ⟨d1,d2,c1,c2,g⟩:=h
 exact ⟨d1,d2,by omega,by omega,by rw [Int.natAbs_neg];exact g⟩
theorem yOq {a b c d:Int} (ha:I64 a) (hb:I64 b) (hc:I64 c) (hd:I64 d) {K:Int→Int→Int→Prop}
  (k:if chk2 a b c d=0 then outA (decide (a*(d / (Nat.gcd b.natAbs d.natAbs:Nat))+-c*(b / (Nat.gcd b.natAbs d.natAbs:Nat))<0))
    ((a*(d / (Nat.gcd b.natAbs d.natAbs:Nat))+-c*(b / (Nat.gcd b.natAbs d.natAbs:Nat))).natAbs:Int) b d (Nat.gcd b.natAbs d.natAbs) K
   else K 0 0 (chk2 a b c d)):ybW a b c d K:=by
 unfold ybW ynz
 refine yqa ha hb hc hd ?_
 by_cases h:chk2 a b c d=0
 ·rw [if_pos h] at k
  have:(chk2 a b c d !=(0:Int))=false:=by rw [h];rfl
  rw [this,yae]
  obtain ⟨hab,hcd⟩:=yey.1 h
  obtain ⟨d1,d2,c1,c2,_⟩:=id hcd
  rw [wi64 (n:=0-c) ⟨by omega,by omega⟩,Int.zero_sub]
  refine yLp ha hb ⟨by omega,by omega⟩ hd ?_
  rw [if_pos (yey.2 ⟨hab,hcd.neg⟩)]
  exact k
 ·rw [if_neg h] at k
  have:(chk2 a b c d !=(0:Int))=true:=by rw [bne_iff_ne];exact h
  rw [this,yam]
  exact k
def ints (l:List Int):List PV:=l.map (PV.int .i64)
theorem ybx (l:List Int):(ints l).length=l.length:=qAq ..
theorem yEb {l:List Int} {i:Nat} (h:i<l.length):List.getD (ints l) i .nils=.int .i64 (l.getD i 0):=by
 unfold ints
 rw [qAb,qAb,qA3,qAa h]
 rfl
theorem ydw {l:List Int} {i:Nat} (h:i<l.length):yac (List.getD (ints l) i .nils)=l.getD i 0:=by
 rw [yEb h];rfl
theorem yie {l:List Int} {i:Nat} (h:i<l.length):conf zI (List.getD (ints l) i .nils)=true:=by
 rw [yEb h];rfl
theorem ylQ {c:Bool} {P:Prop} (h:c=true) (p:P):asr c P:=by rw [h,yau];exact p
theorem yr8 {c:Prop} [Decidable c] {P:Prop} (h:c) (p:P):asr (decide c) P:=ylQ (decide_eq_true h) p
theorem yIL {c:Prop} [Decidable c] {P Q:Prop} (h:c) (p:P):cbr (decide c) P Q:=by rw [decide_eq_true h,yam];exact p
theorem yB9 {c:Prop} [Decidable c] {P Q:Prop} (h:¬c) (q:Q):cbr (decide c) P Q:=by rw [decide_eq_false h,yae];exact q
def mnf (m x:Int):Int:=if x<m then x else m
theorem yLq {l:List Int} (hl:l.length<9223372036854775807) (x0:List PV→Int→Int→Bool→Prop) :
  ∀ (rest:List Int) (i:Nat) (m:Int) (n:Nat),l.drop i=rest→i≤l.length→rest.length<n→x0 (ints l) (rest.foldl mnf m) (l.length:Int) false →
   ycV x0 n (ints l) m (i:Int):=by
 intro rest
 induction rest with
 | nil =>
  intro i m n hd hi hn k
  have:i=l.length:=by
   have:=congrArg List.length hd
   rw [qAx] at this
   have h2:([]:List Int).length=0:=rfl
   omega
  match n,hn with
  | n+1,_ =>
   unfold ycV
   rw [ybx,this]
   exact yB9 (by omega) k
 | cons x t ih =>
  intro i m n hd hi hn k
  have hlt:i<l.length:=by
   have:=congrArg List.length hd
   rw [qAx,qAc] at this
   omega
  have hx:l.getD i 0=x:=by
   have:=List.getElem_drop (xs:=l) (i:=i) (j:=0) (h:=by rw [hd];exact Nat.zero_lt_succ _)
   rw [qAb,qAa hlt]
   simp only [hd,List.getElem_cons_zero,Nat.add_zero] at this
   exact this.symm
  have ht:l.drop (i+1)=t:=by rw [← List.tail_drop,hd];rfl
  match n,hn with
  | n+1,hn =>
   unfold ycV
   rw [ybx]
   refine yIL (by omega) ?_
   refine yr8 (by omega) (yr8 (by omega) (ylQ (yie (by omega)) ?_))
   rw [qAe,ydw hlt,hx,wi64 (n:=(i:Int)+1) ⟨by omega,by omega⟩]
   exact ih (i+1) _ n ht (by omega) (by rw [qAc] at hn;omega) k
theorem yOr {l:List Int} (hl:l.length<9223372036854775807) {x:Int} {t:List Int} (e:l=x::t) {K:Int→Prop} (k:K (t.foldl mnf x)):yer (ints l) K:=by
 have h0:0<l.length:=by rw [e];exact Nat.zero_lt_succ _
 unfold yer yh2
 rw [ybx]
 refine yB9 (by omega) (yr8 (by omega) (ylQ (yie h0) ⟨l.length+1,?_⟩))
 have e0:l.getD 0 0=x:=by rw [e];rfl
 rw [ydw h0,e0]
 refine yLq hl _ t 1 x _ (by rw [e];rfl) (by omega) (by rw [e,qAc];omega) ?_
 exact k
def mxf (m x:Int):Int:=if x>m then x else m
theorem yLr {l:List Int} (hl:l.length<9223372036854775807) (x0:List PV→Int→Int→Bool→Prop) :
  ∀ (rest:List Int) (i:Nat) (m:Int) (n:Nat),l.drop i=rest→i≤l.length→rest.length<n→x0 (ints l) (rest.foldl mxf m) (l.length:Int) false →
   ycW x0 n (ints l) m (i:Int):=by
 intro rest
 induction rest with
 | nil =>
  intro i m n hd hi hn k
  have:i=l.length:=by
   have:=congrArg List.length hd
   rw [qAx] at this
   have h2:([]:List Int).length=0:=rfl
   omega
  match n,hn with
  | n+1,_ =>
   unfold ycW
   rw [ybx,this]
   exact yB9 (by omega) k
 | cons x t ih =>
  intro i m n hd hi hn k
  have hlt:i<l.length:=by
   have:=congrArg List.length hd
   rw [qAx,qAc] at this
   omega
  have hx:l.getD i 0=x:=by
   have:=List.getElem_drop (xs:=l) (i:=i) (j:=0) (h:=by rw [hd];exact Nat.zero_lt_succ _)
   rw [qAb,qAa hlt]
   simp only [hd,List.getElem_cons_zero,Nat.add_zero] at this
   exact this.symm
  have ht:l.drop (i+1)=t:=by rw [← List.tail_drop,hd];rfl
  match n,hn with
  | n+1,hn =>
   unfold ycW
   rw [ybx]
   refine yIL (by omega) ?_
   refine yr8 (by omega) (yr8 (by omega) (ylQ (yie (by omega)) ?_))
   rw [qAe,ydw hlt,hx,wi64 (n:=(i:Int)+1) ⟨by omega,by omega⟩]
   exact ih (i+1) _ n ht (by omega) (by rw [qAc] at hn;omega) k
theorem yLs {l:List Int} (hl:l.length<9223372036854775807) {x:Int} {t:List Int} (e:l=x::t) {K:Int→Prop} (k:K (t.foldl mxf x)):yet (ints l) K:=by
 have h0:0<l.length:=by rw [e];exact Nat.zero_lt_succ _
 unfold yet yh4
 rw [ybx]
 refine yB9 (by omega) (yr8 (by omega) (ylQ (yie h0) ⟨l.length+1,?_⟩))
 have e0:l.getD 0 0=x:=by rw [e];rfl
 rw [ydw h0,e0]
 refine yLr hl _ t 1 x _ (by rw [e];rfl) (by omega) (by rw [e,qAc];omega) ?_
 exact k
def incr (l:List Int) (i:Nat):Prop:=∀ j,i≤j→j+1<l.length→l.getD j 0<l.getD (j+1) 0
theorem yHR {l:List Int} {p2:List PV} {p0:Int} (hl:l.length<9223372036854775807) (W1 W2:List PV→(Int→Prop)→Prop) (x0:Int→Prop) (x1:Int→List PV→List PV→Int→Int→Bool→Prop) :
  ∀ (r i n:Nat),i+r+1=l.length→r<n→(incr l i→x1 p0 (ints l) p2 ((l.length:Int)-1) ((l.length:Int)-1) false)→(¬incr l i→x0 8) →
   yd1 W1 W2 x0 x1 n p0 (ints l) p2 ((l.length:Int)-1) (i:Int):=by
 intro r
 induction r with
 | zero =>
  intro i n hi hn k _
  match n,hn with
  | n+1,_ =>
   unfold yd1
   have e:(i:Int)=(l.length:Int)-1:=by omega
   refine yB9 (by omega) ?_
   rw [e]
   exact k (fun j h1 h2=>by omega)
 | succ r ih =>
  intro i n hi hn k k0
  match n,hn with
  | n+1,hn =>
   unfold yd1
   rw [wi64 (n:=(i:Int)+1) ⟨by omega,by omega⟩,ybx]
   have e1:((i:Int)+1)=((i+1:Nat):Int):=by omega
   rw [e1,qAe,qAe]
   refine yIL (by omega) (yr8 (by omega) (yr8 (by omega) (ylQ (yie (by omega)) (yr8 (by omega) (yr8 (by omega) (ylQ (yie (by omega)) ?_))))))
   rw [ydw (by omega),ydw (by omega)]
   by_cases h:l.getD i 0≥l.getD (i+1) 0
   ·exact yIL h (k0 fun hc=>absurd (hc i (qAk _) (by omega)) (by omega))
   ·refine yB9 h (ih (i+1) n (by omega) (by omega) (fun hc=>k fun j h1 h2=>?_) (fun hc=>k0 fun hd=>hc fun j h1 h2=>hd j (by omega) h2))
    by_cases hj:j=i
    ·subst hj;omega
    ·exact hc j (by omega) h2
def small (q:Rat):Prop:=-1000000000000000000≤q.num∧q.num≤1000000000000000000∧(q.den:Int)≤1000000000000000000
instance (q:Rat):Decidable (small q):=by unfold small;infer_instance
theorem small.rv {q:Rat} (h:small q):RV q.num q.den:=by
 obtain ⟨h1,h2,h3⟩:=h
 have:=q.den_pos
 exact ⟨by omega,h3,h1,h2,q.reduced⟩
theorem yHS {n d:Int} (h:RV n d):∃ q:Rat,small q∧q.num=n∧(q.den:Int)=d:=by
 obtain ⟨h1,h2,h3,h4,h5⟩:=h
 refine ⟨⟨n,d.toNat,by omega,?_⟩,⟨h3,h4,by show ((d.toNat:Nat):Int)≤_;omega⟩,rfl,by show ((d.toNat:Nat):Int)=_;omega⟩
 have:d.natAbs=d.toNat:=by omega
 rw [this] at h5
 exact h5
theorem small.i1 {q:Rat} (h:small q):I64 q.num:=⟨by have:=h.1;omega,by have:=h.2.1;omega⟩
theorem small.i2 {q:Rat} (h:small q):I64 (q.den:Int):=⟨by omega,by have:=h.2.2;omega⟩
theorem ykD {q r:Rat} (h:small q) (k:small r):chk2 q.num q.den r.num r.den=0:=yey.2 ⟨h.rv,k.rv⟩
def fitK (q:Rat) (K:Int→Int→Int→Prop):Prop:=if small q then K q.num q.den 0 else K 0 0 16
theorem yzS {q:Rat} {s:Bool} {a b:Int} (ha:a=(q.num.natAbs:Int)) (hb:b=(q.den:Int)) (hs:q.num≠0→s=decide (q.num<0)) (K:Int→Int→Int→Prop):outS s a b K=fitK q K:=by
 unfold outS fitK
 subst ha hb
 by_cases h:small q
 ·have h':=h
  obtain ⟨h1,h2,h3⟩:=h
  rw [if_pos (show _∧_ from ⟨by omega,h3⟩),if_pos h']
  have e:(if s=true then -((q.num.natAbs:Nat):Int) else ((q.num.natAbs:Nat):Int))=q.num:=by
   by_cases h0:q.num=0
   ·rw [h0];cases s <;> rfl
   ·rw [hs h0]
    by_cases h1:q.num<0
    ·rw [decide_eq_true h1,if_pos rfl];omega
    ·rw [decide_eq_false h1,if_neg (by simp)];omega
  rw [e]
 ·rw [if_neg h,if_neg]
  intro h2
  exact h ⟨by omega,by omega,h2.2⟩
theorem yFY (x:Int) (g:Nat):(Int.tdiv x g).natAbs=x.natAbs / g:=by rw [Int.natAbs_tdiv,Int.natAbs_natCast];rfl
theorem yCa {x:Int} {g:Nat} (h:(g:Int)∣x) (hx:x≠0):decide (Int.tdiv x g<0)=decide (x<0):=by
 obtain ⟨k,rfl⟩:=h
 have hg:(g:Int)≠0:=fun e=>hx (by rw [e,Int.zero_mul])
 rw [Int.mul_tdiv_cancel_left _ hg]
 have h1:(g:Int)>0:=by have:=Int.natCast_nonneg g;omega
 have:(g:Int)*k<0↔k<0:=by
  constructor
  ·intro h;refine Int.not_le.1 fun hk=>?_
   have:=qBf (show 0≤(g:Int) by omega) hk
   omega
  ·intro h;exact Int.mul_neg_of_pos_of_neg h1 h
 simp only [this]
theorem yJ1 (q r:Rat):(q*r).num=Int.tdiv q.num (Nat.gcd q.num.natAbs r.den)*Int.tdiv r.num (Nat.gcd r.num.natAbs q.den) ∧
  (q*r).den=(q.den / Nat.gcd r.num.natAbs q.den)*(r.den / Nat.gcd q.num.natAbs r.den):=by
 have e:q*r=Rat.mul q r:=rfl
 rw [e]
 delta Rat.mul
 constructor
 ·simp only [Int.divExact_eq_tdiv]
 ·simp only [Nat.divExact_eq_div]
theorem ymC (x:Int) (d:Nat):((Nat.gcd x.natAbs d:Nat):Int)∣x:=by
 rw [← Int.dvd_natAbs,Int.ofNat_dvd];exact Nat.gcd_dvd_left _ _
theorem yIM {x:Int} {g:Nat} (h:(g:Int)∣x) (hx:x≠0):Int.tdiv x g≠0:=by
 obtain ⟨k,rfl⟩:=h
 have hg:(g:Int)≠0:=fun e=>hx (by rw [e,Int.zero_mul])
 rw [Int.mul_tdiv_cancel_left _ hg]
 intro e;rw [e,Int.mul_zero] at hx;exact hx rfl
theorem yLt {x y:Int} (hx:x≠0) (hy:y≠0):decide (x*y<0)=(decide (x<0) != decide (y<0)):=by
 by_cases h1:x<0 <;> by_cases h2:y<0
 ·have:=Int.mul_pos_of_neg_of_neg h1 h2
  simp [h1,h2];omega
 ·have:=Int.mul_neg_of_neg_of_pos h1 (show 0<y by omega)
  simp [h1,h2];omega
 ·have:=Int.mul_neg_of_pos_of_neg (show 0<x by omega) h2
  simp [h1,h2];omega
 ·have:=Int.mul_pos (show 0<x by omega) (show 0<y by omega)
  simp [h1,h2];omega
theorem yIN (q r:Rat) (K:Int→Int→Int→Prop):outS (decide (q.num<0) != decide (r.num<0)) (numM q.num r.num q.den r.den) (denM q.num r.num q.den r.den) K=fitK (q*r) K:=by
 obtain ⟨e1,e2⟩:=yJ1 q r
 refine yzS ?_ ?_ ?_ K
 ·rw [e1,Int.natAbs_mul,yFY,yFY]
  simp only [numM,Int.natAbs_natCast]
 ·rw [e2]
  simp only [denM,Int.natAbs_natCast]
 ·intro h
  rw [e1] at h ⊢
  have h1:q.num≠0:=fun e=>h (by rw [e,Int.zero_tdiv,Int.zero_mul])
  have h2:r.num≠0:=fun e=>h (by rw [e,Int.zero_tdiv,Int.mul_zero])
  rw [yLt (yIM (ymC _ _) h1) (yIM (ymC _ _) h2),yCa (ymC _ _) h1,yCa (ymC _ _) h2]
theorem yuK {w:(Int→Int→Int→Prop)→Prop} {q:Rat} (det:∀ r0 r1 r2,(∀ K:Int→Int→Int→Prop,K r0 r1 r2→w K)→∀ K,w K=K r0 r1 r2) (h:∀ K,fitK q K→w K) (K:Int→Int→Int→Prop):w K=fitK q K:=by
 unfold fitK at h ⊢
 by_cases hs:small q
 ·simp only [if_pos hs] at h ⊢
  exact det _ _ _ h K
 ·simp only [if_neg hs] at h ⊢
  exact det _ _ _ h K
theorem yEc {q r:Rat} (hq:small q) (hr:small r) (K:Int→Int→Int→Prop):ybO q.num q.den r.num r.den K=fitK (q*r) K :=
 yuK (fun r0 r1 r2 h K=>yAL _ _ _ _ r0 r1 r2 h K) (fun K k=>yHQ hq.i1 hq.i2 hr.i1 hr.i2 (by rw [if_pos (ykD hq hr),yIN];exact k)) K
theorem yJ2 {r:Rat} (h:r≠0):(r⁻¹).num=(if r.num<0 then -(r.den:Int) else r.den)∧(r⁻¹).den=r.num.natAbs:=by
 have h0:r.num≠0:=fun e=>h (Rat.num_eq_zero.1 e)
 constructor
 ·rw [Rat.num_inv]
  by_cases h1:r.num<0
  ·rw [if_pos h1,Int.sign_eq_neg_one_of_neg h1];omega
  ·rw [if_neg h1,Int.sign_eq_one_of_pos (by omega)];omega
 ·rw [Rat.den_inv,if_neg h0]
theorem yIO {q r:Rat} (hq:small q) (hr:small r) (h0:r≠0) (K:Int→Int→Int→Prop):yaJ q.num q.den r.num r.den K=fitK (q / r) K:=by
 have hn:r.num≠0:=fun e=>h0 (Rat.num_eq_zero.1 e)
 refine yuK (fun r0 r1 r2 h K=>yAM _ _ _ _ r0 r1 r2 h K) (fun K k=>yOp hq.i1 hq.i2 hr.i1 hr.i2 ?_) K
 rw [if_pos (ykD hq hr),if_neg hn]
 rw [Rat.div_def,← yIN] at k
 obtain ⟨e1,e2⟩:=yJ2 h0
 rw [e1,e2] at k
 have s:decide ((if r.num<0 then -(r.den:Int) else (r.den:Int))<0)=decide (r.num<0):=by
  have:=r.den_pos
  split
  ·rename_i h;simp only [h];simp;omega
  ·rename_i h;simp only [h];simp
 rw [s] at k
 have hd:(if r.num<0 then -(r.den:Int) else (r.den:Int)).natAbs=r.den:=by split <;> omega
 unfold numM denM at k ⊢
 simp only [hd,Int.natAbs_natCast] at k ⊢
 exact k
theorem yJ3 (q r:Rat):(q+r).num=(q.num*(r.den / Nat.gcd q.den r.den:Nat)+r.num*(q.den / Nat.gcd q.den r.den:Nat)) / (Nat.gcd (q.num*(r.den / Nat.gcd q.den r.den:Nat)+r.num*(q.den / Nat.gcd q.den r.den:Nat)).natAbs (Nat.gcd q.den r.den):Nat) ∧
  (q+r).den=(q.den / Nat.gcd q.den r.den)*r.den / Nat.gcd (q.num*(r.den / Nat.gcd q.den r.den:Nat)+r.num*(q.den / Nat.gcd q.den r.den:Nat)).natAbs (Nat.gcd q.den r.den):=by
 have e:q+r=Rat.add q r:=rfl
 rw [e]
 delta Rat.add
 by_cases hg:q.den.gcd r.den=1
 ·simp only [hg,dif_pos,Nat.div_one,Nat.gcd_one_right,Int.natCast_one,Int.ediv_one,and_self]
 ·simp only [hg,dif_neg,not_false_eq_true,Rat.maybeNormalize_eq]
  constructor
  ·first | rfl | simp only [Int.divExact_eq_tdiv]
  ·first | rfl | simp only []
end Go.Pf.Vc
