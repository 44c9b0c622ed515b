/- Part 4 of what the statement rests on: a verified evaluator over pure values, the conditions of the program's functions, and their plain laws. -/
import Derived.Test.YtijdgcomldpncaaTtW3
namespace Go.Pf.Vc
open Go Go.Pf
set_option linter.unusedVariables false
theorem yvL (p0:Int) (p1:Ls) (p2:Ls) (r0:Int) (h:∀ K:Int→Prop,K r0→yfn p0 p1 p2 K) (K:Int→Prop):yfn p0 p1 p2 K=K r0 :=
 propext ⟨fun k=>detC (yqi [] yaP) (as:=[(.agg [(.int .i64 p0),(.data p1),(.data p2)])]) (x:=(.int .i64 r0)) (fun K' k'=>h (fun r0=>K' (.int .i64 r0)) k') (K:=fun x=>match x with | (.int .i64 r0)=>K r0 | _=>False) k,h K⟩
end Go.Pf.Vc
namespace Go.Pf.Vc
open Go Go.Pf
set_option maxRecDepth 100000
abbrev yaT:Type:=Ls→(Bool→Prop)→Prop
def ybp (a0:yfk) (x0:Bool→Prop) (x1:Ls→Int→Bool→Prop):Nat→Ls→Int→Prop
 | 0,_,_=>False
 | n+1,l0,i1 =>
 (cbr (decide (i1<(((List.length l0):Nat):Int)))
 (asr (decide ((0:Int)≤i1))
 (asr (decide (i1<(((List.length l0):Nat):Int)))
 (asr (conf (.agg [.i .i64,.d,.d]) (List.getD l0 (i1.toNat) .nils))
 (a0 (yab (yai (List.getD l0 (i1.toNat) .nils) 0)) (ybq (yai (List.getD l0 (i1.toNat) .nils) 1)) (ybq (yai (List.getD l0 (i1.toNat) .nils) 2)) (fun a =>
 (cbr a
 (x0 true)
 (ybp a0 x0 x1 n l0 (IntKind.i64.wrap (i1+(1:Int))))))))))
 (x1 l0 i1 false))
def yfR (a0:yfk) (p0:Ls) (K:Bool→Prop):Prop :=
 (∃ n:Nat,ybp a0
 (fun a=>(K a))
 (fun b _ _=>(K (decide ((((List.length b):Nat):Int)>(10:Int)))))
 n p0 (0:Int))
def ycy:yaT:=yfR yeg
def yfS:Sg:=⟨pt9,Bool→Prop,fun K=>(fun r0=>K (.bool r0))⟩
def ymt (Q:Qx):Bool→Prop:=(fun b0=>Q .ret [(2,.v (.bool b0))] [])
def ymu (Q:Qx):Ls→Int→Bool→Prop:=(fun l0 i1 b2=>Q (.exit 0) [(0,.v (.data l0)),(3,.v (.int .i64 i1)),(7,.v (.bool b2))] [])
def yg5 (a0:yfk) (Q:Qx):List St:=[⟨(pS hN (fV 0 vD (fV 3 pt0 fN)) fN),ybp a0 (ymt Q) (ymu Q)⟩]
def yih (a0:yfk):LP:=lpS [(4277600,yg5 a0)]
def yfT (e:Es) (a0:yfk):SE:=sE (E e) [(ygE,yx9.pw a0)] (yih a0)
theorem yhX (e:Es) (he:EG e):SEOk (Uni (E e)) (yfT e yeg):=yak (Sub.uni _) ⟨(yyc e he),trivial⟩ trivial he.ok
theorem ylo (e:Es) (a0):ycX (yfT e a0) 5 a ym5 false (yg5 a0):=fun _=>⟨fun _=>by kernel_rfl,fun _ _=>by kernel_rfl,trivial⟩
theorem ylp (e:Es) (he:EG e):LpT (Uni (E e)) (yih yeg) [] 4277600 (.loop 4277600 ym5):=fun _ _ _=>ylD.st (Sub.uni _) (yaz (yhX e he) 5) (YOk.no _ _) (yae (by kernel_rfl)) (ylo e _ _)
theorem yqj (e:Es) (a0):EqW (yfT e a0) 6 yqX yfS (yfR a0):=fun _ _=>by kernel_rfl
theorem yii (e:Es) (he:EG e):OkF (E e) (yfS.pw ycy) ydm:=okU he (yqj e _) (yhX e he) yhM.flat (ya8 (l:=[(4277600,.loop 4277600 ym5)]) ⟨ylp e he,trivial⟩ (by kernel_rfl))
def ycU (a0:yaj) (a:Int→Prop) (b:Ls→Ls→Int→Bool→Prop):Nat→Ls→Ls→Int→Prop
 | 0,_,_,_=>False
 | c+1,l0,l1,i2 =>
 (cbr (decide (i2<(((List.length l0):Nat):Int)))
 (asr (decide ((0:Int)≤i2))
 (asr (decide (i2<(((List.length l0):Nat):Int)))
 (asr (conf (.agg [.i .i64,.d,.d]) (List.getD l0 (i2.toNat) .nils))
 (a0 (yab (yai (List.getD l0 (i2.toNat) .nils) 0)) (ybq (yai (List.getD l0 (i2.toNat) .nils) 1)) (ybq (yai (List.getD l0 (i2.toNat) .nils) 2)) (fun e =>
 (cbr (e !=(0:Int))
 (asr (decide ((0:Int)≤i2))
 (asr (decide (i2<(((List.length l0):Nat):Int)))
 (asr (conf (.agg [.i .i64,.d,.d]) (List.getD l0 (i2.toNat) .nils))
 (a0 (yab (yai (List.getD l0 (i2.toNat) .nils) 0)) (ybq (yai (List.getD l0 (i2.toNat) .nils) 1)) (ybq (yai (List.getD l0 (i2.toNat) .nils) 2)) (fun f =>
 (a f))))))
 (ycU a0 a b c l0 l1 (IntKind.i64.wrap (i2+(1:Int))))))))))
 (b l0 l1 i2 false))
def ybY (a0:yaj) (a:Int→Prop) (b:Ls→Ls→Int→Bool→Prop):Nat→Ls→Ls→Int→Prop
 | 0,_,_,_=>False
 | c+1,l0,l1,i2 =>
 (cbr (decide (i2<(((List.length l0):Nat):Int)))
 (asr (decide ((0:Int)≤i2))
 (asr (decide (i2<(((List.length l0):Nat):Int)))
 (asr (conf (.agg [.i .i64,.d,.d]) (List.getD l0 (i2.toNat) .nils))
 (asr (decide ((0:Int)<(((List.length l0):Nat):Int)))
 (asr (conf (.agg [.i .i64,.d,.d]) (List.getD l0 0 .nils))
 (cbr ((yab (yai (List.getD l0 (i2.toNat) .nils) 0)) !=(yab (yai (List.getD l0 0 .nils) 0)))
 (a (8:Int))
 (ybY a0 a b c l0 l1 (IntKind.i64.wrap (i2+(1:Int))))))))))
 (b l0 l1 i2 false))
def ykT (a0:yaj) (p0 p1:Ls) (K:Int→Prop):Prop :=
 (cbr (decide ((((List.length p0):Nat):Int)>(6:Int)))
 (K (4:Int))
 (cbr (decide ((((List.length p1):Nat):Int)>(2000:Int)))
 (K (4:Int))
 (cbr ((((List.length p0):Nat):Int) ==(0:Int))
 (K (8:Int))
 (∃ a:Nat,ycU a0
 (fun b=>(K b))
 (fun c d _ _=>(∃ e:Nat,ybY a0
 (fun f=>(K f))
 (fun _ _ _ _=>(K (0:Int)))
 e c d (0:Int)))
 a p0 p1 (0:Int)))))
def yfo:ybC:=ykT yaW
def ysJ (Q:Qx):Int→Prop:=(fun i0=>Q .ret [(2,.v (.int .i64 i0))] [])
def ysK (Q:Qx):Ls→Ls→Int→Bool→Prop:=(fun l0 l1 i2 b3=>Q (.exit 0) [(1,.box (.agg [(.data l0),(.data l1)])),(3,.v (.int .i64 i2)),(23,.v (.bool b3))] [])
def ysL (Q:Qx):Int→Prop:=(fun i0=>Q .ret [(2,.v (.int .i64 i0))] [])
def ysM (Q:Qx):Ls→Ls→Int→Bool→Prop:=(fun l0 l1 i2 b3=>Q (.exit 2) [(1,.box (.agg [(.data l0),(.data l1)])),(4,.v (.int .i64 i2)),(43,.v (.bool b3))] [])
def ymv (a0:yaj) (Q:Qx):List St:=[⟨(pS hN (fX 1 pt20 (fV 3 pt0 fN)) fN),ycU a0 (ysJ Q) (ysK Q)⟩]
def ymw (a0:yaj) (Q:Qx):List St:=[⟨(pS hN (fX 1 pt20 (fV 4 pt0 fN)) fN),ybY a0 (ysL Q) (ysM Q)⟩]
def ykU (a0:yaj):LP:=lpS [(6981300,ymv a0),(6981301,ymw a0)]
def yhj (e:Es) (a0:yaj):SE:=sE (E e) [(ycY,yiA.pw a0)] (ykU a0)
theorem yiM (e:Es) (he:EG e):SEOk (Uni (E e)) (yhj e yaW):=yak (Sub.uni _) ⟨(ykL e he),trivial⟩ trivial he.ok
theorem yrr (e:Es) (a0):ycX (yhj e a0) 5 a ym6 false (ymv a0):=fun _=>⟨fun _=>by kernel_rfl,fun _ _=>by kernel_rfl,trivial⟩
theorem yrs (e:Es) (he:EG e):LpT (Uni (E e)) (ykU yaW) [] 6981300 (.loop 6981300 ym6):=fun _ _ _=>ylD.st (Sub.uni _) (yaz (yiM e he) 5) (YOk.no _ _) (yae (by kernel_rfl)) (yrr e _ _)
theorem yrt (e:Es) (a0):ycX (yhj e a0) 5 a ym7 false (ymw a0):=fun _=>⟨fun _=>by kernel_rfl,fun _ _=>by kernel_rfl,trivial⟩
theorem yru (e:Es) (he:EG e):LpT (Uni (E e)) (ykU yaW) [] 6981301 (.loop 6981301 ym7):=fun _ _ _=>ylD.st (Sub.uni _) (yaz (yiM e he) 5) (YOk.no _ _) (yae (by kernel_rfl)) (yrt e _ _)
theorem yyr (e:Es) (a0):EqW (yhj e a0) 6 yzZ yp2 (ykT a0):=fun _ _=>by kernel_rfl
theorem yqk (e:Es) (he:EG e):OkF (E e) (yp2.pw yfo) ygF:=okU he (yyr e _) (yiM e he) yhM.flat (ya8 (l:=[(6981300,.loop 6981300 ym6),(6981301,.loop 6981301 ym7)]) ⟨yrs e he,yru e he,trivial⟩ (by kernel_rfl))
end Go.Pf.Vc
namespace Go.Pf.Vc
open Go Go.Pf
set_option linter.unusedVariables false
theorem ypd (p0:Ls) (r0:Bool) (h:∀ K:Bool→Prop,K r0→ycy p0 K) (K:Bool→Prop):ycy p0 K=K r0 :=
 propext ⟨fun k=>detC (yii [] yaP) (as:=[(.data p0)]) (x:=(.bool r0)) (fun K' k'=>h (fun r0=>K' (.bool r0)) k') (K:=fun x=>match x with | (.bool r0)=>K r0 | _=>False) k,h K⟩
theorem yvM (p0:Ls) (p1:Ls) (r0:Int) (h:∀ K:Int→Prop,K r0→yfo p0 p1 K) (K:Int→Prop):yfo p0 p1 K=K r0 :=
 propext ⟨fun k=>detC (yqk [] yaP) (as:=[(.agg [(.data p0),(.data p1)])]) (x:=(.int .i64 r0)) (fun K' k'=>h (fun r0=>K' (.int .i64 r0)) k') (K:=fun x=>match x with | (.int .i64 r0)=>K r0 | _=>False) k,h K⟩
end Go.Pf.Vc
namespace Go.Pf.Vc
open Go Go.Pf
set_option maxRecDepth 100000
abbrev yg0:Type:=Ls→Ls→(Bool→Prop)→Prop
def yby (x0:Ls→Ls→Int→Bool→Prop) (x1:Bool→Prop):Nat→Ls→Ls→Int→Prop
 | 0,_,_,_=>False
 | n+1,l0,l1,i2 =>
 (cbr (decide (i2<(((List.length l0):Nat):Int)))
 (asr (decide ((0:Int)≤i2))
 (asr (decide (i2<(((List.length l0):Nat):Int)))
 (lt (List.getD l0 (i2.toNat) .nils) (fun a =>
 (asr (conf (.agg [.i .i64,.i .i64,.i .i64,.i .i64,.i .i64,.i .i64]) a)
 (asr (decide ((0:Int)≤i2))
 (asr (decide (i2<(((List.length l1):Nat):Int)))
 (lt (List.getD l1 (i2.toNat) .nils) (fun b =>
 (asr (conf (.agg [.i .i64,.i .i64,.i .i64,.i .i64,.i .i64,.i .i64]) b)
 (cbr (!(((yab (yai a 0)) ==(yab (yai b 0)))&&(((yab (yai a 1)) ==(yab (yai b 1)))&&(((yab (yai a 2)) ==(yab (yai b 2)))&&(((yab (yai a 3)) ==(yab (yai b 3)))&&(((yab (yai a 4)) ==(yab (yai b 4)))&&(((yab (yai a 5)) ==(yab (yai b 5)))&&true)))))))
 (x1 false)
 (lt (IntKind.i64.wrap (i2+(1:Int))) (fun c =>
 (yby x0 x1 n l0 l1 c))))))))))))))
 (x0 l0 l1 i2 false))
def ygc (p0 p1:Ls) (K:Bool→Prop):Prop :=
 (cbr ((((List.length p0):Nat):Int) !=(((List.length p1):Nat):Int))
 (K false)
 (∃ n:Nat,yby
 (fun _ _ _ _=>(K true))
 (fun a=>(K a))
 n p0 p1 (0:Int)))
def ycV:yg0:=ygc
def yrv:Sg:=⟨(lC vD pt9),Bool→Prop,fun K=>(fun r0=>K (.bool r0))⟩
def ynD (Q:Qx):Ls→Ls→Int→Bool→Prop:=(fun l0 l1 i2 b3=>Q (.exit 0) [(0,.v (.data l0)),(1,.v (.data l1)),(5,.v (.int .i64 i2)),(14,.v (.bool b3))] [])
def ynE (Q:Qx):Bool→Prop:=(fun b0=>Q .ret [(4,.v (.bool b0))] [])
def yhY (Q:Qx):List St:=[⟨(pS hN (fV 0 vD (fV 1 vD (fV 5 pt0 fN))) fN),yby (ynD Q) (ynE Q)⟩]
def yju:LP:=lpS [(32519300,yhY)]
def ygd (e:Es):SE:=sE (E e) [] (yju)
theorem yij (e:Es) (he:EG e):SEOk (Uni (E e)) (ygd e):=yak (Sub.uni _) trivial trivial he.ok
theorem ymx (e:Es):ycX (ygd e) 5 a ykb false (yhY):=fun _=>⟨fun _=>by kernel_rfl,fun _ _=>by kernel_rfl,trivial⟩
theorem ymy (e:Es) (he:EG e):LpT (Uni (E e)) (yju) [] 32519300 (.loop 32519300 ykb):=fun _ _ _=>ylD.st (Sub.uni _) (yaz (yij e he) 5) (YOk.no _ _) (yae (by kernel_rfl)) (ymx e _)
theorem yrw (e:Es):EqW (ygd e) 6 ysq yrv ygc:=fun _ _=>by kernel_rfl
theorem yjv (e:Es) (he:EG e):OkF (E e) (yrv.pw ycV) ydP:=okU he (yrw e) (yij e he) yhM.flat (ya8 (l:=[(32519300,.loop 32519300 ykb)]) ⟨ymy e he,trivial⟩ (by kernel_rfl))
def ykV (a0:yaj) (a1:yeu) (p0 _:Ls) (p2:Int) (K:Int→Int→Prop):Prop :=
 (asr (decide ((0:Int)≤p2))
 (asr (decide (p2<(((List.length p0):Nat):Int)))
 (asr (conf (.agg [.i .i64,.d,.d]) (List.getD p0 (p2.toNat) .nils))
 (a0 (yab (yai (List.getD p0 (p2.toNat) .nils) 0)) (ybq (yai (List.getD p0 (p2.toNat) .nils) 1)) (ybq (yai (List.getD p0 (p2.toNat) .nils) 2)) (fun a =>
 (a1 a (((List.length p0):Nat):Int) (fun b c _ =>
 (K b c))))))))
def ydB:ya0:=ykV yfn ykH
def yql:Sg:=⟨pt21,Int→Int→Prop,fun K=>(fun r0 r1=>K (.agg [(.int .i64 r0),(.int .i64 r1)]))⟩
def yys (e:Es) (a0:yaj) (a1:yeu):SE:=sE (E e) [(ygO,yiA.pw a0),(yhO,yn2.pw a1)] lp0
theorem yyt (e:Es) (a0 a1):EqW (yys e a0 a1) 6 yAp yql (ykV a0 a1):=fun _ _=>by kernel_rfl
theorem yyu (e:Es) (he:EG e):OkF (E e) (yql.pw ydB) ygP:=okU he (yyt e _ _) (yak (Sub.uni _) ⟨(yqi e he),(yAJ e he),trivial⟩ trivial he.ok) yhM.flat (yae (by kernel_rfl))
end Go.Pf.Vc
namespace Go.Pf.Vc
open Go Go.Pf
set_option linter.unusedVariables false
theorem yqm (p0:Ls) (p1:Ls) (r0:Bool) (h:∀ K:Bool→Prop,K r0→ycV p0 p1 K) (K:Bool→Prop):ycV p0 p1 K=K r0 :=
 propext ⟨fun k=>detC (yjv [] yaP) (as:=[(.data p0),(.data p1)]) (x:=(.bool r0)) (fun K' k'=>h (fun r0=>K' (.bool r0)) k') (K:=fun x=>match x with | (.bool r0)=>K r0 | _=>False) k,h K⟩
end Go.Pf.Vc
namespace Go.Pf.Vc
open Go Go.Pf
set_option maxRecDepth 100000
def yok (p0:Int) (K:Int→Int→Prop):Prop :=
 (K p0 (1:Int))
def yau:yaf:=yok
def yvN (e:Es):SE:=sE (E e) [] lp0
theorem yvO (e:Es):EqW (yvN e) 6 yxq yiD yok:=fun _ _=>by kernel_rfl
theorem yiN (e:Es) (he:EG e):OkF (E e) (yiD.pw yau) ycf:=okU he (yvO e) (yak (Sub.uni _) trivial trivial he.ok) yhM.flat (yae (by kernel_rfl))
def yiO (a0:ya0) (a1:yeu) (p0 p1:Ls) (p2:Int) (K:Int→Int→Prop):Prop :=
 (a0 p0 p1 p2 (fun a _ =>
 (a1 a (((List.length p0):Nat):Int) (fun b c _ =>
 (K b c)))))
def yc9:ya0:=yiO yme ydH
def yvP (e:Es) (a0:ya0) (a1:yeu):SE:=sE (E e) [(ygH,yxS.pw a0),(yfF,yn2.pw a1)] lp0
theorem yvQ (e:Es) (a0 a1):EqW (yvP e a0 a1) 6 yxu yql (yiO a0 a1):=fun _ _=>by kernel_rfl
theorem yvR (e:Es) (he:EG e):OkF (E e) (yql.pw yc9) yeq:=okU he (yvQ e _ _) (yak (Sub.uni _) ⟨(yxV e he),(yn3 e he),trivial⟩ trivial he.ok) yhM.flat (yae (by kernel_rfl))
def ykW (a0:yaC) (p0 p1 p2 p3:Int) (K:Bool→Prop):Prop :=
 (a0 p0 p1 p2 p3 (fun a _ =>
 (K (decide (a>(0:Int))))))
def ydC:yap:=ykW ydz
def yyv (e:Es) (a0:yaC):SE:=sE (E e) [(yea,yxD.pw a0)] lp0
theorem yyw (e:Es) (a0):EqW (yyv e a0) 6 yAd yku (ykW a0):=fun _ _=>by kernel_rfl
theorem yyx (e:Es) (he:EG e):OkF (E e) (yku.pw ydC) ygK:=okU he (yyw e _) (yak (Sub.uni _) ⟨(ykl e he),trivial⟩ trivial he.ok) yhM.flat (yae (by kernel_rfl))
abbrev yaJ:Type:=Ls→Ls→Ls→Nat→Nat→Nat→Int→Int→(Ls→Ls→Int→Int→Int→Int→Int→Int→Int→Ls→Prop)→Prop
def yaF (a0:yaf) (a1:ybW) (a2:ya0) (a3:yap) (a4:ybW) (x0:Ls→Ls→Ls→Int→Int→Int→Int→Int→Int→Int→Int→Nat→Nat→Nat→Int→Int→Int→Int→Int→Int→Nat→Nat→Nat→Int→Int→Bool→Prop) (x1:Ls→Ls→Ls→Int→Int→Int→Int→Int→Int→Int→Int→Nat→Nat→Nat→Int→Int→Int→Int→Int→Int→Int→Int→Nat→Nat→Nat→Int→Int→Bool→Prop) (x2:Ls→Ls→Ls→Int→Int→Int→Int→Int→Int→Int→Int→Int→Int→Int→Int→Int→Int→Int→Prop):Nat→Ls→Ls→Ls→Int→Int→Int→Int→Int→Int→Int→Int→Nat→Nat→Nat→Int→Int→Int→Int→Int→Int→Nat→Nat→Nat→Int→Int→Prop
 | 0,_,_,_,_,_,_,_,_,_,_,_,_,_,_,_,_,_,_,_,_,_,_,_,_,_=>False
 | n+1,l0,l1,l2,i3,i4,i5,i6,i7,i8,i9,i10,n11,n12,n13,i14,i15,i16,i17,i18,i19,n20,n21,n22,i23,i24 =>
 (cbr (decide (i24<i23))
 (jn (fun (g:Ls→Ls→Int→Int→Int→Int→Prop) =>
 (asr (decide ((0:Int)≤i24))
 (asr (decide (i24<((n20:Nat):Int)))
 (asr (decide ((List.length l0)=n21))
 (asr (decide ((0+(i24.toNat))<(List.length l0)))
 (lt (List.getD l0 (0+(i24.toNat)) .nils) (fun a =>
 (asr (conf (.one (.i .i64)) a)
 (cbr (((n11:Nat):Int) ==(1:Int))
 (x1 l0 l1 l2 i3 i4 i5 i6 i7 i8 i9 i10 n11 n12 n13 i14 i15 i16 i17 i18 i19 i24 (yab a) n20 n21 n22 i23 i24 true)
 (jn (fun (h:Ls→Ls→Int→Prop) =>
 (cbr (decide (i24>(0:Int)))
 (a1 l1 l2 (yab a) i3 i4 i8 i9 (fun b c s t j =>
 (cbr (j !=(0:Int))
 (x2 l0 l1 l2 i3 i4 i5 i6 i7 i8 i9 i10 (0:Int) (0:Int) (0:Int) (0:Int) (0:Int) (0:Int) j)
 (a2 b c (yab a) (fun u v =>
 (a3 s t u v (fun w =>
 (cbr (!w)
 (g b c i5 i8 i9 i10)
 (lt (IntKind.i64.wrap (i10+(1:Int))) (fun x =>
 (h b c x)))))))))))
 (h l1 l2 i10)))
 (fun d e k=>(a2 d e (yab a) (fun y z =>
 (a4 d e (yab a) i3 i4 y z (fun A B C D f =>
 (jn (fun (l:Ls→Ls→Int→Int→Int→Prop) =>
 (cbr (f ==(0:Int))
 (l A B (yab a) C D)
 (l d e i5 i8 i9)))
 (fun m o p q r=>(cbr (f !=(0:Int))
 (x2 l0 m o i3 i4 p i6 i7 q r k (0:Int) (0:Int) (0:Int) (0:Int) (0:Int) (0:Int) f)
 (g m o p q r k)))))))))))))))))))
 (fun E F G H I J=>(lt (IntKind.i64.wrap (i24+(1:Int))) (fun K =>
 (yaF a0 a1 a2 a3 a4 x0 x1 x2 n l0 E F i3 i4 G i6 i7 H I J n11 n12 n13 i14 i15 i16 i17 i18 i19 n20 n21 n22 i23 K)))))
 (x0 l0 l1 l2 i3 i4 i5 i6 i7 i8 i9 i10 n11 n12 n13 i14 i15 i16 i17 i18 i19 n20 n21 n22 i23 i24 false))
def yiP (a0:yaf) (a1:ybW) (a2:ya0) (a3:yap) (a4:ybW) (p0 p1 p2:Ls) (p3 p4 p5:Nat) (p6 p7:Int) (K:Ls→Ls→Int→Int→Int→Int→Int→Int→Int→Ls→Prop):Prop :=
 (asr (decide ((0:Int)<((p3:Nat):Int)))
 (asr (decide ((List.length p2)=p4))
 (asr (decide (0<(List.length p2)))
 (lt (List.getD p2 0 .nils) (fun a =>
 (asr (conf (.one (.i .i64)) a)
 (asr (decide ((0:Int)<(((List.length p0):Nat):Int)))
 (lt (List.getD p0 0 .nils) (fun b =>
 (asr (conf (.agg [.i .i64,.d,.d]) b)
 (a0 (yab (yai b 0)) (fun g h =>
 (jn (fun (c:Ls→Ls→Ls→Int→Int→Int→Int→Int→Int→Int→Int→Int→Int→Int→Int→Int→Int→Prop) =>
 (∃ n:Nat,yaF a0 a1 a2 a3 a4
 (fun j k l m o p q r s t u _ _ _ v w x y z A _ _ _ _ _ _=>(c j k l m o p q r s t u v w x y z A))
 (fun B C D E F G H I J L M _ _ _ N O Q R S T _ _ _ _ _ _ _ _=>(c B C D E F G H I J L M N O Q R S T))
 (fun e _ _ _ _ _ _ _ _ _ _ U V W X Y Z va=>(asr (decide ((List.length e)=(List.length p2)))
 (K ([]:Ls) ([]:Ls) U V W X Y Z va e)))
 n p2 p0 p1 p6 p7 (yab a) p6 p7 g h (0:Int) p3 p4 p5 (0:Int) (0:Int) (0:Int) (0:Int) (0:Int) (0:Int) p3 p4 p5 ((p3:Nat):Int) (0:Int)))
 (fun f vb vc _ _ vd ve vf vg vh vi _ _ _ _ _ _=>(asr (decide ((List.length f)=(List.length p2)))
 (K vb vc vd ve vf vg vh vi (0:Int) f))))))))))))))))
def yaA:yaJ:=yiP yau ybL yc9 ydC ycF
def ygx (w:yaJ) (as:Ls) (b:HB) (K:PV→Ls→Prop):Prop :=
 match as,b with
 | [(.agg [(.data p0),(.data p1)]),(.own 0 0 p3 p4 (some p5)),(.agg [(.int .i64 p6),(.int .i64 p7)])],⟨false,true,1,p2⟩=>w p0 p1 p2 p3 p4 p5 p6 p7 (fun r0 r1 r2 r3 r4 r5 r6 r7 r8 r9=>K (.tup [(.agg [(.data r0),(.data r1)]),(.agg [(.int .i64 r2),(.int .i64 r3),(.int .i64 r4),(.int .i64 r5),(.int .i64 r6),(.int .i64 r7)]),(.int .i64 r8)]) r9)
 | _,_=>False
def yol (as:Ls) (b:HB) (K:PV→Ls→Prop):Prop:=ygx yaA as b K
def yrx (Q:Qx):Ls→Ls→Ls→Int→Int→Int→Int→Int→Int→Int→Int→Nat→Nat→Nat→Int→Int→Int→Int→Int→Int→Nat→Nat→Nat→Int→Int→Bool→Prop:=(fun l0 l1 l2 i3 i4 i5 i6 i7 i8 i9 i10 n11 n12 n13 i14 i15 i16 i17 i18 i19 n20 n21 n22 i23 i24 b25=>Q (.exit 0) [(1,.v (.own 0 0 n11 n12 (some n13))),(3,.v (.ptr 1 1 0 0)),(5,.v (.ptr 2 1 0 0)),(6,.box (.agg [.nils,.nils])),(7,.box (.agg [(.int .i64 i14),(.int .i64 i15),(.int .i64 i16),(.int .i64 i17),(.int .i64 i18),(.int .i64 i19)])),(9,.v (.ptr 3 1 0 0)),(10,.v (.fn (.func ydo) [] [(.ptr 1 1 0 0),(.ptr 2 1 0 0),(.ptr 3 1 0 0)])),(29,.v (.own 0 0 n20 n21 (some n22))),(30,.v (.int .i64 i23)),(31,.v (.int .i64 i24)),(32,.v (.bool b25))] [⟨false,true,1,l0⟩,⟨false,true,2,([(.agg [(.data l1),(.data l2)])]:Ls)⟩,⟨false,true,2,([(.agg [(.int .i64 i3),(.int .i64 i4)])]:Ls)⟩,⟨false,true,6,([(.agg [(.int .i64 i5),(.int .i64 i6),(.int .i64 i7),(.int .i64 i8),(.int .i64 i9),(.int .i64 i10)])]:Ls)⟩])
def yry (Q:Qx):Ls→Ls→Ls→Int→Int→Int→Int→Int→Int→Int→Int→Nat→Nat→Nat→Int→Int→Int→Int→Int→Int→Int→Int→Nat→Nat→Nat→Int→Int→Bool→Prop:=(fun l0 l1 l2 i3 i4 i5 i6 i7 i8 i9 i10 n11 n12 n13 i14 i15 i16 i17 i18 i19 i20 i21 n22 n23 n24 i25 i26 b27=>Q (.exit 0) [(1,.v (.own 0 0 n11 n12 (some n13))),(3,.v (.ptr 1 1 0 0)),(5,.v (.ptr 2 1 0 0)),(6,.box (.agg [.nils,.nils])),(7,.box (.agg [(.int .i64 i14),(.int .i64 i15),(.int .i64 i16),(.int .i64 i17),(.int .i64 i18),(.int .i64 i19)])),(9,.v (.ptr 3 1 0 0)),(10,.v (.fn (.func ydo) [] [(.ptr 1 1 0 0),(.ptr 2 1 0 0),(.ptr 3 1 0 0)])),(11,.v (.int .i64 i20)),(12,.v (.int .i64 i21)),(29,.v (.own 0 0 n22 n23 (some n24))),(30,.v (.int .i64 i25)),(31,.v (.int .i64 i26)),(38,.v (.bool b27))] [⟨false,true,1,l0⟩,⟨false,true,2,([(.agg [(.data l1),(.data l2)])]:Ls)⟩,⟨false,true,2,([(.agg [(.int .i64 i3),(.int .i64 i4)])]:Ls)⟩,⟨false,true,6,([(.agg [(.int .i64 i5),(.int .i64 i6),(.int .i64 i7),(.int .i64 i8),(.int .i64 i9),(.int .i64 i10)])]:Ls)⟩])
def yrz (Q:Qx):Ls→Ls→Ls→Int→Int→Int→Int→Int→Int→Int→Int→Int→Int→Int→Int→Int→Int→Int→Prop:=(fun l0 l1 l2 i3 i4 i5 i6 i7 i8 i9 i10 i11 i12 i13 i14 i15 i16 i17=>Q .ret [(6,.box (.agg [.nils,.nils])),(7,.box (.agg [(.int .i64 i11),(.int .i64 i12),(.int .i64 i13),(.int .i64 i14),(.int .i64 i15),(.int .i64 i16)])),(8,.v (.int .i64 i17))] [⟨false,true,1,l0⟩,⟨false,true,2,([(.agg [(.data l1),(.data l2)])]:Ls)⟩,⟨false,true,2,([(.agg [(.int .i64 i3),(.int .i64 i4)])]:Ls)⟩,⟨false,true,6,([(.agg [(.int .i64 i5),(.int .i64 i6),(.int .i64 i7),(.int .i64 i8),(.int .i64 i9),(.int .i64 i10)])]:Ls)⟩])
def pt24:RPt:=rC pt20 rN
def pt25:VPt:=vA (lC pt0 (lC pt0 (lC pt0 (lC pt0 pt6))))
def pt26:RPt:=rC pt25 rN
def pt27:VPt:=vO 0 (nK 0) nV nV nV
def pt28:VPt:=vP 3 0 (nK 1) (nK 0)
def ylh (a0:yaf) (a1:ybW) (a2:ya0) (a3:yap) (a4:ybW) (Q:Qx):List St:=[⟨(pS (hB false true 1 rA (hB false true 2 pt24 (hB false true 2 (rC pt7 rN) (hB false true 6 pt26 hN)))) (fV 1 pt27 (fV 3 pt19 (fV 5 pt18 (fX 6 (vA (lC vNs (lC vNs lN))) (fX 7 pt25 (fV 9 pt28 (fV 10 (vF ydo lN (lC pt19 (lC pt18 (lC pt28 lN)))) (fV 29 pt27 (fV 30 pt0 (fV 31 pt0 fN)))))))))) fN),yaF a0 a1 a2 a3 a4 (yrx Q) (yry Q) (yrz Q)⟩]
def yom (a0:yaf) (a1:ybW) (a2:ya0) (a3:yap) (a4:ybW):LP:=lpS [(62467600,ylh a0 a1 a2 a3 a4)]
def yiQ (e:Es) (a0:yaf) (a1:ybW) (a2:ya0) (a3:yap) (a4:ybW):SE:=⟨(E e),yib [(ycf,yiD.pw a0),(ygJ,yr9.pw a1),(yeq,yql.pw a2),(ygK,yku.pw a3),(yhN,yr9.pw a4)],yic [(ydo,yuc)],yom a0 a1 a2 a3 a4,fun _=>none⟩
theorem ymz (e:Es) (he:EG e):SEOk (Uni (E e)) (yiQ e yau ybL yc9 ydC ycF):=yak (Sub.uni _) ⟨(yiN e he),(yp8 e he),(yvR e he),(yyx e he),(ysa e he),trivial⟩ ⟨⟨by kernel_rfl,by kernel_rfl,rfl,fun as=>ybi (by kernel_rfl) as,he.num _ (by kernel_rfl),by kernel_rfl,(yae (by kernel_rfl))⟩,trivial⟩ he.ok
theorem yqn (e:Es) (a0 a1 a2 a3 a4):ycX (yiQ e a0 a1 a2 a3 a4) 5 a yj5 false (ylh a0 a1 a2 a3 a4):=fun _=>⟨fun _=>by kernel_rfl,fun _ _=>by kernel_rfl,trivial⟩
theorem yqo (e:Es) (he:EG e):LpT (Uni (E e)) (yom yau ybL yc9 ydC ycF) [] 62467600 (.loop 62467600 yj5):=fun _ _ _=>ylD.st (Sub.uni _) (yaz (ymz e he) 5) (YOk.no _ _) (yae (by kernel_rfl)) (yqn e _ _ _ _ _ _)
theorem yvS (e:Es) (a0 a1 a2 a3 a4 p0 p1 p2 p3 p4 p5 p6 p7 K):WPL (yiQ e a0 a1 a2 a3 a4) 6 yxz [(.agg [(.data p0),(.data p1)]),(.own 0 0 p3 p4 (some p5)),(.agg [(.int .i64 p6),(.int .i64 p7)])] ⟨false,true,1,p2⟩ K=yiP a0 a1 a2 a3 a4 p0 p1 p2 p3 p4 p5 p6 p7 (fun r0 r1 r2 r3 r4 r5 r6 r7 r8 r9=>K (.tup [(.agg [(.data r0),(.data r1)]),(.agg [(.int .i64 r2),(.int .i64 r3),(.int .i64 r4),(.int .i64 r5),(.int .i64 r6),(.int .i64 r7)]),(.int .i64 r8)]) r9):=by kernel_rfl
theorem yon (e:Es) (he:EG e):OkL (E e) yol ydF:=by
 intro as b K h
 unfold yol ygx at h
 split at h
 · exact yIT (ymz e he) yhM.flat (ya8 (l:=[(62467600,.loop 62467600 yj5)]) ⟨yqo e he,trivial⟩ (by kernel_rfl)) (by kernel_rfl) (he.num _ (by kernel_rfl)) ((yvS ..).mpr h)
 · exact h.elim
abbrev yej:Type:=Ls→(Ls→Ls→Ls→Int→Prop)→Prop
def ydp (a0:ya6) (a1:yaf) (a2:yaJ) (a:Ls→Ls→Ls→Nat→Nat→Nat→Ls→Int→Ls→Ls→Nat→Nat→Nat→Int→Int→Bool→Prop):Nat→Ls→Ls→Ls→Nat→Nat→Nat→Ls→Int→Ls→Ls→Nat→Nat→Nat→Int→Int→Prop
 | 0,_,_,_,_,_,_,_,_,_,_,_,_,_,_,_=>False
 | b+1,l0,l1,l2,n3,n4,n5,l6,i7,l8,l9,n10,n11,n12,i13,i14 =>
 (cbr (decide (i14<i13))
 (asr (decide ((0:Int)≤i14))
 (asr (decide (i14<((n10:Nat):Int)))
 (asr (decide ((List.length l1)=n11))
 (asr (decide ((0+(i14.toNat))<(List.length l1)))
 (lt (List.getD l1 (0+(i14.toNat)) .nils) (fun c =>
 (asr (conf (.one (.i .i64)) c)
 (lt (IntKind.i64.wrap (i14+(1:Int))) (fun d =>
 (ydp a0 a1 a2 a b l0 (List.set l1 (0+(i14.toNat)) (.int .i64 i14)) l2 n3 n4 n5 l6 i7 l8 l9 n10 n11 n12 i13 d))))))))))
 (a l0 l1 l2 n3 n4 n5 l6 i7 l8 l9 n10 n11 n12 i13 i14 false))
def ydq (a0:ya6) (a1:yaf) (a2:yaJ) (a:Ls→Ls→Ls→Ls→Nat→Nat→Nat→Ls→Int→Ls→Ls→Int→Int→Int→Int→Int→Int→Ls→Ls→Int→Int→Int→Int→Int→Int→Nat→Nat→Nat→Int→Int→Bool→Prop) (b:Ls→Ls→Ls→Ls→Nat→Nat→Nat→Ls→Int→Ls→Ls→Int→Int→Int→Int→Int→Int→Ls→Ls→Int→Int→Int→Int→Int→Int→Int→Prop):Nat→Ls→Ls→Ls→Ls→Nat→Nat→Nat→Ls→Int→Ls→Ls→Int→Int→Int→Int→Int→Int→Ls→Ls→Int→Int→Int→Int→Int→Int→Nat→Nat→Nat→Int→Int→Prop
 | 0,_,_,_,_,_,_,_,_,_,_,_,_,_,_,_,_,_,_,_,_,_,_,_,_,_,_,_,_,_,_=>False
 | d+1,l0,l1,l2,l3,n4,n5,n6,l9,i10,l11,l12,i13,i14,i15,i16,i17,i18,l19,l20,i21,i22,i23,i24,i25,i26,n27,n28,n29,i30,i31 =>
 (cbr (decide (i31<i30))
 (asr (decide ((0:Int)≤i31))
 (asr (decide (i31<((n27:Nat):Int)))
 (asr (decide ((List.length l1)=n28))
 (asr (decide ((0+(i31.toNat))<(List.length l1)))
 (lt (List.getD l1 (0+(i31.toNat)) .nils) (fun c =>
 (asr (conf (.one (.i .i64)) c)
 (cbr ((yab c) == i13)
 (b l0 l1 l2 l3 n4 n5 n6 l9 i10 l11 l12 i13 i14 i15 i16 i17 i18 l19 l20 i21 i22 i23 i24 i25 i26 i31)
 (lt (IntKind.i64.wrap (i31+(1:Int))) (fun e =>
 (asr (decide ((List.length l2)=List.length l2)&&decide ((List.length l2)=List.length l2))
 (ydq a0 a1 a2 a b d l0 l1 l2 l3 n4 n5 n6 l9 i10 l11 l12 i13 i14 i15 i16 i17 i18 l19 l20 i21 i22 i23 i24 i25 i26 n27 n28 n29 i30 e))))))))))))
 (a l0 l1 l2 l3 n4 n5 n6 l9 i10 l11 l12 i13 i14 i15 i16 i17 i18 l19 l20 i21 i22 i23 i24 i25 i26 n27 n28 n29 i30 i31 false))
def ydr (a0:ya6) (a1:yaf) (a2:yaJ) (a:Ls→Ls→Ls→Ls→Nat→Nat→Nat→Ls→Int→Ls→Ls→Int→Int→Int→Int→Int→Int→Ls→Ls→Int→Int→Int→Int→Int→Int→Nat→Nat→Nat→Int→Int→Bool→Prop) (b:Ls→Ls→Ls→Ls→Nat→Nat→Nat→Ls→Int→Ls→Ls→Int→Int→Int→Int→Int→Int→Ls→Ls→Int→Int→Int→Int→Int→Int→Int→Prop):Nat→Ls→Ls→Ls→Ls→Nat→Nat→Nat→Ls→Int→Ls→Ls→Int→Int→Int→Int→Int→Int→Ls→Ls→Int→Int→Int→Int→Int→Int→Nat→Nat→Nat→Int→Int→Prop
 | 0,_,_,_,_,_,_,_,_,_,_,_,_,_,_,_,_,_,_,_,_,_,_,_,_,_,_,_,_,_,_=>False
 | d+1,l0,l1,l2,l3,n4,n5,n6,l9,i10,l11,l12,i13,i14,i15,i16,i17,i18,l19,l20,i21,i22,i23,i24,i25,i26,n27,n28,n29,i30,i31 =>
 (cbr (decide (i31<i30))
 (asr (decide ((0:Int)≤i31))
 (asr (decide (i31<((n27:Nat):Int)))
 (asr (decide ((List.length l1)=n28))
 (asr (decide ((0+(i31.toNat))<(List.length l1)))
 (lt (List.getD l1 (0+(i31.toNat)) .nils) (fun c =>
 (asr (conf (.one (.i .i64)) c)
 (cbr ((yab c) == i13)
 (b l0 l1 l2 l3 n4 n5 n6 l9 i10 l11 l12 i13 i14 i15 i16 i17 i18 l19 l20 i21 i22 i23 i24 i25 i26 i31)
 (lt (IntKind.i64.wrap (i31+(1:Int))) (fun e =>
 (asr (decide ((List.length l2)=List.length l2)&&decide ((List.length l2)=List.length l2))
 (ydr a0 a1 a2 a b d l0 l1 l2 l3 n4 n5 n6 l9 i10 l11 l12 i13 i14 i15 i16 i17 i18 l19 l20 i21 i22 i23 i24 i25 i26 n27 n28 n29 i30 e))))))))))))
 (a l0 l1 l2 l3 n4 n5 n6 l9 i10 l11 l12 i13 i14 i15 i16 i17 i18 l19 l20 i21 i22 i23 i24 i25 i26 n27 n28 n29 i30 i31 false))
def yds (a0:ya6) (a1:yaf) (a2:yaJ) (b:Ls→Ls→Ls→Ls→Nat→Nat→Nat→Ls→Int→Ls→Ls→Int→Int→Int→Int→Int→Int→Ls→Ls→Int→Int→Int→Int→Int→Int→Nat→Nat→Nat→Int→Int→Bool→Prop):Nat→Ls→Ls→Ls→Ls→Nat→Nat→Nat→Ls→Int→Ls→Ls→Int→Int→Int→Int→Int→Int→Ls→Ls→Int→Int→Int→Int→Int→Int→Nat→Nat→Nat→Int→Int→Prop
 | 0,_,_,_,_,_,_,_,_,_,_,_,_,_,_,_,_,_,_,_,_,_,_,_,_,_,_,_,_,_,_=>False
 | d+1,l0,l1,l2,l3,n4,n5,n6,l9,i10,l11,l12,i13,i14,i15,i16,i17,i18,l19,l20,i21,i22,i23,i24,i25,i26,n27,n28,n29,i30,i31 =>
 (cbr (decide (i31<((n27:Nat):Int)))
 (jn (fun (c:Ls→Int→Prop) =>
 (asr (decide ((0:Int)≤i31))
 (asr (decide (i31<((n27:Nat):Int)))
 (asr (decide ((List.length l1)=n28))
 (asr (decide ((0+(i31.toNat))<(List.length l1)))
 (lt (List.getD l1 (0+(i31.toNat)) .nils) (fun a =>
 (asr (conf (.one (.i .i64)) a)
 (cbr (!((yab a) == i13))
 (asr (decide ((0:Int)≤i30))
 (asr (decide (i30<((n27:Nat):Int)))
 (asr (decide ((List.length l1)=n28))
 (asr (decide ((0+(i30.toNat))<(List.length l1)))
 (lt (List.getD l1 (0+(i30.toNat)) .nils) (fun e =>
 (asr (conf (.one (.i .i64)) e)
 (lt (IntKind.i64.wrap (i30+(1:Int))) (fun f =>
 (c (List.set l1 (0+(i30.toNat)) (.int .i64 (yab a))) f))))))))))
 (c l1 i30))))))))))
 (fun g h=>(lt (IntKind.i64.wrap (i31+(1:Int))) (fun j =>
 (asr (decide ((List.length l2)=List.length l2)&&decide ((List.length l2)=List.length l2))
 (yds a0 a1 a2 b d l0 g l2 l3 n4 n5 n6 l9 i10 l11 l12 i13 i14 i15 i16 i17 i18 l19 l20 i21 i22 i23 i24 i25 i26 n27 n28 n29 h j))))))
 (b l0 l1 l2 l3 n4 n5 n6 l9 i10 l11 l12 i13 i14 i15 i16 i17 i18 l19 l20 i21 i22 i23 i24 i25 i26 n27 n28 n29 i30 i31 false))
def ydt (a0:ya6) (a1:yaf) (a2:yaJ) (b:Ls→Ls→Ls→Ls→Nat→Nat→Nat→Ls→Int→Ls→Ls→Int→Int→Int→Int→Int→Int→Ls→Ls→Int→Int→Int→Int→Int→Int→Nat→Nat→Nat→Int→Int→Bool→Prop):Nat→Ls→Ls→Ls→Ls→Nat→Nat→Nat→Ls→Int→Ls→Ls→Int→Int→Int→Int→Int→Int→Ls→Ls→Int→Int→Int→Int→Int→Int→Nat→Nat→Nat→Int→Int→Prop
 | 0,_,_,_,_,_,_,_,_,_,_,_,_,_,_,_,_,_,_,_,_,_,_,_,_,_,_,_,_,_,_=>False
 | d+1,l0,l1,l2,l3,n4,n5,n6,l9,i10,l11,l12,i13,i14,i15,i16,i17,i18,l19,l20,i21,i22,i23,i24,i25,i26,n27,n28,n29,i30,i31 =>
 (cbr (decide (i31<((n27:Nat):Int)))
 (jn (fun (c:Ls→Int→Prop) =>
 (asr (decide ((0:Int)≤i31))
 (asr (decide (i31<((n27:Nat):Int)))
 (asr (decide ((List.length l1)=n28))
 (asr (decide ((0+(i31.toNat))<(List.length l1)))
 (lt (List.getD l1 (0+(i31.toNat)) .nils) (fun a =>
 (asr (conf (.one (.i .i64)) a)
 (cbr (!((yab a) == i13))
 (asr (decide ((0:Int)≤i30))
 (asr (decide (i30<((n27:Nat):Int)))
 (asr (decide ((List.length l1)=n28))
 (asr (decide ((0+(i30.toNat))<(List.length l1)))
 (lt (List.getD l1 (0+(i30.toNat)) .nils) (fun e =>
 (asr (conf (.one (.i .i64)) e)
 (lt (IntKind.i64.wrap (i30+(1:Int))) (fun f =>
 (c (List.set l1 (0+(i30.toNat)) (.int .i64 (yab a))) f))))))))))
 (c l1 i30))))))))))
 (fun g h=>(lt (IntKind.i64.wrap (i31+(1:Int))) (fun j =>
 (asr (decide ((List.length l2)=List.length l2)&&decide ((List.length l2)=List.length l2))
 (ydt a0 a1 a2 b d l0 g l2 l3 n4 n5 n6 l9 i10 l11 l12 i13 i14 i15 i16 i17 i18 l19 l20 i21 i22 i23 i24 i25 i26 n27 n28 n29 h j))))))
 (b l0 l1 l2 l3 n4 n5 n6 l9 i10 l11 l12 i13 i14 i15 i16 i17 i18 l19 l20 i21 i22 i23 i24 i25 i26 n27 n28 n29 i30 i31 false))
def ycH (a0:ya6) (a1:yaf) (a2:yaJ) (t:Ls→Ls→Ls→Ls→Nat→Nat→Nat→Ls→Int→Ls→Ls→Nat→Nat→Nat→Int→Int→Bool→Prop) (u:Ls→Ls→Ls→Ls→Nat→Nat→Nat→Ls→Int→Ls→Ls→Int→Int→Int→Int→Int→Int→Prop) (v:Ls→Ls→Ls→Ls→Nat→Nat→Nat→Ls→Int→Ls→Ls→Int→Int→Int→Int→Int→Int→Ls→Ls→Int→Int→Int→Int→Int→Int→Nat→Nat→Nat→Int→Int→Ls→Ls→Int→Bool→Ls→Ls→Int→Int→Int→Int→Int→Int→Bool→Bool→Prop):Nat→Ls→Ls→Ls→Ls→Nat→Nat→Nat→Ls→Int→Ls→Ls→Nat→Nat→Nat→Int→Int→Prop
 | 0,_,_,_,_,_,_,_,_,_,_,_,_,_,_,_,_=>False
 | Y+1,l0,l1,l2,l3,n4,n5,n6,l9,i10,l11,l12,n13,n14,n15,i16,i17 =>
 (cbr (decide (((n13:Nat):Int)>(0:Int)))
 (a2 l11 l12 l1 n13 n14 n15 i16 i17 (fun l j a e f b c g o p =>
 (cbr (o !=(0:Int))
 (u l0 p l2 l3 n4 n5 n6 l9 o l11 l12 a e f b c g)
 (asr (decide ((List.length l2)=(List.length l2)))
 (asr (decide ((0+(List.length l2))≤(List.length l2)))
 (asr (!(decide (((0+(List.length l2))+1)≤(List.length l2))))
 (asr (decide ((List.length l2)=(List.length l2)))
 (asr (decide ((((List.length l2)+1)+64)*(48+1)≤room))
 (asr (decide ((0:Int)≤a))
 (asr (decide (a<((n4:Nat):Int)))
 (asr (decide ((List.length l0)=n5))
 (asr (decide ((0+(a.toNat))<(List.length l0)))
 (lt (List.getD l0 (0+(a.toNat)) .nils) (fun Z =>
 (asr (conf (.one (.d)) Z)
 (cbr ((((List.length (l2++([(.agg [(.int .i64 a),(.int .i64 e),(.int .i64 f),(.int .i64 b),(.int .i64 c),(.int .i64 g)])]:Ls))):Nat):Int) ==(((List.length l3):Nat):Int))
 (v (List.set l0 (0+(a.toNat)) (.data ([(.agg [(.int .i64 e),(.int .i64 f),(.int .i64 b),(.int .i64 c)])]:Ls))) p (l2++([(.agg [(.int .i64 a),(.int .i64 e),(.int .i64 f),(.int .i64 b),(.int .i64 c),(.int .i64 g)])]:Ls)) l3 n4 n5 n6 j i10 l11 l12 a e f b c g l j a e f b c g n13 n14 n15 i16 i17 l j o false l j a e f b c g false true)
 (jn (fun (w:Ls→Ls→Ls→Ls→Nat→Nat→Nat→Ls→Int→Ls→Ls→Int→Int→Int→Int→Int→Int→Ls→Ls→Int→Int→Int→Int→Int→Int→Nat→Nat→Nat→Prop) =>
 (jn (fun (x:Ls→Ls→Ls→Ls→Nat→Nat→Nat→Ls→Int→Ls→Ls→Int→Int→Int→Int→Int→Int→Ls→Ls→Int→Int→Int→Int→Int→Int→Int→Prop) =>
 (asr (decide ((List.length (l2++([(.agg [(.int .i64 a),(.int .i64 e),(.int .i64 f),(.int .i64 b),(.int .i64 c),(.int .i64 g)])]:Ls)))=List.length (l2++([(.agg [(.int .i64 a),(.int .i64 e),(.int .i64 f),(.int .i64 b),(.int .i64 c),(.int .i64 g)])]:Ls)))&&decide ((List.length (l2++([(.agg [(.int .i64 a),(.int .i64 e),(.int .i64 f),(.int .i64 b),(.int .i64 c),(.int .i64 g)])]:Ls)))=List.length (l2++([(.agg [(.int .i64 a),(.int .i64 e),(.int .i64 f),(.int .i64 b),(.int .i64 c),(.int .i64 g)])]:Ls))))
 (∃ va:Nat,ydr a0 a1 a2
 (fun vb vc vd ve vf vg vh vi vj vk vl vm vn vo vp vq vr vs vt vu vv vw vx vy vz _ _ _ _ _ _=>(x vb vc vd ve vf vg vh vi vj vk vl vm vn vo vp vq vr vs vt vu vv vw vx vy vz (-1:Int)))
 (fun vA vB vC vD vE vF vG vH vI vJ vK vL vM vN vO vP vQ vR vS vT vU vV vW vX vY vZ=>(x vA vB vC vD vE vF vG vH vI vJ vK vL vM vN vO vP vQ vR vS vT vU vV vW vX vY vZ))
 va (List.set l0 (0+(a.toNat)) (.data ([(.agg [(.int .i64 e),(.int .i64 f),(.int .i64 b),(.int .i64 c)])]:Ls))) p (l2++([(.agg [(.int .i64 a),(.int .i64 e),(.int .i64 f),(.int .i64 b),(.int .i64 c),(.int .i64 g)])]:Ls)) l3 n4 n5 n6 j i10 l j a e f b c g l j a e f b c g n13 n14 n15 ((n13:Nat):Int) (0:Int))))
 (fun y z k A B C D E F G H I J K L M N O Q R S T U V W q=>(cbr (q ==(-1:Int))
 (w y z k A B C D E F G H I J K L M N O Q R S T U V W n13 n14 n15)
 (lt (IntKind.i64.wrap (q+(1:Int))) (fun v0 =>
 (asr (decide ((List.length k)=List.length k)&&decide ((List.length k)=List.length k))
 (∃ v1:Nat,ydt a0 a1 a2
 (fun v2 n v3 v4 v5 v6 v7 v8 v9 wa wb wc wd we wf wg wh wi wj wk wl wm wn wo wp i r s h _ _=>(jn (fun (X:Ls→Prop) =>
 (asr (decide ((0:Int)≤h))
 (asr (decide (h≤((i:Nat):Int)))
 (asr ((decide (((i:Nat):Int)≤((i:Nat):Int)))||(decide (((i:Nat):Int)≤((s:Nat):Int))))
 (cbr (decide (((((i:Nat):Int)-h).toNat)=0))
 (X n)
 (asr (decide ((List.length n)=r))
 (asr (decide (((0+(h.toNat))+((((i:Nat):Int)-h).toNat))≤r))
 (X ((List.take (0+(h.toNat)) n)++((List.replicate ((((i:Nat):Int)-h).toNat) ((.int .i64 (0)):PV))++(List.drop ((0+(h.toNat))+((((i:Nat):Int)-h).toNat)) n)))))))))))
 (fun wq=>(asr (decide ((0:Int)≤h))
 (asr ((decide (h≤((i:Nat):Int)))||(decide (h≤((s:Nat):Int))))
 (w v2 wq v3 v4 v5 v6 v7 v8 v9 wa wb wc wd we wf wg wh wi wj wk wl wm wn wo wp ((h-(0:Int)).toNat) r (s-0)))))))
 v1 y z k A B C D E F G H I J K L M N O Q R S T U V W n13 n14 n15 q v0))))))))
 (fun wr ws m wt wu wv ww wx wy wz wA _ _ _ _ _ _ _ _ _ _ _ _ _ _ wB wC wD=>(asr (decide ((List.length m)=List.length m)&&decide ((List.length m)=List.length m))
 (ycH a0 a1 a2 t u v Y wr ws m wt wu wv ww wx wy wz wA wB wC wD b c))))))))))))))))))))
 (t l0 l1 l2 l3 n4 n5 n6 l9 i10 l11 l12 n13 n14 n15 i16 i17 false))
def ycI (a0:ya6) (a1:yaf) (a2:yaJ) (V:Ls→Ls→Ls→Nat→Nat→Nat→Ls→Int→Ls→Ls→Nat→Nat→Nat→Int→Int→Bool→Prop) (W:Ls→Ls→Ls→Nat→Nat→Nat→Ls→Int→Ls→Ls→Int→Int→Int→Int→Int→Int→Prop) (X:Ls→Ls→Ls→Ls→Nat→Nat→Nat→Ls→Int→Ls→Ls→Int→Int→Int→Int→Int→Int→Ls→Ls→Int→Int→Int→Int→Int→Int→Nat→Nat→Nat→Int→Int→Ls→Ls→Int→Bool→Ls→Ls→Int→Int→Int→Int→Int→Int→Bool→Bool→Prop) (Y:Ls→Ls→Ls→Ls→Nat→Nat→Nat→Ls→Int→Ls→Ls→Nat→Nat→Nat→Int→Int→Bool→Prop) (Z:Ls→Ls→Ls→Ls→Nat→Nat→Nat→Ls→Int→Ls→Ls→Int→Int→Int→Int→Int→Int→Prop) (va:Ls→Ls→Ls→Ls→Nat→Nat→Nat→Ls→Int→Ls→Ls→Int→Int→Int→Int→Int→Int→Ls→Ls→Int→Int→Int→Int→Int→Int→Nat→Nat→Nat→Int→Int→Ls→Ls→Int→Bool→Ls→Ls→Int→Int→Int→Int→Int→Int→Bool→Bool→Prop):Nat→Ls→Ls→Ls→Nat→Nat→Nat→Ls→Int→Ls→Ls→Nat→Nat→Nat→Int→Int→Prop
 | 0,_,_,_,_,_,_,_,_,_,_,_,_,_,_,_=>False
 | vb+1,l0,l1,l2,n3,n4,n5,l6,i7,l8,l9,n10,n11,n12,i13,i14 =>
 (cbr (decide (((n10:Nat):Int)>(0:Int)))
 (a2 l8 l9 l1 n10 n11 n12 i13 i14 (fun l j a f g b c h o p =>
 (cbr (o !=(0:Int))
 (W l0 p l2 n3 n4 n5 l6 o l8 l9 a f g b c h)
 (asr (decide ((0:Int)≤a))
 (asr (decide (a<((n3:Nat):Int)))
 (asr (decide ((List.length l0)=n4))
 (asr (decide ((0+(a.toNat))<(List.length l0)))
 (lt (List.getD l0 (0+(a.toNat)) .nils) (fun vc =>
 (asr (conf (.one (.d)) vc)
 (cbr ((1:Int) ==(((List.length l2):Nat):Int))
 (X (List.set l0 (0+(a.toNat)) (.data ([(.agg [(.int .i64 f),(.int .i64 g),(.int .i64 b),(.int .i64 c)])]:Ls))) p ([(.agg [(.int .i64 a),(.int .i64 f),(.int .i64 g),(.int .i64 b),(.int .i64 c),(.int .i64 h)])]:Ls) l2 n3 n4 n5 j i7 l8 l9 a f g b c h l j a f g b c h n10 n11 n12 i13 i14 l j o false l j a f g b c h false true)
 (jn (fun (t:Ls→Ls→Ls→Ls→Nat→Nat→Nat→Ls→Int→Ls→Ls→Int→Int→Int→Int→Int→Int→Ls→Ls→Int→Int→Int→Int→Int→Int→Nat→Nat→Nat→Prop) =>
 (jn (fun (u:Ls→Ls→Ls→Ls→Nat→Nat→Nat→Ls→Int→Ls→Ls→Int→Int→Int→Int→Int→Int→Ls→Ls→Int→Int→Int→Int→Int→Int→Int→Prop) =>
 (asr (decide (1=List.length ([(.agg [(.int .i64 a),(.int .i64 f),(.int .i64 g),(.int .i64 b),(.int .i64 c),(.int .i64 h)])]:Ls))&&decide (1=List.length ([(.agg [(.int .i64 a),(.int .i64 f),(.int .i64 g),(.int .i64 b),(.int .i64 c),(.int .i64 h)])]:Ls)))
 (∃ vd:Nat,ydq a0 a1 a2
 (fun ve vf vg vh vi vj vk vl vm vn vo vp vq vr vs vt vu vv vw vx vy vz vA vB vC _ _ _ _ _ _=>(u ve vf vg vh vi vj vk vl vm vn vo vp vq vr vs vt vu vv vw vx vy vz vA vB vC (-1:Int)))
 (fun vD vE vF vG vH vI vJ vK vL vM vN vO vP vQ vR vS vT vU vV vW vX vY vZ v0 v1 v2=>(u vD vE vF vG vH vI vJ vK vL vM vN vO vP vQ vR vS vT vU vV vW vX vY vZ v0 v1 v2))
 vd (List.set l0 (0+(a.toNat)) (.data ([(.agg [(.int .i64 f),(.int .i64 g),(.int .i64 b),(.int .i64 c)])]:Ls))) p ([(.agg [(.int .i64 a),(.int .i64 f),(.int .i64 g),(.int .i64 b),(.int .i64 c),(.int .i64 h)])]:Ls) l2 n3 n4 n5 j i7 l j a f g b c h l j a f g b c h n10 n11 n12 ((n10:Nat):Int) (0:Int))))
 (fun v w k x y z A B C D E F G H I J K L M N O Q R S T q=>(cbr (q ==(-1:Int))
 (t v w k x y z A B C D E F G H I J K L M N O Q R S T n10 n11 n12)
 (lt (IntKind.i64.wrap (q+(1:Int))) (fun v3 =>
 (asr (decide ((List.length k)=List.length k)&&decide ((List.length k)=List.length k))
 (∃ v4:Nat,yds a0 a1 a2
 (fun v5 n v6 v7 v8 v9 wa wb wc wd we wf wg wh wi wj wk wl wm wn wo wp wq wr ws i r s e _ _=>(jn (fun (U:Ls→Prop) =>
 (asr (decide ((0:Int)≤e))
 (asr (decide (e≤((i:Nat):Int)))
 (asr ((decide (((i:Nat):Int)≤((i:Nat):Int)))||(decide (((i:Nat):Int)≤((s:Nat):Int))))
 (cbr (decide (((((i:Nat):Int)-e).toNat)=0))
 (U n)
 (asr (decide ((List.length n)=r))
 (asr (decide (((0+(e.toNat))+((((i:Nat):Int)-e).toNat))≤r))
 (U ((List.take (0+(e.toNat)) n)++((List.replicate ((((i:Nat):Int)-e).toNat) ((.int .i64 (0)):PV))++(List.drop ((0+(e.toNat))+((((i:Nat):Int)-e).toNat)) n)))))))))))
 (fun wt=>(asr (decide ((0:Int)≤e))
 (asr ((decide (e≤((i:Nat):Int)))||(decide (e≤((s:Nat):Int))))
 (t v5 wt v6 v7 v8 v9 wa wb wc wd we wf wg wh wi wj wk wl wm wn wo wp wq wr ws ((e-(0:Int)).toNat) r (s-0)))))))
 v4 v w k x y z A B C D E F G H I J K L M N O Q R S T n10 n11 n12 q v3))))))))
 (fun wu wv m ww wx wy wz wA wB wC wD _ _ _ _ _ _ _ _ _ _ _ _ _ _ wE wF wG=>(asr (decide ((List.length m)=List.length m)&&decide ((List.length m)=List.length m))
 (ycH a0 a1 a2 Y Z va vb wu wv m ww wx wy wz wA wB wC wD wE wF wG b c)))))))))))))))
 (V l0 l1 l2 n3 n4 n5 l6 i7 l8 l9 n10 n11 n12 i13 i14 false))
def yik (a0:ya6) (a1:yaf) (a2:yaJ) (p0:Ls) (K:Ls→Ls→Ls→Int→Prop):Prop :=
 (a0 p0 (fun a L f =>
 (cbr (f !=(0:Int))
 (K ([]:Ls) ([]:Ls) ([]:Ls) f)
 (asr (decide ((0:Int)≤(((List.length p0):Nat):Int)))
 (asr (decide ((((List.length p0):Nat):Int)≤(((List.length p0):Nat):Int)))
 (asr (decide (((List.length p0)+64)*(24+1)≤room))
 (asr (decide ((0:Int)≤(((List.length a):Nat):Int)))
 (asr (decide ((((List.length a):Nat):Int)≤(((List.length a):Nat):Int)))
 (asr (decide (((List.length a)+64)*(8+1)≤room))
 (∃ M:Nat,ydp a0 a1 a2
 (fun N O Q R S T U V W X Y Z va _ _ _=>(a1 (0:Int) (fun vb vc =>
 (∃ vd:Nat,ycI a0 a1 a2
 (fun g ve vf h i vg E j vh vi _ _ _ _ _ _=>(asr (noYH (noY 0) (fun _=>true) [⟨false,true,1,([(.data vf)]:Ls)⟩,⟨false,false,1,([(.agg [(.own 5 0 h i (some vg))])]:Ls)⟩,⟨false,false,1,([.nils]:Ls)⟩,⟨false,true,1,([(.data E)]:Ls)⟩,⟨false,true,1,([(.int .i64 j)]:Ls)⟩,⟨false,true,1,g⟩,⟨false,true,2,([(.agg [(.data vh),(.data vi)])]:Ls)⟩,⟨false,false,1,([(.fn (.func yat) [] [(.ptr 4 1 0 0)])]:Ls)⟩,⟨false,true,1,ve⟩])
 (cbr (j !=(0:Int))
 (K ([]:Ls) ([]:Ls) ([]:Ls) j)
 (asr (decide ((List.length g)=i))
 (asr (decide ((0+h)≤i))
 (K (List.take h g) ([]:Ls) E (0:Int)))))))
 (fun k vj vk l m vl F n vm vn vo vp vq vr vs vt=>(asr (noYH (noY 0) (fun _=>true) [⟨false,true,1,([(.data vk)]:Ls)⟩,⟨false,false,1,([(.agg [(.own 5 0 l m (some vl))])]:Ls)⟩,⟨false,false,1,([.nils]:Ls)⟩,⟨false,true,1,([(.data F)]:Ls)⟩,⟨false,true,1,([(.int .i64 n)]:Ls)⟩,⟨false,true,1,k⟩,⟨false,true,2,([(.agg [(.data vm),(.data vn)])]:Ls)⟩,⟨false,false,1,([(.fn (.func yat) [] [(.ptr 4 1 0 0)])]:Ls)⟩,⟨false,true,1,vj⟩,⟨false,true,6,([(.agg [(.int .i64 vo),(.int .i64 vp),(.int .i64 vq),(.int .i64 vr),(.int .i64 vs),(.int .i64 vt)])]:Ls)⟩])
 (cbr (n !=(0:Int))
 (K ([]:Ls) ([]:Ls) ([]:Ls) n)
 (asr (decide ((List.length k)=m))
 (asr (decide ((0+l)≤m))
 (K (List.take l k) ([]:Ls) F (0:Int)))))))
 (fun o vu b vv p q vw G r vx vy vz vA vB vC vD vE vF vG vH vI vJ vK vL vM _ _ _ _ _ _ _ _ _ _ _ _ _ _ _ _ _ _ _=>(asr (noYH (noY 0) (fun _=>true) [⟨false,true,1,([(.data vv)]:Ls)⟩,⟨false,false,1,([(.agg [(.own 5 0 p q (some vw))])]:Ls)⟩,⟨false,false,1,([(.own 12 0 (List.length b) (List.length b) none)]:Ls)⟩,⟨false,true,1,([(.data G)]:Ls)⟩,⟨false,true,1,([(.int .i64 r)]:Ls)⟩,⟨false,true,1,o⟩,⟨false,true,2,([(.agg [(.data vx),(.data vy)])]:Ls)⟩,⟨false,false,1,([(.fn (.func yat) [] [(.ptr 4 1 0 0)])]:Ls)⟩,⟨false,true,1,vu⟩,⟨false,true,6,([(.agg [(.int .i64 vz),(.int .i64 vA),(.int .i64 vB),(.int .i64 vC),(.int .i64 vD),(.int .i64 vE)])]:Ls)⟩,⟨false,true,2,([(.agg [(.data vF),(.data vG)])]:Ls)⟩,⟨false,true,6,([(.agg [(.int .i64 vH),(.int .i64 vI),(.int .i64 vJ),(.int .i64 vK),(.int .i64 vL),(.int .i64 vM)])]:Ls)⟩,⟨false,true,6,b⟩])
 (cbr (r !=(0:Int))
 (K ([]:Ls) ([]:Ls) ([]:Ls) r)
 (asr (decide ((List.length o)=q))
 (asr (decide ((0+p)≤q))
 (asr (decide ((List.length b)=(List.length b)))
 (asr (decide ((0+(List.length b))≤(List.length b)))
 (K (List.take p o) (List.take (List.length b) b) G (0:Int)))))))))
 (fun s vN c vO t u vP H v vQ vR _ _ _ _ _ _=>(asr (noYH (noY 0) (fun _=>true) [⟨false,true,1,([(.data vO)]:Ls)⟩,⟨false,false,1,([(.agg [(.own 5 0 t u (some vP))])]:Ls)⟩,⟨false,false,1,([(.own 12 0 (List.length c) (List.length c) none)]:Ls)⟩,⟨false,true,1,([(.data H)]:Ls)⟩,⟨false,true,1,([(.int .i64 v)]:Ls)⟩,⟨false,true,1,s⟩,⟨false,true,2,([(.agg [(.data vQ),(.data vR)])]:Ls)⟩,⟨false,false,1,([(.fn (.func yat) [] [(.ptr 4 1 0 0)])]:Ls)⟩,⟨false,true,1,vN⟩,⟨false,true,6,([]:Ls)⟩,⟨false,true,2,([]:Ls)⟩,⟨false,true,6,([]:Ls)⟩,⟨false,true,6,c⟩])
 (cbr (v !=(0:Int))
 (K ([]:Ls) ([]:Ls) ([]:Ls) v)
 (asr (decide ((List.length s)=u))
 (asr (decide ((0+t)≤u))
 (asr (decide ((List.length c)=(List.length c)))
 (asr (decide ((0+(List.length c))≤(List.length c)))
 (K (List.take t s) (List.take (List.length c) c) H (0:Int)))))))))
 (fun w vS d vT x y vU I z vV vW vX vY vZ v0 v1 v2=>(asr (noYH (noY 0) (fun _=>true) [⟨false,true,1,([(.data vT)]:Ls)⟩,⟨false,false,1,([(.agg [(.own 5 0 x y (some vU))])]:Ls)⟩,⟨false,false,1,([(.own 12 0 (List.length d) (List.length d) none)]:Ls)⟩,⟨false,true,1,([(.data I)]:Ls)⟩,⟨false,true,1,([(.int .i64 z)]:Ls)⟩,⟨false,true,1,w⟩,⟨false,true,2,([(.agg [(.data vV),(.data vW)])]:Ls)⟩,⟨false,false,1,([(.fn (.func yat) [] [(.ptr 4 1 0 0)])]:Ls)⟩,⟨false,true,1,vS⟩,⟨false,true,6,([]:Ls)⟩,⟨false,true,2,([]:Ls)⟩,⟨false,true,6,([]:Ls)⟩,⟨false,true,6,d⟩,⟨false,true,6,([(.agg [(.int .i64 vX),(.int .i64 vY),(.int .i64 vZ),(.int .i64 v0),(.int .i64 v1),(.int .i64 v2)])]:Ls)⟩])
 (cbr (z !=(0:Int))
 (K ([]:Ls) ([]:Ls) ([]:Ls) z)
 (asr (decide ((List.length w)=y))
 (asr (decide ((0+x)≤y))
 (asr (decide ((List.length d)=(List.length d)))
 (asr (decide ((0+(List.length d))≤(List.length d)))
 (K (List.take x w) (List.take (List.length d) d) I (0:Int)))))))))
 (fun A v3 e v4 B C v5 J D v6 v7 v8 v9 wa wb wc wd we wf wg wh wi wj wk wl _ _ _ _ _ _ _ _ _ _ _ _ _ _ _ _ _ _ _=>(asr (noYH (noY 0) (fun _=>true) [⟨false,true,1,([(.data v4)]:Ls)⟩,⟨false,false,1,([(.agg [(.own 5 0 B C (some v5))])]:Ls)⟩,⟨false,false,1,([(.own 12 0 (List.length e) (List.length e) none)]:Ls)⟩,⟨false,true,1,([(.data J)]:Ls)⟩,⟨false,true,1,([(.int .i64 D)]:Ls)⟩,⟨false,true,1,A⟩,⟨false,true,2,([(.agg [(.data v6),(.data v7)])]:Ls)⟩,⟨false,false,1,([(.fn (.func yat) [] [(.ptr 4 1 0 0)])]:Ls)⟩,⟨false,true,1,v3⟩,⟨false,true,6,([]:Ls)⟩,⟨false,true,2,([]:Ls)⟩,⟨false,true,6,([]:Ls)⟩,⟨false,true,6,e⟩,⟨false,true,6,([(.agg [(.int .i64 v8),(.int .i64 v9),(.int .i64 wa),(.int .i64 wb),(.int .i64 wc),(.int .i64 wd)])]:Ls)⟩,⟨false,true,2,([(.agg [(.data we),(.data wf)])]:Ls)⟩,⟨false,true,6,([(.agg [(.int .i64 wg),(.int .i64 wh),(.int .i64 wi),(.int .i64 wj),(.int .i64 wk),(.int .i64 wl)])]:Ls)⟩])
 (cbr (D !=(0:Int))
 (K ([]:Ls) ([]:Ls) ([]:Ls) D)
 (asr (decide ((List.length A)=C))
 (asr (decide ((0+B)≤C))
 (asr (decide ((List.length e)=(List.length e)))
 (asr (decide ((0+(List.length e))≤(List.length e)))
 (K (List.take B A) (List.take (List.length e) e) J (0:Int)))))))))
 vd N O Q R S T U V W X Y Z va vb vc))))
 M (List.replicate (List.length p0) ((.data []):PV)) (List.replicate (List.length a) ((.int .i64 (0)):PV)) p0 (List.length p0) (List.length p0) (List.length p0) ([]:Ls) f a L (List.length a) (List.length a) (List.length a) (((List.length a):Nat):Int) (0:Int)))))))))))
def ybZ:yej:=yik yaM yau yaA
def yAL:Sg:=⟨pt9,Ls→Ls→Ls→Int→Prop,fun K=>(fun r0 r1 r2 r3=>K (.tup [(.agg [(.data r0)]),(.data r1),(.data r2),(.int .i64 r3)]))⟩
def yuw (Q:Qx):Ls→Ls→Ls→Nat→Nat→Nat→Ls→Int→Ls→Ls→Nat→Nat→Nat→Int→Int→Bool→Prop:=(fun l0 l1 l2 n3 n4 n5 l6 i7 l8 l9 n10 n11 n12 i13 i14 b15=>Q (.exit 0) [(0,.v (.fn (.yield 0) [] [])),(1,.v (.ptr 6 1 0 0)),(2,.v (.ptr 7 1 0 0)),(4,.v (.own 8 0 n10 n11 (some n12))),(15,.v (.int .i64 i13)),(16,.v (.int .i64 i14)),(17,.v (.bool b15))] [⟨false,true,1,([(.data l2)]:Ls)⟩,⟨false,false,1,([(.agg [(.own 5 0 n3 n4 (some n5))])]:Ls)⟩,⟨false,false,1,([.nils]:Ls)⟩,⟨false,true,1,([(.data l6)]:Ls)⟩,⟨false,true,1,([(.int .i64 i7)]:Ls)⟩,⟨false,true,1,l0⟩,⟨false,true,2,([(.agg [(.data l8),(.data l9)])]:Ls)⟩,⟨false,false,1,([(.fn (.func yat) [] [(.ptr 4 1 0 0)])]:Ls)⟩,⟨false,true,1,l1⟩])
def yux (Q:Qx):Ls→Ls→Ls→Ls→Nat→Nat→Nat→Ls→Int→Ls→Ls→Int→Int→Int→Int→Int→Int→Ls→Ls→Int→Int→Int→Int→Int→Int→Nat→Nat→Nat→Int→Int→Bool→Prop:=(fun l0 l1 l2 l3 n4 n5 n6 l9 i10 l11 l12 i13 i14 i15 i16 i17 i18 l19 l20 i21 i22 i23 i24 i25 i26 n27 n28 n29 i30 i31 b32=>Q (.exit 0) [(0,.v (.own 8 0 n27 n28 (some n29))),(1,.v (.fn (.func yaI) [] [(.ptr 9 1 0 0)])),(7,.v (.int .i64 i30)),(8,.v (.int .i64 i31)),(9,.v (.bool b32))] [⟨false,true,1,([(.data l3)]:Ls)⟩,⟨false,false,1,([(.agg [(.own 5 0 n4 n5 (some n6))])]:Ls)⟩,⟨false,false,1,([(.own 12 0 (List.length l2) (List.length l2) none)]:Ls)⟩,⟨false,true,1,([(.data l9)]:Ls)⟩,⟨false,true,1,([(.int .i64 i10)]:Ls)⟩,⟨false,true,1,l0⟩,⟨false,true,2,([(.agg [(.data l11),(.data l12)])]:Ls)⟩,⟨false,false,1,([(.fn (.func yat) [] [(.ptr 4 1 0 0)])]:Ls)⟩,⟨false,true,1,l1⟩,⟨false,true,6,([(.agg [(.int .i64 i13),(.int .i64 i14),(.int .i64 i15),(.int .i64 i16),(.int .i64 i17),(.int .i64 i18)])]:Ls)⟩,⟨false,true,2,([(.agg [(.data l19),(.data l20)])]:Ls)⟩,⟨false,true,6,([(.agg [(.int .i64 i21),(.int .i64 i22),(.int .i64 i23),(.int .i64 i24),(.int .i64 i25),(.int .i64 i26)])]:Ls)⟩,⟨false,true,6,l2⟩])
def yuy (Q:Qx):Ls→Ls→Ls→Ls→Nat→Nat→Nat→Ls→Int→Ls→Ls→Int→Int→Int→Int→Int→Int→Ls→Ls→Int→Int→Int→Int→Int→Int→Int→Prop:=(fun l0 l1 l2 l3 n4 n5 n6 l9 i10 l11 l12 i13 i14 i15 i16 i17 i18 l19 l20 i21 i22 i23 i24 i25 i26 i27=>Q .ret [(4,.v (.int .i64 i27))] [⟨false,true,1,([(.data l3)]:Ls)⟩,⟨false,false,1,([(.agg [(.own 5 0 n4 n5 (some n6))])]:Ls)⟩,⟨false,false,1,([(.own 12 0 (List.length l2) (List.length l2) none)]:Ls)⟩,⟨false,true,1,([(.data l9)]:Ls)⟩,⟨false,true,1,([(.int .i64 i10)]:Ls)⟩,⟨false,true,1,l0⟩,⟨false,true,2,([(.agg [(.data l11),(.data l12)])]:Ls)⟩,⟨false,false,1,([(.fn (.func yat) [] [(.ptr 4 1 0 0)])]:Ls)⟩,⟨false,true,1,l1⟩,⟨false,true,6,([(.agg [(.int .i64 i13),(.int .i64 i14),(.int .i64 i15),(.int .i64 i16),(.int .i64 i17),(.int .i64 i18)])]:Ls)⟩,⟨false,true,2,([(.agg [(.data l19),(.data l20)])]:Ls)⟩,⟨false,true,6,([(.agg [(.int .i64 i21),(.int .i64 i22),(.int .i64 i23),(.int .i64 i24),(.int .i64 i25),(.int .i64 i26)])]:Ls)⟩,⟨false,true,6,l2⟩])
def yuz (Q:Qx):Ls→Ls→Ls→Ls→Nat→Nat→Nat→Ls→Int→Ls→Ls→Int→Int→Int→Int→Int→Int→Ls→Ls→Int→Int→Int→Int→Int→Int→Nat→Nat→Nat→Int→Int→Bool→Prop:=(fun l0 l1 l2 l3 n4 n5 n6 l9 i10 l11 l12 i13 i14 i15 i16 i17 i18 l19 l20 i21 i22 i23 i24 i25 i26 n27 n28 n29 i30 i31 b32=>Q (.exit 0) [(0,.v (.own 8 0 n27 n28 (some n29))),(1,.v (.fn (.func yaI) [] [(.ptr 13 1 0 0)])),(7,.v (.int .i64 i30)),(8,.v (.int .i64 i31)),(9,.v (.bool b32))] [⟨false,true,1,([(.data l3)]:Ls)⟩,⟨false,false,1,([(.agg [(.own 5 0 n4 n5 (some n6))])]:Ls)⟩,⟨false,false,1,([(.own 12 0 (List.length l2) (List.length l2) none)]:Ls)⟩,⟨false,true,1,([(.data l9)]:Ls)⟩,⟨false,true,1,([(.int .i64 i10)]:Ls)⟩,⟨false,true,1,l0⟩,⟨false,true,2,([(.agg [(.data l11),(.data l12)])]:Ls)⟩,⟨false,false,1,([(.fn (.func yat) [] [(.ptr 4 1 0 0)])]:Ls)⟩,⟨false,true,1,l1⟩,⟨false,true,6,([]:Ls)⟩,⟨false,true,2,([]:Ls)⟩,⟨false,true,6,([]:Ls)⟩,⟨false,true,6,l2⟩,⟨false,true,6,([(.agg [(.int .i64 i13),(.int .i64 i14),(.int .i64 i15),(.int .i64 i16),(.int .i64 i17),(.int .i64 i18)])]:Ls)⟩,⟨false,true,2,([(.agg [(.data l19),(.data l20)])]:Ls)⟩,⟨false,true,6,([(.agg [(.int .i64 i21),(.int .i64 i22),(.int .i64 i23),(.int .i64 i24),(.int .i64 i25),(.int .i64 i26)])]:Ls)⟩])
def yuA (Q:Qx):Ls→Ls→Ls→Ls→Nat→Nat→Nat→Ls→Int→Ls→Ls→Int→Int→Int→Int→Int→Int→Ls→Ls→Int→Int→Int→Int→Int→Int→Int→Prop:=(fun l0 l1 l2 l3 n4 n5 n6 l9 i10 l11 l12 i13 i14 i15 i16 i17 i18 l19 l20 i21 i22 i23 i24 i25 i26 i27=>Q .ret [(4,.v (.int .i64 i27))] [⟨false,true,1,([(.data l3)]:Ls)⟩,⟨false,false,1,([(.agg [(.own 5 0 n4 n5 (some n6))])]:Ls)⟩,⟨false,false,1,([(.own 12 0 (List.length l2) (List.length l2) none)]:Ls)⟩,⟨false,true,1,([(.data l9)]:Ls)⟩,⟨false,true,1,([(.int .i64 i10)]:Ls)⟩,⟨false,true,1,l0⟩,⟨false,true,2,([(.agg [(.data l11),(.data l12)])]:Ls)⟩,⟨false,false,1,([(.fn (.func yat) [] [(.ptr 4 1 0 0)])]:Ls)⟩,⟨false,true,1,l1⟩,⟨false,true,6,([]:Ls)⟩,⟨false,true,2,([]:Ls)⟩,⟨false,true,6,([]:Ls)⟩,⟨false,true,6,l2⟩,⟨false,true,6,([(.agg [(.int .i64 i13),(.int .i64 i14),(.int .i64 i15),(.int .i64 i16),(.int .i64 i17),(.int .i64 i18)])]:Ls)⟩,⟨false,true,2,([(.agg [(.data l19),(.data l20)])]:Ls)⟩,⟨false,true,6,([(.agg [(.int .i64 i21),(.int .i64 i22),(.int .i64 i23),(.int .i64 i24),(.int .i64 i25),(.int .i64 i26)])]:Ls)⟩])
def yuB (Q:Qx):Ls→Ls→Ls→Ls→Nat→Nat→Nat→Ls→Int→Ls→Ls→Int→Int→Int→Int→Int→Int→Ls→Ls→Int→Int→Int→Int→Int→Int→Nat→Nat→Nat→Int→Int→Bool→Prop:=(fun l0 l1 l2 l3 n4 n5 n6 l9 i10 l11 l12 i13 i14 i15 i16 i17 i18 l19 l20 i21 i22 i23 i24 i25 i26 n27 n28 n29 i30 i31 b32=>Q (.exit 0) [(0,.v (.own 8 0 n27 n28 (some n29))),(1,.v (.fn (.func yaI) [] [(.ptr 9 1 0 0)])),(5,.v (.int .i64 i30)),(6,.v (.int .i64 i31)),(19,.v (.bool b32))] [⟨false,true,1,([(.data l3)]:Ls)⟩,⟨false,false,1,([(.agg [(.own 5 0 n4 n5 (some n6))])]:Ls)⟩,⟨false,false,1,([(.own 12 0 (List.length l2) (List.length l2) none)]:Ls)⟩,⟨false,true,1,([(.data l9)]:Ls)⟩,⟨false,true,1,([(.int .i64 i10)]:Ls)⟩,⟨false,true,1,l0⟩,⟨false,true,2,([(.agg [(.data l11),(.data l12)])]:Ls)⟩,⟨false,false,1,([(.fn (.func yat) [] [(.ptr 4 1 0 0)])]:Ls)⟩,⟨false,true,1,l1⟩,⟨false,true,6,([(.agg [(.int .i64 i13),(.int .i64 i14),(.int .i64 i15),(.int .i64 i16),(.int .i64 i17),(.int .i64 i18)])]:Ls)⟩,⟨false,true,2,([(.agg [(.data l19),(.data l20)])]:Ls)⟩,⟨false,true,6,([(.agg [(.int .i64 i21),(.int .i64 i22),(.int .i64 i23),(.int .i64 i24),(.int .i64 i25),(.int .i64 i26)])]:Ls)⟩,⟨false,true,6,l2⟩])
def yuC (Q:Qx):Ls→Ls→Ls→Ls→Nat→Nat→Nat→Ls→Int→Ls→Ls→Int→Int→Int→Int→Int→Int→Ls→Ls→Int→Int→Int→Int→Int→Int→Nat→Nat→Nat→Int→Int→Bool→Prop:=(fun l0 l1 l2 l3 n4 n5 n6 l9 i10 l11 l12 i13 i14 i15 i16 i17 i18 l19 l20 i21 i22 i23 i24 i25 i26 n27 n28 n29 i30 i31 b32=>Q (.exit 0) [(0,.v (.own 8 0 n27 n28 (some n29))),(1,.v (.fn (.func yaI) [] [(.ptr 13 1 0 0)])),(5,.v (.int .i64 i30)),(6,.v (.int .i64 i31)),(19,.v (.bool b32))] [⟨false,true,1,([(.data l3)]:Ls)⟩,⟨false,false,1,([(.agg [(.own 5 0 n4 n5 (some n6))])]:Ls)⟩,⟨false,false,1,([(.own 12 0 (List.length l2) (List.length l2) none)]:Ls)⟩,⟨false,true,1,([(.data l9)]:Ls)⟩,⟨false,true,1,([(.int .i64 i10)]:Ls)⟩,⟨false,true,1,l0⟩,⟨false,true,2,([(.agg [(.data l11),(.data l12)])]:Ls)⟩,⟨false,false,1,([(.fn (.func yat) [] [(.ptr 4 1 0 0)])]:Ls)⟩,⟨false,true,1,l1⟩,⟨false,true,6,([]:Ls)⟩,⟨false,true,2,([]:Ls)⟩,⟨false,true,6,([]:Ls)⟩,⟨false,true,6,l2⟩,⟨false,true,6,([(.agg [(.int .i64 i13),(.int .i64 i14),(.int .i64 i15),(.int .i64 i16),(.int .i64 i17),(.int .i64 i18)])]:Ls)⟩,⟨false,true,2,([(.agg [(.data l19),(.data l20)])]:Ls)⟩,⟨false,true,6,([(.agg [(.int .i64 i21),(.int .i64 i22),(.int .i64 i23),(.int .i64 i24),(.int .i64 i25),(.int .i64 i26)])]:Ls)⟩])
def yuD (Q:Qx):Ls→Ls→Ls→Nat→Nat→Nat→Ls→Int→Ls→Ls→Nat→Nat→Nat→Int→Int→Bool→Prop:=(fun l0 l1 l2 n3 n4 n5 l6 i7 l8 l9 n10 n11 n12 i13 i14 b15=>Q (.exit 2) [(0,.v (.fn (.yield 0) [] [])),(1,.v (.ptr 6 1 0 0)),(2,.v (.ptr 7 1 0 0)),(4,.v (.own 8 0 n10 n11 (some n12))),(6,.box (.agg [(.int .i64 i13),(.int .i64 i14)])),(27,.v (.bool b15))] [⟨false,true,1,([(.data l2)]:Ls)⟩,⟨false,false,1,([(.agg [(.own 5 0 n3 n4 (some n5))])]:Ls)⟩,⟨false,false,1,([.nils]:Ls)⟩,⟨false,true,1,([(.data l6)]:Ls)⟩,⟨false,true,1,([(.int .i64 i7)]:Ls)⟩,⟨false,true,1,l0⟩,⟨false,true,2,([(.agg [(.data l8),(.data l9)])]:Ls)⟩,⟨false,false,1,([(.fn (.func yat) [] [(.ptr 4 1 0 0)])]:Ls)⟩,⟨false,true,1,l1⟩])
def yuE (Q:Qx):Ls→Ls→Ls→Nat→Nat→Nat→Ls→Int→Ls→Ls→Int→Int→Int→Int→Int→Int→Prop:=(fun l0 l1 l2 n3 n4 n5 l6 i7 l8 l9 i10 i11 i12 i13 i14 i15=>Q .ret [] [⟨false,true,1,([(.data l2)]:Ls)⟩,⟨false,false,1,([(.agg [(.own 5 0 n3 n4 (some n5))])]:Ls)⟩,⟨false,false,1,([.nils]:Ls)⟩,⟨false,true,1,([(.data l6)]:Ls)⟩,⟨false,true,1,([(.int .i64 i7)]:Ls)⟩,⟨false,true,1,l0⟩,⟨false,true,2,([(.agg [(.data l8),(.data l9)])]:Ls)⟩,⟨false,false,1,([(.fn (.func yat) [] [(.ptr 4 1 0 0)])]:Ls)⟩,⟨false,true,1,l1⟩,⟨false,true,6,([(.agg [(.int .i64 i10),(.int .i64 i11),(.int .i64 i12),(.int .i64 i13),(.int .i64 i14),(.int .i64 i15)])]:Ls)⟩])
def yuF (Q:Qx):Ls→Ls→Ls→Ls→Nat→Nat→Nat→Ls→Int→Ls→Ls→Int→Int→Int→Int→Int→Int→Ls→Ls→Int→Int→Int→Int→Int→Int→Nat→Nat→Nat→Int→Int→Ls→Ls→Int→Bool→Ls→Ls→Int→Int→Int→Int→Int→Int→Bool→Bool→Prop:=(fun l0 l1 l2 l3 n4 n5 n6 l9 i10 l11 l12 i13 i14 i15 i16 i17 i18 l19 l20 i21 i22 i23 i24 i25 i26 n27 n28 n29 i30 i31 l32 l33 i34 b35 l36 l37 i38 i39 i40 i41 i42 i43 b44 b45=>Q (.brk 0 0) [(0,.v (.fn (.yield 0) [] [])),(1,.v (.ptr 6 1 0 0)),(2,.v (.ptr 7 1 0 0)),(4,.v (.own 8 0 n27 n28 (some n29))),(6,.box (.agg [(.int .i64 i30),(.int .i64 i31)])),(7,.box (.agg [(.data l32),(.data l33)])),(8,.v (.ptr 9 1 0 0)),(9,.v (.int .i64 i34)),(37,.v (.bool b35)),(41,.v (.fn (.yield 0) [] [])),(42,.v (.agg [(.data l36),(.data l37)])),(43,.v (.agg [(.int .i64 i38),(.int .i64 i39),(.int .i64 i40),(.int .i64 i41),(.int .i64 i42),(.int .i64 i43)])),(44,.v (.bool b44)),(45,.v (.bool b45))] [⟨false,true,1,([(.data l3)]:Ls)⟩,⟨false,false,1,([(.agg [(.own 5 0 n4 n5 (some n6))])]:Ls)⟩,⟨false,false,1,([(.own 12 0 (List.length l2) (List.length l2) none)]:Ls)⟩,⟨false,true,1,([(.data l9)]:Ls)⟩,⟨false,true,1,([(.int .i64 i10)]:Ls)⟩,⟨false,true,1,l0⟩,⟨false,true,2,([(.agg [(.data l11),(.data l12)])]:Ls)⟩,⟨false,false,1,([(.fn (.func yat) [] [(.ptr 4 1 0 0)])]:Ls)⟩,⟨false,true,1,l1⟩,⟨false,true,6,([(.agg [(.int .i64 i13),(.int .i64 i14),(.int .i64 i15),(.int .i64 i16),(.int .i64 i17),(.int .i64 i18)])]:Ls)⟩,⟨false,true,2,([(.agg [(.data l19),(.data l20)])]:Ls)⟩,⟨false,true,6,([(.agg [(.int .i64 i21),(.int .i64 i22),(.int .i64 i23),(.int .i64 i24),(.int .i64 i25),(.int .i64 i26)])]:Ls)⟩,⟨false,true,6,l2⟩])
def ymA (Q:Qx):Ls→Ls→Ls→Ls→Nat→Nat→Nat→Ls→Int→Ls→Ls→Nat→Nat→Nat→Int→Int→Bool→Prop:=(fun l0 l1 l2 l3 n4 n5 n6 l9 i10 l11 l12 n13 n14 n15 i16 i17 b18=>Q (.exit 2) [(0,.v (.fn (.yield 0) [] [])),(1,.v (.ptr 6 1 0 0)),(2,.v (.ptr 7 1 0 0)),(4,.v (.own 8 0 n13 n14 (some n15))),(6,.box (.agg [(.int .i64 i16),(.int .i64 i17)])),(27,.v (.bool b18))] [⟨false,true,1,([(.data l3)]:Ls)⟩,⟨false,false,1,([(.agg [(.own 5 0 n4 n5 (some n6))])]:Ls)⟩,⟨false,false,1,([(.own 12 0 (List.length l2) (List.length l2) none)]:Ls)⟩,⟨false,true,1,([(.data l9)]:Ls)⟩,⟨false,true,1,([(.int .i64 i10)]:Ls)⟩,⟨false,true,1,l0⟩,⟨false,true,2,([(.agg [(.data l11),(.data l12)])]:Ls)⟩,⟨false,false,1,([(.fn (.func yat) [] [(.ptr 4 1 0 0)])]:Ls)⟩,⟨false,true,1,l1⟩,⟨false,true,6,([]:Ls)⟩,⟨false,true,2,([]:Ls)⟩,⟨false,true,6,([]:Ls)⟩,⟨false,true,6,l2⟩])
def ymB (Q:Qx):Ls→Ls→Ls→Ls→Nat→Nat→Nat→Ls→Int→Ls→Ls→Int→Int→Int→Int→Int→Int→Prop:=(fun l0 l1 l2 l3 n4 n5 n6 l9 i10 l11 l12 i13 i14 i15 i16 i17 i18=>Q .ret [] [⟨false,true,1,([(.data l3)]:Ls)⟩,⟨false,false,1,([(.agg [(.own 5 0 n4 n5 (some n6))])]:Ls)⟩,⟨false,false,1,([(.own 12 0 (List.length l2) (List.length l2) none)]:Ls)⟩,⟨false,true,1,([(.data l9)]:Ls)⟩,⟨false,true,1,([(.int .i64 i10)]:Ls)⟩,⟨false,true,1,l0⟩,⟨false,true,2,([(.agg [(.data l11),(.data l12)])]:Ls)⟩,⟨false,false,1,([(.fn (.func yat) [] [(.ptr 4 1 0 0)])]:Ls)⟩,⟨false,true,1,l1⟩,⟨false,true,6,([]:Ls)⟩,⟨false,true,2,([]:Ls)⟩,⟨false,true,6,([]:Ls)⟩,⟨false,true,6,l2⟩,⟨false,true,6,([(.agg [(.int .i64 i13),(.int .i64 i14),(.int .i64 i15),(.int .i64 i16),(.int .i64 i17),(.int .i64 i18)])]:Ls)⟩])
def ymC (Q:Qx):Ls→Ls→Ls→Ls→Nat→Nat→Nat→Ls→Int→Ls→Ls→Int→Int→Int→Int→Int→Int→Ls→Ls→Int→Int→Int→Int→Int→Int→Nat→Nat→Nat→Int→Int→Ls→Ls→Int→Bool→Ls→Ls→Int→Int→Int→Int→Int→Int→Bool→Bool→Prop:=(fun l0 l1 l2 l3 n4 n5 n6 l9 i10 l11 l12 i13 i14 i15 i16 i17 i18 l19 l20 i21 i22 i23 i24 i25 i26 n27 n28 n29 i30 i31 l32 l33 i34 b35 l36 l37 i38 i39 i40 i41 i42 i43 b44 b45=>Q (.brk 0 0) [(0,.v (.fn (.yield 0) [] [])),(1,.v (.ptr 6 1 0 0)),(2,.v (.ptr 7 1 0 0)),(4,.v (.own 8 0 n27 n28 (some n29))),(6,.box (.agg [(.int .i64 i30),(.int .i64 i31)])),(7,.box (.agg [(.data l32),(.data l33)])),(8,.v (.ptr 13 1 0 0)),(9,.v (.int .i64 i34)),(37,.v (.bool b35)),(41,.v (.fn (.yield 0) [] [])),(42,.v (.agg [(.data l36),(.data l37)])),(43,.v (.agg [(.int .i64 i38),(.int .i64 i39),(.int .i64 i40),(.int .i64 i41),(.int .i64 i42),(.int .i64 i43)])),(44,.v (.bool b44)),(45,.v (.bool b45))] [⟨false,true,1,([(.data l3)]:Ls)⟩,⟨false,false,1,([(.agg [(.own 5 0 n4 n5 (some n6))])]:Ls)⟩,⟨false,false,1,([(.own 12 0 (List.length l2) (List.length l2) none)]:Ls)⟩,⟨false,true,1,([(.data l9)]:Ls)⟩,⟨false,true,1,([(.int .i64 i10)]:Ls)⟩,⟨false,true,1,l0⟩,⟨false,true,2,([(.agg [(.data l11),(.data l12)])]:Ls)⟩,⟨false,false,1,([(.fn (.func yat) [] [(.ptr 4 1 0 0)])]:Ls)⟩,⟨false,true,1,l1⟩,⟨false,true,6,([]:Ls)⟩,⟨false,true,2,([]:Ls)⟩,⟨false,true,6,([]:Ls)⟩,⟨false,true,6,l2⟩,⟨false,true,6,([(.agg [(.int .i64 i13),(.int .i64 i14),(.int .i64 i15),(.int .i64 i16),(.int .i64 i17),(.int .i64 i18)])]:Ls)⟩,⟨false,true,2,([(.agg [(.data l19),(.data l20)])]:Ls)⟩,⟨false,true,6,([(.agg [(.int .i64 i21),(.int .i64 i22),(.int .i64 i23),(.int .i64 i24),(.int .i64 i25),(.int .i64 i26)])]:Ls)⟩])
def pt29:RPt:=rC vD rN
def pt30:RPt:=rC (vA (lC (vO 5 (nK 0) nV nV nV) lN)) rN
def pt31:RPt:=rC (vF yat lN (lC (vP 4 0 (nK 1) (nK 0)) lN)) rN
def pt32:HPt:=hB false true 1 pt29 (hB false false 1 pt30 (hB false false 1 (rC vNs rN) (hB false true 1 pt29 (hB false true 1 pt17 (hB false true 1 rA (hB false true 2 pt24 (hB false false 1 pt31 (hB false true 1 rA hN))))))))
def pt33:VPt:=vP 6 0 (nK 1) (nK 0)
def pt34:VPt:=vP 7 0 (nK 1) (nK 0)
def pt35:VPt:=vO 8 (nK 0) nV nV nV
def pt36:Pat Frm:=fV 1 (vP 0 0 (nK 1) (nK 0)) (fV 2 pt19 (fV 3 pt18 (fV 4 pt28 (fV 5 (vP 4 0 (nK 1) (nK 0)) (fV 24 (vF ycN lN (lC pt33 (lC pt34 lN))) fN)))))
def yoo (a0:ya6) (a1:yaf) (a2:yaJ) (Q:Qx):List St:=[⟨(pS pt32 (fV 0 vY (fV 1 pt33 (fV 2 pt34 (fV 4 pt35 (fV 15 pt0 (fV 16 pt0 fN)))))) pt36),fun n l2 n3 n4 n5 l6 i7 l0 l8 l9 l1 n10 n11 n12 i13 i14=>ydp a0 a1 a2 (yuw Q) n l0 l1 l2 n3 n4 n5 l6 i7 l8 l9 n10 n11 n12 i13 i14⟩]
def pt37:RPt:=rC (vW 12 (nK 0) (nT 12) (nT 12)) rN
def pt38:HPt:=hB false true 1 pt29 (hB false false 1 pt30 (hB false false 1 pt37 (hB false true 1 pt29 (hB false true 1 pt17 (hB false true 1 rA (hB false true 2 pt24 (hB false false 1 pt31 (hB false true 1 rA (hB false true 6 pt26 (hB false true 2 pt24 (hB false true 6 pt26 (hB false true 6 rA hN))))))))))))
def pt39:VPt:=vF yaI lN (lC (vP 9 0 (nK 1) (nK 0)) lN)
def pt40:HPt:=hB false true 1 pt29 (hB false false 1 pt30 (hB false false 1 pt37 (hB false true 1 pt29 (hB false true 1 pt17 (hB false true 1 rA (hB false true 2 pt24 (hB false false 1 pt31 (hB false true 1 rA (hB false true 6 rN (hB false true 2 rN (hB false true 6 rN (hB false true 6 rA (hB false true 6 pt26 (hB false true 2 pt24 (hB false true 6 pt26 hN)))))))))))))))
def pt41:VPt:=vF yaI lN (lC (vP 13 0 (nK 1) (nK 0)) lN)
def yop (a0:ya6) (a1:yaf) (a2:yaJ) (Q:Qx):List St:=[⟨(pS pt38 (fV 0 pt35 (fV 1 pt39 pt10)) fN),fun n l3 n4 n5 n6 l9 i10 l0 l11 l12 l1 i13 i14 i15 i16 i17 i18 l19 l20 i21 i22 i23 i24 i25 i26 l2 n27 n28 n29 i30 i31=>ydq a0 a1 a2 (yux Q) (yuy Q) n l0 l1 l2 l3 n4 n5 n6 l9 i10 l11 l12 i13 i14 i15 i16 i17 i18 l19 l20 i21 i22 i23 i24 i25 i26 n27 n28 n29 i30 i31⟩,⟨(pS pt40 (fV 0 pt35 (fV 1 pt41 pt10)) fN),fun n l3 n4 n5 n6 l9 i10 l0 l11 l12 l1 l2 i13 i14 i15 i16 i17 i18 l19 l20 i21 i22 i23 i24 i25 i26 n27 n28 n29 i30 i31=>ydr a0 a1 a2 (yuz Q) (yuA Q) n l0 l1 l2 l3 n4 n5 n6 l9 i10 l11 l12 i13 i14 i15 i16 i17 i18 l19 l20 i21 i22 i23 i24 i25 i26 n27 n28 n29 i30 i31⟩]
def yoq (a0:ya6) (a1:yaf) (a2:yaJ) (Q:Qx):List St:=[⟨(pS pt38 (fV 0 pt35 (fV 1 pt39 (fV 5 pt0 (fV 6 pt0 fN)))) fN),fun n l3 n4 n5 n6 l9 i10 l0 l11 l12 l1 i13 i14 i15 i16 i17 i18 l19 l20 i21 i22 i23 i24 i25 i26 l2 n27 n28 n29 i30 i31=>yds a0 a1 a2 (yuB Q) n l0 l1 l2 l3 n4 n5 n6 l9 i10 l11 l12 i13 i14 i15 i16 i17 i18 l19 l20 i21 i22 i23 i24 i25 i26 n27 n28 n29 i30 i31⟩,⟨(pS pt40 (fV 0 pt35 (fV 1 pt41 (fV 5 pt0 (fV 6 pt0 fN)))) fN),fun n l3 n4 n5 n6 l9 i10 l0 l11 l12 l1 l2 i13 i14 i15 i16 i17 i18 l19 l20 i21 i22 i23 i24 i25 i26 n27 n28 n29 i30 i31=>ydt a0 a1 a2 (yuC Q) n l0 l1 l2 l3 n4 n5 n6 l9 i10 l11 l12 i13 i14 i15 i16 i17 i18 l19 l20 i21 i22 i23 i24 i25 i26 n27 n28 n29 i30 i31⟩]
def pt42:Pat Frm:=fV 0 vY (fV 1 pt33 (fV 2 pt34 (fV 4 pt35 (fX 6 pt7 fN))))
def yor (a0:ya6) (a1:yaf) (a2:yaJ) (Q:Qx):List St:=[⟨(pS pt32 pt42 pt36),fun n l2 n3 n4 n5 l6 i7 l0 l8 l9 l1 n10 n11 n12 i13 i14=>ycI a0 a1 a2 (yuD Q) (yuE Q) (yuF Q) (ymA Q) (ymB Q) (ymC Q) n l0 l1 l2 n3 n4 n5 l6 i7 l8 l9 n10 n11 n12 i13 i14⟩,⟨(pS (hB false true 1 pt29 (hB false false 1 pt30 (hB false false 1 pt37 (hB false true 1 pt29 (hB false true 1 pt17 (hB false true 1 rA (hB false true 2 pt24 (hB false false 1 pt31 (hB false true 1 rA (hB false true 6 rN (hB false true 2 rN (hB false true 6 rN (hB false true 6 rA hN))))))))))))) pt42 pt36),fun n l3 n4 n5 n6 l9 i10 l0 l11 l12 l1 l2 n13 n14 n15 i16 i17=>ycH a0 a1 a2 (ymA Q) (ymB Q) (ymC Q) n l0 l1 l2 l3 n4 n5 n6 l9 i10 l11 l12 n13 n14 n15 i16 i17⟩]
def ydD (a0:ya6) (a1:yaf) (a2:yaJ):LP:=lpS [(82399400,yoo a0 a1 a2),(91326000,yop a0 a1 a2),(55401000,yoq a0 a1 a2),(82399401,yor a0 a1 a2)]
def ygT (e:Es) (a0:ya6) (a1:yaf) (a2:yaJ):SE:=⟨(E e),yib [(yf3,yAq.pw a0),(ycf,yiD.pw a1)],yic [(ygs,ynX),(yat,ypK),(yaI,yid)],ydD a0 a1 a2,yt6 [(ydF,ygx a2)]⟩
def ygU (e:Es) (a0:ya6) (a1:yaf) (a2:yaJ):SE:=⟨(E e),yib [(yf3,yAq.pw a0),(ycf,yiD.pw a1)],yic [(ygs,ynX),(yat,ypK),(ych,yj8),(ydX,ylj),(yaI,yid)],ydD a0 a1 a2,yt6 [(ydF,ygx a2)]⟩
theorem yhk (e:Es) (he:EG e):SEOk (Uni (E e)) (ygT e yaM yau yaA):=yzV (Sub.uni _) ⟨(yr8 e he),(yiN e he),trivial⟩ ⟨⟨by kernel_rfl,by kernel_rfl,rfl,fun as=>ybi (by kernel_rfl) as,he.num _ (by kernel_rfl),by kernel_rfl,(yae (by kernel_rfl))⟩,⟨by kernel_rfl,by kernel_rfl,rfl,fun as=>ybi (by kernel_rfl) as,he.num _ (by kernel_rfl),by kernel_rfl,(yae (by kernel_rfl))⟩,⟨by kernel_rfl,by kernel_rfl,rfl,fun as=>ybi (by kernel_rfl) as,he.num _ (by kernel_rfl),by kernel_rfl,(yae (by kernel_rfl))⟩,trivial⟩ he.ok ⟨(yon e he),trivial⟩
theorem ysN (e:Es) (a0 a1 a2):ycX (ygT e a0 a1 a2) 5 (fun G=>WYk (E e) (yjc (ygT e a0 a1 a2) 5) (ydD a0 a1 a2) G [25,26] ycl ycm) yj9 true (yoo a0 a1 a2):=fun _=>⟨fun _=>by kernel_rfl,fun _ _=>by kernel_rfl,trivial⟩
theorem ysO (e:Es) (he:EG e) (G:Frm):LpT (Rng (E e) G [25,26] (erase ycl) (erase ycm)) (ydD yaM yau yaA) G 82399400 (.loopG 82399400 yj9):=fun _ _ _=>ylD.stG (P:=(Rng (E e) G [25,26] (erase ycl) (erase ycm))) (Sub.rng _ _ _ _ _) ((yaz (yhk e he) 5).sub (Sub.rng _ _ _ _ _)) (yF0 (as:=ycl) (bd:=ycm) (yaz (yhk e he) 5) (by kernel_rfl) (by kernel_rfl) (yae (by kernel_rfl)) (yae (by kernel_rfl))) (yae (by kernel_rfl)) (ysN e _ _ _ _)
theorem ysP (e:Es) (a0 a1 a2):ycX (ygT e a0 a1 a2) 5 a yj6 false (yop a0 a1 a2):=fun _=>⟨fun _=>by kernel_rfl,fun _ _=>by kernel_rfl,fun _=>by kernel_rfl,fun _ _=>by kernel_rfl,trivial⟩
theorem ysQ (e:Es) (he:EG e):LpT (Uni (E e)) (ydD yaM yau yaA) [] 91326000 (.loop 91326000 yj6):=fun _ _ _=>ylD.st (Sub.uni _) (yaz (yhk e he) 5) (YOk.no _ _) (yae (by kernel_rfl)) (ysP e _ _ _ _)
theorem ysR (e:Es) (a0 a1 a2):ycX (ygT e a0 a1 a2) 5 a yj7 false (yoq a0 a1 a2):=fun _=>⟨fun _=>by kernel_rfl,fun _ _=>by kernel_rfl,fun _=>by kernel_rfl,fun _ _=>by kernel_rfl,trivial⟩
theorem ysS (e:Es) (he:EG e):LpT (Uni (E e)) (ydD yaM yau yaA) [] 55401000 (.loop 55401000 yj7):=fun _ _ _=>ylD.st (Sub.uni _) (yaz (yhk e he) 5) (YOk.no _ _) (yae (by kernel_rfl)) (ysR e _ _ _ _)
theorem yhl (e:Es) (he:EG e):SEOk (Uni (E e)) (ygU e yaM yau yaA):=yzV (Sub.uni _) ⟨(yr8 e he),(yiN e he),trivial⟩ ⟨⟨by kernel_rfl,by kernel_rfl,rfl,fun as=>ybi (by kernel_rfl) as,he.num _ (by kernel_rfl),by kernel_rfl,(yae (by kernel_rfl))⟩,⟨by kernel_rfl,by kernel_rfl,rfl,fun as=>ybi (by kernel_rfl) as,he.num _ (by kernel_rfl),by kernel_rfl,(yae (by kernel_rfl))⟩,⟨by kernel_rfl,by kernel_rfl,rfl,fun as=>ybi (by kernel_rfl) as,he.num _ (by kernel_rfl),by kernel_rfl,(ya8 (l:=[(55401000,.loop 55401000 yj7)]) ⟨ysS e he,trivial⟩ (by kernel_rfl))⟩,⟨by kernel_rfl,by kernel_rfl,rfl,fun as=>ybi (by kernel_rfl) as,he.num _ (by kernel_rfl),by kernel_rfl,(ya8 (l:=[(91326000,.loop 91326000 yj6)]) ⟨ysQ e he,trivial⟩ (by kernel_rfl))⟩,⟨by kernel_rfl,by kernel_rfl,rfl,fun as=>ybi (by kernel_rfl) as,he.num _ (by kernel_rfl),by kernel_rfl,(yae (by kernel_rfl))⟩,trivial⟩ he.ok ⟨(yon e he),trivial⟩
theorem ysT (e:Es) (a0 a1 a2):ycX (ygU e a0 a1 a2) 5 (fun G=>WYk (E e) (yjc (ygU e a0 a1 a2) 5) (ydD a0 a1 a2) G [25,26] ycl ycm) yka true (yor a0 a1 a2):=fun _=>⟨fun _=>by kernel_rfl,fun _ _=>by kernel_rfl,fun _=>by kernel_rfl,fun _ _=>by kernel_rfl,trivial⟩
theorem ysU (e:Es) (he:EG e) (G:Frm):LpT (Rng (E e) G [25,26] (erase ycl) (erase ycm)) (ydD yaM yau yaA) G 82399401 (.loopG 82399401 yka):=fun _ _ _=>ylD.stG (P:=(Rng (E e) G [25,26] (erase ycl) (erase ycm))) (Sub.rng _ _ _ _ _) ((yaz (yhl e he) 5).sub (Sub.rng _ _ _ _ _)) (yF0 (as:=ycl) (bd:=ycm) (yaz (yhl e he) 5) (by kernel_rfl) (by kernel_rfl) (yae (by kernel_rfl)) (yae (by kernel_rfl))) (yae (by kernel_rfl)) (ysT e _ _ _ _)
theorem yAM (e:Es) (a0 a1 a2):EqW (ygU e a0 a1 a2) 6 yCg yAL (yik a0 a1 a2):=fun _ _=>by kernel_rfl
theorem ymD (e:Es) (he:EG e):OkS (E e) (yAL.pw ybZ) yeX:=okU he (yAM e _ _ _) (SEOk.solo (S:=(ygU e yaM yau yaA)) (yhl e he)) (yhM.one ((yhl e he)) 6) (yF1 (r:=yAe) (l:=[]) trivial (by kernel_rfl) (by kernel_rfl) (yEx (f:=ycN) (by kernel_rfl) (by kernel_rfl) (by kernel_rfl) (by kernel_rfl) (fun G=>(ya8 (l:=[(82399400,.loopG 82399400 yj9),(82399401,.loopG 82399401 yka)]) ⟨ysO e he G,ysU e he G,trivial⟩ (by kernel_rfl))) (yae (by kernel_rfl)) (yae (by kernel_rfl))))
def yiR (p0:Int) (K:Int→Int→Prop):Prop :=
 (jn (fun (a:Bool→Prop) =>
 (cbr (decide (p0<(1:Int)))
 (a true)
 (a (decide (p0>(6:Int))))))
 (fun b=>(cbr b
 (K (0:Int) (2:Int))
 (lt (IntKind.i64.wrap (p0*p0)) (fun c =>
 (lt (IntKind.i64.wrap (c-(1:Int))) (fun d =>
 (K d (0:Int)))))))))
def yhm:yaf:=yiR
def yvT:Sg:=⟨pt1,Int→Int→Prop,fun K=>(fun r0 r1=>K (.tup [(.int .i64 r0),(.int .i64 r1)]))⟩
def yvU (e:Es):SE:=sE (E e) [] lp0
theorem yvV (e:Es):EqW (yvU e) 6 yxA yvT yiR:=fun _ _=>by kernel_rfl
theorem yvW (e:Es) (he:EG e):OkF (E e) (yvT.pw yhm) yfI:=okU he (yvV e) (yak (Sub.uni _) trivial trivial he.ok) yhM.flat (yae (by kernel_rfl))
end Go.Pf.Vc
namespace Go.Pf.Vc
open Go Go.Pf
set_option linter.unusedVariables false
theorem ykX (p0:Ls) (r0:Ls) (r1:Ls) (r2:Ls) (r3:Int) (h:∀ K:Ls→Ls→Ls→Int→Prop,K r0 r1 r2 r3→ybZ p0 K) (K:Ls→Ls→Ls→Int→Prop):ybZ p0 K=K r0 r1 r2 r3 :=
 propext ⟨fun k=>detS (ymD [] yaP) (as:=[(.data p0)]) (x:=(.tup [(.agg [(.data r0)]),(.data r1),(.data r2),(.int .i64 r3)])) (fun K' k'=>h (fun r0 r1 r2 r3=>K' (.tup [(.agg [(.data r0)]),(.data r1),(.data r2),(.int .i64 r3)])) k') (K:=fun x=>match x with | (.tup [(.agg [(.data r0)]),(.data r1),(.data r2),(.int .i64 r3)])=>K r0 r1 r2 r3 | _=>False) k,h K⟩
end Go.Pf.Vc
namespace Go.Pf.Vc
open Go Go.Pf
set_option maxRecDepth 100000
def ype (a0:yaT) (a1:ybC) (p0:Ls) (K:Bool→Prop):Prop :=
 (jn (fun (a:Bool→Prop) =>
 (a0 p0 (fun b =>
 (cbr (!b)
 (a1 p0 ([]:Ls) (fun c =>
 (a (c ==(0:Int)))))
 (a false)))))
 (fun d=>(K d)))
def yge:yaT:=ype ycy yfo
def yCQ (e:Es) (a0:yaT) (a1:ybC):SE:=sE (E e) [(ydm,yfS.pw a0),(ygF,yp2.pw a1)] lp0
theorem yCR (e:Es) (a0 a1):EqW (yCQ e a0 a1) 6 yED yfS (ype a0 a1):=fun _ _=>by kernel_rfl
theorem yCS (e:Es) (he:EG e):OkF (E e) (yfS.pw yge) yjg:=okU he (yCR e _ _) (yak (Sub.uni _) ⟨(yii e he),(yqk e he),trivial⟩ trivial he.ok) yhM.flat (yae (by kernel_rfl))
abbrev ymE:Type:=(Ls→Prop)→Prop
def yqp (K:Ls→Prop):Prop :=
 (K ([(.agg [(.int .i64 (6:Int)),(.data ([(.int .i64 (0:Int)),(.int .i64 (6:Int))]:Ls)),(.data ([(.int .i64 (1:Int))]:Ls))]),(.agg [(.int .i64 (6:Int)),(.data ([(.int .i64 (0:Int)),(.int .i64 (4:Int)),(.int .i64 (6:Int))]:Ls)),(.data ([(.int .i64 (1:Int)),(.int .i64 (4:Int))]:Ls))]),(.agg [(.int .i64 (6:Int)),(.data ([(.int .i64 (0:Int)),(.int .i64 (2:Int)),(.int .i64 (6:Int))]:Ls)),(.data ([(.int .i64 (2:Int)),(.int .i64 (0:Int))]:Ls))])]:Ls))
def ymF:ymE:=yqp
def yyy:Sg:=⟨lN,Ls→Prop,fun K=>(fun r0=>K (.data r0))⟩
def yyz (e:Es):SE:=sE (E e) [] lp0
theorem yyA (e:Es):EqW (yyz e) 6 yz0 yyy yqp:=fun _ _=>by kernel_rfl
theorem yyB (e:Es) (he:EG e):OkF (E e) (yyy.pw ymF) ygG:=okU he (yyA e) (yak (Sub.uni _) trivial trivial he.ok) yhM.flat (yae (by kernel_rfl))
abbrev yfp:Type:=(Bool→Prop)→Prop
def ykY (a0:ymE) (a1:yej) (a2:yaf) (a3:yaf) (a4:yg0) (K:Bool→Prop):Prop :=
 (a0  (fun b =>
 (a1 b (fun _ c d e =>
 (a2 (3:Int) (fun f g =>
 (a3 (0:Int) (fun h i =>
 (a3 (6:Int) (fun j k =>
 (jn (fun (a:Bool→Prop) =>
 (cbr (e ==(0:Int))
 (a4 c ([(.agg [(.int .i64 (2:Int)),(.int .i64 h),(.int .i64 i),(.int .i64 (2:Int)),(.int .i64 (3:Int)),(.int .i64 (1:Int))]),(.agg [(.int .i64 (0:Int)),(.int .i64 (2:Int)),(.int .i64 (3:Int)),(.int .i64 (8:Int)),(.int .i64 (3:Int)),(.int .i64 (0:Int))]),(.agg [(.int .i64 (1:Int)),(.int .i64 (8:Int)),(.int .i64 (3:Int)),(.int .i64 j),(.int .i64 k),(.int .i64 (0:Int))])]:Ls) (fun l =>
 (cbr l
 (cbr ((((List.length d):Nat):Int) ==(6:Int))
 (cbr (g ==(0:Int))
 (a (f ==(8:Int)))
 (a false))
 (a false))
 (a false))))
 (a false)))
 (fun m=>(K m)))))))))))))
def yda:yfp:=ykY ymF ybZ yhm yef ycV
def yyC:Sg:=⟨lN,Bool→Prop,fun K=>(fun r0=>K (.bool r0))⟩
def yyD (e:Es) (a0:ymE) (a1:yej) (a2:yaf) (a3:yaf) (a4:yg0):SE:=sE (E e) [(ygG,yyy.pw a0),(yeX,yAL.pw a1),(yfI,yvT.pw a2),(ycD,yiD.pw a3),(ydP,yrv.pw a4)] lp0
theorem yyE (e:Es) (a0 a1 a2 a3 a4):EqW (yyD e a0 a1 a2 a3 a4) 6 yAf yyC (ykY a0 a1 a2 a3 a4):=fun _ _=>by kernel_rfl
theorem yyF (e:Es) (he:EG e):OkS (E e) (yyC.pw yda) yfb:=okU he (yyE e _ _ _ _ _) (yak (Sub.solo _) ⟨(OkF.solo (yyB e he)),(ymD e he),(OkF.solo (yvW e he)),(OkF.solo (yna e he)),(OkF.solo (yjv e he)),trivial⟩ trivial he.ok) yhM.flat (yae (by kernel_rfl))
def ybz (a0:yaT) (a1:yfp) (a2:yej) (a3:yaf) (a4:ybB) (a5:ya0) (x0:Ls→Ls→Ls→Ls→Int→Int→Nat→Nat→Nat→Int→Bool→Prop) (x1:Ls→Bool→Prop):Nat→Ls→Ls→Ls→Ls→Int→Int→Nat→Nat→Nat→Int→Prop
 | 0,_,_,_,_,_,_,_,_,_,_=>False
 | n+1,l0,l1,l2,l3,i4,i5,n6,n7,n8,i9 =>
 (cbr (decide (i9<(((List.length l3):Nat):Int)))
 (asr (decide ((0:Int)≤i9))
 (asr (decide (i9<(((List.length l3):Nat):Int)))
 (lt (List.getD l3 (i9.toNat) .nils) (fun a =>
 (asr (conf (.agg [.i .i64,.i .i64,.i .i64,.i .i64,.i .i64,.i .i64]) a)
 (jn (fun (c:Bool→Prop) =>
 (cbr (decide ((yab (yai a 0))<(0:Int)))
 (c true)
 (cbr (decide ((yab (yai a 0))≥(((List.length l1):Nat):Int)))
 (c true)
 (asr (decide ((0:Int)≤(yab (yai a 0))))
 (asr (decide ((yab (yai a 0))<((n6:Nat):Int)))
 (asr (decide ((List.length l0)=n7))
 (asr (decide ((0+((yab (yai a 0)).toNat))<(List.length l0)))
 (lt (List.getD l0 (0+((yab (yai a 0)).toNat)) .nils) (fun j =>
 (asr (conf (.one (.b)) j)
 (cbr (yxh j)
 (c true)
 (cbr (!(((yab (yai a 1)) == i4)&&(((yab (yai a 2)) == i5)&&true)))
 (c true)
 (cbr (decide ((yab (yai a 5))<(0:Int)))
 (c true)
 (lt (IntKind.i64.wrap ((((List.length l1):Nat):Int)-(1:Int))) (fun l =>
 (lt (IntKind.i64.wrap (l-i9)) (fun m =>
 (cbr (decide ((yab (yai a 5))>m))
 (c true)
 (asr (decide ((0:Int)≤(yab (yai a 0))))
 (asr (decide ((yab (yai a 0))<(((List.length l2):Nat):Int)))
 (lt (List.getD l2 ((yab (yai a 0)).toNat) .nils) (fun k =>
 (asr (conf (.one (.d)) k)
 (cbr ((((List.length (ybq k)):Nat):Int) !=(1:Int))
 (c true)
 (asr (decide ((0:Int)≤(yab (yai a 0))))
 (asr (decide ((yab (yai a 0))<(((List.length l2):Nat):Int)))
 (lt (List.getD l2 ((yab (yai a 0)).toNat) .nils) (fun g =>
 (asr (conf (.one (.d)) g)
 (asr (decide ((0:Int)<(((List.length (ybq g)):Nat):Int)))
 (lt (List.getD (ybq g) 0 .nils) (fun e =>
 (asr (conf (.agg [.i .i64,.i .i64,.i .i64,.i .i64]) e)
 (c (!(((yab (yai e 0)) ==(yab (yai a 1)))&&(((yab (yai e 1)) ==(yab (yai a 2)))&&(((yab (yai e 2)) ==(yab (yai a 3)))&&(((yab (yai e 3)) ==(yab (yai a 4)))&&true)))))))))))))))))))))))))))))))))))))))
 (fun o=>(cbr o
 (x1 l0 false)
 (asr (decide ((0:Int)≤(yab (yai a 0))))
 (asr (decide ((yab (yai a 0))<((n6:Nat):Int)))
 (asr (decide ((List.length l0)=n7))
 (asr (decide ((0+((yab (yai a 0)).toNat))<(List.length l0)))
 (lt (List.getD l0 (0+((yab (yai a 0)).toNat)) .nils) (fun p =>
 (asr (conf (.one (.b)) p)
 (asr (decide ((0:Int)≤(yab (yai a 0))))
 (asr (decide ((yab (yai a 0))<(((List.length l1):Nat):Int)))
 (lt (List.getD l1 ((yab (yai a 0)).toNat) .nils) (fun f =>
 (asr (conf (.agg [.i .i64,.d,.d]) f)
 (a4 (yab (yai f 0)) (ybq (yai f 1)) (ybq (yai f 2)) (yab (yai a 1)) (yab (yai a 2)) (yab (yai a 3)) (yab (yai a 4)) (fun q r s =>
 (jn (fun (h:Bool→Prop) =>
 (cbr (s !=(0:Int))
 (h true)
 (lt (IntKind.i64.wrap (i9+(1:Int))) (fun t =>
 (cbr (decide (t<(((List.length l3):Nat):Int)))
 (a5 l1 ([]:Ls) (yab (yai a 0)) (fun u v =>
 (h (!((q == u)&&((r == v)&&true))))))
 (h false))))))
 (fun w=>(cbr w
 (x1 (List.set l0 (0+((yab (yai a 0)).toNat)) (.bool true)) false)
 (lt (IntKind.i64.wrap (i9+(1:Int))) (fun x =>
 (ybz a0 a1 a2 a3 a4 a5 x0 x1 n (List.set l0 (0+((yab (yai a 0)).toNat)) (.bool true)) l1 l2 l3 (yab (yai a 3)) (yab (yai a 4)) n6 n7 n8 x))))))))))))))))))))))))))))
 (x0 l0 l1 l2 l3 i4 i5 n6 n7 n8 i9 false))
def ygf (a0:yaT) (a1:yfp) (a2:yej) (a3:yaf) (a4:ybB) (a5:ya0) (p0:Ls) (K:Bool→Prop):Prop :=
 (a0 p0 (fun h =>
 (cbr (!h)
 (a1  (fun j =>
 (K j)))
 (a2 p0 (fun b c _ k =>
 (jn (fun (a:Bool→Prop) =>
 (cbr (k !=(0:Int))
 (a true)
 (cbr ((((List.length c):Nat):Int) !=(((List.length p0):Nat):Int))
 (a true)
 (a ((((List.length b):Nat):Int) !=(((List.length p0):Nat):Int))))))
 (fun l=>(cbr l
 (K false)
 (a3 (0:Int) (fun m o =>
 (asr (decide ((0:Int)≤(((List.length p0):Nat):Int)))
 (asr (decide ((((List.length p0):Nat):Int)≤(((List.length p0):Nat):Int)))
 (asr (decide (((List.length p0)+64)*(1+1)≤room))
 (∃ n:Nat,ybz a0 a1 a2 a3 a4 a5
 (fun _ e _ _ p q _ _ _ _ _=>(jn (fun (f:Bool→Prop) =>
 (asr (decide ((0:Int)<(((List.length e):Nat):Int)))
 (lt (List.getD e 0 .nils) (fun g =>
 (asr (conf (.agg [.i .i64,.d,.d]) g)
 (a3 (yab (yai g 0)) (fun r s =>
 (cbr ((p == r)&&((q == s)&&true))
 (a1  (fun t =>
 (f t)))
 (f false)))))))))
 (fun u=>(K u))))
 (fun _ v=>(K v))
 n (List.replicate (List.length p0) ((.bool false):PV)) p0 b c m o (List.length p0) (List.length p0) (List.length p0) (0:Int)))))))))))))))
def yeU:yaT:=ygf yge yda ybZ yef ycq ydB
def ynF (Q:Qx):Ls→Ls→Ls→Ls→Int→Int→Nat→Nat→Nat→Int→Bool→Prop:=(fun l0 l1 l2 l3 i4 i5 n6 n7 n8 i9 b10=>Q (.exit 0) [(0,.v (.data l1)),(3,.box (.agg [(.data l2)])),(4,.v (.data l3)),(7,.box (.agg [(.int .i64 i4),(.int .i64 i5)])),(8,.v (.own 0 0 n6 n7 (some n8))),(9,.v (.int .i64 i9)),(48,.v (.bool b10))] [⟨false,true,1,l0⟩])
def ynG (Q:Qx):Ls→Bool→Prop:=(fun l0 b1=>Q .ret [(2,.v (.bool b1))] [⟨false,true,1,l0⟩])
def yhZ (a0:yaT) (a1:yfp) (a2:yej) (a3:yaf) (a4:ybB) (a5:ya0) (Q:Qx):List St:=[⟨(pS (hB false true 1 rA hN) (fV 0 vD (fX 3 (vA pt9) (fV 4 vD (fX 7 pt7 (fV 8 pt27 (fV 9 pt0 fN)))))) fN),ybz a0 a1 a2 a3 a4 a5 (ynF Q) (ynG Q)⟩]
def yjw (a0:yaT) (a1:yfp) (a2:yej) (a3:yaf) (a4:ybB) (a5:ya0):LP:=lpS [(7689000,yhZ a0 a1 a2 a3 a4 a5)]
def ygg (e:Es) (a0:yaT) (a1:yfp) (a2:yej) (a3:yaf) (a4:ybB) (a5:ya0):SE:=sE (E e) [(yjg,yfS.pw a0),(yfb,yyC.pw a1),(yeX,yAL.pw a2),(ycD,yiD.pw a3),(ygN,ykw.pw a4),(ygP,yql.pw a5)] (yjw a0 a1 a2 a3 a4 a5)
theorem yil (e:Es) (he:EG e):SEOk (Solo (E e)) (ygg e yge yda ybZ yef ycq ydB):=yak (Sub.solo _) ⟨(OkF.solo (yCS e he)),(yyF e he),(ymD e he),(OkF.solo (yna e he)),(OkF.solo (yqg e he)),(OkF.solo (yyu e he)),trivial⟩ trivial he.ok
theorem ymG (e:Es) (a0 a1 a2 a3 a4 a5):ycX (ygg e a0 a1 a2 a3 a4 a5) 5 a ym8 false (yhZ a0 a1 a2 a3 a4 a5):=fun _=>⟨fun _=>by kernel_rfl,fun _ _=>by kernel_rfl,trivial⟩
theorem ymH (e:Es) (he:EG e):LpT (Solo (E e)) (yjw yge yda ybZ yef ycq ydB) [] 7689000 (.loop 7689000 ym8):=fun _ _ _=>ylD.st (Sub.solo _) (yaz (yil e he) 5) (YOk.no _ _) (yae (by kernel_rfl)) (ymG e _ _ _ _ _ _ _)
theorem yrA (e:Es) (a0 a1 a2 a3 a4 a5):EqW (ygg e a0 a1 a2 a3 a4 a5) 6 ysr yfS (ygf a0 a1 a2 a3 a4 a5):=fun _ _=>by kernel_rfl
theorem yrB (e:Es) (he:EG e):OkS (E e) (yfS.pw yeU) ygX:=okU he (yrA e _ _ _ _ _ _) (yil e he) yhM.flat (ya8 (l:=[(7689000,.loop 7689000 ym8)]) ⟨ymH e he,trivial⟩ (by kernel_rfl))
end Go.Pf.Vc
namespace Go.Pf.Vc
open Go Go.Pf
def I64 (n:Int):Prop:=-9223372036854775808≤n∧n≤9223372036854775807
def U64 (n:Int):Prop:=0≤n∧n≤18446744073709551615
theorem yg6 (n:Int):IntKind.u64.wrap n=n % 18446744073709551616:=by
 simp only [IntKind.wrap,IntKind.signed,IntKind.bits,Bool.false_and,Bool.false_eq_true,if_false]
 rfl
theorem yJt (n:Int):IntKind.i64.wrap n=if n % 18446744073709551616≥9223372036854775808 then n % 18446744073709551616-18446744073709551616 else n % 18446744073709551616:=by
 have e1:(2:Int) ^ 64=18446744073709551616:=rfl
 have e2:(2:Int) ^ (64-1)=9223372036854775808:=rfl
 simp only [IntKind.wrap,IntKind.signed,IntKind.bits,Bool.true_and,e1,e2]
 by_cases h:n % 18446744073709551616≥9223372036854775808 <;> simp [h]
theorem wu64 {n:Int} (h:U64 n):IntKind.u64.wrap n=n:=by
 unfold U64 at h
 rw [yg6]
 omega
theorem wi64 {n:Int} (h:I64 n):IntKind.i64.wrap n=n:=by
 unfold I64 at h
 rw [yJt]
 split <;> omega
theorem yac {x y:Prop}:cbr true x y=x:=rfl
theorem yaa {x y:Prop}:cbr false x y=y:=rfl
theorem yan {x:Prop}:asr true x=x:=rfl
theorem ygy {p:Int} (h:I64 p) (K:Int→Prop):yc4 p K=K (p.natAbs:Int):=by
 unfold I64 at h
 unfold yc4 yiv
 by_cases hp:p<0
 · have e:IntKind.u64.wrap ((0:Int)-IntKind.u64.wrap p)=(p.natAbs:Int):=by
     rw [yg6,yg6]
     omega
   rw [decide_eq_true hp,yac,e]
 · rw [decide_eq_false hp,yaa,wu64 ⟨by omega,by omega⟩]
   congr 1
   omega
theorem yAN (x:Int→Int→Bool→Prop):∀ (n a b:Nat),b<n→ydQ x n (a:Int) (b:Int)=x ((Nat.gcd a b:Nat):Int) 0 false
 | 0,a,b,h=>by omega
 | n+1,a,b,h=>by
   unfold ydQ
   by_cases hb:b=0
   · subst hb
     simp [cbr]
   · have h1:(b:Int)>0:=by omega
     have h2:¬((b:Int)=0):=by omega
     rw [decide_eq_true h1,yac,decide_eq_false h2,Bool.not_false,yan]
     have e:Int.tmod (a:Int) (b:Int)=((a % b:Nat):Int):=by rw [Int.tmod_eq_emod_of_nonneg (by omega)];omega
     rw [e,yAN x n b (a % b) (by have:=Nat.mod_lt a (show b>0 by omega);omega)]
     rw [Nat.gcd_comm a b,Nat.gcd_rec b a,Nat.gcd_comm]
theorem yrC (a b:Nat) (K:Int→Prop) (h:K ((Nat.gcd a b:Nat):Int)):ybA (a:Int) (b:Int) K:=by
 unfold ybA ykg
 exact ⟨b+1,by rw [yAN _ (b+1) a b (by omega)];exact h⟩
def RV (n d:Int):Prop:=1≤d∧d≤1000000000000000000∧-1000000000000000000≤n∧n≤1000000000000000000∧Nat.gcd n.natAbs d.natAbs=1
instance (n d:Int):Decidable (RV n d):=by unfold RV;infer_instance
def chk (n d:Int):Int:=if RV n d then 0 else 8
theorem yuG {n d:Int} (hn:I64 n) (hd:I64 d) {K:Int→Prop} (h:K (chk n d)):yaS n d K:=by
 unfold yaS yhP
 by_cases h1:d<1
 · have e:chk n d=8:=if_neg fun h=>by have:=h.1;omega
   rw [decide_eq_true h1,yac,← e];exact h
 · have hd':=hd;have hn':=hn
   unfold I64 at hd' hn'
   have ed:IntKind.u64.wrap d=((d.natAbs:Nat):Int):=by rw [wu64 ⟨by omega,by omega⟩];omega
   rw [decide_eq_false h1,yaa,ygy hn,ed]
   by_cases h2:((if ((d.natAbs:Nat):Int)>((n.natAbs:Nat):Int) then ((d.natAbs:Nat):Int) else ((n.natAbs:Nat):Int))>1000000000000000000)
   · have e:chk n d=8:=if_neg fun h=>by
       obtain ⟨a1,a2,a3,a4,_⟩:=h
       revert h2;split <;> omega
     rw [decide_eq_true h2,yac,← e];exact h
   · rw [decide_eq_false h2,yaa,ygy hn]
     refine yrC _ _ _ ?_
     have h3:0<Nat.gcd n.natAbs d.natAbs:=Nat.gcd_pos_of_pos_right _ (by omega)
     have h4:d≤1000000000000000000∧-1000000000000000000≤n∧n≤1000000000000000000:=by
       revert h2;split <;> omega
     by_cases h5:((Nat.gcd n.natAbs d.natAbs:Nat):Int)>1
     · have e:chk n d=8:=if_neg fun h=>by have:=h.2.2.2.2;omega
       rw [decide_eq_true h5,yac,← e];exact h
     · have e:chk n d=0:=if_pos ⟨by omega,h4.1,h4.2.1,h4.2.2,by omega⟩
       rw [decide_eq_false h5,yaa,← e];exact h
end Go.Pf.Vc
namespace Go.Pf.Vc
open Go Go.Pf
theorem ykZ {p:Int} (h:U64 p):IntKind.u64.wrap (BitVec.ofInt IntKind.u64.bits p&&&BitVec.ofInt IntKind.u64.bits (4294967295:Int)).toNat=p % 4294967296:=by
 unfold U64 at h
 have e1:(BitVec.ofInt 64 p).toNat=p.toNat:=by
   rw [BitVec.toNat_ofInt];omega
 have e2:(BitVec.ofInt 64 (4294967295:Int)).toNat=4294967295:=rfl
 have e3:(BitVec.ofInt IntKind.u64.bits p&&&BitVec.ofInt IntKind.u64.bits (4294967295:Int)).toNat=p.toNat % 4294967296:=by
   show (BitVec.ofInt 64 p&&&BitVec.ofInt 64 (4294967295:Int)).toNat=_
   rw [BitVec.toNat_and,e1,e2]
   exact Nat.and_two_pow_sub_one_eq_mod p.toNat 32
 rw [e3,yg6]
 omega
theorem yF8 (p:Int):Int.fdiv p 4294967296=p / 4294967296:=by
 rw [Int.fdiv_eq_ediv_of_nonneg _ (by omega)]
theorem yh0 {a b:Int} (ha:U64 a) (hb:U64 b) (K:Int→Int→Prop):yev a b K=K (a*b / 18446744073709551616) (a*b % 18446744073709551616):=by
 unfold yev yoX
 simp only [yF8]
 rw [ykZ ha,ykZ hb]
 unfold U64 at ha hb
 have ha':=ha;have hb':=hb
 obtain ⟨x1,hx1⟩:∃ x,x=a / 4294967296:=⟨_,rfl⟩
 obtain ⟨x0,hx0⟩:∃ x,x=a % 4294967296:=⟨_,rfl⟩
 obtain ⟨y1,hy1⟩:∃ x,x=b / 4294967296:=⟨_,rfl⟩
 obtain ⟨y0,hy0⟩:∃ x,x=b % 4294967296:=⟨_,rfl⟩
 rw [← hx1,← hx0,← hy1,← hy0]
 have b1:0≤x1∧x1≤4294967295:=by omega
 have b2:0≤x0∧x0≤4294967295:=by omega
 have b3:0≤y1∧y1≤4294967295:=by omega
 have b4:0≤y0∧y0≤4294967295:=by omega
 have pb:∀ x y:Int,0≤x∧x≤4294967295→0≤y∧y≤4294967295→0≤x*y∧x*y≤18446744065119617025:=by
   intro x y hx hy
   refine ⟨Int.mul_nonneg hx.1 hy.1,?_⟩
   have:=Int.mul_le_mul hx.2 hy.2 hy.1 (by omega:(0:Int)≤4294967295)
   omega
 have p1:=pb x1 y1 b1 b3
 have p2:=pb x1 y0 b1 b4
 have p3:=pb x0 y1 b2 b3
 have p4:=pb x0 y0 b2 b4
 have ea:a=x1*4294967296+x0:=by omega
 have eb:b=y1*4294967296+y0:=by omega
 have eab:a*b=x1*y1*18446744073709551616+x1*y0*4294967296+x0*y1*4294967296+x0*y0:=by
   rw [ea,eb];grind
 obtain ⟨P,hP⟩:∃ x,x=x1*y1:=⟨_,rfl⟩
 obtain ⟨Q,hQ⟩:∃ x,x=x1*y0:=⟨_,rfl⟩
 obtain ⟨R,hR⟩:∃ x,x=x0*y1:=⟨_,rfl⟩
 obtain ⟨S,hS⟩:∃ x,x=x0*y0:=⟨_,rfl⟩
 rw [← hP] at p1;rw [← hQ] at p2;rw [← hR] at p3;rw [← hS] at p4
 rw [← hP,← hQ,← hR,← hS] at eab ⊢
 have w1:IntKind.u64.wrap S=S:=wu64 ⟨by omega,by omega⟩
 have w2:IntKind.u64.wrap Q=Q:=wu64 ⟨by omega,by omega⟩
 have w3:IntKind.u64.wrap R=R:=wu64 ⟨by omega,by omega⟩
 have w4:IntKind.u64.wrap P=P:=wu64 ⟨by omega,by omega⟩
 rw [w1,w2,w3,w4]
 have w5:IntKind.u64.wrap (Q+S / 4294967296)=Q+S / 4294967296:=wu64 ⟨by omega,by omega⟩
 rw [w5,ykZ ⟨by omega,by omega⟩]
 have w6:IntKind.u64.wrap ((Q+S / 4294967296) % 4294967296+R)=(Q+S / 4294967296) % 4294967296+R:=wu64 ⟨by omega,by omega⟩
 rw [w6]
 have w7:IntKind.u64.wrap (P+(Q+S / 4294967296) / 4294967296)=P+(Q+S / 4294967296) / 4294967296:=by
   have:a*b / 18446744073709551616≤18446744073709551615:=by
     have h1:a*b≤18446744073709551615*18446744073709551615:=by
       have:=Int.mul_le_mul ha'.2 hb'.2 hb'.1 (by omega:(0:Int)≤18446744073709551615)
       exact this
     omega
   exact wu64 ⟨by omega,by omega⟩
 rw [w7]
 have hab:a*b≤18446744073709551615*18446744073709551615:=Int.mul_le_mul ha'.2 hb'.2 hb'.1 (by omega:(0:Int)≤18446744073709551615)
 rw [eab] at hab ⊢
 rw [yg6,yg6]
 congr 1
 omega
theorem yIW {a b:Int} {K:Int→Prop} (h:K (if a=0 then b else a)):ydI [.int .i64 a,.int .i64 b] K:=by
 unfold ydI yeE
 refine ⟨3,?_⟩
 have e1:IntKind.i64.wrap 1=1:=by decide
 have e2:IntKind.i64.wrap 2=2:=by decide
 by_cases ha:a=0
 · by_cases hb:b=0
   · simp [ya3,yac,yaa,yan,conf,yfz,yab,e1,e2,ha,hb] at h ⊢;exact h
   · have e3:(b != 0)=true:=by simpa using hb
     simp [ya3,yac,yaa,yan,conf,yfz,yab,e1,e2,ha,e3] at h ⊢;exact h
 · have e3:(a != 0)=true:=by simpa using ha
   simp [ya3,yac,yaa,yan,conf,yfz,yab,e1,e2,ha,e3] at h ⊢;exact h
def chk2 (a b c d:Int):Int:=if chk a b=0 then chk c d else chk a b
theorem ymI {a b c d:Int} (ha:I64 a) (hb:I64 b) (hc:I64 c) (hd:I64 d) {K:Int→Prop} (h:K (chk2 a b c d)):ycn a b c d K:=by
 unfold ycn yhQ
 exact yuG ha hb (yuG hc hd (yIW h))
end Go.Pf.Vc
namespace Go.Pf.Vc
open Go Go.Pf
def cmp3 (a b:Int):Int:=if a<b then -1 else if a>b then 1 else 0
theorem yyG (a b:Int) (K:Int→Prop):ydi a b K=K (cmp3 a b):=by
 unfold ydi yee
 simp only [yfK,yeZ,bne_self_eq_false,yaa,cmp3]
 by_cases h:a<b
 · simp [h,yac]
 · by_cases h2:a>b
   · simp [h,h2,yac,yaa]
   · simp [h,h2,yaa]
theorem yqq (a b:Int) (K:Int→Prop):yc5 a b K=K (cmp3 a b):=by
 unfold yc5 ydY
 simp only [ye0,yeG,bne_self_eq_false,yaa,cmp3]
 by_cases h:a<b
 · simp [h,yac]
 · by_cases h2:a>b
   · simp [h,h2,yac,yaa]
   · simp [h,h2,yaa]
theorem yHA {a b:Int} {K:Int→Prop} (h:K (if a=0 then b else a)):yhd [.int .i64 a,.int .i64 b] K:=by
 unfold yhd yix
 refine ⟨3,?_⟩
 have e1:IntKind.i64.wrap 1=1:=by decide
 have e2:IntKind.i64.wrap 2=2:=by decide
 by_cases ha:a=0
 · by_cases hb:b=0
   · simp [yct,yac,yaa,yan,conf,yfz,yab,e1,e2,ha,hb] at h ⊢;exact h
   · have e3:(b != 0)=true:=by simpa using hb
     simp [yct,yac,yaa,yan,conf,yfz,yab,e1,e2,ha,e3] at h ⊢;exact h
 · have e3:(a != 0)=true:=by simpa using ha
   simp [yct,yac,yaa,yan,conf,yfz,yab,e1,e2,ha,e3] at h ⊢;exact h
theorem yey {a b c d:Int}:chk2 a b c d=0↔RV a b∧RV c d:=by
 unfold chk2 chk
 by_cases h1:RV a b <;> by_cases h2:RV c d <;> simp [h1,h2]
def cmpR (a b c d:Int):Int:=cmp3 (a*d) (c*b)
theorem yEQ {x y:Int} (_:0≤x) (_:0≤y):(if cmp3 (x / 18446744073709551616) (y / 18446744073709551616)=0 then cmp3 (x % 18446744073709551616) (y % 18446744073709551616) else cmp3 (x / 18446744073709551616) (y / 18446744073709551616))=cmp3 x y:=by
 unfold cmp3
 split <;> rename_i h <;> revert h <;> repeat' split <;> intro h <;> omega
theorem U64.abs {n:Int} (h:I64 n):U64 ((n.natAbs:Nat):Int):=by unfold I64 at h;unfold U64;omega
theorem yIX {a b c d:Int} (ha:I64 a) (hb:I64 b) (hc:I64 c) (hd:I64 d) {K:Int→Int→Prop} (h:K (if chk2 a b c d=0 then cmpR a b c d else 0) (chk2 a b c d)):ydz a b c d K:=by
 unfold ydz ykk
 refine ymI ha hb hc hd ?_
 by_cases hk:chk2 a b c d=0
 · rw [if_pos hk] at h
   rw [hk] at h ⊢
   obtain ⟨⟨b1,b2,a1,a2,_⟩,d1,d2,c1,c2,_⟩:=yey.1 hk
   simp only [bne_self_eq_false,yaa]
   by_cases hs:decide (a<0)=decide (c<0)
   · have e:(decide (a<0) != decide (c<0))=false:=by rw [hs];simp
     rw [e,yaa,ygy ha,wu64 ⟨by omega,by omega⟩,yh0 (U64.abs ha) ⟨by omega,by omega⟩,ygy hc,wu64 ⟨by omega,by omega⟩,yh0 (U64.abs hc) ⟨by omega,by omega⟩,yqq,yqq]
     refine yHA ?_
     have p1:0≤((a.natAbs:Nat):Int)*d:=Int.mul_nonneg (by omega) (by omega)
     have p2:0≤((c.natAbs:Nat):Int)*b:=Int.mul_nonneg (by omega) (by omega)
     rw [yEQ p1 p2]
     by_cases hneg:a<0
     · have hcn:c<0:=by simpa [hneg] using hs.symm
       rw [decide_eq_true hneg,yac]
       have e1:((a.natAbs:Nat):Int)*d=-(a*d):=by
         rw [show ((a.natAbs:Nat):Int)=-a by omega,Int.neg_mul]
       have e2:((c.natAbs:Nat):Int)*b=-(c*b):=by
         rw [show ((c.natAbs:Nat):Int)=-c by omega,Int.neg_mul]
       have e3:IntKind.i64.wrap (0-cmp3 (((a.natAbs:Nat):Int)*d) (((c.natAbs:Nat):Int)*b))=cmpR a b c d:=by
         rw [e1,e2]
         unfold cmpR cmp3
         rw [wi64 (by unfold I64;repeat' split <;> omega)]
         repeat' split <;> omega
       rw [e3];exact h
     · have hcn:¬c<0:=by simpa [hneg] using hs.symm
       rw [decide_eq_false hneg,yaa,show ((a.natAbs:Nat):Int)=a by omega,show ((c.natAbs:Nat):Int)=c by omega]
       exact h
   · have e:(decide (a<0) != decide (c<0))=true:=by simpa using hs
     rw [e,yac,yyG]
     have e2:cmp3 a c=cmpR a b c d:=by
       unfold cmpR cmp3
       by_cases hneg:a<0
       · have hcn:¬c<0:=by intro hcn;simp [hneg,hcn] at hs
         have q1:a*d<0:=Int.mul_neg_of_neg_of_pos hneg (by omega)
         have q2:0≤c*b:=Int.mul_nonneg (by omega) (by omega)
         rw [if_pos (by omega),if_pos (by omega)]
       · have hcn:c<0:=by
           by_cases hcn:c<0
           · exact hcn
           · simp [hneg,hcn] at hs
         have q1:c*b<0:=Int.mul_neg_of_neg_of_pos hcn (by omega)
         have q2:0≤a*d:=Int.mul_nonneg (by omega) (by omega)
         rw [if_neg (by omega),if_pos (by omega),if_neg (by omega),if_pos (by omega)]
     rw [e2];exact h
 · rw [if_neg hk] at h
   have e:(chk2 a b c d != 0)=true:=by simpa using hk
   rw [e,yac];exact h
end Go.Pf.Vc
namespace Go.Pf.Vc
open Go Go.Pf
def blen (x:Nat):Nat:=if x=0 then 0 else x.log2+1
theorem yDK (x:Nat):x<2 ^ blen x:=by
 unfold blen
 split
 · rename_i h;subst h;decide
 · exact Nat.lt_log2_self
theorem ys9 {x:Nat} (h:x≠0):2 ^ (blen x-1)≤x:=by
 unfold blen
 rw [if_neg h]
 exact Nat.log2_self_le h
theorem yHB {x m:Nat} (h1:2 ^ m≤x) (h2:x<2 ^ (m+1)):blen x=m+1:=by
 have hx:x≠0:=by have:=Nat.two_pow_pos m;omega
 unfold blen
 rw [if_neg hx]
 congr 1
 have a:=Nat.log2_self_le hx
 have b:=Nat.lt_log2_self (n:=x)
 have c1:¬(x.log2<m):=fun h=>by
   have:=Nat.pow_le_pow_right (show 0<2 by omega) (show x.log2+1≤m by omega)
   omega
 have c2:¬(m<x.log2):=fun h=>by
   have:=Nat.pow_le_pow_right (show 0<2 by omega) (show m+1≤x.log2 by omega)
   omega
 omega
theorem yF9 {x k:Nat} (h:2 ^ k≤x):blen x=k+blen (x / 2 ^ k):=by
 have hp:=Nat.two_pow_pos k
 have hq:x / 2 ^ k≠0:=by
   have:=Nat.div_pos h hp
   omega
 have h1:=ys9 hq
 have h2:=yDK (x / 2 ^ k)
 obtain ⟨m,hm⟩:∃ m,blen (x / 2 ^ k)=m+1:=⟨blen (x / 2 ^ k)-1,by
   have:blen (x / 2 ^ k)≠0:=by unfold blen;rw [if_neg hq];omega
   omega⟩
 rw [hm] at h1 h2 ⊢
 rw [Nat.add_sub_cancel] at h1
 have:=yHB (x:=x) (m:=k+m) (by
     rw [Nat.pow_add]
     calc 2 ^ k*2 ^ m≤2 ^ k*(x / 2 ^ k):=Nat.mul_le_mul_left _ h1
       _≤x:=Nat.mul_div_le _ _) (by
     rw [show k+m+1=k+(m+1) by omega,Nat.pow_add]
     rw [Nat.mul_comm]
     exact (Nat.div_lt_iff_lt_mul hp).1 h2)
 omega
theorem yIY:∀ x:Nat,x<256→yab (List.getD yfC x .nils)=(blen x:Int):=by decide +kernel
theorem wu8 {n:Int} (h0:0≤n) (h1:n<256):IntKind.u8.wrap n=n:=by
 have e1:(2:Int) ^ 8=256:=rfl
 simp only [IntKind.wrap,IntKind.signed,IntKind.bits,Bool.false_and,Bool.false_eq_true,if_false,e1]
 omega
theorem yHC {n:Int} (h0:0≤n) (h1:n<256):yab (List.getD yfC (IntKind.u8.wrap n).toNat .nils)=(blen n.toNat:Int):=by
 rw [wu8 h0 h1]
 exact yIY n.toNat (by omega)
theorem yJu {n:Nat} (h:n<256):blen n≤8:=by
 by_cases h0:n=0
 · subst h0;decide
 · have:=ys9 h0
   have h2:blen n-1<8:=by
     refine Nat.lt_of_not_le fun hc=>?_
     have:=Nat.pow_le_pow_right (show 0<2 by omega) hc
     omega
   omega
theorem ysf {n k:Int} (h0:0≤n) (h1:n<256) (hk:0≤k∧k≤56) {m:Int} (hm:m=k+blen n.toNat) {K:Int→Prop} (h:K m) :
   asr (decide ((0:Int)≤(IntKind.u8.wrap n))) (asr (decide ((IntKind.u8.wrap n)<(256:Int))) (K (IntKind.i64.wrap (k+(IntKind.i64.wrap (yab (List.getD yfC ((IntKind.u8.wrap n).toNat) .nils))))))):=by
 have hb:=yJu (n:=n.toNat) (by omega)
 have e1:IntKind.i64.wrap (blen n.toNat:Int)=blen n.toNat:=wi64 (by unfold I64;omega)
 have e2:IntKind.i64.wrap (k+blen n.toNat:Int)=k+blen n.toNat:=wi64 (by unfold I64;omega)
 rw [yHC h0 h1,wu8 h0 h1,decide_eq_true h0,yan,decide_eq_true h1,yan,e1,e2,← hm]
 exact h
theorem ysg (p q:Int) (hq:0≤q):Int.fdiv p q=p / q:=Int.fdiv_eq_ediv_of_nonneg _ hq
theorem yGa {p:Int} (hp:U64 p) {K:Int→Prop} (h:K (blen p.toNat:Int)):ym9 p K:=by
 unfold U64 at hp
 unfold ym9 yoZ
 simp only [ysg _ 4294967296 (by omega),ysg _ 65536 (by omega),ysg _ 256 (by omega)]
 have key:∀ (k:Nat) (q:Int),2 ^ k≤p.toNat→q=p / (2 ^ k:Nat)→(blen p.toNat:Int)=k+blen q.toNat:=by
   intro k q hk hq
   have e:q.toNat=p.toNat / 2 ^ k:=by
     rw [hq]
     obtain ⟨m,rfl⟩:∃ m:Nat,p=m:=⟨p.toNat,by omega⟩
     rw [← Int.natCast_ediv,Int.toNat_natCast,Int.toNat_natCast]
   rw [e]
   have:=yF9 hk
   omega
 by_cases h1:p≥4294967296
 · rw [decide_eq_true h1,yac]
   by_cases h2:p / 4294967296≥65536
   · rw [decide_eq_true h2,yac]
     by_cases h3:p / 4294967296 / 65536≥256
     · rw [decide_eq_true h3,yac]
       exact ysf (by omega) (by omega) (by omega) (key 56 _ (by omega) (by omega)) h
     · rw [decide_eq_false h3,yaa]
       exact ysf (by omega) (by omega) (by omega) (key 48 _ (by omega) (by omega)) h
   · rw [decide_eq_false h2,yaa]
     by_cases h3:p / 4294967296≥256
     · rw [decide_eq_true h3,yac]
       exact ysf (by omega) (by omega) (by omega) (key 40 _ (by omega) (by omega)) h
     · rw [decide_eq_false h3,yaa]
       exact ysf (by omega) (by omega) (by omega) (key 32 _ (by omega) (by omega)) h
 · rw [decide_eq_false h1,yaa]
   by_cases h2:p≥65536
   · rw [decide_eq_true h2,yac]
     by_cases h3:p / 65536≥256
     · rw [decide_eq_true h3,yac]
       exact ysf (by omega) (by omega) (by omega) (key 24 _ (by omega) (by omega)) h
     · rw [decide_eq_false h3,yaa]
       exact ysf (by omega) (by omega) (by omega) (key 16 _ (by omega) (by omega)) h
   · rw [decide_eq_false h2,yaa]
     by_cases h3:p≥256
     · rw [decide_eq_true h3,yac]
       exact ysf (by omega) (by omega) (by omega) (key 8 _ (by omega) (by omega)) h
     · rw [decide_eq_false h3,yaa]
       exact ysf (by omega) (by omega) (by omega) (by simp) h
theorem yqr {p:Int} (hp:U64 p) {K:Int→Prop} (h:K (64-blen p.toNat:Int)):yaY p K:=by
 unfold yaY yeH
 refine yGa hp ?_
 have hb:blen p.toNat≤64:=by
   unfold U64 at hp
   by_cases h0:p.toNat=0
   · rw [h0];decide
   · have:=ys9 h0
     have h2:blen p.toNat-1<64:=by
       refine Nat.lt_of_not_le fun hc=>?_
       have:=Nat.pow_le_pow_right (show 0<2 by omega) hc
       omega
     omega
 rw [wi64 (by unfold I64;omega)]
 exact h
end Go.Pf.Vc
namespace Go.Pf.Vc
open Go Go.Pf
structure DI (y a b u un q r:Int):Prop where
 hy:y=a*4294967296+b
 h1:2147483648≤a∧a≤4294967295
 h0:0≤b∧b≤4294967295
 hn:0≤un∧un≤4294967295
 hu:q*a+r=u
 hq:0≤q∧q≤4294967297
 hr:0≤r∧r≤4294967295
 hlt:u<y
 hU:u*4294967296+un<(q+1)*y
def DG (y u un q:Int):Prop:=0≤q∧q≤4294967295∧q*y≤u*4294967296+un∧u*4294967296+un<(q+1)*y
theorem DI.step {y a b u un q r:Int} (h:DI y a b u un q r) {A B C:Prop}
   (hA:DG y u un (q-1)→0≤q-1→q-1≤4294967296→A)
   (hB:DI y a b u un (q-1) (r+a)→B)
   (hC:DG y u un q→C) :
   cbr (decide (q≥(4294967296:Int)))
     (cbr (decide ((IntKind.u64.wrap (r+a))≥(4294967296:Int))) A B)
     (cbr (decide ((IntKind.u64.wrap (q*b))>(IntKind.u64.wrap ((IntKind.u64.wrap ((4294967296:Int)*r))+un))))
       (cbr (decide ((IntKind.u64.wrap (r+a))≥(4294967296:Int))) A B) C):=by
 have h':=h
 obtain ⟨hy,h1,h0,hn,hu,hq,hr,hlt,hU⟩:=h
 have e1:IntKind.u64.wrap (r+a)=r+a:=wu64 ⟨by omega,by omega⟩
 have eq1:q*y=q*a*4294967296+q*b:=by rw [hy];grind
 have eq2:(q-1)*y=q*y-y:=by grind
 have eq3:(q-1)*a=q*a-a:=by grind
 have eq4:(q-1+1)*y=q*y:=by grind
 have eq5:(q-1)*b=q*b-b:=by grind
 have big:u*4294967296+un<q*y→cbr (decide ((IntKind.u64.wrap (r+a))≥(4294967296:Int))) A B:=by
   intro hb
   have q1:0≤q-1:=by
     refine Int.not_lt.1 fun hc=>?_
     have hq0:q=0:=by omega
     subst hq0
     simp at hb hu
     omega
   rw [e1]
   by_cases hc:r+a≥4294967296
   · rw [decide_eq_true hc,yac]
     have hp:(q-1)*b≤4294967296*4294967295:=Int.mul_le_mul (by omega) h0.2 h0.1 (by omega)
     have hle:(q-1)*y≤u*4294967296+un:=by
       have:(q-1)*y=(q-1)*a*4294967296+(q-1)*b:=by rw [hy];grind
       omega
     have hlt32:q-1≤4294967295:=by
       refine Int.not_lt.1 fun hc=>?_
       have:4294967296*y≤(q-1)*y:=Int.mul_le_mul_of_nonneg_right (by omega) (by omega)
       omega
     exact hA ⟨q1,hlt32,hle,by rw [eq4];exact hb⟩ q1 (by omega)
   · rw [decide_eq_false hc,yaa]
     exact hB ⟨hy,h1,h0,hn,by rw [eq3];omega,⟨q1,by omega⟩,⟨by omega,by omega⟩,hlt,by rw [eq4];exact hb⟩
 by_cases ha:q≥4294967296
 · rw [decide_eq_true ha,yac]
   refine big ?_
   have:4294967296*y≤q*y:=Int.mul_le_mul_of_nonneg_right (by omega) (by omega)
   omega
 · rw [decide_eq_false ha,yaa]
   have hp:q*b≤4294967295*4294967295:=Int.mul_le_mul (by omega) h0.2 h0.1 (by omega)
   have hp0:0≤q*b:=Int.mul_nonneg hq.1 h0.1
   have w1:IntKind.u64.wrap (q*b)=q*b:=wu64 ⟨hp0,by omega⟩
   have w2:IntKind.u64.wrap ((4294967296:Int)*r)=4294967296*r:=wu64 ⟨by omega,by omega⟩
   have w3:IntKind.u64.wrap ((4294967296:Int)*r+un)=4294967296*r+un:=wu64 ⟨by omega,by omega⟩
   rw [w1,w2,w3]
   by_cases hb:q*b>4294967296*r+un
   · rw [decide_eq_true hb,yac]
     exact big (by omega)
   · rw [decide_eq_false hb,yaa]
     exact hC ⟨hq.1,by omega,by omega,hU⟩
theorem yJv (W:Int→(Int→Prop)→Prop) {y a c u un:Int} (s v un0:Int) {x0 x1:Int→Int→Int→Int→Int→Int→Int→Int→Int→Bool→Prop}
   (hx:∀ q r b,DG y u un q→x0 y s a c v un un0 q r b) (hx1:∀ q r b,DG y u un q→x1 y s a c v un un0 q r b) :
   ∀ (n:Nat) (q r:Int) (b:Bool),DI y a c u un q r→4294967296≤r+n*2147483648→yco W x0 x1 (n+1) y s a c v un un0 q r b:=by
 intro n
 induction n with
 | zero =>
   intro q r b h hn
   have:=h.hr.2
   exact absurd hn (by omega)
 | succ n ih =>
   intro q r b h hn
   unfold yco
   refine h.step (fun g a1 a2=>?_) (fun g=>?_) (fun g=>hx1 _ _ _ g)
   · rw [wu64 (n:=q-1) ⟨by omega,by omega⟩]
     exact hx _ _ _ g
   · have e1:IntKind.u64.wrap (q-1)=q-1:=wu64 ⟨g.hq.1,by have:=g.hq.2;omega⟩
     have e2:IntKind.u64.wrap (r+a)=r+a:=wu64 ⟨g.hr.1,by have:=g.hr.2;omega⟩
     rw [e1,e2]
     exact ih _ _ _ g (by have:=h.h1.1;omega)
theorem yJw (W:Int→(Int→Prop)→Prop) {y a c u un:Int} (s q1 v:Int) {x0 x1:Int→Int→Int→Int→Int→Int→Int→Int→Int→Bool→Prop}
   (hx:∀ q r b,DG y u un q→x0 y s a c un q1 r v q b) (hx1:∀ q r b,DG y u un q→x1 y s a c un q1 r v q b) :
   ∀ (n:Nat) (q r:Int) (b:Bool),DI y a c u un q r→4294967296≤r+n*2147483648→ycp W x0 x1 (n+1) y s a c un q1 r v q b:=by
 intro n
 induction n with
 | zero =>
   intro q r b h hn
   have:=h.hr.2
   exact absurd hn (by omega)
 | succ n ih =>
   intro q r b h hn
   unfold ycp
   refine h.step (fun g a1 a2=>?_) (fun g=>?_) (fun g=>hx1 _ _ _ g)
   · rw [wu64 (n:=q-1) ⟨by omega,by omega⟩]
     exact hx _ _ _ g
   · have e1:IntKind.u64.wrap (q-1)=q-1:=wu64 ⟨g.hq.1,by have:=g.hq.2;omega⟩
     have e2:IntKind.u64.wrap (r+a)=r+a:=wu64 ⟨g.hr.1,by have:=g.hr.2;omega⟩
     rw [e1,e2]
     exact ih _ _ _ g (by have:=h.h1.1;omega)
theorem yIZ (W:Int→(Int→Prop)→Prop) {y a c u un:Int} (s v un0:Int) {x0 x1:Int→Int→Int→Int→Int→Int→Int→Int→Int→Bool→Prop}
   (hx:∀ q r b,DG y u un q→x0 y s a c v un un0 q r b) (hx1:∀ q r b,DG y u un q→x1 y s a c v un un0 q r b) (q r:Int) (h:DI y a c u un q r):ygt W x0 x1 3 y s a c v un un0 q r:=by
 have:=yJv W s v un0 hx hx1 2 q r true h (by have:=h.hr.1;omega)
 unfold yco at this
 unfold ygt
 exact this
theorem yI0 (W:Int→(Int→Prop)→Prop) {y a c u un:Int} (s q1 v:Int) {x0 x1:Int→Int→Int→Int→Int→Int→Int→Int→Int→Bool→Prop}
   (hx:∀ q r b,DG y u un q→x0 y s a c un q1 r v q b) (hx1:∀ q r b,DG y u un q→x1 y s a c un q1 r v q b) (q r:Int) (h:DI y a c u un q r):ydU W x0 x1 3 y s a c un q1 r v q:=by
 have:=yJw W s q1 v hx hx1 2 q r true h (by have:=h.hr.1;omega)
 unfold ycp at this
 unfold ydU
 exact this
end Go.Pf.Vc
namespace Go.Pf.Vc
open Go Go.Pf
theorem DI.init {y a b u un:Int} (hy:y=a*4294967296+b) (h1:2147483648≤a∧a≤4294967295) (h0:0≤b∧b≤4294967295) (hn:0≤un∧un≤4294967295)
   (hu:0≤u) (hlt:u<y):DI y a b u un (u / a) (u-u / a*a):=by
 have a1:=Int.mul_ediv_add_emod u a
 have a2:=Int.emod_nonneg u (show a≠0 by omega)
 have a3:=Int.emod_lt_of_pos u (show 0<a by omega)
 have a4:u / a*a=a*(u / a):=Int.mul_comm _ _
 have a5:0≤u / a:=Int.ediv_nonneg hu (by omega)
 have a6:u / a≤4294967297:=by
   refine Int.not_lt.1 fun hc=>?_
   have:a*4294967298≤a*(u / a):=Int.mul_le_mul_of_nonneg_left (by omega) (by omega)
   omega
 refine ⟨hy,h1,h0,hn,by omega,⟨a5,a6⟩,⟨by omega,by omega⟩,hlt,?_⟩
 have e:(u / a+1)*y=a*(u / a)*4294967296+a*4294967296+(u / a+1)*b:=by
   obtain ⟨t,ht⟩:∃ t,t=u / a:=⟨_,rfl⟩
   rw [← ht,hy];grind
 have:0≤(u / a+1)*b:=Int.mul_nonneg (by omega) h0.1
 omega
theorem yGb {a b:Int} {k:Nat} (ha:0≤a) (hb:0≤b∧b<2 ^ k) (hab:a*2 ^ k≤18446744073709551615∧b≤18446744073709551615) (hs:a*2 ^ k+b≤18446744073709551615) :
   IntKind.u64.wrap (BitVec.ofInt IntKind.u64.bits (a*2 ^ k)|||BitVec.ofInt IntKind.u64.bits b).toNat=a*2 ^ k+b:=by
 obtain ⟨x,rfl⟩:∃ x:Nat,a=x:=⟨a.toNat,by omega⟩
 obtain ⟨z,rfl⟩:∃ z:Nat,b=z:=⟨b.toNat,by omega⟩
 have ec:((x:Int)*2 ^ k)=((2 ^ k*x:Nat):Int):=by push_cast;exact Int.mul_comm _ _
 rw [ec] at hab hs ⊢
 have hz:z<2 ^ k:=by have:=hb.2;exact_mod_cast this
 have e:(BitVec.ofInt IntKind.u64.bits ((2 ^ k*x:Nat):Int)|||BitVec.ofInt IntKind.u64.bits (z:Int)).toNat=2 ^ k*x+z:=by
   show (BitVec.ofInt 64 ((2 ^ k*x:Nat):Int)|||BitVec.ofInt 64 (z:Int)).toNat=_
   rw [BitVec.toNat_or,BitVec.toNat_ofInt,BitVec.toNat_ofInt]
   have e1:(((2 ^ k*x:Nat):Int) % (2 ^ 64:Nat)).toNat=2 ^ k*x:=by omega
   have e2:((z:Int) % (2 ^ 64:Nat)).toNat=z:=by omega
   rw [e1,e2,Nat.two_pow_add_eq_or_of_lt hz]
 rw [e,wu64 ⟨by omega,by omega⟩]
 push_cast;rfl
theorem yDL {u un q y:Int} (h0:0≤u*4294967296+un-q*y) (h1:u*4294967296+un-q*y≤18446744073709551615) :
   IntKind.u64.wrap (IntKind.u64.wrap (IntKind.u64.wrap (u*4294967296)+un)-IntKind.u64.wrap (q*y))=u*4294967296+un-q*y:=by
 simp only [yg6]
 omega
theorem yjx {a b:Int} (h:0≤a):Int.tdiv a b=a / b:=Int.tdiv_eq_ediv_of_nonneg h
theorem yIr {a b:Int} (h:0≤a):Int.tmod a b=a % b:=Int.tmod_eq_emod_of_nonneg h
theorem yAO {h l y:Int} (hh:U64 h) (hl:U64 l) (hy:U64 y) (hlt:h<y) {K:Int→Int→Prop}
   (k:K ((h*18446744073709551616+l) / y) ((h*18446744073709551616+l) % y)):yff h l y K:=by
 unfold U64 at hh hl hy
 unfold yff yo0
 have b1:(y ==(0:Int))=false:=beq_eq_false_iff_ne.2 (by omega)
 have b2:decide (y≤h)=false:=decide_eq_false (by omega)
 have b3:(!(decide (y=(0:Int))))=true:=by rw [decide_eq_false (by omega)];rfl
 rw [b1,yaa,b2,yaa,b3]
 by_cases h0:h=0
 · subst h0
   have:((0:Int) == 0)=true:=rfl
   rw [this,yac,yan,yan,yjx hl.1,yIr hl.1]
   have e:(0:Int)*18446744073709551616+l=l:=by omega
   rw [e] at k
   have b4:l / y≤l:=Int.ediv_le_self _ hl.1
   rw [wu64 ⟨Int.ediv_nonneg hl.1 (by omega),by omega⟩]
   exact k
 · have b4:(h ==(0:Int))=false:=beq_eq_false_iff_ne.2 h0
   rw [b4,yaa]
   refine yqr ⟨by omega,by omega⟩ ?_
   have hyn:y.toNat≠0:=by omega
   have c1:=yDK y.toNat
   have c2:=ys9 hyn
   have c3:blen y.toNat≤64:=by
     refine Nat.le_of_not_lt fun hc=>?_
     have:=Nat.pow_le_pow_right (show 0<2 by omega) (show 64≤blen y.toNat-1 by omega)
     omega
   have c4:1≤blen y.toNat:=by
     refine Nat.le_of_not_lt fun hc=>?_
     have:blen y.toNat=0:=by omega
     rw [this] at c1
     omega
   obtain ⟨m,hm⟩:∃ m,m=64-blen y.toNat:=⟨_,rfl⟩
   have es:(64-(blen y.toNat:Int))=(m:Int):=by omega
   rw [es]
   have m63:m≤63:=by omega
   have e1:IntKind.u64.wrap (m:Int)=m:=wu64 ⟨by omega,by omega⟩
   have e2:IntKind.u64.wrap ((64:Int)-m)=((64-m:Nat):Int):=by
     rw [wu64 ⟨by omega,by omega⟩];omega
   have e3:min ((m:Int)).toNat IntKind.u64.bits=m:=by
     show min ((m:Int)).toNat 64=m
     rw [Int.toNat_natCast];omega
   have e4:min (((64-m:Nat):Int)).toNat IntKind.u64.bits=64-m:=by
     show min (((64-m:Nat):Int)).toNat 64=64-m
     rw [Int.toNat_natCast];omega
   simp only [e1]
   rw [e2,e3,e4]
   have p64:(2:Int) ^ (64-m)*2 ^ m=18446744073709551616:=by
     rw [← Int.pow_add,show 64-m+m=64 by omega];rfl
   have p63:(2:Int) ^ (63-m)*2 ^ m=9223372036854775808:=by
     rw [← Int.pow_add,show 63-m+m=63 by omega];rfl
   have tp:(0:Int)<2 ^ m:=Int.pow_pos (by omega)
   have tp':(0:Int)<2 ^ (64-m):=Int.pow_pos (by omega)
   have y1:y<(2:Int) ^ (64-m):=by
     have:blen y.toNat=64-m:=by omega
     rw [this] at c1
     have c1':((y.toNat:Nat):Int)<((2 ^ (64-m):Nat):Int):=by exact_mod_cast c1
     push_cast at c1'
     omega
   have y2:(2:Int) ^ (63-m)≤y:=by
     have:blen y.toNat-1=63-m:=by omega
     rw [this] at c2
     have c2':((2 ^ (63-m):Nat):Int)≤((y.toNat:Nat):Int):=by exact_mod_cast c2
     push_cast at c2'
     omega
   have Y1:y*2 ^ m<18446744073709551616:=by
     have:=Int.mul_lt_mul_of_pos_right y1 tp
     omega
   have Y2:9223372036854775808≤y*2 ^ m:=by
     have:=Int.mul_le_mul_of_nonneg_right y2 (show (0:Int)≤2 ^ m by omega)
     omega
   have H1:(h+1)*2 ^ m≤y*2 ^ m:=Int.mul_le_mul_of_nonneg_right (by omega) (by omega)
   have H2:(h+1)*2 ^ m=h*2 ^ m+2 ^ m:=by grind
   have H0:0≤h*2 ^ m:=Int.mul_nonneg hh.1 (by omega)
   have fd:Int.fdiv l (2 ^ (64-m))=l / 2 ^ (64-m):=ysg _ _ (by omega)
   have L1:=Int.mul_ediv_add_emod l (2 ^ (64-m))
   have L2:=Int.emod_nonneg l (show (2:Int) ^ (64-m)≠0 by omega)
   have L3:=Int.emod_lt_of_pos l tp'
   have L4:0≤l / 2 ^ (64-m):=Int.ediv_nonneg hl.1 (by omega)
   have L5:l / 2 ^ (64-m)<2 ^ m:=by
     refine Int.ediv_lt_of_lt_mul tp' ?_
     rw [Int.mul_comm,p64];omega
   have w1:IntKind.u64.wrap (y*2 ^ m)=y*2 ^ m:=wu64 ⟨by omega,by omega⟩
   have w2:IntKind.u64.wrap (h*2 ^ m)=h*2 ^ m:=wu64 ⟨by omega,by omega⟩
   have w3:IntKind.u64.wrap (BitVec.ofInt IntKind.u64.bits (h*2 ^ m)|||BitVec.ofInt IntKind.u64.bits (l / 2 ^ (64-m))).toNat=h*2 ^ m+l / 2 ^ (64-m) :=
     yGb hh.1 ⟨L4,L5⟩ ⟨by omega,by omega⟩ (by omega)
   have w4:IntKind.u64.wrap (l*2 ^ m)=l % 2 ^ (64-m)*2 ^ m:=by
     have e:l*2 ^ m=(l / 2 ^ (64-m))*18446744073709551616+l % 2 ^ (64-m)*2 ^ m:=by
       rw [← p64]
       obtain ⟨a,ha⟩:∃ a,a=l / 2 ^ (64-m):=⟨_,rfl⟩
       obtain ⟨b,hb⟩:∃ b,b=l % 2 ^ (64-m):=⟨_,rfl⟩
       obtain ⟨t,ht⟩:∃ t,t=(2:Int) ^ m:=⟨_,rfl⟩
       obtain ⟨t',ht'⟩:∃ t,t=(2:Int) ^ (64-m):=⟨_,rfl⟩
       rw [← ha,← hb,← ht'] at L1
       rw [← ha,← hb,← ht,← ht']
       rw [← L1];grind
     have e5:l % 2 ^ (64-m)*2 ^ m<18446744073709551616:=by
       rw [← p64];exact Int.mul_lt_mul_of_pos_right L3 tp
     have e6:0≤l % 2 ^ (64-m)*2 ^ m:=Int.mul_nonneg L2 (by omega)
     rw [e,yg6];omega
   have e5:l % 2 ^ (64-m)*2 ^ m<18446744073709551616:=by
     rw [← p64];exact Int.mul_lt_mul_of_pos_right L3 tp
   have e6:0≤l % 2 ^ (64-m)*2 ^ m:=Int.mul_nonneg L2 (by omega)
   have eN:(h*18446744073709551616+l)*2 ^ m=(h*2 ^ m+l / 2 ^ (64-m))*18446744073709551616+l % 2 ^ (64-m)*2 ^ m:=by
     rw [← p64]
     obtain ⟨a,ha⟩:∃ a,a=l / 2 ^ (64-m):=⟨_,rfl⟩
     obtain ⟨b,hb⟩:∃ b,b=l % 2 ^ (64-m):=⟨_,rfl⟩
     obtain ⟨t,ht⟩:∃ t,t=(2:Int) ^ m:=⟨_,rfl⟩
     obtain ⟨t',ht'⟩:∃ t,t=(2:Int) ^ (64-m):=⟨_,rfl⟩
     rw [← ha,← hb,← ht'] at L1
     rw [← ha,← hb,← ht,← ht']
     rw [← L1];grind
   have U1:h*2 ^ m+l / 2 ^ (64-m)<y*2 ^ m:=by omega
   have U0:0≤h*2 ^ m+l / 2 ^ (64-m):=by omega
   rw [fd,w1,w2,w3,w4]
   have b5:(!(decide ((m:Int)<0)))=true:=by rw [decide_eq_false (by omega)];rfl
   have b6:(!(decide (((64-m:Nat):Int)<0)))=true:=by rw [decide_eq_false (by omega)];rfl
   rw [b5,b6,yan,yan,yan,yan]
   generalize h*2 ^ m+l / 2 ^ (64-m)=u at *
   generalize hl0:l % 2 ^ (64-m)*2 ^ m=v at *
   generalize hY:y*2 ^ m=Y at *
   rw [ysg Y _ (by omega),ysg v _ (by omega),ykZ ⟨by omega,by omega⟩,ykZ ⟨by omega,by omega⟩,yjx U0]
   have b7:(!(decide (Y / 4294967296=(0:Int))))=true:=by rw [decide_eq_false (by omega)];rfl
   rw [b7,yan]
   obtain ⟨c,hyn1⟩:∃ a,a=Y / 4294967296:=⟨_,rfl⟩
   obtain ⟨d,hyn0⟩:∃ a,a=Y % 4294967296:=⟨_,rfl⟩
   obtain ⟨un1,hun1⟩:∃ a,a=v / 4294967296:=⟨_,rfl⟩
   obtain ⟨un0,hun0⟩:∃ a,a=v % 4294967296:=⟨_,rfl⟩
   rw [← hyn1,← hyn0,← hun1,← hun0]
   have d1:2147483648≤c∧c≤4294967295:=by omega
   have d0:0≤d∧d≤4294967295:=by omega
   have dn1:0≤un1∧un1≤4294967295:=by omega
   have dn0:0≤un0∧un0≤4294967295:=by omega
   have dY:Y=c*4294967296+d:=by omega
   have g1:=DI.init dY d1 d0 dn1 U0 U1
   have x1:IntKind.u64.wrap (u / c)=u / c:=wu64 ⟨g1.hq.1,by have:=g1.hq.2;omega⟩
   have x2:IntKind.u64.wrap (u-IntKind.u64.wrap (u / c*c))=u-u / c*c:=by
     have r1:=g1.hr.1
     have r2:0≤u / c*c:=Int.mul_nonneg g1.hq.1 (by omega)
     have r3:=g1.hr.2
     rw [wu64 (n:=u / c*c) ⟨r2,by omega⟩,wu64 ⟨r1,by omega⟩]
   rw [x1,x2]
   have fin:∀ q1:Int,DG Y u un1 q1→∀ (un21:Int),un21=u*4294967296+un1-q1*Y→∀ q0,DG Y un21 un0 q0 →
       K (IntKind.u64.wrap ((IntKind.u64.wrap (q1*(4294967296:Int)))+q0)) (Int.fdiv (IntKind.u64.wrap ((IntKind.u64.wrap ((IntKind.u64.wrap (un21*(4294967296:Int)))+un0))-(IntKind.u64.wrap (q0*Y)))) (2 ^ (min ((m:Int)).toNat IntKind.u64.bits))):=by
     intro q1 G1 un21 e21 q0 G0
     obtain ⟨a1,a2,a3,a4⟩:=G1
     obtain ⟨c1,c2,c3,c4⟩:=G0
     have s1:(q1+1)*Y=q1*Y+Y:=by grind
     have s0:(q0+1)*Y=q0*Y+Y:=by grind
     have w5:IntKind.u64.wrap (q1*4294967296)=q1*4294967296:=wu64 ⟨by omega,by omega⟩
     have w6:IntKind.u64.wrap (q1*4294967296+q0)=q1*4294967296+q0:=wu64 ⟨by omega,by omega⟩
     rw [yDL (by omega) (by omega),w5,w6,e3,ysg _ _ (by omega)]
     have eT:un21*4294967296+un0-q0*Y=(h*18446744073709551616+l-(q1*4294967296+q0)*y)*2 ^ m:=by
       have f1:(q1*4294967296+q0)*Y=q1*Y*4294967296+q0*Y:=by grind
       have f2:(h*18446744073709551616+l-(q1*4294967296+q0)*y)*2 ^ m=(h*18446744073709551616+l)*2 ^ m-(q1*4294967296+q0)*Y:=by
         rw [← hY,Int.sub_mul,Int.mul_assoc (q1*4294967296+q0)]
       rw [f2,f1,eN]
       omega
     rw [eT,Int.mul_ediv_cancel _ (by omega)]
     have r0:0≤h*18446744073709551616+l-(q1*4294967296+q0)*y:=by
       refine Int.not_lt.1 fun hc=>?_
       have:=Int.mul_neg_of_neg_of_pos hc tp
       omega
     have r1:h*18446744073709551616+l-(q1*4294967296+q0)*y<y:=by
       refine Int.not_le.1 fun hc=>?_
       have:=Int.mul_le_mul_of_nonneg_right hc (show (0:Int)≤2 ^ m by omega)
       omega
     obtain ⟨Q,hQ⟩:∃ Q,Q=q1*4294967296+q0:=⟨_,rfl⟩
     rw [← hQ] at r0 r1 ⊢
     have z1:(h*18446744073709551616+l) / y=Q:=by
       have:h*18446744073709551616+l=(h*18446744073709551616+l-Q*y)+Q*y:=by omega
       rw [this,Int.add_mul_ediv_right _ _ (by omega),Int.ediv_eq_zero_of_lt r0 r1];omega
     have z2:(h*18446744073709551616+l) % y=h*18446744073709551616+l-Q*y:=by
       have:=Int.mul_ediv_add_emod (h*18446744073709551616+l) y
       rw [z1,Int.mul_comm] at this
       omega
     rw [z1,z2] at k
     exact k
   have mid:∀ q:Int,DG Y u un1 q→∀ (X:Int→Int→Int→Int→Int→Int→Int→Int→Int→Bool→Prop),(∀ q0 r0 b0,DG Y (u*4294967296+un1-q*Y) un0 q0→X Y m c d un0 q r0 (u*4294967296+un1-q*Y) q0 b0) →
       asr (!(decide (c=(0:Int)))) (∃ n:Nat,ydU yaY X X n Y m c d un0 q ((IntKind.u64.wrap ((IntKind.u64.wrap ((IntKind.u64.wrap ((IntKind.u64.wrap (u*(4294967296:Int)))+un1))-(IntKind.u64.wrap (q*Y))))-(IntKind.u64.wrap ((IntKind.u64.wrap (Int.tdiv (IntKind.u64.wrap ((IntKind.u64.wrap ((IntKind.u64.wrap (u*(4294967296:Int)))+un1))-(IntKind.u64.wrap (q*Y)))) c))*c))))) (IntKind.u64.wrap ((IntKind.u64.wrap ((IntKind.u64.wrap (u*(4294967296:Int)))+un1))-(IntKind.u64.wrap (q*Y)))) (IntKind.u64.wrap (Int.tdiv (IntKind.u64.wrap ((IntKind.u64.wrap ((IntKind.u64.wrap (u*(4294967296:Int)))+un1))-(IntKind.u64.wrap (q*Y)))) c))):=by
     intro q G X hX
     obtain ⟨a1,a2,a3,a4⟩:=G
     have s1:(q+1)*Y=q*Y+Y:=by grind
     have b8:(!(decide (c=(0:Int))))=true:=by rw [decide_eq_false (by omega)];rfl
     rw [b8,yan,yDL (by omega) (by omega),yjx (by omega)]
     have g0:=DI.init dY d1 d0 dn0 (u:=u*4294967296+un1-q*Y) (by omega) (by omega)
     generalize u*4294967296+un1-q*Y=u2 at *
     have x1:IntKind.u64.wrap (u2 / c)=u2 / c:=wu64 ⟨g0.hq.1,by have:=g0.hq.2;omega⟩
     have x2:IntKind.u64.wrap (u2-IntKind.u64.wrap (u2 / c*c))=u2-u2 / c*c:=by
       have r1:=g0.hr.1
       have r2:0≤u2 / c*c:=Int.mul_nonneg g0.hq.1 (by omega)
       have r3:=g0.hr.2
       have r4:=g0.hlt
       rw [wu64 (n:=u2 / c*c) ⟨r2,by omega⟩,wu64 ⟨r1,by omega⟩]
     rw [x1,x2]
     exact ⟨3,yI0 _ _ _ _ (fun q0 r0 b0 g=>hX q0 r0 b0 g) (fun q0 r0 b0 g=>hX q0 r0 b0 g) _ _ g0⟩
   have leaf:∀ {P:Prop},P→asr (!(decide ((m:Int)<0))) P:=fun p=>by rw [b5,yan];exact p
   refine ⟨3,yIZ _ _ _ _ (fun q r b G=>?_) (fun q r b G=>?_) _ _ g1⟩
   · exact mid q G _ (fun q0 r0 b0 G0=>leaf (fin q G _ rfl q0 G0))
   · exact mid q G _ (fun q0 r0 b0 G0=>leaf (fin q G _ rfl q0 G0))
end Go.Pf.Vc
namespace Go.Pf.Vc
open Go Go.Pf
theorem yGc {h l y:Int} (hh:U64 h) (hl:U64 l) (hy:U64 y) (h0:0<y) {K:Int→Prop}
   (k:K ((h*18446744073709551616+l) % y)):yf6 h l y K:=by
 unfold yf6 yo2
 have b3:(!(decide (y=(0:Int))))=true:=by rw [decide_eq_false (by omega)];rfl
 have a1:=Int.emod_nonneg h (show y≠0 by omega)
 have a2:=Int.emod_lt_of_pos h h0
 have hh':=hh
 unfold U64 at hh hy
 rw [b3,yan,yIr hh.1]
 refine yAO ⟨a1,by omega⟩ hl ⟨by omega,by omega⟩ a2 ?_
 have e:(h % y*18446744073709551616+l) % y=(h*18446744073709551616+l) % y:=by
   rw [Int.add_emod,Int.mul_emod,Int.emod_emod,← Int.mul_emod,← Int.add_emod]
 rw [e]
 exact k
def outS (s:Bool) (a b:Int) (K:Int→Int→Int→Prop):Prop :=
 if a≤1000000000000000000∧b≤1000000000000000000 then K (if s then -a else a) b 0 else K 0 0 16
theorem yne {s:Bool} {a b:Int} (ha:0≤a) (hb:0≤b) (K:Int→Int→Int→Prop):ybv s a b K=outS s a b K:=by
 unfold ybv ygY outS
 by_cases h:a≤1000000000000000000∧b≤1000000000000000000
 · have e:decide ((if b>a then b else a)>(1000000000000000000:Int))=false:=by
     refine decide_eq_false ?_
     split <;> omega
   have w1:IntKind.i64.wrap a=a:=wi64 ⟨by omega,by omega⟩
   have w2:IntKind.i64.wrap b=b:=wi64 ⟨by omega,by omega⟩
   have w3:IntKind.i64.wrap (0-a)=-a:=by rw [wi64 ⟨by omega,by omega⟩];omega
   rw [e,yaa,if_pos h,w1,w2,w3]
   cases s
   · rfl
   · rfl
 · have e:decide ((if b>a then b else a)>(1000000000000000000:Int))=true:=by
     refine decide_eq_true ?_
     split <;> omega
   rw [e,yac,if_neg h]
theorem yHD {n d:Int} (hn:I64 n) (hd:I64 d) {K:Int→Int→Int→Prop}
   (k:if d=0 then K 0 0 18 else outS (decide (n<0) != decide (d<0)) ((n.natAbs / Nat.gcd n.natAbs d.natAbs:Nat):Int) ((d.natAbs / Nat.gcd n.natAbs d.natAbs:Nat):Int) K):ydH n d K:=by
 unfold ydH yiw
 by_cases h:d=0
 · rw [if_pos h] at k
   have:(d ==(0:Int))=true:=beq_iff_eq.2 h
   rw [this,yac]
   exact k
 · rw [if_neg h] at k
   have:(d ==(0:Int))=false:=beq_eq_false_iff_ne.2 h
   rw [this,yaa,ygy hn,ygy hd]
   refine yrC _ _ _ ?_
   have gp:0<Nat.gcd n.natAbs d.natAbs:=Nat.gcd_pos_of_pos_right _ (by omega)
   have b3:(!(decide (((Nat.gcd n.natAbs d.natAbs:Nat):Int)=(0:Int))))=true:=by rw [decide_eq_false (by omega)];rfl
   unfold I64 at hn hd
   have u1:n.natAbs / Nat.gcd n.natAbs d.natAbs≤n.natAbs:=Nat.div_le_self _ _
   have u2:d.natAbs / Nat.gcd n.natAbs d.natAbs≤d.natAbs:=Nat.div_le_self _ _
   rw [b3,yan,yan,yjx (by omega),yjx (by omega),← Int.natCast_ediv,← Int.natCast_ediv]
   generalize n.natAbs / Nat.gcd n.natAbs d.natAbs=A at *
   generalize d.natAbs / Nat.gcd n.natAbs d.natAbs=B at *
   rw [wu64 (n:=(A:Int)) ⟨by omega,by omega⟩,wu64 (n:=(B:Int)) ⟨by omega,by omega⟩,yne (by omega) (by omega)]
   exact k
end Go.Pf.Vc
namespace Go.Pf.Vc
open Go Go.Pf
def numM (a c:Int) (b d:Int):Nat:=(a.natAbs / Nat.gcd a.natAbs d.natAbs)*(c.natAbs / Nat.gcd c.natAbs b.natAbs)
def denM (a c:Int) (b d:Int):Nat:=(b.natAbs / Nat.gcd c.natAbs b.natAbs)*(d.natAbs / Nat.gcd a.natAbs d.natAbs)
theorem yCT {a b c d:Int} (ha:I64 a) (hb:I64 b) (hc:I64 c) (hd:I64 d) {K:Int→Int→Int→Prop}
   (k:if chk2 a b c d=0 then outS (decide (a<0) != decide (c<0)) (numM a c b d) (denM a c b d) K else K 0 0 (chk2 a b c d)):yaV a b c d K:=by
 unfold yaV ykp
 refine ymI ha hb hc hd ?_
 by_cases h:chk2 a b c d=0
 · rw [if_pos h] at k
   have:(chk2 a b c d !=(0:Int))=false:=by rw [h];rfl
   rw [this,yaa,ygy ha,ygy hc]
   obtain ⟨⟨b1,b2,a1,a2,_⟩,d1,d2,c1,c2,_⟩:=yey.1 h
   have wb:IntKind.u64.wrap b=((b.natAbs:Nat):Int):=by rw [wu64 ⟨by omega,by omega⟩];omega
   have wd:IntKind.u64.wrap d=((d.natAbs:Nat):Int):=by rw [wu64 ⟨by omega,by omega⟩];omega
   rw [wb,wd]
   refine yrC _ _ _ (yrC _ _ _ ?_)
   unfold numM denM at k
   have g1:0<Nat.gcd a.natAbs d.natAbs:=Nat.gcd_pos_of_pos_right _ (by omega)
   have g2:0<Nat.gcd c.natAbs b.natAbs:=Nat.gcd_pos_of_pos_right _ (by omega)
   obtain ⟨g3,h3⟩:∃ g,g=Nat.gcd a.natAbs d.natAbs:=⟨_,rfl⟩
   obtain ⟨g4,h4⟩:∃ g,g=Nat.gcd c.natAbs b.natAbs:=⟨_,rfl⟩
   rw [← h3,← h4] at k ⊢
   rw [← h3] at g1;rw [← h4] at g2
   have n3:(!(decide ((g3:Int)=(0:Int))))=true:=by rw [decide_eq_false (by omega)];rfl
   have n4:(!(decide ((g4:Int)=(0:Int))))=true:=by rw [decide_eq_false (by omega)];rfl
   rw [n3,n4,yan,yan,yjx (by omega),yjx (by omega),yjx (by omega),yjx (by omega),← Int.natCast_ediv,← Int.natCast_ediv,← Int.natCast_ediv,← Int.natCast_ediv]
   have q1:a.natAbs / g3≤a.natAbs:=Nat.div_le_self _ _
   have q2:c.natAbs / g4≤c.natAbs:=Nat.div_le_self _ _
   have q3:b.natAbs / g4≤b.natAbs:=Nat.div_le_self _ _
   have q4:d.natAbs / g3≤d.natAbs:=Nat.div_le_self _ _
   generalize a.natAbs / g3=A at *
   generalize c.natAbs / g4=C at *
   generalize b.natAbs / g4=B at *
   generalize d.natAbs / g3=D at *
   rw [wu64 (n:=(A:Int)) ⟨by omega,by omega⟩,wu64 (n:=(C:Int)) ⟨by omega,by omega⟩,wu64 (n:=(B:Int)) ⟨by omega,by omega⟩,wu64 (n:=(D:Int)) ⟨by omega,by omega⟩,
     yh0 ⟨by omega,by omega⟩ ⟨by omega,by omega⟩,yan,yan,yh0 ⟨by omega,by omega⟩ ⟨by omega,by omega⟩]
   have m1:A*C≤1000000000000000000*1000000000000000000:=Nat.mul_le_mul (by omega) (by omega)
   have m2:B*D≤1000000000000000000*1000000000000000000:=Nat.mul_le_mul (by omega) (by omega)
   rw [← Int.natCast_mul,← Int.natCast_mul]
   generalize A*C=M at *
   generalize B*D=N at *
   have wm:IntKind.u64.wrap ((M:Int) / 18446744073709551616+(N:Int) / 18446744073709551616)=(M:Int) / 18446744073709551616+(N:Int) / 18446744073709551616:=wu64 ⟨by omega,by omega⟩
   rw [wm]
   by_cases hb:(M:Int) / 18446744073709551616+(N:Int) / 18446744073709551616>0
   · rw [decide_eq_true hb,yac]
     unfold outS at k
     rw [if_neg (by omega)] at k
     exact k
   · rw [decide_eq_false hb,yaa]
     have eM:(M:Int) % 18446744073709551616=M:=by omega
     have eN:(N:Int) % 18446744073709551616=N:=by omega
     rw [eM,eN]
     by_cases h0:(M:Int)>0
     · rw [decide_eq_true h0,yac,yne (by omega) (by omega)]
       exact k
     · rw [decide_eq_false h0,yaa,yne (by omega) (by omega)]
       have hz:M=0:=by omega
       subst hz
       unfold outS at k ⊢
       by_cases hN:(N:Int)≤1000000000000000000
       · rw [if_pos ⟨by omega,hN⟩] at k ⊢
         have e:(if (decide (a<0) != decide (c<0))=true then -((0:Nat):Int) else ((0:Nat):Int))=0:=by split <;> rfl
         rw [e] at k
         exact k
       · rw [if_neg (by omega)] at k ⊢
         exact k
 · rw [if_neg h] at k
   have:(chk2 a b c d !=(0:Int))=true:=by rw [bne_iff_ne];exact h
   rw [this,yac]
   exact k
theorem RV.swap {c d:Int} (h:RV c d) (h0:0<c):RV d c:=by
 obtain ⟨d1,d2,c1,c2,g⟩:=h
 exact ⟨by omega,c2,by omega,d2,by rw [Nat.gcd_comm];exact g⟩
theorem RV.swapn {c d:Int} (h:RV c d) (h0:c<0):RV (-d) (-c):=by
 obtain ⟨d1,d2,c1,c2,g⟩:=h
 exact ⟨by omega,by omega,by omega,by omega,by rw [Int.natAbs_neg,Int.natAbs_neg,Nat.gcd_comm];exact g⟩
theorem yI1 {a b c d:Int} (ha:I64 a) (hb:I64 b) (hc:I64 c) (hd:I64 d) {K:Int→Int→Int→Prop}
   (k:if chk2 a b c d=0 then (if c=0 then K 0 0 18 else outS (decide (a<0) != decide (c<0)) (numM a d b c) (denM a d b c) K) else K 0 0 (chk2 a b c d)):ybK a b c d K:=by
 unfold ybK ykq
 refine ymI ha hb hc hd ?_
 by_cases h:chk2 a b c d=0
 · rw [if_pos h] at k
   have:(chk2 a b c d !=(0:Int))=false:=by rw [h];rfl
   rw [this,yaa]
   obtain ⟨hab,hcd⟩:=yey.1 h
   obtain ⟨d1,d2,c1,c2,_⟩:=id hcd
   by_cases h0:c=0
   · rw [if_pos h0] at k
     have:(c ==(0:Int))=true:=beq_iff_eq.2 h0
     rw [this,yac]
     exact k
   · rw [if_neg h0] at k
     have:(c ==(0:Int))=false:=beq_eq_false_iff_ne.2 h0
     rw [this,yaa]
     by_cases hn:c<0
     · rw [decide_eq_true hn] at k
       rw [decide_eq_true hn,yac,wi64 (n:=0-d) ⟨by omega,by omega⟩,wi64 (n:=0-c) ⟨by omega,by omega⟩,Int.zero_sub,Int.zero_sub]
       have e:chk2 a b (-d) (-c)=0:=yey.2 ⟨hab,hcd.swapn hn⟩
       refine yCT ha hb ⟨by omega,by omega⟩ ⟨by omega,by omega⟩ ?_
       rw [if_pos e,decide_eq_true (show -d<0 by omega)]
       unfold numM denM at k ⊢
       rw [Int.natAbs_neg,Int.natAbs_neg]
       exact k
     · rw [decide_eq_false hn] at k
       rw [decide_eq_false hn,yaa]
       have e:chk2 a b d c=0:=yey.2 ⟨hab,hcd.swap (by omega)⟩
       refine yCT ha hb hd hc ?_
       rw [if_pos e,decide_eq_false (show ¬d<0 by omega)]
       exact k
 · rw [if_neg h] at k
   have:(chk2 a b c d !=(0:Int))=true:=by rw [bne_iff_ne];exact h
   rw [this,yac]
   exact k
end Go.Pf.Vc
namespace Go.Pf.Vc
open Go Go.Pf
theorem yHE {s:Bool} {hi lo p1 p3:Int} {g:Nat} (hh:U64 hi) (hl:U64 lo) (hg:0<g) (g1:(g:Int)≤1000000000000000000)
    (h1:0≤p1∧p1≤1000000000000000000) (h3:0≤p3∧p3≤1000000000000000000) {K:Int→Int→Int→Prop}
    (k:outS s (((hi*18446744073709551616+lo).toNat / Nat.gcd (hi*18446744073709551616+lo).toNat g:Nat):Int)
      (((p1.toNat / g)*(p3.toNat / Nat.gcd (hi*18446744073709551616+lo).toNat g):Nat):Int) K) :
    (yf6 hi lo (g:Int) (fun (b:Int) =>
 (ybA b (g:Int) (fun (a:Int) =>
 (cbr (decide (hi≥a))
 (K (0:Int) (0:Int) (16:Int))
 (yff hi lo a (fun (c:Int) (_:Int) =>
 (asr (!(decide ((g:Int)=(0:Int))))
 (asr (!(decide (a=(0:Int))))
 (yev (IntKind.u64.wrap (Int.tdiv (IntKind.u64.wrap p1) (g:Int))) (IntKind.u64.wrap (Int.tdiv (IntKind.u64.wrap p3) a)) (fun (d:Int) (e:Int) =>
 (cbr (decide (d>(0:Int)))
 (K (0:Int) (0:Int) (16:Int))
 (ybv s c e (fun (f:Int) (h:Int) (i:Int) =>
 (K f h i))))))))))))))):=by
  unfold U64 at hh hl
  obtain ⟨X,hX⟩:∃ X:Nat,X=(hi*18446744073709551616+lo).toNat:=⟨_,rfl⟩
  have eX:hi*18446744073709551616+lo=(X:Int):=by omega
  rw [← hX] at k
  refine yGc hh hl ⟨by omega,by omega⟩ (by omega) ?_
  rw [eX,← Int.natCast_emod]
  refine yrC _ _ _ ?_
  have eg:Nat.gcd (X % g) g=Nat.gcd X g:=by rw [Nat.gcd_comm,Nat.gcd_comm X,Nat.gcd_rec g X,Nat.gcd_comm]
  rw [eg]
  have gp:0<Nat.gcd X g:=Nat.gcd_pos_of_pos_right _ hg
  have gl:Nat.gcd X g≤g:=Nat.le_of_dvd hg (Nat.gcd_dvd_right _ _)
  generalize Nat.gcd X g=G at *
  by_cases hb:hi≥(G:Int)
  · rw [decide_eq_true hb,yac]
    unfold outS at k
    have:18446744073709551616≤X / G:=by
      rw [Nat.le_div_iff_mul_le gp]
      omega
    rw [if_neg (by omega)] at k
    exact k
  · rw [decide_eq_false hb,yaa]
    refine yAO hh hl ⟨by omega,by omega⟩ (by omega) ?_
    rw [eX]
    have n3:(!(decide ((g:Int)=(0:Int))))=true:=by rw [decide_eq_false (by omega)];rfl
    have n4:(!(decide ((G:Int)=(0:Int))))=true:=by rw [decide_eq_false (by omega)];rfl
    have e1:IntKind.u64.wrap p1=(p1.toNat:Int):=by rw [wu64 ⟨by omega,by omega⟩];omega
    have e3:IntKind.u64.wrap p3=(p3.toNat:Int):=by rw [wu64 ⟨by omega,by omega⟩];omega
    rw [n3,n4,yan,yan,e1,e3,yjx (by omega),yjx (by omega),← Int.natCast_ediv,← Int.natCast_ediv,← Int.natCast_ediv]
    have q1:p1.toNat / g≤p1.toNat:=Nat.div_le_self _ _
    have q3:p3.toNat / G≤p3.toNat:=Nat.div_le_self _ _
    generalize p1.toNat / g=A at *
    generalize p3.toNat / G=B at *
    generalize X / G=N at *
    rw [wu64 (n:=(A:Int)) ⟨by omega,by omega⟩,wu64 (n:=(B:Int)) ⟨by omega,by omega⟩,yh0 ⟨by omega,by omega⟩ ⟨by omega,by omega⟩,← Int.natCast_mul]
    generalize A*B=D at *
    by_cases hd:((D:Int) / 18446744073709551616)>0
    · rw [decide_eq_true hd,yac]
      unfold outS at k
      rw [if_neg (by omega)] at k
      exact k
    · rw [decide_eq_false hd,yaa]
      have eD:(D:Int) % 18446744073709551616=D:=by omega
      rw [eD,yne (by omega) (by omega)]
      exact k
end Go.Pf.Vc
namespace Go.Pf.Vc
open Go Go.Pf
theorem yAP {p q c:Int} {K:Int→Int→Prop} (hc:c.toNat≤1) (k:K (((p.toNat+q.toNat+c.toNat) % 18446744073709551616:Nat):Int) (((p.toNat+q.toNat+c.toNat) / 18446744073709551616:Nat):Int)):yhr p q c K:=by
 unfold yhr
 rw [decide_eq_true hc,yan]
 exact k
theorem yAQ {p q c:Int} {K:Int→Int→Prop} (hc:c.toNat≤1) (k:K (((p.toNat+18446744073709551616-q.toNat-c.toNat) % 18446744073709551616:Nat):Int) ((if q.toNat+c.toNat≤p.toNat then 0 else 1:Nat):Int)):yhs p q c K:=by
 unfold yhs
 rw [decide_eq_true hc,yan]
 have e:(bif Nat.ble (q.toNat+c.toNat) p.toNat then 0 else 1:Nat)=(if q.toNat+c.toNat≤p.toNat then 0 else 1:Nat):=by
   by_cases h:q.toNat+c.toNat≤p.toNat
   · rw [if_pos h,show Nat.ble (q.toNat+c.toNat) p.toNat=true from Nat.ble_eq_true_of_le h];rfl
   · rw [if_neg h]
     cases hb:Nat.ble (q.toNat+c.toNat) p.toNat
     · rfl
     · exact absurd (Nat.le_of_ble_eq_true hb) h
 rw [e]
 exact k
theorem yGd {X Y:Int} (hx:0≤X) (hy:0≤Y) (hs:X+Y<340282366920938463463374607431768211456) {F:Int→Int→Int→Int→Prop}
   (h:∀ c1 c2,F ((X+Y) % 18446744073709551616) c1 ((X+Y) / 18446744073709551616) c2) :
   yhr (X % 18446744073709551616) (Y % 18446744073709551616) 0 (fun lo c1=>yhr (X / 18446744073709551616) (Y / 18446744073709551616) c1 (fun hi c2=>F lo c1 hi c2)):=by
 obtain ⟨x,rfl⟩:∃ x:Nat,X=x:=⟨X.toNat,by omega⟩
 obtain ⟨y,rfl⟩:∃ y:Nat,Y=y:=⟨Y.toNat,by omega⟩
 refine yAP (by decide) (yAP (by omega) ?_)
 have e1:(((((x:Int) % 18446744073709551616).toNat+((y:Int) % 18446744073709551616).toNat+(0:Int).toNat) % 18446744073709551616:Nat):Int)=((x:Int)+y) % 18446744073709551616:=by omega
 have e2:(((((x:Int) / 18446744073709551616).toNat+((y:Int) / 18446744073709551616).toNat+(((((x:Int) % 18446744073709551616).toNat+((y:Int) % 18446744073709551616).toNat+(0:Int).toNat) / 18446744073709551616:Nat):Int).toNat) % 18446744073709551616:Nat):Int)=((x:Int)+y) / 18446744073709551616:=by omega
 rw [e1,e2]
 exact h _ _
theorem yqs {X Y:Int} (hy:0≤Y) (hxy:Y≤X) (hs:X<340282366920938463463374607431768211456) {F:Int→Int→Int→Int→Prop}
   (h:∀ c1 c2,F ((X-Y) % 18446744073709551616) c1 ((X-Y) / 18446744073709551616) c2) :
   yhs (X % 18446744073709551616) (Y % 18446744073709551616) 0 (fun lo c1=>yhs (X / 18446744073709551616) (Y / 18446744073709551616) c1 (fun hi c2=>F lo c1 hi c2)):=by
 obtain ⟨x,rfl⟩:∃ x:Nat,X=x:=⟨X.toNat,by omega⟩
 obtain ⟨y,rfl⟩:∃ y:Nat,Y=y:=⟨Y.toNat,by omega⟩
 refine yAQ (by decide) (yAQ (by split <;> omega) ?_)
 have e1:(((((x:Int) % 18446744073709551616).toNat+18446744073709551616-((y:Int) % 18446744073709551616).toNat-(0:Int).toNat) % 18446744073709551616:Nat):Int)=((x:Int)-y) % 18446744073709551616:=by omega
 rw [e1]
 by_cases hb:((y:Int) % 18446744073709551616).toNat+(0:Int).toNat≤((x:Int) % 18446744073709551616).toNat
 · rw [if_pos hb]
   have e2:(((((x:Int) / 18446744073709551616).toNat+18446744073709551616-((y:Int) / 18446744073709551616).toNat-((0:Nat):Int).toNat) % 18446744073709551616:Nat):Int)=((x:Int)-y) / 18446744073709551616:=by omega
   rw [e2]
   exact h _ _
 · rw [if_neg hb]
   have e2:(((((x:Int) / 18446744073709551616).toNat+18446744073709551616-((y:Int) / 18446744073709551616).toNat-((1:Nat):Int).toNat) % 18446744073709551616:Nat):Int)=((x:Int)-y) / 18446744073709551616:=by omega
   rw [e2]
   exact h _ _
end Go.Pf.Vc
namespace Go.Pf.Vc
open Go Go.Pf
def outA (s:Bool) (Z p1 p3:Int) (g:Nat) (K:Int→Int→Int→Prop):Prop :=
 if Z=0 then K 0 1 0 else outS s ((Z.toNat / Nat.gcd Z.toNat g:Nat):Int) (((p1.toNat / g)*(p3.toNat / Nat.gcd Z.toNat g):Nat):Int) K
theorem yuH {s:Bool} {Z p1 p3:Int} {g:Nat} (hz:0≤Z) (hz2:Z<340282366920938463463374607431768211456) (hg:0<g) (g1:(g:Int)≤1000000000000000000)
    (h1:0≤p1∧p1≤1000000000000000000) (h3:0≤p3∧p3≤1000000000000000000) {K:Int→Int→Int→Prop}
    (k:outA s Z p1 p3 g K) :
    cbr (Z / 18446744073709551616 ==(0:Int)) (cbr (Z % 18446744073709551616 ==(0:Int)) (K 0 1 0) (yf6 (Z / 18446744073709551616) (Z % 18446744073709551616) (g:Int) (fun (b:Int) =>
 (ybA b (g:Int) (fun (a:Int) =>
 (cbr (decide ((Z / 18446744073709551616)≥a))
 (K (0:Int) (0:Int) (16:Int))
 (yff (Z / 18446744073709551616) (Z % 18446744073709551616) a (fun (c:Int) (_:Int) =>
 (asr (!(decide ((g:Int)=(0:Int))))
 (asr (!(decide (a=(0:Int))))
 (yev (IntKind.u64.wrap (Int.tdiv (IntKind.u64.wrap p1) (g:Int))) (IntKind.u64.wrap (Int.tdiv (IntKind.u64.wrap p3) a)) (fun (d:Int) (e:Int) =>
 (cbr (decide (d>(0:Int)))
 (K (0:Int) (0:Int) (16:Int))
 (ybv s c e (fun (f:Int) (h:Int) (i:Int) =>
 (K f h i)))))))))))))))) (yf6 (Z / 18446744073709551616) (Z % 18446744073709551616) (g:Int) (fun (b:Int) =>
 (ybA b (g:Int) (fun (a:Int) =>
 (cbr (decide ((Z / 18446744073709551616)≥a))
 (K (0:Int) (0:Int) (16:Int))
 (yff (Z / 18446744073709551616) (Z % 18446744073709551616) a (fun (c:Int) (_:Int) =>
 (asr (!(decide ((g:Int)=(0:Int))))
 (asr (!(decide (a=(0:Int))))
 (yev (IntKind.u64.wrap (Int.tdiv (IntKind.u64.wrap p1) (g:Int))) (IntKind.u64.wrap (Int.tdiv (IntKind.u64.wrap p3) a)) (fun (d:Int) (e:Int) =>
 (cbr (decide (d>(0:Int)))
 (K (0:Int) (0:Int) (16:Int))
 (ybv s c e (fun (f:Int) (h:Int) (i:Int) =>
 (K f h i))))))))))))))):=by
  unfold outA at k
  have eZ:Z / 18446744073709551616*18446744073709551616+Z % 18446744073709551616=Z:=by omega
  by_cases h0:Z=0
  · rw [if_pos h0] at k
    subst h0
    have e1:((0:Int) / 18446744073709551616 ==(0:Int))=true:=by decide
    have e2:((0:Int) % 18446744073709551616 ==(0:Int))=true:=by decide
    rw [e1,yac,e2,yac]
    exact k
  · rw [if_neg h0] at k
    have t:=yHE (s:=s) (hi:=Z / 18446744073709551616) (lo:=Z % 18446744073709551616) (p1:=p1) (p3:=p3) (g:=g) (K:=K) ⟨by omega,by omega⟩ ⟨by omega,by omega⟩ hg g1 h1 h3 (by rw [eZ];exact k)
    cases h4:(Z / 18446744073709551616 ==(0:Int))
    · rw [yaa];exact t
    · rw [yac]
      cases h2:(Z % 18446744073709551616 ==(0:Int))
      · rw [yaa];exact t
      · have:=beq_iff_eq.1 h2
        have:=beq_iff_eq.1 h4
        exact absurd (show Z=0 by omega) h0
theorem ypf {s s':Bool} {Z Z' p1 p3:Int} {g:Nat} {K:Int→Int→Int→Prop} (k:outA s' Z' p1 p3 g K) (hz:Z=Z') (hs:Z≠0→s=s'):outA s Z p1 p3 g K:=by
 subst hz
 unfold outA at k ⊢
 by_cases h:Z=0
 · rw [if_pos h] at k ⊢;exact k
 · rw [if_neg h] at k ⊢;rw [hs h];exact k
theorem yGe {a b c d:Int} (ha:I64 a) (hb:I64 b) (hc:I64 c) (hd:I64 d) {K:Int→Int→Int→Prop}
   (k:if chk2 a b c d=0 then outA (decide (a*(d / (Nat.gcd b.natAbs d.natAbs:Nat))+c*(b / (Nat.gcd b.natAbs d.natAbs:Nat))<0))
       ((a*(d / (Nat.gcd b.natAbs d.natAbs:Nat))+c*(b / (Nat.gcd b.natAbs d.natAbs:Nat))).natAbs:Int) b d (Nat.gcd b.natAbs d.natAbs) K
     else K 0 0 (chk2 a b c d)):yaU a b c d K:=by
 unfold yaU ykn
 refine ymI ha hb hc hd ?_
 by_cases h:chk2 a b c d=0
 · rw [if_pos h] at k
   have:(chk2 a b c d !=(0:Int))=false:=by rw [h];rfl
   rw [this,yaa]
   obtain ⟨⟨b1,b2,a1,a2,_⟩,d1,d2,c1,c2,_⟩:=yey.1 h
   have wb:IntKind.u64.wrap b=((b.natAbs:Nat):Int):=by rw [wu64 ⟨by omega,by omega⟩];omega
   have wd:IntKind.u64.wrap d=((d.natAbs:Nat):Int):=by rw [wu64 ⟨by omega,by omega⟩];omega
   have g1:0<Nat.gcd b.natAbs d.natAbs:=Nat.gcd_pos_of_pos_right _ (by omega)
   have g2:Nat.gcd b.natAbs d.natAbs≤d.natAbs:=Nat.le_of_dvd (by omega) (Nat.gcd_dvd_right _ _)
   have go:ybA (IntKind.u64.wrap b) (IntKind.u64.wrap d)=ybA ((b.natAbs:Nat):Int) ((d.natAbs:Nat):Int):=by rw [wb,wd]
   rw [go]
   refine yrC _ _ _ ?_
   generalize Nat.gcd b.natAbs d.natAbs=g at *
   have n3:(!(decide ((g:Int)=(0:Int))))=true:=by rw [decide_eq_false (by omega)];rfl
   have q1:0≤b / (g:Int):=Int.ediv_nonneg (by omega) (by omega)
   have q2:0≤d / (g:Int):=Int.ediv_nonneg (by omega) (by omega)
   have q3:b / (g:Int)≤b:=Int.ediv_le_self _ (by omega)
   have q4:d / (g:Int)≤d:=Int.ediv_le_self _ (by omega)
   have ed:IntKind.u64.wrap (Int.tdiv (IntKind.u64.wrap d) (g:Int))=d / (g:Int):=by
     rw [wu64 (n:=d) ⟨by omega,by omega⟩,yjx (by omega),wu64 ⟨by omega,by omega⟩]
   have eb:IntKind.u64.wrap (Int.tdiv (IntKind.u64.wrap b) (g:Int))=b / (g:Int):=by
     rw [wu64 (n:=b) ⟨by omega,by omega⟩,yjx (by omega),wu64 ⟨by omega,by omega⟩]
   have yiS:∀ {c:Bool} {P:Prop},c=true→P→asr c P:=fun h p=>by rw [h,yan];exact p
   rw [ygy ha]
   refine yiS n3 ?_
   rw [yh0 (U64.abs ha) (by rw [ed];exact ⟨by omega,by omega⟩),ygy hc]
   refine yiS n3 ?_
   rw [yh0 (U64.abs hc) (by rw [eb];exact ⟨by omega,by omega⟩)]
   obtain ⟨X,hX⟩:∃ X,X=((a.natAbs:Nat):Int)*IntKind.u64.wrap (Int.tdiv (IntKind.u64.wrap d) (g:Int)):=⟨_,rfl⟩
   obtain ⟨Y,hY⟩:∃ Y,Y=((c.natAbs:Nat):Int)*IntKind.u64.wrap (Int.tdiv (IntKind.u64.wrap b) (g:Int)):=⟨_,rfl⟩
   rw [← hX,← hY]
   rw [ed] at hX;rw [eb] at hY
   have X0:0≤X:=by rw [hX];exact Int.mul_nonneg (by omega) q2
   have Y0:0≤Y:=by rw [hY];exact Int.mul_nonneg (by omega) q1
   have X1:X≤1000000000000000000*1000000000000000000:=by rw [hX];exact Int.mul_le_mul (by omega) (by omega) q2 (by omega)
   have Y1:Y≤1000000000000000000*1000000000000000000:=by rw [hY];exact Int.mul_le_mul (by omega) (by omega) q1 (by omega)
   have ax:a*(d / (g:Int))=if a<0 then -X else X:=by
     split
     · rw [hX,show ((a.natAbs:Nat):Int)=-a by omega,Int.neg_mul,Int.neg_neg]
     · rw [hX,show ((a.natAbs:Nat):Int)=a by omega]
   have cy:c*(b / (g:Int))=if c<0 then -Y else Y:=by
     split
     · rw [hY,show ((c.natAbs:Nat):Int)=-c by omega,Int.neg_mul,Int.neg_neg]
     · rw [hY,show ((c.natAbs:Nat):Int)=c by omega]
   rw [ax,cy] at k
   clear hX hY ax cy ed eb n3
   by_cases hs:decide (a<0)=decide (c<0)
   · have e:(decide (a<0) == decide (c<0))=true:=beq_iff_eq.2 hs
     rw [e,yac]
     refine yGd X0 Y0 (by omega) (fun c1 c2=>?_)
     refine yuH (by omega) (by omega) g1 (by omega) ⟨by omega,b2⟩ ⟨by omega,d2⟩ (ypf k ?_ ?_)
     · by_cases h1:a<0
       · have h2:c<0:=by simpa [h1] using hs.symm
         rw [if_pos h1,if_pos h2];omega
       · have h2:¬c<0:=by simpa [h1] using hs.symm
         rw [if_neg h1,if_neg h2];omega
     · intro h0
       by_cases h1:a<0
       · have h2:c<0:=by simpa [h1] using hs.symm
         rw [if_pos h1,if_pos h2,decide_eq_true h1,decide_eq_true (by omega)]
       · have h2:¬c<0:=by simpa [h1] using hs.symm
         rw [if_neg h1,if_neg h2,decide_eq_false h1,decide_eq_false (by omega)]
   · have e:(decide (a<0) == decide (c<0))=false:=beq_eq_false_iff_ne.2 hs
     rw [e,yaa]
     have h12:(a<0∧¬c<0)∨(¬a<0∧c<0):=by
       by_cases h1:a<0 <;> by_cases h2:c<0 <;> simp [h1,h2] at hs ⊢
     by_cases hlt:X<Y
     · have kk:outA (!decide (a<0)) (Y-X) b d g K:=by
         refine ypf k ?_ ?_
         · rcases h12 with ⟨h1,h2⟩ | ⟨h1,h2⟩
           · rw [if_pos h1,if_neg h2];omega
           · rw [if_neg h1,if_pos h2];omega
         · intro h0
           rcases h12 with ⟨h1,h2⟩ | ⟨h1,h2⟩
           · rw [if_pos h1,if_neg h2,decide_eq_true h1,decide_eq_false (by omega)];rfl
           · rw [if_neg h1,if_pos h2,decide_eq_false h1,decide_eq_true (by omega)];rfl
       by_cases h1:X / 18446744073709551616<Y / 18446744073709551616
       · rw [decide_eq_true h1,yac]
         refine yqs X0 (by omega) (by omega) (fun c1 c2=>?_)
         exact yuH (by omega) (by omega) g1 (by omega) ⟨by omega,b2⟩ ⟨by omega,d2⟩ kk
       · have e1:(X / 18446744073709551616 == Y / 18446744073709551616)=true:=beq_iff_eq.2 (by omega)
         rw [decide_eq_false h1,yaa,e1,yac,decide_eq_true (show X % 18446744073709551616<Y % 18446744073709551616 by have:=beq_iff_eq.1 e1;omega),yac]
         refine yqs X0 (by omega) (by omega) (fun c1 c2=>?_)
         exact yuH (by omega) (by omega) g1 (by omega) ⟨by omega,b2⟩ ⟨by omega,d2⟩ kk
     · have kk:outA (decide (a<0)) (X-Y) b d g K:=by
         refine ypf k ?_ ?_
         · rcases h12 with ⟨h1,h2⟩ | ⟨h1,h2⟩
           · rw [if_pos h1,if_neg h2];omega
           · rw [if_neg h1,if_pos h2];omega
         · intro h0
           rcases h12 with ⟨h1,h2⟩ | ⟨h1,h2⟩
           · rw [if_pos h1,if_neg h2,decide_eq_true h1,decide_eq_true (by omega)]
           · rw [if_neg h1,if_pos h2,decide_eq_false h1,decide_eq_false (by omega)]
       have h1:¬X / 18446744073709551616<Y / 18446744073709551616:=by omega
       rw [decide_eq_false h1,yaa]
       cases e1:(X / 18446744073709551616 == Y / 18446744073709551616)
       · rw [yaa]
         refine yqs Y0 (by omega) (by omega) (fun c1 c2=>?_)
         exact yuH (by omega) (by omega) g1 (by omega) ⟨by omega,b2⟩ ⟨by omega,d2⟩ kk
       · rw [yac,decide_eq_false (show ¬X % 18446744073709551616<Y % 18446744073709551616 by have:=beq_iff_eq.1 e1;omega),yaa]
         refine yqs Y0 (by omega) (by omega) (fun c1 c2=>?_)
         exact yuH (by omega) (by omega) g1 (by omega) ⟨by omega,b2⟩ ⟨by omega,d2⟩ kk
 · rw [if_neg h] at k
   have:(chk2 a b c d !=(0:Int))=true:=by rw [bne_iff_ne];exact h
   rw [this,yac]
   exact k
end Go.Pf.Vc
namespace Go.Pf.Vc
open Go Go.Pf
theorem RV.neg {c d:Int} (h:RV c d):RV (-c) d:=by
 obtain ⟨d1,d2,c1,c2,g⟩:=h
 exact ⟨d1,d2,by omega,by omega,by rw [Int.natAbs_neg];exact g⟩
theorem yI2 {a b c d:Int} (ha:I64 a) (hb:I64 b) (hc:I64 c) (hd:I64 d) {K:Int→Int→Int→Prop}
   (k:if chk2 a b c d=0 then outA (decide (a*(d / (Nat.gcd b.natAbs d.natAbs:Nat))+-c*(b / (Nat.gcd b.natAbs d.natAbs:Nat))<0))
       ((a*(d / (Nat.gcd b.natAbs d.natAbs:Nat))+-c*(b / (Nat.gcd b.natAbs d.natAbs:Nat))).natAbs:Int) b d (Nat.gcd b.natAbs d.natAbs) K
     else K 0 0 (chk2 a b c d)):yaZ a b c d K:=by
 unfold yaZ yko
 refine ymI ha hb hc hd ?_
 by_cases h:chk2 a b c d=0
 · rw [if_pos h] at k
   have:(chk2 a b c d !=(0:Int))=false:=by rw [h];rfl
   rw [this,yaa]
   obtain ⟨hab,hcd⟩:=yey.1 h
   obtain ⟨d1,d2,c1,c2,_⟩:=id hcd
   rw [wi64 (n:=0-c) ⟨by omega,by omega⟩,Int.zero_sub]
   refine yGe ha hb ⟨by omega,by omega⟩ hd ?_
   rw [if_pos (yey.2 ⟨hab,hcd.neg⟩)]
   exact k
 · rw [if_neg h] at k
   have:(chk2 a b c d !=(0:Int))=true:=by rw [bne_iff_ne];exact h
   rw [this,yac]
   exact k
end Go.Pf.Vc
namespace Go.Pf.Vc
open Go Go.Pf
def ints (l:List Int):List PV:=l.map (PV.int .i64)
theorem yaD (l:List Int):(ints l).length=l.length:=List.length_map ..
theorem yyH {l:List Int} {i:Nat} (h:i<l.length):List.getD (ints l) i .nils=.int .i64 (l.getD i 0):=by
 unfold ints
 rw [List.getD_eq_getElem?_getD,List.getD_eq_getElem?_getD,List.getElem?_map,List.getElem?_eq_getElem h]
 rfl
theorem yba {l:List Int} {i:Nat} (h:i<l.length):yab (List.getD (ints l) i .nils)=l.getD i 0:=by
 rw [yyH h];rfl
theorem ygh {l:List Int} {i:Nat} (h:i<l.length):conf (.one (.i .i64)) (List.getD (ints l) i .nils)=true:=by
 rw [yyH h];rfl
theorem yiS {c:Bool} {P:Prop} (h:c=true) (p:P):asr c P:=by rw [h,yan];exact p
theorem yos {c:Prop} [Decidable c] {P:Prop} (h:c) (p:P):asr (decide c) P:=yiS (decide_eq_true h) p
end Go.Pf.Vc
namespace Go.Pf.Vc
open Go Go.Pf
theorem yDM {c:Prop} [Decidable c] {P Q:Prop} (h:c) (p:P):cbr (decide c) P Q:=by rw [decide_eq_true h,yac];exact p
theorem ywy {c:Prop} [Decidable c] {P Q:Prop} (h:¬c) (q:Q):cbr (decide c) P Q:=by rw [decide_eq_false h,yaa];exact q
def mnf (m x:Int):Int:=if x<m then x else m
theorem yGf {l:List Int} (hl:l.length<9223372036854775807) (x0:List PV→Int→Int→Bool→Prop) :
   ∀ (rest:List Int) (i:Nat) (m:Int) (n:Nat),l.drop i=rest→i≤l.length→rest.length<n→x0 (ints l) (rest.foldl mnf m) (l.length:Int) false →
     ybw x0 n (ints l) m (i:Int):=by
 intro rest
 induction rest with
 | nil =>
   intro i m n hd hi hn k
   have:i=l.length:=by
     have:=congrArg List.length hd
     rw [List.length_drop] at this
     have h2:([]:List Int).length=0:=rfl
     omega
   match n,hn with
   | n+1,_ =>
     unfold ybw
     rw [yaD,this]
     exact ywy (by omega) k
 | cons x t ih =>
   intro i m n hd hi hn k
   have hlt:i<l.length:=by
     have:=congrArg List.length hd
     rw [List.length_drop,List.length_cons] at this
     omega
   have hx:l.getD i 0=x:=by
     have:=List.getElem_drop (xs:=l) (i:=i) (j:=0) (h:=by rw [hd];exact Nat.zero_lt_succ _)
     rw [List.getD_eq_getElem?_getD,List.getElem?_eq_getElem hlt]
     simp only [hd,List.getElem_cons_zero,Nat.add_zero] at this
     exact this.symm
   have ht:l.drop (i+1)=t:=by rw [← List.tail_drop,hd];rfl
   match n,hn with
   | n+1,hn =>
     unfold ybw
     rw [yaD]
     refine yDM (by omega) ?_
     refine yos (by omega) (yos (by omega) (yiS (ygh (by omega)) ?_))
     rw [Int.toNat_natCast,yba hlt,hx,wi64 (n:=(i:Int)+1) ⟨by omega,by omega⟩]
     exact ih (i+1) _ n ht (by omega) (by rw [List.length_cons] at hn;omega) k
theorem yI3 {l:List Int} (hl:l.length<9223372036854775807) {x:Int} {t:List Int} (e:l=x::t) {K:Int→Prop} (k:K (t.foldl mnf x)):ycO (ints l) K:=by
 have h0:0<l.length:=by rw [e];exact Nat.zero_lt_succ _
 unfold ycO yf7
 rw [yaD]
 refine ywy (by omega) (yos (by omega) (yiS (ygh h0) ⟨l.length+1,?_⟩))
 have e0:l.getD 0 0=x:=by rw [e];rfl
 rw [yba h0,e0]
 refine yGf hl _ t 1 x _ (by rw [e];rfl) (by omega) (by rw [e,List.length_cons];omega) ?_
 exact k
def mxf (m x:Int):Int:=if x>m then x else m
theorem yGg {l:List Int} (hl:l.length<9223372036854775807) (x0:List PV→Int→Int→Bool→Prop) :
   ∀ (rest:List Int) (i:Nat) (m:Int) (n:Nat),l.drop i=rest→i≤l.length→rest.length<n→x0 (ints l) (rest.foldl mxf m) (l.length:Int) false →
     ybx x0 n (ints l) m (i:Int):=by
 intro rest
 induction rest with
 | nil =>
   intro i m n hd hi hn k
   have:i=l.length:=by
     have:=congrArg List.length hd
     rw [List.length_drop] at this
     have h2:([]:List Int).length=0:=rfl
     omega
   match n,hn with
   | n+1,_ =>
     unfold ybx
     rw [yaD,this]
     exact ywy (by omega) k
 | cons x t ih =>
   intro i m n hd hi hn k
   have hlt:i<l.length:=by
     have:=congrArg List.length hd
     rw [List.length_drop,List.length_cons] at this
     omega
   have hx:l.getD i 0=x:=by
     have:=List.getElem_drop (xs:=l) (i:=i) (j:=0) (h:=by rw [hd];exact Nat.zero_lt_succ _)
     rw [List.getD_eq_getElem?_getD,List.getElem?_eq_getElem hlt]
     simp only [hd,List.getElem_cons_zero,Nat.add_zero] at this
     exact this.symm
   have ht:l.drop (i+1)=t:=by rw [← List.tail_drop,hd];rfl
   match n,hn with
   | n+1,hn =>
     unfold ybx
     rw [yaD]
     refine yDM (by omega) ?_
     refine yos (by omega) (yos (by omega) (yiS (ygh (by omega)) ?_))
     rw [Int.toNat_natCast,yba hlt,hx,wi64 (n:=(i:Int)+1) ⟨by omega,by omega⟩]
     exact ih (i+1) _ n ht (by omega) (by rw [List.length_cons] at hn;omega) k
theorem yGh {l:List Int} (hl:l.length<9223372036854775807) {x:Int} {t:List Int} (e:l=x::t) {K:Int→Prop} (k:K (t.foldl mxf x)):ycP (ints l) K:=by
 have h0:0<l.length:=by rw [e];exact Nat.zero_lt_succ _
 unfold ycP yf9
 rw [yaD]
 refine ywy (by omega) (yos (by omega) (yiS (ygh h0) ⟨l.length+1,?_⟩))
 have e0:l.getD 0 0=x:=by rw [e];rfl
 rw [yba h0,e0]
 refine yGg hl _ t 1 x _ (by rw [e];rfl) (by omega) (by rw [e,List.length_cons];omega) ?_
 exact k
end Go.Pf.Vc
namespace Go.Pf.Vc
open Go Go.Pf
def incr (l:List Int) (i:Nat):Prop:=∀ j,i≤j→j+1<l.length→l.getD j 0<l.getD (j+1) 0
theorem yCU {l:List Int} {p2:List PV} {p0:Int} (hl:l.length<9223372036854775807) (W1 W2:List PV→(Int→Prop)→Prop) (x0:Int→Prop) (x1:Int→List PV→List PV→Int→Int→Bool→Prop) :
   ∀ (r i n:Nat),i+r+1=l.length→r<n→(incr l i→x1 p0 (ints l) p2 ((l.length:Int)-1) ((l.length:Int)-1) false)→(¬incr l i→x0 8) →
     ycu W1 W2 x0 x1 n p0 (ints l) p2 ((l.length:Int)-1) (i:Int):=by
 intro r
 induction r with
 | zero =>
   intro i n hi hn k _
   match n,hn with
   | n+1,_ =>
     unfold ycu
     have e:(i:Int)=(l.length:Int)-1:=by omega
     refine ywy (by omega) ?_
     rw [e]
     exact k (fun j h1 h2=>by omega)
 | succ r ih =>
   intro i n hi hn k k0
   match n,hn with
   | n+1,hn =>
     unfold ycu
     rw [wi64 (n:=(i:Int)+1) ⟨by omega,by omega⟩,yaD]
     have e1:((i:Int)+1)=((i+1:Nat):Int):=by omega
     rw [e1,Int.toNat_natCast,Int.toNat_natCast]
     refine yDM (by omega) (yos (by omega) (yos (by omega) (yiS (ygh (by omega)) (yos (by omega) (yos (by omega) (yiS (ygh (by omega)) ?_))))))
     rw [yba (by omega),yba (by omega)]
     by_cases h:l.getD i 0≥l.getD (i+1) 0
     · exact yDM h (k0 fun hc=>absurd (hc i (Nat.le_refl _) (by omega)) (by omega))
     · refine ywy h (ih (i+1) n (by omega) (by omega) (fun hc=>k fun j h1 h2=>?_) (fun hc=>k0 fun hd=>hc fun j h1 h2=>hd j (by omega) h2))
       by_cases hj:j=i
       · subst hj;omega
       · exact hc j (by omega) h2
end Go.Pf.Vc
namespace Go.Pf.Vc
open Go Go.Pf
def small (q:Rat):Prop:=-1000000000000000000≤q.num∧q.num≤1000000000000000000∧(q.den:Int)≤1000000000000000000
instance (q:Rat):Decidable (small q):=by unfold small;infer_instance
theorem small.rv {q:Rat} (h:small q):RV q.num q.den:=by
 obtain ⟨h1,h2,h3⟩:=h
 have:=q.den_pos
 exact ⟨by omega,h3,h1,h2,q.reduced⟩
theorem yyI {n d:Int} (h:RV n d):∃ q:Rat,small q∧q.num=n∧(q.den:Int)=d:=by
 obtain ⟨h1,h2,h3,h4,h5⟩:=h
 refine ⟨⟨n,d.toNat,by omega,?_⟩,⟨h3,h4,by show ((d.toNat:Nat):Int)≤_;omega⟩,rfl,by show ((d.toNat:Nat):Int)=_;omega⟩
 have:d.natAbs=d.toNat:=by omega
 rw [this] at h5
 exact h5
theorem small.i1 {q:Rat} (h:small q):I64 q.num:=⟨by have:=h.1;omega,by have:=h.2.1;omega⟩
theorem small.i2 {q:Rat} (h:small q):I64 (q.den:Int):=⟨by omega,by have:=h.2.2;omega⟩
theorem yek {q r:Rat} (h:small q) (k:small r):chk2 q.num q.den r.num r.den=0:=yey.2 ⟨h.rv,k.rv⟩
def fitK (q:Rat) (K:Int→Int→Int→Prop):Prop:=if small q then K q.num q.den 0 else K 0 0 16
theorem yuI {q:Rat} {s:Bool} {a b:Int} (ha:a=(q.num.natAbs:Int)) (hb:b=(q.den:Int)) (hs:q.num≠0→s=decide (q.num<0)) (K:Int→Int→Int→Prop):outS s a b K=fitK q K:=by
 unfold outS fitK
 subst ha hb
 by_cases h:small q
 · have h':=h
   obtain ⟨h1,h2,h3⟩:=h
   rw [if_pos (show _∧_ from ⟨by omega,h3⟩),if_pos h']
   have e:(if s=true then -((q.num.natAbs:Nat):Int) else ((q.num.natAbs:Nat):Int))=q.num:=by
     by_cases h0:q.num=0
     · rw [h0];cases s <;> rfl
     · rw [hs h0]
       by_cases h1:q.num<0
       · rw [decide_eq_true h1,if_pos rfl];omega
       · rw [decide_eq_false h1,if_neg (by simp)];omega
   rw [e]
 · rw [if_neg h,if_neg]
   intro h2
   exact h ⟨by omega,by omega,h2.2⟩
theorem yAR (x:Int) (g:Nat):(Int.tdiv x g).natAbs=x.natAbs / g:=by rw [Int.natAbs_tdiv,Int.natAbs_natCast];rfl
theorem ywz {x:Int} {g:Nat} (h:(g:Int)∣x) (hx:x≠0):decide (Int.tdiv x g<0)=decide (x<0):=by
 obtain ⟨k,rfl⟩:=h
 have hg:(g:Int)≠0:=fun e=>hx (by rw [e,Int.zero_mul])
 rw [Int.mul_tdiv_cancel_left _ hg]
 have h1:(g:Int)>0:=by have:=Int.natCast_nonneg g;omega
 have:(g:Int)*k<0↔k<0:=by
   constructor
   · intro h;refine Int.not_le.1 fun hk=>?_
     have:=Int.mul_nonneg (show 0≤(g:Int) by omega) hk
     omega
   · intro h;exact Int.mul_neg_of_pos_of_neg h1 h
 simp only [this]
theorem yER (q r:Rat):(q*r).num=Int.tdiv q.num (Nat.gcd q.num.natAbs r.den)*Int.tdiv r.num (Nat.gcd r.num.natAbs q.den) ∧
   (q*r).den=(q.den / Nat.gcd r.num.natAbs q.den)*(r.den / Nat.gcd q.num.natAbs r.den):=by
 have e:q*r=Rat.mul q r:=rfl
 rw [e]
 delta Rat.mul
 constructor
 · simp only [Int.divExact_eq_tdiv]
 · simp only [Nat.divExact_eq_div]
theorem yjy (x:Int) (d:Nat):((Nat.gcd x.natAbs d:Nat):Int)∣x:=by
 rw [← Int.dvd_natAbs,Int.ofNat_dvd];exact Nat.gcd_dvd_left _ _
theorem yDN {x:Int} {g:Nat} (h:(g:Int)∣x) (hx:x≠0):Int.tdiv x g≠0:=by
 obtain ⟨k,rfl⟩:=h
 have hg:(g:Int)≠0:=fun e=>hx (by rw [e,Int.zero_mul])
 rw [Int.mul_tdiv_cancel_left _ hg]
 intro e;rw [e,Int.mul_zero] at hx;exact hx rfl
theorem yGi {x y:Int} (hx:x≠0) (hy:y≠0):decide (x*y<0)=(decide (x<0) != decide (y<0)):=by
 by_cases h1:x<0 <;> by_cases h2:y<0
 · have:=Int.mul_pos_of_neg_of_neg h1 h2
   simp [h1,h2];omega
 · have:=Int.mul_neg_of_neg_of_pos h1 (show 0<y by omega)
   simp [h1,h2];omega
 · have:=Int.mul_neg_of_pos_of_neg (show 0<x by omega) h2
   simp [h1,h2];omega
 · have:=Int.mul_pos (show 0<x by omega) (show 0<y by omega)
   simp [h1,h2];omega
theorem yyJ (q r:Rat) (K:Int→Int→Int→Prop):outS (decide (q.num<0) != decide (r.num<0)) (numM q.num r.num q.den r.den) (denM q.num r.num q.den r.den) K=fitK (q*r) K:=by
 obtain ⟨e1,e2⟩:=yER q r
 refine yuI ?_ ?_ ?_ K
 · rw [e1,Int.natAbs_mul,yAR,yAR]
   simp only [numM,Int.natAbs_natCast]
 · rw [e2]
   simp only [denM,Int.natAbs_natCast]
 · intro h
   rw [e1] at h ⊢
   have h1:q.num≠0:=fun e=>h (by rw [e,Int.zero_tdiv,Int.zero_mul])
   have h2:r.num≠0:=fun e=>h (by rw [e,Int.zero_tdiv,Int.mul_zero])
   rw [yGi (yDN (yjy _ _) h1) (yDN (yjy _ _) h2),ywz (yjy _ _) h1,ywz (yjy _ _) h2]
theorem yqt {w:(Int→Int→Int→Prop)→Prop} {q:Rat} (det:∀ r0 r1 r2,(∀ K:Int→Int→Int→Prop,K r0 r1 r2→w K)→∀ K,w K=K r0 r1 r2) (h:∀ K,fitK q K→w K) (K:Int→Int→Int→Prop):w K=fitK q K:=by
 unfold fitK at h ⊢
 by_cases hs:small q
 · simp only [if_pos hs] at h ⊢
   exact det _ _ _ h K
 · simp only [if_neg hs] at h ⊢
   exact det _ _ _ h K
theorem yyK {q r:Rat} (hq:small q) (hr:small r) (K:Int→Int→Int→Prop):yaV q.num q.den r.num r.den K=fitK (q*r) K :=
 yqt (fun r0 r1 r2 h K=>yvm _ _ _ _ r0 r1 r2 h K) (fun K k=>yCT hq.i1 hq.i2 hr.i1 hr.i2 (by rw [if_pos (yek hq hr),yyJ];exact k)) K
theorem yES {r:Rat} (h:r≠0):(r⁻¹).num=(if r.num<0 then -(r.den:Int) else r.den)∧(r⁻¹).den=r.num.natAbs:=by
 have h0:r.num≠0:=fun e=>h (Rat.num_eq_zero.1 e)
 constructor
 · rw [Rat.num_inv]
   by_cases h1:r.num<0
   · rw [if_pos h1,Int.sign_eq_neg_one_of_neg h1];omega
   · rw [if_neg h1,Int.sign_eq_one_of_pos (by omega)];omega
 · rw [Rat.den_inv,if_neg h0]
theorem yHF {q r:Rat} (hq:small q) (hr:small r) (h0:r≠0) (K:Int→Int→Int→Prop):ybK q.num q.den r.num r.den K=fitK (q / r) K:=by
 have hn:r.num≠0:=fun e=>h0 (Rat.num_eq_zero.1 e)
 refine yqt (fun r0 r1 r2 h K=>yvn _ _ _ _ r0 r1 r2 h K) (fun K k=>yI1 hq.i1 hq.i2 hr.i1 hr.i2 ?_) K
 rw [if_pos (yek hq hr),if_neg hn]
 rw [Rat.div_def,← yyJ] at k
 obtain ⟨e1,e2⟩:=yES h0
 rw [e1,e2] at k
 have s:decide ((if r.num<0 then -(r.den:Int) else (r.den:Int))<0)=decide (r.num<0):=by
   have:=r.den_pos
   split
   · rename_i h;simp only [h];simp;omega
   · rename_i h;simp only [h];simp
 rw [s] at k
 have hd:(if r.num<0 then -(r.den:Int) else (r.den:Int)).natAbs=r.den:=by split <;> omega
 unfold numM denM at k ⊢
 simp only [hd,Int.natAbs_natCast] at k ⊢
 exact k
end Go.Pf.Vc
namespace Go.Pf.Vc
open Go Go.Pf
theorem yET (q r:Rat):(q+r).num=(q.num*(r.den / Nat.gcd q.den r.den:Nat)+r.num*(q.den / Nat.gcd q.den r.den:Nat)) / (Nat.gcd (q.num*(r.den / Nat.gcd q.den r.den:Nat)+r.num*(q.den / Nat.gcd q.den r.den:Nat)).natAbs (Nat.gcd q.den r.den):Nat) ∧
   (q+r).den=(q.den / Nat.gcd q.den r.den)*r.den / Nat.gcd (q.num*(r.den / Nat.gcd q.den r.den:Nat)+r.num*(q.den / Nat.gcd q.den r.den:Nat)).natAbs (Nat.gcd q.den r.den):=by
 have e:q+r=Rat.add q r:=rfl
 rw [e]
 delta Rat.add
 by_cases hg:q.den.gcd r.den=1
 · simp only [hg,dif_pos,Nat.div_one,Nat.gcd_one_right,Int.natCast_one,Int.ediv_one,and_self]
 · simp only [hg,dif_neg,not_false_eq_true,Rat.maybeNormalize_eq]
   constructor
   · first | rfl | simp only [Int.divExact_eq_tdiv]
   · first | rfl | simp only []
theorem yGj {q r:Rat} {Z:Int} {g:Nat} (e1:(q+r).num=Z / (Nat.gcd Z.natAbs g:Nat)) (e2:(q+r).den=(q.den / g)*r.den / Nat.gcd Z.natAbs g) (hgp:0<g) (hgd:g∣r.den) (K:Int→Int→Int→Prop) :
   outA (decide (Z<0)) (Z.natAbs:Int) q.den r.den g K=fitK (q+r) K:=by
 unfold outA
 by_cases h0:Z=0
 · subst h0
   have:(q+r)=0:=by
     apply Rat.num_eq_zero.1
     rw [e1];simp
   rw [this,if_pos (by rfl)]
   unfold fitK
   rw [if_pos (by decide)];rfl
 · have hne:¬((Z.natAbs:Nat):Int)=0:=by omega
   rw [if_neg hne]
   have hdv:((Nat.gcd Z.natAbs g:Nat):Int)∣Z:=yjy _ _
   have hhp:0<Nat.gcd Z.natAbs g:=Nat.gcd_pos_of_pos_right _ hgp
   have hhg:Nat.gcd Z.natAbs g∣r.den:=Nat.dvd_trans (Nat.gcd_dvd_right _ _) hgd
   refine yuI ?_ ?_ ?_ K
   · rw [e1,Int.natAbs_ediv_of_dvd hdv];simp
   · rw [e2];simp only [Int.toNat_natCast];rw [Nat.mul_div_assoc _ hhg]
   · intro h
     rw [e1]
     obtain ⟨k,hk⟩:=hdv
     revert hhp hk
     generalize Nat.gcd Z.natAbs g=h
     intro hhp hk
     have e:Z / (h:Int)=k:=by rw [hk,Int.mul_ediv_cancel_left _ (by omega)]
     rw [e]
     have:Z<0↔k<0:=by
       rw [hk]
       constructor
       · intro hk;refine Int.not_le.1 fun hk2=>?_
         have:=Int.mul_nonneg (show 0≤(h:Int) by omega) hk2
         omega
       · intro hk;exact Int.mul_neg_of_pos_of_neg (by omega) hk
     simp only [this]
theorem yyL (q r:Rat) (K:Int→Int→Int→Prop) :
   outA (decide (q.num*((r.den:Int) / (Nat.gcd (q.den:Int).natAbs (r.den:Int).natAbs:Nat))+r.num*((q.den:Int) / (Nat.gcd (q.den:Int).natAbs (r.den:Int).natAbs:Nat))<0))
     ((q.num*((r.den:Int) / (Nat.gcd (q.den:Int).natAbs (r.den:Int).natAbs:Nat))+r.num*((q.den:Int) / (Nat.gcd (q.den:Int).natAbs (r.den:Int).natAbs:Nat))).natAbs:Int) q.den r.den (Nat.gcd (q.den:Int).natAbs (r.den:Int).natAbs) K=fitK (q+r) K:=by
 obtain ⟨e1,e2⟩:=yET q r
 rw [Int.natCast_ediv,Int.natCast_ediv] at e1 e2
 exact yGj e1 e2 (Nat.gcd_pos_of_pos_left _ q.den_pos) (Nat.gcd_dvd_right _ _) K
theorem yyM {q r:Rat} (hq:small q) (hr:small r) (K:Int→Int→Int→Prop):yaU q.num q.den r.num r.den K=fitK (q+r) K :=
 yqt (fun r0 r1 r2 h K=>yvk _ _ _ _ r0 r1 r2 h K) (fun K k=>yGe hq.i1 hq.i2 hr.i1 hr.i2 (by rw [if_pos (yek hq hr),yyL];exact k)) K
theorem yta {q r:Rat} (hq:small q) (hr:small r) (K:Int→Int→Int→Prop):yaZ q.num q.den r.num r.den K=fitK (q-r) K :=
 yqt (fun r0 r1 r2 h K=>yvl _ _ _ _ r0 r1 r2 h K) (fun K k=>yI2 hq.i1 hq.i2 hr.i1 hr.i2 (by
   rw [if_pos (yek hq hr)]
   rw [Rat.sub_eq_add_neg,← yyL] at k
   exact k)) K
theorem yAS {n d:Int} (hd:d≠0) (K:Int→Int→Int→Prop):outS (decide (n<0) != decide (d<0)) ((n.natAbs / Nat.gcd n.natAbs d.natAbs:Nat):Int) ((d.natAbs / Nat.gcd n.natAbs d.natAbs:Nat):Int) K=fitK ((n:Rat) / (d:Rat)) K:=by
 have e:(n:Rat) / (d:Rat)=mkRat (if d<0 then -n else n) d.natAbs:=by
   rw [Rat.mkRat_eq_div]
   split
   · rename_i h
     have h1:((d.natAbs:Nat):Int)=-d:=by omega
     have h2:((d.natAbs:Nat):Rat)=-(d:Rat):=by rw [← Rat.intCast_natCast,h1,Rat.intCast_neg]
     rw [h2,Rat.intCast_neg]
     have h3:(d:Rat)≠0:=fun e=>hd (Rat.intCast_eq_zero_iff.1 e)
     grind
   · rename_i h
     have h1:((d.natAbs:Nat):Int)=d:=by omega
     have h2:((d.natAbs:Nat):Rat)=(d:Rat):=by rw [← Rat.intCast_natCast,h1]
     rw [h2]
 have h0:d.natAbs≠0:=by omega
 have hab:(if d<0 then -n else n).natAbs=n.natAbs:=by split <;> omega
 rw [e]
 refine yuI ?_ ?_ ?_ K
 · rw [Rat.num_mkRat,if_neg h0,hab,Int.natAbs_ediv_of_dvd,Int.natAbs_natCast,hab,Nat.gcd_comm]
   rw [← Int.dvd_natAbs,Int.ofNat_dvd,hab];exact Nat.gcd_dvd_right _ _
 · rw [Rat.den_mkRat,if_neg h0,hab,Nat.gcd_comm]
 · rw [Rat.num_mkRat,if_neg h0,hab]
   have hdv:((Nat.gcd d.natAbs n.natAbs:Nat):Int)∣(if d<0 then -n else n):=by
     rw [← Int.dvd_natAbs,Int.ofNat_dvd,hab];exact Nat.gcd_dvd_right _ _
   have hp:0<Nat.gcd d.natAbs n.natAbs:=Nat.gcd_pos_of_pos_left _ (by omega)
   obtain ⟨k,hk⟩:=hdv
   rw [hk,Int.mul_ediv_cancel_left _ (by omega)]
   intro hk0
   generalize Nat.gcd d.natAbs n.natAbs=g at *
   have h1:(g:Int)*k<0↔k<0:=by
     constructor
     · intro hk;refine Int.not_le.1 fun hk2=>?_
       have:=Int.mul_nonneg (show 0≤(g:Int) by omega) hk2
       omega
     · intro hk;exact Int.mul_neg_of_pos_of_neg (by omega) hk
   have h2:(g:Int)*k≠0:=fun e=>by rcases Int.mul_eq_zero.1 e with e | e <;> omega
   by_cases hd2:d<0
   · rw [if_pos hd2] at hk
     by_cases hn:n<0
     · have:¬k<0:=by omega
       simp [hd2,hn,this]
     · have:k<0:=by omega
       simp [hd2,this];omega
   · rw [if_neg hd2] at hk
     by_cases hn:n<0
     · have:k<0:=by omega
       simp [hd2,hn,this]
     · have:¬k<0:=by omega
       simp [hd2,this];omega
theorem yGk {n d:Int} (hn:I64 n) (hd:I64 d) (h0:d≠0) (K:Int→Int→Int→Prop):ydH n d K=fitK ((n:Rat) / (d:Rat)) K :=
 yqt (fun r0 r1 r2 h K=>yun _ _ r0 r1 r2 h K) (fun K k=>yHD hn hd (by rw [if_neg h0,yAS h0];exact k)) K
def cmpQ (q r:Rat):Int:=if q<r then -1 else if r<q then 1 else 0
theorem yHG (q r:Rat):cmpR q.num q.den r.num r.den=cmpQ q r:=by
 unfold cmpR cmp3 cmpQ
 simp only [Rat.lt_iff]
theorem yDO {q r:Rat} (hq:small q) (hr:small r) (K:Int→Int→Prop):ydz q.num q.den r.num r.den K=K (cmpQ q r) 0 :=
 yvj _ _ _ _ _ _ (fun K k=>yIX hq.i1 hq.i2 hr.i1 hr.i2 (by rw [yek hq hr,if_pos rfl,yHG];exact k)) K
theorem ywA {n d:Int} (hn:I64 n) (hd:I64 d) (K:Int→Prop):yaS n d K=K (chk n d) :=
 ysw _ _ _ (fun _ k=>yuG hn hd k) K
end Go.Pf.Vc
namespace Go.Pf.Vc
open Go Go.Pf
theorem yfU {p:Int} (h:I64 p) (K:Int→Prop):yfh p K=K (p.natAbs:Int):=by
 unfold I64 at h
 unfold yfh yo6
 by_cases hp:p<0
 · have e0:IntKind.i64.wrap (p+1)=p+1:=wi64 ⟨by omega,by omega⟩
   have e1:IntKind.i64.wrap ((0:Int)-(p+1))=-(p+1):=by rw [wi64 ⟨by omega,by omega⟩];omega
   have e2:IntKind.u64.wrap (-(p+1))=-(p+1):=wu64 ⟨by omega,by omega⟩
   have e3:IntKind.u64.wrap (-(p+1)+1)=(p.natAbs:Int):=by rw [wu64 ⟨by omega,by omega⟩];omega
   rw [decide_eq_true hp,yac,e0,e1,e2,e3]
 · rw [decide_eq_false hp,yaa,wu64 ⟨by omega,by omega⟩]
   congr 1
   omega
theorem ywB (x:Int→Int→Bool→Prop):∀ (n a b:Nat),b<n→yeQ x n (a:Int) (b:Int)=x ((Nat.gcd a b:Nat):Int) 0 false
 | 0,a,b,h=>by omega
 | n+1,a,b,h=>by
   unfold yeQ
   by_cases hb:b=0
   · subst hb
     simp [cbr]
   · have h1:((b:Int) != 0)=true:=by simp;omega
     have h2:¬((b:Int)=0):=by omega
     rw [h1,yac,decide_eq_false h2,Bool.not_false,yan]
     have e:Int.tmod (a:Int) (b:Int)=((a % b:Nat):Int):=by rw [Int.tmod_eq_emod_of_nonneg (by omega)];omega
     rw [e,ywB x n b (a % b) (by have:=Nat.mod_lt a (show b>0 by omega);omega)]
     rw [Nat.gcd_comm a b,Nat.gcd_rec b a,Nat.gcd_comm]
theorem ynf (a b:Nat) (K:Int→Prop):ycR (a:Int) (b:Int) K=K ((Nat.gcd a b:Nat):Int):=by
 refine yAK _ _ _ (fun K h=>?_) K
 unfold ycR yo7
 exact ⟨b+1,by rw [ywB _ (b+1) a b (by omega)];exact h⟩
theorem yuJ {a b:Int} (h:a=b):(a != b)=false:=by simp [h]
theorem yAT {a b:Int} (h:a≠b):(a != b)=true:=by simp [h]
theorem yuK {a b:Int} (h:a≠b):(a == b)=false:=by simp [h]
theorem yGl {a b:Int} (h:a=b):(a == b)=true:=by simp [h]
theorem yng {n d:Int} (hn:I64 n) (_:I64 d) (K:Int→Prop):ygR n d K=K (chk n d):=by
 unfold ygR ykC
 by_cases h1:d<1
 · rw [decide_eq_true h1,yac,chk,if_neg (fun h=>by have:=h.1;omega)]
 · rw [decide_eq_false h1,yaa]
   by_cases h2:d>1000000000000000000
   · rw [decide_eq_true h2,yac,chk,if_neg (fun h=>by have:=h.2.1;omega)]
   · rw [decide_eq_false h2,yaa]
     by_cases h3:n < -1000000000000000000
     · rw [decide_eq_true h3,yac,chk,if_neg (fun h=>by have:=h.2.2.1;omega)]
     · rw [decide_eq_false h3,yaa]
       by_cases h4:n>1000000000000000000
       · rw [decide_eq_true h4,yac,chk,if_neg (fun h=>by have:=h.2.2.2.1;omega)]
       · have ed:IntKind.u64.wrap d=((d.natAbs:Nat):Int):=by rw [wu64 ⟨by omega,by omega⟩];omega
         rw [decide_eq_false h4,yaa,yfU hn,ed,ynf]
         by_cases h5:Nat.gcd n.natAbs d.natAbs=1
         · rw [h5,yuJ (by rfl),yaa,chk,if_pos ⟨by omega,by omega,by omega,by omega,h5⟩]
         · rw [yAT (by omega),yac,chk,if_neg (fun h=>h5 h.2.2.2.2)]
theorem yuL {a b c d:Int} (ha:I64 a) (hb:I64 b) (hc:I64 c) (hd:I64 d) (K:Int→Prop):ygb a b c d K=K (chk2 a b c d):=by
 unfold ygb ymi
 rw [yng ha hb,yng ha hb,yng hc hd,chk2]
 by_cases h:chk a b=0
 · rw [yuJ h,yaa,if_pos h]
 · rw [yAT h,yac,if_neg h]
theorem or32 {m s:Int} (_:0≤m) (hs:0≤s∧s<4294967296):IntKind.u64.wrap (BitVec.ofInt IntKind.u64.bits (IntKind.u64.wrap (m*4294967296))|||BitVec.ofInt IntKind.u64.bits s).toNat=m % 4294967296*4294967296+s:=by
 have e:IntKind.u64.wrap (m*4294967296)=m % 4294967296*2 ^ 32:=by rw [yg6];omega
 rw [e,yGb (k:=32) (by omega) ⟨hs.1,by omega⟩ ⟨by omega,by omega⟩ (by omega)]
 omega
theorem yGm {a b:Int} (ha:U64 a) (hb:U64 b) (K:Int→Int→Prop):ydA a b K=K (a*b / 18446744073709551616) (a*b % 18446744073709551616):=by
 unfold ydA ykD
 simp only [yF8]
 rw [ykZ ha,ykZ hb]
 unfold U64 at ha hb
 have ha':=ha;have hb':=hb
 obtain ⟨x1,hx1⟩:∃ x,x=a / 4294967296:=⟨_,rfl⟩
 obtain ⟨x0,hx0⟩:∃ x,x=a % 4294967296:=⟨_,rfl⟩
 obtain ⟨y1,hy1⟩:∃ x,x=b / 4294967296:=⟨_,rfl⟩
 obtain ⟨y0,hy0⟩:∃ x,x=b % 4294967296:=⟨_,rfl⟩
 rw [← hx1,← hx0,← hy1,← hy0]
 have b1:0≤x1∧x1≤4294967295:=by omega
 have b2:0≤x0∧x0≤4294967295:=by omega
 have b3:0≤y1∧y1≤4294967295:=by omega
 have b4:0≤y0∧y0≤4294967295:=by omega
 have pb:∀ x y:Int,0≤x∧x≤4294967295→0≤y∧y≤4294967295→0≤x*y∧x*y≤18446744065119617025:=by
   intro x y hx hy
   refine ⟨Int.mul_nonneg hx.1 hy.1,?_⟩
   have:=Int.mul_le_mul hx.2 hy.2 hy.1 (by omega:(0:Int)≤4294967295)
   omega
 have p1:=pb x1 y1 b1 b3
 have p2:=pb x1 y0 b1 b4
 have p3:=pb x0 y1 b2 b3
 have p4:=pb x0 y0 b2 b4
 have ea:a=x1*4294967296+x0:=by omega
 have eb:b=y1*4294967296+y0:=by omega
 have eab:a*b=x1*y1*18446744073709551616+x1*y0*4294967296+x0*y1*4294967296+x0*y0:=by
   rw [ea,eb];grind
 obtain ⟨P,hP⟩:∃ x,x=x1*y1:=⟨_,rfl⟩
 obtain ⟨Q,hQ⟩:∃ x,x=x1*y0:=⟨_,rfl⟩
 obtain ⟨R,hR⟩:∃ x,x=x0*y1:=⟨_,rfl⟩
 obtain ⟨S,hS⟩:∃ x,x=x0*y0:=⟨_,rfl⟩
 rw [← hP] at p1;rw [← hQ] at p2;rw [← hR] at p3;rw [← hS] at p4
 rw [← hP,← hQ,← hR,← hS] at eab ⊢
 have w1:IntKind.u64.wrap S=S:=wu64 ⟨by omega,by omega⟩
 have w2:IntKind.u64.wrap Q=Q:=wu64 ⟨by omega,by omega⟩
 have w3:IntKind.u64.wrap R=R:=wu64 ⟨by omega,by omega⟩
 have w4:IntKind.u64.wrap P=P:=wu64 ⟨by omega,by omega⟩
 rw [w1,w2,w3,w4,ykZ (p:=Q) ⟨by omega,by omega⟩,ykZ (p:=S) ⟨by omega,by omega⟩]
 have w5:IntKind.u64.wrap (Q % 4294967296+R)=Q % 4294967296+R:=wu64 ⟨by omega,by omega⟩
 rw [w5]
 have w6:IntKind.u64.wrap (Q % 4294967296+R+S / 4294967296)=Q % 4294967296+R+S / 4294967296:=wu64 ⟨by omega,by omega⟩
 rw [w6,or32 (by omega) ⟨by omega,by omega⟩]
 have hab:a*b≤18446744073709551615*18446744073709551615:=Int.mul_le_mul ha'.2 hb'.2 hb'.1 (by omega:(0:Int)≤18446744073709551615)
 rw [eab] at hab ⊢
 have w7:IntKind.u64.wrap (P+Q / 4294967296)=P+Q / 4294967296:=wu64 ⟨by omega,by omega⟩
 rw [w7,wu64 ⟨by omega,by omega⟩]
 congr 1 <;> omega
theorem yyN {X Y:Int} (hx:0≤X) (hy:0≤Y) (hs:X+Y<340282366920938463463374607431768211456) (K:Int→Int→Prop) :
   ydd (X / 18446744073709551616) (X % 18446744073709551616) (Y / 18446744073709551616) (Y % 18446744073709551616) K=K ((X+Y) / 18446744073709551616) ((X+Y) % 18446744073709551616):=by
 unfold ydd ymk
 rw [yg6,yg6,yg6]
 by_cases h:(X % 18446744073709551616+Y % 18446744073709551616) % 18446744073709551616<X % 18446744073709551616
 · rw [decide_eq_true h,yac]
   congr 1 <;> omega
 · rw [decide_eq_false h,yaa]
   congr 1 <;> omega
theorem yAU {X Y:Int} (hy:0≤Y) (hs:Y≤X) (hx:X<340282366920938463463374607431768211456) (K:Int→Int→Prop) :
   yfi (X / 18446744073709551616) (X % 18446744073709551616) (Y / 18446744073709551616) (Y % 18446744073709551616) K=K ((X-Y) / 18446744073709551616) ((X-Y) % 18446744073709551616):=by
 unfold yfi yhh
 rw [yg6,yg6,yg6]
 by_cases h:X % 18446744073709551616<Y % 18446744073709551616
 · rw [decide_eq_true h,yac]
   congr 1 <;> omega
 · rw [decide_eq_false h,yaa]
   congr 1 <;> omega
theorem yqu {X Y:Int} (_:0≤X) (_:0≤Y) (K:Bool→Prop) :
   yhW (X / 18446744073709551616) (X % 18446744073709551616) (Y / 18446744073709551616) (Y % 18446744073709551616) K=K (decide (X<Y)):=by
 unfold yhW ymg
 by_cases h:X / 18446744073709551616<Y / 18446744073709551616
 · rw [decide_eq_true h,yac,decide_eq_true (by omega)]
 · rw [decide_eq_false h,yaa]
   by_cases h2:X / 18446744073709551616=Y / 18446744073709551616
   · rw [yGl h2,yac]
     congr 1
     rw [decide_eq_decide];omega
   · rw [yuK h2,yaa,decide_eq_false (by omega)]
theorem yJx {i:Int} (h:0≤i∧i≤127):IntKind.i64.wrap (BitVec.ofInt IntKind.i64.bits i&&&BitVec.ofInt IntKind.i64.bits (63:Int)).toNat=i % 64:=by
 have e1:(BitVec.ofInt 64 i).toNat=i.toNat:=by
   rw [BitVec.toNat_ofInt];omega
 have e2:(BitVec.ofInt 64 (63:Int)).toNat=63:=rfl
 have e3:(BitVec.ofInt IntKind.i64.bits i&&&BitVec.ofInt IntKind.i64.bits (63:Int)).toNat=i.toNat % 64:=by
   show (BitVec.ofInt 64 i&&&BitVec.ofInt 64 (63:Int)).toNat=_
   rw [BitVec.toNat_and,e1,e2]
   exact Nat.and_two_pow_sub_one_eq_mod i.toNat 6
 rw [e3,wi64 ⟨by omega,by omega⟩]
 omega
theorem and1 {p:Int} (h:U64 p):IntKind.u64.wrap (BitVec.ofInt IntKind.u64.bits p&&&BitVec.ofInt IntKind.u64.bits (1:Int)).toNat=p % 2:=by
 unfold U64 at h
 have e1:(BitVec.ofInt 64 p).toNat=p.toNat:=by
   rw [BitVec.toNat_ofInt];omega
 have e2:(BitVec.ofInt 64 (1:Int)).toNat=1:=rfl
 have e3:(BitVec.ofInt IntKind.u64.bits p&&&BitVec.ofInt IntKind.u64.bits (1:Int)).toNat=p.toNat % 2:=by
   show (BitVec.ofInt 64 p&&&BitVec.ofInt 64 (1:Int)).toNat=_
   rw [BitVec.toNat_and,e1,e2]
   exact Nat.and_two_pow_sub_one_eq_mod p.toNat 1
 rw [e3,yg6]
 omega
theorem or1 {m s:Int} (hm:0≤m∧m≤9223372036854775807) (hs:0≤s∧s<2):IntKind.u64.wrap (BitVec.ofInt IntKind.u64.bits (m*2)|||BitVec.ofInt IntKind.u64.bits s).toNat=m*2+s:=by
 have:=yGb (a:=m) (b:=s) (k:=1) hm.1 ⟨hs.1,by omega⟩ ⟨by omega,by omega⟩ (by omega)
 simpa using this
theorem ymJ (i:Nat):(2:Int) ^ i=((2 ^ i:Nat):Int):=by rw [Int.natCast_pow];rfl
theorem yHH {W:Nat} (hW:W=2 ^ 64) {A:Int} (hA:0≤A) {i:Nat} (hi:i<64):A % (W:Int) / (2 ^ i:Int) % ((2:Nat):Int)=A / (2 ^ i:Int) % ((2:Nat):Int):=by
 obtain ⟨a,rfl⟩:∃ a:Nat,A=a:=⟨A.toNat,by omega⟩
 have:(a % W / 2 ^ i % 2:Nat)=a / 2 ^ i % 2:=by
   have e:W=2 ^ i*2 ^ (64-i):=by rw [← Nat.pow_add];rw [show i+(64-i)=64 by omega,hW]
   rw [e,Nat.mod_mul_right_div_self]
   have e2:2 ^ (64-i)=2*2 ^ (63-i):=by rw [show 64-i=(63-i)+1 by omega,Nat.pow_succ,Nat.mul_comm]
   rw [e2,Nat.mod_mul_right_mod]
 rw [ymJ,← Int.natCast_emod,← Int.natCast_ediv,← Int.natCast_emod,← Int.natCast_ediv,← Int.natCast_emod,this]
theorem yI4 {A:Int} (hA:0≤A) {i:Nat} (hi:i<64):A % 18446744073709551616 / (2 ^ i:Int) % 2=A / (2 ^ i:Int) % 2:=yHH (W:=18446744073709551616) rfl hA hi
theorem yHI {W:Nat} (hW:W=2 ^ 64) {A:Int} (hA:0≤A) {i:Nat} (hi:64≤i):A / (W:Int) / (2 ^ (i-64):Int)=A / (2 ^ i:Int):=by
 obtain ⟨a,rfl⟩:∃ a:Nat,A=a:=⟨A.toNat,by omega⟩
 have:(a / W / 2 ^ (i-64):Nat)=a / 2 ^ i:=by
   have e:(2 ^ i:Nat)=W*2 ^ (i-64):=by
     rw [hW,← Nat.pow_add,show 64+(i-64)=i by omega]
   rw [e,Nat.div_div_eq_div_mul]
 rw [ymJ,ymJ,← Int.natCast_ediv,← Int.natCast_ediv,← Int.natCast_ediv,this]
theorem yI5 {A:Int} (hA:0≤A) {i:Nat} (hi:64≤i):A / 18446744073709551616 / (2 ^ (i-64):Int)=A / (2 ^ i:Int):=yHI (W:=18446744073709551616) rfl hA hi
theorem yGn {d B q r b:Int} (hd:0<d) (hq:B / d=q) (hr:B % d=r) (hb:0≤b∧b≤1) :
   (2*B+b) / d=(if 2*r+b≥d then 2*q+1 else 2*q)∧(2*B+b) % d=(if 2*r+b≥d then 2*r+b-d else 2*r+b):=by
 have h1:=Int.mul_ediv_add_emod B d
 have h2:=Int.emod_nonneg B (show d≠0 by omega)
 have h3:=Int.emod_lt_of_pos B hd
 rw [hq,hr] at h1
 rw [hr] at h2 h3
 split
 · refine (Int.ediv_emod_unique hd).2 ⟨?_,by omega,by omega⟩
   grind
 · refine (Int.ediv_emod_unique hd).2 ⟨?_,by omega,by omega⟩
   grind
end Go.Pf.Vc
namespace Go.Pf.Vc
open Go Go.Pf
theorem yCV {A d:Int} (hA:0≤A∧A<340282366920938463463374607431768211456) (hd:0<d∧d<9223372036854775808) {x0:Int→Int→Int→Int→Int→Int→Int→Int→Int→Bool→Prop}
   (k0:x0 d (A / 18446744073709551616) (A % 18446744073709551616) 0 0 (A / d / 18446744073709551616) (A / d % 18446744073709551616) (A % d) (-1) false) :
   ∀ (k n:Nat),k≤128→k<n→yaQ ydd x0 n d (A / 18446744073709551616) (A % 18446744073709551616) 0 0
     (A / 2 ^ k / d / 18446744073709551616) (A / 2 ^ k / d % 18446744073709551616) (A / 2 ^ k % d) ((k:Int)-1):=by
 intro k
 induction k with
 | zero =>
   intro n _ hn
   match n,hn with
   | n+1,_ =>
     unfold yaQ
     rw [decide_eq_false (by omega),yaa]
     have e:A / 2 ^ 0=A:=by rw [Int.pow_zero,Int.ediv_one]
     rw [e]
     exact k0
 | succ k ih =>
   intro n hk hn
   match n,hn with
   | n+1,hn =>
     unfold yaQ
     have e8:((k+1:Nat):Int)-1=(k:Int):=by omega
     rw [e8,decide_eq_true (by omega),yac]
     rw [yJx (i:=(k:Int)) ⟨by omega,by omega⟩]
     have en:(!decide ((k:Int) % 64<0))=true:=by rw [decide_eq_false (by omega)];rfl
     have em:min ((k:Int) % 64).toNat IntKind.u64.bits=k % 64:=by show min _ 64=_;omega
     rw [en,yan,yan,em]
     have pp:∀ m:Nat,(0:Int)≤2 ^ m:=fun m=>by rw [ymJ];exact Int.natCast_nonneg _
     have p1:∀ m:Nat,(0:Int)<2 ^ m:=fun m=>by rw [ymJ];exact Int.natCast_pos.2 (Nat.two_pow_pos m)
     simp only [ysg _ _ (pp _)]
     have hC0:0≤A / 2 ^ k:=Int.ediv_nonneg hA.1 (pp _)
     have hCA:A / 2 ^ k≤A:=Int.ediv_le_self _ hA.1
     have hBC:A / 2 ^ (k+1)=A / 2 ^ k / 2:=by
       rw [Int.pow_succ,Int.ediv_ediv_of_nonneg (pp k)]
     obtain ⟨C,hC⟩:∃ C,C=A / 2 ^ k:=⟨_,rfl⟩
     have ih2:=ih n (by omega) (by omega)
     rw [← hC] at hC0 hCA hBC ih2
     rw [hBC]
     obtain ⟨b,hb⟩:∃ b,b=C % 2:=⟨_,rfl⟩
     have hCb:C=2*(C / 2)+b:=by omega
     obtain ⟨s1,s2⟩:=yGn (B:=C / 2) (b:=b) hd.1 rfl rfl ⟨by omega,by omega⟩
     rw [← hCb] at s1 s2
     have r0:=Int.emod_nonneg (C / 2) (show d≠0 by omega)
     have r1:=Int.emod_lt_of_pos (C / 2) hd.1
     have q0:0≤C / 2 / d:=Int.ediv_nonneg (by omega) (by omega)
     have q1:C / 2 / d≤C / 2:=Int.ediv_le_self _ (by omega)
     rw [s1,s2] at ih2
     obtain ⟨q,hq⟩:∃ q,q=C / 2 / d:=⟨_,rfl⟩
     obtain ⟨r,hr⟩:∃ r,r=C / 2 % d:=⟨_,rfl⟩
     rw [← hq,← hr] at ih2
     rw [← hq] at q0 q1
     rw [← hr] at r0 r1
     rw [← hq,← hr]
     have e2:IntKind.u64.wrap (r*2)=r*2:=wu64 ⟨by omega,by omega⟩
     rw [e2,wi64 (n:=(k:Int)-1) ⟨by omega,by omega⟩]
     rw [yyN q0 q0 (by omega),yyN q0 q0 (by omega)]
     have hlo:0≤A % 18446744073709551616 / 2 ^ (k % 64)∧A % 18446744073709551616 / 2 ^ (k % 64)≤18446744073709551615:=by
       refine ⟨Int.ediv_nonneg (by omega) (pp _),?_⟩
       have:=Int.ediv_le_self (a:=A % 18446744073709551616) (2 ^ (k % 64)) (by omega)
       omega
     have hhi:0≤A / 18446744073709551616 / 2 ^ (k % 64)∧A / 18446744073709551616 / 2 ^ (k % 64)≤18446744073709551615:=by
       refine ⟨Int.ediv_nonneg (by omega) (pp _),?_⟩
       have:=Int.ediv_le_self (a:=A / 18446744073709551616) (2 ^ (k % 64)) (by omega)
       omega
     rw [and1 hlo,and1 hhi]
     have go:∀ bb:Int,bb=b→cbr (decide (IntKind.u64.wrap (BitVec.ofInt IntKind.u64.bits (r*2)|||BitVec.ofInt IntKind.u64.bits bb).toNat≥d))
         (yaQ ydd x0 n d (A / 18446744073709551616) (A % 18446744073709551616) 0 0 ((q+q) / 18446744073709551616) (IntKind.u64.wrap (BitVec.ofInt IntKind.u64.bits ((q+q) % 18446744073709551616)|||BitVec.ofInt IntKind.u64.bits (1:Int)).toNat) (IntKind.u64.wrap ((IntKind.u64.wrap (BitVec.ofInt IntKind.u64.bits (r*2)|||BitVec.ofInt IntKind.u64.bits bb).toNat)-d)) ((k:Int)-1))
         (yaQ ydd x0 n d (A / 18446744073709551616) (A % 18446744073709551616) 0 0 ((q+q) / 18446744073709551616) ((q+q) % 18446744073709551616) (IntKind.u64.wrap (BitVec.ofInt IntKind.u64.bits (r*2)|||BitVec.ofInt IntKind.u64.bits bb).toNat) ((k:Int)-1)):=by
       intro bb hbb
       rw [hbb,or1 ⟨r0,by omega⟩ ⟨by omega,by omega⟩]
       by_cases hge:2*r+b≥d
       · rw [if_pos hge,if_pos hge] at ih2
         rw [decide_eq_true (show r*2+b≥d by omega),yac,wu64 (n:=r*2+b-d) ⟨by omega,by omega⟩]
         have e3:(q+q) % 18446744073709551616=((q % 9223372036854775808)*2):=by omega
         rw [e3,or1 ⟨by omega,by omega⟩ ⟨by omega,by omega⟩]
         have e4:(q+q) / 18446744073709551616=(2*q+1) / 18446744073709551616:=by omega
         have e5:q % 9223372036854775808*2+1=(2*q+1) % 18446744073709551616:=by omega
         rw [e4,e5,show r*2+b-d=2*r+b-d by omega]
         exact ih2
       · rw [if_neg hge,if_neg hge] at ih2
         rw [decide_eq_false (show ¬r*2+b≥d by omega),yaa,show q+q=2*q by omega,show r*2+b=2*r+b by omega]
         exact ih2
     by_cases h64:(k:Int)≥64
     · rw [decide_eq_true h64,yac]
       refine go _ ?_
       rw [show k % 64=k-64 by omega,yI5 hA.1 (by omega),← hC,hb]
     · rw [decide_eq_false h64,yaa]
       refine go _ ?_
       rw [show k % 64=k by omega,yI4 hA.1 (by omega),← hC,hb]
theorem yGo {A d:Int} (hA:0≤A∧A<340282366920938463463374607431768211456) (hd:0<d∧d<9223372036854775808) (K:Int→Int→Int→Prop) :
   yc8 (A / 18446744073709551616) (A % 18446744073709551616) d K=K (A / d / 18446744073709551616) (A / d % 18446744073709551616) (A % d):=by
 refine yvF _ _ _ _ _ _ (fun K h=>?_) K
 unfold yc8 ykF
 refine ⟨129,?_⟩
 have e:=yCV (x0:=fun f g i j k a b c l m=>K a b c) hA hd h 128 129 (by omega) (by omega)
 have z:A / 2 ^ 128=0:=Int.ediv_eq_zero_of_lt hA.1 hA.2
 rw [z,Int.zero_ediv,Int.zero_emod] at e
 exact e
theorem yyO {s:Bool} {X Y:Int} (hx:0≤X) (hy:0≤Y) (K:Int→Int→Int→Prop) :
   ye4 s (X / 18446744073709551616) (X % 18446744073709551616) (Y / 18446744073709551616) (Y % 18446744073709551616) K=outS s X Y K:=by
 unfold ye4 ymn outS
 by_cases h:X≤1000000000000000000∧Y≤1000000000000000000
 · have e1:IntKind.i64.wrap (X % 18446744073709551616)=X:=by rw [show X % 18446744073709551616=X by omega,wi64 ⟨by omega,by omega⟩]
   have e2:IntKind.i64.wrap (Y % 18446744073709551616)=Y:=by rw [show Y % 18446744073709551616=Y by omega,wi64 ⟨by omega,by omega⟩]
   rw [if_pos h,decide_eq_false (by omega),yaa,decide_eq_false (by omega),yaa,decide_eq_false (by omega),yaa,decide_eq_false (by omega),yaa,e1,e2]
   cases s
   · rw [yaa];rfl
   · rw [yac,wi64 ⟨by omega,by omega⟩,Int.zero_sub];rfl
 · rw [if_neg h]
   by_cases h1:X / 18446744073709551616>0
   · rw [decide_eq_true h1,yac]
   · rw [decide_eq_false h1,yaa]
     by_cases h2:Y / 18446744073709551616>0
     · rw [decide_eq_true h2,yac]
     · rw [decide_eq_false h2,yaa]
       by_cases h3:X % 18446744073709551616>1000000000000000000
       · rw [decide_eq_true h3,yac]
       · rw [decide_eq_false h3,yaa,decide_eq_true (by omega),yac]
end Go.Pf.Vc
namespace Go.Pf.Vc
open Go Go.Pf
theorem ymK {g:Int} (h:g≠0) {P:Prop}:asr (!(decide (g=(0:Int)))) P=P:=by
 rw [decide_eq_false h];rfl
theorem wuN {n:Nat} (h:(n:Int)≤18446744073709551615):IntKind.u64.wrap (n:Int)=n:=wu64 ⟨by omega,h⟩
theorem yuM (a b:Nat):Int.tdiv (a:Int) (b:Int)=((a / b:Nat):Int):=by
 rw [Int.tdiv_eq_ediv_of_nonneg (by omega),Int.natCast_ediv]
theorem ywC {A d:Nat} (hA:A<340282366920938463463374607431768211456) (hd:0<d∧d<9223372036854775808) (K:Int→Int→Int→Prop) :
   yc8 ((A:Int) / 18446744073709551616) ((A:Int) % 18446744073709551616) d K=K (((A / d:Nat):Int) / 18446744073709551616) (((A / d:Nat):Int) % 18446744073709551616) ((A % d:Nat):Int):=by
 rw [yGo ⟨by omega,by omega⟩ ⟨by omega,by omega⟩,Int.natCast_ediv,Int.natCast_emod]
theorem ygi {a b:Nat} (ha:a≤18446744073709551615) (hb:b≤18446744073709551615) (K:Int→Int→Prop) :
   ydA (a:Int) (b:Int) K=K (((a*b:Nat):Int) / 18446744073709551616) (((a*b:Nat):Int) % 18446744073709551616):=by
 rw [yGm ⟨by omega,by omega⟩ ⟨by omega,by omega⟩,Int.natCast_mul]
theorem yEU {a b c d:Int} {K:Int→Int→Prop} {Z:Prop} (h:∀ u v,K u v=Z):yfi a b c d K=Z:=by
 unfold yfi yhh
 simp only [h]
 by_cases e:b<d
 · rw [decide_eq_true e,yac]
 · rw [decide_eq_false e,yaa]
theorem yHJ {s:Bool} {Z p1 p3 g:Nat} (hZ:Z<340282366920938463463374607431768211456) (hg:0<g) (g1:g≤1000000000000000000) (h1:p1≤1000000000000000000) (h3:p3≤1000000000000000000) (K:Int→Int→Int→Prop) :
   cbr (((Z:Int) / 18446744073709551616 ==(0:Int))&&(((Z:Int) % 18446744073709551616 ==(0:Int))&&true)) (K 0 1 0)
     (yc8 ((Z:Int) / 18446744073709551616) ((Z:Int) % 18446744073709551616) (g:Int) (fun _ _ b =>
       (ycR b (g:Int) (fun a =>
         (yc8 ((Z:Int) / 18446744073709551616) ((Z:Int) % 18446744073709551616) a (fun c d _ =>
           (asr (!(decide ((g:Int)=(0:Int)))) (asr (!(decide (a=(0:Int))))
             (ydA (IntKind.u64.wrap (Int.tdiv (IntKind.u64.wrap (p1:Int)) (g:Int))) (IntKind.u64.wrap (Int.tdiv (IntKind.u64.wrap (p3:Int)) a)) (fun f h =>
               (ye4 s c d f h (fun i j k=>K i j k))))))))))))=outA s (Z:Int) p1 p3 g K:=by
 unfold outA
 by_cases h0:Z=0
 · subst h0;rfl
 · have e:(((Z:Int) / 18446744073709551616 ==(0:Int))&&(((Z:Int) % 18446744073709551616 ==(0:Int))&&true))=false:=by
     by_cases e1:(Z:Int) / 18446744073709551616=0
     · rw [yGl e1,yuK (by omega)];rfl
     · rw [yuK e1];rfl
   have hg0:0<Nat.gcd Z g:=Nat.gcd_pos_of_pos_right _ hg
   have hgg:Nat.gcd Z g≤g:=Nat.gcd_le_right _ hg
   have eg:Nat.gcd (Z % g) g=Nat.gcd Z g:=by rw [Nat.gcd_comm Z g,Nat.gcd_rec g Z]
   have q1:p1 / g≤p1:=Nat.div_le_self _ _
   have q3:p3 / Nat.gcd Z g≤p3:=Nat.div_le_self _ _
   rw [e,yaa,if_neg (by omega),ywC hZ ⟨hg,by omega⟩]
   simp only [ynf,eg]
   rw [ywC hZ ⟨hg0,by omega⟩,ymK (by omega),ymK (by omega),wuN (by omega),wuN (by omega),yuM,yuM,wuN (by omega),wuN (by omega),ygi (by omega) (by omega)]
   rw [yyO (Int.natCast_nonneg _) (Int.natCast_nonneg _)]
   simp only [Int.toNat_natCast]
theorem yGp {n d:Int} (hn:I64 n) (hd:I64 d) (h0:d≠0) (K:Int→Int→Int→Prop):ykH n d K=fitK ((n:Rat) / (d:Rat)) K:=by
 unfold ykH ymp
 have hn':=hn;have hd':=hd
 unfold I64 at hn' hd'
 have g0:0<Nat.gcd n.natAbs d.natAbs:=Nat.gcd_pos_of_pos_right _ (by omega)
 have q1:n.natAbs / Nat.gcd n.natAbs d.natAbs≤n.natAbs:=Nat.div_le_self _ _
 have q2:d.natAbs / Nat.gcd n.natAbs d.natAbs≤d.natAbs:=Nat.div_le_self _ _
 have hp:∀ x:Nat,(0:Int)≤x:=Int.natCast_nonneg
 rw [yuK h0,yaa,yfU hn,yfU hd,ynf,ymK (by omega),ymK (by omega),yuM,yuM,← yAS h0]
 obtain ⟨x,hx⟩:∃ x,x=n.natAbs / Nat.gcd n.natAbs d.natAbs:=⟨_,rfl⟩
 obtain ⟨y,hy⟩:∃ y,y=d.natAbs / Nat.gcd n.natAbs d.natAbs:=⟨_,rfl⟩
 rw [← hx] at q1 ⊢
 rw [← hy] at q2 ⊢
 rw [wuN (by omega),wuN (by omega)]
 have m:=yyO (s:=(decide (n<0) != decide (d<0))) (X:=(x:Int)) (Y:=(y:Int)) (by omega) (by omega) K
 rw [← m]
 have e1:(x:Int) / 18446744073709551616=0:=by omega
 have e2:(x:Int) % 18446744073709551616=x:=by omega
 have e3:(y:Int) / 18446744073709551616=0:=by omega
 have e4:(y:Int) % 18446744073709551616=y:=by omega
 rw [e1,e2,e3,e4]
theorem yyP {q r:Rat} (hq:small q) (hr:small r) (K:Int→Int→Int→Prop):yfj q.num q.den r.num r.den K=fitK (q+r) K:=by
 unfold yfj ypa
 rw [yuL hq.i1 hq.i2 hr.i1 hr.i2,yek hq hr,yuJ rfl,yaa,← yyL]
 obtain ⟨a1,a2,a3⟩:=hq
 obtain ⟨b1,b2,b3⟩:=hr
 have dq:=q.den_pos
 have dr:=r.den_pos
 have g0:0<Nat.gcd q.den r.den:=Nat.gcd_pos_of_pos_left _ dq
 have gl:Nat.gcd q.den r.den≤q.den:=Nat.gcd_le_left _ dq
 have w1:ycR (IntKind.u64.wrap (q.den:Int)) (IntKind.u64.wrap (r.den:Int))=ycR (q.den:Int) (r.den:Int):=by rw [wuN (by omega),wuN (by omega)]
 rw [w1,ynf,yfU ⟨by omega,by omega⟩,ymK (by omega)]
 show _=outA (decide (q.num*((r.den:Int) / (Nat.gcd q.den r.den:Nat))+r.num*((q.den:Int) / (Nat.gcd q.den r.den:Nat))<0)) ((q.num*((r.den:Int) / (Nat.gcd q.den r.den:Nat))+r.num*((q.den:Int) / (Nat.gcd q.den r.den:Nat))).natAbs:Int) q.den r.den (Nat.gcd q.den r.den) K
 obtain ⟨g,hg⟩:∃ g,g=Nat.gcd q.den r.den:=⟨_,rfl⟩
 rw [← hg] at g0 gl ⊢
 have q3:r.den / g≤r.den:=Nat.div_le_self _ _
 have q4:q.den / g≤q.den:=Nat.div_le_self _ _
 have t1:IntKind.u64.wrap (Int.tdiv (IntKind.u64.wrap (r.den:Int)) (g:Int))=((r.den / g:Nat):Int):=by rw [wuN (by omega),yuM,wuN (by omega)]
 have t2:IntKind.u64.wrap (Int.tdiv (IntKind.u64.wrap (q.den:Int)) (g:Int))=((q.den / g:Nat):Int):=by rw [wuN (by omega),yuM,wuN (by omega)]
 rw [t1,ygi (by omega) (by omega)]
 rw [yfU ⟨by omega,by omega⟩,ymK (by omega),t2,ygi (by omega) (by omega)]
 rw [← Int.natCast_ediv,← Int.natCast_ediv]
 obtain ⟨x,hx⟩:∃ x,x=r.den / g:=⟨_,rfl⟩
 obtain ⟨y,hy⟩:∃ y,y=q.den / g:=⟨_,rfl⟩
 rw [← hx] at q3 ⊢
 rw [← hy] at q4 ⊢
 have X1:q.num.natAbs*x≤1000000000000000000*1000000000000000000:=Nat.mul_le_mul (by omega) (by omega)
 have Y1:r.num.natAbs*y≤1000000000000000000*1000000000000000000:=Nat.mul_le_mul (by omega) (by omega)
 have ax:q.num*(x:Int)=if q.num<0 then -((q.num.natAbs*x:Nat):Int) else ((q.num.natAbs*x:Nat):Int):=by
   rw [Int.natCast_mul]
   split
   · rw [show ((q.num.natAbs:Nat):Int)=-q.num by omega,Int.neg_mul,Int.neg_neg]
   · rw [show ((q.num.natAbs:Nat):Int)=q.num by omega]
 have cy:r.num*(y:Int)=if r.num<0 then -((r.num.natAbs*y:Nat):Int) else ((r.num.natAbs*y:Nat):Int):=by
   rw [Int.natCast_mul]
   split
   · rw [show ((r.num.natAbs:Nat):Int)=-r.num by omega,Int.neg_mul,Int.neg_neg]
   · rw [show ((r.num.natAbs:Nat):Int)=r.num by omega]
 rw [ax,cy]
 obtain ⟨X,hX⟩:∃ X,X=q.num.natAbs*x:=⟨_,rfl⟩
 obtain ⟨Y,hY⟩:∃ Y,Y=r.num.natAbs*y:=⟨_,rfl⟩
 rw [← hX] at X1 ⊢
 rw [← hY] at Y1 ⊢
 rw [yyN (by omega) (by omega) (by omega)]
 have fin:=fun (s:Bool) (Z:Nat) (hZ:Z<340282366920938463463374607431768211456)=>yHJ (s:=s) (Z:=Z) (p1:=q.den) (p3:=r.den) (g:=g) hZ g0 (by omega) (by omega) (by omega) K
 simp only [t2,← hy] at fin
 have cong:∀ (s s':Bool) (Z Z':Int),Z=Z'→(Z≠0→s=s')→outA s Z q.den r.den g K=outA s' Z' q.den r.den g K:=by
   intro s s' Z Z' h1 h2
   subst h1
   by_cases h:Z=0
   · unfold outA;rw [if_pos h,if_pos h]
   · rw [h2 h]
 by_cases hs:decide (q.num<0)=decide (r.num<0)
 · have e:(decide (q.num<0) != decide (r.num<0))=false:=by rw [hs];simp
   rw [e,yaa,show (X:Int)+Y=((X+Y:Nat):Int) by omega]
   rw [fin (decide (q.num<0)) (X+Y) (by omega)]
   refine cong _ _ _ _ ?_ ?_
   · by_cases h1:q.num<0
     · have h2:r.num<0:=by simpa [h1] using hs.symm
       rw [if_pos h1,if_pos h2];omega
     · have h2:¬r.num<0:=by simpa [h1] using hs.symm
       rw [if_neg h1,if_neg h2];omega
   · intro h0
     by_cases h1:q.num<0
     · have h2:r.num<0:=by simpa [h1] using hs.symm
       rw [if_pos h1,if_pos h2,decide_eq_true h1,decide_eq_true (by omega)]
     · have h2:¬r.num<0:=by simpa [h1] using hs.symm
       rw [if_neg h1,if_neg h2,decide_eq_false h1,decide_eq_false (by omega)]
 · have e:(decide (q.num<0) != decide (r.num<0))=true:=by simpa using hs
   have h12:(q.num<0∧¬r.num<0)∨(¬q.num<0∧r.num<0):=by
     by_cases h1:q.num<0 <;> by_cases h2:r.num<0 <;> simp [h1,h2] at hs ⊢
   rw [e,yac]
   by_cases hlt:X<Y
   · refine yEU (fun u v=>?_)
     rw [yqu (by omega) (by omega),decide_eq_true (by omega),yac,yAU (by omega) (by omega) (by omega)]
     have ez:(Y:Int)-X=((Y-X:Nat):Int):=by omega
     rw [ez]
     rw [fin (decide (r.num<0)) (Y-X) (by omega)]
     refine cong _ _ _ _ ?_ ?_
     · rcases h12 with ⟨h1,h2⟩ | ⟨h1,h2⟩
       · rw [if_pos h1,if_neg h2];omega
       · rw [if_neg h1,if_pos h2];omega
     · intro h0
       rcases h12 with ⟨h1,h2⟩ | ⟨h1,h2⟩
       · rw [if_pos h1,if_neg h2,decide_eq_false h2,decide_eq_false (by omega)]
       · rw [if_neg h1,if_pos h2,decide_eq_true h2,decide_eq_true (by omega)]
   · rw [yAU (by omega) (by omega) (by omega),yqu (by omega) (by omega),decide_eq_false (by omega),yaa]
     have ez:(X:Int)-Y=((X-Y:Nat):Int):=by omega
     rw [ez]
     rw [fin (decide (q.num<0)) (X-Y) (by omega)]
     refine cong _ _ _ _ ?_ ?_
     · rcases h12 with ⟨h1,h2⟩ | ⟨h1,h2⟩
       · rw [if_pos h1,if_neg h2];omega
       · rw [if_neg h1,if_pos h2];omega
     · intro h0
       rcases h12 with ⟨h1,h2⟩ | ⟨h1,h2⟩
       · rw [if_pos h1,if_neg h2,decide_eq_true h1,decide_eq_true (by omega)]
       · rw [if_neg h1,if_pos h2,decide_eq_false h1,decide_eq_false (by omega)]
theorem yHK {q:Rat} (hq:small q) (K:Int→Int→Prop):ynb q.num q.den K=K (-q).num (-q).den:=by
 unfold ynb yo9
 obtain ⟨a1,a2,a3⟩:=hq
 rw [wi64 ⟨by omega,by omega⟩,Int.zero_sub];rfl
theorem small.neg {q:Rat} (hq:small q):small (-q):=by
 obtain ⟨a1,a2,a3⟩:=hq
 unfold small
 rw [Rat.neg_num,Rat.neg_den]
 omega
theorem yHL {q r:Rat} (hq:small q) (hr:small r) (K:Int→Int→Int→Prop):ync q.num q.den r.num r.den K=fitK (q-r) K:=by
 unfold ync ypb
 rw [yuL hq.i1 hq.i2 hr.i1 hr.i2,yek hq hr,yuJ rfl,yaa,yHK hr,yyP hq hr.neg,Rat.sub_eq_add_neg]
theorem yHM {q r:Rat} (hq:small q) (hr:small r) (K:Int→Int→Int→Prop):ynd q.num q.den r.num r.den K=fitK (q*r) K:=by
 unfold ynd ypc
 rw [yuL hq.i1 hq.i2 hr.i1 hr.i2,yek hq hr,yuJ rfl,yaa]
 have hq':=hq;have hr':=hr
 obtain ⟨a1,a2,a3⟩:=hq
 obtain ⟨b1,b2,b3⟩:=hr
 have dq:=q.den_pos
 have dr:=r.den_pos
 have g0:0<Nat.gcd q.num.natAbs r.den:=Nat.gcd_pos_of_pos_right _ dr
 have h0:0<Nat.gcd r.num.natAbs q.den:=Nat.gcd_pos_of_pos_right _ dq
 rw [yfU hq'.i1,wuN (n:=r.den) (by omega),ynf,yfU hr'.i1,wuN (n:=q.den) (by omega),ynf]
 simp only [yfU hq'.i1,yfU hr'.i1]
 have q1:q.num.natAbs / Nat.gcd q.num.natAbs r.den≤q.num.natAbs:=Nat.div_le_self _ _
 have q2:r.num.natAbs / Nat.gcd r.num.natAbs q.den≤r.num.natAbs:=Nat.div_le_self _ _
 have q3:q.den / Nat.gcd r.num.natAbs q.den≤q.den:=Nat.div_le_self _ _
 have q4:r.den / Nat.gcd q.num.natAbs r.den≤r.den:=Nat.div_le_self _ _
 have e1:numM q.num r.num q.den r.den=q.num.natAbs / Nat.gcd q.num.natAbs r.den*(r.num.natAbs / Nat.gcd r.num.natAbs q.den):=rfl
 have e2:denM q.num r.num q.den r.den=q.den / Nat.gcd r.num.natAbs q.den*(r.den / Nat.gcd q.num.natAbs r.den):=rfl
 have z1:q.num=0→numM q.num r.num q.den r.den=0:=fun h=>by rw [e1,h,Int.natAbs_zero,Nat.zero_div,Nat.zero_mul]
 have z2:r.num=0→numM q.num r.num q.den r.den=0:=fun h=>by rw [e1,h,Int.natAbs_zero,Nat.zero_div,Nat.mul_zero]
 have n1:∀ P:Prop,asr (!(decide (((Nat.gcd q.num.natAbs r.den:Nat):Int)=(0:Int)))) P=P:=fun P=>ymK (by omega)
 have n2:∀ P:Prop,asr (!(decide (((Nat.gcd r.num.natAbs q.den:Nat):Int)=(0:Int)))) P=P:=fun P=>ymK (by omega)
 have w1:=wuN (n:=q.num.natAbs / Nat.gcd q.num.natAbs r.den) (by omega)
 have w2:=wuN (n:=r.num.natAbs / Nat.gcd r.num.natAbs q.den) (by omega)
 have w3:=wuN (n:=q.den / Nat.gcd r.num.natAbs q.den) (by omega)
 have w4:=wuN (n:=r.den / Nat.gcd q.num.natAbs r.den) (by omega)
 have t1:=ygi (a:=q.num.natAbs / Nat.gcd q.num.natAbs r.den) (b:=r.num.natAbs / Nat.gcd r.num.natAbs q.den) (by omega) (by omega)
 have t2:=ygi (a:=q.den / Nat.gcd r.num.natAbs q.den) (b:=r.den / Nat.gcd q.num.natAbs r.den) (by omega) (by omega)
 have m:=fun s=>yyO (s:=s) (X:=((numM q.num r.num q.den r.den:Nat):Int)) (Y:=((denM q.num r.num q.den r.den:Nat):Int)) (Int.natCast_nonneg _) (Int.natCast_nonneg _) K
 rw [← e1] at t1
 rw [← e2] at t2
 simp only [n1,n2,yuM,w1,w2,w3,w4,t1,t2,m]
 rw [← yyJ]
 have zs:∀ s s':Bool,numM q.num r.num q.den r.den=0→outS s (numM q.num r.num q.den r.den:Nat) (denM q.num r.num q.den r.den:Nat) K=outS s' (numM q.num r.num q.den r.den:Nat) (denM q.num r.num q.den r.den:Nat) K:=by
   intro s s' h
   rw [h]
   cases s <;> cases s' <;> rfl
 by_cases hs:(decide (q.num<0) != decide (r.num<0))=true
 · rw [hs,yac]
   by_cases n1:q.num=0
   · rw [yuJ n1,yaa];exact zs _ _ (z1 n1)
   · rw [yAT n1,yac]
     by_cases n2:r.num=0
     · exact zs _ _ (z2 n2)
     · rw [yAT n2]
 · have hs':(decide (q.num<0) != decide (r.num<0))=false:=by simpa using hs
   rw [hs',yaa]
theorem ymL {q r:Rat} (hq:small q) (hr:small r) (K:Bool→Prop):ycG q.num q.den r.num r.den K=K (decide (q<r)):=by
 unfold ycG ymh
 have hq':=hq;have hr':=hr
 obtain ⟨a1,a2,a3⟩:=hq
 obtain ⟨b1,b2,b3⟩:=hr
 have dq:=q.den_pos
 have dr:=r.den_pos
 have e:decide (q<r)=decide (q.num*r.den<r.num*q.den):=by rw [decide_eq_decide];exact Rat.lt_iff q r
 rw [e]
 by_cases hs:(decide (q.num<0) != decide (r.num<0))=true
 · rw [hs,yac]
   by_cases h1:q.num<0
   · have h2:¬r.num<0:=by simpa [h1] using hs
     have p1:q.num*r.den<0:=Int.mul_neg_of_neg_of_pos h1 (by omega)
     have p2:0≤r.num*q.den:=Int.mul_nonneg (by omega) (by omega)
     rw [decide_eq_true h1,decide_eq_true (by omega)]
   · have h2:r.num<0:=by simpa [h1] using hs
     have p1:r.num*q.den<0:=Int.mul_neg_of_neg_of_pos h2 (by omega)
     have p2:0≤q.num*r.den:=Int.mul_nonneg (by omega) (by omega)
     rw [decide_eq_false h1,decide_eq_false (by omega)]
 · have hs':(decide (q.num<0) != decide (r.num<0))=false:=by simpa using hs
   rw [hs',yaa,yfU hq'.i1,wuN (by omega),ygi (by omega) (by omega),yfU hr'.i1,wuN (by omega),ygi (by omega) (by omega),yqu (Int.natCast_nonneg _) (Int.natCast_nonneg _),yqu (Int.natCast_nonneg _) (Int.natCast_nonneg _),Int.natCast_mul,Int.natCast_mul]
   by_cases h1:q.num<0
   · have h2:r.num<0:=by simpa [h1] using hs'
     rw [decide_eq_true h1,yac,show ((q.num.natAbs:Nat):Int)=-q.num by omega,show ((r.num.natAbs:Nat):Int)=-r.num by omega,Int.neg_mul,Int.neg_mul]
     congr 1
     rw [decide_eq_decide];omega
   · have h2:¬r.num<0:=by simpa [h1] using hs'
     rw [decide_eq_false h1,yaa,show ((q.num.natAbs:Nat):Int)=q.num by omega,show ((r.num.natAbs:Nat):Int)=r.num by omega]
theorem yyQ (n:Int) (K:Int→Int→Prop):yef n K=K (n:Rat).num (n:Rat).den:=rfl
end Go.Pf.Vc
namespace Go.Pf.Vc
open Go Go.Pf
theorem cbT {c:Prop} [Decidable c] {P Q:Prop} (h:c):cbr (decide c) P Q=P:=by rw [decide_eq_true h,yac]
theorem cbF {c:Prop} [Decidable c] {P Q:Prop} (h:¬c):cbr (decide c) P Q=Q:=by rw [decide_eq_false h,yaa]
theorem cnT {a b:Int} {P Q:Prop} (h:a≠b):cbr (a != b) P Q=P:=by rw [yAT h,yac]
theorem cnF {a b:Int} {P Q:Prop} (h:a=b):cbr (a != b) P Q=Q:=by rw [yuJ h,yaa]
theorem ceT {a b:Int} {P Q:Prop} (h:a=b):cbr (a == b) P Q=P:=by rw [yGl h,yac]
theorem ceF {a b:Int} {P Q:Prop} (h:a≠b):cbr (a == b) P Q=Q:=by rw [yuK h,yaa]
theorem asT {c:Prop} [Decidable c] {P:Prop} (h:c):asr (decide c) P=P:=by rw [decide_eq_true h,yan]
theorem asC {l:List Int} {i:Nat} {P:Prop} (h:i<l.length):asr (conf (.one (.i .i64)) (List.getD (ints l) i .nils)) P=P:=by rw [ygh h,yan]
theorem wib {n:Int} (h1:-9223372036854775808≤n) (h2:n≤9223372036854775807):IntKind.i64.wrap n=n:=wi64 ⟨h1,h2⟩
theorem yjz (i:Nat):(i:Int)+1=((i+1:Nat):Int):=by omega
theorem yfq {x:Int} (h:-1000000000000000000≤x∧x≤1000000000000000000):small (x:Rat):=by
 unfold small
 rw [Rat.num_intCast,Rat.den_intCast]
 omega
def allD (dens:List Int):Prop:=∀ d∈dens,0≤d∧d≤12
def yuN (dens:List Int):Prop:=∃ d∈dens,0<d
instance (l:List Int):Decidable (allD l):=by unfold allD;infer_instance
instance (l:List Int):Decidable (yuN l):=by unfold yuN;infer_instance
def VC (len:Int) (cuts dens:List Int):Prop :=
 1≤len∧len≤1000∧2≤cuts.length∧cuts.length≤40∧dens.length+1=cuts.length∧cuts.getD 0 0=0∧cuts.getD (cuts.length-1) 0=len∧incr cuts 0∧allD dens∧yuN dens
theorem yGq (l:List Int):incr l 0↔∀ j,j<l.length→j+1<l.length→l.getD j 0<l.getD (j+1) 0:=⟨fun h j _ h2=>h j (by omega) h2,fun h j _ h2=>h j (by omega) h2⟩
instance (l:List Int):Decidable (incr l 0):=decidable_of_iff _ (yGq l).symm
instance (len:Int) (cuts dens:List Int):Decidable (VC len cuts dens):=by unfold VC;infer_instance
def ckC (len:Int) (cuts dens:List Int):Int:=if len>1000∨cuts.length>40 then 4 else if VC len cuts dens then 0 else 8
theorem yDP (l:List Int) (x:Int):(l.foldl mnf x<0)↔¬(∀ d∈x::l,0≤d):=by
 induction l generalizing x with
 | nil=>simp
 | cons y t ih =>
   rw [List.foldl_cons,ih]
   unfold mnf
   simp only [List.forall_mem_cons]
   split
   · constructor
     · intro h h2;exact h ⟨h2.2.1,h2.2.2⟩
     · intro h h2;exact h ⟨by omega,h2.1,h2.2⟩
   · constructor
     · intro h h2;exact h ⟨h2.1,h2.2.2⟩
     · intro h h2;exact h ⟨h2.1,by omega,h2.2⟩
theorem yqv (l:List Int) (x k:Int):(l.foldl mxf x>k)↔¬(∀ d∈x::l,d≤k):=by
 induction l generalizing x with
 | nil=>simp
 | cons y t ih =>
   rw [List.foldl_cons,ih]
   unfold mxf
   simp only [List.forall_mem_cons]
   split
   · constructor
     · intro h h2;exact h ⟨h2.2.1,h2.2.2⟩
     · intro h h2;exact h ⟨by omega,h2.1,h2.2⟩
   · constructor
     · intro h h2;exact h ⟨h2.1,h2.2.2⟩
     · intro h h2;exact h ⟨h2.1,by omega,h2.2⟩
theorem yjA {len:Int} {cuts dens:List Int} (h1:cuts.length<4611686018427387904) (h2:dens.length<4611686018427387904) (K:Int→Prop) :
   yas len (ints cuts) (ints dens) K=K (ckC len cuts dens):=by
 refine yuo _ _ _ _ (fun K k=>?_) K
 unfold yas yiz
 simp only [yaD]
 have bad:¬(len>1000∨cuts.length>40)→¬VC len cuts dens→K 8:=fun h h2=>by
   rw [ckC,if_neg h,if_neg h2] at k;exact k
 by_cases a1:len>1000
 · rw [cbT a1];rw [ckC,if_pos (.inl a1)] at k;exact k
 rw [cbF a1]
 by_cases a2:cuts.length>40
 · rw [cbT (by omega)];rw [ckC,if_pos (.inr a2)] at k;exact k
 have a12:¬(len>1000∨cuts.length>40):=by omega
 rw [cbF (by omega)]
 by_cases a3:len<1
 · rw [cbT a3];exact bad a12 (fun h=>by have:=h.1;omega)
 rw [cbF a3]
 by_cases a4:cuts.length<2
 · rw [cbT (by omega)];exact bad a12 (fun h=>by have:=h.2.2.1;omega)
 rw [cbF (by omega),wib (n:=(cuts.length:Int)-1) (by omega) (by omega)]
 by_cases a5:dens.length+1=cuts.length
 case neg=>rw [cnT (by omega)];exact bad a12 (fun h=>a5 h.2.2.2.2.1)
 rw [cnF (by omega),asT (by omega),asC (by omega),yba (by omega)]
 by_cases a6:cuts.getD 0 0=0
 case neg=>rw [cnT a6];exact bad a12 (fun h=>a6 h.2.2.2.2.2.1)
 rw [cnF a6,asT (by omega),asT (by omega),asC (by omega),yba (by omega)]
 have en:((cuts.length:Int)-1).toNat=cuts.length-1:=by omega
 rw [en]
 by_cases a7:cuts.getD (cuts.length-1) 0=len
 case neg=>rw [cnT a7];exact bad a12 (fun h=>a7 h.2.2.2.2.2.2.1)
 rw [cnF a7]
 refine ⟨cuts.length+1,?_⟩
 refine yCU (by omega) _ _ _ _ (cuts.length-1) 0 _ (by omega) (by omega) (fun hi=>?_) (fun hi=>bad a12 (fun h=>hi h.2.2.2.2.2.2.2.1))
 obtain ⟨x,t,e⟩:∃ x t,dens=x::t:=by
   cases dens with
   | nil=>exfalso;have:([]:List Int).length=0:=rfl;omega
   | cons x t=>exact ⟨x,t,rfl⟩
 refine yI3 (by omega) e ?_
 by_cases b1:t.foldl mnf x<0
 · rw [cbT b1]
   rw [yDP] at b1
   exact bad a12 (fun h=>b1 fun d hd=>(h.2.2.2.2.2.2.2.2.1 d (by rw [e];exact hd)).1)
 rw [cbF b1]
 refine yGh (by omega) e ?_
 by_cases b2:t.foldl mxf x>12
 · rw [cbT b2]
   rw [yqv] at b2
   exact bad a12 (fun h=>b2 fun d hd=>(h.2.2.2.2.2.2.2.2.1 d (by rw [e];exact hd)).2)
 rw [cbF b2]
 refine yGh (by omega) e ?_
 have c1:∀ d∈dens,0≤d:=by rw [yDP,Classical.not_not,← e] at b1;exact b1
 have c2:∀ d∈dens,d≤12:=by rw [yqv,Classical.not_not,← e] at b2;exact b2
 by_cases b3:t.foldl mxf x=0
 · rw [ceT b3]
   refine bad a12 (fun h=>?_)
   obtain ⟨d,hd,h0⟩:=h.2.2.2.2.2.2.2.2.2
   have:¬(t.foldl mxf x>0):=by omega
   rw [yqv,Classical.not_not,← e] at this
   have:=this d hd
   omega
 · rw [ceF b3]
   have b4:t.foldl mxf x>0:=by
     refine Int.not_le.1 fun hle=>b3 ?_
     have:t.foldl mxf x>-1:=by
       rw [yqv]
       intro h
       have h1:=h x (List.mem_cons_self ..)
       have h2:=c1 x (by rw [e];exact List.mem_cons_self ..)
       omega
     omega
   rw [yqv,← e] at b4
   have b5:yuN dens:=by
     refine Classical.byContradiction fun hn=>b4 fun d hd=>?_
     exact Int.not_lt.1 fun hlt=>hn ⟨d,hd,hlt⟩
   rw [ckC,if_neg a12,if_pos ⟨by omega,by omega,by omega,by omega,a5,a6,a7,hi,fun d hd=>⟨c1 d hd,c2 d hd⟩,b5⟩] at k
   exact k
theorem yfV (n:Int) (K:Int→Int→Prop):ybe n K=K (n:Rat).num (n:Rat).den:=rfl
theorem yel {q r:Rat} (hq:small q) (hr:small r) (K:Bool→Prop):ybo q.num q.den r.num r.den K=K (decide (q<r)):=by
 unfold ybo ykt
 rw [yDO hq hr]
 congr 1
 rw [decide_eq_decide,cmpQ]
 by_cases h:q<r
 · simp [h]
 · by_cases h2:r<q <;> simp [h,h2]
def PT (len:Int) (n d:Int):Prop:=RV n d∧0≤n∧n≤len*d
instance (len n d:Int):Decidable (PT len n d):=by unfold PT;infer_instance
theorem yI6 {len n d:Int} (h:PT len n d):∃ q:Rat,small q∧q.num=n∧(q.den:Int)=d∧0≤q∧q≤(len:Rat):=by
 obtain ⟨h1,h2,h3⟩:=h
 obtain ⟨q,e1,e2,e3⟩:=yyI h1
 refine ⟨q,e1,e2,e3,?_,?_⟩
 · rw [← Rat.num_nonneg,e2];exact h2
 · rw [Rat.le_iff,e2,e3,Rat.num_intCast,Rat.den_intCast];simpa using h3
theorem yuO (x:Int) (q:Rat):((x:Rat)<q)↔x*(q.den:Int)<q.num:=by
 rw [Rat.lt_iff,Rat.num_intCast,Rat.den_intCast];simp
theorem yuP {len:Int} (hl:-1000000000000000000≤len∧len≤1000000000000000000) {n d:Int} (hn:I64 n) (hd:I64 d) (a b:List PV) (K:Bool→Prop) :
   ybg len a b n d K=K (decide (PT len n d)):=by
 unfold ybg yiE
 rw [ywA hn hd]
 by_cases h:RV n d
 · obtain ⟨q,e1,e2,e3⟩:=yyI h
   rw [chk,if_pos h,ceT rfl]
   by_cases h0:n≥0
   · rw [cbT h0,yfV,← e2,← e3,yel (yfq hl) e1]
     congr 1
     have:((len:Rat)<q)↔len*(q.den:Int)<q.num:=yuO _ _
     by_cases h3:(len:Rat)<q
     · have h4:=this.1 h3
       rw [decide_eq_true h3,decide_eq_false];rfl
       intro hp;have:=hp.2.2;omega
     · have h4:¬_:=fun x=>h3 (this.2 x)
       rw [decide_eq_false h3,decide_eq_true];rfl
       exact ⟨e1.rv,by omega,by omega⟩
   · rw [cbF h0,decide_eq_false]
     intro hp;have:=hp.2.1;omega
 · rw [chk,if_neg h,ceF (by decide),decide_eq_false]
   intro hp;exact h hp.1
end Go.Pf.Vc
namespace Go.Pf.Vc
open Go Go.Pf
section
variable {len:Int} {cuts dens:List Int}
theorem VC.step (h:VC len cuts dens) {i:Nat} (hi:i+1<cuts.length):cuts.getD i 0<cuts.getD (i+1) 0:=h.2.2.2.2.2.2.2.1 i (Nat.zero_le _) hi
theorem VC.mono (h:VC len cuts dens) {i:Nat}:∀ {j:Nat},i≤j→j<cuts.length→cuts.getD i 0≤cuts.getD j 0
 | 0,hij,_=>by
   have:i=0:=by omega
   subst this;exact Int.le_refl _
 | j+1,hij,hj=>by
   by_cases e:i=j+1
   · subst e;exact Int.le_refl _
   · have h1:=h.mono (i:=i) (j:=j) (by omega) (by omega)
     have h2:=h.step (i:=j) hj
     omega
theorem VC.lo (h:VC len cuts dens) {i:Nat} (hi:i<cuts.length):0≤cuts.getD i 0:=by
 have:=h.mono (Nat.zero_le i) hi
 rw [h.2.2.2.2.2.1] at this;exact this
theorem VC.hi (h:VC len cuts dens) {i:Nat} (hi:i<cuts.length):cuts.getD i 0≤len:=by
 have:=h.mono (i:=i) (j:=cuts.length-1) (by omega) (by omega)
 rw [h.2.2.2.2.2.2.1] at this;exact this
theorem VC.den (h:VC len cuts dens) {i:Nat} (hi:i<dens.length):0≤dens.getD i 0∧dens.getD i 0≤12:=by
 rw [List.getD_eq_getElem?_getD,List.getElem?_eq_getElem hi]
 exact h.2.2.2.2.2.2.2.2.1 _ (List.getElem_mem hi)
theorem VC.l1 (h:VC len cuts dens):dens.length+1=cuts.length:=h.2.2.2.2.1
theorem VC.l2 (h:VC len cuts dens):cuts.length≤40:=h.2.2.2.1
theorem VC.len0 (h:VC len cuts dens):1≤len∧len≤1000:=⟨h.1,h.2.1⟩
theorem VC.sc (h:VC len cuts dens) {i:Nat} (hi:i<cuts.length):small ((cuts.getD i 0:Int):Rat):=yfq (by have:=h.lo hi;have:=h.hi hi;have:=h.len0;omega)
theorem VC.sd (h:VC len cuts dens) {i:Nat} (hi:i<dens.length):small ((dens.getD i 0:Int):Rat):=yfq (by have:=h.den hi;omega)
theorem ymM (h:ckC len cuts dens=0):VC len cuts dens:=by
 unfold ckC at h
 split at h
 · omega
 · split at h
   · assumption
   · omega
theorem VC.ck (h:VC len cuts dens):ckC len cuts dens=0:=by
 rw [ckC,if_neg (by have:=h.l2;have:=h.len0;omega),if_pos h]
def totS (cuts dens:List Int):Nat→Nat→Int→Int
 | 0,_,s=>s
 | r+1,i,s=>totS cuts dens r (i+1) (s+dens.getD i 0*(cuts.getD (i+1) 0-cuts.getD i 0))
def totC (cuts dens:List Int):Int:=totS cuts dens dens.length 0 0
theorem yAV {d x:Int} (h:0≤d∧d≤12) (hx:0≤x):0≤d*x∧d*x≤12*x:=⟨Int.mul_nonneg h.1 hx,Int.mul_le_mul_of_nonneg_right h.2 hx⟩
theorem yuQ (h:VC len cuts dens):∀ (r i:Nat) (s:Int),i+r=dens.length→0≤s→s≤12*cuts.getD i 0→0≤totS cuts dens r i s∧totS cuts dens r i s≤12*len
 | 0,i,s,hi,h0,h1=>by
   have:=h.l1
   have:=h.hi (i:=i) (by omega)
   unfold totS
   omega
 | r+1,i,s,hi,h0,h1=>by
   unfold totS
   have l1:=h.l1
   have h2:=h.step (i:=i) (by omega)
   have h3:=yAV (h.den (i:=i) (by omega)) (x:=cuts.getD (i+1) 0-cuts.getD i 0) (by omega)
   exact yuQ h r (i+1) _ (by omega) (by omega) (by omega)
theorem yk1 (h:VC len cuts dens):0≤totC cuts dens∧totC cuts dens≤12000:=by
 have l1:=h.l1
 have h0:=h.lo (i:=0) (by omega)
 have:=yuQ h dens.length 0 0 (by omega) (by omega) (by omega)
 have h2:=h.len0
 unfold totC;omega
theorem yuR (h:VC len cuts dens) (W:Int→List PV→List PV→(Int→Prop)→Prop) (x0:Int→List PV→List PV→Int→List PV→Int→Int→Bool→Prop) :
   ∀ (r i n:Nat) (s:Int),i+r=dens.length→r<n→0≤s→s≤12*cuts.getD i 0 →
     ycv W x0 n len (ints cuts) (ints dens) s (ints dens) dens.length i=x0 len (ints cuts) (ints dens) (totS cuts dens r i s) (ints dens) dens.length dens.length false
 | 0,i,n+1,s,hi,hn,h0,h1=>by
   unfold ycv totS
   rw [cbF (by omega)]
   have:(i:Int)=dens.length:=by omega
   rw [this]
 | r+1,i,n+1,s,hi,hn,h0,h1=>by
   unfold ycv
   have l1:=h.l1;have l2:=h.l2
   have h2:=h.step (i:=i) (by omega)
   have h3:=yAV (h.den (i:=i) (by omega)) (x:=cuts.getD (i+1) 0-cuts.getD i 0) (by omega)
   have a1:=h.lo (i:=i) (by omega)
   have a2:=h.hi (i:=i+1) (by omega)
   have a3:=h.len0
   have e1:=wib (n:=(i:Int)+1) (by omega) (by omega)
   have e2:=wib (n:=cuts.getD (i+1) 0-cuts.getD i 0) (by omega) (by omega)
   have e3:=wib (n:=dens.getD i 0*(cuts.getD (i+1) 0-cuts.getD i 0)) (by omega) (by omega)
   have e4:=wib (n:=s+dens.getD i 0*(cuts.getD (i+1) 0-cuts.getD i 0)) (by omega) (by omega)
   rw [cbT (by omega),yaD,yaD,e1,yjz,Int.toNat_natCast,Int.toNat_natCast,asT (by omega),asT (by omega),asC (by omega),asT (by omega),asT (by omega),asC (by omega),asT (by omega),asT (by omega),asC (by omega),yba (by omega),yba (by omega),yba (by omega),e2,e3,e4]
   exact yuR h W x0 r (i+1) n _ (by omega) (by omega) (by omega) (by omega)
theorem yEV (h1:cuts.length<4611686018427387904) (h2:dens.length<4611686018427387904) (K:Int→Int→Prop) :
   ydK len (ints cuts) (ints dens) K=if ckC len cuts dens=0 then K (totC cuts dens) 0 else K 0 (ckC len cuts dens):=by
 by_cases h:ckC len cuts dens=0
 · rw [if_pos h]
   refine yup _ _ _ _ _ (fun K k=>?_) K
   unfold ydK ygu
   have hv:=ymM h
   rw [yjA h1 h2,h,cnF rfl]
   refine ⟨dens.length+1,?_⟩
   have l1:=hv.l1
   have a1:=hv.lo (i:=0) (by omega)
   rw [yaD]
   have:=yuR hv yas (fun b c d a e f g j=>(K a (0:Int))) dens.length 0 (dens.length+1) 0 (by omega) (by omega) (by omega) (by omega)
   rw [show ((0:Nat):Int)=0 from rfl] at this
   rw [this]
   exact k
 · rw [if_neg h]
   unfold ydK ygu
   rw [yjA h1 h2,cnT h]
def exK (e:Except Int Rat) (K:Int→Int→Int→Prop):Prop:=match e with | .ok q=>K q.num q.den 0 | .error c=>K 0 0 c
def fit {α:Type} (q:Rat) (k:Rat→Except Int α):Except Int α:=if small q then k q else .error 16
def valS (cuts dens:List Int) (b:Rat):Nat→Nat→Rat→Rat→Except Int Rat
 | 0,_,_,sum=>.ok sum
 | r+1,i,p,sum =>
   let en:Rat:=if b<(cuts.getD (i+1) 0:Int) then b else (cuts.getD (i+1) 0:Int)
   if dens.getD i 0=0∨¬p<en then valS cuts dens b r (i+1) (if p<en then en else p) sum
   else fit (en-p) fun l=>fit (l*(dens.getD i 0:Int)) fun w=>fit (sum+w) fun s=>valS cuts dens b r (i+1) en s
def valC (cuts dens:List Int) (a b:Rat):Except Int Rat:=valS cuts dens b dens.length 0 a 0
theorem ydb {q:Rat} {K:Int→Int→Int→Prop}:fitK q K=if small q then K q.num q.den 0 else K 0 0 16:=rfl
theorem yuS (h:VC len cuts dens) {b:Rat} (hb:small b) (an ad:Int) (W1:Int→List PV→List PV→(Int→Prop)→Prop) (W2:Int→List PV→List PV→Int→Int→(Bool→Prop)→Prop) (K:Int→Int→Int→Prop) :
   ∀ (r i n:Nat) (p sum:Rat),i+r=dens.length→r<n→small p→small sum →
     yay W1 W2 ybo ybe yaZ yaV yaU (fun a d e=>(K a d e)) (fun _ _ _ _ _ _ _ f g _ _ _ _ _ _=>(K f g (0:Int)))
       n len (ints cuts) (ints dens) b.num b.den an ad sum.num sum.den p.num p.den (ints dens) dens.length i=exK (valS cuts dens b r i p sum) K
 | 0,i,n+1,p,sum,hi,hn,hp,hs=>by
   unfold yay valS
   rw [cbF (by omega)];rfl
 | r+1,i,n+1,p,sum,hi,hn,hp,hs=>by
   unfold yay
   have l1:=h.l1;have l2:=h.l2
   have sc:=h.sc (i:=i+1) (by omega)
   have sd:=h.sd (i:=i) (by omega)
   have e1:=wib (n:=(i:Int)+1) (by omega) (by omega)
   rw [cbT (by omega),yaD,yaD,e1,yjz,Int.toNat_natCast,Int.toNat_natCast,asT (by omega),asT (by omega),asC (by omega),asT (by omega),asT (by omega),asC (by omega),yba (by omega),yba (by omega),yfV,yel hb sc]
   have ih:=fun p sum hp hs=>yuS h hb an ad W1 W2 K r (i+1) n p sum (by omega) (by omega) hp hs
   unfold valS
   by_cases hbc:b<((cuts.getD (i+1) 0:Int):Rat)
   · rw [cbT hbc]
     simp only [if_pos hbc]
     by_cases hd:dens.getD i 0=0
     · rw [ceT hd,if_pos (.inl hd),yel hp hb]
       by_cases hpb:p<b
       · rw [cbT hpb,if_pos hpb];exact ih b sum hb hs
       · rw [cbF hpb,if_neg hpb];exact ih p sum hp hs
     · rw [ceF hd,yel hp hb]
       by_cases hpb:p<b
       · have hc:¬(dens.getD i 0=0∨¬p<b):=by simp [hpb];exact hd
         rw [if_neg hc,decide_eq_true hpb,Bool.not_true,yaa,yta hb hp,ydb]
         by_cases s1:small (b-p)
         · rw [if_pos s1,cnF rfl,yfV,yyK s1 sd,ydb,fit,if_pos s1]
           by_cases s2:small ((b-p)*(dens.getD i 0:Int))
           · rw [if_pos s2,cnF rfl,yyM hs s2,ydb,fit,if_pos s2]
             by_cases s3:small (sum+(b-p)*(dens.getD i 0:Int))
             · rw [if_pos s3,cnF rfl,fit,if_pos s3];exact ih b _ hb s3
             · rw [if_neg s3,cnT (by decide),fit,if_neg s3];rfl
           · rw [if_neg s2,cnT (by decide),fit,if_neg s2];rfl
         · rw [if_neg s1,cnT (by decide),fit,if_neg s1];rfl
       · rw [if_pos (.inr hpb),decide_eq_false hpb,Bool.not_false,yac,yel hp hb,cbF hpb,if_neg hpb];exact ih p sum hp hs
   · rw [cbF hbc]
     simp only [if_neg hbc]
     obtain ⟨c,hc⟩:∃ c:Rat,c=((cuts.getD (i+1) 0:Int):Rat):=⟨_,rfl⟩
     rw [← hc] at sc ⊢
     by_cases hd:dens.getD i 0=0
     · rw [ceT hd,if_pos (.inl hd),yel hp sc]
       by_cases hpb:p<c
       · rw [cbT hpb,if_pos hpb];exact ih c sum sc hs
       · rw [cbF hpb,if_neg hpb];exact ih p sum hp hs
     · rw [ceF hd,yel hp sc]
       by_cases hpb:p<c
       · have hcc:¬(dens.getD i 0=0∨¬p<c):=by simp [hpb];exact hd
         rw [if_neg hcc,decide_eq_true hpb,Bool.not_true,yaa,yta sc hp,ydb]
         by_cases s1:small (c-p)
         · rw [if_pos s1,cnF rfl,yfV,yyK s1 sd,ydb,fit,if_pos s1]
           by_cases s2:small ((c-p)*(dens.getD i 0:Int))
           · rw [if_pos s2,cnF rfl,yyM hs s2,ydb,fit,if_pos s2]
             by_cases s3:small (sum+(c-p)*(dens.getD i 0:Int))
             · rw [if_pos s3,cnF rfl,fit,if_pos s3];exact ih c _ sc s3
             · rw [if_neg s3,cnT (by decide),fit,if_neg s3];rfl
           · rw [if_neg s2,cnT (by decide),fit,if_neg s2];rfl
         · rw [if_neg s1,cnT (by decide),fit,if_neg s1];rfl
       · rw [if_pos (.inr hpb),decide_eq_false hpb,Bool.not_false,yac,yel hp sc,cbF hpb,if_neg hpb];exact ih p sum hp hs
end
end Go.Pf.Vc
namespace Go.Pf.Vc
open Go Go.Pf
def rt (n d:Int):Rat:=mkRat n d.toNat
theorem ygz (q:Rat):rt q.num q.den=q:=by unfold rt;rw [Int.toNat_natCast,Rat.mkRat_self]
theorem yJy {n d:Int} (h:RV n d):small (rt n d)∧(rt n d).num=n∧((rt n d).den:Int)=d:=by
 obtain ⟨q,h1,h2,h3⟩:=yyI h
 subst h2 h3
 rw [ygz];exact ⟨h1,rfl,rfl⟩
theorem PT.pt {len n d:Int} (h:PT len n d):small (rt n d)∧(rt n d).num=n∧((rt n d).den:Int)=d∧0≤rt n d∧rt n d≤(len:Rat):=by
 obtain ⟨q,h1,h2,h3,h4,h5⟩:=yI6 h
 subst h2 h3
 rw [ygz];exact ⟨h1,rfl,rfl,h4,h5⟩
theorem yAW {len:Int} {q:Rat} (h:small q) (h0:0≤q) (h1:q≤(len:Rat)):PT len q.num q.den:=by
 refine ⟨h.rv,Rat.num_nonneg.2 h0,?_⟩
 rw [Rat.le_iff,Rat.num_intCast,Rat.den_intCast] at h1
 simpa using h1
section
variable {len:Int} {cuts dens:List Int}
def valR (len:Int) (cuts dens:List Int) (an ad bn bd:Int):Except Int Rat :=
 if ckC len cuts dens=0 then (if PT len an ad∧PT len bn bd∧¬rt bn bd<rt an ad then valC cuts dens (rt an ad) (rt bn bd) else .error 2) else .error (ckC len cuts dens)
theorem yCW {w:(Int→Int→Int→Prop)→Prop} {e:Except Int Rat} (det:∀ r0 r1 r2,(∀ K:Int→Int→Int→Prop,K r0 r1 r2→w K)→∀ K,w K=K r0 r1 r2) (h:∀ K,exK e K→w K) (K:Int→Int→Int→Prop):w K=exK e K:=by
 cases e with
 | ok q=>exact det _ _ _ h K
 | error c=>exact det _ _ _ h K
theorem yEW (h1:cuts.length<4611686018427387904) (h2:dens.length<4611686018427387904) {an ad bn bd:Int} (ha:I64 an) (ha':I64 ad) (hb:I64 bn) (hb':I64 bd) (K:Int→Int→Int→Prop) :
   yew len (ints cuts) (ints dens) an ad bn bd K=exK (valR len cuts dens an ad bn bd) K:=by
 refine yCW (fun r0 r1 r2 h K=>yuq _ _ _ _ _ _ _ r0 r1 r2 h K) (fun K k=>?_) K
 unfold yew yiG
 rw [yjA h1 h2]
 unfold valR at k
 by_cases h:ckC len cuts dens=0
 case neg=>rw [cnT h];rw [if_neg h] at k;exact k
 have hv:=ymM h
 have hl:=hv.len0
 rw [if_pos h] at k
 rw [cnF h,yuP (by omega) ha ha']
 by_cases p1:PT len an ad
 case neg=>rw [decide_eq_false p1,Bool.not_false,yac];rw [if_neg (fun x=>p1 x.1)] at k;exact k
 rw [decide_eq_true p1,Bool.not_true,yaa,yuP (by omega) hb hb']
 by_cases p2:PT len bn bd
 case neg=>rw [decide_eq_false p2,Bool.not_false,yac];rw [if_neg (fun x=>p2 x.2.1)] at k;exact k
 rw [decide_eq_true p2,Bool.not_true,yaa]
 obtain ⟨s1,e1,e2,_,_⟩:=p1.pt
 obtain ⟨s2,f1,f2,_,_⟩:=p2.pt
 have hless:=yel s2 s1
 rw [e1,e2,f1,f2] at hless
 rw [hless]
 by_cases p3:rt bn bd<rt an ad
 · rw [cbT p3];rw [if_neg (fun x=>x.2.2 p3)] at k;exact k
 rw [cbF p3]
 rw [if_pos ⟨p1,p2,p3⟩] at k
 rw [yfV,yaD]
 refine ⟨dens.length+1,?_⟩
 have:=yuS hv s2 0 0 yas ybg K dens.length 0 (dens.length+1) (rt an ad) 0 (by omega) (by omega) s1 (by decide)
 rw [e1,e2,f1,f2] at this
 exact this.mpr k
def mrkS (cuts dens:List Int):Nat→Nat→Rat→Rat→Except Int Rat
 | 0,_,_,_=>.error 6
 | r+1,i,p,v =>
   if ¬p<(cuts.getD (i+1) 0:Int) then mrkS cuts dens r (i+1) p v
   else if dens.getD i 0=0 then mrkS cuts dens r (i+1) (cuts.getD (i+1) 0:Int) v
   else fit ((cuts.getD (i+1) 0:Int)-p) fun l=>fit (l*(dens.getD i 0:Int)) fun w =>
     if w<v then fit (v-w) fun v'=>mrkS cuts dens r (i+1) (cuts.getD (i+1) 0:Int) v'
     else fit (v / (dens.getD i 0:Int)) fun s=>fit (p+s) .ok
def mrkC (cuts dens:List Int) (a v:Rat):Except Int Rat:=if v=0 then .ok a else mrkS cuts dens dens.length 0 a v
def mrkR (len:Int) (cuts dens:List Int) (an ad vn vd:Int):Except Int Rat :=
 if ckC len cuts dens=0 then (if PT len an ad∧RV vn vd∧0≤vn then mrkC cuts dens (rt an ad) (rt vn vd) else .error 2) else .error (ckC len cuts dens)
theorem ywD (h:VC len cuts dens) (W1:Int→List PV→List PV→(Int→Prop)→Prop) (W2:Int→List PV→List PV→Int→Int→(Bool→Prop)→Prop) (W3:Int→Int→(Int→Prop)→Prop) (K:Int→Int→Int→Prop) :
   ∀ (r i n:Nat) (p v:Rat) (o1 o2:Int),i+r=dens.length→r<n→small p→small v →
     yaK W1 W2 W3 ybe ybo yaZ yaV ybK yaU
       (fun _ _ b d f a=>(cbr (a !=(0:Int)) (cbr (a !=(0:Int)) (K (0:Int) (0:Int) a) (K b d (0:Int))) (cbr (f !=(0:Int)) (K (0:Int) (0:Int) f) (K b d (0:Int)))))
       (fun _ _ j k g _ _ _ _ _ _ _ _ _=>(cbr (g !=(0:Int)) (K (0:Int) (0:Int) g) (K j k (0:Int))))
       n v.num v.den o1 o2 6 len (ints cuts) (ints dens) p.num p.den (ints dens) dens.length i=exK (mrkS cuts dens r i p v) K
 | 0,i,n+1,p,v,o1,o2,hi,hn,hp,hs=>by
   unfold yaK mrkS
   rw [cbF (by omega)];rfl
 | r+1,i,n+1,p,v,o1,o2,hi,hn,hp,hs=>by
   unfold yaK
   have l1:=h.l1;have l2:=h.l2
   have sc:=h.sc (i:=i+1) (by omega)
   have sd:=h.sd (i:=i) (by omega)
   have hd0:=h.den (i:=i) (by omega)
   have e1:=wib (n:=(i:Int)+1) (by omega) (by omega)
   rw [cbT (by omega),yaD,yaD,e1,yjz,Int.toNat_natCast,Int.toNat_natCast,asT (by omega),asT (by omega),asC (by omega),asT (by omega),asT (by omega),asC (by omega),yba (by omega),yba (by omega),yfV,yel hp sc]
   have ih:=fun p v o1 o2 hp hs=>ywD h W1 W2 W3 K r (i+1) n p v o1 o2 (by omega) (by omega) hp hs
   unfold mrkS
   obtain ⟨c,hc⟩:∃ c:Rat,c=((cuts.getD (i+1) 0:Int):Rat):=⟨_,rfl⟩
   rw [← hc] at sc ⊢
   by_cases hpc:p<c
   case neg=>rw [decide_eq_false hpc,Bool.not_false,yac,if_pos hpc];exact ih p v o1 o2 hp hs
   rw [decide_eq_true hpc,Bool.not_true,yaa,if_neg (fun x=>x hpc),yfV]
   by_cases hd:dens.getD i 0=0
   · rw [cbF (by omega),ceT hd,if_pos hd];exact ih c v o1 o2 sc hs
   rw [cbT (by omega),if_neg hd,yta sc hp,ydb]
   by_cases s1:small (c-p)
   case neg=>rw [if_neg s1,cnT (by decide),cnT (by decide),cnT (by decide),fit,if_neg s1];rfl
   rw [if_pos s1,cnF rfl,yfV,yyK s1 sd,ydb,fit,if_pos s1]
   by_cases s2:small ((c-p)*(dens.getD i 0:Int))
   case neg=>rw [if_neg s2,cnT (by decide),cnT (by decide),cnT (by decide),fit,if_neg s2];rfl
   rw [if_pos s2,cnF rfl,ceF hd,yel s2 hs,fit,if_pos s2]
   by_cases hw:(c-p)*(dens.getD i 0:Int)<v
   · rw [cbT hw,if_pos hw,yta hs s2,ydb,fit]
     by_cases s3:small (v-(c-p)*(dens.getD i 0:Int))
     · rw [if_pos s3,if_pos s3,cnF rfl,cnF rfl];exact ih c _ o1 o2 sc s3
     · rw [if_neg s3,if_neg s3,cnT (by decide),cnT (by decide),cnF rfl,cnT (by decide)];rfl
   · have hdn:((dens.getD i 0:Int):Rat)≠0:=fun e=>hd (Rat.intCast_eq_zero_iff.1 e)
     rw [cbF hw,if_neg hw,yfV,yHF hs sd hdn,ydb,fit]
     by_cases s3:small (v / (dens.getD i 0:Int))
     · rw [if_pos s3,if_pos s3,ceT rfl,yyM hp s3,ydb,fit]
       by_cases s4:small (p+v / (dens.getD i 0:Int))
       · rw [if_pos s4,if_pos s4,cnF rfl,cnF rfl];rfl
       · rw [if_neg s4,if_neg s4,cnF rfl,cnT (by decide)];rfl
     · rw [if_neg s3,if_neg s3,ceF (by decide),cnF rfl,cnT (by decide)];rfl
theorem yGr (h1:cuts.length<4611686018427387904) (h2:dens.length<4611686018427387904) {an ad vn vd:Int} (ha:I64 an) (ha':I64 ad) (hv:I64 vn) (hv':I64 vd) (K:Int→Int→Int→Prop) :
   yfg len (ints cuts) (ints dens) an ad vn vd K=exK (mrkR len cuts dens an ad vn vd) K:=by
 refine yCW (fun r0 r1 r2 h K=>yvz _ _ _ _ _ _ _ r0 r1 r2 h K) (fun K k=>?_) K
 unfold yfg ykv
 rw [yjA h1 h2]
 unfold mrkR at k
 by_cases h:ckC len cuts dens=0
 case neg=>rw [cnT h];rw [if_neg h] at k;exact k
 have hc:=ymM h
 have hl:=hc.len0
 rw [if_pos h] at k
 rw [cnF h,yuP (by omega) ha ha']
 by_cases p1:PT len an ad
 case neg=>rw [decide_eq_false p1,Bool.not_false,yac];rw [if_neg (fun x=>p1 x.1)] at k;exact k
 rw [decide_eq_true p1,Bool.not_true,yaa,ywA hv hv',chk]
 by_cases p2:RV vn vd
 case neg=>rw [if_neg p2,cnT (by decide)];rw [if_neg (fun x=>p2 x.2.1)] at k;exact k
 rw [if_pos p2,cnF rfl]
 by_cases p3:vn<0
 · rw [cbT p3];rw [if_neg (fun x=>by omega)] at k;exact k
 rw [cbF p3]
 rw [if_pos ⟨p1,p2,by omega⟩] at k
 obtain ⟨s1,e1,e2,_,_⟩:=p1.pt
 obtain ⟨s2,f1,f2⟩:=yJy p2
 unfold mrkC at k
 by_cases p4:vn=0
 · rw [ceT p4]
   rw [if_pos (Rat.num_eq_zero.1 (f1.trans p4))] at k
   have k:K (rt an ad).num (rt an ad).den 0:=k
   rw [e1,e2] at k
   exact k
 rw [ceF p4]
 rw [if_neg (fun x=>p4 (by rw [← f1,x];rfl))] at k
 rw [yaD]
 refine ⟨dens.length+1,?_⟩
 have:=ywD hc yas ybg yaS K dens.length 0 (dens.length+1) (rt an ad) (rt vn vd) 0 0 (by omega) (by omega) s1 s2
 rw [e1,e2,f1,f2] at this
 exact this.mpr k
end
end Go.Pf.Vc
namespace Go.Pf.Vc
open Go Go.Pf
section
variable {len:Int} {cuts dens:List Int}
def okD (cuts dens:List Int) (i:Nat):Prop:=∀ j,i≤j→j<dens.length→cuts.getD j 0<cuts.getD (j+1) 0∧0≤dens.getD j 0∧dens.getD j 0≤12
theorem ymN (l1:dens.length+1=cuts.length) (l2:dens.length<4611686018427387904) (x0:Int→Prop) (x1:Int→List PV→List PV→Bool→Int→Bool→Prop) (P:Prop)
   (hbad:¬okD cuts dens 0→x0 8=P) (hgood:∀ b:Bool,okD cuts dens 0→b=decide (∃ j,j<dens.length∧0<dens.getD j 0)→x1 len (ints cuts) (ints dens) b dens.length false=P) :
   ∀ (r i n:Nat) (b:Bool),i+r=dens.length→r<n→(∀ j,j<i→cuts.getD j 0<cuts.getD (j+1) 0∧0≤dens.getD j 0∧dens.getD j 0≤12)→b=decide (∃ j,j<i∧0<dens.getD j 0) →
     ybX x0 x1 n len (ints cuts) (ints dens) b i=P
 | 0,i,n+1,b,hi,hn,hj,hb=>by
   unfold ybX
   rw [yaD,cbF (by omega),show (i:Int)=dens.length by omega]
   refine hgood b (fun j _ h=>hj j (by omega)) ?_
   rw [hb,decide_eq_decide]
   rw [show i=dens.length by omega]
 | r+1,i,n+1,b,hi,hn,hj,hb=>by
   unfold ybX
   have e1:=wib (n:=(i:Int)+1) (by omega) (by omega)
   rw [yaD,yaD,cbT (by omega),e1,yjz,Int.toNat_natCast,Int.toNat_natCast,asT (by omega),asT (by omega),asC (by omega),asT (by omega),asT (by omega),asC (by omega),yba (by omega),yba (by omega)]
   have bad:¬(cuts.getD i 0<cuts.getD (i+1) 0∧0≤dens.getD i 0∧dens.getD i 0≤12)→x0 8=P:=fun h=>hbad fun hk=>h (hk i (by omega) (by omega))
   by_cases a1:cuts.getD (i+1) 0≤cuts.getD i 0
   · rw [cbT a1];exact bad (by omega)
   rw [cbF a1,asT (by omega),asT (by omega),asC (by omega),yba (by omega)]
   by_cases a2:dens.getD i 0<0
   · rw [cbT a2];exact bad (by omega)
   rw [cbF a2,asT (by omega),asT (by omega),asC (by omega)]
   by_cases a3:dens.getD i 0>12
   · rw [cbT a3];exact bad (by omega)
   rw [cbF a3]
   have hj2:∀ j,j<i+1→cuts.getD j 0<cuts.getD (j+1) 0∧0≤dens.getD j 0∧dens.getD j 0≤12:=by
     intro j hlt
     by_cases e:j=i
     · subst e;omega
     · exact hj j (by omega)
   have ex:∀ c:Bool,(c=true↔(b=true∨0<dens.getD i 0))→c=decide (∃ j,j<i+1∧0<dens.getD j 0):=by
     intro c hc
     rw [Bool.eq_iff_iff,hc,hb,decide_eq_true_iff,decide_eq_true_iff]
     constructor
     · rintro (⟨j,h1,h2⟩ | h)
       · exact ⟨j,by omega,h2⟩
       · exact ⟨i,by omega,h⟩
     · rintro ⟨j,h1,h2⟩
       by_cases e:j=i
       · subst e;exact .inr h2
       · exact .inl ⟨j,by omega,h2⟩
   cases b with
   | true =>
     rw [yac]
     exact ymN l1 l2 x0 x1 P hbad hgood r (i+1) n true (by omega) (by omega) hj2 (ex _ (by simp))
   | false =>
     rw [yaa,asT (by omega),asT (by omega),asC (by omega)]
     exact ymN l1 l2 x0 x1 P hbad hgood r (i+1) n _ (by omega) (by omega) hj2 (ex _ (by simp))
theorem ynh (h1:cuts.length<4611686018427387904) (h2:dens.length<4611686018427387904) (K:Int→Prop) :
   yaW len (ints cuts) (ints dens) K=K (ckC len cuts dens):=by
 refine yvJ _ _ _ _ (fun K k=>?_) K
 unfold yaW ykJ
 simp only [yaD]
 have bad:¬(len>1000∨cuts.length>40)→¬VC len cuts dens→K 8:=fun h h2=>by
   rw [ckC,if_neg h,if_neg h2] at k;exact k
 by_cases a1:len>1000
 · rw [cbT a1];rw [ckC,if_pos (.inl a1)] at k;exact k
 rw [cbF a1]
 by_cases a2:cuts.length>40
 · rw [cbT (by omega)];rw [ckC,if_pos (.inr a2)] at k;exact k
 have a12:¬(len>1000∨cuts.length>40):=by omega
 rw [cbF (by omega)]
 by_cases a3:len<1
 · rw [cbT a3];exact bad a12 (fun h=>by have:=h.1;omega)
 rw [cbF a3]
 by_cases a4:cuts.length<2
 · rw [cbT (by omega)];exact bad a12 (fun h=>by have:=h.2.2.1;omega)
 rw [cbF (by omega),wib (n:=(cuts.length:Int)-1) (by omega) (by omega)]
 by_cases a5:dens.length+1=cuts.length
 case neg=>rw [cnT (by omega)];exact bad a12 (fun h=>a5 h.2.2.2.2.1)
 rw [cnF (by omega),asT (by omega),asC (by omega),yba (by omega)]
 by_cases a6:cuts.getD 0 0=0
 case neg=>rw [cnT a6];exact bad a12 (fun h=>a6 h.2.2.2.2.2.1)
 rw [cnF a6,asT (by omega),asT (by omega),asC (by omega),yba (by omega)]
 have en:((cuts.length:Int)-1).toNat=cuts.length-1:=by omega
 rw [en]
 by_cases a7:cuts.getD (cuts.length-1) 0=len
 case neg=>rw [cnT a7];exact bad a12 (fun h=>a7 h.2.2.2.2.2.2.1)
 rw [cnF a7]
 have mem:∀ d,d∈dens↔∃ j,j<dens.length∧dens.getD j 0=d:=by
   intro d
   rw [List.mem_iff_getElem]
   constructor
   · rintro ⟨j,hj,e⟩;exact ⟨j,hj,by rw [List.getD_eq_getElem?_getD,List.getElem?_eq_getElem hj];exact e⟩
   · rintro ⟨j,hj,e⟩;exact ⟨j,hj,by rw [List.getD_eq_getElem?_getD,List.getElem?_eq_getElem hj] at e;exact e⟩
 refine ⟨dens.length+1,?_⟩
 refine (ymN a5 h2 _ _ (K (ckC len cuts dens)) (fun hk=>?_) (fun b hk hb=>?_) dens.length 0 (dens.length+1) false (by omega) (by omega) (fun j h=>by omega) (by simp)).mpr k
 · have hv:¬VC len cuts dens:=fun h=>hk fun j _ hj=>⟨h.step (by omega),h.den hj⟩
   rw [ckC,if_neg a12,if_neg hv]
 · have hsome:yuN dens↔∃ j,j<dens.length∧0<dens.getD j 0:=by
     constructor
     · rintro ⟨d,hd,h0⟩
       obtain ⟨j,hj,e⟩:=(mem d).1 hd
       exact ⟨j,hj,by rw [e];exact h0⟩
     · rintro ⟨j,hj,h0⟩;exact ⟨_,(mem _).2 ⟨j,hj,rfl⟩,h0⟩
   have hv:VC len cuts dens↔yuN dens:=by
     refine ⟨fun h=>h.2.2.2.2.2.2.2.2.2,fun h=>⟨by omega,by omega,by omega,by omega,a5,a6,a7,fun j _ hj=>(hk j (by omega) (by omega)).1,fun d hd=>?_,h⟩⟩
     obtain ⟨j,hj,e⟩:=(mem d).1 hd
     rw [← e];exact (hk j (by omega) hj).2
   rw [ckC,if_neg a12]
   by_cases hs:yuN dens
   · rw [if_pos (hv.2 hs),hb,decide_eq_true (hsome.1 hs)];rfl
   · rw [if_neg (fun x=>hs (hv.1 x)),hb,decide_eq_false (fun x=>hs (hsome.2 x))];rfl
theorem yuT (h:VC len cuts dens) (x0:Int→List PV→List PV→Int→Int→Bool→Prop) :
   ∀ (r i n:Nat) (s:Int),i+r=dens.length→r<n→0≤s→s≤12*cuts.getD i 0 →
     ycT x0 n len (ints cuts) (ints dens) s i=x0 len (ints cuts) (ints dens) (totS cuts dens r i s) dens.length false
 | 0,i,n+1,s,hi,hn,h0,h1=>by
   unfold ycT totS
   have:(i:Int)=dens.length:=by omega
   rw [yaD,cbF (by omega),this]
 | r+1,i,n+1,s,hi,hn,h0,h1=>by
   unfold ycT
   have l1:=h.l1;have l2:=h.l2
   have h2:=h.step (i:=i) (by omega)
   have h3:=yAV (h.den (i:=i) (by omega)) (x:=cuts.getD (i+1) 0-cuts.getD i 0) (by omega)
   have a1:=h.lo (i:=i) (by omega)
   have a2:=h.hi (i:=i+1) (by omega)
   have a3:=h.len0
   have e1:=wib (n:=(i:Int)+1) (by omega) (by omega)
   have e2:=wib (n:=cuts.getD (i+1) 0-cuts.getD i 0) (by omega) (by omega)
   have e3:=wib (n:=dens.getD i 0*(cuts.getD (i+1) 0-cuts.getD i 0)) (by omega) (by omega)
   have e4:=wib (n:=s+dens.getD i 0*(cuts.getD (i+1) 0-cuts.getD i 0)) (by omega) (by omega)
   rw [yaD,yaD,cbT (by omega),e1,yjz,Int.toNat_natCast,Int.toNat_natCast,asT (by omega),asT (by omega),asC (by omega),asT (by omega),asT (by omega),asC (by omega),asT (by omega),asT (by omega),asC (by omega),yba (by omega),yba (by omega),yba (by omega),e2,e3,e4]
   exact yuT h x0 r (i+1) n _ (by omega) (by omega) (by omega) (by omega)
theorem yEX (hv:VC len cuts dens) (K:Int→Prop):yfn len (ints cuts) (ints dens) K=K (totC cuts dens):=by
 refine yvL _ _ _ _ (fun K k=>?_) K
 unfold yfn ykR
 refine ⟨dens.length+1,?_⟩
 have l1:=hv.l1
 have a1:=hv.lo (i:=0) (by omega)
 have:=yuT hv (fun b c d a e f=>K a) dens.length 0 (dens.length+1) 0 (by omega) (by omega) (by omega) (by omega)
 rw [show ((0:Nat):Int)=0 from rfl] at this
 rw [this]
 exact k
theorem ywE (hl:-1000000000000000000≤len∧len≤1000000000000000000) {n d:Int} (hn:I64 n) (hd:I64 d) (K:Bool→Prop) :
   yeh len n d K=K (decide (PT len n d)):=by
 unfold yeh ykM
 rw [yng hn hd]
 by_cases h:RV n d
 · obtain ⟨q,e1,e2,e3⟩:=yyI h
   rw [chk,if_pos h,ceT rfl]
   by_cases h0:n≥0
   · rw [cbT h0,yyQ,← e2,← e3,ymL (yfq hl) e1]
     congr 1
     have:((len:Rat)<q)↔len*(q.den:Int)<q.num:=yuO _ _
     by_cases h3:(len:Rat)<q
     · have h4:=this.1 h3
       rw [decide_eq_true h3,decide_eq_false];rfl
       intro hp;have:=hp.2.2;omega
     · have h4:¬_:=fun x=>h3 (this.2 x)
       rw [decide_eq_false h3,decide_eq_true];rfl
       exact ⟨e1.rv,by omega,by omega⟩
   · rw [cbF h0,decide_eq_false]
     intro hp;have:=hp.2.1;omega
 · rw [chk,if_neg h,ceF (by decide),decide_eq_false]
   intro hp;exact h hp.1
def mxQ (a b:Rat):Rat:=if a<b then b else a
def mnQ (a b:Rat):Rat:=if a<b then a else b
theorem yEY {q r:Rat} (hq:small q) (hr:small r) (K:Int→Int→Prop):yig q.num q.den r.num r.den K=K (mxQ q r).num (mxQ q r).den:=by
 unfold yig ykN mxQ
 rw [ymL hq hr]
 by_cases h:q<r
 · rw [cbT h,if_pos h]
 · rw [cbF h,if_neg h]
theorem yCX {q r:Rat} (hq:small q) (hr:small r) (K:Int→Int→Prop):yhi q.num q.den r.num r.den K=K (mnQ q r).num (mnQ q r).den:=by
 unfold yhi yiL mnQ
 rw [ymL hq hr]
 by_cases h:q<r
 · rw [cbT h,if_pos h]
 · rw [cbF h,if_neg h]
end
end Go.Pf.Vc
