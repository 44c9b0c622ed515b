/- Part 4 of what the statement rests on: a verified evaluator over pure values, the conditions of the program's functions, and their plain laws. -/
import Derived.Test.YtijdgcomldpncaaGreatTrW3
namespace Go.Pf.Vc
open Go Go.Pf
set_option maxRecDepth 100000
def yq1 (a0:yaB) (a1:yaq) (a2:yao) (a3:ybB) (a4:yfD) (p0 p1 p2 p3:Int) (K:Int→Int→Int→Prop):Prop :=
 (a0 p0 p1 p2 p3 (fun c =>
 (cbr (c !=(0:Int))
 (a0 p0 p1 p2 p3 (fun d =>
 (K (0:Int) (0:Int) d)))
 (a1 p0 (fun e =>
 (a2 e (IntKind.u64.wrap p3) (fun a =>
 (a1 p2 (fun f =>
 (a2 f (IntKind.u64.wrap p1) (fun b =>
 (cbr ((decide (p0<(0:Int))) !=(decide (p2<(0:Int))))
 (cbr (p0 !=(0:Int))
 (a1 p0 (fun g =>
 (asr (!(decide (a=(0:Int))))
 (a1 p2 (fun h =>
 (asr (!(decide (b=(0:Int))))
 (a3 (IntKind.u64.wrap (Int.tdiv g a)) (IntKind.u64.wrap (Int.tdiv h b)) (fun i j =>
 (asr (!(decide (b=(0:Int))))
 (asr (!(decide (a=(0:Int))))
 (a3 (IntKind.u64.wrap (Int.tdiv (IntKind.u64.wrap p1) b)) (IntKind.u64.wrap (Int.tdiv (IntKind.u64.wrap p3) a)) (fun k l =>
 (a4 (p2 !=(0:Int)) i j k l (fun m n o =>
 (K m n o)))))))))))))))
 (a1 p0 (fun p =>
 (asr (!(decide (a=(0:Int))))
 (a1 p2 (fun q =>
 (asr (!(decide (b=(0:Int))))
 (a3 (IntKind.u64.wrap (Int.tdiv p a)) (IntKind.u64.wrap (Int.tdiv q b)) (fun r s =>
 (asr (!(decide (b=(0:Int))))
 (asr (!(decide (a=(0:Int))))
 (a3 (IntKind.u64.wrap (Int.tdiv (IntKind.u64.wrap p1) b)) (IntKind.u64.wrap (Int.tdiv (IntKind.u64.wrap p3) a)) (fun t u =>
 (a4 false r s t u (fun v w x =>
 (K v w x))))))))))))))))
 (a1 p0 (fun y =>
 (asr (!(decide (a=(0:Int))))
 (a1 p2 (fun z =>
 (asr (!(decide (b=(0:Int))))
 (a3 (IntKind.u64.wrap (Int.tdiv y a)) (IntKind.u64.wrap (Int.tdiv z b)) (fun A B =>
 (asr (!(decide (b=(0:Int))))
 (asr (!(decide (a=(0:Int))))
 (a3 (IntKind.u64.wrap (Int.tdiv (IntKind.u64.wrap p1) b)) (IntKind.u64.wrap (Int.tdiv (IntKind.u64.wrap p3) a)) (fun C D =>
 (a4 false A B C D (fun E F G =>
 (K E F G)))))))))))))))))))))))))))
def ykA:yac:=yq1 yfF yfT ydd yd3 yfE
def yF6 (e:Es) (a0:yaB) (a1:yaq) (a2:yao) (a3:ybB) (a4:yfD):SE:=sE (E e) [(ybv,ynq.pw a0),(ybc,ypD.pw a1),(ycQ,yrK.pw a2),(ybA,yAP.pw a3),(yea,yDs.pw a4)] lp0
theorem yF7 (e:Es) (a0 a1 a2 a3 a4):EqW (yF6 e a0 a1 a2 a3 a4) 6 yH9 yds (yq1 a0 a1 a2 a3 a4):=fun _ _=>by kernel_rfl
theorem ywY (e:Es) (he:EG e):OkF (E e) (yds.pw ykA) ygJ:=okU he (yF7 e _ _ _ _ _) (yah (Sub.uni _) ⟨(yjm e he),(yiN e he),(yiO e he),(ylV e he),(ynM e he),trivial⟩ trivial he.ok) yiy.flat (yaf (by kernel_rfl))
def yq2 (a0:yaB) (a1:yac) (p0 p1 p2 p3:Int) (K:Int→Int→Int→Prop):Prop :=
 (a0 p0 p1 p2 p3 (fun a =>
 (cbr (a !=(0:Int))
 (a0 p0 p1 p2 p3 (fun b =>
 (K (0:Int) (0:Int) b)))
 (cbr (p2 ==(0:Int))
 (K (0:Int) (0:Int) (18:Int))
 (cbr (decide (p2<(0:Int)))
 (a1 p0 p1 (IntKind.i64.wrap ((0:Int)-p3)) (IntKind.i64.wrap ((0:Int)-p2)) (fun c d e =>
 (K c d e)))
 (a1 p0 p1 p3 p2 (fun f g h =>
 (K f g h))))))))
def ygQ:yac:=yq2 yfF ykA
def yF8 (e:Es) (a0:yaB) (a1:yac):SE:=sE (E e) [(ybv,ynq.pw a0),(ygJ,yds.pw a1)] lp0
theorem yF9 (e:Es) (a0 a1):EqW (yF8 e a0 a1) 6 yIa yds (yq2 a0 a1):=fun _ _=>by kernel_rfl
theorem yGa (e:Es) (he:EG e):OkF (E e) (yds.pw ygQ) ykp:=okU he (yF9 e _ _) (yah (Sub.uni _) ⟨(yjm e he),(ywY e he),trivial⟩ trivial he.ok) yiy.flat (yaf (by kernel_rfl))
end Go.Pf.Vc
namespace Go.Pf.Vc
open Go Go.Pf
set_option linter.unusedVariables false
theorem yDH (p0:Int) (p1:Int) (r0:Int) (h:∀ K:Int→Prop,K r0→ydd p0 p1 K) (K:Int→Prop):ydd p0 p1 K=K r0 :=
 propext ⟨fun k=>detC (yiO [] yaG) (as:=[(.int .u64 p0),(.int .u64 p1)]) (x:=(.int .u64 r0)) (fun K' k'=>h (fun r0=>K' (.int .u64 r0)) k') (K:=fun x=>match x with | (.int .u64 r0)=>K r0 | _=>False) k,h K⟩
theorem yyo (p0:Int) (p1:Int) (p2:Int) (r0:Int) (r1:Int) (r2:Int) (h:∀ K:Int→Int→Int→Prop,K r0 r1 r2→ydw p0 p1 p2 K) (K:Int→Int→Int→Prop):ydw p0 p1 p2 K=K r0 r1 r2 :=
 propext ⟨fun k=>detC (ysb [] yaG) (as:=[(.agg [(.int .u64 p0),(.int .u64 p1)]),(.int .u64 p2)]) (x:=(.tup [(.agg [(.int .u64 r0),(.int .u64 r1)]),(.int .u64 r2)])) (fun K' k'=>h (fun r0 r1 r2=>K' (.tup [(.agg [(.int .u64 r0),(.int .u64 r1)]),(.int .u64 r2)])) k') (K:=fun x=>match x with | (.tup [(.agg [(.int .u64 r0),(.int .u64 r1)]),(.int .u64 r2)])=>K r0 r1 r2 | _=>False) k,h K⟩
end Go.Pf.Vc
namespace Go.Pf.Vc
open Go Go.Pf
set_option maxRecDepth 100000
abbrev yfW:Type:=Int→Ls→Ls→(Bool→Prop)→Prop
def ylY (_:Int) (p1 p2:Ls) (K:Bool→Prop):Prop :=
 (cbr (decide ((((List.length p1):Nat):Int)>(60:Int)))
 (K true)
 (K (decide ((((List.length p2):Nat):Int)>(60:Int)))))
def yeR:yfW:=ylY
def yAX:Sg:=⟨pt17,Bool→Prop,fun K=>(fun r0=>K (.bool r0))⟩
def yAY (e:Es):SE:=sE (E e) [] lp0
theorem yAZ (e:Es):EqW (yAY e) 6 yCR yAX ylY:=fun _ _=>by kernel_rfl
theorem yA0 (e:Es) (he:EG e):OkF (E e) (yAX.pw yeR) yhj:=okU he (yAZ e) (yah (Sub.uni _) trivial trivial he.ok) yiy.flat (yaf (by kernel_rfl))
def yct (x0:Int→Prop) (x1:Int→Ls→Ls→Bool→Int→Bool→Prop):Nat→Int→Ls→Ls→Bool→Int→Prop
 | 0,_,_,_,_,_=>False
 | n+1,i0,l1,l2,b3,i4 =>
 (cbr (decide (i4<(((List.length l2):Nat):Int)))
 (asr (decide ((0:Int)≤(IntKind.i64.wrap (i4+(1:Int)))))
 (asr (decide ((IntKind.i64.wrap (i4+(1:Int)))<(((List.length l1):Nat):Int)))
 (asr (conf (.one (.i .i64)) (List.getD l1 ((IntKind.i64.wrap (i4+(1:Int))).toNat) .nils))
 (asr (decide ((0:Int)≤i4))
 (asr (decide (i4<(((List.length l1):Nat):Int)))
 (asr (conf (.one (.i .i64)) (List.getD l1 (i4.toNat) .nils))
 (cbr (decide ((yab (List.getD l1 ((IntKind.i64.wrap (i4+(1:Int))).toNat) .nils))≤(yab (List.getD l1 (i4.toNat) .nils))))
 (x0 (8:Int))
 (asr (decide ((0:Int)≤i4))
 (asr (decide (i4<(((List.length l2):Nat):Int)))
 (asr (conf (.one (.i .i64)) (List.getD l2 (i4.toNat) .nils))
 (cbr (decide ((yab (List.getD l2 (i4.toNat) .nils))<(0:Int)))
 (x0 (8:Int))
 (asr (decide ((0:Int)≤i4))
 (asr (decide (i4<(((List.length l2):Nat):Int)))
 (asr (conf (.one (.i .i64)) (List.getD l2 (i4.toNat) .nils))
 (cbr (decide ((yab (List.getD l2 (i4.toNat) .nils))>(12:Int)))
 (x0 (8:Int))
 (cbr b3
 (yct x0 x1 n i0 l1 l2 true (IntKind.i64.wrap (i4+(1:Int))))
 (asr (decide ((0:Int)≤i4))
 (asr (decide (i4<(((List.length l2):Nat):Int)))
 (asr (conf (.one (.i .i64)) (List.getD l2 (i4.toNat) .nils))
 (yct x0 x1 n i0 l1 l2 (decide ((yab (List.getD l2 (i4.toNat) .nils))>(0:Int))) (IntKind.i64.wrap (i4+(1:Int)))))))))))))))))))))))
 (x1 i0 l1 l2 b3 i4 false))
def ylZ (p0:Int) (p1 p2:Ls) (K:Int→Prop):Prop :=
 (cbr (decide (p0>(1000:Int)))
 (K (4:Int))
 (cbr (decide ((((List.length p1):Nat):Int)>(40:Int)))
 (K (4:Int))
 (cbr (decide (p0<(1:Int)))
 (K (8:Int))
 (cbr (decide ((((List.length p1):Nat):Int)<(2:Int)))
 (K (8:Int))
 (cbr ((((List.length p2):Nat):Int) !=(IntKind.i64.wrap ((((List.length p1):Nat):Int)-(1:Int))))
 (K (8:Int))
 (asr (decide ((0:Int)<(((List.length p1):Nat):Int)))
 (asr (conf (.one (.i .i64)) (List.getD p1 0 .nils))
 (cbr ((yab (List.getD p1 0 .nils)) !=(0:Int))
 (K (8:Int))
 (asr (decide ((0:Int)≤(IntKind.i64.wrap ((((List.length p1):Nat):Int)-(1:Int)))))
 (asr (decide ((IntKind.i64.wrap ((((List.length p1):Nat):Int)-(1:Int)))<(((List.length p1):Nat):Int)))
 (asr (conf (.one (.i .i64)) (List.getD p1 ((IntKind.i64.wrap ((((List.length p1):Nat):Int)-(1:Int))).toNat) .nils))
 (cbr ((yab (List.getD p1 ((IntKind.i64.wrap ((((List.length p1):Nat):Int)-(1:Int))).toNat) .nils)) != p0)
 (K (8:Int))
 (∃ n:Nat,yct
 (fun a=>(K a))
 (fun _ _ _ b _ _=>(cbr (!b)
 (K (8:Int))
 (K (0:Int))))
 n p0 p1 p2 false (0:Int))))))))))))))
def yaN:yai:=ylZ
def yuX (Q:Qx):Int→Prop:=(fun i0=>Q .ret [(2,.v (.int .i64 i0))] [])
def yuY (Q:Qx):Int→Ls→Ls→Bool→Int→Bool→Prop:=(fun i0 l1 l2 b3 i4 b5=>Q (.exit 0) [(1,.box (.agg [(.int .i64 i0),(.data l1),(.data l2)])),(3,.v (.bool b3)),(4,.v (.int .i64 i4)),(57,.v (.bool b5))] [])
def ynU (Q:Qx):List St:=[⟨(pS hN (fX 1 pt16 (fV 3 vB pt13)) fN),yct (yuX Q) (yuY Q)⟩]
def ysc:LP:=lpS [(94526800,ynU)]
def yma (e:Es):SE:=sE (E e) [] (ysc)
theorem ypV (e:Es) (he:EG e):SEOk (Uni (E e)) (yma e):=yah (Sub.uni _) trivial trivial he.ok
theorem ytw (e:Es):ybQ (yma e) 5 a yli false (ynU):=fun _=>⟨fun _=>by kernel_rfl,fun _ _=>by kernel_rfl,trivial⟩
theorem ytx (e:Es) (he:EG e):LpT (Uni (E e)) (ysc) [] 94526800 (.loop 94526800 yli):=fun _ _ _=>yni.st (Sub.uni _) (yat (ypV e he) 5) (YOk.no _ _) (yaf (by kernel_rfl)) (ytw e _)
theorem yA1 (e:Es):EqW (yma e) 6 yC7 yjG ylZ:=fun _ _=>by kernel_rfl
theorem yhZ (e:Es) (he:EG e):OkF (E e) (yjG.pw yaN) ybN:=okU he (yA1 e) (ypV e he) yiy.flat (yaR (l:=[(94526800,.loop 94526800 yli)]) ⟨ytx e he,trivial⟩ (by kernel_rfl))
abbrev yfG:Type:=Int→Ls→Ls→(Int→Ls→Ls→Prop)→Prop
def ynV (p0:Int) (p1 p2:Ls) (K:Int→Ls→Ls→Prop):Prop :=
 (asr (ybR 1 p1)
 (cbr (List.isEmpty p1)
 (asr (ybR 1 p2)
 (cbr (List.isEmpty p2)
 (K p0 ([]:Ls) ([]:Ls))
 (asr (decide (((List.length p2)+64)*(8+1)≤room))
 (asr (decide ((List.length p2)=(List.length p2)))
 (asr (decide ((0+(List.length p2))≤(List.length p2)))
 (K p0 ([]:Ls) (List.take (List.length p2) p2)))))))
 (asr (decide (((List.length p1)+64)*(8+1)≤room))
 (asr (ybR 1 p2)
 (cbr (List.isEmpty p2)
 (asr (decide ((List.length p1)=(List.length p1)))
 (asr (decide ((0+(List.length p1))≤(List.length p1)))
 (K p0 (List.take (List.length p1) p1) ([]:Ls))))
 (asr (decide (((List.length p2)+64)*(8+1)≤room))
 (asr (decide ((List.length p1)=(List.length p1)))
 (asr (decide ((0+(List.length p1))≤(List.length p1)))
 (asr (decide ((List.length p2)=(List.length p2)))
 (asr (decide ((0+(List.length p2))≤(List.length p2)))
 (K p0 (List.take (List.length p1) p1) (List.take (List.length p2) p2))))))))))))
def yfH:yfG:=ynV
def yDI:Sg:=⟨pt17,Int→Ls→Ls→Prop,fun K=>(fun r0 r1 r2=>K (.agg [(.int .i64 r0),(.data r1),(.data r2)]))⟩
def yDJ (e:Es):SE:=sE (E e) [] lp0
theorem yDK (e:Es):EqW (yDJ e) 6 yFv yDI ynV:=fun _ _=>by kernel_rfl
theorem yDL (e:Es) (he:EG e):OkF (E e) (yDI.pw yfH) yiB:=okU he (yDK e) (yah (Sub.uni _) trivial trivial he.ok) yiy.flat (yaf (by kernel_rfl))
def ydf (x0:Int→Ls→Ls→Int→Int→Bool→Prop):Nat→Int→Ls→Ls→Int→Int→Prop
 | 0,_,_,_,_,_=>False
 | n+1,i0,l1,l2,i3,i4 =>
 (cbr (decide (i4<(((List.length l2):Nat):Int)))
 (asr (decide ((0:Int)≤i4))
 (asr (decide (i4<(((List.length l2):Nat):Int)))
 (asr (conf (.one (.i .i64)) (List.getD l2 (i4.toNat) .nils))
 (asr (decide ((0:Int)≤(IntKind.i64.wrap (i4+(1:Int)))))
 (asr (decide ((IntKind.i64.wrap (i4+(1:Int)))<(((List.length l1):Nat):Int)))
 (asr (conf (.one (.i .i64)) (List.getD l1 ((IntKind.i64.wrap (i4+(1:Int))).toNat) .nils))
 (asr (decide ((0:Int)≤i4))
 (asr (decide (i4<(((List.length l1):Nat):Int)))
 (asr (conf (.one (.i .i64)) (List.getD l1 (i4.toNat) .nils))
 (ydf x0 n i0 l1 l2 (IntKind.i64.wrap (i3+(IntKind.i64.wrap ((yab (List.getD l2 (i4.toNat) .nils))*(IntKind.i64.wrap ((yab (List.getD l1 ((IntKind.i64.wrap (i4+(1:Int))).toNat) .nils))-(yab (List.getD l1 (i4.toNat) .nils)))))))) (IntKind.i64.wrap (i4+(1:Int)))))))))))))
 (x0 i0 l1 l2 i3 i4 false))
def ymb (p0:Int) (p1 p2:Ls) (K:Int→Prop):Prop :=
 (∃ n:Nat,ydf
 (fun _ _ _ a _ _=>(K a))
 n p0 p1 p2 (0:Int) (0:Int))
def yfX:yai:=ymb
def yuZ (Q:Qx):Int→Ls→Ls→Int→Int→Bool→Prop:=(fun i0 l1 l2 i3 i4 b5=>Q (.exit 0) [(1,.box (.agg [(.int .i64 i0),(.data l1),(.data l2)])),(3,.v (.int .i64 i3)),(4,.v (.int .i64 i4)),(9,.v (.bool b5))] [])
def ynW (Q:Qx):List St:=[⟨(pS hN (fX 1 pt16 (fV 3 pt0 pt13)) fN),ydf (yuZ Q)⟩]
def ysd:LP:=lpS [(21661800,ynW)]
def ymc (e:Es):SE:=sE (E e) [] (ysd)
theorem ypW (e:Es) (he:EG e):SEOk (Uni (E e)) (ymc e):=yah (Sub.uni _) trivial trivial he.ok
theorem yty (e:Es):ybQ (ymc e) 5 a ylk false (ynW):=fun _=>⟨fun _=>by kernel_rfl,fun _ _=>by kernel_rfl,trivial⟩
theorem ytz (e:Es) (he:EG e):LpT (Uni (E e)) (ysd) [] 21661800 (.loop 21661800 ylk):=fun _ _ _=>yni.st (Sub.uni _) (yat (ypW e he) 5) (YOk.no _ _) (yaf (by kernel_rfl)) (yty e _)
theorem yA2 (e:Es):EqW (ymc e) 6 yDa yjG ymb:=fun _ _=>by kernel_rfl
theorem yse (e:Es) (he:EG e):OkF (E e) (yjG.pw yfX) yhp:=okU he (yA2 e) (ypW e he) yiy.flat (yaR (l:=[(21661800,.loop 21661800 ylk)]) ⟨ytz e he,trivial⟩ (by kernel_rfl))
abbrev yca:Type:=Int→Int→Int→(Bool→Prop)→Prop
def ymd (a0:yao) (a1:yae) (a2:yal) (p0 p1 p2:Int) (K:Bool→Prop):Prop :=
 (a0 p1 p2 (fun a =>
 (cbr (a ==(0:Int))
 (cbr (decide (p1≥(0:Int)))
 (a1 p0 (fun b c =>
 (a2 b c p1 p2 (fun d =>
 (K (!d))))))
 (K false))
 (K false))))
def ycb:yca:=ymd ydv ybl yaT
def yA3:Sg:=⟨(lC pt0 pt8),Bool→Prop,fun K=>(fun r0=>K (.bool r0))⟩
def yA4 (e:Es) (a0:yao) (a1:yae) (a2:yal):SE:=sE (E e) [(ybX,ynp.pw a0),(ycA,yjJ.pw a1),(ya4,ylK.pw a2)] lp0
theorem yA5 (e:Es) (a0 a1 a2):EqW (yA4 e a0 a1 a2) 6 yDf yA3 (ymd a0 a1 a2):=fun _ _=>by kernel_rfl
theorem ysf (e:Es) (he:EG e):OkF (E e) (yA3.pw ycb) yd1:=okU he (yA5 e _ _ _) (yah (Sub.uni _) ⟨(ylT e he),(ykz e he),(yeQ e he),trivial⟩ trivial he.ok) yiy.flat (yaf (by kernel_rfl))
def yme (a0:yal) (p0 p1 p2 p3:Int) (K:Int→Int→Prop):Prop :=
 (a0 p0 p1 p2 p3 (fun a =>
 (cbr a
 (K p2 p3)
 (K p0 p1))))
def yd4:yaw:=yme yaT
def ysg:Sg:=⟨pt12,Int→Int→Prop,fun K=>(fun r0 r1=>K (.agg [(.int .i64 r0),(.int .i64 r1)]))⟩
def yA6 (e:Es) (a0:yal):SE:=sE (E e) [(ya4,ylK.pw a0)] lp0
theorem yA7 (e:Es) (a0):EqW (yA6 e a0) 6 yDg ysg (yme a0):=fun _ _=>by kernel_rfl
theorem ysh (e:Es) (he:EG e):OkF (E e) (ysg.pw yd4) yeJ:=okU he (yA7 e _) (yah (Sub.uni _) ⟨(yeQ e he),trivial⟩ trivial he.ok) yiy.flat (yaf (by kernel_rfl))
def yjR (a0:yal) (p0 p1 p2 p3:Int) (K:Int→Int→Prop):Prop :=
 (a0 p0 p1 p2 p3 (fun a =>
 (cbr a
 (K p0 p1)
 (K p2 p3))))
def yh0:yaw:=yjR yaT
def yyp (e:Es) (a0:yal):SE:=sE (E e) [(ya4,ylK.pw a0)] lp0
theorem yyq (e:Es) (a0):EqW (yyp e a0) 6 yAo ysg (yjR a0):=fun _ _=>by kernel_rfl
theorem yyr (e:Es) (he:EG e):OkF (E e) (ysg.pw yh0) ygl:=okU he (yyq e _) (yah (Sub.uni _) ⟨(yeQ e he),trivial⟩ trivial he.ok) yiy.flat (yaf (by kernel_rfl))
abbrev ycc:Type:=Int→Ls→Ls→Int→Int→Int→Int→Int→(Int→Int→Int→Prop)→Prop
def ymf (a0:yae) (a1:yaw) (a2:yaw) (a3:yal) (a4:yac) (a5:yac) (_:Int) (p1 p2:Ls) (p3 p4 p5 p6 p7:Int) (K:Int→Int→Int→Prop):Prop :=
 (asr (decide ((0:Int)≤p3))
 (asr (decide (p3<(((List.length p1):Nat):Int)))
 (asr (conf (.one (.i .i64)) (List.getD p1 (p3.toNat) .nils))
 (a0 (yab (List.getD p1 (p3.toNat) .nils)) (fun f g =>
 (a1 p4 p5 f g (fun a b =>
 (asr (decide ((0:Int)≤(IntKind.i64.wrap (p3+(1:Int)))))
 (asr (decide ((IntKind.i64.wrap (p3+(1:Int)))<(((List.length p1):Nat):Int)))
 (asr (conf (.one (.i .i64)) (List.getD p1 ((IntKind.i64.wrap (p3+(1:Int))).toNat) .nils))
 (a0 (yab (List.getD p1 ((IntKind.i64.wrap (p3+(1:Int))).toNat) .nils)) (fun h j =>
 (a2 p6 p7 h j (fun c d =>
 (a3 a b c d (fun k =>
 (cbr (!k)
 (K (0:Int) (1:Int) (0:Int))
 (asr (decide ((0:Int)≤p3))
 (asr (decide (p3<(((List.length p2):Nat):Int)))
 (asr (conf (.one (.i .i64)) (List.getD p2 (p3.toNat) .nils))
 (cbr ((yab (List.getD p2 (p3.toNat) .nils)) ==(0:Int))
 (K (0:Int) (1:Int) (0:Int))
 (a4 c d a b (fun l m e =>
 (cbr (e !=(0:Int))
 (K (0:Int) (0:Int) e)
 (asr (decide ((0:Int)≤p3))
 (asr (decide (p3<(((List.length p2):Nat):Int)))
 (asr (conf (.one (.i .i64)) (List.getD p2 (p3.toNat) .nils))
 (a0 (yab (List.getD p2 (p3.toNat) .nils)) (fun n o =>
 (a5 l m n o (fun p q r =>
 (K p q r))))))))))))))))))))))))))))))))
def ycd:ycc:=ymf ybl yd4 yh0 yaT yfV ykA
def yA8:Sg:=⟨(lC pt16 (lC pt0 pt12)),Int→Int→Int→Prop,fun K=>(fun r0 r1 r2=>K (.tup [(.agg [(.int .i64 r0),(.int .i64 r1)]),(.int .i64 r2)]))⟩
def yA9 (e:Es) (a0:yae) (a1:yaw) (a2:yaw) (a3:yal) (a4:yac) (a5:yac):SE:=sE (E e) [(ycA,yjJ.pw a0),(yeJ,ysg.pw a1),(ygl,ysg.pw a2),(ya4,ylK.pw a3),(ygI,yds.pw a4),(ygJ,yds.pw a5)] lp0
theorem yBa (e:Es) (a0 a1 a2 a3 a4 a5):EqW (yA9 e a0 a1 a2 a3 a4 a5) 6 yDj yA8 (ymf a0 a1 a2 a3 a4 a5):=fun _ _=>by kernel_rfl
theorem ysi (e:Es) (he:EG e):OkF (E e) (yA8.pw ycd) yeK:=okU he (yBa e _ _ _ _ _ _) (yah (Sub.uni _) ⟨(ykz e he),(ysh e he),(yyr e he),(yeQ e he),(ywX e he),(ywY e he),trivial⟩ trivial he.ok) yiy.flat (yaf (by kernel_rfl))
def ydg (a0:yai) (a1:yca) (a2:yal) (a3:ycc) (a4:yac) (x0:Int→Int→Int→Prop) (x1:Int→Ls→Ls→Int→Int→Int→Int→Int→Int→Int→Int→Int→Bool→Prop):Nat→Int→Ls→Ls→Int→Int→Int→Int→Int→Int→Int→Int→Int→Prop
 | 0,_,_,_,_,_,_,_,_,_,_,_,_=>False
 | n+1,i0,l1,l2,i3,i4,i5,i6,i7,i8,i9,i10,i11 =>
 (cbr (decide (i11<(((List.length l2):Nat):Int)))
 (a3 i0 l1 l2 i11 i3 i4 i5 i6 (fun c d a =>
 (cbr (a !=(0:Int))
 (x0 (0:Int) (0:Int) a)
 (a4 i9 i10 c d (fun e f b =>
 (cbr (b !=(0:Int))
 (x0 (0:Int) (0:Int) b)
 (ydg a0 a1 a2 a3 a4 x0 x1 n i0 l1 l2 i3 i4 i5 i6 i7 i8 e f (IntKind.i64.wrap (i11+(1:Int))))))))))
 (x1 i0 l1 l2 i3 i4 i5 i6 i7 i8 i9 i10 i11 false))
def ymg (a0:yai) (a1:yca) (a2:yal) (a3:ycc) (a4:yac) (p0:Int) (p1 p2:Ls) (p3 p4 p5 p6:Int) (K:Int→Int→Int→Prop):Prop :=
 (a0 p0 p1 p2 (fun a =>
 (cbr (a !=(0:Int))
 (a0 p0 p1 p2 (fun b =>
 (K (0:Int) (0:Int) b)))
 (a1 p0 p3 p4 (fun c =>
 (cbr (!c)
 (K (0:Int) (0:Int) (2:Int))
 (a1 p0 p5 p6 (fun d =>
 (cbr (!d)
 (K (0:Int) (0:Int) (2:Int))
 (a2 p5 p6 p3 p4 (fun e =>
 (cbr e
 (K (0:Int) (0:Int) (2:Int))
 (∃ n:Nat,ydg a0 a1 a2 a3 a4
 (fun f g h=>(K f g h))
 (fun _ _ _ _ _ _ _ _ _ i j _ _=>(K i j (0:Int)))
 n p0 p1 p2 p3 p4 p5 p6 (0:Int) (0:Int) (0:Int) (1:Int) (0:Int))))))))))))))
def yfY:ybP:=ymg yaN ycb yaT ycd yde
def yu0 (Q:Qx):Int→Int→Int→Prop:=(fun i0 i1 i2=>Q .ret [(6,.box (.agg [(.int .i64 i0),(.int .i64 i1)])),(7,.v (.int .i64 i2))] [])
def yu1 (Q:Qx):Int→Ls→Ls→Int→Int→Int→Int→Int→Int→Int→Int→Int→Bool→Prop:=(fun i0 l1 l2 i3 i4 i5 i6 i7 i8 i9 i10 i11 b12=>Q (.exit 0) [(3,.box (.agg [(.int .i64 i0),(.data l1),(.data l2)])),(4,.box (.agg [(.int .i64 i3),(.int .i64 i4)])),(5,.box (.agg [(.int .i64 i5),(.int .i64 i6)])),(6,.box (.agg [(.int .i64 i7),(.int .i64 i8)])),(8,.box (.agg [(.int .i64 i9),(.int .i64 i10)])),(9,.v (.int .i64 i11)),(41,.v (.bool b12))] [])
def pt28:Pat Sta:=pS hN (fX 3 pt16 (fX 4 pt7 (fX 5 pt7 (fX 6 pt7 (fX 8 pt7 (fV 9 pt0 fN)))))) fN
def ynX (a0:yai) (a1:yca) (a2:yal) (a3:ycc) (a4:yac) (Q:Qx):List St:=[⟨pt28,ydg a0 a1 a2 a3 a4 (yu0 Q) (yu1 Q)⟩]
def ysj (a0:yai) (a1:yca) (a2:yal) (a3:ycc) (a4:yac):LP:=lpS [(92446900,ynX a0 a1 a2 a3 a4)]
def ymh (e:Es) (a0:yai) (a1:yca) (a2:yal) (a3:ycc) (a4:yac):SE:=sE (E e) [(ybN,yjG.pw a0),(yd1,yA3.pw a1),(ya4,ylK.pw a2),(yeK,yA8.pw a3),(ye6,yds.pw a4)] (ysj a0 a1 a2 a3 a4)
theorem ypX (e:Es) (he:EG e):SEOk (Uni (E e)) (ymh e yaN ycb yaT ycd yde):=yah (Sub.uni _) ⟨(yhZ e he),(ysf e he),(yeQ e he),(ysi e he),(yqZ e he),trivial⟩ trivial he.ok
theorem ytA (e:Es) (a0 a1 a2 a3 a4):ybQ (ymh e a0 a1 a2 a3 a4) 5 a yln false (ynX a0 a1 a2 a3 a4):=fun _=>⟨fun _=>by kernel_rfl,fun _ _=>by kernel_rfl,trivial⟩
theorem ytB (e:Es) (he:EG e):LpT (Uni (E e)) (ysj yaN ycb yaT ycd yde) [] 92446900 (.loop 92446900 yln):=fun _ _ _=>yni.st (Sub.uni _) (yat (ypX e he) 5) (YOk.no _ _) (yaf (by kernel_rfl)) (ytA e _ _ _ _ _ _)
theorem yBb (e:Es) (a0 a1 a2 a3 a4):EqW (ymh e a0 a1 a2 a3 a4) 6 yDk yhW (ymg a0 a1 a2 a3 a4):=fun _ _=>by kernel_rfl
theorem ysk (e:Es) (he:EG e):OkF (E e) (yhW.pw yfY) yhr:=okU he (yBb e _ _ _ _ _) (ypX e he) yiy.flat (yaR (l:=[(92446900,.loop 92446900 yln)]) ⟨ytB e he,trivial⟩ (by kernel_rfl))
def ybJ (a0:yai) (a1:yca) (a2:yao) (a3:yae) (a4:yal) (a5:yaw) (a6:ycc) (a7:yac) (a8:yac) (a9:yac) (x0:Int→Int→Int→Prop) (x1:Int→Ls→Ls→Int→Int→Int→Int→Int→Int→Int→Int→Int→Bool→Prop):Nat→Int→Ls→Ls→Int→Int→Int→Int→Int→Int→Int→Int→Int→Prop
 | 0,_,_,_,_,_,_,_,_,_,_,_,_=>False
 | n+1,i0,l1,l2,i3,i4,i5,i6,i7,i8,i9,i10,i11 =>
 (cbr (decide (i11<(((List.length l2):Nat):Int)))
 (cbr (decide (i5>(0:Int)))
 (asr (decide ((0:Int)≤(IntKind.i64.wrap (i11+(1:Int)))))
 (asr (decide ((IntKind.i64.wrap (i11+(1:Int)))<(((List.length l1):Nat):Int)))
 (asr (conf (.one (.i .i64)) (List.getD l1 ((IntKind.i64.wrap (i11+(1:Int))).toNat) .nils))
 (a3 (yab (List.getD l1 ((IntKind.i64.wrap (i11+(1:Int))).toNat) .nils)) (fun a b =>
 (a4 i9 i10 a b (fun h =>
 (cbr (!h)
 (a5 i9 i10 a b (fun j k =>
 (ybJ a0 a1 a2 a3 a4 a5 a6 a7 a8 a9 x0 x1 n i0 l1 l2 i3 i4 i5 i6 i7 i8 j k (IntKind.i64.wrap (i11+(1:Int))))))
 (asr (decide ((0:Int)≤i11))
 (asr (decide (i11<(((List.length l2):Nat):Int)))
 (asr (conf (.one (.i .i64)) (List.getD l2 (i11.toNat) .nils))
 (cbr ((yab (List.getD l2 (i11.toNat) .nils)) ==(0:Int))
 (a5 i9 i10 a b (fun l m =>
 (ybJ a0 a1 a2 a3 a4 a5 a6 a7 a8 a9 x0 x1 n i0 l1 l2 i3 i4 i5 i6 i7 i8 l m (IntKind.i64.wrap (i11+(1:Int))))))
 (a6 i0 l1 l2 i11 i9 i10 a b (fun c d e =>
 (cbr (e !=(0:Int))
 (x0 (0:Int) (0:Int) e)
 (a4 c d i5 i6 (fun o =>
 (cbr (!o)
 (asr (decide ((0:Int)≤i11))
 (asr (decide (i11<(((List.length l2):Nat):Int)))
 (asr (conf (.one (.i .i64)) (List.getD l2 (i11.toNat) .nils))
 (a3 (yab (List.getD l2 (i11.toNat) .nils)) (fun p q =>
 (a7 i5 i6 p q (fun r s f =>
 (cbr (f !=(0:Int))
 (x0 (0:Int) (0:Int) f)
 (a8 i9 i10 r s (fun t u v =>
 (x0 t u v)))))))))))
 (a9 i5 i6 c d (fun w x g =>
 (cbr (g !=(0:Int))
 (x0 (0:Int) (0:Int) g)
 (ybJ a0 a1 a2 a3 a4 a5 a6 a7 a8 a9 x0 x1 n i0 l1 l2 i3 i4 w x i7 i8 a b (IntKind.i64.wrap (i11+(1:Int)))))))))))))))))))))))))
 (x1 i0 l1 l2 i3 i4 i5 i6 i7 i8 i9 i10 i11 false))
 (x1 i0 l1 l2 i3 i4 i5 i6 i7 i8 i9 i10 i11 false))
def ynY (a0:yai) (a1:yca) (a2:yao) (a3:yae) (a4:yal) (a5:yaw) (a6:ycc) (a7:yac) (a8:yac) (a9:yac) (p0:Int) (p1 p2:Ls) (p3 p4 p5 p6:Int) (K:Int→Int→Int→Prop):Prop :=
 (a0 p0 p1 p2 (fun a =>
 (cbr (a !=(0:Int))
 (a0 p0 p1 p2 (fun b =>
 (K (0:Int) (0:Int) b)))
 (a1 p0 p3 p4 (fun c =>
 (cbr (!c)
 (K (0:Int) (0:Int) (2:Int))
 (a2 p5 p6 (fun d =>
 (cbr (d !=(0:Int))
 (K (0:Int) (0:Int) (2:Int))
 (cbr (decide (p5<(0:Int)))
 (K (0:Int) (0:Int) (2:Int))
 (∃ n:Nat,ybJ a0 a1 a2 a3 a4 a5 a6 a7 a8 a9
 (fun e f g=>(K e f g))
 (fun _ _ _ h i j _ _ _ _ _ _ _=>(cbr (decide (j>(0:Int)))
 (K (0:Int) (0:Int) (6:Int))
 (K h i (0:Int))))
 n p0 p1 p2 p3 p4 p5 p6 (0:Int) (0:Int) p3 p4 (0:Int))))))))))))
def ygR:ybP:=ynY yaN ycb ydv ybl yaT yd4 ycd ygQ yde yfV
def ywZ (Q:Qx):Int→Int→Int→Prop:=(fun i0 i1 i2=>Q .ret [(6,.box (.agg [(.int .i64 i0),(.int .i64 i1)])),(7,.v (.int .i64 i2))] [])
def yw0 (Q:Qx):Int→Ls→Ls→Int→Int→Int→Int→Int→Int→Int→Int→Int→Bool→Prop:=(fun i0 l1 l2 i3 i4 i5 i6 i7 i8 i9 i10 i11 b12=>Q (.exit 0) [(3,.box (.agg [(.int .i64 i0),(.data l1),(.data l2)])),(4,.box (.agg [(.int .i64 i3),(.int .i64 i4)])),(5,.box (.agg [(.int .i64 i5),(.int .i64 i6)])),(6,.box (.agg [(.int .i64 i7),(.int .i64 i8)])),(8,.box (.agg [(.int .i64 i9),(.int .i64 i10)])),(9,.v (.int .i64 i11)),(47,.v (.bool b12))] [])
def ypY (a0:yai) (a1:yca) (a2:yao) (a3:yae) (a4:yal) (a5:yaw) (a6:ycc) (a7:yac) (a8:yac) (a9:yac) (Q:Qx):List St:=[⟨pt28,ybJ a0 a1 a2 a3 a4 a5 a6 a7 a8 a9 (ywZ Q) (yw0 Q)⟩]
def yuq (a0:yai) (a1:yca) (a2:yao) (a3:yae) (a4:yal) (a5:yaw) (a6:ycc) (a7:yac) (a8:yac) (a9:yac):LP:=lpS [(63725400,ypY a0 a1 a2 a3 a4 a5 a6 a7 a8 a9)]
def ynZ (e:Es) (a0:yai) (a1:yca) (a2:yao) (a3:yae) (a4:yal) (a5:yaw) (a6:ycc) (a7:yac) (a8:yac) (a9:yac):SE:=sE (E e) [(ybN,yjG.pw a0),(yd1,yA3.pw a1),(ybX,ynp.pw a2),(ycA,yjJ.pw a3),(ya4,ylK.pw a4),(yeJ,ysg.pw a5),(yeK,yA8.pw a6),(ykp,yds.pw a7),(ye6,yds.pw a8),(ygI,yds.pw a9)] (yuq a0 a1 a2 a3 a4 a5 a6 a7 a8 a9)
theorem ysl (e:Es) (he:EG e):SEOk (Uni (E e)) (ynZ e yaN ycb ydv ybl yaT yd4 ycd ygQ yde yfV):=yah (Sub.uni _) ⟨(yhZ e he),(ysf e he),(ylT e he),(ykz e he),(yeQ e he),(ysh e he),(ysi e he),(yGa e he),(yqZ e he),(ywX e he),trivial⟩ trivial he.ok
theorem yu2 (e:Es) (a0 a1 a2 a3 a4 a5 a6 a7 a8 a9):ybQ (ynZ e a0 a1 a2 a3 a4 a5 a6 a7 a8 a9) 5 a ylo false (ypY a0 a1 a2 a3 a4 a5 a6 a7 a8 a9):=fun _=>⟨fun _=>by kernel_rfl,fun _ _=>by kernel_rfl,trivial⟩
theorem yu3 (e:Es) (he:EG e):LpT (Uni (E e)) (yuq yaN ycb ydv ybl yaT yd4 ycd ygQ yde yfV) [] 63725400 (.loop 63725400 ylo):=fun _ _ _=>yni.st (Sub.uni _) (yat (ysl e he) 5) (YOk.no _ _) (yaf (by kernel_rfl)) (yu2 e _ _ _ _ _ _ _ _ _ _ _)
theorem yDM (e:Es) (a0 a1 a2 a3 a4 a5 a6 a7 a8 a9):EqW (ynZ e a0 a1 a2 a3 a4 a5 a6 a7 a8 a9) 6 yFD yhW (ynY a0 a1 a2 a3 a4 a5 a6 a7 a8 a9):=fun _ _=>by kernel_rfl
theorem yur (e:Es) (he:EG e):OkF (E e) (yhW.pw ygR) yiE:=okU he (yDM e _ _ _ _ _ _ _ _ _ _) (ysl e he) yiy.flat (yaR (l:=[(63725400,.loop 63725400 ylo)]) ⟨yu3 e he,trivial⟩ (by kernel_rfl))
end Go.Pf.Vc
namespace Go.Pf.Vc
open Go Go.Pf
set_option linter.unusedVariables false
theorem yys (p0:Int) (p1:Ls) (p2:Ls) (r0:Int) (h:∀ K:Int→Prop,K r0→yaN p0 p1 p2 K) (K:Int→Prop):yaN p0 p1 p2 K=K r0 :=
 propext ⟨fun k=>detC (yhZ [] yaG) (as:=[(.agg [(.int .i64 p0),(.data p1),(.data p2)])]) (x:=(.int .i64 r0)) (fun K' k'=>h (fun r0=>K' (.int .i64 r0)) k') (K:=fun x=>match x with | (.int .i64 r0)=>K r0 | _=>False) k,h K⟩
theorem yyt (p0:Int) (p1:Ls) (p2:Ls) (r0:Int) (h:∀ K:Int→Prop,K r0→yfX p0 p1 p2 K) (K:Int→Prop):yfX p0 p1 p2 K=K r0 :=
 propext ⟨fun k=>detC (yse [] yaG) (as:=[(.agg [(.int .i64 p0),(.data p1),(.data p2)])]) (x:=(.int .i64 r0)) (fun K' k'=>h (fun r0=>K' (.int .i64 r0)) k') (K:=fun x=>match x with | (.int .i64 r0)=>K r0 | _=>False) k,h K⟩
theorem yyu (p0:Int) (p1:Ls) (p2:Ls) (p3:Int) (p4:Int) (p5:Int) (p6:Int) (r0:Int) (r1:Int) (r2:Int) (h:∀ K:Int→Int→Int→Prop,K r0 r1 r2→yfY p0 p1 p2 p3 p4 p5 p6 K) (K:Int→Int→Int→Prop):yfY p0 p1 p2 p3 p4 p5 p6 K=K r0 r1 r2 :=
 propext ⟨fun k=>detC (ysk [] yaG) (as:=[(.agg [(.int .i64 p0),(.data p1),(.data p2)]),(.agg [(.int .i64 p3),(.int .i64 p4)]),(.agg [(.int .i64 p5),(.int .i64 p6)])]) (x:=(.tup [(.agg [(.int .i64 r0),(.int .i64 r1)]),(.int .i64 r2)])) (fun K' k'=>h (fun r0 r1 r2=>K' (.tup [(.agg [(.int .i64 r0),(.int .i64 r1)]),(.int .i64 r2)])) k') (K:=fun x=>match x with | (.tup [(.agg [(.int .i64 r0),(.int .i64 r1)]),(.int .i64 r2)])=>K r0 r1 r2 | _=>False) k,h K⟩
theorem yBc (p0:Int) (p1:Ls) (p2:Ls) (p3:Int) (p4:Int) (p5:Int) (p6:Int) (r0:Int) (r1:Int) (r2:Int) (h:∀ K:Int→Int→Int→Prop,K r0 r1 r2→ygR p0 p1 p2 p3 p4 p5 p6 K) (K:Int→Int→Int→Prop):ygR p0 p1 p2 p3 p4 p5 p6 K=K r0 r1 r2 :=
 propext ⟨fun k=>detC (yur [] yaG) (as:=[(.agg [(.int .i64 p0),(.data p1),(.data p2)]),(.agg [(.int .i64 p3),(.int .i64 p4)]),(.agg [(.int .i64 p5),(.int .i64 p6)])]) (x:=(.tup [(.agg [(.int .i64 r0),(.int .i64 r1)]),(.int .i64 r2)])) (fun K' k'=>h (fun r0 r1 r2=>K' (.tup [(.agg [(.int .i64 r0),(.int .i64 r1)]),(.int .i64 r2)])) k') (K:=fun x=>match x with | (.tup [(.agg [(.int .i64 r0),(.int .i64 r1)]),(.int .i64 r2)])=>K r0 r1 r2 | _=>False) k,h K⟩
end Go.Pf.Vc
namespace Go.Pf.Vc
open Go Go.Pf
set_option maxRecDepth 100000
abbrev ygS:Type:=Ls→(Bool→Prop)→Prop
def ybD (a0:yfW) (x0:Bool→Prop) (x1:Ls→Int→Bool→Prop):Nat→Ls→Int→Prop
 | 0,_,_=>False
 | n+1,l0,i1 =>
 (cbr (decide (i1<(((List.length l0):Nat):Int)))
 (asr (decide ((0:Int)≤i1))
 (asr (decide (i1<(((List.length l0):Nat):Int)))
 (asr (conf (.agg [.i .i64,.d,.d]) (List.getD l0 (i1.toNat) .nils))
 (a0 (yab (yak (List.getD l0 (i1.toNat) .nils) 0)) (ybb (yak (List.getD l0 (i1.toNat) .nils) 1)) (ybb (yak (List.getD l0 (i1.toNat) .nils) 2)) (fun a =>
 (cbr a
 (x0 true)
 (ybD a0 x0 x1 n l0 (IntKind.i64.wrap (i1+(1:Int))))))))))
 (x1 l0 i1 false))
def ygu (a0:yfW) (p0:Ls) (K:Bool→Prop):Prop :=
 (∃ n:Nat,ybD a0
 (fun a=>(K a))
 (fun b _ _=>(K (decide ((((List.length b):Nat):Int)>(10:Int)))))
 n p0 (0:Int))
def ycW:ygS:=ygu yeR
def ysm:Sg:=⟨pt9,Bool→Prop,fun K=>(fun r0=>K (.bool r0))⟩
def yn2 (Q:Qx):Bool→Prop:=(fun b0=>Q .ret [(2,.v (.bool b0))] [])
def yn3 (Q:Qx):Ls→Int→Bool→Prop:=(fun l0 i1 b2=>Q (.exit 0) [(0,.v (.data l0)),(3,.v (.int .i64 i1)),(7,.v (.bool b2))] [])
def yhL (a0:yfW) (Q:Qx):List St:=[⟨(pS hN (fV 0 vD (fV 3 pt0 fN)) fN),ybD a0 (yn2 Q) (yn3 Q)⟩]
def yjn (a0:yfW):LP:=lpS [(4277600,yhL a0)]
def ygv (e:Es) (a0:yfW):SE:=sE (E e) [(yhj,yAX.pw a0)] (yjn a0)
theorem yiQ (e:Es) (he:EG e):SEOk (Uni (E e)) (ygv e yeR):=yah (Sub.uni _) ⟨(yA0 e he),trivial⟩ trivial he.ok
theorem ym3 (e:Es) (a0):ybQ (ygv e a0) 5 a yoO false (yhL a0):=fun _=>⟨fun _=>by kernel_rfl,fun _ _=>by kernel_rfl,trivial⟩
theorem ym4 (e:Es) (he:EG e):LpT (Uni (E e)) (yjn yeR) [] 4277600 (.loop 4277600 yoO):=fun _ _ _=>yni.st (Sub.uni _) (yat (yiQ e he) 5) (YOk.no _ _) (yaf (by kernel_rfl)) (ym3 e _ _)
theorem ysn (e:Es) (a0):EqW (ygv e a0) 6 ys8 ysm (ygu a0):=fun _ _=>by kernel_rfl
theorem yjo (e:Es) (he:EG e):OkF (E e) (ysm.pw ycW) ydL:=okU he (ysn e _) (yiQ e he) yiy.flat (yaR (l:=[(4277600,.loop 4277600 yoO)]) ⟨ym4 e he,trivial⟩ (by kernel_rfl))
def ydh (a0:yai) (a:Int→Prop) (b:Ls→Ls→Int→Bool→Prop):Nat→Ls→Ls→Int→Prop
 | 0,_,_,_=>False
 | c+1,l0,l1,i2 =>
 (cbr (decide (i2<(((List.length l0):Nat):Int)))
 (asr (decide ((0:Int)≤i2))
 (asr (decide (i2<(((List.length l0):Nat):Int)))
 (asr (conf (.agg [.i .i64,.d,.d]) (List.getD l0 (i2.toNat) .nils))
 (a0 (yab (yak (List.getD l0 (i2.toNat) .nils) 0)) (ybb (yak (List.getD l0 (i2.toNat) .nils) 1)) (ybb (yak (List.getD l0 (i2.toNat) .nils) 2)) (fun e =>
 (cbr (e !=(0:Int))
 (asr (decide ((0:Int)≤i2))
 (asr (decide (i2<(((List.length l0):Nat):Int)))
 (asr (conf (.agg [.i .i64,.d,.d]) (List.getD l0 (i2.toNat) .nils))
 (a0 (yab (yak (List.getD l0 (i2.toNat) .nils) 0)) (ybb (yak (List.getD l0 (i2.toNat) .nils) 1)) (ybb (yak (List.getD l0 (i2.toNat) .nils) 2)) (fun f =>
 (a f))))))
 (ydh a0 a b c l0 l1 (IntKind.i64.wrap (i2+(1:Int))))))))))
 (b l0 l1 i2 false))
def ycu (a0:yai) (a:Int→Prop) (b:Ls→Ls→Int→Bool→Prop):Nat→Ls→Ls→Int→Prop
 | 0,_,_,_=>False
 | c+1,l0,l1,i2 =>
 (cbr (decide (i2<(((List.length l0):Nat):Int)))
 (asr (decide ((0:Int)≤i2))
 (asr (decide (i2<(((List.length l0):Nat):Int)))
 (asr (conf (.agg [.i .i64,.d,.d]) (List.getD l0 (i2.toNat) .nils))
 (asr (decide ((0:Int)<(((List.length l0):Nat):Int)))
 (asr (conf (.agg [.i .i64,.d,.d]) (List.getD l0 0 .nils))
 (cbr ((yab (yak (List.getD l0 (i2.toNat) .nils) 0)) !=(yab (yak (List.getD l0 0 .nils) 0)))
 (a (8:Int))
 (ycu a0 a b c l0 l1 (IntKind.i64.wrap (i2+(1:Int))))))))))
 (b l0 l1 i2 false))
def ymi (a0:yai) (p0 p1:Ls) (K:Int→Prop):Prop :=
 (cbr (decide ((((List.length p0):Nat):Int)>(6:Int)))
 (K (4:Int))
 (cbr (decide ((((List.length p1):Nat):Int)>(2000:Int)))
 (K (4:Int))
 (cbr ((((List.length p0):Nat):Int) ==(0:Int))
 (K (8:Int))
 (∃ a:Nat,ydh a0
 (fun b=>(K b))
 (fun c d _ _=>(∃ e:Nat,ycu a0
 (fun f=>(K f))
 (fun _ _ _ _=>(K (0:Int)))
 e c d (0:Int)))
 a p0 p1 (0:Int)))))
def yeS:ybh:=ymi yaN
def yu4 (Q:Qx):Int→Prop:=(fun i0=>Q .ret [(2,.v (.int .i64 i0))] [])
def yu5 (Q:Qx):Ls→Ls→Int→Bool→Prop:=(fun l0 l1 i2 b3=>Q (.exit 0) [(1,.box (.agg [(.data l0),(.data l1)])),(3,.v (.int .i64 i2)),(23,.v (.bool b3))] [])
def yu6 (Q:Qx):Int→Prop:=(fun i0=>Q .ret [(2,.v (.int .i64 i0))] [])
def yu7 (Q:Qx):Ls→Ls→Int→Bool→Prop:=(fun l0 l1 i2 b3=>Q (.exit 2) [(1,.box (.agg [(.data l0),(.data l1)])),(4,.v (.int .i64 i2)),(43,.v (.bool b3))] [])
def yn4 (a0:yai) (Q:Qx):List St:=[⟨(pS hN (fX 1 pt23 (fV 3 pt0 fN)) fN),ydh a0 (yu4 Q) (yu5 Q)⟩]
def yn5 (a0:yai) (Q:Qx):List St:=[⟨(pS hN (fX 1 pt23 pt13) fN),ycu a0 (yu6 Q) (yu7 Q)⟩]
def ymj (a0:yai):LP:=lpS [(6981300,yn4 a0),(6981301,yn5 a0)]
def yh1 (e:Es) (a0:yai):SE:=sE (E e) [(ybN,yjG.pw a0)] (ymj a0)
theorem yjS (e:Es) (he:EG e):SEOk (Uni (E e)) (yh1 e yaN):=yah (Sub.uni _) ⟨(yhZ e he),trivial⟩ trivial he.ok
theorem ytC (e:Es) (a0):ybQ (yh1 e a0) 5 a yoP false (yn4 a0):=fun _=>⟨fun _=>by kernel_rfl,fun _ _=>by kernel_rfl,trivial⟩
theorem ytD (e:Es) (he:EG e):LpT (Uni (E e)) (ymj yaN) [] 6981300 (.loop 6981300 yoP):=fun _ _ _=>yni.st (Sub.uni _) (yat (yjS e he) 5) (YOk.no _ _) (yaf (by kernel_rfl)) (ytC e _ _)
theorem ytE (e:Es) (a0):ybQ (yh1 e a0) 5 a yoQ false (yn5 a0):=fun _=>⟨fun _=>by kernel_rfl,fun _ _=>by kernel_rfl,trivial⟩
theorem ytF (e:Es) (he:EG e):LpT (Uni (E e)) (ymj yaN) [] 6981301 (.loop 6981301 yoQ):=fun _ _ _=>yni.st (Sub.uni _) (yat (yjS e he) 5) (YOk.no _ _) (yaf (by kernel_rfl)) (ytE e _ _)
theorem yBd (e:Es) (a0):EqW (yh1 e a0) 6 yC8 yrZ (ymi a0):=fun _ _=>by kernel_rfl
theorem ymk (e:Es) (he:EG e):OkF (E e) (yrZ.pw yeS) ydo:=okU he (yBd e _) (yjS e he) yiy.flat (yaR (l:=[(6981300,.loop 6981300 yoP),(6981301,.loop 6981301 yoQ)]) ⟨ytD e he,ytF e he,trivial⟩ (by kernel_rfl))
mutual
def yfv (a0:yfG) (x0:Ls→Ls→Int→Bool→Prop) (x1:Ls→Int→Bool→Prop):Nat→Ls→Int→Prop
 | 0,_,_=>False
 | n+1,l0,i1 =>
 (cbr (decide (i1<(((List.length l0):Nat):Int)))
 (asr (decide ((0:Int)≤i1))
 (asr (decide (i1<(((List.length l0):Nat):Int)))
 (asr (conf (.agg [.i .i64,.d,.d]) (List.getD l0 (i1.toNat) .nils))
 (a0 (yab (yak (List.getD l0 (i1.toNat) .nils) 0)) (ybb (yak (List.getD l0 (i1.toNat) .nils) 1)) (ybb (yak (List.getD l0 (i1.toNat) .nils) 2)) (fun a b c =>
 (asr (decide (1=List.length ([(.agg [(.int .i64 a),(.data b),(.data c)])]:Ls))&&decide (1=List.length ([(.agg [(.int .i64 a),(.data b),(.data c)])]:Ls)))
 (ydi a0 x0 x1 n ([(.agg [(.int .i64 a),(.data b),(.data c)])]:Ls) l0 (IntKind.i64.wrap (i1+(1:Int))))))))))
 (x1 l0 i1 false))
def ydi (a0:yfG) (x0:Ls→Ls→Int→Bool→Prop) (x1:Ls→Int→Bool→Prop):Nat→Ls→Ls→Int→Prop
 | 0,_,_,_=>False
 | n+1,l0,l1,i4 =>
 (cbr (decide (i4<(((List.length l1):Nat):Int)))
 (asr (decide ((0:Int)≤i4))
 (asr (decide (i4<(((List.length l1):Nat):Int)))
 (asr (conf (.agg [.i .i64,.d,.d]) (List.getD l1 (i4.toNat) .nils))
 (a0 (yab (yak (List.getD l1 (i4.toNat) .nils) 0)) (ybb (yak (List.getD l1 (i4.toNat) .nils) 1)) (ybb (yak (List.getD l1 (i4.toNat) .nils) 2)) (fun a b c =>
 (asr (decide ((List.length l0)=(List.length l0)))
 (asr (decide ((0+(List.length l0))≤(List.length l0)))
 (asr (!(decide (((0+(List.length l0))+1)≤(List.length l0))))
 (asr (decide ((List.length l0)=(List.length l0)))
 (asr (decide ((((List.length l0)+1)+64)*(56+1)≤room))
 (asr (decide ((List.length (l0++([(.agg [(.int .i64 a),(.data b),(.data c)])]:Ls)))=List.length (l0++([(.agg [(.int .i64 a),(.data b),(.data c)])]:Ls)))&&decide ((List.length (l0++([(.agg [(.int .i64 a),(.data b),(.data c)])]:Ls)))=List.length (l0++([(.agg [(.int .i64 a),(.data b),(.data c)])]:Ls))))
 (ydi a0 x0 x1 n (l0++([(.agg [(.int .i64 a),(.data b),(.data c)])]:Ls)) l1 (IntKind.i64.wrap (i4+(1:Int)))))))))))))))
 (x0 l0 l1 i4 false))
end
def yml (a0:yfG) (p0:Ls) (K:Ls→Prop):Prop :=
 (∃ n:Nat,yfv a0
 (fun a _ _ _=>(asr (decide ((List.length a)=(List.length a)))
 (asr (decide ((0+(List.length a))≤(List.length a)))
 (K (List.take (List.length a) a)))))
 (fun _ _ _=>(K ([]:Ls)))
 n p0 (0:Int))
def yeT:ybr:=yml yfH
def ymR (Q:Qx):Ls→Ls→Int→Bool→Prop:=(fun l0 l1 i4 b5=>Q (.exit 0) [(0,.v (.data l1)),(3,.v (.own 0 0 (List.length l0) (List.length l0) none)),(4,.v (.int .i64 i4)),(8,.v (.bool b5))] [⟨false,true,3,l0⟩])
def ymS (Q:Qx):Ls→Int→Bool→Prop:=(fun l0 i1 b2=>Q (.exit 0) [(0,.v (.data l0)),(3,.v .nils),(4,.v (.int .i64 i1)),(8,.v (.bool b2))] [])
def yn6 (a0:yfG) (Q:Qx):List St:=[⟨(pS hN (fV 0 vD (fV 3 vNs pt13)) fN),yfv a0 (ymR Q) (ymS Q)⟩,⟨(pS (hB false true 3 rA hN) (fV 0 vD (fV 3 pt24 pt13)) fN),ydi a0 (ymR Q) (ymS Q)⟩]
def yso (a0:yfG):LP:=lpS [(44560800,yn6 a0)]
def ymm (e:Es) (a0:yfG):SE:=sE (E e) [(yiB,yDI.pw a0)] (yso a0)
theorem ypZ (e:Es) (he:EG e):SEOk (Uni (E e)) (ymm e yfH):=yah (Sub.uni _) ⟨(yDL e he),trivial⟩ trivial he.ok
theorem ytG (e:Es) (a0):ybQ (ymm e a0) 5 a ylj false (yn6 a0):=fun _=>⟨fun _=>by kernel_rfl,fun _ _=>by kernel_rfl,fun _=>by kernel_rfl,fun _ _=>by kernel_rfl,trivial⟩
theorem ytH (e:Es) (he:EG e):LpT (Uni (E e)) (yso yfH) [] 44560800 (.loop 44560800 ylj):=fun _ _ _=>yni.st (Sub.uni _) (yat (ypZ e he) 5) (YOk.no _ _) (yaf (by kernel_rfl)) (ytG e _ _)
theorem yBe (e:Es) (a0):EqW (ymm e a0) 6 yC9 ypS (yml a0):=fun _ _=>by kernel_rfl
theorem ymn (e:Es) (he:EG e):OkF (E e) (ypS.pw yeT) yeG:=okU he (yBe e _) (ypZ e he) yiy.flat (yaR (l:=[(44560800,.loop 44560800 ylj)]) ⟨ytH e he,trivial⟩ (by kernel_rfl))
def yn7 (a0:ybh) (a1:ybr) (p0:Ls) (K:Ls→Ls→Int→Prop):Prop :=
 (a0 p0 ([]:Ls) (fun a =>
 (cbr (a !=(0:Int))
 (a0 p0 ([]:Ls) (fun b =>
 (K ([]:Ls) ([]:Ls) b)))
 (a1 p0 (fun c =>
 (K c ([]:Ls) (0:Int)))))))
def ydC:yaE:=yn7 yeS yeT
def yDN (e:Es) (a0:ybh) (a1:ybr):SE:=sE (E e) [(ydo,yrZ.pw a0),(yeG,ypS.pw a1)] lp0
theorem yDO (e:Es) (a0 a1):EqW (yDN e a0 a1) 6 yFw yuj (yn7 a0 a1):=fun _ _=>by kernel_rfl
theorem yDP (e:Es) (he:EG e):OkF (E e) (yuj.pw ydC) yiC:=okU he (yDO e _ _) (yah (Sub.uni _) ⟨(ymk e he),(ymn e he),trivial⟩ trivial he.ok) yiy.flat (yaf (by kernel_rfl))
def ymo (p0 _:Ls) (p2:Int) (K:Bool→Prop):Prop :=
 (cbr (decide (p2≥(0:Int)))
 (K (decide (p2<(((List.length p0):Nat):Int))))
 (K false))
def yjp:ya1:=ymo
def yBf (e:Es):SE:=sE (E e) [] lp0
theorem yBg (e:Es):EqW (yBf e) 6 yDc yjk ymo:=fun _ _=>by kernel_rfl
theorem yBh (e:Es) (he:EG e):OkF (E e) (yjk.pw yjp) yhq:=okU he (yBg e) (yah (Sub.uni _) trivial trivial he.ok) yiy.flat (yaf (by kernel_rfl))
abbrev ymp:Type:=Ls→Int→Int→Int→Int→Int→Int→Int→Int→(Int→Int→Int→Prop)→Prop
def yjT (a0:ybP) (a1:ybP) (p0:Ls) (p1 p2 p3 p4 p5 p6 _ _:Int) (K:Int→Int→Int→Prop):Prop :=
 (cbr (p2 ==(1:Int))
 (asr (decide ((0:Int)≤p1))
 (asr (decide (p1<(((List.length p0):Nat):Int)))
 (asr (conf (.agg [.i .i64,.d,.d]) (List.getD p0 (p1.toNat) .nils))
 (a0 (yab (yak (List.getD p0 (p1.toNat) .nils) 0)) (ybb (yak (List.getD p0 (p1.toNat) .nils) 1)) (ybb (yak (List.getD p0 (p1.toNat) .nils) 2)) p3 p4 p5 p6 (fun a b c =>
 (K a b c))))))
 (asr (decide ((0:Int)≤p1))
 (asr (decide (p1<(((List.length p0):Nat):Int)))
 (asr (conf (.agg [.i .i64,.d,.d]) (List.getD p0 (p1.toNat) .nils))
 (a1 (yab (yak (List.getD p0 (p1.toNat) .nils) 0)) (ybb (yak (List.getD p0 (p1.toNat) .nils) 1)) (ybb (yak (List.getD p0 (p1.toNat) .nils) 2)) p3 p4 p5 p6 (fun e f g =>
 (K e f g)))))))
def yh2:ymp:=yjT yfY ygR
def pt29:LPt:=lC pt0 (lC pt0 (lC pt0 (lC pt0 pt6)))
def pt30:LPt:=lC (vA (lC pt0 (lC (vI IntKind.u8) pt29))) lN
def yyv:Sg:=⟨(lC vD pt30),Int→Int→Int→Prop,fun K=>(fun r0 r1 r2=>K (.tup [(.agg [(.int .i64 r0),(.int .i64 r1)]),(.int .i64 r2)]))⟩
def yyw (e:Es) (a0:ybP) (a1:ybP):SE:=sE (E e) [(yhr,yhW.pw a0),(yiE,yhW.pw a1)] lp0
theorem yyx (e:Es) (a0 a1):EqW (yyw e a0 a1) 6 yAp yyv (yjT a0 a1):=fun _ _=>by kernel_rfl
theorem yyy (e:Es) (he:EG e):OkF (E e) (yyv.pw yh2) ygm:=okU he (yyx e _ _) (yah (Sub.uni _) ⟨(ysk e he),(yur e he),trivial⟩ trivial he.ok) yiy.flat (yaf (by kernel_rfl))
abbrev yhv:Type:=Ls→Ls→Int→Int→Int→Int→Int→Int→Int→Int→(Ls→Ls→Int→Int→Int→Prop)→Prop
def ymq (a0:ybh) (a1:ya1) (a2:ymp) (a3:ybr) (p0 p1:Ls) (p2 p3 p4 p5 p6 p7 p8 p9:Int) (K:Ls→Ls→Int→Int→Int→Prop):Prop :=
 (a0 p0 p1 (fun e =>
 (cbr (e !=(0:Int))
 (a0 p0 p1 (fun f =>
 (K ([]:Ls) ([]:Ls) (0:Int) (0:Int) f)))
 (a1 p0 p1 p2 (fun g =>
 (cbr (!g)
 (K ([]:Ls) ([]:Ls) (0:Int) (0:Int) (2:Int))
 (a2 p0 p2 p3 p4 p5 p6 p7 p8 p9 (fun a b c =>
 (cbr (c !=(0:Int))
 (K ([]:Ls) ([]:Ls) (0:Int) (0:Int) c)
 (cbr ((((List.length p1):Nat):Int) ==(2000:Int))
 (K ([]:Ls) ([]:Ls) (0:Int) (0:Int) (4:Int))
 (a3 p0 (fun d =>
 (asr (ybR 8 p1)
 (cbr (List.isEmpty p1)
 (K d ([(.agg [(.int .i64 p2),(.int .u8 p3),(.int .i64 p4),(.int .i64 p5),(.int .i64 p6),(.int .i64 p7),(.int .i64 a),(.int .i64 b)])]:Ls) a b (0:Int))
 (asr (decide (((List.length p1)+64)*(64+1)≤room))
 (asr (decide ((List.length p1)=(List.length p1)))
 (asr (decide ((0+(List.length p1))≤(List.length p1)))
 (asr (!(decide (((0+(List.length p1))+1)≤(List.length p1))))
 (asr (decide ((List.length p1)=(List.length p1)))
 (asr (decide ((((List.length p1)+1)+64)*(64+1)≤room))
 (asr (decide ((List.length (p1++([(.agg [(.int .i64 p2),(.int .u8 p3),(.int .i64 p4),(.int .i64 p5),(.int .i64 p6),(.int .i64 p7),(.int .i64 a),(.int .i64 b)])]:Ls)))=(List.length (p1++([(.agg [(.int .i64 p2),(.int .u8 p3),(.int .i64 p4),(.int .i64 p5),(.int .i64 p6),(.int .i64 p7),(.int .i64 a),(.int .i64 b)])]:Ls)))))
 (asr (decide ((0+(List.length (p1++([(.agg [(.int .i64 p2),(.int .u8 p3),(.int .i64 p4),(.int .i64 p5),(.int .i64 p6),(.int .i64 p7),(.int .i64 a),(.int .i64 b)])]:Ls))))≤(List.length (p1++([(.agg [(.int .i64 p2),(.int .u8 p3),(.int .i64 p4),(.int .i64 p5),(.int .i64 p6),(.int .i64 p7),(.int .i64 a),(.int .i64 b)])]:Ls)))))
 (K d (List.take (List.length (p1++([(.agg [(.int .i64 p2),(.int .u8 p3),(.int .i64 p4),(.int .i64 p5),(.int .i64 p6),(.int .i64 p7),(.int .i64 a),(.int .i64 b)])]:Ls))) (p1++([(.agg [(.int .i64 p2),(.int .u8 p3),(.int .i64 p4),(.int .i64 p5),(.int .i64 p6),(.int .i64 p7),(.int .i64 a),(.int .i64 b)])]:Ls))) a b (0:Int))))))))))))))))))))))))
def yeU:yhv:=ymq yeS yjp yh2 yeT
def yBi:Sg:=⟨(lC pt23 pt30),Ls→Ls→Int→Int→Int→Prop,fun K=>(fun r0 r1 r2 r3 r4=>K (.tup [(.agg [(.data r0),(.data r1)]),(.agg [(.int .i64 r2),(.int .i64 r3)]),(.int .i64 r4)]))⟩
def yBj (e:Es) (a0:ybh) (a1:ya1) (a2:ymp) (a3:ybr):SE:=sE (E e) [(ydo,yrZ.pw a0),(yhq,yjk.pw a1),(ygm,yyv.pw a2),(yeG,ypS.pw a3)] lp0
theorem yBk (e:Es) (a0 a1 a2 a3):EqW (yBj e a0 a1 a2 a3) 6 yDl yBi (ymq a0 a1 a2 a3):=fun _ _=>by kernel_rfl
theorem ymr (e:Es) (he:EG e):OkF (E e) (yBi.pw yeU) yeL:=okU he (yBk e _ _ _ _) (yah (Sub.uni _) ⟨(ymk e he),(yBh e he),(yyy e he),(ymn e he),trivial⟩ trivial he.ok) yiy.flat (yaf (by kernel_rfl))
def yn8 (a0:yhv) (p0 p1:Ls) (p2 p3 p4 p5 p6:Int) (K:Ls→Ls→Int→Int→Int→Prop):Prop :=
 (a0 p0 p1 p2 (2:Int) p3 p4 p5 p6 (0:Int) (0:Int) (fun a b c d e =>
 (K a b c d e)))
def yee:yaH:=yn8 yeU
def yDQ (e:Es) (a0:yhv):SE:=sE (E e) [(yeL,yBi.pw a0)] lp0
theorem yDR (e:Es) (a0):EqW (yDQ e a0) 6 yFE yjl (yn8 a0):=fun _ _=>by kernel_rfl
theorem yDS (e:Es) (he:EG e):OkF (E e) (yjl.pw yee) ygK:=okU he (yDR e _) (yah (Sub.uni _) ⟨(ymr e he),trivial⟩ trivial he.ok) yiy.flat (yaf (by kernel_rfl))
def yms (a0:yhv) (p0 p1:Ls) (p2 p3 p4 p5 p6:Int) (K:Ls→Ls→Int→Int→Int→Prop):Prop :=
 (a0 p0 p1 p2 (1:Int) p3 p4 p5 p6 (0:Int) (0:Int) (fun a b c d e =>
 (K a b c d e)))
def ydx:yaH:=yms yeU
def yBl (e:Es) (a0:yhv):SE:=sE (E e) [(yeL,yBi.pw a0)] lp0
theorem yBm (e:Es) (a0):EqW (yBl e a0) 6 yDm yjl (yms a0):=fun _ _=>by kernel_rfl
theorem yBn (e:Es) (he:EG e):OkF (E e) (yjl.pw ydx) yhs:=okU he (yBm e _) (yah (Sub.uni _) ⟨(ymr e he),trivial⟩ trivial he.ok) yiy.flat (yaf (by kernel_rfl))
abbrev yaK:Type:=Ls→Ls→(Bool→Prop)→Prop
def ybw (x0:Bool→Prop) (x1:Ls→Ls→Int→Bool→Prop):Nat→Ls→Ls→Int→Prop
 | 0,_,_,_=>False
 | n+1,l0,l1,i2 =>
 (cbr (decide (i2<(((List.length l0):Nat):Int)))
 (asr (decide ((0:Int)≤i2))
 (asr (decide (i2<(((List.length l0):Nat):Int)))
 (asr (conf (.agg [.i .i64,.i .u8,.i .i64,.i .i64,.i .i64,.i .i64,.i .i64,.i .i64]) (List.getD l0 (i2.toNat) .nils))
 (asr (decide ((0:Int)≤i2))
 (asr (decide (i2<(((List.length l1):Nat):Int)))
 (asr (conf (.agg [.i .i64,.i .u8,.i .i64,.i .i64,.i .i64,.i .i64,.i .i64,.i .i64]) (List.getD l1 (i2.toNat) .nils))
 (cbr (!(((yab (yak (List.getD l0 (i2.toNat) .nils) 0)) ==(yab (yak (List.getD l1 (i2.toNat) .nils) 0)))&&(((yab (yak (List.getD l0 (i2.toNat) .nils) 1)) ==(yab (yak (List.getD l1 (i2.toNat) .nils) 1)))&&(((yab (yak (List.getD l0 (i2.toNat) .nils) 2)) ==(yab (yak (List.getD l1 (i2.toNat) .nils) 2)))&&(((yab (yak (List.getD l0 (i2.toNat) .nils) 3)) ==(yab (yak (List.getD l1 (i2.toNat) .nils) 3)))&&(((yab (yak (List.getD l0 (i2.toNat) .nils) 4)) ==(yab (yak (List.getD l1 (i2.toNat) .nils) 4)))&&(((yab (yak (List.getD l0 (i2.toNat) .nils) 5)) ==(yab (yak (List.getD l1 (i2.toNat) .nils) 5)))&&(((yab (yak (List.getD l0 (i2.toNat) .nils) 6)) ==(yab (yak (List.getD l1 (i2.toNat) .nils) 6)))&&(((yab (yak (List.getD l0 (i2.toNat) .nils) 7)) ==(yab (yak (List.getD l1 (i2.toNat) .nils) 7)))&&true)))))))))
 (x0 false)
 (ybw x0 x1 n l0 l1 (IntKind.i64.wrap (i2+(1:Int)))))))))))
 (x1 l0 l1 i2 false))
def yhD (p0 p1:Ls) (K:Bool→Prop):Prop :=
 (cbr ((((List.length p0):Nat):Int) !=(((List.length p1):Nat):Int))
 (K false)
 (∃ n:Nat,ybw
 (fun a=>(K a))
 (fun _ _ _ _=>(K true))
 n p0 p1 (0:Int)))
def yce:yaK:=yhD
def yhE:Sg:=⟨pt15,Bool→Prop,fun K=>(fun r0=>K (.bool r0))⟩
def yq3 (Q:Qx):Bool→Prop:=(fun b0=>Q .ret [(4,.v (.bool b0))] [])
def yq4 (Q:Qx):Ls→Ls→Int→Bool→Prop:=(fun l0 l1 i2 b3=>Q (.exit 0) [(0,.v (.data l0)),(1,.v (.data l1)),(5,.v (.int .i64 i2)),(14,.v (.bool b3))] [])
def pt31:Pat Sta:=pS hN (fV 0 vD (fV 1 vD (fV 5 pt0 fN))) fN
def yjq (Q:Qx):List St:=[⟨pt31,ybw (yq3 Q) (yq4 Q)⟩]
def ymT:LP:=lpS [(11728400,yjq)]
def yhF (e:Es):SE:=sE (E e) [] (ymT)
theorem ykB (e:Es) (he:EG e):SEOk (Uni (E e)) (yhF e):=yah (Sub.uni _) trivial trivial he.ok
theorem ypi (e:Es):ybQ (yhF e) 5 a ylv false (yjq):=fun _=>⟨fun _=>by kernel_rfl,fun _ _=>by kernel_rfl,trivial⟩
theorem ypj (e:Es) (he:EG e):LpT (Uni (E e)) (ymT) [] 11728400 (.loop 11728400 ylv):=fun _ _ _=>yni.st (Sub.uni _) (yat (ykB e he) 5) (YOk.no _ _) (yaf (by kernel_rfl)) (ypi e _)
theorem yu8 (e:Es):EqW (yhF e) 6 ywD yhE yhD:=fun _ _=>by kernel_rfl
theorem ymU (e:Es) (he:EG e):OkF (E e) (yhE.pw yce) yeM:=okU he (yu8 e) (ykB e he) yiy.flat (yaR (l:=[(11728400,.loop 11728400 ylv)]) ⟨ypj e he,trivial⟩ (by kernel_rfl))
end Go.Pf.Vc
namespace Go.Pf.Vc
open Go Go.Pf
set_option linter.unusedVariables false
theorem yq5 (p0:Ls) (r0:Bool) (h:∀ K:Bool→Prop,K r0→ycW p0 K) (K:Bool→Prop):ycW p0 K=K r0 :=
 propext ⟨fun k=>detC (yjo [] yaG) (as:=[(.data p0)]) (x:=(.bool r0)) (fun K' k'=>h (fun r0=>K' (.bool r0)) k') (K:=fun x=>match x with | (.bool r0)=>K r0 | _=>False) k,h K⟩
theorem yyz (p0:Ls) (p1:Ls) (r0:Int) (h:∀ K:Int→Prop,K r0→yeS p0 p1 K) (K:Int→Prop):yeS p0 p1 K=K r0 :=
 propext ⟨fun k=>detC (ymk [] yaG) (as:=[(.agg [(.data p0),(.data p1)])]) (x:=(.int .i64 r0)) (fun K' k'=>h (fun r0=>K' (.int .i64 r0)) k') (K:=fun x=>match x with | (.int .i64 r0)=>K r0 | _=>False) k,h K⟩
theorem yyA (p0:Ls) (r0:Ls) (h:∀ K:Ls→Prop,K r0→yeT p0 K) (K:Ls→Prop):yeT p0 K=K r0 :=
 propext ⟨fun k=>detC (ymn [] yaG) (as:=[(.data p0)]) (x:=(.data r0)) (fun K' k'=>h (fun r0=>K' (.data r0)) k') (K:=fun x=>match x with | (.data r0)=>K r0 | _=>False) k,h K⟩
theorem yyB (p0:Ls) (p1:Ls) (p2:Int) (p3:Int) (p4:Int) (p5:Int) (p6:Int) (p7:Int) (p8:Int) (p9:Int) (r0:Ls) (r1:Ls) (r2:Int) (r3:Int) (r4:Int) (h:∀ K:Ls→Ls→Int→Int→Int→Prop,K r0 r1 r2 r3 r4→yeU p0 p1 p2 p3 p4 p5 p6 p7 p8 p9 K) (K:Ls→Ls→Int→Int→Int→Prop):yeU p0 p1 p2 p3 p4 p5 p6 p7 p8 p9 K=K r0 r1 r2 r3 r4 :=
 propext ⟨fun k=>detC (ymr [] yaG) (as:=[(.agg [(.data p0),(.data p1)]),(.agg [(.int .i64 p2),(.int .u8 p3),(.int .i64 p4),(.int .i64 p5),(.int .i64 p6),(.int .i64 p7),(.int .i64 p8),(.int .i64 p9)])]) (x:=(.tup [(.agg [(.data r0),(.data r1)]),(.agg [(.int .i64 r2),(.int .i64 r3)]),(.int .i64 r4)])) (fun K' k'=>h (fun r0 r1 r2 r3 r4=>K' (.tup [(.agg [(.data r0),(.data r1)]),(.agg [(.int .i64 r2),(.int .i64 r3)]),(.int .i64 r4)])) k') (K:=fun x=>match x with | (.tup [(.agg [(.data r0),(.data r1)]),(.agg [(.int .i64 r2),(.int .i64 r3)]),(.int .i64 r4)])=>K r0 r1 r2 r3 r4 | _=>False) k,h K⟩
theorem ytI (p0:Ls) (p1:Ls) (r0:Bool) (h:∀ K:Bool→Prop,K r0→yce p0 p1 K) (K:Bool→Prop):yce p0 p1 K=K r0 :=
 propext ⟨fun k=>detC (ymU [] yaG) (as:=[(.data p0),(.data p1)]) (x:=(.bool r0)) (fun K' k'=>h (fun r0=>K' (.bool r0)) k') (K:=fun x=>match x with | (.bool r0)=>K r0 | _=>False) k,h K⟩
end Go.Pf.Vc
namespace Go.Pf.Vc
open Go Go.Pf
set_option maxRecDepth 100000
def ysp (p0:Int) (K:Int→Int→Prop):Prop :=
 (jn (fun (a:Bool→Prop) =>
 (cbr (decide (p0<(1:Int)))
 (a true)
 (a (decide (p0>(6:Int))))))
 (fun b=>(cbr b
 (K (0:Int) (2:Int))
 (lt (IntKind.i64.wrap (p0*p0)) (fun c =>
 (lt (IntKind.i64.wrap (c-(1:Int))) (fun d =>
 (K d (0:Int)))))))))
def yn9:yae:=ysp
def ysq:Sg:=⟨pt1,Int→Int→Prop,fun K=>(fun r0 r1=>K (.tup [(.int .i64 r0),(.int .i64 r1)]))⟩
def yBo (e:Es):SE:=sE (E e) [] lp0
theorem yBp (e:Es):EqW (yBo e) 6 yCS ysq ysp:=fun _ _=>by kernel_rfl
theorem yBq (e:Es) (he:EG e):OkF (E e) (ysq.pw yn9) yhk:=okU he (yBp e) (yah (Sub.uni _) trivial trivial he.ok) yiy.flat (yaf (by kernel_rfl))
def ymt (a0:yai) (a1:ye7) (p0 _:Ls) (p2:Int) (K:Int→Int→Prop):Prop :=
 (asr (decide ((0:Int)≤p2))
 (asr (decide (p2<(((List.length p0):Nat):Int)))
 (asr (conf (.agg [.i .i64,.d,.d]) (List.getD p0 (p2.toNat) .nils))
 (a0 (yab (yak (List.getD p0 (p2.toNat) .nils) 0)) (ybb (yak (List.getD p0 (p2.toNat) .nils) 1)) (ybb (yak (List.getD p0 (p2.toNat) .nils) 2)) (fun a =>
 (a1 a (((List.length p0):Nat):Int) (fun b c _ =>
 (K b c))))))))
def ydy:ya8:=ymt yfX ylR
def ysr:Sg:=⟨pt25,Int→Int→Prop,fun K=>(fun r0 r1=>K (.agg [(.int .i64 r0),(.int .i64 r1)]))⟩
def yBr (e:Es) (a0:yai) (a1:ye7):SE:=sE (E e) [(yhp,yjG.pw a0),(yiD,ypF.pw a1)] lp0
theorem yBs (e:Es) (a0 a1):EqW (yBr e a0 a1) 6 yDb ysr (ymt a0 a1):=fun _ _=>by kernel_rfl
theorem yBt (e:Es) (he:EG e):OkF (E e) (ysr.pw ydy) yeH:=okU he (yBs e _ _) (yah (Sub.uni _) ⟨(yse e he),(yDx e he),trivial⟩ trivial he.ok) yiy.flat (yaf (by kernel_rfl))
abbrev ycf:Type:=Ls→Ls→Ls→Int→Int→(Ls→Ls→Int→Int→Int→Int→Int→Int→Int→Prop)→Prop
def ybs (a0:yae) (a1:ya8) (a2:yaH) (a3:yaH) (a4:yal) (x0:Ls→Ls→Ls→Int→Int→Int→Int→Int→Int→Int→Int→Int→Int→Int→Int→Int→Int→Int→Int→Bool→Prop):Nat→Ls→Ls→Ls→Int→Int→Int→Int→Int→Int→Int→Int→Int→Int→Int→Int→Int→Int→Int→Int→Prop
 | 0,_,_,_,_,_,_,_,_,_,_,_,_,_,_,_,_,_,_,_=>False
 | n+1,l0,l1,l2,i3,i4,i5,i6,i7,i8,i9,i10,i11,i12,i13,i14,i15,i16,i17,i18 =>
 (jn (fun (c:Bool→Prop) =>
 (cbr (decide (i18<(((List.length l0):Nat):Int)))
 (c (i17 ==(0:Int)))
 (c false)))
 (fun m=>(cbr m
 (jn (fun (d:Ls→Ls→Int→Int→Int→Int→Int→Prop) =>
 (asr (decide ((0:Int)≤i18))
 (asr (decide (i18<(((List.length l0):Nat):Int)))
 (lt (List.getD l0 (i18.toNat) .nils) (fun e =>
 (asr (conf (.one (.i .i64)) e)
 (a3 l1 l2 (yab e) i3 i4 i14 i15 (fun a b o p f =>
 (jn (fun (g:Bool→Prop) =>
 (cbr (f !=(0:Int))
 (g true)
 (asr (decide ((0:Int)≤i18))
 (asr (decide (i18<(((List.length l0):Nat):Int)))
 (lt (List.getD l0 (i18.toNat) .nils) (fun h =>
 (asr (conf (.one (.i .i64)) h)
 (a1 a b (yab h) (fun q r =>
 (a4 q r o p (fun s =>
 (g (!s)))))))))))))
 (fun t=>(cbr t
 (d a b i11 i14 i15 i16 f)
 (asr (decide ((0:Int)≤i18))
 (asr (decide (i18<(((List.length l0):Nat):Int)))
 (lt (List.getD l0 (i18.toNat) .nils) (fun j =>
 (asr (conf (.one (.i .i64)) j)
 (asr (decide ((0:Int)≤i18))
 (asr (decide (i18<(((List.length l0):Nat):Int)))
 (lt (List.getD l0 (i18.toNat) .nils) (fun k =>
 (asr (conf (.one (.i .i64)) k)
 (a1 a b (yab k) (fun u v =>
 (a2 a b (yab j) i3 i4 u v (fun w x y z A =>
 (asr (decide ((0:Int)≤i18))
 (asr (decide (i18<(((List.length l0):Nat):Int)))
 (lt (List.getD l0 (i18.toNat) .nils) (fun l =>
 (asr (conf (.one (.i .i64)) l)
 (lt (IntKind.i64.wrap (i16+(1:Int))) (fun B =>
 (d w x (yab l) y z B A)))))))))))))))))))))))))))))))))
 (fun C D E F G H I=>(lt (IntKind.i64.wrap (i18+(1:Int))) (fun J =>
 (ybs a0 a1 a2 a3 a4 x0 n l0 C D i3 i4 i5 i6 i7 i8 i9 i10 E i12 i13 F G H I J)))))
 (x0 l0 l1 l2 i3 i4 i5 i6 i7 i8 i9 i10 i11 i12 i13 i14 i15 i16 i17 i18 false))))
def ymu (a0:yae) (a1:ya8) (a2:yaH) (a3:yaH) (a4:yal) (p0 p1 p2:Ls) (p3 p4:Int) (K:Ls→Ls→Int→Int→Int→Int→Int→Int→Int→Prop):Prop :=
 (asr (decide ((0:Int)<(((List.length p2):Nat):Int)))
 (lt (List.getD p2 0 .nils) (fun a =>
 (asr (conf (.one (.i .i64)) a)
 (asr (decide ((0:Int)<(((List.length p0):Nat):Int)))
 (lt (List.getD p0 0 .nils) (fun b =>
 (asr (conf (.agg [.i .i64,.d,.d]) b)
 (a0 (yab (yak b 0)) (fun g h =>
 (cbr ((((List.length p2):Nat):Int) ==(1:Int))
 (K p0 p1 (yab a) p3 p4 g h (0:Int) (0:Int))
 (asr (decide ((0:Int)<(((List.length p2):Nat):Int)))
 (lt (List.getD p2 0 .nils) (fun c =>
 (asr (conf (.one (.i .i64)) c)
 (asr (decide ((0:Int)<(((List.length p2):Nat):Int)))
 (lt (List.getD p2 0 .nils) (fun e =>
 (asr (conf (.one (.i .i64)) e)
 (a1 p0 p1 (yab e) (fun j k =>
 (a2 p0 p1 (yab c) p3 p4 j k (fun l m o p q =>
 (∃ n:Nat,ybs a0 a1 a2 a3 a4
 (fun _ r s _ _ _ _ _ _ _ _ t u v w x y f _ _=>(cbr (f !=(0:Int))
 (K ([]:Ls) ([]:Ls) (0:Int) (0:Int) (0:Int) (0:Int) (0:Int) (0:Int) f)
 (K r s t u v w x y (0:Int))))
 n p2 l m p3 p4 (0:Int) (0:Int) (0:Int) (0:Int) (0:Int) (0:Int) (yab a) p3 p4 o p (0:Int) q (1:Int)))))))))))))))))))))))))
def ycO:ycf:=ymu ybl ydy yee ydx yaT
def yBu:Sg:=⟨(lC pt23 (lC vD pt8)),Ls→Ls→Int→Int→Int→Int→Int→Int→Int→Prop,fun K=>(fun r0 r1 r2 r3 r4 r5 r6 r7 r8=>K (.tup [(.agg [(.data r0),(.data r1)]),(.agg [(.int .i64 r2),(.int .i64 r3),(.int .i64 r4),(.int .i64 r5),(.int .i64 r6),(.int .i64 r7)]),(.int .i64 r8)]))⟩
def yu9 (Q:Qx):Ls→Ls→Ls→Int→Int→Int→Int→Int→Int→Int→Int→Int→Int→Int→Int→Int→Int→Int→Int→Bool→Prop:=(fun l0 l1 l2 i3 i4 i5 i6 i7 i8 i9 i10 i11 i12 i13 i14 i15 i16 i17 i18 b19=>Q (.exit 0) [(1,.v (.data l0)),(3,.box (.agg [(.data l1),(.data l2)])),(5,.box (.agg [(.int .i64 i3),(.int .i64 i4)])),(6,.box (.agg [.nils,.nils])),(7,.box (.agg [(.int .i64 i5),(.int .i64 i6),(.int .i64 i7),(.int .i64 i8),(.int .i64 i9),(.int .i64 i10)])),(9,.box (.agg [(.int .i64 i11),(.int .i64 i12),(.int .i64 i13),(.int .i64 i14),(.int .i64 i15),(.int .i64 i16)])),(10,.v (.int .i64 i17)),(11,.v (.int .i64 i18)),(52,.v (.bool b19))] [])
def yoa (a0:yae) (a1:ya8) (a2:yaH) (a3:yaH) (a4:yal) (Q:Qx):List St:=[⟨(pS hN (fV 1 vD (fX 3 pt23 (fX 5 pt7 (fX 6 (vA (lC vNs (lC vNs lN))) (fX 7 (vA pt29) (fX 9 (vA pt29) (fV 10 pt0 (fV 11 pt0 fN)))))))) fN),ybs a0 a1 a2 a3 a4 (yu9 Q)⟩]
def yss (a0:yae) (a1:ya8) (a2:yaH) (a3:yaH) (a4:yal):LP:=lpS [(6338900,yoa a0 a1 a2 a3 a4)]
def ymv (e:Es) (a0:yae) (a1:ya8) (a2:yaH) (a3:yaH) (a4:yal):SE:=sE (E e) [(ycA,yjJ.pw a0),(yeH,ysr.pw a1),(ygK,yjl.pw a2),(yhs,yjl.pw a3),(ya4,ylK.pw a4)] (yss a0 a1 a2 a3 a4)
theorem yp0 (e:Es) (he:EG e):SEOk (Uni (E e)) (ymv e ybl ydy yee ydx yaT):=yah (Sub.uni _) ⟨(ykz e he),(yBt e he),(yDS e he),(yBn e he),(yeQ e he),trivial⟩ trivial he.ok
theorem ytJ (e:Es) (a0 a1 a2 a3 a4):ybQ (ymv e a0 a1 a2 a3 a4) 5 a yoR false (yoa a0 a1 a2 a3 a4):=fun _=>⟨fun _=>by kernel_rfl,fun _ _=>by kernel_rfl,trivial⟩
theorem ytK (e:Es) (he:EG e):LpT (Uni (E e)) (yss ybl ydy yee ydx yaT) [] 6338900 (.loop 6338900 yoR):=fun _ _ _=>yni.st (Sub.uni _) (yat (yp0 e he) 5) (YOk.no _ _) (yaf (by kernel_rfl)) (ytJ e _ _ _ _ _ _)
theorem yBv (e:Es) (a0 a1 a2 a3 a4):EqW (ymv e a0 a1 a2 a3 a4) 6 yDn yBu (ymu a0 a1 a2 a3 a4):=fun _ _=>by kernel_rfl
theorem yBw (e:Es) (he:EG e):OkF (E e) (yBu.pw ycO) yht:=okU he (yBv e _ _ _ _ _) (yp0 e he) yiy.flat (yaR (l:=[(6338900,.loop 6338900 yoR)]) ⟨ytK e he,trivial⟩ (by kernel_rfl))
abbrev ybm:Type:=Ls→Int→(Ls→Prop)→Prop
mutual
def ycn (x0:Ls→Int→Int→Bool→Prop) (x1:Ls→Ls→Int→Int→Bool→Prop):Nat→Ls→Int→Int→Prop
 | 0,_,_,_=>False
 | n+1,l0,i1,i2 =>
 (cbr (decide (i2<(((List.length l0):Nat):Int)))
 (asr (decide ((0:Int)≤i2))
 (asr (decide (i2<(((List.length l0):Nat):Int)))
 (lt (List.getD l0 (i2.toNat) .nils) (fun b =>
 (asr (conf (.one (.i .i64)) b)
 (cbr ((yab b) != i1)
 (asr (decide ((0:Int)≤i2))
 (asr (decide (i2<(((List.length l0):Nat):Int)))
 (lt (List.getD l0 (i2.toNat) .nils) (fun a =>
 (asr (conf (.one (.i .i64)) a)
 (lt (IntKind.i64.wrap (i2+(1:Int))) (fun c =>
 (asr (decide (1=List.length ([(.int .i64 (yab a))]:Ls))&&decide (1=List.length ([(.int .i64 (yab a))]:Ls)))
 (yco x0 x1 n ([(.int .i64 (yab a))]:Ls) l0 i1 c)))))))))
 (lt (IntKind.i64.wrap (i2+(1:Int))) (fun d =>
 (ycn x0 x1 n l0 i1 d)))))))))
 (x0 l0 i1 i2 false))
def yco (x0:Ls→Int→Int→Bool→Prop) (x1:Ls→Ls→Int→Int→Bool→Prop):Nat→Ls→Ls→Int→Int→Prop
 | 0,_,_,_,_=>False
 | n+1,l0,l1,i2,i5 =>
 (cbr (decide (i5<(((List.length l1):Nat):Int)))
 (jn (fun (b:Ls→Prop) =>
 (asr (decide ((0:Int)≤i5))
 (asr (decide (i5<(((List.length l1):Nat):Int)))
 (lt (List.getD l1 (i5.toNat) .nils) (fun c =>
 (asr (conf (.one (.i .i64)) c)
 (cbr ((yab c) != i2)
 (asr (decide ((0:Int)≤i5))
 (asr (decide (i5<(((List.length l1):Nat):Int)))
 (lt (List.getD l1 (i5.toNat) .nils) (fun d =>
 (asr (conf (.one (.i .i64)) d)
 (asr (decide ((List.length l0)=(List.length l0)))
 (asr (decide ((0+(List.length l0))≤(List.length l0)))
 (asr (!(decide (((0+(List.length l0))+1)≤(List.length l0))))
 (asr (decide ((List.length l0)=(List.length l0)))
 (asr (decide ((((List.length l0)+1)+64)*(8+1)≤room))
 (b (l0++([(.int .i64 (yab d))]:Ls)))))))))))))
 (b l0))))))))
 (fun a=>(lt (IntKind.i64.wrap (i5+(1:Int))) (fun e =>
 (asr (decide ((List.length a)=List.length a)&&decide ((List.length a)=List.length a))
 (yco x0 x1 n a l1 i2 e))))))
 (x1 l0 l1 i2 i5 false))
end
def yiR (p0:Ls) (p1:Int) (K:Ls→Prop):Prop :=
 (∃ n:Nat,ycn
 (fun _ _ _ _=>(K ([]:Ls)))
 (fun a _ _ _ _=>(asr (decide ((List.length a)=(List.length a)))
 (asr (decide ((0+(List.length a))≤(List.length a)))
 (K (List.take (List.length a) a)))))
 n p0 p1 (0:Int))
def yba:ybm:=yiR
def yw1:Sg:=⟨(lC vD pt1),Ls→Prop,fun K=>(fun r0=>K (.data r0))⟩
def yjr (Q:Qx):Ls→Int→Int→Bool→Prop:=(fun l0 i1 i2 b3=>Q (.exit 0) [(0,.v (.data l0)),(1,.v (.int .i64 i1)),(5,.v .nils),(6,.v (.int .i64 i2)),(10,.v (.bool b3))] [])
def yjs (Q:Qx):Ls→Ls→Int→Int→Bool→Prop:=(fun l0 l1 i2 i5 b6=>Q (.exit 0) [(0,.v (.data l1)),(1,.v (.int .i64 i2)),(5,.v (.own 0 0 (List.length l0) (List.length l0) none)),(6,.v (.int .i64 i5)),(10,.v (.bool b6))] [⟨false,true,1,l0⟩])
def pt32:HPt:=hB false true 1 rA hN
def ykC (Q:Qx):List St:=[⟨(pS hN (fV 0 vD (fV 1 pt0 (fV 5 vNs (fV 6 pt0 fN)))) fN),ycn (yjr Q) (yjs Q)⟩,⟨(pS pt32 (fV 0 vD (fV 1 pt0 (fV 5 pt24 (fV 6 pt0 fN)))) fN),yco (yjr Q) (yjs Q)⟩]
def yob:LP:=lpS [(48587300,ykC)]
def yiS (e:Es):SE:=sE (E e) [] (yob)
theorem ymV (e:Es) (he:EG e):SEOk (Uni (E e)) (yiS e):=yah (Sub.uni _) trivial trivial he.ok
theorem yq6 (e:Es):ybQ (yiS e) 5 a ylp false (ykC):=fun _=>⟨fun _=>by kernel_rfl,fun _ _=>by kernel_rfl,fun _=>by kernel_rfl,fun _ _=>by kernel_rfl,trivial⟩
theorem yq7 (e:Es) (he:EG e):LpT (Uni (E e)) (yob) [] 48587300 (.loop 48587300 ylp):=fun _ _ _=>yni.st (Sub.uni _) (yat (ymV e he) 5) (YOk.no _ _) (yaf (by kernel_rfl)) (yq6 e _)
theorem yw2 (e:Es):EqW (yiS e) 6 yxW yw1 yiR:=fun _ _=>by kernel_rfl
theorem yoc (e:Es) (he:EG e):OkF (E e) (yw1.pw yba) yfq:=okU he (yw2 e) (ymV e he) yiy.flat (yaR (l:=[(48587300,.loop 48587300 ylp)]) ⟨yq7 e he,trivial⟩ (by kernel_rfl))
abbrev yib:Type:=Ls→(Ls→Ls→Ls→Int→Prop)→Prop
mutual
def yjU (a0:yaE) (a1:yae) (a2:ycf) (a3:ybm) (a:Ls→Ls→Ls→Ls→Nat→Nat→Nat→Int→Bool→Prop) (b:Ls→Ls→Ls→Ls→Ls→Nat→Nat→Nat→Int→Bool→Prop):Nat→Ls→Ls→Ls→Ls→Nat→Nat→Nat→Int→Prop
 | 0,_,_,_,_,_,_,_,_=>False
 | c+1,l0,l1,l2,l3,n4,n5,n6,i7 =>
 (cbr (decide (i7<(((List.length l1):Nat):Int)))
 (lt (IntKind.i64.wrap (i7+(1:Int))) (fun d =>
 (asr (decide (1=List.length ([(.int .i64 i7)]:Ls))&&decide (1=List.length ([(.int .i64 i7)]:Ls)))
 (yep a0 a1 a2 a3 a b c l0 ([(.int .i64 i7)]:Ls) l1 l2 l3 n4 n5 n6 d))))
 (a l0 l1 l2 l3 n4 n5 n6 i7 false))
def yep (a0:yaE) (a1:yae) (a2:ycf) (a3:ybm) (b:Ls→Ls→Ls→Ls→Nat→Nat→Nat→Int→Bool→Prop) (a:Ls→Ls→Ls→Ls→Ls→Nat→Nat→Nat→Int→Bool→Prop):Nat→Ls→Ls→Ls→Ls→Ls→Nat→Nat→Nat→Int→Prop
 | 0,_,_,_,_,_,_,_,_,_=>False
 | c+1,l0,l1,l2,l3,l4,n5,n6,n7,i10 =>
 (cbr (decide (i10<(((List.length l2):Nat):Int)))
 (asr (decide ((List.length l1)=(List.length l1)))
 (asr (decide ((0+(List.length l1))≤(List.length l1)))
 (asr (!(decide (((0+(List.length l1))+1)≤(List.length l1))))
 (asr (decide ((List.length l1)=(List.length l1)))
 (asr (decide ((((List.length l1)+1)+64)*(8+1)≤room))
 (lt (IntKind.i64.wrap (i10+(1:Int))) (fun d =>
 (asr (decide ((List.length (l1++([(.int .i64 i10)]:Ls)))=List.length (l1++([(.int .i64 i10)]:Ls)))&&decide ((List.length (l1++([(.int .i64 i10)]:Ls)))=List.length (l1++([(.int .i64 i10)]:Ls))))
 (yep a0 a1 a2 a3 b a c l0 (l1++([(.int .i64 i10)]:Ls)) l2 l3 l4 n5 n6 n7 d)))))))))
 (a l0 l1 l2 l3 l4 n5 n6 n7 i10 false))
end
mutual
def yp1 (_:yaE) (_:yae) (_:ycf) (_:ybm) (a:Ls→Ls→Ls→Nat→Nat→Nat→Int→Int→Bool→Prop) (_:Ls→Ls→Ls→Ls→Nat→Nat→Nat→Int→Int→Bool→Prop) (_:Ls→Ls→Int→Prop) (_:Ls→Ls→Ls→Ls→Ls→Nat→Nat→Nat→Ls→Int→Int→Bool→Prop) (_:Ls→Ls→Ls→Int→Prop):Nat→Ls→Ls→Ls→Nat→Nat→Nat→Int→Int→Prop
 | 0,_,_,_,_,_,_,_,_=>False
 | _+1,l0,l1,l2,n3,n4,n5,i6,i7 =>
 (a l0 l1 l2 n3 n4 n5 i6 i7 false)
def yjV (a0:yaE) (a1:yae) (a2:ycf) (a3:ybm) (k:Ls→Ls→Ls→Nat→Nat→Nat→Int→Int→Bool→Prop) (h:Ls→Ls→Ls→Ls→Nat→Nat→Nat→Int→Int→Bool→Prop) (i:Ls→Ls→Int→Prop) (l:Ls→Ls→Ls→Ls→Ls→Nat→Nat→Nat→Ls→Int→Int→Bool→Prop) (m:Ls→Ls→Ls→Int→Prop):Nat→Ls→Ls→Ls→Ls→Nat→Nat→Nat→Int→Int→Prop
 | 0,_,_,_,_,_,_,_,_,_=>False
 | n+1,l0,l1,l2,l3,n4,n5,n6,i9,i10 =>
 (cbr (decide ((((List.length l1):Nat):Int)>(0:Int)))
 (asr (decide ((List.length l1)=(List.length l1)))
 (asr (decide ((0+(List.length l1))≤(List.length l1)))
 (a2 l2 l3 (List.take (List.length l1) l1) i9 i10 (fun o p a e f b c g j =>
 (cbr (j !=(0:Int))
 (i l0 l1 j)
 (asr (decide ((0:Int)≤a))
 (asr (decide (a<((n4:Nat):Int)))
 (asr (decide ((List.length l0)=n5))
 (asr (decide ((0+(a.toNat))<(List.length l0)))
 (lt (List.getD l0 (0+(a.toNat)) .nils) (fun q =>
 (asr (conf (.one (.d)) q)
 (asr (decide ((List.length l1)=(List.length l1)))
 (asr (decide ((0+(List.length l1))≤(List.length l1)))
 (a3 (List.take (List.length l1) l1) a (fun r =>
 (asr (decide (1=List.length ([(.agg [(.int .i64 a),(.int .i64 e),(.int .i64 f),(.int .i64 b),(.int .i64 c),(.int .i64 g)])]:Ls))&&decide (1=List.length ([(.agg [(.int .i64 a),(.int .i64 e),(.int .i64 f),(.int .i64 b),(.int .i64 c),(.int .i64 g)])]:Ls)))
 (ydD a0 a1 a2 a3 k h i l m n (List.set l0 (0+(a.toNat)) (.data ([(.agg [(.int .i64 e),(.int .i64 f),(.int .i64 b),(.int .i64 c)])]:Ls))) l1 ([(.agg [(.int .i64 a),(.int .i64 e),(.int .i64 f),(.int .i64 b),(.int .i64 c),(.int .i64 g)])]:Ls) o p n4 n5 n6 r b c))))))))))))))))))
 (h l0 l1 l2 l3 n4 n5 n6 i9 i10 false))
def ydD (a0:yaE) (a1:yae) (a2:ycf) (a3:ybm) (k:Ls→Ls→Ls→Nat→Nat→Nat→Int→Int→Bool→Prop) (l:Ls→Ls→Ls→Ls→Nat→Nat→Nat→Int→Int→Bool→Prop) (m:Ls→Ls→Int→Prop) (h:Ls→Ls→Ls→Ls→Ls→Nat→Nat→Nat→Ls→Int→Int→Bool→Prop) (i:Ls→Ls→Ls→Int→Prop):Nat→Ls→Ls→Ls→Ls→Ls→Nat→Nat→Nat→Ls→Int→Int→Prop
 | 0,_,_,_,_,_,_,_,_,_,_,_=>False
 | n+1,l0,l1,l2,l3,l4,n5,n6,n7,l8,i11,i12 =>
 (cbr (decide ((((List.length l8):Nat):Int)>(0:Int)))
 (a2 l3 l4 l8 i11 i12 (fun o p a e f b c g j =>
 (cbr (j !=(0:Int))
 (i l0 l1 l2 j)
 (asr (decide ((0:Int)≤a))
 (asr (decide (a<((n5:Nat):Int)))
 (asr (decide ((List.length l0)=n6))
 (asr (decide ((0+(a.toNat))<(List.length l0)))
 (lt (List.getD l0 (0+(a.toNat)) .nils) (fun q =>
 (asr (conf (.one (.d)) q)
 (asr (decide ((List.length l2)=(List.length l2)))
 (asr (decide ((0+(List.length l2))≤(List.length l2)))
 (asr (!(decide (((0+(List.length l2))+1)≤(List.length l2))))
 (asr (decide ((List.length l2)=(List.length l2)))
 (asr (decide ((((List.length l2)+1)+64)*(48+1)≤room))
 (a3 l8 a (fun r =>
 (asr (decide ((List.length (l2++([(.agg [(.int .i64 a),(.int .i64 e),(.int .i64 f),(.int .i64 b),(.int .i64 c),(.int .i64 g)])]:Ls)))=List.length (l2++([(.agg [(.int .i64 a),(.int .i64 e),(.int .i64 f),(.int .i64 b),(.int .i64 c),(.int .i64 g)])]:Ls)))&&decide ((List.length (l2++([(.agg [(.int .i64 a),(.int .i64 e),(.int .i64 f),(.int .i64 b),(.int .i64 c),(.int .i64 g)])]:Ls)))=List.length (l2++([(.agg [(.int .i64 a),(.int .i64 e),(.int .i64 f),(.int .i64 b),(.int .i64 c),(.int .i64 g)])]:Ls))))
 (ydD a0 a1 a2 a3 k l m h i n (List.set l0 (0+(a.toNat)) (.data ([(.agg [(.int .i64 e),(.int .i64 f),(.int .i64 b),(.int .i64 c)])]:Ls))) l1 (l2++([(.agg [(.int .i64 a),(.int .i64 e),(.int .i64 f),(.int .i64 b),(.int .i64 c),(.int .i64 g)])]:Ls)) o p n5 n6 n7 r b c)))))))))))))))))))
 (h l0 l1 l2 l3 l4 n5 n6 n7 l8 i11 i12 false))
end
def ymw (a0:yaE) (a1:yae) (a2:ycf) (a3:ybm) (p0:Ls) (K:Ls→Ls→Ls→Int→Prop):Prop :=
 (a0 p0 (fun x y e =>
 (cbr (e !=(0:Int))
 (K ([]:Ls) ([]:Ls) ([]:Ls) e)
 (asr (decide ((0:Int)≤(((List.length p0):Nat):Int)))
 (asr (decide ((((List.length p0):Nat):Int)≤(((List.length p0):Nat):Int)))
 (asr (decide (((List.length p0)+64)*(24+1)≤room))
 (∃ z:Nat,yjU a0 a1 a2 a3
 (fun A _ B C D E F _ _=>(a1 (0:Int) (fun G H =>
 (∃ d:Nat,yp1 a0 a1 a2 a3
 (fun f _ I g h _ _ _ _=>(asr (decide ((List.length f)=h))
 (asr (decide ((0+g)≤h))
 (K (List.take g f) ([]:Ls) I (0:Int)))))
 (fun i _ _ J j k _ _ _ _=>(asr (decide ((List.length i)=k))
 (asr (decide ((0+j)≤k))
 (K (List.take j i) ([]:Ls) J (0:Int)))))
 (fun _ _ L=>(K ([]:Ls) ([]:Ls) ([]:Ls) L))
 (fun l _ a _ M m n _ _ _ _ _=>(asr (decide ((List.length l)=n))
 (asr (decide ((0+m)≤n))
 (asr (decide ((List.length a)=(List.length a)))
 (asr (decide ((0+(List.length a))≤(List.length a)))
 (K (List.take m l) (List.take (List.length a) a) M (0:Int)))))))
 (fun _ _ _ N=>(K ([]:Ls) ([]:Ls) ([]:Ls) N))
 d A B C D E F G H))))
 (fun O c _ Q R S T U _ _=>(a1 (0:Int) (fun V W =>
 (asr (decide ((List.length c)=List.length c)&&decide ((List.length c)=List.length c))
 (∃ d:Nat,yjV a0 a1 a2 a3
 (fun o _ X p q _ _ _ _=>(asr (decide ((List.length o)=q))
 (asr (decide ((0+p)≤q))
 (K (List.take p o) ([]:Ls) X (0:Int)))))
 (fun r _ _ Y s t _ _ _ _=>(asr (decide ((List.length r)=t))
 (asr (decide ((0+s)≤t))
 (K (List.take s r) ([]:Ls) Y (0:Int)))))
 (fun _ _ Z=>(K ([]:Ls) ([]:Ls) ([]:Ls) Z))
 (fun u _ b _ va v w _ _ _ _ _=>(asr (decide ((List.length u)=w))
 (asr (decide ((0+v)≤w))
 (asr (decide ((List.length b)=(List.length b)))
 (asr (decide ((0+(List.length b))≤(List.length b)))
 (K (List.take v u) (List.take (List.length b) b) va (0:Int)))))))
 (fun _ _ _ vb=>(K ([]:Ls) ([]:Ls) ([]:Ls) vb))
 d O c Q R S T U V W)))))
 z (List.replicate (List.length p0) ((.data []):PV)) p0 x y (List.length p0) (List.length p0) (List.length p0) (0:Int))))))))
def yfZ:yib:=ymw ydC ybl ycO yba
def yw3:Sg:=⟨pt9,Ls→Ls→Ls→Int→Prop,fun K=>(fun r0 r1 r2 r3=>K (.tup [(.agg [(.data r0)]),(.data r1),(.data r2),(.int .i64 r3)]))⟩
def yp2 (Q:Qx):Ls→Ls→Ls→Ls→Nat→Nat→Nat→Int→Bool→Prop:=(fun l0 l1 l2 l3 n4 n5 n6 i7 b8=>Q (.exit 0) [(0,.v (.data l1)),(2,.box (.agg [.nils])),(6,.box (.agg [(.data l2),(.data l3)])),(8,.box (.agg [(.own 0 0 n4 n5 (some n6))])),(9,.v .nils),(10,.v (.int .i64 i7)),(32,.v (.bool b8))] [⟨false,true,1,l0⟩])
def yp3 (Q:Qx):Ls→Ls→Ls→Ls→Ls→Nat→Nat→Nat→Int→Bool→Prop:=(fun l0 l1 l2 l3 l4 n5 n6 n7 i10 b11=>Q (.exit 0) [(0,.v (.data l2)),(2,.box (.agg [.nils])),(6,.box (.agg [(.data l3),(.data l4)])),(8,.box (.agg [(.own 0 0 n5 n6 (some n7))])),(9,.v (.own 1 0 (List.length l1) (List.length l1) none)),(10,.v (.int .i64 i10)),(32,.v (.bool b11))] [⟨false,true,1,l0⟩,⟨false,true,1,l1⟩])
def yjW (Q:Qx):Ls→Ls→Ls→Nat→Nat→Nat→Int→Int→Bool→Prop:=(fun l0 l1 l2 n3 n4 n5 i6 i7 b8=>Q (.exit 2) [(2,.box (.agg [.nils])),(6,.box (.agg [(.data l1),(.data l2)])),(8,.box (.agg [(.own 0 0 n3 n4 (some n5))])),(9,.v .nils),(11,.v .nils),(12,.box (.agg [(.int .i64 i6),(.int .i64 i7)])),(42,.v (.bool b8))] [⟨false,true,1,l0⟩])
def yjX (Q:Qx):Ls→Ls→Ls→Ls→Nat→Nat→Nat→Int→Int→Bool→Prop:=(fun l0 l1 l2 l3 n4 n5 n6 i9 i10 b11=>Q (.exit 2) [(2,.box (.agg [.nils])),(6,.box (.agg [(.data l2),(.data l3)])),(8,.box (.agg [(.own 0 0 n4 n5 (some n6))])),(9,.v (.own 1 0 (List.length l1) (List.length l1) none)),(11,.v .nils),(12,.box (.agg [(.int .i64 i9),(.int .i64 i10)])),(42,.v (.bool b11))] [⟨false,true,1,l0⟩,⟨false,true,1,l1⟩])
def yjY (Q:Qx):Ls→Ls→Int→Prop:=(fun l0 l1 i2=>Q .ret [(2,.box (.agg [.nils])),(3,.v .nils),(4,.v .nils),(5,.v (.int .i64 i2))] [⟨false,true,1,l0⟩,⟨true,true,1,l1⟩])
def yjZ (Q:Qx):Ls→Ls→Ls→Ls→Ls→Nat→Nat→Nat→Ls→Int→Int→Bool→Prop:=(fun l0 l1 l2 l3 l4 n5 n6 n7 l8 i11 i12 b13=>Q (.exit 2) [(2,.box (.agg [.nils])),(6,.box (.agg [(.data l3),(.data l4)])),(8,.box (.agg [(.own 0 0 n5 n6 (some n7))])),(9,.v (.data l8)),(11,.v (.own 2 0 (List.length l2) (List.length l2) none)),(12,.box (.agg [(.int .i64 i11),(.int .i64 i12)])),(42,.v (.bool b13))] [⟨false,true,1,l0⟩,⟨true,true,1,l1⟩,⟨false,true,6,l2⟩])
def yj0 (Q:Qx):Ls→Ls→Ls→Int→Prop:=(fun l0 l1 l2 i3=>Q .ret [(2,.box (.agg [.nils])),(3,.v .nils),(4,.v .nils),(5,.v (.int .i64 i3))] [⟨false,true,1,l0⟩,⟨true,true,1,l1⟩,⟨false,true,6,l2⟩])
def pt33:VPt:=vA (lC vNs lN)
def pt34:VPt:=vO 0 (nK 0) nV nV nV
def pt35:VPt:=vA (lC pt34 lN)
def pt36:VPt:=vW 1 (nK 0) (nT 1) (nT 1)
def yst (a0:yaE) (a1:yae) (a2:ycf) (a3:ybm) (Q:Qx):List St:=[⟨(pS pt32 (fV 0 vD (fX 2 pt33 (fX 6 pt23 (fX 8 pt35 (fV 9 vNs (fV 10 pt0 fN)))))) fN),yjU a0 a1 a2 a3 (yp2 Q) (yp3 Q)⟩,⟨(pS (hB false true 1 rA pt32) (fV 0 vD (fX 2 pt33 (fX 6 pt23 (fX 8 pt35 (fV 9 pt36 (fV 10 pt0 fN)))))) fN),yep a0 a1 a2 a3 (yp2 Q) (yp3 Q)⟩]
def pt37:HPt:=hB false true 6 rA hN
def ysu (a0:yaE) (a1:yae) (a2:ycf) (a3:ybm) (Q:Qx):List St:=[⟨(pS pt32 (fX 2 pt33 (fX 6 pt23 (fX 8 pt35 (fV 9 vNs (fV 11 vNs (fX 12 pt7 fN)))))) fN),yp1 a0 a1 a2 a3 (yjW Q) (yjX Q) (yjY Q) (yjZ Q) (yj0 Q)⟩,⟨(pS (hB false true 1 rA pt32) (fX 2 pt33 (fX 6 pt23 (fX 8 pt35 (fV 9 pt36 (fV 11 vNs (fX 12 pt7 fN)))))) fN),yjV a0 a1 a2 a3 (yjW Q) (yjX Q) (yjY Q) (yjZ Q) (yj0 Q)⟩,⟨(pS (hB false true 1 rA (hB true true 1 rA pt37)) (fX 2 pt33 (fX 6 pt23 (fX 8 pt35 (fV 9 vD (fV 11 (vW 2 (nK 0) (nT 2) (nT 2)) (fX 12 pt7 fN)))))) fN),ydD a0 a1 a2 a3 (yjW Q) (yjX Q) (yjY Q) (yjZ Q) (yj0 Q)⟩]
def yq8 (a0:yaE) (a1:yae) (a2:ycf) (a3:ybm):LP:=lpS [(34422000,yst a0 a1 a2 a3),(34422001,ysu a0 a1 a2 a3)]
def ymx (e:Es) (a0:yaE) (a1:yae) (a2:ycf) (a3:ybm):SE:=sE (E e) [(yiC,yuj.pw a0),(ycA,yjJ.pw a1),(yht,yBu.pw a2),(yfq,yw1.pw a3)] (yq8 a0 a1 a2 a3)
theorem yod (e:Es) (he:EG e):SEOk (Uni (E e)) (ymx e ydC ybl ycO yba):=yah (Sub.uni _) ⟨(yDP e he),(ykz e he),(yBw e he),(yoc e he),trivial⟩ trivial he.ok
theorem yw4 (e:Es) (a0 a1 a2 a3):ybQ (ymx e a0 a1 a2 a3) 5 a ylq false (yst a0 a1 a2 a3):=fun _=>⟨fun _=>by kernel_rfl,fun _ _=>by kernel_rfl,fun _=>by kernel_rfl,fun _ _=>by kernel_rfl,trivial⟩
theorem yw5 (e:Es) (he:EG e):LpT (Uni (E e)) (yq8 ydC ybl ycO yba) [] 34422000 (.loop 34422000 ylq):=fun _ _ _=>yni.st (Sub.uni _) (yat (yod e he) 5) (YOk.no _ _) (yaf (by kernel_rfl)) (yw4 e _ _ _ _ _)
theorem yw6 (e:Es) (a0 a1 a2 a3):ybQ (ymx e a0 a1 a2 a3) 5 a ylr false (ysu a0 a1 a2 a3):=fun _=>⟨fun _=>by kernel_rfl,fun _ _=>by kernel_rfl,fun _=>by kernel_rfl,fun _ _=>by kernel_rfl,fun _=>by kernel_rfl,fun _ _=>by kernel_rfl,trivial⟩
theorem yw7 (e:Es) (he:EG e):LpT (Uni (E e)) (yq8 ydC ybl ycO yba) [] 34422001 (.loop 34422001 ylr):=fun _ _ _=>yni.st (Sub.uni _) (yat (yod e he) 5) (YOk.no _ _) (yaf (by kernel_rfl)) (yw6 e _ _ _ _ _)
theorem yGb (e:Es) (a0 a1 a2 a3):EqW (ymx e a0 a1 a2 a3) 6 yIb yw3 (ymw a0 a1 a2 a3):=fun _ _=>by kernel_rfl
theorem yw8 (e:Es) (he:EG e):OkF (E e) (yw3.pw yfZ) ykq:=okU he (yGb e _ _ _ _) (yod e he) yiy.flat (yaR (l:=[(34422000,.loop 34422000 ylq),(34422001,.loop 34422001 ylr)]) ⟨yw5 e he,yw7 e he,trivial⟩ (by kernel_rfl))
def ydO (x0:Bool→Prop) (x1:Ls→Ls→Int→Bool→Prop):Nat→Ls→Ls→Int→Prop
 | 0,_,_,_=>False
 | n+1,l0,l1,i2 =>
 (cbr (decide (i2<(((List.length l0):Nat):Int)))
 (asr (decide ((0:Int)≤i2))
 (asr (decide (i2<(((List.length l0):Nat):Int)))
 (asr (conf (.agg [.i .i64,.i .i64,.i .i64,.i .i64]) (List.getD l0 (i2.toNat) .nils))
 (asr (decide ((0:Int)≤i2))
 (asr (decide (i2<(((List.length l1):Nat):Int)))
 (asr (conf (.agg [.i .i64,.i .i64,.i .i64,.i .i64]) (List.getD l1 (i2.toNat) .nils))
 (cbr (!(((yab (yak (List.getD l0 (i2.toNat) .nils) 0)) ==(yab (yak (List.getD l1 (i2.toNat) .nils) 0)))&&(((yab (yak (List.getD l0 (i2.toNat) .nils) 1)) ==(yab (yak (List.getD l1 (i2.toNat) .nils) 1)))&&(((yab (yak (List.getD l0 (i2.toNat) .nils) 2)) ==(yab (yak (List.getD l1 (i2.toNat) .nils) 2)))&&(((yab (yak (List.getD l0 (i2.toNat) .nils) 3)) ==(yab (yak (List.getD l1 (i2.toNat) .nils) 3)))&&true)))))
 (x0 false)
 (ydO x0 x1 n l0 l1 (IntKind.i64.wrap (i2+(1:Int)))))))))))
 (x1 l0 l1 i2 false))
def yoe (p0 p1:Ls) (K:Bool→Prop):Prop :=
 (cbr ((((List.length p0):Nat):Int) !=(((List.length p1):Nat):Int))
 (K false)
 (∃ n:Nat,ydO
 (fun a=>(K a))
 (fun _ _ _ _=>(K true))
 n p0 p1 (0:Int)))
def ydE:yaK:=yoe
def yw9 (Q:Qx):Bool→Prop:=(fun b0=>Q .ret [(4,.v (.bool b0))] [])
def yxa (Q:Qx):Ls→Ls→Int→Bool→Prop:=(fun l0 l1 i2 b3=>Q (.exit 0) [(0,.v (.data l0)),(1,.v (.data l1)),(5,.v (.int .i64 i2)),(14,.v (.bool b3))] [])
def yp4 (Q:Qx):List St:=[⟨pt31,ydO (yw9 Q) (yxa Q)⟩]
def yus:LP:=lpS [(27088800,yp4)]
def yof (e:Es):SE:=sE (E e) [] (yus)
theorem ysv (e:Es) (he:EG e):SEOk (Uni (E e)) (yof e):=yah (Sub.uni _) trivial trivial he.ok
theorem yva (e:Es):ybQ (yof e) 5 a yls false (yp4):=fun _=>⟨fun _=>by kernel_rfl,fun _ _=>by kernel_rfl,trivial⟩
theorem yvb (e:Es) (he:EG e):LpT (Uni (E e)) (yus) [] 27088800 (.loop 27088800 yls):=fun _ _ _=>yni.st (Sub.uni _) (yat (ysv e he) 5) (YOk.no _ _) (yaf (by kernel_rfl)) (yva e _)
theorem yDT (e:Es):EqW (yof e) 6 yFF yhE yoe:=fun _ _=>by kernel_rfl
theorem yut (e:Es) (he:EG e):OkF (E e) (yhE.pw ydE) yiF:=okU he (yDT e) (ysv e he) yiy.flat (yaR (l:=[(27088800,.loop 27088800 yls)]) ⟨yvb e he,trivial⟩ (by kernel_rfl))
def ydP (a0:yaK) (x0:Bool→Prop) (x1:Ls→Ls→Int→Bool→Prop):Nat→Ls→Ls→Int→Prop
 | 0,_,_,_=>False
 | n+1,l0,l1,i2 =>
 (cbr (decide (i2<(((List.length l0):Nat):Int)))
 (asr (decide ((0:Int)≤i2))
 (asr (decide (i2<(((List.length l0):Nat):Int)))
 (asr (conf (.one (.d)) (List.getD l0 (i2.toNat) .nils))
 (asr (decide ((0:Int)≤i2))
 (asr (decide (i2<(((List.length l1):Nat):Int)))
 (asr (conf (.one (.d)) (List.getD l1 (i2.toNat) .nils))
 (a0 (ybb (List.getD l0 (i2.toNat) .nils)) (ybb (List.getD l1 (i2.toNat) .nils)) (fun a =>
 (cbr (!a)
 (x0 false)
 (ydP a0 x0 x1 n l0 l1 (IntKind.i64.wrap (i2+(1:Int)))))))))))))
 (x1 l0 l1 i2 false))
def yog (a0:yaK) (p0 p1:Ls) (K:Bool→Prop):Prop :=
 (cbr ((((List.length p0):Nat):Int) !=(((List.length p1):Nat):Int))
 (K false)
 (∃ n:Nat,ydP a0
 (fun a=>(K a))
 (fun _ _ _ _=>(K true))
 n p0 p1 (0:Int)))
def yfI:yaK:=yog ydE
def yDU:Sg:=⟨(lC (vA pt9) (lC (vA pt9) lN)),Bool→Prop,fun K=>(fun r0=>K (.bool r0))⟩
def yxb (Q:Qx):Bool→Prop:=(fun b0=>Q .ret [(4,.v (.bool b0))] [])
def yxc (Q:Qx):Ls→Ls→Int→Bool→Prop:=(fun l0 l1 i2 b3=>Q (.exit 0) [(2,.box (.agg [(.data l0)])),(3,.box (.agg [(.data l1)])),(5,.v (.int .i64 i2)),(17,.v (.bool b3))] [])
def yp5 (a0:yaK) (Q:Qx):List St:=[⟨(pS hN (fX 2 (vA pt9) (fX 3 (vA pt9) (fV 5 pt0 fN))) fN),ydP a0 (yxb Q) (yxc Q)⟩]
def yuu (a0:yaK):LP:=lpS [(70742100,yp5 a0)]
def yoh (e:Es) (a0:yaK):SE:=sE (E e) [(yiF,yhE.pw a0)] (yuu a0)
theorem ysw (e:Es) (he:EG e):SEOk (Uni (E e)) (yoh e ydE):=yah (Sub.uni _) ⟨(yut e he),trivial⟩ trivial he.ok
theorem yvc (e:Es) (a0):ybQ (yoh e a0) 5 a ylt false (yp5 a0):=fun _=>⟨fun _=>by kernel_rfl,fun _ _=>by kernel_rfl,trivial⟩
theorem yvd (e:Es) (he:EG e):LpT (Uni (E e)) (yuu ydE) [] 70742100 (.loop 70742100 ylt):=fun _ _ _=>yni.st (Sub.uni _) (yat (ysw e he) 5) (YOk.no _ _) (yaf (by kernel_rfl)) (yvc e _ _)
theorem yDV (e:Es) (a0):EqW (yoh e a0) 6 yFG yDU (yog a0):=fun _ _=>by kernel_rfl
theorem yuv (e:Es) (he:EG e):OkF (E e) (yDU.pw yfI) yiG:=okU he (yDV e _) (ysw e he) yiy.flat (yaR (l:=[(70742100,.loop 70742100 ylt)]) ⟨yvd e he,trivial⟩ (by kernel_rfl))
def ybM (x0:Ls→Ls→Int→Bool→Prop) (x1:Bool→Prop):Nat→Ls→Ls→Int→Prop
 | 0,_,_,_=>False
 | n+1,l0,l1,i2 =>
 (cbr (decide (i2<(((List.length l0):Nat):Int)))
 (asr (decide ((0:Int)≤i2))
 (asr (decide (i2<(((List.length l0):Nat):Int)))
 (lt (List.getD l0 (i2.toNat) .nils) (fun a =>
 (asr (conf (.agg [.i .i64,.i .i64,.i .i64,.i .i64,.i .i64,.i .i64]) a)
 (asr (decide ((0:Int)≤i2))
 (asr (decide (i2<(((List.length l1):Nat):Int)))
 (lt (List.getD l1 (i2.toNat) .nils) (fun b =>
 (asr (conf (.agg [.i .i64,.i .i64,.i .i64,.i .i64,.i .i64,.i .i64]) b)
 (cbr (!(((yab (yak a 0)) ==(yab (yak b 0)))&&(((yab (yak a 1)) ==(yab (yak b 1)))&&(((yab (yak a 2)) ==(yab (yak b 2)))&&(((yab (yak a 3)) ==(yab (yak b 3)))&&(((yab (yak a 4)) ==(yab (yak b 4)))&&(((yab (yak a 5)) ==(yab (yak b 5)))&&true)))))))
 (x1 false)
 (lt (IntKind.i64.wrap (i2+(1:Int))) (fun c =>
 (ybM x0 x1 n l0 l1 c))))))))))))))
 (x0 l0 l1 i2 false))
def ygT (p0 p1:Ls) (K:Bool→Prop):Prop :=
 (cbr ((((List.length p0):Nat):Int) !=(((List.length p1):Nat):Int))
 (K false)
 (∃ n:Nat,ybM
 (fun _ _ _ _=>(K true))
 (fun a=>(K a))
 n p0 p1 (0:Int)))
def ydj:yaK:=ygT
def ypk (Q:Qx):Ls→Ls→Int→Bool→Prop:=(fun l0 l1 i2 b3=>Q (.exit 0) [(0,.v (.data l0)),(1,.v (.data l1)),(5,.v (.int .i64 i2)),(14,.v (.bool b3))] [])
def ypl (Q:Qx):Bool→Prop:=(fun b0=>Q .ret [(4,.v (.bool b0))] [])
def yiT (Q:Qx):List St:=[⟨pt31,ybM (ypk Q) (ypl Q)⟩]
def ykD:LP:=lpS [(32519300,yiT)]
def ygU (e:Es):SE:=sE (E e) [] (ykD)
theorem yjt (e:Es) (he:EG e):SEOk (Uni (E e)) (ygU e):=yah (Sub.uni _) trivial trivial he.ok
theorem yoi (e:Es):ybQ (ygU e) 5 a ylu false (yiT):=fun _=>⟨fun _=>by kernel_rfl,fun _ _=>by kernel_rfl,trivial⟩
theorem yoj (e:Es) (he:EG e):LpT (Uni (E e)) (ykD) [] 32519300 (.loop 32519300 ylu):=fun _ _ _=>yni.st (Sub.uni _) (yat (yjt e he) 5) (YOk.no _ _) (yaf (by kernel_rfl)) (yoi e _)
theorem ytL (e:Es):EqW (ygU e) 6 yuK yhE ygT:=fun _ _=>by kernel_rfl
theorem ykE (e:Es) (he:EG e):OkF (E e) (yhE.pw ydj) yei:=okU he (ytL e) (yjt e he) yiy.flat (yaR (l:=[(32519300,.loop 32519300 ylu)]) ⟨yoj e he,trivial⟩ (by kernel_rfl))
end Go.Pf.Vc
namespace Go.Pf.Vc
open Go Go.Pf
set_option linter.unusedVariables false
theorem yve (p0:Ls) (p1:Int) (r0:Ls) (h:∀ K:Ls→Prop,K r0→yba p0 p1 K) (K:Ls→Prop):yba p0 p1 K=K r0 :=
 propext ⟨fun k=>detC (yoc [] yaG) (as:=[(.data p0),(.int .i64 p1)]) (x:=(.data r0)) (fun K' k'=>h (fun r0=>K' (.data r0)) k') (K:=fun x=>match x with | (.data r0)=>K r0 | _=>False) k,h K⟩
theorem yok (p0:Ls) (r0:Ls) (r1:Ls) (r2:Ls) (r3:Int) (h:∀ K:Ls→Ls→Ls→Int→Prop,K r0 r1 r2 r3→yfZ p0 K) (K:Ls→Ls→Ls→Int→Prop):yfZ p0 K=K r0 r1 r2 r3 :=
 propext ⟨fun k=>detC (yw8 [] yaG) (as:=[(.data p0)]) (x:=(.tup [(.agg [(.data r0)]),(.data r1),(.data r2),(.int .i64 r3)])) (fun K' k'=>h (fun r0 r1 r2 r3=>K' (.tup [(.agg [(.data r0)]),(.data r1),(.data r2),(.int .i64 r3)])) k') (K:=fun x=>match x with | (.tup [(.agg [(.data r0)]),(.data r1),(.data r2),(.int .i64 r3)])=>K r0 r1 r2 r3 | _=>False) k,h K⟩
theorem yBx (p0:Ls) (p1:Ls) (r0:Bool) (h:∀ K:Bool→Prop,K r0→ydE p0 p1 K) (K:Bool→Prop):ydE p0 p1 K=K r0 :=
 propext ⟨fun k=>detC (yut [] yaG) (as:=[(.data p0),(.data p1)]) (x:=(.bool r0)) (fun K' k'=>h (fun r0=>K' (.bool r0)) k') (K:=fun x=>match x with | (.bool r0)=>K r0 | _=>False) k,h K⟩
theorem yBy (p0:Ls) (p1:Ls) (r0:Bool) (h:∀ K:Bool→Prop,K r0→yfI p0 p1 K) (K:Bool→Prop):yfI p0 p1 K=K r0 :=
 propext ⟨fun k=>detC (yuv [] yaG) (as:=[(.agg [(.data p0)]),(.agg [(.data p1)])]) (x:=(.bool r0)) (fun K' k'=>h (fun r0=>K' (.bool r0)) k') (K:=fun x=>match x with | (.bool r0)=>K r0 | _=>False) k,h K⟩
theorem ysx (p0:Ls) (p1:Ls) (r0:Bool) (h:∀ K:Bool→Prop,K r0→ydj p0 p1 K) (K:Bool→Prop):ydj p0 p1 K=K r0 :=
 propext ⟨fun k=>detC (ykE [] yaG) (as:=[(.data p0),(.data p1)]) (x:=(.bool r0)) (fun K' k'=>h (fun r0=>K' (.bool r0)) k') (K:=fun x=>match x with | (.bool r0)=>K r0 | _=>False) k,h K⟩
end Go.Pf.Vc
namespace Go.Pf.Vc
open Go Go.Pf
set_option maxRecDepth 100000
def yj1 (p0:Int) (K:Int→Int→Prop):Prop :=
 (jn (fun (a:Bool→Prop) =>
 (cbr (decide (p0<(1:Int)))
 (a true)
 (a (decide (p0>(6:Int))))))
 (fun b=>(cbr b
 (K (0:Int) (2:Int))
 (lt (IntKind.i64.wrap (p0*p0)) (fun c =>
 (lt (IntKind.i64.wrap (c-(1:Int))) (fun d =>
 (K d (0:Int)))))))))
def yh3:yae:=yj1
def yyC (e:Es):SE:=sE (E e) [] lp0
theorem yyD (e:Es):EqW (yyC e) 6 yAb ysq yj1:=fun _ _=>by kernel_rfl
theorem yyE (e:Es) (he:EG e):OkF (E e) (ysq.pw yh3) ygg:=okU he (yyD e) (yah (Sub.uni _) trivial trivial he.ok) yiy.flat (yaf (by kernel_rfl))
def yp6 (p0:Int) (K:Int→Int→Prop):Prop :=
 (K p0 (1:Int))
def yay:yae:=yp6
def yyF (e:Es):SE:=sE (E e) [] lp0
theorem yyG (e:Es):EqW (yyF e) 6 yAe yjJ yp6:=fun _ _=>by kernel_rfl
theorem yj2 (e:Es) (he:EG e):OkF (E e) (yjJ.pw yay) ycD:=okU he (yyG e) (yah (Sub.uni _) trivial trivial he.ok) yiy.flat (yaf (by kernel_rfl))
def yj4 (a0:ya8) (a1:ye7) (p0 p1:Ls) (p2:Int) (K:Int→Int→Prop):Prop :=
 (a0 p0 p1 p2 (fun a _ =>
 (a1 a (((List.length p0):Nat):Int) (fun b c _ =>
 (K b c)))))
def ydz:ya8:=yj4 ynJ yeb
def yyH (e:Es) (a0:ya8) (a1:ye7):SE:=sE (E e) [(yhl,yAG.pw a0),(ygi,ypF.pw a1)] lp0
theorem yyI (e:Es) (a0 a1):EqW (yyH e a0 a1) 6 yAi ysr (yj4 a0 a1):=fun _ _=>by kernel_rfl
theorem yyJ (e:Es) (he:EG e):OkF (E e) (ysr.pw ydz) ye3:=okU he (yyI e _ _) (yah (Sub.uni _) ⟨(yAJ e he),(ypG e he),trivial⟩ trivial he.ok) yiy.flat (yaf (by kernel_rfl))
def ymy (a0:yaw) (p0 p1 p2 p3:Int) (K:Bool→Prop):Prop :=
 (a0 p0 p1 p2 p3 (fun a _ =>
 (K (decide (a>(0:Int))))))
def yd5:yal:=ymy yd2
def yBz (e:Es) (a0:yaw):SE:=sE (E e) [(yeF,yAr.pw a0)] lp0
theorem yBA (e:Es) (a0):EqW (yBz e a0) 6 yC5 ylK (ymy a0):=fun _ _=>by kernel_rfl
theorem yBB (e:Es) (he:EG e):OkF (E e) (ylK.pw yd5) yho:=okU he (yBA e _) (yah (Sub.uni _) ⟨(ylB e he),trivial⟩ trivial he.ok) yiy.flat (yaf (by kernel_rfl))
abbrev yaQ:Type:=Ls→Ls→Ls→Nat→Nat→Nat→Int→Int→(Ls→Ls→Int→Int→Int→Int→Int→Int→Int→Ls→Prop)→Prop
def yaJ (a0:yae) (a1:yaH) (a2:ya8) (a3:yal) (a4:yaH) (x0:Ls→Ls→Ls→Int→Int→Int→Int→Int→Int→Int→Int→Nat→Nat→Nat→Int→Int→Int→Int→Int→Int→Nat→Nat→Nat→Int→Int→Bool→Prop) (x1:Ls→Ls→Ls→Int→Int→Int→Int→Int→Int→Int→Int→Nat→Nat→Nat→Int→Int→Int→Int→Int→Int→Int→Int→Nat→Nat→Nat→Int→Int→Bool→Prop) (x2:Ls→Ls→Ls→Int→Int→Int→Int→Int→Int→Int→Int→Int→Int→Int→Int→Int→Int→Int→Prop):Nat→Ls→Ls→Ls→Int→Int→Int→Int→Int→Int→Int→Int→Nat→Nat→Nat→Int→Int→Int→Int→Int→Int→Nat→Nat→Nat→Int→Int→Prop
 | 0,_,_,_,_,_,_,_,_,_,_,_,_,_,_,_,_,_,_,_,_,_,_,_,_,_=>False
 | n+1,l0,l1,l2,i3,i4,i5,i6,i7,i8,i9,i10,n11,n12,n13,i14,i15,i16,i17,i18,i19,n20,n21,n22,i23,i24 =>
 (cbr (decide (i24<i23))
 (jn (fun (g:Ls→Ls→Int→Int→Int→Int→Prop) =>
 (asr (decide ((0:Int)≤i24))
 (asr (decide (i24<((n20:Nat):Int)))
 (asr (decide ((List.length l0)=n21))
 (asr (decide ((0+(i24.toNat))<(List.length l0)))
 (lt (List.getD l0 (0+(i24.toNat)) .nils) (fun a =>
 (asr (conf (.one (.i .i64)) a)
 (cbr (((n11:Nat):Int) ==(1:Int))
 (x1 l0 l1 l2 i3 i4 i5 i6 i7 i8 i9 i10 n11 n12 n13 i14 i15 i16 i17 i18 i19 i24 (yab a) n20 n21 n22 i23 i24 true)
 (jn (fun (h:Ls→Ls→Int→Prop) =>
 (cbr (decide (i24>(0:Int)))
 (a1 l1 l2 (yab a) i3 i4 i8 i9 (fun b c s t j =>
 (cbr (j !=(0:Int))
 (x2 l0 l1 l2 i3 i4 i5 i6 i7 i8 i9 i10 (0:Int) (0:Int) (0:Int) (0:Int) (0:Int) (0:Int) j)
 (a2 b c (yab a) (fun u v =>
 (a3 s t u v (fun w =>
 (cbr (!w)
 (g b c i5 i8 i9 i10)
 (lt (IntKind.i64.wrap (i10+(1:Int))) (fun x =>
 (h b c x)))))))))))
 (h l1 l2 i10)))
 (fun d e k=>(a2 d e (yab a) (fun y z =>
 (a4 d e (yab a) i3 i4 y z (fun A B C D f =>
 (jn (fun (l:Ls→Ls→Int→Int→Int→Prop) =>
 (cbr (f ==(0:Int))
 (l A B (yab a) C D)
 (l d e i5 i8 i9)))
 (fun m o p q r=>(cbr (f !=(0:Int))
 (x2 l0 m o i3 i4 p i6 i7 q r k (0:Int) (0:Int) (0:Int) (0:Int) (0:Int) (0:Int) f)
 (g m o p q r k)))))))))))))))))))
 (fun E F G H I J=>(lt (IntKind.i64.wrap (i24+(1:Int))) (fun K =>
 (yaJ a0 a1 a2 a3 a4 x0 x1 x2 n l0 E F i3 i4 G i6 i7 H I J n11 n12 n13 i14 i15 i16 i17 i18 i19 n20 n21 n22 i23 K)))))
 (x0 l0 l1 l2 i3 i4 i5 i6 i7 i8 i9 i10 n11 n12 n13 i14 i15 i16 i17 i18 i19 n20 n21 n22 i23 i24 false))
def yj5 (a0:yae) (a1:yaH) (a2:ya8) (a3:yal) (a4:yaH) (p0 p1 p2:Ls) (p3 p4 p5:Nat) (p6 p7:Int) (K:Ls→Ls→Int→Int→Int→Int→Int→Int→Int→Ls→Prop):Prop :=
 (asr (decide ((0:Int)<((p3:Nat):Int)))
 (asr (decide ((List.length p2)=p4))
 (asr (decide (0<(List.length p2)))
 (lt (List.getD p2 0 .nils) (fun a =>
 (asr (conf (.one (.i .i64)) a)
 (asr (decide ((0:Int)<(((List.length p0):Nat):Int)))
 (lt (List.getD p0 0 .nils) (fun b =>
 (asr (conf (.agg [.i .i64,.d,.d]) b)
 (a0 (yab (yak b 0)) (fun g h =>
 (jn (fun (c:Ls→Ls→Ls→Int→Int→Int→Int→Int→Int→Int→Int→Int→Int→Int→Int→Int→Int→Prop) =>
 (∃ n:Nat,yaJ a0 a1 a2 a3 a4
 (fun j k l m o p q r s t u _ _ _ v w x y z A _ _ _ _ _ _=>(c j k l m o p q r s t u v w x y z A))
 (fun B C D E F G H I J L M _ _ _ N O Q R S T _ _ _ _ _ _ _ _=>(c B C D E F G H I J L M N O Q R S T))
 (fun e _ _ _ _ _ _ _ _ _ _ U V W X Y Z va=>(asr (decide ((List.length e)=(List.length p2)))
 (K ([]:Ls) ([]:Ls) U V W X Y Z va e)))
 n p2 p0 p1 p6 p7 (yab a) p6 p7 g h (0:Int) p3 p4 p5 (0:Int) (0:Int) (0:Int) (0:Int) (0:Int) (0:Int) p3 p4 p5 ((p3:Nat):Int) (0:Int)))
 (fun f vb vc _ _ vd ve vf vg vh vi _ _ _ _ _ _=>(asr (decide ((List.length f)=(List.length p2)))
 (K vb vc vd ve vf vg vh vi (0:Int) f))))))))))))))))
def yaF:yaQ:=yj5 yay ybZ ydz yd5 yc2
def yhd (w:yaQ) (as:Ls) (b:HB) (K:PV→Ls→Prop):Prop :=
 match as,b with
 | [(.agg [(.data p0),(.data p1)]),(.own 0 0 p3 p4 (some p5)),(.agg [(.int .i64 p6),(.int .i64 p7)])],⟨false,true,1,p2⟩=>w p0 p1 p2 p3 p4 p5 p6 p7 (fun r0 r1 r2 r3 r4 r5 r6 r7 r8 r9=>K (.tup [(.agg [(.data r0),(.data r1)]),(.agg [(.int .i64 r2),(.int .i64 r3),(.int .i64 r4),(.int .i64 r5),(.int .i64 r6),(.int .i64 r7)]),(.int .i64 r8)]) r9)
 | _,_=>False
def yp7 (as:Ls) (b:HB) (K:PV→Ls→Prop):Prop:=yhd yaF as b K
def ytM (Q:Qx):Ls→Ls→Ls→Int→Int→Int→Int→Int→Int→Int→Int→Nat→Nat→Nat→Int→Int→Int→Int→Int→Int→Nat→Nat→Nat→Int→Int→Bool→Prop:=(fun l0 l1 l2 i3 i4 i5 i6 i7 i8 i9 i10 n11 n12 n13 i14 i15 i16 i17 i18 i19 n20 n21 n22 i23 i24 b25=>Q (.exit 0) [(1,.v (.own 0 0 n11 n12 (some n13))),(3,.v (.ptr 1 1 0 0)),(5,.v (.ptr 2 1 0 0)),(6,.box (.agg [.nils,.nils])),(7,.box (.agg [(.int .i64 i14),(.int .i64 i15),(.int .i64 i16),(.int .i64 i17),(.int .i64 i18),(.int .i64 i19)])),(9,.v (.ptr 3 1 0 0)),(10,.v (.fn (.func ydN) [] [(.ptr 1 1 0 0),(.ptr 2 1 0 0),(.ptr 3 1 0 0)])),(29,.v (.own 0 0 n20 n21 (some n22))),(30,.v (.int .i64 i23)),(31,.v (.int .i64 i24)),(32,.v (.bool b25))] [⟨false,true,1,l0⟩,⟨false,true,2,([(.agg [(.data l1),(.data l2)])]:Ls)⟩,⟨false,true,2,([(.agg [(.int .i64 i3),(.int .i64 i4)])]:Ls)⟩,⟨false,true,6,([(.agg [(.int .i64 i5),(.int .i64 i6),(.int .i64 i7),(.int .i64 i8),(.int .i64 i9),(.int .i64 i10)])]:Ls)⟩])
def ytN (Q:Qx):Ls→Ls→Ls→Int→Int→Int→Int→Int→Int→Int→Int→Nat→Nat→Nat→Int→Int→Int→Int→Int→Int→Int→Int→Nat→Nat→Nat→Int→Int→Bool→Prop:=(fun l0 l1 l2 i3 i4 i5 i6 i7 i8 i9 i10 n11 n12 n13 i14 i15 i16 i17 i18 i19 i20 i21 n22 n23 n24 i25 i26 b27=>Q (.exit 0) [(1,.v (.own 0 0 n11 n12 (some n13))),(3,.v (.ptr 1 1 0 0)),(5,.v (.ptr 2 1 0 0)),(6,.box (.agg [.nils,.nils])),(7,.box (.agg [(.int .i64 i14),(.int .i64 i15),(.int .i64 i16),(.int .i64 i17),(.int .i64 i18),(.int .i64 i19)])),(9,.v (.ptr 3 1 0 0)),(10,.v (.fn (.func ydN) [] [(.ptr 1 1 0 0),(.ptr 2 1 0 0),(.ptr 3 1 0 0)])),(11,.v (.int .i64 i20)),(12,.v (.int .i64 i21)),(29,.v (.own 0 0 n22 n23 (some n24))),(30,.v (.int .i64 i25)),(31,.v (.int .i64 i26)),(38,.v (.bool b27))] [⟨false,true,1,l0⟩,⟨false,true,2,([(.agg [(.data l1),(.data l2)])]:Ls)⟩,⟨false,true,2,([(.agg [(.int .i64 i3),(.int .i64 i4)])]:Ls)⟩,⟨false,true,6,([(.agg [(.int .i64 i5),(.int .i64 i6),(.int .i64 i7),(.int .i64 i8),(.int .i64 i9),(.int .i64 i10)])]:Ls)⟩])
def ytO (Q:Qx):Ls→Ls→Ls→Int→Int→Int→Int→Int→Int→Int→Int→Int→Int→Int→Int→Int→Int→Int→Prop:=(fun l0 l1 l2 i3 i4 i5 i6 i7 i8 i9 i10 i11 i12 i13 i14 i15 i16 i17=>Q .ret [(6,.box (.agg [.nils,.nils])),(7,.box (.agg [(.int .i64 i11),(.int .i64 i12),(.int .i64 i13),(.int .i64 i14),(.int .i64 i15),(.int .i64 i16)])),(8,.v (.int .i64 i17))] [⟨false,true,1,l0⟩,⟨false,true,2,([(.agg [(.data l1),(.data l2)])]:Ls)⟩,⟨false,true,2,([(.agg [(.int .i64 i3),(.int .i64 i4)])]:Ls)⟩,⟨false,true,6,([(.agg [(.int .i64 i5),(.int .i64 i6),(.int .i64 i7),(.int .i64 i8),(.int .i64 i9),(.int .i64 i10)])]:Ls)⟩])
def pt38:RPt:=rC pt23 rN
def pt39:RPt:=rC (vA pt29) rN
def pt40:VPt:=vP 3 0 (nK 1) (nK 0)
def ymW (a0:yae) (a1:yaH) (a2:ya8) (a3:yal) (a4:yaH) (Q:Qx):List St:=[⟨(pS (hB false true 1 rA (hB false true 2 pt38 (hB false true 2 (rC pt7 rN) (hB false true 6 pt39 hN)))) (fV 1 pt34 (fV 3 pt22 (fV 5 pt21 (fX 6 (vA (lC vNs (lC vNs lN))) (fX 7 (vA pt29) (fV 9 pt40 (fV 10 (vF ydN lN (lC pt22 (lC pt21 (lC pt40 lN)))) (fV 29 pt34 (fV 30 pt0 (fV 31 pt0 fN)))))))))) fN),yaJ a0 a1 a2 a3 a4 (ytM Q) (ytN Q) (ytO Q)⟩]
def yp8 (a0:yae) (a1:yaH) (a2:ya8) (a3:yal) (a4:yaH):LP:=lpS [(62467600,ymW a0 a1 a2 a3 a4)]
def yj6 (e:Es) (a0:yae) (a1:yaH) (a2:ya8) (a3:yal) (a4:yaH):SE:=⟨(E e),yjf [(ycD,yjJ.pw a0),(yhn,yjl.pw a1),(ye3,ysr.pw a2),(yho,ylK.pw a3),(yiz,yjl.pw a4)],yjg [(ydN,ywC)],yp8 a0 a1 a2 a3 a4,fun _=>none⟩
theorem yol (e:Es) (he:EG e):SEOk (Uni (E e)) (yj6 e yay ybZ ydz yd5 yc2):=yah (Sub.uni _) ⟨(yj2 e he),(yr8 e he),(yyJ e he),(yBB e he),(yul e he),trivial⟩ ⟨⟨by kernel_rfl,by kernel_rfl,rfl,fun as=>ybu (by kernel_rfl) as,he.num _ (by kernel_rfl),by kernel_rfl,(yaf (by kernel_rfl))⟩,trivial⟩ he.ok
theorem ysy (e:Es) (a0 a1 a2 a3 a4):ybQ (yj6 e a0 a1 a2 a3 a4) 5 a ylc false (ymW a0 a1 a2 a3 a4):=fun _=>⟨fun _=>by kernel_rfl,fun _ _=>by kernel_rfl,trivial⟩
theorem ysz (e:Es) (he:EG e):LpT (Uni (E e)) (yp8 yay ybZ ydz yd5 yc2) [] 62467600 (.loop 62467600 ylc):=fun _ _ _=>yni.st (Sub.uni _) (yat (yol e he) 5) (YOk.no _ _) (yaf (by kernel_rfl)) (ysy e _ _ _ _ _ _)
theorem yyK (e:Es) (a0 a1 a2 a3 a4 p0 p1 p2 p3 p4 p5 p6 p7 K):WPL (yj6 e a0 a1 a2 a3 a4) 6 yAn [(.agg [(.data p0),(.data p1)]),(.own 0 0 p3 p4 (some p5)),(.agg [(.int .i64 p6),(.int .i64 p7)])] ⟨false,true,1,p2⟩ K=yj5 a0 a1 a2 a3 a4 p0 p1 p2 p3 p4 p5 p6 p7 (fun r0 r1 r2 r3 r4 r5 r6 r7 r8 r9=>K (.tup [(.agg [(.data r0),(.data r1)]),(.agg [(.int .i64 r2),(.int .i64 r3),(.int .i64 r4),(.int .i64 r5),(.int .i64 r6),(.int .i64 r7)]),(.int .i64 r8)]) r9):=by kernel_rfl
theorem yp9 (e:Es) (he:EG e):OkL (E e) yp7 yd9:=by
 intro as b K h
 unfold yp7 yhd at h
 split at h
 · exact yMe (yol e he) yiy.flat (yaR (l:=[(62467600,.loop 62467600 ylc)]) ⟨ysz e he,trivial⟩ (by kernel_rfl)) (by kernel_rfl) (he.num _ (by kernel_rfl)) ((yyK ..).mpr h)
 · exact h.elim
def ydQ (a0:yaE) (a1:yae) (a2:yaQ) (a:Ls→Ls→Ls→Nat→Nat→Nat→Ls→Int→Ls→Ls→Nat→Nat→Nat→Int→Int→Bool→Prop):Nat→Ls→Ls→Ls→Nat→Nat→Nat→Ls→Int→Ls→Ls→Nat→Nat→Nat→Int→Int→Prop
 | 0,_,_,_,_,_,_,_,_,_,_,_,_,_,_,_=>False
 | b+1,l0,l1,l2,n3,n4,n5,l6,i7,l8,l9,n10,n11,n12,i13,i14 =>
 (cbr (decide (i14<i13))
 (asr (decide ((0:Int)≤i14))
 (asr (decide (i14<((n10:Nat):Int)))
 (asr (decide ((List.length l1)=n11))
 (asr (decide ((0+(i14.toNat))<(List.length l1)))
 (lt (List.getD l1 (0+(i14.toNat)) .nils) (fun c =>
 (asr (conf (.one (.i .i64)) c)
 (lt (IntKind.i64.wrap (i14+(1:Int))) (fun d =>
 (ydQ a0 a1 a2 a b l0 (List.set l1 (0+(i14.toNat)) (.int .i64 i14)) l2 n3 n4 n5 l6 i7 l8 l9 n10 n11 n12 i13 d))))))))))
 (a l0 l1 l2 n3 n4 n5 l6 i7 l8 l9 n10 n11 n12 i13 i14 false))
def ydR (a0:yaE) (a1:yae) (a2:yaQ) (a:Ls→Ls→Ls→Ls→Nat→Nat→Nat→Ls→Int→Ls→Ls→Int→Int→Int→Int→Int→Int→Ls→Ls→Int→Int→Int→Int→Int→Int→Nat→Nat→Nat→Int→Int→Bool→Prop) (b:Ls→Ls→Ls→Ls→Nat→Nat→Nat→Ls→Int→Ls→Ls→Int→Int→Int→Int→Int→Int→Ls→Ls→Int→Int→Int→Int→Int→Int→Int→Prop):Nat→Ls→Ls→Ls→Ls→Nat→Nat→Nat→Ls→Int→Ls→Ls→Int→Int→Int→Int→Int→Int→Ls→Ls→Int→Int→Int→Int→Int→Int→Nat→Nat→Nat→Int→Int→Prop
 | 0,_,_,_,_,_,_,_,_,_,_,_,_,_,_,_,_,_,_,_,_,_,_,_,_,_,_,_,_,_,_=>False
 | d+1,l0,l1,l2,l3,n4,n5,n6,l9,i10,l11,l12,i13,i14,i15,i16,i17,i18,l19,l20,i21,i22,i23,i24,i25,i26,n27,n28,n29,i30,i31 =>
 (cbr (decide (i31<i30))
 (asr (decide ((0:Int)≤i31))
 (asr (decide (i31<((n27:Nat):Int)))
 (asr (decide ((List.length l1)=n28))
 (asr (decide ((0+(i31.toNat))<(List.length l1)))
 (lt (List.getD l1 (0+(i31.toNat)) .nils) (fun c =>
 (asr (conf (.one (.i .i64)) c)
 (cbr ((yab c) == i13)
 (b l0 l1 l2 l3 n4 n5 n6 l9 i10 l11 l12 i13 i14 i15 i16 i17 i18 l19 l20 i21 i22 i23 i24 i25 i26 i31)
 (lt (IntKind.i64.wrap (i31+(1:Int))) (fun e =>
 (asr (decide ((List.length l2)=List.length l2)&&decide ((List.length l2)=List.length l2))
 (ydR a0 a1 a2 a b d l0 l1 l2 l3 n4 n5 n6 l9 i10 l11 l12 i13 i14 i15 i16 i17 i18 l19 l20 i21 i22 i23 i24 i25 i26 n27 n28 n29 i30 e))))))))))))
 (a l0 l1 l2 l3 n4 n5 n6 l9 i10 l11 l12 i13 i14 i15 i16 i17 i18 l19 l20 i21 i22 i23 i24 i25 i26 n27 n28 n29 i30 i31 false))
def ydS (a0:yaE) (a1:yae) (a2:yaQ) (a:Ls→Ls→Ls→Ls→Nat→Nat→Nat→Ls→Int→Ls→Ls→Int→Int→Int→Int→Int→Int→Ls→Ls→Int→Int→Int→Int→Int→Int→Nat→Nat→Nat→Int→Int→Bool→Prop) (b:Ls→Ls→Ls→Ls→Nat→Nat→Nat→Ls→Int→Ls→Ls→Int→Int→Int→Int→Int→Int→Ls→Ls→Int→Int→Int→Int→Int→Int→Int→Prop):Nat→Ls→Ls→Ls→Ls→Nat→Nat→Nat→Ls→Int→Ls→Ls→Int→Int→Int→Int→Int→Int→Ls→Ls→Int→Int→Int→Int→Int→Int→Nat→Nat→Nat→Int→Int→Prop
 | 0,_,_,_,_,_,_,_,_,_,_,_,_,_,_,_,_,_,_,_,_,_,_,_,_,_,_,_,_,_,_=>False
 | d+1,l0,l1,l2,l3,n4,n5,n6,l9,i10,l11,l12,i13,i14,i15,i16,i17,i18,l19,l20,i21,i22,i23,i24,i25,i26,n27,n28,n29,i30,i31 =>
 (cbr (decide (i31<i30))
 (asr (decide ((0:Int)≤i31))
 (asr (decide (i31<((n27:Nat):Int)))
 (asr (decide ((List.length l1)=n28))
 (asr (decide ((0+(i31.toNat))<(List.length l1)))
 (lt (List.getD l1 (0+(i31.toNat)) .nils) (fun c =>
 (asr (conf (.one (.i .i64)) c)
 (cbr ((yab c) == i13)
 (b l0 l1 l2 l3 n4 n5 n6 l9 i10 l11 l12 i13 i14 i15 i16 i17 i18 l19 l20 i21 i22 i23 i24 i25 i26 i31)
 (lt (IntKind.i64.wrap (i31+(1:Int))) (fun e =>
 (asr (decide ((List.length l2)=List.length l2)&&decide ((List.length l2)=List.length l2))
 (ydS a0 a1 a2 a b d l0 l1 l2 l3 n4 n5 n6 l9 i10 l11 l12 i13 i14 i15 i16 i17 i18 l19 l20 i21 i22 i23 i24 i25 i26 n27 n28 n29 i30 e))))))))))))
 (a l0 l1 l2 l3 n4 n5 n6 l9 i10 l11 l12 i13 i14 i15 i16 i17 i18 l19 l20 i21 i22 i23 i24 i25 i26 n27 n28 n29 i30 i31 false))
def ydT (a0:yaE) (a1:yae) (a2:yaQ) (b:Ls→Ls→Ls→Ls→Nat→Nat→Nat→Ls→Int→Ls→Ls→Int→Int→Int→Int→Int→Int→Ls→Ls→Int→Int→Int→Int→Int→Int→Nat→Nat→Nat→Int→Int→Bool→Prop):Nat→Ls→Ls→Ls→Ls→Nat→Nat→Nat→Ls→Int→Ls→Ls→Int→Int→Int→Int→Int→Int→Ls→Ls→Int→Int→Int→Int→Int→Int→Nat→Nat→Nat→Int→Int→Prop
 | 0,_,_,_,_,_,_,_,_,_,_,_,_,_,_,_,_,_,_,_,_,_,_,_,_,_,_,_,_,_,_=>False
 | d+1,l0,l1,l2,l3,n4,n5,n6,l9,i10,l11,l12,i13,i14,i15,i16,i17,i18,l19,l20,i21,i22,i23,i24,i25,i26,n27,n28,n29,i30,i31 =>
 (cbr (decide (i31<((n27:Nat):Int)))
 (jn (fun (c:Ls→Int→Prop) =>
 (asr (decide ((0:Int)≤i31))
 (asr (decide (i31<((n27:Nat):Int)))
 (asr (decide ((List.length l1)=n28))
 (asr (decide ((0+(i31.toNat))<(List.length l1)))
 (lt (List.getD l1 (0+(i31.toNat)) .nils) (fun a =>
 (asr (conf (.one (.i .i64)) a)
 (cbr (!((yab a) == i13))
 (asr (decide ((0:Int)≤i30))
 (asr (decide (i30<((n27:Nat):Int)))
 (asr (decide ((List.length l1)=n28))
 (asr (decide ((0+(i30.toNat))<(List.length l1)))
 (lt (List.getD l1 (0+(i30.toNat)) .nils) (fun e =>
 (asr (conf (.one (.i .i64)) e)
 (lt (IntKind.i64.wrap (i30+(1:Int))) (fun f =>
 (c (List.set l1 (0+(i30.toNat)) (.int .i64 (yab a))) f))))))))))
 (c l1 i30))))))))))
 (fun g h=>(lt (IntKind.i64.wrap (i31+(1:Int))) (fun j =>
 (asr (decide ((List.length l2)=List.length l2)&&decide ((List.length l2)=List.length l2))
 (ydT a0 a1 a2 b d l0 g l2 l3 n4 n5 n6 l9 i10 l11 l12 i13 i14 i15 i16 i17 i18 l19 l20 i21 i22 i23 i24 i25 i26 n27 n28 n29 h j))))))
 (b l0 l1 l2 l3 n4 n5 n6 l9 i10 l11 l12 i13 i14 i15 i16 i17 i18 l19 l20 i21 i22 i23 i24 i25 i26 n27 n28 n29 i30 i31 false))
def ydU (a0:yaE) (a1:yae) (a2:yaQ) (b:Ls→Ls→Ls→Ls→Nat→Nat→Nat→Ls→Int→Ls→Ls→Int→Int→Int→Int→Int→Int→Ls→Ls→Int→Int→Int→Int→Int→Int→Nat→Nat→Nat→Int→Int→Bool→Prop):Nat→Ls→Ls→Ls→Ls→Nat→Nat→Nat→Ls→Int→Ls→Ls→Int→Int→Int→Int→Int→Int→Ls→Ls→Int→Int→Int→Int→Int→Int→Nat→Nat→Nat→Int→Int→Prop
 | 0,_,_,_,_,_,_,_,_,_,_,_,_,_,_,_,_,_,_,_,_,_,_,_,_,_,_,_,_,_,_=>False
 | d+1,l0,l1,l2,l3,n4,n5,n6,l9,i10,l11,l12,i13,i14,i15,i16,i17,i18,l19,l20,i21,i22,i23,i24,i25,i26,n27,n28,n29,i30,i31 =>
 (cbr (decide (i31<((n27:Nat):Int)))
 (jn (fun (c:Ls→Int→Prop) =>
 (asr (decide ((0:Int)≤i31))
 (asr (decide (i31<((n27:Nat):Int)))
 (asr (decide ((List.length l1)=n28))
 (asr (decide ((0+(i31.toNat))<(List.length l1)))
 (lt (List.getD l1 (0+(i31.toNat)) .nils) (fun a =>
 (asr (conf (.one (.i .i64)) a)
 (cbr (!((yab a) == i13))
 (asr (decide ((0:Int)≤i30))
 (asr (decide (i30<((n27:Nat):Int)))
 (asr (decide ((List.length l1)=n28))
 (asr (decide ((0+(i30.toNat))<(List.length l1)))
 (lt (List.getD l1 (0+(i30.toNat)) .nils) (fun e =>
 (asr (conf (.one (.i .i64)) e)
 (lt (IntKind.i64.wrap (i30+(1:Int))) (fun f =>
 (c (List.set l1 (0+(i30.toNat)) (.int .i64 (yab a))) f))))))))))
 (c l1 i30))))))))))
 (fun g h=>(lt (IntKind.i64.wrap (i31+(1:Int))) (fun j =>
 (asr (decide ((List.length l2)=List.length l2)&&decide ((List.length l2)=List.length l2))
 (ydU a0 a1 a2 b d l0 g l2 l3 n4 n5 n6 l9 i10 l11 l12 i13 i14 i15 i16 i17 i18 l19 l20 i21 i22 i23 i24 i25 i26 n27 n28 n29 h j))))))
 (b l0 l1 l2 l3 n4 n5 n6 l9 i10 l11 l12 i13 i14 i15 i16 i17 i18 l19 l20 i21 i22 i23 i24 i25 i26 n27 n28 n29 i30 i31 false))
def yc3 (a0:yaE) (a1:yae) (a2:yaQ) (t:Ls→Ls→Ls→Ls→Nat→Nat→Nat→Ls→Int→Ls→Ls→Nat→Nat→Nat→Int→Int→Bool→Prop) (u:Ls→Ls→Ls→Ls→Nat→Nat→Nat→Ls→Int→Ls→Ls→Int→Int→Int→Int→Int→Int→Prop) (v:Ls→Ls→Ls→Ls→Nat→Nat→Nat→Ls→Int→Ls→Ls→Int→Int→Int→Int→Int→Int→Ls→Ls→Int→Int→Int→Int→Int→Int→Nat→Nat→Nat→Int→Int→Ls→Ls→Int→Bool→Ls→Ls→Int→Int→Int→Int→Int→Int→Bool→Bool→Prop):Nat→Ls→Ls→Ls→Ls→Nat→Nat→Nat→Ls→Int→Ls→Ls→Nat→Nat→Nat→Int→Int→Prop
 | 0,_,_,_,_,_,_,_,_,_,_,_,_,_,_,_,_=>False
 | Y+1,l0,l1,l2,l3,n4,n5,n6,l9,i10,l11,l12,n13,n14,n15,i16,i17 =>
 (cbr (decide (((n13:Nat):Int)>(0:Int)))
 (a2 l11 l12 l1 n13 n14 n15 i16 i17 (fun l j a e f b c g o p =>
 (cbr (o !=(0:Int))
 (u l0 p l2 l3 n4 n5 n6 l9 o l11 l12 a e f b c g)
 (asr (decide ((List.length l2)=(List.length l2)))
 (asr (decide ((0+(List.length l2))≤(List.length l2)))
 (asr (!(decide (((0+(List.length l2))+1)≤(List.length l2))))
 (asr (decide ((List.length l2)=(List.length l2)))
 (asr (decide ((((List.length l2)+1)+64)*(48+1)≤room))
 (asr (decide ((0:Int)≤a))
 (asr (decide (a<((n4:Nat):Int)))
 (asr (decide ((List.length l0)=n5))
 (asr (decide ((0+(a.toNat))<(List.length l0)))
 (lt (List.getD l0 (0+(a.toNat)) .nils) (fun Z =>
 (asr (conf (.one (.d)) Z)
 (cbr ((((List.length (l2++([(.agg [(.int .i64 a),(.int .i64 e),(.int .i64 f),(.int .i64 b),(.int .i64 c),(.int .i64 g)])]:Ls))):Nat):Int) ==(((List.length l3):Nat):Int))
 (v (List.set l0 (0+(a.toNat)) (.data ([(.agg [(.int .i64 e),(.int .i64 f),(.int .i64 b),(.int .i64 c)])]:Ls))) p (l2++([(.agg [(.int .i64 a),(.int .i64 e),(.int .i64 f),(.int .i64 b),(.int .i64 c),(.int .i64 g)])]:Ls)) l3 n4 n5 n6 j i10 l11 l12 a e f b c g l j a e f b c g n13 n14 n15 i16 i17 l j o false l j a e f b c g false true)
 (jn (fun (w:Ls→Ls→Ls→Ls→Nat→Nat→Nat→Ls→Int→Ls→Ls→Int→Int→Int→Int→Int→Int→Ls→Ls→Int→Int→Int→Int→Int→Int→Nat→Nat→Nat→Prop) =>
 (jn (fun (x:Ls→Ls→Ls→Ls→Nat→Nat→Nat→Ls→Int→Ls→Ls→Int→Int→Int→Int→Int→Int→Ls→Ls→Int→Int→Int→Int→Int→Int→Int→Prop) =>
 (asr (decide ((List.length (l2++([(.agg [(.int .i64 a),(.int .i64 e),(.int .i64 f),(.int .i64 b),(.int .i64 c),(.int .i64 g)])]:Ls)))=List.length (l2++([(.agg [(.int .i64 a),(.int .i64 e),(.int .i64 f),(.int .i64 b),(.int .i64 c),(.int .i64 g)])]:Ls)))&&decide ((List.length (l2++([(.agg [(.int .i64 a),(.int .i64 e),(.int .i64 f),(.int .i64 b),(.int .i64 c),(.int .i64 g)])]:Ls)))=List.length (l2++([(.agg [(.int .i64 a),(.int .i64 e),(.int .i64 f),(.int .i64 b),(.int .i64 c),(.int .i64 g)])]:Ls))))
 (∃ va:Nat,ydS a0 a1 a2
 (fun vb vc vd ve vf vg vh vi vj vk vl vm vn vo vp vq vr vs vt vu vv vw vx vy vz _ _ _ _ _ _=>(x vb vc vd ve vf vg vh vi vj vk vl vm vn vo vp vq vr vs vt vu vv vw vx vy vz (-1:Int)))
 (fun vA vB vC vD vE vF vG vH vI vJ vK vL vM vN vO vP vQ vR vS vT vU vV vW vX vY vZ=>(x vA vB vC vD vE vF vG vH vI vJ vK vL vM vN vO vP vQ vR vS vT vU vV vW vX vY vZ))
 va (List.set l0 (0+(a.toNat)) (.data ([(.agg [(.int .i64 e),(.int .i64 f),(.int .i64 b),(.int .i64 c)])]:Ls))) p (l2++([(.agg [(.int .i64 a),(.int .i64 e),(.int .i64 f),(.int .i64 b),(.int .i64 c),(.int .i64 g)])]:Ls)) l3 n4 n5 n6 j i10 l j a e f b c g l j a e f b c g n13 n14 n15 ((n13:Nat):Int) (0:Int))))
 (fun y z k A B C D E F G H I J K L M N O Q R S T U V W q=>(cbr (q ==(-1:Int))
 (w y z k A B C D E F G H I J K L M N O Q R S T U V W n13 n14 n15)
 (lt (IntKind.i64.wrap (q+(1:Int))) (fun v0 =>
 (asr (decide ((List.length k)=List.length k)&&decide ((List.length k)=List.length k))
 (∃ v1:Nat,ydU a0 a1 a2
 (fun v2 n v3 v4 v5 v6 v7 v8 v9 wa wb wc wd we wf wg wh wi wj wk wl wm wn wo wp i r s h _ _=>(jn (fun (X:Ls→Prop) =>
 (asr (decide ((0:Int)≤h))
 (asr (decide (h≤((i:Nat):Int)))
 (asr ((decide (((i:Nat):Int)≤((i:Nat):Int)))||(decide (((i:Nat):Int)≤((s:Nat):Int))))
 (cbr (decide (((((i:Nat):Int)-h).toNat)=0))
 (X n)
 (asr (decide ((List.length n)=r))
 (asr (decide (((0+(h.toNat))+((((i:Nat):Int)-h).toNat))≤r))
 (X ((List.take (0+(h.toNat)) n)++((List.replicate ((((i:Nat):Int)-h).toNat) ((.int .i64 (0)):PV))++(List.drop ((0+(h.toNat))+((((i:Nat):Int)-h).toNat)) n)))))))))))
 (fun wq=>(asr (decide ((0:Int)≤h))
 (asr ((decide (h≤((i:Nat):Int)))||(decide (h≤((s:Nat):Int))))
 (w v2 wq v3 v4 v5 v6 v7 v8 v9 wa wb wc wd we wf wg wh wi wj wk wl wm wn wo wp ((h-(0:Int)).toNat) r (s-0)))))))
 v1 y z k A B C D E F G H I J K L M N O Q R S T U V W n13 n14 n15 q v0))))))))
 (fun wr ws m wt wu wv ww wx wy wz wA _ _ _ _ _ _ _ _ _ _ _ _ _ _ wB wC wD=>(asr (decide ((List.length m)=List.length m)&&decide ((List.length m)=List.length m))
 (yc3 a0 a1 a2 t u v Y wr ws m wt wu wv ww wx wy wz wA wB wC wD b c))))))))))))))))))))
 (t l0 l1 l2 l3 n4 n5 n6 l9 i10 l11 l12 n13 n14 n15 i16 i17 false))
def yc4 (a0:yaE) (a1:yae) (a2:yaQ) (V:Ls→Ls→Ls→Nat→Nat→Nat→Ls→Int→Ls→Ls→Nat→Nat→Nat→Int→Int→Bool→Prop) (W:Ls→Ls→Ls→Nat→Nat→Nat→Ls→Int→Ls→Ls→Int→Int→Int→Int→Int→Int→Prop) (X:Ls→Ls→Ls→Ls→Nat→Nat→Nat→Ls→Int→Ls→Ls→Int→Int→Int→Int→Int→Int→Ls→Ls→Int→Int→Int→Int→Int→Int→Nat→Nat→Nat→Int→Int→Ls→Ls→Int→Bool→Ls→Ls→Int→Int→Int→Int→Int→Int→Bool→Bool→Prop) (Y:Ls→Ls→Ls→Ls→Nat→Nat→Nat→Ls→Int→Ls→Ls→Nat→Nat→Nat→Int→Int→Bool→Prop) (Z:Ls→Ls→Ls→Ls→Nat→Nat→Nat→Ls→Int→Ls→Ls→Int→Int→Int→Int→Int→Int→Prop) (va:Ls→Ls→Ls→Ls→Nat→Nat→Nat→Ls→Int→Ls→Ls→Int→Int→Int→Int→Int→Int→Ls→Ls→Int→Int→Int→Int→Int→Int→Nat→Nat→Nat→Int→Int→Ls→Ls→Int→Bool→Ls→Ls→Int→Int→Int→Int→Int→Int→Bool→Bool→Prop):Nat→Ls→Ls→Ls→Nat→Nat→Nat→Ls→Int→Ls→Ls→Nat→Nat→Nat→Int→Int→Prop
 | 0,_,_,_,_,_,_,_,_,_,_,_,_,_,_,_=>False
 | vb+1,l0,l1,l2,n3,n4,n5,l6,i7,l8,l9,n10,n11,n12,i13,i14 =>
 (cbr (decide (((n10:Nat):Int)>(0:Int)))
 (a2 l8 l9 l1 n10 n11 n12 i13 i14 (fun l j a f g b c h o p =>
 (cbr (o !=(0:Int))
 (W l0 p l2 n3 n4 n5 l6 o l8 l9 a f g b c h)
 (asr (decide ((0:Int)≤a))
 (asr (decide (a<((n3:Nat):Int)))
 (asr (decide ((List.length l0)=n4))
 (asr (decide ((0+(a.toNat))<(List.length l0)))
 (lt (List.getD l0 (0+(a.toNat)) .nils) (fun vc =>
 (asr (conf (.one (.d)) vc)
 (cbr ((1:Int) ==(((List.length l2):Nat):Int))
 (X (List.set l0 (0+(a.toNat)) (.data ([(.agg [(.int .i64 f),(.int .i64 g),(.int .i64 b),(.int .i64 c)])]:Ls))) p ([(.agg [(.int .i64 a),(.int .i64 f),(.int .i64 g),(.int .i64 b),(.int .i64 c),(.int .i64 h)])]:Ls) l2 n3 n4 n5 j i7 l8 l9 a f g b c h l j a f g b c h n10 n11 n12 i13 i14 l j o false l j a f g b c h false true)
 (jn (fun (t:Ls→Ls→Ls→Ls→Nat→Nat→Nat→Ls→Int→Ls→Ls→Int→Int→Int→Int→Int→Int→Ls→Ls→Int→Int→Int→Int→Int→Int→Nat→Nat→Nat→Prop) =>
 (jn (fun (u:Ls→Ls→Ls→Ls→Nat→Nat→Nat→Ls→Int→Ls→Ls→Int→Int→Int→Int→Int→Int→Ls→Ls→Int→Int→Int→Int→Int→Int→Int→Prop) =>
 (asr (decide (1=List.length ([(.agg [(.int .i64 a),(.int .i64 f),(.int .i64 g),(.int .i64 b),(.int .i64 c),(.int .i64 h)])]:Ls))&&decide (1=List.length ([(.agg [(.int .i64 a),(.int .i64 f),(.int .i64 g),(.int .i64 b),(.int .i64 c),(.int .i64 h)])]:Ls)))
 (∃ vd:Nat,ydR a0 a1 a2
 (fun ve vf vg vh vi vj vk vl vm vn vo vp vq vr vs vt vu vv vw vx vy vz vA vB vC _ _ _ _ _ _=>(u ve vf vg vh vi vj vk vl vm vn vo vp vq vr vs vt vu vv vw vx vy vz vA vB vC (-1:Int)))
 (fun vD vE vF vG vH vI vJ vK vL vM vN vO vP vQ vR vS vT vU vV vW vX vY vZ v0 v1 v2=>(u vD vE vF vG vH vI vJ vK vL vM vN vO vP vQ vR vS vT vU vV vW vX vY vZ v0 v1 v2))
 vd (List.set l0 (0+(a.toNat)) (.data ([(.agg [(.int .i64 f),(.int .i64 g),(.int .i64 b),(.int .i64 c)])]:Ls))) p ([(.agg [(.int .i64 a),(.int .i64 f),(.int .i64 g),(.int .i64 b),(.int .i64 c),(.int .i64 h)])]:Ls) l2 n3 n4 n5 j i7 l j a f g b c h l j a f g b c h n10 n11 n12 ((n10:Nat):Int) (0:Int))))
 (fun v w k x y z A B C D E F G H I J K L M N O Q R S T q=>(cbr (q ==(-1:Int))
 (t v w k x y z A B C D E F G H I J K L M N O Q R S T n10 n11 n12)
 (lt (IntKind.i64.wrap (q+(1:Int))) (fun v3 =>
 (asr (decide ((List.length k)=List.length k)&&decide ((List.length k)=List.length k))
 (∃ v4:Nat,ydT a0 a1 a2
 (fun v5 n v6 v7 v8 v9 wa wb wc wd we wf wg wh wi wj wk wl wm wn wo wp wq wr ws i r s e _ _=>(jn (fun (U:Ls→Prop) =>
 (asr (decide ((0:Int)≤e))
 (asr (decide (e≤((i:Nat):Int)))
 (asr ((decide (((i:Nat):Int)≤((i:Nat):Int)))||(decide (((i:Nat):Int)≤((s:Nat):Int))))
 (cbr (decide (((((i:Nat):Int)-e).toNat)=0))
 (U n)
 (asr (decide ((List.length n)=r))
 (asr (decide (((0+(e.toNat))+((((i:Nat):Int)-e).toNat))≤r))
 (U ((List.take (0+(e.toNat)) n)++((List.replicate ((((i:Nat):Int)-e).toNat) ((.int .i64 (0)):PV))++(List.drop ((0+(e.toNat))+((((i:Nat):Int)-e).toNat)) n)))))))))))
 (fun wt=>(asr (decide ((0:Int)≤e))
 (asr ((decide (e≤((i:Nat):Int)))||(decide (e≤((s:Nat):Int))))
 (t v5 wt v6 v7 v8 v9 wa wb wc wd we wf wg wh wi wj wk wl wm wn wo wp wq wr ws ((e-(0:Int)).toNat) r (s-0)))))))
 v4 v w k x y z A B C D E F G H I J K L M N O Q R S T n10 n11 n12 q v3))))))))
 (fun wu wv m ww wx wy wz wA wB wC wD _ _ _ _ _ _ _ _ _ _ _ _ _ _ wE wF wG=>(asr (decide ((List.length m)=List.length m)&&decide ((List.length m)=List.length m))
 (yc3 a0 a1 a2 Y Z va vb wu wv m ww wx wy wz wA wB wC wD wE wF wG b c)))))))))))))))
 (V l0 l1 l2 n3 n4 n5 l6 i7 l8 l9 n10 n11 n12 i13 i14 false))
def yju (a0:yaE) (a1:yae) (a2:yaQ) (p0:Ls) (K:Ls→Ls→Ls→Int→Prop):Prop :=
 (a0 p0 (fun a L f =>
 (cbr (f !=(0:Int))
 (K ([]:Ls) ([]:Ls) ([]:Ls) f)
 (asr (decide ((0:Int)≤(((List.length p0):Nat):Int)))
 (asr (decide ((((List.length p0):Nat):Int)≤(((List.length p0):Nat):Int)))
 (asr (decide (((List.length p0)+64)*(24+1)≤room))
 (asr (decide ((0:Int)≤(((List.length a):Nat):Int)))
 (asr (decide ((((List.length a):Nat):Int)≤(((List.length a):Nat):Int)))
 (asr (decide (((List.length a)+64)*(8+1)≤room))
 (∃ M:Nat,ydQ a0 a1 a2
 (fun N O Q R S T U V W X Y Z va _ _ _=>(a1 (0:Int) (fun vb vc =>
 (∃ vd:Nat,yc4 a0 a1 a2
 (fun g ve vf h i vg E j vh vi _ _ _ _ _ _=>(asr (noYH (noY 0) (fun _=>true) [⟨false,true,1,([(.data vf)]:Ls)⟩,⟨false,false,1,([(.agg [(.own 5 0 h i (some vg))])]:Ls)⟩,⟨false,false,1,([.nils]:Ls)⟩,⟨false,true,1,([(.data E)]:Ls)⟩,⟨false,true,1,([(.int .i64 j)]:Ls)⟩,⟨false,true,1,g⟩,⟨false,true,2,([(.agg [(.data vh),(.data vi)])]:Ls)⟩,⟨false,false,1,([(.fn (.func yax) [] [(.ptr 4 1 0 0)])]:Ls)⟩,⟨false,true,1,ve⟩])
 (cbr (j !=(0:Int))
 (K ([]:Ls) ([]:Ls) ([]:Ls) j)
 (asr (decide ((List.length g)=i))
 (asr (decide ((0+h)≤i))
 (K (List.take h g) ([]:Ls) E (0:Int)))))))
 (fun k vj vk l m vl F n vm vn vo vp vq vr vs vt=>(asr (noYH (noY 0) (fun _=>true) [⟨false,true,1,([(.data vk)]:Ls)⟩,⟨false,false,1,([(.agg [(.own 5 0 l m (some vl))])]:Ls)⟩,⟨false,false,1,([.nils]:Ls)⟩,⟨false,true,1,([(.data F)]:Ls)⟩,⟨false,true,1,([(.int .i64 n)]:Ls)⟩,⟨false,true,1,k⟩,⟨false,true,2,([(.agg [(.data vm),(.data vn)])]:Ls)⟩,⟨false,false,1,([(.fn (.func yax) [] [(.ptr 4 1 0 0)])]:Ls)⟩,⟨false,true,1,vj⟩,⟨false,true,6,([(.agg [(.int .i64 vo),(.int .i64 vp),(.int .i64 vq),(.int .i64 vr),(.int .i64 vs),(.int .i64 vt)])]:Ls)⟩])
 (cbr (n !=(0:Int))
 (K ([]:Ls) ([]:Ls) ([]:Ls) n)
 (asr (decide ((List.length k)=m))
 (asr (decide ((0+l)≤m))
 (K (List.take l k) ([]:Ls) F (0:Int)))))))
 (fun o vu b vv p q vw G r vx vy vz vA vB vC vD vE vF vG vH vI vJ vK vL vM _ _ _ _ _ _ _ _ _ _ _ _ _ _ _ _ _ _ _=>(asr (noYH (noY 0) (fun _=>true) [⟨false,true,1,([(.data vv)]:Ls)⟩,⟨false,false,1,([(.agg [(.own 5 0 p q (some vw))])]:Ls)⟩,⟨false,false,1,([(.own 12 0 (List.length b) (List.length b) none)]:Ls)⟩,⟨false,true,1,([(.data G)]:Ls)⟩,⟨false,true,1,([(.int .i64 r)]:Ls)⟩,⟨false,true,1,o⟩,⟨false,true,2,([(.agg [(.data vx),(.data vy)])]:Ls)⟩,⟨false,false,1,([(.fn (.func yax) [] [(.ptr 4 1 0 0)])]:Ls)⟩,⟨false,true,1,vu⟩,⟨false,true,6,([(.agg [(.int .i64 vz),(.int .i64 vA),(.int .i64 vB),(.int .i64 vC),(.int .i64 vD),(.int .i64 vE)])]:Ls)⟩,⟨false,true,2,([(.agg [(.data vF),(.data vG)])]:Ls)⟩,⟨false,true,6,([(.agg [(.int .i64 vH),(.int .i64 vI),(.int .i64 vJ),(.int .i64 vK),(.int .i64 vL),(.int .i64 vM)])]:Ls)⟩,⟨false,true,6,b⟩])
 (cbr (r !=(0:Int))
 (K ([]:Ls) ([]:Ls) ([]:Ls) r)
 (asr (decide ((List.length o)=q))
 (asr (decide ((0+p)≤q))
 (asr (decide ((List.length b)=(List.length b)))
 (asr (decide ((0+(List.length b))≤(List.length b)))
 (K (List.take p o) (List.take (List.length b) b) G (0:Int)))))))))
 (fun s vN c vO t u vP H v vQ vR _ _ _ _ _ _=>(asr (noYH (noY 0) (fun _=>true) [⟨false,true,1,([(.data vO)]:Ls)⟩,⟨false,false,1,([(.agg [(.own 5 0 t u (some vP))])]:Ls)⟩,⟨false,false,1,([(.own 12 0 (List.length c) (List.length c) none)]:Ls)⟩,⟨false,true,1,([(.data H)]:Ls)⟩,⟨false,true,1,([(.int .i64 v)]:Ls)⟩,⟨false,true,1,s⟩,⟨false,true,2,([(.agg [(.data vQ),(.data vR)])]:Ls)⟩,⟨false,false,1,([(.fn (.func yax) [] [(.ptr 4 1 0 0)])]:Ls)⟩,⟨false,true,1,vN⟩,⟨false,true,6,([]:Ls)⟩,⟨false,true,2,([]:Ls)⟩,⟨false,true,6,([]:Ls)⟩,⟨false,true,6,c⟩])
 (cbr (v !=(0:Int))
 (K ([]:Ls) ([]:Ls) ([]:Ls) v)
 (asr (decide ((List.length s)=u))
 (asr (decide ((0+t)≤u))
 (asr (decide ((List.length c)=(List.length c)))
 (asr (decide ((0+(List.length c))≤(List.length c)))
 (K (List.take t s) (List.take (List.length c) c) H (0:Int)))))))))
 (fun w vS d vT x y vU I z vV vW vX vY vZ v0 v1 v2=>(asr (noYH (noY 0) (fun _=>true) [⟨false,true,1,([(.data vT)]:Ls)⟩,⟨false,false,1,([(.agg [(.own 5 0 x y (some vU))])]:Ls)⟩,⟨false,false,1,([(.own 12 0 (List.length d) (List.length d) none)]:Ls)⟩,⟨false,true,1,([(.data I)]:Ls)⟩,⟨false,true,1,([(.int .i64 z)]:Ls)⟩,⟨false,true,1,w⟩,⟨false,true,2,([(.agg [(.data vV),(.data vW)])]:Ls)⟩,⟨false,false,1,([(.fn (.func yax) [] [(.ptr 4 1 0 0)])]:Ls)⟩,⟨false,true,1,vS⟩,⟨false,true,6,([]:Ls)⟩,⟨false,true,2,([]:Ls)⟩,⟨false,true,6,([]:Ls)⟩,⟨false,true,6,d⟩,⟨false,true,6,([(.agg [(.int .i64 vX),(.int .i64 vY),(.int .i64 vZ),(.int .i64 v0),(.int .i64 v1),(.int .i64 v2)])]:Ls)⟩])
 (cbr (z !=(0:Int))
 (K ([]:Ls) ([]:Ls) ([]:Ls) z)
 (asr (decide ((List.length w)=y))
 (asr (decide ((0+x)≤y))
 (asr (decide ((List.length d)=(List.length d)))
 (asr (decide ((0+(List.length d))≤(List.length d)))
 (K (List.take x w) (List.take (List.length d) d) I (0:Int)))))))))
 (fun A v3 e v4 B C v5 J D v6 v7 v8 v9 wa wb wc wd we wf wg wh wi wj wk wl _ _ _ _ _ _ _ _ _ _ _ _ _ _ _ _ _ _ _=>(asr (noYH (noY 0) (fun _=>true) [⟨false,true,1,([(.data v4)]:Ls)⟩,⟨false,false,1,([(.agg [(.own 5 0 B C (some v5))])]:Ls)⟩,⟨false,false,1,([(.own 12 0 (List.length e) (List.length e) none)]:Ls)⟩,⟨false,true,1,([(.data J)]:Ls)⟩,⟨false,true,1,([(.int .i64 D)]:Ls)⟩,⟨false,true,1,A⟩,⟨false,true,2,([(.agg [(.data v6),(.data v7)])]:Ls)⟩,⟨false,false,1,([(.fn (.func yax) [] [(.ptr 4 1 0 0)])]:Ls)⟩,⟨false,true,1,v3⟩,⟨false,true,6,([]:Ls)⟩,⟨false,true,2,([]:Ls)⟩,⟨false,true,6,([]:Ls)⟩,⟨false,true,6,e⟩,⟨false,true,6,([(.agg [(.int .i64 v8),(.int .i64 v9),(.int .i64 wa),(.int .i64 wb),(.int .i64 wc),(.int .i64 wd)])]:Ls)⟩,⟨false,true,2,([(.agg [(.data we),(.data wf)])]:Ls)⟩,⟨false,true,6,([(.agg [(.int .i64 wg),(.int .i64 wh),(.int .i64 wi),(.int .i64 wj),(.int .i64 wk),(.int .i64 wl)])]:Ls)⟩])
 (cbr (D !=(0:Int))
 (K ([]:Ls) ([]:Ls) ([]:Ls) D)
 (asr (decide ((List.length A)=C))
 (asr (decide ((0+B)≤C))
 (asr (decide ((List.length e)=(List.length e)))
 (asr (decide ((0+(List.length e))≤(List.length e)))
 (K (List.take B A) (List.take (List.length e) e) J (0:Int)))))))))
 vd N O Q R S T U V W X Y Z va vb vc))))
 M (List.replicate (List.length p0) ((.data []):PV)) (List.replicate (List.length a) ((.int .i64 (0)):PV)) p0 (List.length p0) (List.length p0) (List.length p0) ([]:Ls) f a L (List.length a) (List.length a) (List.length a) (((List.length a):Nat):Int) (0:Int)))))))))))
def yeV:yib:=yju yaV yay yaF
def yxd (Q:Qx):Ls→Ls→Ls→Nat→Nat→Nat→Ls→Int→Ls→Ls→Nat→Nat→Nat→Int→Int→Bool→Prop:=(fun l0 l1 l2 n3 n4 n5 l6 i7 l8 l9 n10 n11 n12 i13 i14 b15=>Q (.exit 0) [(0,.v (.fn (.yield 0) [] [])),(1,.v (.ptr 6 1 0 0)),(2,.v (.ptr 7 1 0 0)),(4,.v (.own 8 0 n10 n11 (some n12))),(15,.v (.int .i64 i13)),(16,.v (.int .i64 i14)),(17,.v (.bool b15))] [⟨false,true,1,([(.data l2)]:Ls)⟩,⟨false,false,1,([(.agg [(.own 5 0 n3 n4 (some n5))])]:Ls)⟩,⟨false,false,1,([.nils]:Ls)⟩,⟨false,true,1,([(.data l6)]:Ls)⟩,⟨false,true,1,([(.int .i64 i7)]:Ls)⟩,⟨false,true,1,l0⟩,⟨false,true,2,([(.agg [(.data l8),(.data l9)])]:Ls)⟩,⟨false,false,1,([(.fn (.func yax) [] [(.ptr 4 1 0 0)])]:Ls)⟩,⟨false,true,1,l1⟩])
def yxe (Q:Qx):Ls→Ls→Ls→Ls→Nat→Nat→Nat→Ls→Int→Ls→Ls→Int→Int→Int→Int→Int→Int→Ls→Ls→Int→Int→Int→Int→Int→Int→Nat→Nat→Nat→Int→Int→Bool→Prop:=(fun l0 l1 l2 l3 n4 n5 n6 l9 i10 l11 l12 i13 i14 i15 i16 i17 i18 l19 l20 i21 i22 i23 i24 i25 i26 n27 n28 n29 i30 i31 b32=>Q (.exit 0) [(0,.v (.own 8 0 n27 n28 (some n29))),(1,.v (.fn (.func yaP) [] [(.ptr 9 1 0 0)])),(7,.v (.int .i64 i30)),(8,.v (.int .i64 i31)),(9,.v (.bool b32))] [⟨false,true,1,([(.data l3)]:Ls)⟩,⟨false,false,1,([(.agg [(.own 5 0 n4 n5 (some n6))])]:Ls)⟩,⟨false,false,1,([(.own 12 0 (List.length l2) (List.length l2) none)]:Ls)⟩,⟨false,true,1,([(.data l9)]:Ls)⟩,⟨false,true,1,([(.int .i64 i10)]:Ls)⟩,⟨false,true,1,l0⟩,⟨false,true,2,([(.agg [(.data l11),(.data l12)])]:Ls)⟩,⟨false,false,1,([(.fn (.func yax) [] [(.ptr 4 1 0 0)])]:Ls)⟩,⟨false,true,1,l1⟩,⟨false,true,6,([(.agg [(.int .i64 i13),(.int .i64 i14),(.int .i64 i15),(.int .i64 i16),(.int .i64 i17),(.int .i64 i18)])]:Ls)⟩,⟨false,true,2,([(.agg [(.data l19),(.data l20)])]:Ls)⟩,⟨false,true,6,([(.agg [(.int .i64 i21),(.int .i64 i22),(.int .i64 i23),(.int .i64 i24),(.int .i64 i25),(.int .i64 i26)])]:Ls)⟩,⟨false,true,6,l2⟩])
def yxf (Q:Qx):Ls→Ls→Ls→Ls→Nat→Nat→Nat→Ls→Int→Ls→Ls→Int→Int→Int→Int→Int→Int→Ls→Ls→Int→Int→Int→Int→Int→Int→Int→Prop:=(fun l0 l1 l2 l3 n4 n5 n6 l9 i10 l11 l12 i13 i14 i15 i16 i17 i18 l19 l20 i21 i22 i23 i24 i25 i26 i27=>Q .ret [(4,.v (.int .i64 i27))] [⟨false,true,1,([(.data l3)]:Ls)⟩,⟨false,false,1,([(.agg [(.own 5 0 n4 n5 (some n6))])]:Ls)⟩,⟨false,false,1,([(.own 12 0 (List.length l2) (List.length l2) none)]:Ls)⟩,⟨false,true,1,([(.data l9)]:Ls)⟩,⟨false,true,1,([(.int .i64 i10)]:Ls)⟩,⟨false,true,1,l0⟩,⟨false,true,2,([(.agg [(.data l11),(.data l12)])]:Ls)⟩,⟨false,false,1,([(.fn (.func yax) [] [(.ptr 4 1 0 0)])]:Ls)⟩,⟨false,true,1,l1⟩,⟨false,true,6,([(.agg [(.int .i64 i13),(.int .i64 i14),(.int .i64 i15),(.int .i64 i16),(.int .i64 i17),(.int .i64 i18)])]:Ls)⟩,⟨false,true,2,([(.agg [(.data l19),(.data l20)])]:Ls)⟩,⟨false,true,6,([(.agg [(.int .i64 i21),(.int .i64 i22),(.int .i64 i23),(.int .i64 i24),(.int .i64 i25),(.int .i64 i26)])]:Ls)⟩,⟨false,true,6,l2⟩])
def yxg (Q:Qx):Ls→Ls→Ls→Ls→Nat→Nat→Nat→Ls→Int→Ls→Ls→Int→Int→Int→Int→Int→Int→Ls→Ls→Int→Int→Int→Int→Int→Int→Nat→Nat→Nat→Int→Int→Bool→Prop:=(fun l0 l1 l2 l3 n4 n5 n6 l9 i10 l11 l12 i13 i14 i15 i16 i17 i18 l19 l20 i21 i22 i23 i24 i25 i26 n27 n28 n29 i30 i31 b32=>Q (.exit 0) [(0,.v (.own 8 0 n27 n28 (some n29))),(1,.v (.fn (.func yaP) [] [(.ptr 13 1 0 0)])),(7,.v (.int .i64 i30)),(8,.v (.int .i64 i31)),(9,.v (.bool b32))] [⟨false,true,1,([(.data l3)]:Ls)⟩,⟨false,false,1,([(.agg [(.own 5 0 n4 n5 (some n6))])]:Ls)⟩,⟨false,false,1,([(.own 12 0 (List.length l2) (List.length l2) none)]:Ls)⟩,⟨false,true,1,([(.data l9)]:Ls)⟩,⟨false,true,1,([(.int .i64 i10)]:Ls)⟩,⟨false,true,1,l0⟩,⟨false,true,2,([(.agg [(.data l11),(.data l12)])]:Ls)⟩,⟨false,false,1,([(.fn (.func yax) [] [(.ptr 4 1 0 0)])]:Ls)⟩,⟨false,true,1,l1⟩,⟨false,true,6,([]:Ls)⟩,⟨false,true,2,([]:Ls)⟩,⟨false,true,6,([]:Ls)⟩,⟨false,true,6,l2⟩,⟨false,true,6,([(.agg [(.int .i64 i13),(.int .i64 i14),(.int .i64 i15),(.int .i64 i16),(.int .i64 i17),(.int .i64 i18)])]:Ls)⟩,⟨false,true,2,([(.agg [(.data l19),(.data l20)])]:Ls)⟩,⟨false,true,6,([(.agg [(.int .i64 i21),(.int .i64 i22),(.int .i64 i23),(.int .i64 i24),(.int .i64 i25),(.int .i64 i26)])]:Ls)⟩])
def yxh (Q:Qx):Ls→Ls→Ls→Ls→Nat→Nat→Nat→Ls→Int→Ls→Ls→Int→Int→Int→Int→Int→Int→Ls→Ls→Int→Int→Int→Int→Int→Int→Int→Prop:=(fun l0 l1 l2 l3 n4 n5 n6 l9 i10 l11 l12 i13 i14 i15 i16 i17 i18 l19 l20 i21 i22 i23 i24 i25 i26 i27=>Q .ret [(4,.v (.int .i64 i27))] [⟨false,true,1,([(.data l3)]:Ls)⟩,⟨false,false,1,([(.agg [(.own 5 0 n4 n5 (some n6))])]:Ls)⟩,⟨false,false,1,([(.own 12 0 (List.length l2) (List.length l2) none)]:Ls)⟩,⟨false,true,1,([(.data l9)]:Ls)⟩,⟨false,true,1,([(.int .i64 i10)]:Ls)⟩,⟨false,true,1,l0⟩,⟨false,true,2,([(.agg [(.data l11),(.data l12)])]:Ls)⟩,⟨false,false,1,([(.fn (.func yax) [] [(.ptr 4 1 0 0)])]:Ls)⟩,⟨false,true,1,l1⟩,⟨false,true,6,([]:Ls)⟩,⟨false,true,2,([]:Ls)⟩,⟨false,true,6,([]:Ls)⟩,⟨false,true,6,l2⟩,⟨false,true,6,([(.agg [(.int .i64 i13),(.int .i64 i14),(.int .i64 i15),(.int .i64 i16),(.int .i64 i17),(.int .i64 i18)])]:Ls)⟩,⟨false,true,2,([(.agg [(.data l19),(.data l20)])]:Ls)⟩,⟨false,true,6,([(.agg [(.int .i64 i21),(.int .i64 i22),(.int .i64 i23),(.int .i64 i24),(.int .i64 i25),(.int .i64 i26)])]:Ls)⟩])
def yxi (Q:Qx):Ls→Ls→Ls→Ls→Nat→Nat→Nat→Ls→Int→Ls→Ls→Int→Int→Int→Int→Int→Int→Ls→Ls→Int→Int→Int→Int→Int→Int→Nat→Nat→Nat→Int→Int→Bool→Prop:=(fun l0 l1 l2 l3 n4 n5 n6 l9 i10 l11 l12 i13 i14 i15 i16 i17 i18 l19 l20 i21 i22 i23 i24 i25 i26 n27 n28 n29 i30 i31 b32=>Q (.exit 0) [(0,.v (.own 8 0 n27 n28 (some n29))),(1,.v (.fn (.func yaP) [] [(.ptr 9 1 0 0)])),(5,.v (.int .i64 i30)),(6,.v (.int .i64 i31)),(19,.v (.bool b32))] [⟨false,true,1,([(.data l3)]:Ls)⟩,⟨false,false,1,([(.agg [(.own 5 0 n4 n5 (some n6))])]:Ls)⟩,⟨false,false,1,([(.own 12 0 (List.length l2) (List.length l2) none)]:Ls)⟩,⟨false,true,1,([(.data l9)]:Ls)⟩,⟨false,true,1,([(.int .i64 i10)]:Ls)⟩,⟨false,true,1,l0⟩,⟨false,true,2,([(.agg [(.data l11),(.data l12)])]:Ls)⟩,⟨false,false,1,([(.fn (.func yax) [] [(.ptr 4 1 0 0)])]:Ls)⟩,⟨false,true,1,l1⟩,⟨false,true,6,([(.agg [(.int .i64 i13),(.int .i64 i14),(.int .i64 i15),(.int .i64 i16),(.int .i64 i17),(.int .i64 i18)])]:Ls)⟩,⟨false,true,2,([(.agg [(.data l19),(.data l20)])]:Ls)⟩,⟨false,true,6,([(.agg [(.int .i64 i21),(.int .i64 i22),(.int .i64 i23),(.int .i64 i24),(.int .i64 i25),(.int .i64 i26)])]:Ls)⟩,⟨false,true,6,l2⟩])
def yxj (Q:Qx):Ls→Ls→Ls→Ls→Nat→Nat→Nat→Ls→Int→Ls→Ls→Int→Int→Int→Int→Int→Int→Ls→Ls→Int→Int→Int→Int→Int→Int→Nat→Nat→Nat→Int→Int→Bool→Prop:=(fun l0 l1 l2 l3 n4 n5 n6 l9 i10 l11 l12 i13 i14 i15 i16 i17 i18 l19 l20 i21 i22 i23 i24 i25 i26 n27 n28 n29 i30 i31 b32=>Q (.exit 0) [(0,.v (.own 8 0 n27 n28 (some n29))),(1,.v (.fn (.func yaP) [] [(.ptr 13 1 0 0)])),(5,.v (.int .i64 i30)),(6,.v (.int .i64 i31)),(19,.v (.bool b32))] [⟨false,true,1,([(.data l3)]:Ls)⟩,⟨false,false,1,([(.agg [(.own 5 0 n4 n5 (some n6))])]:Ls)⟩,⟨false,false,1,([(.own 12 0 (List.length l2) (List.length l2) none)]:Ls)⟩,⟨false,true,1,([(.data l9)]:Ls)⟩,⟨false,true,1,([(.int .i64 i10)]:Ls)⟩,⟨false,true,1,l0⟩,⟨false,true,2,([(.agg [(.data l11),(.data l12)])]:Ls)⟩,⟨false,false,1,([(.fn (.func yax) [] [(.ptr 4 1 0 0)])]:Ls)⟩,⟨false,true,1,l1⟩,⟨false,true,6,([]:Ls)⟩,⟨false,true,2,([]:Ls)⟩,⟨false,true,6,([]:Ls)⟩,⟨false,true,6,l2⟩,⟨false,true,6,([(.agg [(.int .i64 i13),(.int .i64 i14),(.int .i64 i15),(.int .i64 i16),(.int .i64 i17),(.int .i64 i18)])]:Ls)⟩,⟨false,true,2,([(.agg [(.data l19),(.data l20)])]:Ls)⟩,⟨false,true,6,([(.agg [(.int .i64 i21),(.int .i64 i22),(.int .i64 i23),(.int .i64 i24),(.int .i64 i25),(.int .i64 i26)])]:Ls)⟩])
def yxk (Q:Qx):Ls→Ls→Ls→Nat→Nat→Nat→Ls→Int→Ls→Ls→Nat→Nat→Nat→Int→Int→Bool→Prop:=(fun l0 l1 l2 n3 n4 n5 l6 i7 l8 l9 n10 n11 n12 i13 i14 b15=>Q (.exit 2) [(0,.v (.fn (.yield 0) [] [])),(1,.v (.ptr 6 1 0 0)),(2,.v (.ptr 7 1 0 0)),(4,.v (.own 8 0 n10 n11 (some n12))),(6,.box (.agg [(.int .i64 i13),(.int .i64 i14)])),(27,.v (.bool b15))] [⟨false,true,1,([(.data l2)]:Ls)⟩,⟨false,false,1,([(.agg [(.own 5 0 n3 n4 (some n5))])]:Ls)⟩,⟨false,false,1,([.nils]:Ls)⟩,⟨false,true,1,([(.data l6)]:Ls)⟩,⟨false,true,1,([(.int .i64 i7)]:Ls)⟩,⟨false,true,1,l0⟩,⟨false,true,2,([(.agg [(.data l8),(.data l9)])]:Ls)⟩,⟨false,false,1,([(.fn (.func yax) [] [(.ptr 4 1 0 0)])]:Ls)⟩,⟨false,true,1,l1⟩])
def yxl (Q:Qx):Ls→Ls→Ls→Nat→Nat→Nat→Ls→Int→Ls→Ls→Int→Int→Int→Int→Int→Int→Prop:=(fun l0 l1 l2 n3 n4 n5 l6 i7 l8 l9 i10 i11 i12 i13 i14 i15=>Q .ret [] [⟨false,true,1,([(.data l2)]:Ls)⟩,⟨false,false,1,([(.agg [(.own 5 0 n3 n4 (some n5))])]:Ls)⟩,⟨false,false,1,([.nils]:Ls)⟩,⟨false,true,1,([(.data l6)]:Ls)⟩,⟨false,true,1,([(.int .i64 i7)]:Ls)⟩,⟨false,true,1,l0⟩,⟨false,true,2,([(.agg [(.data l8),(.data l9)])]:Ls)⟩,⟨false,false,1,([(.fn (.func yax) [] [(.ptr 4 1 0 0)])]:Ls)⟩,⟨false,true,1,l1⟩,⟨false,true,6,([(.agg [(.int .i64 i10),(.int .i64 i11),(.int .i64 i12),(.int .i64 i13),(.int .i64 i14),(.int .i64 i15)])]:Ls)⟩])
def yxm (Q:Qx):Ls→Ls→Ls→Ls→Nat→Nat→Nat→Ls→Int→Ls→Ls→Int→Int→Int→Int→Int→Int→Ls→Ls→Int→Int→Int→Int→Int→Int→Nat→Nat→Nat→Int→Int→Ls→Ls→Int→Bool→Ls→Ls→Int→Int→Int→Int→Int→Int→Bool→Bool→Prop:=(fun l0 l1 l2 l3 n4 n5 n6 l9 i10 l11 l12 i13 i14 i15 i16 i17 i18 l19 l20 i21 i22 i23 i24 i25 i26 n27 n28 n29 i30 i31 l32 l33 i34 b35 l36 l37 i38 i39 i40 i41 i42 i43 b44 b45=>Q (.brk 0 0) [(0,.v (.fn (.yield 0) [] [])),(1,.v (.ptr 6 1 0 0)),(2,.v (.ptr 7 1 0 0)),(4,.v (.own 8 0 n27 n28 (some n29))),(6,.box (.agg [(.int .i64 i30),(.int .i64 i31)])),(7,.box (.agg [(.data l32),(.data l33)])),(8,.v (.ptr 9 1 0 0)),(9,.v (.int .i64 i34)),(37,.v (.bool b35)),(41,.v (.fn (.yield 0) [] [])),(42,.v (.agg [(.data l36),(.data l37)])),(43,.v (.agg [(.int .i64 i38),(.int .i64 i39),(.int .i64 i40),(.int .i64 i41),(.int .i64 i42),(.int .i64 i43)])),(44,.v (.bool b44)),(45,.v (.bool b45))] [⟨false,true,1,([(.data l3)]:Ls)⟩,⟨false,false,1,([(.agg [(.own 5 0 n4 n5 (some n6))])]:Ls)⟩,⟨false,false,1,([(.own 12 0 (List.length l2) (List.length l2) none)]:Ls)⟩,⟨false,true,1,([(.data l9)]:Ls)⟩,⟨false,true,1,([(.int .i64 i10)]:Ls)⟩,⟨false,true,1,l0⟩,⟨false,true,2,([(.agg [(.data l11),(.data l12)])]:Ls)⟩,⟨false,false,1,([(.fn (.func yax) [] [(.ptr 4 1 0 0)])]:Ls)⟩,⟨false,true,1,l1⟩,⟨false,true,6,([(.agg [(.int .i64 i13),(.int .i64 i14),(.int .i64 i15),(.int .i64 i16),(.int .i64 i17),(.int .i64 i18)])]:Ls)⟩,⟨false,true,2,([(.agg [(.data l19),(.data l20)])]:Ls)⟩,⟨false,true,6,([(.agg [(.int .i64 i21),(.int .i64 i22),(.int .i64 i23),(.int .i64 i24),(.int .i64 i25),(.int .i64 i26)])]:Ls)⟩,⟨false,true,6,l2⟩])
def yom (Q:Qx):Ls→Ls→Ls→Ls→Nat→Nat→Nat→Ls→Int→Ls→Ls→Nat→Nat→Nat→Int→Int→Bool→Prop:=(fun l0 l1 l2 l3 n4 n5 n6 l9 i10 l11 l12 n13 n14 n15 i16 i17 b18=>Q (.exit 2) [(0,.v (.fn (.yield 0) [] [])),(1,.v (.ptr 6 1 0 0)),(2,.v (.ptr 7 1 0 0)),(4,.v (.own 8 0 n13 n14 (some n15))),(6,.box (.agg [(.int .i64 i16),(.int .i64 i17)])),(27,.v (.bool b18))] [⟨false,true,1,([(.data l3)]:Ls)⟩,⟨false,false,1,([(.agg [(.own 5 0 n4 n5 (some n6))])]:Ls)⟩,⟨false,false,1,([(.own 12 0 (List.length l2) (List.length l2) none)]:Ls)⟩,⟨false,true,1,([(.data l9)]:Ls)⟩,⟨false,true,1,([(.int .i64 i10)]:Ls)⟩,⟨false,true,1,l0⟩,⟨false,true,2,([(.agg [(.data l11),(.data l12)])]:Ls)⟩,⟨false,false,1,([(.fn (.func yax) [] [(.ptr 4 1 0 0)])]:Ls)⟩,⟨false,true,1,l1⟩,⟨false,true,6,([]:Ls)⟩,⟨false,true,2,([]:Ls)⟩,⟨false,true,6,([]:Ls)⟩,⟨false,true,6,l2⟩])
def yon (Q:Qx):Ls→Ls→Ls→Ls→Nat→Nat→Nat→Ls→Int→Ls→Ls→Int→Int→Int→Int→Int→Int→Prop:=(fun l0 l1 l2 l3 n4 n5 n6 l9 i10 l11 l12 i13 i14 i15 i16 i17 i18=>Q .ret [] [⟨false,true,1,([(.data l3)]:Ls)⟩,⟨false,false,1,([(.agg [(.own 5 0 n4 n5 (some n6))])]:Ls)⟩,⟨false,false,1,([(.own 12 0 (List.length l2) (List.length l2) none)]:Ls)⟩,⟨false,true,1,([(.data l9)]:Ls)⟩,⟨false,true,1,([(.int .i64 i10)]:Ls)⟩,⟨false,true,1,l0⟩,⟨false,true,2,([(.agg [(.data l11),(.data l12)])]:Ls)⟩,⟨false,false,1,([(.fn (.func yax) [] [(.ptr 4 1 0 0)])]:Ls)⟩,⟨false,true,1,l1⟩,⟨false,true,6,([]:Ls)⟩,⟨false,true,2,([]:Ls)⟩,⟨false,true,6,([]:Ls)⟩,⟨false,true,6,l2⟩,⟨false,true,6,([(.agg [(.int .i64 i13),(.int .i64 i14),(.int .i64 i15),(.int .i64 i16),(.int .i64 i17),(.int .i64 i18)])]:Ls)⟩])
def yoo (Q:Qx):Ls→Ls→Ls→Ls→Nat→Nat→Nat→Ls→Int→Ls→Ls→Int→Int→Int→Int→Int→Int→Ls→Ls→Int→Int→Int→Int→Int→Int→Nat→Nat→Nat→Int→Int→Ls→Ls→Int→Bool→Ls→Ls→Int→Int→Int→Int→Int→Int→Bool→Bool→Prop:=(fun l0 l1 l2 l3 n4 n5 n6 l9 i10 l11 l12 i13 i14 i15 i16 i17 i18 l19 l20 i21 i22 i23 i24 i25 i26 n27 n28 n29 i30 i31 l32 l33 i34 b35 l36 l37 i38 i39 i40 i41 i42 i43 b44 b45=>Q (.brk 0 0) [(0,.v (.fn (.yield 0) [] [])),(1,.v (.ptr 6 1 0 0)),(2,.v (.ptr 7 1 0 0)),(4,.v (.own 8 0 n27 n28 (some n29))),(6,.box (.agg [(.int .i64 i30),(.int .i64 i31)])),(7,.box (.agg [(.data l32),(.data l33)])),(8,.v (.ptr 13 1 0 0)),(9,.v (.int .i64 i34)),(37,.v (.bool b35)),(41,.v (.fn (.yield 0) [] [])),(42,.v (.agg [(.data l36),(.data l37)])),(43,.v (.agg [(.int .i64 i38),(.int .i64 i39),(.int .i64 i40),(.int .i64 i41),(.int .i64 i42),(.int .i64 i43)])),(44,.v (.bool b44)),(45,.v (.bool b45))] [⟨false,true,1,([(.data l3)]:Ls)⟩,⟨false,false,1,([(.agg [(.own 5 0 n4 n5 (some n6))])]:Ls)⟩,⟨false,false,1,([(.own 12 0 (List.length l2) (List.length l2) none)]:Ls)⟩,⟨false,true,1,([(.data l9)]:Ls)⟩,⟨false,true,1,([(.int .i64 i10)]:Ls)⟩,⟨false,true,1,l0⟩,⟨false,true,2,([(.agg [(.data l11),(.data l12)])]:Ls)⟩,⟨false,false,1,([(.fn (.func yax) [] [(.ptr 4 1 0 0)])]:Ls)⟩,⟨false,true,1,l1⟩,⟨false,true,6,([]:Ls)⟩,⟨false,true,2,([]:Ls)⟩,⟨false,true,6,([]:Ls)⟩,⟨false,true,6,l2⟩,⟨false,true,6,([(.agg [(.int .i64 i13),(.int .i64 i14),(.int .i64 i15),(.int .i64 i16),(.int .i64 i17),(.int .i64 i18)])]:Ls)⟩,⟨false,true,2,([(.agg [(.data l19),(.data l20)])]:Ls)⟩,⟨false,true,6,([(.agg [(.int .i64 i21),(.int .i64 i22),(.int .i64 i23),(.int .i64 i24),(.int .i64 i25),(.int .i64 i26)])]:Ls)⟩])
def pt41:RPt:=rC vD rN
def pt42:RPt:=rC (vA (lC (vO 5 (nK 0) nV nV nV) lN)) rN
def pt43:RPt:=rC (vF yax lN (lC (vP 4 0 (nK 1) (nK 0)) lN)) rN
def pt44:HPt:=hB false true 1 pt41 (hB false false 1 pt42 (hB false false 1 (rC vNs rN) (hB false true 1 pt41 (hB false true 1 pt20 (hB false true 1 rA (hB false true 2 pt38 (hB false false 1 pt43 pt32)))))))
def pt45:VPt:=vP 6 0 (nK 1) (nK 0)
def pt46:VPt:=vP 7 0 (nK 1) (nK 0)
def pt47:VPt:=vO 8 (nK 0) nV nV nV
def pt48:Pat Frm:=fV 1 (vP 0 0 (nK 1) (nK 0)) (fV 2 pt22 (fV 3 pt21 (fV 4 pt40 (fV 5 (vP 4 0 (nK 1) (nK 0)) (fV 24 (vF yc9 lN (lC pt45 (lC pt46 lN))) fN)))))
def yqa (a0:yaE) (a1:yae) (a2:yaQ) (Q:Qx):List St:=[⟨(pS pt44 (fV 0 vY (fV 1 pt45 (fV 2 pt46 (fV 4 pt47 (fV 15 pt0 (fV 16 pt0 fN)))))) pt48),fun n l2 n3 n4 n5 l6 i7 l0 l8 l9 l1 n10 n11 n12 i13 i14=>ydQ a0 a1 a2 (yxd Q) n l0 l1 l2 n3 n4 n5 l6 i7 l8 l9 n10 n11 n12 i13 i14⟩]
def pt49:RPt:=rC (vW 12 (nK 0) (nT 12) (nT 12)) rN
def pt50:HPt:=hB false true 1 pt41 (hB false false 1 pt42 (hB false false 1 pt49 (hB false true 1 pt41 (hB false true 1 pt20 (hB false true 1 rA (hB false true 2 pt38 (hB false false 1 pt43 (hB false true 1 rA (hB false true 6 pt39 (hB false true 2 pt38 (hB false true 6 pt39 pt37)))))))))))
def pt51:VPt:=vF yaP lN (lC (vP 9 0 (nK 1) (nK 0)) lN)
def pt52:HPt:=hB false true 1 pt41 (hB false false 1 pt42 (hB false false 1 pt49 (hB false true 1 pt41 (hB false true 1 pt20 (hB false true 1 rA (hB false true 2 pt38 (hB false false 1 pt43 (hB false true 1 rA (hB false true 6 rN (hB false true 2 rN (hB false true 6 rN (hB false true 6 rA (hB false true 6 pt39 (hB false true 2 pt38 (hB false true 6 pt39 hN)))))))))))))))
def pt53:VPt:=vF yaP lN (lC (vP 13 0 (nK 1) (nK 0)) lN)
def yqb (a0:yaE) (a1:yae) (a2:yaQ) (Q:Qx):List St:=[⟨(pS pt50 (fV 0 pt47 (fV 1 pt51 pt10)) fN),fun n l3 n4 n5 n6 l9 i10 l0 l11 l12 l1 i13 i14 i15 i16 i17 i18 l19 l20 i21 i22 i23 i24 i25 i26 l2 n27 n28 n29 i30 i31=>ydR a0 a1 a2 (yxe Q) (yxf Q) n l0 l1 l2 l3 n4 n5 n6 l9 i10 l11 l12 i13 i14 i15 i16 i17 i18 l19 l20 i21 i22 i23 i24 i25 i26 n27 n28 n29 i30 i31⟩,⟨(pS pt52 (fV 0 pt47 (fV 1 pt53 pt10)) fN),fun n l3 n4 n5 n6 l9 i10 l0 l11 l12 l1 l2 i13 i14 i15 i16 i17 i18 l19 l20 i21 i22 i23 i24 i25 i26 n27 n28 n29 i30 i31=>ydS a0 a1 a2 (yxg Q) (yxh Q) n l0 l1 l2 l3 n4 n5 n6 l9 i10 l11 l12 i13 i14 i15 i16 i17 i18 l19 l20 i21 i22 i23 i24 i25 i26 n27 n28 n29 i30 i31⟩]
def yqc (a0:yaE) (a1:yae) (a2:yaQ) (Q:Qx):List St:=[⟨(pS pt50 (fV 0 pt47 (fV 1 pt51 (fV 5 pt0 (fV 6 pt0 fN)))) fN),fun n l3 n4 n5 n6 l9 i10 l0 l11 l12 l1 i13 i14 i15 i16 i17 i18 l19 l20 i21 i22 i23 i24 i25 i26 l2 n27 n28 n29 i30 i31=>ydT a0 a1 a2 (yxi Q) n l0 l1 l2 l3 n4 n5 n6 l9 i10 l11 l12 i13 i14 i15 i16 i17 i18 l19 l20 i21 i22 i23 i24 i25 i26 n27 n28 n29 i30 i31⟩,⟨(pS pt52 (fV 0 pt47 (fV 1 pt53 (fV 5 pt0 (fV 6 pt0 fN)))) fN),fun n l3 n4 n5 n6 l9 i10 l0 l11 l12 l1 l2 i13 i14 i15 i16 i17 i18 l19 l20 i21 i22 i23 i24 i25 i26 n27 n28 n29 i30 i31=>ydU a0 a1 a2 (yxj Q) n l0 l1 l2 l3 n4 n5 n6 l9 i10 l11 l12 i13 i14 i15 i16 i17 i18 l19 l20 i21 i22 i23 i24 i25 i26 n27 n28 n29 i30 i31⟩]
def pt54:Pat Frm:=fV 0 vY (fV 1 pt45 (fV 2 pt46 (fV 4 pt47 (fX 6 pt7 fN))))
def yqd (a0:yaE) (a1:yae) (a2:yaQ) (Q:Qx):List St:=[⟨(pS pt44 pt54 pt48),fun n l2 n3 n4 n5 l6 i7 l0 l8 l9 l1 n10 n11 n12 i13 i14=>yc4 a0 a1 a2 (yxk Q) (yxl Q) (yxm Q) (yom Q) (yon Q) (yoo Q) n l0 l1 l2 n3 n4 n5 l6 i7 l8 l9 n10 n11 n12 i13 i14⟩,⟨(pS (hB false true 1 pt41 (hB false false 1 pt42 (hB false false 1 pt49 (hB false true 1 pt41 (hB false true 1 pt20 (hB false true 1 rA (hB false true 2 pt38 (hB false false 1 pt43 (hB false true 1 rA (hB false true 6 rN (hB false true 2 rN (hB false true 6 rN pt37)))))))))))) pt54 pt48),fun n l3 n4 n5 n6 l9 i10 l0 l11 l12 l1 l2 n13 n14 n15 i16 i17=>yc3 a0 a1 a2 (yom Q) (yon Q) (yoo Q) n l0 l1 l2 l3 n4 n5 n6 l9 i10 l11 l12 n13 n14 n15 i16 i17⟩]
def yd6 (a0:yaE) (a1:yae) (a2:yaQ):LP:=lpS [(82399400,yqa a0 a1 a2),(91326000,yqb a0 a1 a2),(55401000,yqc a0 a1 a2),(82399401,yqd a0 a1 a2)]
def yhw (e:Es) (a0:yaE) (a1:yae) (a2:yaQ):SE:=⟨(E e),yjf [(ygG,yuj.pw a0),(ycD,yjJ.pw a1)],yjg [(yg8,ypC),(yax,yrH),(yaP,yjh)],yd6 a0 a1 a2,yww [(yd9,yhd a2)]⟩
def yhx (e:Es) (a0:yaE) (a1:yae) (a2:yaQ):SE:=⟨(E e),yjf [(ygG,yuj.pw a0),(ycD,yjJ.pw a1)],yjg [(yg8,ypC),(yax,yrH),(ycF,ylf),(yer,ymY),(yaP,yjh)],yd6 a0 a1 a2,yww [(yd9,yhd a2)]⟩
theorem yh4 (e:Es) (he:EG e):SEOk (Uni (E e)) (yhw e yaV yay yaF):=yCP (Sub.uni _) ⟨(yuk e he),(yj2 e he),trivial⟩ ⟨⟨by kernel_rfl,by kernel_rfl,rfl,fun as=>ybu (by kernel_rfl) as,he.num _ (by kernel_rfl),by kernel_rfl,(yaf (by kernel_rfl))⟩,⟨by kernel_rfl,by kernel_rfl,rfl,fun as=>ybu (by kernel_rfl) as,he.num _ (by kernel_rfl),by kernel_rfl,(yaf (by kernel_rfl))⟩,⟨by kernel_rfl,by kernel_rfl,rfl,fun as=>ybu (by kernel_rfl) as,he.num _ (by kernel_rfl),by kernel_rfl,(yaf (by kernel_rfl))⟩,trivial⟩ he.ok ⟨(yp9 e he),trivial⟩
theorem yvf (e:Es) (a0 a1 a2):ybQ (yhw e a0 a1 a2) 5 (fun G=>WYk (E e) (yki (yhw e a0 a1 a2) 5) (yd6 a0 a1 a2) G [25,26] ycJ ycK) ylg true (yqa a0 a1 a2):=fun _=>⟨fun _=>by kernel_rfl,fun _ _=>by kernel_rfl,trivial⟩
theorem yvg (e:Es) (he:EG e) (G:Frm):LpT (Rng (E e) G [25,26] (erase ycJ) (erase ycK)) (yd6 yaV yay yaF) G 82399400 (.loopG 82399400 ylg):=fun _ _ _=>yni.stG (P:=(Rng (E e) G [25,26] (erase ycJ) (erase ycK))) (Sub.rng _ _ _ _ _) ((yat (yh4 e he) 5).sub (Sub.rng _ _ _ _ _)) (yJo (as:=ycJ) (bd:=ycK) (yat (yh4 e he) 5) (by kernel_rfl) (by kernel_rfl) (yaf (by kernel_rfl)) (yaf (by kernel_rfl))) (yaf (by kernel_rfl)) (yvf e _ _ _ _)
theorem yvh (e:Es) (a0 a1 a2):ybQ (yhw e a0 a1 a2) 5 a yld false (yqb a0 a1 a2):=fun _=>⟨fun _=>by kernel_rfl,fun _ _=>by kernel_rfl,fun _=>by kernel_rfl,fun _ _=>by kernel_rfl,trivial⟩
theorem yvi (e:Es) (he:EG e):LpT (Uni (E e)) (yd6 yaV yay yaF) [] 91326000 (.loop 91326000 yld):=fun _ _ _=>yni.st (Sub.uni _) (yat (yh4 e he) 5) (YOk.no _ _) (yaf (by kernel_rfl)) (yvh e _ _ _ _)
theorem yvj (e:Es) (a0 a1 a2):ybQ (yhw e a0 a1 a2) 5 a yle false (yqc a0 a1 a2):=fun _=>⟨fun _=>by kernel_rfl,fun _ _=>by kernel_rfl,fun _=>by kernel_rfl,fun _ _=>by kernel_rfl,trivial⟩
theorem yvk (e:Es) (he:EG e):LpT (Uni (E e)) (yd6 yaV yay yaF) [] 55401000 (.loop 55401000 yle):=fun _ _ _=>yni.st (Sub.uni _) (yat (yh4 e he) 5) (YOk.no _ _) (yaf (by kernel_rfl)) (yvj e _ _ _ _)
theorem yh5 (e:Es) (he:EG e):SEOk (Uni (E e)) (yhx e yaV yay yaF):=yCP (Sub.uni _) ⟨(yuk e he),(yj2 e he),trivial⟩ ⟨⟨by kernel_rfl,by kernel_rfl,rfl,fun as=>ybu (by kernel_rfl) as,he.num _ (by kernel_rfl),by kernel_rfl,(yaf (by kernel_rfl))⟩,⟨by kernel_rfl,by kernel_rfl,rfl,fun as=>ybu (by kernel_rfl) as,he.num _ (by kernel_rfl),by kernel_rfl,(yaf (by kernel_rfl))⟩,⟨by kernel_rfl,by kernel_rfl,rfl,fun as=>ybu (by kernel_rfl) as,he.num _ (by kernel_rfl),by kernel_rfl,(yaR (l:=[(55401000,.loop 55401000 yle)]) ⟨yvk e he,trivial⟩ (by kernel_rfl))⟩,⟨by kernel_rfl,by kernel_rfl,rfl,fun as=>ybu (by kernel_rfl) as,he.num _ (by kernel_rfl),by kernel_rfl,(yaR (l:=[(91326000,.loop 91326000 yld)]) ⟨yvi e he,trivial⟩ (by kernel_rfl))⟩,⟨by kernel_rfl,by kernel_rfl,rfl,fun as=>ybu (by kernel_rfl) as,he.num _ (by kernel_rfl),by kernel_rfl,(yaf (by kernel_rfl))⟩,trivial⟩ he.ok ⟨(yp9 e he),trivial⟩
theorem yvl (e:Es) (a0 a1 a2):ybQ (yhx e a0 a1 a2) 5 (fun G=>WYk (E e) (yki (yhx e a0 a1 a2) 5) (yd6 a0 a1 a2) G [25,26] ycJ ycK) ylh true (yqd a0 a1 a2):=fun _=>⟨fun _=>by kernel_rfl,fun _ _=>by kernel_rfl,fun _=>by kernel_rfl,fun _ _=>by kernel_rfl,trivial⟩
theorem yvm (e:Es) (he:EG e) (G:Frm):LpT (Rng (E e) G [25,26] (erase ycJ) (erase ycK)) (yd6 yaV yay yaF) G 82399401 (.loopG 82399401 ylh):=fun _ _ _=>yni.stG (P:=(Rng (E e) G [25,26] (erase ycJ) (erase ycK))) (Sub.rng _ _ _ _ _) ((yat (yh5 e he) 5).sub (Sub.rng _ _ _ _ _)) (yJo (as:=ycJ) (bd:=ycK) (yat (yh5 e he) 5) (by kernel_rfl) (by kernel_rfl) (yaf (by kernel_rfl)) (yaf (by kernel_rfl))) (yaf (by kernel_rfl)) (yvl e _ _ _ _)
theorem yDW (e:Es) (a0 a1 a2):EqW (yhx e a0 a1 a2) 6 yFu yw3 (yju a0 a1 a2):=fun _ _=>by kernel_rfl
theorem yuw (e:Es) (he:EG e):OkS (E e) (yw3.pw yeV) yiA:=okU he (yDW e _ _ _) (SEOk.solo (S:=(yhx e yaV yay yaF)) (yh5 e he)) (yiy.one ((yh5 e he)) 6) (yJp (r:=yC6) (l:=[]) trivial (by kernel_rfl) (by kernel_rfl) (yHU (f:=yc9) (by kernel_rfl) (by kernel_rfl) (by kernel_rfl) (by kernel_rfl) (fun G=>(yaR (l:=[(82399400,.loopG 82399400 ylg),(82399401,.loopG 82399401 ylh)]) ⟨yvg e he G,yvm e he G,trivial⟩ (by kernel_rfl))) (yaf (by kernel_rfl)) (yaf (by kernel_rfl))))
end Go.Pf.Vc
namespace Go.Pf.Vc
open Go Go.Pf
set_option linter.unusedVariables false
theorem ymz (p0:Ls) (r0:Ls) (r1:Ls) (r2:Ls) (r3:Int) (h:∀ K:Ls→Ls→Ls→Int→Prop,K r0 r1 r2 r3→yeV p0 K) (K:Ls→Ls→Ls→Int→Prop):yeV p0 K=K r0 r1 r2 r3 :=
 propext ⟨fun k=>detS (yuw [] yaG) (as:=[(.data p0)]) (x:=(.tup [(.agg [(.data r0)]),(.data r1),(.data r2),(.int .i64 r3)])) (fun K' k'=>h (fun r0 r1 r2 r3=>K' (.tup [(.agg [(.data r0)]),(.data r1),(.data r2),(.int .i64 r3)])) k') (K:=fun x=>match x with | (.tup [(.agg [(.data r0)]),(.data r1),(.data r2),(.int .i64 r3)])=>K r0 r1 r2 r3 | _=>False) k,h K⟩
end Go.Pf.Vc
namespace Go.Pf.Vc
open Go Go.Pf
set_option maxRecDepth 100000
abbrev yxn:Type:=Ls→Int→(Bool→Prop)→Prop
def yhG (a0:ygS) (a1:yae) (a2:yae) (a3:yib) (a4:yib) (a5:yaK) (a6:yaK) (a7:yaK) (p0:Ls) (p1:Int) (K:Bool→Prop):Prop :=
 (a0 p0 (fun b =>
 (cbr b
 (K true)
 (a1 p1 (fun c d =>
 (a2 p1 (fun e f =>
 (a3 p0 (fun g h i j =>
 (a4 p0 (fun k l m n =>
 (jn (fun (a:Bool→Prop) =>
 (cbr (c == e)
 (cbr (d == f)
 (a5 g k (fun o =>
 (cbr o
 (a6 h l (fun p =>
 (cbr p
 (a7 i m (fun q =>
 (cbr q
 (a (j == n))
 (a false))))
 (a false))))
 (a false))))
 (a false))
 (a false)))
 (fun r=>(K r))))))))))))))
def ygw:yxn:=yhG ycW yh3 yn9 yeV yfZ yfI ydj yce
def yvn:Sg:=⟨(lC vD pt1),Bool→Prop,fun K=>(fun r0=>K (.bool r0))⟩
def yvo (e:Es) (a0:ygS) (a1:yae) (a2:yae) (a3:yib) (a4:yib) (a5:yaK) (a6:yaK) (a7:yaK):SE:=sE (E e) [(ydL,ysm.pw a0),(ygg,ysq.pw a1),(yhk,ysq.pw a2),(yiA,yw3.pw a3),(ykq,yw3.pw a4),(yiG,yDU.pw a5),(yei,yhE.pw a6),(yeM,yhE.pw a7)] lp0
theorem yvp (e:Es) (a0 a1 a2 a3 a4 a5 a6 a7):EqW (yvo e a0 a1 a2 a3 a4 a5 a6 a7) 6 ywE yvn (yhG a0 a1 a2 a3 a4 a5 a6 a7):=fun _ _=>by kernel_rfl
theorem yvq (e:Es) (he:EG e):OkS (E e) (yvn.pw ygw) yiH:=okU he (yvp e _ _ _ _ _ _ _ _) (yah (Sub.solo _) ⟨(OkF.solo (yjo e he)),(OkF.solo (yyE e he)),(OkF.solo (yBq e he)),(yuw e he),(OkF.solo (yw8 e he)),(OkF.solo (yuv e he)),(OkF.solo (ykE e he)),(OkF.solo (ymU e he)),trivial⟩ trivial he.ok) yiy.flat (yaf (by kernel_rfl))
end Go.Pf.Vc
namespace Go.Pf.Vc
open Go Go.Pf
def I64 (n:Int):Prop:=-9223372036854775808≤n∧n≤9223372036854775807
def U64 (n:Int):Prop:=0≤n∧n≤18446744073709551615
theorem yhM (n:Int):IntKind.u64.wrap n=n % 18446744073709551616:=by
 simp only [IntKind.wrap,IntKind.signed,IntKind.bits,Bool.false_and,Bool.false_eq_true,if_false]
 rfl
theorem yMM (n:Int):IntKind.i64.wrap n=if n % 18446744073709551616≥9223372036854775808 then n % 18446744073709551616-18446744073709551616 else n % 18446744073709551616:=by
 have e1:(2:Int) ^ 64=18446744073709551616:=rfl
 have e2:(2:Int) ^ (64-1)=9223372036854775808:=rfl
 simp only [IntKind.wrap,IntKind.signed,IntKind.bits,Bool.true_and,e1,e2]
 by_cases h:n % 18446744073709551616≥9223372036854775808 <;> simp [h]
theorem wu64 {n:Int} (h:U64 n):IntKind.u64.wrap n=n:=by
 unfold U64 at h
 rw [yhM]
 omega
theorem wi64 {n:Int} (h:I64 n):IntKind.i64.wrap n=n:=by
 unfold I64 at h
 rw [yMM]
 split <;> omega
theorem yad {x y:Prop}:cbr true x y=x:=rfl
theorem yaa {x y:Prop}:cbr false x y=y:=rfl
theorem yaj {x:Prop}:asr true x=x:=rfl
theorem yhe {p:Int} (h:I64 p) (K:Int→Prop):ydq p K=K (p.natAbs:Int):=by
 unfold I64 at h
 unfold ydq yjB
 by_cases hp:p<0
 · have e:IntKind.u64.wrap ((0:Int)-IntKind.u64.wrap p)=(p.natAbs:Int):=by
     rw [yhM,yhM]
     omega
   rw [decide_eq_true hp,yad,e]
 · rw [decide_eq_false hp,yaa,wu64 ⟨by omega,by omega⟩]
   congr 1
   omega
theorem yDX (x:Int→Int→Bool→Prop):∀ (n a b:Nat),b<n→yej x n (a:Int) (b:Int)=x ((Nat.gcd a b:Nat):Int) 0 false
 | 0,a,b,h=>by omega
 | n+1,a,b,h=>by
   unfold yej
   by_cases hb:b=0
   · subst hb
     simp [cbr]
   · have h1:(b:Int)>0:=by omega
     have h2:¬((b:Int)=0):=by omega
     rw [decide_eq_true h1,yad,decide_eq_false h2,Bool.not_false,yaj]
     have e:Int.tmod (a:Int) (b:Int)=((a % b:Nat):Int):=by rw [Int.tmod_eq_emod_of_nonneg (by omega)];omega
     rw [e,yDX x n b (a % b) (by have:=Nat.mod_lt a (show b>0 by omega);omega)]
     rw [Nat.gcd_comm a b,Nat.gcd_rec b a,Nat.gcd_comm]
theorem ytP (a b:Nat) (K:Int→Prop) (h:K ((Nat.gcd a b:Nat):Int)):ybO (a:Int) (b:Int) K:=by
 unfold ybO ylw
 exact ⟨b+1,by rw [yDX _ (b+1) a b (by omega)];exact h⟩
def RV (n d:Int):Prop:=1≤d∧d≤1000000000000000000∧-1000000000000000000≤n∧n≤1000000000000000000∧Nat.gcd n.natAbs d.natAbs=1
instance (n d:Int):Decidable (RV n d):=by unfold RV;infer_instance
def chk (n d:Int):Int:=if RV n d then 0 else 8
theorem yxo {n d:Int} (hn:I64 n) (hd:I64 d) {K:Int→Prop} (h:K (chk n d)):ya0 n d K:=by
 unfold ya0 yiI
 by_cases h1:d<1
 · have e:chk n d=8:=if_neg fun h=>by have:=h.1;omega
   rw [decide_eq_true h1,yad,← e];exact h
 · have hd':=hd;have hn':=hn
   unfold I64 at hd' hn'
   have ed:IntKind.u64.wrap d=((d.natAbs:Nat):Int):=by rw [wu64 ⟨by omega,by omega⟩];omega
   rw [decide_eq_false h1,yaa,yhe hn,ed]
   by_cases h2:((if ((d.natAbs:Nat):Int)>((n.natAbs:Nat):Int) then ((d.natAbs:Nat):Int) else ((n.natAbs:Nat):Int))>1000000000000000000)
   · have e:chk n d=8:=if_neg fun h=>by
       obtain ⟨a1,a2,a3,a4,_⟩:=h
       revert h2;split <;> omega
     rw [decide_eq_true h2,yad,← e];exact h
   · rw [decide_eq_false h2,yaa,yhe hn]
     refine ytP _ _ _ ?_
     have h3:0<Nat.gcd n.natAbs d.natAbs:=Nat.gcd_pos_of_pos_right _ (by omega)
     have h4:d≤1000000000000000000∧-1000000000000000000≤n∧n≤1000000000000000000:=by
       revert h2;split <;> omega
     by_cases h5:((Nat.gcd n.natAbs d.natAbs:Nat):Int)>1
     · have e:chk n d=8:=if_neg fun h=>by have:=h.2.2.2.2;omega
       rw [decide_eq_true h5,yad,← e];exact h
     · have e:chk n d=0:=if_pos ⟨by omega,h4.1,h4.2.1,h4.2.2,by omega⟩
       rw [decide_eq_false h5,yaa,← e];exact h
end Go.Pf.Vc
namespace Go.Pf.Vc
open Go Go.Pf
theorem ymA {p:Int} (h:U64 p):IntKind.u64.wrap (BitVec.ofInt IntKind.u64.bits p&&&BitVec.ofInt IntKind.u64.bits (4294967295:Int)).toNat=p % 4294967296:=by
 unfold U64 at h
 have e1:(BitVec.ofInt 64 p).toNat=p.toNat:=by
   rw [BitVec.toNat_ofInt];omega
 have e2:(BitVec.ofInt 64 (4294967295:Int)).toNat=4294967295:=rfl
 have e3:(BitVec.ofInt IntKind.u64.bits p&&&BitVec.ofInt IntKind.u64.bits (4294967295:Int)).toNat=p.toNat % 4294967296:=by
   show (BitVec.ofInt 64 p&&&BitVec.ofInt 64 (4294967295:Int)).toNat=_
   rw [BitVec.toNat_and,e1,e2]
   exact Nat.and_two_pow_sub_one_eq_mod p.toNat 32
 rw [e3,yhM]
 omega
theorem yJw (p:Int):Int.fdiv p 4294967296=p / 4294967296:=by
 rw [Int.fdiv_eq_ediv_of_nonneg _ (by omega)]
theorem yiU {a b:Int} (ha:U64 a) (hb:U64 b) (K:Int→Int→Prop):ye8 a b K=K (a*b / 18446744073709551616) (a*b % 18446744073709551616):=by
 unfold ye8 yqL
 simp only [yJw]
 rw [ymA ha,ymA hb]
 unfold U64 at ha hb
 have ha':=ha;have hb':=hb
 obtain ⟨x1,hx1⟩:∃ x,x=a / 4294967296:=⟨_,rfl⟩
 obtain ⟨x0,hx0⟩:∃ x,x=a % 4294967296:=⟨_,rfl⟩
 obtain ⟨y1,hy1⟩:∃ x,x=b / 4294967296:=⟨_,rfl⟩
 obtain ⟨y0,hy0⟩:∃ x,x=b % 4294967296:=⟨_,rfl⟩
 rw [← hx1,← hx0,← hy1,← hy0]
 have b1:0≤x1∧x1≤4294967295:=by omega
 have b2:0≤x0∧x0≤4294967295:=by omega
 have b3:0≤y1∧y1≤4294967295:=by omega
 have b4:0≤y0∧y0≤4294967295:=by omega
 have pb:∀ x y:Int,0≤x∧x≤4294967295→0≤y∧y≤4294967295→0≤x*y∧x*y≤18446744065119617025:=by
   intro x y hx hy
   refine ⟨Int.mul_nonneg hx.1 hy.1,?_⟩
   have:=Int.mul_le_mul hx.2 hy.2 hy.1 (by omega:(0:Int)≤4294967295)
   omega
 have p1:=pb x1 y1 b1 b3
 have p2:=pb x1 y0 b1 b4
 have p3:=pb x0 y1 b2 b3
 have p4:=pb x0 y0 b2 b4
 have ea:a=x1*4294967296+x0:=by omega
 have eb:b=y1*4294967296+y0:=by omega
 have eab:a*b=x1*y1*18446744073709551616+x1*y0*4294967296+x0*y1*4294967296+x0*y0:=by
   rw [ea,eb];grind
 obtain ⟨P,hP⟩:∃ x,x=x1*y1:=⟨_,rfl⟩
 obtain ⟨Q,hQ⟩:∃ x,x=x1*y0:=⟨_,rfl⟩
 obtain ⟨R,hR⟩:∃ x,x=x0*y1:=⟨_,rfl⟩
 obtain ⟨S,hS⟩:∃ x,x=x0*y0:=⟨_,rfl⟩
 rw [← hP] at p1;rw [← hQ] at p2;rw [← hR] at p3;rw [← hS] at p4
 rw [← hP,← hQ,← hR,← hS] at eab ⊢
 have w1:IntKind.u64.wrap S=S:=wu64 ⟨by omega,by omega⟩
 have w2:IntKind.u64.wrap Q=Q:=wu64 ⟨by omega,by omega⟩
 have w3:IntKind.u64.wrap R=R:=wu64 ⟨by omega,by omega⟩
 have w4:IntKind.u64.wrap P=P:=wu64 ⟨by omega,by omega⟩
 rw [w1,w2,w3,w4]
 have w5:IntKind.u64.wrap (Q+S / 4294967296)=Q+S / 4294967296:=wu64 ⟨by omega,by omega⟩
 rw [w5,ymA ⟨by omega,by omega⟩]
 have w6:IntKind.u64.wrap ((Q+S / 4294967296) % 4294967296+R)=(Q+S / 4294967296) % 4294967296+R:=wu64 ⟨by omega,by omega⟩
 rw [w6]
 have w7:IntKind.u64.wrap (P+(Q+S / 4294967296) / 4294967296)=P+(Q+S / 4294967296) / 4294967296:=by
   have:a*b / 18446744073709551616≤18446744073709551615:=by
     have h1:a*b≤18446744073709551615*18446744073709551615:=by
       have:=Int.mul_le_mul ha'.2 hb'.2 hb'.1 (by omega:(0:Int)≤18446744073709551615)
       exact this
     omega
   exact wu64 ⟨by omega,by omega⟩
 rw [w7]
 have hab:a*b≤18446744073709551615*18446744073709551615:=Int.mul_le_mul ha'.2 hb'.2 hb'.1 (by omega:(0:Int)≤18446744073709551615)
 rw [eab] at hab ⊢
 rw [yhM,yhM]
 congr 1
 omega
theorem yMh {a b:Int} {K:Int→Prop} (h:K (if a=0 then b else a)):yec [.int .i64 a,.int .i64 b] K:=by
 unfold yec yfh
 refine ⟨3,?_⟩
 have e1:IntKind.i64.wrap 1=1:=by decide
 have e2:IntKind.i64.wrap 2=2:=by decide
 by_cases ha:a=0
 · by_cases hb:b=0
   · simp [ybd,yad,yaa,yaj,conf,ygb,yab,e1,e2,ha,hb] at h ⊢;exact h
   · have e3:(b != 0)=true:=by simpa using hb
     simp [ybd,yad,yaa,yaj,conf,ygb,yab,e1,e2,ha,e3] at h ⊢;exact h
 · have e3:(a != 0)=true:=by simpa using ha
   simp [ybd,yad,yaa,yaj,conf,ygb,yab,e1,e2,ha,e3] at h ⊢;exact h
def chk2 (a b c d:Int):Int:=if chk a b=0 then chk c d else chk a b
theorem yop {a b c d:Int} (ha:I64 a) (hb:I64 b) (hc:I64 c) (hd:I64 d) {K:Int→Prop} (h:K (chk2 a b c d)):ycL a b c d K:=by
 unfold ycL yiJ
 exact yxo ha hb (yxo hc hd (yMh h))
end Go.Pf.Vc
namespace Go.Pf.Vc
open Go Go.Pf
def cmp3 (a b:Int):Int:=if a<b then -1 else if a>b then 1 else 0
theorem yBC (a b:Int) (K:Int→Prop):ydJ a b K=K (cmp3 a b):=by
 unfold ydJ yeP
 simp only [ygn,yfz,bne_self_eq_false,yaa,cmp3]
 by_cases h:a<b
 · simp [h,yad]
 · by_cases h2:a>b
   · simp [h,h2,yad,yaa]
   · simp [h,h2,yaa]
theorem ysA (a b:Int) (K:Int→Prop):ydr a b K=K (cmp3 a b):=by
 unfold ydr yet
 simp only [yfA,yfj,bne_self_eq_false,yaa,cmp3]
 by_cases h:a<b
 · simp [h,yad]
 · by_cases h2:a>b
   · simp [h,h2,yad,yaa]
   · simp [h,h2,yaa]
theorem yKR {a b:Int} {K:Int→Prop} (h:K (if a=0 then b else a)):yhT [.int .i64 a,.int .i64 b] K:=by
 unfold yhT yjD
 refine ⟨3,?_⟩
 have e1:IntKind.i64.wrap 1=1:=by decide
 have e2:IntKind.i64.wrap 2=2:=by decide
 by_cases ha:a=0
 · by_cases hb:b=0
   · simp [ycR,yad,yaa,yaj,conf,ygb,yab,e1,e2,ha,hb] at h ⊢;exact h
   · have e3:(b != 0)=true:=by simpa using hb
     simp [ycR,yad,yaa,yaj,conf,ygb,yab,e1,e2,ha,e3] at h ⊢;exact h
 · have e3:(a != 0)=true:=by simpa using ha
   simp [ycR,yad,yaa,yaj,conf,ygb,yab,e1,e2,ha,e3] at h ⊢;exact h
theorem yfb {a b c d:Int}:chk2 a b c d=0↔RV a b∧RV c d:=by
 unfold chk2 chk
 by_cases h1:RV a b <;> by_cases h2:RV c d <;> simp [h1,h2]
def cmpR (a b c d:Int):Int:=cmp3 (a*d) (c*b)
theorem yIe {x y:Int} (_:0≤x) (_:0≤y):(if cmp3 (x / 18446744073709551616) (y / 18446744073709551616)=0 then cmp3 (x % 18446744073709551616) (y % 18446744073709551616) else cmp3 (x / 18446744073709551616) (y / 18446744073709551616))=cmp3 x y:=by
 unfold cmp3
 split <;> rename_i h <;> revert h <;> repeat' split <;> intro h <;> omega
theorem U64.abs {n:Int} (h:I64 n):U64 ((n.natAbs:Nat):Int):=by unfold I64 at h;unfold U64;omega
theorem yMi {a b c d:Int} (ha:I64 a) (hb:I64 b) (hc:I64 c) (hd:I64 d) {K:Int→Int→Prop} (h:K (if chk2 a b c d=0 then cmpR a b c d else 0) (chk2 a b c d)):yd2 a b c d K:=by
 unfold yd2 ylA
 refine yop ha hb hc hd ?_
 by_cases hk:chk2 a b c d=0
 · rw [if_pos hk] at h
   rw [hk] at h ⊢
   obtain ⟨⟨b1,b2,a1,a2,_⟩,d1,d2,c1,c2,_⟩:=yfb.1 hk
   simp only [bne_self_eq_false,yaa]
   by_cases hs:decide (a<0)=decide (c<0)
   · have e:(decide (a<0) != decide (c<0))=false:=by rw [hs];simp
     rw [e,yaa,yhe ha,wu64 ⟨by omega,by omega⟩,yiU (U64.abs ha) ⟨by omega,by omega⟩,yhe hc,wu64 ⟨by omega,by omega⟩,yiU (U64.abs hc) ⟨by omega,by omega⟩,ysA,ysA]
     refine yKR ?_
     have p1:0≤((a.natAbs:Nat):Int)*d:=Int.mul_nonneg (by omega) (by omega)
     have p2:0≤((c.natAbs:Nat):Int)*b:=Int.mul_nonneg (by omega) (by omega)
     rw [yIe p1 p2]
     by_cases hneg:a<0
     · have hcn:c<0:=by simpa [hneg] using hs.symm
       rw [decide_eq_true hneg,yad]
       have e1:((a.natAbs:Nat):Int)*d=-(a*d):=by
         rw [show ((a.natAbs:Nat):Int)=-a by omega,Int.neg_mul]
       have e2:((c.natAbs:Nat):Int)*b=-(c*b):=by
         rw [show ((c.natAbs:Nat):Int)=-c by omega,Int.neg_mul]
       have e3:IntKind.i64.wrap (0-cmp3 (((a.natAbs:Nat):Int)*d) (((c.natAbs:Nat):Int)*b))=cmpR a b c d:=by
         rw [e1,e2]
         unfold cmpR cmp3
         rw [wi64 (by unfold I64;repeat' split <;> omega)]
         repeat' split <;> omega
       rw [e3];exact h
     · have hcn:¬c<0:=by simpa [hneg] using hs.symm
       rw [decide_eq_false hneg,yaa,show ((a.natAbs:Nat):Int)=a by omega,show ((c.natAbs:Nat):Int)=c by omega]
       exact h
   · have e:(decide (a<0) != decide (c<0))=true:=by simpa using hs
     rw [e,yad,yBC]
     have e2:cmp3 a c=cmpR a b c d:=by
       unfold cmpR cmp3
       by_cases hneg:a<0
       · have hcn:¬c<0:=by intro hcn;simp [hneg,hcn] at hs
         have q1:a*d<0:=Int.mul_neg_of_neg_of_pos hneg (by omega)
         have q2:0≤c*b:=Int.mul_nonneg (by omega) (by omega)
         rw [if_pos (by omega),if_pos (by omega)]
       · have hcn:c<0:=by
           by_cases hcn:c<0
           · exact hcn
           · simp [hneg,hcn] at hs
         have q1:c*b<0:=Int.mul_neg_of_neg_of_pos hcn (by omega)
         have q2:0≤a*d:=Int.mul_nonneg (by omega) (by omega)
         rw [if_neg (by omega),if_pos (by omega),if_neg (by omega),if_pos (by omega)]
     rw [e2];exact h
 · rw [if_neg hk] at h
   have e:(chk2 a b c d != 0)=true:=by simpa using hk
   rw [e,yad];exact h
end Go.Pf.Vc
namespace Go.Pf.Vc
open Go Go.Pf
def blen (x:Nat):Nat:=if x=0 then 0 else x.log2+1
theorem yHb (x:Nat):x<2 ^ blen x:=by
 unfold blen
 split
 · rename_i h;subst h;decide
 · exact Nat.lt_log2_self
theorem yvE {x:Nat} (h:x≠0):2 ^ (blen x-1)≤x:=by
 unfold blen
 rw [if_neg h]
 exact Nat.log2_self_le h
theorem yKS {x m:Nat} (h1:2 ^ m≤x) (h2:x<2 ^ (m+1)):blen x=m+1:=by
 have hx:x≠0:=by have:=Nat.two_pow_pos m;omega
 unfold blen
 rw [if_neg hx]
 congr 1
 have a:=Nat.log2_self_le hx
 have b:=Nat.lt_log2_self (n:=x)
 have c1:¬(x.log2<m):=fun h=>by
   have:=Nat.pow_le_pow_right (show 0<2 by omega) (show x.log2+1≤m by omega)
   omega
 have c2:¬(m<x.log2):=fun h=>by
   have:=Nat.pow_le_pow_right (show 0<2 by omega) (show m+1≤x.log2 by omega)
   omega
 omega
theorem yJx {x k:Nat} (h:2 ^ k≤x):blen x=k+blen (x / 2 ^ k):=by
 have hp:=Nat.two_pow_pos k
 have hq:x / 2 ^ k≠0:=by
   have:=Nat.div_pos h hp
   omega
 have h1:=yvE hq
 have h2:=yHb (x / 2 ^ k)
 obtain ⟨m,hm⟩:∃ m,blen (x / 2 ^ k)=m+1:=⟨blen (x / 2 ^ k)-1,by
   have:blen (x / 2 ^ k)≠0:=by unfold blen;rw [if_neg hq];omega
   omega⟩
 rw [hm] at h1 h2 ⊢
 rw [Nat.add_sub_cancel] at h1
 have:=yKS (x:=x) (m:=k+m) (by
     rw [Nat.pow_add]
     calc 2 ^ k*2 ^ m≤2 ^ k*(x / 2 ^ k):=Nat.mul_le_mul_left _ h1
       _≤x:=Nat.mul_div_le _ _) (by
     rw [show k+m+1=k+(m+1) by omega,Nat.pow_add]
     rw [Nat.mul_comm]
     exact (Nat.div_lt_iff_lt_mul hp).1 h2)
 omega
theorem yMj:∀ x:Nat,x<256→yab (List.getD yge x .nils)=(blen x:Int):=by decide +kernel
theorem wu8 {n:Int} (h0:0≤n) (h1:n<256):IntKind.u8.wrap n=n:=by
 have e1:(2:Int) ^ 8=256:=rfl
 simp only [IntKind.wrap,IntKind.signed,IntKind.bits,Bool.false_and,Bool.false_eq_true,if_false,e1]
 omega
theorem yKT {n:Int} (h0:0≤n) (h1:n<256):yab (List.getD yge (IntKind.u8.wrap n).toNat .nils)=(blen n.toNat:Int):=by
 rw [wu8 h0 h1]
 exact yMj n.toNat (by omega)
theorem yMN {n:Nat} (h:n<256):blen n≤8:=by
 by_cases h0:n=0
 · subst h0;decide
 · have:=yvE h0
   have h2:blen n-1<8:=by
     refine Nat.lt_of_not_le fun hc=>?_
     have:=Nat.pow_le_pow_right (show 0<2 by omega) hc
     omega
   omega
theorem yux {n k:Int} (h0:0≤n) (h1:n<256) (hk:0≤k∧k≤56) {m:Int} (hm:m=k+blen n.toNat) {K:Int→Prop} (h:K m) :
   asr (decide ((0:Int)≤(IntKind.u8.wrap n))) (asr (decide ((IntKind.u8.wrap n)<(256:Int))) (K (IntKind.i64.wrap (k+(IntKind.i64.wrap (yab (List.getD yge ((IntKind.u8.wrap n).toNat) .nils))))))):=by
 have hb:=yMN (n:=n.toNat) (by omega)
 have e1:IntKind.i64.wrap (blen n.toNat:Int)=blen n.toNat:=wi64 (by unfold I64;omega)
 have e2:IntKind.i64.wrap (k+blen n.toNat:Int)=k+blen n.toNat:=wi64 (by unfold I64;omega)
 rw [yKT h0 h1,wu8 h0 h1,decide_eq_true h0,yaj,decide_eq_true h1,yaj,e1,e2,← hm]
 exact h
theorem yuy (p q:Int) (hq:0≤q):Int.fdiv p q=p / q:=Int.fdiv_eq_ediv_of_nonneg _ hq
theorem yJy {p:Int} (hp:U64 p) {K:Int→Prop} (h:K (blen p.toNat:Int)):yoS p K:=by
 unfold U64 at hp
 unfold yoS yqN
 simp only [yuy _ 4294967296 (by omega),yuy _ 65536 (by omega),yuy _ 256 (by omega)]
 have key:∀ (k:Nat) (q:Int),2 ^ k≤p.toNat→q=p / (2 ^ k:Nat)→(blen p.toNat:Int)=k+blen q.toNat:=by
   intro k q hk hq
   have e:q.toNat=p.toNat / 2 ^ k:=by
     rw [hq]
     obtain ⟨m,rfl⟩:∃ m:Nat,p=m:=⟨p.toNat,by omega⟩
     rw [← Int.natCast_ediv,Int.toNat_natCast,Int.toNat_natCast]
   rw [e]
   have:=yJx hk
   omega
 by_cases h1:p≥4294967296
 · rw [decide_eq_true h1,yad]
   by_cases h2:p / 4294967296≥65536
   · rw [decide_eq_true h2,yad]
     by_cases h3:p / 4294967296 / 65536≥256
     · rw [decide_eq_true h3,yad]
       exact yux (by omega) (by omega) (by omega) (key 56 _ (by omega) (by omega)) h
     · rw [decide_eq_false h3,yaa]
       exact yux (by omega) (by omega) (by omega) (key 48 _ (by omega) (by omega)) h
   · rw [decide_eq_false h2,yaa]
     by_cases h3:p / 4294967296≥256
     · rw [decide_eq_true h3,yad]
       exact yux (by omega) (by omega) (by omega) (key 40 _ (by omega) (by omega)) h
     · rw [decide_eq_false h3,yaa]
       exact yux (by omega) (by omega) (by omega) (key 32 _ (by omega) (by omega)) h
 · rw [decide_eq_false h1,yaa]
   by_cases h2:p≥65536
   · rw [decide_eq_true h2,yad]
     by_cases h3:p / 65536≥256
     · rw [decide_eq_true h3,yad]
       exact yux (by omega) (by omega) (by omega) (key 24 _ (by omega) (by omega)) h
     · rw [decide_eq_false h3,yaa]
       exact yux (by omega) (by omega) (by omega) (key 16 _ (by omega) (by omega)) h
   · rw [decide_eq_false h2,yaa]
     by_cases h3:p≥256
     · rw [decide_eq_true h3,yad]
       exact yux (by omega) (by omega) (by omega) (key 8 _ (by omega) (by omega)) h
     · rw [decide_eq_false h3,yaa]
       exact yux (by omega) (by omega) (by omega) (by simp) h
theorem ysB {p:Int} (hp:U64 p) {K:Int→Prop} (h:K (64-blen p.toNat:Int)):ya6 p K:=by
 unfold ya6 yfk
 refine yJy hp ?_
 have hb:blen p.toNat≤64:=by
   unfold U64 at hp
   by_cases h0:p.toNat=0
   · rw [h0];decide
   · have:=yvE h0
     have h2:blen p.toNat-1<64:=by
       refine Nat.lt_of_not_le fun hc=>?_
       have:=Nat.pow_le_pow_right (show 0<2 by omega) hc
       omega
     omega
 rw [wi64 (by unfold I64;omega)]
 exact h
end Go.Pf.Vc
namespace Go.Pf.Vc
open Go Go.Pf
structure DI (y a b u un q r:Int):Prop where
 hy:y=a*4294967296+b
 h1:2147483648≤a∧a≤4294967295
 h0:0≤b∧b≤4294967295
 hn:0≤un∧un≤4294967295
 hu:q*a+r=u
 hq:0≤q∧q≤4294967297
 hr:0≤r∧r≤4294967295
 hlt:u<y
 hU:u*4294967296+un<(q+1)*y
def DG (y u un q:Int):Prop:=0≤q∧q≤4294967295∧q*y≤u*4294967296+un∧u*4294967296+un<(q+1)*y
theorem DI.step {y a b u un q r:Int} (h:DI y a b u un q r) {A B C:Prop}
   (hA:DG y u un (q-1)→0≤q-1→q-1≤4294967296→A)
   (hB:DI y a b u un (q-1) (r+a)→B)
   (hC:DG y u un q→C) :
   cbr (decide (q≥(4294967296:Int)))
     (cbr (decide ((IntKind.u64.wrap (r+a))≥(4294967296:Int))) A B)
     (cbr (decide ((IntKind.u64.wrap (q*b))>(IntKind.u64.wrap ((IntKind.u64.wrap ((4294967296:Int)*r))+un))))
       (cbr (decide ((IntKind.u64.wrap (r+a))≥(4294967296:Int))) A B) C):=by
 have h':=h
 obtain ⟨hy,h1,h0,hn,hu,hq,hr,hlt,hU⟩:=h
 have e1:IntKind.u64.wrap (r+a)=r+a:=wu64 ⟨by omega,by omega⟩
 have eq1:q*y=q*a*4294967296+q*b:=by rw [hy];grind
 have eq2:(q-1)*y=q*y-y:=by grind
 have eq3:(q-1)*a=q*a-a:=by grind
 have eq4:(q-1+1)*y=q*y:=by grind
 have eq5:(q-1)*b=q*b-b:=by grind
 have big:u*4294967296+un<q*y→cbr (decide ((IntKind.u64.wrap (r+a))≥(4294967296:Int))) A B:=by
   intro hb
   have q1:0≤q-1:=by
     refine Int.not_lt.1 fun hc=>?_
     have hq0:q=0:=by omega
     subst hq0
     simp at hb hu
     omega
   rw [e1]
   by_cases hc:r+a≥4294967296
   · rw [decide_eq_true hc,yad]
     have hp:(q-1)*b≤4294967296*4294967295:=Int.mul_le_mul (by omega) h0.2 h0.1 (by omega)
     have hle:(q-1)*y≤u*4294967296+un:=by
       have:(q-1)*y=(q-1)*a*4294967296+(q-1)*b:=by rw [hy];grind
       omega
     have hlt32:q-1≤4294967295:=by
       refine Int.not_lt.1 fun hc=>?_
       have:4294967296*y≤(q-1)*y:=Int.mul_le_mul_of_nonneg_right (by omega) (by omega)
       omega
     exact hA ⟨q1,hlt32,hle,by rw [eq4];exact hb⟩ q1 (by omega)
   · rw [decide_eq_false hc,yaa]
     exact hB ⟨hy,h1,h0,hn,by rw [eq3];omega,⟨q1,by omega⟩,⟨by omega,by omega⟩,hlt,by rw [eq4];exact hb⟩
 by_cases ha:q≥4294967296
 · rw [decide_eq_true ha,yad]
   refine big ?_
   have:4294967296*y≤q*y:=Int.mul_le_mul_of_nonneg_right (by omega) (by omega)
   omega
 · rw [decide_eq_false ha,yaa]
   have hp:q*b≤4294967295*4294967295:=Int.mul_le_mul (by omega) h0.2 h0.1 (by omega)
   have hp0:0≤q*b:=Int.mul_nonneg hq.1 h0.1
   have w1:IntKind.u64.wrap (q*b)=q*b:=wu64 ⟨hp0,by omega⟩
   have w2:IntKind.u64.wrap ((4294967296:Int)*r)=4294967296*r:=wu64 ⟨by omega,by omega⟩
   have w3:IntKind.u64.wrap ((4294967296:Int)*r+un)=4294967296*r+un:=wu64 ⟨by omega,by omega⟩
   rw [w1,w2,w3]
   by_cases hb:q*b>4294967296*r+un
   · rw [decide_eq_true hb,yad]
     exact big (by omega)
   · rw [decide_eq_false hb,yaa]
     exact hC ⟨hq.1,by omega,by omega,hU⟩
theorem yMO (W:Int→(Int→Prop)→Prop) {y a c u un:Int} (s v un0:Int) {x0 x1:Int→Int→Int→Int→Int→Int→Int→Int→Int→Bool→Prop}
   (hx:∀ q r b,DG y u un q→x0 y s a c v un un0 q r b) (hx1:∀ q r b,DG y u un q→x1 y s a c v un un0 q r b) :
   ∀ (n:Nat) (q r:Int) (b:Bool),DI y a c u un q r→4294967296≤r+n*2147483648→ycM W x0 x1 (n+1) y s a c v un un0 q r b:=by
 intro n
 induction n with
 | zero =>
   intro q r b h hn
   have:=h.hr.2
   exact absurd hn (by omega)
 | succ n ih =>
   intro q r b h hn
   unfold ycM
   refine h.step (fun g a1 a2=>?_) (fun g=>?_) (fun g=>hx1 _ _ _ g)
   · rw [wu64 (n:=q-1) ⟨by omega,by omega⟩]
     exact hx _ _ _ g
   · have e1:IntKind.u64.wrap (q-1)=q-1:=wu64 ⟨g.hq.1,by have:=g.hq.2;omega⟩
     have e2:IntKind.u64.wrap (r+a)=r+a:=wu64 ⟨g.hr.1,by have:=g.hr.2;omega⟩
     rw [e1,e2]
     exact ih _ _ _ g (by have:=h.h1.1;omega)
theorem yMP (W:Int→(Int→Prop)→Prop) {y a c u un:Int} (s q1 v:Int) {x0 x1:Int→Int→Int→Int→Int→Int→Int→Int→Int→Bool→Prop}
   (hx:∀ q r b,DG y u un q→x0 y s a c un q1 r v q b) (hx1:∀ q r b,DG y u un q→x1 y s a c un q1 r v q b) :
   ∀ (n:Nat) (q r:Int) (b:Bool),DI y a c u un q r→4294967296≤r+n*2147483648→ycN W x0 x1 (n+1) y s a c un q1 r v q b:=by
 intro n
 induction n with
 | zero =>
   intro q r b h hn
   have:=h.hr.2
   exact absurd hn (by omega)
 | succ n ih =>
   intro q r b h hn
   unfold ycN
   refine h.step (fun g a1 a2=>?_) (fun g=>?_) (fun g=>hx1 _ _ _ g)
   · rw [wu64 (n:=q-1) ⟨by omega,by omega⟩]
     exact hx _ _ _ g
   · have e1:IntKind.u64.wrap (q-1)=q-1:=wu64 ⟨g.hq.1,by have:=g.hq.2;omega⟩
     have e2:IntKind.u64.wrap (r+a)=r+a:=wu64 ⟨g.hr.1,by have:=g.hr.2;omega⟩
     rw [e1,e2]
     exact ih _ _ _ g (by have:=h.h1.1;omega)
theorem yMk (W:Int→(Int→Prop)→Prop) {y a c u un:Int} (s v un0:Int) {x0 x1:Int→Int→Int→Int→Int→Int→Int→Int→Int→Bool→Prop}
   (hx:∀ q r b,DG y u un q→x0 y s a c v un un0 q r b) (hx1:∀ q r b,DG y u un q→x1 y s a c v un un0 q r b) (q r:Int) (h:DI y a c u un q r):yg9 W x0 x1 3 y s a c v un un0 q r:=by
 have:=yMO W s v un0 hx hx1 2 q r true h (by have:=h.hr.1;omega)
 unfold ycM at this
 unfold yg9
 exact this
theorem yMl (W:Int→(Int→Prop)→Prop) {y a c u un:Int} (s q1 v:Int) {x0 x1:Int→Int→Int→Int→Int→Int→Int→Int→Int→Bool→Prop}
   (hx:∀ q r b,DG y u un q→x0 y s a c un q1 r v q b) (hx1:∀ q r b,DG y u un q→x1 y s a c un q1 r v q b) (q r:Int) (h:DI y a c u un q r):yen W x0 x1 3 y s a c un q1 r v q:=by
 have:=yMP W s q1 v hx hx1 2 q r true h (by have:=h.hr.1;omega)
 unfold ycN at this
 unfold yen
 exact this
end Go.Pf.Vc
namespace Go.Pf.Vc
open Go Go.Pf
theorem DI.init {y a b u un:Int} (hy:y=a*4294967296+b) (h1:2147483648≤a∧a≤4294967295) (h0:0≤b∧b≤4294967295) (hn:0≤un∧un≤4294967295)
   (hu:0≤u) (hlt:u<y):DI y a b u un (u / a) (u-u / a*a):=by
 have a1:=Int.mul_ediv_add_emod u a
 have a2:=Int.emod_nonneg u (show a≠0 by omega)
 have a3:=Int.emod_lt_of_pos u (show 0<a by omega)
 have a4:u / a*a=a*(u / a):=Int.mul_comm _ _
 have a5:0≤u / a:=Int.ediv_nonneg hu (by omega)
 have a6:u / a≤4294967297:=by
   refine Int.not_lt.1 fun hc=>?_
   have:a*4294967298≤a*(u / a):=Int.mul_le_mul_of_nonneg_left (by omega) (by omega)
   omega
 refine ⟨hy,h1,h0,hn,by omega,⟨a5,a6⟩,⟨by omega,by omega⟩,hlt,?_⟩
 have e:(u / a+1)*y=a*(u / a)*4294967296+a*4294967296+(u / a+1)*b:=by
   obtain ⟨t,ht⟩:∃ t,t=u / a:=⟨_,rfl⟩
   rw [← ht,hy];grind
 have:0≤(u / a+1)*b:=Int.mul_nonneg (by omega) h0.1
 omega
theorem yJz {a b:Int} {k:Nat} (ha:0≤a) (hb:0≤b∧b<2 ^ k) (hab:a*2 ^ k≤18446744073709551615∧b≤18446744073709551615) (hs:a*2 ^ k+b≤18446744073709551615) :
   IntKind.u64.wrap (BitVec.ofInt IntKind.u64.bits (a*2 ^ k)|||BitVec.ofInt IntKind.u64.bits b).toNat=a*2 ^ k+b:=by
 obtain ⟨x,rfl⟩:∃ x:Nat,a=x:=⟨a.toNat,by omega⟩
 obtain ⟨z,rfl⟩:∃ z:Nat,b=z:=⟨b.toNat,by omega⟩
 have ec:((x:Int)*2 ^ k)=((2 ^ k*x:Nat):Int):=by push_cast;exact Int.mul_comm _ _
 rw [ec] at hab hs ⊢
 have hz:z<2 ^ k:=by have:=hb.2;exact_mod_cast this
 have e:(BitVec.ofInt IntKind.u64.bits ((2 ^ k*x:Nat):Int)|||BitVec.ofInt IntKind.u64.bits (z:Int)).toNat=2 ^ k*x+z:=by
   show (BitVec.ofInt 64 ((2 ^ k*x:Nat):Int)|||BitVec.ofInt 64 (z:Int)).toNat=_
   rw [BitVec.toNat_or,BitVec.toNat_ofInt,BitVec.toNat_ofInt]
   have e1:(((2 ^ k*x:Nat):Int) % (2 ^ 64:Nat)).toNat=2 ^ k*x:=by omega
   have e2:((z:Int) % (2 ^ 64:Nat)).toNat=z:=by omega
   rw [e1,e2,Nat.two_pow_add_eq_or_of_lt hz]
 rw [e,wu64 ⟨by omega,by omega⟩]
 push_cast;rfl
theorem yHc {u un q y:Int} (h0:0≤u*4294967296+un-q*y) (h1:u*4294967296+un-q*y≤18446744073709551615) :
   IntKind.u64.wrap (IntKind.u64.wrap (IntKind.u64.wrap (u*4294967296)+un)-IntKind.u64.wrap (q*y))=u*4294967296+un-q*y:=by
 simp only [yhM]
 omega
theorem ykF {a b:Int} (h:0≤a):Int.tdiv a b=a / b:=Int.tdiv_eq_ediv_of_nonneg h
theorem yLG {a b:Int} (h:0≤a):Int.tmod a b=a % b:=Int.tmod_eq_emod_of_nonneg h
theorem yDY {h l y:Int} (hh:U64 h) (hl:U64 l) (hy:U64 y) (hlt:h<y) {K:Int→Int→Prop}
   (k:K ((h*18446744073709551616+l) / y) ((h*18446744073709551616+l) % y)):yfR h l y K:=by
 unfold U64 at hh hl hy
 unfold yfR yqO
 have b1:(y ==(0:Int))=false:=beq_eq_false_iff_ne.2 (by omega)
 have b2:decide (y≤h)=false:=decide_eq_false (by omega)
 have b3:(!(decide (y=(0:Int))))=true:=by rw [decide_eq_false (by omega)];rfl
 rw [b1,yaa,b2,yaa,b3]
 by_cases h0:h=0
 · subst h0
   have:((0:Int) == 0)=true:=rfl
   rw [this,yad,yaj,yaj,ykF hl.1,yLG hl.1]
   have e:(0:Int)*18446744073709551616+l=l:=by omega
   rw [e] at k
   have b4:l / y≤l:=Int.ediv_le_self _ hl.1
   rw [wu64 ⟨Int.ediv_nonneg hl.1 (by omega),by omega⟩]
   exact k
 · have b4:(h ==(0:Int))=false:=beq_eq_false_iff_ne.2 h0
   rw [b4,yaa]
   refine ysB ⟨by omega,by omega⟩ ?_
   have hyn:y.toNat≠0:=by omega
   have c1:=yHb y.toNat
   have c2:=yvE hyn
   have c3:blen y.toNat≤64:=by
     refine Nat.le_of_not_lt fun hc=>?_
     have:=Nat.pow_le_pow_right (show 0<2 by omega) (show 64≤blen y.toNat-1 by omega)
     omega
   have c4:1≤blen y.toNat:=by
     refine Nat.le_of_not_lt fun hc=>?_
     have:blen y.toNat=0:=by omega
     rw [this] at c1
     omega
   obtain ⟨m,hm⟩:∃ m,m=64-blen y.toNat:=⟨_,rfl⟩
   have es:(64-(blen y.toNat:Int))=(m:Int):=by omega
   rw [es]
   have m63:m≤63:=by omega
   have e1:IntKind.u64.wrap (m:Int)=m:=wu64 ⟨by omega,by omega⟩
   have e2:IntKind.u64.wrap ((64:Int)-m)=((64-m:Nat):Int):=by
     rw [wu64 ⟨by omega,by omega⟩];omega
   have e3:min ((m:Int)).toNat IntKind.u64.bits=m:=by
     show min ((m:Int)).toNat 64=m
     rw [Int.toNat_natCast];omega
   have e4:min (((64-m:Nat):Int)).toNat IntKind.u64.bits=64-m:=by
     show min (((64-m:Nat):Int)).toNat 64=64-m
     rw [Int.toNat_natCast];omega
   simp only [e1]
   rw [e2,e3,e4]
   have p64:(2:Int) ^ (64-m)*2 ^ m=18446744073709551616:=by
     rw [← Int.pow_add,show 64-m+m=64 by omega];rfl
   have p63:(2:Int) ^ (63-m)*2 ^ m=9223372036854775808:=by
     rw [← Int.pow_add,show 63-m+m=63 by omega];rfl
   have tp:(0:Int)<2 ^ m:=Int.pow_pos (by omega)
   have tp':(0:Int)<2 ^ (64-m):=Int.pow_pos (by omega)
   have y1:y<(2:Int) ^ (64-m):=by
     have:blen y.toNat=64-m:=by omega
     rw [this] at c1
     have c1':((y.toNat:Nat):Int)<((2 ^ (64-m):Nat):Int):=by exact_mod_cast c1
     push_cast at c1'
     omega
   have y2:(2:Int) ^ (63-m)≤y:=by
     have:blen y.toNat-1=63-m:=by omega
     rw [this] at c2
     have c2':((2 ^ (63-m):Nat):Int)≤((y.toNat:Nat):Int):=by exact_mod_cast c2
     push_cast at c2'
     omega
   have Y1:y*2 ^ m<18446744073709551616:=by
     have:=Int.mul_lt_mul_of_pos_right y1 tp
     omega
   have Y2:9223372036854775808≤y*2 ^ m:=by
     have:=Int.mul_le_mul_of_nonneg_right y2 (show (0:Int)≤2 ^ m by omega)
     omega
   have H1:(h+1)*2 ^ m≤y*2 ^ m:=Int.mul_le_mul_of_nonneg_right (by omega) (by omega)
   have H2:(h+1)*2 ^ m=h*2 ^ m+2 ^ m:=by grind
   have H0:0≤h*2 ^ m:=Int.mul_nonneg hh.1 (by omega)
   have fd:Int.fdiv l (2 ^ (64-m))=l / 2 ^ (64-m):=yuy _ _ (by omega)
   have L1:=Int.mul_ediv_add_emod l (2 ^ (64-m))
   have L2:=Int.emod_nonneg l (show (2:Int) ^ (64-m)≠0 by omega)
   have L3:=Int.emod_lt_of_pos l tp'
   have L4:0≤l / 2 ^ (64-m):=Int.ediv_nonneg hl.1 (by omega)
   have L5:l / 2 ^ (64-m)<2 ^ m:=by
     refine Int.ediv_lt_of_lt_mul tp' ?_
     rw [Int.mul_comm,p64];omega
   have w1:IntKind.u64.wrap (y*2 ^ m)=y*2 ^ m:=wu64 ⟨by omega,by omega⟩
   have w2:IntKind.u64.wrap (h*2 ^ m)=h*2 ^ m:=wu64 ⟨by omega,by omega⟩
   have w3:IntKind.u64.wrap (BitVec.ofInt IntKind.u64.bits (h*2 ^ m)|||BitVec.ofInt IntKind.u64.bits (l / 2 ^ (64-m))).toNat=h*2 ^ m+l / 2 ^ (64-m) :=
     yJz hh.1 ⟨L4,L5⟩ ⟨by omega,by omega⟩ (by omega)
   have w4:IntKind.u64.wrap (l*2 ^ m)=l % 2 ^ (64-m)*2 ^ m:=by
     have e:l*2 ^ m=(l / 2 ^ (64-m))*18446744073709551616+l % 2 ^ (64-m)*2 ^ m:=by
       rw [← p64]
       obtain ⟨a,ha⟩:∃ a,a=l / 2 ^ (64-m):=⟨_,rfl⟩
       obtain ⟨b,hb⟩:∃ b,b=l % 2 ^ (64-m):=⟨_,rfl⟩
       obtain ⟨t,ht⟩:∃ t,t=(2:Int) ^ m:=⟨_,rfl⟩
       obtain ⟨t',ht'⟩:∃ t,t=(2:Int) ^ (64-m):=⟨_,rfl⟩
       rw [← ha,← hb,← ht'] at L1
       rw [← ha,← hb,← ht,← ht']
       rw [← L1];grind
     have e5:l % 2 ^ (64-m)*2 ^ m<18446744073709551616:=by
       rw [← p64];exact Int.mul_lt_mul_of_pos_right L3 tp
     have e6:0≤l % 2 ^ (64-m)*2 ^ m:=Int.mul_nonneg L2 (by omega)
     rw [e,yhM];omega
   have e5:l % 2 ^ (64-m)*2 ^ m<18446744073709551616:=by
     rw [← p64];exact Int.mul_lt_mul_of_pos_right L3 tp
   have e6:0≤l % 2 ^ (64-m)*2 ^ m:=Int.mul_nonneg L2 (by omega)
   have eN:(h*18446744073709551616+l)*2 ^ m=(h*2 ^ m+l / 2 ^ (64-m))*18446744073709551616+l % 2 ^ (64-m)*2 ^ m:=by
     rw [← p64]
     obtain ⟨a,ha⟩:∃ a,a=l / 2 ^ (64-m):=⟨_,rfl⟩
     obtain ⟨b,hb⟩:∃ b,b=l % 2 ^ (64-m):=⟨_,rfl⟩
     obtain ⟨t,ht⟩:∃ t,t=(2:Int) ^ m:=⟨_,rfl⟩
     obtain ⟨t',ht'⟩:∃ t,t=(2:Int) ^ (64-m):=⟨_,rfl⟩
     rw [← ha,← hb,← ht'] at L1
     rw [← ha,← hb,← ht,← ht']
     rw [← L1];grind
   have U1:h*2 ^ m+l / 2 ^ (64-m)<y*2 ^ m:=by omega
   have U0:0≤h*2 ^ m+l / 2 ^ (64-m):=by omega
   rw [fd,w1,w2,w3,w4]
   have b5:(!(decide ((m:Int)<0)))=true:=by rw [decide_eq_false (by omega)];rfl
   have b6:(!(decide (((64-m:Nat):Int)<0)))=true:=by rw [decide_eq_false (by omega)];rfl
   rw [b5,b6,yaj,yaj,yaj,yaj]
   generalize h*2 ^ m+l / 2 ^ (64-m)=u at *
   generalize hl0:l % 2 ^ (64-m)*2 ^ m=v at *
   generalize hY:y*2 ^ m=Y at *
   rw [yuy Y _ (by omega),yuy v _ (by omega),ymA ⟨by omega,by omega⟩,ymA ⟨by omega,by omega⟩,ykF U0]
   have b7:(!(decide (Y / 4294967296=(0:Int))))=true:=by rw [decide_eq_false (by omega)];rfl
   rw [b7,yaj]
   obtain ⟨c,hyn1⟩:∃ a,a=Y / 4294967296:=⟨_,rfl⟩
   obtain ⟨d,hyn0⟩:∃ a,a=Y % 4294967296:=⟨_,rfl⟩
   obtain ⟨un1,hun1⟩:∃ a,a=v / 4294967296:=⟨_,rfl⟩
   obtain ⟨un0,hun0⟩:∃ a,a=v % 4294967296:=⟨_,rfl⟩
   rw [← hyn1,← hyn0,← hun1,← hun0]
   have d1:2147483648≤c∧c≤4294967295:=by omega
   have d0:0≤d∧d≤4294967295:=by omega
   have dn1:0≤un1∧un1≤4294967295:=by omega
   have dn0:0≤un0∧un0≤4294967295:=by omega
   have dY:Y=c*4294967296+d:=by omega
   have g1:=DI.init dY d1 d0 dn1 U0 U1
   have x1:IntKind.u64.wrap (u / c)=u / c:=wu64 ⟨g1.hq.1,by have:=g1.hq.2;omega⟩
   have x2:IntKind.u64.wrap (u-IntKind.u64.wrap (u / c*c))=u-u / c*c:=by
     have r1:=g1.hr.1
     have r2:0≤u / c*c:=Int.mul_nonneg g1.hq.1 (by omega)
     have r3:=g1.hr.2
     rw [wu64 (n:=u / c*c) ⟨r2,by omega⟩,wu64 ⟨r1,by omega⟩]
   rw [x1,x2]
   have fin:∀ q1:Int,DG Y u un1 q1→∀ (un21:Int),un21=u*4294967296+un1-q1*Y→∀ q0,DG Y un21 un0 q0 →
       K (IntKind.u64.wrap ((IntKind.u64.wrap (q1*(4294967296:Int)))+q0)) (Int.fdiv (IntKind.u64.wrap ((IntKind.u64.wrap ((IntKind.u64.wrap (un21*(4294967296:Int)))+un0))-(IntKind.u64.wrap (q0*Y)))) (2 ^ (min ((m:Int)).toNat IntKind.u64.bits))):=by
     intro q1 G1 un21 e21 q0 G0
     obtain ⟨a1,a2,a3,a4⟩:=G1
     obtain ⟨c1,c2,c3,c4⟩:=G0
     have s1:(q1+1)*Y=q1*Y+Y:=by grind
     have s0:(q0+1)*Y=q0*Y+Y:=by grind
     have w5:IntKind.u64.wrap (q1*4294967296)=q1*4294967296:=wu64 ⟨by omega,by omega⟩
     have w6:IntKind.u64.wrap (q1*4294967296+q0)=q1*4294967296+q0:=wu64 ⟨by omega,by omega⟩
     rw [yHc (by omega) (by omega),w5,w6,e3,yuy _ _ (by omega)]
     have eT:un21*4294967296+un0-q0*Y=(h*18446744073709551616+l-(q1*4294967296+q0)*y)*2 ^ m:=by
       have f1:(q1*4294967296+q0)*Y=q1*Y*4294967296+q0*Y:=by grind
       have f2:(h*18446744073709551616+l-(q1*4294967296+q0)*y)*2 ^ m=(h*18446744073709551616+l)*2 ^ m-(q1*4294967296+q0)*Y:=by
         rw [← hY,Int.sub_mul,Int.mul_assoc (q1*4294967296+q0)]
       rw [f2,f1,eN]
       omega
     rw [eT,Int.mul_ediv_cancel _ (by omega)]
     have r0:0≤h*18446744073709551616+l-(q1*4294967296+q0)*y:=by
       refine Int.not_lt.1 fun hc=>?_
       have:=Int.mul_neg_of_neg_of_pos hc tp
       omega
     have r1:h*18446744073709551616+l-(q1*4294967296+q0)*y<y:=by
       refine Int.not_le.1 fun hc=>?_
       have:=Int.mul_le_mul_of_nonneg_right hc (show (0:Int)≤2 ^ m by omega)
       omega
     obtain ⟨Q,hQ⟩:∃ Q,Q=q1*4294967296+q0:=⟨_,rfl⟩
     rw [← hQ] at r0 r1 ⊢
     have z1:(h*18446744073709551616+l) / y=Q:=by
       have:h*18446744073709551616+l=(h*18446744073709551616+l-Q*y)+Q*y:=by omega
       rw [this,Int.add_mul_ediv_right _ _ (by omega),Int.ediv_eq_zero_of_lt r0 r1];omega
     have z2:(h*18446744073709551616+l) % y=h*18446744073709551616+l-Q*y:=by
       have:=Int.mul_ediv_add_emod (h*18446744073709551616+l) y
       rw [z1,Int.mul_comm] at this
       omega
     rw [z1,z2] at k
     exact k
   have mid:∀ q:Int,DG Y u un1 q→∀ (X:Int→Int→Int→Int→Int→Int→Int→Int→Int→Bool→Prop),(∀ q0 r0 b0,DG Y (u*4294967296+un1-q*Y) un0 q0→X Y m c d un0 q r0 (u*4294967296+un1-q*Y) q0 b0) →
       asr (!(decide (c=(0:Int)))) (∃ n:Nat,yen ya6 X X n Y m c d un0 q ((IntKind.u64.wrap ((IntKind.u64.wrap ((IntKind.u64.wrap ((IntKind.u64.wrap (u*(4294967296:Int)))+un1))-(IntKind.u64.wrap (q*Y))))-(IntKind.u64.wrap ((IntKind.u64.wrap (Int.tdiv (IntKind.u64.wrap ((IntKind.u64.wrap ((IntKind.u64.wrap (u*(4294967296:Int)))+un1))-(IntKind.u64.wrap (q*Y)))) c))*c))))) (IntKind.u64.wrap ((IntKind.u64.wrap ((IntKind.u64.wrap (u*(4294967296:Int)))+un1))-(IntKind.u64.wrap (q*Y)))) (IntKind.u64.wrap (Int.tdiv (IntKind.u64.wrap ((IntKind.u64.wrap ((IntKind.u64.wrap (u*(4294967296:Int)))+un1))-(IntKind.u64.wrap (q*Y)))) c))):=by
     intro q G X hX
     obtain ⟨a1,a2,a3,a4⟩:=G
     have s1:(q+1)*Y=q*Y+Y:=by grind
     have b8:(!(decide (c=(0:Int))))=true:=by rw [decide_eq_false (by omega)];rfl
     rw [b8,yaj,yHc (by omega) (by omega),ykF (by omega)]
     have g0:=DI.init dY d1 d0 dn0 (u:=u*4294967296+un1-q*Y) (by omega) (by omega)
     generalize u*4294967296+un1-q*Y=u2 at *
     have x1:IntKind.u64.wrap (u2 / c)=u2 / c:=wu64 ⟨g0.hq.1,by have:=g0.hq.2;omega⟩
     have x2:IntKind.u64.wrap (u2-IntKind.u64.wrap (u2 / c*c))=u2-u2 / c*c:=by
       have r1:=g0.hr.1
       have r2:0≤u2 / c*c:=Int.mul_nonneg g0.hq.1 (by omega)
       have r3:=g0.hr.2
       have r4:=g0.hlt
       rw [wu64 (n:=u2 / c*c) ⟨r2,by omega⟩,wu64 ⟨r1,by omega⟩]
     rw [x1,x2]
     exact ⟨3,yMl _ _ _ _ (fun q0 r0 b0 g=>hX q0 r0 b0 g) (fun q0 r0 b0 g=>hX q0 r0 b0 g) _ _ g0⟩
   have leaf:∀ {P:Prop},P→asr (!(decide ((m:Int)<0))) P:=fun p=>by rw [b5,yaj];exact p
   refine ⟨3,yMk _ _ _ _ (fun q r b G=>?_) (fun q r b G=>?_) _ _ g1⟩
   · exact mid q G _ (fun q0 r0 b0 G0=>leaf (fin q G _ rfl q0 G0))
   · exact mid q G _ (fun q0 r0 b0 G0=>leaf (fin q G _ rfl q0 G0))
end Go.Pf.Vc
namespace Go.Pf.Vc
open Go Go.Pf
theorem yJA {h l y:Int} (hh:U64 h) (hl:U64 l) (hy:U64 y) (h0:0<y) {K:Int→Prop}
   (k:K ((h*18446744073709551616+l) % y)):ygL h l y K:=by
 unfold ygL yqQ
 have b3:(!(decide (y=(0:Int))))=true:=by rw [decide_eq_false (by omega)];rfl
 have a1:=Int.emod_nonneg h (show y≠0 by omega)
 have a2:=Int.emod_lt_of_pos h h0
 have hh':=hh
 unfold U64 at hh hy
 rw [b3,yaj,yLG hh.1]
 refine yDY ⟨a1,by omega⟩ hl ⟨by omega,by omega⟩ a2 ?_
 have e:(h % y*18446744073709551616+l) % y=(h*18446744073709551616+l) % y:=by
   rw [Int.add_emod,Int.mul_emod,Int.emod_emod,← Int.mul_emod,← Int.add_emod]
 rw [e]
 exact k
def outS (s:Bool) (a b:Int) (K:Int→Int→Int→Prop):Prop :=
 if a≤1000000000000000000∧b≤1000000000000000000 then K (if s then -a else a) b 0 else K 0 0 16
theorem yoU {s:Bool} {a b:Int} (ha:0≤a) (hb:0≤b) (K:Int→Int→Int→Prop):ybI s a b K=outS s a b K:=by
 unfold ybI yhB outS
 by_cases h:a≤1000000000000000000∧b≤1000000000000000000
 · have e:decide ((if b>a then b else a)>(1000000000000000000:Int))=false:=by
     refine decide_eq_false ?_
     split <;> omega
   have w1:IntKind.i64.wrap a=a:=wi64 ⟨by omega,by omega⟩
   have w2:IntKind.i64.wrap b=b:=wi64 ⟨by omega,by omega⟩
   have w3:IntKind.i64.wrap (0-a)=-a:=by rw [wi64 ⟨by omega,by omega⟩];omega
   rw [e,yaa,if_pos h,w1,w2,w3]
   cases s
   · rfl
   · rfl
 · have e:decide ((if b>a then b else a)>(1000000000000000000:Int))=true:=by
     refine decide_eq_true ?_
     split <;> omega
   rw [e,yad,if_neg h]
theorem yKU {n d:Int} (hn:I64 n) (hd:I64 d) {K:Int→Int→Int→Prop}
   (k:if d=0 then K 0 0 18 else outS (decide (n<0) != decide (d<0)) ((n.natAbs / Nat.gcd n.natAbs d.natAbs:Nat):Int) ((d.natAbs / Nat.gcd n.natAbs d.natAbs:Nat):Int) K):yeb n d K:=by
 unfold yeb yjC
 by_cases h:d=0
 · rw [if_pos h] at k
   have:(d ==(0:Int))=true:=beq_iff_eq.2 h
   rw [this,yad]
   exact k
 · rw [if_neg h] at k
   have:(d ==(0:Int))=false:=beq_eq_false_iff_ne.2 h
   rw [this,yaa,yhe hn,yhe hd]
   refine ytP _ _ _ ?_
   have gp:0<Nat.gcd n.natAbs d.natAbs:=Nat.gcd_pos_of_pos_right _ (by omega)
   have b3:(!(decide (((Nat.gcd n.natAbs d.natAbs:Nat):Int)=(0:Int))))=true:=by rw [decide_eq_false (by omega)];rfl
   unfold I64 at hn hd
   have u1:n.natAbs / Nat.gcd n.natAbs d.natAbs≤n.natAbs:=Nat.div_le_self _ _
   have u2:d.natAbs / Nat.gcd n.natAbs d.natAbs≤d.natAbs:=Nat.div_le_self _ _
   rw [b3,yaj,yaj,ykF (by omega),ykF (by omega),← Int.natCast_ediv,← Int.natCast_ediv]
   generalize n.natAbs / Nat.gcd n.natAbs d.natAbs=A at *
   generalize d.natAbs / Nat.gcd n.natAbs d.natAbs=B at *
   rw [wu64 (n:=(A:Int)) ⟨by omega,by omega⟩,wu64 (n:=(B:Int)) ⟨by omega,by omega⟩,yoU (by omega) (by omega)]
   exact k
end Go.Pf.Vc
namespace Go.Pf.Vc
open Go Go.Pf
def numM (a c:Int) (b d:Int):Nat:=(a.natAbs / Nat.gcd a.natAbs d.natAbs)*(c.natAbs / Nat.gcd c.natAbs b.natAbs)
def denM (a c:Int) (b d:Int):Nat:=(b.natAbs / Nat.gcd c.natAbs b.natAbs)*(d.natAbs / Nat.gcd a.natAbs d.natAbs)
theorem yGc {a b c d:Int} (ha:I64 a) (hb:I64 b) (hc:I64 c) (hd:I64 d) {K:Int→Int→Int→Prop}
   (k:if chk2 a b c d=0 then outS (decide (a<0) != decide (c<0)) (numM a c b d) (denM a c b d) K else K 0 0 (chk2 a b c d)):ya3 a b c d K:=by
 unfold ya3 ylF
 refine yop ha hb hc hd ?_
 by_cases h:chk2 a b c d=0
 · rw [if_pos h] at k
   have:(chk2 a b c d !=(0:Int))=false:=by rw [h];rfl
   rw [this,yaa,yhe ha,yhe hc]
   obtain ⟨⟨b1,b2,a1,a2,_⟩,d1,d2,c1,c2,_⟩:=yfb.1 h
   have wb:IntKind.u64.wrap b=((b.natAbs:Nat):Int):=by rw [wu64 ⟨by omega,by omega⟩];omega
   have wd:IntKind.u64.wrap d=((d.natAbs:Nat):Int):=by rw [wu64 ⟨by omega,by omega⟩];omega
   rw [wb,wd]
   refine ytP _ _ _ (ytP _ _ _ ?_)
   unfold numM denM at k
   have g1:0<Nat.gcd a.natAbs d.natAbs:=Nat.gcd_pos_of_pos_right _ (by omega)
   have g2:0<Nat.gcd c.natAbs b.natAbs:=Nat.gcd_pos_of_pos_right _ (by omega)
   obtain ⟨g3,h3⟩:∃ g,g=Nat.gcd a.natAbs d.natAbs:=⟨_,rfl⟩
   obtain ⟨g4,h4⟩:∃ g,g=Nat.gcd c.natAbs b.natAbs:=⟨_,rfl⟩
   rw [← h3,← h4] at k ⊢
   rw [← h3] at g1;rw [← h4] at g2
   have n3:(!(decide ((g3:Int)=(0:Int))))=true:=by rw [decide_eq_false (by omega)];rfl
   have n4:(!(decide ((g4:Int)=(0:Int))))=true:=by rw [decide_eq_false (by omega)];rfl
   rw [n3,n4,yaj,yaj,ykF (by omega),ykF (by omega),ykF (by omega),ykF (by omega),← Int.natCast_ediv,← Int.natCast_ediv,← Int.natCast_ediv,← Int.natCast_ediv]
   have q1:a.natAbs / g3≤a.natAbs:=Nat.div_le_self _ _
   have q2:c.natAbs / g4≤c.natAbs:=Nat.div_le_self _ _
   have q3:b.natAbs / g4≤b.natAbs:=Nat.div_le_self _ _
   have q4:d.natAbs / g3≤d.natAbs:=Nat.div_le_self _ _
   generalize a.natAbs / g3=A at *
   generalize c.natAbs / g4=C at *
   generalize b.natAbs / g4=B at *
   generalize d.natAbs / g3=D at *
   rw [wu64 (n:=(A:Int)) ⟨by omega,by omega⟩,wu64 (n:=(C:Int)) ⟨by omega,by omega⟩,wu64 (n:=(B:Int)) ⟨by omega,by omega⟩,wu64 (n:=(D:Int)) ⟨by omega,by omega⟩,
     yiU ⟨by omega,by omega⟩ ⟨by omega,by omega⟩,yaj,yaj,yiU ⟨by omega,by omega⟩ ⟨by omega,by omega⟩]
   have m1:A*C≤1000000000000000000*1000000000000000000:=Nat.mul_le_mul (by omega) (by omega)
   have m2:B*D≤1000000000000000000*1000000000000000000:=Nat.mul_le_mul (by omega) (by omega)
   rw [← Int.natCast_mul,← Int.natCast_mul]
   generalize A*C=M at *
   generalize B*D=N at *
   have wm:IntKind.u64.wrap ((M:Int) / 18446744073709551616+(N:Int) / 18446744073709551616)=(M:Int) / 18446744073709551616+(N:Int) / 18446744073709551616:=wu64 ⟨by omega,by omega⟩
   rw [wm]
   by_cases hb:(M:Int) / 18446744073709551616+(N:Int) / 18446744073709551616>0
   · rw [decide_eq_true hb,yad]
     unfold outS at k
     rw [if_neg (by omega)] at k
     exact k
   · rw [decide_eq_false hb,yaa]
     have eM:(M:Int) % 18446744073709551616=M:=by omega
     have eN:(N:Int) % 18446744073709551616=N:=by omega
     rw [eM,eN]
     by_cases h0:(M:Int)>0
     · rw [decide_eq_true h0,yad,yoU (by omega) (by omega)]
       exact k
     · rw [decide_eq_false h0,yaa,yoU (by omega) (by omega)]
       have hz:M=0:=by omega
       subst hz
       unfold outS at k ⊢
       by_cases hN:(N:Int)≤1000000000000000000
       · rw [if_pos ⟨by omega,hN⟩] at k ⊢
         have e:(if (decide (a<0) != decide (c<0))=true then -((0:Nat):Int) else ((0:Nat):Int))=0:=by split <;> rfl
         rw [e] at k
         exact k
       · rw [if_neg (by omega)] at k ⊢
         exact k
 · rw [if_neg h] at k
   have:(chk2 a b c d !=(0:Int))=true:=by rw [bne_iff_ne];exact h
   rw [this,yad]
   exact k
theorem RV.swap {c d:Int} (h:RV c d) (h0:0<c):RV d c:=by
 obtain ⟨d1,d2,c1,c2,g⟩:=h
 exact ⟨by omega,c2,by omega,d2,by rw [Nat.gcd_comm];exact g⟩
theorem RV.swapn {c d:Int} (h:RV c d) (h0:c<0):RV (-d) (-c):=by
 obtain ⟨d1,d2,c1,c2,g⟩:=h
 exact ⟨by omega,by omega,by omega,by omega,by rw [Int.natAbs_neg,Int.natAbs_neg,Nat.gcd_comm];exact g⟩
theorem yMm {a b c d:Int} (ha:I64 a) (hb:I64 b) (hc:I64 c) (hd:I64 d) {K:Int→Int→Int→Prop}
   (k:if chk2 a b c d=0 then (if c=0 then K 0 0 18 else outS (decide (a<0) != decide (c<0)) (numM a d b c) (denM a d b c) K) else K 0 0 (chk2 a b c d)):ybY a b c d K:=by
 unfold ybY ylG
 refine yop ha hb hc hd ?_
 by_cases h:chk2 a b c d=0
 · rw [if_pos h] at k
   have:(chk2 a b c d !=(0:Int))=false:=by rw [h];rfl
   rw [this,yaa]
   obtain ⟨hab,hcd⟩:=yfb.1 h
   obtain ⟨d1,d2,c1,c2,_⟩:=id hcd
   by_cases h0:c=0
   · rw [if_pos h0] at k
     have:(c ==(0:Int))=true:=beq_iff_eq.2 h0
     rw [this,yad]
     exact k
   · rw [if_neg h0] at k
     have:(c ==(0:Int))=false:=beq_eq_false_iff_ne.2 h0
     rw [this,yaa]
     by_cases hn:c<0
     · rw [decide_eq_true hn] at k
       rw [decide_eq_true hn,yad,wi64 (n:=0-d) ⟨by omega,by omega⟩,wi64 (n:=0-c) ⟨by omega,by omega⟩,Int.zero_sub,Int.zero_sub]
       have e:chk2 a b (-d) (-c)=0:=yfb.2 ⟨hab,hcd.swapn hn⟩
       refine yGc ha hb ⟨by omega,by omega⟩ ⟨by omega,by omega⟩ ?_
       rw [if_pos e,decide_eq_true (show -d<0 by omega)]
       unfold numM denM at k ⊢
       rw [Int.natAbs_neg,Int.natAbs_neg]
       exact k
     · rw [decide_eq_false hn] at k
       rw [decide_eq_false hn,yaa]
       have e:chk2 a b d c=0:=yfb.2 ⟨hab,hcd.swap (by omega)⟩
       refine yGc ha hb hd hc ?_
       rw [if_pos e,decide_eq_false (show ¬d<0 by omega)]
       exact k
 · rw [if_neg h] at k
   have:(chk2 a b c d !=(0:Int))=true:=by rw [bne_iff_ne];exact h
   rw [this,yad]
   exact k
end Go.Pf.Vc
namespace Go.Pf.Vc
open Go Go.Pf
theorem yKV {s:Bool} {hi lo p1 p3:Int} {g:Nat} (hh:U64 hi) (hl:U64 lo) (hg:0<g) (g1:(g:Int)≤1000000000000000000)
    (h1:0≤p1∧p1≤1000000000000000000) (h3:0≤p3∧p3≤1000000000000000000) {K:Int→Int→Int→Prop}
    (k:outS s (((hi*18446744073709551616+lo).toNat / Nat.gcd (hi*18446744073709551616+lo).toNat g:Nat):Int)
      (((p1.toNat / g)*(p3.toNat / Nat.gcd (hi*18446744073709551616+lo).toNat g):Nat):Int) K) :
    (ygL hi lo (g:Int) (fun (b:Int) =>
 (ybO b (g:Int) (fun (a:Int) =>
 (cbr (decide (hi≥a))
 (K (0:Int) (0:Int) (16:Int))
 (yfR hi lo a (fun (c:Int) (_:Int) =>
 (asr (!(decide ((g:Int)=(0:Int))))
 (asr (!(decide (a=(0:Int))))
 (ye8 (IntKind.u64.wrap (Int.tdiv (IntKind.u64.wrap p1) (g:Int))) (IntKind.u64.wrap (Int.tdiv (IntKind.u64.wrap p3) a)) (fun (d:Int) (e:Int) =>
 (cbr (decide (d>(0:Int)))
 (K (0:Int) (0:Int) (16:Int))
 (ybI s c e (fun (f:Int) (h:Int) (i:Int) =>
 (K f h i))))))))))))))):=by
  unfold U64 at hh hl
  obtain ⟨X,hX⟩:∃ X:Nat,X=(hi*18446744073709551616+lo).toNat:=⟨_,rfl⟩
  have eX:hi*18446744073709551616+lo=(X:Int):=by omega
  rw [← hX] at k
  refine yJA hh hl ⟨by omega,by omega⟩ (by omega) ?_
  rw [eX,← Int.natCast_emod]
  refine ytP _ _ _ ?_
  have eg:Nat.gcd (X % g) g=Nat.gcd X g:=by rw [Nat.gcd_comm,Nat.gcd_comm X,Nat.gcd_rec g X,Nat.gcd_comm]
  rw [eg]
  have gp:0<Nat.gcd X g:=Nat.gcd_pos_of_pos_right _ hg
  have gl:Nat.gcd X g≤g:=Nat.le_of_dvd hg (Nat.gcd_dvd_right _ _)
  generalize Nat.gcd X g=G at *
  by_cases hb:hi≥(G:Int)
  · rw [decide_eq_true hb,yad]
    unfold outS at k
    have:18446744073709551616≤X / G:=by
      rw [Nat.le_div_iff_mul_le gp]
      omega
    rw [if_neg (by omega)] at k
    exact k
  · rw [decide_eq_false hb,yaa]
    refine yDY hh hl ⟨by omega,by omega⟩ (by omega) ?_
    rw [eX]
    have n3:(!(decide ((g:Int)=(0:Int))))=true:=by rw [decide_eq_false (by omega)];rfl
    have n4:(!(decide ((G:Int)=(0:Int))))=true:=by rw [decide_eq_false (by omega)];rfl
    have e1:IntKind.u64.wrap p1=(p1.toNat:Int):=by rw [wu64 ⟨by omega,by omega⟩];omega
    have e3:IntKind.u64.wrap p3=(p3.toNat:Int):=by rw [wu64 ⟨by omega,by omega⟩];omega
    rw [n3,n4,yaj,yaj,e1,e3,ykF (by omega),ykF (by omega),← Int.natCast_ediv,← Int.natCast_ediv,← Int.natCast_ediv]
    have q1:p1.toNat / g≤p1.toNat:=Nat.div_le_self _ _
    have q3:p3.toNat / G≤p3.toNat:=Nat.div_le_self _ _
    generalize p1.toNat / g=A at *
    generalize p3.toNat / G=B at *
    generalize X / G=N at *
    rw [wu64 (n:=(A:Int)) ⟨by omega,by omega⟩,wu64 (n:=(B:Int)) ⟨by omega,by omega⟩,yiU ⟨by omega,by omega⟩ ⟨by omega,by omega⟩,← Int.natCast_mul]
    generalize A*B=D at *
    by_cases hd:((D:Int) / 18446744073709551616)>0
    · rw [decide_eq_true hd,yad]
      unfold outS at k
      rw [if_neg (by omega)] at k
      exact k
    · rw [decide_eq_false hd,yaa]
      have eD:(D:Int) % 18446744073709551616=D:=by omega
      rw [eD,yoU (by omega) (by omega)]
      exact k
end Go.Pf.Vc
namespace Go.Pf.Vc
open Go Go.Pf
theorem yDZ {p q c:Int} {K:Int→Int→Prop} (hc:c.toNat≤1) (k:K (((p.toNat+q.toNat+c.toNat) % 18446744073709551616:Nat):Int) (((p.toNat+q.toNat+c.toNat) / 18446744073709551616:Nat):Int)):yh9 p q c K:=by
 unfold yh9
 rw [decide_eq_true hc,yaj]
 exact k
theorem yD0 {p q c:Int} {K:Int→Int→Prop} (hc:c.toNat≤1) (k:K (((p.toNat+18446744073709551616-q.toNat-c.toNat) % 18446744073709551616:Nat):Int) ((if q.toNat+c.toNat≤p.toNat then 0 else 1:Nat):Int)):yia p q c K:=by
 unfold yia
 rw [decide_eq_true hc,yaj]
 have e:(bif Nat.ble (q.toNat+c.toNat) p.toNat then 0 else 1:Nat)=(if q.toNat+c.toNat≤p.toNat then 0 else 1:Nat):=by
   by_cases h:q.toNat+c.toNat≤p.toNat
   · rw [if_pos h,show Nat.ble (q.toNat+c.toNat) p.toNat=true from Nat.ble_eq_true_of_le h];rfl
   · rw [if_neg h]
     cases hb:Nat.ble (q.toNat+c.toNat) p.toNat
     · rfl
     · exact absurd (Nat.le_of_ble_eq_true hb) h
 rw [e]
 exact k
theorem yJB {X Y:Int} (hx:0≤X) (hy:0≤Y) (hs:X+Y<340282366920938463463374607431768211456) {F:Int→Int→Int→Int→Prop}
   (h:∀ c1 c2,F ((X+Y) % 18446744073709551616) c1 ((X+Y) / 18446744073709551616) c2) :
   yh9 (X % 18446744073709551616) (Y % 18446744073709551616) 0 (fun lo c1=>yh9 (X / 18446744073709551616) (Y / 18446744073709551616) c1 (fun hi c2=>F lo c1 hi c2)):=by
 obtain ⟨x,rfl⟩:∃ x:Nat,X=x:=⟨X.toNat,by omega⟩
 obtain ⟨y,rfl⟩:∃ y:Nat,Y=y:=⟨Y.toNat,by omega⟩
 refine yDZ (by decide) (yDZ (by omega) ?_)
 have e1:(((((x:Int) % 18446744073709551616).toNat+((y:Int) % 18446744073709551616).toNat+(0:Int).toNat) % 18446744073709551616:Nat):Int)=((x:Int)+y) % 18446744073709551616:=by omega
 have e2:(((((x:Int) / 18446744073709551616).toNat+((y:Int) / 18446744073709551616).toNat+(((((x:Int) % 18446744073709551616).toNat+((y:Int) % 18446744073709551616).toNat+(0:Int).toNat) / 18446744073709551616:Nat):Int).toNat) % 18446744073709551616:Nat):Int)=((x:Int)+y) / 18446744073709551616:=by omega
 rw [e1,e2]
 exact h _ _
theorem ysC {X Y:Int} (hy:0≤Y) (hxy:Y≤X) (hs:X<340282366920938463463374607431768211456) {F:Int→Int→Int→Int→Prop}
   (h:∀ c1 c2,F ((X-Y) % 18446744073709551616) c1 ((X-Y) / 18446744073709551616) c2) :
   yia (X % 18446744073709551616) (Y % 18446744073709551616) 0 (fun lo c1=>yia (X / 18446744073709551616) (Y / 18446744073709551616) c1 (fun hi c2=>F lo c1 hi c2)):=by
 obtain ⟨x,rfl⟩:∃ x:Nat,X=x:=⟨X.toNat,by omega⟩
 obtain ⟨y,rfl⟩:∃ y:Nat,Y=y:=⟨Y.toNat,by omega⟩
 refine yD0 (by decide) (yD0 (by split <;> omega) ?_)
 have e1:(((((x:Int) % 18446744073709551616).toNat+18446744073709551616-((y:Int) % 18446744073709551616).toNat-(0:Int).toNat) % 18446744073709551616:Nat):Int)=((x:Int)-y) % 18446744073709551616:=by omega
 rw [e1]
 by_cases hb:((y:Int) % 18446744073709551616).toNat+(0:Int).toNat≤((x:Int) % 18446744073709551616).toNat
 · rw [if_pos hb]
   have e2:(((((x:Int) / 18446744073709551616).toNat+18446744073709551616-((y:Int) / 18446744073709551616).toNat-((0:Nat):Int).toNat) % 18446744073709551616:Nat):Int)=((x:Int)-y) / 18446744073709551616:=by omega
   rw [e2]
   exact h _ _
 · rw [if_neg hb]
   have e2:(((((x:Int) / 18446744073709551616).toNat+18446744073709551616-((y:Int) / 18446744073709551616).toNat-((1:Nat):Int).toNat) % 18446744073709551616:Nat):Int)=((x:Int)-y) / 18446744073709551616:=by omega
   rw [e2]
   exact h _ _
end Go.Pf.Vc
namespace Go.Pf.Vc
open Go Go.Pf
def outA (s:Bool) (Z p1 p3:Int) (g:Nat) (K:Int→Int→Int→Prop):Prop :=
 if Z=0 then K 0 1 0 else outS s ((Z.toNat / Nat.gcd Z.toNat g:Nat):Int) (((p1.toNat / g)*(p3.toNat / Nat.gcd Z.toNat g):Nat):Int) K
theorem yxp {s:Bool} {Z p1 p3:Int} {g:Nat} (hz:0≤Z) (hz2:Z<340282366920938463463374607431768211456) (hg:0<g) (g1:(g:Int)≤1000000000000000000)
    (h1:0≤p1∧p1≤1000000000000000000) (h3:0≤p3∧p3≤1000000000000000000) {K:Int→Int→Int→Prop}
    (k:outA s Z p1 p3 g K) :
    cbr (Z / 18446744073709551616 ==(0:Int)) (cbr (Z % 18446744073709551616 ==(0:Int)) (K 0 1 0) (ygL (Z / 18446744073709551616) (Z % 18446744073709551616) (g:Int) (fun (b:Int) =>
 (ybO b (g:Int) (fun (a:Int) =>
 (cbr (decide ((Z / 18446744073709551616)≥a))
 (K (0:Int) (0:Int) (16:Int))
 (yfR (Z / 18446744073709551616) (Z % 18446744073709551616) a (fun (c:Int) (_:Int) =>
 (asr (!(decide ((g:Int)=(0:Int))))
 (asr (!(decide (a=(0:Int))))
 (ye8 (IntKind.u64.wrap (Int.tdiv (IntKind.u64.wrap p1) (g:Int))) (IntKind.u64.wrap (Int.tdiv (IntKind.u64.wrap p3) a)) (fun (d:Int) (e:Int) =>
 (cbr (decide (d>(0:Int)))
 (K (0:Int) (0:Int) (16:Int))
 (ybI s c e (fun (f:Int) (h:Int) (i:Int) =>
 (K f h i)))))))))))))))) (ygL (Z / 18446744073709551616) (Z % 18446744073709551616) (g:Int) (fun (b:Int) =>
 (ybO b (g:Int) (fun (a:Int) =>
 (cbr (decide ((Z / 18446744073709551616)≥a))
 (K (0:Int) (0:Int) (16:Int))
 (yfR (Z / 18446744073709551616) (Z % 18446744073709551616) a (fun (c:Int) (_:Int) =>
 (asr (!(decide ((g:Int)=(0:Int))))
 (asr (!(decide (a=(0:Int))))
 (ye8 (IntKind.u64.wrap (Int.tdiv (IntKind.u64.wrap p1) (g:Int))) (IntKind.u64.wrap (Int.tdiv (IntKind.u64.wrap p3) a)) (fun (d:Int) (e:Int) =>
 (cbr (decide (d>(0:Int)))
 (K (0:Int) (0:Int) (16:Int))
 (ybI s c e (fun (f:Int) (h:Int) (i:Int) =>
 (K f h i))))))))))))))):=by
  unfold outA at k
  have eZ:Z / 18446744073709551616*18446744073709551616+Z % 18446744073709551616=Z:=by omega
  by_cases h0:Z=0
  · rw [if_pos h0] at k
    subst h0
    have e1:((0:Int) / 18446744073709551616 ==(0:Int))=true:=by decide
    have e2:((0:Int) % 18446744073709551616 ==(0:Int))=true:=by decide
    rw [e1,yad,e2,yad]
    exact k
  · rw [if_neg h0] at k
    have t:=yKV (s:=s) (hi:=Z / 18446744073709551616) (lo:=Z % 18446744073709551616) (p1:=p1) (p3:=p3) (g:=g) (K:=K) ⟨by omega,by omega⟩ ⟨by omega,by omega⟩ hg g1 h1 h3 (by rw [eZ];exact k)
    cases h4:(Z / 18446744073709551616 ==(0:Int))
    · rw [yaa];exact t
    · rw [yad]
      cases h2:(Z % 18446744073709551616 ==(0:Int))
      · rw [yaa];exact t
      · have:=beq_iff_eq.1 h2
        have:=beq_iff_eq.1 h4
        exact absurd (show Z=0 by omega) h0
theorem yq9 {s s':Bool} {Z Z' p1 p3:Int} {g:Nat} {K:Int→Int→Int→Prop} (k:outA s' Z' p1 p3 g K) (hz:Z=Z') (hs:Z≠0→s=s'):outA s Z p1 p3 g K:=by
 subst hz
 unfold outA at k ⊢
 by_cases h:Z=0
 · rw [if_pos h] at k ⊢;exact k
 · rw [if_neg h] at k ⊢;rw [hs h];exact k
theorem yJC {a b c d:Int} (ha:I64 a) (hb:I64 b) (hc:I64 c) (hd:I64 d) {K:Int→Int→Int→Prop}
   (k:if chk2 a b c d=0 then outA (decide (a*(d / (Nat.gcd b.natAbs d.natAbs:Nat))+c*(b / (Nat.gcd b.natAbs d.natAbs:Nat))<0))
       ((a*(d / (Nat.gcd b.natAbs d.natAbs:Nat))+c*(b / (Nat.gcd b.natAbs d.natAbs:Nat))).natAbs:Int) b d (Nat.gcd b.natAbs d.natAbs) K
     else K 0 0 (chk2 a b c d)):ya2 a b c d K:=by
 unfold ya2 ylD
 refine yop ha hb hc hd ?_
 by_cases h:chk2 a b c d=0
 · rw [if_pos h] at k
   have:(chk2 a b c d !=(0:Int))=false:=by rw [h];rfl
   rw [this,yaa]
   obtain ⟨⟨b1,b2,a1,a2,_⟩,d1,d2,c1,c2,_⟩:=yfb.1 h
   have wb:IntKind.u64.wrap b=((b.natAbs:Nat):Int):=by rw [wu64 ⟨by omega,by omega⟩];omega
   have wd:IntKind.u64.wrap d=((d.natAbs:Nat):Int):=by rw [wu64 ⟨by omega,by omega⟩];omega
   have g1:0<Nat.gcd b.natAbs d.natAbs:=Nat.gcd_pos_of_pos_right _ (by omega)
   have g2:Nat.gcd b.natAbs d.natAbs≤d.natAbs:=Nat.le_of_dvd (by omega) (Nat.gcd_dvd_right _ _)
   have go:ybO (IntKind.u64.wrap b) (IntKind.u64.wrap d)=ybO ((b.natAbs:Nat):Int) ((d.natAbs:Nat):Int):=by rw [wb,wd]
   rw [go]
   refine ytP _ _ _ ?_
   generalize Nat.gcd b.natAbs d.natAbs=g at *
   have n3:(!(decide ((g:Int)=(0:Int))))=true:=by rw [decide_eq_false (by omega)];rfl
   have q1:0≤b / (g:Int):=Int.ediv_nonneg (by omega) (by omega)
   have q2:0≤d / (g:Int):=Int.ediv_nonneg (by omega) (by omega)
   have q3:b / (g:Int)≤b:=Int.ediv_le_self _ (by omega)
   have q4:d / (g:Int)≤d:=Int.ediv_le_self _ (by omega)
   have ed:IntKind.u64.wrap (Int.tdiv (IntKind.u64.wrap d) (g:Int))=d / (g:Int):=by
     rw [wu64 (n:=d) ⟨by omega,by omega⟩,ykF (by omega),wu64 ⟨by omega,by omega⟩]
   have eb:IntKind.u64.wrap (Int.tdiv (IntKind.u64.wrap b) (g:Int))=b / (g:Int):=by
     rw [wu64 (n:=b) ⟨by omega,by omega⟩,ykF (by omega),wu64 ⟨by omega,by omega⟩]
   have yj7:∀ {c:Bool} {P:Prop},c=true→P→asr c P:=fun h p=>by rw [h,yaj];exact p
   rw [yhe ha]
   refine yj7 n3 ?_
   rw [yiU (U64.abs ha) (by rw [ed];exact ⟨by omega,by omega⟩),yhe hc]
   refine yj7 n3 ?_
   rw [yiU (U64.abs hc) (by rw [eb];exact ⟨by omega,by omega⟩)]
   obtain ⟨X,hX⟩:∃ X,X=((a.natAbs:Nat):Int)*IntKind.u64.wrap (Int.tdiv (IntKind.u64.wrap d) (g:Int)):=⟨_,rfl⟩
   obtain ⟨Y,hY⟩:∃ Y,Y=((c.natAbs:Nat):Int)*IntKind.u64.wrap (Int.tdiv (IntKind.u64.wrap b) (g:Int)):=⟨_,rfl⟩
   rw [← hX,← hY]
   rw [ed] at hX;rw [eb] at hY
   have X0:0≤X:=by rw [hX];exact Int.mul_nonneg (by omega) q2
   have Y0:0≤Y:=by rw [hY];exact Int.mul_nonneg (by omega) q1
   have X1:X≤1000000000000000000*1000000000000000000:=by rw [hX];exact Int.mul_le_mul (by omega) (by omega) q2 (by omega)
   have Y1:Y≤1000000000000000000*1000000000000000000:=by rw [hY];exact Int.mul_le_mul (by omega) (by omega) q1 (by omega)
   have ax:a*(d / (g:Int))=if a<0 then -X else X:=by
     split
     · rw [hX,show ((a.natAbs:Nat):Int)=-a by omega,Int.neg_mul,Int.neg_neg]
     · rw [hX,show ((a.natAbs:Nat):Int)=a by omega]
   have cy:c*(b / (g:Int))=if c<0 then -Y else Y:=by
     split
     · rw [hY,show ((c.natAbs:Nat):Int)=-c by omega,Int.neg_mul,Int.neg_neg]
     · rw [hY,show ((c.natAbs:Nat):Int)=c by omega]
   rw [ax,cy] at k
   clear hX hY ax cy ed eb n3
   by_cases hs:decide (a<0)=decide (c<0)
   · have e:(decide (a<0) == decide (c<0))=true:=beq_iff_eq.2 hs
     rw [e,yad]
     refine yJB X0 Y0 (by omega) (fun c1 c2=>?_)
     refine yxp (by omega) (by omega) g1 (by omega) ⟨by omega,b2⟩ ⟨by omega,d2⟩ (yq9 k ?_ ?_)
     · by_cases h1:a<0
       · have h2:c<0:=by simpa [h1] using hs.symm
         rw [if_pos h1,if_pos h2];omega
       · have h2:¬c<0:=by simpa [h1] using hs.symm
         rw [if_neg h1,if_neg h2];omega
     · intro h0
       by_cases h1:a<0
       · have h2:c<0:=by simpa [h1] using hs.symm
         rw [if_pos h1,if_pos h2,decide_eq_true h1,decide_eq_true (by omega)]
       · have h2:¬c<0:=by simpa [h1] using hs.symm
         rw [if_neg h1,if_neg h2,decide_eq_false h1,decide_eq_false (by omega)]
   · have e:(decide (a<0) == decide (c<0))=false:=beq_eq_false_iff_ne.2 hs
     rw [e,yaa]
     have h12:(a<0∧¬c<0)∨(¬a<0∧c<0):=by
       by_cases h1:a<0 <;> by_cases h2:c<0 <;> simp [h1,h2] at hs ⊢
     by_cases hlt:X<Y
     · have kk:outA (!decide (a<0)) (Y-X) b d g K:=by
         refine yq9 k ?_ ?_
         · rcases h12 with ⟨h1,h2⟩ | ⟨h1,h2⟩
           · rw [if_pos h1,if_neg h2];omega
           · rw [if_neg h1,if_pos h2];omega
         · intro h0
           rcases h12 with ⟨h1,h2⟩ | ⟨h1,h2⟩
           · rw [if_pos h1,if_neg h2,decide_eq_true h1,decide_eq_false (by omega)];rfl
           · rw [if_neg h1,if_pos h2,decide_eq_false h1,decide_eq_true (by omega)];rfl
       by_cases h1:X / 18446744073709551616<Y / 18446744073709551616
       · rw [decide_eq_true h1,yad]
         refine ysC X0 (by omega) (by omega) (fun c1 c2=>?_)
         exact yxp (by omega) (by omega) g1 (by omega) ⟨by omega,b2⟩ ⟨by omega,d2⟩ kk
       · have e1:(X / 18446744073709551616 == Y / 18446744073709551616)=true:=beq_iff_eq.2 (by omega)
         rw [decide_eq_false h1,yaa,e1,yad,decide_eq_true (show X % 18446744073709551616<Y % 18446744073709551616 by have:=beq_iff_eq.1 e1;omega),yad]
         refine ysC X0 (by omega) (by omega) (fun c1 c2=>?_)
         exact yxp (by omega) (by omega) g1 (by omega) ⟨by omega,b2⟩ ⟨by omega,d2⟩ kk
     · have kk:outA (decide (a<0)) (X-Y) b d g K:=by
         refine yq9 k ?_ ?_
         · rcases h12 with ⟨h1,h2⟩ | ⟨h1,h2⟩
           · rw [if_pos h1,if_neg h2];omega
           · rw [if_neg h1,if_pos h2];omega
         · intro h0
           rcases h12 with ⟨h1,h2⟩ | ⟨h1,h2⟩
           · rw [if_pos h1,if_neg h2,decide_eq_true h1,decide_eq_true (by omega)]
           · rw [if_neg h1,if_pos h2,decide_eq_false h1,decide_eq_false (by omega)]
       have h1:¬X / 18446744073709551616<Y / 18446744073709551616:=by omega
       rw [decide_eq_false h1,yaa]
       cases e1:(X / 18446744073709551616 == Y / 18446744073709551616)
       · rw [yaa]
         refine ysC Y0 (by omega) (by omega) (fun c1 c2=>?_)
         exact yxp (by omega) (by omega) g1 (by omega) ⟨by omega,b2⟩ ⟨by omega,d2⟩ kk
       · rw [yad,decide_eq_false (show ¬X % 18446744073709551616<Y % 18446744073709551616 by have:=beq_iff_eq.1 e1;omega),yaa]
         refine ysC Y0 (by omega) (by omega) (fun c1 c2=>?_)
         exact yxp (by omega) (by omega) g1 (by omega) ⟨by omega,b2⟩ ⟨by omega,d2⟩ kk
 · rw [if_neg h] at k
   have:(chk2 a b c d !=(0:Int))=true:=by rw [bne_iff_ne];exact h
   rw [this,yad]
   exact k
end Go.Pf.Vc
namespace Go.Pf.Vc
open Go Go.Pf
theorem RV.neg {c d:Int} (h:RV c d):RV (-c) d:=by
 obtain ⟨d1,d2,c1,c2,g⟩:=h
 exact ⟨d1,d2,by omega,by omega,by rw [Int.natAbs_neg];exact g⟩
theorem yMn {a b c d:Int} (ha:I64 a) (hb:I64 b) (hc:I64 c) (hd:I64 d) {K:Int→Int→Int→Prop}
   (k:if chk2 a b c d=0 then outA (decide (a*(d / (Nat.gcd b.natAbs d.natAbs:Nat))+-c*(b / (Nat.gcd b.natAbs d.natAbs:Nat))<0))
       ((a*(d / (Nat.gcd b.natAbs d.natAbs:Nat))+-c*(b / (Nat.gcd b.natAbs d.natAbs:Nat))).natAbs:Int) b d (Nat.gcd b.natAbs d.natAbs) K
     else K 0 0 (chk2 a b c d)):ya7 a b c d K:=by
 unfold ya7 ylE
 refine yop ha hb hc hd ?_
 by_cases h:chk2 a b c d=0
 · rw [if_pos h] at k
   have:(chk2 a b c d !=(0:Int))=false:=by rw [h];rfl
   rw [this,yaa]
   obtain ⟨hab,hcd⟩:=yfb.1 h
   obtain ⟨d1,d2,c1,c2,_⟩:=id hcd
   rw [wi64 (n:=0-c) ⟨by omega,by omega⟩,Int.zero_sub]
   refine yJC ha hb ⟨by omega,by omega⟩ hd ?_
   rw [if_pos (yfb.2 ⟨hab,hcd.neg⟩)]
   exact k
 · rw [if_neg h] at k
   have:(chk2 a b c d !=(0:Int))=true:=by rw [bne_iff_ne];exact h
   rw [this,yad]
   exact k
end Go.Pf.Vc
namespace Go.Pf.Vc
open Go Go.Pf
def ints (l:List Int):List PV:=l.map (PV.int .i64)
theorem yav (l:List Int):(ints l).length=l.length:=List.length_map ..
theorem yBD {l:List Int} {i:Nat} (h:i<l.length):List.getD (ints l) i .nils=.int .i64 (l.getD i 0):=by
 unfold ints
 rw [List.getD_eq_getElem?_getD,List.getD_eq_getElem?_getD,List.getElem?_map,List.getElem?_eq_getElem h]
 rfl
theorem ya5 {l:List Int} {i:Nat} (h:i<l.length):yab (List.getD (ints l) i .nils)=l.getD i 0:=by
 rw [yBD h];rfl
theorem ygV {l:List Int} {i:Nat} (h:i<l.length):conf (.one (.i .i64)) (List.getD (ints l) i .nils)=true:=by
 rw [yBD h];rfl
theorem yj7 {c:Bool} {P:Prop} (h:c=true) (p:P):asr c P:=by rw [h,yaj];exact p
theorem yqe {c:Prop} [Decidable c] {P:Prop} (h:c) (p:P):asr (decide c) P:=yj7 (decide_eq_true h) p
end Go.Pf.Vc
namespace Go.Pf.Vc
open Go Go.Pf
theorem yHd {c:Prop} [Decidable c] {P Q:Prop} (h:c) (p:P):cbr (decide c) P Q:=by rw [decide_eq_true h,yad];exact p
theorem yzn {c:Prop} [Decidable c] {P Q:Prop} (h:¬c) (q:Q):cbr (decide c) P Q:=by rw [decide_eq_false h,yaa];exact q
def mnf (m x:Int):Int:=if x<m then x else m
theorem yJD {l:List Int} (hl:l.length<9223372036854775807) (x0:List PV→Int→Int→Bool→Prop) :
   ∀ (rest:List Int) (i:Nat) (m:Int) (n:Nat),l.drop i=rest→i≤l.length→rest.length<n→x0 (ints l) (rest.foldl mnf m) (l.length:Int) false →
     ybK x0 n (ints l) m (i:Int):=by
 intro rest
 induction rest with
 | nil =>
   intro i m n hd hi hn k
   have:i=l.length:=by
     have:=congrArg List.length hd
     rw [List.length_drop] at this
     have h2:([]:List Int).length=0:=rfl
     omega
   match n,hn with
   | n+1,_ =>
     unfold ybK
     rw [yav,this]
     exact yzn (by omega) k
 | cons x t ih =>
   intro i m n hd hi hn k
   have hlt:i<l.length:=by
     have:=congrArg List.length hd
     rw [List.length_drop,List.length_cons] at this
     omega
   have hx:l.getD i 0=x:=by
     have:=List.getElem_drop (xs:=l) (i:=i) (j:=0) (h:=by rw [hd];exact Nat.zero_lt_succ _)
     rw [List.getD_eq_getElem?_getD,List.getElem?_eq_getElem hlt]
     simp only [hd,List.getElem_cons_zero,Nat.add_zero] at this
     exact this.symm
   have ht:l.drop (i+1)=t:=by rw [← List.tail_drop,hd];rfl
   match n,hn with
   | n+1,hn =>
     unfold ybK
     rw [yav]
     refine yHd (by omega) ?_
     refine yqe (by omega) (yqe (by omega) (yj7 (ygV (by omega)) ?_))
     rw [Int.toNat_natCast,ya5 hlt,hx,wi64 (n:=(i:Int)+1) ⟨by omega,by omega⟩]
     exact ih (i+1) _ n ht (by omega) (by rw [List.length_cons] at hn;omega) k
theorem yMo {l:List Int} (hl:l.length<9223372036854775807) {x:Int} {t:List Int} (e:l=x::t) {K:Int→Prop} (k:K (t.foldl mnf x)):yda (ints l) K:=by
 have h0:0<l.length:=by rw [e];exact Nat.zero_lt_succ _
 unfold yda ygM
 rw [yav]
 refine yzn (by omega) (yqe (by omega) (yj7 (ygV h0) ⟨l.length+1,?_⟩))
 have e0:l.getD 0 0=x:=by rw [e];rfl
 rw [ya5 h0,e0]
 refine yJD hl _ t 1 x _ (by rw [e];rfl) (by omega) (by rw [e,List.length_cons];omega) ?_
 exact k
def mxf (m x:Int):Int:=if x>m then x else m
theorem yJE {l:List Int} (hl:l.length<9223372036854775807) (x0:List PV→Int→Int→Bool→Prop) :
   ∀ (rest:List Int) (i:Nat) (m:Int) (n:Nat),l.drop i=rest→i≤l.length→rest.length<n→x0 (ints l) (rest.foldl mxf m) (l.length:Int) false →
     ybL x0 n (ints l) m (i:Int):=by
 intro rest
 induction rest with
 | nil =>
   intro i m n hd hi hn k
   have:i=l.length:=by
     have:=congrArg List.length hd
     rw [List.length_drop] at this
     have h2:([]:List Int).length=0:=rfl
     omega
   match n,hn with
   | n+1,_ =>
     unfold ybL
     rw [yav,this]
     exact yzn (by omega) k
 | cons x t ih =>
   intro i m n hd hi hn k
   have hlt:i<l.length:=by
     have:=congrArg List.length hd
     rw [List.length_drop,List.length_cons] at this
     omega
   have hx:l.getD i 0=x:=by
     have:=List.getElem_drop (xs:=l) (i:=i) (j:=0) (h:=by rw [hd];exact Nat.zero_lt_succ _)
     rw [List.getD_eq_getElem?_getD,List.getElem?_eq_getElem hlt]
     simp only [hd,List.getElem_cons_zero,Nat.add_zero] at this
     exact this.symm
   have ht:l.drop (i+1)=t:=by rw [← List.tail_drop,hd];rfl
   match n,hn with
   | n+1,hn =>
     unfold ybL
     rw [yav]
     refine yHd (by omega) ?_
     refine yqe (by omega) (yqe (by omega) (yj7 (ygV (by omega)) ?_))
     rw [Int.toNat_natCast,ya5 hlt,hx,wi64 (n:=(i:Int)+1) ⟨by omega,by omega⟩]
     exact ih (i+1) _ n ht (by omega) (by rw [List.length_cons] at hn;omega) k
theorem yJF {l:List Int} (hl:l.length<9223372036854775807) {x:Int} {t:List Int} (e:l=x::t) {K:Int→Prop} (k:K (t.foldl mxf x)):ydb (ints l) K:=by
 have h0:0<l.length:=by rw [e];exact Nat.zero_lt_succ _
 unfold ydb ygO
 rw [yav]
 refine yzn (by omega) (yqe (by omega) (yj7 (ygV h0) ⟨l.length+1,?_⟩))
 have e0:l.getD 0 0=x:=by rw [e];rfl
 rw [ya5 h0,e0]
 refine yJE hl _ t 1 x _ (by rw [e];rfl) (by omega) (by rw [e,List.length_cons];omega) ?_
 exact k
end Go.Pf.Vc
namespace Go.Pf.Vc
open Go Go.Pf
def incr (l:List Int) (i:Nat):Prop:=∀ j,i≤j→j+1<l.length→l.getD j 0<l.getD (j+1) 0
theorem yGd {l:List Int} {p2:List PV} {p0:Int} (hl:l.length<9223372036854775807) (W1 W2:List PV→(Int→Prop)→Prop) (x0:Int→Prop) (x1:Int→List PV→List PV→Int→Int→Bool→Prop) :
   ∀ (r i n:Nat),i+r+1=l.length→r<n→(incr l i→x1 p0 (ints l) p2 ((l.length:Int)-1) ((l.length:Int)-1) false)→(¬incr l i→x0 8) →
     ycS W1 W2 x0 x1 n p0 (ints l) p2 ((l.length:Int)-1) (i:Int):=by
 intro r
 induction r with
 | zero =>
   intro i n hi hn k _
   match n,hn with
   | n+1,_ =>
     unfold ycS
     have e:(i:Int)=(l.length:Int)-1:=by omega
     refine yzn (by omega) ?_
     rw [e]
     exact k (fun j h1 h2=>by omega)
 | succ r ih =>
   intro i n hi hn k k0
   match n,hn with
   | n+1,hn =>
     unfold ycS
     rw [wi64 (n:=(i:Int)+1) ⟨by omega,by omega⟩,yav]
     have e1:((i:Int)+1)=((i+1:Nat):Int):=by omega
     rw [e1,Int.toNat_natCast,Int.toNat_natCast]
     refine yHd (by omega) (yqe (by omega) (yqe (by omega) (yj7 (ygV (by omega)) (yqe (by omega) (yqe (by omega) (yj7 (ygV (by omega)) ?_))))))
     rw [ya5 (by omega),ya5 (by omega)]
     by_cases h:l.getD i 0≥l.getD (i+1) 0
     · exact yHd h (k0 fun hc=>absurd (hc i (Nat.le_refl _) (by omega)) (by omega))
     · refine yzn h (ih (i+1) n (by omega) (by omega) (fun hc=>k fun j h1 h2=>?_) (fun hc=>k0 fun hd=>hc fun j h1 h2=>hd j (by omega) h2))
       by_cases hj:j=i
       · subst hj;omega
       · exact hc j (by omega) h2
end Go.Pf.Vc
namespace Go.Pf.Vc
open Go Go.Pf
def yap (q:Rat):Prop:=-1000000000000000000≤q.num∧q.num≤1000000000000000000∧(q.den:Int)≤1000000000000000000
instance (q:Rat):Decidable (yap q):=by unfold yap;infer_instance
theorem yap.rv {q:Rat} (h:yap q):RV q.num q.den:=by
 obtain ⟨h1,h2,h3⟩:=h
 have:=q.den_pos
 exact ⟨by omega,h3,h1,h2,q.reduced⟩
theorem yBE {n d:Int} (h:RV n d):∃ q:Rat,yap q∧q.num=n∧(q.den:Int)=d:=by
 obtain ⟨h1,h2,h3,h4,h5⟩:=h
 refine ⟨⟨n,d.toNat,by omega,?_⟩,⟨h3,h4,by show ((d.toNat:Nat):Int)≤_;omega⟩,rfl,by show ((d.toNat:Nat):Int)=_;omega⟩
 have:d.natAbs=d.toNat:=by omega
 rw [this] at h5
 exact h5
theorem yap.i1 {q:Rat} (h:yap q):I64 q.num:=⟨by have:=h.1;omega,by have:=h.2.1;omega⟩
theorem yap.i2 {q:Rat} (h:yap q):I64 (q.den:Int):=⟨by omega,by have:=h.2.2;omega⟩
theorem yef {q r:Rat} (h:yap q) (k:yap r):chk2 q.num q.den r.num r.den=0:=yfb.2 ⟨h.rv,k.rv⟩
def fitK (q:Rat) (K:Int→Int→Int→Prop):Prop:=if yap q then K q.num q.den 0 else K 0 0 16
theorem yxq {q:Rat} {s:Bool} {a b:Int} (ha:a=(q.num.natAbs:Int)) (hb:b=(q.den:Int)) (hs:q.num≠0→s=decide (q.num<0)) (K:Int→Int→Int→Prop):outS s a b K=fitK q K:=by
 unfold outS fitK
 subst ha hb
 by_cases h:yap q
 · have h':=h
   obtain ⟨h1,h2,h3⟩:=h
   rw [if_pos (show _∧_ from ⟨by omega,h3⟩),if_pos h']
   have e:(if s=true then -((q.num.natAbs:Nat):Int) else ((q.num.natAbs:Nat):Int))=q.num:=by
     by_cases h0:q.num=0
     · rw [h0];cases s <;> rfl
     · rw [hs h0]
       by_cases h1:q.num<0
       · rw [decide_eq_true h1,if_pos rfl];omega
       · rw [decide_eq_false h1,if_neg (by simp)];omega
   rw [e]
 · rw [if_neg h,if_neg]
   intro h2
   exact h ⟨by omega,by omega,h2.2⟩
theorem yD1 (x:Int) (g:Nat):(Int.tdiv x g).natAbs=x.natAbs / g:=by rw [Int.natAbs_tdiv,Int.natAbs_natCast];rfl
theorem yzo {x:Int} {g:Nat} (h:(g:Int)∣x) (hx:x≠0):decide (Int.tdiv x g<0)=decide (x<0):=by
 obtain ⟨k,rfl⟩:=h
 have hg:(g:Int)≠0:=fun e=>hx (by rw [e,Int.zero_mul])
 rw [Int.mul_tdiv_cancel_left _ hg]
 have h1:(g:Int)>0:=by have:=Int.natCast_nonneg g;omega
 have:(g:Int)*k<0↔k<0:=by
   constructor
   · intro h;refine Int.not_le.1 fun hk=>?_
     have:=Int.mul_nonneg (show 0≤(g:Int) by omega) hk
     omega
   · intro h;exact Int.mul_neg_of_pos_of_neg h1 h
 simp only [this]
theorem yIf (q r:Rat):(q*r).num=Int.tdiv q.num (Nat.gcd q.num.natAbs r.den)*Int.tdiv r.num (Nat.gcd r.num.natAbs q.den) ∧
   (q*r).den=(q.den / Nat.gcd r.num.natAbs q.den)*(r.den / Nat.gcd q.num.natAbs r.den):=by
 have e:q*r=Rat.mul q r:=rfl
 rw [e]
 delta Rat.mul
 constructor
 · simp only [Int.divExact_eq_tdiv]
 · simp only [Nat.divExact_eq_div]
theorem ykG (x:Int) (d:Nat):((Nat.gcd x.natAbs d:Nat):Int)∣x:=by
 rw [← Int.dvd_natAbs,Int.ofNat_dvd];exact Nat.gcd_dvd_left _ _
theorem yHe {x:Int} {g:Nat} (h:(g:Int)∣x) (hx:x≠0):Int.tdiv x g≠0:=by
 obtain ⟨k,rfl⟩:=h
 have hg:(g:Int)≠0:=fun e=>hx (by rw [e,Int.zero_mul])
 rw [Int.mul_tdiv_cancel_left _ hg]
 intro e;rw [e,Int.mul_zero] at hx;exact hx rfl
theorem yJG {x y:Int} (hx:x≠0) (hy:y≠0):decide (x*y<0)=(decide (x<0) != decide (y<0)):=by
 by_cases h1:x<0 <;> by_cases h2:y<0
 · have:=Int.mul_pos_of_neg_of_neg h1 h2
   simp [h1,h2];omega
 · have:=Int.mul_neg_of_neg_of_pos h1 (show 0<y by omega)
   simp [h1,h2];omega
 · have:=Int.mul_neg_of_pos_of_neg (show 0<x by omega) h2
   simp [h1,h2];omega
 · have:=Int.mul_pos (show 0<x by omega) (show 0<y by omega)
   simp [h1,h2];omega
theorem yBF (q r:Rat) (K:Int→Int→Int→Prop):outS (decide (q.num<0) != decide (r.num<0)) (numM q.num r.num q.den r.den) (denM q.num r.num q.den r.den) K=fitK (q*r) K:=by
 obtain ⟨e1,e2⟩:=yIf q r
 refine yxq ?_ ?_ ?_ K
 · rw [e1,Int.natAbs_mul,yD1,yD1]
   simp only [numM,Int.natAbs_natCast]
 · rw [e2]
   simp only [denM,Int.natAbs_natCast]
 · intro h
   rw [e1] at h ⊢
   have h1:q.num≠0:=fun e=>h (by rw [e,Int.zero_tdiv,Int.zero_mul])
   have h2:r.num≠0:=fun e=>h (by rw [e,Int.zero_tdiv,Int.mul_zero])
   rw [yJG (yHe (ykG _ _) h1) (yHe (ykG _ _) h2),yzo (ykG _ _) h1,yzo (ykG _ _) h2]
theorem ysD {w:(Int→Int→Int→Prop)→Prop} {q:Rat} (det:∀ r0 r1 r2,(∀ K:Int→Int→Int→Prop,K r0 r1 r2→w K)→∀ K,w K=K r0 r1 r2) (h:∀ K,fitK q K→w K) (K:Int→Int→Int→Prop):w K=fitK q K:=by
 unfold fitK at h ⊢
 by_cases hs:yap q
 · simp only [if_pos hs] at h ⊢
   exact det _ _ _ h K
 · simp only [if_neg hs] at h ⊢
   exact det _ _ _ h K
theorem yBG {q r:Rat} (hq:yap q) (hr:yap r) (K:Int→Int→Int→Prop):ya3 q.num q.den r.num r.den K=fitK (q*r) K :=
 ysD (fun r0 r1 r2 h K=>yx6 _ _ _ _ r0 r1 r2 h K) (fun K k=>yGc hq.i1 hq.i2 hr.i1 hr.i2 (by rw [if_pos (yef hq hr),yBF];exact k)) K
theorem ytQ {r:Rat} (h:r≠0):(r⁻¹).num=(if r.num<0 then -(r.den:Int) else r.den)∧(r⁻¹).den=r.num.natAbs:=by
 have h0:r.num≠0:=fun e=>h (Rat.num_eq_zero.1 e)
 constructor
 · rw [Rat.num_inv]
   by_cases h1:r.num<0
   · rw [if_pos h1,Int.sign_eq_neg_one_of_neg h1];omega
   · rw [if_neg h1,Int.sign_eq_one_of_pos (by omega)];omega
 · rw [Rat.den_inv,if_neg h0]
theorem yap.inv {r:Rat} (h:yap r) (h0:r≠0):yap r⁻¹:=by
 obtain ⟨e1,e2⟩:=ytQ h0
 obtain ⟨h1,h2,h3⟩:=h
 unfold yap
 rw [e1,e2]
 split <;> omega
theorem yKW {q r:Rat} (hq:yap q) (hr:yap r) (h0:r≠0) (K:Int→Int→Int→Prop):ybY q.num q.den r.num r.den K=fitK (q / r) K:=by
 have hn:r.num≠0:=fun e=>h0 (Rat.num_eq_zero.1 e)
 refine ysD (fun r0 r1 r2 h K=>yx7 _ _ _ _ r0 r1 r2 h K) (fun K k=>yMm hq.i1 hq.i2 hr.i1 hr.i2 ?_) K
 rw [if_pos (yef hq hr),if_neg hn]
 rw [Rat.div_def,← yBF] at k
 obtain ⟨e1,e2⟩:=ytQ h0
 rw [e1,e2] at k
 have s:decide ((if r.num<0 then -(r.den:Int) else (r.den:Int))<0)=decide (r.num<0):=by
   have:=r.den_pos
   split
   · rename_i h;simp only [h];simp;omega
   · rename_i h;simp only [h];simp
 rw [s] at k
 have hd:(if r.num<0 then -(r.den:Int) else (r.den:Int)).natAbs=r.den:=by split <;> omega
 unfold numM denM at k ⊢
 simp only [hd,Int.natAbs_natCast] at k ⊢
 exact k
end Go.Pf.Vc
namespace Go.Pf.Vc
open Go Go.Pf
theorem yIg (q r:Rat):(q+r).num=(q.num*(r.den / Nat.gcd q.den r.den:Nat)+r.num*(q.den / Nat.gcd q.den r.den:Nat)) / (Nat.gcd (q.num*(r.den / Nat.gcd q.den r.den:Nat)+r.num*(q.den / Nat.gcd q.den r.den:Nat)).natAbs (Nat.gcd q.den r.den):Nat) ∧
   (q+r).den=(q.den / Nat.gcd q.den r.den)*r.den / Nat.gcd (q.num*(r.den / Nat.gcd q.den r.den:Nat)+r.num*(q.den / Nat.gcd q.den r.den:Nat)).natAbs (Nat.gcd q.den r.den):=by
 have e:q+r=Rat.add q r:=rfl
 rw [e]
 delta Rat.add
 by_cases hg:q.den.gcd r.den=1
 · simp only [hg,dif_pos,Nat.div_one,Nat.gcd_one_right,Int.natCast_one,Int.ediv_one,and_self]
 · simp only [hg,dif_neg,not_false_eq_true,Rat.maybeNormalize_eq]
   constructor
   · first | rfl | simp only [Int.divExact_eq_tdiv]
   · first | rfl | simp only []
theorem yJH {q r:Rat} {Z:Int} {g:Nat} (e1:(q+r).num=Z / (Nat.gcd Z.natAbs g:Nat)) (e2:(q+r).den=(q.den / g)*r.den / Nat.gcd Z.natAbs g) (hgp:0<g) (hgd:g∣r.den) (K:Int→Int→Int→Prop) :
   outA (decide (Z<0)) (Z.natAbs:Int) q.den r.den g K=fitK (q+r) K:=by
 unfold outA
 by_cases h0:Z=0
 · subst h0
   have:(q+r)=0:=by
     apply Rat.num_eq_zero.1
     rw [e1];simp
   rw [this,if_pos (by rfl)]
   unfold fitK
   rw [if_pos (by decide)];rfl
 · have hne:¬((Z.natAbs:Nat):Int)=0:=by omega
   rw [if_neg hne]
   have hdv:((Nat.gcd Z.natAbs g:Nat):Int)∣Z:=ykG _ _
   have hhp:0<Nat.gcd Z.natAbs g:=Nat.gcd_pos_of_pos_right _ hgp
   have hhg:Nat.gcd Z.natAbs g∣r.den:=Nat.dvd_trans (Nat.gcd_dvd_right _ _) hgd
   refine yxq ?_ ?_ ?_ K
   · rw [e1,Int.natAbs_ediv_of_dvd hdv];simp
   · rw [e2];simp only [Int.toNat_natCast];rw [Nat.mul_div_assoc _ hhg]
   · intro h
     rw [e1]
     obtain ⟨k,hk⟩:=hdv
     revert hhp hk
     generalize Nat.gcd Z.natAbs g=h
     intro hhp hk
     have e:Z / (h:Int)=k:=by rw [hk,Int.mul_ediv_cancel_left _ (by omega)]
     rw [e]
     have:Z<0↔k<0:=by
       rw [hk]
       constructor
       · intro hk;refine Int.not_le.1 fun hk2=>?_
         have:=Int.mul_nonneg (show 0≤(h:Int) by omega) hk2
         omega
       · intro hk;exact Int.mul_neg_of_pos_of_neg (by omega) hk
     simp only [this]
theorem yBH (q r:Rat) (K:Int→Int→Int→Prop) :
   outA (decide (q.num*((r.den:Int) / (Nat.gcd (q.den:Int).natAbs (r.den:Int).natAbs:Nat))+r.num*((q.den:Int) / (Nat.gcd (q.den:Int).natAbs (r.den:Int).natAbs:Nat))<0))
     ((q.num*((r.den:Int) / (Nat.gcd (q.den:Int).natAbs (r.den:Int).natAbs:Nat))+r.num*((q.den:Int) / (Nat.gcd (q.den:Int).natAbs (r.den:Int).natAbs:Nat))).natAbs:Int) q.den r.den (Nat.gcd (q.den:Int).natAbs (r.den:Int).natAbs) K=fitK (q+r) K:=by
 obtain ⟨e1,e2⟩:=yIg q r
 rw [Int.natCast_ediv,Int.natCast_ediv] at e1 e2
 exact yJH e1 e2 (Nat.gcd_pos_of_pos_left _ q.den_pos) (Nat.gcd_dvd_right _ _) K
theorem yBI {q r:Rat} (hq:yap q) (hr:yap r) (K:Int→Int→Int→Prop):ya2 q.num q.den r.num r.den K=fitK (q+r) K :=
 ysD (fun r0 r1 r2 h K=>yx4 _ _ _ _ r0 r1 r2 h K) (fun K k=>yJC hq.i1 hq.i2 hr.i1 hr.i2 (by rw [if_pos (yef hq hr),yBH];exact k)) K
theorem yvF {q r:Rat} (hq:yap q) (hr:yap r) (K:Int→Int→Int→Prop):ya7 q.num q.den r.num r.den K=fitK (q-r) K :=
 ysD (fun r0 r1 r2 h K=>yx5 _ _ _ _ r0 r1 r2 h K) (fun K k=>yMn hq.i1 hq.i2 hr.i1 hr.i2 (by
   rw [if_pos (yef hq hr)]
   rw [Rat.sub_eq_add_neg,← yBH] at k
   exact k)) K
end Go.Pf.Vc
