/- Part 4 of what the statement rests on: a verified evaluator over pure values, the conditions of the program's functions, and their plain laws. -/
import Derived.Test.YteggmnaoddodbaaGreatPwW3
namespace Go.Pf.Vc
open Go Go.Pf
set_option maxRecDepth 100000
theorem ysN (e:Es) (a0 a1 a2 a3):ycc (yho e a0 a1 a2 a3) 10 a yqG false (ymc a0 a1 a2 a3):=fun _=>⟨fun _=>by kernel_rfl,fun _ _=>by kernel_rfl,trivial⟩
theorem ysO (e:Es) (he:EG e):LpT (Uni (E e)) (ykd yed yaL yaw yai) [] 8206000 (.loop 8206000 yqG):=fun _ _ _=>yo7.st (Sub.uni _) (yaI (yiK e he) 10) (YOk.no _ _) (yaj (by kernel_rfl)) (ysN e _ _ _ _ _)
theorem ysP (e:Es) (a0 a1 a2 a3):ycc (yho e a0 a1 a2 a3) 10 a yqH false (ymd a0 a1 a2 a3):=fun _=>⟨fun _=>by kernel_rfl,fun _ _=>by kernel_rfl,trivial⟩
theorem ysQ (e:Es) (he:EG e):LpT (Uni (E e)) (ykd yed yaL yaw yai) [] 8206001 (.loop 8206001 yqH):=fun _ _ _=>yo7.st (Sub.uni _) (yaI (yiK e he) 10) (YOk.no _ _) (yaj (by kernel_rfl)) (ysP e _ _ _ _ _)
theorem yzr (e:Es) (a0 a1 a2 a3):EqW (yho e a0 a1 a2 a3) 11 yAu yue (ykc a0 a1 a2 a3):=fun _ _=>by kernel_rfl
theorem yhp (e:Es) (he:EG e):OkF (E e) (yue.pw ybp) ycj:=okU he (yzr e _ _ _ _) (yiK e he) yop.flat (ybb (l:=[(8206000,.loop 8206000 yqG),(8206001,.loop 8206001 yqH)]) ⟨ysO e he,ysQ e he,trivial⟩ (by kernel_rfl))
def yat (p0 p1:Ls) (K:Ls→Int→Prop):Prop :=
 ∃ r0 r1,K r0 r1∧∀ e:Es,EG e→Ans (E e) yaR [(.data p0),(.agg [(.data p1)])] (.tup [(.data r0),(.int .i64 r1)])
def yLy:Sg:=⟨pt26,Ls→Int→Prop,fun K=>(fun r0 r1=>K (.tup [(.data r0),(.int .i64 r1)]))⟩
theorem ydN (e:Es) (he:EG e):OkF (E e) (yLy.pw yat) yaR:=fun as K h=>by
 obtain ⟨a,e1,r0,r1,hk,ha⟩:=Sg.inv h
 subst e1
 exact ⟨_,hk,ha e he⟩
abbrev ydj:Type:=Int→Int→Int→Int→Ls→(Bool→Prop)→Prop
def ycL (a0:yad) (x0:Int→Int→Int→Int→Ls→Int→Int→Bool→Prop) (x1:Int→Int→Int→Int→Int→Prop):Nat→Int→Int→Int→Int→Ls→Int→Int→Prop
 | 0,_,_,_,_,_,_,_=>False
 | n+1,i0,i1,i2,i3,l4,i5,i6 =>
 (cbr (decide (i6<i5))
 (asr (decide ((0:Int)≤i6))
 (asr (decide (i6<(((List.length l4):Nat):Int)))
 (lt (List.getD l4 (i6.toNat) .nils) (fun a =>
 (asr (conf z4 a)
 (jn (fun (b:Bool→Prop) =>
 (a0 i0 i1 (yaa (yac a 2)) (yaa (yac a 3)) (fun c =>
 (cbr c
 (a0 (yaa (yac a 0)) (yaa (yac a 1)) i2 i3 (fun d =>
 (b d)))
 (b false)))))
 (fun e=>(cbr e
 (x1 i0 i1 i2 i3 i6)
 (lt (IntKind.i64.wrap (i6+(1:Int))) (fun f =>
 (ycL a0 x0 x1 n i0 i1 i2 i3 l4 i5 f)))))))))))
 (x0 i0 i1 i2 i3 l4 i5 i6 false))
def yhS (a0:yad) (p0 p1 p2 p3:Int) (p4:Ls) (K:Bool→Prop):Prop :=
 (jn (fun (a:Int→Int→Int→Int→Int→Prop) =>
 (∃ n:Nat,ycL a0
 (fun b c d e _ _ _ _=>(a b c d e (-1:Int)))
 (fun f g h i j=>(a f g h i j))
 n p0 p1 p2 p3 p4 (((List.length p4):Nat):Int) (0:Int)))
 (fun _ _ _ _ k=>(K (decide (k≥(0:Int))))))
def ybR:ydj:=yhS yai
def yvX:Sg:=⟨(lC pt18 (lC (vX 0 vD) lN)),Bool→Prop,fun K=>(fun r0=>K (.bool r0))⟩
def yq9 (Q:Qx):Int→Int→Int→Int→Ls→Int→Int→Bool→Prop:=(fun i0 i1 i2 i3 l4 i5 i6 b7=>Q (.exit 0) [(0,.v (.data l4)),(1,.v (.fn (.func yc5) [] [(.ptr 0 1 0 0)])),(7,.v (.int .i64 i5)),(8,.v (.int .i64 i6)),(9,.v (.bool b7))] [⟨false,false,4,([(.agg [(.int .i64 i0),(.int .i64 i1),(.int .i64 i2),(.int .i64 i3)])]:Ls)⟩])
def yra (Q:Qx):Int→Int→Int→Int→Int→Prop:=(fun i0 i1 i2 i3 i4=>Q .ret [(4,.v (.int .i64 i4))] [⟨false,false,4,([(.agg [(.int .i64 i0),(.int .i64 i1),(.int .i64 i2),(.int .i64 i3)])]:Ls)⟩])
def yke (a0:yad) (Q:Qx):List St:=[⟨(pS (hB false false 4 (rC pt18 rN) hN) (fV 0 vD (fV 1 (vF yc5 lN pt20) pt10)) fN),ycL a0 (yq9 Q) (yra Q)⟩]
def yhT (a0:yad):LP:=lpS [(68674300,yke a0)]
def yme (e:Es) (a0:yad):SE:=⟨(E e),ygj [(ybm,ynp.pw a0)],ygk [(yaQ,ybF),(yc5,ykM)],yhT a0,fun _=>none⟩
def ymf (e:Es) (a0:yad):SE:=⟨(E e),ygj [(ybm,ynp.pw a0)],ygk [(yaQ,ybF),(ybN,yeo),(yc5,ykM)],yhT a0,fun _=>none⟩
theorem yun (e:Es) (he:EG e):SEOk (Uni (E e)) (yme e yai):=yao (Sub.uni _) ⟨(yen e he),trivial⟩ ⟨⟨by kernel_rfl,by kernel_rfl,rfl,fun as=>yaJ (by kernel_rfl) as,he.num _ (by kernel_rfl),by kernel_rfl,(yaj (by kernel_rfl))⟩,⟨by kernel_rfl,by kernel_rfl,rfl,fun as=>yaJ (by kernel_rfl) as,he.num _ (by kernel_rfl),by kernel_rfl,(yaj (by kernel_rfl))⟩,trivial⟩ he.ok
theorem yp0 (e:Es) (a0):ycc (yme e a0) 10 a ygy false (yke a0):=fun _=>⟨fun _=>by kernel_rfl,fun _ _=>by kernel_rfl,trivial⟩
theorem yp1 (e:Es) (he:EG e):LpT (Uni (E e)) (yhT yai) [] 68674300 (.loop 68674300 ygy):=fun _ _ _=>yo7.st (Sub.uni _) (yaI (yun e he) 10) (YOk.no _ _) (yaj (by kernel_rfl)) (yp0 e _ _)
theorem yuo (e:Es) (he:EG e):SEOk (Uni (E e)) (ymf e yai):=yao (Sub.uni _) ⟨(yen e he),trivial⟩ ⟨⟨by kernel_rfl,by kernel_rfl,rfl,fun as=>yaJ (by kernel_rfl) as,he.num _ (by kernel_rfl),by kernel_rfl,(yaj (by kernel_rfl))⟩,⟨by kernel_rfl,by kernel_rfl,rfl,fun as=>yaJ (by kernel_rfl) as,he.num _ (by kernel_rfl),by kernel_rfl,(ybb (l:=[(68674300,.loop 68674300 ygy)]) ⟨yp1 e he,trivial⟩ (by kernel_rfl))⟩,⟨by kernel_rfl,by kernel_rfl,rfl,fun as=>yaJ (by kernel_rfl) as,he.num _ (by kernel_rfl),by kernel_rfl,(yaj (by kernel_rfl))⟩,trivial⟩ he.ok
theorem yvY (e:Es) (a0):EqW (ymf e a0) 11 ywS yvX (yhS a0):=fun _ _=>by kernel_rfl
theorem yhU (e:Es) (he:EG e):OkF (E e) (yvX.pw ybR) ycp:=okU he (yvY e _) (yuo e he) yop.flat (yaj (by kernel_rfl))
def yda (a0:ydj) (x0:Ls→Ls→Int→Int→Bool→Prop) (x1:Ls→Int→Prop):Nat→Ls→Ls→Int→Int→Prop
 | 0,_,_,_,_=>False
 | n+1,l0,l1,i2,i3 =>
 (cbr (decide (i3<i2))
 (asr (decide ((0:Int)≤i3))
 (asr (decide (i3<(((List.length l1):Nat):Int)))
 (lt (List.getD l1 (i3.toNat) .nils) (fun a =>
 (asr (conf z4 a)
 (a0 (yaa (yac a 0)) (yaa (yac a 1)) (yaa (yac a 2)) (yaa (yac a 3)) l0 (fun b =>
 (cbr b
 (x1 l0 i3)
 (lt (IntKind.i64.wrap (i3+(1:Int))) (fun c =>
 (yda a0 x0 x1 n l0 l1 i2 c)))))))))))
 (x0 l0 l1 i2 i3 false))
def ykf (a0:ydj) (p0 p1:Ls) (K:Bool→Prop):Prop :=
 (jn (fun (a:Ls→Int→Prop) =>
 (∃ n:Nat,yda a0
 (fun b _ _ _ _=>(a b (-1:Int)))
 (fun c d=>(a c d))
 n p1 p0 (((List.length p0):Nat):Int) (0:Int)))
 (fun _ e=>(K (decide (e≥(0:Int))))))
def yak:yaK:=ykf ybR
def yup (Q:Qx):Ls→Ls→Int→Int→Bool→Prop:=(fun l0 l1 i2 i3 b4=>Q (.exit 0) [(0,.v (.data l1)),(1,.v (.fn (.func ycp) [] [(.ptr 0 1 0 0)])),(7,.v (.int .i64 i2)),(8,.v (.int .i64 i3)),(9,.v (.bool b4))] [⟨false,false,1,([(.data l0)]:Ls)⟩])
def yuq (Q:Qx):Ls→Int→Prop:=(fun l0 i1=>Q .ret [(4,.v (.int .i64 i1))] [⟨false,false,1,([(.data l0)]:Ls)⟩])
def ymg (a0:ydj) (Q:Qx):List St:=[⟨(pS (hB false false 1 (rC vD rN) hN) (fV 0 vD (fV 1 (vF ycp lN pt20) pt10)) fN),yda a0 (yup Q) (yuq Q)⟩]
def ykg (a0:ydj):LP:=lpS [(68674300,ymg a0)]
def yp2 (e:Es) (a0:ydj):SE:=⟨(E e),ygj [(ycp,yvX.pw a0)],ygk [(yaQ,ybF)],ykg a0,fun _=>none⟩
def yp3 (e:Es) (a0:ydj):SE:=⟨(E e),ygj [(ycp,yvX.pw a0)],ygk [(yaQ,ybF),(ybN,yeo)],ykg a0,fun _=>none⟩
theorem yxr (e:Es) (he:EG e):SEOk (Uni (E e)) (yp2 e ybR):=yao (Sub.uni _) ⟨(yhU e he),trivial⟩ ⟨⟨by kernel_rfl,by kernel_rfl,rfl,fun as=>yaJ (by kernel_rfl) as,he.num _ (by kernel_rfl),by kernel_rfl,(yaj (by kernel_rfl))⟩,trivial⟩ he.ok
theorem ysR (e:Es) (a0):ycc (yp2 e a0) 10 a ygy false (ymg a0):=fun _=>⟨fun _=>by kernel_rfl,fun _ _=>by kernel_rfl,trivial⟩
theorem ysS (e:Es) (he:EG e):LpT (Uni (E e)) (ykg ybR) [] 68674300 (.loop 68674300 ygy):=fun _ _ _=>yo7.st (Sub.uni _) (yaI (yxr e he) 10) (YOk.no _ _) (yaj (by kernel_rfl)) (ysR e _ _)
theorem yxs (e:Es) (he:EG e):SEOk (Uni (E e)) (yp3 e ybR):=yao (Sub.uni _) ⟨(yhU e he),trivial⟩ ⟨⟨by kernel_rfl,by kernel_rfl,rfl,fun as=>yaJ (by kernel_rfl) as,he.num _ (by kernel_rfl),by kernel_rfl,(yaj (by kernel_rfl))⟩,⟨by kernel_rfl,by kernel_rfl,rfl,fun as=>yaJ (by kernel_rfl) as,he.num _ (by kernel_rfl),by kernel_rfl,(ybb (l:=[(68674300,.loop 68674300 ygy)]) ⟨ysS e he,trivial⟩ (by kernel_rfl))⟩,trivial⟩ he.ok
theorem yzs (e:Es) (a0):EqW (yp3 e a0) 11 yAw yl6 (ykf a0):=fun _ _=>by kernel_rfl
theorem ykh (e:Es) (he:EG e):OkF (E e) (yl6.pw yak) ye6:=okU he (yzs e _) (yxs e he) yop.flat (yaj (by kernel_rfl))
abbrev yrb:Type:=Int→Int→Int→Int→Int→Int→Int→Int→(Int→Prop)→Prop
def yfG (a0:yaV) (p0 p1 _ _ p4 p5 _ _:Int) (K:Int→Prop):Prop :=
 (a0 p0 p1 p4 p5 (fun a _ =>
 (K a)))
def yga:yrb:=yfG ycY
def yp4:Sg:=⟨(lC pt18 (lC pt18 lN)),Int→Prop,fun K=>(fun r0=>K (.int .i64 r0))⟩
def yp5 (e:Es) (a0:yaV):SE:=sE (E e) [(ycw,yDt.pw a0)] lp0
theorem yp6 (e:Es) (a0):EqW (yp5 e a0) 11 yqT yp4 (yfG a0):=fun _ _=>by kernel_rfl
theorem yp7 (e:Es) (he:EG e):OkF (E e) (yp4.pw yga) ybZ:=okU he (yp6 e _) (yao (Sub.uni _) ⟨(yfV e he),trivial⟩ trivial he.ok) yop.flat (yaj (by kernel_rfl))
abbrev yaN:Type:=Ls→Ls→Ls→Ls→(Bool→Prop)→Prop
def yce (a0:yal) (a1:yad) (a:Ls→Int→Ls→Int→Int→Bool→Prop):Nat→Ls→Int→Ls→Int→Int→Prop
 | 0,_,_,_,_,_=>False
 | d+1,l0,i1,l2,i3,i4 =>
 (cbr (decide (i4<i3))
 (asr (decide ((0:Int)≤i4))
 (asr (decide (i4<(((List.length l2):Nat):Int)))
 (lt (List.getD l2 (i4.toNat) .nils) (fun b =>
 (asr (conf zD b)
 (lt (IntKind.i64.wrap (i1+(((List.length (yap b)):Nat):Int))) (fun c =>
 (cbr (decide (c<(0:Int)))
 False
 (lt (IntKind.i64.wrap (i4+(1:Int))) (fun e =>
 (yce a0 a1 a d l0 c l2 i3 e)))))))))))
 (a l0 i1 l2 i3 i4 false))
def ybn (a0:yal) (a1:yad) (b:Ls→Nat→Ls→Int→Int→Bool→Prop):Nat→Ls→Nat→Ls→Int→Int→Prop
 | 0,_,_,_,_,_=>False
 | c+1,l0,n1,l3,i4,i5 =>
 (cbr (decide (i5<i4))
 (asr (decide ((0:Int)≤i5))
 (asr (decide (i5<(((List.length l3):Nat):Int)))
 (lt (List.getD l3 (i5.toNat) .nils) (fun a =>
 (asr (conf zD a)
 (asr (yfp 4 (yap a))
 (asr (decide ((List.length l0)=(List.length l0)))
 (asr (decide ((0+n1)≤(List.length l0)))
 (cbr (List.isEmpty (yap a))
 (lt (IntKind.i64.wrap (i5+(1:Int))) (fun d =>
 (asr (decide ((List.length l0)=List.length l0))
 (ybn a0 a1 b c l0 n1 l3 i4 d))))
 (asr (decide (((0+n1)+(List.length (yap a)))≤(List.length l0)))
 (lt (IntKind.i64.wrap (i5+(1:Int))) (fun e =>
 (asr (decide ((List.length l0)=List.length ((List.take (0+n1) l0)++((yap a)++(List.drop ((0+n1)+(List.length (yap a))) l0)))))
 (ybn a0 a1 b c ((List.take (0+n1) l0)++((yap a)++(List.drop ((0+n1)+(List.length (yap a))) l0))) (n1+(List.length (yap a))) l3 i4 e))))))))))))))
 (b l0 n1 l3 i4 i5 false))
def ycf (a0:yal) (a1:yad) (b:Ls→Int→Int→Bool→Prop) (c:Ls→Nat→Ls→Int→Int→Bool→Prop):Nat→Ls→Int→Int→Prop
 | 0,_,_,_=>False
 | d+1,l0,i1,i2 =>
 (cbr (decide (i2<i1))
 (asr (decide ((0:Int)≤i2))
 (asr (decide (i2<(((List.length l0):Nat):Int)))
 (lt (List.getD l0 (i2.toNat) .nils) (fun a =>
 (asr (conf zD a)
 (asr (yfp 4 (yap a))
 (cbr (List.isEmpty (yap a))
 (lt (IntKind.i64.wrap (i2+(1:Int))) (fun e =>
 (ycf a0 a1 b c d l0 i1 e)))
 (asr (decide (((List.length (yap a))+64)*(32+1)≤room))
 (lt (IntKind.i64.wrap (i2+(1:Int))) (fun f =>
 (asr (decide ((List.length (yap a))=List.length (yap a)))
 (ybn a0 a1 c d (yap a) (List.length (yap a)) l0 i1 f))))))))))))
 (b l0 i1 i2 false))
def ycg (a0:yal) (a1:yad) (b:Ls→Ls→Ls→Ls→Ls→Int→Int→Nat→Int→Int→Bool→Prop) (c:Ls→Bool→Prop):Nat→Ls→Ls→Ls→Ls→Ls→Int→Int→Nat→Int→Int→Prop
 | 0,_,_,_,_,_,_,_,_,_,_=>False
 | e+1,l0,l1,l2,l3,l4,i5,i6,n7,i9,i10 =>
 (cbr (decide (i10<i9))
 (jn (fun (d:Int→Int→Prop) =>
 (asr (decide ((0:Int)≤i10))
 (asr (decide (i10<((n7:Nat):Int)))
 (asr (decide ((List.length l0)=(List.length l0)))
 (asr (decide ((0+(i10.toNat))<(List.length l0)))
 (lt (List.getD l0 (0+(i10.toNat)) .nils) (fun a =>
 (asr (conf z4 a)
 (a1 i5 i6 (yaa (yac a 0)) (yaa (yac a 1)) (fun f =>
 (cbr f
 (c l0 true)
 (a1 i5 i6 (yaa (yac a 2)) (yaa (yac a 3)) (fun g =>
 (cbr g
 (d (yaa (yac a 2)) (yaa (yac a 3)))
 (d i5 i6)))))))))))))))
 (fun h i=>(lt (IntKind.i64.wrap (i10+(1:Int))) (fun j =>
 (asr (decide ((List.length l0)=List.length l0))
 (ycg a0 a1 b c e l0 l1 l2 l3 l4 h i n7 i9 j))))))
 (b l0 l1 l2 l3 l4 i5 i6 n7 i9 i10 false))
def yfe (_:yal) (_:yad) (a:Ls→Ls→Ls→Ls→Int→Int→Int→Int→Bool→Prop):Nat→Ls→Ls→Ls→Ls→Int→Int→Int→Int→Prop
 | 0,_,_,_,_,_,_,_,_=>False
 | _+1,l0,l1,l2,l3,i4,i5,i6,i7 =>
 (cbr (decide (i7<i6))
 False
 (a l0 l1 l2 l3 i4 i5 i6 i7 false))
def ygB (a0:yal) (a1:yad) (p0 p1 p2 p3:Ls) (K:Bool→Prop):Prop :=
 (jn (fun (g:Ls→Nat→Prop) =>
 (∃ n:Nat,yce a0 a1
 (fun d h _ _ _ _=>(cbr (decide (h<(0:Int)))
 False
 (jn (fun i =>
 (lt (IntKind.i64.wrap (h-(0:Int))) (fun a =>
 (cbr (decide (a>(0:Int)))
 (asr (decide ((0:Int)≤a))
 (cbr (decide ((a.toNat)=0))
 i
 (asr (decide (((List.length (List.replicate (a.toNat) ((.agg [(.int .i64 (0)),(.int .i64 (0)),(.int .i64 (0)),(.int .i64 (0))]):PV)))+64)*(32+1)≤room))
 (asr ((decide ((0:Int)≤(((List.length (List.replicate (a.toNat) ((.agg [(.int .i64 (0)),(.int .i64 (0)),(.int .i64 (0)),(.int .i64 (0))]):PV))):Nat):Int)))||(decide ((0:Int)≤(((List.length (List.replicate (a.toNat) ((.agg [(.int .i64 (0)),(.int .i64 (0)),(.int .i64 (0)),(.int .i64 (0))]):PV))):Nat):Int))))
 (asr (decide ((List.length (List.replicate (a.toNat) ((.agg [(.int .i64 (0)),(.int .i64 (0)),(.int .i64 (0)),(.int .i64 (0))]):PV)))=List.length (List.replicate (a.toNat) ((.agg [(.int .i64 (0)),(.int .i64 (0)),(.int .i64 (0)),(.int .i64 (0))]):PV))))
 (∃ e:Nat,ybn a0 a1
 (fun o p _ _ _ _=>(g o p))
 e (List.replicate (a.toNat) ((.agg [(.int .i64 (0)),(.int .i64 (0)),(.int .i64 (0)),(.int .i64 (0))]):PV)) 0 d (((List.length d):Nat):Int) (0:Int)))))))
 i))))
 (∃ e:Nat,ycf a0 a1
 (fun _ _ _ _=>(a0 (0:Int) (fun q r =>
 (∃ f:Nat,yfe a0 a1
 (fun j _ _ _ t u _ _ _=>(asr (decide ((0:Int)<(((List.length j):Nat):Int)))
 (lt (List.getD j 0 .nils) (fun k =>
 (asr (conf zK k)
 (a0 (yaa (yac k 0)) (fun v w =>
 (a1 t u v w (fun x =>
 (K x))))))))))
 f p0 p1 p2 p3 q r (0:Int) (0:Int)))))
 (fun y z _ _ _ _=>(g y z))
 e d (((List.length d):Nat):Int) (0:Int)))))
 n p1 (0:Int) p1 (((List.length p1):Nat):Int) (0:Int)))
 (fun b c=>(asr (Srt.cond yoG.s b 0 c (List.length b) 4 false)
 (a0 (0:Int) (fun A B =>
 (asr (decide ((List.length b)=List.length (List.take 0 b++(Srt.sorted yoG.s yoG.srt (List.take c (List.drop 0 b))++List.drop (0+c) b))))
 (∃ f:Nat,ycg a0 a1
 (fun _ l _ _ _ C D _ _ _ _=>(asr (decide ((0:Int)<(((List.length l):Nat):Int)))
 (lt (List.getD l 0 .nils) (fun m =>
 (asr (conf zK m)
 (a0 (yaa (yac m 0)) (fun E F =>
 (a1 C D E F (fun G =>
 (K G))))))))))
 (fun _ H=>(K H))
 f (List.take 0 b++(Srt.sorted yoG.s yoG.srt (List.take c (List.drop 0 b))++List.drop (0+c) b)) p0 p1 p2 p3 A B c ((c:Nat):Int) (0:Int))))))))
def yaf:yaN:=ygB yaw yai
def pt29:VPt:=vX 0 (vA (lC vD (lC vD pt15)))
def ysT:Sg:=⟨(lC pt29 lN),Bool→Prop,fun K=>(fun r0=>K (.bool r0))⟩
def yoN (Q:Qx):Ls→Int→Ls→Int→Int→Bool→Prop:=(fun l0 i1 l2 i3 i4 b5=>Q (.exit 0) [(0,.v (.data l0)),(3,.v (.int .i64 i1)),(9,.v (.data l2)),(10,.v (.int .i64 i3)),(11,.v (.int .i64 i4)),(12,.v (.bool b5))] [])
def yoO (Q:Qx):Ls→Int→Int→Bool→Prop:=(fun l0 i1 i2 b3=>Q (.exit 2) [(6,.v .nils),(25,.v (.data l0)),(26,.v (.int .i64 i1)),(27,.v (.int .i64 i2)),(28,.v (.bool b3))] [])
def yhz (Q:Qx):Ls→Nat→Ls→Int→Int→Bool→Prop:=(fun l0 n1 l3 i4 i5 b6=>Q (.exit 2) [(6,.v (.own 0 0 n1 (List.length l0) none)),(25,.v (.data l3)),(26,.v (.int .i64 i4)),(27,.v (.int .i64 i5)),(28,.v (.bool b6))] [⟨false,true,4,l0⟩])
def yoP (Q:Qx):Ls→Ls→Ls→Ls→Ls→Int→Int→Nat→Int→Int→Bool→Prop:=(fun l0 l1 l2 l3 l4 i5 i6 n7 i9 i10 b11=>Q (.exit 0) [(0,.v (.eptr [(.agg [(.data l1),(.data l2),(.data l3),(.data l4)])] 0 0)),(4,.box (.agg [(.int .i64 i5),(.int .i64 i6)])),(15,.v (.own 0 0 n7 (List.length l0) none)),(16,.v (.int .i64 i9)),(17,.v (.int .i64 i10)),(18,.v (.bool b11))] [⟨false,true,4,l0⟩])
def yoQ (Q:Qx):Ls→Bool→Prop:=(fun l0 b1=>Q .ret [(2,.v (.bool b1))] [⟨false,true,4,l0⟩])
def yoR (Q:Qx):Ls→Ls→Ls→Ls→Int→Int→Int→Int→Bool→Prop:=(fun l0 l1 l2 l3 i4 i5 i6 i7 b8=>Q (.exit 0) [(0,.v (.eptr [(.agg [(.data l0),(.data l1),(.data l2),(.data l3)])] 0 0)),(4,.box (.agg [(.int .i64 i4),(.int .i64 i5)])),(15,.v .nils),(16,.v (.int .i64 i6)),(17,.v (.int .i64 i7)),(18,.v (.bool b8))] [])
def yiw (a0:yal) (a1:yad) (Q:Qx):List St:=[⟨(pS hN (fV 0 vD (fV 3 pt0 (fV 9 vD (fV 10 pt0 (fV 11 pt0 fN))))) fN),yce a0 a1 (yoN Q)⟩]
def yix (a0:yal) (a1:yad) (Q:Qx):List St:=[⟨(pS hN (fV 6 vNs pt28) fN),ycf a0 a1 (yoO Q) (yhz Q)⟩,⟨(pS pt22 (fV 6 (vW 0 (nK 0) nV (nT 0)) pt28) fN),ybn a0 a1 (yhz Q)⟩]
def yiy (a0:yal) (a1:yad) (Q:Qx):List St:=[⟨(pS pt22 (fV 0 pt29 (fX 4 pt7 (fV 15 (vW 0 (nK 0) nV (nT 0)) (fV 16 pt0 (fV 17 pt0 fN))))) fN),ycg a0 a1 (yoP Q) (yoQ Q)⟩,⟨(pS hN (fV 0 pt29 (fX 4 pt7 (fV 15 vNs (fV 16 pt0 (fV 17 pt0 fN))))) fN),yfe a0 a1 (yoR Q)⟩]
def ydO (a0:yal) (a1:yad):LP:=lpS [(14451100,yiw a0 a1),(14451101,yix a0 a1),(93107500,yiy a0 a1)]
def yeS (a0:yal) (a1:yad):SE:=⟨(E ef0),ygj [(ybz,yla.pw a0),(ybm,ynp.pw a1)],ygk [(ycB,yfz)],ydO a0 a1,fun _=>none⟩
def yki (a0:yal) (a1:yad):SE:=⟨(E ef0),ygj [(ybz,yla.pw a0),(ybm,ynp.pw a1)],ygk [(yde,yiF),(ycB,yfz)],ydO a0 a1,fun _=>none⟩
theorem ygb:SEOk (Uni (E ef0)) (yeS yaw yai):=yao (Sub.uni _) ⟨(ydM ef0 ybG),(yen ef0 ybG),trivial⟩ ⟨⟨by kernel_rfl,by kernel_rfl,rfl,fun as=>yaJ (by kernel_rfl) as,ybG.num _ (by kernel_rfl),by kernel_rfl,(yaj (by kernel_rfl))⟩,trivial⟩ ybG.ok
theorem ynP (a0 a1):ycc (yeS a0 a1) 10 a ym5 false (yiw a0 a1):=fun _=>⟨fun _=>by kernel_rfl,fun _ _=>by kernel_rfl,trivial⟩
theorem ynQ:LpT (Uni (E ef0)) (ydO yaw yai) [] 14451100 (.loop 14451100 ym5):=fun _ _ _=>yo7.st (Sub.uni _) (yaI (ygb) 10) (YOk.no _ _) (yaj (by kernel_rfl)) (ynP _ _ _)
theorem ynR (a0 a1):ycc (yeS a0 a1) 10 a ym6 false (yix a0 a1):=fun _=>⟨fun _=>by kernel_rfl,fun _ _=>by kernel_rfl,fun _=>by kernel_rfl,fun _ _=>by kernel_rfl,trivial⟩
theorem ynS:LpT (Uni (E ef0)) (ydO yaw yai) [] 14451101 (.loop 14451101 ym6):=fun _ _ _=>yo7.st (Sub.uni _) (yaI (ygb) 10) (YOk.no _ _) (yaj (by kernel_rfl)) (ynR _ _ _)
theorem ynT (a0 a1):ycc (yeS a0 a1) 10 a ym7 false (yiy a0 a1):=fun _=>⟨fun _=>by kernel_rfl,fun _ _=>by kernel_rfl,fun _=>by kernel_rfl,fun _ _=>by kernel_rfl,trivial⟩
theorem ynU:LpT (Uni (E ef0)) (ydO yaw yai) [] 93107500 (.loop 93107500 ym7):=fun _ _ _=>yo7.st (Sub.uni _) (yaI (ygb) 10) (YOk.no _ _) (yaj (by kernel_rfl)) (ynT _ _ _)
theorem yrc:SEOk (Uni (E ef0)) (yki yaw yai):=yao (Sub.uni _) ⟨(ydM ef0 ybG),(yen ef0 ybG),trivial⟩ ⟨⟨by kernel_rfl,by kernel_rfl,rfl,fun as=>yaJ (by kernel_rfl) as,ybG.num _ (by kernel_rfl),by kernel_rfl,(ybb (l:=[(14451100,.loop 14451100 ym5),(14451101,.loop 14451101 ym6)]) ⟨ynQ,ynS,trivial⟩ (by kernel_rfl))⟩,⟨by kernel_rfl,by kernel_rfl,rfl,fun as=>yaJ (by kernel_rfl) as,ybG.num _ (by kernel_rfl),by kernel_rfl,(yaj (by kernel_rfl))⟩,trivial⟩ ybG.ok
theorem ysU (a0 a1):EqW (yki a0 a1) 11 ytD ysT (ygB a0 a1):=fun _ _=>by kernel_rfl
theorem ygC:OkF (E ef0) (ysT.pw yaf) ycC:=okU ybG (ysU _ _) (yrc) yop.flat (ybb (l:=[(93107500,.loop 93107500 ym7)]) ⟨ynU,trivial⟩ (by kernel_rfl))
abbrev yaA:Type:=Ls→Ls→Ls→Ls→Int→(Int→Int→Bool→Prop)→Prop
def ya0 (a0:yaK) (a1:yaN) (a2:yax) (a3:ybt) (a4:yad) (a:Ls→Ls→Ls→Ls→Ls→Ls→Ls→Ls→Int→Int→Int→Int→Int→Bool→Prop) (b:Ls→Ls→Ls→Ls→Int→Int→Bool→Prop):Nat→Ls→Ls→Ls→Ls→Ls→Ls→Ls→Ls→Int→Int→Int→Int→Int→Prop
 | 0,_,_,_,_,_,_,_,_,_,_,_,_,_=>False
 | f+1,l0,l1,l2,l3,l4,l5,l6,l7,i8,i9,i10,i11,i12 =>
 (cbr (decide (i12<i11))
 (jn (fun (c:Bool→Prop) =>
 (cbr (decide (i8<i12))
 (asr (decide ((0:Int)≤i8))
 (asr (decide (i8<(((List.length l1):Nat):Int)))
 (lt (List.getD l1 (i8.toNat) .nils) (fun d =>
 (asr (conf zD d)
 (asr (decide ((0:Int)≤i12))
 (asr (decide (i12<(((List.length l1):Nat):Int)))
 (lt (List.getD l1 (i12.toNat) .nils) (fun e =>
 (asr (conf zD e)
 (a0 (yap d) (yap e) (fun g =>
 (c g)))))))))))))
 (c false)))
 (fun h=>(cbr h
 (b l0 l1 l2 l3 i8 i12 true)
 (lt (IntKind.i64.wrap (i12+(1:Int))) (fun i =>
 (ya0 a0 a1 a2 a3 a4 a b f l0 l1 l2 l3 l4 l5 l6 l7 i8 i9 i10 i11 i))))))
 (a l0 l1 l2 l3 l4 l5 l6 l7 i8 i9 i10 i11 i12 false))
def ya1 (a0:yaK) (a1:yaN) (a2:yax) (a3:ybt) (a4:yad) (d:Ls→Ls→Ls→Ls→Int→Int→Bool→Prop) (e:Ls→Ls→Ls→Ls→Ls→Ls→Ls→Ls→Int→Int→Int→Int→Int→Bool→Prop):Nat→Ls→Ls→Ls→Ls→Ls→Ls→Ls→Ls→Int→Int→Int→Int→Int→Prop
 | 0,_,_,_,_,_,_,_,_,_,_,_,_,_=>False
 | g+1,l0,l1,l2,l3,l4,l5,l6,l7,i8,i9,i10,i11,i12 =>
 (cbr (decide (i12<i11))
 (asr (decide ((0:Int)≤i8))
 (asr (decide (i8<(((List.length l0):Nat):Int)))
 (lt (List.getD l0 (i8.toNat) .nils) (fun a =>
 (asr (conf zK a)
 (a2 (yaa (yac a 0)) (yap (yac a 1)) (yap (yac a 2)) (fun h _ =>
 (a3 h (((List.length l0):Nat):Int) (fun i j _ =>
 (jn (fun (f:Bool→Prop) =>
 (cbr (i8 == i12)
 (asr (decide ((0:Int)≤i8))
 (asr (decide (i8<(((List.length l2):Nat):Int)))
 (lt (List.getD l2 (i8.toNat) .nils) (fun b =>
 (asr (conf zD b)
 (asr (decide ((0:Int)≤i8))
 (asr (decide (i8<(((List.length (yap b)):Nat):Int)))
 (lt (List.getD (yap b) (i8.toNat) .nils) (fun c =>
 (asr (conf z2 c)
 (a4 (yaa (yac c 0)) (yaa (yac c 1)) i j (fun k =>
 (f k)))))))))))))
 (f false)))
 (fun l=>(cbr l
 (d l0 l1 l2 l3 i8 i12 true)
 (lt (IntKind.i64.wrap (i12+(1:Int))) (fun m =>
 (ya1 a0 a1 a2 a3 a4 d e g l0 l1 l2 l3 l4 l5 l6 l7 i8 i9 i10 i11 m)))))))))))))))
 (e l0 l1 l2 l3 l4 l5 l6 l7 i8 i9 i10 i11 i12 false))
def ya2 (a0:yaK) (a1:yaN) (a2:yax) (a3:ybt) (a4:yad) (e:Ls→Ls→Ls→Ls→Int→Int→Bool→Prop) (f:Ls→Ls→Ls→Ls→Ls→Ls→Ls→Ls→Int→Int→Int→Int→Int→Bool→Prop):Nat→Ls→Ls→Ls→Ls→Ls→Ls→Ls→Ls→Int→Int→Int→Int→Int→Prop
 | 0,_,_,_,_,_,_,_,_,_,_,_,_,_=>False
 | g+1,l0,l1,l2,l3,l4,l5,l6,l7,i8,i9,i10,i11,i12 =>
 (cbr (decide (i12<i11))
 (asr (decide ((0:Int)≤i8))
 (asr (decide (i8<(((List.length l2):Nat):Int)))
 (lt (List.getD l2 (i8.toNat) .nils) (fun a =>
 (asr (conf zD a)
 (asr (decide ((0:Int)≤i8))
 (asr (decide (i8<(((List.length (yap a)):Nat):Int)))
 (lt (List.getD (yap a) (i8.toNat) .nils) (fun b =>
 (asr (conf z2 b)
 (asr (decide ((0:Int)≤i8))
 (asr (decide (i8<(((List.length l2):Nat):Int)))
 (lt (List.getD l2 (i8.toNat) .nils) (fun c =>
 (asr (conf zD c)
 (asr (decide ((0:Int)≤i12))
 (asr (decide (i12<(((List.length (yap c)):Nat):Int)))
 (lt (List.getD (yap c) (i12.toNat) .nils) (fun d =>
 (asr (conf z2 d)
 (a4 (yaa (yac b 0)) (yaa (yac b 1)) (yaa (yac d 0)) (yaa (yac d 1)) (fun h =>
 (cbr h
 (e l0 l1 l2 l3 i8 i12 true)
 (lt (IntKind.i64.wrap (i12+(1:Int))) (fun i =>
 (ya2 a0 a1 a2 a3 a4 e f g l0 l1 l2 l3 l4 l5 l6 l7 i8 i9 i10 i11 i))))))))))))))))))))))))))
 (f l0 l1 l2 l3 l4 l5 l6 l7 i8 i9 i10 i11 i12 false))
def ya3 (a0:yaK) (a1:yaN) (a2:yax) (a3:ybt) (a4:yad) (c:Ls→Ls→Ls→Ls→Int→Int→Bool→Prop) (d:Ls→Ls→Ls→Ls→Ls→Ls→Ls→Ls→Int→Int→Int→Int→Int→Bool→Prop):Nat→Ls→Ls→Ls→Ls→Ls→Ls→Ls→Ls→Int→Int→Int→Int→Int→Prop
 | 0,_,_,_,_,_,_,_,_,_,_,_,_,_=>False
 | f+1,l0,l1,l2,l3,l4,l5,l6,l7,i8,i9,i10,i11,i12 =>
 (cbr (decide (i12<i11))
 (jn (fun (e:Bool→Prop) =>
 (cbr (i12 ==(0:Int))
 (asr (decide ((0:Int)≤i8))
 (asr (decide (i8<(((List.length l3):Nat):Int)))
 (lt (List.getD l3 (i8.toNat) .nils) (fun a =>
 (asr (conf z2 a)
 (asr (decide ((0:Int)<(((List.length l3):Nat):Int)))
 (lt (List.getD l3 0 .nils) (fun b =>
 (asr (conf z2 b)
 (e (!(((yaa (yac a 0)) ==(yaa (yac b 0)))&&(((yaa (yac a 1)) ==(yaa (yac b 1)))&&true)))))))))))))
 (e false)))
 (fun g=>(cbr g
 (c l0 l1 l2 l3 i8 i12 true)
 (lt (IntKind.i64.wrap (i12+(1:Int))) (fun h =>
 (ya3 a0 a1 a2 a3 a4 c d f l0 l1 l2 l3 l4 l5 l6 l7 i8 i9 i10 i11 h))))))
 (d l0 l1 l2 l3 l4 l5 l6 l7 i8 i9 i10 i11 i12 false))
def ya4 (a0:yaK) (a1:yaN) (a2:yax) (a3:ybt) (a4:yad) (a:Ls→Ls→Ls→Ls→Int→Int→Bool→Prop) (b:Ls→Ls→Ls→Ls→Ls→Ls→Ls→Ls→Int→Int→Int→Int→Int→Bool→Prop):Nat→Ls→Ls→Ls→Ls→Ls→Ls→Ls→Ls→Int→Int→Int→Int→Int→Prop
 | 0,_,_,_,_,_,_,_,_,_,_,_,_,_=>False
 | e+1,l0,l1,l2,l3,l4,l5,l6,l7,i8,i9,i10,i11,i12 =>
 (cbr (decide (i12<i11))
 (jn (fun (c:Bool→Prop) =>
 (cbr (i8 == i12)
 (asr (decide ((0:Int)≤i8))
 (asr (decide (i8<(((List.length l1):Nat):Int)))
 (lt (List.getD l1 (i8.toNat) .nils) (fun d =>
 (asr (conf zD d)
 (c ((((List.length (yap d)):Nat):Int) !=(1:Int))))))))
 (c false)))
 (fun f=>(cbr f
 (a l0 l1 l2 l3 i8 i12 true)
 (lt (IntKind.i64.wrap (i12+(1:Int))) (fun g =>
 (ya4 a0 a1 a2 a3 a4 a b e l0 l1 l2 l3 l4 l5 l6 l7 i8 i9 i10 i11 g))))))
 (b l0 l1 l2 l3 l4 l5 l6 l7 i8 i9 i10 i11 i12 false))
def ya5 (a0:yaK) (a1:yaN) (a2:yax) (a3:ybt) (a4:yad) (a:Ls→Ls→Ls→Ls→Ls→Ls→Ls→Ls→Int→Int→Bool→Prop) (b:Ls→Ls→Ls→Ls→Int→Int→Bool→Prop):Nat→Ls→Ls→Ls→Ls→Ls→Ls→Ls→Ls→Int→Int→Prop
 | 0,_,_,_,_,_,_,_,_,_,_=>False
 | c+1,l0,l1,l2,l3,l4,l5,l6,l7,i8,i9 =>
 (cbr (decide (i9<i8))
 (∃ d:Nat,ya0 a0 a1 a2 a3 a4
 (fun e f g h i j k l _ m n _ _ _=>(lt (IntKind.i64.wrap (n+(1:Int))) (fun o =>
 (ya5 a0 a1 a2 a3 a4 a b c e f g h i j k l m o))))
 (fun p q r s t u v=>(b p q r s t u v))
 d l0 l1 l2 l3 l4 l5 l6 l7 i9 i8 i9 (((List.length l4):Nat):Int) (0:Int))
 (a l0 l1 l2 l3 l4 l5 l6 l7 i8 i9 false))
def ya6 (a0:yaK) (a1:yaN) (a2:yax) (a3:ybt) (a4:yad) (a:Ls→Ls→Ls→Ls→Int→Int→Bool→Prop) (b:Ls→Ls→Ls→Ls→Ls→Ls→Ls→Ls→Int→Int→Bool→Prop):Nat→Ls→Ls→Ls→Ls→Ls→Ls→Ls→Ls→Int→Int→Prop
 | 0,_,_,_,_,_,_,_,_,_,_=>False
 | c+1,l0,l1,l2,l3,l4,l5,l6,l7,i8,i9 =>
 (cbr (decide (i9<i8))
 (∃ d:Nat,ya1 a0 a1 a2 a3 a4
 (fun e f g h i j k=>(a e f g h i j k))
 (fun l m n o p q r s _ t u _ _ _=>(lt (IntKind.i64.wrap (u+(1:Int))) (fun v =>
 (ya6 a0 a1 a2 a3 a4 a b c l m n o p q r s t v))))
 d l0 l1 l2 l3 l4 l5 l6 l7 i9 i8 i9 (((List.length l4):Nat):Int) (0:Int))
 (b l0 l1 l2 l3 l4 l5 l6 l7 i8 i9 false))
def ya7 (a0:yaK) (a1:yaN) (a2:yax) (a3:ybt) (a4:yad) (a:Ls→Ls→Ls→Ls→Int→Int→Bool→Prop) (b:Ls→Ls→Ls→Ls→Ls→Ls→Ls→Ls→Int→Int→Bool→Prop):Nat→Ls→Ls→Ls→Ls→Ls→Ls→Ls→Ls→Int→Int→Prop
 | 0,_,_,_,_,_,_,_,_,_,_=>False
 | c+1,l0,l1,l2,l3,l4,l5,l6,l7,i8,i9 =>
 (cbr (decide (i9<i8))
 (∃ d:Nat,ya2 a0 a1 a2 a3 a4
 (fun e f g h i j k=>(a e f g h i j k))
 (fun l m n o p q r s _ t u _ _ _=>(lt (IntKind.i64.wrap (u+(1:Int))) (fun v =>
 (ya7 a0 a1 a2 a3 a4 a b c l m n o p q r s t v))))
 d l0 l1 l2 l3 l4 l5 l6 l7 i9 i8 i9 (((List.length l4):Nat):Int) (0:Int))
 (b l0 l1 l2 l3 l4 l5 l6 l7 i8 i9 false))
def ya8 (a0:yaK) (a1:yaN) (a2:yax) (a3:ybt) (a4:yad) (a:Ls→Ls→Ls→Ls→Int→Int→Bool→Prop) (b:Ls→Ls→Ls→Ls→Ls→Ls→Ls→Ls→Int→Int→Bool→Prop):Nat→Ls→Ls→Ls→Ls→Ls→Ls→Ls→Ls→Int→Int→Prop
 | 0,_,_,_,_,_,_,_,_,_,_=>False
 | c+1,l0,l1,l2,l3,l4,l5,l6,l7,i8,i9 =>
 (cbr (decide (i9<i8))
 (∃ d:Nat,ya3 a0 a1 a2 a3 a4
 (fun e f g h i j k=>(a e f g h i j k))
 (fun l m n o p q r s _ t u _ _ _=>(lt (IntKind.i64.wrap (u+(1:Int))) (fun v =>
 (ya8 a0 a1 a2 a3 a4 a b c l m n o p q r s t v))))
 d l0 l1 l2 l3 l4 l5 l6 l7 i9 i8 i9 (((List.length l4):Nat):Int) (0:Int))
 (b l0 l1 l2 l3 l4 l5 l6 l7 i8 i9 false))
def ya9 (a0:yaK) (a1:yaN) (a2:yax) (a3:ybt) (a4:yad) (a:Ls→Ls→Ls→Ls→Int→Int→Bool→Prop) (b:Ls→Ls→Ls→Ls→Ls→Ls→Ls→Ls→Int→Int→Bool→Prop):Nat→Ls→Ls→Ls→Ls→Ls→Ls→Ls→Ls→Int→Int→Prop
 | 0,_,_,_,_,_,_,_,_,_,_=>False
 | c+1,l0,l1,l2,l3,l4,l5,l6,l7,i8,i9 =>
 (cbr (decide (i9<i8))
 (∃ d:Nat,ya4 a0 a1 a2 a3 a4
 (fun e f g h i j k=>(a e f g h i j k))
 (fun l m n o p q r s _ t u _ _ _=>(lt (IntKind.i64.wrap (u+(1:Int))) (fun v =>
 (ya9 a0 a1 a2 a3 a4 a b c l m n o p q r s t v))))
 d l0 l1 l2 l3 l4 l5 l6 l7 i9 i8 i9 (((List.length l4):Nat):Int) (0:Int))
 (b l0 l1 l2 l3 l4 l5 l6 l7 i8 i9 false))
def yff (a0:yaK) (a1:yaN) (a2:yax) (a3:ybt) (a4:yad) (p0 p1 p2 p3:Ls) (p4:Int) (K:Int→Int→Bool→Prop):Prop :=
 (cbr (p4 ==(1:Int))
 (jn (fun (b:Ls→Ls→Ls→Ls→Int→Int→Bool→Prop) =>
 (∃ a:Nat,ya5 a0 a1 a2 a3 a4
 (fun i j k l _ _ _ _ _ _ _=>(b i j k l (0:Int) (0:Int) false))
 (fun m n o p q r s=>(b m n o p q r s))
 a p0 p1 p2 p3 p0 p1 p2 p3 (((List.length p0):Nat):Int) (0:Int)))
 (fun t u v w x y c=>(jn (fun (d:Bool→Prop) =>
 (cbr (!c)
 (a1 t u v w (fun z =>
 (d z)))
 (d false)))
 (fun A=>(cbr A
 (K (-1:Int) (-1:Int) true)
 (K x y c))))))
 (cbr (p4 ==(2:Int))
 (jn (fun (e:Ls→Ls→Ls→Ls→Int→Int→Bool→Prop) =>
 (∃ a:Nat,ya6 a0 a1 a2 a3 a4
 (fun B C D E F G H=>(e B C D E F G H))
 (fun I J L M _ _ _ _ _ _ _=>(e I J L M (0:Int) (0:Int) false))
 a p0 p1 p2 p3 p0 p1 p2 p3 (((List.length p0):Nat):Int) (0:Int)))
 (fun _ _ _ _ N O Q=>(K N O Q)))
 (cbr (p4 ==(4:Int))
 (jn (fun (f:Ls→Ls→Ls→Ls→Int→Int→Bool→Prop) =>
 (∃ a:Nat,ya7 a0 a1 a2 a3 a4
 (fun R S T U V W X=>(f R S T U V W X))
 (fun Y Z va vb _ _ _ _ _ _ _=>(f Y Z va vb (0:Int) (0:Int) false))
 a p0 p1 p2 p3 p0 p1 p2 p3 (((List.length p0):Nat):Int) (0:Int)))
 (fun _ _ _ _ vc vd ve=>(K vc vd ve)))
 (cbr (p4 ==(8:Int))
 (jn (fun (g:Ls→Ls→Ls→Ls→Int→Int→Bool→Prop) =>
 (∃ a:Nat,ya8 a0 a1 a2 a3 a4
 (fun vf vg vh vi vj vk vl=>(g vf vg vh vi vj vk vl))
 (fun vm vn vo vp _ _ _ _ _ _ _=>(g vm vn vo vp (0:Int) (0:Int) false))
 a p0 p1 p2 p3 p0 p1 p2 p3 (((List.length p0):Nat):Int) (0:Int)))
 (fun _ _ _ _ vq vr vs=>(K vq vr vs)))
 (jn (fun (h:Ls→Ls→Ls→Ls→Int→Int→Bool→Prop) =>
 (∃ a:Nat,ya9 a0 a1 a2 a3 a4
 (fun vt vu vv vw vx vy vz=>(h vt vu vv vw vx vy vz))
 (fun vA vB vC vD _ _ _ _ _ _ _=>(h vA vB vC vD (0:Int) (0:Int) false))
 a p0 p1 p2 p3 p0 p1 p2 p3 (((List.length p0):Nat):Int) (0:Int)))
 (fun _ _ _ _ vE vF vG=>(K vE vF vG)))))))
def yau:yaA:=yff yak yaf yah yam yai
def pt30:VPt:=vI IntKind.u8
def yoS:Sg:=⟨(lC pt29 (lC pt30 lN)),Int→Int→Bool→Prop,fun K=>(fun r0 r1 r2=>K (.tup [(.int .i64 r0),(.int .i64 r1),(.bool r2)]))⟩
def ylp (Q:Qx):Ls→Ls→Ls→Ls→Ls→Ls→Ls→Ls→Int→Int→Int→Int→Int→Bool→Prop:=(fun l0 l1 l2 l3 l4 l5 l6 l7 i8 i9 i10 i11 i12 b13=>Q (.exit 2) [(0,.v (.eptr [(.agg [(.data l4),(.data l5),(.data l6),(.data l7)])] 0 0)),(1,.v (.fn (.func ybA) [] [(.ptr 0 1 0 0)])),(7,.v (.int .i64 i8)),(13,.v (.int .i64 i9)),(14,.v (.int .i64 i10)),(21,.v (.int .i64 i11)),(22,.v (.int .i64 i12)),(23,.v (.bool b13))] [⟨false,false,1,([(.eptr [(.agg [(.data l0),(.data l1),(.data l2),(.data l3)])] 0 0)]:Ls)⟩])
def yck (Q:Qx):Ls→Ls→Ls→Ls→Int→Int→Bool→Prop:=(fun l0 l1 l2 l3 i4 i5 b6=>Q .ret [(4,.v (.int .i64 i4)),(5,.v (.int .i64 i5)),(6,.v (.bool b6))] [⟨false,false,1,([(.eptr [(.agg [(.data l0),(.data l1),(.data l2),(.data l3)])] 0 0)]:Ls)⟩])
def ylq (Q:Qx):Ls→Ls→Ls→Ls→Ls→Ls→Ls→Ls→Int→Int→Int→Int→Int→Bool→Prop:=(fun l0 l1 l2 l3 l4 l5 l6 l7 i8 i9 i10 i11 i12 b13=>Q (.exit 2) [(0,.v (.eptr [(.agg [(.data l4),(.data l5),(.data l6),(.data l7)])] 0 0)),(1,.v (.fn (.func ybB) [] [(.ptr 0 1 0 0)])),(7,.v (.int .i64 i8)),(13,.v (.int .i64 i9)),(14,.v (.int .i64 i10)),(21,.v (.int .i64 i11)),(22,.v (.int .i64 i12)),(23,.v (.bool b13))] [⟨false,false,1,([(.eptr [(.agg [(.data l0),(.data l1),(.data l2),(.data l3)])] 0 0)]:Ls)⟩])
def ylr (Q:Qx):Ls→Ls→Ls→Ls→Ls→Ls→Ls→Ls→Int→Int→Int→Int→Int→Bool→Prop:=(fun l0 l1 l2 l3 l4 l5 l6 l7 i8 i9 i10 i11 i12 b13=>Q (.exit 2) [(0,.v (.eptr [(.agg [(.data l4),(.data l5),(.data l6),(.data l7)])] 0 0)),(1,.v (.fn (.func ybC) [] [(.ptr 0 1 0 0)])),(7,.v (.int .i64 i8)),(13,.v (.int .i64 i9)),(14,.v (.int .i64 i10)),(21,.v (.int .i64 i11)),(22,.v (.int .i64 i12)),(23,.v (.bool b13))] [⟨false,false,1,([(.eptr [(.agg [(.data l0),(.data l1),(.data l2),(.data l3)])] 0 0)]:Ls)⟩])
def yls (Q:Qx):Ls→Ls→Ls→Ls→Ls→Ls→Ls→Ls→Int→Int→Int→Int→Int→Bool→Prop:=(fun l0 l1 l2 l3 l4 l5 l6 l7 i8 i9 i10 i11 i12 b13=>Q (.exit 2) [(0,.v (.eptr [(.agg [(.data l4),(.data l5),(.data l6),(.data l7)])] 0 0)),(1,.v (.fn (.func ybD) [] [(.ptr 0 1 0 0)])),(7,.v (.int .i64 i8)),(13,.v (.int .i64 i9)),(14,.v (.int .i64 i10)),(21,.v (.int .i64 i11)),(22,.v (.int .i64 i12)),(23,.v (.bool b13))] [⟨false,false,1,([(.eptr [(.agg [(.data l0),(.data l1),(.data l2),(.data l3)])] 0 0)]:Ls)⟩])
def ylt (Q:Qx):Ls→Ls→Ls→Ls→Ls→Ls→Ls→Ls→Int→Int→Int→Int→Int→Bool→Prop:=(fun l0 l1 l2 l3 l4 l5 l6 l7 i8 i9 i10 i11 i12 b13=>Q (.exit 2) [(0,.v (.eptr [(.agg [(.data l4),(.data l5),(.data l6),(.data l7)])] 0 0)),(1,.v (.fn (.func ybE) [] [(.ptr 0 1 0 0)])),(7,.v (.int .i64 i8)),(13,.v (.int .i64 i9)),(14,.v (.int .i64 i10)),(21,.v (.int .i64 i11)),(22,.v (.int .i64 i12)),(23,.v (.bool b13))] [⟨false,false,1,([(.eptr [(.agg [(.data l0),(.data l1),(.data l2),(.data l3)])] 0 0)]:Ls)⟩])
def ylu (Q:Qx):Ls→Ls→Ls→Ls→Ls→Ls→Ls→Ls→Int→Int→Bool→Prop:=(fun l0 l1 l2 l3 l4 l5 l6 l7 i8 i9 b10=>Q (.exit 0) [(0,.v (.eptr [(.agg [(.data l4),(.data l5),(.data l6),(.data l7)])] 0 0)),(1,.v (.fn (.func ybA) [] [(.ptr 0 1 0 0)])),(13,.v (.int .i64 i8)),(14,.v (.int .i64 i9)),(15,.v (.bool b10))] [⟨false,false,1,([(.eptr [(.agg [(.data l0),(.data l1),(.data l2),(.data l3)])] 0 0)]:Ls)⟩])
def ycl (Q:Qx):Ls→Ls→Ls→Ls→Int→Int→Bool→Prop:=(fun l0 l1 l2 l3 i4 i5 b6=>Q .ret [(4,.v (.int .i64 i4)),(5,.v (.int .i64 i5)),(6,.v (.bool b6))] [⟨false,false,1,([(.eptr [(.agg [(.data l0),(.data l1),(.data l2),(.data l3)])] 0 0)]:Ls)⟩])
def ylv (Q:Qx):Ls→Ls→Ls→Ls→Ls→Ls→Ls→Ls→Int→Int→Bool→Prop:=(fun l0 l1 l2 l3 l4 l5 l6 l7 i8 i9 b10=>Q (.exit 0) [(0,.v (.eptr [(.agg [(.data l4),(.data l5),(.data l6),(.data l7)])] 0 0)),(1,.v (.fn (.func ybB) [] [(.ptr 0 1 0 0)])),(13,.v (.int .i64 i8)),(14,.v (.int .i64 i9)),(15,.v (.bool b10))] [⟨false,false,1,([(.eptr [(.agg [(.data l0),(.data l1),(.data l2),(.data l3)])] 0 0)]:Ls)⟩])
def ylw (Q:Qx):Ls→Ls→Ls→Ls→Ls→Ls→Ls→Ls→Int→Int→Bool→Prop:=(fun l0 l1 l2 l3 l4 l5 l6 l7 i8 i9 b10=>Q (.exit 0) [(0,.v (.eptr [(.agg [(.data l4),(.data l5),(.data l6),(.data l7)])] 0 0)),(1,.v (.fn (.func ybC) [] [(.ptr 0 1 0 0)])),(13,.v (.int .i64 i8)),(14,.v (.int .i64 i9)),(15,.v (.bool b10))] [⟨false,false,1,([(.eptr [(.agg [(.data l0),(.data l1),(.data l2),(.data l3)])] 0 0)]:Ls)⟩])
def ylx (Q:Qx):Ls→Ls→Ls→Ls→Ls→Ls→Ls→Ls→Int→Int→Bool→Prop:=(fun l0 l1 l2 l3 l4 l5 l6 l7 i8 i9 b10=>Q (.exit 0) [(0,.v (.eptr [(.agg [(.data l4),(.data l5),(.data l6),(.data l7)])] 0 0)),(1,.v (.fn (.func ybD) [] [(.ptr 0 1 0 0)])),(13,.v (.int .i64 i8)),(14,.v (.int .i64 i9)),(15,.v (.bool b10))] [⟨false,false,1,([(.eptr [(.agg [(.data l0),(.data l1),(.data l2),(.data l3)])] 0 0)]:Ls)⟩])
def yly (Q:Qx):Ls→Ls→Ls→Ls→Ls→Ls→Ls→Ls→Int→Int→Bool→Prop:=(fun l0 l1 l2 l3 l4 l5 l6 l7 i8 i9 b10=>Q (.exit 0) [(0,.v (.eptr [(.agg [(.data l4),(.data l5),(.data l6),(.data l7)])] 0 0)),(1,.v (.fn (.func ybE) [] [(.ptr 0 1 0 0)])),(13,.v (.int .i64 i8)),(14,.v (.int .i64 i9)),(15,.v (.bool b10))] [⟨false,false,1,([(.eptr [(.agg [(.data l0),(.data l1),(.data l2),(.data l3)])] 0 0)]:Ls)⟩])
def pt31:HPt:=hB false false 1 (rC pt29 rN) hN
def pt32:VPt:=vF ybA lN pt20
def pt33:Pat Frm:=fV 7 pt0 (fV 13 pt0 (fV 14 pt0 (fV 21 pt0 (fV 22 pt0 fN))))
def pt34:VPt:=vF ybB lN pt20
def pt35:VPt:=vF ybC lN pt20
def pt36:VPt:=vF ybD lN pt20
def pt37:VPt:=vF ybE lN pt20
def ygR (a0:yaK) (a1:yaN) (a2:yax) (a3:ybt) (a4:yad) (Q:Qx):List St:=[⟨(pS pt31 (fV 0 pt29 (fV 1 pt32 pt33)) fN),ya0 a0 a1 a2 a3 a4 (ylp Q) (yck Q)⟩,⟨(pS pt31 (fV 0 pt29 (fV 1 pt34 pt33)) fN),ya1 a0 a1 a2 a3 a4 (yck Q) (ylq Q)⟩,⟨(pS pt31 (fV 0 pt29 (fV 1 pt35 pt33)) fN),ya2 a0 a1 a2 a3 a4 (yck Q) (ylr Q)⟩,⟨(pS pt31 (fV 0 pt29 (fV 1 pt36 pt33)) fN),ya3 a0 a1 a2 a3 a4 (yck Q) (yls Q)⟩,⟨(pS pt31 (fV 0 pt29 (fV 1 pt37 pt33)) fN),ya4 a0 a1 a2 a3 a4 (yck Q) (ylt Q)⟩]
def ygS (a0:yaK) (a1:yaN) (a2:yax) (a3:ybt) (a4:yad) (Q:Qx):List St:=[⟨(pS pt31 (fV 0 pt29 (fV 1 pt32 pt21)) fN),ya5 a0 a1 a2 a3 a4 (ylu Q) (ycl Q)⟩,⟨(pS pt31 (fV 0 pt29 (fV 1 pt34 pt21)) fN),ya6 a0 a1 a2 a3 a4 (ycl Q) (ylv Q)⟩,⟨(pS pt31 (fV 0 pt29 (fV 1 pt35 pt21)) fN),ya7 a0 a1 a2 a3 a4 (ycl Q) (ylw Q)⟩,⟨(pS pt31 (fV 0 pt29 (fV 1 pt36 pt21)) fN),ya8 a0 a1 a2 a3 a4 (ycl Q) (ylx Q)⟩,⟨(pS pt31 (fV 0 pt29 (fV 1 pt37 pt21)) fN),ya9 a0 a1 a2 a3 a4 (ycl Q) (yly Q)⟩]
def ydP (a0:yaK) (a1:yaN) (a2:yax) (a3:ybt) (a4:yad):LP:=lpS [(97930200,ygR a0 a1 a2 a3 a4),(97930201,ygS a0 a1 a2 a3 a4)]
def yfg (a0:yaK) (a1:yaN) (a2:yax) (a3:ybt) (a4:yad):SE:=⟨(E ef0),ygj [(ye6,yl6.pw a0),(ycC,ysT.pw a1),(ycA,yAX.pw a2),(yfR,yAG.pw a3),(ybm,ynp.pw a4)],ygk [(ybA,yhb),(ybB,yhc),(ybC,yhd),(ybD,yhe),(ybE,yhf)],ydP a0 a1 a2 a3 a4,fun _=>none⟩
def yhA (a0:yaK) (a1:yaN) (a2:yax) (a3:ybt) (a4:yad):SE:=⟨(E ef0),ygj [(ye6,yl6.pw a0),(ycC,ysT.pw a1),(ycA,yAX.pw a2),(yfR,yAG.pw a3),(ybm,ynp.pw a4)],ygk [(ybY,yqS),(ybA,yhb),(ybB,yhc),(ybC,yhd),(ybD,yhe),(ybE,yhf)],ydP a0 a1 a2 a3 a4,fun _=>none⟩
theorem yhq:SEOk (Uni (E ef0)) (yfg yak yaf yah yam yai):=yao (Sub.uni _) ⟨(ykh ef0 ybG),ygC,(yel ef0 ybG),(yk7 ef0 ybG),(yen ef0 ybG),trivial⟩ ⟨⟨by kernel_rfl,by kernel_rfl,rfl,fun as=>yaJ (by kernel_rfl) as,ybG.num _ (by kernel_rfl),by kernel_rfl,(yaj (by kernel_rfl))⟩,⟨by kernel_rfl,by kernel_rfl,rfl,fun as=>yaJ (by kernel_rfl) as,ybG.num _ (by kernel_rfl),by kernel_rfl,(yaj (by kernel_rfl))⟩,⟨by kernel_rfl,by kernel_rfl,rfl,fun as=>yaJ (by kernel_rfl) as,ybG.num _ (by kernel_rfl),by kernel_rfl,(yaj (by kernel_rfl))⟩,⟨by kernel_rfl,by kernel_rfl,rfl,fun as=>yaJ (by kernel_rfl) as,ybG.num _ (by kernel_rfl),by kernel_rfl,(yaj (by kernel_rfl))⟩,⟨by kernel_rfl,by kernel_rfl,rfl,fun as=>yaJ (by kernel_rfl) as,ybG.num _ (by kernel_rfl),by kernel_rfl,(yaj (by kernel_rfl))⟩,trivial⟩ ybG.ok
theorem ykB (a0 a1 a2 a3 a4):ycc (yfg a0 a1 a2 a3 a4) 10 a yjM false (ygR a0 a1 a2 a3 a4):=fun _=>⟨fun _=>by kernel_rfl,fun _ _=>by kernel_rfl,fun _=>by kernel_rfl,fun _ _=>by kernel_rfl,fun _=>by kernel_rfl,fun _ _=>by kernel_rfl,fun _=>by kernel_rfl,fun _ _=>by kernel_rfl,fun _=>by kernel_rfl,fun _ _=>by kernel_rfl,trivial⟩
theorem yf0:LpT (Uni (E ef0)) (ydP yak yaf yah yam yai) [] 97930200 (.loop 97930200 yjM):=fun _ _ _=>yo7.st (Sub.uni _) (yaI (yhq) 10) (YOk.no _ _) (yaj (by kernel_rfl)) (ykB _ _ _ _ _ _)
theorem ykC (a0 a1 a2 a3 a4):ycc (yfg a0 a1 a2 a3 a4) 10 a ym4 false (ygS a0 a1 a2 a3 a4):=fun _=>⟨fun _=>by kernel_rfl,fun _ _=>by kernel_rfl,fun _=>by kernel_rfl,fun _ _=>by kernel_rfl,fun _=>by kernel_rfl,fun _ _=>by kernel_rfl,fun _=>by kernel_rfl,fun _ _=>by kernel_rfl,fun _=>by kernel_rfl,fun _ _=>by kernel_rfl,trivial⟩
theorem ykD:LpT (Uni (E ef0)) (ydP yak yaf yah yam yai) [] 97930201 (.loop 97930201 ym4):=fun _ _ _=>yo7.st (Sub.uni _) (yaI (yhq) 10) (YOk.no _ _) (ybb (l:=[(97930200,.loop 97930200 yjM)]) ⟨yf0,trivial⟩ (by kernel_rfl)) (ykC _ _ _ _ _ _)
theorem ynV:SEOk (Uni (E ef0)) (yhA yak yaf yah yam yai):=yao (Sub.uni _) ⟨(ykh ef0 ybG),ygC,(yel ef0 ybG),(yk7 ef0 ybG),(yen ef0 ybG),trivial⟩ ⟨⟨by kernel_rfl,by kernel_rfl,rfl,fun as=>yaJ (by kernel_rfl) as,ybG.num _ (by kernel_rfl),by kernel_rfl,(ybb (l:=[(97930200,.loop 97930200 yjM),(97930201,.loop 97930201 ym4)]) ⟨yf0,ykD,trivial⟩ (by kernel_rfl))⟩,⟨by kernel_rfl,by kernel_rfl,rfl,fun as=>yaJ (by kernel_rfl) as,ybG.num _ (by kernel_rfl),by kernel_rfl,(yaj (by kernel_rfl))⟩,⟨by kernel_rfl,by kernel_rfl,rfl,fun as=>yaJ (by kernel_rfl) as,ybG.num _ (by kernel_rfl),by kernel_rfl,(yaj (by kernel_rfl))⟩,⟨by kernel_rfl,by kernel_rfl,rfl,fun as=>yaJ (by kernel_rfl) as,ybG.num _ (by kernel_rfl),by kernel_rfl,(yaj (by kernel_rfl))⟩,⟨by kernel_rfl,by kernel_rfl,rfl,fun as=>yaJ (by kernel_rfl) as,ybG.num _ (by kernel_rfl),by kernel_rfl,(yaj (by kernel_rfl))⟩,⟨by kernel_rfl,by kernel_rfl,rfl,fun as=>yaJ (by kernel_rfl) as,ybG.num _ (by kernel_rfl),by kernel_rfl,(yaj (by kernel_rfl))⟩,trivial⟩ ybG.ok
theorem yoT (a0 a1 a2 a3 a4):EqW (yhA a0 a1 a2 a3 a4) 11 ypf yoS (yff a0 a1 a2 a3 a4):=fun _ _=>by kernel_rfl
theorem ycO:OkF (E ef0) (yoS.pw yau) ybf:=okU ybG (yoT _ _ _ _ _) (ynV) yop.flat (yaj (by kernel_rfl))
abbrev ynW:Type:=Ls→Ls→(Int→Ls→Int→Prop)→Prop
def ydH (a0:yaE) (a1:yax) (a2:yal) (a3:yas) (a4:yaA) (f:Ls→Ls→Ls→Ls→Int→Int→Bool→Prop) (g:Ls→Ls→Ls→Ls→Int→Prop):Nat→Ls→Ls→Ls→Ls→Int→Int→Prop
 | 0,_,_,_,_,_,_=>False
 | i+1,l0,l1,l2,l3,i6,i7 =>
 (cbr (decide (i7<i6))
 (asr (decide ((0:Int)≤i7))
 (asr (decide (i7<(((List.length l1):Nat):Int)))
 (lt (List.getD l1 (i7.toNat) .nils) (fun c =>
 (asr (conf zK c)
 (a1 (yaa (yac c 0)) (yap (yac c 1)) (yap (yac c 2)) (fun j _ =>
 (asr (decide ((0:Int)≤i7))
 (asr (decide (i7<(((List.length l3):Nat):Int)))
 (lt (List.getD l3 (i7.toNat) .nils) (fun d =>
 (asr (conf zD d)
 (asr (decide ((0:Int)≤i7))
 (asr (decide (i7<(((List.length (yap d)):Nat):Int)))
 (lt (List.getD (yap d) (i7.toNat) .nils) (fun e =>
 (asr (conf z2 e)
 (a2 j (fun k l =>
 (a3 (yaa (yac e 0)) (yaa (yac e 1)) k l (fun a b h =>
 (cbr (h !=(0:Int))
 (g l0 l1 l2 l3 h)
 (asr (decide ((List.length l0)=(List.length l0)))
 (asr (decide ((0+(List.length l0))≤(List.length l0)))
 (asr (!(decide (((0+(List.length l0))+1)≤(List.length l0))))
 (asr (decide ((List.length l0)=(List.length l0)))
 (asr (decide ((((List.length l0)+1)+64)*(16+1)≤room))
 (lt (IntKind.i64.wrap (i7+(1:Int))) (fun m =>
 (asr (decide ((List.length (l0++([(.agg [(.int .i64 a),(.int .i64 b)])]:Ls)))=List.length (l0++([(.agg [(.int .i64 a),(.int .i64 b)])]:Ls)))&&decide ((List.length (l0++([(.agg [(.int .i64 a),(.int .i64 b)])]:Ls)))=List.length (l0++([(.agg [(.int .i64 a),(.int .i64 b)])]:Ls))))
 (ydH a0 a1 a2 a3 a4 f g i (l0++([(.agg [(.int .i64 a),(.int .i64 b)])]:Ls)) l1 l2 l3 i6 m)))))))))))))))))))))))))))))))
 (f l0 l1 l2 l3 i6 i7 false))
def yfY (a0:yaE) (a1:yax) (a2:yal) (a3:yas) (a4:yaA) (g:Ls→Ls→Ls→Int→Int→Bool→Prop) (h:Ls→Ls→Ls→Int→Prop) (i:Ls→Ls→Ls→Ls→Int→Int→Bool→Prop) (j:Ls→Ls→Ls→Ls→Int→Prop):Nat→Ls→Ls→Ls→Int→Int→Prop
 | 0,_,_,_,_,_=>False
 | k+1,l0,l1,l2,i3,i4 =>
 (cbr (decide (i4<i3))
 (asr (decide ((0:Int)≤i4))
 (asr (decide (i4<(((List.length l0):Nat):Int)))
 (lt (List.getD l0 (i4.toNat) .nils) (fun a =>
 (asr (conf zK a)
 (a1 (yaa (yac a 0)) (yap (yac a 1)) (yap (yac a 2)) (fun l _ =>
 (asr (decide ((0:Int)≤i4))
 (asr (decide (i4<(((List.length l2):Nat):Int)))
 (lt (List.getD l2 (i4.toNat) .nils) (fun b =>
 (asr (conf zD b)
 (asr (decide ((0:Int)≤i4))
 (asr (decide (i4<(((List.length (yap b)):Nat):Int)))
 (lt (List.getD (yap b) (i4.toNat) .nils) (fun c =>
 (asr (conf z2 c)
 (a2 l (fun m n =>
 (a3 (yaa (yac c 0)) (yaa (yac c 1)) m n (fun d e f =>
 (cbr (f !=(0:Int))
 (h l0 l1 l2 f)
 (lt (IntKind.i64.wrap (i4+(1:Int))) (fun o =>
 (asr (decide (1=List.length ([(.agg [(.int .i64 d),(.int .i64 e)])]:Ls))&&decide (1=List.length ([(.agg [(.int .i64 d),(.int .i64 e)])]:Ls)))
 (ydH a0 a1 a2 a3 a4 i j k ([(.agg [(.int .i64 d),(.int .i64 e)])]:Ls) l0 l1 l2 i3 o))))))))))))))))))))))))))
 (g l0 l1 l2 i3 i4 false))
def yhV (a0:yaE) (a1:yax) (a2:yal) (a3:yas) (a4:yaA) (a:Ls→Ls→Ls→Int→Int→Ls→Int→Bool→Prop):Nat→Ls→Ls→Ls→Int→Int→Ls→Int→Prop
 | 0,_,_,_,_,_,_,_=>False
 | c+1,l0,l1,l2,i3,i4,l5,i6 =>
 (cbr (decide (i6<(5:Int)))
 (jn (fun (b:Int→Prop) =>
 (asr (!(decide (i6<(0:Int))))
 (lt (IntKind.u8.wrap ((1:Int)*2 ^ (min i6.toNat IntKind.u8.bits))) (fun d =>
 (a4 l0 l1 l2 ([]:Ls) d (fun _ _ e =>
 (cbr (!e)
 (asr (!(decide (i6<(0:Int))))
 (lt (IntKind.u8.wrap ((1:Int)*2 ^ (min i6.toNat IntKind.u8.bits))) (fun f =>
 (lt (IntKind.u8.wrap (BitVec.ofInt IntKind.u8.bits i4|||BitVec.ofInt IntKind.u8.bits f).toNat) (fun g =>
 (b g))))))
 (b i4))))))))
 (fun h=>(lt (IntKind.i64.wrap (i6+(1:Int))) (fun i =>
 (yhV a0 a1 a2 a3 a4 a c l0 l1 l2 i3 h l5 i)))))
 (a l0 l1 l2 i3 i4 l5 i6 false))
def ycV (a0:yaE) (a1:yax) (a2:yal) (a3:yas) (a4:yaA) (a:Ls→Ls→Ls→Ls→Int→Int→Ls→Int→Bool→Prop):Nat→Ls→Ls→Ls→Ls→Int→Int→Ls→Int→Prop
 | 0,_,_,_,_,_,_,_,_=>False
 | c+1,l0,l1,l2,l3,i6,i7,l8,i9 =>
 (cbr (decide (i9<(5:Int)))
 (jn (fun (b:Int→Prop) =>
 (asr (!(decide (i9<(0:Int))))
 (lt (IntKind.u8.wrap ((1:Int)*2 ^ (min i9.toNat IntKind.u8.bits))) (fun d =>
 (asr (decide ((List.length l0)=(List.length l0)))
 (asr (decide ((0+(List.length l0))≤(List.length l0)))
 (a4 l1 l2 l3 (List.take (List.length l0) l0) d (fun _ _ e =>
 (cbr (!e)
 (asr (!(decide (i9<(0:Int))))
 (lt (IntKind.u8.wrap ((1:Int)*2 ^ (min i9.toNat IntKind.u8.bits))) (fun f =>
 (lt (IntKind.u8.wrap (BitVec.ofInt IntKind.u8.bits i7|||BitVec.ofInt IntKind.u8.bits f).toNat) (fun g =>
 (b g))))))
 (b i7))))))))))
 (fun h=>(lt (IntKind.i64.wrap (i9+(1:Int))) (fun i =>
 (asr (decide ((List.length l0)=List.length l0)&&decide ((List.length l0)=List.length l0))
 (ycV a0 a1 a2 a3 a4 a c l0 l1 l2 l3 i6 h l8 i))))))
 (a l0 l1 l2 l3 i6 i7 l8 i9 false))
def ylz (a0:yaE) (a1:yax) (a2:yal) (a3:yas) (a4:yaA) (p0 p1:Ls) (K:Int→Ls→Int→Prop):Prop :=
 (a0 p0 p1 (fun j b =>
 (cbr (b !=(0:Int))
 (cbr (b ==(0:Int))
 False
 (cbr (b !=(0:Int))
 (K (0:Int) ([]:Ls) b)
 False))
 (jn (fun (d:Ls→Ls→Ls→Int→Prop) =>
 (jn (fun (e:Ls→Ls→Ls→Ls→Int→Prop) =>
 (∃ k:Nat,yfY a0 a1 a2 a3 a4
 (fun l m n _ _ _=>(d l m n (0:Int)))
 (fun o p q r=>(d o p q r))
 (fun s t u v _ _ _=>(e s t u v (0:Int)))
 (fun w x y z A=>(e w x y z A))
 k p0 p1 j (((List.length p0):Nat):Int) (0:Int)))
 (fun a B C f g=>(cbr (g !=(0:Int))
 (K (0:Int) ([]:Ls) g)
 (asr (decide ((List.length a)=List.length a)&&decide ((List.length a)=List.length a))
 (∃ c:Nat,ycV a0 a1 a2 a3 a4
 (fun _ _ _ _ _ D E _ _=>(K D E (0:Int)))
 c a B C f (0:Int) (0:Int) f (0:Int)))))))
 (fun F G h i=>(cbr (i !=(0:Int))
 (K (0:Int) ([]:Ls) i)
 (∃ c:Nat,yhV a0 a1 a2 a3 a4
 (fun _ _ _ _ H I _ _=>(K H I (0:Int)))
 c F G h (0:Int) (0:Int) h (0:Int))))))))
def yeT:ynW:=ylz yat yah yaw ybd yau
def yBi:Sg:=⟨pt26,Int→Ls→Int→Prop,fun K=>(fun r0 r1 r2=>K (.tup [(.agg [(.int .u8 r0),(.data r1)]),(.int .i64 r2)]))⟩
def yvZ (Q:Qx):Ls→Ls→Ls→Int→Int→Bool→Prop:=(fun l0 l1 l2 i3 i4 b5=>Q (.exit 0) [(0,.v (.ptr 0 1 0 0)),(12,.v (.int .i64 i3)),(13,.v (.int .i64 i4)),(14,.v (.bool b5))] [⟨false,false,4,([(.agg [(.data l0),(.data l1),(.data l2),.nils])]:Ls)⟩])
def yv0 (Q:Qx):Ls→Ls→Ls→Int→Prop:=(fun l0 l1 l2 i3=>Q .ret [(2,.v (.int .i64 i3))] [⟨false,false,4,([(.agg [(.data l0),(.data l1),(.data l2),.nils])]:Ls)⟩])
def ymh (Q:Qx):Ls→Ls→Ls→Ls→Int→Int→Bool→Prop:=(fun l0 l1 l2 l3 i6 i7 b8=>Q (.exit 0) [(0,.v (.ptr 0 1 0 0)),(12,.v (.int .i64 i6)),(13,.v (.int .i64 i7)),(14,.v (.bool b8))] [⟨false,false,4,([(.agg [(.data l1),(.data l2),(.data l3),(.own 1 0 (List.length l0) (List.length l0) none)])]:Ls)⟩,⟨false,true,2,l0⟩])
def ymi (Q:Qx):Ls→Ls→Ls→Ls→Int→Prop:=(fun l0 l1 l2 l3 i6=>Q .ret [(2,.v (.int .i64 i6))] [⟨false,false,4,([(.agg [(.data l1),(.data l2),(.data l3),(.own 1 0 (List.length l0) (List.length l0) none)])]:Ls)⟩,⟨false,true,2,l0⟩])
def yv1 (Q:Qx):Ls→Ls→Ls→Int→Int→Ls→Int→Bool→Prop:=(fun l0 l1 l2 i3 i4 l5 i6 b7=>Q (.exit 0) [(4,.box (.agg [(.int .u8 i3),.nils])),(6,.v (.ptr 0 1 0 0)),(8,.box (.agg [(.int .u8 i4),(.data l5)])),(32,.v (.int .i64 i6)),(33,.v (.bool b7))] [⟨false,false,4,([(.agg [(.data l0),(.data l1),(.data l2),.nils])]:Ls)⟩])
def yv2 (Q:Qx):Ls→Ls→Ls→Ls→Int→Int→Ls→Int→Bool→Prop:=(fun l0 l1 l2 l3 i6 i7 l8 i9 b10=>Q (.exit 0) [(4,.box (.agg [(.int .u8 i6),.nils])),(6,.v (.ptr 0 1 0 0)),(8,.box (.agg [(.int .u8 i7),(.data l8)])),(32,.v (.int .i64 i9)),(33,.v (.bool b10))] [⟨false,false,4,([(.agg [(.data l1),(.data l2),(.data l3),(.own 1 0 (List.length l0) (List.length l0) none)])]:Ls)⟩,⟨false,true,2,l0⟩])
def pt38:HPt:=hB false false 4 (rC (vA (lC vD (lC vD (lC vD (lC vNs lN))))) rN) hN
def pt39:Pat Frm:=fV 0 pt19 (fV 12 pt0 (fV 13 pt0 fN))
def pt40:HPt:=hB false false 4 (rC (vA (lC vD (lC vD (lC vD (lC (vW 1 (nK 0) (nT 1) (nT 1)) lN))))) rN) (hB false true 2 rA hN)
def yoA (a0:yaE) (a1:yax) (a2:yal) (a3:yas) (a4:yaA) (Q:Qx):List St:=[⟨(pS pt38 pt39 fN),yfY a0 a1 a2 a3 a4 (yvZ Q) (yv0 Q) (ymh Q) (ymi Q)⟩,⟨(pS pt40 pt39 fN),fun n l1 l2 l3 l0 i6 i7=>ydH a0 a1 a2 a3 a4 (ymh Q) (ymi Q) n l0 l1 l2 l3 i6 i7⟩]
def pt41:Pat Frm:=fX 4 (vA (lC pt30 (lC vNs lN))) (fV 6 pt19 (fX 8 (vA (lC pt30 pt9)) (fV 32 pt0 fN)))
def yoB (a0:yaE) (a1:yax) (a2:yal) (a3:yas) (a4:yaA) (Q:Qx):List St:=[⟨(pS pt38 pt41 fN),yhV a0 a1 a2 a3 a4 (yv1 Q)⟩,⟨(pS pt40 pt41 fN),fun n l1 l2 l3 l0 i6 i7 l8 i9=>ycV a0 a1 a2 a3 a4 (yv2 Q) n l0 l1 l2 l3 i6 i7 l8 i9⟩]
def yh6 (a0:yaE) (a1:yax) (a2:yal) (a3:yas) (a4:yaA):LP:=lpS [(20643600,yoA a0 a1 a2 a3 a4),(65264200,yoB a0 a1 a2 a3 a4)]
def ylA (a0:yaE) (a1:yax) (a2:yal) (a3:yas) (a4:yaA):SE:=⟨(E ef0),ygj [(yaR,yLy.pw a0),(ycA,yAX.pw a1),(ybz,yla.pw a2),(yeJ,yjb.pw a3),(ybf,yoS.pw a4)],ygk [(ycU,yfT)],yh6 a0 a1 a2 a3 a4,fun _=>none⟩
def yrU (a0:yaE) (a1:yax) (a2:yal) (a3:yas) (a4:yaA):SE:=⟨(E ef0),ygj [(yaR,yLy.pw a0),(ycA,yAX.pw a1),(ybz,yla.pw a2),(yeJ,yjb.pw a3),(ybf,yoS.pw a4)],ygk [(ycU,yfT),(ydK,yjL)],yh6 a0 a1 a2 a3 a4,fun _=>none⟩
theorem yp8:SEOk (Uni (E ef0)) (ylA yat yah yaw ybd yau):=yao (Sub.uni _) ⟨(ydN ef0 ybG),(yel ef0 ybG),(ydM ef0 ybG),(yhi ef0 ybG),ycO,trivial⟩ ⟨⟨by kernel_rfl,by kernel_rfl,rfl,fun as=>yaJ (by kernel_rfl) as,ybG.num _ (by kernel_rfl),by kernel_rfl,(yaj (by kernel_rfl))⟩,trivial⟩ ybG.ok
theorem yur (a0 a1 a2 a3 a4):ycc (ylA a0 a1 a2 a3 a4) 10 a ygx false (yoA a0 a1 a2 a3 a4):=fun _=>⟨fun _=>by kernel_rfl,fun _ _=>by kernel_rfl,fun _=>by kernel_rfl,fun _ _=>by kernel_rfl,trivial⟩
theorem yus:LpT (Uni (E ef0)) (yh6 yat yah yaw ybd yau) [] 20643600 (.loop 20643600 ygx):=fun _ _ _=>yo7.st (Sub.uni _) (yaI (yp8) 10) (YOk.no _ _) (yaj (by kernel_rfl)) (yur _ _ _ _ _ _)
theorem yut (a0 a1 a2 a3 a4):ycc (ylA a0 a1 a2 a3 a4) 10 a ym8 false (yoB a0 a1 a2 a3 a4):=fun _=>⟨fun _=>by kernel_rfl,fun _ _=>by kernel_rfl,fun _=>by kernel_rfl,fun _ _=>by kernel_rfl,trivial⟩
theorem yuu:LpT (Uni (E ef0)) (yh6 yat yah yaw ybd yau) [] 65264200 (.loop 65264200 ym8):=fun _ _ _=>yo7.st (Sub.uni _) (yaI (yp8) 10) (YOk.no _ _) (yaj (by kernel_rfl)) (yut _ _ _ _ _ _)
theorem yzt:SEOk (Uni (E ef0)) (yrU yat yah yaw ybd yau):=yao (Sub.uni _) ⟨(ydN ef0 ybG),(yel ef0 ybG),(ydM ef0 ybG),(yhi ef0 ybG),ycO,trivial⟩ ⟨⟨by kernel_rfl,by kernel_rfl,rfl,fun as=>yaJ (by kernel_rfl) as,ybG.num _ (by kernel_rfl),by kernel_rfl,(yaj (by kernel_rfl))⟩,⟨by kernel_rfl,by kernel_rfl,rfl,fun as=>yaJ (by kernel_rfl) as,ybG.num _ (by kernel_rfl),by kernel_rfl,(ybb (l:=[(20643600,.loop 20643600 ygx)]) ⟨yus,trivial⟩ (by kernel_rfl))⟩,trivial⟩ ybG.ok
theorem yBj (a0 a1 a2 a3 a4):EqW (yrU a0 a1 a2 a3 a4) 11 yDp yBi (ylz a0 a1 a2 a3 a4):=fun _ _=>by kernel_rfl
theorem yrV:OkF (E ef0) (yBi.pw yeT) yfS:=okU ybG (yBj _ _ _ _ _) (yzt) yop.flat (ybb (l:=[(65264200,.loop 65264200 ym8)]) ⟨yuu,trivial⟩ (by kernel_rfl))
abbrev ygr:Type:=Ls→Ls→Int→(Int→Int→Bool→Int→Prop)→Prop
def ydb (a0:yay) (a1:yaE) (a2:yax) (a3:yal) (a4:yas) (a5:yaA) (x2:Ls→Ls→Ls→Ls→Int→Int→Bool→Prop) (x3:Ls→Ls→Ls→Ls→Int→Prop):Nat→Ls→Ls→Ls→Ls→Int→Int→Prop
 | 0,_,_,_,_,_,_=>False
 | n+1,l0,l1,l2,l3,i6,i7 =>
 (cbr (decide (i7<i6))
 (asr (decide ((0:Int)≤i7))
 (asr (decide (i7<(((List.length l1):Nat):Int)))
 (lt (List.getD l1 (i7.toNat) .nils) (fun c =>
 (asr (conf zK c)
 (a2 (yaa (yac c 0)) (yap (yac c 1)) (yap (yac c 2)) (fun g _ =>
 (asr (decide ((0:Int)≤i7))
 (asr (decide (i7<(((List.length l3):Nat):Int)))
 (lt (List.getD l3 (i7.toNat) .nils) (fun d =>
 (asr (conf zD d)
 (asr (decide ((0:Int)≤i7))
 (asr (decide (i7<(((List.length (yap d)):Nat):Int)))
 (lt (List.getD (yap d) (i7.toNat) .nils) (fun e =>
 (asr (conf z2 e)
 (a3 g (fun h i =>
 (a4 (yaa (yac e 0)) (yaa (yac e 1)) h i (fun a b f =>
 (cbr (f !=(0:Int))
 (x3 l0 l1 l2 l3 f)
 (asr (decide ((List.length l0)=(List.length l0)))
 (asr (decide ((0+(List.length l0))≤(List.length l0)))
 (asr (!(decide (((0+(List.length l0))+1)≤(List.length l0))))
 (asr (decide ((List.length l0)=(List.length l0)))
 (asr (decide ((((List.length l0)+1)+64)*(16+1)≤room))
 (lt (IntKind.i64.wrap (i7+(1:Int))) (fun j =>
 (asr (decide ((List.length (l0++([(.agg [(.int .i64 a),(.int .i64 b)])]:Ls)))=List.length (l0++([(.agg [(.int .i64 a),(.int .i64 b)])]:Ls)))&&decide ((List.length (l0++([(.agg [(.int .i64 a),(.int .i64 b)])]:Ls)))=List.length (l0++([(.agg [(.int .i64 a),(.int .i64 b)])]:Ls))))
 (ydb a0 a1 a2 a3 a4 a5 x2 x3 n (l0++([(.agg [(.int .i64 a),(.int .i64 b)])]:Ls)) l1 l2 l3 i6 j)))))))))))))))))))))))))))))))
 (x2 l0 l1 l2 l3 i6 i7 false))
def yfn (a0:yay) (a1:yaE) (a2:yax) (a3:yal) (a4:yas) (a5:yaA) (x0:Ls→Ls→Ls→Int→Int→Bool→Prop) (x1:Ls→Ls→Ls→Int→Prop) (x2:Ls→Ls→Ls→Ls→Int→Int→Bool→Prop) (x3:Ls→Ls→Ls→Ls→Int→Prop):Nat→Ls→Ls→Ls→Int→Int→Prop
 | 0,_,_,_,_,_=>False
 | n+1,l0,l1,l2,i3,i4 =>
 (cbr (decide (i4<i3))
 (asr (decide ((0:Int)≤i4))
 (asr (decide (i4<(((List.length l0):Nat):Int)))
 (lt (List.getD l0 (i4.toNat) .nils) (fun a =>
 (asr (conf zK a)
 (a2 (yaa (yac a 0)) (yap (yac a 1)) (yap (yac a 2)) (fun g _ =>
 (asr (decide ((0:Int)≤i4))
 (asr (decide (i4<(((List.length l2):Nat):Int)))
 (lt (List.getD l2 (i4.toNat) .nils) (fun b =>
 (asr (conf zD b)
 (asr (decide ((0:Int)≤i4))
 (asr (decide (i4<(((List.length (yap b)):Nat):Int)))
 (lt (List.getD (yap b) (i4.toNat) .nils) (fun c =>
 (asr (conf z2 c)
 (a3 g (fun h i =>
 (a4 (yaa (yac c 0)) (yaa (yac c 1)) h i (fun d e f =>
 (cbr (f !=(0:Int))
 (x1 l0 l1 l2 f)
 (lt (IntKind.i64.wrap (i4+(1:Int))) (fun j =>
 (asr (decide (1=List.length ([(.agg [(.int .i64 d),(.int .i64 e)])]:Ls))&&decide (1=List.length ([(.agg [(.int .i64 d),(.int .i64 e)])]:Ls)))
 (ydb a0 a1 a2 a3 a4 a5 x2 x3 n ([(.agg [(.int .i64 d),(.int .i64 e)])]:Ls) l0 l1 l2 i3 j))))))))))))))))))))))))))
 (x0 l0 l1 l2 i3 i4 false))
def yhr (a0:yay) (a1:yaE) (a2:yax) (a3:yal) (a4:yas) (a5:yaA) (p0 p1:Ls) (p2:Int) (K:Int→Int→Bool→Int→Prop):Prop :=
 (a0 p0 p1 (fun d =>
 (cbr (d !=(0:Int))
 (K (0:Int) (0:Int) false d)
 (jn (fun (e:Bool→Prop) =>
 (cbr (p2 ==(8:Int))
 (e true)
 (jn (fun (b:Bool→Prop) =>
 (cbr (p2 ==(1:Int))
 (b true)
 (cbr (p2 ==(2:Int))
 (b true)
 (cbr (p2 ==(4:Int))
 (b true)
 (b (p2 ==(16:Int)))))))
 (fun o=>(cbr o
 (e false)
 (K (0:Int) (0:Int) false (2:Int)))))))
 (fun f=>(a1 p0 p1 (fun g c =>
 (cbr (c !=(0:Int))
 (jn (fun (h:Bool→Prop) =>
 (cbr (c ==(0:Int))
 (h f)
 (h false)))
 (fun p=>(cbr p
 False
 (cbr (c !=(0:Int))
 (K (0:Int) (0:Int) false c)
 False))))
 (jn (fun (i:Ls→Ls→Ls→Int→Prop) =>
 (cbr f
 (jn (fun (j:Ls→Ls→Ls→Int→Prop) =>
 (jn (fun (k:Ls→Ls→Ls→Ls→Int→Prop) =>
 (∃ n:Nat,yfn a0 a1 a2 a3 a4 a5
 (fun q r s _ _ _=>(j q r s (0:Int)))
 (fun t u v w=>(j t u v w))
 (fun x y z A _ _ _=>(k x y z A (0:Int)))
 (fun B C D E F=>(k B C D E F))
 n p0 p1 g (((List.length p0):Nat):Int) (0:Int)))
 (fun a G H I l=>(cbr (l !=(0:Int))
 (K (0:Int) (0:Int) false l)
 (asr (decide ((List.length a)=(List.length a)))
 (asr (decide ((0+(List.length a))≤(List.length a)))
 (a5 G H I (List.take (List.length a) a) p2 (fun J L M =>
 (K J L M (0:Int))))))))))
 (fun N O Q R=>(i N O Q R)))
 (i p0 p1 g (0:Int))))
 (fun S T U m=>(cbr (m !=(0:Int))
 (K (0:Int) (0:Int) false m)
 (a5 S T U ([]:Ls) p2 (fun V W X =>
 (K V W X (0:Int)))))))))))))))
def ybu:ygr:=yhr ybp yat yah yaw ybd yau
def pt42:LPt:=lC vD (lC pt25 (lC pt30 lN))
def yzu:Sg:=⟨pt42,Int→Int→Bool→Int→Prop,fun K=>(fun r0 r1 r2 r3=>K (.tup [(.int .i64 r0),(.int .i64 r1),(.bool r2),(.int .i64 r3)]))⟩
def yuv (Q:Qx):Ls→Ls→Ls→Int→Int→Bool→Prop:=(fun l0 l1 l2 i3 i4 b5=>Q (.exit 0) [(0,.v (.ptr 0 1 0 0)),(12,.v (.int .i64 i3)),(13,.v (.int .i64 i4)),(14,.v (.bool b5))] [⟨false,false,4,([(.agg [(.data l0),(.data l1),(.data l2),.nils])]:Ls)⟩])
def yuw (Q:Qx):Ls→Ls→Ls→Int→Prop:=(fun l0 l1 l2 i3=>Q .ret [(2,.v (.int .i64 i3))] [⟨false,false,4,([(.agg [(.data l0),(.data l1),(.data l2),.nils])]:Ls)⟩])
def ykT (Q:Qx):Ls→Ls→Ls→Ls→Int→Int→Bool→Prop:=(fun l0 l1 l2 l3 i6 i7 b8=>Q (.exit 0) [(0,.v (.ptr 0 1 0 0)),(12,.v (.int .i64 i6)),(13,.v (.int .i64 i7)),(14,.v (.bool b8))] [⟨false,false,4,([(.agg [(.data l1),(.data l2),(.data l3),(.own 1 0 (List.length l0) (List.length l0) none)])]:Ls)⟩,⟨false,true,2,l0⟩])
def ykU (Q:Qx):Ls→Ls→Ls→Ls→Int→Prop:=(fun l0 l1 l2 l3 i6=>Q .ret [(2,.v (.int .i64 i6))] [⟨false,false,4,([(.agg [(.data l1),(.data l2),(.data l3),(.own 1 0 (List.length l0) (List.length l0) none)])]:Ls)⟩,⟨false,true,2,l0⟩])
def ymj (a0:yay) (a1:yaE) (a2:yax) (a3:yal) (a4:yas) (a5:yaA) (Q:Qx):List St:=[⟨(pS pt38 pt39 fN),yfn a0 a1 a2 a3 a4 a5 (yuv Q) (yuw Q) (ykT Q) (ykU Q)⟩,⟨(pS pt40 pt39 fN),fun n l1 l2 l3 l0 i6 i7=>ydb a0 a1 a2 a3 a4 a5 (ykT Q) (ykU Q) n l0 l1 l2 l3 i6 i7⟩]
def ykj (a0:yay) (a1:yaE) (a2:yax) (a3:yal) (a4:yas) (a5:yaA):LP:=lpS [(20643600,ymj a0 a1 a2 a3 a4 a5)]
def yp9 (a0:yay) (a1:yaE) (a2:yax) (a3:yal) (a4:yas) (a5:yaA):SE:=⟨(E ef0),ygj [(ycj,yue.pw a0),(yaR,yLy.pw a1),(ycA,yAX.pw a2),(ybz,yla.pw a3),(yeJ,yjb.pw a4),(ybf,yoS.pw a5)],ygk [(ycU,yfT)],ykj a0 a1 a2 a3 a4 a5,fun _=>none⟩
def yqa (a0:yay) (a1:yaE) (a2:yax) (a3:yal) (a4:yas) (a5:yaA):SE:=⟨(E ef0),ygj [(ycj,yue.pw a0),(yaR,yLy.pw a1),(ycA,yAX.pw a2),(ybz,yla.pw a3),(yeJ,yjb.pw a4),(ybf,yoS.pw a5)],ygk [(ycU,yfT),(ydK,yjL)],ykj a0 a1 a2 a3 a4 a5,fun _=>none⟩
theorem yxt:SEOk (Uni (E ef0)) (yp9 ybp yat yah yaw ybd yau):=yao (Sub.uni _) ⟨(yhp ef0 ybG),(ydN ef0 ybG),(yel ef0 ybG),(ydM ef0 ybG),(yhi ef0 ybG),ycO,trivial⟩ ⟨⟨by kernel_rfl,by kernel_rfl,rfl,fun as=>yaJ (by kernel_rfl) as,ybG.num _ (by kernel_rfl),by kernel_rfl,(yaj (by kernel_rfl))⟩,trivial⟩ ybG.ok
theorem ysV (a0 a1 a2 a3 a4 a5):ycc (yp9 a0 a1 a2 a3 a4 a5) 10 a ygx false (ymj a0 a1 a2 a3 a4 a5):=fun _=>⟨fun _=>by kernel_rfl,fun _ _=>by kernel_rfl,fun _=>by kernel_rfl,fun _ _=>by kernel_rfl,trivial⟩
theorem ysW:LpT (Uni (E ef0)) (ykj ybp yat yah yaw ybd yau) [] 20643600 (.loop 20643600 ygx):=fun _ _ _=>yo7.st (Sub.uni _) (yaI (yxt) 10) (YOk.no _ _) (yaj (by kernel_rfl)) (ysV _ _ _ _ _ _ _)
theorem yxu:SEOk (Uni (E ef0)) (yqa ybp yat yah yaw ybd yau):=yao (Sub.uni _) ⟨(yhp ef0 ybG),(ydN ef0 ybG),(yel ef0 ybG),(ydM ef0 ybG),(yhi ef0 ybG),ycO,trivial⟩ ⟨⟨by kernel_rfl,by kernel_rfl,rfl,fun as=>yaJ (by kernel_rfl) as,ybG.num _ (by kernel_rfl),by kernel_rfl,(yaj (by kernel_rfl))⟩,⟨by kernel_rfl,by kernel_rfl,rfl,fun as=>yaJ (by kernel_rfl) as,ybG.num _ (by kernel_rfl),by kernel_rfl,(ybb (l:=[(20643600,.loop 20643600 ygx)]) ⟨ysW,trivial⟩ (by kernel_rfl))⟩,trivial⟩ ybG.ok
theorem yzv (a0 a1 a2 a3 a4 a5):EqW (yqa a0 a1 a2 a3 a4 a5) 11 yAx yzu (yhr a0 a1 a2 a3 a4 a5):=fun _ _=>by kernel_rfl
theorem ykk:OkF (E ef0) (yzu.pw ybu) yej:=okU ybG (yzv _ _ _ _ _ _) (yxu) yop.flat (yaj (by kernel_rfl))
abbrev ycr:Type:=Ls→Ls→Int→(Int→Int→Int→Prop)→Prop
def yhW (a0:ygr) (p0 p1:Ls) (p2:Int) (K:Int→Int→Int→Prop):Prop :=
 (a0 p0 p1 p2 (fun c d e a =>
 (jn (fun (b:Bool→Prop) =>
 (cbr (a ==(0:Int))
 (b (!e))
 (b false)))
 (fun f=>(cbr f
 (K (0:Int) (0:Int) (6:Int))
 (K c d a))))))
def ybs:ycr:=yhW ybu
def yv3:Sg:=⟨pt42,Int→Int→Int→Prop,fun K=>(fun r0 r1 r2=>K (.tup [(.int .i64 r0),(.int .i64 r1),(.int .i64 r2)]))⟩
def yv4 (a0:ygr):SE:=sE (E ef0) [(yej,yzu.pw a0)] lp0
theorem yv5 (a0):EqW (yv4 a0) 11 ywU yv3 (yhW a0):=fun _ _=>by kernel_rfl
theorem ymk:OkF (E ef0) (yv3.pw ybs) ycq:=okU ybG (yv5 _) (yao (Sub.uni _) ⟨ykk,trivial⟩ trivial ybG.ok) yop.flat (yaj (by kernel_rfl))
abbrev ylB:Type:=Ls→Ls→Int→(Bool→Int→Prop)→Prop
def ykl (a0:ygr) (p0 p1:Ls) (p2:Int) (K:Bool→Int→Prop):Prop :=
 (a0 p0 p1 p2 (fun _ _ c a =>
 (jn (fun (b:Bool→Prop) =>
 (cbr (!c)
 (b (a ==(0:Int)))
 (b false)))
 (fun d=>(K d a)))))
def yh7:ylB:=ykl ybu
def yzw:Sg:=⟨pt42,Bool→Int→Prop,fun K=>(fun r0 r1=>K (.tup [(.bool r0),(.int .i64 r1)]))⟩
def yzx (a0:ygr):SE:=sE (E ef0) [(yej,yzu.pw a0)] lp0
theorem yzy (a0):EqW (yzx a0) 11 yAy yzw (ykl a0):=fun _ _=>by kernel_rfl
theorem yzz:OkF (E ef0) (yzw.pw yh7) ygm:=okU ybG (yzy _) (yao (Sub.uni _) ⟨ykk,trivial⟩ trivial ybG.ok) yop.flat (yaj (by kernel_rfl))
end Go.Pf.Vc
namespace Go.Pf.Vc
open Go Go.Pf
set_option linter.unusedVariables false
theorem yxv (p0:Ls) (p1:Ls) (r0:Int) (h:∀ K:Int→Prop,K r0→ybp p0 p1 K) (K:Int→Prop):ybp p0 p1 K=K r0 :=
 propext ⟨fun k=>detC (yhp [] ybk) (as:=[(.data p0),(.agg [(.data p1)])]) (x:=(.int .i64 r0)) (fun K' k'=>h (fun r0=>K' (.int .i64 r0)) k') (K:=fun x=>match x with | (.int .i64 r0)=>K r0 | _=>False) k,h K⟩
theorem yxw (p0:Ls) (p1:Ls) (r0:Ls) (r1:Int) (h:∀ K:Ls→Int→Prop,K r0 r1→yat p0 p1 K) (K:Ls→Int→Prop):yat p0 p1 K=K r0 r1 :=
 propext ⟨fun k=>detC (ydN [] ybk) (as:=[(.data p0),(.agg [(.data p1)])]) (x:=(.tup [(.data r0),(.int .i64 r1)])) (fun K' k'=>h (fun r0 r1=>K' (.tup [(.data r0),(.int .i64 r1)])) k') (K:=fun x=>match x with | (.tup [(.data r0),(.int .i64 r1)])=>K r0 r1 | _=>False) k,h K⟩
theorem yux (p0:Int) (p1:Int) (p2:Int) (p3:Int) (p4:Ls) (r0:Bool) (h:∀ K:Bool→Prop,K r0→ybR p0 p1 p2 p3 p4 K) (K:Bool→Prop):ybR p0 p1 p2 p3 p4 K=K r0 :=
 propext ⟨fun k=>detC (yhU [] ybk) (as:=[(.agg [(.int .i64 p0),(.int .i64 p1),(.int .i64 p2),(.int .i64 p3)]),(.eptr [(.data p4)] 0 0)]) (x:=(.bool r0)) (fun K' k'=>h (fun r0=>K' (.bool r0)) k') (K:=fun x=>match x with | (.bool r0)=>K r0 | _=>False) k,h K⟩
theorem yxx (p0:Ls) (p1:Ls) (r0:Bool) (h:∀ K:Bool→Prop,K r0→yak p0 p1 K) (K:Bool→Prop):yak p0 p1 K=K r0 :=
 propext ⟨fun k=>detC (ykh [] ybk) (as:=[(.data p0),(.data p1)]) (x:=(.bool r0)) (fun K' k'=>h (fun r0=>K' (.bool r0)) k') (K:=fun x=>match x with | (.bool r0)=>K r0 | _=>False) k,h K⟩
theorem yrd (p0:Ls) (p1:Ls) (p2:Ls) (p3:Ls) (r0:Bool) (h:∀ K:Bool→Prop,K r0→yaf p0 p1 p2 p3 K) (K:Bool→Prop):yaf p0 p1 p2 p3 K=K r0 :=
 propext ⟨fun k=>detC ygC (as:=[(.eptr [(.agg [(.data p0),(.data p1),(.data p2),(.data p3)])] 0 0)]) (x:=(.bool r0)) (fun K' k'=>h (fun r0=>K' (.bool r0)) k') (K:=fun x=>match x with | (.bool r0)=>K r0 | _=>False) k,h K⟩
theorem ynX (p0:Ls) (p1:Ls) (p2:Ls) (p3:Ls) (p4:Int) (r0:Int) (r1:Int) (r2:Bool) (h:∀ K:Int→Int→Bool→Prop,K r0 r1 r2→yau p0 p1 p2 p3 p4 K) (K:Int→Int→Bool→Prop):yau p0 p1 p2 p3 p4 K=K r0 r1 r2 :=
 propext ⟨fun k=>detC ycO (as:=[(.eptr [(.agg [(.data p0),(.data p1),(.data p2),(.data p3)])] 0 0),(.int .u8 p4)]) (x:=(.tup [(.int .i64 r0),(.int .i64 r1),(.bool r2)])) (fun K' k'=>h (fun r0 r1 r2=>K' (.tup [(.int .i64 r0),(.int .i64 r1),(.bool r2)])) k') (K:=fun x=>match x with | (.tup [(.int .i64 r0),(.int .i64 r1),(.bool r2)])=>K r0 r1 r2 | _=>False) k,h K⟩
theorem yzA (p0:Ls) (p1:Ls) (r0:Int) (r1:Ls) (r2:Int) (h:∀ K:Int→Ls→Int→Prop,K r0 r1 r2→yeT p0 p1 K) (K:Int→Ls→Int→Prop):yeT p0 p1 K=K r0 r1 r2 :=
 propext ⟨fun k=>detC yrV (as:=[(.data p0),(.agg [(.data p1)])]) (x:=(.tup [(.agg [(.int .u8 r0),(.data r1)]),(.int .i64 r2)])) (fun K' k'=>h (fun r0 r1 r2=>K' (.tup [(.agg [(.int .u8 r0),(.data r1)]),(.int .i64 r2)])) k') (K:=fun x=>match x with | (.tup [(.agg [(.int .u8 r0),(.data r1)]),(.int .i64 r2)])=>K r0 r1 r2 | _=>False) k,h K⟩
theorem yxy (p0:Ls) (p1:Ls) (p2:Int) (r0:Int) (r1:Int) (r2:Bool) (r3:Int) (h:∀ K:Int→Int→Bool→Int→Prop,K r0 r1 r2 r3→ybu p0 p1 p2 K) (K:Int→Int→Bool→Int→Prop):ybu p0 p1 p2 K=K r0 r1 r2 r3 :=
 propext ⟨fun k=>detC ykk (as:=[(.data p0),(.agg [(.data p1)]),(.int .u8 p2)]) (x:=(.tup [(.int .i64 r0),(.int .i64 r1),(.bool r2),(.int .i64 r3)])) (fun K' k'=>h (fun r0 r1 r2 r3=>K' (.tup [(.int .i64 r0),(.int .i64 r1),(.bool r2),(.int .i64 r3)])) k') (K:=fun x=>match x with | (.tup [(.int .i64 r0),(.int .i64 r1),(.bool r2),(.int .i64 r3)])=>K r0 r1 r2 r3 | _=>False) k,h K⟩
end Go.Pf.Vc
namespace Go.Pf.Vc
open Go Go.Pf
set_option maxRecDepth 100000
def ynY (a0:yaK) (a1:yay) (p0 p1:Ls) (K:Bool→Prop):Prop :=
 (jn (fun (a:Bool→Prop) =>
 (a0 p0 p1 (fun b =>
 (cbr (!b)
 (a1 p0 p1 (fun c =>
 (a (c ==(0:Int)))))
 (a false)))))
 (fun d=>(K d)))
def ygT:yaK:=ynY ygP ygQ
def yEa (e:Es) (a0:yaK) (a1:yay):SE:=sE (E e) [(yij,ynH.pw a0),(yil,yue.pw a1)] lp0
theorem yEb (e:Es) (a0 a1):EqW (yEa e a0 a1) 6 yFH ynH (ynY a0 a1):=fun _ _=>by kernel_rfl
theorem yEc (e:Es) (he:EG e):OkF (E e) (ynH.pw ygT) yim:=okU he (yEb e _ _) (yao (Sub.uni _) ⟨(yt9 e he),(yuf e he),trivial⟩ trivial he.ok) yop.flat (yaj (by kernel_rfl))
abbrev yhs:Type:=Int→Int→(Int→Int→Int→Int→Prop)→Prop
def yB9 (a0:yal) (p0 p1:Int) (K:Int→Int→Int→Int→Prop):Prop :=
 (a0 p0 (fun a b =>
 (a0 p1 (fun c d =>
 (K a b c d)))))
def yml:yhs:=yB9 ypJ
def yKb:Sg:=⟨pt6,Int→Int→Int→Int→Prop,fun K=>(fun r0 r1 r2 r3=>K (.agg [(.int .i64 r0),(.int .i64 r1),(.int .i64 r2),(.int .i64 r3)]))⟩
def yKc (e:Es) (a0:yal):SE:=sE (E e) [(yfw,yla.pw a0)] lp0
theorem yKd (e:Es) (a0):EqW (yKc e a0) 6 yLx yKb (yB9 a0):=fun _ _=>by kernel_rfl
theorem yCa (e:Es) (he:EG e):OkF (E e) (yKb.pw yml) ygl:=okU he (yKd e _) (yao (Sub.uni _) ⟨(yvF e he),trivial⟩ trivial he.ok) yop.flat (yaj (by kernel_rfl))
abbrev yqb:Type:=Ls→(Ls→Prop)→Prop
def yiL (x1:Ls→Ls→Int→Bool→Prop):Nat→Ls→Ls→Int→Prop
 | 0,_,_,_=>False
 | n+1,l0,l1,i4 =>
 (cbr (decide (i4<(((List.length l1):Nat):Int)))
 (asr (decide ((0:Int)≤i4))
 (asr (decide (i4<(((List.length l1):Nat):Int)))
 (lt (List.getD l1 (i4.toNat) .nils) (fun a =>
 (asr (conf z4 a)
 (asr (decide ((List.length l0)=(List.length l0)))
 (asr (decide ((0+(List.length l0))≤(List.length l0)))
 (asr (!(decide (((0+(List.length l0))+1)≤(List.length l0))))
 (asr (decide ((List.length l0)=(List.length l0)))
 (asr (decide ((((List.length l0)+1)+64)*(24+1)≤room))
 (lt (IntKind.i64.wrap (i4+(1:Int))) (fun b =>
 (asr (decide ((List.length (l0++([(.data ([(.agg [(.int .i64 (yaa (yac a 0))),(.int .i64 (yaa (yac a 1))),(.int .i64 (yaa (yac a 2))),(.int .i64 (yaa (yac a 3)))])]:Ls))]:Ls)))=List.length (l0++([(.data ([(.agg [(.int .i64 (yaa (yac a 0))),(.int .i64 (yaa (yac a 1))),(.int .i64 (yaa (yac a 2))),(.int .i64 (yaa (yac a 3)))])]:Ls))]:Ls)))&&decide ((List.length (l0++([(.data ([(.agg [(.int .i64 (yaa (yac a 0))),(.int .i64 (yaa (yac a 1))),(.int .i64 (yaa (yac a 2))),(.int .i64 (yaa (yac a 3)))])]:Ls))]:Ls)))=List.length (l0++([(.data ([(.agg [(.int .i64 (yaa (yac a 0))),(.int .i64 (yaa (yac a 1))),(.int .i64 (yaa (yac a 2))),(.int .i64 (yaa (yac a 3)))])]:Ls))]:Ls))))
 (yiL x1 n (l0++([(.data ([(.agg [(.int .i64 (yaa (yac a 0))),(.int .i64 (yaa (yac a 1))),(.int .i64 (yaa (yac a 2))),(.int .i64 (yaa (yac a 3)))])]:Ls))]:Ls)) l1 b))))))))))))))
 (x1 l0 l1 i4 false))
def yiM (x0:Ls→Int→Bool→Prop) (x1:Ls→Ls→Int→Bool→Prop):Nat→Ls→Int→Prop
 | 0,_,_=>False
 | n+1,l0,i1 =>
 (cbr (decide (i1<(((List.length l0):Nat):Int)))
 (asr (decide ((0:Int)≤i1))
 (asr (decide (i1<(((List.length l0):Nat):Int)))
 (lt (List.getD l0 (i1.toNat) .nils) (fun a =>
 (asr (conf z4 a)
 (lt (IntKind.i64.wrap (i1+(1:Int))) (fun b =>
 (asr (decide (1=List.length ([(.data ([(.agg [(.int .i64 (yaa (yac a 0))),(.int .i64 (yaa (yac a 1))),(.int .i64 (yaa (yac a 2))),(.int .i64 (yaa (yac a 3)))])]:Ls))]:Ls))&&decide (1=List.length ([(.data ([(.agg [(.int .i64 (yaa (yac a 0))),(.int .i64 (yaa (yac a 1))),(.int .i64 (yaa (yac a 2))),(.int .i64 (yaa (yac a 3)))])]:Ls))]:Ls)))
 (yiL x1 n ([(.data ([(.agg [(.int .i64 (yaa (yac a 0))),(.int .i64 (yaa (yac a 1))),(.int .i64 (yaa (yac a 2))),(.int .i64 (yaa (yac a 3)))])]:Ls))]:Ls) l0 b)))))))))
 (x0 l0 i1 false))
def ynZ (p0:Ls) (K:Ls→Prop):Prop :=
 (∃ n:Nat,yiM
 (fun _ _ _=>(K ([]:Ls)))
 (fun a _ _ _=>(asr (decide ((List.length a)=(List.length a)))
 (asr (decide ((0+(List.length a))≤(List.length a)))
 (K (List.take (List.length a) a)))))
 n p0 (0:Int))
def yeM:yqb:=ynZ
def yEd:Sg:=⟨pt9,Ls→Prop,fun K=>(fun r0=>K (.agg [(.data r0)]))⟩
def yxz (Q:Qx):Ls→Int→Bool→Prop:=(fun l0 i1 b2=>Q (.exit 0) [(0,.v (.data l0)),(2,.box (.agg [.nils])),(3,.box (.agg [.nils])),(4,.v (.int .i64 i1)),(8,.v (.bool b2))] [])
def yoC (Q:Qx):Ls→Ls→Int→Bool→Prop:=(fun l0 l1 i4 b5=>Q (.exit 0) [(0,.v (.data l1)),(2,.box (.agg [.nils])),(3,.box (.agg [(.own 0 0 (List.length l0) (List.length l0) none)])),(4,.v (.int .i64 i4)),(8,.v (.bool b5))] [⟨false,true,1,l0⟩])
def pt43:VPt:=vA (lC vNs lN)
def yqc (Q:Qx):List St:=[⟨(pS hN (fV 0 vD (fX 2 pt43 (fX 3 pt43 pt13))) fN),yiM (yxz Q) (yoC Q)⟩,⟨(pS (hB false true 1 rA hN) (fV 0 vD (fX 2 pt43 (fX 3 (vA (lC pt23 lN)) pt13))) fN),yiL (yoC Q)⟩]
def yuy:LP:=lpS [(99620800,yqc)]
def yn2 (e:Es):SE:=sE (E e) [] (yuy)
theorem yrW (e:Es) (he:EG e):SEOk (Uni (E e)) (yn2 e):=yao (Sub.uni _) trivial trivial he.ok
theorem yv6 (e:Es):ycc (yn2 e) 5 a ymN false (yqc):=fun _=>⟨fun _=>by kernel_rfl,fun _ _=>by kernel_rfl,fun _=>by kernel_rfl,fun _ _=>by kernel_rfl,trivial⟩
theorem yv7 (e:Es) (he:EG e):LpT (Uni (E e)) (yuy) [] 99620800 (.loop 99620800 ymN):=fun _ _ _=>yo7.st (Sub.uni _) (yaI (yrW e he) 5) (YOk.no _ _) (yaj (by kernel_rfl)) (yv6 e _)
theorem yEe (e:Es):EqW (yn2 e) 6 yFI yEd ynZ:=fun _ _=>by kernel_rfl
theorem yuz (e:Es) (he:EG e):OkF (E e) (yEd.pw yeM) ygL:=okU he (yEe e) (yrW e he) yop.flat (ybb (l:=[(99620800,.loop 99620800 ymN)]) ⟨yv7 e he,trivial⟩ (by kernel_rfl))
abbrev yv8:Type:=(Ls→Prop)→Prop
def yzB (K:Ls→Prop):Prop :=
 (K ([(.agg [(.int .i64 (2:Int)),(.data ([(.int .i64 (0:Int)),(.int .i64 (2:Int))]:Ls)),(.data ([(.int .i64 (1:Int))]:Ls))]),(.agg [(.int .i64 (2:Int)),(.data ([(.int .i64 (0:Int)),(.int .i64 (1:Int)),(.int .i64 (2:Int))]:Ls)),(.data ([(.int .i64 (3:Int)),(.int .i64 (1:Int))]:Ls))])]:Ls))
def yCb:yv8:=yzB
def yH5:Sg:=⟨lN,Ls→Prop,fun K=>(fun r0=>K (.data r0))⟩
def yH6 (e:Es):SE:=sE (E e) [] lp0
theorem yH7 (e:Es):EqW (yH6 e) 6 yJ4 yH5 yzB:=fun _ _=>by kernel_rfl
theorem yH8 (e:Es) (he:EG e):OkF (E e) (yH5.pw yCb) ye5:=okU he (yH7 e) (yao (Sub.uni _) trivial trivial he.ok) yop.flat (yaj (by kernel_rfl))
abbrev ylC:Type:=Ls→Ls→Int→Int→Int→(Bool→Prop)→Prop
def ykm (a0:ycr) (a1:ylB) (p0 p1:Ls) (p2 p3 p4:Int) (K:Bool→Prop):Prop :=
 (a0 p0 p1 p2 (fun b c d =>
 (a1 p0 p1 p2 (fun e f =>
 (jn (fun (a:Bool→Prop) =>
 (cbr (d ==(0:Int))
 (cbr (b == p3)
 (cbr (c == p4)
 (cbr (f ==(0:Int))
 (a (!e))
 (a false))
 (a false))
 (a false))
 (a false)))
 (fun g=>(K g)))))))
def yh8:ylC:=ykm ybs yh7
def yzC:Sg:=⟨(lC vD (lC pt25 (lC pt30 pt6))),Bool→Prop,fun K=>(fun r0=>K (.bool r0))⟩
def yzD (a0:ycr) (a1:ylB):SE:=sE (E ef0) [(ycq,yv3.pw a0),(ygm,yzw.pw a1)] lp0
theorem yzE (a0 a1):EqW (yzD a0 a1) 6 yAz yzC (ykm a0 a1):=fun _ _=>by kernel_rfl
theorem yzF:OkF (E ef0) (yzC.pw yh8) yek:=okU ybG (yzE _ _) (yao (Sub.uni _) ⟨ymk,yzz,trivial⟩ trivial ybG.ok) yop.flat (yaj (by kernel_rfl))
abbrev yfH:Type:=(Bool→Prop)→Prop
def yn3 (a0:yhs) (a1:yqb) (a2:yv8) (a3:yaE) (a4:ynW) (a5:yal) (a6:yaK) (a7:ylC) (K:Bool→Prop):Prop :=
 (a0 (0:Int) (1:Int) (fun e f g h =>
 (a0 (1:Int) (2:Int) (fun i j k l =>
 (a1 ([(.agg [(.int .i64 e),(.int .i64 f),(.int .i64 g),(.int .i64 h)]),(.agg [(.int .i64 i),(.int .i64 j),(.int .i64 k),(.int .i64 l)])]:Ls) (fun b =>
 (a0 (1:Int) (2:Int) (fun m n o p =>
 (a0 (0:Int) (1:Int) (fun q r s t =>
 (a1 ([(.agg [(.int .i64 m),(.int .i64 n),(.int .i64 o),(.int .i64 p)]),(.agg [(.int .i64 q),(.int .i64 r),(.int .i64 s),(.int .i64 t)])]:Ls) (fun u =>
 (a2  (fun v =>
 (a3 v b (fun w x =>
 (a2  (fun y =>
 (a4 y b (fun z _ A =>
 (a2  (fun B =>
 (a4 B u (fun C _ D =>
 (a5 (1:Int) (fun c d =>
 (a5 (3:Int) (fun E F =>
 (jn (fun (a:Bool→Prop) =>
 (cbr (x ==(0:Int))
 (a6 w ([(.data ([(.agg [(.int .i64 c),(.int .i64 d)]),(.agg [(.int .i64 c),(.int .i64 d)])]:Ls)),(.data ([(.agg [(.int .i64 E),(.int .i64 F)]),(.agg [(.int .i64 c),(.int .i64 d)])]:Ls))]:Ls) (fun G =>
 (cbr G
 (cbr (A ==(0:Int))
 (cbr (z ==(17:Int))
 (cbr (D ==(0:Int))
 (cbr (C ==(23:Int))
 (a2  (fun H =>
 (a7 H b (2:Int) (1:Int) (1:Int) (fun I =>
 (cbr I
 (a2  (fun J =>
 (a7 J b (4:Int) (1:Int) (0:Int) (fun L =>
 (cbr L
 (a2  (fun M =>
 (a7 M b (8:Int) (1:Int) (0:Int) (fun N =>
 (a N)))))
 (a false))))))
 (a false))))))
 (a false))
 (a false))
 (a false))
 (a false))
 (a false))))
 (a false)))
 (fun O=>(K O)))))))))))))))))))))))))))))))
def yeg:yfH:=yn3 yml yeM yCb yat yeT ypJ ydi yh8
def yEf:Sg:=⟨lN,Bool→Prop,fun K=>(fun r0=>K (.bool r0))⟩
def yEg (a0:yhs) (a1:yqb) (a2:yv8) (a3:yaE) (a4:ynW) (a5:yal) (a6:yaK) (a7:ylC):SE:=sE (E ef0) [(ygl,yKb.pw a0),(ygL,yEd.pw a1),(ye5,yH5.pw a2),(yaR,yLy.pw a3),(yfS,yBi.pw a4),(yfw,yla.pw a5),(ye2,yl6.pw a6),(yek,yzC.pw a7)] lp0
theorem yEh (a0 a1 a2 a3 a4 a5 a6 a7):EqW (yEg a0 a1 a2 a3 a4 a5 a6 a7) 6 yFT yEf (yn3 a0 a1 a2 a3 a4 a5 a6 a7):=fun _ _=>by kernel_rfl
theorem yEi:OkF (E ef0) (yEf.pw yeg) yfx:=okU ybG (yEh _ _ _ _ _ _ _ _) (yao (Sub.uni _) ⟨(yCa ef0 ybG),(yuz ef0 ybG),(yH8 ef0 ybG),(ydN ef0 ybG),yrV,(yvF ef0 ybG),(yl7 ef0 ybG),yzF,trivial⟩ trivial ybG.ok) yop.flat (yaj (by kernel_rfl))
def ybV (a0:yaK) (a1:yfH) (a2:yaE) (a3:ycr) (a4:yaE) (a5:yhs) (a6:yem) (a7:yad) (a8:yae) (x1:Ls→Ls→Ls→Ls→Int→Ls→Int→Bool→Prop):Nat→Ls→Ls→Ls→Ls→Int→Ls→Int→Prop
 | 0,_,_,_,_,_,_,_=>False
 | n+1,l0,l1,l2,l3,i4,l5,i6 =>
 (cbr (decide (i6<(((List.length l1):Nat):Int)))
 (asr (decide ((0:Int)≤i6))
 (asr (decide (i6<(((List.length l2):Nat):Int)))
 (lt (List.getD l2 (i6.toNat) .nils) (fun a =>
 (asr (conf zD a)
 (a6 l5 (yap a) (fun b =>
 (lt (IntKind.i64.wrap (i6+(1:Int))) (fun c =>
 (ybV a0 a1 a2 a3 a4 a5 a6 a7 a8 x1 n l0 l1 l2 l3 i4 b c))))))))))
 (x1 l0 l1 l2 l3 i4 l5 i6 false))
def yeU (a0:yaK) (a1:yfH) (a2:yaE) (a3:ycr) (a4:yaE) (a5:yhs) (a6:yem) (a7:yad) (a8:yae) (x0:Ls→Ls→Ls→Ls→Int→Int→Bool→Prop) (x1:Ls→Ls→Ls→Ls→Int→Ls→Int→Bool→Prop):Nat→Ls→Ls→Ls→Ls→Int→Int→Prop
 | 0,_,_,_,_,_,_=>False
 | n+1,l0,l1,l2,l3,i4,i8 =>
 (cbr (decide (i8<(((List.length l1):Nat):Int)))
 (asr (decide ((0:Int)≤i8))
 (asr (decide (i8<(((List.length l2):Nat):Int)))
 (lt (List.getD l2 (i8.toNat) .nils) (fun a =>
 (asr (conf zD a)
 (asr (decide ((List.length l0)=(List.length l0)))
 (asr (decide ((0+(List.length l0))≤(List.length l0)))
 (a6 (List.take (List.length l0) l0) (yap a) (fun b =>
 (lt (IntKind.i64.wrap (i8+(1:Int))) (fun c =>
 (ybV a0 a1 a2 a3 a4 a5 a6 a7 a8 x1 n l0 l1 l2 l3 i4 b c))))))))))))
 (x0 l0 l1 l2 l3 i4 i8 false))
def ygc (a0:yaK) (a1:yfH) (a2:yaE) (a3:ycr) (a4:yaE) (a5:yhs) (a6:yem) (a7:yad) (a8:yae) (p0 p1:Ls) (K:Bool→Prop):Prop :=
 (a0 p0 p1 (fun vq =>
 (cbr (!vq)
 (a1  (fun vr =>
 (K vr)))
 (a2 p0 p1 (fun d R =>
 (cbr (R !=(0:Int))
 (jn (fun (S:Bool→Prop) =>
 (cbr (R ==(16:Int))
 (a1  (fun vs =>
 (S vs)))
 (S false)))
 (fun vt=>(K vt)))
 (cbr ((((List.length d):Nat):Int) !=(((List.length p0):Nat):Int))
 (K false)
 (a3 p0 p1 (1:Int) (fun h i T =>
 (jn (fun U =>
 (jn (fun (V:Bool→Prop) =>
 (cbr (T ==(0:Int))
 (V (decide (h≥(0:Int))))
 (V false)))
 (fun vu=>(cbr vu
 (jn (fun (W:Bool→Prop) =>
 (cbr (decide (i≤h))
 (W true)
 (W (decide (i≥(((List.length p0):Nat):Int))))))
 (fun vv=>(cbr vv
 (K false)
 (asr (decide ((0:Int)≤h))
 (asr (decide (h<(((List.length p1):Nat):Int)))
 (lt (List.getD p1 (h.toNat) .nils) (fun X =>
 (asr (conf zD X)
 (asr (decide ((0:Int)≤i))
 (asr (decide (i<(((List.length p1):Nat):Int)))
 (lt (List.getD p1 (i.toNat) .nils) (fun Y =>
 (asr (conf zD Y)
 (a4 (yap X) (yap Y) (fun vw vx =>
 (jn (fun (Z:Bool→Prop) =>
 (cbr (vx !=(0:Int))
 (Z true)
 (Z ((((List.length vw):Nat):Int) ==(0:Int)))))
 (fun vy=>(cbr vy
 (K false)
 U))))))))))))))))))
 U))))
 (jn (fun (va:Bool→Prop) =>
 (cbr (T ==(0:Int))
 (va (decide (h<(0:Int))))
 (va false)))
 (fun vz=>(cbr vz
 (asr (decide ((0:Int)<(((List.length p0):Nat):Int)))
 (lt (List.getD p0 0 .nils) (fun vb =>
 (asr (conf zK vb)
 (a5 (0:Int) (yaa (yac vb 0)) (fun z A B C =>
 (asr (decide (1=List.length ([(.agg [(.int .i64 z),(.int .i64 A),(.int .i64 B),(.int .i64 C)])]:Ls))&&decide (1=List.length ([(.agg [(.int .i64 z),(.int .i64 A),(.int .i64 B),(.int .i64 C)])]:Ls))&&decide (1=List.length ([(.agg [(.int .i64 z),(.int .i64 A),(.int .i64 B),(.int .i64 C)])]:Ls)))
 (∃ n:Nat,yeU a0 a1 a2 a3 a4 a5 a6 a7 a8
 (fun vA j k l vB _ _=>(jn (fun (vc:Bool→Prop) =>
 (cbr ((((List.length vA):Nat):Int) ==(0:Int))
 (vc true)
 (vc (vB !=(-1:Int)))))
 (fun vC=>(cbr vC
 (K false)
 (a3 j k (4:Int) (fun a t vD =>
 (jn (fun (e:Bool→Prop) =>
 (cbr (vD ==(0:Int))
 (cbr (decide (a<(0:Int)))
 (e true)
 (cbr (decide (a≥(((List.length j):Nat):Int)))
 (e true)
 (cbr (decide (t<(0:Int)))
 (e true)
 (cbr (decide (t≥(((List.length j):Nat):Int)))
 (e true)
 (asr (decide ((0:Int)≤a))
 (asr (decide (a<(((List.length l):Nat):Int)))
 (lt (List.getD l (a.toNat) .nils) (fun vd =>
 (asr (conf zD vd)
 (cbr ((((List.length (yap vd)):Nat):Int) !=(((List.length j):Nat):Int))
 (e true)
 (asr (decide ((0:Int)≤a))
 (asr (decide (a<(((List.length l):Nat):Int)))
 (lt (List.getD l (a.toNat) .nils) (fun D =>
 (asr (conf zD D)
 (asr (decide ((0:Int)≤a))
 (asr (decide (a<(((List.length (yap D)):Nat):Int)))
 (lt (List.getD (yap D) (a.toNat) .nils) (fun E =>
 (asr (conf z2 E)
 (asr (decide ((0:Int)≤a))
 (asr (decide (a<(((List.length l):Nat):Int)))
 (lt (List.getD l (a.toNat) .nils) (fun F =>
 (asr (conf zD F)
 (asr (decide ((0:Int)≤t))
 (asr (decide (t<(((List.length (yap F)):Nat):Int)))
 (lt (List.getD (yap F) (t.toNat) .nils) (fun G =>
 (asr (conf z2 G)
 (a7 (yaa (yac E 0)) (yaa (yac E 1)) (yaa (yac G 0)) (yaa (yac G 1)) (fun vE =>
 (e (!vE))))))))))))))))))))))))))))))))))
 (e false)))
 (fun vF=>(cbr vF
 (K false)
 (a3 j k (16:Int) (fun m vG vH =>
 (jn (fun (u:Bool→Prop) =>
 (cbr (vH ==(0:Int))
 (cbr (m != vG)
 (u true)
 (cbr (decide (m<(0:Int)))
 (u true)
 (cbr (decide (m≥(((List.length j):Nat):Int)))
 (u true)
 (asr (decide ((0:Int)≤m))
 (asr (decide (m<(((List.length k):Nat):Int)))
 (lt (List.getD k (m.toNat) .nils) (fun ve =>
 (asr (conf zD ve)
 (u ((((List.length (yap ve)):Nat):Int) ==(1:Int)))))))))))
 (u false)))
 (fun vI=>(cbr vI
 (K false)
 (jn (fun (vf:Bool→Prop) =>
 (asr (decide ((0:Int)<(((List.length k):Nat):Int)))
 (lt (List.getD k 0 .nils) (fun vg =>
 (asr (conf zD vg)
 (a8 (yap vg) (fun vJ =>
 (cbr (vJ ==(0:Int))
 (a1  (fun vK =>
 (vf vK)))
 (vf false)))))))))
 (fun vL=>(K vL)))))))))))))))))
 (fun _ o p q vM vN _ _=>(jn (fun (vh:Bool→Prop) =>
 (cbr ((((List.length vN):Nat):Int) ==(0:Int))
 (vh true)
 (vh (vM !=(-1:Int)))))
 (fun vO=>(cbr vO
 (K false)
 (a3 o p (4:Int) (fun b v vP =>
 (jn (fun (f:Bool→Prop) =>
 (cbr (vP ==(0:Int))
 (cbr (decide (b<(0:Int)))
 (f true)
 (cbr (decide (b≥(((List.length o):Nat):Int)))
 (f true)
 (cbr (decide (v<(0:Int)))
 (f true)
 (cbr (decide (v≥(((List.length o):Nat):Int)))
 (f true)
 (asr (decide ((0:Int)≤b))
 (asr (decide (b<(((List.length q):Nat):Int)))
 (lt (List.getD q (b.toNat) .nils) (fun vi =>
 (asr (conf zD vi)
 (cbr ((((List.length (yap vi)):Nat):Int) !=(((List.length o):Nat):Int))
 (f true)
 (asr (decide ((0:Int)≤b))
 (asr (decide (b<(((List.length q):Nat):Int)))
 (lt (List.getD q (b.toNat) .nils) (fun H =>
 (asr (conf zD H)
 (asr (decide ((0:Int)≤b))
 (asr (decide (b<(((List.length (yap H)):Nat):Int)))
 (lt (List.getD (yap H) (b.toNat) .nils) (fun I =>
 (asr (conf z2 I)
 (asr (decide ((0:Int)≤b))
 (asr (decide (b<(((List.length q):Nat):Int)))
 (lt (List.getD q (b.toNat) .nils) (fun J =>
 (asr (conf zD J)
 (asr (decide ((0:Int)≤v))
 (asr (decide (v<(((List.length (yap J)):Nat):Int)))
 (lt (List.getD (yap J) (v.toNat) .nils) (fun L =>
 (asr (conf z2 L)
 (a7 (yaa (yac I 0)) (yaa (yac I 1)) (yaa (yac L 0)) (yaa (yac L 1)) (fun vQ =>
 (f (!vQ))))))))))))))))))))))))))))))))))
 (f false)))
 (fun vR=>(cbr vR
 (K false)
 (a3 o p (16:Int) (fun r vS vT =>
 (jn (fun (w:Bool→Prop) =>
 (cbr (vT ==(0:Int))
 (cbr (r != vS)
 (w true)
 (cbr (decide (r<(0:Int)))
 (w true)
 (cbr (decide (r≥(((List.length o):Nat):Int)))
 (w true)
 (asr (decide ((0:Int)≤r))
 (asr (decide (r<(((List.length p):Nat):Int)))
 (lt (List.getD p (r.toNat) .nils) (fun vj =>
 (asr (conf zD vj)
 (w ((((List.length (yap vj)):Nat):Int) ==(1:Int)))))))))))
 (w false)))
 (fun vU=>(cbr vU
 (K false)
 (jn (fun (vk:Bool→Prop) =>
 (asr (decide ((0:Int)<(((List.length p):Nat):Int)))
 (lt (List.getD p 0 .nils) (fun vl =>
 (asr (conf zD vl)
 (a8 (yap vl) (fun vV =>
 (cbr (vV ==(0:Int))
 (a1  (fun vW =>
 (vk vW)))
 (vk false)))))))))
 (fun vX=>(K vX)))))))))))))))))
 n ([(.agg [(.int .i64 z),(.int .i64 A),(.int .i64 B),(.int .i64 C)])]:Ls) p0 p1 d i (0:Int)))))))))
 (a3 p0 p1 (4:Int) (fun c x vY =>
 (jn (fun (g:Bool→Prop) =>
 (cbr (vY ==(0:Int))
 (cbr (decide (c<(0:Int)))
 (g true)
 (cbr (decide (c≥(((List.length p0):Nat):Int)))
 (g true)
 (cbr (decide (x<(0:Int)))
 (g true)
 (cbr (decide (x≥(((List.length p0):Nat):Int)))
 (g true)
 (asr (decide ((0:Int)≤c))
 (asr (decide (c<(((List.length d):Nat):Int)))
 (lt (List.getD d (c.toNat) .nils) (fun vm =>
 (asr (conf zD vm)
 (cbr ((((List.length (yap vm)):Nat):Int) !=(((List.length p0):Nat):Int))
 (g true)
 (asr (decide ((0:Int)≤c))
 (asr (decide (c<(((List.length d):Nat):Int)))
 (lt (List.getD d (c.toNat) .nils) (fun M =>
 (asr (conf zD M)
 (asr (decide ((0:Int)≤c))
 (asr (decide (c<(((List.length (yap M)):Nat):Int)))
 (lt (List.getD (yap M) (c.toNat) .nils) (fun N =>
 (asr (conf z2 N)
 (asr (decide ((0:Int)≤c))
 (asr (decide (c<(((List.length d):Nat):Int)))
 (lt (List.getD d (c.toNat) .nils) (fun O =>
 (asr (conf zD O)
 (asr (decide ((0:Int)≤x))
 (asr (decide (x<(((List.length (yap O)):Nat):Int)))
 (lt (List.getD (yap O) (x.toNat) .nils) (fun Q =>
 (asr (conf z2 Q)
 (a7 (yaa (yac N 0)) (yaa (yac N 1)) (yaa (yac Q 0)) (yaa (yac Q 1)) (fun vZ =>
 (g (!vZ))))))))))))))))))))))))))))))))))
 (g false)))
 (fun v0=>(cbr v0
 (K false)
 (a3 p0 p1 (16:Int) (fun s v1 v2 =>
 (jn (fun (y:Bool→Prop) =>
 (cbr (v2 ==(0:Int))
 (cbr (s != v1)
 (y true)
 (cbr (decide (s<(0:Int)))
 (y true)
 (cbr (decide (s≥(((List.length p0):Nat):Int)))
 (y true)
 (asr (decide ((0:Int)≤s))
 (asr (decide (s<(((List.length p1):Nat):Int)))
 (lt (List.getD p1 (s.toNat) .nils) (fun vn =>
 (asr (conf zD vn)
 (y ((((List.length (yap vn)):Nat):Int) ==(1:Int)))))))))))
 (y false)))
 (fun v3=>(cbr v3
 (K false)
 (jn (fun (vo:Bool→Prop) =>
 (asr (decide ((0:Int)<(((List.length p1):Nat):Int)))
 (lt (List.getD p1 0 .nils) (fun vp =>
 (asr (conf zD vp)
 (a8 (yap vp) (fun v4 =>
 (cbr (v4 ==(0:Int))
 (a1  (fun v5 =>
 (vo v5)))
 (vo false)))))))))
 (fun v6=>(K v6))))))))))))))))))))))))))
def yeV:yaK:=ygc ygT yeg yat ybs ycF yml yfa ybq ybv
def yn4 (Q:Qx):Ls→Ls→Ls→Ls→Int→Int→Bool→Prop:=(fun l0 l1 l2 l3 i4 i8 b9=>Q (.exit 0) [(0,.v (.data l1)),(3,.box (.agg [(.data l2)])),(5,.v (.data l3)),(8,.v (.int .i64 i4)),(12,.v (.own 0 0 (List.length l0) (List.length l0) (some (List.length l0)))),(13,.v (.int .i64 i8)),(95,.v (.bool b9))] [⟨false,true,4,l0⟩])
def yht (Q:Qx):Ls→Ls→Ls→Ls→Int→Ls→Int→Bool→Prop:=(fun l0 l1 l2 l3 i4 l5 i6 b7=>Q (.exit 0) [(0,.v (.data l1)),(3,.box (.agg [(.data l2)])),(5,.v (.data l3)),(8,.v (.int .i64 i4)),(12,.v (.data l5)),(13,.v (.int .i64 i6)),(95,.v (.bool b7))] [⟨true,true,4,l0⟩])
def yhB (a0:yaK) (a1:yfH) (a2:yaE) (a3:ycr) (a4:yaE) (a5:yhs) (a6:yem) (a7:yad) (a8:yae) (Q:Qx):List St:=[⟨(pS pt22 (fV 0 vD (fX 3 pt25 (fV 5 vD (fV 8 pt0 (fV 12 (vO 0 (nK 0) (nT 0) (nT 0) (nT 0)) (fV 13 pt0 fN)))))) fN),yeU a0 a1 a2 a3 a4 a5 a6 a7 a8 (yn4 Q) (yht Q)⟩,⟨(pS (hB true true 4 rA hN) (fV 0 vD (fX 3 pt25 (fV 5 vD (fV 8 pt0 (fV 12 vD (fV 13 pt0 fN)))))) fN),ybV a0 a1 a2 a3 a4 a5 a6 a7 a8 (yht Q)⟩]
def yiT (a0:yaK) (a1:yfH) (a2:yaE) (a3:ycr) (a4:yaE) (a5:yhs) (a6:yem) (a7:yad) (a8:yae):LP:=lpS [(63993900,yhB a0 a1 a2 a3 a4 a5 a6 a7 a8)]
def ygd (a0:yaK) (a1:yfH) (a2:yaE) (a3:ycr) (a4:yaE) (a5:yhs) (a6:yem) (a7:yad) (a8:yae):SE:=sE (E ef0) [(yim,ynH.pw a0),(yfx,yEf.pw a1),(yaR,yLy.pw a2),(ycq,yv3.pw a3),(yha,yA4.pw a4),(ygl,yKb.pw a5),(ygo,yzl.pw a6),(ybX,ynp.pw a7),(yfv,yca.pw a8)] (yiT a0 a1 a2 a3 a4 a5 a6 a7 a8)
theorem yiz:SEOk (Uni (E ef0)) (ygd ygT yeg yat ybs ycF yml yfa ybq ybv):=yao (Sub.uni _) ⟨(yEc ef0 ybG),yEi,(ydN ef0 ybG),ymk,(yrO ef0 ybG),(yCa ef0 ybG),(yzn ef0 ybG),(yiu ef0 ybG),(ynM ef0 ybG),trivial⟩ trivial ybG.ok
theorem ymm (a0 a1 a2 a3 a4 a5 a6 a7 a8):ycc (ygd a0 a1 a2 a3 a4 a5 a6 a7 a8) 5 a ync false (yhB a0 a1 a2 a3 a4 a5 a6 a7 a8):=fun _=>⟨fun _=>by kernel_rfl,fun _ _=>by kernel_rfl,fun _=>by kernel_rfl,fun _ _=>by kernel_rfl,trivial⟩
theorem ymn:LpT (Uni (E ef0)) (yiT ygT yeg yat ybs ycF yml yfa ybq ybv) [] 63993900 (.loop 63993900 ync):=fun _ _ _=>yo7.st (Sub.uni _) (yaI (yiz) 5) (YOk.no _ _) (yaj (by kernel_rfl)) (ymm _ _ _ _ _ _ _ _ _ _)
theorem yre (a0 a1 a2 a3 a4 a5 a6 a7 a8):EqW (ygd a0 a1 a2 a3 a4 a5 a6 a7 a8) 6 ysr ynH (ygc a0 a1 a2 a3 a4 a5 a6 a7 a8):=fun _ _=>by kernel_rfl
theorem yrf:OkF (E ef0) (ynH.pw yeV) ygw:=okU ybG (yre _ _ _ _ _ _ _ _ _) (yiz) yop.flat (ybb (l:=[(63993900,.loop 63993900 ync)]) ⟨ymn,trivial⟩ (by kernel_rfl))
end Go.Pf.Vc
namespace Go.Pf.Vc
open Go Go.Pf
set_option linter.unusedVariables false
theorem yBk (p0:Ls) (r0:Ls) (h:∀ K:Ls→Prop,K r0→yeM p0 K) (K:Ls→Prop):yeM p0 K=K r0 :=
 propext ⟨fun k=>detC (yuz [] ybk) (as:=[(.data p0)]) (x:=(.agg [(.data r0)])) (fun K' k'=>h (fun r0=>K' (.agg [(.data r0)])) k') (K:=fun x=>match x with | (.agg [(.data r0)])=>K r0 | _=>False) k,h K⟩
end Go.Pf.Vc
namespace Go.Pf.Vc
open Go Go.Pf
def I64 (n:Int):Prop:=-9223372036854775808≤n∧n≤9223372036854775807
def U64 (n:Int):Prop:=0≤n∧n≤18446744073709551615
theorem yuA (n:Int):IntKind.u64.wrap n=n % 18446744073709551616:=by
 simp only [IntKind.wrap,IntKind.signed,IntKind.bits,qBc,qAr,if_false]
 rfl
theorem yPj (n:Int):IntKind.i64.wrap n=if n % 18446744073709551616≥9223372036854775808 then n % 18446744073709551616-18446744073709551616 else n % 18446744073709551616:=by
 have e1:(2:Int) ^ 64=18446744073709551616:=rfl
 have e2:(2:Int) ^ (64-1)=9223372036854775808:=rfl
 simp only [IntKind.wrap,IntKind.signed,IntKind.bits,qAy,e1,e2]
 by_cases h:n % 18446744073709551616≥9223372036854775808 <;> simp [h]
theorem wu64 {n:Int} (h:U64 n):IntKind.u64.wrap n=n:=by
 unfold U64 at h
 rw [yuA]
 omega
theorem wi64 {n:Int} (h:I64 n):IntKind.i64.wrap n=n:=by
 unfold I64 at h
 rw [yPj]
 split <;> omega
theorem yag {x y:Prop}:cbr true x y=x:=rfl
theorem yab {x y:Prop}:cbr false x y=y:=rfl
theorem yaF {x:Prop}:asr true x=x:=rfl
theorem yh9 {p:Int} (h:I64 p) (K:Int→Prop):yd9 p K=K (p.natAbs:Int):=by
 unfold I64 at h
 unfold yd9 yk3
 by_cases hp:p<0
 ·have e:IntKind.u64.wrap ((0:Int)-IntKind.u64.wrap p)=(p.natAbs:Int):=by
   rw [yuA,yuA]
   omega
  rw [decide_eq_true hp,yag,e]
 ·rw [decide_eq_false hp,yab,wu64 ⟨by omega,by omega⟩]
  congr 1
  omega
theorem yF5 (x:Int→Int→Bool→Prop):∀ (n a b:Nat),b<n→ye3 x n (a:Int) (b:Int)=x ((Nat.gcd a b:Nat):Int) 0 false
 | 0,a,b,h=>by omega
 | n+1,a,b,h=>by
  unfold ye3
  by_cases hb:b=0
  ·subst hb
   simp [cbr]
  ·have h1:(b:Int)>0:=by omega
   have h2:¬((b:Int)=0):=by omega
   rw [decide_eq_true h1,yag,decide_eq_false h2,qBh,yaF]
   have e:Int.tmod (a:Int) (b:Int)=((a % b:Nat):Int):=by rw [Int.tmod_eq_emod_of_nonneg (by omega)];omega
   rw [e,yF5 x n b (a % b) (by have:=Nat.mod_lt a (show b>0 by omega);omega)]
   rw [Nat.gcd_comm a b,Nat.gcd_rec b a,Nat.gcd_comm]
theorem yv9 (a b:Nat) (K:Int→Prop) (h:K ((Nat.gcd a b:Nat):Int)):ycM (a:Int) (b:Int) K:=by
 unfold ycM ynd
 exact ⟨b+1,by rw [yF5 _ (b+1) a b (by omega)];exact h⟩
def RV (n d:Int):Prop:=1≤d∧d≤1000000000000000000∧-1000000000000000000≤n∧n≤1000000000000000000∧Nat.gcd n.natAbs d.natAbs=1
instance (n d:Int):Decidable (RV n d):=by unfold RV;infer_instance
def chk (n d:Int):Int:=if RV n d then 0 else 8
theorem yzG {n d:Int} (hn:I64 n) (hd:I64 d) {K:Int→Prop} (h:K (chk n d)):ydv n d K:=by
 unfold ydv yjP
 by_cases h1:d<1
 ·have e:chk n d=8:=if_neg fun h=>by have:=h.1;omega
  rw [decide_eq_true h1,yag,← e];exact h
 ·have hd':=hd;have hn':=hn
  unfold I64 at hd' hn'
  have ed:IntKind.u64.wrap d=((d.natAbs:Nat):Int):=by rw [wu64 ⟨by omega,by omega⟩];omega
  rw [decide_eq_false h1,yab,yh9 hn,ed]
  by_cases h2:((if ((d.natAbs:Nat):Int)>((n.natAbs:Nat):Int) then ((d.natAbs:Nat):Int) else ((n.natAbs:Nat):Int))>1000000000000000000)
  ·have e:chk n d=8:=if_neg fun h=>by
    obtain ⟨a1,a2,a3,a4,_⟩:=h
    revert h2;split <;> omega
   rw [decide_eq_true h2,yag,← e];exact h
  ·rw [decide_eq_false h2,yab,yh9 hn]
   refine yv9 _ _ _ ?_
   have h3:0<Nat.gcd n.natAbs d.natAbs:=qBz _ (by omega)
   have h4:d≤1000000000000000000∧-1000000000000000000≤n∧n≤1000000000000000000:=by
    revert h2;split <;> omega
   by_cases h5:((Nat.gcd n.natAbs d.natAbs:Nat):Int)>1
   ·have e:chk n d=8:=if_neg fun h=>by have:=h.2.2.2.2;omega
    rw [decide_eq_true h5,yag,← e];exact h
   ·have e:chk n d=0:=if_pos ⟨by omega,h4.1,h4.2.1,h4.2.2,by omega⟩
    rw [decide_eq_false h5,yab,← e];exact h
end Go.Pf.Vc
namespace Go.Pf.Vc
open Go Go.Pf
theorem yn5 {p:Int} (h:U64 p):IntKind.u64.wrap (BitVec.ofInt IntKind.u64.bits p&&&BitVec.ofInt IntKind.u64.bits (4294967295:Int)).toNat=p % 4294967296:=by
 unfold U64 at h
 have e1:(BitVec.ofInt 64 p).toNat=p.toNat:=by
  rw [BitVec.toNat_ofInt];omega
 have e2:(BitVec.ofInt 64 (4294967295:Int)).toNat=4294967295:=rfl
 have e3:(BitVec.ofInt IntKind.u64.bits p&&&BitVec.ofInt IntKind.u64.bits (4294967295:Int)).toNat=p.toNat % 4294967296:=by
  show (BitVec.ofInt 64 p&&&BitVec.ofInt 64 (4294967295:Int)).toNat=_
  rw [BitVec.toNat_and,e1,e2]
  exact Nat.and_two_pow_sub_one_eq_mod p.toNat 32
 rw [e3,yuA]
 omega
theorem yLz (p:Int):Int.fdiv p 4294967296=p / 4294967296:=by
 rw [Int.fdiv_eq_ediv_of_nonneg _ (by omega)]
theorem ykn {a b:Int} (ha:U64 a) (hb:U64 b) (K:Int→Int→Prop):yfU a b K=K (a*b / 18446744073709551616) (a*b % 18446744073709551616):=by
 unfold yfU ysw
 simp only [yLz]
 rw [yn5 ha,yn5 hb]
 unfold U64 at ha hb
 have ha':=ha;have hb':=hb
 obtain ⟨x1,hx1⟩:∃ x,x=a / 4294967296:=⟨_,rfl⟩
 obtain ⟨x0,hx0⟩:∃ x,x=a % 4294967296:=⟨_,rfl⟩
 obtain ⟨y1,hy1⟩:∃ x,x=b / 4294967296:=⟨_,rfl⟩
 obtain ⟨y0,hy0⟩:∃ x,x=b % 4294967296:=⟨_,rfl⟩
 rw [← hx1,← hx0,← hy1,← hy0]
 have b1:0≤x1∧x1≤4294967295:=by omega
 have b2:0≤x0∧x0≤4294967295:=by omega
 have b3:0≤y1∧y1≤4294967295:=by omega
 have b4:0≤y0∧y0≤4294967295:=by omega
 have pb:∀ x y:Int,0≤x∧x≤4294967295→0≤y∧y≤4294967295→0≤x*y∧x*y≤18446744065119617025:=by
  intro x y hx hy
  refine ⟨qA3 hx.1 hy.1,?_⟩
  have:=Int.mul_le_mul hx.2 hy.2 hy.1 (by omega:(0:Int)≤4294967295)
  omega
 have p1:=pb x1 y1 b1 b3
 have p2:=pb x1 y0 b1 b4
 have p3:=pb x0 y1 b2 b3
 have p4:=pb x0 y0 b2 b4
 have ea:a=x1*4294967296+x0:=by omega
 have eb:b=y1*4294967296+y0:=by omega
 have eab:a*b=x1*y1*18446744073709551616+x1*y0*4294967296+x0*y1*4294967296+x0*y0:=by
  rw [ea,eb];grind
 obtain ⟨P,hP⟩:∃ x,x=x1*y1:=⟨_,rfl⟩
 obtain ⟨Q,hQ⟩:∃ x,x=x1*y0:=⟨_,rfl⟩
 obtain ⟨R,hR⟩:∃ x,x=x0*y1:=⟨_,rfl⟩
 obtain ⟨S,hS⟩:∃ x,x=x0*y0:=⟨_,rfl⟩
 rw [← hP] at p1;rw [← hQ] at p2;rw [← hR] at p3;rw [← hS] at p4
 rw [← hP,← hQ,← hR,← hS] at eab ⊢
 have w1:IntKind.u64.wrap S=S:=wu64 ⟨by omega,by omega⟩
 have w2:IntKind.u64.wrap Q=Q:=wu64 ⟨by omega,by omega⟩
 have w3:IntKind.u64.wrap R=R:=wu64 ⟨by omega,by omega⟩
 have w4:IntKind.u64.wrap P=P:=wu64 ⟨by omega,by omega⟩
 rw [w1,w2,w3,w4]
 have w5:IntKind.u64.wrap (Q+S / 4294967296)=Q+S / 4294967296:=wu64 ⟨by omega,by omega⟩
 rw [w5,yn5 ⟨by omega,by omega⟩]
 have w6:IntKind.u64.wrap ((Q+S / 4294967296) % 4294967296+R)=(Q+S / 4294967296) % 4294967296+R:=wu64 ⟨by omega,by omega⟩
 rw [w6]
 have w7:IntKind.u64.wrap (P+(Q+S / 4294967296) / 4294967296)=P+(Q+S / 4294967296) / 4294967296:=by
  have:a*b / 18446744073709551616≤18446744073709551615:=by
   have h1:a*b≤18446744073709551615*18446744073709551615:=by
    have:=Int.mul_le_mul ha'.2 hb'.2 hb'.1 (by omega:(0:Int)≤18446744073709551615)
    exact this
   omega
  exact wu64 ⟨by omega,by omega⟩
 rw [w7]
 have hab:a*b≤18446744073709551615*18446744073709551615:=Int.mul_le_mul ha'.2 hb'.2 hb'.1 (by omega:(0:Int)≤18446744073709551615)
 rw [eab] at hab ⊢
 rw [yuA,yuA]
 congr 1
 omega
theorem yOH {a b:Int} {K:Int→Prop} (h:K (if a=0 then b else a)):yeO [.int .i64 a,.int .i64 b] K:=by
 unfold yeO yf4
 refine ⟨3,?_⟩
 have e1:IntKind.i64.wrap 1=1:=by decide
 have e2:IntKind.i64.wrap 2=2:=by decide
 by_cases ha:a=0
 ·by_cases hb:b=0
  ·simp [ybT,yag,yab,yaF,conf,yoo,yaa,e1,e2,ha,hb] at h ⊢;exact h
  ·have e3:(b != 0)=true:=by simpa using hb
   simp [ybT,yag,yab,yaF,conf,yoo,yaa,e1,e2,ha,e3] at h ⊢;exact h
 ·have e3:(a != 0)=true:=by simpa using ha
  simp [ybT,yag,yab,yaF,conf,yoo,yaa,e1,e2,ha,e3] at h ⊢;exact h
def chk2 (a b c d:Int):Int:=if chk a b=0 then chk c d else chk a b
theorem yqd {a b c d:Int} (ha:I64 a) (hb:I64 b) (hc:I64 c) (hd:I64 d) {K:Int→Prop} (h:K (chk2 a b c d)):ydw a b c d K:=by
 unfold ydw yjR
 exact yzG ha hb (yzG hc hd (yOH h))
end Go.Pf.Vc
namespace Go.Pf.Vc
open Go Go.Pf
def cmp3 (a b:Int):Int:=if a<b then -1 else if a>b then 1 else 0
theorem yEj (a b:Int) (K:Int→Prop):yeu a b K=K (cmp3 a b):=by
 unfold yeu yfB
 simp only [yhg,ygz,bne_self_eq_false,yab,cmp3]
 by_cases h:a<b
 ·simp [h,yag]
 ·by_cases h2:a>b
  ·simp [h,h2,yag,yab]
  ·simp [h,h2,yab]
theorem yuB (a b:Int) (K:Int→Prop):yea a b K=K (cmp3 a b):=by
 unfold yea yfd
 simp only [ygA,yf6,bne_self_eq_false,yab,cmp3]
 by_cases h:a<b
 ·simp [h,yag]
 ·by_cases h2:a>b
  ·simp [h,h2,yag,yab]
  ·simp [h,h2,yab]
theorem yNl {a b:Int} {K:Int→Prop} (h:K (if a=0 then b else a)):yja [.int .i64 a,.int .i64 b] K:=by
 unfold yja yk4
 refine ⟨3,?_⟩
 have e1:IntKind.i64.wrap 1=1:=by decide
 have e2:IntKind.i64.wrap 2=2:=by decide
 by_cases ha:a=0
 ·by_cases hb:b=0
  ·simp [ydD,yag,yab,yaF,conf,yoo,yaa,e1,e2,ha,hb] at h ⊢;exact h
  ·have e3:(b != 0)=true:=by simpa using hb
   simp [ydD,yag,yab,yaF,conf,yoo,yaa,e1,e2,ha,e3] at h ⊢;exact h
 ·have e3:(a != 0)=true:=by simpa using ha
  simp [ydD,yag,yab,yaF,conf,yoo,yaa,e1,e2,ha,e3] at h ⊢;exact h
theorem ydc {a b c d:Int}:chk2 a b c d=0↔RV a b∧RV c d:=by
 unfold chk2 chk
 by_cases h1:RV a b <;> by_cases h2:RV c d <;> simp [h1,h2]
def cmpR (a b c d:Int):Int:=cmp3 (a*d) (c*b)
theorem yKe {x y:Int} (_:0≤x) (_:0≤y):(if cmp3 (x / 18446744073709551616) (y / 18446744073709551616)=0 then cmp3 (x % 18446744073709551616) (y % 18446744073709551616) else cmp3 (x / 18446744073709551616) (y / 18446744073709551616))=cmp3 x y:=by
 unfold cmp3
 split <;> rename_i h <;> revert h <;> repeat' split <;> intro h <;> omega
theorem U64.abs {n:Int} (h:I64 n):U64 ((n.natAbs:Nat):Int):=by unfold I64 at h;unfold U64;omega
theorem yLA {a b c d:Int} (ha:I64 a) (hb:I64 b) (hc:I64 c) (hd:I64 d) {K:Int→Int→Prop} (h:K (if chk2 a b c d=0 then cmpR a b c d else 0) (chk2 a b c d)):ycY a b c d K:=by
 unfold ycY ynh
 refine yqd ha hb hc hd ?_
 by_cases hk:chk2 a b c d=0
 ·rw [if_pos hk] at h
  rw [hk] at h ⊢
  obtain ⟨⟨b1,b2,a1,a2,_⟩,d1,d2,c1,c2,_⟩:=ydc.1 hk
  simp only [bne_self_eq_false,yab]
  by_cases hs:decide (a<0)=decide (c<0)
  ·have e:(decide (a<0) != decide (c<0))=false:=by rw [hs];simp
   rw [e,yab,yh9 ha,wu64 ⟨by omega,by omega⟩,ykn (U64.abs ha) ⟨by omega,by omega⟩,yh9 hc,wu64 ⟨by omega,by omega⟩,ykn (U64.abs hc) ⟨by omega,by omega⟩,yuB,yuB]
   refine yNl ?_
   have p1:0≤((a.natAbs:Nat):Int)*d:=qA3 (by omega) (by omega)
   have p2:0≤((c.natAbs:Nat):Int)*b:=qA3 (by omega) (by omega)
   rw [yKe p1 p2]
   by_cases hneg:a<0
   ·have hcn:c<0:=by simpa [hneg] using hs.symm
    rw [decide_eq_true hneg,yag]
    have e1:((a.natAbs:Nat):Int)*d=-(a*d):=by
     rw [show ((a.natAbs:Nat):Int)=-a by omega,Int.neg_mul]
    have e2:((c.natAbs:Nat):Int)*b=-(c*b):=by
     rw [show ((c.natAbs:Nat):Int)=-c by omega,Int.neg_mul]
    have e3:IntKind.i64.wrap (0-cmp3 (((a.natAbs:Nat):Int)*d) (((c.natAbs:Nat):Int)*b))=cmpR a b c d:=by
     rw [e1,e2]
     unfold cmpR cmp3
     rw [wi64 (by unfold I64;repeat' split <;> omega)]
     repeat' split <;> omega
    rw [e3];exact h
   ·have hcn:¬c<0:=by simpa [hneg] using hs.symm
    rw [decide_eq_false hneg,yab,show ((a.natAbs:Nat):Int)=a by omega,show ((c.natAbs:Nat):Int)=c by omega]
    exact h
  ·have e:(decide (a<0) != decide (c<0))=true:=by simpa using hs
   rw [e,yag,yEj]
   have e2:cmp3 a c=cmpR a b c d:=by
    unfold cmpR cmp3
    by_cases hneg:a<0
    ·have hcn:¬c<0:=by intro hcn;simp [hneg,hcn] at hs
     have q1:a*d<0:=qBv hneg (by omega)
     have q2:0≤c*b:=qA3 (by omega) (by omega)
     rw [if_pos (by omega),if_pos (by omega)]
    ·have hcn:c<0:=by
      by_cases hcn:c<0
      ·exact hcn
      ·simp [hneg,hcn] at hs
     have q1:c*b<0:=qBv hcn (by omega)
     have q2:0≤a*d:=qA3 (by omega) (by omega)
     rw [if_neg (by omega),if_pos (by omega),if_neg (by omega),if_pos (by omega)]
   rw [e2];exact h
 ·rw [if_neg hk] at h
  have e:(chk2 a b c d != 0)=true:=by simpa using hk
  rw [e,yag];exact h
end Go.Pf.Vc
namespace Go.Pf.Vc
open Go Go.Pf
def blen (x:Nat):Nat:=if x=0 then 0 else x.log2+1
theorem yI1 (x:Nat):x<2 ^ blen x:=by
 unfold blen
 split
 ·rename_i h;subst h;decide
 ·exact Nat.lt_log2_self
theorem yxQ {x:Nat} (h:x≠0):2 ^ (blen x-1)≤x:=by
 unfold blen
 rw [if_neg h]
 exact Nat.log2_self_le h
theorem yNm {x m:Nat} (h1:2 ^ m≤x) (h2:x<2 ^ (m+1)):blen x=m+1:=by
 have hx:x≠0:=by have:=Nat.two_pow_pos m;omega
 unfold blen
 rw [if_neg hx]
 congr 1
 have a:=Nat.log2_self_le hx
 have b:=Nat.lt_log2_self (n:=x)
 have c1:¬(x.log2<m):=fun h=>by
  have:=Nat.pow_le_pow_right (show 0<2 by omega) (show x.log2+1≤m by omega)
  omega
 have c2:¬(m<x.log2):=fun h=>by
  have:=Nat.pow_le_pow_right (show 0<2 by omega) (show m+1≤x.log2 by omega)
  omega
 omega
theorem yLB {x k:Nat} (h:2 ^ k≤x):blen x=k+blen (x / 2 ^ k):=by
 have hp:=Nat.two_pow_pos k
 have hq:x / 2 ^ k≠0:=by
  have:=Nat.div_pos h hp
  omega
 have h1:=yxQ hq
 have h2:=yI1 (x / 2 ^ k)
 obtain ⟨m,hm⟩:∃ m,blen (x / 2 ^ k)=m+1:=⟨blen (x / 2 ^ k)-1,by
  have:blen (x / 2 ^ k)≠0:=by unfold blen;rw [if_neg hq];omega
  omega⟩
 rw [hm] at h1 h2 ⊢
 rw [Nat.add_sub_cancel] at h1
 have:=yNm (x:=x) (m:=k+m) (by
   rw [Nat.pow_add]
   calc 2 ^ k*2 ^ m≤2 ^ k*(x / 2 ^ k):=Nat.mul_le_mul_left _ h1
    _≤x:=Nat.mul_div_le _ _) (by
   rw [show k+m+1=k+(m+1) by omega,Nat.pow_add]
   rw [Nat.mul_comm]
   exact (Nat.div_lt_iff_lt_mul hp).1 h2)
 omega
theorem yOI:∀ x:Nat,x<256→yaa (List.getD yg6 x .nils)=(blen x:Int):=by decide +kernel
theorem wu8 {n:Int} (h0:0≤n) (h1:n<256):IntKind.u8.wrap n=n:=by
 have e1:(2:Int) ^ 8=256:=rfl
 simp only [IntKind.wrap,IntKind.signed,IntKind.bits,qBc,qAr,if_false,e1]
 omega
theorem yNn {n:Int} (h0:0≤n) (h1:n<256):yaa (List.getD yg6 (IntKind.u8.wrap n).toNat .nils)=(blen n.toNat:Int):=by
 rw [wu8 h0 h1]
 exact yOI n.toNat (by omega)
theorem yPk {n:Nat} (h:n<256):blen n≤8:=by
 by_cases h0:n=0
 ·subst h0;decide
 ·have:=yxQ h0
  have h2:blen n-1<8:=by
   refine Nat.lt_of_not_le fun hc=>?_
   have:=Nat.pow_le_pow_right (show 0<2 by omega) hc
   omega
  omega
theorem ywI {n k:Int} (h0:0≤n) (h1:n<256) (hk:0≤k∧k≤56) {m:Int} (hm:m=k+blen n.toNat) {K:Int→Prop} (h:K m) :
  asr (decide ((0:Int)≤(IntKind.u8.wrap n))) (asr (decide ((IntKind.u8.wrap n)<(256:Int))) (K (IntKind.i64.wrap (k+(IntKind.i64.wrap (yaa (List.getD yg6 ((IntKind.u8.wrap n).toNat) .nils))))))):=by
 have hb:=yPk (n:=n.toNat) (by omega)
 have e1:IntKind.i64.wrap (blen n.toNat:Int)=blen n.toNat:=wi64 (by unfold I64;omega)
 have e2:IntKind.i64.wrap (k+blen n.toNat:Int)=k+blen n.toNat:=wi64 (by unfold I64;omega)
 rw [yNn h0 h1,wu8 h0 h1,decide_eq_true h0,yaF,decide_eq_true h1,yaF,e1,e2,← hm]
 exact h
theorem yzH (p q:Int) (hq:0≤q):Int.fdiv p q=p / q:=Int.fdiv_eq_ediv_of_nonneg _ hq
theorem yLC {p:Int} (hp:U64 p) {K:Int→Prop} (h:K (blen p.toNat:Int)):yqI p K:=by
 unfold U64 at hp
 unfold yqI ysy
 simp only [yzH _ 4294967296 (by omega),yzH _ 65536 (by omega),yzH _ 256 (by omega)]
 have key:∀ (k:Nat) (q:Int),2 ^ k≤p.toNat→q=p / (2 ^ k:Nat)→(blen p.toNat:Int)=k+blen q.toNat:=by
  intro k q hk hq
  have e:q.toNat=p.toNat / 2 ^ k:=by
   rw [hq]
   obtain ⟨m,rfl⟩:∃ m:Nat,p=m:=⟨p.toNat,by omega⟩
   rw [← qBu,qAe,qAe]
  rw [e]
  have:=yLB hk
  omega
 by_cases h1:p≥4294967296
 ·rw [decide_eq_true h1,yag]
  by_cases h2:p / 4294967296≥65536
  ·rw [decide_eq_true h2,yag]
   by_cases h3:p / 4294967296 / 65536≥256
   ·rw [decide_eq_true h3,yag]
    exact ywI (by omega) (by omega) (by omega) (key 56 _ (by omega) (by omega)) h
   ·rw [decide_eq_false h3,yab]
    exact ywI (by omega) (by omega) (by omega) (key 48 _ (by omega) (by omega)) h
  ·rw [decide_eq_false h2,yab]
   by_cases h3:p / 4294967296≥256
   ·rw [decide_eq_true h3,yag]
    exact ywI (by omega) (by omega) (by omega) (key 40 _ (by omega) (by omega)) h
   ·rw [decide_eq_false h3,yab]
    exact ywI (by omega) (by omega) (by omega) (key 32 _ (by omega) (by omega)) h
 ·rw [decide_eq_false h1,yab]
  by_cases h2:p≥65536
  ·rw [decide_eq_true h2,yag]
   by_cases h3:p / 65536≥256
   ·rw [decide_eq_true h3,yag]
    exact ywI (by omega) (by omega) (by omega) (key 24 _ (by omega) (by omega)) h
   ·rw [decide_eq_false h3,yab]
    exact ywI (by omega) (by omega) (by omega) (key 16 _ (by omega) (by omega)) h
  ·rw [decide_eq_false h2,yab]
   by_cases h3:p≥256
   ·rw [decide_eq_true h3,yag]
    exact ywI (by omega) (by omega) (by omega) (key 8 _ (by omega) (by omega)) h
   ·rw [decide_eq_false h3,yab]
    exact ywI (by omega) (by omega) (by omega) (by simp) h
theorem yuC {p:Int} (hp:U64 p) {K:Int→Prop} (h:K (64-blen p.toNat:Int)):ybO p K:=by
 unfold ybO yf7
 refine yLC hp ?_
 have hb:blen p.toNat≤64:=by
  unfold U64 at hp
  by_cases h0:p.toNat=0
  ·rw [h0];decide
  ·have:=yxQ h0
   have h2:blen p.toNat-1<64:=by
    refine Nat.lt_of_not_le fun hc=>?_
    have:=Nat.pow_le_pow_right (show 0<2 by omega) hc
    omega
   omega
 rw [wi64 (by unfold I64;omega)]
 exact h
end Go.Pf.Vc
namespace Go.Pf.Vc
open Go Go.Pf
structure DI (y a b u un q r:Int):Prop where
 hy:y=a*4294967296+b
 h1:2147483648≤a∧a≤4294967295
 h0:0≤b∧b≤4294967295
 hn:0≤un∧un≤4294967295
 hu:q*a+r=u
 hq:0≤q∧q≤4294967297
 hr:0≤r∧r≤4294967295
 hlt:u<y
 hU:u*4294967296+un<(q+1)*y
def DG (y u un q:Int):Prop:=0≤q∧q≤4294967295∧q*y≤u*4294967296+un∧u*4294967296+un<(q+1)*y
theorem DI.step {y a b u un q r:Int} (h:DI y a b u un q r) {A B C:Prop}
  (hA:DG y u un (q-1)→0≤q-1→q-1≤4294967296→A)
  (hB:DI y a b u un (q-1) (r+a)→B)
  (hC:DG y u un q→C) :
  cbr (decide (q≥(4294967296:Int)))
   (cbr (decide ((IntKind.u64.wrap (r+a))≥(4294967296:Int))) A B)
   (cbr (decide ((IntKind.u64.wrap (q*b))>(IntKind.u64.wrap ((IntKind.u64.wrap ((4294967296:Int)*r))+un))))
    (cbr (decide ((IntKind.u64.wrap (r+a))≥(4294967296:Int))) A B) C):=by
 have h':=h
 obtain ⟨hy,h1,h0,hn,hu,hq,hr,hlt,hU⟩:=h
 have e1:IntKind.u64.wrap (r+a)=r+a:=wu64 ⟨by omega,by omega⟩
 have eq1:q*y=q*a*4294967296+q*b:=by rw [hy];grind
 have eq2:(q-1)*y=q*y-y:=by grind
 have eq3:(q-1)*a=q*a-a:=by grind
 have eq4:(q-1+1)*y=q*y:=by grind
 have eq5:(q-1)*b=q*b-b:=by grind
 have big:u*4294967296+un<q*y→cbr (decide ((IntKind.u64.wrap (r+a))≥(4294967296:Int))) A B:=by
  intro hb
  have q1:0≤q-1:=by
   refine Int.not_lt.1 fun hc=>?_
   have hq0:q=0:=by omega
   subst hq0
   simp at hb hu
   omega
  rw [e1]
  by_cases hc:r+a≥4294967296
  ·rw [decide_eq_true hc,yag]
   have hp:(q-1)*b≤4294967296*4294967295:=Int.mul_le_mul (by omega) h0.2 h0.1 (by omega)
   have hle:(q-1)*y≤u*4294967296+un:=by
    have:(q-1)*y=(q-1)*a*4294967296+(q-1)*b:=by rw [hy];grind
    omega
   have hlt32:q-1≤4294967295:=by
    refine Int.not_lt.1 fun hc=>?_
    have:4294967296*y≤(q-1)*y:=qBg (by omega) (by omega)
    omega
   exact hA ⟨q1,hlt32,hle,by rw [eq4];exact hb⟩ q1 (by omega)
  ·rw [decide_eq_false hc,yab]
   exact hB ⟨hy,h1,h0,hn,by rw [eq3];omega,⟨q1,by omega⟩,⟨by omega,by omega⟩,hlt,by rw [eq4];exact hb⟩
 by_cases ha:q≥4294967296
 ·rw [decide_eq_true ha,yag]
  refine big ?_
  have:4294967296*y≤q*y:=qBg (by omega) (by omega)
  omega
 ·rw [decide_eq_false ha,yab]
  have hp:q*b≤4294967295*4294967295:=Int.mul_le_mul (by omega) h0.2 h0.1 (by omega)
  have hp0:0≤q*b:=qA3 hq.1 h0.1
  have w1:IntKind.u64.wrap (q*b)=q*b:=wu64 ⟨hp0,by omega⟩
  have w2:IntKind.u64.wrap ((4294967296:Int)*r)=4294967296*r:=wu64 ⟨by omega,by omega⟩
  have w3:IntKind.u64.wrap ((4294967296:Int)*r+un)=4294967296*r+un:=wu64 ⟨by omega,by omega⟩
  rw [w1,w2,w3]
  by_cases hb:q*b>4294967296*r+un
  ·rw [decide_eq_true hb,yag]
   exact big (by omega)
  ·rw [decide_eq_false hb,yab]
   exact hC ⟨hq.1,by omega,by omega,hU⟩
theorem yPl (W:Int→(Int→Prop)→Prop) {y a c u un:Int} (s v un0:Int) {x0 x1:Int→Int→Int→Int→Int→Int→Int→Int→Int→Bool→Prop}
  (hx:∀ q r b,DG y u un q→x0 y s a c v un un0 q r b) (hx1:∀ q r b,DG y u un q→x1 y s a c v un un0 q r b) :
  ∀ (n:Nat) (q r:Int) (b:Bool),DI y a c u un q r→4294967296≤r+n*2147483648→ydx W x0 x1 (n+1) y s a c v un un0 q r b:=by
 intro n
 induction n with
 | zero =>
  intro q r b h hn
  have:=h.hr.2
  exact absurd hn (by omega)
 | succ n ih =>
  intro q r b h hn
  unfold ydx
  refine h.step (fun g a1 a2=>?_) (fun g=>?_) (fun g=>hx1 _ _ _ g)
  ·rw [wu64 (n:=q-1) ⟨by omega,by omega⟩]
   exact hx _ _ _ g
  ·have e1:IntKind.u64.wrap (q-1)=q-1:=wu64 ⟨g.hq.1,by have:=g.hq.2;omega⟩
   have e2:IntKind.u64.wrap (r+a)=r+a:=wu64 ⟨g.hr.1,by have:=g.hr.2;omega⟩
   rw [e1,e2]
   exact ih _ _ _ g (by have:=h.h1.1;omega)
theorem yPm (W:Int→(Int→Prop)→Prop) {y a c u un:Int} (s q1 v:Int) {x0 x1:Int→Int→Int→Int→Int→Int→Int→Int→Int→Bool→Prop}
  (hx:∀ q r b,DG y u un q→x0 y s a c un q1 r v q b) (hx1:∀ q r b,DG y u un q→x1 y s a c un q1 r v q b) :
  ∀ (n:Nat) (q r:Int) (b:Bool),DI y a c u un q r→4294967296≤r+n*2147483648→ydy W x0 x1 (n+1) y s a c un q1 r v q b:=by
 intro n
 induction n with
 | zero =>
  intro q r b h hn
  have:=h.hr.2
  exact absurd hn (by omega)
 | succ n ih =>
  intro q r b h hn
  unfold ydy
  refine h.step (fun g a1 a2=>?_) (fun g=>?_) (fun g=>hx1 _ _ _ g)
  ·rw [wu64 (n:=q-1) ⟨by omega,by omega⟩]
   exact hx _ _ _ g
  ·have e1:IntKind.u64.wrap (q-1)=q-1:=wu64 ⟨g.hq.1,by have:=g.hq.2;omega⟩
   have e2:IntKind.u64.wrap (r+a)=r+a:=wu64 ⟨g.hr.1,by have:=g.hr.2;omega⟩
   rw [e1,e2]
   exact ih _ _ _ g (by have:=h.h1.1;omega)
theorem yOJ (W:Int→(Int→Prop)→Prop) {y a c u un:Int} (s v un0:Int) {x0 x1:Int→Int→Int→Int→Int→Int→Int→Int→Int→Bool→Prop}
  (hx:∀ q r b,DG y u un q→x0 y s a c v un un0 q r b) (hx1:∀ q r b,DG y u un q→x1 y s a c v un un0 q r b) (q r:Int) (h:DI y a c u un q r):yh4 W x0 x1 3 y s a c v un un0 q r:=by
 have:=yPl W s v un0 hx hx1 2 q r true h (by have:=h.hr.1;omega)
 unfold ydx at this
 unfold yh4
 exact this
theorem yOK (W:Int→(Int→Prop)→Prop) {y a c u un:Int} (s q1 v:Int) {x0 x1:Int→Int→Int→Int→Int→Int→Int→Int→Int→Bool→Prop}
  (hx:∀ q r b,DG y u un q→x0 y s a c un q1 r v q b) (hx1:∀ q r b,DG y u un q→x1 y s a c un q1 r v q b) (q r:Int) (h:DI y a c u un q r):ye8 W x0 x1 3 y s a c un q1 r v q:=by
 have:=yPm W s q1 v hx hx1 2 q r true h (by have:=h.hr.1;omega)
 unfold ydy at this
 unfold ye8
 exact this
end Go.Pf.Vc
namespace Go.Pf.Vc
open Go Go.Pf
theorem DI.init {y a b u un:Int} (hy:y=a*4294967296+b) (h1:2147483648≤a∧a≤4294967295) (h0:0≤b∧b≤4294967295) (hn:0≤un∧un≤4294967295)
  (hu:0≤u) (hlt:u<y):DI y a b u un (u / a) (u-u / a*a):=by
 have a1:=Int.mul_ediv_add_emod u a
 have a2:=Int.emod_nonneg u (show a≠0 by omega)
 have a3:=Int.emod_lt_of_pos u (show 0<a by omega)
 have a4:u / a*a=a*(u / a):=Int.mul_comm _ _
 have a5:0≤u / a:=Int.ediv_nonneg hu (by omega)
 have a6:u / a≤4294967297:=by
  refine Int.not_lt.1 fun hc=>?_
  have:a*4294967298≤a*(u / a):=Int.mul_le_mul_of_nonneg_left (by omega) (by omega)
  omega
 refine ⟨hy,h1,h0,hn,by omega,⟨a5,a6⟩,⟨by omega,by omega⟩,hlt,?_⟩
 have e:(u / a+1)*y=a*(u / a)*4294967296+a*4294967296+(u / a+1)*b:=by
  obtain ⟨t,ht⟩:∃ t,t=u / a:=⟨_,rfl⟩
  rw [← ht,hy];grind
 have:0≤(u / a+1)*b:=qA3 (by omega) h0.1
 omega
theorem yOb {a b:Int} {k:Nat} (ha:0≤a) (hb:0≤b∧b<2 ^ k) (hab:a*2 ^ k≤18446744073709551615∧b≤18446744073709551615) (hs:a*2 ^ k+b≤18446744073709551615) :
  IntKind.u64.wrap (BitVec.ofInt IntKind.u64.bits (a*2 ^ k)|||BitVec.ofInt IntKind.u64.bits b).toNat=a*2 ^ k+b:=by
 obtain ⟨x,rfl⟩:∃ x:Nat,a=x:=⟨a.toNat,by omega⟩
 obtain ⟨z,rfl⟩:∃ z:Nat,b=z:=⟨b.toNat,by omega⟩
 have ec:((x:Int)*2 ^ k)=((2 ^ k*x:Nat):Int):=by push_cast;exact Int.mul_comm _ _
 rw [ec] at hab hs ⊢
 have hz:z<2 ^ k:=by have:=hb.2;exact_mod_cast this
 have e:(BitVec.ofInt IntKind.u64.bits ((2 ^ k*x:Nat):Int)|||BitVec.ofInt IntKind.u64.bits (z:Int)).toNat=2 ^ k*x+z:=by
  show (BitVec.ofInt 64 ((2 ^ k*x:Nat):Int)|||BitVec.ofInt 64 (z:Int)).toNat=_
  rw [BitVec.toNat_or,BitVec.toNat_ofInt,BitVec.toNat_ofInt]
  have e1:(((2 ^ k*x:Nat):Int) % (2 ^ 64:Nat)).toNat=2 ^ k*x:=by omega
  have e2:((z:Int) % (2 ^ 64:Nat)).toNat=z:=by omega
  rw [e1,e2,Nat.two_pow_add_eq_or_of_lt hz]
 rw [e,wu64 ⟨by omega,by omega⟩]
 push_cast;rfl
theorem yI2 {u un q y:Int} (h0:0≤u*4294967296+un-q*y) (h1:u*4294967296+un-q*y≤18446744073709551615) :
  IntKind.u64.wrap (IntKind.u64.wrap (IntKind.u64.wrap (u*4294967296)+un)-IntKind.u64.wrap (q*y))=u*4294967296+un-q*y:=by
 simp only [yuA]
 omega
theorem ymo {a b:Int} (h:0≤a):Int.tdiv a b=a / b:=Int.tdiv_eq_ediv_of_nonneg h
theorem yOc {a b:Int} (h:0≤a):Int.tmod a b=a % b:=Int.tmod_eq_emod_of_nonneg h
theorem yF6 {h l y:Int} (hh:U64 h) (hl:U64 l) (hy:U64 y) (hlt:h<y) {K:Int→Int→Prop}
  (k:K ((h*18446744073709551616+l) / y) ((h*18446744073709551616+l) % y)):ygM h l y K:=by
 unfold U64 at hh hl hy
 unfold ygM ysz
 have b1:(y ==(0:Int))=false:=beq_eq_false_iff_ne.2 (by omega)
 have b2:decide (y≤h)=false:=decide_eq_false (by omega)
 have b3:(!(decide (y=(0:Int))))=true:=by rw [decide_eq_false (by omega)];rfl
 rw [b1,yab,b2,yab,b3]
 by_cases h0:h=0
 ·subst h0
  have:((0:Int) == 0)=true:=rfl
  rw [this,yag,yaF,yaF,ymo hl.1,yOc hl.1]
  have e:(0:Int)*18446744073709551616+l=l:=by omega
  rw [e] at k
  have b4:l / y≤l:=Int.ediv_le_self _ hl.1
  rw [wu64 ⟨Int.ediv_nonneg hl.1 (by omega),by omega⟩]
  exact k
 ·have b4:(h ==(0:Int))=false:=beq_eq_false_iff_ne.2 h0
  rw [b4,yab]
  refine yuC ⟨by omega,by omega⟩ ?_
  have hyn:y.toNat≠0:=by omega
  have c1:=yI1 y.toNat
  have c2:=yxQ hyn
  have c3:blen y.toNat≤64:=by
   refine Nat.le_of_not_lt fun hc=>?_
   have:=Nat.pow_le_pow_right (show 0<2 by omega) (show 64≤blen y.toNat-1 by omega)
   omega
  have c4:1≤blen y.toNat:=by
   refine Nat.le_of_not_lt fun hc=>?_
   have:blen y.toNat=0:=by omega
   rw [this] at c1
   omega
  obtain ⟨m,hm⟩:∃ m,m=64-blen y.toNat:=⟨_,rfl⟩
  have es:(64-(blen y.toNat:Int))=(m:Int):=by omega
  rw [es]
  have m63:m≤63:=by omega
  have e1:IntKind.u64.wrap (m:Int)=m:=wu64 ⟨by omega,by omega⟩
  have e2:IntKind.u64.wrap ((64:Int)-m)=((64-m:Nat):Int):=by
   rw [wu64 ⟨by omega,by omega⟩];omega
  have e3:min ((m:Int)).toNat IntKind.u64.bits=m:=by
   show min ((m:Int)).toNat 64=m
   rw [qAe];omega
  have e4:min (((64-m:Nat):Int)).toNat IntKind.u64.bits=64-m:=by
   show min (((64-m:Nat):Int)).toNat 64=64-m
   rw [qAe];omega
  simp only [e1]
  rw [e2,e3,e4]
  have p64:(2:Int) ^ (64-m)*2 ^ m=18446744073709551616:=by
   rw [← Int.pow_add,show 64-m+m=64 by omega];rfl
  have p63:(2:Int) ^ (63-m)*2 ^ m=9223372036854775808:=by
   rw [← Int.pow_add,show 63-m+m=63 by omega];rfl
  have tp:(0:Int)<2 ^ m:=Int.pow_pos (by omega)
  have tp':(0:Int)<2 ^ (64-m):=Int.pow_pos (by omega)
  have y1:y<(2:Int) ^ (64-m):=by
   have:blen y.toNat=64-m:=by omega
   rw [this] at c1
   have c1':((y.toNat:Nat):Int)<((2 ^ (64-m):Nat):Int):=by exact_mod_cast c1
   push_cast at c1'
   omega
  have y2:(2:Int) ^ (63-m)≤y:=by
   have:blen y.toNat-1=63-m:=by omega
   rw [this] at c2
   have c2':((2 ^ (63-m):Nat):Int)≤((y.toNat:Nat):Int):=by exact_mod_cast c2
   push_cast at c2'
   omega
  have Y1:y*2 ^ m<18446744073709551616:=by
   have:=Int.mul_lt_mul_of_pos_right y1 tp
   omega
  have Y2:9223372036854775808≤y*2 ^ m:=by
   have:=qBg y2 (show (0:Int)≤2 ^ m by omega)
   omega
  have H1:(h+1)*2 ^ m≤y*2 ^ m:=qBg (by omega) (by omega)
  have H2:(h+1)*2 ^ m=h*2 ^ m+2 ^ m:=by grind
  have H0:0≤h*2 ^ m:=qA3 hh.1 (by omega)
  have fd:Int.fdiv l (2 ^ (64-m))=l / 2 ^ (64-m):=yzH _ _ (by omega)
  have L1:=Int.mul_ediv_add_emod l (2 ^ (64-m))
  have L2:=Int.emod_nonneg l (show (2:Int) ^ (64-m)≠0 by omega)
  have L3:=Int.emod_lt_of_pos l tp'
  have L4:0≤l / 2 ^ (64-m):=Int.ediv_nonneg hl.1 (by omega)
  have L5:l / 2 ^ (64-m)<2 ^ m:=by
   refine Int.ediv_lt_of_lt_mul tp' ?_
   rw [Int.mul_comm,p64];omega
  have w1:IntKind.u64.wrap (y*2 ^ m)=y*2 ^ m:=wu64 ⟨by omega,by omega⟩
  have w2:IntKind.u64.wrap (h*2 ^ m)=h*2 ^ m:=wu64 ⟨by omega,by omega⟩
  have w3:IntKind.u64.wrap (BitVec.ofInt IntKind.u64.bits (h*2 ^ m)|||BitVec.ofInt IntKind.u64.bits (l / 2 ^ (64-m))).toNat=h*2 ^ m+l / 2 ^ (64-m) :=
   yOb hh.1 ⟨L4,L5⟩ ⟨by omega,by omega⟩ (by omega)
  have w4:IntKind.u64.wrap (l*2 ^ m)=l % 2 ^ (64-m)*2 ^ m:=by
   have e:l*2 ^ m=(l / 2 ^ (64-m))*18446744073709551616+l % 2 ^ (64-m)*2 ^ m:=by
    rw [← p64]
    obtain ⟨a,ha⟩:∃ a,a=l / 2 ^ (64-m):=⟨_,rfl⟩
    obtain ⟨b,hb⟩:∃ b,b=l % 2 ^ (64-m):=⟨_,rfl⟩
    obtain ⟨t,ht⟩:∃ t,t=(2:Int) ^ m:=⟨_,rfl⟩
    obtain ⟨t',ht'⟩:∃ t,t=(2:Int) ^ (64-m):=⟨_,rfl⟩
    rw [← ha,← hb,← ht'] at L1
    rw [← ha,← hb,← ht,← ht']
    rw [← L1];grind
   have e5:l % 2 ^ (64-m)*2 ^ m<18446744073709551616:=by
    rw [← p64];exact Int.mul_lt_mul_of_pos_right L3 tp
   have e6:0≤l % 2 ^ (64-m)*2 ^ m:=qA3 L2 (by omega)
   rw [e,yuA];omega
  have e5:l % 2 ^ (64-m)*2 ^ m<18446744073709551616:=by
   rw [← p64];exact Int.mul_lt_mul_of_pos_right L3 tp
  have e6:0≤l % 2 ^ (64-m)*2 ^ m:=qA3 L2 (by omega)
  have eN:(h*18446744073709551616+l)*2 ^ m=(h*2 ^ m+l / 2 ^ (64-m))*18446744073709551616+l % 2 ^ (64-m)*2 ^ m:=by
   rw [← p64]
   obtain ⟨a,ha⟩:∃ a,a=l / 2 ^ (64-m):=⟨_,rfl⟩
   obtain ⟨b,hb⟩:∃ b,b=l % 2 ^ (64-m):=⟨_,rfl⟩
   obtain ⟨t,ht⟩:∃ t,t=(2:Int) ^ m:=⟨_,rfl⟩
   obtain ⟨t',ht'⟩:∃ t,t=(2:Int) ^ (64-m):=⟨_,rfl⟩
   rw [← ha,← hb,← ht'] at L1
   rw [← ha,← hb,← ht,← ht']
   rw [← L1];grind
  have U1:h*2 ^ m+l / 2 ^ (64-m)<y*2 ^ m:=by omega
  have U0:0≤h*2 ^ m+l / 2 ^ (64-m):=by omega
  rw [fd,w1,w2,w3,w4]
  have b5:(!(decide ((m:Int)<0)))=true:=by rw [decide_eq_false (by omega)];rfl
  have b6:(!(decide (((64-m:Nat):Int)<0)))=true:=by rw [decide_eq_false (by omega)];rfl
  rw [b5,b6,yaF,yaF,yaF,yaF]
  generalize h*2 ^ m+l / 2 ^ (64-m)=u at *
  generalize hl0:l % 2 ^ (64-m)*2 ^ m=v at *
  generalize hY:y*2 ^ m=Y at *
  rw [yzH Y _ (by omega),yzH v _ (by omega),yn5 ⟨by omega,by omega⟩,yn5 ⟨by omega,by omega⟩,ymo U0]
  have b7:(!(decide (Y / 4294967296=(0:Int))))=true:=by rw [decide_eq_false (by omega)];rfl
  rw [b7,yaF]
  obtain ⟨c,hyn1⟩:∃ a,a=Y / 4294967296:=⟨_,rfl⟩
  obtain ⟨d,hyn0⟩:∃ a,a=Y % 4294967296:=⟨_,rfl⟩
  obtain ⟨un1,hun1⟩:∃ a,a=v / 4294967296:=⟨_,rfl⟩
  obtain ⟨un0,hun0⟩:∃ a,a=v % 4294967296:=⟨_,rfl⟩
  rw [← hyn1,← hyn0,← hun1,← hun0]
  have d1:2147483648≤c∧c≤4294967295:=by omega
  have d0:0≤d∧d≤4294967295:=by omega
  have dn1:0≤un1∧un1≤4294967295:=by omega
  have dn0:0≤un0∧un0≤4294967295:=by omega
  have dY:Y=c*4294967296+d:=by omega
  have g1:=DI.init dY d1 d0 dn1 U0 U1
  have x1:IntKind.u64.wrap (u / c)=u / c:=wu64 ⟨g1.hq.1,by have:=g1.hq.2;omega⟩
  have x2:IntKind.u64.wrap (u-IntKind.u64.wrap (u / c*c))=u-u / c*c:=by
   have r1:=g1.hr.1
   have r2:0≤u / c*c:=qA3 g1.hq.1 (by omega)
   have r3:=g1.hr.2
   rw [wu64 (n:=u / c*c) ⟨r2,by omega⟩,wu64 ⟨r1,by omega⟩]
  rw [x1,x2]
  have fin:∀ q1:Int,DG Y u un1 q1→∀ (un21:Int),un21=u*4294967296+un1-q1*Y→∀ q0,DG Y un21 un0 q0 →
    K (IntKind.u64.wrap ((IntKind.u64.wrap (q1*(4294967296:Int)))+q0)) (Int.fdiv (IntKind.u64.wrap ((IntKind.u64.wrap ((IntKind.u64.wrap (un21*(4294967296:Int)))+un0))-(IntKind.u64.wrap (q0*Y)))) (2 ^ (min ((m:Int)).toNat IntKind.u64.bits))):=by
   intro q1 G1 un21 e21 q0 G0
   obtain ⟨a1,a2,a3,a4⟩:=G1
   obtain ⟨c1,c2,c3,c4⟩:=G0
   have s1:(q1+1)*Y=q1*Y+Y:=by grind
   have s0:(q0+1)*Y=q0*Y+Y:=by grind
   have w5:IntKind.u64.wrap (q1*4294967296)=q1*4294967296:=wu64 ⟨by omega,by omega⟩
   have w6:IntKind.u64.wrap (q1*4294967296+q0)=q1*4294967296+q0:=wu64 ⟨by omega,by omega⟩
   rw [yI2 (by omega) (by omega),w5,w6,e3,yzH _ _ (by omega)]
   have eT:un21*4294967296+un0-q0*Y=(h*18446744073709551616+l-(q1*4294967296+q0)*y)*2 ^ m:=by
    have f1:(q1*4294967296+q0)*Y=q1*Y*4294967296+q0*Y:=by grind
    have f2:(h*18446744073709551616+l-(q1*4294967296+q0)*y)*2 ^ m=(h*18446744073709551616+l)*2 ^ m-(q1*4294967296+q0)*Y:=by
     rw [← hY,Int.sub_mul,Int.mul_assoc (q1*4294967296+q0)]
    rw [f2,f1,eN]
    omega
   rw [eT,Int.mul_ediv_cancel _ (by omega)]
   have r0:0≤h*18446744073709551616+l-(q1*4294967296+q0)*y:=by
    refine Int.not_lt.1 fun hc=>?_
    have:=qBv hc tp
    omega
   have r1:h*18446744073709551616+l-(q1*4294967296+q0)*y<y:=by
    refine Int.not_le.1 fun hc=>?_
    have:=qBg hc (show (0:Int)≤2 ^ m by omega)
    omega
   obtain ⟨Q,hQ⟩:∃ Q,Q=q1*4294967296+q0:=⟨_,rfl⟩
   rw [← hQ] at r0 r1 ⊢
   have z1:(h*18446744073709551616+l) / y=Q:=by
    have:h*18446744073709551616+l=(h*18446744073709551616+l-Q*y)+Q*y:=by omega
    rw [this,Int.add_mul_ediv_right _ _ (by omega),Int.ediv_eq_zero_of_lt r0 r1];omega
   have z2:(h*18446744073709551616+l) % y=h*18446744073709551616+l-Q*y:=by
    have:=Int.mul_ediv_add_emod (h*18446744073709551616+l) y
    rw [z1,Int.mul_comm] at this
    omega
   rw [z1,z2] at k
   exact k
  have mid:∀ q:Int,DG Y u un1 q→∀ (X:Int→Int→Int→Int→Int→Int→Int→Int→Int→Bool→Prop),(∀ q0 r0 b0,DG Y (u*4294967296+un1-q*Y) un0 q0→X Y m c d un0 q r0 (u*4294967296+un1-q*Y) q0 b0) →
    asr (!(decide (c=(0:Int)))) (∃ n:Nat,ye8 ybO X X n Y m c d un0 q ((IntKind.u64.wrap ((IntKind.u64.wrap ((IntKind.u64.wrap ((IntKind.u64.wrap (u*(4294967296:Int)))+un1))-(IntKind.u64.wrap (q*Y))))-(IntKind.u64.wrap ((IntKind.u64.wrap (Int.tdiv (IntKind.u64.wrap ((IntKind.u64.wrap ((IntKind.u64.wrap (u*(4294967296:Int)))+un1))-(IntKind.u64.wrap (q*Y)))) c))*c))))) (IntKind.u64.wrap ((IntKind.u64.wrap ((IntKind.u64.wrap (u*(4294967296:Int)))+un1))-(IntKind.u64.wrap (q*Y)))) (IntKind.u64.wrap (Int.tdiv (IntKind.u64.wrap ((IntKind.u64.wrap ((IntKind.u64.wrap (u*(4294967296:Int)))+un1))-(IntKind.u64.wrap (q*Y)))) c))):=by
   intro q G X hX
   obtain ⟨a1,a2,a3,a4⟩:=G
   have s1:(q+1)*Y=q*Y+Y:=by grind
   have b8:(!(decide (c=(0:Int))))=true:=by rw [decide_eq_false (by omega)];rfl
   rw [b8,yaF,yI2 (by omega) (by omega),ymo (by omega)]
   have g0:=DI.init dY d1 d0 dn0 (u:=u*4294967296+un1-q*Y) (by omega) (by omega)
   generalize u*4294967296+un1-q*Y=u2 at *
   have x1:IntKind.u64.wrap (u2 / c)=u2 / c:=wu64 ⟨g0.hq.1,by have:=g0.hq.2;omega⟩
   have x2:IntKind.u64.wrap (u2-IntKind.u64.wrap (u2 / c*c))=u2-u2 / c*c:=by
    have r1:=g0.hr.1
    have r2:0≤u2 / c*c:=qA3 g0.hq.1 (by omega)
    have r3:=g0.hr.2
    have r4:=g0.hlt
    rw [wu64 (n:=u2 / c*c) ⟨r2,by omega⟩,wu64 ⟨r1,by omega⟩]
   rw [x1,x2]
   exact ⟨3,yOK _ _ _ _ (fun q0 r0 b0 g=>hX q0 r0 b0 g) (fun q0 r0 b0 g=>hX q0 r0 b0 g) _ _ g0⟩
  have leaf:∀ {P:Prop},P→asr (!(decide ((m:Int)<0))) P:=fun p=>by rw [b5,yaF];exact p
  refine ⟨3,yOJ _ _ _ _ (fun q r b G=>?_) (fun q r b G=>?_) _ _ g1⟩
  ·exact mid q G _ (fun q0 r0 b0 G0=>leaf (fin q G _ rfl q0 G0))
  ·exact mid q G _ (fun q0 r0 b0 G0=>leaf (fin q G _ rfl q0 G0))
end Go.Pf.Vc
namespace Go.Pf.Vc
open Go Go.Pf
theorem yLD {h l y:Int} (hh:U64 h) (hl:U64 l) (hy:U64 y) (h0:0<y) {K:Int→Prop}
  (k:K ((h*18446744073709551616+l) % y)):yhL h l y K:=by
 unfold yhL ysB
 have b3:(!(decide (y=(0:Int))))=true:=by rw [decide_eq_false (by omega)];rfl
 have a1:=Int.emod_nonneg h (show y≠0 by omega)
 have a2:=Int.emod_lt_of_pos h h0
 have hh':=hh
 unfold U64 at hh hy
 rw [b3,yaF,yOc hh.1]
 refine yF6 ⟨a1,by omega⟩ hl ⟨by omega,by omega⟩ a2 ?_
 have e:(h % y*18446744073709551616+l) % y=(h*18446744073709551616+l) % y:=by
  rw [Int.add_emod,Int.mul_emod,Int.emod_emod,← Int.mul_emod,← Int.add_emod]
 rw [e]
 exact k
def outS (s:Bool) (a b:Int) (K:Int→Int→Int→Prop):Prop :=
 if a≤1000000000000000000∧b≤1000000000000000000 then K (if s then -a else a) b 0 else K 0 0 16
theorem yqJ {s:Bool} {a b:Int} (ha:0≤a) (hb:0≤b) (K:Int→Int→Int→Prop):ycD s a b K=outS s a b K:=by
 unfold ycD yiG outS
 by_cases h:a≤1000000000000000000∧b≤1000000000000000000
 ·have e:decide ((if b>a then b else a)>(1000000000000000000:Int))=false:=by
   refine decide_eq_false ?_
   split <;> omega
  have w1:IntKind.i64.wrap a=a:=wi64 ⟨by omega,by omega⟩
  have w2:IntKind.i64.wrap b=b:=wi64 ⟨by omega,by omega⟩
  have w3:IntKind.i64.wrap (0-a)=-a:=by rw [wi64 ⟨by omega,by omega⟩];omega
  rw [e,yab,if_pos h,w1,w2,w3]
  cases s
  ·rfl
  ·rfl
 ·have e:decide ((if b>a then b else a)>(1000000000000000000:Int))=true:=by
   refine decide_eq_true ?_
   split <;> omega
  rw [e,yag,if_neg h]
theorem Make_of {n d:Int} (hn:I64 n) (hd:I64 d) {K:Int→Int→Int→Prop}
  (k:if d=0 then K 0 0 18 else outS (decide (n<0) != decide (d<0)) ((n.natAbs / Nat.gcd n.natAbs d.natAbs:Nat):Int) ((d.natAbs / Nat.gcd n.natAbs d.natAbs:Nat):Int) K):yam n d K:=by
 unfold yam yk6
 by_cases h:d=0
 ·rw [if_pos h] at k
  have:(d ==(0:Int))=true:=beq_iff_eq.2 h
  rw [this,yag]
  exact k
 ·rw [if_neg h] at k
  have:(d ==(0:Int))=false:=beq_eq_false_iff_ne.2 h
  rw [this,yab,yh9 hn,yh9 hd]
  refine yv9 _ _ _ ?_
  have gp:0<Nat.gcd n.natAbs d.natAbs:=qBz _ (by omega)
  have b3:(!(decide (((Nat.gcd n.natAbs d.natAbs:Nat):Int)=(0:Int))))=true:=by rw [decide_eq_false (by omega)];rfl
  unfold I64 at hn hd
  have u1:n.natAbs / Nat.gcd n.natAbs d.natAbs≤n.natAbs:=qCb _ _
  have u2:d.natAbs / Nat.gcd n.natAbs d.natAbs≤d.natAbs:=qCb _ _
  rw [b3,yaF,yaF,ymo (by omega),ymo (by omega),← qBu,← qBu]
  generalize n.natAbs / Nat.gcd n.natAbs d.natAbs=A at *
  generalize d.natAbs / Nat.gcd n.natAbs d.natAbs=B at *
  rw [wu64 (n:=(A:Int)) ⟨by omega,by omega⟩,wu64 (n:=(B:Int)) ⟨by omega,by omega⟩,yqJ (by omega) (by omega)]
  exact k
end Go.Pf.Vc
namespace Go.Pf.Vc
open Go Go.Pf
def numM (a c:Int) (b d:Int):Nat:=(a.natAbs / Nat.gcd a.natAbs d.natAbs)*(c.natAbs / Nat.gcd c.natAbs b.natAbs)
def denM (a c:Int) (b d:Int):Nat:=(b.natAbs / Nat.gcd c.natAbs b.natAbs)*(d.natAbs / Nat.gcd a.natAbs d.natAbs)
theorem yH9 {a b c d:Int} (ha:I64 a) (hb:I64 b) (hc:I64 c) (hd:I64 d) {K:Int→Int→Int→Prop}
  (k:if chk2 a b c d=0 then outS (decide (a<0) != decide (c<0)) (numM a c b d) (denM a c b d) K else K 0 0 (chk2 a b c d)):ycZ a b c d K:=by
 unfold ycZ ynl
 refine yqd ha hb hc hd ?_
 by_cases h:chk2 a b c d=0
 ·rw [if_pos h] at k
  have:(chk2 a b c d !=(0:Int))=false:=by rw [h];rfl
  rw [this,yab,yh9 ha,yh9 hc]
  obtain ⟨⟨b1,b2,a1,a2,_⟩,d1,d2,c1,c2,_⟩:=ydc.1 h
  have wb:IntKind.u64.wrap b=((b.natAbs:Nat):Int):=by rw [wu64 ⟨by omega,by omega⟩];omega
  have wd:IntKind.u64.wrap d=((d.natAbs:Nat):Int):=by rw [wu64 ⟨by omega,by omega⟩];omega
  rw [wb,wd]
  refine yv9 _ _ _ (yv9 _ _ _ ?_)
  unfold numM denM at k
  have g1:0<Nat.gcd a.natAbs d.natAbs:=qBz _ (by omega)
  have g2:0<Nat.gcd c.natAbs b.natAbs:=qBz _ (by omega)
  obtain ⟨g3,h3⟩:∃ g,g=Nat.gcd a.natAbs d.natAbs:=⟨_,rfl⟩
  obtain ⟨g4,h4⟩:∃ g,g=Nat.gcd c.natAbs b.natAbs:=⟨_,rfl⟩
  rw [← h3,← h4] at k ⊢
  rw [← h3] at g1;rw [← h4] at g2
  have n3:(!(decide ((g3:Int)=(0:Int))))=true:=by rw [decide_eq_false (by omega)];rfl
  have n4:(!(decide ((g4:Int)=(0:Int))))=true:=by rw [decide_eq_false (by omega)];rfl
  rw [n3,n4,yaF,yaF,ymo (by omega),ymo (by omega),ymo (by omega),ymo (by omega),← qBu,← qBu,← qBu,← qBu]
  have q1:a.natAbs / g3≤a.natAbs:=qCb _ _
  have q2:c.natAbs / g4≤c.natAbs:=qCb _ _
  have q3:b.natAbs / g4≤b.natAbs:=qCb _ _
  have q4:d.natAbs / g3≤d.natAbs:=qCb _ _
  generalize a.natAbs / g3=A at *
  generalize c.natAbs / g4=C at *
  generalize b.natAbs / g4=B at *
  generalize d.natAbs / g3=D at *
  rw [wu64 (n:=(A:Int)) ⟨by omega,by omega⟩,wu64 (n:=(C:Int)) ⟨by omega,by omega⟩,wu64 (n:=(B:Int)) ⟨by omega,by omega⟩,wu64 (n:=(D:Int)) ⟨by omega,by omega⟩,
   ykn ⟨by omega,by omega⟩ ⟨by omega,by omega⟩,yaF,yaF,ykn ⟨by omega,by omega⟩ ⟨by omega,by omega⟩]
  have m1:A*C≤1000000000000000000*1000000000000000000:=Nat.mul_le_mul (by omega) (by omega)
  have m2:B*D≤1000000000000000000*1000000000000000000:=Nat.mul_le_mul (by omega) (by omega)
  rw [← Int.natCast_mul,← Int.natCast_mul]
  generalize A*C=M at *
  generalize B*D=N at *
  have wm:IntKind.u64.wrap ((M:Int) / 18446744073709551616+(N:Int) / 18446744073709551616)=(M:Int) / 18446744073709551616+(N:Int) / 18446744073709551616:=wu64 ⟨by omega,by omega⟩
  rw [wm]
  by_cases hb:(M:Int) / 18446744073709551616+(N:Int) / 18446744073709551616>0
  ·rw [decide_eq_true hb,yag]
   unfold outS at k
   rw [if_neg (by omega)] at k
   exact k
  ·rw [decide_eq_false hb,yab]
   have eM:(M:Int) % 18446744073709551616=M:=by omega
   have eN:(N:Int) % 18446744073709551616=N:=by omega
   rw [eM,eN]
   by_cases h0:(M:Int)>0
   ·rw [decide_eq_true h0,yag,yqJ (by omega) (by omega)]
    exact k
   ·rw [decide_eq_false h0,yab,yqJ (by omega) (by omega)]
    have hz:M=0:=by omega
    subst hz
    unfold outS at k ⊢
    by_cases hN:(N:Int)≤1000000000000000000
    ·rw [if_pos ⟨by omega,hN⟩] at k ⊢
     have e:(if (decide (a<0) != decide (c<0))=true then -((0:Nat):Int) else ((0:Nat):Int))=0:=by split <;> rfl
     rw [e] at k
     exact k
    ·rw [if_neg (by omega)] at k ⊢
     exact k
 ·rw [if_neg h] at k
  have:(chk2 a b c d !=(0:Int))=true:=by rw [bne_iff_ne];exact h
  rw [this,yag]
  exact k
theorem RV.swap {c d:Int} (h:RV c d) (h0:0<c):RV d c:=by
 obtain ⟨d1,d2,c1,c2,g⟩:=h
 exact ⟨by omega,c2,by omega,d2,by rw [Nat.gcd_comm];exact g⟩
theorem RV.swapn {c d:Int} (h:RV c d) (h0:c<0):RV (-d) (-c):=by
 obtain ⟨d1,d2,c1,c2,g⟩:=h
 exact ⟨by omega,by omega,by omega,by omega,by rw [Int.natAbs_neg,Int.natAbs_neg,Nat.gcd_comm];exact g⟩
theorem yOL {a b c d:Int} (ha:I64 a) (hb:I64 b) (hc:I64 c) (hd:I64 d) {K:Int→Int→Int→Prop}
  (k:if chk2 a b c d=0 then (if c=0 then K 0 0 18 else outS (decide (a<0) != decide (c<0)) (numM a d b c) (denM a d b c) K) else K 0 0 (chk2 a b c d)):ybd a b c d K:=by
 unfold ybd ynn
 refine yqd ha hb hc hd ?_
 by_cases h:chk2 a b c d=0
 ·rw [if_pos h] at k
  have:(chk2 a b c d !=(0:Int))=false:=by rw [h];rfl
  rw [this,yab]
  obtain ⟨hab,hcd⟩:=ydc.1 h
  obtain ⟨d1,d2,c1,c2,_⟩:=id hcd
  by_cases h0:c=0
  ·rw [if_pos h0] at k
   have:(c ==(0:Int))=true:=beq_iff_eq.2 h0
   rw [this,yag]
   exact k
  ·rw [if_neg h0] at k
   have:(c ==(0:Int))=false:=beq_eq_false_iff_ne.2 h0
   rw [this,yab]
   by_cases hn:c<0
   ·rw [decide_eq_true hn] at k
    rw [decide_eq_true hn,yag,wi64 (n:=0-d) ⟨by omega,by omega⟩,wi64 (n:=0-c) ⟨by omega,by omega⟩,Int.zero_sub,Int.zero_sub]
    have e:chk2 a b (-d) (-c)=0:=ydc.2 ⟨hab,hcd.swapn hn⟩
    refine yH9 ha hb ⟨by omega,by omega⟩ ⟨by omega,by omega⟩ ?_
    rw [if_pos e,decide_eq_true (show -d<0 by omega)]
    unfold numM denM at k ⊢
    rw [Int.natAbs_neg,Int.natAbs_neg]
    exact k
   ·rw [decide_eq_false hn] at k
    rw [decide_eq_false hn,yab]
    have e:chk2 a b d c=0:=ydc.2 ⟨hab,hcd.swap (by omega)⟩
    refine yH9 ha hb hd hc ?_
    rw [if_pos e,decide_eq_false (show ¬d<0 by omega)]
    exact k
 ·rw [if_neg h] at k
  have:(chk2 a b c d !=(0:Int))=true:=by rw [bne_iff_ne];exact h
  rw [this,yag]
  exact k
end Go.Pf.Vc
namespace Go.Pf.Vc
open Go Go.Pf
theorem yNo {s:Bool} {hi lo p1 p3:Int} {g:Nat} (hh:U64 hi) (hl:U64 lo) (hg:0<g) (g1:(g:Int)≤1000000000000000000)
   (h1:0≤p1∧p1≤1000000000000000000) (h3:0≤p3∧p3≤1000000000000000000) {K:Int→Int→Int→Prop}
   (k:outS s (((hi*18446744073709551616+lo).toNat / Nat.gcd (hi*18446744073709551616+lo).toNat g:Nat):Int)
    (((p1.toNat / g)*(p3.toNat / Nat.gcd (hi*18446744073709551616+lo).toNat g):Nat):Int) K) :
   (yhL hi lo (g:Int) (fun (b:Int) =>
 (ycM b (g:Int) (fun (a:Int) =>
 (cbr (decide (hi≥a))
 (K (0:Int) (0:Int) (16:Int))
 (ygM hi lo a (fun (c:Int) (_:Int) =>
 (asr (!(decide ((g:Int)=(0:Int))))
 (asr (!(decide (a=(0:Int))))
 (yfU (IntKind.u64.wrap (Int.tdiv (IntKind.u64.wrap p1) (g:Int))) (IntKind.u64.wrap (Int.tdiv (IntKind.u64.wrap p3) a)) (fun (d:Int) (e:Int) =>
 (cbr (decide (d>(0:Int)))
 (K (0:Int) (0:Int) (16:Int))
 (ycD s c e (fun (f:Int) (h:Int) (i:Int) =>
 (K f h i))))))))))))))):=by
  unfold U64 at hh hl
  obtain ⟨X,hX⟩:∃ X:Nat,X=(hi*18446744073709551616+lo).toNat:=⟨_,rfl⟩
  have eX:hi*18446744073709551616+lo=(X:Int):=by omega
  rw [← hX] at k
  refine yLD hh hl ⟨by omega,by omega⟩ (by omega) ?_
  rw [eX,← Int.natCast_emod]
  refine yv9 _ _ _ ?_
  have eg:Nat.gcd (X % g) g=Nat.gcd X g:=by rw [Nat.gcd_comm,Nat.gcd_comm X,Nat.gcd_rec g X,Nat.gcd_comm]
  rw [eg]
  have gp:0<Nat.gcd X g:=qBz _ hg
  have gl:Nat.gcd X g≤g:=Nat.le_of_dvd hg (Nat.gcd_dvd_right _ _)
  generalize Nat.gcd X g=G at *
  by_cases hb:hi≥(G:Int)
  ·rw [decide_eq_true hb,yag]
   unfold outS at k
   have:18446744073709551616≤X / G:=by
    rw [Nat.le_div_iff_mul_le gp]
    omega
   rw [if_neg (by omega)] at k
   exact k
  ·rw [decide_eq_false hb,yab]
   refine yF6 hh hl ⟨by omega,by omega⟩ (by omega) ?_
   rw [eX]
   have n3:(!(decide ((g:Int)=(0:Int))))=true:=by rw [decide_eq_false (by omega)];rfl
   have n4:(!(decide ((G:Int)=(0:Int))))=true:=by rw [decide_eq_false (by omega)];rfl
   have e1:IntKind.u64.wrap p1=(p1.toNat:Int):=by rw [wu64 ⟨by omega,by omega⟩];omega
   have e3:IntKind.u64.wrap p3=(p3.toNat:Int):=by rw [wu64 ⟨by omega,by omega⟩];omega
   rw [n3,n4,yaF,yaF,e1,e3,ymo (by omega),ymo (by omega),← qBu,← qBu,← qBu]
   have q1:p1.toNat / g≤p1.toNat:=qCb _ _
   have q3:p3.toNat / G≤p3.toNat:=qCb _ _
   generalize p1.toNat / g=A at *
   generalize p3.toNat / G=B at *
   generalize X / G=N at *
   rw [wu64 (n:=(A:Int)) ⟨by omega,by omega⟩,wu64 (n:=(B:Int)) ⟨by omega,by omega⟩,ykn ⟨by omega,by omega⟩ ⟨by omega,by omega⟩,← Int.natCast_mul]
   generalize A*B=D at *
   by_cases hd:((D:Int) / 18446744073709551616)>0
   ·rw [decide_eq_true hd,yag]
    unfold outS at k
    rw [if_neg (by omega)] at k
    exact k
   ·rw [decide_eq_false hd,yab]
    have eD:(D:Int) % 18446744073709551616=D:=by omega
    rw [eD,yqJ (by omega) (by omega)]
    exact k
end Go.Pf.Vc
namespace Go.Pf.Vc
open Go Go.Pf
theorem yF7 {p q c:Int} {K:Int→Int→Prop} (hc:c.toNat≤1) (k:K (((p.toNat+q.toNat+c.toNat) % 18446744073709551616:Nat):Int) (((p.toNat+q.toNat+c.toNat) / 18446744073709551616:Nat):Int)):yjk p q c K:=by
 unfold yjk
 rw [decide_eq_true hc,yaF]
 exact k
theorem yF8 {p q c:Int} {K:Int→Int→Prop} (hc:c.toNat≤1) (k:K (((p.toNat+18446744073709551616-q.toNat-c.toNat) % 18446744073709551616:Nat):Int) ((if q.toNat+c.toNat≤p.toNat then 0 else 1:Nat):Int)):yjl p q c K:=by
 unfold yjl
 rw [decide_eq_true hc,yaF]
 have e:(bif Nat.ble (q.toNat+c.toNat) p.toNat then 0 else 1:Nat)=(if q.toNat+c.toNat≤p.toNat then 0 else 1:Nat):=by
  by_cases h:q.toNat+c.toNat≤p.toNat
  ·rw [if_pos h,show Nat.ble (q.toNat+c.toNat) p.toNat=true from Nat.ble_eq_true_of_le h];rfl
  ·rw [if_neg h]
   cases hb:Nat.ble (q.toNat+c.toNat) p.toNat
   ·rfl
   ·exact absurd (qB0 hb) h
 rw [e]
 exact k
theorem yLE {X Y:Int} (hx:0≤X) (hy:0≤Y) (hs:X+Y<340282366920938463463374607431768211456) {F:Int→Int→Int→Int→Prop}
  (h:∀ c1 c2,F ((X+Y) % 18446744073709551616) c1 ((X+Y) / 18446744073709551616) c2) :
  yjk (X % 18446744073709551616) (Y % 18446744073709551616) 0 (fun lo c1=>yjk (X / 18446744073709551616) (Y / 18446744073709551616) c1 (fun hi c2=>F lo c1 hi c2)):=by
 obtain ⟨x,rfl⟩:∃ x:Nat,X=x:=⟨X.toNat,by omega⟩
 obtain ⟨y,rfl⟩:∃ y:Nat,Y=y:=⟨Y.toNat,by omega⟩
 refine yF7 (by decide) (yF7 (by omega) ?_)
 have e1:(((((x:Int) % 18446744073709551616).toNat+((y:Int) % 18446744073709551616).toNat+(0:Int).toNat) % 18446744073709551616:Nat):Int)=((x:Int)+y) % 18446744073709551616:=by omega
 have e2:(((((x:Int) / 18446744073709551616).toNat+((y:Int) / 18446744073709551616).toNat+(((((x:Int) % 18446744073709551616).toNat+((y:Int) % 18446744073709551616).toNat+(0:Int).toNat) / 18446744073709551616:Nat):Int).toNat) % 18446744073709551616:Nat):Int)=((x:Int)+y) / 18446744073709551616:=by omega
 rw [e1,e2]
 exact h _ _
theorem yuD {X Y:Int} (hy:0≤Y) (hxy:Y≤X) (hs:X<340282366920938463463374607431768211456) {F:Int→Int→Int→Int→Prop}
  (h:∀ c1 c2,F ((X-Y) % 18446744073709551616) c1 ((X-Y) / 18446744073709551616) c2) :
  yjl (X % 18446744073709551616) (Y % 18446744073709551616) 0 (fun lo c1=>yjl (X / 18446744073709551616) (Y / 18446744073709551616) c1 (fun hi c2=>F lo c1 hi c2)):=by
 obtain ⟨x,rfl⟩:∃ x:Nat,X=x:=⟨X.toNat,by omega⟩
 obtain ⟨y,rfl⟩:∃ y:Nat,Y=y:=⟨Y.toNat,by omega⟩
 refine yF8 (by decide) (yF8 (by split <;> omega) ?_)
 have e1:(((((x:Int) % 18446744073709551616).toNat+18446744073709551616-((y:Int) % 18446744073709551616).toNat-(0:Int).toNat) % 18446744073709551616:Nat):Int)=((x:Int)-y) % 18446744073709551616:=by omega
 rw [e1]
 by_cases hb:((y:Int) % 18446744073709551616).toNat+(0:Int).toNat≤((x:Int) % 18446744073709551616).toNat
 ·rw [if_pos hb]
  have e2:(((((x:Int) / 18446744073709551616).toNat+18446744073709551616-((y:Int) / 18446744073709551616).toNat-((0:Nat):Int).toNat) % 18446744073709551616:Nat):Int)=((x:Int)-y) / 18446744073709551616:=by omega
  rw [e2]
  exact h _ _
 ·rw [if_neg hb]
  have e2:(((((x:Int) / 18446744073709551616).toNat+18446744073709551616-((y:Int) / 18446744073709551616).toNat-((1:Nat):Int).toNat) % 18446744073709551616:Nat):Int)=((x:Int)-y) / 18446744073709551616:=by omega
  rw [e2]
  exact h _ _
end Go.Pf.Vc
namespace Go.Pf.Vc
open Go Go.Pf
def outA (s:Bool) (Z p1 p3:Int) (g:Nat) (K:Int→Int→Int→Prop):Prop :=
 if Z=0 then K 0 1 0 else outS s ((Z.toNat / Nat.gcd Z.toNat g:Nat):Int) (((p1.toNat / g)*(p3.toNat / Nat.gcd Z.toNat g):Nat):Int) K
theorem yzI {s:Bool} {Z p1 p3:Int} {g:Nat} (hz:0≤Z) (hz2:Z<340282366920938463463374607431768211456) (hg:0<g) (g1:(g:Int)≤1000000000000000000)
   (h1:0≤p1∧p1≤1000000000000000000) (h3:0≤p3∧p3≤1000000000000000000) {K:Int→Int→Int→Prop}
   (k:outA s Z p1 p3 g K) :
   cbr (Z / 18446744073709551616 ==(0:Int)) (cbr (Z % 18446744073709551616 ==(0:Int)) (K 0 1 0) (yhL (Z / 18446744073709551616) (Z % 18446744073709551616) (g:Int) (fun (b:Int) =>
 (ycM b (g:Int) (fun (a:Int) =>
 (cbr (decide ((Z / 18446744073709551616)≥a))
 (K (0:Int) (0:Int) (16:Int))
 (ygM (Z / 18446744073709551616) (Z % 18446744073709551616) a (fun (c:Int) (_:Int) =>
 (asr (!(decide ((g:Int)=(0:Int))))
 (asr (!(decide (a=(0:Int))))
 (yfU (IntKind.u64.wrap (Int.tdiv (IntKind.u64.wrap p1) (g:Int))) (IntKind.u64.wrap (Int.tdiv (IntKind.u64.wrap p3) a)) (fun (d:Int) (e:Int) =>
 (cbr (decide (d>(0:Int)))
 (K (0:Int) (0:Int) (16:Int))
 (ycD s c e (fun (f:Int) (h:Int) (i:Int) =>
 (K f h i)))))))))))))))) (yhL (Z / 18446744073709551616) (Z % 18446744073709551616) (g:Int) (fun (b:Int) =>
 (ycM b (g:Int) (fun (a:Int) =>
 (cbr (decide ((Z / 18446744073709551616)≥a))
 (K (0:Int) (0:Int) (16:Int))
 (ygM (Z / 18446744073709551616) (Z % 18446744073709551616) a (fun (c:Int) (_:Int) =>
 (asr (!(decide ((g:Int)=(0:Int))))
 (asr (!(decide (a=(0:Int))))
 (yfU (IntKind.u64.wrap (Int.tdiv (IntKind.u64.wrap p1) (g:Int))) (IntKind.u64.wrap (Int.tdiv (IntKind.u64.wrap p3) a)) (fun (d:Int) (e:Int) =>
 (cbr (decide (d>(0:Int)))
 (K (0:Int) (0:Int) (16:Int))
 (ycD s c e (fun (f:Int) (h:Int) (i:Int) =>
 (K f h i))))))))))))))):=by
  unfold outA at k
  have eZ:Z / 18446744073709551616*18446744073709551616+Z % 18446744073709551616=Z:=by omega
  by_cases h0:Z=0
  ·rw [if_pos h0] at k
   subst h0
   have e1:((0:Int) / 18446744073709551616 ==(0:Int))=true:=by decide
   have e2:((0:Int) % 18446744073709551616 ==(0:Int))=true:=by decide
   rw [e1,yag,e2,yag]
   exact k
  ·rw [if_neg h0] at k
   have t:=yNo (s:=s) (hi:=Z / 18446744073709551616) (lo:=Z % 18446744073709551616) (p1:=p1) (p3:=p3) (g:=g) (K:=K) ⟨by omega,by omega⟩ ⟨by omega,by omega⟩ hg g1 h1 h3 (by rw [eZ];exact k)
   cases h4:(Z / 18446744073709551616 ==(0:Int))
   ·rw [yab];exact t
   ·rw [yag]
    cases h2:(Z % 18446744073709551616 ==(0:Int))
    ·rw [yab];exact t
    ·have:=beq_iff_eq.1 h2
     have:=beq_iff_eq.1 h4
     exact absurd (show Z=0 by omega) h0
theorem ysX {s s':Bool} {Z Z' p1 p3:Int} {g:Nat} {K:Int→Int→Int→Prop} (k:outA s' Z' p1 p3 g K) (hz:Z=Z') (hs:Z≠0→s=s'):outA s Z p1 p3 g K:=by
 subst hz
 unfold outA at k ⊢
 by_cases h:Z=0
 ·rw [if_pos h] at k ⊢;exact k
 ·rw [if_neg h] at k ⊢;rw [hs h];exact k
theorem yLF {a b c d:Int} (ha:I64 a) (hb:I64 b) (hc:I64 c) (hd:I64 d) {K:Int→Int→Int→Prop}
  (k:if chk2 a b c d=0 then outA (decide (a*(d / (Nat.gcd b.natAbs d.natAbs:Nat))+c*(b / (Nat.gcd b.natAbs d.natAbs:Nat))<0))
    ((a*(d / (Nat.gcd b.natAbs d.natAbs:Nat))+c*(b / (Nat.gcd b.natAbs d.natAbs:Nat))).natAbs:Int) b d (Nat.gcd b.natAbs d.natAbs) K
   else K 0 0 (chk2 a b c d)):yaW a b c d K:=by
 unfold yaW ynj
 refine yqd ha hb hc hd ?_
 by_cases h:chk2 a b c d=0
 ·rw [if_pos h] at k
  have:(chk2 a b c d !=(0:Int))=false:=by rw [h];rfl
  rw [this,yab]
  obtain ⟨⟨b1,b2,a1,a2,_⟩,d1,d2,c1,c2,_⟩:=ydc.1 h
  have wb:IntKind.u64.wrap b=((b.natAbs:Nat):Int):=by rw [wu64 ⟨by omega,by omega⟩];omega
  have wd:IntKind.u64.wrap d=((d.natAbs:Nat):Int):=by rw [wu64 ⟨by omega,by omega⟩];omega
  have g1:0<Nat.gcd b.natAbs d.natAbs:=qBz _ (by omega)
  have g2:Nat.gcd b.natAbs d.natAbs≤d.natAbs:=Nat.le_of_dvd (by omega) (Nat.gcd_dvd_right _ _)
  have go:ycM (IntKind.u64.wrap b) (IntKind.u64.wrap d)=ycM ((b.natAbs:Nat):Int) ((d.natAbs:Nat):Int):=by rw [wb,wd]
  rw [go]
  refine yv9 _ _ _ ?_
  generalize Nat.gcd b.natAbs d.natAbs=g at *
  have n3:(!(decide ((g:Int)=(0:Int))))=true:=by rw [decide_eq_false (by omega)];rfl
  have q1:0≤b / (g:Int):=Int.ediv_nonneg (by omega) (by omega)
  have q2:0≤d / (g:Int):=Int.ediv_nonneg (by omega) (by omega)
  have q3:b / (g:Int)≤b:=Int.ediv_le_self _ (by omega)
  have q4:d / (g:Int)≤d:=Int.ediv_le_self _ (by omega)
  have ed:IntKind.u64.wrap (Int.tdiv (IntKind.u64.wrap d) (g:Int))=d / (g:Int):=by
   rw [wu64 (n:=d) ⟨by omega,by omega⟩,ymo (by omega),wu64 ⟨by omega,by omega⟩]
  have eb:IntKind.u64.wrap (Int.tdiv (IntKind.u64.wrap b) (g:Int))=b / (g:Int):=by
   rw [wu64 (n:=b) ⟨by omega,by omega⟩,ymo (by omega),wu64 ⟨by omega,by omega⟩]
  have ylD:∀ {c:Bool} {P:Prop},c=true→P→asr c P:=fun h p=>by rw [h,yaF];exact p
  rw [yh9 ha]
  refine ylD n3 ?_
  rw [ykn (U64.abs ha) (by rw [ed];exact ⟨by omega,by omega⟩),yh9 hc]
  refine ylD n3 ?_
  rw [ykn (U64.abs hc) (by rw [eb];exact ⟨by omega,by omega⟩)]
  obtain ⟨X,hX⟩:∃ X,X=((a.natAbs:Nat):Int)*IntKind.u64.wrap (Int.tdiv (IntKind.u64.wrap d) (g:Int)):=⟨_,rfl⟩
  obtain ⟨Y,hY⟩:∃ Y,Y=((c.natAbs:Nat):Int)*IntKind.u64.wrap (Int.tdiv (IntKind.u64.wrap b) (g:Int)):=⟨_,rfl⟩
  rw [← hX,← hY]
  rw [ed] at hX;rw [eb] at hY
  have X0:0≤X:=by rw [hX];exact qA3 (by omega) q2
  have Y0:0≤Y:=by rw [hY];exact qA3 (by omega) q1
  have X1:X≤1000000000000000000*1000000000000000000:=by rw [hX];exact Int.mul_le_mul (by omega) (by omega) q2 (by omega)
  have Y1:Y≤1000000000000000000*1000000000000000000:=by rw [hY];exact Int.mul_le_mul (by omega) (by omega) q1 (by omega)
  have ax:a*(d / (g:Int))=if a<0 then -X else X:=by
   split
   ·rw [hX,show ((a.natAbs:Nat):Int)=-a by omega,Int.neg_mul,Int.neg_neg]
   ·rw [hX,show ((a.natAbs:Nat):Int)=a by omega]
  have cy:c*(b / (g:Int))=if c<0 then -Y else Y:=by
   split
   ·rw [hY,show ((c.natAbs:Nat):Int)=-c by omega,Int.neg_mul,Int.neg_neg]
   ·rw [hY,show ((c.natAbs:Nat):Int)=c by omega]
  rw [ax,cy] at k
  clear hX hY ax cy ed eb n3
  by_cases hs:decide (a<0)=decide (c<0)
  ·have e:(decide (a<0) == decide (c<0))=true:=beq_iff_eq.2 hs
   rw [e,yag]
   refine yLE X0 Y0 (by omega) (fun c1 c2=>?_)
   refine yzI (by omega) (by omega) g1 (by omega) ⟨by omega,b2⟩ ⟨by omega,d2⟩ (ysX k ?_ ?_)
   ·by_cases h1:a<0
    ·have h2:c<0:=by simpa [h1] using hs.symm
     rw [if_pos h1,if_pos h2];omega
    ·have h2:¬c<0:=by simpa [h1] using hs.symm
     rw [if_neg h1,if_neg h2];omega
   ·intro h0
    by_cases h1:a<0
    ·have h2:c<0:=by simpa [h1] using hs.symm
     rw [if_pos h1,if_pos h2,decide_eq_true h1,decide_eq_true (by omega)]
    ·have h2:¬c<0:=by simpa [h1] using hs.symm
     rw [if_neg h1,if_neg h2,decide_eq_false h1,decide_eq_false (by omega)]
  ·have e:(decide (a<0) == decide (c<0))=false:=beq_eq_false_iff_ne.2 hs
   rw [e,yab]
   have h12:(a<0∧¬c<0)∨(¬a<0∧c<0):=by
    by_cases h1:a<0 <;> by_cases h2:c<0 <;> simp [h1,h2] at hs ⊢
   by_cases hlt:X<Y
   ·have kk:outA (!decide (a<0)) (Y-X) b d g K:=by
     refine ysX k ?_ ?_
     ·rcases h12 with ⟨h1,h2⟩ | ⟨h1,h2⟩
      ·rw [if_pos h1,if_neg h2];omega
      ·rw [if_neg h1,if_pos h2];omega
     ·intro h0
      rcases h12 with ⟨h1,h2⟩ | ⟨h1,h2⟩
      ·rw [if_pos h1,if_neg h2,decide_eq_true h1,decide_eq_false (by omega)];rfl
      ·rw [if_neg h1,if_pos h2,decide_eq_false h1,decide_eq_true (by omega)];rfl
    by_cases h1:X / 18446744073709551616<Y / 18446744073709551616
    ·rw [decide_eq_true h1,yag]
     refine yuD X0 (by omega) (by omega) (fun c1 c2=>?_)
     exact yzI (by omega) (by omega) g1 (by omega) ⟨by omega,b2⟩ ⟨by omega,d2⟩ kk
    ·have e1:(X / 18446744073709551616 == Y / 18446744073709551616)=true:=beq_iff_eq.2 (by omega)
     rw [decide_eq_false h1,yab,e1,yag,decide_eq_true (show X % 18446744073709551616<Y % 18446744073709551616 by have:=beq_iff_eq.1 e1;omega),yag]
     refine yuD X0 (by omega) (by omega) (fun c1 c2=>?_)
     exact yzI (by omega) (by omega) g1 (by omega) ⟨by omega,b2⟩ ⟨by omega,d2⟩ kk
   ·have kk:outA (decide (a<0)) (X-Y) b d g K:=by
     refine ysX k ?_ ?_
     ·rcases h12 with ⟨h1,h2⟩ | ⟨h1,h2⟩
      ·rw [if_pos h1,if_neg h2];omega
      ·rw [if_neg h1,if_pos h2];omega
     ·intro h0
      rcases h12 with ⟨h1,h2⟩ | ⟨h1,h2⟩
      ·rw [if_pos h1,if_neg h2,decide_eq_true h1,decide_eq_true (by omega)]
      ·rw [if_neg h1,if_pos h2,decide_eq_false h1,decide_eq_false (by omega)]
    have h1:¬X / 18446744073709551616<Y / 18446744073709551616:=by omega
    rw [decide_eq_false h1,yab]
    cases e1:(X / 18446744073709551616 == Y / 18446744073709551616)
    ·rw [yab]
     refine yuD Y0 (by omega) (by omega) (fun c1 c2=>?_)
     exact yzI (by omega) (by omega) g1 (by omega) ⟨by omega,b2⟩ ⟨by omega,d2⟩ kk
    ·rw [yag,decide_eq_false (show ¬X % 18446744073709551616<Y % 18446744073709551616 by have:=beq_iff_eq.1 e1;omega),yab]
     refine yuD Y0 (by omega) (by omega) (fun c1 c2=>?_)
     exact yzI (by omega) (by omega) g1 (by omega) ⟨by omega,b2⟩ ⟨by omega,d2⟩ kk
 ·rw [if_neg h] at k
  have:(chk2 a b c d !=(0:Int))=true:=by rw [bne_iff_ne];exact h
  rw [this,yag]
  exact k
end Go.Pf.Vc
namespace Go.Pf.Vc
open Go Go.Pf
theorem RV.neg {c d:Int} (h:RV c d):RV (-c) d:=by
 obtain ⟨d1,d2,c1,c2,g⟩:=h
 exact ⟨d1,d2,by omega,by omega,by rw [Int.natAbs_neg];exact g⟩
theorem yOM {a b c d:Int} (ha:I64 a) (hb:I64 b) (hc:I64 c) (hd:I64 d) {K:Int→Int→Int→Prop}
  (k:if chk2 a b c d=0 then outA (decide (a*(d / (Nat.gcd b.natAbs d.natAbs:Nat))+-c*(b / (Nat.gcd b.natAbs d.natAbs:Nat))<0))
    ((a*(d / (Nat.gcd b.natAbs d.natAbs:Nat))+-c*(b / (Nat.gcd b.natAbs d.natAbs:Nat))).natAbs:Int) b d (Nat.gcd b.natAbs d.natAbs) K
   else K 0 0 (chk2 a b c d)):ydz a b c d K:=by
 unfold ydz ynk
 refine yqd ha hb hc hd ?_
 by_cases h:chk2 a b c d=0
 ·rw [if_pos h] at k
  have:(chk2 a b c d !=(0:Int))=false:=by rw [h];rfl
  rw [this,yab]
  obtain ⟨hab,hcd⟩:=ydc.1 h
  obtain ⟨d1,d2,c1,c2,_⟩:=id hcd
  rw [wi64 (n:=0-c) ⟨by omega,by omega⟩,Int.zero_sub]
  refine yLF ha hb ⟨by omega,by omega⟩ hd ?_
  rw [if_pos (ydc.2 ⟨hab,hcd.neg⟩)]
  exact k
 ·rw [if_neg h] at k
  have:(chk2 a b c d !=(0:Int))=true:=by rw [bne_iff_ne];exact h
  rw [this,yag]
  exact k
end Go.Pf.Vc
namespace Go.Pf.Vc
open Go Go.Pf
def ints (l:List Int):List PV:=l.map (PV.int .i64)
theorem ycm (l:List Int):(ints l).length=l.length:=qAk ..
theorem yI3 {l:List Int} {i:Nat} (h:i<l.length):List.getD (ints l) i .nils=.int .i64 (l.getD i 0):=by
 unfold ints
 rw [qAd,qAd,qBb,qAa h]
 rfl
theorem ydQ {l:List Int} {i:Nat} (h:i<l.length):yaa (List.getD (ints l) i .nils)=l.getD i 0:=by
 rw [yI3 h];rfl
theorem yhX {l:List Int} {i:Nat} (h:i<l.length):conf zI (List.getD (ints l) i .nils)=true:=by
 rw [yI3 h];rfl
theorem ylD {c:Bool} {P:Prop} (h:c=true) (p:P):asr c P:=by rw [h,yaF];exact p
theorem yrX {c:Prop} [Decidable c] {P:Prop} (h:c) (p:P):asr (decide c) P:=ylD (decide_eq_true h) p
end Go.Pf.Vc
namespace Go.Pf.Vc
open Go Go.Pf
theorem yI4 {c:Prop} [Decidable c] {P Q:Prop} (h:c) (p:P):cbr (decide c) P Q:=by rw [decide_eq_true h,yag];exact p
theorem yCc {c:Prop} [Decidable c] {P Q:Prop} (h:¬c) (q:Q):cbr (decide c) P Q:=by rw [decide_eq_false h,yab];exact q
def mnf (m x:Int):Int:=if x<m then x else m
theorem yLG {l:List Int} (hl:l.length<9223372036854775807) (x0:List PV→Int→Int→Bool→Prop) :
  ∀ (rest:List Int) (i:Nat) (m:Int) (n:Nat),l.drop i=rest→i≤l.length→rest.length<n→x0 (ints l) (rest.foldl mnf m) (l.length:Int) false →
   ycJ x0 n (ints l) m (i:Int):=by
 intro rest
 induction rest with
 | nil =>
  intro i m n hd hi hn k
  have:i=l.length:=by
   have:=congrArg List.length hd
   rw [qAw] at this
   have h2:([]:List Int).length=0:=rfl
   omega
  match n,hn with
  | n+1,_ =>
   unfold ycJ
   rw [ycm,this]
   exact yCc (by omega) k
 | cons x t ih =>
  intro i m n hd hi hn k
  have hlt:i<l.length:=by
   have:=congrArg List.length hd
   rw [qAw,qAm] at this
   omega
  have hx:l.getD i 0=x:=by
   have:=List.getElem_drop (xs:=l) (i:=i) (j:=0) (h:=by rw [hd];exact Nat.zero_lt_succ _)
   rw [qAd,qAa hlt]
   simp only [hd,List.getElem_cons_zero,Nat.add_zero] at this
   exact this.symm
  have ht:l.drop (i+1)=t:=by rw [← List.tail_drop,hd];rfl
  match n,hn with
  | n+1,hn =>
   unfold ycJ
   rw [ycm]
   refine yI4 (by omega) ?_
   refine yrX (by omega) (yrX (by omega) (ylD (yhX (by omega)) ?_))
   rw [qAe,ydQ hlt,hx,wi64 (n:=(i:Int)+1) ⟨by omega,by omega⟩]
   exact ih (i+1) _ n ht (by omega) (by rw [qAm] at hn;omega) k
theorem yON {l:List Int} (hl:l.length<9223372036854775807) {x:Int} {t:List Int} (e:l=x::t) {K:Int→Prop} (k:K (t.foldl mnf x)):ydX (ints l) K:=by
 have h0:0<l.length:=by rw [e];exact Nat.zero_lt_succ _
 unfold ydX yhM
 rw [ycm]
 refine yCc (by omega) (yrX (by omega) (ylD (yhX h0) ⟨l.length+1,?_⟩))
 have e0:l.getD 0 0=x:=by rw [e];rfl
 rw [ydQ h0,e0]
 refine yLG hl _ t 1 x _ (by rw [e];rfl) (by omega) (by rw [e,qAm];omega) ?_
 exact k
def mxf (m x:Int):Int:=if x>m then x else m
theorem yLH {l:List Int} (hl:l.length<9223372036854775807) (x0:List PV→Int→Int→Bool→Prop) :
  ∀ (rest:List Int) (i:Nat) (m:Int) (n:Nat),l.drop i=rest→i≤l.length→rest.length<n→x0 (ints l) (rest.foldl mxf m) (l.length:Int) false →
   ycK x0 n (ints l) m (i:Int):=by
 intro rest
 induction rest with
 | nil =>
  intro i m n hd hi hn k
  have:i=l.length:=by
   have:=congrArg List.length hd
   rw [qAw] at this
   have h2:([]:List Int).length=0:=rfl
   omega
  match n,hn with
  | n+1,_ =>
   unfold ycK
   rw [ycm,this]
   exact yCc (by omega) k
 | cons x t ih =>
  intro i m n hd hi hn k
  have hlt:i<l.length:=by
   have:=congrArg List.length hd
   rw [qAw,qAm] at this
   omega
  have hx:l.getD i 0=x:=by
   have:=List.getElem_drop (xs:=l) (i:=i) (j:=0) (h:=by rw [hd];exact Nat.zero_lt_succ _)
   rw [qAd,qAa hlt]
   simp only [hd,List.getElem_cons_zero,Nat.add_zero] at this
   exact this.symm
  have ht:l.drop (i+1)=t:=by rw [← List.tail_drop,hd];rfl
  match n,hn with
  | n+1,hn =>
   unfold ycK
   rw [ycm]
   refine yI4 (by omega) ?_
   refine yrX (by omega) (yrX (by omega) (ylD (yhX (by omega)) ?_))
   rw [qAe,ydQ hlt,hx,wi64 (n:=(i:Int)+1) ⟨by omega,by omega⟩]
   exact ih (i+1) _ n ht (by omega) (by rw [qAm] at hn;omega) k
theorem yLI {l:List Int} (hl:l.length<9223372036854775807) {x:Int} {t:List Int} (e:l=x::t) {K:Int→Prop} (k:K (t.foldl mxf x)):ydY (ints l) K:=by
 have h0:0<l.length:=by rw [e];exact Nat.zero_lt_succ _
 unfold ydY yhO
 rw [ycm]
 refine yCc (by omega) (yrX (by omega) (ylD (yhX h0) ⟨l.length+1,?_⟩))
 have e0:l.getD 0 0=x:=by rw [e];rfl
 rw [ydQ h0,e0]
 refine yLH hl _ t 1 x _ (by rw [e];rfl) (by omega) (by rw [e,qAm];omega) ?_
 exact k
end Go.Pf.Vc
namespace Go.Pf.Vc
open Go Go.Pf
def incr (l:List Int) (i:Nat):Prop:=∀ j,i≤j→j+1<l.length→l.getD j 0<l.getD (j+1) 0
theorem yIa {l:List Int} {p2:List PV} {p0:Int} (hl:l.length<9223372036854775807) (W1 W2:List PV→(Int→Prop)→Prop) (x0:Int→Prop) (x1:Int→List PV→List PV→Int→Int→Bool→Prop) :
  ∀ (r i n:Nat),i+r+1=l.length→r<n→(incr l i→x1 p0 (ints l) p2 ((l.length:Int)-1) ((l.length:Int)-1) false)→(¬incr l i→x0 8) →
   ydE W1 W2 x0 x1 n p0 (ints l) p2 ((l.length:Int)-1) (i:Int):=by
 intro r
 induction r with
 | zero =>
  intro i n hi hn k _
  match n,hn with
  | n+1,_ =>
   unfold ydE
   have e:(i:Int)=(l.length:Int)-1:=by omega
   refine yCc (by omega) ?_
   rw [e]
   exact k (fun j h1 h2=>by omega)
 | succ r ih =>
  intro i n hi hn k k0
  match n,hn with
  | n+1,hn =>
   unfold ydE
   rw [wi64 (n:=(i:Int)+1) ⟨by omega,by omega⟩,ycm]
   have e1:((i:Int)+1)=((i+1:Nat):Int):=by omega
   rw [e1,qAe,qAe]
   refine yI4 (by omega) (yrX (by omega) (yrX (by omega) (ylD (yhX (by omega)) (yrX (by omega) (yrX (by omega) (ylD (yhX (by omega)) ?_))))))
   rw [ydQ (by omega),ydQ (by omega)]
   by_cases h:l.getD i 0≥l.getD (i+1) 0
   ·exact yI4 h (k0 fun hc=>absurd (hc i (qAl _) (by omega)) (by omega))
   ·refine yCc h (ih (i+1) n (by omega) (by omega) (fun hc=>k fun j h1 h2=>?_) (fun hc=>k0 fun hd=>hc fun j h1 h2=>hd j (by omega) h2))
    by_cases hj:j=i
    ·subst hj;omega
    ·exact hc j (by omega) h2
end Go.Pf.Vc
namespace Go.Pf.Vc
open Go Go.Pf
def small (q:Rat):Prop:=-1000000000000000000≤q.num∧q.num≤1000000000000000000∧(q.den:Int)≤1000000000000000000
instance (q:Rat):Decidable (small q):=by unfold small;infer_instance
theorem small.rv {q:Rat} (h:small q):RV q.num q.den:=by
 obtain ⟨h1,h2,h3⟩:=h
 have:=q.den_pos
 exact ⟨by omega,h3,h1,h2,q.reduced⟩
theorem yEk {n d:Int} (h:RV n d):∃ q:Rat,small q∧q.num=n∧(q.den:Int)=d:=by
 obtain ⟨h1,h2,h3,h4,h5⟩:=h
 refine ⟨⟨n,d.toNat,by omega,?_⟩,⟨h3,h4,by show ((d.toNat:Nat):Int)≤_;omega⟩,rfl,by show ((d.toNat:Nat):Int)=_;omega⟩
 have:d.natAbs=d.toNat:=by omega
 rw [this] at h5
 exact h5
theorem small.i1 {q:Rat} (h:small q):I64 q.num:=⟨by have:=h.1;omega,by have:=h.2.1;omega⟩
theorem small.i2 {q:Rat} (h:small q):I64 (q.den:Int):=⟨by omega,by have:=h.2.2;omega⟩
theorem yko {q r:Rat} (h:small q) (k:small r):chk2 q.num q.den r.num r.den=0:=ydc.2 ⟨h.rv,k.rv⟩
def fitK (q:Rat) (K:Int→Int→Int→Prop):Prop:=if small q then K q.num q.den 0 else K 0 0 16
theorem yzJ {q:Rat} {s:Bool} {a b:Int} (ha:a=(q.num.natAbs:Int)) (hb:b=(q.den:Int)) (hs:q.num≠0→s=decide (q.num<0)) (K:Int→Int→Int→Prop):outS s a b K=fitK q K:=by
 unfold outS fitK
 subst ha hb
 by_cases h:small q
 ·have h':=h
  obtain ⟨h1,h2,h3⟩:=h
  rw [if_pos (show _∧_ from ⟨by omega,h3⟩),if_pos h']
  have e:(if s=true then -((q.num.natAbs:Nat):Int) else ((q.num.natAbs:Nat):Int))=q.num:=by
   by_cases h0:q.num=0
   ·rw [h0];cases s <;> rfl
   ·rw [hs h0]
    by_cases h1:q.num<0
    ·rw [decide_eq_true h1,if_pos rfl];omega
    ·rw [decide_eq_false h1,if_neg (by simp)];omega
  rw [e]
 ·rw [if_neg h,if_neg]
  intro h2
  exact h ⟨by omega,by omega,h2.2⟩
theorem yF9 (x:Int) (g:Nat):(Int.tdiv x g).natAbs=x.natAbs / g:=by rw [Int.natAbs_tdiv,Int.natAbs_natCast];rfl
theorem yCd {x:Int} {g:Nat} (h:(g:Int)∣x) (hx:x≠0):decide (Int.tdiv x g<0)=decide (x<0):=by
 obtain ⟨k,rfl⟩:=h
 have hg:(g:Int)≠0:=fun e=>hx (by rw [e,Int.zero_mul])
 rw [Int.mul_tdiv_cancel_left _ hg]
 have h1:(g:Int)>0:=by have:=Int.natCast_nonneg g;omega
 have:(g:Int)*k<0↔k<0:=by
  constructor
  ·intro h;refine Int.not_le.1 fun hk=>?_
   have:=qA3 (show 0≤(g:Int) by omega) hk
   omega
  ·intro h;exact Int.mul_neg_of_pos_of_neg h1 h
 simp only [this]
theorem yKf (q r:Rat):(q*r).num=Int.tdiv q.num (Nat.gcd q.num.natAbs r.den)*Int.tdiv r.num (Nat.gcd r.num.natAbs q.den) ∧
  (q*r).den=(q.den / Nat.gcd r.num.natAbs q.den)*(r.den / Nat.gcd q.num.natAbs r.den):=by
 have e:q*r=Rat.mul q r:=rfl
 rw [e]
 delta Rat.mul
 constructor
 ·simp only [Int.divExact_eq_tdiv]
 ·simp only [Nat.divExact_eq_div]
theorem ymp (x:Int) (d:Nat):((Nat.gcd x.natAbs d:Nat):Int)∣x:=by
 rw [← Int.dvd_natAbs,Int.ofNat_dvd];exact Nat.gcd_dvd_left _ _
theorem yI5 {x:Int} {g:Nat} (h:(g:Int)∣x) (hx:x≠0):Int.tdiv x g≠0:=by
 obtain ⟨k,rfl⟩:=h
 have hg:(g:Int)≠0:=fun e=>hx (by rw [e,Int.zero_mul])
 rw [Int.mul_tdiv_cancel_left _ hg]
 intro e;rw [e,Int.mul_zero] at hx;exact hx rfl
theorem yLJ {x y:Int} (hx:x≠0) (hy:y≠0):decide (x*y<0)=(decide (x<0) != decide (y<0)):=by
 by_cases h1:x<0 <;> by_cases h2:y<0
 ·have:=Int.mul_pos_of_neg_of_neg h1 h2
  simp [h1,h2];omega
 ·have:=qBv h1 (show 0<y by omega)
  simp [h1,h2];omega
 ·have:=Int.mul_neg_of_pos_of_neg (show 0<x by omega) h2
  simp [h1,h2];omega
 ·have:=Int.mul_pos (show 0<x by omega) (show 0<y by omega)
  simp [h1,h2];omega
theorem yI6 (q r:Rat) (K:Int→Int→Int→Prop):outS (decide (q.num<0) != decide (r.num<0)) (numM q.num r.num q.den r.den) (denM q.num r.num q.den r.den) K=fitK (q*r) K:=by
 obtain ⟨e1,e2⟩:=yKf q r
 refine yzJ ?_ ?_ ?_ K
 ·rw [e1,Int.natAbs_mul,yF9,yF9]
  simp only [numM,Int.natAbs_natCast]
 ·rw [e2]
  simp only [denM,Int.natAbs_natCast]
 ·intro h
  rw [e1] at h ⊢
  have h1:q.num≠0:=fun e=>h (by rw [e,Int.zero_tdiv,Int.zero_mul])
  have h2:r.num≠0:=fun e=>h (by rw [e,Int.zero_tdiv,Int.mul_zero])
  rw [yLJ (yI5 (ymp _ _) h1) (yI5 (ymp _ _) h2),yCd (ymp _ _) h1,yCd (ymp _ _) h2]
theorem yuE {w:(Int→Int→Int→Prop)→Prop} {q:Rat} (det:∀ r0 r1 r2,(∀ K:Int→Int→Int→Prop,K r0 r1 r2→w K)→∀ K,w K=K r0 r1 r2) (h:∀ K,fitK q K→w K) (K:Int→Int→Int→Prop):w K=fitK q K:=by
 unfold fitK at h ⊢
 by_cases hs:small q
 ·simp only [if_pos hs] at h ⊢
  exact det _ _ _ h K
 ·simp only [if_neg hs] at h ⊢
  exact det _ _ _ h K
theorem yI7 {q r:Rat} (hq:small q) (hr:small r) (K:Int→Int→Int→Prop):ycZ q.num q.den r.num r.den K=fitK (q*r) K :=
 yuE (fun r0 r1 r2 h K=>yAM _ _ _ _ r0 r1 r2 h K) (fun K k=>yH9 hq.i1 hq.i2 hr.i1 hr.i2 (by rw [if_pos (yko hq hr),yI6];exact k)) K
theorem yKg {r:Rat} (h:r≠0):(r⁻¹).num=(if r.num<0 then -(r.den:Int) else r.den)∧(r⁻¹).den=r.num.natAbs:=by
 have h0:r.num≠0:=fun e=>h (Rat.num_eq_zero.1 e)
 constructor
 ·rw [Rat.num_inv]
  by_cases h1:r.num<0
  ·rw [if_pos h1,Int.sign_eq_neg_one_of_neg h1];omega
  ·rw [if_neg h1,Int.sign_eq_one_of_pos (by omega)];omega
 ·rw [Rat.den_inv,if_neg h0]
theorem yNp {q r:Rat} (hq:small q) (hr:small r) (h0:r≠0) (K:Int→Int→Int→Prop):ybd q.num q.den r.num r.den K=fitK (q / r) K:=by
 have hn:r.num≠0:=fun e=>h0 (Rat.num_eq_zero.1 e)
 refine yuE (fun r0 r1 r2 h K=>yAN _ _ _ _ r0 r1 r2 h K) (fun K k=>yOL hq.i1 hq.i2 hr.i1 hr.i2 ?_) K
 rw [if_pos (yko hq hr),if_neg hn]
 rw [Rat.div_def,← yI6] at k
 obtain ⟨e1,e2⟩:=yKg h0
 rw [e1,e2] at k
 have s:decide ((if r.num<0 then -(r.den:Int) else (r.den:Int))<0)=decide (r.num<0):=by
  have:=r.den_pos
  split
  ·rename_i h;simp only [h];simp;omega
  ·rename_i h;simp only [h];simp
 rw [s] at k
 have hd:(if r.num<0 then -(r.den:Int) else (r.den:Int)).natAbs=r.den:=by split <;> omega
 unfold numM denM at k ⊢
 simp only [hd,Int.natAbs_natCast] at k ⊢
 exact k
end Go.Pf.Vc
namespace Go.Pf.Vc
open Go Go.Pf
theorem yKh (q r:Rat):(q+r).num=(q.num*(r.den / Nat.gcd q.den r.den:Nat)+r.num*(q.den / Nat.gcd q.den r.den:Nat)) / (Nat.gcd (q.num*(r.den / Nat.gcd q.den r.den:Nat)+r.num*(q.den / Nat.gcd q.den r.den:Nat)).natAbs (Nat.gcd q.den r.den):Nat) ∧
  (q+r).den=(q.den / Nat.gcd q.den r.den)*r.den / Nat.gcd (q.num*(r.den / Nat.gcd q.den r.den:Nat)+r.num*(q.den / Nat.gcd q.den r.den:Nat)).natAbs (Nat.gcd q.den r.den):=by
 have e:q+r=Rat.add q r:=rfl
 rw [e]
 delta Rat.add
 by_cases hg:q.den.gcd r.den=1
 ·simp only [hg,dif_pos,Nat.div_one,Nat.gcd_one_right,Int.natCast_one,Int.ediv_one,and_self]
 ·simp only [hg,dif_neg,not_false_eq_true,Rat.maybeNormalize_eq]
  constructor
  ·first | rfl | simp only [Int.divExact_eq_tdiv]
  ·first | rfl | simp only []
theorem yLK {q r:Rat} {Z:Int} {g:Nat} (e1:(q+r).num=Z / (Nat.gcd Z.natAbs g:Nat)) (e2:(q+r).den=(q.den / g)*r.den / Nat.gcd Z.natAbs g) (hgp:0<g) (hgd:g∣r.den) (K:Int→Int→Int→Prop) :
  outA (decide (Z<0)) (Z.natAbs:Int) q.den r.den g K=fitK (q+r) K:=by
 unfold outA
 by_cases h0:Z=0
 ·subst h0
  have:(q+r)=0:=by
   apply Rat.num_eq_zero.1
   rw [e1];simp
  rw [this,if_pos (by rfl)]
  unfold fitK
  rw [if_pos (by decide)];rfl
 ·have hne:¬((Z.natAbs:Nat):Int)=0:=by omega
  rw [if_neg hne]
  have hdv:((Nat.gcd Z.natAbs g:Nat):Int)∣Z:=ymp _ _
  have hhp:0<Nat.gcd Z.natAbs g:=qBz _ hgp
  have hhg:Nat.gcd Z.natAbs g∣r.den:=Nat.dvd_trans (Nat.gcd_dvd_right _ _) hgd
  refine yzJ ?_ ?_ ?_ K
  ·rw [e1,Int.natAbs_ediv_of_dvd hdv];simp
  ·rw [e2];simp only [qAe];rw [Nat.mul_div_assoc _ hhg]
  ·intro h
   rw [e1]
   obtain ⟨k,hk⟩:=hdv
   revert hhp hk
   generalize Nat.gcd Z.natAbs g=h
   intro hhp hk
   have e:Z / (h:Int)=k:=by rw [hk,Int.mul_ediv_cancel_left _ (by omega)]
   rw [e]
   have:Z<0↔k<0:=by
    rw [hk]
    constructor
    ·intro hk;refine Int.not_le.1 fun hk2=>?_
     have:=qA3 (show 0≤(h:Int) by omega) hk2
     omega
    ·intro hk;exact Int.mul_neg_of_pos_of_neg (by omega) hk
   simp only [this]
theorem yI8 (q r:Rat) (K:Int→Int→Int→Prop) :
  outA (decide (q.num*((r.den:Int) / (Nat.gcd (q.den:Int).natAbs (r.den:Int).natAbs:Nat))+r.num*((q.den:Int) / (Nat.gcd (q.den:Int).natAbs (r.den:Int).natAbs:Nat))<0))
   ((q.num*((r.den:Int) / (Nat.gcd (q.den:Int).natAbs (r.den:Int).natAbs:Nat))+r.num*((q.den:Int) / (Nat.gcd (q.den:Int).natAbs (r.den:Int).natAbs:Nat))).natAbs:Int) q.den r.den (Nat.gcd (q.den:Int).natAbs (r.den:Int).natAbs) K=fitK (q+r) K:=by
 obtain ⟨e1,e2⟩:=yKh q r
 rw [qBu,qBu] at e1 e2
 exact yLK e1 e2 (Nat.gcd_pos_of_pos_left _ q.den_pos) (Nat.gcd_dvd_right _ _) K
theorem yqK {q r:Rat} (hq:small q) (hr:small r) (K:Int→Int→Int→Prop):yaW q.num q.den r.num r.den K=fitK (q+r) K :=
 yuE (fun r0 r1 r2 h K=>yAK _ _ _ _ r0 r1 r2 h K) (fun K k=>yLF hq.i1 hq.i2 hr.i1 hr.i2 (by rw [if_pos (yko hq hr),yI8];exact k)) K
theorem yI9 {q r:Rat} (hq:small q) (hr:small r) (K:Int→Int→Int→Prop):ydz q.num q.den r.num r.den K=fitK (q-r) K :=
 yuE (fun r0 r1 r2 h K=>yAL _ _ _ _ r0 r1 r2 h K) (fun K k=>yOM hq.i1 hq.i2 hr.i1 hr.i2 (by
  rw [if_pos (yko hq hr)]
  rw [Rat.sub_eq_add_neg,← yI8] at k
  exact k)) K
theorem yLL {n d:Int} (hd:d≠0) (K:Int→Int→Int→Prop):outS (decide (n<0) != decide (d<0)) ((n.natAbs / Nat.gcd n.natAbs d.natAbs:Nat):Int) ((d.natAbs / Nat.gcd n.natAbs d.natAbs:Nat):Int) K=fitK ((n:Rat) / (d:Rat)) K:=by
 have e:(n:Rat) / (d:Rat)=mkRat (if d<0 then -n else n) d.natAbs:=by
  rw [Rat.mkRat_eq_div]
  split
  ·rename_i h
   have h1:((d.natAbs:Nat):Int)=-d:=by omega
   have h2:((d.natAbs:Nat):Rat)=-(d:Rat):=by rw [← Rat.intCast_natCast,h1,Rat.intCast_neg]
   rw [h2,Rat.intCast_neg]
   have h3:(d:Rat)≠0:=fun e=>hd (Rat.intCast_eq_zero_iff.1 e)
   grind
  ·rename_i h
   have h1:((d.natAbs:Nat):Int)=d:=by omega
   have h2:((d.natAbs:Nat):Rat)=(d:Rat):=by rw [← Rat.intCast_natCast,h1]
   rw [h2]
 have h0:d.natAbs≠0:=by omega
 have hab:(if d<0 then -n else n).natAbs=n.natAbs:=by split <;> omega
 rw [e]
 refine yzJ ?_ ?_ ?_ K
 ·rw [Rat.num_mkRat,if_neg h0,hab,Int.natAbs_ediv_of_dvd,Int.natAbs_natCast,hab,Nat.gcd_comm]
  rw [← Int.dvd_natAbs,Int.ofNat_dvd,hab];exact Nat.gcd_dvd_right _ _
 ·rw [Rat.den_mkRat,if_neg h0,hab,Nat.gcd_comm]
 ·rw [Rat.num_mkRat,if_neg h0,hab]
  have hdv:((Nat.gcd d.natAbs n.natAbs:Nat):Int)∣(if d<0 then -n else n):=by
   rw [← Int.dvd_natAbs,Int.ofNat_dvd,hab];exact Nat.gcd_dvd_right _ _
  have hp:0<Nat.gcd d.natAbs n.natAbs:=Nat.gcd_pos_of_pos_left _ (by omega)
  obtain ⟨k,hk⟩:=hdv
  rw [hk,Int.mul_ediv_cancel_left _ (by omega)]
  intro hk0
  generalize Nat.gcd d.natAbs n.natAbs=g at *
  have h1:(g:Int)*k<0↔k<0:=by
   constructor
   ·intro hk;refine Int.not_le.1 fun hk2=>?_
    have:=qA3 (show 0≤(g:Int) by omega) hk2
    omega
   ·intro hk;exact Int.mul_neg_of_pos_of_neg (by omega) hk
  have h2:(g:Int)*k≠0:=fun e=>by rcases Int.mul_eq_zero.1 e with e | e <;> omega
  by_cases hd2:d<0
  ·rw [if_pos hd2] at hk
   by_cases hn:n<0
   ·have:¬k<0:=by omega
    simp [hd2,hn,this]
   ·have:k<0:=by omega
    simp [hd2,this];omega
  ·rw [if_neg hd2] at hk
   by_cases hn:n<0
   ·have:k<0:=by omega
    simp [hd2,hn,this]
   ·have:¬k<0:=by omega
    simp [hd2,this];omega
theorem yLM {n d:Int} (hn:I64 n) (hd:I64 d) (h0:d≠0) (K:Int→Int→Int→Prop):yam n d K=fitK ((n:Rat) / (d:Rat)) K :=
 yuE (fun r0 r1 r2 h K=>yy2 _ _ r0 r1 r2 h K) (fun K k=>Make_of hn hd (by rw [if_neg h0,yLL h0];exact k)) K
def cmpQ (q r:Rat):Int:=if q<r then -1 else if r<q then 1 else 0
theorem yJa (q r:Rat):cmpR q.num q.den r.num r.den=cmpQ q r:=by
 unfold cmpR cmp3 cmpQ
 simp only [Rat.lt_iff]
theorem yxR {q r:Rat} (hq:small q) (hr:small r) (K:Int→Int→Prop):ycY q.num q.den r.num r.den K=K (cmpQ q r) 0 :=
 yAJ _ _ _ _ _ _ (fun K k=>yLA hq.i1 hq.i2 hr.i1 hr.i2 (by rw [yko hq hr,if_pos rfl,yJa];exact k)) K
theorem yKi {n d:Int} (hn:I64 n) (hd:I64 d) (K:Int→Prop):ydv n d K=K (chk n d) :=
 ywZ _ _ _ (fun _ k=>yzG hn hd k) K
end Go.Pf.Vc
namespace Go.Pf.Vc
open Go Go.Pf
theorem yEl {p:Int} (h:I64 p) (K:Int→Prop):yl1 p K=K (p.natAbs:Int):=by
 unfold I64 at h
 unfold yl1 ysG
 by_cases hp:p<0
 ·have e0:IntKind.i64.wrap (p+1)=p+1:=wi64 ⟨by omega,by omega⟩
  have e1:IntKind.i64.wrap ((0:Int)-(p+1))=-(p+1):=by rw [wi64 ⟨by omega,by omega⟩];omega
  have e2:IntKind.u64.wrap (-(p+1))=-(p+1):=wu64 ⟨by omega,by omega⟩
  have e3:IntKind.u64.wrap (-(p+1)+1)=(p.natAbs:Int):=by rw [wu64 ⟨by omega,by omega⟩];omega
  rw [decide_eq_true hp,yag,e0,e1,e2,e3]
 ·rw [decide_eq_false hp,yab,wu64 ⟨by omega,by omega⟩]
  congr 1
  omega
theorem yCe (x:Int→Int→Bool→Prop):∀ (n a b:Nat),b<n→ygq x n (a:Int) (b:Int)=x ((Nat.gcd a b:Nat):Int) 0 false
 | 0,a,b,h=>by omega
 | n+1,a,b,h=>by
  unfold ygq
  by_cases hb:b=0
  ·subst hb
   simp [cbr]
  ·have h1:((b:Int) != 0)=true:=by simp;omega
   have h2:¬((b:Int)=0):=by omega
   rw [h1,yag,decide_eq_false h2,qBh,yaF]
   have e:Int.tmod (a:Int) (b:Int)=((a % b:Nat):Int):=by rw [Int.tmod_eq_emod_of_nonneg (by omega)];omega
   rw [e,yCe x n b (a % b) (by have:=Nat.mod_lt a (show b>0 by omega);omega)]
   rw [Nat.gcd_comm a b,Nat.gcd_rec b a,Nat.gcd_comm]
theorem yNq (a b:Nat) (K:Int→Prop):yjn (a:Int) (b:Int) K=K ((Nat.gcd a b:Nat):Int):=by
 refine yF4 _ _ _ (fun K h=>?_) K
 unfold yjn ysH
 exact ⟨b+1,by rw [yCe _ (b+1) a b (by omega)];exact h⟩
theorem yLN {a b:Int} (h:a=b):(a != b)=false:=by simp [h]
theorem yLO {a b:Int} (h:a≠b):(a != b)=true:=by simp [h]
theorem yOd {a b:Int} (h:a≠b):(a == b)=false:=by simp [h]
theorem yOe {a b:Int} (h:a=b):(a == b)=true:=by simp [h]
theorem yqL {n d:Int} (hn:I64 n) (_:I64 d) (K:Int→Prop):yis n d K=K (chk n d):=by
 unfold yis ynv
 by_cases h1:d<1
 ·rw [decide_eq_true h1,yag,chk,if_neg (fun h=>by have:=h.1;omega)]
 ·rw [decide_eq_false h1,yab]
  by_cases h2:d>1000000000000000000
  ·rw [decide_eq_true h2,yag,chk,if_neg (fun h=>by have:=h.2.1;omega)]
  ·rw [decide_eq_false h2,yab]
   by_cases h3:n < -1000000000000000000
   ·rw [decide_eq_true h3,yag,chk,if_neg (fun h=>by have:=h.2.2.1;omega)]
   ·rw [decide_eq_false h3,yab]
    by_cases h4:n>1000000000000000000
    ·rw [decide_eq_true h4,yag,chk,if_neg (fun h=>by have:=h.2.2.2.1;omega)]
    ·have ed:IntKind.u64.wrap d=((d.natAbs:Nat):Int):=by rw [wu64 ⟨by omega,by omega⟩];omega
     rw [decide_eq_false h4,yab,yEl hn,ed,yNq]
     by_cases h5:Nat.gcd n.natAbs d.natAbs=1
     ·rw [h5,yLN (by rfl),yab,chk,if_pos ⟨by omega,by omega,by omega,by omega,h5⟩]
     ·rw [yLO (by omega),yag,chk,if_neg (fun h=>h5 h.2.2.2.2)]
theorem yLP {a b c d:Int} (ha:I64 a) (hb:I64 b) (hc:I64 c) (hd:I64 d) (K:Int→Prop):ynw a b c d K=K (chk2 a b c d):=by
 unfold ynw ypG
 rw [yqL ha hb,yqL ha hb,yqL hc hd,chk2]
 by_cases h:chk a b=0
 ·rw [yLN h,yab,if_pos h]
 ·rw [yLO h,yag,if_neg h]
theorem or32 {m s:Int} (_:0≤m) (hs:0≤s∧s<4294967296):IntKind.u64.wrap (BitVec.ofInt IntKind.u64.bits (IntKind.u64.wrap (m*4294967296))|||BitVec.ofInt IntKind.u64.bits s).toNat=m % 4294967296*4294967296+s:=by
 have e:IntKind.u64.wrap (m*4294967296)=m % 4294967296*2 ^ 32:=by rw [yuA];omega
 rw [e,yOb (k:=32) (by omega) ⟨hs.1,by omega⟩ ⟨by omega,by omega⟩ (by omega)]
 omega
theorem yLQ {a b:Int} (ha:U64 a) (hb:U64 b) (K:Int→Int→Prop):yit a b K=K (a*b / 18446744073709551616) (a*b % 18446744073709551616):=by
 unfold yit ynx
 simp only [yLz]
 rw [yn5 ha,yn5 hb]
 unfold U64 at ha hb
 have ha':=ha;have hb':=hb
 obtain ⟨x1,hx1⟩:∃ x,x=a / 4294967296:=⟨_,rfl⟩
 obtain ⟨x0,hx0⟩:∃ x,x=a % 4294967296:=⟨_,rfl⟩
 obtain ⟨y1,hy1⟩:∃ x,x=b / 4294967296:=⟨_,rfl⟩
 obtain ⟨y0,hy0⟩:∃ x,x=b % 4294967296:=⟨_,rfl⟩
 rw [← hx1,← hx0,← hy1,← hy0]
 have b1:0≤x1∧x1≤4294967295:=by omega
 have b2:0≤x0∧x0≤4294967295:=by omega
 have b3:0≤y1∧y1≤4294967295:=by omega
 have b4:0≤y0∧y0≤4294967295:=by omega
 have pb:∀ x y:Int,0≤x∧x≤4294967295→0≤y∧y≤4294967295→0≤x*y∧x*y≤18446744065119617025:=by
  intro x y hx hy
  refine ⟨qA3 hx.1 hy.1,?_⟩
  have:=Int.mul_le_mul hx.2 hy.2 hy.1 (by omega:(0:Int)≤4294967295)
  omega
 have p1:=pb x1 y1 b1 b3
 have p2:=pb x1 y0 b1 b4
 have p3:=pb x0 y1 b2 b3
 have p4:=pb x0 y0 b2 b4
 have ea:a=x1*4294967296+x0:=by omega
 have eb:b=y1*4294967296+y0:=by omega
 have eab:a*b=x1*y1*18446744073709551616+x1*y0*4294967296+x0*y1*4294967296+x0*y0:=by
  rw [ea,eb];grind
 obtain ⟨P,hP⟩:∃ x,x=x1*y1:=⟨_,rfl⟩
 obtain ⟨Q,hQ⟩:∃ x,x=x1*y0:=⟨_,rfl⟩
 obtain ⟨R,hR⟩:∃ x,x=x0*y1:=⟨_,rfl⟩
 obtain ⟨S,hS⟩:∃ x,x=x0*y0:=⟨_,rfl⟩
 rw [← hP] at p1;rw [← hQ] at p2;rw [← hR] at p3;rw [← hS] at p4
 rw [← hP,← hQ,← hR,← hS] at eab ⊢
 have w1:IntKind.u64.wrap S=S:=wu64 ⟨by omega,by omega⟩
 have w2:IntKind.u64.wrap Q=Q:=wu64 ⟨by omega,by omega⟩
 have w3:IntKind.u64.wrap R=R:=wu64 ⟨by omega,by omega⟩
 have w4:IntKind.u64.wrap P=P:=wu64 ⟨by omega,by omega⟩
 rw [w1,w2,w3,w4,yn5 (p:=Q) ⟨by omega,by omega⟩,yn5 (p:=S) ⟨by omega,by omega⟩]
 have w5:IntKind.u64.wrap (Q % 4294967296+R)=Q % 4294967296+R:=wu64 ⟨by omega,by omega⟩
 rw [w5]
 have w6:IntKind.u64.wrap (Q % 4294967296+R+S / 4294967296)=Q % 4294967296+R+S / 4294967296:=wu64 ⟨by omega,by omega⟩
 rw [w6,or32 (by omega) ⟨by omega,by omega⟩]
 have hab:a*b≤18446744073709551615*18446744073709551615:=Int.mul_le_mul ha'.2 hb'.2 hb'.1 (by omega:(0:Int)≤18446744073709551615)
 rw [eab] at hab ⊢
 have w7:IntKind.u64.wrap (P+Q / 4294967296)=P+Q / 4294967296:=wu64 ⟨by omega,by omega⟩
 rw [w7,wu64 ⟨by omega,by omega⟩]
 congr 1 <;> omega
theorem yGa {X Y:Int} (_:0≤X) (_:0≤Y) (K:Bool→Prop) :
  yny (X / 18446744073709551616) (X % 18446744073709551616) (Y / 18446744073709551616) (Y % 18446744073709551616) K=K (decide (X<Y)):=by
 unfold yny ypH
 by_cases h:X / 18446744073709551616<Y / 18446744073709551616
 ·rw [decide_eq_true h,yag,decide_eq_true (by omega)]
 ·rw [decide_eq_false h,yab]
  by_cases h2:X / 18446744073709551616=Y / 18446744073709551616
  ·rw [yOe h2,yag]
   congr 1
   rw [decide_eq_decide];omega
  ·rw [yOd h2,yab,decide_eq_false (by omega)]
end Go.Pf.Vc
namespace Go.Pf.Vc
open Go Go.Pf
theorem wuN {n:Nat} (h:(n:Int)≤18446744073709551615):IntKind.u64.wrap (n:Int)=n:=wu64 ⟨by omega,h⟩
theorem yCf {a b:Nat} (ha:a≤18446744073709551615) (hb:b≤18446744073709551615) (K:Int→Int→Prop) :
  yit (a:Int) (b:Int) K=K (((a*b:Nat):Int) / 18446744073709551616) (((a*b:Nat):Int) % 18446744073709551616):=by
 rw [yLQ ⟨by omega,by omega⟩ ⟨by omega,by omega⟩,Int.natCast_mul]
theorem ykp {q r:Rat} (hq:small q) (hr:small r) (K:Bool→Prop):ybq q.num q.den r.num r.den K=K (decide (q<r)):=by
 unfold ybq ypI
 have hq':=hq;have hr':=hr
 obtain ⟨a1,a2,a3⟩:=hq
 obtain ⟨b1,b2,b3⟩:=hr
 have dq:=q.den_pos
 have dr:=r.den_pos
 have e:decide (q<r)=decide (q.num*r.den<r.num*q.den):=by rw [decide_eq_decide];exact Rat.lt_iff q r
 rw [e]
 by_cases hs:(decide (q.num<0) != decide (r.num<0))=true
 ·rw [hs,yag]
  by_cases h1:q.num<0
  ·have h2:¬r.num<0:=by simpa [h1] using hs
   have p1:q.num*r.den<0:=qBv h1 (by omega)
   have p2:0≤r.num*q.den:=qA3 (by omega) (by omega)
   rw [decide_eq_true h1,decide_eq_true (by omega)]
  ·have h2:r.num<0:=by simpa [h1] using hs
   have p1:r.num*q.den<0:=qBv h2 (by omega)
   have p2:0≤q.num*r.den:=qA3 (by omega) (by omega)
   rw [decide_eq_false h1,decide_eq_false (by omega)]
 ·have hs':(decide (q.num<0) != decide (r.num<0))=false:=by simpa using hs
  rw [hs',yab,yEl hq'.i1,wuN (by omega),yCf (by omega) (by omega),yEl hr'.i1,wuN (by omega),yCf (by omega) (by omega),yGa (Int.natCast_nonneg _) (Int.natCast_nonneg _),yGa (Int.natCast_nonneg _) (Int.natCast_nonneg _),Int.natCast_mul,Int.natCast_mul]
  by_cases h1:q.num<0
  ·have h2:r.num<0:=by simpa [h1] using hs'
   rw [decide_eq_true h1,yag,show ((q.num.natAbs:Nat):Int)=-q.num by omega,show ((r.num.natAbs:Nat):Int)=-r.num by omega,Int.neg_mul,Int.neg_mul]
   congr 1
   rw [decide_eq_decide];omega
  ·have h2:¬r.num<0:=by simpa [h1] using hs'
   rw [decide_eq_false h1,yab,show ((q.num.natAbs:Nat):Int)=q.num by omega,show ((r.num.natAbs:Nat):Int)=r.num by omega]
theorem yOO (n:Int) (K:Int→Int→Prop):ypJ n K=K (n:Rat).num (n:Rat).den:=rfl
end Go.Pf.Vc
namespace Go.Pf.Vc
open Go Go.Pf
theorem cbT {c:Prop} [Decidable c] {P Q:Prop} (h:c):cbr (decide c) P Q=P:=by rw [decide_eq_true h,yag]
theorem cbF {c:Prop} [Decidable c] {P Q:Prop} (h:¬c):cbr (decide c) P Q=Q:=by rw [decide_eq_false h,yab]
theorem cnT {a b:Int} {P Q:Prop} (h:a≠b):cbr (a != b) P Q=P:=by rw [yLO h,yag]
theorem cnF {a b:Int} {P Q:Prop} (h:a=b):cbr (a != b) P Q=Q:=by rw [yLN h,yab]
theorem ceT {a b:Int} {P Q:Prop} (h:a=b):cbr (a == b) P Q=P:=by rw [yOe h,yag]
theorem ceF {a b:Int} {P Q:Prop} (h:a≠b):cbr (a == b) P Q=Q:=by rw [yOd h,yab]
theorem asT {c:Prop} [Decidable c] {P:Prop} (h:c):asr (decide c) P=P:=by rw [decide_eq_true h,yaF]
theorem asC {l:List Int} {i:Nat} {P:Prop} (h:i<l.length):asr (conf zI (List.getD (ints l) i .nils)) P=P:=by rw [yhX h,yaF]
theorem wib {n:Int} (h1:-9223372036854775808≤n) (h2:n≤9223372036854775807):IntKind.i64.wrap n=n:=wi64 ⟨h1,h2⟩
theorem ybM (i:Nat):(i:Int)+1=((i+1:Nat):Int):=by omega
theorem yfb {x:Int} (h:-1000000000000000000≤x∧x≤1000000000000000000):small (x:Rat):=by
 unfold small
 rw [Rat.num_intCast,Rat.den_intCast]
 omega
def allD (dens:List Int):Prop:=∀ d∈dens,0≤d∧d≤12
def yzK (dens:List Int):Prop:=∃ d∈dens,0<d
instance (l:List Int):Decidable (allD l):=by unfold allD;infer_instance
instance (l:List Int):Decidable (yzK l):=by unfold yzK;infer_instance
def VC (len:Int) (cuts dens:List Int):Prop :=
 1≤len∧len≤1000∧2≤cuts.length∧cuts.length≤40∧dens.length+1=cuts.length∧cuts.getD 0 0=0∧cuts.getD (cuts.length-1) 0=len∧incr cuts 0∧allD dens∧yzK dens
theorem yLR (l:List Int):incr l 0↔∀ j,j<l.length→j+1<l.length→l.getD j 0<l.getD (j+1) 0:=⟨fun h j _ h2=>h j (by omega) h2,fun h j _ h2=>h j (by omega) h2⟩
instance (l:List Int):Decidable (incr l 0):=decidable_of_iff _ (yLR l).symm
instance (len:Int) (cuts dens:List Int):Decidable (VC len cuts dens):=by unfold VC;infer_instance
def ckC (len:Int) (cuts dens:List Int):Int:=if len>1000∨cuts.length>40 then 4 else if VC len cuts dens then 0 else 8
theorem yJb (l:List Int) (x:Int):(l.foldl mnf x<0)↔¬(∀ d∈x::l,0≤d):=by
 induction l generalizing x with
 | nil=>simp
 | cons y t ih =>
  rw [List.foldl_cons,ih]
  unfold mnf
  simp only [List.forall_mem_cons]
  split
  ·constructor
   ·intro h h2;exact h ⟨h2.2.1,h2.2.2⟩
   ·intro h h2;exact h ⟨by omega,h2.1,h2.2⟩
  ·constructor
   ·intro h h2;exact h ⟨h2.1,h2.2.2⟩
   ·intro h h2;exact h ⟨h2.1,by omega,h2.2⟩
theorem yuF (l:List Int) (x k:Int):(l.foldl mxf x>k)↔¬(∀ d∈x::l,d≤k):=by
 induction l generalizing x with
 | nil=>simp
 | cons y t ih =>
  rw [List.foldl_cons,ih]
  unfold mxf
  simp only [List.forall_mem_cons]
  split
  ·constructor
   ·intro h h2;exact h ⟨h2.2.1,h2.2.2⟩
   ·intro h h2;exact h ⟨by omega,h2.1,h2.2⟩
  ·constructor
   ·intro h h2;exact h ⟨h2.1,h2.2.2⟩
   ·intro h h2;exact h ⟨h2.1,by omega,h2.2⟩
theorem yjo {len:Int} {cuts dens:List Int} (h1:cuts.length<4611686018427387904) (h2:dens.length<4611686018427387904) (K:Int→Prop) :
  yaD len (ints cuts) (ints dens) K=K (ckC len cuts dens):=by
 refine yy3 _ _ _ _ (fun K k=>?_) K
 unfold yaD yk8
 simp only [ycm]
 have bad:¬(len>1000∨cuts.length>40)→¬VC len cuts dens→K 8:=fun h h2=>by
  rw [ckC,if_neg h,if_neg h2] at k;exact k
 by_cases a1:len>1000
 ·rw [cbT a1];rw [ckC,if_pos (.inl a1)] at k;exact k
 rw [cbF a1]
 by_cases a2:cuts.length>40
 ·rw [cbT (by omega)];rw [ckC,if_pos (.inr a2)] at k;exact k
 have a12:¬(len>1000∨cuts.length>40):=by omega
 rw [cbF (by omega)]
 by_cases a3:len<1
 ·rw [cbT a3];exact bad a12 (fun h=>by have:=h.1;omega)
 rw [cbF a3]
 by_cases a4:cuts.length<2
 ·rw [cbT (by omega)];exact bad a12 (fun h=>by have:=h.2.2.1;omega)
 rw [cbF (by omega),wib (n:=(cuts.length:Int)-1) (by omega) (by omega)]
 by_cases a5:dens.length+1=cuts.length
 case neg=>rw [cnT (by omega)];exact bad a12 (fun h=>a5 h.2.2.2.2.1)
 rw [cnF (by omega),asT (by omega),asC (by omega),ydQ (by omega)]
 by_cases a6:cuts.getD 0 0=0
 case neg=>rw [cnT a6];exact bad a12 (fun h=>a6 h.2.2.2.2.2.1)
 rw [cnF a6,asT (by omega),asT (by omega),asC (by omega),ydQ (by omega)]
 have en:((cuts.length:Int)-1).toNat=cuts.length-1:=by omega
 rw [en]
 by_cases a7:cuts.getD (cuts.length-1) 0=len
 case neg=>rw [cnT a7];exact bad a12 (fun h=>a7 h.2.2.2.2.2.2.1)
 rw [cnF a7]
 refine ⟨cuts.length+1,?_⟩
 refine yIa (by omega) _ _ _ _ (cuts.length-1) 0 _ (by omega) (by omega) (fun hi=>?_) (fun hi=>bad a12 (fun h=>hi h.2.2.2.2.2.2.2.1))
 obtain ⟨x,t,e⟩:∃ x t,dens=x::t:=by
  cases dens with
  | nil=>exfalso;have:([]:List Int).length=0:=rfl;omega
  | cons x t=>exact ⟨x,t,rfl⟩
 refine yON (by omega) e ?_
 by_cases b1:t.foldl mnf x<0
 ·rw [cbT b1]
  rw [yJb] at b1
  exact bad a12 (fun h=>b1 fun d hd=>(h.2.2.2.2.2.2.2.2.1 d (by rw [e];exact hd)).1)
 rw [cbF b1]
 refine yLI (by omega) e ?_
 by_cases b2:t.foldl mxf x>12
 ·rw [cbT b2]
  rw [yuF] at b2
  exact bad a12 (fun h=>b2 fun d hd=>(h.2.2.2.2.2.2.2.2.1 d (by rw [e];exact hd)).2)
 rw [cbF b2]
 refine yLI (by omega) e ?_
 have c1:∀ d∈dens,0≤d:=by rw [yJb,Classical.not_not,← e] at b1;exact b1
 have c2:∀ d∈dens,d≤12:=by rw [yuF,Classical.not_not,← e] at b2;exact b2
 by_cases b3:t.foldl mxf x=0
 ·rw [ceT b3]
  refine bad a12 (fun h=>?_)
  obtain ⟨d,hd,h0⟩:=h.2.2.2.2.2.2.2.2.2
  have:¬(t.foldl mxf x>0):=by omega
  rw [yuF,Classical.not_not,← e] at this
  have:=this d hd
  omega
 ·rw [ceF b3]
  have b4:t.foldl mxf x>0:=by
   refine Int.not_le.1 fun hle=>b3 ?_
   have:t.foldl mxf x>-1:=by
    rw [yuF]
    intro h
    have h1:=h x (qAg ..)
    have h2:=c1 x (by rw [e];exact qAg ..)
    omega
   omega
  rw [yuF,← e] at b4
  have b5:yzK dens:=by
   refine Classical.byContradiction fun hn=>b4 fun d hd=>?_
   exact Int.not_lt.1 fun hlt=>hn ⟨d,hd,hlt⟩
  rw [ckC,if_neg a12,if_pos ⟨by omega,by omega,by omega,by omega,a5,a6,a7,hi,fun d hd=>⟨c1 d hd,c2 d hd⟩,b5⟩] at k
  exact k
theorem yqe (n:Int) (K:Int→Int→Prop):yeP n K=K (n:Rat).num (n:Rat).den:=rfl
theorem yhu {q r:Rat} (hq:small q) (hr:small r) (K:Bool→Prop):yeK q.num q.den r.num r.den K=K (decide (q<r)):=by
 unfold yeK yno
 rw [yxR hq hr]
 congr 1
 rw [decide_eq_decide,cmpQ]
 by_cases h:q<r
 ·simp [h]
 ·by_cases h2:r<q <;> simp [h,h2]
def PT (len:Int) (n d:Int):Prop:=RV n d∧0≤n∧n≤len*d
instance (len n d:Int):Decidable (PT len n d):=by unfold PT;infer_instance
theorem yOP {len n d:Int} (h:PT len n d):∃ q:Rat,small q∧q.num=n∧(q.den:Int)=d∧0≤q∧q≤(len:Rat):=by
 obtain ⟨h1,h2,h3⟩:=h
 obtain ⟨q,e1,e2,e3⟩:=yEk h1
 refine ⟨q,e1,e2,e3,?_,?_⟩
 ·rw [← Rat.num_nonneg,e2];exact h2
 ·rw [Rat.le_iff,e2,e3,Rat.num_intCast,Rat.den_intCast];simpa using h3
theorem yzL (x:Int) (q:Rat):((x:Rat)<q)↔x*(q.den:Int)<q.num:=by
 rw [Rat.lt_iff,Rat.num_intCast,Rat.den_intCast];simp
theorem yGb {len:Int} (hl:-1000000000000000000≤len∧len≤1000000000000000000) {n d:Int} (hn:I64 n) (hd:I64 d) (a b:List PV) (K:Bool→Prop) :
  yeQ len a b n d K=K (decide (PT len n d)):=by
 unfold yeQ ylb
 rw [yKi hn hd]
 by_cases h:RV n d
 ·obtain ⟨q,e1,e2,e3⟩:=yEk h
  rw [chk,if_pos h,ceT rfl]
  by_cases h0:n≥0
  ·rw [cbT h0,yqe,← e2,← e3,yhu (yfb hl) e1]
   congr 1
   have:((len:Rat)<q)↔len*(q.den:Int)<q.num:=yzL _ _
   by_cases h3:(len:Rat)<q
   ·have h4:=this.1 h3
    rw [decide_eq_true h3,decide_eq_false];rfl
    intro hp;have:=hp.2.2;omega
   ·have h4:¬_:=fun x=>h3 (this.2 x)
    rw [decide_eq_false h3,decide_eq_true];rfl
    exact ⟨e1.rv,by omega,by omega⟩
  ·rw [cbF h0,decide_eq_false]
   intro hp;have:=hp.2.1;omega
 ·rw [chk,if_neg h,ceF (by decide),decide_eq_false]
  intro hp;exact h hp.1
end Go.Pf.Vc
namespace Go.Pf.Vc
open Go Go.Pf
section
variable {len:Int} {cuts dens:List Int}
theorem VC.step (h:VC len cuts dens) {i:Nat} (hi:i+1<cuts.length):cuts.getD i 0<cuts.getD (i+1) 0:=h.2.2.2.2.2.2.2.1 i (qBi _) hi
theorem VC.mono (h:VC len cuts dens) {i:Nat}:∀ {j:Nat},i≤j→j<cuts.length→cuts.getD i 0≤cuts.getD j 0
 | 0,hij,_=>by
  have:i=0:=by omega
  subst this;exact Int.le_refl _
 | j+1,hij,hj=>by
  by_cases e:i=j+1
  ·subst e;exact Int.le_refl _
  ·have h1:=h.mono (i:=i) (j:=j) (by omega) (by omega)
   have h2:=h.step (i:=j) hj
   omega
theorem VC.lo (h:VC len cuts dens) {i:Nat} (hi:i<cuts.length):0≤cuts.getD i 0:=by
 have:=h.mono (qBi i) hi
 rw [h.2.2.2.2.2.1] at this;exact this
theorem VC.hi (h:VC len cuts dens) {i:Nat} (hi:i<cuts.length):cuts.getD i 0≤len:=by
 have:=h.mono (i:=i) (j:=cuts.length-1) (by omega) (by omega)
 rw [h.2.2.2.2.2.2.1] at this;exact this
theorem VC.den (h:VC len cuts dens) {i:Nat} (hi:i<dens.length):0≤dens.getD i 0∧dens.getD i 0≤12:=by
 rw [qAd,qAa hi]
 exact h.2.2.2.2.2.2.2.2.1 _ (qBj hi)
theorem VC.l1 (h:VC len cuts dens):dens.length+1=cuts.length:=h.2.2.2.2.1
theorem VC.l2 (h:VC len cuts dens):cuts.length≤40:=h.2.2.2.1
theorem VC.len0 (h:VC len cuts dens):1≤len∧len≤1000:=⟨h.1,h.2.1⟩
theorem VC.sc (h:VC len cuts dens) {i:Nat} (hi:i<cuts.length):small ((cuts.getD i 0:Int):Rat):=yfb (by have:=h.lo hi;have:=h.hi hi;have:=h.len0;omega)
theorem VC.sd (h:VC len cuts dens) {i:Nat} (hi:i<dens.length):small ((dens.getD i 0:Int):Rat):=yfb (by have:=h.den hi;omega)
theorem yzM (h:ckC len cuts dens=0):VC len cuts dens:=by
 unfold ckC at h
 split at h
 ·omega
 ·split at h
  ·assumption
  ·omega
theorem VC.ck (h:VC len cuts dens):ckC len cuts dens=0:=by
 rw [ckC,if_neg (by have:=h.l2;have:=h.len0;omega),if_pos h]
def totS (cuts dens:List Int):Nat→Nat→Int→Int
 | 0,_,s=>s
 | r+1,i,s=>totS cuts dens r (i+1) (s+dens.getD i 0*(cuts.getD (i+1) 0-cuts.getD i 0))
def totC (cuts dens:List Int):Int:=totS cuts dens dens.length 0 0
theorem yJc {d x:Int} (h:0≤d∧d≤12) (hx:0≤x):0≤d*x∧d*x≤12*x:=⟨qA3 h.1 hx,qBg h.2 hx⟩
theorem yzN (h:VC len cuts dens):∀ (r i:Nat) (s:Int),i+r=dens.length→0≤s→s≤12*cuts.getD i 0→0≤totS cuts dens r i s∧totS cuts dens r i s≤12*len
 | 0,i,s,hi,h0,h1=>by
  have:=h.l1
  have:=h.hi (i:=i) (by omega)
  unfold totS
  omega
 | r+1,i,s,hi,h0,h1=>by
  unfold totS
  have l1:=h.l1
  have h2:=h.step (i:=i) (by omega)
  have h3:=yJc (h.den (i:=i) (by omega)) (x:=cuts.getD (i+1) 0-cuts.getD i 0) (by omega)
  exact yzN h r (i+1) _ (by omega) (by omega) (by omega)
theorem ykq (h:VC len cuts dens):0≤totC cuts dens∧totC cuts dens≤12000:=by
 have l1:=h.l1
 have h0:=h.lo (i:=0) (by omega)
 have:=yzN h dens.length 0 0 (by omega) (by omega) (by omega)
 have h2:=h.len0
 unfold totC;omega
theorem yzO (h:VC len cuts dens) (W:Int→List PV→List PV→(Int→Prop)→Prop) (x0:Int→List PV→List PV→Int→List PV→Int→Int→Bool→Prop) :
  ∀ (r i n:Nat) (s:Int),i+r=dens.length→r<n→0≤s→s≤12*cuts.getD i 0 →
   ydF W x0 n len (ints cuts) (ints dens) s (ints dens) dens.length i=x0 len (ints cuts) (ints dens) (totS cuts dens r i s) (ints dens) dens.length dens.length false
 | 0,i,n+1,s,hi,hn,h0,h1=>by
  unfold ydF totS
  rw [cbF (by omega)]
  have:(i:Int)=dens.length:=by omega
  rw [this]
 | r+1,i,n+1,s,hi,hn,h0,h1=>by
  unfold ydF
  have l1:=h.l1;have l2:=h.l2
  have h2:=h.step (i:=i) (by omega)
  have h3:=yJc (h.den (i:=i) (by omega)) (x:=cuts.getD (i+1) 0-cuts.getD i 0) (by omega)
  have a1:=h.lo (i:=i) (by omega)
  have a2:=h.hi (i:=i+1) (by omega)
  have a3:=h.len0
  have e1:=wib (n:=(i:Int)+1) (by omega) (by omega)
  have e2:=wib (n:=cuts.getD (i+1) 0-cuts.getD i 0) (by omega) (by omega)
  have e3:=wib (n:=dens.getD i 0*(cuts.getD (i+1) 0-cuts.getD i 0)) (by omega) (by omega)
  have e4:=wib (n:=s+dens.getD i 0*(cuts.getD (i+1) 0-cuts.getD i 0)) (by omega) (by omega)
  rw [cbT (by omega),ycm,ycm,e1,ybM,qAe,qAe,asT (by omega),asT (by omega),asC (by omega),asT (by omega),asT (by omega),asC (by omega),asT (by omega),asT (by omega),asC (by omega),ydQ (by omega),ydQ (by omega),ydQ (by omega),e2,e3,e4]
  exact yzO h W x0 r (i+1) n _ (by omega) (by omega) (by omega) (by omega)
theorem yCg (h1:cuts.length<4611686018427387904) (h2:dens.length<4611686018427387904) (K:Int→Int→Prop) :
  yah len (ints cuts) (ints dens) K=if ckC len cuts dens=0 then K (totC cuts dens) 0 else K 0 (ckC len cuts dens):=by
 by_cases h:ckC len cuts dens=0
 ·rw [if_pos h]
  refine yy5 _ _ _ _ _ (fun K k=>?_) K
  unfold yah yh5
  have hv:=yzM h
  rw [yjo h1 h2,h,cnF rfl]
  refine ⟨dens.length+1,?_⟩
  have l1:=hv.l1
  have a1:=hv.lo (i:=0) (by omega)
  rw [ycm]
  have:=yzO hv yaD (fun b c d a e f g j=>(K a (0:Int))) dens.length 0 (dens.length+1) 0 (by omega) (by omega) (by omega) (by omega)
  rw [show ((0:Nat):Int)=0 from rfl] at this
  rw [this]
  exact k
 ·rw [if_neg h]
  unfold yah yh5
  rw [yjo h1 h2,cnT h]
def exK (e:Except Int Rat) (K:Int→Int→Int→Prop):Prop:=match e with | .ok q=>K q.num q.den 0 | .error c=>K 0 0 c
def fit {α:Type} (q:Rat) (k:Rat→Except Int α):Except Int α:=if small q then k q else .error 16
def valS (cuts dens:List Int) (b:Rat):Nat→Nat→Rat→Rat→Except Int Rat
 | 0,_,_,sum=>.ok sum
 | r+1,i,p,sum =>
  let en:Rat:=if b<(cuts.getD (i+1) 0:Int) then b else (cuts.getD (i+1) 0:Int)
  if dens.getD i 0=0∨¬p<en then valS cuts dens b r (i+1) (if p<en then en else p) sum
  else fit (en-p) fun l=>fit (l*(dens.getD i 0:Int)) fun w=>fit (sum+w) fun s=>valS cuts dens b r (i+1) en s
def valC (cuts dens:List Int) (a b:Rat):Except Int Rat:=valS cuts dens b dens.length 0 a 0
theorem yqM {q:Rat} {K:Int→Int→Int→Prop}:fitK q K=if small q then K q.num q.den 0 else K 0 0 16:=rfl
theorem yzP (h:VC len cuts dens) {b:Rat} (hb:small b) (an ad:Int) (W1:Int→List PV→List PV→(Int→Prop)→Prop) (W2:Int→List PV→List PV→Int→Int→(Bool→Prop)→Prop) (K:Int→Int→Int→Prop) :
  ∀ (r i n:Nat) (p sum:Rat),i+r=dens.length→r<n→small p→small sum →
   yaZ W1 W2 yeK yeP ydz ycZ yaW (fun a d e=>(K a d e)) (fun _ _ _ _ _ _ _ f g _ _ _ _ _ _=>(K f g (0:Int)))
    n len (ints cuts) (ints dens) b.num b.den an ad sum.num sum.den p.num p.den (ints dens) dens.length i=exK (valS cuts dens b r i p sum) K
 | 0,i,n+1,p,sum,hi,hn,hp,hs=>by
  unfold yaZ valS
  rw [cbF (by omega)];rfl
 | r+1,i,n+1,p,sum,hi,hn,hp,hs=>by
  unfold yaZ
  have l1:=h.l1;have l2:=h.l2
  have sc:=h.sc (i:=i+1) (by omega)
  have sd:=h.sd (i:=i) (by omega)
  have e1:=wib (n:=(i:Int)+1) (by omega) (by omega)
  rw [cbT (by omega),ycm,ycm,e1,ybM,qAe,qAe,asT (by omega),asT (by omega),asC (by omega),asT (by omega),asT (by omega),asC (by omega),ydQ (by omega),ydQ (by omega),yqe,yhu hb sc]
  have ih:=fun p sum hp hs=>yzP h hb an ad W1 W2 K r (i+1) n p sum (by omega) (by omega) hp hs
  unfold valS
  by_cases hbc:b<((cuts.getD (i+1) 0:Int):Rat)
  ·rw [cbT hbc]
   simp only [if_pos hbc]
   by_cases hd:dens.getD i 0=0
   ·rw [ceT hd,if_pos (.inl hd),yhu hp hb]
    by_cases hpb:p<b
    ·rw [cbT hpb,if_pos hpb];exact ih b sum hb hs
    ·rw [cbF hpb,if_neg hpb];exact ih p sum hp hs
   ·rw [ceF hd,yhu hp hb]
    by_cases hpb:p<b
    ·have hc:¬(dens.getD i 0=0∨¬p<b):=by simp [hpb];exact hd
     rw [if_neg hc,decide_eq_true hpb,qBl,yab,yI9 hb hp,yqM]
     by_cases s1:small (b-p)
     ·rw [if_pos s1,cnF rfl,yqe,yI7 s1 sd,yqM,fit,if_pos s1]
      by_cases s2:small ((b-p)*(dens.getD i 0:Int))
      ·rw [if_pos s2,cnF rfl,yqK hs s2,yqM,fit,if_pos s2]
       by_cases s3:small (sum+(b-p)*(dens.getD i 0:Int))
       ·rw [if_pos s3,cnF rfl,fit,if_pos s3];exact ih b _ hb s3
       ·rw [if_neg s3,cnT (by decide),fit,if_neg s3];rfl
      ·rw [if_neg s2,cnT (by decide),fit,if_neg s2];rfl
     ·rw [if_neg s1,cnT (by decide),fit,if_neg s1];rfl
    ·rw [if_pos (.inr hpb),decide_eq_false hpb,qBh,yag,yhu hp hb,cbF hpb,if_neg hpb];exact ih p sum hp hs
  ·rw [cbF hbc]
   simp only [if_neg hbc]
   obtain ⟨c,hc⟩:∃ c:Rat,c=((cuts.getD (i+1) 0:Int):Rat):=⟨_,rfl⟩
   rw [← hc] at sc ⊢
   by_cases hd:dens.getD i 0=0
   ·rw [ceT hd,if_pos (.inl hd),yhu hp sc]
    by_cases hpb:p<c
    ·rw [cbT hpb,if_pos hpb];exact ih c sum sc hs
    ·rw [cbF hpb,if_neg hpb];exact ih p sum hp hs
   ·rw [ceF hd,yhu hp sc]
    by_cases hpb:p<c
    ·have hcc:¬(dens.getD i 0=0∨¬p<c):=by simp [hpb];exact hd
     rw [if_neg hcc,decide_eq_true hpb,qBl,yab,yI9 sc hp,yqM]
     by_cases s1:small (c-p)
     ·rw [if_pos s1,cnF rfl,yqe,yI7 s1 sd,yqM,fit,if_pos s1]
      by_cases s2:small ((c-p)*(dens.getD i 0:Int))
      ·rw [if_pos s2,cnF rfl,yqK hs s2,yqM,fit,if_pos s2]
       by_cases s3:small (sum+(c-p)*(dens.getD i 0:Int))
       ·rw [if_pos s3,cnF rfl,fit,if_pos s3];exact ih c _ sc s3
       ·rw [if_neg s3,cnT (by decide),fit,if_neg s3];rfl
      ·rw [if_neg s2,cnT (by decide),fit,if_neg s2];rfl
     ·rw [if_neg s1,cnT (by decide),fit,if_neg s1];rfl
    ·rw [if_pos (.inr hpb),decide_eq_false hpb,qBh,yag,yhu hp sc,cbF hpb,if_neg hpb];exact ih p sum hp hs
end
end Go.Pf.Vc
namespace Go.Pf.Vc
open Go Go.Pf
def rt (n d:Int):Rat:=mkRat n d.toNat
theorem ydq (q:Rat):rt q.num q.den=q:=by unfold rt;rw [qAe,Rat.mkRat_self]
theorem yiU {n d:Int} (h:RV n d):small (rt n d)∧(rt n d).num=n∧((rt n d).den:Int)=d:=by
 obtain ⟨q,h1,h2,h3⟩:=yEk h
 subst h2 h3
 rw [ydq];exact ⟨h1,rfl,rfl⟩
theorem PT.pt {len n d:Int} (h:PT len n d):small (rt n d)∧(rt n d).num=n∧((rt n d).den:Int)=d∧0≤rt n d∧rt n d≤(len:Rat):=by
 obtain ⟨q,h1,h2,h3,h4,h5⟩:=yOP h
 subst h2 h3
 rw [ydq];exact ⟨h1,rfl,rfl,h4,h5⟩
theorem yJd {len:Int} {q:Rat} (h:small q) (h0:0≤q) (h1:q≤(len:Rat)):PT len q.num q.den:=by
 refine ⟨h.rv,Rat.num_nonneg.2 h0,?_⟩
 rw [Rat.le_iff,Rat.num_intCast,Rat.den_intCast] at h1
 simpa using h1
section
variable {len:Int} {cuts dens:List Int}
def valR (len:Int) (cuts dens:List Int) (an ad bn bd:Int):Except Int Rat :=
 if ckC len cuts dens=0 then (if PT len an ad∧PT len bn bd∧¬rt bn bd<rt an ad then valC cuts dens (rt an ad) (rt bn bd) else .error 2) else .error (ckC len cuts dens)
theorem yOQ {w:(Int→Int→Int→Prop)→Prop} {e:Except Int Rat} (det:∀ r0 r1 r2,(∀ K:Int→Int→Int→Prop,K r0 r1 r2→w K)→∀ K,w K=K r0 r1 r2) (h:∀ K,exK e K→w K) (K:Int→Int→Int→Prop):w K=exK e K:=by
 cases e with
 | ok q=>exact det _ _ _ h K
 | error c=>exact det _ _ _ h K
theorem yCh (h1:cuts.length<4611686018427387904) (h2:dens.length<4611686018427387904) {an ad bn bd:Int} (ha:I64 an) (ha':I64 ad) (hb:I64 bn) (hb':I64 bd) (K:Int→Int→Int→Prop) :
  yaT len (ints cuts) (ints dens) an ad bn bd K=exK (valR len cuts dens an ad bn bd) K:=by
 refine yOQ (fun r0 r1 r2 h K=>yy4 _ _ _ _ _ _ _ r0 r1 r2 h K) (fun K k=>?_) K
 unfold yaT ylc
 rw [yjo h1 h2]
 unfold valR at k
 by_cases h:ckC len cuts dens=0
 case neg=>rw [cnT h];rw [if_neg h] at k;exact k
 have hv:=yzM h
 have hl:=hv.len0
 rw [if_pos h] at k
 rw [cnF h,yGb (by omega) ha ha']
 by_cases p1:PT len an ad
 case neg=>rw [decide_eq_false p1,qBh,yag];rw [if_neg (fun x=>p1 x.1)] at k;exact k
 rw [decide_eq_true p1,qBl,yab,yGb (by omega) hb hb']
 by_cases p2:PT len bn bd
 case neg=>rw [decide_eq_false p2,qBh,yag];rw [if_neg (fun x=>p2 x.2.1)] at k;exact k
 rw [decide_eq_true p2,qBl,yab]
 obtain ⟨s1,e1,e2,_,_⟩:=p1.pt
 obtain ⟨s2,f1,f2,_,_⟩:=p2.pt
 have hless:=yhu s2 s1
 rw [e1,e2,f1,f2] at hless
 rw [hless]
 by_cases p3:rt bn bd<rt an ad
 ·rw [cbT p3];rw [if_neg (fun x=>x.2.2 p3)] at k;exact k
 rw [cbF p3]
 rw [if_pos ⟨p1,p2,p3⟩] at k
 rw [yqe,ycm]
 refine ⟨dens.length+1,?_⟩
 have:=yzP hv s2 0 0 yaD yeQ K dens.length 0 (dens.length+1) (rt an ad) 0 (by omega) (by omega) s1 (by decide)
 rw [e1,e2,f1,f2] at this
 exact this.mpr k
end
end Go.Pf.Vc
namespace Go.Pf.Vc
open Go Go.Pf
section
variable {len:Int} {cuts dens:List Int}
def okD (cuts dens:List Int) (i:Nat):Prop:=∀ j,i≤j→j<dens.length→cuts.getD j 0<cuts.getD (j+1) 0∧0≤dens.getD j 0∧dens.getD j 0≤12
theorem yqf (l1:dens.length+1=cuts.length) (l2:dens.length<4611686018427387904) (x0:Int→Prop) (x1:Int→List PV→List PV→Bool→Int→Bool→Prop) (P:Prop)
  (hbad:¬okD cuts dens 0→x0 8=P) (hgood:∀ b:Bool,okD cuts dens 0→b=decide (∃ j,j<dens.length∧0<dens.getD j 0)→x1 len (ints cuts) (ints dens) b dens.length false=P) :
  ∀ (r i n:Nat) (b:Bool),i+r=dens.length→r<n→(∀ j,j<i→cuts.getD j 0<cuts.getD (j+1) 0∧0≤dens.getD j 0∧dens.getD j 0≤12)→b=decide (∃ j,j<i∧0<dens.getD j 0) →
   ydg x0 x1 n len (ints cuts) (ints dens) b i=P
 | 0,i,n+1,b,hi,hn,hj,hb=>by
  unfold ydg
  rw [ycm,cbF (by omega),show (i:Int)=dens.length by omega]
  refine hgood b (fun j _ h=>hj j (by omega)) ?_
  rw [hb,decide_eq_decide]
  rw [show i=dens.length by omega]
 | r+1,i,n+1,b,hi,hn,hj,hb=>by
  unfold ydg
  have e1:=wib (n:=(i:Int)+1) (by omega) (by omega)
  rw [ycm,ycm,cbT (by omega),e1,ybM,qAe,qAe,asT (by omega),asT (by omega),asC (by omega),asT (by omega),asT (by omega),asC (by omega),ydQ (by omega),ydQ (by omega)]
  have bad:¬(cuts.getD i 0<cuts.getD (i+1) 0∧0≤dens.getD i 0∧dens.getD i 0≤12)→x0 8=P:=fun h=>hbad fun hk=>h (hk i (by omega) (by omega))
  by_cases a1:cuts.getD (i+1) 0≤cuts.getD i 0
  ·rw [cbT a1];exact bad (by omega)
  rw [cbF a1,asT (by omega),asT (by omega),asC (by omega),ydQ (by omega)]
  by_cases a2:dens.getD i 0<0
  ·rw [cbT a2];exact bad (by omega)
  rw [cbF a2,asT (by omega),asT (by omega),asC (by omega)]
  by_cases a3:dens.getD i 0>12
  ·rw [cbT a3];exact bad (by omega)
  rw [cbF a3]
  have hj2:∀ j,j<i+1→cuts.getD j 0<cuts.getD (j+1) 0∧0≤dens.getD j 0∧dens.getD j 0≤12:=by
   intro j hlt
   by_cases e:j=i
   ·subst e;omega
   ·exact hj j (by omega)
  have ex:∀ c:Bool,(c=true↔(b=true∨0<dens.getD i 0))→c=decide (∃ j,j<i+1∧0<dens.getD j 0):=by
   intro c hc
   rw [Bool.eq_iff_iff,hc,hb,decide_eq_true_iff,decide_eq_true_iff]
   constructor
   ·rintro (⟨j,h1,h2⟩ | h)
    ·exact ⟨j,by omega,h2⟩
    ·exact ⟨i,by omega,h⟩
   ·rintro ⟨j,h1,h2⟩
    by_cases e:j=i
    ·subst e;exact .inr h2
    ·exact .inl ⟨j,by omega,h2⟩
  cases b with
  | true =>
   rw [yag]
   exact yqf l1 l2 x0 x1 P hbad hgood r (i+1) n true (by omega) (by omega) hj2 (ex _ (by simp))
  | false =>
   rw [yab,asT (by omega),asT (by omega),asC (by omega)]
   exact yqf l1 l2 x0 x1 P hbad hgood r (i+1) n _ (by omega) (by omega) hj2 (ex _ (by simp))
theorem yCi (h1:cuts.length<4611686018427387904) (h2:dens.length<4611686018427387904) (K:Int→Prop) :
  ycN len (ints cuts) (ints dens) K=K (ckC len cuts dens):=by
 refine yA9 _ _ _ _ (fun K k=>?_) K
 unfold ycN ynA
 simp only [ycm]
 have bad:¬(len>1000∨cuts.length>40)→¬VC len cuts dens→K 8:=fun h h2=>by
  rw [ckC,if_neg h,if_neg h2] at k;exact k
 by_cases a1:len>1000
 ·rw [cbT a1];rw [ckC,if_pos (.inl a1)] at k;exact k
 rw [cbF a1]
 by_cases a2:cuts.length>40
 ·rw [cbT (by omega)];rw [ckC,if_pos (.inr a2)] at k;exact k
 have a12:¬(len>1000∨cuts.length>40):=by omega
 rw [cbF (by omega)]
 by_cases a3:len<1
 ·rw [cbT a3];exact bad a12 (fun h=>by have:=h.1;omega)
 rw [cbF a3]
 by_cases a4:cuts.length<2
 ·rw [cbT (by omega)];exact bad a12 (fun h=>by have:=h.2.2.1;omega)
 rw [cbF (by omega),wib (n:=(cuts.length:Int)-1) (by omega) (by omega)]
 by_cases a5:dens.length+1=cuts.length
 case neg=>rw [cnT (by omega)];exact bad a12 (fun h=>a5 h.2.2.2.2.1)
 rw [cnF (by omega),asT (by omega),asC (by omega),ydQ (by omega)]
 by_cases a6:cuts.getD 0 0=0
 case neg=>rw [cnT a6];exact bad a12 (fun h=>a6 h.2.2.2.2.2.1)
 rw [cnF a6,asT (by omega),asT (by omega),asC (by omega),ydQ (by omega)]
 have en:((cuts.length:Int)-1).toNat=cuts.length-1:=by omega
 rw [en]
 by_cases a7:cuts.getD (cuts.length-1) 0=len
 case neg=>rw [cnT a7];exact bad a12 (fun h=>a7 h.2.2.2.2.2.2.1)
 rw [cnF a7]
 have mem:∀ d,d∈dens↔∃ j,j<dens.length∧dens.getD j 0=d:=by
  intro d
  rw [List.mem_iff_getElem]
  constructor
  ·rintro ⟨j,hj,e⟩;exact ⟨j,hj,by rw [qAd,qAa hj];exact e⟩
  ·rintro ⟨j,hj,e⟩;exact ⟨j,hj,by rw [qAd,qAa hj] at e;exact e⟩
 refine ⟨dens.length+1,?_⟩
 refine (yqf a5 h2 _ _ (K (ckC len cuts dens)) (fun hk=>?_) (fun b hk hb=>?_) dens.length 0 (dens.length+1) false (by omega) (by omega) (fun j h=>by omega) (by simp)).mpr k
 ·have hv:¬VC len cuts dens:=fun h=>hk fun j _ hj=>⟨h.step (by omega),h.den hj⟩
  rw [ckC,if_neg a12,if_neg hv]
 ·have hsome:yzK dens↔∃ j,j<dens.length∧0<dens.getD j 0:=by
   constructor
   ·rintro ⟨d,hd,h0⟩
    obtain ⟨j,hj,e⟩:=(mem d).1 hd
    exact ⟨j,hj,by rw [e];exact h0⟩
   ·rintro ⟨j,hj,h0⟩;exact ⟨_,(mem _).2 ⟨j,hj,rfl⟩,h0⟩
  have hv:VC len cuts dens↔yzK dens:=by
   refine ⟨fun h=>h.2.2.2.2.2.2.2.2.2,fun h=>⟨by omega,by omega,by omega,by omega,a5,a6,a7,fun j _ hj=>(hk j (by omega) (by omega)).1,fun d hd=>?_,h⟩⟩
   obtain ⟨j,hj,e⟩:=(mem d).1 hd
   rw [← e];exact (hk j (by omega) hj).2
  rw [ckC,if_neg a12]
  by_cases hs:yzK dens
  ·rw [if_pos (hv.2 hs),hb,decide_eq_true (hsome.1 hs)];rfl
  ·rw [if_neg (fun x=>hs (hv.1 x)),hb,decide_eq_false (fun x=>hs (hsome.2 x))];rfl
theorem yCj (hl:-1000000000000000000≤len∧len≤1000000000000000000) {n d:Int} (hn:I64 n) (hd:I64 d) (K:Bool→Prop) :
  yfF len n d K=K (decide (PT len n d)):=by
 unfold yfF ynC
 rw [yqL hn hd]
 by_cases h:RV n d
 ·obtain ⟨q,e1,e2,e3⟩:=yEk h
  rw [chk,if_pos h,ceT rfl]
  by_cases h0:n≥0
  ·rw [cbT h0,yOO,← e2,← e3,ykp (yfb hl) e1]
   congr 1
   have:((len:Rat)<q)↔len*(q.den:Int)<q.num:=yzL _ _
   by_cases h3:(len:Rat)<q
   ·have h4:=this.1 h3
    rw [decide_eq_true h3,decide_eq_false];rfl
    intro hp;have:=hp.2.2;omega
   ·have h4:¬_:=fun x=>h3 (this.2 x)
    rw [decide_eq_false h3,decide_eq_true];rfl
    exact ⟨e1.rv,by omega,by omega⟩
  ·rw [cbF h0,decide_eq_false]
   intro hp;have:=hp.2.1;omega
 ·rw [chk,if_neg h,ceF (by decide),decide_eq_false]
  intro hp;exact h hp.1
end
end Go.Pf.Vc
namespace Go.Pf.Vc
open Go Go.Pf
section
variable {len:Int} {cuts dens:List Int}
theorem yIb {α:Type} {q:Rat} {k:Rat→Except Int α} (h:small q):fit q k=k q:=if_pos h
end
end Go.Pf.Vc
namespace Go.Pf.Vc
open Go Go.Pf
structure Ck where
 len:Int
 cuts:List Int
 dens:List Int
instance:Inhabited Ck:=⟨⟨0,[],[]⟩⟩
def encC (c:Ck):PV:=.agg [.int .i64 c.len,.data (ints c.cuts),.data (ints c.dens)]
def cks (l:List Ck):List PV:=l.map encC
def Ck.fin (c:Ck):Prop:=c.cuts.length<4611686018427387904∧c.dens.length<4611686018427387904
def Ck.err (c:Ck):Int:=ckC c.len c.cuts c.dens
def Ck.ok (c:Ck):Prop:=VC c.len c.cuts c.dens
instance (c:Ck):Decidable c.ok:=by unfold Ck.ok;infer_instance
theorem yba (l:List Ck):(cks l).length=l.length:=qAk ..
theorem yge {l:List Ck} {i:Nat} (h:i<l.length):List.getD (cks l) i .nils=encC (l.getD i default):=by
 unfold cks
 rw [qAd,qAd,qBb,qAa h]
 rfl
theorem ybi {α:Type} {l:List α} {i:Nat} (d:α) (h:i<l.length):l.drop i=l.getD i d::l.drop (i+1):=by
 rw [List.drop_eq_getElem_cons h,qAd,qAa h];rfl
theorem asCk {c:Ck} {P:Prop}:asr (conf zK (encC c)) P=P:=rfl
theorem ck0 (c:Ck):yaa (yac (encC c) 0)=c.len:=rfl
theorem ck1 (c:Ck):yap (yac (encC c) 1)=ints c.cuts:=rfl
theorem ck2 (c:Ck):yap (yac (encC c) 2)=ints c.dens:=rfl
def ygf:List Ck→Int
 | []=>0
 | c::t=>if c.err=0 then ygf t else c.err
def ykr (n:Int):List Ck→Bool
 | []=>true
 | c::t=>decide (c.len=n)&&ykr n t
def ymq (l:List Ck) (m:Nat):Int :=
 if l.length>6 then 4 else if m>2000 then 4 else if l.length=0 then 8 else if ygf l=0 then (if ykr (l.getD 0 default).len l then 0 else 8) else ygf l
section
variable {l:List Ck}
def finC (l:List Ck):Prop:=∀ i,i<l.length→(l.getD i default).fin
theorem yJe (hf:finC l) (hl:l.length<4611686018427387904) (x0:Int→Prop) (x1:List PV→List PV→List PV→Int→Int→Bool→Prop) (lg:List PV) :
  ∀ (r i n:Nat),i+r=l.length→r<n→yd0 yaD x0 x1 n (cks l) lg (cks l) l.length i =
   if ygf (l.drop i)=0 then x1 (cks l) lg (cks l) l.length l.length false else x0 (ygf (l.drop i))
 | 0,i,n+1,hi,hn=>by
  unfold yd0
  rw [cbF (by omega),qAs (by omega),show (i:Int)=l.length by omega];rfl
 | r+1,i,n+1,hi,hn=>by
  unfold yd0
  have e1:=wib (n:=(i:Int)+1) (by omega) (by omega)
  obtain ⟨f1,f2⟩:=hf i (by omega)
  rw [cbT (by omega),yba,qAe,yge (by omega),asT (by omega),asT (by omega),asCk,ck0,ck1,ck2,yjo (by omega) (by omega),ybi default (by omega),ygf,e1,ybM]
  show cbr ((l.getD i default).err != 0) _ _=_
  by_cases h:(l.getD i default).err=0
  ·rw [cnF h,if_pos h];exact yJe hf hl x0 x1 lg r (i+1) n (by omega) (by omega)
  ·rw [cnT h,if_neg h,if_neg h];rfl
theorem yJf (hl:l.length<4611686018427387904) (x0:Int→Prop) (x1:List PV→List PV→List PV→Int→Int→Bool→Prop) (lg:List PV) (W) :
  ∀ (r i n:Nat),i+r=l.length→r<n→ydf W x0 x1 n (cks l) lg (cks l) l.length i =
   if ykr (l.getD 0 default).len (l.drop i) then x1 (cks l) lg (cks l) l.length l.length false else x0 8
 | 0,i,n+1,hi,hn=>by
  unfold ydf
  rw [cbF (by omega),qAs (by omega),show (i:Int)=l.length by omega];rfl
 | r+1,i,n+1,hi,hn=>by
  unfold ydf
  have e1:=wib (n:=(i:Int)+1) (by omega) (by omega)
  rw [cbT (by omega),yba,qAe,yge (by omega),yge (by omega),asT (by omega),asT (by omega),asCk,asT (by omega),asCk,ck0,ck0,ybi default (by omega),ykr,e1,ybM]
  by_cases h:(l.getD i default).len=(l.getD 0 default).len
  ·rw [cnF h,decide_eq_true h,qAy];exact yJf hl x0 x1 lg W r (i+1) n (by omega) (by omega)
  ·rw [cnT h,decide_eq_false h,qBc,if_neg (by simp)]
theorem yKj (hf:finC l) (hl:l.length<4611686018427387904) (lg:List PV) (K:Int→Prop):yed (cks l) lg K=K (ymq l lg.length):=by
 refine yA7 _ _ _ (fun K k=>?_) K
 unfold yed ynt
 unfold ymq at k
 rw [yba]
 by_cases a1:l.length>6
 ·rw [cbT (by omega)];rw [if_pos a1] at k;exact k
 rw [cbF (by omega)];rw [if_neg a1] at k
 by_cases a2:lg.length>2000
 ·rw [cbT (by omega)];rw [if_pos a2] at k;exact k
 rw [cbF (by omega)];rw [if_neg a2] at k
 by_cases a3:l.length=0
 ·rw [ceT (by omega)];rw [if_pos a3] at k;exact k
 rw [ceF (by omega)];rw [if_neg a3] at k
 refine ⟨l.length+1,?_⟩
 have h0:=yJe hf hl (fun c=>K c) (fun a d o p q r=>(∃ e:Nat,ydf yaD (fun b=>(K b)) (fun f g i j m n=>(K (0:Int))) e a d a (((List.length a):Nat):Int) (0:Int))) lg l.length 0 (l.length+1) (by omega) (by omega)
 rw [show ((0:Nat):Int)=0 from rfl,qAt] at h0
 rw [h0]
 by_cases a4:ygf l=0
 ·rw [if_pos a4] at k ⊢
  refine ⟨l.length+1,?_⟩
  have h1:=yJf hl (fun b=>(K b)) (fun f g i j m n=>(K (0:Int))) lg yaD l.length 0 (l.length+1) (by omega) (by omega)
  rw [show ((0:Nat):Int)=0 from rfl,qAt] at h1
  rw [yba,h1]
  split at k <;> rename_i h <;> simp only [h] <;> exact k
 ·rw [if_neg a4] at k ⊢;exact k
theorem yJg (hf:finC l) (hl:l.length<4611686018427387904) (x0:Int→Prop) (x1:List PV→List PV→Int→Bool→Prop) (lg:List PV) :
  ∀ (r i n:Nat),i+r=l.length→r<n→yd1 ycN x0 x1 n (cks l) lg i =
   if ygf (l.drop i)=0 then x1 (cks l) lg l.length false else x0 (ygf (l.drop i))
 | 0,i,n+1,hi,hn=>by
  unfold yd1
  rw [yba,cbF (by omega),qAs (by omega),show (i:Int)=l.length by omega];rfl
 | r+1,i,n+1,hi,hn=>by
  unfold yd1
  have e1:=wib (n:=(i:Int)+1) (by omega) (by omega)
  obtain ⟨f1,f2⟩:=hf i (by omega)
  rw [yba,cbT (by omega),qAe,yge (by omega),asT (by omega),asT (by omega),asCk,ck0,ck1,ck2,yCi (by omega) (by omega),ybi default (by omega),ygf,e1,ybM]
  show cbr ((l.getD i default).err != 0) _ _=_
  by_cases h:(l.getD i default).err=0
  ·rw [cnF h,if_pos h];exact yJg hf hl x0 x1 lg r (i+1) n (by omega) (by omega)
  ·rw [cnT h,if_neg h,if_neg h,asT (by omega),asT (by omega),asCk,yCi (by omega) (by omega)];rfl
theorem yJh (hl:l.length<4611686018427387904) (x0:Int→Prop) (x1:List PV→List PV→Int→Bool→Prop) (lg:List PV) (W) :
  ∀ (r i n:Nat),i+r=l.length→r<n→ydh W x0 x1 n (cks l) lg i =
   if ykr (l.getD 0 default).len (l.drop i) then x1 (cks l) lg l.length false else x0 8
 | 0,i,n+1,hi,hn=>by
  unfold ydh
  rw [yba,cbF (by omega),qAs (by omega),show (i:Int)=l.length by omega];rfl
 | r+1,i,n+1,hi,hn=>by
  unfold ydh
  have e1:=wib (n:=(i:Int)+1) (by omega) (by omega)
  rw [yba,cbT (by omega),qAe,yge (by omega),yge (by omega),asT (by omega),asT (by omega),asCk,asT (by omega),asCk,ck0,ck0,ybi default (by omega),ykr,e1,ybM]
  by_cases h:(l.getD i default).len=(l.getD 0 default).len
  ·rw [cnF h,decide_eq_true h,qAy];exact yJh hl x0 x1 lg W r (i+1) n (by omega) (by omega)
  ·rw [cnT h,decide_eq_false h,qBc,if_neg (by simp)]
theorem yKk (hf:finC l) (hl:l.length<4611686018427387904) (lg:List PV) (K:Int→Prop):yee (cks l) lg K=K (ymq l lg.length):=by
 refine yBa _ _ _ (fun K k=>?_) K
 unfold yee ynD
 unfold ymq at k
 rw [yba]
 by_cases a1:l.length>6
 ·rw [cbT (by omega)];rw [if_pos a1] at k;exact k
 rw [cbF (by omega)];rw [if_neg a1] at k
 by_cases a2:lg.length>2000
 ·rw [cbT (by omega)];rw [if_pos a2] at k;exact k
 rw [cbF (by omega)];rw [if_neg a2] at k
 by_cases a3:l.length=0
 ·rw [ceT (by omega)];rw [if_pos a3] at k;exact k
 rw [ceF (by omega)];rw [if_neg a3] at k
 refine ⟨l.length+1,?_⟩
 have h0:=yJg hf hl (fun b=>K b) (fun c d m n=>(∃ e:Nat,ydh ycN (fun a=>(K a)) (fun f g i j=>(K (0:Int))) e c d (0:Int))) lg l.length 0 (l.length+1) (by omega) (by omega)
 rw [show ((0:Nat):Int)=0 from rfl,qAt] at h0
 rw [h0]
 by_cases a4:ygf l=0
 ·rw [if_pos a4] at k ⊢
  refine ⟨l.length+1,?_⟩
  have h1:=yJh hl (fun a=>(K a)) (fun f g i j=>(K (0:Int))) lg ycN l.length 0 (l.length+1) (by omega) (by omega)
  rw [show ((0:Nat):Int)=0 from rfl,qAt] at h1
  rw [h1]
  split at k <;> rename_i h <;> simp only [h] <;> exact k
 ·rw [if_neg a4] at k ⊢;exact k
def Ck.low (c:Ck):Prop:=c.cuts.length≤1000∧c.dens.length≤1000
def lowC (l:List Ck):Prop:=∀ i,i<l.length→(l.getD i default).low
end
end Go.Pf.Vc
namespace Go.Pf.Vc
open Go Go.Pf
section
variable {l:List Ck}
theorem ywJ:∀ (l:List Ck),ygf l=0→∀ i,i<l.length→(l.getD i default).ok
 | c::t,h,0,_=>by
  unfold ygf at h
  split at h
  ·rename_i h1;exact yzM h1
  ·rename_i h1;exact absurd h h1
 | c::t,h,i+1,hi=>by
  unfold ygf at h
  split at h
  ·exact ywJ t h i (by simpa using hi)
  ·rename_i h1;exact absurd h h1
theorem yzQ {n:Int}:∀ (l:List Ck),ykr n l=true→∀ i,i<l.length→(l.getD i default).len=n
 | c::t,h,0,_=>by
  unfold ykr at h
  simp only [qAb,decide_eq_true_eq] at h
  exact h.1
 | c::t,h,i+1,hi=>by
  unfold ykr at h
  simp only [qAb,decide_eq_true_eq] at h
  exact yzQ t h.2 i (by simpa using hi)
structure DK (l:List Ck):Prop where
 n6:l.length≤6
 n0:1≤l.length
 ok:∀ i,i<l.length→(l.getD i default).ok
 len:∀ i,i<l.length→(l.getD i default).len=(l.getD 0 default).len
theorem yzR {m:Nat} (h:ymq l m=0):DK l∧m≤2000:=by
 unfold ymq at h
 split at h
 ·omega
 split at h
 ·omega
 split at h
 ·omega
 split at h
 ·rename_i h0 h1 h2 h3
  split at h
  ·rename_i h4
   exact ⟨⟨by omega,by omega,ywJ l h3,yzQ l h4⟩,by omega⟩
  ·omega
 ·rename_i h3;exact absurd h h3
theorem DK.err {l:List Ck} (h:DK l) {m:Nat} (hm:m≤2000):ymq l m=0:=by
 have f:∀ l:List Ck,(∀ i,i<l.length→(l.getD i default).ok)→ygf l=0:=by
  intro l
  induction l with
  | nil=>intro _;rfl
  | cons c t ih =>
   intro h
   unfold ygf
   rw [if_pos (show c.err=0 from (h 0 (Nat.zero_lt_succ _)).ck)]
   exact ih fun i hi=>h (i+1) (by simpa using hi)
 have g:∀ (n:Int) (l:List Ck),(∀ i,i<l.length→(l.getD i default).len=n)→ykr n l=true:=by
  intro n l
  induction l with
  | nil=>intro _;rfl
  | cons c t ih =>
   intro h
   unfold ykr
   rw [qAb,decide_eq_true_eq]
   exact ⟨h 0 (Nat.zero_lt_succ _),ih fun i hi=>h (i+1) (by simpa using hi)⟩
 have:=h.n6;have:=h.n0
 unfold ymq
 rw [if_neg (by omega),if_neg (by omega),if_neg (by omega),if_pos (f l h.ok),if_pos (g _ l h.len)]
theorem DK.fin {l:List Ck} (h:DK l):finC l:=fun i hi=>by
 have h1:=(h.ok i hi).l1;have h2:=(h.ok i hi).l2
 exact ⟨by omega,by omega⟩
end
end Go.Pf.Vc
namespace Go.Pf.Vc
open Go Go.Pf
section
variable {l:List Ck}
def ywa (l:List Ck):Bool:=l.any (fun c=>decide (c.cuts.length>60)||decide (c.dens.length>60))||decide (l.length>10)
theorem yKl {len:Int} {cuts dens:List Int} (K:Bool→Prop):yfE len (ints cuts) (ints dens) K=K (decide (cuts.length>60)||decide (dens.length>60)):=by
 unfold yfE ynz
 rw [ycm,ycm]
 by_cases h:cuts.length>60
 ·rw [cbT (by omega),decide_eq_true h];rfl
 ·rw [cbF (by omega),decide_eq_false h,Bool.false_or]
  congr 1;rw [decide_eq_decide];omega
theorem yoD (hl:l.length≤9223372036854775807) (K:Bool→Prop) :
  ∀ (r i n:Nat),i+r=l.length→r<n→ycx yfE (fun a=>(K a)) (fun b _ _=>(K (decide ((((List.length b):Nat):Int)>(10:Int))))) n (cks l) i =
   K ((l.drop i).any (fun c=>decide (c.cuts.length>60)||decide (c.dens.length>60))||decide (l.length>10))
 | 0,i,n+1,hi,hn=>by
  unfold ycx
  rw [yba,cbF (by omega),qAs (by omega)]
  show K _=K (false||_)
  rw [Bool.false_or]
  congr 1;rw [decide_eq_decide];omega
 | r+1,i,n+1,hi,hn=>by
  unfold ycx
  have e1:=wib (n:=(i:Int)+1) (by omega) (by omega)
  rw [yba,cbT (by omega),qAe,yge (by omega),asT (by omega),asT (by omega),asCk,ck0,ck1,ck2,yKl,ybi default (by omega),List.any_cons,e1,ybM]
  cases hb:(decide ((l.getD i default).cuts.length>60)||decide ((l.getD i default).dens.length>60)) with
  | true=>rw [yag];rfl
  | false=>rw [yab,Bool.false_or];exact yoD hl K r (i+1) n (by omega) (by omega)
theorem yBl (hl:l.length≤9223372036854775807) (K:Bool→Prop):ybw (cks l) K=K (ywa l):=by
 refine ysJ _ _ (fun K k=>?_) K
 unfold ybw yhk
 refine ⟨l.length+1,?_⟩
 have:=yoD hl K l.length 0 (l.length+1) (by omega) (by omega)
 rw [show ((0:Nat):Int)=0 from rfl,qAt] at this
 rw [this];exact k
theorem yIc (h:ywa l=false):l.length≤10∧lowC l∧finC l:=by
 unfold ywa at h
 simp only [qBw,decide_eq_false_iff_not,List.any_eq_false,Bool.not_eq_true,Nat.not_lt] at h
 have hh:∀ i,i<l.length→(l.getD i default).cuts.length≤60∧(l.getD i default).dens.length≤60:=by
  intro i hi
  have hm:l.getD i default∈l:=by rw [qAd,qAa hi];exact qBj hi
  have:=h.1 _ hm
  omega
 exact ⟨by omega,fun i hi=>⟨by have:=hh i hi;omega,by have:=hh i hi;omega⟩,fun i hi=>⟨by have:=hh i hi;omega,by have:=hh i hi;omega⟩⟩
theorem yKm {n d:Int} (hn:-1000000000000000000≤n∧n≤1000000000000000000) (hd:1≤d∧d≤1000000000000000000):small ((n:Rat) / (d:Rat)):=by
 have e:(n:Rat) / (d:Rat)=mkRat n d.toNat:=by
  rw [Rat.mkRat_eq_div]
  have h1:((d.toNat:Nat):Int)=d:=by omega
  have h2:((d.toNat:Nat):Rat)=(d:Rat):=by rw [← Rat.intCast_natCast,h1]
  rw [h2]
 rw [e]
 unfold small
 rw [Rat.num_mkRat,Rat.den_mkRat,if_neg (by omega),if_neg (by omega)]
 have g0:0<d.toNat.gcd n.natAbs:=Nat.gcd_pos_of_pos_left _ (by omega)
 have h1:(n / (d.toNat.gcd n.natAbs:Nat)).natAbs≤n.natAbs:=by
  rw [Int.natAbs_ediv_of_dvd,Int.natAbs_natCast]
  ·exact qCb _ _
  ·rw [← Int.dvd_natAbs,Int.ofNat_dvd];exact Nat.gcd_dvd_right _ _
 have h2:d.toNat / d.toNat.gcd n.natAbs≤d.toNat:=qCb _ _
 generalize n / (d.toNat.gcd n.natAbs:Nat)=x at *
 generalize d.toNat / d.toNat.gcd n.natAbs=y at *
 omega
end
end Go.Pf.Vc
namespace Go.Pf.Vc
open Go Go.Pf
theorem rne {D:Int} (h:1≤D):(D:Rat)≠0:=fun e=>by have:=Rat.intCast_eq_zero_iff.1 e;omega
section
variable {len:Int} {cuts dens:List Int}
def rem (cuts dens:List Int):Nat→Nat→Int
 | 0,_=>0
 | r+1,i=>dens.getD i 0*(cuts.getD (i+1) 0-cuts.getD i 0)+rem cuts dens r (i+1)
theorem yzS (cuts dens:List Int):∀ (r i:Nat) (s:Int),totS cuts dens r i s=s+rem cuts dens r i
 | 0,i,s=>by unfold totS rem;omega
 | r+1,i,s=>by unfold totS rem;rw [yzS cuts dens r (i+1)];omega
theorem yCk (h:VC len cuts dens):∀ (r i:Nat),i+r=dens.length→0≤rem cuts dens r i∧rem cuts dens r i≤12*(len-cuts.getD i 0)
 | 0,i,hi=>by
  have:=h.l1
  have:=h.hi (i:=i) (by omega)
  unfold rem;omega
 | r+1,i,hi=>by
  unfold rem
  have l1:=h.l1
  have h2:=h.step (i:=i) (by omega)
  have h3:=yJc (h.den (i:=i) (by omega)) (x:=cuts.getD (i+1) 0-cuts.getD i 0) (by omega)
  have:=yCk h r (i+1) (by omega)
  omega
theorem yJi (h:VC len cuts dens):∀ (r i:Nat),i+r=dens.length→(∃ j,i≤j∧j<dens.length∧0<dens.getD j 0)→0<rem cuts dens r i
 | 0,i,hi,⟨j,h1,h2,_⟩=>by omega
 | r+1,i,hi,⟨j,h1,h2,h3⟩=>by
  unfold rem
  have l1:=h.l1
  have s:=h.step (i:=i) (by omega)
  have m:=yJc (h.den (i:=i) (by omega)) (x:=cuts.getD (i+1) 0-cuts.getD i 0) (by omega)
  have b:=yCk h r (i+1) (by omega)
  by_cases e:j=i
  ·subst e
   have:=Int.mul_pos h3 (show 0<cuts.getD (j+1) 0-cuts.getD j 0 by omega)
   omega
  ·have:=yJi h r (i+1) (by omega) ⟨j,by omega,h2,h3⟩
   omega
theorem yGc (h:VC len cuts dens):0<totC cuts dens:=by
 unfold totC
 rw [yzS]
 obtain ⟨d,hd,h0⟩:=h.2.2.2.2.2.2.2.2.2
 obtain ⟨j,hj,e⟩:=List.mem_iff_getElem.1 hd
 have:=yJi h dens.length 0 (by omega) ⟨j,by omega,hj,by rw [qAd,qAa hj];simpa [e] using h0⟩
 omega
end
end Go.Pf.Vc
namespace Go.Pf.Vc
open Go Go.Pf
structure Sp where
 a:Int
 b:Int
 c:Int
 d:Int
 deriving DecidableEq
instance:Inhabited Sp:=⟨⟨0,0,0,0⟩⟩
def encS (s:Sp):PV:=.agg [.int .i64 s.a,.int .i64 s.b,.int .i64 s.c,.int .i64 s.d]
def ycn (l:List Sp):List PV:=l.map encS
def yeW (l:List (List Sp)):List PV:=l.map fun s=>.data (ycn s)
theorem yd6 (l:List Sp):(ycn l).length=l.length:=qAk ..
theorem ymr {l:List Sp} {i:Nat} (h:i<l.length):List.getD (ycn l) i .nils=encS (l.getD i default):=by
 unfold ycn
 rw [qAd,qAd,qBb,qAa h]
 rfl
theorem yeX (l:List (List Sp)):(yeW l).length=l.length:=qAk ..
theorem ywb {l:List (List Sp)} {i:Nat} (h:i<l.length):List.getD (yeW l) i .nils=.data (ycn (l.getD i [])):=by
 unfold yeW
 rw [qAd,qAd,qBb,qAa h]
 rfl
theorem asD {r:List PV} {P:Prop}:asr (conf zD (.data r)) P=P:=rfl
end Go.Pf.Vc
namespace Go.Pf.Vc
open Go Go.Pf
section
variable {l:List Ck}
theorem yNr (x y:Rat):decide (cmpQ x y≥0)=!decide (x<y):=by
 unfold cmpQ
 by_cases h:x<y
 ·simp [h]
 ·by_cases h2:y<x <;> simp [h,h2]
end
end Go.Pf.Vc
namespace Go.Pf.Vc
open Go Go.Pf
def dsR:DS:=.a [.i .i64,.i .i64]
def dsC:DS:=.a [.i .i64,.s (.i .i64),.s (.i .i64)]
theorem yqN {n:Int} (h:inK .i64 n):I64 n:=by
 have e1:IntKind.i64.min=-9223372036854775808:=by decide
 have e2:IntKind.i64.max=9223372036854775807:=by decide
 unfold inK at h
 rw [e1,e2] at h
 exact h
theorem F_i {c:List PV} (h:HasF (.i .i64) c):∃ n,c=[.int .i64 n]∧I64 n:=by
 simp only [HasF] at h
 obtain ⟨n,e,k⟩:=h
 exact ⟨n,e,yqN k⟩
theorem yEm:∀ (rows:List PV),(∀ x∈rows,x.isAgg=(DS.i .i64).isA∧HasF (.i .i64) x.cells)→∃ l:List Int,rows=ints l∧∀ n∈l,I64 n
 | [],_=>⟨[],rfl,by simp⟩
 | x::r,h=>by
  obtain ⟨l,e,hl⟩:=yEm r (fun y hy=>h y (qAf _ hy))
  obtain ⟨h1,h2⟩:=h x (qAg ..)
  obtain ⟨n,e2,hn⟩:=F_i h2
  have ex:x=.int .i64 n:=by
   cases x <;> first | (simp only [PV.cells,qAu,and_true] at e2;exact e2) | (cases h1)
  refine ⟨n::l,by rw [ex,e];rfl,?_⟩
  intro m hm
  rcases qAn.1 hm with rfl | hm
  ·exact hn
  ·exact hl m hm
end Go.Pf.Vc
