/- Part 4 of what the statement rests on: a verified evaluator over pure values, the conditions of the program's functions, and their plain laws. -/
import Derived.Test.YtijdgcomldpncaaTsW3
namespace Go.Pf.Vc
open Go Go.Pf
set_option maxRecDepth 100000
def ymc (Q:Qx):Ls→Ls→Ls→Ls→Nat→Nat→Nat→Ls→Int→Ls→Ls→Int→Int→Int→Int→Int→Int→Ls→Ls→Int→Int→Int→Int→Int→Int→Nat→Nat→Nat→Int→Int→Ls→Ls→Int→Bool→Ls→Ls→Int→Int→Int→Int→Int→Int→Bool→Bool→Prop:=(fun l0 l1 l2 l3 n4 n5 n6 l9 i10 l11 l12 i13 i14 i15 i16 i17 i18 l19 l20 i21 i22 i23 i24 i25 i26 n27 n28 n29 i30 i31 l32 l33 i34 b35 l36 l37 i38 i39 i40 i41 i42 i43 b44 b45=>Q (.brk 0 0) [(0,.v (.fn (.yield 0) [] [])),(1,.v (.ptr 6 1 0 0)),(2,.v (.ptr 7 1 0 0)),(4,.v (.own 8 0 n27 n28 (some n29))),(6,.box (.agg [(.int .i64 i30),(.int .i64 i31)])),(7,.box (.agg [(.data l32),(.data l33)])),(8,.v (.ptr 13 1 0 0)),(9,.v (.int .i64 i34)),(37,.v (.bool b35)),(41,.v (.fn (.yield 0) [] [])),(42,.v (.agg [(.data l36),(.data l37)])),(43,.v (.agg [(.int .i64 i38),(.int .i64 i39),(.int .i64 i40),(.int .i64 i41),(.int .i64 i42),(.int .i64 i43)])),(44,.v (.bool b44)),(45,.v (.bool b45))] [⟨false,true,1,([(.data l3)]:Ls)⟩,⟨false,false,1,([(.agg [(.own 5 0 n4 n5 (some n6))])]:Ls)⟩,⟨false,false,1,([(.own 12 0 (List.length l2) (List.length l2) none)]:Ls)⟩,⟨false,true,1,([(.data l9)]:Ls)⟩,⟨false,true,1,([(.int .i64 i10)]:Ls)⟩,⟨false,true,1,l0⟩,⟨false,true,2,([(.agg [(.data l11),(.data l12)])]:Ls)⟩,⟨false,false,1,([(.fn (.func yav) [] [(.ptr 4 1 0 0)])]:Ls)⟩,⟨false,true,1,l1⟩,⟨false,true,6,([]:Ls)⟩,⟨false,true,2,([]:Ls)⟩,⟨false,true,6,([]:Ls)⟩,⟨false,true,6,l2⟩,⟨false,true,6,([(.agg [(.int .i64 i13),(.int .i64 i14),(.int .i64 i15),(.int .i64 i16),(.int .i64 i17),(.int .i64 i18)])]:Ls)⟩,⟨false,true,2,([(.agg [(.data l19),(.data l20)])]:Ls)⟩,⟨false,true,6,([(.agg [(.int .i64 i21),(.int .i64 i22),(.int .i64 i23),(.int .i64 i24),(.int .i64 i25),(.int .i64 i26)])]:Ls)⟩])
def pt29:RPt:=rC vD rN
def pt30:RPt:=rC (vA (lC (vO 5 (nK 0) nV nV nV) lN)) rN
def pt31:RPt:=rC (vF yav lN (lC (vP 4 0 (nK 1) (nK 0)) lN)) rN
def pt32:HPt:=hB false true 1 rA hN
def pt33:HPt:=hB false true 1 pt29 (hB false false 1 pt30 (hB false false 1 (rC vNs rN) (hB false true 1 pt29 (hB false true 1 pt15 (hB false true 1 rA (hB false true 2 pt23 (hB false false 1 pt31 pt32)))))))
def pt34:VPt:=vP 6 0 (nK 1) (nK 0)
def pt35:VPt:=vP 7 0 (nK 1) (nK 0)
def pt36:VPt:=vO 8 (nK 0) nV nV nV
def pt37:Pat Frm:=fV 1 pt16 (fV 2 pt18 (fV 3 pt17 (fV 4 pt28 (fV 5 (vP 4 0 (nK 1) (nK 0)) (fV 24 (vF yc3 lN (lC pt34 (lC pt35 lN))) fN)))))
def ynR (a0:yaK) (a1:yab) (a2:yaT) (Q:Qx):List St:=[⟨(pS pt33 (fV 0 vY (fV 1 pt34 (fV 2 pt35 (fV 4 pt36 (fV 15 pt0 pt13))))) pt37),fun n l2 n3 n4 n5 l6 i7 l0 l8 l9 l1 n10 n11 n12 i13 i14=>ydw a0 a1 a2 (ytL Q) n l0 l1 l2 n3 n4 n5 l6 i7 l8 l9 n10 n11 n12 i13 i14⟩]
def pt38:RPt:=rC (vW 12 (nK 0) (nT 12) (nT 12)) rN
def pt39:HPt:=hB false true 1 pt29 (hB false false 1 pt30 (hB false false 1 pt38 (hB false true 1 pt29 (hB false true 1 pt15 (hB false true 1 rA (hB false true 2 pt23 (hB false false 1 pt31 (hB false true 1 rA (hB false true 6 pt25 (hB false true 2 pt23 (hB false true 6 pt25 (hB false true 6 rA hN))))))))))))
def pt40:VPt:=vF yaS lN (lC (vP 9 0 (nK 1) (nK 0)) lN)
def pt41:HPt:=hB false true 1 pt29 (hB false false 1 pt30 (hB false false 1 pt38 (hB false true 1 pt29 (hB false true 1 pt15 (hB false true 1 rA (hB false true 2 pt23 (hB false false 1 pt31 (hB false true 1 rA (hB false true 6 rN (hB false true 2 rN (hB false true 6 rN (hB false true 6 rA (hB false true 6 pt25 (hB false true 2 pt23 (hB false true 6 pt25 hN)))))))))))))))
def pt42:VPt:=vF yaS lN (lC (vP 13 0 (nK 1) (nK 0)) lN)
def ynS (a0:yaK) (a1:yab) (a2:yaT) (Q:Qx):List St:=[⟨(pS pt39 (fV 0 pt36 (fV 1 pt40 pt7)) fN),fun n l3 n4 n5 n6 l9 i10 l0 l11 l12 l1 i13 i14 i15 i16 i17 i18 l19 l20 i21 i22 i23 i24 i25 i26 l2 n27 n28 n29 i30 i31=>ydx a0 a1 a2 (ytM Q) (ytN Q) n l0 l1 l2 l3 n4 n5 n6 l9 i10 l11 l12 i13 i14 i15 i16 i17 i18 l19 l20 i21 i22 i23 i24 i25 i26 n27 n28 n29 i30 i31⟩,⟨(pS pt41 (fV 0 pt36 (fV 1 pt42 pt7)) fN),fun n l3 n4 n5 n6 l9 i10 l0 l11 l12 l1 l2 i13 i14 i15 i16 i17 i18 l19 l20 i21 i22 i23 i24 i25 i26 n27 n28 n29 i30 i31=>ydy a0 a1 a2 (ytO Q) (ytP Q) n l0 l1 l2 l3 n4 n5 n6 l9 i10 l11 l12 i13 i14 i15 i16 i17 i18 l19 l20 i21 i22 i23 i24 i25 i26 n27 n28 n29 i30 i31⟩]
def ynT (a0:yaK) (a1:yab) (a2:yaT) (Q:Qx):List St:=[⟨(pS pt39 (fV 0 pt36 (fV 1 pt40 (fV 5 pt0 (fV 6 pt0 fN)))) fN),fun n l3 n4 n5 n6 l9 i10 l0 l11 l12 l1 i13 i14 i15 i16 i17 i18 l19 l20 i21 i22 i23 i24 i25 i26 l2 n27 n28 n29 i30 i31=>ydz a0 a1 a2 (ytQ Q) n l0 l1 l2 l3 n4 n5 n6 l9 i10 l11 l12 i13 i14 i15 i16 i17 i18 l19 l20 i21 i22 i23 i24 i25 i26 n27 n28 n29 i30 i31⟩,⟨(pS pt41 (fV 0 pt36 (fV 1 pt42 (fV 5 pt0 (fV 6 pt0 fN)))) fN),fun n l3 n4 n5 n6 l9 i10 l0 l11 l12 l1 l2 i13 i14 i15 i16 i17 i18 l19 l20 i21 i22 i23 i24 i25 i26 n27 n28 n29 i30 i31=>ydA a0 a1 a2 (ytR Q) n l0 l1 l2 l3 n4 n5 n6 l9 i10 l11 l12 i13 i14 i15 i16 i17 i18 l19 l20 i21 i22 i23 i24 i25 i26 n27 n28 n29 i30 i31⟩]
def pt43:Pat Frm:=fV 0 vY (fV 1 pt34 (fV 2 pt35 (fV 4 pt36 (fX 6 pt5 fN))))
def ynU (a0:yaK) (a1:yab) (a2:yaT) (Q:Qx):List St:=[⟨(pS pt33 pt43 pt37),fun n l2 n3 n4 n5 l6 i7 l0 l8 l9 l1 n10 n11 n12 i13 i14=>ycV a0 a1 a2 (ytS Q) (ytT Q) (ytU Q) (yma Q) (ymb Q) (ymc Q) n l0 l1 l2 n3 n4 n5 l6 i7 l8 l9 n10 n11 n12 i13 i14⟩,⟨(pS (hB false true 1 pt29 (hB false false 1 pt30 (hB false false 1 pt38 (hB false true 1 pt29 (hB false true 1 pt15 (hB false true 1 rA (hB false true 2 pt23 (hB false false 1 pt31 (hB false true 1 rA (hB false true 6 rN (hB false true 2 rN (hB false true 6 rN (hB false true 6 rA hN))))))))))))) pt43 pt37),fun n l3 n4 n5 n6 l9 i10 l0 l11 l12 l1 l2 n13 n14 n15 i16 i17=>ycU a0 a1 a2 (yma Q) (ymb Q) (ymc Q) n l0 l1 l2 l3 n4 n5 n6 l9 i10 l11 l12 n13 n14 n15 i16 i17⟩]
def ydJ (a0:yaK) (a1:yab) (a2:yaT):LP:=lpS [(82399400,ynR a0 a1 a2),(91326000,ynS a0 a1 a2),(55401000,ynT a0 a1 a2),(82399401,ynU a0 a1 a2)]
def ygE (e:Es) (a0:yaK) (a1:yab) (a2:yaT):SE:=⟨(E e),ygT [(ydL,yyN.pw a0),(ybv,yiC.pw a1)],ygU [(ygj,ynw),(yav,ypf),(yaS,yic)],ydJ a0 a1 a2,ytp [(ycx,ygo a2)]⟩
def ygF (e:Es) (a0:yaK) (a1:yab) (a2:yaT):SE:=⟨(E e),ygT [(ydL,yyN.pw a0),(ybv,yiC.pw a1)],ygU [(ygj,ynw),(yav,ypf),(ycy,yj8),(yd2,yk7),(yaS,yic)],ydJ a0 a1 a2,ytp [(ycx,ygo a2)]⟩
theorem yhj (e:Es) (he:EG e):SEOk (Uni (E e)) (ygE e yaJ yao yaH):=yys (Sub.uni _) ⟨(yif e he),(yeX e he),trivial⟩ ⟨⟨by kernel_rfl,by kernel_rfl,rfl,fun as=>ya8 (by kernel_rfl) as,he.num _ (by kernel_rfl),by kernel_rfl,(yah (by kernel_rfl))⟩,⟨by kernel_rfl,by kernel_rfl,rfl,fun as=>ya8 (by kernel_rfl) as,he.num _ (by kernel_rfl),by kernel_rfl,(yah (by kernel_rfl))⟩,⟨by kernel_rfl,by kernel_rfl,rfl,fun as=>ya8 (by kernel_rfl) as,he.num _ (by kernel_rfl),by kernel_rfl,(yah (by kernel_rfl))⟩,trivial⟩ he.ok ⟨(ynQ e he),trivial⟩
theorem yr2 (e:Es) (a0 a1 a2):ycZ (ygE e a0 a1 a2) 5 (fun G=>WYk (E e) (yjd (ygE e a0 a1 a2) 5) (ydJ a0 a1 a2) G [25,26] ycB ycC) yj9 true (ynR a0 a1 a2):=fun _=>⟨fun _=>by kernel_rfl,fun _ _=>by kernel_rfl,trivial⟩
theorem yr3 (e:Es) (he:EG e) (G:Frm):LpT (Rng (E e) G [25,26] (erase ycB) (erase ycC)) (ydJ yaJ yao yaH) G 82399400 (.loopG 82399400 yj9):=fun _ _ _=>ylr.stG (P:=(Rng (E e) G [25,26] (erase ycB) (erase ycC))) (Sub.rng _ _ _ _ _) ((yaD (yhj e he) 5).sub (Sub.rng _ _ _ _ _)) (yDd (as:=ycB) (bd:=ycC) (yaD (yhj e he) 5) (by kernel_rfl) (by kernel_rfl) (yah (by kernel_rfl)) (yah (by kernel_rfl))) (yah (by kernel_rfl)) (yr2 e _ _ _ _)
theorem yr8 (e:Es) (a0 a1 a2):ycZ (ygE e a0 a1 a2) 5 a yj6 false (ynS a0 a1 a2):=fun _=>⟨fun _=>by kernel_rfl,fun _ _=>by kernel_rfl,fun _=>by kernel_rfl,fun _ _=>by kernel_rfl,trivial⟩
theorem yr9 (e:Es) (he:EG e):LpT (Uni (E e)) (ydJ yaJ yao yaH) [] 91326000 (.loop 91326000 yj6):=fun _ _ _=>ylr.st (Sub.uni _) (yaD (yhj e he) 5) (YOk.no _ _) (yah (by kernel_rfl)) (yr8 e _ _ _ _)
theorem ysa (e:Es) (a0 a1 a2):ycZ (ygE e a0 a1 a2) 5 a yj7 false (ynT a0 a1 a2):=fun _=>⟨fun _=>by kernel_rfl,fun _ _=>by kernel_rfl,fun _=>by kernel_rfl,fun _ _=>by kernel_rfl,trivial⟩
theorem ysb (e:Es) (he:EG e):LpT (Uni (E e)) (ydJ yaJ yao yaH) [] 55401000 (.loop 55401000 yj7):=fun _ _ _=>ylr.st (Sub.uni _) (yaD (yhj e he) 5) (YOk.no _ _) (yah (by kernel_rfl)) (ysa e _ _ _ _)
theorem yhk (e:Es) (he:EG e):SEOk (Uni (E e)) (ygF e yaJ yao yaH):=yys (Sub.uni _) ⟨(yif e he),(yeX e he),trivial⟩ ⟨⟨by kernel_rfl,by kernel_rfl,rfl,fun as=>ya8 (by kernel_rfl) as,he.num _ (by kernel_rfl),by kernel_rfl,(yah (by kernel_rfl))⟩,⟨by kernel_rfl,by kernel_rfl,rfl,fun as=>ya8 (by kernel_rfl) as,he.num _ (by kernel_rfl),by kernel_rfl,(yah (by kernel_rfl))⟩,⟨by kernel_rfl,by kernel_rfl,rfl,fun as=>ya8 (by kernel_rfl) as,he.num _ (by kernel_rfl),by kernel_rfl,(ybp (l:=[(55401000,.loop 55401000 yj7)]) ⟨ysb e he,trivial⟩ (by kernel_rfl))⟩,⟨by kernel_rfl,by kernel_rfl,rfl,fun as=>ya8 (by kernel_rfl) as,he.num _ (by kernel_rfl),by kernel_rfl,(ybp (l:=[(91326000,.loop 91326000 yj6)]) ⟨yr9 e he,trivial⟩ (by kernel_rfl))⟩,⟨by kernel_rfl,by kernel_rfl,rfl,fun as=>ya8 (by kernel_rfl) as,he.num _ (by kernel_rfl),by kernel_rfl,(yah (by kernel_rfl))⟩,trivial⟩ he.ok ⟨(ynQ e he),trivial⟩
theorem ysc (e:Es) (a0 a1 a2):ycZ (ygF e a0 a1 a2) 5 (fun G=>WYk (E e) (yjd (ygF e a0 a1 a2) 5) (ydJ a0 a1 a2) G [25,26] ycB ycC) yka true (ynU a0 a1 a2):=fun _=>⟨fun _=>by kernel_rfl,fun _ _=>by kernel_rfl,fun _=>by kernel_rfl,fun _ _=>by kernel_rfl,trivial⟩
theorem ysd (e:Es) (he:EG e) (G:Frm):LpT (Rng (E e) G [25,26] (erase ycB) (erase ycC)) (ydJ yaJ yao yaH) G 82399401 (.loopG 82399401 yka):=fun _ _ _=>ylr.stG (P:=(Rng (E e) G [25,26] (erase ycB) (erase ycC))) (Sub.rng _ _ _ _ _) ((yaD (yhk e he) 5).sub (Sub.rng _ _ _ _ _)) (yDd (as:=ycB) (bd:=ycC) (yaD (yhk e he) 5) (by kernel_rfl) (by kernel_rfl) (yah (by kernel_rfl)) (yah (by kernel_rfl))) (yah (by kernel_rfl)) (ysc e _ _ _ _)
theorem yyT (e:Es) (a0 a1 a2):EqW (ygF e a0 a1 a2) 6 yz8 yyS (yil a0 a1 a2):=fun _ _=>by kernel_rfl
theorem ymd (e:Es) (he:EG e):OkS (E e) (yyS.pw ybM) ye5:=okU he (yyT e _ _ _) (SEOk.solo (S:=(ygF e yaJ yao yaH)) (yhk e he)) (yhM.one ((yhk e he)) 6) (yDe (r:=yyL) (l:=[]) trivial (by kernel_rfl) (by kernel_rfl) (yB1 (f:=yc3) (by kernel_rfl) (by kernel_rfl) (by kernel_rfl) (by kernel_rfl) (fun G=>(ybp (l:=[(82399400,.loopG 82399400 yj9),(82399401,.loopG 82399401 yka)]) ⟨yr3 e he G,ysd e he G,trivial⟩ (by kernel_rfl))) (yah (by kernel_rfl)) (yah (by kernel_rfl))))
def yiP (p0:Int) (K:Int→Int→Prop):Prop :=
 (jn (fun (a:Bool→Prop) =>
 (cbr (decide (p0<(1:Int)))
 (a true)
 (a (decide (p0>(6:Int))))))
 (fun b=>(cbr b
 (K (0:Int) (2:Int))
 (lt (IntKind.i64.wrap (p0*p0)) (fun c =>
 (lt (IntKind.i64.wrap (c-(1:Int))) (fun d =>
 (K d (0:Int)))))))))
def yhl:yab:=yiP
def yuZ:Sg:=⟨pt1,Int→Int→Prop,fun K=>(fun r0 r1=>K (.tup [(.int .i64 r0),(.int .i64 r1)]))⟩
def yu0 (e:Es):SE:=sE (E e) [] lp0
theorem yu1 (e:Es):EqW (yu0 e) 6 ywE yuZ yiP:=fun _ _=>by kernel_rfl
theorem yu2 (e:Es) (he:EG e):OkF (E e) (yuZ.pw yhl) yfH:=okU he (yu1 e) (yar (Sub.uni _) trivial trivial he.ok) yhM.flat (yah (by kernel_rfl))
abbrev yaI:Type:=Ls→Ls→Ls→Int→Int→(Ls→Ls→Int→Int→Int→Int→Int→Int→Int→Prop)→Prop
def ycN (a0:yaO) (a1:yan) (a2:yab) (a3:yat) (a4:yaK) (a5:yax) (a6:yaA) (a7:yaY) (a8:yaA) (b:Ls→Ls→Ls→Int→Int→Int→Int→Int→Int→Int→Int→Int→Ls→Int→Int→Bool→Prop) (c:Int→Int→Int→Int→Int→Int→Int→Prop):Nat→Ls→Ls→Ls→Int→Int→Int→Int→Int→Int→Int→Int→Int→Ls→Int→Int→Prop
 | 0,_,_,_,_,_,_,_,_,_,_,_,_,_,_,_=>False
 | e+1,l0,l1,l2,i3,i4,i5,i6,i7,i8,i9,i10,i11,l12,i13,i14 =>
 (cbr (decide (i14<i13))
 (asr (decide ((0:Int)≤i14))
 (asr (decide (i14<(((List.length l12):Nat):Int)))
 (lt (List.getD l12 (i14.toNat) .nils) (fun a =>
 (asr (conf (.one (.i .i64)) a)
 (jn (fun (d:Bool→Prop) =>
 (cbr (decide ((yaa a)≤i11))
 (d true)
 (d (decide ((yaa a)≥(((List.length l1):Nat):Int))))))
 (fun f=>(cbr f
 (c (0:Int) (0:Int) (0:Int) (0:Int) (0:Int) (0:Int) (2:Int))
 (lt (IntKind.i64.wrap (i14+(1:Int))) (fun g =>
 (ycN a0 a1 a2 a3 a4 a5 a6 a7 a8 b c e l0 l1 l2 i3 i4 i5 i6 i7 i8 i9 i10 (yaa a) l12 i13 g)))))))))))
 (b l0 l1 l2 i3 i4 i5 i6 i7 i8 i9 i10 i11 l12 i13 i14 false))
def ybk (a0:yaO) (a1:yan) (a2:yab) (a3:yat) (a4:yaK) (a5:yax) (a6:yaA) (a7:yaY) (a8:yaA) (h:Ls→Ls→Int→Int→Int→Int→Int→Int→Int→Int→Ls→Int→Int→Int→Int→Int→Int→Ls→Int→Int→Bool→Prop) (j:Ls→Ls→Int→Int→Int→Int→Int→Int→Int→Int→Ls→Int→Int→Int→Int→Int→Int→Int→Int→Ls→Int→Int→Bool→Prop) (b:Ls→Ls→Int→Int→Int→Int→Int→Int→Int→Int→Int→Int→Int→Int→Int→Int→Int→Prop):Nat→Ls→Ls→Int→Int→Int→Int→Int→Int→Int→Int→Ls→Int→Int→Int→Int→Int→Int→Ls→Int→Int→Prop
 | 0,_,_,_,_,_,_,_,_,_,_,_,_,_,_,_,_,_,_,_,_=>False
 | u+1,l0,l1,i2,i3,i4,i5,i6,i7,i8,i9,l10,i11,i12,i13,i14,i15,i16,l17,i18,i19 =>
 (cbr (decide (i19<i18))
 (jn (fun (k:Ls→Ls→Int→Int→Int→Int→Prop) =>
 (asr (decide ((0:Int)≤i19))
 (asr (decide (i19<(((List.length l17):Nat):Int)))
 (lt (List.getD l17 (i19.toNat) .nils) (fun a =>
 (asr (conf (.one (.i .i64)) a)
 (cbr ((((List.length l10):Nat):Int) ==(1:Int))
 (j l0 l1 i2 i3 i4 i5 i6 i7 i8 i9 l10 i11 i12 i13 i14 i15 i16 i19 (yaa a) l17 i18 i19 true)
 (jn (fun (l:Ls→Ls→Int→Prop) =>
 (cbr (decide (i19>(0:Int)))
 (a6 l0 l1 (yaa a) i2 i3 i7 i8 (fun c d v w m =>
 (cbr (m !=(0:Int))
 (b l0 l1 i2 i3 i4 i5 i6 i7 i8 i9 (0:Int) (0:Int) (0:Int) (0:Int) (0:Int) (0:Int) m)
 (a7 c d (yaa a) (fun x y =>
 (a3 v w x y (fun z =>
 (cbr (!z)
 (k c d i4 i7 i8 i9)
 (lt (IntKind.i64.wrap (i9+(1:Int))) (fun A =>
 (l c d A)))))))))))
 (l l0 l1 i9)))
 (fun e f n=>(a7 e f (yaa a) (fun B C =>
 (a8 e f (yaa a) i2 i3 B C (fun D E F G g =>
 (jn (fun (o:Ls→Ls→Int→Int→Int→Prop) =>
 (cbr (g ==(0:Int))
 (o D E (yaa a) F G)
 (o e f i4 i7 i8)))
 (fun p q r s t=>(cbr (g !=(0:Int))
 (b p q i2 i3 r i5 i6 s t n (0:Int) (0:Int) (0:Int) (0:Int) (0:Int) (0:Int) g)
 (k p q r s t n)))))))))))))))))
 (fun H I J K L M=>(lt (IntKind.i64.wrap (i19+(1:Int))) (fun N =>
 (ybk a0 a1 a2 a3 a4 a5 a6 a7 a8 h j b u H I i2 i3 J i5 i6 K L M l10 i11 i12 i13 i14 i15 i16 l17 i18 N)))))
 (h l0 l1 i2 i3 i4 i5 i6 i7 i8 i9 l10 i11 i12 i13 i14 i15 i16 l17 i18 i19 false))
def yiQ (a0:yaO) (a1:yan) (a2:yab) (a3:yat) (a4:yaK) (a5:yax) (a6:yaA) (a7:yaY) (a8:yaA) (p0 p1 p2:Ls) (p3 p4:Int) (K:Ls→Ls→Int→Int→Int→Int→Int→Int→Int→Prop):Prop :=
 (a0 p0 p1 (fun h =>
 (cbr (h !=(0:Int))
 (K ([]:Ls) ([]:Ls) (0:Int) (0:Int) (0:Int) (0:Int) (0:Int) (0:Int) h)
 (∃ o:Nat,ycN a0 a1 a2 a3 a4 a5 a6 a7 a8
 (fun a f p b c _ _ _ _ _ _ q _ _ _ _=>(jn (fun (e:Bool→Prop) =>
 (cbr (decide (q<(0:Int)))
 (e true)
 (a1 b c (fun r =>
 (cbr (r !=(0:Int))
 (e true)
 (cbr (decide (b<(0:Int)))
 (e true)
 (asr (decide ((0:Int)<(((List.length f):Nat):Int)))
 (lt (List.getD f 0 .nils) (fun j =>
 (asr (conf (.agg [.i .i64,.d,.d]) j)
 (a2 (yaa (yae j 0)) (fun s t =>
 (a3 s t b c (fun u =>
 (e (!u))))))))))))))))
 (fun v=>(cbr v
 (K ([]:Ls) ([]:Ls) (0:Int) (0:Int) (0:Int) (0:Int) (0:Int) (0:Int) (2:Int))
 (a4 f (fun g _ k =>
 (a5 p (fun w =>
 (cbr (k !=(0:Int))
 (K ([]:Ls) ([]:Ls) (0:Int) (0:Int) (0:Int) (0:Int) (0:Int) (0:Int) k)
 (asr (decide ((0:Int)<(((List.length a):Nat):Int)))
 (lt (List.getD a 0 .nils) (fun l =>
 (asr (conf (.one (.i .i64)) l)
 (asr (decide ((0:Int)<(((List.length g):Nat):Int)))
 (lt (List.getD g 0 .nils) (fun m =>
 (asr (conf (.agg [.i .i64,.d,.d]) m)
 (a2 (yaa (yae m 0)) (fun x y =>
 (jn (fun (n:Ls→Ls→Int→Int→Int→Int→Int→Int→Int→Int→Int→Int→Int→Int→Int→Int→Prop) =>
 (∃ z:Nat,ybk a0 a1 a2 a3 a4 a5 a6 a7 a8
 (fun A B C D E F G H I J _ L M N O Q R _ _ _ _=>(n A B C D E F G H I J L M N O Q R))
 (fun S T U V W X Y Z va vb _ vc vd ve vf vg vh _ _ _ _ _ _=>(n S T U V W X Y Z va vb vc vd ve vf vg vh))
 (fun _ _ _ _ _ _ _ _ _ _ vi vj vk vl vm vn vo=>(K ([]:Ls) ([]:Ls) vi vj vk vl vm vn vo))
 z g w b c (yaa l) b c x y (0:Int) a (0:Int) (0:Int) (0:Int) (0:Int) (0:Int) (0:Int) a (((List.length a):Nat):Int) (0:Int)))
 (fun vp vq _ _ vr vs vt vu vv vw _ _ _ _ _ _=>(K vp vq vr vs vt vu vv vw (0:Int)))))))))))))))))))))))
 (fun vx vy vz vA vB vC vD=>(K ([]:Ls) ([]:Ls) vx vy vz vA vB vC vD))
 o p2 p0 p1 p3 p4 (0:Int) (0:Int) (0:Int) (0:Int) (0:Int) (0:Int) (-1:Int) p2 (((List.length p2):Nat):Int) (0:Int)))))
def ybl:yaI:=yiQ ybg yaE yao ybr yaJ yaG yaZ ya9 ybh
def yu3:Sg:=⟨(lC pt19 (lC vD (lC pt5 lN))),Ls→Ls→Int→Int→Int→Int→Int→Int→Int→Prop,fun K=>(fun r0 r1 r2 r3 r4 r5 r6 r7 r8=>K (.tup [(.agg [(.data r0),(.data r1)]),(.agg [(.int .i64 r2),(.int .i64 r3),(.int .i64 r4),(.int .i64 r5),(.int .i64 r6),(.int .i64 r7)]),(.int .i64 r8)]))⟩
def yqT (Q:Qx):Ls→Ls→Ls→Int→Int→Int→Int→Int→Int→Int→Int→Int→Ls→Int→Int→Bool→Prop:=(fun l0 l1 l2 i3 i4 i5 i6 i7 i8 i9 i10 i11 l12 i13 i14 b15=>Q (.exit 0) [(1,.v (.data l0)),(3,.box (.agg [(.data l1),(.data l2)])),(5,.box (.agg [(.int .i64 i3),(.int .i64 i4)])),(6,.box (.agg [.nils,.nils])),(7,.box (.agg [(.int .i64 i5),(.int .i64 i6),(.int .i64 i7),(.int .i64 i8),(.int .i64 i9),(.int .i64 i10)])),(10,.v (.int .i64 i11)),(21,.v (.data l12)),(22,.v (.int .i64 i13)),(23,.v (.int .i64 i14)),(24,.v (.bool b15))] [])
def yqU (Q:Qx):Int→Int→Int→Int→Int→Int→Int→Prop:=(fun i0 i1 i2 i3 i4 i5 i6=>Q .ret [(6,.box (.agg [.nils,.nils])),(7,.box (.agg [(.int .i64 i0),(.int .i64 i1),(.int .i64 i2),(.int .i64 i3),(.int .i64 i4),(.int .i64 i5)])),(8,.v (.int .i64 i6))] [])
def yqV (Q:Qx):Ls→Ls→Int→Int→Int→Int→Int→Int→Int→Int→Ls→Int→Int→Int→Int→Int→Int→Ls→Int→Int→Bool→Prop:=(fun l0 l1 i2 i3 i4 i5 i6 i7 i8 i9 l10 i11 i12 i13 i14 i15 i16 l17 i18 i19 b20=>Q (.exit 0) [(1,.v (.data l10)),(3,.v (.ptr 0 1 0 0)),(5,.v (.ptr 1 1 0 0)),(6,.box (.agg [.nils,.nils])),(7,.box (.agg [(.int .i64 i11),(.int .i64 i12),(.int .i64 i13),(.int .i64 i14),(.int .i64 i15),(.int .i64 i16)])),(9,.v (.ptr 2 1 0 0)),(10,.v (.fn (.func ybc) [] [(.ptr 0 1 0 0),(.ptr 1 1 0 0),(.ptr 2 1 0 0)])),(29,.v (.data l17)),(30,.v (.int .i64 i18)),(31,.v (.int .i64 i19)),(32,.v (.bool b20))] [⟨false,true,2,([(.agg [(.data l0),(.data l1)])]:Ls)⟩,⟨false,true,2,([(.agg [(.int .i64 i2),(.int .i64 i3)])]:Ls)⟩,⟨false,true,6,([(.agg [(.int .i64 i4),(.int .i64 i5),(.int .i64 i6),(.int .i64 i7),(.int .i64 i8),(.int .i64 i9)])]:Ls)⟩])
def yqW (Q:Qx):Ls→Ls→Int→Int→Int→Int→Int→Int→Int→Int→Ls→Int→Int→Int→Int→Int→Int→Int→Int→Ls→Int→Int→Bool→Prop:=(fun l0 l1 i2 i3 i4 i5 i6 i7 i8 i9 l10 i11 i12 i13 i14 i15 i16 i17 i18 l19 i20 i21 b22=>Q (.exit 0) [(1,.v (.data l10)),(3,.v (.ptr 0 1 0 0)),(5,.v (.ptr 1 1 0 0)),(6,.box (.agg [.nils,.nils])),(7,.box (.agg [(.int .i64 i11),(.int .i64 i12),(.int .i64 i13),(.int .i64 i14),(.int .i64 i15),(.int .i64 i16)])),(9,.v (.ptr 2 1 0 0)),(10,.v (.fn (.func ybc) [] [(.ptr 0 1 0 0),(.ptr 1 1 0 0),(.ptr 2 1 0 0)])),(11,.v (.int .i64 i17)),(12,.v (.int .i64 i18)),(29,.v (.data l19)),(30,.v (.int .i64 i20)),(31,.v (.int .i64 i21)),(38,.v (.bool b22))] [⟨false,true,2,([(.agg [(.data l0),(.data l1)])]:Ls)⟩,⟨false,true,2,([(.agg [(.int .i64 i2),(.int .i64 i3)])]:Ls)⟩,⟨false,true,6,([(.agg [(.int .i64 i4),(.int .i64 i5),(.int .i64 i6),(.int .i64 i7),(.int .i64 i8),(.int .i64 i9)])]:Ls)⟩])
def yqX (Q:Qx):Ls→Ls→Int→Int→Int→Int→Int→Int→Int→Int→Int→Int→Int→Int→Int→Int→Int→Prop:=(fun l0 l1 i2 i3 i4 i5 i6 i7 i8 i9 i10 i11 i12 i13 i14 i15 i16=>Q .ret [(6,.box (.agg [.nils,.nils])),(7,.box (.agg [(.int .i64 i10),(.int .i64 i11),(.int .i64 i12),(.int .i64 i13),(.int .i64 i14),(.int .i64 i15)])),(8,.v (.int .i64 i16))] [⟨false,true,2,([(.agg [(.data l0),(.data l1)])]:Ls)⟩,⟨false,true,2,([(.agg [(.int .i64 i2),(.int .i64 i3)])]:Ls)⟩,⟨false,true,6,([(.agg [(.int .i64 i4),(.int .i64 i5),(.int .i64 i6),(.int .i64 i7),(.int .i64 i8),(.int .i64 i9)])]:Ls)⟩])
def yk4 (a0:yaO) (a1:yan) (a2:yab) (a3:yat) (a4:yaK) (a5:yax) (a6:yaA) (a7:yaY) (a8:yaA) (Q:Qx):List St:=[⟨(pS hN (fV 1 vD (fX 3 pt19 (fX 5 pt5 (fX 6 pt27 (fX 7 pt24 (fV 10 pt0 (fV 21 vD (fV 22 pt0 (fV 23 pt0 fN))))))))) fN),ycN a0 a1 a2 a3 a4 a5 a6 a7 a8 (yqT Q) (yqU Q)⟩]
def yk5 (a0:yaO) (a1:yan) (a2:yab) (a3:yat) (a4:yaK) (a5:yax) (a6:yaA) (a7:yaY) (a8:yaA) (Q:Qx):List St:=[⟨(pS pt26 (fV 1 vD (fV 3 pt16 (fV 5 pt18 (fX 6 pt27 (fX 7 pt24 (fV 9 pt17 (fV 10 (vF ybc lN (lC pt16 (lC pt18 (lC pt17 lN)))) (fV 29 vD (fV 30 pt0 (fV 31 pt0 fN)))))))))) fN),ybk a0 a1 a2 a3 a4 a5 a6 a7 a8 (yqV Q) (yqW Q) (yqX Q)⟩]
def ygp (a0:yaO) (a1:yan) (a2:yab) (a3:yat) (a4:yaK) (a5:yax) (a6:yaA) (a7:yaY) (a8:yaA):LP:=lpS [(46699600,yk4 a0 a1 a2 a3 a4 a5 a6 a7 a8),(62467600,yk5 a0 a1 a2 a3 a4 a5 a6 a7 a8)]
def yiR (e:Es) (a0:yaO) (a1:yan) (a2:yab) (a3:yat) (a4:yaK) (a5:yax) (a6:yaA) (a7:yaY) (a8:yaA):SE:=⟨(E e),ygT [(ybB,ypz.pw a0),(yaW,ytu.pw a1),(ybv,yiC.pw a2),(ydH,yps.pw a3),(ydL,yyN.pw a4),(yaF,ydu a5),(yei,yrw.pw a6),(ydb,yuV.pw a7),(ye4,yrw.pw a8)],ygU [(ybc,yhN)],ygp a0 a1 a2 a3 a4 a5 a6 a7 a8,fun _=>none⟩
def ynV (e:Es) (a0:yaO) (a1:yan) (a2:yab) (a3:yat) (a4:yaK) (a5:yax) (a6:yaA) (a7:yaY) (a8:yaA):SE:=⟨(E e),ygT [(ybB,ypz.pw a0),(yaW,ytu.pw a1),(ybv,yiC.pw a2),(ydH,yps.pw a3),(ydL,yyN.pw a4),(yaF,ydu a5),(yei,yrw.pw a6),(ydb,yuV.pw a7),(ye4,yrw.pw a8)],ygU [(ycx,ypi),(ybc,yhN)],ygp a0 a1 a2 a3 a4 a5 a6 a7 a8,fun _=>none⟩
theorem yme (e:Es) (he:EG e):SEOk (Uni (E e)) (yiR e ybg yaE yao ybr yaJ yaG yaZ ya9 ybh):=yar (Sub.uni _) ⟨(ydP e he),(ycT e he),(yeX e he),(ykH e he),(yif e he),(ydv e he),(yhh e he),(yiM e he),(yig e he),trivial⟩ ⟨⟨by kernel_rfl,by kernel_rfl,rfl,fun as=>ya8 (by kernel_rfl) as,he.num _ (by kernel_rfl),by kernel_rfl,(yah (by kernel_rfl))⟩,trivial⟩ he.ok
theorem ypM (e:Es) (a0 a1 a2 a3 a4 a5 a6 a7 a8):ycZ (yiR e a0 a1 a2 a3 a4 a5 a6 a7 a8) 5 a ykc false (yk4 a0 a1 a2 a3 a4 a5 a6 a7 a8):=fun _=>⟨fun _=>by kernel_rfl,fun _ _=>by kernel_rfl,trivial⟩
theorem ypN (e:Es) (he:EG e):LpT (Uni (E e)) (ygp ybg yaE yao ybr yaJ yaG yaZ ya9 ybh) [] 46699600 (.loop 46699600 ykc):=fun _ _ _=>ylr.st (Sub.uni _) (yaD (yme e he) 5) (YOk.no _ _) (yah (by kernel_rfl)) (ypM e _ _ _ _ _ _ _ _ _ _)
theorem ypO (e:Es) (a0 a1 a2 a3 a4 a5 a6 a7 a8):ycZ (yiR e a0 a1 a2 a3 a4 a5 a6 a7 a8) 5 a ye6 false (yk5 a0 a1 a2 a3 a4 a5 a6 a7 a8):=fun _=>⟨fun _=>by kernel_rfl,fun _ _=>by kernel_rfl,trivial⟩
theorem ypP (e:Es) (he:EG e):LpT (Uni (E e)) (ygp ybg yaE yao ybr yaJ yaG yaZ ya9 ybh) [] 62467600 (.loop 62467600 ye6):=fun _ _ _=>ylr.st (Sub.uni _) (yaD (yme e he) 5) (YOk.no _ _) (yah (by kernel_rfl)) (ypO e _ _ _ _ _ _ _ _ _ _)
theorem ytV (e:Es) (he:EG e):SEOk (Uni (E e)) (ynV e ybg yaE yao ybr yaJ yaG yaZ ya9 ybh):=yar (Sub.uni _) ⟨(ydP e he),(ycT e he),(yeX e he),(ykH e he),(yif e he),(ydv e he),(yhh e he),(yiM e he),(yig e he),trivial⟩ ⟨⟨by kernel_rfl,by kernel_rfl,rfl,fun as=>ya8 (by kernel_rfl) as,he.num _ (by kernel_rfl),by kernel_rfl,(ybp (l:=[(62467600,.loop 62467600 ye6)]) ⟨ypP e he,trivial⟩ (by kernel_rfl))⟩,⟨by kernel_rfl,by kernel_rfl,rfl,fun as=>ya8 (by kernel_rfl) as,he.num _ (by kernel_rfl),by kernel_rfl,(yah (by kernel_rfl))⟩,trivial⟩ he.ok
theorem yu4 (e:Es) (a0 a1 a2 a3 a4 a5 a6 a7 a8):EqW (ynV e a0 a1 a2 a3 a4 a5 a6 a7 a8) 6 ywF yu3 (yiQ a0 a1 a2 a3 a4 a5 a6 a7 a8):=fun _ _=>by kernel_rfl
theorem ynW (e:Es) (he:EG e):OkF (E e) (yu3.pw ybl) yfI:=okU he (yu4 e _ _ _ _ _ _ _ _ _) (ytV e he) yhM.flat (ybp (l:=[(46699600,.loop 46699600 ykc)]) ⟨ypN e he,trivial⟩ (by kernel_rfl))
end Go.Pf.Vc
namespace Go.Pf.Vc
open Go Go.Pf
set_option linter.unusedVariables false
theorem ykI (p0:Ls) (r0:Ls) (r1:Ls) (r2:Ls) (r3:Int) (h:∀ K:Ls→Ls→Ls→Int→Prop,K r0 r1 r2 r3→ybM p0 K) (K:Ls→Ls→Ls→Int→Prop):ybM p0 K=K r0 r1 r2 r3 :=
 propext ⟨fun k=>detS (ymd [] ybd) (as:=[(.data p0)]) (x:=(.tup [(.agg [(.data r0)]),(.data r1),(.data r2),(.int .i64 r3)])) (fun K' k'=>h (fun r0 r1 r2 r3=>K' (.tup [(.agg [(.data r0)]),(.data r1),(.data r2),(.int .i64 r3)])) k') (K:=fun x=>match x with | (.tup [(.agg [(.data r0)]),(.data r1),(.data r2),(.int .i64 r3)])=>K r0 r1 r2 r3 | _=>False) k,h K⟩
theorem ytW (p0:Ls) (p1:Ls) (p2:Ls) (p3:Int) (p4:Int) (r0:Ls) (r1:Ls) (r2:Int) (r3:Int) (r4:Int) (r5:Int) (r6:Int) (r7:Int) (r8:Int) (h:∀ K:Ls→Ls→Int→Int→Int→Int→Int→Int→Int→Prop,K r0 r1 r2 r3 r4 r5 r6 r7 r8→ybl p0 p1 p2 p3 p4 K) (K:Ls→Ls→Int→Int→Int→Int→Int→Int→Int→Prop):ybl p0 p1 p2 p3 p4 K=K r0 r1 r2 r3 r4 r5 r6 r7 r8 :=
 propext ⟨fun k=>detC (ynW [] ybd) (as:=[(.agg [(.data p0),(.data p1)]),(.data p2),(.agg [(.int .i64 p3),(.int .i64 p4)])]) (x:=(.tup [(.agg [(.data r0),(.data r1)]),(.agg [(.int .i64 r2),(.int .i64 r3),(.int .i64 r4),(.int .i64 r5),(.int .i64 r6),(.int .i64 r7)]),(.int .i64 r8)])) (fun K' k'=>h (fun r0 r1 r2 r3 r4 r5 r6 r7 r8=>K' (.tup [(.agg [(.data r0),(.data r1)]),(.agg [(.int .i64 r2),(.int .i64 r3),(.int .i64 r4),(.int .i64 r5),(.int .i64 r6),(.int .i64 r7)]),(.int .i64 r8)])) k') (K:=fun x=>match x with | (.tup [(.agg [(.data r0),(.data r1)]),(.agg [(.int .i64 r2),(.int .i64 r3),(.int .i64 r4),(.int .i64 r5),(.int .i64 r6),(.int .i64 r7)]),(.int .i64 r8)])=>K r0 r1 r2 r3 r4 r5 r6 r7 r8 | _=>False) k,h K⟩
end Go.Pf.Vc
namespace Go.Pf.Vc
open Go Go.Pf
set_option maxRecDepth 100000
def yoG (a0:yak) (a1:yaO) (p0:Ls) (K:Bool→Prop):Prop :=
 (jn (fun (a:Bool→Prop) =>
 (a0 p0 (fun b =>
 (cbr (!b)
 (a1 p0 ([]:Ls) (fun c =>
 (a (c ==(0:Int)))))
 (a false)))))
 (fun d=>(K d)))
def yey:yak:=yoG ycM yfn
def yAn (e:Es) (a0:yak) (a1:yaO):SE:=sE (E e) [(yds,yfR.pw a0),(ygx,ypz.pw a1)] lp0
theorem yAo (e:Es) (a0 a1):EqW (yAn e a0 a1) 6 yB6 yfR (yoG a0 a1):=fun _ _=>by kernel_rfl
theorem yAp (e:Es) (he:EG e):OkF (E e) (yfR.pw yey) yjh:=okU he (yAo e _ _) (yar (Sub.uni _) ⟨(yii e he),(ypI e he),trivial⟩ trivial he.ok) yhM.flat (yah (by kernel_rfl))
abbrev ymf:Type:=(Ls→Prop)→Prop
def ypQ (K:Ls→Prop):Prop :=
 (K ([(.agg [(.int .i64 (6:Int)),(.data ([(.int .i64 (0:Int)),(.int .i64 (6:Int))]:Ls)),(.data ([(.int .i64 (1:Int))]:Ls))]),(.agg [(.int .i64 (6:Int)),(.data ([(.int .i64 (0:Int)),(.int .i64 (4:Int)),(.int .i64 (6:Int))]:Ls)),(.data ([(.int .i64 (1:Int)),(.int .i64 (4:Int))]:Ls))]),(.agg [(.int .i64 (6:Int)),(.data ([(.int .i64 (0:Int)),(.int .i64 (2:Int)),(.int .i64 (6:Int))]:Ls)),(.data ([(.int .i64 (2:Int)),(.int .i64 (0:Int))]:Ls))])]:Ls))
def ymg:ymf:=ypQ
def yxc:Sg:=⟨lN,Ls→Prop,fun K=>(fun r0=>K (.data r0))⟩
def yxd (e:Es):SE:=sE (E e) [] lp0
theorem yxe (e:Es):EqW (yxd e) 6 yyx yxc ypQ:=fun _ _=>by kernel_rfl
theorem yxf (e:Es) (he:EG e):OkF (E e) (yxc.pw ymg) ygy:=okU he (yxe e) (yar (Sub.uni _) trivial trivial he.ok) yhM.flat (yah (by kernel_rfl))
abbrev yaP:Type:=(Bool→Prop)→Prop
def ykJ (a0:ymf) (a1:yaQ) (a2:yab) (a3:yab) (a4:yas) (K:Bool→Prop):Prop :=
 (a0  (fun b =>
 (a1 b (fun _ c d e =>
 (a2 (3:Int) (fun f g =>
 (a3 (0:Int) (fun h i =>
 (a3 (6:Int) (fun j k =>
 (jn (fun (a:Bool→Prop) =>
 (cbr (e ==(0:Int))
 (a4 c ([(.agg [(.int .i64 (2:Int)),(.int .i64 h),(.int .i64 i),(.int .i64 (2:Int)),(.int .i64 (3:Int)),(.int .i64 (1:Int))]),(.agg [(.int .i64 (0:Int)),(.int .i64 (2:Int)),(.int .i64 (3:Int)),(.int .i64 (8:Int)),(.int .i64 (3:Int)),(.int .i64 (0:Int))]),(.agg [(.int .i64 (1:Int)),(.int .i64 (8:Int)),(.int .i64 (3:Int)),(.int .i64 j),(.int .i64 k),(.int .i64 (0:Int))])]:Ls) (fun l =>
 (cbr l
 (cbr ((((List.length d):Nat):Int) ==(6:Int))
 (cbr (g ==(0:Int))
 (a (f ==(8:Int)))
 (a false))
 (a false))
 (a false))))
 (a false)))
 (fun m=>(K m)))))))))))))
def yce:yaP:=ykJ ymg ybM yhl yfP yc8
def yxg:Sg:=⟨lN,Bool→Prop,fun K=>(fun r0=>K (.bool r0))⟩
def yxh (e:Es) (a0:ymf) (a1:yaQ) (a2:yab) (a3:yab) (a4:yas):SE:=sE (E e) [(ygy,yxc.pw a0),(ye5,yyS.pw a1),(yfH,yuZ.pw a2),(ygB,yiC.pw a3),(ydU,ykZ.pw a4)] lp0
theorem yxi (e:Es) (a0 a1 a2 a3 a4):EqW (yxh e a0 a1 a2 a3 a4) 6 yyM yxg (ykJ a0 a1 a2 a3 a4):=fun _ _=>by kernel_rfl
theorem yxj (e:Es) (he:EG e):OkS (E e) (yxg.pw yce) yfi:=okU he (yxi e _ _ _ _ _) (yar (Sub.solo _) ⟨(OkF.solo (yxf e he)),(ymd e he),(OkF.solo (yu2 e he)),(OkF.solo (yvI e he)),(OkF.solo (yju e he)),trivial⟩ trivial he.ok) yhM.flat (yah (by kernel_rfl))
def ybQ (a0:yak) (a1:yaP) (a2:yaQ) (a3:yab) (a4:yaI) (a5:yas) (a:Ls→Ls→Ls→Ls→Ls→Int→Bool→Prop):Nat→Ls→Ls→Ls→Ls→Ls→Int→Prop
 | 0,_,_,_,_,_,_=>False
 | b+1,l0,l1,l2,l3,l4,i7 =>
 (cbr (decide (i7<(((List.length l1):Nat):Int)))
 (asr (decide ((List.length l0)=(List.length l0)))
 (asr (decide ((0+(List.length l0))≤(List.length l0)))
 (asr (!(decide (((0+(List.length l0))+1)≤(List.length l0))))
 (asr (decide ((List.length l0)=(List.length l0)))
 (asr (decide ((((List.length l0)+1)+64)*(8+1)≤room))
 (lt (IntKind.i64.wrap (i7+(1:Int))) (fun c =>
 (asr (decide ((List.length (l0++([(.int .i64 i7)]:Ls)))=List.length (l0++([(.int .i64 i7)]:Ls)))&&decide ((List.length (l0++([(.int .i64 i7)]:Ls)))=List.length (l0++([(.int .i64 i7)]:Ls))))
 (ybQ a0 a1 a2 a3 a4 a5 a b (l0++([(.int .i64 i7)]:Ls)) l1 l2 l3 l4 c)))))))))
 (a l0 l1 l2 l3 l4 i7 false))
def yeN (a0:yak) (a1:yaP) (a2:yaQ) (a3:yab) (a4:yaI) (a5:yas) (a:Ls→Ls→Ls→Ls→Int→Bool→Prop) (b:Ls→Ls→Ls→Ls→Ls→Int→Bool→Prop):Nat→Ls→Ls→Ls→Ls→Int→Prop
 | 0,_,_,_,_,_=>False
 | c+1,l0,l1,l2,l3,i4 =>
 (cbr (decide (i4<(((List.length l0):Nat):Int)))
 (lt (IntKind.i64.wrap (i4+(1:Int))) (fun d =>
 (asr (decide (1=List.length ([(.int .i64 i4)]:Ls))&&decide (1=List.length ([(.int .i64 i4)]:Ls)))
 (ybQ a0 a1 a2 a3 a4 a5 b c ([(.int .i64 i4)]:Ls) l0 l1 l2 l3 d))))
 (a l0 l1 l2 l3 i4 false))
def ygX (_:yak) (_:yaP) (_:yaQ) (_:yab) (_:yaI) (_:yas) (a:Ls→Ls→Ls→Int→Int→Int→Ls→Ls→Int→Int→Int→Int→Int→Int→Int→Bool→Prop):Nat→Ls→Ls→Ls→Int→Int→Int→Ls→Ls→Int→Int→Int→Int→Int→Int→Int→Prop
 | 0,_,_,_,_,_,_,_,_,_,_,_,_,_,_,_=>False
 | _+1,l0,l1,l2,i3,i4,i5,l6,l7,i8,i9,i10,i11,i12,i13,i14 =>
 (cbr (decide (i14<(0:Int)))
 False
 (a l0 l1 l2 i3 i4 i5 l6 l7 i8 i9 i10 i11 i12 i13 i14 false))
def yeO (a0:yak) (a1:yaP) (a2:yaQ) (a3:yab) (a4:yaI) (a5:yas) (b:Ls→Ls→Ls→Ls→Ls→Ls→Int→Int→Int→Ls→Ls→Int→Int→Int→Int→Int→Int→Int→Bool→Prop):Nat→Ls→Ls→Ls→Ls→Ls→Ls→Int→Int→Int→Ls→Ls→Int→Int→Int→Int→Int→Int→Int→Prop
 | 0,_,_,_,_,_,_,_,_,_,_,_,_,_,_,_,_,_,_=>False
 | f+1,l0,l1,l2,l3,l4,l5,i6,i7,i8,l9,l10,i11,i12,i13,i14,i15,i16,i19 =>
 (cbr (decide (i19<(((List.length l5):Nat):Int)))
 (jn (fun (c:Ls→Prop) =>
 (asr (decide ((0:Int)≤i19))
 (asr (decide (i19<(((List.length l5):Nat):Int)))
 (lt (List.getD l5 (i19.toNat) .nils) (fun d =>
 (asr (conf (.one (.i .i64)) d)
 (cbr ((yaa d) != i11)
 (asr (decide ((0:Int)≤i19))
 (asr (decide (i19<(((List.length l5):Nat):Int)))
 (lt (List.getD l5 (i19.toNat) .nils) (fun e =>
 (asr (conf (.one (.i .i64)) e)
 (asr (decide ((List.length l0)=(List.length l0)))
 (asr (decide ((0+(List.length l0))≤(List.length l0)))
 (asr (!(decide (((0+(List.length l0))+1)≤(List.length l0))))
 (asr (decide ((List.length l0)=(List.length l0)))
 (asr (decide ((((List.length l0)+1)+64)*(8+1)≤room))
 (c (l0++([(.int .i64 (yaa e))]:Ls)))))))))))))
 (c l0))))))))
 (fun a=>(lt (IntKind.i64.wrap (i19+(1:Int))) (fun g =>
 (asr (decide ((List.length a)=List.length a)&&decide ((List.length a)=List.length a))
 (yeO a0 a1 a2 a3 a4 a5 b f a l1 l2 l3 l4 l5 i6 i7 i8 l9 l10 i11 i12 i13 i14 i15 i16 g))))))
 (b l0 l1 l2 l3 l4 l5 i6 i7 i8 l9 l10 i11 i12 i13 i14 i15 i16 i19 false))
def yeP (a0:yak) (a1:yaP) (a2:yaQ) (a3:yab) (a4:yaI) (a5:yas) (b:Ls→Ls→Ls→Ls→Ls→Int→Int→Int→Ls→Ls→Int→Int→Int→Int→Int→Int→Int→Bool→Prop) (c:Ls→Ls→Ls→Ls→Ls→Ls→Int→Int→Int→Ls→Ls→Int→Int→Int→Int→Int→Int→Int→Bool→Prop):Nat→Ls→Ls→Ls→Ls→Ls→Int→Int→Int→Ls→Ls→Int→Int→Int→Int→Int→Int→Int→Prop
 | 0,_,_,_,_,_,_,_,_,_,_,_,_,_,_,_,_,_=>False
 | d+1,l0,l1,l2,l3,l4,i5,i6,i7,l8,l9,i10,i11,i12,i13,i14,i15,i16 =>
 (cbr (decide (i16<(((List.length l4):Nat):Int)))
 (asr (decide ((0:Int)≤i16))
 (asr (decide (i16<(((List.length l4):Nat):Int)))
 (lt (List.getD l4 (i16.toNat) .nils) (fun e =>
 (asr (conf (.one (.i .i64)) e)
 (cbr ((yaa e) != i10)
 (asr (decide ((0:Int)≤i16))
 (asr (decide (i16<(((List.length l4):Nat):Int)))
 (lt (List.getD l4 (i16.toNat) .nils) (fun a =>
 (asr (conf (.one (.i .i64)) a)
 (lt (IntKind.i64.wrap (i16+(1:Int))) (fun f =>
 (asr (decide (1=List.length ([(.int .i64 (yaa a))]:Ls))&&decide (1=List.length ([(.int .i64 (yaa a))]:Ls)))
 (yeO a0 a1 a2 a3 a4 a5 c d ([(.int .i64 (yaa a))]:Ls) l0 l1 l2 l3 l4 i5 i6 i7 l8 l9 i10 i11 i12 i13 i14 i15 f)))))))))
 (lt (IntKind.i64.wrap (i16+(1:Int))) (fun g =>
 (yeP a0 a1 a2 a3 a4 a5 b c d l0 l1 l2 l3 l4 i5 i6 i7 l8 l9 i10 i11 i12 i13 i14 i15 g)))))))))
 (b l0 l1 l2 l3 l4 i5 i6 i7 l8 l9 i10 i11 i12 i13 i14 i15 i16 false))
def ybR (a0:yak) (a1:yaP) (a2:yaQ) (a3:yab) (a4:yaI) (a5:yas) (b:Ls→Ls→Ls→Ls→Ls→Int→Int→Int→Ls→Ls→Int→Int→Int→Int→Int→Int→Int→Bool→Prop):Nat→Ls→Ls→Ls→Ls→Ls→Int→Int→Int→Ls→Ls→Int→Int→Int→Int→Int→Int→Int→Prop
 | 0,_,_,_,_,_,_,_,_,_,_,_,_,_,_,_,_,_=>False
 | f+1,l0,l1,l2,l3,l4,i7,i8,i9,l10,l11,i12,i13,i14,i15,i16,i17,i20 =>
 (cbr (decide (i20<(((List.length l0):Nat):Int)))
 (jn (fun (c:Ls→Prop) =>
 (asr (decide ((0:Int)≤i20))
 (asr (decide (i20<(((List.length l0):Nat):Int)))
 (asr (decide ((List.length l0)=(List.length l0)))
 (asr (decide ((0+(i20.toNat))<(List.length l0)))
 (lt (List.getD l0 (0+(i20.toNat)) .nils) (fun d =>
 (asr (conf (.one (.i .i64)) d)
 (cbr ((yaa d) != i12)
 (asr (decide ((0:Int)≤i20))
 (asr (decide (i20<(((List.length l0):Nat):Int)))
 (asr (decide ((List.length l0)=(List.length l0)))
 (asr (decide ((0+(i20.toNat))<(List.length l0)))
 (lt (List.getD l0 (0+(i20.toNat)) .nils) (fun e =>
 (asr (conf (.one (.i .i64)) e)
 (asr (decide ((List.length l1)=(List.length l1)))
 (asr (decide ((0+(List.length l1))≤(List.length l1)))
 (asr (!(decide (((0+(List.length l1))+1)≤(List.length l1))))
 (asr (decide ((List.length l1)=(List.length l1)))
 (asr (decide ((((List.length l1)+1)+64)*(8+1)≤room))
 (c (l1++([(.int .i64 (yaa e))]:Ls)))))))))))))))
 (c l1))))))))))
 (fun a=>(lt (IntKind.i64.wrap (i20+(1:Int))) (fun g =>
 (asr (decide ((List.length l0)=List.length l0)&&decide ((List.length l0)=List.length l0)&&decide ((List.length a)=List.length a)&&decide ((List.length a)=List.length a))
 (ybR a0 a1 a2 a3 a4 a5 b f l0 a l2 l3 l4 i7 i8 i9 l10 l11 i12 i13 i14 i15 i16 i17 g))))))
 (b l0 l1 l2 l3 l4 i7 i8 i9 l10 l11 i12 i13 i14 i15 i16 i17 i20 false))
def ybS (a0:yak) (a1:yaP) (a2:yaQ) (a3:yab) (a4:yaI) (a5:yas) (b:Ls→Ls→Ls→Ls→Int→Int→Int→Ls→Ls→Int→Int→Int→Int→Int→Int→Int→Bool→Prop) (c:Ls→Ls→Ls→Ls→Ls→Int→Int→Int→Ls→Ls→Int→Int→Int→Int→Int→Int→Int→Bool→Prop):Nat→Ls→Ls→Ls→Ls→Int→Int→Int→Ls→Ls→Int→Int→Int→Int→Int→Int→Int→Prop
 | 0,_,_,_,_,_,_,_,_,_,_,_,_,_,_,_,_=>False
 | d+1,l0,l1,l2,l3,i6,i7,i8,l9,l10,i11,i12,i13,i14,i15,i16,i17 =>
 (cbr (decide (i17<(((List.length l0):Nat):Int)))
 (asr (decide ((0:Int)≤i17))
 (asr (decide (i17<(((List.length l0):Nat):Int)))
 (asr (decide ((List.length l0)=(List.length l0)))
 (asr (decide ((0+(i17.toNat))<(List.length l0)))
 (lt (List.getD l0 (0+(i17.toNat)) .nils) (fun e =>
 (asr (conf (.one (.i .i64)) e)
 (cbr ((yaa e) != i11)
 (asr (decide ((0:Int)≤i17))
 (asr (decide (i17<(((List.length l0):Nat):Int)))
 (asr (decide ((List.length l0)=(List.length l0)))
 (asr (decide ((0+(i17.toNat))<(List.length l0)))
 (lt (List.getD l0 (0+(i17.toNat)) .nils) (fun a =>
 (asr (conf (.one (.i .i64)) a)
 (lt (IntKind.i64.wrap (i17+(1:Int))) (fun f =>
 (asr (decide ((List.length l0)=List.length l0)&&decide ((List.length l0)=List.length l0)&&decide (1=List.length ([(.int .i64 (yaa a))]:Ls))&&decide (1=List.length ([(.int .i64 (yaa a))]:Ls)))
 (ybR a0 a1 a2 a3 a4 a5 c d l0 ([(.int .i64 (yaa a))]:Ls) l1 l2 l3 i6 i7 i8 l9 l10 i11 i12 i13 i14 i15 i16 f)))))))))))
 (lt (IntKind.i64.wrap (i17+(1:Int))) (fun g =>
 (asr (decide ((List.length l0)=List.length l0)&&decide ((List.length l0)=List.length l0))
 (ybS a0 a1 a2 a3 a4 a5 b c d l0 l1 l2 l3 i6 i7 i8 l9 l10 i11 i12 i13 i14 i15 i16 g))))))))))))
 (b l0 l1 l2 l3 i6 i7 i8 l9 l10 i11 i12 i13 i14 i15 i16 i17 false))
def ybT (a0:yak) (a1:yaP) (a2:yaQ) (a3:yab) (a4:yaI) (a5:yas) (b:Ls→Ls→Ls→Ls→Ls→Ls→Ls→Int→Int→Int→Ls→Ls→Int→Int→Int→Int→Int→Int→Int→Bool→Prop):Nat→Ls→Ls→Ls→Ls→Ls→Ls→Ls→Int→Int→Int→Ls→Ls→Int→Int→Int→Int→Int→Int→Int→Prop
 | 0,_,_,_,_,_,_,_,_,_,_,_,_,_,_,_,_,_,_,_=>False
 | f+1,l0,l1,l2,l3,l4,l5,l6,i7,i8,i9,l10,l11,i12,i13,i14,i15,i16,i17,i20 =>
 (cbr (decide (i20<(((List.length l6):Nat):Int)))
 (jn (fun (c:Ls→Prop) =>
 (asr (decide ((0:Int)≤i20))
 (asr (decide (i20<(((List.length l6):Nat):Int)))
 (lt (List.getD l6 (i20.toNat) .nils) (fun d =>
 (asr (conf (.one (.i .i64)) d)
 (cbr ((yaa d) != i12)
 (asr (decide ((0:Int)≤i20))
 (asr (decide (i20<(((List.length l6):Nat):Int)))
 (lt (List.getD l6 (i20.toNat) .nils) (fun e =>
 (asr (conf (.one (.i .i64)) e)
 (asr (decide ((List.length l1)=(List.length l1)))
 (asr (decide ((0+(List.length l1))≤(List.length l1)))
 (asr (!(decide (((0+(List.length l1))+1)≤(List.length l1))))
 (asr (decide ((List.length l1)=(List.length l1)))
 (asr (decide ((((List.length l1)+1)+64)*(8+1)≤room))
 (c (l1++([(.int .i64 (yaa e))]:Ls)))))))))))))
 (c l1))))))))
 (fun a=>(lt (IntKind.i64.wrap (i20+(1:Int))) (fun g =>
 (asr (decide ((List.length a)=List.length a)&&decide ((List.length a)=List.length a))
 (ybT a0 a1 a2 a3 a4 a5 b f l0 a l2 l3 l4 l5 l6 i7 i8 i9 l10 l11 i12 i13 i14 i15 i16 i17 g))))))
 (b l0 l1 l2 l3 l4 l5 l6 i7 i8 i9 l10 l11 i12 i13 i14 i15 i16 i17 i20 false))
def ybU (a0:yak) (a1:yaP) (a2:yaQ) (a3:yab) (a4:yaI) (a5:yas) (b:Ls→Ls→Ls→Ls→Ls→Ls→Int→Int→Int→Ls→Ls→Int→Int→Int→Int→Int→Int→Int→Bool→Prop) (c:Ls→Ls→Ls→Ls→Ls→Ls→Ls→Int→Int→Int→Ls→Ls→Int→Int→Int→Int→Int→Int→Int→Bool→Prop):Nat→Ls→Ls→Ls→Ls→Ls→Ls→Int→Int→Int→Ls→Ls→Int→Int→Int→Int→Int→Int→Int→Prop
 | 0,_,_,_,_,_,_,_,_,_,_,_,_,_,_,_,_,_,_=>False
 | d+1,l0,l1,l2,l3,l4,l5,i6,i7,i8,l9,l10,i11,i12,i13,i14,i15,i16,i17 =>
 (cbr (decide (i17<(((List.length l5):Nat):Int)))
 (asr (decide ((0:Int)≤i17))
 (asr (decide (i17<(((List.length l5):Nat):Int)))
 (lt (List.getD l5 (i17.toNat) .nils) (fun e =>
 (asr (conf (.one (.i .i64)) e)
 (cbr ((yaa e) != i11)
 (asr (decide ((0:Int)≤i17))
 (asr (decide (i17<(((List.length l5):Nat):Int)))
 (lt (List.getD l5 (i17.toNat) .nils) (fun a =>
 (asr (conf (.one (.i .i64)) a)
 (lt (IntKind.i64.wrap (i17+(1:Int))) (fun f =>
 (asr (decide (1=List.length ([(.int .i64 (yaa a))]:Ls))&&decide (1=List.length ([(.int .i64 (yaa a))]:Ls)))
 (ybT a0 a1 a2 a3 a4 a5 c d l0 ([(.int .i64 (yaa a))]:Ls) l1 l2 l3 l4 l5 i6 i7 i8 l9 l10 i11 i12 i13 i14 i15 i16 f)))))))))
 (lt (IntKind.i64.wrap (i17+(1:Int))) (fun g =>
 (ybU a0 a1 a2 a3 a4 a5 b c d l0 l1 l2 l3 l4 l5 i6 i7 i8 l9 l10 i11 i12 i13 i14 i15 i16 g)))))))))
 (b l0 l1 l2 l3 l4 l5 i6 i7 i8 l9 l10 i11 i12 i13 i14 i15 i16 i17 false))
def ydo (a0:yak) (a1:yaP) (a2:yaQ) (a3:yab) (a4:yaI) (a5:yas) (d:Bool→Prop) (e:Ls→Ls→Ls→Ls→Ls→Int→Int→Int→Bool→Prop):Nat→Ls→Ls→Ls→Ls→Ls→Int→Int→Int→Prop
 | 0,_,_,_,_,_,_,_,_=>False
 | g+1,l0,l1,l2,l3,l4,i5,i6,i7 =>
 (cbr (decide (i7<(((List.length l0):Nat):Int)))
 (a4 l2 l3 l4 i5 i6 (fun o f h j k l m n p =>
 (jn (fun (c:Bool→Prop) =>
 (cbr (p !=(0:Int))
 (c true)
 (asr (decide ((0:Int)≤i7))
 (asr (decide (i7<(((List.length l0):Nat):Int)))
 (lt (List.getD l0 (i7.toNat) .nils) (fun a =>
 (asr (conf (.agg [.i .i64,.i .i64,.i .i64,.i .i64,.i .i64,.i .i64]) a)
 (cbr (!((h ==(yaa (yae a 0)))&&((j ==(yaa (yae a 1)))&&((k ==(yaa (yae a 2)))&&((l ==(yaa (yae a 3)))&&((m ==(yaa (yae a 4)))&&((n ==(yaa (yae a 5)))&&true)))))))
 (c true)
 (cbr (decide ((((List.length f):Nat):Int)<(((List.length l3):Nat):Int)))
 (c true)
 (lt (IntKind.i64.wrap ((2:Int)*(((List.length l4):Nat):Int))) (fun q =>
 (lt (IntKind.i64.wrap ((((List.length l3):Nat):Int)+q)) (fun r =>
 (lt (IntKind.i64.wrap (r-(1:Int))) (fun s =>
 (c (decide ((((List.length f):Nat):Int)>s))))))))))))))))))
 (fun t=>(cbr t
 (d false)
 (∃ u:Nat,yeP a0 a1 a2 a3 a4 a5
 (fun v w _ _ _ _ _ x y z _ _ _ A B _ _ _=>(lt (IntKind.i64.wrap (x+(1:Int))) (fun C =>
 (ydo a0 a1 a2 a3 a4 a5 d e g v w y z ([]:Ls) A B C))))
 (fun b D E _ _ _ _ _ F G H _ _ _ I J _ _ _=>(asr (decide ((List.length b)=(List.length b)))
 (asr (decide ((0+(List.length b))≤(List.length b)))
 (lt (IntKind.i64.wrap (F+(1:Int))) (fun K =>
 (ydo a0 a1 a2 a3 a4 a5 d e g D E G H (List.take (List.length b) b) I J K))))))
 u l0 l1 l2 l3 l4 i5 i6 i7 o f h j k l m n (0:Int)))))))
 (e l0 l1 l2 l3 l4 i5 i6 i7 false))
def ygY (a0:yak) (a1:yaP) (a2:yaQ) (a3:yab) (a4:yaI) (a5:yas) (l:Ls→Ls→Ls→Int→Int→Int→Bool→Prop) (d:Bool→Prop) (m:Ls→Ls→Ls→Ls→Ls→Int→Int→Int→Bool→Prop):Nat→Ls→Ls→Ls→Int→Int→Int→Prop
 | 0,_,_,_,_,_,_=>False
 | n+1,l0,l1,l2,i3,i4,i5 =>
 (cbr (decide (i5<(((List.length l0):Nat):Int)))
 (a4 l2 ([]:Ls) ([]:Ls) i3 i4 (fun o c e f g h j k p =>
 (jn (fun (b:Bool→Prop) =>
 (cbr (p !=(0:Int))
 (b true)
 (asr (decide ((0:Int)≤i5))
 (asr (decide (i5<(((List.length l0):Nat):Int)))
 (lt (List.getD l0 (i5.toNat) .nils) (fun a =>
 (asr (conf (.agg [.i .i64,.i .i64,.i .i64,.i .i64,.i .i64,.i .i64]) a)
 (cbr (!((e ==(yaa (yae a 0)))&&((f ==(yaa (yae a 1)))&&((g ==(yaa (yae a 2)))&&((h ==(yaa (yae a 3)))&&((j ==(yaa (yae a 4)))&&((k ==(yaa (yae a 5)))&&true)))))))
 (b true)
 (cbr (decide ((((List.length c):Nat):Int)<(0:Int)))
 (b true)
 (b (decide ((((List.length c):Nat):Int)>(-1:Int)))))))))))))
 (fun q=>(cbr q
 (d false)
 (∃ r:Nat,ygX a0 a1 a2 a3 a4 a5
 (fun s t _ _ _ u v w _ _ _ x y _ _ _=>(lt (IntKind.i64.wrap (u+(1:Int))) (fun z =>
 (ydo a0 a1 a2 a3 a4 a5 d m n s t v w ([]:Ls) x y z))))
 r l0 l1 l2 i3 i4 i5 o c e f g h j k (0:Int)))))))
 (l l0 l1 l2 i3 i4 i5 false))
def ya7 (a0:yak) (a1:yaP) (a2:yaQ) (a3:yab) (a4:yaI) (a5:yas) (d:Ls→Bool→Prop) (e:Ls→Ls→Ls→Ls→Ls→Ls→Int→Int→Int→Bool→Prop):Nat→Ls→Ls→Ls→Ls→Ls→Ls→Int→Int→Int→Prop
 | 0,_,_,_,_,_,_,_,_,_=>False
 | g+1,l0,l1,l2,l3,l4,l5,i6,i7,i8 =>
 (cbr (decide (i8<(((List.length l1):Nat):Int)))
 (a4 l3 l4 l5 i6 i7 (fun o f h j k l m n p =>
 (jn (fun (c:Bool→Prop) =>
 (cbr (p !=(0:Int))
 (c true)
 (asr (decide ((0:Int)≤i8))
 (asr (decide (i8<(((List.length l1):Nat):Int)))
 (lt (List.getD l1 (i8.toNat) .nils) (fun a =>
 (asr (conf (.agg [.i .i64,.i .i64,.i .i64,.i .i64,.i .i64,.i .i64]) a)
 (cbr (!((h ==(yaa (yae a 0)))&&((j ==(yaa (yae a 1)))&&((k ==(yaa (yae a 2)))&&((l ==(yaa (yae a 3)))&&((m ==(yaa (yae a 4)))&&((n ==(yaa (yae a 5)))&&true)))))))
 (c true)
 (cbr (decide ((((List.length f):Nat):Int)<(((List.length l4):Nat):Int)))
 (c true)
 (lt (IntKind.i64.wrap ((2:Int)*(((List.length l5):Nat):Int))) (fun q =>
 (lt (IntKind.i64.wrap ((((List.length l4):Nat):Int)+q)) (fun r =>
 (lt (IntKind.i64.wrap (r-(1:Int))) (fun s =>
 (c (decide ((((List.length f):Nat):Int)>s))))))))))))))))))
 (fun t=>(cbr t
 (d l0 false)
 (∃ u:Nat,ybU a0 a1 a2 a3 a4 a5
 (fun v w x _ _ _ _ _ y z A _ _ _ B C _ _ _=>(lt (IntKind.i64.wrap (y+(1:Int))) (fun D =>
 (ya7 a0 a1 a2 a3 a4 a5 d e g v w x z A ([]:Ls) B C D))))
 (fun E b F G _ _ _ _ _ H I J _ _ _ K L _ _ _=>(asr (decide ((List.length b)=(List.length b)))
 (asr (decide ((0+(List.length b))≤(List.length b)))
 (lt (IntKind.i64.wrap (H+(1:Int))) (fun M =>
 (ya7 a0 a1 a2 a3 a4 a5 d e g E F G I J (List.take (List.length b) b) K L M))))))
 u l0 l1 l2 l3 l4 l5 i6 i7 i8 o f h j k l m n (0:Int)))))))
 (e l0 l1 l2 l3 l4 l5 i6 i7 i8 false))
def yeQ (a0:yak) (a1:yaP) (a2:yaQ) (a3:yab) (a4:yaI) (a5:yas) (o:Ls→Ls→Ls→Ls→Int→Int→Int→Bool→Prop) (d:Ls→Bool→Prop) (f:Ls→Ls→Ls→Ls→Ls→Ls→Int→Int→Int→Bool→Prop):Nat→Ls→Ls→Ls→Ls→Int→Int→Int→Prop
 | 0,_,_,_,_,_,_,_=>False
 | g+1,l0,l1,l2,l3,i6,i7,i8 =>
 (cbr (decide (i8<(((List.length l1):Nat):Int)))
 (asr (decide ((List.length l0)=(List.length l0)))
 (asr (decide ((0+(List.length l0))≤(List.length l0)))
 (a4 l3 ([]:Ls) (List.take (List.length l0) l0) i6 i7 (fun p e h j k l m n q =>
 (jn (fun (c:Bool→Prop) =>
 (cbr (q !=(0:Int))
 (c true)
 (asr (decide ((0:Int)≤i8))
 (asr (decide (i8<(((List.length l1):Nat):Int)))
 (lt (List.getD l1 (i8.toNat) .nils) (fun a =>
 (asr (conf (.agg [.i .i64,.i .i64,.i .i64,.i .i64,.i .i64,.i .i64]) a)
 (cbr (!((h ==(yaa (yae a 0)))&&((j ==(yaa (yae a 1)))&&((k ==(yaa (yae a 2)))&&((l ==(yaa (yae a 3)))&&((m ==(yaa (yae a 4)))&&((n ==(yaa (yae a 5)))&&true)))))))
 (c true)
 (cbr (decide ((((List.length e):Nat):Int)<(0:Int)))
 (c true)
 (lt (IntKind.i64.wrap ((2:Int)*(((List.length l0):Nat):Int))) (fun r =>
 (lt (IntKind.i64.wrap ((0:Int)+r)) (fun s =>
 (lt (IntKind.i64.wrap (s-(1:Int))) (fun t =>
 (c (decide ((((List.length e):Nat):Int)>t))))))))))))))))))
 (fun u=>(cbr u
 (d l0 false)
 (asr (decide ((List.length l0)=List.length l0)&&decide ((List.length l0)=List.length l0))
 (∃ v:Nat,ybS a0 a1 a2 a3 a4 a5
 (fun w x y _ _ _ z A B _ _ _ C D _ _ _=>(lt (IntKind.i64.wrap (z+(1:Int))) (fun E =>
 (ya7 a0 a1 a2 a3 a4 a5 d f g w x y A B ([]:Ls) C D E))))
 (fun F b G H _ _ _ I J K _ _ _ L M _ _ _=>(asr (decide ((List.length b)=(List.length b)))
 (asr (decide ((0+(List.length b))≤(List.length b)))
 (lt (IntKind.i64.wrap (I+(1:Int))) (fun N =>
 (ya7 a0 a1 a2 a3 a4 a5 d f g F G H J K (List.take (List.length b) b) L M N))))))
 v l0 l1 l2 l3 i6 i7 i8 p e h j k l m n (0:Int))))))))))
 (o l0 l1 l2 l3 i6 i7 i8 false))
def ygb (a0:yak) (a1:yaP) (a2:yaQ) (a3:yab) (a4:yaI) (a5:yas) (p0:Ls) (K:Bool→Prop):Prop :=
 (a0 p0 (fun i =>
 (cbr (!i)
 (a1  (fun j =>
 (K j)))
 (a2 p0 (fun _ c k l =>
 (jn (fun (d:Bool→Prop) =>
 (cbr (l !=(0:Int))
 (d true)
 (d ((((List.length c):Nat):Int) !=(((List.length p0):Nat):Int)))))
 (fun m=>(cbr m
 (K false)
 (∃ n:Nat,yeN a0 a1 a2 a3 a4 a5
 (fun _ o p q _ _=>(a3 (0:Int) (fun r s =>
 (∃ b:Nat,ygY a0 a1 a2 a3 a4 a5
 (fun _ t _ _ _ _ _=>(jn (fun (e:Bool→Prop) =>
 (a5 ([]:Ls) t (fun u =>
 (cbr u
 (a1  (fun v =>
 (e v)))
 (e false)))))
 (fun w=>(K w))))
 (fun x=>(K x))
 (fun _ y _ z _ _ _ _ _=>(jn (fun (f:Bool→Prop) =>
 (a5 z y (fun A =>
 (cbr A
 (a1  (fun B =>
 (f B)))
 (f false)))))
 (fun C=>(K C))))
 b o p q r s (0:Int)))))
 (fun a _ D E F _ _=>(a3 (0:Int) (fun G H =>
 (asr (decide ((List.length a)=List.length a)&&decide ((List.length a)=List.length a))
 (∃ b:Nat,yeQ a0 a1 a2 a3 a4 a5
 (fun _ _ I _ _ _ _ _=>(jn (fun (g:Bool→Prop) =>
 (a5 ([]:Ls) I (fun J =>
 (cbr J
 (a1  (fun L =>
 (g L)))
 (g false)))))
 (fun M=>(K M))))
 (fun _ N=>(K N))
 (fun _ _ O _ Q _ _ _ _ _=>(jn (fun (h:Bool→Prop) =>
 (a5 Q O (fun R =>
 (cbr R
 (a1  (fun S =>
 (h S)))
 (h false)))))
 (fun T=>(K T))))
 b a D E F G H (0:Int))))))
 n p0 c k p0 (0:Int))))))))))
def ye1:yak:=ygb yey yce ybM yfP ybl yaV
def ym9 (Q:Qx):Ls→Ls→Ls→Ls→Int→Bool→Prop:=(fun l0 l1 l2 l3 i4 b5=>Q (.exit 0) [(0,.v (.data l0)),(4,.v (.data l1)),(5,.v (.data l2)),(7,.box (.agg [(.data l3),.nils])),(8,.v .nils),(9,.v (.int .i64 i4)),(42,.v (.bool b5))] [])
def ygZ (Q:Qx):Ls→Ls→Ls→Ls→Ls→Int→Bool→Prop:=(fun l0 l1 l2 l3 l4 i7 b8=>Q (.exit 0) [(0,.v (.data l1)),(4,.v (.data l2)),(5,.v (.data l3)),(7,.box (.agg [(.data l4),.nils])),(8,.v (.own 0 0 (List.length l0) (List.length l0) none)),(9,.v (.int .i64 i7)),(42,.v (.bool b8))] [⟨false,true,1,l0⟩])
def yna (Q:Qx):Ls→Ls→Ls→Int→Int→Int→Ls→Ls→Int→Int→Int→Int→Int→Int→Int→Bool→Prop:=(fun l0 l1 l2 i3 i4 i5 l6 l7 i8 i9 i10 i11 i12 i13 i14 b15=>Q (.exit 4) [(4,.v (.data l0)),(5,.v (.data l1)),(7,.box (.agg [(.data l2),.nils])),(8,.v .nils),(10,.box (.agg [(.int .i64 i3),(.int .i64 i4)])),(11,.v (.int .i64 i5)),(12,.box (.agg [(.data l6),(.data l7)])),(13,.box (.agg [(.int .i64 i8),(.int .i64 i9),(.int .i64 i10),(.int .i64 i11),(.int .i64 i12),(.int .i64 i13)])),(15,.v .nils),(16,.v (.int .i64 i14)),(100,.v (.bool b15))] [])
def ynb (Q:Qx):Ls→Ls→Ls→Ls→Ls→Int→Int→Int→Ls→Ls→Int→Int→Int→Int→Int→Int→Int→Bool→Prop:=(fun l0 l1 l2 l3 l4 i5 i6 i7 l8 l9 i10 i11 i12 i13 i14 i15 i16 b17=>Q (.exit 4) [(4,.v (.data l0)),(5,.v (.data l1)),(7,.box (.agg [(.data l2),(.data l3)])),(8,.v (.data l4)),(10,.box (.agg [(.int .i64 i5),(.int .i64 i6)])),(11,.v (.int .i64 i7)),(12,.box (.agg [(.data l8),(.data l9)])),(13,.box (.agg [(.int .i64 i10),(.int .i64 i11),(.int .i64 i12),(.int .i64 i13),(.int .i64 i14),(.int .i64 i15)])),(15,.v .nils),(16,.v (.int .i64 i16)),(100,.v (.bool b17))] [])
def yg0 (Q:Qx):Ls→Ls→Ls→Ls→Ls→Ls→Int→Int→Int→Ls→Ls→Int→Int→Int→Int→Int→Int→Int→Bool→Prop:=(fun l0 l1 l2 l3 l4 l5 i6 i7 i8 l9 l10 i11 i12 i13 i14 i15 i16 i19 b20=>Q (.exit 4) [(4,.v (.data l1)),(5,.v (.data l2)),(7,.box (.agg [(.data l3),(.data l4)])),(8,.v (.data l5)),(10,.box (.agg [(.int .i64 i6),(.int .i64 i7)])),(11,.v (.int .i64 i8)),(12,.box (.agg [(.data l9),(.data l10)])),(13,.box (.agg [(.int .i64 i11),(.int .i64 i12),(.int .i64 i13),(.int .i64 i14),(.int .i64 i15),(.int .i64 i16)])),(15,.v (.own 0 0 (List.length l0) (List.length l0) none)),(16,.v (.int .i64 i19)),(100,.v (.bool b20))] [⟨false,true,1,l0⟩])
def ync (Q:Qx):Ls→Ls→Ls→Ls→Int→Int→Int→Ls→Ls→Int→Int→Int→Int→Int→Int→Int→Bool→Prop:=(fun l0 l1 l2 l3 i6 i7 i8 l9 l10 i11 i12 i13 i14 i15 i16 i17 b18=>Q (.exit 4) [(4,.v (.data l1)),(5,.v (.data l2)),(7,.box (.agg [(.data l3),.nils])),(8,.v (.own 0 0 (List.length l0) (List.length l0) none)),(10,.box (.agg [(.int .i64 i6),(.int .i64 i7)])),(11,.v (.int .i64 i8)),(12,.box (.agg [(.data l9),(.data l10)])),(13,.box (.agg [(.int .i64 i11),(.int .i64 i12),(.int .i64 i13),(.int .i64 i14),(.int .i64 i15),(.int .i64 i16)])),(15,.v .nils),(16,.v (.int .i64 i17)),(100,.v (.bool b18))] [⟨true,true,1,l0⟩])
def yg1 (Q:Qx):Ls→Ls→Ls→Ls→Ls→Int→Int→Int→Ls→Ls→Int→Int→Int→Int→Int→Int→Int→Bool→Prop:=(fun l0 l1 l2 l3 l4 i7 i8 i9 l10 l11 i12 i13 i14 i15 i16 i17 i20 b21=>Q (.exit 4) [(4,.v (.data l2)),(5,.v (.data l3)),(7,.box (.agg [(.data l4),.nils])),(8,.v (.own 0 0 (List.length l0) (List.length l0) none)),(10,.box (.agg [(.int .i64 i7),(.int .i64 i8)])),(11,.v (.int .i64 i9)),(12,.box (.agg [(.data l10),(.data l11)])),(13,.box (.agg [(.int .i64 i12),(.int .i64 i13),(.int .i64 i14),(.int .i64 i15),(.int .i64 i16),(.int .i64 i17)])),(15,.v (.own 1 0 (List.length l1) (List.length l1) none)),(16,.v (.int .i64 i20)),(100,.v (.bool b21))] [⟨true,true,1,l0⟩,⟨false,true,1,l1⟩])
def ynd (Q:Qx):Ls→Ls→Ls→Ls→Ls→Ls→Int→Int→Int→Ls→Ls→Int→Int→Int→Int→Int→Int→Int→Bool→Prop:=(fun l0 l1 l2 l3 l4 l5 i6 i7 i8 l9 l10 i11 i12 i13 i14 i15 i16 i17 b18=>Q (.exit 4) [(4,.v (.data l1)),(5,.v (.data l2)),(7,.box (.agg [(.data l3),(.data l4)])),(8,.v (.data l5)),(10,.box (.agg [(.int .i64 i6),(.int .i64 i7)])),(11,.v (.int .i64 i8)),(12,.box (.agg [(.data l9),(.data l10)])),(13,.box (.agg [(.int .i64 i11),(.int .i64 i12),(.int .i64 i13),(.int .i64 i14),(.int .i64 i15),(.int .i64 i16)])),(15,.v .nils),(16,.v (.int .i64 i17)),(100,.v (.bool b18))] [⟨true,true,1,l0⟩])
def yg2 (Q:Qx):Ls→Ls→Ls→Ls→Ls→Ls→Ls→Int→Int→Int→Ls→Ls→Int→Int→Int→Int→Int→Int→Int→Bool→Prop:=(fun l0 l1 l2 l3 l4 l5 l6 i7 i8 i9 l10 l11 i12 i13 i14 i15 i16 i17 i20 b21=>Q (.exit 4) [(4,.v (.data l2)),(5,.v (.data l3)),(7,.box (.agg [(.data l4),(.data l5)])),(8,.v (.data l6)),(10,.box (.agg [(.int .i64 i7),(.int .i64 i8)])),(11,.v (.int .i64 i9)),(12,.box (.agg [(.data l10),(.data l11)])),(13,.box (.agg [(.int .i64 i12),(.int .i64 i13),(.int .i64 i14),(.int .i64 i15),(.int .i64 i16),(.int .i64 i17)])),(15,.v (.own 1 0 (List.length l1) (List.length l1) none)),(16,.v (.int .i64 i20)),(100,.v (.bool b21))] [⟨true,true,1,l0⟩,⟨false,true,1,l1⟩])
def yne (Q:Qx):Ls→Ls→Ls→Int→Int→Int→Bool→Prop:=(fun l0 l1 l2 i3 i4 i5 b6=>Q (.exit 2) [(4,.v (.data l0)),(5,.v (.data l1)),(7,.box (.agg [(.data l2),.nils])),(8,.v .nils),(10,.box (.agg [(.int .i64 i3),(.int .i64 i4)])),(11,.v (.int .i64 i5)),(53,.v (.bool b6))] [])
def yg3 (Q:Qx):Bool→Prop:=(fun b0=>Q .ret [(2,.v (.bool b0))] [])
def yg4 (Q:Qx):Ls→Ls→Ls→Ls→Ls→Int→Int→Int→Bool→Prop:=(fun l0 l1 l2 l3 l4 i5 i6 i7 b8=>Q (.exit 2) [(4,.v (.data l0)),(5,.v (.data l1)),(7,.box (.agg [(.data l2),(.data l3)])),(8,.v (.data l4)),(10,.box (.agg [(.int .i64 i5),(.int .i64 i6)])),(11,.v (.int .i64 i7)),(53,.v (.bool b8))] [])
def ynf (Q:Qx):Ls→Ls→Ls→Ls→Int→Int→Int→Bool→Prop:=(fun l0 l1 l2 l3 i6 i7 i8 b9=>Q (.exit 2) [(4,.v (.data l1)),(5,.v (.data l2)),(7,.box (.agg [(.data l3),.nils])),(8,.v (.own 0 0 (List.length l0) (List.length l0) none)),(10,.box (.agg [(.int .i64 i6),(.int .i64 i7)])),(11,.v (.int .i64 i8)),(53,.v (.bool b9))] [⟨false,true,1,l0⟩])
def yg5 (Q:Qx):Ls→Bool→Prop:=(fun l0 b1=>Q .ret [(2,.v (.bool b1))] [⟨true,true,1,l0⟩])
def yg6 (Q:Qx):Ls→Ls→Ls→Ls→Ls→Ls→Int→Int→Int→Bool→Prop:=(fun l0 l1 l2 l3 l4 l5 i6 i7 i8 b9=>Q (.exit 2) [(4,.v (.data l1)),(5,.v (.data l2)),(7,.box (.agg [(.data l3),(.data l4)])),(8,.v (.data l5)),(10,.box (.agg [(.int .i64 i6),(.int .i64 i7)])),(11,.v (.int .i64 i8)),(53,.v (.bool b9))] [⟨true,true,1,l0⟩])
def pt44:VPt:=vA (lC vD (lC vNs lN))
def yhW (a0:yak) (a1:yaP) (a2:yaQ) (a3:yab) (a4:yaI) (a5:yas) (Q:Qx):List St:=[⟨(pS hN (fV 0 vD (fV 4 vD (fV 5 vD (fX 7 pt44 (fV 8 vNs (fV 9 pt0 fN)))))) fN),yeN a0 a1 a2 a3 a4 a5 (ym9 Q) (ygZ Q)⟩,⟨(pS pt32 (fV 0 vD (fV 4 vD (fV 5 vD (fX 7 pt44 (fV 8 pt20 (fV 9 pt0 fN)))))) fN),ybQ a0 a1 a2 a3 a4 a5 (ygZ Q)⟩]
def pt45:Pat Frm:=fX 10 pt5 (fV 11 pt0 (fX 12 pt19 (fX 13 pt24 (fV 15 vNs pt13))))
def pt46:Pat Frm:=fV 4 vD (fV 5 vD (fX 7 pt19 (fV 8 vD pt45)))
def pt47:HPt:=hB true true 1 rA hN
def pt48:Pat Frm:=fX 10 pt5 (fV 11 pt0 (fX 12 pt19 (fX 13 pt24 (fV 15 (vW 1 (nK 0) (nT 1) (nT 1)) pt13))))
def yhX (a0:yak) (a1:yaP) (a2:yaQ) (a3:yab) (a4:yaI) (a5:yas) (Q:Qx):List St:=[⟨(pS hN (fV 4 vD (fV 5 vD (fX 7 pt44 (fV 8 vNs pt45)))) fN),ygX a0 a1 a2 a3 a4 a5 (yna Q)⟩,⟨(pS hN pt46 fN),yeP a0 a1 a2 a3 a4 a5 (ynb Q) (yg0 Q)⟩,⟨(pS pt32 (fV 4 vD (fV 5 vD (fX 7 pt19 (fV 8 vD (fX 10 pt5 (fV 11 pt0 (fX 12 pt19 (fX 13 pt24 (fV 15 pt20 pt13))))))))) fN),yeO a0 a1 a2 a3 a4 a5 (yg0 Q)⟩,⟨(pS pt47 (fV 4 vD (fV 5 vD (fX 7 pt44 (fV 8 pt20 pt45)))) fN),ybS a0 a1 a2 a3 a4 a5 (ync Q) (yg1 Q)⟩,⟨(pS (hB true true 1 rA pt32) (fV 4 vD (fV 5 vD (fX 7 pt44 (fV 8 pt20 pt48)))) fN),ybR a0 a1 a2 a3 a4 a5 (yg1 Q)⟩,⟨(pS pt47 pt46 fN),ybU a0 a1 a2 a3 a4 a5 (ynd Q) (yg2 Q)⟩,⟨(pS (hB true true 1 rA pt32) (fV 4 vD (fV 5 vD (fX 7 pt19 (fV 8 vD pt48)))) fN),ybT a0 a1 a2 a3 a4 a5 (yg2 Q)⟩]
def pt49:Pat Frm:=fX 10 pt5 (fV 11 pt0 fN)
def pt50:Pat Frm:=fV 4 vD (fV 5 vD (fX 7 pt19 (fV 8 vD pt49)))
def yhY (a0:yak) (a1:yaP) (a2:yaQ) (a3:yab) (a4:yaI) (a5:yas) (Q:Qx):List St:=[⟨(pS hN (fV 4 vD (fV 5 vD (fX 7 pt44 (fV 8 vNs pt49)))) fN),ygY a0 a1 a2 a3 a4 a5 (yne Q) (yg3 Q) (yg4 Q)⟩,⟨(pS hN pt50 fN),ydo a0 a1 a2 a3 a4 a5 (yg3 Q) (yg4 Q)⟩,⟨(pS pt32 (fV 4 vD (fV 5 vD (fX 7 pt44 (fV 8 pt20 pt49)))) fN),yeQ a0 a1 a2 a3 a4 a5 (ynf Q) (yg5 Q) (yg6 Q)⟩,⟨(pS pt47 pt50 fN),ya7 a0 a1 a2 a3 a4 a5 (yg5 Q) (yg6 Q)⟩]
def yez (a0:yak) (a1:yaP) (a2:yaQ) (a3:yab) (a4:yaI) (a5:yas):LP:=lpS [(10099800,yhW a0 a1 a2 a3 a4 a5),(10099801,yhX a0 a1 a2 a3 a4 a5),(10099802,yhY a0 a1 a2 a3 a4 a5)]
def ydB (e:Es) (a0:yak) (a1:yaP) (a2:yaQ) (a3:yab) (a4:yaI) (a5:yas):SE:=sE (E e) [(yjh,yfR.pw a0),(yfi,yxg.pw a1),(ye5,yyS.pw a2),(ygB,yiC.pw a3),(yfI,yu3.pw a4),(yej,ykZ.pw a5)] (yez a0 a1 a2 a3 a4 a5)
theorem yd9 (e:Es) (he:EG e):SEOk (Solo (E e)) (ydB e yey yce ybM yfP ybl yaV):=yar (Sub.solo _) ⟨(OkF.solo (yAp e he)),(yxj e he),(ymd e he),(OkF.solo (yvI e he)),(OkF.solo (ynW e he)),(OkF.solo (yk2 e he)),trivial⟩ trivial he.ok
theorem ymh (e:Es) (a0 a1 a2 a3 a4 a5):ycZ (ydB e a0 a1 a2 a3 a4 a5) 5 a yke true (yhW a0 a1 a2 a3 a4 a5):=fun _=>⟨fun _=>by kernel_rfl,fun _ _=>by kernel_rfl,fun _=>by kernel_rfl,fun _ _=>by kernel_rfl,trivial⟩
theorem ymi (e:Es) (he:EG e):LpT (Solo (E e)) (yez yey yce ybM yfP ybl yaV) [] 10099800 (.loopG 10099800 yke):=fun _ _ _=>ylr.stG (Sub.solo _) (yaD (yd9 e he) 5) (YOk.no _ _) (yah (by kernel_rfl)) (ymh e _ _ _ _ _ _ _)
theorem ymj (e:Es) (a0 a1 a2 a3 a4 a5):ycZ (ydB e a0 a1 a2 a3 a4 a5) 5 a yhO true (yhX a0 a1 a2 a3 a4 a5):=fun _=>⟨fun _=>by kernel_rfl,fun _ _=>by kernel_rfl,fun _=>by kernel_rfl,fun _ _=>by kernel_rfl,fun _=>by kernel_rfl,fun _ _=>by kernel_rfl,fun _=>by kernel_rfl,fun _ _=>by kernel_rfl,fun _=>by kernel_rfl,fun _ _=>by kernel_rfl,fun _=>by kernel_rfl,fun _ _=>by kernel_rfl,fun _=>by kernel_rfl,fun _ _=>by kernel_rfl,trivial⟩
theorem ygG (e:Es) (he:EG e):LpT (Solo (E e)) (yez yey yce ybM yfP ybl yaV) [] 10099801 (.loopG 10099801 yhO):=fun _ _ _=>ylr.stG (Sub.solo _) (yaD (yd9 e he) 5) (YOk.no _ _) (yah (by kernel_rfl)) (ymj e _ _ _ _ _ _ _)
theorem ymk (e:Es) (a0 a1 a2 a3 a4 a5):ycZ (ydB e a0 a1 a2 a3 a4 a5) 5 a ykf true (yhY a0 a1 a2 a3 a4 a5):=fun _=>⟨fun _=>by kernel_rfl,fun _ _=>by kernel_rfl,fun _=>by kernel_rfl,fun _ _=>by kernel_rfl,fun _=>by kernel_rfl,fun _ _=>by kernel_rfl,fun _=>by kernel_rfl,fun _ _=>by kernel_rfl,trivial⟩
theorem yml (e:Es) (he:EG e):LpT (Solo (E e)) (yez yey yce ybM yfP ybl yaV) [] 10099802 (.loopG 10099802 ykf):=fun _ _ _=>ylr.stG (Sub.solo _) (yaD (yd9 e he) 5) (YOk.no _ _) (ybp (l:=[(10099801,.loopG 10099801 yhO)]) ⟨ygG e he,trivial⟩ (by kernel_rfl)) (ymk e _ _ _ _ _ _ _)
theorem yqY (e:Es) (a0 a1 a2 a3 a4 a5):EqW (ydB e a0 a1 a2 a3 a4 a5) 6 yrJ yfR (ygb a0 a1 a2 a3 a4 a5):=fun _ _=>by kernel_rfl
theorem yqZ (e:Es) (he:EG e):OkS (E e) (yfR.pw ye1) ygL:=okU he (yqY e _ _ _ _ _ _) (yd9 e he) yhM.flat (ybp (l:=[(10099800,.loopG 10099800 yke),(10099801,.loopG 10099801 yhO),(10099802,.loopG 10099802 ykf)]) ⟨ymi e he,ygG e he,yml e he,trivial⟩ (by kernel_rfl))
end Go.Pf.Vc
namespace Go.Pf.Vc
open Go Go.Pf
def I64 (n:Int):Prop:=-9223372036854775808≤n∧n≤9223372036854775807
def U64 (n:Int):Prop:=0≤n∧n≤18446744073709551615
theorem yrx (n:Int):IntKind.u64.wrap n=n % 18446744073709551616:=by
 simp only [IntKind.wrap,IntKind.signed,IntKind.bits,Bool.false_and,Bool.false_eq_true,if_false]
 rfl
theorem yGa (n:Int):IntKind.i64.wrap n=if n % 18446744073709551616≥9223372036854775808 then n % 18446744073709551616-18446744073709551616 else n % 18446744073709551616:=by
 have e1:(2:Int) ^ 64=18446744073709551616:=rfl
 have e2:(2:Int) ^ (64-1)=9223372036854775808:=rfl
 simp only [IntKind.wrap,IntKind.signed,IntKind.bits,Bool.true_and,e1,e2]
 by_cases h:n % 18446744073709551616≥9223372036854775808 <;> simp [h]
theorem wu64 {n:Int} (h:U64 n):IntKind.u64.wrap n=n:=by
 unfold U64 at h
 rw [yrx]
 omega
theorem wi64 {n:Int} (h:I64 n):IntKind.i64.wrap n=n:=by
 unfold I64 at h
 rw [yGa]
 split <;> omega
theorem yaf {x y:Prop}:cbr true x y=x:=rfl
theorem yac {x y:Prop}:cbr false x y=y:=rfl
theorem yaj {x:Prop}:asr true x=x:=rfl
theorem ygq {p:Int} (h:I64 p) (K:Int→Prop):ydf p K=K (p.natAbs:Int):=by
 unfold I64 at h
 unfold ydf yiv
 by_cases hp:p<0
 · have e:IntKind.u64.wrap ((0:Int)-IntKind.u64.wrap p)=(p.natAbs:Int):=by
     rw [yrx,yrx]
     omega
   rw [decide_eq_true hp,yaf,e]
 · rw [decide_eq_false hp,yac,wu64 ⟨by omega,by omega⟩]
   congr 1
   omega
theorem yyU (x:Int→Int→Bool→Prop):∀ (n a b:Nat),b<n→ydV x n (a:Int) (b:Int)=x ((Nat.gcd a b:Nat):Int) 0 false
 | 0,a,b,h=>by omega
 | n+1,a,b,h=>by
   unfold ydV
   by_cases hb:b=0
   · subst hb
     simp [cbr]
   · have h1:(b:Int)>0:=by omega
     have h2:¬((b:Int)=0):=by omega
     rw [decide_eq_true h1,yaf,decide_eq_false h2,Bool.not_false,yaj]
     have e:Int.tmod (a:Int) (b:Int)=((a % b:Nat):Int):=by rw [Int.tmod_eq_emod_of_nonneg (by omega)];omega
     rw [e,yyU x n b (a % b) (by have:=Nat.mod_lt a (show b>0 by omega);omega)]
     rw [Nat.gcd_comm a b,Nat.gcd_rec b a,Nat.gcd_comm]
theorem yq0 (a b:Nat) (K:Int→Prop) (h:K ((Nat.gcd a b:Nat):Int)):ybV (a:Int) (b:Int) K:=by
 unfold ybV ykg
 exact ⟨b+1,by rw [yyU _ (b+1) a b (by omega)];exact h⟩
def RV (n d:Int):Prop:=1≤d∧d≤1000000000000000000∧-1000000000000000000≤n∧n≤1000000000000000000∧Nat.gcd n.natAbs d.natAbs=1
instance (n d:Int):Decidable (RV n d):=by unfold RV;infer_instance
def chk (n d:Int):Int:=if RV n d then 0 else 8
theorem ytX {n d:Int} (hn:I64 n) (hd:I64 d) {K:Int→Prop} (h:K (chk n d)):yaE n d K:=by
 unfold yaE yhP
 by_cases h1:d<1
 · have e:chk n d=8:=if_neg fun h=>by have:=h.1;omega
   rw [decide_eq_true h1,yaf,← e];exact h
 · have hd':=hd;have hn':=hn
   unfold I64 at hd' hn'
   have ed:IntKind.u64.wrap d=((d.natAbs:Nat):Int):=by rw [wu64 ⟨by omega,by omega⟩];omega
   rw [decide_eq_false h1,yac,ygq hn,ed]
   by_cases h2:((if ((d.natAbs:Nat):Int)>((n.natAbs:Nat):Int) then ((d.natAbs:Nat):Int) else ((n.natAbs:Nat):Int))>1000000000000000000)
   · have e:chk n d=8:=if_neg fun h=>by
       obtain ⟨a1,a2,a3,a4,_⟩:=h
       revert h2;split <;> omega
     rw [decide_eq_true h2,yaf,← e];exact h
   · rw [decide_eq_false h2,yac,ygq hn]
     refine yq0 _ _ _ ?_
     have h3:0<Nat.gcd n.natAbs d.natAbs:=Nat.gcd_pos_of_pos_right _ (by omega)
     have h4:d≤1000000000000000000∧-1000000000000000000≤n∧n≤1000000000000000000:=by
       revert h2;split <;> omega
     by_cases h5:((Nat.gcd n.natAbs d.natAbs:Nat):Int)>1
     · have e:chk n d=8:=if_neg fun h=>by have:=h.2.2.2.2;omega
       rw [decide_eq_true h5,yaf,← e];exact h
     · have e:chk n d=0:=if_pos ⟨by omega,h4.1,h4.2.1,h4.2.2,by omega⟩
       rw [decide_eq_false h5,yac,← e];exact h
end Go.Pf.Vc
namespace Go.Pf.Vc
open Go Go.Pf
theorem ytY {p:Int} (h:U64 p):IntKind.u64.wrap (BitVec.ofInt IntKind.u64.bits p&&&BitVec.ofInt IntKind.u64.bits (4294967295:Int)).toNat=p % 4294967296:=by
 unfold U64 at h
 have e1:(BitVec.ofInt 64 p).toNat=p.toNat:=by
   rw [BitVec.toNat_ofInt];omega
 have e2:(BitVec.ofInt 64 (4294967295:Int)).toNat=4294967295:=rfl
 have e3:(BitVec.ofInt IntKind.u64.bits p&&&BitVec.ofInt IntKind.u64.bits (4294967295:Int)).toNat=p.toNat % 4294967296:=by
   show (BitVec.ofInt 64 p&&&BitVec.ofInt 64 (4294967295:Int)).toNat=_
   rw [BitVec.toNat_and,e1,e2]
   exact Nat.and_two_pow_sub_one_eq_mod p.toNat 32
 rw [e3,yrx]
 omega
theorem yFK (p:Int):Int.fdiv p 4294967296=p / 4294967296:=by
 rw [Int.fdiv_eq_ediv_of_nonneg _ (by omega)]
theorem yhZ {a b:Int} (ha:U64 a) (hb:U64 b) (K:Int→Int→Prop):yev a b K=K (a*b / 18446744073709551616) (a*b % 18446744073709551616):=by
 unfold yev you
 simp only [yFK]
 rw [ytY ha,ytY hb]
 unfold U64 at ha hb
 have ha':=ha;have hb':=hb
 obtain ⟨x1,hx1⟩:∃ x,x=a / 4294967296:=⟨_,rfl⟩
 obtain ⟨x0,hx0⟩:∃ x,x=a % 4294967296:=⟨_,rfl⟩
 obtain ⟨y1,hy1⟩:∃ x,x=b / 4294967296:=⟨_,rfl⟩
 obtain ⟨y0,hy0⟩:∃ x,x=b % 4294967296:=⟨_,rfl⟩
 rw [← hx1,← hx0,← hy1,← hy0]
 have b1:0≤x1∧x1≤4294967295:=by omega
 have b2:0≤x0∧x0≤4294967295:=by omega
 have b3:0≤y1∧y1≤4294967295:=by omega
 have b4:0≤y0∧y0≤4294967295:=by omega
 have pb:∀ x y:Int,0≤x∧x≤4294967295→0≤y∧y≤4294967295→0≤x*y∧x*y≤18446744065119617025:=by
   intro x y hx hy
   refine ⟨Int.mul_nonneg hx.1 hy.1,?_⟩
   have:=Int.mul_le_mul hx.2 hy.2 hy.1 (by omega:(0:Int)≤4294967295)
   omega
 have p1:=pb x1 y1 b1 b3
 have p2:=pb x1 y0 b1 b4
 have p3:=pb x0 y1 b2 b3
 have p4:=pb x0 y0 b2 b4
 have ea:a=x1*4294967296+x0:=by omega
 have eb:b=y1*4294967296+y0:=by omega
 have eab:a*b=x1*y1*18446744073709551616+x1*y0*4294967296+x0*y1*4294967296+x0*y0:=by
   rw [ea,eb];grind
 obtain ⟨P,hP⟩:∃ x,x=x1*y1:=⟨_,rfl⟩
 obtain ⟨Q,hQ⟩:∃ x,x=x1*y0:=⟨_,rfl⟩
 obtain ⟨R,hR⟩:∃ x,x=x0*y1:=⟨_,rfl⟩
 obtain ⟨S,hS⟩:∃ x,x=x0*y0:=⟨_,rfl⟩
 rw [← hP] at p1;rw [← hQ] at p2;rw [← hR] at p3;rw [← hS] at p4
 rw [← hP,← hQ,← hR,← hS] at eab ⊢
 have w1:IntKind.u64.wrap S=S:=wu64 ⟨by omega,by omega⟩
 have w2:IntKind.u64.wrap Q=Q:=wu64 ⟨by omega,by omega⟩
 have w3:IntKind.u64.wrap R=R:=wu64 ⟨by omega,by omega⟩
 have w4:IntKind.u64.wrap P=P:=wu64 ⟨by omega,by omega⟩
 rw [w1,w2,w3,w4]
 have w5:IntKind.u64.wrap (Q+S / 4294967296)=Q+S / 4294967296:=wu64 ⟨by omega,by omega⟩
 rw [w5,ytY ⟨by omega,by omega⟩]
 have w6:IntKind.u64.wrap ((Q+S / 4294967296) % 4294967296+R)=(Q+S / 4294967296) % 4294967296+R:=wu64 ⟨by omega,by omega⟩
 rw [w6]
 have w7:IntKind.u64.wrap (P+(Q+S / 4294967296) / 4294967296)=P+(Q+S / 4294967296) / 4294967296:=by
   have:a*b / 18446744073709551616≤18446744073709551615:=by
     have h1:a*b≤18446744073709551615*18446744073709551615:=by
       have:=Int.mul_le_mul ha'.2 hb'.2 hb'.1 (by omega:(0:Int)≤18446744073709551615)
       exact this
     omega
   exact wu64 ⟨by omega,by omega⟩
 rw [w7]
 have hab:a*b≤18446744073709551615*18446744073709551615:=Int.mul_le_mul ha'.2 hb'.2 hb'.1 (by omega:(0:Int)≤18446744073709551615)
 rw [eab] at hab ⊢
 rw [yrx,yrx]
 congr 1
 omega
theorem yFL {a b:Int} {K:Int→Prop} (h:K (if a=0 then b else a)):ydN [.int .i64 a,.int .i64 b] K:=by
 unfold ydN yeI
 refine ⟨3,?_⟩
 have e1:IntKind.i64.wrap 1=1:=by decide
 have e2:IntKind.i64.wrap 2=2:=by decide
 by_cases ha:a=0
 · by_cases hb:b=0
   · simp [ybj,yaf,yac,yaj,conf,yfy,yaa,e1,e2,ha,hb] at h ⊢;exact h
   · have e3:(b != 0)=true:=by simpa using hb
     simp [ybj,yaf,yac,yaj,conf,yfy,yaa,e1,e2,ha,e3] at h ⊢;exact h
 · have e3:(a != 0)=true:=by simpa using ha
   simp [ybj,yaf,yac,yaj,conf,yfy,yaa,e1,e2,ha,e3] at h ⊢;exact h
def chk2 (a b c d:Int):Int:=if chk a b=0 then chk c d else chk a b
theorem ymm {a b c d:Int} (ha:I64 a) (hb:I64 b) (hc:I64 c) (hd:I64 d) {K:Int→Prop} (h:K (chk2 a b c d)):ycD a b c d K:=by
 unfold ycD yhQ
 exact ytX ha hb (ytX hc hd (yFL h))
end Go.Pf.Vc
namespace Go.Pf.Vc
open Go Go.Pf
def cmp3 (a b:Int):Int:=if a<b then -1 else if a>b then 1 else 0
theorem yxk (a b:Int) (K:Int→Prop):ydn a b K=K (cmp3 a b):=by
 unfold ydn yel
 simp only [yfJ,ye7,bne_self_eq_false,yac,cmp3]
 by_cases h:a<b
 · simp [h,yaf]
 · by_cases h2:a>b
   · simp [h,h2,yaf,yac]
   · simp [h,h2,yac]
theorem ypR (a b:Int) (K:Int→Prop):ydg a b K=K (cmp3 a b):=by
 unfold ydg yd3
 simp only [ye8,yeK,bne_self_eq_false,yac,cmp3]
 by_cases h:a<b
 · simp [h,yaf]
 · by_cases h2:a>b
   · simp [h,h2,yaf,yac]
   · simp [h,h2,yac]
theorem yEJ {a b:Int} {K:Int→Prop} (h:K (if a=0 then b else a)):yhc [.int .i64 a,.int .i64 b] K:=by
 unfold yhc yix
 refine ⟨3,?_⟩
 have e1:IntKind.i64.wrap 1=1:=by decide
 have e2:IntKind.i64.wrap 2=2:=by decide
 by_cases ha:a=0
 · by_cases hb:b=0
   · simp [ycH,yaf,yac,yaj,conf,yfy,yaa,e1,e2,ha,hb] at h ⊢;exact h
   · have e3:(b != 0)=true:=by simpa using hb
     simp [ycH,yaf,yac,yaj,conf,yfy,yaa,e1,e2,ha,e3] at h ⊢;exact h
 · have e3:(a != 0)=true:=by simpa using ha
   simp [ycH,yaf,yac,yaj,conf,yfy,yaa,e1,e2,ha,e3] at h ⊢;exact h
theorem yeA {a b c d:Int}:chk2 a b c d=0↔RV a b∧RV c d:=by
 unfold chk2 chk
 by_cases h1:RV a b <;> by_cases h2:RV c d <;> simp [h1,h2]
def cmpR (a b c d:Int):Int:=cmp3 (a*d) (c*b)
theorem yCd {x y:Int} (_:0≤x) (_:0≤y):(if cmp3 (x / 18446744073709551616) (y / 18446744073709551616)=0 then cmp3 (x % 18446744073709551616) (y % 18446744073709551616) else cmp3 (x / 18446744073709551616) (y / 18446744073709551616))=cmp3 x y:=by
 unfold cmp3
 split <;> rename_i h <;> revert h <;> repeat' split <;> intro h <;> omega
theorem U64.abs {n:Int} (h:I64 n):U64 ((n.natAbs:Nat):Int):=by unfold I64 at h;unfold U64;omega
theorem yFM {a b c d:Int} (ha:I64 a) (hb:I64 b) (hc:I64 c) (hd:I64 d) {K:Int→Int→Prop} (h:K (if chk2 a b c d=0 then cmpR a b c d else 0) (chk2 a b c d)):ydI a b c d K:=by
 unfold ydI ykl
 refine ymm ha hb hc hd ?_
 by_cases hk:chk2 a b c d=0
 · rw [if_pos hk] at h
   rw [hk] at h ⊢
   obtain ⟨⟨b1,b2,a1,a2,_⟩,d1,d2,c1,c2,_⟩:=yeA.1 hk
   simp only [bne_self_eq_false,yac]
   by_cases hs:decide (a<0)=decide (c<0)
   · have e:(decide (a<0) != decide (c<0))=false:=by rw [hs];simp
     rw [e,yac,ygq ha,wu64 ⟨by omega,by omega⟩,yhZ (U64.abs ha) ⟨by omega,by omega⟩,ygq hc,wu64 ⟨by omega,by omega⟩,yhZ (U64.abs hc) ⟨by omega,by omega⟩,ypR,ypR]
     refine yEJ ?_
     have p1:0≤((a.natAbs:Nat):Int)*d:=Int.mul_nonneg (by omega) (by omega)
     have p2:0≤((c.natAbs:Nat):Int)*b:=Int.mul_nonneg (by omega) (by omega)
     rw [yCd p1 p2]
     by_cases hneg:a<0
     · have hcn:c<0:=by simpa [hneg] using hs.symm
       rw [decide_eq_true hneg,yaf]
       have e1:((a.natAbs:Nat):Int)*d=-(a*d):=by
         rw [show ((a.natAbs:Nat):Int)=-a by omega,Int.neg_mul]
       have e2:((c.natAbs:Nat):Int)*b=-(c*b):=by
         rw [show ((c.natAbs:Nat):Int)=-c by omega,Int.neg_mul]
       have e3:IntKind.i64.wrap (0-cmp3 (((a.natAbs:Nat):Int)*d) (((c.natAbs:Nat):Int)*b))=cmpR a b c d:=by
         rw [e1,e2]
         unfold cmpR cmp3
         rw [wi64 (by unfold I64;repeat' split <;> omega)]
         repeat' split <;> omega
       rw [e3];exact h
     · have hcn:¬c<0:=by simpa [hneg] using hs.symm
       rw [decide_eq_false hneg,yac,show ((a.natAbs:Nat):Int)=a by omega,show ((c.natAbs:Nat):Int)=c by omega]
       exact h
   · have e:(decide (a<0) != decide (c<0))=true:=by simpa using hs
     rw [e,yaf,yxk]
     have e2:cmp3 a c=cmpR a b c d:=by
       unfold cmpR cmp3
       by_cases hneg:a<0
       · have hcn:¬c<0:=by intro hcn;simp [hneg,hcn] at hs
         have q1:a*d<0:=Int.mul_neg_of_neg_of_pos hneg (by omega)
         have q2:0≤c*b:=Int.mul_nonneg (by omega) (by omega)
         rw [if_pos (by omega),if_pos (by omega)]
       · have hcn:c<0:=by
           by_cases hcn:c<0
           · exact hcn
           · simp [hneg,hcn] at hs
         have q1:c*b<0:=Int.mul_neg_of_neg_of_pos hcn (by omega)
         have q2:0≤a*d:=Int.mul_nonneg (by omega) (by omega)
         rw [if_neg (by omega),if_pos (by omega),if_neg (by omega),if_pos (by omega)]
     rw [e2];exact h
 · rw [if_neg hk] at h
   have e:(chk2 a b c d != 0)=true:=by simpa using hk
   rw [e,yaf];exact h
end Go.Pf.Vc
namespace Go.Pf.Vc
open Go Go.Pf
def blen (x:Nat):Nat:=if x=0 then 0 else x.log2+1
theorem yBb (x:Nat):x<2 ^ blen x:=by
 unfold blen
 split
 · rename_i h;subst h;decide
 · exact Nat.lt_log2_self
theorem yss {x:Nat} (h:x≠0):2 ^ (blen x-1)≤x:=by
 unfold blen
 rw [if_neg h]
 exact Nat.log2_self_le h
theorem yEK {x m:Nat} (h1:2 ^ m≤x) (h2:x<2 ^ (m+1)):blen x=m+1:=by
 have hx:x≠0:=by have:=Nat.two_pow_pos m;omega
 unfold blen
 rw [if_neg hx]
 congr 1
 have a:=Nat.log2_self_le hx
 have b:=Nat.lt_log2_self (n:=x)
 have c1:¬(x.log2<m):=fun h=>by
   have:=Nat.pow_le_pow_right (show 0<2 by omega) (show x.log2+1≤m by omega)
   omega
 have c2:¬(m<x.log2):=fun h=>by
   have:=Nat.pow_le_pow_right (show 0<2 by omega) (show m+1≤x.log2 by omega)
   omega
 omega
theorem yDl {x k:Nat} (h:2 ^ k≤x):blen x=k+blen (x / 2 ^ k):=by
 have hp:=Nat.two_pow_pos k
 have hq:x / 2 ^ k≠0:=by
   have:=Nat.div_pos h hp
   omega
 have h1:=yss hq
 have h2:=yBb (x / 2 ^ k)
 obtain ⟨m,hm⟩:∃ m,blen (x / 2 ^ k)=m+1:=⟨blen (x / 2 ^ k)-1,by
   have:blen (x / 2 ^ k)≠0:=by unfold blen;rw [if_neg hq];omega
   omega⟩
 rw [hm] at h1 h2 ⊢
 rw [Nat.add_sub_cancel] at h1
 have:=yEK (x:=x) (m:=k+m) (by
     rw [Nat.pow_add]
     calc 2 ^ k*2 ^ m≤2 ^ k*(x / 2 ^ k):=Nat.mul_le_mul_left _ h1
       _≤x:=Nat.mul_div_le _ _) (by
     rw [show k+m+1=k+(m+1) by omega,Nat.pow_add]
     rw [Nat.mul_comm]
     exact (Nat.div_lt_iff_lt_mul hp).1 h2)
 omega
theorem yFN:∀ x:Nat,x<256→yaa (List.getD yfB x .nils)=(blen x:Int):=by decide +kernel
theorem wu8 {n:Int} (h0:0≤n) (h1:n<256):IntKind.u8.wrap n=n:=by
 have e1:(2:Int) ^ 8=256:=rfl
 simp only [IntKind.wrap,IntKind.signed,IntKind.bits,Bool.false_and,Bool.false_eq_true,if_false,e1]
 omega
theorem yEL {n:Int} (h0:0≤n) (h1:n<256):yaa (List.getD yfB (IntKind.u8.wrap n).toNat .nils)=(blen n.toNat:Int):=by
 rw [wu8 h0 h1]
 exact yFN n.toNat (by omega)
theorem yGb {n:Nat} (h:n<256):blen n≤8:=by
 by_cases h0:n=0
 · subst h0;decide
 · have:=yss h0
   have h2:blen n-1<8:=by
     refine Nat.lt_of_not_le fun hc=>?_
     have:=Nat.pow_le_pow_right (show 0<2 by omega) hc
     omega
   omega
theorem yry {n k:Int} (h0:0≤n) (h1:n<256) (hk:0≤k∧k≤56) {m:Int} (hm:m=k+blen n.toNat) {K:Int→Prop} (h:K m) :
   asr (decide ((0:Int)≤(IntKind.u8.wrap n))) (asr (decide ((IntKind.u8.wrap n)<(256:Int))) (K (IntKind.i64.wrap (k+(IntKind.i64.wrap (yaa (List.getD yfB ((IntKind.u8.wrap n).toNat) .nils))))))):=by
 have hb:=yGb (n:=n.toNat) (by omega)
 have e1:IntKind.i64.wrap (blen n.toNat:Int)=blen n.toNat:=wi64 (by unfold I64;omega)
 have e2:IntKind.i64.wrap (k+blen n.toNat:Int)=k+blen n.toNat:=wi64 (by unfold I64;omega)
 rw [yEL h0 h1,wu8 h0 h1,decide_eq_true h0,yaj,decide_eq_true h1,yaj,e1,e2,← hm]
 exact h
theorem ytZ (p q:Int) (hq:0≤q):Int.fdiv p q=p / q:=Int.fdiv_eq_ediv_of_nonneg _ hq
theorem yDm {p:Int} (hp:U64 p) {K:Int→Prop} (h:K (blen p.toNat:Int)):ymJ p K:=by
 unfold U64 at hp
 unfold ymJ yow
 simp only [ytZ _ 4294967296 (by omega),ytZ _ 65536 (by omega),ytZ _ 256 (by omega)]
 have key:∀ (k:Nat) (q:Int),2 ^ k≤p.toNat→q=p / (2 ^ k:Nat)→(blen p.toNat:Int)=k+blen q.toNat:=by
   intro k q hk hq
   have e:q.toNat=p.toNat / 2 ^ k:=by
     rw [hq]
     obtain ⟨m,rfl⟩:∃ m:Nat,p=m:=⟨p.toNat,by omega⟩
     rw [← Int.natCast_ediv,Int.toNat_natCast,Int.toNat_natCast]
   rw [e]
   have:=yDl hk
   omega
 by_cases h1:p≥4294967296
 · rw [decide_eq_true h1,yaf]
   by_cases h2:p / 4294967296≥65536
   · rw [decide_eq_true h2,yaf]
     by_cases h3:p / 4294967296 / 65536≥256
     · rw [decide_eq_true h3,yaf]
       exact yry (by omega) (by omega) (by omega) (key 56 _ (by omega) (by omega)) h
     · rw [decide_eq_false h3,yac]
       exact yry (by omega) (by omega) (by omega) (key 48 _ (by omega) (by omega)) h
   · rw [decide_eq_false h2,yac]
     by_cases h3:p / 4294967296≥256
     · rw [decide_eq_true h3,yaf]
       exact yry (by omega) (by omega) (by omega) (key 40 _ (by omega) (by omega)) h
     · rw [decide_eq_false h3,yac]
       exact yry (by omega) (by omega) (by omega) (key 32 _ (by omega) (by omega)) h
 · rw [decide_eq_false h1,yac]
   by_cases h2:p≥65536
   · rw [decide_eq_true h2,yaf]
     by_cases h3:p / 65536≥256
     · rw [decide_eq_true h3,yaf]
       exact yry (by omega) (by omega) (by omega) (key 24 _ (by omega) (by omega)) h
     · rw [decide_eq_false h3,yac]
       exact yry (by omega) (by omega) (by omega) (key 16 _ (by omega) (by omega)) h
   · rw [decide_eq_false h2,yac]
     by_cases h3:p≥256
     · rw [decide_eq_true h3,yaf]
       exact yry (by omega) (by omega) (by omega) (key 8 _ (by omega) (by omega)) h
     · rw [decide_eq_false h3,yac]
       exact yry (by omega) (by omega) (by omega) (by simp) h
theorem ypS {p:Int} (hp:U64 p) {K:Int→Prop} (h:K (64-blen p.toNat:Int)):ybe p K:=by
 unfold ybe yeL
 refine yDm hp ?_
 have hb:blen p.toNat≤64:=by
   unfold U64 at hp
   by_cases h0:p.toNat=0
   · rw [h0];decide
   · have:=yss h0
     have h2:blen p.toNat-1<64:=by
       refine Nat.lt_of_not_le fun hc=>?_
       have:=Nat.pow_le_pow_right (show 0<2 by omega) hc
       omega
     omega
 rw [wi64 (by unfold I64;omega)]
 exact h
end Go.Pf.Vc
namespace Go.Pf.Vc
open Go Go.Pf
structure DI (y a b u un q r:Int):Prop where
 hy:y=a*4294967296+b
 h1:2147483648≤a∧a≤4294967295
 h0:0≤b∧b≤4294967295
 hn:0≤un∧un≤4294967295
 hu:q*a+r=u
 hq:0≤q∧q≤4294967297
 hr:0≤r∧r≤4294967295
 hlt:u<y
 hU:u*4294967296+un<(q+1)*y
def DG (y u un q:Int):Prop:=0≤q∧q≤4294967295∧q*y≤u*4294967296+un∧u*4294967296+un<(q+1)*y
theorem DI.step {y a b u un q r:Int} (h:DI y a b u un q r) {A B C:Prop}
   (hA:DG y u un (q-1)→0≤q-1→q-1≤4294967296→A)
   (hB:DI y a b u un (q-1) (r+a)→B)
   (hC:DG y u un q→C) :
   cbr (decide (q≥(4294967296:Int)))
     (cbr (decide ((IntKind.u64.wrap (r+a))≥(4294967296:Int))) A B)
     (cbr (decide ((IntKind.u64.wrap (q*b))>(IntKind.u64.wrap ((IntKind.u64.wrap ((4294967296:Int)*r))+un))))
       (cbr (decide ((IntKind.u64.wrap (r+a))≥(4294967296:Int))) A B) C):=by
 have h':=h
 obtain ⟨hy,h1,h0,hn,hu,hq,hr,hlt,hU⟩:=h
 have e1:IntKind.u64.wrap (r+a)=r+a:=wu64 ⟨by omega,by omega⟩
 have eq1:q*y=q*a*4294967296+q*b:=by rw [hy];grind
 have eq2:(q-1)*y=q*y-y:=by grind
 have eq3:(q-1)*a=q*a-a:=by grind
 have eq4:(q-1+1)*y=q*y:=by grind
 have eq5:(q-1)*b=q*b-b:=by grind
 have big:u*4294967296+un<q*y→cbr (decide ((IntKind.u64.wrap (r+a))≥(4294967296:Int))) A B:=by
   intro hb
   have q1:0≤q-1:=by
     refine Int.not_lt.1 fun hc=>?_
     have hq0:q=0:=by omega
     subst hq0
     simp at hb hu
     omega
   rw [e1]
   by_cases hc:r+a≥4294967296
   · rw [decide_eq_true hc,yaf]
     have hp:(q-1)*b≤4294967296*4294967295:=Int.mul_le_mul (by omega) h0.2 h0.1 (by omega)
     have hle:(q-1)*y≤u*4294967296+un:=by
       have:(q-1)*y=(q-1)*a*4294967296+(q-1)*b:=by rw [hy];grind
       omega
     have hlt32:q-1≤4294967295:=by
       refine Int.not_lt.1 fun hc=>?_
       have:4294967296*y≤(q-1)*y:=Int.mul_le_mul_of_nonneg_right (by omega) (by omega)
       omega
     exact hA ⟨q1,hlt32,hle,by rw [eq4];exact hb⟩ q1 (by omega)
   · rw [decide_eq_false hc,yac]
     exact hB ⟨hy,h1,h0,hn,by rw [eq3];omega,⟨q1,by omega⟩,⟨by omega,by omega⟩,hlt,by rw [eq4];exact hb⟩
 by_cases ha:q≥4294967296
 · rw [decide_eq_true ha,yaf]
   refine big ?_
   have:4294967296*y≤q*y:=Int.mul_le_mul_of_nonneg_right (by omega) (by omega)
   omega
 · rw [decide_eq_false ha,yac]
   have hp:q*b≤4294967295*4294967295:=Int.mul_le_mul (by omega) h0.2 h0.1 (by omega)
   have hp0:0≤q*b:=Int.mul_nonneg hq.1 h0.1
   have w1:IntKind.u64.wrap (q*b)=q*b:=wu64 ⟨hp0,by omega⟩
   have w2:IntKind.u64.wrap ((4294967296:Int)*r)=4294967296*r:=wu64 ⟨by omega,by omega⟩
   have w3:IntKind.u64.wrap ((4294967296:Int)*r+un)=4294967296*r+un:=wu64 ⟨by omega,by omega⟩
   rw [w1,w2,w3]
   by_cases hb:q*b>4294967296*r+un
   · rw [decide_eq_true hb,yaf]
     exact big (by omega)
   · rw [decide_eq_false hb,yac]
     exact hC ⟨hq.1,by omega,by omega,hU⟩
theorem yGc (W:Int→(Int→Prop)→Prop) {y a c u un:Int} (s v un0:Int) {x0 x1:Int→Int→Int→Int→Int→Int→Int→Int→Int→Bool→Prop}
   (hx:∀ q r b,DG y u un q→x0 y s a c v un un0 q r b) (hx1:∀ q r b,DG y u un q→x1 y s a c v un un0 q r b) :
   ∀ (n:Nat) (q r:Int) (b:Bool),DI y a c u un q r→4294967296≤r+n*2147483648→ycE W x0 x1 (n+1) y s a c v un un0 q r b:=by
 intro n
 induction n with
 | zero =>
   intro q r b h hn
   have:=h.hr.2
   exact absurd hn (by omega)
 | succ n ih =>
   intro q r b h hn
   unfold ycE
   refine h.step (fun g a1 a2=>?_) (fun g=>?_) (fun g=>hx1 _ _ _ g)
   · rw [wu64 (n:=q-1) ⟨by omega,by omega⟩]
     exact hx _ _ _ g
   · have e1:IntKind.u64.wrap (q-1)=q-1:=wu64 ⟨g.hq.1,by have:=g.hq.2;omega⟩
     have e2:IntKind.u64.wrap (r+a)=r+a:=wu64 ⟨g.hr.1,by have:=g.hr.2;omega⟩
     rw [e1,e2]
     exact ih _ _ _ g (by have:=h.h1.1;omega)
theorem yGd (W:Int→(Int→Prop)→Prop) {y a c u un:Int} (s q1 v:Int) {x0 x1:Int→Int→Int→Int→Int→Int→Int→Int→Int→Bool→Prop}
   (hx:∀ q r b,DG y u un q→x0 y s a c un q1 r v q b) (hx1:∀ q r b,DG y u un q→x1 y s a c un q1 r v q b) :
   ∀ (n:Nat) (q r:Int) (b:Bool),DI y a c u un q r→4294967296≤r+n*2147483648→ycF W x0 x1 (n+1) y s a c un q1 r v q b:=by
 intro n
 induction n with
 | zero =>
   intro q r b h hn
   have:=h.hr.2
   exact absurd hn (by omega)
 | succ n ih =>
   intro q r b h hn
   unfold ycF
   refine h.step (fun g a1 a2=>?_) (fun g=>?_) (fun g=>hx1 _ _ _ g)
   · rw [wu64 (n:=q-1) ⟨by omega,by omega⟩]
     exact hx _ _ _ g
   · have e1:IntKind.u64.wrap (q-1)=q-1:=wu64 ⟨g.hq.1,by have:=g.hq.2;omega⟩
     have e2:IntKind.u64.wrap (r+a)=r+a:=wu64 ⟨g.hr.1,by have:=g.hr.2;omega⟩
     rw [e1,e2]
     exact ih _ _ _ g (by have:=h.h1.1;omega)
theorem yFO (W:Int→(Int→Prop)→Prop) {y a c u un:Int} (s v un0:Int) {x0 x1:Int→Int→Int→Int→Int→Int→Int→Int→Int→Bool→Prop}
   (hx:∀ q r b,DG y u un q→x0 y s a c v un un0 q r b) (hx1:∀ q r b,DG y u un q→x1 y s a c v un un0 q r b) (q r:Int) (h:DI y a c u un q r):ygk W x0 x1 3 y s a c v un un0 q r:=by
 have:=yGc W s v un0 hx hx1 2 q r true h (by have:=h.hr.1;omega)
 unfold ycE at this
 unfold ygk
 exact this
theorem yFP (W:Int→(Int→Prop)→Prop) {y a c u un:Int} (s q1 v:Int) {x0 x1:Int→Int→Int→Int→Int→Int→Int→Int→Int→Bool→Prop}
   (hx:∀ q r b,DG y u un q→x0 y s a c un q1 r v q b) (hx1:∀ q r b,DG y u un q→x1 y s a c un q1 r v q b) (q r:Int) (h:DI y a c u un q r):ydZ W x0 x1 3 y s a c un q1 r v q:=by
 have:=yGd W s q1 v hx hx1 2 q r true h (by have:=h.hr.1;omega)
 unfold ycF at this
 unfold ydZ
 exact this
end Go.Pf.Vc
namespace Go.Pf.Vc
open Go Go.Pf
theorem DI.init {y a b u un:Int} (hy:y=a*4294967296+b) (h1:2147483648≤a∧a≤4294967295) (h0:0≤b∧b≤4294967295) (hn:0≤un∧un≤4294967295)
   (hu:0≤u) (hlt:u<y):DI y a b u un (u / a) (u-u / a*a):=by
 have a1:=Int.mul_ediv_add_emod u a
 have a2:=Int.emod_nonneg u (show a≠0 by omega)
 have a3:=Int.emod_lt_of_pos u (show 0<a by omega)
 have a4:u / a*a=a*(u / a):=Int.mul_comm _ _
 have a5:0≤u / a:=Int.ediv_nonneg hu (by omega)
 have a6:u / a≤4294967297:=by
   refine Int.not_lt.1 fun hc=>?_
   have:a*4294967298≤a*(u / a):=Int.mul_le_mul_of_nonneg_left (by omega) (by omega)
   omega
 refine ⟨hy,h1,h0,hn,by omega,⟨a5,a6⟩,⟨by omega,by omega⟩,hlt,?_⟩
 have e:(u / a+1)*y=a*(u / a)*4294967296+a*4294967296+(u / a+1)*b:=by
   obtain ⟨t,ht⟩:∃ t,t=u / a:=⟨_,rfl⟩
   rw [← ht,hy];grind
 have:0≤(u / a+1)*b:=Int.mul_nonneg (by omega) h0.1
 omega
theorem yGe {a b:Int} {k:Nat} (ha:0≤a) (hb:0≤b∧b<2 ^ k) (hab:a*2 ^ k≤18446744073709551615∧b≤18446744073709551615) (hs:a*2 ^ k+b≤18446744073709551615) :
   IntKind.u64.wrap (BitVec.ofInt IntKind.u64.bits (a*2 ^ k)|||BitVec.ofInt IntKind.u64.bits b).toNat=a*2 ^ k+b:=by
 obtain ⟨x,rfl⟩:∃ x:Nat,a=x:=⟨a.toNat,by omega⟩
 obtain ⟨z,rfl⟩:∃ z:Nat,b=z:=⟨b.toNat,by omega⟩
 have ec:((x:Int)*2 ^ k)=((2 ^ k*x:Nat):Int):=by push_cast;exact Int.mul_comm _ _
 rw [ec] at hab hs ⊢
 have hz:z<2 ^ k:=by have:=hb.2;exact_mod_cast this
 have e:(BitVec.ofInt IntKind.u64.bits ((2 ^ k*x:Nat):Int)|||BitVec.ofInt IntKind.u64.bits (z:Int)).toNat=2 ^ k*x+z:=by
   show (BitVec.ofInt 64 ((2 ^ k*x:Nat):Int)|||BitVec.ofInt 64 (z:Int)).toNat=_
   rw [BitVec.toNat_or,BitVec.toNat_ofInt,BitVec.toNat_ofInt]
   have e1:(((2 ^ k*x:Nat):Int) % (2 ^ 64:Nat)).toNat=2 ^ k*x:=by omega
   have e2:((z:Int) % (2 ^ 64:Nat)).toNat=z:=by omega
   rw [e1,e2,Nat.two_pow_add_eq_or_of_lt hz]
 rw [e,wu64 ⟨by omega,by omega⟩]
 push_cast;rfl
theorem yBc {u un q y:Int} (h0:0≤u*4294967296+un-q*y) (h1:u*4294967296+un-q*y≤18446744073709551615) :
   IntKind.u64.wrap (IntKind.u64.wrap (IntKind.u64.wrap (u*4294967296)+un)-IntKind.u64.wrap (q*y))=u*4294967296+un-q*y:=by
 simp only [yrx]
 omega
theorem yjv {a b:Int} (h:0≤a):Int.tdiv a b=a / b:=Int.tdiv_eq_ediv_of_nonneg h
theorem yFl {a b:Int} (h:0≤a):Int.tmod a b=a % b:=Int.tmod_eq_emod_of_nonneg h
theorem yyV {h l y:Int} (hh:U64 h) (hl:U64 l) (hy:U64 y) (hlt:h<y) {K:Int→Int→Prop}
   (k:K ((h*18446744073709551616+l) / y) ((h*18446744073709551616+l) % y)):yfj h l y K:=by
 unfold U64 at hh hl hy
 unfold yfj yox
 have b1:(y ==(0:Int))=false:=beq_eq_false_iff_ne.2 (by omega)
 have b2:decide (y≤h)=false:=decide_eq_false (by omega)
 have b3:(!(decide (y=(0:Int))))=true:=by rw [decide_eq_false (by omega)];rfl
 rw [b1,yac,b2,yac,b3]
 by_cases h0:h=0
 · subst h0
   have:((0:Int) == 0)=true:=rfl
   rw [this,yaf,yaj,yaj,yjv hl.1,yFl hl.1]
   have e:(0:Int)*18446744073709551616+l=l:=by omega
   rw [e] at k
   have b4:l / y≤l:=Int.ediv_le_self _ hl.1
   rw [wu64 ⟨Int.ediv_nonneg hl.1 (by omega),by omega⟩]
   exact k
 · have b4:(h ==(0:Int))=false:=beq_eq_false_iff_ne.2 h0
   rw [b4,yac]
   refine ypS ⟨by omega,by omega⟩ ?_
   have hyn:y.toNat≠0:=by omega
   have c1:=yBb y.toNat
   have c2:=yss hyn
   have c3:blen y.toNat≤64:=by
     refine Nat.le_of_not_lt fun hc=>?_
     have:=Nat.pow_le_pow_right (show 0<2 by omega) (show 64≤blen y.toNat-1 by omega)
     omega
   have c4:1≤blen y.toNat:=by
     refine Nat.le_of_not_lt fun hc=>?_
     have:blen y.toNat=0:=by omega
     rw [this] at c1
     omega
   obtain ⟨m,hm⟩:∃ m,m=64-blen y.toNat:=⟨_,rfl⟩
   have es:(64-(blen y.toNat:Int))=(m:Int):=by omega
   rw [es]
   have m63:m≤63:=by omega
   have e1:IntKind.u64.wrap (m:Int)=m:=wu64 ⟨by omega,by omega⟩
   have e2:IntKind.u64.wrap ((64:Int)-m)=((64-m:Nat):Int):=by
     rw [wu64 ⟨by omega,by omega⟩];omega
   have e3:min ((m:Int)).toNat IntKind.u64.bits=m:=by
     show min ((m:Int)).toNat 64=m
     rw [Int.toNat_natCast];omega
   have e4:min (((64-m:Nat):Int)).toNat IntKind.u64.bits=64-m:=by
     show min (((64-m:Nat):Int)).toNat 64=64-m
     rw [Int.toNat_natCast];omega
   simp only [e1]
   rw [e2,e3,e4]
   have p64:(2:Int) ^ (64-m)*2 ^ m=18446744073709551616:=by
     rw [← Int.pow_add,show 64-m+m=64 by omega];rfl
   have p63:(2:Int) ^ (63-m)*2 ^ m=9223372036854775808:=by
     rw [← Int.pow_add,show 63-m+m=63 by omega];rfl
   have tp:(0:Int)<2 ^ m:=Int.pow_pos (by omega)
   have tp':(0:Int)<2 ^ (64-m):=Int.pow_pos (by omega)
   have y1:y<(2:Int) ^ (64-m):=by
     have:blen y.toNat=64-m:=by omega
     rw [this] at c1
     have c1':((y.toNat:Nat):Int)<((2 ^ (64-m):Nat):Int):=by exact_mod_cast c1
     push_cast at c1'
     omega
   have y2:(2:Int) ^ (63-m)≤y:=by
     have:blen y.toNat-1=63-m:=by omega
     rw [this] at c2
     have c2':((2 ^ (63-m):Nat):Int)≤((y.toNat:Nat):Int):=by exact_mod_cast c2
     push_cast at c2'
     omega
   have Y1:y*2 ^ m<18446744073709551616:=by
     have:=Int.mul_lt_mul_of_pos_right y1 tp
     omega
   have Y2:9223372036854775808≤y*2 ^ m:=by
     have:=Int.mul_le_mul_of_nonneg_right y2 (show (0:Int)≤2 ^ m by omega)
     omega
   have H1:(h+1)*2 ^ m≤y*2 ^ m:=Int.mul_le_mul_of_nonneg_right (by omega) (by omega)
   have H2:(h+1)*2 ^ m=h*2 ^ m+2 ^ m:=by grind
   have H0:0≤h*2 ^ m:=Int.mul_nonneg hh.1 (by omega)
   have fd:Int.fdiv l (2 ^ (64-m))=l / 2 ^ (64-m):=ytZ _ _ (by omega)
   have L1:=Int.mul_ediv_add_emod l (2 ^ (64-m))
   have L2:=Int.emod_nonneg l (show (2:Int) ^ (64-m)≠0 by omega)
   have L3:=Int.emod_lt_of_pos l tp'
   have L4:0≤l / 2 ^ (64-m):=Int.ediv_nonneg hl.1 (by omega)
   have L5:l / 2 ^ (64-m)<2 ^ m:=by
     refine Int.ediv_lt_of_lt_mul tp' ?_
     rw [Int.mul_comm,p64];omega
   have w1:IntKind.u64.wrap (y*2 ^ m)=y*2 ^ m:=wu64 ⟨by omega,by omega⟩
   have w2:IntKind.u64.wrap (h*2 ^ m)=h*2 ^ m:=wu64 ⟨by omega,by omega⟩
   have w3:IntKind.u64.wrap (BitVec.ofInt IntKind.u64.bits (h*2 ^ m)|||BitVec.ofInt IntKind.u64.bits (l / 2 ^ (64-m))).toNat=h*2 ^ m+l / 2 ^ (64-m) :=
     yGe hh.1 ⟨L4,L5⟩ ⟨by omega,by omega⟩ (by omega)
   have w4:IntKind.u64.wrap (l*2 ^ m)=l % 2 ^ (64-m)*2 ^ m:=by
     have e:l*2 ^ m=(l / 2 ^ (64-m))*18446744073709551616+l % 2 ^ (64-m)*2 ^ m:=by
       rw [← p64]
       obtain ⟨a,ha⟩:∃ a,a=l / 2 ^ (64-m):=⟨_,rfl⟩
       obtain ⟨b,hb⟩:∃ b,b=l % 2 ^ (64-m):=⟨_,rfl⟩
       obtain ⟨t,ht⟩:∃ t,t=(2:Int) ^ m:=⟨_,rfl⟩
       obtain ⟨t',ht'⟩:∃ t,t=(2:Int) ^ (64-m):=⟨_,rfl⟩
       rw [← ha,← hb,← ht'] at L1
       rw [← ha,← hb,← ht,← ht']
       rw [← L1];grind
     have e5:l % 2 ^ (64-m)*2 ^ m<18446744073709551616:=by
       rw [← p64];exact Int.mul_lt_mul_of_pos_right L3 tp
     have e6:0≤l % 2 ^ (64-m)*2 ^ m:=Int.mul_nonneg L2 (by omega)
     rw [e,yrx];omega
   have e5:l % 2 ^ (64-m)*2 ^ m<18446744073709551616:=by
     rw [← p64];exact Int.mul_lt_mul_of_pos_right L3 tp
   have e6:0≤l % 2 ^ (64-m)*2 ^ m:=Int.mul_nonneg L2 (by omega)
   have eN:(h*18446744073709551616+l)*2 ^ m=(h*2 ^ m+l / 2 ^ (64-m))*18446744073709551616+l % 2 ^ (64-m)*2 ^ m:=by
     rw [← p64]
     obtain ⟨a,ha⟩:∃ a,a=l / 2 ^ (64-m):=⟨_,rfl⟩
     obtain ⟨b,hb⟩:∃ b,b=l % 2 ^ (64-m):=⟨_,rfl⟩
     obtain ⟨t,ht⟩:∃ t,t=(2:Int) ^ m:=⟨_,rfl⟩
     obtain ⟨t',ht'⟩:∃ t,t=(2:Int) ^ (64-m):=⟨_,rfl⟩
     rw [← ha,← hb,← ht'] at L1
     rw [← ha,← hb,← ht,← ht']
     rw [← L1];grind
   have U1:h*2 ^ m+l / 2 ^ (64-m)<y*2 ^ m:=by omega
   have U0:0≤h*2 ^ m+l / 2 ^ (64-m):=by omega
   rw [fd,w1,w2,w3,w4]
   have b5:(!(decide ((m:Int)<0)))=true:=by rw [decide_eq_false (by omega)];rfl
   have b6:(!(decide (((64-m:Nat):Int)<0)))=true:=by rw [decide_eq_false (by omega)];rfl
   rw [b5,b6,yaj,yaj,yaj,yaj]
   generalize h*2 ^ m+l / 2 ^ (64-m)=u at *
   generalize hl0:l % 2 ^ (64-m)*2 ^ m=v at *
   generalize hY:y*2 ^ m=Y at *
   rw [ytZ Y _ (by omega),ytZ v _ (by omega),ytY ⟨by omega,by omega⟩,ytY ⟨by omega,by omega⟩,yjv U0]
   have b7:(!(decide (Y / 4294967296=(0:Int))))=true:=by rw [decide_eq_false (by omega)];rfl
   rw [b7,yaj]
   obtain ⟨c,hyn1⟩:∃ a,a=Y / 4294967296:=⟨_,rfl⟩
   obtain ⟨d,hyn0⟩:∃ a,a=Y % 4294967296:=⟨_,rfl⟩
   obtain ⟨un1,hun1⟩:∃ a,a=v / 4294967296:=⟨_,rfl⟩
   obtain ⟨un0,hun0⟩:∃ a,a=v % 4294967296:=⟨_,rfl⟩
   rw [← hyn1,← hyn0,← hun1,← hun0]
   have d1:2147483648≤c∧c≤4294967295:=by omega
   have d0:0≤d∧d≤4294967295:=by omega
   have dn1:0≤un1∧un1≤4294967295:=by omega
   have dn0:0≤un0∧un0≤4294967295:=by omega
   have dY:Y=c*4294967296+d:=by omega
   have g1:=DI.init dY d1 d0 dn1 U0 U1
   have x1:IntKind.u64.wrap (u / c)=u / c:=wu64 ⟨g1.hq.1,by have:=g1.hq.2;omega⟩
   have x2:IntKind.u64.wrap (u-IntKind.u64.wrap (u / c*c))=u-u / c*c:=by
     have r1:=g1.hr.1
     have r2:0≤u / c*c:=Int.mul_nonneg g1.hq.1 (by omega)
     have r3:=g1.hr.2
     rw [wu64 (n:=u / c*c) ⟨r2,by omega⟩,wu64 ⟨r1,by omega⟩]
   rw [x1,x2]
   have fin:∀ q1:Int,DG Y u un1 q1→∀ (un21:Int),un21=u*4294967296+un1-q1*Y→∀ q0,DG Y un21 un0 q0 →
       K (IntKind.u64.wrap ((IntKind.u64.wrap (q1*(4294967296:Int)))+q0)) (Int.fdiv (IntKind.u64.wrap ((IntKind.u64.wrap ((IntKind.u64.wrap (un21*(4294967296:Int)))+un0))-(IntKind.u64.wrap (q0*Y)))) (2 ^ (min ((m:Int)).toNat IntKind.u64.bits))):=by
     intro q1 G1 un21 e21 q0 G0
     obtain ⟨a1,a2,a3,a4⟩:=G1
     obtain ⟨c1,c2,c3,c4⟩:=G0
     have s1:(q1+1)*Y=q1*Y+Y:=by grind
     have s0:(q0+1)*Y=q0*Y+Y:=by grind
     have w5:IntKind.u64.wrap (q1*4294967296)=q1*4294967296:=wu64 ⟨by omega,by omega⟩
     have w6:IntKind.u64.wrap (q1*4294967296+q0)=q1*4294967296+q0:=wu64 ⟨by omega,by omega⟩
     rw [yBc (by omega) (by omega),w5,w6,e3,ytZ _ _ (by omega)]
     have eT:un21*4294967296+un0-q0*Y=(h*18446744073709551616+l-(q1*4294967296+q0)*y)*2 ^ m:=by
       have f1:(q1*4294967296+q0)*Y=q1*Y*4294967296+q0*Y:=by grind
       have f2:(h*18446744073709551616+l-(q1*4294967296+q0)*y)*2 ^ m=(h*18446744073709551616+l)*2 ^ m-(q1*4294967296+q0)*Y:=by
         rw [← hY,Int.sub_mul,Int.mul_assoc (q1*4294967296+q0)]
       rw [f2,f1,eN]
       omega
     rw [eT,Int.mul_ediv_cancel _ (by omega)]
     have r0:0≤h*18446744073709551616+l-(q1*4294967296+q0)*y:=by
       refine Int.not_lt.1 fun hc=>?_
       have:=Int.mul_neg_of_neg_of_pos hc tp
       omega
     have r1:h*18446744073709551616+l-(q1*4294967296+q0)*y<y:=by
       refine Int.not_le.1 fun hc=>?_
       have:=Int.mul_le_mul_of_nonneg_right hc (show (0:Int)≤2 ^ m by omega)
       omega
     obtain ⟨Q,hQ⟩:∃ Q,Q=q1*4294967296+q0:=⟨_,rfl⟩
     rw [← hQ] at r0 r1 ⊢
     have z1:(h*18446744073709551616+l) / y=Q:=by
       have:h*18446744073709551616+l=(h*18446744073709551616+l-Q*y)+Q*y:=by omega
       rw [this,Int.add_mul_ediv_right _ _ (by omega),Int.ediv_eq_zero_of_lt r0 r1];omega
     have z2:(h*18446744073709551616+l) % y=h*18446744073709551616+l-Q*y:=by
       have:=Int.mul_ediv_add_emod (h*18446744073709551616+l) y
       rw [z1,Int.mul_comm] at this
       omega
     rw [z1,z2] at k
     exact k
   have mid:∀ q:Int,DG Y u un1 q→∀ (X:Int→Int→Int→Int→Int→Int→Int→Int→Int→Bool→Prop),(∀ q0 r0 b0,DG Y (u*4294967296+un1-q*Y) un0 q0→X Y m c d un0 q r0 (u*4294967296+un1-q*Y) q0 b0) →
       asr (!(decide (c=(0:Int)))) (∃ n:Nat,ydZ ybe X X n Y m c d un0 q ((IntKind.u64.wrap ((IntKind.u64.wrap ((IntKind.u64.wrap ((IntKind.u64.wrap (u*(4294967296:Int)))+un1))-(IntKind.u64.wrap (q*Y))))-(IntKind.u64.wrap ((IntKind.u64.wrap (Int.tdiv (IntKind.u64.wrap ((IntKind.u64.wrap ((IntKind.u64.wrap (u*(4294967296:Int)))+un1))-(IntKind.u64.wrap (q*Y)))) c))*c))))) (IntKind.u64.wrap ((IntKind.u64.wrap ((IntKind.u64.wrap (u*(4294967296:Int)))+un1))-(IntKind.u64.wrap (q*Y)))) (IntKind.u64.wrap (Int.tdiv (IntKind.u64.wrap ((IntKind.u64.wrap ((IntKind.u64.wrap (u*(4294967296:Int)))+un1))-(IntKind.u64.wrap (q*Y)))) c))):=by
     intro q G X hX
     obtain ⟨a1,a2,a3,a4⟩:=G
     have s1:(q+1)*Y=q*Y+Y:=by grind
     have b8:(!(decide (c=(0:Int))))=true:=by rw [decide_eq_false (by omega)];rfl
     rw [b8,yaj,yBc (by omega) (by omega),yjv (by omega)]
     have g0:=DI.init dY d1 d0 dn0 (u:=u*4294967296+un1-q*Y) (by omega) (by omega)
     generalize u*4294967296+un1-q*Y=u2 at *
     have x1:IntKind.u64.wrap (u2 / c)=u2 / c:=wu64 ⟨g0.hq.1,by have:=g0.hq.2;omega⟩
     have x2:IntKind.u64.wrap (u2-IntKind.u64.wrap (u2 / c*c))=u2-u2 / c*c:=by
       have r1:=g0.hr.1
       have r2:0≤u2 / c*c:=Int.mul_nonneg g0.hq.1 (by omega)
       have r3:=g0.hr.2
       have r4:=g0.hlt
       rw [wu64 (n:=u2 / c*c) ⟨r2,by omega⟩,wu64 ⟨r1,by omega⟩]
     rw [x1,x2]
     exact ⟨3,yFP _ _ _ _ (fun q0 r0 b0 g=>hX q0 r0 b0 g) (fun q0 r0 b0 g=>hX q0 r0 b0 g) _ _ g0⟩
   have leaf:∀ {P:Prop},P→asr (!(decide ((m:Int)<0))) P:=fun p=>by rw [b5,yaj];exact p
   refine ⟨3,yFO _ _ _ _ (fun q r b G=>?_) (fun q r b G=>?_) _ _ g1⟩
   · exact mid q G _ (fun q0 r0 b0 G0=>leaf (fin q G _ rfl q0 G0))
   · exact mid q G _ (fun q0 r0 b0 G0=>leaf (fin q G _ rfl q0 G0))
end Go.Pf.Vc
namespace Go.Pf.Vc
open Go Go.Pf
theorem yDn {h l y:Int} (hh:U64 h) (hl:U64 l) (hy:U64 y) (h0:0<y) {K:Int→Prop}
   (k:K ((h*18446744073709551616+l) % y)):yf4 h l y K:=by
 unfold yf4 yoz
 have b3:(!(decide (y=(0:Int))))=true:=by rw [decide_eq_false (by omega)];rfl
 have a1:=Int.emod_nonneg h (show y≠0 by omega)
 have a2:=Int.emod_lt_of_pos h h0
 have hh':=hh
 unfold U64 at hh hy
 rw [b3,yaj,yFl hh.1]
 refine yyV ⟨a1,by omega⟩ hl ⟨by omega,by omega⟩ a2 ?_
 have e:(h % y*18446744073709551616+l) % y=(h*18446744073709551616+l) % y:=by
   rw [Int.add_emod,Int.mul_emod,Int.emod_emod,← Int.mul_emod,← Int.add_emod]
 rw [e]
 exact k
def outS (s:Bool) (a b:Int) (K:Int→Int→Int→Prop):Prop :=
 if a≤1000000000000000000∧b≤1000000000000000000 then K (if s then -a else a) b 0 else K 0 0 16
theorem ymK {s:Bool} {a b:Int} (ha:0≤a) (hb:0≤b) (K:Int→Int→Int→Prop):ybL s a b K=outS s a b K:=by
 unfold ybL ygM outS
 by_cases h:a≤1000000000000000000∧b≤1000000000000000000
 · have e:decide ((if b>a then b else a)>(1000000000000000000:Int))=false:=by
     refine decide_eq_false ?_
     split <;> omega
   have w1:IntKind.i64.wrap a=a:=wi64 ⟨by omega,by omega⟩
   have w2:IntKind.i64.wrap b=b:=wi64 ⟨by omega,by omega⟩
   have w3:IntKind.i64.wrap (0-a)=-a:=by rw [wi64 ⟨by omega,by omega⟩];omega
   rw [e,yac,if_pos h,w1,w2,w3]
   cases s
   · rfl
   · rfl
 · have e:decide ((if b>a then b else a)>(1000000000000000000:Int))=true:=by
     refine decide_eq_true ?_
     split <;> omega
   rw [e,yaf,if_neg h]
theorem yEM {n d:Int} (hn:I64 n) (hd:I64 d) {K:Int→Int→Int→Prop}
   (k:if d=0 then K 0 0 18 else outS (decide (n<0) != decide (d<0)) ((n.natAbs / Nat.gcd n.natAbs d.natAbs:Nat):Int) ((d.natAbs / Nat.gcd n.natAbs d.natAbs:Nat):Int) K):ydM n d K:=by
 unfold ydM yiw
 by_cases h:d=0
 · rw [if_pos h] at k
   have:(d ==(0:Int))=true:=beq_iff_eq.2 h
   rw [this,yaf]
   exact k
 · rw [if_neg h] at k
   have:(d ==(0:Int))=false:=beq_eq_false_iff_ne.2 h
   rw [this,yac,ygq hn,ygq hd]
   refine yq0 _ _ _ ?_
   have gp:0<Nat.gcd n.natAbs d.natAbs:=Nat.gcd_pos_of_pos_right _ (by omega)
   have b3:(!(decide (((Nat.gcd n.natAbs d.natAbs:Nat):Int)=(0:Int))))=true:=by rw [decide_eq_false (by omega)];rfl
   unfold I64 at hn hd
   have u1:n.natAbs / Nat.gcd n.natAbs d.natAbs≤n.natAbs:=Nat.div_le_self _ _
   have u2:d.natAbs / Nat.gcd n.natAbs d.natAbs≤d.natAbs:=Nat.div_le_self _ _
   rw [b3,yaj,yaj,yjv (by omega),yjv (by omega),← Int.natCast_ediv,← Int.natCast_ediv]
   generalize n.natAbs / Nat.gcd n.natAbs d.natAbs=A at *
   generalize d.natAbs / Nat.gcd n.natAbs d.natAbs=B at *
   rw [wu64 (n:=(A:Int)) ⟨by omega,by omega⟩,wu64 (n:=(B:Int)) ⟨by omega,by omega⟩,ymK (by omega) (by omega)]
   exact k
end Go.Pf.Vc
namespace Go.Pf.Vc
open Go Go.Pf
def numM (a c:Int) (b d:Int):Nat:=(a.natAbs / Nat.gcd a.natAbs d.natAbs)*(c.natAbs / Nat.gcd c.natAbs b.natAbs)
def denM (a c:Int) (b d:Int):Nat:=(b.natAbs / Nat.gcd c.natAbs b.natAbs)*(d.natAbs / Nat.gcd a.natAbs d.natAbs)
theorem yAq {a b c d:Int} (ha:I64 a) (hb:I64 b) (hc:I64 c) (hd:I64 d) {K:Int→Int→Int→Prop}
   (k:if chk2 a b c d=0 then outS (decide (a<0) != decide (c<0)) (numM a c b d) (denM a c b d) K else K 0 0 (chk2 a b c d)):ya6 a b c d K:=by
 unfold ya6 ykq
 refine ymm ha hb hc hd ?_
 by_cases h:chk2 a b c d=0
 · rw [if_pos h] at k
   have:(chk2 a b c d !=(0:Int))=false:=by rw [h];rfl
   rw [this,yac,ygq ha,ygq hc]
   obtain ⟨⟨b1,b2,a1,a2,_⟩,d1,d2,c1,c2,_⟩:=yeA.1 h
   have wb:IntKind.u64.wrap b=((b.natAbs:Nat):Int):=by rw [wu64 ⟨by omega,by omega⟩];omega
   have wd:IntKind.u64.wrap d=((d.natAbs:Nat):Int):=by rw [wu64 ⟨by omega,by omega⟩];omega
   rw [wb,wd]
   refine yq0 _ _ _ (yq0 _ _ _ ?_)
   unfold numM denM at k
   have g1:0<Nat.gcd a.natAbs d.natAbs:=Nat.gcd_pos_of_pos_right _ (by omega)
   have g2:0<Nat.gcd c.natAbs b.natAbs:=Nat.gcd_pos_of_pos_right _ (by omega)
   obtain ⟨g3,h3⟩:∃ g,g=Nat.gcd a.natAbs d.natAbs:=⟨_,rfl⟩
   obtain ⟨g4,h4⟩:∃ g,g=Nat.gcd c.natAbs b.natAbs:=⟨_,rfl⟩
   rw [← h3,← h4] at k ⊢
   rw [← h3] at g1;rw [← h4] at g2
   have n3:(!(decide ((g3:Int)=(0:Int))))=true:=by rw [decide_eq_false (by omega)];rfl
   have n4:(!(decide ((g4:Int)=(0:Int))))=true:=by rw [decide_eq_false (by omega)];rfl
   rw [n3,n4,yaj,yaj,yjv (by omega),yjv (by omega),yjv (by omega),yjv (by omega),← Int.natCast_ediv,← Int.natCast_ediv,← Int.natCast_ediv,← Int.natCast_ediv]
   have q1:a.natAbs / g3≤a.natAbs:=Nat.div_le_self _ _
   have q2:c.natAbs / g4≤c.natAbs:=Nat.div_le_self _ _
   have q3:b.natAbs / g4≤b.natAbs:=Nat.div_le_self _ _
   have q4:d.natAbs / g3≤d.natAbs:=Nat.div_le_self _ _
   generalize a.natAbs / g3=A at *
   generalize c.natAbs / g4=C at *
   generalize b.natAbs / g4=B at *
   generalize d.natAbs / g3=D at *
   rw [wu64 (n:=(A:Int)) ⟨by omega,by omega⟩,wu64 (n:=(C:Int)) ⟨by omega,by omega⟩,wu64 (n:=(B:Int)) ⟨by omega,by omega⟩,wu64 (n:=(D:Int)) ⟨by omega,by omega⟩,
     yhZ ⟨by omega,by omega⟩ ⟨by omega,by omega⟩,yaj,yaj,yhZ ⟨by omega,by omega⟩ ⟨by omega,by omega⟩]
   have m1:A*C≤1000000000000000000*1000000000000000000:=Nat.mul_le_mul (by omega) (by omega)
   have m2:B*D≤1000000000000000000*1000000000000000000:=Nat.mul_le_mul (by omega) (by omega)
   rw [← Int.natCast_mul,← Int.natCast_mul]
   generalize A*C=M at *
   generalize B*D=N at *
   have wm:IntKind.u64.wrap ((M:Int) / 18446744073709551616+(N:Int) / 18446744073709551616)=(M:Int) / 18446744073709551616+(N:Int) / 18446744073709551616:=wu64 ⟨by omega,by omega⟩
   rw [wm]
   by_cases hb:(M:Int) / 18446744073709551616+(N:Int) / 18446744073709551616>0
   · rw [decide_eq_true hb,yaf]
     unfold outS at k
     rw [if_neg (by omega)] at k
     exact k
   · rw [decide_eq_false hb,yac]
     have eM:(M:Int) % 18446744073709551616=M:=by omega
     have eN:(N:Int) % 18446744073709551616=N:=by omega
     rw [eM,eN]
     by_cases h0:(M:Int)>0
     · rw [decide_eq_true h0,yaf,ymK (by omega) (by omega)]
       exact k
     · rw [decide_eq_false h0,yac,ymK (by omega) (by omega)]
       have hz:M=0:=by omega
       subst hz
       unfold outS at k ⊢
       by_cases hN:(N:Int)≤1000000000000000000
       · rw [if_pos ⟨by omega,hN⟩] at k ⊢
         have e:(if (decide (a<0) != decide (c<0))=true then -((0:Nat):Int) else ((0:Nat):Int))=0:=by split <;> rfl
         rw [e] at k
         exact k
       · rw [if_neg (by omega)] at k ⊢
         exact k
 · rw [if_neg h] at k
   have:(chk2 a b c d !=(0:Int))=true:=by rw [bne_iff_ne];exact h
   rw [this,yaf]
   exact k
theorem RV.swap {c d:Int} (h:RV c d) (h0:0<c):RV d c:=by
 obtain ⟨d1,d2,c1,c2,g⟩:=h
 exact ⟨by omega,c2,by omega,d2,by rw [Nat.gcd_comm];exact g⟩
theorem RV.swapn {c d:Int} (h:RV c d) (h0:c<0):RV (-d) (-c):=by
 obtain ⟨d1,d2,c1,c2,g⟩:=h
 exact ⟨by omega,by omega,by omega,by omega,by rw [Int.natAbs_neg,Int.natAbs_neg,Nat.gcd_comm];exact g⟩
theorem yFQ {a b c d:Int} (ha:I64 a) (hb:I64 b) (hc:I64 c) (hd:I64 d) {K:Int→Int→Int→Prop}
   (k:if chk2 a b c d=0 then (if c=0 then K 0 0 18 else outS (decide (a<0) != decide (c<0)) (numM a d b c) (denM a d b c) K) else K 0 0 (chk2 a b c d)):ycd a b c d K:=by
 unfold ycd ykr
 refine ymm ha hb hc hd ?_
 by_cases h:chk2 a b c d=0
 · rw [if_pos h] at k
   have:(chk2 a b c d !=(0:Int))=false:=by rw [h];rfl
   rw [this,yac]
   obtain ⟨hab,hcd⟩:=yeA.1 h
   obtain ⟨d1,d2,c1,c2,_⟩:=id hcd
   by_cases h0:c=0
   · rw [if_pos h0] at k
     have:(c ==(0:Int))=true:=beq_iff_eq.2 h0
     rw [this,yaf]
     exact k
   · rw [if_neg h0] at k
     have:(c ==(0:Int))=false:=beq_eq_false_iff_ne.2 h0
     rw [this,yac]
     by_cases hn:c<0
     · rw [decide_eq_true hn] at k
       rw [decide_eq_true hn,yaf,wi64 (n:=0-d) ⟨by omega,by omega⟩,wi64 (n:=0-c) ⟨by omega,by omega⟩,Int.zero_sub,Int.zero_sub]
       have e:chk2 a b (-d) (-c)=0:=yeA.2 ⟨hab,hcd.swapn hn⟩
       refine yAq ha hb ⟨by omega,by omega⟩ ⟨by omega,by omega⟩ ?_
       rw [if_pos e,decide_eq_true (show -d<0 by omega)]
       unfold numM denM at k ⊢
       rw [Int.natAbs_neg,Int.natAbs_neg]
       exact k
     · rw [decide_eq_false hn] at k
       rw [decide_eq_false hn,yac]
       have e:chk2 a b d c=0:=yeA.2 ⟨hab,hcd.swap (by omega)⟩
       refine yAq ha hb hd hc ?_
       rw [if_pos e,decide_eq_false (show ¬d<0 by omega)]
       exact k
 · rw [if_neg h] at k
   have:(chk2 a b c d !=(0:Int))=true:=by rw [bne_iff_ne];exact h
   rw [this,yaf]
   exact k
end Go.Pf.Vc
namespace Go.Pf.Vc
open Go Go.Pf
theorem yEN {s:Bool} {hi lo p1 p3:Int} {g:Nat} (hh:U64 hi) (hl:U64 lo) (hg:0<g) (g1:(g:Int)≤1000000000000000000)
    (h1:0≤p1∧p1≤1000000000000000000) (h3:0≤p3∧p3≤1000000000000000000) {K:Int→Int→Int→Prop}
    (k:outS s (((hi*18446744073709551616+lo).toNat / Nat.gcd (hi*18446744073709551616+lo).toNat g:Nat):Int)
      (((p1.toNat / g)*(p3.toNat / Nat.gcd (hi*18446744073709551616+lo).toNat g):Nat):Int) K) :
    (yf4 hi lo (g:Int) (fun (b:Int) =>
 (ybV b (g:Int) (fun (a:Int) =>
 (cbr (decide (hi≥a))
 (K (0:Int) (0:Int) (16:Int))
 (yfj hi lo a (fun (c:Int) (_:Int) =>
 (asr (!(decide ((g:Int)=(0:Int))))
 (asr (!(decide (a=(0:Int))))
 (yev (IntKind.u64.wrap (Int.tdiv (IntKind.u64.wrap p1) (g:Int))) (IntKind.u64.wrap (Int.tdiv (IntKind.u64.wrap p3) a)) (fun (d:Int) (e:Int) =>
 (cbr (decide (d>(0:Int)))
 (K (0:Int) (0:Int) (16:Int))
 (ybL s c e (fun (f:Int) (h:Int) (i:Int) =>
 (K f h i))))))))))))))):=by
  unfold U64 at hh hl
  obtain ⟨X,hX⟩:∃ X:Nat,X=(hi*18446744073709551616+lo).toNat:=⟨_,rfl⟩
  have eX:hi*18446744073709551616+lo=(X:Int):=by omega
  rw [← hX] at k
  refine yDn hh hl ⟨by omega,by omega⟩ (by omega) ?_
  rw [eX,← Int.natCast_emod]
  refine yq0 _ _ _ ?_
  have eg:Nat.gcd (X % g) g=Nat.gcd X g:=by rw [Nat.gcd_comm,Nat.gcd_comm X,Nat.gcd_rec g X,Nat.gcd_comm]
  rw [eg]
  have gp:0<Nat.gcd X g:=Nat.gcd_pos_of_pos_right _ hg
  have gl:Nat.gcd X g≤g:=Nat.le_of_dvd hg (Nat.gcd_dvd_right _ _)
  generalize Nat.gcd X g=G at *
  by_cases hb:hi≥(G:Int)
  · rw [decide_eq_true hb,yaf]
    unfold outS at k
    have:18446744073709551616≤X / G:=by
      rw [Nat.le_div_iff_mul_le gp]
      omega
    rw [if_neg (by omega)] at k
    exact k
  · rw [decide_eq_false hb,yac]
    refine yyV hh hl ⟨by omega,by omega⟩ (by omega) ?_
    rw [eX]
    have n3:(!(decide ((g:Int)=(0:Int))))=true:=by rw [decide_eq_false (by omega)];rfl
    have n4:(!(decide ((G:Int)=(0:Int))))=true:=by rw [decide_eq_false (by omega)];rfl
    have e1:IntKind.u64.wrap p1=(p1.toNat:Int):=by rw [wu64 ⟨by omega,by omega⟩];omega
    have e3:IntKind.u64.wrap p3=(p3.toNat:Int):=by rw [wu64 ⟨by omega,by omega⟩];omega
    rw [n3,n4,yaj,yaj,e1,e3,yjv (by omega),yjv (by omega),← Int.natCast_ediv,← Int.natCast_ediv,← Int.natCast_ediv]
    have q1:p1.toNat / g≤p1.toNat:=Nat.div_le_self _ _
    have q3:p3.toNat / G≤p3.toNat:=Nat.div_le_self _ _
    generalize p1.toNat / g=A at *
    generalize p3.toNat / G=B at *
    generalize X / G=N at *
    rw [wu64 (n:=(A:Int)) ⟨by omega,by omega⟩,wu64 (n:=(B:Int)) ⟨by omega,by omega⟩,yhZ ⟨by omega,by omega⟩ ⟨by omega,by omega⟩,← Int.natCast_mul]
    generalize A*B=D at *
    by_cases hd:((D:Int) / 18446744073709551616)>0
    · rw [decide_eq_true hd,yaf]
      unfold outS at k
      rw [if_neg (by omega)] at k
      exact k
    · rw [decide_eq_false hd,yac]
      have eD:(D:Int) % 18446744073709551616=D:=by omega
      rw [eD,ymK (by omega) (by omega)]
      exact k
end Go.Pf.Vc
namespace Go.Pf.Vc
open Go Go.Pf
theorem yyW {p q c:Int} {K:Int→Int→Prop} (hc:c.toNat≤1) (k:K (((p.toNat+q.toNat+c.toNat) % 18446744073709551616:Nat):Int) (((p.toNat+q.toNat+c.toNat) / 18446744073709551616:Nat):Int)):yhq p q c K:=by
 unfold yhq
 rw [decide_eq_true hc,yaj]
 exact k
theorem yyX {p q c:Int} {K:Int→Int→Prop} (hc:c.toNat≤1) (k:K (((p.toNat+18446744073709551616-q.toNat-c.toNat) % 18446744073709551616:Nat):Int) ((if q.toNat+c.toNat≤p.toNat then 0 else 1:Nat):Int)):yhr p q c K:=by
 unfold yhr
 rw [decide_eq_true hc,yaj]
 have e:(bif Nat.ble (q.toNat+c.toNat) p.toNat then 0 else 1:Nat)=(if q.toNat+c.toNat≤p.toNat then 0 else 1:Nat):=by
   by_cases h:q.toNat+c.toNat≤p.toNat
   · rw [if_pos h,show Nat.ble (q.toNat+c.toNat) p.toNat=true from Nat.ble_eq_true_of_le h];rfl
   · rw [if_neg h]
     cases hb:Nat.ble (q.toNat+c.toNat) p.toNat
     · rfl
     · exact absurd (Nat.le_of_ble_eq_true hb) h
 rw [e]
 exact k
theorem yDo {X Y:Int} (hx:0≤X) (hy:0≤Y) (hs:X+Y<340282366920938463463374607431768211456) {F:Int→Int→Int→Int→Prop}
   (h:∀ c1 c2,F ((X+Y) % 18446744073709551616) c1 ((X+Y) / 18446744073709551616) c2) :
   yhq (X % 18446744073709551616) (Y % 18446744073709551616) 0 (fun lo c1=>yhq (X / 18446744073709551616) (Y / 18446744073709551616) c1 (fun hi c2=>F lo c1 hi c2)):=by
 obtain ⟨x,rfl⟩:∃ x:Nat,X=x:=⟨X.toNat,by omega⟩
 obtain ⟨y,rfl⟩:∃ y:Nat,Y=y:=⟨Y.toNat,by omega⟩
 refine yyW (by decide) (yyW (by omega) ?_)
 have e1:(((((x:Int) % 18446744073709551616).toNat+((y:Int) % 18446744073709551616).toNat+(0:Int).toNat) % 18446744073709551616:Nat):Int)=((x:Int)+y) % 18446744073709551616:=by omega
 have e2:(((((x:Int) / 18446744073709551616).toNat+((y:Int) / 18446744073709551616).toNat+(((((x:Int) % 18446744073709551616).toNat+((y:Int) % 18446744073709551616).toNat+(0:Int).toNat) / 18446744073709551616:Nat):Int).toNat) % 18446744073709551616:Nat):Int)=((x:Int)+y) / 18446744073709551616:=by omega
 rw [e1,e2]
 exact h _ _
theorem ypT {X Y:Int} (hy:0≤Y) (hxy:Y≤X) (hs:X<340282366920938463463374607431768211456) {F:Int→Int→Int→Int→Prop}
   (h:∀ c1 c2,F ((X-Y) % 18446744073709551616) c1 ((X-Y) / 18446744073709551616) c2) :
   yhr (X % 18446744073709551616) (Y % 18446744073709551616) 0 (fun lo c1=>yhr (X / 18446744073709551616) (Y / 18446744073709551616) c1 (fun hi c2=>F lo c1 hi c2)):=by
 obtain ⟨x,rfl⟩:∃ x:Nat,X=x:=⟨X.toNat,by omega⟩
 obtain ⟨y,rfl⟩:∃ y:Nat,Y=y:=⟨Y.toNat,by omega⟩
 refine yyX (by decide) (yyX (by split <;> omega) ?_)
 have e1:(((((x:Int) % 18446744073709551616).toNat+18446744073709551616-((y:Int) % 18446744073709551616).toNat-(0:Int).toNat) % 18446744073709551616:Nat):Int)=((x:Int)-y) % 18446744073709551616:=by omega
 rw [e1]
 by_cases hb:((y:Int) % 18446744073709551616).toNat+(0:Int).toNat≤((x:Int) % 18446744073709551616).toNat
 · rw [if_pos hb]
   have e2:(((((x:Int) / 18446744073709551616).toNat+18446744073709551616-((y:Int) / 18446744073709551616).toNat-((0:Nat):Int).toNat) % 18446744073709551616:Nat):Int)=((x:Int)-y) / 18446744073709551616:=by omega
   rw [e2]
   exact h _ _
 · rw [if_neg hb]
   have e2:(((((x:Int) / 18446744073709551616).toNat+18446744073709551616-((y:Int) / 18446744073709551616).toNat-((1:Nat):Int).toNat) % 18446744073709551616:Nat):Int)=((x:Int)-y) / 18446744073709551616:=by omega
   rw [e2]
   exact h _ _
end Go.Pf.Vc
namespace Go.Pf.Vc
open Go Go.Pf
def outA (s:Bool) (Z p1 p3:Int) (g:Nat) (K:Int→Int→Int→Prop):Prop :=
 if Z=0 then K 0 1 0 else outS s ((Z.toNat / Nat.gcd Z.toNat g:Nat):Int) (((p1.toNat / g)*(p3.toNat / Nat.gcd Z.toNat g):Nat):Int) K
theorem yt0 {s:Bool} {Z p1 p3:Int} {g:Nat} (hz:0≤Z) (hz2:Z<340282366920938463463374607431768211456) (hg:0<g) (g1:(g:Int)≤1000000000000000000)
    (h1:0≤p1∧p1≤1000000000000000000) (h3:0≤p3∧p3≤1000000000000000000) {K:Int→Int→Int→Prop}
    (k:outA s Z p1 p3 g K) :
    cbr (Z / 18446744073709551616 ==(0:Int)) (cbr (Z % 18446744073709551616 ==(0:Int)) (K 0 1 0) (yf4 (Z / 18446744073709551616) (Z % 18446744073709551616) (g:Int) (fun (b:Int) =>
 (ybV b (g:Int) (fun (a:Int) =>
 (cbr (decide ((Z / 18446744073709551616)≥a))
 (K (0:Int) (0:Int) (16:Int))
 (yfj (Z / 18446744073709551616) (Z % 18446744073709551616) a (fun (c:Int) (_:Int) =>
 (asr (!(decide ((g:Int)=(0:Int))))
 (asr (!(decide (a=(0:Int))))
 (yev (IntKind.u64.wrap (Int.tdiv (IntKind.u64.wrap p1) (g:Int))) (IntKind.u64.wrap (Int.tdiv (IntKind.u64.wrap p3) a)) (fun (d:Int) (e:Int) =>
 (cbr (decide (d>(0:Int)))
 (K (0:Int) (0:Int) (16:Int))
 (ybL s c e (fun (f:Int) (h:Int) (i:Int) =>
 (K f h i)))))))))))))))) (yf4 (Z / 18446744073709551616) (Z % 18446744073709551616) (g:Int) (fun (b:Int) =>
 (ybV b (g:Int) (fun (a:Int) =>
 (cbr (decide ((Z / 18446744073709551616)≥a))
 (K (0:Int) (0:Int) (16:Int))
 (yfj (Z / 18446744073709551616) (Z % 18446744073709551616) a (fun (c:Int) (_:Int) =>
 (asr (!(decide ((g:Int)=(0:Int))))
 (asr (!(decide (a=(0:Int))))
 (yev (IntKind.u64.wrap (Int.tdiv (IntKind.u64.wrap p1) (g:Int))) (IntKind.u64.wrap (Int.tdiv (IntKind.u64.wrap p3) a)) (fun (d:Int) (e:Int) =>
 (cbr (decide (d>(0:Int)))
 (K (0:Int) (0:Int) (16:Int))
 (ybL s c e (fun (f:Int) (h:Int) (i:Int) =>
 (K f h i))))))))))))))):=by
  unfold outA at k
  have eZ:Z / 18446744073709551616*18446744073709551616+Z % 18446744073709551616=Z:=by omega
  by_cases h0:Z=0
  · rw [if_pos h0] at k
    subst h0
    have e1:((0:Int) / 18446744073709551616 ==(0:Int))=true:=by decide
    have e2:((0:Int) % 18446744073709551616 ==(0:Int))=true:=by decide
    rw [e1,yaf,e2,yaf]
    exact k
  · rw [if_neg h0] at k
    have t:=yEN (s:=s) (hi:=Z / 18446744073709551616) (lo:=Z % 18446744073709551616) (p1:=p1) (p3:=p3) (g:=g) (K:=K) ⟨by omega,by omega⟩ ⟨by omega,by omega⟩ hg g1 h1 h3 (by rw [eZ];exact k)
    cases h4:(Z / 18446744073709551616 ==(0:Int))
    · rw [yac];exact t
    · rw [yaf]
      cases h2:(Z % 18446744073709551616 ==(0:Int))
      · rw [yac];exact t
      · have:=beq_iff_eq.1 h2
        have:=beq_iff_eq.1 h4
        exact absurd (show Z=0 by omega) h0
theorem yoH {s s':Bool} {Z Z' p1 p3:Int} {g:Nat} {K:Int→Int→Int→Prop} (k:outA s' Z' p1 p3 g K) (hz:Z=Z') (hs:Z≠0→s=s'):outA s Z p1 p3 g K:=by
 subst hz
 unfold outA at k ⊢
 by_cases h:Z=0
 · rw [if_pos h] at k ⊢;exact k
 · rw [if_neg h] at k ⊢;rw [hs h];exact k
theorem yDp {a b c d:Int} (ha:I64 a) (hb:I64 b) (hc:I64 c) (hd:I64 d) {K:Int→Int→Int→Prop}
   (k:if chk2 a b c d=0 then outA (decide (a*(d / (Nat.gcd b.natAbs d.natAbs:Nat))+c*(b / (Nat.gcd b.natAbs d.natAbs:Nat))<0))
       ((a*(d / (Nat.gcd b.natAbs d.natAbs:Nat))+c*(b / (Nat.gcd b.natAbs d.natAbs:Nat))).natAbs:Int) b d (Nat.gcd b.natAbs d.natAbs) K
     else K 0 0 (chk2 a b c d)):ya5 a b c d K:=by
 unfold ya5 yko
 refine ymm ha hb hc hd ?_
 by_cases h:chk2 a b c d=0
 · rw [if_pos h] at k
   have:(chk2 a b c d !=(0:Int))=false:=by rw [h];rfl
   rw [this,yac]
   obtain ⟨⟨b1,b2,a1,a2,_⟩,d1,d2,c1,c2,_⟩:=yeA.1 h
   have wb:IntKind.u64.wrap b=((b.natAbs:Nat):Int):=by rw [wu64 ⟨by omega,by omega⟩];omega
   have wd:IntKind.u64.wrap d=((d.natAbs:Nat):Int):=by rw [wu64 ⟨by omega,by omega⟩];omega
   have g1:0<Nat.gcd b.natAbs d.natAbs:=Nat.gcd_pos_of_pos_right _ (by omega)
   have g2:Nat.gcd b.natAbs d.natAbs≤d.natAbs:=Nat.le_of_dvd (by omega) (Nat.gcd_dvd_right _ _)
   have go:ybV (IntKind.u64.wrap b) (IntKind.u64.wrap d)=ybV ((b.natAbs:Nat):Int) ((d.natAbs:Nat):Int):=by rw [wb,wd]
   rw [go]
   refine yq0 _ _ _ ?_
   generalize Nat.gcd b.natAbs d.natAbs=g at *
   have n3:(!(decide ((g:Int)=(0:Int))))=true:=by rw [decide_eq_false (by omega)];rfl
   have q1:0≤b / (g:Int):=Int.ediv_nonneg (by omega) (by omega)
   have q2:0≤d / (g:Int):=Int.ediv_nonneg (by omega) (by omega)
   have q3:b / (g:Int)≤b:=Int.ediv_le_self _ (by omega)
   have q4:d / (g:Int)≤d:=Int.ediv_le_self _ (by omega)
   have ed:IntKind.u64.wrap (Int.tdiv (IntKind.u64.wrap d) (g:Int))=d / (g:Int):=by
     rw [wu64 (n:=d) ⟨by omega,by omega⟩,yjv (by omega),wu64 ⟨by omega,by omega⟩]
   have eb:IntKind.u64.wrap (Int.tdiv (IntKind.u64.wrap b) (g:Int))=b / (g:Int):=by
     rw [wu64 (n:=b) ⟨by omega,by omega⟩,yjv (by omega),wu64 ⟨by omega,by omega⟩]
   have yiS:∀ {c:Bool} {P:Prop},c=true→P→asr c P:=fun h p=>by rw [h,yaj];exact p
   rw [ygq ha]
   refine yiS n3 ?_
   rw [yhZ (U64.abs ha) (by rw [ed];exact ⟨by omega,by omega⟩),ygq hc]
   refine yiS n3 ?_
   rw [yhZ (U64.abs hc) (by rw [eb];exact ⟨by omega,by omega⟩)]
   obtain ⟨X,hX⟩:∃ X,X=((a.natAbs:Nat):Int)*IntKind.u64.wrap (Int.tdiv (IntKind.u64.wrap d) (g:Int)):=⟨_,rfl⟩
   obtain ⟨Y,hY⟩:∃ Y,Y=((c.natAbs:Nat):Int)*IntKind.u64.wrap (Int.tdiv (IntKind.u64.wrap b) (g:Int)):=⟨_,rfl⟩
   rw [← hX,← hY]
   rw [ed] at hX;rw [eb] at hY
   have X0:0≤X:=by rw [hX];exact Int.mul_nonneg (by omega) q2
   have Y0:0≤Y:=by rw [hY];exact Int.mul_nonneg (by omega) q1
   have X1:X≤1000000000000000000*1000000000000000000:=by rw [hX];exact Int.mul_le_mul (by omega) (by omega) q2 (by omega)
   have Y1:Y≤1000000000000000000*1000000000000000000:=by rw [hY];exact Int.mul_le_mul (by omega) (by omega) q1 (by omega)
   have ax:a*(d / (g:Int))=if a<0 then -X else X:=by
     split
     · rw [hX,show ((a.natAbs:Nat):Int)=-a by omega,Int.neg_mul,Int.neg_neg]
     · rw [hX,show ((a.natAbs:Nat):Int)=a by omega]
   have cy:c*(b / (g:Int))=if c<0 then -Y else Y:=by
     split
     · rw [hY,show ((c.natAbs:Nat):Int)=-c by omega,Int.neg_mul,Int.neg_neg]
     · rw [hY,show ((c.natAbs:Nat):Int)=c by omega]
   rw [ax,cy] at k
   clear hX hY ax cy ed eb n3
   by_cases hs:decide (a<0)=decide (c<0)
   · have e:(decide (a<0) == decide (c<0))=true:=beq_iff_eq.2 hs
     rw [e,yaf]
     refine yDo X0 Y0 (by omega) (fun c1 c2=>?_)
     refine yt0 (by omega) (by omega) g1 (by omega) ⟨by omega,b2⟩ ⟨by omega,d2⟩ (yoH k ?_ ?_)
     · by_cases h1:a<0
       · have h2:c<0:=by simpa [h1] using hs.symm
         rw [if_pos h1,if_pos h2];omega
       · have h2:¬c<0:=by simpa [h1] using hs.symm
         rw [if_neg h1,if_neg h2];omega
     · intro h0
       by_cases h1:a<0
       · have h2:c<0:=by simpa [h1] using hs.symm
         rw [if_pos h1,if_pos h2,decide_eq_true h1,decide_eq_true (by omega)]
       · have h2:¬c<0:=by simpa [h1] using hs.symm
         rw [if_neg h1,if_neg h2,decide_eq_false h1,decide_eq_false (by omega)]
   · have e:(decide (a<0) == decide (c<0))=false:=beq_eq_false_iff_ne.2 hs
     rw [e,yac]
     have h12:(a<0∧¬c<0)∨(¬a<0∧c<0):=by
       by_cases h1:a<0 <;> by_cases h2:c<0 <;> simp [h1,h2] at hs ⊢
     by_cases hlt:X<Y
     · have kk:outA (!decide (a<0)) (Y-X) b d g K:=by
         refine yoH k ?_ ?_
         · rcases h12 with ⟨h1,h2⟩ | ⟨h1,h2⟩
           · rw [if_pos h1,if_neg h2];omega
           · rw [if_neg h1,if_pos h2];omega
         · intro h0
           rcases h12 with ⟨h1,h2⟩ | ⟨h1,h2⟩
           · rw [if_pos h1,if_neg h2,decide_eq_true h1,decide_eq_false (by omega)];rfl
           · rw [if_neg h1,if_pos h2,decide_eq_false h1,decide_eq_true (by omega)];rfl
       by_cases h1:X / 18446744073709551616<Y / 18446744073709551616
       · rw [decide_eq_true h1,yaf]
         refine ypT X0 (by omega) (by omega) (fun c1 c2=>?_)
         exact yt0 (by omega) (by omega) g1 (by omega) ⟨by omega,b2⟩ ⟨by omega,d2⟩ kk
       · have e1:(X / 18446744073709551616 == Y / 18446744073709551616)=true:=beq_iff_eq.2 (by omega)
         rw [decide_eq_false h1,yac,e1,yaf,decide_eq_true (show X % 18446744073709551616<Y % 18446744073709551616 by have:=beq_iff_eq.1 e1;omega),yaf]
         refine ypT X0 (by omega) (by omega) (fun c1 c2=>?_)
         exact yt0 (by omega) (by omega) g1 (by omega) ⟨by omega,b2⟩ ⟨by omega,d2⟩ kk
     · have kk:outA (decide (a<0)) (X-Y) b d g K:=by
         refine yoH k ?_ ?_
         · rcases h12 with ⟨h1,h2⟩ | ⟨h1,h2⟩
           · rw [if_pos h1,if_neg h2];omega
           · rw [if_neg h1,if_pos h2];omega
         · intro h0
           rcases h12 with ⟨h1,h2⟩ | ⟨h1,h2⟩
           · rw [if_pos h1,if_neg h2,decide_eq_true h1,decide_eq_true (by omega)]
           · rw [if_neg h1,if_pos h2,decide_eq_false h1,decide_eq_false (by omega)]
       have h1:¬X / 18446744073709551616<Y / 18446744073709551616:=by omega
       rw [decide_eq_false h1,yac]
       cases e1:(X / 18446744073709551616 == Y / 18446744073709551616)
       · rw [yac]
         refine ypT Y0 (by omega) (by omega) (fun c1 c2=>?_)
         exact yt0 (by omega) (by omega) g1 (by omega) ⟨by omega,b2⟩ ⟨by omega,d2⟩ kk
       · rw [yaf,decide_eq_false (show ¬X % 18446744073709551616<Y % 18446744073709551616 by have:=beq_iff_eq.1 e1;omega),yac]
         refine ypT Y0 (by omega) (by omega) (fun c1 c2=>?_)
         exact yt0 (by omega) (by omega) g1 (by omega) ⟨by omega,b2⟩ ⟨by omega,d2⟩ kk
 · rw [if_neg h] at k
   have:(chk2 a b c d !=(0:Int))=true:=by rw [bne_iff_ne];exact h
   rw [this,yaf]
   exact k
end Go.Pf.Vc
namespace Go.Pf.Vc
open Go Go.Pf
theorem RV.neg {c d:Int} (h:RV c d):RV (-c) d:=by
 obtain ⟨d1,d2,c1,c2,g⟩:=h
 exact ⟨d1,d2,by omega,by omega,by rw [Int.natAbs_neg];exact g⟩
theorem yFR {a b c d:Int} (ha:I64 a) (hb:I64 b) (hc:I64 c) (hd:I64 d) {K:Int→Int→Int→Prop}
   (k:if chk2 a b c d=0 then outA (decide (a*(d / (Nat.gcd b.natAbs d.natAbs:Nat))+-c*(b / (Nat.gcd b.natAbs d.natAbs:Nat))<0))
       ((a*(d / (Nat.gcd b.natAbs d.natAbs:Nat))+-c*(b / (Nat.gcd b.natAbs d.natAbs:Nat))).natAbs:Int) b d (Nat.gcd b.natAbs d.natAbs) K
     else K 0 0 (chk2 a b c d)):ybf a b c d K:=by
 unfold ybf ykp
 refine ymm ha hb hc hd ?_
 by_cases h:chk2 a b c d=0
 · rw [if_pos h] at k
   have:(chk2 a b c d !=(0:Int))=false:=by rw [h];rfl
   rw [this,yac]
   obtain ⟨hab,hcd⟩:=yeA.1 h
   obtain ⟨d1,d2,c1,c2,_⟩:=id hcd
   rw [wi64 (n:=0-c) ⟨by omega,by omega⟩,Int.zero_sub]
   refine yDp ha hb ⟨by omega,by omega⟩ hd ?_
   rw [if_pos (yeA.2 ⟨hab,hcd.neg⟩)]
   exact k
 · rw [if_neg h] at k
   have:(chk2 a b c d !=(0:Int))=true:=by rw [bne_iff_ne];exact h
   rw [this,yaf]
   exact k
end Go.Pf.Vc
namespace Go.Pf.Vc
open Go Go.Pf
def ints (l:List Int):List PV:=l.map (PV.int .i64)
theorem ya0 (l:List Int):(ints l).length=l.length:=List.length_map ..
theorem yxl {l:List Int} {i:Nat} (h:i<l.length):List.getD (ints l) i .nils=.int .i64 (l.getD i 0):=by
 unfold ints
 rw [List.getD_eq_getElem?_getD,List.getD_eq_getElem?_getD,List.getElem?_map,List.getElem?_eq_getElem h]
 rfl
theorem ycm {l:List Int} {i:Nat} (h:i<l.length):yaa (List.getD (ints l) i .nils)=l.getD i 0:=by
 rw [yxl h];rfl
theorem ygc {l:List Int} {i:Nat} (h:i<l.length):conf (.one (.i .i64)) (List.getD (ints l) i .nils)=true:=by
 rw [yxl h];rfl
theorem yiS {c:Bool} {P:Prop} (h:c=true) (p:P):asr c P:=by rw [h,yaj];exact p
theorem ynX {c:Prop} [Decidable c] {P:Prop} (h:c) (p:P):asr (decide c) P:=yiS (decide_eq_true h) p
end Go.Pf.Vc
namespace Go.Pf.Vc
open Go Go.Pf
theorem yBd {c:Prop} [Decidable c] {P Q:Prop} (h:c) (p:P):cbr (decide c) P Q:=by rw [decide_eq_true h,yaf];exact p
theorem yvJ {c:Prop} [Decidable c] {P Q:Prop} (h:¬c) (q:Q):cbr (decide c) P Q:=by rw [decide_eq_false h,yac];exact q
def mnf (m x:Int):Int:=if x<m then x else m
theorem yDq {l:List Int} (hl:l.length<9223372036854775807) (x0:List PV→Int→Int→Bool→Prop) :
   ∀ (rest:List Int) (i:Nat) (m:Int) (n:Nat),l.drop i=rest→i≤l.length→rest.length<n→x0 (ints l) (rest.foldl mnf m) (l.length:Int) false →
     ybN x0 n (ints l) m (i:Int):=by
 intro rest
 induction rest with
 | nil =>
   intro i m n hd hi hn k
   have:i=l.length:=by
     have:=congrArg List.length hd
     rw [List.length_drop] at this
     have h2:([]:List Int).length=0:=rfl
     omega
   match n,hn with
   | n+1,_ =>
     unfold ybN
     rw [ya0,this]
     exact yvJ (by omega) k
 | cons x t ih =>
   intro i m n hd hi hn k
   have hlt:i<l.length:=by
     have:=congrArg List.length hd
     rw [List.length_drop,List.length_cons] at this
     omega
   have hx:l.getD i 0=x:=by
     have:=List.getElem_drop (xs:=l) (i:=i) (j:=0) (h:=by rw [hd];exact Nat.zero_lt_succ _)
     rw [List.getD_eq_getElem?_getD,List.getElem?_eq_getElem hlt]
     simp only [hd,List.getElem_cons_zero,Nat.add_zero] at this
     exact this.symm
   have ht:l.drop (i+1)=t:=by rw [← List.tail_drop,hd];rfl
   match n,hn with
   | n+1,hn =>
     unfold ybN
     rw [ya0]
     refine yBd (by omega) ?_
     refine ynX (by omega) (ynX (by omega) (yiS (ygc (by omega)) ?_))
     rw [Int.toNat_natCast,ycm hlt,hx,wi64 (n:=(i:Int)+1) ⟨by omega,by omega⟩]
     exact ih (i+1) _ n ht (by omega) (by rw [List.length_cons] at hn;omega) k
theorem yFS {l:List Int} (hl:l.length<9223372036854775807) {x:Int} {t:List Int} (e:l=x::t) {K:Int→Prop} (k:K (t.foldl mnf x)):yc4 (ints l) K:=by
 have h0:0<l.length:=by rw [e];exact Nat.zero_lt_succ _
 unfold yc4 yf5
 rw [ya0]
 refine yvJ (by omega) (ynX (by omega) (yiS (ygc h0) ⟨l.length+1,?_⟩))
 have e0:l.getD 0 0=x:=by rw [e];rfl
 rw [ycm h0,e0]
 refine yDq hl _ t 1 x _ (by rw [e];rfl) (by omega) (by rw [e,List.length_cons];omega) ?_
 exact k
def mxf (m x:Int):Int:=if x>m then x else m
theorem yDr {l:List Int} (hl:l.length<9223372036854775807) (x0:List PV→Int→Int→Bool→Prop) :
   ∀ (rest:List Int) (i:Nat) (m:Int) (n:Nat),l.drop i=rest→i≤l.length→rest.length<n→x0 (ints l) (rest.foldl mxf m) (l.length:Int) false →
     ybO x0 n (ints l) m (i:Int):=by
 intro rest
 induction rest with
 | nil =>
   intro i m n hd hi hn k
   have:i=l.length:=by
     have:=congrArg List.length hd
     rw [List.length_drop] at this
     have h2:([]:List Int).length=0:=rfl
     omega
   match n,hn with
   | n+1,_ =>
     unfold ybO
     rw [ya0,this]
     exact yvJ (by omega) k
 | cons x t ih =>
   intro i m n hd hi hn k
   have hlt:i<l.length:=by
     have:=congrArg List.length hd
     rw [List.length_drop,List.length_cons] at this
     omega
   have hx:l.getD i 0=x:=by
     have:=List.getElem_drop (xs:=l) (i:=i) (j:=0) (h:=by rw [hd];exact Nat.zero_lt_succ _)
     rw [List.getD_eq_getElem?_getD,List.getElem?_eq_getElem hlt]
     simp only [hd,List.getElem_cons_zero,Nat.add_zero] at this
     exact this.symm
   have ht:l.drop (i+1)=t:=by rw [← List.tail_drop,hd];rfl
   match n,hn with
   | n+1,hn =>
     unfold ybO
     rw [ya0]
     refine yBd (by omega) ?_
     refine ynX (by omega) (ynX (by omega) (yiS (ygc (by omega)) ?_))
     rw [Int.toNat_natCast,ycm hlt,hx,wi64 (n:=(i:Int)+1) ⟨by omega,by omega⟩]
     exact ih (i+1) _ n ht (by omega) (by rw [List.length_cons] at hn;omega) k
theorem yDs {l:List Int} (hl:l.length<9223372036854775807) {x:Int} {t:List Int} (e:l=x::t) {K:Int→Prop} (k:K (t.foldl mxf x)):yc5 (ints l) K:=by
 have h0:0<l.length:=by rw [e];exact Nat.zero_lt_succ _
 unfold yc5 yf7
 rw [ya0]
 refine yvJ (by omega) (ynX (by omega) (yiS (ygc h0) ⟨l.length+1,?_⟩))
 have e0:l.getD 0 0=x:=by rw [e];rfl
 rw [ycm h0,e0]
 refine yDr hl _ t 1 x _ (by rw [e];rfl) (by omega) (by rw [e,List.length_cons];omega) ?_
 exact k
end Go.Pf.Vc
namespace Go.Pf.Vc
open Go Go.Pf
def incr (l:List Int) (i:Nat):Prop:=∀ j,i≤j→j+1<l.length→l.getD j 0<l.getD (j+1) 0
theorem yAr {l:List Int} {p2:List PV} {p0:Int} (hl:l.length<9223372036854775807) (W1 W2:List PV→(Int→Prop)→Prop) (x0:Int→Prop) (x1:Int→List PV→List PV→Int→Int→Bool→Prop) :
   ∀ (r i n:Nat),i+r+1=l.length→r<n→(incr l i→x1 p0 (ints l) p2 ((l.length:Int)-1) ((l.length:Int)-1) false)→(¬incr l i→x0 8) →
     ycI W1 W2 x0 x1 n p0 (ints l) p2 ((l.length:Int)-1) (i:Int):=by
 intro r
 induction r with
 | zero =>
   intro i n hi hn k _
   match n,hn with
   | n+1,_ =>
     unfold ycI
     have e:(i:Int)=(l.length:Int)-1:=by omega
     refine yvJ (by omega) ?_
     rw [e]
     exact k (fun j h1 h2=>by omega)
 | succ r ih =>
   intro i n hi hn k k0
   match n,hn with
   | n+1,hn =>
     unfold ycI
     rw [wi64 (n:=(i:Int)+1) ⟨by omega,by omega⟩,ya0]
     have e1:((i:Int)+1)=((i+1:Nat):Int):=by omega
     rw [e1,Int.toNat_natCast,Int.toNat_natCast]
     refine yBd (by omega) (ynX (by omega) (ynX (by omega) (yiS (ygc (by omega)) (ynX (by omega) (ynX (by omega) (yiS (ygc (by omega)) ?_))))))
     rw [ycm (by omega),ycm (by omega)]
     by_cases h:l.getD i 0≥l.getD (i+1) 0
     · exact yBd h (k0 fun hc=>absurd (hc i (Nat.le_refl _) (by omega)) (by omega))
     · refine yvJ h (ih (i+1) n (by omega) (by omega) (fun hc=>k fun j h1 h2=>?_) (fun hc=>k0 fun hd=>hc fun j h1 h2=>hd j (by omega) h2))
       by_cases hj:j=i
       · subst hj;omega
       · exact hc j (by omega) h2
end Go.Pf.Vc
namespace Go.Pf.Vc
open Go Go.Pf
def small (q:Rat):Prop:=-1000000000000000000≤q.num∧q.num≤1000000000000000000∧(q.den:Int)≤1000000000000000000
instance (q:Rat):Decidable (small q):=by unfold small;infer_instance
theorem small.rv {q:Rat} (h:small q):RV q.num q.den:=by
 obtain ⟨h1,h2,h3⟩:=h
 have:=q.den_pos
 exact ⟨by omega,h3,h1,h2,q.reduced⟩
theorem yAs {n d:Int} (h:RV n d):∃ q:Rat,small q∧q.num=n∧(q.den:Int)=d:=by
 obtain ⟨h1,h2,h3,h4,h5⟩:=h
 refine ⟨⟨n,d.toNat,by omega,?_⟩,⟨h3,h4,by show ((d.toNat:Nat):Int)≤_;omega⟩,rfl,by show ((d.toNat:Nat):Int)=_;omega⟩
 have:d.natAbs=d.toNat:=by omega
 rw [this] at h5
 exact h5
theorem small.i1 {q:Rat} (h:small q):I64 q.num:=⟨by have:=h.1;omega,by have:=h.2.1;omega⟩
theorem small.i2 {q:Rat} (h:small q):I64 (q.den:Int):=⟨by omega,by have:=h.2.2;omega⟩
theorem yh0 {q r:Rat} (h:small q) (k:small r):chk2 q.num q.den r.num r.den=0:=yeA.2 ⟨h.rv,k.rv⟩
def fitK (q:Rat) (K:Int→Int→Int→Prop):Prop:=if small q then K q.num q.den 0 else K 0 0 16
theorem yt1 {q:Rat} {s:Bool} {a b:Int} (ha:a=(q.num.natAbs:Int)) (hb:b=(q.den:Int)) (hs:q.num≠0→s=decide (q.num<0)) (K:Int→Int→Int→Prop):outS s a b K=fitK q K:=by
 unfold outS fitK
 subst ha hb
 by_cases h:small q
 · have h':=h
   obtain ⟨h1,h2,h3⟩:=h
   rw [if_pos (show _∧_ from ⟨by omega,h3⟩),if_pos h']
   have e:(if s=true then -((q.num.natAbs:Nat):Int) else ((q.num.natAbs:Nat):Int))=q.num:=by
     by_cases h0:q.num=0
     · rw [h0];cases s <;> rfl
     · rw [hs h0]
       by_cases h1:q.num<0
       · rw [decide_eq_true h1,if_pos rfl];omega
       · rw [decide_eq_false h1,if_neg (by simp)];omega
   rw [e]
 · rw [if_neg h,if_neg]
   intro h2
   exact h ⟨by omega,by omega,h2.2⟩
theorem yyY (x:Int) (g:Nat):(Int.tdiv x g).natAbs=x.natAbs / g:=by rw [Int.natAbs_tdiv,Int.natAbs_natCast];rfl
theorem yvK {x:Int} {g:Nat} (h:(g:Int)∣x) (hx:x≠0):decide (Int.tdiv x g<0)=decide (x<0):=by
 obtain ⟨k,rfl⟩:=h
 have hg:(g:Int)≠0:=fun e=>hx (by rw [e,Int.zero_mul])
 rw [Int.mul_tdiv_cancel_left _ hg]
 have h1:(g:Int)>0:=by have:=Int.natCast_nonneg g;omega
 have:(g:Int)*k<0↔k<0:=by
   constructor
   · intro h;refine Int.not_le.1 fun hk=>?_
     have:=Int.mul_nonneg (show 0≤(g:Int) by omega) hk
     omega
   · intro h;exact Int.mul_neg_of_pos_of_neg h1 h
 simp only [this]
theorem yCe (q r:Rat):(q*r).num=Int.tdiv q.num (Nat.gcd q.num.natAbs r.den)*Int.tdiv r.num (Nat.gcd r.num.natAbs q.den) ∧
   (q*r).den=(q.den / Nat.gcd r.num.natAbs q.den)*(r.den / Nat.gcd q.num.natAbs r.den):=by
 have e:q*r=Rat.mul q r:=rfl
 rw [e]
 delta Rat.mul
 constructor
 · simp only [Int.divExact_eq_tdiv]
 · simp only [Nat.divExact_eq_div]
theorem yjw (x:Int) (d:Nat):((Nat.gcd x.natAbs d:Nat):Int)∣x:=by
 rw [← Int.dvd_natAbs,Int.ofNat_dvd];exact Nat.gcd_dvd_left _ _
theorem yBe {x:Int} {g:Nat} (h:(g:Int)∣x) (hx:x≠0):Int.tdiv x g≠0:=by
 obtain ⟨k,rfl⟩:=h
 have hg:(g:Int)≠0:=fun e=>hx (by rw [e,Int.zero_mul])
 rw [Int.mul_tdiv_cancel_left _ hg]
 intro e;rw [e,Int.mul_zero] at hx;exact hx rfl
theorem yDt {x y:Int} (hx:x≠0) (hy:y≠0):decide (x*y<0)=(decide (x<0) != decide (y<0)):=by
 by_cases h1:x<0 <;> by_cases h2:y<0
 · have:=Int.mul_pos_of_neg_of_neg h1 h2
   simp [h1,h2];omega
 · have:=Int.mul_neg_of_neg_of_pos h1 (show 0<y by omega)
   simp [h1,h2];omega
 · have:=Int.mul_neg_of_pos_of_neg (show 0<x by omega) h2
   simp [h1,h2];omega
 · have:=Int.mul_pos (show 0<x by omega) (show 0<y by omega)
   simp [h1,h2];omega
theorem yBf (q r:Rat) (K:Int→Int→Int→Prop):outS (decide (q.num<0) != decide (r.num<0)) (numM q.num r.num q.den r.den) (denM q.num r.num q.den r.den) K=fitK (q*r) K:=by
 obtain ⟨e1,e2⟩:=yCe q r
 refine yt1 ?_ ?_ ?_ K
 · rw [e1,Int.natAbs_mul,yyY,yyY]
   simp only [numM,Int.natAbs_natCast]
 · rw [e2]
   simp only [denM,Int.natAbs_natCast]
 · intro h
   rw [e1] at h ⊢
   have h1:q.num≠0:=fun e=>h (by rw [e,Int.zero_tdiv,Int.zero_mul])
   have h2:r.num≠0:=fun e=>h (by rw [e,Int.zero_tdiv,Int.mul_zero])
   rw [yDt (yBe (yjw _ _) h1) (yBe (yjw _ _) h2),yvK (yjw _ _) h1,yvK (yjw _ _) h2]
theorem ypU {w:(Int→Int→Int→Prop)→Prop} {q:Rat} (det:∀ r0 r1 r2,(∀ K:Int→Int→Int→Prop,K r0 r1 r2→w K)→∀ K,w K=K r0 r1 r2) (h:∀ K,fitK q K→w K) (K:Int→Int→Int→Prop):w K=fitK q K:=by
 unfold fitK at h ⊢
 by_cases hs:small q
 · simp only [if_pos hs] at h ⊢
   exact det _ _ _ h K
 · simp only [if_neg hs] at h ⊢
   exact det _ _ _ h K
theorem yxm {q r:Rat} (hq:small q) (hr:small r) (K:Int→Int→Int→Prop):ya6 q.num q.den r.num r.den K=fitK (q*r) K :=
 ypU (fun r0 r1 r2 h K=>yuz _ _ _ _ r0 r1 r2 h K) (fun K k=>yAq hq.i1 hq.i2 hr.i1 hr.i2 (by rw [if_pos (yh0 hq hr),yBf];exact k)) K
theorem yCf {r:Rat} (h:r≠0):(r⁻¹).num=(if r.num<0 then -(r.den:Int) else r.den)∧(r⁻¹).den=r.num.natAbs:=by
 have h0:r.num≠0:=fun e=>h (Rat.num_eq_zero.1 e)
 constructor
 · rw [Rat.num_inv]
   by_cases h1:r.num<0
   · rw [if_pos h1,Int.sign_eq_neg_one_of_neg h1];omega
   · rw [if_neg h1,Int.sign_eq_one_of_pos (by omega)];omega
 · rw [Rat.den_inv,if_neg h0]
theorem yEO {q r:Rat} (hq:small q) (hr:small r) (h0:r≠0) (K:Int→Int→Int→Prop):ycd q.num q.den r.num r.den K=fitK (q / r) K:=by
 have hn:r.num≠0:=fun e=>h0 (Rat.num_eq_zero.1 e)
 refine ypU (fun r0 r1 r2 h K=>yuA _ _ _ _ r0 r1 r2 h K) (fun K k=>yFQ hq.i1 hq.i2 hr.i1 hr.i2 ?_) K
 rw [if_pos (yh0 hq hr),if_neg hn]
 rw [Rat.div_def,← yBf] at k
 obtain ⟨e1,e2⟩:=yCf h0
 rw [e1,e2] at k
 have s:decide ((if r.num<0 then -(r.den:Int) else (r.den:Int))<0)=decide (r.num<0):=by
   have:=r.den_pos
   split
   · rename_i h;simp only [h];simp;omega
   · rename_i h;simp only [h];simp
 rw [s] at k
 have hd:(if r.num<0 then -(r.den:Int) else (r.den:Int)).natAbs=r.den:=by split <;> omega
 unfold numM denM at k ⊢
 simp only [hd,Int.natAbs_natCast] at k ⊢
 exact k
end Go.Pf.Vc
namespace Go.Pf.Vc
open Go Go.Pf
theorem yCg (q r:Rat):(q+r).num=(q.num*(r.den / Nat.gcd q.den r.den:Nat)+r.num*(q.den / Nat.gcd q.den r.den:Nat)) / (Nat.gcd (q.num*(r.den / Nat.gcd q.den r.den:Nat)+r.num*(q.den / Nat.gcd q.den r.den:Nat)).natAbs (Nat.gcd q.den r.den):Nat) ∧
   (q+r).den=(q.den / Nat.gcd q.den r.den)*r.den / Nat.gcd (q.num*(r.den / Nat.gcd q.den r.den:Nat)+r.num*(q.den / Nat.gcd q.den r.den:Nat)).natAbs (Nat.gcd q.den r.den):=by
 have e:q+r=Rat.add q r:=rfl
 rw [e]
 delta Rat.add
 by_cases hg:q.den.gcd r.den=1
 · simp only [hg,dif_pos,Nat.div_one,Nat.gcd_one_right,Int.natCast_one,Int.ediv_one,and_self]
 · simp only [hg,dif_neg,not_false_eq_true,Rat.maybeNormalize_eq]
   constructor
   · first | rfl | simp only [Int.divExact_eq_tdiv]
   · first | rfl | simp only []
theorem yDu {q r:Rat} {Z:Int} {g:Nat} (e1:(q+r).num=Z / (Nat.gcd Z.natAbs g:Nat)) (e2:(q+r).den=(q.den / g)*r.den / Nat.gcd Z.natAbs g) (hgp:0<g) (hgd:g∣r.den) (K:Int→Int→Int→Prop) :
   outA (decide (Z<0)) (Z.natAbs:Int) q.den r.den g K=fitK (q+r) K:=by
 unfold outA
 by_cases h0:Z=0
 · subst h0
   have:(q+r)=0:=by
     apply Rat.num_eq_zero.1
     rw [e1];simp
   rw [this,if_pos (by rfl)]
   unfold fitK
   rw [if_pos (by decide)];rfl
 · have hne:¬((Z.natAbs:Nat):Int)=0:=by omega
   rw [if_neg hne]
   have hdv:((Nat.gcd Z.natAbs g:Nat):Int)∣Z:=yjw _ _
   have hhp:0<Nat.gcd Z.natAbs g:=Nat.gcd_pos_of_pos_right _ hgp
   have hhg:Nat.gcd Z.natAbs g∣r.den:=Nat.dvd_trans (Nat.gcd_dvd_right _ _) hgd
   refine yt1 ?_ ?_ ?_ K
   · rw [e1,Int.natAbs_ediv_of_dvd hdv];simp
   · rw [e2];simp only [Int.toNat_natCast];rw [Nat.mul_div_assoc _ hhg]
   · intro h
     rw [e1]
     obtain ⟨k,hk⟩:=hdv
     revert hhp hk
     generalize Nat.gcd Z.natAbs g=h
     intro hhp hk
     have e:Z / (h:Int)=k:=by rw [hk,Int.mul_ediv_cancel_left _ (by omega)]
     rw [e]
     have:Z<0↔k<0:=by
       rw [hk]
       constructor
       · intro hk;refine Int.not_le.1 fun hk2=>?_
         have:=Int.mul_nonneg (show 0≤(h:Int) by omega) hk2
         omega
       · intro hk;exact Int.mul_neg_of_pos_of_neg (by omega) hk
     simp only [this]
theorem yBg (q r:Rat) (K:Int→Int→Int→Prop) :
   outA (decide (q.num*((r.den:Int) / (Nat.gcd (q.den:Int).natAbs (r.den:Int).natAbs:Nat))+r.num*((q.den:Int) / (Nat.gcd (q.den:Int).natAbs (r.den:Int).natAbs:Nat))<0))
     ((q.num*((r.den:Int) / (Nat.gcd (q.den:Int).natAbs (r.den:Int).natAbs:Nat))+r.num*((q.den:Int) / (Nat.gcd (q.den:Int).natAbs (r.den:Int).natAbs:Nat))).natAbs:Int) q.den r.den (Nat.gcd (q.den:Int).natAbs (r.den:Int).natAbs) K=fitK (q+r) K:=by
 obtain ⟨e1,e2⟩:=yCg q r
 rw [Int.natCast_ediv,Int.natCast_ediv] at e1 e2
 exact yDu e1 e2 (Nat.gcd_pos_of_pos_left _ q.den_pos) (Nat.gcd_dvd_right _ _) K
theorem yxn {q r:Rat} (hq:small q) (hr:small r) (K:Int→Int→Int→Prop):ya5 q.num q.den r.num r.den K=fitK (q+r) K :=
 ypU (fun r0 r1 r2 h K=>yux _ _ _ _ r0 r1 r2 h K) (fun K k=>yDp hq.i1 hq.i2 hr.i1 hr.i2 (by rw [if_pos (yh0 hq hr),yBg];exact k)) K
theorem yst {q r:Rat} (hq:small q) (hr:small r) (K:Int→Int→Int→Prop):ybf q.num q.den r.num r.den K=fitK (q-r) K :=
 ypU (fun r0 r1 r2 h K=>yuy _ _ _ _ r0 r1 r2 h K) (fun K k=>yFR hq.i1 hq.i2 hr.i1 hr.i2 (by
   rw [if_pos (yh0 hq hr)]
   rw [Rat.sub_eq_add_neg,← yBg] at k
   exact k)) K
theorem yDv {n d:Int} (hd:d≠0) (K:Int→Int→Int→Prop):outS (decide (n<0) != decide (d<0)) ((n.natAbs / Nat.gcd n.natAbs d.natAbs:Nat):Int) ((d.natAbs / Nat.gcd n.natAbs d.natAbs:Nat):Int) K=fitK ((n:Rat) / (d:Rat)) K:=by
 have e:(n:Rat) / (d:Rat)=mkRat (if d<0 then -n else n) d.natAbs:=by
   rw [Rat.mkRat_eq_div]
   split
   · rename_i h
     have h1:((d.natAbs:Nat):Int)=-d:=by omega
     have h2:((d.natAbs:Nat):Rat)=-(d:Rat):=by rw [← Rat.intCast_natCast,h1,Rat.intCast_neg]
     rw [h2,Rat.intCast_neg]
     have h3:(d:Rat)≠0:=fun e=>hd (Rat.intCast_eq_zero_iff.1 e)
     grind
   · rename_i h
     have h1:((d.natAbs:Nat):Int)=d:=by omega
     have h2:((d.natAbs:Nat):Rat)=(d:Rat):=by rw [← Rat.intCast_natCast,h1]
     rw [h2]
 have h0:d.natAbs≠0:=by omega
 have hab:(if d<0 then -n else n).natAbs=n.natAbs:=by split <;> omega
 rw [e]
 refine yt1 ?_ ?_ ?_ K
 · rw [Rat.num_mkRat,if_neg h0,hab,Int.natAbs_ediv_of_dvd,Int.natAbs_natCast,hab,Nat.gcd_comm]
   rw [← Int.dvd_natAbs,Int.ofNat_dvd,hab];exact Nat.gcd_dvd_right _ _
 · rw [Rat.den_mkRat,if_neg h0,hab,Nat.gcd_comm]
 · rw [Rat.num_mkRat,if_neg h0,hab]
   have hdv:((Nat.gcd d.natAbs n.natAbs:Nat):Int)∣(if d<0 then -n else n):=by
     rw [← Int.dvd_natAbs,Int.ofNat_dvd,hab];exact Nat.gcd_dvd_right _ _
   have hp:0<Nat.gcd d.natAbs n.natAbs:=Nat.gcd_pos_of_pos_left _ (by omega)
   obtain ⟨k,hk⟩:=hdv
   rw [hk,Int.mul_ediv_cancel_left _ (by omega)]
   intro hk0
   generalize Nat.gcd d.natAbs n.natAbs=g at *
   have h1:(g:Int)*k<0↔k<0:=by
     constructor
     · intro hk;refine Int.not_le.1 fun hk2=>?_
       have:=Int.mul_nonneg (show 0≤(g:Int) by omega) hk2
       omega
     · intro hk;exact Int.mul_neg_of_pos_of_neg (by omega) hk
   have h2:(g:Int)*k≠0:=fun e=>by rcases Int.mul_eq_zero.1 e with e | e <;> omega
   by_cases hd2:d<0
   · rw [if_pos hd2] at hk
     by_cases hn:n<0
     · have:¬k<0:=by omega
       simp [hd2,hn,this]
     · have:k<0:=by omega
       simp [hd2,this];omega
   · rw [if_neg hd2] at hk
     by_cases hn:n<0
     · have:k<0:=by omega
       simp [hd2,hn,this]
     · have:¬k<0:=by omega
       simp [hd2,this];omega
theorem yDw {n d:Int} (hn:I64 n) (hd:I64 d) (h0:d≠0) (K:Int→Int→Int→Prop):ydM n d K=fitK ((n:Rat) / (d:Rat)) K :=
 ypU (fun r0 r1 r2 h K=>ytG _ _ r0 r1 r2 h K) (fun K k=>yEM hn hd (by rw [if_neg h0,yDv h0];exact k)) K
def cmpQ (q r:Rat):Int:=if q<r then -1 else if r<q then 1 else 0
theorem yEP (q r:Rat):cmpR q.num q.den r.num r.den=cmpQ q r:=by
 unfold cmpR cmp3 cmpQ
 simp only [Rat.lt_iff]
theorem yBh {q r:Rat} (hq:small q) (hr:small r) (K:Int→Int→Prop):ydI q.num q.den r.num r.den K=K (cmpQ q r) 0 :=
 yuw _ _ _ _ _ _ (fun K k=>yFM hq.i1 hq.i2 hr.i1 hr.i2 (by rw [yh0 hq hr,if_pos rfl,yEP];exact k)) K
theorem yq1 {n d:Int} (hn:I64 n) (hd:I64 d) (K:Int→Prop):yaE n d K=K (chk n d) :=
 yrO _ _ _ (fun _ k=>ytX hn hd k) K
end Go.Pf.Vc
namespace Go.Pf.Vc
open Go Go.Pf
theorem yGf {a b:Int} (h:a=b):(a != b)=false:=by simp [h]
theorem yGg {a b:Int} (h:a≠b):(a != b)=true:=by simp [h]
theorem yDx {a b:Int} (h:a≠b):(a == b)=false:=by simp [h]
theorem yGh {a b:Int} (h:a=b):(a == b)=true:=by simp [h]
end Go.Pf.Vc
namespace Go.Pf.Vc
open Go Go.Pf
theorem cbT {c:Prop} [Decidable c] {P Q:Prop} (h:c):cbr (decide c) P Q=P:=by rw [decide_eq_true h,yaf]
theorem cbF {c:Prop} [Decidable c] {P Q:Prop} (h:¬c):cbr (decide c) P Q=Q:=by rw [decide_eq_false h,yac]
theorem cnT {a b:Int} {P Q:Prop} (h:a≠b):cbr (a != b) P Q=P:=by rw [yGg h,yaf]
theorem cnF {a b:Int} {P Q:Prop} (h:a=b):cbr (a != b) P Q=Q:=by rw [yGf h,yac]
theorem ceT {a b:Int} {P Q:Prop} (h:a=b):cbr (a == b) P Q=P:=by rw [yGh h,yaf]
theorem ceF {a b:Int} {P Q:Prop} (h:a≠b):cbr (a == b) P Q=Q:=by rw [yDx h,yac]
theorem asT {c:Prop} [Decidable c] {P:Prop} (h:c):asr (decide c) P=P:=by rw [decide_eq_true h,yaj]
theorem asC {l:List Int} {i:Nat} {P:Prop} (h:i<l.length):asr (conf (.one (.i .i64)) (List.getD (ints l) i .nils)) P=P:=by rw [ygc h,yaj]
theorem wib {n:Int} (h1:-9223372036854775808≤n) (h2:n≤9223372036854775807):IntKind.i64.wrap n=n:=wi64 ⟨h1,h2⟩
theorem ymn (i:Nat):(i:Int)+1=((i+1:Nat):Int):=by omega
theorem yfo {x:Int} (h:-1000000000000000000≤x∧x≤1000000000000000000):small (x:Rat):=by
 unfold small
 rw [Rat.num_intCast,Rat.den_intCast]
 omega
def allD (dens:List Int):Prop:=∀ d∈dens,0≤d∧d≤12
def yt2 (dens:List Int):Prop:=∃ d∈dens,0<d
instance (l:List Int):Decidable (allD l):=by unfold allD;infer_instance
instance (l:List Int):Decidable (yt2 l):=by unfold yt2;infer_instance
def VC (len:Int) (cuts dens:List Int):Prop :=
 1≤len∧len≤1000∧2≤cuts.length∧cuts.length≤40∧dens.length+1=cuts.length∧cuts.getD 0 0=0∧cuts.getD (cuts.length-1) 0=len∧incr cuts 0∧allD dens∧yt2 dens
theorem yDy (l:List Int):incr l 0↔∀ j,j<l.length→j+1<l.length→l.getD j 0<l.getD (j+1) 0:=⟨fun h j _ h2=>h j (by omega) h2,fun h j _ h2=>h j (by omega) h2⟩
instance (l:List Int):Decidable (incr l 0):=decidable_of_iff _ (yDy l).symm
instance (len:Int) (cuts dens:List Int):Decidable (VC len cuts dens):=by unfold VC;infer_instance
def ckC (len:Int) (cuts dens:List Int):Int:=if len>1000∨cuts.length>40 then 4 else if VC len cuts dens then 0 else 8
theorem yBi (l:List Int) (x:Int):(l.foldl mnf x<0)↔¬(∀ d∈x::l,0≤d):=by
 induction l generalizing x with
 | nil=>simp
 | cons y t ih =>
   rw [List.foldl_cons,ih]
   unfold mnf
   simp only [List.forall_mem_cons]
   split
   · constructor
     · intro h h2;exact h ⟨h2.2.1,h2.2.2⟩
     · intro h h2;exact h ⟨by omega,h2.1,h2.2⟩
   · constructor
     · intro h h2;exact h ⟨h2.1,h2.2.2⟩
     · intro h h2;exact h ⟨h2.1,by omega,h2.2⟩
theorem ypV (l:List Int) (x k:Int):(l.foldl mxf x>k)↔¬(∀ d∈x::l,d≤k):=by
 induction l generalizing x with
 | nil=>simp
 | cons y t ih =>
   rw [List.foldl_cons,ih]
   unfold mxf
   simp only [List.forall_mem_cons]
   split
   · constructor
     · intro h h2;exact h ⟨h2.2.1,h2.2.2⟩
     · intro h h2;exact h ⟨by omega,h2.1,h2.2⟩
   · constructor
     · intro h h2;exact h ⟨h2.1,h2.2.2⟩
     · intro h h2;exact h ⟨h2.1,by omega,h2.2⟩
theorem yjx {len:Int} {cuts dens:List Int} (h1:cuts.length<4611686018427387904) (h2:dens.length<4611686018427387904) (K:Int→Prop) :
   yau len (ints cuts) (ints dens) K=K (ckC len cuts dens):=by
 refine ytH _ _ _ _ (fun K k=>?_) K
 unfold yau yiz
 simp only [ya0]
 have bad:¬(len>1000∨cuts.length>40)→¬VC len cuts dens→K 8:=fun h h2=>by
   rw [ckC,if_neg h,if_neg h2] at k;exact k
 by_cases a1:len>1000
 · rw [cbT a1];rw [ckC,if_pos (.inl a1)] at k;exact k
 rw [cbF a1]
 by_cases a2:cuts.length>40
 · rw [cbT (by omega)];rw [ckC,if_pos (.inr a2)] at k;exact k
 have a12:¬(len>1000∨cuts.length>40):=by omega
 rw [cbF (by omega)]
 by_cases a3:len<1
 · rw [cbT a3];exact bad a12 (fun h=>by have:=h.1;omega)
 rw [cbF a3]
 by_cases a4:cuts.length<2
 · rw [cbT (by omega)];exact bad a12 (fun h=>by have:=h.2.2.1;omega)
 rw [cbF (by omega),wib (n:=(cuts.length:Int)-1) (by omega) (by omega)]
 by_cases a5:dens.length+1=cuts.length
 case neg=>rw [cnT (by omega)];exact bad a12 (fun h=>a5 h.2.2.2.2.1)
 rw [cnF (by omega),asT (by omega),asC (by omega),ycm (by omega)]
 by_cases a6:cuts.getD 0 0=0
 case neg=>rw [cnT a6];exact bad a12 (fun h=>a6 h.2.2.2.2.2.1)
 rw [cnF a6,asT (by omega),asT (by omega),asC (by omega),ycm (by omega)]
 have en:((cuts.length:Int)-1).toNat=cuts.length-1:=by omega
 rw [en]
 by_cases a7:cuts.getD (cuts.length-1) 0=len
 case neg=>rw [cnT a7];exact bad a12 (fun h=>a7 h.2.2.2.2.2.2.1)
 rw [cnF a7]
 refine ⟨cuts.length+1,?_⟩
 refine yAr (by omega) _ _ _ _ (cuts.length-1) 0 _ (by omega) (by omega) (fun hi=>?_) (fun hi=>bad a12 (fun h=>hi h.2.2.2.2.2.2.2.1))
 obtain ⟨x,t,e⟩:∃ x t,dens=x::t:=by
   cases dens with
   | nil=>exfalso;have:([]:List Int).length=0:=rfl;omega
   | cons x t=>exact ⟨x,t,rfl⟩
 refine yFS (by omega) e ?_
 by_cases b1:t.foldl mnf x<0
 · rw [cbT b1]
   rw [yBi] at b1
   exact bad a12 (fun h=>b1 fun d hd=>(h.2.2.2.2.2.2.2.2.1 d (by rw [e];exact hd)).1)
 rw [cbF b1]
 refine yDs (by omega) e ?_
 by_cases b2:t.foldl mxf x>12
 · rw [cbT b2]
   rw [ypV] at b2
   exact bad a12 (fun h=>b2 fun d hd=>(h.2.2.2.2.2.2.2.2.1 d (by rw [e];exact hd)).2)
 rw [cbF b2]
 refine yDs (by omega) e ?_
 have c1:∀ d∈dens,0≤d:=by rw [yBi,Classical.not_not,← e] at b1;exact b1
 have c2:∀ d∈dens,d≤12:=by rw [ypV,Classical.not_not,← e] at b2;exact b2
 by_cases b3:t.foldl mxf x=0
 · rw [ceT b3]
   refine bad a12 (fun h=>?_)
   obtain ⟨d,hd,h0⟩:=h.2.2.2.2.2.2.2.2.2
   have:¬(t.foldl mxf x>0):=by omega
   rw [ypV,Classical.not_not,← e] at this
   have:=this d hd
   omega
 · rw [ceF b3]
   have b4:t.foldl mxf x>0:=by
     refine Int.not_le.1 fun hle=>b3 ?_
     have:t.foldl mxf x>-1:=by
       rw [ypV]
       intro h
       have h1:=h x (List.mem_cons_self ..)
       have h2:=c1 x (by rw [e];exact List.mem_cons_self ..)
       omega
     omega
   rw [ypV,← e] at b4
   have b5:yt2 dens:=by
     refine Classical.byContradiction fun hn=>b4 fun d hd=>?_
     exact Int.not_lt.1 fun hlt=>hn ⟨d,hd,hlt⟩
   rw [ckC,if_neg a12,if_pos ⟨by omega,by omega,by omega,by omega,a5,a6,a7,hi,fun d hd=>⟨c1 d hd,c2 d hd⟩,b5⟩] at k
   exact k
theorem yfT (n:Int) (K:Int→Int→Prop):ybw n K=K (n:Rat).num (n:Rat).den:=rfl
theorem yen {q r:Rat} (hq:small q) (hr:small r) (K:Bool→Prop):ybF q.num q.den r.num r.den K=K (decide (q<r)):=by
 unfold ybF yku
 rw [yBh hq hr]
 congr 1
 rw [decide_eq_decide,cmpQ]
 by_cases h:q<r
 · simp [h]
 · by_cases h2:r<q <;> simp [h,h2]
def PT (len:Int) (n d:Int):Prop:=RV n d∧0≤n∧n≤len*d
instance (len n d:Int):Decidable (PT len n d):=by unfold PT;infer_instance
theorem yFT {len n d:Int} (h:PT len n d):∃ q:Rat,small q∧q.num=n∧(q.den:Int)=d∧0≤q∧q≤(len:Rat):=by
 obtain ⟨h1,h2,h3⟩:=h
 obtain ⟨q,e1,e2,e3⟩:=yAs h1
 refine ⟨q,e1,e2,e3,?_,?_⟩
 · rw [← Rat.num_nonneg,e2];exact h2
 · rw [Rat.le_iff,e2,e3,Rat.num_intCast,Rat.den_intCast];simpa using h3
theorem yAt (x:Int) (q:Rat):((x:Rat)<q)↔x*(q.den:Int)<q.num:=by
 rw [Rat.lt_iff,Rat.num_intCast,Rat.den_intCast];simp
theorem yt3 {len:Int} (hl:-1000000000000000000≤len∧len≤1000000000000000000) {n d:Int} (hn:I64 n) (hd:I64 d) (a b:List PV) (K:Bool→Prop) :
   yby len a b n d K=K (decide (PT len n d)):=by
 unfold yby yiD
 rw [yq1 hn hd]
 by_cases h:RV n d
 · obtain ⟨q,e1,e2,e3⟩:=yAs h
   rw [chk,if_pos h,ceT rfl]
   by_cases h0:n≥0
   · rw [cbT h0,yfT,← e2,← e3,yen (yfo hl) e1]
     congr 1
     have:((len:Rat)<q)↔len*(q.den:Int)<q.num:=yAt _ _
     by_cases h3:(len:Rat)<q
     · have h4:=this.1 h3
       rw [decide_eq_true h3,decide_eq_false];rfl
       intro hp;have:=hp.2.2;omega
     · have h4:¬_:=fun x=>h3 (this.2 x)
       rw [decide_eq_false h3,decide_eq_true];rfl
       exact ⟨e1.rv,by omega,by omega⟩
   · rw [cbF h0,decide_eq_false]
     intro hp;have:=hp.2.1;omega
 · rw [chk,if_neg h,ceF (by decide),decide_eq_false]
   intro hp;exact h hp.1
end Go.Pf.Vc
namespace Go.Pf.Vc
open Go Go.Pf
section
variable {len:Int} {cuts dens:List Int}
theorem VC.step (h:VC len cuts dens) {i:Nat} (hi:i+1<cuts.length):cuts.getD i 0<cuts.getD (i+1) 0:=h.2.2.2.2.2.2.2.1 i (Nat.zero_le _) hi
theorem VC.mono (h:VC len cuts dens) {i:Nat}:∀ {j:Nat},i≤j→j<cuts.length→cuts.getD i 0≤cuts.getD j 0
 | 0,hij,_=>by
   have:i=0:=by omega
   subst this;exact Int.le_refl _
 | j+1,hij,hj=>by
   by_cases e:i=j+1
   · subst e;exact Int.le_refl _
   · have h1:=h.mono (i:=i) (j:=j) (by omega) (by omega)
     have h2:=h.step (i:=j) hj
     omega
theorem VC.lo (h:VC len cuts dens) {i:Nat} (hi:i<cuts.length):0≤cuts.getD i 0:=by
 have:=h.mono (Nat.zero_le i) hi
 rw [h.2.2.2.2.2.1] at this;exact this
theorem VC.hi (h:VC len cuts dens) {i:Nat} (hi:i<cuts.length):cuts.getD i 0≤len:=by
 have:=h.mono (i:=i) (j:=cuts.length-1) (by omega) (by omega)
 rw [h.2.2.2.2.2.2.1] at this;exact this
theorem VC.den (h:VC len cuts dens) {i:Nat} (hi:i<dens.length):0≤dens.getD i 0∧dens.getD i 0≤12:=by
 rw [List.getD_eq_getElem?_getD,List.getElem?_eq_getElem hi]
 exact h.2.2.2.2.2.2.2.2.1 _ (List.getElem_mem hi)
theorem VC.l1 (h:VC len cuts dens):dens.length+1=cuts.length:=h.2.2.2.2.1
theorem VC.l2 (h:VC len cuts dens):cuts.length≤40:=h.2.2.2.1
theorem VC.len0 (h:VC len cuts dens):1≤len∧len≤1000:=⟨h.1,h.2.1⟩
theorem VC.sc (h:VC len cuts dens) {i:Nat} (hi:i<cuts.length):small ((cuts.getD i 0:Int):Rat):=yfo (by have:=h.lo hi;have:=h.hi hi;have:=h.len0;omega)
theorem VC.sd (h:VC len cuts dens) {i:Nat} (hi:i<dens.length):small ((dens.getD i 0:Int):Rat):=yfo (by have:=h.den hi;omega)
theorem ypW (h:ckC len cuts dens=0):VC len cuts dens:=by
 unfold ckC at h
 split at h
 · omega
 · split at h
   · assumption
   · omega
theorem VC.ck (h:VC len cuts dens):ckC len cuts dens=0:=by
 rw [ckC,if_neg (by have:=h.l2;have:=h.len0;omega),if_pos h]
def totS (cuts dens:List Int):Nat→Nat→Int→Int
 | 0,_,s=>s
 | r+1,i,s=>totS cuts dens r (i+1) (s+dens.getD i 0*(cuts.getD (i+1) 0-cuts.getD i 0))
def totC (cuts dens:List Int):Int:=totS cuts dens dens.length 0 0
theorem yBj {d x:Int} (h:0≤d∧d≤12) (hx:0≤x):0≤d*x∧d*x≤12*x:=⟨Int.mul_nonneg h.1 hx,Int.mul_le_mul_of_nonneg_right h.2 hx⟩
theorem yt4 (h:VC len cuts dens):∀ (r i:Nat) (s:Int),i+r=dens.length→0≤s→s≤12*cuts.getD i 0→0≤totS cuts dens r i s∧totS cuts dens r i s≤12*len
 | 0,i,s,hi,h0,h1=>by
   have:=h.l1
   have:=h.hi (i:=i) (by omega)
   unfold totS
   omega
 | r+1,i,s,hi,h0,h1=>by
   unfold totS
   have l1:=h.l1
   have h2:=h.step (i:=i) (by omega)
   have h3:=yBj (h.den (i:=i) (by omega)) (x:=cuts.getD (i+1) 0-cuts.getD i 0) (by omega)
   exact yt4 h r (i+1) _ (by omega) (by omega) (by omega)
theorem yoI (h:VC len cuts dens):0≤totC cuts dens∧totC cuts dens≤12000:=by
 have l1:=h.l1
 have h0:=h.lo (i:=0) (by omega)
 have:=yt4 h dens.length 0 0 (by omega) (by omega) (by omega)
 have h2:=h.len0
 unfold totC;omega
theorem yt5 (h:VC len cuts dens) (W:Int→List PV→List PV→(Int→Prop)→Prop) (x0:Int→List PV→List PV→Int→List PV→Int→Int→Bool→Prop) :
   ∀ (r i n:Nat) (s:Int),i+r=dens.length→r<n→0≤s→s≤12*cuts.getD i 0 →
     ycJ W x0 n len (ints cuts) (ints dens) s (ints dens) dens.length i=x0 len (ints cuts) (ints dens) (totS cuts dens r i s) (ints dens) dens.length dens.length false
 | 0,i,n+1,s,hi,hn,h0,h1=>by
   unfold ycJ totS
   rw [cbF (by omega)]
   have:(i:Int)=dens.length:=by omega
   rw [this]
 | r+1,i,n+1,s,hi,hn,h0,h1=>by
   unfold ycJ
   have l1:=h.l1;have l2:=h.l2
   have h2:=h.step (i:=i) (by omega)
   have h3:=yBj (h.den (i:=i) (by omega)) (x:=cuts.getD (i+1) 0-cuts.getD i 0) (by omega)
   have a1:=h.lo (i:=i) (by omega)
   have a2:=h.hi (i:=i+1) (by omega)
   have a3:=h.len0
   have e1:=wib (n:=(i:Int)+1) (by omega) (by omega)
   have e2:=wib (n:=cuts.getD (i+1) 0-cuts.getD i 0) (by omega) (by omega)
   have e3:=wib (n:=dens.getD i 0*(cuts.getD (i+1) 0-cuts.getD i 0)) (by omega) (by omega)
   have e4:=wib (n:=s+dens.getD i 0*(cuts.getD (i+1) 0-cuts.getD i 0)) (by omega) (by omega)
   rw [cbT (by omega),ya0,ya0,e1,ymn,Int.toNat_natCast,Int.toNat_natCast,asT (by omega),asT (by omega),asC (by omega),asT (by omega),asT (by omega),asC (by omega),asT (by omega),asT (by omega),asC (by omega),ycm (by omega),ycm (by omega),ycm (by omega),e2,e3,e4]
   exact yt5 h W x0 r (i+1) n _ (by omega) (by omega) (by omega) (by omega)
theorem yCh (h1:cuts.length<4611686018427387904) (h2:dens.length<4611686018427387904) (K:Int→Int→Prop) :
   ydO len (ints cuts) (ints dens) K=if ckC len cuts dens=0 then K (totC cuts dens) 0 else K 0 (ckC len cuts dens):=by
 by_cases h:ckC len cuts dens=0
 · rw [if_pos h]
   refine ytI _ _ _ _ _ (fun K k=>?_) K
   unfold ydO ygl
   have hv:=ypW h
   rw [yjx h1 h2,h,cnF rfl]
   refine ⟨dens.length+1,?_⟩
   have l1:=hv.l1
   have a1:=hv.lo (i:=0) (by omega)
   rw [ya0]
   have:=yt5 hv yau (fun b c d a e f g j=>(K a (0:Int))) dens.length 0 (dens.length+1) 0 (by omega) (by omega) (by omega) (by omega)
   rw [show ((0:Nat):Int)=0 from rfl] at this
   rw [this]
   exact k
 · rw [if_neg h]
   unfold ydO ygl
   rw [yjx h1 h2,cnT h]
def exK (e:Except Int Rat) (K:Int→Int→Int→Prop):Prop:=match e with | .ok q=>K q.num q.den 0 | .error c=>K 0 0 c
def fit {α:Type} (q:Rat) (k:Rat→Except Int α):Except Int α:=if small q then k q else .error 16
def valS (cuts dens:List Int) (b:Rat):Nat→Nat→Rat→Rat→Except Int Rat
 | 0,_,_,sum=>.ok sum
 | r+1,i,p,sum =>
   let en:Rat:=if b<(cuts.getD (i+1) 0:Int) then b else (cuts.getD (i+1) 0:Int)
   if dens.getD i 0=0∨¬p<en then valS cuts dens b r (i+1) (if p<en then en else p) sum
   else fit (en-p) fun l=>fit (l*(dens.getD i 0:Int)) fun w=>fit (sum+w) fun s=>valS cuts dens b r (i+1) en s
def valC (cuts dens:List Int) (a b:Rat):Except Int Rat:=valS cuts dens b dens.length 0 a 0
theorem ye2 {q:Rat} {K:Int→Int→Int→Prop}:fitK q K=if small q then K q.num q.den 0 else K 0 0 16:=rfl
theorem yt6 (h:VC len cuts dens) {b:Rat} (hb:small b) (an ad:Int) (W1:Int→List PV→List PV→(Int→Prop)→Prop) (W2:Int→List PV→List PV→Int→Int→(Bool→Prop)→Prop) (K:Int→Int→Int→Prop) :
   ∀ (r i n:Nat) (p sum:Rat),i+r=dens.length→r<n→small p→small sum →
     yaC W1 W2 ybF ybw ybf ya6 ya5 (fun a d e=>(K a d e)) (fun _ _ _ _ _ _ _ f g _ _ _ _ _ _=>(K f g (0:Int)))
       n len (ints cuts) (ints dens) b.num b.den an ad sum.num sum.den p.num p.den (ints dens) dens.length i=exK (valS cuts dens b r i p sum) K
 | 0,i,n+1,p,sum,hi,hn,hp,hs=>by
   unfold yaC valS
   rw [cbF (by omega)];rfl
 | r+1,i,n+1,p,sum,hi,hn,hp,hs=>by
   unfold yaC
   have l1:=h.l1;have l2:=h.l2
   have sc:=h.sc (i:=i+1) (by omega)
   have sd:=h.sd (i:=i) (by omega)
   have e1:=wib (n:=(i:Int)+1) (by omega) (by omega)
   rw [cbT (by omega),ya0,ya0,e1,ymn,Int.toNat_natCast,Int.toNat_natCast,asT (by omega),asT (by omega),asC (by omega),asT (by omega),asT (by omega),asC (by omega),ycm (by omega),ycm (by omega),yfT,yen hb sc]
   have ih:=fun p sum hp hs=>yt6 h hb an ad W1 W2 K r (i+1) n p sum (by omega) (by omega) hp hs
   unfold valS
   by_cases hbc:b<((cuts.getD (i+1) 0:Int):Rat)
   · rw [cbT hbc]
     simp only [if_pos hbc]
     by_cases hd:dens.getD i 0=0
     · rw [ceT hd,if_pos (.inl hd),yen hp hb]
       by_cases hpb:p<b
       · rw [cbT hpb,if_pos hpb];exact ih b sum hb hs
       · rw [cbF hpb,if_neg hpb];exact ih p sum hp hs
     · rw [ceF hd,yen hp hb]
       by_cases hpb:p<b
       · have hc:¬(dens.getD i 0=0∨¬p<b):=by simp [hpb];exact hd
         rw [if_neg hc,decide_eq_true hpb,Bool.not_true,yac,yst hb hp,ye2]
         by_cases s1:small (b-p)
         · rw [if_pos s1,cnF rfl,yfT,yxm s1 sd,ye2,fit,if_pos s1]
           by_cases s2:small ((b-p)*(dens.getD i 0:Int))
           · rw [if_pos s2,cnF rfl,yxn hs s2,ye2,fit,if_pos s2]
             by_cases s3:small (sum+(b-p)*(dens.getD i 0:Int))
             · rw [if_pos s3,cnF rfl,fit,if_pos s3];exact ih b _ hb s3
             · rw [if_neg s3,cnT (by decide),fit,if_neg s3];rfl
           · rw [if_neg s2,cnT (by decide),fit,if_neg s2];rfl
         · rw [if_neg s1,cnT (by decide),fit,if_neg s1];rfl
       · rw [if_pos (.inr hpb),decide_eq_false hpb,Bool.not_false,yaf,yen hp hb,cbF hpb,if_neg hpb];exact ih p sum hp hs
   · rw [cbF hbc]
     simp only [if_neg hbc]
     obtain ⟨c,hc⟩:∃ c:Rat,c=((cuts.getD (i+1) 0:Int):Rat):=⟨_,rfl⟩
     rw [← hc] at sc ⊢
     by_cases hd:dens.getD i 0=0
     · rw [ceT hd,if_pos (.inl hd),yen hp sc]
       by_cases hpb:p<c
       · rw [cbT hpb,if_pos hpb];exact ih c sum sc hs
       · rw [cbF hpb,if_neg hpb];exact ih p sum hp hs
     · rw [ceF hd,yen hp sc]
       by_cases hpb:p<c
       · have hcc:¬(dens.getD i 0=0∨¬p<c):=by simp [hpb];exact hd
         rw [if_neg hcc,decide_eq_true hpb,Bool.not_true,yac,yst sc hp,ye2]
         by_cases s1:small (c-p)
         · rw [if_pos s1,cnF rfl,yfT,yxm s1 sd,ye2,fit,if_pos s1]
           by_cases s2:small ((c-p)*(dens.getD i 0:Int))
           · rw [if_pos s2,cnF rfl,yxn hs s2,ye2,fit,if_pos s2]
             by_cases s3:small (sum+(c-p)*(dens.getD i 0:Int))
             · rw [if_pos s3,cnF rfl,fit,if_pos s3];exact ih c _ sc s3
             · rw [if_neg s3,cnT (by decide),fit,if_neg s3];rfl
           · rw [if_neg s2,cnT (by decide),fit,if_neg s2];rfl
         · rw [if_neg s1,cnT (by decide),fit,if_neg s1];rfl
       · rw [if_pos (.inr hpb),decide_eq_false hpb,Bool.not_false,yaf,yen hp sc,cbF hpb,if_neg hpb];exact ih p sum hp hs
end
end Go.Pf.Vc
namespace Go.Pf.Vc
open Go Go.Pf
def rt (n d:Int):Rat:=mkRat n d.toNat
theorem yim (q:Rat):rt q.num q.den=q:=by unfold rt;rw [Int.toNat_natCast,Rat.mkRat_self]
theorem yGi {n d:Int} (h:RV n d):small (rt n d)∧(rt n d).num=n∧((rt n d).den:Int)=d:=by
 obtain ⟨q,h1,h2,h3⟩:=yAs h
 subst h2 h3
 rw [yim];exact ⟨h1,rfl,rfl⟩
theorem PT.pt {len n d:Int} (h:PT len n d):small (rt n d)∧(rt n d).num=n∧((rt n d).den:Int)=d∧0≤rt n d∧rt n d≤(len:Rat):=by
 obtain ⟨q,h1,h2,h3,h4,h5⟩:=yFT h
 subst h2 h3
 rw [yim];exact ⟨h1,rfl,rfl,h4,h5⟩
theorem yDz {len:Int} {q:Rat} (h:small q) (h0:0≤q) (h1:q≤(len:Rat)):PT len q.num q.den:=by
 refine ⟨h.rv,Rat.num_nonneg.2 h0,?_⟩
 rw [Rat.le_iff,Rat.num_intCast,Rat.den_intCast] at h1
 simpa using h1
section
variable {len:Int} {cuts dens:List Int}
def valR (len:Int) (cuts dens:List Int) (an ad bn bd:Int):Except Int Rat :=
 if ckC len cuts dens=0 then (if PT len an ad∧PT len bn bd∧¬rt bn bd<rt an ad then valC cuts dens (rt an ad) (rt bn bd) else .error 2) else .error (ckC len cuts dens)
theorem yDA {w:(Int→Int→Int→Prop)→Prop} {e:Except Int Rat} (det:∀ r0 r1 r2,(∀ K:Int→Int→Int→Prop,K r0 r1 r2→w K)→∀ K,w K=K r0 r1 r2) (h:∀ K,exK e K→w K) (K:Int→Int→Int→Prop):w K=exK e K:=by
 cases e with
 | ok q=>exact det _ _ _ h K
 | error c=>exact det _ _ _ h K
theorem yCi (h1:cuts.length<4611686018427387904) (h2:dens.length<4611686018427387904) {an ad bn bd:Int} (ha:I64 an) (ha':I64 ad) (hb:I64 bn) (hb':I64 bd) (K:Int→Int→Int→Prop) :
   yew len (ints cuts) (ints dens) an ad bn bd K=exK (valR len cuts dens an ad bn bd) K:=by
 refine yDA (fun r0 r1 r2 h K=>ytJ _ _ _ _ _ _ _ r0 r1 r2 h K) (fun K k=>?_) K
 unfold yew yiF
 rw [yjx h1 h2]
 unfold valR at k
 by_cases h:ckC len cuts dens=0
 case neg=>rw [cnT h];rw [if_neg h] at k;exact k
 have hv:=ypW h
 have hl:=hv.len0
 rw [if_pos h] at k
 rw [cnF h,yt3 (by omega) ha ha']
 by_cases p1:PT len an ad
 case neg=>rw [decide_eq_false p1,Bool.not_false,yaf];rw [if_neg (fun x=>p1 x.1)] at k;exact k
 rw [decide_eq_true p1,Bool.not_true,yac,yt3 (by omega) hb hb']
 by_cases p2:PT len bn bd
 case neg=>rw [decide_eq_false p2,Bool.not_false,yaf];rw [if_neg (fun x=>p2 x.2.1)] at k;exact k
 rw [decide_eq_true p2,Bool.not_true,yac]
 obtain ⟨s1,e1,e2,_,_⟩:=p1.pt
 obtain ⟨s2,f1,f2,_,_⟩:=p2.pt
 have hless:=yen s2 s1
 rw [e1,e2,f1,f2] at hless
 rw [hless]
 by_cases p3:rt bn bd<rt an ad
 · rw [cbT p3];rw [if_neg (fun x=>x.2.2 p3)] at k;exact k
 rw [cbF p3]
 rw [if_pos ⟨p1,p2,p3⟩] at k
 rw [yfT,ya0]
 refine ⟨dens.length+1,?_⟩
 have:=yt6 hv s2 0 0 yau yby K dens.length 0 (dens.length+1) (rt an ad) 0 (by omega) (by omega) s1 (by decide)
 rw [e1,e2,f1,f2] at this
 exact this.mpr k
def mrkS (cuts dens:List Int):Nat→Nat→Rat→Rat→Except Int Rat
 | 0,_,_,_=>.error 6
 | r+1,i,p,v =>
   if ¬p<(cuts.getD (i+1) 0:Int) then mrkS cuts dens r (i+1) p v
   else if dens.getD i 0=0 then mrkS cuts dens r (i+1) (cuts.getD (i+1) 0:Int) v
   else fit ((cuts.getD (i+1) 0:Int)-p) fun l=>fit (l*(dens.getD i 0:Int)) fun w =>
     if w<v then fit (v-w) fun v'=>mrkS cuts dens r (i+1) (cuts.getD (i+1) 0:Int) v'
     else fit (v / (dens.getD i 0:Int)) fun s=>fit (p+s) .ok
def mrkC (cuts dens:List Int) (a v:Rat):Except Int Rat:=if v=0 then .ok a else mrkS cuts dens dens.length 0 a v
def mrkR (len:Int) (cuts dens:List Int) (an ad vn vd:Int):Except Int Rat :=
 if ckC len cuts dens=0 then (if PT len an ad∧RV vn vd∧0≤vn then mrkC cuts dens (rt an ad) (rt vn vd) else .error 2) else .error (ckC len cuts dens)
theorem yvL (h:VC len cuts dens) (W1:Int→List PV→List PV→(Int→Prop)→Prop) (W2:Int→List PV→List PV→Int→Int→(Bool→Prop)→Prop) (W3:Int→Int→(Int→Prop)→Prop) (K:Int→Int→Int→Prop) :
   ∀ (r i n:Nat) (p v:Rat) (o1 o2:Int),i+r=dens.length→r<n→small p→small v →
     yaU W1 W2 W3 ybw ybF ybf ya6 ycd ya5
       (fun _ _ b d f a=>(cbr (a !=(0:Int)) (cbr (a !=(0:Int)) (K (0:Int) (0:Int) a) (K b d (0:Int))) (cbr (f !=(0:Int)) (K (0:Int) (0:Int) f) (K b d (0:Int)))))
       (fun _ _ j k g _ _ _ _ _ _ _ _ _=>(cbr (g !=(0:Int)) (K (0:Int) (0:Int) g) (K j k (0:Int))))
       n v.num v.den o1 o2 6 len (ints cuts) (ints dens) p.num p.den (ints dens) dens.length i=exK (mrkS cuts dens r i p v) K
 | 0,i,n+1,p,v,o1,o2,hi,hn,hp,hs=>by
   unfold yaU mrkS
   rw [cbF (by omega)];rfl
 | r+1,i,n+1,p,v,o1,o2,hi,hn,hp,hs=>by
   unfold yaU
   have l1:=h.l1;have l2:=h.l2
   have sc:=h.sc (i:=i+1) (by omega)
   have sd:=h.sd (i:=i) (by omega)
   have hd0:=h.den (i:=i) (by omega)
   have e1:=wib (n:=(i:Int)+1) (by omega) (by omega)
   rw [cbT (by omega),ya0,ya0,e1,ymn,Int.toNat_natCast,Int.toNat_natCast,asT (by omega),asT (by omega),asC (by omega),asT (by omega),asT (by omega),asC (by omega),ycm (by omega),ycm (by omega),yfT,yen hp sc]
   have ih:=fun p v o1 o2 hp hs=>yvL h W1 W2 W3 K r (i+1) n p v o1 o2 (by omega) (by omega) hp hs
   unfold mrkS
   obtain ⟨c,hc⟩:∃ c:Rat,c=((cuts.getD (i+1) 0:Int):Rat):=⟨_,rfl⟩
   rw [← hc] at sc ⊢
   by_cases hpc:p<c
   case neg=>rw [decide_eq_false hpc,Bool.not_false,yaf,if_pos hpc];exact ih p v o1 o2 hp hs
   rw [decide_eq_true hpc,Bool.not_true,yac,if_neg (fun x=>x hpc),yfT]
   by_cases hd:dens.getD i 0=0
   · rw [cbF (by omega),ceT hd,if_pos hd];exact ih c v o1 o2 sc hs
   rw [cbT (by omega),if_neg hd,yst sc hp,ye2]
   by_cases s1:small (c-p)
   case neg=>rw [if_neg s1,cnT (by decide),cnT (by decide),cnT (by decide),fit,if_neg s1];rfl
   rw [if_pos s1,cnF rfl,yfT,yxm s1 sd,ye2,fit,if_pos s1]
   by_cases s2:small ((c-p)*(dens.getD i 0:Int))
   case neg=>rw [if_neg s2,cnT (by decide),cnT (by decide),cnT (by decide),fit,if_neg s2];rfl
   rw [if_pos s2,cnF rfl,ceF hd,yen s2 hs,fit,if_pos s2]
   by_cases hw:(c-p)*(dens.getD i 0:Int)<v
   · rw [cbT hw,if_pos hw,yst hs s2,ye2,fit]
     by_cases s3:small (v-(c-p)*(dens.getD i 0:Int))
     · rw [if_pos s3,if_pos s3,cnF rfl,cnF rfl];exact ih c _ o1 o2 sc s3
     · rw [if_neg s3,if_neg s3,cnT (by decide),cnT (by decide),cnF rfl,cnT (by decide)];rfl
   · have hdn:((dens.getD i 0:Int):Rat)≠0:=fun e=>hd (Rat.intCast_eq_zero_iff.1 e)
     rw [cbF hw,if_neg hw,yfT,yEO hs sd hdn,ye2,fit]
     by_cases s3:small (v / (dens.getD i 0:Int))
     · rw [if_pos s3,if_pos s3,ceT rfl,yxn hp s3,ye2,fit]
       by_cases s4:small (p+v / (dens.getD i 0:Int))
       · rw [if_pos s4,if_pos s4,cnF rfl,cnF rfl];rfl
       · rw [if_neg s4,if_neg s4,cnF rfl,cnT (by decide)];rfl
     · rw [if_neg s3,if_neg s3,ceF (by decide),cnF rfl,cnT (by decide)];rfl
theorem yDB (h1:cuts.length<4611686018427387904) (h2:dens.length<4611686018427387904) {an ad vn vd:Int} (ha:I64 an) (ha':I64 ad) (hv:I64 vn) (hv':I64 vd) (K:Int→Int→Int→Prop) :
   yfl len (ints cuts) (ints dens) an ad vn vd K=exK (mrkR len cuts dens an ad vn vd) K:=by
 refine yDA (fun r0 r1 r2 h K=>yuM _ _ _ _ _ _ _ r0 r1 r2 h K) (fun K k=>?_) K
 unfold yfl ykv
 rw [yjx h1 h2]
 unfold mrkR at k
 by_cases h:ckC len cuts dens=0
 case neg=>rw [cnT h];rw [if_neg h] at k;exact k
 have hc:=ypW h
 have hl:=hc.len0
 rw [if_pos h] at k
 rw [cnF h,yt3 (by omega) ha ha']
 by_cases p1:PT len an ad
 case neg=>rw [decide_eq_false p1,Bool.not_false,yaf];rw [if_neg (fun x=>p1 x.1)] at k;exact k
 rw [decide_eq_true p1,Bool.not_true,yac,yq1 hv hv',chk]
 by_cases p2:RV vn vd
 case neg=>rw [if_neg p2,cnT (by decide)];rw [if_neg (fun x=>p2 x.2.1)] at k;exact k
 rw [if_pos p2,cnF rfl]
 by_cases p3:vn<0
 · rw [cbT p3];rw [if_neg (fun x=>by omega)] at k;exact k
 rw [cbF p3]
 rw [if_pos ⟨p1,p2,by omega⟩] at k
 obtain ⟨s1,e1,e2,_,_⟩:=p1.pt
 obtain ⟨s2,f1,f2⟩:=yGi p2
 unfold mrkC at k
 by_cases p4:vn=0
 · rw [ceT p4]
   rw [if_pos (Rat.num_eq_zero.1 (f1.trans p4))] at k
   have k:K (rt an ad).num (rt an ad).den 0:=k
   rw [e1,e2] at k
   exact k
 rw [ceF p4]
 rw [if_neg (fun x=>p4 (by rw [← f1,x];rfl))] at k
 rw [ya0]
 refine ⟨dens.length+1,?_⟩
 have:=yvL hc yau yby yaE K dens.length 0 (dens.length+1) (rt an ad) (rt vn vd) 0 0 (by omega) (by omega) s1 s2
 rw [e1,e2,f1,f2] at this
 exact this.mpr k
end
end Go.Pf.Vc
namespace Go.Pf.Vc
open Go Go.Pf
section
variable {len:Int} {cuts dens:List Int}
def okD (cuts dens:List Int) (i:Nat):Prop:=∀ j,i≤j→j<dens.length→cuts.getD j 0<cuts.getD (j+1) 0∧0≤dens.getD j 0∧dens.getD j 0≤12
theorem ymo (l1:dens.length+1=cuts.length) (l2:dens.length<4611686018427387904) (x0:Int→Prop) (x1:Int→List PV→List PV→Bool→Int→Bool→Prop) (P:Prop)
   (hbad:¬okD cuts dens 0→x0 8=P) (hgood:∀ b:Bool,okD cuts dens 0→b=decide (∃ j,j<dens.length∧0<dens.getD j 0)→x1 len (ints cuts) (ints dens) b dens.length false=P) :
   ∀ (r i n:Nat) (b:Bool),i+r=dens.length→r<n→(∀ j,j<i→cuts.getD j 0<cuts.getD (j+1) 0∧0≤dens.getD j 0∧dens.getD j 0≤12)→b=decide (∃ j,j<i∧0<dens.getD j 0) →
     ycp x0 x1 n len (ints cuts) (ints dens) b i=P
 | 0,i,n+1,b,hi,hn,hj,hb=>by
   unfold ycp
   rw [ya0,cbF (by omega),show (i:Int)=dens.length by omega]
   refine hgood b (fun j _ h=>hj j (by omega)) ?_
   rw [hb,decide_eq_decide]
   rw [show i=dens.length by omega]
 | r+1,i,n+1,b,hi,hn,hj,hb=>by
   unfold ycp
   have e1:=wib (n:=(i:Int)+1) (by omega) (by omega)
   rw [ya0,ya0,cbT (by omega),e1,ymn,Int.toNat_natCast,Int.toNat_natCast,asT (by omega),asT (by omega),asC (by omega),asT (by omega),asT (by omega),asC (by omega),ycm (by omega),ycm (by omega)]
   have bad:¬(cuts.getD i 0<cuts.getD (i+1) 0∧0≤dens.getD i 0∧dens.getD i 0≤12)→x0 8=P:=fun h=>hbad fun hk=>h (hk i (by omega) (by omega))
   by_cases a1:cuts.getD (i+1) 0≤cuts.getD i 0
   · rw [cbT a1];exact bad (by omega)
   rw [cbF a1,asT (by omega),asT (by omega),asC (by omega),ycm (by omega)]
   by_cases a2:dens.getD i 0<0
   · rw [cbT a2];exact bad (by omega)
   rw [cbF a2,asT (by omega),asT (by omega),asC (by omega)]
   by_cases a3:dens.getD i 0>12
   · rw [cbT a3];exact bad (by omega)
   rw [cbF a3]
   have hj2:∀ j,j<i+1→cuts.getD j 0<cuts.getD (j+1) 0∧0≤dens.getD j 0∧dens.getD j 0≤12:=by
     intro j hlt
     by_cases e:j=i
     · subst e;omega
     · exact hj j (by omega)
   have ex:∀ c:Bool,(c=true↔(b=true∨0<dens.getD i 0))→c=decide (∃ j,j<i+1∧0<dens.getD j 0):=by
     intro c hc
     rw [Bool.eq_iff_iff,hc,hb,decide_eq_true_iff,decide_eq_true_iff]
     constructor
     · rintro (⟨j,h1,h2⟩ | h)
       · exact ⟨j,by omega,h2⟩
       · exact ⟨i,by omega,h⟩
     · rintro ⟨j,h1,h2⟩
       by_cases e:j=i
       · subst e;exact .inr h2
       · exact .inl ⟨j,by omega,h2⟩
   cases b with
   | true =>
     rw [yaf]
     exact ymo l1 l2 x0 x1 P hbad hgood r (i+1) n true (by omega) (by omega) hj2 (ex _ (by simp))
   | false =>
     rw [yac,asT (by omega),asT (by omega),asC (by omega)]
     exact ymo l1 l2 x0 x1 P hbad hgood r (i+1) n _ (by omega) (by omega) hj2 (ex _ (by simp))
theorem yvM (h1:cuts.length<4611686018427387904) (h2:dens.length<4611686018427387904) (K:Int→Prop) :
   ybW len (ints cuts) (ints dens) K=K (ckC len cuts dens):=by
 refine yuR _ _ _ _ (fun K k=>?_) K
 unfold ybW ykC
 simp only [ya0]
 have bad:¬(len>1000∨cuts.length>40)→¬VC len cuts dens→K 8:=fun h h2=>by
   rw [ckC,if_neg h,if_neg h2] at k;exact k
 by_cases a1:len>1000
 · rw [cbT a1];rw [ckC,if_pos (.inl a1)] at k;exact k
 rw [cbF a1]
 by_cases a2:cuts.length>40
 · rw [cbT (by omega)];rw [ckC,if_pos (.inr a2)] at k;exact k
 have a12:¬(len>1000∨cuts.length>40):=by omega
 rw [cbF (by omega)]
 by_cases a3:len<1
 · rw [cbT a3];exact bad a12 (fun h=>by have:=h.1;omega)
 rw [cbF a3]
 by_cases a4:cuts.length<2
 · rw [cbT (by omega)];exact bad a12 (fun h=>by have:=h.2.2.1;omega)
 rw [cbF (by omega),wib (n:=(cuts.length:Int)-1) (by omega) (by omega)]
 by_cases a5:dens.length+1=cuts.length
 case neg=>rw [cnT (by omega)];exact bad a12 (fun h=>a5 h.2.2.2.2.1)
 rw [cnF (by omega),asT (by omega),asC (by omega),ycm (by omega)]
 by_cases a6:cuts.getD 0 0=0
 case neg=>rw [cnT a6];exact bad a12 (fun h=>a6 h.2.2.2.2.2.1)
 rw [cnF a6,asT (by omega),asT (by omega),asC (by omega),ycm (by omega)]
 have en:((cuts.length:Int)-1).toNat=cuts.length-1:=by omega
 rw [en]
 by_cases a7:cuts.getD (cuts.length-1) 0=len
 case neg=>rw [cnT a7];exact bad a12 (fun h=>a7 h.2.2.2.2.2.2.1)
 rw [cnF a7]
 have mem:∀ d,d∈dens↔∃ j,j<dens.length∧dens.getD j 0=d:=by
   intro d
   rw [List.mem_iff_getElem]
   constructor
   · rintro ⟨j,hj,e⟩;exact ⟨j,hj,by rw [List.getD_eq_getElem?_getD,List.getElem?_eq_getElem hj];exact e⟩
   · rintro ⟨j,hj,e⟩;exact ⟨j,hj,by rw [List.getD_eq_getElem?_getD,List.getElem?_eq_getElem hj] at e;exact e⟩
 refine ⟨dens.length+1,?_⟩
 refine (ymo a5 h2 _ _ (K (ckC len cuts dens)) (fun hk=>?_) (fun b hk hb=>?_) dens.length 0 (dens.length+1) false (by omega) (by omega) (fun j h=>by omega) (by simp)).mpr k
 · have hv:¬VC len cuts dens:=fun h=>hk fun j _ hj=>⟨h.step (by omega),h.den hj⟩
   rw [ckC,if_neg a12,if_neg hv]
 · have hsome:yt2 dens↔∃ j,j<dens.length∧0<dens.getD j 0:=by
     constructor
     · rintro ⟨d,hd,h0⟩
       obtain ⟨j,hj,e⟩:=(mem d).1 hd
       exact ⟨j,hj,by rw [e];exact h0⟩
     · rintro ⟨j,hj,h0⟩;exact ⟨_,(mem _).2 ⟨j,hj,rfl⟩,h0⟩
   have hv:VC len cuts dens↔yt2 dens:=by
     refine ⟨fun h=>h.2.2.2.2.2.2.2.2.2,fun h=>⟨by omega,by omega,by omega,by omega,a5,a6,a7,fun j _ hj=>(hk j (by omega) (by omega)).1,fun d hd=>?_,h⟩⟩
     obtain ⟨j,hj,e⟩:=(mem d).1 hd
     rw [← e];exact (hk j (by omega) hj).2
   rw [ckC,if_neg a12]
   by_cases hs:yt2 dens
   · rw [if_pos (hv.2 hs),hb,decide_eq_true (hsome.1 hs)];rfl
   · rw [if_neg (fun x=>hs (hv.1 x)),hb,decide_eq_false (fun x=>hs (hsome.2 x))];rfl
end
end Go.Pf.Vc
namespace Go.Pf.Vc
open Go Go.Pf
section
variable {len:Int} {cuts dens:List Int}
theorem yiT {α:Type} {q:Rat} {k:Rat→Except Int α} (h:small q):fit q k=k q:=if_pos h
theorem yDC {q:Rat} {K:Int→Int→Int→Prop}:exK (.ok q) K=K q.num q.den 0:=rfl
theorem yDD {c:Int} {K:Int→Int→Int→Prop}:exK (.error c) K=K 0 0 c:=rfl
end
end Go.Pf.Vc
namespace Go.Pf.Vc
open Go Go.Pf
structure Ck where
 len:Int
 cuts:List Int
 dens:List Int
instance:Inhabited Ck:=⟨⟨0,[],[]⟩⟩
def encC (c:Ck):PV:=.agg [.int .i64 c.len,.data (ints c.cuts),.data (ints c.dens)]
def cks (l:List Ck):List PV:=l.map encC
def Ck.fin (c:Ck):Prop:=c.cuts.length<4611686018427387904∧c.dens.length<4611686018427387904
def Ck.err (c:Ck):Int:=ckC c.len c.cuts c.dens
def Ck.ok (c:Ck):Prop:=VC c.len c.cuts c.dens
instance (c:Ck):Decidable c.ok:=by unfold Ck.ok;infer_instance
theorem yaX (l:List Ck):(cks l).length=l.length:=List.length_map ..
theorem yfb {l:List Ck} {i:Nat} (h:i<l.length):List.getD (cks l) i .nils=encC (l.getD i default):=by
 unfold cks
 rw [List.getD_eq_getElem?_getD,List.getD_eq_getElem?_getD,List.getElem?_map,List.getElem?_eq_getElem h]
 rfl
theorem yeB {α:Type} {l:List α} {i:Nat} (d:α) (h:i<l.length):l.drop i=l.getD i d::l.drop (i+1):=by
 rw [List.drop_eq_getElem_cons h,List.getD_eq_getElem?_getD,List.getElem?_eq_getElem h];rfl
theorem asCk {c:Ck} {P:Prop}:asr (conf (.agg [.i .i64,.d,.d]) (encC c)) P=P:=rfl
theorem ck0 (c:Ck):yaa (yae (encC c) 0)=c.len:=rfl
theorem ck1 (c:Ck):yc0 (yae (encC c) 1)=ints c.cuts:=rfl
theorem ck2 (c:Ck):yc0 (yae (encC c) 2)=ints c.dens:=rfl
def yeR:List Ck→Int
 | []=>0
 | c::t=>if c.err=0 then yeR t else c.err
def yh1 (n:Int):List Ck→Bool
 | []=>true
 | c::t=>decide (c.len=n)&&yh1 n t
def yeo (l:List Ck) (m:Nat):Int :=
 if l.length>6 then 4 else if m>2000 then 4 else if l.length=0 then 8 else if yeR l=0 then (if yh1 (l.getD 0 default).len l then 0 else 8) else yeR l
section
variable {l:List Ck}
def finC (l:List Ck):Prop:=∀ i,i<l.length→(l.getD i default).fin
theorem yBk (hf:finC l) (hl:l.length<4611686018427387904) (x0:Int→Prop) (x1:List PV→List PV→List PV→Int→Int→Bool→Prop) (lg:List PV) :
   ∀ (r i n:Nat),i+r=l.length→r<n→yc6 yau x0 x1 n (cks l) lg (cks l) l.length i =
     if yeR (l.drop i)=0 then x1 (cks l) lg (cks l) l.length l.length false else x0 (yeR (l.drop i))
 | 0,i,n+1,hi,hn=>by
   unfold yc6
   rw [cbF (by omega),List.drop_of_length_le (by omega),show (i:Int)=l.length by omega];rfl
 | r+1,i,n+1,hi,hn=>by
   unfold yc6
   have e1:=wib (n:=(i:Int)+1) (by omega) (by omega)
   obtain ⟨f1,f2⟩:=hf i (by omega)
   rw [cbT (by omega),yaX,Int.toNat_natCast,yfb (by omega),asT (by omega),asT (by omega),asCk,ck0,ck1,ck2,yjx (by omega) (by omega),yeB default (by omega),yeR,e1,ymn]
   show cbr ((l.getD i default).err != 0) _ _=_
   by_cases h:(l.getD i default).err=0
   · rw [cnF h,if_pos h];exact yBk hf hl x0 x1 lg r (i+1) n (by omega) (by omega)
   · rw [cnT h,if_neg h,if_neg h];rfl
theorem yBl (hl:l.length<4611686018427387904) (x0:Int→Prop) (x1:List PV→List PV→List PV→Int→Int→Bool→Prop) (lg:List PV) (W) :
   ∀ (r i n:Nat),i+r=l.length→r<n→yco W x0 x1 n (cks l) lg (cks l) l.length i =
     if yh1 (l.getD 0 default).len (l.drop i) then x1 (cks l) lg (cks l) l.length l.length false else x0 8
 | 0,i,n+1,hi,hn=>by
   unfold yco
   rw [cbF (by omega),List.drop_of_length_le (by omega),show (i:Int)=l.length by omega];rfl
 | r+1,i,n+1,hi,hn=>by
   unfold yco
   have e1:=wib (n:=(i:Int)+1) (by omega) (by omega)
   rw [cbT (by omega),yaX,Int.toNat_natCast,yfb (by omega),yfb (by omega),asT (by omega),asT (by omega),asCk,asT (by omega),asCk,ck0,ck0,yeB default (by omega),yh1,e1,ymn]
   by_cases h:(l.getD i default).len=(l.getD 0 default).len
   · rw [cnF h,decide_eq_true h,Bool.true_and];exact yBl hl x0 x1 lg W r (i+1) n (by omega) (by omega)
   · rw [cnT h,decide_eq_false h,Bool.false_and,if_neg (by simp)]
theorem yjy (hf:finC l) (hl:l.length<4611686018427387904) (lg:List PV) (K:Int→Prop):ybg (cks l) lg K=K (yeo l lg.length):=by
 refine yuP _ _ _ (fun K k=>?_) K
 unfold ybg ykx
 unfold yeo at k
 rw [yaX]
 by_cases a1:l.length>6
 · rw [cbT (by omega)];rw [if_pos a1] at k;exact k
 rw [cbF (by omega)];rw [if_neg a1] at k
 by_cases a2:lg.length>2000
 · rw [cbT (by omega)];rw [if_pos a2] at k;exact k
 rw [cbF (by omega)];rw [if_neg a2] at k
 by_cases a3:l.length=0
 · rw [ceT (by omega)];rw [if_pos a3] at k;exact k
 rw [ceF (by omega)];rw [if_neg a3] at k
 refine ⟨l.length+1,?_⟩
 have h0:=yBk hf hl (fun c=>K c) (fun a d o p q r=>(∃ e:Nat,yco yau (fun b=>(K b)) (fun f g i j m n=>(K (0:Int))) e a d a (((List.length a):Nat):Int) (0:Int))) lg l.length 0 (l.length+1) (by omega) (by omega)
 rw [show ((0:Nat):Int)=0 from rfl,List.drop_zero] at h0
 rw [h0]
 by_cases a4:yeR l=0
 · rw [if_pos a4] at k ⊢
   refine ⟨l.length+1,?_⟩
   have h1:=yBl hl (fun b=>(K b)) (fun f g i j m n=>(K (0:Int))) lg yau l.length 0 (l.length+1) (by omega) (by omega)
   rw [show ((0:Nat):Int)=0 from rfl,List.drop_zero] at h1
   rw [yaX,h1]
   split at k <;> rename_i h <;> simp only [h] <;> exact k
 · rw [if_neg a4] at k ⊢;exact k
theorem yBm (hf:finC l) (hl:l.length<4611686018427387904) (x0:Int→Prop) (x1:List PV→List PV→Int→Bool→Prop) (lg:List PV) :
   ∀ (r i n:Nat),i+r=l.length→r<n→yc7 ybW x0 x1 n (cks l) lg i =
     if yeR (l.drop i)=0 then x1 (cks l) lg l.length false else x0 (yeR (l.drop i))
 | 0,i,n+1,hi,hn=>by
   unfold yc7
   rw [yaX,cbF (by omega),List.drop_of_length_le (by omega),show (i:Int)=l.length by omega];rfl
 | r+1,i,n+1,hi,hn=>by
   unfold yc7
   have e1:=wib (n:=(i:Int)+1) (by omega) (by omega)
   obtain ⟨f1,f2⟩:=hf i (by omega)
   rw [yaX,cbT (by omega),Int.toNat_natCast,yfb (by omega),asT (by omega),asT (by omega),asCk,ck0,ck1,ck2,yvM (by omega) (by omega),yeB default (by omega),yeR,e1,ymn]
   show cbr ((l.getD i default).err != 0) _ _=_
   by_cases h:(l.getD i default).err=0
   · rw [cnF h,if_pos h];exact yBm hf hl x0 x1 lg r (i+1) n (by omega) (by omega)
   · rw [cnT h,if_neg h,if_neg h,asT (by omega),asT (by omega),asCk,yvM (by omega) (by omega)];rfl
theorem yBn (hl:l.length<4611686018427387904) (x0:Int→Prop) (x1:List PV→List PV→Int→Bool→Prop) (lg:List PV) (W) :
   ∀ (r i n:Nat),i+r=l.length→r<n→ycq W x0 x1 n (cks l) lg i =
     if yh1 (l.getD 0 default).len (l.drop i) then x1 (cks l) lg l.length false else x0 8
 | 0,i,n+1,hi,hn=>by
   unfold ycq
   rw [yaX,cbF (by omega),List.drop_of_length_le (by omega),show (i:Int)=l.length by omega];rfl
 | r+1,i,n+1,hi,hn=>by
   unfold ycq
   have e1:=wib (n:=(i:Int)+1) (by omega) (by omega)
   rw [yaX,cbT (by omega),Int.toNat_natCast,yfb (by omega),yfb (by omega),asT (by omega),asT (by omega),asCk,asT (by omega),asCk,ck0,ck0,yeB default (by omega),yh1,e1,ymn]
   by_cases h:(l.getD i default).len=(l.getD 0 default).len
   · rw [cnF h,decide_eq_true h,Bool.true_and];exact yBn hl x0 x1 lg W r (i+1) n (by omega) (by omega)
   · rw [cnT h,decide_eq_false h,Bool.false_and,if_neg (by simp)]
theorem yCj (hf:finC l) (hl:l.length<4611686018427387904) (lg:List PV) (K:Int→Prop):yfn (cks l) lg K=K (yeo l lg.length):=by
 refine yuS _ _ _ (fun K k=>?_) K
 unfold yfn ykE
 unfold yeo at k
 rw [yaX]
 by_cases a1:l.length>6
 · rw [cbT (by omega)];rw [if_pos a1] at k;exact k
 rw [cbF (by omega)];rw [if_neg a1] at k
 by_cases a2:lg.length>2000
 · rw [cbT (by omega)];rw [if_pos a2] at k;exact k
 rw [cbF (by omega)];rw [if_neg a2] at k
 by_cases a3:l.length=0
 · rw [ceT (by omega)];rw [if_pos a3] at k;exact k
 rw [ceF (by omega)];rw [if_neg a3] at k
 refine ⟨l.length+1,?_⟩
 have h0:=yBm hf hl (fun b=>K b) (fun c d m n=>(∃ e:Nat,ycq ybW (fun a=>(K a)) (fun f g i j=>(K (0:Int))) e c d (0:Int))) lg l.length 0 (l.length+1) (by omega) (by omega)
 rw [show ((0:Nat):Int)=0 from rfl,List.drop_zero] at h0
 rw [h0]
 by_cases a4:yeR l=0
 · rw [if_pos a4] at k ⊢
   refine ⟨l.length+1,?_⟩
   have h1:=yBn hl (fun a=>(K a)) (fun f g i j=>(K (0:Int))) lg ybW l.length 0 (l.length+1) (by omega) (by omega)
   rw [show ((0:Nat):Int)=0 from rfl,List.drop_zero] at h1
   rw [h1]
   split at k <;> rename_i h <;> simp only [h] <;> exact k
 · rw [if_neg a4] at k ⊢;exact k
def Ck.low (c:Ck):Prop:=c.cuts.length≤1000∧c.dens.length≤1000
def lowC (l:List Ck):Prop:=∀ i,i<l.length→(l.getD i default).low
theorem yyZ (l:List Int):ydp 1 (ints l)=true:=by cases l <;> rfl
theorem ypX {l:List Int} (h:l.length≤1000) (K:List PV→Prop):yde (ints l) K=K (ints l):=by
 show asr (ye0 1 8 (ints l)) (K (ints l))=_
 have:ye0 1 8 (ints l)=true:=by
   unfold ye0
   rw [yyZ,ya0,Bool.true_and,decide_eq_true_iff]
   unfold room;omega
 rw [this,yaj]
theorem asTT {c:Bool} {P:Prop} (h:c=true):asr c P=P:=by rw [h,yaj]
theorem yBo (hf:lowC l) (hl:l.length≤1000) (x0:List PV→List PV→Int→Int→Bool→Prop) (x1:List PV→Int→Int→Bool→Prop) :
   ∀ (r i n:Nat) (acc:List PV),i+r=l.length→r<n→acc.length≤i→ycK yde x0 x1 n acc (cks l) l.length i=x0 (acc++cks (l.drop i)) (cks l) l.length l.length false
 | 0,i,n+1,acc,hi,hn,ha=>by
   unfold ycK
   rw [cbF (by omega),List.drop_of_length_le (by omega),show (i:Int)=l.length by omega]
   show _=x0 (acc++[]) _ _ _ _
   rw [List.append_nil]
 | r+1,i,n+1,acc,hi,hn,ha=>by
   unfold ycK
   have e1:=wib (n:=(i:Int)+1) (by omega) (by omega)
   obtain ⟨f1,f2⟩:=hf i (by omega)
   rw [cbT (by omega),yaX,Int.toNat_natCast,yfb (by omega),asT (by omega),asT (by omega),asCk,ck0,ck1,ck2,ypX f1,ypX f2,asT rfl,asT (by omega),asTT (by rw [decide_eq_false (by omega)];rfl),asT rfl,asT (by unfold room;omega),asTT (by simp),e1,ymn]
   rw [yBo hf hl x0 x1 r (i+1) n _ (by omega) (by omega) (by simp;omega),yeB (i:=i) default (by omega),List.append_assoc];rfl
theorem yq2 (hf:lowC l) (hl:l.length≤1000) (K:List PV→Prop):ydh (cks l) K=K (cks l):=by
 refine ytK _ _ (fun K k=>?_) K
 unfold ydh yiI
 cases hc:l with
 | nil =>
   refine ⟨0+1,?_⟩
   rw [hc] at k
   rw [yex,yaX,cbF (by simp)]
   exact k
 | cons c t =>
   rw [← hc]
   have h0:0<l.length:=by rw [hc];exact Nat.zero_lt_succ _
   refine ⟨(l.length+1)+1,?_⟩
   rw [yex]
   obtain ⟨f1,f2⟩:=hf 0 (by omega)
   have e1:=wib (n:=(0:Int)+1) (by omega) (by omega)
   rw [yaX,cbT (by omega),show (0:Int).toNat=0 from rfl,yfb (by omega),asT (by omega),asT (by omega),asCk,ck0,ck1,ck2,ypX f1,ypX f2,asTT (by simp),e1,show (0:Int)+1=((0+1:Nat):Int) from rfl]
   rw [yBo hf hl _ _ (l.length-1) (0+1) (l.length+1) _ (by omega) (by omega) (by simp)]
   have e:[PV.agg [PV.int IntKind.i64 (l.getD 0 default).len,PV.data (ints (l.getD 0 default).cuts),PV.data (ints (l.getD 0 default).dens)]]++cks (l.drop (0+1))=cks l:=by
     conv=>rhs;rw [← List.drop_zero (l:=l),yeB default h0]
     rfl
   rw [e,asT rfl,asT (by omega),List.take_length]
   exact k
end
end Go.Pf.Vc
namespace Go.Pf.Vc
open Go Go.Pf
section
variable {l:List Ck}
theorem yrz:∀ (l:List Ck),yeR l=0→∀ i,i<l.length→(l.getD i default).ok
 | c::t,h,0,_=>by
   unfold yeR at h
   split at h
   · rename_i h1;exact ypW h1
   · rename_i h1;exact absurd h h1
 | c::t,h,i+1,hi=>by
   unfold yeR at h
   split at h
   · exact yrz t h i (by simpa using hi)
   · rename_i h1;exact absurd h h1
theorem yt7 {n:Int}:∀ (l:List Ck),yh1 n l=true→∀ i,i<l.length→(l.getD i default).len=n
 | c::t,h,0,_=>by
   unfold yh1 at h
   simp only [Bool.and_eq_true,decide_eq_true_eq] at h
   exact h.1
 | c::t,h,i+1,hi=>by
   unfold yh1 at h
   simp only [Bool.and_eq_true,decide_eq_true_eq] at h
   exact yt7 t h.2 i (by simpa using hi)
structure DK (l:List Ck):Prop where
 n6:l.length≤6
 n0:1≤l.length
 ok:∀ i,i<l.length→(l.getD i default).ok
 len:∀ i,i<l.length→(l.getD i default).len=(l.getD 0 default).len
theorem yh2 {m:Nat} (h:yeo l m=0):DK l∧m≤2000:=by
 unfold yeo at h
 split at h
 · omega
 split at h
 · omega
 split at h
 · omega
 split at h
 · rename_i h0 h1 h2 h3
   split at h
   · rename_i h4
     exact ⟨⟨by omega,by omega,yrz l h3,yt7 l h4⟩,by omega⟩
   · omega
 · rename_i h3;exact absurd h h3
theorem DK.err {l:List Ck} (h:DK l) {m:Nat} (hm:m≤2000):yeo l m=0:=by
 have f:∀ l:List Ck,(∀ i,i<l.length→(l.getD i default).ok)→yeR l=0:=by
   intro l
   induction l with
   | nil=>intro _;rfl
   | cons c t ih =>
     intro h
     unfold yeR
     rw [if_pos (show c.err=0 from (h 0 (Nat.zero_lt_succ _)).ck)]
     exact ih fun i hi=>h (i+1) (by simpa using hi)
 have g:∀ (n:Int) (l:List Ck),(∀ i,i<l.length→(l.getD i default).len=n)→yh1 n l=true:=by
   intro n l
   induction l with
   | nil=>intro _;rfl
   | cons c t ih =>
     intro h
     unfold yh1
     rw [Bool.and_eq_true,decide_eq_true_eq]
     exact ⟨h 0 (Nat.zero_lt_succ _),ih fun i hi=>h (i+1) (by simpa using hi)⟩
 have:=h.n6;have:=h.n0
 unfold yeo
 rw [if_neg (by omega),if_neg (by omega),if_neg (by omega),if_pos (f l h.ok),if_pos (g _ l h.len)]
theorem DK.low {l:List Ck} (h:DK l):lowC l:=fun i hi=>by
 have h1:=(h.ok i hi).l1;have h2:=(h.ok i hi).l2
 exact ⟨by omega,by omega⟩
theorem DK.fin {l:List Ck} (h:DK l):finC l:=fun i hi=>by
 have h1:=(h.ok i hi).l1;have h2:=(h.ok i hi).l2
 exact ⟨by omega,by omega⟩
theorem yt8 (hf:finC l) (hl:l.length<4611686018427387904) (K:List PV→List PV→Int→Prop):yaJ (cks l) K=if yeo l 0=0 then K (cks l) [] 0 else K [] [] (yeo l 0):=by
 unfold yaJ ylP
 rw [yjy hf hl]
 show cbr (yeo l 0 != 0) _ _=_
 by_cases h:yeo l 0=0
 · have hd:=(yh2 h).1
   rw [cnF h,if_pos h,yq2 hd.low (by have:=hd.n6;omega)]
 · rw [cnT h,if_neg h];rfl
def qrow (agent kind an ad bn bd cn cd:Int):PV:=.agg [.int .i64 agent,.int .u8 kind,.int .i64 an,.int .i64 ad,.int .i64 bn,.int .i64 bd,.int .i64 cn,.int .i64 cd]
def qryR (l:List Ck) (m:Nat) (agent:Int) (ans:Ck→Except Int Rat):Except Int Rat :=
 if yeo l m=0 then (if 0≤agent∧agent<l.length then (match ans (l.getD agent.toNat default) with
   | .ok p=>if m≥2000 then .error 4 else .ok p
   | .error e=>.error e) else .error 2) else .error (yeo l m)
def qryK (l:List Ck) (lg:List PV) (row:Rat→PV) (e:Except Int Rat) (K:List PV→List PV→Int→Int→Int→Prop):Prop :=
 match e with
 | .ok p=>K (cks l) (lg++[row p]) p.num p.den 0
 | .error c=>K [] [] 0 0 c
theorem yFm {w:(List PV→List PV→Int→Int→Int→Prop)→Prop} {l:List Ck} {lg:List PV} {row:Rat→PV} {e:Except Int Rat} (det:∀ r0 r1 r2 r3 r4,(∀ K:List PV→List PV→Int→Int→Int→Prop,K r0 r1 r2 r3 r4→w K)→∀ K,w K=K r0 r1 r2 r3 r4)
   (h:∀ K,qryK l lg row e K→w K) (K):w K=qryK l lg row e K:=by
 cases e with
 | ok q=>exact det _ _ _ _ _ h K
 | error c=>exact det _ _ _ _ _ h K
theorem mk1 {z q:PV} {lg:List PV} {m:Nat} (hm:m=lg.length) :
   List.take ((0+m)+1) ((List.take (0+(0+m)) (lg++(List.drop (0+m) (List.replicate (m+1) z))))++(([q]:List PV)++(List.drop ((0+(0+m))+1) (lg++(List.drop (0+m) (List.replicate (m+1) z))))))=lg++[q]:=by
 subst hm
 simp
 rw [List.take_of_length_le (by simp)]
theorem yAu (lg:List PV) (agent:Int) (K:Bool→Prop):ycL (cks l) lg agent K=K (decide (0≤agent∧agent<l.length)):=by
 unfold ycL yfM
 rw [yaX]
 by_cases h:agent≥0
 · rw [cbT h]
   congr 1
   rw [decide_eq_decide];omega
 · rw [cbF h,decide_eq_false (by omega)]
def Ck.mark (an ad vn vd:Int) (c:Ck):Except Int Rat:=mrkR c.len c.cuts c.dens an ad vn vd
def Ck.value (an ad bn bd:Int) (c:Ck):Except Int Rat:=valR c.len c.cuts c.dens an ad bn bd
theorem yDE (hf:finC l) (hl:l.length<4611686018427387904) {lg:List PV} (hlg:ydp 8 lg=true) {agent an ad vn vd:Int} (ha:I64 an) (ha':I64 ad) (hv:I64 vn) (hv':I64 vd) (K) :
   ybh (cks l) lg agent an ad vn vd K=qryK l lg (fun p=>qrow agent 2 an ad vn vd p.num p.den) (qryR l lg.length agent (Ck.mark an ad vn vd)) K:=by
 refine yFm (fun r0 r1 r2 r3 r4 h K=>yw3 _ _ _ _ _ _ _ r0 r1 r2 r3 r4 h K) (fun K k=>?_) K
 unfold ybh ylR
 unfold qryR at k
 rw [yjy hf hl]
 by_cases h:yeo l lg.length=0
 case neg=>rw [cnT h];rw [if_neg h] at k;exact k
 obtain ⟨hd,hm⟩:=yh2 h
 rw [if_pos h] at k
 rw [cnF h,yAu]
 by_cases h2:0≤agent∧agent<l.length
 case neg=>rw [decide_eq_false h2,Bool.not_false,yaf];rw [if_neg h2] at k;exact k
 rw [if_pos h2] at k
 obtain ⟨a,rfl⟩:∃ a:Nat,agent=a:=⟨agent.toNat,by omega⟩
 have ha2:a<l.length:=by omega
 rw [Int.toNat_natCast] at k
 obtain ⟨f1,f2⟩:=hf a ha2
 rw [decide_eq_true h2,Bool.not_true,yac,yfO,ye9,yaX,Int.toNat_natCast,yfb ha2,asT (by omega),asT (by omega),asCk,ck0,ck1,ck2,yDB (by omega) (by omega) ha ha' hv hv']
 have em:Ck.mark an ad vn vd (l.getD a default)=mrkR (l.getD a default).len (l.getD a default).cuts (l.getD a default).dens an ad vn vd:=rfl
 rw [em] at k
 cases hr:mrkR (l.getD a default).len (l.getD a default).cuts (l.getD a default).dens an ad vn vd with
 | error c =>
   rw [hr] at k
   have k:K [] [] 0 0 c:=k
   rw [yDD]
   have hc:c≠0:=by
     intro hc
     subst hc
     unfold mrkR at hr
     split at hr
     · split at hr
       · unfold mrkC at hr
         split at hr
         · cases hr
         · have no:∀ (r i:Nat) (p v:Rat),mrkS (l.getD a default).cuts (l.getD a default).dens r i p v≠.error 0:=by
             intro r
             induction r with
             | zero=>intro i p v e;unfold mrkS at e;cases e
             | succ r ih =>
               intro i p v e
               unfold mrkS fit at e
               repeat' (first | split at e | dsimp only at e)
               all_goals first | exact ih _ _ _ e | cases e
           exact no _ _ _ _ hr
       · cases hr
     · rename_i h5;exact h5 (Except.error.inj hr)
   rw [cnT hc];exact k
 | ok p =>
   rw [hr] at k
   rw [yDC,cnF rfl]
   by_cases h3:lg.length≥2000
   · rw [cbT (by omega)]
     have k:qryK l lg _ (if lg.length≥2000 then .error 4 else .ok p) K:=k
     rw [if_pos h3] at k;exact k
   · have k:qryK l lg _ (if lg.length≥2000 then .error 4 else .ok p) K:=k
     rw [if_neg h3] at k
     have k:K (cks l) (lg++[qrow a 2 an ad vn vd p.num p.den]) p.num p.den 0:=k
     have e1:=wib (n:=(lg.length:Int)+1) (by omega) (by omega)
     have e2:((lg.length:Int)+1).toNat=lg.length+1:=by omega
     rw [cbF (by omega),e1,e2,asT (by omega),asT (by unfold room;omega),yq2 hd.low (by have:=hd.n6;omega),hlg,yaj]
     rw [asT (by simp),asT (by omega)]
     cases hlg2:lg with
     | nil =>
       rw [List.isEmpty_nil,yaf,asT (by simp),asT (by simp),asT (by simp),asT (by simp),asT (by simp)]
       rw [hlg2] at k
       exact k
     | cons x t =>
       rw [← hlg2,show List.isEmpty lg=false by rw [hlg2];rfl,yac,asT (by omega),asT (by simp),asT (by omega),asT (by omega),asT (by simp),asT (by omega)]
       rw [mk1 rfl]
       exact k
end
end Go.Pf.Vc
namespace Go.Pf.Vc
open Go Go.Pf
section
variable {l:List Ck}
theorem yDF (cuts dens:List Int):∀ (r i:Nat) (p v:Rat),mrkS cuts dens r i p v≠.error 0:=by
 intro r
 induction r with
 | zero=>intro i p v e;unfold mrkS at e;cases e
 | succ r ih =>
   intro i p v e
   unfold mrkS fit at e
   repeat' (first | split at e | dsimp only at e)
   all_goals first | exact ih _ _ _ e | cases e
theorem yDG {len:Int} {cuts dens:List Int} {an ad vn vd:Int}:mrkR len cuts dens an ad vn vd≠.error 0:=by
 intro hr
 unfold mrkR at hr
 split at hr
 · split at hr
   · unfold mrkC at hr
     split at hr
     · cases hr
     · exact yDF _ _ _ _ _ _ hr
   · cases hr
 · rename_i h5;exact h5 (Except.error.inj hr)
theorem yDH (cuts dens:List Int) (b:Rat):∀ (r i:Nat) (p v:Rat),valS cuts dens b r i p v≠.error 0:=by
 intro r
 induction r with
 | zero=>intro i p v e;unfold valS at e;cases e
 | succ r ih =>
   intro i p v e
   unfold valS fit at e
   repeat' (first | split at e | dsimp only at e)
   all_goals first | exact ih _ _ _ e | cases e
theorem yy0 {len:Int} {cuts dens:List Int} {an ad vn vd:Int}:valR len cuts dens an ad vn vd≠.error 0:=by
 intro hr
 unfold valR at hr
 split at hr
 · split at hr
   · exact yDH _ _ _ _ _ _ _ hr
   · cases hr
 · rename_i h5;exact h5 (Except.error.inj hr)
theorem yCk (hf:finC l) (hl:l.length<4611686018427387904) {lg:List PV} (hlg:ydp 8 lg=true) {agent an ad vn vd:Int} (ha:I64 an) (ha':I64 ad) (hv:I64 vn) (hv':I64 vd) (K) :
   yaZ (cks l) lg agent an ad vn vd K=qryK l lg (fun p=>qrow agent 1 an ad vn vd p.num p.den) (qryR l lg.length agent (Ck.value an ad vn vd)) K:=by
 refine yFm (fun r0 r1 r2 r3 r4 h K=>yuQ _ _ _ _ _ _ _ r0 r1 r2 r3 r4 h K) (fun K k=>?_) K
 unfold yaZ ykA
 unfold qryR at k
 rw [yjy hf hl]
 by_cases h:yeo l lg.length=0
 case neg=>rw [cnT h];rw [if_neg h] at k;exact k
 obtain ⟨hd,hm⟩:=yh2 h
 rw [if_pos h] at k
 rw [cnF h,yAu]
 by_cases h2:0≤agent∧agent<l.length
 case neg=>rw [decide_eq_false h2,Bool.not_false,yaf];rw [if_neg h2] at k;exact k
 rw [if_pos h2] at k
 obtain ⟨a,rfl⟩:∃ a:Nat,agent=a:=⟨agent.toNat,by omega⟩
 have ha2:a<l.length:=by omega
 rw [Int.toNat_natCast] at k
 obtain ⟨f1,f2⟩:=hf a ha2
 rw [decide_eq_true h2,Bool.not_true,yac,yfa,yeM,yaX,Int.toNat_natCast,yfb ha2,asT (by omega),asT (by omega),asCk,ck0,ck1,ck2,yCi (by omega) (by omega) ha ha' hv hv']
 have em:Ck.value an ad vn vd (l.getD a default)=valR (l.getD a default).len (l.getD a default).cuts (l.getD a default).dens an ad vn vd:=rfl
 rw [em] at k
 cases hr:valR (l.getD a default).len (l.getD a default).cuts (l.getD a default).dens an ad vn vd with
 | error c =>
   rw [hr] at k
   have k:K [] [] 0 0 c:=k
   rw [yDD]
   have hc:c≠0:=fun hc=>yy0 (hc ▸ hr)
   rw [cnT hc];exact k
 | ok p =>
   rw [hr] at k
   rw [yDC,cnF rfl]
   by_cases h3:lg.length≥2000
   · rw [cbT (by omega)]
     have k:qryK l lg _ (if lg.length≥2000 then .error 4 else .ok p) K:=k
     rw [if_pos h3] at k;exact k
   · have k:qryK l lg _ (if lg.length≥2000 then .error 4 else .ok p) K:=k
     rw [if_neg h3] at k
     have k:K (cks l) (lg++[qrow a 1 an ad vn vd p.num p.den]) p.num p.den 0:=k
     have e1:=wib (n:=(lg.length:Int)+1) (by omega) (by omega)
     have e2:((lg.length:Int)+1).toNat=lg.length+1:=by omega
     rw [cbF (by omega),e1,e2,asT (by omega),asT (by unfold room;omega),yq2 hd.low (by have:=hd.n6;omega),hlg,yaj]
     rw [asT (by simp),asT (by omega)]
     cases hlg2:lg with
     | nil =>
       rw [List.isEmpty_nil,yaf,asT (by simp),asT (by simp),asT (by simp),asT (by simp),asT (by simp)]
       rw [hlg2] at k
       exact k
     | cons x t =>
       rw [← hlg2,show List.isEmpty lg=false by rw [hlg2];rfl,yac,asT (by omega),asT (by simp),asT (by omega),asT (by omega),asT (by simp),asT (by omega)]
       rw [mk1 rfl]
       exact k
def yoJ (l:List Ck):Bool:=l.any (fun c=>decide (c.cuts.length>60)||decide (c.dens.length>60))||decide (l.length>10)
theorem yCl {len:Int} {cuts dens:List Int} (K:Bool→Prop):yem len (ints cuts) (ints dens) K=K (decide (cuts.length>60)||decide (dens.length>60)):=by
 unfold yem ykB
 rw [ya0,ya0]
 by_cases h:cuts.length>60
 · rw [cbT (by omega),decide_eq_true h];rfl
 · rw [cbF (by omega),decide_eq_false h,Bool.false_or]
   congr 1;rw [decide_eq_decide];omega
theorem yk6 (hl:l.length≤9223372036854775807) (K:Bool→Prop) :
   ∀ (r i n:Nat),i+r=l.length→r<n→ybG yem (fun a=>(K a)) (fun b _ _=>(K (decide ((((List.length b):Nat):Int)>(10:Int))))) n (cks l) i =
     K ((l.drop i).any (fun c=>decide (c.cuts.length>60)||decide (c.dens.length>60))||decide (l.length>10))
 | 0,i,n+1,hi,hn=>by
   unfold ybG
   rw [yaX,cbF (by omega),List.drop_of_length_le (by omega)]
   show K _=K (false||_)
   rw [Bool.false_or]
   congr 1;rw [decide_eq_decide];omega
 | r+1,i,n+1,hi,hn=>by
   unfold ybG
   have e1:=wib (n:=(i:Int)+1) (by omega) (by omega)
   rw [yaX,cbT (by omega),Int.toNat_natCast,yfb (by omega),asT (by omega),asT (by omega),asCk,ck0,ck1,ck2,yCl,yeB default (by omega),List.any_cons,e1,ymn]
   cases hb:(decide ((l.getD i default).cuts.length>60)||decide ((l.getD i default).dens.length>60)) with
   | true=>rw [yaf];rfl
   | false=>rw [yac,Bool.false_or];exact yk6 hl K r (i+1) n (by omega) (by omega)
theorem yu5 (hl:l.length≤9223372036854775807) (K:Bool→Prop):ycM (cks l) K=K (yoJ l):=by
 refine yoF _ _ (fun K k=>?_) K
 unfold ycM yfQ
 refine ⟨l.length+1,?_⟩
 have:=yk6 hl K l.length 0 (l.length+1) (by omega) (by omega)
 rw [show ((0:Nat):Int)=0 from rfl,List.drop_zero] at this
 rw [this];exact k
theorem yt9 (h:yoJ l=false):l.length≤10∧lowC l∧finC l:=by
 unfold yoJ at h
 simp only [Bool.or_eq_false_iff,decide_eq_false_iff_not,List.any_eq_false,Bool.not_eq_true,Nat.not_lt] at h
 have hh:∀ i,i<l.length→(l.getD i default).cuts.length≤60∧(l.getD i default).dens.length≤60:=by
   intro i hi
   have hm:l.getD i default∈l:=by rw [List.getD_eq_getElem?_getD,List.getElem?_eq_getElem hi];exact List.getElem_mem hi
   have:=h.1 _ hm
   omega
 exact ⟨by omega,fun i hi=>⟨by have:=hh i hi;omega,by have:=hh i hi;omega⟩,fun i hi=>⟨by have:=hh i hi;omega,by have:=hh i hi;omega⟩⟩
def shr (c:Ck) (n:Int):Rat:=(totC c.cuts c.dens:Rat) / (n:Rat)
theorem yvN {n d:Int} (hn:-1000000000000000000≤n∧n≤1000000000000000000) (hd:1≤d∧d≤1000000000000000000):small ((n:Rat) / (d:Rat)):=by
 have e:(n:Rat) / (d:Rat)=mkRat n d.toNat:=by
   rw [Rat.mkRat_eq_div]
   have h1:((d.toNat:Nat):Int)=d:=by omega
   have h2:((d.toNat:Nat):Rat)=(d:Rat):=by rw [← Rat.intCast_natCast,h1]
   rw [h2]
 rw [e]
 unfold small
 rw [Rat.num_mkRat,Rat.den_mkRat,if_neg (by omega),if_neg (by omega)]
 have g0:0<d.toNat.gcd n.natAbs:=Nat.gcd_pos_of_pos_left _ (by omega)
 have h1:(n / (d.toNat.gcd n.natAbs:Nat)).natAbs≤n.natAbs:=by
   rw [Int.natAbs_ediv_of_dvd,Int.natAbs_natCast]
   · exact Nat.div_le_self _ _
   · rw [← Int.dvd_natAbs,Int.ofNat_dvd];exact Nat.gcd_dvd_right _ _
 have h2:d.toNat / d.toNat.gcd n.natAbs≤d.toNat:=Nat.div_le_self _ _
 generalize n / (d.toNat.gcd n.natAbs:Nat)=x at *
 generalize d.toNat / d.toNat.gcd n.natAbs=y at *
 omega
theorem yCm {c:Ck} (h:c.ok) {n:Int} (hn:1≤n∧n≤1000):small (shr c n):=by
 have:=yoI h
 exact yvN (by omega) (by omega)
end
end Go.Pf.Vc
namespace Go.Pf.Vc
open Go Go.Pf
theorem rne {D:Int} (h:1≤D):(D:Rat)≠0:=fun e=>by have:=Rat.intCast_eq_zero_iff.1 e;omega
section
variable {len:Int} {cuts dens:List Int}
def rem (cuts dens:List Int):Nat→Nat→Int
 | 0,_=>0
 | r+1,i=>dens.getD i 0*(cuts.getD (i+1) 0-cuts.getD i 0)+rem cuts dens r (i+1)
theorem yua (cuts dens:List Int):∀ (r i:Nat) (s:Int),totS cuts dens r i s=s+rem cuts dens r i
 | 0,i,s=>by unfold totS rem;omega
 | r+1,i,s=>by unfold totS rem;rw [yua cuts dens r (i+1)];omega
theorem yvO (h:VC len cuts dens):∀ (r i:Nat),i+r=dens.length→0≤rem cuts dens r i∧rem cuts dens r i≤12*(len-cuts.getD i 0)
 | 0,i,hi=>by
   have:=h.l1
   have:=h.hi (i:=i) (by omega)
   unfold rem;omega
 | r+1,i,hi=>by
   unfold rem
   have l1:=h.l1
   have h2:=h.step (i:=i) (by omega)
   have h3:=yBj (h.den (i:=i) (by omega)) (x:=cuts.getD (i+1) 0-cuts.getD i 0) (by omega)
   have:=yvO h r (i+1) (by omega)
   omega
theorem yBp (h:VC len cuts dens):∀ (r i:Nat),i+r=dens.length→(∃ j,i≤j∧j<dens.length∧0<dens.getD j 0)→0<rem cuts dens r i
 | 0,i,hi,⟨j,h1,h2,_⟩=>by omega
 | r+1,i,hi,⟨j,h1,h2,h3⟩=>by
   unfold rem
   have l1:=h.l1
   have s:=h.step (i:=i) (by omega)
   have m:=yBj (h.den (i:=i) (by omega)) (x:=cuts.getD (i+1) 0-cuts.getD i 0) (by omega)
   have b:=yvO h r (i+1) (by omega)
   by_cases e:j=i
   · subst e
     have:=Int.mul_pos h3 (show 0<cuts.getD (j+1) 0-cuts.getD j 0 by omega)
     omega
   · have:=yBp h r (i+1) (by omega) ⟨j,by omega,h2,h3⟩
     omega
theorem yDI (h:VC len cuts dens):0<totC cuts dens:=by
 unfold totC
 rw [yua]
 obtain ⟨d,hd,h0⟩:=h.2.2.2.2.2.2.2.2.2
 obtain ⟨j,hj,e⟩:=List.mem_iff_getElem.1 hd
 have:=yBp h dens.length 0 (by omega) ⟨j,by omega,hj,by rw [List.getD_eq_getElem?_getD,List.getElem?_eq_getElem hj];simpa [e] using h0⟩
 omega
end
end Go.Pf.Vc
namespace Go.Pf.Vc
open Go Go.Pf
structure Qy where
 agent:Int
 kind:Int
 an:Int
 ad:Int
 bn:Int
 bd:Int
 cn:Int
 cd:Int
 deriving DecidableEq
instance:Inhabited Qy:=⟨⟨0,0,0,0,0,0,0,0⟩⟩
def encQ (q:Qy):PV:=qrow q.agent q.kind q.an q.ad q.bn q.bd q.cn q.cd
def logs (l:List Qy):List PV:=l.map encQ
theorem yba (l:List Qy):(logs l).length=l.length:=List.length_map ..
theorem yBq {l:List Qy} {i:Nat} (h:i<l.length):List.getD (logs l) i .nils=encQ (l.getD i default):=by
 unfold logs
 rw [List.getD_eq_getElem?_getD,List.getD_eq_getElem?_getD,List.getElem?_map,List.getElem?_eq_getElem h]
 rfl
theorem yq3 (l:List Qy):ydp 8 (logs l)=true:=by cases l <;> rfl
theorem yy1 (l m:List Qy):logs (l++m)=logs l++logs m:=List.map_append ..
theorem asQ {q:Qy} {P:Prop}:asr (conf (.agg [.i .i64,.i .u8,.i .i64,.i .i64,.i .i64,.i .i64,.i .i64,.i .i64]) (encQ q)) P=P:=rfl
theorem qeq (q r:Qy):((q.agent == r.agent)&&((q.kind == r.kind)&&((q.an == r.an)&&((q.ad == r.ad)&&((q.bn == r.bn)&&((q.bd == r.bd)&&((q.cn == r.cn)&&((q.cd == r.cd)&&true))))))))=decide (q=r):=by
 cases q;cases r
 rw [Bool.eq_iff_iff]
 simp
theorem yCn {α:Type} [DecidableEq α] (d:α) {a b:List α} {i:Nat} (ha:i<a.length) (hb:i<b.length):decide (a.drop i=b.drop i)=(decide (a.getD i d=b.getD i d)&&decide (a.drop (i+1)=b.drop (i+1))):=by
 rw [yeB d ha,yeB d hb,Bool.eq_iff_iff]
 simp
theorem ynY {a b:List Qy} (hab:a.length=b.length) (hl:a.length<4611686018427387904) (K:Bool→Prop) :
   ∀ (r i n:Nat),i+r=a.length→r<n→ybA (fun d=>K d) (fun _ _ _ _=>K true) n (logs a) (logs b) i=K (decide (a.drop i=b.drop i))
 | 0,i,n+1,hi,hn=>by
   unfold ybA
   rw [yba,cbF (by omega),List.drop_of_length_le (by omega),List.drop_of_length_le (by omega)];rfl
 | r+1,i,n+1,hi,hn=>by
   unfold ybA
   have e1:=wib (n:=(i:Int)+1) (by omega) (by omega)
   rw [yba,cbT (by omega),yba,Int.toNat_natCast,yBq (by omega),yBq (by omega),asT (by omega),asT (by omega),asQ,asT (by omega),asT (by omega),asQ,yCn default (by omega) (by omega),e1,ymn]
   have q2:((yaa (yae (encQ (a.getD i default)) 0) == yaa (yae (encQ (b.getD i default)) 0))&&((yaa (yae (encQ (a.getD i default)) 1) == yaa (yae (encQ (b.getD i default)) 1))&&((yaa (yae (encQ (a.getD i default)) 2) == yaa (yae (encQ (b.getD i default)) 2))&&((yaa (yae (encQ (a.getD i default)) 3) == yaa (yae (encQ (b.getD i default)) 3))&&((yaa (yae (encQ (a.getD i default)) 4) == yaa (yae (encQ (b.getD i default)) 4))&&((yaa (yae (encQ (a.getD i default)) 5) == yaa (yae (encQ (b.getD i default)) 5))&&((yaa (yae (encQ (a.getD i default)) 6) == yaa (yae (encQ (b.getD i default)) 6))&&((yaa (yae (encQ (a.getD i default)) 7) == yaa (yae (encQ (b.getD i default)) 7))&&true))))))))=decide (a.getD i default=b.getD i default):=qeq (a.getD i default) (b.getD i default)
   have ih:=ynY hab hl K r (i+1) n (by omega) (by omega)
   refine (congrArg (fun c=>cbr (!c) (K false) (ybA (fun d=>K d) (fun e f g h=>K true) n (logs a) (logs b) ((i+1:Nat):Int))) q2).trans ?_
   cases decide (a.getD i default=b.getD i default) with
   | true=>rw [Bool.not_true,yac,Bool.true_and];exact ih
   | false=>rw [Bool.not_false,yaf,Bool.false_and]
theorem yy2 {a b:List Qy} (ha:a.length<4611686018427387904) (_:b.length<4611686018427387904) (K:Bool→Prop):yaV (logs a) (logs b) K=K (decide (a=b)):=by
 refine yqO _ _ _ (fun K k=>?_) K
 unfold yaV ygO
 rw [yba,yba]
 by_cases h:a.length=b.length
 · rw [cnF (by omega)]
   refine ⟨a.length+1,?_⟩
   have:=ynY h ha K a.length 0 (a.length+1) (by omega) (by omega)
   rw [show ((0:Nat):Int)=0 from rfl,List.drop_zero,List.drop_zero] at this
   exact this.mpr k
 · rw [cnT (by omega)]
   rw [decide_eq_false (fun e=>h (by rw [e]))] at k;exact k
structure Sp where
 a:Int
 b:Int
 c:Int
 d:Int
 deriving DecidableEq
instance:Inhabited Sp:=⟨⟨0,0,0,0⟩⟩
def encS (s:Sp):PV:=.agg [.int .i64 s.a,.int .i64 s.b,.int .i64 s.c,.int .i64 s.d]
def yGj (l:List Sp):List PV:=l.map encS
def ymp (l:List (List Sp)):List PV:=l.map fun s=>.data (yGj s)
end Go.Pf.Vc
namespace Go.Pf.Vc
open Go Go.Pf
def getR (e:Except Int Rat):Rat:=match e with | .ok q=>q | .error _=>0
theorem yEQ {e:Except Int Rat} {q:Rat} (h:e=.ok q):e=.ok (getR e)∧getR e=q:=by subst h;exact ⟨rfl,rfl⟩
end Go.Pf.Vc
namespace Go.Pf.Vc
open Go Go.Pf
section
variable {l:List Ck}
theorem yu6 {a:List Qy} (ha:a.length<4611686018427387904) (K:Bool→Prop):yaV (logs a) (logs a) K=K true:=by
 rw [yy2 ha ha,decide_eq_true rfl]
end
end Go.Pf.Vc
namespace Go.Pf.Vc
open Go Go.Pf
def dsC:DS:=.a [.i .i64,.s (.i .i64),.s (.i .i64)]
theorem yBr {n:Int} (h:inK .i64 n):I64 n:=by
 have e1:IntKind.i64.min=-9223372036854775808:=by decide
 have e2:IntKind.i64.max=9223372036854775807:=by decide
 unfold inK at h
 rw [e1,e2] at h
 exact h
theorem F_i {c:List PV} (h:HasF (.i .i64) c):∃ n,c=[.int .i64 n]∧I64 n:=by
 simp only [HasF] at h
 obtain ⟨n,e,k⟩:=h
 exact ⟨n,e,yBr k⟩
theorem yxo:∀ (rows:List PV),(∀ x∈rows,x.isAgg=(DS.i .i64).isA∧HasF (.i .i64) x.cells)→∃ l:List Int,rows=ints l∧∀ n∈l,I64 n
 | [],_=>⟨[],rfl,by simp⟩
 | x::r,h=>by
   obtain ⟨l,e,hl⟩:=yxo r (fun y hy=>h y (List.mem_cons_of_mem _ hy))
   obtain ⟨h1,h2⟩:=h x (List.mem_cons_self ..)
   obtain ⟨n,e2,hn⟩:=F_i h2
   have ex:x=.int .i64 n:=by
     cases x <;> first | (simp only [PV.cells,List.cons.injEq,and_true] at e2;exact e2) | (cases h1)
   refine ⟨n::l,by rw [ex,e];rfl,?_⟩
   intro m hm
   rcases List.mem_cons.1 hm with rfl | hm
   · exact hn
   · exact hl m hm
def Ck.i64 (c:Ck):Prop:=I64 c.len∧(∀ n∈c.cuts,I64 n)∧∀ n∈c.dens,I64 n
theorem F_c {c:List PV} (h:HasF dsC c):∃ k:Ck,c=[.int .i64 k.len,.data (ints k.cuts),.data (ints k.dens)]∧k.i64∧k.cuts.length≤9223372036854775807∧k.dens.length≤9223372036854775807:=by
 simp only [dsC,HasF,HasL] at h
 obtain ⟨c1,c2,rfl,⟨n,rfl,hn⟩,c3,c4,rfl,⟨r1,rfl,l1,h1⟩,c5,c6,rfl,⟨r2,rfl,l2,h2⟩,rfl⟩:=h
 obtain ⟨a,rfl,ha⟩:=yxo r1 (fun x hx=>⟨(h1 x hx).1,by simp only [HasF];exact (h1 x hx).2⟩)
 obtain ⟨b,rfl,hb⟩:=yxo r2 (fun x hx=>⟨(h2 x hx).1,by simp only [HasF];exact (h2 x hx).2⟩)
 rw [ya0] at l1 l2
 exact ⟨⟨n,a,b⟩,rfl,⟨yBr hn,ha,hb⟩,l1,l2⟩
theorem yFU {x:PV} {l:List DS} (h:x.isAgg=(DS.a l).isA):x=.agg x.cells:=by
 cases x <;> first | rfl | cases h
theorem yDJ:∀ (rows:List PV),(∀ x∈rows,x.isAgg=dsC.isA∧HasF dsC x.cells)→∃ l:List Ck,rows=cks l∧∀ c∈l,c.i64
 | [],_=>⟨[],rfl,by simp⟩
 | x::r,h=>by
   obtain ⟨l,e,hl⟩:=yDJ r (fun y hy=>h y (List.mem_cons_of_mem _ hy))
   obtain ⟨h1,h2⟩:=h x (List.mem_cons_self ..)
   obtain ⟨k,e2,hk,_⟩:=F_c h2
   have ex:x=encC k:=by rw [yFU h1,e2];rfl
   refine ⟨k::l,by rw [ex,e];rfl,?_⟩
   intro m hm
   rcases List.mem_cons.1 hm with rfl | hm
   · exact hk
   · exact hl m hm
theorem yGk {c:List PV} (h:HasF (.s dsC) c):∃ l:List Ck,c=[.data (cks l)]∧l.length≤9223372036854775807∧∀ k∈l,k.i64:=by
 simp only [HasF] at h
 obtain ⟨rows,rfl,hl,hr⟩:=h
 obtain ⟨l,rfl,hi⟩:=yDJ rows hr
 rw [yaX] at hl
 exact ⟨l,rfl,hl,hi⟩
theorem yCo {x y:PV} (h:x.isAgg=false) (e:x.cells=[y]):x=y:=by
 cases x <;> first | (simp only [PV.cells,List.cons.injEq,and_true] at e;exact e) | cases h
theorem yGl {as:List PV} (h:ype [.s dsC] as):∃ (l:List Ck),as=[.data (cks l)]∧l.length≤9223372036854775807∧∀ k∈l,k.i64:=by
 simp only [ype] at h
 obtain ⟨x,r,rfl,x1,x2,rfl⟩:=h
 obtain ⟨l,e1,hl,hi⟩:=yGk x2
 rw [yCo x1 e1]
 exact ⟨l,rfl,hl,hi⟩
end Go.Pf.Vc
namespace Go.Pf.Vc
open Go Go.Pf
section
variable {l:List Ck}
theorem yjz {α:Type} {q:Rat} {k:Rat→Except Int α} {x:α} (h:fit q k=.ok x):small q∧k q=.ok x:=by
 unfold fit at h
 split at h
 · rename_i hs;exact ⟨hs,h⟩
 · cases h
theorem ykK {cuts dens:List Int}:∀ (r i:Nat) (p v q:Rat),mrkS cuts dens r i p v=.ok q→small q
 | 0,_,_,_,_,h=>by unfold mrkS at h;cases h
 | r+1,i,p,v,q,h=>by
   unfold mrkS at h
   split at h
   · exact ykK r _ _ _ _ h
   · split at h
     · exact ykK r _ _ _ _ h
     · obtain ⟨_,h⟩:=yjz h
       obtain ⟨_,h⟩:=yjz h
       split at h
       · obtain ⟨_,h⟩:=yjz h
         exact ykK r _ _ _ _ h
       · obtain ⟨_,h⟩:=yjz h
         obtain ⟨s,h⟩:=yjz h
         cases h
         exact s
theorem yAv {len:Int} {cuts dens:List Int} {an ad vn vd:Int} {q:Rat} (h:mrkR len cuts dens an ad vn vd=.ok q):small q:=by
 unfold mrkR at h
 split at h
 · split at h
   · rename_i hp
     unfold mrkC at h
     split at h
     · cases h;exact hp.1.pt.1
     · exact ykK _ _ _ _ _ h
   · cases h
 · cases h
theorem yAw {m:Nat} {agent an ad vn vd:Int} {p:Rat} (h:qryR l m agent (Ck.mark an ad vn vd)=.ok p):small p:=by
 unfold qryR at h
 split at h
 · split at h
   · split at h
     · rename_i q hq
       split at h
       · cases h
       · cases h;exact yAv hq
     · cases h
   · cases h
 · cases h
def nts (r:List Nat):List PV:=ints (r.map fun n:Nat=>(n:Int))
theorem ybb (r:List Nat):(nts r).length=r.length:=by unfold nts;rw [ya0,List.length_map]
theorem yh3 {r:List Nat} {i:Nat} (h:i<r.length):List.getD (nts r) i .nils=.int .i64 (r.getD i 0):=by
 unfold nts
 rw [yxl (by rw [List.length_map];exact h)]
 rw [List.getD_eq_getElem?_getD,List.getElem?_map,List.getElem?_eq_getElem h,List.getD_eq_getElem?_getD,List.getElem?_eq_getElem h]
 rfl
def shN (l:List Ck) (a:Nat):Rat:=shr (l.getD a default) l.length
def ygH (l:List Ck) (an ad:Int) (m a:Nat):Except Int Rat:=qryR l m a (Ck.mark an ad (shN l a).num (shN l a).den)
def yjA (l:List Ck) (an ad:Int) (a:Nat) (p:Rat):Qy:=⟨a,2,an,ad,(shN l a).num,(shN l a).den,p.num,p.den⟩
theorem yeC (hd:DK l) {a:Nat} (h:a<l.length):small (shN l a):=yCm (hd.ok a h) ⟨by omega,by have:=hd.n6;omega⟩
end
end Go.Pf.Vc
namespace Go.Pf.Vc
open Go Go.Pf
section
variable {l:List Ck}
theorem yDK {bk:List Nat} {i:Nat} (h:i<bk.length):bk.getD i 0∈bk:=by
 rw [List.getD_eq_getElem?_getD,List.getElem?_eq_getElem h]
 exact List.getElem_mem h
end
end Go.Pf.Vc
namespace Go.Pf.Vc
open Go Go.Pf
section
variable {l:List Ck}
theorem range_take (n i:Nat) (_:i≤n):(List.range i).length=i:=List.length_range ..
end
end Go.Pf.Vc
namespace Go.Pf.Vc
open Go Go.Pf
section
variable {l:List Ck}
end
end Go.Pf.Vc
namespace Go.Pf.Vc
abbrev RS:Type:=Rat×Rat
end Go.Pf.Vc
namespace Go.Pf.Vc
def maxR (a b:Rat):Rat:=if a<b then b else a
end Go.Pf.Vc
namespace Go.Pf.Vc
def jn (f:Rat→Bool):List Rat→Option RS→List RS
 | x::y::r,none=>if f x then jn f (y::r) (some (x,y)) else jn f (y::r) none
 | x::y::r,some c=>if f x then (if c.2=x then jn f (y::r) (some (c.1,y)) else c::jn f (y::r) (some (x,y))) else jn f (y::r) (some c)
 | _,none=>[]
 | _,some c=>[c]
end Go.Pf.Vc
namespace Go.Pf.Vc
def minR (a b:Rat):Rat:=if a<b then a else b
theorem yeD (a b:Rat):a≤maxR a b∧b≤maxR a b∧(maxR a b=a∨maxR a b=b):=by unfold maxR;split <;> grind
theorem yfU (a b:Rat):minR a b≤a∧minR a b≤b∧(minR a b=a∨minR a b=b):=by unfold minR;split <;> grind
end Go.Pf.Vc
namespace Go.Pf.Vc
open Go Go.Pf
def Sp.rs (s:Sp):RS:=(rt s.a s.b,rt s.c s.d)
end Go.Pf.Vc
namespace Go.Pf.Vc
open Go Go.Pf
def rsL (l:List Sp):List RS:=l.map Sp.rs
end Go.Pf.Vc
namespace Go.Pf.Vc
open Go Go.Pf
theorem yAx:small 0:=by decide +kernel
end Go.Pf.Vc
namespace Go.Pf.Vc
open Go Go.Pf
section
variable {len:Int} {cuts dens:List Int}
def uC (cuts:List Int) (i:Nat) (x:Rat):Rat:=minR (maxR x (cuts.getD i 0:Int)) (cuts.getD (i+1) 0:Int)
def vu (cuts dens:List Int) (x:Rat):Nat→Nat→Rat
 | 0,_=>0
 | r+1,i=>(dens.getD i 0:Int)*uC cuts i x+vu cuts dens x r (i+1)
theorem yub (h:VC len cuts dens):∀ (r i:Nat) {x y:Rat},i+r=dens.length→x≤(cuts.getD i 0:Int)→y≤(cuts.getD i 0:Int)→vu cuts dens x r i=vu cuts dens y r i
 | 0,_,_,_,_,_,_=>rfl
 | r+1,i,x,y,hi,hx,hy=>by
   have l1:=h.l1
   have hst:((cuts.getD i 0:Int):Rat)<((cuts.getD (i+1) 0:Int):Rat):=Rat.intCast_lt_intCast.2 (h.step (i:=i) (by omega))
   have ih:=yub h r (i+1) (x:=x) (y:=y) (by omega) (by grind) (by grind)
   unfold vu
   rw [ih]
   have e:uC cuts i x=uC cuts i y:=by
     unfold uC
     have a1:=yeD x (cuts.getD i 0:Int)
     have a2:=yeD y (cuts.getD i 0:Int)
     have e1:maxR x (cuts.getD i 0:Int)=(cuts.getD i 0:Int):=by grind
     have e2:maxR y (cuts.getD i 0:Int)=(cuts.getD i 0:Int):=by grind
     rw [e1,e2]
   rw [e]
theorem yin {α:Type} {q:Rat} {k:Rat→Except Int α} {v:α} (h:fit q k=.ok v):k q=.ok v:=by
 unfold fit at h
 split at h
 · exact h
 · cases h
theorem ysu (h:VC len cuts dens) {b:Rat}:∀ (r i:Nat) (p sum v:Rat),i+r=dens.length→p≤b→(p=b∨((cuts.getD i 0:Int):Rat)≤p)→valS cuts dens b r i p sum=.ok v→v=sum+(vu cuts dens b r i-vu cuts dens p r i)
 | 0,i,p,sum,v,hi,hp,hc,hv=>by
   unfold valS at hv
   cases hv
   unfold vu
   grind
 | r+1,i,p,sum,v,hi,hp,hc,hv=>by
   have l1:=h.l1
   have hst:((cuts.getD i 0:Int):Rat)<((cuts.getD (i+1) 0:Int):Rat):=Rat.intCast_lt_intCast.2 (h.step (i:=i) (by omega))
   unfold valS at hv
   dsimp only at hv
   have hen:∃ en:Rat,(if b<((cuts.getD (i+1) 0:Int):Rat) then b else ((cuts.getD (i+1) 0:Int):Rat))=en∧en≤b∧en≤((cuts.getD (i+1) 0:Int):Rat)∧(en=b∨en=((cuts.getD (i+1) 0:Int):Rat)):=by
     refine ⟨_,rfl,?_⟩
     split <;> grind
   obtain ⟨en,e0,he1,he2,he3⟩:=hen
   rw [e0] at hv
   have low:=yub h r (i+1) (x:=en) (y:=p) (by omega)
   have m1:=yeD b (cuts.getD i 0:Int)
   have m2:=yeD p (cuts.getD i 0:Int)
   have n1:=yfU (maxR b (cuts.getD i 0:Int)) (cuts.getD (i+1) 0:Int)
   have n2:=yfU (maxR p (cuts.getD i 0:Int)) (cuts.getD (i+1) 0:Int)
   unfold vu uC
   generalize ((cuts.getD i 0:Int):Rat)=c0 at *
   generalize hc1:((cuts.getD (i+1) 0:Int):Rat)=c1 at *
   by_cases hlt:p<en
   · have hb:minR (maxR b c0) c1=en:=by grind
     have hq:minR (maxR p c0) c1=p:=by grind
     by_cases hd:dens.getD i 0=0
     · rw [if_pos (.inl hd),if_pos hlt] at hv
       have ih:=ysu h r (i+1) en sum v (by omega) he1 (by rw [hc1];grind) hv
       rw [ih,hd,low (by grind) (by grind)]
       grind
     · rw [if_neg (by intro k;rcases k with k | k;exact hd k;exact k hlt)] at hv
       have hv:=yin (yin (yin hv))
       have ih:=ysu h r (i+1) en _ v (by omega) he1 (by rw [hc1];grind) hv
       rw [ih,low (by grind) (by grind),hb,hq]
       grind
   · rw [if_pos (.inr hlt),if_neg hlt] at hv
     have ih:=ysu h r (i+1) p sum v (by omega) hp (by rw [hc1];grind) hv
     have:minR (maxR b c0) c1=minR (maxR p c0) c1:=by grind
     rw [ih,this]
     grind
end
end Go.Pf.Vc
namespace Go.Pf.Vc
open Go Go.Pf
section
variable {len:Int} {cuts dens:List Int}
def vX (cuts dens:List Int) (x:Rat):Rat:=vu cuts dens x dens.length 0
theorem yER (h:VC len cuts dens) {a b v:Rat} (h0:0≤a) (hab:a≤b) (hv:valC cuts dens a b=.ok v):v=vX cuts dens b-vX cuts dens a:=by
 have c0:cuts.getD 0 0=0:=h.2.2.2.2.2.1
 have:=ysu h dens.length 0 a 0 v (by omega) hab (.inr (by rw [c0];exact h0)) hv
 unfold vX
 rw [this];grind
end
end Go.Pf.Vc
namespace Go.Pf.Vc
open Go Go.Pf
section
variable {len:Int} {cuts dens:List Int}
theorem yBs (h:VC len cuts dens) {i:Nat} (hi:i+1<cuts.length) {x y:Rat} (hxy:x≤y):uC cuts i x≤uC cuts i y:=by
 have hst:((cuts.getD i 0:Int):Rat)<((cuts.getD (i+1) 0:Int):Rat):=Rat.intCast_lt_intCast.2 (h.step (i:=i) hi)
 have m1:=yeD x (cuts.getD i 0:Int)
 have m2:=yeD y (cuts.getD i 0:Int)
 have n1:=yfU (maxR x (cuts.getD i 0:Int)) (cuts.getD (i+1) 0:Int)
 have n2:=yfU (maxR y (cuts.getD i 0:Int)) (cuts.getD (i+1) 0:Int)
 unfold uC
 grind
theorem yDL (h:VC len cuts dens) {i:Nat} (hi:i<dens.length):(0:Rat)≤((dens.getD i 0:Int):Rat):=Rat.intCast_nonneg.2 (h.den hi).1
theorem yxp (h:VC len cuts dens) {x y:Rat} (hxy:x≤y):∀ (r i:Nat),i+r=dens.length→vu cuts dens x r i≤vu cuts dens y r i
 | 0,_,_=>Rat.le_refl
 | r+1,i,hi=>by
   have l1:=h.l1
   have h1:=yBs h (i:=i) (by omega) hxy
   have h2:=yxp h hxy r (i+1) (by omega)
   have h3:=Rat.mul_le_mul_of_nonneg_left h1 (yDL h (i:=i) (by omega))
   unfold vu
   grind
theorem ymL (h:VC len cuts dens) {x y:Rat} (hxy:x≤y):vX cuts dens x≤vX cuts dens y:=yxp h hxy dens.length 0 (by omega)
theorem ysv (h:VC len cuts dens):∀ (r i:Nat) (p v q:Rat),i+r=dens.length→0<v→((cuts.getD i 0:Int):Rat)≤p→mrkS cuts dens r i p v=.ok q →
   vu cuts dens q r i-vu cuts dens p r i=v∧p<q∧q≤((cuts.getD dens.length 0:Int):Rat)∧∀ x,x<q→vu cuts dens x r i<vu cuts dens q r i
 | 0,_,_,_,_,_,_,_,e=>by cases e
 | r+1,i,p,v,q,hi,hv,hp,e=>by
   have l1:=h.l1
   have hst:((cuts.getD i 0:Int):Rat)<((cuts.getD (i+1) 0:Int):Rat):=Rat.intCast_lt_intCast.2 (h.step (i:=i) (by omega))
   have hd:=h.den (i:=i) (by omega)
   have hd0:=yDL h (i:=i) (by omega)
   have low:=fun {x y:Rat}=>yub h r (i+1) (x:=x) (y:=y) (by omega)
   have hmon:=fun {x:Rat} (hx:x<q)=>yBs h (i:=i) (by omega) (Rat.le_of_lt hx)
   have hmon2:=fun {x:Rat} (hx:x<q)=>yxp h (Rat.le_of_lt hx) r (i+1) (by omega)
   have m1:=yeD p (cuts.getD i 0:Int)
   have m2:=yeD q (cuts.getD i 0:Int)
   have n1:=yfU (maxR p (cuts.getD i 0:Int)) (cuts.getD (i+1) 0:Int)
   have n2:=yfU (maxR q (cuts.getD i 0:Int)) (cuts.getD (i+1) 0:Int)
   unfold mrkS at e
   by_cases c1:p<((cuts.getD (i+1) 0:Int):Rat)
   case neg =>
     rw [if_pos c1] at e
     obtain ⟨a1,a2,a3,a4⟩:=ysv h r (i+1) p v q (by omega) hv (Rat.not_lt.1 c1) e
     have eq:uC cuts i q=uC cuts i p:=by unfold uC;grind
     refine ⟨by unfold vu;rw [eq];grind,a2,a3,fun x hx=>?_⟩
     have b1:=a4 x hx
     have b2:=Rat.mul_le_mul_of_nonneg_left (hmon hx) hd0
     unfold vu
     grind
   rw [if_neg (fun k=>k c1)] at e
   by_cases c2:dens.getD i 0=0
   · rw [if_pos c2] at e
     obtain ⟨a1,a2,a3,a4⟩:=ysv h r (i+1) _ v q (by omega) hv Rat.le_refl e
     have e2:=low (x:=p) (y:=((cuts.getD (i+1) 0:Int):Rat)) (Rat.le_of_lt c1) Rat.le_refl
     refine ⟨by unfold vu;rw [e2,c2];grind,by grind,a3,fun x hx=>?_⟩
     have b1:=a4 x hx
     have b2:=Rat.mul_le_mul_of_nonneg_left (hmon hx) hd0
     unfold vu
     grind
   rw [if_neg c2] at e
   have e:=yin (yin e)
   have dpos:(0:Rat)<((dens.getD i 0:Int):Rat):=Rat.intCast_pos.2 (by omega)
   have up:uC cuts i p=p:=by unfold uC;grind
   by_cases c3:(((cuts.getD (i+1) 0:Int):Rat)-p)*((dens.getD i 0:Int):Rat)<v
   · rw [if_pos c3] at e
     have e:=yin e
     obtain ⟨a1,a2,a3,a4⟩:=ysv h r (i+1) _ _ q (by omega) (by grind) Rat.le_refl e
     have e2:=low (x:=p) (y:=((cuts.getD (i+1) 0:Int):Rat)) (Rat.le_of_lt c1) Rat.le_refl
     have uq:uC cuts i q=((cuts.getD (i+1) 0:Int):Rat):=by unfold uC;grind
     refine ⟨by unfold vu;rw [e2,up,uq];grind,by grind,a3,fun x hx=>?_⟩
     have b1:=a4 x hx
     have b2:=Rat.mul_le_mul_of_nonneg_left (hmon hx) hd0
     unfold vu
     grind
   · rw [if_neg c3] at e
     have e:=yin (yin e)
     cases e
     generalize hs:v / ((dens.getD i 0:Int):Rat)=s at *
     have es:s*((dens.getD i 0:Int):Rat)=v:=by rw [← hs];exact Rat.div_mul_cancel (by grind)
     have s0:0<s:=by
       refine Rat.not_le.1 fun k=>?_
       have:=Rat.mul_le_mul_of_nonneg_right k hd0
       grind
     have s1:p+s≤((cuts.getD (i+1) 0:Int):Rat):=by
       refine Rat.not_lt.1 fun k=>?_
       have:(((cuts.getD (i+1) 0:Int):Rat)-p)<s:=by grind
       have:=Rat.mul_lt_mul_of_pos_right this dpos
       grind
     have uq:uC cuts i (p+s)=p+s:=by unfold uC;grind
     have e2:=low (x:=p+s) (y:=p) s1 (Rat.le_of_lt c1)
     have hlast:cuts.getD (i+1) 0≤cuts.getD dens.length 0:=h.mono (by omega) (by omega)
     have hlast:((cuts.getD (i+1) 0:Int):Rat)≤((cuts.getD dens.length 0:Int):Rat):=Rat.intCast_le_intCast.2 hlast
     refine ⟨by unfold vu;rw [e2,up,uq];grind,by grind,by grind,fun x hx=>?_⟩
     have b1:=hmon2 hx
     have ux:uC cuts i x<p+s:=by
       have k1:=yeD x (cuts.getD i 0:Int)
       have k2:=yfU (maxR x (cuts.getD i 0:Int)) (cuts.getD (i+1) 0:Int)
       unfold uC
       grind
     have b2:=Rat.mul_lt_mul_of_pos_left ux dpos
     unfold vu
     rw [uq]
     grind
theorem VC.last (h:VC len cuts dens):cuts.getD dens.length 0=len:=by
 have l1:=h.l1
 have:=h.2.2.2.2.2.2.1
 rw [show dens.length=cuts.length-1 by omega]
 exact this
theorem yES (h:VC len cuts dens) {a v q:Rat} (h0:0≤a) (h1:a≤(len:Rat)) (hv:0≤v) (e:mrkC cuts dens a v=.ok q) :
   vX cuts dens q=vX cuts dens a+v∧a≤q∧q≤(len:Rat)∧(v=0→a=q)∧(v≠0→∀ x,x<q→vX cuts dens x<vX cuts dens q):=by
 unfold mrkC at e
 by_cases c:v=0
 · rw [if_pos c] at e
   cases e
   rw [c]
   exact ⟨by grind,Rat.le_refl,h1,fun _=>rfl,fun k=>absurd rfl k⟩
 · rw [if_neg c] at e
   have c0:cuts.getD 0 0=0:=h.2.2.2.2.2.1
   obtain ⟨a1,a2,a3,a4⟩:=ysv h dens.length 0 a v q (by omega) (by grind) (by rw [c0];exact h0) e
   rw [h.last] at a3
   exact ⟨by unfold vX;grind,Rat.le_of_lt a2,a3,fun k=>absurd k c,fun _=>a4⟩
end
end Go.Pf.Vc
namespace Go.Pf.Vc
open Go Go.Pf
def In (D:Int) (q:Rat):Prop:=∃ n:Int,q=(n:Rat) / (D:Rat)
theorem In.int {D:Int} (h:1≤D) (c:Int):In D (c:Rat):=⟨c*D,by rw [Rat.intCast_mul,Rat.mul_div_cancel (rne h)]⟩
theorem In.add {D:Int} {q r:Rat} (h:In D q) (k:In D r):In D (q+r):=by
 obtain ⟨n,rfl⟩:=h
 obtain ⟨m,rfl⟩:=k
 exact ⟨n+m,by rw [Rat.intCast_add];grind⟩
theorem In.sub {D:Int} {q r:Rat} (h:In D q) (k:In D r):In D (q-r):=by
 obtain ⟨n,rfl⟩:=h
 obtain ⟨m,rfl⟩:=k
 exact ⟨n-m,by rw [Rat.intCast_sub];grind⟩
theorem In.mulI {D:Int} {q:Rat} (h:In D q) (d:Int):In D (q*(d:Rat)):=by
 obtain ⟨n,rfl⟩:=h
 exact ⟨n*d,by rw [Rat.intCast_mul];grind⟩
theorem In.up {D d:Int} {q:Rat} (hD:1≤D) (hd:1≤d) (h:In D q):In (d*D) q:=by
 obtain ⟨n,rfl⟩:=h
 have h1:=rne hD
 have h2:=rne hd
 refine ⟨d*n,?_⟩
 rw [Rat.intCast_mul,Rat.intCast_mul]
 grind
theorem In.div {D d:Int} {q:Rat} (hD:1≤D) (hd:1≤d) (h:In D q):In (d*D) (q / (d:Rat)):=by
 obtain ⟨n,rfl⟩:=h
 have h1:=rne hD
 have h2:=rne hd
 refine ⟨n,?_⟩
 rw [Rat.intCast_mul]
 grind
theorem In.small {D M:Int} {q:Rat} (h:In D q) (hD:1≤D∧D≤1000000000000000000) (hM:M*D≤1000000000000000000) (h0:-(M:Rat)≤q) (h1:q≤(M:Rat)):small q:=by
 obtain ⟨n,rfl⟩:=h
 have hp:(0:Rat)<(D:Rat):=Rat.intCast_pos.2 (by omega)
 have e:(n:Rat) / (D:Rat)*(D:Rat)=(n:Rat):=Rat.div_mul_cancel (rne hD.1)
 have a:=Rat.mul_le_mul_of_nonneg_right h0 (Rat.le_of_lt hp)
 have b:=Rat.mul_le_mul_of_nonneg_right h1 (Rat.le_of_lt hp)
 rw [e] at a b
 have a':((-(M*D):Int):Rat)≤(n:Rat):=by rw [Rat.intCast_neg,Rat.intCast_mul];grind
 have b':(n:Rat)≤((M*D:Int):Rat):=by rw [Rat.intCast_mul];exact b
 have a2:=Rat.intCast_le_intCast.1 a'
 have b2:=Rat.intCast_le_intCast.1 b'
 exact yvN (d:=D) ⟨by omega,by omega⟩ ⟨by omega,by omega⟩
section
variable {len:Int} {cuts dens:List Int}
theorem ysw (h:VC len cuts dens) {i j:Nat} (hij:i≤j) (hj:j≤dens.length):((cuts.getD i 0:Int):Rat)≤((cuts.getD j 0:Int):Rat):=Rat.intCast_le_intCast.2 (h.mono hij (by have:=h.l1;omega))
theorem yDM (h:VC len cuts dens):∀ (r i:Nat),i+r=dens.length→vu cuts dens (len:Rat) r i-vu cuts dens ((cuts.getD i 0:Int):Rat) r i=((rem cuts dens r i:Int):Rat)
 | 0,_,_=>by unfold vu rem;show (0:Rat)-0=0;grind
 | r+1,i,hi=>by
   have ih:=yDM h r (i+1) (by omega)
   have hst:((cuts.getD i 0:Int):Rat)≤((cuts.getD (i+1) 0:Int):Rat):=ysw h (Nat.le_succ i) (by omega)
   have hl:((cuts.getD (i+1) 0:Int):Rat)≤(len:Rat):=by rw [← h.last];exact ysw h (by omega) (Nat.le_refl _)
   have low:=yub h r (i+1) (x:=((cuts.getD i 0:Int):Rat)) (y:=((cuts.getD (i+1) 0:Int):Rat)) (by omega) hst Rat.le_refl
   have m1:=yeD (len:Rat) (cuts.getD i 0:Int)
   have n1:=yfU (maxR (len:Rat) (cuts.getD i 0:Int)) (cuts.getD (i+1) 0:Int)
   have m2:=yeD ((cuts.getD i 0:Int):Rat) (cuts.getD i 0:Int)
   have n2:=yfU (maxR ((cuts.getD i 0:Int):Rat) (cuts.getD i 0:Int)) (cuts.getD (i+1) 0:Int)
   have e1:uC cuts i (len:Rat)=((cuts.getD (i+1) 0:Int):Rat):=by unfold uC;grind
   have e2:uC cuts i ((cuts.getD i 0:Int):Rat)=((cuts.getD i 0:Int):Rat):=by unfold uC;grind
   unfold vu rem
   rw [e1,e2,low,Rat.intCast_add,Rat.intCast_mul,Rat.intCast_sub,← ih]
   grind
theorem yDN (h:VC len cuts dens):vX cuts dens (len:Rat)-vX cuts dens 0=((totC cuts dens:Int):Rat):=by
 have c0:cuts.getD 0 0=0:=h.2.2.2.2.2.1
 have:=yDM h dens.length 0 (by omega)
 rw [c0] at this
 unfold totC
 rw [yua,show (0:Int)+rem cuts dens dens.length 0=rem cuts dens dens.length 0 by omega]
 exact this
end
end Go.Pf.Vc
namespace Go.Pf.Vc
open Go Go.Pf
section
variable {len:Int} {cuts dens:List Int}
theorem yBt (h:VC len cuts dens):(1:Rat)≤(len:Rat)∧(len:Rat)≤1000:=by
 have:=h.len0
 exact ⟨Rat.intCast_le_intCast.2 this.1,Rat.intCast_le_intCast.2 this.2⟩
theorem yBu (h:VC len cuts dens) {i:Nat} (hi:i<dens.length):(0:Rat)≤((dens.getD i 0:Int):Rat)∧((dens.getD i 0:Int):Rat)≤12:=by
 have:=h.den hi
 exact ⟨Rat.intCast_le_intCast.2 this.1,Rat.intCast_le_intCast.2 this.2⟩
theorem yBv {x d:Rat} (h0:0≤x) (hd:0≤d∧d≤12):0≤x*d∧x*d≤12*x:=by
 have a:=Rat.mul_nonneg h0 hd.1
 have b:=Rat.mul_le_mul_of_nonneg_left hd.2 h0
 exact ⟨a,by grind⟩
theorem yq4 (h:VC len cuts dens) {D:Int} (hD:1≤D∧D≤50000000000000) {b:Rat} (hb:In D b) (b1:b≤(len:Rat)) :
   ∀ (r i:Nat) (p sum:Rat),i+r=dens.length→In D p→In D sum→0≤p→p≤(len:Rat)→0≤sum→sum≤12*p→∃ v,valS cuts dens b r i p sum=.ok v
 | 0,i,p,sum,_,_,_,_,_,_,_=>⟨sum,rfl⟩
 | r+1,i,p,sum,hi,hp,hs,p0,p1,s0,s1=>by
   have l1:=h.l1
   have hl:=yBt h
   have hd:=yBu h (i:=i) (by omega)
   have hc1:((cuts.getD (i+1) 0:Int):Rat)≤(len:Rat):=by rw [← h.last];exact ysw h (by omega) (Nat.le_refl _)
   unfold valS
   have hen:∃ en:Rat,(if b<((cuts.getD (i+1) 0:Int):Rat) then b else ((cuts.getD (i+1) 0:Int):Rat))=en∧In D en∧en≤(len:Rat):=by
     refine ⟨_,rfl,?_,?_⟩
     · split
       · exact hb
       · exact In.int hD.1 _
     · split <;> grind
   obtain ⟨en,e0,e1,e2⟩:=hen
   rw [e0]
   dsimp only
   split
   · refine yq4 h hD hb b1 r (i+1) _ sum (by omega) ?_ hs ?_ ?_ s0 ?_
     · split
       · exact e1
       · exact hp
     · split <;> grind
     · split <;> grind
     · split <;> grind
   · rename_i hn
     have hlt:p<en:=by
       refine Classical.byContradiction fun k=>hn (.inr k)
     have m:=yBv (x:=en-p) (by grind) hd
     have i1:=e1.sub hp
     have i2:=i1.mulI (dens.getD i 0)
     have i3:=hs.add i2
     rw [yiT (i1.small (M:=1000) ⟨by omega,by omega⟩ (by omega) (by show -(1000:Rat)≤_;grind) (by show _≤(1000:Rat);grind)),
       yiT (i2.small (M:=12000) ⟨by omega,by omega⟩ (by omega) (by show -(12000:Rat)≤_;grind) (by show _≤(12000:Rat);grind)),
       yiT (i3.small (M:=12000) ⟨by omega,by omega⟩ (by omega) (by show -(12000:Rat)≤_;grind) (by show _≤(12000:Rat);grind))]
     exact yq4 h hD hb b1 r (i+1) en _ (by omega) e1 i3 (by grind) e2 (by grind) (by grind)
theorem yCp (h:VC len cuts dens) {D:Int} (hD:1≤D∧D≤50000000000000) {a b:Rat} (ha:In D a) (hb:In D b) (a0:0≤a) (hab:a≤b) (b1:b≤(len:Rat)):valC cuts dens a b=.ok (vX cuts dens b-vX cuts dens a):=by
 obtain ⟨v,e⟩:=yq4 h hD hb b1 dens.length 0 a 0 (by omega) ha (In.int hD.1 0) a0 (by grind) (by grind) (by grind)
 have e:valC cuts dens a b=.ok v:=e
 rw [e,yER h a0 hab e]
end
end Go.Pf.Vc
namespace Go.Pf.Vc
open Go Go.Pf
set_option maxRecDepth 100000
theorem yDO {α:Type} {l:List α} {n:Nat} (h:l.length=n+1):∃ a r,l=a::r∧r.length=n:=by
 cases l with
 | nil=>cases h
 | cons a r=>exact ⟨a,r,rfl,by simpa using h⟩
end Go.Pf.Vc
namespace Go.Pf.Vc
open Go Go.Pf
def meets (s t:RS):Bool:=decide (s.1<t.2)&&decide (t.1<s.2)
end Go.Pf.Vc
