/- Part 4 of what the statement rests on: a verified evaluator over pure values, the conditions of the program's functions, and their plain laws. -/
import Derived.Test.YtfdnnbmkmlhidaaGreatAtW3
namespace Go.Pf.Vc
open Go Go.Pf
set_option maxRecDepth 100000
def ysX (a0:ydd) (a1:yd1) (a2:yfU) (a3:ydW) (a4:yhR) (p0 p1 p2 p3:Int) (K:Int→Int→Int→Prop):Prop :=
 (a0 p0 p1 p2 p3 (fun yi0 =>
 (cbr (yi0 !=(0:Int))
 (a0 p0 p1 p2 p3 (fun yi1 =>
 (K (0:Int) (0:Int) yi1)))
 (a1 p0 (fun yi2 =>
 (a2 yi2 (IntKind.u64.wrap p3) (fun yi3 =>
 (a1 p2 (fun yi4 =>
 (a2 yi4 (IntKind.u64.wrap p1) (fun yi5 =>
 (cbr ((decide (p0<(0:Int))) !=(decide (p2<(0:Int))))
 (cbr (p0 !=(0:Int))
 (a1 p0 (fun yi6 =>
 (asr (!(decide (yi3=(0:Int))))
 (a1 p2 (fun yi7 =>
 (asr (!(decide (yi5=(0:Int))))
 (a3 (IntKind.u64.wrap (Int.tdiv yi6 yi3)) (IntKind.u64.wrap (Int.tdiv yi7 yi5)) (fun yi8 yi9 =>
 (asr (!(decide (yi5=(0:Int))))
 (asr (!(decide (yi3=(0:Int))))
 (a3 (IntKind.u64.wrap (Int.tdiv (IntKind.u64.wrap p1) yi5)) (IntKind.u64.wrap (Int.tdiv (IntKind.u64.wrap p3) yi3)) (fun yi10 yi11 =>
 (a4 (p2 !=(0:Int)) yi8 yi9 yi10 yi11 (fun yi12 yi13 yi14 =>
 (K yi12 yi13 yi14)))))))))))))))
 (a1 p0 (fun yi15 =>
 (asr (!(decide (yi3=(0:Int))))
 (a1 p2 (fun yi16 =>
 (asr (!(decide (yi5=(0:Int))))
 (a3 (IntKind.u64.wrap (Int.tdiv yi15 yi3)) (IntKind.u64.wrap (Int.tdiv yi16 yi5)) (fun yi17 yi18 =>
 (asr (!(decide (yi5=(0:Int))))
 (asr (!(decide (yi3=(0:Int))))
 (a3 (IntKind.u64.wrap (Int.tdiv (IntKind.u64.wrap p1) yi5)) (IntKind.u64.wrap (Int.tdiv (IntKind.u64.wrap p3) yi3)) (fun yi19 yi20 =>
 (a4 false yi17 yi18 yi19 yi20 (fun yi21 yi22 yi23 =>
 (K yi21 yi22 yi23))))))))))))))))
 (a1 p0 (fun yi24 =>
 (asr (!(decide (yi3=(0:Int))))
 (a1 p2 (fun yi25 =>
 (asr (!(decide (yi5=(0:Int))))
 (a3 (IntKind.u64.wrap (Int.tdiv yi24 yi3)) (IntKind.u64.wrap (Int.tdiv yi25 yi5)) (fun yi26 yi27 =>
 (asr (!(decide (yi5=(0:Int))))
 (asr (!(decide (yi3=(0:Int))))
 (a3 (IntKind.u64.wrap (Int.tdiv (IntKind.u64.wrap p1) yi5)) (IntKind.u64.wrap (Int.tdiv (IntKind.u64.wrap p3) yi3)) (fun yi28 yi29 =>
 (a4 false yi26 yi27 yi28 yi29 (fun yi30 yi31 yi32 =>
 (K yi30 yi31 yi32)))))))))))))))))))))))))))
def yjV (p0 p1 p2 p3:Int) (K:Int→Int→Int→Prop):Prop:=ysX yd9 ye6 ydF ydo ygC p0 p1 p2 p3 K
def yoQ (w:yjU) (as:Ls) (K:PV→Prop):Prop :=
 match as with
 | [(.agg [(.int .i64 p0),(.int .i64 p1)]),(.agg [(.int .i64 p2),(.int .i64 p3)])]=>w p0 p1 p2 p3 (fun r0 r1 r2=>K (.tup [(.agg [(.int .i64 r0),(.int .i64 r1)]),(.int .i64 r2)]))
 | _=>False
def yyp (as:Ls) (K:PV→Prop):Prop:=yoQ yjV as K
def yFS (_:ydd) (_:yd1) (_:yfU) (_:ydW) (_:yhR):LP:=fun _ _ _ _ =>
 False
def yyq (e:List (Nat×EffF)) (a0:ydd) (a1:yd1) (a2:yfU) (a3:ydW) (a4:yhR):SE:=⟨(E e),lookS [(ycs,yh6 a0),(ycP,yjT a1),(yeU,ymn a2),(ycv,yiQ a3),(yhJ,ymT a4)],lookI [],yFS a0 a1 a2 a3 a4⟩
theorem yDQ (e:List (Nat×EffF)) (he:EG e):SEOk (yyq e yd9 ye6 ydF ydo ygC):=yai ⟨(ymP e he),(yoE e he),(yoG e he),(yoK e he),(ywg e he),trivial⟩ trivial he.ok
theorem yFT (e:List (Nat×EffF)) (a0 a1 a2 a3 a4 p0 p1 p2 p3 K):WP (yyq e a0 a1 a2 a3 a4) 6 yHW [(.agg [(.int .i64 p0),(.int .i64 p1)]),(.agg [(.int .i64 p2),(.int .i64 p3)])] K=ysX a0 a1 a2 a3 a4 p0 p1 p2 p3 (fun r0 r1 r2=>K (.tup [(.agg [(.int .i64 r0),(.int .i64 r1)]),(.int .i64 r2)])):=by kernel_rfl
theorem yyr (e:List (Nat×EffF)) (he:EG e):OkF (E e) yyp yjl:=by
 intro as K h
 unfold yyp yoQ at h
 split at h
 · exact WP_ok (yDQ e he) (yah (by kernel_rfl)) (by kernel_rfl) (by kernel_rfl) (fun _=>yac (by kernel_rfl) _) (he.num _ (by kernel_rfl)) ((yFT ..).mpr h)
 · exact h.elim
abbrev yln:Type:=Int→Int→Int→Int→(Int→Int→Int→Prop)→Prop
def ysY (a0:ydd) (a1:yjU) (p0 p1 p2 p3:Int) (K:Int→Int→Int→Prop):Prop :=
 (a0 p0 p1 p2 p3 (fun yi0 =>
 (cbr (yi0 !=(0:Int))
 (a0 p0 p1 p2 p3 (fun yi1 =>
 (K (0:Int) (0:Int) yi1)))
 (cbr (p2 ==(0:Int))
 (K (0:Int) (0:Int) (18:Int))
 (cbr (decide (p2<(0:Int)))
 (a1 p0 p1 (IntKind.i64.wrap ((0:Int)-p3)) (IntKind.i64.wrap ((0:Int)-p2)) (fun yi2 yi3 yi4 =>
 (K yi2 yi3 yi4)))
 (a1 p0 p1 p3 p2 (fun yi5 yi6 yi7 =>
 (K yi5 yi6 yi7))))))))
def ygT (p0 p1 p2 p3:Int) (K:Int→Int→Int→Prop):Prop:=ysY yd9 yjV p0 p1 p2 p3 K
def ysZ (w:yln) (as:Ls) (K:PV→Prop):Prop :=
 match as with
 | [(.agg [(.int .i64 p0),(.int .i64 p1)]),(.agg [(.int .i64 p2),(.int .i64 p3)])]=>w p0 p1 p2 p3 (fun r0 r1 r2=>K (.tup [(.agg [(.int .i64 r0),(.int .i64 r1)]),(.int .i64 r2)]))
 | _=>False
def yys (as:Ls) (K:PV→Prop):Prop:=ysZ ygT as K
def yFU (_:ydd) (_:yjU):LP:=fun _ _ _ _ =>
 False
def yyt (e:List (Nat×EffF)) (a0:ydd) (a1:yjU):SE:=⟨(E e),lookS [(ycs,yh6 a0),(yjl,yoQ a1)],lookI [],yFU a0 a1⟩
theorem yDR (e:List (Nat×EffF)) (he:EG e):SEOk (yyt e yd9 yjV):=yai ⟨(ymP e he),(yyr e he),trivial⟩ trivial he.ok
theorem yFV (e:List (Nat×EffF)) (a0 a1 p0 p1 p2 p3 K):WP (yyt e a0 a1) 6 yHX [(.agg [(.int .i64 p0),(.int .i64 p1)]),(.agg [(.int .i64 p2),(.int .i64 p3)])] K=ysY a0 a1 p0 p1 p2 p3 (fun r0 r1 r2=>K (.tup [(.agg [(.int .i64 r0),(.int .i64 r1)]),(.int .i64 r2)])):=by kernel_rfl
theorem yFW (e:List (Nat×EffF)) (he:EG e):OkF (E e) yys ynE:=by
 intro as K h
 unfold yys ysZ at h
 split at h
 · exact WP_ok (yDR e he) (yah (by kernel_rfl)) (by kernel_rfl) (by kernel_rfl) (fun _=>yac (by kernel_rfl) _) (he.num _ (by kernel_rfl)) ((yFV ..).mpr h)
 · exact h.elim
end Go.Pf.Vc
namespace Go.Pf.Vc
open Go Go.Pf
set_option linter.unusedVariables false
theorem yDS (p0:Int) (p1:Int) (r0:Int) (h:∀ K:Int→Prop,K r0→ydF p0 p1 K) (K:Int→Prop):ydF p0 p1 K=K r0 :=
 propext ⟨fun k=>detC (yoG [] ybE) (as:=[(.int .u64 p0),(.int .u64 p1)]) (x:=(.int .u64 r0)) (fun K' k'=>h (fun r0=>K' (.int .u64 r0)) k') (K:=fun x=>match x with | (.int .u64 r0)=>K r0 | _=>False) k,h K⟩
theorem yzM (p0:Int) (p1:Int) (p2:Int) (r0:Int) (r1:Int) (r2:Int) (h:∀ K:Int→Int→Int→Prop,K r0 r1 r2→ydX p0 p1 p2 K) (K:Int→Int→Int→Prop):ydX p0 p1 p2 K=K r0 r1 r2 :=
 propext ⟨fun k=>detC (yt7 [] ybE) (as:=[(.agg [(.int .u64 p0),(.int .u64 p1)]),(.int .u64 p2)]) (x:=(.tup [(.agg [(.int .u64 r0),(.int .u64 r1)]),(.int .u64 r2)])) (fun K' k'=>h (fun r0 r1 r2=>K' (.tup [(.agg [(.int .u64 r0),(.int .u64 r1)]),(.int .u64 r2)])) k') (K:=fun x=>match x with | (.tup [(.agg [(.int .u64 r0),(.int .u64 r1)]),(.int .u64 r2)])=>K r0 r1 r2 | _=>False) k,h K⟩
end Go.Pf.Vc
namespace Go.Pf.Vc
open Go Go.Pf
set_option maxRecDepth 100000
abbrev yeB:Type:=Int→Ls→Ls→(Bool→Prop)→Prop
def yoR (_:Int) (p1 p2:Ls) (K:Bool→Prop):Prop :=
 (cbr (decide ((((List.length p1):Nat):Int)>(60:Int)))
 (K true)
 (K (decide ((((List.length p2):Nat):Int)>(60:Int)))))
def yfg (p0:Int) (p1 p2:Ls) (K:Bool→Prop):Prop:=yoR p0 p1 p2 K
def yoS (w:yeB) (as:Ls) (K:PV→Prop):Prop :=
 match as with
 | [(.agg [(.int .i64 p0),(.data p1),(.data p2)])]=>w p0 p1 p2 (fun r0=>K (.bool r0))
 | _=>False
def yt8 (as:Ls) (K:PV→Prop):Prop:=yoS yfg as K
def yBG:LP:=fun _ _ _ _ =>
 False
def yt9 (e:List (Nat×EffF)):SE:=⟨(E e),lookS [],lookI [],yBG⟩
theorem yzN (e:List (Nat×EffF)) (he:EG e):SEOk (yt9 e):=yai trivial trivial he.ok
theorem yBH (e:List (Nat×EffF)) ( p0 p1 p2 K):WP (yt9 e) 6 yDb [(.agg [(.int .i64 p0),(.data p1),(.data p2)])] K=yoR p0 p1 p2 (fun r0=>K (.bool r0)):=by kernel_rfl
theorem yBI (e:List (Nat×EffF)) (he:EG e):OkF (E e) yt8 yki:=by
 intro as K h
 unfold yt8 yoS at h
 split at h
 · exact WP_ok (yzN e he) (yah (by kernel_rfl)) (by kernel_rfl) (by kernel_rfl) (fun _=>yac (by kernel_rfl) _) (he.num _ (by kernel_rfl)) ((yBH ..).mpr h)
 · exact h.elim
abbrev ybb:Type:=Int→Ls→Ls→(Int→Prop)→Prop
def ycr (x0:Int→Prop) (x1:Int→Ls→Ls→Bool→Int→Bool→Prop):Nat→Int→Ls→Ls→Bool→Int→Prop
 | 0,_,_,_,_,_=>False
 | n+1,i0,l1,l2,b3,i4 =>
 (cbr (decide (i4<(((List.length l2):Nat):Int)))
 (asr (decide ((0:Int)≤(IntKind.i64.wrap (i4+(1:Int)))))
 (asr (decide ((IntKind.i64.wrap (i4+(1:Int)))<(((List.length l1):Nat):Int)))
 (asr (conf (.one (.i .i64)) (List.getD l1 ((IntKind.i64.wrap (i4+(1:Int))).toNat) .nils))
 (asr (decide ((0:Int)≤i4))
 (asr (decide (i4<(((List.length l1):Nat):Int)))
 (asr (conf (.one (.i .i64)) (List.getD l1 (i4.toNat) .nils))
 (cbr (decide ((intOfV (List.getD l1 ((IntKind.i64.wrap (i4+(1:Int))).toNat) .nils))≤(intOfV (List.getD l1 (i4.toNat) .nils))))
 (x0 (8:Int))
 (asr (decide ((0:Int)≤i4))
 (asr (decide (i4<(((List.length l2):Nat):Int)))
 (asr (conf (.one (.i .i64)) (List.getD l2 (i4.toNat) .nils))
 (cbr (decide ((intOfV (List.getD l2 (i4.toNat) .nils))<(0:Int)))
 (x0 (8:Int))
 (asr (decide ((0:Int)≤i4))
 (asr (decide (i4<(((List.length l2):Nat):Int)))
 (asr (conf (.one (.i .i64)) (List.getD l2 (i4.toNat) .nils))
 (cbr (decide ((intOfV (List.getD l2 (i4.toNat) .nils))>(12:Int)))
 (x0 (8:Int))
 (cbr b3
 (ycr x0 x1 n i0 l1 l2 true (IntKind.i64.wrap (i4+(1:Int))))
 (asr (decide ((0:Int)≤i4))
 (asr (decide (i4<(((List.length l2):Nat):Int)))
 (asr (conf (.one (.i .i64)) (List.getD l2 (i4.toNat) .nils))
 (ycr x0 x1 n i0 l1 l2 (decide ((intOfV (List.getD l2 (i4.toNat) .nils))>(0:Int))) (IntKind.i64.wrap (i4+(1:Int)))))))))))))))))))))))
 (x1 i0 l1 l2 b3 i4 false))
def yoT (p0:Int) (p1 p2:Ls) (K:Int→Prop):Prop :=
 (cbr (decide (p0>(1000:Int)))
 (K (4:Int))
 (cbr (decide ((((List.length p1):Nat):Int)>(40:Int)))
 (K (4:Int))
 (cbr (decide (p0<(1:Int)))
 (K (8:Int))
 (cbr (decide ((((List.length p1):Nat):Int)<(2:Int)))
 (K (8:Int))
 (cbr ((((List.length p2):Nat):Int) !=(IntKind.i64.wrap ((((List.length p1):Nat):Int)-(1:Int))))
 (K (8:Int))
 (asr (decide ((0:Int)<(((List.length p1):Nat):Int)))
 (asr (conf (.one (.i .i64)) (List.getD p1 0 .nils))
 (cbr ((intOfV (List.getD p1 0 .nils)) !=(0:Int))
 (K (8:Int))
 (asr (decide ((0:Int)≤(IntKind.i64.wrap ((((List.length p1):Nat):Int)-(1:Int)))))
 (asr (decide ((IntKind.i64.wrap ((((List.length p1):Nat):Int)-(1:Int)))<(((List.length p1):Nat):Int)))
 (asr (conf (.one (.i .i64)) (List.getD p1 ((IntKind.i64.wrap ((((List.length p1):Nat):Int)-(1:Int))).toNat) .nils))
 (cbr ((intOfV (List.getD p1 ((IntKind.i64.wrap ((((List.length p1):Nat):Int)-(1:Int))).toNat) .nils)) != p0)
 (K (8:Int))
 (∃ n:Nat,ycr
 (fun yi0=>(K yi0))
 (fun _ _ _ yb4 _ _=>(cbr (!yb4)
 (K (8:Int))
 (K (0:Int))))
 n p0 p1 p2 false (0:Int))))))))))))))
def yaO (p0:Int) (p1 p2:Ls) (K:Int→Prop):Prop:=yoT p0 p1 p2 K
def yiR (w:ybb) (as:Ls) (K:PV→Prop):Prop :=
 match as with
 | [(.agg [(.int .i64 p0),(.data p1),(.data p2)])]=>w p0 p1 p2 (fun r0=>K (.int .i64 r0))
 | _=>False
def yua (as:Ls) (K:PV→Prop):Prop:=yiR yaO as K
def yfW (F:Frm) (H:Hp) (A0:Int→Ls→Ls→Bool→Int→Prop):Prop :=
 match F,H with
 | [(1,.box (.agg [(.int .i64 i0),(.data l1),(.data l2)])),(3,.v (.bool b3)),(4,.v (.int .i64 i4))],[]=>(A0 i0 l1 l2 b3 i4)
 | _,_=>False
def ykM (Q:Ex→Frm→Hp→Prop):Int→Prop:=(fun i0=>Q .ret [(2,.v (.int .i64 i0))] [])
def ykN (Q:Ex→Frm→Hp→Prop):Int→Ls→Ls→Bool→Int→Bool→Prop:=(fun i0 l1 l2 b3 i4 b5=>Q (.exit 0) [(1,.box (.agg [(.int .i64 i0),(.data l1),(.data l2)])),(3,.v (.bool b3)),(4,.v (.int .i64 i4)),(57,.v (.bool b5))] [])
def ykd (Q:Ex→Frm→Hp→Prop) (n:Nat) (F:Frm) (H:Hp):Prop:=yfW F H (fun i0 l1 l2 b3 i4=>ycr (ykM Q) (ykN Q) n i0 l1 l2 b3 i4)
def yk8:LP:=fun id F H Q =>
 bif Nat.beq id 94526800 then yfW F H (fun i0 l1 l2 b3 i4=>∃ n:Nat,ycr (ykM Q) (ykN Q) n i0 l1 l2 b3 i4) else
 False
def yoU (e:List (Nat×EffF)):SE:=⟨(E e),lookS [],lookI [],yk8⟩
theorem yr2 (e:List (Nat×EffF)) (he:EG e):SEOk (yoU e):=yai trivial trivial he.ok
theorem ys0 (e:List (Nat×EffF)) ( Q n i0 l1 l2 b3 i4):WC (E e) (callW (yoU e) 5) (yk8) ylz [(1,.box (.agg [(.int .i64 i0),(.data l1),(.data l2)])),(3,.v (.bool b3)),(4,.v (.int .i64 i4))] [] (fun x F' H'=>match x with | .norm=>ykd Q n F' H' | .exit i=>Q (.exit i) F' H' | .ret=>Q .ret F' H')=ycr (ykM Q) (ykN Q) (n+1) i0 l1 l2 b3 i4:=by kernel_rfl
theorem ywN (e:List (Nat×EffF)) (_:EG e):LpOk (E e) (yk8) ylz:=(yah (by kernel_rfl))
theorem yvy (e:List (Nat×EffF)) (he:EG e):∀ F H Q,yk8 94526800 F H Q→LoopT (E e) ylz F H Q:=by
 intro F H Q h
 have go:=LoopT.intro (yaF (yr2 e he) 5) (ywN e he) (ykd Q) (by
   intro F H h
   unfold ykd yfW at h
   split at h
   · exact h
   · exact h) (by
   intro n F H h
   unfold ykd yfW at h
   split at h
   · exact (ys0 ..).mpr h
   · exact h.elim)
 have h:yfW F H _:=h
 unfold yfW at h
 split at h
 · obtain ⟨n,h⟩:=h;exact go n _ _ h
 · exact h.elim
theorem yBJ (e:List (Nat×EffF)) ( p0 p1 p2 K):WP (yoU e) 6 yDc [(.agg [(.int .i64 p0),(.data p1),(.data p2)])] K=yoT p0 p1 p2 (fun r0=>K (.int .i64 r0)):=by kernel_rfl
theorem yk9 (e:List (Nat×EffF)) (he:EG e):OkF (E e) yua ydj:=by
 intro as K h
 unfold yua yiR at h
 split at h
 · exact WP_ok (yr2 e he) (ybe (l:=[(94526800,ylz)]) ⟨yvy e he,trivial⟩ (by kernel_rfl)) (by kernel_rfl) (by kernel_rfl) (fun _=>yac (by kernel_rfl) _) (he.num _ (by kernel_rfl)) ((yBJ ..).mpr h)
 · exact h.elim
abbrev ydp:Type:=Int→Int→Int→(Bool→Prop)→Prop
def yoV (a0:ycV) (a1:yfH) (a2:yaV) (p0 p1 p2:Int) (K:Bool→Prop):Prop :=
 (a0 p1 p2 (fun yi0 =>
 (cbr (yi0 ==(0:Int))
 (cbr (decide (p1≥(0:Int)))
 (a1 p0 (fun yi1 yi2 =>
 (a2 yi1 yi2 p1 p2 (fun yb3 =>
 (K (!yb3))))))
 (K false))
 (K false))))
def ybI (p0 p1 p2:Int) (K:Bool→Prop):Prop:=yoV ycC yfI yaW p0 p1 p2 K
def yla (w:ydp) (as:Ls) (K:PV→Prop):Prop :=
 match as with
 | [(.int .i64 p0),(.agg [(.int .i64 p1),(.int .i64 p2)])]=>w p0 p1 p2 (fun r0=>K (.bool r0))
 | _=>False
def yub (as:Ls) (K:PV→Prop):Prop:=yla ybI as K
def yBK (_:ycV) (_:yfH) (_:yaV):LP:=fun _ _ _ _ =>
 False
def yuc (e:List (Nat×EffF)) (a0:ycV) (a1:yfH) (a2:yaV):SE:=⟨(E e),lookS [(ydl,yiP a0),(yfC,ynR a1),(ybZ,yff a2)],lookI [],yBK a0 a1 a2⟩
theorem yzO (e:List (Nat×EffF)) (he:EG e):SEOk (yuc e ycC yfI yaW):=yai ⟨(yoI e he),(yvw e he),(yh5 e he),trivial⟩ trivial he.ok
theorem yBL (e:List (Nat×EffF)) (a0 a1 a2 p0 p1 p2 K):WP (yuc e a0 a1 a2) 6 yDs [(.int .i64 p0),(.agg [(.int .i64 p1),(.int .i64 p2)])] K=yoV a0 a1 a2 p0 p1 p2 (fun r0=>K (.bool r0)):=by kernel_rfl
theorem yud (e:List (Nat×EffF)) (he:EG e):OkF (E e) yub yfe:=by
 intro as K h
 unfold yub yla at h
 split at h
 · exact WP_ok (yzO e he) (yah (by kernel_rfl)) (by kernel_rfl) (by kernel_rfl) (fun _=>yac (by kernel_rfl) _) (he.num _ (by kernel_rfl)) ((yBL ..).mpr h)
 · exact h.elim
abbrev yeC:Type:=Int→Int→Int→Int→(Int→Int→Prop)→Prop
def yoW (a0:yaV) (p0 p1 p2 p3:Int) (K:Int→Int→Prop):Prop :=
 (a0 p0 p1 p2 p3 (fun yb0 =>
 (cbr yb0
 (K p2 p3)
 (K p0 p1))))
def ydq (p0 p1 p2 p3:Int) (K:Int→Int→Prop):Prop:=yoW yaW p0 p1 p2 p3 K
def ylb (w:yeC) (as:Ls) (K:PV→Prop):Prop :=
 match as with
 | [(.agg [(.int .i64 p0),(.int .i64 p1)]),(.agg [(.int .i64 p2),(.int .i64 p3)])]=>w p0 p1 p2 p3 (fun r0 r1=>K (.agg [(.int .i64 r0),(.int .i64 r1)]))
 | _=>False
def yue (as:Ls) (K:PV→Prop):Prop:=ylb ydq as K
def yBM (_:yaV):LP:=fun _ _ _ _ =>
 False
def yuf (e:List (Nat×EffF)) (a0:yaV):SE:=⟨(E e),lookS [(ybZ,yff a0)],lookI [],yBM a0⟩
theorem yzP (e:List (Nat×EffF)) (he:EG e):SEOk (yuf e yaW):=yai ⟨(yh5 e he),trivial⟩ trivial he.ok
theorem yBN (e:List (Nat×EffF)) (a0 p0 p1 p2 p3 K):WP (yuf e a0) 6 yDt [(.agg [(.int .i64 p0),(.int .i64 p1)]),(.agg [(.int .i64 p2),(.int .i64 p3)])] K=yoW a0 p0 p1 p2 p3 (fun r0 r1=>K (.agg [(.int .i64 r0),(.int .i64 r1)])):=by kernel_rfl
theorem yug (e:List (Nat×EffF)) (he:EG e):OkF (E e) yue ygm:=by
 intro as K h
 unfold yue ylb at h
 split at h
 · exact WP_ok (yzP e he) (yah (by kernel_rfl)) (by kernel_rfl) (by kernel_rfl) (fun _=>yac (by kernel_rfl) _) (he.num _ (by kernel_rfl)) ((yBN ..).mpr h)
 · exact h.elim
abbrev ylc:Type:=Int→Int→Int→Int→(Int→Int→Prop)→Prop
def ynp (a0:yaV) (p0 p1 p2 p3:Int) (K:Int→Int→Prop):Prop :=
 (a0 p0 p1 p2 p3 (fun yb0 =>
 (cbr yb0
 (K p0 p1)
 (K p2 p3))))
def yiS (p0 p1 p2 p3:Int) (K:Int→Int→Prop):Prop:=ynp yaW p0 p1 p2 p3 K
def ynq (w:ylc) (as:Ls) (K:PV→Prop):Prop :=
 match as with
 | [(.agg [(.int .i64 p0),(.int .i64 p1)]),(.agg [(.int .i64 p2),(.int .i64 p3)])]=>w p0 p1 p2 p3 (fun r0 r1=>K (.agg [(.int .i64 r0),(.int .i64 r1)]))
 | _=>False
def yr4 (as:Ls) (K:PV→Prop):Prop:=ynq yiS as K
def yzQ (_:yaV):LP:=fun _ _ _ _ =>
 False
def yr5 (e:List (Nat×EffF)) (a0:yaV):SE:=⟨(E e),lookS [(ybZ,yff a0)],lookI [],yzQ a0⟩
theorem yyu (e:List (Nat×EffF)) (he:EG e):SEOk (yr5 e yaW):=yai ⟨(yh5 e he),trivial⟩ trivial he.ok
theorem yzR (e:List (Nat×EffF)) (a0 p0 p1 p2 p3 K):WP (yr5 e a0) 6 yBc [(.agg [(.int .i64 p0),(.int .i64 p1)]),(.agg [(.int .i64 p2),(.int .i64 p3)])] K=ynp a0 p0 p1 p2 p3 (fun r0 r1=>K (.agg [(.int .i64 r0),(.int .i64 r1)])):=by kernel_rfl
theorem yzS (e:List (Nat×EffF)) (he:EG e):OkF (E e) yr4 yik:=by
 intro as K h
 unfold yr4 ynq at h
 split at h
 · exact WP_ok (yyu e he) (yah (by kernel_rfl)) (by kernel_rfl) (by kernel_rfl) (fun _=>yac (by kernel_rfl) _) (he.num _ (by kernel_rfl)) ((yzR ..).mpr h)
 · exact h.elim
abbrev ydr:Type:=Int→Ls→Ls→Int→Int→Int→Int→Int→(Int→Int→Int→Prop)→Prop
def yoX (a0:yfH) (a1:yeC) (a2:ylc) (a3:yaV) (a4:ygS) (a5:yjU) (_:Int) (p1 p2:Ls) (p3 p4 p5 p6 p7:Int) (K:Int→Int→Int→Prop):Prop :=
 (asr (decide ((0:Int)≤p3))
 (asr (decide (p3<(((List.length p1):Nat):Int)))
 (asr (conf (.one (.i .i64)) (List.getD p1 (p3.toNat) .nils))
 (a0 (intOfV (List.getD p1 (p3.toNat) .nils)) (fun yi0 yi1 =>
 (a1 p4 p5 yi0 yi1 (fun yi2 yi3 =>
 (asr (decide ((0:Int)≤(IntKind.i64.wrap (p3+(1:Int)))))
 (asr (decide ((IntKind.i64.wrap (p3+(1:Int)))<(((List.length p1):Nat):Int)))
 (asr (conf (.one (.i .i64)) (List.getD p1 ((IntKind.i64.wrap (p3+(1:Int))).toNat) .nils))
 (a0 (intOfV (List.getD p1 ((IntKind.i64.wrap (p3+(1:Int))).toNat) .nils)) (fun yi4 yi5 =>
 (a2 p6 p7 yi4 yi5 (fun yi6 yi7 =>
 (a3 yi2 yi3 yi6 yi7 (fun yb8 =>
 (cbr (!yb8)
 (K (0:Int) (1:Int) (0:Int))
 (asr (decide ((0:Int)≤p3))
 (asr (decide (p3<(((List.length p2):Nat):Int)))
 (asr (conf (.one (.i .i64)) (List.getD p2 (p3.toNat) .nils))
 (cbr ((intOfV (List.getD p2 (p3.toNat) .nils)) ==(0:Int))
 (K (0:Int) (1:Int) (0:Int))
 (a4 yi6 yi7 yi2 yi3 (fun yi9 yi10 yi11 =>
 (cbr (yi11 !=(0:Int))
 (K (0:Int) (0:Int) yi11)
 (asr (decide ((0:Int)≤p3))
 (asr (decide (p3<(((List.length p2):Nat):Int)))
 (asr (conf (.one (.i .i64)) (List.getD p2 (p3.toNat) .nils))
 (a0 (intOfV (List.getD p2 (p3.toNat) .nils)) (fun yi12 yi13 =>
 (a5 yi9 yi10 yi12 yi13 (fun yi14 yi15 yi16 =>
 (K yi14 yi15 yi16))))))))))))))))))))))))))))))))
def ybJ (p0:Int) (p1 p2:Ls) (p3 p4 p5 p6 p7:Int) (K:Int→Int→Int→Prop):Prop:=yoX yfI ydq yiS yaW ye7 yjV p0 p1 p2 p3 p4 p5 p6 p7 K
def yld (w:ydr) (as:Ls) (K:PV→Prop):Prop :=
 match as with
 | [(.agg [(.int .i64 p0),(.data p1),(.data p2)]),(.int .i64 p3),(.agg [(.int .i64 p4),(.int .i64 p5)]),(.agg [(.int .i64 p6),(.int .i64 p7)])]=>w p0 p1 p2 p3 p4 p5 p6 p7 (fun r0 r1 r2=>K (.tup [(.agg [(.int .i64 r0),(.int .i64 r1)]),(.int .i64 r2)]))
 | _=>False
def yuh (as:Ls) (K:PV→Prop):Prop:=yld ybJ as K
def yBO (_:yfH) (_:yeC) (_:ylc) (_:yaV) (_:ygS) (_:yjU):LP:=fun _ _ _ _ =>
 False
def yui (e:List (Nat×EffF)) (a0:yfH) (a1:yeC) (a2:ylc) (a3:yaV) (a4:ygS) (a5:yjU):SE:=⟨(E e),lookS [(yfC,ynR a0),(ygm,ylb a1),(yik,ynq a2),(ybZ,yff a3),(yjk,yoP a4),(yjl,yoQ a5)],lookI [],yBO a0 a1 a2 a3 a4 a5⟩
theorem yzT (e:List (Nat×EffF)) (he:EG e):SEOk (yui e yfI ydq yiS yaW ye7 yjV):=yai ⟨(yvw e he),(yug e he),(yzS e he),(yh5 e he),(yyo e he),(yyr e he),trivial⟩ trivial he.ok
theorem yBP (e:List (Nat×EffF)) (a0 a1 a2 a3 a4 a5 p0 p1 p2 p3 p4 p5 p6 p7 K):WP (yui e a0 a1 a2 a3 a4 a5) 6 yDw [(.agg [(.int .i64 p0),(.data p1),(.data p2)]),(.int .i64 p3),(.agg [(.int .i64 p4),(.int .i64 p5)]),(.agg [(.int .i64 p6),(.int .i64 p7)])] K=yoX a0 a1 a2 a3 a4 a5 p0 p1 p2 p3 p4 p5 p6 p7 (fun r0 r1 r2=>K (.tup [(.agg [(.int .i64 r0),(.int .i64 r1)]),(.int .i64 r2)])):=by kernel_rfl
theorem yuj (e:List (Nat×EffF)) (he:EG e):OkF (E e) yuh ygn:=by
 intro as K h
 unfold yuh yld at h
 split at h
 · exact WP_ok (yzT e he) (yah (by kernel_rfl)) (by kernel_rfl) (by kernel_rfl) (fun _=>yac (by kernel_rfl) _) (he.num _ (by kernel_rfl)) ((yBP ..).mpr h)
 · exact h.elim
abbrev ymU:Type:=Int→Ls→Ls→Int→Int→Int→Int→(Int→Int→Int→Prop)→Prop
def ycW (a0:ybb) (a1:ydp) (a2:yaV) (a3:ydr) (a4:ydG) (x0:Int→Int→Int→Prop) (x1:Int→Ls→Ls→Int→Int→Int→Int→Int→Int→Int→Int→Int→Bool→Prop):Nat→Int→Ls→Ls→Int→Int→Int→Int→Int→Int→Int→Int→Int→Prop
 | 0,_,_,_,_,_,_,_,_,_,_,_,_=>False
 | n+1,i0,l1,l2,i3,i4,i5,i6,i7,i8,i9,i10,i11 =>
 (cbr (decide (i11<(((List.length l2):Nat):Int)))
 (a3 i0 l1 l2 i11 i3 i4 i5 i6 (fun yi5 yi6 yi7 =>
 (cbr (yi7 !=(0:Int))
 (x0 (0:Int) (0:Int) yi7)
 (a4 i9 i10 yi5 yi6 (fun yi8 yi9 yi10 =>
 (cbr (yi10 !=(0:Int))
 (x0 (0:Int) (0:Int) yi10)
 (ycW a0 a1 a2 a3 a4 x0 x1 n i0 l1 l2 i3 i4 i5 i6 i7 i8 yi8 yi9 (IntKind.i64.wrap (i11+(1:Int))))))))))
 (x1 i0 l1 l2 i3 i4 i5 i6 i7 i8 i9 i10 i11 false))
def yoY (a0:ybb) (a1:ydp) (a2:yaV) (a3:ydr) (a4:ydG) (p0:Int) (p1 p2:Ls) (p3 p4 p5 p6:Int) (K:Int→Int→Int→Prop):Prop :=
 (a0 p0 p1 p2 (fun yi0 =>
 (cbr (yi0 !=(0:Int))
 (a0 p0 p1 p2 (fun yi1 =>
 (K (0:Int) (0:Int) yi1)))
 (a1 p0 p3 p4 (fun yb2 =>
 (cbr (!yb2)
 (K (0:Int) (0:Int) (2:Int))
 (a1 p0 p5 p6 (fun yb3 =>
 (cbr (!yb3)
 (K (0:Int) (0:Int) (2:Int))
 (a2 p5 p6 p3 p4 (fun yb4 =>
 (cbr yb4
 (K (0:Int) (0:Int) (2:Int))
 (∃ n:Nat,ycW a0 a1 a2 a3 a4
 (fun yi11 yi12 yi13=>(K yi11 yi12 yi13))
 (fun _ _ _ _ _ _ _ _ _ yi23 yi24 _ _=>(K yi23 yi24 (0:Int)))
 n p0 p1 p2 p3 p4 p5 p6 (0:Int) (0:Int) (0:Int) (1:Int) (0:Int))))))))))))))
def ygD (p0:Int) (p1 p2:Ls) (p3 p4 p5 p6:Int) (K:Int→Int→Int→Prop):Prop:=yoY yaO ybI yaW ybJ ycD p0 p1 p2 p3 p4 p5 p6 K
def yoZ (w:ymU) (as:Ls) (K:PV→Prop):Prop :=
 match as with
 | [(.agg [(.int .i64 p0),(.data p1),(.data p2)]),(.agg [(.int .i64 p3),(.int .i64 p4)]),(.agg [(.int .i64 p5),(.int .i64 p6)])]=>w p0 p1 p2 p3 p4 p5 p6 (fun r0 r1 r2=>K (.tup [(.agg [(.int .i64 r0),(.int .i64 r1)]),(.int .i64 r2)]))
 | _=>False
def yuk (as:Ls) (K:PV→Prop):Prop:=yoZ ygD as K
def yfX (F:Frm) (H:Hp) (A0:Int→Ls→Ls→Int→Int→Int→Int→Int→Int→Int→Int→Int→Prop):Prop :=
 match F,H with
 | [(3,.box (.agg [(.int .i64 i0),(.data l1),(.data l2)])),(4,.box (.agg [(.int .i64 i3),(.int .i64 i4)])),(5,.box (.agg [(.int .i64 i5),(.int .i64 i6)])),(6,.box (.agg [(.int .i64 i7),(.int .i64 i8)])),(8,.box (.agg [(.int .i64 i9),(.int .i64 i10)])),(9,.v (.int .i64 i11))],[]=>(A0 i0 l1 l2 i3 i4 i5 i6 i7 i8 i9 i10 i11)
 | _,_=>False
def ykO (Q:Ex→Frm→Hp→Prop):Int→Int→Int→Prop:=(fun i0 i1 i2=>Q .ret [(6,.box (.agg [(.int .i64 i0),(.int .i64 i1)])),(7,.v (.int .i64 i2))] [])
def ykP (Q:Ex→Frm→Hp→Prop):Int→Ls→Ls→Int→Int→Int→Int→Int→Int→Int→Int→Int→Bool→Prop:=(fun i0 l1 l2 i3 i4 i5 i6 i7 i8 i9 i10 i11 b12=>Q (.exit 0) [(3,.box (.agg [(.int .i64 i0),(.data l1),(.data l2)])),(4,.box (.agg [(.int .i64 i3),(.int .i64 i4)])),(5,.box (.agg [(.int .i64 i5),(.int .i64 i6)])),(6,.box (.agg [(.int .i64 i7),(.int .i64 i8)])),(8,.box (.agg [(.int .i64 i9),(.int .i64 i10)])),(9,.v (.int .i64 i11)),(41,.v (.bool b12))] [])
def yke (a0:ybb) (a1:ydp) (a2:yaV) (a3:ydr) (a4:ydG) (Q:Ex→Frm→Hp→Prop) (n:Nat) (F:Frm) (H:Hp):Prop:=yfX F H (fun i0 l1 l2 i3 i4 i5 i6 i7 i8 i9 i10 i11=>ycW a0 a1 a2 a3 a4 (ykO Q) (ykP Q) n i0 l1 l2 i3 i4 i5 i6 i7 i8 i9 i10 i11)
def yle (a0:ybb) (a1:ydp) (a2:yaV) (a3:ydr) (a4:ydG):LP:=fun id F H Q =>
 bif Nat.beq id 92446900 then yfX F H (fun i0 l1 l2 i3 i4 i5 i6 i7 i8 i9 i10 i11=>∃ n:Nat,ycW a0 a1 a2 a3 a4 (ykO Q) (ykP Q) n i0 l1 l2 i3 i4 i5 i6 i7 i8 i9 i10 i11) else
 False
def yo0 (e:List (Nat×EffF)) (a0:ybb) (a1:ydp) (a2:yaV) (a3:ydr) (a4:ydG):SE:=⟨(E e),lookS [(ydj,yiR a0),(yfe,yla a1),(ybZ,yff a2),(ygn,yld a3),(ygI,ymo a4)],lookI [],yle a0 a1 a2 a3 a4⟩
theorem yr8 (e:List (Nat×EffF)) (he:EG e):SEOk (yo0 e yaO ybI yaW ybJ ycD):=yai ⟨(yk9 e he),(yud e he),(yh5 e he),(yuj e he),(ysV e he),trivial⟩ trivial he.ok
theorem ys1 (e:List (Nat×EffF)) (a0 a1 a2 a3 a4 Q n i0 l1 l2 i3 i4 i5 i6 i7 i8 i9 i10 i11):WC (E e) (callW (yo0 e a0 a1 a2 a3 a4) 5) (yle a0 a1 a2 a3 a4) ylU [(3,.box (.agg [(.int .i64 i0),(.data l1),(.data l2)])),(4,.box (.agg [(.int .i64 i3),(.int .i64 i4)])),(5,.box (.agg [(.int .i64 i5),(.int .i64 i6)])),(6,.box (.agg [(.int .i64 i7),(.int .i64 i8)])),(8,.box (.agg [(.int .i64 i9),(.int .i64 i10)])),(9,.v (.int .i64 i11))] [] (fun x F' H'=>match x with | .norm=>yke a0 a1 a2 a3 a4 Q n F' H' | .exit i=>Q (.exit i) F' H' | .ret=>Q .ret F' H')=ycW a0 a1 a2 a3 a4 (ykO Q) (ykP Q) (n+1) i0 l1 l2 i3 i4 i5 i6 i7 i8 i9 i10 i11:=by kernel_rfl
theorem ywO (e:List (Nat×EffF)) (_:EG e):LpOk (E e) (yle yaO ybI yaW ybJ ycD) ylU:=(yah (by kernel_rfl))
theorem yvz (e:List (Nat×EffF)) (he:EG e):∀ F H Q,yle yaO ybI yaW ybJ ycD 92446900 F H Q→LoopT (E e) ylU F H Q:=by
 intro F H Q h
 have go:=LoopT.intro (yaF (yr8 e he) 5) (ywO e he) (yke yaO ybI yaW ybJ ycD Q) (by
   intro F H h
   unfold yke yfX at h
   split at h
   · exact h
   · exact h) (by
   intro n F H h
   unfold yke yfX at h
   split at h
   · exact (ys1 ..).mpr h
   · exact h.elim)
 have h:yfX F H _:=h
 unfold yfX at h
 split at h
 · obtain ⟨n,h⟩:=h;exact go n _ _ h
 · exact h.elim
theorem yBQ (e:List (Nat×EffF)) (a0 a1 a2 a3 a4 p0 p1 p2 p3 p4 p5 p6 K):WP (yo0 e a0 a1 a2 a3 a4) 6 yDx [(.agg [(.int .i64 p0),(.data p1),(.data p2)]),(.agg [(.int .i64 p3),(.int .i64 p4)]),(.agg [(.int .i64 p5),(.int .i64 p6)])] K=yoY a0 a1 a2 a3 a4 p0 p1 p2 p3 p4 p5 p6 (fun r0 r1 r2=>K (.tup [(.agg [(.int .i64 r0),(.int .i64 r1)]),(.int .i64 r2)])):=by kernel_rfl
theorem yul (e:List (Nat×EffF)) (he:EG e):OkF (E e) yuk ykm:=by
 intro as K h
 unfold yuk yoZ at h
 split at h
 · exact WP_ok (yr8 e he) (ybe (l:=[(92446900,ylU)]) ⟨yvz e he,trivial⟩ (by kernel_rfl)) (by kernel_rfl) (by kernel_rfl) (fun _=>yac (by kernel_rfl) _) (he.num _ (by kernel_rfl)) ((yBQ ..).mpr h)
 · exact h.elim
abbrev yo1:Type:=Int→Ls→Ls→Int→Int→Int→Int→(Int→Int→Int→Prop)→Prop
def ybK (a0:ybb) (a1:ydp) (a2:ycV) (a3:yfH) (a4:yaV) (a5:yeC) (a6:ydr) (a7:yln) (a8:ydG) (a9:ygS) (x0:Int→Int→Int→Prop) (x1:Int→Ls→Ls→Int→Int→Int→Int→Int→Int→Int→Int→Int→Bool→Prop):Nat→Int→Ls→Ls→Int→Int→Int→Int→Int→Int→Int→Int→Int→Prop
 | 0,_,_,_,_,_,_,_,_,_,_,_,_=>False
 | n+1,i0,l1,l2,i3,i4,i5,i6,i7,i8,i9,i10,i11 =>
 (cbr (decide (i11<(((List.length l2):Nat):Int)))
 (cbr (decide (i5>(0:Int)))
 (asr (decide ((0:Int)≤(IntKind.i64.wrap (i11+(1:Int)))))
 (asr (decide ((IntKind.i64.wrap (i11+(1:Int)))<(((List.length l1):Nat):Int)))
 (asr (conf (.one (.i .i64)) (List.getD l1 ((IntKind.i64.wrap (i11+(1:Int))).toNat) .nils))
 (a3 (intOfV (List.getD l1 ((IntKind.i64.wrap (i11+(1:Int))).toNat) .nils)) (fun yi4 yi5 =>
 (a4 i9 i10 yi4 yi5 (fun yb6 =>
 (cbr (!yb6)
 (a5 i9 i10 yi4 yi5 (fun yi7 yi8 =>
 (ybK a0 a1 a2 a3 a4 a5 a6 a7 a8 a9 x0 x1 n i0 l1 l2 i3 i4 i5 i6 i7 i8 yi7 yi8 (IntKind.i64.wrap (i11+(1:Int))))))
 (asr (decide ((0:Int)≤i11))
 (asr (decide (i11<(((List.length l2):Nat):Int)))
 (asr (conf (.one (.i .i64)) (List.getD l2 (i11.toNat) .nils))
 (cbr ((intOfV (List.getD l2 (i11.toNat) .nils)) ==(0:Int))
 (a5 i9 i10 yi4 yi5 (fun yi9 yi10 =>
 (ybK a0 a1 a2 a3 a4 a5 a6 a7 a8 a9 x0 x1 n i0 l1 l2 i3 i4 i5 i6 i7 i8 yi9 yi10 (IntKind.i64.wrap (i11+(1:Int))))))
 (a6 i0 l1 l2 i11 i9 i10 yi4 yi5 (fun yi11 yi12 yi13 =>
 (cbr (yi13 !=(0:Int))
 (x0 (0:Int) (0:Int) yi13)
 (a4 yi11 yi12 i5 i6 (fun yb14 =>
 (cbr (!yb14)
 (asr (decide ((0:Int)≤i11))
 (asr (decide (i11<(((List.length l2):Nat):Int)))
 (asr (conf (.one (.i .i64)) (List.getD l2 (i11.toNat) .nils))
 (a3 (intOfV (List.getD l2 (i11.toNat) .nils)) (fun yi15 yi16 =>
 (a7 i5 i6 yi15 yi16 (fun yi17 yi18 yi19 =>
 (cbr (yi19 !=(0:Int))
 (x0 (0:Int) (0:Int) yi19)
 (a8 i9 i10 yi17 yi18 (fun yi20 yi21 yi22 =>
 (x0 yi20 yi21 yi22)))))))))))
 (a9 i5 i6 yi11 yi12 (fun yi23 yi24 yi25 =>
 (cbr (yi25 !=(0:Int))
 (x0 (0:Int) (0:Int) yi25)
 (ybK a0 a1 a2 a3 a4 a5 a6 a7 a8 a9 x0 x1 n i0 l1 l2 i3 i4 yi23 yi24 i7 i8 yi4 yi5 (IntKind.i64.wrap (i11+(1:Int)))))))))))))))))))))))))
 (x1 i0 l1 l2 i3 i4 i5 i6 i7 i8 i9 i10 i11 false))
 (x1 i0 l1 l2 i3 i4 i5 i6 i7 i8 i9 i10 i11 false))
def yqy (a0:ybb) (a1:ydp) (a2:ycV) (a3:yfH) (a4:yaV) (a5:yeC) (a6:ydr) (a7:yln) (a8:ydG) (a9:ygS) (p0:Int) (p1 p2:Ls) (p3 p4 p5 p6:Int) (K:Int→Int→Int→Prop):Prop :=
 (a0 p0 p1 p2 (fun yi0 =>
 (cbr (yi0 !=(0:Int))
 (a0 p0 p1 p2 (fun yi1 =>
 (K (0:Int) (0:Int) yi1)))
 (a1 p0 p3 p4 (fun yb2 =>
 (cbr (!yb2)
 (K (0:Int) (0:Int) (2:Int))
 (a2 p5 p6 (fun yi3 =>
 (cbr (yi3 !=(0:Int))
 (K (0:Int) (0:Int) (2:Int))
 (cbr (decide (p5<(0:Int)))
 (K (0:Int) (0:Int) (2:Int))
 (∃ n:Nat,ybK a0 a1 a2 a3 a4 a5 a6 a7 a8 a9
 (fun yi26 yi27 yi28=>(K yi26 yi27 yi28))
 (fun _ _ _ yi32 yi33 yi34 _ _ _ _ _ _ _=>(cbr (decide (yi34>(0:Int)))
 (K (0:Int) (0:Int) (6:Int))
 (K yi32 yi33 (0:Int))))
 n p0 p1 p2 p3 p4 p5 p6 (0:Int) (0:Int) p3 p4 (0:Int))))))))))))
def yhS (p0:Int) (p1 p2:Ls) (p3 p4 p5 p6:Int) (K:Int→Int→Int→Prop):Prop:=yqy yaO ybI ycC yfI yaW ydq ybJ ygT ycD ye7 p0 p1 p2 p3 p4 p5 p6 K
def yqz (w:yo1) (as:Ls) (K:PV→Prop):Prop :=
 match as with
 | [(.agg [(.int .i64 p0),(.data p1),(.data p2)]),(.agg [(.int .i64 p3),(.int .i64 p4)]),(.agg [(.int .i64 p5),(.int .i64 p6)])]=>w p0 p1 p2 p3 p4 p5 p6 (fun r0 r1 r2=>K (.tup [(.agg [(.int .i64 r0),(.int .i64 r1)]),(.int .i64 r2)]))
 | _=>False
def ywh (as:Ls) (K:PV→Prop):Prop:=yqz yhS as K
def ygU (F:Frm) (H:Hp) (A0:Int→Ls→Ls→Int→Int→Int→Int→Int→Int→Int→Int→Int→Prop):Prop :=
 match F,H with
 | [(3,.box (.agg [(.int .i64 i0),(.data l1),(.data l2)])),(4,.box (.agg [(.int .i64 i3),(.int .i64 i4)])),(5,.box (.agg [(.int .i64 i5),(.int .i64 i6)])),(6,.box (.agg [(.int .i64 i7),(.int .i64 i8)])),(8,.box (.agg [(.int .i64 i9),(.int .i64 i10)])),(9,.v (.int .i64 i11))],[]=>(A0 i0 l1 l2 i3 i4 i5 i6 i7 i8 i9 i10 i11)
 | _,_=>False
def ymp (Q:Ex→Frm→Hp→Prop):Int→Int→Int→Prop:=(fun i0 i1 i2=>Q .ret [(6,.box (.agg [(.int .i64 i0),(.int .i64 i1)])),(7,.v (.int .i64 i2))] [])
def ymq (Q:Ex→Frm→Hp→Prop):Int→Ls→Ls→Int→Int→Int→Int→Int→Int→Int→Int→Int→Bool→Prop:=(fun i0 l1 l2 i3 i4 i5 i6 i7 i8 i9 i10 i11 b12=>Q (.exit 0) [(3,.box (.agg [(.int .i64 i0),(.data l1),(.data l2)])),(4,.box (.agg [(.int .i64 i3),(.int .i64 i4)])),(5,.box (.agg [(.int .i64 i5),(.int .i64 i6)])),(6,.box (.agg [(.int .i64 i7),(.int .i64 i8)])),(8,.box (.agg [(.int .i64 i9),(.int .i64 i10)])),(9,.v (.int .i64 i11)),(47,.v (.bool b12))] [])
def ylf (a0:ybb) (a1:ydp) (a2:ycV) (a3:yfH) (a4:yaV) (a5:yeC) (a6:ydr) (a7:yln) (a8:ydG) (a9:ygS) (Q:Ex→Frm→Hp→Prop) (n:Nat) (F:Frm) (H:Hp):Prop:=ygU F H (fun i0 l1 l2 i3 i4 i5 i6 i7 i8 i9 i10 i11=>ybK a0 a1 a2 a3 a4 a5 a6 a7 a8 a9 (ymp Q) (ymq Q) n i0 l1 l2 i3 i4 i5 i6 i7 i8 i9 i10 i11)
def ymV (a0:ybb) (a1:ydp) (a2:ycV) (a3:yfH) (a4:yaV) (a5:yeC) (a6:ydr) (a7:yln) (a8:ydG) (a9:ygS):LP:=fun id F H Q =>
 bif Nat.beq id 63725400 then ygU F H (fun i0 l1 l2 i3 i4 i5 i6 i7 i8 i9 i10 i11=>∃ n:Nat,ybK a0 a1 a2 a3 a4 a5 a6 a7 a8 a9 (ymp Q) (ymq Q) n i0 l1 l2 i3 i4 i5 i6 i7 i8 i9 i10 i11) else
 False
def yqA (e:List (Nat×EffF)) (a0:ybb) (a1:ydp) (a2:ycV) (a3:yfH) (a4:yaV) (a5:yeC) (a6:ydr) (a7:yln) (a8:ydG) (a9:ygS):SE:=⟨(E e),lookS [(ydj,yiR a0),(yfe,yla a1),(ydl,yiP a2),(yfC,ynR a3),(ybZ,yff a4),(ygm,ylb a5),(ygn,yld a6),(ynE,ysZ a7),(ygI,ymo a8),(yjk,yoP a9)],lookI [],ymV a0 a1 a2 a3 a4 a5 a6 a7 a8 a9⟩
theorem yum (e:List (Nat×EffF)) (he:EG e):SEOk (yqA e yaO ybI ycC yfI yaW ydq ybJ ygT ycD ye7):=yai ⟨(yk9 e he),(yud e he),(yoI e he),(yvw e he),(yh5 e he),(yug e he),(yuj e he),(yFW e he),(ysV e he),(yyo e he),trivial⟩ trivial he.ok
theorem yun (e:List (Nat×EffF)) (a0 a1 a2 a3 a4 a5 a6 a7 a8 a9 Q n i0 l1 l2 i3 i4 i5 i6 i7 i8 i9 i10 i11):WC (E e) (callW (yqA e a0 a1 a2 a3 a4 a5 a6 a7 a8 a9) 5) (ymV a0 a1 a2 a3 a4 a5 a6 a7 a8 a9) ylV [(3,.box (.agg [(.int .i64 i0),(.data l1),(.data l2)])),(4,.box (.agg [(.int .i64 i3),(.int .i64 i4)])),(5,.box (.agg [(.int .i64 i5),(.int .i64 i6)])),(6,.box (.agg [(.int .i64 i7),(.int .i64 i8)])),(8,.box (.agg [(.int .i64 i9),(.int .i64 i10)])),(9,.v (.int .i64 i11))] [] (fun x F' H'=>match x with | .norm=>ylf a0 a1 a2 a3 a4 a5 a6 a7 a8 a9 Q n F' H' | .exit i=>Q (.exit i) F' H' | .ret=>Q .ret F' H')=ybK a0 a1 a2 a3 a4 a5 a6 a7 a8 a9 (ymp Q) (ymq Q) (n+1) i0 l1 l2 i3 i4 i5 i6 i7 i8 i9 i10 i11:=by kernel_rfl
theorem yyv (e:List (Nat×EffF)) (_:EG e):LpOk (E e) (ymV yaO ybI ycC yfI yaW ydq ybJ ygT ycD ye7) ylV:=(yah (by kernel_rfl))
theorem ywP (e:List (Nat×EffF)) (he:EG e):∀ F H Q,ymV yaO ybI ycC yfI yaW ydq ybJ ygT ycD ye7 63725400 F H Q→LoopT (E e) ylV F H Q:=by
 intro F H Q h
 have go:=LoopT.intro (yaF (yum e he) 5) (yyv e he) (ylf yaO ybI ycC yfI yaW ydq ybJ ygT ycD ye7 Q) (by
   intro F H h
   unfold ylf ygU at h
   split at h
   · exact h
   · exact h) (by
   intro n F H h
   unfold ylf ygU at h
   split at h
   · exact (yun ..).mpr h
   · exact h.elim)
 have h:ygU F H _:=h
 unfold ygU at h
 split at h
 · obtain ⟨n,h⟩:=h;exact go n _ _ h
 · exact h.elim
theorem yDT (e:List (Nat×EffF)) (a0 a1 a2 a3 a4 a5 a6 a7 a8 a9 p0 p1 p2 p3 p4 p5 p6 K):WP (yqA e a0 a1 a2 a3 a4 a5 a6 a7 a8 a9) 6 yFv [(.agg [(.int .i64 p0),(.data p1),(.data p2)]),(.agg [(.int .i64 p3),(.int .i64 p4)]),(.agg [(.int .i64 p5),(.int .i64 p6)])] K=yqy a0 a1 a2 a3 a4 a5 a6 a7 a8 a9 p0 p1 p2 p3 p4 p5 p6 (fun r0 r1 r2=>K (.tup [(.agg [(.int .i64 r0),(.int .i64 r1)]),(.int .i64 r2)])):=by kernel_rfl
theorem ywi (e:List (Nat×EffF)) (he:EG e):OkF (E e) ywh yly:=by
 intro as K h
 unfold ywh yqz at h
 split at h
 · exact WP_ok (yum e he) (ybe (l:=[(63725400,ylV)]) ⟨ywP e he,trivial⟩ (by kernel_rfl)) (by kernel_rfl) (by kernel_rfl) (fun _=>yac (by kernel_rfl) _) (he.num _ (by kernel_rfl)) ((yDT ..).mpr h)
 · exact h.elim
end Go.Pf.Vc
namespace Go.Pf.Vc
open Go Go.Pf
set_option linter.unusedVariables false
theorem yzU (p0:Int) (p1:Ls) (p2:Ls) (r0:Int) (h:∀ K:Int→Prop,K r0→yaO p0 p1 p2 K) (K:Int→Prop):yaO p0 p1 p2 K=K r0 :=
 propext ⟨fun k=>detC (yk9 [] ybE) (as:=[(.agg [(.int .i64 p0),(.data p1),(.data p2)])]) (x:=(.int .i64 r0)) (fun K' k'=>h (fun r0=>K' (.int .i64 r0)) k') (K:=fun x=>match x with | (.int .i64 r0)=>K r0 | _=>False) k,h K⟩
theorem yzV (p0:Int) (p1:Ls) (p2:Ls) (p3:Int) (p4:Int) (p5:Int) (p6:Int) (r0:Int) (r1:Int) (r2:Int) (h:∀ K:Int→Int→Int→Prop,K r0 r1 r2→ygD p0 p1 p2 p3 p4 p5 p6 K) (K:Int→Int→Int→Prop):ygD p0 p1 p2 p3 p4 p5 p6 K=K r0 r1 r2 :=
 propext ⟨fun k=>detC (yul [] ybE) (as:=[(.agg [(.int .i64 p0),(.data p1),(.data p2)]),(.agg [(.int .i64 p3),(.int .i64 p4)]),(.agg [(.int .i64 p5),(.int .i64 p6)])]) (x:=(.tup [(.agg [(.int .i64 r0),(.int .i64 r1)]),(.int .i64 r2)])) (fun K' k'=>h (fun r0 r1 r2=>K' (.tup [(.agg [(.int .i64 r0),(.int .i64 r1)]),(.int .i64 r2)])) k') (K:=fun x=>match x with | (.tup [(.agg [(.int .i64 r0),(.int .i64 r1)]),(.int .i64 r2)])=>K r0 r1 r2 | _=>False) k,h K⟩
theorem yBR (p0:Int) (p1:Ls) (p2:Ls) (p3:Int) (p4:Int) (p5:Int) (p6:Int) (r0:Int) (r1:Int) (r2:Int) (h:∀ K:Int→Int→Int→Prop,K r0 r1 r2→yhS p0 p1 p2 p3 p4 p5 p6 K) (K:Int→Int→Int→Prop):yhS p0 p1 p2 p3 p4 p5 p6 K=K r0 r1 r2 :=
 propext ⟨fun k=>detC (ywi [] ybE) (as:=[(.agg [(.int .i64 p0),(.data p1),(.data p2)]),(.agg [(.int .i64 p3),(.int .i64 p4)]),(.agg [(.int .i64 p5),(.int .i64 p6)])]) (x:=(.tup [(.agg [(.int .i64 r0),(.int .i64 r1)]),(.int .i64 r2)])) (fun K' k'=>h (fun r0 r1 r2=>K' (.tup [(.agg [(.int .i64 r0),(.int .i64 r1)]),(.int .i64 r2)])) k') (K:=fun x=>match x with | (.tup [(.agg [(.int .i64 r0),(.int .i64 r1)]),(.int .i64 r2)])=>K r0 r1 r2 | _=>False) k,h K⟩
end Go.Pf.Vc
namespace Go.Pf.Vc
open Go Go.Pf
set_option maxRecDepth 100000
abbrev ymW:Type:=Ls→Ls→Int→(Bool→Prop)→Prop
def yo2 (p0 _:Ls) (p2:Int) (K:Bool→Prop):Prop :=
 (cbr (decide (p2≥(0:Int)))
 (K (decide (p2<(((List.length p0):Nat):Int))))
 (K false))
def ykw (p0 p1:Ls) (p2:Int) (K:Bool→Prop):Prop:=yo2 p0 p1 p2 K
def yo3 (w:ymW) (as:Ls) (K:PV→Prop):Prop :=
 match as with
 | [(.agg [(.data p0),(.data p1)]),(.int .i64 p2)]=>w p0 p1 p2 (fun r0=>K (.bool r0))
 | _=>False
def yuo (as:Ls) (K:PV→Prop):Prop:=yo3 ykw as K
def yBS:LP:=fun _ _ _ _ =>
 False
def yup (e:List (Nat×EffF)):SE:=⟨(E e),lookS [],lookI [],yBS⟩
theorem yzW (e:List (Nat×EffF)) (he:EG e):SEOk (yup e):=yai trivial trivial he.ok
theorem yBT (e:List (Nat×EffF)) ( p0 p1 p2 K):WP (yup e) 6 yDp [(.agg [(.data p0),(.data p1)]),(.int .i64 p2)] K=yo2 p0 p1 p2 (fun r0=>K (.bool r0)):=by kernel_rfl
theorem yBU (e:List (Nat×EffF)) (he:EG e):OkF (E e) yuo ykl:=by
 intro as K h
 unfold yuo yo3 at h
 split at h
 · exact WP_ok (yzW e he) (yah (by kernel_rfl)) (by kernel_rfl) (by kernel_rfl) (fun _=>yac (by kernel_rfl) _) (he.num _ (by kernel_rfl)) ((yBT ..).mpr h)
 · exact h.elim
abbrev ylg:Type:=Ls→Int→Int→Int→Int→Int→Int→Int→Int→(Int→Int→Int→Prop)→Prop
def ynr (a0:ymU) (a1:yo1) (p0:Ls) (p1 p2 p3 p4 p5 p6 _ _:Int) (K:Int→Int→Int→Prop):Prop :=
 (cbr (p2 ==(1:Int))
 (asr (decide ((0:Int)≤p1))
 (asr (decide (p1<(((List.length p0):Nat):Int)))
 (asr (conf (.agg [.i .i64,.d,.d]) (List.getD p0 (p1.toNat) .nils))
 (a0 (intOfV (cellAt (List.getD p0 (p1.toNat) .nils) 0)) (datOfV (cellAt (List.getD p0 (p1.toNat) .nils) 1)) (datOfV (cellAt (List.getD p0 (p1.toNat) .nils) 2)) p3 p4 p5 p6 (fun yi0 yi1 yi2 =>
 (K yi0 yi1 yi2))))))
 (asr (decide ((0:Int)≤p1))
 (asr (decide (p1<(((List.length p0):Nat):Int)))
 (asr (conf (.agg [.i .i64,.d,.d]) (List.getD p0 (p1.toNat) .nils))
 (a1 (intOfV (cellAt (List.getD p0 (p1.toNat) .nils) 0)) (datOfV (cellAt (List.getD p0 (p1.toNat) .nils) 1)) (datOfV (cellAt (List.getD p0 (p1.toNat) .nils) 2)) p3 p4 p5 p6 (fun yi3 yi4 yi5 =>
 (K yi3 yi4 yi5)))))))
def ygV (p0:Ls) (p1 p2 p3 p4 p5 p6 p7 p8:Int) (K:Int→Int→Int→Prop):Prop:=ynr ygD yhS p0 p1 p2 p3 p4 p5 p6 p7 p8 K
def yns (w:ylg) (as:Ls) (K:PV→Prop):Prop :=
 match as with
 | [(.data p0),(.agg [(.int .i64 p1),(.int .u8 p2),(.int .i64 p3),(.int .i64 p4),(.int .i64 p5),(.int .i64 p6),(.int .i64 p7),(.int .i64 p8)])]=>w p0 p1 p2 p3 p4 p5 p6 p7 p8 (fun r0 r1 r2=>K (.tup [(.agg [(.int .i64 r0),(.int .i64 r1)]),(.int .i64 r2)]))
 | _=>False
def yr9 (as:Ls) (K:PV→Prop):Prop:=yns ygV as K
def yzX (_:ymU) (_:yo1):LP:=fun _ _ _ _ =>
 False
def ysa (e:List (Nat×EffF)) (a0:ymU) (a1:yo1):SE:=⟨(E e),lookS [(ykm,yoZ a0),(yly,yqz a1)],lookI [],yzX a0 a1⟩
theorem yyw (e:List (Nat×EffF)) (he:EG e):SEOk (ysa e ygD yhS):=yai ⟨(yul e he),(ywi e he),trivial⟩ trivial he.ok
theorem yzY (e:List (Nat×EffF)) (a0 a1 p0 p1 p2 p3 p4 p5 p6 p7 p8 K):WP (ysa e a0 a1) 6 yBd [(.data p0),(.agg [(.int .i64 p1),(.int .u8 p2),(.int .i64 p3),(.int .i64 p4),(.int .i64 p5),(.int .i64 p6),(.int .i64 p7),(.int .i64 p8)])] K=ynr a0 a1 p0 p1 p2 p3 p4 p5 p6 p7 p8 (fun r0 r1 r2=>K (.tup [(.agg [(.int .i64 r0),(.int .i64 r1)]),(.int .i64 r2)])):=by kernel_rfl
theorem yzZ (e:List (Nat×EffF)) (he:EG e):OkF (E e) yr9 yil:=by
 intro as K h
 unfold yr9 yns at h
 split at h
 · exact WP_ok (yyw e he) (yah (by kernel_rfl)) (by kernel_rfl) (by kernel_rfl) (fun _=>yac (by kernel_rfl) _) (he.num _ (by kernel_rfl)) ((yzY ..).mpr h)
 · exact h.elim
abbrev ygE:Type:=Ls→Int→Int→Int→Int→Int→Int→Int→Int→(Bool→Prop)→Prop
def yo4 (a0:ymW) (a1:ylg) (p0:Ls) (p1 p2 p3 p4 p5 p6 p7 p8:Int) (K:Bool→Prop):Prop :=
 (jn (fun (yj6:Bool→Prop) =>
 (a0 p0 ([]:Ls) p1 (fun yb15 =>
 (cbr (!yb15)
 (yj6 true)
 (cbr (p2 !=(1:Int))
 (yj6 (p2 !=(2:Int)))
 (yj6 false))))))
 (fun yb5=>(cbr yb5
 (K false)
 (a1 p0 p1 p2 p3 p4 p5 p6 p7 p8 (fun yi10 yi11 yi12 =>
 (jn (fun (yj14:Bool→Prop) =>
 (cbr (yi12 ==(0:Int))
 (yj14 ((yi10 == p7)&&((yi11 == p8)&&true)))
 (yj14 false)))
 (fun yb13=>(K yb13))))))))
def ybL (p0:Ls) (p1 p2 p3 p4 p5 p6 p7 p8:Int) (K:Bool→Prop):Prop:=yo4 ykw ygV p0 p1 p2 p3 p4 p5 p6 p7 p8 K
def yo5 (w:ygE) (as:Ls) (K:PV→Prop):Prop :=
 match as with
 | [(.data p0),(.agg [(.int .i64 p1),(.int .u8 p2),(.int .i64 p3),(.int .i64 p4),(.int .i64 p5),(.int .i64 p6),(.int .i64 p7),(.int .i64 p8)])]=>w p0 p1 p2 p3 p4 p5 p6 p7 p8 (fun r0=>K (.bool r0))
 | _=>False
def yuq (as:Ls) (K:PV→Prop):Prop:=yo5 ybL as K
def yBV (_:ymW) (_:ylg):LP:=fun _ _ _ _ =>
 False
def yur (e:List (Nat×EffF)) (a0:ymW) (a1:ylg):SE:=⟨(E e),lookS [(ykl,yo3 a0),(yil,yns a1)],lookI [],yBV a0 a1⟩
theorem yz0 (e:List (Nat×EffF)) (he:EG e):SEOk (yur e ykw ygV):=yai ⟨(yBU e he),(yzZ e he),trivial⟩ trivial he.ok
theorem yBW (e:List (Nat×EffF)) (a0 a1 p0 p1 p2 p3 p4 p5 p6 p7 p8 K):WP (yur e a0 a1) 6 yDy [(.data p0),(.agg [(.int .i64 p1),(.int .u8 p2),(.int .i64 p3),(.int .i64 p4),(.int .i64 p5),(.int .i64 p6),(.int .i64 p7),(.int .i64 p8)])] K=yo4 a0 a1 p0 p1 p2 p3 p4 p5 p6 p7 p8 (fun r0=>K (.bool r0)):=by kernel_rfl
theorem yBX (e:List (Nat×EffF)) (he:EG e):OkF (E e) yuq ykn:=by
 intro as K h
 unfold yuq yo5 at h
 split at h
 · exact WP_ok (yz0 e he) (yah (by kernel_rfl)) (by kernel_rfl) (by kernel_rfl) (fun _=>yac (by kernel_rfl) _) (he.num _ (by kernel_rfl)) ((yBW ..).mpr h)
 · exact h.elim
end Go.Pf.Vc
namespace Go.Pf.Vc
open Go Go.Pf
set_option maxRecDepth 100000
abbrev yeD:Type:=Ls→(Bool→Prop)→Prop
def yo6 (p0:Ls) (K:Bool→Prop):Prop :=
 (jn (fun (yj1:Bool→Prop) =>
 (cbr (decide ((((List.length p0):Nat):Int)>(14:Int)))
 (cbr (decide ((((List.length p0):Nat):Int)≤(40:Int)))
 (yj1 true)
 (yj1 (decide ((((List.length p0):Nat):Int)>(60:Int)))))
 (yj1 (decide ((((List.length p0):Nat):Int)>(60:Int))))))
 (fun yb0=>(K yb0)))
def yfh (p0:Ls) (K:Bool→Prop):Prop:=yo6 p0 K
def yo7 (w:yeD) (as:Ls) (K:PV→Prop):Prop :=
 match as with
 | [(.data p0)]=>w p0 (fun r0=>K (.bool r0))
 | _=>False
def yus (as:Ls) (K:PV→Prop):Prop:=yo7 yfh as K
def yBY:LP:=fun _ _ _ _ =>
 False
def yut (e:List (Nat×EffF)):SE:=⟨(E e),lookS [],lookI [],yBY⟩
theorem yz1 (e:List (Nat×EffF)) (he:EG e):SEOk (yut e):=yai trivial trivial he.ok
theorem yBZ (e:List (Nat×EffF)) ( p0 K):WP (yut e) 6 yDd [(.data p0)] K=yo6 p0 (fun r0=>K (.bool r0)):=by kernel_rfl
theorem yB0 (e:List (Nat×EffF)) (he:EG e):OkF (E e) yus ykj:=by
 intro as K h
 unfold yus yo7 at h
 split at h
 · exact WP_ok (yz1 e he) (yah (by kernel_rfl)) (by kernel_rfl) (by kernel_rfl) (fun _=>yac (by kernel_rfl) _) (he.num _ (by kernel_rfl)) ((yBZ ..).mpr h)
 · exact h.elim
abbrev yiT:Type:=Ls→Ls→(Bool→Prop)→Prop
def ybM (x0:Ls→Ls→Int→Bool→Prop) (x1:Bool→Prop):Nat→Ls→Ls→Int→Prop
 | 0,_,_,_=>False
 | n+1,l0,l1,i2 =>
 (cbr (decide (i2<(((List.length l0):Nat):Int)))
 (asr (decide ((0:Int)≤i2))
 (asr (decide (i2<(((List.length l0):Nat):Int)))
 (lt (List.getD l0 (i2.toNat) .nils) (fun yr6 =>
 (asr (conf (.agg [.i .i64,.i .i64]) yr6)
 (asr (decide ((0:Int)≤i2))
 (asr (decide (i2<(((List.length l1):Nat):Int)))
 (lt (List.getD l1 (i2.toNat) .nils) (fun yr7 =>
 (asr (conf (.agg [.i .i64,.i .i64]) yr7)
 (cbr (!(((intOfV (cellAt yr6 0)) ==(intOfV (cellAt yr7 0)))&&(((intOfV (cellAt yr6 1)) ==(intOfV (cellAt yr7 1)))&&true)))
 (x1 false)
 (lt (IntKind.i64.wrap (i2+(1:Int))) (fun yi8 =>
 (ybM x0 x1 n l0 l1 yi8))))))))))))))
 (x0 l0 l1 i2 false))
def ykQ (p0 p1:Ls) (K:Bool→Prop):Prop :=
 (cbr ((((List.length p0):Nat):Int) !=(((List.length p1):Nat):Int))
 (K false)
 (∃ n:Nat,ybM
 (fun _ _ _ _=>(K true))
 (fun yb18=>(K yb18))
 n p0 p1 (0:Int)))
def yds (p0 p1:Ls) (K:Bool→Prop):Prop:=ykQ p0 p1 K
def ykR (w:yiT) (as:Ls) (K:PV→Prop):Prop :=
 match as with
 | [(.data p0),(.data p1)]=>w p0 p1 (fun r0=>K (.bool r0))
 | _=>False
def ypv (as:Ls) (K:PV→Prop):Prop:=ykR yds as K
def yd2 (F:Frm) (H:Hp) (A0:Ls→Ls→Int→Prop):Prop :=
 match F,H with
 | [(0,.v (.data l0)),(1,.v (.data l1)),(5,.v (.int .i64 i2))],[]=>(A0 l0 l1 i2)
 | _,_=>False
def yhT (Q:Ex→Frm→Hp→Prop):Ls→Ls→Int→Bool→Prop:=(fun l0 l1 i2 b3=>Q (.exit 0) [(0,.v (.data l0)),(1,.v (.data l1)),(5,.v (.int .i64 i2)),(14,.v (.bool b3))] [])
def yhU (Q:Ex→Frm→Hp→Prop):Bool→Prop:=(fun b0=>Q .ret [(4,.v (.bool b0))] [])
def ygW (Q:Ex→Frm→Hp→Prop) (n:Nat) (F:Frm) (H:Hp):Prop:=yd2 F H (fun l0 l1 i2=>ybM (yhT Q) (yhU Q) n l0 l1 i2)
def yhF:LP:=fun id F H Q =>
 bif Nat.beq id 53352400 then yd2 F H (fun l0 l1 i2=>∃ n:Nat,ybM (yhT Q) (yhU Q) n l0 l1 i2) else
 False
def ykS (e:List (Nat×EffF)):SE:=⟨(E e),lookS [],lookI [],yhF⟩
theorem ynT (e:List (Nat×EffF)) (he:EG e):SEOk (ykS e):=yai trivial trivial he.ok
theorem ypG (e:List (Nat×EffF)) ( Q n l0 l1 i2):WC (E e) (callW (ykS e) 5) (yhF) ylM [(0,.v (.data l0)),(1,.v (.data l1)),(5,.v (.int .i64 i2))] [] (fun x F' H'=>match x with | .norm=>ygW Q n F' H' | .exit i=>Q (.exit i) F' H' | .ret=>Q .ret F' H')=ybM (yhT Q) (yhU Q) (n+1) l0 l1 i2:=by kernel_rfl
theorem ys2 (e:List (Nat×EffF)) (_:EG e):LpOk (E e) (yhF) ylM:=(yah (by kernel_rfl))
theorem yrx (e:List (Nat×EffF)) (he:EG e):∀ F H Q,yhF 53352400 F H Q→LoopT (E e) ylM F H Q:=by
 intro F H Q h
 have go:=LoopT.intro (yaF (ynT e he) 5) (ys2 e he) (ygW Q) (by
   intro F H h
   unfold ygW yd2 at h
   split at h
   · exact h
   · exact h) (by
   intro n F H h
   unfold ygW yd2 at h
   split at h
   · exact (ypG ..).mpr h
   · exact h.elim)
 have h:yd2 F H _:=h
 unfold yd2 at h
 split at h
 · obtain ⟨n,h⟩:=h;exact go n _ _ h
 · exact h.elim
theorem ywQ (e:List (Nat×EffF)) ( p0 p1 K):WP (ykS e) 6 yxJ [(.data p0),(.data p1)] K=ykQ p0 p1 (fun r0=>K (.bool r0)):=by kernel_rfl
theorem ypw (e:List (Nat×EffF)) (he:EG e):OkF (E e) ypv yeT:=by
 intro as K h
 unfold ypv ykR at h
 split at h
 · exact WP_ok (ynT e he) (ybe (l:=[(53352400,ylM)]) ⟨yrx e he,trivial⟩ (by kernel_rfl)) (by kernel_rfl) (by kernel_rfl) (fun _=>yac (by kernel_rfl) _) (he.num _ (by kernel_rfl)) ((ywQ ..).mpr h)
 · exact h.elim
abbrev yo8:Type:=Ls→Ls→Ls→Ls→(Bool→Prop)→Prop
def yqB (a0:yiT) (p0 p1 p2 p3:Ls) (K:Bool→Prop):Prop :=
 (jn (fun (yj3:Bool→Prop) =>
 (a0 p0 p2 (fun yb4 =>
 (cbr yb4
 (a0 p1 p3 (fun yb5 =>
 (yj3 yb5)))
 (yj3 false)))))
 (fun yb2=>(K yb2)))
def ymr (p0 p1 p2 p3:Ls) (K:Bool→Prop):Prop:=yqB yds p0 p1 p2 p3 K
def yqC (w:yo8) (as:Ls) (K:PV→Prop):Prop :=
 match as with
 | [(.agg [(.data p0),(.data p1)]),(.agg [(.data p2),(.data p3)])]=>w p0 p1 p2 p3 (fun r0=>K (.bool r0))
 | _=>False
def ywj (as:Ls) (K:PV→Prop):Prop:=yqC ymr as K
def yDU (_:yiT):LP:=fun _ _ _ _ =>
 False
def ywk (e:List (Nat×EffF)) (a0:yiT):SE:=⟨(E e),lookS [(yeT,ykR a0)],lookI [],yDU a0⟩
theorem yB1 (e:List (Nat×EffF)) (he:EG e):SEOk (ywk e yds):=yai ⟨(ypw e he),trivial⟩ trivial he.ok
theorem yDV (e:List (Nat×EffF)) (a0 p0 p1 p2 p3 K):WP (ywk e a0) 6 yFp [(.agg [(.data p0),(.data p1)]),(.agg [(.data p2),(.data p3)])] K=yqB a0 p0 p1 p2 p3 (fun r0=>K (.bool r0)):=by kernel_rfl
theorem yDW (e:List (Nat×EffF)) (he:EG e):OkF (E e) ywj yji:=by
 intro as K h
 unfold ywj yqC at h
 split at h
 · exact WP_ok (yB1 e he) (yah (by kernel_rfl)) (by kernel_rfl) (by kernel_rfl) (fun _=>yac (by kernel_rfl) _) (he.num _ (by kernel_rfl)) ((yDV ..).mpr h)
 · exact h.elim
end Go.Pf.Vc
namespace Go.Pf.Vc
open Go Go.Pf
set_option linter.unusedVariables false
theorem yvA (p0:Ls) (p1:Ls) (r0:Bool) (h:∀ K:Bool→Prop,K r0→yds p0 p1 K) (K:Bool→Prop):yds p0 p1 K=K r0 :=
 propext ⟨fun k=>detC (ypw [] ybE) (as:=[(.data p0),(.data p1)]) (x:=(.bool r0)) (fun K' k'=>h (fun r0=>K' (.bool r0)) k') (K:=fun x=>match x with | (.bool r0)=>K r0 | _=>False) k,h K⟩
end Go.Pf.Vc
namespace Go.Pf.Vc
open Go Go.Pf
set_option maxRecDepth 100000
abbrev yhr:Type:=Int→(Int→Int→Prop)→Prop
def yAw (p0:Int) (K:Int→Int→Prop):Prop :=
 (K p0 (1:Int))
def ykx (p0:Int) (K:Int→Int→Prop):Prop:=yAw p0 K
def ynU (w:yhr) (as:Ls) (K:PV→Prop):Prop :=
 match as with
 | [(.int .i64 p0)]=>w p0 (fun r0 r1=>K (.agg [(.int .i64 r0),(.int .i64 r1)]))
 | _=>False
def yAx (as:Ls) (K:PV→Prop):Prop:=ynU ykx as K
def yH0:LP:=fun _ _ _ _ =>
 False
def yAy (e:List (Nat×EffF)):SE:=⟨(E e),lookS [],lookI [],yH0⟩
theorem yFX (e:List (Nat×EffF)) (he:EG e):SEOk (yAy e):=yai trivial trivial he.ok
theorem yH1 (e:List (Nat×EffF)) ( p0 K):WP (yAy e) 6 yJf [(.int .i64 p0)] K=yAw p0 (fun r0 r1=>K (.agg [(.int .i64 r0),(.int .i64 r1)])):=by kernel_rfl
theorem yvB (e:List (Nat×EffF)) (he:EG e):OkF (E e) yAx ybY:=by
 intro as K h
 unfold yAx ynU at h
 split at h
 · exact WP_ok (yFX e he) (yah (by kernel_rfl)) (by kernel_rfl) (by kernel_rfl) (fun _=>yac (by kernel_rfl) _) (he.num _ (by kernel_rfl)) ((yH1 ..).mpr h)
 · exact h.elim
abbrev ymX:Type:=Int→Int→Int→(Int→Int→Int→Int→Int→Int→Int→Int→Prop)→Prop
def yuu (a0:yhr) (p0 p1 p2:Int) (K:Int→Int→Int→Int→Int→Int→Int→Int→Prop):Prop :=
 (a0 p0 (fun yi6 yi7 =>
 (a0 p1 (fun yi8 yi9 =>
 (a0 p2 (fun yi10 yi11 =>
 (K (0:Int) (1:Int) yi6 yi7 yi8 yi9 yi10 yi11)))))))
def ymY (p0 p1 p2:Int) (K:Int→Int→Int→Int→Int→Int→Int→Int→Prop):Prop:=yuu ykx p0 p1 p2 K
def yo9 (w:ymX) (as:Ls) (K:PV→Prop):Prop :=
 match as with
 | [(.int .i64 p0),(.int .i64 p1),(.int .i64 p2)]=>w p0 p1 p2 (fun r0 r1 r2 r3 r4 r5 r6 r7=>K (.agg [(.int .i64 r0),(.int .u8 r1),(.int .i64 r2),(.int .i64 r3),(.int .i64 r4),(.int .i64 r5),(.int .i64 r6),(.int .i64 r7)]))
 | _=>False
def yuv (as:Ls) (K:PV→Prop):Prop:=yo9 ymY as K
def yB2 (_:yhr):LP:=fun _ _ _ _ =>
 False
def yuw (e:List (Nat×EffF)) (a0:yhr):SE:=⟨(E e),lookS [(ybY,ynU a0)],lookI [],yB2 a0⟩
theorem yz2 (e:List (Nat×EffF)) (he:EG e):SEOk (yuw e ykx):=yai ⟨(yvB e he),trivial⟩ trivial he.ok
theorem yB3 (e:List (Nat×EffF)) (a0 p0 p1 p2 K):WP (yuw e a0) 6 yDe [(.int .i64 p0),(.int .i64 p1),(.int .i64 p2)] K=yuu a0 p0 p1 p2 (fun r0 r1 r2 r3 r4 r5 r6 r7=>K (.agg [(.int .i64 r0),(.int .u8 r1),(.int .i64 r2),(.int .i64 r3),(.int .i64 r4),(.int .i64 r5),(.int .i64 r6),(.int .i64 r7)])):=by kernel_rfl
theorem yB4 (e:List (Nat×EffF)) (he:EG e):OkF (E e) yuv ygh:=by
 intro as K h
 unfold yuv yo9 at h
 split at h
 · exact WP_ok (yz2 e he) (yah (by kernel_rfl)) (by kernel_rfl) (by kernel_rfl) (fun _=>yac (by kernel_rfl) _) (he.num _ (by kernel_rfl)) ((yB3 ..).mpr h)
 · exact h.elim
abbrev ypa:Type:=Int→Int→Int→(Int→Int→Int→Int→Int→Int→Int→Int→Prop)→Prop
def ywl (a0:yhr) (p0 p1 p2:Int) (K:Int→Int→Int→Int→Int→Int→Int→Int→Prop):Prop :=
 (a0 p0 (fun yi6 yi7 =>
 (a0 p1 (fun yi8 yi9 =>
 (a0 p2 (fun yi10 yi11 =>
 (K (0:Int) (2:Int) yi6 yi7 yi8 yi9 yi10 yi11)))))))
def ypb (p0 p1 p2:Int) (K:Int→Int→Int→Int→Int→Int→Int→Int→Prop):Prop:=ywl ykx p0 p1 p2 K
def yqD (w:ypa) (as:Ls) (K:PV→Prop):Prop :=
 match as with
 | [(.int .i64 p0),(.int .i64 p1),(.int .i64 p2)]=>w p0 p1 p2 (fun r0 r1 r2 r3 r4 r5 r6 r7=>K (.agg [(.int .i64 r0),(.int .u8 r1),(.int .i64 r2),(.int .i64 r3),(.int .i64 r4),(.int .i64 r5),(.int .i64 r6),(.int .i64 r7)]))
 | _=>False
def ywm (as:Ls) (K:PV→Prop):Prop:=yqD ypb as K
def yDX (_:yhr):LP:=fun _ _ _ _ =>
 False
def ywn (e:List (Nat×EffF)) (a0:yhr):SE:=⟨(E e),lookS [(ybY,ynU a0)],lookI [],yDX a0⟩
theorem yB5 (e:List (Nat×EffF)) (he:EG e):SEOk (ywn e ykx):=yai ⟨(yvB e he),trivial⟩ trivial he.ok
theorem yDY (e:List (Nat×EffF)) (a0 p0 p1 p2 K):WP (ywn e a0) 6 yFl [(.int .i64 p0),(.int .i64 p1),(.int .i64 p2)] K=ywl a0 p0 p1 p2 (fun r0 r1 r2 r3 r4 r5 r6 r7=>K (.agg [(.int .i64 r0),(.int .u8 r1),(.int .i64 r2),(.int .i64 r3),(.int .i64 r4),(.int .i64 r5),(.int .i64 r6),(.int .i64 r7)])):=by kernel_rfl
theorem yDZ (e:List (Nat×EffF)) (he:EG e):OkF (E e) ywm ygi:=by
 intro as K h
 unfold ywm yqD at h
 split at h
 · exact WP_ok (yB5 e he) (yah (by kernel_rfl)) (by kernel_rfl) (by kernel_rfl) (fun _=>yac (by kernel_rfl) _) (he.num _ (by kernel_rfl)) ((yDY ..).mpr h)
 · exact h.elim
abbrev yeE:Type:=(Bool→Prop)→Prop
def ypc (a0:ymX) (a1:ypa) (a2:ybO) (a3:ybP) (a4:yhr) (a5:yo8) (K:Bool→Prop):Prop :=
 (a0 (0:Int) (1:Int) (1:Int) (fun yi19 yi20 yi21 yi22 yi23 yi24 yi25 yi26 =>
 (a1 (0:Int) (3:Int) (2:Int) (fun yi27 yi28 yi29 yi30 yi31 yi32 yi33 yi34 =>
 (a2 (2:Int) ([(.agg [(.int .i64 yi19),(.int .u8 yi20),(.int .i64 yi21),(.int .i64 yi22),(.int .i64 yi23),(.int .i64 yi24),(.int .i64 yi25),(.int .i64 yi26)]),(.agg [(.int .i64 yi27),(.int .u8 yi28),(.int .i64 yi29),(.int .i64 yi30),(.int .i64 yi31),(.int .i64 yi32),(.int .i64 yi33),(.int .i64 yi34)])]:Ls) (fun yl35 yl36 yi37 =>
 (a0 (0:Int) (1:Int) (1:Int) (fun yi57 yi58 yi59 yi60 yi61 yi62 yi63 yi64 =>
 (a1 (0:Int) (1:Int) (2:Int) (fun yi65 yi66 yi67 yi68 yi69 yi70 yi71 yi72 =>
 (a2 (2:Int) ([(.agg [(.int .i64 yi57),(.int .u8 yi58),(.int .i64 yi59),(.int .i64 yi60),(.int .i64 yi61),(.int .i64 yi62),(.int .i64 yi63),(.int .i64 yi64)]),(.agg [(.int .i64 yi65),(.int .u8 yi66),(.int .i64 yi67),(.int .i64 yi68),(.int .i64 yi69),(.int .i64 yi70),(.int .i64 yi71),(.int .i64 yi72)])]:Ls) (fun _ _ yi75 =>
 (a0 (0:Int) (1:Int) (1:Int) (fun yi94 yi95 yi96 yi97 yi98 yi99 yi100 yi101 =>
 (a1 (0:Int) (1:Int) (2:Int) (fun yi102 yi103 yi104 yi105 yi106 yi107 yi108 yi109 =>
 (a3 (2:Int) ([(.agg [(.int .i64 yi94),(.int .u8 yi95),(.int .i64 yi96),(.int .i64 yi97),(.int .i64 yi98),(.int .i64 yi99),(.int .i64 yi100),(.int .i64 yi101)]),(.agg [(.int .i64 yi102),(.int .u8 yi103),(.int .i64 yi104),(.int .i64 yi105),(.int .i64 yi106),(.int .i64 yi107),(.int .i64 yi108),(.int .i64 yi109)])]:Ls) (fun yi110 yi111 =>
 (a1 (0:Int) (1:Int) (2:Int) (fun yi123 yi124 yi125 yi126 yi127 yi128 yi129 yi130 =>
 (a2 (2:Int) ([(.agg [(.int .i64 yi123),(.int .u8 yi124),(.int .i64 yi125),(.int .i64 yi126),(.int .i64 yi127),(.int .i64 yi128),(.int .i64 yi129),(.int .i64 yi130)])]:Ls) (fun yl131 yl132 yi133 =>
 (jn (fun (yj157:Bool→Prop) =>
 (cbr (yi37 ==(0:Int))
 (a4 (0:Int) (fun yi158 yi159 =>
 (a4 (1:Int) (fun yi160 yi161 =>
 (a4 (2:Int) (fun yi162 yi163 =>
 (a4 (0:Int) (fun yi164 yi165 =>
 (a4 (1:Int) (fun yi166 yi167 =>
 (a4 (3:Int) (fun yi168 yi169 =>
 (a5 yl35 yl36 ([(.agg [(.int .i64 yi158),(.int .i64 yi159)]),(.agg [(.int .i64 yi160),(.int .i64 yi161)]),(.agg [(.int .i64 yi162),(.int .i64 yi163)])]:Ls) ([(.agg [(.int .i64 yi164),(.int .i64 yi165)]),(.agg [(.int .i64 yi166),(.int .i64 yi167)]),(.agg [(.int .i64 yi168),(.int .i64 yi169)])]:Ls) (fun yb170 =>
 (cbr yb170
 (cbr (yi75 ==(6:Int))
 (cbr (yi111 ==(0:Int))
 (cbr (yi110 ==(1:Int))
 (cbr (yi133 ==(0:Int))
 (a4 (0:Int) (fun yi171 yi172 =>
 (a4 (2:Int) (fun yi173 yi174 =>
 (a4 (0:Int) (fun yi175 yi176 =>
 (a4 (1:Int) (fun yi177 yi178 =>
 (a5 yl131 yl132 ([(.agg [(.int .i64 yi171),(.int .i64 yi172)]),(.agg [(.int .i64 yi173),(.int .i64 yi174)])]:Ls) ([(.agg [(.int .i64 yi175),(.int .i64 yi176)]),(.agg [(.int .i64 yi177),(.int .i64 yi178)])]:Ls) (fun yb179 =>
 (yj157 yb179)))))))))))
 (yj157 false))
 (yj157 false))
 (yj157 false))
 (yj157 false))
 (yj157 false))))))))))))))))
 (yj157 false)))
 (fun yb156=>(K yb156)))))))))))))))))))))))))
def ydY (K:Bool→Prop):Prop:=ypc ymY ypb ybj ybt ykx ymr  K
def ypd (w:yeE) (as:Ls) (K:PV→Prop):Prop :=
 match as with
 | []=>w  (fun r0=>K (.bool r0))
 | _=>False
def yux (as:Ls) (K:PV→Prop):Prop:=ypd ydY as K
def yB6 (_:ymX) (_:ypa) (_:ybO) (_:ybP) (_:yhr) (_:yo8):LP:=fun _ _ _ _ =>
 False
def yuy (a0:ymX) (a1:ypa) (a2:ybO) (a3:ybP) (a4:yhr) (a5:yo8):SE:=⟨(E ef0),lookS [(ygh,yo9 a0),(ygi,yqD a1),(ydh,yiE a2),(yeI,yiH a3),(ybY,ynU a4),(yji,yqC a5)],lookI [],yB6 a0 a1 a2 a3 a4 a5⟩
theorem yz3:SEOk (yuy ymY ypb ybj ybt ykx ymr):=yai ⟨(yB4 ef0 effG0),(yDZ ef0 effG0),ymf,ymi,(yvB ef0 effG0),(yDW ef0 effG0),trivial⟩ trivial effG0.ok
theorem yB7 (a0 a1 a2 a3 a4 a5 K):WP (yuy a0 a1 a2 a3 a4 a5) 6 yDh [] K=ypc a0 a1 a2 a3 a4 a5  (fun r0=>K (.bool r0)):=by kernel_rfl
theorem yB8:OkF (E ef0) yux ygk:=by
 intro as K h
 unfold yux ypd at h
 split at h
 · exact WP_ok (yz3) (yah (by kernel_rfl)) (by kernel_rfl) (by kernel_rfl) (fun _=>yac (by kernel_rfl) _) (effG0.num _ (by kernel_rfl)) ((yB7 ..).mpr h)
 · exact h.elim
abbrev ywR:Type:=Int→Ls→Ls→Ls→(Bool→Prop)→Prop
def ybA (a0:yeB) (a1:ybb) (a2:yeD) (a3:yeE) (a4:yft) (a5:ygt) (a6:ygE) (a7:ybO) (a8:ybP) (a9:ydS) (x1:Ls→Ls→Int→Ls→Ls→Int→Bool→Prop):Nat→Ls→Ls→Int→Ls→Ls→Int→Prop
 | 0,_,_,_,_,_,_=>False
 | n+1,l0,l1,i2,l3,l4,i7 =>
 (cbr (decide (i7<(((List.length l1):Nat):Int)))
 (jn (fun (yj90:Ls→Prop) =>
 (asr (decide ((0:Int)≤i7))
 (asr (decide (i7<(((List.length l1):Nat):Int)))
 (lt (List.getD l1 (i7.toNat) .nils) (fun yr93 =>
 (asr (conf (.agg [.i .i64,.i .u8,.i .i64,.i .i64,.i .i64,.i .i64,.i .i64,.i .i64]) yr93)
 (jn (fun (yj100:Int→Int→Int→Prop) =>
 (cbr ((intOfV (cellAt yr93 1)) ==(1:Int))
 (a4 i2 l3 l4 (intOfV (cellAt yr93 2)) (intOfV (cellAt yr93 3)) (intOfV (cellAt yr93 4)) (intOfV (cellAt yr93 5)) (fun yi115 yi116 yi117 =>
 (yj100 yi115 yi116 yi117)))
 (yj100 (intOfV (cellAt yr93 6)) (intOfV (cellAt yr93 7)) (8:Int))))
 (fun yi97 yi98 yi99=>(jn (fun (yj107:Int→Int→Int→Prop) =>
 (cbr ((intOfV (cellAt yr93 1)) ==(2:Int))
 (a5 i2 l3 l4 (intOfV (cellAt yr93 2)) (intOfV (cellAt yr93 3)) (intOfV (cellAt yr93 4)) (intOfV (cellAt yr93 5)) (fun yi112 yi113 yi114 =>
 (yj107 yi112 yi113 yi114)))
 (yj107 yi97 yi98 yi99)))
 (fun yi104 yi105 yi106=>(jn (fun (yj110:Bool→Prop) =>
 (cbr (yi106 ==(0:Int))
 (a6 ([(.agg [(.int .i64 i2),(.data l3),(.data l4)])]:Ls) (0:Int) (intOfV (cellAt yr93 1)) (intOfV (cellAt yr93 2)) (intOfV (cellAt yr93 3)) (intOfV (cellAt yr93 4)) (intOfV (cellAt yr93 5)) yi104 yi105 (fun yb111 =>
 (yj110 yb111)))
 (yj110 false)))
 (fun yb109=>(cbr yb109
 (asr (decide ((List.length l0)=(List.length l0)))
 (asr (decide ((0+(List.length l0))≤(List.length l0)))
 (asr (!(decide (((0+(List.length l0))+1)≤(List.length l0))))
 (asr (decide ((List.length l0)=(List.length l0)))
 (asr (decide ((((List.length l0)+1)+64)*(64+1)≤room))
 (yj90 (l0++([(.agg [(.int .i64 (intOfV (cellAt yr93 0))),(.int .u8 (intOfV (cellAt yr93 1))),(.int .i64 (intOfV (cellAt yr93 2))),(.int .i64 (intOfV (cellAt yr93 3))),(.int .i64 (intOfV (cellAt yr93 4))),(.int .i64 (intOfV (cellAt yr93 5))),(.int .i64 yi104),(.int .i64 yi105)])]:Ls))))))))
 (yj90 l0))))))))))))))
 (fun yl89=>(lt (IntKind.i64.wrap (i7+(1:Int))) (fun yi91 =>
 (asr (decide ((List.length yl89)=List.length yl89)&&decide ((List.length yl89)=List.length yl89))
 (ybA a0 a1 a2 a3 a4 a5 a6 a7 a8 a9 x1 n yl89 l1 i2 l3 l4 yi91))))))
 (x1 l0 l1 i2 l3 l4 i7 false))
def ybB (a0:yeB) (a1:ybb) (a2:yeD) (a3:yeE) (a4:yft) (a5:ygt) (a6:ygE) (a7:ybO) (a8:ybP) (a9:ydS) (x0:Ls→Int→Ls→Ls→Int→Bool→Prop) (x1:Ls→Ls→Int→Ls→Ls→Int→Bool→Prop):Nat→Ls→Int→Ls→Ls→Int→Prop
 | 0,_,_,_,_,_=>False
 | n+1,l0,i1,l2,l3,i4 =>
 (cbr (decide (i4<(((List.length l0):Nat):Int)))
 (asr (decide ((0:Int)≤i4))
 (asr (decide (i4<(((List.length l0):Nat):Int)))
 (lt (List.getD l0 (i4.toNat) .nils) (fun yr44 =>
 (asr (conf (.agg [.i .i64,.i .u8,.i .i64,.i .i64,.i .i64,.i .i64,.i .i64,.i .i64]) yr44)
 (jn (fun (yj51:Int→Int→Int→Prop) =>
 (cbr ((intOfV (cellAt yr44 1)) ==(1:Int))
 (a4 i1 l2 l3 (intOfV (cellAt yr44 2)) (intOfV (cellAt yr44 3)) (intOfV (cellAt yr44 4)) (intOfV (cellAt yr44 5)) (fun yi123 yi124 yi125 =>
 (yj51 yi123 yi124 yi125)))
 (yj51 (intOfV (cellAt yr44 6)) (intOfV (cellAt yr44 7)) (8:Int))))
 (fun yi48 yi49 yi50=>(jn (fun (yj58:Int→Int→Int→Prop) =>
 (cbr ((intOfV (cellAt yr44 1)) ==(2:Int))
 (a5 i1 l2 l3 (intOfV (cellAt yr44 2)) (intOfV (cellAt yr44 3)) (intOfV (cellAt yr44 4)) (intOfV (cellAt yr44 5)) (fun yi120 yi121 yi122 =>
 (yj58 yi120 yi121 yi122)))
 (yj58 yi48 yi49 yi50)))
 (fun yi55 yi56 yi57=>(jn (fun (yj61:Bool→Prop) =>
 (cbr (yi57 ==(0:Int))
 (a6 ([(.agg [(.int .i64 i1),(.data l2),(.data l3)])]:Ls) (0:Int) (intOfV (cellAt yr44 1)) (intOfV (cellAt yr44 2)) (intOfV (cellAt yr44 3)) (intOfV (cellAt yr44 4)) (intOfV (cellAt yr44 5)) yi55 yi56 (fun yb119 =>
 (yj61 yb119)))
 (yj61 false)))
 (fun yb60=>(cbr yb60
 (lt (IntKind.i64.wrap (i4+(1:Int))) (fun yi62 =>
 (asr (decide (1=List.length ([(.agg [(.int .i64 (intOfV (cellAt yr44 0))),(.int .u8 (intOfV (cellAt yr44 1))),(.int .i64 (intOfV (cellAt yr44 2))),(.int .i64 (intOfV (cellAt yr44 3))),(.int .i64 (intOfV (cellAt yr44 4))),(.int .i64 (intOfV (cellAt yr44 5))),(.int .i64 yi55),(.int .i64 yi56)])]:Ls))&&decide (1=List.length ([(.agg [(.int .i64 (intOfV (cellAt yr44 0))),(.int .u8 (intOfV (cellAt yr44 1))),(.int .i64 (intOfV (cellAt yr44 2))),(.int .i64 (intOfV (cellAt yr44 3))),(.int .i64 (intOfV (cellAt yr44 4))),(.int .i64 (intOfV (cellAt yr44 5))),(.int .i64 yi55),(.int .i64 yi56)])]:Ls)))
 (ybA a0 a1 a2 a3 a4 a5 a6 a7 a8 a9 x1 n ([(.agg [(.int .i64 (intOfV (cellAt yr44 0))),(.int .u8 (intOfV (cellAt yr44 1))),(.int .i64 (intOfV (cellAt yr44 2))),(.int .i64 (intOfV (cellAt yr44 3))),(.int .i64 (intOfV (cellAt yr44 4))),(.int .i64 (intOfV (cellAt yr44 5))),(.int .i64 yi55),(.int .i64 yi56)])]:Ls) l0 i1 l2 l3 yi62))))
 (lt (IntKind.i64.wrap (i4+(1:Int))) (fun yi118 =>
 (ybB a0 a1 a2 a3 a4 a5 a6 a7 a8 a9 x0 x1 n l0 i1 l2 l3 yi118)))))))))))))))
 (x0 l0 i1 l2 l3 i4 false))
def yjW (a0:yeB) (a1:ybb) (a2:yeD) (a3:yeE) (a4:yft) (a5:ygt) (a6:ygE) (a7:ybO) (a8:ybP) (a9:ydS) (p0:Int) (p1 p2 p3:Ls) (K:Bool→Prop):Prop :=
 (jn (fun (yj14:Bool→Prop) =>
 (a0 p0 p1 p2 (fun yb204 =>
 (cbr yb204
 (yj14 true)
 (a1 p0 p1 p2 (fun yi205 =>
 (cbr (yi205 !=(0:Int))
 (yj14 true)
 (a2 p3 (fun yb206 =>
 (cbr yb206
 (yj14 true)
 (yj14 (decide ((((List.length p3):Nat):Int)>(14:Int))))))))))))))
 (fun yb13=>(cbr yb13
 (a3  (fun yb16 =>
 (K yb16)))
 (∃ n:Nat,ybB a0 a1 a2 a3 a4 a5 a6 a7 a8 a9
 (fun _ yi140 _ _ _ _=>(a7 yi140 ([]:Ls) (fun yl148 yl149 yi150 =>
 (a8 yi140 ([]:Ls) (fun yi153 yi154 =>
 (cbr (yi150 ==(16:Int))
 (jn (fun (yj161:Bool→Prop) =>
 (cbr (yi154 == yi150)
 (a3  (fun yb162 =>
 (yj161 yb162)))
 (yj161 false)))
 (fun yb160=>(K yb160)))
 (a9 yi140 yl148 yl149 ([]:Ls) (fun yi165 yi166 =>
 (jn (fun (yj169:Bool→Prop) =>
 (cbr (yi150 ==(0:Int))
 (cbr (yi154 ==(0:Int))
 (cbr (yi153 ==(0:Int))
 (cbr (yi166 ==(0:Int))
 (cbr (yi165 ==(0:Int))
 (a3  (fun yb170 =>
 (yj169 yb170)))
 (yj169 false))
 (yj169 false))
 (yj169 false))
 (yj169 false))
 (yj169 false)))
 (fun yb168=>(K yb168)))))))))))
 (fun yl171 _ yi173 _ _ _ _=>(asr (decide ((List.length yl171)=(List.length yl171)))
 (asr (decide ((0+(List.length yl171))≤(List.length yl171)))
 (a7 yi173 (List.take (List.length yl171) yl171) (fun yl181 yl182 yi183 =>
 (asr (decide ((List.length yl171)=(List.length yl171)))
 (asr (decide ((0+(List.length yl171))≤(List.length yl171)))
 (a8 yi173 (List.take (List.length yl171) yl171) (fun yi186 yi187 =>
 (cbr (yi183 ==(16:Int))
 (jn (fun (yj194:Bool→Prop) =>
 (cbr (yi187 == yi183)
 (a3  (fun yb195 =>
 (yj194 yb195)))
 (yj194 false)))
 (fun yb193=>(K yb193)))
 (asr (decide ((List.length yl171)=(List.length yl171)))
 (asr (decide ((0+(List.length yl171))≤(List.length yl171)))
 (a9 yi173 yl181 yl182 (List.take (List.length yl171) yl171) (fun yi198 yi199 =>
 (jn (fun (yj202:Bool→Prop) =>
 (cbr (yi183 ==(0:Int))
 (cbr (yi187 ==(0:Int))
 (cbr (yi186 ==(((List.length yl171):Nat):Int))
 (cbr (yi199 ==(0:Int))
 (cbr (yi198 ==(((List.length yl171):Nat):Int))
 (a3  (fun yb203 =>
 (yj202 yb203)))
 (yj202 false))
 (yj202 false))
 (yj202 false))
 (yj202 false))
 (yj202 false)))
 (fun yb201=>(K yb201)))))))))))))))))
 n p3 p0 p1 p2 (0:Int)))))
def yhG (p0:Int) (p1 p2 p3:Ls) (K:Bool→Prop):Prop:=yjW yfg yaO yfh ydY ybT ycb ybL ybj ybt ycq p0 p1 p2 p3 K
def ynV (w:ywR) (as:Ls) (K:PV→Prop):Prop :=
 match as with
 | [(.agg [(.int .i64 p0),(.data p1),(.data p2)]),(.data p3)]=>w p0 p1 p2 p3 (fun r0=>K (.bool r0))
 | _=>False
def ynW (as:Ls) (K:PV→Prop):Prop:=ynV yhG as K
def ydH (F:Frm) (H:Hp) (A0:Ls→Int→Ls→Ls→Int→Prop) (A1:Ls→Ls→Int→Ls→Ls→Int→Prop):Prop :=
 match F,H with
 | [(1,.v (.data l0)),(2,.box (.agg [(.int .i64 i1),(.data l2),(.data l3)])),(5,.v .nils),(6,.v (.int .i64 i4))],[]=>(A0 l0 i1 l2 l3 i4)
 | [(1,.v (.data l1)),(2,.box (.agg [(.int .i64 i2),(.data l3),(.data l4)])),(5,.v (.own 0 0 t5 t6 none)),(6,.v (.int .i64 i7))],[⟨false,true,8,l0⟩]=>asr (decide (t5=List.length l0)&&decide (t6=List.length l0)) (A1 l0 l1 i2 l3 l4 i7)
 | _,_=>False
def yhm (Q:Ex→Frm→Hp→Prop):Ls→Int→Ls→Ls→Int→Bool→Prop:=(fun l0 i1 l2 l3 i4 b5=>Q (.exit 0) [(1,.v (.data l0)),(2,.box (.agg [(.int .i64 i1),(.data l2),(.data l3)])),(5,.v .nils),(6,.v (.int .i64 i4)),(35,.v (.bool b5))] [])
def ycQ (Q:Ex→Frm→Hp→Prop):Ls→Ls→Int→Ls→Ls→Int→Bool→Prop:=(fun l0 l1 i2 l3 l4 i7 b8=>Q (.exit 0) [(1,.v (.data l1)),(2,.box (.agg [(.int .i64 i2),(.data l3),(.data l4)])),(5,.v (.own 0 0 (List.length l0) (List.length l0) none)),(6,.v (.int .i64 i7)),(35,.v (.bool b8))] [⟨false,true,8,l0⟩])
def yeF (a0:yeB) (a1:ybb) (a2:yeD) (a3:yeE) (a4:yft) (a5:ygt) (a6:ygE) (a7:ybO) (a8:ybP) (a9:ydS) (Q:Ex→Frm→Hp→Prop) (n:Nat) (F:Frm) (H:Hp):Prop:=ydH F H (fun l0 i1 l2 l3 i4=>ybB a0 a1 a2 a3 a4 a5 a6 a7 a8 a9 (yhm Q) (ycQ Q) n l0 i1 l2 l3 i4) (fun l0 l1 i2 l3 l4 i7=>ybA a0 a1 a2 a3 a4 a5 a6 a7 a8 a9 (ycQ Q) n l0 l1 i2 l3 l4 i7)
def ye8 (a0:yeB) (a1:ybb) (a2:yeD) (a3:yeE) (a4:yft) (a5:ygt) (a6:ygE) (a7:ybO) (a8:ybP) (a9:ydS):LP:=fun id F H Q =>
 bif Nat.beq id 10806100 then ydH F H (fun l0 i1 l2 l3 i4=>∃ n:Nat,ybB a0 a1 a2 a3 a4 a5 a6 a7 a8 a9 (yhm Q) (ycQ Q) n l0 i1 l2 l3 i4) (fun l0 l1 i2 l3 l4 i7=>∃ n:Nat,ybA a0 a1 a2 a3 a4 a5 a6 a7 a8 a9 (ycQ Q) n l0 l1 i2 l3 l4 i7) else
 False
def ygX (a0:yeB) (a1:ybb) (a2:yeD) (a3:yeE) (a4:yft) (a5:ygt) (a6:ygE) (a7:ybO) (a8:ybP) (a9:ydS):SE:=⟨(E ef0),lookS [(yki,yoS a0),(ydj,yiR a1),(ykj,yo7 a2),(ygk,ypd a3),(yij,ynk a4),(ykk,yow a5),(ykn,yo5 a6),(ydh,yiE a7),(yeI,yiH a8),(yim,ynn a9)],lookI [],ye8 a0 a1 a2 a3 a4 a5 a6 a7 a8 a9⟩
theorem ymZ:SEOk (ygX yfg yaO yfh ydY ybT ycb ybL ybj ybt ycq):=yai ⟨(yBI ef0 effG0),(yk9 ef0 effG0),(yB0 ef0 effG0),yB8,(yrY ef0 effG0),(ytQ ef0 effG0),(yBX ef0 effG0),ymf,ymi,yr0,trivial⟩ trivial effG0.ok
theorem ype (a0 a1 a2 a3 a4 a5 a6 a7 a8 a9 Q n l0 i1 l2 l3 i4):WC (E ef0) (callW (ygX a0 a1 a2 a3 a4 a5 a6 a7 a8 a9) 5) (ye8 a0 a1 a2 a3 a4 a5 a6 a7 a8 a9) yjv [(1,.v (.data l0)),(2,.box (.agg [(.int .i64 i1),(.data l2),(.data l3)])),(5,.v .nils),(6,.v (.int .i64 i4))] [] (fun x F' H'=>match x with | .norm=>yeF a0 a1 a2 a3 a4 a5 a6 a7 a8 a9 Q n F' H' | .exit i=>Q (.exit i) F' H' | .ret=>Q .ret F' H')=ybB a0 a1 a2 a3 a4 a5 a6 a7 a8 a9 (yhm Q) (ycQ Q) (n+1) l0 i1 l2 l3 i4:=by kernel_rfl
theorem ypf (a0 a1 a2 a3 a4 a5 a6 a7 a8 a9 Q n l0 l1 i2 l3 l4 i7):WC (E ef0) (callW (ygX a0 a1 a2 a3 a4 a5 a6 a7 a8 a9) 5) (ye8 a0 a1 a2 a3 a4 a5 a6 a7 a8 a9) yjv [(1,.v (.data l1)),(2,.box (.agg [(.int .i64 i2),(.data l3),(.data l4)])),(5,.v (.own 0 0 (List.length l0) (List.length l0) none)),(6,.v (.int .i64 i7))] [⟨false,true,8,l0⟩] (fun x F' H'=>match x with | .norm=>yeF a0 a1 a2 a3 a4 a5 a6 a7 a8 a9 Q n F' H' | .exit i=>Q (.exit i) F' H' | .ret=>Q .ret F' H')=ybA a0 a1 a2 a3 a4 a5 a6 a7 a8 a9 (ycQ Q) (n+1) l0 l1 i2 l3 l4 i7:=by kernel_rfl
theorem yry:LpOk (E ef0) (ye8 yfg yaO yfh ydY ybT ycb ybL ybj ybt ycq) yjv:=(yah (by kernel_rfl))
theorem yqE:∀ F H Q,ye8 yfg yaO yfh ydY ybT ycb ybL ybj ybt ycq 10806100 F H Q→LoopT (E ef0) yjv F H Q:=by
 intro F H Q h
 have go:=LoopT.intro (yaF (ymZ) 5) (yry) (yeF yfg yaO yfh ydY ybT ycb ybL ybj ybt ycq Q) (by
   intro F H h
   unfold yeF ydH at h
   split at h
   · exact h
   · obtain ⟨hg,k⟩:=yad.1 h
     clear h
     have h:=k
     clear k
     try simp only [Bool.and_eq_true,decide_eq_true_eq] at hg
     obtain ⟨g0,g1⟩:=hg;subst g0;subst g1;exact h
   · exact h) (by
   intro n F H h
   unfold yeF ydH at h
   split at h
   · exact (ype ..).mpr h
   · obtain ⟨hg,k⟩:=yad.1 h
     clear h
     have h:=k
     clear k
     try simp only [Bool.and_eq_true,decide_eq_true_eq] at hg
     obtain ⟨g0,g1⟩:=hg;subst g0;subst g1;exact (ypf ..).mpr h
   · exact h.elim)
 have h:ydH F H _ _:=h
 unfold ydH at h
 split at h
 · obtain ⟨n,h⟩:=h;exact go n _ _ h
 · obtain ⟨hg,n,h⟩:=yad.1 h;exact go n _ _ (yad.2 ⟨hg,h⟩)
 · exact h.elim
theorem yvC (a0 a1 a2 a3 a4 a5 a6 a7 a8 a9 p0 p1 p2 p3 K):WP (ygX a0 a1 a2 a3 a4 a5 a6 a7 a8 a9) 6 ywy [(.agg [(.int .i64 p0),(.data p1),(.data p2)]),(.data p3)] K=yjW a0 a1 a2 a3 a4 a5 a6 a7 a8 a9 p0 p1 p2 p3 (fun r0=>K (.bool r0)):=by kernel_rfl
theorem yvD:OkF (E ef0) ynW ykD:=by
 intro as K h
 unfold ynW ynV at h
 split at h
 · exact WP_ok (ymZ) (ybe (l:=[(10806100,yjv)]) ⟨yqE,trivial⟩ (by kernel_rfl)) (by kernel_rfl) (by kernel_rfl) (fun _=>yac (by kernel_rfl) _) (effG0.num _ (by kernel_rfl)) ((yvC ..).mpr h)
 · exact h.elim
end Go.Pf.Vc
namespace Go.Pf.Vc
open Go Go.Pf
def I64 (n:Int):Prop:=-9223372036854775808≤n∧n≤9223372036854775807
def U64 (n:Int):Prop:=0≤n∧n≤18446744073709551615
theorem wu64' (n:Int):IntKind.u64.wrap n=n % 18446744073709551616:=by
 simp only [IntKind.wrap,IntKind.signed,IntKind.bits,Bool.false_and,Bool.false_eq_true,if_false]
 rfl
theorem wi64' (n:Int):IntKind.i64.wrap n=if n % 18446744073709551616≥9223372036854775808 then n % 18446744073709551616-18446744073709551616 else n % 18446744073709551616:=by
 have e1:(2:Int) ^ 64=18446744073709551616:=rfl
 have e2:(2:Int) ^ (64-1)=9223372036854775808:=rfl
 simp only [IntKind.wrap,IntKind.signed,IntKind.bits,Bool.true_and,e1,e2]
 by_cases h:n % 18446744073709551616≥9223372036854775808 <;> simp [h]
theorem wu64 {n:Int} (h:U64 n):IntKind.u64.wrap n=n:=by
 unfold U64 at h
 rw [wu64']
 omega
theorem wi64 {n:Int} (h:I64 n):IntKind.i64.wrap n=n:=by
 unfold I64 at h
 rw [wi64']
 split <;> omega
theorem yab {x y:Prop}:cbr true x y=x:=rfl
theorem yaa {x y:Prop}:cbr false x y=y:=rfl
theorem yat {x:Prop}:asr true x=x:=rfl
theorem ykf {p:Int} (h:I64 p) (K:Int→Prop):ybR p K=K (p.natAbs:Int):=by
 unfold I64 at h
 unfold ybR ym9
 by_cases hp:p<0
 · have e:IntKind.u64.wrap ((0:Int)-IntKind.u64.wrap p)=(p.natAbs:Int):=by
     rw [wu64',wu64']
     omega
   rw [decide_eq_true hp,yab,e]
 · rw [decide_eq_false hp,yaa,wu64 ⟨by omega,by omega⟩]
   congr 1
   omega
theorem yD0 (x:Int→Int→Bool→Prop):∀ (n a b:Nat),b<n→ydJ x n (a:Int) (b:Int)=x ((Nat.gcd a b:Nat):Int) 0 false
 | 0,a,b,h=>by omega
 | n+1,a,b,h=>by
   unfold ydJ
   by_cases hb:b=0
   · subst hb
     simp [cbr]
   · have h1:(b:Int)>0:=by omega
     have h2:¬((b:Int)=0):=by omega
     rw [decide_eq_true h1,yab,decide_eq_false h2,Bool.not_false,yat]
     have e:Int.tmod (a:Int) (b:Int)=((a % b:Nat):Int):=by rw [Int.tmod_eq_emod_of_nonneg (by omega)];omega
     rw [e,yD0 x n b (a % b) (by have:=Nat.mod_lt a (show b>0 by omega);omega)]
     rw [Nat.gcd_comm a b,Nat.gcd_rec b a,Nat.gcd_comm]
theorem yvE (a b:Nat) (K:Int→Prop) (h:K ((Nat.gcd a b:Nat):Int)):ybv (a:Int) (b:Int) K:=by
 unfold ybv yof
 exact ⟨b+1,by rw [yD0 _ (b+1) a b (by omega)];exact h⟩
def RV (n d:Int):Prop:=1≤d∧d≤1000000000000000000∧-1000000000000000000≤n∧n≤1000000000000000000∧Nat.gcd n.natAbs d.natAbs=1
instance (n d:Int):Decidable (RV n d):=by unfold RV;infer_instance
def chk (n d:Int):Int:=if RV n d then 0 else 8
theorem yyx {n d:Int} (hn:I64 n) (hd:I64 d) {K:Int→Prop} (h:K (chk n d)):yal n d K:=by
 unfold yal yl1
 by_cases h1:d<1
 · have e:chk n d=8:=if_neg fun h=>by have:=h.1;omega
   rw [decide_eq_true h1,yab,← e];exact h
 · have hd':=hd;have hn':=hn
   unfold I64 at hd' hn'
   have ed:IntKind.u64.wrap d=((d.natAbs:Nat):Int):=by rw [wu64 ⟨by omega,by omega⟩];omega
   rw [decide_eq_false h1,yaa,ykf hn,ed]
   by_cases h2:((if ((d.natAbs:Nat):Int)>((n.natAbs:Nat):Int) then ((d.natAbs:Nat):Int) else ((n.natAbs:Nat):Int))>1000000000000000000)
   · have e:chk n d=8:=if_neg fun h=>by
       obtain ⟨a1,a2,a3,a4,_⟩:=h
       revert h2;split <;> omega
     rw [decide_eq_true h2,yab,← e];exact h
   · rw [decide_eq_false h2,yaa,ykf hn]
     refine yvE _ _ _ ?_
     have h3:0<Nat.gcd n.natAbs d.natAbs:=Nat.gcd_pos_of_pos_right _ (by omega)
     have h4:d≤1000000000000000000∧-1000000000000000000≤n∧n≤1000000000000000000:=by
       revert h2;split <;> omega
     by_cases h5:((Nat.gcd n.natAbs d.natAbs:Nat):Int)>1
     · have e:chk n d=8:=if_neg fun h=>by have:=h.2.2.2.2;omega
       rw [decide_eq_true h5,yab,← e];exact h
     · have e:chk n d=0:=if_pos ⟨by omega,h4.1,h4.2.1,h4.2.2,by omega⟩
       rw [decide_eq_false h5,yaa,← e];exact h
end Go.Pf.Vc
namespace Go.Pf.Vc
open Go Go.Pf
theorem mask32 {p:Int} (h:U64 p):IntKind.u64.wrap (BitVec.ofInt IntKind.u64.bits p&&&BitVec.ofInt IntKind.u64.bits (4294967295:Int)).toNat=p % 4294967296:=by
 unfold U64 at h
 have e1:(BitVec.ofInt 64 p).toNat=p.toNat:=by
   rw [BitVec.toNat_ofInt];omega
 have e2:(BitVec.ofInt 64 (4294967295:Int)).toNat=4294967295:=rfl
 have e3:(BitVec.ofInt IntKind.u64.bits p&&&BitVec.ofInt IntKind.u64.bits (4294967295:Int)).toNat=p.toNat % 4294967296:=by
   show (BitVec.ofInt 64 p&&&BitVec.ofInt 64 (4294967295:Int)).toNat=_
   rw [BitVec.toNat_and,e1,e2]
   exact Nat.and_two_pow_sub_one_eq_mod p.toNat 32
 rw [e3,wu64']
 omega
theorem fdiv32 (p:Int):Int.fdiv p 4294967296=p / 4294967296:=by
 rw [Int.fdiv_eq_ediv_of_nonneg _ (by omega)]
theorem yms {a b:Int} (ha:U64 a) (hb:U64 b) (K:Int→Int→Prop):yek a b K=K (a*b / 18446744073709551616) (a*b % 18446744073709551616):=by
 unfold yek ysy
 simp only [fdiv32]
 rw [mask32 ha,mask32 hb]
 unfold U64 at ha hb
 have ha':=ha;have hb':=hb
 obtain ⟨x1,hx1⟩:∃ x,x=a / 4294967296:=⟨_,rfl⟩
 obtain ⟨x0,hx0⟩:∃ x,x=a % 4294967296:=⟨_,rfl⟩
 obtain ⟨y1,hy1⟩:∃ x,x=b / 4294967296:=⟨_,rfl⟩
 obtain ⟨y0,hy0⟩:∃ x,x=b % 4294967296:=⟨_,rfl⟩
 rw [← hx1,← hx0,← hy1,← hy0]
 have b1:0≤x1∧x1≤4294967295:=by omega
 have b2:0≤x0∧x0≤4294967295:=by omega
 have b3:0≤y1∧y1≤4294967295:=by omega
 have b4:0≤y0∧y0≤4294967295:=by omega
 have pb:∀ x y:Int,0≤x∧x≤4294967295→0≤y∧y≤4294967295→0≤x*y∧x*y≤18446744065119617025:=by
   intro x y hx hy
   refine ⟨Int.mul_nonneg hx.1 hy.1,?_⟩
   have:=Int.mul_le_mul hx.2 hy.2 hy.1 (by omega:(0:Int)≤4294967295)
   omega
 have p1:=pb x1 y1 b1 b3
 have p2:=pb x1 y0 b1 b4
 have p3:=pb x0 y1 b2 b3
 have p4:=pb x0 y0 b2 b4
 have ea:a=x1*4294967296+x0:=by omega
 have eb:b=y1*4294967296+y0:=by omega
 have eab:a*b=x1*y1*18446744073709551616+x1*y0*4294967296+x0*y1*4294967296+x0*y0:=by
   rw [ea,eb];grind
 obtain ⟨P,hP⟩:∃ x,x=x1*y1:=⟨_,rfl⟩
 obtain ⟨Q,hQ⟩:∃ x,x=x1*y0:=⟨_,rfl⟩
 obtain ⟨R,hR⟩:∃ x,x=x0*y1:=⟨_,rfl⟩
 obtain ⟨S,hS⟩:∃ x,x=x0*y0:=⟨_,rfl⟩
 rw [← hP] at p1;rw [← hQ] at p2;rw [← hR] at p3;rw [← hS] at p4
 rw [← hP,← hQ,← hR,← hS] at eab ⊢
 have w1:IntKind.u64.wrap S=S:=wu64 ⟨by omega,by omega⟩
 have w2:IntKind.u64.wrap Q=Q:=wu64 ⟨by omega,by omega⟩
 have w3:IntKind.u64.wrap R=R:=wu64 ⟨by omega,by omega⟩
 have w4:IntKind.u64.wrap P=P:=wu64 ⟨by omega,by omega⟩
 rw [w1,w2,w3,w4]
 have w5:IntKind.u64.wrap (Q+S / 4294967296)=Q+S / 4294967296:=wu64 ⟨by omega,by omega⟩
 rw [w5,mask32 ⟨by omega,by omega⟩]
 have w6:IntKind.u64.wrap ((Q+S / 4294967296) % 4294967296+R)=(Q+S / 4294967296) % 4294967296+R:=wu64 ⟨by omega,by omega⟩
 rw [w6]
 have w7:IntKind.u64.wrap (P+(Q+S / 4294967296) / 4294967296)=P+(Q+S / 4294967296) / 4294967296:=by
   have:a*b / 18446744073709551616≤18446744073709551615:=by
     have h1:a*b≤18446744073709551615*18446744073709551615:=by
       have:=Int.mul_le_mul ha'.2 hb'.2 hb'.1 (by omega:(0:Int)≤18446744073709551615)
       exact this
     omega
   exact wu64 ⟨by omega,by omega⟩
 rw [w7]
 have hab:a*b≤18446744073709551615*18446744073709551615:=Int.mul_le_mul ha'.2 hb'.2 hb'.1 (by omega:(0:Int)≤18446744073709551615)
 rw [eab] at hab ⊢
 rw [wu64',wu64']
 congr 1
 omega
theorem yMo {a b:Int} {K:Int→Prop} (h:K (if a=0 then b else a)):yd7 [.int .i64 a,.int .i64 b] K:=by
 unfold yd7 yg1
 refine ⟨3,?_⟩
 have e1:IntKind.i64.wrap 1=1:=by decide
 have e2:IntKind.i64.wrap 2=2:=by decide
 by_cases ha:a=0
 · by_cases hb:b=0
   · simp [ya7,yab,yaa,yat,conf,confC,intOfV,e1,e2,ha,hb] at h ⊢;exact h
   · have e3:(b != 0)=true:=by simpa using hb
     simp [ya7,yab,yaa,yat,conf,confC,intOfV,e1,e2,ha,e3] at h ⊢;exact h
 · have e3:(a != 0)=true:=by simpa using ha
   simp [ya7,yab,yaa,yat,conf,confC,intOfV,e1,e2,ha,e3] at h ⊢;exact h
def chk2 (a b c d:Int):Int:=if chk a b=0 then chk c d else chk a b
theorem yqF {a b c d:Int} (ha:I64 a) (hb:I64 b) (hc:I64 c) (hd:I64 d) {K:Int→Prop} (h:K (chk2 a b c d)):ybs a b c d K:=by
 unfold ybs yl4
 exact yyx ha hb (yyx hc hd (yMo h))
end Go.Pf.Vc
namespace Go.Pf.Vc
open Go Go.Pf
def cmp3 (a b:Int):Int:=if a<b then -1 else if a>b then 1 else 0
theorem yB9 (a b:Int) (K:Int→Prop):ydN a b K=K (cmp3 a b):=by
 unfold ydN ygp
 simp only [yf2,yhK,bne_self_eq_false,yaa,cmp3]
 by_cases h:a<b
 · simp [h,yab]
 · by_cases h2:a>b
   · simp [h,h2,yab,yaa]
   · simp [h,h2,yaa]
theorem yuz (a b:Int) (K:Int→Prop):ydn a b K=K (cmp3 a b):=by
 unfold ydn yfY
 simp only [yfm,yg4,bne_self_eq_false,yaa,cmp3]
 by_cases h:a<b
 · simp [h,yab]
 · by_cases h2:a>b
   · simp [h,h2,yab,yaa]
   · simp [h,h2,yaa]
theorem yK1 {a b:Int} {K:Int→Prop} (h:K (if a=0 then b else a)):yio [.int .i64 a,.int .i64 b] K:=by
 unfold yio yna
 refine ⟨3,?_⟩
 have e1:IntKind.i64.wrap 1=1:=by decide
 have e2:IntKind.i64.wrap 2=2:=by decide
 by_cases ha:a=0
 · by_cases hb:b=0
   · simp [ycy,yab,yaa,yat,conf,confC,intOfV,e1,e2,ha,hb] at h ⊢;exact h
   · have e3:(b != 0)=true:=by simpa using hb
     simp [ycy,yab,yaa,yat,conf,confC,intOfV,e1,e2,ha,e3] at h ⊢;exact h
 · have e3:(a != 0)=true:=by simpa using ha
   simp [ycy,yab,yaa,yat,conf,confC,intOfV,e1,e2,ha,e3] at h ⊢;exact h
theorem I64.of {n:Int} (h1:-1000000000000000000≤n) (h2:n≤1000000000000000000):I64 n:=⟨by omega,by omega⟩
theorem ygY {a b c d:Int}:chk2 a b c d=0↔RV a b∧RV c d:=by
 unfold chk2 chk
 by_cases h1:RV a b <;> by_cases h2:RV c d <;> simp [h1,h2]
def cmpR (a b c d:Int):Int:=cmp3 (a*d) (c*b)
theorem yH2 {x y:Int} (_:0≤x) (_:0≤y):(if cmp3 (x / 18446744073709551616) (y / 18446744073709551616)=0 then cmp3 (x % 18446744073709551616) (y % 18446744073709551616) else cmp3 (x / 18446744073709551616) (y / 18446744073709551616))=cmp3 x y:=by
 unfold cmp3
 split <;> rename_i h <;> revert h <;> repeat' split <;> intro h <;> omega
theorem U64.abs {n:Int} (h:I64 n):U64 ((n.natAbs:Nat):Int):=by unfold I64 at h;unfold U64;omega
theorem yMp {a b c d:Int} (ha:I64 a) (hb:I64 b) (hc:I64 c) (hd:I64 d) {K:Int→Int→Prop} (h:K (if chk2 a b c d=0 then cmpR a b c d else 0) (chk2 a b c d)):ydU a b c d K:=by
 unfold ydU yoj
 refine yqF ha hb hc hd ?_
 by_cases hk:chk2 a b c d=0
 · rw [if_pos hk] at h
   rw [hk] at h ⊢
   obtain ⟨⟨b1,b2,a1,a2,_⟩,d1,d2,c1,c2,_⟩:=ygY.1 hk
   simp only [bne_self_eq_false,yaa]
   by_cases hs:decide (a<0)=decide (c<0)
   · have e:(decide (a<0) != decide (c<0))=false:=by rw [hs];simp
     rw [e,yaa,ykf ha,wu64 ⟨by omega,by omega⟩,yms (U64.abs ha) ⟨by omega,by omega⟩,ykf hc,wu64 ⟨by omega,by omega⟩,yms (U64.abs hc) ⟨by omega,by omega⟩,yuz,yuz]
     refine yK1 ?_
     have p1:0≤((a.natAbs:Nat):Int)*d:=Int.mul_nonneg (by omega) (by omega)
     have p2:0≤((c.natAbs:Nat):Int)*b:=Int.mul_nonneg (by omega) (by omega)
     rw [yH2 p1 p2]
     by_cases hneg:a<0
     · have hcn:c<0:=by simpa [hneg] using hs.symm
       rw [decide_eq_true hneg,yab]
       have e1:((a.natAbs:Nat):Int)*d=-(a*d):=by
         rw [show ((a.natAbs:Nat):Int)=-a by omega,Int.neg_mul]
       have e2:((c.natAbs:Nat):Int)*b=-(c*b):=by
         rw [show ((c.natAbs:Nat):Int)=-c by omega,Int.neg_mul]
       have e3:IntKind.i64.wrap (0-cmp3 (((a.natAbs:Nat):Int)*d) (((c.natAbs:Nat):Int)*b))=cmpR a b c d:=by
         rw [e1,e2]
         unfold cmpR cmp3
         rw [wi64 (by unfold I64;repeat' split <;> omega)]
         repeat' split <;> omega
       rw [e3];exact h
     · have hcn:¬c<0:=by simpa [hneg] using hs.symm
       rw [decide_eq_false hneg,yaa,show ((a.natAbs:Nat):Int)=a by omega,show ((c.natAbs:Nat):Int)=c by omega]
       exact h
   · have e:(decide (a<0) != decide (c<0))=true:=by simpa using hs
     rw [e,yab,yB9]
     have e2:cmp3 a c=cmpR a b c d:=by
       unfold cmpR cmp3
       by_cases hneg:a<0
       · have hcn:¬c<0:=by intro hcn;simp [hneg,hcn] at hs
         have q1:a*d<0:=Int.mul_neg_of_neg_of_pos hneg (by omega)
         have q2:0≤c*b:=Int.mul_nonneg (by omega) (by omega)
         rw [if_pos (by omega),if_pos (by omega)]
       · have hcn:c<0:=by
           by_cases hcn:c<0
           · exact hcn
           · simp [hneg,hcn] at hs
         have q1:c*b<0:=Int.mul_neg_of_neg_of_pos hcn (by omega)
         have q2:0≤a*d:=Int.mul_nonneg (by omega) (by omega)
         rw [if_neg (by omega),if_pos (by omega),if_neg (by omega),if_pos (by omega)]
     rw [e2];exact h
 · rw [if_neg hk] at h
   have e:(chk2 a b c d != 0)=true:=by simpa using hk
   rw [e,yab];exact h
end Go.Pf.Vc
namespace Go.Pf.Vc
open Go Go.Pf
def blen (x:Nat):Nat:=if x=0 then 0 else x.log2+1
theorem yGW (x:Nat):x<2 ^ blen x:=by
 unfold blen
 split
 · rename_i h;subst h;decide
 · exact Nat.lt_log2_self
theorem ywZ {x:Nat} (h:x≠0):2 ^ (blen x-1)≤x:=by
 unfold blen
 rw [if_neg h]
 exact Nat.log2_self_le h
theorem yK2 {x m:Nat} (h1:2 ^ m≤x) (h2:x<2 ^ (m+1)):blen x=m+1:=by
 have hx:x≠0:=by have:=Nat.two_pow_pos m;omega
 unfold blen
 rw [if_neg hx]
 congr 1
 have a:=Nat.log2_self_le hx
 have b:=Nat.lt_log2_self (n:=x)
 have c1:¬(x.log2<m):=fun h=>by
   have:=Nat.pow_le_pow_right (show 0<2 by omega) (show x.log2+1≤m by omega)
   omega
 have c2:¬(m<x.log2):=fun h=>by
   have:=Nat.pow_le_pow_right (show 0<2 by omega) (show m+1≤x.log2 by omega)
   omega
 omega
theorem yJh {x k:Nat} (h:2 ^ k≤x):blen x=k+blen (x / 2 ^ k):=by
 have hp:=Nat.two_pow_pos k
 have hq:x / 2 ^ k≠0:=by
   have:=Nat.div_pos h hp
   omega
 have h1:=ywZ hq
 have h2:=yGW (x / 2 ^ k)
 obtain ⟨m,hm⟩:∃ m,blen (x / 2 ^ k)=m+1:=⟨blen (x / 2 ^ k)-1,by
   have:blen (x / 2 ^ k)≠0:=by unfold blen;rw [if_neg hq];omega
   omega⟩
 rw [hm] at h1 h2 ⊢
 rw [Nat.add_sub_cancel] at h1
 have:=yK2 (x:=x) (m:=k+m) (by
     rw [Nat.pow_add]
     calc 2 ^ k*2 ^ m≤2 ^ k*(x / 2 ^ k):=Nat.mul_le_mul_left _ h1
       _≤x:=Nat.mul_div_le _ _) (by
     rw [show k+m+1=k+(m+1) by omega,Nat.pow_add]
     rw [Nat.mul_comm]
     exact (Nat.div_lt_iff_lt_mul hp).1 h2)
 omega
theorem yMq:∀ x:Nat,x<256→intOfV (List.getD len8tab x .nils)=(blen x:Int):=by decide +kernel
theorem wu8 {n:Int} (h0:0≤n) (h1:n<256):IntKind.u8.wrap n=n:=by
 have e1:(2:Int) ^ 8=256:=rfl
 simp only [IntKind.wrap,IntKind.signed,IntKind.bits,Bool.false_and,Bool.false_eq_true,if_false,e1]
 omega
theorem yK3 {n:Int} (h0:0≤n) (h1:n<256):intOfV (List.getD len8tab (IntKind.u8.wrap n).toNat .nils)=(blen n.toNat:Int):=by
 rw [wu8 h0 h1]
 exact yMq n.toNat (by omega)
theorem blen8 {n:Nat} (h:n<256):blen n≤8:=by
 by_cases h0:n=0
 · subst h0;decide
 · have:=ywZ h0
   have h2:blen n-1<8:=by
     refine Nat.lt_of_not_le fun hc=>?_
     have:=Nat.pow_le_pow_right (show 0<2 by omega) hc
     omega
   omega
theorem leaf8 {n k:Int} (h0:0≤n) (h1:n<256) (hk:0≤k∧k≤56) {m:Int} (hm:m=k+blen n.toNat) {K:Int→Prop} (h:K m) :
   asr (decide ((0:Int)≤(IntKind.u8.wrap n))) (asr (decide ((IntKind.u8.wrap n)<(256:Int))) (K (IntKind.i64.wrap (k+(IntKind.i64.wrap (intOfV (List.getD len8tab ((IntKind.u8.wrap n).toNat) .nils))))))):=by
 have hb:=blen8 (n:=n.toNat) (by omega)
 have e1:IntKind.i64.wrap (blen n.toNat:Int)=blen n.toNat:=wi64 (by unfold I64;omega)
 have e2:IntKind.i64.wrap (k+blen n.toNat:Int)=k+blen n.toNat:=wi64 (by unfold I64;omega)
 rw [yK3 h0 h1,wu8 h0 h1,decide_eq_true h0,yat,decide_eq_true h1,yat,e1,e2,← hm]
 exact h
theorem fdivn (p q:Int) (hq:0≤q):Int.fdiv p q=p / q:=Int.fdiv_eq_ediv_of_nonneg _ hq
theorem yJi {p:Int} (hp:U64 p) {K:Int→Prop} (h:K (blen p.toNat:Int)):ynG p K:=by
 unfold U64 at hp
 unfold ynG ysA
 simp only [fdivn _ 4294967296 (by omega),fdivn _ 65536 (by omega),fdivn _ 256 (by omega)]
 have key:∀ (k:Nat) (q:Int),2 ^ k≤p.toNat→q=p / (2 ^ k:Nat)→(blen p.toNat:Int)=k+blen q.toNat:=by
   intro k q hk hq
   have e:q.toNat=p.toNat / 2 ^ k:=by
     rw [hq]
     obtain ⟨m,rfl⟩:∃ m:Nat,p=m:=⟨p.toNat,by omega⟩
     rw [← Int.natCast_ediv,Int.toNat_natCast,Int.toNat_natCast]
   rw [e]
   have:=yJh hk
   omega
 by_cases h1:p≥4294967296
 · rw [decide_eq_true h1,yab]
   by_cases h2:p / 4294967296≥65536
   · rw [decide_eq_true h2,yab]
     by_cases h3:p / 4294967296 / 65536≥256
     · rw [decide_eq_true h3,yab]
       exact leaf8 (by omega) (by omega) (by omega) (key 56 _ (by omega) (by omega)) h
     · rw [decide_eq_false h3,yaa]
       exact leaf8 (by omega) (by omega) (by omega) (key 48 _ (by omega) (by omega)) h
   · rw [decide_eq_false h2,yaa]
     by_cases h3:p / 4294967296≥256
     · rw [decide_eq_true h3,yab]
       exact leaf8 (by omega) (by omega) (by omega) (key 40 _ (by omega) (by omega)) h
     · rw [decide_eq_false h3,yaa]
       exact leaf8 (by omega) (by omega) (by omega) (key 32 _ (by omega) (by omega)) h
 · rw [decide_eq_false h1,yaa]
   by_cases h2:p≥65536
   · rw [decide_eq_true h2,yab]
     by_cases h3:p / 65536≥256
     · rw [decide_eq_true h3,yab]
       exact leaf8 (by omega) (by omega) (by omega) (key 24 _ (by omega) (by omega)) h
     · rw [decide_eq_false h3,yaa]
       exact leaf8 (by omega) (by omega) (by omega) (key 16 _ (by omega) (by omega)) h
   · rw [decide_eq_false h2,yaa]
     by_cases h3:p≥256
     · rw [decide_eq_true h3,yab]
       exact leaf8 (by omega) (by omega) (by omega) (key 8 _ (by omega) (by omega)) h
     · rw [decide_eq_false h3,yaa]
       exact leaf8 (by omega) (by omega) (by omega) (by simp) h
theorem yuA {p:Int} (hp:U64 p) {K:Int→Prop} (h:K (64-blen p.toNat:Int)):yaM p K:=by
 unfold yaM yg6
 refine yJi hp ?_
 have hb:blen p.toNat≤64:=by
   unfold U64 at hp
   by_cases h0:p.toNat=0
   · rw [h0];decide
   · have:=ywZ h0
     have h2:blen p.toNat-1<64:=by
       refine Nat.lt_of_not_le fun hc=>?_
       have:=Nat.pow_le_pow_right (show 0<2 by omega) hc
       omega
     omega
 rw [wi64 (by unfold I64;omega)]
 exact h
end Go.Pf.Vc
namespace Go.Pf.Vc
open Go Go.Pf
structure DI (y yn1 yn0 u un q r:Int):Prop where
 hy:y=yn1*4294967296+yn0
 h1:2147483648≤yn1∧yn1≤4294967295
 h0:0≤yn0∧yn0≤4294967295
 hn:0≤un∧un≤4294967295
 hu:q*yn1+r=u
 hq:0≤q∧q≤4294967297
 hr:0≤r∧r≤4294967295
 hlt:u<y
 hU:u*4294967296+un<(q+1)*y
def DG (y u un q:Int):Prop:=0≤q∧q≤4294967295∧q*y≤u*4294967296+un∧u*4294967296+un<(q+1)*y
theorem DI.step {y yn1 yn0 u un q r:Int} (h:DI y yn1 yn0 u un q r) {A B C:Prop}
   (hA:DG y u un (q-1)→0≤q-1→q-1≤4294967296→A)
   (hB:DI y yn1 yn0 u un (q-1) (r+yn1)→B)
   (hC:DG y u un q→C) :
   cbr (decide (q≥(4294967296:Int)))
     (cbr (decide ((IntKind.u64.wrap (r+yn1))≥(4294967296:Int))) A B)
     (cbr (decide ((IntKind.u64.wrap (q*yn0))>(IntKind.u64.wrap ((IntKind.u64.wrap ((4294967296:Int)*r))+un))))
       (cbr (decide ((IntKind.u64.wrap (r+yn1))≥(4294967296:Int))) A B) C):=by
 have h':=h
 obtain ⟨hy,h1,h0,hn,hu,hq,hr,hlt,hU⟩:=h
 have e1:IntKind.u64.wrap (r+yn1)=r+yn1:=wu64 ⟨by omega,by omega⟩
 have eq1:q*y=q*yn1*4294967296+q*yn0:=by rw [hy];grind
 have eq2:(q-1)*y=q*y-y:=by grind
 have eq3:(q-1)*yn1=q*yn1-yn1:=by grind
 have eq4:(q-1+1)*y=q*y:=by grind
 have eq5:(q-1)*yn0=q*yn0-yn0:=by grind
 have big:u*4294967296+un<q*y→cbr (decide ((IntKind.u64.wrap (r+yn1))≥(4294967296:Int))) A B:=by
   intro hb
   have q1:0≤q-1:=by
     refine Int.not_lt.1 fun hc=>?_
     have hq0:q=0:=by omega
     subst hq0
     simp at hb hu
     omega
   rw [e1]
   by_cases hc:r+yn1≥4294967296
   · rw [decide_eq_true hc,yab]
     have hp:(q-1)*yn0≤4294967296*4294967295:=Int.mul_le_mul (by omega) h0.2 h0.1 (by omega)
     have hle:(q-1)*y≤u*4294967296+un:=by
       have:(q-1)*y=(q-1)*yn1*4294967296+(q-1)*yn0:=by rw [hy];grind
       omega
     have hlt32:q-1≤4294967295:=by
       refine Int.not_lt.1 fun hc=>?_
       have:4294967296*y≤(q-1)*y:=Int.mul_le_mul_of_nonneg_right (by omega) (by omega)
       omega
     exact hA ⟨q1,hlt32,hle,by rw [eq4];exact hb⟩ q1 (by omega)
   · rw [decide_eq_false hc,yaa]
     exact hB ⟨hy,h1,h0,hn,by rw [eq3];omega,⟨q1,by omega⟩,⟨by omega,by omega⟩,hlt,by rw [eq4];exact hb⟩
 by_cases ha:q≥4294967296
 · rw [decide_eq_true ha,yab]
   refine big ?_
   have:4294967296*y≤q*y:=Int.mul_le_mul_of_nonneg_right (by omega) (by omega)
   omega
 · rw [decide_eq_false ha,yaa]
   have hp:q*yn0≤4294967295*4294967295:=Int.mul_le_mul (by omega) h0.2 h0.1 (by omega)
   have hp0:0≤q*yn0:=Int.mul_nonneg hq.1 h0.1
   have w1:IntKind.u64.wrap (q*yn0)=q*yn0:=wu64 ⟨hp0,by omega⟩
   have w2:IntKind.u64.wrap ((4294967296:Int)*r)=4294967296*r:=wu64 ⟨by omega,by omega⟩
   have w3:IntKind.u64.wrap ((4294967296:Int)*r+un)=4294967296*r+un:=wu64 ⟨by omega,by omega⟩
   rw [w1,w2,w3]
   by_cases hb:q*yn0>4294967296*r+un
   · rw [decide_eq_true hb,yab]
     exact big (by omega)
   · rw [decide_eq_false hb,yaa]
     exact hC ⟨hq.1,by omega,by omega,hU⟩
theorem L0_of (W:Int→(Int→Prop)→Prop) {y yn1 yn0 u un:Int} (s v un0:Int) {x0 x1:Int→Int→Int→Int→Int→Int→Int→Int→Int→Bool→Prop}
   (hx:∀ q r b,DG y u un q→x0 y s yn1 yn0 v un un0 q r b) (hx1:∀ q r b,DG y u un q→x1 y s yn1 yn0 v un un0 q r b) :
   ∀ (n:Nat) (q r:Int) (b:Bool),DI y yn1 yn0 u un q r→4294967296≤r+n*2147483648→ycJ W x0 x1 (n+1) y s yn1 yn0 v un un0 q r b:=by
 intro n
 induction n with
 | zero =>
   intro q r b h hn
   have:=h.hr.2
   exact absurd hn (by omega)
 | succ n ih =>
   intro q r b h hn
   unfold ycJ
   refine h.step (fun g a1 a2=>?_) (fun g=>?_) (fun g=>hx1 _ _ _ g)
   · rw [wu64 (n:=q-1) ⟨by omega,by omega⟩]
     exact hx _ _ _ g
   · have e1:IntKind.u64.wrap (q-1)=q-1:=wu64 ⟨g.hq.1,by have:=g.hq.2;omega⟩
     have e2:IntKind.u64.wrap (r+yn1)=r+yn1:=wu64 ⟨g.hr.1,by have:=g.hr.2;omega⟩
     rw [e1,e2]
     exact ih _ _ _ g (by have:=h.h1.1;omega)
theorem L1_of (W:Int→(Int→Prop)→Prop) {y yn1 yn0 u un:Int} (s q1 v:Int) {x0 x1:Int→Int→Int→Int→Int→Int→Int→Int→Int→Bool→Prop}
   (hx:∀ q r b,DG y u un q→x0 y s yn1 yn0 un q1 r v q b) (hx1:∀ q r b,DG y u un q→x1 y s yn1 yn0 un q1 r v q b) :
   ∀ (n:Nat) (q r:Int) (b:Bool),DI y yn1 yn0 u un q r→4294967296≤r+n*2147483648→ycK W x0 x1 (n+1) y s yn1 yn0 un q1 r v q b:=by
 intro n
 induction n with
 | zero =>
   intro q r b h hn
   have:=h.hr.2
   exact absurd hn (by omega)
 | succ n ih =>
   intro q r b h hn
   unfold ycK
   refine h.step (fun g a1 a2=>?_) (fun g=>?_) (fun g=>hx1 _ _ _ g)
   · rw [wu64 (n:=q-1) ⟨by omega,by omega⟩]
     exact hx _ _ _ g
   · have e1:IntKind.u64.wrap (q-1)=q-1:=wu64 ⟨g.hq.1,by have:=g.hq.2;omega⟩
     have e2:IntKind.u64.wrap (r+yn1)=r+yn1:=wu64 ⟨g.hr.1,by have:=g.hr.2;omega⟩
     rw [e1,e2]
     exact ih _ _ _ g (by have:=h.h1.1;omega)
theorem yMr (W:Int→(Int→Prop)→Prop) {y yn1 yn0 u un:Int} (s v un0:Int) {x0 x1:Int→Int→Int→Int→Int→Int→Int→Int→Int→Bool→Prop}
   (hx:∀ q r b,DG y u un q→x0 y s yn1 yn0 v un un0 q r b) (hx1:∀ q r b,DG y u un q→x1 y s yn1 yn0 v un un0 q r b) (q r:Int) (h:DI y yn1 yn0 u un q r):yfM W x0 x1 3 y s yn1 yn0 v un un0 q r:=by
 have:=L0_of W s v un0 hx hx1 2 q r true h (by have:=h.hr.1;omega)
 unfold ycJ at this
 unfold yfM
 exact this
theorem yMs (W:Int→(Int→Prop)→Prop) {y yn1 yn0 u un:Int} (s q1 v:Int) {x0 x1:Int→Int→Int→Int→Int→Int→Int→Int→Int→Bool→Prop}
   (hx:∀ q r b,DG y u un q→x0 y s yn1 yn0 un q1 r v q b) (hx1:∀ q r b,DG y u un q→x1 y s yn1 yn0 un q1 r v q b) (q r:Int) (h:DI y yn1 yn0 u un q r):ydV W x0 x1 3 y s yn1 yn0 un q1 r v q:=by
 have:=L1_of W s q1 v hx hx1 2 q r true h (by have:=h.hr.1;omega)
 unfold ycK at this
 unfold ydV
 exact this
end Go.Pf.Vc
namespace Go.Pf.Vc
open Go Go.Pf
theorem DI.init {y yn1 yn0 u un:Int} (hy:y=yn1*4294967296+yn0) (h1:2147483648≤yn1∧yn1≤4294967295) (h0:0≤yn0∧yn0≤4294967295) (hn:0≤un∧un≤4294967295)
   (hu:0≤u) (hlt:u<y):DI y yn1 yn0 u un (u / yn1) (u-u / yn1*yn1):=by
 have a1:=Int.mul_ediv_add_emod u yn1
 have a2:=Int.emod_nonneg u (show yn1≠0 by omega)
 have a3:=Int.emod_lt_of_pos u (show 0<yn1 by omega)
 have a4:u / yn1*yn1=yn1*(u / yn1):=Int.mul_comm _ _
 have a5:0≤u / yn1:=Int.ediv_nonneg hu (by omega)
 have a6:u / yn1≤4294967297:=by
   refine Int.not_lt.1 fun hc=>?_
   have:yn1*4294967298≤yn1*(u / yn1):=Int.mul_le_mul_of_nonneg_left (by omega) (by omega)
   omega
 refine ⟨hy,h1,h0,hn,by omega,⟨a5,a6⟩,⟨by omega,by omega⟩,hlt,?_⟩
 have e:(u / yn1+1)*y=yn1*(u / yn1)*4294967296+yn1*4294967296+(u / yn1+1)*yn0:=by
   obtain ⟨t,ht⟩:∃ t,t=u / yn1:=⟨_,rfl⟩
   rw [← ht,hy];grind
 have:0≤(u / yn1+1)*yn0:=Int.mul_nonneg (by omega) h0.1
 omega
theorem or_eq {a b:Int} {k:Nat} (ha:0≤a) (hb:0≤b∧b<2 ^ k) (hab:a*2 ^ k≤18446744073709551615∧b≤18446744073709551615) (hs:a*2 ^ k+b≤18446744073709551615) :
   IntKind.u64.wrap (BitVec.ofInt IntKind.u64.bits (a*2 ^ k)|||BitVec.ofInt IntKind.u64.bits b).toNat=a*2 ^ k+b:=by
 obtain ⟨x,rfl⟩:∃ x:Nat,a=x:=⟨a.toNat,by omega⟩
 obtain ⟨z,rfl⟩:∃ z:Nat,b=z:=⟨b.toNat,by omega⟩
 have ec:((x:Int)*2 ^ k)=((2 ^ k*x:Nat):Int):=by push_cast;exact Int.mul_comm _ _
 rw [ec] at hab hs ⊢
 have hz:z<2 ^ k:=by have:=hb.2;exact_mod_cast this
 have e:(BitVec.ofInt IntKind.u64.bits ((2 ^ k*x:Nat):Int)|||BitVec.ofInt IntKind.u64.bits (z:Int)).toNat=2 ^ k*x+z:=by
   show (BitVec.ofInt 64 ((2 ^ k*x:Nat):Int)|||BitVec.ofInt 64 (z:Int)).toNat=_
   rw [BitVec.toNat_or,BitVec.toNat_ofInt,BitVec.toNat_ofInt]
   have e1:(((2 ^ k*x:Nat):Int) % (2 ^ 64:Nat)).toNat=2 ^ k*x:=by omega
   have e2:((z:Int) % (2 ^ 64:Nat)).toNat=z:=by omega
   rw [e1,e2,Nat.two_pow_add_eq_or_of_lt hz]
 rw [e,wu64 ⟨by omega,by omega⟩]
 push_cast;rfl
theorem yGX {u un q y:Int} (h0:0≤u*4294967296+un-q*y) (h1:u*4294967296+un-q*y≤18446744073709551615) :
   IntKind.u64.wrap (IntKind.u64.wrap (IntKind.u64.wrap (u*4294967296)+un)-IntKind.u64.wrap (q*y))=u*4294967296+un-q*y:=by
 simp only [wu64']
 omega
theorem tdivn {a b:Int} (h:0≤a):Int.tdiv a b=a / b:=Int.tdiv_eq_ediv_of_nonneg h
theorem tmodn {a b:Int} (h:0≤a):Int.tmod a b=a % b:=Int.tmod_eq_emod_of_nonneg h
theorem yD1 {h l y:Int} (hh:U64 h) (hl:U64 l) (hy:U64 y) (hlt:h<y) {K:Int→Int→Prop}
   (k:K ((h*18446744073709551616+l) / y) ((h*18446744073709551616+l) % y)):yfN h l y K:=by
 unfold U64 at hh hl hy
 unfold yfN ysC
 have b1:(y ==(0:Int))=false:=beq_eq_false_iff_ne.2 (by omega)
 have b2:decide (y≤h)=false:=decide_eq_false (by omega)
 have b3:(!(decide (y=(0:Int))))=true:=by rw [decide_eq_false (by omega)];rfl
 rw [b1,yaa,b2,yaa,b3]
 by_cases h0:h=0
 · subst h0
   have:((0:Int) == 0)=true:=rfl
   rw [this,yab,yat,yat,tdivn hl.1,tmodn hl.1]
   have e:(0:Int)*18446744073709551616+l=l:=by omega
   rw [e] at k
   have b4:l / y≤l:=Int.ediv_le_self _ hl.1
   rw [wu64 ⟨Int.ediv_nonneg hl.1 (by omega),by omega⟩]
   exact k
 · have b4:(h ==(0:Int))=false:=beq_eq_false_iff_ne.2 h0
   rw [b4,yaa]
   refine yuA ⟨by omega,by omega⟩ ?_
   have hyn:y.toNat≠0:=by omega
   have c1:=yGW y.toNat
   have c2:=ywZ hyn
   have c3:blen y.toNat≤64:=by
     refine Nat.le_of_not_lt fun hc=>?_
     have:=Nat.pow_le_pow_right (show 0<2 by omega) (show 64≤blen y.toNat-1 by omega)
     omega
   have c4:1≤blen y.toNat:=by
     refine Nat.le_of_not_lt fun hc=>?_
     have:blen y.toNat=0:=by omega
     rw [this] at c1
     omega
   obtain ⟨m,hm⟩:∃ m,m=64-blen y.toNat:=⟨_,rfl⟩
   have es:(64-(blen y.toNat:Int))=(m:Int):=by omega
   rw [es]
   have m63:m≤63:=by omega
   have e1:IntKind.u64.wrap (m:Int)=m:=wu64 ⟨by omega,by omega⟩
   have e2:IntKind.u64.wrap ((64:Int)-m)=((64-m:Nat):Int):=by
     rw [wu64 ⟨by omega,by omega⟩];omega
   have e3:min ((m:Int)).toNat IntKind.u64.bits=m:=by
     show min ((m:Int)).toNat 64=m
     rw [Int.toNat_natCast];omega
   have e4:min (((64-m:Nat):Int)).toNat IntKind.u64.bits=64-m:=by
     show min (((64-m:Nat):Int)).toNat 64=64-m
     rw [Int.toNat_natCast];omega
   simp only [e1]
   rw [e2,e3,e4]
   have p64:(2:Int) ^ (64-m)*2 ^ m=18446744073709551616:=by
     rw [← Int.pow_add,show 64-m+m=64 by omega];rfl
   have p63:(2:Int) ^ (63-m)*2 ^ m=9223372036854775808:=by
     rw [← Int.pow_add,show 63-m+m=63 by omega];rfl
   have tp:(0:Int)<2 ^ m:=Int.pow_pos (by omega)
   have tp':(0:Int)<2 ^ (64-m):=Int.pow_pos (by omega)
   have y1:y<(2:Int) ^ (64-m):=by
     have:blen y.toNat=64-m:=by omega
     rw [this] at c1
     have c1':((y.toNat:Nat):Int)<((2 ^ (64-m):Nat):Int):=by exact_mod_cast c1
     push_cast at c1'
     omega
   have y2:(2:Int) ^ (63-m)≤y:=by
     have:blen y.toNat-1=63-m:=by omega
     rw [this] at c2
     have c2':((2 ^ (63-m):Nat):Int)≤((y.toNat:Nat):Int):=by exact_mod_cast c2
     push_cast at c2'
     omega
   have Y1:y*2 ^ m<18446744073709551616:=by
     have:=Int.mul_lt_mul_of_pos_right y1 tp
     omega
   have Y2:9223372036854775808≤y*2 ^ m:=by
     have:=Int.mul_le_mul_of_nonneg_right y2 (show (0:Int)≤2 ^ m by omega)
     omega
   have H1:(h+1)*2 ^ m≤y*2 ^ m:=Int.mul_le_mul_of_nonneg_right (by omega) (by omega)
   have H2:(h+1)*2 ^ m=h*2 ^ m+2 ^ m:=by grind
   have H0:0≤h*2 ^ m:=Int.mul_nonneg hh.1 (by omega)
   have fd:Int.fdiv l (2 ^ (64-m))=l / 2 ^ (64-m):=fdivn _ _ (by omega)
   have L1:=Int.mul_ediv_add_emod l (2 ^ (64-m))
   have L2:=Int.emod_nonneg l (show (2:Int) ^ (64-m)≠0 by omega)
   have L3:=Int.emod_lt_of_pos l tp'
   have L4:0≤l / 2 ^ (64-m):=Int.ediv_nonneg hl.1 (by omega)
   have L5:l / 2 ^ (64-m)<2 ^ m:=by
     refine Int.ediv_lt_of_lt_mul tp' ?_
     rw [Int.mul_comm,p64];omega
   have w1:IntKind.u64.wrap (y*2 ^ m)=y*2 ^ m:=wu64 ⟨by omega,by omega⟩
   have w2:IntKind.u64.wrap (h*2 ^ m)=h*2 ^ m:=wu64 ⟨by omega,by omega⟩
   have w3:IntKind.u64.wrap (BitVec.ofInt IntKind.u64.bits (h*2 ^ m)|||BitVec.ofInt IntKind.u64.bits (l / 2 ^ (64-m))).toNat=h*2 ^ m+l / 2 ^ (64-m) :=
     or_eq hh.1 ⟨L4,L5⟩ ⟨by omega,by omega⟩ (by omega)
   have w4:IntKind.u64.wrap (l*2 ^ m)=l % 2 ^ (64-m)*2 ^ m:=by
     have e:l*2 ^ m=(l / 2 ^ (64-m))*18446744073709551616+l % 2 ^ (64-m)*2 ^ m:=by
       rw [← p64]
       obtain ⟨a,ha⟩:∃ a,a=l / 2 ^ (64-m):=⟨_,rfl⟩
       obtain ⟨b,hb⟩:∃ b,b=l % 2 ^ (64-m):=⟨_,rfl⟩
       obtain ⟨t,ht⟩:∃ t,t=(2:Int) ^ m:=⟨_,rfl⟩
       obtain ⟨t',ht'⟩:∃ t,t=(2:Int) ^ (64-m):=⟨_,rfl⟩
       rw [← ha,← hb,← ht'] at L1
       rw [← ha,← hb,← ht,← ht']
       rw [← L1];grind
     have e5:l % 2 ^ (64-m)*2 ^ m<18446744073709551616:=by
       rw [← p64];exact Int.mul_lt_mul_of_pos_right L3 tp
     have e6:0≤l % 2 ^ (64-m)*2 ^ m:=Int.mul_nonneg L2 (by omega)
     rw [e,wu64'];omega
   have e5:l % 2 ^ (64-m)*2 ^ m<18446744073709551616:=by
     rw [← p64];exact Int.mul_lt_mul_of_pos_right L3 tp
   have e6:0≤l % 2 ^ (64-m)*2 ^ m:=Int.mul_nonneg L2 (by omega)
   have eN:(h*18446744073709551616+l)*2 ^ m=(h*2 ^ m+l / 2 ^ (64-m))*18446744073709551616+l % 2 ^ (64-m)*2 ^ m:=by
     rw [← p64]
     obtain ⟨a,ha⟩:∃ a,a=l / 2 ^ (64-m):=⟨_,rfl⟩
     obtain ⟨b,hb⟩:∃ b,b=l % 2 ^ (64-m):=⟨_,rfl⟩
     obtain ⟨t,ht⟩:∃ t,t=(2:Int) ^ m:=⟨_,rfl⟩
     obtain ⟨t',ht'⟩:∃ t,t=(2:Int) ^ (64-m):=⟨_,rfl⟩
     rw [← ha,← hb,← ht'] at L1
     rw [← ha,← hb,← ht,← ht']
     rw [← L1];grind
   have U1:h*2 ^ m+l / 2 ^ (64-m)<y*2 ^ m:=by omega
   have U0:0≤h*2 ^ m+l / 2 ^ (64-m):=by omega
   rw [fd,w1,w2,w3,w4]
   have b5:(!(decide ((m:Int)<0)))=true:=by rw [decide_eq_false (by omega)];rfl
   have b6:(!(decide (((64-m:Nat):Int)<0)))=true:=by rw [decide_eq_false (by omega)];rfl
   rw [b5,b6,yat,yat,yat,yat]
   generalize h*2 ^ m+l / 2 ^ (64-m)=u at *
   generalize hl0:l % 2 ^ (64-m)*2 ^ m=v at *
   generalize hY:y*2 ^ m=Y at *
   rw [fdivn Y _ (by omega),fdivn v _ (by omega),mask32 ⟨by omega,by omega⟩,mask32 ⟨by omega,by omega⟩,tdivn U0]
   have b7:(!(decide (Y / 4294967296=(0:Int))))=true:=by rw [decide_eq_false (by omega)];rfl
   rw [b7,yat]
   obtain ⟨yn1,hyn1⟩:∃ a,a=Y / 4294967296:=⟨_,rfl⟩
   obtain ⟨yn0,hyn0⟩:∃ a,a=Y % 4294967296:=⟨_,rfl⟩
   obtain ⟨un1,hun1⟩:∃ a,a=v / 4294967296:=⟨_,rfl⟩
   obtain ⟨un0,hun0⟩:∃ a,a=v % 4294967296:=⟨_,rfl⟩
   rw [← hyn1,← hyn0,← hun1,← hun0]
   have d1:2147483648≤yn1∧yn1≤4294967295:=by omega
   have d0:0≤yn0∧yn0≤4294967295:=by omega
   have dn1:0≤un1∧un1≤4294967295:=by omega
   have dn0:0≤un0∧un0≤4294967295:=by omega
   have dY:Y=yn1*4294967296+yn0:=by omega
   have g1:=DI.init dY d1 d0 dn1 U0 U1
   have x1:IntKind.u64.wrap (u / yn1)=u / yn1:=wu64 ⟨g1.hq.1,by have:=g1.hq.2;omega⟩
   have x2:IntKind.u64.wrap (u-IntKind.u64.wrap (u / yn1*yn1))=u-u / yn1*yn1:=by
     have r1:=g1.hr.1
     have r2:0≤u / yn1*yn1:=Int.mul_nonneg g1.hq.1 (by omega)
     have r3:=g1.hr.2
     rw [wu64 (n:=u / yn1*yn1) ⟨r2,by omega⟩,wu64 ⟨r1,by omega⟩]
   rw [x1,x2]
   have fin:∀ q1:Int,DG Y u un1 q1→∀ (un21:Int),un21=u*4294967296+un1-q1*Y→∀ q0,DG Y un21 un0 q0 →
       K (IntKind.u64.wrap ((IntKind.u64.wrap (q1*(4294967296:Int)))+q0)) (Int.fdiv (IntKind.u64.wrap ((IntKind.u64.wrap ((IntKind.u64.wrap (un21*(4294967296:Int)))+un0))-(IntKind.u64.wrap (q0*Y)))) (2 ^ (min ((m:Int)).toNat IntKind.u64.bits))):=by
     intro q1 G1 un21 e21 q0 G0
     obtain ⟨a1,a2,a3,a4⟩:=G1
     obtain ⟨c1,c2,c3,c4⟩:=G0
     have s1:(q1+1)*Y=q1*Y+Y:=by grind
     have s0:(q0+1)*Y=q0*Y+Y:=by grind
     have w5:IntKind.u64.wrap (q1*4294967296)=q1*4294967296:=wu64 ⟨by omega,by omega⟩
     have w6:IntKind.u64.wrap (q1*4294967296+q0)=q1*4294967296+q0:=wu64 ⟨by omega,by omega⟩
     rw [yGX (by omega) (by omega),w5,w6,e3,fdivn _ _ (by omega)]
     have eT:un21*4294967296+un0-q0*Y=(h*18446744073709551616+l-(q1*4294967296+q0)*y)*2 ^ m:=by
       have f1:(q1*4294967296+q0)*Y=q1*Y*4294967296+q0*Y:=by grind
       have f2:(h*18446744073709551616+l-(q1*4294967296+q0)*y)*2 ^ m=(h*18446744073709551616+l)*2 ^ m-(q1*4294967296+q0)*Y:=by
         rw [← hY,Int.sub_mul,Int.mul_assoc (q1*4294967296+q0)]
       rw [f2,f1,eN]
       omega
     rw [eT,Int.mul_ediv_cancel _ (by omega)]
     have r0:0≤h*18446744073709551616+l-(q1*4294967296+q0)*y:=by
       refine Int.not_lt.1 fun hc=>?_
       have:=Int.mul_neg_of_neg_of_pos hc tp
       omega
     have r1:h*18446744073709551616+l-(q1*4294967296+q0)*y<y:=by
       refine Int.not_le.1 fun hc=>?_
       have:=Int.mul_le_mul_of_nonneg_right hc (show (0:Int)≤2 ^ m by omega)
       omega
     obtain ⟨Q,hQ⟩:∃ Q,Q=q1*4294967296+q0:=⟨_,rfl⟩
     rw [← hQ] at r0 r1 ⊢
     have z1:(h*18446744073709551616+l) / y=Q:=by
       have:h*18446744073709551616+l=(h*18446744073709551616+l-Q*y)+Q*y:=by omega
       rw [this,Int.add_mul_ediv_right _ _ (by omega),Int.ediv_eq_zero_of_lt r0 r1];omega
     have z2:(h*18446744073709551616+l) % y=h*18446744073709551616+l-Q*y:=by
       have:=Int.mul_ediv_add_emod (h*18446744073709551616+l) y
       rw [z1,Int.mul_comm] at this
       omega
     rw [z1,z2] at k
     exact k
   have mid:∀ q:Int,DG Y u un1 q→∀ (X:Int→Int→Int→Int→Int→Int→Int→Int→Int→Bool→Prop),(∀ q0 r0 b0,DG Y (u*4294967296+un1-q*Y) un0 q0→X Y m yn1 yn0 un0 q r0 (u*4294967296+un1-q*Y) q0 b0) →
       asr (!(decide (yn1=(0:Int)))) (∃ n:Nat,ydV yaM X X n Y m yn1 yn0 un0 q ((IntKind.u64.wrap ((IntKind.u64.wrap ((IntKind.u64.wrap ((IntKind.u64.wrap (u*(4294967296:Int)))+un1))-(IntKind.u64.wrap (q*Y))))-(IntKind.u64.wrap ((IntKind.u64.wrap (Int.tdiv (IntKind.u64.wrap ((IntKind.u64.wrap ((IntKind.u64.wrap (u*(4294967296:Int)))+un1))-(IntKind.u64.wrap (q*Y)))) yn1))*yn1))))) (IntKind.u64.wrap ((IntKind.u64.wrap ((IntKind.u64.wrap (u*(4294967296:Int)))+un1))-(IntKind.u64.wrap (q*Y)))) (IntKind.u64.wrap (Int.tdiv (IntKind.u64.wrap ((IntKind.u64.wrap ((IntKind.u64.wrap (u*(4294967296:Int)))+un1))-(IntKind.u64.wrap (q*Y)))) yn1))):=by
     intro q G X hX
     obtain ⟨a1,a2,a3,a4⟩:=G
     have s1:(q+1)*Y=q*Y+Y:=by grind
     have b8:(!(decide (yn1=(0:Int))))=true:=by rw [decide_eq_false (by omega)];rfl
     rw [b8,yat,yGX (by omega) (by omega),tdivn (by omega)]
     have g0:=DI.init dY d1 d0 dn0 (u:=u*4294967296+un1-q*Y) (by omega) (by omega)
     generalize u*4294967296+un1-q*Y=u2 at *
     have x1:IntKind.u64.wrap (u2 / yn1)=u2 / yn1:=wu64 ⟨g0.hq.1,by have:=g0.hq.2;omega⟩
     have x2:IntKind.u64.wrap (u2-IntKind.u64.wrap (u2 / yn1*yn1))=u2-u2 / yn1*yn1:=by
       have r1:=g0.hr.1
       have r2:0≤u2 / yn1*yn1:=Int.mul_nonneg g0.hq.1 (by omega)
       have r3:=g0.hr.2
       have r4:=g0.hlt
       rw [wu64 (n:=u2 / yn1*yn1) ⟨r2,by omega⟩,wu64 ⟨r1,by omega⟩]
     rw [x1,x2]
     exact ⟨3,yMs _ _ _ _ (fun q0 r0 b0 g=>hX q0 r0 b0 g) (fun q0 r0 b0 g=>hX q0 r0 b0 g) _ _ g0⟩
   have leaf:∀ {P:Prop},P→asr (!(decide ((m:Int)<0))) P:=fun p=>by rw [b5,yat];exact p
   refine ⟨3,yMr _ _ _ _ (fun q r b G=>?_) (fun q r b G=>?_) _ _ g1⟩
   · exact mid q G _ (fun q0 r0 b0 G0=>leaf (fin q G _ rfl q0 G0))
   · exact mid q G _ (fun q0 r0 b0 G0=>leaf (fin q G _ rfl q0 G0))
end Go.Pf.Vc
namespace Go.Pf.Vc
open Go Go.Pf
theorem yJj {h l y:Int} (hh:U64 h) (hl:U64 l) (hy:U64 y) (h0:0<y) {K:Int→Prop}
   (k:K ((h*18446744073709551616+l) % y)):yh2 h l y K:=by
 unfold yh2 ysD
 have b3:(!(decide (y=(0:Int))))=true:=by rw [decide_eq_false (by omega)];rfl
 have a1:=Int.emod_nonneg h (show y≠0 by omega)
 have a2:=Int.emod_lt_of_pos h h0
 have hh':=hh
 unfold U64 at hh hy
 rw [b3,yat,tmodn hh.1]
 refine yD1 ⟨a1,by omega⟩ hl ⟨by omega,by omega⟩ a2 ?_
 have e:(h % y*18446744073709551616+l) % y=(h*18446744073709551616+l) % y:=by
   rw [Int.add_emod,Int.mul_emod,Int.emod_emod,← Int.mul_emod,← Int.add_emod]
 rw [e]
 exact k
def outS (s:Bool) (a b:Int) (K:Int→Int→Int→Prop):Prop :=
 if a≤1000000000000000000∧b≤1000000000000000000 then K (if s then -a else a) b 0 else K 0 0 16
theorem yq1 {s:Bool} {a b:Int} (ha:0≤a) (hb:0≤b) (K:Int→Int→Int→Prop):ybp s a b K=outS s a b K:=by
 unfold ybp ykF outS
 by_cases h:a≤1000000000000000000∧b≤1000000000000000000
 · have e:decide ((if b>a then b else a)>(1000000000000000000:Int))=false:=by
     refine decide_eq_false ?_
     split <;> omega
   have w1:IntKind.i64.wrap a=a:=wi64 ⟨by omega,by omega⟩
   have w2:IntKind.i64.wrap b=b:=wi64 ⟨by omega,by omega⟩
   have w3:IntKind.i64.wrap (0-a)=-a:=by rw [wi64 ⟨by omega,by omega⟩];omega
   rw [e,yaa,if_pos h,w1,w2,w3]
   cases s
   · rfl
   · rfl
 · have e:decide ((if b>a then b else a)>(1000000000000000000:Int))=true:=by
     refine decide_eq_true ?_
     split <;> omega
   rw [e,yab,if_neg h]
theorem yK4 {n d:Int} (hn:I64 n) (hd:I64 d) {K:Int→Int→Int→Prop}
   (k:if d=0 then K 0 0 18 else outS (decide (n<0) != decide (d<0)) ((n.natAbs / Nat.gcd n.natAbs d.natAbs:Nat):Int) ((d.natAbs / Nat.gcd n.natAbs d.natAbs:Nat):Int) K):ybS n d K:=by
 unfold ybS ynd
 by_cases h:d=0
 · rw [if_pos h] at k
   have:(d ==(0:Int))=true:=beq_iff_eq.2 h
   rw [this,yab]
   exact k
 · rw [if_neg h] at k
   have:(d ==(0:Int))=false:=beq_eq_false_iff_ne.2 h
   rw [this,yaa,ykf hn,ykf hd]
   refine yvE _ _ _ ?_
   have gp:0<Nat.gcd n.natAbs d.natAbs:=Nat.gcd_pos_of_pos_right _ (by omega)
   have b3:(!(decide (((Nat.gcd n.natAbs d.natAbs:Nat):Int)=(0:Int))))=true:=by rw [decide_eq_false (by omega)];rfl
   unfold I64 at hn hd
   have u1:n.natAbs / Nat.gcd n.natAbs d.natAbs≤n.natAbs:=Nat.div_le_self _ _
   have u2:d.natAbs / Nat.gcd n.natAbs d.natAbs≤d.natAbs:=Nat.div_le_self _ _
   rw [b3,yat,yat,tdivn (by omega),tdivn (by omega),← Int.natCast_ediv,← Int.natCast_ediv]
   generalize n.natAbs / Nat.gcd n.natAbs d.natAbs=A at *
   generalize d.natAbs / Nat.gcd n.natAbs d.natAbs=B at *
   rw [wu64 (n:=(A:Int)) ⟨by omega,by omega⟩,wu64 (n:=(B:Int)) ⟨by omega,by omega⟩,yq1 (by omega) (by omega)]
   exact k
end Go.Pf.Vc
namespace Go.Pf.Vc
open Go Go.Pf
def numM (a c:Int) (b d:Int):Nat:=(a.natAbs / Nat.gcd a.natAbs d.natAbs)*(c.natAbs / Nat.gcd c.natAbs b.natAbs)
def denM (a c:Int) (b d:Int):Nat:=(b.natAbs / Nat.gcd c.natAbs b.natAbs)*(d.natAbs / Nat.gcd a.natAbs d.natAbs)
theorem yFY {a b c d:Int} (ha:I64 a) (hb:I64 b) (hc:I64 c) (hd:I64 d) {K:Int→Int→Int→Prop}
   (k:if chk2 a b c d=0 then outS (decide (a<0) != decide (c<0)) (numM a c b d) (denM a c b d) K else K 0 0 (chk2 a b c d)):yaR a b c d K:=by
 unfold yaR yoo
 refine yqF ha hb hc hd ?_
 by_cases h:chk2 a b c d=0
 · rw [if_pos h] at k
   have:(chk2 a b c d !=(0:Int))=false:=by rw [h];rfl
   rw [this,yaa,ykf ha,ykf hc]
   obtain ⟨⟨b1,b2,a1,a2,_⟩,d1,d2,c1,c2,_⟩:=ygY.1 h
   have wb:IntKind.u64.wrap b=((b.natAbs:Nat):Int):=by rw [wu64 ⟨by omega,by omega⟩];omega
   have wd:IntKind.u64.wrap d=((d.natAbs:Nat):Int):=by rw [wu64 ⟨by omega,by omega⟩];omega
   rw [wb,wd]
   refine yvE _ _ _ (yvE _ _ _ ?_)
   unfold numM denM at k
   have g1:0<Nat.gcd a.natAbs d.natAbs:=Nat.gcd_pos_of_pos_right _ (by omega)
   have g2:0<Nat.gcd c.natAbs b.natAbs:=Nat.gcd_pos_of_pos_right _ (by omega)
   obtain ⟨g3,h3⟩:∃ g,g=Nat.gcd a.natAbs d.natAbs:=⟨_,rfl⟩
   obtain ⟨g4,h4⟩:∃ g,g=Nat.gcd c.natAbs b.natAbs:=⟨_,rfl⟩
   rw [← h3,← h4] at k ⊢
   rw [← h3] at g1;rw [← h4] at g2
   have n3:(!(decide ((g3:Int)=(0:Int))))=true:=by rw [decide_eq_false (by omega)];rfl
   have n4:(!(decide ((g4:Int)=(0:Int))))=true:=by rw [decide_eq_false (by omega)];rfl
   rw [n3,n4,yat,yat,tdivn (by omega),tdivn (by omega),tdivn (by omega),tdivn (by omega),← Int.natCast_ediv,← Int.natCast_ediv,← Int.natCast_ediv,← Int.natCast_ediv]
   have q1:a.natAbs / g3≤a.natAbs:=Nat.div_le_self _ _
   have q2:c.natAbs / g4≤c.natAbs:=Nat.div_le_self _ _
   have q3:b.natAbs / g4≤b.natAbs:=Nat.div_le_self _ _
   have q4:d.natAbs / g3≤d.natAbs:=Nat.div_le_self _ _
   generalize a.natAbs / g3=A at *
   generalize c.natAbs / g4=C at *
   generalize b.natAbs / g4=B at *
   generalize d.natAbs / g3=D at *
   rw [wu64 (n:=(A:Int)) ⟨by omega,by omega⟩,wu64 (n:=(C:Int)) ⟨by omega,by omega⟩,wu64 (n:=(B:Int)) ⟨by omega,by omega⟩,wu64 (n:=(D:Int)) ⟨by omega,by omega⟩,
     yms ⟨by omega,by omega⟩ ⟨by omega,by omega⟩,yat,yat,yms ⟨by omega,by omega⟩ ⟨by omega,by omega⟩]
   have m1:A*C≤1000000000000000000*1000000000000000000:=Nat.mul_le_mul (by omega) (by omega)
   have m2:B*D≤1000000000000000000*1000000000000000000:=Nat.mul_le_mul (by omega) (by omega)
   rw [← Int.natCast_mul,← Int.natCast_mul]
   generalize A*C=M at *
   generalize B*D=N at *
   have wm:IntKind.u64.wrap ((M:Int) / 18446744073709551616+(N:Int) / 18446744073709551616)=(M:Int) / 18446744073709551616+(N:Int) / 18446744073709551616:=wu64 ⟨by omega,by omega⟩
   rw [wm]
   by_cases hb:(M:Int) / 18446744073709551616+(N:Int) / 18446744073709551616>0
   · rw [decide_eq_true hb,yab]
     unfold outS at k
     rw [if_neg (by omega)] at k
     exact k
   · rw [decide_eq_false hb,yaa]
     have eM:(M:Int) % 18446744073709551616=M:=by omega
     have eN:(N:Int) % 18446744073709551616=N:=by omega
     rw [eM,eN]
     by_cases h0:(M:Int)>0
     · rw [decide_eq_true h0,yab,yq1 (by omega) (by omega)]
       exact k
     · rw [decide_eq_false h0,yaa,yq1 (by omega) (by omega)]
       have hz:M=0:=by omega
       subst hz
       unfold outS at k ⊢
       by_cases hN:(N:Int)≤1000000000000000000
       · rw [if_pos ⟨by omega,hN⟩] at k ⊢
         have e:(if (decide (a<0) != decide (c<0))=true then -((0:Nat):Int) else ((0:Nat):Int))=0:=by split <;> rfl
         rw [e] at k
         exact k
       · rw [if_neg (by omega)] at k ⊢
         exact k
 · rw [if_neg h] at k
   have:(chk2 a b c d !=(0:Int))=true:=by rw [bne_iff_ne];exact h
   rw [this,yab]
   exact k
theorem RV.swap {c d:Int} (h:RV c d) (h0:0<c):RV d c:=by
 obtain ⟨d1,d2,c1,c2,g⟩:=h
 exact ⟨by omega,c2,by omega,d2,by rw [Nat.gcd_comm];exact g⟩
theorem RV.swapn {c d:Int} (h:RV c d) (h0:c<0):RV (-d) (-c):=by
 obtain ⟨d1,d2,c1,c2,g⟩:=h
 exact ⟨by omega,by omega,by omega,by omega,by rw [Int.natAbs_neg,Int.natAbs_neg,Nat.gcd_comm];exact g⟩
theorem yMt {a b c d:Int} (ha:I64 a) (hb:I64 b) (hc:I64 c) (hd:I64 d) {K:Int→Int→Int→Prop}
   (k:if chk2 a b c d=0 then (if c=0 then K 0 0 18 else outS (decide (a<0) != decide (c<0)) (numM a d b c) (denM a d b c) K) else K 0 0 (chk2 a b c d)):ycz a b c d K:=by
 unfold ycz yop
 refine yqF ha hb hc hd ?_
 by_cases h:chk2 a b c d=0
 · rw [if_pos h] at k
   have:(chk2 a b c d !=(0:Int))=false:=by rw [h];rfl
   rw [this,yaa]
   obtain ⟨hab,hcd⟩:=ygY.1 h
   obtain ⟨d1,d2,c1,c2,_⟩:=id hcd
   by_cases h0:c=0
   · rw [if_pos h0] at k
     have:(c ==(0:Int))=true:=beq_iff_eq.2 h0
     rw [this,yab]
     exact k
   · rw [if_neg h0] at k
     have:(c ==(0:Int))=false:=beq_eq_false_iff_ne.2 h0
     rw [this,yaa]
     by_cases hn:c<0
     · rw [decide_eq_true hn] at k
       rw [decide_eq_true hn,yab,wi64 (n:=0-d) ⟨by omega,by omega⟩,wi64 (n:=0-c) ⟨by omega,by omega⟩,Int.zero_sub,Int.zero_sub]
       have e:chk2 a b (-d) (-c)=0:=ygY.2 ⟨hab,hcd.swapn hn⟩
       refine yFY ha hb ⟨by omega,by omega⟩ ⟨by omega,by omega⟩ ?_
       rw [if_pos e,decide_eq_true (show -d<0 by omega)]
       unfold numM denM at k ⊢
       rw [Int.natAbs_neg,Int.natAbs_neg]
       exact k
     · rw [decide_eq_false hn] at k
       rw [decide_eq_false hn,yaa]
       have e:chk2 a b d c=0:=ygY.2 ⟨hab,hcd.swap (by omega)⟩
       refine yFY ha hb hd hc ?_
       rw [if_pos e,decide_eq_false (show ¬d<0 by omega)]
       exact k
 · rw [if_neg h] at k
   have:(chk2 a b c d !=(0:Int))=true:=by rw [bne_iff_ne];exact h
   rw [this,yab]
   exact k
end Go.Pf.Vc
namespace Go.Pf.Vc
open Go Go.Pf
theorem yK5 {s:Bool} {hi lo p1 p3:Int} {g:Nat} (hh:U64 hi) (hl:U64 lo) (hg:0<g) (g1:(g:Int)≤1000000000000000000)
    (h1:0≤p1∧p1≤1000000000000000000) (h3:0≤p3∧p3≤1000000000000000000) {K:Int→Int→Int→Prop}
    (k:outS s (((hi*18446744073709551616+lo).toNat / Nat.gcd (hi*18446744073709551616+lo).toNat g:Nat):Int)
      (((p1.toNat / g)*(p3.toNat / Nat.gcd (hi*18446744073709551616+lo).toNat g):Nat):Int) K) :
    (yh2 hi lo (g:Int) (fun (yi12:Int) =>
 (ybv yi12 (g:Int) (fun (yi13:Int) =>
 (cbr (decide (hi≥yi13))
 (K (0:Int) (0:Int) (16:Int))
 (yfN hi lo yi13 (fun (yi14:Int) (_:Int) =>
 (asr (!(decide ((g:Int)=(0:Int))))
 (asr (!(decide (yi13=(0:Int))))
 (yek (IntKind.u64.wrap (Int.tdiv (IntKind.u64.wrap p1) (g:Int))) (IntKind.u64.wrap (Int.tdiv (IntKind.u64.wrap p3) yi13)) (fun (yi16:Int) (yi17:Int) =>
 (cbr (decide (yi16>(0:Int)))
 (K (0:Int) (0:Int) (16:Int))
 (ybp s yi14 yi17 (fun (yi18:Int) (yi19:Int) (yi20:Int) =>
 (K yi18 yi19 yi20))))))))))))))):=by
  unfold U64 at hh hl
  obtain ⟨X,hX⟩:∃ X:Nat,X=(hi*18446744073709551616+lo).toNat:=⟨_,rfl⟩
  have eX:hi*18446744073709551616+lo=(X:Int):=by omega
  rw [← hX] at k
  refine yJj hh hl ⟨by omega,by omega⟩ (by omega) ?_
  rw [eX,← Int.natCast_emod]
  refine yvE _ _ _ ?_
  have eg:Nat.gcd (X % g) g=Nat.gcd X g:=by rw [Nat.gcd_comm,Nat.gcd_comm X,Nat.gcd_rec g X,Nat.gcd_comm]
  rw [eg]
  have gp:0<Nat.gcd X g:=Nat.gcd_pos_of_pos_right _ hg
  have gl:Nat.gcd X g≤g:=Nat.le_of_dvd hg (Nat.gcd_dvd_right _ _)
  generalize Nat.gcd X g=G at *
  by_cases hb:hi≥(G:Int)
  · rw [decide_eq_true hb,yab]
    unfold outS at k
    have:18446744073709551616≤X / G:=by
      rw [Nat.le_div_iff_mul_le gp]
      omega
    rw [if_neg (by omega)] at k
    exact k
  · rw [decide_eq_false hb,yaa]
    refine yD1 hh hl ⟨by omega,by omega⟩ (by omega) ?_
    rw [eX]
    have n3:(!(decide ((g:Int)=(0:Int))))=true:=by rw [decide_eq_false (by omega)];rfl
    have n4:(!(decide ((G:Int)=(0:Int))))=true:=by rw [decide_eq_false (by omega)];rfl
    have e1:IntKind.u64.wrap p1=(p1.toNat:Int):=by rw [wu64 ⟨by omega,by omega⟩];omega
    have e3:IntKind.u64.wrap p3=(p3.toNat:Int):=by rw [wu64 ⟨by omega,by omega⟩];omega
    rw [n3,n4,yat,yat,e1,e3,tdivn (by omega),tdivn (by omega),← Int.natCast_ediv,← Int.natCast_ediv,← Int.natCast_ediv]
    have q1:p1.toNat / g≤p1.toNat:=Nat.div_le_self _ _
    have q3:p3.toNat / G≤p3.toNat:=Nat.div_le_self _ _
    generalize p1.toNat / g=A at *
    generalize p3.toNat / G=B at *
    generalize X / G=N at *
    rw [wu64 (n:=(A:Int)) ⟨by omega,by omega⟩,wu64 (n:=(B:Int)) ⟨by omega,by omega⟩,yms ⟨by omega,by omega⟩ ⟨by omega,by omega⟩,← Int.natCast_mul]
    generalize A*B=D at *
    by_cases hd:((D:Int) / 18446744073709551616)>0
    · rw [decide_eq_true hd,yab]
      unfold outS at k
      rw [if_neg (by omega)] at k
      exact k
    · rw [decide_eq_false hd,yaa]
      have eD:(D:Int) % 18446744073709551616=D:=by omega
      rw [eD,yq1 (by omega) (by omega)]
      exact k
end Go.Pf.Vc
namespace Go.Pf.Vc
open Go Go.Pf
theorem yD2 {p q c:Int} {K:Int→Int→Prop} (hc:c.toNat≤1) (k:K (((p.toNat+q.toNat+c.toNat) % 18446744073709551616:Nat):Int) (((p.toNat+q.toNat+c.toNat) / 18446744073709551616:Nat):Int)):yjg p q c K:=by
 unfold yjg
 rw [decide_eq_true hc,yat]
 exact k
theorem yD3 {p q c:Int} {K:Int→Int→Prop} (hc:c.toNat≤1) (k:K (((p.toNat+18446744073709551616-q.toNat-c.toNat) % 18446744073709551616:Nat):Int) ((if q.toNat+c.toNat≤p.toNat then 0 else 1:Nat):Int)):yjh p q c K:=by
 unfold yjh
 rw [decide_eq_true hc,yat]
 have e:(bif Nat.ble (q.toNat+c.toNat) p.toNat then 0 else 1:Nat)=(if q.toNat+c.toNat≤p.toNat then 0 else 1:Nat):=by
   by_cases h:q.toNat+c.toNat≤p.toNat
   · rw [if_pos h,show Nat.ble (q.toNat+c.toNat) p.toNat=true from Nat.ble_eq_true_of_le h];rfl
   · rw [if_neg h]
     cases hb:Nat.ble (q.toNat+c.toNat) p.toNat
     · rfl
     · exact absurd (Nat.le_of_ble_eq_true hb) h
 rw [e]
 exact k
theorem yJk {X Y:Int} (hx:0≤X) (hy:0≤Y) (hs:X+Y<340282366920938463463374607431768211456) {F:Int→Int→Int→Int→Prop}
   (h:∀ c1 c2,F ((X+Y) % 18446744073709551616) c1 ((X+Y) / 18446744073709551616) c2) :
   yjg (X % 18446744073709551616) (Y % 18446744073709551616) 0 (fun lo c1=>yjg (X / 18446744073709551616) (Y / 18446744073709551616) c1 (fun hi c2=>F lo c1 hi c2)):=by
 obtain ⟨x,rfl⟩:∃ x:Nat,X=x:=⟨X.toNat,by omega⟩
 obtain ⟨y,rfl⟩:∃ y:Nat,Y=y:=⟨Y.toNat,by omega⟩
 refine yD2 (by decide) (yD2 (by omega) ?_)
 have e1:(((((x:Int) % 18446744073709551616).toNat+((y:Int) % 18446744073709551616).toNat+(0:Int).toNat) % 18446744073709551616:Nat):Int)=((x:Int)+y) % 18446744073709551616:=by omega
 have e2:(((((x:Int) / 18446744073709551616).toNat+((y:Int) / 18446744073709551616).toNat+(((((x:Int) % 18446744073709551616).toNat+((y:Int) % 18446744073709551616).toNat+(0:Int).toNat) / 18446744073709551616:Nat):Int).toNat) % 18446744073709551616:Nat):Int)=((x:Int)+y) / 18446744073709551616:=by omega
 rw [e1,e2]
 exact h _ _
theorem yuB {X Y:Int} (hy:0≤Y) (hxy:Y≤X) (hs:X<340282366920938463463374607431768211456) {F:Int→Int→Int→Int→Prop}
   (h:∀ c1 c2,F ((X-Y) % 18446744073709551616) c1 ((X-Y) / 18446744073709551616) c2) :
   yjh (X % 18446744073709551616) (Y % 18446744073709551616) 0 (fun lo c1=>yjh (X / 18446744073709551616) (Y / 18446744073709551616) c1 (fun hi c2=>F lo c1 hi c2)):=by
 obtain ⟨x,rfl⟩:∃ x:Nat,X=x:=⟨X.toNat,by omega⟩
 obtain ⟨y,rfl⟩:∃ y:Nat,Y=y:=⟨Y.toNat,by omega⟩
 refine yD3 (by decide) (yD3 (by split <;> omega) ?_)
 have e1:(((((x:Int) % 18446744073709551616).toNat+18446744073709551616-((y:Int) % 18446744073709551616).toNat-(0:Int).toNat) % 18446744073709551616:Nat):Int)=((x:Int)-y) % 18446744073709551616:=by omega
 rw [e1]
 by_cases hb:((y:Int) % 18446744073709551616).toNat+(0:Int).toNat≤((x:Int) % 18446744073709551616).toNat
 · rw [if_pos hb]
   have e2:(((((x:Int) / 18446744073709551616).toNat+18446744073709551616-((y:Int) / 18446744073709551616).toNat-((0:Nat):Int).toNat) % 18446744073709551616:Nat):Int)=((x:Int)-y) / 18446744073709551616:=by omega
   rw [e2]
   exact h _ _
 · rw [if_neg hb]
   have e2:(((((x:Int) / 18446744073709551616).toNat+18446744073709551616-((y:Int) / 18446744073709551616).toNat-((1:Nat):Int).toNat) % 18446744073709551616:Nat):Int)=((x:Int)-y) / 18446744073709551616:=by omega
   rw [e2]
   exact h _ _
end Go.Pf.Vc
namespace Go.Pf.Vc
open Go Go.Pf
def outA (s:Bool) (Z p1 p3:Int) (g:Nat) (K:Int→Int→Int→Prop):Prop :=
 if Z=0 then K 0 1 0 else outS s ((Z.toNat / Nat.gcd Z.toNat g:Nat):Int) (((p1.toNat / g)*(p3.toNat / Nat.gcd Z.toNat g):Nat):Int) K
theorem yyy {s:Bool} {Z p1 p3:Int} {g:Nat} (hz:0≤Z) (hz2:Z<340282366920938463463374607431768211456) (hg:0<g) (g1:(g:Int)≤1000000000000000000)
    (h1:0≤p1∧p1≤1000000000000000000) (h3:0≤p3∧p3≤1000000000000000000) {K:Int→Int→Int→Prop}
    (k:outA s Z p1 p3 g K) :
    cbr (Z / 18446744073709551616 ==(0:Int)) (cbr (Z % 18446744073709551616 ==(0:Int)) (K 0 1 0) (yh2 (Z / 18446744073709551616) (Z % 18446744073709551616) (g:Int) (fun (yi12:Int) =>
 (ybv yi12 (g:Int) (fun (yi13:Int) =>
 (cbr (decide ((Z / 18446744073709551616)≥yi13))
 (K (0:Int) (0:Int) (16:Int))
 (yfN (Z / 18446744073709551616) (Z % 18446744073709551616) yi13 (fun (yi14:Int) (_:Int) =>
 (asr (!(decide ((g:Int)=(0:Int))))
 (asr (!(decide (yi13=(0:Int))))
 (yek (IntKind.u64.wrap (Int.tdiv (IntKind.u64.wrap p1) (g:Int))) (IntKind.u64.wrap (Int.tdiv (IntKind.u64.wrap p3) yi13)) (fun (yi16:Int) (yi17:Int) =>
 (cbr (decide (yi16>(0:Int)))
 (K (0:Int) (0:Int) (16:Int))
 (ybp s yi14 yi17 (fun (yi18:Int) (yi19:Int) (yi20:Int) =>
 (K yi18 yi19 yi20)))))))))))))))) (yh2 (Z / 18446744073709551616) (Z % 18446744073709551616) (g:Int) (fun (yi12:Int) =>
 (ybv yi12 (g:Int) (fun (yi13:Int) =>
 (cbr (decide ((Z / 18446744073709551616)≥yi13))
 (K (0:Int) (0:Int) (16:Int))
 (yfN (Z / 18446744073709551616) (Z % 18446744073709551616) yi13 (fun (yi14:Int) (_:Int) =>
 (asr (!(decide ((g:Int)=(0:Int))))
 (asr (!(decide (yi13=(0:Int))))
 (yek (IntKind.u64.wrap (Int.tdiv (IntKind.u64.wrap p1) (g:Int))) (IntKind.u64.wrap (Int.tdiv (IntKind.u64.wrap p3) yi13)) (fun (yi16:Int) (yi17:Int) =>
 (cbr (decide (yi16>(0:Int)))
 (K (0:Int) (0:Int) (16:Int))
 (ybp s yi14 yi17 (fun (yi18:Int) (yi19:Int) (yi20:Int) =>
 (K yi18 yi19 yi20))))))))))))))):=by
  unfold outA at k
  have eZ:Z / 18446744073709551616*18446744073709551616+Z % 18446744073709551616=Z:=by omega
  by_cases h0:Z=0
  · rw [if_pos h0] at k
    subst h0
    have e1:((0:Int) / 18446744073709551616 ==(0:Int))=true:=by decide
    have e2:((0:Int) % 18446744073709551616 ==(0:Int))=true:=by decide
    rw [e1,yab,e2,yab]
    exact k
  · rw [if_neg h0] at k
    have t:=yK5 (s:=s) (hi:=Z / 18446744073709551616) (lo:=Z % 18446744073709551616) (p1:=p1) (p3:=p3) (g:=g) (K:=K) ⟨by omega,by omega⟩ ⟨by omega,by omega⟩ hg g1 h1 h3 (by rw [eZ];exact k)
    cases h4:(Z / 18446744073709551616 ==(0:Int))
    · rw [yaa];exact t
    · rw [yab]
      cases h2:(Z % 18446744073709551616 ==(0:Int))
      · rw [yaa];exact t
      · have:=beq_iff_eq.1 h2
        have:=beq_iff_eq.1 h4
        exact absurd (show Z=0 by omega) h0
theorem ys3 {s s':Bool} {Z Z' p1 p3:Int} {g:Nat} {K:Int→Int→Int→Prop} (k:outA s' Z' p1 p3 g K) (hz:Z=Z') (hs:Z≠0→s=s'):outA s Z p1 p3 g K:=by
 subst hz
 unfold outA at k ⊢
 by_cases h:Z=0
 · rw [if_pos h] at k ⊢;exact k
 · rw [if_neg h] at k ⊢;rw [hs h];exact k
theorem yJl {a b c d:Int} (ha:I64 a) (hb:I64 b) (hc:I64 c) (hd:I64 d) {K:Int→Int→Int→Prop}
   (k:if chk2 a b c d=0 then outA (decide (a*(d / (Nat.gcd b.natAbs d.natAbs:Nat))+c*(b / (Nat.gcd b.natAbs d.natAbs:Nat))<0))
       ((a*(d / (Nat.gcd b.natAbs d.natAbs:Nat))+c*(b / (Nat.gcd b.natAbs d.natAbs:Nat))).natAbs:Int) b d (Nat.gcd b.natAbs d.natAbs) K
     else K 0 0 (chk2 a b c d)):yar a b c d K:=by
 unfold yar yom
 refine yqF ha hb hc hd ?_
 by_cases h:chk2 a b c d=0
 · rw [if_pos h] at k
   have:(chk2 a b c d !=(0:Int))=false:=by rw [h];rfl
   rw [this,yaa]
   obtain ⟨⟨b1,b2,a1,a2,_⟩,d1,d2,c1,c2,_⟩:=ygY.1 h
   have wb:IntKind.u64.wrap b=((b.natAbs:Nat):Int):=by rw [wu64 ⟨by omega,by omega⟩];omega
   have wd:IntKind.u64.wrap d=((d.natAbs:Nat):Int):=by rw [wu64 ⟨by omega,by omega⟩];omega
   have g1:0<Nat.gcd b.natAbs d.natAbs:=Nat.gcd_pos_of_pos_right _ (by omega)
   have g2:Nat.gcd b.natAbs d.natAbs≤d.natAbs:=Nat.le_of_dvd (by omega) (Nat.gcd_dvd_right _ _)
   have go:ybv (IntKind.u64.wrap b) (IntKind.u64.wrap d)=ybv ((b.natAbs:Nat):Int) ((d.natAbs:Nat):Int):=by rw [wb,wd]
   rw [go]
   refine yvE _ _ _ ?_
   generalize Nat.gcd b.natAbs d.natAbs=g at *
   have n3:(!(decide ((g:Int)=(0:Int))))=true:=by rw [decide_eq_false (by omega)];rfl
   have q1:0≤b / (g:Int):=Int.ediv_nonneg (by omega) (by omega)
   have q2:0≤d / (g:Int):=Int.ediv_nonneg (by omega) (by omega)
   have q3:b / (g:Int)≤b:=Int.ediv_le_self _ (by omega)
   have q4:d / (g:Int)≤d:=Int.ediv_le_self _ (by omega)
   have ed:IntKind.u64.wrap (Int.tdiv (IntKind.u64.wrap d) (g:Int))=d / (g:Int):=by
     rw [wu64 (n:=d) ⟨by omega,by omega⟩,tdivn (by omega),wu64 ⟨by omega,by omega⟩]
   have eb:IntKind.u64.wrap (Int.tdiv (IntKind.u64.wrap b) (g:Int))=b / (g:Int):=by
     rw [wu64 (n:=b) ⟨by omega,by omega⟩,tdivn (by omega),wu64 ⟨by omega,by omega⟩]
   have ynt:∀ {c:Bool} {P:Prop},c=true→P→asr c P:=fun h p=>by rw [h,yat];exact p
   rw [ykf ha]
   refine ynt n3 ?_
   rw [yms (U64.abs ha) (by rw [ed];exact ⟨by omega,by omega⟩),ykf hc]
   refine ynt n3 ?_
   rw [yms (U64.abs hc) (by rw [eb];exact ⟨by omega,by omega⟩)]
   obtain ⟨X,hX⟩:∃ X,X=((a.natAbs:Nat):Int)*IntKind.u64.wrap (Int.tdiv (IntKind.u64.wrap d) (g:Int)):=⟨_,rfl⟩
   obtain ⟨Y,hY⟩:∃ Y,Y=((c.natAbs:Nat):Int)*IntKind.u64.wrap (Int.tdiv (IntKind.u64.wrap b) (g:Int)):=⟨_,rfl⟩
   rw [← hX,← hY]
   rw [ed] at hX;rw [eb] at hY
   have X0:0≤X:=by rw [hX];exact Int.mul_nonneg (by omega) q2
   have Y0:0≤Y:=by rw [hY];exact Int.mul_nonneg (by omega) q1
   have X1:X≤1000000000000000000*1000000000000000000:=by rw [hX];exact Int.mul_le_mul (by omega) (by omega) q2 (by omega)
   have Y1:Y≤1000000000000000000*1000000000000000000:=by rw [hY];exact Int.mul_le_mul (by omega) (by omega) q1 (by omega)
   have ax:a*(d / (g:Int))=if a<0 then -X else X:=by
     split
     · rw [hX,show ((a.natAbs:Nat):Int)=-a by omega,Int.neg_mul,Int.neg_neg]
     · rw [hX,show ((a.natAbs:Nat):Int)=a by omega]
   have cy:c*(b / (g:Int))=if c<0 then -Y else Y:=by
     split
     · rw [hY,show ((c.natAbs:Nat):Int)=-c by omega,Int.neg_mul,Int.neg_neg]
     · rw [hY,show ((c.natAbs:Nat):Int)=c by omega]
   rw [ax,cy] at k
   clear hX hY ax cy ed eb n3
   by_cases hs:decide (a<0)=decide (c<0)
   · have e:(decide (a<0) == decide (c<0))=true:=beq_iff_eq.2 hs
     rw [e,yab]
     refine yJk X0 Y0 (by omega) (fun c1 c2=>?_)
     refine yyy (by omega) (by omega) g1 (by omega) ⟨by omega,b2⟩ ⟨by omega,d2⟩ (ys3 k ?_ ?_)
     · by_cases h1:a<0
       · have h2:c<0:=by simpa [h1] using hs.symm
         rw [if_pos h1,if_pos h2];omega
       · have h2:¬c<0:=by simpa [h1] using hs.symm
         rw [if_neg h1,if_neg h2];omega
     · intro h0
       by_cases h1:a<0
       · have h2:c<0:=by simpa [h1] using hs.symm
         rw [if_pos h1,if_pos h2,decide_eq_true h1,decide_eq_true (by omega)]
       · have h2:¬c<0:=by simpa [h1] using hs.symm
         rw [if_neg h1,if_neg h2,decide_eq_false h1,decide_eq_false (by omega)]
   · have e:(decide (a<0) == decide (c<0))=false:=beq_eq_false_iff_ne.2 hs
     rw [e,yaa]
     have h12:(a<0∧¬c<0)∨(¬a<0∧c<0):=by
       by_cases h1:a<0 <;> by_cases h2:c<0 <;> simp [h1,h2] at hs ⊢
     by_cases hlt:X<Y
     · have kk:outA (!decide (a<0)) (Y-X) b d g K:=by
         refine ys3 k ?_ ?_
         · rcases h12 with ⟨h1,h2⟩ | ⟨h1,h2⟩
           · rw [if_pos h1,if_neg h2];omega
           · rw [if_neg h1,if_pos h2];omega
         · intro h0
           rcases h12 with ⟨h1,h2⟩ | ⟨h1,h2⟩
           · rw [if_pos h1,if_neg h2,decide_eq_true h1,decide_eq_false (by omega)];rfl
           · rw [if_neg h1,if_pos h2,decide_eq_false h1,decide_eq_true (by omega)];rfl
       by_cases h1:X / 18446744073709551616<Y / 18446744073709551616
       · rw [decide_eq_true h1,yab]
         refine yuB X0 (by omega) (by omega) (fun c1 c2=>?_)
         exact yyy (by omega) (by omega) g1 (by omega) ⟨by omega,b2⟩ ⟨by omega,d2⟩ kk
       · have e1:(X / 18446744073709551616 == Y / 18446744073709551616)=true:=beq_iff_eq.2 (by omega)
         rw [decide_eq_false h1,yaa,e1,yab,decide_eq_true (show X % 18446744073709551616<Y % 18446744073709551616 by have:=beq_iff_eq.1 e1;omega),yab]
         refine yuB X0 (by omega) (by omega) (fun c1 c2=>?_)
         exact yyy (by omega) (by omega) g1 (by omega) ⟨by omega,b2⟩ ⟨by omega,d2⟩ kk
     · have kk:outA (decide (a<0)) (X-Y) b d g K:=by
         refine ys3 k ?_ ?_
         · rcases h12 with ⟨h1,h2⟩ | ⟨h1,h2⟩
           · rw [if_pos h1,if_neg h2];omega
           · rw [if_neg h1,if_pos h2];omega
         · intro h0
           rcases h12 with ⟨h1,h2⟩ | ⟨h1,h2⟩
           · rw [if_pos h1,if_neg h2,decide_eq_true h1,decide_eq_true (by omega)]
           · rw [if_neg h1,if_pos h2,decide_eq_false h1,decide_eq_false (by omega)]
       have h1:¬X / 18446744073709551616<Y / 18446744073709551616:=by omega
       rw [decide_eq_false h1,yaa]
       cases e1:(X / 18446744073709551616 == Y / 18446744073709551616)
       · rw [yaa]
         refine yuB Y0 (by omega) (by omega) (fun c1 c2=>?_)
         exact yyy (by omega) (by omega) g1 (by omega) ⟨by omega,b2⟩ ⟨by omega,d2⟩ kk
       · rw [yab,decide_eq_false (show ¬X % 18446744073709551616<Y % 18446744073709551616 by have:=beq_iff_eq.1 e1;omega),yaa]
         refine yuB Y0 (by omega) (by omega) (fun c1 c2=>?_)
         exact yyy (by omega) (by omega) g1 (by omega) ⟨by omega,b2⟩ ⟨by omega,d2⟩ kk
 · rw [if_neg h] at k
   have:(chk2 a b c d !=(0:Int))=true:=by rw [bne_iff_ne];exact h
   rw [this,yab]
   exact k
end Go.Pf.Vc
namespace Go.Pf.Vc
open Go Go.Pf
theorem RV.neg {c d:Int} (h:RV c d):RV (-c) d:=by
 obtain ⟨d1,d2,c1,c2,g⟩:=h
 exact ⟨d1,d2,by omega,by omega,by rw [Int.natAbs_neg];exact g⟩
theorem yMu {a b c d:Int} (ha:I64 a) (hb:I64 b) (hc:I64 c) (hd:I64 d) {K:Int→Int→Int→Prop}
   (k:if chk2 a b c d=0 then outA (decide (a*(d / (Nat.gcd b.natAbs d.natAbs:Nat))+-c*(b / (Nat.gcd b.natAbs d.natAbs:Nat))<0))
       ((a*(d / (Nat.gcd b.natAbs d.natAbs:Nat))+-c*(b / (Nat.gcd b.natAbs d.natAbs:Nat))).natAbs:Int) b d (Nat.gcd b.natAbs d.natAbs) K
     else K 0 0 (chk2 a b c d)):ya8 a b c d K:=by
 unfold ya8 yon
 refine yqF ha hb hc hd ?_
 by_cases h:chk2 a b c d=0
 · rw [if_pos h] at k
   have:(chk2 a b c d !=(0:Int))=false:=by rw [h];rfl
   rw [this,yaa]
   obtain ⟨hab,hcd⟩:=ygY.1 h
   obtain ⟨d1,d2,c1,c2,_⟩:=id hcd
   rw [wi64 (n:=0-c) ⟨by omega,by omega⟩,Int.zero_sub]
   refine yJl ha hb ⟨by omega,by omega⟩ hd ?_
   rw [if_pos (ygY.2 ⟨hab,hcd.neg⟩)]
   exact k
 · rw [if_neg h] at k
   have:(chk2 a b c d !=(0:Int))=true:=by rw [bne_iff_ne];exact h
   rw [this,yab]
   exact k
end Go.Pf.Vc
namespace Go.Pf.Vc
open Go Go.Pf
def ints (l:List Int):List PV:=l.map (PV.int .i64)
theorem yau (l:List Int):(ints l).length=l.length:=List.length_map ..
theorem yuC {l:List Int} {i:Nat} (h:i<l.length):List.getD (ints l) i .nils=.int .i64 (l.getD i 0):=by
 unfold ints
 rw [List.getD_eq_getElem?_getD,List.getD_eq_getElem?_getD,List.getElem?_map,List.getElem?_eq_getElem h]
 rfl
theorem ycY {l:List Int} {i:Nat} (h:i<l.length):intOfV (List.getD (ints l) i .nils)=l.getD i 0:=by
 rw [yuC h];rfl
theorem yjX {l:List Int} {i:Nat} (h:i<l.length):conf (.one (.i .i64)) (List.getD (ints l) i .nils)=true:=by
 rw [yuC h];rfl
theorem ynt {c:Bool} {P:Prop} (h:c=true) (p:P):asr c P:=by rw [h,yat];exact p
theorem asr_d {c:Prop} [Decidable c] {P:Prop} (h:c) (p:P):asr (decide c) P:=ynt (decide_eq_true h) p
end Go.Pf.Vc
namespace Go.Pf.Vc
open Go Go.Pf
theorem cbr_d {c:Prop} [Decidable c] {P Q:Prop} (h:c) (p:P):cbr (decide c) P Q:=by rw [decide_eq_true h,yab];exact p
theorem cbr_n {c:Prop} [Decidable c] {P Q:Prop} (h:¬c) (q:Q):cbr (decide c) P Q:=by rw [decide_eq_false h,yaa];exact q
def mnf (m x:Int):Int:=if x<m then x else m
theorem yJm {l:List Int} (hl:l.length<9223372036854775807) (x0:List PV→Int→Int→Bool→Prop) :
   ∀ (rest:List Int) (i:Nat) (m:Int) (n:Nat),l.drop i=rest→i≤l.length→rest.length<n→x0 (ints l) (rest.foldl mnf m) (l.length:Int) false →
     ybw x0 n (ints l) m (i:Int):=by
 intro rest
 induction rest with
 | nil =>
   intro i m n hd hi hn k
   have:i=l.length:=by
     have:=congrArg List.length hd
     rw [List.length_drop] at this
     have h2:([]:List Int).length=0:=rfl
     omega
   match n,hn with
   | n+1,_ =>
     unfold ybw
     rw [yau,this]
     exact cbr_n (by omega) k
 | cons x t ih =>
   intro i m n hd hi hn k
   have hlt:i<l.length:=by
     have:=congrArg List.length hd
     rw [List.length_drop,List.length_cons] at this
     omega
   have hx:l.getD i 0=x:=by
     have:=List.getElem_drop (xs:=l) (i:=i) (j:=0) (h:=by rw [hd];exact Nat.zero_lt_succ _)
     rw [List.getD_eq_getElem?_getD,List.getElem?_eq_getElem hlt]
     simp only [hd,List.getElem_cons_zero,Nat.add_zero] at this
     exact this.symm
   have ht:l.drop (i+1)=t:=by rw [← List.tail_drop,hd];rfl
   match n,hn with
   | n+1,hn =>
     unfold ybw
     rw [yau]
     refine cbr_d (by omega) ?_
     refine asr_d (by omega) (asr_d (by omega) (ynt (yjX (by omega)) ?_))
     rw [Int.toNat_natCast,ycY hlt,hx,wi64 (n:=(i:Int)+1) ⟨by omega,by omega⟩]
     exact ih (i+1) _ n ht (by omega) (by rw [List.length_cons] at hn;omega) k
theorem yMv {l:List Int} (hl:l.length<9223372036854775807) {x:Int} {t:List Int} (e:l=x::t) {K:Int→Prop} (k:K (t.foldl mnf x)):ycT (ints l) K:=by
 have h0:0<l.length:=by rw [e];exact Nat.zero_lt_succ _
 unfold ycT yjA
 rw [yau]
 refine cbr_n (by omega) (asr_d (by omega) (ynt (yjX h0) ⟨l.length+1,?_⟩))
 have e0:l.getD 0 0=x:=by rw [e];rfl
 rw [ycY h0,e0]
 refine yJm hl _ t 1 x _ (by rw [e];rfl) (by omega) (by rw [e,List.length_cons];omega) ?_
 exact k
def mxf (m x:Int):Int:=if x>m then x else m
theorem yJn {l:List Int} (hl:l.length<9223372036854775807) (x0:List PV→Int→Int→Bool→Prop) :
   ∀ (rest:List Int) (i:Nat) (m:Int) (n:Nat),l.drop i=rest→i≤l.length→rest.length<n→x0 (ints l) (rest.foldl mxf m) (l.length:Int) false →
     ybx x0 n (ints l) m (i:Int):=by
 intro rest
 induction rest with
 | nil =>
   intro i m n hd hi hn k
   have:i=l.length:=by
     have:=congrArg List.length hd
     rw [List.length_drop] at this
     have h2:([]:List Int).length=0:=rfl
     omega
   match n,hn with
   | n+1,_ =>
     unfold ybx
     rw [yau,this]
     exact cbr_n (by omega) k
 | cons x t ih =>
   intro i m n hd hi hn k
   have hlt:i<l.length:=by
     have:=congrArg List.length hd
     rw [List.length_drop,List.length_cons] at this
     omega
   have hx:l.getD i 0=x:=by
     have:=List.getElem_drop (xs:=l) (i:=i) (j:=0) (h:=by rw [hd];exact Nat.zero_lt_succ _)
     rw [List.getD_eq_getElem?_getD,List.getElem?_eq_getElem hlt]
     simp only [hd,List.getElem_cons_zero,Nat.add_zero] at this
     exact this.symm
   have ht:l.drop (i+1)=t:=by rw [← List.tail_drop,hd];rfl
   match n,hn with
   | n+1,hn =>
     unfold ybx
     rw [yau]
     refine cbr_d (by omega) ?_
     refine asr_d (by omega) (asr_d (by omega) (ynt (yjX (by omega)) ?_))
     rw [Int.toNat_natCast,ycY hlt,hx,wi64 (n:=(i:Int)+1) ⟨by omega,by omega⟩]
     exact ih (i+1) _ n ht (by omega) (by rw [List.length_cons] at hn;omega) k
theorem yJo {l:List Int} (hl:l.length<9223372036854775807) {x:Int} {t:List Int} (e:l=x::t) {K:Int→Prop} (k:K (t.foldl mxf x)):ycU (ints l) K:=by
 have h0:0<l.length:=by rw [e];exact Nat.zero_lt_succ _
 unfold ycU yjD
 rw [yau]
 refine cbr_n (by omega) (asr_d (by omega) (ynt (yjX h0) ⟨l.length+1,?_⟩))
 have e0:l.getD 0 0=x:=by rw [e];rfl
 rw [ycY h0,e0]
 refine yJn hl _ t 1 x _ (by rw [e];rfl) (by omega) (by rw [e,List.length_cons];omega) ?_
 exact k
end Go.Pf.Vc
namespace Go.Pf.Vc
open Go Go.Pf
def incr (l:List Int) (i:Nat):Prop:=∀ j,i≤j→j+1<l.length→l.getD j 0<l.getD (j+1) 0
theorem yFZ {l:List Int} {p2:List PV} {p0:Int} (hl:l.length<9223372036854775807) (W1 W2:List PV→(Int→Prop)→Prop) (x0:Int→Prop) (x1:Int→List PV→List PV→Int→Int→Bool→Prop) :
   ∀ (r i n:Nat),i+r+1=l.length→r<n→(incr l i→x1 p0 (ints l) p2 ((l.length:Int)-1) ((l.length:Int)-1) false)→(¬incr l i→x0 8) →
     ycA W1 W2 x0 x1 n p0 (ints l) p2 ((l.length:Int)-1) (i:Int):=by
 intro r
 induction r with
 | zero =>
   intro i n hi hn k _
   match n,hn with
   | n+1,_ =>
     unfold ycA
     have e:(i:Int)=(l.length:Int)-1:=by omega
     refine cbr_n (by omega) ?_
     rw [e]
     exact k (fun j h1 h2=>by omega)
 | succ r ih =>
   intro i n hi hn k k0
   match n,hn with
   | n+1,hn =>
     unfold ycA
     rw [wi64 (n:=(i:Int)+1) ⟨by omega,by omega⟩,yau]
     have e1:((i:Int)+1)=((i+1:Nat):Int):=by omega
     rw [e1,Int.toNat_natCast,Int.toNat_natCast]
     refine cbr_d (by omega) (asr_d (by omega) (asr_d (by omega) (ynt (yjX (by omega)) (asr_d (by omega) (asr_d (by omega) (ynt (yjX (by omega)) ?_))))))
     rw [ycY (by omega),ycY (by omega)]
     by_cases h:l.getD i 0≥l.getD (i+1) 0
     · exact cbr_d h (k0 fun hc=>absurd (hc i (Nat.le_refl _) (by omega)) (by omega))
     · refine cbr_n h (ih (i+1) n (by omega) (by omega) (fun hc=>k fun j h1 h2=>?_) (fun hc=>k0 fun hd=>hc fun j h1 h2=>hd j (by omega) h2))
       by_cases hj:j=i
       · subst hj;omega
       · exact hc j (by omega) h2
end Go.Pf.Vc
namespace Go.Pf.Vc
open Go Go.Pf
def small (q:Rat):Prop:=-1000000000000000000≤q.num∧q.num≤1000000000000000000∧(q.den:Int)≤1000000000000000000
instance (q:Rat):Decidable (small q):=by unfold small;infer_instance
theorem small.rv {q:Rat} (h:small q):RV q.num q.den:=by
 obtain ⟨h1,h2,h3⟩:=h
 have:=q.den_pos
 exact ⟨by omega,h3,h1,h2,q.reduced⟩
theorem yCa {n d:Int} (h:RV n d):∃ q:Rat,small q∧q.num=n∧(q.den:Int)=d:=by
 obtain ⟨h1,h2,h3,h4,h5⟩:=h
 refine ⟨⟨n,d.toNat,by omega,?_⟩,⟨h3,h4,by show ((d.toNat:Nat):Int)≤_;omega⟩,rfl,by show ((d.toNat:Nat):Int)=_;omega⟩
 have:d.natAbs=d.toNat:=by omega
 rw [this] at h5
 exact h5
theorem small.i1 {q:Rat} (h:small q):I64 q.num:=⟨by have:=h.1;omega,by have:=h.2.1;omega⟩
theorem small.i2 {q:Rat} (h:small q):I64 (q.den:Int):=⟨by omega,by have:=h.2.2;omega⟩
theorem yfy {q r:Rat} (h:small q) (k:small r):chk2 q.num q.den r.num r.den=0:=ygY.2 ⟨h.rv,k.rv⟩
def fitK (q:Rat) (K:Int→Int→Int→Prop):Prop:=if small q then K q.num q.den 0 else K 0 0 16
theorem yyz {q:Rat} {s:Bool} {a b:Int} (ha:a=(q.num.natAbs:Int)) (hb:b=(q.den:Int)) (hs:q.num≠0→s=decide (q.num<0)) (K:Int→Int→Int→Prop):outS s a b K=fitK q K:=by
 unfold outS fitK
 subst ha hb
 by_cases h:small q
 · have h':=h
   obtain ⟨h1,h2,h3⟩:=h
   rw [if_pos (show _∧_ from ⟨by omega,h3⟩),if_pos h']
   have e:(if s=true then -((q.num.natAbs:Nat):Int) else ((q.num.natAbs:Nat):Int))=q.num:=by
     by_cases h0:q.num=0
     · rw [h0];cases s <;> rfl
     · rw [hs h0]
       by_cases h1:q.num<0
       · rw [decide_eq_true h1,if_pos rfl];omega
       · rw [decide_eq_false h1,if_neg (by simp)];omega
   rw [e]
 · rw [if_neg h,if_neg]
   intro h2
   exact h ⟨by omega,by omega,h2.2⟩
theorem yD4 (x:Int) (g:Nat):(Int.tdiv x g).natAbs=x.natAbs / g:=by rw [Int.natAbs_tdiv,Int.natAbs_natCast];rfl
theorem yAz {x:Int} {g:Nat} (h:(g:Int)∣x) (hx:x≠0):decide (Int.tdiv x g<0)=decide (x<0):=by
 obtain ⟨k,rfl⟩:=h
 have hg:(g:Int)≠0:=fun e=>hx (by rw [e,Int.zero_mul])
 rw [Int.mul_tdiv_cancel_left _ hg]
 have h1:(g:Int)>0:=by have:=Int.natCast_nonneg g;omega
 have:(g:Int)*k<0↔k<0:=by
   constructor
   · intro h;refine Int.not_le.1 fun hk=>?_
     have:=Int.mul_nonneg (show 0≤(g:Int) by omega) hk
     omega
   · intro h;exact Int.mul_neg_of_pos_of_neg h1 h
 simp only [this]
theorem yH3 (q r:Rat):(q*r).num=Int.tdiv q.num (Nat.gcd q.num.natAbs r.den)*Int.tdiv r.num (Nat.gcd r.num.natAbs q.den) ∧
   (q*r).den=(q.den / Nat.gcd r.num.natAbs q.den)*(r.den / Nat.gcd q.num.natAbs r.den):=by
 have e:q*r=Rat.mul q r:=rfl
 rw [e]
 delta Rat.mul
 constructor
 · simp only [Int.divExact_eq_tdiv]
 · simp only [Nat.divExact_eq_div]
theorem ynX (x:Int) (d:Nat):((Nat.gcd x.natAbs d:Nat):Int)∣x:=by
 rw [← Int.dvd_natAbs,Int.ofNat_dvd];exact Nat.gcd_dvd_left _ _
theorem yGY {x:Int} {g:Nat} (h:(g:Int)∣x) (hx:x≠0):Int.tdiv x g≠0:=by
 obtain ⟨k,rfl⟩:=h
 have hg:(g:Int)≠0:=fun e=>hx (by rw [e,Int.zero_mul])
 rw [Int.mul_tdiv_cancel_left _ hg]
 intro e;rw [e,Int.mul_zero] at hx;exact hx rfl
theorem yJp {x y:Int} (hx:x≠0) (hy:y≠0):decide (x*y<0)=(decide (x<0) != decide (y<0)):=by
 by_cases h1:x<0 <;> by_cases h2:y<0
 · have:=Int.mul_pos_of_neg_of_neg h1 h2
   simp [h1,h2];omega
 · have:=Int.mul_neg_of_neg_of_pos h1 (show 0<y by omega)
   simp [h1,h2];omega
 · have:=Int.mul_neg_of_pos_of_neg (show 0<x by omega) h2
   simp [h1,h2];omega
 · have:=Int.mul_pos (show 0<x by omega) (show 0<y by omega)
   simp [h1,h2];omega
theorem yCb (q r:Rat) (K:Int→Int→Int→Prop):outS (decide (q.num<0) != decide (r.num<0)) (numM q.num r.num q.den r.den) (denM q.num r.num q.den r.den) K=fitK (q*r) K:=by
 obtain ⟨e1,e2⟩:=yH3 q r
 refine yyz ?_ ?_ ?_ K
 · rw [e1,Int.natAbs_mul,yD4,yD4]
   simp only [numM,Int.natAbs_natCast]
 · rw [e2]
   simp only [denM,Int.natAbs_natCast]
 · intro h
   rw [e1] at h ⊢
   have h1:q.num≠0:=fun e=>h (by rw [e,Int.zero_tdiv,Int.zero_mul])
   have h2:r.num≠0:=fun e=>h (by rw [e,Int.zero_tdiv,Int.mul_zero])
   rw [yJp (yGY (ynX _ _) h1) (yGY (ynX _ _) h2),yAz (ynX _ _) h1,yAz (ynX _ _) h2]
theorem yuD {w:(Int→Int→Int→Prop)→Prop} {q:Rat} (det:∀ r0 r1 r2,(∀ K:Int→Int→Int→Prop,K r0 r1 r2→w K)→∀ K,w K=K r0 r1 r2) (h:∀ K,fitK q K→w K) (K:Int→Int→Int→Prop):w K=fitK q K:=by
 unfold fitK at h ⊢
 by_cases hs:small q
 · simp only [if_pos hs] at h ⊢
   exact det _ _ _ h K
 · simp only [if_neg hs] at h ⊢
   exact det _ _ _ h K
theorem yCc {q r:Rat} (hq:small q) (hr:small r) (K:Int→Int→Int→Prop):yaR q.num q.den r.num r.den K=fitK (q*r) K :=
 yuD (fun r0 r1 r2 h K=>yzv _ _ _ _ r0 r1 r2 h K) (fun K k=>yFY hq.i1 hq.i2 hr.i1 hr.i2 (by rw [if_pos (yfy hq hr),yCb];exact k)) K
theorem yvF {r:Rat} (h:r≠0):(r⁻¹).num=(if r.num<0 then -(r.den:Int) else r.den)∧(r⁻¹).den=r.num.natAbs:=by
 have h0:r.num≠0:=fun e=>h (Rat.num_eq_zero.1 e)
 constructor
 · rw [Rat.num_inv]
   by_cases h1:r.num<0
   · rw [if_pos h1,Int.sign_eq_neg_one_of_neg h1];omega
   · rw [if_neg h1,Int.sign_eq_one_of_pos (by omega)];omega
 · rw [Rat.den_inv,if_neg h0]
theorem small.inv {r:Rat} (h:small r) (h0:r≠0):small r⁻¹:=by
 obtain ⟨e1,e2⟩:=yvF h0
 obtain ⟨h1,h2,h3⟩:=h
 unfold small
 rw [e1,e2]
 split <;> omega
theorem yK6 {q r:Rat} (hq:small q) (hr:small r) (h0:r≠0) (K:Int→Int→Int→Prop):ycz q.num q.den r.num r.den K=fitK (q / r) K:=by
 have hn:r.num≠0:=fun e=>h0 (Rat.num_eq_zero.1 e)
 refine yuD (fun r0 r1 r2 h K=>yzw _ _ _ _ r0 r1 r2 h K) (fun K k=>yMt hq.i1 hq.i2 hr.i1 hr.i2 ?_) K
 rw [if_pos (yfy hq hr),if_neg hn]
 rw [Rat.div_def,← yCb] at k
 obtain ⟨e1,e2⟩:=yvF h0
 rw [e1,e2] at k
 have s:decide ((if r.num<0 then -(r.den:Int) else (r.den:Int))<0)=decide (r.num<0):=by
   have:=r.den_pos
   split
   · rename_i h;simp only [h];simp;omega
   · rename_i h;simp only [h];simp
 rw [s] at k
 have hd:(if r.num<0 then -(r.den:Int) else (r.den:Int)).natAbs=r.den:=by split <;> omega
 unfold numM denM at k ⊢
 simp only [hd,Int.natAbs_natCast] at k ⊢
 exact k
end Go.Pf.Vc
namespace Go.Pf.Vc
open Go Go.Pf
theorem yH4 (q r:Rat):(q+r).num=(q.num*(r.den / Nat.gcd q.den r.den:Nat)+r.num*(q.den / Nat.gcd q.den r.den:Nat)) / (Nat.gcd (q.num*(r.den / Nat.gcd q.den r.den:Nat)+r.num*(q.den / Nat.gcd q.den r.den:Nat)).natAbs (Nat.gcd q.den r.den):Nat) ∧
   (q+r).den=(q.den / Nat.gcd q.den r.den)*r.den / Nat.gcd (q.num*(r.den / Nat.gcd q.den r.den:Nat)+r.num*(q.den / Nat.gcd q.den r.den:Nat)).natAbs (Nat.gcd q.den r.den):=by
 have e:q+r=Rat.add q r:=rfl
 rw [e]
 delta Rat.add
 by_cases hg:q.den.gcd r.den=1
 · simp only [hg,dif_pos,Nat.div_one,Nat.gcd_one_right,Int.natCast_one,Int.ediv_one,and_self]
 · simp only [hg,dif_neg,not_false_eq_true,Rat.maybeNormalize_eq]
   constructor
   · first | rfl | simp only [Int.divExact_eq_tdiv]
   · first | rfl | simp only []
theorem yJq {q r:Rat} {Z:Int} {g:Nat} (e1:(q+r).num=Z / (Nat.gcd Z.natAbs g:Nat)) (e2:(q+r).den=(q.den / g)*r.den / Nat.gcd Z.natAbs g) (hgp:0<g) (hgd:g∣r.den) (K:Int→Int→Int→Prop) :
   outA (decide (Z<0)) (Z.natAbs:Int) q.den r.den g K=fitK (q+r) K:=by
 unfold outA
 by_cases h0:Z=0
 · subst h0
   have:(q+r)=0:=by
     apply Rat.num_eq_zero.1
     rw [e1];simp
   rw [this,if_pos (by rfl)]
   unfold fitK
   rw [if_pos (by decide)];rfl
 · have hne:¬((Z.natAbs:Nat):Int)=0:=by omega
   rw [if_neg hne]
   have hdv:((Nat.gcd Z.natAbs g:Nat):Int)∣Z:=ynX _ _
   have hhp:0<Nat.gcd Z.natAbs g:=Nat.gcd_pos_of_pos_right _ hgp
   have hhg:Nat.gcd Z.natAbs g∣r.den:=Nat.dvd_trans (Nat.gcd_dvd_right _ _) hgd
   refine yyz ?_ ?_ ?_ K
   · rw [e1,Int.natAbs_ediv_of_dvd hdv];simp
   · rw [e2];simp only [Int.toNat_natCast];rw [Nat.mul_div_assoc _ hhg]
   · intro h
     rw [e1]
     obtain ⟨k,hk⟩:=hdv
     revert hhp hk
     generalize Nat.gcd Z.natAbs g=h
     intro hhp hk
     have e:Z / (h:Int)=k:=by rw [hk,Int.mul_ediv_cancel_left _ (by omega)]
     rw [e]
     have:Z<0↔k<0:=by
       rw [hk]
       constructor
       · intro hk;refine Int.not_le.1 fun hk2=>?_
         have:=Int.mul_nonneg (show 0≤(h:Int) by omega) hk2
         omega
       · intro hk;exact Int.mul_neg_of_pos_of_neg (by omega) hk
     simp only [this]
theorem yCd (q r:Rat) (K:Int→Int→Int→Prop) :
   outA (decide (q.num*((r.den:Int) / (Nat.gcd (q.den:Int).natAbs (r.den:Int).natAbs:Nat))+r.num*((q.den:Int) / (Nat.gcd (q.den:Int).natAbs (r.den:Int).natAbs:Nat))<0))
     ((q.num*((r.den:Int) / (Nat.gcd (q.den:Int).natAbs (r.den:Int).natAbs:Nat))+r.num*((q.den:Int) / (Nat.gcd (q.den:Int).natAbs (r.den:Int).natAbs:Nat))).natAbs:Int) q.den r.den (Nat.gcd (q.den:Int).natAbs (r.den:Int).natAbs) K=fitK (q+r) K:=by
 obtain ⟨e1,e2⟩:=yH4 q r
 rw [Int.natCast_ediv,Int.natCast_ediv] at e1 e2
 exact yJq e1 e2 (Nat.gcd_pos_of_pos_left _ q.den_pos) (Nat.gcd_dvd_right _ _) K
theorem yw0 {q r:Rat} (hq:small q) (hr:small r) (K:Int→Int→Int→Prop):yar q.num q.den r.num r.den K=fitK (q+r) K :=
 yuD (fun r0 r1 r2 h K=>yzt _ _ _ _ r0 r1 r2 h K) (fun K k=>yJl hq.i1 hq.i2 hr.i1 hr.i2 (by rw [if_pos (yfy hq hr),yCd];exact k)) K
theorem yw1 {q r:Rat} (hq:small q) (hr:small r) (K:Int→Int→Int→Prop):ya8 q.num q.den r.num r.den K=fitK (q-r) K :=
 yuD (fun r0 r1 r2 h K=>yzu _ _ _ _ r0 r1 r2 h K) (fun K k=>yMu hq.i1 hq.i2 hr.i1 hr.i2 (by
   rw [if_pos (yfy hq hr)]
   rw [Rat.sub_eq_add_neg,← yCd] at k
   exact k)) K
theorem yJr {n d:Int} (hd:d≠0) (K:Int→Int→Int→Prop):outS (decide (n<0) != decide (d<0)) ((n.natAbs / Nat.gcd n.natAbs d.natAbs:Nat):Int) ((d.natAbs / Nat.gcd n.natAbs d.natAbs:Nat):Int) K=fitK ((n:Rat) / (d:Rat)) K:=by
 have e:(n:Rat) / (d:Rat)=mkRat (if d<0 then -n else n) d.natAbs:=by
   rw [Rat.mkRat_eq_div]
   split
   · rename_i h
     have h1:((d.natAbs:Nat):Int)=-d:=by omega
     have h2:((d.natAbs:Nat):Rat)=-(d:Rat):=by rw [← Rat.intCast_natCast,h1,Rat.intCast_neg]
     rw [h2,Rat.intCast_neg]
     have h3:(d:Rat)≠0:=fun e=>hd (Rat.intCast_eq_zero_iff.1 e)
     grind
   · rename_i h
     have h1:((d.natAbs:Nat):Int)=d:=by omega
     have h2:((d.natAbs:Nat):Rat)=(d:Rat):=by rw [← Rat.intCast_natCast,h1]
     rw [h2]
 have h0:d.natAbs≠0:=by omega
 have hab:(if d<0 then -n else n).natAbs=n.natAbs:=by split <;> omega
 rw [e]
 refine yyz ?_ ?_ ?_ K
 · rw [Rat.num_mkRat,if_neg h0,hab,Int.natAbs_ediv_of_dvd,Int.natAbs_natCast,hab,Nat.gcd_comm]
   rw [← Int.dvd_natAbs,Int.ofNat_dvd,hab];exact Nat.gcd_dvd_right _ _
 · rw [Rat.den_mkRat,if_neg h0,hab,Nat.gcd_comm]
 · rw [Rat.num_mkRat,if_neg h0,hab]
   have hdv:((Nat.gcd d.natAbs n.natAbs:Nat):Int)∣(if d<0 then -n else n):=by
     rw [← Int.dvd_natAbs,Int.ofNat_dvd,hab];exact Nat.gcd_dvd_right _ _
   have hp:0<Nat.gcd d.natAbs n.natAbs:=Nat.gcd_pos_of_pos_left _ (by omega)
   obtain ⟨k,hk⟩:=hdv
   rw [hk,Int.mul_ediv_cancel_left _ (by omega)]
   intro hk0
   generalize Nat.gcd d.natAbs n.natAbs=g at *
   have h1:(g:Int)*k<0↔k<0:=by
     constructor
     · intro hk;refine Int.not_le.1 fun hk2=>?_
       have:=Int.mul_nonneg (show 0≤(g:Int) by omega) hk2
       omega
     · intro hk;exact Int.mul_neg_of_pos_of_neg (by omega) hk
   have h2:(g:Int)*k≠0:=fun e=>by rcases Int.mul_eq_zero.1 e with e | e <;> omega
   by_cases hd2:d<0
   · rw [if_pos hd2] at hk
     by_cases hn:n<0
     · have:¬k<0:=by omega
       simp [hd2,hn,this]
     · have:k<0:=by omega
       simp [hd2,this];omega
   · rw [if_neg hd2] at hk
     by_cases hn:n<0
     · have:k<0:=by omega
       simp [hd2,hn,this]
     · have:¬k<0:=by omega
       simp [hd2,this];omega
theorem yJs {n d:Int} (hn:I64 n) (hd:I64 d) (h0:d≠0) (K:Int→Int→Int→Prop):ybS n d K=fitK ((n:Rat) / (d:Rat)) K :=
 yuD (fun r0 r1 r2 h K=>yx0 _ _ r0 r1 r2 h K) (fun K k=>yK4 hn hd (by rw [if_neg h0,yJr h0];exact k)) K
def cmpQ (q r:Rat):Int:=if q<r then -1 else if r<q then 1 else 0
theorem yK7 (q r:Rat):cmpR q.num q.den r.num r.den=cmpQ q r:=by
 unfold cmpR cmp3 cmpQ
 simp only [Rat.lt_iff]
theorem yGZ {q r:Rat} (hq:small q) (hr:small r) (K:Int→Int→Prop):ydU q.num q.den r.num r.den K=K (cmpQ q r) 0 :=
 yzs _ _ _ _ _ _ (fun K k=>yMp hq.i1 hq.i2 hr.i1 hr.i2 (by rw [yfy hq hr,if_pos rfl,yK7];exact k)) K
theorem ynY {n d:Int} (hn:I64 n) (hd:I64 d) (K:Int→Prop):yal n d K=K (chk n d) :=
 ywF _ _ _ (fun _ k=>yyx hn hd k) K
end Go.Pf.Vc
namespace Go.Pf.Vc
open Go Go.Pf
theorem ylh {p:Int} (h:I64 p) (K:Int→Prop):ye6 p K=K (p.natAbs:Int):=by
 unfold I64 at h
 unfold ye6 ysO
 by_cases hp:p<0
 · have e0:IntKind.i64.wrap (p+1)=p+1:=wi64 ⟨by omega,by omega⟩
   have e1:IntKind.i64.wrap ((0:Int)-(p+1))=-(p+1):=by rw [wi64 ⟨by omega,by omega⟩];omega
   have e2:IntKind.u64.wrap (-(p+1))=-(p+1):=wu64 ⟨by omega,by omega⟩
   have e3:IntKind.u64.wrap (-(p+1)+1)=(p.natAbs:Int):=by rw [wu64 ⟨by omega,by omega⟩];omega
   rw [decide_eq_true hp,yab,e0,e1,e2,e3]
 · rw [decide_eq_false hp,yaa,wu64 ⟨by omega,by omega⟩]
   congr 1
   omega
theorem yAA (x:Int→Int→Bool→Prop):∀ (n a b:Nat),b<n→yeM x n (a:Int) (b:Int)=x ((Nat.gcd a b:Nat):Int) 0 false
 | 0,a,b,h=>by omega
 | n+1,a,b,h=>by
   unfold yeM
   by_cases hb:b=0
   · subst hb
     simp [cbr]
   · have h1:((b:Int) != 0)=true:=by simp;omega
     have h2:¬((b:Int)=0):=by omega
     rw [h1,yab,decide_eq_false h2,Bool.not_false,yat]
     have e:Int.tmod (a:Int) (b:Int)=((a % b:Nat):Int):=by rw [Int.tmod_eq_emod_of_nonneg (by omega)];omega
     rw [e,yAA x n b (a % b) (by have:=Nat.mod_lt a (show b>0 by omega);omega)]
     rw [Nat.gcd_comm a b,Nat.gcd_rec b a,Nat.gcd_comm]
theorem yuE (a b:Nat) (K:Int→Prop):ydF (a:Int) (b:Int) K=K ((Nat.gcd a b:Nat):Int):=by
 refine yDS _ _ _ (fun K h=>?_) K
 unfold ydF ysP
 exact ⟨b+1,by rw [yAA _ (b+1) a b (by omega)];exact h⟩
theorem bne_f {a b:Int} (h:a=b):(a != b)=false:=by simp [h]
theorem bne_t {a b:Int} (h:a≠b):(a != b)=true:=by simp [h]
theorem beq_f {a b:Int} (h:a≠b):(a == b)=false:=by simp [h]
theorem beq_t {a b:Int} (h:a=b):(a == b)=true:=by simp [h]
theorem ynZ {n d:Int} (hn:I64 n) (_:I64 d) (K:Int→Prop):ycC n d K=K (chk n d):=by
 unfold ycC yoH
 by_cases h1:d<1
 · rw [decide_eq_true h1,yab,chk,if_neg (fun h=>by have:=h.1;omega)]
 · rw [decide_eq_false h1,yaa]
   by_cases h2:d>1000000000000000000
   · rw [decide_eq_true h2,yab,chk,if_neg (fun h=>by have:=h.2.1;omega)]
   · rw [decide_eq_false h2,yaa]
     by_cases h3:n < -1000000000000000000
     · rw [decide_eq_true h3,yab,chk,if_neg (fun h=>by have:=h.2.2.1;omega)]
     · rw [decide_eq_false h3,yaa]
       by_cases h4:n>1000000000000000000
       · rw [decide_eq_true h4,yab,chk,if_neg (fun h=>by have:=h.2.2.2.1;omega)]
       · have ed:IntKind.u64.wrap d=((d.natAbs:Nat):Int):=by rw [wu64 ⟨by omega,by omega⟩];omega
         rw [decide_eq_false h4,yaa,ylh hn,ed,yuE]
         by_cases h5:Nat.gcd n.natAbs d.natAbs=1
         · rw [h5,bne_f (by rfl),yaa,chk,if_pos ⟨by omega,by omega,by omega,by omega,h5⟩]
         · rw [bne_t (by omega),yab,chk,if_neg (fun h=>h5 h.2.2.2.2)]
theorem yuF {a b c d:Int} (ha:I64 a) (hb:I64 b) (hc:I64 c) (hd:I64 d) (K:Int→Prop):yd9 a b c d K=K (chk2 a b c d):=by
 unfold yd9 yqv
 rw [ynZ ha hb,ynZ ha hb,ynZ hc hd,chk2]
 by_cases h:chk a b=0
 · rw [bne_f h,yaa,if_pos h]
 · rw [bne_t h,yab,if_neg h]
theorem or32 {m s:Int} (_:0≤m) (hs:0≤s∧s<4294967296):IntKind.u64.wrap (BitVec.ofInt IntKind.u64.bits (IntKind.u64.wrap (m*4294967296))|||BitVec.ofInt IntKind.u64.bits s).toNat=m % 4294967296*4294967296+s:=by
 have e:IntKind.u64.wrap (m*4294967296)=m % 4294967296*2 ^ 32:=by rw [wu64'];omega
 rw [e,or_eq (k:=32) (by omega) ⟨hs.1,by omega⟩ ⟨by omega,by omega⟩ (by omega)]
 omega
theorem yJt {a b:Int} (ha:U64 a) (hb:U64 b) (K:Int→Int→Prop):ydo a b K=K (a*b / 18446744073709551616) (a*b % 18446744073709551616):=by
 unfold ydo yoJ
 simp only [fdiv32]
 rw [mask32 ha,mask32 hb]
 unfold U64 at ha hb
 have ha':=ha;have hb':=hb
 obtain ⟨x1,hx1⟩:∃ x,x=a / 4294967296:=⟨_,rfl⟩
 obtain ⟨x0,hx0⟩:∃ x,x=a % 4294967296:=⟨_,rfl⟩
 obtain ⟨y1,hy1⟩:∃ x,x=b / 4294967296:=⟨_,rfl⟩
 obtain ⟨y0,hy0⟩:∃ x,x=b % 4294967296:=⟨_,rfl⟩
 rw [← hx1,← hx0,← hy1,← hy0]
 have b1:0≤x1∧x1≤4294967295:=by omega
 have b2:0≤x0∧x0≤4294967295:=by omega
 have b3:0≤y1∧y1≤4294967295:=by omega
 have b4:0≤y0∧y0≤4294967295:=by omega
 have pb:∀ x y:Int,0≤x∧x≤4294967295→0≤y∧y≤4294967295→0≤x*y∧x*y≤18446744065119617025:=by
   intro x y hx hy
   refine ⟨Int.mul_nonneg hx.1 hy.1,?_⟩
   have:=Int.mul_le_mul hx.2 hy.2 hy.1 (by omega:(0:Int)≤4294967295)
   omega
 have p1:=pb x1 y1 b1 b3
 have p2:=pb x1 y0 b1 b4
 have p3:=pb x0 y1 b2 b3
 have p4:=pb x0 y0 b2 b4
 have ea:a=x1*4294967296+x0:=by omega
 have eb:b=y1*4294967296+y0:=by omega
 have eab:a*b=x1*y1*18446744073709551616+x1*y0*4294967296+x0*y1*4294967296+x0*y0:=by
   rw [ea,eb];grind
 obtain ⟨P,hP⟩:∃ x,x=x1*y1:=⟨_,rfl⟩
 obtain ⟨Q,hQ⟩:∃ x,x=x1*y0:=⟨_,rfl⟩
 obtain ⟨R,hR⟩:∃ x,x=x0*y1:=⟨_,rfl⟩
 obtain ⟨S,hS⟩:∃ x,x=x0*y0:=⟨_,rfl⟩
 rw [← hP] at p1;rw [← hQ] at p2;rw [← hR] at p3;rw [← hS] at p4
 rw [← hP,← hQ,← hR,← hS] at eab ⊢
 have w1:IntKind.u64.wrap S=S:=wu64 ⟨by omega,by omega⟩
 have w2:IntKind.u64.wrap Q=Q:=wu64 ⟨by omega,by omega⟩
 have w3:IntKind.u64.wrap R=R:=wu64 ⟨by omega,by omega⟩
 have w4:IntKind.u64.wrap P=P:=wu64 ⟨by omega,by omega⟩
 rw [w1,w2,w3,w4,mask32 (p:=Q) ⟨by omega,by omega⟩,mask32 (p:=S) ⟨by omega,by omega⟩]
 have w5:IntKind.u64.wrap (Q % 4294967296+R)=Q % 4294967296+R:=wu64 ⟨by omega,by omega⟩
 rw [w5]
 have w6:IntKind.u64.wrap (Q % 4294967296+R+S / 4294967296)=Q % 4294967296+R+S / 4294967296:=wu64 ⟨by omega,by omega⟩
 rw [w6,or32 (by omega) ⟨by omega,by omega⟩]
 have hab:a*b≤18446744073709551615*18446744073709551615:=Int.mul_le_mul ha'.2 hb'.2 hb'.1 (by omega:(0:Int)≤18446744073709551615)
 rw [eab] at hab ⊢
 have w7:IntKind.u64.wrap (P+Q / 4294967296)=P+Q / 4294967296:=wu64 ⟨by omega,by omega⟩
 rw [w7,wu64 ⟨by omega,by omega⟩]
 congr 1 <;> omega
theorem yCe {X Y:Int} (hx:0≤X) (hy:0≤Y) (hs:X+Y<340282366920938463463374607431768211456) (K:Int→Int→Prop) :
   yde (X / 18446744073709551616) (X % 18446744073709551616) (Y / 18446744073709551616) (Y % 18446744073709551616) K=K ((X+Y) / 18446744073709551616) ((X+Y) % 18446744073709551616):=by
 unfold yde yqw
 rw [wu64',wu64',wu64']
 by_cases h:(X % 18446744073709551616+Y % 18446744073709551616) % 18446744073709551616<X % 18446744073709551616
 · rw [decide_eq_true h,yab]
   congr 1 <;> omega
 · rw [decide_eq_false h,yaa]
   congr 1 <;> omega
theorem yD5 {X Y:Int} (hy:0≤Y) (hs:Y≤X) (hx:X<340282366920938463463374607431768211456) (K:Int→Int→Prop) :
   ygB (X / 18446744073709551616) (X % 18446744073709551616) (Y / 18446744073709551616) (Y % 18446744073709551616) K=K ((X-Y) / 18446744073709551616) ((X-Y) % 18446744073709551616):=by
 unfold ygB yk6
 rw [wu64',wu64',wu64']
 by_cases h:X % 18446744073709551616<Y % 18446744073709551616
 · rw [decide_eq_true h,yab]
   congr 1 <;> omega
 · rw [decide_eq_false h,yaa]
   congr 1 <;> omega
theorem yuG {X Y:Int} (_:0≤X) (_:0≤Y) (K:Bool→Prop) :
   yhQ (X / 18446744073709551616) (X % 18446744073709551616) (Y / 18446744073709551616) (Y % 18446744073709551616) K=K (decide (X<Y)):=by
 unfold yhQ yqt
 by_cases h:X / 18446744073709551616<Y / 18446744073709551616
 · rw [decide_eq_true h,yab,decide_eq_true (by omega)]
 · rw [decide_eq_false h,yaa]
   by_cases h2:X / 18446744073709551616=Y / 18446744073709551616
   · rw [beq_t h2,yab]
     congr 1
     rw [decide_eq_decide];omega
   · rw [beq_f h2,yaa,decide_eq_false (by omega)]
theorem and63 {i:Int} (h:0≤i∧i≤127):IntKind.i64.wrap (BitVec.ofInt IntKind.i64.bits i&&&BitVec.ofInt IntKind.i64.bits (63:Int)).toNat=i % 64:=by
 have e1:(BitVec.ofInt 64 i).toNat=i.toNat:=by
   rw [BitVec.toNat_ofInt];omega
 have e2:(BitVec.ofInt 64 (63:Int)).toNat=63:=rfl
 have e3:(BitVec.ofInt IntKind.i64.bits i&&&BitVec.ofInt IntKind.i64.bits (63:Int)).toNat=i.toNat % 64:=by
   show (BitVec.ofInt 64 i&&&BitVec.ofInt 64 (63:Int)).toNat=_
   rw [BitVec.toNat_and,e1,e2]
   exact Nat.and_two_pow_sub_one_eq_mod i.toNat 6
 rw [e3,wi64 ⟨by omega,by omega⟩]
 omega
theorem and1 {p:Int} (h:U64 p):IntKind.u64.wrap (BitVec.ofInt IntKind.u64.bits p&&&BitVec.ofInt IntKind.u64.bits (1:Int)).toNat=p % 2:=by
 unfold U64 at h
 have e1:(BitVec.ofInt 64 p).toNat=p.toNat:=by
   rw [BitVec.toNat_ofInt];omega
 have e2:(BitVec.ofInt 64 (1:Int)).toNat=1:=rfl
 have e3:(BitVec.ofInt IntKind.u64.bits p&&&BitVec.ofInt IntKind.u64.bits (1:Int)).toNat=p.toNat % 2:=by
   show (BitVec.ofInt 64 p&&&BitVec.ofInt 64 (1:Int)).toNat=_
   rw [BitVec.toNat_and,e1,e2]
   exact Nat.and_two_pow_sub_one_eq_mod p.toNat 1
 rw [e3,wu64']
 omega
theorem or1 {m s:Int} (hm:0≤m∧m≤9223372036854775807) (hs:0≤s∧s<2):IntKind.u64.wrap (BitVec.ofInt IntKind.u64.bits (m*2)|||BitVec.ofInt IntKind.u64.bits s).toNat=m*2+s:=by
 have:=or_eq (a:=m) (b:=s) (k:=1) hm.1 ⟨hs.1,by omega⟩ ⟨by omega,by omega⟩ (by omega)
 simpa using this
theorem yqG (i:Nat):(2:Int) ^ i=((2 ^ i:Nat):Int):=by rw [Int.natCast_pow];rfl
theorem yK8 {W:Nat} (hW:W=2 ^ 64) {A:Int} (hA:0≤A) {i:Nat} (hi:i<64):A % (W:Int) / (2 ^ i:Int) % ((2:Nat):Int)=A / (2 ^ i:Int) % ((2:Nat):Int):=by
 obtain ⟨a,rfl⟩:∃ a:Nat,A=a:=⟨A.toNat,by omega⟩
 have:(a % W / 2 ^ i % 2:Nat)=a / 2 ^ i % 2:=by
   have e:W=2 ^ i*2 ^ (64-i):=by rw [← Nat.pow_add];rw [show i+(64-i)=64 by omega,hW]
   rw [e,Nat.mod_mul_right_div_self]
   have e2:2 ^ (64-i)=2*2 ^ (63-i):=by rw [show 64-i=(63-i)+1 by omega,Nat.pow_succ,Nat.mul_comm]
   rw [e2,Nat.mod_mul_right_mod]
 rw [yqG,← Int.natCast_emod,← Int.natCast_ediv,← Int.natCast_emod,← Int.natCast_ediv,← Int.natCast_emod,this]
theorem yMw {A:Int} (hA:0≤A) {i:Nat} (hi:i<64):A % 18446744073709551616 / (2 ^ i:Int) % 2=A / (2 ^ i:Int) % 2:=yK8 (W:=18446744073709551616) rfl hA hi
theorem yK9 {W:Nat} (hW:W=2 ^ 64) {A:Int} (hA:0≤A) {i:Nat} (hi:64≤i):A / (W:Int) / (2 ^ (i-64):Int)=A / (2 ^ i:Int):=by
 obtain ⟨a,rfl⟩:∃ a:Nat,A=a:=⟨A.toNat,by omega⟩
 have:(a / W / 2 ^ (i-64):Nat)=a / 2 ^ i:=by
   have e:(2 ^ i:Nat)=W*2 ^ (i-64):=by
     rw [hW,← Nat.pow_add,show 64+(i-64)=i by omega]
   rw [e,Nat.div_div_eq_div_mul]
 rw [yqG,yqG,← Int.natCast_ediv,← Int.natCast_ediv,← Int.natCast_ediv,this]
theorem yMx {A:Int} (hA:0≤A) {i:Nat} (hi:64≤i):A / 18446744073709551616 / (2 ^ (i-64):Int)=A / (2 ^ i:Int):=yK9 (W:=18446744073709551616) rfl hA hi
theorem yJu {d B q r b:Int} (hd:0<d) (hq:B / d=q) (hr:B % d=r) (hb:0≤b∧b≤1) :
   (2*B+b) / d=(if 2*r+b≥d then 2*q+1 else 2*q)∧(2*B+b) % d=(if 2*r+b≥d then 2*r+b-d else 2*r+b):=by
 have h1:=Int.mul_ediv_add_emod B d
 have h2:=Int.emod_nonneg B (show d≠0 by omega)
 have h3:=Int.emod_lt_of_pos B hd
 rw [hq,hr] at h1
 rw [hr] at h2 h3
 split
 · refine (Int.ediv_emod_unique hd).2 ⟨?_,by omega,by omega⟩
   grind
 · refine (Int.ediv_emod_unique hd).2 ⟨?_,by omega,by omega⟩
   grind
end Go.Pf.Vc
namespace Go.Pf.Vc
open Go Go.Pf
theorem yF0 {A d:Int} (hA:0≤A∧A<340282366920938463463374607431768211456) (hd:0<d∧d<9223372036854775808) {x0:Int→Int→Int→Int→Int→Int→Int→Int→Int→Bool→Prop}
   (k0:x0 d (A / 18446744073709551616) (A % 18446744073709551616) 0 0 (A / d / 18446744073709551616) (A / d % 18446744073709551616) (A % d) (-1) false) :
   ∀ (k n:Nat),k≤128→k<n→ya5 yde x0 n d (A / 18446744073709551616) (A % 18446744073709551616) 0 0
     (A / 2 ^ k / d / 18446744073709551616) (A / 2 ^ k / d % 18446744073709551616) (A / 2 ^ k % d) ((k:Int)-1):=by
 intro k
 induction k with
 | zero =>
   intro n _ hn
   match n,hn with
   | n+1,_ =>
     unfold ya5
     rw [decide_eq_false (by omega),yaa]
     have e:A / 2 ^ 0=A:=by rw [Int.pow_zero,Int.ediv_one]
     rw [e]
     exact k0
 | succ k ih =>
   intro n hk hn
   match n,hn with
   | n+1,hn =>
     unfold ya5
     have e8:((k+1:Nat):Int)-1=(k:Int):=by omega
     rw [e8,decide_eq_true (by omega),yab]
     rw [and63 (i:=(k:Int)) ⟨by omega,by omega⟩]
     have en:(!decide ((k:Int) % 64<0))=true:=by rw [decide_eq_false (by omega)];rfl
     have em:min ((k:Int) % 64).toNat IntKind.u64.bits=k % 64:=by show min _ 64=_;omega
     rw [en,yat,yat,em]
     have pp:∀ m:Nat,(0:Int)≤2 ^ m:=fun m=>by rw [yqG];exact Int.natCast_nonneg _
     have p1:∀ m:Nat,(0:Int)<2 ^ m:=fun m=>by rw [yqG];exact Int.natCast_pos.2 (Nat.two_pow_pos m)
     simp only [fdivn _ _ (pp _)]
     have hC0:0≤A / 2 ^ k:=Int.ediv_nonneg hA.1 (pp _)
     have hCA:A / 2 ^ k≤A:=Int.ediv_le_self _ hA.1
     have hBC:A / 2 ^ (k+1)=A / 2 ^ k / 2:=by
       rw [Int.pow_succ,Int.ediv_ediv_of_nonneg (pp k)]
     obtain ⟨C,hC⟩:∃ C,C=A / 2 ^ k:=⟨_,rfl⟩
     have ih2:=ih n (by omega) (by omega)
     rw [← hC] at hC0 hCA hBC ih2
     rw [hBC]
     obtain ⟨b,hb⟩:∃ b,b=C % 2:=⟨_,rfl⟩
     have hCb:C=2*(C / 2)+b:=by omega
     obtain ⟨s1,s2⟩:=yJu (B:=C / 2) (b:=b) hd.1 rfl rfl ⟨by omega,by omega⟩
     rw [← hCb] at s1 s2
     have r0:=Int.emod_nonneg (C / 2) (show d≠0 by omega)
     have r1:=Int.emod_lt_of_pos (C / 2) hd.1
     have q0:0≤C / 2 / d:=Int.ediv_nonneg (by omega) (by omega)
     have q1:C / 2 / d≤C / 2:=Int.ediv_le_self _ (by omega)
     rw [s1,s2] at ih2
     obtain ⟨q,hq⟩:∃ q,q=C / 2 / d:=⟨_,rfl⟩
     obtain ⟨r,hr⟩:∃ r,r=C / 2 % d:=⟨_,rfl⟩
     rw [← hq,← hr] at ih2
     rw [← hq] at q0 q1
     rw [← hr] at r0 r1
     rw [← hq,← hr]
     have e2:IntKind.u64.wrap (r*2)=r*2:=wu64 ⟨by omega,by omega⟩
     rw [e2,wi64 (n:=(k:Int)-1) ⟨by omega,by omega⟩]
     rw [yCe q0 q0 (by omega),yCe q0 q0 (by omega)]
     have hlo:0≤A % 18446744073709551616 / 2 ^ (k % 64)∧A % 18446744073709551616 / 2 ^ (k % 64)≤18446744073709551615:=by
       refine ⟨Int.ediv_nonneg (by omega) (pp _),?_⟩
       have:=Int.ediv_le_self (a:=A % 18446744073709551616) (2 ^ (k % 64)) (by omega)
       omega
     have hhi:0≤A / 18446744073709551616 / 2 ^ (k % 64)∧A / 18446744073709551616 / 2 ^ (k % 64)≤18446744073709551615:=by
       refine ⟨Int.ediv_nonneg (by omega) (pp _),?_⟩
       have:=Int.ediv_le_self (a:=A / 18446744073709551616) (2 ^ (k % 64)) (by omega)
       omega
     rw [and1 hlo,and1 hhi]
     have go:∀ bb:Int,bb=b→cbr (decide (IntKind.u64.wrap (BitVec.ofInt IntKind.u64.bits (r*2)|||BitVec.ofInt IntKind.u64.bits bb).toNat≥d))
         (ya5 yde x0 n d (A / 18446744073709551616) (A % 18446744073709551616) 0 0 ((q+q) / 18446744073709551616) (IntKind.u64.wrap (BitVec.ofInt IntKind.u64.bits ((q+q) % 18446744073709551616)|||BitVec.ofInt IntKind.u64.bits (1:Int)).toNat) (IntKind.u64.wrap ((IntKind.u64.wrap (BitVec.ofInt IntKind.u64.bits (r*2)|||BitVec.ofInt IntKind.u64.bits bb).toNat)-d)) ((k:Int)-1))
         (ya5 yde x0 n d (A / 18446744073709551616) (A % 18446744073709551616) 0 0 ((q+q) / 18446744073709551616) ((q+q) % 18446744073709551616) (IntKind.u64.wrap (BitVec.ofInt IntKind.u64.bits (r*2)|||BitVec.ofInt IntKind.u64.bits bb).toNat) ((k:Int)-1)):=by
       intro bb hbb
       rw [hbb,or1 ⟨r0,by omega⟩ ⟨by omega,by omega⟩]
       by_cases hge:2*r+b≥d
       · rw [if_pos hge,if_pos hge] at ih2
         rw [decide_eq_true (show r*2+b≥d by omega),yab,wu64 (n:=r*2+b-d) ⟨by omega,by omega⟩]
         have e3:(q+q) % 18446744073709551616=((q % 9223372036854775808)*2):=by omega
         rw [e3,or1 ⟨by omega,by omega⟩ ⟨by omega,by omega⟩]
         have e4:(q+q) / 18446744073709551616=(2*q+1) / 18446744073709551616:=by omega
         have e5:q % 9223372036854775808*2+1=(2*q+1) % 18446744073709551616:=by omega
         rw [e4,e5,show r*2+b-d=2*r+b-d by omega]
         exact ih2
       · rw [if_neg hge,if_neg hge] at ih2
         rw [decide_eq_false (show ¬r*2+b≥d by omega),yaa,show q+q=2*q by omega,show r*2+b=2*r+b by omega]
         exact ih2
     by_cases h64:(k:Int)≥64
     · rw [decide_eq_true h64,yab]
       refine go _ ?_
       rw [show k % 64=k-64 by omega,yMx hA.1 (by omega),← hC,hb]
     · rw [decide_eq_false h64,yaa]
       refine go _ ?_
       rw [show k % 64=k by omega,yMw hA.1 (by omega),← hC,hb]
theorem yJv {A d:Int} (hA:0≤A∧A<340282366920938463463374607431768211456) (hd:0<d∧d<9223372036854775808) (K:Int→Int→Int→Prop) :
   ydX (A / 18446744073709551616) (A % 18446744073709551616) d K=K (A / d / 18446744073709551616) (A / d % 18446744073709551616) (A % d):=by
 refine yzM _ _ _ _ _ _ (fun K h=>?_) K
 unfold ydX yoM
 refine ⟨129,?_⟩
 have e:=yF0 (x0:=fun yi4 yi5 yi6 yi7 yi8 yi9 yi10 yi11 yi12 yb13=>K yi9 yi10 yi11) hA hd h 128 129 (by omega) (by omega)
 have z:A / 2 ^ 128=0:=Int.ediv_eq_zero_of_lt hA.1 hA.2
 rw [z,Int.zero_ediv,Int.zero_emod] at e
 exact e
theorem yG0 {s:Bool} {X Y:Int} (hx:0≤X) (hy:0≤Y) (K:Int→Int→Int→Prop) :
   ygC s (X / 18446744073709551616) (X % 18446744073709551616) (Y / 18446744073709551616) (Y % 18446744073709551616) K=outS s X Y K:=by
 unfold ygC yqx outS
 by_cases h:X≤1000000000000000000∧Y≤1000000000000000000
 · have e1:IntKind.i64.wrap (X % 18446744073709551616)=X:=by rw [show X % 18446744073709551616=X by omega,wi64 ⟨by omega,by omega⟩]
   have e2:IntKind.i64.wrap (Y % 18446744073709551616)=Y:=by rw [show Y % 18446744073709551616=Y by omega,wi64 ⟨by omega,by omega⟩]
   rw [if_pos h,decide_eq_false (by omega),yaa,decide_eq_false (by omega),yaa,decide_eq_false (by omega),yaa,decide_eq_false (by omega),yaa,e1,e2]
   cases s
   · rw [yaa];rfl
   · rw [yab,wi64 ⟨by omega,by omega⟩,Int.zero_sub];rfl
 · rw [if_neg h]
   by_cases h1:X / 18446744073709551616>0
   · rw [decide_eq_true h1,yab]
   · rw [decide_eq_false h1,yaa]
     by_cases h2:Y / 18446744073709551616>0
     · rw [decide_eq_true h2,yab]
     · rw [decide_eq_false h2,yaa]
       by_cases h3:X % 18446744073709551616>1000000000000000000
       · rw [decide_eq_true h3,yab]
       · rw [decide_eq_false h3,yaa,decide_eq_true (by omega),yab]
end Go.Pf.Vc
namespace Go.Pf.Vc
open Go Go.Pf
theorem yvG {g:Int} (h:g≠0) {P:Prop}:asr (!(decide (g=(0:Int)))) P=P:=by
 rw [decide_eq_false h];rfl
theorem wuN {n:Nat} (h:(n:Int)≤18446744073709551615):IntKind.u64.wrap (n:Int)=n:=wu64 ⟨by omega,h⟩
theorem tdivN (a b:Nat):Int.tdiv (a:Int) (b:Int)=((a / b:Nat):Int):=by
 rw [Int.tdiv_eq_ediv_of_nonneg (by omega),Int.natCast_ediv]
theorem yAB {A d:Nat} (hA:A<340282366920938463463374607431768211456) (hd:0<d∧d<9223372036854775808) (K:Int→Int→Int→Prop) :
   ydX ((A:Int) / 18446744073709551616) ((A:Int) % 18446744073709551616) d K=K (((A / d:Nat):Int) / 18446744073709551616) (((A / d:Nat):Int) % 18446744073709551616) ((A % d:Nat):Int):=by
 rw [yJv ⟨by omega,by omega⟩ ⟨by omega,by omega⟩,Int.natCast_ediv,Int.natCast_emod]
theorem yjY {a b:Nat} (ha:a≤18446744073709551615) (hb:b≤18446744073709551615) (K:Int→Int→Prop) :
   ydo (a:Int) (b:Int) K=K (((a*b:Nat):Int) / 18446744073709551616) (((a*b:Nat):Int) % 18446744073709551616):=by
 rw [yJt ⟨by omega,by omega⟩ ⟨by omega,by omega⟩,Int.natCast_mul]
theorem yH5 {a b c d:Int} {K:Int→Int→Prop} {Z:Prop} (h:∀ u v,K u v=Z):ygB a b c d K=Z:=by
 unfold ygB yk6
 simp only [h]
 by_cases e:b<d
 · rw [decide_eq_true e,yab]
 · rw [decide_eq_false e,yaa]
theorem yLa {s:Bool} {Z p1 p3 g:Nat} (hZ:Z<340282366920938463463374607431768211456) (hg:0<g) (g1:g≤1000000000000000000) (h1:p1≤1000000000000000000) (h3:p3≤1000000000000000000) (K:Int→Int→Int→Prop) :
   cbr (((Z:Int) / 18446744073709551616 ==(0:Int))&&(((Z:Int) % 18446744073709551616 ==(0:Int))&&true)) (K 0 1 0)
     (ydX ((Z:Int) / 18446744073709551616) ((Z:Int) % 18446744073709551616) (g:Int) (fun _ _ yi30 =>
       (ydF yi30 (g:Int) (fun yi31 =>
         (ydX ((Z:Int) / 18446744073709551616) ((Z:Int) % 18446744073709551616) yi31 (fun yi32 yi33 _ =>
           (asr (!(decide ((g:Int)=(0:Int)))) (asr (!(decide (yi31=(0:Int))))
             (ydo (IntKind.u64.wrap (Int.tdiv (IntKind.u64.wrap (p1:Int)) (g:Int))) (IntKind.u64.wrap (Int.tdiv (IntKind.u64.wrap (p3:Int)) yi31)) (fun yi35 yi36 =>
               (ygC s yi32 yi33 yi35 yi36 (fun yi37 yi38 yi39=>K yi37 yi38 yi39))))))))))))=outA s (Z:Int) p1 p3 g K:=by
 unfold outA
 by_cases h0:Z=0
 · subst h0;rfl
 · have e:(((Z:Int) / 18446744073709551616 ==(0:Int))&&(((Z:Int) % 18446744073709551616 ==(0:Int))&&true))=false:=by
     by_cases e1:(Z:Int) / 18446744073709551616=0
     · rw [beq_t e1,beq_f (by omega)];rfl
     · rw [beq_f e1];rfl
   have hg0:0<Nat.gcd Z g:=Nat.gcd_pos_of_pos_right _ hg
   have hgg:Nat.gcd Z g≤g:=Nat.gcd_le_right _ hg
   have eg:Nat.gcd (Z % g) g=Nat.gcd Z g:=by rw [Nat.gcd_comm Z g,Nat.gcd_rec g Z]
   have q1:p1 / g≤p1:=Nat.div_le_self _ _
   have q3:p3 / Nat.gcd Z g≤p3:=Nat.div_le_self _ _
   rw [e,yaa,if_neg (by omega),yAB hZ ⟨hg,by omega⟩]
   simp only [yuE,eg]
   rw [yAB hZ ⟨hg0,by omega⟩,yvG (by omega),yvG (by omega),wuN (by omega),wuN (by omega),tdivN,tdivN,wuN (by omega),wuN (by omega),yjY (by omega) (by omega)]
   rw [yG0 (Int.natCast_nonneg _) (Int.natCast_nonneg _)]
   simp only [Int.toNat_natCast]
theorem yw2 {q r:Rat} (hq:small q) (hr:small r) (K:Int→Int→Int→Prop):ycD q.num q.den r.num r.den K=fitK (q+r) K:=by
 unfold ycD ysU
 rw [yuF hq.i1 hq.i2 hr.i1 hr.i2,yfy hq hr,bne_f rfl,yaa,← yCd]
 obtain ⟨a1,a2,a3⟩:=hq
 obtain ⟨b1,b2,b3⟩:=hr
 have dq:=q.den_pos
 have dr:=r.den_pos
 have g0:0<Nat.gcd q.den r.den:=Nat.gcd_pos_of_pos_left _ dq
 have gl:Nat.gcd q.den r.den≤q.den:=Nat.gcd_le_left _ dq
 have w1:ydF (IntKind.u64.wrap (q.den:Int)) (IntKind.u64.wrap (r.den:Int))=ydF (q.den:Int) (r.den:Int):=by rw [wuN (by omega),wuN (by omega)]
 rw [w1,yuE,ylh ⟨by omega,by omega⟩,yvG (by omega)]
 show _=outA (decide (q.num*((r.den:Int) / (Nat.gcd q.den r.den:Nat))+r.num*((q.den:Int) / (Nat.gcd q.den r.den:Nat))<0)) ((q.num*((r.den:Int) / (Nat.gcd q.den r.den:Nat))+r.num*((q.den:Int) / (Nat.gcd q.den r.den:Nat))).natAbs:Int) q.den r.den (Nat.gcd q.den r.den) K
 obtain ⟨g,hg⟩:∃ g,g=Nat.gcd q.den r.den:=⟨_,rfl⟩
 rw [← hg] at g0 gl ⊢
 have q3:r.den / g≤r.den:=Nat.div_le_self _ _
 have q4:q.den / g≤q.den:=Nat.div_le_self _ _
 have t1:IntKind.u64.wrap (Int.tdiv (IntKind.u64.wrap (r.den:Int)) (g:Int))=((r.den / g:Nat):Int):=by rw [wuN (by omega),tdivN,wuN (by omega)]
 have t2:IntKind.u64.wrap (Int.tdiv (IntKind.u64.wrap (q.den:Int)) (g:Int))=((q.den / g:Nat):Int):=by rw [wuN (by omega),tdivN,wuN (by omega)]
 rw [t1,yjY (by omega) (by omega)]
 rw [ylh ⟨by omega,by omega⟩,yvG (by omega),t2,yjY (by omega) (by omega)]
 rw [← Int.natCast_ediv,← Int.natCast_ediv]
 obtain ⟨x,hx⟩:∃ x,x=r.den / g:=⟨_,rfl⟩
 obtain ⟨y,hy⟩:∃ y,y=q.den / g:=⟨_,rfl⟩
 rw [← hx] at q3 ⊢
 rw [← hy] at q4 ⊢
 have X1:q.num.natAbs*x≤1000000000000000000*1000000000000000000:=Nat.mul_le_mul (by omega) (by omega)
 have Y1:r.num.natAbs*y≤1000000000000000000*1000000000000000000:=Nat.mul_le_mul (by omega) (by omega)
 have ax:q.num*(x:Int)=if q.num<0 then -((q.num.natAbs*x:Nat):Int) else ((q.num.natAbs*x:Nat):Int):=by
   rw [Int.natCast_mul]
   split
   · rw [show ((q.num.natAbs:Nat):Int)=-q.num by omega,Int.neg_mul,Int.neg_neg]
   · rw [show ((q.num.natAbs:Nat):Int)=q.num by omega]
 have cy:r.num*(y:Int)=if r.num<0 then -((r.num.natAbs*y:Nat):Int) else ((r.num.natAbs*y:Nat):Int):=by
   rw [Int.natCast_mul]
   split
   · rw [show ((r.num.natAbs:Nat):Int)=-r.num by omega,Int.neg_mul,Int.neg_neg]
   · rw [show ((r.num.natAbs:Nat):Int)=r.num by omega]
 rw [ax,cy]
 obtain ⟨X,hX⟩:∃ X,X=q.num.natAbs*x:=⟨_,rfl⟩
 obtain ⟨Y,hY⟩:∃ Y,Y=r.num.natAbs*y:=⟨_,rfl⟩
 rw [← hX] at X1 ⊢
 rw [← hY] at Y1 ⊢
 rw [yCe (by omega) (by omega) (by omega)]
 have fin:=fun (s:Bool) (Z:Nat) (hZ:Z<340282366920938463463374607431768211456)=>yLa (s:=s) (Z:=Z) (p1:=q.den) (p3:=r.den) (g:=g) hZ g0 (by omega) (by omega) (by omega) K
 simp only [t2,← hy] at fin
 have cong:∀ (s s':Bool) (Z Z':Int),Z=Z'→(Z≠0→s=s')→outA s Z q.den r.den g K=outA s' Z' q.den r.den g K:=by
   intro s s' Z Z' h1 h2
   subst h1
   by_cases h:Z=0
   · unfold outA;rw [if_pos h,if_pos h]
   · rw [h2 h]
 by_cases hs:decide (q.num<0)=decide (r.num<0)
 · have e:(decide (q.num<0) != decide (r.num<0))=false:=by rw [hs];simp
   rw [e,yaa,show (X:Int)+Y=((X+Y:Nat):Int) by omega]
   rw [fin (decide (q.num<0)) (X+Y) (by omega)]
   refine cong _ _ _ _ ?_ ?_
   · by_cases h1:q.num<0
     · have h2:r.num<0:=by simpa [h1] using hs.symm
       rw [if_pos h1,if_pos h2];omega
     · have h2:¬r.num<0:=by simpa [h1] using hs.symm
       rw [if_neg h1,if_neg h2];omega
   · intro h0
     by_cases h1:q.num<0
     · have h2:r.num<0:=by simpa [h1] using hs.symm
       rw [if_pos h1,if_pos h2,decide_eq_true h1,decide_eq_true (by omega)]
     · have h2:¬r.num<0:=by simpa [h1] using hs.symm
       rw [if_neg h1,if_neg h2,decide_eq_false h1,decide_eq_false (by omega)]
 · have e:(decide (q.num<0) != decide (r.num<0))=true:=by simpa using hs
   have h12:(q.num<0∧¬r.num<0)∨(¬q.num<0∧r.num<0):=by
     by_cases h1:q.num<0 <;> by_cases h2:r.num<0 <;> simp [h1,h2] at hs ⊢
   rw [e,yab]
   by_cases hlt:X<Y
   · refine yH5 (fun u v=>?_)
     rw [yuG (by omega) (by omega),decide_eq_true (by omega),yab,yD5 (by omega) (by omega) (by omega)]
     have ez:(Y:Int)-X=((Y-X:Nat):Int):=by omega
     rw [ez]
     rw [fin (decide (r.num<0)) (Y-X) (by omega)]
     refine cong _ _ _ _ ?_ ?_
     · rcases h12 with ⟨h1,h2⟩ | ⟨h1,h2⟩
       · rw [if_pos h1,if_neg h2];omega
       · rw [if_neg h1,if_pos h2];omega
     · intro h0
       rcases h12 with ⟨h1,h2⟩ | ⟨h1,h2⟩
       · rw [if_pos h1,if_neg h2,decide_eq_false h2,decide_eq_false (by omega)]
       · rw [if_neg h1,if_pos h2,decide_eq_true h2,decide_eq_true (by omega)]
   · rw [yD5 (by omega) (by omega) (by omega),yuG (by omega) (by omega),decide_eq_false (by omega),yaa]
     have ez:(X:Int)-Y=((X-Y:Nat):Int):=by omega
     rw [ez]
     rw [fin (decide (q.num<0)) (X-Y) (by omega)]
     refine cong _ _ _ _ ?_ ?_
     · rcases h12 with ⟨h1,h2⟩ | ⟨h1,h2⟩
       · rw [if_pos h1,if_neg h2];omega
       · rw [if_neg h1,if_pos h2];omega
     · intro h0
       rcases h12 with ⟨h1,h2⟩ | ⟨h1,h2⟩
       · rw [if_pos h1,if_neg h2,decide_eq_true h1,decide_eq_true (by omega)]
       · rw [if_neg h1,if_pos h2,decide_eq_false h1,decide_eq_false (by omega)]
theorem yLb {q:Rat} (hq:small q) (K:Int→Int→Prop):ynS q.num q.den K=K (-q).num (-q).den:=by
 unfold ynS ysR
 obtain ⟨a1,a2,a3⟩:=hq
 rw [wi64 ⟨by omega,by omega⟩,Int.zero_sub];rfl
theorem small.neg {q:Rat} (hq:small q):small (-q):=by
 obtain ⟨a1,a2,a3⟩:=hq
 unfold small
 rw [Rat.neg_num,Rat.neg_den]
 omega
theorem yG1 {q r:Rat} (hq:small q) (hr:small r) (K:Int→Int→Int→Prop):ye7 q.num q.den r.num r.den K=fitK (q-r) K:=by
 unfold ye7 ysW
 rw [yuF hq.i1 hq.i2 hr.i1 hr.i2,yfy hq hr,bne_f rfl,yaa,yLb hr,yw2 hq hr.neg,Rat.sub_eq_add_neg]
theorem yG2 {q r:Rat} (hq:small q) (hr:small r) (K:Int→Int→Int→Prop):yjV q.num q.den r.num r.den K=fitK (q*r) K:=by
 unfold yjV ysX
 rw [yuF hq.i1 hq.i2 hr.i1 hr.i2,yfy hq hr,bne_f rfl,yaa]
 have hq':=hq;have hr':=hr
 obtain ⟨a1,a2,a3⟩:=hq
 obtain ⟨b1,b2,b3⟩:=hr
 have dq:=q.den_pos
 have dr:=r.den_pos
 have g0:0<Nat.gcd q.num.natAbs r.den:=Nat.gcd_pos_of_pos_right _ dr
 have h0:0<Nat.gcd r.num.natAbs q.den:=Nat.gcd_pos_of_pos_right _ dq
 rw [ylh hq'.i1,wuN (n:=r.den) (by omega),yuE,ylh hr'.i1,wuN (n:=q.den) (by omega),yuE]
 simp only [ylh hq'.i1,ylh hr'.i1]
 have q1:q.num.natAbs / Nat.gcd q.num.natAbs r.den≤q.num.natAbs:=Nat.div_le_self _ _
 have q2:r.num.natAbs / Nat.gcd r.num.natAbs q.den≤r.num.natAbs:=Nat.div_le_self _ _
 have q3:q.den / Nat.gcd r.num.natAbs q.den≤q.den:=Nat.div_le_self _ _
 have q4:r.den / Nat.gcd q.num.natAbs r.den≤r.den:=Nat.div_le_self _ _
 have e1:numM q.num r.num q.den r.den=q.num.natAbs / Nat.gcd q.num.natAbs r.den*(r.num.natAbs / Nat.gcd r.num.natAbs q.den):=rfl
 have e2:denM q.num r.num q.den r.den=q.den / Nat.gcd r.num.natAbs q.den*(r.den / Nat.gcd q.num.natAbs r.den):=rfl
 have z1:q.num=0→numM q.num r.num q.den r.den=0:=fun h=>by rw [e1,h,Int.natAbs_zero,Nat.zero_div,Nat.zero_mul]
 have z2:r.num=0→numM q.num r.num q.den r.den=0:=fun h=>by rw [e1,h,Int.natAbs_zero,Nat.zero_div,Nat.mul_zero]
 have n1:∀ P:Prop,asr (!(decide (((Nat.gcd q.num.natAbs r.den:Nat):Int)=(0:Int)))) P=P:=fun P=>yvG (by omega)
 have n2:∀ P:Prop,asr (!(decide (((Nat.gcd r.num.natAbs q.den:Nat):Int)=(0:Int)))) P=P:=fun P=>yvG (by omega)
 have w1:=wuN (n:=q.num.natAbs / Nat.gcd q.num.natAbs r.den) (by omega)
 have w2:=wuN (n:=r.num.natAbs / Nat.gcd r.num.natAbs q.den) (by omega)
 have w3:=wuN (n:=q.den / Nat.gcd r.num.natAbs q.den) (by omega)
 have w4:=wuN (n:=r.den / Nat.gcd q.num.natAbs r.den) (by omega)
 have t1:=yjY (a:=q.num.natAbs / Nat.gcd q.num.natAbs r.den) (b:=r.num.natAbs / Nat.gcd r.num.natAbs q.den) (by omega) (by omega)
 have t2:=yjY (a:=q.den / Nat.gcd r.num.natAbs q.den) (b:=r.den / Nat.gcd q.num.natAbs r.den) (by omega) (by omega)
 have m:=fun s=>yG0 (s:=s) (X:=((numM q.num r.num q.den r.den:Nat):Int)) (Y:=((denM q.num r.num q.den r.den:Nat):Int)) (Int.natCast_nonneg _) (Int.natCast_nonneg _) K
 rw [← e1] at t1
 rw [← e2] at t2
 simp only [n1,n2,tdivN,w1,w2,w3,w4,t1,t2,m]
 rw [← yCb]
 have zs:∀ s s':Bool,numM q.num r.num q.den r.den=0→outS s (numM q.num r.num q.den r.den:Nat) (denM q.num r.num q.den r.den:Nat) K=outS s' (numM q.num r.num q.den r.den:Nat) (denM q.num r.num q.den r.den:Nat) K:=by
   intro s s' h
   rw [h]
   cases s <;> cases s' <;> rfl
 by_cases hs:(decide (q.num<0) != decide (r.num<0))=true
 · rw [hs,yab]
   by_cases n1:q.num=0
   · rw [bne_f n1,yaa];exact zs _ _ (z1 n1)
   · rw [bne_t n1,yab]
     by_cases n2:r.num=0
     · exact zs _ _ (z2 n2)
     · rw [bne_t n2]
 · have hs':(decide (q.num<0) != decide (r.num<0))=false:=by simpa using hs
   rw [hs',yaa]
theorem yLc {q r:Rat} (hq:small q) (hr:small r) (h0:r≠0) (K:Int→Int→Int→Prop):ygT q.num q.den r.num r.den K=fitK (q / r) K:=by
 unfold ygT ysY
 have hn:r.num≠0:=fun e=>h0 (Rat.num_eq_zero.1 e)
 rw [yuF hq.i1 hq.i2 hr.i1 hr.i2,yfy hq hr,bne_f rfl,yaa,beq_f hn,yaa]
 obtain ⟨e1,e2⟩:=yvF h0
 have m:=yG2 hq (hr.inv h0) K
 rw [e1,e2] at m
 obtain ⟨b1,b2,b3⟩:=hr
 rw [Rat.div_def,← m]
 by_cases h:r.num<0
 · rw [decide_eq_true h,yab,if_pos h,wi64 (n:=(0:Int)-r.den) ⟨by omega,by omega⟩,wi64 (n:=(0:Int)-r.num) ⟨by omega,by omega⟩]
   rw [show (0:Int)-r.den=-(r.den:Int) by omega,show (0:Int)-r.num=((r.num.natAbs:Nat):Int) by omega]
 · rw [decide_eq_false h,yaa,if_neg h,show ((r.num.natAbs:Nat):Int)=r.num by omega]
theorem ymt {q r:Rat} (hq:small q) (hr:small r) (K:Bool→Prop):yaW q.num q.den r.num r.den K=K (decide (q<r)):=by
 unfold yaW yqu
 have hq':=hq;have hr':=hr
 obtain ⟨a1,a2,a3⟩:=hq
 obtain ⟨b1,b2,b3⟩:=hr
 have dq:=q.den_pos
 have dr:=r.den_pos
 have e:decide (q<r)=decide (q.num*r.den<r.num*q.den):=by rw [decide_eq_decide];exact Rat.lt_iff q r
 rw [e]
 by_cases hs:(decide (q.num<0) != decide (r.num<0))=true
 · rw [hs,yab]
   by_cases h1:q.num<0
   · have h2:¬r.num<0:=by simpa [h1] using hs
     have p1:q.num*r.den<0:=Int.mul_neg_of_neg_of_pos h1 (by omega)
     have p2:0≤r.num*q.den:=Int.mul_nonneg (by omega) (by omega)
     rw [decide_eq_true h1,decide_eq_true (by omega)]
   · have h2:r.num<0:=by simpa [h1] using hs
     have p1:r.num*q.den<0:=Int.mul_neg_of_neg_of_pos h2 (by omega)
     have p2:0≤q.num*r.den:=Int.mul_nonneg (by omega) (by omega)
     rw [decide_eq_false h1,decide_eq_false (by omega)]
 · have hs':(decide (q.num<0) != decide (r.num<0))=false:=by simpa using hs
   rw [hs',yaa,ylh hq'.i1,wuN (by omega),yjY (by omega) (by omega),ylh hr'.i1,wuN (by omega),yjY (by omega) (by omega),yuG (Int.natCast_nonneg _) (Int.natCast_nonneg _),yuG (Int.natCast_nonneg _) (Int.natCast_nonneg _),Int.natCast_mul,Int.natCast_mul]
   by_cases h1:q.num<0
   · have h2:r.num<0:=by simpa [h1] using hs'
     rw [decide_eq_true h1,yab,show ((q.num.natAbs:Nat):Int)=-q.num by omega,show ((r.num.natAbs:Nat):Int)=-r.num by omega,Int.neg_mul,Int.neg_mul]
     congr 1
     rw [decide_eq_decide];omega
   · have h2:¬r.num<0:=by simpa [h1] using hs'
     rw [decide_eq_false h1,yaa,show ((q.num.natAbs:Nat):Int)=q.num by omega,show ((r.num.natAbs:Nat):Int)=r.num by omega]
theorem yvH (n:Int) (K:Int→Int→Prop):yfI n K=K (n:Rat).num (n:Rat).den:=rfl
end Go.Pf.Vc
namespace Go.Pf.Vc
open Go Go.Pf
theorem cbT {c:Prop} [Decidable c] {P Q:Prop} (h:c):cbr (decide c) P Q=P:=by rw [decide_eq_true h,yab]
theorem cbF {c:Prop} [Decidable c] {P Q:Prop} (h:¬c):cbr (decide c) P Q=Q:=by rw [decide_eq_false h,yaa]
theorem cnT {a b:Int} {P Q:Prop} (h:a≠b):cbr (a != b) P Q=P:=by rw [bne_t h,yab]
theorem cnF {a b:Int} {P Q:Prop} (h:a=b):cbr (a != b) P Q=Q:=by rw [bne_f h,yaa]
theorem ceT {a b:Int} {P Q:Prop} (h:a=b):cbr (a == b) P Q=P:=by rw [beq_t h,yab]
theorem ceF {a b:Int} {P Q:Prop} (h:a≠b):cbr (a == b) P Q=Q:=by rw [beq_f h,yaa]
theorem asT {c:Prop} [Decidable c] {P:Prop} (h:c):asr (decide c) P=P:=by rw [decide_eq_true h,yat]
theorem asC {l:List Int} {i:Nat} {P:Prop} (h:i<l.length):asr (conf (.one (.i .i64)) (List.getD (ints l) i .nils)) P=P:=by rw [yjX h,yat]
theorem wib {n:Int} (h1:-9223372036854775808≤n) (h2:n≤9223372036854775807):IntKind.i64.wrap n=n:=wi64 ⟨h1,h2⟩
theorem cast1 (i:Nat):(i:Int)+1=((i+1:Nat):Int):=by omega
theorem yq2 {x:Int} (h:-1000000000000000000≤x∧x≤1000000000000000000):small (x:Rat):=by
 unfold small
 rw [Rat.num_intCast,Rat.den_intCast]
 omega
def allD (dens:List Int):Prop:=∀ d∈dens,0≤d∧d≤12
def someD (dens:List Int):Prop:=∃ d∈dens,0<d
instance (l:List Int):Decidable (allD l):=by unfold allD;infer_instance
instance (l:List Int):Decidable (someD l):=by unfold someD;infer_instance
def VC (len:Int) (cuts dens:List Int):Prop :=
 1≤len∧len≤1000∧2≤cuts.length∧cuts.length≤40∧dens.length+1=cuts.length∧cuts.getD 0 0=0∧cuts.getD (cuts.length-1) 0=len∧incr cuts 0∧allD dens∧someD dens
theorem yJw (l:List Int):incr l 0↔∀ j,j<l.length→j+1<l.length→l.getD j 0<l.getD (j+1) 0:=⟨fun h j _ h2=>h j (by omega) h2,fun h j _ h2=>h j (by omega) h2⟩
instance (l:List Int):Decidable (incr l 0):=decidable_of_iff _ (yJw l).symm
instance (len:Int) (cuts dens:List Int):Decidable (VC len cuts dens):=by unfold VC;infer_instance
def ckC (len:Int) (cuts dens:List Int):Int:=if len>1000∨cuts.length>40 then 4 else if VC len cuts dens then 0 else 8
theorem yG3 (l:List Int) (x:Int):(l.foldl mnf x<0)↔¬(∀ d∈x::l,0≤d):=by
 induction l generalizing x with
 | nil=>simp
 | cons y t ih =>
   rw [List.foldl_cons,ih]
   unfold mnf
   simp only [List.forall_mem_cons]
   split
   · constructor
     · intro h h2;exact h ⟨h2.2.1,h2.2.2⟩
     · intro h h2;exact h ⟨by omega,h2.1,h2.2⟩
   · constructor
     · intro h h2;exact h ⟨h2.1,h2.2.2⟩
     · intro h h2;exact h ⟨h2.1,by omega,h2.2⟩
theorem yuH (l:List Int) (x k:Int):(l.foldl mxf x>k)↔¬(∀ d∈x::l,d≤k):=by
 induction l generalizing x with
 | nil=>simp
 | cons y t ih =>
   rw [List.foldl_cons,ih]
   unfold mxf
   simp only [List.forall_mem_cons]
   split
   · constructor
     · intro h h2;exact h ⟨h2.2.1,h2.2.2⟩
     · intro h h2;exact h ⟨by omega,h2.1,h2.2⟩
   · constructor
     · intro h h2;exact h ⟨h2.1,h2.2.2⟩
     · intro h h2;exact h ⟨h2.1,by omega,h2.2⟩
theorem yAC {len:Int} {cuts dens:List Int} (h1:cuts.length<4611686018427387904) (h2:dens.length<4611686018427387904) (K:Int→Prop) :
   yaY len (ints cuts) (ints dens) K=K (ckC len cuts dens):=by
 refine yx3 _ _ _ _ (fun K k=>?_) K
 unfold yaY ynf
 simp only [yau]
 have bad:¬(len>1000∨cuts.length>40)→¬VC len cuts dens→K 8:=fun h h2=>by
   rw [ckC,if_neg h,if_neg h2] at k;exact k
 by_cases a1:len>1000
 · rw [cbT a1];rw [ckC,if_pos (.inl a1)] at k;exact k
 rw [cbF a1]
 by_cases a2:cuts.length>40
 · rw [cbT (by omega)];rw [ckC,if_pos (.inr a2)] at k;exact k
 have a12:¬(len>1000∨cuts.length>40):=by omega
 rw [cbF (by omega)]
 by_cases a3:len<1
 · rw [cbT a3];exact bad a12 (fun h=>by have:=h.1;omega)
 rw [cbF a3]
 by_cases a4:cuts.length<2
 · rw [cbT (by omega)];exact bad a12 (fun h=>by have:=h.2.2.1;omega)
 rw [cbF (by omega),wib (n:=(cuts.length:Int)-1) (by omega) (by omega)]
 by_cases a5:dens.length+1=cuts.length
 case neg=>rw [cnT (by omega)];exact bad a12 (fun h=>a5 h.2.2.2.2.1)
 rw [cnF (by omega),asT (by omega),asC (by omega),ycY (by omega)]
 by_cases a6:cuts.getD 0 0=0
 case neg=>rw [cnT a6];exact bad a12 (fun h=>a6 h.2.2.2.2.2.1)
 rw [cnF a6,asT (by omega),asT (by omega),asC (by omega),ycY (by omega)]
 have en:((cuts.length:Int)-1).toNat=cuts.length-1:=by omega
 rw [en]
 by_cases a7:cuts.getD (cuts.length-1) 0=len
 case neg=>rw [cnT a7];exact bad a12 (fun h=>a7 h.2.2.2.2.2.2.1)
 rw [cnF a7]
 refine ⟨cuts.length+1,?_⟩
 refine yFZ (by omega) _ _ _ _ (cuts.length-1) 0 _ (by omega) (by omega) (fun hi=>?_) (fun hi=>bad a12 (fun h=>hi h.2.2.2.2.2.2.2.1))
 obtain ⟨x,t,e⟩:∃ x t,dens=x::t:=by
   cases dens with
   | nil=>exfalso;have:([]:List Int).length=0:=rfl;omega
   | cons x t=>exact ⟨x,t,rfl⟩
 refine yMv (by omega) e ?_
 by_cases b1:t.foldl mnf x<0
 · rw [cbT b1]
   rw [yG3] at b1
   exact bad a12 (fun h=>b1 fun d hd=>(h.2.2.2.2.2.2.2.2.1 d (by rw [e];exact hd)).1)
 rw [cbF b1]
 refine yJo (by omega) e ?_
 by_cases b2:t.foldl mxf x>12
 · rw [cbT b2]
   rw [yuH] at b2
   exact bad a12 (fun h=>b2 fun d hd=>(h.2.2.2.2.2.2.2.2.1 d (by rw [e];exact hd)).2)
 rw [cbF b2]
 refine yJo (by omega) e ?_
 have c1:∀ d∈dens,0≤d:=by rw [yG3,Classical.not_not,← e] at b1;exact b1
 have c2:∀ d∈dens,d≤12:=by rw [yuH,Classical.not_not,← e] at b2;exact b2
 by_cases b3:t.foldl mxf x=0
 · rw [ceT b3]
   refine bad a12 (fun h=>?_)
   obtain ⟨d,hd,h0⟩:=h.2.2.2.2.2.2.2.2.2
   have:¬(t.foldl mxf x>0):=by omega
   rw [yuH,Classical.not_not,← e] at this
   have:=this d hd
   omega
 · rw [ceF b3]
   have b4:t.foldl mxf x>0:=by
     refine Int.not_le.1 fun hle=>b3 ?_
     have:t.foldl mxf x>-1:=by
       rw [yuH]
       intro h
       have h1:=h x (List.mem_cons_self ..)
       have h2:=c1 x (by rw [e];exact List.mem_cons_self ..)
       omega
     omega
   rw [yuH,← e] at b4
   have b5:someD dens:=by
     refine Classical.byContradiction fun hn=>b4 fun d hd=>?_
     exact Int.not_lt.1 fun hlt=>hn ⟨d,hd,hlt⟩
   rw [ckC,if_neg a12,if_pos ⟨by omega,by omega,by omega,by omega,a5,a6,a7,hi,fun d hd=>⟨c1 d hd,c2 d hd⟩,b5⟩] at k
   exact k
theorem yiU (n:Int) (K:Int→Int→Prop):ya9 n K=K (n:Rat).num (n:Rat).den:=rfl
theorem ygF {q r:Rat} (hq:small q) (hr:small r) (K:Bool→Prop):ybd q.num q.den r.num r.den K=K (decide (q<r)):=by
 unfold ybd you
 rw [yGZ hq hr]
 congr 1
 rw [decide_eq_decide,cmpQ]
 by_cases h:q<r
 · simp [h]
 · by_cases h2:r<q <;> simp [h,h2]
def PT (len:Int) (n d:Int):Prop:=RV n d∧0≤n∧n≤len*d
instance (len n d:Int):Decidable (PT len n d):=by unfold PT;infer_instance
theorem yMy {len n d:Int} (h:PT len n d):∃ q:Rat,small q∧q.num=n∧(q.den:Int)=d∧0≤q∧q≤(len:Rat):=by
 obtain ⟨h1,h2,h3⟩:=h
 obtain ⟨q,e1,e2,e3⟩:=yCa h1
 refine ⟨q,e1,e2,e3,?_,?_⟩
 · rw [← Rat.num_nonneg,e2];exact h2
 · rw [Rat.le_iff,e2,e3,Rat.num_intCast,Rat.den_intCast];simpa using h3
theorem yyA (x:Int) (q:Rat):((x:Rat)<q)↔x*(q.den:Int)<q.num:=by
 rw [Rat.lt_iff,Rat.num_intCast,Rat.den_intCast];simp
theorem yyB {len:Int} (hl:-1000000000000000000≤len∧len≤1000000000000000000) {n d:Int} (hn:I64 n) (hd:I64 d) (a b:List PV) (K:Bool→Prop) :
   ybg len a b n d K=K (decide (PT len n d)):=by
 unfold ybg ynh
 rw [ynY hn hd]
 by_cases h:RV n d
 · obtain ⟨q,e1,e2,e3⟩:=yCa h
   rw [chk,if_pos h,ceT rfl]
   by_cases h0:n≥0
   · rw [cbT h0,yiU,← e2,← e3,ygF (yq2 hl) e1]
     congr 1
     have:((len:Rat)<q)↔len*(q.den:Int)<q.num:=yyA _ _
     by_cases h3:(len:Rat)<q
     · have h4:=this.1 h3
       rw [decide_eq_true h3,decide_eq_false];rfl
       intro hp;have:=hp.2.2;omega
     · have h4:¬_:=fun x=>h3 (this.2 x)
       rw [decide_eq_false h3,decide_eq_true];rfl
       exact ⟨e1.rv,by omega,by omega⟩
   · rw [cbF h0,decide_eq_false]
     intro hp;have:=hp.2.1;omega
 · rw [chk,if_neg h,ceF (by decide),decide_eq_false]
   intro hp;exact h hp.1
end Go.Pf.Vc
namespace Go.Pf.Vc
open Go Go.Pf
section
variable {len:Int} {cuts dens:List Int}
theorem VC.step (h:VC len cuts dens) {i:Nat} (hi:i+1<cuts.length):cuts.getD i 0<cuts.getD (i+1) 0:=h.2.2.2.2.2.2.2.1 i (Nat.zero_le _) hi
theorem VC.mono (h:VC len cuts dens) {i:Nat}:∀ {j:Nat},i≤j→j<cuts.length→cuts.getD i 0≤cuts.getD j 0
 | 0,hij,_=>by
   have:i=0:=by omega
   subst this;exact Int.le_refl _
 | j+1,hij,hj=>by
   by_cases e:i=j+1
   · subst e;exact Int.le_refl _
   · have h1:=h.mono (i:=i) (j:=j) (by omega) (by omega)
     have h2:=h.step (i:=j) hj
     omega
theorem VC.lo (h:VC len cuts dens) {i:Nat} (hi:i<cuts.length):0≤cuts.getD i 0:=by
 have:=h.mono (Nat.zero_le i) hi
 rw [h.2.2.2.2.2.1] at this;exact this
theorem VC.hi (h:VC len cuts dens) {i:Nat} (hi:i<cuts.length):cuts.getD i 0≤len:=by
 have:=h.mono (i:=i) (j:=cuts.length-1) (by omega) (by omega)
 rw [h.2.2.2.2.2.2.1] at this;exact this
theorem VC.den (h:VC len cuts dens) {i:Nat} (hi:i<dens.length):0≤dens.getD i 0∧dens.getD i 0≤12:=by
 rw [List.getD_eq_getElem?_getD,List.getElem?_eq_getElem hi]
 exact h.2.2.2.2.2.2.2.2.1 _ (List.getElem_mem hi)
theorem VC.l1 (h:VC len cuts dens):dens.length+1=cuts.length:=h.2.2.2.2.1
theorem VC.l2 (h:VC len cuts dens):cuts.length≤40:=h.2.2.2.1
theorem VC.len0 (h:VC len cuts dens):1≤len∧len≤1000:=⟨h.1,h.2.1⟩
theorem VC.sc (h:VC len cuts dens) {i:Nat} (hi:i<cuts.length):small ((cuts.getD i 0:Int):Rat):=yq2 (by have:=h.lo hi;have:=h.hi hi;have:=h.len0;omega)
theorem VC.sd (h:VC len cuts dens) {i:Nat} (hi:i<dens.length):small ((dens.getD i 0:Int):Rat):=yq2 (by have:=h.den hi;omega)
theorem yqH (h:ckC len cuts dens=0):VC len cuts dens:=by
 unfold ckC at h
 split at h
 · omega
 · split at h
   · assumption
   · omega
theorem VC.ck (h:VC len cuts dens):ckC len cuts dens=0:=by
 rw [ckC,if_neg (by have:=h.l2;have:=h.len0;omega),if_pos h]
def totS (cuts dens:List Int):Nat→Nat→Int→Int
 | 0,_,s=>s
 | r+1,i,s=>totS cuts dens r (i+1) (s+dens.getD i 0*(cuts.getD (i+1) 0-cuts.getD i 0))
def totC (cuts dens:List Int):Int:=totS cuts dens dens.length 0 0
def exK (e:Except Int Rat) (K:Int→Int→Int→Prop):Prop:=match e with | .ok q=>K q.num q.den 0 | .error c=>K 0 0 c
def fit {α:Type} (q:Rat) (k:Rat→Except Int α):Except Int α:=if small q then k q else .error 16
def valS (cuts dens:List Int) (b:Rat):Nat→Nat→Rat→Rat→Except Int Rat
 | 0,_,_,sum=>.ok sum
 | r+1,i,p,sum =>
   let en:Rat:=if b<(cuts.getD (i+1) 0:Int) then b else (cuts.getD (i+1) 0:Int)
   if dens.getD i 0=0∨¬p<en then valS cuts dens b r (i+1) (if p<en then en else p) sum
   else fit (en-p) fun l=>fit (l*(dens.getD i 0:Int)) fun w=>fit (sum+w) fun s=>valS cuts dens b r (i+1) en s
def valC (cuts dens:List Int) (a b:Rat):Except Int Rat:=valS cuts dens b dens.length 0 a 0
theorem yed {q:Rat} {K:Int→Int→Int→Prop}:fitK q K=if small q then K q.num q.den 0 else K 0 0 16:=rfl
theorem yyC (h:VC len cuts dens) {b:Rat} (hb:small b) (an ad:Int) (W1:Int→List PV→List PV→(Int→Prop)→Prop) (W2:Int→List PV→List PV→Int→Int→(Bool→Prop)→Prop) (K:Int→Int→Int→Prop) :
   ∀ (r i n:Nat) (p sum:Rat),i+r=dens.length→r<n→small p→small sum →
     yaE W1 W2 ybd ya9 ya8 yaR yar (fun yi37 yi38 yi39=>(K yi37 yi38 yi39)) (fun _ _ _ _ _ _ _ yi47 yi48 _ _ _ _ _ _=>(K yi47 yi48 (0:Int)))
       n len (ints cuts) (ints dens) b.num b.den an ad sum.num sum.den p.num p.den (ints dens) dens.length i=exK (valS cuts dens b r i p sum) K
 | 0,i,n+1,p,sum,hi,hn,hp,hs=>by
   unfold yaE valS
   rw [cbF (by omega)];rfl
 | r+1,i,n+1,p,sum,hi,hn,hp,hs=>by
   unfold yaE
   have l1:=h.l1;have l2:=h.l2
   have sc:=h.sc (i:=i+1) (by omega)
   have sd:=h.sd (i:=i) (by omega)
   have e1:=wib (n:=(i:Int)+1) (by omega) (by omega)
   rw [cbT (by omega),yau,yau,e1,cast1,Int.toNat_natCast,Int.toNat_natCast,asT (by omega),asT (by omega),asC (by omega),asT (by omega),asT (by omega),asC (by omega),ycY (by omega),ycY (by omega),yiU,ygF hb sc]
   have ih:=fun p sum hp hs=>yyC h hb an ad W1 W2 K r (i+1) n p sum (by omega) (by omega) hp hs
   unfold valS
   by_cases hbc:b<((cuts.getD (i+1) 0:Int):Rat)
   · rw [cbT hbc]
     simp only [if_pos hbc]
     by_cases hd:dens.getD i 0=0
     · rw [ceT hd,if_pos (.inl hd),ygF hp hb]
       by_cases hpb:p<b
       · rw [cbT hpb,if_pos hpb];exact ih b sum hb hs
       · rw [cbF hpb,if_neg hpb];exact ih p sum hp hs
     · rw [ceF hd,ygF hp hb]
       by_cases hpb:p<b
       · have hc:¬(dens.getD i 0=0∨¬p<b):=by simp [hpb];exact hd
         rw [if_neg hc,decide_eq_true hpb,Bool.not_true,yaa,yw1 hb hp,yed]
         by_cases s1:small (b-p)
         · rw [if_pos s1,cnF rfl,yiU,yCc s1 sd,yed,fit,if_pos s1]
           by_cases s2:small ((b-p)*(dens.getD i 0:Int))
           · rw [if_pos s2,cnF rfl,yw0 hs s2,yed,fit,if_pos s2]
             by_cases s3:small (sum+(b-p)*(dens.getD i 0:Int))
             · rw [if_pos s3,cnF rfl,fit,if_pos s3];exact ih b _ hb s3
             · rw [if_neg s3,cnT (by decide),fit,if_neg s3];rfl
           · rw [if_neg s2,cnT (by decide),fit,if_neg s2];rfl
         · rw [if_neg s1,cnT (by decide),fit,if_neg s1];rfl
       · rw [if_pos (.inr hpb),decide_eq_false hpb,Bool.not_false,yab,ygF hp hb,cbF hpb,if_neg hpb];exact ih p sum hp hs
   · rw [cbF hbc]
     simp only [if_neg hbc]
     obtain ⟨c,hc⟩:∃ c:Rat,c=((cuts.getD (i+1) 0:Int):Rat):=⟨_,rfl⟩
     rw [← hc] at sc ⊢
     by_cases hd:dens.getD i 0=0
     · rw [ceT hd,if_pos (.inl hd),ygF hp sc]
       by_cases hpb:p<c
       · rw [cbT hpb,if_pos hpb];exact ih c sum sc hs
       · rw [cbF hpb,if_neg hpb];exact ih p sum hp hs
     · rw [ceF hd,ygF hp sc]
       by_cases hpb:p<c
       · have hcc:¬(dens.getD i 0=0∨¬p<c):=by simp [hpb];exact hd
         rw [if_neg hcc,decide_eq_true hpb,Bool.not_true,yaa,yw1 sc hp,yed]
         by_cases s1:small (c-p)
         · rw [if_pos s1,cnF rfl,yiU,yCc s1 sd,yed,fit,if_pos s1]
           by_cases s2:small ((c-p)*(dens.getD i 0:Int))
           · rw [if_pos s2,cnF rfl,yw0 hs s2,yed,fit,if_pos s2]
             by_cases s3:small (sum+(c-p)*(dens.getD i 0:Int))
             · rw [if_pos s3,cnF rfl,fit,if_pos s3];exact ih c _ sc s3
             · rw [if_neg s3,cnT (by decide),fit,if_neg s3];rfl
           · rw [if_neg s2,cnT (by decide),fit,if_neg s2];rfl
         · rw [if_neg s1,cnT (by decide),fit,if_neg s1];rfl
       · rw [if_pos (.inr hpb),decide_eq_false hpb,Bool.not_false,yab,ygF hp sc,cbF hpb,if_neg hpb];exact ih p sum hp hs
end
end Go.Pf.Vc
namespace Go.Pf.Vc
open Go Go.Pf
def rt (n d:Int):Rat:=mkRat n d.toNat
theorem ydT (q:Rat):rt q.num q.den=q:=by unfold rt;rw [Int.toNat_natCast,Rat.mkRat_self]
theorem rt_of {n d:Int} (h:RV n d):small (rt n d)∧(rt n d).num=n∧((rt n d).den:Int)=d:=by
 obtain ⟨q,h1,h2,h3⟩:=yCa h
 subst h2 h3
 rw [ydT];exact ⟨h1,rfl,rfl⟩
theorem PT.pt {len n d:Int} (h:PT len n d):small (rt n d)∧(rt n d).num=n∧((rt n d).den:Int)=d∧0≤rt n d∧rt n d≤(len:Rat):=by
 obtain ⟨q,h1,h2,h3,h4,h5⟩:=yMy h
 subst h2 h3
 rw [ydT];exact ⟨h1,rfl,rfl,h4,h5⟩
section
variable {len:Int} {cuts dens:List Int}
def valR (len:Int) (cuts dens:List Int) (an ad bn bd:Int):Except Int Rat :=
 if ckC len cuts dens=0 then (if PT len an ad∧PT len bn bd∧¬rt bn bd<rt an ad then valC cuts dens (rt an ad) (rt bn bd) else .error 2) else .error (ckC len cuts dens)
theorem yCf {w:(Int→Int→Int→Prop)→Prop} {e:Except Int Rat} (det:∀ r0 r1 r2,(∀ K:Int→Int→Int→Prop,K r0 r1 r2→w K)→∀ K,w K=K r0 r1 r2) (h:∀ K,exK e K→w K) (K:Int→Int→Int→Prop):w K=exK e K:=by
 cases e with
 | ok q=>exact det _ _ _ h K
 | error c=>exact det _ _ _ h K
theorem yH6 (h1:cuts.length<4611686018427387904) (h2:dens.length<4611686018427387904) {an ad bn bd:Int} (ha:I64 an) (ha':I64 ad) (hb:I64 bn) (hb':I64 bd) (K:Int→Int→Int→Prop) :
   ybT len (ints cuts) (ints dens) an ad bn bd K=exK (valR len cuts dens an ad bn bd) K:=by
 refine yCf (fun r0 r1 r2 h K=>yx4 _ _ _ _ _ _ _ r0 r1 r2 h K) (fun K k=>?_) K
 unfold ybT ynj
 rw [yAC h1 h2]
 unfold valR at k
 by_cases h:ckC len cuts dens=0
 case neg=>rw [cnT h];rw [if_neg h] at k;exact k
 have hv:=yqH h
 have hl:=hv.len0
 rw [if_pos h] at k
 rw [cnF h,yyB (by omega) ha ha']
 by_cases p1:PT len an ad
 case neg=>rw [decide_eq_false p1,Bool.not_false,yab];rw [if_neg (fun x=>p1 x.1)] at k;exact k
 rw [decide_eq_true p1,Bool.not_true,yaa,yyB (by omega) hb hb']
 by_cases p2:PT len bn bd
 case neg=>rw [decide_eq_false p2,Bool.not_false,yab];rw [if_neg (fun x=>p2 x.2.1)] at k;exact k
 rw [decide_eq_true p2,Bool.not_true,yaa]
 obtain ⟨s1,e1,e2,_,_⟩:=p1.pt
 obtain ⟨s2,f1,f2,_,_⟩:=p2.pt
 have hless:=ygF s2 s1
 rw [e1,e2,f1,f2] at hless
 rw [hless]
 by_cases p3:rt bn bd<rt an ad
 · rw [cbT p3];rw [if_neg (fun x=>x.2.2 p3)] at k;exact k
 rw [cbF p3]
 rw [if_pos ⟨p1,p2,p3⟩] at k
 rw [yiU,yau]
 refine ⟨dens.length+1,?_⟩
 have:=yyC hv s2 0 0 yaY ybg K dens.length 0 (dens.length+1) (rt an ad) 0 (by omega) (by omega) s1 (by decide)
 rw [e1,e2,f1,f2] at this
 exact this.mpr k
def mrkS (cuts dens:List Int):Nat→Nat→Rat→Rat→Except Int Rat
 | 0,_,_,_=>.error 6
 | r+1,i,p,v =>
   if ¬p<(cuts.getD (i+1) 0:Int) then mrkS cuts dens r (i+1) p v
   else if dens.getD i 0=0 then mrkS cuts dens r (i+1) (cuts.getD (i+1) 0:Int) v
   else fit ((cuts.getD (i+1) 0:Int)-p) fun l=>fit (l*(dens.getD i 0:Int)) fun w =>
     if w<v then fit (v-w) fun v'=>mrkS cuts dens r (i+1) (cuts.getD (i+1) 0:Int) v'
     else fit (v / (dens.getD i 0:Int)) fun s=>fit (p+s) .ok
def mrkC (cuts dens:List Int) (a v:Rat):Except Int Rat:=if v=0 then .ok a else mrkS cuts dens dens.length 0 a v
def mrkR (len:Int) (cuts dens:List Int) (an ad vn vd:Int):Except Int Rat :=
 if ckC len cuts dens=0 then (if PT len an ad∧RV vn vd∧0≤vn then mrkC cuts dens (rt an ad) (rt vn vd) else .error 2) else .error (ckC len cuts dens)
theorem yAD (h:VC len cuts dens) (W1:Int→List PV→List PV→(Int→Prop)→Prop) (W2:Int→List PV→List PV→Int→Int→(Bool→Prop)→Prop) (W3:Int→Int→(Int→Prop)→Prop) (K:Int→Int→Int→Prop) :
   ∀ (r i n:Nat) (p v:Rat) (o1 o2:Int),i+r=dens.length→r<n→small p→small v →
     yaS W1 W2 W3 ya9 ybd ya8 yaR ycz yar
       (fun _ _ yi42 yi43 yi44 yi45=>(cbr (yi45 !=(0:Int)) (cbr (yi45 !=(0:Int)) (K (0:Int) (0:Int) yi45) (K yi42 yi43 (0:Int))) (cbr (yi44 !=(0:Int)) (K (0:Int) (0:Int) yi44) (K yi42 yi43 (0:Int)))))
       (fun _ _ yi48 yi49 yi50 _ _ _ _ _ _ _ _ _=>(cbr (yi50 !=(0:Int)) (K (0:Int) (0:Int) yi50) (K yi48 yi49 (0:Int))))
       n v.num v.den o1 o2 6 len (ints cuts) (ints dens) p.num p.den (ints dens) dens.length i=exK (mrkS cuts dens r i p v) K
 | 0,i,n+1,p,v,o1,o2,hi,hn,hp,hs=>by
   unfold yaS mrkS
   rw [cbF (by omega)];rfl
 | r+1,i,n+1,p,v,o1,o2,hi,hn,hp,hs=>by
   unfold yaS
   have l1:=h.l1;have l2:=h.l2
   have sc:=h.sc (i:=i+1) (by omega)
   have sd:=h.sd (i:=i) (by omega)
   have hd0:=h.den (i:=i) (by omega)
   have e1:=wib (n:=(i:Int)+1) (by omega) (by omega)
   rw [cbT (by omega),yau,yau,e1,cast1,Int.toNat_natCast,Int.toNat_natCast,asT (by omega),asT (by omega),asC (by omega),asT (by omega),asT (by omega),asC (by omega),ycY (by omega),ycY (by omega),yiU,ygF hp sc]
   have ih:=fun p v o1 o2 hp hs=>yAD h W1 W2 W3 K r (i+1) n p v o1 o2 (by omega) (by omega) hp hs
   unfold mrkS
   obtain ⟨c,hc⟩:∃ c:Rat,c=((cuts.getD (i+1) 0:Int):Rat):=⟨_,rfl⟩
   rw [← hc] at sc ⊢
   by_cases hpc:p<c
   case neg=>rw [decide_eq_false hpc,Bool.not_false,yab,if_pos hpc];exact ih p v o1 o2 hp hs
   rw [decide_eq_true hpc,Bool.not_true,yaa,if_neg (fun x=>x hpc),yiU]
   by_cases hd:dens.getD i 0=0
   · rw [cbF (by omega),ceT hd,if_pos hd];exact ih c v o1 o2 sc hs
   rw [cbT (by omega),if_neg hd,yw1 sc hp,yed]
   by_cases s1:small (c-p)
   case neg=>rw [if_neg s1,cnT (by decide),cnT (by decide),cnT (by decide),fit,if_neg s1];rfl
   rw [if_pos s1,cnF rfl,yiU,yCc s1 sd,yed,fit,if_pos s1]
   by_cases s2:small ((c-p)*(dens.getD i 0:Int))
   case neg=>rw [if_neg s2,cnT (by decide),cnT (by decide),cnT (by decide),fit,if_neg s2];rfl
   rw [if_pos s2,cnF rfl,ceF hd,ygF s2 hs,fit,if_pos s2]
   by_cases hw:(c-p)*(dens.getD i 0:Int)<v
   · rw [cbT hw,if_pos hw,yw1 hs s2,yed,fit]
     by_cases s3:small (v-(c-p)*(dens.getD i 0:Int))
     · rw [if_pos s3,if_pos s3,cnF rfl,cnF rfl];exact ih c _ o1 o2 sc s3
     · rw [if_neg s3,if_neg s3,cnT (by decide),cnT (by decide),cnF rfl,cnT (by decide)];rfl
   · have hdn:((dens.getD i 0:Int):Rat)≠0:=fun e=>hd (Rat.intCast_eq_zero_iff.1 e)
     rw [cbF hw,if_neg hw,yiU,yK6 hs sd hdn,yed,fit]
     by_cases s3:small (v / (dens.getD i 0:Int))
     · rw [if_pos s3,if_pos s3,ceT rfl,yw0 hp s3,yed,fit]
       by_cases s4:small (p+v / (dens.getD i 0:Int))
       · rw [if_pos s4,if_pos s4,cnF rfl,cnF rfl];rfl
       · rw [if_neg s4,if_neg s4,cnF rfl,cnT (by decide)];rfl
     · rw [if_neg s3,if_neg s3,ceF (by decide),cnF rfl,cnT (by decide)];rfl
theorem yJx (h1:cuts.length<4611686018427387904) (h2:dens.length<4611686018427387904) {an ad vn vd:Int} (ha:I64 an) (ha':I64 ad) (hv:I64 vn) (hv':I64 vd) (K:Int→Int→Int→Prop) :
   ycb len (ints cuts) (ints dens) an ad vn vd K=exK (mrkR len cuts dens an ad vn vd) K:=by
 refine yCf (fun r0 r1 r2 h K=>yzG _ _ _ _ _ _ _ r0 r1 r2 h K) (fun K k=>?_) K
 unfold ycb yov
 rw [yAC h1 h2]
 unfold mrkR at k
 by_cases h:ckC len cuts dens=0
 case neg=>rw [cnT h];rw [if_neg h] at k;exact k
 have hc:=yqH h
 have hl:=hc.len0
 rw [if_pos h] at k
 rw [cnF h,yyB (by omega) ha ha']
 by_cases p1:PT len an ad
 case neg=>rw [decide_eq_false p1,Bool.not_false,yab];rw [if_neg (fun x=>p1 x.1)] at k;exact k
 rw [decide_eq_true p1,Bool.not_true,yaa,ynY hv hv',chk]
 by_cases p2:RV vn vd
 case neg=>rw [if_neg p2,cnT (by decide)];rw [if_neg (fun x=>p2 x.2.1)] at k;exact k
 rw [if_pos p2,cnF rfl]
 by_cases p3:vn<0
 · rw [cbT p3];rw [if_neg (fun x=>by omega)] at k;exact k
 rw [cbF p3]
 rw [if_pos ⟨p1,p2,by omega⟩] at k
 obtain ⟨s1,e1,e2,_,_⟩:=p1.pt
 obtain ⟨s2,f1,f2⟩:=rt_of p2
 unfold mrkC at k
 by_cases p4:vn=0
 · rw [ceT p4]
   rw [if_pos (Rat.num_eq_zero.1 (f1.trans p4))] at k
   have k:K (rt an ad).num (rt an ad).den 0:=k
   rw [e1,e2] at k
   exact k
 rw [ceF p4]
 rw [if_neg (fun x=>p4 (by rw [← f1,x];rfl))] at k
 rw [yau]
 refine ⟨dens.length+1,?_⟩
 have:=yAD hc yaY ybg yal K dens.length 0 (dens.length+1) (rt an ad) (rt vn vd) 0 0 (by omega) (by omega) s1 s2
 rw [e1,e2,f1,f2] at this
 exact this.mpr k
end
end Go.Pf.Vc
namespace Go.Pf.Vc
open Go Go.Pf
section
variable {len:Int} {cuts dens:List Int}
def okD (cuts dens:List Int) (i:Nat):Prop:=∀ j,i≤j→j<dens.length→cuts.getD j 0<cuts.getD (j+1) 0∧0≤dens.getD j 0∧dens.getD j 0≤12
theorem yqI (l1:dens.length+1=cuts.length) (l2:dens.length<4611686018427387904) (x0:Int→Prop) (x1:Int→List PV→List PV→Bool→Int→Bool→Prop) (P:Prop)
   (hbad:¬okD cuts dens 0→x0 8=P) (hgood:∀ b:Bool,okD cuts dens 0→b=decide (∃ j,j<dens.length∧0<dens.getD j 0)→x1 len (ints cuts) (ints dens) b dens.length false=P) :
   ∀ (r i n:Nat) (b:Bool),i+r=dens.length→r<n→(∀ j,j<i→cuts.getD j 0<cuts.getD (j+1) 0∧0≤dens.getD j 0∧dens.getD j 0≤12)→b=decide (∃ j,j<i∧0<dens.getD j 0) →
     ycr x0 x1 n len (ints cuts) (ints dens) b i=P
 | 0,i,n+1,b,hi,hn,hj,hb=>by
   unfold ycr
   rw [yau,cbF (by omega),show (i:Int)=dens.length by omega]
   refine hgood b (fun j _ h=>hj j (by omega)) ?_
   rw [hb,decide_eq_decide]
   rw [show i=dens.length by omega]
 | r+1,i,n+1,b,hi,hn,hj,hb=>by
   unfold ycr
   have e1:=wib (n:=(i:Int)+1) (by omega) (by omega)
   rw [yau,yau,cbT (by omega),e1,cast1,Int.toNat_natCast,Int.toNat_natCast,asT (by omega),asT (by omega),asC (by omega),asT (by omega),asT (by omega),asC (by omega),ycY (by omega),ycY (by omega)]
   have bad:¬(cuts.getD i 0<cuts.getD (i+1) 0∧0≤dens.getD i 0∧dens.getD i 0≤12)→x0 8=P:=fun h=>hbad fun hk=>h (hk i (by omega) (by omega))
   by_cases a1:cuts.getD (i+1) 0≤cuts.getD i 0
   · rw [cbT a1];exact bad (by omega)
   rw [cbF a1,asT (by omega),asT (by omega),asC (by omega),ycY (by omega)]
   by_cases a2:dens.getD i 0<0
   · rw [cbT a2];exact bad (by omega)
   rw [cbF a2,asT (by omega),asT (by omega),asC (by omega)]
   by_cases a3:dens.getD i 0>12
   · rw [cbT a3];exact bad (by omega)
   rw [cbF a3]
   have hj2:∀ j,j<i+1→cuts.getD j 0<cuts.getD (j+1) 0∧0≤dens.getD j 0∧dens.getD j 0≤12:=by
     intro j hlt
     by_cases e:j=i
     · subst e;omega
     · exact hj j (by omega)
   have ex:∀ c:Bool,(c=true↔(b=true∨0<dens.getD i 0))→c=decide (∃ j,j<i+1∧0<dens.getD j 0):=by
     intro c hc
     rw [Bool.eq_iff_iff,hc,hb,decide_eq_true_iff,decide_eq_true_iff]
     constructor
     · rintro (⟨j,h1,h2⟩ | h)
       · exact ⟨j,by omega,h2⟩
       · exact ⟨i,by omega,h⟩
     · rintro ⟨j,h1,h2⟩
       by_cases e:j=i
       · subst e;exact .inr h2
       · exact .inl ⟨j,by omega,h2⟩
   cases b with
   | true =>
     rw [yab]
     exact yqI l1 l2 x0 x1 P hbad hgood r (i+1) n true (by omega) (by omega) hj2 (ex _ (by simp))
   | false =>
     rw [yaa,asT (by omega),asT (by omega),asC (by omega)]
     exact yqI l1 l2 x0 x1 P hbad hgood r (i+1) n _ (by omega) (by omega) hj2 (ex _ (by simp))
theorem yn2 (h1:cuts.length<4611686018427387904) (h2:dens.length<4611686018427387904) (K:Int→Prop) :
   yaO len (ints cuts) (ints dens) K=K (ckC len cuts dens):=by
 refine yzU _ _ _ _ (fun K k=>?_) K
 unfold yaO yoT
 simp only [yau]
 have bad:¬(len>1000∨cuts.length>40)→¬VC len cuts dens→K 8:=fun h h2=>by
   rw [ckC,if_neg h,if_neg h2] at k;exact k
 by_cases a1:len>1000
 · rw [cbT a1];rw [ckC,if_pos (.inl a1)] at k;exact k
 rw [cbF a1]
 by_cases a2:cuts.length>40
 · rw [cbT (by omega)];rw [ckC,if_pos (.inr a2)] at k;exact k
 have a12:¬(len>1000∨cuts.length>40):=by omega
 rw [cbF (by omega)]
 by_cases a3:len<1
 · rw [cbT a3];exact bad a12 (fun h=>by have:=h.1;omega)
 rw [cbF a3]
 by_cases a4:cuts.length<2
 · rw [cbT (by omega)];exact bad a12 (fun h=>by have:=h.2.2.1;omega)
 rw [cbF (by omega),wib (n:=(cuts.length:Int)-1) (by omega) (by omega)]
 by_cases a5:dens.length+1=cuts.length
 case neg=>rw [cnT (by omega)];exact bad a12 (fun h=>a5 h.2.2.2.2.1)
 rw [cnF (by omega),asT (by omega),asC (by omega),ycY (by omega)]
 by_cases a6:cuts.getD 0 0=0
 case neg=>rw [cnT a6];exact bad a12 (fun h=>a6 h.2.2.2.2.2.1)
 rw [cnF a6,asT (by omega),asT (by omega),asC (by omega),ycY (by omega)]
 have en:((cuts.length:Int)-1).toNat=cuts.length-1:=by omega
 rw [en]
 by_cases a7:cuts.getD (cuts.length-1) 0=len
 case neg=>rw [cnT a7];exact bad a12 (fun h=>a7 h.2.2.2.2.2.2.1)
 rw [cnF a7]
 have mem:∀ d,d∈dens↔∃ j,j<dens.length∧dens.getD j 0=d:=by
   intro d
   rw [List.mem_iff_getElem]
   constructor
   · rintro ⟨j,hj,e⟩;exact ⟨j,hj,by rw [List.getD_eq_getElem?_getD,List.getElem?_eq_getElem hj];exact e⟩
   · rintro ⟨j,hj,e⟩;exact ⟨j,hj,by rw [List.getD_eq_getElem?_getD,List.getElem?_eq_getElem hj] at e;exact e⟩
 refine ⟨dens.length+1,?_⟩
 refine (yqI a5 h2 _ _ (K (ckC len cuts dens)) (fun hk=>?_) (fun b hk hb=>?_) dens.length 0 (dens.length+1) false (by omega) (by omega) (fun j h=>by omega) (by simp)).mpr k
 · have hv:¬VC len cuts dens:=fun h=>hk fun j _ hj=>⟨h.step (by omega),h.den hj⟩
   rw [ckC,if_neg a12,if_neg hv]
 · have hsome:someD dens↔∃ j,j<dens.length∧0<dens.getD j 0:=by
     constructor
     · rintro ⟨d,hd,h0⟩
       obtain ⟨j,hj,e⟩:=(mem d).1 hd
       exact ⟨j,hj,by rw [e];exact h0⟩
     · rintro ⟨j,hj,h0⟩;exact ⟨_,(mem _).2 ⟨j,hj,rfl⟩,h0⟩
   have hv:VC len cuts dens↔someD dens:=by
     refine ⟨fun h=>h.2.2.2.2.2.2.2.2.2,fun h=>⟨by omega,by omega,by omega,by omega,a5,a6,a7,fun j _ hj=>(hk j (by omega) (by omega)).1,fun d hd=>?_,h⟩⟩
     obtain ⟨j,hj,e⟩:=(mem d).1 hd
     rw [← e];exact (hk j (by omega) hj).2
   rw [ckC,if_neg a12]
   by_cases hs:someD dens
   · rw [if_pos (hv.2 hs),hb,decide_eq_true (hsome.1 hs)];rfl
   · rw [if_neg (fun x=>hs (hv.1 x)),hb,decide_eq_false (fun x=>hs (hsome.2 x))];rfl
theorem yvI (hl:-1000000000000000000≤len∧len≤1000000000000000000) {n d:Int} (hn:I64 n) (hd:I64 d) (K:Bool→Prop) :
   ybI len n d K=K (decide (PT len n d)):=by
 unfold ybI yoV
 rw [ynZ hn hd]
 by_cases h:RV n d
 · obtain ⟨q,e1,e2,e3⟩:=yCa h
   rw [chk,if_pos h,ceT rfl]
   by_cases h0:n≥0
   · rw [cbT h0,yvH,← e2,← e3,ymt (yq2 hl) e1]
     congr 1
     have:((len:Rat)<q)↔len*(q.den:Int)<q.num:=yyA _ _
     by_cases h3:(len:Rat)<q
     · have h4:=this.1 h3
       rw [decide_eq_true h3,decide_eq_false];rfl
       intro hp;have:=hp.2.2;omega
     · have h4:¬_:=fun x=>h3 (this.2 x)
       rw [decide_eq_false h3,decide_eq_true];rfl
       exact ⟨e1.rv,by omega,by omega⟩
   · rw [cbF h0,decide_eq_false]
     intro hp;have:=hp.2.1;omega
 · rw [chk,if_neg h,ceF (by decide),decide_eq_false]
   intro hp;exact h hp.1
def mxQ (a b:Rat):Rat:=if a<b then b else a
def mnQ (a b:Rat):Rat:=if a<b then a else b
theorem yvJ {q r:Rat} (hq:small q) (hr:small r) (K:Int→Int→Prop):ydq q.num q.den r.num r.den K=K (mxQ q r).num (mxQ q r).den:=by
 unfold ydq yoW mxQ
 rw [ymt hq hr]
 by_cases h:q<r
 · rw [cbT h,if_pos h]
 · rw [cbF h,if_neg h]
theorem yF1 {q r:Rat} (hq:small q) (hr:small r) (K:Int→Int→Prop):yiS q.num q.den r.num r.den K=K (mnQ q r).num (mnQ q r).den:=by
 unfold yiS ynp mnQ
 rw [ymt hq hr]
 by_cases h:q<r
 · rw [cbT h,if_pos h]
 · rw [cbF h,if_neg h]
theorem yJy {q r:Rat} (hq:small q) (hr:small r):small (mxQ q r):=by unfold mxQ;split <;> assumption
theorem yJz {q r:Rat} (hq:small q) (hr:small r):small (mnQ q r):=by unfold mnQ;split <;> assumption
def worS (cuts dens:List Int) (i:Nat) (a b:Rat):Except Int Rat :=
 let f:=mxQ a (cuts.getD i 0:Int)
 let t:=mnQ b (cuts.getD (i+1) 0:Int)
 if ¬f<t∨dens.getD i 0=0 then .ok 0 else fit (t-f) fun d=>fit (d*(dens.getD i 0:Int)) .ok
theorem yAE (h:VC len cuts dens) {i:Nat} (hi:i<dens.length) {a b:Rat} (ha:small a) (hb:small b) (K:Int→Int→Int→Prop) :
   ybJ len (ints cuts) (ints dens) i a.num a.den b.num b.den K=exK (worS cuts dens i a b) K:=by
 unfold ybJ yoX worS
 have l1:=h.l1;have l2:=h.l2
 have sc:=h.sc (i:=i+1) (by omega)
 have sc0:=h.sc (i:=i) (by omega)
 have sd:=h.sd (i:=i) (by omega)
 have e1:=wib (n:=(i:Int)+1) (by omega) (by omega)
 rw [yau,yau,e1,cast1,Int.toNat_natCast,Int.toNat_natCast,asT (by omega),asT (by omega),asC (by omega),ycY (by omega),yvH,yvJ ha sc0,asT (by omega),asT (by omega),asC (by omega),ycY (by omega),yvH,yF1 hb sc]
 have s1:=yJy ha sc0
 have s2:=yJz hb sc
 rw [ymt s1 s2]
 by_cases c1:mxQ a (cuts.getD i 0:Int)<mnQ b (cuts.getD (i+1) 0:Int)
 case neg =>
   rw [decide_eq_false c1,Bool.not_false,yab]
   simp only [c1,not_false_eq_true,true_or,if_true];rfl
 rw [decide_eq_true c1,Bool.not_true,yaa,asT (by omega),asT (by omega),asC (by omega),ycY (by omega)]
 by_cases c2:dens.getD i 0=0
 · rw [ceT c2]
   simp only [c2,or_true,if_true];rfl
 rw [ceF c2,yG1 s2 s1,yed]
 have cc:¬(¬mxQ a (cuts.getD i 0:Int)<mnQ b (cuts.getD (i+1) 0:Int)∨dens.getD i 0=0):=fun x=>x.elim (fun y=>y c1) c2
 simp only [if_neg cc,fit]
 by_cases s3:small (mnQ b (cuts.getD (i+1) 0:Int)-mxQ a (cuts.getD i 0:Int))
 · rw [if_pos s3,if_pos s3,cnF rfl,asT (by omega),asT (by omega),asC (by omega),yvH,yG2 s3 sd,yed]
   split <;> rfl
 · rw [if_neg s3,if_neg s3,cnT (by decide)];rfl
end
end Go.Pf.Vc
namespace Go.Pf.Vc
open Go Go.Pf
section
variable {len:Int} {cuts dens:List Int}
theorem ymu {α:Type} {q:Rat} {k:Rat→Except Int α} (h:small q):fit q k=k q:=if_pos h
theorem ymv {α:Type} {q:Rat} {k:Rat→Except Int α} (h:¬small q):fit q k=.error 16:=if_neg h
theorem yvK {q:Rat} {K:Int→Int→Int→Prop}:exK (.ok q) K=K q.num q.den 0:=rfl
theorem yyD {c:Int} {K:Int→Int→Int→Prop}:exK (.error c) K=K 0 0 c:=rfl
theorem add_zero (q:Rat):q+0=q:=by grind
theorem ywo (h:VC len cuts dens) {a b:Rat} (ha:small a) (hb:small b) (hab:¬b<a) (W1:Int→List PV→List PV→(Int→Prop)→Prop) (W2:Int→Int→Int→(Bool→Prop)→Prop) (W3:Int→Int→Int→Int→(Bool→Prop)→Prop) (K:Int→Int→Int→Prop) :
   ∀ (r i n:Nat) (p sum:Rat),i+r=dens.length→r<n→small sum→p=mxQ a (mnQ b (cuts.getD i 0:Int)) →
     ycW W1 W2 W3 ybJ ycD (fun yi11 yi12 yi13=>(K yi11 yi12 yi13)) (fun _ _ _ _ _ _ _ _ _ yi23 yi24 _ _=>(K yi23 yi24 (0:Int)))
       n len (ints cuts) (ints dens) a.num a.den b.num b.den 0 0 sum.num sum.den i=exK (valS cuts dens b r i p sum) K
 | 0,i,n+1,p,sum,hi,hn,hs,hp=>by
   unfold ycW valS
   rw [yau,cbF (by omega)];rfl
 | r+1,i,n+1,p,sum,hi,hn,hs,hp=>by
   unfold ycW
   have l1:=h.l1;have l2:=h.l2
   have e1:=wib (n:=(i:Int)+1) (by omega) (by omega)
   have hst:=h.step (i:=i) (by omega)
   have hst':((cuts.getD i 0:Int):Rat)<((cuts.getD (i+1) 0:Int):Rat):=Rat.intCast_lt_intCast.2 hst
   have sd:=h.sd (i:=i) (by omega)
   have sc:=h.sc (i:=i+1) (by omega)
   have sc0:=h.sc (i:=i) (by omega)
   rw [yau,cbT (by omega),yAE h (by omega) ha hb,e1,cast1]
   have ih:=fun p sum hs hp=>ywo h ha hb hab W1 W2 W3 K r (i+1) n p sum (by omega) (by omega) hs hp
   unfold valS worS
   obtain ⟨c0,hc0⟩:∃ c:Rat,c=((cuts.getD i 0:Int):Rat):=⟨_,rfl⟩
   obtain ⟨c,hc⟩:∃ c:Rat,c=((cuts.getD (i+1) 0:Int):Rat):=⟨_,rfl⟩
   obtain ⟨d,hd⟩:∃ d:Rat,d=((dens.getD i 0:Int):Rat):=⟨_,rfl⟩
   rw [← hc0,← hc] at hst'
   rw [← hc] at sc
   rw [← hc0] at sc0 hp
   rw [← hd] at sd
   rw [← hc] at ih
   simp only [← hc0,← hc,← hd]
   have zk:∀ K2:Int→Int→Int→Prop,fitK (sum+0) K2=K2 sum.num sum.den 0:=fun K2=>by rw [add_zero,yed,if_pos hs]
   have en:(if b<c then b else c)=mnQ b c:=rfl
   rw [en]
   have nx:(if p<mnQ b c then mnQ b c else p)=mxQ a (mnQ b c):=by
     rw [hp];unfold mxQ mnQ
     grind
   have add0:=yw2 hs (r:=0) (by decide)
   rw [show (0:Rat).num=0 from rfl,show ((0:Rat).den:Int)=1 from rfl] at add0
   by_cases c2:dens.getD i 0=0
   · rw [if_pos (.inr c2),if_pos (.inl c2),nx]
     rw [yvK,cnF rfl]
     rw [show ((0:Rat).num)=0 from rfl,show (((0:Rat).den:Nat):Int)=1 from rfl,add0,zk,cnF rfl]
     exact ih _ sum hs rfl
   by_cases c1:mxQ a c0<mnQ b c
   · -- the interval counts
     have hpm:p=mxQ a c0:=by
       rw [hp];unfold mxQ mnQ at *
       grind
     have hpl:p<mnQ b c:=by rw [hpm];exact c1
     rw [if_neg (fun x=>x.elim (fun y=>y c1) c2),if_neg (fun x=>x.elim c2 (fun y=>y hpl)),← hpm]
     have nx2:mnQ b c=mxQ a (mnQ b c):=by rw [← nx,if_pos hpl]
     by_cases s1:small (mnQ b c-p)
     case neg=>rw [ymv s1,ymv s1,yyD,cnT (by decide)];rfl
     rw [ymu s1,ymu s1]
     by_cases s2:small ((mnQ b c-p)*d)
     case neg=>rw [ymv s2,ymv s2,yyD,cnT (by decide)];rfl
     rw [ymu s2,ymu s2,yvK]
     rw [cnF rfl,yw2 hs s2,yed]
     by_cases s3:small (sum+(mnQ b c-p)*d)
     · rw [if_pos s3,ymu s3,cnF rfl]
       exact ih _ _ s3 nx2
     · rw [if_neg s3,ymv s3,cnT (by decide)];rfl
   · have hpl:¬p<mnQ b c:=by
       rw [hp];unfold mxQ mnQ at *
       grind
     rw [if_pos (.inl c1),if_pos (.inr hpl),nx]
     rw [yvK,cnF rfl]
     rw [show ((0:Rat).num)=0 from rfl,show (((0:Rat).den:Nat):Int)=1 from rfl,add0,zk,cnF rfl]
     exact ih _ sum hs rfl
theorem yH7 (h1:cuts.length<4611686018427387904) (h2:dens.length<4611686018427387904) {an ad bn bd:Int} (ha:I64 an) (ha':I64 ad) (hb:I64 bn) (hb':I64 bd) (K:Int→Int→Int→Prop) :
   ygD len (ints cuts) (ints dens) an ad bn bd K=exK (valR len cuts dens an ad bn bd) K:=by
 refine yCf (fun r0 r1 r2 h K=>yzV _ _ _ _ _ _ _ r0 r1 r2 h K) (fun K k=>?_) K
 unfold ygD yoY
 rw [yn2 h1 h2]
 unfold valR at k
 by_cases h:ckC len cuts dens=0
 case neg=>rw [cnT h,yn2 h1 h2];rw [if_neg h] at k;exact k
 have hv:=yqH h
 have hl:=hv.len0
 rw [if_pos h] at k
 rw [cnF h,yvI (by omega) ha ha']
 by_cases p1:PT len an ad
 case neg=>rw [decide_eq_false p1,Bool.not_false,yab];rw [if_neg (fun x=>p1 x.1)] at k;exact k
 rw [decide_eq_true p1,Bool.not_true,yaa,yvI (by omega) hb hb']
 by_cases p2:PT len bn bd
 case neg=>rw [decide_eq_false p2,Bool.not_false,yab];rw [if_neg (fun x=>p2 x.2.1)] at k;exact k
 rw [decide_eq_true p2,Bool.not_true,yaa]
 obtain ⟨s1,e1,e2,z1,_⟩:=p1.pt
 obtain ⟨s2,f1,f2,_,_⟩:=p2.pt
 have hless:=ymt s2 s1
 rw [e1,e2,f1,f2] at hless
 rw [hless]
 by_cases p3:rt bn bd<rt an ad
 · rw [cbT p3];rw [if_neg (fun x=>x.2.2 p3)] at k;exact k
 rw [cbF p3]
 rw [if_pos ⟨p1,p2,p3⟩] at k
 refine ⟨dens.length+1,?_⟩
 have c0:((cuts.getD 0 0:Int):Rat)=0:=by rw [hv.2.2.2.2.2.1];rfl
 have:=ywo hv s1 s2 p3 yaO ybI yaW K dens.length 0 (dens.length+1) (rt an ad) 0 (by omega) (by omega) (by decide) (by rw [c0];unfold mxQ mnQ;grind)
 rw [e1,e2,f1,f2] at this
 exact this.mpr k
theorem yD6 {q:Rat} (h:0<q):q.num>0:=by
 have h1:0≤q.num:=Rat.num_nonneg.2 (Rat.le_of_lt h)
 have h2:q.num≠0:=fun e=>by
   have:=Rat.num_eq_zero.1 e
   rw [this] at h;exact Rat.lt_irrefl h
 omega
theorem yyE (h:VC len cuts dens) (an ad:Int) (W1:Int→List PV→List PV→(Int→Prop)→Prop) (W2:Int→Int→Int→(Bool→Prop)→Prop) (W3:Int→Int→(Int→Prop)→Prop) (K:Int→Int→Int→Prop) :
   ∀ (r i n:Nat) (p v:Rat),i+r=dens.length→r<n→small p→small v→0<v→¬p<(cuts.getD i 0:Int) →
     ybK W1 W2 W3 yfI yaW ydq ybJ ygT ycD ye7
       (fun yi26 yi27 yi28=>(K yi26 yi27 yi28)) (fun _ _ _ yi32 yi33 yi34 _ _ _ _ _ _ _=>(cbr (decide (yi34>(0:Int))) (K (0:Int) (0:Int) (6:Int)) (K yi32 yi33 (0:Int))))
       n len (ints cuts) (ints dens) an ad v.num v.den 0 0 p.num p.den i=exK (mrkS cuts dens r i p v) K
 | 0,i,n+1,p,v,hi,hn,hp,hs,h0,hc0=>by
   unfold ybK mrkS
   rw [yau,cbF (by omega),cbT (yD6 h0)];rfl
 | r+1,i,n+1,p,v,hi,hn,hp,hs,h0,hc0=>by
   unfold ybK
   have l1:=h.l1;have l2:=h.l2
   have e1:=wib (n:=(i:Int)+1) (by omega) (by omega)
   have sd:=h.sd (i:=i) (by omega)
   have sc:=h.sc (i:=i+1) (by omega)
   have hw:=fun b hb=>yAE h (i:=i) (by omega) hp (b:=b) hb
   rw [yau,yau,cbT (by omega),cbT (yD6 h0),e1,cast1,Int.toNat_natCast,Int.toNat_natCast,asT (by omega),asT (by omega),asC (by omega),ycY (by omega),ycY (by omega),yvH,ymt hp sc]
   have ih:=fun p v hp hs h0 hc=>yyE h an ad W1 W2 W3 K r (i+1) n p v (by omega) (by omega) hp hs h0 hc
   unfold mrkS
   obtain ⟨c,hc⟩:∃ c:Rat,c=((cuts.getD (i+1) 0:Int):Rat):=⟨_,rfl⟩
   rw [← hc] at sc ih ⊢
   by_cases hpc:p<c
   case neg =>
     rw [decide_eq_false hpc,Bool.not_false,yab,if_pos hpc,yvJ hp sc]
     have:mxQ p c=p:=if_neg hpc
     rw [this];exact ih p v hp hs h0 hpc
   rw [decide_eq_true hpc,Bool.not_true,yaa,if_neg (fun x=>x hpc),asT (by omega),asT (by omega),asC (by omega)]
   by_cases hd:dens.getD i 0=0
   · rw [ceT hd,if_pos hd,yvJ hp sc]
     have:mxQ p c=c:=if_pos hpc
     rw [this];exact ih c v sc hs h0 Rat.lt_irrefl
   rw [ceF hd,if_neg hd,hw c sc]
   unfold worS
   have m1:mxQ p (cuts.getD i 0:Int)=p:=if_neg hc0
   have m2:mnQ c (cuts.getD (i+1) 0:Int)=c:=by rw [← hc];unfold mnQ;split <;> rfl
   simp only [m1,m2]
   rw [if_neg (fun x=>x.elim (fun y=>y hpc) hd)]
   by_cases s1:small (c-p)
   case neg=>rw [ymv s1,ymv s1,yyD,cnT (by decide)];rfl
   rw [ymu s1,ymu s1]
   by_cases s2:small ((c-p)*(dens.getD i 0:Int))
   case neg=>rw [ymv s2,ymv s2,yyD,cnT (by decide)];rfl
   rw [ymu s2,ymu s2,yvK]
   rw [cnF rfl,ymt s2 hs]
   by_cases hwv:(c-p)*(dens.getD i 0:Int)<v
   · rw [decide_eq_true hwv,Bool.not_true,yaa,if_pos hwv,yG1 hs s2,yed]
     by_cases s3:small (v-(c-p)*(dens.getD i 0:Int))
     · rw [if_pos s3,ymu s3,cnF rfl]
       exact ih c _ sc s3 (by grind) Rat.lt_irrefl
     · rw [if_neg s3,ymv s3,cnT (by decide)];rfl
   · have hdn:((dens.getD i 0:Int):Rat)≠0:=fun e=>hd (Rat.intCast_eq_zero_iff.1 e)
     rw [decide_eq_false hwv,Bool.not_false,yab,if_neg hwv,asT (by omega),asT (by omega),asC (by omega),yvH,yLc hs sd hdn,yed]
     by_cases s3:small (v / (dens.getD i 0:Int))
     · rw [if_pos s3,ymu s3,cnF rfl,yw2 hp s3,yed,fit]
       split <;> rfl
     · rw [if_neg s3,ymv s3,cnT (by decide)];rfl
theorem yJA (h1:cuts.length<4611686018427387904) (h2:dens.length<4611686018427387904) {an ad vn vd:Int} (ha:I64 an) (ha':I64 ad) (hv:I64 vn) (hv':I64 vd) (K:Int→Int→Int→Prop) :
   yhS len (ints cuts) (ints dens) an ad vn vd K=exK (mrkR len cuts dens an ad vn vd) K:=by
 refine yCf (fun r0 r1 r2 h K=>yBR _ _ _ _ _ _ _ r0 r1 r2 h K) (fun K k=>?_) K
 unfold yhS yqy
 rw [yn2 h1 h2]
 unfold mrkR at k
 by_cases h:ckC len cuts dens=0
 case neg=>rw [cnT h,yn2 h1 h2];rw [if_neg h] at k;exact k
 have hc:=yqH h
 have hl:=hc.len0
 rw [if_pos h] at k
 rw [cnF h,yvI (by omega) ha ha']
 by_cases p1:PT len an ad
 case neg=>rw [decide_eq_false p1,Bool.not_false,yab];rw [if_neg (fun x=>p1 x.1)] at k;exact k
 rw [decide_eq_true p1,Bool.not_true,yaa,ynZ hv hv',chk]
 by_cases p2:RV vn vd
 case neg=>rw [if_neg p2,cnT (by decide)];rw [if_neg (fun x=>p2 x.2.1)] at k;exact k
 rw [if_pos p2,cnF rfl]
 by_cases p3:vn<0
 · rw [cbT p3];rw [if_neg (fun x=>by omega)] at k;exact k
 rw [cbF p3]
 rw [if_pos ⟨p1,p2,by omega⟩] at k
 obtain ⟨s1,e1,e2,z1,_⟩:=p1.pt
 obtain ⟨s2,f1,f2⟩:=rt_of p2
 unfold mrkC at k
 refine ⟨dens.length+1,?_⟩
 by_cases p4:vn=0
 · rw [if_pos (Rat.num_eq_zero.1 (f1.trans p4))] at k
   have k:K (rt an ad).num (rt an ad).den 0:=k
   rw [e1,e2] at k
   unfold ybK
   rw [yau]
   by_cases hz:(0:Int)<dens.length
   · rw [cbT hz,cbF (by omega),cbF (by omega)];exact k
   · rw [cbF hz,cbF (by omega)];exact k
 rw [if_neg (fun x=>p4 (by rw [← f1,x];rfl))] at k
 have hpos:0<rt vn vd:=by
   have a1:0≤rt vn vd:=Rat.num_nonneg.1 (by omega)
   have a2:rt vn vd≠0:=fun x=>p4 (by rw [← f1,x];rfl)
   grind
 have c0:((cuts.getD 0 0:Int):Rat)=0:=by rw [hc.2.2.2.2.2.1];rfl
 have:=yyE hc an ad yaO ybI ycC K dens.length 0 (dens.length+1) (rt an ad) (rt vn vd) (by omega) (by omega) s1 s2 hpos (by rw [c0];grind)
 rw [e1,e2,f1,f2] at this
 exact this.mpr k
end
end Go.Pf.Vc
namespace Go.Pf.Vc
open Go Go.Pf
structure Ck where
 len:Int
 cuts:List Int
 dens:List Int
instance:Inhabited Ck:=⟨⟨0,[],[]⟩⟩
def encC (c:Ck):PV:=.agg [.int .i64 c.len,.data (ints c.cuts),.data (ints c.dens)]
def cks (l:List Ck):List PV:=l.map encC
def Ck.fin (c:Ck):Prop:=c.cuts.length<4611686018427387904∧c.dens.length<4611686018427387904
def Ck.ok (c:Ck):Prop:=VC c.len c.cuts c.dens
instance (c:Ck):Decidable c.ok:=by unfold Ck.ok;infer_instance
theorem yG4 (l:List Ck):(cks l).length=l.length:=List.length_map ..
theorem yMz {l:List Ck} {i:Nat} (h:i<l.length):List.getD (cks l) i .nils=encC (l.getD i default):=by
 unfold cks
 rw [List.getD_eq_getElem?_getD,List.getD_eq_getElem?_getD,List.getElem?_map,List.getElem?_eq_getElem h]
 rfl
theorem ycE {α:Type} {l:List α} {i:Nat} (d:α) (h:i<l.length):l.drop i=l.getD i d::l.drop (i+1):=by
 rw [List.drop_eq_getElem_cons h,List.getD_eq_getElem?_getD,List.getElem?_eq_getElem h];rfl
theorem asCk {c:Ck} {P:Prop}:asr (conf (.agg [.i .i64,.d,.d]) (encC c)) P=P:=rfl
theorem ck0 (c:Ck):intOfV (cellAt (encC c) 0)=c.len:=rfl
theorem ck1 (c:Ck):datOfV (cellAt (encC c) 1)=ints c.cuts:=rfl
theorem ck2 (c:Ck):datOfV (cellAt (encC c) 2)=ints c.dens:=rfl
section
variable {l:List Ck}
def finC (l:List Ck):Prop:=∀ i,i<l.length→(l.getD i default).fin
def Ck.low (c:Ck):Prop:=c.cuts.length≤1000∧c.dens.length≤1000
def lowC (l:List Ck):Prop:=∀ i,i<l.length→(l.getD i default).low
theorem asTT {c:Bool} {P:Prop} (h:c=true):asr c P=P:=by rw [h,yat]
end
end Go.Pf.Vc
namespace Go.Pf.Vc
open Go Go.Pf
section
variable {l:List Ck}
structure DK (l:List Ck):Prop where
 n6:l.length≤6
 n0:1≤l.length
 ok:∀ i,i<l.length→(l.getD i default).ok
 len:∀ i,i<l.length→(l.getD i default).len=(l.getD 0 default).len
theorem DK.low {l:List Ck} (h:DK l):lowC l:=fun i hi=>by
 have h1:=(h.ok i hi).l1;have h2:=(h.ok i hi).l2
 exact ⟨by omega,by omega⟩
theorem DK.fin {l:List Ck} (h:DK l):finC l:=fun i hi=>by
 have h1:=(h.ok i hi).l1;have h2:=(h.ok i hi).l2
 exact ⟨by omega,by omega⟩
def qrow (agent kind an ad bn bd cn cd:Int):PV:=.agg [.int .i64 agent,.int .u8 kind,.int .i64 an,.int .i64 ad,.int .i64 bn,.int .i64 bd,.int .i64 cn,.int .i64 cd]
theorem yJB (lg:List PV) (agent:Int) (K:Bool→Prop):ykw (cks l) lg agent K=K (decide (0≤agent∧agent<l.length)):=by
 unfold ykw yo2
 rw [yG4]
 by_cases h:agent≥0
 · rw [cbT h]
   congr 1
   rw [decide_eq_decide];omega
 · rw [cbF h,decide_eq_false (by omega)]
def Ck.mark (an ad vn vd:Int) (c:Ck):Except Int Rat:=mrkR c.len c.cuts c.dens an ad vn vd
def Ck.value (an ad bn bd:Int) (c:Ck):Except Int Rat:=valR c.len c.cuts c.dens an ad bn bd
end
end Go.Pf.Vc
namespace Go.Pf.Vc
open Go Go.Pf
section
variable {l:List Ck}
theorem yJC (cuts dens:List Int) (b:Rat):∀ (r i:Nat) (p v:Rat),valS cuts dens b r i p v≠.error 0:=by
 intro r
 induction r with
 | zero=>intro i p v e;unfold valS at e;cases e
 | succ r ih =>
   intro i p v e
   unfold valS fit at e
   repeat' (first | split at e | dsimp only at e)
   all_goals first | exact ih _ _ _ e | cases e
theorem yJD {len:Int} {cuts dens:List Int} {an ad vn vd:Int}:valR len cuts dens an ad vn vd≠.error 0:=by
 intro hr
 unfold valR at hr
 split at hr
 · split at hr
   · exact yJC _ _ _ _ _ _ _ hr
   · cases hr
 · rename_i h5;exact h5 (Except.error.inj hr)
def ansQ (kind an ad bn bd:Int) (c:Ck):Except Int Rat:=if kind=1 then c.value an ad bn bd else c.mark an ad bn bd
theorem yH8 {a:Nat} (ha2:a<l.length) (hf:finC l) (kind:Int) {an ad bn bd:Int} (cn cd:Int) (ha:I64 an) (ha':I64 ad) (hb:I64 bn) (hb':I64 bd) (K:Int→Int→Int→Prop) :
   ygV (cks l) a kind an ad bn bd cn cd K=exK (ansQ kind an ad bn bd (l.getD a default)) K:=by
 unfold ygV ynr ansQ
 obtain ⟨f1,f2⟩:=hf a ha2
 rw [yG4,Int.toNat_natCast,yMz ha2]
 by_cases h:kind=1
 · rw [ceT h,if_pos h,asT (by omega),asT (by omega),asCk,ck0,ck1,ck2,yH7 (by omega) (by omega) ha ha' hb hb'];rfl
 · rw [ceF h,if_neg h,asT (by omega),asT (by omega),asCk,ck0,ck1,ck2,yJA (by omega) (by omega) ha ha' hb hb'];rfl
theorem yH9 {len:Int} {cuts dens:List Int} (K:Bool→Prop):yfg len (ints cuts) (ints dens) K=K (decide (cuts.length>60)||decide (dens.length>60)):=by
 unfold yfg yoR
 rw [yau,yau]
 by_cases h:cuts.length>60
 · rw [cbT (by omega),decide_eq_true h];rfl
 · rw [cbF (by omega),decide_eq_false h,Bool.false_or]
   congr 1;rw [decide_eq_decide];omega
def shr (c:Ck) (n:Int):Rat:=(totC c.cuts c.dens:Rat) / (n:Rat)
theorem yIa {n d:Int} (hn:-1000000000000000000≤n∧n≤1000000000000000000) (hd:1≤d∧d≤1000000000000000000):small ((n:Rat) / (d:Rat)):=by
 have e:(n:Rat) / (d:Rat)=mkRat n d.toNat:=by
   rw [Rat.mkRat_eq_div]
   have h1:((d.toNat:Nat):Int)=d:=by omega
   have h2:((d.toNat:Nat):Rat)=(d:Rat):=by rw [← Rat.intCast_natCast,h1]
   rw [h2]
 rw [e]
 unfold small
 rw [Rat.num_mkRat,Rat.den_mkRat,if_neg (by omega),if_neg (by omega)]
 have g0:0<d.toNat.gcd n.natAbs:=Nat.gcd_pos_of_pos_left _ (by omega)
 have h1:(n / (d.toNat.gcd n.natAbs:Nat)).natAbs≤n.natAbs:=by
   rw [Int.natAbs_ediv_of_dvd,Int.natAbs_natCast]
   · exact Nat.div_le_self _ _
   · rw [← Int.dvd_natAbs,Int.ofNat_dvd];exact Nat.gcd_dvd_right _ _
 have h2:d.toNat / d.toNat.gcd n.natAbs≤d.toNat:=Nat.div_le_self _ _
 generalize n / (d.toNat.gcd n.natAbs:Nat)=x at *
 generalize d.toNat / d.toNat.gcd n.natAbs=y at *
 omega
end
end Go.Pf.Vc
namespace Go.Pf.Vc
open Go Go.Pf
def Fr (D B:Int) (q:Rat):Prop:=∃ n:Int,-B≤n∧n≤B∧q=(n:Rat) / (D:Rat)
theorem Fr.small {D B:Int} {q:Rat} (h:Fr D B q) (hD:1≤D∧D≤1000000000000000000) (hB:B≤1000000000000000000):small q:=by
 obtain ⟨n,h1,h2,rfl⟩:=h
 exact yIa ⟨by omega,by omega⟩ hD
theorem Fr.add {D B1 B2:Int} {q r:Rat} (h:Fr D B1 q) (k:Fr D B2 r):Fr D (B1+B2) (q+r):=by
 obtain ⟨n,h1,h2,rfl⟩:=h
 obtain ⟨m,k1,k2,rfl⟩:=k
 exact ⟨n+m,by omega,by omega,by rw [Rat.intCast_add];grind⟩
theorem Fr.sub {D B1 B2:Int} {q r:Rat} (h:Fr D B1 q) (k:Fr D B2 r):Fr D (B1+B2) (q-r):=by
 obtain ⟨n,h1,h2,rfl⟩:=h
 obtain ⟨m,k1,k2,rfl⟩:=k
 exact ⟨n-m,by omega,by omega,by rw [Rat.intCast_sub];grind⟩
theorem Fr.mono {D B1 B2:Int} {q:Rat} (h:Fr D B1 q) (hb:B1≤B2):Fr D B2 q:=by
 obtain ⟨n,h1,h2,e⟩:=h
 exact ⟨n,by omega,by omega,e⟩
section
variable {len:Int} {cuts dens:List Int}
def rem (cuts dens:List Int):Nat→Nat→Int
 | 0,_=>0
 | r+1,i=>dens.getD i 0*(cuts.getD (i+1) 0-cuts.getD i 0)+rem cuts dens r (i+1)
end
end Go.Pf.Vc
namespace Go.Pf.Vc
open Go Go.Pf
structure Qy where
 agent:Int
 kind:Int
 an:Int
 ad:Int
 bn:Int
 bd:Int
 cn:Int
 cd:Int
 deriving DecidableEq
instance:Inhabited Qy:=⟨⟨0,0,0,0,0,0,0,0⟩⟩
def encQ (q:Qy):PV:=qrow q.agent q.kind q.an q.ad q.bn q.bd q.cn q.cd
def logs (l:List Qy):List PV:=l.map encQ
theorem ye9 (l:List Qy):(logs l).length=l.length:=List.length_map ..
theorem yCg {l:List Qy} {i:Nat} (h:i<l.length):List.getD (logs l) i .nils=encQ (l.getD i default):=by
 unfold logs
 rw [List.getD_eq_getElem?_getD,List.getD_eq_getElem?_getD,List.getElem?_map,List.getElem?_eq_getElem h]
 rfl
theorem asQ {q:Qy} {P:Prop}:asr (conf (.agg [.i .i64,.i .u8,.i .i64,.i .i64,.i .i64,.i .i64,.i .i64,.i .i64]) (encQ q)) P=P:=rfl
structure Sp where
 a:Int
 b:Int
 c:Int
 d:Int
 deriving DecidableEq
instance:Inhabited Sp:=⟨⟨0,0,0,0⟩⟩
def encS (s:Sp):PV:=.agg [.int .i64 s.a,.int .i64 s.b,.int .i64 s.c,.int .i64 s.d]
def spans (l:List Sp):List PV:=l.map encS
theorem yIb (l:List Sp):(spans l).length=l.length:=List.length_map ..
theorem yJE {l:List Sp} {i:Nat} (h:i<l.length):List.getD (spans l) i .nils=encS (l.getD i default):=by
 unfold spans
 rw [List.getD_eq_getElem?_getD,List.getD_eq_getElem?_getD,List.getElem?_map,List.getElem?_eq_getElem h]
 rfl
theorem asS {s:Sp} {P:Prop}:asr (conf (.agg [.i .i64,.i .i64,.i .i64,.i .i64]) (encS s)) P=P:=rfl
end Go.Pf.Vc
namespace Go.Pf.Vc
open Go Go.Pf
section
variable {l:List Ck}
theorem yLd (x y:Rat):decide (cmpQ x y≥0)=!decide (x<y):=by
 unfold cmpQ
 by_cases h:x<y
 · simp [h]
 · by_cases h2:y<x <;> simp [h,h2]
end
end Go.Pf.Vc
namespace Go.Pf.Vc
open Go Go.Pf
def dsR:DS:=.a [.i .i64,.i .i64]
def dsC:DS:=.a [.i .i64,.s (.i .i64),.s (.i .i64)]
def dsQ:DS:=.a [.i .i64,.i .u8,dsR,dsR,dsR]
theorem ym0 {n:Int} (h:inK .i64 n):I64 n:=by
 have e1:IntKind.i64.min=-9223372036854775808:=by decide
 have e2:IntKind.i64.max=9223372036854775807:=by decide
 unfold inK at h
 rw [e1,e2] at h
 exact h
theorem F_i {c:List PV} (h:HasF (.i .i64) c):∃ n,c=[.int .i64 n]∧I64 n:=by
 simp only [HasF] at h
 obtain ⟨n,e,k⟩:=h
 exact ⟨n,e,ym0 k⟩
theorem yCh:∀ (rows:List PV),(∀ x∈rows,x.isAgg=(DS.i .i64).isA∧HasF (.i .i64) x.cells)→∃ l:List Int,rows=ints l∧∀ n∈l,I64 n
 | [],_=>⟨[],rfl,by simp⟩
 | x::r,h=>by
   obtain ⟨l,e,hl⟩:=yCh r (fun y hy=>h y (List.mem_cons_of_mem _ hy))
   obtain ⟨h1,h2⟩:=h x (List.mem_cons_self ..)
   obtain ⟨n,e2,hn⟩:=F_i h2
   have ex:x=.int .i64 n:=by
     cases x <;> first | (simp only [PV.cells,List.cons.injEq,and_true] at e2;exact e2) | (cases h1)
   refine ⟨n::l,by rw [ex,e];rfl,?_⟩
   intro m hm
   rcases List.mem_cons.1 hm with rfl | hm
   · exact hn
   · exact hl m hm
def Ck.i64 (c:Ck):Prop:=I64 c.len∧(∀ n∈c.cuts,I64 n)∧∀ n∈c.dens,I64 n
theorem F_c {c:List PV} (h:HasF dsC c):∃ k:Ck,c=[.int .i64 k.len,.data (ints k.cuts),.data (ints k.dens)]∧k.i64∧k.cuts.length≤9223372036854775807∧k.dens.length≤9223372036854775807:=by
 simp only [dsC,HasF,HasL] at h
 obtain ⟨c1,c2,rfl,⟨n,rfl,hn⟩,c3,c4,rfl,⟨r1,rfl,l1,h1⟩,c5,c6,rfl,⟨r2,rfl,l2,h2⟩,rfl⟩:=h
 obtain ⟨a,rfl,ha⟩:=yCh r1 (fun x hx=>⟨(h1 x hx).1,by simp only [HasF];exact (h1 x hx).2⟩)
 obtain ⟨b,rfl,hb⟩:=yCh r2 (fun x hx=>⟨(h2 x hx).1,by simp only [HasF];exact (h2 x hx).2⟩)
 rw [yau] at l1 l2
 exact ⟨⟨n,a,b⟩,rfl,⟨ym0 hn,ha,hb⟩,l1,l2⟩
theorem yJF {x:PV} {l:List DS} (h:x.isAgg=(DS.a l).isA):x=.agg x.cells:=by
 cases x <;> first | rfl | cases h
theorem yIc {x y:PV} (h:x.isAgg=false) (e:x.cells=[y]):x=y:=by
 cases x <;> first | (simp only [PV.cells,List.cons.injEq,and_true] at e;exact e) | cases h
end Go.Pf.Vc
namespace Go.Pf.Vc
abbrev RS:Type:=Rat×Rat
def canon:List RS→Prop
 | []=>True
 | s::r=>s.1<s.2∧(∀ t∈r,s.2<t.1)∧canon r
end Go.Pf.Vc
namespace Go.Pf.Vc
def maxR (a b:Rat):Rat:=if a<b then b else a
end Go.Pf.Vc
namespace Go.Pf.Vc
def incrR:List Rat→Prop
 | []=>True
 | x::r=>(∀ y∈r,x<y)∧incrR r
def jn (f:Rat→Bool):List Rat→Option RS→List RS
 | x::y::r,none=>if f x then jn f (y::r) (some (x,y)) else jn f (y::r) none
 | x::y::r,some c=>if f x then (if c.2=x then jn f (y::r) (some (c.1,y)) else c::jn f (y::r) (some (x,y))) else jn f (y::r) (some c)
 | _,none=>[]
 | _,some c=>[c]
end Go.Pf.Vc
namespace Go.Pf.Vc
def minR (a b:Rat):Rat:=if a<b then a else b
theorem yli (a b:Rat):a≤maxR a b∧b≤maxR a b∧(maxR a b=a∨maxR a b=b):=by unfold maxR;split <;> grind
end Go.Pf.Vc
