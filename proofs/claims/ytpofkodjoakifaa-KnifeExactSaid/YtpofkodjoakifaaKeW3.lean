/- Part 3 of what the statement rests on: a verified evaluator over pure values, the conditions of the program's functions, and their plain laws. -/
import Derived.Test.YtpofkodjoakifaaKeW2
namespace Go.Pf.Vc
open Go Go.Pf
set_option linter.unusedVariables false
theorem yyx (p0:Int) (p1:Int) (p2:Int) (p3:Int) (r0:Int) (r1:Int) (r2:Int) (h:∀ K:Int→Int→Int→Prop,K r0 r1 r2→yaj p0 p1 p2 p3 K) (K:Int→Int→Int→Prop):yaj p0 p1 p2 p3 K=K r0 r1 r2 :=
 propext ⟨fun k=>detC (yfJ [] yaT) (as:=[(.agg [(.int .i64 p0),(.int .i64 p1)]),(.agg [(.int .i64 p2),(.int .i64 p3)])]) (x:=(.tup [(.agg [(.int .i64 r0),(.int .i64 r1)]),(.int .i64 r2)])) (fun K' k'=>h (fun r0 r1 r2=>K' (.tup [(.agg [(.int .i64 r0),(.int .i64 r1)]),(.int .i64 r2)])) k') (K:=fun x=>match x with | (.tup [(.agg [(.int .i64 r0),(.int .i64 r1)]),(.int .i64 r2)])=>K r0 r1 r2 | _=>False) k,h K⟩
theorem yyy (p0:Int) (p1:Int) (p2:Int) (p3:Int) (r0:Int) (r1:Int) (r2:Int) (h:∀ K:Int→Int→Int→Prop,K r0 r1 r2→yah p0 p1 p2 p3 K) (K:Int→Int→Int→Prop):yah p0 p1 p2 p3 K=K r0 r1 r2 :=
 propext ⟨fun k=>detC (yev [] yaT) (as:=[(.agg [(.int .i64 p0),(.int .i64 p1)]),(.agg [(.int .i64 p2),(.int .i64 p3)])]) (x:=(.tup [(.agg [(.int .i64 r0),(.int .i64 r1)]),(.int .i64 r2)])) (fun K' k'=>h (fun r0 r1 r2=>K' (.tup [(.agg [(.int .i64 r0),(.int .i64 r1)]),(.int .i64 r2)])) k') (K:=fun x=>match x with | (.tup [(.agg [(.int .i64 r0),(.int .i64 r1)]),(.int .i64 r2)])=>K r0 r1 r2 | _=>False) k,h K⟩
theorem yyz (p0:Int) (p1:Int) (p2:Int) (p3:Int) (r0:Int) (r1:Int) (r2:Int) (h:∀ K:Int→Int→Int→Prop,K r0 r1 r2→yak p0 p1 p2 p3 K) (K:Int→Int→Int→Prop):yak p0 p1 p2 p3 K=K r0 r1 r2 :=
 propext ⟨fun k=>detC (yfK [] yaT) (as:=[(.agg [(.int .i64 p0),(.int .i64 p1)]),(.agg [(.int .i64 p2),(.int .i64 p3)])]) (x:=(.tup [(.agg [(.int .i64 r0),(.int .i64 r1)]),(.int .i64 r2)])) (fun K' k'=>h (fun r0 r1 r2=>K' (.tup [(.agg [(.int .i64 r0),(.int .i64 r1)]),(.int .i64 r2)])) k') (K:=fun x=>match x with | (.tup [(.agg [(.int .i64 r0),(.int .i64 r1)]),(.int .i64 r2)])=>K r0 r1 r2 | _=>False) k,h K⟩
theorem yyA (p0:Int) (p1:Int) (p2:Int) (p3:Int) (r0:Int) (r1:Int) (r2:Int) (h:∀ K:Int→Int→Int→Prop,K r0 r1 r2→yar p0 p1 p2 p3 K) (K:Int→Int→Int→Prop):yar p0 p1 p2 p3 K=K r0 r1 r2 :=
 propext ⟨fun k=>detC (yjv [] yaT) (as:=[(.agg [(.int .i64 p0),(.int .i64 p1)]),(.agg [(.int .i64 p2),(.int .i64 p3)])]) (x:=(.tup [(.agg [(.int .i64 r0),(.int .i64 r1)]),(.int .i64 r2)])) (fun K' k'=>h (fun r0 r1 r2=>K' (.tup [(.agg [(.int .i64 r0),(.int .i64 r1)]),(.int .i64 r2)])) k') (K:=fun x=>match x with | (.tup [(.agg [(.int .i64 r0),(.int .i64 r1)]),(.int .i64 r2)])=>K r0 r1 r2 | _=>False) k,h K⟩
end Go.Pf.Vc
namespace Go.Pf.Vc
open Go Go.Pf
set_option maxRecDepth 100000
abbrev yds:Type:=List PV→(Int→Prop)→Prop
def ybi (x0:List PV→Int→Int→Bool→Prop):Nat→List PV→Int→Int→Prop
 | 0,_,_,_=>False
 | n+1,l0,i1,i2 =>
 (cbr (decide (i2<(((List.length l0):Nat):Int)))
 (asr (decide ((0:Int)≤i2))
 (asr (decide (i2<(((List.length l0):Nat):Int)))
 (asr (conf (.one (.i .i64)) (List.getD l0 (i2.toNat) .nils))
 (ybi x0 n l0 (if (intOfV (List.getD l0 (i2.toNat) .nils))<i1 then (intOfV (List.getD l0 (i2.toNat) .nils)) else i1) (IntKind.i64.wrap (i2+(1:Int)))))))
 (x0 l0 i1 i2 false))
def yhH (p0:List PV) (K:Int→Prop):Prop :=
 (cbr (decide ((((List.length p0):Nat):Int)<(1:Int)))
 False
 (asr (decide ((0:Int)<(((List.length p0):Nat):Int)))
 (asr (conf (.one (.i .i64)) (List.getD p0 0 .nils))
 (∃ n:Nat,ybi
 (fun _ yi1 _ _=>(K yi1))
 n p0 (intOfV (List.getD p0 0 .nils)) (1:Int)))))
def ych (p0:List PV) (K:Int→Prop):Prop:=yhH p0 K
def yhI (w:yds) (as:List PV) (K:PV→Prop):Prop :=
 match as with
 | [(.data p0)]=>w p0 (fun r0=>K (.int .i64 r0))
 | _=>False
def ymJ (as:List PV) (K:PV→Prop):Prop:=yhI ych as K
def ycG (F:Frm) (H:Hp) (A0:List PV→Int→Int→Prop):Prop :=
 match F,H with
 | [(0,.v (.data l0)),(3,.v (.int .i64 i1)),(4,.v (.int .i64 i2))],[]=>(A0 l0 i1 i2)
 | _,_=>False
def yf5 (Q:Ex→Frm→Hp→Prop):List PV→Int→Int→Bool→Prop:=(fun l0 i1 i2 b3=>Q (.exit 0) [(0,.v (.data l0)),(3,.v (.int .i64 i1)),(4,.v (.int .i64 i2)),(15,.v (.bool b3))] [])
def yfd (Q:Ex→Frm→Hp→Prop) (n:Nat) (F:Frm) (H:Hp):Prop:=ycG F H (fun l0 i1 i2=>ybi (yf5 Q) n l0 i1 i2)
def yfL:LP:=fun id F H Q =>
 bif Nat.beq id 10434000 then ycG F H (fun l0 i1 i2=>∃ n:Nat,ybi (yf5 Q) n l0 i1 i2) else
 False
def yhJ (e:List (Nat×EffF)):SE:=⟨(E e),lookS [],lookI [],yfL⟩
theorem yk8 (e:List (Nat×EffF)) (he:EG e):SEOk (yhJ e):=yag trivial trivial he.ok
theorem ynf (e:List (Nat×EffF)) ( Q n l0 i1 i2):WC (E e) (callW (yhJ e) 5) (yfL) ykd [(0,.v (.data l0)),(3,.v (.int .i64 i1)),(4,.v (.int .i64 i2))] [] (fun x F' H'=>match x with | .norm=>yfd Q n F' H' | .exit i=>Q (.exit i) F' H' | .ret=>Q .ret F' H')=ybi (yf5 Q) (n+1) l0 i1 i2:=by kernel_rfl
theorem ypY (e:List (Nat×EffF)) (_:EG e):LpOk (E e) (yfL) ykd:=(yaf (by kernel_rfl))
theorem yow (e:List (Nat×EffF)) (he:EG e):∀ F H Q,yfL 10434000 F H Q→LoopT (E e) ykd F H Q:=by
 intro F H Q h
 have go:=LoopT.intro (yaH (yk8 e he) 5) (ypY e he) (yfd Q) (by
   intro F H h
   unfold yfd ycG at h
   split at h
   · exact h
   · exact h) (by
   intro n F H h
   unfold yfd ycG at h
   split at h
   · exact (ynf ..).mpr h
   · exact h.elim)
 have h:ycG F H _:=h
 unfold ycG at h
 split at h
 · obtain ⟨n,h⟩:=h;exact go n _ _ h
 · exact h.elim
theorem yuc (e:List (Nat×EffF)) ( p0 K):WP (yhJ e) 6 yvA [(.data p0)] K=yhH p0 (fun r0=>K (.int .i64 r0)):=by kernel_rfl
theorem yud (e:List (Nat×EffF)) (he:EG e):OkF (E e) ymJ yeI:=by
 intro as K h
 unfold ymJ yhI at h
 split at h
 · exact WP_ok (yk8 e he) (ybk (l:=[(10434000,ykd)]) ⟨yow e he,trivial⟩ (by kernel_rfl)) (by kernel_rfl) (by kernel_rfl) (fun _=>yab (by kernel_rfl) _) (he.num _ (by kernel_rfl)) ((yuc ..).mpr h)
 · exact h.elim
abbrev ydt:Type:=List PV→(Int→Prop)→Prop
def ybj (x0:List PV→Int→Int→Bool→Prop):Nat→List PV→Int→Int→Prop
 | 0,_,_,_=>False
 | n+1,l0,i1,i2 =>
 (cbr (decide (i2<(((List.length l0):Nat):Int)))
 (asr (decide ((0:Int)≤i2))
 (asr (decide (i2<(((List.length l0):Nat):Int)))
 (asr (conf (.one (.i .i64)) (List.getD l0 (i2.toNat) .nils))
 (ybj x0 n l0 (if (intOfV (List.getD l0 (i2.toNat) .nils))>i1 then (intOfV (List.getD l0 (i2.toNat) .nils)) else i1) (IntKind.i64.wrap (i2+(1:Int)))))))
 (x0 l0 i1 i2 false))
def yhK (p0:List PV) (K:Int→Prop):Prop :=
 (cbr (decide ((((List.length p0):Nat):Int)<(1:Int)))
 False
 (asr (decide ((0:Int)<(((List.length p0):Nat):Int)))
 (asr (conf (.one (.i .i64)) (List.getD p0 0 .nils))
 (∃ n:Nat,ybj
 (fun _ yi1 _ _=>(K yi1))
 n p0 (intOfV (List.getD p0 0 .nils)) (1:Int)))))
def yci (p0:List PV) (K:Int→Prop):Prop:=yhK p0 K
def yhL (w:ydt) (as:List PV) (K:PV→Prop):Prop :=
 match as with
 | [(.data p0)]=>w p0 (fun r0=>K (.int .i64 r0))
 | _=>False
def ymK (as:List PV) (K:PV→Prop):Prop:=yhL yci as K
def ycH (F:Frm) (H:Hp) (A0:List PV→Int→Int→Prop):Prop :=
 match F,H with
 | [(0,.v (.data l0)),(3,.v (.int .i64 i1)),(4,.v (.int .i64 i2))],[]=>(A0 l0 i1 i2)
 | _,_=>False
def yf6 (Q:Ex→Frm→Hp→Prop):List PV→Int→Int→Bool→Prop:=(fun l0 i1 i2 b3=>Q (.exit 0) [(0,.v (.data l0)),(3,.v (.int .i64 i1)),(4,.v (.int .i64 i2)),(15,.v (.bool b3))] [])
def yfe (Q:Ex→Frm→Hp→Prop) (n:Nat) (F:Frm) (H:Hp):Prop:=ycH F H (fun l0 i1 i2=>ybj (yf6 Q) n l0 i1 i2)
def yfM:LP:=fun id F H Q =>
 bif Nat.beq id 64079100 then ycH F H (fun l0 i1 i2=>∃ n:Nat,ybj (yf6 Q) n l0 i1 i2) else
 False
def yhM (e:List (Nat×EffF)):SE:=⟨(E e),lookS [],lookI [],yfM⟩
theorem yk9 (e:List (Nat×EffF)) (he:EG e):SEOk (yhM e):=yag trivial trivial he.ok
theorem yng (e:List (Nat×EffF)) ( Q n l0 i1 i2):WC (E e) (callW (yhM e) 5) (yfM) yke [(0,.v (.data l0)),(3,.v (.int .i64 i1)),(4,.v (.int .i64 i2))] [] (fun x F' H'=>match x with | .norm=>yfe Q n F' H' | .exit i=>Q (.exit i) F' H' | .ret=>Q .ret F' H')=ybj (yf6 Q) (n+1) l0 i1 i2:=by kernel_rfl
theorem ypZ (e:List (Nat×EffF)) (_:EG e):LpOk (E e) (yfM) yke:=(yaf (by kernel_rfl))
theorem yox (e:List (Nat×EffF)) (he:EG e):∀ F H Q,yfM 64079100 F H Q→LoopT (E e) yke F H Q:=by
 intro F H Q h
 have go:=LoopT.intro (yaH (yk9 e he) 5) (ypZ e he) (yfe Q) (by
   intro F H h
   unfold yfe ycH at h
   split at h
   · exact h
   · exact h) (by
   intro n F H h
   unfold yfe ycH at h
   split at h
   · exact (yng ..).mpr h
   · exact h.elim)
 have h:ycH F H _:=h
 unfold ycH at h
 split at h
 · obtain ⟨n,h⟩:=h;exact go n _ _ h
 · exact h.elim
theorem yue (e:List (Nat×EffF)) ( p0 K):WP (yhM e) 6 yvB [(.data p0)] K=yhK p0 (fun r0=>K (.int .i64 r0)):=by kernel_rfl
theorem yuf (e:List (Nat×EffF)) (he:EG e):OkF (E e) ymK ydq:=by
 intro as K h
 unfold ymK yhL at h
 split at h
 · exact WP_ok (yk9 e he) (ybk (l:=[(64079100,yke)]) ⟨yox e he,trivial⟩ (by kernel_rfl)) (by kernel_rfl) (by kernel_rfl) (fun _=>yab (by kernel_rfl) _) (he.num _ (by kernel_rfl)) ((yue ..).mpr h)
 · exact h.elim
abbrev yap:Type:=Int→List PV→List PV→(Int→Prop)→Prop
def ybN (a0:yds) (a1:ydt) (x0:Int→Prop) (x1:Int→List PV→List PV→Int→Int→Bool→Prop):Nat→Int→List PV→List PV→Int→Int→Prop
 | 0,_,_,_,_,_=>False
 | n+1,i0,l1,l2,i3,i4 =>
 (cbr (decide (i4<i3))
 (asr (decide ((0:Int)≤i4))
 (asr (decide (i4<(((List.length l1):Nat):Int)))
 (asr (conf (.one (.i .i64)) (List.getD l1 (i4.toNat) .nils))
 (asr (decide ((0:Int)≤(IntKind.i64.wrap (i4+(1:Int)))))
 (asr (decide ((IntKind.i64.wrap (i4+(1:Int)))<(((List.length l1):Nat):Int)))
 (asr (conf (.one (.i .i64)) (List.getD l1 ((IntKind.i64.wrap (i4+(1:Int))).toNat) .nils))
 (cbr (decide ((intOfV (List.getD l1 (i4.toNat) .nils))≥(intOfV (List.getD l1 ((IntKind.i64.wrap (i4+(1:Int))).toNat) .nils))))
 (x0 (8:Int))
 (ybN a0 a1 x0 x1 n i0 l1 l2 i3 (IntKind.i64.wrap (i4+(1:Int)))))))))))
 (x1 i0 l1 l2 i3 i4 false))
def ylK (a0:yds) (a1:ydt) (p0:Int) (p1 p2:List PV) (K:Int→Prop):Prop :=
 (cbr (decide (p0>(1000:Int)))
 (K (4:Int))
 (cbr (decide ((((List.length p1):Nat):Int)>(40:Int)))
 (K (4:Int))
 (cbr (decide (p0<(1:Int)))
 (K (8:Int))
 (cbr (decide ((((List.length p1):Nat):Int)<(2:Int)))
 (K (8:Int))
 (cbr ((((List.length p2):Nat):Int) !=(IntKind.i64.wrap ((((List.length p1):Nat):Int)-(1:Int))))
 (K (8:Int))
 (asr (decide ((0:Int)<(((List.length p1):Nat):Int)))
 (asr (conf (.one (.i .i64)) (List.getD p1 0 .nils))
 (cbr ((intOfV (List.getD p1 0 .nils)) !=(0:Int))
 (K (8:Int))
 (asr (decide ((0:Int)≤(IntKind.i64.wrap ((((List.length p1):Nat):Int)-(1:Int)))))
 (asr (decide ((IntKind.i64.wrap ((((List.length p1):Nat):Int)-(1:Int)))<(((List.length p1):Nat):Int)))
 (asr (conf (.one (.i .i64)) (List.getD p1 ((IntKind.i64.wrap ((((List.length p1):Nat):Int)-(1:Int))).toNat) .nils))
 (cbr ((intOfV (List.getD p1 ((IntKind.i64.wrap ((((List.length p1):Nat):Int)-(1:Int))).toNat) .nils)) != p0)
 (K (8:Int))
 (∃ n:Nat,ybN a0 a1
 (fun yi0=>(K yi0))
 (fun _ _ yl3 _ _ _=>(a0 yl3 (fun yi7 =>
 (cbr (decide (yi7<(0:Int)))
 (K (8:Int))
 (a1 yl3 (fun yi8 =>
 (cbr (decide (yi8>(12:Int)))
 (K (8:Int))
 (a1 yl3 (fun yi9 =>
 (cbr (yi9 ==(0:Int))
 (K (8:Int))
 (K (0:Int))))))))))))
 n p0 p1 p2 (IntKind.i64.wrap ((((List.length p1):Nat):Int)-(1:Int))) (0:Int))))))))))))))
def yai (p0:Int) (p1 p2:List PV) (K:Int→Prop):Prop:=ylK ych yci p0 p1 p2 K
def yc8 (w:yap) (as:List PV) (K:PV→Prop):Prop :=
 match as with
 | [(.agg [(.int .i64 p0),(.data p1),(.data p2)])]=>w p0 p1 p2 (fun r0=>K (.int .i64 r0))
 | _=>False
def yqu (as:List PV) (K:PV→Prop):Prop:=yc8 yai as K
def yd1 (F:Frm) (H:Hp) (A0:Int→List PV→List PV→Int→Int→Prop):Prop :=
 match F,H with
 | [(1,.box (.agg [(.int .i64 i0),(.data l1),(.data l2)])),(49,.v (.int .i64 i3)),(50,.v (.int .i64 i4))],[]=>(A0 i0 l1 l2 i3 i4)
 | _,_=>False
def yhN (Q:Ex→Frm→Hp→Prop):Int→Prop:=(fun i0=>Q .ret [(2,.v (.int .i64 i0))] [])
def yhO (Q:Ex→Frm→Hp→Prop):Int→List PV→List PV→Int→Int→Bool→Prop:=(fun i0 l1 l2 i3 i4 b5=>Q (.exit 0) [(1,.box (.agg [(.int .i64 i0),(.data l1),(.data l2)])),(49,.v (.int .i64 i3)),(50,.v (.int .i64 i4)),(51,.v (.bool b5))] [])
def ygW (a0:yds) (a1:ydt) (Q:Ex→Frm→Hp→Prop) (n:Nat) (F:Frm) (H:Hp):Prop:=yd1 F H (fun i0 l1 l2 i3 i4=>ybN a0 a1 (yhN Q) (yhO Q) n i0 l1 l2 i3 i4)
def yh9 (a0:yds) (a1:ydt):LP:=fun id F H Q =>
 bif Nat.beq id 87419700 then yd1 F H (fun i0 l1 l2 i3 i4=>∃ n:Nat,ybN a0 a1 (yhN Q) (yhO Q) n i0 l1 l2 i3 i4) else
 False
def ylL (e:List (Nat×EffF)) (a0:yds) (a1:ydt):SE:=⟨(E e),lookS [(yeI,yhI a0),(ydq,yhL a1)],lookI [],yh9 a0 a1⟩
theorem yoy (e:List (Nat×EffF)) (he:EG e):SEOk (ylL e ych yci):=yag ⟨(yud e he),(yuf e he),trivial⟩ trivial he.ok
theorem yp0 (e:List (Nat×EffF)) (a0 a1 Q n i0 l1 l2 i3 i4):WC (E e) (callW (ylL e a0 a1) 5) (yh9 a0 a1) ykf [(1,.box (.agg [(.int .i64 i0),(.data l1),(.data l2)])),(49,.v (.int .i64 i3)),(50,.v (.int .i64 i4))] [] (fun x F' H'=>match x with | .norm=>ygW a0 a1 Q n F' H' | .exit i=>Q (.exit i) F' H' | .ret=>Q .ret F' H')=ybN a0 a1 (yhN Q) (yhO Q) (n+1) i0 l1 l2 i3 i4:=by kernel_rfl
theorem yug (e:List (Nat×EffF)) (_:EG e):LpOk (E e) (yh9 ych yci) ykf:=(yaf (by kernel_rfl))
theorem ysw (e:List (Nat×EffF)) (he:EG e):∀ F H Q,yh9 ych yci 87419700 F H Q→LoopT (E e) ykf F H Q:=by
 intro F H Q h
 have go:=LoopT.intro (yaH (yoy e he) 5) (yug e he) (ygW ych yci Q) (by
   intro F H h
   unfold ygW yd1 at h
   split at h
   · exact h
   · exact h) (by
   intro n F H h
   unfold ygW yd1 at h
   split at h
   · exact (yp0 ..).mpr h
   · exact h.elim)
 have h:yd1 F H _:=h
 unfold yd1 at h
 split at h
 · obtain ⟨n,h⟩:=h;exact go n _ _ h
 · exact h.elim
theorem yyB (e:List (Nat×EffF)) (a0 a1 p0 p1 p2 K):WP (ylL e a0 a1) 6 yAd [(.agg [(.int .i64 p0),(.data p1),(.data p2)])] K=ylK a0 a1 p0 p1 p2 (fun r0=>K (.int .i64 r0)):=by kernel_rfl
theorem ydN (e:List (Nat×EffF)) (he:EG e):OkF (E e) yqu ybl:=by
 intro as K h
 unfold yqu yc8 at h
 split at h
 · exact WP_ok (yoy e he) (ybk (l:=[(87419700,ykf)]) ⟨ysw e he,trivial⟩ (by kernel_rfl)) (by kernel_rfl) (by kernel_rfl) (fun _=>yab (by kernel_rfl) _) (he.num _ (by kernel_rfl)) ((yyB ..).mpr h)
 · exact h.elim
abbrev yjw:Type:=Int→List PV→List PV→(Int→Int→Prop)→Prop
def ybO (a0:yap) (x0:Int→List PV→List PV→Int→List PV→Int→Int→Bool→Prop):Nat→Int→List PV→List PV→Int→List PV→Int→Int→Prop
 | 0,_,_,_,_,_,_,_=>False
 | n+1,i0,l1,l2,i3,l4,i5,i6 =>
 (cbr (decide (i6<i5))
 (asr (decide ((0:Int)≤i6))
 (asr (decide (i6<(((List.length l4):Nat):Int)))
 (asr (conf (.one (.i .i64)) (List.getD l4 (i6.toNat) .nils))
 (asr (decide ((0:Int)≤(IntKind.i64.wrap (i6+(1:Int)))))
 (asr (decide ((IntKind.i64.wrap (i6+(1:Int)))<(((List.length l1):Nat):Int)))
 (asr (conf (.one (.i .i64)) (List.getD l1 ((IntKind.i64.wrap (i6+(1:Int))).toNat) .nils))
 (asr (decide ((0:Int)≤i6))
 (asr (decide (i6<(((List.length l1):Nat):Int)))
 (asr (conf (.one (.i .i64)) (List.getD l1 (i6.toNat) .nils))
 (ybO a0 x0 n i0 l1 l2 (IntKind.i64.wrap (i3+(IntKind.i64.wrap ((intOfV (List.getD l4 (i6.toNat) .nils))*(IntKind.i64.wrap ((intOfV (List.getD l1 ((IntKind.i64.wrap (i6+(1:Int))).toNat) .nils))-(intOfV (List.getD l1 (i6.toNat) .nils)))))))) l4 i5 (IntKind.i64.wrap (i6+(1:Int)))))))))))))
 (x0 i0 l1 l2 i3 l4 i5 i6 false))
def yia (a0:yap) (p0:Int) (p1 p2:List PV) (K:Int→Int→Prop):Prop :=
 (a0 p0 p1 p2 (fun yi0 =>
 (cbr (yi0 !=(0:Int))
 (K (0:Int) yi0)
 (∃ n:Nat,ybO a0
 (fun _ _ _ yi4 _ _ _ _=>(K yi4 (0:Int)))
 n p0 p1 p2 (0:Int) p2 (((List.length p2):Nat):Int) (0:Int)))))
def ydG (p0:Int) (p1 p2:List PV) (K:Int→Int→Prop):Prop:=yia yai p0 p1 p2 K
def ylM (w:yjw) (as:List PV) (K:PV→Prop):Prop :=
 match as with
 | [(.agg [(.int .i64 p0),(.data p1),(.data p2)])]=>w p0 p1 p2 (fun r0 r1=>K (.tup [(.int .i64 r0),(.int .i64 r1)]))
 | _=>False
def yqv (as:List PV) (K:PV→Prop):Prop:=ylM ydG as K
def yd2 (F:Frm) (H:Hp) (A0:Int→List PV→List PV→Int→List PV→Int→Int→Prop):Prop :=
 match F,H with
 | [(1,.box (.agg [(.int .i64 i0),(.data l1),(.data l2)])),(5,.v (.int .i64 i3)),(14,.v (.data l4)),(15,.v (.int .i64 i5)),(16,.v (.int .i64 i6))],[]=>(A0 i0 l1 l2 i3 l4 i5 i6)
 | _,_=>False
def yhP (Q:Ex→Frm→Hp→Prop):Int→List PV→List PV→Int→List PV→Int→Int→Bool→Prop:=(fun i0 l1 l2 i3 l4 i5 i6 b7=>Q (.exit 0) [(1,.box (.agg [(.int .i64 i0),(.data l1),(.data l2)])),(5,.v (.int .i64 i3)),(14,.v (.data l4)),(15,.v (.int .i64 i5)),(16,.v (.int .i64 i6)),(17,.v (.bool b7))] [])
def ygX (a0:yap) (Q:Ex→Frm→Hp→Prop) (n:Nat) (F:Frm) (H:Hp):Prop:=yd2 F H (fun i0 l1 l2 i3 l4 i5 i6=>ybO a0 (yhP Q) n i0 l1 l2 i3 l4 i5 i6)
def yib (a0:yap):LP:=fun id F H Q =>
 bif Nat.beq id 45203600 then yd2 F H (fun i0 l1 l2 i3 l4 i5 i6=>∃ n:Nat,ybO a0 (yhP Q) n i0 l1 l2 i3 l4 i5 i6) else
 False
def ylN (e:List (Nat×EffF)) (a0:yap):SE:=⟨(E e),lookS [(ybl,yc8 a0)],lookI [],yib a0⟩
theorem yoz (e:List (Nat×EffF)) (he:EG e):SEOk (ylN e yai):=yag ⟨(ydN e he),trivial⟩ trivial he.ok
theorem yp1 (e:List (Nat×EffF)) (a0 Q n i0 l1 l2 i3 l4 i5 i6):WC (E e) (callW (ylN e a0) 5) (yib a0) yki [(1,.box (.agg [(.int .i64 i0),(.data l1),(.data l2)])),(5,.v (.int .i64 i3)),(14,.v (.data l4)),(15,.v (.int .i64 i5)),(16,.v (.int .i64 i6))] [] (fun x F' H'=>match x with | .norm=>ygX a0 Q n F' H' | .exit i=>Q (.exit i) F' H' | .ret=>Q .ret F' H')=ybO a0 (yhP Q) (n+1) i0 l1 l2 i3 l4 i5 i6:=by kernel_rfl
theorem yuh (e:List (Nat×EffF)) (_:EG e):LpOk (E e) (yib yai) yki:=(yaf (by kernel_rfl))
theorem ysx (e:List (Nat×EffF)) (he:EG e):∀ F H Q,yib yai 45203600 F H Q→LoopT (E e) yki F H Q:=by
 intro F H Q h
 have go:=LoopT.intro (yaH (yoz e he) 5) (yuh e he) (ygX yai Q) (by
   intro F H h
   unfold ygX yd2 at h
   split at h
   · exact h
   · exact h) (by
   intro n F H h
   unfold ygX yd2 at h
   split at h
   · exact (yp1 ..).mpr h
   · exact h.elim)
 have h:yd2 F H _:=h
 unfold yd2 at h
 split at h
 · obtain ⟨n,h⟩:=h;exact go n _ _ h
 · exact h.elim
theorem yyC (e:List (Nat×EffF)) (a0 p0 p1 p2 K):WP (ylN e a0) 6 yAf [(.agg [(.int .i64 p0),(.data p1),(.data p2)])] K=yia a0 p0 p1 p2 (fun r0 r1=>K (.tup [(.int .i64 r0),(.int .i64 r1)])):=by kernel_rfl
theorem yqw (e:List (Nat×EffF)) (he:EG e):OkF (E e) yqv ygP:=by
 intro as K h
 unfold yqv ylM at h
 split at h
 · exact WP_ok (yoz e he) (ybk (l:=[(45203600,yki)]) ⟨ysx e he,trivial⟩ (by kernel_rfl)) (by kernel_rfl) (by kernel_rfl) (fun _=>yab (by kernel_rfl) _) (he.num _ (by kernel_rfl)) ((yyC ..).mpr h)
 · exact h.elim
abbrev ya9:Type:=Int→(Int→Int→Prop)→Prop
def yqx (p0:Int) (K:Int→Int→Prop):Prop :=
 (K p0 (1:Int))
def yaV (p0:Int) (K:Int→Int→Prop):Prop:=yqx p0 K
def yeW (w:ya9) (as:List PV) (K:PV→Prop):Prop :=
 match as with
 | [(.int .i64 p0)]=>w p0 (fun r0 r1=>K (.agg [(.int .i64 r0),(.int .i64 r1)]))
 | _=>False
def yqy (as:List PV) (K:PV→Prop):Prop:=yeW yaV as K
def yyD:LP:=fun _ _ _ _ =>
 False
def yqz (e:List (Nat×EffF)):SE:=⟨(E e),lookS [],lookI [],yyD⟩
theorem yw5 (e:List (Nat×EffF)) (he:EG e):SEOk (yqz e):=yag trivial trivial he.ok
theorem yyE (e:List (Nat×EffF)) ( p0 K):WP (yqz e) 6 yAj [(.int .i64 p0)] K=yqx p0 (fun r0 r1=>K (.agg [(.int .i64 r0),(.int .i64 r1)])):=by kernel_rfl
theorem yic (e:List (Nat×EffF)) (he:EG e):OkF (E e) yqy ya8:=by
 intro as K h
 unfold yqy yeW at h
 split at h
 · exact WP_ok (yw5 e he) (yaf (by kernel_rfl)) (by kernel_rfl) (by kernel_rfl) (fun _=>yab (by kernel_rfl) _) (he.num _ (by kernel_rfl)) ((yyE ..).mpr h)
 · exact h.elim
abbrev ybm:Type:=Int→Int→Int→Int→(Bool→Prop)→Prop
def ynh (a0:yfs) (p0 p1 p2 p3:Int) (K:Bool→Prop):Prop :=
 (a0 p0 p1 p2 p3 (fun yi0 _ =>
 (K (decide (yi0<(0:Int))))))
def yaZ (p0 p1 p2 p3:Int) (K:Bool→Prop):Prop:=ynh yc6 p0 p1 p2 p3 K
def yfN (w:ybm) (as:List PV) (K:PV→Prop):Prop :=
 match as with
 | [(.agg [(.int .i64 p0),(.int .i64 p1)]),(.agg [(.int .i64 p2),(.int .i64 p3)])]=>w p0 p1 p2 p3 (fun r0=>K (.bool r0))
 | _=>False
def ysy (as:List PV) (K:PV→Prop):Prop:=yfN yaZ as K
def yAC (_:yfs):LP:=fun _ _ _ _ =>
 False
def ysz (e:List (Nat×EffF)) (a0:yfs):SE:=⟨(E e),lookS [(yfk,yju a0)],lookI [],yAC a0⟩
theorem yyF (e:List (Nat×EffF)) (he:EG e):SEOk (ysz e yc6):=yag ⟨(ym9 e he),trivial⟩ trivial he.ok
theorem yAD (e:List (Nat×EffF)) (a0 p0 p1 p2 p3 K):WP (ysz e a0) 6 yCo [(.agg [(.int .i64 p0),(.int .i64 p1)]),(.agg [(.int .i64 p2),(.int .i64 p3)])] K=ynh a0 p0 p1 p2 p3 (fun r0=>K (.bool r0)):=by kernel_rfl
theorem yjx (e:List (Nat×EffF)) (he:EG e):OkF (E e) ysy ybs:=by
 intro as K h
 unfold ysy yfN at h
 split at h
 · exact WP_ok (yyF e he) (yaf (by kernel_rfl)) (by kernel_rfl) (by kernel_rfl) (fun _=>yab (by kernel_rfl) _) (he.num _ (by kernel_rfl)) ((yAD ..).mpr h)
 · exact h.elim
abbrev ybB:Type:=Int→List PV→List PV→Int→Int→(Bool→Prop)→Prop
def ylO (a0:ybe) (a1:ya9) (a2:ybm) (p0:Int) (_ _:List PV) (p3 p4:Int) (K:Bool→Prop):Prop :=
 (a0 p3 p4 (fun yi0 =>
 (cbr (yi0 ==(0:Int))
 (cbr (decide (p3≥(0:Int)))
 (a1 p0 (fun yi1 yi2 =>
 (a2 yi1 yi2 p3 p4 (fun yb3 =>
 (K (!yb3))))))
 (K false))
 (K false))))
def ya1 (p0:Int) (p1 p2:List PV) (p3 p4:Int) (K:Bool→Prop):Prop:=ylO yaL yaV yaZ p0 p1 p2 p3 p4 K
def yga (w:ybB) (as:List PV) (K:PV→Prop):Prop :=
 match as with
 | [(.agg [(.int .i64 p0),(.data p1),(.data p2)]),(.agg [(.int .i64 p3),(.int .i64 p4)])]=>w p0 p1 p2 p3 p4 (fun r0=>K (.bool r0))
 | _=>False
def yqA (as:List PV) (K:PV→Prop):Prop:=yga ya1 as K
def yyG (_:ybe) (_:ya9) (_:ybm):LP:=fun _ _ _ _ =>
 False
def yqB (e:List (Nat×EffF)) (a0:ybe) (a1:ya9) (a2:ybm):SE:=⟨(E e),lookS [(ybx,ydZ a0),(ya8,yeW a1),(ybs,yfN a2)],lookI [],yyG a0 a1 a2⟩
theorem yw6 (e:List (Nat×EffF)) (he:EG e):SEOk (yqB e yaL yaV yaZ):=yag ⟨(yfo e he),(yic e he),(yjx e he),trivial⟩ trivial he.ok
theorem yyH (e:List (Nat×EffF)) (a0 a1 a2 p0 p1 p2 p3 p4 K):WP (yqB e a0 a1 a2) 6 yAl [(.agg [(.int .i64 p0),(.data p1),(.data p2)]),(.agg [(.int .i64 p3),(.int .i64 p4)])] K=ylO a0 a1 a2 p0 p1 p2 p3 p4 (fun r0=>K (.bool r0)):=by kernel_rfl
theorem ylP (e:List (Nat×EffF)) (he:EG e):OkF (E e) yqA ycZ:=by
 intro as K h
 unfold yqA yga at h
 split at h
 · exact WP_ok (yw6 e he) (yaf (by kernel_rfl)) (by kernel_rfl) (by kernel_rfl) (fun _=>yab (by kernel_rfl) _) (he.num _ (by kernel_rfl)) ((yyH ..).mpr h)
 · exact h.elim
abbrev yc9:Type:=Int→List PV→List PV→Int→Int→Int→Int→(Int→Int→Int→Prop)→Prop
def yaN (a0:yap) (a1:ybB) (a2:ybe) (a3:ya9) (a4:ybm) (a5:yas) (a6:yaA) (a7:ya5) (a8:yaz) (x0:Int→Int→Int→Int→Int→Int→Prop) (x1:Int→Int→Int→Int→Int→Int→List PV→List PV→Int→Int→List PV→Int→Int→Bool→Prop):Nat→Int→Int→Int→Int→Int→Int→List PV→List PV→Int→Int→List PV→Int→Int→Prop
 | 0,_,_,_,_,_,_,_,_,_,_,_,_,_=>False
 | n+1,i0,i1,i2,i3,i4,i5,l6,l7,i8,i9,l10,i11,i12 =>
 (cbr (decide (i12<i11))
 (asr (decide ((0:Int)≤i12))
 (asr (decide (i12<(((List.length l10):Nat):Int)))
 (asr (conf (.one (.i .i64)) (List.getD l10 (i12.toNat) .nils))
 (asr (decide ((0:Int)≤(IntKind.i64.wrap (i12+(1:Int)))))
 (asr (decide ((IntKind.i64.wrap (i12+(1:Int)))<(((List.length l6):Nat):Int)))
 (asr (conf (.one (.i .i64)) (List.getD l6 ((IntKind.i64.wrap (i12+(1:Int))).toNat) .nils))
 (a3 (intOfV (List.getD l6 ((IntKind.i64.wrap (i12+(1:Int))).toNat) .nils)) (fun yi3 yi4 =>
 (a4 i8 i9 yi3 yi4 (fun yb5 =>
 (cbr (!yb5)
 (yaN a0 a1 a2 a3 a4 a5 a6 a7 a8 x0 x1 n i0 i1 i2 i3 i4 i5 l6 l7 i8 i9 l10 i11 (IntKind.i64.wrap (i12+(1:Int))))
 (a3 (0:Int) (fun yi6 yi7 =>
 (cbr (decide ((intOfV (List.getD l10 (i12.toNat) .nils))>(0:Int)))
 (a5 yi3 yi4 i8 i9 (fun yi8 yi9 yi10 =>
 (cbr (yi10 !=(0:Int))
 (x0 i0 i1 i2 i3 i4 yi10)
 (a3 (intOfV (List.getD l10 (i12.toNat) .nils)) (fun yi11 yi12 =>
 (a6 yi8 yi9 yi11 yi12 (fun yi13 yi14 yi15 =>
 (cbr (yi15 !=(0:Int))
 (x0 i0 i1 i2 i3 i4 yi15)
 (cbr ((intOfV (List.getD l10 (i12.toNat) .nils)) ==(0:Int))
 (yaN a0 a1 a2 a3 a4 a5 a6 a7 a8 x0 x1 n i0 i1 i2 i3 i4 i5 l6 l7 yi3 yi4 l10 i11 (IntKind.i64.wrap (i12+(1:Int))))
 (a4 yi13 yi14 i0 i1 (fun yb16 =>
 (cbr yb16
 (a5 i0 i1 yi13 yi14 (fun yi17 yi18 yi19 =>
 (cbr (yi19 !=(0:Int))
 (cbr (yi19 !=(0:Int))
 (x0 yi17 yi18 i2 i3 yi19 (0:Int))
 (yaN a0 a1 a2 a3 a4 a5 a6 a7 a8 x0 x1 n yi17 yi18 i2 i3 yi19 i5 l6 l7 yi3 yi4 l10 i11 (IntKind.i64.wrap (i12+(1:Int)))))
 (cbr (yi19 !=(0:Int))
 (x0 yi17 yi18 i2 i3 (6:Int) (0:Int))
 (yaN a0 a1 a2 a3 a4 a5 a6 a7 a8 x0 x1 n yi17 yi18 i2 i3 (6:Int) i5 l6 l7 yi3 yi4 l10 i11 (IntKind.i64.wrap (i12+(1:Int))))))))
 (a3 (intOfV (List.getD l10 (i12.toNat) .nils)) (fun yi20 yi21 =>
 (a7 i0 i1 yi20 yi21 (fun yi22 yi23 yi24 =>
 (cbr (yi24 ==(0:Int))
 (a8 i8 i9 yi22 yi23 (fun yi25 yi26 yi27 =>
 (x0 i0 i1 yi25 yi26 yi27 (0:Int))))
 (x0 i0 i1 i2 i3 yi24 (0:Int)))))))))))))))))))
 (cbr ((intOfV (List.getD l10 (i12.toNat) .nils)) ==(0:Int))
 (yaN a0 a1 a2 a3 a4 a5 a6 a7 a8 x0 x1 n i0 i1 i2 i3 i4 i5 l6 l7 yi3 yi4 l10 i11 (IntKind.i64.wrap (i12+(1:Int))))
 (a4 yi6 yi7 i0 i1 (fun yb28 =>
 (cbr yb28
 (a5 i0 i1 yi6 yi7 (fun yi29 yi30 yi31 =>
 (cbr (yi31 !=(0:Int))
 (cbr (yi31 !=(0:Int))
 (x0 yi29 yi30 i2 i3 yi31 (0:Int))
 (yaN a0 a1 a2 a3 a4 a5 a6 a7 a8 x0 x1 n yi29 yi30 i2 i3 yi31 i5 l6 l7 yi3 yi4 l10 i11 (IntKind.i64.wrap (i12+(1:Int)))))
 (cbr (yi31 !=(0:Int))
 (x0 yi29 yi30 i2 i3 (6:Int) (0:Int))
 (yaN a0 a1 a2 a3 a4 a5 a6 a7 a8 x0 x1 n yi29 yi30 i2 i3 (6:Int) i5 l6 l7 yi3 yi4 l10 i11 (IntKind.i64.wrap (i12+(1:Int))))))))
 (a3 (intOfV (List.getD l10 (i12.toNat) .nils)) (fun yi32 yi33 =>
 (a7 i0 i1 yi32 yi33 (fun yi34 yi35 yi36 =>
 (cbr (yi36 ==(0:Int))
 (a8 i8 i9 yi34 yi35 (fun yi37 yi38 yi39 =>
 (x0 i0 i1 yi37 yi38 yi39 (0:Int))))
 (x0 i0 i1 i2 i3 yi36 (0:Int)))))))))))))))))))))))))
 (x1 i0 i1 i2 i3 i4 i5 l6 l7 i8 i9 l10 i11 i12 false))
def yni (a0:yap) (a1:ybB) (a2:ybe) (a3:ya9) (a4:ybm) (a5:yas) (a6:yaA) (a7:ya5) (a8:yaz) (p0:Int) (p1 p2:List PV) (p3 p4 p5 p6:Int) (K:Int→Int→Int→Prop):Prop :=
 (a0 p0 p1 p2 (fun yi0 =>
 (cbr (yi0 !=(0:Int))
 (K (0:Int) (0:Int) yi0)
 (a1 p0 p1 p2 p3 p4 (fun yb1 =>
 (cbr (!yb1)
 (K (0:Int) (0:Int) (2:Int))
 (a2 p5 p6 (fun yi2 =>
 (cbr (yi2 !=(0:Int))
 (K (0:Int) (0:Int) (2:Int))
 (cbr (decide (p5<(0:Int)))
 (K (0:Int) (0:Int) (2:Int))
 (cbr (p5 ==(0:Int))
 (K p3 p4 (0:Int))
 (∃ n:Nat,yaN a0 a1 a2 a3 a4 a5 a6 a7 a8
 (fun _ _ yi42 yi43 yi44 yi45=>(cbr (yi45 !=(0:Int))
 (cbr (yi45 !=(0:Int))
 (K (0:Int) (0:Int) yi45)
 (K yi42 yi43 (0:Int)))
 (cbr (yi44 !=(0:Int))
 (K (0:Int) (0:Int) yi44)
 (K yi42 yi43 (0:Int)))))
 (fun _ _ yi48 yi49 yi50 _ _ _ _ _ _ _ _ _=>(cbr (yi50 !=(0:Int))
 (K (0:Int) (0:Int) yi50)
 (K yi48 yi49 (0:Int))))
 n p5 p6 (0:Int) (0:Int) (6:Int) p0 p1 p2 p3 p4 p2 (((List.length p2):Nat):Int) (0:Int)))))))))))))
def ybP (p0:Int) (p1 p2:List PV) (p3 p4 p5 p6:Int) (K:Int→Int→Int→Prop):Prop:=yni yai ya1 yaL yaV yaZ yah yak yar yaj p0 p1 p2 p3 p4 p5 p6 K
def ygY (w:yc9) (as:List PV) (K:PV→Prop):Prop :=
 match as with
 | [(.agg [(.int .i64 p0),(.data p1),(.data p2)]),(.agg [(.int .i64 p3),(.int .i64 p4)]),(.agg [(.int .i64 p5),(.int .i64 p6)])]=>w p0 p1 p2 p3 p4 p5 p6 (fun r0 r1 r2=>K (.tup [(.agg [(.int .i64 r0),(.int .i64 r1)]),(.int .i64 r2)]))
 | _=>False
def ysA (as:List PV) (K:PV→Prop):Prop:=ygY ybP as K
def yeX (F:Frm) (H:Hp) (A0:Int→Int→Int→Int→Int→Int→List PV→List PV→Int→Int→List PV→Int→Int→Prop):Prop :=
 match F,H with
 | [(2,.v (.fn (.func q0) [] [(.ptr 0 1 0 0),(.ptr 2 1 0 0),(.ptr 1 1 0 0)])),(3,.box (.agg [(.int .i64 i5),(.data l6),(.data l7)])),(4,.box (.agg [(.int .i64 i8),(.int .i64 i9)])),(14,.v (.data l10)),(15,.v (.int .i64 i11)),(16,.v (.int .i64 i12))],[⟨false,true,2,[(.agg [(.int .i64 i0),(.int .i64 i1)])]⟩,⟨false,true,2,[(.agg [(.int .i64 i2),(.int .i64 i3)])]⟩,⟨false,true,1,[(.int .i64 i4)]⟩]=>asr (Nat.beq q0 ydL) (A0 i0 i1 i2 i3 i4 i5 l6 l7 i8 i9 l10 i11 i12)
 | _,_=>False
def yiS (Q:Ex→Frm→Hp→Prop):Int→Int→Int→Int→Int→Int→Prop:=(fun i0 i1 i2 i3 i4 i5=>Q .ret [(6,.v (.int .i64 i5))] [⟨false,true,2,([(.agg [(.int .i64 i0),(.int .i64 i1)])]:List PV)⟩,⟨false,true,2,([(.agg [(.int .i64 i2),(.int .i64 i3)])]:List PV)⟩,⟨false,true,1,([(.int .i64 i4)]:List PV)⟩])
def yiT (Q:Ex→Frm→Hp→Prop):Int→Int→Int→Int→Int→Int→List PV→List PV→Int→Int→List PV→Int→Int→Bool→Prop:=(fun i0 i1 i2 i3 i4 i5 l6 l7 i8 i9 l10 i11 i12 b13=>Q (.exit 0) [(2,.v (.fn (.func ydL) [] [(.ptr 0 1 0 0),(.ptr 2 1 0 0),(.ptr 1 1 0 0)])),(3,.box (.agg [(.int .i64 i5),(.data l6),(.data l7)])),(4,.box (.agg [(.int .i64 i8),(.int .i64 i9)])),(14,.v (.data l10)),(15,.v (.int .i64 i11)),(16,.v (.int .i64 i12)),(17,.v (.bool b13))] [⟨false,true,2,([(.agg [(.int .i64 i0),(.int .i64 i1)])]:List PV)⟩,⟨false,true,2,([(.agg [(.int .i64 i2),(.int .i64 i3)])]:List PV)⟩,⟨false,true,1,([(.int .i64 i4)]:List PV)⟩])
def yid (a0:yap) (a1:ybB) (a2:ybe) (a3:ya9) (a4:ybm) (a5:yas) (a6:yaA) (a7:ya5) (a8:yaz) (Q:Ex→Frm→Hp→Prop) (n:Nat) (F:Frm) (H:Hp):Prop:=yeX F H (fun i0 i1 i2 i3 i4 i5 l6 l7 i8 i9 l10 i11 i12=>yaN a0 a1 a2 a3 a4 a5 a6 a7 a8 (yiS Q) (yiT Q) n i0 i1 i2 i3 i4 i5 l6 l7 i8 i9 l10 i11 i12)
def ygZ (a0:yap) (a1:ybB) (a2:ybe) (a3:ya9) (a4:ybm) (a5:yas) (a6:yaA) (a7:ya5) (a8:yaz):LP:=fun id F H Q =>
 bif Nat.beq id 41613500 then yeX F H (fun i0 i1 i2 i3 i4 i5 l6 l7 i8 i9 l10 i11 i12=>∃ n:Nat,yaN a0 a1 a2 a3 a4 a5 a6 a7 a8 (yiS Q) (yiT Q) n i0 i1 i2 i3 i4 i5 l6 l7 i8 i9 l10 i11 i12) else
 False
def ysB (e:List (Nat×EffF)) (a0:yap) (a1:ybB) (a2:ybe) (a3:ya9) (a4:ybm) (a5:yas) (a6:yaA) (a7:ya5) (a8:yaz):SE:=⟨(E e),lookS [(ybl,yc8 a0),(ycZ,yga a1),(ybx,ydZ a2),(ya8,yeW a3),(ybs,yfN a4),(ybg,ydF a5),(ybI,yew a6),(yeg,ygV a7),(ycg,yeu a8)],lookI [(ydL,yqm)],ygZ a0 a1 a2 a3 a4 a5 a6 a7 a8⟩
def ysC (e:List (Nat×EffF)) (a0:yap) (a1:ybB) (a2:ybe) (a3:ya9) (a4:ybm) (a5:yas) (a6:yaA) (a7:ya5) (a8:yaz):SE:=⟨(E e),lookS [(ybl,yc8 a0),(ycZ,yga a1),(ybx,ydZ a2),(ya8,yeW a3),(ybs,yfN a4),(ybg,ydF a5),(ybI,yew a6),(yeg,ygV a7),(ycg,yeu a8)],lookI [(yoj,yCt),(ydL,yqm)],ygZ a0 a1 a2 a3 a4 a5 a6 a7 a8⟩
theorem yyI (e:List (Nat×EffF)) (he:EG e):SEOk (ysB e yai ya1 yaL yaV yaZ yah yak yar yaj):=yag ⟨(ydN e he),(ylP e he),(yfo e he),(yic e he),(yjx e he),(yev e he),(yfK e he),(yjv e he),(yfJ e he),trivial⟩ ⟨⟨by kernel_rfl,by kernel_rfl,rfl,fun as=>yab (by kernel_rfl) as,he.num _ (by kernel_rfl),(yaf (by kernel_rfl))⟩,trivial⟩ he.ok
theorem yrr (e:List (Nat×EffF)) (a0 a1 a2 a3 a4 a5 a6 a7 a8 Q n i0 i1 i2 i3 i4 i5 l6 l7 i8 i9 l10 i11 i12):WC (E e) (callW (ysB e a0 a1 a2 a3 a4 a5 a6 a7 a8) 5) (ygZ a0 a1 a2 a3 a4 a5 a6 a7 a8) ykm [(2,.v (.fn (.func ydL) [] [(.ptr 0 1 0 0),(.ptr 2 1 0 0),(.ptr 1 1 0 0)])),(3,.box (.agg [(.int .i64 i5),(.data l6),(.data l7)])),(4,.box (.agg [(.int .i64 i8),(.int .i64 i9)])),(14,.v (.data l10)),(15,.v (.int .i64 i11)),(16,.v (.int .i64 i12))] [⟨false,true,2,([(.agg [(.int .i64 i0),(.int .i64 i1)])]:List PV)⟩,⟨false,true,2,([(.agg [(.int .i64 i2),(.int .i64 i3)])]:List PV)⟩,⟨false,true,1,([(.int .i64 i4)]:List PV)⟩] (fun x F' H'=>match x with | .norm=>yid a0 a1 a2 a3 a4 a5 a6 a7 a8 Q n F' H' | .exit i=>Q (.exit i) F' H' | .ret=>Q .ret F' H')=yaN a0 a1 a2 a3 a4 a5 a6 a7 a8 (yiS Q) (yiT Q) (n+1) i0 i1 i2 i3 i4 i5 l6 l7 i8 i9 l10 i11 i12:=by kernel_rfl
theorem yvI (e:List (Nat×EffF)) (_:EG e):LpOk (E e) (ygZ yai ya1 yaL yaV yaZ yah yak yar yaj) ykm:=(yaf (by kernel_rfl))
theorem yui (e:List (Nat×EffF)) (he:EG e):∀ F H Q,ygZ yai ya1 yaL yaV yaZ yah yak yar yaj 41613500 F H Q→LoopT (E e) ykm F H Q:=by
 intro F H Q h
 have go:=LoopT.intro (yaH (yyI e he) 5) (yvI e he) (yid yai ya1 yaL yaV yaZ yah yak yar yaj Q) (by
   intro F H h
   unfold yid yeX at h
   split at h
   · obtain ⟨hg,k⟩:=yad.1 h
     clear h
     have h:=k
     clear k
     try simp only [Bool.and_eq_true,decide_eq_true_eq] at hg
     have g0:=hg;have g0:=Nat.eq_of_beq_eq_true g0;subst g0;exact h
   · exact h) (by
   intro n F H h
   unfold yid yeX at h
   split at h
   · obtain ⟨hg,k⟩:=yad.1 h
     clear h
     have h:=k
     clear k
     try simp only [Bool.and_eq_true,decide_eq_true_eq] at hg
     have g0:=hg;have g0:=Nat.eq_of_beq_eq_true g0;subst g0;exact (yrr ..).mpr h
   · exact h.elim)
 have h:yeX F H _:=h
 unfold yeX at h
 split at h
 · obtain ⟨hg,n,h⟩:=yad.1 h;exact go n _ _ (yad.2 ⟨hg,h⟩)
 · exact h.elim
theorem yyJ (e:List (Nat×EffF)) (he:EG e):SEOk (ysC e yai ya1 yaL yaV yaZ yah yak yar yaj):=yag ⟨(ydN e he),(ylP e he),(yfo e he),(yic e he),(yjx e he),(yev e he),(yfK e he),(yjv e he),(yfJ e he),trivial⟩ ⟨⟨by kernel_rfl,by kernel_rfl,rfl,fun as=>yab (by kernel_rfl) as,he.num _ (by kernel_rfl),(ybk (l:=[(41613500,ykm)]) ⟨yui e he,trivial⟩ (by kernel_rfl))⟩,⟨by kernel_rfl,by kernel_rfl,rfl,fun as=>yab (by kernel_rfl) as,he.num _ (by kernel_rfl),(yaf (by kernel_rfl))⟩,trivial⟩ he.ok
theorem yAE (e:List (Nat×EffF)) (a0 a1 a2 a3 a4 a5 a6 a7 a8 p0 p1 p2 p3 p4 p5 p6 K):WP (ysC e a0 a1 a2 a3 a4 a5 a6 a7 a8) 6 yCu [(.agg [(.int .i64 p0),(.data p1),(.data p2)]),(.agg [(.int .i64 p3),(.int .i64 p4)]),(.agg [(.int .i64 p5),(.int .i64 p6)])] K=yni a0 a1 a2 a3 a4 a5 a6 a7 a8 p0 p1 p2 p3 p4 p5 p6 (fun r0 r1 r2=>K (.tup [(.agg [(.int .i64 r0),(.int .i64 r1)]),(.int .i64 r2)])):=by kernel_rfl
theorem yjy (e:List (Nat×EffF)) (he:EG e):OkF (E e) ysA ydy:=by
 intro as K h
 unfold ysA ygY at h
 split at h
 · exact WP_ok (yyJ e he) (yaf (by kernel_rfl)) (by kernel_rfl) (by kernel_rfl) (fun _=>yab (by kernel_rfl) _) (he.num _ (by kernel_rfl)) ((yAE ..).mpr h)
 · exact h.elim
abbrev yex:Type:=Int→List PV→List PV→Int→Int→Int→Int→(Int→Int→Int→Prop)→Prop
def yau (a0:yap) (a1:ybB) (a2:ybm) (a3:ya9) (a4:yas) (a5:yaA) (a6:yaz) (x0:Int→Int→Int→Prop) (x1:Int→List PV→List PV→Int→Int→Int→Int→Int→Int→Int→Int→List PV→Int→Int→Bool→Prop):Nat→Int→List PV→List PV→Int→Int→Int→Int→Int→Int→Int→Int→List PV→Int→Int→Prop
 | 0,_,_,_,_,_,_,_,_,_,_,_,_,_,_=>False
 | n+1,i0,l1,l2,i3,i4,i5,i6,i7,i8,i9,i10,l11,i12,i13 =>
 (cbr (decide (i13<i12))
 (asr (decide ((0:Int)≤i13))
 (asr (decide (i13<(((List.length l11):Nat):Int)))
 (asr (conf (.one (.i .i64)) (List.getD l11 (i13.toNat) .nils))
 (asr (decide ((0:Int)≤(IntKind.i64.wrap (i13+(1:Int)))))
 (asr (decide ((IntKind.i64.wrap (i13+(1:Int)))<(((List.length l1):Nat):Int)))
 (asr (conf (.one (.i .i64)) (List.getD l1 ((IntKind.i64.wrap (i13+(1:Int))).toNat) .nils))
 (a3 (intOfV (List.getD l1 ((IntKind.i64.wrap (i13+(1:Int))).toNat) .nils)) (fun yi6 yi7 =>
 (a2 i3 i4 yi6 yi7 (fun yb8 =>
 (cbr yb8
 (cbr ((intOfV (List.getD l11 (i13.toNat) .nils)) ==(0:Int))
 (a2 i9 i10 i3 i4 (fun yb9 =>
 (cbr yb9
 (yau a0 a1 a2 a3 a4 a5 a6 x0 x1 n i0 l1 l2 i3 i4 i5 i6 i7 i8 i3 i4 l11 i12 (IntKind.i64.wrap (i13+(1:Int))))
 (yau a0 a1 a2 a3 a4 a5 a6 x0 x1 n i0 l1 l2 i3 i4 i5 i6 i7 i8 i9 i10 l11 i12 (IntKind.i64.wrap (i13+(1:Int)))))))
 (a2 i9 i10 i3 i4 (fun yb10 =>
 (cbr (!yb10)
 (a2 i9 i10 i3 i4 (fun yb11 =>
 (cbr yb11
 (yau a0 a1 a2 a3 a4 a5 a6 x0 x1 n i0 l1 l2 i3 i4 i5 i6 i7 i8 i3 i4 l11 i12 (IntKind.i64.wrap (i13+(1:Int))))
 (yau a0 a1 a2 a3 a4 a5 a6 x0 x1 n i0 l1 l2 i3 i4 i5 i6 i7 i8 i9 i10 l11 i12 (IntKind.i64.wrap (i13+(1:Int)))))))
 (a4 i3 i4 i9 i10 (fun yi12 yi13 yi14 =>
 (cbr (yi14 !=(0:Int))
 (x0 (0:Int) (0:Int) yi14)
 (a3 (intOfV (List.getD l11 (i13.toNat) .nils)) (fun yi15 yi16 =>
 (a5 yi12 yi13 yi15 yi16 (fun yi17 yi18 yi19 =>
 (cbr (yi19 !=(0:Int))
 (x0 (0:Int) (0:Int) yi19)
 (a6 i7 i8 yi17 yi18 (fun yi20 yi21 yi22 =>
 (cbr (yi22 !=(0:Int))
 (x0 (0:Int) (0:Int) yi22)
 (yau a0 a1 a2 a3 a4 a5 a6 x0 x1 n i0 l1 l2 i3 i4 i5 i6 yi20 yi21 i3 i4 l11 i12 (IntKind.i64.wrap (i13+(1:Int)))))))))))))))))))
 (cbr ((intOfV (List.getD l11 (i13.toNat) .nils)) ==(0:Int))
 (a2 i9 i10 yi6 yi7 (fun yb23 =>
 (cbr yb23
 (yau a0 a1 a2 a3 a4 a5 a6 x0 x1 n i0 l1 l2 i3 i4 i5 i6 i7 i8 yi6 yi7 l11 i12 (IntKind.i64.wrap (i13+(1:Int))))
 (yau a0 a1 a2 a3 a4 a5 a6 x0 x1 n i0 l1 l2 i3 i4 i5 i6 i7 i8 i9 i10 l11 i12 (IntKind.i64.wrap (i13+(1:Int)))))))
 (a2 i9 i10 yi6 yi7 (fun yb24 =>
 (cbr (!yb24)
 (a2 i9 i10 yi6 yi7 (fun yb25 =>
 (cbr yb25
 (yau a0 a1 a2 a3 a4 a5 a6 x0 x1 n i0 l1 l2 i3 i4 i5 i6 i7 i8 yi6 yi7 l11 i12 (IntKind.i64.wrap (i13+(1:Int))))
 (yau a0 a1 a2 a3 a4 a5 a6 x0 x1 n i0 l1 l2 i3 i4 i5 i6 i7 i8 i9 i10 l11 i12 (IntKind.i64.wrap (i13+(1:Int)))))))
 (a4 yi6 yi7 i9 i10 (fun yi26 yi27 yi28 =>
 (cbr (yi28 !=(0:Int))
 (x0 (0:Int) (0:Int) yi28)
 (a3 (intOfV (List.getD l11 (i13.toNat) .nils)) (fun yi29 yi30 =>
 (a5 yi26 yi27 yi29 yi30 (fun yi31 yi32 yi33 =>
 (cbr (yi33 !=(0:Int))
 (x0 (0:Int) (0:Int) yi33)
 (a6 i7 i8 yi31 yi32 (fun yi34 yi35 yi36 =>
 (cbr (yi36 !=(0:Int))
 (x0 (0:Int) (0:Int) yi36)
 (yau a0 a1 a2 a3 a4 a5 a6 x0 x1 n i0 l1 l2 i3 i4 i5 i6 yi34 yi35 yi6 yi7 l11 i12 (IntKind.i64.wrap (i13+(1:Int))))))))))))))))))))))))))))))
 (x1 i0 l1 l2 i3 i4 i5 i6 i7 i8 i9 i10 l11 i12 i13 false))
def ylQ (a0:yap) (a1:ybB) (a2:ybm) (a3:ya9) (a4:yas) (a5:yaA) (a6:yaz) (p0:Int) (p1 p2:List PV) (p3 p4 p5 p6:Int) (K:Int→Int→Int→Prop):Prop :=
 (a0 p0 p1 p2 (fun yi0 =>
 (cbr (yi0 !=(0:Int))
 (K (0:Int) (0:Int) yi0)
 (a1 p0 p1 p2 p3 p4 (fun yb1 =>
 (cbr (!yb1)
 (K (0:Int) (0:Int) (2:Int))
 (a1 p0 p1 p2 p5 p6 (fun yb2 =>
 (cbr (!yb2)
 (K (0:Int) (0:Int) (2:Int))
 (a2 p5 p6 p3 p4 (fun yb3 =>
 (cbr yb3
 (K (0:Int) (0:Int) (2:Int))
 (a3 (0:Int) (fun yi4 yi5 =>
 (∃ n:Nat,yau a0 a1 a2 a3 a4 a5 a6
 (fun yi37 yi38 yi39=>(K yi37 yi38 yi39))
 (fun _ _ _ _ _ _ _ yi47 yi48 _ _ _ _ _ _=>(K yi47 yi48 (0:Int)))
 n p0 p1 p2 p5 p6 (0:Int) (0:Int) yi4 yi5 p3 p4 p2 (((List.length p2):Nat):Int) (0:Int))))))))))))))))
def yct (p0:Int) (p1 p2:List PV) (p3 p4 p5 p6:Int) (K:Int→Int→Int→Prop):Prop:=ylQ yai ya1 yaZ yaV yah yak yaj p0 p1 p2 p3 p4 p5 p6 K
def yie (w:yex) (as:List PV) (K:PV→Prop):Prop :=
 match as with
 | [(.agg [(.int .i64 p0),(.data p1),(.data p2)]),(.agg [(.int .i64 p3),(.int .i64 p4)]),(.agg [(.int .i64 p5),(.int .i64 p6)])]=>w p0 p1 p2 p3 p4 p5 p6 (fun r0 r1 r2=>K (.tup [(.agg [(.int .i64 r0),(.int .i64 r1)]),(.int .i64 r2)]))
 | _=>False
def yqC (as:List PV) (K:PV→Prop):Prop:=yie yct as K
def yd3 (F:Frm) (H:Hp) (A0:Int→List PV→List PV→Int→Int→Int→Int→Int→Int→Int→Int→List PV→Int→Int→Prop):Prop :=
 match F,H with
 | [(3,.box (.agg [(.int .i64 i0),(.data l1),(.data l2)])),(5,.box (.agg [(.int .i64 i3),(.int .i64 i4)])),(6,.box (.agg [(.int .i64 i5),(.int .i64 i6)])),(9,.box (.agg [(.int .i64 i7),(.int .i64 i8)])),(10,.box (.agg [(.int .i64 i9),(.int .i64 i10)])),(42,.v (.data l11)),(43,.v (.int .i64 i12)),(44,.v (.int .i64 i13))],[]=>(A0 i0 l1 l2 i3 i4 i5 i6 i7 i8 i9 i10 l11 i12 i13)
 | _,_=>False
def yhQ (Q:Ex→Frm→Hp→Prop):Int→Int→Int→Prop:=(fun i0 i1 i2=>Q .ret [(6,.box (.agg [(.int .i64 i0),(.int .i64 i1)])),(7,.v (.int .i64 i2))] [])
def yhR (Q:Ex→Frm→Hp→Prop):Int→List PV→List PV→Int→Int→Int→Int→Int→Int→Int→Int→List PV→Int→Int→Bool→Prop:=(fun i0 l1 l2 i3 i4 i5 i6 i7 i8 i9 i10 l11 i12 i13 b14=>Q (.exit 0) [(3,.box (.agg [(.int .i64 i0),(.data l1),(.data l2)])),(5,.box (.agg [(.int .i64 i3),(.int .i64 i4)])),(6,.box (.agg [(.int .i64 i5),(.int .i64 i6)])),(9,.box (.agg [(.int .i64 i7),(.int .i64 i8)])),(10,.box (.agg [(.int .i64 i9),(.int .i64 i10)])),(42,.v (.data l11)),(43,.v (.int .i64 i12)),(44,.v (.int .i64 i13)),(45,.v (.bool b14))] [])
def yg0 (a0:yap) (a1:ybB) (a2:ybm) (a3:ya9) (a4:yas) (a5:yaA) (a6:yaz) (Q:Ex→Frm→Hp→Prop) (n:Nat) (F:Frm) (H:Hp):Prop:=yd3 F H (fun i0 l1 l2 i3 i4 i5 i6 i7 i8 i9 i10 l11 i12 i13=>yau a0 a1 a2 a3 a4 a5 a6 (yhQ Q) (yhR Q) n i0 l1 l2 i3 i4 i5 i6 i7 i8 i9 i10 l11 i12 i13)
def yif (a0:yap) (a1:ybB) (a2:ybm) (a3:ya9) (a4:yas) (a5:yaA) (a6:yaz):LP:=fun id F H Q =>
 bif Nat.beq id 85339800 then yd3 F H (fun i0 l1 l2 i3 i4 i5 i6 i7 i8 i9 i10 l11 i12 i13=>∃ n:Nat,yau a0 a1 a2 a3 a4 a5 a6 (yhQ Q) (yhR Q) n i0 l1 l2 i3 i4 i5 i6 i7 i8 i9 i10 l11 i12 i13) else
 False
def ylR (e:List (Nat×EffF)) (a0:yap) (a1:ybB) (a2:ybm) (a3:ya9) (a4:yas) (a5:yaA) (a6:yaz):SE:=⟨(E e),lookS [(ybl,yc8 a0),(ycZ,yga a1),(ybs,yfN a2),(ya8,yeW a3),(ybg,ydF a4),(ybI,yew a5),(ycg,yeu a6)],lookI [],yif a0 a1 a2 a3 a4 a5 a6⟩
theorem yoA (e:List (Nat×EffF)) (he:EG e):SEOk (ylR e yai ya1 yaZ yaV yah yak yaj):=yag ⟨(ydN e he),(ylP e he),(yjx e he),(yic e he),(yev e he),(yfK e he),(yfJ e he),trivial⟩ trivial he.ok
theorem yp2 (e:List (Nat×EffF)) (a0 a1 a2 a3 a4 a5 a6 Q n i0 l1 l2 i3 i4 i5 i6 i7 i8 i9 i10 l11 i12 i13):WC (E e) (callW (ylR e a0 a1 a2 a3 a4 a5 a6) 5) (yif a0 a1 a2 a3 a4 a5 a6) yko [(3,.box (.agg [(.int .i64 i0),(.data l1),(.data l2)])),(5,.box (.agg [(.int .i64 i3),(.int .i64 i4)])),(6,.box (.agg [(.int .i64 i5),(.int .i64 i6)])),(9,.box (.agg [(.int .i64 i7),(.int .i64 i8)])),(10,.box (.agg [(.int .i64 i9),(.int .i64 i10)])),(42,.v (.data l11)),(43,.v (.int .i64 i12)),(44,.v (.int .i64 i13))] [] (fun x F' H'=>match x with | .norm=>yg0 a0 a1 a2 a3 a4 a5 a6 Q n F' H' | .exit i=>Q (.exit i) F' H' | .ret=>Q .ret F' H')=yau a0 a1 a2 a3 a4 a5 a6 (yhQ Q) (yhR Q) (n+1) i0 l1 l2 i3 i4 i5 i6 i7 i8 i9 i10 l11 i12 i13:=by kernel_rfl
theorem yuj (e:List (Nat×EffF)) (_:EG e):LpOk (E e) (yif yai ya1 yaZ yaV yah yak yaj) yko:=(yaf (by kernel_rfl))
theorem ysD (e:List (Nat×EffF)) (he:EG e):∀ F H Q,yif yai ya1 yaZ yaV yah yak yaj 85339800 F H Q→LoopT (E e) yko F H Q:=by
 intro F H Q h
 have go:=LoopT.intro (yaH (yoA e he) 5) (yuj e he) (yg0 yai ya1 yaZ yaV yah yak yaj Q) (by
   intro F H h
   unfold yg0 yd3 at h
   split at h
   · exact h
   · exact h) (by
   intro n F H h
   unfold yg0 yd3 at h
   split at h
   · exact (yp2 ..).mpr h
   · exact h.elim)
 have h:yd3 F H _:=h
 unfold yd3 at h
 split at h
 · obtain ⟨n,h⟩:=h;exact go n _ _ h
 · exact h.elim
theorem yyK (e:List (Nat×EffF)) (a0 a1 a2 a3 a4 a5 a6 p0 p1 p2 p3 p4 p5 p6 K):WP (ylR e a0 a1 a2 a3 a4 a5 a6) 6 yAn [(.agg [(.int .i64 p0),(.data p1),(.data p2)]),(.agg [(.int .i64 p3),(.int .i64 p4)]),(.agg [(.int .i64 p5),(.int .i64 p6)])] K=ylQ a0 a1 a2 a3 a4 a5 a6 p0 p1 p2 p3 p4 p5 p6 (fun r0 r1 r2=>K (.tup [(.agg [(.int .i64 r0),(.int .i64 r1)]),(.int .i64 r2)])):=by kernel_rfl
theorem ylS (e:List (Nat×EffF)) (he:EG e):OkF (E e) yqC yek:=by
 intro as K h
 unfold yqC yie at h
 split at h
 · exact WP_ok (yoA e he) (ybk (l:=[(85339800,yko)]) ⟨ysD e he,trivial⟩ (by kernel_rfl)) (by kernel_rfl) (by kernel_rfl) (fun _=>yab (by kernel_rfl) _) (he.num _ (by kernel_rfl)) ((yyK ..).mpr h)
 · exact h.elim
end Go.Pf.Vc
namespace Go.Pf.Vc
open Go Go.Pf
set_option linter.unusedVariables false
theorem yw7 (p0:Int) (p1:List PV) (p2:List PV) (r0:Int) (h:∀ K:Int→Prop,K r0→yai p0 p1 p2 K) (K:Int→Prop):yai p0 p1 p2 K=K r0 :=
 propext ⟨fun k=>detC (ydN [] yaT) (as:=[(.agg [(.int .i64 p0),(.data p1),(.data p2)])]) (x:=(.int .i64 r0)) (fun K' k'=>h (fun r0=>K' (.int .i64 r0)) k') (K:=fun x=>match x with | (.int .i64 r0)=>K r0 | _=>False) k,h K⟩
theorem yw8 (p0:Int) (p1:List PV) (p2:List PV) (r0:Int) (r1:Int) (h:∀ K:Int→Int→Prop,K r0 r1→ydG p0 p1 p2 K) (K:Int→Int→Prop):ydG p0 p1 p2 K=K r0 r1 :=
 propext ⟨fun k=>detC (yqw [] yaT) (as:=[(.agg [(.int .i64 p0),(.data p1),(.data p2)])]) (x:=(.tup [(.int .i64 r0),(.int .i64 r1)])) (fun K' k'=>h (fun r0 r1=>K' (.tup [(.int .i64 r0),(.int .i64 r1)])) k') (K:=fun x=>match x with | (.tup [(.int .i64 r0),(.int .i64 r1)])=>K r0 r1 | _=>False) k,h K⟩
theorem yyL (p0:Int) (p1:List PV) (p2:List PV) (p3:Int) (p4:Int) (p5:Int) (p6:Int) (r0:Int) (r1:Int) (r2:Int) (h:∀ K:Int→Int→Int→Prop,K r0 r1 r2→ybP p0 p1 p2 p3 p4 p5 p6 K) (K:Int→Int→Int→Prop):ybP p0 p1 p2 p3 p4 p5 p6 K=K r0 r1 r2 :=
 propext ⟨fun k=>detC (yjy [] yaT) (as:=[(.agg [(.int .i64 p0),(.data p1),(.data p2)]),(.agg [(.int .i64 p3),(.int .i64 p4)]),(.agg [(.int .i64 p5),(.int .i64 p6)])]) (x:=(.tup [(.agg [(.int .i64 r0),(.int .i64 r1)]),(.int .i64 r2)])) (fun K' k'=>h (fun r0 r1 r2=>K' (.tup [(.agg [(.int .i64 r0),(.int .i64 r1)]),(.int .i64 r2)])) k') (K:=fun x=>match x with | (.tup [(.agg [(.int .i64 r0),(.int .i64 r1)]),(.int .i64 r2)])=>K r0 r1 r2 | _=>False) k,h K⟩
theorem yw9 (p0:Int) (p1:List PV) (p2:List PV) (p3:Int) (p4:Int) (p5:Int) (p6:Int) (r0:Int) (r1:Int) (r2:Int) (h:∀ K:Int→Int→Int→Prop,K r0 r1 r2→yct p0 p1 p2 p3 p4 p5 p6 K) (K:Int→Int→Int→Prop):yct p0 p1 p2 p3 p4 p5 p6 K=K r0 r1 r2 :=
 propext ⟨fun k=>detC (ylS [] yaT) (as:=[(.agg [(.int .i64 p0),(.data p1),(.data p2)]),(.agg [(.int .i64 p3),(.int .i64 p4)]),(.agg [(.int .i64 p5),(.int .i64 p6)])]) (x:=(.tup [(.agg [(.int .i64 r0),(.int .i64 r1)]),(.int .i64 r2)])) (fun K' k'=>h (fun r0 r1 r2=>K' (.tup [(.agg [(.int .i64 r0),(.int .i64 r1)]),(.int .i64 r2)])) k') (K:=fun x=>match x with | (.tup [(.agg [(.int .i64 r0),(.int .i64 r1)]),(.int .i64 r2)])=>K r0 r1 r2 | _=>False) k,h K⟩
end Go.Pf.Vc
namespace Go.Pf.Vc
open Go Go.Pf
set_option maxRecDepth 100000
abbrev yaQ:Type:=List PV→List PV→(Int→Prop)→Prop
def ycj (a0:yap) (x12157600_0:Int→Prop) (x12157600_1:List PV→List PV→List PV→Int→Int→Bool→Prop):Nat→List PV→List PV→List PV→Int→Int→Prop
 | 0,_,_,_,_,_=>False
 | n12157600+1,l0,l1,l2,i3,i4 =>
 (cbr (decide (i4<i3))
 (asr (decide ((0:Int)≤i4))
 (asr (decide (i4<(((List.length l2):Nat):Int)))
 (asr (conf (.agg [.i .i64,.d,.d]) (List.getD l2 (i4.toNat) .nils))
 (a0 (intOfV (cellAt (List.getD l2 (i4.toNat) .nils) 0)) (datOfV (cellAt (List.getD l2 (i4.toNat) .nils) 1)) (datOfV (cellAt (List.getD l2 (i4.toNat) .nils) 2)) (fun yi0 =>
 (cbr (yi0 !=(0:Int))
 (x12157600_0 yi0)
 (ycj a0 x12157600_0 x12157600_1 n12157600 l0 l1 l2 i3 (IntKind.i64.wrap (i4+(1:Int))))))))))
 (x12157600_1 l0 l1 l2 i3 i4 false))
def ybC (a0:yap) (x12157601_0:Int→Prop) (x12157601_1:List PV→List PV→List PV→Int→Int→Bool→Prop):Nat→List PV→List PV→List PV→Int→Int→Prop
 | 0,_,_,_,_,_=>False
 | n12157601+1,l0,l1,l2,i3,i4 =>
 (cbr (decide (i4<i3))
 (asr (decide ((0:Int)≤i4))
 (asr (decide (i4<(((List.length l2):Nat):Int)))
 (asr (conf (.agg [.i .i64,.d,.d]) (List.getD l2 (i4.toNat) .nils))
 (asr (decide ((0:Int)<(((List.length l0):Nat):Int)))
 (asr (conf (.agg [.i .i64,.d,.d]) (List.getD l0 0 .nils))
 (cbr ((intOfV (cellAt (List.getD l2 (i4.toNat) .nils) 0)) !=(intOfV (cellAt (List.getD l0 0 .nils) 0)))
 (x12157601_0 (8:Int))
 (ybC a0 x12157601_0 x12157601_1 n12157601 l0 l1 l2 i3 (IntKind.i64.wrap (i4+(1:Int))))))))))
 (x12157601_1 l0 l1 l2 i3 i4 false))
def ynj (a0:yap) (p0 p1:List PV) (K:Int→Prop):Prop :=
 (cbr (decide ((((List.length p0):Nat):Int)>(6:Int)))
 (K (4:Int))
 (cbr (decide ((((List.length p1):Nat):Int)>(2000:Int)))
 (K (4:Int))
 (cbr ((((List.length p0):Nat):Int) ==(0:Int))
 (K (8:Int))
 (∃ n12157600:Nat,ycj a0
 (fun yi1=>(K yi1))
 (fun yl2 yl3 _ _ _ _=>(∃ n12157601:Nat,ybC a0
 (fun yi8=>(K yi8))
 (fun _ _ _ _ _ _=>(K (0:Int)))
 n12157601 yl2 yl3 yl2 (((List.length yl2):Nat):Int) (0:Int)))
 n12157600 p0 p1 p0 (((List.length p0):Nat):Int) (0:Int)))))
def yav (p0 p1:List PV) (K:Int→Prop):Prop:=ynj yai p0 p1 K
def yfO (w:yaQ) (as:List PV) (K:PV→Prop):Prop :=
 match as with
 | [(.agg [(.data p0),(.data p1)])]=>w p0 p1 (fun r0=>K (.int .i64 r0))
 | _=>False
def ysE (as:List PV) (K:PV→Prop):Prop:=yfO yav as K
def yeY (F:Frm) (H:Hp) (A0:List PV→List PV→List PV→Int→Int→Prop):Prop :=
 match F,H with
 | [(1,.box (.agg [(.data l0),(.data l1)])),(23,.v (.data l2)),(24,.v (.int .i64 i3)),(25,.v (.int .i64 i4))],[]=>(A0 l0 l1 l2 i3 i4)
 | _,_=>False
def yeZ (F:Frm) (H:Hp) (A0:List PV→List PV→List PV→Int→Int→Prop):Prop :=
 match F,H with
 | [(1,.box (.agg [(.data l0),(.data l1)])),(36,.v (.data l2)),(37,.v (.int .i64 i3)),(38,.v (.int .i64 i4))],[]=>(A0 l0 l1 l2 i3 i4)
 | _,_=>False
def yiU (Q:Ex→Frm→Hp→Prop):Int→Prop:=(fun i0=>Q .ret [(2,.v (.int .i64 i0))] [])
def yiV (Q:Ex→Frm→Hp→Prop):List PV→List PV→List PV→Int→Int→Bool→Prop:=(fun l0 l1 l2 i3 i4 b5=>Q (.exit 0) [(1,.box (.agg [(.data l0),(.data l1)])),(23,.v (.data l2)),(24,.v (.int .i64 i3)),(25,.v (.int .i64 i4)),(26,.v (.bool b5))] [])
def yiW (Q:Ex→Frm→Hp→Prop):Int→Prop:=(fun i0=>Q .ret [(2,.v (.int .i64 i0))] [])
def yiX (Q:Ex→Frm→Hp→Prop):List PV→List PV→List PV→Int→Int→Bool→Prop:=(fun l0 l1 l2 i3 i4 b5=>Q (.exit 2) [(1,.box (.agg [(.data l0),(.data l1)])),(36,.v (.data l2)),(37,.v (.int .i64 i3)),(38,.v (.int .i64 i4)),(39,.v (.bool b5))] [])
def yig (a0:yap) (Q:Ex→Frm→Hp→Prop) (n:Nat) (F:Frm) (H:Hp):Prop:=yeY F H (fun l0 l1 l2 i3 i4=>ycj a0 (yiU Q) (yiV Q) n l0 l1 l2 i3 i4)
def yih (a0:yap) (Q:Ex→Frm→Hp→Prop) (n:Nat) (F:Frm) (H:Hp):Prop:=yeZ F H (fun l0 l1 l2 i3 i4=>ybC a0 (yiW Q) (yiX Q) n l0 l1 l2 i3 i4)
def yey (a0:yap):LP:=fun id F H Q =>
 bif Nat.beq id 12157600 then yeY F H (fun l0 l1 l2 i3 i4=>∃ n:Nat,ycj a0 (yiU Q) (yiV Q) n l0 l1 l2 i3 i4) else
 bif Nat.beq id 12157601 then yeZ F H (fun l0 l1 l2 i3 i4=>∃ n:Nat,ybC a0 (yiW Q) (yiX Q) n l0 l1 l2 i3 i4) else
 False
def yjz (e:List (Nat×EffF)) (a0:yap):SE:=⟨(E e),lookS [(ybl,yc8 a0)],lookI [],yey a0⟩
theorem ylT (e:List (Nat×EffF)) (he:EG e):SEOk (yjz e yai):=yag ⟨(ydN e he),trivial⟩ trivial he.ok
theorem yrs (e:List (Nat×EffF)) (a0 Q n l0 l1 l2 i3 i4):WC (E e) (callW (yjz e a0) 5) (yey a0) ykg [(1,.box (.agg [(.data l0),(.data l1)])),(23,.v (.data l2)),(24,.v (.int .i64 i3)),(25,.v (.int .i64 i4))] [] (fun x F' H'=>match x with | .norm=>yig a0 Q n F' H' | .exit i=>Q (.exit i) F' H' | .ret=>Q .ret F' H')=ycj a0 (yiU Q) (yiV Q) (n+1) l0 l1 l2 i3 i4:=by kernel_rfl
theorem yvJ (e:List (Nat×EffF)) (_:EG e):LpOk (E e) (yey yai) ykg:=(yaf (by kernel_rfl))
theorem yuk (e:List (Nat×EffF)) (he:EG e):∀ F H Q,yey yai 12157600 F H Q→LoopT (E e) ykg F H Q:=by
 intro F H Q h
 have go:=LoopT.intro (yaH (ylT e he) 5) (yvJ e he) (yig yai Q) (by
   intro F H h
   unfold yig yeY at h
   split at h
   · exact h
   · exact h) (by
   intro n F H h
   unfold yig yeY at h
   split at h
   · exact (yrs ..).mpr h
   · exact h.elim)
 have h:yeY F H _:=h
 unfold yeY at h
 split at h
 · obtain ⟨n,h⟩:=h;exact go n _ _ h
 · exact h.elim
theorem yrt (e:List (Nat×EffF)) (a0 Q n l0 l1 l2 i3 i4):WC (E e) (callW (yjz e a0) 5) (yey a0) ykh [(1,.box (.agg [(.data l0),(.data l1)])),(36,.v (.data l2)),(37,.v (.int .i64 i3)),(38,.v (.int .i64 i4))] [] (fun x F' H'=>match x with | .norm=>yih a0 Q n F' H' | .exit i=>Q (.exit i) F' H' | .ret=>Q .ret F' H')=ybC a0 (yiW Q) (yiX Q) (n+1) l0 l1 l2 i3 i4:=by kernel_rfl
theorem yvK (e:List (Nat×EffF)) (_:EG e):LpOk (E e) (yey yai) ykh:=(yaf (by kernel_rfl))
theorem yul (e:List (Nat×EffF)) (he:EG e):∀ F H Q,yey yai 12157601 F H Q→LoopT (E e) ykh F H Q:=by
 intro F H Q h
 have go:=LoopT.intro (yaH (ylT e he) 5) (yvK e he) (yih yai Q) (by
   intro F H h
   unfold yih yeZ at h
   split at h
   · exact h
   · exact h) (by
   intro n F H h
   unfold yih yeZ at h
   split at h
   · exact (yrt ..).mpr h
   · exact h.elim)
 have h:yeZ F H _:=h
 unfold yeZ at h
 split at h
 · obtain ⟨n,h⟩:=h;exact go n _ _ h
 · exact h.elim
theorem yAF (e:List (Nat×EffF)) (a0 p0 p1 K):WP (yjz e a0) 6 yCl [(.agg [(.data p0),(.data p1)])] K=ynj a0 p0 p1 (fun r0=>K (.int .i64 r0)):=by kernel_rfl
theorem yg1 (e:List (Nat×EffF)) (he:EG e):OkF (E e) ysE ycv:=by
 intro as K h
 unfold ysE yfO at h
 split at h
 · exact WP_ok (ylT e he) (ybk (l:=[(12157600,ykg),(12157601,ykh)]) ⟨yuk e he,yul e he,trivial⟩ (by kernel_rfl)) (by kernel_rfl) (by kernel_rfl) (fun _=>yab (by kernel_rfl) _) (he.num _ (by kernel_rfl)) ((yAF ..).mpr h)
 · exact h.elim
abbrev yez:Type:=List PV→(List PV→Prop)→Prop
mutual
def yde (a0:ycF) (x0:List PV→List PV→Int→Int→Bool→Prop) (x1:List PV→Int→Int→Bool→Prop):Nat→List PV→Int→Int→Prop
 | 0,_,_,_=>False
 | n+1,l0,i1,i2 =>
 (cbr (decide (i2<i1))
 (asr (decide ((0:Int)≤i2))
 (asr (decide (i2<(((List.length l0):Nat):Int)))
 (asr (conf (.agg [.i .i64,.d,.d]) (List.getD l0 (i2.toNat) .nils))
 (a0 (datOfV (cellAt (List.getD l0 (i2.toNat) .nils) 1)) (fun yl0 =>
 (a0 (datOfV (cellAt (List.getD l0 (i2.toNat) .nils) 2)) (fun yl1 =>
 (asr (decide (1=List.length ([(.agg [(.int .i64 (intOfV (cellAt (List.getD l0 (i2.toNat) .nils) 0))),(.data yl0),(.data yl1)])]:List PV))&&decide (1=List.length ([(.agg [(.int .i64 (intOfV (cellAt (List.getD l0 (i2.toNat) .nils) 0))),(.data yl0),(.data yl1)])]:List PV)))
 (ybQ a0 x0 x1 n ([(.agg [(.int .i64 (intOfV (cellAt (List.getD l0 (i2.toNat) .nils) 0))),(.data yl0),(.data yl1)])]:List PV) l0 i1 (IntKind.i64.wrap (i2+(1:Int))))))))))))
 (x1 l0 i1 i2 false))
def ybQ (a0:ycF) (x0:List PV→List PV→Int→Int→Bool→Prop) (x1:List PV→Int→Int→Bool→Prop):Nat→List PV→List PV→Int→Int→Prop
 | 0,_,_,_,_=>False
 | n+1,l0,l3,i4,i5 =>
 (cbr (decide (i5<i4))
 (asr (decide ((0:Int)≤i5))
 (asr (decide (i5<(((List.length l3):Nat):Int)))
 (asr (conf (.agg [.i .i64,.d,.d]) (List.getD l3 (i5.toNat) .nils))
 (a0 (datOfV (cellAt (List.getD l3 (i5.toNat) .nils) 1)) (fun yl2 =>
 (a0 (datOfV (cellAt (List.getD l3 (i5.toNat) .nils) 2)) (fun yl3 =>
 (asr (decide ((List.length l0)=(List.length l0)))
 (asr (decide ((0+(List.length l0))≤(List.length l0)))
 (asr (!(decide (((0+(List.length l0))+1)≤(List.length l0))))
 (asr (decide ((List.length l0)=(List.length l0)))
 (asr (decide ((((List.length l0)+1)+64)*(56+1)≤room))
 (asr (decide ((List.length (l0++([(.agg [(.int .i64 (intOfV (cellAt (List.getD l3 (i5.toNat) .nils) 0))),(.data yl2),(.data yl3)])]:List PV)))=List.length (l0++([(.agg [(.int .i64 (intOfV (cellAt (List.getD l3 (i5.toNat) .nils) 0))),(.data yl2),(.data yl3)])]:List PV)))&&decide ((List.length (l0++([(.agg [(.int .i64 (intOfV (cellAt (List.getD l3 (i5.toNat) .nils) 0))),(.data yl2),(.data yl3)])]:List PV)))=List.length (l0++([(.agg [(.int .i64 (intOfV (cellAt (List.getD l3 (i5.toNat) .nils) 0))),(.data yl2),(.data yl3)])]:List PV))))
 (ybQ a0 x0 x1 n (l0++([(.agg [(.int .i64 (intOfV (cellAt (List.getD l3 (i5.toNat) .nils) 0))),(.data yl2),(.data yl3)])]:List PV)) l3 i4 (IntKind.i64.wrap (i5+(1:Int)))))))))))))))))
 (x0 l0 l3 i4 i5 false))
end
def ylU (a0:ycF) (p0:List PV) (K:List PV→Prop):Prop :=
 (∃ n:Nat,yde a0
 (fun yl4 _ _ _ _=>(asr (decide ((List.length yl4)=(List.length yl4)))
 (asr (decide ((0+(List.length yl4))≤(List.length yl4)))
 (K (List.take (List.length yl4) yl4)))))
 (fun _ _ _ _=>(K ([]:List PV)))
 n p0 (((List.length p0):Nat):Int) (0:Int))
def yc1 (p0:List PV) (K:List PV→Prop):Prop:=ylU ycc p0 K
def yii (w:yez) (as:List PV) (K:PV→Prop):Prop :=
 match as with
 | [(.data p0)]=>w p0 (fun r0=>K (.data r0))
 | _=>False
def yqD (as:List PV) (K:PV→Prop):Prop:=yii yc1 as K
def yd4 (F:Frm) (H:Hp) (A0:List PV→Int→Int→Prop) (A1:List PV→List PV→Int→Int→Prop):Prop :=
 match F,H with
 | [(3,.v .nils),(6,.v (.data l0)),(7,.v (.int .i64 i1)),(8,.v (.int .i64 i2))],[]=>(A0 l0 i1 i2)
 | [(3,.v (.own 0 0 t1 t2 none)),(6,.v (.data l3)),(7,.v (.int .i64 i4)),(8,.v (.int .i64 i5))],[⟨false,true,3,l0⟩]=>asr (decide (t1=List.length l0)&&decide (t2=List.length l0)) (A1 l0 l3 i4 i5)
 | _,_=>False
def ydf (Q:Ex→Frm→Hp→Prop):List PV→List PV→Int→Int→Bool→Prop:=(fun l0 l3 i4 i5 b6=>Q (.exit 0) [(3,.v (.own 0 0 (List.length l0) (List.length l0) none)),(6,.v (.data l3)),(7,.v (.int .i64 i4)),(8,.v (.int .i64 i5)),(9,.v (.bool b6))] [⟨false,true,3,l0⟩])
def ydg (Q:Ex→Frm→Hp→Prop):List PV→Int→Int→Bool→Prop:=(fun l0 i1 i2 b3=>Q (.exit 0) [(3,.v .nils),(6,.v (.data l0)),(7,.v (.int .i64 i1)),(8,.v (.int .i64 i2)),(9,.v (.bool b3))] [])
def yft (a0:ycF) (Q:Ex→Frm→Hp→Prop) (n:Nat) (F:Frm) (H:Hp):Prop:=yd4 F H (fun l0 i1 i2=>yde a0 (ydf Q) (ydg Q) n l0 i1 i2) (fun l0 l3 i4 i5=>ybQ a0 (ydf Q) (ydg Q) n l0 l3 i4 i5)
def ygb (a0:ycF):LP:=fun id F H Q =>
 bif Nat.beq id 94933800 then yd4 F H (fun l0 i1 i2=>∃ n:Nat,yde a0 (ydf Q) (ydg Q) n l0 i1 i2) (fun l0 l3 i4 i5=>∃ n:Nat,ybQ a0 (ydf Q) (ydg Q) n l0 l3 i4 i5) else
 False
def yij (e:List (Nat×EffF)) (a0:ycF):SE:=⟨(E e),lookS [(ybZ,yrd a0)],lookI [],ygb a0⟩
theorem yoB (e:List (Nat×EffF)) (he:EG e):SEOk (yij e ycc):=yag ⟨(yrf e he),trivial⟩ trivial he.ok
theorem yp3 (e:List (Nat×EffF)) (a0 Q n l0 i1 i2):WC (E e) (callW (yij e a0) 5) (ygb a0) yhz [(3,.v .nils),(6,.v (.data l0)),(7,.v (.int .i64 i1)),(8,.v (.int .i64 i2))] [] (fun x F' H'=>match x with | .norm=>yft a0 Q n F' H' | .exit i=>Q (.exit i) F' H' | .ret=>Q .ret F' H')=yde a0 (ydf Q) (ydg Q) (n+1) l0 i1 i2:=by kernel_rfl
theorem yp4 (e:List (Nat×EffF)) (a0 Q n l0 l3 i4 i5):WC (E e) (callW (yij e a0) 5) (ygb a0) yhz [(3,.v (.own 0 0 (List.length l0) (List.length l0) none)),(6,.v (.data l3)),(7,.v (.int .i64 i4)),(8,.v (.int .i64 i5))] [⟨false,true,3,l0⟩] (fun x F' H'=>match x with | .norm=>yft a0 Q n F' H' | .exit i=>Q (.exit i) F' H' | .ret=>Q .ret F' H')=ybQ a0 (ydf Q) (ydg Q) (n+1) l0 l3 i4 i5:=by kernel_rfl
theorem yum (e:List (Nat×EffF)) (_:EG e):LpOk (E e) (ygb ycc) yhz:=(yaf (by kernel_rfl))
theorem ysF (e:List (Nat×EffF)) (he:EG e):∀ F H Q,ygb ycc 94933800 F H Q→LoopT (E e) yhz F H Q:=by
 intro F H Q h
 have go:=LoopT.intro (yaH (yoB e he) 5) (yum e he) (yft ycc Q) (by
   intro F H h
   unfold yft yd4 at h
   split at h
   · exact h
   · obtain ⟨hg,k⟩:=yad.1 h
     clear h
     have h:=k
     clear k
     try simp only [Bool.and_eq_true,decide_eq_true_eq] at hg
     obtain ⟨g0,g1⟩:=hg;subst g0;subst g1;exact h
   · exact h) (by
   intro n F H h
   unfold yft yd4 at h
   split at h
   · exact (yp3 ..).mpr h
   · obtain ⟨hg,k⟩:=yad.1 h
     clear h
     have h:=k
     clear k
     try simp only [Bool.and_eq_true,decide_eq_true_eq] at hg
     obtain ⟨g0,g1⟩:=hg;subst g0;subst g1;exact (yp4 ..).mpr h
   · exact h.elim)
 have h:yd4 F H _ _:=h
 unfold yd4 at h
 split at h
 · obtain ⟨n,h⟩:=h;exact go n _ _ h
 · obtain ⟨hg,n,h⟩:=yad.1 h;exact go n _ _ (yad.2 ⟨hg,h⟩)
 · exact h.elim
theorem yyM (e:List (Nat×EffF)) (a0 p0 K):WP (yij e a0) 6 yAe [(.data p0)] K=ylU a0 p0 (fun r0=>K (.data r0)):=by kernel_rfl
theorem ylV (e:List (Nat×EffF)) (he:EG e):OkF (E e) yqD yej:=by
 intro as K h
 unfold yqD yii at h
 split at h
 · exact WP_ok (yoB e he) (ybk (l:=[(94933800,yhz)]) ⟨ysF e he,trivial⟩ (by kernel_rfl)) (by kernel_rfl) (by kernel_rfl) (fun _=>yab (by kernel_rfl) _) (he.num _ (by kernel_rfl)) ((yyM ..).mpr h)
 · exact h.elim
abbrev ycT:Type:=List PV→(List PV→List PV→Int→Prop)→Prop
def yoC (a0:yaQ) (a1:yez) (p0:List PV) (K:List PV→List PV→Int→Prop):Prop :=
 (a0 p0 ([]:List PV) (fun yi0 =>
 (cbr (yi0 !=(0:Int))
 (K ([]:List PV) ([]:List PV) yi0)
 (a1 p0 (fun yl1 =>
 (K yl1 ([]:List PV) (0:Int)))))))
def ya2 (p0:List PV) (K:List PV→List PV→Int→Prop):Prop:=yoC yav yc1 p0 K
def yoD (w:ycT) (as:List PV) (K:PV→Prop):Prop :=
 match as with
 | [(.data p0)]=>w p0 (fun r0 r1 r2=>K (.tup [(.agg [(.data r0),(.data r1)]),(.int .i64 r2)]))
 | _=>False
def yu1 (as:List PV) (K:PV→Prop):Prop:=yoD ya2 as K
def yCJ (_:yaQ) (_:yez):LP:=fun _ _ _ _ =>
 False
def yu2 (e:List (Nat×EffF)) (a0:yaQ) (a1:yez):SE:=⟨(E e),lookS [(ycv,yfO a0),(yej,yii a1)],lookI [],yCJ a0 a1⟩
theorem yAG (e:List (Nat×EffF)) (he:EG e):SEOk (yu2 e yav yc1):=yag ⟨(yg1 e he),(ylV e he),trivial⟩ trivial he.ok
theorem yCK (e:List (Nat×EffF)) (a0 a1 p0 K):WP (yu2 e a0 a1) 6 yEo [(.data p0)] K=yoC a0 a1 p0 (fun r0 r1 r2=>K (.tup [(.agg [(.data r0),(.data r1)]),(.int .i64 r2)])):=by kernel_rfl
theorem yCL (e:List (Nat×EffF)) (he:EG e):OkF (E e) yu1 yj5:=by
 intro as K h
 unfold yu1 yoD at h
 split at h
 · exact WP_ok (yAG e he) (yaf (by kernel_rfl)) (by kernel_rfl) (by kernel_rfl) (fun _=>yab (by kernel_rfl) _) (he.num _ (by kernel_rfl)) ((yCK ..).mpr h)
 · exact h.elim
abbrev yff:Type:=List PV→List PV→Int→Int→Int→Int→Int→(Int→Int→Int→Prop)→Prop
def ygq (a0:yc9) (p0 _:List PV) (p2 p3 p4 p5 p6:Int) (K:Int→Int→Int→Prop):Prop :=
 (asr (decide ((0:Int)≤p2))
 (asr (decide (p2<(((List.length p0):Nat):Int)))
 (asr (conf (.agg [.i .i64,.d,.d]) (List.getD p0 (p2.toNat) .nils))
 (a0 (intOfV (cellAt (List.getD p0 (p2.toNat) .nils) 0)) (datOfV (cellAt (List.getD p0 (p2.toNat) .nils) 1)) (datOfV (cellAt (List.getD p0 (p2.toNat) .nils) 2)) p3 p4 p5 p6 (fun yi0 yi1 yi2 =>
 (K yi0 yi1 yi2))))))
def yfg (p0 p1:List PV) (p2 p3 p4 p5 p6:Int) (K:Int→Int→Int→Prop):Prop:=ygq ybP p0 p1 p2 p3 p4 p5 p6 K
def ygr (w:yff) (as:List PV) (K:PV→Prop):Prop :=
 match as with
 | [(.agg [(.data p0),(.data p1)]),(.int .i64 p2),(.agg [(.int .i64 p3),(.int .i64 p4)]),(.agg [(.int .i64 p5),(.int .i64 p6)])]=>w p0 p1 p2 p3 p4 p5 p6 (fun r0 r1 r2=>K (.tup [(.agg [(.int .i64 r0),(.int .i64 r1)]),(.int .i64 r2)]))
 | _=>False
def ykC (as:List PV) (K:PV→Prop):Prop:=ygr yfg as K
def yru (_:yc9):LP:=fun _ _ _ _ =>
 False
def ykD (e:List (Nat×EffF)) (a0:yc9):SE:=⟨(E e),lookS [(ydy,ygY a0)],lookI [],yru a0⟩
theorem yp5 (e:List (Nat×EffF)) (he:EG e):SEOk (ykD e ybP):=yag ⟨(yjy e he),trivial⟩ trivial he.ok
theorem yrv (e:List (Nat×EffF)) (a0 p0 p1 p2 p3 p4 p5 p6 K):WP (ykD e a0) 6 ysj [(.agg [(.data p0),(.data p1)]),(.int .i64 p2),(.agg [(.int .i64 p3),(.int .i64 p4)]),(.agg [(.int .i64 p5),(.int .i64 p6)])] K=ygq a0 p0 p1 p2 p3 p4 p5 p6 (fun r0 r1 r2=>K (.tup [(.agg [(.int .i64 r0),(.int .i64 r1)]),(.int .i64 r2)])):=by kernel_rfl
theorem yrw (e:List (Nat×EffF)) (he:EG e):OkF (E e) ykC ydz:=by
 intro as K h
 unfold ykC ygr at h
 split at h
 · exact WP_ok (yp5 e he) (yaf (by kernel_rfl)) (by kernel_rfl) (by kernel_rfl) (fun _=>yab (by kernel_rfl) _) (he.num _ (by kernel_rfl)) ((yrv ..).mpr h)
 · exact h.elim
abbrev yfP:Type:=List PV→List PV→Int→(Bool→Prop)→Prop
def yg2 (p0 _:List PV) (p2:Int) (K:Bool→Prop):Prop :=
 (cbr (decide (p2≥(0:Int)))
 (K (decide (p2<(((List.length p0):Nat):Int))))
 (K false))
def yd5 (p0 p1:List PV) (p2:Int) (K:Bool→Prop):Prop:=yg2 p0 p1 p2 K
def yg3 (w:yfP) (as:List PV) (K:PV→Prop):Prop :=
 match as with
 | [(.agg [(.data p0),(.data p1)]),(.int .i64 p2)]=>w p0 p1 p2 (fun r0=>K (.bool r0))
 | _=>False
def yla (as:List PV) (K:PV→Prop):Prop:=yg3 yd5 as K
def ysG:LP:=fun _ _ _ _ =>
 False
def ylb (e:List (Nat×EffF)):SE:=⟨(E e),lookS [],lookI [],ysG⟩
theorem yrx (e:List (Nat×EffF)) (he:EG e):SEOk (ylb e):=yag trivial trivial he.ok
theorem ysH (e:List (Nat×EffF)) ( p0 p1 p2 K):WP (ylb e) 6 yt0 [(.agg [(.data p0),(.data p1)]),(.int .i64 p2)] K=yg2 p0 p1 p2 (fun r0=>K (.bool r0)):=by kernel_rfl
theorem ysI (e:List (Nat×EffF)) (he:EG e):OkF (E e) yla ydY:=by
 intro as K h
 unfold yla yg3 at h
 split at h
 · exact WP_ok (yrx e he) (yaf (by kernel_rfl)) (by kernel_rfl) (by kernel_rfl) (fun _=>yab (by kernel_rfl) _) (he.num _ (by kernel_rfl)) ((ysH ..).mpr h)
 · exact h.elim
abbrev ycU:Type:=List PV→List PV→Int→Int→Int→Int→Int→(List PV→List PV→Int→Int→Int→Prop)→Prop
def yoE (a0:yaQ) (a1:yfP) (a2:yff) (a3:yez) (p0 p1:List PV) (p2 p3 p4 p5 p6:Int) (K:List PV→List PV→Int→Int→Int→Prop):Prop :=
 (a0 p0 p1 (fun yi0 =>
 (cbr (yi0 !=(0:Int))
 (K ([]:List PV) ([]:List PV) (0:Int) (0:Int) yi0)
 (a1 p0 p1 p2 (fun yb1 =>
 (cbr (!yb1)
 (K ([]:List PV) ([]:List PV) (0:Int) (0:Int) (2:Int))
 (a2 p0 p1 p2 p3 p4 p5 p6 (fun yi2 yi3 yi4 =>
 (cbr (yi4 !=(0:Int))
 (K ([]:List PV) ([]:List PV) (0:Int) (0:Int) yi4)
 (cbr (decide ((((List.length p1):Nat):Int)≥(2000:Int)))
 (K ([]:List PV) ([]:List PV) (0:Int) (0:Int) (4:Int))
 (asr (decide ((0:Int)≤(IntKind.i64.wrap ((((List.length p1):Nat):Int)+(1:Int)))))
 (asr (decide ((((IntKind.i64.wrap ((((List.length p1):Nat):Int)+(1:Int))).toNat)+64)*(64+1)≤room))
 (a3 p0 (fun yl5 =>
 (asr (headOk 8 p1)
 (asr (decide ((List.length (List.replicate ((IntKind.i64.wrap ((((List.length p1):Nat):Int)+(1:Int))).toNat) ((.agg [(.int .i64 (0)),(.int .u8 (0)),(.int .i64 (0)),(.int .i64 (0)),(.int .i64 (0)),(.int .i64 (0)),(.int .i64 (0)),(.int .i64 (0))]):PV)))=((IntKind.i64.wrap ((((List.length p1):Nat):Int)+(1:Int))).toNat)))
 (asr (decide (0≤((IntKind.i64.wrap ((((List.length p1):Nat):Int)+(1:Int))).toNat)))
 (cbr (List.isEmpty p1)
 (asr (decide ((List.length (List.replicate ((IntKind.i64.wrap ((((List.length p1):Nat):Int)+(1:Int))).toNat) ((.agg [(.int .i64 (0)),(.int .u8 (0)),(.int .i64 (0)),(.int .i64 (0)),(.int .i64 (0)),(.int .i64 (0)),(.int .i64 (0)),(.int .i64 (0))]):PV)))=((IntKind.i64.wrap ((((List.length p1):Nat):Int)+(1:Int))).toNat)))
 (asr (decide (0≤((IntKind.i64.wrap ((((List.length p1):Nat):Int)+(1:Int))).toNat)))
 (asr (decide (1≤((IntKind.i64.wrap ((((List.length p1):Nat):Int)+(1:Int))).toNat)))
 (asr (decide ((List.length (([(.agg [(.int .i64 p2),(.int .u8 (2:Int)),(.int .i64 p3),(.int .i64 p4),(.int .i64 p5),(.int .i64 p6),(.int .i64 yi2),(.int .i64 yi3)])]:List PV)++(List.drop 1 (List.replicate ((IntKind.i64.wrap ((((List.length p1):Nat):Int)+(1:Int))).toNat) ((.agg [(.int .i64 (0)),(.int .u8 (0)),(.int .i64 (0)),(.int .i64 (0)),(.int .i64 (0)),(.int .i64 (0)),(.int .i64 (0)),(.int .i64 (0))]):PV)))))=((IntKind.i64.wrap ((((List.length p1):Nat):Int)+(1:Int))).toNat)))
 (asr (decide (1≤((IntKind.i64.wrap ((((List.length p1):Nat):Int)+(1:Int))).toNat)))
 (K yl5 (List.take 1 (([(.agg [(.int .i64 p2),(.int .u8 (2:Int)),(.int .i64 p3),(.int .i64 p4),(.int .i64 p5),(.int .i64 p6),(.int .i64 yi2),(.int .i64 yi3)])]:List PV)++(List.drop 1 (List.replicate ((IntKind.i64.wrap ((((List.length p1):Nat):Int)+(1:Int))).toNat) ((.agg [(.int .i64 (0)),(.int .u8 (0)),(.int .i64 (0)),(.int .i64 (0)),(.int .i64 (0)),(.int .i64 (0)),(.int .i64 (0)),(.int .i64 (0))]):PV))))) yi2 yi3 (0:Int)))))))
 (asr (decide ((0+(List.length p1))≤((IntKind.i64.wrap ((((List.length p1):Nat):Int)+(1:Int))).toNat)))
 (asr (decide ((List.length (p1++(List.drop (0+(List.length p1)) (List.replicate ((IntKind.i64.wrap ((((List.length p1):Nat):Int)+(1:Int))).toNat) ((.agg [(.int .i64 (0)),(.int .u8 (0)),(.int .i64 (0)),(.int .i64 (0)),(.int .i64 (0)),(.int .i64 (0)),(.int .i64 (0)),(.int .i64 (0))]):PV)))))=((IntKind.i64.wrap ((((List.length p1):Nat):Int)+(1:Int))).toNat)))
 (asr (decide ((0+(0+(List.length p1)))≤((IntKind.i64.wrap ((((List.length p1):Nat):Int)+(1:Int))).toNat)))
 (asr (decide (((0+(List.length p1))+1)≤((IntKind.i64.wrap ((((List.length p1):Nat):Int)+(1:Int))).toNat)))
 (asr (decide ((List.length ((List.take (0+(0+(List.length p1))) (p1++(List.drop (0+(List.length p1)) (List.replicate ((IntKind.i64.wrap ((((List.length p1):Nat):Int)+(1:Int))).toNat) ((.agg [(.int .i64 (0)),(.int .u8 (0)),(.int .i64 (0)),(.int .i64 (0)),(.int .i64 (0)),(.int .i64 (0)),(.int .i64 (0)),(.int .i64 (0))]):PV)))))++(([(.agg [(.int .i64 p2),(.int .u8 (2:Int)),(.int .i64 p3),(.int .i64 p4),(.int .i64 p5),(.int .i64 p6),(.int .i64 yi2),(.int .i64 yi3)])]:List PV)++(List.drop ((0+(0+(List.length p1)))+1) (p1++(List.drop (0+(List.length p1)) (List.replicate ((IntKind.i64.wrap ((((List.length p1):Nat):Int)+(1:Int))).toNat) ((.agg [(.int .i64 (0)),(.int .u8 (0)),(.int .i64 (0)),(.int .i64 (0)),(.int .i64 (0)),(.int .i64 (0)),(.int .i64 (0)),(.int .i64 (0))]):PV))))))))=((IntKind.i64.wrap ((((List.length p1):Nat):Int)+(1:Int))).toNat)))
 (asr (decide ((0+((0+(List.length p1))+1))≤((IntKind.i64.wrap ((((List.length p1):Nat):Int)+(1:Int))).toNat)))
 (K yl5 (List.take ((0+(List.length p1))+1) ((List.take (0+(0+(List.length p1))) (p1++(List.drop (0+(List.length p1)) (List.replicate ((IntKind.i64.wrap ((((List.length p1):Nat):Int)+(1:Int))).toNat) ((.agg [(.int .i64 (0)),(.int .u8 (0)),(.int .i64 (0)),(.int .i64 (0)),(.int .i64 (0)),(.int .i64 (0)),(.int .i64 (0)),(.int .i64 (0))]):PV)))))++(([(.agg [(.int .i64 p2),(.int .u8 (2:Int)),(.int .i64 p3),(.int .i64 p4),(.int .i64 p5),(.int .i64 p6),(.int .i64 yi2),(.int .i64 yi3)])]:List PV)++(List.drop ((0+(0+(List.length p1)))+1) (p1++(List.drop (0+(List.length p1)) (List.replicate ((IntKind.i64.wrap ((((List.length p1):Nat):Int)+(1:Int))).toNat) ((.agg [(.int .i64 (0)),(.int .u8 (0)),(.int .i64 (0)),(.int .i64 (0)),(.int .i64 (0)),(.int .i64 (0)),(.int .i64 (0)),(.int .i64 (0))]):PV)))))))) yi2 yi3 (0:Int))))))))))))))))))))))))))
def yaO (p0 p1:List PV) (p2 p3 p4 p5 p6:Int) (K:List PV→List PV→Int→Int→Int→Prop):Prop:=yoE yav yd5 yfg yc1 p0 p1 p2 p3 p4 p5 p6 K
def yoF (w:ycU) (as:List PV) (K:PV→Prop):Prop :=
 match as with
 | [(.agg [(.data p0),(.data p1)]),(.int .i64 p2),(.agg [(.int .i64 p3),(.int .i64 p4)]),(.agg [(.int .i64 p5),(.int .i64 p6)])]=>w p0 p1 p2 p3 p4 p5 p6 (fun r0 r1 r2 r3 r4=>K (.tup [(.agg [(.data r0),(.data r1)]),(.agg [(.int .i64 r2),(.int .i64 r3)]),(.int .i64 r4)]))
 | _=>False
def yu3 (as:List PV) (K:PV→Prop):Prop:=yoF yaO as K
def yCM (_:yaQ) (_:yfP) (_:yff) (_:yez):LP:=fun _ _ _ _ =>
 False
def yu4 (e:List (Nat×EffF)) (a0:yaQ) (a1:yfP) (a2:yff) (a3:yez):SE:=⟨(E e),lookS [(ycv,yfO a0),(ydY,yg3 a1),(ydz,ygr a2),(yej,yii a3)],lookI [(yhv,yt1)],yCM a0 a1 a2 a3⟩
theorem yAH (e:List (Nat×EffF)) (he:EG e):SEOk (yu4 e yav yd5 yfg yc1):=yag ⟨(yg1 e he),(ysI e he),(yrw e he),(ylV e he),trivial⟩ ⟨⟨by kernel_rfl,by kernel_rfl,rfl,fun as=>yab (by kernel_rfl) as,he.num _ (by kernel_rfl),(yaf (by kernel_rfl))⟩,trivial⟩ he.ok
theorem yCN (e:List (Nat×EffF)) (a0 a1 a2 a3 p0 p1 p2 p3 p4 p5 p6 K):WP (yu4 e a0 a1 a2 a3) 6 yEp [(.agg [(.data p0),(.data p1)]),(.int .i64 p2),(.agg [(.int .i64 p3),(.int .i64 p4)]),(.agg [(.int .i64 p5),(.int .i64 p6)])] K=yoE a0 a1 a2 a3 p0 p1 p2 p3 p4 p5 p6 (fun r0 r1 r2 r3 r4=>K (.tup [(.agg [(.data r0),(.data r1)]),(.agg [(.int .i64 r2),(.int .i64 r3)]),(.int .i64 r4)])):=by kernel_rfl
theorem yu5 (e:List (Nat×EffF)) (he:EG e):OkF (E e) yu3 yj6:=by
 intro as K h
 unfold yu3 yoF at h
 split at h
 · exact WP_ok (yAH e he) (yaf (by kernel_rfl)) (by kernel_rfl) (by kernel_rfl) (fun _=>yab (by kernel_rfl) _) (he.num _ (by kernel_rfl)) ((yCN ..).mpr h)
 · exact h.elim
end Go.Pf.Vc
namespace Go.Pf.Vc
open Go Go.Pf
set_option linter.unusedVariables false
theorem yyN (p0:List PV) (p1:List PV) (r0:Int) (h:∀ K:Int→Prop,K r0→yav p0 p1 K) (K:Int→Prop):yav p0 p1 K=K r0 :=
 propext ⟨fun k=>detC (yg1 [] yaT) (as:=[(.agg [(.data p0),(.data p1)])]) (x:=(.int .i64 r0)) (fun K' k'=>h (fun r0=>K' (.int .i64 r0)) k') (K:=fun x=>match x with | (.int .i64 r0)=>K r0 | _=>False) k,h K⟩
theorem yxa (p0:List PV) (r0:List PV) (h:∀ K:List PV→Prop,K r0→yc1 p0 K) (K:List PV→Prop):yc1 p0 K=K r0 :=
 propext ⟨fun k=>detC (ylV [] yaT) (as:=[(.data p0)]) (x:=(.data r0)) (fun K' k'=>h (fun r0=>K' (.data r0)) k') (K:=fun x=>match x with | (.data r0)=>K r0 | _=>False) k,h K⟩
theorem yAI (p0:List PV) (p1:List PV) (p2:Int) (p3:Int) (p4:Int) (p5:Int) (p6:Int) (r0:List PV) (r1:List PV) (r2:Int) (r3:Int) (r4:Int) (h:∀ K:List PV→List PV→Int→Int→Int→Prop,K r0 r1 r2 r3 r4→yaO p0 p1 p2 p3 p4 p5 p6 K) (K:List PV→List PV→Int→Int→Int→Prop):yaO p0 p1 p2 p3 p4 p5 p6 K=K r0 r1 r2 r3 r4 :=
 propext ⟨fun k=>detC (yu5 [] yaT) (as:=[(.agg [(.data p0),(.data p1)]),(.int .i64 p2),(.agg [(.int .i64 p3),(.int .i64 p4)]),(.agg [(.int .i64 p5),(.int .i64 p6)])]) (x:=(.tup [(.agg [(.data r0),(.data r1)]),(.agg [(.int .i64 r2),(.int .i64 r3)]),(.int .i64 r4)])) (fun K' k'=>h (fun r0 r1 r2 r3 r4=>K' (.tup [(.agg [(.data r0),(.data r1)]),(.agg [(.int .i64 r2),(.int .i64 r3)]),(.int .i64 r4)])) k') (K:=fun x=>match x with | (.tup [(.agg [(.data r0),(.data r1)]),(.agg [(.int .i64 r2),(.int .i64 r3)]),(.int .i64 r4)])=>K r0 r1 r2 r3 r4 | _=>False) k,h K⟩
end Go.Pf.Vc
namespace Go.Pf.Vc
open Go Go.Pf
set_option maxRecDepth 100000
abbrev yal:Type:=Int→(Int→Int→Prop)→Prop
def yoG (p0:Int) (K:Int→Int→Prop):Prop :=
 (K p0 (1:Int))
def yae (p0:Int) (K:Int→Int→Prop):Prop:=yoG p0 K
def yd6 (w:yal) (as:List PV) (K:PV→Prop):Prop :=
 match as with
 | [(.int .i64 p0)]=>w p0 (fun r0 r1=>K (.agg [(.int .i64 r0),(.int .i64 r1)]))
 | _=>False
def yoH (as:List PV) (K:PV→Prop):Prop:=yd6 yae as K
def yxb:LP:=fun _ _ _ _ =>
 False
def yoI (e:List (Nat×EffF)):SE:=⟨(E e),lookS [],lookI [],yxb⟩
theorem yvL (e:List (Nat×EffF)) (he:EG e):SEOk (yoI e):=yag trivial trivial he.ok
theorem yxc (e:List (Nat×EffF)) ( p0 K):WP (yoI e) 6 yyd [(.int .i64 p0)] K=yoG p0 (fun r0 r1=>K (.agg [(.int .i64 r0),(.int .i64 r1)])):=by kernel_rfl
theorem yg4 (e:List (Nat×EffF)) (he:EG e):OkF (E e) yoH yaW:=by
 intro as K h
 unfold yoH yd6 at h
 split at h
 · exact WP_ok (yvL e he) (yaf (by kernel_rfl)) (by kernel_rfl) (by kernel_rfl) (fun _=>yab (by kernel_rfl) _) (he.num _ (by kernel_rfl)) ((yxc ..).mpr h)
 · exact h.elim
abbrev yaE:Type:=Int→List PV→List PV→Int→(Int→Int→Prop)→Prop
def ylW (a0:yjw) (a1:yjs) (p0:Int) (p1 p2:List PV) (p3:Int) (K:Int→Int→Prop):Prop :=
 (a0 p0 p1 p2 (fun yi0 _ =>
 (a1 yi0 p3 (fun yi2 yi3 _ =>
 (K yi2 yi3)))))
def yaq (p0:Int) (p1 p2:List PV) (p3:Int) (K:Int→Int→Prop):Prop:=ylW ydG ydC p0 p1 p2 p3 K
def ye0 (w:yaE) (as:List PV) (K:PV→Prop):Prop :=
 match as with
 | [(.agg [(.int .i64 p0),(.data p1),(.data p2)]),(.int .i64 p3)]=>w p0 p1 p2 p3 (fun r0 r1=>K (.agg [(.int .i64 r0),(.int .i64 r1)]))
 | _=>False
def yqE (as:List PV) (K:PV→Prop):Prop:=ye0 yaq as K
def yyO (_:yjw) (_:yjs):LP:=fun _ _ _ _ =>
 False
def yqF (e:List (Nat×EffF)) (a0:yjw) (a1:yjs):SE:=⟨(E e),lookS [(ygP,ylM a0),(ygQ,ylG a1)],lookI [],yyO a0 a1⟩
theorem yxd (e:List (Nat×EffF)) (he:EG e):SEOk (yqF e ydG ydC):=yag ⟨(yqw e he),(yqs e he),trivial⟩ trivial he.ok
theorem yyP (e:List (Nat×EffF)) (a0 a1 p0 p1 p2 p3 K):WP (yqF e a0 a1) 6 yAi [(.agg [(.int .i64 p0),(.data p1),(.data p2)]),(.int .i64 p3)] K=ylW a0 a1 p0 p1 p2 p3 (fun r0 r1=>K (.agg [(.int .i64 r0),(.int .i64 r1)])):=by kernel_rfl
theorem yik (e:List (Nat×EffF)) (he:EG e):OkF (E e) yqE ycb:=by
 intro as K h
 unfold yqE ye0 at h
 split at h
 · exact WP_ok (yxd e he) (yaf (by kernel_rfl)) (by kernel_rfl) (by kernel_rfl) (fun _=>yab (by kernel_rfl) _) (he.num _ (by kernel_rfl)) ((yyP ..).mpr h)
 · exact h.elim
abbrev yaI:Type:=Int→Int→Int→Int→(Bool→Prop)→Prop
def ylX (a0:yfs) (p0 p1 p2 p3:Int) (K:Bool→Prop):Prop :=
 (a0 p0 p1 p2 p3 (fun yi0 _ =>
 (K (decide (yi0<(0:Int))))))
def yam (p0 p1 p2 p3:Int) (K:Bool→Prop):Prop:=ylX yc6 p0 p1 p2 p3 K
def ygc (w:yaI) (as:List PV) (K:PV→Prop):Prop :=
 match as with
 | [(.agg [(.int .i64 p0),(.int .i64 p1)]),(.agg [(.int .i64 p2),(.int .i64 p3)])]=>w p0 p1 p2 p3 (fun r0=>K (.bool r0))
 | _=>False
def yqG (as:List PV) (K:PV→Prop):Prop:=ygc yam as K
def yyQ (_:yfs):LP:=fun _ _ _ _ =>
 False
def yqH (e:List (Nat×EffF)) (a0:yfs):SE:=⟨(E e),lookS [(yfk,yju a0)],lookI [],yyQ a0⟩
theorem yxe (e:List (Nat×EffF)) (he:EG e):SEOk (yqH e yc6):=yag ⟨(ym9 e he),trivial⟩ trivial he.ok
theorem yyR (e:List (Nat×EffF)) (a0 p0 p1 p2 p3 K):WP (yqH e a0) 6 yAm [(.agg [(.int .i64 p0),(.int .i64 p1)]),(.agg [(.int .i64 p2),(.int .i64 p3)])] K=ylX a0 p0 p1 p2 p3 (fun r0=>K (.bool r0)):=by kernel_rfl
theorem ylY (e:List (Nat×EffF)) (he:EG e):OkF (E e) yqG yc0:=by
 intro as K h
 unfold yqG ygc at h
 split at h
 · exact WP_ok (yxe e he) (yaf (by kernel_rfl)) (by kernel_rfl) (by kernel_rfl) (fun _=>yab (by kernel_rfl) _) (he.num _ (by kernel_rfl)) ((yyR ..).mpr h)
 · exact h.elim
abbrev yil:Type:=List PV→(List PV→List PV→List PV→Int→Prop)→Prop
def ybt (a0:ycT) (a1:yal) (a2:yaE) (a3:ycU) (a4:yaI) (x29600600_0:List PV→List PV→List PV→List PV→Nat→Nat→Nat→Int→Int→Bool→Prop):Nat→List PV→List PV→List PV→List PV→Nat→Nat→Nat→Int→Int→Prop
 | 0,_,_,_,_,_,_,_,_,_=>False
 | n29600600+1,l0,l1,l2,l3,n4,n5,n6,i7,i8 =>
 (cbr (decide (i8<i7))
 (asr (decide ((List.length l0)=n5))
 (asr (decide ((0+n4)≤n5))
 (asr (decide ((n4+1)≤n6))
 (ybt a0 a1 a2 a3 a4 x29600600_0 n29600600 ((List.take (0+n4) l0)++(([(.int .i64 i8)]:List PV)++(List.drop ((0+n4)+1) l0))) l1 l2 l3 (n4+1) n5 n6 i7 (IntKind.i64.wrap (i8+(1:Int)))))))
 (x29600600_0 l0 l1 l2 l3 n4 n5 n6 i7 i8 false))
mutual
def ya3 (a0:ycT) (a1:yal) (a2:yaE) (a3:ycU) (a4:yaI) (x29600601_0:List PV→List PV→Int→Prop) (x29600601_1:List PV→List PV→List PV→Nat→Nat→Nat→List PV→List PV→Nat→Nat→Nat→Int→Int→Int→Int→Int→Nat→Nat→Nat→Int→Int→Bool→Prop) (x29600601_2:List PV→List PV→List PV→Int→Prop) (x29600601_3:List PV→List PV→List PV→List PV→Nat→Nat→Nat→List PV→List PV→Nat→Nat→Nat→Int→Int→Int→Int→Int→Nat→Nat→Nat→Int→Int→Bool→Prop):Nat→List PV→List PV→List PV→Nat→Nat→Nat→List PV→List PV→Nat→Nat→Nat→Int→Int→Int→Int→Int→Nat→Nat→Nat→Int→Int→Prop
 | 0,_,_,_,_,_,_,_,_,_,_,_,_,_,_,_,_,_,_,_,_,_=>False
 | n29600601+1,l0,l1,l2,n3,n4,n5,l6,l7,n8,n9,n10,i11,i12,i13,i14,i15,n16,n17,n18,i19,i20 =>
 (cbr (decide (i20<i19))
 (asr (decide ((0:Int)≤i20))
 (asr (decide (i20<((n16:Nat):Int)))
 (asr (decide ((List.length l0)=n17))
 (asr (decide ((0+(i20.toNat))<(List.length l0)))
 (asr (conf (.one (.i .i64)) (List.getD l0 (0+(i20.toNat)) .nils))
 (asr (decide ((0:Int)≤(intOfV (List.getD l0 (0+(i20.toNat)) .nils))))
 (asr (decide ((intOfV (List.getD l0 (0+(i20.toNat)) .nils))<(((List.length l2):Nat):Int)))
 (asr (conf (.agg [.i .i64,.d,.d]) (List.getD l2 ((intOfV (List.getD l0 (0+(i20.toNat)) .nils)).toNat) .nils))
 (a2 (intOfV (cellAt (List.getD l2 ((intOfV (List.getD l0 (0+(i20.toNat)) .nils)).toNat) .nils) 0)) (datOfV (cellAt (List.getD l2 ((intOfV (List.getD l0 (0+(i20.toNat)) .nils)).toNat) .nils) 1)) (datOfV (cellAt (List.getD l2 ((intOfV (List.getD l0 (0+(i20.toNat)) .nils)).toNat) .nils) 2)) (((List.length l2):Nat):Int) (fun yi15 yi16 =>
 (a3 l6 l7 (intOfV (List.getD l0 (0+(i20.toNat)) .nils)) i11 i12 yi15 yi16 (fun yl17 yl18 yi19 yi20 yi21 =>
 (cbr (yi21 !=(0:Int))
 (x29600601_0 l0 l1 yi21)
 (cbr (i20 ==(0:Int))
 (ya3 a0 a1 a2 a3 a4 x29600601_0 x29600601_1 x29600601_2 x29600601_3 n29600601 l0 l1 l2 n3 n4 n5 yl17 yl18 n8 n9 n10 i11 i12 i20 yi19 yi20 n16 n17 n18 i19 (IntKind.i64.wrap (i20+(1:Int))))
 (a4 yi19 yi20 i14 i15 (fun yb22 =>
 (cbr yb22
 (ya3 a0 a1 a2 a3 a4 x29600601_0 x29600601_1 x29600601_2 x29600601_3 n29600601 l0 l1 l2 n3 n4 n5 yl17 yl18 n8 n9 n10 i11 i12 i20 yi19 yi20 n16 n17 n18 i19 (IntKind.i64.wrap (i20+(1:Int))))
 (ya3 a0 a1 a2 a3 a4 x29600601_0 x29600601_1 x29600601_2 x29600601_3 n29600601 l0 l1 l2 n3 n4 n5 yl17 yl18 n8 n9 n10 i11 i12 i13 i14 i15 n16 n17 n18 i19 (IntKind.i64.wrap (i20+(1:Int)))))))))))))))))))))
 (x29600601_1 l0 l1 l2 n3 n4 n5 l6 l7 n8 n9 n10 i11 i12 i13 i14 i15 n16 n17 n18 i19 i20 false))
def ya4 (a0:ycT) (a1:yal) (a2:yaE) (a3:ycU) (a4:yaI) (x29600601_0:List PV→List PV→Int→Prop) (x29600601_1:List PV→List PV→List PV→Nat→Nat→Nat→List PV→List PV→Nat→Nat→Nat→Int→Int→Int→Int→Int→Nat→Nat→Nat→Int→Int→Bool→Prop) (x29600601_2:List PV→List PV→List PV→Int→Prop) (x29600601_3:List PV→List PV→List PV→List PV→Nat→Nat→Nat→List PV→List PV→Nat→Nat→Nat→Int→Int→Int→Int→Int→Nat→Nat→Nat→Int→Int→Bool→Prop):Nat→List PV→List PV→List PV→List PV→Nat→Nat→Nat→List PV→List PV→Nat→Nat→Nat→Int→Int→Int→Int→Int→Nat→Nat→Nat→Int→Int→Prop
 | 0,_,_,_,_,_,_,_,_,_,_,_,_,_,_,_,_,_,_,_,_,_,_=>False
 | n29600601+1,l0,l1,l2,l3,n4,n5,n6,l9,l10,n11,n12,n13,i14,i15,i16,i17,i18,n19,n20,n21,i22,i23 =>
 (cbr (decide (i23<i22))
 (asr (decide ((0:Int)≤i23))
 (asr (decide (i23<((n19:Nat):Int)))
 (asr (decide ((List.length l0)=n20))
 (asr (decide ((0+(i23.toNat))<(List.length l0)))
 (asr (conf (.one (.i .i64)) (List.getD l0 (0+(i23.toNat)) .nils))
 (asr (decide ((0:Int)≤(intOfV (List.getD l0 (0+(i23.toNat)) .nils))))
 (asr (decide ((intOfV (List.getD l0 (0+(i23.toNat)) .nils))<(((List.length l3):Nat):Int)))
 (asr (conf (.agg [.i .i64,.d,.d]) (List.getD l3 ((intOfV (List.getD l0 (0+(i23.toNat)) .nils)).toNat) .nils))
 (a2 (intOfV (cellAt (List.getD l3 ((intOfV (List.getD l0 (0+(i23.toNat)) .nils)).toNat) .nils) 0)) (datOfV (cellAt (List.getD l3 ((intOfV (List.getD l0 (0+(i23.toNat)) .nils)).toNat) .nils) 1)) (datOfV (cellAt (List.getD l3 ((intOfV (List.getD l0 (0+(i23.toNat)) .nils)).toNat) .nils) 2)) (((List.length l3):Nat):Int) (fun yi48 yi49 =>
 (a3 l9 l10 (intOfV (List.getD l0 (0+(i23.toNat)) .nils)) i14 i15 yi48 yi49 (fun yl50 yl51 yi52 yi53 yi54 =>
 (cbr (yi54 !=(0:Int))
 (x29600601_2 l0 l1 l2 yi54)
 (cbr (i23 ==(0:Int))
 (asr (decide ((List.length l2)=List.length l2)&&decide ((List.length l2)=List.length l2))
 (ya4 a0 a1 a2 a3 a4 x29600601_0 x29600601_1 x29600601_2 x29600601_3 n29600601 l0 l1 l2 l3 n4 n5 n6 yl50 yl51 n11 n12 n13 i14 i15 i23 yi52 yi53 n19 n20 n21 i22 (IntKind.i64.wrap (i23+(1:Int)))))
 (a4 yi52 yi53 i17 i18 (fun yb55 =>
 (cbr yb55
 (asr (decide ((List.length l2)=List.length l2)&&decide ((List.length l2)=List.length l2))
 (ya4 a0 a1 a2 a3 a4 x29600601_0 x29600601_1 x29600601_2 x29600601_3 n29600601 l0 l1 l2 l3 n4 n5 n6 yl50 yl51 n11 n12 n13 i14 i15 i23 yi52 yi53 n19 n20 n21 i22 (IntKind.i64.wrap (i23+(1:Int)))))
 (asr (decide ((List.length l2)=List.length l2)&&decide ((List.length l2)=List.length l2))
 (ya4 a0 a1 a2 a3 a4 x29600601_0 x29600601_1 x29600601_2 x29600601_3 n29600601 l0 l1 l2 l3 n4 n5 n6 yl50 yl51 n11 n12 n13 i14 i15 i16 i17 i18 n19 n20 n21 i22 (IntKind.i64.wrap (i23+(1:Int))))))))))))))))))))))
 (x29600601_3 l0 l1 l2 l3 n4 n5 n6 l9 l10 n11 n12 n13 i14 i15 i16 i17 i18 n19 n20 n21 i22 i23 false))
end
mutual
def ybu (a0:ycT) (a1:yal) (a2:yaE) (a3:ycU) (a4:yaI) (x29600602_0:List PV→List PV→Int→Prop) (x29600602_1:List PV→List PV→List PV→Int→Prop) (x29600602_2:List PV→List PV→List PV→List PV→Nat→Nat→Nat→List PV→List PV→Nat→Nat→Nat→Int→Int→Bool→Prop) (x29600602_3:List PV→List PV→List PV→Nat→Nat→Nat→List PV→List PV→Nat→Nat→Nat→Int→Int→Bool→Prop):Nat→List PV→List PV→List PV→Nat→Nat→Nat→List PV→List PV→Nat→Nat→Nat→Int→Int→Prop
 | 0,_,_,_,_,_,_,_,_,_,_,_,_,_=>False
 | n29600602+1,l0,l1,l2,n3,n4,n5,l6,l7,n8,n9,n10,i11,i12 =>
 (cbr (decide (((n8:Nat):Int)>(1:Int)))
 (∃ n29600601:Nat,ya3 a0 a1 a2 a3 a4
 (fun yl23 yl24 yi25=>(x29600602_0 yl23 yl24 yi25))
 (fun yl26 yl27 yl28 yn29 yn30 yn31 yl32 yl33 yn34 yn35 yn36 yi37 yi38 yi39 yi40 yi41 _ _ _ _ _ _=>(asr (decide ((0:Int)≤yi39))
 (asr (decide (yi39<((yn34:Nat):Int)))
 (asr (decide ((List.length yl26)=yn35))
 (asr (decide ((0+(yi39.toNat))<(List.length yl26)))
 (asr (conf (.one (.i .i64)) (List.getD yl26 (0+(yi39.toNat)) .nils))
 (asr (decide ((0:Int)≤(intOfV (List.getD yl26 (0+(yi39.toNat)) .nils))))
 (asr (decide ((intOfV (List.getD yl26 (0+(yi39.toNat)) .nils))<((yn29:Nat):Int)))
 (asr (decide ((List.length yl27)=yn30))
 (asr (decide ((0+((intOfV (List.getD yl26 (0+(yi39.toNat)) .nils)).toNat))<(List.length yl27)))
 (asr (conf (.one (.d)) (List.getD yl27 (0+((intOfV (List.getD yl26 (0+(yi39.toNat)) .nils)).toNat)) .nils))
 (asr (decide ((0:Int)≤yi39))
 (asr ((decide (yi39≤((yn34:Nat):Int)))||(decide (yi39≤((yn36:Nat):Int))))
 (asr (decide ((0:Int)≤(IntKind.i64.wrap (yi39+(1:Int)))))
 (asr (decide ((IntKind.i64.wrap (yi39+(1:Int)))≤((yn34:Nat):Int)))
 (asr ((decide (((yn34:Nat):Int)≤((yn34:Nat):Int)))||(decide (((yn34:Nat):Int)≤((yn36:Nat):Int))))
 (asr (decide ((List.length yl26)=yn35))
 (asr (decide (((0+((IntKind.i64.wrap (yi39+(1:Int))).toNat))+((((yn34:Nat):Int)-(IntKind.i64.wrap (yi39+(1:Int)))).toNat))≤yn35))
 (asr (headOk 1 (List.take ((((yn34:Nat):Int)-(IntKind.i64.wrap (yi39+(1:Int)))).toNat) (List.drop (0+((IntKind.i64.wrap (yi39+(1:Int))).toNat)) yl26)))
 (asr (decide ((List.length yl26)=yn35))
 (asr (decide ((0+((yi39-(0:Int)).toNat))≤yn35))
 (cbr (List.isEmpty (List.take ((((yn34:Nat):Int)-(IntKind.i64.wrap (yi39+(1:Int)))).toNat) (List.drop (0+((IntKind.i64.wrap (yi39+(1:Int))).toNat)) yl26)))
 (asr (decide (1=List.length ([(.int .i64 (intOfV (List.getD yl26 (0+(yi39.toNat)) .nils)))]:List PV))&&decide (1=List.length ([(.int .i64 (intOfV (List.getD yl26 (0+(yi39.toNat)) .nils)))]:List PV)))
 (yaD a0 a1 a2 a3 a4 x29600602_0 x29600602_1 x29600602_2 x29600602_3 n29600602 yl26 (List.set yl27 (0+((intOfV (List.getD yl26 (0+(yi39.toNat)) .nils)).toNat)) (.data ([(.agg [(.int .i64 yi37),(.int .i64 yi38),(.int .i64 yi40),(.int .i64 yi41)])]:List PV))) ([(.int .i64 (intOfV (List.getD yl26 (0+(yi39.toNat)) .nils)))]:List PV) yl28 yn29 yn30 yn31 yl32 yl33 ((yi39-(0:Int)).toNat) yn35 (yn36-0) yi40 yi41))
 (asr (decide ((((yi39-(0:Int)).toNat)+(List.length (List.take ((((yn34:Nat):Int)-(IntKind.i64.wrap (yi39+(1:Int)))).toNat) (List.drop (0+((IntKind.i64.wrap (yi39+(1:Int))).toNat)) yl26))))≤(yn36-0)))
 (asr (decide (1=List.length ([(.int .i64 (intOfV (List.getD yl26 (0+(yi39.toNat)) .nils)))]:List PV))&&decide (1=List.length ([(.int .i64 (intOfV (List.getD yl26 (0+(yi39.toNat)) .nils)))]:List PV)))
 (yaD a0 a1 a2 a3 a4 x29600602_0 x29600602_1 x29600602_2 x29600602_3 n29600602 ((List.take (0+((yi39-(0:Int)).toNat)) yl26)++((List.take ((((yn34:Nat):Int)-(IntKind.i64.wrap (yi39+(1:Int)))).toNat) (List.drop (0+((IntKind.i64.wrap (yi39+(1:Int))).toNat)) yl26))++(List.drop ((0+((yi39-(0:Int)).toNat))+(List.length (List.take ((((yn34:Nat):Int)-(IntKind.i64.wrap (yi39+(1:Int)))).toNat) (List.drop (0+((IntKind.i64.wrap (yi39+(1:Int))).toNat)) yl26)))) yl26))) (List.set yl27 (0+((intOfV (List.getD yl26 (0+(yi39.toNat)) .nils)).toNat)) (.data ([(.agg [(.int .i64 yi37),(.int .i64 yi38),(.int .i64 yi40),(.int .i64 yi41)])]:List PV))) ([(.int .i64 (intOfV (List.getD yl26 (0+(yi39.toNat)) .nils)))]:List PV) yl28 yn29 yn30 yn31 yl32 yl33 (((yi39-(0:Int)).toNat)+(List.length (List.take ((((yn34:Nat):Int)-(IntKind.i64.wrap (yi39+(1:Int)))).toNat) (List.drop (0+((IntKind.i64.wrap (yi39+(1:Int))).toNat)) yl26)))) yn35 (yn36-0) yi40 yi41)))))))))))))))))))))))))
 (fun yl108 yl109 yl110 yi111=>(x29600602_1 yl108 yl109 yl110 yi111))
 (fun yl112 yl113 yl114 yl115 yn116 yn117 yn118 yl119 yl120 yn121 yn122 yn123 yi124 yi125 yi126 yi127 yi128 _ _ _ _ _ _=>(asr (decide ((0:Int)≤yi126))
 (asr (decide (yi126<((yn121:Nat):Int)))
 (asr (decide ((List.length yl112)=yn122))
 (asr (decide ((0+(yi126.toNat))<(List.length yl112)))
 (asr (conf (.one (.i .i64)) (List.getD yl112 (0+(yi126.toNat)) .nils))
 (asr (decide ((0:Int)≤(intOfV (List.getD yl112 (0+(yi126.toNat)) .nils))))
 (asr (decide ((intOfV (List.getD yl112 (0+(yi126.toNat)) .nils))<((yn116:Nat):Int)))
 (asr (decide ((List.length yl113)=yn117))
 (asr (decide ((0+((intOfV (List.getD yl112 (0+(yi126.toNat)) .nils)).toNat))<(List.length yl113)))
 (asr (conf (.one (.d)) (List.getD yl113 (0+((intOfV (List.getD yl112 (0+(yi126.toNat)) .nils)).toNat)) .nils))
 (asr (decide ((List.length yl114)=(List.length yl114)))
 (asr (decide ((0+(List.length yl114))≤(List.length yl114)))
 (asr (!(decide (((0+(List.length yl114))+1)≤(List.length yl114))))
 (asr (decide ((List.length yl114)=(List.length yl114)))
 (asr (decide ((((List.length yl114)+1)+64)*(8+1)≤room))
 (asr (decide ((0:Int)≤yi126))
 (asr ((decide (yi126≤((yn121:Nat):Int)))||(decide (yi126≤((yn123:Nat):Int))))
 (asr (decide ((0:Int)≤(IntKind.i64.wrap (yi126+(1:Int)))))
 (asr (decide ((IntKind.i64.wrap (yi126+(1:Int)))≤((yn121:Nat):Int)))
 (asr ((decide (((yn121:Nat):Int)≤((yn121:Nat):Int)))||(decide (((yn121:Nat):Int)≤((yn123:Nat):Int))))
 (asr (decide ((List.length yl112)=yn122))
 (asr (decide (((0+((IntKind.i64.wrap (yi126+(1:Int))).toNat))+((((yn121:Nat):Int)-(IntKind.i64.wrap (yi126+(1:Int)))).toNat))≤yn122))
 (asr (headOk 1 (List.take ((((yn121:Nat):Int)-(IntKind.i64.wrap (yi126+(1:Int)))).toNat) (List.drop (0+((IntKind.i64.wrap (yi126+(1:Int))).toNat)) yl112)))
 (asr (decide ((List.length yl112)=yn122))
 (asr (decide ((0+((yi126-(0:Int)).toNat))≤yn122))
 (cbr (List.isEmpty (List.take ((((yn121:Nat):Int)-(IntKind.i64.wrap (yi126+(1:Int)))).toNat) (List.drop (0+((IntKind.i64.wrap (yi126+(1:Int))).toNat)) yl112)))
 (asr (decide ((List.length (yl114++([(.int .i64 (intOfV (List.getD yl112 (0+(yi126.toNat)) .nils)))]:List PV)))=List.length (yl114++([(.int .i64 (intOfV (List.getD yl112 (0+(yi126.toNat)) .nils)))]:List PV)))&&decide ((List.length (yl114++([(.int .i64 (intOfV (List.getD yl112 (0+(yi126.toNat)) .nils)))]:List PV)))=List.length (yl114++([(.int .i64 (intOfV (List.getD yl112 (0+(yi126.toNat)) .nils)))]:List PV))))
 (yaD a0 a1 a2 a3 a4 x29600602_0 x29600602_1 x29600602_2 x29600602_3 n29600602 yl112 (List.set yl113 (0+((intOfV (List.getD yl112 (0+(yi126.toNat)) .nils)).toNat)) (.data ([(.agg [(.int .i64 yi124),(.int .i64 yi125),(.int .i64 yi127),(.int .i64 yi128)])]:List PV))) (yl114++([(.int .i64 (intOfV (List.getD yl112 (0+(yi126.toNat)) .nils)))]:List PV)) yl115 yn116 yn117 yn118 yl119 yl120 ((yi126-(0:Int)).toNat) yn122 (yn123-0) yi127 yi128))
 (asr (decide ((((yi126-(0:Int)).toNat)+(List.length (List.take ((((yn121:Nat):Int)-(IntKind.i64.wrap (yi126+(1:Int)))).toNat) (List.drop (0+((IntKind.i64.wrap (yi126+(1:Int))).toNat)) yl112))))≤(yn123-0)))
 (asr (decide ((List.length (yl114++([(.int .i64 (intOfV (List.getD yl112 (0+(yi126.toNat)) .nils)))]:List PV)))=List.length (yl114++([(.int .i64 (intOfV (List.getD yl112 (0+(yi126.toNat)) .nils)))]:List PV)))&&decide ((List.length (yl114++([(.int .i64 (intOfV (List.getD yl112 (0+(yi126.toNat)) .nils)))]:List PV)))=List.length (yl114++([(.int .i64 (intOfV (List.getD yl112 (0+(yi126.toNat)) .nils)))]:List PV))))
 (yaD a0 a1 a2 a3 a4 x29600602_0 x29600602_1 x29600602_2 x29600602_3 n29600602 ((List.take (0+((yi126-(0:Int)).toNat)) yl112)++((List.take ((((yn121:Nat):Int)-(IntKind.i64.wrap (yi126+(1:Int)))).toNat) (List.drop (0+((IntKind.i64.wrap (yi126+(1:Int))).toNat)) yl112))++(List.drop ((0+((yi126-(0:Int)).toNat))+(List.length (List.take ((((yn121:Nat):Int)-(IntKind.i64.wrap (yi126+(1:Int)))).toNat) (List.drop (0+((IntKind.i64.wrap (yi126+(1:Int))).toNat)) yl112)))) yl112))) (List.set yl113 (0+((intOfV (List.getD yl112 (0+(yi126.toNat)) .nils)).toNat)) (.data ([(.agg [(.int .i64 yi124),(.int .i64 yi125),(.int .i64 yi127),(.int .i64 yi128)])]:List PV))) (yl114++([(.int .i64 (intOfV (List.getD yl112 (0+(yi126.toNat)) .nils)))]:List PV)) yl115 yn116 yn117 yn118 yl119 yl120 (((yi126-(0:Int)).toNat)+(List.length (List.take ((((yn121:Nat):Int)-(IntKind.i64.wrap (yi126+(1:Int)))).toNat) (List.drop (0+((IntKind.i64.wrap (yi126+(1:Int))).toNat)) yl112)))) yn122 (yn123-0) yi127 yi128))))))))))))))))))))))))))))))
 n29600601 l0 l1 l2 n3 n4 n5 l6 l7 n8 n9 n10 i11 i12 (0:Int) (0:Int) (0:Int) n8 n9 n10 ((n8:Nat):Int) (0:Int))
 (x29600602_3 l0 l1 l2 n3 n4 n5 l6 l7 n8 n9 n10 i11 i12 false))
def yaD (a0:ycT) (a1:yal) (a2:yaE) (a3:ycU) (a4:yaI) (x29600602_0:List PV→List PV→Int→Prop) (x29600602_1:List PV→List PV→List PV→Int→Prop) (x29600602_2:List PV→List PV→List PV→List PV→Nat→Nat→Nat→List PV→List PV→Nat→Nat→Nat→Int→Int→Bool→Prop) (x29600602_3:List PV→List PV→List PV→Nat→Nat→Nat→List PV→List PV→Nat→Nat→Nat→Int→Int→Bool→Prop):Nat→List PV→List PV→List PV→List PV→Nat→Nat→Nat→List PV→List PV→Nat→Nat→Nat→Int→Int→Prop
 | 0,_,_,_,_,_,_,_,_,_,_,_,_,_,_=>False
 | n29600602+1,l0,l1,l2,l3,n4,n5,n6,l9,l10,n11,n12,n13,i14,i15 =>
 (cbr (decide (((n11:Nat):Int)>(1:Int)))
 (asr (decide ((List.length l2)=List.length l2)&&decide ((List.length l2)=List.length l2))
 (∃ n29600601:Nat,ya4 a0 a1 a2 a3 a4
 (fun yl56 yl57 yi58=>(x29600602_0 yl56 yl57 yi58))
 (fun yl59 yl60 yl61 yn62 yn63 yn64 yl65 yl66 yn67 yn68 yn69 yi70 yi71 yi72 yi73 yi74 _ _ _ _ _ _=>(asr (decide ((0:Int)≤yi72))
 (asr (decide (yi72<((yn67:Nat):Int)))
 (asr (decide ((List.length yl59)=yn68))
 (asr (decide ((0+(yi72.toNat))<(List.length yl59)))
 (asr (conf (.one (.i .i64)) (List.getD yl59 (0+(yi72.toNat)) .nils))
 (asr (decide ((0:Int)≤(intOfV (List.getD yl59 (0+(yi72.toNat)) .nils))))
 (asr (decide ((intOfV (List.getD yl59 (0+(yi72.toNat)) .nils))<((yn62:Nat):Int)))
 (asr (decide ((List.length yl60)=yn63))
 (asr (decide ((0+((intOfV (List.getD yl59 (0+(yi72.toNat)) .nils)).toNat))<(List.length yl60)))
 (asr (conf (.one (.d)) (List.getD yl60 (0+((intOfV (List.getD yl59 (0+(yi72.toNat)) .nils)).toNat)) .nils))
 (asr (decide ((0:Int)≤yi72))
 (asr ((decide (yi72≤((yn67:Nat):Int)))||(decide (yi72≤((yn69:Nat):Int))))
 (asr (decide ((0:Int)≤(IntKind.i64.wrap (yi72+(1:Int)))))
 (asr (decide ((IntKind.i64.wrap (yi72+(1:Int)))≤((yn67:Nat):Int)))
 (asr ((decide (((yn67:Nat):Int)≤((yn67:Nat):Int)))||(decide (((yn67:Nat):Int)≤((yn69:Nat):Int))))
 (asr (decide ((List.length yl59)=yn68))
 (asr (decide (((0+((IntKind.i64.wrap (yi72+(1:Int))).toNat))+((((yn67:Nat):Int)-(IntKind.i64.wrap (yi72+(1:Int)))).toNat))≤yn68))
 (asr (headOk 1 (List.take ((((yn67:Nat):Int)-(IntKind.i64.wrap (yi72+(1:Int)))).toNat) (List.drop (0+((IntKind.i64.wrap (yi72+(1:Int))).toNat)) yl59)))
 (asr (decide ((List.length yl59)=yn68))
 (asr (decide ((0+((yi72-(0:Int)).toNat))≤yn68))
 (cbr (List.isEmpty (List.take ((((yn67:Nat):Int)-(IntKind.i64.wrap (yi72+(1:Int)))).toNat) (List.drop (0+((IntKind.i64.wrap (yi72+(1:Int))).toNat)) yl59)))
 (asr (decide (1=List.length ([(.int .i64 (intOfV (List.getD yl59 (0+(yi72.toNat)) .nils)))]:List PV))&&decide (1=List.length ([(.int .i64 (intOfV (List.getD yl59 (0+(yi72.toNat)) .nils)))]:List PV)))
 (yaD a0 a1 a2 a3 a4 x29600602_0 x29600602_1 x29600602_2 x29600602_3 n29600602 yl59 (List.set yl60 (0+((intOfV (List.getD yl59 (0+(yi72.toNat)) .nils)).toNat)) (.data ([(.agg [(.int .i64 yi70),(.int .i64 yi71),(.int .i64 yi73),(.int .i64 yi74)])]:List PV))) ([(.int .i64 (intOfV (List.getD yl59 (0+(yi72.toNat)) .nils)))]:List PV) yl61 yn62 yn63 yn64 yl65 yl66 ((yi72-(0:Int)).toNat) yn68 (yn69-0) yi73 yi74))
 (asr (decide ((((yi72-(0:Int)).toNat)+(List.length (List.take ((((yn67:Nat):Int)-(IntKind.i64.wrap (yi72+(1:Int)))).toNat) (List.drop (0+((IntKind.i64.wrap (yi72+(1:Int))).toNat)) yl59))))≤(yn69-0)))
 (asr (decide (1=List.length ([(.int .i64 (intOfV (List.getD yl59 (0+(yi72.toNat)) .nils)))]:List PV))&&decide (1=List.length ([(.int .i64 (intOfV (List.getD yl59 (0+(yi72.toNat)) .nils)))]:List PV)))
 (yaD a0 a1 a2 a3 a4 x29600602_0 x29600602_1 x29600602_2 x29600602_3 n29600602 ((List.take (0+((yi72-(0:Int)).toNat)) yl59)++((List.take ((((yn67:Nat):Int)-(IntKind.i64.wrap (yi72+(1:Int)))).toNat) (List.drop (0+((IntKind.i64.wrap (yi72+(1:Int))).toNat)) yl59))++(List.drop ((0+((yi72-(0:Int)).toNat))+(List.length (List.take ((((yn67:Nat):Int)-(IntKind.i64.wrap (yi72+(1:Int)))).toNat) (List.drop (0+((IntKind.i64.wrap (yi72+(1:Int))).toNat)) yl59)))) yl59))) (List.set yl60 (0+((intOfV (List.getD yl59 (0+(yi72.toNat)) .nils)).toNat)) (.data ([(.agg [(.int .i64 yi70),(.int .i64 yi71),(.int .i64 yi73),(.int .i64 yi74)])]:List PV))) ([(.int .i64 (intOfV (List.getD yl59 (0+(yi72.toNat)) .nils)))]:List PV) yl61 yn62 yn63 yn64 yl65 yl66 (((yi72-(0:Int)).toNat)+(List.length (List.take ((((yn67:Nat):Int)-(IntKind.i64.wrap (yi72+(1:Int)))).toNat) (List.drop (0+((IntKind.i64.wrap (yi72+(1:Int))).toNat)) yl59)))) yn68 (yn69-0) yi73 yi74)))))))))))))))))))))))))
 (fun yl81 yl82 yl83 yi84=>(x29600602_1 yl81 yl82 yl83 yi84))
 (fun yl85 yl86 yl87 yl88 yn89 yn90 yn91 yl92 yl93 yn94 yn95 yn96 yi97 yi98 yi99 yi100 yi101 _ _ _ _ _ _=>(asr (decide ((0:Int)≤yi99))
 (asr (decide (yi99<((yn94:Nat):Int)))
 (asr (decide ((List.length yl85)=yn95))
 (asr (decide ((0+(yi99.toNat))<(List.length yl85)))
 (asr (conf (.one (.i .i64)) (List.getD yl85 (0+(yi99.toNat)) .nils))
 (asr (decide ((0:Int)≤(intOfV (List.getD yl85 (0+(yi99.toNat)) .nils))))
 (asr (decide ((intOfV (List.getD yl85 (0+(yi99.toNat)) .nils))<((yn89:Nat):Int)))
 (asr (decide ((List.length yl86)=yn90))
 (asr (decide ((0+((intOfV (List.getD yl85 (0+(yi99.toNat)) .nils)).toNat))<(List.length yl86)))
 (asr (conf (.one (.d)) (List.getD yl86 (0+((intOfV (List.getD yl85 (0+(yi99.toNat)) .nils)).toNat)) .nils))
 (asr (decide ((List.length yl87)=(List.length yl87)))
 (asr (decide ((0+(List.length yl87))≤(List.length yl87)))
 (asr (!(decide (((0+(List.length yl87))+1)≤(List.length yl87))))
 (asr (decide ((List.length yl87)=(List.length yl87)))
 (asr (decide ((((List.length yl87)+1)+64)*(8+1)≤room))
 (asr (decide ((0:Int)≤yi99))
 (asr ((decide (yi99≤((yn94:Nat):Int)))||(decide (yi99≤((yn96:Nat):Int))))
 (asr (decide ((0:Int)≤(IntKind.i64.wrap (yi99+(1:Int)))))
 (asr (decide ((IntKind.i64.wrap (yi99+(1:Int)))≤((yn94:Nat):Int)))
 (asr ((decide (((yn94:Nat):Int)≤((yn94:Nat):Int)))||(decide (((yn94:Nat):Int)≤((yn96:Nat):Int))))
 (asr (decide ((List.length yl85)=yn95))
 (asr (decide (((0+((IntKind.i64.wrap (yi99+(1:Int))).toNat))+((((yn94:Nat):Int)-(IntKind.i64.wrap (yi99+(1:Int)))).toNat))≤yn95))
 (asr (headOk 1 (List.take ((((yn94:Nat):Int)-(IntKind.i64.wrap (yi99+(1:Int)))).toNat) (List.drop (0+((IntKind.i64.wrap (yi99+(1:Int))).toNat)) yl85)))
 (asr (decide ((List.length yl85)=yn95))
 (asr (decide ((0+((yi99-(0:Int)).toNat))≤yn95))
 (cbr (List.isEmpty (List.take ((((yn94:Nat):Int)-(IntKind.i64.wrap (yi99+(1:Int)))).toNat) (List.drop (0+((IntKind.i64.wrap (yi99+(1:Int))).toNat)) yl85)))
 (asr (decide ((List.length (yl87++([(.int .i64 (intOfV (List.getD yl85 (0+(yi99.toNat)) .nils)))]:List PV)))=List.length (yl87++([(.int .i64 (intOfV (List.getD yl85 (0+(yi99.toNat)) .nils)))]:List PV)))&&decide ((List.length (yl87++([(.int .i64 (intOfV (List.getD yl85 (0+(yi99.toNat)) .nils)))]:List PV)))=List.length (yl87++([(.int .i64 (intOfV (List.getD yl85 (0+(yi99.toNat)) .nils)))]:List PV))))
 (yaD a0 a1 a2 a3 a4 x29600602_0 x29600602_1 x29600602_2 x29600602_3 n29600602 yl85 (List.set yl86 (0+((intOfV (List.getD yl85 (0+(yi99.toNat)) .nils)).toNat)) (.data ([(.agg [(.int .i64 yi97),(.int .i64 yi98),(.int .i64 yi100),(.int .i64 yi101)])]:List PV))) (yl87++([(.int .i64 (intOfV (List.getD yl85 (0+(yi99.toNat)) .nils)))]:List PV)) yl88 yn89 yn90 yn91 yl92 yl93 ((yi99-(0:Int)).toNat) yn95 (yn96-0) yi100 yi101))
 (asr (decide ((((yi99-(0:Int)).toNat)+(List.length (List.take ((((yn94:Nat):Int)-(IntKind.i64.wrap (yi99+(1:Int)))).toNat) (List.drop (0+((IntKind.i64.wrap (yi99+(1:Int))).toNat)) yl85))))≤(yn96-0)))
 (asr (decide ((List.length (yl87++([(.int .i64 (intOfV (List.getD yl85 (0+(yi99.toNat)) .nils)))]:List PV)))=List.length (yl87++([(.int .i64 (intOfV (List.getD yl85 (0+(yi99.toNat)) .nils)))]:List PV)))&&decide ((List.length (yl87++([(.int .i64 (intOfV (List.getD yl85 (0+(yi99.toNat)) .nils)))]:List PV)))=List.length (yl87++([(.int .i64 (intOfV (List.getD yl85 (0+(yi99.toNat)) .nils)))]:List PV))))
 (yaD a0 a1 a2 a3 a4 x29600602_0 x29600602_1 x29600602_2 x29600602_3 n29600602 ((List.take (0+((yi99-(0:Int)).toNat)) yl85)++((List.take ((((yn94:Nat):Int)-(IntKind.i64.wrap (yi99+(1:Int)))).toNat) (List.drop (0+((IntKind.i64.wrap (yi99+(1:Int))).toNat)) yl85))++(List.drop ((0+((yi99-(0:Int)).toNat))+(List.length (List.take ((((yn94:Nat):Int)-(IntKind.i64.wrap (yi99+(1:Int)))).toNat) (List.drop (0+((IntKind.i64.wrap (yi99+(1:Int))).toNat)) yl85)))) yl85))) (List.set yl86 (0+((intOfV (List.getD yl85 (0+(yi99.toNat)) .nils)).toNat)) (.data ([(.agg [(.int .i64 yi97),(.int .i64 yi98),(.int .i64 yi100),(.int .i64 yi101)])]:List PV))) (yl87++([(.int .i64 (intOfV (List.getD yl85 (0+(yi99.toNat)) .nils)))]:List PV)) yl88 yn89 yn90 yn91 yl92 yl93 (((yi99-(0:Int)).toNat)+(List.length (List.take ((((yn94:Nat):Int)-(IntKind.i64.wrap (yi99+(1:Int)))).toNat) (List.drop (0+((IntKind.i64.wrap (yi99+(1:Int))).toNat)) yl85)))) yn95 (yn96-0) yi100 yi101))))))))))))))))))))))))))))))
 n29600601 l0 l1 l2 l3 n4 n5 n6 l9 l10 n11 n12 n13 i14 i15 (0:Int) (0:Int) (0:Int) n11 n12 n13 ((n11:Nat):Int) (0:Int)))
 (x29600602_2 l0 l1 l2 l3 n4 n5 n6 l9 l10 n11 n12 n13 i14 i15 false))
end
def ykE (a0:ycT) (a1:yal) (a2:yaE) (a3:ycU) (a4:yaI) (p0:List PV) (K:List PV→List PV→List PV→Int→Prop):Prop :=
 (a0 p0 (fun yl0 yl1 yi2 =>
 (cbr (yi2 !=(0:Int))
 (K ([]:List PV) ([]:List PV) ([]:List PV) yi2)
 (asr (decide ((0:Int)≤(((List.length p0):Nat):Int)))
 (asr (decide (((List.length p0)+64)*(8+1)≤room))
 (∃ n29600600:Nat,ybt a0 a1 a2 a3 a4
 (fun yl3 yl4 yl5 yl6 yn7 yn8 yn9 _ _ _=>(asr (decide ((0:Int)≤(((List.length yl4):Nat):Int)))
 (asr (decide ((((List.length yl4):Nat):Int)≤(((List.length yl4):Nat):Int)))
 (asr (decide (((List.length yl4)+64)*(24+1)≤room))
 (a1 (0:Int) (fun yi13 yi14 =>
 (∃ n29600602:Nat,ybu a0 a1 a2 a3 a4
 (fun _ _ yi137=>(K ([]:List PV) ([]:List PV) ([]:List PV) yi137))
 (fun _ _ _ yi141=>(K ([]:List PV) ([]:List PV) ([]:List PV) yi141))
 (fun yl142 yl143 yl144 yl145 yn146 yn147 _ _ yl150 yn151 yn152 _ yi154 yi155 _=>(asr (decide ((0:Int)<((yn151:Nat):Int)))
 (asr (decide ((List.length yl142)=yn152))
 (asr (decide (0<(List.length yl142)))
 (asr (conf (.one (.i .i64)) (List.getD yl142 0 .nils))
 (asr (decide ((0:Int)<(((List.length yl145):Nat):Int)))
 (asr (conf (.agg [.i .i64,.d,.d]) (List.getD yl145 0 .nils))
 (a1 (intOfV (cellAt (List.getD yl145 0 .nils) 0)) (fun yi157 yi158 =>
 (asr (decide ((0:Int)≤(intOfV (List.getD yl142 0 .nils))))
 (asr (decide ((intOfV (List.getD yl142 0 .nils))<((yn146:Nat):Int)))
 (asr (decide ((List.length yl143)=yn147))
 (asr (decide ((0+((intOfV (List.getD yl142 0 .nils)).toNat))<(List.length yl143)))
 (asr (conf (.one (.d)) (List.getD yl143 (0+((intOfV (List.getD yl142 0 .nils)).toNat)) .nils))
 (asr (decide ((0:Int)<((yn151:Nat):Int)))
 (asr (decide ((List.length yl142)=yn152))
 (asr (decide (0<(List.length yl142)))
 (asr (conf (.one (.i .i64)) (List.getD yl142 0 .nils))
 (asr (decide ((List.length yl144)=(List.length yl144)))
 (asr (decide ((0+(List.length yl144))≤(List.length yl144)))
 (asr (!(decide (((0+(List.length yl144))+1)≤(List.length yl144))))
 (asr (decide ((List.length yl144)=(List.length yl144)))
 (asr (decide ((((List.length yl144)+1)+64)*(8+1)≤room))
 (asr (decide ((List.length (List.set yl143 (0+((intOfV (List.getD yl142 0 .nils)).toNat)) (.data ([(.agg [(.int .i64 yi154),(.int .i64 yi155),(.int .i64 yi157),(.int .i64 yi158)])]:List PV))))=yn147))
 (asr (decide ((0+yn146)≤yn147))
 (asr (decide ((List.length (yl144++([(.int .i64 (intOfV (List.getD yl142 0 .nils)))]:List PV)))=(List.length (yl144++([(.int .i64 (intOfV (List.getD yl142 0 .nils)))]:List PV)))))
 (asr (decide ((0+(List.length (yl144++([(.int .i64 (intOfV (List.getD yl142 0 .nils)))]:List PV))))≤(List.length (yl144++([(.int .i64 (intOfV (List.getD yl142 0 .nils)))]:List PV)))))
 (K (List.take yn146 (List.set yl143 (0+((intOfV (List.getD yl142 0 .nils)).toNat)) (.data ([(.agg [(.int .i64 yi154),(.int .i64 yi155),(.int .i64 yi157),(.int .i64 yi158)])]:List PV)))) (List.take (List.length (yl144++([(.int .i64 (intOfV (List.getD yl142 0 .nils)))]:List PV))) (yl144++([(.int .i64 (intOfV (List.getD yl142 0 .nils)))]:List PV))) yl150 (0:Int)))))))))))))))))))))))))))))
 (fun yl159 yl160 yl161 yn162 yn163 _ _ yl166 yn167 yn168 _ yi170 yi171 _=>(asr (decide ((0:Int)<((yn167:Nat):Int)))
 (asr (decide ((List.length yl159)=yn168))
 (asr (decide (0<(List.length yl159)))
 (asr (conf (.one (.i .i64)) (List.getD yl159 0 .nils))
 (asr (decide ((0:Int)<(((List.length yl161):Nat):Int)))
 (asr (conf (.agg [.i .i64,.d,.d]) (List.getD yl161 0 .nils))
 (a1 (intOfV (cellAt (List.getD yl161 0 .nils) 0)) (fun yi173 yi174 =>
 (asr (decide ((0:Int)≤(intOfV (List.getD yl159 0 .nils))))
 (asr (decide ((intOfV (List.getD yl159 0 .nils))<((yn162:Nat):Int)))
 (asr (decide ((List.length yl160)=yn163))
 (asr (decide ((0+((intOfV (List.getD yl159 0 .nils)).toNat))<(List.length yl160)))
 (asr (conf (.one (.d)) (List.getD yl160 (0+((intOfV (List.getD yl159 0 .nils)).toNat)) .nils))
 (asr (decide ((0:Int)<((yn167:Nat):Int)))
 (asr (decide ((List.length yl159)=yn168))
 (asr (decide (0<(List.length yl159)))
 (asr (conf (.one (.i .i64)) (List.getD yl159 0 .nils))
 (asr (decide ((List.length (List.set yl160 (0+((intOfV (List.getD yl159 0 .nils)).toNat)) (.data ([(.agg [(.int .i64 yi170),(.int .i64 yi171),(.int .i64 yi173),(.int .i64 yi174)])]:List PV))))=yn163))
 (asr (decide ((0+yn162)≤yn163))
 (K (List.take yn162 (List.set yl160 (0+((intOfV (List.getD yl159 0 .nils)).toNat)) (.data ([(.agg [(.int .i64 yi170),(.int .i64 yi171),(.int .i64 yi173),(.int .i64 yi174)])]:List PV)))) ([(.int .i64 (intOfV (List.getD yl159 0 .nils)))]:List PV) yl166 (0:Int))))))))))))))))))))))
 n29600602 yl3 (List.replicate (List.length yl4) ((.data []):PV)) yl4 (List.length yl4) (List.length yl4) (List.length yl4) yl5 yl6 yn7 yn8 yn9 yi13 yi14)))))))
 n29600600 (List.replicate (List.length p0) ((.int .i64 (0)):PV)) p0 yl0 yl1 0 (List.length p0) (List.length p0) (((List.length p0):Nat):Int) (0:Int)))))))
def ydO (p0:List PV) (K:List PV→List PV→List PV→Int→Prop):Prop:=ykE ya2 yae yaq yaO yam p0 K
def ykF (w:yil) (as:List PV) (K:PV→Prop):Prop :=
 match as with
 | [(.data p0)]=>w p0 (fun r0 r1 r2 r3=>K (.tup [(.agg [(.data r0)]),(.data r1),(.data r2),(.int .i64 r3)]))
 | _=>False
def yoJ (as:List PV) (K:PV→Prop):Prop:=ykF ydO as K
def ydu (F:Frm) (H:Hp) (A0:List PV→List PV→List PV→List PV→Nat→Nat→Nat→Int→Int→Prop):Prop :=
 match F,H with
 | [(0,.v (.data l1)),(2,.box (.agg [.nils])),(3,.v .nils),(6,.box (.agg [(.data l2),(.data l3)])),(7,.v (.own 0 0 n4 n5 (some n6))),(31,.v (.int .i64 i7)),(32,.v (.int .i64 i8))],[⟨false,true,1,l0⟩]=>(A0 l0 l1 l2 l3 n4 n5 n6 i7 i8)
 | _,_=>False
def ydv (F:Frm) (H:Hp) (A0:List PV→List PV→List PV→Nat→Nat→Nat→List PV→List PV→Nat→Nat→Nat→Int→Int→Int→Int→Int→Nat→Nat→Nat→Int→Int→Prop) (A1:List PV→List PV→List PV→List PV→Nat→Nat→Nat→List PV→List PV→Nat→Nat→Nat→Int→Int→Int→Int→Int→Nat→Nat→Nat→Int→Int→Prop):Prop :=
 match F,H with
 | [(0,.v (.data l2)),(2,.box (.agg [(.own 1 0 n3 n4 (some n5))])),(3,.v .nils),(6,.box (.agg [(.data l6),(.data l7)])),(7,.v (.own 0 0 n8 n9 (some n10))),(9,.box (.agg [(.int .i64 i11),(.int .i64 i12)])),(10,.v (.int .i64 i13)),(11,.box (.agg [(.int .i64 i14),(.int .i64 i15)])),(49,.v (.own 0 0 n16 n17 (some n18))),(50,.v (.int .i64 i19)),(51,.v (.int .i64 i20))],[⟨false,true,1,l0⟩,⟨false,true,1,l1⟩]=>(A0 l0 l1 l2 n3 n4 n5 l6 l7 n8 n9 n10 i11 i12 i13 i14 i15 n16 n17 n18 i19 i20)
 | [(0,.v (.data l3)),(2,.box (.agg [(.own 1 0 n4 n5 (some n6))])),(3,.v (.own 2 0 t7 t8 none)),(6,.box (.agg [(.data l9),(.data l10)])),(7,.v (.own 0 0 n11 n12 (some n13))),(9,.box (.agg [(.int .i64 i14),(.int .i64 i15)])),(10,.v (.int .i64 i16)),(11,.box (.agg [(.int .i64 i17),(.int .i64 i18)])),(49,.v (.own 0 0 n19 n20 (some n21))),(50,.v (.int .i64 i22)),(51,.v (.int .i64 i23))],[⟨false,true,1,l0⟩,⟨false,true,1,l1⟩,⟨false,true,1,l2⟩]=>asr (decide (t7=List.length l2)&&decide (t8=List.length l2)) (A1 l0 l1 l2 l3 n4 n5 n6 l9 l10 n11 n12 n13 i14 i15 i16 i17 i18 n19 n20 n21 i22 i23)
 | _,_=>False
def ydw (F:Frm) (H:Hp) (A0:List PV→List PV→List PV→Nat→Nat→Nat→List PV→List PV→Nat→Nat→Nat→Int→Int→Prop) (A1:List PV→List PV→List PV→List PV→Nat→Nat→Nat→List PV→List PV→Nat→Nat→Nat→Int→Int→Prop):Prop :=
 match F,H with
 | [(0,.v (.data l2)),(2,.box (.agg [(.own 1 0 n3 n4 (some n5))])),(3,.v .nils),(6,.box (.agg [(.data l6),(.data l7)])),(7,.v (.own 0 0 n8 n9 (some n10))),(9,.box (.agg [(.int .i64 i11),(.int .i64 i12)]))],[⟨false,true,1,l0⟩,⟨false,true,1,l1⟩]=>(A0 l0 l1 l2 n3 n4 n5 l6 l7 n8 n9 n10 i11 i12)
 | [(0,.v (.data l3)),(2,.box (.agg [(.own 1 0 n4 n5 (some n6))])),(3,.v (.own 2 0 t7 t8 none)),(6,.box (.agg [(.data l9),(.data l10)])),(7,.v (.own 0 0 n11 n12 (some n13))),(9,.box (.agg [(.int .i64 i14),(.int .i64 i15)]))],[⟨false,true,1,l0⟩,⟨false,true,1,l1⟩,⟨false,true,1,l2⟩]=>asr (decide (t7=List.length l2)&&decide (t8=List.length l2)) (A1 l0 l1 l2 l3 n4 n5 n6 l9 l10 n11 n12 n13 i14 i15)
 | _,_=>False
def yg5 (Q:Ex→Frm→Hp→Prop):List PV→List PV→List PV→List PV→Nat→Nat→Nat→Int→Int→Bool→Prop:=(fun l0 l1 l2 l3 n4 n5 n6 i7 i8 b9=>Q (.exit 0) [(0,.v (.data l1)),(2,.box (.agg [.nils])),(3,.v .nils),(6,.box (.agg [(.data l2),(.data l3)])),(7,.v (.own 0 0 n4 n5 (some n6))),(31,.v (.int .i64 i7)),(32,.v (.int .i64 i8)),(33,.v (.bool b9))] [⟨false,true,1,l0⟩])
def ycI (Q:Ex→Frm→Hp→Prop):List PV→List PV→Int→Prop:=(fun l0 l1 i2=>Q .ret [(2,.box (.agg [.nils])),(3,.v .nils),(4,.v .nils),(5,.v (.int .i64 i2))] [⟨false,true,1,l0⟩,⟨false,true,1,l1⟩])
def ycJ (Q:Ex→Frm→Hp→Prop):List PV→List PV→List PV→Nat→Nat→Nat→List PV→List PV→Nat→Nat→Nat→Int→Int→Int→Int→Int→Nat→Nat→Nat→Int→Int→Bool→Prop:=(fun l0 l1 l2 n3 n4 n5 l6 l7 n8 n9 n10 i11 i12 i13 i14 i15 n16 n17 n18 i19 i20 b21=>Q (.exit 4) [(0,.v (.data l2)),(2,.box (.agg [(.own 1 0 n3 n4 (some n5))])),(3,.v .nils),(6,.box (.agg [(.data l6),(.data l7)])),(7,.v (.own 0 0 n8 n9 (some n10))),(9,.box (.agg [(.int .i64 i11),(.int .i64 i12)])),(10,.v (.int .i64 i13)),(11,.box (.agg [(.int .i64 i14),(.int .i64 i15)])),(49,.v (.own 0 0 n16 n17 (some n18))),(50,.v (.int .i64 i19)),(51,.v (.int .i64 i20)),(52,.v (.bool b21))] [⟨false,true,1,l0⟩,⟨false,true,1,l1⟩])
def ycK (Q:Ex→Frm→Hp→Prop):List PV→List PV→List PV→Int→Prop:=(fun l0 l1 l2 i3=>Q .ret [(2,.box (.agg [.nils])),(3,.v .nils),(4,.v .nils),(5,.v (.int .i64 i3))] [⟨false,true,1,l0⟩,⟨false,true,1,l1⟩,⟨false,true,1,l2⟩])
def ycL (Q:Ex→Frm→Hp→Prop):List PV→List PV→List PV→List PV→Nat→Nat→Nat→List PV→List PV→Nat→Nat→Nat→Int→Int→Int→Int→Int→Nat→Nat→Nat→Int→Int→Bool→Prop:=(fun l0 l1 l2 l3 n4 n5 n6 l9 l10 n11 n12 n13 i14 i15 i16 i17 i18 n19 n20 n21 i22 i23 b24=>Q (.exit 4) [(0,.v (.data l3)),(2,.box (.agg [(.own 1 0 n4 n5 (some n6))])),(3,.v (.own 2 0 (List.length l2) (List.length l2) none)),(6,.box (.agg [(.data l9),(.data l10)])),(7,.v (.own 0 0 n11 n12 (some n13))),(9,.box (.agg [(.int .i64 i14),(.int .i64 i15)])),(10,.v (.int .i64 i16)),(11,.box (.agg [(.int .i64 i17),(.int .i64 i18)])),(49,.v (.own 0 0 n19 n20 (some n21))),(50,.v (.int .i64 i22)),(51,.v (.int .i64 i23)),(52,.v (.bool b24))] [⟨false,true,1,l0⟩,⟨false,true,1,l1⟩,⟨false,true,1,l2⟩])
def ycM (Q:Ex→Frm→Hp→Prop):List PV→List PV→Int→Prop:=(fun l0 l1 i2=>Q .ret [(2,.box (.agg [.nils])),(3,.v .nils),(4,.v .nils),(5,.v (.int .i64 i2))] [⟨false,true,1,l0⟩,⟨false,true,1,l1⟩])
def ycN (Q:Ex→Frm→Hp→Prop):List PV→List PV→List PV→Int→Prop:=(fun l0 l1 l2 i3=>Q .ret [(2,.box (.agg [.nils])),(3,.v .nils),(4,.v .nils),(5,.v (.int .i64 i3))] [⟨false,true,1,l0⟩,⟨false,true,1,l1⟩,⟨false,true,1,l2⟩])
def ycO (Q:Ex→Frm→Hp→Prop):List PV→List PV→List PV→List PV→Nat→Nat→Nat→List PV→List PV→Nat→Nat→Nat→Int→Int→Bool→Prop:=(fun l0 l1 l2 l3 n4 n5 n6 l9 l10 n11 n12 n13 i14 i15 b16=>Q (.exit 2) [(0,.v (.data l3)),(2,.box (.agg [(.own 1 0 n4 n5 (some n6))])),(3,.v (.own 2 0 (List.length l2) (List.length l2) none)),(6,.box (.agg [(.data l9),(.data l10)])),(7,.v (.own 0 0 n11 n12 (some n13))),(9,.box (.agg [(.int .i64 i14),(.int .i64 i15)])),(47,.v (.bool b16))] [⟨false,true,1,l0⟩,⟨false,true,1,l1⟩,⟨false,true,1,l2⟩])
def ycP (Q:Ex→Frm→Hp→Prop):List PV→List PV→List PV→Nat→Nat→Nat→List PV→List PV→Nat→Nat→Nat→Int→Int→Bool→Prop:=(fun l0 l1 l2 n3 n4 n5 l6 l7 n8 n9 n10 i11 i12 b13=>Q (.exit 2) [(0,.v (.data l2)),(2,.box (.agg [(.own 1 0 n3 n4 (some n5))])),(3,.v .nils),(6,.box (.agg [(.data l6),(.data l7)])),(7,.v (.own 0 0 n8 n9 (some n10))),(9,.box (.agg [(.int .i64 i11),(.int .i64 i12)])),(47,.v (.bool b13))] [⟨false,true,1,l0⟩,⟨false,true,1,l1⟩])
def ygj (a0:ycT) (a1:yal) (a2:yaE) (a3:ycU) (a4:yaI) (Q:Ex→Frm→Hp→Prop) (n:Nat) (F:Frm) (H:Hp):Prop:=ydu F H (fun l0 l1 l2 l3 n4 n5 n6 i7 i8=>ybt a0 a1 a2 a3 a4 (yg5 Q) n l0 l1 l2 l3 n4 n5 n6 i7 i8)
def yeL (a0:ycT) (a1:yal) (a2:yaE) (a3:ycU) (a4:yaI) (Q:Ex→Frm→Hp→Prop) (n:Nat) (F:Frm) (H:Hp):Prop:=ydv F H (fun l0 l1 l2 n3 n4 n5 l6 l7 n8 n9 n10 i11 i12 i13 i14 i15 n16 n17 n18 i19 i20=>ya3 a0 a1 a2 a3 a4 (ycI Q) (ycJ Q) (ycK Q) (ycL Q) n l0 l1 l2 n3 n4 n5 l6 l7 n8 n9 n10 i11 i12 i13 i14 i15 n16 n17 n18 i19 i20) (fun l0 l1 l2 l3 n4 n5 n6 l9 l10 n11 n12 n13 i14 i15 i16 i17 i18 n19 n20 n21 i22 i23=>ya4 a0 a1 a2 a3 a4 (ycI Q) (ycJ Q) (ycK Q) (ycL Q) n l0 l1 l2 l3 n4 n5 n6 l9 l10 n11 n12 n13 i14 i15 i16 i17 i18 n19 n20 n21 i22 i23)
def yeM (a0:ycT) (a1:yal) (a2:yaE) (a3:ycU) (a4:yaI) (Q:Ex→Frm→Hp→Prop) (n:Nat) (F:Frm) (H:Hp):Prop:=ydw F H (fun l0 l1 l2 n3 n4 n5 l6 l7 n8 n9 n10 i11 i12=>ybu a0 a1 a2 a3 a4 (ycM Q) (ycN Q) (ycO Q) (ycP Q) n l0 l1 l2 n3 n4 n5 l6 l7 n8 n9 n10 i11 i12) (fun l0 l1 l2 l3 n4 n5 n6 l9 l10 n11 n12 n13 i14 i15=>yaD a0 a1 a2 a3 a4 (ycM Q) (ycN Q) (ycO Q) (ycP Q) n l0 l1 l2 l3 n4 n5 n6 l9 l10 n11 n12 n13 i14 i15)
def ybc (a0:ycT) (a1:yal) (a2:yaE) (a3:ycU) (a4:yaI):LP:=fun id F H Q =>
 bif Nat.beq id 29600600 then ydu F H (fun l0 l1 l2 l3 n4 n5 n6 i7 i8=>∃ n:Nat,ybt a0 a1 a2 a3 a4 (yg5 Q) n l0 l1 l2 l3 n4 n5 n6 i7 i8) else
 bif Nat.beq id 29600601 then ydv F H (fun l0 l1 l2 n3 n4 n5 l6 l7 n8 n9 n10 i11 i12 i13 i14 i15 n16 n17 n18 i19 i20=>∃ n:Nat,ya3 a0 a1 a2 a3 a4 (ycI Q) (ycJ Q) (ycK Q) (ycL Q) n l0 l1 l2 n3 n4 n5 l6 l7 n8 n9 n10 i11 i12 i13 i14 i15 n16 n17 n18 i19 i20) (fun l0 l1 l2 l3 n4 n5 n6 l9 l10 n11 n12 n13 i14 i15 i16 i17 i18 n19 n20 n21 i22 i23=>∃ n:Nat,ya4 a0 a1 a2 a3 a4 (ycI Q) (ycJ Q) (ycK Q) (ycL Q) n l0 l1 l2 l3 n4 n5 n6 l9 l10 n11 n12 n13 i14 i15 i16 i17 i18 n19 n20 n21 i22 i23) else
 bif Nat.beq id 29600602 then ydw F H (fun l0 l1 l2 n3 n4 n5 l6 l7 n8 n9 n10 i11 i12=>∃ n:Nat,ybu a0 a1 a2 a3 a4 (ycM Q) (ycN Q) (ycO Q) (ycP Q) n l0 l1 l2 n3 n4 n5 l6 l7 n8 n9 n10 i11 i12) (fun l0 l1 l2 l3 n4 n5 n6 l9 l10 n11 n12 n13 i14 i15=>∃ n:Nat,yaD a0 a1 a2 a3 a4 (ycM Q) (ycN Q) (ycO Q) (ycP Q) n l0 l1 l2 l3 n4 n5 n6 l9 l10 n11 n12 n13 i14 i15) else
 False
def ydo (e:List (Nat×EffF)) (a0:ycT) (a1:yal) (a2:yaE) (a3:ycU) (a4:yaI):SE:=⟨(E e),lookS [(yj5,yoD a0),(yaW,yd6 a1),(ycb,ye0 a2),(yj6,yoF a3),(yc0,ygc a4)],lookI [],ybc a0 a1 a2 a3 a4⟩
theorem ygk (e:List (Nat×EffF)) (he:EG e):SEOk (ydo e ya2 yae yaq yaO yam):=yag ⟨(yCL e he),(yg4 e he),(yik e he),(yu5 e he),(ylY e he),trivial⟩ trivial he.ok
theorem yoK (e:List (Nat×EffF)) (a0 a1 a2 a3 a4 Q n l0 l1 l2 l3 n4 n5 n6 i7 i8):WC (E e) (callW (ydo e a0 a1 a2 a3 a4) 5) (ybc a0 a1 a2 a3 a4) ykn [(0,.v (.data l1)),(2,.box (.agg [.nils])),(3,.v .nils),(6,.box (.agg [(.data l2),(.data l3)])),(7,.v (.own 0 0 n4 n5 (some n6))),(31,.v (.int .i64 i7)),(32,.v (.int .i64 i8))] [⟨false,true,1,l0⟩] (fun x F' H'=>match x with | .norm=>ygj a0 a1 a2 a3 a4 Q n F' H' | .exit i=>Q (.exit i) F' H' | .ret=>Q .ret F' H')=ybt a0 a1 a2 a3 a4 (yg5 Q) (n+1) l0 l1 l2 l3 n4 n5 n6 i7 i8:=by kernel_rfl
theorem ysJ (e:List (Nat×EffF)) (_:EG e):LpOk (E e) (ybc ya2 yae yaq yaO yam) ykn:=(yaf (by kernel_rfl))
theorem yry (e:List (Nat×EffF)) (he:EG e):∀ F H Q,ybc ya2 yae yaq yaO yam 29600600 F H Q→LoopT (E e) ykn F H Q:=by
 intro F H Q h
 have go:=LoopT.intro (yaH (ygk e he) 5) (ysJ e he) (ygj ya2 yae yaq yaO yam Q) (by
   intro F H h
   unfold ygj ydu at h
   split at h
   · exact h
   · exact h) (by
   intro n F H h
   unfold ygj ydu at h
   split at h
   · exact (yoK ..).mpr h
   · exact h.elim)
 have h:ydu F H _:=h
 unfold ydu at h
 split at h
 · obtain ⟨n,h⟩:=h;exact go n _ _ h
 · exact h.elim
theorem yoL (e:List (Nat×EffF)) (a0 a1 a2 a3 a4 Q n l0 l1 l2 n3 n4 n5 l6 l7 n8 n9 n10 i11 i12 i13 i14 i15 n16 n17 n18 i19 i20):WC (E e) (callW (ydo e a0 a1 a2 a3 a4) 5) (ybc a0 a1 a2 a3 a4) ygn [(0,.v (.data l2)),(2,.box (.agg [(.own 1 0 n3 n4 (some n5))])),(3,.v .nils),(6,.box (.agg [(.data l6),(.data l7)])),(7,.v (.own 0 0 n8 n9 (some n10))),(9,.box (.agg [(.int .i64 i11),(.int .i64 i12)])),(10,.v (.int .i64 i13)),(11,.box (.agg [(.int .i64 i14),(.int .i64 i15)])),(49,.v (.own 0 0 n16 n17 (some n18))),(50,.v (.int .i64 i19)),(51,.v (.int .i64 i20))] [⟨false,true,1,l0⟩,⟨false,true,1,l1⟩] (fun x F' H'=>match x with | .norm=>yeL a0 a1 a2 a3 a4 Q n F' H' | .exit i=>Q (.exit i) F' H' | .ret=>Q .ret F' H')=ya3 a0 a1 a2 a3 a4 (ycI Q) (ycJ Q) (ycK Q) (ycL Q) (n+1) l0 l1 l2 n3 n4 n5 l6 l7 n8 n9 n10 i11 i12 i13 i14 i15 n16 n17 n18 i19 i20:=by kernel_rfl
theorem yoM (e:List (Nat×EffF)) (a0 a1 a2 a3 a4 Q n l0 l1 l2 l3 n4 n5 n6 l9 l10 n11 n12 n13 i14 i15 i16 i17 i18 n19 n20 n21 i22 i23):WC (E e) (callW (ydo e a0 a1 a2 a3 a4) 5) (ybc a0 a1 a2 a3 a4) ygn [(0,.v (.data l3)),(2,.box (.agg [(.own 1 0 n4 n5 (some n6))])),(3,.v (.own 2 0 (List.length l2) (List.length l2) none)),(6,.box (.agg [(.data l9),(.data l10)])),(7,.v (.own 0 0 n11 n12 (some n13))),(9,.box (.agg [(.int .i64 i14),(.int .i64 i15)])),(10,.v (.int .i64 i16)),(11,.box (.agg [(.int .i64 i17),(.int .i64 i18)])),(49,.v (.own 0 0 n19 n20 (some n21))),(50,.v (.int .i64 i22)),(51,.v (.int .i64 i23))] [⟨false,true,1,l0⟩,⟨false,true,1,l1⟩,⟨false,true,1,l2⟩] (fun x F' H'=>match x with | .norm=>yeL a0 a1 a2 a3 a4 Q n F' H' | .exit i=>Q (.exit i) F' H' | .ret=>Q .ret F' H')=ya4 a0 a1 a2 a3 a4 (ycI Q) (ycJ Q) (ycK Q) (ycL Q) (n+1) l0 l1 l2 l3 n4 n5 n6 l9 l10 n11 n12 n13 i14 i15 i16 i17 i18 n19 n20 n21 i22 i23:=by kernel_rfl
theorem ysK (e:List (Nat×EffF)) (_:EG e):LpOk (E e) (ybc ya2 yae yaq yaO yam) ygn:=(yaf (by kernel_rfl))
theorem ykG (e:List (Nat×EffF)) (he:EG e):∀ F H Q,ybc ya2 yae yaq yaO yam 29600601 F H Q→LoopT (E e) ygn F H Q:=by
 intro F H Q h
 have go:=LoopT.intro (yaH (ygk e he) 5) (ysK e he) (yeL ya2 yae yaq yaO yam Q) (by
   intro F H h
   unfold yeL ydv at h
   split at h
   · exact h
   · obtain ⟨hg,k⟩:=yad.1 h
     clear h
     have h:=k
     clear k
     try simp only [Bool.and_eq_true,decide_eq_true_eq] at hg
     obtain ⟨g0,g1⟩:=hg;subst g0;subst g1;exact h
   · exact h) (by
   intro n F H h
   unfold yeL ydv at h
   split at h
   · exact (yoL ..).mpr h
   · obtain ⟨hg,k⟩:=yad.1 h
     clear h
     have h:=k
     clear k
     try simp only [Bool.and_eq_true,decide_eq_true_eq] at hg
     obtain ⟨g0,g1⟩:=hg;subst g0;subst g1;exact (yoM ..).mpr h
   · exact h.elim)
 have h:ydv F H _ _:=h
 unfold ydv at h
 split at h
 · obtain ⟨n,h⟩:=h;exact go n _ _ h
 · obtain ⟨hg,n,h⟩:=yad.1 h;exact go n _ _ (yad.2 ⟨hg,h⟩)
 · exact h.elim
theorem yoN (e:List (Nat×EffF)) (a0 a1 a2 a3 a4 Q n l0 l1 l2 n3 n4 n5 l6 l7 n8 n9 n10 i11 i12):WC (E e) (callW (ydo e a0 a1 a2 a3 a4) 5) (ybc a0 a1 a2 a3 a4) yhC [(0,.v (.data l2)),(2,.box (.agg [(.own 1 0 n3 n4 (some n5))])),(3,.v .nils),(6,.box (.agg [(.data l6),(.data l7)])),(7,.v (.own 0 0 n8 n9 (some n10))),(9,.box (.agg [(.int .i64 i11),(.int .i64 i12)]))] [⟨false,true,1,l0⟩,⟨false,true,1,l1⟩] (fun x F' H'=>match x with | .norm=>yeM a0 a1 a2 a3 a4 Q n F' H' | .exit i=>Q (.exit i) F' H' | .ret=>Q .ret F' H')=ybu a0 a1 a2 a3 a4 (ycM Q) (ycN Q) (ycO Q) (ycP Q) (n+1) l0 l1 l2 n3 n4 n5 l6 l7 n8 n9 n10 i11 i12:=by kernel_rfl
theorem yoO (e:List (Nat×EffF)) (a0 a1 a2 a3 a4 Q n l0 l1 l2 l3 n4 n5 n6 l9 l10 n11 n12 n13 i14 i15):WC (E e) (callW (ydo e a0 a1 a2 a3 a4) 5) (ybc a0 a1 a2 a3 a4) yhC [(0,.v (.data l3)),(2,.box (.agg [(.own 1 0 n4 n5 (some n6))])),(3,.v (.own 2 0 (List.length l2) (List.length l2) none)),(6,.box (.agg [(.data l9),(.data l10)])),(7,.v (.own 0 0 n11 n12 (some n13))),(9,.box (.agg [(.int .i64 i14),(.int .i64 i15)]))] [⟨false,true,1,l0⟩,⟨false,true,1,l1⟩,⟨false,true,1,l2⟩] (fun x F' H'=>match x with | .norm=>yeM a0 a1 a2 a3 a4 Q n F' H' | .exit i=>Q (.exit i) F' H' | .ret=>Q .ret F' H')=yaD a0 a1 a2 a3 a4 (ycM Q) (ycN Q) (ycO Q) (ycP Q) (n+1) l0 l1 l2 l3 n4 n5 n6 l9 l10 n11 n12 n13 i14 i15:=by kernel_rfl
theorem ysL (e:List (Nat×EffF)) (he:EG e):LpOk (E e) (ybc ya2 yae yaq yaO yam) yhC:=(ybk (l:=[(29600601,ygn)]) ⟨ykG e he,trivial⟩ (by kernel_rfl))
theorem yrz (e:List (Nat×EffF)) (he:EG e):∀ F H Q,ybc ya2 yae yaq yaO yam 29600602 F H Q→LoopT (E e) yhC F H Q:=by
 intro F H Q h
 have go:=LoopT.intro (yaH (ygk e he) 5) (ysL e he) (yeM ya2 yae yaq yaO yam Q) (by
   intro F H h
   unfold yeM ydw at h
   split at h
   · exact h
   · obtain ⟨hg,k⟩:=yad.1 h
     clear h
     have h:=k
     clear k
     try simp only [Bool.and_eq_true,decide_eq_true_eq] at hg
     obtain ⟨g0,g1⟩:=hg;subst g0;subst g1;exact h
   · exact h) (by
   intro n F H h
   unfold yeM ydw at h
   split at h
   · exact (yoN ..).mpr h
   · obtain ⟨hg,k⟩:=yad.1 h
     clear h
     have h:=k
     clear k
     try simp only [Bool.and_eq_true,decide_eq_true_eq] at hg
     obtain ⟨g0,g1⟩:=hg;subst g0;subst g1;exact (yoO ..).mpr h
   · exact h.elim)
 have h:ydw F H _ _:=h
 unfold ydw at h
 split at h
 · obtain ⟨n,h⟩:=h;exact go n _ _ h
 · obtain ⟨hg,n,h⟩:=yad.1 h;exact go n _ _ (yad.2 ⟨hg,h⟩)
 · exact h.elim
theorem yxf (e:List (Nat×EffF)) (a0 a1 a2 a3 a4 p0 K):WP (ydo e a0 a1 a2 a3 a4) 6 yyg [(.data p0)] K=ykE a0 a1 a2 a3 a4 p0 (fun r0 r1 r2 r3=>K (.tup [(.agg [(.data r0)]),(.data r1),(.data r2),(.int .i64 r3)])):=by kernel_rfl
theorem yoP (e:List (Nat×EffF)) (he:EG e):OkF (E e) yoJ yf7:=by
 intro as K h
 unfold yoJ ykF at h
 split at h
 · exact WP_ok (ygk e he) (ybk (l:=[(29600600,ykn),(29600601,ygn),(29600602,yhC)]) ⟨yry e he,ykG e he,yrz e he,trivial⟩ (by kernel_rfl)) (by kernel_rfl) (by kernel_rfl) (fun _=>yab (by kernel_rfl) _) (he.num _ (by kernel_rfl)) ((yxf ..).mpr h)
 · exact h.elim
abbrev yaC:Type:=Int→List PV→List PV→Int→Int→(Int→Int→Int→Prop)→Prop
def ykH (a0:yap) (a1:yaE) (a2:yc9) (p0:Int) (p1 p2:List PV) (p3 p4:Int) (K:Int→Int→Int→Prop):Prop :=
 (a0 p0 p1 p2 (fun yi3 =>
 (cbr (yi3 !=(0:Int))
 (K (0:Int) (0:Int) yi3)
 (a1 p0 p1 p2 (2:Int) (fun yi9 yi10 =>
 (a2 p0 p1 p2 p3 p4 yi9 yi10 (fun yi11 yi12 yi13 =>
 (K yi11 yi12 yi13))))))))
def yan (p0:Int) (p1 p2:List PV) (p3 p4:Int) (K:Int→Int→Int→Prop):Prop:=ykH yai yaq ybP p0 p1 p2 p3 p4 K
def yd7 (w:yaC) (as:List PV) (K:PV→Prop):Prop :=
 match as with
 | [(.agg [(.int .i64 p0),(.data p1),(.data p2)]),(.agg [(.int .i64 p3),(.int .i64 p4)])]=>w p0 p1 p2 p3 p4 (fun r0 r1 r2=>K (.tup [(.agg [(.int .i64 r0),(.int .i64 r1)]),(.int .i64 r2)]))
 | _=>False
def yoQ (as:List PV) (K:PV→Prop):Prop:=yd7 yan as K
def yxg (_:yap) (_:yaE) (_:yc9):LP:=fun _ _ _ _ =>
 False
def yoR (e:List (Nat×EffF)) (a0:yap) (a1:yaE) (a2:yc9):SE:=⟨(E e),lookS [(ybl,yc8 a0),(ycb,ye0 a1),(ydy,ygY a2)],lookI [],yxg a0 a1 a2⟩
theorem yvM (e:List (Nat×EffF)) (he:EG e):SEOk (yoR e yai yaq ybP):=yag ⟨(ydN e he),(yik e he),(yjy e he),trivial⟩ trivial he.ok
theorem yxh (e:List (Nat×EffF)) (a0 a1 a2 p0 p1 p2 p3 p4 K):WP (yoR e a0 a1 a2) 6 yyh [(.agg [(.int .i64 p0),(.data p1),(.data p2)]),(.agg [(.int .i64 p3),(.int .i64 p4)])] K=ykH a0 a1 a2 p0 p1 p2 p3 p4 (fun r0 r1 r2=>K (.tup [(.agg [(.int .i64 r0),(.int .i64 r1)]),(.int .i64 r2)])):=by kernel_rfl
theorem yg6 (e:List (Nat×EffF)) (he:EG e):OkF (E e) yoQ yby:=by
 intro as K h
 unfold yoQ yd7 at h
 split at h
 · exact WP_ok (yvM e he) (yaf (by kernel_rfl)) (by kernel_rfl) (by kernel_rfl) (fun _=>yab (by kernel_rfl) _) (he.num _ (by kernel_rfl)) ((yxh ..).mpr h)
 · exact h.elim
abbrev ya6:Type:=Int→List PV→List PV→Int→List PV→List PV→Int→Int→(Int→Int→Int→Prop)→Prop
def ynk (a0:yaQ) (a1:yaC) (a2:yex) (a3:yaE) (a4:yas) (p0:Int) (p1 p2:List PV) (p3:Int) (p4 p5:List PV) (p6 p7:Int) (K:Int→Int→Int→Prop):Prop :=
 (a0 ([(.agg [(.int .i64 p0),(.data p1),(.data p2)]),(.agg [(.int .i64 p3),(.data p4),(.data p5)])]:List PV) ([]:List PV) (fun yi3 =>
 (cbr (yi3 !=(0:Int))
 (K (0:Int) (0:Int) yi3)
 (a1 p0 p1 p2 p6 p7 (fun yi7 yi8 yi9 =>
 (cbr (yi9 !=(0:Int))
 (K (0:Int) (0:Int) yi9)
 (a2 p3 p4 p5 p6 p7 yi7 yi8 (fun yi13 yi14 yi15 =>
 (cbr (yi15 !=(0:Int))
 (K (0:Int) (0:Int) yi15)
 (a3 p3 p4 p5 (2:Int) (fun yi21 yi22 =>
 (a4 yi13 yi14 yi21 yi22 (fun yi23 yi24 yi25 =>
 (K yi23 yi24 yi25))))))))))))))
def yaB (p0:Int) (p1 p2:List PV) (p3:Int) (p4 p5:List PV) (p6 p7:Int) (K:Int→Int→Int→Prop):Prop:=ynk yav yan yct yaq yah p0 p1 p2 p3 p4 p5 p6 p7 K
def yg7 (w:ya6) (as:List PV) (K:PV→Prop):Prop :=
 match as with
 | [(.agg [(.int .i64 p0),(.data p1),(.data p2)]),(.agg [(.int .i64 p3),(.data p4),(.data p5)]),(.agg [(.int .i64 p6),(.int .i64 p7)])]=>w p0 p1 p2 p3 p4 p5 p6 p7 (fun r0 r1 r2=>K (.tup [(.agg [(.int .i64 r0),(.int .i64 r1)]),(.int .i64 r2)]))
 | _=>False
def ysM (as:List PV) (K:PV→Prop):Prop:=yg7 yaB as K
def yAJ (_:yaQ) (_:yaC) (_:yex) (_:yaE) (_:yas):LP:=fun _ _ _ _ =>
 False
def ysN (e:List (Nat×EffF)) (a0:yaQ) (a1:yaC) (a2:yex) (a3:yaE) (a4:yas):SE:=⟨(E e),lookS [(ycv,yfO a0),(yby,yd7 a1),(yek,yie a2),(ycb,ye0 a3),(ybg,ydF a4)],lookI [],yAJ a0 a1 a2 a3 a4⟩
theorem yyS (e:List (Nat×EffF)) (he:EG e):SEOk (ysN e yav yan yct yaq yah):=yag ⟨(yg1 e he),(yg6 e he),(ylS e he),(yik e he),(yev e he),trivial⟩ trivial he.ok
theorem yAK (e:List (Nat×EffF)) (a0 a1 a2 a3 a4 p0 p1 p2 p3 p4 p5 p6 p7 K):WP (ysN e a0 a1 a2 a3 a4) 6 yCv [(.agg [(.int .i64 p0),(.data p1),(.data p2)]),(.agg [(.int .i64 p3),(.data p4),(.data p5)]),(.agg [(.int .i64 p6),(.int .i64 p7)])] K=ynk a0 a1 a2 a3 a4 p0 p1 p2 p3 p4 p5 p6 p7 (fun r0 r1 r2=>K (.tup [(.agg [(.int .i64 r0),(.int .i64 r1)]),(.int .i64 r2)])):=by kernel_rfl
theorem ynl (e:List (Nat×EffF)) (he:EG e):OkF (E e) ysM ycw:=by
 intro as K h
 unfold ysM yg7 at h
 split at h
 · exact WP_ok (yyS e he) (yaf (by kernel_rfl)) (by kernel_rfl) (by kernel_rfl) (fun _=>yab (by kernel_rfl) _) (he.num _ (by kernel_rfl)) ((yAK ..).mpr h)
 · exact h.elim
abbrev ycd:Type:=Int→List PV→List PV→Int→Int→(Int→Int→Prop)→Prop
def ybR (a0:yal) (a1:yaI) (x0:Int→List PV→List PV→Int→Int→Int→Int→List PV→Int→Int→Bool→Prop) (x1:Int→Int→Prop):Nat→Int→List PV→List PV→Int→Int→Int→Int→List PV→Int→Int→Prop
 | 0,_,_,_,_,_,_,_,_,_,_=>False
 | n+1,i0,l1,l2,i3,i4,i5,i6,l7,i8,i9 =>
 (cbr (decide (i9<i8))
 (asr (decide ((0:Int)≤i9))
 (asr (decide (i9<(((List.length l7):Nat):Int)))
 (lt (List.getD l7 (i9.toNat) .nils) (fun yr13 =>
 (asr (conf (.one (.i .i64)) yr13)
 (a0 (intOfV yr13) (fun yi17 yi18 =>
 (a1 i3 i4 yi17 yi18 (fun yb19 =>
 (cbr yb19
 (a0 (intOfV yr13) (fun yi22 yi23 =>
 (x1 yi22 yi23)))
 (lt (IntKind.i64.wrap (i9+(1:Int))) (fun yi24 =>
 (ybR a0 a1 x0 x1 n i0 l1 l2 i3 i4 i5 i6 l7 i8 yi24)))))))))))))
 (x0 i0 l1 l2 i3 i4 i5 i6 l7 i8 i9 false))
def ylZ (a0:yal) (a1:yaI) (p0:Int) (p1 p2:List PV) (p3 p4:Int) (K:Int→Int→Prop):Prop :=
 (∃ n:Nat,ybR a0 a1
 (fun yi38 _ _ _ _ _ _ _ _ _ _=>(a0 yi38 (fun yi51 yi52 =>
 (K yi51 yi52))))
 (fun yi53 yi54=>(K yi53 yi54))
 n p0 p1 p2 p3 p4 (0:Int) (0:Int) p1 (((List.length p1):Nat):Int) (0:Int))
def yaF (p0:Int) (p1 p2:List PV) (p3 p4:Int) (K:Int→Int→Prop):Prop:=ylZ yae yam p0 p1 p2 p3 p4 K
def yma (w:ycd) (as:List PV) (K:PV→Prop):Prop :=
 match as with
 | [(.agg [(.int .i64 p0),(.data p1),(.data p2)]),(.agg [(.int .i64 p3),(.int .i64 p4)])]=>w p0 p1 p2 p3 p4 (fun r0 r1=>K (.agg [(.int .i64 r0),(.int .i64 r1)]))
 | _=>False
def yqI (as:List PV) (K:PV→Prop):Prop:=yma yaF as K
def yd8 (F:Frm) (H:Hp) (A0:Int→List PV→List PV→Int→Int→Int→Int→List PV→Int→Int→Prop):Prop :=
 match F,H with
 | [(2,.box (.agg [(.int .i64 i0),(.data l1),(.data l2)])),(3,.box (.agg [(.int .i64 i3),(.int .i64 i4)])),(4,.box (.agg [(.int .i64 i5),(.int .i64 i6)])),(8,.v (.data l7)),(9,.v (.int .i64 i8)),(10,.v (.int .i64 i9))],[]=>(A0 i0 l1 l2 i3 i4 i5 i6 l7 i8 i9)
 | _,_=>False
def yhS (Q:Ex→Frm→Hp→Prop):Int→List PV→List PV→Int→Int→Int→Int→List PV→Int→Int→Bool→Prop:=(fun i0 l1 l2 i3 i4 i5 i6 l7 i8 i9 b10=>Q (.exit 0) [(2,.box (.agg [(.int .i64 i0),(.data l1),(.data l2)])),(3,.box (.agg [(.int .i64 i3),(.int .i64 i4)])),(4,.box (.agg [(.int .i64 i5),(.int .i64 i6)])),(8,.v (.data l7)),(9,.v (.int .i64 i8)),(10,.v (.int .i64 i9)),(11,.v (.bool b10))] [])
def yhT (Q:Ex→Frm→Hp→Prop):Int→Int→Prop:=(fun i0 i1=>Q .ret [(4,.box (.agg [(.int .i64 i0),(.int .i64 i1)]))] [])
def yg8 (a0:yal) (a1:yaI) (Q:Ex→Frm→Hp→Prop) (n:Nat) (F:Frm) (H:Hp):Prop:=yd8 F H (fun i0 l1 l2 i3 i4 i5 i6 l7 i8 i9=>ybR a0 a1 (yhS Q) (yhT Q) n i0 l1 l2 i3 i4 i5 i6 l7 i8 i9)
def yim (a0:yal) (a1:yaI):LP:=fun id F H Q =>
 bif Nat.beq id 55415100 then yd8 F H (fun i0 l1 l2 i3 i4 i5 i6 l7 i8 i9=>∃ n:Nat,ybR a0 a1 (yhS Q) (yhT Q) n i0 l1 l2 i3 i4 i5 i6 l7 i8 i9) else
 False
def ymb (e:List (Nat×EffF)) (a0:yal) (a1:yaI):SE:=⟨(E e),lookS [(yaW,yd6 a0),(yc0,ygc a1)],lookI [],yim a0 a1⟩
theorem yoS (e:List (Nat×EffF)) (he:EG e):SEOk (ymb e yae yam):=yag ⟨(yg4 e he),(ylY e he),trivial⟩ trivial he.ok
theorem yp6 (e:List (Nat×EffF)) (a0 a1 Q n i0 l1 l2 i3 i4 i5 i6 l7 i8 i9):WC (E e) (callW (ymb e a0 a1) 5) (yim a0 a1) ykp [(2,.box (.agg [(.int .i64 i0),(.data l1),(.data l2)])),(3,.box (.agg [(.int .i64 i3),(.int .i64 i4)])),(4,.box (.agg [(.int .i64 i5),(.int .i64 i6)])),(8,.v (.data l7)),(9,.v (.int .i64 i8)),(10,.v (.int .i64 i9))] [] (fun x F' H'=>match x with | .norm=>yg8 a0 a1 Q n F' H' | .exit i=>Q (.exit i) F' H' | .ret=>Q .ret F' H')=ybR a0 a1 (yhS Q) (yhT Q) (n+1) i0 l1 l2 i3 i4 i5 i6 l7 i8 i9:=by kernel_rfl
theorem yun (e:List (Nat×EffF)) (_:EG e):LpOk (E e) (yim yae yam) ykp:=(yaf (by kernel_rfl))
theorem ysO (e:List (Nat×EffF)) (he:EG e):∀ F H Q,yim yae yam 55415100 F H Q→LoopT (E e) ykp F H Q:=by
 intro F H Q h
 have go:=LoopT.intro (yaH (yoS e he) 5) (yun e he) (yg8 yae yam Q) (by
   intro F H h
   unfold yg8 yd8 at h
   split at h
   · exact h
   · exact h) (by
   intro n F H h
   unfold yg8 yd8 at h
   split at h
   · exact (yp6 ..).mpr h
   · exact h.elim)
 have h:yd8 F H _:=h
 unfold yd8 at h
 split at h
 · obtain ⟨n,h⟩:=h;exact go n _ _ h
 · exact h.elim
theorem yyT (e:List (Nat×EffF)) (a0 a1 p0 p1 p2 p3 p4 K):WP (ymb e a0 a1) 6 yAo [(.agg [(.int .i64 p0),(.data p1),(.data p2)]),(.agg [(.int .i64 p3),(.int .i64 p4)])] K=ylZ a0 a1 p0 p1 p2 p3 p4 (fun r0 r1=>K (.agg [(.int .i64 r0),(.int .i64 r1)])):=by kernel_rfl
theorem yqJ (e:List (Nat×EffF)) (he:EG e):OkF (E e) yqI ydA:=by
 intro as K h
 unfold yqI yma at h
 split at h
 · exact WP_ok (yoS e he) (ybk (l:=[(55415100,ykp)]) ⟨ysO e he,trivial⟩ (by kernel_rfl)) (by kernel_rfl) (by kernel_rfl) (fun _=>yab (by kernel_rfl) _) (he.num _ (by kernel_rfl)) ((yyT ..).mpr h)
 · exact h.elim
abbrev ybn:Type:=Int→Int→Int→Int→(Int→Int→Prop)→Prop
def yiY (a0:yaI) (p0 p1 p2 p3:Int) (K:Int→Int→Prop):Prop :=
 (a0 p0 p1 p2 p3 (fun yb3 =>
 (cbr yb3
 (K p0 p1)
 (K p2 p3))))
def yax (p0 p1 p2 p3:Int) (K:Int→Int→Prop):Prop:=yiY yam p0 p1 p2 p3 K
def yiZ (w:ybn) (as:List PV) (K:PV→Prop):Prop :=
 match as with
 | [(.agg [(.int .i64 p0),(.int .i64 p1)]),(.agg [(.int .i64 p2),(.int .i64 p3)])]=>w p0 p1 p2 p3 (fun r0 r1=>K (.agg [(.int .i64 r0),(.int .i64 r1)]))
 | _=>False
def yn5 (as:List PV) (K:PV→Prop):Prop:=yiZ yax as K
def yvN (_:yaI):LP:=fun _ _ _ _ =>
 False
def yn6 (e:List (Nat×EffF)) (a0:yaI):SE:=⟨(E e),lookS [(yc0,ygc a0)],lookI [],yvN a0⟩
theorem yuo (e:List (Nat×EffF)) (he:EG e):SEOk (yn6 e yam):=yag ⟨(ylY e he),trivial⟩ trivial he.ok
theorem yvO (e:List (Nat×EffF)) (a0 p0 p1 p2 p3 K):WP (yn6 e a0) 6 ywN [(.agg [(.int .i64 p0),(.int .i64 p1)]),(.agg [(.int .i64 p2),(.int .i64 p3)])] K=yiY a0 p0 p1 p2 p3 (fun r0 r1=>K (.agg [(.int .i64 r0),(.int .i64 r1)])):=by kernel_rfl
theorem yvP (e:List (Nat×EffF)) (he:EG e):OkF (E e) yn5 ydl:=by
 intro as K h
 unfold yn5 yiZ at h
 split at h
 · exact WP_ok (yuo e he) (yaf (by kernel_rfl)) (by kernel_rfl) (by kernel_rfl) (fun _=>yab (by kernel_rfl) _) (he.num _ (by kernel_rfl)) ((yvO ..).mpr h)
 · exact h.elim
abbrev ybA:Type:=Int→List PV→List PV→Int→Int→(Int→Int→Prop)→Prop
def ykI (a0:yal) (a1:yex) (a2:yaE) (a3:yas) (a4:yc9) (p0:Int) (p1 p2:List PV) (p3 p4:Int) (K:Int→Int→Prop):Prop :=
 (a0 (0:Int) (fun yi5 yi6 =>
 (a1 p0 p1 p2 yi5 yi6 p3 p4 (fun yi7 yi8 _ =>
 (a2 p0 p1 p2 (2:Int) (fun yi15 yi16 =>
 (a3 yi7 yi8 yi15 yi16 (fun yi17 yi18 _ =>
 (a0 (0:Int) (fun yi25 yi26 =>
 (a4 p0 p1 p2 yi25 yi26 yi17 yi18 (fun yi27 yi28 _ =>
 (K yi27 yi28)))))))))))))
def yaG (p0:Int) (p1 p2:List PV) (p3 p4:Int) (K:Int→Int→Prop):Prop:=ykI yae yct yaq yah ybP p0 p1 p2 p3 p4 K
def ykJ (w:ybA) (as:List PV) (K:PV→Prop):Prop :=
 match as with
 | [(.agg [(.int .i64 p0),(.data p1),(.data p2)]),(.agg [(.int .i64 p3),(.int .i64 p4)])]=>w p0 p1 p2 p3 p4 (fun r0 r1=>K (.agg [(.int .i64 r0),(.int .i64 r1)]))
 | _=>False
def yoT (as:List PV) (K:PV→Prop):Prop:=ykJ yaG as K
def yxi (_:yal) (_:yex) (_:yaE) (_:yas) (_:yc9):LP:=fun _ _ _ _ =>
 False
def yoU (e:List (Nat×EffF)) (a0:yal) (a1:yex) (a2:yaE) (a3:yas) (a4:yc9):SE:=⟨(E e),lookS [(yaW,yd6 a0),(yek,yie a1),(ycb,ye0 a2),(ybg,ydF a3),(ydy,ygY a4)],lookI [],yxi a0 a1 a2 a3 a4⟩
theorem yvQ (e:List (Nat×EffF)) (he:EG e):SEOk (yoU e yae yct yaq yah ybP):=yag ⟨(yg4 e he),(ylS e he),(yik e he),(yev e he),(yjy e he),trivial⟩ trivial he.ok
theorem yxj (e:List (Nat×EffF)) (a0 a1 a2 a3 a4 p0 p1 p2 p3 p4 K):WP (yoU e a0 a1 a2 a3 a4) 6 yyi [(.agg [(.int .i64 p0),(.data p1),(.data p2)]),(.agg [(.int .i64 p3),(.int .i64 p4)])] K=ykI a0 a1 a2 a3 a4 p0 p1 p2 p3 p4 (fun r0 r1=>K (.agg [(.int .i64 r0),(.int .i64 r1)])):=by kernel_rfl
theorem yxk (e:List (Nat×EffF)) (he:EG e):OkF (E e) yoT yf8:=by
 intro as K h
 unfold yoT ykJ at h
 split at h
 · exact WP_ok (yvQ e he) (yaf (by kernel_rfl)) (by kernel_rfl) (by kernel_rfl) (fun _=>yab (by kernel_rfl) _) (he.num _ (by kernel_rfl)) ((yxj ..).mpr h)
 · exact h.elim
abbrev yeA:Type:=Int→List PV→List PV→Int→List PV→List PV→(Int→Int→Int→Int→Int→Prop)→Prop
def ybS (a0:yaQ) (a1:yal) (a2:yaC) (a3:ya6) (a4:ycd) (a5:ybn) (a6:ybA) (a7:yas) (a8:ya5) (a9:yaA) (a10:yaz) (x5501800_0:List PV→Int→List PV→List PV→Int→List PV→List PV→Int→Int→Int→Int→Int→Int→List PV→Int→Int→Bool→Prop) (x5501800_1:List PV→Int→Int→Int→Int→Int→Prop):Nat→List PV→Int→List PV→List PV→Int→List PV→List PV→Int→Int→Int→Int→Int→Int→List PV→Int→Int→Prop
 | 0,_,_,_,_,_,_,_,_,_,_,_,_,_,_,_,_=>False
 | n5501800+1,l0,i1,l2,l3,i4,l5,l6,i7,i8,i9,i10,i14,i15,l16,i17,i18 =>
 (cbr (decide (i18<i17))
 (asr (decide ((0:Int)≤i18))
 (asr (decide (i18<(((List.length l16):Nat):Int)))
 (lt (List.getD l16 (i18.toNat) .nils) (fun yr9 =>
 (asr (conf (.one (.i .i64)) yr9)
 (cbr ((intOfV yr9) ==(0:Int))
 (x5501800_1 l0 (0:Int) (0:Int) (0:Int) (0:Int) (2:Int))
 (lt (IntKind.i64.wrap (i18+(1:Int))) (fun yi10 =>
 (asr (decide ((List.length l0)=List.length l0)&&decide ((List.length l0)=List.length l0)&&decide ((List.length l0)=List.length l0))
 (ybS a0 a1 a2 a3 a4 a5 a6 a7 a8 a9 a10 x5501800_0 x5501800_1 n5501800 l0 i1 l2 l3 i4 l5 l6 i7 i8 i9 i10 i14 i15 l16 i17 yi10))))))))))
 (x5501800_0 l0 i1 l2 l3 i4 l5 l6 i7 i8 i9 i10 i14 i15 l16 i17 i18 false))
def yaM (a0:yaQ) (a1:yal) (a2:yaC) (a3:ya6) (a4:ycd) (a5:ybn) (a6:ybA) (a7:yas) (a8:ya5) (a9:yaA) (a10:yaz) (x5501802_0:List PV→Int→Int→Int→Int→Int→Prop):Nat→List PV→Int→List PV→List PV→Int→List PV→List PV→Int→Int→Int→Int→Int→Int→Prop
 | 0,_,_,_,_,_,_,_,_,_,_,_,_,_=>False
 | n5501802+1,l0,i1,l2,l3,i4,l5,l6,i7,i8,i9,i10,i11,i12 =>
 (a2 i1 l2 l3 i11 i12 (fun yi101 yi102 _ =>
 (a3 i1 l2 l3 i4 l5 l6 i11 i12 (fun yi107 yi108 _ =>
 (cbr (yi107 ==(0:Int))
 (x5501802_0 l0 i11 i12 yi101 yi102 (0:Int))
 (a4 i1 l2 l3 i11 i12 (fun yi126 yi127 =>
 (a4 i4 l5 l6 i11 i12 (fun yi128 yi129 =>
 (a5 yi126 yi127 yi128 yi129 (fun yi130 yi131 =>
 (a4 i1 l2 l3 yi101 yi102 (fun yi132 yi133 =>
 (a4 i4 l5 l6 yi101 yi102 (fun yi134 yi135 =>
 (a5 yi132 yi133 yi134 yi135 (fun yi136 yi137 =>
 (a6 i1 l2 l3 yi136 yi137 (fun yi138 yi139 =>
 (a5 yi130 yi131 yi138 yi139 (fun yi140 yi141 =>
 (a3 i1 l2 l3 i4 l5 l6 yi140 yi141 (fun yi145 yi146 _ =>
 (jn (fun (yj181:Bool→Prop) =>
 (cbr (decide (yi107>(0:Int)))
 (cbr (decide (yi145<(0:Int)))
 (yj181 true)
 (cbr (decide (yi107<(0:Int)))
 (yj181 (decide (yi145>(0:Int))))
 (yj181 false)))
 (cbr (decide (yi107<(0:Int)))
 (yj181 (decide (yi145>(0:Int))))
 (yj181 false))))
 (fun yb180=>(cbr yb180
 (a7 yi107 yi108 yi145 yi146 (fun yi185 yi186 _ =>
 (a8 yi107 yi108 yi185 yi186 (fun yi191 yi192 _ =>
 (a7 yi140 yi141 i11 i12 (fun yi197 yi198 _ =>
 (a9 yi197 yi198 yi191 yi192 (fun yi203 yi204 _ =>
 (a10 i11 i12 yi203 yi204 (fun yi209 yi210 _ =>
 (yaM a0 a1 a2 a3 a4 a5 a6 a7 a8 a9 a10 x5501802_0 n5501802 l0 i1 l2 l3 i4 l5 l6 i7 i8 i9 i10 yi209 yi210)))))))))))
 (yaM a0 a1 a2 a3 a4 a5 a6 a7 a8 a9 a10 x5501802_0 n5501802 l0 i1 l2 l3 i4 l5 l6 i7 i8 i9 i10 yi140 yi141)))))))))))))))))))))))))))
def ybr (a0:yaQ) (a1:yal) (a2:yaC) (a3:ya6) (a4:ycd) (a5:ybn) (a6:ybA) (a7:yas) (a8:ya5) (a9:yaA) (a10:yaz) (x5501801_0:List PV→Int→List PV→List PV→Int→List PV→List PV→Int→Int→Int→Int→Int→Int→Bool→Prop) (x5501801_1:List PV→Int→Int→Int→Int→Int→Prop):Nat→List PV→Int→List PV→List PV→Int→List PV→List PV→Int→Int→Int→Int→Int→Int→Prop
 | 0,_,_,_,_,_,_,_,_,_,_,_,_,_=>False
 | n5501801+1,l0,i1,l2,l3,i4,l5,l6,i7,i8,i9,i10,i14,i15 =>
 (cbr (decide (i15<i14))
 (asr (decide ((0:Int)≤i15))
 (asr (decide (i15<(((List.length l0):Nat):Int)))
 (asr (decide ((List.length l0)=(List.length l0)))
 (asr (decide ((0+(i15.toNat))<(List.length l0)))
 (lt (List.getD l0 (0+(i15.toNat)) .nils) (fun yr35 =>
 (asr (conf (.agg [.i .i64,.d,.d]) yr35)
 (asr (decide ((List.length l0)=List.length l0)&&decide ((List.length l0)=List.length l0)&&decide ((List.length l0)=List.length l0))
 (∃ n5501800:Nat,ybS a0 a1 a2 a3 a4 a5 a6 a7 a8 a9 a10
 (fun yl36 yi37 yl38 yl39 yi40 yl41 yl42 yi43 yi44 yi45 yi46 yi47 yi48 _ _ _ _=>(lt (IntKind.i64.wrap (yi48+(1:Int))) (fun yi53 =>
 (asr (decide ((List.length yl36)=List.length yl36)&&decide ((List.length yl36)=List.length yl36)&&decide ((List.length yl36)=List.length yl36))
 (ybr a0 a1 a2 a3 a4 a5 a6 a7 a8 a9 a10 x5501801_0 x5501801_1 n5501801 yl36 yi37 yl38 yl39 yi40 yl41 yl42 yi43 yi44 yi45 yi46 yi47 yi53)))))
 (fun yl54 yi55 yi56 yi57 yi58 yi59=>(x5501801_1 yl54 yi55 yi56 yi57 yi58 yi59))
 n5501800 l0 i1 l2 l3 i4 l5 l6 i7 i8 i9 i10 i14 i15 (datOfV (cellAt yr35 2)) (((List.length (datOfV (cellAt yr35 2))):Nat):Int) (0:Int))))))))))
 (x5501801_0 l0 i1 l2 l3 i4 l5 l6 i7 i8 i9 i10 i14 i15 false))
def ymc (a0:yaQ) (a1:yal) (a2:yaC) (a3:ya6) (a4:ycd) (a5:ybn) (a6:ybA) (a7:yas) (a8:ya5) (a9:yaA) (a10:yaz) (p0:Int) (p1 p2:List PV) (p3:Int) (p4 p5:List PV) (K:Int→Int→Int→Int→Int→Prop):Prop :=
 (a0 ([(.agg [(.int .i64 p0),(.data p1),(.data p2)]),(.agg [(.int .i64 p3),(.data p4),(.data p5)])]:List PV) ([]:List PV) (fun yi3 =>
 (cbr (yi3 !=(0:Int))
 (K (0:Int) (0:Int) (0:Int) (0:Int) yi3)
 (asr (decide (2=List.length ([(.agg [(.int .i64 p0),(.data p1),(.data p2)]),(.agg [(.int .i64 p3),(.data p4),(.data p5)])]:List PV))&&decide (2=List.length ([(.agg [(.int .i64 p0),(.data p1),(.data p2)]),(.agg [(.int .i64 p3),(.data p4),(.data p5)])]:List PV))&&decide (2=List.length ([(.agg [(.int .i64 p0),(.data p1),(.data p2)]),(.agg [(.int .i64 p3),(.data p4),(.data p5)])]:List PV)))
 (∃ n5501801:Nat,ybr a0 a1 a2 a3 a4 a5 a6 a7 a8 a9 a10
 (fun yl80 yi81 yl82 yl83 yi84 yl85 yl86 yi87 yi88 yi89 yi90 _ _ _=>(a1 (0:Int) (fun yi96 yi97 =>
 (∃ n5501802:Nat,yaM a0 a1 a2 a3 a4 a5 a6 a7 a8 a9 a10
 (fun _ yi213 yi214 yi215 yi216 yi217=>(K yi213 yi214 yi215 yi216 yi217))
 n5501802 yl80 yi81 yl82 yl83 yi84 yl85 yl86 yi87 yi88 yi89 yi90 yi96 yi97))))
 (fun _ yi219 yi220 yi221 yi222 yi223=>(K yi219 yi220 yi221 yi222 yi223))
 n5501801 ([(.agg [(.int .i64 p0),(.data p1),(.data p2)]),(.agg [(.int .i64 p3),(.data p4),(.data p5)])]:List PV) p0 p1 p2 p3 p4 p5 (0:Int) (0:Int) (0:Int) (0:Int) (2:Int) (0:Int))))))
def yc2 (p0:Int) (p1 p2:List PV) (p3:Int) (p4 p5:List PV) (K:Int→Int→Int→Int→Int→Prop):Prop:=ymc yav yae yan yaB yaF yax yaG yah yar yak yaj p0 p1 p2 p3 p4 p5 K
def yin (w:yeA) (as:List PV) (K:PV→Prop):Prop :=
 match as with
 | [(.agg [(.int .i64 p0),(.data p1),(.data p2)]),(.agg [(.int .i64 p3),(.data p4),(.data p5)])]=>w p0 p1 p2 p3 p4 p5 (fun r0 r1 r2 r3 r4=>K (.tup [(.agg [(.int .i64 r0),(.int .i64 r1),(.int .i64 r2),(.int .i64 r3)]),(.int .i64 r4)]))
 | _=>False
def yqK (as:List PV) (K:PV→Prop):Prop:=yin yc2 as K
def yd9 (F:Frm) (H:Hp) (A0:List PV→Int→List PV→List PV→Int→List PV→List PV→Int→Int→Int→Int→Int→Int→List PV→Int→Int→Prop):Prop :=
 match F,H with
 | [(2,.box (.agg [(.int .i64 i1),(.data l2),(.data l3)])),(3,.box (.agg [(.int .i64 i4),(.data l5),(.data l6)])),(4,.box (.agg [(.int .i64 i7),(.int .i64 i8),(.int .i64 i9),(.int .i64 i10)])),(38,.v (.own 0 0 t11 t12 (some t13))),(39,.v (.int .i64 i14)),(40,.v (.int .i64 i15)),(45,.v (.data l16)),(46,.v (.int .i64 i17)),(47,.v (.int .i64 i18))],[⟨false,true,3,l0⟩]=>asr (decide (t11=List.length l0)&&decide (t12=List.length l0)&&decide (t13=List.length l0)) (A0 l0 i1 l2 l3 i4 l5 l6 i7 i8 i9 i10 i14 i15 l16 i17 i18)
 | _,_=>False
def yea (F:Frm) (H:Hp) (A0:List PV→Int→List PV→List PV→Int→List PV→List PV→Int→Int→Int→Int→Int→Int→Prop):Prop :=
 match F,H with
 | [(2,.box (.agg [(.int .i64 i1),(.data l2),(.data l3)])),(3,.box (.agg [(.int .i64 i4),(.data l5),(.data l6)])),(4,.box (.agg [(.int .i64 i7),(.int .i64 i8),(.int .i64 i9),(.int .i64 i10)])),(11,.box (.agg [(.int .i64 i11),(.int .i64 i12)]))],[⟨false,true,3,l0⟩]=>(A0 l0 i1 l2 l3 i4 l5 l6 i7 i8 i9 i10 i11 i12)
 | _,_=>False
def yeb (F:Frm) (H:Hp) (A0:List PV→Int→List PV→List PV→Int→List PV→List PV→Int→Int→Int→Int→Int→Int→Prop):Prop :=
 match F,H with
 | [(2,.box (.agg [(.int .i64 i1),(.data l2),(.data l3)])),(3,.box (.agg [(.int .i64 i4),(.data l5),(.data l6)])),(4,.box (.agg [(.int .i64 i7),(.int .i64 i8),(.int .i64 i9),(.int .i64 i10)])),(38,.v (.own 0 0 t11 t12 (some t13))),(39,.v (.int .i64 i14)),(40,.v (.int .i64 i15))],[⟨false,true,3,l0⟩]=>asr (decide (t11=List.length l0)&&decide (t12=List.length l0)&&decide (t13=List.length l0)) (A0 l0 i1 l2 l3 i4 l5 l6 i7 i8 i9 i10 i14 i15)
 | _,_=>False
def yhU (Q:Ex→Frm→Hp→Prop):List PV→Int→List PV→List PV→Int→List PV→List PV→Int→Int→Int→Int→Int→Int→List PV→Int→Int→Bool→Prop:=(fun l0 i1 l2 l3 i4 l5 l6 i7 i8 i9 i10 i14 i15 l16 i17 i18 b19=>Q (.exit 2) [(2,.box (.agg [(.int .i64 i1),(.data l2),(.data l3)])),(3,.box (.agg [(.int .i64 i4),(.data l5),(.data l6)])),(4,.box (.agg [(.int .i64 i7),(.int .i64 i8),(.int .i64 i9),(.int .i64 i10)])),(38,.v (.own 0 0 (List.length l0) (List.length l0) (some (List.length l0)))),(39,.v (.int .i64 i14)),(40,.v (.int .i64 i15)),(45,.v (.data l16)),(46,.v (.int .i64 i17)),(47,.v (.int .i64 i18)),(48,.v (.bool b19))] [⟨false,true,3,l0⟩])
def yhV (Q:Ex→Frm→Hp→Prop):List PV→Int→Int→Int→Int→Int→Prop:=(fun l0 i1 i2 i3 i4 i5=>Q .ret [(4,.box (.agg [(.int .i64 i1),(.int .i64 i2),(.int .i64 i3),(.int .i64 i4)])),(5,.v (.int .i64 i5))] [⟨false,true,3,l0⟩])
def yhW (Q:Ex→Frm→Hp→Prop):List PV→Int→Int→Int→Int→Int→Prop:=(fun l0 i1 i2 i3 i4 i5=>Q .ret [(4,.box (.agg [(.int .i64 i1),(.int .i64 i2),(.int .i64 i3),(.int .i64 i4)])),(5,.v (.int .i64 i5))] [⟨false,true,3,l0⟩])
def yhX (Q:Ex→Frm→Hp→Prop):List PV→Int→List PV→List PV→Int→List PV→List PV→Int→Int→Int→Int→Int→Int→Bool→Prop:=(fun l0 i1 l2 l3 i4 l5 l6 i7 i8 i9 i10 i14 i15 b16=>Q (.exit 0) [(2,.box (.agg [(.int .i64 i1),(.data l2),(.data l3)])),(3,.box (.agg [(.int .i64 i4),(.data l5),(.data l6)])),(4,.box (.agg [(.int .i64 i7),(.int .i64 i8),(.int .i64 i9),(.int .i64 i10)])),(38,.v (.own 0 0 (List.length l0) (List.length l0) (some (List.length l0)))),(39,.v (.int .i64 i14)),(40,.v (.int .i64 i15)),(41,.v (.bool b16))] [⟨false,true,3,l0⟩])
def yhY (Q:Ex→Frm→Hp→Prop):List PV→Int→Int→Int→Int→Int→Prop:=(fun l0 i1 i2 i3 i4 i5=>Q .ret [(4,.box (.agg [(.int .i64 i1),(.int .i64 i2),(.int .i64 i3),(.int .i64 i4)])),(5,.v (.int .i64 i5))] [⟨false,true,3,l0⟩])
def yg9 (a0:yaQ) (a1:yal) (a2:yaC) (a3:ya6) (a4:ycd) (a5:ybn) (a6:ybA) (a7:yas) (a8:ya5) (a9:yaA) (a10:yaz) (Q:Ex→Frm→Hp→Prop) (n:Nat) (F:Frm) (H:Hp):Prop:=yd9 F H (fun l0 i1 l2 l3 i4 l5 l6 i7 i8 i9 i10 i14 i15 l16 i17 i18=>ybS a0 a1 a2 a3 a4 a5 a6 a7 a8 a9 a10 (yhU Q) (yhV Q) n l0 i1 l2 l3 i4 l5 l6 i7 i8 i9 i10 i14 i15 l16 i17 i18)
def yha (a0:yaQ) (a1:yal) (a2:yaC) (a3:ya6) (a4:ycd) (a5:ybn) (a6:ybA) (a7:yas) (a8:ya5) (a9:yaA) (a10:yaz) (Q:Ex→Frm→Hp→Prop) (n:Nat) (F:Frm) (H:Hp):Prop:=yea F H (fun l0 i1 l2 l3 i4 l5 l6 i7 i8 i9 i10 i11 i12=>yaM a0 a1 a2 a3 a4 a5 a6 a7 a8 a9 a10 (yhW Q) n l0 i1 l2 l3 i4 l5 l6 i7 i8 i9 i10 i11 i12)
def yhb (a0:yaQ) (a1:yal) (a2:yaC) (a3:ya6) (a4:ycd) (a5:ybn) (a6:ybA) (a7:yas) (a8:ya5) (a9:yaA) (a10:yaz) (Q:Ex→Frm→Hp→Prop) (n:Nat) (F:Frm) (H:Hp):Prop:=yeb F H (fun l0 i1 l2 l3 i4 l5 l6 i7 i8 i9 i10 i14 i15=>ybr a0 a1 a2 a3 a4 a5 a6 a7 a8 a9 a10 (yhX Q) (yhY Q) n l0 i1 l2 l3 i4 l5 l6 i7 i8 i9 i10 i14 i15)
def ybY (a0:yaQ) (a1:yal) (a2:yaC) (a3:ya6) (a4:ycd) (a5:ybn) (a6:ybA) (a7:yas) (a8:ya5) (a9:yaA) (a10:yaz):LP:=fun id F H Q =>
 bif Nat.beq id 5501800 then yd9 F H (fun l0 i1 l2 l3 i4 l5 l6 i7 i8 i9 i10 i14 i15 l16 i17 i18=>∃ n:Nat,ybS a0 a1 a2 a3 a4 a5 a6 a7 a8 a9 a10 (yhU Q) (yhV Q) n l0 i1 l2 l3 i4 l5 l6 i7 i8 i9 i10 i14 i15 l16 i17 i18) else
 bif Nat.beq id 5501802 then yea F H (fun l0 i1 l2 l3 i4 l5 l6 i7 i8 i9 i10 i11 i12=>∃ n:Nat,yaM a0 a1 a2 a3 a4 a5 a6 a7 a8 a9 a10 (yhW Q) n l0 i1 l2 l3 i4 l5 l6 i7 i8 i9 i10 i11 i12) else
 bif Nat.beq id 5501801 then yeb F H (fun l0 i1 l2 l3 i4 l5 l6 i7 i8 i9 i10 i14 i15=>∃ n:Nat,ybr a0 a1 a2 a3 a4 a5 a6 a7 a8 a9 a10 (yhX Q) (yhY Q) n l0 i1 l2 l3 i4 l5 l6 i7 i8 i9 i10 i14 i15) else
 False
def ygd (e:List (Nat×EffF)) (a0:yaQ) (a1:yal) (a2:yaC) (a3:ya6) (a4:ycd) (a5:ybn) (a6:ybA) (a7:yas) (a8:ya5) (a9:yaA) (a10:yaz):SE:=⟨(E e),lookS [(ycv,yfO a0),(yaW,yd6 a1),(yby,yd7 a2),(ycw,yg7 a3),(ydA,yma a4),(ydl,yiZ a5),(yf8,ykJ a6),(ybg,ydF a7),(yeg,ygV a8),(ybI,yew a9),(ycg,yeu a10)],lookI [],ybY a0 a1 a2 a3 a4 a5 a6 a7 a8 a9 a10⟩
theorem yhc (e:List (Nat×EffF)) (he:EG e):SEOk (ygd e yav yae yan yaB yaF yax yaG yah yar yak yaj):=yag ⟨(yg1 e he),(yg4 e he),(yg6 e he),(ynl e he),(yqJ e he),(yvP e he),(yxk e he),(yev e he),(yjv e he),(yfK e he),(yfJ e he),trivial⟩ trivial he.ok
theorem yp7 (e:List (Nat×EffF)) (a0 a1 a2 a3 a4 a5 a6 a7 a8 a9 a10 Q n l0 i1 l2 l3 i4 l5 l6 i7 i8 i9 i10 i14 i15 l16 i17 i18):WC (E e) (callW (ygd e a0 a1 a2 a3 a4 a5 a6 a7 a8 a9 a10) 5) (ybY a0 a1 a2 a3 a4 a5 a6 a7 a8 a9 a10) yjQ [(2,.box (.agg [(.int .i64 i1),(.data l2),(.data l3)])),(3,.box (.agg [(.int .i64 i4),(.data l5),(.data l6)])),(4,.box (.agg [(.int .i64 i7),(.int .i64 i8),(.int .i64 i9),(.int .i64 i10)])),(38,.v (.own 0 0 (List.length l0) (List.length l0) (some (List.length l0)))),(39,.v (.int .i64 i14)),(40,.v (.int .i64 i15)),(45,.v (.data l16)),(46,.v (.int .i64 i17)),(47,.v (.int .i64 i18))] [⟨false,true,3,l0⟩] (fun x F' H'=>match x with | .norm=>yg9 a0 a1 a2 a3 a4 a5 a6 a7 a8 a9 a10 Q n F' H' | .exit i=>Q (.exit i) F' H' | .ret=>Q .ret F' H')=ybS a0 a1 a2 a3 a4 a5 a6 a7 a8 a9 a10 (yhU Q) (yhV Q) (n+1) l0 i1 l2 l3 i4 l5 l6 i7 i8 i9 i10 i14 i15 l16 i17 i18:=by kernel_rfl
theorem yup (e:List (Nat×EffF)) (_:EG e):LpOk (E e) (ybY yav yae yan yaB yaF yax yaG yah yar yak yaj) yjQ:=(yaf (by kernel_rfl))
theorem ylc (e:List (Nat×EffF)) (he:EG e):∀ F H Q,ybY yav yae yan yaB yaF yax yaG yah yar yak yaj 5501800 F H Q→LoopT (E e) yjQ F H Q:=by
 intro F H Q h
 have go:=LoopT.intro (yaH (yhc e he) 5) (yup e he) (yg9 yav yae yan yaB yaF yax yaG yah yar yak yaj Q) (by
   intro F H h
   unfold yg9 yd9 at h
   split at h
   · obtain ⟨hg,k⟩:=yad.1 h
     clear h
     have h:=k
     clear k
     try simp only [Bool.and_eq_true,decide_eq_true_eq] at hg
     obtain ⟨⟨g0,g1⟩,g2⟩:=hg;subst g0;subst g1;subst g2;exact h
   · exact h) (by
   intro n F H h
   unfold yg9 yd9 at h
   split at h
   · obtain ⟨hg,k⟩:=yad.1 h
     clear h
     have h:=k
     clear k
     try simp only [Bool.and_eq_true,decide_eq_true_eq] at hg
     obtain ⟨⟨g0,g1⟩,g2⟩:=hg;subst g0;subst g1;subst g2;exact (yp7 ..).mpr h
   · exact h.elim)
 have h:yd9 F H _:=h
 unfold yd9 at h
 split at h
 · obtain ⟨hg,n,h⟩:=yad.1 h;exact go n _ _ (yad.2 ⟨hg,h⟩)
 · exact h.elim
theorem yp8 (e:List (Nat×EffF)) (a0 a1 a2 a3 a4 a5 a6 a7 a8 a9 a10 Q n l0 i1 l2 l3 i4 l5 l6 i7 i8 i9 i10 i11 i12):WC (E e) (callW (ygd e a0 a1 a2 a3 a4 a5 a6 a7 a8 a9 a10) 5) (ybY a0 a1 a2 a3 a4 a5 a6 a7 a8 a9 a10) ymG [(2,.box (.agg [(.int .i64 i1),(.data l2),(.data l3)])),(3,.box (.agg [(.int .i64 i4),(.data l5),(.data l6)])),(4,.box (.agg [(.int .i64 i7),(.int .i64 i8),(.int .i64 i9),(.int .i64 i10)])),(11,.box (.agg [(.int .i64 i11),(.int .i64 i12)]))] [⟨false,true,3,l0⟩] (fun x F' H'=>match x with | .norm=>yha a0 a1 a2 a3 a4 a5 a6 a7 a8 a9 a10 Q n F' H' | .exit i=>Q (.exit i) F' H' | .ret=>Q .ret F' H')=yaM a0 a1 a2 a3 a4 a5 a6 a7 a8 a9 a10 (yhW Q) (n+1) l0 i1 l2 l3 i4 l5 l6 i7 i8 i9 i10 i11 i12:=by kernel_rfl
theorem yuq (e:List (Nat×EffF)) (_:EG e):LpOk (E e) (ybY yav yae yan yaB yaF yax yaG yah yar yak yaj) ymG:=(yaf (by kernel_rfl))
theorem ysP (e:List (Nat×EffF)) (he:EG e):∀ F H Q,ybY yav yae yan yaB yaF yax yaG yah yar yak yaj 5501802 F H Q→LoopT (E e) ymG F H Q:=by
 intro F H Q h
 have go:=LoopT.intro (yaH (yhc e he) 5) (yuq e he) (yha yav yae yan yaB yaF yax yaG yah yar yak yaj Q) (by
   intro F H h
   unfold yha yea at h
   split at h
   · exact h
   · exact h) (by
   intro n F H h
   unfold yha yea at h
   split at h
   · exact (yp8 ..).mpr h
   · exact h.elim)
 have h:yea F H _:=h
 unfold yea at h
 split at h
 · obtain ⟨n,h⟩:=h;exact go n _ _ h
 · exact h.elim
theorem yp9 (e:List (Nat×EffF)) (a0 a1 a2 a3 a4 a5 a6 a7 a8 a9 a10 Q n l0 i1 l2 l3 i4 l5 l6 i7 i8 i9 i10 i14 i15):WC (E e) (callW (ygd e a0 a1 a2 a3 a4 a5 a6 a7 a8 a9 a10) 5) (ybY a0 a1 a2 a3 a4 a5 a6 a7 a8 a9 a10) ymF [(2,.box (.agg [(.int .i64 i1),(.data l2),(.data l3)])),(3,.box (.agg [(.int .i64 i4),(.data l5),(.data l6)])),(4,.box (.agg [(.int .i64 i7),(.int .i64 i8),(.int .i64 i9),(.int .i64 i10)])),(38,.v (.own 0 0 (List.length l0) (List.length l0) (some (List.length l0)))),(39,.v (.int .i64 i14)),(40,.v (.int .i64 i15))] [⟨false,true,3,l0⟩] (fun x F' H'=>match x with | .norm=>yhb a0 a1 a2 a3 a4 a5 a6 a7 a8 a9 a10 Q n F' H' | .exit i=>Q (.exit i) F' H' | .ret=>Q .ret F' H')=ybr a0 a1 a2 a3 a4 a5 a6 a7 a8 a9 a10 (yhX Q) (yhY Q) (n+1) l0 i1 l2 l3 i4 l5 l6 i7 i8 i9 i10 i14 i15:=by kernel_rfl
theorem yur (e:List (Nat×EffF)) (he:EG e):LpOk (E e) (ybY yav yae yan yaB yaF yax yaG yah yar yak yaj) ymF:=(ybk (l:=[(5501800,yjQ)]) ⟨ylc e he,trivial⟩ (by kernel_rfl))
theorem ysQ (e:List (Nat×EffF)) (he:EG e):∀ F H Q,ybY yav yae yan yaB yaF yax yaG yah yar yak yaj 5501801 F H Q→LoopT (E e) ymF F H Q:=by
 intro F H Q h
 have go:=LoopT.intro (yaH (yhc e he) 5) (yur e he) (yhb yav yae yan yaB yaF yax yaG yah yar yak yaj Q) (by
   intro F H h
   unfold yhb yeb at h
   split at h
   · obtain ⟨hg,k⟩:=yad.1 h
     clear h
     have h:=k
     clear k
     try simp only [Bool.and_eq_true,decide_eq_true_eq] at hg
     obtain ⟨⟨g0,g1⟩,g2⟩:=hg;subst g0;subst g1;subst g2;exact h
   · exact h) (by
   intro n F H h
   unfold yhb yeb at h
   split at h
   · obtain ⟨hg,k⟩:=yad.1 h
     clear h
     have h:=k
     clear k
     try simp only [Bool.and_eq_true,decide_eq_true_eq] at hg
     obtain ⟨⟨g0,g1⟩,g2⟩:=hg;subst g0;subst g1;subst g2;exact (yp9 ..).mpr h
   · exact h.elim)
 have h:yeb F H _:=h
 unfold yeb at h
 split at h
 · obtain ⟨hg,n,h⟩:=yad.1 h;exact go n _ _ (yad.2 ⟨hg,h⟩)
 · exact h.elim
theorem yyU (e:List (Nat×EffF)) (a0 a1 a2 a3 a4 a5 a6 a7 a8 a9 a10 p0 p1 p2 p3 p4 p5 K):WP (ygd e a0 a1 a2 a3 a4 a5 a6 a7 a8 a9 a10) 6 yAp [(.agg [(.int .i64 p0),(.data p1),(.data p2)]),(.agg [(.int .i64 p3),(.data p4),(.data p5)])] K=ymc a0 a1 a2 a3 a4 a5 a6 a7 a8 a9 a10 p0 p1 p2 p3 p4 p5 (fun r0 r1 r2 r3 r4=>K (.tup [(.agg [(.int .i64 r0),(.int .i64 r1),(.int .i64 r2),(.int .i64 r3)]),(.int .i64 r4)])):=by kernel_rfl
theorem ymd (e:List (Nat×EffF)) (he:EG e):OkF (E e) yqK yel:=by
 intro as K h
 unfold yqK yin at h
 split at h
 · exact WP_ok (yhc e he) (ybk (l:=[(5501800,yjQ),(5501801,ymF),(5501802,ymG)]) ⟨ylc e he,ysQ e he,ysP e he,trivial⟩ (by kernel_rfl)) (by kernel_rfl) (by kernel_rfl) (fun _=>yab (by kernel_rfl) _) (he.num _ (by kernel_rfl)) ((yyU ..).mpr h)
 · exact h.elim
end Go.Pf.Vc
namespace Go.Pf.Vc
open Go Go.Pf
set_option linter.unusedVariables false
theorem yvR (p0:List PV) (r0:List PV) (r1:List PV) (r2:List PV) (r3:Int) (h:∀ K:List PV→List PV→List PV→Int→Prop,K r0 r1 r2 r3→ydO p0 K) (K:List PV→List PV→List PV→Int→Prop):ydO p0 K=K r0 r1 r2 r3 :=
 propext ⟨fun k=>detC (yoP [] yaT) (as:=[(.data p0)]) (x:=(.tup [(.agg [(.data r0)]),(.data r1),(.data r2),(.int .i64 r3)])) (fun K' k'=>h (fun r0 r1 r2 r3=>K' (.tup [(.agg [(.data r0)]),(.data r1),(.data r2),(.int .i64 r3)])) k') (K:=fun x=>match x with | (.tup [(.agg [(.data r0)]),(.data r1),(.data r2),(.int .i64 r3)])=>K r0 r1 r2 r3 | _=>False) k,h K⟩
theorem yxl (p0:Int) (p1:List PV) (p2:List PV) (p3:Int) (p4:Int) (r0:Int) (r1:Int) (h:∀ K:Int→Int→Prop,K r0 r1→yaF p0 p1 p2 p3 p4 K) (K:Int→Int→Prop):yaF p0 p1 p2 p3 p4 K=K r0 r1 :=
 propext ⟨fun k=>detC (yqJ [] yaT) (as:=[(.agg [(.int .i64 p0),(.data p1),(.data p2)]),(.agg [(.int .i64 p3),(.int .i64 p4)])]) (x:=(.agg [(.int .i64 r0),(.int .i64 r1)])) (fun K' k'=>h (fun r0 r1=>K' (.agg [(.int .i64 r0),(.int .i64 r1)])) k') (K:=fun x=>match x with | (.agg [(.int .i64 r0),(.int .i64 r1)])=>K r0 r1 | _=>False) k,h K⟩
theorem yxm (p0:Int) (p1:List PV) (p2:List PV) (p3:Int) (p4:List PV) (p5:List PV) (r0:Int) (r1:Int) (r2:Int) (r3:Int) (r4:Int) (h:∀ K:Int→Int→Int→Int→Int→Prop,K r0 r1 r2 r3 r4→yc2 p0 p1 p2 p3 p4 p5 K) (K:Int→Int→Int→Int→Int→Prop):yc2 p0 p1 p2 p3 p4 p5 K=K r0 r1 r2 r3 r4 :=
 propext ⟨fun k=>detC (ymd [] yaT) (as:=[(.agg [(.int .i64 p0),(.data p1),(.data p2)]),(.agg [(.int .i64 p3),(.data p4),(.data p5)])]) (x:=(.tup [(.agg [(.int .i64 r0),(.int .i64 r1),(.int .i64 r2),(.int .i64 r3)]),(.int .i64 r4)])) (fun K' k'=>h (fun r0 r1 r2 r3 r4=>K' (.tup [(.agg [(.int .i64 r0),(.int .i64 r1),(.int .i64 r2),(.int .i64 r3)]),(.int .i64 r4)])) k') (K:=fun x=>match x with | (.tup [(.agg [(.int .i64 r0),(.int .i64 r1),(.int .i64 r2),(.int .i64 r3)]),(.int .i64 r4)])=>K r0 r1 r2 r3 r4 | _=>False) k,h K⟩
end Go.Pf.Vc
namespace Go.Pf.Vc
open Go Go.Pf
set_option maxRecDepth 100000
abbrev yge:Type:=Int→(Int→Int→Prop)→Prop
def yzE (p0:Int) (K:Int→Int→Prop):Prop :=
 (K p0 (1:Int))
def yiI (p0:Int) (K:Int→Int→Prop):Prop:=yzE p0 K
def ymL (w:yge) (as:List PV) (K:PV→Prop):Prop :=
 match as with
 | [(.int .i64 p0)]=>w p0 (fun r0 r1=>K (.agg [(.int .i64 r0),(.int .i64 r1)]))
 | _=>False
def yzF (as:List PV) (K:PV→Prop):Prop:=ymL yiI as K
def yGL:LP:=fun _ _ _ _ =>
 False
def yzG (e:List (Nat×EffF)):SE:=⟨(E e),lookS [],lookI [],yGL⟩
theorem yEL (e:List (Nat×EffF)) (he:EG e):SEOk (yzG e):=yag trivial trivial he.ok
theorem yGM (e:List (Nat×EffF)) ( p0 K):WP (yzG e) 6 yHP [(.int .i64 p0)] K=yzE p0 (fun r0 r1=>K (.agg [(.int .i64 r0),(.int .i64 r1)])):=by kernel_rfl
theorem yus (e:List (Nat×EffF)) (he:EG e):OkF (E e) yzF yfl:=by
 intro as K h
 unfold yzF ymL at h
 split at h
 · exact WP_ok (yEL e he) (yaf (by kernel_rfl)) (by kernel_rfl) (by kernel_rfl) (fun _=>yab (by kernel_rfl) _) (he.num _ (by kernel_rfl)) ((yGM ..).mpr h)
 · exact h.elim
abbrev yce:Type:=Int→(Int→Prop)→Prop
def yrA (p0:Int) (K:Int→Prop):Prop :=
 (cbr (decide (p0<(0:Int)))
 (K (IntKind.u64.wrap ((IntKind.u64.wrap (IntKind.i64.wrap ((0:Int)-(IntKind.i64.wrap (p0+(1:Int))))))+(1:Int))))
 (K (IntKind.u64.wrap p0)))
def ydh (p0:Int) (K:Int→Prop):Prop:=yrA p0 K
def ygs (w:yce) (as:List PV) (K:PV→Prop):Prop :=
 match as with
 | [(.int .i64 p0)]=>w p0 (fun r0=>K (.int .u64 r0))
 | _=>False
def yxn (as:List PV) (K:PV→Prop):Prop:=ygs ydh as K
def yEM:LP:=fun _ _ _ _ =>
 False
def yxo (e:List (Nat×EffF)):SE:=⟨(E e),lookS [],lookI [],yEM⟩
theorem yCO (e:List (Nat×EffF)) (he:EG e):SEOk (yxo e):=yag trivial trivial he.ok
theorem yEN (e:List (Nat×EffF)) ( p0 K):WP (yxo e) 6 yGF [(.int .i64 p0)] K=yrA p0 (fun r0=>K (.int .u64 r0)):=by kernel_rfl
theorem ykK (e:List (Nat×EffF)) (he:EG e):OkF (E e) yxn ybp:=by
 intro as K h
 unfold yxn ygs at h
 split at h
 · exact WP_ok (yCO e he) (yaf (by kernel_rfl)) (by kernel_rfl) (by kernel_rfl) (fun _=>yab (by kernel_rfl) _) (he.num _ (by kernel_rfl)) ((yEN ..).mpr h)
 · exact h.elim
abbrev ydi:Type:=Int→Int→(Int→Prop)→Prop
def ydP (x0:Int→Int→Bool→Prop):Nat→Int→Int→Prop
 | 0,_,_=>False
 | n+1,i0,i1 =>
 (cbr (i1 !=(0:Int))
 (asr (!(decide (i1=(0:Int))))
 (ydP x0 n i1 (Int.tmod i0 i1)))
 (x0 i0 i1 false))
def yrB (p0 p1:Int) (K:Int→Prop):Prop :=
 (∃ n:Nat,ydP
 (fun yi0 _ _=>(K yi0))
 n p0 p1)
def ycf (p0 p1:Int) (K:Int→Prop):Prop:=yrB p0 p1 K
def yhZ (w:ydi) (as:List PV) (K:PV→Prop):Prop :=
 match as with
 | [(.int .u64 p0),(.int .u64 p1)]=>w p0 p1 (fun r0=>K (.int .u64 r0))
 | _=>False
def yxp (as:List PV) (K:PV→Prop):Prop:=yhZ ycf as K
def ygH (F:Frm) (H:Hp) (A0:Int→Int→Prop):Prop :=
 match F,H with
 | [(0,.v (.int .u64 i0)),(1,.v (.int .u64 i1))],[]=>(A0 i0 i1)
 | _,_=>False
def yme (Q:Ex→Frm→Hp→Prop):Int→Int→Bool→Prop:=(fun i0 i1 b2=>Q (.exit 0) [(0,.v (.int .u64 i0)),(1,.v (.int .u64 i1)),(6,.v (.bool b2))] [])
def yld (Q:Ex→Frm→Hp→Prop) (n:Nat) (F:Frm) (H:Hp):Prop:=ygH F H (fun i0 i1=>ydP (yme Q) n i0 i1)
def ynm:LP:=fun id F H Q =>
 bif Nat.beq id 16774900 then ygH F H (fun i0 i1=>∃ n:Nat,ydP (yme Q) n i0 i1) else
 False
def yrC (e:List (Nat×EffF)):SE:=⟨(E e),lookS [],lookI [],ynm⟩
theorem yu6 (e:List (Nat×EffF)) (he:EG e):SEOk (yrC e):=yag trivial trivial he.ok
theorem yut (e:List (Nat×EffF)) ( Q n i0 i1):WC (E e) (callW (yrC e) 5) (ynm) ykt [(0,.v (.int .u64 i0)),(1,.v (.int .u64 i1))] [] (fun x F' H'=>match x with | .norm=>yld Q n F' H' | .exit i=>Q (.exit i) F' H' | .ret=>Q .ret F' H')=ydP (yme Q) (n+1) i0 i1:=by kernel_rfl
theorem yyV (e:List (Nat×EffF)) (_:EG e):LpOk (E e) (ynm) ykt:=(yaf (by kernel_rfl))
theorem yxq (e:List (Nat×EffF)) (he:EG e):∀ F H Q,ynm 16774900 F H Q→LoopT (E e) ykt F H Q:=by
 intro F H Q h
 have go:=LoopT.intro (yaH (yu6 e he) 5) (yyV e he) (yld Q) (by
   intro F H h
   unfold yld ygH at h
   split at h
   · exact h
   · exact h) (by
   intro n F H h
   unfold yld ygH at h
   split at h
   · exact (yut ..).mpr h
   · exact h.elim)
 have h:ygH F H _:=h
 unfold ygH at h
 split at h
 · obtain ⟨n,h⟩:=h;exact go n _ _ h
 · exact h.elim
theorem yEO (e:List (Nat×EffF)) ( p0 p1 K):WP (yrC e) 6 yGG [(.int .u64 p0),(.int .u64 p1)] K=yrB p0 p1 (fun r0=>K (.int .u64 r0)):=by kernel_rfl
theorem ykL (e:List (Nat×EffF)) (he:EG e):OkF (E e) yxp ydd:=by
 intro as K h
 unfold yxp yhZ at h
 split at h
 · exact WP_ok (yu6 e he) (ybk (l:=[(16774900,ykt)]) ⟨yxq e he,trivial⟩ (by kernel_rfl)) (by kernel_rfl) (by kernel_rfl) (fun _=>yab (by kernel_rfl) _) (he.num _ (by kernel_rfl)) ((yEO ..).mpr h)
 · exact h.elim
abbrev yfu:Type:=Int→Int→(Int→Prop)→Prop
def ynn (a0:yce) (a1:ydi) (p0 p1:Int) (K:Int→Prop):Prop :=
 (cbr (decide (p1<(1:Int)))
 (K (8:Int))
 (cbr (decide (p1>(1000000000000000000:Int)))
 (K (8:Int))
 (cbr (decide (p0<(-1000000000000000000:Int)))
 (K (8:Int))
 (cbr (decide (p0>(1000000000000000000:Int)))
 (K (8:Int))
 (a0 p0 (fun yi0 =>
 (a1 yi0 (IntKind.u64.wrap p1) (fun yi1 =>
 (cbr (yi1 !=(1:Int))
 (K (8:Int))
 (K (0:Int)))))))))))
def yfv (p0 p1:Int) (K:Int→Prop):Prop:=ynn ydh ycf p0 p1 K
def yjA (w:yfu) (as:List PV) (K:PV→Prop):Prop :=
 match as with
 | [(.agg [(.int .i64 p0),(.int .i64 p1)])]=>w p0 p1 (fun r0=>K (.int .i64 r0))
 | _=>False
def ysR (as:List PV) (K:PV→Prop):Prop:=yjA yfv as K
def yAL (_:yce) (_:ydi):LP:=fun _ _ _ _ =>
 False
def ysS (e:List (Nat×EffF)) (a0:yce) (a1:ydi):SE:=⟨(E e),lookS [(ybp,ygs a0),(ydd,yhZ a1)],lookI [],yAL a0 a1⟩
theorem yyW (e:List (Nat×EffF)) (he:EG e):SEOk (ysS e ydh ycf):=yag ⟨(ykK e he),(ykL e he),trivial⟩ trivial he.ok
theorem yAM (e:List (Nat×EffF)) (a0 a1 p0 p1 K):WP (ysS e a0 a1) 6 yCx [(.agg [(.int .i64 p0),(.int .i64 p1)])] K=ynn a0 a1 p0 p1 (fun r0=>K (.int .i64 r0)):=by kernel_rfl
theorem ysT (e:List (Nat×EffF)) (he:EG e):OkF (E e) ysR ydB:=by
 intro as K h
 unfold ysR yjA at h
 split at h
 · exact WP_ok (yyW e he) (yaf (by kernel_rfl)) (by kernel_rfl) (by kernel_rfl) (fun _=>yab (by kernel_rfl) _) (he.num _ (by kernel_rfl)) ((yAM ..).mpr h)
 · exact h.elim
abbrev yda:Type:=Int→Int→(Int→Int→Prop)→Prop
def yno (p0 p1:Int) (K:Int→Int→Prop):Prop :=
 (K (IntKind.u64.wrap ((IntKind.u64.wrap ((IntKind.u64.wrap ((Int.fdiv p0 4294967296)*(Int.fdiv p1 4294967296)))+(Int.fdiv (IntKind.u64.wrap ((Int.fdiv p0 4294967296)*(IntKind.u64.wrap (BitVec.ofInt IntKind.u64.bits p1&&&BitVec.ofInt IntKind.u64.bits (4294967295:Int)).toNat))) 4294967296)))+(Int.fdiv (IntKind.u64.wrap ((IntKind.u64.wrap ((IntKind.u64.wrap (BitVec.ofInt IntKind.u64.bits (IntKind.u64.wrap ((Int.fdiv p0 4294967296)*(IntKind.u64.wrap (BitVec.ofInt IntKind.u64.bits p1&&&BitVec.ofInt IntKind.u64.bits (4294967295:Int)).toNat)))&&&BitVec.ofInt IntKind.u64.bits (4294967295:Int)).toNat)+(IntKind.u64.wrap ((IntKind.u64.wrap (BitVec.ofInt IntKind.u64.bits p0&&&BitVec.ofInt IntKind.u64.bits (4294967295:Int)).toNat)*(Int.fdiv p1 4294967296)))))+(Int.fdiv (IntKind.u64.wrap ((IntKind.u64.wrap (BitVec.ofInt IntKind.u64.bits p0&&&BitVec.ofInt IntKind.u64.bits (4294967295:Int)).toNat)*(IntKind.u64.wrap (BitVec.ofInt IntKind.u64.bits p1&&&BitVec.ofInt IntKind.u64.bits (4294967295:Int)).toNat))) 4294967296))) 4294967296))) (IntKind.u64.wrap (BitVec.ofInt IntKind.u64.bits (IntKind.u64.wrap ((IntKind.u64.wrap ((IntKind.u64.wrap ((IntKind.u64.wrap (BitVec.ofInt IntKind.u64.bits (IntKind.u64.wrap ((Int.fdiv p0 4294967296)*(IntKind.u64.wrap (BitVec.ofInt IntKind.u64.bits p1&&&BitVec.ofInt IntKind.u64.bits (4294967295:Int)).toNat)))&&&BitVec.ofInt IntKind.u64.bits (4294967295:Int)).toNat)+(IntKind.u64.wrap ((IntKind.u64.wrap (BitVec.ofInt IntKind.u64.bits p0&&&BitVec.ofInt IntKind.u64.bits (4294967295:Int)).toNat)*(Int.fdiv p1 4294967296)))))+(Int.fdiv (IntKind.u64.wrap ((IntKind.u64.wrap (BitVec.ofInt IntKind.u64.bits p0&&&BitVec.ofInt IntKind.u64.bits (4294967295:Int)).toNat)*(IntKind.u64.wrap (BitVec.ofInt IntKind.u64.bits p1&&&BitVec.ofInt IntKind.u64.bits (4294967295:Int)).toNat))) 4294967296)))*(4294967296:Int)))|||BitVec.ofInt IntKind.u64.bits (IntKind.u64.wrap (BitVec.ofInt IntKind.u64.bits (IntKind.u64.wrap ((IntKind.u64.wrap (BitVec.ofInt IntKind.u64.bits p0&&&BitVec.ofInt IntKind.u64.bits (4294967295:Int)).toNat)*(IntKind.u64.wrap (BitVec.ofInt IntKind.u64.bits p1&&&BitVec.ofInt IntKind.u64.bits (4294967295:Int)).toNat)))&&&BitVec.ofInt IntKind.u64.bits (4294967295:Int)).toNat)).toNat))
def ycy (p0 p1:Int) (K:Int→Int→Prop):Prop:=yno p0 p1 K
def yhd (w:yda) (as:List PV) (K:PV→Prop):Prop :=
 match as with
 | [(.int .u64 p0),(.int .u64 p1)]=>w p0 p1 (fun r0 r1=>K (.agg [(.int .u64 r0),(.int .u64 r1)]))
 | _=>False
def ysU (as:List PV) (K:PV→Prop):Prop:=yhd ycy as K
def yAN:LP:=fun _ _ _ _ =>
 False
def ysV (e:List (Nat×EffF)):SE:=⟨(E e),lookS [],lookI [],yAN⟩
theorem yyX (e:List (Nat×EffF)) (he:EG e):SEOk (ysV e):=yag trivial trivial he.ok
theorem yAO (e:List (Nat×EffF)) ( p0 p1 K):WP (ysV e) 6 yCy [(.int .u64 p0),(.int .u64 p1)] K=yno p0 p1 (fun r0 r1=>K (.agg [(.int .u64 r0),(.int .u64 r1)])):=by kernel_rfl
theorem ynp (e:List (Nat×EffF)) (he:EG e):OkF (E e) ysU ybJ:=by
 intro as K h
 unfold ysU yhd at h
 split at h
 · exact WP_ok (yyX e he) (yaf (by kernel_rfl)) (by kernel_rfl) (by kernel_rfl) (fun _=>yab (by kernel_rfl) _) (he.num _ (by kernel_rfl)) ((yAO ..).mpr h)
 · exact h.elim
abbrev ygt:Type:=Int→Int→Int→Int→(Bool→Prop)→Prop
def yoV (p0 p1 p2 p3:Int) (K:Bool→Prop):Prop :=
 (cbr (decide (p0<p2))
 (K true)
 (cbr (p0 == p2)
 (K (decide (p1<p3)))
 (K false)))
def ygu (p0 p1 p2 p3:Int) (K:Bool→Prop):Prop:=yoV p0 p1 p2 p3 K
def yle (w:ygt) (as:List PV) (K:PV→Prop):Prop :=
 match as with
 | [(.agg [(.int .u64 p0),(.int .u64 p1)]),(.agg [(.int .u64 p2),(.int .u64 p3)])]=>w p0 p1 p2 p3 (fun r0=>K (.bool r0))
 | _=>False
def yu7 (as:List PV) (K:PV→Prop):Prop:=yle ygu as K
def yCP:LP:=fun _ _ _ _ =>
 False
def yu8 (e:List (Nat×EffF)):SE:=⟨(E e),lookS [],lookI [],yCP⟩
theorem yAP (e:List (Nat×EffF)) (he:EG e):SEOk (yu8 e):=yag trivial trivial he.ok
theorem yCQ (e:List (Nat×EffF)) ( p0 p1 p2 p3 K):WP (yu8 e) 6 yEt [(.agg [(.int .u64 p0),(.int .u64 p1)]),(.agg [(.int .u64 p2),(.int .u64 p3)])] K=yoV p0 p1 p2 p3 (fun r0=>K (.bool r0)):=by kernel_rfl
theorem yu9 (e:List (Nat×EffF)) (he:EG e):OkF (E e) yu7 yfn:=by
 intro as K h
 unfold yu7 yle at h
 split at h
 · exact WP_ok (yAP e he) (yaf (by kernel_rfl)) (by kernel_rfl) (by kernel_rfl) (fun _=>yab (by kernel_rfl) _) (he.num _ (by kernel_rfl)) ((yCQ ..).mpr h)
 · exact h.elim
abbrev yaY:Type:=Int→Int→Int→Int→(Bool→Prop)→Prop
def yoW (a0:yce) (a1:yda) (a2:ygt) (p0 p1 p2 p3:Int) (K:Bool→Prop):Prop :=
 (cbr ((decide (p0<(0:Int))) !=(decide (p2<(0:Int))))
 (K (decide (p0<(0:Int))))
 (a0 p0 (fun yi0 =>
 (a1 yi0 (IntKind.u64.wrap p3) (fun yi1 yi2 =>
 (a0 p2 (fun yi3 =>
 (a1 yi3 (IntKind.u64.wrap p1) (fun yi4 yi5 =>
 (cbr (decide (p0<(0:Int)))
 (a2 yi4 yi5 yi1 yi2 (fun yb6 =>
 (K yb6)))
 (a2 yi1 yi2 yi4 yi5 (fun yb7 =>
 (K yb7)))))))))))))
def yba (p0 p1 p2 p3:Int) (K:Bool→Prop):Prop:=yoW ydh ycy ygu p0 p1 p2 p3 K
def yeh (w:yaY) (as:List PV) (K:PV→Prop):Prop :=
 match as with
 | [(.agg [(.int .i64 p0),(.int .i64 p1)]),(.agg [(.int .i64 p2),(.int .i64 p3)])]=>w p0 p1 p2 p3 (fun r0=>K (.bool r0))
 | _=>False
def yva (as:List PV) (K:PV→Prop):Prop:=yeh yba as K
def yCR (_:yce) (_:yda) (_:ygt):LP:=fun _ _ _ _ =>
 False
def yvb (e:List (Nat×EffF)) (a0:yce) (a1:yda) (a2:ygt):SE:=⟨(E e),lookS [(ybp,ygs a0),(ybJ,yhd a1),(yfn,yle a2)],lookI [],yCR a0 a1 a2⟩
theorem yAQ (e:List (Nat×EffF)) (he:EG e):SEOk (yvb e ydh ycy ygu):=yag ⟨(ykK e he),(ynp e he),(yu9 e he),trivial⟩ trivial he.ok
theorem yCS (e:List (Nat×EffF)) (a0 a1 a2 p0 p1 p2 p3 K):WP (yvb e a0 a1 a2) 6 yEu [(.agg [(.int .i64 p0),(.int .i64 p1)]),(.agg [(.int .i64 p2),(.int .i64 p3)])] K=yoW a0 a1 a2 p0 p1 p2 p3 (fun r0=>K (.bool r0)):=by kernel_rfl
theorem ygI (e:List (Nat×EffF)) (he:EG e):OkF (E e) yva ybF:=by
 intro as K h
 unfold yva yeh at h
 split at h
 · exact WP_ok (yAQ e he) (yaf (by kernel_rfl)) (by kernel_rfl) (by kernel_rfl) (fun _=>yab (by kernel_rfl) _) (he.num _ (by kernel_rfl)) ((yCS ..).mpr h)
 · exact h.elim
abbrev ydQ:Type:=Int→Int→Int→Int→(Int→Prop)→Prop
def yoX (a0:yfu) (p0 p1 p2 p3:Int) (K:Int→Prop):Prop :=
 (a0 p0 p1 (fun yi0 =>
 (cbr (yi0 !=(0:Int))
 (a0 p0 p1 (fun yi1 =>
 (K yi1)))
 (a0 p2 p3 (fun yi2 =>
 (K yi2))))))
def yeB (p0 p1 p2 p3:Int) (K:Int→Prop):Prop:=yoX yfv p0 p1 p2 p3 K
def yiJ (w:ydQ) (as:List PV) (K:PV→Prop):Prop :=
 match as with
 | [(.agg [(.int .i64 p0),(.int .i64 p1)]),(.agg [(.int .i64 p2),(.int .i64 p3)])]=>w p0 p1 p2 p3 (fun r0=>K (.int .i64 r0))
 | _=>False
def yvc (as:List PV) (K:PV→Prop):Prop:=yiJ yeB as K
def yCT (_:yfu):LP:=fun _ _ _ _ =>
 False
def yvd (e:List (Nat×EffF)) (a0:yfu):SE:=⟨(E e),lookS [(ydB,yjA a0)],lookI [],yCT a0⟩
theorem yAR (e:List (Nat×EffF)) (he:EG e):SEOk (yvd e yfv):=yag ⟨(ysT e he),trivial⟩ trivial he.ok
theorem yCU (e:List (Nat×EffF)) (a0 p0 p1 p2 p3 K):WP (yvd e a0) 6 yEv [(.agg [(.int .i64 p0),(.int .i64 p1)]),(.agg [(.int .i64 p2),(.int .i64 p3)])] K=yoX a0 p0 p1 p2 p3 (fun r0=>K (.int .i64 r0)):=by kernel_rfl
theorem yoY (e:List (Nat×EffF)) (he:EG e):OkF (E e) yvc ycR:=by
 intro as K h
 unfold yvc yiJ at h
 split at h
 · exact WP_ok (yAR e he) (yaf (by kernel_rfl)) (by kernel_rfl) (by kernel_rfl) (fun _=>yab (by kernel_rfl) _) (he.num _ (by kernel_rfl)) ((yCU ..).mpr h)
 · exact h.elim
abbrev ypx:Type:=Int→Int→(Int→Int→Prop)→Prop
def yrD (p0 p1:Int) (K:Int→Int→Prop):Prop :=
 (K (IntKind.i64.wrap ((0:Int)-p0)) p1)
def ymM (p0 p1:Int) (K:Int→Int→Prop):Prop:=yrD p0 p1 K
def yrE (w:ypx) (as:List PV) (K:PV→Prop):Prop :=
 match as with
 | [(.agg [(.int .i64 p0),(.int .i64 p1)])]=>w p0 p1 (fun r0 r1=>K (.agg [(.int .i64 r0),(.int .i64 r1)]))
 | _=>False
def yxr (as:List PV) (K:PV→Prop):Prop:=yrE ymM as K
def yEP:LP:=fun _ _ _ _ =>
 False
def yxs (e:List (Nat×EffF)):SE:=⟨(E e),lookS [],lookI [],yEP⟩
theorem yCV (e:List (Nat×EffF)) (he:EG e):SEOk (yxs e):=yag trivial trivial he.ok
theorem yEQ (e:List (Nat×EffF)) ( p0 p1 K):WP (yxs e) 6 yGH [(.agg [(.int .i64 p0),(.int .i64 p1)])] K=yrD p0 p1 (fun r0 r1=>K (.agg [(.int .i64 r0),(.int .i64 r1)])):=by kernel_rfl
theorem yER (e:List (Nat×EffF)) (he:EG e):OkF (E e) yxr ymz:=by
 intro as K h
 unfold yxr yrE at h
 split at h
 · exact WP_ok (yCV e he) (yaf (by kernel_rfl)) (by kernel_rfl) (by kernel_rfl) (fun _=>yab (by kernel_rfl) _) (he.num _ (by kernel_rfl)) ((yEQ ..).mpr h)
 · exact h.elim
abbrev yeC:Type:=Int→Int→Int→Int→(Int→Int→Prop)→Prop
def yoZ (p0 p1 p2 p3:Int) (K:Int→Int→Prop):Prop :=
 (cbr (decide ((IntKind.u64.wrap (p1+p3))<p1))
 (K (IntKind.u64.wrap ((IntKind.u64.wrap (p0+p2))+(1:Int))) (IntKind.u64.wrap (p1+p3)))
 (K (IntKind.u64.wrap (p0+p2)) (IntKind.u64.wrap (p1+p3))))
def ycq (p0 p1 p2 p3:Int) (K:Int→Int→Prop):Prop:=yoZ p0 p1 p2 p3 K
def ylf (w:yeC) (as:List PV) (K:PV→Prop):Prop :=
 match as with
 | [(.agg [(.int .u64 p0),(.int .u64 p1)]),(.agg [(.int .u64 p2),(.int .u64 p3)])]=>w p0 p1 p2 p3 (fun r0 r1=>K (.agg [(.int .u64 r0),(.int .u64 r1)]))
 | _=>False
def yve (as:List PV) (K:PV→Prop):Prop:=ylf ycq as K
def yCW:LP:=fun _ _ _ _ =>
 False
def yvf (e:List (Nat×EffF)):SE:=⟨(E e),lookS [],lookI [],yCW⟩
theorem yAS (e:List (Nat×EffF)) (he:EG e):SEOk (yvf e):=yag trivial trivial he.ok
theorem yCX (e:List (Nat×EffF)) ( p0 p1 p2 p3 K):WP (yvf e) 6 yEw [(.agg [(.int .u64 p0),(.int .u64 p1)]),(.agg [(.int .u64 p2),(.int .u64 p3)])] K=yoZ p0 p1 p2 p3 (fun r0 r1=>K (.agg [(.int .u64 r0),(.int .u64 r1)])):=by kernel_rfl
theorem yvg (e:List (Nat×EffF)) (he:EG e):OkF (E e) yve ygm:=by
 intro as K h
 unfold yve ylf at h
 split at h
 · exact WP_ok (yAS e he) (yaf (by kernel_rfl)) (by kernel_rfl) (by kernel_rfl) (fun _=>yab (by kernel_rfl) _) (he.num _ (by kernel_rfl)) ((yCX ..).mpr h)
 · exact h.elim
abbrev ylg:Type:=Int→Int→Int→Int→(Int→Int→Prop)→Prop
def yjB (p0 p1 p2 p3:Int) (K:Int→Int→Prop):Prop :=
 (cbr (decide (p1<p3))
 (K (IntKind.u64.wrap ((IntKind.u64.wrap (p0-p2))-(1:Int))) (IntKind.u64.wrap (p1-p3)))
 (K (IntKind.u64.wrap (p0-p2)) (IntKind.u64.wrap (p1-p3))))
def yfw (p0 p1 p2 p3:Int) (K:Int→Int→Prop):Prop:=yjB p0 p1 p2 p3 K
def ynq (w:ylg) (as:List PV) (K:PV→Prop):Prop :=
 match as with
 | [(.agg [(.int .u64 p0),(.int .u64 p1)]),(.agg [(.int .u64 p2),(.int .u64 p3)])]=>w p0 p1 p2 p3 (fun r0 r1=>K (.agg [(.int .u64 r0),(.int .u64 r1)]))
 | _=>False
def ysW (as:List PV) (K:PV→Prop):Prop:=ynq yfw as K
def yAT:LP:=fun _ _ _ _ =>
 False
def ysX (e:List (Nat×EffF)):SE:=⟨(E e),lookS [],lookI [],yAT⟩
theorem yyY (e:List (Nat×EffF)) (he:EG e):SEOk (ysX e):=yag trivial trivial he.ok
theorem yAU (e:List (Nat×EffF)) ( p0 p1 p2 p3 K):WP (ysX e) 6 yCB [(.agg [(.int .u64 p0),(.int .u64 p1)]),(.agg [(.int .u64 p2),(.int .u64 p3)])] K=yjB p0 p1 p2 p3 (fun r0 r1=>K (.agg [(.int .u64 r0),(.int .u64 r1)])):=by kernel_rfl
theorem yAV (e:List (Nat×EffF)) (he:EG e):OkF (E e) ysW ygB:=by
 intro as K h
 unfold ysW ynq at h
 split at h
 · exact WP_ok (yyY e he) (yaf (by kernel_rfl)) (by kernel_rfl) (by kernel_rfl) (fun _=>yab (by kernel_rfl) _) (he.num _ (by kernel_rfl)) ((yAU ..).mpr h)
 · exact h.elim
abbrev ylh:Type:=Int→Int→Int→(Int→Int→Int→Prop)→Prop
def yaS (a0:yeC) (x0:Int→Int→Int→Int→Int→Int→Int→Int→Int→Bool→Prop):Nat→Int→Int→Int→Int→Int→Int→Int→Int→Int→Prop
 | 0,_,_,_,_,_,_,_,_,_=>False
 | n+1,i0,i1,i2,i3,i4,i5,i6,i7,i8 =>
 (cbr (decide (i8≥(0:Int)))
 (asr (!(decide ((IntKind.i64.wrap (BitVec.ofInt IntKind.i64.bits i8&&&BitVec.ofInt IntKind.i64.bits (63:Int)).toNat)<(0:Int))))
 (cbr (decide (i8≥(64:Int)))
 (asr (!(decide ((IntKind.i64.wrap (BitVec.ofInt IntKind.i64.bits i8&&&BitVec.ofInt IntKind.i64.bits (63:Int)).toNat)<(0:Int))))
 (a0 i5 i6 i5 i6 (fun yi0 yi1 =>
 (cbr (decide ((IntKind.u64.wrap (BitVec.ofInt IntKind.u64.bits (IntKind.u64.wrap (i7*(2:Int)))|||BitVec.ofInt IntKind.u64.bits (IntKind.u64.wrap (BitVec.ofInt IntKind.u64.bits (Int.fdiv i1 (2 ^ (min (IntKind.i64.wrap (BitVec.ofInt IntKind.i64.bits i8&&&BitVec.ofInt IntKind.i64.bits (63:Int)).toNat).toNat IntKind.u64.bits)))&&&BitVec.ofInt IntKind.u64.bits (1:Int)).toNat)).toNat)≥i0))
 (yaS a0 x0 n i0 i1 i2 i3 i4 yi0 (IntKind.u64.wrap (BitVec.ofInt IntKind.u64.bits yi1|||BitVec.ofInt IntKind.u64.bits (1:Int)).toNat) (IntKind.u64.wrap ((IntKind.u64.wrap (BitVec.ofInt IntKind.u64.bits (IntKind.u64.wrap (i7*(2:Int)))|||BitVec.ofInt IntKind.u64.bits (IntKind.u64.wrap (BitVec.ofInt IntKind.u64.bits (Int.fdiv i1 (2 ^ (min (IntKind.i64.wrap (BitVec.ofInt IntKind.i64.bits i8&&&BitVec.ofInt IntKind.i64.bits (63:Int)).toNat).toNat IntKind.u64.bits)))&&&BitVec.ofInt IntKind.u64.bits (1:Int)).toNat)).toNat)-i0)) (IntKind.i64.wrap (i8-(1:Int))))
 (yaS a0 x0 n i0 i1 i2 i3 i4 yi0 yi1 (IntKind.u64.wrap (BitVec.ofInt IntKind.u64.bits (IntKind.u64.wrap (i7*(2:Int)))|||BitVec.ofInt IntKind.u64.bits (IntKind.u64.wrap (BitVec.ofInt IntKind.u64.bits (Int.fdiv i1 (2 ^ (min (IntKind.i64.wrap (BitVec.ofInt IntKind.i64.bits i8&&&BitVec.ofInt IntKind.i64.bits (63:Int)).toNat).toNat IntKind.u64.bits)))&&&BitVec.ofInt IntKind.u64.bits (1:Int)).toNat)).toNat) (IntKind.i64.wrap (i8-(1:Int))))))))
 (a0 i5 i6 i5 i6 (fun yi2 yi3 =>
 (cbr (decide ((IntKind.u64.wrap (BitVec.ofInt IntKind.u64.bits (IntKind.u64.wrap (i7*(2:Int)))|||BitVec.ofInt IntKind.u64.bits (IntKind.u64.wrap (BitVec.ofInt IntKind.u64.bits (Int.fdiv i2 (2 ^ (min (IntKind.i64.wrap (BitVec.ofInt IntKind.i64.bits i8&&&BitVec.ofInt IntKind.i64.bits (63:Int)).toNat).toNat IntKind.u64.bits)))&&&BitVec.ofInt IntKind.u64.bits (1:Int)).toNat)).toNat)≥i0))
 (yaS a0 x0 n i0 i1 i2 i3 i4 yi2 (IntKind.u64.wrap (BitVec.ofInt IntKind.u64.bits yi3|||BitVec.ofInt IntKind.u64.bits (1:Int)).toNat) (IntKind.u64.wrap ((IntKind.u64.wrap (BitVec.ofInt IntKind.u64.bits (IntKind.u64.wrap (i7*(2:Int)))|||BitVec.ofInt IntKind.u64.bits (IntKind.u64.wrap (BitVec.ofInt IntKind.u64.bits (Int.fdiv i2 (2 ^ (min (IntKind.i64.wrap (BitVec.ofInt IntKind.i64.bits i8&&&BitVec.ofInt IntKind.i64.bits (63:Int)).toNat).toNat IntKind.u64.bits)))&&&BitVec.ofInt IntKind.u64.bits (1:Int)).toNat)).toNat)-i0)) (IntKind.i64.wrap (i8-(1:Int))))
 (yaS a0 x0 n i0 i1 i2 i3 i4 yi2 yi3 (IntKind.u64.wrap (BitVec.ofInt IntKind.u64.bits (IntKind.u64.wrap (i7*(2:Int)))|||BitVec.ofInt IntKind.u64.bits (IntKind.u64.wrap (BitVec.ofInt IntKind.u64.bits (Int.fdiv i2 (2 ^ (min (IntKind.i64.wrap (BitVec.ofInt IntKind.i64.bits i8&&&BitVec.ofInt IntKind.i64.bits (63:Int)).toNat).toNat IntKind.u64.bits)))&&&BitVec.ofInt IntKind.u64.bits (1:Int)).toNat)).toNat) (IntKind.i64.wrap (i8-(1:Int)))))))))
 (x0 i0 i1 i2 i3 i4 i5 i6 i7 i8 false))
def ynr (a0:yeC) (p0 p1 p2:Int) (K:Int→Int→Int→Prop):Prop :=
 (∃ n:Nat,yaS a0
 (fun _ _ _ _ _ yi9 yi10 yi11 _ _=>(K yi9 yi10 yi11))
 n p2 p0 p1 (0:Int) (0:Int) (0:Int) (0:Int) (0:Int) (127:Int))
def ydb (p0 p1 p2:Int) (K:Int→Int→Int→Prop):Prop:=ynr ycq p0 p1 p2 K
def yns (w:ylh) (as:List PV) (K:PV→Prop):Prop :=
 match as with
 | [(.agg [(.int .u64 p0),(.int .u64 p1)]),(.int .u64 p2)]=>w p0 p1 p2 (fun r0 r1 r2=>K (.tup [(.agg [(.int .u64 r0),(.int .u64 r1)]),(.int .u64 r2)]))
 | _=>False
def ysY (as:List PV) (K:PV→Prop):Prop:=yns ydb as K
def ye1 (F:Frm) (H:Hp) (A0:Int→Int→Int→Int→Int→Int→Int→Int→Int→Prop):Prop :=
 match F,H with
 | [(1,.v (.int .u64 i0)),(2,.box (.agg [(.int .u64 i1),(.int .u64 i2)])),(4,.box (.agg [(.int .u64 i3),(.int .u64 i4)])),(6,.box (.agg [(.int .u64 i5),(.int .u64 i6)])),(7,.v (.int .u64 i7)),(8,.v (.int .i64 i8))],[]=>(A0 i0 i1 i2 i3 i4 i5 i6 i7 i8)
 | _,_=>False
def yja (Q:Ex→Frm→Hp→Prop):Int→Int→Int→Int→Int→Int→Int→Int→Int→Bool→Prop:=(fun i0 i1 i2 i3 i4 i5 i6 i7 i8 b9=>Q (.exit 0) [(1,.v (.int .u64 i0)),(2,.box (.agg [(.int .u64 i1),(.int .u64 i2)])),(4,.box (.agg [(.int .u64 i3),(.int .u64 i4)])),(6,.box (.agg [(.int .u64 i5),(.int .u64 i6)])),(7,.v (.int .u64 i7)),(8,.v (.int .i64 i8)),(11,.v (.bool b9))] [])
def yio (a0:yeC) (Q:Ex→Frm→Hp→Prop) (n:Nat) (F:Frm) (H:Hp):Prop:=ye1 F H (fun i0 i1 i2 i3 i4 i5 i6 i7 i8=>yaS a0 (yja Q) n i0 i1 i2 i3 i4 i5 i6 i7 i8)
def yjC (a0:yeC):LP:=fun id F H Q =>
 bif Nat.beq id 22549700 then ye1 F H (fun i0 i1 i2 i3 i4 i5 i6 i7 i8=>∃ n:Nat,yaS a0 (yja Q) n i0 i1 i2 i3 i4 i5 i6 i7 i8) else
 False
def ynt (e:List (Nat×EffF)) (a0:yeC):SE:=⟨(E e),lookS [(ygm,ylf a0)],lookI [],yjC a0⟩
theorem yqL (e:List (Nat×EffF)) (he:EG e):SEOk (ynt e ycq):=yag ⟨(yvg e he),trivial⟩ trivial he.ok
theorem yrF (e:List (Nat×EffF)) (a0 Q n i0 i1 i2 i3 i4 i5 i6 i7 i8):WC (E e) (callW (ynt e a0) 5) (yjC a0) yku [(1,.v (.int .u64 i0)),(2,.box (.agg [(.int .u64 i1),(.int .u64 i2)])),(4,.box (.agg [(.int .u64 i3),(.int .u64 i4)])),(6,.box (.agg [(.int .u64 i5),(.int .u64 i6)])),(7,.v (.int .u64 i7)),(8,.v (.int .i64 i8))] [] (fun x F' H'=>match x with | .norm=>yio a0 Q n F' H' | .exit i=>Q (.exit i) F' H' | .ret=>Q .ret F' H')=yaS a0 (yja Q) (n+1) i0 i1 i2 i3 i4 i5 i6 i7 i8:=by kernel_rfl
theorem yvS (e:List (Nat×EffF)) (_:EG e):LpOk (E e) (yjC ycq) yku:=(yaf (by kernel_rfl))
theorem yuu (e:List (Nat×EffF)) (he:EG e):∀ F H Q,yjC ycq 22549700 F H Q→LoopT (E e) yku F H Q:=by
 intro F H Q h
 have go:=LoopT.intro (yaH (yqL e he) 5) (yvS e he) (yio ycq Q) (by
   intro F H h
   unfold yio ye1 at h
   split at h
   · exact h
   · exact h) (by
   intro n F H h
   unfold yio ye1 at h
   split at h
   · exact (yrF ..).mpr h
   · exact h.elim)
 have h:ye1 F H _:=h
 unfold ye1 at h
 split at h
 · obtain ⟨n,h⟩:=h;exact go n _ _ h
 · exact h.elim
theorem yAW (e:List (Nat×EffF)) (a0 p0 p1 p2 K):WP (ynt e a0) 6 yCC [(.agg [(.int .u64 p0),(.int .u64 p1)]),(.int .u64 p2)] K=ynr a0 p0 p1 p2 (fun r0 r1 r2=>K (.tup [(.agg [(.int .u64 r0),(.int .u64 r1)]),(.int .u64 r2)])):=by kernel_rfl
theorem ysZ (e:List (Nat×EffF)) (he:EG e):OkF (E e) ysY ygC:=by
 intro as K h
 unfold ysY yns at h
 split at h
 · exact WP_ok (yqL e he) (ybk (l:=[(22549700,yku)]) ⟨yuu e he,trivial⟩ (by kernel_rfl)) (by kernel_rfl) (by kernel_rfl) (fun _=>yab (by kernel_rfl) _) (he.num _ (by kernel_rfl)) ((yAW ..).mpr h)
 · exact h.elim
abbrev ydR:Type:=Bool→Int→Int→Int→Int→(Int→Int→Int→Prop)→Prop
def yo0 (p0:Bool) (p1 p2 p3 p4:Int) (K:Int→Int→Int→Prop):Prop :=
 (cbr (decide (p1>(0:Int)))
 (K (0:Int) (0:Int) (16:Int))
 (cbr (decide (p3>(0:Int)))
 (K (0:Int) (0:Int) (16:Int))
 (cbr (decide (p2>(1000000000000000000:Int)))
 (K (0:Int) (0:Int) (16:Int))
 (cbr (decide (p4>(1000000000000000000:Int)))
 (K (0:Int) (0:Int) (16:Int))
 (cbr p0
 (K (IntKind.i64.wrap ((0:Int)-(IntKind.i64.wrap p2))) (IntKind.i64.wrap p4) (0:Int))
 (K (IntKind.i64.wrap p2) (IntKind.i64.wrap p4) (0:Int)))))))
def ydS (p0:Bool) (p1 p2 p3 p4:Int) (K:Int→Int→Int→Prop):Prop:=yo0 p0 p1 p2 p3 p4 K
def yiK (w:ydR) (as:List PV) (K:PV→Prop):Prop :=
 match as with
 | [(.bool p0),(.agg [(.int .u64 p1),(.int .u64 p2)]),(.agg [(.int .u64 p3),(.int .u64 p4)])]=>w p0 p1 p2 p3 p4 (fun r0 r1 r2=>K (.tup [(.agg [(.int .i64 r0),(.int .i64 r1)]),(.int .i64 r2)]))
 | _=>False
def yvh (as:List PV) (K:PV→Prop):Prop:=yiK ydS as K
def yCY:LP:=fun _ _ _ _ =>
 False
def yvi (e:List (Nat×EffF)):SE:=⟨(E e),lookS [],lookI [],yCY⟩
theorem yAX (e:List (Nat×EffF)) (he:EG e):SEOk (yvi e):=yag trivial trivial he.ok
theorem yCZ (e:List (Nat×EffF)) ( p0 p1 p2 p3 p4 K):WP (yvi e) 6 yEx [(.bool p0),(.agg [(.int .u64 p1),(.int .u64 p2)]),(.agg [(.int .u64 p3),(.int .u64 p4)])] K=yo0 p0 p1 p2 p3 p4 (fun r0 r1 r2=>K (.tup [(.agg [(.int .i64 r0),(.int .i64 r1)]),(.int .i64 r2)])):=by kernel_rfl
theorem yo1 (e:List (Nat×EffF)) (he:EG e):OkF (E e) yvh yem:=by
 intro as K h
 unfold yvh yiK at h
 split at h
 · exact WP_ok (yAX e he) (yaf (by kernel_rfl)) (by kernel_rfl) (by kernel_rfl) (fun _=>yab (by kernel_rfl) _) (he.num _ (by kernel_rfl)) ((yCZ ..).mpr h)
 · exact h.elim
abbrev yfQ:Type:=Int→Int→Int→Int→(Int→Int→Int→Prop)→Prop
def yrG (a0:ydQ) (a1:ydi) (a2:yce) (a3:yda) (a4:yeC) (a5:ylg) (a6:ygt) (a7:ylh) (a8:ydR) (p0 p1 p2 p3:Int) (K:Int→Int→Int→Prop):Prop :=
 (a0 p0 p1 p2 p3 (fun yi0 =>
 (cbr (yi0 !=(0:Int))
 (a0 p0 p1 p2 p3 (fun yi1 =>
 (K (0:Int) (0:Int) yi1)))
 (a1 (IntKind.u64.wrap p1) (IntKind.u64.wrap p3) (fun yi2 =>
 (a2 p0 (fun yi3 =>
 (asr (!(decide (yi2=(0:Int))))
 (a3 yi3 (IntKind.u64.wrap (Int.tdiv (IntKind.u64.wrap p3) yi2)) (fun yi4 yi5 =>
 (a2 p2 (fun yi6 =>
 (asr (!(decide (yi2=(0:Int))))
 (a3 yi6 (IntKind.u64.wrap (Int.tdiv (IntKind.u64.wrap p1) yi2)) (fun yi7 yi8 =>
 (a4 yi4 yi5 yi7 yi8 (fun yi9 yi10 =>
 (cbr ((decide (p0<(0:Int))) !=(decide (p2<(0:Int))))
 (a5 yi4 yi5 yi7 yi8 (fun yi11 yi12 =>
 (a6 yi4 yi5 yi7 yi8 (fun yb13 =>
 (cbr yb13
 (a5 yi7 yi8 yi4 yi5 (fun yi14 yi15 =>
 (cbr ((yi14 ==(0:Int))&&((yi15 ==(0:Int))&&true))
 (K (0:Int) (1:Int) (0:Int))
 (a7 yi14 yi15 yi2 (fun _ _ yi18 =>
 (a1 yi18 yi2 (fun yi19 =>
 (a7 yi14 yi15 yi19 (fun yi20 yi21 _ =>
 (asr (!(decide (yi2=(0:Int))))
 (asr (!(decide (yi19=(0:Int))))
 (a3 (IntKind.u64.wrap (Int.tdiv (IntKind.u64.wrap p1) yi2)) (IntKind.u64.wrap (Int.tdiv (IntKind.u64.wrap p3) yi19)) (fun yi23 yi24 =>
 (a8 (decide (p2<(0:Int))) yi20 yi21 yi23 yi24 (fun yi25 yi26 yi27 =>
 (K yi25 yi26 yi27))))))))))))))))
 (cbr ((yi11 ==(0:Int))&&((yi12 ==(0:Int))&&true))
 (K (0:Int) (1:Int) (0:Int))
 (a7 yi11 yi12 yi2 (fun _ _ yi30 =>
 (a1 yi30 yi2 (fun yi31 =>
 (a7 yi11 yi12 yi31 (fun yi32 yi33 _ =>
 (asr (!(decide (yi2=(0:Int))))
 (asr (!(decide (yi31=(0:Int))))
 (a3 (IntKind.u64.wrap (Int.tdiv (IntKind.u64.wrap p1) yi2)) (IntKind.u64.wrap (Int.tdiv (IntKind.u64.wrap p3) yi31)) (fun yi35 yi36 =>
 (a8 (decide (p0<(0:Int))) yi32 yi33 yi35 yi36 (fun yi37 yi38 yi39 =>
 (K yi37 yi38 yi39)))))))))))))))))))
 (cbr ((yi9 ==(0:Int))&&((yi10 ==(0:Int))&&true))
 (K (0:Int) (1:Int) (0:Int))
 (a7 yi9 yi10 yi2 (fun _ _ yi42 =>
 (a1 yi42 yi2 (fun yi43 =>
 (a7 yi9 yi10 yi43 (fun yi44 yi45 _ =>
 (asr (!(decide (yi2=(0:Int))))
 (asr (!(decide (yi43=(0:Int))))
 (a3 (IntKind.u64.wrap (Int.tdiv (IntKind.u64.wrap p1) yi2)) (IntKind.u64.wrap (Int.tdiv (IntKind.u64.wrap p3) yi43)) (fun yi47 yi48 =>
 (a8 (decide (p0<(0:Int))) yi44 yi45 yi47 yi48 (fun yi49 yi50 yi51 =>
 (K yi49 yi50 yi51))))))))))))))))))))))))))))))))
def yec (p0 p1 p2 p3:Int) (K:Int→Int→Int→Prop):Prop:=yrG yeB ycf ydh ycy ycq yfw ygu ydb ydS p0 p1 p2 p3 K
def ynu (w:yfQ) (as:List PV) (K:PV→Prop):Prop :=
 match as with
 | [(.agg [(.int .i64 p0),(.int .i64 p1)]),(.agg [(.int .i64 p2),(.int .i64 p3)])]=>w p0 p1 p2 p3 (fun r0 r1 r2=>K (.tup [(.agg [(.int .i64 r0),(.int .i64 r1)]),(.int .i64 r2)]))
 | _=>False
def yxt (as:List PV) (K:PV→Prop):Prop:=ynu yec as K
def yES (_:ydQ) (_:ydi) (_:yce) (_:yda) (_:yeC) (_:ylg) (_:ygt) (_:ylh) (_:ydR):LP:=fun _ _ _ _ =>
 False
def yxu (e:List (Nat×EffF)) (a0:ydQ) (a1:ydi) (a2:yce) (a3:yda) (a4:yeC) (a5:ylg) (a6:ygt) (a7:ylh) (a8:ydR):SE:=⟨(E e),lookS [(ycR,yiJ a0),(ydd,yhZ a1),(ybp,ygs a2),(ybJ,yhd a3),(ygm,ylf a4),(ygB,ynq a5),(yfn,yle a6),(ygC,yns a7),(yem,yiK a8)],lookI [],yES a0 a1 a2 a3 a4 a5 a6 a7 a8⟩
theorem yC0 (e:List (Nat×EffF)) (he:EG e):SEOk (yxu e yeB ycf ydh ycy ycq yfw ygu ydb ydS):=yag ⟨(yoY e he),(ykL e he),(ykK e he),(ynp e he),(yvg e he),(yAV e he),(yu9 e he),(ysZ e he),(yo1 e he),trivial⟩ trivial he.ok
theorem yET (e:List (Nat×EffF)) (a0 a1 a2 a3 a4 a5 a6 a7 a8 p0 p1 p2 p3 K):WP (yxu e a0 a1 a2 a3 a4 a5 a6 a7 a8) 6 yGI [(.agg [(.int .i64 p0),(.int .i64 p1)]),(.agg [(.int .i64 p2),(.int .i64 p3)])] K=yrG a0 a1 a2 a3 a4 a5 a6 a7 a8 p0 p1 p2 p3 (fun r0 r1 r2=>K (.tup [(.agg [(.int .i64 r0),(.int .i64 r1)]),(.int .i64 r2)])):=by kernel_rfl
theorem yxv (e:List (Nat×EffF)) (he:EG e):OkF (E e) yxt yhw:=by
 intro as K h
 unfold yxt ynu at h
 split at h
 · exact WP_ok (yC0 e he) (yaf (by kernel_rfl)) (by kernel_rfl) (by kernel_rfl) (fun _=>yab (by kernel_rfl) _) (he.num _ (by kernel_rfl)) ((yET ..).mpr h)
 · exact h.elim
abbrev ypy:Type:=Int→Int→Int→Int→(Int→Int→Int→Prop)→Prop
def yrH (a0:ydQ) (a1:ypx) (a2:yfQ) (p0 p1 p2 p3:Int) (K:Int→Int→Int→Prop):Prop :=
 (a0 p0 p1 p2 p3 (fun yi0 =>
 (cbr (yi0 !=(0:Int))
 (a0 p0 p1 p2 p3 (fun yi1 =>
 (K (0:Int) (0:Int) yi1)))
 (a1 p2 p3 (fun yi2 yi3 =>
 (a2 p0 p1 yi2 yi3 (fun yi4 yi5 yi6 =>
 (K yi4 yi5 yi6))))))))
def ymN (p0 p1 p2 p3:Int) (K:Int→Int→Int→Prop):Prop:=yrH yeB ymM yec p0 p1 p2 p3 K
def yrI (w:ypy) (as:List PV) (K:PV→Prop):Prop :=
 match as with
 | [(.agg [(.int .i64 p0),(.int .i64 p1)]),(.agg [(.int .i64 p2),(.int .i64 p3)])]=>w p0 p1 p2 p3 (fun r0 r1 r2=>K (.tup [(.agg [(.int .i64 r0),(.int .i64 r1)]),(.int .i64 r2)]))
 | _=>False
def yxw (as:List PV) (K:PV→Prop):Prop:=yrI ymN as K
def yEU (_:ydQ) (_:ypx) (_:yfQ):LP:=fun _ _ _ _ =>
 False
def yxx (e:List (Nat×EffF)) (a0:ydQ) (a1:ypx) (a2:yfQ):SE:=⟨(E e),lookS [(ycR,yiJ a0),(ymz,yrE a1),(yhw,ynu a2)],lookI [],yEU a0 a1 a2⟩
theorem yC1 (e:List (Nat×EffF)) (he:EG e):SEOk (yxx e yeB ymM yec):=yag ⟨(yoY e he),(yER e he),(yxv e he),trivial⟩ trivial he.ok
theorem yEV (e:List (Nat×EffF)) (a0 a1 a2 p0 p1 p2 p3 K):WP (yxx e a0 a1 a2) 6 yGJ [(.agg [(.int .i64 p0),(.int .i64 p1)]),(.agg [(.int .i64 p2),(.int .i64 p3)])] K=yrH a0 a1 a2 p0 p1 p2 p3 (fun r0 r1 r2=>K (.tup [(.agg [(.int .i64 r0),(.int .i64 r1)]),(.int .i64 r2)])):=by kernel_rfl
theorem yEW (e:List (Nat×EffF)) (he:EG e):OkF (E e) yxw ymA:=by
 intro as K h
 unfold yxw yrI at h
 split at h
 · exact WP_ok (yC1 e he) (yaf (by kernel_rfl)) (by kernel_rfl) (by kernel_rfl) (fun _=>yab (by kernel_rfl) _) (he.num _ (by kernel_rfl)) ((yEV ..).mpr h)
 · exact h.elim
abbrev ypz:Type:=Int→Int→Int→Int→(Int→Int→Int→Prop)→Prop
def yrJ (a0:ydQ) (a1:yce) (a2:ydi) (a3:yda) (a4:ydR) (p0 p1 p2 p3:Int) (K:Int→Int→Int→Prop):Prop :=
 (a0 p0 p1 p2 p3 (fun yi0 =>
 (cbr (yi0 !=(0:Int))
 (a0 p0 p1 p2 p3 (fun yi1 =>
 (K (0:Int) (0:Int) yi1)))
 (a1 p0 (fun yi2 =>
 (a2 yi2 (IntKind.u64.wrap p3) (fun yi3 =>
 (a1 p2 (fun yi4 =>
 (a2 yi4 (IntKind.u64.wrap p1) (fun yi5 =>
 (cbr ((decide (p0<(0:Int))) !=(decide (p2<(0:Int))))
 (cbr (p0 !=(0:Int))
 (a1 p0 (fun yi6 =>
 (asr (!(decide (yi3=(0:Int))))
 (a1 p2 (fun yi7 =>
 (asr (!(decide (yi5=(0:Int))))
 (a3 (IntKind.u64.wrap (Int.tdiv yi6 yi3)) (IntKind.u64.wrap (Int.tdiv yi7 yi5)) (fun yi8 yi9 =>
 (asr (!(decide (yi5=(0:Int))))
 (asr (!(decide (yi3=(0:Int))))
 (a3 (IntKind.u64.wrap (Int.tdiv (IntKind.u64.wrap p1) yi5)) (IntKind.u64.wrap (Int.tdiv (IntKind.u64.wrap p3) yi3)) (fun yi10 yi11 =>
 (a4 (p2 !=(0:Int)) yi8 yi9 yi10 yi11 (fun yi12 yi13 yi14 =>
 (K yi12 yi13 yi14)))))))))))))))
 (a1 p0 (fun yi15 =>
 (asr (!(decide (yi3=(0:Int))))
 (a1 p2 (fun yi16 =>
 (asr (!(decide (yi5=(0:Int))))
 (a3 (IntKind.u64.wrap (Int.tdiv yi15 yi3)) (IntKind.u64.wrap (Int.tdiv yi16 yi5)) (fun yi17 yi18 =>
 (asr (!(decide (yi5=(0:Int))))
 (asr (!(decide (yi3=(0:Int))))
 (a3 (IntKind.u64.wrap (Int.tdiv (IntKind.u64.wrap p1) yi5)) (IntKind.u64.wrap (Int.tdiv (IntKind.u64.wrap p3) yi3)) (fun yi19 yi20 =>
 (a4 false yi17 yi18 yi19 yi20 (fun yi21 yi22 yi23 =>
 (K yi21 yi22 yi23))))))))))))))))
 (a1 p0 (fun yi24 =>
 (asr (!(decide (yi3=(0:Int))))
 (a1 p2 (fun yi25 =>
 (asr (!(decide (yi5=(0:Int))))
 (a3 (IntKind.u64.wrap (Int.tdiv yi24 yi3)) (IntKind.u64.wrap (Int.tdiv yi25 yi5)) (fun yi26 yi27 =>
 (asr (!(decide (yi5=(0:Int))))
 (asr (!(decide (yi3=(0:Int))))
 (a3 (IntKind.u64.wrap (Int.tdiv (IntKind.u64.wrap p1) yi5)) (IntKind.u64.wrap (Int.tdiv (IntKind.u64.wrap p3) yi3)) (fun yi28 yi29 =>
 (a4 false yi26 yi27 yi28 yi29 (fun yi30 yi31 yi32 =>
 (K yi30 yi31 yi32)))))))))))))))))))))))))))
def ymO (p0 p1 p2 p3:Int) (K:Int→Int→Int→Prop):Prop:=yrJ yeB ydh ycf ycy ydS p0 p1 p2 p3 K
def yrK (w:ypz) (as:List PV) (K:PV→Prop):Prop :=
 match as with
 | [(.agg [(.int .i64 p0),(.int .i64 p1)]),(.agg [(.int .i64 p2),(.int .i64 p3)])]=>w p0 p1 p2 p3 (fun r0 r1 r2=>K (.tup [(.agg [(.int .i64 r0),(.int .i64 r1)]),(.int .i64 r2)]))
 | _=>False
def yxy (as:List PV) (K:PV→Prop):Prop:=yrK ymO as K
def yEX (_:ydQ) (_:yce) (_:ydi) (_:yda) (_:ydR):LP:=fun _ _ _ _ =>
 False
def yxz (e:List (Nat×EffF)) (a0:ydQ) (a1:yce) (a2:ydi) (a3:yda) (a4:ydR):SE:=⟨(E e),lookS [(ycR,yiJ a0),(ybp,ygs a1),(ydd,yhZ a2),(ybJ,yhd a3),(yem,yiK a4)],lookI [],yEX a0 a1 a2 a3 a4⟩
theorem yC2 (e:List (Nat×EffF)) (he:EG e):SEOk (yxz e yeB ydh ycf ycy ydS):=yag ⟨(yoY e he),(ykK e he),(ykL e he),(ynp e he),(yo1 e he),trivial⟩ trivial he.ok
theorem yEY (e:List (Nat×EffF)) (a0 a1 a2 a3 a4 p0 p1 p2 p3 K):WP (yxz e a0 a1 a2 a3 a4) 6 yGK [(.agg [(.int .i64 p0),(.int .i64 p1)]),(.agg [(.int .i64 p2),(.int .i64 p3)])] K=yrJ a0 a1 a2 a3 a4 p0 p1 p2 p3 (fun r0 r1 r2=>K (.tup [(.agg [(.int .i64 r0),(.int .i64 r1)]),(.int .i64 r2)])):=by kernel_rfl
theorem yEZ (e:List (Nat×EffF)) (he:EG e):OkF (E e) yxy ymB:=by
 intro as K h
 unfold yxy yrK at h
 split at h
 · exact WP_ok (yC2 e he) (yaf (by kernel_rfl)) (by kernel_rfl) (by kernel_rfl) (fun _=>yab (by kernel_rfl) _) (he.num _ (by kernel_rfl)) ((yEY ..).mpr h)
 · exact h.elim
abbrev ynv:Type:=Int→Int→(Int→Int→Int→Prop)→Prop
def yo2 (a0:yce) (a1:ydi) (a2:ydR) (p0 p1:Int) (K:Int→Int→Int→Prop):Prop :=
 (cbr (p1 ==(0:Int))
 (K (0:Int) (0:Int) (18:Int))
 (a0 p0 (fun yi0 =>
 (a0 p1 (fun yi1 =>
 (a1 yi0 yi1 (fun yi2 =>
 (asr (!(decide (yi2=(0:Int))))
 (asr (!(decide (yi2=(0:Int))))
 (a2 ((decide (p0<(0:Int))) !=(decide (p1<(0:Int)))) (0:Int) (IntKind.u64.wrap (Int.tdiv yi0 yi2)) (0:Int) (IntKind.u64.wrap (Int.tdiv yi1 yi2)) (fun yi3 yi4 yi5 =>
 (K yi3 yi4 yi5))))))))))))
def ykM (p0 p1:Int) (K:Int→Int→Int→Prop):Prop:=yo2 ydh ycf ydS p0 p1 K
def yo3 (w:ynv) (as:List PV) (K:PV→Prop):Prop :=
 match as with
 | [(.int .i64 p0),(.int .i64 p1)]=>w p0 p1 (fun r0 r1 r2=>K (.tup [(.agg [(.int .i64 r0),(.int .i64 r1)]),(.int .i64 r2)]))
 | _=>False
def yvj (as:List PV) (K:PV→Prop):Prop:=yo3 ykM as K
def yC3 (_:yce) (_:ydi) (_:ydR):LP:=fun _ _ _ _ =>
 False
def yvk (e:List (Nat×EffF)) (a0:yce) (a1:ydi) (a2:ydR):SE:=⟨(E e),lookS [(ybp,ygs a0),(ydd,yhZ a1),(yem,yiK a2)],lookI [],yC3 a0 a1 a2⟩
theorem yAY (e:List (Nat×EffF)) (he:EG e):SEOk (yvk e ydh ycf ydS):=yag ⟨(ykK e he),(ykL e he),(yo1 e he),trivial⟩ trivial he.ok
theorem yC4 (e:List (Nat×EffF)) (a0 a1 a2 p0 p1 K):WP (yvk e a0 a1 a2) 6 yEy [(.int .i64 p0),(.int .i64 p1)] K=yo2 a0 a1 a2 p0 p1 (fun r0 r1 r2=>K (.tup [(.agg [(.int .i64 r0),(.int .i64 r1)]),(.int .i64 r2)])):=by kernel_rfl
theorem yC5 (e:List (Nat×EffF)) (he:EG e):OkF (E e) yvj yka:=by
 intro as K h
 unfold yvj yo3 at h
 split at h
 · exact WP_ok (yAY e he) (yaf (by kernel_rfl)) (by kernel_rfl) (by kernel_rfl) (fun _=>yab (by kernel_rfl) _) (he.num _ (by kernel_rfl)) ((yC4 ..).mpr h)
 · exact h.elim
end Go.Pf.Vc
namespace Go.Pf.Vc
open Go Go.Pf
set_option linter.unusedVariables false
theorem yC6 (p0:Int) (p1:Int) (r0:Int) (h:∀ K:Int→Prop,K r0→ycf p0 p1 K) (K:Int→Prop):ycf p0 p1 K=K r0 :=
 propext ⟨fun k=>detC (ykL [] yaT) (as:=[(.int .u64 p0),(.int .u64 p1)]) (x:=(.int .u64 r0)) (fun K' k'=>h (fun r0=>K' (.int .u64 r0)) k') (K:=fun x=>match x with | (.int .u64 r0)=>K r0 | _=>False) k,h K⟩
theorem yyZ (p0:Int) (p1:Int) (p2:Int) (r0:Int) (r1:Int) (r2:Int) (h:∀ K:Int→Int→Int→Prop,K r0 r1 r2→ydb p0 p1 p2 K) (K:Int→Int→Int→Prop):ydb p0 p1 p2 K=K r0 r1 r2 :=
 propext ⟨fun k=>detC (ysZ [] yaT) (as:=[(.agg [(.int .u64 p0),(.int .u64 p1)]),(.int .u64 p2)]) (x:=(.tup [(.agg [(.int .u64 r0),(.int .u64 r1)]),(.int .u64 r2)])) (fun K' k'=>h (fun r0 r1 r2=>K' (.tup [(.agg [(.int .u64 r0),(.int .u64 r1)]),(.int .u64 r2)])) k') (K:=fun x=>match x with | (.tup [(.agg [(.int .u64 r0),(.int .u64 r1)]),(.int .u64 r2)])=>K r0 r1 r2 | _=>False) k,h K⟩
end Go.Pf.Vc
namespace Go.Pf.Vc
open Go Go.Pf
set_option maxRecDepth 100000
abbrev ygJ:Type:=Int→List PV→List PV→(Bool→Prop)→Prop
def ynw (_:Int) (p1 p2:List PV) (K:Bool→Prop):Prop :=
 (cbr (decide ((((List.length p1):Nat):Int)>(60:Int)))
 (K true)
 (K (decide ((((List.length p2):Nat):Int)>(60:Int)))))
def ydH (p0:Int) (p1 p2:List PV) (K:Bool→Prop):Prop:=ynw p0 p1 p2 K
def ynx (w:ygJ) (as:List PV) (K:PV→Prop):Prop :=
 match as with
 | [(.agg [(.int .i64 p0),(.data p1),(.data p2)])]=>w p0 p1 p2 (fun r0=>K (.bool r0))
 | _=>False
def ys0 (as:List PV) (K:PV→Prop):Prop:=ynx ydH as K
def yAZ:LP:=fun _ _ _ _ =>
 False
def ys1 (e:List (Nat×EffF)):SE:=⟨(E e),lookS [],lookI [],yAZ⟩
theorem yy0 (e:List (Nat×EffF)) (he:EG e):SEOk (ys1 e):=yag trivial trivial he.ok
theorem yA0 (e:List (Nat×EffF)) ( p0 p1 p2 K):WP (ys1 e) 6 yCh [(.agg [(.int .i64 p0),(.data p1),(.data p2)])] K=ynw p0 p1 p2 (fun r0=>K (.bool r0)):=by kernel_rfl
theorem yA1 (e:List (Nat×EffF)) (he:EG e):OkF (E e) ys0 yix:=by
 intro as K h
 unfold ys0 ynx at h
 split at h
 · exact WP_ok (yy0 e he) (yaf (by kernel_rfl)) (by kernel_rfl) (by kernel_rfl) (fun _=>yab (by kernel_rfl) _) (he.num _ (by kernel_rfl)) ((yA0 ..).mpr h)
 · exact h.elim
abbrev ybT:Type:=Int→List PV→List PV→(Int→Prop)→Prop
def ybD (x0:Int→Prop) (x1:Int→List PV→List PV→Bool→Int→Bool→Prop):Nat→Int→List PV→List PV→Bool→Int→Prop
 | 0,_,_,_,_,_=>False
 | n+1,i0,l1,l2,b3,i4 =>
 (cbr (decide (i4<(((List.length l2):Nat):Int)))
 (asr (decide ((0:Int)≤(IntKind.i64.wrap (i4+(1:Int)))))
 (asr (decide ((IntKind.i64.wrap (i4+(1:Int)))<(((List.length l1):Nat):Int)))
 (asr (conf (.one (.i .i64)) (List.getD l1 ((IntKind.i64.wrap (i4+(1:Int))).toNat) .nils))
 (asr (decide ((0:Int)≤i4))
 (asr (decide (i4<(((List.length l1):Nat):Int)))
 (asr (conf (.one (.i .i64)) (List.getD l1 (i4.toNat) .nils))
 (cbr (decide ((intOfV (List.getD l1 ((IntKind.i64.wrap (i4+(1:Int))).toNat) .nils))≤(intOfV (List.getD l1 (i4.toNat) .nils))))
 (x0 (8:Int))
 (asr (decide ((0:Int)≤i4))
 (asr (decide (i4<(((List.length l2):Nat):Int)))
 (asr (conf (.one (.i .i64)) (List.getD l2 (i4.toNat) .nils))
 (cbr (decide ((intOfV (List.getD l2 (i4.toNat) .nils))<(0:Int)))
 (x0 (8:Int))
 (asr (decide ((0:Int)≤i4))
 (asr (decide (i4<(((List.length l2):Nat):Int)))
 (asr (conf (.one (.i .i64)) (List.getD l2 (i4.toNat) .nils))
 (cbr (decide ((intOfV (List.getD l2 (i4.toNat) .nils))>(12:Int)))
 (x0 (8:Int))
 (cbr b3
 (ybD x0 x1 n i0 l1 l2 true (IntKind.i64.wrap (i4+(1:Int))))
 (asr (decide ((0:Int)≤i4))
 (asr (decide (i4<(((List.length l2):Nat):Int)))
 (asr (conf (.one (.i .i64)) (List.getD l2 (i4.toNat) .nils))
 (ybD x0 x1 n i0 l1 l2 (decide ((intOfV (List.getD l2 (i4.toNat) .nils))>(0:Int))) (IntKind.i64.wrap (i4+(1:Int)))))))))))))))))))))))
 (x1 i0 l1 l2 b3 i4 false))
def yny (p0:Int) (p1 p2:List PV) (K:Int→Prop):Prop :=
 (cbr (decide (p0>(1000:Int)))
 (K (4:Int))
 (cbr (decide ((((List.length p1):Nat):Int)>(40:Int)))
 (K (4:Int))
 (cbr (decide (p0<(1:Int)))
 (K (8:Int))
 (cbr (decide ((((List.length p1):Nat):Int)<(2:Int)))
 (K (8:Int))
 (cbr ((((List.length p2):Nat):Int) !=(IntKind.i64.wrap ((((List.length p1):Nat):Int)-(1:Int))))
 (K (8:Int))
 (asr (decide ((0:Int)<(((List.length p1):Nat):Int)))
 (asr (conf (.one (.i .i64)) (List.getD p1 0 .nils))
 (cbr ((intOfV (List.getD p1 0 .nils)) !=(0:Int))
 (K (8:Int))
 (asr (decide ((0:Int)≤(IntKind.i64.wrap ((((List.length p1):Nat):Int)-(1:Int)))))
 (asr (decide ((IntKind.i64.wrap ((((List.length p1):Nat):Int)-(1:Int)))<(((List.length p1):Nat):Int)))
 (asr (conf (.one (.i .i64)) (List.getD p1 ((IntKind.i64.wrap ((((List.length p1):Nat):Int)-(1:Int))).toNat) .nils))
 (cbr ((intOfV (List.getD p1 ((IntKind.i64.wrap ((((List.length p1):Nat):Int)-(1:Int))).toNat) .nils)) != p0)
 (K (8:Int))
 (∃ n:Nat,ybD
 (fun yi0=>(K yi0))
 (fun _ _ _ yb4 _ _=>(cbr (!yb4)
 (K (8:Int))
 (K (0:Int))))
 n p0 p1 p2 false (0:Int))))))))))))))
def yaK (p0:Int) (p1 p2:List PV) (K:Int→Prop):Prop:=yny p0 p1 p2 K
def yjD (w:ybT) (as:List PV) (K:PV→Prop):Prop :=
 match as with
 | [(.agg [(.int .i64 p0),(.data p1),(.data p2)])]=>w p0 p1 p2 (fun r0=>K (.int .i64 r0))
 | _=>False
def ys2 (as:List PV) (K:PV→Prop):Prop:=yjD yaK as K
def ye2 (F:Frm) (H:Hp) (A0:Int→List PV→List PV→Bool→Int→Prop):Prop :=
 match F,H with
 | [(1,.box (.agg [(.int .i64 i0),(.data l1),(.data l2)])),(3,.v (.bool b3)),(4,.v (.int .i64 i4))],[]=>(A0 i0 l1 l2 b3 i4)
 | _,_=>False
def yjb (Q:Ex→Frm→Hp→Prop):Int→Prop:=(fun i0=>Q .ret [(2,.v (.int .i64 i0))] [])
def yjc (Q:Ex→Frm→Hp→Prop):Int→List PV→List PV→Bool→Int→Bool→Prop:=(fun i0 l1 l2 b3 i4 b5=>Q (.exit 0) [(1,.box (.agg [(.int .i64 i0),(.data l1),(.data l2)])),(3,.v (.bool b3)),(4,.v (.int .i64 i4)),(57,.v (.bool b5))] [])
def yip (Q:Ex→Frm→Hp→Prop) (n:Nat) (F:Frm) (H:Hp):Prop:=ye2 F H (fun i0 l1 l2 b3 i4=>ybD (yjb Q) (yjc Q) n i0 l1 l2 b3 i4)
def yjE:LP:=fun id F H Q =>
 bif Nat.beq id 94526800 then ye2 F H (fun i0 l1 l2 b3 i4=>∃ n:Nat,ybD (yjb Q) (yjc Q) n i0 l1 l2 b3 i4) else
 False
def ynz (e:List (Nat×EffF)):SE:=⟨(E e),lookS [],lookI [],yjE⟩
theorem yqM (e:List (Nat×EffF)) (he:EG e):SEOk (ynz e):=yag trivial trivial he.ok
theorem yrL (e:List (Nat×EffF)) ( Q n i0 l1 l2 b3 i4):WC (E e) (callW (ynz e) 5) (yjE) ykb [(1,.box (.agg [(.int .i64 i0),(.data l1),(.data l2)])),(3,.v (.bool b3)),(4,.v (.int .i64 i4))] [] (fun x F' H'=>match x with | .norm=>yip Q n F' H' | .exit i=>Q (.exit i) F' H' | .ret=>Q .ret F' H')=ybD (yjb Q) (yjc Q) (n+1) i0 l1 l2 b3 i4:=by kernel_rfl
theorem yvT (e:List (Nat×EffF)) (_:EG e):LpOk (E e) (yjE) ykb:=(yaf (by kernel_rfl))
theorem yuv (e:List (Nat×EffF)) (he:EG e):∀ F H Q,yjE 94526800 F H Q→LoopT (E e) ykb F H Q:=by
 intro F H Q h
 have go:=LoopT.intro (yaH (yqM e he) 5) (yvT e he) (yip Q) (by
   intro F H h
   unfold yip ye2 at h
   split at h
   · exact h
   · exact h) (by
   intro n F H h
   unfold yip ye2 at h
   split at h
   · exact (yrL ..).mpr h
   · exact h.elim)
 have h:ye2 F H _:=h
 unfold ye2 at h
 split at h
 · obtain ⟨n,h⟩:=h;exact go n _ _ h
 · exact h.elim
theorem yA2 (e:List (Nat×EffF)) ( p0 p1 p2 K):WP (ynz e) 6 yCi [(.agg [(.int .i64 p0),(.data p1),(.data p2)])] K=yny p0 p1 p2 (fun r0=>K (.int .i64 r0)):=by kernel_rfl
theorem ynA (e:List (Nat×EffF)) (he:EG e):OkF (E e) ys2 ydx:=by
 intro as K h
 unfold ys2 yjD at h
 split at h
 · exact WP_ok (yqM e he) (ybk (l:=[(94526800,ykb)]) ⟨yuv e he,trivial⟩ (by kernel_rfl)) (by kernel_rfl) (by kernel_rfl) (fun _=>yab (by kernel_rfl) _) (he.num _ (by kernel_rfl)) ((yA2 ..).mpr h)
 · exact h.elim
abbrev yjF:Type:=Int→List PV→List PV→(Bool→Prop)→Prop
def ybU (x0:Int→List PV→List PV→Int→Bool→Prop) (x1:Bool→Prop):Nat→Int→List PV→List PV→Int→Prop
 | 0,_,_,_,_=>False
 | n+1,i0,l1,l2,i3 =>
 (cbr (decide (i3<(((List.length l2):Nat):Int)))
 (asr (decide ((0:Int)≤i3))
 (asr (decide (i3<(((List.length l2):Nat):Int)))
 (lt (List.getD l2 (i3.toNat) .nils) (fun yr3 =>
 (asr (conf (.one (.i .i64)) yr3)
 (cbr ((intOfV yr3) ==(0:Int))
 (x1 false)
 (lt (IntKind.i64.wrap (i3+(1:Int))) (fun yi4 =>
 (ybU x0 x1 n i0 l1 l2 yi4)))))))))
 (x0 i0 l1 l2 i3 false))
def ymf (p0:Int) (p1 p2:List PV) (K:Bool→Prop):Prop :=
 (∃ n:Nat,ybU
 (fun _ _ _ _ _=>(K true))
 (fun yb16=>(K yb16))
 n p0 p1 p2 (0:Int))
def yc3 (p0:Int) (p1 p2:List PV) (K:Bool→Prop):Prop:=ymf p0 p1 p2 K
def ymg (w:yjF) (as:List PV) (K:PV→Prop):Prop :=
 match as with
 | [(.agg [(.int .i64 p0),(.data p1),(.data p2)])]=>w p0 p1 p2 (fun r0=>K (.bool r0))
 | _=>False
def yqN (as:List PV) (K:PV→Prop):Prop:=ymg yc3 as K
def yed (F:Frm) (H:Hp) (A0:Int→List PV→List PV→Int→Prop):Prop :=
 match F,H with
 | [(1,.box (.agg [(.int .i64 i0),(.data l1),(.data l2)])),(3,.v (.int .i64 i3))],[]=>(A0 i0 l1 l2 i3)
 | _,_=>False
def yh0 (Q:Ex→Frm→Hp→Prop):Int→List PV→List PV→Int→Bool→Prop:=(fun i0 l1 l2 i3 b4=>Q (.exit 0) [(1,.box (.agg [(.int .i64 i0),(.data l1),(.data l2)])),(3,.v (.int .i64 i3)),(8,.v (.bool b4))] [])
def yh1 (Q:Ex→Frm→Hp→Prop):Bool→Prop:=(fun b0=>Q .ret [(2,.v (.bool b0))] [])
def yhe (Q:Ex→Frm→Hp→Prop) (n:Nat) (F:Frm) (H:Hp):Prop:=yed F H (fun i0 l1 l2 i3=>ybU (yh0 Q) (yh1 Q) n i0 l1 l2 i3)
def yiq:LP:=fun id F H Q =>
 bif Nat.beq id 42667800 then yed F H (fun i0 l1 l2 i3=>∃ n:Nat,ybU (yh0 Q) (yh1 Q) n i0 l1 l2 i3) else
 False
def ymh (e:List (Nat×EffF)):SE:=⟨(E e),lookS [],lookI [],yiq⟩
theorem yo4 (e:List (Nat×EffF)) (he:EG e):SEOk (ymh e):=yag trivial trivial he.ok
theorem yqa (e:List (Nat×EffF)) ( Q n i0 l1 l2 i3):WC (E e) (callW (ymh e) 5) (yiq) ykc [(1,.box (.agg [(.int .i64 i0),(.data l1),(.data l2)])),(3,.v (.int .i64 i3))] [] (fun x F' H'=>match x with | .norm=>yhe Q n F' H' | .exit i=>Q (.exit i) F' H' | .ret=>Q .ret F' H')=ybU (yh0 Q) (yh1 Q) (n+1) i0 l1 l2 i3:=by kernel_rfl
theorem yuw (e:List (Nat×EffF)) (_:EG e):LpOk (E e) (yiq) ykc:=(yaf (by kernel_rfl))
theorem ys3 (e:List (Nat×EffF)) (he:EG e):∀ F H Q,yiq 42667800 F H Q→LoopT (E e) ykc F H Q:=by
 intro F H Q h
 have go:=LoopT.intro (yaH (yo4 e he) 5) (yuw e he) (yhe Q) (by
   intro F H h
   unfold yhe yed at h
   split at h
   · exact h
   · exact h) (by
   intro n F H h
   unfold yhe yed at h
   split at h
   · exact (yqa ..).mpr h
   · exact h.elim)
 have h:yed F H _:=h
 unfold yed at h
 split at h
 · obtain ⟨n,h⟩:=h;exact go n _ _ h
 · exact h.elim
theorem yy1 (e:List (Nat×EffF)) ( p0 p1 p2 K):WP (ymh e) 6 yAb [(.agg [(.int .i64 p0),(.data p1),(.data p2)])] K=ymf p0 p1 p2 (fun r0=>K (.bool r0)):=by kernel_rfl
theorem yqO (e:List (Nat×EffF)) (he:EG e):OkF (E e) yqN yfH:=by
 intro as K h
 unfold yqN ymg at h
 split at h
 · exact WP_ok (yo4 e he) (ybk (l:=[(42667800,ykc)]) ⟨ys3 e he,trivial⟩ (by kernel_rfl)) (by kernel_rfl) (by kernel_rfl) (fun _=>yab (by kernel_rfl) _) (he.num _ (by kernel_rfl)) ((yy1 ..).mpr h)
 · exact h.elim
abbrev ydI:Type:=Int→Int→Int→(Bool→Prop)→Prop
def ynB (a0:yfu) (a1:yge) (a2:yaY) (p0 p1 p2:Int) (K:Bool→Prop):Prop :=
 (a0 p1 p2 (fun yi0 =>
 (cbr (yi0 ==(0:Int))
 (cbr (decide (p1≥(0:Int)))
 (a1 p0 (fun yi1 yi2 =>
 (a2 yi1 yi2 p1 p2 (fun yb3 =>
 (K (!yb3))))))
 (K false))
 (K false))))
def ycz (p0 p1 p2:Int) (K:Bool→Prop):Prop:=ynB yfv yiI yba p0 p1 p2 K
def yjG (w:ydI) (as:List PV) (K:PV→Prop):Prop :=
 match as with
 | [(.int .i64 p0),(.agg [(.int .i64 p1),(.int .i64 p2)])]=>w p0 p1 p2 (fun r0=>K (.bool r0))
 | _=>False
def ys4 (as:List PV) (K:PV→Prop):Prop:=yjG ycz as K
def yA3 (_:yfu) (_:yge) (_:yaY):LP:=fun _ _ _ _ =>
 False
def ys5 (e:List (Nat×EffF)) (a0:yfu) (a1:yge) (a2:yaY):SE:=⟨(E e),lookS [(ydB,yjA a0),(yfl,ymL a1),(ybF,yeh a2)],lookI [],yA3 a0 a1 a2⟩
theorem yy2 (e:List (Nat×EffF)) (he:EG e):SEOk (ys5 e yfv yiI yba):=yag ⟨(ysT e he),(yus e he),(ygI e he),trivial⟩ trivial he.ok
theorem yA4 (e:List (Nat×EffF)) (a0 a1 a2 p0 p1 p2 K):WP (ys5 e a0 a1 a2) 6 yCz [(.int .i64 p0),(.agg [(.int .i64 p1),(.int .i64 p2)])] K=ynB a0 a1 a2 p0 p1 p2 (fun r0=>K (.bool r0)):=by kernel_rfl
theorem ys6 (e:List (Nat×EffF)) (he:EG e):OkF (E e) ys4 yc5:=by
 intro as K h
 unfold ys4 yjG at h
 split at h
 · exact WP_ok (yy2 e he) (yaf (by kernel_rfl)) (by kernel_rfl) (by kernel_rfl) (fun _=>yab (by kernel_rfl) _) (he.num _ (by kernel_rfl)) ((yA4 ..).mpr h)
 · exact h.elim
abbrev yli:Type:=Int→Int→Int→Int→(Int→Int→Prop)→Prop
def ynC (a0:yaY) (p0 p1 p2 p3:Int) (K:Int→Int→Prop):Prop :=
 (a0 p0 p1 p2 p3 (fun yb0 =>
 (cbr yb0
 (K p2 p3)
 (K p0 p1))))
def yiL (p0 p1 p2 p3:Int) (K:Int→Int→Prop):Prop:=ynC yba p0 p1 p2 p3 K
def ynD (w:yli) (as:List PV) (K:PV→Prop):Prop :=
 match as with
 | [(.agg [(.int .i64 p0),(.int .i64 p1)]),(.agg [(.int .i64 p2),(.int .i64 p3)])]=>w p0 p1 p2 p3 (fun r0 r1=>K (.agg [(.int .i64 r0),(.int .i64 r1)]))
 | _=>False
def ys7 (as:List PV) (K:PV→Prop):Prop:=ynD yiL as K
def yA5 (_:yaY):LP:=fun _ _ _ _ =>
 False
def ys8 (e:List (Nat×EffF)) (a0:yaY):SE:=⟨(E e),lookS [(ybF,yeh a0)],lookI [],yA5 a0⟩
theorem yy3 (e:List (Nat×EffF)) (he:EG e):SEOk (ys8 e yba):=yag ⟨(ygI e he),trivial⟩ trivial he.ok
theorem yA6 (e:List (Nat×EffF)) (a0 p0 p1 p2 p3 K):WP (ys8 e a0) 6 yCA [(.agg [(.int .i64 p0),(.int .i64 p1)]),(.agg [(.int .i64 p2),(.int .i64 p3)])] K=ynC a0 p0 p1 p2 p3 (fun r0 r1=>K (.agg [(.int .i64 r0),(.int .i64 r1)])):=by kernel_rfl
theorem yA7 (e:List (Nat×EffF)) (he:EG e):OkF (E e) ys7 yiA:=by
 intro as K h
 unfold ys7 ynD at h
 split at h
 · exact WP_ok (yy3 e he) (yaf (by kernel_rfl)) (by kernel_rfl) (by kernel_rfl) (fun _=>yab (by kernel_rfl) _) (he.num _ (by kernel_rfl)) ((yA6 ..).mpr h)
 · exact h.elim
abbrev yjH:Type:=Int→Int→Int→Int→(Int→Int→Prop)→Prop
def ymi (a0:yaY) (p0 p1 p2 p3:Int) (K:Int→Int→Prop):Prop :=
 (a0 p0 p1 p2 p3 (fun yb0 =>
 (cbr yb0
 (K p0 p1)
 (K p2 p3))))
def yhf (p0 p1 p2 p3:Int) (K:Int→Int→Prop):Prop:=ymi yba p0 p1 p2 p3 K
def ymj (w:yjH) (as:List PV) (K:PV→Prop):Prop :=
 match as with
 | [(.agg [(.int .i64 p0),(.int .i64 p1)]),(.agg [(.int .i64 p2),(.int .i64 p3)])]=>w p0 p1 p2 p3 (fun r0 r1=>K (.agg [(.int .i64 r0),(.int .i64 r1)]))
 | _=>False
def yqP (as:List PV) (K:PV→Prop):Prop:=ymj yhf as K
def yy4 (_:yaY):LP:=fun _ _ _ _ =>
 False
def yqQ (e:List (Nat×EffF)) (a0:yaY):SE:=⟨(E e),lookS [(ybF,yeh a0)],lookI [],yy4 a0⟩
theorem yxA (e:List (Nat×EffF)) (he:EG e):SEOk (yqQ e yba):=yag ⟨(ygI e he),trivial⟩ trivial he.ok
theorem yy5 (e:List (Nat×EffF)) (a0 p0 p1 p2 p3 K):WP (yqQ e a0) 6 yAq [(.agg [(.int .i64 p0),(.int .i64 p1)]),(.agg [(.int .i64 p2),(.int .i64 p3)])] K=ymi a0 p0 p1 p2 p3 (fun r0 r1=>K (.agg [(.int .i64 r0),(.int .i64 r1)])):=by kernel_rfl
theorem yy6 (e:List (Nat×EffF)) (he:EG e):OkF (E e) yqP ygS:=by
 intro as K h
 unfold yqP ymj at h
 split at h
 · exact WP_ok (yxA e he) (yaf (by kernel_rfl)) (by kernel_rfl) (by kernel_rfl) (fun _=>yab (by kernel_rfl) _) (he.num _ (by kernel_rfl)) ((yy5 ..).mpr h)
 · exact h.elim
abbrev ygK:Type:=Int→List PV→List PV→Int→Int→Int→Int→Int→(Int→Int→Int→Prop)→Prop
def ynE (a0:yge) (a1:yli) (a2:yjH) (a3:yaY) (a4:ypy) (a5:ypz) (_:Int) (p1 p2:List PV) (p3 p4 p5 p6 p7:Int) (K:Int→Int→Int→Prop):Prop :=
 (asr (decide ((0:Int)≤p3))
 (asr (decide (p3<(((List.length p1):Nat):Int)))
 (asr (conf (.one (.i .i64)) (List.getD p1 (p3.toNat) .nils))
 (a0 (intOfV (List.getD p1 (p3.toNat) .nils)) (fun yi0 yi1 =>
 (a1 p4 p5 yi0 yi1 (fun yi2 yi3 =>
 (asr (decide ((0:Int)≤(IntKind.i64.wrap (p3+(1:Int)))))
 (asr (decide ((IntKind.i64.wrap (p3+(1:Int)))<(((List.length p1):Nat):Int)))
 (asr (conf (.one (.i .i64)) (List.getD p1 ((IntKind.i64.wrap (p3+(1:Int))).toNat) .nils))
 (a0 (intOfV (List.getD p1 ((IntKind.i64.wrap (p3+(1:Int))).toNat) .nils)) (fun yi4 yi5 =>
 (a2 p6 p7 yi4 yi5 (fun yi6 yi7 =>
 (a3 yi2 yi3 yi6 yi7 (fun yb8 =>
 (cbr (!yb8)
 (K (0:Int) (1:Int) (0:Int))
 (asr (decide ((0:Int)≤p3))
 (asr (decide (p3<(((List.length p2):Nat):Int)))
 (asr (conf (.one (.i .i64)) (List.getD p2 (p3.toNat) .nils))
 (cbr ((intOfV (List.getD p2 (p3.toNat) .nils)) ==(0:Int))
 (K (0:Int) (1:Int) (0:Int))
 (a4 yi6 yi7 yi2 yi3 (fun yi9 yi10 yi11 =>
 (cbr (yi11 !=(0:Int))
 (K (0:Int) (0:Int) yi11)
 (asr (decide ((0:Int)≤p3))
 (asr (decide (p3<(((List.length p2):Nat):Int)))
 (asr (conf (.one (.i .i64)) (List.getD p2 (p3.toNat) .nils))
 (a0 (intOfV (List.getD p2 (p3.toNat) .nils)) (fun yi12 yi13 =>
 (a5 yi9 yi10 yi12 yi13 (fun yi14 yi15 yi16 =>
 (K yi14 yi15 yi16))))))))))))))))))))))))))))))))
def ydJ (p0:Int) (p1 p2:List PV) (p3 p4 p5 p6 p7:Int) (K:Int→Int→Int→Prop):Prop:=ynE yiI yiL yhf yba ymN ymO p0 p1 p2 p3 p4 p5 p6 p7 K
def ynF (w:ygK) (as:List PV) (K:PV→Prop):Prop :=
 match as with
 | [(.agg [(.int .i64 p0),(.data p1),(.data p2)]),(.int .i64 p3),(.agg [(.int .i64 p4),(.int .i64 p5)]),(.agg [(.int .i64 p6),(.int .i64 p7)])]=>w p0 p1 p2 p3 p4 p5 p6 p7 (fun r0 r1 r2=>K (.tup [(.agg [(.int .i64 r0),(.int .i64 r1)]),(.int .i64 r2)]))
 | _=>False
def ys9 (as:List PV) (K:PV→Prop):Prop:=ynF ydJ as K
def yA8 (_:yge) (_:yli) (_:yjH) (_:yaY) (_:ypy) (_:ypz):LP:=fun _ _ _ _ =>
 False
def yta (e:List (Nat×EffF)) (a0:yge) (a1:yli) (a2:yjH) (a3:yaY) (a4:ypy) (a5:ypz):SE:=⟨(E e),lookS [(yfl,ymL a0),(yiA,ynD a1),(ygS,ymj a2),(ybF,yeh a3),(ymA,yrI a4),(ymB,yrK a5)],lookI [],yA8 a0 a1 a2 a3 a4 a5⟩
theorem yy7 (e:List (Nat×EffF)) (he:EG e):SEOk (yta e yiI yiL yhf yba ymN ymO):=yag ⟨(yus e he),(yA7 e he),(yy6 e he),(ygI e he),(yEW e he),(yEZ e he),trivial⟩ trivial he.ok
theorem yA9 (e:List (Nat×EffF)) (a0 a1 a2 a3 a4 a5 p0 p1 p2 p3 p4 p5 p6 p7 K):WP (yta e a0 a1 a2 a3 a4 a5) 6 yCD [(.agg [(.int .i64 p0),(.data p1),(.data p2)]),(.int .i64 p3),(.agg [(.int .i64 p4),(.int .i64 p5)]),(.agg [(.int .i64 p6),(.int .i64 p7)])] K=ynE a0 a1 a2 a3 a4 a5 p0 p1 p2 p3 p4 p5 p6 p7 (fun r0 r1 r2=>K (.tup [(.agg [(.int .i64 r0),(.int .i64 r1)]),(.int .i64 r2)])):=by kernel_rfl
theorem yBa (e:List (Nat×EffF)) (he:EG e):OkF (E e) ys9 yiB:=by
 intro as K h
 unfold ys9 ynF at h
 split at h
 · exact WP_ok (yy7 e he) (yaf (by kernel_rfl)) (by kernel_rfl) (by kernel_rfl) (fun _=>yab (by kernel_rfl) _) (he.num _ (by kernel_rfl)) ((yA9 ..).mpr h)
 · exact h.elim
abbrev ylj:Type:=Int→List PV→List PV→Int→Int→Int→Int→(Int→Int→Int→Prop)→Prop
def yck (a0:ybT) (a1:ydI) (a2:yaY) (a3:ygK) (a4:yfQ) (x0:Int→Int→Int→Prop) (x1:Int→List PV→List PV→Int→Int→Int→Int→Int→Int→Int→Int→Int→Bool→Prop):Nat→Int→List PV→List PV→Int→Int→Int→Int→Int→Int→Int→Int→Int→Prop
 | 0,_,_,_,_,_,_,_,_,_,_,_,_=>False
 | n+1,i0,l1,l2,i3,i4,i5,i6,i7,i8,i9,i10,i11 =>
 (cbr (decide (i11<(((List.length l2):Nat):Int)))
 (a3 i0 l1 l2 i11 i3 i4 i5 i6 (fun yi5 yi6 yi7 =>
 (cbr (yi7 !=(0:Int))
 (x0 (0:Int) (0:Int) yi7)
 (a4 i9 i10 yi5 yi6 (fun yi8 yi9 yi10 =>
 (cbr (yi10 !=(0:Int))
 (x0 (0:Int) (0:Int) yi10)
 (yck a0 a1 a2 a3 a4 x0 x1 n i0 l1 l2 i3 i4 i5 i6 i7 i8 yi8 yi9 (IntKind.i64.wrap (i11+(1:Int))))))))))
 (x1 i0 l1 l2 i3 i4 i5 i6 i7 i8 i9 i10 i11 false))
def ynG (a0:ybT) (a1:ydI) (a2:yaY) (a3:ygK) (a4:yfQ) (p0:Int) (p1 p2:List PV) (p3 p4 p5 p6:Int) (K:Int→Int→Int→Prop):Prop :=
 (a0 p0 p1 p2 (fun yi0 =>
 (cbr (yi0 !=(0:Int))
 (a0 p0 p1 p2 (fun yi1 =>
 (K (0:Int) (0:Int) yi1)))
 (a1 p0 p3 p4 (fun yb2 =>
 (cbr (!yb2)
 (K (0:Int) (0:Int) (2:Int))
 (a1 p0 p5 p6 (fun yb3 =>
 (cbr (!yb3)
 (K (0:Int) (0:Int) (2:Int))
 (a2 p5 p6 p3 p4 (fun yb4 =>
 (cbr yb4
 (K (0:Int) (0:Int) (2:Int))
 (∃ n:Nat,yck a0 a1 a2 a3 a4
 (fun yi11 yi12 yi13=>(K yi11 yi12 yi13))
 (fun _ _ _ _ _ _ _ _ _ yi23 yi24 _ _=>(K yi23 yi24 (0:Int)))
 n p0 p1 p2 p3 p4 p5 p6 (0:Int) (0:Int) (0:Int) (1:Int) (0:Int))))))))))))))
def yfx (p0:Int) (p1 p2:List PV) (p3 p4 p5 p6:Int) (K:Int→Int→Int→Prop):Prop:=ynG yaK ycz yba ydJ yec p0 p1 p2 p3 p4 p5 p6 K
def ynH (w:ylj) (as:List PV) (K:PV→Prop):Prop :=
 match as with
 | [(.agg [(.int .i64 p0),(.data p1),(.data p2)]),(.agg [(.int .i64 p3),(.int .i64 p4)]),(.agg [(.int .i64 p5),(.int .i64 p6)])]=>w p0 p1 p2 p3 p4 p5 p6 (fun r0 r1 r2=>K (.tup [(.agg [(.int .i64 r0),(.int .i64 r1)]),(.int .i64 r2)]))
 | _=>False
def ytb (as:List PV) (K:PV→Prop):Prop:=ynH yfx as K
def ye3 (F:Frm) (H:Hp) (A0:Int→List PV→List PV→Int→Int→Int→Int→Int→Int→Int→Int→Int→Prop):Prop :=
 match F,H with
 | [(3,.box (.agg [(.int .i64 i0),(.data l1),(.data l2)])),(4,.box (.agg [(.int .i64 i3),(.int .i64 i4)])),(5,.box (.agg [(.int .i64 i5),(.int .i64 i6)])),(6,.box (.agg [(.int .i64 i7),(.int .i64 i8)])),(8,.box (.agg [(.int .i64 i9),(.int .i64 i10)])),(9,.v (.int .i64 i11))],[]=>(A0 i0 l1 l2 i3 i4 i5 i6 i7 i8 i9 i10 i11)
 | _,_=>False
def yjd (Q:Ex→Frm→Hp→Prop):Int→Int→Int→Prop:=(fun i0 i1 i2=>Q .ret [(6,.box (.agg [(.int .i64 i0),(.int .i64 i1)])),(7,.v (.int .i64 i2))] [])
def yje (Q:Ex→Frm→Hp→Prop):Int→List PV→List PV→Int→Int→Int→Int→Int→Int→Int→Int→Int→Bool→Prop:=(fun i0 l1 l2 i3 i4 i5 i6 i7 i8 i9 i10 i11 b12=>Q (.exit 0) [(3,.box (.agg [(.int .i64 i0),(.data l1),(.data l2)])),(4,.box (.agg [(.int .i64 i3),(.int .i64 i4)])),(5,.box (.agg [(.int .i64 i5),(.int .i64 i6)])),(6,.box (.agg [(.int .i64 i7),(.int .i64 i8)])),(8,.box (.agg [(.int .i64 i9),(.int .i64 i10)])),(9,.v (.int .i64 i11)),(41,.v (.bool b12))] [])
def yir (a0:ybT) (a1:ydI) (a2:yaY) (a3:ygK) (a4:yfQ) (Q:Ex→Frm→Hp→Prop) (n:Nat) (F:Frm) (H:Hp):Prop:=ye3 F H (fun i0 l1 l2 i3 i4 i5 i6 i7 i8 i9 i10 i11=>yck a0 a1 a2 a3 a4 (yjd Q) (yje Q) n i0 l1 l2 i3 i4 i5 i6 i7 i8 i9 i10 i11)
def yjI (a0:ybT) (a1:ydI) (a2:yaY) (a3:ygK) (a4:yfQ):LP:=fun id F H Q =>
 bif Nat.beq id 92446900 then ye3 F H (fun i0 l1 l2 i3 i4 i5 i6 i7 i8 i9 i10 i11=>∃ n:Nat,yck a0 a1 a2 a3 a4 (yjd Q) (yje Q) n i0 l1 l2 i3 i4 i5 i6 i7 i8 i9 i10 i11) else
 False
def ynI (e:List (Nat×EffF)) (a0:ybT) (a1:ydI) (a2:yaY) (a3:ygK) (a4:yfQ):SE:=⟨(E e),lookS [(ydx,yjD a0),(yc5,yjG a1),(ybF,yeh a2),(yiB,ynF a3),(yhw,ynu a4)],lookI [],yjI a0 a1 a2 a3 a4⟩
theorem yqR (e:List (Nat×EffF)) (he:EG e):SEOk (ynI e yaK ycz yba ydJ yec):=yag ⟨(ynA e he),(ys6 e he),(ygI e he),(yBa e he),(yxv e he),trivial⟩ trivial he.ok
theorem yrM (e:List (Nat×EffF)) (a0 a1 a2 a3 a4 Q n i0 l1 l2 i3 i4 i5 i6 i7 i8 i9 i10 i11):WC (E e) (callW (ynI e a0 a1 a2 a3 a4) 5) (yjI a0 a1 a2 a3 a4) ykv [(3,.box (.agg [(.int .i64 i0),(.data l1),(.data l2)])),(4,.box (.agg [(.int .i64 i3),(.int .i64 i4)])),(5,.box (.agg [(.int .i64 i5),(.int .i64 i6)])),(6,.box (.agg [(.int .i64 i7),(.int .i64 i8)])),(8,.box (.agg [(.int .i64 i9),(.int .i64 i10)])),(9,.v (.int .i64 i11))] [] (fun x F' H'=>match x with | .norm=>yir a0 a1 a2 a3 a4 Q n F' H' | .exit i=>Q (.exit i) F' H' | .ret=>Q .ret F' H')=yck a0 a1 a2 a3 a4 (yjd Q) (yje Q) (n+1) i0 l1 l2 i3 i4 i5 i6 i7 i8 i9 i10 i11:=by kernel_rfl
theorem yvU (e:List (Nat×EffF)) (_:EG e):LpOk (E e) (yjI yaK ycz yba ydJ yec) ykv:=(yaf (by kernel_rfl))
theorem yux (e:List (Nat×EffF)) (he:EG e):∀ F H Q,yjI yaK ycz yba ydJ yec 92446900 F H Q→LoopT (E e) ykv F H Q:=by
 intro F H Q h
 have go:=LoopT.intro (yaH (yqR e he) 5) (yvU e he) (yir yaK ycz yba ydJ yec Q) (by
   intro F H h
   unfold yir ye3 at h
   split at h
   · exact h
   · exact h) (by
   intro n F H h
   unfold yir ye3 at h
   split at h
   · exact (yrM ..).mpr h
   · exact h.elim)
 have h:ye3 F H _:=h
 unfold ye3 at h
 split at h
 · obtain ⟨n,h⟩:=h;exact go n _ _ h
 · exact h.elim
theorem yBb (e:List (Nat×EffF)) (a0 a1 a2 a3 a4 p0 p1 p2 p3 p4 p5 p6 K):WP (ynI e a0 a1 a2 a3 a4) 6 yCE [(.agg [(.int .i64 p0),(.data p1),(.data p2)]),(.agg [(.int .i64 p3),(.int .i64 p4)]),(.agg [(.int .i64 p5),(.int .i64 p6)])] K=ynG a0 a1 a2 a3 a4 p0 p1 p2 p3 p4 p5 p6 (fun r0 r1 r2=>K (.tup [(.agg [(.int .i64 r0),(.int .i64 r1)]),(.int .i64 r2)])):=by kernel_rfl
theorem ytc (e:List (Nat×EffF)) (he:EG e):OkF (E e) ytb ygD:=by
 intro as K h
 unfold ytb ynH at h
 split at h
 · exact WP_ok (yqR e he) (ybk (l:=[(92446900,ykv)]) ⟨yux e he,trivial⟩ (by kernel_rfl)) (by kernel_rfl) (by kernel_rfl) (fun _=>yab (by kernel_rfl) _) (he.num _ (by kernel_rfl)) ((yBb ..).mpr h)
 · exact h.elim
abbrev ylk:Type:=Int→List PV→List PV→(Int→Prop)→Prop
def ycl (x0:Int→List PV→List PV→Int→Int→Bool→Prop):Nat→Int→List PV→List PV→Int→Int→Prop
 | 0,_,_,_,_,_=>False
 | n+1,i0,l1,l2,i3,i4 =>
 (cbr (decide (i4<(((List.length l2):Nat):Int)))
 (asr (decide ((0:Int)≤i4))
 (asr (decide (i4<(((List.length l2):Nat):Int)))
 (asr (conf (.one (.i .i64)) (List.getD l2 (i4.toNat) .nils))
 (asr (decide ((0:Int)≤(IntKind.i64.wrap (i4+(1:Int)))))
 (asr (decide ((IntKind.i64.wrap (i4+(1:Int)))<(((List.length l1):Nat):Int)))
 (asr (conf (.one (.i .i64)) (List.getD l1 ((IntKind.i64.wrap (i4+(1:Int))).toNat) .nils))
 (asr (decide ((0:Int)≤i4))
 (asr (decide (i4<(((List.length l1):Nat):Int)))
 (asr (conf (.one (.i .i64)) (List.getD l1 (i4.toNat) .nils))
 (ycl x0 n i0 l1 l2 (IntKind.i64.wrap (i3+(IntKind.i64.wrap ((intOfV (List.getD l2 (i4.toNat) .nils))*(IntKind.i64.wrap ((intOfV (List.getD l1 ((IntKind.i64.wrap (i4+(1:Int))).toNat) .nils))-(intOfV (List.getD l1 (i4.toNat) .nils)))))))) (IntKind.i64.wrap (i4+(1:Int)))))))))))))
 (x0 i0 l1 l2 i3 i4 false))
def ynJ (p0:Int) (p1 p2:List PV) (K:Int→Prop):Prop :=
 (∃ n:Nat,ycl
 (fun _ _ _ yi3 _ _=>(K yi3))
 n p0 p1 p2 (0:Int) (0:Int))
def yfy (p0:Int) (p1 p2:List PV) (K:Int→Prop):Prop:=ynJ p0 p1 p2 K
def ynK (w:ylk) (as:List PV) (K:PV→Prop):Prop :=
 match as with
 | [(.agg [(.int .i64 p0),(.data p1),(.data p2)])]=>w p0 p1 p2 (fun r0=>K (.int .i64 r0))
 | _=>False
def ytd (as:List PV) (K:PV→Prop):Prop:=ynK yfy as K
def ye4 (F:Frm) (H:Hp) (A0:Int→List PV→List PV→Int→Int→Prop):Prop :=
 match F,H with
 | [(1,.box (.agg [(.int .i64 i0),(.data l1),(.data l2)])),(3,.v (.int .i64 i3)),(4,.v (.int .i64 i4))],[]=>(A0 i0 l1 l2 i3 i4)
 | _,_=>False
def yjf (Q:Ex→Frm→Hp→Prop):Int→List PV→List PV→Int→Int→Bool→Prop:=(fun i0 l1 l2 i3 i4 b5=>Q (.exit 0) [(1,.box (.agg [(.int .i64 i0),(.data l1),(.data l2)])),(3,.v (.int .i64 i3)),(4,.v (.int .i64 i4)),(9,.v (.bool b5))] [])
def yis (Q:Ex→Frm→Hp→Prop) (n:Nat) (F:Frm) (H:Hp):Prop:=ye4 F H (fun i0 l1 l2 i3 i4=>ycl (yjf Q) n i0 l1 l2 i3 i4)
def yjJ:LP:=fun id F H Q =>
 bif Nat.beq id 21661800 then ye4 F H (fun i0 l1 l2 i3 i4=>∃ n:Nat,ycl (yjf Q) n i0 l1 l2 i3 i4) else
 False
def ynL (e:List (Nat×EffF)):SE:=⟨(E e),lookS [],lookI [],yjJ⟩
theorem yqS (e:List (Nat×EffF)) (he:EG e):SEOk (ynL e):=yag trivial trivial he.ok
theorem yrN (e:List (Nat×EffF)) ( Q n i0 l1 l2 i3 i4):WC (E e) (callW (ynL e) 5) (yjJ) ykw [(1,.box (.agg [(.int .i64 i0),(.data l1),(.data l2)])),(3,.v (.int .i64 i3)),(4,.v (.int .i64 i4))] [] (fun x F' H'=>match x with | .norm=>yis Q n F' H' | .exit i=>Q (.exit i) F' H' | .ret=>Q .ret F' H')=ycl (yjf Q) (n+1) i0 l1 l2 i3 i4:=by kernel_rfl
theorem yvV (e:List (Nat×EffF)) (_:EG e):LpOk (E e) (yjJ) ykw:=(yaf (by kernel_rfl))
theorem yuy (e:List (Nat×EffF)) (he:EG e):∀ F H Q,yjJ 21661800 F H Q→LoopT (E e) ykw F H Q:=by
 intro F H Q h
 have go:=LoopT.intro (yaH (yqS e he) 5) (yvV e he) (yis Q) (by
   intro F H h
   unfold yis ye4 at h
   split at h
   · exact h
   · exact h) (by
   intro n F H h
   unfold yis ye4 at h
   split at h
   · exact (yrN ..).mpr h
   · exact h.elim)
 have h:ye4 F H _:=h
 unfold ye4 at h
 split at h
 · obtain ⟨n,h⟩:=h;exact go n _ _ h
 · exact h.elim
theorem yBc (e:List (Nat×EffF)) ( p0 p1 p2 K):WP (ynL e) 6 yCF [(.agg [(.int .i64 p0),(.data p1),(.data p2)])] K=ynJ p0 p1 p2 (fun r0=>K (.int .i64 r0)):=by kernel_rfl
theorem yte (e:List (Nat×EffF)) (he:EG e):OkF (E e) ytd yiC:=by
 intro as K h
 unfold ytd ynK at h
 split at h
 · exact WP_ok (yqS e he) (ybk (l:=[(21661800,ykw)]) ⟨yuy e he,trivial⟩ (by kernel_rfl)) (by kernel_rfl) (by kernel_rfl) (fun _=>yab (by kernel_rfl) _) (he.num _ (by kernel_rfl)) ((yBc ..).mpr h)
 · exact h.elim
end Go.Pf.Vc
namespace Go.Pf.Vc
open Go Go.Pf
set_option linter.unusedVariables false
theorem yy8 (p0:Int) (p1:List PV) (p2:List PV) (r0:Int) (h:∀ K:Int→Prop,K r0→yaK p0 p1 p2 K) (K:Int→Prop):yaK p0 p1 p2 K=K r0 :=
 propext ⟨fun k=>detC (ynA [] yaT) (as:=[(.agg [(.int .i64 p0),(.data p1),(.data p2)])]) (x:=(.int .i64 r0)) (fun K' k'=>h (fun r0=>K' (.int .i64 r0)) k') (K:=fun x=>match x with | (.int .i64 r0)=>K r0 | _=>False) k,h K⟩
theorem yxB (p0:Int) (p1:List PV) (p2:List PV) (r0:Bool) (h:∀ K:Bool→Prop,K r0→yc3 p0 p1 p2 K) (K:Bool→Prop):yc3 p0 p1 p2 K=K r0 :=
 propext ⟨fun k=>detC (yqO [] yaT) (as:=[(.agg [(.int .i64 p0),(.data p1),(.data p2)])]) (x:=(.bool r0)) (fun K' k'=>h (fun r0=>K' (.bool r0)) k') (K:=fun x=>match x with | (.bool r0)=>K r0 | _=>False) k,h K⟩
theorem yy9 (p0:Int) (p1:List PV) (p2:List PV) (p3:Int) (p4:Int) (p5:Int) (p6:Int) (r0:Int) (r1:Int) (r2:Int) (h:∀ K:Int→Int→Int→Prop,K r0 r1 r2→yfx p0 p1 p2 p3 p4 p5 p6 K) (K:Int→Int→Int→Prop):yfx p0 p1 p2 p3 p4 p5 p6 K=K r0 r1 r2 :=
 propext ⟨fun k=>detC (ytc [] yaT) (as:=[(.agg [(.int .i64 p0),(.data p1),(.data p2)]),(.agg [(.int .i64 p3),(.int .i64 p4)]),(.agg [(.int .i64 p5),(.int .i64 p6)])]) (x:=(.tup [(.agg [(.int .i64 r0),(.int .i64 r1)]),(.int .i64 r2)])) (fun K' k'=>h (fun r0 r1 r2=>K' (.tup [(.agg [(.int .i64 r0),(.int .i64 r1)]),(.int .i64 r2)])) k') (K:=fun x=>match x with | (.tup [(.agg [(.int .i64 r0),(.int .i64 r1)]),(.int .i64 r2)])=>K r0 r1 r2 | _=>False) k,h K⟩
theorem yza (p0:Int) (p1:List PV) (p2:List PV) (r0:Int) (h:∀ K:Int→Prop,K r0→yfy p0 p1 p2 K) (K:Int→Prop):yfy p0 p1 p2 K=K r0 :=
 propext ⟨fun k=>detC (yte [] yaT) (as:=[(.agg [(.int .i64 p0),(.data p1),(.data p2)])]) (x:=(.int .i64 r0)) (fun K' k'=>h (fun r0=>K' (.int .i64 r0)) k') (K:=fun x=>match x with | (.int .i64 r0)=>K r0 | _=>False) k,h K⟩
end Go.Pf.Vc
