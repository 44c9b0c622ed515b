/- Part 4 of what the statement rests on: a verified evaluator over pure values, the conditions of the program's functions, and their plain laws. -/
import Derived.Test.YtpofkodjoakifaaKeW3
namespace Go.Pf.Vc
open Go Go.Pf
set_option maxRecDepth 100000
abbrev yfR:Type:=List PV→(Bool→Prop)→Prop
def ya7 (a0:ygJ) (x0:Bool→Prop) (x1:List PV→Int→Bool→Prop):Nat→List PV→Int→Prop
 | 0,_,_=>False
 | n+1,l0,i1 =>
 (cbr (decide (i1<(((List.length l0):Nat):Int)))
 (asr (decide ((0:Int)≤i1))
 (asr (decide (i1<(((List.length l0):Nat):Int)))
 (asr (conf (.agg [.i .i64,.d,.d]) (List.getD l0 (i1.toNat) .nils))
 (a0 (intOfV (cellAt (List.getD l0 (i1.toNat) .nils) 0)) (datOfV (cellAt (List.getD l0 (i1.toNat) .nils) 1)) (datOfV (cellAt (List.getD l0 (i1.toNat) .nils) 2)) (fun yb0 =>
 (cbr yb0
 (x0 true)
 (ya7 a0 x0 x1 n l0 (IntKind.i64.wrap (i1+(1:Int))))))))))
 (x1 l0 i1 false))
def yhg (a0:ygJ) (p0:List PV) (K:Bool→Prop):Prop :=
 (∃ n:Nat,ya7 a0
 (fun yb1=>(K yb1))
 (fun yl2 _ _=>(K (decide ((((List.length yl2):Nat):Int)>(10:Int)))))
 n p0 (0:Int))
def ycr (p0:List PV) (K:Bool→Prop):Prop:=yhg ydH p0 K
def yhh (w:yfR) (as:List PV) (K:PV→Prop):Prop :=
 match as with
 | [(.data p0)]=>w p0 (fun r0=>K (.bool r0))
 | _=>False
def yll (as:List PV) (K:PV→Prop):Prop:=yhh ycr as K
def ycs (F:Frm) (H:Hp) (A0:List PV→Int→Prop):Prop :=
 match F,H with
 | [(0,.v (.data l0)),(3,.v (.int .i64 i1))],[]=>(A0 l0 i1)
 | _,_=>False
def yfz (Q:Ex→Frm→Hp→Prop):Bool→Prop:=(fun b0=>Q .ret [(2,.v (.bool b0))] [])
def yfA (Q:Ex→Frm→Hp→Prop):List PV→Int→Bool→Prop:=(fun l0 i1 b2=>Q (.exit 0) [(0,.v (.data l0)),(3,.v (.int .i64 i1)),(7,.v (.bool b2))] [])
def yeD (a0:ygJ) (Q:Ex→Frm→Hp→Prop) (n:Nat) (F:Frm) (H:Hp):Prop:=ycs F H (fun l0 i1=>ya7 a0 (yfz Q) (yfA Q) n l0 i1)
def yfh (a0:ygJ):LP:=fun id F H Q =>
 bif Nat.beq id 4277600 then ycs F H (fun l0 i1=>∃ n:Nat,ya7 a0 (yfz Q) (yfA Q) n l0 i1) else
 False
def yhi (e:List (Nat×EffF)) (a0:ygJ):SE:=⟨(E e),lookS [(yix,ynx a0)],lookI [],yfh a0⟩
theorem ykN (e:List (Nat×EffF)) (he:EG e):SEOk (yhi e ydH):=yag ⟨(yA1 e he),trivial⟩ trivial he.ok
theorem ymP (e:List (Nat×EffF)) (a0 Q n l0 i1):WC (E e) (callW (yhi e a0) 5) (yfh a0) ymC [(0,.v (.data l0)),(3,.v (.int .i64 i1))] [] (fun x F' H'=>match x with | .norm=>yeD a0 Q n F' H' | .exit i=>Q (.exit i) F' H' | .ret=>Q .ret F' H')=ya7 a0 (yfz Q) (yfA Q) (n+1) l0 i1:=by kernel_rfl
theorem yo5 (e:List (Nat×EffF)) (_:EG e):LpOk (E e) (yfh ydH) ymC:=(yaf (by kernel_rfl))
theorem yof (e:List (Nat×EffF)) (he:EG e):∀ F H Q,yfh ydH 4277600 F H Q→LoopT (E e) ymC F H Q:=by
 intro F H Q h
 have go:=LoopT.intro (yaH (ykN e he) 5) (yo5 e he) (yeD ydH Q) (by
   intro F H h
   unfold yeD ycs at h
   split at h
   · exact h
   · exact h) (by
   intro n F H h
   unfold yeD ycs at h
   split at h
   · exact (ymP ..).mpr h
   · exact h.elim)
 have h:ycs F H _:=h
 unfold ycs at h
 split at h
 · obtain ⟨n,h⟩:=h;exact go n _ _ h
 · exact h.elim
theorem ytf (e:List (Nat×EffF)) (a0 p0 K):WP (yhi e a0) 6 ytZ [(.data p0)] K=yhg a0 p0 (fun r0=>K (.bool r0)):=by kernel_rfl
theorem ylm (e:List (Nat×EffF)) (he:EG e):OkF (E e) yll ydX:=by
 intro as K h
 unfold yll yhh at h
 split at h
 · exact WP_ok (ykN e he) (ybk (l:=[(4277600,ymC)]) ⟨yof e he,trivial⟩ (by kernel_rfl)) (by kernel_rfl) (by kernel_rfl) (fun _=>yab (by kernel_rfl) _) (he.num _ (by kernel_rfl)) ((ytf ..).mpr h)
 · exact h.elim
abbrev yln:Type:=List PV→List PV→(Int→Prop)→Prop
def ycm (a0:ybT) (x6981300_0:Int→Prop) (x6981300_1:List PV→List PV→Int→Bool→Prop):Nat→List PV→List PV→Int→Prop
 | 0,_,_,_=>False
 | n6981300+1,l0,l1,i2 =>
 (cbr (decide (i2<(((List.length l0):Nat):Int)))
 (asr (decide ((0:Int)≤i2))
 (asr (decide (i2<(((List.length l0):Nat):Int)))
 (asr (conf (.agg [.i .i64,.d,.d]) (List.getD l0 (i2.toNat) .nils))
 (a0 (intOfV (cellAt (List.getD l0 (i2.toNat) .nils) 0)) (datOfV (cellAt (List.getD l0 (i2.toNat) .nils) 1)) (datOfV (cellAt (List.getD l0 (i2.toNat) .nils) 2)) (fun yi0 =>
 (cbr (yi0 !=(0:Int))
 (asr (decide ((0:Int)≤i2))
 (asr (decide (i2<(((List.length l0):Nat):Int)))
 (asr (conf (.agg [.i .i64,.d,.d]) (List.getD l0 (i2.toNat) .nils))
 (a0 (intOfV (cellAt (List.getD l0 (i2.toNat) .nils) 0)) (datOfV (cellAt (List.getD l0 (i2.toNat) .nils) 1)) (datOfV (cellAt (List.getD l0 (i2.toNat) .nils) 2)) (fun yi1 =>
 (x6981300_0 yi1))))))
 (ycm a0 x6981300_0 x6981300_1 n6981300 l0 l1 (IntKind.i64.wrap (i2+(1:Int))))))))))
 (x6981300_1 l0 l1 i2 false))
def ybE (a0:ybT) (x6981301_0:Int→Prop) (x6981301_1:List PV→List PV→Int→Bool→Prop):Nat→List PV→List PV→Int→Prop
 | 0,_,_,_=>False
 | n6981301+1,l0,l1,i2 =>
 (cbr (decide (i2<(((List.length l0):Nat):Int)))
 (asr (decide ((0:Int)≤i2))
 (asr (decide (i2<(((List.length l0):Nat):Int)))
 (asr (conf (.agg [.i .i64,.d,.d]) (List.getD l0 (i2.toNat) .nils))
 (asr (decide ((0:Int)<(((List.length l0):Nat):Int)))
 (asr (conf (.agg [.i .i64,.d,.d]) (List.getD l0 0 .nils))
 (cbr ((intOfV (cellAt (List.getD l0 (i2.toNat) .nils) 0)) !=(intOfV (cellAt (List.getD l0 0 .nils) 0)))
 (x6981301_0 (8:Int))
 (ybE a0 x6981301_0 x6981301_1 n6981301 l0 l1 (IntKind.i64.wrap (i2+(1:Int))))))))))
 (x6981301_1 l0 l1 i2 false))
def ynM (a0:ybT) (p0 p1:List PV) (K:Int→Prop):Prop :=
 (cbr (decide ((((List.length p0):Nat):Int)>(6:Int)))
 (K (4:Int))
 (cbr (decide ((((List.length p1):Nat):Int)>(2000:Int)))
 (K (4:Int))
 (cbr ((((List.length p0):Nat):Int) ==(0:Int))
 (K (8:Int))
 (∃ n6981300:Nat,ycm a0
 (fun yi2=>(K yi2))
 (fun yl3 yl4 _ _=>(∃ n6981301:Nat,ybE a0
 (fun yi7=>(K yi7))
 (fun _ _ _ _=>(K (0:Int)))
 n6981301 yl3 yl4 (0:Int)))
 n6981300 p0 p1 (0:Int)))))
def yfB (p0 p1:List PV) (K:Int→Prop):Prop:=ynM yaK p0 p1 K
def ynN (w:yln) (as:List PV) (K:PV→Prop):Prop :=
 match as with
 | [(.agg [(.data p0),(.data p1)])]=>w p0 p1 (fun r0=>K (.int .i64 r0))
 | _=>False
def ytg (as:List PV) (K:PV→Prop):Prop:=ynN yfB as K
def ye5 (F:Frm) (H:Hp) (A0:List PV→List PV→Int→Prop):Prop :=
 match F,H with
 | [(1,.box (.agg [(.data l0),(.data l1)])),(3,.v (.int .i64 i2))],[]=>(A0 l0 l1 i2)
 | _,_=>False
def ye6 (F:Frm) (H:Hp) (A0:List PV→List PV→Int→Prop):Prop :=
 match F,H with
 | [(1,.box (.agg [(.data l0),(.data l1)])),(4,.v (.int .i64 i2))],[]=>(A0 l0 l1 i2)
 | _,_=>False
def yjg (Q:Ex→Frm→Hp→Prop):Int→Prop:=(fun i0=>Q .ret [(2,.v (.int .i64 i0))] [])
def yjh (Q:Ex→Frm→Hp→Prop):List PV→List PV→Int→Bool→Prop:=(fun l0 l1 i2 b3=>Q (.exit 0) [(1,.box (.agg [(.data l0),(.data l1)])),(3,.v (.int .i64 i2)),(23,.v (.bool b3))] [])
def yji (Q:Ex→Frm→Hp→Prop):Int→Prop:=(fun i0=>Q .ret [(2,.v (.int .i64 i0))] [])
def yjj (Q:Ex→Frm→Hp→Prop):List PV→List PV→Int→Bool→Prop:=(fun l0 l1 i2 b3=>Q (.exit 2) [(1,.box (.agg [(.data l0),(.data l1)])),(4,.v (.int .i64 i2)),(43,.v (.bool b3))] [])
def yit (a0:ybT) (Q:Ex→Frm→Hp→Prop) (n:Nat) (F:Frm) (H:Hp):Prop:=ye5 F H (fun l0 l1 i2=>ycm a0 (yjg Q) (yjh Q) n l0 l1 i2)
def yiu (a0:ybT) (Q:Ex→Frm→Hp→Prop) (n:Nat) (F:Frm) (H:Hp):Prop:=ye6 F H (fun l0 l1 i2=>ybE a0 (yji Q) (yjj Q) n l0 l1 i2)
def yeE (a0:ybT):LP:=fun id F H Q =>
 bif Nat.beq id 6981300 then ye5 F H (fun l0 l1 i2=>∃ n:Nat,ycm a0 (yjg Q) (yjh Q) n l0 l1 i2) else
 bif Nat.beq id 6981301 then ye6 F H (fun l0 l1 i2=>∃ n:Nat,ybE a0 (yji Q) (yjj Q) n l0 l1 i2) else
 False
def yjK (e:List (Nat×EffF)) (a0:ybT):SE:=⟨(E e),lookS [(ydx,yjD a0)],lookI [],yeE a0⟩
theorem ymk (e:List (Nat×EffF)) (he:EG e):SEOk (yjK e yaK):=yag ⟨(ynA e he),trivial⟩ trivial he.ok
theorem yrO (e:List (Nat×EffF)) (a0 Q n l0 l1 i2):WC (E e) (callW (yjK e a0) 5) (yeE a0) ymD [(1,.box (.agg [(.data l0),(.data l1)])),(3,.v (.int .i64 i2))] [] (fun x F' H'=>match x with | .norm=>yit a0 Q n F' H' | .exit i=>Q (.exit i) F' H' | .ret=>Q .ret F' H')=ycm a0 (yjg Q) (yjh Q) (n+1) l0 l1 i2:=by kernel_rfl
theorem yvW (e:List (Nat×EffF)) (_:EG e):LpOk (E e) (yeE yaK) ymD:=(yaf (by kernel_rfl))
theorem yuz (e:List (Nat×EffF)) (he:EG e):∀ F H Q,yeE yaK 6981300 F H Q→LoopT (E e) ymD F H Q:=by
 intro F H Q h
 have go:=LoopT.intro (yaH (ymk e he) 5) (yvW e he) (yit yaK Q) (by
   intro F H h
   unfold yit ye5 at h
   split at h
   · exact h
   · exact h) (by
   intro n F H h
   unfold yit ye5 at h
   split at h
   · exact (yrO ..).mpr h
   · exact h.elim)
 have h:ye5 F H _:=h
 unfold ye5 at h
 split at h
 · obtain ⟨n,h⟩:=h;exact go n _ _ h
 · exact h.elim
theorem yrP (e:List (Nat×EffF)) (a0 Q n l0 l1 i2):WC (E e) (callW (yjK e a0) 5) (yeE a0) ymE [(1,.box (.agg [(.data l0),(.data l1)])),(4,.v (.int .i64 i2))] [] (fun x F' H'=>match x with | .norm=>yiu a0 Q n F' H' | .exit i=>Q (.exit i) F' H' | .ret=>Q .ret F' H')=ybE a0 (yji Q) (yjj Q) (n+1) l0 l1 i2:=by kernel_rfl
theorem yvX (e:List (Nat×EffF)) (_:EG e):LpOk (E e) (yeE yaK) ymE:=(yaf (by kernel_rfl))
theorem yuA (e:List (Nat×EffF)) (he:EG e):∀ F H Q,yeE yaK 6981301 F H Q→LoopT (E e) ymE F H Q:=by
 intro F H Q h
 have go:=LoopT.intro (yaH (ymk e he) 5) (yvX e he) (yiu yaK Q) (by
   intro F H h
   unfold yiu ye6 at h
   split at h
   · exact h
   · exact h) (by
   intro n F H h
   unfold yiu ye6 at h
   split at h
   · exact (yrP ..).mpr h
   · exact h.elim)
 have h:ye6 F H _:=h
 unfold ye6 at h
 split at h
 · obtain ⟨n,h⟩:=h;exact go n _ _ h
 · exact h.elim
theorem yBd (e:List (Nat×EffF)) (a0 p0 p1 K):WP (yjK e a0) 6 yCj [(.agg [(.data p0),(.data p1)])] K=ynM a0 p0 p1 (fun r0=>K (.int .i64 r0)):=by kernel_rfl
theorem yth (e:List (Nat×EffF)) (he:EG e):OkF (E e) ytg yiy:=by
 intro as K h
 unfold ytg ynN at h
 split at h
 · exact WP_ok (ymk e he) (ybk (l:=[(6981300,ymD),(6981301,ymE)]) ⟨yuz e he,yuA e he,trivial⟩ (by kernel_rfl)) (by kernel_rfl) (by kernel_rfl) (fun _=>yab (by kernel_rfl) _) (he.num _ (by kernel_rfl)) ((yBd ..).mpr h)
 · exact h.elim
end Go.Pf.Vc
namespace Go.Pf.Vc
open Go Go.Pf
set_option linter.unusedVariables false
theorem yrQ (p0:List PV) (r0:Bool) (h:∀ K:Bool→Prop,K r0→ycr p0 K) (K:Bool→Prop):ycr p0 K=K r0 :=
 propext ⟨fun k=>detC (ylm [] yaT) (as:=[(.data p0)]) (x:=(.bool r0)) (fun K' k'=>h (fun r0=>K' (.bool r0)) k') (K:=fun x=>match x with | (.bool r0)=>K r0 | _=>False) k,h K⟩
theorem yzb (p0:List PV) (p1:List PV) (r0:Int) (h:∀ K:Int→Prop,K r0→yfB p0 p1 K) (K:Int→Prop):yfB p0 p1 K=K r0 :=
 propext ⟨fun k=>detC (yth [] yaT) (as:=[(.agg [(.data p0),(.data p1)])]) (x:=(.int .i64 r0)) (fun K' k'=>h (fun r0=>K' (.int .i64 r0)) k') (K:=fun x=>match x with | (.int .i64 r0)=>K r0 | _=>False) k,h K⟩
end Go.Pf.Vc
namespace Go.Pf.Vc
open Go Go.Pf
set_option maxRecDepth 100000
abbrev ynO:Type:=List PV→List PV→(Bool→Prop)→Prop
def ycA (x0:Bool→Prop) (x1:List PV→List PV→Int→Bool→Prop):Nat→List PV→List PV→Int→Prop
 | 0,_,_,_=>False
 | n+1,l0,l1,i2 =>
 (cbr (decide (i2<(((List.length l0):Nat):Int)))
 (asr (decide ((0:Int)≤i2))
 (asr (decide (i2<(((List.length l0):Nat):Int)))
 (asr (conf (.one (.i .i64)) (List.getD l0 (i2.toNat) .nils))
 (asr (decide ((0:Int)≤i2))
 (asr (decide (i2<(((List.length l1):Nat):Int)))
 (asr (conf (.one (.i .i64)) (List.getD l1 (i2.toNat) .nils))
 (cbr ((intOfV (List.getD l0 (i2.toNat) .nils)) !=(intOfV (List.getD l1 (i2.toNat) .nils)))
 (x0 false)
 (ycA x0 x1 n l0 l1 (IntKind.i64.wrap (i2+(1:Int)))))))))))
 (x1 l0 l1 i2 false))
def yo6 (p0 p1:List PV) (K:Bool→Prop):Prop :=
 (cbr ((((List.length p0):Nat):Int) !=(((List.length p1):Nat):Int))
 (K false)
 (∃ n:Nat,ycA
 (fun yb0=>(K yb0))
 (fun _ _ _ _=>(K true))
 n p0 p1 (0:Int)))
def ygv (p0 p1:List PV) (K:Bool→Prop):Prop:=yo6 p0 p1 K
def yo7 (w:ynO) (as:List PV) (K:PV→Prop):Prop :=
 match as with
 | [(.data p0),(.data p1)]=>w p0 p1 (fun r0=>K (.bool r0))
 | _=>False
def yvl (as:List PV) (K:PV→Prop):Prop:=yo7 ygv as K
def yfS (F:Frm) (H:Hp) (A0:List PV→List PV→Int→Prop):Prop :=
 match F,H with
 | [(0,.v (.data l0)),(1,.v (.data l1)),(5,.v (.int .i64 i2))],[]=>(A0 l0 l1 i2)
 | _,_=>False
def ykO (Q:Ex→Frm→Hp→Prop):Bool→Prop:=(fun b0=>Q .ret [(4,.v (.bool b0))] [])
def ykP (Q:Ex→Frm→Hp→Prop):List PV→List PV→Int→Bool→Prop:=(fun l0 l1 i2 b3=>Q (.exit 0) [(0,.v (.data l0)),(1,.v (.data l1)),(5,.v (.int .i64 i2)),(14,.v (.bool b3))] [])
def yjL (Q:Ex→Frm→Hp→Prop) (n:Nat) (F:Frm) (H:Hp):Prop:=yfS F H (fun l0 l1 i2=>ycA (ykO Q) (ykP Q) n l0 l1 i2)
def ylo:LP:=fun id F H Q =>
 bif Nat.beq id 14397100 then yfS F H (fun l0 l1 i2=>∃ n:Nat,ycA (ykO Q) (ykP Q) n l0 l1 i2) else
 False
def yo8 (e:List (Nat×EffF)):SE:=⟨(E e),lookS [],lookI [],ylo⟩
theorem yti (e:List (Nat×EffF)) (he:EG e):SEOk (yo8 e):=yag trivial trivial he.ok
theorem ytj (e:List (Nat×EffF)) ( Q n l0 l1 i2):WC (E e) (callW (yo8 e) 5) (ylo) ykq [(0,.v (.data l0)),(1,.v (.data l1)),(5,.v (.int .i64 i2))] [] (fun x F' H'=>match x with | .norm=>yjL Q n F' H' | .exit i=>Q (.exit i) F' H' | .ret=>Q .ret F' H')=ycA (ykO Q) (ykP Q) (n+1) l0 l1 i2:=by kernel_rfl
theorem yxC (e:List (Nat×EffF)) (_:EG e):LpOk (E e) (ylo) ykq:=(yaf (by kernel_rfl))
theorem yvY (e:List (Nat×EffF)) (he:EG e):∀ F H Q,ylo 14397100 F H Q→LoopT (E e) ykq F H Q:=by
 intro F H Q h
 have go:=LoopT.intro (yaH (yti e he) 5) (yxC e he) (yjL Q) (by
   intro F H h
   unfold yjL yfS at h
   split at h
   · exact h
   · exact h) (by
   intro n F H h
   unfold yjL yfS at h
   split at h
   · exact (ytj ..).mpr h
   · exact h.elim)
 have h:yfS F H _:=h
 unfold yfS at h
 split at h
 · obtain ⟨n,h⟩:=h;exact go n _ _ h
 · exact h.elim
theorem yC7 (e:List (Nat×EffF)) ( p0 p1 K):WP (yo8 e) 6 yEq [(.data p0),(.data p1)] K=yo6 p0 p1 (fun r0=>K (.bool r0)):=by kernel_rfl
theorem yvm (e:List (Nat×EffF)) (he:EG e):OkF (E e) yvl yj7:=by
 intro as K h
 unfold yvl yo7 at h
 split at h
 · exact WP_ok (yti e he) (ybk (l:=[(14397100,ykq)]) ⟨yvY e he,trivial⟩ (by kernel_rfl)) (by kernel_rfl) (by kernel_rfl) (fun _=>yab (by kernel_rfl) _) (he.num _ (by kernel_rfl)) ((yC7 ..).mpr h)
 · exact h.elim
abbrev yh2:Type:=List PV→List PV→(Bool→Prop)→Prop
def ycB (x0:Bool→Prop) (x1:List PV→List PV→Int→Bool→Prop):Nat→List PV→List PV→Int→Prop
 | 0,_,_,_=>False
 | n+1,l0,l1,i2 =>
 (cbr (decide (i2<(((List.length l0):Nat):Int)))
 (asr (decide ((0:Int)≤i2))
 (asr (decide (i2<(((List.length l0):Nat):Int)))
 (asr (conf (.agg [.i .i64,.i .i64,.i .i64,.i .i64]) (List.getD l0 (i2.toNat) .nils))
 (asr (decide ((0:Int)≤i2))
 (asr (decide (i2<(((List.length l1):Nat):Int)))
 (asr (conf (.agg [.i .i64,.i .i64,.i .i64,.i .i64]) (List.getD l1 (i2.toNat) .nils))
 (cbr (!(((intOfV (cellAt (List.getD l0 (i2.toNat) .nils) 0)) ==(intOfV (cellAt (List.getD l1 (i2.toNat) .nils) 0)))&&(((intOfV (cellAt (List.getD l0 (i2.toNat) .nils) 1)) ==(intOfV (cellAt (List.getD l1 (i2.toNat) .nils) 1)))&&(((intOfV (cellAt (List.getD l0 (i2.toNat) .nils) 2)) ==(intOfV (cellAt (List.getD l1 (i2.toNat) .nils) 2)))&&(((intOfV (cellAt (List.getD l0 (i2.toNat) .nils) 3)) ==(intOfV (cellAt (List.getD l1 (i2.toNat) .nils) 3)))&&true)))))
 (x0 false)
 (ycB x0 x1 n l0 l1 (IntKind.i64.wrap (i2+(1:Int)))))))))))
 (x1 l0 l1 i2 false))
def yo9 (p0 p1:List PV) (K:Bool→Prop):Prop :=
 (cbr ((((List.length p0):Nat):Int) !=(((List.length p1):Nat):Int))
 (K false)
 (∃ n:Nat,ycB
 (fun yb0=>(K yb0))
 (fun _ _ _ _=>(K true))
 n p0 p1 (0:Int)))
def ycV (p0 p1:List PV) (K:Bool→Prop):Prop:=yo9 p0 p1 K
def ypa (w:yh2) (as:List PV) (K:PV→Prop):Prop :=
 match as with
 | [(.data p0),(.data p1)]=>w p0 p1 (fun r0=>K (.bool r0))
 | _=>False
def yvn (as:List PV) (K:PV→Prop):Prop:=ypa ycV as K
def yfT (F:Frm) (H:Hp) (A0:List PV→List PV→Int→Prop):Prop :=
 match F,H with
 | [(0,.v (.data l0)),(1,.v (.data l1)),(5,.v (.int .i64 i2))],[]=>(A0 l0 l1 i2)
 | _,_=>False
def ykQ (Q:Ex→Frm→Hp→Prop):Bool→Prop:=(fun b0=>Q .ret [(4,.v (.bool b0))] [])
def ykR (Q:Ex→Frm→Hp→Prop):List PV→List PV→Int→Bool→Prop:=(fun l0 l1 i2 b3=>Q (.exit 0) [(0,.v (.data l0)),(1,.v (.data l1)),(5,.v (.int .i64 i2)),(14,.v (.bool b3))] [])
def yjM (Q:Ex→Frm→Hp→Prop) (n:Nat) (F:Frm) (H:Hp):Prop:=yfT F H (fun l0 l1 i2=>ycB (ykQ Q) (ykR Q) n l0 l1 i2)
def ylp:LP:=fun id F H Q =>
 bif Nat.beq id 27088800 then yfT F H (fun l0 l1 i2=>∃ n:Nat,ycB (ykQ Q) (ykR Q) n l0 l1 i2) else
 False
def ypb (e:List (Nat×EffF)):SE:=⟨(E e),lookS [],lookI [],ylp⟩
theorem ytk (e:List (Nat×EffF)) (he:EG e):SEOk (ypb e):=yag trivial trivial he.ok
theorem ytl (e:List (Nat×EffF)) ( Q n l0 l1 i2):WC (E e) (callW (ypb e) 5) (ylp) ykr [(0,.v (.data l0)),(1,.v (.data l1)),(5,.v (.int .i64 i2))] [] (fun x F' H'=>match x with | .norm=>yjM Q n F' H' | .exit i=>Q (.exit i) F' H' | .ret=>Q .ret F' H')=ycB (ykQ Q) (ykR Q) (n+1) l0 l1 i2:=by kernel_rfl
theorem yxD (e:List (Nat×EffF)) (_:EG e):LpOk (E e) (ylp) ykr:=(yaf (by kernel_rfl))
theorem yvZ (e:List (Nat×EffF)) (he:EG e):∀ F H Q,ylp 27088800 F H Q→LoopT (E e) ykr F H Q:=by
 intro F H Q h
 have go:=LoopT.intro (yaH (ytk e he) 5) (yxD e he) (yjM Q) (by
   intro F H h
   unfold yjM yfT at h
   split at h
   · exact h
   · exact h) (by
   intro n F H h
   unfold yjM yfT at h
   split at h
   · exact (ytl ..).mpr h
   · exact h.elim)
 have h:yfT F H _:=h
 unfold yfT at h
 split at h
 · obtain ⟨n,h⟩:=h;exact go n _ _ h
 · exact h.elim
theorem yC8 (e:List (Nat×EffF)) ( p0 p1 K):WP (ypb e) 6 yEr [(.data p0),(.data p1)] K=yo9 p0 p1 (fun r0=>K (.bool r0)):=by kernel_rfl
theorem yvo (e:List (Nat×EffF)) (he:EG e):OkF (E e) yvn yj8:=by
 intro as K h
 unfold yvn ypa at h
 split at h
 · exact WP_ok (ytk e he) (ybk (l:=[(27088800,ykr)]) ⟨yvZ e he,trivial⟩ (by kernel_rfl)) (by kernel_rfl) (by kernel_rfl) (fun _=>yab (by kernel_rfl) _) (he.num _ (by kernel_rfl)) ((yC8 ..).mpr h)
 · exact h.elim
abbrev ynP:Type:=List PV→List PV→(Bool→Prop)→Prop
def ycC (a0:yh2) (x0:Bool→Prop) (x1:List PV→List PV→Int→Bool→Prop):Nat→List PV→List PV→Int→Prop
 | 0,_,_,_=>False
 | n+1,l0,l1,i2 =>
 (cbr (decide (i2<(((List.length l0):Nat):Int)))
 (asr (decide ((0:Int)≤i2))
 (asr (decide (i2<(((List.length l0):Nat):Int)))
 (asr (conf (.one (.d)) (List.getD l0 (i2.toNat) .nils))
 (asr (decide ((0:Int)≤i2))
 (asr (decide (i2<(((List.length l1):Nat):Int)))
 (asr (conf (.one (.d)) (List.getD l1 (i2.toNat) .nils))
 (a0 (datOfV (List.getD l0 (i2.toNat) .nils)) (datOfV (List.getD l1 (i2.toNat) .nils)) (fun yb0 =>
 (cbr (!yb0)
 (x0 false)
 (ycC a0 x0 x1 n l0 l1 (IntKind.i64.wrap (i2+(1:Int)))))))))))))
 (x1 l0 l1 i2 false))
def ypc (a0:yh2) (p0 p1:List PV) (K:Bool→Prop):Prop :=
 (cbr ((((List.length p0):Nat):Int) !=(((List.length p1):Nat):Int))
 (K false)
 (∃ n:Nat,ycC a0
 (fun yb1=>(K yb1))
 (fun _ _ _ _=>(K true))
 n p0 p1 (0:Int)))
def ygw (p0 p1:List PV) (K:Bool→Prop):Prop:=ypc ycV p0 p1 K
def ypd (w:ynP) (as:List PV) (K:PV→Prop):Prop :=
 match as with
 | [(.agg [(.data p0)]),(.agg [(.data p1)])]=>w p0 p1 (fun r0=>K (.bool r0))
 | _=>False
def yvp (as:List PV) (K:PV→Prop):Prop:=ypd ygw as K
def yfU (F:Frm) (H:Hp) (A0:List PV→List PV→Int→Prop):Prop :=
 match F,H with
 | [(2,.box (.agg [(.data l0)])),(3,.box (.agg [(.data l1)])),(5,.v (.int .i64 i2))],[]=>(A0 l0 l1 i2)
 | _,_=>False
def ykS (Q:Ex→Frm→Hp→Prop):Bool→Prop:=(fun b0=>Q .ret [(4,.v (.bool b0))] [])
def ykT (Q:Ex→Frm→Hp→Prop):List PV→List PV→Int→Bool→Prop:=(fun l0 l1 i2 b3=>Q (.exit 0) [(2,.box (.agg [(.data l0)])),(3,.box (.agg [(.data l1)])),(5,.v (.int .i64 i2)),(17,.v (.bool b3))] [])
def yjN (a0:yh2) (Q:Ex→Frm→Hp→Prop) (n:Nat) (F:Frm) (H:Hp):Prop:=yfU F H (fun l0 l1 i2=>ycC a0 (ykS Q) (ykT Q) n l0 l1 i2)
def ylq (a0:yh2):LP:=fun id F H Q =>
 bif Nat.beq id 70742100 then yfU F H (fun l0 l1 i2=>∃ n:Nat,ycC a0 (ykS Q) (ykT Q) n l0 l1 i2) else
 False
def ype (e:List (Nat×EffF)) (a0:yh2):SE:=⟨(E e),lookS [(yj8,ypa a0)],lookI [],ylq a0⟩
theorem ytm (e:List (Nat×EffF)) (he:EG e):SEOk (ype e ycV):=yag ⟨(yvo e he),trivial⟩ trivial he.ok
theorem ytn (e:List (Nat×EffF)) (a0 Q n l0 l1 i2):WC (E e) (callW (ype e a0) 5) (ylq a0) yks [(2,.box (.agg [(.data l0)])),(3,.box (.agg [(.data l1)])),(5,.v (.int .i64 i2))] [] (fun x F' H'=>match x with | .norm=>yjN a0 Q n F' H' | .exit i=>Q (.exit i) F' H' | .ret=>Q .ret F' H')=ycC a0 (ykS Q) (ykT Q) (n+1) l0 l1 i2:=by kernel_rfl
theorem yxE (e:List (Nat×EffF)) (_:EG e):LpOk (E e) (ylq ycV) yks:=(yaf (by kernel_rfl))
theorem yv0 (e:List (Nat×EffF)) (he:EG e):∀ F H Q,ylq ycV 70742100 F H Q→LoopT (E e) yks F H Q:=by
 intro F H Q h
 have go:=LoopT.intro (yaH (ytm e he) 5) (yxE e he) (yjN ycV Q) (by
   intro F H h
   unfold yjN yfU at h
   split at h
   · exact h
   · exact h) (by
   intro n F H h
   unfold yjN yfU at h
   split at h
   · exact (ytn ..).mpr h
   · exact h.elim)
 have h:yfU F H _:=h
 unfold yfU at h
 split at h
 · obtain ⟨n,h⟩:=h;exact go n _ _ h
 · exact h.elim
theorem yC9 (e:List (Nat×EffF)) (a0 p0 p1 K):WP (ype e a0) 6 yEs [(.agg [(.data p0)]),(.agg [(.data p1)])] K=ypc a0 p0 p1 (fun r0=>K (.bool r0)):=by kernel_rfl
theorem yvq (e:List (Nat×EffF)) (he:EG e):OkF (E e) yvp yj9:=by
 intro as K h
 unfold yvp ypd at h
 split at h
 · exact WP_ok (ytm e he) (ybk (l:=[(70742100,yks)]) ⟨yv0 e he,trivial⟩ (by kernel_rfl)) (by kernel_rfl) (by kernel_rfl) (fun _=>yab (by kernel_rfl) _) (he.num _ (by kernel_rfl)) ((yC9 ..).mpr h)
 · exact h.elim
end Go.Pf.Vc
namespace Go.Pf.Vc
open Go Go.Pf
set_option linter.unusedVariables false
theorem yBe (p0:List PV) (p1:List PV) (r0:Bool) (h:∀ K:Bool→Prop,K r0→ygv p0 p1 K) (K:Bool→Prop):ygv p0 p1 K=K r0 :=
 propext ⟨fun k=>detC (yvm [] yaT) (as:=[(.data p0),(.data p1)]) (x:=(.bool r0)) (fun K' k'=>h (fun r0=>K' (.bool r0)) k') (K:=fun x=>match x with | (.bool r0)=>K r0 | _=>False) k,h K⟩
theorem yBf (p0:List PV) (p1:List PV) (r0:Bool) (h:∀ K:Bool→Prop,K r0→ycV p0 p1 K) (K:Bool→Prop):ycV p0 p1 K=K r0 :=
 propext ⟨fun k=>detC (yvo [] yaT) (as:=[(.data p0),(.data p1)]) (x:=(.bool r0)) (fun K' k'=>h (fun r0=>K' (.bool r0)) k') (K:=fun x=>match x with | (.bool r0)=>K r0 | _=>False) k,h K⟩
theorem yBg (p0:List PV) (p1:List PV) (r0:Bool) (h:∀ K:Bool→Prop,K r0→ygw p0 p1 K) (K:Bool→Prop):ygw p0 p1 K=K r0 :=
 propext ⟨fun k=>detC (yvq [] yaT) (as:=[(.agg [(.data p0)]),(.agg [(.data p1)])]) (x:=(.bool r0)) (fun K' k'=>h (fun r0=>K' (.bool r0)) k') (K:=fun x=>match x with | (.bool r0)=>K r0 | _=>False) k,h K⟩
end Go.Pf.Vc
namespace Go.Pf.Vc
open Go Go.Pf
set_option maxRecDepth 100000
abbrev ynQ:Type:=Int→List PV→List PV→(Int→Int→Prop)→Prop
def ypf (a0:ylk) (a1:ynv) (p0:Int) (p1 p2:List PV) (K:Int→Int→Prop):Prop :=
 (a0 p0 p1 p2 (fun yi0 =>
 (a1 yi0 (2:Int) (fun yi1 yi2 _ =>
 (K yi1 yi2)))))
def ykU (p0:Int) (p1 p2:List PV) (K:Int→Int→Prop):Prop:=ypf yfy ykM p0 p1 p2 K
def ypg (w:ynQ) (as:List PV) (K:PV→Prop):Prop :=
 match as with
 | [(.agg [(.int .i64 p0),(.data p1),(.data p2)])]=>w p0 p1 p2 (fun r0 r1=>K (.agg [(.int .i64 r0),(.int .i64 r1)]))
 | _=>False
def yvr (as:List PV) (K:PV→Prop):Prop:=ypg ykU as K
def yDa (_:ylk) (_:ynv):LP:=fun _ _ _ _ =>
 False
def yvs (e:List (Nat×EffF)) (a0:ylk) (a1:ynv):SE:=⟨(E e),lookS [(yiC,ynK a0),(yka,yo3 a1)],lookI [],yDa a0 a1⟩
theorem yBh (e:List (Nat×EffF)) (he:EG e):SEOk (yvs e yfy ykM):=yag ⟨(yte e he),(yC5 e he),trivial⟩ trivial he.ok
theorem yDb (e:List (Nat×EffF)) (a0 a1 p0 p1 p2 K):WP (yvs e a0 a1) 6 yEz [(.agg [(.int .i64 p0),(.data p1),(.data p2)])] K=ypf a0 a1 p0 p1 p2 (fun r0 r1=>K (.agg [(.int .i64 r0),(.int .i64 r1)])):=by kernel_rfl
theorem yDc (e:List (Nat×EffF)) (he:EG e):OkF (E e) yvr yhx:=by
 intro as K h
 unfold yvr ypg at h
 split at h
 · exact WP_ok (yBh e he) (yaf (by kernel_rfl)) (by kernel_rfl) (by kernel_rfl) (fun _=>yab (by kernel_rfl) _) (he.num _ (by kernel_rfl)) ((yDb ..).mpr h)
 · exact h.elim
end Go.Pf.Vc
namespace Go.Pf.Vc
open Go Go.Pf
set_option maxRecDepth 100000
abbrev ypA:Type:=List PV→(Bool→Prop)→Prop
def yrR (a0:yfR) (a1:yln) (p0:List PV) (K:Bool→Prop):Prop :=
 (jn (fun (yj3:Bool→Prop) =>
 (a0 p0 (fun yb4 =>
 (cbr (!yb4)
 (a1 p0 ([]:List PV) (fun yi5 =>
 (yj3 (yi5 ==(0:Int)))))
 (yj3 false)))))
 (fun yb2=>(K yb2)))
def yjR (p0:List PV) (K:Bool→Prop):Prop:=yrR ycr yfB p0 K
def yrS (w:ypA) (as:List PV) (K:PV→Prop):Prop :=
 match as with
 | [(.data p0)]=>w p0 (fun r0=>K (.bool r0))
 | _=>False
def yxF (as:List PV) (K:PV→Prop):Prop:=yrS yjR as K
def yE0 (_:yfR) (_:yln):LP:=fun _ _ _ _ =>
 False
def yxG (e:List (Nat×EffF)) (a0:yfR) (a1:yln):SE:=⟨(E e),lookS [(ydX,yhh a0),(yiy,ynN a1)],lookI [],yE0 a0 a1⟩
theorem yDd (e:List (Nat×EffF)) (he:EG e):SEOk (yxG e ycr yfB):=yag ⟨(ylm e he),(yth e he),trivial⟩ trivial he.ok
theorem yE1 (e:List (Nat×EffF)) (a0 a1 p0 K):WP (yxG e a0 a1) 6 yGz [(.data p0)] K=yrR a0 a1 p0 (fun r0=>K (.bool r0)):=by kernel_rfl
theorem yE2 (e:List (Nat×EffF)) (he:EG e):OkF (E e) yxF ymv:=by
 intro as K h
 unfold yxF yrS at h
 split at h
 · exact WP_ok (yDd e he) (yaf (by kernel_rfl)) (by kernel_rfl) (by kernel_rfl) (fun _=>yab (by kernel_rfl) _) (he.num _ (by kernel_rfl)) ((yE1 ..).mpr h)
 · exact h.elim
abbrev yjO:Type:=Int→List PV→List PV→Int→List PV→List PV→(Bool→Prop)→Prop
def yqT (a0:ypA) (a1:yjF) (p0:Int) (p1 p2:List PV) (p3:Int) (p4 p5:List PV) (K:Bool→Prop):Prop :=
 (jn (fun (yj4:Bool→Prop) =>
 (a0 ([(.agg [(.int .i64 p0),(.data p1),(.data p2)]),(.agg [(.int .i64 p3),(.data p4),(.data p5)])]:List PV) (fun yb5 =>
 (cbr yb5
 (a1 p0 p1 p2 (fun yb6 =>
 (cbr yb6
 (a1 p3 p4 p5 (fun yb7 =>
 (yj4 yb7)))
 (yj4 false))))
 (yj4 false)))))
 (fun yb3=>(K yb3)))
def yeF (p0:Int) (p1 p2:List PV) (p3:Int) (p4 p5:List PV) (K:Bool→Prop):Prop:=yqT yjR yc3 p0 p1 p2 p3 p4 p5 K
def yml (w:yjO) (as:List PV) (K:PV→Prop):Prop :=
 match as with
 | [(.agg [(.int .i64 p0),(.data p1),(.data p2)]),(.agg [(.int .i64 p3),(.data p4),(.data p5)])]=>w p0 p1 p2 p3 p4 p5 (fun r0=>K (.bool r0))
 | _=>False
def yqU (as:List PV) (K:PV→Prop):Prop:=yml yeF as K
def yzc (_:ypA) (_:yjF):LP:=fun _ _ _ _ =>
 False
def yqV (e:List (Nat×EffF)) (a0:ypA) (a1:yjF):SE:=⟨(E e),lookS [(ymv,yrS a0),(yfH,ymg a1)],lookI [],yzc a0 a1⟩
theorem yxH (e:List (Nat×EffF)) (he:EG e):SEOk (yqV e yjR yc3):=yag ⟨(yE2 e he),(yqO e he),trivial⟩ trivial he.ok
theorem yzd (e:List (Nat×EffF)) (a0 a1 p0 p1 p2 p3 p4 p5 K):WP (yqV e a0 a1) 6 yAc [(.agg [(.int .i64 p0),(.data p1),(.data p2)]),(.agg [(.int .i64 p3),(.data p4),(.data p5)])] K=yqT a0 a1 p0 p1 p2 p3 p4 p5 (fun r0=>K (.bool r0)):=by kernel_rfl
theorem yze (e:List (Nat×EffF)) (he:EG e):OkF (E e) yqU ygO:=by
 intro as K h
 unfold yqU yml at h
 split at h
 · exact WP_ok (yxH e he) (yaf (by kernel_rfl)) (by kernel_rfl) (by kernel_rfl) (fun _=>yab (by kernel_rfl) _) (he.num _ (by kernel_rfl)) ((yzd ..).mpr h)
 · exact h.elim
abbrev ylr:Type:=(List PV→Prop)→Prop
def yto (K:List PV→Prop):Prop :=
 (K ([(.agg [(.int .i64 (6:Int)),(.data ([(.int .i64 (0:Int)),(.int .i64 (6:Int))]:List PV)),(.data ([(.int .i64 (1:Int))]:List PV))]),(.agg [(.int .i64 (6:Int)),(.data ([(.int .i64 (0:Int)),(.int .i64 (4:Int)),(.int .i64 (6:Int))]:List PV)),(.data ([(.int .i64 (1:Int)),(.int .i64 (4:Int))]:List PV))]),(.agg [(.int .i64 (6:Int)),(.data ([(.int .i64 (0:Int)),(.int .i64 (2:Int)),(.int .i64 (6:Int))]:List PV)),(.data ([(.int .i64 (2:Int)),(.int .i64 (0:Int))]:List PV))])]:List PV))
def yls (K:List PV→Prop):Prop:=yto  K
def ynR (w:ylr) (as:List PV) (K:PV→Prop):Prop :=
 match as with
 | []=>w  (fun r0=>K (.data r0))
 | _=>False
def ytp (as:List PV) (K:PV→Prop):Prop:=ynR yls as K
def yBi:LP:=fun _ _ _ _ =>
 False
def ytq (e:List (Nat×EffF)):SE:=⟨(E e),lookS [],lookI [],yBi⟩
theorem yzf (e:List (Nat×EffF)) (he:EG e):SEOk (ytq e):=yag trivial trivial he.ok
theorem yBj (e:List (Nat×EffF)) ( K):WP (ytq e) 6 yCk [] K=yto  (fun r0=>K (.data r0)):=by kernel_rfl
theorem yBk (e:List (Nat×EffF)) (he:EG e):OkF (E e) ytp yiz:=by
 intro as K h
 unfold ytp ynR at h
 split at h
 · exact WP_ok (yzf e he) (yaf (by kernel_rfl)) (by kernel_rfl) (by kernel_rfl) (fun _=>yab (by kernel_rfl) _) (he.num _ (by kernel_rfl)) ((yBj ..).mpr h)
 · exact h.elim
abbrev ypB:Type:=(Int→List PV→List PV→Int→List PV→List PV→Prop)→Prop
def yxI (K:Int→List PV→List PV→Int→List PV→List PV→Prop):Prop :=
 (K (4:Int) ([(.int .i64 (0:Int)),(.int .i64 (4:Int))]:List PV) ([(.int .i64 (1:Int))]:List PV) (4:Int) ([(.int .i64 (0:Int)),(.int .i64 (1:Int)),(.int .i64 (4:Int))]:List PV) ([(.int .i64 (3:Int)),(.int .i64 (1:Int))]:List PV))
def ypC (K:Int→List PV→List PV→Int→List PV→List PV→Prop):Prop:=yxI  K
def yrT (w:ypB) (as:List PV) (K:PV→Prop):Prop :=
 match as with
 | []=>w  (fun r0 r1 r2 r3 r4 r5=>K (.tup [(.agg [(.int .i64 r0),(.data r1),(.data r2)]),(.agg [(.int .i64 r3),(.data r4),(.data r5)])]))
 | _=>False
def yxJ (as:List PV) (K:PV→Prop):Prop:=yrT ypC as K
def yE3:LP:=fun _ _ _ _ =>
 False
def yxK (e:List (Nat×EffF)):SE:=⟨(E e),lookS [],lookI [],yE3⟩
theorem yDe (e:List (Nat×EffF)) (he:EG e):SEOk (yxK e):=yag trivial trivial he.ok
theorem yE4 (e:List (Nat×EffF)) ( K):WP (yxK e) 6 yGE [] K=yxI  (fun r0 r1 r2 r3 r4 r5=>K (.tup [(.agg [(.int .i64 r0),(.data r1),(.data r2)]),(.agg [(.int .i64 r3),(.data r4),(.data r5)])])):=by kernel_rfl
theorem yE5 (e:List (Nat×EffF)) (he:EG e):OkF (E e) yxJ ymy:=by
 intro as K h
 unfold yxJ yrT at h
 split at h
 · exact WP_ok (yDe e he) (yaf (by kernel_rfl)) (by kernel_rfl) (by kernel_rfl) (fun _=>yab (by kernel_rfl) _) (he.num _ (by kernel_rfl)) ((yE4 ..).mpr h)
 · exact h.elim
abbrev ytr:Type:=Int→(Int→Int→Prop)→Prop
def yzH (a0:yge) (p0:Int) (K:Int→Int→Prop):Prop :=
 (a0 p0 (fun yi2 yi3 =>
 (K yi2 yi3)))
def yts (p0:Int) (K:Int→Int→Prop):Prop:=yzH yiI p0 K
def yuB (w:ytr) (as:List PV) (K:PV→Prop):Prop :=
 match as with
 | [(.int .i64 p0)]=>w p0 (fun r0 r1=>K (.agg [(.int .i64 r0),(.int .i64 r1)]))
 | _=>False
def yzI (as:List PV) (K:PV→Prop):Prop:=yuB yts as K
def yGN (_:yge):LP:=fun _ _ _ _ =>
 False
def yzJ (e:List (Nat×EffF)) (a0:yge):SE:=⟨(E e),lookS [(yfl,ymL a0)],lookI [],yGN a0⟩
theorem yE6 (e:List (Nat×EffF)) (he:EG e):SEOk (yzJ e yiI):=yag ⟨(yus e he),trivial⟩ trivial he.ok
theorem yGO (e:List (Nat×EffF)) (a0 p0 K):WP (yzJ e a0) 6 yHQ [(.int .i64 p0)] K=yzH a0 p0 (fun r0 r1=>K (.agg [(.int .i64 r0),(.int .i64 r1)])):=by kernel_rfl
theorem yGP (e:List (Nat×EffF)) (he:EG e):OkF (E e) yzI yeJ:=by
 intro as K h
 unfold yzI yuB at h
 split at h
 · exact WP_ok (yE6 e he) (yaf (by kernel_rfl)) (by kernel_rfl) (by kernel_rfl) (fun _=>yab (by kernel_rfl) _) (he.num _ (by kernel_rfl)) ((yGO ..).mpr h)
 · exact h.elim
abbrev ylt:Type:=(Bool→Prop)→Prop
def ynS (a0:ylr) (a1:yil) (a2:ypB) (a3:ytr) (a4:yaC) (a5:ya6) (a6:yeA) (a7:ynO) (a8:ynP) (K:Bool→Prop):Prop :=
 (a0  (fun yl5 =>
 (a1 yl5 (fun yl6 yl7 yl8 yi9 =>
 (a2  (fun yi16 yl17 yl18 yi19 yl20 yl21 =>
 (a3 (0:Int) (fun yi27 yi28 =>
 (a4 yi16 yl17 yl18 yi27 yi28 (fun yi29 yi30 yi31 =>
 (a3 (0:Int) (fun yi37 yi38 =>
 (a5 yi16 yl17 yl18 yi19 yl20 yl21 yi37 yi38 (fun yi39 yi40 yi41 =>
 (a3 (1:Int) (fun yi47 yi48 =>
 (a5 yi16 yl17 yl18 yi19 yl20 yl21 yi47 yi48 (fun yi49 yi50 yi51 =>
 (a6 yi16 yl17 yl18 yi19 yl20 yl21 (fun yi57 yi58 yi59 yi60 yi61 =>
 (jn (fun (yj75:Bool→Prop) =>
 (cbr (yi9 ==(0:Int))
 (a7 yl7 ([(.int .i64 (2:Int)),(.int .i64 (0:Int)),(.int .i64 (1:Int))]:List PV) (fun yb76 =>
 (cbr yb76
 (cbr ((((List.length yl8):Nat):Int) ==(5:Int))
 (a3 (6:Int) (fun yi77 yi78 =>
 (a3 (0:Int) (fun yi79 yi80 =>
 (a8 yl6 ([(.data ([(.agg [(.int .i64 (2:Int)),(.int .i64 (3:Int)),(.int .i64 (8:Int)),(.int .i64 (3:Int))])]:List PV)),(.data ([(.agg [(.int .i64 (8:Int)),(.int .i64 (3:Int)),(.int .i64 yi77),(.int .i64 yi78)])]:List PV)),(.data ([(.agg [(.int .i64 yi79),(.int .i64 yi80),(.int .i64 (2:Int)),(.int .i64 (3:Int))])]:List PV))]:List PV) (fun yb81 =>
 (cbr yb81
 (cbr (yi31 ==(0:Int))
 (a3 (2:Int) (fun yi82 yi83 =>
 (cbr ((yi29 == yi82)&&((yi30 == yi83)&&true))
 (cbr (yi41 ==(0:Int))
 (a3 (1:Int) (fun yi84 yi85 =>
 (cbr ((yi39 == yi84)&&((yi40 == yi85)&&true))
 (cbr (yi51 ==(0:Int))
 (a3 (-1:Int) (fun yi86 yi87 =>
 (cbr ((yi49 == yi86)&&((yi50 == yi87)&&true))
 (cbr (yi61 ==(0:Int))
 (yj75 ((yi57 ==(1:Int))&&((yi58 ==(2:Int))&&((yi59 ==(5:Int))&&((yi60 ==(2:Int))&&true)))))
 (yj75 false))
 (yj75 false))))
 (yj75 false))
 (yj75 false))))
 (yj75 false))
 (yj75 false))))
 (yj75 false))
 (yj75 false))))))))
 (yj75 false))
 (yj75 false))))
 (yj75 false)))
 (fun yb74=>(K yb74)))))))))))))))))))))))
def yiM (K:Bool→Prop):Prop:=ynS yls ydO ypC yts yan yaB yc2 ygv ygw  K
def ynT (w:ylt) (as:List PV) (K:PV→Prop):Prop :=
 match as with
 | []=>w  (fun r0=>K (.bool r0))
 | _=>False
def ytt (as:List PV) (K:PV→Prop):Prop:=ynT yiM as K
def yBl (_:ylr) (_:yil) (_:ypB) (_:ytr) (_:yaC) (_:ya6) (_:yeA) (_:ynO) (_:ynP):LP:=fun _ _ _ _ =>
 False
def ytu (e:List (Nat×EffF)) (a0:ylr) (a1:yil) (a2:ypB) (a3:ytr) (a4:yaC) (a5:ya6) (a6:yeA) (a7:ynO) (a8:ynP):SE:=⟨(E e),lookS [(yiz,ynR a0),(yf7,ykF a1),(ymy,yrT a2),(yeJ,yuB a3),(yby,yd7 a4),(ycw,yg7 a5),(yel,yin a6),(yj7,yo7 a7),(yj9,ypd a8)],lookI [],yBl a0 a1 a2 a3 a4 a5 a6 a7 a8⟩
theorem yzg (e:List (Nat×EffF)) (he:EG e):SEOk (ytu e yls ydO ypC yts yan yaB yc2 ygv ygw):=yag ⟨(yBk e he),(yoP e he),(yE5 e he),(yGP e he),(yg6 e he),(ynl e he),(ymd e he),(yvm e he),(yvq e he),trivial⟩ trivial he.ok
theorem yBm (e:List (Nat×EffF)) (a0 a1 a2 a3 a4 a5 a6 a7 a8 K):WP (ytu e a0 a1 a2 a3 a4 a5 a6 a7 a8) 6 yCw [] K=ynS a0 a1 a2 a3 a4 a5 a6 a7 a8  (fun r0=>K (.bool r0)):=by kernel_rfl
theorem yBn (e:List (Nat×EffF)) (he:EG e):OkF (E e) ytt yfm:=by
 intro as K h
 unfold ytt ynT at h
 split at h
 · exact WP_ok (yzg e he) (yaf (by kernel_rfl)) (by kernel_rfl) (by kernel_rfl) (fun _=>yab (by kernel_rfl) _) (he.num _ (by kernel_rfl)) ((yBm ..).mpr h)
 · exact h.elim
abbrev yuC:Type:=Int→List PV→List PV→Int→List PV→List PV→Int→Int→(Bool→Prop)→Prop
def yhj (a0:yjO) (a1:ylt) (a2:yeA) (a3:ydI) (a4:yaC) (a5:ylj) (a6:ynQ) (a7:yaY) (a8:ya6) (p0:Int) (p1 p2:List PV) (p3:Int) (p4 p5:List PV) (p6 p7:Int) (K:Bool→Prop):Prop :=
 (a0 p0 p1 p2 p3 p4 p5 (fun yb5 =>
 (cbr (!yb5)
 (a1  (fun yb7 =>
 (K yb7)))
 (a2 p0 p1 p2 p3 p4 p5 (fun yi13 yi14 yi15 yi16 yi17 =>
 (jn (fun (yj27:Bool→Prop) =>
 (cbr (yi17 !=(0:Int))
 (yj27 true)
 (a3 p0 yi13 yi14 (fun yb96 =>
 (cbr (!yb96)
 (yj27 true)
 (a3 p0 yi15 yi16 (fun yb97 =>
 (yj27 (!yb97)))))))))
 (fun yb26=>(cbr yb26
 (K false)
 (a4 p0 p1 p2 yi13 yi14 (fun yi31 yi32 yi33 =>
 (a5 p0 p1 p2 yi13 yi14 yi15 yi16 (fun yi37 yi38 yi39 =>
 (a5 p3 p4 p5 yi13 yi14 yi15 yi16 (fun yi43 yi44 yi45 =>
 (jn (fun (yj61:Bool→Prop) =>
 (cbr (yi33 !=(0:Int))
 (yj61 true)
 (cbr (!((yi31 == yi15)&&((yi32 == yi16)&&true)))
 (yj61 true)
 (cbr (yi39 !=(0:Int))
 (yj61 true)
 (a6 p0 p1 p2 (fun yi92 yi93 =>
 (cbr (!((yi37 == yi92)&&((yi38 == yi93)&&true)))
 (yj61 true)
 (cbr (yi45 !=(0:Int))
 (yj61 true)
 (a6 p3 p4 p5 (fun yi94 yi95 =>
 (yj61 (!((yi43 == yi94)&&((yi44 == yi95)&&true))))))))))))))
 (fun yb60=>(cbr yb60
 (K false)
 (jn (fun (yj73:Bool→Prop) =>
 (a3 p0 p6 p7 (fun yb90 =>
 (cbr (!yb90)
 (yj73 true)
 (a7 p6 p7 yi13 yi14 (fun yb91 =>
 (yj73 (!yb91))))))))
 (fun yb72=>(cbr yb72
 (a1  (fun yb75 =>
 (K yb75)))
 (a8 p0 p1 p2 p3 p4 p5 p6 p7 (fun yi79 _ yi81 =>
 (jn (fun (yj86:Bool→Prop) =>
 (cbr (yi81 ==(0:Int))
 (cbr (yi79 !=(0:Int))
 (a1  (fun yb87 =>
 (yj86 yb87)))
 (cbr (yi81 ==(16:Int))
 (a1  (fun yb88 =>
 (yj86 yb88)))
 (yj86 false)))
 (cbr (yi81 ==(16:Int))
 (a1  (fun yb89 =>
 (yj86 yb89)))
 (yj86 false))))
 (fun yb85=>(K yb85)))))))))))))))))))))))))
def yfV (p0:Int) (p1 p2:List PV) (p3:Int) (p4 p5:List PV) (p6 p7:Int) (K:Bool→Prop):Prop:=yhj yeF yiM yc2 ycz yan yfx ykU yba yaB p0 p1 p2 p3 p4 p5 p6 p7 K
def ylu (w:yuC) (as:List PV) (K:PV→Prop):Prop :=
 match as with
 | [(.agg [(.int .i64 p0),(.data p1),(.data p2)]),(.agg [(.int .i64 p3),(.data p4),(.data p5)]),(.agg [(.int .i64 p6),(.int .i64 p7)])]=>w p0 p1 p2 p3 p4 p5 p6 p7 (fun r0=>K (.bool r0))
 | _=>False
def ylv (as:List PV) (K:PV→Prop):Prop:=ylu yfV as K
def ytv (_:yjO) (_:ylt) (_:yeA) (_:ydI) (_:yaC) (_:ylj) (_:ynQ) (_:yaY) (_:ya6):LP:=fun _ _ _ _ =>
 False
def ylw (e:List (Nat×EffF)) (a0:yjO) (a1:ylt) (a2:yeA) (a3:ydI) (a4:yaC) (a5:ylj) (a6:ynQ) (a7:yaY) (a8:ya6):SE:=⟨(E e),lookS [(ygO,yml a0),(yfm,ynT a1),(yel,yin a2),(yc5,yjG a3),(yby,yd7 a4),(ygD,ynH a5),(yhx,ypg a6),(ybF,yeh a7),(ycw,yg7 a8)],lookI [],ytv a0 a1 a2 a3 a4 a5 a6 a7 a8⟩
theorem yrU (e:List (Nat×EffF)) (he:EG e):SEOk (ylw e yeF yiM yc2 ycz yan yfx ykU yba yaB):=yag ⟨(yze e he),(yBn e he),(ymd e he),(ys6 e he),(yg6 e he),(ytc e he),(yDc e he),(ygI e he),(ynl e he),trivial⟩ trivial he.ok
theorem ytw (e:List (Nat×EffF)) (a0 a1 a2 a3 a4 a5 a6 a7 a8 p0 p1 p2 p3 p4 p5 p6 p7 K):WP (ylw e a0 a1 a2 a3 a4 a5 a6 a7 a8) 6 yt2 [(.agg [(.int .i64 p0),(.data p1),(.data p2)]),(.agg [(.int .i64 p3),(.data p4),(.data p5)]),(.agg [(.int .i64 p6),(.int .i64 p7)])] K=yhj a0 a1 a2 a3 a4 a5 a6 a7 a8 p0 p1 p2 p3 p4 p5 p6 p7 (fun r0=>K (.bool r0)):=by kernel_rfl
theorem ytx (e:List (Nat×EffF)) (he:EG e):OkF (E e) ylv yhy:=by
 intro as K h
 unfold ylv ylu at h
 split at h
 · exact WP_ok (yrU e he) (yaf (by kernel_rfl)) (by kernel_rfl) (by kernel_rfl) (fun _=>yab (by kernel_rfl) _) (he.num _ (by kernel_rfl)) ((ytw ..).mpr h)
 · exact h.elim
end Go.Pf.Vc
namespace Go.Pf.Vc
open Go Go.Pf
def I64 (n:Int):Prop:=-9223372036854775808≤n∧n≤9223372036854775807
def U64 (n:Int):Prop:=0≤n∧n≤18446744073709551615
theorem wu64' (n:Int):IntKind.u64.wrap n=n % 18446744073709551616:=by
 simp only [IntKind.wrap,IntKind.signed,IntKind.bits,Bool.false_and,Bool.false_eq_true,if_false]
 rfl
theorem wi64' (n:Int):IntKind.i64.wrap n=if n % 18446744073709551616≥9223372036854775808 then n % 18446744073709551616-18446744073709551616 else n % 18446744073709551616:=by
 have e1:(2:Int) ^ 64=18446744073709551616:=rfl
 have e2:(2:Int) ^ (64-1)=9223372036854775808:=rfl
 simp only [IntKind.wrap,IntKind.signed,IntKind.bits,Bool.true_and,e1,e2]
 by_cases h:n % 18446744073709551616≥9223372036854775808 <;> simp [h]
theorem wu64 {n:Int} (h:U64 n):IntKind.u64.wrap n=n:=by
 unfold U64 at h
 rw [wu64']
 omega
theorem wi64 {n:Int} (h:I64 n):IntKind.i64.wrap n=n:=by
 unfold I64 at h
 rw [wi64']
 split <;> omega
theorem yac {x y:Prop}:cbr true x y=x:=rfl
theorem yaa {x y:Prop}:cbr false x y=y:=rfl
theorem yaw {x:Prop}:asr true x=x:=rfl
theorem yiv {p:Int} (h:I64 p) (K:Int→Prop):ybq p K=K (p.natAbs:Int):=by
 unfold I64 at h
 unfold ybq ylE
 by_cases hp:p<0
 · have e:IntKind.u64.wrap ((0:Int)-IntKind.u64.wrap p)=(p.natAbs:Int):=by
     rw [wu64',wu64']
     omega
   rw [decide_eq_true hp,yac,e]
 · rw [decide_eq_false hp,yaa,wu64 ⟨by omega,by omega⟩]
   congr 1
   omega
theorem yDf (x:Int→Int→Bool→Prop):∀ (n a b:Nat),b<n→ycS x n (a:Int) (b:Int)=x ((Nat.gcd a b:Nat):Int) 0 false
 | 0,a,b,h=>by omega
 | n+1,a,b,h=>by
   unfold ycS
   by_cases hb:b=0
   · subst hb
     simp [cbr]
   · have h1:(b:Int)>0:=by omega
     have h2:¬((b:Int)=0):=by omega
     rw [decide_eq_true h1,yac,decide_eq_false h2,Bool.not_false,yaw]
     have e:Int.tmod (a:Int) (b:Int)=((a % b:Nat):Int):=by rw [Int.tmod_eq_emod_of_nonneg (by omega)];omega
     rw [e,yDf x n b (a % b) (by have:=Nat.mod_lt a (show b>0 by omega);omega)]
     rw [Nat.gcd_comm a b,Nat.gcd_rec b a,Nat.gcd_comm]
theorem yuD (a b:Nat) (K:Int→Prop) (h:K ((Nat.gcd a b:Nat):Int)):ybh (a:Int) (b:Int) K:=by
 unfold ybh ym4
 exact ⟨b+1,by rw [yDf _ (b+1) a b (by omega)];exact h⟩
def RV (n d:Int):Prop:=1≤d∧d≤1000000000000000000∧-1000000000000000000≤n∧n≤1000000000000000000∧Nat.gcd n.natAbs d.natAbs=1
instance (n d:Int):Decidable (RV n d):=by unfold RV;infer_instance
def chk (n d:Int):Int:=if RV n d then 0 else 8
theorem yxL {n d:Int} (hn:I64 n) (hd:I64 d) {K:Int→Prop} (h:K (chk n d)):yaL n d K:=by
 unfold yaL ykx
 by_cases h1:d<1
 · have e:chk n d=8:=if_neg fun h=>by have:=h.1;omega
   rw [decide_eq_true h1,yac,← e];exact h
 · have hd':=hd;have hn':=hn
   unfold I64 at hd' hn'
   have ed:IntKind.u64.wrap d=((d.natAbs:Nat):Int):=by rw [wu64 ⟨by omega,by omega⟩];omega
   rw [decide_eq_false h1,yaa,yiv hn,ed]
   by_cases h2:((if ((d.natAbs:Nat):Int)>((n.natAbs:Nat):Int) then ((d.natAbs:Nat):Int) else ((n.natAbs:Nat):Int))>1000000000000000000)
   · have e:chk n d=8:=if_neg fun h=>by
       obtain ⟨a1,a2,a3,a4,_⟩:=h
       revert h2;split <;> omega
     rw [decide_eq_true h2,yac,← e];exact h
   · rw [decide_eq_false h2,yaa,yiv hn]
     refine yuD _ _ _ ?_
     have h3:0<Nat.gcd n.natAbs d.natAbs:=Nat.gcd_pos_of_pos_right _ (by omega)
     have h4:d≤1000000000000000000∧-1000000000000000000≤n∧n≤1000000000000000000:=by
       revert h2;split <;> omega
     by_cases h5:((Nat.gcd n.natAbs d.natAbs:Nat):Int)>1
     · have e:chk n d=8:=if_neg fun h=>by have:=h.2.2.2.2;omega
       rw [decide_eq_true h5,yac,← e];exact h
     · have e:chk n d=0:=if_pos ⟨by omega,h4.1,h4.2.1,h4.2.2,by omega⟩
       rw [decide_eq_false h5,yaa,← e];exact h
end Go.Pf.Vc
namespace Go.Pf.Vc
open Go Go.Pf
theorem mask32 {p:Int} (h:U64 p):IntKind.u64.wrap (BitVec.ofInt IntKind.u64.bits p&&&BitVec.ofInt IntKind.u64.bits (4294967295:Int)).toNat=p % 4294967296:=by
 unfold U64 at h
 have e1:(BitVec.ofInt 64 p).toNat=p.toNat:=by
   rw [BitVec.toNat_ofInt];omega
 have e2:(BitVec.ofInt 64 (4294967295:Int)).toNat=4294967295:=rfl
 have e3:(BitVec.ofInt IntKind.u64.bits p&&&BitVec.ofInt IntKind.u64.bits (4294967295:Int)).toNat=p.toNat % 4294967296:=by
   show (BitVec.ofInt 64 p&&&BitVec.ofInt 64 (4294967295:Int)).toNat=_
   rw [BitVec.toNat_and,e1,e2]
   exact Nat.and_two_pow_sub_one_eq_mod p.toNat 32
 rw [e3,wu64']
 omega
theorem fdiv32 (p:Int):Int.fdiv p 4294967296=p / 4294967296:=by
 rw [Int.fdiv_eq_ediv_of_nonneg _ (by omega)]
theorem ykV {a b:Int} (ha:U64 a) (hb:U64 b) (K:Int→Int→Prop):ydr a b K=K (a*b / 18446744073709551616) (a*b % 18446744073709551616):=by
 unfold ydr yrk
 simp only [fdiv32]
 rw [mask32 ha,mask32 hb]
 unfold U64 at ha hb
 have ha':=ha;have hb':=hb
 obtain ⟨x1,hx1⟩:∃ x,x=a / 4294967296:=⟨_,rfl⟩
 obtain ⟨x0,hx0⟩:∃ x,x=a % 4294967296:=⟨_,rfl⟩
 obtain ⟨y1,hy1⟩:∃ x,x=b / 4294967296:=⟨_,rfl⟩
 obtain ⟨y0,hy0⟩:∃ x,x=b % 4294967296:=⟨_,rfl⟩
 rw [← hx1,← hx0,← hy1,← hy0]
 have b1:0≤x1∧x1≤4294967295:=by omega
 have b2:0≤x0∧x0≤4294967295:=by omega
 have b3:0≤y1∧y1≤4294967295:=by omega
 have b4:0≤y0∧y0≤4294967295:=by omega
 have pb:∀ x y:Int,0≤x∧x≤4294967295→0≤y∧y≤4294967295→0≤x*y∧x*y≤18446744065119617025:=by
   intro x y hx hy
   refine ⟨Int.mul_nonneg hx.1 hy.1,?_⟩
   have:=Int.mul_le_mul hx.2 hy.2 hy.1 (by omega:(0:Int)≤4294967295)
   omega
 have p1:=pb x1 y1 b1 b3
 have p2:=pb x1 y0 b1 b4
 have p3:=pb x0 y1 b2 b3
 have p4:=pb x0 y0 b2 b4
 have ea:a=x1*4294967296+x0:=by omega
 have eb:b=y1*4294967296+y0:=by omega
 have eab:a*b=x1*y1*18446744073709551616+x1*y0*4294967296+x0*y1*4294967296+x0*y0:=by
   rw [ea,eb];grind
 obtain ⟨P,hP⟩:∃ x,x=x1*y1:=⟨_,rfl⟩
 obtain ⟨Q,hQ⟩:∃ x,x=x1*y0:=⟨_,rfl⟩
 obtain ⟨R,hR⟩:∃ x,x=x0*y1:=⟨_,rfl⟩
 obtain ⟨S,hS⟩:∃ x,x=x0*y0:=⟨_,rfl⟩
 rw [← hP] at p1;rw [← hQ] at p2;rw [← hR] at p3;rw [← hS] at p4
 rw [← hP,← hQ,← hR,← hS] at eab ⊢
 have w1:IntKind.u64.wrap S=S:=wu64 ⟨by omega,by omega⟩
 have w2:IntKind.u64.wrap Q=Q:=wu64 ⟨by omega,by omega⟩
 have w3:IntKind.u64.wrap R=R:=wu64 ⟨by omega,by omega⟩
 have w4:IntKind.u64.wrap P=P:=wu64 ⟨by omega,by omega⟩
 rw [w1,w2,w3,w4]
 have w5:IntKind.u64.wrap (Q+S / 4294967296)=Q+S / 4294967296:=wu64 ⟨by omega,by omega⟩
 rw [w5,mask32 ⟨by omega,by omega⟩]
 have w6:IntKind.u64.wrap ((Q+S / 4294967296) % 4294967296+R)=(Q+S / 4294967296) % 4294967296+R:=wu64 ⟨by omega,by omega⟩
 rw [w6]
 have w7:IntKind.u64.wrap (P+(Q+S / 4294967296) / 4294967296)=P+(Q+S / 4294967296) / 4294967296:=by
   have:a*b / 18446744073709551616≤18446744073709551615:=by
     have h1:a*b≤18446744073709551615*18446744073709551615:=by
       have:=Int.mul_le_mul ha'.2 hb'.2 hb'.1 (by omega:(0:Int)≤18446744073709551615)
       exact this
     omega
   exact wu64 ⟨by omega,by omega⟩
 rw [w7]
 have hab:a*b≤18446744073709551615*18446744073709551615:=Int.mul_le_mul ha'.2 hb'.2 hb'.1 (by omega:(0:Int)≤18446744073709551615)
 rw [eab] at hab ⊢
 rw [wu64',wu64']
 congr 1
 omega
theorem yKq {a b:Int} {K:Int→Prop} (h:K (if a=0 then b else a)):ydm [.int .i64 a,.int .i64 b] K:=by
 unfold ydm yfY
 refine ⟨3,?_⟩
 have e1:IntKind.i64.wrap 1=1:=by decide
 have e2:IntKind.i64.wrap 2=2:=by decide
 by_cases ha:a=0
 · by_cases hb:b=0
   · simp [yaU,yac,yaa,yaw,conf,confC,intOfV,e1,e2,ha,hb] at h ⊢;exact h
   · have e3:(b != 0)=true:=by simpa using hb
     simp [yaU,yac,yaa,yaw,conf,confC,intOfV,e1,e2,ha,e3] at h ⊢;exact h
 · have e3:(a != 0)=true:=by simpa using ha
   simp [yaU,yac,yaa,yaw,conf,confC,intOfV,e1,e2,ha,e3] at h ⊢;exact h
def chk2 (a b c d:Int):Int:=if chk a b=0 then chk c d else chk a b
theorem yph {a b c d:Int} (ha:I64 a) (hb:I64 b) (hc:I64 c) (hd:I64 d) {K:Int→Prop} (h:K (chk2 a b c d)):ybf a b c d K:=by
 unfold ybf yky
 exact yxL ha hb (yxL hc hd (yKq h))
end Go.Pf.Vc
namespace Go.Pf.Vc
open Go Go.Pf
def cmp3 (a b:Int):Int:=if a<b then -1 else if a>b then 1 else 0
theorem yBo (a b:Int) (K:Int→Prop):ycY a b K=K (cmp3 a b):=by
 unfold ycY yfq
 simp only [yfc,ygo,bne_self_eq_false,yaa,cmp3]
 by_cases h:a<b
 · simp [h,yac]
 · by_cases h2:a>b
   · simp [h,h2,yac,yaa]
   · simp [h,h2,yaa]
theorem yty (a b:Int) (K:Int→Prop):ycx a b K=K (cmp3 a b):=by
 unfold ycx ye8
 simp only [yer,yf1,bne_self_eq_false,yaa,cmp3]
 by_cases h:a<b
 · simp [h,yac]
 · by_cases h2:a>b
   · simp [h,h2,yac,yaa]
   · simp [h,h2,yaa]
theorem yJh {a b:Int} {K:Int→Prop} (h:K (if a=0 then b else a)):ygT [.int .i64 a,.int .i64 b] K:=by
 unfold ygT ylH
 refine ⟨3,?_⟩
 have e1:IntKind.i64.wrap 1=1:=by decide
 have e2:IntKind.i64.wrap 2=2:=by decide
 by_cases ha:a=0
 · by_cases hb:b=0
   · simp [ybM,yac,yaa,yaw,conf,confC,intOfV,e1,e2,ha,hb] at h ⊢;exact h
   · have e3:(b != 0)=true:=by simpa using hb
     simp [ybM,yac,yaa,yaw,conf,confC,intOfV,e1,e2,ha,e3] at h ⊢;exact h
 · have e3:(a != 0)=true:=by simpa using ha
   simp [ybM,yac,yaa,yaw,conf,confC,intOfV,e1,e2,ha,e3] at h ⊢;exact h
theorem I64.of {n:Int} (h1:-1000000000000000000≤n) (h2:n≤1000000000000000000):I64 n:=⟨by omega,by omega⟩
theorem yfW {a b c d:Int}:chk2 a b c d=0↔RV a b∧RV c d:=by
 unfold chk2 chk
 by_cases h1:RV a b <;> by_cases h2:RV c d <;> simp [h1,h2]
def cmpR (a b c d:Int):Int:=cmp3 (a*d) (c*b)
theorem yGQ {x y:Int} (_:0≤x) (_:0≤y):(if cmp3 (x / 18446744073709551616) (y / 18446744073709551616)=0 then cmp3 (x % 18446744073709551616) (y % 18446744073709551616) else cmp3 (x / 18446744073709551616) (y / 18446744073709551616))=cmp3 x y:=by
 unfold cmp3
 split <;> rename_i h <;> revert h <;> repeat' split <;> intro h <;> omega
theorem U64.abs {n:Int} (h:I64 n):U64 ((n.natAbs:Nat):Int):=by unfold I64 at h;unfold U64;omega
theorem yKr {a b c d:Int} (ha:I64 a) (hb:I64 b) (hc:I64 c) (hd:I64 d) {K:Int→Int→Prop} (h:K (if chk2 a b c d=0 then cmpR a b c d else 0) (chk2 a b c d)):yc6 a b c d K:=by
 unfold yc6 ym8
 refine yph ha hb hc hd ?_
 by_cases hk:chk2 a b c d=0
 · rw [if_pos hk] at h
   rw [hk] at h ⊢
   obtain ⟨⟨b1,b2,a1,a2,_⟩,d1,d2,c1,c2,_⟩:=yfW.1 hk
   simp only [bne_self_eq_false,yaa]
   by_cases hs:decide (a<0)=decide (c<0)
   · have e:(decide (a<0) != decide (c<0))=false:=by rw [hs];simp
     rw [e,yaa,yiv ha,wu64 ⟨by omega,by omega⟩,ykV (U64.abs ha) ⟨by omega,by omega⟩,yiv hc,wu64 ⟨by omega,by omega⟩,ykV (U64.abs hc) ⟨by omega,by omega⟩,yty,yty]
     refine yJh ?_
     have p1:0≤((a.natAbs:Nat):Int)*d:=Int.mul_nonneg (by omega) (by omega)
     have p2:0≤((c.natAbs:Nat):Int)*b:=Int.mul_nonneg (by omega) (by omega)
     rw [yGQ p1 p2]
     by_cases hneg:a<0
     · have hcn:c<0:=by simpa [hneg] using hs.symm
       rw [decide_eq_true hneg,yac]
       have e1:((a.natAbs:Nat):Int)*d=-(a*d):=by
         rw [show ((a.natAbs:Nat):Int)=-a by omega,Int.neg_mul]
       have e2:((c.natAbs:Nat):Int)*b=-(c*b):=by
         rw [show ((c.natAbs:Nat):Int)=-c by omega,Int.neg_mul]
       have e3:IntKind.i64.wrap (0-cmp3 (((a.natAbs:Nat):Int)*d) (((c.natAbs:Nat):Int)*b))=cmpR a b c d:=by
         rw [e1,e2]
         unfold cmpR cmp3
         rw [wi64 (by unfold I64;repeat' split <;> omega)]
         repeat' split <;> omega
       rw [e3];exact h
     · have hcn:¬c<0:=by simpa [hneg] using hs.symm
       rw [decide_eq_false hneg,yaa,show ((a.natAbs:Nat):Int)=a by omega,show ((c.natAbs:Nat):Int)=c by omega]
       exact h
   · have e:(decide (a<0) != decide (c<0))=true:=by simpa using hs
     rw [e,yac,yBo]
     have e2:cmp3 a c=cmpR a b c d:=by
       unfold cmpR cmp3
       by_cases hneg:a<0
       · have hcn:¬c<0:=by intro hcn;simp [hneg,hcn] at hs
         have q1:a*d<0:=Int.mul_neg_of_neg_of_pos hneg (by omega)
         have q2:0≤c*b:=Int.mul_nonneg (by omega) (by omega)
         rw [if_pos (by omega),if_pos (by omega)]
       · have hcn:c<0:=by
           by_cases hcn:c<0
           · exact hcn
           · simp [hneg,hcn] at hs
         have q1:c*b<0:=Int.mul_neg_of_neg_of_pos hcn (by omega)
         have q2:0≤a*d:=Int.mul_nonneg (by omega) (by omega)
         rw [if_neg (by omega),if_pos (by omega),if_neg (by omega),if_pos (by omega)]
     rw [e2];exact h
 · rw [if_neg hk] at h
   have e:(chk2 a b c d != 0)=true:=by simpa using hk
   rw [e,yac];exact h
end Go.Pf.Vc
namespace Go.Pf.Vc
open Go Go.Pf
def blen (x:Nat):Nat:=if x=0 then 0 else x.log2+1
theorem yFU (x:Nat):x<2 ^ blen x:=by
 unfold blen
 split
 · rename_i h;subst h;decide
 · exact Nat.lt_log2_self
theorem yv5 {x:Nat} (h:x≠0):2 ^ (blen x-1)≤x:=by
 unfold blen
 rw [if_neg h]
 exact Nat.log2_self_le h
theorem yJi {x m:Nat} (h1:2 ^ m≤x) (h2:x<2 ^ (m+1)):blen x=m+1:=by
 have hx:x≠0:=by have:=Nat.two_pow_pos m;omega
 unfold blen
 rw [if_neg hx]
 congr 1
 have a:=Nat.log2_self_le hx
 have b:=Nat.lt_log2_self (n:=x)
 have c1:¬(x.log2<m):=fun h=>by
   have:=Nat.pow_le_pow_right (show 0<2 by omega) (show x.log2+1≤m by omega)
   omega
 have c2:¬(m<x.log2):=fun h=>by
   have:=Nat.pow_le_pow_right (show 0<2 by omega) (show m+1≤x.log2 by omega)
   omega
 omega
theorem yHR {x k:Nat} (h:2 ^ k≤x):blen x=k+blen (x / 2 ^ k):=by
 have hp:=Nat.two_pow_pos k
 have hq:x / 2 ^ k≠0:=by
   have:=Nat.div_pos h hp
   omega
 have h1:=yv5 hq
 have h2:=yFU (x / 2 ^ k)
 obtain ⟨m,hm⟩:∃ m,blen (x / 2 ^ k)=m+1:=⟨blen (x / 2 ^ k)-1,by
   have:blen (x / 2 ^ k)≠0:=by unfold blen;rw [if_neg hq];omega
   omega⟩
 rw [hm] at h1 h2 ⊢
 rw [Nat.add_sub_cancel] at h1
 have:=yJi (x:=x) (m:=k+m) (by
     rw [Nat.pow_add]
     calc 2 ^ k*2 ^ m≤2 ^ k*(x / 2 ^ k):=Nat.mul_le_mul_left _ h1
       _≤x:=Nat.mul_div_le _ _) (by
     rw [show k+m+1=k+(m+1) by omega,Nat.pow_add]
     rw [Nat.mul_comm]
     exact (Nat.div_lt_iff_lt_mul hp).1 h2)
 omega
theorem yKs:∀ x:Nat,x<256→intOfV (List.getD len8tab x .nils)=(blen x:Int):=by decide +kernel
theorem wu8 {n:Int} (h0:0≤n) (h1:n<256):IntKind.u8.wrap n=n:=by
 have e1:(2:Int) ^ 8=256:=rfl
 simp only [IntKind.wrap,IntKind.signed,IntKind.bits,Bool.false_and,Bool.false_eq_true,if_false,e1]
 omega
theorem yJj {n:Int} (h0:0≤n) (h1:n<256):intOfV (List.getD len8tab (IntKind.u8.wrap n).toNat .nils)=(blen n.toNat:Int):=by
 rw [wu8 h0 h1]
 exact yKs n.toNat (by omega)
theorem blen8 {n:Nat} (h:n<256):blen n≤8:=by
 by_cases h0:n=0
 · subst h0;decide
 · have:=yv5 h0
   have h2:blen n-1<8:=by
     refine Nat.lt_of_not_le fun hc=>?_
     have:=Nat.pow_le_pow_right (show 0<2 by omega) hc
     omega
   omega
theorem leaf8 {n k:Int} (h0:0≤n) (h1:n<256) (hk:0≤k∧k≤56) {m:Int} (hm:m=k+blen n.toNat) {K:Int→Prop} (h:K m) :
   asr (decide ((0:Int)≤(IntKind.u8.wrap n))) (asr (decide ((IntKind.u8.wrap n)<(256:Int))) (K (IntKind.i64.wrap (k+(IntKind.i64.wrap (intOfV (List.getD len8tab ((IntKind.u8.wrap n).toNat) .nils))))))):=by
 have hb:=blen8 (n:=n.toNat) (by omega)
 have e1:IntKind.i64.wrap (blen n.toNat:Int)=blen n.toNat:=wi64 (by unfold I64;omega)
 have e2:IntKind.i64.wrap (k+blen n.toNat:Int)=k+blen n.toNat:=wi64 (by unfold I64;omega)
 rw [yJj h0 h1,wu8 h0 h1,decide_eq_true h0,yaw,decide_eq_true h1,yaw,e1,e2,← hm]
 exact h
theorem fdivn (p q:Int) (hq:0≤q):Int.fdiv p q=p / q:=Int.fdiv_eq_ediv_of_nonneg _ hq
theorem yHS {p:Int} (hp:U64 p) {K:Int→Prop} (h:K (blen p.toNat:Int)):ymI p K:=by
 unfold U64 at hp
 unfold ymI yrm
 simp only [fdivn _ 4294967296 (by omega),fdivn _ 65536 (by omega),fdivn _ 256 (by omega)]
 have key:∀ (k:Nat) (q:Int),2 ^ k≤p.toNat→q=p / (2 ^ k:Nat)→(blen p.toNat:Int)=k+blen q.toNat:=by
   intro k q hk hq
   have e:q.toNat=p.toNat / 2 ^ k:=by
     rw [hq]
     obtain ⟨m,rfl⟩:∃ m:Nat,p=m:=⟨p.toNat,by omega⟩
     rw [← Int.natCast_ediv,Int.toNat_natCast,Int.toNat_natCast]
   rw [e]
   have:=yHR hk
   omega
 by_cases h1:p≥4294967296
 · rw [decide_eq_true h1,yac]
   by_cases h2:p / 4294967296≥65536
   · rw [decide_eq_true h2,yac]
     by_cases h3:p / 4294967296 / 65536≥256
     · rw [decide_eq_true h3,yac]
       exact leaf8 (by omega) (by omega) (by omega) (key 56 _ (by omega) (by omega)) h
     · rw [decide_eq_false h3,yaa]
       exact leaf8 (by omega) (by omega) (by omega) (key 48 _ (by omega) (by omega)) h
   · rw [decide_eq_false h2,yaa]
     by_cases h3:p / 4294967296≥256
     · rw [decide_eq_true h3,yac]
       exact leaf8 (by omega) (by omega) (by omega) (key 40 _ (by omega) (by omega)) h
     · rw [decide_eq_false h3,yaa]
       exact leaf8 (by omega) (by omega) (by omega) (key 32 _ (by omega) (by omega)) h
 · rw [decide_eq_false h1,yaa]
   by_cases h2:p≥65536
   · rw [decide_eq_true h2,yac]
     by_cases h3:p / 65536≥256
     · rw [decide_eq_true h3,yac]
       exact leaf8 (by omega) (by omega) (by omega) (key 24 _ (by omega) (by omega)) h
     · rw [decide_eq_false h3,yaa]
       exact leaf8 (by omega) (by omega) (by omega) (key 16 _ (by omega) (by omega)) h
   · rw [decide_eq_false h2,yaa]
     by_cases h3:p≥256
     · rw [decide_eq_true h3,yac]
       exact leaf8 (by omega) (by omega) (by omega) (key 8 _ (by omega) (by omega)) h
     · rw [decide_eq_false h3,yaa]
       exact leaf8 (by omega) (by omega) (by omega) (by simp) h
theorem ytz {p:Int} (hp:U64 p) {K:Int→Prop} (h:K (64-blen p.toNat:Int)):yaJ p K:=by
 unfold yaJ yf3
 refine yHS hp ?_
 have hb:blen p.toNat≤64:=by
   unfold U64 at hp
   by_cases h0:p.toNat=0
   · rw [h0];decide
   · have:=yv5 h0
     have h2:blen p.toNat-1<64:=by
       refine Nat.lt_of_not_le fun hc=>?_
       have:=Nat.pow_le_pow_right (show 0<2 by omega) hc
       omega
     omega
 rw [wi64 (by unfold I64;omega)]
 exact h
end Go.Pf.Vc
namespace Go.Pf.Vc
open Go Go.Pf
structure DI (y yn1 yn0 u un q r:Int):Prop where
 hy:y=yn1*4294967296+yn0
 h1:2147483648≤yn1∧yn1≤4294967295
 h0:0≤yn0∧yn0≤4294967295
 hn:0≤un∧un≤4294967295
 hu:q*yn1+r=u
 hq:0≤q∧q≤4294967297
 hr:0≤r∧r≤4294967295
 hlt:u<y
 hU:u*4294967296+un<(q+1)*y
def DG (y u un q:Int):Prop:=0≤q∧q≤4294967295∧q*y≤u*4294967296+un∧u*4294967296+un<(q+1)*y
theorem DI.step {y yn1 yn0 u un q r:Int} (h:DI y yn1 yn0 u un q r) {A B C:Prop}
   (hA:DG y u un (q-1)→0≤q-1→q-1≤4294967296→A)
   (hB:DI y yn1 yn0 u un (q-1) (r+yn1)→B)
   (hC:DG y u un q→C) :
   cbr (decide (q≥(4294967296:Int)))
     (cbr (decide ((IntKind.u64.wrap (r+yn1))≥(4294967296:Int))) A B)
     (cbr (decide ((IntKind.u64.wrap (q*yn0))>(IntKind.u64.wrap ((IntKind.u64.wrap ((4294967296:Int)*r))+un))))
       (cbr (decide ((IntKind.u64.wrap (r+yn1))≥(4294967296:Int))) A B) C):=by
 have h':=h
 obtain ⟨hy,h1,h0,hn,hu,hq,hr,hlt,hU⟩:=h
 have e1:IntKind.u64.wrap (r+yn1)=r+yn1:=wu64 ⟨by omega,by omega⟩
 have eq1:q*y=q*yn1*4294967296+q*yn0:=by rw [hy];grind
 have eq2:(q-1)*y=q*y-y:=by grind
 have eq3:(q-1)*yn1=q*yn1-yn1:=by grind
 have eq4:(q-1+1)*y=q*y:=by grind
 have eq5:(q-1)*yn0=q*yn0-yn0:=by grind
 have big:u*4294967296+un<q*y→cbr (decide ((IntKind.u64.wrap (r+yn1))≥(4294967296:Int))) A B:=by
   intro hb
   have q1:0≤q-1:=by
     refine Int.not_lt.1 fun hc=>?_
     have hq0:q=0:=by omega
     subst hq0
     simp at hb hu
     omega
   rw [e1]
   by_cases hc:r+yn1≥4294967296
   · rw [decide_eq_true hc,yac]
     have hp:(q-1)*yn0≤4294967296*4294967295:=Int.mul_le_mul (by omega) h0.2 h0.1 (by omega)
     have hle:(q-1)*y≤u*4294967296+un:=by
       have:(q-1)*y=(q-1)*yn1*4294967296+(q-1)*yn0:=by rw [hy];grind
       omega
     have hlt32:q-1≤4294967295:=by
       refine Int.not_lt.1 fun hc=>?_
       have:4294967296*y≤(q-1)*y:=Int.mul_le_mul_of_nonneg_right (by omega) (by omega)
       omega
     exact hA ⟨q1,hlt32,hle,by rw [eq4];exact hb⟩ q1 (by omega)
   · rw [decide_eq_false hc,yaa]
     exact hB ⟨hy,h1,h0,hn,by rw [eq3];omega,⟨q1,by omega⟩,⟨by omega,by omega⟩,hlt,by rw [eq4];exact hb⟩
 by_cases ha:q≥4294967296
 · rw [decide_eq_true ha,yac]
   refine big ?_
   have:4294967296*y≤q*y:=Int.mul_le_mul_of_nonneg_right (by omega) (by omega)
   omega
 · rw [decide_eq_false ha,yaa]
   have hp:q*yn0≤4294967295*4294967295:=Int.mul_le_mul (by omega) h0.2 h0.1 (by omega)
   have hp0:0≤q*yn0:=Int.mul_nonneg hq.1 h0.1
   have w1:IntKind.u64.wrap (q*yn0)=q*yn0:=wu64 ⟨hp0,by omega⟩
   have w2:IntKind.u64.wrap ((4294967296:Int)*r)=4294967296*r:=wu64 ⟨by omega,by omega⟩
   have w3:IntKind.u64.wrap ((4294967296:Int)*r+un)=4294967296*r+un:=wu64 ⟨by omega,by omega⟩
   rw [w1,w2,w3]
   by_cases hb:q*yn0>4294967296*r+un
   · rw [decide_eq_true hb,yac]
     exact big (by omega)
   · rw [decide_eq_false hb,yaa]
     exact hC ⟨hq.1,by omega,by omega,hU⟩
theorem L0_of (W:Int→(Int→Prop)→Prop) {y yn1 yn0 u un:Int} (s v un0:Int) {x0 x1:Int→Int→Int→Int→Int→Int→Int→Int→Int→Bool→Prop}
   (hx:∀ q r b,DG y u un q→x0 y s yn1 yn0 v un un0 q r b) (hx1:∀ q r b,DG y u un q→x1 y s yn1 yn0 v un un0 q r b) :
   ∀ (n:Nat) (q r:Int) (b:Bool),DI y yn1 yn0 u un q r→4294967296≤r+n*2147483648→ybW W x0 x1 (n+1) y s yn1 yn0 v un un0 q r b:=by
 intro n
 induction n with
 | zero =>
   intro q r b h hn
   have:=h.hr.2
   exact absurd hn (by omega)
 | succ n ih =>
   intro q r b h hn
   unfold ybW
   refine h.step (fun g a1 a2=>?_) (fun g=>?_) (fun g=>hx1 _ _ _ g)
   · rw [wu64 (n:=q-1) ⟨by omega,by omega⟩]
     exact hx _ _ _ g
   · have e1:IntKind.u64.wrap (q-1)=q-1:=wu64 ⟨g.hq.1,by have:=g.hq.2;omega⟩
     have e2:IntKind.u64.wrap (r+yn1)=r+yn1:=wu64 ⟨g.hr.1,by have:=g.hr.2;omega⟩
     rw [e1,e2]
     exact ih _ _ _ g (by have:=h.h1.1;omega)
theorem L1_of (W:Int→(Int→Prop)→Prop) {y yn1 yn0 u un:Int} (s q1 v:Int) {x0 x1:Int→Int→Int→Int→Int→Int→Int→Int→Int→Bool→Prop}
   (hx:∀ q r b,DG y u un q→x0 y s yn1 yn0 un q1 r v q b) (hx1:∀ q r b,DG y u un q→x1 y s yn1 yn0 un q1 r v q b) :
   ∀ (n:Nat) (q r:Int) (b:Bool),DI y yn1 yn0 u un q r→4294967296≤r+n*2147483648→ybX W x0 x1 (n+1) y s yn1 yn0 un q1 r v q b:=by
 intro n
 induction n with
 | zero =>
   intro q r b h hn
   have:=h.hr.2
   exact absurd hn (by omega)
 | succ n ih =>
   intro q r b h hn
   unfold ybX
   refine h.step (fun g a1 a2=>?_) (fun g=>?_) (fun g=>hx1 _ _ _ g)
   · rw [wu64 (n:=q-1) ⟨by omega,by omega⟩]
     exact hx _ _ _ g
   · have e1:IntKind.u64.wrap (q-1)=q-1:=wu64 ⟨g.hq.1,by have:=g.hq.2;omega⟩
     have e2:IntKind.u64.wrap (r+yn1)=r+yn1:=wu64 ⟨g.hr.1,by have:=g.hr.2;omega⟩
     rw [e1,e2]
     exact ih _ _ _ g (by have:=h.h1.1;omega)
theorem yKt (W:Int→(Int→Prop)→Prop) {y yn1 yn0 u un:Int} (s v un0:Int) {x0 x1:Int→Int→Int→Int→Int→Int→Int→Int→Int→Bool→Prop}
   (hx:∀ q r b,DG y u un q→x0 y s yn1 yn0 v un un0 q r b) (hx1:∀ q r b,DG y u un q→x1 y s yn1 yn0 v un un0 q r b) (q r:Int) (h:DI y yn1 yn0 u un q r):yeQ W x0 x1 3 y s yn1 yn0 v un un0 q r:=by
 have:=L0_of W s v un0 hx hx1 2 q r true h (by have:=h.hr.1;omega)
 unfold ybW at this
 unfold yeQ
 exact this
theorem yKu (W:Int→(Int→Prop)→Prop) {y yn1 yn0 u un:Int} (s q1 v:Int) {x0 x1:Int→Int→Int→Int→Int→Int→Int→Int→Int→Bool→Prop}
   (hx:∀ q r b,DG y u un q→x0 y s yn1 yn0 un q1 r v q b) (hx1:∀ q r b,DG y u un q→x1 y s yn1 yn0 un q1 r v q b) (q r:Int) (h:DI y yn1 yn0 u un q r):yc7 W x0 x1 3 y s yn1 yn0 un q1 r v q:=by
 have:=L1_of W s q1 v hx hx1 2 q r true h (by have:=h.hr.1;omega)
 unfold ybX at this
 unfold yc7
 exact this
end Go.Pf.Vc
namespace Go.Pf.Vc
open Go Go.Pf
theorem DI.init {y yn1 yn0 u un:Int} (hy:y=yn1*4294967296+yn0) (h1:2147483648≤yn1∧yn1≤4294967295) (h0:0≤yn0∧yn0≤4294967295) (hn:0≤un∧un≤4294967295)
   (hu:0≤u) (hlt:u<y):DI y yn1 yn0 u un (u / yn1) (u-u / yn1*yn1):=by
 have a1:=Int.mul_ediv_add_emod u yn1
 have a2:=Int.emod_nonneg u (show yn1≠0 by omega)
 have a3:=Int.emod_lt_of_pos u (show 0<yn1 by omega)
 have a4:u / yn1*yn1=yn1*(u / yn1):=Int.mul_comm _ _
 have a5:0≤u / yn1:=Int.ediv_nonneg hu (by omega)
 have a6:u / yn1≤4294967297:=by
   refine Int.not_lt.1 fun hc=>?_
   have:yn1*4294967298≤yn1*(u / yn1):=Int.mul_le_mul_of_nonneg_left (by omega) (by omega)
   omega
 refine ⟨hy,h1,h0,hn,by omega,⟨a5,a6⟩,⟨by omega,by omega⟩,hlt,?_⟩
 have e:(u / yn1+1)*y=yn1*(u / yn1)*4294967296+yn1*4294967296+(u / yn1+1)*yn0:=by
   obtain ⟨t,ht⟩:∃ t,t=u / yn1:=⟨_,rfl⟩
   rw [← ht,hy];grind
 have:0≤(u / yn1+1)*yn0:=Int.mul_nonneg (by omega) h0.1
 omega
theorem or_eq {a b:Int} {k:Nat} (ha:0≤a) (hb:0≤b∧b<2 ^ k) (hab:a*2 ^ k≤18446744073709551615∧b≤18446744073709551615) (hs:a*2 ^ k+b≤18446744073709551615) :
   IntKind.u64.wrap (BitVec.ofInt IntKind.u64.bits (a*2 ^ k)|||BitVec.ofInt IntKind.u64.bits b).toNat=a*2 ^ k+b:=by
 obtain ⟨x,rfl⟩:∃ x:Nat,a=x:=⟨a.toNat,by omega⟩
 obtain ⟨z,rfl⟩:∃ z:Nat,b=z:=⟨b.toNat,by omega⟩
 have ec:((x:Int)*2 ^ k)=((2 ^ k*x:Nat):Int):=by push_cast;exact Int.mul_comm _ _
 rw [ec] at hab hs ⊢
 have hz:z<2 ^ k:=by have:=hb.2;exact_mod_cast this
 have e:(BitVec.ofInt IntKind.u64.bits ((2 ^ k*x:Nat):Int)|||BitVec.ofInt IntKind.u64.bits (z:Int)).toNat=2 ^ k*x+z:=by
   show (BitVec.ofInt 64 ((2 ^ k*x:Nat):Int)|||BitVec.ofInt 64 (z:Int)).toNat=_
   rw [BitVec.toNat_or,BitVec.toNat_ofInt,BitVec.toNat_ofInt]
   have e1:(((2 ^ k*x:Nat):Int) % (2 ^ 64:Nat)).toNat=2 ^ k*x:=by omega
   have e2:((z:Int) % (2 ^ 64:Nat)).toNat=z:=by omega
   rw [e1,e2,Nat.two_pow_add_eq_or_of_lt hz]
 rw [e,wu64 ⟨by omega,by omega⟩]
 push_cast;rfl
theorem yFV {u un q y:Int} (h0:0≤u*4294967296+un-q*y) (h1:u*4294967296+un-q*y≤18446744073709551615) :
   IntKind.u64.wrap (IntKind.u64.wrap (IntKind.u64.wrap (u*4294967296)+un)-IntKind.u64.wrap (q*y))=u*4294967296+un-q*y:=by
 simp only [wu64']
 omega
theorem tdivn {a b:Int} (h:0≤a):Int.tdiv a b=a / b:=Int.tdiv_eq_ediv_of_nonneg h
theorem tmodn {a b:Int} (h:0≤a):Int.tmod a b=a % b:=Int.tmod_eq_emod_of_nonneg h
theorem yDg {h l y:Int} (hh:U64 h) (hl:U64 l) (hy:U64 y) (hlt:h<y) {K:Int→Int→Prop}
   (k:K ((h*18446744073709551616+l) / y) ((h*18446744073709551616+l) % y)):yeR h l y K:=by
 unfold U64 at hh hl hy
 unfold yeR yro
 have b1:(y ==(0:Int))=false:=beq_eq_false_iff_ne.2 (by omega)
 have b2:decide (y≤h)=false:=decide_eq_false (by omega)
 have b3:(!(decide (y=(0:Int))))=true:=by rw [decide_eq_false (by omega)];rfl
 rw [b1,yaa,b2,yaa,b3]
 by_cases h0:h=0
 · subst h0
   have:((0:Int) == 0)=true:=rfl
   rw [this,yac,yaw,yaw,tdivn hl.1,tmodn hl.1]
   have e:(0:Int)*18446744073709551616+l=l:=by omega
   rw [e] at k
   have b4:l / y≤l:=Int.ediv_le_self _ hl.1
   rw [wu64 ⟨Int.ediv_nonneg hl.1 (by omega),by omega⟩]
   exact k
 · have b4:(h ==(0:Int))=false:=beq_eq_false_iff_ne.2 h0
   rw [b4,yaa]
   refine ytz ⟨by omega,by omega⟩ ?_
   have hyn:y.toNat≠0:=by omega
   have c1:=yFU y.toNat
   have c2:=yv5 hyn
   have c3:blen y.toNat≤64:=by
     refine Nat.le_of_not_lt fun hc=>?_
     have:=Nat.pow_le_pow_right (show 0<2 by omega) (show 64≤blen y.toNat-1 by omega)
     omega
   have c4:1≤blen y.toNat:=by
     refine Nat.le_of_not_lt fun hc=>?_
     have:blen y.toNat=0:=by omega
     rw [this] at c1
     omega
   obtain ⟨m,hm⟩:∃ m,m=64-blen y.toNat:=⟨_,rfl⟩
   have es:(64-(blen y.toNat:Int))=(m:Int):=by omega
   rw [es]
   have m63:m≤63:=by omega
   have e1:IntKind.u64.wrap (m:Int)=m:=wu64 ⟨by omega,by omega⟩
   have e2:IntKind.u64.wrap ((64:Int)-m)=((64-m:Nat):Int):=by
     rw [wu64 ⟨by omega,by omega⟩];omega
   have e3:min ((m:Int)).toNat IntKind.u64.bits=m:=by
     show min ((m:Int)).toNat 64=m
     rw [Int.toNat_natCast];omega
   have e4:min (((64-m:Nat):Int)).toNat IntKind.u64.bits=64-m:=by
     show min (((64-m:Nat):Int)).toNat 64=64-m
     rw [Int.toNat_natCast];omega
   simp only [e1]
   rw [e2,e3,e4]
   have p64:(2:Int) ^ (64-m)*2 ^ m=18446744073709551616:=by
     rw [← Int.pow_add,show 64-m+m=64 by omega];rfl
   have p63:(2:Int) ^ (63-m)*2 ^ m=9223372036854775808:=by
     rw [← Int.pow_add,show 63-m+m=63 by omega];rfl
   have tp:(0:Int)<2 ^ m:=Int.pow_pos (by omega)
   have tp':(0:Int)<2 ^ (64-m):=Int.pow_pos (by omega)
   have y1:y<(2:Int) ^ (64-m):=by
     have:blen y.toNat=64-m:=by omega
     rw [this] at c1
     have c1':((y.toNat:Nat):Int)<((2 ^ (64-m):Nat):Int):=by exact_mod_cast c1
     push_cast at c1'
     omega
   have y2:(2:Int) ^ (63-m)≤y:=by
     have:blen y.toNat-1=63-m:=by omega
     rw [this] at c2
     have c2':((2 ^ (63-m):Nat):Int)≤((y.toNat:Nat):Int):=by exact_mod_cast c2
     push_cast at c2'
     omega
   have Y1:y*2 ^ m<18446744073709551616:=by
     have:=Int.mul_lt_mul_of_pos_right y1 tp
     omega
   have Y2:9223372036854775808≤y*2 ^ m:=by
     have:=Int.mul_le_mul_of_nonneg_right y2 (show (0:Int)≤2 ^ m by omega)
     omega
   have H1:(h+1)*2 ^ m≤y*2 ^ m:=Int.mul_le_mul_of_nonneg_right (by omega) (by omega)
   have H2:(h+1)*2 ^ m=h*2 ^ m+2 ^ m:=by grind
   have H0:0≤h*2 ^ m:=Int.mul_nonneg hh.1 (by omega)
   have fd:Int.fdiv l (2 ^ (64-m))=l / 2 ^ (64-m):=fdivn _ _ (by omega)
   have L1:=Int.mul_ediv_add_emod l (2 ^ (64-m))
   have L2:=Int.emod_nonneg l (show (2:Int) ^ (64-m)≠0 by omega)
   have L3:=Int.emod_lt_of_pos l tp'
   have L4:0≤l / 2 ^ (64-m):=Int.ediv_nonneg hl.1 (by omega)
   have L5:l / 2 ^ (64-m)<2 ^ m:=by
     refine Int.ediv_lt_of_lt_mul tp' ?_
     rw [Int.mul_comm,p64];omega
   have w1:IntKind.u64.wrap (y*2 ^ m)=y*2 ^ m:=wu64 ⟨by omega,by omega⟩
   have w2:IntKind.u64.wrap (h*2 ^ m)=h*2 ^ m:=wu64 ⟨by omega,by omega⟩
   have w3:IntKind.u64.wrap (BitVec.ofInt IntKind.u64.bits (h*2 ^ m)|||BitVec.ofInt IntKind.u64.bits (l / 2 ^ (64-m))).toNat=h*2 ^ m+l / 2 ^ (64-m) :=
     or_eq hh.1 ⟨L4,L5⟩ ⟨by omega,by omega⟩ (by omega)
   have w4:IntKind.u64.wrap (l*2 ^ m)=l % 2 ^ (64-m)*2 ^ m:=by
     have e:l*2 ^ m=(l / 2 ^ (64-m))*18446744073709551616+l % 2 ^ (64-m)*2 ^ m:=by
       rw [← p64]
       obtain ⟨a,ha⟩:∃ a,a=l / 2 ^ (64-m):=⟨_,rfl⟩
       obtain ⟨b,hb⟩:∃ b,b=l % 2 ^ (64-m):=⟨_,rfl⟩
       obtain ⟨t,ht⟩:∃ t,t=(2:Int) ^ m:=⟨_,rfl⟩
       obtain ⟨t',ht'⟩:∃ t,t=(2:Int) ^ (64-m):=⟨_,rfl⟩
       rw [← ha,← hb,← ht'] at L1
       rw [← ha,← hb,← ht,← ht']
       rw [← L1];grind
     have e5:l % 2 ^ (64-m)*2 ^ m<18446744073709551616:=by
       rw [← p64];exact Int.mul_lt_mul_of_pos_right L3 tp
     have e6:0≤l % 2 ^ (64-m)*2 ^ m:=Int.mul_nonneg L2 (by omega)
     rw [e,wu64'];omega
   have e5:l % 2 ^ (64-m)*2 ^ m<18446744073709551616:=by
     rw [← p64];exact Int.mul_lt_mul_of_pos_right L3 tp
   have e6:0≤l % 2 ^ (64-m)*2 ^ m:=Int.mul_nonneg L2 (by omega)
   have eN:(h*18446744073709551616+l)*2 ^ m=(h*2 ^ m+l / 2 ^ (64-m))*18446744073709551616+l % 2 ^ (64-m)*2 ^ m:=by
     rw [← p64]
     obtain ⟨a,ha⟩:∃ a,a=l / 2 ^ (64-m):=⟨_,rfl⟩
     obtain ⟨b,hb⟩:∃ b,b=l % 2 ^ (64-m):=⟨_,rfl⟩
     obtain ⟨t,ht⟩:∃ t,t=(2:Int) ^ m:=⟨_,rfl⟩
     obtain ⟨t',ht'⟩:∃ t,t=(2:Int) ^ (64-m):=⟨_,rfl⟩
     rw [← ha,← hb,← ht'] at L1
     rw [← ha,← hb,← ht,← ht']
     rw [← L1];grind
   have U1:h*2 ^ m+l / 2 ^ (64-m)<y*2 ^ m:=by omega
   have U0:0≤h*2 ^ m+l / 2 ^ (64-m):=by omega
   rw [fd,w1,w2,w3,w4]
   have b5:(!(decide ((m:Int)<0)))=true:=by rw [decide_eq_false (by omega)];rfl
   have b6:(!(decide (((64-m:Nat):Int)<0)))=true:=by rw [decide_eq_false (by omega)];rfl
   rw [b5,b6,yaw,yaw,yaw,yaw]
   generalize h*2 ^ m+l / 2 ^ (64-m)=u at *
   generalize hl0:l % 2 ^ (64-m)*2 ^ m=v at *
   generalize hY:y*2 ^ m=Y at *
   rw [fdivn Y _ (by omega),fdivn v _ (by omega),mask32 ⟨by omega,by omega⟩,mask32 ⟨by omega,by omega⟩,tdivn U0]
   have b7:(!(decide (Y / 4294967296=(0:Int))))=true:=by rw [decide_eq_false (by omega)];rfl
   rw [b7,yaw]
   obtain ⟨yn1,hyn1⟩:∃ a,a=Y / 4294967296:=⟨_,rfl⟩
   obtain ⟨yn0,hyn0⟩:∃ a,a=Y % 4294967296:=⟨_,rfl⟩
   obtain ⟨un1,hun1⟩:∃ a,a=v / 4294967296:=⟨_,rfl⟩
   obtain ⟨un0,hun0⟩:∃ a,a=v % 4294967296:=⟨_,rfl⟩
   rw [← hyn1,← hyn0,← hun1,← hun0]
   have d1:2147483648≤yn1∧yn1≤4294967295:=by omega
   have d0:0≤yn0∧yn0≤4294967295:=by omega
   have dn1:0≤un1∧un1≤4294967295:=by omega
   have dn0:0≤un0∧un0≤4294967295:=by omega
   have dY:Y=yn1*4294967296+yn0:=by omega
   have g1:=DI.init dY d1 d0 dn1 U0 U1
   have x1:IntKind.u64.wrap (u / yn1)=u / yn1:=wu64 ⟨g1.hq.1,by have:=g1.hq.2;omega⟩
   have x2:IntKind.u64.wrap (u-IntKind.u64.wrap (u / yn1*yn1))=u-u / yn1*yn1:=by
     have r1:=g1.hr.1
     have r2:0≤u / yn1*yn1:=Int.mul_nonneg g1.hq.1 (by omega)
     have r3:=g1.hr.2
     rw [wu64 (n:=u / yn1*yn1) ⟨r2,by omega⟩,wu64 ⟨r1,by omega⟩]
   rw [x1,x2]
   have fin:∀ q1:Int,DG Y u un1 q1→∀ (un21:Int),un21=u*4294967296+un1-q1*Y→∀ q0,DG Y un21 un0 q0 →
       K (IntKind.u64.wrap ((IntKind.u64.wrap (q1*(4294967296:Int)))+q0)) (Int.fdiv (IntKind.u64.wrap ((IntKind.u64.wrap ((IntKind.u64.wrap (un21*(4294967296:Int)))+un0))-(IntKind.u64.wrap (q0*Y)))) (2 ^ (min ((m:Int)).toNat IntKind.u64.bits))):=by
     intro q1 G1 un21 e21 q0 G0
     obtain ⟨a1,a2,a3,a4⟩:=G1
     obtain ⟨c1,c2,c3,c4⟩:=G0
     have s1:(q1+1)*Y=q1*Y+Y:=by grind
     have s0:(q0+1)*Y=q0*Y+Y:=by grind
     have w5:IntKind.u64.wrap (q1*4294967296)=q1*4294967296:=wu64 ⟨by omega,by omega⟩
     have w6:IntKind.u64.wrap (q1*4294967296+q0)=q1*4294967296+q0:=wu64 ⟨by omega,by omega⟩
     rw [yFV (by omega) (by omega),w5,w6,e3,fdivn _ _ (by omega)]
     have eT:un21*4294967296+un0-q0*Y=(h*18446744073709551616+l-(q1*4294967296+q0)*y)*2 ^ m:=by
       have f1:(q1*4294967296+q0)*Y=q1*Y*4294967296+q0*Y:=by grind
       have f2:(h*18446744073709551616+l-(q1*4294967296+q0)*y)*2 ^ m=(h*18446744073709551616+l)*2 ^ m-(q1*4294967296+q0)*Y:=by
         rw [← hY,Int.sub_mul,Int.mul_assoc (q1*4294967296+q0)]
       rw [f2,f1,eN]
       omega
     rw [eT,Int.mul_ediv_cancel _ (by omega)]
     have r0:0≤h*18446744073709551616+l-(q1*4294967296+q0)*y:=by
       refine Int.not_lt.1 fun hc=>?_
       have:=Int.mul_neg_of_neg_of_pos hc tp
       omega
     have r1:h*18446744073709551616+l-(q1*4294967296+q0)*y<y:=by
       refine Int.not_le.1 fun hc=>?_
       have:=Int.mul_le_mul_of_nonneg_right hc (show (0:Int)≤2 ^ m by omega)
       omega
     obtain ⟨Q,hQ⟩:∃ Q,Q=q1*4294967296+q0:=⟨_,rfl⟩
     rw [← hQ] at r0 r1 ⊢
     have z1:(h*18446744073709551616+l) / y=Q:=by
       have:h*18446744073709551616+l=(h*18446744073709551616+l-Q*y)+Q*y:=by omega
       rw [this,Int.add_mul_ediv_right _ _ (by omega),Int.ediv_eq_zero_of_lt r0 r1];omega
     have z2:(h*18446744073709551616+l) % y=h*18446744073709551616+l-Q*y:=by
       have:=Int.mul_ediv_add_emod (h*18446744073709551616+l) y
       rw [z1,Int.mul_comm] at this
       omega
     rw [z1,z2] at k
     exact k
   have mid:∀ q:Int,DG Y u un1 q→∀ (X:Int→Int→Int→Int→Int→Int→Int→Int→Int→Bool→Prop),(∀ q0 r0 b0,DG Y (u*4294967296+un1-q*Y) un0 q0→X Y m yn1 yn0 un0 q r0 (u*4294967296+un1-q*Y) q0 b0) →
       asr (!(decide (yn1=(0:Int)))) (∃ n:Nat,yc7 yaJ X X n Y m yn1 yn0 un0 q ((IntKind.u64.wrap ((IntKind.u64.wrap ((IntKind.u64.wrap ((IntKind.u64.wrap (u*(4294967296:Int)))+un1))-(IntKind.u64.wrap (q*Y))))-(IntKind.u64.wrap ((IntKind.u64.wrap (Int.tdiv (IntKind.u64.wrap ((IntKind.u64.wrap ((IntKind.u64.wrap (u*(4294967296:Int)))+un1))-(IntKind.u64.wrap (q*Y)))) yn1))*yn1))))) (IntKind.u64.wrap ((IntKind.u64.wrap ((IntKind.u64.wrap (u*(4294967296:Int)))+un1))-(IntKind.u64.wrap (q*Y)))) (IntKind.u64.wrap (Int.tdiv (IntKind.u64.wrap ((IntKind.u64.wrap ((IntKind.u64.wrap (u*(4294967296:Int)))+un1))-(IntKind.u64.wrap (q*Y)))) yn1))):=by
     intro q G X hX
     obtain ⟨a1,a2,a3,a4⟩:=G
     have s1:(q+1)*Y=q*Y+Y:=by grind
     have b8:(!(decide (yn1=(0:Int))))=true:=by rw [decide_eq_false (by omega)];rfl
     rw [b8,yaw,yFV (by omega) (by omega),tdivn (by omega)]
     have g0:=DI.init dY d1 d0 dn0 (u:=u*4294967296+un1-q*Y) (by omega) (by omega)
     generalize u*4294967296+un1-q*Y=u2 at *
     have x1:IntKind.u64.wrap (u2 / yn1)=u2 / yn1:=wu64 ⟨g0.hq.1,by have:=g0.hq.2;omega⟩
     have x2:IntKind.u64.wrap (u2-IntKind.u64.wrap (u2 / yn1*yn1))=u2-u2 / yn1*yn1:=by
       have r1:=g0.hr.1
       have r2:0≤u2 / yn1*yn1:=Int.mul_nonneg g0.hq.1 (by omega)
       have r3:=g0.hr.2
       have r4:=g0.hlt
       rw [wu64 (n:=u2 / yn1*yn1) ⟨r2,by omega⟩,wu64 ⟨r1,by omega⟩]
     rw [x1,x2]
     exact ⟨3,yKu _ _ _ _ (fun q0 r0 b0 g=>hX q0 r0 b0 g) (fun q0 r0 b0 g=>hX q0 r0 b0 g) _ _ g0⟩
   have leaf:∀ {P:Prop},P→asr (!(decide ((m:Int)<0))) P:=fun p=>by rw [b5,yaw];exact p
   refine ⟨3,yKt _ _ _ _ (fun q r b G=>?_) (fun q r b G=>?_) _ _ g1⟩
   · exact mid q G _ (fun q0 r0 b0 G0=>leaf (fin q G _ rfl q0 G0))
   · exact mid q G _ (fun q0 r0 b0 G0=>leaf (fin q G _ rfl q0 G0))
end Go.Pf.Vc
namespace Go.Pf.Vc
open Go Go.Pf
theorem yHT {h l y:Int} (hh:U64 h) (hl:U64 l) (hy:U64 y) (h0:0<y) {K:Int→Prop}
   (k:K ((h*18446744073709551616+l) % y)):ygG h l y K:=by
 unfold ygG yrp
 have b3:(!(decide (y=(0:Int))))=true:=by rw [decide_eq_false (by omega)];rfl
 have a1:=Int.emod_nonneg h (show y≠0 by omega)
 have a2:=Int.emod_lt_of_pos h h0
 have hh':=hh
 unfold U64 at hh hy
 rw [b3,yaw,tmodn hh.1]
 refine yDg ⟨a1,by omega⟩ hl ⟨by omega,by omega⟩ a2 ?_
 have e:(h % y*18446744073709551616+l) % y=(h*18446744073709551616+l) % y:=by
   rw [Int.add_emod,Int.mul_emod,Int.emod_emod,← Int.mul_emod,← Int.add_emod]
 rw [e]
 exact k
def outS (s:Bool) (a b:Int) (K:Int→Int→Int→Prop):Prop :=
 if a≤1000000000000000000∧b≤1000000000000000000 then K (if s then -a else a) b 0 else K 0 0 16
theorem ypD {s:Bool} {a b:Int} (ha:0≤a) (hb:0≤b) (K:Int→Int→Int→Prop):ybb s a b K=outS s a b K:=by
 unfold ybb yiQ outS
 by_cases h:a≤1000000000000000000∧b≤1000000000000000000
 · have e:decide ((if b>a then b else a)>(1000000000000000000:Int))=false:=by
     refine decide_eq_false ?_
     split <;> omega
   have w1:IntKind.i64.wrap a=a:=wi64 ⟨by omega,by omega⟩
   have w2:IntKind.i64.wrap b=b:=wi64 ⟨by omega,by omega⟩
   have w3:IntKind.i64.wrap (0-a)=-a:=by rw [wi64 ⟨by omega,by omega⟩];omega
   rw [e,yaa,if_pos h,w1,w2,w3]
   cases s
   · rfl
   · rfl
 · have e:decide ((if b>a then b else a)>(1000000000000000000:Int))=true:=by
     refine decide_eq_true ?_
     split <;> omega
   rw [e,yac,if_neg h]
theorem yJk {n d:Int} (hn:I64 n) (hd:I64 d) {K:Int→Int→Int→Prop}
   (k:if d=0 then K 0 0 18 else outS (decide (n<0) != decide (d<0)) ((n.natAbs / Nat.gcd n.natAbs d.natAbs:Nat):Int) ((d.natAbs / Nat.gcd n.natAbs d.natAbs:Nat):Int) K):ydC n d K:=by
 unfold ydC ylF
 by_cases h:d=0
 · rw [if_pos h] at k
   have:(d ==(0:Int))=true:=beq_iff_eq.2 h
   rw [this,yac]
   exact k
 · rw [if_neg h] at k
   have:(d ==(0:Int))=false:=beq_eq_false_iff_ne.2 h
   rw [this,yaa,yiv hn,yiv hd]
   refine yuD _ _ _ ?_
   have gp:0<Nat.gcd n.natAbs d.natAbs:=Nat.gcd_pos_of_pos_right _ (by omega)
   have b3:(!(decide (((Nat.gcd n.natAbs d.natAbs:Nat):Int)=(0:Int))))=true:=by rw [decide_eq_false (by omega)];rfl
   unfold I64 at hn hd
   have u1:n.natAbs / Nat.gcd n.natAbs d.natAbs≤n.natAbs:=Nat.div_le_self _ _
   have u2:d.natAbs / Nat.gcd n.natAbs d.natAbs≤d.natAbs:=Nat.div_le_self _ _
   rw [b3,yaw,yaw,tdivn (by omega),tdivn (by omega),← Int.natCast_ediv,← Int.natCast_ediv]
   generalize n.natAbs / Nat.gcd n.natAbs d.natAbs=A at *
   generalize d.natAbs / Nat.gcd n.natAbs d.natAbs=B at *
   rw [wu64 (n:=(A:Int)) ⟨by omega,by omega⟩,wu64 (n:=(B:Int)) ⟨by omega,by omega⟩,ypD (by omega) (by omega)]
   exact k
end Go.Pf.Vc
namespace Go.Pf.Vc
open Go Go.Pf
def numM (a c:Int) (b d:Int):Nat:=(a.natAbs / Nat.gcd a.natAbs d.natAbs)*(c.natAbs / Nat.gcd c.natAbs b.natAbs)
def denM (a c:Int) (b d:Int):Nat:=(b.natAbs / Nat.gcd c.natAbs b.natAbs)*(d.natAbs / Nat.gcd a.natAbs d.natAbs)
theorem yE7 {a b c d:Int} (ha:I64 a) (hb:I64 b) (hc:I64 c) (hd:I64 d) {K:Int→Int→Int→Prop}
   (k:if chk2 a b c d=0 then outS (decide (a<0) != decide (c<0)) (numM a c b d) (denM a c b d) K else K 0 0 (chk2 a b c d)):yak a b c d K:=by
 unfold yak ynd
 refine yph ha hb hc hd ?_
 by_cases h:chk2 a b c d=0
 · rw [if_pos h] at k
   have:(chk2 a b c d !=(0:Int))=false:=by rw [h];rfl
   rw [this,yaa,yiv ha,yiv hc]
   obtain ⟨⟨b1,b2,a1,a2,_⟩,d1,d2,c1,c2,_⟩:=yfW.1 h
   have wb:IntKind.u64.wrap b=((b.natAbs:Nat):Int):=by rw [wu64 ⟨by omega,by omega⟩];omega
   have wd:IntKind.u64.wrap d=((d.natAbs:Nat):Int):=by rw [wu64 ⟨by omega,by omega⟩];omega
   rw [wb,wd]
   refine yuD _ _ _ (yuD _ _ _ ?_)
   unfold numM denM at k
   have g1:0<Nat.gcd a.natAbs d.natAbs:=Nat.gcd_pos_of_pos_right _ (by omega)
   have g2:0<Nat.gcd c.natAbs b.natAbs:=Nat.gcd_pos_of_pos_right _ (by omega)
   obtain ⟨g3,h3⟩:∃ g,g=Nat.gcd a.natAbs d.natAbs:=⟨_,rfl⟩
   obtain ⟨g4,h4⟩:∃ g,g=Nat.gcd c.natAbs b.natAbs:=⟨_,rfl⟩
   rw [← h3,← h4] at k ⊢
   rw [← h3] at g1;rw [← h4] at g2
   have n3:(!(decide ((g3:Int)=(0:Int))))=true:=by rw [decide_eq_false (by omega)];rfl
   have n4:(!(decide ((g4:Int)=(0:Int))))=true:=by rw [decide_eq_false (by omega)];rfl
   rw [n3,n4,yaw,yaw,tdivn (by omega),tdivn (by omega),tdivn (by omega),tdivn (by omega),← Int.natCast_ediv,← Int.natCast_ediv,← Int.natCast_ediv,← Int.natCast_ediv]
   have q1:a.natAbs / g3≤a.natAbs:=Nat.div_le_self _ _
   have q2:c.natAbs / g4≤c.natAbs:=Nat.div_le_self _ _
   have q3:b.natAbs / g4≤b.natAbs:=Nat.div_le_self _ _
   have q4:d.natAbs / g3≤d.natAbs:=Nat.div_le_self _ _
   generalize a.natAbs / g3=A at *
   generalize c.natAbs / g4=C at *
   generalize b.natAbs / g4=B at *
   generalize d.natAbs / g3=D at *
   rw [wu64 (n:=(A:Int)) ⟨by omega,by omega⟩,wu64 (n:=(C:Int)) ⟨by omega,by omega⟩,wu64 (n:=(B:Int)) ⟨by omega,by omega⟩,wu64 (n:=(D:Int)) ⟨by omega,by omega⟩,
     ykV ⟨by omega,by omega⟩ ⟨by omega,by omega⟩,yaw,yaw,ykV ⟨by omega,by omega⟩ ⟨by omega,by omega⟩]
   have m1:A*C≤1000000000000000000*1000000000000000000:=Nat.mul_le_mul (by omega) (by omega)
   have m2:B*D≤1000000000000000000*1000000000000000000:=Nat.mul_le_mul (by omega) (by omega)
   rw [← Int.natCast_mul,← Int.natCast_mul]
   generalize A*C=M at *
   generalize B*D=N at *
   have wm:IntKind.u64.wrap ((M:Int) / 18446744073709551616+(N:Int) / 18446744073709551616)=(M:Int) / 18446744073709551616+(N:Int) / 18446744073709551616:=wu64 ⟨by omega,by omega⟩
   rw [wm]
   by_cases hb:(M:Int) / 18446744073709551616+(N:Int) / 18446744073709551616>0
   · rw [decide_eq_true hb,yac]
     unfold outS at k
     rw [if_neg (by omega)] at k
     exact k
   · rw [decide_eq_false hb,yaa]
     have eM:(M:Int) % 18446744073709551616=M:=by omega
     have eN:(N:Int) % 18446744073709551616=N:=by omega
     rw [eM,eN]
     by_cases h0:(M:Int)>0
     · rw [decide_eq_true h0,yac,ypD (by omega) (by omega)]
       exact k
     · rw [decide_eq_false h0,yaa,ypD (by omega) (by omega)]
       have hz:M=0:=by omega
       subst hz
       unfold outS at k ⊢
       by_cases hN:(N:Int)≤1000000000000000000
       · rw [if_pos ⟨by omega,hN⟩] at k ⊢
         have e:(if (decide (a<0) != decide (c<0))=true then -((0:Nat):Int) else ((0:Nat):Int))=0:=by split <;> rfl
         rw [e] at k
         exact k
       · rw [if_neg (by omega)] at k ⊢
         exact k
 · rw [if_neg h] at k
   have:(chk2 a b c d !=(0:Int))=true:=by rw [bne_iff_ne];exact h
   rw [this,yac]
   exact k
theorem RV.swap {c d:Int} (h:RV c d) (h0:0<c):RV d c:=by
 obtain ⟨d1,d2,c1,c2,g⟩:=h
 exact ⟨by omega,c2,by omega,d2,by rw [Nat.gcd_comm];exact g⟩
theorem RV.swapn {c d:Int} (h:RV c d) (h0:c<0):RV (-d) (-c):=by
 obtain ⟨d1,d2,c1,c2,g⟩:=h
 exact ⟨by omega,by omega,by omega,by omega,by rw [Int.natAbs_neg,Int.natAbs_neg,Nat.gcd_comm];exact g⟩
theorem yKv {a b c d:Int} (ha:I64 a) (hb:I64 b) (hc:I64 c) (hd:I64 d) {K:Int→Int→Int→Prop}
   (k:if chk2 a b c d=0 then (if c=0 then K 0 0 18 else outS (decide (a<0) != decide (c<0)) (numM a d b c) (denM a d b c) K) else K 0 0 (chk2 a b c d)):yar a b c d K:=by
 unfold yar yne
 refine yph ha hb hc hd ?_
 by_cases h:chk2 a b c d=0
 · rw [if_pos h] at k
   have:(chk2 a b c d !=(0:Int))=false:=by rw [h];rfl
   rw [this,yaa]
   obtain ⟨hab,hcd⟩:=yfW.1 h
   obtain ⟨d1,d2,c1,c2,_⟩:=id hcd
   by_cases h0:c=0
   · rw [if_pos h0] at k
     have:(c ==(0:Int))=true:=beq_iff_eq.2 h0
     rw [this,yac]
     exact k
   · rw [if_neg h0] at k
     have:(c ==(0:Int))=false:=beq_eq_false_iff_ne.2 h0
     rw [this,yaa]
     by_cases hn:c<0
     · rw [decide_eq_true hn] at k
       rw [decide_eq_true hn,yac,wi64 (n:=0-d) ⟨by omega,by omega⟩,wi64 (n:=0-c) ⟨by omega,by omega⟩,Int.zero_sub,Int.zero_sub]
       have e:chk2 a b (-d) (-c)=0:=yfW.2 ⟨hab,hcd.swapn hn⟩
       refine yE7 ha hb ⟨by omega,by omega⟩ ⟨by omega,by omega⟩ ?_
       rw [if_pos e,decide_eq_true (show -d<0 by omega)]
       unfold numM denM at k ⊢
       rw [Int.natAbs_neg,Int.natAbs_neg]
       exact k
     · rw [decide_eq_false hn] at k
       rw [decide_eq_false hn,yaa]
       have e:chk2 a b d c=0:=yfW.2 ⟨hab,hcd.swap (by omega)⟩
       refine yE7 ha hb hd hc ?_
       rw [if_pos e,decide_eq_false (show ¬d<0 by omega)]
       exact k
 · rw [if_neg h] at k
   have:(chk2 a b c d !=(0:Int))=true:=by rw [bne_iff_ne];exact h
   rw [this,yac]
   exact k
end Go.Pf.Vc
namespace Go.Pf.Vc
open Go Go.Pf
theorem yJl {s:Bool} {hi lo p1 p3:Int} {g:Nat} (hh:U64 hi) (hl:U64 lo) (hg:0<g) (g1:(g:Int)≤1000000000000000000)
    (h1:0≤p1∧p1≤1000000000000000000) (h3:0≤p3∧p3≤1000000000000000000) {K:Int→Int→Int→Prop}
    (k:outS s (((hi*18446744073709551616+lo).toNat / Nat.gcd (hi*18446744073709551616+lo).toNat g:Nat):Int)
      (((p1.toNat / g)*(p3.toNat / Nat.gcd (hi*18446744073709551616+lo).toNat g):Nat):Int) K) :
    (ygG hi lo (g:Int) (fun (yi12:Int) =>
 (ybh yi12 (g:Int) (fun (yi13:Int) =>
 (cbr (decide (hi≥yi13))
 (K (0:Int) (0:Int) (16:Int))
 (yeR hi lo yi13 (fun (yi14:Int) (_:Int) =>
 (asr (!(decide ((g:Int)=(0:Int))))
 (asr (!(decide (yi13=(0:Int))))
 (ydr (IntKind.u64.wrap (Int.tdiv (IntKind.u64.wrap p1) (g:Int))) (IntKind.u64.wrap (Int.tdiv (IntKind.u64.wrap p3) yi13)) (fun (yi16:Int) (yi17:Int) =>
 (cbr (decide (yi16>(0:Int)))
 (K (0:Int) (0:Int) (16:Int))
 (ybb s yi14 yi17 (fun (yi18:Int) (yi19:Int) (yi20:Int) =>
 (K yi18 yi19 yi20))))))))))))))):=by
  unfold U64 at hh hl
  obtain ⟨X,hX⟩:∃ X:Nat,X=(hi*18446744073709551616+lo).toNat:=⟨_,rfl⟩
  have eX:hi*18446744073709551616+lo=(X:Int):=by omega
  rw [← hX] at k
  refine yHT hh hl ⟨by omega,by omega⟩ (by omega) ?_
  rw [eX,← Int.natCast_emod]
  refine yuD _ _ _ ?_
  have eg:Nat.gcd (X % g) g=Nat.gcd X g:=by rw [Nat.gcd_comm,Nat.gcd_comm X,Nat.gcd_rec g X,Nat.gcd_comm]
  rw [eg]
  have gp:0<Nat.gcd X g:=Nat.gcd_pos_of_pos_right _ hg
  have gl:Nat.gcd X g≤g:=Nat.le_of_dvd hg (Nat.gcd_dvd_right _ _)
  generalize Nat.gcd X g=G at *
  by_cases hb:hi≥(G:Int)
  · rw [decide_eq_true hb,yac]
    unfold outS at k
    have:18446744073709551616≤X / G:=by
      rw [Nat.le_div_iff_mul_le gp]
      omega
    rw [if_neg (by omega)] at k
    exact k
  · rw [decide_eq_false hb,yaa]
    refine yDg hh hl ⟨by omega,by omega⟩ (by omega) ?_
    rw [eX]
    have n3:(!(decide ((g:Int)=(0:Int))))=true:=by rw [decide_eq_false (by omega)];rfl
    have n4:(!(decide ((G:Int)=(0:Int))))=true:=by rw [decide_eq_false (by omega)];rfl
    have e1:IntKind.u64.wrap p1=(p1.toNat:Int):=by rw [wu64 ⟨by omega,by omega⟩];omega
    have e3:IntKind.u64.wrap p3=(p3.toNat:Int):=by rw [wu64 ⟨by omega,by omega⟩];omega
    rw [n3,n4,yaw,yaw,e1,e3,tdivn (by omega),tdivn (by omega),← Int.natCast_ediv,← Int.natCast_ediv,← Int.natCast_ediv]
    have q1:p1.toNat / g≤p1.toNat:=Nat.div_le_self _ _
    have q3:p3.toNat / G≤p3.toNat:=Nat.div_le_self _ _
    generalize p1.toNat / g=A at *
    generalize p3.toNat / G=B at *
    generalize X / G=N at *
    rw [wu64 (n:=(A:Int)) ⟨by omega,by omega⟩,wu64 (n:=(B:Int)) ⟨by omega,by omega⟩,ykV ⟨by omega,by omega⟩ ⟨by omega,by omega⟩,← Int.natCast_mul]
    generalize A*B=D at *
    by_cases hd:((D:Int) / 18446744073709551616)>0
    · rw [decide_eq_true hd,yac]
      unfold outS at k
      rw [if_neg (by omega)] at k
      exact k
    · rw [decide_eq_false hd,yaa]
      have eD:(D:Int) % 18446744073709551616=D:=by omega
      rw [eD,ypD (by omega) (by omega)]
      exact k
end Go.Pf.Vc
namespace Go.Pf.Vc
open Go Go.Pf
theorem yDh {p q c:Int} {K:Int→Int→Prop} (hc:c.toNat≤1) (k:K (((p.toNat+q.toNat+c.toNat) % 18446744073709551616:Nat):Int) (((p.toNat+q.toNat+c.toNat) / 18446744073709551616:Nat):Int)):yhs p q c K:=by
 unfold yhs
 rw [decide_eq_true hc,yaw]
 exact k
theorem yDi {p q c:Int} {K:Int→Int→Prop} (hc:c.toNat≤1) (k:K (((p.toNat+18446744073709551616-q.toNat-c.toNat) % 18446744073709551616:Nat):Int) ((if q.toNat+c.toNat≤p.toNat then 0 else 1:Nat):Int)):yht p q c K:=by
 unfold yht
 rw [decide_eq_true hc,yaw]
 have e:(bif Nat.ble (q.toNat+c.toNat) p.toNat then 0 else 1:Nat)=(if q.toNat+c.toNat≤p.toNat then 0 else 1:Nat):=by
   by_cases h:q.toNat+c.toNat≤p.toNat
   · rw [if_pos h,show Nat.ble (q.toNat+c.toNat) p.toNat=true from Nat.ble_eq_true_of_le h];rfl
   · rw [if_neg h]
     cases hb:Nat.ble (q.toNat+c.toNat) p.toNat
     · rfl
     · exact absurd (Nat.le_of_ble_eq_true hb) h
 rw [e]
 exact k
theorem yHU {X Y:Int} (hx:0≤X) (hy:0≤Y) (hs:X+Y<340282366920938463463374607431768211456) {F:Int→Int→Int→Int→Prop}
   (h:∀ c1 c2,F ((X+Y) % 18446744073709551616) c1 ((X+Y) / 18446744073709551616) c2) :
   yhs (X % 18446744073709551616) (Y % 18446744073709551616) 0 (fun lo c1=>yhs (X / 18446744073709551616) (Y / 18446744073709551616) c1 (fun hi c2=>F lo c1 hi c2)):=by
 obtain ⟨x,rfl⟩:∃ x:Nat,X=x:=⟨X.toNat,by omega⟩
 obtain ⟨y,rfl⟩:∃ y:Nat,Y=y:=⟨Y.toNat,by omega⟩
 refine yDh (by decide) (yDh (by omega) ?_)
 have e1:(((((x:Int) % 18446744073709551616).toNat+((y:Int) % 18446744073709551616).toNat+(0:Int).toNat) % 18446744073709551616:Nat):Int)=((x:Int)+y) % 18446744073709551616:=by omega
 have e2:(((((x:Int) / 18446744073709551616).toNat+((y:Int) / 18446744073709551616).toNat+(((((x:Int) % 18446744073709551616).toNat+((y:Int) % 18446744073709551616).toNat+(0:Int).toNat) / 18446744073709551616:Nat):Int).toNat) % 18446744073709551616:Nat):Int)=((x:Int)+y) / 18446744073709551616:=by omega
 rw [e1,e2]
 exact h _ _
theorem ytA {X Y:Int} (hy:0≤Y) (hxy:Y≤X) (hs:X<340282366920938463463374607431768211456) {F:Int→Int→Int→Int→Prop}
   (h:∀ c1 c2,F ((X-Y) % 18446744073709551616) c1 ((X-Y) / 18446744073709551616) c2) :
   yht (X % 18446744073709551616) (Y % 18446744073709551616) 0 (fun lo c1=>yht (X / 18446744073709551616) (Y / 18446744073709551616) c1 (fun hi c2=>F lo c1 hi c2)):=by
 obtain ⟨x,rfl⟩:∃ x:Nat,X=x:=⟨X.toNat,by omega⟩
 obtain ⟨y,rfl⟩:∃ y:Nat,Y=y:=⟨Y.toNat,by omega⟩
 refine yDi (by decide) (yDi (by split <;> omega) ?_)
 have e1:(((((x:Int) % 18446744073709551616).toNat+18446744073709551616-((y:Int) % 18446744073709551616).toNat-(0:Int).toNat) % 18446744073709551616:Nat):Int)=((x:Int)-y) % 18446744073709551616:=by omega
 rw [e1]
 by_cases hb:((y:Int) % 18446744073709551616).toNat+(0:Int).toNat≤((x:Int) % 18446744073709551616).toNat
 · rw [if_pos hb]
   have e2:(((((x:Int) / 18446744073709551616).toNat+18446744073709551616-((y:Int) / 18446744073709551616).toNat-((0:Nat):Int).toNat) % 18446744073709551616:Nat):Int)=((x:Int)-y) / 18446744073709551616:=by omega
   rw [e2]
   exact h _ _
 · rw [if_neg hb]
   have e2:(((((x:Int) / 18446744073709551616).toNat+18446744073709551616-((y:Int) / 18446744073709551616).toNat-((1:Nat):Int).toNat) % 18446744073709551616:Nat):Int)=((x:Int)-y) / 18446744073709551616:=by omega
   rw [e2]
   exact h _ _
end Go.Pf.Vc
namespace Go.Pf.Vc
open Go Go.Pf
def outA (s:Bool) (Z p1 p3:Int) (g:Nat) (K:Int→Int→Int→Prop):Prop :=
 if Z=0 then K 0 1 0 else outS s ((Z.toNat / Nat.gcd Z.toNat g:Nat):Int) (((p1.toNat / g)*(p3.toNat / Nat.gcd Z.toNat g):Nat):Int) K
theorem yxM {s:Bool} {Z p1 p3:Int} {g:Nat} (hz:0≤Z) (hz2:Z<340282366920938463463374607431768211456) (hg:0<g) (g1:(g:Int)≤1000000000000000000)
    (h1:0≤p1∧p1≤1000000000000000000) (h3:0≤p3∧p3≤1000000000000000000) {K:Int→Int→Int→Prop}
    (k:outA s Z p1 p3 g K) :
    cbr (Z / 18446744073709551616 ==(0:Int)) (cbr (Z % 18446744073709551616 ==(0:Int)) (K 0 1 0) (ygG (Z / 18446744073709551616) (Z % 18446744073709551616) (g:Int) (fun (yi12:Int) =>
 (ybh yi12 (g:Int) (fun (yi13:Int) =>
 (cbr (decide ((Z / 18446744073709551616)≥yi13))
 (K (0:Int) (0:Int) (16:Int))
 (yeR (Z / 18446744073709551616) (Z % 18446744073709551616) yi13 (fun (yi14:Int) (_:Int) =>
 (asr (!(decide ((g:Int)=(0:Int))))
 (asr (!(decide (yi13=(0:Int))))
 (ydr (IntKind.u64.wrap (Int.tdiv (IntKind.u64.wrap p1) (g:Int))) (IntKind.u64.wrap (Int.tdiv (IntKind.u64.wrap p3) yi13)) (fun (yi16:Int) (yi17:Int) =>
 (cbr (decide (yi16>(0:Int)))
 (K (0:Int) (0:Int) (16:Int))
 (ybb s yi14 yi17 (fun (yi18:Int) (yi19:Int) (yi20:Int) =>
 (K yi18 yi19 yi20)))))))))))))))) (ygG (Z / 18446744073709551616) (Z % 18446744073709551616) (g:Int) (fun (yi12:Int) =>
 (ybh yi12 (g:Int) (fun (yi13:Int) =>
 (cbr (decide ((Z / 18446744073709551616)≥yi13))
 (K (0:Int) (0:Int) (16:Int))
 (yeR (Z / 18446744073709551616) (Z % 18446744073709551616) yi13 (fun (yi14:Int) (_:Int) =>
 (asr (!(decide ((g:Int)=(0:Int))))
 (asr (!(decide (yi13=(0:Int))))
 (ydr (IntKind.u64.wrap (Int.tdiv (IntKind.u64.wrap p1) (g:Int))) (IntKind.u64.wrap (Int.tdiv (IntKind.u64.wrap p3) yi13)) (fun (yi16:Int) (yi17:Int) =>
 (cbr (decide (yi16>(0:Int)))
 (K (0:Int) (0:Int) (16:Int))
 (ybb s yi14 yi17 (fun (yi18:Int) (yi19:Int) (yi20:Int) =>
 (K yi18 yi19 yi20))))))))))))))):=by
  unfold outA at k
  have eZ:Z / 18446744073709551616*18446744073709551616+Z % 18446744073709551616=Z:=by omega
  by_cases h0:Z=0
  · rw [if_pos h0] at k
    subst h0
    have e1:((0:Int) / 18446744073709551616 ==(0:Int))=true:=by decide
    have e2:((0:Int) % 18446744073709551616 ==(0:Int))=true:=by decide
    rw [e1,yac,e2,yac]
    exact k
  · rw [if_neg h0] at k
    have t:=yJl (s:=s) (hi:=Z / 18446744073709551616) (lo:=Z % 18446744073709551616) (p1:=p1) (p3:=p3) (g:=g) (K:=K) ⟨by omega,by omega⟩ ⟨by omega,by omega⟩ hg g1 h1 h3 (by rw [eZ];exact k)
    cases h4:(Z / 18446744073709551616 ==(0:Int))
    · rw [yaa];exact t
    · rw [yac]
      cases h2:(Z % 18446744073709551616 ==(0:Int))
      · rw [yaa];exact t
      · have:=beq_iff_eq.1 h2
        have:=beq_iff_eq.1 h4
        exact absurd (show Z=0 by omega) h0
theorem yrV {s s':Bool} {Z Z' p1 p3:Int} {g:Nat} {K:Int→Int→Int→Prop} (k:outA s' Z' p1 p3 g K) (hz:Z=Z') (hs:Z≠0→s=s'):outA s Z p1 p3 g K:=by
 subst hz
 unfold outA at k ⊢
 by_cases h:Z=0
 · rw [if_pos h] at k ⊢;exact k
 · rw [if_neg h] at k ⊢;rw [hs h];exact k
theorem yHV {a b c d:Int} (ha:I64 a) (hb:I64 b) (hc:I64 c) (hd:I64 d) {K:Int→Int→Int→Prop}
   (k:if chk2 a b c d=0 then outA (decide (a*(d / (Nat.gcd b.natAbs d.natAbs:Nat))+c*(b / (Nat.gcd b.natAbs d.natAbs:Nat))<0))
       ((a*(d / (Nat.gcd b.natAbs d.natAbs:Nat))+c*(b / (Nat.gcd b.natAbs d.natAbs:Nat))).natAbs:Int) b d (Nat.gcd b.natAbs d.natAbs) K
     else K 0 0 (chk2 a b c d)):yaj a b c d K:=by
 unfold yaj ynb
 refine yph ha hb hc hd ?_
 by_cases h:chk2 a b c d=0
 · rw [if_pos h] at k
   have:(chk2 a b c d !=(0:Int))=false:=by rw [h];rfl
   rw [this,yaa]
   obtain ⟨⟨b1,b2,a1,a2,_⟩,d1,d2,c1,c2,_⟩:=yfW.1 h
   have wb:IntKind.u64.wrap b=((b.natAbs:Nat):Int):=by rw [wu64 ⟨by omega,by omega⟩];omega
   have wd:IntKind.u64.wrap d=((d.natAbs:Nat):Int):=by rw [wu64 ⟨by omega,by omega⟩];omega
   have g1:0<Nat.gcd b.natAbs d.natAbs:=Nat.gcd_pos_of_pos_right _ (by omega)
   have g2:Nat.gcd b.natAbs d.natAbs≤d.natAbs:=Nat.le_of_dvd (by omega) (Nat.gcd_dvd_right _ _)
   have go:ybh (IntKind.u64.wrap b) (IntKind.u64.wrap d)=ybh ((b.natAbs:Nat):Int) ((d.natAbs:Nat):Int):=by rw [wb,wd]
   rw [go]
   refine yuD _ _ _ ?_
   generalize Nat.gcd b.natAbs d.natAbs=g at *
   have n3:(!(decide ((g:Int)=(0:Int))))=true:=by rw [decide_eq_false (by omega)];rfl
   have q1:0≤b / (g:Int):=Int.ediv_nonneg (by omega) (by omega)
   have q2:0≤d / (g:Int):=Int.ediv_nonneg (by omega) (by omega)
   have q3:b / (g:Int)≤b:=Int.ediv_le_self _ (by omega)
   have q4:d / (g:Int)≤d:=Int.ediv_le_self _ (by omega)
   have ed:IntKind.u64.wrap (Int.tdiv (IntKind.u64.wrap d) (g:Int))=d / (g:Int):=by
     rw [wu64 (n:=d) ⟨by omega,by omega⟩,tdivn (by omega),wu64 ⟨by omega,by omega⟩]
   have eb:IntKind.u64.wrap (Int.tdiv (IntKind.u64.wrap b) (g:Int))=b / (g:Int):=by
     rw [wu64 (n:=b) ⟨by omega,by omega⟩,tdivn (by omega),wu64 ⟨by omega,by omega⟩]
   have ymm:∀ {c:Bool} {P:Prop},c=true→P→asr c P:=fun h p=>by rw [h,yaw];exact p
   rw [yiv ha]
   refine ymm n3 ?_
   rw [ykV (U64.abs ha) (by rw [ed];exact ⟨by omega,by omega⟩),yiv hc]
   refine ymm n3 ?_
   rw [ykV (U64.abs hc) (by rw [eb];exact ⟨by omega,by omega⟩)]
   obtain ⟨X,hX⟩:∃ X,X=((a.natAbs:Nat):Int)*IntKind.u64.wrap (Int.tdiv (IntKind.u64.wrap d) (g:Int)):=⟨_,rfl⟩
   obtain ⟨Y,hY⟩:∃ Y,Y=((c.natAbs:Nat):Int)*IntKind.u64.wrap (Int.tdiv (IntKind.u64.wrap b) (g:Int)):=⟨_,rfl⟩
   rw [← hX,← hY]
   rw [ed] at hX;rw [eb] at hY
   have X0:0≤X:=by rw [hX];exact Int.mul_nonneg (by omega) q2
   have Y0:0≤Y:=by rw [hY];exact Int.mul_nonneg (by omega) q1
   have X1:X≤1000000000000000000*1000000000000000000:=by rw [hX];exact Int.mul_le_mul (by omega) (by omega) q2 (by omega)
   have Y1:Y≤1000000000000000000*1000000000000000000:=by rw [hY];exact Int.mul_le_mul (by omega) (by omega) q1 (by omega)
   have ax:a*(d / (g:Int))=if a<0 then -X else X:=by
     split
     · rw [hX,show ((a.natAbs:Nat):Int)=-a by omega,Int.neg_mul,Int.neg_neg]
     · rw [hX,show ((a.natAbs:Nat):Int)=a by omega]
   have cy:c*(b / (g:Int))=if c<0 then -Y else Y:=by
     split
     · rw [hY,show ((c.natAbs:Nat):Int)=-c by omega,Int.neg_mul,Int.neg_neg]
     · rw [hY,show ((c.natAbs:Nat):Int)=c by omega]
   rw [ax,cy] at k
   clear hX hY ax cy ed eb n3
   by_cases hs:decide (a<0)=decide (c<0)
   · have e:(decide (a<0) == decide (c<0))=true:=beq_iff_eq.2 hs
     rw [e,yac]
     refine yHU X0 Y0 (by omega) (fun c1 c2=>?_)
     refine yxM (by omega) (by omega) g1 (by omega) ⟨by omega,b2⟩ ⟨by omega,d2⟩ (yrV k ?_ ?_)
     · by_cases h1:a<0
       · have h2:c<0:=by simpa [h1] using hs.symm
         rw [if_pos h1,if_pos h2];omega
       · have h2:¬c<0:=by simpa [h1] using hs.symm
         rw [if_neg h1,if_neg h2];omega
     · intro h0
       by_cases h1:a<0
       · have h2:c<0:=by simpa [h1] using hs.symm
         rw [if_pos h1,if_pos h2,decide_eq_true h1,decide_eq_true (by omega)]
       · have h2:¬c<0:=by simpa [h1] using hs.symm
         rw [if_neg h1,if_neg h2,decide_eq_false h1,decide_eq_false (by omega)]
   · have e:(decide (a<0) == decide (c<0))=false:=beq_eq_false_iff_ne.2 hs
     rw [e,yaa]
     have h12:(a<0∧¬c<0)∨(¬a<0∧c<0):=by
       by_cases h1:a<0 <;> by_cases h2:c<0 <;> simp [h1,h2] at hs ⊢
     by_cases hlt:X<Y
     · have kk:outA (!decide (a<0)) (Y-X) b d g K:=by
         refine yrV k ?_ ?_
         · rcases h12 with ⟨h1,h2⟩ | ⟨h1,h2⟩
           · rw [if_pos h1,if_neg h2];omega
           · rw [if_neg h1,if_pos h2];omega
         · intro h0
           rcases h12 with ⟨h1,h2⟩ | ⟨h1,h2⟩
           · rw [if_pos h1,if_neg h2,decide_eq_true h1,decide_eq_false (by omega)];rfl
           · rw [if_neg h1,if_pos h2,decide_eq_false h1,decide_eq_true (by omega)];rfl
       by_cases h1:X / 18446744073709551616<Y / 18446744073709551616
       · rw [decide_eq_true h1,yac]
         refine ytA X0 (by omega) (by omega) (fun c1 c2=>?_)
         exact yxM (by omega) (by omega) g1 (by omega) ⟨by omega,b2⟩ ⟨by omega,d2⟩ kk
       · have e1:(X / 18446744073709551616 == Y / 18446744073709551616)=true:=beq_iff_eq.2 (by omega)
         rw [decide_eq_false h1,yaa,e1,yac,decide_eq_true (show X % 18446744073709551616<Y % 18446744073709551616 by have:=beq_iff_eq.1 e1;omega),yac]
         refine ytA X0 (by omega) (by omega) (fun c1 c2=>?_)
         exact yxM (by omega) (by omega) g1 (by omega) ⟨by omega,b2⟩ ⟨by omega,d2⟩ kk
     · have kk:outA (decide (a<0)) (X-Y) b d g K:=by
         refine yrV k ?_ ?_
         · rcases h12 with ⟨h1,h2⟩ | ⟨h1,h2⟩
           · rw [if_pos h1,if_neg h2];omega
           · rw [if_neg h1,if_pos h2];omega
         · intro h0
           rcases h12 with ⟨h1,h2⟩ | ⟨h1,h2⟩
           · rw [if_pos h1,if_neg h2,decide_eq_true h1,decide_eq_true (by omega)]
           · rw [if_neg h1,if_pos h2,decide_eq_false h1,decide_eq_false (by omega)]
       have h1:¬X / 18446744073709551616<Y / 18446744073709551616:=by omega
       rw [decide_eq_false h1,yaa]
       cases e1:(X / 18446744073709551616 == Y / 18446744073709551616)
       · rw [yaa]
         refine ytA Y0 (by omega) (by omega) (fun c1 c2=>?_)
         exact yxM (by omega) (by omega) g1 (by omega) ⟨by omega,b2⟩ ⟨by omega,d2⟩ kk
       · rw [yac,decide_eq_false (show ¬X % 18446744073709551616<Y % 18446744073709551616 by have:=beq_iff_eq.1 e1;omega),yaa]
         refine ytA Y0 (by omega) (by omega) (fun c1 c2=>?_)
         exact yxM (by omega) (by omega) g1 (by omega) ⟨by omega,b2⟩ ⟨by omega,d2⟩ kk
 · rw [if_neg h] at k
   have:(chk2 a b c d !=(0:Int))=true:=by rw [bne_iff_ne];exact h
   rw [this,yac]
   exact k
end Go.Pf.Vc
namespace Go.Pf.Vc
open Go Go.Pf
theorem RV.neg {c d:Int} (h:RV c d):RV (-c) d:=by
 obtain ⟨d1,d2,c1,c2,g⟩:=h
 exact ⟨d1,d2,by omega,by omega,by rw [Int.natAbs_neg];exact g⟩
theorem yKw {a b c d:Int} (ha:I64 a) (hb:I64 b) (hc:I64 c) (hd:I64 d) {K:Int→Int→Int→Prop}
   (k:if chk2 a b c d=0 then outA (decide (a*(d / (Nat.gcd b.natAbs d.natAbs:Nat))+-c*(b / (Nat.gcd b.natAbs d.natAbs:Nat))<0))
       ((a*(d / (Nat.gcd b.natAbs d.natAbs:Nat))+-c*(b / (Nat.gcd b.natAbs d.natAbs:Nat))).natAbs:Int) b d (Nat.gcd b.natAbs d.natAbs) K
     else K 0 0 (chk2 a b c d)):yah a b c d K:=by
 unfold yah ync
 refine yph ha hb hc hd ?_
 by_cases h:chk2 a b c d=0
 · rw [if_pos h] at k
   have:(chk2 a b c d !=(0:Int))=false:=by rw [h];rfl
   rw [this,yaa]
   obtain ⟨hab,hcd⟩:=yfW.1 h
   obtain ⟨d1,d2,c1,c2,_⟩:=id hcd
   rw [wi64 (n:=0-c) ⟨by omega,by omega⟩,Int.zero_sub]
   refine yHV ha hb ⟨by omega,by omega⟩ hd ?_
   rw [if_pos (yfW.2 ⟨hab,hcd.neg⟩)]
   exact k
 · rw [if_neg h] at k
   have:(chk2 a b c d !=(0:Int))=true:=by rw [bne_iff_ne];exact h
   rw [this,yac]
   exact k
end Go.Pf.Vc
namespace Go.Pf.Vc
open Go Go.Pf
def ints (l:List Int):List PV:=l.map (PV.int .i64)
theorem yat (l:List Int):(ints l).length=l.length:=List.length_map ..
theorem ypE {l:List Int} {i:Nat} (h:i<l.length):List.getD (ints l) i .nils=.int .i64 (l.getD i 0):=by
 unfold ints
 rw [List.getD_eq_getElem?_getD,List.getD_eq_getElem?_getD,List.getElem?_map,List.getElem?_eq_getElem h]
 rfl
theorem ybv {l:List Int} {i:Nat} (h:i<l.length):intOfV (List.getD (ints l) i .nils)=l.getD i 0:=by
 rw [ypE h];rfl
theorem yh3 {l:List Int} {i:Nat} (h:i<l.length):conf (.one (.i .i64)) (List.getD (ints l) i .nils)=true:=by
 rw [ypE h];rfl
theorem ymm {c:Bool} {P:Prop} (h:c=true) (p:P):asr c P:=by rw [h,yaw];exact p
theorem asr_d {c:Prop} [Decidable c] {P:Prop} (h:c) (p:P):asr (decide c) P:=ymm (decide_eq_true h) p
end Go.Pf.Vc
namespace Go.Pf.Vc
open Go Go.Pf
theorem cbr_d {c:Prop} [Decidable c] {P Q:Prop} (h:c) (p:P):cbr (decide c) P Q:=by rw [decide_eq_true h,yac];exact p
theorem cbr_n {c:Prop} [Decidable c] {P Q:Prop} (h:¬c) (q:Q):cbr (decide c) P Q:=by rw [decide_eq_false h,yaa];exact q
def mnf (m x:Int):Int:=if x<m then x else m
theorem yHW {l:List Int} (hl:l.length<9223372036854775807) (x0:List PV→Int→Int→Bool→Prop) :
   ∀ (rest:List Int) (i:Nat) (m:Int) (n:Nat),l.drop i=rest→i≤l.length→rest.length<n→x0 (ints l) (rest.foldl mnf m) (l.length:Int) false →
     ybi x0 n (ints l) m (i:Int):=by
 intro rest
 induction rest with
 | nil =>
   intro i m n hd hi hn k
   have:i=l.length:=by
     have:=congrArg List.length hd
     rw [List.length_drop] at this
     have h2:([]:List Int).length=0:=rfl
     omega
   match n,hn with
   | n+1,_ =>
     unfold ybi
     rw [yat,this]
     exact cbr_n (by omega) k
 | cons x t ih =>
   intro i m n hd hi hn k
   have hlt:i<l.length:=by
     have:=congrArg List.length hd
     rw [List.length_drop,List.length_cons] at this
     omega
   have hx:l.getD i 0=x:=by
     have:=List.getElem_drop (xs:=l) (i:=i) (j:=0) (h:=by rw [hd];exact Nat.zero_lt_succ _)
     rw [List.getD_eq_getElem?_getD,List.getElem?_eq_getElem hlt]
     simp only [hd,List.getElem_cons_zero,Nat.add_zero] at this
     exact this.symm
   have ht:l.drop (i+1)=t:=by rw [← List.tail_drop,hd];rfl
   match n,hn with
   | n+1,hn =>
     unfold ybi
     rw [yat]
     refine cbr_d (by omega) ?_
     refine asr_d (by omega) (asr_d (by omega) (ymm (yh3 (by omega)) ?_))
     rw [Int.toNat_natCast,ybv hlt,hx,wi64 (n:=(i:Int)+1) ⟨by omega,by omega⟩]
     exact ih (i+1) _ n ht (by omega) (by rw [List.length_cons] at hn;omega) k
theorem yKx {l:List Int} (hl:l.length<9223372036854775807) {x:Int} {t:List Int} (e:l=x::t) {K:Int→Prop} (k:K (t.foldl mnf x)):ych (ints l) K:=by
 have h0:0<l.length:=by rw [e];exact Nat.zero_lt_succ _
 unfold ych yhH
 rw [yat]
 refine cbr_n (by omega) (asr_d (by omega) (ymm (yh3 h0) ⟨l.length+1,?_⟩))
 have e0:l.getD 0 0=x:=by rw [e];rfl
 rw [ybv h0,e0]
 refine yHW hl _ t 1 x _ (by rw [e];rfl) (by omega) (by rw [e,List.length_cons];omega) ?_
 exact k
def mxf (m x:Int):Int:=if x>m then x else m
theorem yHX {l:List Int} (hl:l.length<9223372036854775807) (x0:List PV→Int→Int→Bool→Prop) :
   ∀ (rest:List Int) (i:Nat) (m:Int) (n:Nat),l.drop i=rest→i≤l.length→rest.length<n→x0 (ints l) (rest.foldl mxf m) (l.length:Int) false →
     ybj x0 n (ints l) m (i:Int):=by
 intro rest
 induction rest with
 | nil =>
   intro i m n hd hi hn k
   have:i=l.length:=by
     have:=congrArg List.length hd
     rw [List.length_drop] at this
     have h2:([]:List Int).length=0:=rfl
     omega
   match n,hn with
   | n+1,_ =>
     unfold ybj
     rw [yat,this]
     exact cbr_n (by omega) k
 | cons x t ih =>
   intro i m n hd hi hn k
   have hlt:i<l.length:=by
     have:=congrArg List.length hd
     rw [List.length_drop,List.length_cons] at this
     omega
   have hx:l.getD i 0=x:=by
     have:=List.getElem_drop (xs:=l) (i:=i) (j:=0) (h:=by rw [hd];exact Nat.zero_lt_succ _)
     rw [List.getD_eq_getElem?_getD,List.getElem?_eq_getElem hlt]
     simp only [hd,List.getElem_cons_zero,Nat.add_zero] at this
     exact this.symm
   have ht:l.drop (i+1)=t:=by rw [← List.tail_drop,hd];rfl
   match n,hn with
   | n+1,hn =>
     unfold ybj
     rw [yat]
     refine cbr_d (by omega) ?_
     refine asr_d (by omega) (asr_d (by omega) (ymm (yh3 (by omega)) ?_))
     rw [Int.toNat_natCast,ybv hlt,hx,wi64 (n:=(i:Int)+1) ⟨by omega,by omega⟩]
     exact ih (i+1) _ n ht (by omega) (by rw [List.length_cons] at hn;omega) k
theorem yHY {l:List Int} (hl:l.length<9223372036854775807) {x:Int} {t:List Int} (e:l=x::t) {K:Int→Prop} (k:K (t.foldl mxf x)):yci (ints l) K:=by
 have h0:0<l.length:=by rw [e];exact Nat.zero_lt_succ _
 unfold yci yhK
 rw [yat]
 refine cbr_n (by omega) (asr_d (by omega) (ymm (yh3 h0) ⟨l.length+1,?_⟩))
 have e0:l.getD 0 0=x:=by rw [e];rfl
 rw [ybv h0,e0]
 refine yHX hl _ t 1 x _ (by rw [e];rfl) (by omega) (by rw [e,List.length_cons];omega) ?_
 exact k
end Go.Pf.Vc
namespace Go.Pf.Vc
open Go Go.Pf
def incr (l:List Int) (i:Nat):Prop:=∀ j,i≤j→j+1<l.length→l.getD j 0<l.getD (j+1) 0
theorem yE8 {l:List Int} {p2:List PV} {p0:Int} (hl:l.length<9223372036854775807) (W1 W2:List PV→(Int→Prop)→Prop) (x0:Int→Prop) (x1:Int→List PV→List PV→Int→Int→Bool→Prop) :
   ∀ (r i n:Nat),i+r+1=l.length→r<n→(incr l i→x1 p0 (ints l) p2 ((l.length:Int)-1) ((l.length:Int)-1) false)→(¬incr l i→x0 8) →
     ybN W1 W2 x0 x1 n p0 (ints l) p2 ((l.length:Int)-1) (i:Int):=by
 intro r
 induction r with
 | zero =>
   intro i n hi hn k _
   match n,hn with
   | n+1,_ =>
     unfold ybN
     have e:(i:Int)=(l.length:Int)-1:=by omega
     refine cbr_n (by omega) ?_
     rw [e]
     exact k (fun j h1 h2=>by omega)
 | succ r ih =>
   intro i n hi hn k k0
   match n,hn with
   | n+1,hn =>
     unfold ybN
     rw [wi64 (n:=(i:Int)+1) ⟨by omega,by omega⟩,yat]
     have e1:((i:Int)+1)=((i+1:Nat):Int):=by omega
     rw [e1,Int.toNat_natCast,Int.toNat_natCast]
     refine cbr_d (by omega) (asr_d (by omega) (asr_d (by omega) (ymm (yh3 (by omega)) (asr_d (by omega) (asr_d (by omega) (ymm (yh3 (by omega)) ?_))))))
     rw [ybv (by omega),ybv (by omega)]
     by_cases h:l.getD i 0≥l.getD (i+1) 0
     · exact cbr_d h (k0 fun hc=>absurd (hc i (Nat.le_refl _) (by omega)) (by omega))
     · refine cbr_n h (ih (i+1) n (by omega) (by omega) (fun hc=>k fun j h1 h2=>?_) (fun hc=>k0 fun hd=>hc fun j h1 h2=>hd j (by omega) h2))
       by_cases hj:j=i
       · subst hj;omega
       · exact hc j (by omega) h2
end Go.Pf.Vc
namespace Go.Pf.Vc
open Go Go.Pf
def small (q:Rat):Prop:=-1000000000000000000≤q.num∧q.num≤1000000000000000000∧(q.den:Int)≤1000000000000000000
instance (q:Rat):Decidable (small q):=by unfold small;infer_instance
theorem small.rv {q:Rat} (h:small q):RV q.num q.den:=by
 obtain ⟨h1,h2,h3⟩:=h
 have:=q.den_pos
 exact ⟨by omega,h3,h1,h2,q.reduced⟩
theorem yBp {n d:Int} (h:RV n d):∃ q:Rat,small q∧q.num=n∧(q.den:Int)=d:=by
 obtain ⟨h1,h2,h3,h4,h5⟩:=h
 refine ⟨⟨n,d.toNat,by omega,?_⟩,⟨h3,h4,by show ((d.toNat:Nat):Int)≤_;omega⟩,rfl,by show ((d.toNat:Nat):Int)=_;omega⟩
 have:d.natAbs=d.toNat:=by omega
 rw [this] at h5
 exact h5
theorem small.i1 {q:Rat} (h:small q):I64 q.num:=⟨by have:=h.1;omega,by have:=h.2.1;omega⟩
theorem small.i2 {q:Rat} (h:small q):I64 (q.den:Int):=⟨by omega,by have:=h.2.2;omega⟩
theorem yfC {q r:Rat} (h:small q) (k:small r):chk2 q.num q.den r.num r.den=0:=yfW.2 ⟨h.rv,k.rv⟩
def fitK (q:Rat) (K:Int→Int→Int→Prop):Prop:=if small q then K q.num q.den 0 else K 0 0 16
theorem yxN {q:Rat} {s:Bool} {a b:Int} (ha:a=(q.num.natAbs:Int)) (hb:b=(q.den:Int)) (hs:q.num≠0→s=decide (q.num<0)) (K:Int→Int→Int→Prop):outS s a b K=fitK q K:=by
 unfold outS fitK
 subst ha hb
 by_cases h:small q
 · have h':=h
   obtain ⟨h1,h2,h3⟩:=h
   rw [if_pos (show _∧_ from ⟨by omega,h3⟩),if_pos h']
   have e:(if s=true then -((q.num.natAbs:Nat):Int) else ((q.num.natAbs:Nat):Int))=q.num:=by
     by_cases h0:q.num=0
     · rw [h0];cases s <;> rfl
     · rw [hs h0]
       by_cases h1:q.num<0
       · rw [decide_eq_true h1,if_pos rfl];omega
       · rw [decide_eq_false h1,if_neg (by simp)];omega
   rw [e]
 · rw [if_neg h,if_neg]
   intro h2
   exact h ⟨by omega,by omega,h2.2⟩
theorem yDj (x:Int) (g:Nat):(Int.tdiv x g).natAbs=x.natAbs / g:=by rw [Int.natAbs_tdiv,Int.natAbs_natCast];rfl
theorem yzK {x:Int} {g:Nat} (h:(g:Int)∣x) (hx:x≠0):decide (Int.tdiv x g<0)=decide (x<0):=by
 obtain ⟨k,rfl⟩:=h
 have hg:(g:Int)≠0:=fun e=>hx (by rw [e,Int.zero_mul])
 rw [Int.mul_tdiv_cancel_left _ hg]
 have h1:(g:Int)>0:=by have:=Int.natCast_nonneg g;omega
 have:(g:Int)*k<0↔k<0:=by
   constructor
   · intro h;refine Int.not_le.1 fun hk=>?_
     have:=Int.mul_nonneg (show 0≤(g:Int) by omega) hk
     omega
   · intro h;exact Int.mul_neg_of_pos_of_neg h1 h
 simp only [this]
theorem yGR (q r:Rat):(q*r).num=Int.tdiv q.num (Nat.gcd q.num.natAbs r.den)*Int.tdiv r.num (Nat.gcd r.num.natAbs q.den) ∧
   (q*r).den=(q.den / Nat.gcd r.num.natAbs q.den)*(r.den / Nat.gcd q.num.natAbs r.den):=by
 have e:q*r=Rat.mul q r:=rfl
 rw [e]
 delta Rat.mul
 constructor
 · simp only [Int.divExact_eq_tdiv]
 · simp only [Nat.divExact_eq_div]
theorem ymQ (x:Int) (d:Nat):((Nat.gcd x.natAbs d:Nat):Int)∣x:=by
 rw [← Int.dvd_natAbs,Int.ofNat_dvd];exact Nat.gcd_dvd_left _ _
theorem yFW {x:Int} {g:Nat} (h:(g:Int)∣x) (hx:x≠0):Int.tdiv x g≠0:=by
 obtain ⟨k,rfl⟩:=h
 have hg:(g:Int)≠0:=fun e=>hx (by rw [e,Int.zero_mul])
 rw [Int.mul_tdiv_cancel_left _ hg]
 intro e;rw [e,Int.mul_zero] at hx;exact hx rfl
theorem yHZ {x y:Int} (hx:x≠0) (hy:y≠0):decide (x*y<0)=(decide (x<0) != decide (y<0)):=by
 by_cases h1:x<0 <;> by_cases h2:y<0
 · have:=Int.mul_pos_of_neg_of_neg h1 h2
   simp [h1,h2];omega
 · have:=Int.mul_neg_of_neg_of_pos h1 (show 0<y by omega)
   simp [h1,h2];omega
 · have:=Int.mul_neg_of_pos_of_neg (show 0<x by omega) h2
   simp [h1,h2];omega
 · have:=Int.mul_pos (show 0<x by omega) (show 0<y by omega)
   simp [h1,h2];omega
theorem yBq (q r:Rat) (K:Int→Int→Int→Prop):outS (decide (q.num<0) != decide (r.num<0)) (numM q.num r.num q.den r.den) (denM q.num r.num q.den r.den) K=fitK (q*r) K:=by
 obtain ⟨e1,e2⟩:=yGR q r
 refine yxN ?_ ?_ ?_ K
 · rw [e1,Int.natAbs_mul,yDj,yDj]
   simp only [numM,Int.natAbs_natCast]
 · rw [e2]
   simp only [denM,Int.natAbs_natCast]
 · intro h
   rw [e1] at h ⊢
   have h1:q.num≠0:=fun e=>h (by rw [e,Int.zero_tdiv,Int.zero_mul])
   have h2:r.num≠0:=fun e=>h (by rw [e,Int.zero_tdiv,Int.mul_zero])
   rw [yHZ (yFW (ymQ _ _) h1) (yFW (ymQ _ _) h2),yzK (ymQ _ _) h1,yzK (ymQ _ _) h2]
theorem ytB {w:(Int→Int→Int→Prop)→Prop} {q:Rat} (det:∀ r0 r1 r2,(∀ K:Int→Int→Int→Prop,K r0 r1 r2→w K)→∀ K,w K=K r0 r1 r2) (h:∀ K,fitK q K→w K) (K:Int→Int→Int→Prop):w K=fitK q K:=by
 unfold fitK at h ⊢
 by_cases hs:small q
 · simp only [if_pos hs] at h ⊢
   exact det _ _ _ h K
 · simp only [if_neg hs] at h ⊢
   exact det _ _ _ h K
theorem yv6 {q r:Rat} (hq:small q) (hr:small r) (K:Int→Int→Int→Prop):yak q.num q.den r.num r.den K=fitK (q*r) K :=
 ytB (fun r0 r1 r2 h K=>yyz _ _ _ _ r0 r1 r2 h K) (fun K k=>yE7 hq.i1 hq.i2 hr.i1 hr.i2 (by rw [if_pos (yfC hq hr),yBq];exact k)) K
theorem yGS {r:Rat} (h:r≠0):(r⁻¹).num=(if r.num<0 then -(r.den:Int) else r.den)∧(r⁻¹).den=r.num.natAbs:=by
 have h0:r.num≠0:=fun e=>h (Rat.num_eq_zero.1 e)
 constructor
 · rw [Rat.num_inv]
   by_cases h1:r.num<0
   · rw [if_pos h1,Int.sign_eq_neg_one_of_neg h1];omega
   · rw [if_neg h1,Int.sign_eq_one_of_pos (by omega)];omega
 · rw [Rat.den_inv,if_neg h0]
theorem yFX {q r:Rat} (hq:small q) (hr:small r) (h0:r≠0) (K:Int→Int→Int→Prop):yar q.num q.den r.num r.den K=fitK (q / r) K:=by
 have hn:r.num≠0:=fun e=>h0 (Rat.num_eq_zero.1 e)
 refine ytB (fun r0 r1 r2 h K=>yyA _ _ _ _ r0 r1 r2 h K) (fun K k=>yKv hq.i1 hq.i2 hr.i1 hr.i2 ?_) K
 rw [if_pos (yfC hq hr),if_neg hn]
 rw [Rat.div_def,← yBq] at k
 obtain ⟨e1,e2⟩:=yGS h0
 rw [e1,e2] at k
 have s:decide ((if r.num<0 then -(r.den:Int) else (r.den:Int))<0)=decide (r.num<0):=by
   have:=r.den_pos
   split
   · rename_i h;simp only [h];simp;omega
   · rename_i h;simp only [h];simp
 rw [s] at k
 have hd:(if r.num<0 then -(r.den:Int) else (r.den:Int)).natAbs=r.den:=by split <;> omega
 unfold numM denM at k ⊢
 simp only [hd,Int.natAbs_natCast] at k ⊢
 exact k
end Go.Pf.Vc
namespace Go.Pf.Vc
open Go Go.Pf
theorem yGT (q r:Rat):(q+r).num=(q.num*(r.den / Nat.gcd q.den r.den:Nat)+r.num*(q.den / Nat.gcd q.den r.den:Nat)) / (Nat.gcd (q.num*(r.den / Nat.gcd q.den r.den:Nat)+r.num*(q.den / Nat.gcd q.den r.den:Nat)).natAbs (Nat.gcd q.den r.den):Nat) ∧
   (q+r).den=(q.den / Nat.gcd q.den r.den)*r.den / Nat.gcd (q.num*(r.den / Nat.gcd q.den r.den:Nat)+r.num*(q.den / Nat.gcd q.den r.den:Nat)).natAbs (Nat.gcd q.den r.den):=by
 have e:q+r=Rat.add q r:=rfl
 rw [e]
 delta Rat.add
 by_cases hg:q.den.gcd r.den=1
 · simp only [hg,dif_pos,Nat.div_one,Nat.gcd_one_right,Int.natCast_one,Int.ediv_one,and_self]
 · simp only [hg,dif_neg,not_false_eq_true,Rat.maybeNormalize_eq]
   constructor
   · first | rfl | simp only [Int.divExact_eq_tdiv]
   · first | rfl | simp only []
theorem yH0 {q r:Rat} {Z:Int} {g:Nat} (e1:(q+r).num=Z / (Nat.gcd Z.natAbs g:Nat)) (e2:(q+r).den=(q.den / g)*r.den / Nat.gcd Z.natAbs g) (hgp:0<g) (hgd:g∣r.den) (K:Int→Int→Int→Prop) :
   outA (decide (Z<0)) (Z.natAbs:Int) q.den r.den g K=fitK (q+r) K:=by
 unfold outA
 by_cases h0:Z=0
 · subst h0
   have:(q+r)=0:=by
     apply Rat.num_eq_zero.1
     rw [e1];simp
   rw [this,if_pos (by rfl)]
   unfold fitK
   rw [if_pos (by decide)];rfl
 · have hne:¬((Z.natAbs:Nat):Int)=0:=by omega
   rw [if_neg hne]
   have hdv:((Nat.gcd Z.natAbs g:Nat):Int)∣Z:=ymQ _ _
   have hhp:0<Nat.gcd Z.natAbs g:=Nat.gcd_pos_of_pos_right _ hgp
   have hhg:Nat.gcd Z.natAbs g∣r.den:=Nat.dvd_trans (Nat.gcd_dvd_right _ _) hgd
   refine yxN ?_ ?_ ?_ K
   · rw [e1,Int.natAbs_ediv_of_dvd hdv];simp
   · rw [e2];simp only [Int.toNat_natCast];rw [Nat.mul_div_assoc _ hhg]
   · intro h
     rw [e1]
     obtain ⟨k,hk⟩:=hdv
     revert hhp hk
     generalize Nat.gcd Z.natAbs g=h
     intro hhp hk
     have e:Z / (h:Int)=k:=by rw [hk,Int.mul_ediv_cancel_left _ (by omega)]
     rw [e]
     have:Z<0↔k<0:=by
       rw [hk]
       constructor
       · intro hk;refine Int.not_le.1 fun hk2=>?_
         have:=Int.mul_nonneg (show 0≤(h:Int) by omega) hk2
         omega
       · intro hk;exact Int.mul_neg_of_pos_of_neg (by omega) hk
     simp only [this]
theorem yBr (q r:Rat) (K:Int→Int→Int→Prop) :
   outA (decide (q.num*((r.den:Int) / (Nat.gcd (q.den:Int).natAbs (r.den:Int).natAbs:Nat))+r.num*((q.den:Int) / (Nat.gcd (q.den:Int).natAbs (r.den:Int).natAbs:Nat))<0))
     ((q.num*((r.den:Int) / (Nat.gcd (q.den:Int).natAbs (r.den:Int).natAbs:Nat))+r.num*((q.den:Int) / (Nat.gcd (q.den:Int).natAbs (r.den:Int).natAbs:Nat))).natAbs:Int) q.den r.den (Nat.gcd (q.den:Int).natAbs (r.den:Int).natAbs) K=fitK (q+r) K:=by
 obtain ⟨e1,e2⟩:=yGT q r
 rw [Int.natCast_ediv,Int.natCast_ediv] at e1 e2
 exact yH0 e1 e2 (Nat.gcd_pos_of_pos_left _ q.den_pos) (Nat.gcd_dvd_right _ _) K
theorem yv7 {q r:Rat} (hq:small q) (hr:small r) (K:Int→Int→Int→Prop):yaj q.num q.den r.num r.den K=fitK (q+r) K :=
 ytB (fun r0 r1 r2 h K=>yyx _ _ _ _ r0 r1 r2 h K) (fun K k=>yHV hq.i1 hq.i2 hr.i1 hr.i2 (by rw [if_pos (yfC hq hr),yBr];exact k)) K
theorem ylx {q r:Rat} (hq:small q) (hr:small r) (K:Int→Int→Int→Prop):yah q.num q.den r.num r.den K=fitK (q-r) K :=
 ytB (fun r0 r1 r2 h K=>yyy _ _ _ _ r0 r1 r2 h K) (fun K k=>yKw hq.i1 hq.i2 hr.i1 hr.i2 (by
   rw [if_pos (yfC hq hr)]
   rw [Rat.sub_eq_add_neg,← yBr] at k
   exact k)) K
theorem yDk {n d:Int} (hd:d≠0) (K:Int→Int→Int→Prop):outS (decide (n<0) != decide (d<0)) ((n.natAbs / Nat.gcd n.natAbs d.natAbs:Nat):Int) ((d.natAbs / Nat.gcd n.natAbs d.natAbs:Nat):Int) K=fitK ((n:Rat) / (d:Rat)) K:=by
 have e:(n:Rat) / (d:Rat)=mkRat (if d<0 then -n else n) d.natAbs:=by
   rw [Rat.mkRat_eq_div]
   split
   · rename_i h
     have h1:((d.natAbs:Nat):Int)=-d:=by omega
     have h2:((d.natAbs:Nat):Rat)=-(d:Rat):=by rw [← Rat.intCast_natCast,h1,Rat.intCast_neg]
     rw [h2,Rat.intCast_neg]
     have h3:(d:Rat)≠0:=fun e=>hd (Rat.intCast_eq_zero_iff.1 e)
     grind
   · rename_i h
     have h1:((d.natAbs:Nat):Int)=d:=by omega
     have h2:((d.natAbs:Nat):Rat)=(d:Rat):=by rw [← Rat.intCast_natCast,h1]
     rw [h2]
 have h0:d.natAbs≠0:=by omega
 have hab:(if d<0 then -n else n).natAbs=n.natAbs:=by split <;> omega
 rw [e]
 refine yxN ?_ ?_ ?_ K
 · rw [Rat.num_mkRat,if_neg h0,hab,Int.natAbs_ediv_of_dvd,Int.natAbs_natCast,hab,Nat.gcd_comm]
   rw [← Int.dvd_natAbs,Int.ofNat_dvd,hab];exact Nat.gcd_dvd_right _ _
 · rw [Rat.den_mkRat,if_neg h0,hab,Nat.gcd_comm]
 · rw [Rat.num_mkRat,if_neg h0,hab]
   have hdv:((Nat.gcd d.natAbs n.natAbs:Nat):Int)∣(if d<0 then -n else n):=by
     rw [← Int.dvd_natAbs,Int.ofNat_dvd,hab];exact Nat.gcd_dvd_right _ _
   have hp:0<Nat.gcd d.natAbs n.natAbs:=Nat.gcd_pos_of_pos_left _ (by omega)
   obtain ⟨k,hk⟩:=hdv
   rw [hk,Int.mul_ediv_cancel_left _ (by omega)]
   intro hk0
   generalize Nat.gcd d.natAbs n.natAbs=g at *
   have h1:(g:Int)*k<0↔k<0:=by
     constructor
     · intro hk;refine Int.not_le.1 fun hk2=>?_
       have:=Int.mul_nonneg (show 0≤(g:Int) by omega) hk2
       omega
     · intro hk;exact Int.mul_neg_of_pos_of_neg (by omega) hk
   have h2:(g:Int)*k≠0:=fun e=>by rcases Int.mul_eq_zero.1 e with e | e <;> omega
   by_cases hd2:d<0
   · rw [if_pos hd2] at hk
     by_cases hn:n<0
     · have:¬k<0:=by omega
       simp [hd2,hn,this]
     · have:k<0:=by omega
       simp [hd2,this];omega
   · rw [if_neg hd2] at hk
     by_cases hn:n<0
     · have:k<0:=by omega
       simp [hd2,hn,this]
     · have:¬k<0:=by omega
       simp [hd2,this];omega
theorem yH1 {n d:Int} (hn:I64 n) (hd:I64 d) (h0:d≠0) (K:Int→Int→Int→Prop):ydC n d K=fitK ((n:Rat) / (d:Rat)) K :=
 ytB (fun r0 r1 r2 h K=>yw4 _ _ r0 r1 r2 h K) (fun K k=>yJk hn hd (by rw [if_neg h0,yDk h0];exact k)) K
def cmpQ (q r:Rat):Int:=if q<r then -1 else if r<q then 1 else 0
theorem yJm (q r:Rat):cmpR q.num q.den r.num r.den=cmpQ q r:=by
 unfold cmpR cmp3 cmpQ
 simp only [Rat.lt_iff]
theorem yFY {q r:Rat} (hq:small q) (hr:small r) (K:Int→Int→Prop):yc6 q.num q.den r.num r.den K=K (cmpQ q r) 0 :=
 yyw _ _ _ _ _ _ (fun K k=>yKr hq.i1 hq.i2 hr.i1 hr.i2 (by rw [yfC hq hr,if_pos rfl,yJm];exact k)) K
theorem yzL {n d:Int} (hn:I64 n) (hd:I64 d) (K:Int→Prop):yaL n d K=K (chk n d) :=
 yvH _ _ _ (fun _ k=>yxL hn hd k) K
end Go.Pf.Vc
namespace Go.Pf.Vc
open Go Go.Pf
theorem yhk {p:Int} (h:I64 p) (K:Int→Prop):ydh p K=K (p.natAbs:Int):=by
 unfold I64 at h
 unfold ydh yrA
 by_cases hp:p<0
 · have e0:IntKind.i64.wrap (p+1)=p+1:=wi64 ⟨by omega,by omega⟩
   have e1:IntKind.i64.wrap ((0:Int)-(p+1))=-(p+1):=by rw [wi64 ⟨by omega,by omega⟩];omega
   have e2:IntKind.u64.wrap (-(p+1))=-(p+1):=wu64 ⟨by omega,by omega⟩
   have e3:IntKind.u64.wrap (-(p+1)+1)=(p.natAbs:Int):=by rw [wu64 ⟨by omega,by omega⟩];omega
   rw [decide_eq_true hp,yac,e0,e1,e2,e3]
 · rw [decide_eq_false hp,yaa,wu64 ⟨by omega,by omega⟩]
   congr 1
   omega
theorem yzM (x:Int→Int→Bool→Prop):∀ (n a b:Nat),b<n→ydP x n (a:Int) (b:Int)=x ((Nat.gcd a b:Nat):Int) 0 false
 | 0,a,b,h=>by omega
 | n+1,a,b,h=>by
   unfold ydP
   by_cases hb:b=0
   · subst hb
     simp [cbr]
   · have h1:((b:Int) != 0)=true:=by simp;omega
     have h2:¬((b:Int)=0):=by omega
     rw [h1,yac,decide_eq_false h2,Bool.not_false,yaw]
     have e:Int.tmod (a:Int) (b:Int)=((a % b:Nat):Int):=by rw [Int.tmod_eq_emod_of_nonneg (by omega)];omega
     rw [e,yzM x n b (a % b) (by have:=Nat.mod_lt a (show b>0 by omega);omega)]
     rw [Nat.gcd_comm a b,Nat.gcd_rec b a,Nat.gcd_comm]
theorem ypF (a b:Nat) (K:Int→Prop):ycf (a:Int) (b:Int) K=K ((Nat.gcd a b:Nat):Int):=by
 refine yC6 _ _ _ (fun K h=>?_) K
 unfold ycf yrB
 exact ⟨b+1,by rw [yzM _ (b+1) a b (by omega)];exact h⟩
theorem bne_f {a b:Int} (h:a=b):(a != b)=false:=by simp [h]
theorem bne_t {a b:Int} (h:a≠b):(a != b)=true:=by simp [h]
theorem beq_f {a b:Int} (h:a≠b):(a == b)=false:=by simp [h]
theorem beq_t {a b:Int} (h:a=b):(a == b)=true:=by simp [h]
theorem ypG {n d:Int} (hn:I64 n) (_:I64 d) (K:Int→Prop):yfv n d K=K (chk n d):=by
 unfold yfv ynn
 by_cases h1:d<1
 · rw [decide_eq_true h1,yac,chk,if_neg (fun h=>by have:=h.1;omega)]
 · rw [decide_eq_false h1,yaa]
   by_cases h2:d>1000000000000000000
   · rw [decide_eq_true h2,yac,chk,if_neg (fun h=>by have:=h.2.1;omega)]
   · rw [decide_eq_false h2,yaa]
     by_cases h3:n < -1000000000000000000
     · rw [decide_eq_true h3,yac,chk,if_neg (fun h=>by have:=h.2.2.1;omega)]
     · rw [decide_eq_false h3,yaa]
       by_cases h4:n>1000000000000000000
       · rw [decide_eq_true h4,yac,chk,if_neg (fun h=>by have:=h.2.2.2.1;omega)]
       · have ed:IntKind.u64.wrap d=((d.natAbs:Nat):Int):=by rw [wu64 ⟨by omega,by omega⟩];omega
         rw [decide_eq_false h4,yaa,yhk hn,ed,ypF]
         by_cases h5:Nat.gcd n.natAbs d.natAbs=1
         · rw [h5,bne_f (by rfl),yaa,chk,if_pos ⟨by omega,by omega,by omega,by omega,h5⟩]
         · rw [bne_t (by omega),yac,chk,if_neg (fun h=>h5 h.2.2.2.2)]
theorem yxO {a b c d:Int} (ha:I64 a) (hb:I64 b) (hc:I64 c) (hd:I64 d) (K:Int→Prop):yeB a b c d K=K (chk2 a b c d):=by
 unfold yeB yoX
 rw [ypG ha hb,ypG ha hb,ypG hc hd,chk2]
 by_cases h:chk a b=0
 · rw [bne_f h,yaa,if_pos h]
 · rw [bne_t h,yac,if_neg h]
theorem or32 {m s:Int} (_:0≤m) (hs:0≤s∧s<4294967296):IntKind.u64.wrap (BitVec.ofInt IntKind.u64.bits (IntKind.u64.wrap (m*4294967296))|||BitVec.ofInt IntKind.u64.bits s).toNat=m % 4294967296*4294967296+s:=by
 have e:IntKind.u64.wrap (m*4294967296)=m % 4294967296*2 ^ 32:=by rw [wu64'];omega
 rw [e,or_eq (k:=32) (by omega) ⟨hs.1,by omega⟩ ⟨by omega,by omega⟩ (by omega)]
 omega
theorem yH2 {a b:Int} (ha:U64 a) (hb:U64 b) (K:Int→Int→Prop):ycy a b K=K (a*b / 18446744073709551616) (a*b % 18446744073709551616):=by
 unfold ycy yno
 simp only [fdiv32]
 rw [mask32 ha,mask32 hb]
 unfold U64 at ha hb
 have ha':=ha;have hb':=hb
 obtain ⟨x1,hx1⟩:∃ x,x=a / 4294967296:=⟨_,rfl⟩
 obtain ⟨x0,hx0⟩:∃ x,x=a % 4294967296:=⟨_,rfl⟩
 obtain ⟨y1,hy1⟩:∃ x,x=b / 4294967296:=⟨_,rfl⟩
 obtain ⟨y0,hy0⟩:∃ x,x=b % 4294967296:=⟨_,rfl⟩
 rw [← hx1,← hx0,← hy1,← hy0]
 have b1:0≤x1∧x1≤4294967295:=by omega
 have b2:0≤x0∧x0≤4294967295:=by omega
 have b3:0≤y1∧y1≤4294967295:=by omega
 have b4:0≤y0∧y0≤4294967295:=by omega
 have pb:∀ x y:Int,0≤x∧x≤4294967295→0≤y∧y≤4294967295→0≤x*y∧x*y≤18446744065119617025:=by
   intro x y hx hy
   refine ⟨Int.mul_nonneg hx.1 hy.1,?_⟩
   have:=Int.mul_le_mul hx.2 hy.2 hy.1 (by omega:(0:Int)≤4294967295)
   omega
 have p1:=pb x1 y1 b1 b3
 have p2:=pb x1 y0 b1 b4
 have p3:=pb x0 y1 b2 b3
 have p4:=pb x0 y0 b2 b4
 have ea:a=x1*4294967296+x0:=by omega
 have eb:b=y1*4294967296+y0:=by omega
 have eab:a*b=x1*y1*18446744073709551616+x1*y0*4294967296+x0*y1*4294967296+x0*y0:=by
   rw [ea,eb];grind
 obtain ⟨P,hP⟩:∃ x,x=x1*y1:=⟨_,rfl⟩
 obtain ⟨Q,hQ⟩:∃ x,x=x1*y0:=⟨_,rfl⟩
 obtain ⟨R,hR⟩:∃ x,x=x0*y1:=⟨_,rfl⟩
 obtain ⟨S,hS⟩:∃ x,x=x0*y0:=⟨_,rfl⟩
 rw [← hP] at p1;rw [← hQ] at p2;rw [← hR] at p3;rw [← hS] at p4
 rw [← hP,← hQ,← hR,← hS] at eab ⊢
 have w1:IntKind.u64.wrap S=S:=wu64 ⟨by omega,by omega⟩
 have w2:IntKind.u64.wrap Q=Q:=wu64 ⟨by omega,by omega⟩
 have w3:IntKind.u64.wrap R=R:=wu64 ⟨by omega,by omega⟩
 have w4:IntKind.u64.wrap P=P:=wu64 ⟨by omega,by omega⟩
 rw [w1,w2,w3,w4,mask32 (p:=Q) ⟨by omega,by omega⟩,mask32 (p:=S) ⟨by omega,by omega⟩]
 have w5:IntKind.u64.wrap (Q % 4294967296+R)=Q % 4294967296+R:=wu64 ⟨by omega,by omega⟩
 rw [w5]
 have w6:IntKind.u64.wrap (Q % 4294967296+R+S / 4294967296)=Q % 4294967296+R+S / 4294967296:=wu64 ⟨by omega,by omega⟩
 rw [w6,or32 (by omega) ⟨by omega,by omega⟩]
 have hab:a*b≤18446744073709551615*18446744073709551615:=Int.mul_le_mul ha'.2 hb'.2 hb'.1 (by omega:(0:Int)≤18446744073709551615)
 rw [eab] at hab ⊢
 have w7:IntKind.u64.wrap (P+Q / 4294967296)=P+Q / 4294967296:=wu64 ⟨by omega,by omega⟩
 rw [w7,wu64 ⟨by omega,by omega⟩]
 congr 1 <;> omega
theorem yBs {X Y:Int} (hx:0≤X) (hy:0≤Y) (hs:X+Y<340282366920938463463374607431768211456) (K:Int→Int→Prop) :
   ycq (X / 18446744073709551616) (X % 18446744073709551616) (Y / 18446744073709551616) (Y % 18446744073709551616) K=K ((X+Y) / 18446744073709551616) ((X+Y) % 18446744073709551616):=by
 unfold ycq yoZ
 rw [wu64',wu64',wu64']
 by_cases h:(X % 18446744073709551616+Y % 18446744073709551616) % 18446744073709551616<X % 18446744073709551616
 · rw [decide_eq_true h,yac]
   congr 1 <;> omega
 · rw [decide_eq_false h,yaa]
   congr 1 <;> omega
theorem yDl {X Y:Int} (hy:0≤Y) (hs:Y≤X) (hx:X<340282366920938463463374607431768211456) (K:Int→Int→Prop) :
   yfw (X / 18446744073709551616) (X % 18446744073709551616) (Y / 18446744073709551616) (Y % 18446744073709551616) K=K ((X-Y) / 18446744073709551616) ((X-Y) % 18446744073709551616):=by
 unfold yfw yjB
 rw [wu64',wu64',wu64']
 by_cases h:X % 18446744073709551616<Y % 18446744073709551616
 · rw [decide_eq_true h,yac]
   congr 1 <;> omega
 · rw [decide_eq_false h,yaa]
   congr 1 <;> omega
theorem ytC {X Y:Int} (_:0≤X) (_:0≤Y) (K:Bool→Prop) :
   ygu (X / 18446744073709551616) (X % 18446744073709551616) (Y / 18446744073709551616) (Y % 18446744073709551616) K=K (decide (X<Y)):=by
 unfold ygu yoV
 by_cases h:X / 18446744073709551616<Y / 18446744073709551616
 · rw [decide_eq_true h,yac,decide_eq_true (by omega)]
 · rw [decide_eq_false h,yaa]
   by_cases h2:X / 18446744073709551616=Y / 18446744073709551616
   · rw [beq_t h2,yac]
     congr 1
     rw [decide_eq_decide];omega
   · rw [beq_f h2,yaa,decide_eq_false (by omega)]
theorem and63 {i:Int} (h:0≤i∧i≤127):IntKind.i64.wrap (BitVec.ofInt IntKind.i64.bits i&&&BitVec.ofInt IntKind.i64.bits (63:Int)).toNat=i % 64:=by
 have e1:(BitVec.ofInt 64 i).toNat=i.toNat:=by
   rw [BitVec.toNat_ofInt];omega
 have e2:(BitVec.ofInt 64 (63:Int)).toNat=63:=rfl
 have e3:(BitVec.ofInt IntKind.i64.bits i&&&BitVec.ofInt IntKind.i64.bits (63:Int)).toNat=i.toNat % 64:=by
   show (BitVec.ofInt 64 i&&&BitVec.ofInt 64 (63:Int)).toNat=_
   rw [BitVec.toNat_and,e1,e2]
   exact Nat.and_two_pow_sub_one_eq_mod i.toNat 6
 rw [e3,wi64 ⟨by omega,by omega⟩]
 omega
theorem and1 {p:Int} (h:U64 p):IntKind.u64.wrap (BitVec.ofInt IntKind.u64.bits p&&&BitVec.ofInt IntKind.u64.bits (1:Int)).toNat=p % 2:=by
 unfold U64 at h
 have e1:(BitVec.ofInt 64 p).toNat=p.toNat:=by
   rw [BitVec.toNat_ofInt];omega
 have e2:(BitVec.ofInt 64 (1:Int)).toNat=1:=rfl
 have e3:(BitVec.ofInt IntKind.u64.bits p&&&BitVec.ofInt IntKind.u64.bits (1:Int)).toNat=p.toNat % 2:=by
   show (BitVec.ofInt 64 p&&&BitVec.ofInt 64 (1:Int)).toNat=_
   rw [BitVec.toNat_and,e1,e2]
   exact Nat.and_two_pow_sub_one_eq_mod p.toNat 1
 rw [e3,wu64']
 omega
theorem or1 {m s:Int} (hm:0≤m∧m≤9223372036854775807) (hs:0≤s∧s<2):IntKind.u64.wrap (BitVec.ofInt IntKind.u64.bits (m*2)|||BitVec.ofInt IntKind.u64.bits s).toNat=m*2+s:=by
 have:=or_eq (a:=m) (b:=s) (k:=1) hm.1 ⟨hs.1,by omega⟩ ⟨by omega,by omega⟩ (by omega)
 simpa using this
theorem ypi (i:Nat):(2:Int) ^ i=((2 ^ i:Nat):Int):=by rw [Int.natCast_pow];rfl
theorem yJn {W:Nat} (hW:W=2 ^ 64) {A:Int} (hA:0≤A) {i:Nat} (hi:i<64):A % (W:Int) / (2 ^ i:Int) % ((2:Nat):Int)=A / (2 ^ i:Int) % ((2:Nat):Int):=by
 obtain ⟨a,rfl⟩:∃ a:Nat,A=a:=⟨A.toNat,by omega⟩
 have:(a % W / 2 ^ i % 2:Nat)=a / 2 ^ i % 2:=by
   have e:W=2 ^ i*2 ^ (64-i):=by rw [← Nat.pow_add];rw [show i+(64-i)=64 by omega,hW]
   rw [e,Nat.mod_mul_right_div_self]
   have e2:2 ^ (64-i)=2*2 ^ (63-i):=by rw [show 64-i=(63-i)+1 by omega,Nat.pow_succ,Nat.mul_comm]
   rw [e2,Nat.mod_mul_right_mod]
 rw [ypi,← Int.natCast_emod,← Int.natCast_ediv,← Int.natCast_emod,← Int.natCast_ediv,← Int.natCast_emod,this]
theorem yKy {A:Int} (hA:0≤A) {i:Nat} (hi:i<64):A % 18446744073709551616 / (2 ^ i:Int) % 2=A / (2 ^ i:Int) % 2:=yJn (W:=18446744073709551616) rfl hA hi
theorem yJo {W:Nat} (hW:W=2 ^ 64) {A:Int} (hA:0≤A) {i:Nat} (hi:64≤i):A / (W:Int) / (2 ^ (i-64):Int)=A / (2 ^ i:Int):=by
 obtain ⟨a,rfl⟩:∃ a:Nat,A=a:=⟨A.toNat,by omega⟩
 have:(a / W / 2 ^ (i-64):Nat)=a / 2 ^ i:=by
   have e:(2 ^ i:Nat)=W*2 ^ (i-64):=by
     rw [hW,← Nat.pow_add,show 64+(i-64)=i by omega]
   rw [e,Nat.div_div_eq_div_mul]
 rw [ypi,ypi,← Int.natCast_ediv,← Int.natCast_ediv,← Int.natCast_ediv,this]
theorem yKz {A:Int} (hA:0≤A) {i:Nat} (hi:64≤i):A / 18446744073709551616 / (2 ^ (i-64):Int)=A / (2 ^ i:Int):=yJo (W:=18446744073709551616) rfl hA hi
theorem yH3 {d B q r b:Int} (hd:0<d) (hq:B / d=q) (hr:B % d=r) (hb:0≤b∧b≤1) :
   (2*B+b) / d=(if 2*r+b≥d then 2*q+1 else 2*q)∧(2*B+b) % d=(if 2*r+b≥d then 2*r+b-d else 2*r+b):=by
 have h1:=Int.mul_ediv_add_emod B d
 have h2:=Int.emod_nonneg B (show d≠0 by omega)
 have h3:=Int.emod_lt_of_pos B hd
 rw [hq,hr] at h1
 rw [hr] at h2 h3
 split
 · refine (Int.ediv_emod_unique hd).2 ⟨?_,by omega,by omega⟩
   grind
 · refine (Int.ediv_emod_unique hd).2 ⟨?_,by omega,by omega⟩
   grind
end Go.Pf.Vc
namespace Go.Pf.Vc
open Go Go.Pf
theorem yE9 {A d:Int} (hA:0≤A∧A<340282366920938463463374607431768211456) (hd:0<d∧d<9223372036854775808) {x0:Int→Int→Int→Int→Int→Int→Int→Int→Int→Bool→Prop}
   (k0:x0 d (A / 18446744073709551616) (A % 18446744073709551616) 0 0 (A / d / 18446744073709551616) (A / d % 18446744073709551616) (A % d) (-1) false) :
   ∀ (k n:Nat),k≤128→k<n→yaS ycq x0 n d (A / 18446744073709551616) (A % 18446744073709551616) 0 0
     (A / 2 ^ k / d / 18446744073709551616) (A / 2 ^ k / d % 18446744073709551616) (A / 2 ^ k % d) ((k:Int)-1):=by
 intro k
 induction k with
 | zero =>
   intro n _ hn
   match n,hn with
   | n+1,_ =>
     unfold yaS
     rw [decide_eq_false (by omega),yaa]
     have e:A / 2 ^ 0=A:=by rw [Int.pow_zero,Int.ediv_one]
     rw [e]
     exact k0
 | succ k ih =>
   intro n hk hn
   match n,hn with
   | n+1,hn =>
     unfold yaS
     have e8:((k+1:Nat):Int)-1=(k:Int):=by omega
     rw [e8,decide_eq_true (by omega),yac]
     rw [and63 (i:=(k:Int)) ⟨by omega,by omega⟩]
     have en:(!decide ((k:Int) % 64<0))=true:=by rw [decide_eq_false (by omega)];rfl
     have em:min ((k:Int) % 64).toNat IntKind.u64.bits=k % 64:=by show min _ 64=_;omega
     rw [en,yaw,yaw,em]
     have pp:∀ m:Nat,(0:Int)≤2 ^ m:=fun m=>by rw [ypi];exact Int.natCast_nonneg _
     have p1:∀ m:Nat,(0:Int)<2 ^ m:=fun m=>by rw [ypi];exact Int.natCast_pos.2 (Nat.two_pow_pos m)
     simp only [fdivn _ _ (pp _)]
     have hC0:0≤A / 2 ^ k:=Int.ediv_nonneg hA.1 (pp _)
     have hCA:A / 2 ^ k≤A:=Int.ediv_le_self _ hA.1
     have hBC:A / 2 ^ (k+1)=A / 2 ^ k / 2:=by
       rw [Int.pow_succ,Int.ediv_ediv_of_nonneg (pp k)]
     obtain ⟨C,hC⟩:∃ C,C=A / 2 ^ k:=⟨_,rfl⟩
     have ih2:=ih n (by omega) (by omega)
     rw [← hC] at hC0 hCA hBC ih2
     rw [hBC]
     obtain ⟨b,hb⟩:∃ b,b=C % 2:=⟨_,rfl⟩
     have hCb:C=2*(C / 2)+b:=by omega
     obtain ⟨s1,s2⟩:=yH3 (B:=C / 2) (b:=b) hd.1 rfl rfl ⟨by omega,by omega⟩
     rw [← hCb] at s1 s2
     have r0:=Int.emod_nonneg (C / 2) (show d≠0 by omega)
     have r1:=Int.emod_lt_of_pos (C / 2) hd.1
     have q0:0≤C / 2 / d:=Int.ediv_nonneg (by omega) (by omega)
     have q1:C / 2 / d≤C / 2:=Int.ediv_le_self _ (by omega)
     rw [s1,s2] at ih2
     obtain ⟨q,hq⟩:∃ q,q=C / 2 / d:=⟨_,rfl⟩
     obtain ⟨r,hr⟩:∃ r,r=C / 2 % d:=⟨_,rfl⟩
     rw [← hq,← hr] at ih2
     rw [← hq] at q0 q1
     rw [← hr] at r0 r1
     rw [← hq,← hr]
     have e2:IntKind.u64.wrap (r*2)=r*2:=wu64 ⟨by omega,by omega⟩
     rw [e2,wi64 (n:=(k:Int)-1) ⟨by omega,by omega⟩]
     rw [yBs q0 q0 (by omega),yBs q0 q0 (by omega)]
     have hlo:0≤A % 18446744073709551616 / 2 ^ (k % 64)∧A % 18446744073709551616 / 2 ^ (k % 64)≤18446744073709551615:=by
       refine ⟨Int.ediv_nonneg (by omega) (pp _),?_⟩
       have:=Int.ediv_le_self (a:=A % 18446744073709551616) (2 ^ (k % 64)) (by omega)
       omega
     have hhi:0≤A / 18446744073709551616 / 2 ^ (k % 64)∧A / 18446744073709551616 / 2 ^ (k % 64)≤18446744073709551615:=by
       refine ⟨Int.ediv_nonneg (by omega) (pp _),?_⟩
       have:=Int.ediv_le_self (a:=A / 18446744073709551616) (2 ^ (k % 64)) (by omega)
       omega
     rw [and1 hlo,and1 hhi]
     have go:∀ bb:Int,bb=b→cbr (decide (IntKind.u64.wrap (BitVec.ofInt IntKind.u64.bits (r*2)|||BitVec.ofInt IntKind.u64.bits bb).toNat≥d))
         (yaS ycq x0 n d (A / 18446744073709551616) (A % 18446744073709551616) 0 0 ((q+q) / 18446744073709551616) (IntKind.u64.wrap (BitVec.ofInt IntKind.u64.bits ((q+q) % 18446744073709551616)|||BitVec.ofInt IntKind.u64.bits (1:Int)).toNat) (IntKind.u64.wrap ((IntKind.u64.wrap (BitVec.ofInt IntKind.u64.bits (r*2)|||BitVec.ofInt IntKind.u64.bits bb).toNat)-d)) ((k:Int)-1))
         (yaS ycq x0 n d (A / 18446744073709551616) (A % 18446744073709551616) 0 0 ((q+q) / 18446744073709551616) ((q+q) % 18446744073709551616) (IntKind.u64.wrap (BitVec.ofInt IntKind.u64.bits (r*2)|||BitVec.ofInt IntKind.u64.bits bb).toNat) ((k:Int)-1)):=by
       intro bb hbb
       rw [hbb,or1 ⟨r0,by omega⟩ ⟨by omega,by omega⟩]
       by_cases hge:2*r+b≥d
       · rw [if_pos hge,if_pos hge] at ih2
         rw [decide_eq_true (show r*2+b≥d by omega),yac,wu64 (n:=r*2+b-d) ⟨by omega,by omega⟩]
         have e3:(q+q) % 18446744073709551616=((q % 9223372036854775808)*2):=by omega
         rw [e3,or1 ⟨by omega,by omega⟩ ⟨by omega,by omega⟩]
         have e4:(q+q) / 18446744073709551616=(2*q+1) / 18446744073709551616:=by omega
         have e5:q % 9223372036854775808*2+1=(2*q+1) % 18446744073709551616:=by omega
         rw [e4,e5,show r*2+b-d=2*r+b-d by omega]
         exact ih2
       · rw [if_neg hge,if_neg hge] at ih2
         rw [decide_eq_false (show ¬r*2+b≥d by omega),yaa,show q+q=2*q by omega,show r*2+b=2*r+b by omega]
         exact ih2
     by_cases h64:(k:Int)≥64
     · rw [decide_eq_true h64,yac]
       refine go _ ?_
       rw [show k % 64=k-64 by omega,yKz hA.1 (by omega),← hC,hb]
     · rw [decide_eq_false h64,yaa]
       refine go _ ?_
       rw [show k % 64=k by omega,yKy hA.1 (by omega),← hC,hb]
theorem yH4 {A d:Int} (hA:0≤A∧A<340282366920938463463374607431768211456) (hd:0<d∧d<9223372036854775808) (K:Int→Int→Int→Prop) :
   ydb (A / 18446744073709551616) (A % 18446744073709551616) d K=K (A / d / 18446744073709551616) (A / d % 18446744073709551616) (A % d):=by
 refine yyZ _ _ _ _ _ _ (fun K h=>?_) K
 unfold ydb ynr
 refine ⟨129,?_⟩
 have e:=yE9 (x0:=fun yi4 yi5 yi6 yi7 yi8 yi9 yi10 yi11 yi12 yb13=>K yi9 yi10 yi11) hA hd h 128 129 (by omega) (by omega)
 have z:A / 2 ^ 128=0:=Int.ediv_eq_zero_of_lt hA.1 hA.2
 rw [z,Int.zero_ediv,Int.zero_emod] at e
 exact e
theorem yBt {s:Bool} {X Y:Int} (hx:0≤X) (hy:0≤Y) (K:Int→Int→Int→Prop) :
   ydS s (X / 18446744073709551616) (X % 18446744073709551616) (Y / 18446744073709551616) (Y % 18446744073709551616) K=outS s X Y K:=by
 unfold ydS yo0 outS
 by_cases h:X≤1000000000000000000∧Y≤1000000000000000000
 · have e1:IntKind.i64.wrap (X % 18446744073709551616)=X:=by rw [show X % 18446744073709551616=X by omega,wi64 ⟨by omega,by omega⟩]
   have e2:IntKind.i64.wrap (Y % 18446744073709551616)=Y:=by rw [show Y % 18446744073709551616=Y by omega,wi64 ⟨by omega,by omega⟩]
   rw [if_pos h,decide_eq_false (by omega),yaa,decide_eq_false (by omega),yaa,decide_eq_false (by omega),yaa,decide_eq_false (by omega),yaa,e1,e2]
   cases s
   · rw [yaa];rfl
   · rw [yac,wi64 ⟨by omega,by omega⟩,Int.zero_sub];rfl
 · rw [if_neg h]
   by_cases h1:X / 18446744073709551616>0
   · rw [decide_eq_true h1,yac]
   · rw [decide_eq_false h1,yaa]
     by_cases h2:Y / 18446744073709551616>0
     · rw [decide_eq_true h2,yac]
     · rw [decide_eq_false h2,yaa]
       by_cases h3:X % 18446744073709551616>1000000000000000000
       · rw [decide_eq_true h3,yac]
       · rw [decide_eq_false h3,yaa,decide_eq_true (by omega),yac]
end Go.Pf.Vc
namespace Go.Pf.Vc
open Go Go.Pf
theorem ypj {g:Int} (h:g≠0) {P:Prop}:asr (!(decide (g=(0:Int)))) P=P:=by
 rw [decide_eq_false h];rfl
theorem wuN {n:Nat} (h:(n:Int)≤18446744073709551615):IntKind.u64.wrap (n:Int)=n:=wu64 ⟨by omega,h⟩
theorem tdivN (a b:Nat):Int.tdiv (a:Int) (b:Int)=((a / b:Nat):Int):=by
 rw [Int.tdiv_eq_ediv_of_nonneg (by omega),Int.natCast_ediv]
theorem yzN {A d:Nat} (hA:A<340282366920938463463374607431768211456) (hd:0<d∧d<9223372036854775808) (K:Int→Int→Int→Prop) :
   ydb ((A:Int) / 18446744073709551616) ((A:Int) % 18446744073709551616) d K=K (((A / d:Nat):Int) / 18446744073709551616) (((A / d:Nat):Int) % 18446744073709551616) ((A % d:Nat):Int):=by
 rw [yH4 ⟨by omega,by omega⟩ ⟨by omega,by omega⟩,Int.natCast_ediv,Int.natCast_emod]
theorem yh4 {a b:Nat} (ha:a≤18446744073709551615) (hb:b≤18446744073709551615) (K:Int→Int→Prop) :
   ycy (a:Int) (b:Int) K=K (((a*b:Nat):Int) / 18446744073709551616) (((a*b:Nat):Int) % 18446744073709551616):=by
 rw [yH2 ⟨by omega,by omega⟩ ⟨by omega,by omega⟩,Int.natCast_mul]
theorem yGU {a b c d:Int} {K:Int→Int→Prop} {Z:Prop} (h:∀ u v,K u v=Z):yfw a b c d K=Z:=by
 unfold yfw yjB
 simp only [h]
 by_cases e:b<d
 · rw [decide_eq_true e,yac]
 · rw [decide_eq_false e,yaa]
theorem yJp {s:Bool} {Z p1 p3 g:Nat} (hZ:Z<340282366920938463463374607431768211456) (hg:0<g) (g1:g≤1000000000000000000) (h1:p1≤1000000000000000000) (h3:p3≤1000000000000000000) (K:Int→Int→Int→Prop) :
   cbr (((Z:Int) / 18446744073709551616 ==(0:Int))&&(((Z:Int) % 18446744073709551616 ==(0:Int))&&true)) (K 0 1 0)
     (ydb ((Z:Int) / 18446744073709551616) ((Z:Int) % 18446744073709551616) (g:Int) (fun _ _ yi30 =>
       (ycf yi30 (g:Int) (fun yi31 =>
         (ydb ((Z:Int) / 18446744073709551616) ((Z:Int) % 18446744073709551616) yi31 (fun yi32 yi33 _ =>
           (asr (!(decide ((g:Int)=(0:Int)))) (asr (!(decide (yi31=(0:Int))))
             (ycy (IntKind.u64.wrap (Int.tdiv (IntKind.u64.wrap (p1:Int)) (g:Int))) (IntKind.u64.wrap (Int.tdiv (IntKind.u64.wrap (p3:Int)) yi31)) (fun yi35 yi36 =>
               (ydS s yi32 yi33 yi35 yi36 (fun yi37 yi38 yi39=>K yi37 yi38 yi39))))))))))))=outA s (Z:Int) p1 p3 g K:=by
 unfold outA
 by_cases h0:Z=0
 · subst h0;rfl
 · have e:(((Z:Int) / 18446744073709551616 ==(0:Int))&&(((Z:Int) % 18446744073709551616 ==(0:Int))&&true))=false:=by
     by_cases e1:(Z:Int) / 18446744073709551616=0
     · rw [beq_t e1,beq_f (by omega)];rfl
     · rw [beq_f e1];rfl
   have hg0:0<Nat.gcd Z g:=Nat.gcd_pos_of_pos_right _ hg
   have hgg:Nat.gcd Z g≤g:=Nat.gcd_le_right _ hg
   have eg:Nat.gcd (Z % g) g=Nat.gcd Z g:=by rw [Nat.gcd_comm Z g,Nat.gcd_rec g Z]
   have q1:p1 / g≤p1:=Nat.div_le_self _ _
   have q3:p3 / Nat.gcd Z g≤p3:=Nat.div_le_self _ _
   rw [e,yaa,if_neg (by omega),yzN hZ ⟨hg,by omega⟩]
   simp only [ypF,eg]
   rw [yzN hZ ⟨hg0,by omega⟩,ypj (by omega),ypj (by omega),wuN (by omega),wuN (by omega),tdivN,tdivN,wuN (by omega),wuN (by omega),yh4 (by omega) (by omega)]
   rw [yBt (Int.natCast_nonneg _) (Int.natCast_nonneg _)]
   simp only [Int.toNat_natCast]
theorem yH5 {n d:Int} (hn:I64 n) (hd:I64 d) (h0:d≠0) (K:Int→Int→Int→Prop):ykM n d K=fitK ((n:Rat) / (d:Rat)) K:=by
 unfold ykM yo2
 have hn':=hn;have hd':=hd
 unfold I64 at hn' hd'
 have g0:0<Nat.gcd n.natAbs d.natAbs:=Nat.gcd_pos_of_pos_right _ (by omega)
 have q1:n.natAbs / Nat.gcd n.natAbs d.natAbs≤n.natAbs:=Nat.div_le_self _ _
 have q2:d.natAbs / Nat.gcd n.natAbs d.natAbs≤d.natAbs:=Nat.div_le_self _ _
 have hp:∀ x:Nat,(0:Int)≤x:=Int.natCast_nonneg
 rw [beq_f h0,yaa,yhk hn,yhk hd,ypF,ypj (by omega),ypj (by omega),tdivN,tdivN,← yDk h0]
 obtain ⟨x,hx⟩:∃ x,x=n.natAbs / Nat.gcd n.natAbs d.natAbs:=⟨_,rfl⟩
 obtain ⟨y,hy⟩:∃ y,y=d.natAbs / Nat.gcd n.natAbs d.natAbs:=⟨_,rfl⟩
 rw [← hx] at q1 ⊢
 rw [← hy] at q2 ⊢
 rw [wuN (by omega),wuN (by omega)]
 have m:=yBt (s:=(decide (n<0) != decide (d<0))) (X:=(x:Int)) (Y:=(y:Int)) (by omega) (by omega) K
 rw [← m]
 have e1:(x:Int) / 18446744073709551616=0:=by omega
 have e2:(x:Int) % 18446744073709551616=x:=by omega
 have e3:(y:Int) / 18446744073709551616=0:=by omega
 have e4:(y:Int) % 18446744073709551616=y:=by omega
 rw [e1,e2,e3,e4]
theorem yBu {q r:Rat} (hq:small q) (hr:small r) (K:Int→Int→Int→Prop):yec q.num q.den r.num r.den K=fitK (q+r) K:=by
 unfold yec yrG
 rw [yxO hq.i1 hq.i2 hr.i1 hr.i2,yfC hq hr,bne_f rfl,yaa,← yBr]
 obtain ⟨a1,a2,a3⟩:=hq
 obtain ⟨b1,b2,b3⟩:=hr
 have dq:=q.den_pos
 have dr:=r.den_pos
 have g0:0<Nat.gcd q.den r.den:=Nat.gcd_pos_of_pos_left _ dq
 have gl:Nat.gcd q.den r.den≤q.den:=Nat.gcd_le_left _ dq
 have w1:ycf (IntKind.u64.wrap (q.den:Int)) (IntKind.u64.wrap (r.den:Int))=ycf (q.den:Int) (r.den:Int):=by rw [wuN (by omega),wuN (by omega)]
 rw [w1,ypF,yhk ⟨by omega,by omega⟩,ypj (by omega)]
 show _=outA (decide (q.num*((r.den:Int) / (Nat.gcd q.den r.den:Nat))+r.num*((q.den:Int) / (Nat.gcd q.den r.den:Nat))<0)) ((q.num*((r.den:Int) / (Nat.gcd q.den r.den:Nat))+r.num*((q.den:Int) / (Nat.gcd q.den r.den:Nat))).natAbs:Int) q.den r.den (Nat.gcd q.den r.den) K
 obtain ⟨g,hg⟩:∃ g,g=Nat.gcd q.den r.den:=⟨_,rfl⟩
 rw [← hg] at g0 gl ⊢
 have q3:r.den / g≤r.den:=Nat.div_le_self _ _
 have q4:q.den / g≤q.den:=Nat.div_le_self _ _
 have t1:IntKind.u64.wrap (Int.tdiv (IntKind.u64.wrap (r.den:Int)) (g:Int))=((r.den / g:Nat):Int):=by rw [wuN (by omega),tdivN,wuN (by omega)]
 have t2:IntKind.u64.wrap (Int.tdiv (IntKind.u64.wrap (q.den:Int)) (g:Int))=((q.den / g:Nat):Int):=by rw [wuN (by omega),tdivN,wuN (by omega)]
 rw [t1,yh4 (by omega) (by omega)]
 rw [yhk ⟨by omega,by omega⟩,ypj (by omega),t2,yh4 (by omega) (by omega)]
 rw [← Int.natCast_ediv,← Int.natCast_ediv]
 obtain ⟨x,hx⟩:∃ x,x=r.den / g:=⟨_,rfl⟩
 obtain ⟨y,hy⟩:∃ y,y=q.den / g:=⟨_,rfl⟩
 rw [← hx] at q3 ⊢
 rw [← hy] at q4 ⊢
 have X1:q.num.natAbs*x≤1000000000000000000*1000000000000000000:=Nat.mul_le_mul (by omega) (by omega)
 have Y1:r.num.natAbs*y≤1000000000000000000*1000000000000000000:=Nat.mul_le_mul (by omega) (by omega)
 have ax:q.num*(x:Int)=if q.num<0 then -((q.num.natAbs*x:Nat):Int) else ((q.num.natAbs*x:Nat):Int):=by
   rw [Int.natCast_mul]
   split
   · rw [show ((q.num.natAbs:Nat):Int)=-q.num by omega,Int.neg_mul,Int.neg_neg]
   · rw [show ((q.num.natAbs:Nat):Int)=q.num by omega]
 have cy:r.num*(y:Int)=if r.num<0 then -((r.num.natAbs*y:Nat):Int) else ((r.num.natAbs*y:Nat):Int):=by
   rw [Int.natCast_mul]
   split
   · rw [show ((r.num.natAbs:Nat):Int)=-r.num by omega,Int.neg_mul,Int.neg_neg]
   · rw [show ((r.num.natAbs:Nat):Int)=r.num by omega]
 rw [ax,cy]
 obtain ⟨X,hX⟩:∃ X,X=q.num.natAbs*x:=⟨_,rfl⟩
 obtain ⟨Y,hY⟩:∃ Y,Y=r.num.natAbs*y:=⟨_,rfl⟩
 rw [← hX] at X1 ⊢
 rw [← hY] at Y1 ⊢
 rw [yBs (by omega) (by omega) (by omega)]
 have fin:=fun (s:Bool) (Z:Nat) (hZ:Z<340282366920938463463374607431768211456)=>yJp (s:=s) (Z:=Z) (p1:=q.den) (p3:=r.den) (g:=g) hZ g0 (by omega) (by omega) (by omega) K
 simp only [t2,← hy] at fin
 have cong:∀ (s s':Bool) (Z Z':Int),Z=Z'→(Z≠0→s=s')→outA s Z q.den r.den g K=outA s' Z' q.den r.den g K:=by
   intro s s' Z Z' h1 h2
   subst h1
   by_cases h:Z=0
   · unfold outA;rw [if_pos h,if_pos h]
   · rw [h2 h]
 by_cases hs:decide (q.num<0)=decide (r.num<0)
 · have e:(decide (q.num<0) != decide (r.num<0))=false:=by rw [hs];simp
   rw [e,yaa,show (X:Int)+Y=((X+Y:Nat):Int) by omega]
   rw [fin (decide (q.num<0)) (X+Y) (by omega)]
   refine cong _ _ _ _ ?_ ?_
   · by_cases h1:q.num<0
     · have h2:r.num<0:=by simpa [h1] using hs.symm
       rw [if_pos h1,if_pos h2];omega
     · have h2:¬r.num<0:=by simpa [h1] using hs.symm
       rw [if_neg h1,if_neg h2];omega
   · intro h0
     by_cases h1:q.num<0
     · have h2:r.num<0:=by simpa [h1] using hs.symm
       rw [if_pos h1,if_pos h2,decide_eq_true h1,decide_eq_true (by omega)]
     · have h2:¬r.num<0:=by simpa [h1] using hs.symm
       rw [if_neg h1,if_neg h2,decide_eq_false h1,decide_eq_false (by omega)]
 · have e:(decide (q.num<0) != decide (r.num<0))=true:=by simpa using hs
   have h12:(q.num<0∧¬r.num<0)∨(¬q.num<0∧r.num<0):=by
     by_cases h1:q.num<0 <;> by_cases h2:r.num<0 <;> simp [h1,h2] at hs ⊢
   rw [e,yac]
   by_cases hlt:X<Y
   · refine yGU (fun u v=>?_)
     rw [ytC (by omega) (by omega),decide_eq_true (by omega),yac,yDl (by omega) (by omega) (by omega)]
     have ez:(Y:Int)-X=((Y-X:Nat):Int):=by omega
     rw [ez]
     rw [fin (decide (r.num<0)) (Y-X) (by omega)]
     refine cong _ _ _ _ ?_ ?_
     · rcases h12 with ⟨h1,h2⟩ | ⟨h1,h2⟩
       · rw [if_pos h1,if_neg h2];omega
       · rw [if_neg h1,if_pos h2];omega
     · intro h0
       rcases h12 with ⟨h1,h2⟩ | ⟨h1,h2⟩
       · rw [if_pos h1,if_neg h2,decide_eq_false h2,decide_eq_false (by omega)]
       · rw [if_neg h1,if_pos h2,decide_eq_true h2,decide_eq_true (by omega)]
   · rw [yDl (by omega) (by omega) (by omega),ytC (by omega) (by omega),decide_eq_false (by omega),yaa]
     have ez:(X:Int)-Y=((X-Y:Nat):Int):=by omega
     rw [ez]
     rw [fin (decide (q.num<0)) (X-Y) (by omega)]
     refine cong _ _ _ _ ?_ ?_
     · rcases h12 with ⟨h1,h2⟩ | ⟨h1,h2⟩
       · rw [if_pos h1,if_neg h2];omega
       · rw [if_neg h1,if_pos h2];omega
     · intro h0
       rcases h12 with ⟨h1,h2⟩ | ⟨h1,h2⟩
       · rw [if_pos h1,if_neg h2,decide_eq_true h1,decide_eq_true (by omega)]
       · rw [if_neg h1,if_pos h2,decide_eq_false h1,decide_eq_false (by omega)]
theorem yJq {q:Rat} (hq:small q) (K:Int→Int→Prop):ymM q.num q.den K=K (-q).num (-q).den:=by
 unfold ymM yrD
 obtain ⟨a1,a2,a3⟩:=hq
 rw [wi64 ⟨by omega,by omega⟩,Int.zero_sub];rfl
theorem small.neg {q:Rat} (hq:small q):small (-q):=by
 obtain ⟨a1,a2,a3⟩:=hq
 unfold small
 rw [Rat.neg_num,Rat.neg_den]
 omega
theorem yJr {q r:Rat} (hq:small q) (hr:small r) (K:Int→Int→Int→Prop):ymN q.num q.den r.num r.den K=fitK (q-r) K:=by
 unfold ymN yrH
 rw [yxO hq.i1 hq.i2 hr.i1 hr.i2,yfC hq hr,bne_f rfl,yaa,yJq hr,yBu hq hr.neg,Rat.sub_eq_add_neg]
theorem yJs {q r:Rat} (hq:small q) (hr:small r) (K:Int→Int→Int→Prop):ymO q.num q.den r.num r.den K=fitK (q*r) K:=by
 unfold ymO yrJ
 rw [yxO hq.i1 hq.i2 hr.i1 hr.i2,yfC hq hr,bne_f rfl,yaa]
 have hq':=hq;have hr':=hr
 obtain ⟨a1,a2,a3⟩:=hq
 obtain ⟨b1,b2,b3⟩:=hr
 have dq:=q.den_pos
 have dr:=r.den_pos
 have g0:0<Nat.gcd q.num.natAbs r.den:=Nat.gcd_pos_of_pos_right _ dr
 have h0:0<Nat.gcd r.num.natAbs q.den:=Nat.gcd_pos_of_pos_right _ dq
 rw [yhk hq'.i1,wuN (n:=r.den) (by omega),ypF,yhk hr'.i1,wuN (n:=q.den) (by omega),ypF]
 simp only [yhk hq'.i1,yhk hr'.i1]
 have q1:q.num.natAbs / Nat.gcd q.num.natAbs r.den≤q.num.natAbs:=Nat.div_le_self _ _
 have q2:r.num.natAbs / Nat.gcd r.num.natAbs q.den≤r.num.natAbs:=Nat.div_le_self _ _
 have q3:q.den / Nat.gcd r.num.natAbs q.den≤q.den:=Nat.div_le_self _ _
 have q4:r.den / Nat.gcd q.num.natAbs r.den≤r.den:=Nat.div_le_self _ _
 have e1:numM q.num r.num q.den r.den=q.num.natAbs / Nat.gcd q.num.natAbs r.den*(r.num.natAbs / Nat.gcd r.num.natAbs q.den):=rfl
 have e2:denM q.num r.num q.den r.den=q.den / Nat.gcd r.num.natAbs q.den*(r.den / Nat.gcd q.num.natAbs r.den):=rfl
 have z1:q.num=0→numM q.num r.num q.den r.den=0:=fun h=>by rw [e1,h,Int.natAbs_zero,Nat.zero_div,Nat.zero_mul]
 have z2:r.num=0→numM q.num r.num q.den r.den=0:=fun h=>by rw [e1,h,Int.natAbs_zero,Nat.zero_div,Nat.mul_zero]
 have n1:∀ P:Prop,asr (!(decide (((Nat.gcd q.num.natAbs r.den:Nat):Int)=(0:Int)))) P=P:=fun P=>ypj (by omega)
 have n2:∀ P:Prop,asr (!(decide (((Nat.gcd r.num.natAbs q.den:Nat):Int)=(0:Int)))) P=P:=fun P=>ypj (by omega)
 have w1:=wuN (n:=q.num.natAbs / Nat.gcd q.num.natAbs r.den) (by omega)
 have w2:=wuN (n:=r.num.natAbs / Nat.gcd r.num.natAbs q.den) (by omega)
 have w3:=wuN (n:=q.den / Nat.gcd r.num.natAbs q.den) (by omega)
 have w4:=wuN (n:=r.den / Nat.gcd q.num.natAbs r.den) (by omega)
 have t1:=yh4 (a:=q.num.natAbs / Nat.gcd q.num.natAbs r.den) (b:=r.num.natAbs / Nat.gcd r.num.natAbs q.den) (by omega) (by omega)
 have t2:=yh4 (a:=q.den / Nat.gcd r.num.natAbs q.den) (b:=r.den / Nat.gcd q.num.natAbs r.den) (by omega) (by omega)
 have m:=fun s=>yBt (s:=s) (X:=((numM q.num r.num q.den r.den:Nat):Int)) (Y:=((denM q.num r.num q.den r.den:Nat):Int)) (Int.natCast_nonneg _) (Int.natCast_nonneg _) K
 rw [← e1] at t1
 rw [← e2] at t2
 simp only [n1,n2,tdivN,w1,w2,w3,w4,t1,t2,m]
 rw [← yBq]
 have zs:∀ s s':Bool,numM q.num r.num q.den r.den=0→outS s (numM q.num r.num q.den r.den:Nat) (denM q.num r.num q.den r.den:Nat) K=outS s' (numM q.num r.num q.den r.den:Nat) (denM q.num r.num q.den r.den:Nat) K:=by
   intro s s' h
   rw [h]
   cases s <;> cases s' <;> rfl
 by_cases hs:(decide (q.num<0) != decide (r.num<0))=true
 · rw [hs,yac]
   by_cases n1:q.num=0
   · rw [bne_f n1,yaa];exact zs _ _ (z1 n1)
   · rw [bne_t n1,yac]
     by_cases n2:r.num=0
     · exact zs _ _ (z2 n2)
     · rw [bne_t n2]
 · have hs':(decide (q.num<0) != decide (r.num<0))=false:=by simpa using hs
   rw [hs',yaa]
theorem ymR {q r:Rat} (hq:small q) (hr:small r) (K:Bool→Prop):yba q.num q.den r.num r.den K=K (decide (q<r)):=by
 unfold yba yoW
 have hq':=hq;have hr':=hr
 obtain ⟨a1,a2,a3⟩:=hq
 obtain ⟨b1,b2,b3⟩:=hr
 have dq:=q.den_pos
 have dr:=r.den_pos
 have e:decide (q<r)=decide (q.num*r.den<r.num*q.den):=by rw [decide_eq_decide];exact Rat.lt_iff q r
 rw [e]
 by_cases hs:(decide (q.num<0) != decide (r.num<0))=true
 · rw [hs,yac]
   by_cases h1:q.num<0
   · have h2:¬r.num<0:=by simpa [h1] using hs
     have p1:q.num*r.den<0:=Int.mul_neg_of_neg_of_pos h1 (by omega)
     have p2:0≤r.num*q.den:=Int.mul_nonneg (by omega) (by omega)
     rw [decide_eq_true h1,decide_eq_true (by omega)]
   · have h2:r.num<0:=by simpa [h1] using hs
     have p1:r.num*q.den<0:=Int.mul_neg_of_neg_of_pos h2 (by omega)
     have p2:0≤q.num*r.den:=Int.mul_nonneg (by omega) (by omega)
     rw [decide_eq_false h1,decide_eq_false (by omega)]
 · have hs':(decide (q.num<0) != decide (r.num<0))=false:=by simpa using hs
   rw [hs',yaa,yhk hq'.i1,wuN (by omega),yh4 (by omega) (by omega),yhk hr'.i1,wuN (by omega),yh4 (by omega) (by omega),ytC (Int.natCast_nonneg _) (Int.natCast_nonneg _),ytC (Int.natCast_nonneg _) (Int.natCast_nonneg _),Int.natCast_mul,Int.natCast_mul]
   by_cases h1:q.num<0
   · have h2:r.num<0:=by simpa [h1] using hs'
     rw [decide_eq_true h1,yac,show ((q.num.natAbs:Nat):Int)=-q.num by omega,show ((r.num.natAbs:Nat):Int)=-r.num by omega,Int.neg_mul,Int.neg_mul]
     congr 1
     rw [decide_eq_decide];omega
   · have h2:¬r.num<0:=by simpa [h1] using hs'
     rw [decide_eq_false h1,yaa,show ((q.num.natAbs:Nat):Int)=q.num by omega,show ((r.num.natAbs:Nat):Int)=r.num by omega]
theorem yBv (n:Int) (K:Int→Int→Prop):yiI n K=K (n:Rat).num (n:Rat).den:=rfl
end Go.Pf.Vc
namespace Go.Pf.Vc
open Go Go.Pf
theorem cbT {c:Prop} [Decidable c] {P Q:Prop} (h:c):cbr (decide c) P Q=P:=by rw [decide_eq_true h,yac]
theorem cbF {c:Prop} [Decidable c] {P Q:Prop} (h:¬c):cbr (decide c) P Q=Q:=by rw [decide_eq_false h,yaa]
theorem cnT {a b:Int} {P Q:Prop} (h:a≠b):cbr (a != b) P Q=P:=by rw [bne_t h,yac]
theorem cnF {a b:Int} {P Q:Prop} (h:a=b):cbr (a != b) P Q=Q:=by rw [bne_f h,yaa]
theorem ceT {a b:Int} {P Q:Prop} (h:a=b):cbr (a == b) P Q=P:=by rw [beq_t h,yac]
theorem ceF {a b:Int} {P Q:Prop} (h:a≠b):cbr (a == b) P Q=Q:=by rw [beq_f h,yaa]
theorem asT {c:Prop} [Decidable c] {P:Prop} (h:c):asr (decide c) P=P:=by rw [decide_eq_true h,yaw]
theorem asC {l:List Int} {i:Nat} {P:Prop} (h:i<l.length):asr (conf (.one (.i .i64)) (List.getD (ints l) i .nils)) P=P:=by rw [yh3 h,yaw]
theorem wib {n:Int} (h1:-9223372036854775808≤n) (h2:n≤9223372036854775807):IntKind.i64.wrap n=n:=wi64 ⟨h1,h2⟩
theorem toNat1 (i:Nat):((i:Int)+1).toNat=i+1:=by omega
theorem cast1 (i:Nat):(i:Int)+1=((i+1:Nat):Int):=by omega
theorem yfX {x:Int} (h:-1000000000000000000≤x∧x≤1000000000000000000):small (x:Rat):=by
 unfold small
 rw [Rat.num_intCast,Rat.den_intCast]
 omega
def allD (dens:List Int):Prop:=∀ d∈dens,0≤d∧d≤12
def someD (dens:List Int):Prop:=∃ d∈dens,0<d
instance (l:List Int):Decidable (allD l):=by unfold allD;infer_instance
instance (l:List Int):Decidable (someD l):=by unfold someD;infer_instance
def VC (len:Int) (cuts dens:List Int):Prop :=
 1≤len∧len≤1000∧2≤cuts.length∧cuts.length≤40∧dens.length+1=cuts.length∧cuts.getD 0 0=0∧cuts.getD (cuts.length-1) 0=len∧incr cuts 0∧allD dens∧someD dens
theorem yH6 (l:List Int):incr l 0↔∀ j,j<l.length→j+1<l.length→l.getD j 0<l.getD (j+1) 0:=⟨fun h j _ h2=>h j (by omega) h2,fun h j _ h2=>h j (by omega) h2⟩
instance (l:List Int):Decidable (incr l 0):=decidable_of_iff _ (yH6 l).symm
instance (len:Int) (cuts dens:List Int):Decidable (VC len cuts dens):=by unfold VC;infer_instance
def ckC (len:Int) (cuts dens:List Int):Int:=if len>1000∨cuts.length>40 then 4 else if VC len cuts dens then 0 else 8
theorem yFZ (l:List Int) (x:Int):(l.foldl mnf x<0)↔¬(∀ d∈x::l,0≤d):=by
 induction l generalizing x with
 | nil=>simp
 | cons y t ih =>
   rw [List.foldl_cons,ih]
   unfold mnf
   simp only [List.forall_mem_cons]
   split
   · constructor
     · intro h h2;exact h ⟨h2.2.1,h2.2.2⟩
     · intro h h2;exact h ⟨by omega,h2.1,h2.2⟩
   · constructor
     · intro h h2;exact h ⟨h2.1,h2.2.2⟩
     · intro h h2;exact h ⟨h2.1,by omega,h2.2⟩
theorem ytD (l:List Int) (x k:Int):(l.foldl mxf x>k)↔¬(∀ d∈x::l,d≤k):=by
 induction l generalizing x with
 | nil=>simp
 | cons y t ih =>
   rw [List.foldl_cons,ih]
   unfold mxf
   simp only [List.forall_mem_cons]
   split
   · constructor
     · intro h h2;exact h ⟨h2.2.1,h2.2.2⟩
     · intro h h2;exact h ⟨by omega,h2.1,h2.2⟩
   · constructor
     · intro h h2;exact h ⟨h2.1,h2.2.2⟩
     · intro h h2;exact h ⟨h2.1,by omega,h2.2⟩
theorem yjS {len:Int} {cuts dens:List Int} (h1:cuts.length<4611686018427387904) (h2:dens.length<4611686018427387904) (K:Int→Prop) :
   yai len (ints cuts) (ints dens) K=K (ckC len cuts dens):=by
 refine yw7 _ _ _ _ (fun K k=>?_) K
 unfold yai ylK
 simp only [yat]
 have bad:¬(len>1000∨cuts.length>40)→¬VC len cuts dens→K 8:=fun h h2=>by
   rw [ckC,if_neg h,if_neg h2] at k;exact k
 by_cases a1:len>1000
 · rw [cbT a1];rw [ckC,if_pos (.inl a1)] at k;exact k
 rw [cbF a1]
 by_cases a2:cuts.length>40
 · rw [cbT (by omega)];rw [ckC,if_pos (.inr a2)] at k;exact k
 have a12:¬(len>1000∨cuts.length>40):=by omega
 rw [cbF (by omega)]
 by_cases a3:len<1
 · rw [cbT a3];exact bad a12 (fun h=>by have:=h.1;omega)
 rw [cbF a3]
 by_cases a4:cuts.length<2
 · rw [cbT (by omega)];exact bad a12 (fun h=>by have:=h.2.2.1;omega)
 rw [cbF (by omega),wib (n:=(cuts.length:Int)-1) (by omega) (by omega)]
 by_cases a5:dens.length+1=cuts.length
 case neg=>rw [cnT (by omega)];exact bad a12 (fun h=>a5 h.2.2.2.2.1)
 rw [cnF (by omega),asT (by omega),asC (by omega),ybv (by omega)]
 by_cases a6:cuts.getD 0 0=0
 case neg=>rw [cnT a6];exact bad a12 (fun h=>a6 h.2.2.2.2.2.1)
 rw [cnF a6,asT (by omega),asT (by omega),asC (by omega),ybv (by omega)]
 have en:((cuts.length:Int)-1).toNat=cuts.length-1:=by omega
 rw [en]
 by_cases a7:cuts.getD (cuts.length-1) 0=len
 case neg=>rw [cnT a7];exact bad a12 (fun h=>a7 h.2.2.2.2.2.2.1)
 rw [cnF a7]
 refine ⟨cuts.length+1,?_⟩
 refine yE8 (by omega) _ _ _ _ (cuts.length-1) 0 _ (by omega) (by omega) (fun hi=>?_) (fun hi=>bad a12 (fun h=>hi h.2.2.2.2.2.2.2.1))
 obtain ⟨x,t,e⟩:∃ x t,dens=x::t:=by
   cases dens with
   | nil=>exfalso;have:([]:List Int).length=0:=rfl;omega
   | cons x t=>exact ⟨x,t,rfl⟩
 refine yKx (by omega) e ?_
 by_cases b1:t.foldl mnf x<0
 · rw [cbT b1]
   rw [yFZ] at b1
   exact bad a12 (fun h=>b1 fun d hd=>(h.2.2.2.2.2.2.2.2.1 d (by rw [e];exact hd)).1)
 rw [cbF b1]
 refine yHY (by omega) e ?_
 by_cases b2:t.foldl mxf x>12
 · rw [cbT b2]
   rw [ytD] at b2
   exact bad a12 (fun h=>b2 fun d hd=>(h.2.2.2.2.2.2.2.2.1 d (by rw [e];exact hd)).2)
 rw [cbF b2]
 refine yHY (by omega) e ?_
 have c1:∀ d∈dens,0≤d:=by rw [yFZ,Classical.not_not,← e] at b1;exact b1
 have c2:∀ d∈dens,d≤12:=by rw [ytD,Classical.not_not,← e] at b2;exact b2
 by_cases b3:t.foldl mxf x=0
 · rw [ceT b3]
   refine bad a12 (fun h=>?_)
   obtain ⟨d,hd,h0⟩:=h.2.2.2.2.2.2.2.2.2
   have:¬(t.foldl mxf x>0):=by omega
   rw [ytD,Classical.not_not,← e] at this
   have:=this d hd
   omega
 · rw [ceF b3]
   have b4:t.foldl mxf x>0:=by
     refine Int.not_le.1 fun hle=>b3 ?_
     have:t.foldl mxf x>-1:=by
       rw [ytD]
       intro h
       have h1:=h x (List.mem_cons_self ..)
       have h2:=c1 x (by rw [e];exact List.mem_cons_self ..)
       omega
     omega
   rw [ytD,← e] at b4
   have b5:someD dens:=by
     refine Classical.byContradiction fun hn=>b4 fun d hd=>?_
     exact Int.not_lt.1 fun hlt=>hn ⟨d,hd,hlt⟩
   rw [ckC,if_neg a12,if_pos ⟨by omega,by omega,by omega,by omega,a5,a6,a7,hi,fun d hd=>⟨c1 d hd,c2 d hd⟩,b5⟩] at k
   exact k
theorem yhl (n:Int) (K:Int→Int→Prop):yaV n K=K (n:Rat).num (n:Rat).den:=rfl
theorem yfD {q r:Rat} (hq:small q) (hr:small r) (K:Bool→Prop):yaZ q.num q.den r.num r.den K=K (decide (q<r)):=by
 unfold yaZ ynh
 rw [yFY hq hr]
 congr 1
 rw [decide_eq_decide,cmpQ]
 by_cases h:q<r
 · simp [h]
 · by_cases h2:r<q <;> simp [h,h2]
def PT (len:Int) (n d:Int):Prop:=RV n d∧0≤n∧n≤len*d
instance (len n d:Int):Decidable (PT len n d):=by unfold PT;infer_instance
theorem yH7 {len n d:Int} (h:PT len n d):∃ q:Rat,small q∧q.num=n∧(q.den:Int)=d∧0≤q∧q≤(len:Rat):=by
 obtain ⟨h1,h2,h3⟩:=h
 obtain ⟨q,e1,e2,e3⟩:=yBp h1
 refine ⟨q,e1,e2,e3,?_,?_⟩
 · rw [← Rat.num_nonneg,e2];exact h2
 · rw [Rat.le_iff,e2,e3,Rat.num_intCast,Rat.den_intCast];simpa using h3
theorem yxP (x:Int) (q:Rat):((x:Rat)<q)↔x*(q.den:Int)<q.num:=by
 rw [Rat.lt_iff,Rat.num_intCast,Rat.den_intCast];simp
theorem yxQ {len:Int} (hl:-1000000000000000000≤len∧len≤1000000000000000000) {n d:Int} (hn:I64 n) (hd:I64 d) (a b:List PV) (K:Bool→Prop) :
   ya1 len a b n d K=K (decide (PT len n d)):=by
 unfold ya1 ylO
 rw [yzL hn hd]
 by_cases h:RV n d
 · obtain ⟨q,e1,e2,e3⟩:=yBp h
   rw [chk,if_pos h,ceT rfl]
   by_cases h0:n≥0
   · rw [cbT h0,yhl,← e2,← e3,yfD (yfX hl) e1]
     congr 1
     have:((len:Rat)<q)↔len*(q.den:Int)<q.num:=yxP _ _
     by_cases h3:(len:Rat)<q
     · have h4:=this.1 h3
       rw [decide_eq_true h3,decide_eq_false];rfl
       intro hp;have:=hp.2.2;omega
     · have h4:¬_:=fun x=>h3 (this.2 x)
       rw [decide_eq_false h3,decide_eq_true];rfl
       exact ⟨e1.rv,by omega,by omega⟩
   · rw [cbF h0,decide_eq_false]
     intro hp;have:=hp.2.1;omega
 · rw [chk,if_neg h,ceF (by decide),decide_eq_false]
   intro hp;exact h hp.1
end Go.Pf.Vc
namespace Go.Pf.Vc
open Go Go.Pf
section
variable {len:Int} {cuts dens:List Int}
theorem VC.step (h:VC len cuts dens) {i:Nat} (hi:i+1<cuts.length):cuts.getD i 0<cuts.getD (i+1) 0:=h.2.2.2.2.2.2.2.1 i (Nat.zero_le _) hi
theorem VC.mono (h:VC len cuts dens) {i:Nat}:∀ {j:Nat},i≤j→j<cuts.length→cuts.getD i 0≤cuts.getD j 0
 | 0,hij,_=>by
  have:i=0:=by omega
  subst this;exact Int.le_refl _
 | j+1,hij,hj=>by
   by_cases e:i=j+1
   · subst e;exact Int.le_refl _
   · have h1:=h.mono (i:=i) (j:=j) (by omega) (by omega)
     have h2:=h.step (i:=j) hj
     omega
theorem VC.lo (h:VC len cuts dens) {i:Nat} (hi:i<cuts.length):0≤cuts.getD i 0:=by
 have:=h.mono (Nat.zero_le i) hi
 rw [h.2.2.2.2.2.1] at this;exact this
theorem VC.hi (h:VC len cuts dens) {i:Nat} (hi:i<cuts.length):cuts.getD i 0≤len:=by
 have:=h.mono (i:=i) (j:=cuts.length-1) (by omega) (by omega)
 rw [h.2.2.2.2.2.2.1] at this;exact this
theorem VC.den (h:VC len cuts dens) {i:Nat} (hi:i<dens.length):0≤dens.getD i 0∧dens.getD i 0≤12:=by
 rw [List.getD_eq_getElem?_getD,List.getElem?_eq_getElem hi]
 exact h.2.2.2.2.2.2.2.2.1 _ (List.getElem_mem hi)
theorem VC.l1 (h:VC len cuts dens):dens.length+1=cuts.length:=h.2.2.2.2.1
theorem VC.l2 (h:VC len cuts dens):cuts.length≤40:=h.2.2.2.1
theorem VC.len0 (h:VC len cuts dens):1≤len∧len≤1000:=⟨h.1,h.2.1⟩
theorem VC.sc (h:VC len cuts dens) {i:Nat} (hi:i<cuts.length):small ((cuts.getD i 0:Int):Rat):=yfX (by have:=h.lo hi;have:=h.hi hi;have:=h.len0;omega)
theorem VC.sd (h:VC len cuts dens) {i:Nat} (hi:i<dens.length):small ((dens.getD i 0:Int):Rat):=yfX (by have:=h.den hi;omega)
theorem ypk (h:ckC len cuts dens=0):VC len cuts dens:=by
 unfold ckC at h
 split at h
 · omega
 · split at h
   · assumption
   · omega
theorem VC.ck (h:VC len cuts dens):ckC len cuts dens=0:=by
 rw [ckC,if_neg (by have:=h.l2;have:=h.len0;omega),if_pos h]
def totS (cuts dens:List Int):Nat→Nat→Int→Int
 | 0,_,s=>s
 | r+1,i,s=>totS cuts dens r (i+1) (s+dens.getD i 0*(cuts.getD (i+1) 0-cuts.getD i 0))
def totC (cuts dens:List Int):Int:=totS cuts dens dens.length 0 0
theorem mul12 {d x:Int} (h:0≤d∧d≤12) (hx:0≤x):0≤d*x∧d*x≤12*x:=⟨Int.mul_nonneg h.1 hx,Int.mul_le_mul_of_nonneg_right h.2 hx⟩
theorem yxR (h:VC len cuts dens):∀ (r i:Nat) (s:Int),i+r=dens.length→0≤s→s≤12*cuts.getD i 0→0≤totS cuts dens r i s∧totS cuts dens r i s≤12*len
 | 0,i,s,hi,h0,h1=>by
   have:=h.l1
   have:=h.hi (i:=i) (by omega)
   unfold totS
   omega
 | r+1,i,s,hi,h0,h1=>by
   unfold totS
   have l1:=h.l1
   have h2:=h.step (i:=i) (by omega)
   have h3:=mul12 (h.den (i:=i) (by omega)) (x:=cuts.getD (i+1) 0-cuts.getD i 0) (by omega)
   exact yxR h r (i+1) _ (by omega) (by omega) (by omega)
theorem ykW (h:VC len cuts dens):0≤totC cuts dens∧totC cuts dens≤12000:=by
 have l1:=h.l1
 have h0:=h.lo (i:=0) (by omega)
 have:=yxR h dens.length 0 0 (by omega) (by omega) (by omega)
 have h2:=h.len0
 unfold totC;omega
theorem yxS (h:VC len cuts dens) (W:Int→List PV→List PV→(Int→Prop)→Prop) (x0:Int→List PV→List PV→Int→List PV→Int→Int→Bool→Prop) :
   ∀ (r i n:Nat) (s:Int),i+r=dens.length→r<n→0≤s→s≤12*cuts.getD i 0 →
     ybO W x0 n len (ints cuts) (ints dens) s (ints dens) dens.length i=x0 len (ints cuts) (ints dens) (totS cuts dens r i s) (ints dens) dens.length dens.length false
 | 0,i,n+1,s,hi,hn,h0,h1=>by
   unfold ybO totS
   rw [cbF (by omega)]
   have:(i:Int)=dens.length:=by omega
   rw [this]
 | r+1,i,n+1,s,hi,hn,h0,h1=>by
   unfold ybO
   have l1:=h.l1;have l2:=h.l2
   have h2:=h.step (i:=i) (by omega)
   have h3:=mul12 (h.den (i:=i) (by omega)) (x:=cuts.getD (i+1) 0-cuts.getD i 0) (by omega)
   have a1:=h.lo (i:=i) (by omega)
   have a2:=h.hi (i:=i+1) (by omega)
   have a3:=h.len0
   have e1:=wib (n:=(i:Int)+1) (by omega) (by omega)
   have e2:=wib (n:=cuts.getD (i+1) 0-cuts.getD i 0) (by omega) (by omega)
   have e3:=wib (n:=dens.getD i 0*(cuts.getD (i+1) 0-cuts.getD i 0)) (by omega) (by omega)
   have e4:=wib (n:=s+dens.getD i 0*(cuts.getD (i+1) 0-cuts.getD i 0)) (by omega) (by omega)
   rw [cbT (by omega),yat,yat,e1,cast1,Int.toNat_natCast,Int.toNat_natCast,asT (by omega),asT (by omega),asC (by omega),asT (by omega),asT (by omega),asC (by omega),asT (by omega),asT (by omega),asC (by omega),ybv (by omega),ybv (by omega),ybv (by omega),e2,e3,e4]
   exact yxS h W x0 r (i+1) n _ (by omega) (by omega) (by omega) (by omega)
theorem yGV (h1:cuts.length<4611686018427387904) (h2:dens.length<4611686018427387904) (K:Int→Int→Prop) :
   ydG len (ints cuts) (ints dens) K=if ckC len cuts dens=0 then K (totC cuts dens) 0 else K 0 (ckC len cuts dens):=by
 by_cases h:ckC len cuts dens=0
 · rw [if_pos h]
   refine yw8 _ _ _ _ _ (fun K k=>?_) K
   unfold ydG yia
   have hv:=ypk h
   rw [yjS h1 h2,h,cnF rfl]
   refine ⟨dens.length+1,?_⟩
   have l1:=hv.l1
   have a1:=hv.lo (i:=0) (by omega)
   rw [yat]
   have:=yxS hv yai (fun yi1 yl2 yl3 yi4 yl5 yi6 yi7 yb8=>(K yi4 (0:Int))) dens.length 0 (dens.length+1) 0 (by omega) (by omega) (by omega) (by omega)
   rw [show ((0:Nat):Int)=0 from rfl] at this
   rw [this]
   exact k
 · rw [if_neg h]
   unfold ydG yia
   rw [yjS h1 h2,cnT h]
def exK (e:Except Int Rat) (K:Int→Int→Int→Prop):Prop:=match e with | .ok q=>K q.num q.den 0 | .error c=>K 0 0 c
def fit {α:Type} (q:Rat) (k:Rat→Except Int α):Except Int α:=if small q then k q else .error 16
def valS (cuts dens:List Int) (b:Rat):Nat→Nat→Rat→Rat→Except Int Rat
 | 0,_,_,sum=>.ok sum
 | r+1,i,p,sum =>
   let en:Rat:=if b<(cuts.getD (i+1) 0:Int) then b else (cuts.getD (i+1) 0:Int)
   if dens.getD i 0=0∨¬p<en then valS cuts dens b r (i+1) (if p<en then en else p) sum
   else fit (en-p) fun l=>fit (l*(dens.getD i 0:Int)) fun w=>fit (sum+w) fun s=>valS cuts dens b r (i+1) en s
def valC (cuts dens:List Int) (a b:Rat):Except Int Rat:=valS cuts dens b dens.length 0 a 0
theorem ybV {q:Rat} {K:Int→Int→Int→Prop}:fitK q K=if small q then K q.num q.den 0 else K 0 0 16:=rfl
theorem yxT (h:VC len cuts dens) {b:Rat} (hb:small b) (an ad:Int) (W1:Int→List PV→List PV→(Int→Prop)→Prop) (W2:Int→List PV→List PV→Int→Int→(Bool→Prop)→Prop) (K:Int→Int→Int→Prop) :
   ∀ (r i n:Nat) (p sum:Rat),i+r=dens.length→r<n→small p→small sum →
     yau W1 W2 yaZ yaV yah yak yaj (fun yi37 yi38 yi39=>(K yi37 yi38 yi39)) (fun _ _ _ _ _ _ _ yi47 yi48 _ _ _ _ _ _=>(K yi47 yi48 (0:Int)))
       n len (ints cuts) (ints dens) b.num b.den an ad sum.num sum.den p.num p.den (ints dens) dens.length i=exK (valS cuts dens b r i p sum) K
 | 0,i,n+1,p,sum,hi,hn,hp,hs=>by
   unfold yau valS
   rw [cbF (by omega)];rfl
 | r+1,i,n+1,p,sum,hi,hn,hp,hs=>by
   unfold yau
   have l1:=h.l1;have l2:=h.l2
   have sc:=h.sc (i:=i+1) (by omega)
   have sd:=h.sd (i:=i) (by omega)
   have e1:=wib (n:=(i:Int)+1) (by omega) (by omega)
   rw [cbT (by omega),yat,yat,e1,cast1,Int.toNat_natCast,Int.toNat_natCast,asT (by omega),asT (by omega),asC (by omega),asT (by omega),asT (by omega),asC (by omega),ybv (by omega),ybv (by omega),yhl,yfD hb sc]
   have ih:=fun p sum hp hs=>yxT h hb an ad W1 W2 K r (i+1) n p sum (by omega) (by omega) hp hs
   unfold valS
   by_cases hbc:b<((cuts.getD (i+1) 0:Int):Rat)
   · rw [cbT hbc]
     simp only [if_pos hbc]
     by_cases hd:dens.getD i 0=0
     · rw [ceT hd,if_pos (.inl hd),yfD hp hb]
       by_cases hpb:p<b
       · rw [cbT hpb,if_pos hpb];exact ih b sum hb hs
       · rw [cbF hpb,if_neg hpb];exact ih p sum hp hs
     · rw [ceF hd,yfD hp hb]
       by_cases hpb:p<b
       · have hc:¬(dens.getD i 0=0∨¬p<b):=by simp [hpb];exact hd
         rw [if_neg hc,decide_eq_true hpb,Bool.not_true,yaa,ylx hb hp,ybV]
         by_cases s1:small (b-p)
         · rw [if_pos s1,cnF rfl,yhl,yv6 s1 sd,ybV,fit,if_pos s1]
           by_cases s2:small ((b-p)*(dens.getD i 0:Int))
           · rw [if_pos s2,cnF rfl,yv7 hs s2,ybV,fit,if_pos s2]
             by_cases s3:small (sum+(b-p)*(dens.getD i 0:Int))
             · rw [if_pos s3,cnF rfl,fit,if_pos s3];exact ih b _ hb s3
             · rw [if_neg s3,cnT (by decide),fit,if_neg s3];rfl
           · rw [if_neg s2,cnT (by decide),fit,if_neg s2];rfl
         · rw [if_neg s1,cnT (by decide),fit,if_neg s1];rfl
       · rw [if_pos (.inr hpb),decide_eq_false hpb,Bool.not_false,yac,yfD hp hb,cbF hpb,if_neg hpb];exact ih p sum hp hs
   · rw [cbF hbc]
     simp only [if_neg hbc]
     obtain ⟨c,hc⟩:∃ c:Rat,c=((cuts.getD (i+1) 0:Int):Rat):=⟨_,rfl⟩
     rw [← hc] at sc ⊢
     by_cases hd:dens.getD i 0=0
     · rw [ceT hd,if_pos (.inl hd),yfD hp sc]
       by_cases hpb:p<c
       · rw [cbT hpb,if_pos hpb];exact ih c sum sc hs
       · rw [cbF hpb,if_neg hpb];exact ih p sum hp hs
     · rw [ceF hd,yfD hp sc]
       by_cases hpb:p<c
       · have hcc:¬(dens.getD i 0=0∨¬p<c):=by simp [hpb];exact hd
         rw [if_neg hcc,decide_eq_true hpb,Bool.not_true,yaa,ylx sc hp,ybV]
         by_cases s1:small (c-p)
         · rw [if_pos s1,cnF rfl,yhl,yv6 s1 sd,ybV,fit,if_pos s1]
           by_cases s2:small ((c-p)*(dens.getD i 0:Int))
           · rw [if_pos s2,cnF rfl,yv7 hs s2,ybV,fit,if_pos s2]
             by_cases s3:small (sum+(c-p)*(dens.getD i 0:Int))
             · rw [if_pos s3,cnF rfl,fit,if_pos s3];exact ih c _ sc s3
             · rw [if_neg s3,cnT (by decide),fit,if_neg s3];rfl
           · rw [if_neg s2,cnT (by decide),fit,if_neg s2];rfl
         · rw [if_neg s1,cnT (by decide),fit,if_neg s1];rfl
       · rw [if_pos (.inr hpb),decide_eq_false hpb,Bool.not_false,yac,yfD hp sc,cbF hpb,if_neg hpb];exact ih p sum hp hs
end
end Go.Pf.Vc
namespace Go.Pf.Vc
open Go Go.Pf
def rt (n d:Int):Rat:=mkRat n d.toNat
theorem yly (q:Rat):rt q.num q.den=q:=by unfold rt;rw [Int.toNat_natCast,Rat.mkRat_self]
theorem rt_of {n d:Int} (h:RV n d):small (rt n d)∧(rt n d).num=n∧((rt n d).den:Int)=d:=by
 obtain ⟨q,h1,h2,h3⟩:=yBp h
 subst h2 h3
 rw [yly];exact ⟨h1,rfl,rfl⟩
theorem PT.pt {len n d:Int} (h:PT len n d):small (rt n d)∧(rt n d).num=n∧((rt n d).den:Int)=d∧0≤rt n d∧rt n d≤(len:Rat):=by
 obtain ⟨q,h1,h2,h3,h4,h5⟩:=yH7 h
 subst h2 h3
 rw [yly];exact ⟨h1,rfl,rfl,h4,h5⟩
theorem PT_of {len:Int} {q:Rat} (h:small q) (h0:0≤q) (h1:q≤(len:Rat)):PT len q.num q.den:=by
 refine ⟨h.rv,Rat.num_nonneg.2 h0,?_⟩
 rw [Rat.le_iff,Rat.num_intCast,Rat.den_intCast] at h1
 simpa using h1
section
variable {len:Int} {cuts dens:List Int}
def valR (len:Int) (cuts dens:List Int) (an ad bn bd:Int):Except Int Rat :=
 if ckC len cuts dens=0 then (if PT len an ad∧PT len bn bd∧¬rt bn bd<rt an ad then valC cuts dens (rt an ad) (rt bn bd) else .error 2) else .error (ckC len cuts dens)
theorem yFa {w:(Int→Int→Int→Prop)→Prop} {e:Except Int Rat} (det:∀ r0 r1 r2,(∀ K:Int→Int→Int→Prop,K r0 r1 r2→w K)→∀ K,w K=K r0 r1 r2) (h:∀ K,exK e K→w K) (K:Int→Int→Int→Prop):w K=exK e K:=by
 cases e with
 | ok q=>exact det _ _ _ h K
 | error c=>exact det _ _ _ h K
theorem yzO (h1:cuts.length<4611686018427387904) (h2:dens.length<4611686018427387904) {an ad bn bd:Int} (ha:I64 an) (ha':I64 ad) (hb:I64 bn) (hb':I64 bd) (K:Int→Int→Int→Prop) :
   yct len (ints cuts) (ints dens) an ad bn bd K=exK (valR len cuts dens an ad bn bd) K:=by
 refine yFa (fun r0 r1 r2 h K=>yw9 _ _ _ _ _ _ _ r0 r1 r2 h K) (fun K k=>?_) K
 unfold yct ylQ
 rw [yjS h1 h2]
 unfold valR at k
 by_cases h:ckC len cuts dens=0
 case neg=>rw [cnT h];rw [if_neg h] at k;exact k
 have hv:=ypk h
 have hl:=hv.len0
 rw [if_pos h] at k
 rw [cnF h,yxQ (by omega) ha ha']
 by_cases p1:PT len an ad
 case neg=>rw [decide_eq_false p1,Bool.not_false,yac];rw [if_neg (fun x=>p1 x.1)] at k;exact k
 rw [decide_eq_true p1,Bool.not_true,yaa,yxQ (by omega) hb hb']
 by_cases p2:PT len bn bd
 case neg=>rw [decide_eq_false p2,Bool.not_false,yac];rw [if_neg (fun x=>p2 x.2.1)] at k;exact k
 rw [decide_eq_true p2,Bool.not_true,yaa]
 obtain ⟨s1,e1,e2,_,_⟩:=p1.pt
 obtain ⟨s2,f1,f2,_,_⟩:=p2.pt
 have hless:=yfD s2 s1
 rw [e1,e2,f1,f2] at hless
 rw [hless]
 by_cases p3:rt bn bd<rt an ad
 · rw [cbT p3];rw [if_neg (fun x=>x.2.2 p3)] at k;exact k
 rw [cbF p3]
 rw [if_pos ⟨p1,p2,p3⟩] at k
 rw [yhl,yat]
 refine ⟨dens.length+1,?_⟩
 have:=yxT hv s2 0 0 yai ya1 K dens.length 0 (dens.length+1) (rt an ad) 0 (by omega) (by omega) s1 (by decide)
 rw [e1,e2,f1,f2] at this
 exact this.mpr k
def mrkS (cuts dens:List Int):Nat→Nat→Rat→Rat→Except Int Rat
 | 0,_,_,_=>.error 6
 | r+1,i,p,v =>
   if ¬p<(cuts.getD (i+1) 0:Int) then mrkS cuts dens r (i+1) p v
   else if dens.getD i 0=0 then mrkS cuts dens r (i+1) (cuts.getD (i+1) 0:Int) v
   else fit ((cuts.getD (i+1) 0:Int)-p) fun l=>fit (l*(dens.getD i 0:Int)) fun w =>
     if w<v then fit (v-w) fun v'=>mrkS cuts dens r (i+1) (cuts.getD (i+1) 0:Int) v'
     else fit (v / (dens.getD i 0:Int)) fun s=>fit (p+s) .ok
def mrkC (cuts dens:List Int) (a v:Rat):Except Int Rat:=if v=0 then .ok a else mrkS cuts dens dens.length 0 a v
def mrkR (len:Int) (cuts dens:List Int) (an ad vn vd:Int):Except Int Rat :=
 if ckC len cuts dens=0 then (if PT len an ad∧RV vn vd∧0≤vn then mrkC cuts dens (rt an ad) (rt vn vd) else .error 2) else .error (ckC len cuts dens)
theorem yzP (h:VC len cuts dens) (W1:Int→List PV→List PV→(Int→Prop)→Prop) (W2:Int→List PV→List PV→Int→Int→(Bool→Prop)→Prop) (W3:Int→Int→(Int→Prop)→Prop) (K:Int→Int→Int→Prop) :
   ∀ (r i n:Nat) (p v:Rat) (o1 o2:Int),i+r=dens.length→r<n→small p→small v →
     yaN W1 W2 W3 yaV yaZ yah yak yar yaj
       (fun _ _ yi42 yi43 yi44 yi45=>(cbr (yi45 !=(0:Int)) (cbr (yi45 !=(0:Int)) (K (0:Int) (0:Int) yi45) (K yi42 yi43 (0:Int))) (cbr (yi44 !=(0:Int)) (K (0:Int) (0:Int) yi44) (K yi42 yi43 (0:Int)))))
       (fun _ _ yi48 yi49 yi50 _ _ _ _ _ _ _ _ _=>(cbr (yi50 !=(0:Int)) (K (0:Int) (0:Int) yi50) (K yi48 yi49 (0:Int))))
       n v.num v.den o1 o2 6 len (ints cuts) (ints dens) p.num p.den (ints dens) dens.length i=exK (mrkS cuts dens r i p v) K
 | 0,i,n+1,p,v,o1,o2,hi,hn,hp,hs=>by
   unfold yaN mrkS
   rw [cbF (by omega)];rfl
 | r+1,i,n+1,p,v,o1,o2,hi,hn,hp,hs=>by
   unfold yaN
   have l1:=h.l1;have l2:=h.l2
   have sc:=h.sc (i:=i+1) (by omega)
   have sd:=h.sd (i:=i) (by omega)
   have hd0:=h.den (i:=i) (by omega)
   have e1:=wib (n:=(i:Int)+1) (by omega) (by omega)
   rw [cbT (by omega),yat,yat,e1,cast1,Int.toNat_natCast,Int.toNat_natCast,asT (by omega),asT (by omega),asC (by omega),asT (by omega),asT (by omega),asC (by omega),ybv (by omega),ybv (by omega),yhl,yfD hp sc]
   have ih:=fun p v o1 o2 hp hs=>yzP h W1 W2 W3 K r (i+1) n p v o1 o2 (by omega) (by omega) hp hs
   unfold mrkS
   obtain ⟨c,hc⟩:∃ c:Rat,c=((cuts.getD (i+1) 0:Int):Rat):=⟨_,rfl⟩
   rw [← hc] at sc ⊢
   by_cases hpc:p<c
   case neg=>rw [decide_eq_false hpc,Bool.not_false,yac,if_pos hpc];exact ih p v o1 o2 hp hs
   rw [decide_eq_true hpc,Bool.not_true,yaa,if_neg (fun x=>x hpc),yhl]
   by_cases hd:dens.getD i 0=0
   · rw [cbF (by omega),ceT hd,if_pos hd];exact ih c v o1 o2 sc hs
   rw [cbT (by omega),if_neg hd,ylx sc hp,ybV]
   by_cases s1:small (c-p)
   case neg=>rw [if_neg s1,cnT (by decide),cnT (by decide),cnT (by decide),fit,if_neg s1];rfl
   rw [if_pos s1,cnF rfl,yhl,yv6 s1 sd,ybV,fit,if_pos s1]
   by_cases s2:small ((c-p)*(dens.getD i 0:Int))
   case neg=>rw [if_neg s2,cnT (by decide),cnT (by decide),cnT (by decide),fit,if_neg s2];rfl
   rw [if_pos s2,cnF rfl,ceF hd,yfD s2 hs,fit,if_pos s2]
   by_cases hw:(c-p)*(dens.getD i 0:Int)<v
   · rw [cbT hw,if_pos hw,ylx hs s2,ybV,fit]
     by_cases s3:small (v-(c-p)*(dens.getD i 0:Int))
     · rw [if_pos s3,if_pos s3,cnF rfl,cnF rfl];exact ih c _ o1 o2 sc s3
     · rw [if_neg s3,if_neg s3,cnT (by decide),cnT (by decide),cnF rfl,cnT (by decide)];rfl
   · have hdn:((dens.getD i 0:Int):Rat)≠0:=fun e=>hd (Rat.intCast_eq_zero_iff.1 e)
     rw [cbF hw,if_neg hw,yhl,yFX hs sd hdn,ybV,fit]
     by_cases s3:small (v / (dens.getD i 0:Int))
     · rw [if_pos s3,if_pos s3,ceT rfl,yv7 hp s3,ybV,fit]
       by_cases s4:small (p+v / (dens.getD i 0:Int))
       · rw [if_pos s4,if_pos s4,cnF rfl,cnF rfl];rfl
       · rw [if_neg s4,if_neg s4,cnF rfl,cnT (by decide)];rfl
     · rw [if_neg s3,if_neg s3,ceF (by decide),cnF rfl,cnT (by decide)];rfl
theorem yxU (h1:cuts.length<4611686018427387904) (h2:dens.length<4611686018427387904) {an ad vn vd:Int} (ha:I64 an) (ha':I64 ad) (hv:I64 vn) (hv':I64 vd) (K:Int→Int→Int→Prop) :
   ybP len (ints cuts) (ints dens) an ad vn vd K=exK (mrkR len cuts dens an ad vn vd) K:=by
 refine yFa (fun r0 r1 r2 h K=>yyL _ _ _ _ _ _ _ r0 r1 r2 h K) (fun K k=>?_) K
 unfold ybP yni
 rw [yjS h1 h2]
 unfold mrkR at k
 by_cases h:ckC len cuts dens=0
 case neg=>rw [cnT h];rw [if_neg h] at k;exact k
 have hc:=ypk h
 have hl:=hc.len0
 rw [if_pos h] at k
 rw [cnF h,yxQ (by omega) ha ha']
 by_cases p1:PT len an ad
 case neg=>rw [decide_eq_false p1,Bool.not_false,yac];rw [if_neg (fun x=>p1 x.1)] at k;exact k
 rw [decide_eq_true p1,Bool.not_true,yaa,yzL hv hv',chk]
 by_cases p2:RV vn vd
 case neg=>rw [if_neg p2,cnT (by decide)];rw [if_neg (fun x=>p2 x.2.1)] at k;exact k
 rw [if_pos p2,cnF rfl]
 by_cases p3:vn<0
 · rw [cbT p3];rw [if_neg (fun x=>by omega)] at k;exact k
 rw [cbF p3]
 rw [if_pos ⟨p1,p2,by omega⟩] at k
 obtain ⟨s1,e1,e2,_,_⟩:=p1.pt
 obtain ⟨s2,f1,f2⟩:=rt_of p2
 unfold mrkC at k
 by_cases p4:vn=0
 · rw [ceT p4]
   rw [if_pos (Rat.num_eq_zero.1 (f1.trans p4))] at k
   have k:K (rt an ad).num (rt an ad).den 0:=k
   rw [e1,e2] at k
   exact k
 rw [ceF p4]
 rw [if_neg (fun x=>p4 (by rw [← f1,x];rfl))] at k
 rw [yat]
 refine ⟨dens.length+1,?_⟩
 have:=yzP hc yai ya1 yaL K dens.length 0 (dens.length+1) (rt an ad) (rt vn vd) 0 0 (by omega) (by omega) s1 s2
 rw [e1,e2,f1,f2] at this
 exact this.mpr k
end
end Go.Pf.Vc
namespace Go.Pf.Vc
open Go Go.Pf
section
variable {len:Int} {cuts dens:List Int}
def okD (cuts dens:List Int) (i:Nat):Prop:=∀ j,i≤j→j<dens.length→cuts.getD j 0<cuts.getD (j+1) 0∧0≤dens.getD j 0∧dens.getD j 0≤12
theorem ypl (l1:dens.length+1=cuts.length) (l2:dens.length<4611686018427387904) (x0:Int→Prop) (x1:Int→List PV→List PV→Bool→Int→Bool→Prop) (P:Prop)
   (hbad:¬okD cuts dens 0→x0 8=P) (hgood:∀ b:Bool,okD cuts dens 0→b=decide (∃ j,j<dens.length∧0<dens.getD j 0)→x1 len (ints cuts) (ints dens) b dens.length false=P) :
   ∀ (r i n:Nat) (b:Bool),i+r=dens.length→r<n→(∀ j,j<i→cuts.getD j 0<cuts.getD (j+1) 0∧0≤dens.getD j 0∧dens.getD j 0≤12)→b=decide (∃ j,j<i∧0<dens.getD j 0) →
     ybD x0 x1 n len (ints cuts) (ints dens) b i=P
 | 0,i,n+1,b,hi,hn,hj,hb=>by
   unfold ybD
   rw [yat,cbF (by omega),show (i:Int)=dens.length by omega]
   refine hgood b (fun j _ h=>hj j (by omega)) ?_
   rw [hb,decide_eq_decide]
   rw [show i=dens.length by omega]
 | r+1,i,n+1,b,hi,hn,hj,hb=>by
   unfold ybD
   have e1:=wib (n:=(i:Int)+1) (by omega) (by omega)
   rw [yat,yat,cbT (by omega),e1,cast1,Int.toNat_natCast,Int.toNat_natCast,asT (by omega),asT (by omega),asC (by omega),asT (by omega),asT (by omega),asC (by omega),ybv (by omega),ybv (by omega)]
   have bad:¬(cuts.getD i 0<cuts.getD (i+1) 0∧0≤dens.getD i 0∧dens.getD i 0≤12)→x0 8=P:=fun h=>hbad fun hk=>h (hk i (by omega) (by omega))
   by_cases a1:cuts.getD (i+1) 0≤cuts.getD i 0
   · rw [cbT a1];exact bad (by omega)
   rw [cbF a1,asT (by omega),asT (by omega),asC (by omega),ybv (by omega)]
   by_cases a2:dens.getD i 0<0
   · rw [cbT a2];exact bad (by omega)
   rw [cbF a2,asT (by omega),asT (by omega),asC (by omega)]
   by_cases a3:dens.getD i 0>12
   · rw [cbT a3];exact bad (by omega)
   rw [cbF a3]
   have hj2:∀ j,j<i+1→cuts.getD j 0<cuts.getD (j+1) 0∧0≤dens.getD j 0∧dens.getD j 0≤12:=by
     intro j hlt
     by_cases e:j=i
     · subst e;omega
     · exact hj j (by omega)
   have ex:∀ c:Bool,(c=true↔(b=true∨0<dens.getD i 0))→c=decide (∃ j,j<i+1∧0<dens.getD j 0):=by
     intro c hc
     rw [Bool.eq_iff_iff,hc,hb,decide_eq_true_iff,decide_eq_true_iff]
     constructor
     · rintro (⟨j,h1,h2⟩ | h)
       · exact ⟨j,by omega,h2⟩
       · exact ⟨i,by omega,h⟩
     · rintro ⟨j,h1,h2⟩
       by_cases e:j=i
       · subst e;exact .inr h2
       · exact .inl ⟨j,by omega,h2⟩
   cases b with
   | true =>
     rw [yac]
     exact ypl l1 l2 x0 x1 P hbad hgood r (i+1) n true (by omega) (by omega) hj2 (ex _ (by simp))
   | false =>
     rw [yaa,asT (by omega),asT (by omega),asC (by omega)]
     exact ypl l1 l2 x0 x1 P hbad hgood r (i+1) n _ (by omega) (by omega) hj2 (ex _ (by simp))
theorem ypH (h1:cuts.length<4611686018427387904) (h2:dens.length<4611686018427387904) (K:Int→Prop) :
   yaK len (ints cuts) (ints dens) K=K (ckC len cuts dens):=by
 refine yy8 _ _ _ _ (fun K k=>?_) K
 unfold yaK yny
 simp only [yat]
 have bad:¬(len>1000∨cuts.length>40)→¬VC len cuts dens→K 8:=fun h h2=>by
   rw [ckC,if_neg h,if_neg h2] at k;exact k
 by_cases a1:len>1000
 · rw [cbT a1];rw [ckC,if_pos (.inl a1)] at k;exact k
 rw [cbF a1]
 by_cases a2:cuts.length>40
 · rw [cbT (by omega)];rw [ckC,if_pos (.inr a2)] at k;exact k
 have a12:¬(len>1000∨cuts.length>40):=by omega
 rw [cbF (by omega)]
 by_cases a3:len<1
 · rw [cbT a3];exact bad a12 (fun h=>by have:=h.1;omega)
 rw [cbF a3]
 by_cases a4:cuts.length<2
 · rw [cbT (by omega)];exact bad a12 (fun h=>by have:=h.2.2.1;omega)
 rw [cbF (by omega),wib (n:=(cuts.length:Int)-1) (by omega) (by omega)]
 by_cases a5:dens.length+1=cuts.length
 case neg=>rw [cnT (by omega)];exact bad a12 (fun h=>a5 h.2.2.2.2.1)
 rw [cnF (by omega),asT (by omega),asC (by omega),ybv (by omega)]
 by_cases a6:cuts.getD 0 0=0
 case neg=>rw [cnT a6];exact bad a12 (fun h=>a6 h.2.2.2.2.2.1)
 rw [cnF a6,asT (by omega),asT (by omega),asC (by omega),ybv (by omega)]
 have en:((cuts.length:Int)-1).toNat=cuts.length-1:=by omega
 rw [en]
 by_cases a7:cuts.getD (cuts.length-1) 0=len
 case neg=>rw [cnT a7];exact bad a12 (fun h=>a7 h.2.2.2.2.2.2.1)
 rw [cnF a7]
 have mem:∀ d,d∈dens↔∃ j,j<dens.length∧dens.getD j 0=d:=by
   intro d
   rw [List.mem_iff_getElem]
   constructor
   · rintro ⟨j,hj,e⟩;exact ⟨j,hj,by rw [List.getD_eq_getElem?_getD,List.getElem?_eq_getElem hj];exact e⟩
   · rintro ⟨j,hj,e⟩;exact ⟨j,hj,by rw [List.getD_eq_getElem?_getD,List.getElem?_eq_getElem hj] at e;exact e⟩
 refine ⟨dens.length+1,?_⟩
 refine (ypl a5 h2 _ _ (K (ckC len cuts dens)) (fun hk=>?_) (fun b hk hb=>?_) dens.length 0 (dens.length+1) false (by omega) (by omega) (fun j h=>by omega) (by simp)).mpr k
 · have hv:¬VC len cuts dens:=fun h=>hk fun j _ hj=>⟨h.step (by omega),h.den hj⟩
   rw [ckC,if_neg a12,if_neg hv]
 · have hsome:someD dens↔∃ j,j<dens.length∧0<dens.getD j 0:=by
     constructor
     · rintro ⟨d,hd,h0⟩
       obtain ⟨j,hj,e⟩:=(mem d).1 hd
       exact ⟨j,hj,by rw [e];exact h0⟩
     · rintro ⟨j,hj,h0⟩;exact ⟨_,(mem _).2 ⟨j,hj,rfl⟩,h0⟩
   have hv:VC len cuts dens↔someD dens:=by
     refine ⟨fun h=>h.2.2.2.2.2.2.2.2.2,fun h=>⟨by omega,by omega,by omega,by omega,a5,a6,a7,fun j _ hj=>(hk j (by omega) (by omega)).1,fun d hd=>?_,h⟩⟩
     obtain ⟨j,hj,e⟩:=(mem d).1 hd
     rw [← e];exact (hk j (by omega) hj).2
   rw [ckC,if_neg a12]
   by_cases hs:someD dens
   · rw [if_pos (hv.2 hs),hb,decide_eq_true (hsome.1 hs)];rfl
   · rw [if_neg (fun x=>hs (hv.1 x)),hb,decide_eq_false (fun x=>hs (hsome.2 x))];rfl
theorem yxV (h:VC len cuts dens) (x0:Int→List PV→List PV→Int→Int→Bool→Prop) :
   ∀ (r i n:Nat) (s:Int),i+r=dens.length→r<n→0≤s→s≤12*cuts.getD i 0 →
     ycl x0 n len (ints cuts) (ints dens) s i=x0 len (ints cuts) (ints dens) (totS cuts dens r i s) dens.length false
 | 0,i,n+1,s,hi,hn,h0,h1=>by
   unfold ycl totS
   have:(i:Int)=dens.length:=by omega
   rw [yat,cbF (by omega),this]
 | r+1,i,n+1,s,hi,hn,h0,h1=>by
   unfold ycl
   have l1:=h.l1;have l2:=h.l2
   have h2:=h.step (i:=i) (by omega)
   have h3:=mul12 (h.den (i:=i) (by omega)) (x:=cuts.getD (i+1) 0-cuts.getD i 0) (by omega)
   have a1:=h.lo (i:=i) (by omega)
   have a2:=h.hi (i:=i+1) (by omega)
   have a3:=h.len0
   have e1:=wib (n:=(i:Int)+1) (by omega) (by omega)
   have e2:=wib (n:=cuts.getD (i+1) 0-cuts.getD i 0) (by omega) (by omega)
   have e3:=wib (n:=dens.getD i 0*(cuts.getD (i+1) 0-cuts.getD i 0)) (by omega) (by omega)
   have e4:=wib (n:=s+dens.getD i 0*(cuts.getD (i+1) 0-cuts.getD i 0)) (by omega) (by omega)
   rw [yat,yat,cbT (by omega),e1,cast1,Int.toNat_natCast,Int.toNat_natCast,asT (by omega),asT (by omega),asC (by omega),asT (by omega),asT (by omega),asC (by omega),asT (by omega),asT (by omega),asC (by omega),ybv (by omega),ybv (by omega),ybv (by omega),e2,e3,e4]
   exact yxV h x0 r (i+1) n _ (by omega) (by omega) (by omega) (by omega)
theorem yGW (hv:VC len cuts dens) (K:Int→Prop):yfy len (ints cuts) (ints dens) K=K (totC cuts dens):=by
 refine yza _ _ _ _ (fun K k=>?_) K
 unfold yfy ynJ
 refine ⟨dens.length+1,?_⟩
 have l1:=hv.l1
 have a1:=hv.lo (i:=0) (by omega)
 have:=yxV hv (fun yi0 yl1 yl2 yi3 yi4 yb5=>K yi3) dens.length 0 (dens.length+1) 0 (by omega) (by omega) (by omega) (by omega)
 rw [show ((0:Nat):Int)=0 from rfl] at this
 rw [this]
 exact k
theorem ymS (hl:-1000000000000000000≤len∧len≤1000000000000000000) {n d:Int} (hn:I64 n) (hd:I64 d) (K:Bool→Prop) :
   ycz len n d K=K (decide (PT len n d)):=by
 unfold ycz ynB
 rw [ypG hn hd]
 by_cases h:RV n d
 · obtain ⟨q,e1,e2,e3⟩:=yBp h
   rw [chk,if_pos h,ceT rfl]
   by_cases h0:n≥0
   · rw [cbT h0,yBv,← e2,← e3,ymR (yfX hl) e1]
     congr 1
     have:((len:Rat)<q)↔len*(q.den:Int)<q.num:=yxP _ _
     by_cases h3:(len:Rat)<q
     · have h4:=this.1 h3
       rw [decide_eq_true h3,decide_eq_false];rfl
       intro hp;have:=hp.2.2;omega
     · have h4:¬_:=fun x=>h3 (this.2 x)
       rw [decide_eq_false h3,decide_eq_true];rfl
       exact ⟨e1.rv,by omega,by omega⟩
   · rw [cbF h0,decide_eq_false]
     intro hp;have:=hp.2.1;omega
 · rw [chk,if_neg h,ceF (by decide),decide_eq_false]
   intro hp;exact h hp.1
def mxQ (a b:Rat):Rat:=if a<b then b else a
def mnQ (a b:Rat):Rat:=if a<b then a else b
theorem yGX {q r:Rat} (hq:small q) (hr:small r) (K:Int→Int→Prop):yiL q.num q.den r.num r.den K=K (mxQ q r).num (mxQ q r).den:=by
 unfold yiL ynC mxQ
 rw [ymR hq hr]
 by_cases h:q<r
 · rw [cbT h,if_pos h]
 · rw [cbF h,if_neg h]
theorem yFb {q r:Rat} (hq:small q) (hr:small r) (K:Int→Int→Prop):yhf q.num q.den r.num r.den K=K (mnQ q r).num (mnQ q r).den:=by
 unfold yhf ymi mnQ
 rw [ymR hq hr]
 by_cases h:q<r
 · rw [cbT h,if_pos h]
 · rw [cbF h,if_neg h]
theorem yH8 {q r:Rat} (hq:small q) (hr:small r):small (mxQ q r):=by unfold mxQ;split <;> assumption
theorem yDm {q r:Rat} (hq:small q) (hr:small r):small (mnQ q r):=by unfold mnQ;split <;> assumption
def worS (cuts dens:List Int) (i:Nat) (a b:Rat):Except Int Rat :=
 let f:=mxQ a (cuts.getD i 0:Int)
 let t:=mnQ b (cuts.getD (i+1) 0:Int)
 if ¬f<t∨dens.getD i 0=0 then .ok 0 else fit (t-f) fun d=>fit (d*(dens.getD i 0:Int)) .ok
theorem yGY (h:VC len cuts dens) {i:Nat} (hi:i<dens.length) {a b:Rat} (ha:small a) (hb:small b) (K:Int→Int→Int→Prop) :
   ydJ len (ints cuts) (ints dens) i a.num a.den b.num b.den K=exK (worS cuts dens i a b) K:=by
 unfold ydJ ynE worS
 have l1:=h.l1;have l2:=h.l2
 have sc:=h.sc (i:=i+1) (by omega)
 have sc0:=h.sc (i:=i) (by omega)
 have sd:=h.sd (i:=i) (by omega)
 have e1:=wib (n:=(i:Int)+1) (by omega) (by omega)
 rw [yat,yat,e1,cast1,Int.toNat_natCast,Int.toNat_natCast,asT (by omega),asT (by omega),asC (by omega),ybv (by omega),yBv,yGX ha sc0,asT (by omega),asT (by omega),asC (by omega),ybv (by omega),yBv,yFb hb sc]
 have s1:=yH8 ha sc0
 have s2:=yDm hb sc
 rw [ymR s1 s2]
 by_cases c1:mxQ a (cuts.getD i 0:Int)<mnQ b (cuts.getD (i+1) 0:Int)
 case neg =>
   rw [decide_eq_false c1,Bool.not_false,yac]
   simp only [c1,not_false_eq_true,true_or,if_true];rfl
 rw [decide_eq_true c1,Bool.not_true,yaa,asT (by omega),asT (by omega),asC (by omega),ybv (by omega)]
 by_cases c2:dens.getD i 0=0
 · rw [ceT c2]
   simp only [c2,or_true,if_true];rfl
 rw [ceF c2,yJr s2 s1,ybV]
 have cc:¬(¬mxQ a (cuts.getD i 0:Int)<mnQ b (cuts.getD (i+1) 0:Int)∨dens.getD i 0=0):=fun x=>x.elim (fun y=>y c1) c2
 simp only [if_neg cc,fit]
 by_cases s3:small (mnQ b (cuts.getD (i+1) 0:Int)-mxQ a (cuts.getD i 0:Int))
 · rw [if_pos s3,if_pos s3,cnF rfl,asT (by omega),asT (by omega),asC (by omega),yBv,yJs s3 sd,ybV]
   split <;> rfl
 · rw [if_neg s3,if_neg s3,cnT (by decide)];rfl
end
end Go.Pf.Vc
namespace Go.Pf.Vc
open Go Go.Pf
section
variable {len:Int} {cuts dens:List Int}
theorem ygx {α:Type} {q:Rat} {k:Rat→Except Int α} (h:small q):fit q k=k q:=if_pos h
theorem yxW {α:Type} {q:Rat} {k:Rat→Except Int α} (h:¬small q):fit q k=.error 16:=if_neg h
theorem ydp {q:Rat} {K:Int→Int→Int→Prop}:exK (.ok q) K=K q.num q.den 0:=rfl
theorem ypm {c:Int} {K:Int→Int→Int→Prop}:exK (.error c) K=K 0 0 c:=rfl
theorem add_zero (q:Rat):q+0=q:=by grind
theorem yvt (h:VC len cuts dens) {a b:Rat} (ha:small a) (hb:small b) (hab:¬b<a) (W1:Int→List PV→List PV→(Int→Prop)→Prop) (W2:Int→Int→Int→(Bool→Prop)→Prop) (W3:Int→Int→Int→Int→(Bool→Prop)→Prop) (K:Int→Int→Int→Prop) :
   ∀ (r i n:Nat) (p sum:Rat),i+r=dens.length→r<n→small sum→p=mxQ a (mnQ b (cuts.getD i 0:Int)) →
     yck W1 W2 W3 ydJ yec (fun yi11 yi12 yi13=>(K yi11 yi12 yi13)) (fun _ _ _ _ _ _ _ _ _ yi23 yi24 _ _=>(K yi23 yi24 (0:Int)))
       n len (ints cuts) (ints dens) a.num a.den b.num b.den 0 0 sum.num sum.den i=exK (valS cuts dens b r i p sum) K
 | 0,i,n+1,p,sum,hi,hn,hs,hp=>by
   unfold yck valS
   rw [yat,cbF (by omega)];rfl
 | r+1,i,n+1,p,sum,hi,hn,hs,hp=>by
   unfold yck
   have l1:=h.l1;have l2:=h.l2
   have e1:=wib (n:=(i:Int)+1) (by omega) (by omega)
   have hst:=h.step (i:=i) (by omega)
   have hst':((cuts.getD i 0:Int):Rat)<((cuts.getD (i+1) 0:Int):Rat):=Rat.intCast_lt_intCast.2 hst
   have sd:=h.sd (i:=i) (by omega)
   have sc:=h.sc (i:=i+1) (by omega)
   have sc0:=h.sc (i:=i) (by omega)
   rw [yat,cbT (by omega),yGY h (by omega) ha hb,e1,cast1]
   have ih:=fun p sum hs hp=>yvt h ha hb hab W1 W2 W3 K r (i+1) n p sum (by omega) (by omega) hs hp
   unfold valS worS
   obtain ⟨c0,hc0⟩:∃ c:Rat,c=((cuts.getD i 0:Int):Rat):=⟨_,rfl⟩
   obtain ⟨c,hc⟩:∃ c:Rat,c=((cuts.getD (i+1) 0:Int):Rat):=⟨_,rfl⟩
   obtain ⟨d,hd⟩:∃ d:Rat,d=((dens.getD i 0:Int):Rat):=⟨_,rfl⟩
   rw [← hc0,← hc] at hst'
   rw [← hc] at sc
   rw [← hc0] at sc0 hp
   rw [← hd] at sd
   rw [← hc] at ih
   simp only [← hc0,← hc,← hd]
   have zk:∀ K2:Int→Int→Int→Prop,fitK (sum+0) K2=K2 sum.num sum.den 0:=fun K2=>by rw [add_zero,ybV,if_pos hs]
   have en:(if b<c then b else c)=mnQ b c:=rfl
   rw [en]
   have nx:(if p<mnQ b c then mnQ b c else p)=mxQ a (mnQ b c):=by
     rw [hp];unfold mxQ mnQ
     grind
   have add0:=yBu hs (r:=0) (by decide)
   rw [show (0:Rat).num=0 from rfl,show ((0:Rat).den:Int)=1 from rfl] at add0
   by_cases c2:dens.getD i 0=0
   · rw [if_pos (.inr c2),if_pos (.inl c2),nx]
     rw [ydp,cnF rfl]
     rw [show ((0:Rat).num)=0 from rfl,show (((0:Rat).den:Nat):Int)=1 from rfl,add0,zk,cnF rfl]
     exact ih _ sum hs rfl
   by_cases c1:mxQ a c0<mnQ b c
   · -- the interval counts
     have hpm:p=mxQ a c0:=by
       rw [hp];unfold mxQ mnQ at *
       grind
     have hpl:p<mnQ b c:=by rw [hpm];exact c1
     rw [if_neg (fun x=>x.elim (fun y=>y c1) c2),if_neg (fun x=>x.elim c2 (fun y=>y hpl)),← hpm]
     have nx2:mnQ b c=mxQ a (mnQ b c):=by rw [← nx,if_pos hpl]
     by_cases s1:small (mnQ b c-p)
     case neg=>rw [yxW s1,yxW s1,ypm,cnT (by decide)];rfl
     rw [ygx s1,ygx s1]
     by_cases s2:small ((mnQ b c-p)*d)
     case neg=>rw [yxW s2,yxW s2,ypm,cnT (by decide)];rfl
     rw [ygx s2,ygx s2,ydp]
     rw [cnF rfl,yBu hs s2,ybV]
     by_cases s3:small (sum+(mnQ b c-p)*d)
     · rw [if_pos s3,ygx s3,cnF rfl]
       exact ih _ _ s3 nx2
     · rw [if_neg s3,yxW s3,cnT (by decide)];rfl
   · have hpl:¬p<mnQ b c:=by
       rw [hp];unfold mxQ mnQ at *
       grind
     rw [if_pos (.inl c1),if_pos (.inr hpl),nx]
     rw [ydp,cnF rfl]
     rw [show ((0:Rat).num)=0 from rfl,show (((0:Rat).den:Nat):Int)=1 from rfl,add0,zk,cnF rfl]
     exact ih _ sum hs rfl
theorem yzQ (h1:cuts.length<4611686018427387904) (h2:dens.length<4611686018427387904) {an ad bn bd:Int} (ha:I64 an) (ha':I64 ad) (hb:I64 bn) (hb':I64 bd) (K:Int→Int→Int→Prop) :
   yfx len (ints cuts) (ints dens) an ad bn bd K=exK (valR len cuts dens an ad bn bd) K:=by
 refine yFa (fun r0 r1 r2 h K=>yy9 _ _ _ _ _ _ _ r0 r1 r2 h K) (fun K k=>?_) K
 unfold yfx ynG
 rw [ypH h1 h2]
 unfold valR at k
 by_cases h:ckC len cuts dens=0
 case neg=>rw [cnT h,ypH h1 h2];rw [if_neg h] at k;exact k
 have hv:=ypk h
 have hl:=hv.len0
 rw [if_pos h] at k
 rw [cnF h,ymS (by omega) ha ha']
 by_cases p1:PT len an ad
 case neg=>rw [decide_eq_false p1,Bool.not_false,yac];rw [if_neg (fun x=>p1 x.1)] at k;exact k
 rw [decide_eq_true p1,Bool.not_true,yaa,ymS (by omega) hb hb']
 by_cases p2:PT len bn bd
 case neg=>rw [decide_eq_false p2,Bool.not_false,yac];rw [if_neg (fun x=>p2 x.2.1)] at k;exact k
 rw [decide_eq_true p2,Bool.not_true,yaa]
 obtain ⟨s1,e1,e2,z1,_⟩:=p1.pt
 obtain ⟨s2,f1,f2,_,_⟩:=p2.pt
 have hless:=ymR s2 s1
 rw [e1,e2,f1,f2] at hless
 rw [hless]
 by_cases p3:rt bn bd<rt an ad
 · rw [cbT p3];rw [if_neg (fun x=>x.2.2 p3)] at k;exact k
 rw [cbF p3]
 rw [if_pos ⟨p1,p2,p3⟩] at k
 refine ⟨dens.length+1,?_⟩
 have c0:((cuts.getD 0 0:Int):Rat)=0:=by rw [hv.2.2.2.2.2.1];rfl
 have:=yvt hv s1 s2 p3 yaK ycz yba K dens.length 0 (dens.length+1) (rt an ad) 0 (by omega) (by omega) (by decide) (by rw [c0];unfold mxQ mnQ;grind)
 rw [e1,e2,f1,f2] at this
 exact this.mpr k
end
end Go.Pf.Vc
namespace Go.Pf.Vc
open Go Go.Pf
structure Ck where
 len:Int
 cuts:List Int
 dens:List Int
instance:Inhabited Ck:=⟨⟨0,[],[]⟩⟩
def encC (c:Ck):PV:=.agg [.int .i64 c.len,.data (ints c.cuts),.data (ints c.dens)]
def cks (l:List Ck):List PV:=l.map encC
def Ck.fin (c:Ck):Prop:=c.cuts.length<4611686018427387904∧c.dens.length<4611686018427387904
def Ck.err (c:Ck):Int:=ckC c.len c.cuts c.dens
def Ck.ok (c:Ck):Prop:=VC c.len c.cuts c.dens
instance (c:Ck):Decidable c.ok:=by unfold Ck.ok;infer_instance
theorem ycn (l:List Ck):(cks l).length=l.length:=List.length_map ..
theorem yhm {l:List Ck} {i:Nat} (h:i<l.length):List.getD (cks l) i .nils=encC (l.getD i default):=by
 unfold cks
 rw [List.getD_eq_getElem?_getD,List.getD_eq_getElem?_getD,List.getElem?_map,List.getElem?_eq_getElem h]
 rfl
theorem ye7 {α:Type} {l:List α} {i:Nat} (d:α) (h:i<l.length):l.drop i=l.getD i d::l.drop (i+1):=by
 rw [List.drop_eq_getElem_cons h,List.getD_eq_getElem?_getD,List.getElem?_eq_getElem h];rfl
theorem asCk {c:Ck} {P:Prop}:asr (conf (.agg [.i .i64,.d,.d]) (encC c)) P=P:=rfl
theorem ck0 (c:Ck):intOfV (cellAt (encC c) 0)=c.len:=rfl
theorem ck1 (c:Ck):datOfV (cellAt (encC c) 1)=ints c.cuts:=rfl
theorem ck2 (c:Ck):datOfV (cellAt (encC c) 2)=ints c.dens:=rfl
def firstE:List Ck→Int
 | []=>0
 | c::t=>if c.err=0 then firstE t else c.err
def lensOk (n:Int):List Ck→Bool
 | []=>true
 | c::t=>decide (c.len=n)&&lensOk n t
def deskE (l:List Ck) (m:Nat):Int :=
 if l.length>6 then 4 else if m>2000 then 4 else if l.length=0 then 8 else if firstE l=0 then (if lensOk (l.getD 0 default).len l then 0 else 8) else firstE l
section
variable {l:List Ck}
def finC (l:List Ck):Prop:=∀ i,i<l.length→(l.getD i default).fin
theorem aCheck0 (hf:finC l) (hl:l.length<4611686018427387904) (x0:Int→Prop) (x1:List PV→List PV→List PV→Int→Int→Bool→Prop) (lg:List PV) :
   ∀ (r i n:Nat),i+r=l.length→r<n→ycj yai x0 x1 n (cks l) lg (cks l) l.length i =
     if firstE (l.drop i)=0 then x1 (cks l) lg (cks l) l.length l.length false else x0 (firstE (l.drop i))
 | 0,i,n+1,hi,hn=>by
   unfold ycj
   rw [cbF (by omega),List.drop_of_length_le (by omega),show (i:Int)=l.length by omega];rfl
 | r+1,i,n+1,hi,hn=>by
   unfold ycj
   have e1:=wib (n:=(i:Int)+1) (by omega) (by omega)
   obtain ⟨f1,f2⟩:=hf i (by omega)
   rw [cbT (by omega),ycn,Int.toNat_natCast,yhm (by omega),asT (by omega),asT (by omega),asCk,ck0,ck1,ck2,yjS (by omega) (by omega),ye7 default (by omega),firstE,e1,cast1]
   show cbr ((l.getD i default).err != 0) _ _=_
   by_cases h:(l.getD i default).err=0
   · rw [cnF h,if_pos h];exact aCheck0 hf hl x0 x1 lg r (i+1) n (by omega) (by omega)
   · rw [cnT h,if_neg h,if_neg h];rfl
theorem aCheck1 (hl:l.length<4611686018427387904) (x0:Int→Prop) (x1:List PV→List PV→List PV→Int→Int→Bool→Prop) (lg:List PV) (W) :
   ∀ (r i n:Nat),i+r=l.length→r<n→ybC W x0 x1 n (cks l) lg (cks l) l.length i =
     if lensOk (l.getD 0 default).len (l.drop i) then x1 (cks l) lg (cks l) l.length l.length false else x0 8
 | 0,i,n+1,hi,hn=>by
   unfold ybC
   rw [cbF (by omega),List.drop_of_length_le (by omega),show (i:Int)=l.length by omega];rfl
 | r+1,i,n+1,hi,hn=>by
   unfold ybC
   have e1:=wib (n:=(i:Int)+1) (by omega) (by omega)
   rw [cbT (by omega),ycn,Int.toNat_natCast,yhm (by omega),yhm (by omega),asT (by omega),asT (by omega),asCk,asT (by omega),asCk,ck0,ck0,ye7 default (by omega),lensOk,e1,cast1]
   by_cases h:(l.getD i default).len=(l.getD 0 default).len
   · rw [cnF h,decide_eq_true h,Bool.true_and];exact aCheck1 hl x0 x1 lg W r (i+1) n (by omega) (by omega)
   · rw [cnT h,decide_eq_false h,Bool.false_and,if_neg (by simp)]
theorem ypI (hf:finC l) (hl:l.length<4611686018427387904) (lg:List PV) (K:Int→Prop):yav (cks l) lg K=K (deskE l lg.length):=by
 refine yyN _ _ _ (fun K k=>?_) K
 unfold yav ynj
 unfold deskE at k
 rw [ycn]
 by_cases a1:l.length>6
 · rw [cbT (by omega)];rw [if_pos a1] at k;exact k
 rw [cbF (by omega)];rw [if_neg a1] at k
 by_cases a2:lg.length>2000
 · rw [cbT (by omega)];rw [if_pos a2] at k;exact k
 rw [cbF (by omega)];rw [if_neg a2] at k
 by_cases a3:l.length=0
 · rw [ceT (by omega)];rw [if_pos a3] at k;exact k
 rw [ceF (by omega)];rw [if_neg a3] at k
 refine ⟨l.length+1,?_⟩
 have h0:=aCheck0 hf hl (fun yi1=>K yi1) (fun yl2 yl3 yl4 yi5 yi6 yb7=>(∃ n12157601:Nat,ybC yai (fun yi8=>(K yi8)) (fun yl9 yl10 yl11 yi12 yi13 yb14=>(K (0:Int))) n12157601 yl2 yl3 yl2 (((List.length yl2):Nat):Int) (0:Int))) lg l.length 0 (l.length+1) (by omega) (by omega)
 rw [show ((0:Nat):Int)=0 from rfl,List.drop_zero] at h0
 rw [h0]
 by_cases a4:firstE l=0
 · rw [if_pos a4] at k ⊢
   refine ⟨l.length+1,?_⟩
   have h1:=aCheck1 hl (fun yi8=>(K yi8)) (fun yl9 yl10 yl11 yi12 yi13 yb14=>(K (0:Int))) lg yai l.length 0 (l.length+1) (by omega) (by omega)
   rw [show ((0:Nat):Int)=0 from rfl,List.drop_zero] at h1
   rw [ycn,h1]
   split at k <;> rename_i h <;> simp only [h] <;> exact k
 · rw [if_neg a4] at k ⊢;exact k
theorem fCheck0 (hf:finC l) (hl:l.length<4611686018427387904) (x0:Int→Prop) (x1:List PV→List PV→Int→Bool→Prop) (lg:List PV) :
   ∀ (r i n:Nat),i+r=l.length→r<n→ycm yaK x0 x1 n (cks l) lg i =
     if firstE (l.drop i)=0 then x1 (cks l) lg l.length false else x0 (firstE (l.drop i))
 | 0,i,n+1,hi,hn=>by
   unfold ycm
   rw [ycn,cbF (by omega),List.drop_of_length_le (by omega),show (i:Int)=l.length by omega];rfl
 | r+1,i,n+1,hi,hn=>by
   unfold ycm
   have e1:=wib (n:=(i:Int)+1) (by omega) (by omega)
   obtain ⟨f1,f2⟩:=hf i (by omega)
   rw [ycn,cbT (by omega),Int.toNat_natCast,yhm (by omega),asT (by omega),asT (by omega),asCk,ck0,ck1,ck2,ypH (by omega) (by omega),ye7 default (by omega),firstE,e1,cast1]
   show cbr ((l.getD i default).err != 0) _ _=_
   by_cases h:(l.getD i default).err=0
   · rw [cnF h,if_pos h];exact fCheck0 hf hl x0 x1 lg r (i+1) n (by omega) (by omega)
   · rw [cnT h,if_neg h,if_neg h,asT (by omega),asT (by omega),asCk,ypH (by omega) (by omega)];rfl
theorem fCheck1 (hl:l.length<4611686018427387904) (x0:Int→Prop) (x1:List PV→List PV→Int→Bool→Prop) (lg:List PV) (W) :
   ∀ (r i n:Nat),i+r=l.length→r<n→ybE W x0 x1 n (cks l) lg i =
     if lensOk (l.getD 0 default).len (l.drop i) then x1 (cks l) lg l.length false else x0 8
 | 0,i,n+1,hi,hn=>by
   unfold ybE
   rw [ycn,cbF (by omega),List.drop_of_length_le (by omega),show (i:Int)=l.length by omega];rfl
 | r+1,i,n+1,hi,hn=>by
   unfold ybE
   have e1:=wib (n:=(i:Int)+1) (by omega) (by omega)
   rw [ycn,cbT (by omega),Int.toNat_natCast,yhm (by omega),yhm (by omega),asT (by omega),asT (by omega),asCk,asT (by omega),asCk,ck0,ck0,ye7 default (by omega),lensOk,e1,cast1]
   by_cases h:(l.getD i default).len=(l.getD 0 default).len
   · rw [cnF h,decide_eq_true h,Bool.true_and];exact fCheck1 hl x0 x1 lg W r (i+1) n (by omega) (by omega)
   · rw [cnT h,decide_eq_false h,Bool.false_and,if_neg (by simp)]
theorem yGZ (hf:finC l) (hl:l.length<4611686018427387904) (lg:List PV) (K:Int→Prop):yfB (cks l) lg K=K (deskE l lg.length):=by
 refine yzb _ _ _ (fun K k=>?_) K
 unfold yfB ynM
 unfold deskE at k
 rw [ycn]
 by_cases a1:l.length>6
 · rw [cbT (by omega)];rw [if_pos a1] at k;exact k
 rw [cbF (by omega)];rw [if_neg a1] at k
 by_cases a2:lg.length>2000
 · rw [cbT (by omega)];rw [if_pos a2] at k;exact k
 rw [cbF (by omega)];rw [if_neg a2] at k
 by_cases a3:l.length=0
 · rw [ceT (by omega)];rw [if_pos a3] at k;exact k
 rw [ceF (by omega)];rw [if_neg a3] at k
 refine ⟨l.length+1,?_⟩
 have h0:=fCheck0 hf hl (fun yi1=>K yi1) (fun yl3 yl4 yi5 yb6=>(∃ n6981301:Nat,ybE yaK (fun yi7=>(K yi7)) (fun yl8 yl9 yi10 yb11=>(K (0:Int))) n6981301 yl3 yl4 (0:Int))) lg l.length 0 (l.length+1) (by omega) (by omega)
 rw [show ((0:Nat):Int)=0 from rfl,List.drop_zero] at h0
 rw [h0]
 by_cases a4:firstE l=0
 · rw [if_pos a4] at k ⊢
   refine ⟨l.length+1,?_⟩
   have h1:=fCheck1 hl (fun yi7=>(K yi7)) (fun yl8 yl9 yi10 yb11=>(K (0:Int))) lg yaK l.length 0 (l.length+1) (by omega) (by omega)
   rw [show ((0:Nat):Int)=0 from rfl,List.drop_zero] at h1
   rw [h1]
   split at k <;> rename_i h <;> simp only [h] <;> exact k
 · rw [if_neg a4] at k ⊢;exact k
def Ck.low (c:Ck):Prop:=c.cuts.length≤1000∧c.dens.length≤1000
def lowC (l:List Ck):Prop:=∀ i,i<l.length→(l.getD i default).low
theorem yDn (l:List Int):headOk 1 (ints l)=true:=by cases l <;> rfl
theorem ytE {l:List Int} (h:l.length≤1000) (K:List PV→Prop):ycc (ints l) K=K (ints l):=by
 show asr (cloneOk 1 8 (ints l)) (K (ints l))=_
 have:cloneOk 1 8 (ints l)=true:=by
   unfold cloneOk
   rw [yDn,yat,Bool.true_and,decide_eq_true_iff]
   unfold room;omega
 rw [this,yaw]
theorem asTT {c:Bool} {P:Prop} (h:c=true):asr c P=P:=by rw [h,yaw]
theorem copied1 (hf:lowC l) (hl:l.length≤1000) (x0:List PV→List PV→Int→Int→Bool→Prop) (x1:List PV→Int→Int→Bool→Prop) :
   ∀ (r i n:Nat) (acc:List PV),i+r=l.length→r<n→acc.length≤i→ybQ ycc x0 x1 n acc (cks l) l.length i=x0 (acc++cks (l.drop i)) (cks l) l.length l.length false
 | 0,i,n+1,acc,hi,hn,ha=>by
   unfold ybQ
   rw [cbF (by omega),List.drop_of_length_le (by omega),show (i:Int)=l.length by omega]
   show _=x0 (acc++[]) _ _ _ _
   rw [List.append_nil]
 | r+1,i,n+1,acc,hi,hn,ha=>by
   unfold ybQ
   have e1:=wib (n:=(i:Int)+1) (by omega) (by omega)
   obtain ⟨f1,f2⟩:=hf i (by omega)
   rw [cbT (by omega),ycn,Int.toNat_natCast,yhm (by omega),asT (by omega),asT (by omega),asCk,ck0,ck1,ck2,ytE f1,ytE f2,asT rfl,asT (by omega),asTT (by rw [decide_eq_false (by omega)];rfl),asT rfl,asT (by unfold room;omega),asTT (by simp),e1,cast1]
   rw [copied1 hf hl x0 x1 r (i+1) n _ (by omega) (by omega) (by simp;omega),ye7 (i:=i) default (by omega),List.append_assoc];rfl
theorem yzR (hf:lowC l) (hl:l.length≤1000) (K:List PV→Prop):yc1 (cks l) K=K (cks l):=by
 refine yxa _ _ (fun K k=>?_) K
 unfold yc1 ylU
 cases hc:l with
 | nil =>
   refine ⟨0+1,?_⟩
   rw [hc] at k
   rw [yde,ycn,cbF (by simp)]
   exact k
 | cons c t =>
   rw [← hc]
   have h0:0<l.length:=by rw [hc];exact Nat.zero_lt_succ _
   refine ⟨(l.length+1)+1,?_⟩
   rw [yde]
   obtain ⟨f1,f2⟩:=hf 0 (by omega)
   have e1:=wib (n:=(0:Int)+1) (by omega) (by omega)
   rw [ycn,cbT (by omega),show (0:Int).toNat=0 from rfl,yhm (by omega),asT (by omega),asT (by omega),asCk,ck0,ck1,ck2,ytE f1,ytE f2,asTT (by simp),e1,show (0:Int)+1=((0+1:Nat):Int) from rfl]
   rw [copied1 hf hl _ _ (l.length-1) (0+1) (l.length+1) _ (by omega) (by omega) (by simp)]
   have e:[PV.agg [PV.int IntKind.i64 (l.getD 0 default).len,PV.data (ints (l.getD 0 default).cuts),PV.data (ints (l.getD 0 default).dens)]]++cks (l.drop (0+1))=cks l:=by
     conv=>rhs;rw [← List.drop_zero (l:=l),ye7 default h0]
     rfl
   rw [e,asT rfl,asT (by omega),List.take_length]
   exact k
end
end Go.Pf.Vc
namespace Go.Pf.Vc
open Go Go.Pf
section
variable {l:List Ck}
theorem yvu:∀ (l:List Ck),firstE l=0→∀ i,i<l.length→(l.getD i default).ok
 | c::t,h,0,_=>by
   unfold firstE at h
   split at h
   · rename_i h1;exact ypk h1
   · rename_i h1;exact absurd h h1
 | c::t,h,i+1,hi=>by
   unfold firstE at h
   split at h
   · exact yvu t h i (by simpa using hi)
   · rename_i h1;exact absurd h h1
theorem yxX {n:Int}:∀ (l:List Ck),lensOk n l=true→∀ i,i<l.length→(l.getD i default).len=n
 | c::t,h,0,_=>by
   unfold lensOk at h
   simp only [Bool.and_eq_true,decide_eq_true_eq] at h
   exact h.1
 | c::t,h,i+1,hi=>by
   unfold lensOk at h
   simp only [Bool.and_eq_true,decide_eq_true_eq] at h
   exact yxX t h.2 i (by simpa using hi)
structure DK (l:List Ck):Prop where
 n6:l.length≤6
 n0:1≤l.length
 ok:∀ i,i<l.length→(l.getD i default).ok
 len:∀ i,i<l.length→(l.getD i default).len=(l.getD 0 default).len
theorem ynU {m:Nat} (h:deskE l m=0):DK l∧m≤2000:=by
 unfold deskE at h
 split at h
 · omega
 split at h
 · omega
 split at h
 · omega
 split at h
 · rename_i h0 h1 h2 h3
   split at h
   · rename_i h4
     exact ⟨⟨by omega,by omega,yvu l h3,yxX l h4⟩,by omega⟩
   · omega
 · rename_i h3;exact absurd h h3
theorem DK.err {l:List Ck} (h:DK l) {m:Nat} (hm:m≤2000):deskE l m=0:=by
 have f:∀ l:List Ck,(∀ i,i<l.length→(l.getD i default).ok)→firstE l=0:=by
   intro l
   induction l with
   | nil=>intro _;rfl
   | cons c t ih =>
     intro h
     unfold firstE
     rw [if_pos (show c.err=0 from (h 0 (Nat.zero_lt_succ _)).ck)]
     exact ih fun i hi=>h (i+1) (by simpa using hi)
 have g:∀ (n:Int) (l:List Ck),(∀ i,i<l.length→(l.getD i default).len=n)→lensOk n l=true:=by
   intro n l
   induction l with
   | nil=>intro _;rfl
   | cons c t ih =>
     intro h
     unfold lensOk
     rw [Bool.and_eq_true,decide_eq_true_eq]
     exact ⟨h 0 (Nat.zero_lt_succ _),ih fun i hi=>h (i+1) (by simpa using hi)⟩
 have:=h.n6;have:=h.n0
 unfold deskE
 rw [if_neg (by omega),if_neg (by omega),if_neg (by omega),if_pos (f l h.ok),if_pos (g _ l h.len)]
theorem DK.low {l:List Ck} (h:DK l):lowC l:=fun i hi=>by
 have h1:=(h.ok i hi).l1;have h2:=(h.ok i hi).l2
 exact ⟨by omega,by omega⟩
theorem DK.fin {l:List Ck} (h:DK l):finC l:=fun i hi=>by
 have h1:=(h.ok i hi).l1;have h2:=(h.ok i hi).l2
 exact ⟨by omega,by omega⟩
theorem yH9 (hf:finC l) (hl:l.length<4611686018427387904) (K:List PV→List PV→Int→Prop):ya2 (cks l) K=if deskE l 0=0 then K (cks l) [] 0 else K [] [] (deskE l 0):=by
 unfold ya2 yoC
 rw [ypI hf hl]
 show cbr (deskE l 0 != 0) _ _=_
 by_cases h:deskE l 0=0
 · have hd:=(ynU h).1
   rw [cnF h,if_pos h,yzR hd.low (by have:=hd.n6;omega)]
 · rw [cnT h,if_neg h];rfl
def qrow (agent kind an ad bn bd cn cd:Int):PV:=.agg [.int .i64 agent,.int .u8 kind,.int .i64 an,.int .i64 ad,.int .i64 bn,.int .i64 bd,.int .i64 cn,.int .i64 cd]
def qryR (l:List Ck) (m:Nat) (agent:Int) (ans:Ck→Except Int Rat):Except Int Rat :=
 if deskE l m=0 then (if 0≤agent∧agent<l.length then (match ans (l.getD agent.toNat default) with
   | .ok p=>if m≥2000 then .error 4 else .ok p
   | .error e=>.error e) else .error 2) else .error (deskE l m)
def qryK (l:List Ck) (lg:List PV) (row:Rat→PV) (e:Except Int Rat) (K:List PV→List PV→Int→Int→Int→Prop):Prop :=
 match e with
 | .ok p=>K (cks l) (lg++[row p]) p.num p.den 0
 | .error c=>K [] [] 0 0 c
theorem det_q {w:(List PV→List PV→Int→Int→Int→Prop)→Prop} {l:List Ck} {lg:List PV} {row:Rat→PV} {e:Except Int Rat} (det:∀ r0 r1 r2 r3 r4,(∀ K:List PV→List PV→Int→Int→Int→Prop,K r0 r1 r2 r3 r4→w K)→∀ K,w K=K r0 r1 r2 r3 r4)
   (h:∀ K,qryK l lg row e K→w K) (K):w K=qryK l lg row e K:=by
 cases e with
 | ok q=>exact det _ _ _ _ _ h K
 | error c=>exact det _ _ _ _ _ h K
theorem mk1 {z q:PV} {lg:List PV} {m:Nat} (hm:m=lg.length) :
   List.take ((0+m)+1) ((List.take (0+(0+m)) (lg++(List.drop (0+m) (List.replicate (m+1) z))))++(([q]:List PV)++(List.drop ((0+(0+m))+1) (lg++(List.drop (0+m) (List.replicate (m+1) z))))))=lg++[q]:=by
 subst hm
 simp
 rw [List.take_of_length_le (by simp)]
theorem yKA (lg:List PV) (agent:Int) (K:Bool→Prop):yd5 (cks l) lg agent K=K (decide (0≤agent∧agent<l.length)):=by
 unfold yd5 yg2
 rw [ycn]
 by_cases h:agent≥0
 · rw [cbT h]
   congr 1
   rw [decide_eq_decide];omega
 · rw [cbF h,decide_eq_false (by omega)]
def Ck.mark (an ad vn vd:Int) (c:Ck):Except Int Rat:=mrkR c.len c.cuts c.dens an ad vn vd
def Ck.value (an ad bn bd:Int) (c:Ck):Except Int Rat:=valR c.len c.cuts c.dens an ad bn bd
theorem yIa (hf:finC l) (hl:l.length<4611686018427387904) {lg:List PV} (hlg:headOk 8 lg=true) {agent an ad vn vd:Int} (ha:I64 an) (ha':I64 ad) (hv:I64 vn) (hv':I64 vd) (K) :
   yaO (cks l) lg agent an ad vn vd K=qryK l lg (fun p=>qrow agent 2 an ad vn vd p.num p.den) (qryR l lg.length agent (Ck.mark an ad vn vd)) K:=by
 refine det_q (fun r0 r1 r2 r3 r4 h K=>yAI _ _ _ _ _ _ _ r0 r1 r2 r3 r4 h K) (fun K k=>?_) K
 unfold yaO yoE
 unfold qryR at k
 rw [ypI hf hl]
 by_cases h:deskE l lg.length=0
 case neg=>rw [cnT h];rw [if_neg h] at k;exact k
 obtain ⟨hd,hm⟩:=ynU h
 rw [if_pos h] at k
 rw [cnF h,yKA]
 by_cases h2:0≤agent∧agent<l.length
 case neg=>rw [decide_eq_false h2,Bool.not_false,yac];rw [if_neg h2] at k;exact k
 rw [if_pos h2] at k
 obtain ⟨a,rfl⟩:∃ a:Nat,agent=a:=⟨agent.toNat,by omega⟩
 have ha2:a<l.length:=by omega
 rw [Int.toNat_natCast] at k
 obtain ⟨f1,f2⟩:=hf a ha2
 rw [decide_eq_true h2,Bool.not_true,yaa,yfg,ygq,ycn,Int.toNat_natCast,yhm ha2,asT (by omega),asT (by omega),asCk,ck0,ck1,ck2,yxU (by omega) (by omega) ha ha' hv hv']
 have em:Ck.mark an ad vn vd (l.getD a default)=mrkR (l.getD a default).len (l.getD a default).cuts (l.getD a default).dens an ad vn vd:=rfl
 rw [em] at k
 cases hr:mrkR (l.getD a default).len (l.getD a default).cuts (l.getD a default).dens an ad vn vd with
 | error c =>
   rw [hr] at k
   have k:K [] [] 0 0 c:=k
   rw [ypm]
   have hc:c≠0:=by
     intro hc
     subst hc
     unfold mrkR at hr
     split at hr
     · split at hr
       · unfold mrkC at hr
         split at hr
         · cases hr
         · have no:∀ (r i:Nat) (p v:Rat),mrkS (l.getD a default).cuts (l.getD a default).dens r i p v≠.error 0:=by
             intro r
             induction r with
             | zero=>intro i p v e;unfold mrkS at e;cases e
             | succ r ih =>
               intro i p v e
               unfold mrkS fit at e
               repeat' (first | split at e | dsimp only at e)
               all_goals first | exact ih _ _ _ e | cases e
           exact no _ _ _ _ hr
       · cases hr
     · rename_i h5;exact h5 (Except.error.inj hr)
   rw [cnT hc];exact k
 | ok p =>
   rw [hr] at k
   rw [ydp,cnF rfl]
   by_cases h3:lg.length≥2000
   · rw [cbT (by omega)]
     have k:qryK l lg _ (if lg.length≥2000 then .error 4 else .ok p) K:=k
     rw [if_pos h3] at k;exact k
   · have k:qryK l lg _ (if lg.length≥2000 then .error 4 else .ok p) K:=k
     rw [if_neg h3] at k
     have k:K (cks l) (lg++[qrow a 2 an ad vn vd p.num p.den]) p.num p.den 0:=k
     have e1:=wib (n:=(lg.length:Int)+1) (by omega) (by omega)
     have e2:((lg.length:Int)+1).toNat=lg.length+1:=by omega
     rw [cbF (by omega),e1,e2,asT (by omega),asT (by unfold room;omega),yzR hd.low (by have:=hd.n6;omega),hlg,yaw]
     rw [asT (by simp),asT (by omega)]
     cases hlg2:lg with
     | nil =>
       rw [List.isEmpty_nil,yac,asT (by simp),asT (by simp),asT (by simp),asT (by simp),asT (by simp)]
       rw [hlg2] at k
       exact k
     | cons x t =>
       rw [← hlg2,show List.isEmpty lg=false by rw [hlg2];rfl,yaa,asT (by omega),asT (by simp),asT (by omega),asT (by omega),asT (by simp),asT (by omega)]
       rw [mk1 rfl]
       exact k
end
end Go.Pf.Vc
namespace Go.Pf.Vc
open Go Go.Pf
section
variable {l:List Ck}
def greatC (l:List Ck):Bool:=l.any (fun c=>decide (c.cuts.length>60)||decide (c.dens.length>60))||decide (l.length>10)
theorem yG0 {len:Int} {cuts dens:List Int} (K:Bool→Prop):ydH len (ints cuts) (ints dens) K=K (decide (cuts.length>60)||decide (dens.length>60)):=by
 unfold ydH ynw
 rw [yat,yat]
 by_cases h:cuts.length>60
 · rw [cbT (by omega),decide_eq_true h];rfl
 · rw [cbF (by omega),decide_eq_false h,Bool.false_or]
   congr 1;rw [decide_eq_decide];omega
theorem yoa (hl:l.length≤9223372036854775807) (K:Bool→Prop) :
   ∀ (r i n:Nat),i+r=l.length→r<n→ya7 ydH (fun yb1=>(K yb1)) (fun yl2 _ _=>(K (decide ((((List.length yl2):Nat):Int)>(10:Int))))) n (cks l) i =
     K ((l.drop i).any (fun c=>decide (c.cuts.length>60)||decide (c.dens.length>60))||decide (l.length>10))
 | 0,i,n+1,hi,hn=>by
   unfold ya7
   rw [ycn,cbF (by omega),List.drop_of_length_le (by omega)]
   show K _=K (false||_)
   rw [Bool.false_or]
   congr 1;rw [decide_eq_decide];omega
 | r+1,i,n+1,hi,hn=>by
   unfold ya7
   have e1:=wib (n:=(i:Int)+1) (by omega) (by omega)
   rw [ycn,cbT (by omega),Int.toNat_natCast,yhm (by omega),asT (by omega),asT (by omega),asCk,ck0,ck1,ck2,yG0,ye7 default (by omega),List.any_cons,e1,cast1]
   cases hb:(decide ((l.getD i default).cuts.length>60)||decide ((l.getD i default).dens.length>60)) with
   | true=>rw [yac];rfl
   | false=>rw [yaa,Bool.false_or];exact yoa hl K r (i+1) n (by omega) (by omega)
theorem yzh (hl:l.length≤9223372036854775807) (K:Bool→Prop):ycr (cks l) K=K (greatC l):=by
 refine yrQ _ _ (fun K k=>?_) K
 unfold ycr yhg
 refine ⟨l.length+1,?_⟩
 have:=yoa hl K l.length 0 (l.length+1) (by omega) (by omega)
 rw [show ((0:Nat):Int)=0 from rfl,List.drop_zero] at this
 rw [this];exact k
theorem yFc (h:greatC l=false):l.length≤10∧lowC l∧finC l:=by
 unfold greatC at h
 simp only [Bool.or_eq_false_iff,decide_eq_false_iff_not,List.any_eq_false,Bool.not_eq_true,Nat.not_lt] at h
 have hh:∀ i,i<l.length→(l.getD i default).cuts.length≤60∧(l.getD i default).dens.length≤60:=by
   intro i hi
   have hm:l.getD i default∈l:=by rw [List.getD_eq_getElem?_getD,List.getElem?_eq_getElem hi];exact List.getElem_mem hi
   have:=h.1 _ hm
   omega
 exact ⟨by omega,fun i hi=>⟨by have:=hh i hi;omega,by have:=hh i hi;omega⟩,fun i hi=>⟨by have:=hh i hi;omega,by have:=hh i hi;omega⟩⟩
def shr (c:Ck) (n:Int):Rat:=(totC c.cuts c.dens:Rat) / (n:Rat)
theorem yuE {n d:Int} (hn:-1000000000000000000≤n∧n≤1000000000000000000) (hd:1≤d∧d≤1000000000000000000):small ((n:Rat) / (d:Rat)):=by
 have e:(n:Rat) / (d:Rat)=mkRat n d.toNat:=by
   rw [Rat.mkRat_eq_div]
   have h1:((d.toNat:Nat):Int)=d:=by omega
   have h2:((d.toNat:Nat):Rat)=(d:Rat):=by rw [← Rat.intCast_natCast,h1]
   rw [h2]
 rw [e]
 unfold small
 rw [Rat.num_mkRat,Rat.den_mkRat,if_neg (by omega),if_neg (by omega)]
 have g0:0<d.toNat.gcd n.natAbs:=Nat.gcd_pos_of_pos_left _ (by omega)
 have h1:(n / (d.toNat.gcd n.natAbs:Nat)).natAbs≤n.natAbs:=by
   rw [Int.natAbs_ediv_of_dvd,Int.natAbs_natCast]
   · exact Nat.div_le_self _ _
   · rw [← Int.dvd_natAbs,Int.ofNat_dvd];exact Nat.gcd_dvd_right _ _
 have h2:d.toNat / d.toNat.gcd n.natAbs≤d.toNat:=Nat.div_le_self _ _
 generalize n / (d.toNat.gcd n.natAbs:Nat)=x at *
 generalize d.toNat / d.toNat.gcd n.natAbs=y at *
 omega
theorem yuF {c:Ck} (h:c.ok) {n:Int} (hn:1≤n∧n≤1000):small (shr c n):=by
 have:=ykW h
 exact yuE (by omega) (by omega)
end
end Go.Pf.Vc
namespace Go.Pf.Vc
open Go Go.Pf
def Fr (D B:Int) (q:Rat):Prop:=∃ n:Int,-B≤n∧n≤B∧q=(n:Rat) / (D:Rat)
theorem Fr.small {D B:Int} {q:Rat} (h:Fr D B q) (hD:1≤D∧D≤1000000000000000000) (hB:B≤1000000000000000000):small q:=by
 obtain ⟨n,h1,h2,rfl⟩:=h
 exact yuE ⟨by omega,by omega⟩ hD
theorem rne {D:Int} (h:1≤D):(D:Rat)≠0:=fun e=>by have:=Rat.intCast_eq_zero_iff.1 e;omega
theorem Fr.add {D B1 B2:Int} {q r:Rat} (h:Fr D B1 q) (k:Fr D B2 r):Fr D (B1+B2) (q+r):=by
 obtain ⟨n,h1,h2,rfl⟩:=h
 obtain ⟨m,k1,k2,rfl⟩:=k
 exact ⟨n+m,by omega,by omega,by rw [Rat.intCast_add];grind⟩
theorem Fr.sub {D B1 B2:Int} {q r:Rat} (h:Fr D B1 q) (k:Fr D B2 r):Fr D (B1+B2) (q-r):=by
 obtain ⟨n,h1,h2,rfl⟩:=h
 obtain ⟨m,k1,k2,rfl⟩:=k
 exact ⟨n-m,by omega,by omega,by rw [Rat.intCast_sub];grind⟩
theorem Fr.mono {D B1 B2:Int} {q:Rat} (h:Fr D B1 q) (hb:B1≤B2):Fr D B2 q:=by
 obtain ⟨n,h1,h2,e⟩:=h
 exact ⟨n,by omega,by omega,e⟩
theorem yJt {n d B:Int} (h:-B≤n∧n≤B) (hd:0≤d∧d≤12):-(12*B)≤n*d∧n*d≤12*B:=by
 have a1:=Int.mul_le_mul_of_nonneg_right h.1 hd.1
 have a2:=Int.mul_le_mul_of_nonneg_right h.2 hd.1
 have a3:=Int.mul_le_mul_of_nonneg_left hd.2 (show 0≤B by omega)
 rw [Int.neg_mul] at a1
 omega
theorem Fr.mulI {D B:Int} {q:Rat} (h:Fr D B q) {d:Int} (hd:0≤d∧d≤12):Fr D (12*B) (q*(d:Rat)):=by
 obtain ⟨n,h1,h2,rfl⟩:=h
 obtain ⟨a1,a2⟩:=yJt ⟨h1,h2⟩ hd
 exact ⟨n*d,a1,a2,by rw [Rat.intCast_mul];grind⟩
section
variable {len:Int} {cuts dens:List Int}
def rem (cuts dens:List Int):Nat→Nat→Int
 | 0,_=>0
 | r+1,i=>dens.getD i 0*(cuts.getD (i+1) 0-cuts.getD i 0)+rem cuts dens r (i+1)
theorem yxY (cuts dens:List Int):∀ (r i:Nat) (s:Int),totS cuts dens r i s=s+rem cuts dens r i
 | 0,i,s=>by unfold totS rem;omega
 | r+1,i,s=>by unfold totS rem;rw [yxY cuts dens r (i+1)];omega
theorem yzS (h:VC len cuts dens):∀ (r i:Nat),i+r=dens.length→0≤rem cuts dens r i∧rem cuts dens r i≤12*(len-cuts.getD i 0)
 | 0,i,hi=>by
   have:=h.l1
   have:=h.hi (i:=i) (by omega)
   unfold rem;omega
 | r+1,i,hi=>by
   unfold rem
   have l1:=h.l1
   have h2:=h.step (i:=i) (by omega)
   have h3:=mul12 (h.den (i:=i) (by omega)) (x:=cuts.getD (i+1) 0-cuts.getD i 0) (by omega)
   have:=yzS h r (i+1) (by omega)
   omega
theorem yF0 (h:VC len cuts dens):∀ (r i:Nat),i+r=dens.length→(∃ j,i≤j∧j<dens.length∧0<dens.getD j 0)→0<rem cuts dens r i
 | 0,i,hi,⟨j,h1,h2,_⟩=>by omega
 | r+1,i,hi,⟨j,h1,h2,h3⟩=>by
   unfold rem
   have l1:=h.l1
   have s:=h.step (i:=i) (by omega)
   have m:=mul12 (h.den (i:=i) (by omega)) (x:=cuts.getD (i+1) 0-cuts.getD i 0) (by omega)
   have b:=yzS h r (i+1) (by omega)
   by_cases e:j=i
   · subst e
     have:=Int.mul_pos h3 (show 0<cuts.getD (j+1) 0-cuts.getD j 0 by omega)
     omega
   · have:=yF0 h r (i+1) (by omega) ⟨j,by omega,h2,h3⟩
     omega
theorem yIb (h:VC len cuts dens):0<totC cuts dens:=by
 unfold totC
 rw [yxY]
 obtain ⟨d,hd,h0⟩:=h.2.2.2.2.2.2.2.2.2
 obtain ⟨j,hj,e⟩:=List.mem_iff_getElem.1 hd
 have:=yF0 h dens.length 0 (by omega) ⟨j,by omega,hj,by rw [List.getD_eq_getElem?_getD,List.getElem?_eq_getElem hj];simpa [e] using h0⟩
 omega
end
end Go.Pf.Vc
namespace Go.Pf.Vc
open Go Go.Pf
structure Qy where
 agent:Int
 kind:Int
 an:Int
 ad:Int
 bn:Int
 bd:Int
 cn:Int
 cd:Int
 deriving DecidableEq
instance:Inhabited Qy:=⟨⟨0,0,0,0,0,0,0,0⟩⟩
def encQ (q:Qy):PV:=qrow q.agent q.kind q.an q.ad q.bn q.bd q.cn q.cd
def logs (l:List Qy):List PV:=l.map encQ
theorem yDo (l:List Qy):(logs l).length=l.length:=List.length_map ..
theorem yG1 (l:List Qy):headOk 8 (logs l)=true:=by cases l <;> rfl
theorem yIc (l m:List Qy):logs (l++m)=logs l++logs m:=List.map_append ..
structure Sp where
 a:Int
 b:Int
 c:Int
 d:Int
 deriving DecidableEq
instance:Inhabited Sp:=⟨⟨0,0,0,0⟩⟩
def encS (s:Sp):PV:=.agg [.int .i64 s.a,.int .i64 s.b,.int .i64 s.c,.int .i64 s.d]
def spans (l:List Sp):List PV:=l.map encS
def pieces (l:List (List Sp)):List PV:=l.map fun s=>.data (spans s)
theorem yzT (l:List Sp):(spans l).length=l.length:=List.length_map ..
theorem yId {l:List Sp} {i:Nat} (h:i<l.length):List.getD (spans l) i .nils=encS (l.getD i default):=by
 unfold spans
 rw [List.getD_eq_getElem?_getD,List.getD_eq_getElem?_getD,List.getElem?_map,List.getElem?_eq_getElem h]
 rfl
theorem yfE (l:List (List Sp)):(pieces l).length=l.length:=List.length_map ..
theorem yG2 {l:List (List Sp)} {i:Nat} (h:i<l.length):List.getD (pieces l) i .nils=.data (spans (l.getD i [])):=by
 unfold pieces
 rw [List.getD_eq_getElem?_getD,List.getD_eq_getElem?_getD,List.getElem?_map,List.getElem?_eq_getElem h]
 rfl
theorem asS {s:Sp} {P:Prop}:asr (conf (.agg [.i .i64,.i .i64,.i .i64,.i .i64]) (encS s)) P=P:=rfl
theorem asD {r:List PV} {P:Prop}:asr (conf (.one .d) (.data r)) P=P:=rfl
theorem yxZ {s:List Sp} (hl:s.length<4611686018427387904) (K:Bool→Prop) :
   ∀ (r i n:Nat),i+r=s.length→r<n→ycB (fun yb0=>(K yb0)) (fun _ _ _ _=>(K true)) n (spans s) (spans s) i=K true
 | 0,i,n+1,hi,hn=>by
   unfold ycB
   rw [yzT,cbF (by omega)]
 | r+1,i,n+1,hi,hn=>by
   unfold ycB
   have e1:=wib (n:=(i:Int)+1) (by omega) (by omega)
   rw [yzT,cbT (by omega),Int.toNat_natCast,yId (by omega),asT (by omega),asT (by omega),asS,asT (by omega),asT (by omega),asS,e1,cast1]
   simp only [beq_self_eq_true,Bool.and_self,Bool.not_true,yaa]
   exact yxZ hl K r (i+1) n (by omega) (by omega)
theorem yFd {s:List Sp} (hl:s.length<4611686018427387904) (K:Bool→Prop):ycV (spans s) (spans s) K=K true:=by
 refine yBf _ _ _ (fun K k=>?_) K
 unfold ycV yo9
 rw [cnF rfl]
 refine ⟨s.length+1,?_⟩
 exact (yxZ hl K s.length 0 (s.length+1) (by omega) (by omega)).mpr k
theorem yx0 {l:List (List Sp)} (hf:∀ i,i<l.length→(l.getD i []).length<4611686018427387904) (hl:l.length<4611686018427387904) (K:Bool→Prop) :
   ∀ (r i n:Nat),i+r=l.length→r<n→ycC ycV (fun yb1=>(K yb1)) (fun _ _ _ _=>(K true)) n (pieces l) (pieces l) i=K true
 | 0,i,n+1,hi,hn=>by
   unfold ycC
   rw [yfE,cbF (by omega)]
 | r+1,i,n+1,hi,hn=>by
   unfold ycC
   have e1:=wib (n:=(i:Int)+1) (by omega) (by omega)
   rw [yfE,cbT (by omega),Int.toNat_natCast,yG2 (by omega),asT (by omega),asT (by omega),asD,asT (by omega),asT (by omega),asD]
   show ycV (spans (l.getD i [])) (spans (l.getD i [])) _=_
   rw [yFd (hf i (by omega)),Bool.not_true,yaa,e1,cast1]
   exact yx0 hf hl K r (i+1) n (by omega) (by omega)
theorem yFe {l:List (List Sp)} (hf:∀ i,i<l.length→(l.getD i []).length<4611686018427387904) (hl:l.length<4611686018427387904) (K:Bool→Prop):ygw (pieces l) (pieces l) K=K true:=by
 refine yBg _ _ _ (fun K k=>?_) K
 unfold ygw ypc
 rw [cnF rfl]
 refine ⟨l.length+1,?_⟩
 exact (yx0 hf hl K l.length 0 (l.length+1) (by omega) (by omega)).mpr k
end Go.Pf.Vc
namespace Go.Pf.Vc
open Go Go.Pf
def hlf (c:Ck):Rat:=shr c 2
section
variable {l:List Ck}
theorem yBw (c:Ck):hlf c=(totC c.cuts c.dens:Rat) / 2:=rfl
theorem ypJ {c:Ck} (h:c.ok):small (hlf c):=yuF h ⟨by omega,by omega⟩
theorem yF1 {c:Ck} (h:c.ok):0<hlf c:=by
 have:=yIb h
 have h2:(0:Rat)<(totC c.cuts c.dens:Rat):=Rat.intCast_pos.2 this
 rw [yBw];grind
theorem yDp {c:Ck} (hok:c.ok) (K:Int→Int→Prop):ykU c.len (ints c.cuts) (ints c.dens) K=K (hlf c).num (hlf c).den:=by
 unfold ykU ypf
 have tb:=ykW hok
 rw [yGW hok,yH5 ⟨by omega,by omega⟩ ⟨by omega,by omega⟩ (by omega),ybV]
 have:=ypJ hok
 unfold hlf shr at this
 rw [if_pos this];rfl
end
end Go.Pf.Vc
namespace Go.Pf.Vc
open Go Go.Pf
def dsR:DS:=.a [.i .i64,.i .i64]
def dsC:DS:=.a [.i .i64,.s (.i .i64),.s (.i .i64)]
theorem yv8 {n:Int} (h:inK .i64 n):I64 n:=by
 have e1:IntKind.i64.min=-9223372036854775808:=by decide
 have e2:IntKind.i64.max=9223372036854775807:=by decide
 unfold inK at h
 rw [e1,e2] at h
 exact h
theorem F_i {c:List PV} (h:HasF (.i .i64) c):∃ n,c=[.int .i64 n]∧I64 n:=by
 simp only [HasF] at h
 obtain ⟨n,e,k⟩:=h
 exact ⟨n,e,yv8 k⟩
theorem F_r {c:List PV} (h:HasF dsR c):∃ n d,c=[.int .i64 n,.int .i64 d]∧I64 n∧I64 d:=by
 simp only [dsR,HasF,HasL] at h
 obtain ⟨c1,c2,rfl,⟨n,rfl,hn⟩,c3,c4,rfl,⟨d,rfl,hd⟩,rfl⟩:=h
 exact ⟨n,d,rfl,yv8 hn,yv8 hd⟩
theorem yBx:∀ (rows:List PV),(∀ x∈rows,x.isAgg=(DS.i .i64).isA∧HasF (.i .i64) x.cells)→∃ l:List Int,rows=ints l∧∀ n∈l,I64 n
 | [],_=>⟨[],rfl,by simp⟩
 | x::r,h=>by
   obtain ⟨l,e,hl⟩:=yBx r (fun y hy=>h y (List.mem_cons_of_mem _ hy))
   obtain ⟨h1,h2⟩:=h x (List.mem_cons_self ..)
   obtain ⟨n,e2,hn⟩:=F_i h2
   have ex:x=.int .i64 n:=by
     cases x <;> first | (simp only [PV.cells,List.cons.injEq,and_true] at e2;exact e2) | (cases h1)
   refine ⟨n::l,by rw [ex,e];rfl,?_⟩
   intro m hm
   rcases List.mem_cons.1 hm with rfl | hm
   · exact hn
   · exact hl m hm
def Ck.i64 (c:Ck):Prop:=I64 c.len∧(∀ n∈c.cuts,I64 n)∧∀ n∈c.dens,I64 n
theorem F_c {c:List PV} (h:HasF dsC c):∃ k:Ck,c=[.int .i64 k.len,.data (ints k.cuts),.data (ints k.dens)]∧k.i64∧k.cuts.length≤9223372036854775807∧k.dens.length≤9223372036854775807:=by
 simp only [dsC,HasF,HasL] at h
 obtain ⟨c1,c2,rfl,⟨n,rfl,hn⟩,c3,c4,rfl,⟨r1,rfl,l1,h1⟩,c5,c6,rfl,⟨r2,rfl,l2,h2⟩,rfl⟩:=h
 obtain ⟨a,rfl,ha⟩:=yBx r1 (fun x hx=>⟨(h1 x hx).1,by simp only [HasF];exact (h1 x hx).2⟩)
 obtain ⟨b,rfl,hb⟩:=yBx r2 (fun x hx=>⟨(h2 x hx).1,by simp only [HasF];exact (h2 x hx).2⟩)
 rw [yat] at l1 l2
 exact ⟨⟨n,a,b⟩,rfl,⟨yv8 hn,ha,hb⟩,l1,l2⟩
theorem yFf {x:PV} {l:List DS} (h:x.isAgg=(DS.a l).isA):x=.agg x.cells:=by
 cases x <;> first | rfl | cases h
end Go.Pf.Vc
namespace Go.Pf.Vc
open Go Go.Pf
section
variable {l:List Ck}
theorem ytF {c:Ck} (hok:c.ok) {n:Int} (hn:1≤n∧n≤1000) (K:Int→Int→Prop):yaq c.len (ints c.cuts) (ints c.dens) n K=K (shr c n).num (shr c n).den:=by
 unfold yaq ylW
 have tb:=ykW hok
 have h1:=VC.l1 hok;have h2:=VC.l2 hok
 rw [yGV (by omega) (by omega),if_pos (VC.ck hok),yH1 ⟨by omega,by omega⟩ ⟨by omega,by omega⟩ (by omega),ybV]
 have:=yuF hok hn
 unfold shr at this
 rw [if_pos this];rfl
end
theorem yx1 {l:List Int} (hl:l.length<4611686018427387904) (K:Bool→Prop) :
   ∀ (r i n:Nat),i+r=l.length→r<n→ycA (fun yb0=>(K yb0)) (fun _ _ _ _=>(K true)) n (ints l) (ints l) i=K true
 | 0,i,n+1,hi,hn=>by
   unfold ycA
   rw [yat,cbF (by omega)]
 | r+1,i,n+1,hi,hn=>by
   unfold ycA
   have e1:=wib (n:=(i:Int)+1) (by omega) (by omega)
   rw [yat,cbT (by omega),Int.toNat_natCast,asT (by omega),asT (by omega),asC (by omega),asT (by omega),asT (by omega),asC (by omega),cnF rfl,e1,cast1]
   exact yx1 hl K r (i+1) n (by omega) (by omega)
theorem yFg {l:List Int} (hl:l.length<4611686018427387904) (K:Bool→Prop):ygv (ints l) (ints l) K=K true:=by
 refine yBe _ _ _ (fun K k=>?_) K
 unfold ygv yo6
 rw [cnF rfl]
 refine ⟨l.length+1,?_⟩
 exact (yx1 hl K l.length 0 (l.length+1) (by omega) (by omega)).mpr k
end Go.Pf.Vc
namespace Go.Pf.Vc
open Go Go.Pf
section
variable {l:List Ck}
theorem ymT {α:Type} {q:Rat} {k:Rat→Except Int α} {x:α} (h:fit q k=.ok x):small q∧k q=.ok x:=by
 unfold fit at h
 split at h
 · rename_i hs;exact ⟨hs,h⟩
 · cases h
theorem ykX {cuts dens:List Int}:∀ (r i:Nat) (p v q:Rat),mrkS cuts dens r i p v=.ok q→small q
 | 0,_,_,_,_,h=>by unfold mrkS at h;cases h
 | r+1,i,p,v,q,h=>by
   unfold mrkS at h
   split at h
   · exact ykX r _ _ _ _ h
   · split at h
     · exact ykX r _ _ _ _ h
     · obtain ⟨_,h⟩:=ymT h
       obtain ⟨_,h⟩:=ymT h
       split at h
       · obtain ⟨_,h⟩:=ymT h
         exact ykX r _ _ _ _ h
       · obtain ⟨_,h⟩:=ymT h
         obtain ⟨s,h⟩:=ymT h
         cases h
         exact s
theorem yFh {len:Int} {cuts dens:List Int} {an ad vn vd:Int} {q:Rat} (h:mrkR len cuts dens an ad vn vd=.ok q):small q:=by
 unfold mrkR at h
 split at h
 · split at h
   · rename_i hp
     unfold mrkC at h
     split at h
     · cases h;exact hp.1.pt.1
     · exact ykX _ _ _ _ _ h
   · cases h
 · cases h
theorem yrW {m:Nat} {agent an ad vn vd:Int} {p:Rat} (h:qryR l m agent (Ck.mark an ad vn vd)=.ok p):small p:=by
 unfold qryR at h
 split at h
 · split at h
   · split at h
     · rename_i q hq
       split at h
       · cases h
       · cases h;exact yFh hq
     · cases h
   · cases h
 · cases h
def nts (r:List Nat):List PV:=ints (r.map fun n:Nat=>(n:Int))
theorem ynV (r:List Nat):(nts r).length=r.length:=by unfold nts;rw [yat,List.length_map]
theorem yIe {r:List Nat} {i:Nat} (h:i<r.length):List.getD (nts r) i .nils=.int .i64 (r.getD i 0):=by
 unfold nts
 rw [ypE (by rw [List.length_map];exact h)]
 rw [List.getD_eq_getElem?_getD,List.getElem?_map,List.getElem?_eq_getElem h,List.getD_eq_getElem?_getD,List.getElem?_eq_getElem h]
 rfl
theorem asN {r:List Nat} {i:Nat} {P:Prop} (h:i<r.length):asr (conf (.one (.i .i64)) (List.getD (nts r) i .nils)) P=P:=by rw [yIe h];rfl
def shN (l:List Ck) (a:Nat):Rat:=shr (l.getD a default) l.length
def markE (l:List Ck) (an ad:Int) (m a:Nat):Except Int Rat:=qryR l m a (Ck.mark an ad (shN l a).num (shN l a).den)
def markQ (l:List Ck) (an ad:Int) (a:Nat) (p:Rat):Qy:=⟨a,2,an,ad,(shN l a).num,(shN l a).den,p.num,p.den⟩
def better (j a:Nat) (p:Rat):Option (Nat×Nat×Rat)→Option (Nat×Nat×Rat)
 | none=>some (j,a,p)
 | some (k,b,t)=>if p<t then some (j,a,p) else some (k,b,t)
def rnd (l:List Ck) (an ad:Int):Nat→List Nat→List Qy→Option (Nat×Nat×Rat)→Except Int (List Qy×Option (Nat×Nat×Rat))
 | _,[],lg,b=>.ok (lg,b)
 | j,a::r,lg,b=>match markE l an ad lg.length a with
   | .error e=>.error e
   | .ok p=>rnd l an ad (j+1) r (lg++[markQ l an ad a p]) (better j a p b)
def bJ:Option (Nat×Nat×Rat)→Int | none=>0 | some (j,_,_)=>j
def bN:Option (Nat×Nat×Rat)→Int | none=>0 | some (_,_,t)=>t.num
def bD:Option (Nat×Nat×Rat)→Int | none=>0 | some (_,_,t)=>t.den
def bSmall:Option (Nat×Nat×Rat)→Prop | none=>True | some (_,_,t)=>small t
theorem ytG {j a:Nat} {p:Rat} {b:Option (Nat×Nat×Rat)} (hp:small p) (hb:bSmall b):bSmall (better j a p b):=by
 cases b with
 | none=>exact hp
 | some x =>
   obtain ⟨k,c,t⟩:=x
   unfold better
   dsimp only
   split
   · exact hp
   · exact hb
theorem ytH {q r:Rat} (hq:small q) (hr:small r) (K:Bool→Prop):yam q.num q.den r.num r.den K=K (decide (q<r)):=by
 unfold yam ylX
 rw [yFY hq hr]
 congr 1
 unfold cmpQ
 by_cases h:q<r
 · rw [if_pos h];simp [h]
 · rw [if_neg h]
   split <;> simp [h]
theorem yG3 (hd:DK l) {a:Nat} (h:a<l.length):small (shN l a):=yuF (hd.ok a h) ⟨by omega,by have:=hd.n6;omega⟩
theorem yDq (hd:DK l) {a:Nat} (h:a<l.length) {an ad:Int} (ha:I64 an) (ha':I64 ad) (lg:List Qy) (K:List PV→List PV→Int→Int→Int→Prop) :
   yaq (l.getD a default).len (ints (l.getD a default).cuts) (ints (l.getD a default).dens) l.length (fun n d=>yaO (cks l) (logs lg) a an ad n d K) =
     match markE l an ad lg.length a with
     | .ok p=>K (cks l) (logs (lg++[markQ l an ad a p])) p.num p.den 0
     | .error e=>K [] [] 0 0 e:=by
 have hs:=yG3 hd h
 have n6:=hd.n6
 rw [ytF (hd.ok a h) ⟨by omega,by omega⟩]
 rw [show shr (l.getD a default) l.length=shN l a from rfl,yIa hd.fin (by omega) (yG1 lg) ha ha' hs.i1 hs.i2,yDo]
 have em:qryR l lg.length a (Ck.mark an ad (shN l a).num (shN l a).den)=markE l an ad lg.length a:=rfl
 rw [em]
 cases markE l an ad lg.length a with
 | ok p =>
   show K (cks l) (logs lg++[_]) _ _ _=K (cks l) (logs (lg++[_])) _ _ _
   rw [yIc];rfl
 | error c=>rfl
end
end Go.Pf.Vc
namespace Go.Pf.Vc
open Go Go.Pf
section
variable {l:List Ck}
theorem ykY {q:Rat} {k:Rat→Except Int Rat} {e:Int} (h:fit q k=.error e):e=16∨k q=.error e:=by
 unfold fit at h
 split at h
 · exact .inr h
 · cases h;exact .inl rfl
theorem ypn {cuts dens:List Int}:∀ (r i:Nat) (p v:Rat) (e:Int),mrkS cuts dens r i p v=.error e→e≠0
 | 0,_,_,_,_,h=>by unfold mrkS at h;cases h;decide
 | r+1,i,p,v,e,h=>by
   have f16:∀ {x:Int} {P:Prop},(x=16∨P)→(P→x≠0)→x≠0:=fun {x P} h1 h2=>by
     rcases h1 with rfl | h1
     · decide
     · exact h2 h1
   unfold mrkS at h
   split at h
   · exact ypn r _ _ _ _ h
   · split at h
     · exact ypn r _ _ _ _ h
     · refine f16 (ykY h) fun h=>f16 (ykY h) fun h=>?_
       split at h
       · exact f16 (ykY h) fun h=>ypn r _ _ _ _ h
       · exact f16 (ykY h) fun h=>f16 (ykY h) fun h=>by cases h
theorem yIf {len:Int} {cuts dens:List Int} {an ad vn vd e:Int} (h:mrkR len cuts dens an ad vn vd=.error e):e≠0:=by
 unfold mrkR at h
 split at h
 · split at h
   · unfold mrkC at h
     split at h
     · cases h
     · exact ypn _ _ _ _ _ h
   · cases h;decide
 · rename_i hc;cases h;exact hc
theorem yuG {an ad:Int} {m a:Nat} {e:Int} (h:markE l an ad m a=.error e):e≠0:=by
 unfold markE qryR at h
 split at h
 · split at h
   · split at h
     · split at h
       · cases h;decide
       · cases h
     · rename_i q hq
       cases h
       exact yIf hq
   · cases h;decide
 · rename_i hc;cases h;exact hc
theorem yjT {bk:List Nat} {i:Nat} (h:i<bk.length):intOfV (List.getD (nts bk) i .nils)=((bk.getD i 0:Nat):Int):=by rw [yIe h];rfl
theorem yjU {bk:List Nat} {k i:Nat} (h:i<k):(bk.take k).getD i 0=bk.getD i 0:=by
 rw [List.getD_eq_getElem?_getD,List.getD_eq_getElem?_getD,List.getElem?_take_of_lt h]
theorem ymU {bk:List Nat} {i:Nat} (h:i<bk.length):bk.getD i 0∈bk:=by
 rw [List.getD_eq_getElem?_getD,List.getElem?_eq_getElem h]
 exact List.getElem_mem h
theorem yIg (hd:DK l) {an ad:Int} (ha:I64 an) (ha':I64 ad) (bk:List Nat) {k:Nat} (hk:k≤bk.length) (hb:∀ a∈bk,a<l.length) (hk2:bk.length≤6) (pcs:List PV) (n3 n4 n5 c1 c2:Nat) :
   ∀ x0 x1 x2 x3,∀ (r i n:Nat) (lg:List Qy) (b:Option (Nat×Nat×Rat)),i+r=k→r<n→(i=0→b=none)→(0<i→b≠none)→bSmall b →
     ya3 ya2 yae yaq yaO yam x0 x1 x2 x3 n (nts bk) pcs (cks l) n3 n4 n5 (cks l) (logs lg) k bk.length c1 an ad (bJ b) (bN b) (bD b) k bk.length c2 k i =
       match rnd l an ad i ((bk.take k).drop i) lg b with
       | .ok x=>x1 (nts bk) pcs (cks l) n3 n4 n5 (cks l) (logs x.1) k bk.length c1 an ad (bJ x.2) (bN x.2) (bD x.2) k bk.length c2 k k false
       | .error e=>x0 (nts bk) pcs e:=by
 intro x0 x1 x2 x3 r
 induction r with
 | zero =>
   intro i n lg b hi hn _ _ _
   obtain ⟨n,rfl⟩:∃ m,n=m+1:=⟨n-1,by omega⟩
   obtain rfl:i=k:=by omega
   rw [ya3,cbF (by omega),List.drop_eq_nil_of_le (by rw [List.length_take];omega)]
   unfold rnd
   rfl
 | succ r ih =>
   intro i n lg b hi hn h0 h1 hs
   obtain ⟨n,rfl⟩:∃ m,n=m+1:=⟨n-1,by omega⟩
   have hil:i<bk.length:=by omega
   have ham:=hb _ (ymU hil)
   have hd2:(bk.take k).drop i=bk.getD i 0::(bk.take k).drop (i+1):=by
     rw [ye7 0 (by rw [List.length_take];omega),yjU (by omega)]
   have e1:=wib (n:=(i:Int)+1) (by omega) (by omega)
   have n6:=hd.n6
   rw [ya3,cbT (by omega),asT (by omega),asT (by omega),ynV,asT rfl,Int.toNat_natCast,Nat.zero_add,asT (by omega),asN hil,yjT hil,asT (by omega),ycn,asT (by omega),Int.toNat_natCast,yhm ham,asCk,ck0,ck1,ck2,
     yDq hd ham ha ha',hd2]
   unfold rnd
   cases hm:markE l an ad lg.length (bk.getD i 0) with
   | error e =>
     dsimp only
     rw [cnT (yuG hm)]
   | ok p =>
     dsimp only
     have hp:small p:=by unfold markE at hm;exact yrW hm
     rw [cnF rfl,e1,cast1]
     have hs2:=ytG (j:=i) (a:=bk.getD i 0) hp hs
     have IH:=fun bb h2=>ih (i+1) n (lg++[markQ l an ad (bk.getD i 0) p]) bb (by omega) (by omega) (by omega) h2
     cases b with
     | none =>
       have hi0:i=0:=by
         rcases Nat.eq_zero_or_pos i with h | h
         · exact h
         · exact absurd rfl (h1 h)
       rw [ceT (by omega)]
       exact IH (better i (bk.getD i 0) p none) (fun _=>by simp [better]) hs2
     | some x =>
       obtain ⟨kk,c,t⟩:=x
       have hi0:i≠0:=fun h=>by have:=h0 h;cases this
       rw [ceF (by omega)]
       change yam p.num p.den t.num t.den _=_
       rw [ytH hp hs]
       by_cases hlt:p<t
       · rw [cbT hlt]
         have eb:better i (bk.getD i 0) p (some (kk,c,t))=some (i,bk.getD i 0,p):=if_pos hlt
         rw [eb] at hs2 ⊢
         exact IH _ (fun _=>by simp) hs2
       · rw [cbF hlt]
         have eb:better i (bk.getD i 0) p (some (kk,c,t))=some (kk,c,t):=if_neg hlt
         rw [eb] at hs2 ⊢
         exact IH _ (fun _=>by simp) hs2
end
end Go.Pf.Vc
