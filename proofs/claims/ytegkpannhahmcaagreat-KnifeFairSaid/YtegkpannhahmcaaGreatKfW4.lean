/- Part 4 of what the statement rests on: a verified evaluator over pure values, the conditions of the program's functions, and their plain laws. -/
import Derived.Test.YtegkpannhahmcaaGreatKfW3
namespace Go.Pf.Vc
open Go Go.Pf
set_option maxRecDepth 100000
theorem yzI (e:Es) (he:EG e):OkF (E e) yzH ync:=by
 intro as K h
 unfold yzH ysH at h
 split at h
 ·exact ya6 (yw3 e he) (ybg (l:=[(21661800,yps)]) ⟨yBj e he,trivial⟩ (by kernel_rfl)) (by kernel_rfl) (by kernel_rfl) (fun _=>yab (by kernel_rfl) _) (he.num _ (by kernel_rfl)) ((yIP ..).mpr h)
 ·exact h.elim
end Go.Pf.Vc
namespace Go.Pf.Vc
open Go Go.Pf
set_option linter.unusedVariables false
theorem yGo (p0:Int) (p1:Ls) (p2:Ls) (r0:Int) (h:∀ K:Int→Prop,K r0→ycE p0 p1 p2 K) (K:Int→Prop):ycE p0 p1 p2 K=K r0 :=
 propext ⟨fun k=>detC (yzG [] yba) (as:=[(.agg [(.int .i64 p0),(.data p1),(.data p2)])]) (x:=(.int .i64 r0)) (fun K' k'=>h (fun r0=>K' (.int .i64 r0)) k') (K:=fun x=>match x with | (.int .i64 r0)=>K r0 | _=>False) k,h K⟩
theorem yGp (p0:Int) (p1:Ls) (p2:Ls) (r0:Int) (h:∀ K:Int→Prop,K r0→yiw p0 p1 p2 K) (K:Int→Prop):yiw p0 p1 p2 K=K r0 :=
 propext ⟨fun k=>detC (yzI [] yba) (as:=[(.agg [(.int .i64 p0),(.data p1),(.data p2)])]) (x:=(.int .i64 r0)) (fun K' k'=>h (fun r0=>K' (.int .i64 r0)) k') (K:=fun x=>match x with | (.int .i64 r0)=>K r0 | _=>False) k,h K⟩
end Go.Pf.Vc
namespace Go.Pf.Vc
open Go Go.Pf
set_option maxRecDepth 100000
abbrev yiX:Type:=Ls→(Bool→Prop)→Prop
def ycl (a0:ykw) (x0:Bool→Prop) (x1:Ls→Int→Bool→Prop):Nat→Ls→Int→Prop
 | 0,_,_=>False
 | n+1,l0,i1 =>
 (cbr (decide (i1<(((List.length l0):Nat):Int)))
 (asr (decide ((0:Int)≤i1))
 (asr (decide (i1<(((List.length l0):Nat):Int)))
 (asr (conf (.agg [.i .i64,.d,.d]) (List.getD l0 (i1.toNat) .nils))
 (a0 (yaa (yag (List.getD l0 (i1.toNat) .nils) 0)) (yaA (yag (List.getD l0 (i1.toNat) .nils) 1)) (yaA (yag (List.getD l0 (i1.toNat) .nils) 2)) (fun a =>
 (cbr a
 (x0 true)
 (ycl a0 x0 x1 n l0 (IntKind.i64.wrap (i1+(1:Int))))))))))
 (x1 l0 i1 false))
def ylf (a0:ykw) (p0:Ls) (K:Bool→Prop):Prop :=
 (∃ n:Nat,ycl a0
 (fun a=>(K a))
 (fun b _ _=>(K (decide ((((List.length b):Nat):Int)>(10:Int)))))
 n p0 (0:Int))
def yeo (p0:Ls) (K:Bool→Prop):Prop:=ylf ygg p0 K
def ylg (w:yiX) (as:Ls) (K:PV→Prop):Prop :=
 match as with
 | [(.data p0)]=>w p0 (fun r0=>K (.bool r0))
 | _=>False
def yqv (as:Ls) (K:PV→Prop):Prop:=ylg yeo as K
def yep (F:Frm) (H:Hp) (A0:Ls→Int→Prop):Prop :=
 match F,H with
 | [(0,.v (.data l0)),(3,.v (.int .i64 i1))],[]=>(A0 l0 i1)
 | _,_=>False
def yix (Q:Qx):Bool→Prop:=(fun b0=>Q .ret [(2,.v (.bool b0))] [])
def yiy (Q:Qx):Ls→Int→Bool→Prop:=(fun l0 i1 b2=>Q (.exit 0) [(0,.v (.data l0)),(3,.v (.int .i64 i1)),(7,.v (.bool b2))] [])
def yhn (a0:ykw) (Q:Qx) (n:Nat) (F:Frm) (H:Hp):Prop:=yep F H (fun l0 i1=>ycl a0 (yix Q) (yiy Q) n l0 i1)
def yib (a0:ykw):LP:=fun id F H Q =>
 bif Nat.beq id 4277600 then yep F H (fun l0 i1=>∃ n:Nat,ycl a0 (yix Q) (yiy Q) n l0 i1) else
 False
def ylh (e:Es) (a0:ykw):SE:=⟨(E e),yaK [(ym8,ysC a0)],yaL [],yib a0⟩
theorem ypS (e:Es) (he:EG e):SEOk (ylh e ygg):=yat ⟨(yIN e he),trivial⟩ trivial he.ok
theorem yrO (e:Es) (a0 Q n l0 i1):WC (E e) (ybd (ylh e a0) 5) (yib a0) yrD [(0,.v (.data l0)),(3,.v (.int .i64 i1))] [] (exQ (yhn a0 Q n) Q)=ycl a0 (yix Q) (yiy Q) (n+1) l0 i1:=by kernel_rfl
theorem yuM (e:Es) (_:EG e):LpOk (E e) (yib ygg) yrD:=(yai (by kernel_rfl))
theorem ytw (e:Es) (he:EG e):∀ F H Q,yib ygg 4277600 F H Q→ycr (E e) yrD F H Q:=by
 intro F H Q h
 have go:=ycr.intro (yaG (ypS e he) 5) (yuM e he) (yhn ygg Q) (by intro F H h;unfold yhn yep at h;split at h <;> exact h) (by intro n F H h;unfold yhn yep at h;split at h;exact (yrO ..).mpr h;exact h.elim)
 have h:yep F H _:=h
 unfold yep at h
 split at h
 ·obtain ⟨n,h⟩:=h;exact go n _ _ h
 ·exact h.elim
theorem yzJ (e:Es) (a0 p0 K):WP (ylh e a0) 6 yAQ [(.data p0)] K=ylf a0 p0 (fun r0=>K (.bool r0)):=by kernel_rfl
theorem yqw (e:Es) (he:EG e):OkF (E e) yqv ygI:=by
 intro as K h
 unfold yqv ylg at h
 split at h
 ·exact ya6 (ypS e he) (ybg (l:=[(4277600,yrD)]) ⟨ytw e he,trivial⟩ (by kernel_rfl)) (by kernel_rfl) (by kernel_rfl) (fun _=>yab (by kernel_rfl) _) (he.num _ (by kernel_rfl)) ((yzJ ..).mpr h)
 ·exact h.elim
abbrev yqx:Type:=Ls→Ls→(Int→Prop)→Prop
def yec (a0:yg2) (a:Int→Prop) (b:Ls→Ls→Int→Bool→Prop):Nat→Ls→Ls→Int→Prop
 | 0,_,_,_=>False
 | c+1,l0,l1,i2 =>
 (cbr (decide (i2<(((List.length l0):Nat):Int)))
 (asr (decide ((0:Int)≤i2))
 (asr (decide (i2<(((List.length l0):Nat):Int)))
 (asr (conf (.agg [.i .i64,.d,.d]) (List.getD l0 (i2.toNat) .nils))
 (a0 (yaa (yag (List.getD l0 (i2.toNat) .nils) 0)) (yaA (yag (List.getD l0 (i2.toNat) .nils) 1)) (yaA (yag (List.getD l0 (i2.toNat) .nils) 2)) (fun e =>
 (cbr (e !=(0:Int))
 (asr (decide ((0:Int)≤i2))
 (asr (decide (i2<(((List.length l0):Nat):Int)))
 (asr (conf (.agg [.i .i64,.d,.d]) (List.getD l0 (i2.toNat) .nils))
 (a0 (yaa (yag (List.getD l0 (i2.toNat) .nils) 0)) (yaA (yag (List.getD l0 (i2.toNat) .nils) 1)) (yaA (yag (List.getD l0 (i2.toNat) .nils) 2)) (fun f =>
 (a f))))))
 (yec a0 a b c l0 l1 (IntKind.i64.wrap (i2+(1:Int))))))))))
 (b l0 l1 i2 false))
def ydw (a0:yg2) (a:Int→Prop) (b:Ls→Ls→Int→Bool→Prop):Nat→Ls→Ls→Int→Prop
 | 0,_,_,_=>False
 | c+1,l0,l1,i2 =>
 (cbr (decide (i2<(((List.length l0):Nat):Int)))
 (asr (decide ((0:Int)≤i2))
 (asr (decide (i2<(((List.length l0):Nat):Int)))
 (asr (conf (.agg [.i .i64,.d,.d]) (List.getD l0 (i2.toNat) .nils))
 (asr (decide ((0:Int)<(((List.length l0):Nat):Int)))
 (asr (conf (.agg [.i .i64,.d,.d]) (List.getD l0 0 .nils))
 (cbr ((yaa (yag (List.getD l0 (i2.toNat) .nils) 0)) !=(yaa (yag (List.getD l0 0 .nils) 0)))
 (a (8:Int))
 (ydw a0 a b c l0 l1 (IntKind.i64.wrap (i2+(1:Int))))))))))
 (b l0 l1 i2 false))
def ysJ (a0:yg2) (p0 p1:Ls) (K:Int→Prop):Prop :=
 (cbr (decide ((((List.length p0):Nat):Int)>(6:Int)))
 (K (4:Int))
 (cbr (decide ((((List.length p1):Nat):Int)>(2000:Int)))
 (K (4:Int))
 (cbr ((((List.length p0):Nat):Int) ==(0:Int))
 (K (8:Int))
 (∃ a:Nat,yec a0
 (fun b=>(K b))
 (fun c d _ _=>(∃ e:Nat,ydw a0
 (fun f=>(K f))
 (fun _ _ _ _=>(K (0:Int)))
 e c d (0:Int)))
 a p0 p1 (0:Int)))))
def yiz (p0 p1:Ls) (K:Int→Prop):Prop:=ysJ ycE p0 p1 K
def ysK (w:yqx) (as:Ls) (K:PV→Prop):Prop :=
 match as with
 | [(.agg [(.data p0),(.data p1)])]=>w p0 p1 (fun r0=>K (.int .i64 r0))
 | _=>False
def yzK (as:Ls) (K:PV→Prop):Prop:=ysK yiz as K
def yhR (F:Frm) (H:Hp) (A0:Ls→Ls→Int→Prop):Prop :=
 match F,H with
 | [(1,.box (.agg [(.data l0),(.data l1)])),(3,.v (.int .i64 i2))],[]=>(A0 l0 l1 i2)
 | _,_=>False
def yhS (F:Frm) (H:Hp) (A0:Ls→Ls→Int→Prop):Prop :=
 match F,H with
 | [(1,.box (.agg [(.data l0),(.data l1)])),(4,.v (.int .i64 i2))],[]=>(A0 l0 l1 i2)
 | _,_=>False
def ynM (Q:Qx):Int→Prop:=(fun i0=>Q .ret [(2,.v (.int .i64 i0))] [])
def ynN (Q:Qx):Ls→Ls→Int→Bool→Prop:=(fun l0 l1 i2 b3=>Q (.exit 0) [(1,.box (.agg [(.data l0),(.data l1)])),(3,.v (.int .i64 i2)),(23,.v (.bool b3))] [])
def ynO (Q:Qx):Int→Prop:=(fun i0=>Q .ret [(2,.v (.int .i64 i0))] [])
def ynP (Q:Qx):Ls→Ls→Int→Bool→Prop:=(fun l0 l1 i2 b3=>Q (.exit 2) [(1,.box (.agg [(.data l0),(.data l1)])),(4,.v (.int .i64 i2)),(43,.v (.bool b3))] [])
def ym3 (a0:yg2) (Q:Qx) (n:Nat) (F:Frm) (H:Hp):Prop:=yhR F H (fun l0 l1 i2=>yec a0 (ynM Q) (ynN Q) n l0 l1 i2)
def ym4 (a0:yg2) (Q:Qx) (n:Nat) (F:Frm) (H:Hp):Prop:=yhS F H (fun l0 l1 i2=>ydw a0 (ynO Q) (ynP Q) n l0 l1 i2)
def yho (a0:yg2):LP:=fun id F H Q =>
 bif Nat.beq id 6981300 then yhR F H (fun l0 l1 i2=>∃ n:Nat,yec a0 (ynM Q) (ynN Q) n l0 l1 i2) else
 bif Nat.beq id 6981301 then yhS F H (fun l0 l1 i2=>∃ n:Nat,ydw a0 (ynO Q) (ynP Q) n l0 l1 i2) else
 False
def yop (e:Es) (a0:yg2):SE:=⟨(E e),yaK [(ykn,ysE a0)],yaL [],yho a0⟩
theorem yrc (e:Es) (he:EG e):SEOk (yop e ycE):=yat ⟨(yzG e he),trivial⟩ trivial he.ok
theorem yx6 (e:Es) (a0 Q n l0 l1 i2):WC (E e) (ybd (yop e a0) 5) (yho a0) yrE [(1,.box (.agg [(.data l0),(.data l1)])),(3,.v (.int .i64 i2))] [] (exQ (ym3 a0 Q n) Q)=yec a0 (ynM Q) (ynN Q) (n+1) l0 l1 i2:=by kernel_rfl
theorem yCL (e:Es) (_:EG e):LpOk (E e) (yho ycE) yrE:=(yai (by kernel_rfl))
theorem yBk (e:Es) (he:EG e):∀ F H Q,yho ycE 6981300 F H Q→ycr (E e) yrE F H Q:=by
 intro F H Q h
 have go:=ycr.intro (yaG (yrc e he) 5) (yCL e he) (ym3 ycE Q) (by intro F H h;unfold ym3 yhR at h;split at h <;> exact h) (by intro n F H h;unfold ym3 yhR at h;split at h;exact (yx6 ..).mpr h;exact h.elim)
 have h:yhR F H _:=h
 unfold yhR at h
 split at h
 ·obtain ⟨n,h⟩:=h;exact go n _ _ h
 ·exact h.elim
theorem yx7 (e:Es) (a0 Q n l0 l1 i2):WC (E e) (ybd (yop e a0) 5) (yho a0) yrF [(1,.box (.agg [(.data l0),(.data l1)])),(4,.v (.int .i64 i2))] [] (exQ (ym4 a0 Q n) Q)=ydw a0 (ynO Q) (ynP Q) (n+1) l0 l1 i2:=by kernel_rfl
theorem yCM (e:Es) (_:EG e):LpOk (E e) (yho ycE) yrF:=(yai (by kernel_rfl))
theorem yBl (e:Es) (he:EG e):∀ F H Q,yho ycE 6981301 F H Q→ycr (E e) yrF F H Q:=by
 intro F H Q h
 have go:=ycr.intro (yaG (yrc e he) 5) (yCM e he) (ym4 ycE Q) (by intro F H h;unfold ym4 yhS at h;split at h <;> exact h) (by intro n F H h;unfold ym4 yhS at h;split at h;exact (yx7 ..).mpr h;exact h.elim)
 have h:yhS F H _:=h
 unfold yhS at h
 split at h
 ·obtain ⟨n,h⟩:=h;exact go n _ _ h
 ·exact h.elim
theorem yIQ (e:Es) (a0 p0 p1 K):WP (yop e a0) 6 yJ5 [(.agg [(.data p0),(.data p1)])] K=ysJ a0 p0 p1 (fun r0=>K (.int .i64 r0)):=by kernel_rfl
theorem yzL (e:Es) (he:EG e):OkF (E e) yzK ym9:=by
 intro as K h
 unfold yzK ysK at h
 split at h
 ·exact ya6 (yrc e he) (ybg (l:=[(6981300,yrE),(6981301,yrF)]) ⟨yBk e he,yBl e he,trivial⟩ (by kernel_rfl)) (by kernel_rfl) (by kernel_rfl) (fun _=>yab (by kernel_rfl) _) (he.num _ (by kernel_rfl)) ((yIQ ..).mpr h)
 ·exact h.elim
end Go.Pf.Vc
namespace Go.Pf.Vc
open Go Go.Pf
set_option linter.unusedVariables false
theorem yx8 (p0:Ls) (r0:Bool) (h:∀ K:Bool→Prop,K r0→yeo p0 K) (K:Bool→Prop):yeo p0 K=K r0 :=
 propext ⟨fun k=>detC (yqw [] yba) (as:=[(.data p0)]) (x:=(.bool r0)) (fun K' k'=>h (fun r0=>K' (.bool r0)) k') (K:=fun x=>match x with | (.bool r0)=>K r0 | _=>False) k,h K⟩
theorem yGq (p0:Ls) (p1:Ls) (r0:Int) (h:∀ K:Int→Prop,K r0→yiz p0 p1 K) (K:Int→Prop):yiz p0 p1 K=K r0 :=
 propext ⟨fun k=>detC (yzL [] yba) (as:=[(.agg [(.data p0),(.data p1)])]) (x:=(.int .i64 r0)) (fun K' k'=>h (fun r0=>K' (.int .i64 r0)) k') (K:=fun x=>match x with | (.int .i64 r0)=>K r0 | _=>False) k,h K⟩
end Go.Pf.Vc
namespace Go.Pf.Vc
open Go Go.Pf
set_option maxRecDepth 100000
abbrev ysL:Type:=Ls→Ls→(Bool→Prop)→Prop
def yeH (x0:Bool→Prop) (x1:Ls→Ls→Int→Bool→Prop):Nat→Ls→Ls→Int→Prop
 | 0,_,_,_=>False
 | n+1,l0,l1,i2 =>
 (cbr (decide (i2<(((List.length l0):Nat):Int)))
 (asr (decide ((0:Int)≤i2))
 (asr (decide (i2<(((List.length l0):Nat):Int)))
 (asr (conf (.one (.i .i64)) (List.getD l0 (i2.toNat) .nils))
 (asr (decide ((0:Int)≤i2))
 (asr (decide (i2<(((List.length l1):Nat):Int)))
 (asr (conf (.one (.i .i64)) (List.getD l1 (i2.toNat) .nils))
 (cbr ((yaa (List.getD l0 (i2.toNat) .nils)) !=(yaa (List.getD l1 (i2.toNat) .nils)))
 (x0 false)
 (yeH x0 x1 n l0 l1 (IntKind.i64.wrap (i2+(1:Int)))))))))))
 (x1 l0 l1 i2 false))
def yuN (p0 p1:Ls) (K:Bool→Prop):Prop :=
 (cbr ((((List.length p0):Nat):Int) !=(((List.length p1):Nat):Int))
 (K false)
 (∃ n:Nat,yeH
 (fun a=>(K a))
 (fun _ _ _ _=>(K true))
 n p0 p1 (0:Int)))
def yj8 (p0 p1:Ls) (K:Bool→Prop):Prop:=yuN p0 p1 K
def yuO (w:ysL) (as:Ls) (K:PV→Prop):Prop :=
 match as with
 | [(.data p0),(.data p1)]=>w p0 p1 (fun r0=>K (.bool r0))
 | _=>False
def yB6 (as:Ls) (K:PV→Prop):Prop:=yuO yj8 as K
def yiY (F:Frm) (H:Hp) (A0:Ls→Ls→Int→Prop):Prop :=
 match F,H with
 | [(0,.v (.data l0)),(1,.v (.data l1)),(5,.v (.int .i64 i2))],[]=>(A0 l0 l1 i2)
 | _,_=>False
def ypT (Q:Qx):Bool→Prop:=(fun b0=>Q .ret [(4,.v (.bool b0))] [])
def ypU (Q:Qx):Ls→Ls→Int→Bool→Prop:=(fun l0 l1 i2 b3=>Q (.exit 0) [(0,.v (.data l0)),(1,.v (.data l1)),(5,.v (.int .i64 i2)),(14,.v (.bool b3))] [])
def yoq (Q:Qx) (n:Nat) (F:Frm) (H:Hp):Prop:=yiY F H (fun l0 l1 i2=>yeH (ypT Q) (ypU Q) n l0 l1 i2)
def yqy:LP:=fun id F H Q =>
 bif Nat.beq id 14397100 then yiY F H (fun l0 l1 i2=>∃ n:Nat,yeH (ypT Q) (ypU Q) n l0 l1 i2) else
 False
def yuP (e:Es):SE:=⟨(E e),yaK [],yaL [],yqy⟩
theorem yzM (e:Es) (he:EG e):SEOk (yuP e):=yat trivial trivial he.ok
theorem yzN (e:Es) ( Q n l0 l1 i2):WC (E e) (ybd (yuP e) 5) (yqy) ypi [(0,.v (.data l0)),(1,.v (.data l1)),(5,.v (.int .i64 i2))] [] (exQ (yoq Q n) Q)=yeH (ypT Q) (ypU Q) (n+1) l0 l1 i2:=by kernel_rfl
theorem yEH (e:Es) (_:EG e):LpOk (E e) (yqy) ypi:=(yai (by kernel_rfl))
theorem yCN (e:Es) (he:EG e):∀ F H Q,yqy 14397100 F H Q→ycr (E e) ypi F H Q:=by
 intro F H Q h
 have go:=ycr.intro (yaG (yzM e he) 5) (yEH e he) (yoq Q) (by intro F H h;unfold yoq yiY at h;split at h <;> exact h) (by intro n F H h;unfold yoq yiY at h;split at h;exact (yzN ..).mpr h;exact h.elim)
 have h:yiY F H _:=h
 unfold yiY at h
 split at h
 ·obtain ⟨n,h⟩:=h;exact go n _ _ h
 ·exact h.elim
theorem yKC (e:Es) ( p0 p1 K):WP (yuP e) 6 yMk [(.data p0),(.data p1)] K=yuN p0 p1 (fun r0=>K (.bool r0)):=by kernel_rfl
theorem yB7 (e:Es) (he:EG e):OkF (E e) yB6 yo0:=by
 intro as K h
 unfold yB6 yuO at h
 split at h
 ·exact ya6 (yzM e he) (ybg (l:=[(14397100,ypi)]) ⟨yCN e he,trivial⟩ (by kernel_rfl)) (by kernel_rfl) (by kernel_rfl) (fun _=>yab (by kernel_rfl) _) (he.num _ (by kernel_rfl)) ((yKC ..).mpr h)
 ·exact h.elim
abbrev yms:Type:=Ls→Ls→(Bool→Prop)→Prop
def yeI (x0:Bool→Prop) (x1:Ls→Ls→Int→Bool→Prop):Nat→Ls→Ls→Int→Prop
 | 0,_,_,_=>False
 | n+1,l0,l1,i2 =>
 (cbr (decide (i2<(((List.length l0):Nat):Int)))
 (asr (decide ((0:Int)≤i2))
 (asr (decide (i2<(((List.length l0):Nat):Int)))
 (asr (conf (.agg [.i .i64,.i .i64,.i .i64,.i .i64]) (List.getD l0 (i2.toNat) .nils))
 (asr (decide ((0:Int)≤i2))
 (asr (decide (i2<(((List.length l1):Nat):Int)))
 (asr (conf (.agg [.i .i64,.i .i64,.i .i64,.i .i64]) (List.getD l1 (i2.toNat) .nils))
 (cbr (!(((yaa (yag (List.getD l0 (i2.toNat) .nils) 0)) ==(yaa (yag (List.getD l1 (i2.toNat) .nils) 0)))&&(((yaa (yag (List.getD l0 (i2.toNat) .nils) 1)) ==(yaa (yag (List.getD l1 (i2.toNat) .nils) 1)))&&(((yaa (yag (List.getD l0 (i2.toNat) .nils) 2)) ==(yaa (yag (List.getD l1 (i2.toNat) .nils) 2)))&&(((yaa (yag (List.getD l0 (i2.toNat) .nils) 3)) ==(yaa (yag (List.getD l1 (i2.toNat) .nils) 3)))&&true)))))
 (x0 false)
 (yeI x0 x1 n l0 l1 (IntKind.i64.wrap (i2+(1:Int)))))))))))
 (x1 l0 l1 i2 false))
def yuQ (p0 p1:Ls) (K:Bool→Prop):Prop :=
 (cbr ((((List.length p0):Nat):Int) !=(((List.length p1):Nat):Int))
 (K false)
 (∃ n:Nat,yeI
 (fun a=>(K a))
 (fun _ _ _ _=>(K true))
 n p0 p1 (0:Int)))
def ye8 (p0 p1:Ls) (K:Bool→Prop):Prop:=yuQ p0 p1 K
def yuR (w:yms) (as:Ls) (K:PV→Prop):Prop :=
 match as with
 | [(.data p0),(.data p1)]=>w p0 p1 (fun r0=>K (.bool r0))
 | _=>False
def yB8 (as:Ls) (K:PV→Prop):Prop:=yuR ye8 as K
def yiZ (F:Frm) (H:Hp) (A0:Ls→Ls→Int→Prop):Prop :=
 match F,H with
 | [(0,.v (.data l0)),(1,.v (.data l1)),(5,.v (.int .i64 i2))],[]=>(A0 l0 l1 i2)
 | _,_=>False
def ypV (Q:Qx):Bool→Prop:=(fun b0=>Q .ret [(4,.v (.bool b0))] [])
def ypW (Q:Qx):Ls→Ls→Int→Bool→Prop:=(fun l0 l1 i2 b3=>Q (.exit 0) [(0,.v (.data l0)),(1,.v (.data l1)),(5,.v (.int .i64 i2)),(14,.v (.bool b3))] [])
def yor (Q:Qx) (n:Nat) (F:Frm) (H:Hp):Prop:=yiZ F H (fun l0 l1 i2=>yeI (ypV Q) (ypW Q) n l0 l1 i2)
def yqz:LP:=fun id F H Q =>
 bif Nat.beq id 27088800 then yiZ F H (fun l0 l1 i2=>∃ n:Nat,yeI (ypV Q) (ypW Q) n l0 l1 i2) else
 False
def yuS (e:Es):SE:=⟨(E e),yaK [],yaL [],yqz⟩
theorem yzO (e:Es) (he:EG e):SEOk (yuS e):=yat trivial trivial he.ok
theorem yzP (e:Es) ( Q n l0 l1 i2):WC (E e) (ybd (yuS e) 5) (yqz) ypj [(0,.v (.data l0)),(1,.v (.data l1)),(5,.v (.int .i64 i2))] [] (exQ (yor Q n) Q)=yeI (ypV Q) (ypW Q) (n+1) l0 l1 i2:=by kernel_rfl
theorem yEI (e:Es) (_:EG e):LpOk (E e) (yqz) ypj:=(yai (by kernel_rfl))
theorem yCO (e:Es) (he:EG e):∀ F H Q,yqz 27088800 F H Q→ycr (E e) ypj F H Q:=by
 intro F H Q h
 have go:=ycr.intro (yaG (yzO e he) 5) (yEI e he) (yor Q) (by intro F H h;unfold yor yiZ at h;split at h <;> exact h) (by intro n F H h;unfold yor yiZ at h;split at h;exact (yzP ..).mpr h;exact h.elim)
 have h:yiZ F H _:=h
 unfold yiZ at h
 split at h
 ·obtain ⟨n,h⟩:=h;exact go n _ _ h
 ·exact h.elim
theorem yKD (e:Es) ( p0 p1 K):WP (yuS e) 6 yMl [(.data p0),(.data p1)] K=yuQ p0 p1 (fun r0=>K (.bool r0)):=by kernel_rfl
theorem yB9 (e:Es) (he:EG e):OkF (E e) yB8 yo1:=by
 intro as K h
 unfold yB8 yuR at h
 split at h
 ·exact ya6 (yzO e he) (ybg (l:=[(27088800,ypj)]) ⟨yCO e he,trivial⟩ (by kernel_rfl)) (by kernel_rfl) (by kernel_rfl) (fun _=>yab (by kernel_rfl) _) (he.num _ (by kernel_rfl)) ((yKD ..).mpr h)
 ·exact h.elim
abbrev ysM:Type:=Ls→Ls→(Bool→Prop)→Prop
def yeJ (a0:yms) (x0:Bool→Prop) (x1:Ls→Ls→Int→Bool→Prop):Nat→Ls→Ls→Int→Prop
 | 0,_,_,_=>False
 | n+1,l0,l1,i2 =>
 (cbr (decide (i2<(((List.length l0):Nat):Int)))
 (asr (decide ((0:Int)≤i2))
 (asr (decide (i2<(((List.length l0):Nat):Int)))
 (asr (conf (.one (.d)) (List.getD l0 (i2.toNat) .nils))
 (asr (decide ((0:Int)≤i2))
 (asr (decide (i2<(((List.length l1):Nat):Int)))
 (asr (conf (.one (.d)) (List.getD l1 (i2.toNat) .nils))
 (a0 (yaA (List.getD l0 (i2.toNat) .nils)) (yaA (List.getD l1 (i2.toNat) .nils)) (fun a =>
 (cbr (!a)
 (x0 false)
 (yeJ a0 x0 x1 n l0 l1 (IntKind.i64.wrap (i2+(1:Int)))))))))))))
 (x1 l0 l1 i2 false))
def yuT (a0:yms) (p0 p1:Ls) (K:Bool→Prop):Prop :=
 (cbr ((((List.length p0):Nat):Int) !=(((List.length p1):Nat):Int))
 (K false)
 (∃ n:Nat,yeJ a0
 (fun a=>(K a))
 (fun _ _ _ _=>(K true))
 n p0 p1 (0:Int)))
def yj9 (p0 p1:Ls) (K:Bool→Prop):Prop:=yuT ye8 p0 p1 K
def yuU (w:ysM) (as:Ls) (K:PV→Prop):Prop :=
 match as with
 | [(.agg [(.data p0)]),(.agg [(.data p1)])]=>w p0 p1 (fun r0=>K (.bool r0))
 | _=>False
def yCa (as:Ls) (K:PV→Prop):Prop:=yuU yj9 as K
def yja (F:Frm) (H:Hp) (A0:Ls→Ls→Int→Prop):Prop :=
 match F,H with
 | [(2,.box (.agg [(.data l0)])),(3,.box (.agg [(.data l1)])),(5,.v (.int .i64 i2))],[]=>(A0 l0 l1 i2)
 | _,_=>False
def ypX (Q:Qx):Bool→Prop:=(fun b0=>Q .ret [(4,.v (.bool b0))] [])
def ypY (Q:Qx):Ls→Ls→Int→Bool→Prop:=(fun l0 l1 i2 b3=>Q (.exit 0) [(2,.box (.agg [(.data l0)])),(3,.box (.agg [(.data l1)])),(5,.v (.int .i64 i2)),(17,.v (.bool b3))] [])
def yos (a0:yms) (Q:Qx) (n:Nat) (F:Frm) (H:Hp):Prop:=yja F H (fun l0 l1 i2=>yeJ a0 (ypX Q) (ypY Q) n l0 l1 i2)
def yqA (a0:yms):LP:=fun id F H Q =>
 bif Nat.beq id 70742100 then yja F H (fun l0 l1 i2=>∃ n:Nat,yeJ a0 (ypX Q) (ypY Q) n l0 l1 i2) else
 False
def yuV (e:Es) (a0:yms):SE:=⟨(E e),yaK [(yo1,yuR a0)],yaL [],yqA a0⟩
theorem yzQ (e:Es) (he:EG e):SEOk (yuV e ye8):=yat ⟨(yB9 e he),trivial⟩ trivial he.ok
theorem yzR (e:Es) (a0 Q n l0 l1 i2):WC (E e) (ybd (yuV e a0) 5) (yqA a0) ypk [(2,.box (.agg [(.data l0)])),(3,.box (.agg [(.data l1)])),(5,.v (.int .i64 i2))] [] (exQ (yos a0 Q n) Q)=yeJ a0 (ypX Q) (ypY Q) (n+1) l0 l1 i2:=by kernel_rfl
theorem yEJ (e:Es) (_:EG e):LpOk (E e) (yqA ye8) ypk:=(yai (by kernel_rfl))
theorem yCP (e:Es) (he:EG e):∀ F H Q,yqA ye8 70742100 F H Q→ycr (E e) ypk F H Q:=by
 intro F H Q h
 have go:=ycr.intro (yaG (yzQ e he) 5) (yEJ e he) (yos ye8 Q) (by intro F H h;unfold yos yja at h;split at h <;> exact h) (by intro n F H h;unfold yos yja at h;split at h;exact (yzR ..).mpr h;exact h.elim)
 have h:yja F H _:=h
 unfold yja at h
 split at h
 ·obtain ⟨n,h⟩:=h;exact go n _ _ h
 ·exact h.elim
theorem yKE (e:Es) (a0 p0 p1 K):WP (yuV e a0) 6 yMm [(.agg [(.data p0)]),(.agg [(.data p1)])] K=yuT a0 p0 p1 (fun r0=>K (.bool r0)):=by kernel_rfl
theorem yCb (e:Es) (he:EG e):OkF (E e) yCa yo2:=by
 intro as K h
 unfold yCa yuU at h
 split at h
 ·exact ya6 (yzQ e he) (ybg (l:=[(70742100,ypk)]) ⟨yCP e he,trivial⟩ (by kernel_rfl)) (by kernel_rfl) (by kernel_rfl) (fun _=>yab (by kernel_rfl) _) (he.num _ (by kernel_rfl)) ((yKE ..).mpr h)
 ·exact h.elim
abbrev ykx:Type:=Ls→Ls→Int→(Int→Int→Prop)→Prop
def ysN (a0:yqu) (a1:ysA) (p0 _:Ls) (p2:Int) (K:Int→Int→Prop):Prop :=
 (asr (decide ((0:Int)≤p2))
 (asr (decide (p2<(((List.length p0):Nat):Int)))
 (asr (conf (.agg [.i .i64,.d,.d]) (List.getD p0 (p2.toNat) .nils))
 (a0 (yaa (yag (List.getD p0 (p2.toNat) .nils) 0)) (yaA (yag (List.getD p0 (p2.toNat) .nils) 1)) (yaA (yag (List.getD p0 (p2.toNat) .nils) 2)) (fun a =>
 (a1 a (((List.length p0):Nat):Int) (fun b c _ =>
 (K b c))))))))
def yfr (p0 p1:Ls) (p2:Int) (K:Int→Int→Prop):Prop:=ysN yiw ypR p0 p1 p2 K
def ysO (w:ykx) (as:Ls) (K:PV→Prop):Prop :=
 match as with
 | [(.agg [(.data p0),(.data p1)]),(.int .i64 p2)]=>w p0 p1 p2 (fun r0 r1=>K (.agg [(.int .i64 r0),(.int .i64 r1)]))
 | _=>False
def yzS (as:Ls) (K:PV→Prop):Prop:=ysO yfr as K
def yIR (_:yqu) (_:ysA):LP:=fun _ _ _ _ =>
 False
def yzT (e:Es) (a0:yqu) (a1:ysA):SE:=⟨(E e),yaK [(ync,ysH a0),(yo4,yuL a1)],yaL [],yIR a0 a1⟩
theorem yGr (e:Es) (he:EG e):SEOk (yzT e yiw ypR):=yat ⟨(yzI e he),(yKA e he),trivial⟩ trivial he.ok
theorem yIS (e:Es) (a0 a1 p0 p1 p2 K):WP (yzT e a0 a1) 6 yKl [(.agg [(.data p0),(.data p1)]),(.int .i64 p2)] K=ysN a0 a1 p0 p1 p2 (fun r0 r1=>K (.agg [(.int .i64 r0),(.int .i64 r1)])):=by kernel_rfl
theorem yIT (e:Es) (he:EG e):OkF (E e) yzS ynd:=by
 intro as K h
 unfold yzS ysO at h
 split at h
 ·exact ya6 (yGr e he) (yai (by kernel_rfl)) (by kernel_rfl) (by kernel_rfl) (fun _=>yab (by kernel_rfl) _) (he.num _ (by kernel_rfl)) ((yIS ..).mpr h)
 ·exact h.elim
end Go.Pf.Vc
namespace Go.Pf.Vc
open Go Go.Pf
set_option linter.unusedVariables false
theorem yIU (p0:Ls) (p1:Ls) (r0:Bool) (h:∀ K:Bool→Prop,K r0→yj8 p0 p1 K) (K:Bool→Prop):yj8 p0 p1 K=K r0 :=
 propext ⟨fun k=>detC (yB7 [] yba) (as:=[(.data p0),(.data p1)]) (x:=(.bool r0)) (fun K' k'=>h (fun r0=>K' (.bool r0)) k') (K:=fun x=>match x with | (.bool r0)=>K r0 | _=>False) k,h K⟩
theorem yIV (p0:Ls) (p1:Ls) (r0:Bool) (h:∀ K:Bool→Prop,K r0→ye8 p0 p1 K) (K:Bool→Prop):ye8 p0 p1 K=K r0 :=
 propext ⟨fun k=>detC (yB9 [] yba) (as:=[(.data p0),(.data p1)]) (x:=(.bool r0)) (fun K' k'=>h (fun r0=>K' (.bool r0)) k') (K:=fun x=>match x with | (.bool r0)=>K r0 | _=>False) k,h K⟩
theorem yIW (p0:Ls) (p1:Ls) (r0:Bool) (h:∀ K:Bool→Prop,K r0→yj9 p0 p1 K) (K:Bool→Prop):yj9 p0 p1 K=K r0 :=
 propext ⟨fun k=>detC (yCb [] yba) (as:=[(.agg [(.data p0)]),(.agg [(.data p1)])]) (x:=(.bool r0)) (fun K' k'=>h (fun r0=>K' (.bool r0)) k') (K:=fun x=>match x with | (.bool r0)=>K r0 | _=>False) k,h K⟩
end Go.Pf.Vc
namespace Go.Pf.Vc
open Go Go.Pf
set_option maxRecDepth 100000
theorem ycw {a b:Nat} {P Q:Prop} (h:bif Nat.beq a b then P else Q):(a=b∧P)∨Q:=by
 cases hb:Nat.beq a b with
 | true=>rw [hb] at h;exact .inl ⟨qAg hb,h⟩
 | false=>rw [hb] at h;exact .inr h
abbrev yaq:Type:=Int→(Int→Int→Prop)→Prop
def yuW (p0:Int) (K:Int→Int→Prop):Prop :=
 (K p0 (1:Int))
def yam (p0:Int) (K:Int→Int→Prop):Prop:=yuW p0 K
def ydY (w:yaq) (as:Ls) (K:PV→Prop):Prop :=
 match as with
 | [(.int .i64 p0)]=>w p0 (fun r0 r1=>K (.agg [(.int .i64 r0),(.int .i64 r1)]))
 | _=>False
def yuX (as:Ls) (K:PV→Prop):Prop:=ydY yam as K
def yEK:LP:=fun _ _ _ _ =>
 False
def yuY (e:Es):SE:=⟨(E e),yaK [],yaL [],yEK⟩
theorem yCQ (e:Es) (he:EG e):SEOk (yuY e):=yat trivial trivial he.ok
theorem yEL (e:Es) ( p0 K):WP (yuY e) 11 yFE [(.int .i64 p0)] K=yuW p0 (fun r0 r1=>K (.agg [(.int .i64 r0),(.int .i64 r1)])):=by kernel_rfl
theorem yfK (e:Es) (he:EG e):OkF (E e) yuX ych:=by
 intro as K h
 unfold yuX ydY at h
 split at h
 ·exact ya6 (yCQ e he) (yai (by kernel_rfl)) (by kernel_rfl) (by kernel_rfl) (fun _=>yab (by kernel_rfl) _) (he.num _ (by kernel_rfl)) ((yEL ..).mpr h)
 ·exact h.elim
abbrev yaw:Type:=Int→Int→Int→Int→(Bool→Prop)→Prop
def yrd (a0:ybO) (p0 p1 p2 p3:Int) (K:Bool→Prop):Prop :=
 (a0 p0 p1 p2 p3 (fun a _ =>
 (K (decide (a<(0:Int))))))
def yaf (p0 p1 p2 p3:Int) (K:Bool→Prop):Prop:=yrd ybW p0 p1 p2 p3 K
def yeB (w:yaw) (as:Ls) (K:PV→Prop):Prop :=
 match as with
 | [(.agg [(.int .i64 p0),(.int .i64 p1)]),(.agg [(.int .i64 p2),(.int .i64 p3)])]=>w p0 p1 p2 p3 (fun r0=>K (.bool r0))
 | _=>False
def yw4 (as:Ls) (K:PV→Prop):Prop:=yeB yaf as K
def yGs (_:ybO):LP:=fun _ _ _ _ =>
 False
def yw5 (e:Es) (a0:ybO):SE:=⟨(E e),yaK [(ycM,ygd a0)],yaL [],yGs a0⟩
theorem yEM (e:Es) (he:EG e):SEOk (yw5 e ybW):=yat ⟨(yhf e he),trivial⟩ trivial he.ok
theorem yGt (e:Es) (a0 p0 p1 p2 p3 K):WP (yw5 e a0) 11 yIo [(.agg [(.int .i64 p0),(.int .i64 p1)]),(.agg [(.int .i64 p2),(.int .i64 p3)])] K=yrd a0 p0 p1 p2 p3 (fun r0=>K (.bool r0)):=by kernel_rfl
theorem ygo (e:Es) (he:EG e):OkF (E e) yw4 ybI:=by
 intro as K h
 unfold yw4 yeB at h
 split at h
 ·exact ya6 (yEM e he) (yai (by kernel_rfl)) (by kernel_rfl) (by kernel_rfl) (fun _=>yab (by kernel_rfl) _) (he.num _ (by kernel_rfl)) ((yGt ..).mpr h)
 ·exact h.elim
abbrev yGu:Type:=Ls→Ls→(Int→Prop)→Prop
def ydh (a0:ybS) (a1:yci) (a2:yaq) (a3:yaw) (a:Ls→Ls→Ls→Int→Int→Bool→Prop) (b:Int→Prop):Nat→Ls→Ls→Ls→Int→Int→Prop
 | 0,_,_,_,_,_=>False
 | f+1,l0,l1,l2,i3,i4 =>
 (cbr (decide (i4<i3))
 (asr (decide ((0:Int)≤i4))
 (asr (decide (i4<(((List.length l2):Nat):Int)))
 (lt (List.getD l2 (i4.toNat) .nils) (fun c =>
 (asr (conf (.one (.d)) c)
 (a1 (yaA c) (fun e =>
 (cbr (e !=(0:Int))
 (b e)
 (lt (IntKind.i64.wrap (i4+(1:Int))) (fun g =>
 (ydh a0 a1 a2 a3 a b f l0 l1 l2 i3 g)))))))))))
 (a l0 l1 l2 i3 i4 false))
def ycJ (a0:ybS) (a1:yci) (a2:yaq) (a3:yaw) (f:Ls→Ls→Int→Int→Bool→Prop) (g:Int→Prop):Nat→Ls→Ls→Int→Int→Prop
 | 0,_,_,_,_=>False
 | k+1,l0,l1,i2,i3 =>
 (cbr (decide (i3<i2))
 (asr (decide ((0:Int)≤i3))
 (asr (decide (i3<(((List.length l1):Nat):Int)))
 (lt (List.getD l1 (i3.toNat) .nils) (fun a =>
 (asr (conf (.one (.d)) a)
 (jn (fun (b:Bool→Prop) =>
 (cbr (decide ((((List.length (yaA a)):Nat):Int)>(0:Int)))
 (asr (decide ((0:Int)<(((List.length (yaA a)):Nat):Int)))
 (lt (List.getD (yaA a) 0 .nils) (fun h =>
 (asr (conf (.agg [.i .i64,.i .i64,.i .i64,.i .i64]) h)
 (cbr (decide ((yaa (yag h 0))<(0:Int)))
 (b true)
 (asr (decide ((0:Int)<(((List.length l0):Nat):Int)))
 (lt (List.getD l0 0 .nils) (fun j =>
 (asr (conf (.agg [.i .i64,.d,.d]) j)
 (a2 (yaa (yag j 0)) (fun l m =>
 (lt (IntKind.i64.wrap ((((List.length (yaA a)):Nat):Int)-(1:Int))) (fun c =>
 (asr (decide ((0:Int)≤c))
 (asr (decide (c<(((List.length (yaA a)):Nat):Int)))
 (lt (List.getD (yaA a) (c.toNat) .nils) (fun e =>
 (asr (conf (.agg [.i .i64,.i .i64,.i .i64,.i .i64]) e)
 (a3 l m (yaa (yag e 2)) (yaa (yag e 3)) (fun n =>
 (b n)))))))))))))))))))))
 (b false)))
 (fun o=>(cbr o
 (g (2:Int))
 (lt (IntKind.i64.wrap (i3+(1:Int))) (fun p =>
 (ycJ a0 a1 a2 a3 f g k l0 l1 i2 p)))))))))))
 (f l0 l1 i2 i3 false))
def ypZ (a0:ybS) (a1:yci) (a2:yaq) (a3:yaw) (p0 p1:Ls) (K:Int→Prop):Prop :=
 (a0 p0 ([]:Ls) (fun a =>
 (cbr (a !=(0:Int))
 (K a)
 (cbr ((((List.length p1):Nat):Int) !=(((List.length p0):Nat):Int))
 (K (2:Int))
 (∃ c:Nat,ydh a0 a1 a2 a3
 (fun d b _ _ _ _=>(∃ e:Nat,ycJ a0 a1 a2 a3
 (fun _ _ _ _ _=>(K (0:Int)))
 (fun f=>(K f))
 e d b (((List.length b):Nat):Int) (0:Int)))
 (fun g=>(K g))
 c p0 p1 p1 (((List.length p1):Nat):Int) (0:Int))))))
def ygp (p0 p1:Ls) (K:Int→Prop):Prop:=ypZ ybr yaI yam yaf p0 p1 K
def yp0 (w:yGu) (as:Ls) (K:PV→Prop):Prop :=
 match as with
 | [(.data p0),(.agg [(.data p1)])]=>w p0 p1 (fun r0=>K (.int .i64 r0))
 | _=>False
def yli (as:Ls) (K:PV→Prop):Prop:=yp0 ygp as K
def yf2 (F:Frm) (H:Hp) (A0:Ls→Ls→Ls→Int→Int→Prop):Prop :=
 match F,H with
 | [(0,.v (.data l0)),(3,.box (.agg [(.data l1)])),(25,.v (.data l2)),(26,.v (.int .i64 i3)),(27,.v (.int .i64 i4))],[]=>(A0 l0 l1 l2 i3 i4)
 | _,_=>False
def yf3 (F:Frm) (H:Hp) (A0:Ls→Ls→Int→Int→Prop):Prop :=
 match F,H with
 | [(0,.v (.data l0)),(38,.v (.data l1)),(39,.v (.int .i64 i2)),(40,.v (.int .i64 i3))],[]=>(A0 l0 l1 i2 i3)
 | _,_=>False
def ylj (Q:Qx):Ls→Ls→Ls→Int→Int→Bool→Prop:=(fun l0 l1 l2 i3 i4 b5=>Q (.exit 0) [(0,.v (.data l0)),(3,.box (.agg [(.data l1)])),(25,.v (.data l2)),(26,.v (.int .i64 i3)),(27,.v (.int .i64 i4)),(28,.v (.bool b5))] [])
def ylk (Q:Qx):Int→Prop:=(fun i0=>Q .ret [(4,.v (.int .i64 i0))] [])
def yll (Q:Qx):Ls→Ls→Int→Int→Bool→Prop:=(fun l0 l1 i2 i3 b4=>Q (.exit 2) [(0,.v (.data l0)),(38,.v (.data l1)),(39,.v (.int .i64 i2)),(40,.v (.int .i64 i3)),(41,.v (.bool b4))] [])
def ylm (Q:Qx):Int→Prop:=(fun i0=>Q .ret [(4,.v (.int .i64 i0))] [])
def yjW (a0:ybS) (a1:yci) (a2:yaq) (a3:yaw) (Q:Qx) (n:Nat) (F:Frm) (H:Hp):Prop:=yf2 F H (fun l0 l1 l2 i3 i4=>ydh a0 a1 a2 a3 (ylj Q) (ylk Q) n l0 l1 l2 i3 i4)
def yjX (a0:ybS) (a1:yci) (a2:yaq) (a3:yaw) (Q:Qx) (n:Nat) (F:Frm) (H:Hp):Prop:=yf3 F H (fun l0 l1 i2 i3=>ycJ a0 a1 a2 a3 (yll Q) (ylm Q) n l0 l1 i2 i3)
def yfL (a0:ybS) (a1:yci) (a2:yaq) (a3:yaw):LP:=fun id F H Q =>
 bif Nat.beq id 8206000 then yf2 F H (fun l0 l1 l2 i3 i4=>∃ n:Nat,ydh a0 a1 a2 a3 (ylj Q) (ylk Q) n l0 l1 l2 i3 i4) else
 bif Nat.beq id 8206001 then yf3 F H (fun l0 l1 i2 i3=>∃ n:Nat,ycJ a0 a1 a2 a3 (yll Q) (ylm Q) n l0 l1 i2 i3) else
 False
def yln (e:Es) (a0:ybS) (a1:yci) (a2:yaq) (a3:yaw):SE:=⟨(E e),yaK [(ydz,yiU a0),(yfm,yis a1),(ych,ydY a2),(ybI,yeB a3)],yaL [],yfL a0 a1 a2 a3⟩
theorem ynQ (e:Es) (he:EG e):SEOk (yln e ybr yaI yam yaf):=yat ⟨(yla e he),(yk6 e he),(yfK e he),(ygo e he),trivial⟩ trivial he.ok
theorem yuZ (e:Es) (a0 a1 a2 a3 Q n l0 l1 l2 i3 i4):WC (E e) (ybd (yln e a0 a1 a2 a3) 10) (yfL a0 a1 a2 a3) yrG [(0,.v (.data l0)),(3,.box (.agg [(.data l1)])),(25,.v (.data l2)),(26,.v (.int .i64 i3)),(27,.v (.int .i64 i4))] [] (exQ (yjW a0 a1 a2 a3 Q n) Q)=ydh a0 a1 a2 a3 (ylj Q) (ylk Q) (n+1) l0 l1 l2 i3 i4:=by kernel_rfl
theorem yzU (e:Es) (_:EG e):LpOk (E e) (yfL ybr yaI yam yaf) yrG:=(yai (by kernel_rfl))
theorem yx9 (e:Es) (he:EG e):∀ F H Q,yfL ybr yaI yam yaf 8206000 F H Q→ycr (E e) yrG F H Q:=by
 intro F H Q h
 have go:=ycr.intro (yaG (ynQ e he) 10) (yzU e he) (yjW ybr yaI yam yaf Q) (by intro F H h;unfold yjW yf2 at h;split at h <;> exact h) (by intro n F H h;unfold yjW yf2 at h;split at h;exact (yuZ ..).mpr h;exact h.elim)
 have h:yf2 F H _:=h
 unfold yf2 at h
 split at h
 ·obtain ⟨n,h⟩:=h;exact go n _ _ h
 ·exact h.elim
theorem yu0 (e:Es) (a0 a1 a2 a3 Q n l0 l1 i2 i3):WC (E e) (ybd (yln e a0 a1 a2 a3) 10) (yfL a0 a1 a2 a3) yrH [(0,.v (.data l0)),(38,.v (.data l1)),(39,.v (.int .i64 i2)),(40,.v (.int .i64 i3))] [] (exQ (yjX a0 a1 a2 a3 Q n) Q)=ycJ a0 a1 a2 a3 (yll Q) (ylm Q) (n+1) l0 l1 i2 i3:=by kernel_rfl
theorem yzV (e:Es) (_:EG e):LpOk (E e) (yfL ybr yaI yam yaf) yrH:=(yai (by kernel_rfl))
theorem yya (e:Es) (he:EG e):∀ F H Q,yfL ybr yaI yam yaf 8206001 F H Q→ycr (E e) yrH F H Q:=by
 intro F H Q h
 have go:=ycr.intro (yaG (ynQ e he) 10) (yzV e he) (yjX ybr yaI yam yaf Q) (by intro F H h;unfold yjX yf3 at h;split at h <;> exact h) (by intro n F H h;unfold yjX yf3 at h;split at h;exact (yu0 ..).mpr h;exact h.elim)
 have h:yf3 F H _:=h
 unfold yf3 at h
 split at h
 ·obtain ⟨n,h⟩:=h;exact go n _ _ h
 ·exact h.elim
theorem yEN (e:Es) (a0 a1 a2 a3 p0 p1 K):WP (yln e a0 a1 a2 a3) 11 yFF [(.data p0),(.agg [(.data p1)])] K=ypZ a0 a1 a2 a3 p0 p1 (fun r0=>K (.int .i64 r0)):=by kernel_rfl
theorem yu1 (e:Es) (he:EG e):OkF (E e) yli yfn:=by
 intro as K h
 unfold yli yp0 at h
 split at h
 ·exact ya6 (ynQ e he) (ybg (l:=[(8206000,yrG),(8206001,yrH)]) ⟨yx9 e he,yya e he,trivial⟩ (by kernel_rfl)) (by kernel_rfl) (by kernel_rfl) (fun _=>yab (by kernel_rfl) _) (he.num _ (by kernel_rfl)) ((yEN ..).mpr h)
 ·exact h.elim
abbrev yaQ:Type:=Ls→Ls→(Ls→Int→Prop)→Prop
def yax (p0 p1:Ls) (K:Ls→Int→Prop):Prop :=
 ∃ r0 r1,K r0 r1∧∀ e:Es,EG e→Ans (E e) ybp [(.data p0),(.agg [(.data p1)])] (.tup [(.data r0),(.int .i64 r1)])
def ygR (w:yaQ) (as:Ls) (K:PV→Prop):Prop :=
 match as with
 | [(.data p0),(.agg [(.data p1)])]=>w p0 p1 (fun r0 r1=>K (.tup [(.data r0),(.int .i64 r1)]))
 | _=>False
def yu2 (as:Ls) (K:PV→Prop):Prop:=ygR yax as K
theorem yiA (e:Es) (he:EG e):OkF (E e) yu2 ybp:=by
 intro as K h
 unfold yu2 ygR at h
 split at h
 ·obtain ⟨r0,r1,hk,ha⟩:=h
  exact ⟨_,hk,ha e he⟩
 ·exact h.elim
abbrev ye9:Type:=Int→Int→Int→Int→Ls→(Bool→Prop)→Prop
def ycF (a0:yaw) (x0:Int→Int→Int→Int→Ls→Int→Int→Bool→Prop) (x1:Int→Int→Int→Int→Int→Prop):Nat→Int→Int→Int→Int→Ls→Int→Int→Prop
 | 0,_,_,_,_,_,_,_=>False
 | n+1,i0,i1,i2,i3,l4,i5,i6 =>
 (cbr (decide (i6<i5))
 (asr (decide ((0:Int)≤i6))
 (asr (decide (i6<(((List.length l4):Nat):Int)))
 (lt (List.getD l4 (i6.toNat) .nils) (fun a =>
 (asr (conf (.agg [.i .i64,.i .i64,.i .i64,.i .i64]) a)
 (jn (fun (b:Bool→Prop) =>
 (a0 i0 i1 (yaa (yag a 2)) (yaa (yag a 3)) (fun c =>
 (cbr c
 (a0 (yaa (yag a 0)) (yaa (yag a 1)) i2 i3 (fun d =>
 (b d)))
 (b false)))))
 (fun e=>(cbr e
 (x1 i0 i1 i2 i3 i6)
 (lt (IntKind.i64.wrap (i6+(1:Int))) (fun f =>
 (ycF a0 x0 x1 n i0 i1 i2 i3 l4 i5 f)))))))))))
 (x0 i0 i1 i2 i3 l4 i5 i6 false))
def ymt (a0:yaw) (p0 p1 p2 p3:Int) (p4:Ls) (K:Bool→Prop):Prop :=
 (jn (fun (a:Int→Int→Int→Int→Int→Prop) =>
 (∃ n:Nat,ycF a0
 (fun b c d e _ _ _ _=>(a b c d e (-1:Int)))
 (fun f g h i j=>(a f g h i j))
 n p0 p1 p2 p3 p4 (((List.length p4):Nat):Int) (0:Int)))
 (fun _ _ _ _ k=>(K (decide (k≥(0:Int))))))
def ycf (p0 p1 p2 p3:Int) (p4:Ls) (K:Bool→Prop):Prop:=ymt yaf p0 p1 p2 p3 p4 K
def yjb (w:ye9) (as:Ls) (K:PV→Prop):Prop :=
 match as with
 | [(.agg [(.int .i64 p0),(.int .i64 p1),(.int .i64 p2),(.int .i64 p3)]),(.eptr [(.data p4)] 0 0)]=>w p0 p1 p2 p3 p4 (fun r0=>K (.bool r0))
 | _=>False
def yrP (as:Ls) (K:PV→Prop):Prop:=yjb ycf as K
def ye0 (F:Frm) (H:Hp) (A0:Int→Int→Int→Int→Ls→Int→Int→Prop):Prop :=
 match F,H with
 | [(0,.v (.data l4)),(1,.v (.fn (.func q0) [] [(.ptr 0 1 0 0)])),(7,.v (.int .i64 i5)),(8,.v (.int .i64 i6))],[⟨false,false,4,[(.agg [(.int .i64 i0),(.int .i64 i1),(.int .i64 i2),(.int .i64 i3)])]⟩]=>asr (Nat.beq q0 ydU) (A0 i0 i1 i2 i3 l4 i5 i6)
 | _,_=>False
def yjz (Q:Qx):Int→Int→Int→Int→Ls→Int→Int→Bool→Prop:=(fun i0 i1 i2 i3 l4 i5 i6 b7=>Q (.exit 0) [(0,.v (.data l4)),(1,.v (.fn (.func ydU) [] [(.ptr 0 1 0 0)])),(7,.v (.int .i64 i5)),(8,.v (.int .i64 i6)),(9,.v (.bool b7))] [⟨false,false,4,([(.agg [(.int .i64 i0),(.int .i64 i1),(.int .i64 i2),(.int .i64 i3)])]:Ls)⟩])
def yjA (Q:Qx):Int→Int→Int→Int→Int→Prop:=(fun i0 i1 i2 i3 i4=>Q .ret [(4,.v (.int .i64 i4))] [⟨false,false,4,([(.agg [(.int .i64 i0),(.int .i64 i1),(.int .i64 i2),(.int .i64 i3)])]:Ls)⟩])
def yic (a0:yaw) (Q:Qx) (n:Nat) (F:Frm) (H:Hp):Prop:=ye0 F H (fun i0 i1 i2 i3 l4 i5 i6=>ycF a0 (yjz Q) (yjA Q) n i0 i1 i2 i3 l4 i5 i6)
def ygS (a0:yaw):LP:=fun id F H Q =>
 bif Nat.beq id 68674300 then ye0 F H (fun i0 i1 i2 i3 l4 i5 i6=>∃ n:Nat,ycF a0 (yjz Q) (yjA Q) n i0 i1 i2 i3 l4 i5 i6) else
 False
def yrQ (e:Es) (a0:yaw):SE:=⟨(E e),yaK [(ybI,yeB a0)],yaL [(ya2,ycn),(ydU,yql)],ygS a0⟩
def yrR (e:Es) (a0:yaw):SE:=⟨(E e),yaK [(ybI,yeB a0)],yaL [(ya2,ycn),(ycK,ygA),(ydU,yql)],ygS a0⟩
theorem yzW (e:Es) (he:EG e):SEOk (yrQ e yaf):=yat ⟨(ygo e he),trivial⟩ ⟨⟨by kernel_rfl,by kernel_rfl,rfl,fun as=>yab (by kernel_rfl) as,he.num _ (by kernel_rfl),(yai (by kernel_rfl))⟩,⟨by kernel_rfl,by kernel_rfl,rfl,fun as=>yab (by kernel_rfl) as,he.num _ (by kernel_rfl),(yai (by kernel_rfl))⟩,trivial⟩ he.ok
theorem ysP (e:Es) (a0 Q n i0 i1 i2 i3 l4 i5 i6):WC (E e) (ybd (yrQ e a0) 10) (ygS a0) yg8 [(0,.v (.data l4)),(1,.v (.fn (.func ydU) [] [(.ptr 0 1 0 0)])),(7,.v (.int .i64 i5)),(8,.v (.int .i64 i6))] [⟨false,false,4,([(.agg [(.int .i64 i0),(.int .i64 i1),(.int .i64 i2),(.int .i64 i3)])]:Ls)⟩] (exQ (yic a0 Q n) Q)=ycF a0 (yjz Q) (yjA Q) (n+1) i0 i1 i2 i3 l4 i5 i6:=by kernel_rfl
theorem ywb (e:Es) (_:EG e):LpOk (E e) (ygS yaf) yg8:=(yai (by kernel_rfl))
theorem yu3 (e:Es) (he:EG e):∀ F H Q,ygS yaf 68674300 F H Q→ycr (E e) yg8 F H Q:=by
 intro F H Q h
 have go:=ycr.intro (yaG (yzW e he) 10) (ywb e he) (yic yaf Q) (by
  intro F H h
  unfold yic ye0 at h
  split at h
  ·obtain ⟨hg,k⟩:=yah.1 h
   clear h
   have h:=k
   clear k
   try simp only [qAc,decide_eq_true_eq] at hg
   have g0:=hg;have g0:=qAg g0;subst g0;exact h
  ·exact h) (by
  intro n F H h
  unfold yic ye0 at h
  split at h
  ·obtain ⟨hg,k⟩:=yah.1 h
   clear h
   have h:=k
   clear k
   try simp only [qAc,decide_eq_true_eq] at hg
   have g0:=hg;have g0:=qAg g0;subst g0;exact (ysP ..).mpr h
  ·exact h.elim)
 have h:ye0 F H _:=h
 unfold ye0 at h
 split at h
 ·obtain ⟨hg,n,h⟩:=yah.1 h;exact go n _ _ (yah.2 ⟨hg,h⟩)
 ·exact h.elim
theorem yzX (e:Es) (he:EG e):SEOk (yrR e yaf):=yat ⟨(ygo e he),trivial⟩ ⟨⟨by kernel_rfl,by kernel_rfl,rfl,fun as=>yab (by kernel_rfl) as,he.num _ (by kernel_rfl),(yai (by kernel_rfl))⟩,⟨by kernel_rfl,by kernel_rfl,rfl,fun as=>yab (by kernel_rfl) as,he.num _ (by kernel_rfl),(ybg (l:=[(68674300,yg8)]) ⟨yu3 e he,trivial⟩ (by kernel_rfl))⟩,⟨by kernel_rfl,by kernel_rfl,rfl,fun as=>yab (by kernel_rfl) as,he.num _ (by kernel_rfl),(yai (by kernel_rfl))⟩,trivial⟩ he.ok
theorem yBm (e:Es) (a0 p0 p1 p2 p3 p4 K):WP (yrR e a0) 11 yCn [(.agg [(.int .i64 p0),(.int .i64 p1),(.int .i64 p2),(.int .i64 p3)]),(.eptr [(.data p4)] 0 0)] K=ymt a0 p0 p1 p2 p3 p4 (fun r0=>K (.bool r0)):=by kernel_rfl
theorem ymu (e:Es) (he:EG e):OkF (E e) yrP ycV:=by
 intro as K h
 unfold yrP yjb at h
 split at h
 ·exact ya6 (yzX e he) (yai (by kernel_rfl)) (by kernel_rfl) (by kernel_rfl) (fun _=>yab (by kernel_rfl) _) (he.num _ (by kernel_rfl)) ((yBm ..).mpr h)
 ·exact h.elim
abbrev ybB:Type:=Ls→Ls→(Bool→Prop)→Prop
def ydi (a0:ye9) (x0:Ls→Ls→Int→Int→Bool→Prop) (x1:Ls→Int→Prop):Nat→Ls→Ls→Int→Int→Prop
 | 0,_,_,_,_=>False
 | n+1,l0,l1,i2,i3 =>
 (cbr (decide (i3<i2))
 (asr (decide ((0:Int)≤i3))
 (asr (decide (i3<(((List.length l1):Nat):Int)))
 (lt (List.getD l1 (i3.toNat) .nils) (fun a =>
 (asr (conf (.agg [.i .i64,.i .i64,.i .i64,.i .i64]) a)
 (a0 (yaa (yag a 0)) (yaa (yag a 1)) (yaa (yag a 2)) (yaa (yag a 3)) l0 (fun b =>
 (cbr b
 (x1 l0 i3)
 (lt (IntKind.i64.wrap (i3+(1:Int))) (fun c =>
 (ydi a0 x0 x1 n l0 l1 i2 c)))))))))))
 (x0 l0 l1 i2 i3 false))
def yp1 (a0:ye9) (p0 p1:Ls) (K:Bool→Prop):Prop :=
 (jn (fun (a:Ls→Int→Prop) =>
 (∃ n:Nat,ydi a0
 (fun b _ _ _ _=>(a b (-1:Int)))
 (fun c d=>(a c d))
 n p1 p0 (((List.length p0):Nat):Int) (0:Int)))
 (fun _ e=>(K (decide (e≥(0:Int))))))
def yak (p0 p1:Ls) (K:Bool→Prop):Prop:=yp1 ycf p0 p1 K
def ylo (w:ybB) (as:Ls) (K:PV→Prop):Prop :=
 match as with
 | [(.data p0),(.data p1)]=>w p0 p1 (fun r0=>K (.bool r0))
 | _=>False
def yu4 (as:Ls) (K:PV→Prop):Prop:=ylo yak as K
def yf4 (F:Frm) (H:Hp) (A0:Ls→Ls→Int→Int→Prop):Prop :=
 match F,H with
 | [(0,.v (.data l1)),(1,.v (.fn (.func q0) [] [(.ptr 0 1 0 0)])),(7,.v (.int .i64 i2)),(8,.v (.int .i64 i3))],[⟨false,false,1,[(.data l0)]⟩]=>asr (Nat.beq q0 ycV) (A0 l0 l1 i2 i3)
 | _,_=>False
def ylp (Q:Qx):Ls→Ls→Int→Int→Bool→Prop:=(fun l0 l1 i2 i3 b4=>Q (.exit 0) [(0,.v (.data l1)),(1,.v (.fn (.func ycV) [] [(.ptr 0 1 0 0)])),(7,.v (.int .i64 i2)),(8,.v (.int .i64 i3)),(9,.v (.bool b4))] [⟨false,false,1,([(.data l0)]:Ls)⟩])
def ylq (Q:Qx):Ls→Int→Prop:=(fun l0 i1=>Q .ret [(4,.v (.int .i64 i1))] [⟨false,false,1,([(.data l0)]:Ls)⟩])
def yjY (a0:ye9) (Q:Qx) (n:Nat) (F:Frm) (H:Hp):Prop:=yf4 F H (fun l0 l1 i2 i3=>ydi a0 (ylp Q) (ylq Q) n l0 l1 i2 i3)
def yiB (a0:ye9):LP:=fun id F H Q =>
 bif Nat.beq id 68674300 then yf4 F H (fun l0 l1 i2 i3=>∃ n:Nat,ydi a0 (ylp Q) (ylq Q) n l0 l1 i2 i3) else
 False
def yu5 (e:Es) (a0:ye9):SE:=⟨(E e),yaK [(ycV,yjb a0)],yaL [(ya2,ycn)],yiB a0⟩
def yu6 (e:Es) (a0:ye9):SE:=⟨(E e),yaK [(ycV,yjb a0)],yaL [(ya2,ycn),(ycK,ygA)],yiB a0⟩
theorem yCR (e:Es) (he:EG e):SEOk (yu5 e ycf):=yat ⟨(ymu e he),trivial⟩ ⟨⟨by kernel_rfl,by kernel_rfl,rfl,fun as=>yab (by kernel_rfl) as,he.num _ (by kernel_rfl),(yai (by kernel_rfl))⟩,trivial⟩ he.ok
theorem yu7 (e:Es) (a0 Q n l0 l1 i2 i3):WC (E e) (ybd (yu5 e a0) 10) (yiB a0) yg8 [(0,.v (.data l1)),(1,.v (.fn (.func ycV) [] [(.ptr 0 1 0 0)])),(7,.v (.int .i64 i2)),(8,.v (.int .i64 i3))] [⟨false,false,1,([(.data l0)]:Ls)⟩] (exQ (yjY a0 Q n) Q)=ydi a0 (ylp Q) (ylq Q) (n+1) l0 l1 i2 i3:=by kernel_rfl
theorem yzY (e:Es) (_:EG e):LpOk (E e) (yiB ycf) yg8:=(yai (by kernel_rfl))
theorem yyb (e:Es) (he:EG e):∀ F H Q,yiB ycf 68674300 F H Q→ycr (E e) yg8 F H Q:=by
 intro F H Q h
 have go:=ycr.intro (yaG (yCR e he) 10) (yzY e he) (yjY ycf Q) (by
  intro F H h
  unfold yjY yf4 at h
  split at h
  ·obtain ⟨hg,k⟩:=yah.1 h
   clear h
   have h:=k
   clear k
   try simp only [qAc,decide_eq_true_eq] at hg
   have g0:=hg;have g0:=qAg g0;subst g0;exact h
  ·exact h) (by
  intro n F H h
  unfold yjY yf4 at h
  split at h
  ·obtain ⟨hg,k⟩:=yah.1 h
   clear h
   have h:=k
   clear k
   try simp only [qAc,decide_eq_true_eq] at hg
   have g0:=hg;have g0:=qAg g0;subst g0;exact (yu7 ..).mpr h
  ·exact h.elim)
 have h:yf4 F H _:=h
 unfold yf4 at h
 split at h
 ·obtain ⟨hg,n,h⟩:=yah.1 h;exact go n _ _ (yah.2 ⟨hg,h⟩)
 ·exact h.elim
theorem yCS (e:Es) (he:EG e):SEOk (yu6 e ycf):=yat ⟨(ymu e he),trivial⟩ ⟨⟨by kernel_rfl,by kernel_rfl,rfl,fun as=>yab (by kernel_rfl) as,he.num _ (by kernel_rfl),(yai (by kernel_rfl))⟩,⟨by kernel_rfl,by kernel_rfl,rfl,fun as=>yab (by kernel_rfl) as,he.num _ (by kernel_rfl),(ybg (l:=[(68674300,yg8)]) ⟨yyb e he,trivial⟩ (by kernel_rfl))⟩,trivial⟩ he.ok
theorem yEO (e:Es) (a0 p0 p1 K):WP (yu6 e a0) 11 yFH [(.data p0),(.data p1)] K=yp1 a0 p0 p1 (fun r0=>K (.bool r0)):=by kernel_rfl
theorem yp2 (e:Es) (he:EG e):OkF (E e) yu4 yhA:=by
 intro as K h
 unfold yu4 ylo at h
 split at h
 ·exact ya6 (yCS e he) (yai (by kernel_rfl)) (by kernel_rfl) (by kernel_rfl) (fun _=>yab (by kernel_rfl) _) (he.num _ (by kernel_rfl)) ((yEO ..).mpr h)
 ·exact h.elim
abbrev ywc:Type:=Int→Int→Int→Int→Int→Int→Int→Int→(Int→Prop)→Prop
def yiC (a0:ybO) (p0 p1 _ _ p4 p5 _ _:Int) (K:Int→Prop):Prop :=
 (a0 p0 p1 p4 p5 (fun a _ =>
 (K a)))
def yjB (p0 p1 p2 p3 p4 p5 p6 p7:Int) (K:Int→Prop):Prop:=yiC ybW p0 p1 p2 p3 p4 p5 p6 p7 K
def ynk (w:ywc) (as:Ls) (K:PV→Prop):Prop :=
 match as with
 | [(.agg [(.int .i64 p0),(.int .i64 p1),(.int .i64 p2),(.int .i64 p3)]),(.agg [(.int .i64 p4),(.int .i64 p5),(.int .i64 p6),(.int .i64 p7)])]=>w p0 p1 p2 p3 p4 p5 p6 p7 (fun r0=>K (.int .i64 r0))
 | _=>False
def ynl (as:Ls) (K:PV→Prop):Prop:=ynk yjB as K
def yu8 (_:ybO):LP:=fun _ _ _ _ =>
 False
def ynm (e:Es) (a0:ybO):SE:=⟨(E e),yaK [(ycM,ygd a0)],yaL [],yu8 a0⟩
theorem ytx (e:Es) (he:EG e):SEOk (ynm e ybW):=yat ⟨(yhf e he),trivial⟩ trivial he.ok
theorem yu9 (e:Es) (a0 p0 p1 p2 p3 p4 p5 p6 p7 K):WP (ynm e a0) 11 yvO [(.agg [(.int .i64 p0),(.int .i64 p1),(.int .i64 p2),(.int .i64 p3)]),(.agg [(.int .i64 p4),(.int .i64 p5),(.int .i64 p6),(.int .i64 p7)])] K=yiC a0 p0 p1 p2 p3 p4 p5 p6 p7 (fun r0=>K (.int .i64 r0)):=by kernel_rfl
theorem yva (e:Es) (he:EG e):OkF (E e) ynl ydc:=by
 intro as K h
 unfold ynl ynk at h
 split at h
 ·exact ya6 (ytx e he) (yai (by kernel_rfl)) (by kernel_rfl) (by kernel_rfl) (fun _=>yab (by kernel_rfl) _) (he.num _ (by kernel_rfl)) ((yu9 ..).mpr h)
 ·exact h.elim
abbrev yaP:Type:=Ls→Ls→Ls→Ls→(Bool→Prop)→Prop
def ybY (a0:yaq) (a1:yaw) (a:Ls→Int→Ls→Int→Int→Bool→Prop):Nat→Ls→Int→Ls→Int→Int→Prop
 | 0,_,_,_,_,_=>False
 | e+1,l0,i1,l2,i3,i4 =>
 (cbr (decide (i4<i3))
 (asr (decide ((0:Int)≤i4))
 (asr (decide (i4<(((List.length l2):Nat):Int)))
 (lt (List.getD l2 (i4.toNat) .nils) (fun b =>
 (asr (conf (.one (.d)) b)
 (lt (IntKind.i64.wrap (i1+(((List.length (yaA b)):Nat):Int))) (fun c =>
 (cbr (decide (c<(0:Int)))
 False
 (lt (IntKind.i64.wrap (i4+(1:Int))) (fun f =>
 (ybY a0 a1 a e l0 c l2 i3 f)))))))))))
 (a l0 i1 l2 i3 i4 false))
def ybb (a0:yaq) (a1:yaw) (b:Ls→Nat→Ls→Int→Int→Bool→Prop):Nat→Ls→Nat→Ls→Int→Int→Prop
 | 0,_,_,_,_,_=>False
 | c+1,l0,n1,l3,i4,i5 =>
 (cbr (decide (i5<i4))
 (asr (decide ((0:Int)≤i5))
 (asr (decide (i5<(((List.length l3):Nat):Int)))
 (lt (List.getD l3 (i5.toNat) .nils) (fun a =>
 (asr (conf (.one (.d)) a)
 (asr (yeC 4 (yaA a))
 (asr (decide ((List.length l0)=(List.length l0)))
 (asr (decide ((0+n1)≤(List.length l0)))
 (cbr (List.isEmpty (yaA a))
 (lt (IntKind.i64.wrap (i5+(1:Int))) (fun e =>
 (asr (decide ((List.length l0)=List.length l0))
 (ybb a0 a1 b c l0 n1 l3 i4 e))))
 (asr (decide (((0+n1)+(List.length (yaA a)))≤(List.length l0)))
 (lt (IntKind.i64.wrap (i5+(1:Int))) (fun f =>
 (asr (decide ((List.length l0)=List.length ((List.take (0+n1) l0)++((yaA a)++(List.drop ((0+n1)+(List.length (yaA a))) l0)))))
 (ybb a0 a1 b c ((List.take (0+n1) l0)++((yaA a)++(List.drop ((0+n1)+(List.length (yaA a))) l0))) (n1+(List.length (yaA a))) l3 i4 f))))))))))))))
 (b l0 n1 l3 i4 i5 false))
def ybZ (a0:yaq) (a1:yaw) (b:Ls→Int→Int→Bool→Prop) (c:Ls→Nat→Ls→Int→Int→Bool→Prop):Nat→Ls→Int→Int→Prop
 | 0,_,_,_=>False
 | e+1,l0,i1,i2 =>
 (cbr (decide (i2<i1))
 (asr (decide ((0:Int)≤i2))
 (asr (decide (i2<(((List.length l0):Nat):Int)))
 (lt (List.getD l0 (i2.toNat) .nils) (fun a =>
 (asr (conf (.one (.d)) a)
 (asr (yeC 4 (yaA a))
 (cbr (List.isEmpty (yaA a))
 (lt (IntKind.i64.wrap (i2+(1:Int))) (fun f =>
 (ybZ a0 a1 b c e l0 i1 f)))
 (asr (decide (((List.length (yaA a))+64)*(32+1)≤room))
 (lt (IntKind.i64.wrap (i2+(1:Int))) (fun g =>
 (asr (decide ((List.length (yaA a))=List.length (yaA a)))
 (ybb a0 a1 c e (yaA a) (List.length (yaA a)) l0 i1 g))))))))))))
 (b l0 i1 i2 false))
def yca (a0:yaq) (a1:yaw) (b:Ls→Ls→Ls→Ls→Ls→Int→Int→Nat→Int→Int→Bool→Prop) (c:Ls→Bool→Prop):Nat→Ls→Ls→Ls→Ls→Ls→Int→Int→Nat→Int→Int→Prop
 | 0,_,_,_,_,_,_,_,_,_,_=>False
 | e+1,l0,l1,l2,l3,l4,i5,i6,n7,i9,i10 =>
 (cbr (decide (i10<i9))
 (jn (fun (d:Int→Int→Prop) =>
 (asr (decide ((0:Int)≤i10))
 (asr (decide (i10<((n7:Nat):Int)))
 (asr (decide ((List.length l0)=(List.length l0)))
 (asr (decide ((0+(i10.toNat))<(List.length l0)))
 (lt (List.getD l0 (0+(i10.toNat)) .nils) (fun a =>
 (asr (conf (.agg [.i .i64,.i .i64,.i .i64,.i .i64]) a)
 (a1 i5 i6 (yaa (yag a 0)) (yaa (yag a 1)) (fun f =>
 (cbr f
 (c l0 true)
 (a1 i5 i6 (yaa (yag a 2)) (yaa (yag a 3)) (fun g =>
 (cbr g
 (d (yaa (yag a 2)) (yaa (yag a 3)))
 (d i5 i6)))))))))))))))
 (fun h j=>(lt (IntKind.i64.wrap (i10+(1:Int))) (fun k =>
 (asr (decide ((List.length l0)=List.length l0))
 (yca a0 a1 b c e l0 l1 l2 l3 l4 h j n7 i9 k))))))
 (b l0 l1 l2 l3 l4 i5 i6 n7 i9 i10 false))
def yee (_:yaq) (_:yaw) (a:Ls→Ls→Ls→Ls→Int→Int→Int→Int→Bool→Prop):Nat→Ls→Ls→Ls→Ls→Int→Int→Int→Int→Prop
 | 0,_,_,_,_,_,_,_,_=>False
 | _+1,l0,l1,l2,l3,i4,i5,i6,i7 =>
 (cbr (decide (i7<i6))
 False
 (a l0 l1 l2 l3 i4 i5 i6 i7 false))
def yka (a0:yaq) (a1:yaw) (p0 p1 p2 p3:Ls) (K:Bool→Prop):Prop :=
 (jn (fun (h:Ls→Nat→Prop) =>
 (∃ p:Nat,ybY a0 a1
 (fun e j _ _ _ _=>(cbr (decide (j<(0:Int)))
 False
 (jn (fun k =>
 (lt (IntKind.i64.wrap (j-(0:Int))) (fun a =>
 (cbr (decide (a>(0:Int)))
 (asr (decide ((0:Int)≤a))
 (cbr (decide ((a.toNat)=0))
 k
 (asr (decide (((List.length (List.replicate (a.toNat) ((.agg [(.int .i64 (0)),(.int .i64 (0)),(.int .i64 (0)),(.int .i64 (0))]):PV)))+64)*(32+1)≤room))
 (asr ((decide ((0:Int)≤(((List.length (List.replicate (a.toNat) ((.agg [(.int .i64 (0)),(.int .i64 (0)),(.int .i64 (0)),(.int .i64 (0))]):PV))):Nat):Int)))||(decide ((0:Int)≤(((List.length (List.replicate (a.toNat) ((.agg [(.int .i64 (0)),(.int .i64 (0)),(.int .i64 (0)),(.int .i64 (0))]):PV))):Nat):Int))))
 (asr (decide ((List.length (List.replicate (a.toNat) ((.agg [(.int .i64 (0)),(.int .i64 (0)),(.int .i64 (0)),(.int .i64 (0))]):PV)))=List.length (List.replicate (a.toNat) ((.agg [(.int .i64 (0)),(.int .i64 (0)),(.int .i64 (0)),(.int .i64 (0))]):PV))))
 (∃ f:Nat,ybb a0 a1
 (fun q r _ _ _ _=>(h q r))
 f (List.replicate (a.toNat) ((.agg [(.int .i64 (0)),(.int .i64 (0)),(.int .i64 (0)),(.int .i64 (0))]):PV)) 0 e (((List.length e):Nat):Int) (0:Int)))))))
 k))))
 (∃ f:Nat,ybZ a0 a1
 (fun _ _ _ _=>(a0 (0:Int) (fun t u =>
 (∃ g:Nat,yee a0 a1
 (fun l _ _ _ v w _ _ _=>(asr (decide ((0:Int)<(((List.length l):Nat):Int)))
 (lt (List.getD l 0 .nils) (fun m =>
 (asr (conf (.agg [.i .i64,.d,.d]) m)
 (a0 (yaa (yag m 0)) (fun x y =>
 (a1 v w x y (fun z =>
 (K z))))))))))
 g p0 p1 p2 p3 t u (0:Int) (0:Int)))))
 (fun A B _ _ _ _=>(h A B))
 f e (((List.length e):Nat):Int) (0:Int)))))
 p p1 (0:Int) p1 (((List.length p1):Nat):Int) (0:Int)))
 (fun b c=>(asr (Srt.cond ytr.s b 0 c (List.length b) 4 false)
 (a0 (0:Int) (fun C D =>
 (asr (decide ((List.length b)=List.length (List.take 0 b++(Srt.sorted ytr.s ytr.srt (List.take c (List.drop 0 b))++List.drop (0+c) b))))
 (∃ g:Nat,yca a0 a1
 (fun _ n _ _ _ E F _ _ _ _=>(asr (decide ((0:Int)<(((List.length n):Nat):Int)))
 (lt (List.getD n 0 .nils) (fun o =>
 (asr (conf (.agg [.i .i64,.d,.d]) o)
 (a0 (yaa (yag o 0)) (fun G H =>
 (a1 E F G H (fun I =>
 (K I))))))))))
 (fun _ J=>(K J))
 g (List.take 0 b++(Srt.sorted ytr.s ytr.srt (List.take c (List.drop 0 b))++List.drop (0+c) b)) p0 p1 p2 p3 C D c ((c:Nat):Int) (0:Int))))))))
def yad (p0 p1 p2 p3:Ls) (K:Bool→Prop):Prop:=yka yam yaf p0 p1 p2 p3 K
def yhp (w:yaP) (as:Ls) (K:PV→Prop):Prop :=
 match as with
 | [(.eptr [(.agg [(.data p0),(.data p1),(.data p2),(.data p3)])] 0 0)]=>w p0 p1 p2 p3 (fun r0=>K (.bool r0))
 | _=>False
def yp3 (as:Ls) (K:PV→Prop):Prop:=yhp yad as K
def yd1 (F:Frm) (H:Hp) (A0:Ls→Int→Ls→Int→Int→Prop):Prop :=
 match F,H with
 | [(0,.v (.data l0)),(3,.v (.int .i64 i1)),(9,.v (.data l2)),(10,.v (.int .i64 i3)),(11,.v (.int .i64 i4))],[]=>(A0 l0 i1 l2 i3 i4)
 | _,_=>False
def yd2 (F:Frm) (H:Hp) (A0:Ls→Int→Int→Prop) (A1:Ls→Nat→Ls→Int→Int→Prop):Prop :=
 match F,H with
 | [(6,.v .nils),(25,.v (.data l0)),(26,.v (.int .i64 i1)),(27,.v (.int .i64 i2))],[]=>(A0 l0 i1 i2)
 | [(6,.v (.own 0 0 n1 t2 none)),(25,.v (.data l3)),(26,.v (.int .i64 i4)),(27,.v (.int .i64 i5))],[⟨false,true,4,l0⟩]=>asr (decide (t2=List.length l0)) (A1 l0 n1 l3 i4 i5)
 | _,_=>False
def yd3 (F:Frm) (H:Hp) (A0:Ls→Ls→Ls→Ls→Ls→Int→Int→Nat→Int→Int→Prop) (A1:Ls→Ls→Ls→Ls→Int→Int→Int→Int→Prop):Prop :=
 match F,H with
 | [(0,.v (.eptr [(.agg [(.data l1),(.data l2),(.data l3),(.data l4)])] 0 0)),(4,.box (.agg [(.int .i64 i5),(.int .i64 i6)])),(15,.v (.own 0 0 n7 t8 none)),(16,.v (.int .i64 i9)),(17,.v (.int .i64 i10))],[⟨false,true,4,l0⟩]=>asr (decide (t8=List.length l0)) (A0 l0 l1 l2 l3 l4 i5 i6 n7 i9 i10)
 | [(0,.v (.eptr [(.agg [(.data l0),(.data l1),(.data l2),(.data l3)])] 0 0)),(4,.box (.agg [(.int .i64 i4),(.int .i64 i5)])),(15,.v .nils),(16,.v (.int .i64 i6)),(17,.v (.int .i64 i7))],[]=>(A1 l0 l1 l2 l3 i4 i5 i6 i7)
 | _,_=>False
def yhX (Q:Qx):Ls→Int→Ls→Int→Int→Bool→Prop:=(fun l0 i1 l2 i3 i4 b5=>Q (.exit 0) [(0,.v (.data l0)),(3,.v (.int .i64 i1)),(9,.v (.data l2)),(10,.v (.int .i64 i3)),(11,.v (.int .i64 i4)),(12,.v (.bool b5))] [])
def yhY (Q:Qx):Ls→Int→Int→Bool→Prop:=(fun l0 i1 i2 b3=>Q (.exit 2) [(6,.v .nils),(25,.v (.data l0)),(26,.v (.int .i64 i1)),(27,.v (.int .i64 i2)),(28,.v (.bool b3))] [])
def ydj (Q:Qx):Ls→Nat→Ls→Int→Int→Bool→Prop:=(fun l0 n1 l3 i4 i5 b6=>Q (.exit 2) [(6,.v (.own 0 0 n1 (List.length l0) none)),(25,.v (.data l3)),(26,.v (.int .i64 i4)),(27,.v (.int .i64 i5)),(28,.v (.bool b6))] [⟨false,true,4,l0⟩])
def yhZ (Q:Qx):Ls→Ls→Ls→Ls→Ls→Int→Int→Nat→Int→Int→Bool→Prop:=(fun l0 l1 l2 l3 l4 i5 i6 n7 i9 i10 b11=>Q (.exit 0) [(0,.v (.eptr [(.agg [(.data l1),(.data l2),(.data l3),(.data l4)])] 0 0)),(4,.box (.agg [(.int .i64 i5),(.int .i64 i6)])),(15,.v (.own 0 0 n7 (List.length l0) none)),(16,.v (.int .i64 i9)),(17,.v (.int .i64 i10)),(18,.v (.bool b11))] [⟨false,true,4,l0⟩])
def yh0 (Q:Qx):Ls→Bool→Prop:=(fun l0 b1=>Q .ret [(2,.v (.bool b1))] [⟨false,true,4,l0⟩])
def yh1 (Q:Qx):Ls→Ls→Ls→Ls→Int→Int→Int→Int→Bool→Prop:=(fun l0 l1 l2 l3 i4 i5 i6 i7 b8=>Q (.exit 0) [(0,.v (.eptr [(.agg [(.data l0),(.data l1),(.data l2),(.data l3)])] 0 0)),(4,.box (.agg [(.int .i64 i4),(.int .i64 i5)])),(15,.v .nils),(16,.v (.int .i64 i6)),(17,.v (.int .i64 i7)),(18,.v (.bool b8))] [])
def ygF (a0:yaq) (a1:yaw) (Q:Qx) (n:Nat) (F:Frm) (H:Hp):Prop:=yd1 F H (fun l0 i1 l2 i3 i4=>ybY a0 a1 (yhX Q) n l0 i1 l2 i3 i4)
def yff (a0:yaq) (a1:yaw) (Q:Qx) (n:Nat) (F:Frm) (H:Hp):Prop:=yd2 F H (fun l0 i1 i2=>ybZ a0 a1 (yhY Q) (ydj Q) n l0 i1 i2) (fun l0 n1 l3 i4 i5=>ybb a0 a1 (ydj Q) n l0 n1 l3 i4 i5)
def yfg (a0:yaq) (a1:yaw) (Q:Qx) (n:Nat) (F:Frm) (H:Hp):Prop:=yd3 F H (fun l0 l1 l2 l3 l4 i5 i6 n7 i9 i10=>yca a0 a1 (yhZ Q) (yh0 Q) n l0 l1 l2 l3 l4 i5 i6 n7 i9 i10) (fun l0 l1 l2 l3 i4 i5 i6 i7=>yee a0 a1 (yh1 Q) n l0 l1 l2 l3 i4 i5 i6 i7)
def ybf (a0:yaq) (a1:yaw):LP:=fun id F H Q =>
 bif Nat.beq id 14451100 then yd1 F H (fun l0 i1 l2 i3 i4=>∃ n:Nat,ybY a0 a1 (yhX Q) n l0 i1 l2 i3 i4) else
 bif Nat.beq id 14451101 then yd2 F H (fun l0 i1 i2=>∃ n:Nat,ybZ a0 a1 (yhY Q) (ydj Q) n l0 i1 i2) (fun l0 n1 l3 i4 i5=>∃ n:Nat,ybb a0 a1 (ydj Q) n l0 n1 l3 i4 i5) else
 bif Nat.beq id 93107500 then yd3 F H (fun l0 l1 l2 l3 l4 i5 i6 n7 i9 i10=>∃ n:Nat,yca a0 a1 (yhZ Q) (yh0 Q) n l0 l1 l2 l3 l4 i5 i6 n7 i9 i10) (fun l0 l1 l2 l3 i4 i5 i6 i7=>∃ n:Nat,yee a0 a1 (yh1 Q) n l0 l1 l2 l3 i4 i5 i6 i7) else
 False
def yeq (a0:yaq) (a1:yaw):SE:=⟨(E ef0),yaK [(ych,ydY a0),(ybI,yeB a1)],yaL [(ydV,yil)],ybf a0 a1⟩
def yp4 (a0:yaq) (a1:yaw):SE:=⟨(E ef0),yaK [(ych,ydY a0),(ybI,yeB a1)],yaL [(ye4,ynx),(ydV,yil)],ybf a0 a1⟩
theorem yjC:SEOk (yeq yam yaf):=yat ⟨(yfK ef0 yev),(ygo ef0 yev),trivial⟩ ⟨⟨by kernel_rfl,by kernel_rfl,rfl,fun as=>yab (by kernel_rfl) as,yev.num _ (by kernel_rfl),(yai (by kernel_rfl))⟩,trivial⟩ yev.ok
theorem yre (a0 a1 Q n l0 i1 l2 i3 i4):WC (E ef0) (ybd (yeq a0 a1) 10) (ybf a0 a1) ypq [(0,.v (.data l0)),(3,.v (.int .i64 i1)),(9,.v (.data l2)),(10,.v (.int .i64 i3)),(11,.v (.int .i64 i4))] [] (exQ (ygF a0 a1 Q n) Q)=ybY a0 a1 (yhX Q) (n+1) l0 i1 l2 i3 i4:=by kernel_rfl
theorem yty:LpOk (E ef0) (ybf yam yaf) ypq:=(yai (by kernel_rfl))
theorem ysQ:∀ F H Q,ybf yam yaf 14451100 F H Q→ycr (E ef0) ypq F H Q:=by
 intro F H Q h
 have go:=ycr.intro (yaG (yjC) 10) (yty) (ygF yam yaf Q) (by intro F H h;unfold ygF yd1 at h;split at h <;> exact h) (by intro n F H h;unfold ygF yd1 at h;split at h;exact (yre ..).mpr h;exact h.elim)
 have h:yd1 F H _:=h
 unfold yd1 at h
 split at h
 ·obtain ⟨n,h⟩:=h;exact go n _ _ h
 ·exact h.elim
theorem yrf (a0 a1 Q n l0 i1 i2):WC (E ef0) (ybd (yeq a0 a1) 10) (ybf a0 a1) ylV [(6,.v .nils),(25,.v (.data l0)),(26,.v (.int .i64 i1)),(27,.v (.int .i64 i2))] [] (exQ (yff a0 a1 Q n) Q)=ybZ a0 a1 (yhY Q) (ydj Q) (n+1) l0 i1 i2:=by kernel_rfl
theorem yrg (a0 a1 Q n l0 n1 l3 i4 i5):WC (E ef0) (ybd (yeq a0 a1) 10) (ybf a0 a1) ylV [(6,.v (.own 0 0 n1 (List.length l0) none)),(25,.v (.data l3)),(26,.v (.int .i64 i4)),(27,.v (.int .i64 i5))] [⟨false,true,4,l0⟩] (exQ (yff a0 a1 Q n) Q)=ybb a0 a1 (ydj Q) (n+1) l0 n1 l3 i4 i5:=by kernel_rfl
theorem ytz:LpOk (E ef0) (ybf yam yaf) ylV:=(yai (by kernel_rfl))
theorem ysR:∀ F H Q,ybf yam yaf 14451101 F H Q→ycr (E ef0) ylV F H Q:=by
 intro F H Q h
 have go:=ycr.intro (yaG (yjC) 10) (ytz) (yff yam yaf Q) (by
  intro F H h
  unfold yff yd2 at h
  split at h
  ·exact h
  ·obtain ⟨hg,k⟩:=yah.1 h
   clear h
   have h:=k
   clear k
   try simp only [decide_eq_true_eq] at hg
   have g0:=hg;subst g0;exact h
  ·exact h) (by
  intro n F H h
  unfold yff yd2 at h
  split at h
  ·exact (yrf ..).mpr h
  ·obtain ⟨hg,k⟩:=yah.1 h
   clear h
   have h:=k
   clear k
   try simp only [decide_eq_true_eq] at hg
   have g0:=hg;subst g0;exact (yrg ..).mpr h
  ·exact h.elim)
 have h:yd2 F H _ _:=h
 unfold yd2 at h
 split at h
 ·obtain ⟨n,h⟩:=h;exact go n _ _ h
 ·obtain ⟨hg,n,h⟩:=yah.1 h;exact go n _ _ (yah.2 ⟨hg,h⟩)
 ·exact h.elim
theorem yrh (a0 a1 Q n l0 l1 l2 l3 l4 i5 i6 n7 i9 i10):WC (E ef0) (ybd (yeq a0 a1) 10) (ybf a0 a1) ylW [(0,.v (.eptr [(.agg [(.data l1),(.data l2),(.data l3),(.data l4)])] 0 0)),(4,.box (.agg [(.int .i64 i5),(.int .i64 i6)])),(15,.v (.own 0 0 n7 (List.length l0) none)),(16,.v (.int .i64 i9)),(17,.v (.int .i64 i10))] [⟨false,true,4,l0⟩] (exQ (yfg a0 a1 Q n) Q)=yca a0 a1 (yhZ Q) (yh0 Q) (n+1) l0 l1 l2 l3 l4 i5 i6 n7 i9 i10:=by kernel_rfl
theorem yri (a0 a1 Q n l0 l1 l2 l3 i4 i5 i6 i7):WC (E ef0) (ybd (yeq a0 a1) 10) (ybf a0 a1) ylW [(0,.v (.eptr [(.agg [(.data l0),(.data l1),(.data l2),(.data l3)])] 0 0)),(4,.box (.agg [(.int .i64 i4),(.int .i64 i5)])),(15,.v .nils),(16,.v (.int .i64 i6)),(17,.v (.int .i64 i7))] [] (exQ (yfg a0 a1 Q n) Q)=yee a0 a1 (yh1 Q) (n+1) l0 l1 l2 l3 i4 i5 i6 i7:=by kernel_rfl
theorem ytA:LpOk (E ef0) (ybf yam yaf) ylW:=(yai (by kernel_rfl))
theorem ysS:∀ F H Q,ybf yam yaf 93107500 F H Q→ycr (E ef0) ylW F H Q:=by
 intro F H Q h
 have go:=ycr.intro (yaG (yjC) 10) (ytA) (yfg yam yaf Q) (by
  intro F H h
  unfold yfg yd3 at h
  split at h
  ·obtain ⟨hg,k⟩:=yah.1 h
   clear h
   have h:=k
   clear k
   try simp only [decide_eq_true_eq] at hg
   have g0:=hg;subst g0;exact h
  ·exact h
  ·exact h) (by
  intro n F H h
  unfold yfg yd3 at h
  split at h
  ·obtain ⟨hg,k⟩:=yah.1 h
   clear h
   have h:=k
   clear k
   try simp only [decide_eq_true_eq] at hg
   have g0:=hg;subst g0;exact (yrh ..).mpr h
  ·exact (yri ..).mpr h
  ·exact h.elim)
 have h:yd3 F H _ _:=h
 unfold yd3 at h
 split at h
 ·obtain ⟨hg,n,h⟩:=yah.1 h;exact go n _ _ (yah.2 ⟨hg,h⟩)
 ·obtain ⟨n,h⟩:=h;exact go n _ _ h
 ·exact h.elim
theorem ywd:SEOk (yp4 yam yaf):=yat ⟨(yfK ef0 yev),(ygo ef0 yev),trivial⟩ ⟨⟨by kernel_rfl,by kernel_rfl,rfl,fun as=>yab (by kernel_rfl) as,yev.num _ (by kernel_rfl),(ybg (l:=[(14451100,ypq),(14451101,ylV)]) ⟨ysQ,ysR,trivial⟩ (by kernel_rfl))⟩,⟨by kernel_rfl,by kernel_rfl,rfl,fun as=>yab (by kernel_rfl) as,yev.num _ (by kernel_rfl),(yai (by kernel_rfl))⟩,trivial⟩ yev.ok
theorem yyc (a0 a1 p0 p1 p2 p3 K):WP (yp4 a0 a1) 11 yy1 [(.eptr [(.agg [(.data p0),(.data p1),(.data p2),(.data p3)])] 0 0)] K=yka a0 a1 p0 p1 p2 p3 (fun r0=>K (.bool r0)):=by kernel_rfl
theorem ykb:OkF (E ef0) yp3 ydW:=by
 intro as K h
 unfold yp3 yhp at h
 split at h
 ·exact ya6 (ywd) (ybg (l:=[(93107500,ylW)]) ⟨ysS,trivial⟩ (by kernel_rfl)) (by kernel_rfl) (by kernel_rfl) (fun _=>yab (by kernel_rfl) _) (yev.num _ (by kernel_rfl)) ((yyc ..).mpr h)
 ·exact h.elim
abbrev yau:Type:=Ls→Ls→Ls→Ls→Int→(Int→Int→Bool→Prop)→Prop
def yaR (a0:ybB) (a1:yaP) (a2:yav) (a3:ybo) (a4:yaw) (a:Ls→Ls→Ls→Ls→Ls→Ls→Ls→Ls→Int→Int→Int→Int→Int→Bool→Prop) (b:Ls→Ls→Ls→Ls→Int→Int→Bool→Prop):Nat→Ls→Ls→Ls→Ls→Ls→Ls→Ls→Ls→Int→Int→Int→Int→Int→Prop
 | 0,_,_,_,_,_,_,_,_,_,_,_,_,_=>False
 | g+1,l0,l1,l2,l3,l4,l5,l6,l7,i8,i9,i10,i11,i12 =>
 (cbr (decide (i12<i11))
 (jn (fun (c:Bool→Prop) =>
 (cbr (decide (i8<i12))
 (asr (decide ((0:Int)≤i8))
 (asr (decide (i8<(((List.length l1):Nat):Int)))
 (lt (List.getD l1 (i8.toNat) .nils) (fun e =>
 (asr (conf (.one (.d)) e)
 (asr (decide ((0:Int)≤i12))
 (asr (decide (i12<(((List.length l1):Nat):Int)))
 (lt (List.getD l1 (i12.toNat) .nils) (fun f =>
 (asr (conf (.one (.d)) f)
 (a0 (yaA e) (yaA f) (fun h =>
 (c h)))))))))))))
 (c false)))
 (fun i=>(cbr i
 (b l0 l1 l2 l3 i8 i12 true)
 (lt (IntKind.i64.wrap (i12+(1:Int))) (fun j =>
 (yaR a0 a1 a2 a3 a4 a b g l0 l1 l2 l3 l4 l5 l6 l7 i8 i9 i10 i11 j))))))
 (a l0 l1 l2 l3 l4 l5 l6 l7 i8 i9 i10 i11 i12 false))
def yaS (a0:ybB) (a1:yaP) (a2:yav) (a3:ybo) (a4:yaw) (e:Ls→Ls→Ls→Ls→Int→Int→Bool→Prop) (f:Ls→Ls→Ls→Ls→Ls→Ls→Ls→Ls→Int→Int→Int→Int→Int→Bool→Prop):Nat→Ls→Ls→Ls→Ls→Ls→Ls→Ls→Ls→Int→Int→Int→Int→Int→Prop
 | 0,_,_,_,_,_,_,_,_,_,_,_,_,_=>False
 | h+1,l0,l1,l2,l3,l4,l5,l6,l7,i8,i9,i10,i11,i12 =>
 (cbr (decide (i12<i11))
 (asr (decide ((0:Int)≤i8))
 (asr (decide (i8<(((List.length l0):Nat):Int)))
 (lt (List.getD l0 (i8.toNat) .nils) (fun a =>
 (asr (conf (.agg [.i .i64,.d,.d]) a)
 (a2 (yaa (yag a 0)) (yaA (yag a 1)) (yaA (yag a 2)) (fun j _ =>
 (a3 j (((List.length l0):Nat):Int) (fun k l _ =>
 (jn (fun (g:Bool→Prop) =>
 (cbr (i8 == i12)
 (asr (decide ((0:Int)≤i8))
 (asr (decide (i8<(((List.length l2):Nat):Int)))
 (lt (List.getD l2 (i8.toNat) .nils) (fun b =>
 (asr (conf (.one (.d)) b)
 (asr (decide ((0:Int)≤i8))
 (asr (decide (i8<(((List.length (yaA b)):Nat):Int)))
 (lt (List.getD (yaA b) (i8.toNat) .nils) (fun c =>
 (asr (conf (.agg [.i .i64,.i .i64]) c)
 (a4 (yaa (yag c 0)) (yaa (yag c 1)) k l (fun m =>
 (g m)))))))))))))
 (g false)))
 (fun n=>(cbr n
 (e l0 l1 l2 l3 i8 i12 true)
 (lt (IntKind.i64.wrap (i12+(1:Int))) (fun o =>
 (yaS a0 a1 a2 a3 a4 e f h l0 l1 l2 l3 l4 l5 l6 l7 i8 i9 i10 i11 o)))))))))))))))
 (f l0 l1 l2 l3 l4 l5 l6 l7 i8 i9 i10 i11 i12 false))
def yaT (a0:ybB) (a1:yaP) (a2:yav) (a3:ybo) (a4:yaw) (f:Ls→Ls→Ls→Ls→Int→Int→Bool→Prop) (g:Ls→Ls→Ls→Ls→Ls→Ls→Ls→Ls→Int→Int→Int→Int→Int→Bool→Prop):Nat→Ls→Ls→Ls→Ls→Ls→Ls→Ls→Ls→Int→Int→Int→Int→Int→Prop
 | 0,_,_,_,_,_,_,_,_,_,_,_,_,_=>False
 | h+1,l0,l1,l2,l3,l4,l5,l6,l7,i8,i9,i10,i11,i12 =>
 (cbr (decide (i12<i11))
 (asr (decide ((0:Int)≤i8))
 (asr (decide (i8<(((List.length l2):Nat):Int)))
 (lt (List.getD l2 (i8.toNat) .nils) (fun a =>
 (asr (conf (.one (.d)) a)
 (asr (decide ((0:Int)≤i8))
 (asr (decide (i8<(((List.length (yaA a)):Nat):Int)))
 (lt (List.getD (yaA a) (i8.toNat) .nils) (fun b =>
 (asr (conf (.agg [.i .i64,.i .i64]) b)
 (asr (decide ((0:Int)≤i8))
 (asr (decide (i8<(((List.length l2):Nat):Int)))
 (lt (List.getD l2 (i8.toNat) .nils) (fun c =>
 (asr (conf (.one (.d)) c)
 (asr (decide ((0:Int)≤i12))
 (asr (decide (i12<(((List.length (yaA c)):Nat):Int)))
 (lt (List.getD (yaA c) (i12.toNat) .nils) (fun e =>
 (asr (conf (.agg [.i .i64,.i .i64]) e)
 (a4 (yaa (yag b 0)) (yaa (yag b 1)) (yaa (yag e 0)) (yaa (yag e 1)) (fun j =>
 (cbr j
 (f l0 l1 l2 l3 i8 i12 true)
 (lt (IntKind.i64.wrap (i12+(1:Int))) (fun k =>
 (yaT a0 a1 a2 a3 a4 f g h l0 l1 l2 l3 l4 l5 l6 l7 i8 i9 i10 i11 k))))))))))))))))))))))))))
 (g l0 l1 l2 l3 l4 l5 l6 l7 i8 i9 i10 i11 i12 false))
def yaU (a0:ybB) (a1:yaP) (a2:yav) (a3:ybo) (a4:yaw) (c:Ls→Ls→Ls→Ls→Int→Int→Bool→Prop) (d:Ls→Ls→Ls→Ls→Ls→Ls→Ls→Ls→Int→Int→Int→Int→Int→Bool→Prop):Nat→Ls→Ls→Ls→Ls→Ls→Ls→Ls→Ls→Int→Int→Int→Int→Int→Prop
 | 0,_,_,_,_,_,_,_,_,_,_,_,_,_=>False
 | f+1,l0,l1,l2,l3,l4,l5,l6,l7,i8,i9,i10,i11,i12 =>
 (cbr (decide (i12<i11))
 (jn (fun (e:Bool→Prop) =>
 (cbr (i12 ==(0:Int))
 (asr (decide ((0:Int)≤i8))
 (asr (decide (i8<(((List.length l3):Nat):Int)))
 (lt (List.getD l3 (i8.toNat) .nils) (fun a =>
 (asr (conf (.agg [.i .i64,.i .i64]) a)
 (asr (decide ((0:Int)<(((List.length l3):Nat):Int)))
 (lt (List.getD l3 0 .nils) (fun b =>
 (asr (conf (.agg [.i .i64,.i .i64]) b)
 (e (!(((yaa (yag a 0)) ==(yaa (yag b 0)))&&(((yaa (yag a 1)) ==(yaa (yag b 1)))&&true)))))))))))))
 (e false)))
 (fun g=>(cbr g
 (c l0 l1 l2 l3 i8 i12 true)
 (lt (IntKind.i64.wrap (i12+(1:Int))) (fun h =>
 (yaU a0 a1 a2 a3 a4 c d f l0 l1 l2 l3 l4 l5 l6 l7 i8 i9 i10 i11 h))))))
 (d l0 l1 l2 l3 l4 l5 l6 l7 i8 i9 i10 i11 i12 false))
def yaV (a0:ybB) (a1:yaP) (a2:yav) (a3:ybo) (a4:yaw) (a:Ls→Ls→Ls→Ls→Int→Int→Bool→Prop) (b:Ls→Ls→Ls→Ls→Ls→Ls→Ls→Ls→Int→Int→Int→Int→Int→Bool→Prop):Nat→Ls→Ls→Ls→Ls→Ls→Ls→Ls→Ls→Int→Int→Int→Int→Int→Prop
 | 0,_,_,_,_,_,_,_,_,_,_,_,_,_=>False
 | f+1,l0,l1,l2,l3,l4,l5,l6,l7,i8,i9,i10,i11,i12 =>
 (cbr (decide (i12<i11))
 (jn (fun (c:Bool→Prop) =>
 (cbr (i8 == i12)
 (asr (decide ((0:Int)≤i8))
 (asr (decide (i8<(((List.length l1):Nat):Int)))
 (lt (List.getD l1 (i8.toNat) .nils) (fun e =>
 (asr (conf (.one (.d)) e)
 (c ((((List.length (yaA e)):Nat):Int) !=(1:Int))))))))
 (c false)))
 (fun g=>(cbr g
 (a l0 l1 l2 l3 i8 i12 true)
 (lt (IntKind.i64.wrap (i12+(1:Int))) (fun h =>
 (yaV a0 a1 a2 a3 a4 a b f l0 l1 l2 l3 l4 l5 l6 l7 i8 i9 i10 i11 h))))))
 (b l0 l1 l2 l3 l4 l5 l6 l7 i8 i9 i10 i11 i12 false))
def yaW (a0:ybB) (a1:yaP) (a2:yav) (a3:ybo) (a4:yaw) (a:Ls→Ls→Ls→Ls→Ls→Ls→Ls→Ls→Int→Int→Bool→Prop) (b:Ls→Ls→Ls→Ls→Int→Int→Bool→Prop):Nat→Ls→Ls→Ls→Ls→Ls→Ls→Ls→Ls→Int→Int→Prop
 | 0,_,_,_,_,_,_,_,_,_,_=>False
 | c+1,l0,l1,l2,l3,l4,l5,l6,l7,i8,i9 =>
 (cbr (decide (i9<i8))
 (∃ d:Nat,yaR a0 a1 a2 a3 a4
 (fun e f g h i j k l _ m n _ _ _=>(lt (IntKind.i64.wrap (n+(1:Int))) (fun o =>
 (yaW a0 a1 a2 a3 a4 a b c e f g h i j k l m o))))
 (fun p q r s t u v=>(b p q r s t u v))
 d l0 l1 l2 l3 l4 l5 l6 l7 i9 i8 i9 (((List.length l4):Nat):Int) (0:Int))
 (a l0 l1 l2 l3 l4 l5 l6 l7 i8 i9 false))
def yaX (a0:ybB) (a1:yaP) (a2:yav) (a3:ybo) (a4:yaw) (a:Ls→Ls→Ls→Ls→Int→Int→Bool→Prop) (b:Ls→Ls→Ls→Ls→Ls→Ls→Ls→Ls→Int→Int→Bool→Prop):Nat→Ls→Ls→Ls→Ls→Ls→Ls→Ls→Ls→Int→Int→Prop
 | 0,_,_,_,_,_,_,_,_,_,_=>False
 | c+1,l0,l1,l2,l3,l4,l5,l6,l7,i8,i9 =>
 (cbr (decide (i9<i8))
 (∃ d:Nat,yaS a0 a1 a2 a3 a4
 (fun e f g h i j k=>(a e f g h i j k))
 (fun l m n o p q r s _ t u _ _ _=>(lt (IntKind.i64.wrap (u+(1:Int))) (fun v =>
 (yaX a0 a1 a2 a3 a4 a b c l m n o p q r s t v))))
 d l0 l1 l2 l3 l4 l5 l6 l7 i9 i8 i9 (((List.length l4):Nat):Int) (0:Int))
 (b l0 l1 l2 l3 l4 l5 l6 l7 i8 i9 false))
def yaY (a0:ybB) (a1:yaP) (a2:yav) (a3:ybo) (a4:yaw) (a:Ls→Ls→Ls→Ls→Int→Int→Bool→Prop) (b:Ls→Ls→Ls→Ls→Ls→Ls→Ls→Ls→Int→Int→Bool→Prop):Nat→Ls→Ls→Ls→Ls→Ls→Ls→Ls→Ls→Int→Int→Prop
 | 0,_,_,_,_,_,_,_,_,_,_=>False
 | c+1,l0,l1,l2,l3,l4,l5,l6,l7,i8,i9 =>
 (cbr (decide (i9<i8))
 (∃ d:Nat,yaT a0 a1 a2 a3 a4
 (fun e f g h i j k=>(a e f g h i j k))
 (fun l m n o p q r s _ t u _ _ _=>(lt (IntKind.i64.wrap (u+(1:Int))) (fun v =>
 (yaY a0 a1 a2 a3 a4 a b c l m n o p q r s t v))))
 d l0 l1 l2 l3 l4 l5 l6 l7 i9 i8 i9 (((List.length l4):Nat):Int) (0:Int))
 (b l0 l1 l2 l3 l4 l5 l6 l7 i8 i9 false))
def yaZ (a0:ybB) (a1:yaP) (a2:yav) (a3:ybo) (a4:yaw) (a:Ls→Ls→Ls→Ls→Int→Int→Bool→Prop) (b:Ls→Ls→Ls→Ls→Ls→Ls→Ls→Ls→Int→Int→Bool→Prop):Nat→Ls→Ls→Ls→Ls→Ls→Ls→Ls→Ls→Int→Int→Prop
 | 0,_,_,_,_,_,_,_,_,_,_=>False
 | c+1,l0,l1,l2,l3,l4,l5,l6,l7,i8,i9 =>
 (cbr (decide (i9<i8))
 (∃ d:Nat,yaU a0 a1 a2 a3 a4
 (fun e f g h i j k=>(a e f g h i j k))
 (fun l m n o p q r s _ t u _ _ _=>(lt (IntKind.i64.wrap (u+(1:Int))) (fun v =>
 (yaZ a0 a1 a2 a3 a4 a b c l m n o p q r s t v))))
 d l0 l1 l2 l3 l4 l5 l6 l7 i9 i8 i9 (((List.length l4):Nat):Int) (0:Int))
 (b l0 l1 l2 l3 l4 l5 l6 l7 i8 i9 false))
def ya0 (a0:ybB) (a1:yaP) (a2:yav) (a3:ybo) (a4:yaw) (a:Ls→Ls→Ls→Ls→Int→Int→Bool→Prop) (b:Ls→Ls→Ls→Ls→Ls→Ls→Ls→Ls→Int→Int→Bool→Prop):Nat→Ls→Ls→Ls→Ls→Ls→Ls→Ls→Ls→Int→Int→Prop
 | 0,_,_,_,_,_,_,_,_,_,_=>False
 | c+1,l0,l1,l2,l3,l4,l5,l6,l7,i8,i9 =>
 (cbr (decide (i9<i8))
 (∃ d:Nat,yaV a0 a1 a2 a3 a4
 (fun e f g h i j k=>(a e f g h i j k))
 (fun l m n o p q r s _ t u _ _ _=>(lt (IntKind.i64.wrap (u+(1:Int))) (fun v =>
 (ya0 a0 a1 a2 a3 a4 a b c l m n o p q r s t v))))
 d l0 l1 l2 l3 l4 l5 l6 l7 i9 i8 i9 (((List.length l4):Nat):Int) (0:Int))
 (b l0 l1 l2 l3 l4 l5 l6 l7 i8 i9 false))
def yh2 (a0:ybB) (a1:yaP) (a2:yav) (a3:ybo) (a4:yaw) (p0 p1 p2 p3:Ls) (p4:Int) (K:Int→Int→Bool→Prop):Prop :=
 (cbr (p4 ==(1:Int))
 (jn (fun (b:Ls→Ls→Ls→Ls→Int→Int→Bool→Prop) =>
 (∃ a:Nat,yaW a0 a1 a2 a3 a4
 (fun i j k l _ _ _ _ _ _ _=>(b i j k l (0:Int) (0:Int) false))
 (fun m n o p q r s=>(b m n o p q r s))
 a p0 p1 p2 p3 p0 p1 p2 p3 (((List.length p0):Nat):Int) (0:Int)))
 (fun t u v w x y c=>(jn (fun (d:Bool→Prop) =>
 (cbr (!c)
 (a1 t u v w (fun z =>
 (d z)))
 (d false)))
 (fun A=>(cbr A
 (K (-1:Int) (-1:Int) true)
 (K x y c))))))
 (cbr (p4 ==(2:Int))
 (jn (fun (e:Ls→Ls→Ls→Ls→Int→Int→Bool→Prop) =>
 (∃ a:Nat,yaX a0 a1 a2 a3 a4
 (fun B C D E F G H=>(e B C D E F G H))
 (fun I J L M _ _ _ _ _ _ _=>(e I J L M (0:Int) (0:Int) false))
 a p0 p1 p2 p3 p0 p1 p2 p3 (((List.length p0):Nat):Int) (0:Int)))
 (fun _ _ _ _ N O Q=>(K N O Q)))
 (cbr (p4 ==(4:Int))
 (jn (fun (f:Ls→Ls→Ls→Ls→Int→Int→Bool→Prop) =>
 (∃ a:Nat,yaY a0 a1 a2 a3 a4
 (fun R S T U V W X=>(f R S T U V W X))
 (fun Y Z va vb _ _ _ _ _ _ _=>(f Y Z va vb (0:Int) (0:Int) false))
 a p0 p1 p2 p3 p0 p1 p2 p3 (((List.length p0):Nat):Int) (0:Int)))
 (fun _ _ _ _ vc vd ve=>(K vc vd ve)))
 (cbr (p4 ==(8:Int))
 (jn (fun (g:Ls→Ls→Ls→Ls→Int→Int→Bool→Prop) =>
 (∃ a:Nat,yaZ a0 a1 a2 a3 a4
 (fun vf vg vh vi vj vk vl=>(g vf vg vh vi vj vk vl))
 (fun vm vn vo vp _ _ _ _ _ _ _=>(g vm vn vo vp (0:Int) (0:Int) false))
 a p0 p1 p2 p3 p0 p1 p2 p3 (((List.length p0):Nat):Int) (0:Int)))
 (fun _ _ _ _ vq vr vs=>(K vq vr vs)))
 (jn (fun (h:Ls→Ls→Ls→Ls→Int→Int→Bool→Prop) =>
 (∃ a:Nat,ya0 a0 a1 a2 a3 a4
 (fun vt vu vv vw vx vy vz=>(h vt vu vv vw vx vy vz))
 (fun vA vB vC vD _ _ _ _ _ _ _=>(h vA vB vC vD (0:Int) (0:Int) false))
 a p0 p1 p2 p3 p0 p1 p2 p3 (((List.length p0):Nat):Int) (0:Int)))
 (fun _ _ _ _ vE vF vG=>(K vE vF vG)))))))
def yaj (p0 p1 p2 p3:Ls) (p4:Int) (K:Int→Int→Bool→Prop):Prop:=yh2 yak yad yae yan yaf p0 p1 p2 p3 p4 K
def ydk (w:yau) (as:Ls) (K:PV→Prop):Prop :=
 match as with
 | [(.eptr [(.agg [(.data p0),(.data p1),(.data p2),(.data p3)])] 0 0),(.int .u8 p4)]=>w p0 p1 p2 p3 p4 (fun r0 r1 r2=>K (.tup [(.int .i64 r0),(.int .i64 r1),(.bool r2)]))
 | _=>False
def ylE (as:Ls) (K:PV→Prop):Prop:=ydk yaj as K
def yc4 (F:Frm) (H:Hp) (A0:Ls→Ls→Ls→Ls→Ls→Ls→Ls→Ls→Int→Int→Int→Int→Int→Prop) (A1:Ls→Ls→Ls→Ls→Ls→Ls→Ls→Ls→Int→Int→Int→Int→Int→Prop) (A2:Ls→Ls→Ls→Ls→Ls→Ls→Ls→Ls→Int→Int→Int→Int→Int→Prop) (A3:Ls→Ls→Ls→Ls→Ls→Ls→Ls→Ls→Int→Int→Int→Int→Int→Prop) (A4:Ls→Ls→Ls→Ls→Ls→Ls→Ls→Ls→Int→Int→Int→Int→Int→Prop):Prop :=
 match F,H with
 | [(0,.v (.eptr [(.agg [(.data l4),(.data l5),(.data l6),(.data l7)])] 0 0)),(1,.v (.fn (.func q0) [] [(.ptr 0 1 0 0)])),(7,.v (.int .i64 i8)),(13,.v (.int .i64 i9)),(14,.v (.int .i64 i10)),(21,.v (.int .i64 i11)),(22,.v (.int .i64 i12))],[⟨false,false,1,[(.eptr [(.agg [(.data l0),(.data l1),(.data l2),(.data l3)])] 0 0)]⟩]=>bif Nat.beq q0 ybh then (A0 l0 l1 l2 l3 l4 l5 l6 l7 i8 i9 i10 i11 i12) else bif Nat.beq q0 ybi then (A1 l0 l1 l2 l3 l4 l5 l6 l7 i8 i9 i10 i11 i12) else bif Nat.beq q0 ybj then (A2 l0 l1 l2 l3 l4 l5 l6 l7 i8 i9 i10 i11 i12) else bif Nat.beq q0 ybk then (A3 l0 l1 l2 l3 l4 l5 l6 l7 i8 i9 i10 i11 i12) else bif Nat.beq q0 ybl then (A4 l0 l1 l2 l3 l4 l5 l6 l7 i8 i9 i10 i11 i12) else False
 | _,_=>False
def yc5 (F:Frm) (H:Hp) (A0:Ls→Ls→Ls→Ls→Ls→Ls→Ls→Ls→Int→Int→Prop) (A1:Ls→Ls→Ls→Ls→Ls→Ls→Ls→Ls→Int→Int→Prop) (A2:Ls→Ls→Ls→Ls→Ls→Ls→Ls→Ls→Int→Int→Prop) (A3:Ls→Ls→Ls→Ls→Ls→Ls→Ls→Ls→Int→Int→Prop) (A4:Ls→Ls→Ls→Ls→Ls→Ls→Ls→Ls→Int→Int→Prop):Prop :=
 match F,H with
 | [(0,.v (.eptr [(.agg [(.data l4),(.data l5),(.data l6),(.data l7)])] 0 0)),(1,.v (.fn (.func q0) [] [(.ptr 0 1 0 0)])),(13,.v (.int .i64 i8)),(14,.v (.int .i64 i9))],[⟨false,false,1,[(.eptr [(.agg [(.data l0),(.data l1),(.data l2),(.data l3)])] 0 0)]⟩]=>bif Nat.beq q0 ybh then (A0 l0 l1 l2 l3 l4 l5 l6 l7 i8 i9) else bif Nat.beq q0 ybi then (A1 l0 l1 l2 l3 l4 l5 l6 l7 i8 i9) else bif Nat.beq q0 ybj then (A2 l0 l1 l2 l3 l4 l5 l6 l7 i8 i9) else bif Nat.beq q0 ybk then (A3 l0 l1 l2 l3 l4 l5 l6 l7 i8 i9) else bif Nat.beq q0 ybl then (A4 l0 l1 l2 l3 l4 l5 l6 l7 i8 i9) else False
 | _,_=>False
def ygq (Q:Qx):Ls→Ls→Ls→Ls→Ls→Ls→Ls→Ls→Int→Int→Int→Int→Int→Bool→Prop:=(fun l0 l1 l2 l3 l4 l5 l6 l7 i8 i9 i10 i11 i12 b13=>Q (.exit 2) [(0,.v (.eptr [(.agg [(.data l4),(.data l5),(.data l6),(.data l7)])] 0 0)),(1,.v (.fn (.func ybh) [] [(.ptr 0 1 0 0)])),(7,.v (.int .i64 i8)),(13,.v (.int .i64 i9)),(14,.v (.int .i64 i10)),(21,.v (.int .i64 i11)),(22,.v (.int .i64 i12)),(23,.v (.bool b13))] [⟨false,false,1,([(.eptr [(.agg [(.data l0),(.data l1),(.data l2),(.data l3)])] 0 0)]:Ls)⟩])
def yaB (Q:Qx):Ls→Ls→Ls→Ls→Int→Int→Bool→Prop:=(fun l0 l1 l2 l3 i4 i5 b6=>Q .ret [(4,.v (.int .i64 i4)),(5,.v (.int .i64 i5)),(6,.v (.bool b6))] [⟨false,false,1,([(.eptr [(.agg [(.data l0),(.data l1),(.data l2),(.data l3)])] 0 0)]:Ls)⟩])
def ygr (Q:Qx):Ls→Ls→Ls→Ls→Ls→Ls→Ls→Ls→Int→Int→Int→Int→Int→Bool→Prop:=(fun l0 l1 l2 l3 l4 l5 l6 l7 i8 i9 i10 i11 i12 b13=>Q (.exit 2) [(0,.v (.eptr [(.agg [(.data l4),(.data l5),(.data l6),(.data l7)])] 0 0)),(1,.v (.fn (.func ybi) [] [(.ptr 0 1 0 0)])),(7,.v (.int .i64 i8)),(13,.v (.int .i64 i9)),(14,.v (.int .i64 i10)),(21,.v (.int .i64 i11)),(22,.v (.int .i64 i12)),(23,.v (.bool b13))] [⟨false,false,1,([(.eptr [(.agg [(.data l0),(.data l1),(.data l2),(.data l3)])] 0 0)]:Ls)⟩])
def ygs (Q:Qx):Ls→Ls→Ls→Ls→Ls→Ls→Ls→Ls→Int→Int→Int→Int→Int→Bool→Prop:=(fun l0 l1 l2 l3 l4 l5 l6 l7 i8 i9 i10 i11 i12 b13=>Q (.exit 2) [(0,.v (.eptr [(.agg [(.data l4),(.data l5),(.data l6),(.data l7)])] 0 0)),(1,.v (.fn (.func ybj) [] [(.ptr 0 1 0 0)])),(7,.v (.int .i64 i8)),(13,.v (.int .i64 i9)),(14,.v (.int .i64 i10)),(21,.v (.int .i64 i11)),(22,.v (.int .i64 i12)),(23,.v (.bool b13))] [⟨false,false,1,([(.eptr [(.agg [(.data l0),(.data l1),(.data l2),(.data l3)])] 0 0)]:Ls)⟩])
def ygt (Q:Qx):Ls→Ls→Ls→Ls→Ls→Ls→Ls→Ls→Int→Int→Int→Int→Int→Bool→Prop:=(fun l0 l1 l2 l3 l4 l5 l6 l7 i8 i9 i10 i11 i12 b13=>Q (.exit 2) [(0,.v (.eptr [(.agg [(.data l4),(.data l5),(.data l6),(.data l7)])] 0 0)),(1,.v (.fn (.func ybk) [] [(.ptr 0 1 0 0)])),(7,.v (.int .i64 i8)),(13,.v (.int .i64 i9)),(14,.v (.int .i64 i10)),(21,.v (.int .i64 i11)),(22,.v (.int .i64 i12)),(23,.v (.bool b13))] [⟨false,false,1,([(.eptr [(.agg [(.data l0),(.data l1),(.data l2),(.data l3)])] 0 0)]:Ls)⟩])
def ygu (Q:Qx):Ls→Ls→Ls→Ls→Ls→Ls→Ls→Ls→Int→Int→Int→Int→Int→Bool→Prop:=(fun l0 l1 l2 l3 l4 l5 l6 l7 i8 i9 i10 i11 i12 b13=>Q (.exit 2) [(0,.v (.eptr [(.agg [(.data l4),(.data l5),(.data l6),(.data l7)])] 0 0)),(1,.v (.fn (.func ybl) [] [(.ptr 0 1 0 0)])),(7,.v (.int .i64 i8)),(13,.v (.int .i64 i9)),(14,.v (.int .i64 i10)),(21,.v (.int .i64 i11)),(22,.v (.int .i64 i12)),(23,.v (.bool b13))] [⟨false,false,1,([(.eptr [(.agg [(.data l0),(.data l1),(.data l2),(.data l3)])] 0 0)]:Ls)⟩])
def ygv (Q:Qx):Ls→Ls→Ls→Ls→Ls→Ls→Ls→Ls→Int→Int→Bool→Prop:=(fun l0 l1 l2 l3 l4 l5 l6 l7 i8 i9 b10=>Q (.exit 0) [(0,.v (.eptr [(.agg [(.data l4),(.data l5),(.data l6),(.data l7)])] 0 0)),(1,.v (.fn (.func ybh) [] [(.ptr 0 1 0 0)])),(13,.v (.int .i64 i8)),(14,.v (.int .i64 i9)),(15,.v (.bool b10))] [⟨false,false,1,([(.eptr [(.agg [(.data l0),(.data l1),(.data l2),(.data l3)])] 0 0)]:Ls)⟩])
def yaC (Q:Qx):Ls→Ls→Ls→Ls→Int→Int→Bool→Prop:=(fun l0 l1 l2 l3 i4 i5 b6=>Q .ret [(4,.v (.int .i64 i4)),(5,.v (.int .i64 i5)),(6,.v (.bool b6))] [⟨false,false,1,([(.eptr [(.agg [(.data l0),(.data l1),(.data l2),(.data l3)])] 0 0)]:Ls)⟩])
def ygw (Q:Qx):Ls→Ls→Ls→Ls→Ls→Ls→Ls→Ls→Int→Int→Bool→Prop:=(fun l0 l1 l2 l3 l4 l5 l6 l7 i8 i9 b10=>Q (.exit 0) [(0,.v (.eptr [(.agg [(.data l4),(.data l5),(.data l6),(.data l7)])] 0 0)),(1,.v (.fn (.func ybi) [] [(.ptr 0 1 0 0)])),(13,.v (.int .i64 i8)),(14,.v (.int .i64 i9)),(15,.v (.bool b10))] [⟨false,false,1,([(.eptr [(.agg [(.data l0),(.data l1),(.data l2),(.data l3)])] 0 0)]:Ls)⟩])
def ygx (Q:Qx):Ls→Ls→Ls→Ls→Ls→Ls→Ls→Ls→Int→Int→Bool→Prop:=(fun l0 l1 l2 l3 l4 l5 l6 l7 i8 i9 b10=>Q (.exit 0) [(0,.v (.eptr [(.agg [(.data l4),(.data l5),(.data l6),(.data l7)])] 0 0)),(1,.v (.fn (.func ybj) [] [(.ptr 0 1 0 0)])),(13,.v (.int .i64 i8)),(14,.v (.int .i64 i9)),(15,.v (.bool b10))] [⟨false,false,1,([(.eptr [(.agg [(.data l0),(.data l1),(.data l2),(.data l3)])] 0 0)]:Ls)⟩])
def ygy (Q:Qx):Ls→Ls→Ls→Ls→Ls→Ls→Ls→Ls→Int→Int→Bool→Prop:=(fun l0 l1 l2 l3 l4 l5 l6 l7 i8 i9 b10=>Q (.exit 0) [(0,.v (.eptr [(.agg [(.data l4),(.data l5),(.data l6),(.data l7)])] 0 0)),(1,.v (.fn (.func ybk) [] [(.ptr 0 1 0 0)])),(13,.v (.int .i64 i8)),(14,.v (.int .i64 i9)),(15,.v (.bool b10))] [⟨false,false,1,([(.eptr [(.agg [(.data l0),(.data l1),(.data l2),(.data l3)])] 0 0)]:Ls)⟩])
def ygz (Q:Qx):Ls→Ls→Ls→Ls→Ls→Ls→Ls→Ls→Int→Int→Bool→Prop:=(fun l0 l1 l2 l3 l4 l5 l6 l7 i8 i9 b10=>Q (.exit 0) [(0,.v (.eptr [(.agg [(.data l4),(.data l5),(.data l6),(.data l7)])] 0 0)),(1,.v (.fn (.func ybl) [] [(.ptr 0 1 0 0)])),(13,.v (.int .i64 i8)),(14,.v (.int .i64 i9)),(15,.v (.bool b10))] [⟨false,false,1,([(.eptr [(.agg [(.data l0),(.data l1),(.data l2),(.data l3)])] 0 0)]:Ls)⟩])
def ybT (a0:ybB) (a1:yaP) (a2:yav) (a3:ybo) (a4:yaw) (Q:Qx) (n:Nat) (F:Frm) (H:Hp):Prop:=yc4 F H (fun l0 l1 l2 l3 l4 l5 l6 l7 i8 i9 i10 i11 i12=>yaR a0 a1 a2 a3 a4 (ygq Q) (yaB Q) n l0 l1 l2 l3 l4 l5 l6 l7 i8 i9 i10 i11 i12) (fun l0 l1 l2 l3 l4 l5 l6 l7 i8 i9 i10 i11 i12=>yaS a0 a1 a2 a3 a4 (yaB Q) (ygr Q) n l0 l1 l2 l3 l4 l5 l6 l7 i8 i9 i10 i11 i12) (fun l0 l1 l2 l3 l4 l5 l6 l7 i8 i9 i10 i11 i12=>yaT a0 a1 a2 a3 a4 (yaB Q) (ygs Q) n l0 l1 l2 l3 l4 l5 l6 l7 i8 i9 i10 i11 i12) (fun l0 l1 l2 l3 l4 l5 l6 l7 i8 i9 i10 i11 i12=>yaU a0 a1 a2 a3 a4 (yaB Q) (ygt Q) n l0 l1 l2 l3 l4 l5 l6 l7 i8 i9 i10 i11 i12) (fun l0 l1 l2 l3 l4 l5 l6 l7 i8 i9 i10 i11 i12=>yaV a0 a1 a2 a3 a4 (yaB Q) (ygu Q) n l0 l1 l2 l3 l4 l5 l6 l7 i8 i9 i10 i11 i12)
def ybU (a0:ybB) (a1:yaP) (a2:yav) (a3:ybo) (a4:yaw) (Q:Qx) (n:Nat) (F:Frm) (H:Hp):Prop:=yc5 F H (fun l0 l1 l2 l3 l4 l5 l6 l7 i8 i9=>yaW a0 a1 a2 a3 a4 (ygv Q) (yaC Q) n l0 l1 l2 l3 l4 l5 l6 l7 i8 i9) (fun l0 l1 l2 l3 l4 l5 l6 l7 i8 i9=>yaX a0 a1 a2 a3 a4 (yaC Q) (ygw Q) n l0 l1 l2 l3 l4 l5 l6 l7 i8 i9) (fun l0 l1 l2 l3 l4 l5 l6 l7 i8 i9=>yaY a0 a1 a2 a3 a4 (yaC Q) (ygx Q) n l0 l1 l2 l3 l4 l5 l6 l7 i8 i9) (fun l0 l1 l2 l3 l4 l5 l6 l7 i8 i9=>yaZ a0 a1 a2 a3 a4 (yaC Q) (ygy Q) n l0 l1 l2 l3 l4 l5 l6 l7 i8 i9) (fun l0 l1 l2 l3 l4 l5 l6 l7 i8 i9=>ya0 a0 a1 a2 a3 a4 (yaC Q) (ygz Q) n l0 l1 l2 l3 l4 l5 l6 l7 i8 i9)
def yaE (a0:ybB) (a1:yaP) (a2:yav) (a3:ybo) (a4:yaw):LP:=fun id F H Q =>
 bif Nat.beq id 97930200 then yc4 F H (fun l0 l1 l2 l3 l4 l5 l6 l7 i8 i9 i10 i11 i12=>∃ n:Nat,yaR a0 a1 a2 a3 a4 (ygq Q) (yaB Q) n l0 l1 l2 l3 l4 l5 l6 l7 i8 i9 i10 i11 i12) (fun l0 l1 l2 l3 l4 l5 l6 l7 i8 i9 i10 i11 i12=>∃ n:Nat,yaS a0 a1 a2 a3 a4 (yaB Q) (ygr Q) n l0 l1 l2 l3 l4 l5 l6 l7 i8 i9 i10 i11 i12) (fun l0 l1 l2 l3 l4 l5 l6 l7 i8 i9 i10 i11 i12=>∃ n:Nat,yaT a0 a1 a2 a3 a4 (yaB Q) (ygs Q) n l0 l1 l2 l3 l4 l5 l6 l7 i8 i9 i10 i11 i12) (fun l0 l1 l2 l3 l4 l5 l6 l7 i8 i9 i10 i11 i12=>∃ n:Nat,yaU a0 a1 a2 a3 a4 (yaB Q) (ygt Q) n l0 l1 l2 l3 l4 l5 l6 l7 i8 i9 i10 i11 i12) (fun l0 l1 l2 l3 l4 l5 l6 l7 i8 i9 i10 i11 i12=>∃ n:Nat,yaV a0 a1 a2 a3 a4 (yaB Q) (ygu Q) n l0 l1 l2 l3 l4 l5 l6 l7 i8 i9 i10 i11 i12) else
 bif Nat.beq id 97930201 then yc5 F H (fun l0 l1 l2 l3 l4 l5 l6 l7 i8 i9=>∃ n:Nat,yaW a0 a1 a2 a3 a4 (ygv Q) (yaC Q) n l0 l1 l2 l3 l4 l5 l6 l7 i8 i9) (fun l0 l1 l2 l3 l4 l5 l6 l7 i8 i9=>∃ n:Nat,yaX a0 a1 a2 a3 a4 (yaC Q) (ygw Q) n l0 l1 l2 l3 l4 l5 l6 l7 i8 i9) (fun l0 l1 l2 l3 l4 l5 l6 l7 i8 i9=>∃ n:Nat,yaY a0 a1 a2 a3 a4 (yaC Q) (ygx Q) n l0 l1 l2 l3 l4 l5 l6 l7 i8 i9) (fun l0 l1 l2 l3 l4 l5 l6 l7 i8 i9=>∃ n:Nat,yaZ a0 a1 a2 a3 a4 (yaC Q) (ygy Q) n l0 l1 l2 l3 l4 l5 l6 l7 i8 i9) (fun l0 l1 l2 l3 l4 l5 l6 l7 i8 i9=>∃ n:Nat,ya0 a0 a1 a2 a3 a4 (yaC Q) (ygz Q) n l0 l1 l2 l3 l4 l5 l6 l7 i8 i9) else
 False
def ybc (a0:ybB) (a1:yaP) (a2:yav) (a3:ybo) (a4:yaw):SE:=⟨(E ef0),yaK [(yhA,ylo a0),(ydW,yhp a1),(ycZ,yey a2),(yf8,yjJ a3),(ybI,yeB a4)],yaL [(ybh,ykQ),(ybi,ykR),(ybj,ykS),(ybk,ykT),(ybl,ykU)],yaE a0 a1 a2 a3 a4⟩
def ylF (a0:ybB) (a1:yaP) (a2:yav) (a3:ybo) (a4:yaw):SE:=⟨(E ef0),yaK [(yhA,ylo a0),(ydW,yhp a1),(ycZ,yey a2),(yf8,yjJ a3),(ybI,yeB a4)],yaL [(ydb,yvN),(ybh,ykQ),(ybi,ykR),(ybj,ykS),(ybk,ykT),(ybl,ykU)],yaE a0 a1 a2 a3 a4⟩
theorem ylr:SEOk (ybc yak yad yae yan yaf):=yat ⟨(yp2 ef0 yev),ykb,(yfq ef0 yev),(ymL ef0 yev),(ygo ef0 yev),trivial⟩ ⟨⟨by kernel_rfl,by kernel_rfl,rfl,fun as=>yab (by kernel_rfl) as,yev.num _ (by kernel_rfl),(yai (by kernel_rfl))⟩,⟨by kernel_rfl,by kernel_rfl,rfl,fun as=>yab (by kernel_rfl) as,yev.num _ (by kernel_rfl),(yai (by kernel_rfl))⟩,⟨by kernel_rfl,by kernel_rfl,rfl,fun as=>yab (by kernel_rfl) as,yev.num _ (by kernel_rfl),(yai (by kernel_rfl))⟩,⟨by kernel_rfl,by kernel_rfl,rfl,fun as=>yab (by kernel_rfl) as,yev.num _ (by kernel_rfl),(yai (by kernel_rfl))⟩,⟨by kernel_rfl,by kernel_rfl,rfl,fun as=>yab (by kernel_rfl) as,yev.num _ (by kernel_rfl),(yai (by kernel_rfl))⟩,trivial⟩ yev.ok
theorem yot (a0 a1 a2 a3 a4 Q n l0 l1 l2 l3 l4 l5 l6 l7 i8 i9 i10 i11 i12):WC (E ef0) (ybd (ybc a0 a1 a2 a3 a4) 10) (yaE a0 a1 a2 a3 a4) ygk [(0,.v (.eptr [(.agg [(.data l4),(.data l5),(.data l6),(.data l7)])] 0 0)),(1,.v (.fn (.func ybh) [] [(.ptr 0 1 0 0)])),(7,.v (.int .i64 i8)),(13,.v (.int .i64 i9)),(14,.v (.int .i64 i10)),(21,.v (.int .i64 i11)),(22,.v (.int .i64 i12))] [⟨false,false,1,([(.eptr [(.agg [(.data l0),(.data l1),(.data l2),(.data l3)])] 0 0)]:Ls)⟩] (exQ (ybT a0 a1 a2 a3 a4 Q n) Q)=yaR a0 a1 a2 a3 a4 (ygq Q) (yaB Q) (n+1) l0 l1 l2 l3 l4 l5 l6 l7 i8 i9 i10 i11 i12:=by kernel_rfl
theorem you (a0 a1 a2 a3 a4 Q n l0 l1 l2 l3 l4 l5 l6 l7 i8 i9 i10 i11 i12):WC (E ef0) (ybd (ybc a0 a1 a2 a3 a4) 10) (yaE a0 a1 a2 a3 a4) ygk [(0,.v (.eptr [(.agg [(.data l4),(.data l5),(.data l6),(.data l7)])] 0 0)),(1,.v (.fn (.func ybi) [] [(.ptr 0 1 0 0)])),(7,.v (.int .i64 i8)),(13,.v (.int .i64 i9)),(14,.v (.int .i64 i10)),(21,.v (.int .i64 i11)),(22,.v (.int .i64 i12))] [⟨false,false,1,([(.eptr [(.agg [(.data l0),(.data l1),(.data l2),(.data l3)])] 0 0)]:Ls)⟩] (exQ (ybT a0 a1 a2 a3 a4 Q n) Q)=yaS a0 a1 a2 a3 a4 (yaB Q) (ygr Q) (n+1) l0 l1 l2 l3 l4 l5 l6 l7 i8 i9 i10 i11 i12:=by kernel_rfl
theorem yov (a0 a1 a2 a3 a4 Q n l0 l1 l2 l3 l4 l5 l6 l7 i8 i9 i10 i11 i12):WC (E ef0) (ybd (ybc a0 a1 a2 a3 a4) 10) (yaE a0 a1 a2 a3 a4) ygk [(0,.v (.eptr [(.agg [(.data l4),(.data l5),(.data l6),(.data l7)])] 0 0)),(1,.v (.fn (.func ybj) [] [(.ptr 0 1 0 0)])),(7,.v (.int .i64 i8)),(13,.v (.int .i64 i9)),(14,.v (.int .i64 i10)),(21,.v (.int .i64 i11)),(22,.v (.int .i64 i12))] [⟨false,false,1,([(.eptr [(.agg [(.data l0),(.data l1),(.data l2),(.data l3)])] 0 0)]:Ls)⟩] (exQ (ybT a0 a1 a2 a3 a4 Q n) Q)=yaT a0 a1 a2 a3 a4 (yaB Q) (ygs Q) (n+1) l0 l1 l2 l3 l4 l5 l6 l7 i8 i9 i10 i11 i12:=by kernel_rfl
theorem yow (a0 a1 a2 a3 a4 Q n l0 l1 l2 l3 l4 l5 l6 l7 i8 i9 i10 i11 i12):WC (E ef0) (ybd (ybc a0 a1 a2 a3 a4) 10) (yaE a0 a1 a2 a3 a4) ygk [(0,.v (.eptr [(.agg [(.data l4),(.data l5),(.data l6),(.data l7)])] 0 0)),(1,.v (.fn (.func ybk) [] [(.ptr 0 1 0 0)])),(7,.v (.int .i64 i8)),(13,.v (.int .i64 i9)),(14,.v (.int .i64 i10)),(21,.v (.int .i64 i11)),(22,.v (.int .i64 i12))] [⟨false,false,1,([(.eptr [(.agg [(.data l0),(.data l1),(.data l2),(.data l3)])] 0 0)]:Ls)⟩] (exQ (ybT a0 a1 a2 a3 a4 Q n) Q)=yaU a0 a1 a2 a3 a4 (yaB Q) (ygt Q) (n+1) l0 l1 l2 l3 l4 l5 l6 l7 i8 i9 i10 i11 i12:=by kernel_rfl
theorem yox (a0 a1 a2 a3 a4 Q n l0 l1 l2 l3 l4 l5 l6 l7 i8 i9 i10 i11 i12):WC (E ef0) (ybd (ybc a0 a1 a2 a3 a4) 10) (yaE a0 a1 a2 a3 a4) ygk [(0,.v (.eptr [(.agg [(.data l4),(.data l5),(.data l6),(.data l7)])] 0 0)),(1,.v (.fn (.func ybl) [] [(.ptr 0 1 0 0)])),(7,.v (.int .i64 i8)),(13,.v (.int .i64 i9)),(14,.v (.int .i64 i10)),(21,.v (.int .i64 i11)),(22,.v (.int .i64 i12))] [⟨false,false,1,([(.eptr [(.agg [(.data l0),(.data l1),(.data l2),(.data l3)])] 0 0)]:Ls)⟩] (exQ (ybT a0 a1 a2 a3 a4 Q n) Q)=yaV a0 a1 a2 a3 a4 (yaB Q) (ygu Q) (n+1) l0 l1 l2 l3 l4 l5 l6 l7 i8 i9 i10 i11 i12:=by kernel_rfl
theorem yrj:LpOk (E ef0) (yaE yak yad yae yan yaf) ygk:=(yai (by kernel_rfl))
theorem yji:∀ F H Q,yaE yak yad yae yan yaf 97930200 F H Q→ycr (E ef0) ygk F H Q:=by
 intro F H Q h
 have go:=ycr.intro (yaG (ylr) 10) (yrj) (ybT yak yad yae yan yaf Q) (by
  intro F H h
  unfold ybT yc4 at h
  split at h
  ·rcases ycw h with ⟨rfl,h⟩ | h
   ·exact h
   rcases ycw h with ⟨rfl,h⟩ | h
   ·exact h
   rcases ycw h with ⟨rfl,h⟩ | h
   ·exact h
   rcases ycw h with ⟨rfl,h⟩ | h
   ·exact h
   rcases ycw h with ⟨rfl,h⟩ | h
   ·exact h
   exact h.elim
  ·exact h) (by
  intro n F H h
  unfold ybT yc4 at h
  split at h
  ·rcases ycw h with ⟨rfl,h⟩ | h
   ·exact (yot ..).mpr h
   rcases ycw h with ⟨rfl,h⟩ | h
   ·exact (you ..).mpr h
   rcases ycw h with ⟨rfl,h⟩ | h
   ·exact (yov ..).mpr h
   rcases ycw h with ⟨rfl,h⟩ | h
   ·exact (yow ..).mpr h
   rcases ycw h with ⟨rfl,h⟩ | h
   ·exact (yox ..).mpr h
   exact h.elim
  ·exact h.elim)
 have h:yc4 F H _ _ _ _ _:=h
 unfold yc4 at h
 split at h
 ·rcases ycw h with ⟨rfl,h⟩ | h
  ·obtain ⟨n,h⟩:=h;exact go n _ _ h
  rcases ycw h with ⟨rfl,h⟩ | h
  ·obtain ⟨n,h⟩:=h;exact go n _ _ h
  rcases ycw h with ⟨rfl,h⟩ | h
  ·obtain ⟨n,h⟩:=h;exact go n _ _ h
  rcases ycw h with ⟨rfl,h⟩ | h
  ·obtain ⟨n,h⟩:=h;exact go n _ _ h
  rcases ycw h with ⟨rfl,h⟩ | h
  ·obtain ⟨n,h⟩:=h;exact go n _ _ h
  exact h.elim
 ·exact h.elim
theorem yoy (a0 a1 a2 a3 a4 Q n l0 l1 l2 l3 l4 l5 l6 l7 i8 i9):WC (E ef0) (ybd (ybc a0 a1 a2 a3 a4) 10) (yaE a0 a1 a2 a3 a4) yg9 [(0,.v (.eptr [(.agg [(.data l4),(.data l5),(.data l6),(.data l7)])] 0 0)),(1,.v (.fn (.func ybh) [] [(.ptr 0 1 0 0)])),(13,.v (.int .i64 i8)),(14,.v (.int .i64 i9))] [⟨false,false,1,([(.eptr [(.agg [(.data l0),(.data l1),(.data l2),(.data l3)])] 0 0)]:Ls)⟩] (exQ (ybU a0 a1 a2 a3 a4 Q n) Q)=yaW a0 a1 a2 a3 a4 (ygv Q) (yaC Q) (n+1) l0 l1 l2 l3 l4 l5 l6 l7 i8 i9:=by kernel_rfl
theorem yoz (a0 a1 a2 a3 a4 Q n l0 l1 l2 l3 l4 l5 l6 l7 i8 i9):WC (E ef0) (ybd (ybc a0 a1 a2 a3 a4) 10) (yaE a0 a1 a2 a3 a4) yg9 [(0,.v (.eptr [(.agg [(.data l4),(.data l5),(.data l6),(.data l7)])] 0 0)),(1,.v (.fn (.func ybi) [] [(.ptr 0 1 0 0)])),(13,.v (.int .i64 i8)),(14,.v (.int .i64 i9))] [⟨false,false,1,([(.eptr [(.agg [(.data l0),(.data l1),(.data l2),(.data l3)])] 0 0)]:Ls)⟩] (exQ (ybU a0 a1 a2 a3 a4 Q n) Q)=yaX a0 a1 a2 a3 a4 (yaC Q) (ygw Q) (n+1) l0 l1 l2 l3 l4 l5 l6 l7 i8 i9:=by kernel_rfl
theorem yoA (a0 a1 a2 a3 a4 Q n l0 l1 l2 l3 l4 l5 l6 l7 i8 i9):WC (E ef0) (ybd (ybc a0 a1 a2 a3 a4) 10) (yaE a0 a1 a2 a3 a4) yg9 [(0,.v (.eptr [(.agg [(.data l4),(.data l5),(.data l6),(.data l7)])] 0 0)),(1,.v (.fn (.func ybj) [] [(.ptr 0 1 0 0)])),(13,.v (.int .i64 i8)),(14,.v (.int .i64 i9))] [⟨false,false,1,([(.eptr [(.agg [(.data l0),(.data l1),(.data l2),(.data l3)])] 0 0)]:Ls)⟩] (exQ (ybU a0 a1 a2 a3 a4 Q n) Q)=yaY a0 a1 a2 a3 a4 (yaC Q) (ygx Q) (n+1) l0 l1 l2 l3 l4 l5 l6 l7 i8 i9:=by kernel_rfl
theorem yoB (a0 a1 a2 a3 a4 Q n l0 l1 l2 l3 l4 l5 l6 l7 i8 i9):WC (E ef0) (ybd (ybc a0 a1 a2 a3 a4) 10) (yaE a0 a1 a2 a3 a4) yg9 [(0,.v (.eptr [(.agg [(.data l4),(.data l5),(.data l6),(.data l7)])] 0 0)),(1,.v (.fn (.func ybk) [] [(.ptr 0 1 0 0)])),(13,.v (.int .i64 i8)),(14,.v (.int .i64 i9))] [⟨false,false,1,([(.eptr [(.agg [(.data l0),(.data l1),(.data l2),(.data l3)])] 0 0)]:Ls)⟩] (exQ (ybU a0 a1 a2 a3 a4 Q n) Q)=yaZ a0 a1 a2 a3 a4 (yaC Q) (ygy Q) (n+1) l0 l1 l2 l3 l4 l5 l6 l7 i8 i9:=by kernel_rfl
theorem yoC (a0 a1 a2 a3 a4 Q n l0 l1 l2 l3 l4 l5 l6 l7 i8 i9):WC (E ef0) (ybd (ybc a0 a1 a2 a3 a4) 10) (yaE a0 a1 a2 a3 a4) yg9 [(0,.v (.eptr [(.agg [(.data l4),(.data l5),(.data l6),(.data l7)])] 0 0)),(1,.v (.fn (.func ybl) [] [(.ptr 0 1 0 0)])),(13,.v (.int .i64 i8)),(14,.v (.int .i64 i9))] [⟨false,false,1,([(.eptr [(.agg [(.data l0),(.data l1),(.data l2),(.data l3)])] 0 0)]:Ls)⟩] (exQ (ybU a0 a1 a2 a3 a4 Q n) Q)=ya0 a0 a1 a2 a3 a4 (yaC Q) (ygz Q) (n+1) l0 l1 l2 l3 l4 l5 l6 l7 i8 i9:=by kernel_rfl
theorem yrk:LpOk (E ef0) (yaE yak yad yae yan yaf) yg9:=(ybg (l:=[(97930200,ygk)]) ⟨yji,trivial⟩ (by kernel_rfl))
theorem yqb:∀ F H Q,yaE yak yad yae yan yaf 97930201 F H Q→ycr (E ef0) yg9 F H Q:=by
 intro F H Q h
 have go:=ycr.intro (yaG (ylr) 10) (yrk) (ybU yak yad yae yan yaf Q) (by
  intro F H h
  unfold ybU yc5 at h
  split at h
  ·rcases ycw h with ⟨rfl,h⟩ | h
   ·exact h
   rcases ycw h with ⟨rfl,h⟩ | h
   ·exact h
   rcases ycw h with ⟨rfl,h⟩ | h
   ·exact h
   rcases ycw h with ⟨rfl,h⟩ | h
   ·exact h
   rcases ycw h with ⟨rfl,h⟩ | h
   ·exact h
   exact h.elim
  ·exact h) (by
  intro n F H h
  unfold ybU yc5 at h
  split at h
  ·rcases ycw h with ⟨rfl,h⟩ | h
   ·exact (yoy ..).mpr h
   rcases ycw h with ⟨rfl,h⟩ | h
   ·exact (yoz ..).mpr h
   rcases ycw h with ⟨rfl,h⟩ | h
   ·exact (yoA ..).mpr h
   rcases ycw h with ⟨rfl,h⟩ | h
   ·exact (yoB ..).mpr h
   rcases ycw h with ⟨rfl,h⟩ | h
   ·exact (yoC ..).mpr h
   exact h.elim
  ·exact h.elim)
 have h:yc5 F H _ _ _ _ _:=h
 unfold yc5 at h
 split at h
 ·rcases ycw h with ⟨rfl,h⟩ | h
  ·obtain ⟨n,h⟩:=h;exact go n _ _ h
  rcases ycw h with ⟨rfl,h⟩ | h
  ·obtain ⟨n,h⟩:=h;exact go n _ _ h
  rcases ycw h with ⟨rfl,h⟩ | h
  ·obtain ⟨n,h⟩:=h;exact go n _ _ h
  rcases ycw h with ⟨rfl,h⟩ | h
  ·obtain ⟨n,h⟩:=h;exact go n _ _ h
  rcases ycw h with ⟨rfl,h⟩ | h
  ·obtain ⟨n,h⟩:=h;exact go n _ _ h
  exact h.elim
 ·exact h.elim
theorem ysT:SEOk (ylF yak yad yae yan yaf):=yat ⟨(yp2 ef0 yev),ykb,(yfq ef0 yev),(ymL ef0 yev),(ygo ef0 yev),trivial⟩ ⟨⟨by kernel_rfl,by kernel_rfl,rfl,fun as=>yab (by kernel_rfl) as,yev.num _ (by kernel_rfl),(ybg (l:=[(97930200,ygk),(97930201,yg9)]) ⟨yji,yqb,trivial⟩ (by kernel_rfl))⟩,⟨by kernel_rfl,by kernel_rfl,rfl,fun as=>yab (by kernel_rfl) as,yev.num _ (by kernel_rfl),(yai (by kernel_rfl))⟩,⟨by kernel_rfl,by kernel_rfl,rfl,fun as=>yab (by kernel_rfl) as,yev.num _ (by kernel_rfl),(yai (by kernel_rfl))⟩,⟨by kernel_rfl,by kernel_rfl,rfl,fun as=>yab (by kernel_rfl) as,yev.num _ (by kernel_rfl),(yai (by kernel_rfl))⟩,⟨by kernel_rfl,by kernel_rfl,rfl,fun as=>yab (by kernel_rfl) as,yev.num _ (by kernel_rfl),(yai (by kernel_rfl))⟩,⟨by kernel_rfl,by kernel_rfl,rfl,fun as=>yab (by kernel_rfl) as,yev.num _ (by kernel_rfl),(yai (by kernel_rfl))⟩,trivial⟩ yev.ok
theorem ytB (a0 a1 a2 a3 a4 p0 p1 p2 p3 p4 K):WP (ylF a0 a1 a2 a3 a4) 11 ytY [(.eptr [(.agg [(.data p0),(.data p1),(.data p2),(.data p3)])] 0 0),(.int .u8 p4)] K=yh2 a0 a1 a2 a3 a4 p0 p1 p2 p3 p4 (fun r0 r1 r2=>K (.tup [(.int .i64 r0),(.int .i64 r1),(.bool r2)])):=by kernel_rfl
theorem yef:OkF (E ef0) ylE ybx:=by
 intro as K h
 unfold ylE ydk at h
 split at h
 ·exact ya6 (ysT) (yai (by kernel_rfl)) (by kernel_rfl) (by kernel_rfl) (fun _=>yab (by kernel_rfl) _) (yev.num _ (by kernel_rfl)) ((ytB ..).mpr h)
 ·exact h.elim
abbrev yjc:Type:=Ls→Ls→(Int→Ls→Int→Prop)→Prop
def ydK (a0:yaQ) (a1:yav) (a2:yaq) (a3:yaO) (a4:yau) (g:Ls→Ls→Ls→Ls→Int→Int→Bool→Prop) (h:Ls→Ls→Ls→Ls→Int→Prop):Nat→Ls→Ls→Ls→Ls→Int→Int→Prop
 | 0,_,_,_,_,_,_=>False
 | k+1,l0,l1,l2,l3,i6,i7 =>
 (cbr (decide (i7<i6))
 (asr (decide ((0:Int)≤i7))
 (asr (decide (i7<(((List.length l1):Nat):Int)))
 (lt (List.getD l1 (i7.toNat) .nils) (fun c =>
 (asr (conf (.agg [.i .i64,.d,.d]) c)
 (a1 (yaa (yag c 0)) (yaA (yag c 1)) (yaA (yag c 2)) (fun l _ =>
 (asr (decide ((0:Int)≤i7))
 (asr (decide (i7<(((List.length l3):Nat):Int)))
 (lt (List.getD l3 (i7.toNat) .nils) (fun e =>
 (asr (conf (.one (.d)) e)
 (asr (decide ((0:Int)≤i7))
 (asr (decide (i7<(((List.length (yaA e)):Nat):Int)))
 (lt (List.getD (yaA e) (i7.toNat) .nils) (fun f =>
 (asr (conf (.agg [.i .i64,.i .i64]) f)
 (a2 l (fun m n =>
 (a3 (yaa (yag f 0)) (yaa (yag f 1)) m n (fun a b j =>
 (cbr (j !=(0:Int))
 (h l0 l1 l2 l3 j)
 (asr (decide ((List.length l0)=(List.length l0)))
 (asr (decide ((0+(List.length l0))≤(List.length l0)))
 (asr (!(decide (((0+(List.length l0))+1)≤(List.length l0))))
 (asr (decide ((List.length l0)=(List.length l0)))
 (asr (decide ((((List.length l0)+1)+64)*(16+1)≤room))
 (lt (IntKind.i64.wrap (i7+(1:Int))) (fun o =>
 (asr (decide ((List.length (l0++([(.agg [(.int .i64 a),(.int .i64 b)])]:Ls)))=List.length (l0++([(.agg [(.int .i64 a),(.int .i64 b)])]:Ls)))&&decide ((List.length (l0++([(.agg [(.int .i64 a),(.int .i64 b)])]:Ls)))=List.length (l0++([(.agg [(.int .i64 a),(.int .i64 b)])]:Ls))))
 (ydK a0 a1 a2 a3 a4 g h k (l0++([(.agg [(.int .i64 a),(.int .i64 b)])]:Ls)) l1 l2 l3 i6 o)))))))))))))))))))))))))))))))
 (g l0 l1 l2 l3 i6 i7 false))
def yfw (a0:yaQ) (a1:yav) (a2:yaq) (a3:yaO) (a4:yau) (h:Ls→Ls→Ls→Int→Int→Bool→Prop) (j:Ls→Ls→Ls→Int→Prop) (k:Ls→Ls→Ls→Ls→Int→Int→Bool→Prop) (l:Ls→Ls→Ls→Ls→Int→Prop):Nat→Ls→Ls→Ls→Int→Int→Prop
 | 0,_,_,_,_,_=>False
 | m+1,l0,l1,l2,i3,i4 =>
 (cbr (decide (i4<i3))
 (asr (decide ((0:Int)≤i4))
 (asr (decide (i4<(((List.length l0):Nat):Int)))
 (lt (List.getD l0 (i4.toNat) .nils) (fun a =>
 (asr (conf (.agg [.i .i64,.d,.d]) a)
 (a1 (yaa (yag a 0)) (yaA (yag a 1)) (yaA (yag a 2)) (fun n _ =>
 (asr (decide ((0:Int)≤i4))
 (asr (decide (i4<(((List.length l2):Nat):Int)))
 (lt (List.getD l2 (i4.toNat) .nils) (fun b =>
 (asr (conf (.one (.d)) b)
 (asr (decide ((0:Int)≤i4))
 (asr (decide (i4<(((List.length (yaA b)):Nat):Int)))
 (lt (List.getD (yaA b) (i4.toNat) .nils) (fun c =>
 (asr (conf (.agg [.i .i64,.i .i64]) c)
 (a2 n (fun o p =>
 (a3 (yaa (yag c 0)) (yaa (yag c 1)) o p (fun e f g =>
 (cbr (g !=(0:Int))
 (j l0 l1 l2 g)
 (lt (IntKind.i64.wrap (i4+(1:Int))) (fun q =>
 (asr (decide (1=List.length ([(.agg [(.int .i64 e),(.int .i64 f)])]:Ls))&&decide (1=List.length ([(.agg [(.int .i64 e),(.int .i64 f)])]:Ls)))
 (ydK a0 a1 a2 a3 a4 k l m ([(.agg [(.int .i64 e),(.int .i64 f)])]:Ls) l0 l1 l2 i3 q))))))))))))))))))))))))))
 (h l0 l1 l2 i3 i4 false))
def ygT (a0:yaQ) (a1:yav) (a2:yaq) (a3:yaO) (a4:yau) (a:Ls→Ls→Ls→Int→Int→Ls→Int→Bool→Prop):Nat→Ls→Ls→Ls→Int→Int→Ls→Int→Prop
 | 0,_,_,_,_,_,_,_=>False
 | c+1,l0,l1,l2,i3,i4,l5,i6 =>
 (cbr (decide (i6<(5:Int)))
 (jn (fun (b:Int→Prop) =>
 (asr (!(decide (i6<(0:Int))))
 (lt (IntKind.u8.wrap ((1:Int)*2 ^ (min i6.toNat IntKind.u8.bits))) (fun d =>
 (a4 l0 l1 l2 ([]:Ls) d (fun _ _ e =>
 (cbr (!e)
 (asr (!(decide (i6<(0:Int))))
 (lt (IntKind.u8.wrap ((1:Int)*2 ^ (min i6.toNat IntKind.u8.bits))) (fun f =>
 (lt (IntKind.u8.wrap (BitVec.ofInt IntKind.u8.bits i4|||BitVec.ofInt IntKind.u8.bits f).toNat) (fun g =>
 (b g))))))
 (b i4))))))))
 (fun h=>(lt (IntKind.i64.wrap (i6+(1:Int))) (fun i =>
 (ygT a0 a1 a2 a3 a4 a c l0 l1 l2 i3 h l5 i)))))
 (a l0 l1 l2 i3 i4 l5 i6 false))
def yc6 (a0:yaQ) (a1:yav) (a2:yaq) (a3:yaO) (a4:yau) (a:Ls→Ls→Ls→Ls→Int→Int→Ls→Int→Bool→Prop):Nat→Ls→Ls→Ls→Ls→Int→Int→Ls→Int→Prop
 | 0,_,_,_,_,_,_,_,_=>False
 | c+1,l0,l1,l2,l3,i6,i7,l8,i9 =>
 (cbr (decide (i9<(5:Int)))
 (jn (fun (b:Int→Prop) =>
 (asr (!(decide (i9<(0:Int))))
 (lt (IntKind.u8.wrap ((1:Int)*2 ^ (min i9.toNat IntKind.u8.bits))) (fun d =>
 (asr (decide ((List.length l0)=(List.length l0)))
 (asr (decide ((0+(List.length l0))≤(List.length l0)))
 (a4 l1 l2 l3 (List.take (List.length l0) l0) d (fun _ _ e =>
 (cbr (!e)
 (asr (!(decide (i9<(0:Int))))
 (lt (IntKind.u8.wrap ((1:Int)*2 ^ (min i9.toNat IntKind.u8.bits))) (fun f =>
 (lt (IntKind.u8.wrap (BitVec.ofInt IntKind.u8.bits i7|||BitVec.ofInt IntKind.u8.bits f).toNat) (fun g =>
 (b g))))))
 (b i7))))))))))
 (fun h=>(lt (IntKind.i64.wrap (i9+(1:Int))) (fun i =>
 (asr (decide ((List.length l0)=List.length l0)&&decide ((List.length l0)=List.length l0))
 (yc6 a0 a1 a2 a3 a4 a c l0 l1 l2 l3 i6 h l8 i))))))
 (a l0 l1 l2 l3 i6 i7 l8 i9 false))
def yrl (a0:yaQ) (a1:yav) (a2:yaq) (a3:yaO) (a4:yau) (p0 p1:Ls) (K:Int→Ls→Int→Prop):Prop :=
 (a0 p0 p1 (fun j b =>
 (cbr (b !=(0:Int))
 (cbr (b ==(0:Int))
 False
 (cbr (b !=(0:Int))
 (K (0:Int) ([]:Ls) b)
 False))
 (jn (fun (d:Ls→Ls→Ls→Int→Prop) =>
 (jn (fun (e:Ls→Ls→Ls→Ls→Int→Prop) =>
 (∃ k:Nat,yfw a0 a1 a2 a3 a4
 (fun l m n _ _ _=>(d l m n (0:Int)))
 (fun o p q r=>(d o p q r))
 (fun s t u v _ _ _=>(e s t u v (0:Int)))
 (fun w x y z A=>(e w x y z A))
 k p0 p1 j (((List.length p0):Nat):Int) (0:Int)))
 (fun a B C f g=>(cbr (g !=(0:Int))
 (K (0:Int) ([]:Ls) g)
 (asr (decide ((List.length a)=List.length a)&&decide ((List.length a)=List.length a))
 (∃ c:Nat,yc6 a0 a1 a2 a3 a4
 (fun _ _ _ _ _ D E _ _=>(K D E (0:Int)))
 c a B C f (0:Int) (0:Int) f (0:Int)))))))
 (fun F G h i=>(cbr (i !=(0:Int))
 (K (0:Int) ([]:Ls) i)
 (∃ c:Nat,ygT a0 a1 a2 a3 a4
 (fun _ _ _ _ H I _ _=>(K H I (0:Int)))
 c F G h (0:Int) (0:Int) h (0:Int))))))))
def ydx (p0 p1:Ls) (K:Int→Ls→Int→Prop):Prop:=yrl yax yae yam yaz yaj p0 p1 K
def yrm (w:yjc) (as:Ls) (K:PV→Prop):Prop :=
 match as with
 | [(.data p0),(.agg [(.data p1)])]=>w p0 p1 (fun r0 r1 r2=>K (.tup [(.agg [(.int .u8 r0),(.data r1)]),(.int .i64 r2)]))
 | _=>False
def yw6 (as:Ls) (K:PV→Prop):Prop:=yrm ydx as K
def ygU (F:Frm) (H:Hp) (A0:Ls→Ls→Ls→Int→Int→Prop) (A1:Ls→Ls→Ls→Ls→Int→Int→Prop):Prop :=
 match F,H with
 | [(0,.v (.ptr 0 1 0 0)),(12,.v (.int .i64 i3)),(13,.v (.int .i64 i4))],[⟨false,false,4,[(.agg [(.data l0),(.data l1),(.data l2),.nils])]⟩]=>(A0 l0 l1 l2 i3 i4)
 | [(0,.v (.ptr 0 1 0 0)),(12,.v (.int .i64 i6)),(13,.v (.int .i64 i7))],[⟨false,false,4,[(.agg [(.data l1),(.data l2),(.data l3),(.own 1 0 t4 t5 none)])]⟩,⟨false,true,2,l0⟩]=>asr (decide (t4=List.length l0)&&decide (t5=List.length l0)) (A1 l0 l1 l2 l3 i6 i7)
 | _,_=>False
def ygV (F:Frm) (H:Hp) (A0:Ls→Ls→Ls→Int→Int→Ls→Int→Prop) (A1:Ls→Ls→Ls→Ls→Int→Int→Ls→Int→Prop):Prop :=
 match F,H with
 | [(4,.box (.agg [(.int .u8 i3),.nils])),(6,.v (.ptr 0 1 0 0)),(8,.box (.agg [(.int .u8 i4),(.data l5)])),(32,.v (.int .i64 i6))],[⟨false,false,4,[(.agg [(.data l0),(.data l1),(.data l2),.nils])]⟩]=>(A0 l0 l1 l2 i3 i4 l5 i6)
 | [(4,.box (.agg [(.int .u8 i6),.nils])),(6,.v (.ptr 0 1 0 0)),(8,.box (.agg [(.int .u8 i7),(.data l8)])),(32,.v (.int .i64 i9))],[⟨false,false,4,[(.agg [(.data l1),(.data l2),(.data l3),(.own 1 0 t4 t5 none)])]⟩,⟨false,true,2,l0⟩]=>asr (decide (t4=List.length l0)&&decide (t5=List.length l0)) (A1 l0 l1 l2 l3 i6 i7 l8 i9)
 | _,_=>False
def ymv (Q:Qx):Ls→Ls→Ls→Int→Int→Bool→Prop:=(fun l0 l1 l2 i3 i4 b5=>Q (.exit 0) [(0,.v (.ptr 0 1 0 0)),(12,.v (.int .i64 i3)),(13,.v (.int .i64 i4)),(14,.v (.bool b5))] [⟨false,false,4,([(.agg [(.data l0),(.data l1),(.data l2),.nils])]:Ls)⟩])
def ymw (Q:Qx):Ls→Ls→Ls→Int→Prop:=(fun l0 l1 l2 i3=>Q .ret [(2,.v (.int .i64 i3))] [⟨false,false,4,([(.agg [(.data l0),(.data l1),(.data l2),.nils])]:Ls)⟩])
def yfx (Q:Qx):Ls→Ls→Ls→Ls→Int→Int→Bool→Prop:=(fun l0 l1 l2 l3 i6 i7 b8=>Q (.exit 0) [(0,.v (.ptr 0 1 0 0)),(12,.v (.int .i64 i6)),(13,.v (.int .i64 i7)),(14,.v (.bool b8))] [⟨false,false,4,([(.agg [(.data l1),(.data l2),(.data l3),(.own 1 0 (List.length l0) (List.length l0) none)])]:Ls)⟩,⟨false,true,2,l0⟩])
def yfy (Q:Qx):Ls→Ls→Ls→Ls→Int→Prop:=(fun l0 l1 l2 l3 i6=>Q .ret [(2,.v (.int .i64 i6))] [⟨false,false,4,([(.agg [(.data l1),(.data l2),(.data l3),(.own 1 0 (List.length l0) (List.length l0) none)])]:Ls)⟩,⟨false,true,2,l0⟩])
def ymx (Q:Qx):Ls→Ls→Ls→Int→Int→Ls→Int→Bool→Prop:=(fun l0 l1 l2 i3 i4 l5 i6 b7=>Q (.exit 0) [(4,.box (.agg [(.int .u8 i3),.nils])),(6,.v (.ptr 0 1 0 0)),(8,.box (.agg [(.int .u8 i4),(.data l5)])),(32,.v (.int .i64 i6)),(33,.v (.bool b7))] [⟨false,false,4,([(.agg [(.data l0),(.data l1),(.data l2),.nils])]:Ls)⟩])
def ymy (Q:Qx):Ls→Ls→Ls→Ls→Int→Int→Ls→Int→Bool→Prop:=(fun l0 l1 l2 l3 i6 i7 l8 i9 b10=>Q (.exit 0) [(4,.box (.agg [(.int .u8 i6),.nils])),(6,.v (.ptr 0 1 0 0)),(8,.box (.agg [(.int .u8 i7),(.data l8)])),(32,.v (.int .i64 i9)),(33,.v (.bool b10))] [⟨false,false,4,([(.agg [(.data l1),(.data l2),(.data l3),(.own 1 0 (List.length l0) (List.length l0) none)])]:Ls)⟩,⟨false,true,2,l0⟩])
def yiD (a0:yaQ) (a1:yav) (a2:yaq) (a3:yaO) (a4:yau) (Q:Qx) (n:Nat) (F:Frm) (H:Hp):Prop:=ygU F H (fun l0 l1 l2 i3 i4=>yfw a0 a1 a2 a3 a4 (ymv Q) (ymw Q) (yfx Q) (yfy Q) n l0 l1 l2 i3 i4) (fun l0 l1 l2 l3 i6 i7=>ydK a0 a1 a2 a3 a4 (yfx Q) (yfy Q) n l0 l1 l2 l3 i6 i7)
def yiE (a0:yaQ) (a1:yav) (a2:yaq) (a3:yaO) (a4:yau) (Q:Qx) (n:Nat) (F:Frm) (H:Hp):Prop:=ygV F H (fun l0 l1 l2 i3 i4 l5 i6=>ygT a0 a1 a2 a3 a4 (ymx Q) n l0 l1 l2 i3 i4 l5 i6) (fun l0 l1 l2 l3 i6 i7 l8 i9=>yc6 a0 a1 a2 a3 a4 (ymy Q) n l0 l1 l2 l3 i6 i7 l8 i9)
def ydQ (a0:yaQ) (a1:yav) (a2:yaq) (a3:yaO) (a4:yau):LP:=fun id F H Q =>
 bif Nat.beq id 20643600 then ygU F H (fun l0 l1 l2 i3 i4=>∃ n:Nat,yfw a0 a1 a2 a3 a4 (ymv Q) (ymw Q) (yfx Q) (yfy Q) n l0 l1 l2 i3 i4) (fun l0 l1 l2 l3 i6 i7=>∃ n:Nat,ydK a0 a1 a2 a3 a4 (yfx Q) (yfy Q) n l0 l1 l2 l3 i6 i7) else
 bif Nat.beq id 65264200 then ygV F H (fun l0 l1 l2 i3 i4 l5 i6=>∃ n:Nat,ygT a0 a1 a2 a3 a4 (ymx Q) n l0 l1 l2 i3 i4 l5 i6) (fun l0 l1 l2 l3 i6 i7 l8 i9=>∃ n:Nat,yc6 a0 a1 a2 a3 a4 (ymy Q) n l0 l1 l2 l3 i6 i7 l8 i9) else
 False
def yjN (a0:yaQ) (a1:yav) (a2:yaq) (a3:yaO) (a4:yau):SE:=⟨(E ef0),yaK [(ybp,ygR a0),(ycZ,yey a1),(ych,ydY a2),(yd5,ygf a3),(ybx,ydk a4)],yaL [(yej,yiO)],ydQ a0 a1 a2 a3 a4⟩
def yw7 (a0:yaQ) (a1:yav) (a2:yaq) (a3:yaO) (a4:yau):SE:=⟨(E ef0),yaK [(ybp,ygR a0),(ycZ,yey a1),(ych,ydY a2),(yd5,ygf a3),(ybx,ydk a4)],yaL [(yej,yiO),(yfF,ypp)],ydQ a0 a1 a2 a3 a4⟩
theorem yvb:SEOk (yjN yax yae yam yaz yaj):=yat ⟨(yiA ef0 yev),(yfq ef0 yev),(yfK ef0 yev),(yhi ef0 yev),yef,trivial⟩ ⟨⟨by kernel_rfl,by kernel_rfl,rfl,fun as=>yab (by kernel_rfl) as,yev.num _ (by kernel_rfl),(yai (by kernel_rfl))⟩,trivial⟩ yev.ok
theorem ywe (a0 a1 a2 a3 a4 Q n l0 l1 l2 i3 i4):WC (E ef0) (ybd (yjN a0 a1 a2 a3 a4) 10) (ydQ a0 a1 a2 a3 a4) yfG [(0,.v (.ptr 0 1 0 0)),(12,.v (.int .i64 i3)),(13,.v (.int .i64 i4))] [⟨false,false,4,([(.agg [(.data l0),(.data l1),(.data l2),.nils])]:Ls)⟩] (exQ (yiD a0 a1 a2 a3 a4 Q n) Q)=yfw a0 a1 a2 a3 a4 (ymv Q) (ymw Q) (yfx Q) (yfy Q) (n+1) l0 l1 l2 i3 i4:=by kernel_rfl
theorem ywf (a0 a1 a2 a3 a4 Q n l0 l1 l2 l3 i6 i7):WC (E ef0) (ybd (yjN a0 a1 a2 a3 a4) 10) (ydQ a0 a1 a2 a3 a4) yfG [(0,.v (.ptr 0 1 0 0)),(12,.v (.int .i64 i6)),(13,.v (.int .i64 i7))] [⟨false,false,4,([(.agg [(.data l1),(.data l2),(.data l3),(.own 1 0 (List.length l0) (List.length l0) none)])]:Ls)⟩,⟨false,true,2,l0⟩] (exQ (yiD a0 a1 a2 a3 a4 Q n) Q)=ydK a0 a1 a2 a3 a4 (yfx Q) (yfy Q) (n+1) l0 l1 l2 l3 i6 i7:=by kernel_rfl
theorem yBn:LpOk (E ef0) (ydQ yax yae yam yaz yaj) yfG:=(yai (by kernel_rfl))
theorem yzZ:∀ F H Q,ydQ yax yae yam yaz yaj 20643600 F H Q→ycr (E ef0) yfG F H Q:=by
 intro F H Q h
 have go:=ycr.intro (yaG (yvb) 10) (yBn) (yiD yax yae yam yaz yaj Q) (by
  intro F H h
  unfold yiD ygU at h
  split at h
  ·exact h
  ·obtain ⟨hg,k⟩:=yah.1 h
   clear h
   have h:=k
   clear k
   try simp only [qAc,decide_eq_true_eq] at hg
   obtain ⟨g0,g1⟩:=hg;subst g0;subst g1;exact h
  ·exact h) (by
  intro n F H h
  unfold yiD ygU at h
  split at h
  ·exact (ywe ..).mpr h
  ·obtain ⟨hg,k⟩:=yah.1 h
   clear h
   have h:=k
   clear k
   try simp only [qAc,decide_eq_true_eq] at hg
   obtain ⟨g0,g1⟩:=hg;subst g0;subst g1;exact (ywf ..).mpr h
  ·exact h.elim)
 have h:ygU F H _ _:=h
 unfold ygU at h
 split at h
 ·obtain ⟨n,h⟩:=h;exact go n _ _ h
 ·obtain ⟨hg,n,h⟩:=yah.1 h;exact go n _ _ (yah.2 ⟨hg,h⟩)
 ·exact h.elim
theorem ywg (a0 a1 a2 a3 a4 Q n l0 l1 l2 i3 i4 l5 i6):WC (E ef0) (ybd (yjN a0 a1 a2 a3 a4) 10) (ydQ a0 a1 a2 a3 a4) ylX [(4,.box (.agg [(.int .u8 i3),.nils])),(6,.v (.ptr 0 1 0 0)),(8,.box (.agg [(.int .u8 i4),(.data l5)])),(32,.v (.int .i64 i6))] [⟨false,false,4,([(.agg [(.data l0),(.data l1),(.data l2),.nils])]:Ls)⟩] (exQ (yiE a0 a1 a2 a3 a4 Q n) Q)=ygT a0 a1 a2 a3 a4 (ymx Q) (n+1) l0 l1 l2 i3 i4 l5 i6:=by kernel_rfl
theorem ywh (a0 a1 a2 a3 a4 Q n l0 l1 l2 l3 i6 i7 l8 i9):WC (E ef0) (ybd (yjN a0 a1 a2 a3 a4) 10) (ydQ a0 a1 a2 a3 a4) ylX [(4,.box (.agg [(.int .u8 i6),.nils])),(6,.v (.ptr 0 1 0 0)),(8,.box (.agg [(.int .u8 i7),(.data l8)])),(32,.v (.int .i64 i9))] [⟨false,false,4,([(.agg [(.data l1),(.data l2),(.data l3),(.own 1 0 (List.length l0) (List.length l0) none)])]:Ls)⟩,⟨false,true,2,l0⟩] (exQ (yiE a0 a1 a2 a3 a4 Q n) Q)=yc6 a0 a1 a2 a3 a4 (ymy Q) (n+1) l0 l1 l2 l3 i6 i7 l8 i9:=by kernel_rfl
theorem yBo:LpOk (E ef0) (ydQ yax yae yam yaz yaj) ylX:=(yai (by kernel_rfl))
theorem yz0:∀ F H Q,ydQ yax yae yam yaz yaj 65264200 F H Q→ycr (E ef0) ylX F H Q:=by
 intro F H Q h
 have go:=ycr.intro (yaG (yvb) 10) (yBo) (yiE yax yae yam yaz yaj Q) (by
  intro F H h
  unfold yiE ygV at h
  split at h
  ·exact h
  ·obtain ⟨hg,k⟩:=yah.1 h
   clear h
   have h:=k
   clear k
   try simp only [qAc,decide_eq_true_eq] at hg
   obtain ⟨g0,g1⟩:=hg;subst g0;subst g1;exact h
  ·exact h) (by
  intro n F H h
  unfold yiE ygV at h
  split at h
  ·exact (ywg ..).mpr h
  ·obtain ⟨hg,k⟩:=yah.1 h
   clear h
   have h:=k
   clear k
   try simp only [qAc,decide_eq_true_eq] at hg
   obtain ⟨g0,g1⟩:=hg;subst g0;subst g1;exact (ywh ..).mpr h
  ·exact h.elim)
 have h:ygV F H _ _:=h
 unfold ygV at h
 split at h
 ·obtain ⟨n,h⟩:=h;exact go n _ _ h
 ·obtain ⟨hg,n,h⟩:=yah.1 h;exact go n _ _ (yah.2 ⟨hg,h⟩)
 ·exact h.elim
theorem yEP:SEOk (yw7 yax yae yam yaz yaj):=yat ⟨(yiA ef0 yev),(yfq ef0 yev),(yfK ef0 yev),(yhi ef0 yev),yef,trivial⟩ ⟨⟨by kernel_rfl,by kernel_rfl,rfl,fun as=>yab (by kernel_rfl) as,yev.num _ (by kernel_rfl),(yai (by kernel_rfl))⟩,⟨by kernel_rfl,by kernel_rfl,rfl,fun as=>yab (by kernel_rfl) as,yev.num _ (by kernel_rfl),(ybg (l:=[(20643600,yfG)]) ⟨yzZ,trivial⟩ (by kernel_rfl))⟩,trivial⟩ yev.ok
theorem yGv (a0 a1 a2 a3 a4 p0 p1 K):WP (yw7 a0 a1 a2 a3 a4) 11 yIp [(.data p0),(.agg [(.data p1)])] K=yrl a0 a1 a2 a3 a4 p0 p1 (fun r0 r1 r2=>K (.tup [(.agg [(.int .u8 r0),(.data r1)]),(.int .i64 r2)])):=by kernel_rfl
theorem yw8:OkF (E ef0) yw6 ykP:=by
 intro as K h
 unfold yw6 yrm at h
 split at h
 ·exact ya6 (yEP) (ybg (l:=[(65264200,ylX)]) ⟨yz0,trivial⟩ (by kernel_rfl)) (by kernel_rfl) (by kernel_rfl) (fun _=>yab (by kernel_rfl) _) (yev.num _ (by kernel_rfl)) ((yGv ..).mpr h)
 ·exact h.elim
abbrev ygW:Type:=Ls→Ls→Int→Ls→(Bool→Int→Prop)→Prop
def ycQ (a0:yaQ) (a1:yay) (a2:yav) (a3:yaq) (a4:yaO) (a5:yau) (a:Ls→Ls→Ls→Ls→Ls→Int→Int→Bool→Prop) (b:Ls→Ls→Ls→Bool→Prop):Nat→Ls→Ls→Ls→Ls→Ls→Int→Int→Prop
 | 0,_,_,_,_,_,_,_=>False
 | f+1,l0,l1,l2,l3,l4,i5,i6 =>
 (cbr (decide (i6<i5))
 (asr (decide ((0:Int)≤i6))
 (asr (decide (i6<(((List.length l4):Nat):Int)))
 (lt (List.getD l4 (i6.toNat) .nils) (fun c =>
 (asr (conf (.one (.d)) c)
 (asr (decide ((0:Int)≤i6))
 (asr (decide (i6<(((List.length l3):Nat):Int)))
 (lt (List.getD l3 (i6.toNat) .nils) (fun e =>
 (asr (conf (.one (.d)) e)
 (a1 (yaA c) (yaA e) (fun g =>
 (cbr (!g)
 (b l0 l1 l2 false)
 (lt (IntKind.i64.wrap (i6+(1:Int))) (fun h =>
 (ycQ a0 a1 a2 a3 a4 a5 a b f l0 l1 l2 l3 l4 i5 h))))))))))))))))
 (a l0 l1 l2 l3 l4 i5 i6 false))
def yfM (a0:yaQ) (a1:yay) (a2:yav) (a3:yaq) (a4:yaO) (a5:yau) (g:Ls→Ls→Ls→Ls→Int→Int→Bool→Prop) (h:Ls→Ls→Ls→Ls→Int→Prop):Nat→Ls→Ls→Ls→Ls→Int→Int→Prop
 | 0,_,_,_,_,_,_=>False
 | k+1,l0,l1,l2,l3,i6,i7 =>
 (cbr (decide (i7<i6))
 (asr (decide ((0:Int)≤i7))
 (asr (decide (i7<(((List.length l1):Nat):Int)))
 (lt (List.getD l1 (i7.toNat) .nils) (fun c =>
 (asr (conf (.agg [.i .i64,.d,.d]) c)
 (a2 (yaa (yag c 0)) (yaA (yag c 1)) (yaA (yag c 2)) (fun l _ =>
 (asr (decide ((0:Int)≤i7))
 (asr (decide (i7<(((List.length l3):Nat):Int)))
 (lt (List.getD l3 (i7.toNat) .nils) (fun e =>
 (asr (conf (.one (.d)) e)
 (asr (decide ((0:Int)≤i7))
 (asr (decide (i7<(((List.length (yaA e)):Nat):Int)))
 (lt (List.getD (yaA e) (i7.toNat) .nils) (fun f =>
 (asr (conf (.agg [.i .i64,.i .i64]) f)
 (a3 l (fun m n =>
 (a4 (yaa (yag f 0)) (yaa (yag f 1)) m n (fun a b j =>
 (cbr (j !=(0:Int))
 (h l0 l1 l2 l3 j)
 (asr (decide ((List.length l0)=(List.length l0)))
 (asr (decide ((0+(List.length l0))≤(List.length l0)))
 (asr (!(decide (((0+(List.length l0))+1)≤(List.length l0))))
 (asr (decide ((List.length l0)=(List.length l0)))
 (asr (decide ((((List.length l0)+1)+64)*(16+1)≤room))
 (lt (IntKind.i64.wrap (i7+(1:Int))) (fun o =>
 (asr (decide ((List.length (l0++([(.agg [(.int .i64 a),(.int .i64 b)])]:Ls)))=List.length (l0++([(.agg [(.int .i64 a),(.int .i64 b)])]:Ls)))&&decide ((List.length (l0++([(.agg [(.int .i64 a),(.int .i64 b)])]:Ls)))=List.length (l0++([(.agg [(.int .i64 a),(.int .i64 b)])]:Ls))))
 (yfM a0 a1 a2 a3 a4 a5 g h k (l0++([(.agg [(.int .i64 a),(.int .i64 b)])]:Ls)) l1 l2 l3 i6 o)))))))))))))))))))))))))))))))
 (g l0 l1 l2 l3 i6 i7 false))
def yhq (a0:yaQ) (a1:yay) (a2:yav) (a3:yaq) (a4:yaO) (a5:yau) (h:Ls→Ls→Ls→Int→Int→Bool→Prop) (j:Ls→Ls→Ls→Int→Prop) (k:Ls→Ls→Ls→Ls→Int→Int→Bool→Prop) (l:Ls→Ls→Ls→Ls→Int→Prop):Nat→Ls→Ls→Ls→Int→Int→Prop
 | 0,_,_,_,_,_=>False
 | m+1,l0,l1,l2,i3,i4 =>
 (cbr (decide (i4<i3))
 (asr (decide ((0:Int)≤i4))
 (asr (decide (i4<(((List.length l0):Nat):Int)))
 (lt (List.getD l0 (i4.toNat) .nils) (fun a =>
 (asr (conf (.agg [.i .i64,.d,.d]) a)
 (a2 (yaa (yag a 0)) (yaA (yag a 1)) (yaA (yag a 2)) (fun n _ =>
 (asr (decide ((0:Int)≤i4))
 (asr (decide (i4<(((List.length l2):Nat):Int)))
 (lt (List.getD l2 (i4.toNat) .nils) (fun b =>
 (asr (conf (.one (.d)) b)
 (asr (decide ((0:Int)≤i4))
 (asr (decide (i4<(((List.length (yaA b)):Nat):Int)))
 (lt (List.getD (yaA b) (i4.toNat) .nils) (fun c =>
 (asr (conf (.agg [.i .i64,.i .i64]) c)
 (a3 n (fun o p =>
 (a4 (yaa (yag c 0)) (yaa (yag c 1)) o p (fun e f g =>
 (cbr (g !=(0:Int))
 (j l0 l1 l2 g)
 (lt (IntKind.i64.wrap (i4+(1:Int))) (fun q =>
 (asr (decide (1=List.length ([(.agg [(.int .i64 e),(.int .i64 f)])]:Ls))&&decide (1=List.length ([(.agg [(.int .i64 e),(.int .i64 f)])]:Ls)))
 (yfM a0 a1 a2 a3 a4 a5 k l m ([(.agg [(.int .i64 e),(.int .i64 f)])]:Ls) l0 l1 l2 i3 q))))))))))))))))))))))))))
 (h l0 l1 l2 i3 i4 false))
def ycq (a0:yaQ) (a1:yay) (a2:yav) (a3:yaq) (a4:yaO) (a5:yau) (a:Ls→Ls→Ls→Int→Ls→Int→Bool→Prop) (b:Ls→Ls→Ls→Bool→Int→Prop):Nat→Ls→Ls→Ls→Int→Ls→Int→Prop
 | 0,_,_,_,_,_,_=>False
 | d+1,l0,l1,l2,i3,l4,i5 =>
 (cbr (decide (i5<(5:Int)))
 (jn (fun c =>
 (asr (!(decide (i5<(0:Int))))
 (lt (Int.fdiv i3 (2 ^ (min i5.toNat IntKind.u8.bits))) (fun e =>
 (lt (IntKind.u8.wrap (BitVec.ofInt IntKind.u8.bits e&&&BitVec.ofInt IntKind.u8.bits (1:Int)).toNat) (fun f =>
 (cbr (f ==(0:Int))
 c
 (asr (!(decide (i5<(0:Int))))
 (lt (IntKind.u8.wrap ((1:Int)*2 ^ (min i5.toNat IntKind.u8.bits))) (fun g =>
 (a5 l0 l1 l2 ([]:Ls) g (fun _ _ h =>
 (cbr h
 (b l0 l1 l2 false (0:Int))
 c)))))))))))))
 (lt (IntKind.i64.wrap (i5+(1:Int))) (fun i =>
 (ycq a0 a1 a2 a3 a4 a5 a b d l0 l1 l2 i3 l4 i))))
 (a l0 l1 l2 i3 l4 i5 false))
def yfN (a0:yaQ) (a1:yay) (a2:yav) (a3:yaq) (a4:yaO) (a5:yau) (a:Ls→Ls→Ls→Ls→Int→Ls→Int→Bool→Prop) (b:Ls→Ls→Ls→Ls→Bool→Int→Prop):Nat→Ls→Ls→Ls→Ls→Int→Ls→Int→Prop
 | 0,_,_,_,_,_,_,_=>False
 | d+1,l0,l1,l2,l3,i6,l7,i8 =>
 (cbr (decide (i8<(5:Int)))
 (jn (fun c =>
 (asr (!(decide (i8<(0:Int))))
 (lt (Int.fdiv i6 (2 ^ (min i8.toNat IntKind.u8.bits))) (fun e =>
 (lt (IntKind.u8.wrap (BitVec.ofInt IntKind.u8.bits e&&&BitVec.ofInt IntKind.u8.bits (1:Int)).toNat) (fun f =>
 (cbr (f ==(0:Int))
 c
 (asr (!(decide (i8<(0:Int))))
 (lt (IntKind.u8.wrap ((1:Int)*2 ^ (min i8.toNat IntKind.u8.bits))) (fun g =>
 (asr (decide ((List.length l0)=(List.length l0)))
 (asr (decide ((0+(List.length l0))≤(List.length l0)))
 (a5 l1 l2 l3 (List.take (List.length l0) l0) g (fun _ _ h =>
 (cbr h
 (b l0 l1 l2 l3 false (0:Int))
 c)))))))))))))))
 (lt (IntKind.i64.wrap (i8+(1:Int))) (fun i =>
 (asr (decide ((List.length l0)=List.length l0)&&decide ((List.length l0)=List.length l0))
 (yfN a0 a1 a2 a3 a4 a5 a b d l0 l1 l2 l3 i6 l7 i)))))
 (a l0 l1 l2 l3 i6 l7 i8 false))
def ynR (a0:yaQ) (a1:yay) (a2:yav) (a3:yaq) (a4:yaO) (a5:yau) (p0 p1:Ls) (p2:Int) (p3:Ls) (K:Bool→Int→Prop):Prop :=
 (a0 p0 p1 (fun a c =>
 (cbr (c !=(0:Int))
 (cbr (c !=(0:Int))
 (K false c)
 (cbr (decide (p2≥(32:Int)))
 (K false (0:Int))
 False))
 (jn (fun (g:Ls→Ls→Ls→Bool→Prop) =>
 (cbr (decide (p2≥(32:Int)))
 (g p0 p1 a true)
 (jn (fun (d:Ls→Ls→Ls→Bool→Prop) =>
 (cbr ((((List.length a):Nat):Int) !=(((List.length p3):Nat):Int))
 (d p0 p1 a false)
 (∃ o:Nat,ycQ a0 a1 a2 a3 a4 a5
 (fun p q r _ _ _ _ _=>(d p q r true))
 (fun s t u v=>(d s t u v))
 o p0 p1 a p3 a (((List.length a):Nat):Int) (0:Int))))
 (fun w x y z=>(g w x y (!z))))))
 (fun e h i A=>(cbr A
 (K false (0:Int))
 (jn (fun (j:Ls→Ls→Ls→Prop) =>
 (lt (IntKind.u8.wrap (BitVec.ofInt IntKind.u8.bits p2&&&BitVec.ofInt IntKind.u8.bits (8:Int)).toNat) (fun B =>
 (cbr (B !=(0:Int))
 (jn (fun (k:Ls→Ls→Ls→Int→Prop) =>
 (jn (fun (l:Ls→Ls→Ls→Ls→Int→Prop) =>
 (∃ C:Nat,yhq a0 a1 a2 a3 a4 a5
 (fun D E F _ _ _=>(k D E F (0:Int)))
 (fun G H I J=>(k G H I J))
 (fun L M N O _ _ _=>(l L M N O (0:Int)))
 (fun Q R S T U=>(l Q R S T U))
 C e h i (((List.length e):Nat):Int) (0:Int)))
 (fun b V W X m=>(cbr (m !=(0:Int))
 (K false m)
 (asr (decide ((List.length b)=List.length b)&&decide ((List.length b)=List.length b))
 (∃ f:Nat,yfN a0 a1 a2 a3 a4 a5
 (fun _ _ _ _ _ _ _ _=>(K true (0:Int)))
 (fun _ _ _ _ Y Z=>(K Y Z))
 f b V W X p2 p3 (0:Int)))))))
 (fun va vb vc n=>(cbr (n !=(0:Int))
 (K false n)
 (j va vb vc))))
 (j e h i)))))
 (fun vd ve vf=>(∃ f:Nat,ycq a0 a1 a2 a3 a4 a5
 (fun _ _ _ _ _ _ _=>(K true (0:Int)))
 (fun _ _ _ vg vh=>(K vg vh))
 f vd ve vf p2 p3 (0:Int))))))))))
def ycv (p0 p1:Ls) (p2:Int) (p3:Ls) (K:Bool→Int→Prop):Prop:=ynR yax yao yae yam yaz yaj p0 p1 p2 p3 K
def ynS (w:ygW) (as:Ls) (K:PV→Prop):Prop :=
 match as with
 | [(.data p0),(.agg [(.data p1)]),(.agg [(.int .u8 p2),(.data p3)])]=>w p0 p1 p2 p3 (fun r0 r1=>K (.tup [(.bool r0),(.int .i64 r1)]))
 | _=>False
def ytk (as:Ls) (K:PV→Prop):Prop:=ynS ycv as K
def yfz (F:Frm) (H:Hp) (A0:Ls→Ls→Ls→Ls→Ls→Int→Int→Prop):Prop :=
 match F,H with
 | [(1,.v (.data l3)),(2,.v (.fn (.func q0) [] [])),(15,.v (.data l4)),(16,.v (.int .i64 i5)),(17,.v (.int .i64 i6))],[⟨false,false,4,[(.agg [(.data l0),(.data l1),(.data l2),.nils])]⟩]=>asr (Nat.beq q0 yaN) (A0 l0 l1 l2 l3 l4 i5 i6)
 | _,_=>False
def yfA (F:Frm) (H:Hp) (A0:Ls→Ls→Ls→Int→Int→Prop) (A1:Ls→Ls→Ls→Ls→Int→Int→Prop):Prop :=
 match F,H with
 | [(0,.v (.ptr 0 1 0 0)),(12,.v (.int .i64 i3)),(13,.v (.int .i64 i4))],[⟨false,false,4,[(.agg [(.data l0),(.data l1),(.data l2),.nils])]⟩]=>(A0 l0 l1 l2 i3 i4)
 | [(0,.v (.ptr 0 1 0 0)),(12,.v (.int .i64 i6)),(13,.v (.int .i64 i7))],[⟨false,false,4,[(.agg [(.data l1),(.data l2),(.data l3),(.own 1 0 t4 t5 none)])]⟩,⟨false,true,2,l0⟩]=>asr (decide (t4=List.length l0)&&decide (t5=List.length l0)) (A1 l0 l1 l2 l3 i6 i7)
 | _,_=>False
def yfB (F:Frm) (H:Hp) (A0:Ls→Ls→Ls→Int→Ls→Int→Prop) (A1:Ls→Ls→Ls→Ls→Int→Ls→Int→Prop):Prop :=
 match F,H with
 | [(5,.box (.agg [(.int .u8 i3),(.data l4)])),(8,.v (.ptr 0 1 0 0)),(46,.v (.int .i64 i5))],[⟨false,false,4,[(.agg [(.data l0),(.data l1),(.data l2),.nils])]⟩]=>(A0 l0 l1 l2 i3 l4 i5)
 | [(5,.box (.agg [(.int .u8 i6),(.data l7)])),(8,.v (.ptr 0 1 0 0)),(46,.v (.int .i64 i8))],[⟨false,false,4,[(.agg [(.data l1),(.data l2),(.data l3),(.own 1 0 t4 t5 none)])]⟩,⟨false,true,2,l0⟩]=>asr (decide (t4=List.length l0)&&decide (t5=List.length l0)) (A1 l0 l1 l2 l3 i6 l7 i8)
 | _,_=>False
def ykc (Q:Qx):Ls→Ls→Ls→Ls→Ls→Int→Int→Bool→Prop:=(fun l0 l1 l2 l3 l4 i5 i6 b7=>Q (.exit 0) [(1,.v (.data l3)),(2,.v (.fn (.func yaN) [] [])),(15,.v (.data l4)),(16,.v (.int .i64 i5)),(17,.v (.int .i64 i6)),(18,.v (.bool b7))] [⟨false,false,4,([(.agg [(.data l0),(.data l1),(.data l2),.nils])]:Ls)⟩])
def ykd (Q:Qx):Ls→Ls→Ls→Bool→Prop:=(fun l0 l1 l2 b3=>Q .ret [(6,.v (.bool b3))] [⟨false,false,4,([(.agg [(.data l0),(.data l1),(.data l2),.nils])]:Ls)⟩])
def yke (Q:Qx):Ls→Ls→Ls→Int→Int→Bool→Prop:=(fun l0 l1 l2 i3 i4 b5=>Q (.exit 0) [(0,.v (.ptr 0 1 0 0)),(12,.v (.int .i64 i3)),(13,.v (.int .i64 i4)),(14,.v (.bool b5))] [⟨false,false,4,([(.agg [(.data l0),(.data l1),(.data l2),.nils])]:Ls)⟩])
def ykf (Q:Qx):Ls→Ls→Ls→Int→Prop:=(fun l0 l1 l2 i3=>Q .ret [(2,.v (.int .i64 i3))] [⟨false,false,4,([(.agg [(.data l0),(.data l1),(.data l2),.nils])]:Ls)⟩])
def yer (Q:Qx):Ls→Ls→Ls→Ls→Int→Int→Bool→Prop:=(fun l0 l1 l2 l3 i6 i7 b8=>Q (.exit 0) [(0,.v (.ptr 0 1 0 0)),(12,.v (.int .i64 i6)),(13,.v (.int .i64 i7)),(14,.v (.bool b8))] [⟨false,false,4,([(.agg [(.data l1),(.data l2),(.data l3),(.own 1 0 (List.length l0) (List.length l0) none)])]:Ls)⟩,⟨false,true,2,l0⟩])
def yet (Q:Qx):Ls→Ls→Ls→Ls→Int→Prop:=(fun l0 l1 l2 l3 i6=>Q .ret [(2,.v (.int .i64 i6))] [⟨false,false,4,([(.agg [(.data l1),(.data l2),(.data l3),(.own 1 0 (List.length l0) (List.length l0) none)])]:Ls)⟩,⟨false,true,2,l0⟩])
def ykg (Q:Qx):Ls→Ls→Ls→Int→Ls→Int→Bool→Prop:=(fun l0 l1 l2 i3 l4 i5 b6=>Q (.exit 0) [(5,.box (.agg [(.int .u8 i3),(.data l4)])),(8,.v (.ptr 0 1 0 0)),(46,.v (.int .i64 i5)),(47,.v (.bool b6))] [⟨false,false,4,([(.agg [(.data l0),(.data l1),(.data l2),.nils])]:Ls)⟩])
def ykh (Q:Qx):Ls→Ls→Ls→Bool→Int→Prop:=(fun l0 l1 l2 b3 i4=>Q .ret [(6,.v (.bool b3)),(7,.v (.int .i64 i4))] [⟨false,false,4,([(.agg [(.data l0),(.data l1),(.data l2),.nils])]:Ls)⟩])
def yki (Q:Qx):Ls→Ls→Ls→Ls→Int→Ls→Int→Bool→Prop:=(fun l0 l1 l2 l3 i6 l7 i8 b9=>Q (.exit 0) [(5,.box (.agg [(.int .u8 i6),(.data l7)])),(8,.v (.ptr 0 1 0 0)),(46,.v (.int .i64 i8)),(47,.v (.bool b9))] [⟨false,false,4,([(.agg [(.data l1),(.data l2),(.data l3),(.own 1 0 (List.length l0) (List.length l0) none)])]:Ls)⟩,⟨false,true,2,l0⟩])
def ykj (Q:Qx):Ls→Ls→Ls→Ls→Bool→Int→Prop:=(fun l0 l1 l2 l3 b6 i7=>Q .ret [(6,.v (.bool b6)),(7,.v (.int .i64 i7))] [⟨false,false,4,([(.agg [(.data l1),(.data l2),(.data l3),(.own 1 0 (List.length l0) (List.length l0) none)])]:Ls)⟩,⟨false,true,2,l0⟩])
def yjd (a0:yaQ) (a1:yay) (a2:yav) (a3:yaq) (a4:yaO) (a5:yau) (Q:Qx) (n:Nat) (F:Frm) (H:Hp):Prop:=yfz F H (fun l0 l1 l2 l3 l4 i5 i6=>ycQ a0 a1 a2 a3 a4 a5 (ykc Q) (ykd Q) n l0 l1 l2 l3 l4 i5 i6)
def ygX (a0:yaQ) (a1:yay) (a2:yav) (a3:yaq) (a4:yaO) (a5:yau) (Q:Qx) (n:Nat) (F:Frm) (H:Hp):Prop:=yfA F H (fun l0 l1 l2 i3 i4=>yhq a0 a1 a2 a3 a4 a5 (yke Q) (ykf Q) (yer Q) (yet Q) n l0 l1 l2 i3 i4) (fun l0 l1 l2 l3 i6 i7=>yfM a0 a1 a2 a3 a4 a5 (yer Q) (yet Q) n l0 l1 l2 l3 i6 i7)
def ygY (a0:yaQ) (a1:yay) (a2:yav) (a3:yaq) (a4:yaO) (a5:yau) (Q:Qx) (n:Nat) (F:Frm) (H:Hp):Prop:=yfB F H (fun l0 l1 l2 i3 l4 i5=>ycq a0 a1 a2 a3 a4 a5 (ykg Q) (ykh Q) n l0 l1 l2 i3 l4 i5) (fun l0 l1 l2 l3 i6 l7 i8=>yfN a0 a1 a2 a3 a4 a5 (yki Q) (ykj Q) n l0 l1 l2 l3 i6 l7 i8)
def ybM (a0:yaQ) (a1:yay) (a2:yav) (a3:yaq) (a4:yaO) (a5:yau):LP:=fun id F H Q =>
 bif Nat.beq id 8009400 then yfz F H (fun l0 l1 l2 l3 l4 i5 i6=>∃ n:Nat,ycQ a0 a1 a2 a3 a4 a5 (ykc Q) (ykd Q) n l0 l1 l2 l3 l4 i5 i6) else
 bif Nat.beq id 20643600 then yfA F H (fun l0 l1 l2 i3 i4=>∃ n:Nat,yhq a0 a1 a2 a3 a4 a5 (yke Q) (ykf Q) (yer Q) (yet Q) n l0 l1 l2 i3 i4) (fun l0 l1 l2 l3 i6 i7=>∃ n:Nat,yfM a0 a1 a2 a3 a4 a5 (yer Q) (yet Q) n l0 l1 l2 l3 i6 i7) else
 bif Nat.beq id 47320500 then yfB F H (fun l0 l1 l2 i3 l4 i5=>∃ n:Nat,ycq a0 a1 a2 a3 a4 a5 (ykg Q) (ykh Q) n l0 l1 l2 i3 l4 i5) (fun l0 l1 l2 l3 i6 l7 i8=>∃ n:Nat,yfN a0 a1 a2 a3 a4 a5 (yki Q) (ykj Q) n l0 l1 l2 l3 i6 l7 i8) else
 False
def yf5 (a0:yaQ) (a1:yay) (a2:yav) (a3:yaq) (a4:yaO) (a5:yau):SE:=⟨(E ef0),yaK [(ybp,ygR a0),(yaN,yc1 a1),(ycZ,yey a2),(ych,ydY a3),(yd5,ygf a4),(ybx,ydk a5)],yaL [(yej,yiO)],ybM a0 a1 a2 a3 a4 a5⟩
def ytl (a0:yaQ) (a1:yay) (a2:yav) (a3:yaq) (a4:yaO) (a5:yau):SE:=⟨(E ef0),yaK [(ybp,ygR a0),(yaN,yc1 a1),(ycZ,yey a2),(ych,ydY a3),(yd5,ygf a4),(ybx,ydk a5)],yaL [(yej,yiO),(ybs,yfd),(yfF,ypp)],ybM a0 a1 a2 a3 a4 a5⟩
theorem ymz:SEOk (yf5 yax yao yae yam yaz yaj):=yat ⟨(yiA ef0 yev),(yem ef0 yev),(yfq ef0 yev),(yfK ef0 yev),(yhi ef0 yev),yef,trivial⟩ ⟨⟨by kernel_rfl,by kernel_rfl,rfl,fun as=>yab (by kernel_rfl) as,yev.num _ (by kernel_rfl),(yai (by kernel_rfl))⟩,trivial⟩ yev.ok
theorem ytC (a0 a1 a2 a3 a4 a5 Q n l0 l1 l2 l3 l4 i5 i6):WC (E ef0) (ybd (yf5 a0 a1 a2 a3 a4 a5) 10) (ybM a0 a1 a2 a3 a4 a5) yrI [(1,.v (.data l3)),(2,.v (.fn (.func yaN) [] [])),(15,.v (.data l4)),(16,.v (.int .i64 i5)),(17,.v (.int .i64 i6))] [⟨false,false,4,([(.agg [(.data l0),(.data l1),(.data l2),.nils])]:Ls)⟩] (exQ (yjd a0 a1 a2 a3 a4 a5 Q n) Q)=ycQ a0 a1 a2 a3 a4 a5 (ykc Q) (ykd Q) (n+1) l0 l1 l2 l3 l4 i5 i6:=by kernel_rfl
theorem yyd:LpOk (E ef0) (ybM yax yao yae yam yaz yaj) yrI:=(yai (by kernel_rfl))
theorem ywi:∀ F H Q,ybM yax yao yae yam yaz yaj 8009400 F H Q→ycr (E ef0) yrI F H Q:=by
 intro F H Q h
 have go:=ycr.intro (yaG (ymz) 10) (yyd) (yjd yax yao yae yam yaz yaj Q) (by
  intro F H h
  unfold yjd yfz at h
  split at h
  ·obtain ⟨hg,k⟩:=yah.1 h
   clear h
   have h:=k
   clear k
   try simp only [qAc,decide_eq_true_eq] at hg
   have g0:=hg;have g0:=qAg g0;subst g0;exact h
  ·exact h) (by
  intro n F H h
  unfold yjd yfz at h
  split at h
  ·obtain ⟨hg,k⟩:=yah.1 h
   clear h
   have h:=k
   clear k
   try simp only [qAc,decide_eq_true_eq] at hg
   have g0:=hg;have g0:=qAg g0;subst g0;exact (ytC ..).mpr h
  ·exact h.elim)
 have h:yfz F H _:=h
 unfold yfz at h
 split at h
 ·obtain ⟨hg,n,h⟩:=yah.1 h;exact go n _ _ (yah.2 ⟨hg,h⟩)
 ·exact h.elim
theorem ytD (a0 a1 a2 a3 a4 a5 Q n l0 l1 l2 i3 i4):WC (E ef0) (ybd (yf5 a0 a1 a2 a3 a4 a5) 10) (ybM a0 a1 a2 a3 a4 a5) yfG [(0,.v (.ptr 0 1 0 0)),(12,.v (.int .i64 i3)),(13,.v (.int .i64 i4))] [⟨false,false,4,([(.agg [(.data l0),(.data l1),(.data l2),.nils])]:Ls)⟩] (exQ (ygX a0 a1 a2 a3 a4 a5 Q n) Q)=yhq a0 a1 a2 a3 a4 a5 (yke Q) (ykf Q) (yer Q) (yet Q) (n+1) l0 l1 l2 i3 i4:=by kernel_rfl
theorem ytE (a0 a1 a2 a3 a4 a5 Q n l0 l1 l2 l3 i6 i7):WC (E ef0) (ybd (yf5 a0 a1 a2 a3 a4 a5) 10) (ybM a0 a1 a2 a3 a4 a5) yfG [(0,.v (.ptr 0 1 0 0)),(12,.v (.int .i64 i6)),(13,.v (.int .i64 i7))] [⟨false,false,4,([(.agg [(.data l1),(.data l2),(.data l3),(.own 1 0 (List.length l0) (List.length l0) none)])]:Ls)⟩,⟨false,true,2,l0⟩] (exQ (ygX a0 a1 a2 a3 a4 a5 Q n) Q)=yfM a0 a1 a2 a3 a4 a5 (yer Q) (yet Q) (n+1) l0 l1 l2 l3 i6 i7:=by kernel_rfl
theorem yye:LpOk (E ef0) (ybM yax yao yae yam yaz yaj) yfG:=(yai (by kernel_rfl))
theorem ywj:∀ F H Q,ybM yax yao yae yam yaz yaj 20643600 F H Q→ycr (E ef0) yfG F H Q:=by
 intro F H Q h
 have go:=ycr.intro (yaG (ymz) 10) (yye) (ygX yax yao yae yam yaz yaj Q) (by
  intro F H h
  unfold ygX yfA at h
  split at h
  ·exact h
  ·obtain ⟨hg,k⟩:=yah.1 h
   clear h
   have h:=k
   clear k
   try simp only [qAc,decide_eq_true_eq] at hg
   obtain ⟨g0,g1⟩:=hg;subst g0;subst g1;exact h
  ·exact h) (by
  intro n F H h
  unfold ygX yfA at h
  split at h
  ·exact (ytD ..).mpr h
  ·obtain ⟨hg,k⟩:=yah.1 h
   clear h
   have h:=k
   clear k
   try simp only [qAc,decide_eq_true_eq] at hg
   obtain ⟨g0,g1⟩:=hg;subst g0;subst g1;exact (ytE ..).mpr h
  ·exact h.elim)
 have h:yfA F H _ _:=h
 unfold yfA at h
 split at h
 ·obtain ⟨n,h⟩:=h;exact go n _ _ h
 ·obtain ⟨hg,n,h⟩:=yah.1 h;exact go n _ _ (yah.2 ⟨hg,h⟩)
 ·exact h.elim
theorem ytF (a0 a1 a2 a3 a4 a5 Q n l0 l1 l2 i3 l4 i5):WC (E ef0) (ybd (yf5 a0 a1 a2 a3 a4 a5) 10) (ybM a0 a1 a2 a3 a4 a5) ylY [(5,.box (.agg [(.int .u8 i3),(.data l4)])),(8,.v (.ptr 0 1 0 0)),(46,.v (.int .i64 i5))] [⟨false,false,4,([(.agg [(.data l0),(.data l1),(.data l2),.nils])]:Ls)⟩] (exQ (ygY a0 a1 a2 a3 a4 a5 Q n) Q)=ycq a0 a1 a2 a3 a4 a5 (ykg Q) (ykh Q) (n+1) l0 l1 l2 i3 l4 i5:=by kernel_rfl
theorem ytG (a0 a1 a2 a3 a4 a5 Q n l0 l1 l2 l3 i6 l7 i8):WC (E ef0) (ybd (yf5 a0 a1 a2 a3 a4 a5) 10) (ybM a0 a1 a2 a3 a4 a5) ylY [(5,.box (.agg [(.int .u8 i6),(.data l7)])),(8,.v (.ptr 0 1 0 0)),(46,.v (.int .i64 i8))] [⟨false,false,4,([(.agg [(.data l1),(.data l2),(.data l3),(.own 1 0 (List.length l0) (List.length l0) none)])]:Ls)⟩,⟨false,true,2,l0⟩] (exQ (ygY a0 a1 a2 a3 a4 a5 Q n) Q)=yfN a0 a1 a2 a3 a4 a5 (yki Q) (ykj Q) (n+1) l0 l1 l2 l3 i6 l7 i8:=by kernel_rfl
theorem yyf:LpOk (E ef0) (ybM yax yao yae yam yaz yaj) ylY:=(yai (by kernel_rfl))
theorem ywk:∀ F H Q,ybM yax yao yae yam yaz yaj 47320500 F H Q→ycr (E ef0) ylY F H Q:=by
 intro F H Q h
 have go:=ycr.intro (yaG (ymz) 10) (yyf) (ygY yax yao yae yam yaz yaj Q) (by
  intro F H h
  unfold ygY yfB at h
  split at h
  ·exact h
  ·obtain ⟨hg,k⟩:=yah.1 h
   clear h
   have h:=k
   clear k
   try simp only [qAc,decide_eq_true_eq] at hg
   obtain ⟨g0,g1⟩:=hg;subst g0;subst g1;exact h
  ·exact h) (by
  intro n F H h
  unfold ygY yfB at h
  split at h
  ·exact (ytF ..).mpr h
  ·obtain ⟨hg,k⟩:=yah.1 h
   clear h
   have h:=k
   clear k
   try simp only [qAc,decide_eq_true_eq] at hg
   obtain ⟨g0,g1⟩:=hg;subst g0;subst g1;exact (ytG ..).mpr h
  ·exact h.elim)
 have h:yfB F H _ _:=h
 unfold yfB at h
 split at h
 ·obtain ⟨n,h⟩:=h;exact go n _ _ h
 ·obtain ⟨hg,n,h⟩:=yah.1 h;exact go n _ _ (yah.2 ⟨hg,h⟩)
 ·exact h.elim
theorem yBp:SEOk (ytl yax yao yae yam yaz yaj):=yat ⟨(yiA ef0 yev),(yem ef0 yev),(yfq ef0 yev),(yfK ef0 yev),(yhi ef0 yev),yef,trivial⟩ ⟨⟨by kernel_rfl,by kernel_rfl,rfl,fun as=>yab (by kernel_rfl) as,yev.num _ (by kernel_rfl),(yai (by kernel_rfl))⟩,⟨by kernel_rfl,by kernel_rfl,rfl,fun as=>yab (by kernel_rfl) as,yev.num _ (by kernel_rfl),(ybg (l:=[(8009400,yrI)]) ⟨ywi,trivial⟩ (by kernel_rfl))⟩,⟨by kernel_rfl,by kernel_rfl,rfl,fun as=>yab (by kernel_rfl) as,yev.num _ (by kernel_rfl),(ybg (l:=[(20643600,yfG)]) ⟨ywj,trivial⟩ (by kernel_rfl))⟩,trivial⟩ yev.ok
theorem yCT (a0 a1 a2 a3 a4 a5 p0 p1 p2 p3 K):WP (ytl a0 a1 a2 a3 a4 a5) 11 yDZ [(.data p0),(.agg [(.data p1)]),(.agg [(.int .u8 p2),(.data p3)])] K=ynR a0 a1 a2 a3 a4 a5 p0 p1 p2 p3 (fun r0 r1=>K (.tup [(.bool r0),(.int .i64 r1)])):=by kernel_rfl
theorem ytm:OkF (E ef0) ytk yik:=by
 intro as K h
 unfold ytk ynS at h
 split at h
 ·exact ya6 (yBp) (ybg (l:=[(47320500,ylY)]) ⟨ywk,trivial⟩ (by kernel_rfl)) (by kernel_rfl) (by kernel_rfl) (fun _=>yab (by kernel_rfl) _) (yev.num _ (by kernel_rfl)) ((yCT ..).mpr h)
 ·exact h.elim
end Go.Pf.Vc
namespace Go.Pf.Vc
open Go Go.Pf
set_option linter.unusedVariables false
theorem yCU (p0:Ls) (p1:Ls) (r0:Int) (h:∀ K:Int→Prop,K r0→ygp p0 p1 K) (K:Int→Prop):ygp p0 p1 K=K r0 :=
 propext ⟨fun k=>detC (yu1 [] yba) (as:=[(.data p0),(.agg [(.data p1)])]) (x:=(.int .i64 r0)) (fun K' k'=>h (fun r0=>K' (.int .i64 r0)) k') (K:=fun x=>match x with | (.int .i64 r0)=>K r0 | _=>False) k,h K⟩
theorem yCV (p0:Ls) (p1:Ls) (r0:Ls) (r1:Int) (h:∀ K:Ls→Int→Prop,K r0 r1→yax p0 p1 K) (K:Ls→Int→Prop):yax p0 p1 K=K r0 r1 :=
 propext ⟨fun k=>detC (yiA [] yba) (as:=[(.data p0),(.agg [(.data p1)])]) (x:=(.tup [(.data r0),(.int .i64 r1)])) (fun K' k'=>h (fun r0 r1=>K' (.tup [(.data r0),(.int .i64 r1)])) k') (K:=fun x=>match x with | (.tup [(.data r0),(.int .i64 r1)])=>K r0 r1 | _=>False) k,h K⟩
theorem yz1 (p0:Int) (p1:Int) (p2:Int) (p3:Int) (p4:Ls) (r0:Bool) (h:∀ K:Bool→Prop,K r0→ycf p0 p1 p2 p3 p4 K) (K:Bool→Prop):ycf p0 p1 p2 p3 p4 K=K r0 :=
 propext ⟨fun k=>detC (ymu [] yba) (as:=[(.agg [(.int .i64 p0),(.int .i64 p1),(.int .i64 p2),(.int .i64 p3)]),(.eptr [(.data p4)] 0 0)]) (x:=(.bool r0)) (fun K' k'=>h (fun r0=>K' (.bool r0)) k') (K:=fun x=>match x with | (.bool r0)=>K r0 | _=>False) k,h K⟩
theorem yCW (p0:Ls) (p1:Ls) (r0:Bool) (h:∀ K:Bool→Prop,K r0→yak p0 p1 K) (K:Bool→Prop):yak p0 p1 K=K r0 :=
 propext ⟨fun k=>detC (yp2 [] yba) (as:=[(.data p0),(.data p1)]) (x:=(.bool r0)) (fun K' k'=>h (fun r0=>K' (.bool r0)) k') (K:=fun x=>match x with | (.bool r0)=>K r0 | _=>False) k,h K⟩
theorem ywl (p0:Ls) (p1:Ls) (p2:Ls) (p3:Ls) (r0:Bool) (h:∀ K:Bool→Prop,K r0→yad p0 p1 p2 p3 K) (K:Bool→Prop):yad p0 p1 p2 p3 K=K r0 :=
 propext ⟨fun k=>detC ykb (as:=[(.eptr [(.agg [(.data p0),(.data p1),(.data p2),(.data p3)])] 0 0)]) (x:=(.bool r0)) (fun K' k'=>h (fun r0=>K' (.bool r0)) k') (K:=fun x=>match x with | (.bool r0)=>K r0 | _=>False) k,h K⟩
theorem ysU (p0:Ls) (p1:Ls) (p2:Ls) (p3:Ls) (p4:Int) (r0:Int) (r1:Int) (r2:Bool) (h:∀ K:Int→Int→Bool→Prop,K r0 r1 r2→yaj p0 p1 p2 p3 p4 K) (K:Int→Int→Bool→Prop):yaj p0 p1 p2 p3 p4 K=K r0 r1 r2 :=
 propext ⟨fun k=>detC yef (as:=[(.eptr [(.agg [(.data p0),(.data p1),(.data p2),(.data p3)])] 0 0),(.int .u8 p4)]) (x:=(.tup [(.int .i64 r0),(.int .i64 r1),(.bool r2)])) (fun K' k'=>h (fun r0 r1 r2=>K' (.tup [(.int .i64 r0),(.int .i64 r1),(.bool r2)])) k') (K:=fun x=>match x with | (.tup [(.int .i64 r0),(.int .i64 r1),(.bool r2)])=>K r0 r1 r2 | _=>False) k,h K⟩
theorem yEQ (p0:Ls) (p1:Ls) (r0:Int) (r1:Ls) (r2:Int) (h:∀ K:Int→Ls→Int→Prop,K r0 r1 r2→ydx p0 p1 K) (K:Int→Ls→Int→Prop):ydx p0 p1 K=K r0 r1 r2 :=
 propext ⟨fun k=>detC yw8 (as:=[(.data p0),(.agg [(.data p1)])]) (x:=(.tup [(.agg [(.int .u8 r0),(.data r1)]),(.int .i64 r2)])) (fun K' k'=>h (fun r0 r1 r2=>K' (.tup [(.agg [(.int .u8 r0),(.data r1)]),(.int .i64 r2)])) k') (K:=fun x=>match x with | (.tup [(.agg [(.int .u8 r0),(.data r1)]),(.int .i64 r2)])=>K r0 r1 r2 | _=>False) k,h K⟩
theorem yBq (p0:Ls) (p1:Ls) (p2:Int) (p3:Ls) (r0:Bool) (r1:Int) (h:∀ K:Bool→Int→Prop,K r0 r1→ycv p0 p1 p2 p3 K) (K:Bool→Int→Prop):ycv p0 p1 p2 p3 K=K r0 r1 :=
 propext ⟨fun k=>detC ytm (as:=[(.data p0),(.agg [(.data p1)]),(.agg [(.int .u8 p2),(.data p3)])]) (x:=(.tup [(.bool r0),(.int .i64 r1)])) (fun K' k'=>h (fun r0 r1=>K' (.tup [(.bool r0),(.int .i64 r1)])) k') (K:=fun x=>match x with | (.tup [(.bool r0),(.int .i64 r1)])=>K r0 r1 | _=>False) k,h K⟩
end Go.Pf.Vc
namespace Go.Pf.Vc
open Go Go.Pf
set_option maxRecDepth 100000
abbrev yoJ:Type:=Ls→(Bool→Prop)→Prop
def yyg (a0:yiX) (a1:yqx) (p0:Ls) (K:Bool→Prop):Prop :=
 (jn (fun (a:Bool→Prop) =>
 (a0 p0 (fun b =>
 (cbr (!b)
 (a1 p0 ([]:Ls) (fun c =>
 (a (c ==(0:Int)))))
 (a false)))))
 (fun d=>(K d)))
def yje (p0:Ls) (K:Bool→Prop):Prop:=yyg yeo yiz p0 K
def yyh (w:yoJ) (as:Ls) (K:PV→Prop):Prop :=
 match as with
 | [(.data p0)]=>w p0 (fun r0=>K (.bool r0))
 | _=>False
def yER (as:Ls) (K:PV→Prop):Prop:=yyh yje as K
def yMI (_:yiX) (_:yqx):LP:=fun _ _ _ _ =>
 False
def yES (e:Es) (a0:yiX) (a1:yqx):SE:=⟨(E e),yaK [(ygI,ylg a0),(ym9,ysK a1)],yaL [],yMI a0 a1⟩
theorem yKF (e:Es) (he:EG e):SEOk (yES e yeo yiz):=yat ⟨(yqw e he),(yzL e he),trivial⟩ trivial he.ok
theorem yMJ (e:Es) (a0 a1 p0 K):WP (yES e a0 a1) 6 yOL [(.data p0)] K=yyg a0 a1 p0 (fun r0=>K (.bool r0)):=by kernel_rfl
theorem yMK (e:Es) (he:EG e):OkF (E e) yER yrz:=by
 intro as K h
 unfold yER yyh at h
 split at h
 ·exact ya6 (yKF e he) (yai (by kernel_rfl)) (by kernel_rfl) (by kernel_rfl) (fun _=>yab (by kernel_rfl) _) (he.num _ (by kernel_rfl)) ((yMJ ..).mpr h)
 ·exact h.elim
abbrev yqB:Type:=(Ls→Prop)→Prop
def yz2 (K:Ls→Prop):Prop :=
 (K ([(.agg [(.int .i64 (6:Int)),(.data ([(.int .i64 (0:Int)),(.int .i64 (6:Int))]:Ls)),(.data ([(.int .i64 (1:Int))]:Ls))]),(.agg [(.int .i64 (6:Int)),(.data ([(.int .i64 (0:Int)),(.int .i64 (4:Int)),(.int .i64 (6:Int))]:Ls)),(.data ([(.int .i64 (1:Int)),(.int .i64 (4:Int))]:Ls))]),(.agg [(.int .i64 (6:Int)),(.data ([(.int .i64 (0:Int)),(.int .i64 (2:Int)),(.int .i64 (6:Int))]:Ls)),(.data ([(.int .i64 (2:Int)),(.int .i64 (0:Int))]:Ls))])]:Ls))
def yqC (K:Ls→Prop):Prop:=yz2  K
def ysV (w:yqB) (as:Ls) (K:PV→Prop):Prop :=
 match as with
 | []=>w  (fun r0=>K (.data r0))
 | _=>False
def yz3 (as:Ls) (K:PV→Prop):Prop:=ysV yqC as K
def yIX:LP:=fun _ _ _ _ =>
 False
def yz4 (e:Es):SE:=⟨(E e),yaK [],yaL [],yIX⟩
theorem yGw (e:Es) (he:EG e):SEOk (yz4 e):=yat trivial trivial he.ok
theorem yIY (e:Es) ( K):WP (yz4 e) 6 yJ6 [] K=yz2  (fun r0=>K (.data r0)):=by kernel_rfl
theorem yIZ (e:Es) (he:EG e):OkF (E e) yz3 yna:=by
 intro as K h
 unfold yz3 ysV at h
 split at h
 ·exact ya6 (yGw e he) (yai (by kernel_rfl)) (by kernel_rfl) (by kernel_rfl) (fun _=>yab (by kernel_rfl) _) (he.num _ (by kernel_rfl)) ((yIY ..).mpr h)
 ·exact h.elim
abbrev yvC:Type:=(Int→Ls→Ls→Int→Ls→Ls→Prop)→Prop
def yET (K:Int→Ls→Ls→Int→Ls→Ls→Prop):Prop :=
 (K (4:Int) ([(.int .i64 (0:Int)),(.int .i64 (4:Int))]:Ls) ([(.int .i64 (1:Int))]:Ls) (4:Int) ([(.int .i64 (0:Int)),(.int .i64 (1:Int)),(.int .i64 (4:Int))]:Ls) ([(.int .i64 (3:Int)),(.int .i64 (1:Int))]:Ls))
def yvD (K:Int→Ls→Ls→Int→Ls→Ls→Prop):Prop:=yET  K
def yyi (w:yvC) (as:Ls) (K:PV→Prop):Prop :=
 match as with
 | []=>w  (fun r0 r1 r2 r3 r4 r5=>K (.tup [(.agg [(.int .i64 r0),(.data r1),(.data r2)]),(.agg [(.int .i64 r3),(.data r4),(.data r5)])]))
 | _=>False
def yEU (as:Ls) (K:PV→Prop):Prop:=yyi yvD as K
def yML:LP:=fun _ _ _ _ =>
 False
def yEV (e:Es):SE:=⟨(E e),yaK [],yaL [],yML⟩
theorem yKG (e:Es) (he:EG e):SEOk (yEV e):=yat trivial trivial he.ok
theorem yMM (e:Es) ( K):WP (yEV e) 6 yOQ [] K=yET  (fun r0 r1 r2 r3 r4 r5=>K (.tup [(.agg [(.int .i64 r0),(.data r1),(.data r2)]),(.agg [(.int .i64 r3),(.data r4),(.data r5)])])):=by kernel_rfl
theorem yMN (e:Es) (he:EG e):OkF (E e) yEU yrB:=by
 intro as K h
 unfold yEU yyi at h
 split at h
 ·exact ya6 (yKG e he) (yai (by kernel_rfl)) (by kernel_rfl) (by kernel_rfl) (fun _=>yab (by kernel_rfl) _) (he.num _ (by kernel_rfl)) ((yMM ..).mpr h)
 ·exact h.elim
abbrev yls:Type:=Int→(Int→Int→Prop)→Prop
def yHj (a0:yzC) (p0:Int) (K:Int→Int→Prop):Prop :=
 (a0 p0 (fun a b =>
 (K a b)))
def yiF (p0:Int) (K:Int→Int→Prop):Prop:=yHj yEB p0 K
def yvE (w:yls) (as:Ls) (K:PV→Prop):Prop :=
 match as with
 | [(.int .i64 p0)]=>w p0 (fun r0 r1=>K (.agg [(.int .i64 r0),(.int .i64 r1)]))
 | _=>False
def yHk (as:Ls) (K:PV→Prop):Prop:=yvE yiF as K
def yOZ (_:yzC):LP:=fun _ _ _ _ =>
 False
def yHl (e:Es) (a0:yzC):SE:=⟨(E e),yaK [(ytU,yBg a0)],yaL [],yOZ a0⟩
theorem yMO (e:Es) (he:EG e):SEOk (yHl e yEB):=yat ⟨(yOY e he),trivial⟩ trivial he.ok
theorem yO0 (e:Es) (a0 p0 K):WP (yHl e a0) 6 yQm [(.int .i64 p0)] K=yHj a0 p0 (fun r0 r1=>K (.agg [(.int .i64 r0),(.int .i64 r1)])):=by kernel_rfl
theorem yHm (e:Es) (he:EG e):OkF (E e) yHk yga:=by
 intro as K h
 unfold yHk yvE at h
 split at h
 ·exact ya6 (yMO e he) (yai (by kernel_rfl)) (by kernel_rfl) (by kernel_rfl) (fun _=>yab (by kernel_rfl) _) (he.num _ (by kernel_rfl)) ((yO0 ..).mpr h)
 ·exact h.elim
abbrev yky:Type:=(Bool→Prop)→Prop
def ysW (a0:yqB) (a1:yeA) (a2:yvC) (a3:yls) (a4:ym0) (a5:yqs) (a6:yom) (a7:ysL) (a8:ysM) (K:Bool→Prop):Prop :=
 (a0  (fun h =>
 (a1 h (fun i j k l =>
 (a2  (fun b c d e f g =>
 (a3 (0:Int) (fun m n =>
 (a4 b c d m n (fun o p q =>
 (a3 (0:Int) (fun r s =>
 (a5 b c d e f g r s (fun t u v =>
 (a3 (1:Int) (fun w x =>
 (a5 b c d e f g w x (fun y z A =>
 (a6 b c d e f g (fun B C D E F =>
 (jn (fun (a:Bool→Prop) =>
 (cbr (l ==(0:Int))
 (a7 j ([(.int .i64 (2:Int)),(.int .i64 (0:Int)),(.int .i64 (1:Int))]:Ls) (fun G =>
 (cbr G
 (cbr ((((List.length k):Nat):Int) ==(5:Int))
 (a3 (6:Int) (fun H I =>
 (a3 (0:Int) (fun J L =>
 (a8 i ([(.data ([(.agg [(.int .i64 (2:Int)),(.int .i64 (3:Int)),(.int .i64 (8:Int)),(.int .i64 (3:Int))])]:Ls)),(.data ([(.agg [(.int .i64 (8:Int)),(.int .i64 (3:Int)),(.int .i64 H),(.int .i64 I)])]:Ls)),(.data ([(.agg [(.int .i64 J),(.int .i64 L),(.int .i64 (2:Int)),(.int .i64 (3:Int))])]:Ls))]:Ls) (fun M =>
 (cbr M
 (cbr (q ==(0:Int))
 (a3 (2:Int) (fun N O =>
 (cbr ((o == N)&&((p == O)&&true))
 (cbr (v ==(0:Int))
 (a3 (1:Int) (fun Q R =>
 (cbr ((t == Q)&&((u == R)&&true))
 (cbr (A ==(0:Int))
 (a3 (-1:Int) (fun S T =>
 (cbr ((y == S)&&((z == T)&&true))
 (cbr (F ==(0:Int))
 (a ((B ==(1:Int))&&((C ==(2:Int))&&((D ==(5:Int))&&((E ==(2:Int))&&true)))))
 (a false))
 (a false))))
 (a false))
 (a false))))
 (a false))
 (a false))))
 (a false))
 (a false))))))))
 (a false))
 (a false))))
 (a false)))
 (fun U=>(K U)))))))))))))))))))))))
def yeK (K:Bool→Prop):Prop:=ysW yqC ycA yvD yiF ygm yiv yiW yj8 yj9  K
def ysX (w:yky) (as:Ls) (K:PV→Prop):Prop :=
 match as with
 | []=>w  (fun r0=>K (.bool r0))
 | _=>False
def yz5 (as:Ls) (K:PV→Prop):Prop:=ysX yeK as K
def yI0 (_:yqB) (_:yeA) (_:yvC) (_:yls) (_:ym0) (_:yqs) (_:yom) (_:ysL) (_:ysM):LP:=fun _ _ _ _ =>
 False
def yz6 (e:Es) (a0:yqB) (a1:yeA) (a2:yvC) (a3:yls) (a4:ym0) (a5:yqs) (a6:yom) (a7:ysL) (a8:ysM):SE:=⟨(E e),yaK [(yna,ysV a0),(ygj,yld a1),(yrB,yyi a2),(yga,yvE a3),(ycT,ypP a4),(ycN,ysx a5),(yg7,yra a6),(yo0,yuO a7),(yo2,yuU a8)],yaL [],yI0 a0 a1 a2 a3 a4 a5 a6 a7 a8⟩
theorem yGx (e:Es) (he:EG e):SEOk (yz6 e yqC ycA yvD yiF ygm yiv yiW yj8 yj9):=yat ⟨(yIZ e he),(ypO e he),(yMN e he),(yHm e he),(yuH e he),(yzB e he),(yw0 e he),(yB7 e he),(yCb e he),trivial⟩ trivial he.ok
theorem yI1 (e:Es) (a0 a1 a2 a3 a4 a5 a6 a7 a8 K):WP (yz6 e a0 a1 a2 a3 a4 a5 a6 a7 a8) 6 yKh [] K=ysW a0 a1 a2 a3 a4 a5 a6 a7 a8  (fun r0=>K (.bool r0)):=by kernel_rfl
theorem yI2 (e:Es) (he:EG e):OkF (E e) yz5 ykq:=by
 intro as K h
 unfold yz5 ysX at h
 split at h
 ·exact ya6 (yGx e he) (yai (by kernel_rfl)) (by kernel_rfl) (by kernel_rfl) (fun _=>yab (by kernel_rfl) _) (he.num _ (by kernel_rfl)) ((yI1 ..).mpr h)
 ·exact h.elim
abbrev yCX:Type:=Ls→(Bool→Prop)→Prop
def yce (a0:yoJ) (a1:yky) (a2:yeA) (a3:yiV) (a4:yjc) (a5:ygW) (a6:yls) (a7:ykx) (x0:Ls→Ls→Ls→Int→Ls→Int→Int→Int→Bool→Prop) (x1:Bool→Prop):Nat→Ls→Ls→Ls→Int→Ls→Int→Int→Int→Prop
 | 0,_,_,_,_,_,_,_,_=>False
 | n+1,l0,l1,l2,i3,l4,i5,i6,i7 =>
 (cbr (decide (i7<(((List.length l2):Nat):Int)))
 (jn (fun (a:Bool→Prop) =>
 (asr (decide ((0:Int)≤i7))
 (asr (decide (i7<(((List.length l2):Nat):Int)))
 (lt (List.getD l2 (i7.toNat) .nils) (fun q =>
 (asr (conf (.one (.i .i64)) q)
 (cbr (decide ((yaa q)<(0:Int)))
 (a true)
 (asr (decide ((0:Int)≤i7))
 (asr (decide (i7<(((List.length l2):Nat):Int)))
 (lt (List.getD l2 (i7.toNat) .nils) (fun r =>
 (asr (conf (.one (.i .i64)) r)
 (cbr (decide ((yaa r)≥(((List.length l0):Nat):Int)))
 (a true)
 (asr (decide ((0:Int)≤i7))
 (asr (decide (i7<(((List.length l2):Nat):Int)))
 (lt (List.getD l2 (i7.toNat) .nils) (fun b =>
 (asr (conf (.one (.i .i64)) b)
 (asr (decide ((0:Int)≤(yaa b)))
 (asr (decide ((yaa b)<(((List.length l4):Nat):Int)))
 (lt (List.getD l4 ((yaa b).toNat) .nils) (fun s =>
 (asr (conf (.one (.d)) s)
 (cbr ((((List.length (yaA s)):Nat):Int) !=(((List.length l0):Nat):Int))
 (a true)
 (asr (decide ((0:Int)≤i7))
 (asr (decide (i7<(((List.length l2):Nat):Int)))
 (lt (List.getD l2 (i7.toNat) .nils) (fun c =>
 (asr (conf (.one (.i .i64)) c)
 (asr (decide ((0:Int)≤(yaa c)))
 (asr (decide ((yaa c)<(((List.length l1):Nat):Int)))
 (lt (List.getD l1 ((yaa c).toNat) .nils) (fun t =>
 (asr (conf (.one (.d)) t)
 (cbr ((((List.length (yaA t)):Nat):Int) !=(1:Int))
 (a true)
 (asr (decide ((0:Int)≤i7))
 (asr (decide (i7<(((List.length l2):Nat):Int)))
 (lt (List.getD l2 (i7.toNat) .nils) (fun e =>
 (asr (conf (.one (.i .i64)) e)
 (asr (decide ((0:Int)≤(yaa e)))
 (asr (decide ((yaa e)<(((List.length l1):Nat):Int)))
 (lt (List.getD l1 ((yaa e).toNat) .nils) (fun j =>
 (asr (conf (.one (.d)) j)
 (asr (decide ((0:Int)<(((List.length (yaA j)):Nat):Int)))
 (lt (List.getD (yaA j) 0 .nils) (fun k =>
 (asr (conf (.agg [.i .i64,.i .i64,.i .i64,.i .i64]) k)
 (a (!(((yaa (yag k 0)) == i5)&&(((yaa (yag k 1)) == i6)&&true)))))))))))))))))))))))))))))))))))))))))))))))))))))
 (fun w=>(cbr w
 (x1 false)
 (asr (decide ((0:Int)≤i7))
 (asr (decide (i7<(((List.length l2):Nat):Int)))
 (lt (List.getD l2 (i7.toNat) .nils) (fun f =>
 (asr (conf (.one (.i .i64)) f)
 (asr (decide ((0:Int)≤(yaa f)))
 (asr (decide ((yaa f)<(((List.length l1):Nat):Int)))
 (lt (List.getD l1 ((yaa f).toNat) .nils) (fun l =>
 (asr (conf (.one (.d)) l)
 (asr (decide ((0:Int)<(((List.length (yaA l)):Nat):Int)))
 (lt (List.getD (yaA l) 0 .nils) (fun m =>
 (asr (conf (.agg [.i .i64,.i .i64,.i .i64,.i .i64]) m)
 (jn (fun (u:Bool→Prop) =>
 (lt (IntKind.i64.wrap (i7+(1:Int))) (fun x =>
 (cbr (decide (x<(((List.length l2):Nat):Int)))
 (asr (decide ((0:Int)≤i7))
 (asr (decide (i7<(((List.length l2):Nat):Int)))
 (lt (List.getD l2 (i7.toNat) .nils) (fun g =>
 (asr (conf (.one (.i .i64)) g)
 (asr (decide ((0:Int)≤(yaa g)))
 (asr (decide ((yaa g)<(((List.length l4):Nat):Int)))
 (lt (List.getD l4 ((yaa g).toNat) .nils) (fun o =>
 (asr (conf (.one (.d)) o)
 (asr (decide ((0:Int)≤i7))
 (asr (decide (i7<(((List.length l2):Nat):Int)))
 (lt (List.getD l2 (i7.toNat) .nils) (fun h =>
 (asr (conf (.one (.i .i64)) h)
 (asr (decide ((0:Int)≤(yaa h)))
 (asr (decide ((yaa h)<(((List.length (yaA o)):Nat):Int)))
 (lt (List.getD (yaA o) ((yaa h).toNat) .nils) (fun p =>
 (asr (conf (.agg [.i .i64,.i .i64]) p)
 (asr (decide ((0:Int)≤i7))
 (asr (decide (i7<(((List.length l2):Nat):Int)))
 (lt (List.getD l2 (i7.toNat) .nils) (fun v =>
 (asr (conf (.one (.i .i64)) v)
 (a7 l0 ([]:Ls) (yaa v) (fun y z =>
 (u (!(((yaa (yag p 0)) == y)&&(((yaa (yag p 1)) == z)&&true)))))))))))))))))))))))))))))))
 (u false)))))
 (fun A=>(cbr A
 (x1 false)
 (lt (IntKind.i64.wrap (i7+(1:Int))) (fun B =>
 (yce a0 a1 a2 a3 a4 a5 a6 a7 x0 x1 n l0 l1 l2 i3 l4 (yaa (yag m 2)) (yaa (yag m 3)) B)))))))))))))))))))))))
 (x0 l0 l1 l2 i3 l4 i5 i6 i7 false))
def ymA (a0:yoJ) (a1:yky) (a2:yeA) (a3:yiV) (a4:yjc) (a5:ygW) (a6:yls) (a7:ykx) (p0:Ls) (K:Bool→Prop):Prop :=
 (a0 p0 (fun h =>
 (cbr (!h)
 (a1  (fun i =>
 (K i)))
 (a2 p0 (fun b e f j =>
 (a3 p0 f (fun g k =>
 (a4 p0 b (fun l d m =>
 (jn (fun (a:Bool→Prop) =>
 (cbr (j !=(0:Int))
 (a true)
 (cbr (k !=(0:Int))
 (a true)
 (cbr (m !=(0:Int))
 (a true)
 (cbr (g !=(((List.length f):Nat):Int))
 (a true)
 (lt (IntKind.i64.wrap ((((List.length p0):Nat):Int)+(1:Int))) (fun o =>
 (lt (IntKind.i64.wrap ((((List.length p0):Nat):Int)*o)) (fun p =>
 (lt (IntKind.i64.wrap (Int.tdiv p (2:Int))) (fun q =>
 (lt (IntKind.i64.wrap (q-(1:Int))) (fun r =>
 (cbr (g != r)
 (a true)
 (a ((((List.length e):Nat):Int) !=(((List.length p0):Nat):Int)))))))))))))))))
 (fun s=>(cbr s
 (K false)
 (a5 p0 b (19:Int) d (fun t u =>
 (jn (fun (c:Bool→Prop) =>
 (cbr (u !=(0:Int))
 (c true)
 (cbr (!t)
 (c true)
 (cbr ((((List.length b):Nat):Int) !=(((List.length p0):Nat):Int))
 (c true)
 (c ((((List.length d):Nat):Int) !=(((List.length p0):Nat):Int)))))))
 (fun v=>(cbr v
 (K false)
 (a6 (0:Int) (fun w x =>
 (∃ n:Nat,yce a0 a1 a2 a3 a4 a5 a6 a7
 (fun _ _ _ _ _ _ _ _ _=>(a1  (fun y =>
 (K y))))
 (fun z=>(K z))
 n p0 b e l d w x (0:Int)))))))))))))))))))))
def yjZ (p0:Ls) (K:Bool→Prop):Prop:=ymA yje yeK ycA yds ydx ycv yiF yfr p0 K
def yrS (w:yCX) (as:Ls) (K:PV→Prop):Prop :=
 match as with
 | [(.data p0)]=>w p0 (fun r0=>K (.bool r0))
 | _=>False
def yrT (as:Ls) (K:PV→Prop):Prop:=yrS yjZ as K
def ye1 (F:Frm) (H:Hp) (A0:Ls→Ls→Ls→Int→Ls→Int→Int→Int→Prop):Prop :=
 match F,H with
 | [(0,.v (.data l0)),(3,.box (.agg [(.data l1)])),(4,.v (.data l2)),(9,.box (.agg [(.int .u8 i3),(.data l4)])),(13,.box (.agg [(.int .i64 i5),(.int .i64 i6)])),(14,.v (.int .i64 i7))],[]=>(A0 l0 l1 l2 i3 l4 i5 i6 i7)
 | _,_=>False
def yjD (Q:Qx):Ls→Ls→Ls→Int→Ls→Int→Int→Int→Bool→Prop:=(fun l0 l1 l2 i3 l4 i5 i6 i7 b8=>Q (.exit 0) [(0,.v (.data l0)),(3,.box (.agg [(.data l1)])),(4,.v (.data l2)),(9,.box (.agg [(.int .u8 i3),(.data l4)])),(13,.box (.agg [(.int .i64 i5),(.int .i64 i6)])),(14,.v (.int .i64 i7)),(108,.v (.bool b8))] [])
def yjE (Q:Qx):Bool→Prop:=(fun b0=>Q .ret [(2,.v (.bool b0))] [])
def yid (a0:yoJ) (a1:yky) (a2:yeA) (a3:yiV) (a4:yjc) (a5:ygW) (a6:yls) (a7:ykx) (Q:Qx) (n:Nat) (F:Frm) (H:Hp):Prop:=ye1 F H (fun l0 l1 l2 i3 l4 i5 i6 i7=>yce a0 a1 a2 a3 a4 a5 a6 a7 (yjD Q) (yjE Q) n l0 l1 l2 i3 l4 i5 i6 i7)
def yjf (a0:yoJ) (a1:yky) (a2:yeA) (a3:yiV) (a4:yjc) (a5:ygW) (a6:yls) (a7:ykx):LP:=fun id F H Q =>
 bif Nat.beq id 85806600 then ye1 F H (fun l0 l1 l2 i3 l4 i5 i6 i7=>∃ n:Nat,yce a0 a1 a2 a3 a4 a5 a6 a7 (yjD Q) (yjE Q) n l0 l1 l2 i3 l4 i5 i6 i7) else
 False
def ymB (a0:yoJ) (a1:yky) (a2:yeA) (a3:yiV) (a4:yjc) (a5:ygW) (a6:yls) (a7:ykx):SE:=⟨(E ef0),yaK [(yrz,yyh a0),(ykq,ysX a1),(ygj,yld a2),(ykO,yq4 a3),(ykP,yrm a4),(yik,ynS a5),(yga,yvE a6),(ynd,ysO a7)],yaL [],yjf a0 a1 a2 a3 a4 a5 a6 a7⟩
theorem yqD:SEOk (ymB yje yeK ycA yds ydx ycv yiF yfr):=yat ⟨(yMK ef0 yev),(yI2 ef0 yev),(ypO ef0 yev),(ywU ef0 yev),yw8,ytm,(yHm ef0 yev),(yIT ef0 yev),trivial⟩ trivial yev.ok
theorem ysY (a0 a1 a2 a3 a4 a5 a6 a7 Q n l0 l1 l2 i3 l4 i5 i6 i7):WC (E ef0) (ybd (ymB a0 a1 a2 a3 a4 a5 a6 a7) 5) (yjf a0 a1 a2 a3 a4 a5 a6 a7) ypu [(0,.v (.data l0)),(3,.box (.agg [(.data l1)])),(4,.v (.data l2)),(9,.box (.agg [(.int .u8 i3),(.data l4)])),(13,.box (.agg [(.int .i64 i5),(.int .i64 i6)])),(14,.v (.int .i64 i7))] [] (exQ (yid a0 a1 a2 a3 a4 a5 a6 a7 Q n) Q)=yce a0 a1 a2 a3 a4 a5 a6 a7 (yjD Q) (yjE Q) (n+1) l0 l1 l2 i3 l4 i5 i6 i7:=by kernel_rfl
theorem ywm:LpOk (E ef0) (yjf yje yeK ycA yds ydx ycv yiF yfr) ypu:=(yai (by kernel_rfl))
theorem yvc:∀ F H Q,yjf yje yeK ycA yds ydx ycv yiF yfr 85806600 F H Q→ycr (E ef0) ypu F H Q:=by
 intro F H Q h
 have go:=ycr.intro (yaG (yqD) 5) (ywm) (yid yje yeK ycA yds ydx ycv yiF yfr Q) (by intro F H h;unfold yid ye1 at h;split at h <;> exact h) (by intro n F H h;unfold yid ye1 at h;split at h;exact (ysY ..).mpr h;exact h.elim)
 have h:ye1 F H _:=h
 unfold ye1 at h
 split at h
 ·obtain ⟨n,h⟩:=h;exact go n _ _ h
 ·exact h.elim
theorem yBr (a0 a1 a2 a3 a4 a5 a6 a7 p0 K):WP (ymB a0 a1 a2 a3 a4 a5 a6 a7) 6 yCo [(.data p0)] K=ymA a0 a1 a2 a3 a4 a5 a6 a7 p0 (fun r0=>K (.bool r0)):=by kernel_rfl
theorem yBs:OkF (E ef0) yrT ynw:=by
 intro as K h
 unfold yrT yrS at h
 split at h
 ·exact ya6 (yqD) (ybg (l:=[(85806600,ypu)]) ⟨yvc,trivial⟩ (by kernel_rfl)) (by kernel_rfl) (by kernel_rfl) (fun _=>yab (by kernel_rfl) _) (yev.num _ (by kernel_rfl)) ((yBr ..).mpr h)
 ·exact h.elim
end Go.Pf.Vc
namespace Go.Pf.Vc
open Go Go.Pf
def I64 (n:Int):Prop:=-9223372036854775808≤n∧n≤9223372036854775807
def U64 (n:Int):Prop:=0≤n∧n≤18446744073709551615
theorem yCc (n:Int):IntKind.u64.wrap n=n % 18446744073709551616:=by
 simp only [IntKind.wrap,IntKind.signed,IntKind.bits,qBn,qAp,if_false]
 rfl
theorem yUo (n:Int):IntKind.i64.wrap n=if n % 18446744073709551616≥9223372036854775808 then n % 18446744073709551616-18446744073709551616 else n % 18446744073709551616:=by
 have e1:(2:Int) ^ 64=18446744073709551616:=rfl
 have e2:(2:Int) ^ (64-1)=9223372036854775808:=rfl
 simp only [IntKind.wrap,IntKind.signed,IntKind.bits,qBi,e1,e2]
 by_cases h:n % 18446744073709551616≥9223372036854775808 <;> simp [h]
theorem wu64 {n:Int} (h:U64 n):IntKind.u64.wrap n=n:=by
 unfold U64 at h
 rw [yCc]
 omega
theorem wi64 {n:Int} (h:I64 n):IntKind.i64.wrap n=n:=by
 unfold I64 at h
 rw [yUo]
 split <;> omega
theorem yal {x y:Prop}:cbr true x y=x:=rfl
theorem yac {x y:Prop}:cbr false x y=y:=rfl
theorem yaD {x:Prop}:asr true x=x:=rfl
theorem ym5 {p:Int} (h:I64 p) (K:Int→Prop):yc0 p K=K (p.natAbs:Int):=by
 unfold I64 at h
 unfold yc0 yqO
 by_cases hp:p<0
 ·have e:IntKind.u64.wrap ((0:Int)-IntKind.u64.wrap p)=(p.natAbs:Int):=by
   rw [yCc,yCc]
   omega
  rw [decide_eq_true hp,yal,e]
 ·rw [decide_eq_false hp,yac,wu64 ⟨by omega,by omega⟩]
  congr 1
  omega
theorem yKH (x:Int→Int→Bool→Prop):∀ (n a b:Nat),b<n→ye5 x n (a:Int) (b:Int)=x ((Nat.gcd a b:Nat):Int) 0 false
 | 0,a,b,h=>by omega
 | n+1,a,b,h=>by
  unfold ye5
  by_cases hb:b=0
  ·subst hb
   simp [cbr]
  ·have h1:(b:Int)>0:=by omega
   have h2:¬((b:Int)=0):=by omega
   rw [decide_eq_true h1,yal,decide_eq_false h2,qB2,yaD]
   have e:Int.tmod (a:Int) (b:Int)=((a % b:Nat):Int):=by rw [Int.tmod_eq_emod_of_nonneg (by omega)];omega
   rw [e,yKH x n b (a % b) (by have:=Nat.mod_lt a (show b>0 by omega);omega)]
   rw [Nat.gcd_comm a b,Nat.gcd_rec b a,Nat.gcd_comm]
theorem yBt (a b:Nat) (K:Int→Prop) (h:K ((Nat.gcd a b:Nat):Int)):ycB (a:Int) (b:Int) K:=by
 unfold ycB yse
 exact ⟨b+1,by rw [yKH _ (b+1) a b (by omega)];exact h⟩
def RV (n d:Int):Prop:=1≤d∧d≤1000000000000000000∧-1000000000000000000≤n∧n≤1000000000000000000∧Nat.gcd n.natAbs d.natAbs=1
instance (n d:Int):Decidable (RV n d):=by unfold RV;infer_instance
def chk (n d:Int):Int:=if RV n d then 0 else 8
theorem yEW {n d:Int} (hn:I64 n) (hd:I64 d) {K:Int→Prop} (h:K (chk n d)):yby n d K:=by
 unfold yby ypv
 by_cases h1:d<1
 ·have e:chk n d=8:=if_neg fun h=>by have:=h.1;omega
  rw [decide_eq_true h1,yal,← e];exact h
 ·have hd':=hd;have hn':=hn
  unfold I64 at hd' hn'
  have ed:IntKind.u64.wrap d=((d.natAbs:Nat):Int):=by rw [wu64 ⟨by omega,by omega⟩];omega
  rw [decide_eq_false h1,yac,ym5 hn,ed]
  by_cases h2:((if ((d.natAbs:Nat):Int)>((n.natAbs:Nat):Int) then ((d.natAbs:Nat):Int) else ((n.natAbs:Nat):Int))>1000000000000000000)
  ·have e:chk n d=8:=if_neg fun h=>by
    obtain ⟨a1,a2,a3,a4,_⟩:=h
    revert h2;split <;> omega
   rw [decide_eq_true h2,yal,← e];exact h
  ·rw [decide_eq_false h2,yac,ym5 hn]
   refine yBt _ _ _ ?_
   have h3:0<Nat.gcd n.natAbs d.natAbs:=qBk _ (by omega)
   have h4:d≤1000000000000000000∧-1000000000000000000≤n∧n≤1000000000000000000:=by
    revert h2;split <;> omega
   by_cases h5:((Nat.gcd n.natAbs d.natAbs:Nat):Int)>1
   ·have e:chk n d=8:=if_neg fun h=>by have:=h.2.2.2.2;omega
    rw [decide_eq_true h5,yal,← e];exact h
   ·have e:chk n d=0:=if_pos ⟨by omega,h4.1,h4.2.1,h4.2.2,by omega⟩
    rw [decide_eq_false h5,yac,← e];exact h
end Go.Pf.Vc
namespace Go.Pf.Vc
open Go Go.Pf
theorem yEX {p:Int} (h:U64 p):IntKind.u64.wrap (BitVec.ofInt IntKind.u64.bits p&&&BitVec.ofInt IntKind.u64.bits (4294967295:Int)).toNat=p % 4294967296:=by
 unfold U64 at h
 have e1:(BitVec.ofInt 64 p).toNat=p.toNat:=by
  rw [BitVec.toNat_ofInt];omega
 have e2:(BitVec.ofInt 64 (4294967295:Int)).toNat=4294967295:=rfl
 have e3:(BitVec.ofInt IntKind.u64.bits p&&&BitVec.ofInt IntKind.u64.bits (4294967295:Int)).toNat=p.toNat % 4294967296:=by
  show (BitVec.ofInt 64 p&&&BitVec.ofInt 64 (4294967295:Int)).toNat=_
  rw [BitVec.toNat_and,e1,e2]
  exact Nat.and_two_pow_sub_one_eq_mod p.toNat 32
 rw [e3,yCc]
 omega
theorem yTH (p:Int):Int.fdiv p 4294967296=p / 4294967296:=by
 rw [Int.fdiv_eq_ediv_of_nonneg _ (by omega)]
theorem yp5 {a b:Int} (ha:U64 a) (hb:U64 b) (K:Int→Int→Prop):yfU a b K=K (a*b / 18446744073709551616) (a*b % 18446744073709551616):=by
 unfold yfU yxH
 simp only [yTH]
 rw [yEX ha,yEX hb]
 unfold U64 at ha hb
 have ha':=ha;have hb':=hb
 obtain ⟨x1,hx1⟩:∃ x,x=a / 4294967296:=⟨_,rfl⟩
 obtain ⟨x0,hx0⟩:∃ x,x=a % 4294967296:=⟨_,rfl⟩
 obtain ⟨y1,hy1⟩:∃ x,x=b / 4294967296:=⟨_,rfl⟩
 obtain ⟨y0,hy0⟩:∃ x,x=b % 4294967296:=⟨_,rfl⟩
 rw [← hx1,← hx0,← hy1,← hy0]
 have b1:0≤x1∧x1≤4294967295:=by omega
 have b2:0≤x0∧x0≤4294967295:=by omega
 have b3:0≤y1∧y1≤4294967295:=by omega
 have b4:0≤y0∧y0≤4294967295:=by omega
 have pb:∀ x y:Int,0≤x∧x≤4294967295→0≤y∧y≤4294967295→0≤x*y∧x*y≤18446744065119617025:=by
  intro x y hx hy
  refine ⟨qA7 hx.1 hy.1,?_⟩
  have:=qCa hx.2 hy.2 hy.1 (by omega:(0:Int)≤4294967295)
  omega
 have p1:=pb x1 y1 b1 b3
 have p2:=pb x1 y0 b1 b4
 have p3:=pb x0 y1 b2 b3
 have p4:=pb x0 y0 b2 b4
 have ea:a=x1*4294967296+x0:=by omega
 have eb:b=y1*4294967296+y0:=by omega
 have eab:a*b=x1*y1*18446744073709551616+x1*y0*4294967296+x0*y1*4294967296+x0*y0:=by
  rw [ea,eb];grind
 obtain ⟨P,hP⟩:∃ x,x=x1*y1:=⟨_,rfl⟩
 obtain ⟨Q,hQ⟩:∃ x,x=x1*y0:=⟨_,rfl⟩
 obtain ⟨R,hR⟩:∃ x,x=x0*y1:=⟨_,rfl⟩
 obtain ⟨S,hS⟩:∃ x,x=x0*y0:=⟨_,rfl⟩
 rw [← hP] at p1;rw [← hQ] at p2;rw [← hR] at p3;rw [← hS] at p4
 rw [← hP,← hQ,← hR,← hS] at eab ⊢
 have w1:IntKind.u64.wrap S=S:=wu64 ⟨by omega,by omega⟩
 have w2:IntKind.u64.wrap Q=Q:=wu64 ⟨by omega,by omega⟩
 have w3:IntKind.u64.wrap R=R:=wu64 ⟨by omega,by omega⟩
 have w4:IntKind.u64.wrap P=P:=wu64 ⟨by omega,by omega⟩
 rw [w1,w2,w3,w4]
 have w5:IntKind.u64.wrap (Q+S / 4294967296)=Q+S / 4294967296:=wu64 ⟨by omega,by omega⟩
 rw [w5,yEX ⟨by omega,by omega⟩]
 have w6:IntKind.u64.wrap ((Q+S / 4294967296) % 4294967296+R)=(Q+S / 4294967296) % 4294967296+R:=wu64 ⟨by omega,by omega⟩
 rw [w6]
 have w7:IntKind.u64.wrap (P+(Q+S / 4294967296) / 4294967296)=P+(Q+S / 4294967296) / 4294967296:=by
  have:a*b / 18446744073709551616≤18446744073709551615:=by
   have h1:a*b≤18446744073709551615*18446744073709551615:=by
    have:=qCa ha'.2 hb'.2 hb'.1 (by omega:(0:Int)≤18446744073709551615)
    exact this
   omega
  exact wu64 ⟨by omega,by omega⟩
 rw [w7]
 have hab:a*b≤18446744073709551615*18446744073709551615:=qCa ha'.2 hb'.2 hb'.1 (by omega:(0:Int)≤18446744073709551615)
 rw [eab] at hab ⊢
 rw [yCc,yCc]
 congr 1
 omega
theorem yTI {a b:Int} {K:Int→Prop} (h:K (if a=0 then b else a)):yfH [.int .i64 a,.int .i64 b] K:=by
 unfold yfH yjn
 refine ⟨3,?_⟩
 have e1:IntKind.i64.wrap 1=1:=by decide
 have e2:IntKind.i64.wrap 2=2:=by decide
 by_cases ha:a=0
 ·by_cases hb:b=0
  ·simp [ybN,yal,yac,yaD,conf,ytd,yaa,e1,e2,ha,hb] at h ⊢;exact h
  ·have e3:(b != 0)=true:=by simpa using hb
   simp [ybN,yal,yac,yaD,conf,ytd,yaa,e1,e2,ha,e3] at h ⊢;exact h
 ·have e3:(a != 0)=true:=by simpa using ha
  simp [ybN,yal,yac,yaD,conf,ytd,yaa,e1,e2,ha,e3] at h ⊢;exact h
def chk2 (a b c d:Int):Int:=if chk a b=0 then chk c d else chk a b
theorem yvd {a b c d:Int} (ha:I64 a) (hb:I64 b) (hc:I64 c) (hd:I64 d) {K:Int→Prop} (h:K (chk2 a b c d)):ycz a b c d K:=by
 unfold ycz ypw
 exact yEW ha hb (yEW hc hd (yTI h))
end Go.Pf.Vc
namespace Go.Pf.Vc
open Go Go.Pf
def cmp3 (a b:Int):Int:=if a<b then -1 else if a>b then 1 else 0
theorem yI3 (a b:Int) (K:Int→Prop):yfe a b K=K (cmp3 a b):=by
 unfold yfe yio
 simp only [yh7,yj5,bne_self_eq_false,yac,cmp3]
 by_cases h:a<b
 ·simp [h,yal]
 ·by_cases h2:a>b
  ·simp [h,h2,yal,yac]
  ·simp [h,h2,yac]
theorem yz7 (a b:Int) (K:Int→Prop):yeF a b K=K (cmp3 a b):=by
 unfold yeF yhV
 simp only [yhe,yjq,bne_self_eq_false,yac,cmp3]
 by_cases h:a<b
 ·simp [h,yal]
 ·by_cases h2:a>b
  ·simp [h,h2,yal,yac]
  ·simp [h,h2,yac]
theorem ySl {a b:Int} {K:Int→Prop} (h:K (if a=0 then b else a)):ykV [.int .i64 a,.int .i64 b] K:=by
 unfold ykV yqQ
 refine ⟨3,?_⟩
 have e1:IntKind.i64.wrap 1=1:=by decide
 have e2:IntKind.i64.wrap 2=2:=by decide
 by_cases ha:a=0
 ·by_cases hb:b=0
  ·simp [ydF,yal,yac,yaD,conf,ytd,yaa,e1,e2,ha,hb] at h ⊢;exact h
  ·have e3:(b != 0)=true:=by simpa using hb
   simp [ydF,yal,yac,yaD,conf,ytd,yaa,e1,e2,ha,e3] at h ⊢;exact h
 ·have e3:(a != 0)=true:=by simpa using ha
  simp [ydF,yal,yac,yaD,conf,ytd,yaa,e1,e2,ha,e3] at h ⊢;exact h
theorem yf6 {a b c d:Int}:chk2 a b c d=0↔RV a b∧RV c d:=by
 unfold chk2 chk
 by_cases h1:RV a b <;> by_cases h2:RV c d <;> simp [h1,h2]
def cmpR (a b c d:Int):Int:=cmp3 (a*d) (c*b)
theorem yO1 {x y:Int} (_:0≤x) (_:0≤y):(if cmp3 (x / 18446744073709551616) (y / 18446744073709551616)=0 then cmp3 (x % 18446744073709551616) (y % 18446744073709551616) else cmp3 (x / 18446744073709551616) (y / 18446744073709551616))=cmp3 x y:=by
 unfold cmp3
 split <;> rename_i h <;> revert h <;> repeat' split <;> intro h <;> omega
theorem U64.abs {n:Int} (h:I64 n):U64 ((n.natAbs:Nat):Int):=by unfold I64 at h;unfold U64;omega
theorem yQo {a b c d:Int} (ha:I64 a) (hb:I64 b) (hc:I64 c) (hd:I64 d) {K:Int→Int→Prop} (h:K (if chk2 a b c d=0 then cmpR a b c d else 0) (chk2 a b c d)):ybW a b c d K:=by
 unfold ybW ysi
 refine yvd ha hb hc hd ?_
 by_cases hk:chk2 a b c d=0
 ·rw [if_pos hk] at h
  rw [hk] at h ⊢
  obtain ⟨⟨b1,b2,a1,a2,_⟩,d1,d2,c1,c2,_⟩:=yf6.1 hk
  simp only [bne_self_eq_false,yac]
  by_cases hs:decide (a<0)=decide (c<0)
  ·have e:(decide (a<0) != decide (c<0))=false:=by rw [hs];simp
   rw [e,yac,ym5 ha,wu64 ⟨by omega,by omega⟩,yp5 (U64.abs ha) ⟨by omega,by omega⟩,ym5 hc,wu64 ⟨by omega,by omega⟩,yp5 (U64.abs hc) ⟨by omega,by omega⟩,yz7,yz7]
   refine ySl ?_
   have p1:0≤((a.natAbs:Nat):Int)*d:=qA7 (by omega) (by omega)
   have p2:0≤((c.natAbs:Nat):Int)*b:=qA7 (by omega) (by omega)
   rw [yO1 p1 p2]
   by_cases hneg:a<0
   ·have hcn:c<0:=by simpa [hneg] using hs.symm
    rw [decide_eq_true hneg,yal]
    have e1:((a.natAbs:Nat):Int)*d=-(a*d):=by
     rw [show ((a.natAbs:Nat):Int)=-a by omega,Int.neg_mul]
    have e2:((c.natAbs:Nat):Int)*b=-(c*b):=by
     rw [show ((c.natAbs:Nat):Int)=-c by omega,Int.neg_mul]
    have e3:IntKind.i64.wrap (0-cmp3 (((a.natAbs:Nat):Int)*d) (((c.natAbs:Nat):Int)*b))=cmpR a b c d:=by
     rw [e1,e2]
     unfold cmpR cmp3
     rw [wi64 (by unfold I64;repeat' split <;> omega)]
     repeat' split <;> omega
    rw [e3];exact h
   ·have hcn:¬c<0:=by simpa [hneg] using hs.symm
    rw [decide_eq_false hneg,yac,show ((a.natAbs:Nat):Int)=a by omega,show ((c.natAbs:Nat):Int)=c by omega]
    exact h
  ·have e:(decide (a<0) != decide (c<0))=true:=by simpa using hs
   rw [e,yal,yI3]
   have e2:cmp3 a c=cmpR a b c d:=by
    unfold cmpR cmp3
    by_cases hneg:a<0
    ·have hcn:¬c<0:=by intro hcn;simp [hneg,hcn] at hs
     have q1:a*d<0:=qCb hneg (by omega)
     have q2:0≤c*b:=qA7 (by omega) (by omega)
     rw [if_pos (by omega),if_pos (by omega)]
    ·have hcn:c<0:=by
      by_cases hcn:c<0
      ·exact hcn
      ·simp [hneg,hcn] at hs
     have q1:c*b<0:=qCb hcn (by omega)
     have q2:0≤a*d:=qA7 (by omega) (by omega)
     rw [if_neg (by omega),if_pos (by omega),if_neg (by omega),if_pos (by omega)]
   rw [e2];exact h
 ·rw [if_neg hk] at h
  have e:(chk2 a b c d != 0)=true:=by simpa using hk
  rw [e,yal];exact h
end Go.Pf.Vc
namespace Go.Pf.Vc
open Go Go.Pf
def blen (x:Nat):Nat:=if x=0 then 0 else x.log2+1
theorem yNL (x:Nat):x<2 ^ blen x:=by
 unfold blen
 split
 ·rename_i h;subst h;decide
 ·exact Nat.lt_log2_self
theorem yC8 {x:Nat} (h:x≠0):2 ^ (blen x-1)≤x:=by
 unfold blen
 rw [if_neg h]
 exact Nat.log2_self_le h
theorem ySm {x m:Nat} (h1:2 ^ m≤x) (h2:x<2 ^ (m+1)):blen x=m+1:=by
 have hx:x≠0:=by have:=Nat.two_pow_pos m;omega
 unfold blen
 rw [if_neg hx]
 congr 1
 have a:=Nat.log2_self_le hx
 have b:=Nat.lt_log2_self (n:=x)
 have c1:¬(x.log2<m):=fun h=>by
  have:=Nat.pow_le_pow_right (show 0<2 by omega) (show x.log2+1≤m by omega)
  omega
 have c2:¬(m<x.log2):=fun h=>by
  have:=Nat.pow_le_pow_right (show 0<2 by omega) (show m+1≤x.log2 by omega)
  omega
 omega
theorem yQp {x k:Nat} (h:2 ^ k≤x):blen x=k+blen (x / 2 ^ k):=by
 have hp:=Nat.two_pow_pos k
 have hq:x / 2 ^ k≠0:=by
  have:=Nat.div_pos h hp
  omega
 have h1:=yC8 hq
 have h2:=yNL (x / 2 ^ k)
 obtain ⟨m,hm⟩:∃ m,blen (x / 2 ^ k)=m+1:=⟨blen (x / 2 ^ k)-1,by
  have:blen (x / 2 ^ k)≠0:=by unfold blen;rw [if_neg hq];omega
  omega⟩
 rw [hm] at h1 h2 ⊢
 rw [Nat.add_sub_cancel] at h1
 have:=ySm (x:=x) (m:=k+m) (by
   rw [Nat.pow_add]
   calc 2 ^ k*2 ^ m≤2 ^ k*(x / 2 ^ k):=Nat.mul_le_mul_left _ h1
    _≤x:=Nat.mul_div_le _ _) (by
   rw [show k+m+1=k+(m+1) by omega,Nat.pow_add]
   rw [Nat.mul_comm]
   exact (Nat.div_lt_iff_lt_mul hp).1 h2)
 omega
theorem yTJ:∀ x:Nat,x<256→yaa (List.getD ykL x .nils)=(blen x:Int):=by decide +kernel
theorem wu8 {n:Int} (h0:0≤n) (h1:n<256):IntKind.u8.wrap n=n:=by
 have e1:(2:Int) ^ 8=256:=rfl
 simp only [IntKind.wrap,IntKind.signed,IntKind.bits,qBn,qAp,if_false,e1]
 omega
theorem ySn {n:Int} (h0:0≤n) (h1:n<256):yaa (List.getD ykL (IntKind.u8.wrap n).toNat .nils)=(blen n.toNat:Int):=by
 rw [wu8 h0 h1]
 exact yTJ n.toNat (by omega)
theorem yUp {n:Nat} (h:n<256):blen n≤8:=by
 by_cases h0:n=0
 ·subst h0;decide
 ·have:=yC8 h0
  have h2:blen n-1<8:=by
   refine Nat.lt_of_not_le fun hc=>?_
   have:=Nat.pow_le_pow_right (show 0<2 by omega) hc
   omega
  omega
theorem yCd {n k:Int} (h0:0≤n) (h1:n<256) (hk:0≤k∧k≤56) {m:Int} (hm:m=k+blen n.toNat) {K:Int→Prop} (h:K m) :
  asr (decide ((0:Int)≤(IntKind.u8.wrap n))) (asr (decide ((IntKind.u8.wrap n)<(256:Int))) (K (IntKind.i64.wrap (k+(IntKind.i64.wrap (yaa (List.getD ykL ((IntKind.u8.wrap n).toNat) .nils))))))):=by
 have hb:=yUp (n:=n.toNat) (by omega)
 have e1:IntKind.i64.wrap (blen n.toNat:Int)=blen n.toNat:=wi64 (by unfold I64;omega)
 have e2:IntKind.i64.wrap (k+blen n.toNat:Int)=k+blen n.toNat:=wi64 (by unfold I64;omega)
 rw [ySn h0 h1,wu8 h0 h1,decide_eq_true h0,yaD,decide_eq_true h1,yaD,e1,e2,← hm]
 exact h
theorem yEY (p q:Int) (hq:0≤q):Int.fdiv p q=p / q:=Int.fdiv_eq_ediv_of_nonneg _ hq
theorem yQq {p:Int} (hp:U64 p) {K:Int→Prop} (h:K (blen p.toNat:Int)):yrK p K:=by
 unfold U64 at hp
 unfold yrK yxJ
 simp only [yEY _ 4294967296 (by omega),yEY _ 65536 (by omega),yEY _ 256 (by omega)]
 have key:∀ (k:Nat) (q:Int),2 ^ k≤p.toNat→q=p / (2 ^ k:Nat)→(blen p.toNat:Int)=k+blen q.toNat:=by
  intro k q hk hq
  have e:q.toNat=p.toNat / 2 ^ k:=by
   rw [hq]
   obtain ⟨m,rfl⟩:∃ m:Nat,p=m:=⟨p.toNat,by omega⟩
   rw [← qBj,qAe,qAe]
  rw [e]
  have:=yQp hk
  omega
 by_cases h1:p≥4294967296
 ·rw [decide_eq_true h1,yal]
  by_cases h2:p / 4294967296≥65536
  ·rw [decide_eq_true h2,yal]
   by_cases h3:p / 4294967296 / 65536≥256
   ·rw [decide_eq_true h3,yal]
    exact yCd (by omega) (by omega) (by omega) (key 56 _ (by omega) (by omega)) h
   ·rw [decide_eq_false h3,yac]
    exact yCd (by omega) (by omega) (by omega) (key 48 _ (by omega) (by omega)) h
  ·rw [decide_eq_false h2,yac]
   by_cases h3:p / 4294967296≥256
   ·rw [decide_eq_true h3,yal]
    exact yCd (by omega) (by omega) (by omega) (key 40 _ (by omega) (by omega)) h
   ·rw [decide_eq_false h3,yac]
    exact yCd (by omega) (by omega) (by omega) (key 32 _ (by omega) (by omega)) h
 ·rw [decide_eq_false h1,yac]
  by_cases h2:p≥65536
  ·rw [decide_eq_true h2,yal]
   by_cases h3:p / 65536≥256
   ·rw [decide_eq_true h3,yal]
    exact yCd (by omega) (by omega) (by omega) (key 24 _ (by omega) (by omega)) h
   ·rw [decide_eq_false h3,yac]
    exact yCd (by omega) (by omega) (by omega) (key 16 _ (by omega) (by omega)) h
  ·rw [decide_eq_false h2,yac]
   by_cases h3:p≥256
   ·rw [decide_eq_true h3,yal]
    exact yCd (by omega) (by omega) (by omega) (key 8 _ (by omega) (by omega)) h
   ·rw [decide_eq_false h3,yac]
    exact yCd (by omega) (by omega) (by omega) (by simp) h
theorem yz8 {p:Int} (hp:U64 p) {K:Int→Prop} (h:K (64-blen p.toNat:Int)):ybq p K:=by
 unfold ybq yjs
 refine yQq hp ?_
 have hb:blen p.toNat≤64:=by
  unfold U64 at hp
  by_cases h0:p.toNat=0
  ·rw [h0];decide
  ·have:=yC8 h0
   have h2:blen p.toNat-1<64:=by
    refine Nat.lt_of_not_le fun hc=>?_
    have:=Nat.pow_le_pow_right (show 0<2 by omega) hc
    omega
   omega
 rw [wi64 (by unfold I64;omega)]
 exact h
end Go.Pf.Vc
namespace Go.Pf.Vc
open Go Go.Pf
structure DI (y a b u un q r:Int):Prop where
 hy:y=a*4294967296+b
 h1:2147483648≤a∧a≤4294967295
 h0:0≤b∧b≤4294967295
 hn:0≤un∧un≤4294967295
 hu:q*a+r=u
 hq:0≤q∧q≤4294967297
 hr:0≤r∧r≤4294967295
 hlt:u<y
 hU:u*4294967296+un<(q+1)*y
def DG (y u un q:Int):Prop:=0≤q∧q≤4294967295∧q*y≤u*4294967296+un∧u*4294967296+un<(q+1)*y
theorem DI.step {y a b u un q r:Int} (h:DI y a b u un q r) {A B C:Prop}
  (hA:DG y u un (q-1)→0≤q-1→q-1≤4294967296→A)
  (hB:DI y a b u un (q-1) (r+a)→B)
  (hC:DG y u un q→C) :
  cbr (decide (q≥(4294967296:Int)))
   (cbr (decide ((IntKind.u64.wrap (r+a))≥(4294967296:Int))) A B)
   (cbr (decide ((IntKind.u64.wrap (q*b))>(IntKind.u64.wrap ((IntKind.u64.wrap ((4294967296:Int)*r))+un))))
    (cbr (decide ((IntKind.u64.wrap (r+a))≥(4294967296:Int))) A B) C):=by
 have h':=h
 obtain ⟨hy,h1,h0,hn,hu,hq,hr,hlt,hU⟩:=h
 have e1:IntKind.u64.wrap (r+a)=r+a:=wu64 ⟨by omega,by omega⟩
 have eq1:q*y=q*a*4294967296+q*b:=by rw [hy];grind
 have eq2:(q-1)*y=q*y-y:=by grind
 have eq3:(q-1)*a=q*a-a:=by grind
 have eq4:(q-1+1)*y=q*y:=by grind
 have eq5:(q-1)*b=q*b-b:=by grind
 have big:u*4294967296+un<q*y→cbr (decide ((IntKind.u64.wrap (r+a))≥(4294967296:Int))) A B:=by
  intro hb
  have q1:0≤q-1:=by
   refine Int.not_lt.1 fun hc=>?_
   have hq0:q=0:=by omega
   subst hq0
   simp at hb hu
   omega
  rw [e1]
  by_cases hc:r+a≥4294967296
  ·rw [decide_eq_true hc,yal]
   have hp:(q-1)*b≤4294967296*4294967295:=qCa (by omega) h0.2 h0.1 (by omega)
   have hle:(q-1)*y≤u*4294967296+un:=by
    have:(q-1)*y=(q-1)*a*4294967296+(q-1)*b:=by rw [hy];grind
    omega
   have hlt32:q-1≤4294967295:=by
    refine Int.not_lt.1 fun hc=>?_
    have:4294967296*y≤(q-1)*y:=qA2 (by omega) (by omega)
    omega
   exact hA ⟨q1,hlt32,hle,by rw [eq4];exact hb⟩ q1 (by omega)
  ·rw [decide_eq_false hc,yac]
   exact hB ⟨hy,h1,h0,hn,by rw [eq3];omega,⟨q1,by omega⟩,⟨by omega,by omega⟩,hlt,by rw [eq4];exact hb⟩
 by_cases ha:q≥4294967296
 ·rw [decide_eq_true ha,yal]
  refine big ?_
  have:4294967296*y≤q*y:=qA2 (by omega) (by omega)
  omega
 ·rw [decide_eq_false ha,yac]
  have hp:q*b≤4294967295*4294967295:=qCa (by omega) h0.2 h0.1 (by omega)
  have hp0:0≤q*b:=qA7 hq.1 h0.1
  have w1:IntKind.u64.wrap (q*b)=q*b:=wu64 ⟨hp0,by omega⟩
  have w2:IntKind.u64.wrap ((4294967296:Int)*r)=4294967296*r:=wu64 ⟨by omega,by omega⟩
  have w3:IntKind.u64.wrap ((4294967296:Int)*r+un)=4294967296*r+un:=wu64 ⟨by omega,by omega⟩
  rw [w1,w2,w3]
  by_cases hb:q*b>4294967296*r+un
  ·rw [decide_eq_true hb,yal]
   exact big (by omega)
  ·rw [decide_eq_false hb,yac]
   exact hC ⟨hq.1,by omega,by omega,hU⟩
theorem yUq (W:Int→(Int→Prop)→Prop) {y a c u un:Int} (s v un0:Int) {x0 x1:Int→Int→Int→Int→Int→Int→Int→Int→Int→Bool→Prop}
  (hx:∀ q r b,DG y u un q→x0 y s a c v un un0 q r b) (hx1:∀ q r b,DG y u un q→x1 y s a c v un un0 q r b) :
  ∀ (n:Nat) (q r:Int) (b:Bool),DI y a c u un q r→4294967296≤r+n*2147483648→ydO W x0 x1 (n+1) y s a c v un un0 q r b:=by
 intro n
 induction n with
 | zero =>
  intro q r b h hn
  have:=h.hr.2
  exact absurd hn (by omega)
 | succ n ih =>
  intro q r b h hn
  unfold ydO
  refine h.step (fun g a1 a2=>?_) (fun g=>?_) (fun g=>hx1 _ _ _ g)
  ·rw [wu64 (n:=q-1) ⟨by omega,by omega⟩]
   exact hx _ _ _ g
  ·have e1:IntKind.u64.wrap (q-1)=q-1:=wu64 ⟨g.hq.1,by have:=g.hq.2;omega⟩
   have e2:IntKind.u64.wrap (r+a)=r+a:=wu64 ⟨g.hr.1,by have:=g.hr.2;omega⟩
   rw [e1,e2]
   exact ih _ _ _ g (by have:=h.h1.1;omega)
theorem yUr (W:Int→(Int→Prop)→Prop) {y a c u un:Int} (s q1 v:Int) {x0 x1:Int→Int→Int→Int→Int→Int→Int→Int→Int→Bool→Prop}
  (hx:∀ q r b,DG y u un q→x0 y s a c un q1 r v q b) (hx1:∀ q r b,DG y u un q→x1 y s a c un q1 r v q b) :
  ∀ (n:Nat) (q r:Int) (b:Bool),DI y a c u un q r→4294967296≤r+n*2147483648→ydP W x0 x1 (n+1) y s a c un q1 r v q b:=by
 intro n
 induction n with
 | zero =>
  intro q r b h hn
  have:=h.hr.2
  exact absurd hn (by omega)
 | succ n ih =>
  intro q r b h hn
  unfold ydP
  refine h.step (fun g a1 a2=>?_) (fun g=>?_) (fun g=>hx1 _ _ _ g)
  ·rw [wu64 (n:=q-1) ⟨by omega,by omega⟩]
   exact hx _ _ _ g
  ·have e1:IntKind.u64.wrap (q-1)=q-1:=wu64 ⟨g.hq.1,by have:=g.hq.2;omega⟩
   have e2:IntKind.u64.wrap (r+a)=r+a:=wu64 ⟨g.hr.1,by have:=g.hr.2;omega⟩
   rw [e1,e2]
   exact ih _ _ _ g (by have:=h.h1.1;omega)
theorem yTK (W:Int→(Int→Prop)→Prop) {y a c u un:Int} (s v un0:Int) {x0 x1:Int→Int→Int→Int→Int→Int→Int→Int→Int→Bool→Prop}
  (hx:∀ q r b,DG y u un q→x0 y s a c v un un0 q r b) (hx1:∀ q r b,DG y u un q→x1 y s a c v un un0 q r b) (q r:Int) (h:DI y a c u un q r):yhD W x0 x1 3 y s a c v un un0 q r:=by
 have:=yUq W s v un0 hx hx1 2 q r true h (by have:=h.hr.1;omega)
 unfold ydO at this
 unfold yhD
 exact this
theorem yTL (W:Int→(Int→Prop)→Prop) {y a c u un:Int} (s q1 v:Int) {x0 x1:Int→Int→Int→Int→Int→Int→Int→Int→Int→Bool→Prop}
  (hx:∀ q r b,DG y u un q→x0 y s a c un q1 r v q b) (hx1:∀ q r b,DG y u un q→x1 y s a c un q1 r v q b) (q r:Int) (h:DI y a c u un q r):yfo W x0 x1 3 y s a c un q1 r v q:=by
 have:=yUr W s q1 v hx hx1 2 q r true h (by have:=h.hr.1;omega)
 unfold ydP at this
 unfold yfo
 exact this
end Go.Pf.Vc
namespace Go.Pf.Vc
open Go Go.Pf
theorem DI.init {y a b u un:Int} (hy:y=a*4294967296+b) (h1:2147483648≤a∧a≤4294967295) (h0:0≤b∧b≤4294967295) (hn:0≤un∧un≤4294967295)
  (hu:0≤u) (hlt:u<y):DI y a b u un (u / a) (u-u / a*a):=by
 have a1:=Int.mul_ediv_add_emod u a
 have a2:=Int.emod_nonneg u (show a≠0 by omega)
 have a3:=Int.emod_lt_of_pos u (show 0<a by omega)
 have a4:u / a*a=a*(u / a):=Int.mul_comm _ _
 have a5:0≤u / a:=Int.ediv_nonneg hu (by omega)
 have a6:u / a≤4294967297:=by
  refine Int.not_lt.1 fun hc=>?_
  have:a*4294967298≤a*(u / a):=Int.mul_le_mul_of_nonneg_left (by omega) (by omega)
  omega
 refine ⟨hy,h1,h0,hn,by omega,⟨a5,a6⟩,⟨by omega,by omega⟩,hlt,?_⟩
 have e:(u / a+1)*y=a*(u / a)*4294967296+a*4294967296+(u / a+1)*b:=by
  obtain ⟨t,ht⟩:∃ t,t=u / a:=⟨_,rfl⟩
  rw [← ht,hy];grind
 have:0≤(u / a+1)*b:=qA7 (by omega) h0.1
 omega
theorem yUs {a b:Int} {k:Nat} (ha:0≤a) (hb:0≤b∧b<2 ^ k) (hab:a*2 ^ k≤18446744073709551615∧b≤18446744073709551615) (hs:a*2 ^ k+b≤18446744073709551615) :
  IntKind.u64.wrap (BitVec.ofInt IntKind.u64.bits (a*2 ^ k)|||BitVec.ofInt IntKind.u64.bits b).toNat=a*2 ^ k+b:=by
 obtain ⟨x,rfl⟩:∃ x:Nat,a=x:=⟨a.toNat,by omega⟩
 obtain ⟨z,rfl⟩:∃ z:Nat,b=z:=⟨b.toNat,by omega⟩
 have ec:((x:Int)*2 ^ k)=((2 ^ k*x:Nat):Int):=by push_cast;exact Int.mul_comm _ _
 rw [ec] at hab hs ⊢
 have hz:z<2 ^ k:=by have:=hb.2;exact_mod_cast this
 have e:(BitVec.ofInt IntKind.u64.bits ((2 ^ k*x:Nat):Int)|||BitVec.ofInt IntKind.u64.bits (z:Int)).toNat=2 ^ k*x+z:=by
  show (BitVec.ofInt 64 ((2 ^ k*x:Nat):Int)|||BitVec.ofInt 64 (z:Int)).toNat=_
  rw [BitVec.toNat_or,BitVec.toNat_ofInt,BitVec.toNat_ofInt]
  have e1:(((2 ^ k*x:Nat):Int) % (2 ^ 64:Nat)).toNat=2 ^ k*x:=by omega
  have e2:((z:Int) % (2 ^ 64:Nat)).toNat=z:=by omega
  rw [e1,e2,Nat.two_pow_add_eq_or_of_lt hz]
 rw [e,wu64 ⟨by omega,by omega⟩]
 push_cast;rfl
theorem yNM {u un q y:Int} (h0:0≤u*4294967296+un-q*y) (h1:u*4294967296+un-q*y≤18446744073709551615) :
  IntKind.u64.wrap (IntKind.u64.wrap (IntKind.u64.wrap (u*4294967296)+un)-IntKind.u64.wrap (q*y))=u*4294967296+un-q*y:=by
 simp only [yCc]
 omega
theorem yrU {a b:Int} (h:0≤a):Int.tdiv a b=a / b:=Int.tdiv_eq_ediv_of_nonneg h
theorem yTb {a b:Int} (h:0≤a):Int.tmod a b=a % b:=Int.tmod_eq_emod_of_nonneg h
theorem yKI {h l y:Int} (hh:U64 h) (hl:U64 l) (hy:U64 y) (hlt:h<y) {K:Int→Int→Prop}
  (k:K ((h*18446744073709551616+l) / y) ((h*18446744073709551616+l) % y)):yhE h l y K:=by
 unfold U64 at hh hl hy
 unfold yhE yxL
 have b1:(y ==(0:Int))=false:=beq_eq_false_iff_ne.2 (by omega)
 have b2:decide (y≤h)=false:=decide_eq_false (by omega)
 have b3:(!(decide (y=(0:Int))))=true:=by rw [decide_eq_false (by omega)];rfl
 rw [b1,yac,b2,yac,b3]
 by_cases h0:h=0
 ·subst h0
  have:((0:Int) == 0)=true:=rfl
  rw [this,yal,yaD,yaD,yrU hl.1,yTb hl.1]
  have e:(0:Int)*18446744073709551616+l=l:=by omega
  rw [e] at k
  have b4:l / y≤l:=Int.ediv_le_self _ hl.1
  rw [wu64 ⟨Int.ediv_nonneg hl.1 (by omega),by omega⟩]
  exact k
 ·have b4:(h ==(0:Int))=false:=beq_eq_false_iff_ne.2 h0
  rw [b4,yac]
  refine yz8 ⟨by omega,by omega⟩ ?_
  have hyn:y.toNat≠0:=by omega
  have c1:=yNL y.toNat
  have c2:=yC8 hyn
  have c3:blen y.toNat≤64:=by
   refine Nat.le_of_not_lt fun hc=>?_
   have:=Nat.pow_le_pow_right (show 0<2 by omega) (show 64≤blen y.toNat-1 by omega)
   omega
  have c4:1≤blen y.toNat:=by
   refine Nat.le_of_not_lt fun hc=>?_
   have:blen y.toNat=0:=by omega
   rw [this] at c1
   omega
  obtain ⟨m,hm⟩:∃ m,m=64-blen y.toNat:=⟨_,rfl⟩
  have es:(64-(blen y.toNat:Int))=(m:Int):=by omega
  rw [es]
  have m63:m≤63:=by omega
  have e1:IntKind.u64.wrap (m:Int)=m:=wu64 ⟨by omega,by omega⟩
  have e2:IntKind.u64.wrap ((64:Int)-m)=((64-m:Nat):Int):=by
   rw [wu64 ⟨by omega,by omega⟩];omega
  have e3:min ((m:Int)).toNat IntKind.u64.bits=m:=by
   show min ((m:Int)).toNat 64=m
   rw [qAe];omega
  have e4:min (((64-m:Nat):Int)).toNat IntKind.u64.bits=64-m:=by
   show min (((64-m:Nat):Int)).toNat 64=64-m
   rw [qAe];omega
  simp only [e1]
  rw [e2,e3,e4]
  have p64:(2:Int) ^ (64-m)*2 ^ m=18446744073709551616:=by
   rw [← Int.pow_add,show 64-m+m=64 by omega];rfl
  have p63:(2:Int) ^ (63-m)*2 ^ m=9223372036854775808:=by
   rw [← Int.pow_add,show 63-m+m=63 by omega];rfl
  have tp:(0:Int)<2 ^ m:=Int.pow_pos (by omega)
  have tp':(0:Int)<2 ^ (64-m):=Int.pow_pos (by omega)
  have y1:y<(2:Int) ^ (64-m):=by
   have:blen y.toNat=64-m:=by omega
   rw [this] at c1
   have c1':((y.toNat:Nat):Int)<((2 ^ (64-m):Nat):Int):=by exact_mod_cast c1
   push_cast at c1'
   omega
  have y2:(2:Int) ^ (63-m)≤y:=by
   have:blen y.toNat-1=63-m:=by omega
   rw [this] at c2
   have c2':((2 ^ (63-m):Nat):Int)≤((y.toNat:Nat):Int):=by exact_mod_cast c2
   push_cast at c2'
   omega
  have Y1:y*2 ^ m<18446744073709551616:=by
   have:=Int.mul_lt_mul_of_pos_right y1 tp
   omega
  have Y2:9223372036854775808≤y*2 ^ m:=by
   have:=qA2 y2 (show (0:Int)≤2 ^ m by omega)
   omega
  have H1:(h+1)*2 ^ m≤y*2 ^ m:=qA2 (by omega) (by omega)
  have H2:(h+1)*2 ^ m=h*2 ^ m+2 ^ m:=by grind
  have H0:0≤h*2 ^ m:=qA7 hh.1 (by omega)
  have fd:Int.fdiv l (2 ^ (64-m))=l / 2 ^ (64-m):=yEY _ _ (by omega)
  have L1:=Int.mul_ediv_add_emod l (2 ^ (64-m))
  have L2:=Int.emod_nonneg l (show (2:Int) ^ (64-m)≠0 by omega)
  have L3:=Int.emod_lt_of_pos l tp'
  have L4:0≤l / 2 ^ (64-m):=Int.ediv_nonneg hl.1 (by omega)
  have L5:l / 2 ^ (64-m)<2 ^ m:=by
   refine Int.ediv_lt_of_lt_mul tp' ?_
   rw [Int.mul_comm,p64];omega
  have w1:IntKind.u64.wrap (y*2 ^ m)=y*2 ^ m:=wu64 ⟨by omega,by omega⟩
  have w2:IntKind.u64.wrap (h*2 ^ m)=h*2 ^ m:=wu64 ⟨by omega,by omega⟩
  have w3:IntKind.u64.wrap (BitVec.ofInt IntKind.u64.bits (h*2 ^ m)|||BitVec.ofInt IntKind.u64.bits (l / 2 ^ (64-m))).toNat=h*2 ^ m+l / 2 ^ (64-m) :=
   yUs hh.1 ⟨L4,L5⟩ ⟨by omega,by omega⟩ (by omega)
  have w4:IntKind.u64.wrap (l*2 ^ m)=l % 2 ^ (64-m)*2 ^ m:=by
   have e:l*2 ^ m=(l / 2 ^ (64-m))*18446744073709551616+l % 2 ^ (64-m)*2 ^ m:=by
    rw [← p64]
    obtain ⟨a,ha⟩:∃ a,a=l / 2 ^ (64-m):=⟨_,rfl⟩
    obtain ⟨b,hb⟩:∃ b,b=l % 2 ^ (64-m):=⟨_,rfl⟩
    obtain ⟨t,ht⟩:∃ t,t=(2:Int) ^ m:=⟨_,rfl⟩
    obtain ⟨t',ht'⟩:∃ t,t=(2:Int) ^ (64-m):=⟨_,rfl⟩
    rw [← ha,← hb,← ht'] at L1
    rw [← ha,← hb,← ht,← ht']
    rw [← L1];grind
   have e5:l % 2 ^ (64-m)*2 ^ m<18446744073709551616:=by
    rw [← p64];exact Int.mul_lt_mul_of_pos_right L3 tp
   have e6:0≤l % 2 ^ (64-m)*2 ^ m:=qA7 L2 (by omega)
   rw [e,yCc];omega
  have e5:l % 2 ^ (64-m)*2 ^ m<18446744073709551616:=by
   rw [← p64];exact Int.mul_lt_mul_of_pos_right L3 tp
  have e6:0≤l % 2 ^ (64-m)*2 ^ m:=qA7 L2 (by omega)
  have eN:(h*18446744073709551616+l)*2 ^ m=(h*2 ^ m+l / 2 ^ (64-m))*18446744073709551616+l % 2 ^ (64-m)*2 ^ m:=by
   rw [← p64]
   obtain ⟨a,ha⟩:∃ a,a=l / 2 ^ (64-m):=⟨_,rfl⟩
   obtain ⟨b,hb⟩:∃ b,b=l % 2 ^ (64-m):=⟨_,rfl⟩
   obtain ⟨t,ht⟩:∃ t,t=(2:Int) ^ m:=⟨_,rfl⟩
   obtain ⟨t',ht'⟩:∃ t,t=(2:Int) ^ (64-m):=⟨_,rfl⟩
   rw [← ha,← hb,← ht'] at L1
   rw [← ha,← hb,← ht,← ht']
   rw [← L1];grind
  have U1:h*2 ^ m+l / 2 ^ (64-m)<y*2 ^ m:=by omega
  have U0:0≤h*2 ^ m+l / 2 ^ (64-m):=by omega
  rw [fd,w1,w2,w3,w4]
  have b5:(!(decide ((m:Int)<0)))=true:=by rw [decide_eq_false (by omega)];rfl
  have b6:(!(decide (((64-m:Nat):Int)<0)))=true:=by rw [decide_eq_false (by omega)];rfl
  rw [b5,b6,yaD,yaD,yaD,yaD]
  generalize h*2 ^ m+l / 2 ^ (64-m)=u at *
  generalize hl0:l % 2 ^ (64-m)*2 ^ m=v at *
  generalize hY:y*2 ^ m=Y at *
  rw [yEY Y _ (by omega),yEY v _ (by omega),yEX ⟨by omega,by omega⟩,yEX ⟨by omega,by omega⟩,yrU U0]
  have b7:(!(decide (Y / 4294967296=(0:Int))))=true:=by rw [decide_eq_false (by omega)];rfl
  rw [b7,yaD]
  obtain ⟨c,hyn1⟩:∃ a,a=Y / 4294967296:=⟨_,rfl⟩
  obtain ⟨d,hyn0⟩:∃ a,a=Y % 4294967296:=⟨_,rfl⟩
  obtain ⟨un1,hun1⟩:∃ a,a=v / 4294967296:=⟨_,rfl⟩
  obtain ⟨un0,hun0⟩:∃ a,a=v % 4294967296:=⟨_,rfl⟩
  rw [← hyn1,← hyn0,← hun1,← hun0]
  have d1:2147483648≤c∧c≤4294967295:=by omega
  have d0:0≤d∧d≤4294967295:=by omega
  have dn1:0≤un1∧un1≤4294967295:=by omega
  have dn0:0≤un0∧un0≤4294967295:=by omega
  have dY:Y=c*4294967296+d:=by omega
  have g1:=DI.init dY d1 d0 dn1 U0 U1
  have x1:IntKind.u64.wrap (u / c)=u / c:=wu64 ⟨g1.hq.1,by have:=g1.hq.2;omega⟩
  have x2:IntKind.u64.wrap (u-IntKind.u64.wrap (u / c*c))=u-u / c*c:=by
   have r1:=g1.hr.1
   have r2:0≤u / c*c:=qA7 g1.hq.1 (by omega)
   have r3:=g1.hr.2
   rw [wu64 (n:=u / c*c) ⟨r2,by omega⟩,wu64 ⟨r1,by omega⟩]
  rw [x1,x2]
  have fin:∀ q1:Int,DG Y u un1 q1→∀ (un21:Int),un21=u*4294967296+un1-q1*Y→∀ q0,DG Y un21 un0 q0 →
    K (IntKind.u64.wrap ((IntKind.u64.wrap (q1*(4294967296:Int)))+q0)) (Int.fdiv (IntKind.u64.wrap ((IntKind.u64.wrap ((IntKind.u64.wrap (un21*(4294967296:Int)))+un0))-(IntKind.u64.wrap (q0*Y)))) (2 ^ (min ((m:Int)).toNat IntKind.u64.bits))):=by
   intro q1 G1 un21 e21 q0 G0
   obtain ⟨a1,a2,a3,a4⟩:=G1
   obtain ⟨c1,c2,c3,c4⟩:=G0
   have s1:(q1+1)*Y=q1*Y+Y:=by grind
   have s0:(q0+1)*Y=q0*Y+Y:=by grind
   have w5:IntKind.u64.wrap (q1*4294967296)=q1*4294967296:=wu64 ⟨by omega,by omega⟩
   have w6:IntKind.u64.wrap (q1*4294967296+q0)=q1*4294967296+q0:=wu64 ⟨by omega,by omega⟩
   rw [yNM (by omega) (by omega),w5,w6,e3,yEY _ _ (by omega)]
   have eT:un21*4294967296+un0-q0*Y=(h*18446744073709551616+l-(q1*4294967296+q0)*y)*2 ^ m:=by
    have f1:(q1*4294967296+q0)*Y=q1*Y*4294967296+q0*Y:=by grind
    have f2:(h*18446744073709551616+l-(q1*4294967296+q0)*y)*2 ^ m=(h*18446744073709551616+l)*2 ^ m-(q1*4294967296+q0)*Y:=by
     rw [← hY,Int.sub_mul,Int.mul_assoc (q1*4294967296+q0)]
    rw [f2,f1,eN]
    omega
   rw [eT,Int.mul_ediv_cancel _ (by omega)]
   have r0:0≤h*18446744073709551616+l-(q1*4294967296+q0)*y:=by
    refine Int.not_lt.1 fun hc=>?_
    have:=qCb hc tp
    omega
   have r1:h*18446744073709551616+l-(q1*4294967296+q0)*y<y:=by
    refine Int.not_le.1 fun hc=>?_
    have:=qA2 hc (show (0:Int)≤2 ^ m by omega)
    omega
   obtain ⟨Q,hQ⟩:∃ Q,Q=q1*4294967296+q0:=⟨_,rfl⟩
   rw [← hQ] at r0 r1 ⊢
   have z1:(h*18446744073709551616+l) / y=Q:=by
    have:h*18446744073709551616+l=(h*18446744073709551616+l-Q*y)+Q*y:=by omega
    rw [this,Int.add_mul_ediv_right _ _ (by omega),Int.ediv_eq_zero_of_lt r0 r1];omega
   have z2:(h*18446744073709551616+l) % y=h*18446744073709551616+l-Q*y:=by
    have:=Int.mul_ediv_add_emod (h*18446744073709551616+l) y
    rw [z1,Int.mul_comm] at this
    omega
   rw [z1,z2] at k
   exact k
  have mid:∀ q:Int,DG Y u un1 q→∀ (X:Int→Int→Int→Int→Int→Int→Int→Int→Int→Bool→Prop),(∀ q0 r0 b0,DG Y (u*4294967296+un1-q*Y) un0 q0→X Y m c d un0 q r0 (u*4294967296+un1-q*Y) q0 b0) →
    asr (!(decide (c=(0:Int)))) (∃ n:Nat,yfo ybq X X n Y m c d un0 q ((IntKind.u64.wrap ((IntKind.u64.wrap ((IntKind.u64.wrap ((IntKind.u64.wrap (u*(4294967296:Int)))+un1))-(IntKind.u64.wrap (q*Y))))-(IntKind.u64.wrap ((IntKind.u64.wrap (Int.tdiv (IntKind.u64.wrap ((IntKind.u64.wrap ((IntKind.u64.wrap (u*(4294967296:Int)))+un1))-(IntKind.u64.wrap (q*Y)))) c))*c))))) (IntKind.u64.wrap ((IntKind.u64.wrap ((IntKind.u64.wrap (u*(4294967296:Int)))+un1))-(IntKind.u64.wrap (q*Y)))) (IntKind.u64.wrap (Int.tdiv (IntKind.u64.wrap ((IntKind.u64.wrap ((IntKind.u64.wrap (u*(4294967296:Int)))+un1))-(IntKind.u64.wrap (q*Y)))) c))):=by
   intro q G X hX
   obtain ⟨a1,a2,a3,a4⟩:=G
   have s1:(q+1)*Y=q*Y+Y:=by grind
   have b8:(!(decide (c=(0:Int))))=true:=by rw [decide_eq_false (by omega)];rfl
   rw [b8,yaD,yNM (by omega) (by omega),yrU (by omega)]
   have g0:=DI.init dY d1 d0 dn0 (u:=u*4294967296+un1-q*Y) (by omega) (by omega)
   generalize u*4294967296+un1-q*Y=u2 at *
   have x1:IntKind.u64.wrap (u2 / c)=u2 / c:=wu64 ⟨g0.hq.1,by have:=g0.hq.2;omega⟩
   have x2:IntKind.u64.wrap (u2-IntKind.u64.wrap (u2 / c*c))=u2-u2 / c*c:=by
    have r1:=g0.hr.1
    have r2:0≤u2 / c*c:=qA7 g0.hq.1 (by omega)
    have r3:=g0.hr.2
    have r4:=g0.hlt
    rw [wu64 (n:=u2 / c*c) ⟨r2,by omega⟩,wu64 ⟨r1,by omega⟩]
   rw [x1,x2]
   exact ⟨3,yTL _ _ _ _ (fun q0 r0 b0 g=>hX q0 r0 b0 g) (fun q0 r0 b0 g=>hX q0 r0 b0 g) _ _ g0⟩
  have leaf:∀ {P:Prop},P→asr (!(decide ((m:Int)<0))) P:=fun p=>by rw [b5,yaD];exact p
  refine ⟨3,yTK _ _ _ _ (fun q r b G=>?_) (fun q r b G=>?_) _ _ g1⟩
  ·exact mid q G _ (fun q0 r0 b0 G0=>leaf (fin q G _ rfl q0 G0))
  ·exact mid q G _ (fun q0 r0 b0 G0=>leaf (fin q G _ rfl q0 G0))
end Go.Pf.Vc
namespace Go.Pf.Vc
open Go Go.Pf
theorem yQr {h l y:Int} (hh:U64 h) (hl:U64 l) (hy:U64 y) (h0:0<y) {K:Int→Prop}
  (k:K ((h*18446744073709551616+l) % y)):ykt h l y K:=by
 unfold ykt yxM
 have b3:(!(decide (y=(0:Int))))=true:=by rw [decide_eq_false (by omega)];rfl
 have a1:=Int.emod_nonneg h (show y≠0 by omega)
 have a2:=Int.emod_lt_of_pos h h0
 have hh':=hh
 unfold U64 at hh hy
 rw [b3,yaD,yTb hh.1]
 refine yKI ⟨a1,by omega⟩ hl ⟨by omega,by omega⟩ a2 ?_
 have e:(h % y*18446744073709551616+l) % y=(h*18446744073709551616+l) % y:=by
  rw [Int.add_emod,Int.mul_emod,Int.emod_emod,← Int.mul_emod,← Int.add_emod]
 rw [e]
 exact k
def outS (s:Bool) (a b:Int) (K:Int→Int→Int→Prop):Prop :=
 if a≤1000000000000000000∧b≤1000000000000000000 then K (if s then -a else a) b 0 else K 0 0 16
theorem yvF {s:Bool} {a b:Int} (ha:0≤a) (hb:0≤b) (K:Int→Int→Int→Prop):yct s a b K=outS s a b K:=by
 unfold yct ynz outS
 by_cases h:a≤1000000000000000000∧b≤1000000000000000000
 ·have e:decide ((if b>a then b else a)>(1000000000000000000:Int))=false:=by
   refine decide_eq_false ?_
   split <;> omega
  have w1:IntKind.i64.wrap a=a:=wi64 ⟨by omega,by omega⟩
  have w2:IntKind.i64.wrap b=b:=wi64 ⟨by omega,by omega⟩
  have w3:IntKind.i64.wrap (0-a)=-a:=by rw [wi64 ⟨by omega,by omega⟩];omega
  rw [e,yac,if_pos h,w1,w2,w3]
  cases s
  ·rfl
  ·rfl
 ·have e:decide ((if b>a then b else a)>(1000000000000000000:Int))=true:=by
   refine decide_eq_true ?_
   split <;> omega
  rw [e,yal,if_neg h]
theorem Make_of {n d:Int} (hn:I64 n) (hd:I64 d) {K:Int→Int→Int→Prop}
  (k:if d=0 then K 0 0 18 else outS (decide (n<0) != decide (d<0)) ((n.natAbs / Nat.gcd n.natAbs d.natAbs:Nat):Int) ((d.natAbs / Nat.gcd n.natAbs d.natAbs:Nat):Int) K):yan n d K:=by
 unfold yan yqP
 by_cases h:d=0
 ·rw [if_pos h] at k
  have:(d ==(0:Int))=true:=beq_iff_eq.2 h
  rw [this,yal]
  exact k
 ·rw [if_neg h] at k
  have:(d ==(0:Int))=false:=beq_eq_false_iff_ne.2 h
  rw [this,yac,ym5 hn,ym5 hd]
  refine yBt _ _ _ ?_
  have gp:0<Nat.gcd n.natAbs d.natAbs:=qBk _ (by omega)
  have b3:(!(decide (((Nat.gcd n.natAbs d.natAbs:Nat):Int)=(0:Int))))=true:=by rw [decide_eq_false (by omega)];rfl
  unfold I64 at hn hd
  have u1:n.natAbs / Nat.gcd n.natAbs d.natAbs≤n.natAbs:=qBq _ _
  have u2:d.natAbs / Nat.gcd n.natAbs d.natAbs≤d.natAbs:=qBq _ _
  rw [b3,yaD,yaD,yrU (by omega),yrU (by omega),← qBj,← qBj]
  generalize n.natAbs / Nat.gcd n.natAbs d.natAbs=A at *
  generalize d.natAbs / Nat.gcd n.natAbs d.natAbs=B at *
  rw [wu64 (n:=(A:Int)) ⟨by omega,by omega⟩,wu64 (n:=(B:Int)) ⟨by omega,by omega⟩,yvF (by omega) (by omega)]
  exact k
end Go.Pf.Vc
namespace Go.Pf.Vc
open Go Go.Pf
def numM (a c:Int) (b d:Int):Nat:=(a.natAbs / Nat.gcd a.natAbs d.natAbs)*(c.natAbs / Nat.gcd c.natAbs b.natAbs)
def denM (a c:Int) (b d:Int):Nat:=(b.natAbs / Nat.gcd c.natAbs b.natAbs)*(d.natAbs / Nat.gcd a.natAbs d.natAbs)
theorem yMP {a b c d:Int} (ha:I64 a) (hb:I64 b) (hc:I64 c) (hd:I64 d) {K:Int→Int→Int→Prop}
  (k:if chk2 a b c d=0 then outS (decide (a<0) != decide (c<0)) (numM a c b d) (denM a c b d) K else K 0 0 (chk2 a b c d)):ybA a b c d K:=by
 unfold ybA ysm
 refine yvd ha hb hc hd ?_
 by_cases h:chk2 a b c d=0
 ·rw [if_pos h] at k
  have:(chk2 a b c d !=(0:Int))=false:=by rw [h];rfl
  rw [this,yac,ym5 ha,ym5 hc]
  obtain ⟨⟨b1,b2,a1,a2,_⟩,d1,d2,c1,c2,_⟩:=yf6.1 h
  have wb:IntKind.u64.wrap b=((b.natAbs:Nat):Int):=by rw [wu64 ⟨by omega,by omega⟩];omega
  have wd:IntKind.u64.wrap d=((d.natAbs:Nat):Int):=by rw [wu64 ⟨by omega,by omega⟩];omega
  rw [wb,wd]
  refine yBt _ _ _ (yBt _ _ _ ?_)
  unfold numM denM at k
  have g1:0<Nat.gcd a.natAbs d.natAbs:=qBk _ (by omega)
  have g2:0<Nat.gcd c.natAbs b.natAbs:=qBk _ (by omega)
  obtain ⟨g3,h3⟩:∃ g,g=Nat.gcd a.natAbs d.natAbs:=⟨_,rfl⟩
  obtain ⟨g4,h4⟩:∃ g,g=Nat.gcd c.natAbs b.natAbs:=⟨_,rfl⟩
  rw [← h3,← h4] at k ⊢
  rw [← h3] at g1;rw [← h4] at g2
  have n3:(!(decide ((g3:Int)=(0:Int))))=true:=by rw [decide_eq_false (by omega)];rfl
  have n4:(!(decide ((g4:Int)=(0:Int))))=true:=by rw [decide_eq_false (by omega)];rfl
  rw [n3,n4,yaD,yaD,yrU (by omega),yrU (by omega),yrU (by omega),yrU (by omega),← qBj,← qBj,← qBj,← qBj]
  have q1:a.natAbs / g3≤a.natAbs:=qBq _ _
  have q2:c.natAbs / g4≤c.natAbs:=qBq _ _
  have q3:b.natAbs / g4≤b.natAbs:=qBq _ _
  have q4:d.natAbs / g3≤d.natAbs:=qBq _ _
  generalize a.natAbs / g3=A at *
  generalize c.natAbs / g4=C at *
  generalize b.natAbs / g4=B at *
  generalize d.natAbs / g3=D at *
  rw [wu64 (n:=(A:Int)) ⟨by omega,by omega⟩,wu64 (n:=(C:Int)) ⟨by omega,by omega⟩,wu64 (n:=(B:Int)) ⟨by omega,by omega⟩,wu64 (n:=(D:Int)) ⟨by omega,by omega⟩,
   yp5 ⟨by omega,by omega⟩ ⟨by omega,by omega⟩,yaD,yaD,yp5 ⟨by omega,by omega⟩ ⟨by omega,by omega⟩]
  have m1:A*C≤1000000000000000000*1000000000000000000:=Nat.mul_le_mul (by omega) (by omega)
  have m2:B*D≤1000000000000000000*1000000000000000000:=Nat.mul_le_mul (by omega) (by omega)
  rw [← Int.natCast_mul,← Int.natCast_mul]
  generalize A*C=M at *
  generalize B*D=N at *
  have wm:IntKind.u64.wrap ((M:Int) / 18446744073709551616+(N:Int) / 18446744073709551616)=(M:Int) / 18446744073709551616+(N:Int) / 18446744073709551616:=wu64 ⟨by omega,by omega⟩
  rw [wm]
  by_cases hb:(M:Int) / 18446744073709551616+(N:Int) / 18446744073709551616>0
  ·rw [decide_eq_true hb,yal]
   unfold outS at k
   rw [if_neg (by omega)] at k
   exact k
  ·rw [decide_eq_false hb,yac]
   have eM:(M:Int) % 18446744073709551616=M:=by omega
   have eN:(N:Int) % 18446744073709551616=N:=by omega
   rw [eM,eN]
   by_cases h0:(M:Int)>0
   ·rw [decide_eq_true h0,yal,yvF (by omega) (by omega)]
    exact k
   ·rw [decide_eq_false h0,yac,yvF (by omega) (by omega)]
    have hz:M=0:=by omega
    subst hz
    unfold outS at k ⊢
    by_cases hN:(N:Int)≤1000000000000000000
    ·rw [if_pos ⟨by omega,hN⟩] at k ⊢
     have e:(if (decide (a<0) != decide (c<0))=true then -((0:Nat):Int) else ((0:Nat):Int))=0:=by split <;> rfl
     rw [e] at k
     exact k
    ·rw [if_neg (by omega)] at k ⊢
     exact k
 ·rw [if_neg h] at k
  have:(chk2 a b c d !=(0:Int))=true:=by rw [bne_iff_ne];exact h
  rw [this,yal]
  exact k
theorem RV.swap {c d:Int} (h:RV c d) (h0:0<c):RV d c:=by
 obtain ⟨d1,d2,c1,c2,g⟩:=h
 exact ⟨by omega,c2,by omega,d2,by rw [Nat.gcd_comm];exact g⟩
theorem RV.swapn {c d:Int} (h:RV c d) (h0:c<0):RV (-d) (-c):=by
 obtain ⟨d1,d2,c1,c2,g⟩:=h
 exact ⟨by omega,by omega,by omega,by omega,by rw [Int.natAbs_neg,Int.natAbs_neg,Nat.gcd_comm];exact g⟩
theorem yTM {a b c d:Int} (ha:I64 a) (hb:I64 b) (hc:I64 c) (hd:I64 d) {K:Int→Int→Int→Prop}
  (k:if chk2 a b c d=0 then (if c=0 then K 0 0 18 else outS (decide (a<0) != decide (c<0)) (numM a d b c) (denM a d b c) K) else K 0 0 (chk2 a b c d)):yaz a b c d K:=by
 unfold yaz ysn
 refine yvd ha hb hc hd ?_
 by_cases h:chk2 a b c d=0
 ·rw [if_pos h] at k
  have:(chk2 a b c d !=(0:Int))=false:=by rw [h];rfl
  rw [this,yac]
  obtain ⟨hab,hcd⟩:=yf6.1 h
  obtain ⟨d1,d2,c1,c2,_⟩:=id hcd
  by_cases h0:c=0
  ·rw [if_pos h0] at k
   have:(c ==(0:Int))=true:=beq_iff_eq.2 h0
   rw [this,yal]
   exact k
  ·rw [if_neg h0] at k
   have:(c ==(0:Int))=false:=beq_eq_false_iff_ne.2 h0
   rw [this,yac]
   by_cases hn:c<0
   ·rw [decide_eq_true hn] at k
    rw [decide_eq_true hn,yal,wi64 (n:=0-d) ⟨by omega,by omega⟩,wi64 (n:=0-c) ⟨by omega,by omega⟩,Int.zero_sub,Int.zero_sub]
    have e:chk2 a b (-d) (-c)=0:=yf6.2 ⟨hab,hcd.swapn hn⟩
    refine yMP ha hb ⟨by omega,by omega⟩ ⟨by omega,by omega⟩ ?_
    rw [if_pos e,decide_eq_true (show -d<0 by omega)]
    unfold numM denM at k ⊢
    rw [Int.natAbs_neg,Int.natAbs_neg]
    exact k
   ·rw [decide_eq_false hn] at k
    rw [decide_eq_false hn,yac]
    have e:chk2 a b d c=0:=yf6.2 ⟨hab,hcd.swap (by omega)⟩
    refine yMP ha hb hd hc ?_
    rw [if_pos e,decide_eq_false (show ¬d<0 by omega)]
    exact k
 ·rw [if_neg h] at k
  have:(chk2 a b c d !=(0:Int))=true:=by rw [bne_iff_ne];exact h
  rw [this,yal]
  exact k
end Go.Pf.Vc
namespace Go.Pf.Vc
open Go Go.Pf
theorem ySo {s:Bool} {hi lo p1 p3:Int} {g:Nat} (hh:U64 hi) (hl:U64 lo) (hg:0<g) (g1:(g:Int)≤1000000000000000000)
   (h1:0≤p1∧p1≤1000000000000000000) (h3:0≤p3∧p3≤1000000000000000000) {K:Int→Int→Int→Prop}
   (k:outS s (((hi*18446744073709551616+lo).toNat / Nat.gcd (hi*18446744073709551616+lo).toNat g:Nat):Int)
    (((p1.toNat / g)*(p3.toNat / Nat.gcd (hi*18446744073709551616+lo).toNat g):Nat):Int) K) :
   (ykt hi lo (g:Int) (fun (b:Int) =>
 (ycB b (g:Int) (fun (a:Int) =>
 (cbr (decide (hi≥a))
 (K (0:Int) (0:Int) (16:Int))
 (yhE hi lo a (fun (c:Int) (_:Int) =>
 (asr (!(decide ((g:Int)=(0:Int))))
 (asr (!(decide (a=(0:Int))))
 (yfU (IntKind.u64.wrap (Int.tdiv (IntKind.u64.wrap p1) (g:Int))) (IntKind.u64.wrap (Int.tdiv (IntKind.u64.wrap p3) a)) (fun (d:Int) (e:Int) =>
 (cbr (decide (d>(0:Int)))
 (K (0:Int) (0:Int) (16:Int))
 (yct s c e (fun (f:Int) (h:Int) (i:Int) =>
 (K f h i))))))))))))))):=by
  unfold U64 at hh hl
  obtain ⟨X,hX⟩:∃ X:Nat,X=(hi*18446744073709551616+lo).toNat:=⟨_,rfl⟩
  have eX:hi*18446744073709551616+lo=(X:Int):=by omega
  rw [← hX] at k
  refine yQr hh hl ⟨by omega,by omega⟩ (by omega) ?_
  rw [eX,← Int.natCast_emod]
  refine yBt _ _ _ ?_
  have eg:Nat.gcd (X % g) g=Nat.gcd X g:=by rw [Nat.gcd_comm,Nat.gcd_comm X,Nat.gcd_rec g X,Nat.gcd_comm]
  rw [eg]
  have gp:0<Nat.gcd X g:=qBk _ hg
  have gl:Nat.gcd X g≤g:=Nat.le_of_dvd hg (Nat.gcd_dvd_right _ _)
  generalize Nat.gcd X g=G at *
  by_cases hb:hi≥(G:Int)
  ·rw [decide_eq_true hb,yal]
   unfold outS at k
   have:18446744073709551616≤X / G:=by
    rw [Nat.le_div_iff_mul_le gp]
    omega
   rw [if_neg (by omega)] at k
   exact k
  ·rw [decide_eq_false hb,yac]
   refine yKI hh hl ⟨by omega,by omega⟩ (by omega) ?_
   rw [eX]
   have n3:(!(decide ((g:Int)=(0:Int))))=true:=by rw [decide_eq_false (by omega)];rfl
   have n4:(!(decide ((G:Int)=(0:Int))))=true:=by rw [decide_eq_false (by omega)];rfl
   have e1:IntKind.u64.wrap p1=(p1.toNat:Int):=by rw [wu64 ⟨by omega,by omega⟩];omega
   have e3:IntKind.u64.wrap p3=(p3.toNat:Int):=by rw [wu64 ⟨by omega,by omega⟩];omega
   rw [n3,n4,yaD,yaD,e1,e3,yrU (by omega),yrU (by omega),← qBj,← qBj,← qBj]
   have q1:p1.toNat / g≤p1.toNat:=qBq _ _
   have q3:p3.toNat / G≤p3.toNat:=qBq _ _
   generalize p1.toNat / g=A at *
   generalize p3.toNat / G=B at *
   generalize X / G=N at *
   rw [wu64 (n:=(A:Int)) ⟨by omega,by omega⟩,wu64 (n:=(B:Int)) ⟨by omega,by omega⟩,yp5 ⟨by omega,by omega⟩ ⟨by omega,by omega⟩,← Int.natCast_mul]
   generalize A*B=D at *
   by_cases hd:((D:Int) / 18446744073709551616)>0
   ·rw [decide_eq_true hd,yal]
    unfold outS at k
    rw [if_neg (by omega)] at k
    exact k
   ·rw [decide_eq_false hd,yac]
    have eD:(D:Int) % 18446744073709551616=D:=by omega
    rw [eD,yvF (by omega) (by omega)]
    exact k
end Go.Pf.Vc
namespace Go.Pf.Vc
open Go Go.Pf
theorem yKJ {p q c:Int} {K:Int→Int→Prop} (hc:c.toNat≤1) (k:K (((p.toNat+q.toNat+c.toNat) % 18446744073709551616:Nat):Int) (((p.toNat+q.toNat+c.toNat) / 18446744073709551616:Nat):Int)):ylM p q c K:=by
 unfold ylM
 rw [decide_eq_true hc,yaD]
 exact k
theorem yKK {p q c:Int} {K:Int→Int→Prop} (hc:c.toNat≤1) (k:K (((p.toNat+18446744073709551616-q.toNat-c.toNat) % 18446744073709551616:Nat):Int) ((if q.toNat+c.toNat≤p.toNat then 0 else 1:Nat):Int)):ylN p q c K:=by
 unfold ylN
 rw [decide_eq_true hc,yaD]
 have e:(bif Nat.ble (q.toNat+c.toNat) p.toNat then 0 else 1:Nat)=(if q.toNat+c.toNat≤p.toNat then 0 else 1:Nat):=by
  by_cases h:q.toNat+c.toNat≤p.toNat
  ·rw [if_pos h,show Nat.ble (q.toNat+c.toNat) p.toNat=true from Nat.ble_eq_true_of_le h];rfl
  ·rw [if_neg h]
   cases hb:Nat.ble (q.toNat+c.toNat) p.toNat
   ·rfl
   ·exact absurd (Nat.le_of_ble_eq_true hb) h
 rw [e]
 exact k
theorem yQs {X Y:Int} (hx:0≤X) (hy:0≤Y) (hs:X+Y<340282366920938463463374607431768211456) {F:Int→Int→Int→Int→Prop}
  (h:∀ c1 c2,F ((X+Y) % 18446744073709551616) c1 ((X+Y) / 18446744073709551616) c2) :
  ylM (X % 18446744073709551616) (Y % 18446744073709551616) 0 (fun lo c1=>ylM (X / 18446744073709551616) (Y / 18446744073709551616) c1 (fun hi c2=>F lo c1 hi c2)):=by
 obtain ⟨x,rfl⟩:∃ x:Nat,X=x:=⟨X.toNat,by omega⟩
 obtain ⟨y,rfl⟩:∃ y:Nat,Y=y:=⟨Y.toNat,by omega⟩
 refine yKJ (by decide) (yKJ (by omega) ?_)
 have e1:(((((x:Int) % 18446744073709551616).toNat+((y:Int) % 18446744073709551616).toNat+(0:Int).toNat) % 18446744073709551616:Nat):Int)=((x:Int)+y) % 18446744073709551616:=by omega
 have e2:(((((x:Int) / 18446744073709551616).toNat+((y:Int) / 18446744073709551616).toNat+(((((x:Int) % 18446744073709551616).toNat+((y:Int) % 18446744073709551616).toNat+(0:Int).toNat) / 18446744073709551616:Nat):Int).toNat) % 18446744073709551616:Nat):Int)=((x:Int)+y) / 18446744073709551616:=by omega
 rw [e1,e2]
 exact h _ _
theorem yz9 {X Y:Int} (hy:0≤Y) (hxy:Y≤X) (hs:X<340282366920938463463374607431768211456) {F:Int→Int→Int→Int→Prop}
  (h:∀ c1 c2,F ((X-Y) % 18446744073709551616) c1 ((X-Y) / 18446744073709551616) c2) :
  ylN (X % 18446744073709551616) (Y % 18446744073709551616) 0 (fun lo c1=>ylN (X / 18446744073709551616) (Y / 18446744073709551616) c1 (fun hi c2=>F lo c1 hi c2)):=by
 obtain ⟨x,rfl⟩:∃ x:Nat,X=x:=⟨X.toNat,by omega⟩
 obtain ⟨y,rfl⟩:∃ y:Nat,Y=y:=⟨Y.toNat,by omega⟩
 refine yKK (by decide) (yKK (by split <;> omega) ?_)
 have e1:(((((x:Int) % 18446744073709551616).toNat+18446744073709551616-((y:Int) % 18446744073709551616).toNat-(0:Int).toNat) % 18446744073709551616:Nat):Int)=((x:Int)-y) % 18446744073709551616:=by omega
 rw [e1]
 by_cases hb:((y:Int) % 18446744073709551616).toNat+(0:Int).toNat≤((x:Int) % 18446744073709551616).toNat
 ·rw [if_pos hb]
  have e2:(((((x:Int) / 18446744073709551616).toNat+18446744073709551616-((y:Int) / 18446744073709551616).toNat-((0:Nat):Int).toNat) % 18446744073709551616:Nat):Int)=((x:Int)-y) / 18446744073709551616:=by omega
  rw [e2]
  exact h _ _
 ·rw [if_neg hb]
  have e2:(((((x:Int) / 18446744073709551616).toNat+18446744073709551616-((y:Int) / 18446744073709551616).toNat-((1:Nat):Int).toNat) % 18446744073709551616:Nat):Int)=((x:Int)-y) / 18446744073709551616:=by omega
  rw [e2]
  exact h _ _
end Go.Pf.Vc
namespace Go.Pf.Vc
open Go Go.Pf
def outA (s:Bool) (Z p1 p3:Int) (g:Nat) (K:Int→Int→Int→Prop):Prop :=
 if Z=0 then K 0 1 0 else outS s ((Z.toNat / Nat.gcd Z.toNat g:Nat):Int) (((p1.toNat / g)*(p3.toNat / Nat.gcd Z.toNat g):Nat):Int) K
theorem yEZ {s:Bool} {Z p1 p3:Int} {g:Nat} (hz:0≤Z) (hz2:Z<340282366920938463463374607431768211456) (hg:0<g) (g1:(g:Int)≤1000000000000000000)
   (h1:0≤p1∧p1≤1000000000000000000) (h3:0≤p3∧p3≤1000000000000000000) {K:Int→Int→Int→Prop}
   (k:outA s Z p1 p3 g K) :
   cbr (Z / 18446744073709551616 ==(0:Int)) (cbr (Z % 18446744073709551616 ==(0:Int)) (K 0 1 0) (ykt (Z / 18446744073709551616) (Z % 18446744073709551616) (g:Int) (fun (b:Int) =>
 (ycB b (g:Int) (fun (a:Int) =>
 (cbr (decide ((Z / 18446744073709551616)≥a))
 (K (0:Int) (0:Int) (16:Int))
 (yhE (Z / 18446744073709551616) (Z % 18446744073709551616) a (fun (c:Int) (_:Int) =>
 (asr (!(decide ((g:Int)=(0:Int))))
 (asr (!(decide (a=(0:Int))))
 (yfU (IntKind.u64.wrap (Int.tdiv (IntKind.u64.wrap p1) (g:Int))) (IntKind.u64.wrap (Int.tdiv (IntKind.u64.wrap p3) a)) (fun (d:Int) (e:Int) =>
 (cbr (decide (d>(0:Int)))
 (K (0:Int) (0:Int) (16:Int))
 (yct s c e (fun (f:Int) (h:Int) (i:Int) =>
 (K f h i)))))))))))))))) (ykt (Z / 18446744073709551616) (Z % 18446744073709551616) (g:Int) (fun (b:Int) =>
 (ycB b (g:Int) (fun (a:Int) =>
 (cbr (decide ((Z / 18446744073709551616)≥a))
 (K (0:Int) (0:Int) (16:Int))
 (yhE (Z / 18446744073709551616) (Z % 18446744073709551616) a (fun (c:Int) (_:Int) =>
 (asr (!(decide ((g:Int)=(0:Int))))
 (asr (!(decide (a=(0:Int))))
 (yfU (IntKind.u64.wrap (Int.tdiv (IntKind.u64.wrap p1) (g:Int))) (IntKind.u64.wrap (Int.tdiv (IntKind.u64.wrap p3) a)) (fun (d:Int) (e:Int) =>
 (cbr (decide (d>(0:Int)))
 (K (0:Int) (0:Int) (16:Int))
 (yct s c e (fun (f:Int) (h:Int) (i:Int) =>
 (K f h i))))))))))))))):=by
  unfold outA at k
  have eZ:Z / 18446744073709551616*18446744073709551616+Z % 18446744073709551616=Z:=by omega
  by_cases h0:Z=0
  ·rw [if_pos h0] at k
   subst h0
   have e1:((0:Int) / 18446744073709551616 ==(0:Int))=true:=by decide
   have e2:((0:Int) % 18446744073709551616 ==(0:Int))=true:=by decide
   rw [e1,yal,e2,yal]
   exact k
  ·rw [if_neg h0] at k
   have t:=ySo (s:=s) (hi:=Z / 18446744073709551616) (lo:=Z % 18446744073709551616) (p1:=p1) (p3:=p3) (g:=g) (K:=K) ⟨by omega,by omega⟩ ⟨by omega,by omega⟩ hg g1 h1 h3 (by rw [eZ];exact k)
   cases h4:(Z / 18446744073709551616 ==(0:Int))
   ·rw [yac];exact t
   ·rw [yal]
    cases h2:(Z % 18446744073709551616 ==(0:Int))
    ·rw [yac];exact t
    ·have:=beq_iff_eq.1 h2
     have:=beq_iff_eq.1 h4
     exact absurd (show Z=0 by omega) h0
theorem yyj {s s':Bool} {Z Z' p1 p3:Int} {g:Nat} {K:Int→Int→Int→Prop} (k:outA s' Z' p1 p3 g K) (hz:Z=Z') (hs:Z≠0→s=s'):outA s Z p1 p3 g K:=by
 subst hz
 unfold outA at k ⊢
 by_cases h:Z=0
 ·rw [if_pos h] at k ⊢;exact k
 ·rw [if_neg h] at k ⊢;rw [hs h];exact k
theorem yQt {a b c d:Int} (ha:I64 a) (hb:I64 b) (hc:I64 c) (hd:I64 d) {K:Int→Int→Int→Prop}
  (k:if chk2 a b c d=0 then outA (decide (a*(d / (Nat.gcd b.natAbs d.natAbs:Nat))+c*(b / (Nat.gcd b.natAbs d.natAbs:Nat))<0))
    ((a*(d / (Nat.gcd b.natAbs d.natAbs:Nat))+c*(b / (Nat.gcd b.natAbs d.natAbs:Nat))).natAbs:Int) b d (Nat.gcd b.natAbs d.natAbs) K
   else K 0 0 (chk2 a b c d)):yaH a b c d K:=by
 unfold yaH ysk
 refine yvd ha hb hc hd ?_
 by_cases h:chk2 a b c d=0
 ·rw [if_pos h] at k
  have:(chk2 a b c d !=(0:Int))=false:=by rw [h];rfl
  rw [this,yac]
  obtain ⟨⟨b1,b2,a1,a2,_⟩,d1,d2,c1,c2,_⟩:=yf6.1 h
  have wb:IntKind.u64.wrap b=((b.natAbs:Nat):Int):=by rw [wu64 ⟨by omega,by omega⟩];omega
  have wd:IntKind.u64.wrap d=((d.natAbs:Nat):Int):=by rw [wu64 ⟨by omega,by omega⟩];omega
  have g1:0<Nat.gcd b.natAbs d.natAbs:=qBk _ (by omega)
  have g2:Nat.gcd b.natAbs d.natAbs≤d.natAbs:=Nat.le_of_dvd (by omega) (Nat.gcd_dvd_right _ _)
  have go:ycB (IntKind.u64.wrap b) (IntKind.u64.wrap d)=ycB ((b.natAbs:Nat):Int) ((d.natAbs:Nat):Int):=by rw [wb,wd]
  rw [go]
  refine yBt _ _ _ ?_
  generalize Nat.gcd b.natAbs d.natAbs=g at *
  have n3:(!(decide ((g:Int)=(0:Int))))=true:=by rw [decide_eq_false (by omega)];rfl
  have q1:0≤b / (g:Int):=Int.ediv_nonneg (by omega) (by omega)
  have q2:0≤d / (g:Int):=Int.ediv_nonneg (by omega) (by omega)
  have q3:b / (g:Int)≤b:=Int.ediv_le_self _ (by omega)
  have q4:d / (g:Int)≤d:=Int.ediv_le_self _ (by omega)
  have ed:IntKind.u64.wrap (Int.tdiv (IntKind.u64.wrap d) (g:Int))=d / (g:Int):=by
   rw [wu64 (n:=d) ⟨by omega,by omega⟩,yrU (by omega),wu64 ⟨by omega,by omega⟩]
  have eb:IntKind.u64.wrap (Int.tdiv (IntKind.u64.wrap b) (g:Int))=b / (g:Int):=by
   rw [wu64 (n:=b) ⟨by omega,by omega⟩,yrU (by omega),wu64 ⟨by omega,by omega⟩]
  have yrn:∀ {c:Bool} {P:Prop},c=true→P→asr c P:=fun h p=>by rw [h,yaD];exact p
  rw [ym5 ha]
  refine yrn n3 ?_
  rw [yp5 (U64.abs ha) (by rw [ed];exact ⟨by omega,by omega⟩),ym5 hc]
  refine yrn n3 ?_
  rw [yp5 (U64.abs hc) (by rw [eb];exact ⟨by omega,by omega⟩)]
  obtain ⟨X,hX⟩:∃ X,X=((a.natAbs:Nat):Int)*IntKind.u64.wrap (Int.tdiv (IntKind.u64.wrap d) (g:Int)):=⟨_,rfl⟩
  obtain ⟨Y,hY⟩:∃ Y,Y=((c.natAbs:Nat):Int)*IntKind.u64.wrap (Int.tdiv (IntKind.u64.wrap b) (g:Int)):=⟨_,rfl⟩
  rw [← hX,← hY]
  rw [ed] at hX;rw [eb] at hY
  have X0:0≤X:=by rw [hX];exact qA7 (by omega) q2
  have Y0:0≤Y:=by rw [hY];exact qA7 (by omega) q1
  have X1:X≤1000000000000000000*1000000000000000000:=by rw [hX];exact qCa (by omega) (by omega) q2 (by omega)
  have Y1:Y≤1000000000000000000*1000000000000000000:=by rw [hY];exact qCa (by omega) (by omega) q1 (by omega)
  have ax:a*(d / (g:Int))=if a<0 then -X else X:=by
   split
   ·rw [hX,show ((a.natAbs:Nat):Int)=-a by omega,Int.neg_mul,Int.neg_neg]
   ·rw [hX,show ((a.natAbs:Nat):Int)=a by omega]
  have cy:c*(b / (g:Int))=if c<0 then -Y else Y:=by
   split
   ·rw [hY,show ((c.natAbs:Nat):Int)=-c by omega,Int.neg_mul,Int.neg_neg]
   ·rw [hY,show ((c.natAbs:Nat):Int)=c by omega]
  rw [ax,cy] at k
  clear hX hY ax cy ed eb n3
  by_cases hs:decide (a<0)=decide (c<0)
  ·have e:(decide (a<0) == decide (c<0))=true:=beq_iff_eq.2 hs
   rw [e,yal]
   refine yQs X0 Y0 (by omega) (fun c1 c2=>?_)
   refine yEZ (by omega) (by omega) g1 (by omega) ⟨by omega,b2⟩ ⟨by omega,d2⟩ (yyj k ?_ ?_)
   ·by_cases h1:a<0
    ·have h2:c<0:=by simpa [h1] using hs.symm
     rw [if_pos h1,if_pos h2];omega
    ·have h2:¬c<0:=by simpa [h1] using hs.symm
     rw [if_neg h1,if_neg h2];omega
   ·intro h0
    by_cases h1:a<0
    ·have h2:c<0:=by simpa [h1] using hs.symm
     rw [if_pos h1,if_pos h2,decide_eq_true h1,decide_eq_true (by omega)]
    ·have h2:¬c<0:=by simpa [h1] using hs.symm
     rw [if_neg h1,if_neg h2,decide_eq_false h1,decide_eq_false (by omega)]
  ·have e:(decide (a<0) == decide (c<0))=false:=beq_eq_false_iff_ne.2 hs
   rw [e,yac]
   have h12:(a<0∧¬c<0)∨(¬a<0∧c<0):=by
    by_cases h1:a<0 <;> by_cases h2:c<0 <;> simp [h1,h2] at hs ⊢
   by_cases hlt:X<Y
   ·have kk:outA (!decide (a<0)) (Y-X) b d g K:=by
     refine yyj k ?_ ?_
     ·rcases h12 with ⟨h1,h2⟩ | ⟨h1,h2⟩
      ·rw [if_pos h1,if_neg h2];omega
      ·rw [if_neg h1,if_pos h2];omega
     ·intro h0
      rcases h12 with ⟨h1,h2⟩ | ⟨h1,h2⟩
      ·rw [if_pos h1,if_neg h2,decide_eq_true h1,decide_eq_false (by omega)];rfl
      ·rw [if_neg h1,if_pos h2,decide_eq_false h1,decide_eq_true (by omega)];rfl
    by_cases h1:X / 18446744073709551616<Y / 18446744073709551616
    ·rw [decide_eq_true h1,yal]
     refine yz9 X0 (by omega) (by omega) (fun c1 c2=>?_)
     exact yEZ (by omega) (by omega) g1 (by omega) ⟨by omega,b2⟩ ⟨by omega,d2⟩ kk
    ·have e1:(X / 18446744073709551616 == Y / 18446744073709551616)=true:=beq_iff_eq.2 (by omega)
     rw [decide_eq_false h1,yac,e1,yal,decide_eq_true (show X % 18446744073709551616<Y % 18446744073709551616 by have:=beq_iff_eq.1 e1;omega),yal]
     refine yz9 X0 (by omega) (by omega) (fun c1 c2=>?_)
     exact yEZ (by omega) (by omega) g1 (by omega) ⟨by omega,b2⟩ ⟨by omega,d2⟩ kk
   ·have kk:outA (decide (a<0)) (X-Y) b d g K:=by
     refine yyj k ?_ ?_
     ·rcases h12 with ⟨h1,h2⟩ | ⟨h1,h2⟩
      ·rw [if_pos h1,if_neg h2];omega
      ·rw [if_neg h1,if_pos h2];omega
     ·intro h0
      rcases h12 with ⟨h1,h2⟩ | ⟨h1,h2⟩
      ·rw [if_pos h1,if_neg h2,decide_eq_true h1,decide_eq_true (by omega)]
      ·rw [if_neg h1,if_pos h2,decide_eq_false h1,decide_eq_false (by omega)]
    have h1:¬X / 18446744073709551616<Y / 18446744073709551616:=by omega
    rw [decide_eq_false h1,yac]
    cases e1:(X / 18446744073709551616 == Y / 18446744073709551616)
    ·rw [yac]
     refine yz9 Y0 (by omega) (by omega) (fun c1 c2=>?_)
     exact yEZ (by omega) (by omega) g1 (by omega) ⟨by omega,b2⟩ ⟨by omega,d2⟩ kk
    ·rw [yal,decide_eq_false (show ¬X % 18446744073709551616<Y % 18446744073709551616 by have:=beq_iff_eq.1 e1;omega),yac]
     refine yz9 Y0 (by omega) (by omega) (fun c1 c2=>?_)
     exact yEZ (by omega) (by omega) g1 (by omega) ⟨by omega,b2⟩ ⟨by omega,d2⟩ kk
 ·rw [if_neg h] at k
  have:(chk2 a b c d !=(0:Int))=true:=by rw [bne_iff_ne];exact h
  rw [this,yal]
  exact k
end Go.Pf.Vc
namespace Go.Pf.Vc
open Go Go.Pf
theorem RV.neg {c d:Int} (h:RV c d):RV (-c) d:=by
 obtain ⟨d1,d2,c1,c2,g⟩:=h
 exact ⟨d1,d2,by omega,by omega,by rw [Int.natAbs_neg];exact g⟩
end Go.Pf.Vc
