/- Part 3 of what the statement rests on: a verified evaluator over pure values, the conditions of the program's functions, and their plain laws. -/
import Derived.Test.YtegkpannhahmcaaGreatKfW2
namespace Go.Pf.Vc
open Go Go.Pf
set_option maxRecDepth 100000
def ypw (a0:ycy) (a1:yha) (p0 p1 p2 p3:Int) (K:Int→Prop):Prop :=
 (a0 p0 p1 (fun a =>
 (a0 p2 p3 (fun b =>
 (a1 ([(.int .i64 a),(.int .i64 b)]:Ls) (fun c =>
 (K c)))))))
def ycz (p0 p1 p2 p3:Int) (K:Int→Prop):Prop:=ypw yby yfH p0 p1 p2 p3 K
def yfI (w:ybJ) (as:Ls) (K:PV→Prop):Prop :=
 match as with
 | [(.agg [(.int .i64 p0),(.int .i64 p1)]),(.agg [(.int .i64 p2),(.int .i64 p3)])]=>w p0 p1 p2 p3 (fun r0=>K (.int .i64 r0))
 | _=>False
def yt1 (as:Ls) (K:PV→Prop):Prop:=yfI ycz as K
def yD4 (_:ycy) (_:yha):LP:=fun _ _ _ _ =>
 False
def yt2 (e:Es) (a0:ycy) (a1:yha):SE:=⟨(E e),yaK [(ydm,ygJ a0),(yfC,yjo a1)],yaL [],yD4 a0 a1⟩
theorem yCt (e:Es) (he:EG e):SEOk (yt2 e yby yfH):=yat ⟨(yim e he),(yvQ e he),trivial⟩ trivial he.ok
theorem yD5 (e:Es) (a0 a1 p0 p1 p2 p3 K):WP (yt2 e a0 a1) 6 yFz [(.agg [(.int .i64 p0),(.int .i64 p1)]),(.agg [(.int .i64 p2),(.int .i64 p3)])] K=ypw a0 a1 p0 p1 p2 p3 (fun r0=>K (.int .i64 r0)):=by kernel_rfl
theorem yin (e:Es) (he:EG e):OkF (E e) yt1 ycx:=by
 intro as K h
 unfold yt1 yfI at h
 split at h
 ·exact ya6 (yCt e he) (yai (by kernel_rfl)) (by kernel_rfl) (by kernel_rfl) (fun _=>yab (by kernel_rfl) _) (he.num _ (by kernel_rfl)) ((yD5 ..).mpr h)
 ·exact h.elim
abbrev yh6:Type:=Int→(Bool→Prop)→Prop
def yj5 (p0:Int) (K:Bool→Prop):Prop :=
 (K (p0 != p0))
def yh7 (p0:Int) (K:Bool→Prop):Prop:=yj5 p0 K
def yj6 (w:yh6) (as:Ls) (K:PV→Prop):Prop :=
 match as with
 | [(.int .i64 p0)]=>w p0 (fun r0=>K (.bool r0))
 | _=>False
def ypx (as:Ls) (K:PV→Prop):Prop:=yj6 yh7 as K
def yxE:LP:=fun _ _ _ _ =>
 False
def ypy (e:Es):SE:=⟨(E e),yaK [],yaL [],yxE⟩
theorem yvR (e:Es) (he:EG e):SEOk (ypy e):=yat trivial trivial he.ok
theorem yxF (e:Es) ( p0 K):WP (ypy e) 6 yyY [(.int .i64 p0)] K=yj5 p0 (fun r0=>K (.bool r0)):=by kernel_rfl
theorem yxG (e:Es) (he:EG e):OkF (E e) ypx yeO:=by
 intro as K h
 unfold ypx yj6 at h
 split at h
 ·exact ya6 (yvR e he) (yai (by kernel_rfl)) (by kernel_rfl) (by kernel_rfl) (fun _=>yab (by kernel_rfl) _) (he.num _ (by kernel_rfl)) ((yxF ..).mpr h)
 ·exact h.elim
abbrev ygE:Type:=Int→Int→(Int→Prop)→Prop
def yio (a0:yh6) (p0 p1:Int) (K:Int→Prop):Prop :=
 (a0 p0 (fun b =>
 (a0 p1 (fun a =>
 (cbr b
 (cbr a
 (K (0:Int))
 (K (-1:Int)))
 (cbr a
 (K (1:Int))
 (cbr (decide (p0<p1))
 (K (-1:Int))
 (cbr (decide (p0>p1))
 (K (1:Int))
 (K (0:Int))))))))))
def yfe (p0 p1:Int) (K:Int→Prop):Prop:=yio yh7 p0 p1 K
def yip (w:ygE) (as:Ls) (K:PV→Prop):Prop :=
 match as with
 | [(.int .i64 p0),(.int .i64 p1)]=>w p0 p1 (fun r0=>K (.int .i64 r0))
 | _=>False
def yng (as:Ls) (K:PV→Prop):Prop:=yip yfe as K
def yt3 (_:yh6):LP:=fun _ _ _ _ =>
 False
def ynh (e:Es) (a0:yh6):SE:=⟨(E e),yaK [(yeO,yj6 a0)],yaL [],yt3 a0⟩
theorem yts (e:Es) (he:EG e):SEOk (ynh e yh7):=yat ⟨(yxG e he),trivial⟩ trivial he.ok
theorem yt4 (e:Es) (a0 p0 p1 K):WP (ynh e a0) 6 yvM [(.int .i64 p0),(.int .i64 p1)] K=yio a0 p0 p1 (fun r0=>K (.int .i64 r0)):=by kernel_rfl
theorem yt5 (e:Es) (he:EG e):OkF (E e) yng yfc:=by
 intro as K h
 unfold yng yip at h
 split at h
 ·exact ya6 (yts e he) (yai (by kernel_rfl)) (by kernel_rfl) (by kernel_rfl) (fun _=>yab (by kernel_rfl) _) (he.num _ (by kernel_rfl)) ((yt4 ..).mpr h)
 ·exact h.elim
abbrev yhC:Type:=Int→Int→(Int→Int→Prop)→Prop
def yxH (p0 p1:Int) (K:Int→Int→Prop):Prop :=
 (K (IntKind.u64.wrap ((IntKind.u64.wrap ((IntKind.u64.wrap ((Int.fdiv p0 4294967296)*(Int.fdiv p1 4294967296)))+(Int.fdiv (IntKind.u64.wrap ((IntKind.u64.wrap ((Int.fdiv p0 4294967296)*(IntKind.u64.wrap (BitVec.ofInt IntKind.u64.bits p1&&&BitVec.ofInt IntKind.u64.bits (4294967295:Int)).toNat)))+(Int.fdiv (IntKind.u64.wrap ((IntKind.u64.wrap (BitVec.ofInt IntKind.u64.bits p0&&&BitVec.ofInt IntKind.u64.bits (4294967295:Int)).toNat)*(IntKind.u64.wrap (BitVec.ofInt IntKind.u64.bits p1&&&BitVec.ofInt IntKind.u64.bits (4294967295:Int)).toNat))) 4294967296))) 4294967296)))+(Int.fdiv (IntKind.u64.wrap ((IntKind.u64.wrap (BitVec.ofInt IntKind.u64.bits (IntKind.u64.wrap ((IntKind.u64.wrap ((Int.fdiv p0 4294967296)*(IntKind.u64.wrap (BitVec.ofInt IntKind.u64.bits p1&&&BitVec.ofInt IntKind.u64.bits (4294967295:Int)).toNat)))+(Int.fdiv (IntKind.u64.wrap ((IntKind.u64.wrap (BitVec.ofInt IntKind.u64.bits p0&&&BitVec.ofInt IntKind.u64.bits (4294967295:Int)).toNat)*(IntKind.u64.wrap (BitVec.ofInt IntKind.u64.bits p1&&&BitVec.ofInt IntKind.u64.bits (4294967295:Int)).toNat))) 4294967296)))&&&BitVec.ofInt IntKind.u64.bits (4294967295:Int)).toNat)+(IntKind.u64.wrap ((IntKind.u64.wrap (BitVec.ofInt IntKind.u64.bits p0&&&BitVec.ofInt IntKind.u64.bits (4294967295:Int)).toNat)*(Int.fdiv p1 4294967296))))) 4294967296))) (IntKind.u64.wrap (p0*p1)))
def yfU (p0 p1:Int) (K:Int→Int→Prop):Prop:=yxH p0 p1 K
def ypz (w:yhC) (as:Ls) (K:PV→Prop):Prop :=
 match as with
 | [(.int .u64 p0),(.int .u64 p1)]=>w p0 p1 (fun r0 r1=>K (.tup [(.int .u64 r0),(.int .u64 r1)]))
 | _=>False
def yD6 (as:Ls) (K:PV→Prop):Prop:=ypz yfU as K
def yMu:LP:=fun _ _ _ _ =>
 False
def yD7 (e:Es):SE:=⟨(E e),yaK [],yaL [],yMu⟩
theorem yKm (e:Es) (he:EG e):SEOk (yD7 e):=yat trivial trivial he.ok
theorem yMv (e:Es) ( p0 p1 K):WP (yD7 e) 6 yOM [(.int .u64 p0),(.int .u64 p1)] K=yxH p0 p1 (fun r0 r1=>K (.tup [(.int .u64 r0),(.int .u64 r1)])):=by kernel_rfl
theorem yxI (e:Es) (he:EG e):OkF (E e) yD6 yfs:=by
 intro as K h
 unfold yD6 ypz at h
 split at h
 ·exact ya6 (yKm e he) (yai (by kernel_rfl)) (by kernel_rfl) (by kernel_rfl) (fun _=>yab (by kernel_rfl) _) (he.num _ (by kernel_rfl)) ((yMv ..).mpr h)
 ·exact h.elim
abbrev yhd:Type:=Int→(Bool→Prop)→Prop
def yjq (p0:Int) (K:Bool→Prop):Prop :=
 (K (p0 != p0))
def yhe (p0:Int) (K:Bool→Prop):Prop:=yjq p0 K
def yjr (w:yhd) (as:Ls) (K:PV→Prop):Prop :=
 match as with
 | [(.int .u64 p0)]=>w p0 (fun r0=>K (.bool r0))
 | _=>False
def yn2 (as:Ls) (K:PV→Prop):Prop:=yjr yhe as K
def yvS:LP:=fun _ _ _ _ =>
 False
def yn3 (e:Es):SE:=⟨(E e),yaK [],yaL [],yvS⟩
theorem yt6 (e:Es) (he:EG e):SEOk (yn3 e):=yat trivial trivial he.ok
theorem yvT (e:Es) ( p0 K):WP (yn3 e) 6 yxx [(.int .u64 p0)] K=yjq p0 (fun r0=>K (.bool r0)):=by kernel_rfl
theorem yvU (e:Es) (he:EG e):OkF (E e) yn2 yeh:=by
 intro as K h
 unfold yn2 yjr at h
 split at h
 ·exact ya6 (yt6 e he) (yai (by kernel_rfl)) (by kernel_rfl) (by kernel_rfl) (fun _=>yab (by kernel_rfl) _) (he.num _ (by kernel_rfl)) ((yvT ..).mpr h)
 ·exact h.elim
abbrev ygc:Type:=Int→Int→(Int→Prop)→Prop
def yhV (a0:yhd) (p0 p1:Int) (K:Int→Prop):Prop :=
 (a0 p0 (fun b =>
 (a0 p1 (fun a =>
 (cbr b
 (cbr a
 (K (0:Int))
 (K (-1:Int)))
 (cbr a
 (K (1:Int))
 (cbr (decide (p0<p1))
 (K (-1:Int))
 (cbr (decide (p0>p1))
 (K (1:Int))
 (K (0:Int))))))))))
def yeF (p0 p1:Int) (K:Int→Prop):Prop:=yhV yhe p0 p1 K
def yhW (w:ygc) (as:Ls) (K:PV→Prop):Prop :=
 match as with
 | [(.int .u64 p0),(.int .u64 p1)]=>w p0 p1 (fun r0=>K (.int .i64 r0))
 | _=>False
def ylC (as:Ls) (K:PV→Prop):Prop:=yhW yeF as K
def ytt (_:yhd):LP:=fun _ _ _ _ =>
 False
def ylD (e:Es) (a0:yhd):SE:=⟨(E e),yaK [(yeh,yjr a0)],yaL [],ytt a0⟩
theorem ysh (e:Es) (he:EG e):SEOk (ylD e yhe):=yat ⟨(yvU e he),trivial⟩ trivial he.ok
theorem ytu (e:Es) (a0 p0 p1 K):WP (ylD e a0) 6 ytW [(.int .u64 p0),(.int .u64 p1)] K=yhV a0 p0 p1 (fun r0=>K (.int .i64 r0)):=by kernel_rfl
theorem ytv (e:Es) (he:EG e):OkF (E e) ylC ydB:=by
 intro as K h
 unfold ylC yhW at h
 split at h
 ·exact ya6 (ysh e he) (yai (by kernel_rfl)) (by kernel_rfl) (by kernel_rfl) (fun _=>yab (by kernel_rfl) _) (he.num _ (by kernel_rfl)) ((ytu ..).mpr h)
 ·exact h.elim
abbrev yoh:Type:=Ls→(Int→Prop)→Prop
def ydF (x0:Int→Prop) (x1:Int→Ls→Int→Int→Bool→Prop):Nat→Int→Ls→Int→Int→Prop
 | 0,_,_,_,_=>False
 | n+1,i0,l1,i2,i3 =>
 (cbr (decide (i3<i2))
 (asr (decide ((0:Int)≤i3))
 (asr (decide (i3<(((List.length l1):Nat):Int)))
 (asr (conf (.one (.i .i64)) (List.getD l1 (i3.toNat) .nils))
 (cbr ((yaa (List.getD l1 (i3.toNat) .nils)) != i0)
 (x0 (yaa (List.getD l1 (i3.toNat) .nils)))
 (ydF x0 x1 n i0 l1 i2 (IntKind.i64.wrap (i3+(1:Int))))))))
 (x1 i0 l1 i2 i3 false))
def yqQ (p0:Ls) (K:Int→Prop):Prop :=
 (∃ n:Nat,ydF
 (fun a=>(K a))
 (fun b _ _ _ _=>(K b))
 n (0:Int) p0 (((List.length p0):Nat):Int) (0:Int))
def ykV (p0:Ls) (K:Int→Prop):Prop:=yqQ p0 K
def yqR (w:yoh) (as:Ls) (K:PV→Prop):Prop :=
 match as with
 | [(.data p0)]=>w p0 (fun r0=>K (.int .i64 r0))
 | _=>False
def ywI (as:Ls) (K:PV→Prop):Prop:=yqR ykV as K
def ygK (F:Frm) (H:Hp) (A0:Int→Ls→Int→Int→Prop):Prop :=
 match F,H with
 | [(3,.v (.int .i64 i0)),(6,.v (.data l1)),(7,.v (.int .i64 i2)),(8,.v (.int .i64 i3))],[]=>(A0 i0 l1 i2 i3)
 | _,_=>False
def ylZ (Q:Qx):Int→Prop:=(fun i0=>Q .ret [(2,.v (.int .i64 i0))] [])
def yma (Q:Qx):Int→Ls→Int→Int→Bool→Prop:=(fun i0 l1 i2 i3 b4=>Q (.exit 0) [(3,.v (.int .i64 i0)),(6,.v (.data l1)),(7,.v (.int .i64 i2)),(8,.v (.int .i64 i3)),(9,.v (.bool b4))] [])
def ykW (Q:Qx) (n:Nat) (F:Frm) (H:Hp):Prop:=ygK F H (fun i0 l1 i2 i3=>ydF (ylZ Q) (yma Q) n i0 l1 i2 i3)
def ymM:LP:=fun id F H Q =>
 bif Nat.beq id 53260600 then ygK F H (fun i0 l1 i2 i3=>∃ n:Nat,ydF (ylZ Q) (yma Q) n i0 l1 i2 i3) else
 False
def yqS (e:Es):SE:=⟨(E e),yaK [],yaL [],ymM⟩
theorem yt7 (e:Es) (he:EG e):SEOk (yqS e):=yat trivial trivial he.ok
theorem yvV (e:Es) ( Q n i0 l1 i2 i3):WC (E e) (ybd (yqS e) 5) (ymM) ype [(3,.v (.int .i64 i0)),(6,.v (.data l1)),(7,.v (.int .i64 i2)),(8,.v (.int .i64 i3))] [] (exQ (ykW Q n) Q)=ydF (ylZ Q) (yma Q) (n+1) i0 l1 i2 i3:=by kernel_rfl
theorem yAY (e:Es) (_:EG e):LpOk (E e) (ymM) ype:=(yai (by kernel_rfl))
theorem yy4 (e:Es) (he:EG e):∀ F H Q,ymM 53260600 F H Q→ycr (E e) ype F H Q:=by
 intro F H Q h
 have go:=ycr.intro (yaG (yt7 e he) 5) (yAY e he) (ykW Q) (by intro F H h;unfold ykW ygK at h;split at h <;> exact h) (by intro n F H h;unfold ykW ygK at h;split at h;exact (yvV ..).mpr h;exact h.elim)
 have h:ygK F H _:=h
 unfold ygK at h
 split at h
 ·obtain ⟨n,h⟩:=h;exact go n _ _ h
 ·exact h.elim
theorem yFM (e:Es) ( p0 K):WP (yqS e) 6 yIj [(.data p0)] K=yqQ p0 (fun r0=>K (.int .i64 r0)):=by kernel_rfl
theorem yFN (e:Es) (he:EG e):OkF (E e) ywI ykN:=by
 intro as K h
 unfold ywI yqR at h
 split at h
 ·exact ya6 (yt7 e he) (ybg (l:=[(53260600,ype)]) ⟨yy4 e he,trivial⟩ (by kernel_rfl)) (by kernel_rfl) (by kernel_rfl) (fun _=>yab (by kernel_rfl) _) (he.num _ (by kernel_rfl)) ((yFM ..).mpr h)
 ·exact h.elim
abbrev ybO:Type:=Int→Int→Int→Int→(Int→Int→Prop)→Prop
def ysi (a0:ybJ) (a1:ygE) (a2:ycc) (a3:yhC) (a4:ygc) (a5:yoh) (p0 p1 p2 p3:Int) (K:Int→Int→Prop):Prop :=
 (a0 p0 p1 p2 p3 (fun a =>
 (cbr (a !=(0:Int))
 (K (0:Int) a)
 (cbr ((decide (p0<(0:Int))) !=(decide (p2<(0:Int))))
 (a1 p0 p2 (fun c =>
 (K c (0:Int))))
 (a2 p0 (fun d =>
 (a3 d (IntKind.u64.wrap p3) (fun e f =>
 (a2 p2 (fun g =>
 (a3 g (IntKind.u64.wrap p1) (fun h i =>
 (a4 e h (fun j =>
 (a4 f i (fun k =>
 (a5 ([(.int .i64 j),(.int .i64 k)]:Ls) (fun b =>
 (cbr (decide (p0<(0:Int)))
 (K (IntKind.i64.wrap ((0:Int)-b)) (0:Int))
 (K b (0:Int)))))))))))))))))))))
def ybW (p0 p1 p2 p3:Int) (K:Int→Int→Prop):Prop:=ysi ycz yfe yc0 yfU yeF ykV p0 p1 p2 p3 K
def ygd (w:ybO) (as:Ls) (K:PV→Prop):Prop :=
 match as with
 | [(.agg [(.int .i64 p0),(.int .i64 p1)]),(.agg [(.int .i64 p2),(.int .i64 p3)])]=>w p0 p1 p2 p3 (fun r0 r1=>K (.tup [(.int .i64 r0),(.int .i64 r1)]))
 | _=>False
def yy5 (as:Ls) (K:PV→Prop):Prop:=ygd ybW as K
def yIr (_:ybJ) (_:ygE) (_:ycc) (_:yhC) (_:ygc) (_:yoh):LP:=fun _ _ _ _ =>
 False
def yy6 (e:Es) (a0:ybJ) (a1:ygE) (a2:ycc) (a3:yhC) (a4:ygc) (a5:yoh):SE:=⟨(E e),yaK [(ycx,yfI a0),(yfc,yip a1),(ybH,ygl a2),(yfs,ypz a3),(ydB,yhW a4),(ykN,yqR a5)],yaL [],yIr a0 a1 a2 a3 a4 a5⟩
theorem yFO (e:Es) (he:EG e):SEOk (yy6 e ycz yfe yc0 yfU yeF ykV):=yat ⟨(yin e he),(yt5 e he),(yjI e he),(yxI e he),(ytv e he),(yFN e he),trivial⟩ trivial he.ok
theorem yIs (e:Es) (a0 a1 a2 a3 a4 a5 p0 p1 p2 p3 K):WP (yy6 e a0 a1 a2 a3 a4 a5) 6 yJ9 [(.agg [(.int .i64 p0),(.int .i64 p1)]),(.agg [(.int .i64 p2),(.int .i64 p3)])] K=ysi a0 a1 a2 a3 a4 a5 p0 p1 p2 p3 (fun r0 r1=>K (.tup [(.int .i64 r0),(.int .i64 r1)])):=by kernel_rfl
theorem yhf (e:Es) (he:EG e):OkF (E e) yy5 ycM:=by
 intro as K h
 unfold yy5 ygd at h
 split at h
 ·exact ya6 (yFO e he) (yai (by kernel_rfl)) (by kernel_rfl) (by kernel_rfl) (fun _=>yab (by kernel_rfl) _) (he.num _ (by kernel_rfl)) ((yIs ..).mpr h)
 ·exact h.elim
abbrev yvy:Type:=Int→(Int→Prop)→Prop
def yxJ (p0:Int) (K:Int→Prop):Prop :=
 (cbr (decide (p0≥(4294967296:Int)))
 (cbr (decide ((Int.fdiv p0 4294967296)≥(65536:Int)))
 (cbr (decide ((Int.fdiv (Int.fdiv p0 4294967296) 65536)≥(256:Int)))
 (asr (decide ((0:Int)≤(IntKind.u8.wrap (Int.fdiv (Int.fdiv (Int.fdiv p0 4294967296) 65536) 256))))
 (asr (decide ((IntKind.u8.wrap (Int.fdiv (Int.fdiv (Int.fdiv p0 4294967296) 65536) 256))<(256:Int)))
 (K (IntKind.i64.wrap ((56:Int)+(IntKind.i64.wrap (yaa (List.getD ykL ((IntKind.u8.wrap (Int.fdiv (Int.fdiv (Int.fdiv p0 4294967296) 65536) 256)).toNat) .nils))))))))
 (asr (decide ((0:Int)≤(IntKind.u8.wrap (Int.fdiv (Int.fdiv p0 4294967296) 65536))))
 (asr (decide ((IntKind.u8.wrap (Int.fdiv (Int.fdiv p0 4294967296) 65536))<(256:Int)))
 (K (IntKind.i64.wrap ((48:Int)+(IntKind.i64.wrap (yaa (List.getD ykL ((IntKind.u8.wrap (Int.fdiv (Int.fdiv p0 4294967296) 65536)).toNat) .nils)))))))))
 (cbr (decide ((Int.fdiv p0 4294967296)≥(256:Int)))
 (asr (decide ((0:Int)≤(IntKind.u8.wrap (Int.fdiv (Int.fdiv p0 4294967296) 256))))
 (asr (decide ((IntKind.u8.wrap (Int.fdiv (Int.fdiv p0 4294967296) 256))<(256:Int)))
 (K (IntKind.i64.wrap ((40:Int)+(IntKind.i64.wrap (yaa (List.getD ykL ((IntKind.u8.wrap (Int.fdiv (Int.fdiv p0 4294967296) 256)).toNat) .nils))))))))
 (asr (decide ((0:Int)≤(IntKind.u8.wrap (Int.fdiv p0 4294967296))))
 (asr (decide ((IntKind.u8.wrap (Int.fdiv p0 4294967296))<(256:Int)))
 (K (IntKind.i64.wrap ((32:Int)+(IntKind.i64.wrap (yaa (List.getD ykL ((IntKind.u8.wrap (Int.fdiv p0 4294967296)).toNat) .nils))))))))))
 (cbr (decide (p0≥(65536:Int)))
 (cbr (decide ((Int.fdiv p0 65536)≥(256:Int)))
 (asr (decide ((0:Int)≤(IntKind.u8.wrap (Int.fdiv (Int.fdiv p0 65536) 256))))
 (asr (decide ((IntKind.u8.wrap (Int.fdiv (Int.fdiv p0 65536) 256))<(256:Int)))
 (K (IntKind.i64.wrap ((24:Int)+(IntKind.i64.wrap (yaa (List.getD ykL ((IntKind.u8.wrap (Int.fdiv (Int.fdiv p0 65536) 256)).toNat) .nils))))))))
 (asr (decide ((0:Int)≤(IntKind.u8.wrap (Int.fdiv p0 65536))))
 (asr (decide ((IntKind.u8.wrap (Int.fdiv p0 65536))<(256:Int)))
 (K (IntKind.i64.wrap ((16:Int)+(IntKind.i64.wrap (yaa (List.getD ykL ((IntKind.u8.wrap (Int.fdiv p0 65536)).toNat) .nils)))))))))
 (cbr (decide (p0≥(256:Int)))
 (asr (decide ((0:Int)≤(IntKind.u8.wrap (Int.fdiv p0 256))))
 (asr (decide ((IntKind.u8.wrap (Int.fdiv p0 256))<(256:Int)))
 (K (IntKind.i64.wrap ((8:Int)+(IntKind.i64.wrap (yaa (List.getD ykL ((IntKind.u8.wrap (Int.fdiv p0 256)).toNat) .nils))))))))
 (asr (decide ((0:Int)≤(IntKind.u8.wrap p0)))
 (asr (decide ((IntKind.u8.wrap p0)<(256:Int)))
 (K (IntKind.i64.wrap ((0:Int)+(IntKind.i64.wrap (yaa (List.getD ykL ((IntKind.u8.wrap p0).toNat) .nils)))))))))))
def yrK (p0:Int) (K:Int→Prop):Prop:=yxJ p0 K
def yxK (w:yvy) (as:Ls) (K:PV→Prop):Prop :=
 match as with
 | [(.int .u64 p0)]=>w p0 (fun r0=>K (.int .i64 r0))
 | _=>False
def yD8 (as:Ls) (K:PV→Prop):Prop:=yxK yrK as K
def yMw:LP:=fun _ _ _ _ =>
 False
def yD9 (e:Es):SE:=⟨(E e),yaK [],yaL [],yMw⟩
theorem yKn (e:Es) (he:EG e):SEOk (yD9 e):=yat trivial trivial he.ok
theorem yMx (e:Es) ( p0 K):WP (yD9 e) 6 yON [(.int .u64 p0)] K=yxJ p0 (fun r0=>K (.int .i64 r0)):=by kernel_rfl
theorem yMy (e:Es) (he:EG e):OkF (E e) yD8 yoH:=by
 intro as K h
 unfold yD8 yxK at h
 split at h
 ·exact ya6 (yKn e he) (yai (by kernel_rfl)) (by kernel_rfl) (by kernel_rfl) (fun _=>yab (by kernel_rfl) _) (he.num _ (by kernel_rfl)) ((yMx ..).mpr h)
 ·exact h.elim
abbrev ybV:Type:=Int→(Int→Prop)→Prop
def yjs (a0:yvy) (p0:Int) (K:Int→Prop):Prop :=
 (a0 p0 (fun a =>
 (K (IntKind.i64.wrap ((64:Int)-a)))))
def ybq (p0:Int) (K:Int→Prop):Prop:=yjs yrK p0 K
def yjt (w:ybV) (as:Ls) (K:PV→Prop):Prop :=
 match as with
 | [(.int .u64 p0)]=>w p0 (fun r0=>K (.int .i64 r0))
 | _=>False
def yn4 (as:Ls) (K:PV→Prop):Prop:=yjt ybq as K
def yvW (_:yvy):LP:=fun _ _ _ _ =>
 False
def yn5 (e:Es) (a0:yvy):SE:=⟨(E e),yaK [(yoH,yxK a0)],yaL [],yvW a0⟩
theorem yt8 (e:Es) (he:EG e):SEOk (yn5 e yrK):=yat ⟨(yMy e he),trivial⟩ trivial he.ok
theorem yvX (e:Es) (a0 p0 K):WP (yn5 e a0) 6 yxy [(.int .u64 p0)] K=yjs a0 p0 (fun r0=>K (.int .i64 r0)):=by kernel_rfl
theorem yvY (e:Es) (he:EG e):OkF (E e) yn4 yfD:=by
 intro as K h
 unfold yn4 yjt at h
 split at h
 ·exact ya6 (yt8 e he) (yai (by kernel_rfl)) (by kernel_rfl) (by kernel_rfl) (fun _=>yab (by kernel_rfl) _) (he.num _ (by kernel_rfl)) ((yvX ..).mpr h)
 ·exact h.elim
abbrev ymb:Type:=Int→Int→Int→(Int→Int→Prop)→Prop
mutual
def yhD (a0:ybV) (a:Int→Int→Int→Int→Int→Int→Int→Int→Int→Bool→Prop) (b:Int→Int→Int→Int→Int→Int→Int→Int→Int→Bool→Prop):Nat→Int→Int→Int→Int→Int→Int→Int→Int→Int→Prop
 | 0,_,_,_,_,_,_,_,_,_=>False
 | c+1,i0,i1,i2,i3,i4,i5,i6,i7,i8 =>
 (cbr (decide (i7≥(4294967296:Int)))
 (cbr (decide ((IntKind.u64.wrap (i8+i2))≥(4294967296:Int)))
 (a i0 i1 i2 i3 i4 i5 i6 (IntKind.u64.wrap (i7-(1:Int))) (IntKind.u64.wrap (i8+i2)) true)
 (ydO a0 a b c i0 i1 i2 i3 i4 i5 i6 (IntKind.u64.wrap (i7-(1:Int))) (IntKind.u64.wrap (i8+i2)) false))
 (cbr (decide ((IntKind.u64.wrap (i7*i3))>(IntKind.u64.wrap ((IntKind.u64.wrap ((4294967296:Int)*i8))+i5))))
 (cbr (decide ((IntKind.u64.wrap (i8+i2))≥(4294967296:Int)))
 (a i0 i1 i2 i3 i4 i5 i6 (IntKind.u64.wrap (i7-(1:Int))) (IntKind.u64.wrap (i8+i2)) true)
 (ydO a0 a b c i0 i1 i2 i3 i4 i5 i6 (IntKind.u64.wrap (i7-(1:Int))) (IntKind.u64.wrap (i8+i2)) false))
 (b i0 i1 i2 i3 i4 i5 i6 i7 i8 false)))
def ydO (a0:ybV) (a:Int→Int→Int→Int→Int→Int→Int→Int→Int→Bool→Prop) (b:Int→Int→Int→Int→Int→Int→Int→Int→Int→Bool→Prop):Nat→Int→Int→Int→Int→Int→Int→Int→Int→Int→Bool→Prop
 | 0,_,_,_,_,_,_,_,_,_,_=>False
 | c+1,i0,i1,i2,i3,i4,i5,i6,i7,i8,_ =>
 (cbr (decide (i7≥(4294967296:Int)))
 (cbr (decide ((IntKind.u64.wrap (i8+i2))≥(4294967296:Int)))
 (a i0 i1 i2 i3 i4 i5 i6 (IntKind.u64.wrap (i7-(1:Int))) (IntKind.u64.wrap (i8+i2)) true)
 (ydO a0 a b c i0 i1 i2 i3 i4 i5 i6 (IntKind.u64.wrap (i7-(1:Int))) (IntKind.u64.wrap (i8+i2)) false))
 (cbr (decide ((IntKind.u64.wrap (i7*i3))>(IntKind.u64.wrap ((IntKind.u64.wrap ((4294967296:Int)*i8))+i5))))
 (cbr (decide ((IntKind.u64.wrap (i8+i2))≥(4294967296:Int)))
 (a i0 i1 i2 i3 i4 i5 i6 (IntKind.u64.wrap (i7-(1:Int))) (IntKind.u64.wrap (i8+i2)) true)
 (ydO a0 a b c i0 i1 i2 i3 i4 i5 i6 (IntKind.u64.wrap (i7-(1:Int))) (IntKind.u64.wrap (i8+i2)) false))
 (b i0 i1 i2 i3 i4 i5 i6 i7 i8 false)))
end
mutual
def yfo (a0:ybV) (a:Int→Int→Int→Int→Int→Int→Int→Int→Int→Bool→Prop) (b:Int→Int→Int→Int→Int→Int→Int→Int→Int→Bool→Prop):Nat→Int→Int→Int→Int→Int→Int→Int→Int→Int→Prop
 | 0,_,_,_,_,_,_,_,_,_=>False
 | c+1,i0,i1,i2,i3,i4,i5,i6,i7,i8 =>
 (cbr (decide (i8≥(4294967296:Int)))
 (cbr (decide ((IntKind.u64.wrap (i6+i2))≥(4294967296:Int)))
 (a i0 i1 i2 i3 i4 i5 (IntKind.u64.wrap (i6+i2)) i7 (IntKind.u64.wrap (i8-(1:Int))) true)
 (ydP a0 a b c i0 i1 i2 i3 i4 i5 (IntKind.u64.wrap (i6+i2)) i7 (IntKind.u64.wrap (i8-(1:Int))) false))
 (cbr (decide ((IntKind.u64.wrap (i8*i3))>(IntKind.u64.wrap ((IntKind.u64.wrap ((4294967296:Int)*i6))+i4))))
 (cbr (decide ((IntKind.u64.wrap (i6+i2))≥(4294967296:Int)))
 (a i0 i1 i2 i3 i4 i5 (IntKind.u64.wrap (i6+i2)) i7 (IntKind.u64.wrap (i8-(1:Int))) true)
 (ydP a0 a b c i0 i1 i2 i3 i4 i5 (IntKind.u64.wrap (i6+i2)) i7 (IntKind.u64.wrap (i8-(1:Int))) false))
 (b i0 i1 i2 i3 i4 i5 i6 i7 i8 false)))
def ydP (a0:ybV) (a:Int→Int→Int→Int→Int→Int→Int→Int→Int→Bool→Prop) (b:Int→Int→Int→Int→Int→Int→Int→Int→Int→Bool→Prop):Nat→Int→Int→Int→Int→Int→Int→Int→Int→Int→Bool→Prop
 | 0,_,_,_,_,_,_,_,_,_,_=>False
 | c+1,i0,i1,i2,i3,i4,i5,i6,i7,i8,_ =>
 (cbr (decide (i8≥(4294967296:Int)))
 (cbr (decide ((IntKind.u64.wrap (i6+i2))≥(4294967296:Int)))
 (a i0 i1 i2 i3 i4 i5 (IntKind.u64.wrap (i6+i2)) i7 (IntKind.u64.wrap (i8-(1:Int))) true)
 (ydP a0 a b c i0 i1 i2 i3 i4 i5 (IntKind.u64.wrap (i6+i2)) i7 (IntKind.u64.wrap (i8-(1:Int))) false))
 (cbr (decide ((IntKind.u64.wrap (i8*i3))>(IntKind.u64.wrap ((IntKind.u64.wrap ((4294967296:Int)*i6))+i4))))
 (cbr (decide ((IntKind.u64.wrap (i6+i2))≥(4294967296:Int)))
 (a i0 i1 i2 i3 i4 i5 (IntKind.u64.wrap (i6+i2)) i7 (IntKind.u64.wrap (i8-(1:Int))) true)
 (ydP a0 a b c i0 i1 i2 i3 i4 i5 (IntKind.u64.wrap (i6+i2)) i7 (IntKind.u64.wrap (i8-(1:Int))) false))
 (b i0 i1 i2 i3 i4 i5 i6 i7 i8 false)))
end
def yxL (a0:ybV) (p0 p1 p2:Int) (K:Int→Int→Prop):Prop :=
 (cbr (p2 ==(0:Int))
 False
 (cbr (decide (p2≤p0))
 False
 (cbr (p0 ==(0:Int))
 (asr (!(decide (p2=(0:Int))))
 (asr (!(decide (p2=(0:Int))))
 (K (IntKind.u64.wrap (Int.tdiv p1 p2)) (Int.tmod p1 p2))))
 (a0 p2 (fun a =>
 (asr (!(decide ((IntKind.u64.wrap a)<(0:Int))))
 (asr (!(decide ((IntKind.u64.wrap a)<(0:Int))))
 (asr (!(decide ((IntKind.u64.wrap ((64:Int)-(IntKind.u64.wrap a)))<(0:Int))))
 (asr (!(decide ((IntKind.u64.wrap a)<(0:Int))))
 (asr (!(decide ((Int.fdiv (IntKind.u64.wrap (p2*2 ^ (min (IntKind.u64.wrap a).toNat IntKind.u64.bits))) 4294967296)=(0:Int))))
 (∃ u:Nat,yhD a0
 (fun b v c w h i x d _ _=>(asr (!(decide (c=(0:Int))))
 (∃ l:Nat,yfo a0
 (fun y m _ _ z A _ B n _=>(asr (!(decide (m<(0:Int))))
 (K (IntKind.u64.wrap ((IntKind.u64.wrap (A*(4294967296:Int)))+n)) (Int.fdiv (IntKind.u64.wrap ((IntKind.u64.wrap ((IntKind.u64.wrap (B*(4294967296:Int)))+z))-(IntKind.u64.wrap (n*y)))) (2 ^ (min m.toNat IntKind.u64.bits))))))
 (fun C o _ _ D E _ F p _=>(asr (!(decide (o<(0:Int))))
 (K (IntKind.u64.wrap ((IntKind.u64.wrap (E*(4294967296:Int)))+p)) (Int.fdiv (IntKind.u64.wrap ((IntKind.u64.wrap ((IntKind.u64.wrap (F*(4294967296:Int)))+D))-(IntKind.u64.wrap (p*C)))) (2 ^ (min o.toNat IntKind.u64.bits))))))
 l b v c w x d (IntKind.u64.wrap ((IntKind.u64.wrap ((IntKind.u64.wrap ((IntKind.u64.wrap (h*(4294967296:Int)))+i))-(IntKind.u64.wrap (d*b))))-(IntKind.u64.wrap ((IntKind.u64.wrap (Int.tdiv (IntKind.u64.wrap ((IntKind.u64.wrap ((IntKind.u64.wrap (h*(4294967296:Int)))+i))-(IntKind.u64.wrap (d*b)))) c))*c)))) (IntKind.u64.wrap ((IntKind.u64.wrap ((IntKind.u64.wrap (h*(4294967296:Int)))+i))-(IntKind.u64.wrap (d*b)))) (IntKind.u64.wrap (Int.tdiv (IntKind.u64.wrap ((IntKind.u64.wrap ((IntKind.u64.wrap (h*(4294967296:Int)))+i))-(IntKind.u64.wrap (d*b)))) c)))))
 (fun e G f H j k I g _ _=>(asr (!(decide (f=(0:Int))))
 (∃ l:Nat,yfo a0
 (fun J q _ _ L M _ N r _=>(asr (!(decide (q<(0:Int))))
 (K (IntKind.u64.wrap ((IntKind.u64.wrap (M*(4294967296:Int)))+r)) (Int.fdiv (IntKind.u64.wrap ((IntKind.u64.wrap ((IntKind.u64.wrap (N*(4294967296:Int)))+L))-(IntKind.u64.wrap (r*J)))) (2 ^ (min q.toNat IntKind.u64.bits))))))
 (fun O s _ _ Q R _ S t _=>(asr (!(decide (s<(0:Int))))
 (K (IntKind.u64.wrap ((IntKind.u64.wrap (R*(4294967296:Int)))+t)) (Int.fdiv (IntKind.u64.wrap ((IntKind.u64.wrap ((IntKind.u64.wrap (S*(4294967296:Int)))+Q))-(IntKind.u64.wrap (t*O)))) (2 ^ (min s.toNat IntKind.u64.bits))))))
 l e G f H I g (IntKind.u64.wrap ((IntKind.u64.wrap ((IntKind.u64.wrap ((IntKind.u64.wrap (j*(4294967296:Int)))+k))-(IntKind.u64.wrap (g*e))))-(IntKind.u64.wrap ((IntKind.u64.wrap (Int.tdiv (IntKind.u64.wrap ((IntKind.u64.wrap ((IntKind.u64.wrap (j*(4294967296:Int)))+k))-(IntKind.u64.wrap (g*e)))) f))*f)))) (IntKind.u64.wrap ((IntKind.u64.wrap ((IntKind.u64.wrap (j*(4294967296:Int)))+k))-(IntKind.u64.wrap (g*e)))) (IntKind.u64.wrap (Int.tdiv (IntKind.u64.wrap ((IntKind.u64.wrap ((IntKind.u64.wrap (j*(4294967296:Int)))+k))-(IntKind.u64.wrap (g*e)))) f)))))
 u (IntKind.u64.wrap (p2*2 ^ (min (IntKind.u64.wrap a).toNat IntKind.u64.bits))) (IntKind.u64.wrap a) (Int.fdiv (IntKind.u64.wrap (p2*2 ^ (min (IntKind.u64.wrap a).toNat IntKind.u64.bits))) 4294967296) (IntKind.u64.wrap (BitVec.ofInt IntKind.u64.bits (IntKind.u64.wrap (p2*2 ^ (min (IntKind.u64.wrap a).toNat IntKind.u64.bits)))&&&BitVec.ofInt IntKind.u64.bits (4294967295:Int)).toNat) (IntKind.u64.wrap (BitVec.ofInt IntKind.u64.bits (IntKind.u64.wrap (p0*2 ^ (min (IntKind.u64.wrap a).toNat IntKind.u64.bits)))|||BitVec.ofInt IntKind.u64.bits (Int.fdiv p1 (2 ^ (min (IntKind.u64.wrap ((64:Int)-(IntKind.u64.wrap a))).toNat IntKind.u64.bits)))).toNat) (Int.fdiv (IntKind.u64.wrap (p1*2 ^ (min (IntKind.u64.wrap a).toNat IntKind.u64.bits))) 4294967296) (IntKind.u64.wrap (BitVec.ofInt IntKind.u64.bits (IntKind.u64.wrap (p1*2 ^ (min (IntKind.u64.wrap a).toNat IntKind.u64.bits)))&&&BitVec.ofInt IntKind.u64.bits (4294967295:Int)).toNat) (IntKind.u64.wrap (Int.tdiv (IntKind.u64.wrap (BitVec.ofInt IntKind.u64.bits (IntKind.u64.wrap (p0*2 ^ (min (IntKind.u64.wrap a).toNat IntKind.u64.bits)))|||BitVec.ofInt IntKind.u64.bits (Int.fdiv p1 (2 ^ (min (IntKind.u64.wrap ((64:Int)-(IntKind.u64.wrap a))).toNat IntKind.u64.bits)))).toNat) (Int.fdiv (IntKind.u64.wrap (p2*2 ^ (min (IntKind.u64.wrap a).toNat IntKind.u64.bits))) 4294967296))) (IntKind.u64.wrap ((IntKind.u64.wrap (BitVec.ofInt IntKind.u64.bits (IntKind.u64.wrap (p0*2 ^ (min (IntKind.u64.wrap a).toNat IntKind.u64.bits)))|||BitVec.ofInt IntKind.u64.bits (Int.fdiv p1 (2 ^ (min (IntKind.u64.wrap ((64:Int)-(IntKind.u64.wrap a))).toNat IntKind.u64.bits)))).toNat)-(IntKind.u64.wrap ((IntKind.u64.wrap (Int.tdiv (IntKind.u64.wrap (BitVec.ofInt IntKind.u64.bits (IntKind.u64.wrap (p0*2 ^ (min (IntKind.u64.wrap a).toNat IntKind.u64.bits)))|||BitVec.ofInt IntKind.u64.bits (Int.fdiv p1 (2 ^ (min (IntKind.u64.wrap ((64:Int)-(IntKind.u64.wrap a))).toNat IntKind.u64.bits)))).toNat) (Int.fdiv (IntKind.u64.wrap (p2*2 ^ (min (IntKind.u64.wrap a).toNat IntKind.u64.bits))) 4294967296)))*(Int.fdiv (IntKind.u64.wrap (p2*2 ^ (min (IntKind.u64.wrap a).toNat IntKind.u64.bits))) 4294967296))))))))))))))))
def yhE (p0 p1 p2:Int) (K:Int→Int→Prop):Prop:=yxL ybq p0 p1 p2 K
def ysj (w:ymb) (as:Ls) (K:PV→Prop):Prop :=
 match as with
 | [(.int .u64 p0),(.int .u64 p1),(.int .u64 p2)]=>w p0 p1 p2 (fun r0 r1=>K (.tup [(.int .u64 r0),(.int .u64 r1)]))
 | _=>False
def yEa (as:Ls) (K:PV→Prop):Prop:=ysj yhE as K
def ykr (F:Frm) (H:Hp) (A0:Int→Int→Int→Int→Int→Int→Int→Int→Int→Prop) (A1:Int→Int→Int→Int→Int→Int→Int→Int→Int→Bool→Prop):Prop :=
 match F,H with
 | [(2,.v (.int .u64 i0)),(8,.v (.int .u64 i1)),(9,.v (.int .u64 i2)),(10,.v (.int .u64 i3)),(11,.v (.int .u64 i4)),(13,.v (.int .u64 i5)),(14,.v (.int .u64 i6)),(15,.v (.int .u64 i7)),(16,.v (.int .u64 i8))],[]=>(A0 i0 i1 i2 i3 i4 i5 i6 i7 i8)
 | [(2,.v (.int .u64 i0)),(8,.v (.int .u64 i1)),(9,.v (.int .u64 i2)),(10,.v (.int .u64 i3)),(11,.v (.int .u64 i4)),(13,.v (.int .u64 i5)),(14,.v (.int .u64 i6)),(15,.v (.int .u64 i7)),(16,.v (.int .u64 i8)),(85,.v (.bool b9))],[]=>(A1 i0 i1 i2 i3 i4 i5 i6 i7 i8 b9)
 | _,_=>False
def yks (F:Frm) (H:Hp) (A0:Int→Int→Int→Int→Int→Int→Int→Int→Int→Prop) (A1:Int→Int→Int→Int→Int→Int→Int→Int→Int→Bool→Prop):Prop :=
 match F,H with
 | [(2,.v (.int .u64 i0)),(8,.v (.int .u64 i1)),(9,.v (.int .u64 i2)),(10,.v (.int .u64 i3)),(14,.v (.int .u64 i4)),(15,.v (.int .u64 i5)),(16,.v (.int .u64 i6)),(17,.v (.int .u64 i7)),(18,.v (.int .u64 i8))],[]=>(A0 i0 i1 i2 i3 i4 i5 i6 i7 i8)
 | [(2,.v (.int .u64 i0)),(8,.v (.int .u64 i1)),(9,.v (.int .u64 i2)),(10,.v (.int .u64 i3)),(14,.v (.int .u64 i4)),(15,.v (.int .u64 i5)),(16,.v (.int .u64 i6)),(17,.v (.int .u64 i7)),(18,.v (.int .u64 i8)),(120,.v (.bool b9))],[]=>(A1 i0 i1 i2 i3 i4 i5 i6 i7 i8 b9)
 | _,_=>False
def yhF (Q:Qx):Int→Int→Int→Int→Int→Int→Int→Int→Int→Bool→Prop:=(fun i0 i1 i2 i3 i4 i5 i6 i7 i8 b9=>Q (.exit 0) [(2,.v (.int .u64 i0)),(8,.v (.int .u64 i1)),(9,.v (.int .u64 i2)),(10,.v (.int .u64 i3)),(11,.v (.int .u64 i4)),(13,.v (.int .u64 i5)),(14,.v (.int .u64 i6)),(15,.v (.int .u64 i7)),(16,.v (.int .u64 i8)),(85,.v (.bool b9))] [])
def yhG (Q:Qx):Int→Int→Int→Int→Int→Int→Int→Int→Int→Bool→Prop:=(fun i0 i1 i2 i3 i4 i5 i6 i7 i8 b9=>Q (.exit 0) [(2,.v (.int .u64 i0)),(8,.v (.int .u64 i1)),(9,.v (.int .u64 i2)),(10,.v (.int .u64 i3)),(11,.v (.int .u64 i4)),(13,.v (.int .u64 i5)),(14,.v (.int .u64 i6)),(15,.v (.int .u64 i7)),(16,.v (.int .u64 i8)),(78,.v (.bool b9))] [])
def yhH (Q:Qx):Int→Int→Int→Int→Int→Int→Int→Int→Int→Bool→Prop:=(fun i0 i1 i2 i3 i4 i5 i6 i7 i8 b9=>Q (.exit 2) [(2,.v (.int .u64 i0)),(8,.v (.int .u64 i1)),(9,.v (.int .u64 i2)),(10,.v (.int .u64 i3)),(14,.v (.int .u64 i4)),(15,.v (.int .u64 i5)),(16,.v (.int .u64 i6)),(17,.v (.int .u64 i7)),(18,.v (.int .u64 i8)),(120,.v (.bool b9))] [])
def yhI (Q:Qx):Int→Int→Int→Int→Int→Int→Int→Int→Int→Bool→Prop:=(fun i0 i1 i2 i3 i4 i5 i6 i7 i8 b9=>Q (.exit 2) [(2,.v (.int .u64 i0)),(8,.v (.int .u64 i1)),(9,.v (.int .u64 i2)),(10,.v (.int .u64 i3)),(14,.v (.int .u64 i4)),(15,.v (.int .u64 i5)),(16,.v (.int .u64 i6)),(17,.v (.int .u64 i7)),(18,.v (.int .u64 i8)),(113,.v (.bool b9))] [])
def yni (a0:ybV) (Q:Qx) (n:Nat) (F:Frm) (H:Hp):Prop:=ykr F H (fun i0 i1 i2 i3 i4 i5 i6 i7 i8=>yhD a0 (yhF Q) (yhG Q) n i0 i1 i2 i3 i4 i5 i6 i7 i8) (fun i0 i1 i2 i3 i4 i5 i6 i7 i8 b9=>ydO a0 (yhF Q) (yhG Q) n i0 i1 i2 i3 i4 i5 i6 i7 i8 b9)
def ynj (a0:ybV) (Q:Qx) (n:Nat) (F:Frm) (H:Hp):Prop:=yks F H (fun i0 i1 i2 i3 i4 i5 i6 i7 i8=>yfo a0 (yhH Q) (yhI Q) n i0 i1 i2 i3 i4 i5 i6 i7 i8) (fun i0 i1 i2 i3 i4 i5 i6 i7 i8 b9=>ydP a0 (yhH Q) (yhI Q) n i0 i1 i2 i3 i4 i5 i6 i7 i8 b9)
def yhg (a0:ybV):LP:=fun id F H Q =>
 bif Nat.beq id 60530100 then ykr F H (fun i0 i1 i2 i3 i4 i5 i6 i7 i8=>∃ n:Nat,yhD a0 (yhF Q) (yhG Q) n i0 i1 i2 i3 i4 i5 i6 i7 i8) (fun i0 i1 i2 i3 i4 i5 i6 i7 i8 b9=>∃ n:Nat,ydO a0 (yhF Q) (yhG Q) n i0 i1 i2 i3 i4 i5 i6 i7 i8 b9) else
 bif Nat.beq id 60530101 then yks F H (fun i0 i1 i2 i3 i4 i5 i6 i7 i8=>∃ n:Nat,yfo a0 (yhH Q) (yhI Q) n i0 i1 i2 i3 i4 i5 i6 i7 i8) (fun i0 i1 i2 i3 i4 i5 i6 i7 i8 b9=>∃ n:Nat,ydP a0 (yhH Q) (yhI Q) n i0 i1 i2 i3 i4 i5 i6 i7 i8 b9) else
 False
def ymc (e:Es) (a0:ybV):SE:=⟨(E e),yaK [(yfD,yjt a0)],yaL [],yhg a0⟩
theorem yt9 (e:Es) (he:EG e):SEOk (ymc e ybq):=yat ⟨(yvY e he),trivial⟩ trivial he.ok
theorem yAZ (e:Es) (a0 Q n i0 i1 i2 i3 i4 i5 i6 i7 i8):WC (E e) (ybd (ymc e a0) 5) (yhg a0) ylR [(2,.v (.int .u64 i0)),(8,.v (.int .u64 i1)),(9,.v (.int .u64 i2)),(10,.v (.int .u64 i3)),(11,.v (.int .u64 i4)),(13,.v (.int .u64 i5)),(14,.v (.int .u64 i6)),(15,.v (.int .u64 i7)),(16,.v (.int .u64 i8))] [] (exQ (yni a0 Q n) Q)=yhD a0 (yhF Q) (yhG Q) (n+1) i0 i1 i2 i3 i4 i5 i6 i7 i8:=by kernel_rfl
theorem yA0 (e:Es) (a0 Q n i0 i1 i2 i3 i4 i5 i6 i7 i8 b9):WC (E e) (ybd (ymc e a0) 5) (yhg a0) ylR [(2,.v (.int .u64 i0)),(8,.v (.int .u64 i1)),(9,.v (.int .u64 i2)),(10,.v (.int .u64 i3)),(11,.v (.int .u64 i4)),(13,.v (.int .u64 i5)),(14,.v (.int .u64 i6)),(15,.v (.int .u64 i7)),(16,.v (.int .u64 i8)),(85,.v (.bool b9))] [] (exQ (yni a0 Q n) Q)=ydO a0 (yhF Q) (yhG Q) (n+1) i0 i1 i2 i3 i4 i5 i6 i7 i8 b9:=by kernel_rfl
theorem yFP (e:Es) (_:EG e):LpOk (E e) (yhg ybq) ylR:=(yai (by kernel_rfl))
theorem yEb (e:Es) (he:EG e):∀ F H Q,yhg ybq 60530100 F H Q→ycr (E e) ylR F H Q:=by
 intro F H Q h
 have go:=ycr.intro (yaG (yt9 e he) 5) (yFP e he) (yni ybq Q) (by
  intro F H h
  unfold yni ykr at h
  split at h
  ·exact h
  ·exact h
  ·exact h) (by
  intro n F H h
  unfold yni ykr at h
  split at h
  ·exact (yAZ ..).mpr h
  ·exact (yA0 ..).mpr h
  ·exact h.elim)
 have h:ykr F H _ _:=h
 unfold ykr at h
 split at h
 ·obtain ⟨n,h⟩:=h;exact go n _ _ h
 ·obtain ⟨n,h⟩:=h;exact go n _ _ h
 ·exact h.elim
theorem yA1 (e:Es) (a0 Q n i0 i1 i2 i3 i4 i5 i6 i7 i8):WC (E e) (ybd (ymc e a0) 5) (yhg a0) ylS [(2,.v (.int .u64 i0)),(8,.v (.int .u64 i1)),(9,.v (.int .u64 i2)),(10,.v (.int .u64 i3)),(14,.v (.int .u64 i4)),(15,.v (.int .u64 i5)),(16,.v (.int .u64 i6)),(17,.v (.int .u64 i7)),(18,.v (.int .u64 i8))] [] (exQ (ynj a0 Q n) Q)=yfo a0 (yhH Q) (yhI Q) (n+1) i0 i1 i2 i3 i4 i5 i6 i7 i8:=by kernel_rfl
theorem yA2 (e:Es) (a0 Q n i0 i1 i2 i3 i4 i5 i6 i7 i8 b9):WC (E e) (ybd (ymc e a0) 5) (yhg a0) ylS [(2,.v (.int .u64 i0)),(8,.v (.int .u64 i1)),(9,.v (.int .u64 i2)),(10,.v (.int .u64 i3)),(14,.v (.int .u64 i4)),(15,.v (.int .u64 i5)),(16,.v (.int .u64 i6)),(17,.v (.int .u64 i7)),(18,.v (.int .u64 i8)),(120,.v (.bool b9))] [] (exQ (ynj a0 Q n) Q)=ydP a0 (yhH Q) (yhI Q) (n+1) i0 i1 i2 i3 i4 i5 i6 i7 i8 b9:=by kernel_rfl
theorem yFQ (e:Es) (_:EG e):LpOk (E e) (yhg ybq) ylS:=(yai (by kernel_rfl))
theorem yEc (e:Es) (he:EG e):∀ F H Q,yhg ybq 60530101 F H Q→ycr (E e) ylS F H Q:=by
 intro F H Q h
 have go:=ycr.intro (yaG (yt9 e he) 5) (yFQ e he) (ynj ybq Q) (by
  intro F H h
  unfold ynj yks at h
  split at h
  ·exact h
  ·exact h
  ·exact h) (by
  intro n F H h
  unfold ynj yks at h
  split at h
  ·exact (yA1 ..).mpr h
  ·exact (yA2 ..).mpr h
  ·exact h.elim)
 have h:yks F H _ _:=h
 unfold yks at h
 split at h
 ·obtain ⟨n,h⟩:=h;exact go n _ _ h
 ·obtain ⟨n,h⟩:=h;exact go n _ _ h
 ·exact h.elim
theorem yMz (e:Es) (a0 p0 p1 p2 K):WP (ymc e a0) 6 yOO [(.int .u64 p0),(.int .u64 p1),(.int .u64 p2)] K=yxL a0 p0 p1 p2 (fun r0 r1=>K (.tup [(.int .u64 r0),(.int .u64 r1)])):=by kernel_rfl
theorem yEd (e:Es) (he:EG e):OkF (E e) yEa ylO:=by
 intro as K h
 unfold yEa ysj at h
 split at h
 ·exact ya6 (yt9 e he) (ybg (l:=[(60530100,ylR),(60530101,ylS)]) ⟨yEb e he,yEc e he,trivial⟩ (by kernel_rfl)) (by kernel_rfl) (by kernel_rfl) (fun _=>yab (by kernel_rfl) _) (he.num _ (by kernel_rfl)) ((yMz ..).mpr h)
 ·exact h.elim
abbrev yvz:Type:=Int→Int→Int→(Int→Prop)→Prop
def yxM (a0:ymb) (p0 p1 p2:Int) (K:Int→Prop):Prop :=
 (asr (!(decide (p2=(0:Int))))
 (a0 (Int.tmod p0 p2) p1 p2 (fun _ a =>
 (K a))))
def ykt (p0 p1 p2:Int) (K:Int→Prop):Prop:=yxM yhE p0 p1 p2 K
def yxN (w:yvz) (as:Ls) (K:PV→Prop):Prop :=
 match as with
 | [(.int .u64 p0),(.int .u64 p1),(.int .u64 p2)]=>w p0 p1 p2 (fun r0=>K (.int .u64 r0))
 | _=>False
def yEe (as:Ls) (K:PV→Prop):Prop:=yxN ykt as K
def yMA (_:ymb):LP:=fun _ _ _ _ =>
 False
def yEf (e:Es) (a0:ymb):SE:=⟨(E e),yaK [(ylO,ysj a0)],yaL [],yMA a0⟩
theorem yKo (e:Es) (he:EG e):SEOk (yEf e yhE):=yat ⟨(yEd e he),trivial⟩ trivial he.ok
theorem yMB (e:Es) (a0 p0 p1 p2 K):WP (yEf e a0) 6 yOP [(.int .u64 p0),(.int .u64 p1),(.int .u64 p2)] K=yxM a0 p0 p1 p2 (fun r0=>K (.int .u64 r0)):=by kernel_rfl
theorem yMC (e:Es) (he:EG e):OkF (E e) yEe yrA:=by
 intro as K h
 unfold yEe yxN at h
 split at h
 ·exact ya6 (yKo e he) (yai (by kernel_rfl)) (by kernel_rfl) (by kernel_rfl) (fun _=>yab (by kernel_rfl) _) (he.num _ (by kernel_rfl)) ((yMB ..).mpr h)
 ·exact h.elim
abbrev ybz:Type:=Int→Int→Int→Int→(Int→Int→Int→Prop)→Prop
def ysk (a0:ybJ) (a1:ydD) (a2:ycc) (a3:yhC) (a4:yAU) (a5:yvz) (a6:ymb) (a7:ydn) (a8:yAV) (p0 p1 p2 p3:Int) (K:Int→Int→Int→Prop):Prop :=
 (a0 p0 p1 p2 p3 (fun z =>
 (cbr (z !=(0:Int))
 (K (0:Int) (0:Int) z)
 (a1 (IntKind.u64.wrap p1) (IntKind.u64.wrap p3) (fun a =>
 (a2 p0 (fun A =>
 (asr (!(decide (a=(0:Int))))
 (a3 A (IntKind.u64.wrap (Int.tdiv (IntKind.u64.wrap p3) a)) (fun b i =>
 (a2 p2 (fun B =>
 (asr (!(decide (a=(0:Int))))
 (a3 B (IntKind.u64.wrap (Int.tdiv (IntKind.u64.wrap p1) a)) (fun c j =>
 (cbr ((decide (p0<(0:Int))) ==(decide (p2<(0:Int))))
 (a4 i j (0:Int) (fun k C =>
 (a4 b c C (fun d _ =>
 (cbr (d ==(0:Int))
 (cbr (k ==(0:Int))
 (K (0:Int) (1:Int) (0:Int))
 (a5 d k a (fun D =>
 (a1 D a (fun p =>
 (cbr (decide (d≥p))
 (K (0:Int) (0:Int) (16:Int))
 (a6 d k p (fun E _ =>
 (asr (!(decide (a=(0:Int))))
 (asr (!(decide (p=(0:Int))))
 (a3 (IntKind.u64.wrap (Int.tdiv (IntKind.u64.wrap p1) a)) (IntKind.u64.wrap (Int.tdiv (IntKind.u64.wrap p3) p)) (fun F G =>
 (cbr (decide (F>(0:Int)))
 (K (0:Int) (0:Int) (16:Int))
 (a7 (decide (p0<(0:Int))) E G (fun H I J =>
 (K H I J))))))))))))))))
 (a5 d k a (fun L =>
 (a1 L a (fun q =>
 (cbr (decide (d≥q))
 (K (0:Int) (0:Int) (16:Int))
 (a6 d k q (fun M _ =>
 (asr (!(decide (a=(0:Int))))
 (asr (!(decide (q=(0:Int))))
 (a3 (IntKind.u64.wrap (Int.tdiv (IntKind.u64.wrap p1) a)) (IntKind.u64.wrap (Int.tdiv (IntKind.u64.wrap p3) q)) (fun N O =>
 (cbr (decide (N>(0:Int)))
 (K (0:Int) (0:Int) (16:Int))
 (a7 (decide (p0<(0:Int))) M O (fun Q R S =>
 (K Q R S))))))))))))))))))))
 (cbr (decide (b<c))
 (a8 j i (0:Int) (fun l T =>
 (a8 c b T (fun e _ =>
 (cbr (e ==(0:Int))
 (cbr (l ==(0:Int))
 (K (0:Int) (1:Int) (0:Int))
 (a5 e l a (fun U =>
 (a1 U a (fun r =>
 (cbr (decide (e≥r))
 (K (0:Int) (0:Int) (16:Int))
 (a6 e l r (fun V _ =>
 (asr (!(decide (a=(0:Int))))
 (asr (!(decide (r=(0:Int))))
 (a3 (IntKind.u64.wrap (Int.tdiv (IntKind.u64.wrap p1) a)) (IntKind.u64.wrap (Int.tdiv (IntKind.u64.wrap p3) r)) (fun W X =>
 (cbr (decide (W>(0:Int)))
 (K (0:Int) (0:Int) (16:Int))
 (a7 (!(decide (p0<(0:Int)))) V X (fun Y Z va =>
 (K Y Z va))))))))))))))))
 (a5 e l a (fun vb =>
 (a1 vb a (fun s =>
 (cbr (decide (e≥s))
 (K (0:Int) (0:Int) (16:Int))
 (a6 e l s (fun vc _ =>
 (asr (!(decide (a=(0:Int))))
 (asr (!(decide (s=(0:Int))))
 (a3 (IntKind.u64.wrap (Int.tdiv (IntKind.u64.wrap p1) a)) (IntKind.u64.wrap (Int.tdiv (IntKind.u64.wrap p3) s)) (fun vd ve =>
 (cbr (decide (vd>(0:Int)))
 (K (0:Int) (0:Int) (16:Int))
 (a7 (!(decide (p0<(0:Int)))) vc ve (fun vf vg vh =>
 (K vf vg vh))))))))))))))))))))
 (cbr (b == c)
 (cbr (decide (i<j))
 (a8 j i (0:Int) (fun m vi =>
 (a8 c b vi (fun f _ =>
 (cbr (f ==(0:Int))
 (cbr (m ==(0:Int))
 (K (0:Int) (1:Int) (0:Int))
 (a5 f m a (fun vj =>
 (a1 vj a (fun t =>
 (cbr (decide (f≥t))
 (K (0:Int) (0:Int) (16:Int))
 (a6 f m t (fun vk _ =>
 (asr (!(decide (a=(0:Int))))
 (asr (!(decide (t=(0:Int))))
 (a3 (IntKind.u64.wrap (Int.tdiv (IntKind.u64.wrap p1) a)) (IntKind.u64.wrap (Int.tdiv (IntKind.u64.wrap p3) t)) (fun vl vm =>
 (cbr (decide (vl>(0:Int)))
 (K (0:Int) (0:Int) (16:Int))
 (a7 (!(decide (p0<(0:Int)))) vk vm (fun vn vo vp =>
 (K vn vo vp))))))))))))))))
 (a5 f m a (fun vq =>
 (a1 vq a (fun u =>
 (cbr (decide (f≥u))
 (K (0:Int) (0:Int) (16:Int))
 (a6 f m u (fun vr _ =>
 (asr (!(decide (a=(0:Int))))
 (asr (!(decide (u=(0:Int))))
 (a3 (IntKind.u64.wrap (Int.tdiv (IntKind.u64.wrap p1) a)) (IntKind.u64.wrap (Int.tdiv (IntKind.u64.wrap p3) u)) (fun vs vt =>
 (cbr (decide (vs>(0:Int)))
 (K (0:Int) (0:Int) (16:Int))
 (a7 (!(decide (p0<(0:Int)))) vr vt (fun vu vv vw =>
 (K vu vv vw))))))))))))))))))))
 (a8 i j (0:Int) (fun n vx =>
 (a8 b c vx (fun g _ =>
 (cbr (g ==(0:Int))
 (cbr (n ==(0:Int))
 (K (0:Int) (1:Int) (0:Int))
 (a5 g n a (fun vy =>
 (a1 vy a (fun v =>
 (cbr (decide (g≥v))
 (K (0:Int) (0:Int) (16:Int))
 (a6 g n v (fun vz _ =>
 (asr (!(decide (a=(0:Int))))
 (asr (!(decide (v=(0:Int))))
 (a3 (IntKind.u64.wrap (Int.tdiv (IntKind.u64.wrap p1) a)) (IntKind.u64.wrap (Int.tdiv (IntKind.u64.wrap p3) v)) (fun vA vB =>
 (cbr (decide (vA>(0:Int)))
 (K (0:Int) (0:Int) (16:Int))
 (a7 (decide (p0<(0:Int))) vz vB (fun vC vD vE =>
 (K vC vD vE))))))))))))))))
 (a5 g n a (fun vF =>
 (a1 vF a (fun w =>
 (cbr (decide (g≥w))
 (K (0:Int) (0:Int) (16:Int))
 (a6 g n w (fun vG _ =>
 (asr (!(decide (a=(0:Int))))
 (asr (!(decide (w=(0:Int))))
 (a3 (IntKind.u64.wrap (Int.tdiv (IntKind.u64.wrap p1) a)) (IntKind.u64.wrap (Int.tdiv (IntKind.u64.wrap p3) w)) (fun vH vI =>
 (cbr (decide (vH>(0:Int)))
 (K (0:Int) (0:Int) (16:Int))
 (a7 (decide (p0<(0:Int))) vG vI (fun vJ vK vL =>
 (K vJ vK vL)))))))))))))))))))))
 (a8 i j (0:Int) (fun o vM =>
 (a8 b c vM (fun h _ =>
 (cbr (h ==(0:Int))
 (cbr (o ==(0:Int))
 (K (0:Int) (1:Int) (0:Int))
 (a5 h o a (fun vN =>
 (a1 vN a (fun x =>
 (cbr (decide (h≥x))
 (K (0:Int) (0:Int) (16:Int))
 (a6 h o x (fun vO _ =>
 (asr (!(decide (a=(0:Int))))
 (asr (!(decide (x=(0:Int))))
 (a3 (IntKind.u64.wrap (Int.tdiv (IntKind.u64.wrap p1) a)) (IntKind.u64.wrap (Int.tdiv (IntKind.u64.wrap p3) x)) (fun vP vQ =>
 (cbr (decide (vP>(0:Int)))
 (K (0:Int) (0:Int) (16:Int))
 (a7 (decide (p0<(0:Int))) vO vQ (fun vR vS vT =>
 (K vR vS vT))))))))))))))))
 (a5 h o a (fun vU =>
 (a1 vU a (fun y =>
 (cbr (decide (h≥y))
 (K (0:Int) (0:Int) (16:Int))
 (a6 h o y (fun vV _ =>
 (asr (!(decide (a=(0:Int))))
 (asr (!(decide (y=(0:Int))))
 (a3 (IntKind.u64.wrap (Int.tdiv (IntKind.u64.wrap p1) a)) (IntKind.u64.wrap (Int.tdiv (IntKind.u64.wrap p3) y)) (fun vW vX =>
 (cbr (decide (vW>(0:Int)))
 (K (0:Int) (0:Int) (16:Int))
 (a7 (decide (p0<(0:Int))) vV vX (fun vY vZ v0 =>
 (K vY vZ v0))))))))))))))))))))))))))))))))))))))
def yaH (p0 p1 p2 p3:Int) (K:Int→Int→Int→Prop):Prop:=ysk ycz ycB yc0 yfU ylM ykt yhE yct ylN p0 p1 p2 p3 K
def yge (w:ybz) (as:Ls) (K:PV→Prop):Prop :=
 match as with
 | [(.agg [(.int .i64 p0),(.int .i64 p1)]),(.agg [(.int .i64 p2),(.int .i64 p3)])]=>w p0 p1 p2 p3 (fun r0 r1 r2=>K (.tup [(.agg [(.int .i64 r0),(.int .i64 r1)]),(.int .i64 r2)]))
 | _=>False
def yy7 (as:Ls) (K:PV→Prop):Prop:=yge yaH as K
def yIt (_:ybJ) (_:ydD) (_:ycc) (_:yhC) (_:yAU) (_:yvz) (_:ymb) (_:ydn) (_:yAV):LP:=fun _ _ _ _ =>
 False
def yy8 (e:Es) (a0:ybJ) (a1:ydD) (a2:ycc) (a3:yhC) (a4:yAU) (a5:yvz) (a6:ymb) (a7:ydn) (a8:yAV):SE:=⟨(E e),yaK [(ycx,yfI a0),(ydA,yiP a1),(ybH,ygl a2),(yfs,ypz a3),(yko,yxq a4),(yrA,yxN a5),(ylO,ysj a6),(ydS,yhw a7),(ykp,yxs a8)],yaL [],yIt a0 a1 a2 a3 a4 a5 a6 a7 a8⟩
theorem yFR (e:Es) (he:EG e):SEOk (yy8 e ycz ycB yc0 yfU ylM ykt yhE yct ylN):=yat ⟨(yin e he),(yog e he),(yjI e he),(yxI e he),(yMs e he),(yMC e he),(yEd e he),(ynA e he),(yMt e he),trivial⟩ trivial he.ok
theorem yIu (e:Es) (a0 a1 a2 a3 a4 a5 a6 a7 a8 p0 p1 p2 p3 K):WP (yy8 e a0 a1 a2 a3 a4 a5 a6 a7 a8) 6 yKb [(.agg [(.int .i64 p0),(.int .i64 p1)]),(.agg [(.int .i64 p2),(.int .i64 p3)])] K=ysk a0 a1 a2 a3 a4 a5 a6 a7 a8 p0 p1 p2 p3 (fun r0 r1 r2=>K (.tup [(.agg [(.int .i64 r0),(.int .i64 r1)]),(.int .i64 r2)])):=by kernel_rfl
theorem yhh (e:Es) (he:EG e):OkF (E e) yy7 yde:=by
 intro as K h
 unfold yy7 yge at h
 split at h
 ·exact ya6 (yFR e he) (yai (by kernel_rfl)) (by kernel_rfl) (by kernel_rfl) (fun _=>yab (by kernel_rfl) _) (he.num _ (by kernel_rfl)) ((yIu ..).mpr h)
 ·exact h.elim
abbrev yd6:Type:=Int→Int→Int→Int→(Int→Int→Int→Prop)→Prop
def ysl (a0:ybJ) (a1:ybz) (p0 p1 p2 p3:Int) (K:Int→Int→Int→Prop):Prop :=
 (a0 p0 p1 p2 p3 (fun a =>
 (cbr (a !=(0:Int))
 (K (0:Int) (0:Int) a)
 (a1 p0 p1 (IntKind.i64.wrap ((0:Int)-p2)) p3 (fun b c d =>
 (K b c d))))))
def ybP (p0 p1 p2 p3:Int) (K:Int→Int→Int→Prop):Prop:=ysl ycz yaH p0 p1 p2 p3 K
def ykX (w:yd6) (as:Ls) (K:PV→Prop):Prop :=
 match as with
 | [(.agg [(.int .i64 p0),(.int .i64 p1)]),(.agg [(.int .i64 p2),(.int .i64 p3)])]=>w p0 p1 p2 p3 (fun r0 r1 r2=>K (.tup [(.agg [(.int .i64 r0),(.int .i64 r1)]),(.int .i64 r2)]))
 | _=>False
def yy9 (as:Ls) (K:PV→Prop):Prop:=ykX ybP as K
def yIv (_:ybJ) (_:ybz):LP:=fun _ _ _ _ =>
 False
def yza (e:Es) (a0:ybJ) (a1:ybz):SE:=⟨(E e),yaK [(ycx,yfI a0),(yde,yge a1)],yaL [],yIv a0 a1⟩
theorem yFS (e:Es) (he:EG e):SEOk (yza e ycz yaH):=yat ⟨(yin e he),(yhh e he),trivial⟩ trivial he.ok
theorem yIw (e:Es) (a0 a1 p0 p1 p2 p3 K):WP (yza e a0 a1) 6 yKc [(.agg [(.int .i64 p0),(.int .i64 p1)]),(.agg [(.int .i64 p2),(.int .i64 p3)])] K=ysl a0 a1 p0 p1 p2 p3 (fun r0 r1 r2=>K (.tup [(.agg [(.int .i64 r0),(.int .i64 r1)]),(.int .i64 r2)])):=by kernel_rfl
theorem yoi (e:Es) (he:EG e):OkF (E e) yy9 ydC:=by
 intro as K h
 unfold yy9 ykX at h
 split at h
 ·exact ya6 (yFS e he) (yai (by kernel_rfl)) (by kernel_rfl) (by kernel_rfl) (fun _=>yab (by kernel_rfl) _) (he.num _ (by kernel_rfl)) ((yIw ..).mpr h)
 ·exact h.elim
abbrev ycO:Type:=Int→Int→Int→Int→(Int→Int→Int→Prop)→Prop
def ysm (a0:ybJ) (a1:ycc) (a2:ydD) (a3:yhC) (a4:ydn) (p0 p1 p2 p3:Int) (K:Int→Int→Int→Prop):Prop :=
 (a0 p0 p1 p2 p3 (fun d =>
 (cbr (d !=(0:Int))
 (K (0:Int) (0:Int) d)
 (a1 p0 (fun e =>
 (a1 p2 (fun f =>
 (a2 e (IntKind.u64.wrap p3) (fun a =>
 (a2 f (IntKind.u64.wrap p1) (fun b =>
 (asr (!(decide (a=(0:Int))))
 (asr (!(decide (b=(0:Int))))
 (a3 (IntKind.u64.wrap (Int.tdiv e a)) (IntKind.u64.wrap (Int.tdiv f b)) (fun h c =>
 (asr (!(decide (b=(0:Int))))
 (asr (!(decide (a=(0:Int))))
 (a3 (IntKind.u64.wrap (Int.tdiv (IntKind.u64.wrap p1) b)) (IntKind.u64.wrap (Int.tdiv (IntKind.u64.wrap p3) a)) (fun i g =>
 (cbr (decide ((IntKind.u64.wrap (h+i))>(0:Int)))
 (K (0:Int) (0:Int) (16:Int))
 (cbr (decide (c>(0:Int)))
 (a4 ((decide (p0<(0:Int))) !=(decide (p2<(0:Int)))) c g (fun j k l =>
 (K j k l)))
 (a4 false c g (fun m n o =>
 (K m n o))))))))))))))))))))))))
def ybA (p0 p1 p2 p3:Int) (K:Int→Int→Int→Prop):Prop:=ysm ycz yc0 ycB yfU yct p0 p1 p2 p3 K
def yiQ (w:ycO) (as:Ls) (K:PV→Prop):Prop :=
 match as with
 | [(.agg [(.int .i64 p0),(.int .i64 p1)]),(.agg [(.int .i64 p2),(.int .i64 p3)])]=>w p0 p1 p2 p3 (fun r0 r1 r2=>K (.tup [(.agg [(.int .i64 r0),(.int .i64 r1)]),(.int .i64 r2)]))
 | _=>False
def yzb (as:Ls) (K:PV→Prop):Prop:=yiQ ybA as K
def yIx (_:ybJ) (_:ycc) (_:ydD) (_:yhC) (_:ydn):LP:=fun _ _ _ _ =>
 False
def yzc (e:Es) (a0:ybJ) (a1:ycc) (a2:ydD) (a3:yhC) (a4:ydn):SE:=⟨(E e),yaK [(ycx,yfI a0),(ybH,ygl a1),(ydA,yiP a2),(yfs,ypz a3),(ydS,yhw a4)],yaL [],yIx a0 a1 a2 a3 a4⟩
theorem yFT (e:Es) (he:EG e):SEOk (yzc e ycz yc0 ycB yfU yct):=yat ⟨(yin e he),(yjI e he),(yog e he),(yxI e he),(ynA e he),trivial⟩ trivial he.ok
theorem yIy (e:Es) (a0 a1 a2 a3 a4 p0 p1 p2 p3 K):WP (yzc e a0 a1 a2 a3 a4) 6 yKd [(.agg [(.int .i64 p0),(.int .i64 p1)]),(.agg [(.int .i64 p2),(.int .i64 p3)])] K=ysm a0 a1 a2 a3 a4 p0 p1 p2 p3 (fun r0 r1 r2=>K (.tup [(.agg [(.int .i64 r0),(.int .i64 r1)]),(.int .i64 r2)])):=by kernel_rfl
theorem ykY (e:Es) (he:EG e):OkF (E e) yzb yd4:=by
 intro as K h
 unfold yzb yiQ at h
 split at h
 ·exact ya6 (yFT e he) (yai (by kernel_rfl)) (by kernel_rfl) (by kernel_rfl) (fun _=>yab (by kernel_rfl) _) (he.num _ (by kernel_rfl)) ((yIy ..).mpr h)
 ·exact h.elim
abbrev yaO:Type:=Int→Int→Int→Int→(Int→Int→Int→Prop)→Prop
def ysn (a0:ybJ) (a1:ycO) (p0 p1 p2 p3:Int) (K:Int→Int→Int→Prop):Prop :=
 (a0 p0 p1 p2 p3 (fun a =>
 (cbr (a !=(0:Int))
 (K (0:Int) (0:Int) a)
 (cbr (p2 ==(0:Int))
 (K (0:Int) (0:Int) (18:Int))
 (cbr (decide (p2<(0:Int)))
 (a1 p0 p1 (IntKind.i64.wrap ((0:Int)-p3)) (IntKind.i64.wrap ((0:Int)-p2)) (fun b c d =>
 (K b c d)))
 (a1 p0 p1 p3 p2 (fun e f g =>
 (K e f g))))))))
def yaz (p0 p1 p2 p3:Int) (K:Int→Int→Int→Prop):Prop:=ysn ycz ybA p0 p1 p2 p3 K
def ygf (w:yaO) (as:Ls) (K:PV→Prop):Prop :=
 match as with
 | [(.agg [(.int .i64 p0),(.int .i64 p1)]),(.agg [(.int .i64 p2),(.int .i64 p3)])]=>w p0 p1 p2 p3 (fun r0 r1 r2=>K (.tup [(.agg [(.int .i64 r0),(.int .i64 r1)]),(.int .i64 r2)]))
 | _=>False
def yzd (as:Ls) (K:PV→Prop):Prop:=ygf yaz as K
def yIz (_:ybJ) (_:ycO):LP:=fun _ _ _ _ =>
 False
def yze (e:Es) (a0:ybJ) (a1:ycO):SE:=⟨(E e),yaK [(ycx,yfI a0),(yd4,yiQ a1)],yaL [],yIz a0 a1⟩
theorem yFU (e:Es) (he:EG e):SEOk (yze e ycz ybA):=yat ⟨(yin e he),(ykY e he),trivial⟩ trivial he.ok
theorem yIA (e:Es) (a0 a1 p0 p1 p2 p3 K):WP (yze e a0 a1) 6 yKe [(.agg [(.int .i64 p0),(.int .i64 p1)]),(.agg [(.int .i64 p2),(.int .i64 p3)])] K=ysn a0 a1 p0 p1 p2 p3 (fun r0 r1 r2=>K (.tup [(.agg [(.int .i64 r0),(.int .i64 r1)]),(.int .i64 r2)])):=by kernel_rfl
theorem yhi (e:Es) (he:EG e):OkF (E e) yzd yd5:=by
 intro as K h
 unfold yzd ygf at h
 split at h
 ·exact ya6 (yFU e he) (yai (by kernel_rfl)) (by kernel_rfl) (by kernel_rfl) (fun _=>yab (by kernel_rfl) _) (he.num _ (by kernel_rfl)) ((yIA ..).mpr h)
 ·exact h.elim
end Go.Pf.Vc
namespace Go.Pf.Vc
open Go Go.Pf
set_option linter.unusedVariables false
theorem yEg (p0:Int) (p1:Int) (r0:Int) (r1:Int) (r2:Int) (h:∀ K:Int→Int→Int→Prop,K r0 r1 r2→yan p0 p1 K) (K:Int→Int→Int→Prop):yan p0 p1 K=K r0 r1 r2 :=
 propext ⟨fun k=>detC (ymL [] yba) (as:=[(.int .i64 p0),(.int .i64 p1)]) (x:=(.tup [(.agg [(.int .i64 r0),(.int .i64 r1)]),(.int .i64 r2)])) (fun K' k'=>h (fun r0 r1 r2=>K' (.tup [(.agg [(.int .i64 r0),(.int .i64 r1)]),(.int .i64 r2)])) k') (K:=fun x=>match x with | (.tup [(.agg [(.int .i64 r0),(.int .i64 r1)]),(.int .i64 r2)])=>K r0 r1 r2 | _=>False) k,h K⟩
theorem yCu (p0:Int) (p1:Int) (r0:Int) (h:∀ K:Int→Prop,K r0→yby p0 p1 K) (K:Int→Prop):yby p0 p1 K=K r0 :=
 propext ⟨fun k=>detC (yim [] yba) (as:=[(.agg [(.int .i64 p0),(.int .i64 p1)])]) (x:=(.int .i64 r0)) (fun K' k'=>h (fun r0=>K' (.int .i64 r0)) k') (K:=fun x=>match x with | (.int .i64 r0)=>K r0 | _=>False) k,h K⟩
theorem yFV (p0:Int) (p1:Int) (p2:Int) (p3:Int) (r0:Int) (r1:Int) (h:∀ K:Int→Int→Prop,K r0 r1→ybW p0 p1 p2 p3 K) (K:Int→Int→Prop):ybW p0 p1 p2 p3 K=K r0 r1 :=
 propext ⟨fun k=>detC (yhf [] yba) (as:=[(.agg [(.int .i64 p0),(.int .i64 p1)]),(.agg [(.int .i64 p2),(.int .i64 p3)])]) (x:=(.tup [(.int .i64 r0),(.int .i64 r1)])) (fun K' k'=>h (fun r0 r1=>K' (.tup [(.int .i64 r0),(.int .i64 r1)])) k') (K:=fun x=>match x with | (.tup [(.int .i64 r0),(.int .i64 r1)])=>K r0 r1 | _=>False) k,h K⟩
theorem yFW (p0:Int) (p1:Int) (p2:Int) (p3:Int) (r0:Int) (r1:Int) (r2:Int) (h:∀ K:Int→Int→Int→Prop,K r0 r1 r2→yaH p0 p1 p2 p3 K) (K:Int→Int→Int→Prop):yaH p0 p1 p2 p3 K=K r0 r1 r2 :=
 propext ⟨fun k=>detC (yhh [] yba) (as:=[(.agg [(.int .i64 p0),(.int .i64 p1)]),(.agg [(.int .i64 p2),(.int .i64 p3)])]) (x:=(.tup [(.agg [(.int .i64 r0),(.int .i64 r1)]),(.int .i64 r2)])) (fun K' k'=>h (fun r0 r1 r2=>K' (.tup [(.agg [(.int .i64 r0),(.int .i64 r1)]),(.int .i64 r2)])) k') (K:=fun x=>match x with | (.tup [(.agg [(.int .i64 r0),(.int .i64 r1)]),(.int .i64 r2)])=>K r0 r1 r2 | _=>False) k,h K⟩
theorem yFX (p0:Int) (p1:Int) (p2:Int) (p3:Int) (r0:Int) (r1:Int) (r2:Int) (h:∀ K:Int→Int→Int→Prop,K r0 r1 r2→ybP p0 p1 p2 p3 K) (K:Int→Int→Int→Prop):ybP p0 p1 p2 p3 K=K r0 r1 r2 :=
 propext ⟨fun k=>detC (yoi [] yba) (as:=[(.agg [(.int .i64 p0),(.int .i64 p1)]),(.agg [(.int .i64 p2),(.int .i64 p3)])]) (x:=(.tup [(.agg [(.int .i64 r0),(.int .i64 r1)]),(.int .i64 r2)])) (fun K' k'=>h (fun r0 r1 r2=>K' (.tup [(.agg [(.int .i64 r0),(.int .i64 r1)]),(.int .i64 r2)])) k') (K:=fun x=>match x with | (.tup [(.agg [(.int .i64 r0),(.int .i64 r1)]),(.int .i64 r2)])=>K r0 r1 r2 | _=>False) k,h K⟩
theorem yFY (p0:Int) (p1:Int) (p2:Int) (p3:Int) (r0:Int) (r1:Int) (r2:Int) (h:∀ K:Int→Int→Int→Prop,K r0 r1 r2→ybA p0 p1 p2 p3 K) (K:Int→Int→Int→Prop):ybA p0 p1 p2 p3 K=K r0 r1 r2 :=
 propext ⟨fun k=>detC (ykY [] yba) (as:=[(.agg [(.int .i64 p0),(.int .i64 p1)]),(.agg [(.int .i64 p2),(.int .i64 p3)])]) (x:=(.tup [(.agg [(.int .i64 r0),(.int .i64 r1)]),(.int .i64 r2)])) (fun K' k'=>h (fun r0 r1 r2=>K' (.tup [(.agg [(.int .i64 r0),(.int .i64 r1)]),(.int .i64 r2)])) k') (K:=fun x=>match x with | (.tup [(.agg [(.int .i64 r0),(.int .i64 r1)]),(.int .i64 r2)])=>K r0 r1 r2 | _=>False) k,h K⟩
theorem yFZ (p0:Int) (p1:Int) (p2:Int) (p3:Int) (r0:Int) (r1:Int) (r2:Int) (h:∀ K:Int→Int→Int→Prop,K r0 r1 r2→yaz p0 p1 p2 p3 K) (K:Int→Int→Int→Prop):yaz p0 p1 p2 p3 K=K r0 r1 r2 :=
 propext ⟨fun k=>detC (yhi [] yba) (as:=[(.agg [(.int .i64 p0),(.int .i64 p1)]),(.agg [(.int .i64 p2),(.int .i64 p3)])]) (x:=(.tup [(.agg [(.int .i64 r0),(.int .i64 r1)]),(.int .i64 r2)])) (fun K' k'=>h (fun r0 r1 r2=>K' (.tup [(.agg [(.int .i64 r0),(.int .i64 r1)]),(.int .i64 r2)])) k') (K:=fun x=>match x with | (.tup [(.agg [(.int .i64 r0),(.int .i64 r1)]),(.int .i64 r2)])=>K r0 r1 r2 | _=>False) k,h K⟩
end Go.Pf.Vc
namespace Go.Pf.Vc
open Go Go.Pf
set_option maxRecDepth 100000
abbrev yfV:Type:=Ls→(Int→Prop)→Prop
def ycC (x0:Ls→Int→Int→Bool→Prop):Nat→Ls→Int→Int→Prop
 | 0,_,_,_=>False
 | n+1,l0,i1,i2 =>
 (cbr (decide (i2<(((List.length l0):Nat):Int)))
 (asr (decide ((0:Int)≤i2))
 (asr (decide (i2<(((List.length l0):Nat):Int)))
 (asr (conf (.one (.i .i64)) (List.getD l0 (i2.toNat) .nils))
 (ycC x0 n l0 (if (yaa (List.getD l0 (i2.toNat) .nils))<i1 then (yaa (List.getD l0 (i2.toNat) .nils)) else i1) (IntKind.i64.wrap (i2+(1:Int)))))))
 (x0 l0 i1 i2 false))
def ymd (p0:Ls) (K:Int→Prop):Prop :=
 (cbr (decide ((((List.length p0):Nat):Int)<(1:Int)))
 False
 (asr (decide ((0:Int)<(((List.length p0):Nat):Int)))
 (asr (conf (.one (.i .i64)) (List.getD p0 0 .nils))
 (∃ n:Nat,ycC
 (fun _ a _ _=>(K a))
 n p0 (yaa (List.getD p0 0 .nils)) (1:Int)))))
def yd7 (p0:Ls) (K:Int→Prop):Prop:=ymd p0 K
def yme (w:yfV) (as:Ls) (K:PV→Prop):Prop :=
 match as with
 | [(.data p0)]=>w p0 (fun r0=>K (.int .i64 r0))
 | _=>False
def yrL (as:Ls) (K:PV→Prop):Prop:=yme yd7 as K
def yeQ (F:Frm) (H:Hp) (A0:Ls→Int→Int→Prop):Prop :=
 match F,H with
 | [(0,.v (.data l0)),(3,.v (.int .i64 i1)),(4,.v (.int .i64 i2))],[]=>(A0 l0 i1 i2)
 | _,_=>False
def yju (Q:Qx):Ls→Int→Int→Bool→Prop:=(fun l0 i1 i2 b3=>Q (.exit 0) [(0,.v (.data l0)),(3,.v (.int .i64 i1)),(4,.v (.int .i64 i2)),(15,.v (.bool b3))] [])
def yh8 (Q:Qx) (n:Nat) (F:Frm) (H:Hp):Prop:=yeQ F H (fun l0 i1 i2=>ycC (yju Q) n l0 i1 i2)
def yiR:LP:=fun id F H Q =>
 bif Nat.beq id 10434000 then yeQ F H (fun l0 i1 i2=>∃ n:Nat,ycC (yju Q) n l0 i1 i2) else
 False
def ymf (e:Es):SE:=⟨(E e),yaK [],yaL [],yiR⟩
theorem yqm (e:Es) (he:EG e):SEOk (ymf e):=yat trivial trivial he.ok
theorem yso (e:Es) ( Q n l0 i1 i2):WC (E e) (ybd (ymf e) 5) (yiR) yo6 [(0,.v (.data l0)),(3,.v (.int .i64 i1)),(4,.v (.int .i64 i2))] [] (exQ (yh8 Q n) Q)=ycC (yju Q) (n+1) l0 i1 i2:=by kernel_rfl
theorem yvZ (e:Es) (_:EG e):LpOk (E e) (yiR) yo6:=(yai (by kernel_rfl))
theorem yua (e:Es) (he:EG e):∀ F H Q,yiR 10434000 F H Q→ycr (E e) yo6 F H Q:=by
 intro F H Q h
 have go:=ycr.intro (yaG (yqm e he) 5) (yvZ e he) (yh8 Q) (by intro F H h;unfold yh8 yeQ at h;split at h <;> exact h) (by intro n F H h;unfold yh8 yeQ at h;split at h;exact (yso ..).mpr h;exact h.elim)
 have h:yeQ F H _:=h
 unfold yeQ at h
 split at h
 ·obtain ⟨n,h⟩:=h;exact go n _ _ h
 ·exact h.elim
theorem yA3 (e:Es) ( p0 K):WP (ymf e) 6 yCl [(.data p0)] K=ymd p0 (fun r0=>K (.int .i64 r0)):=by kernel_rfl
theorem yA4 (e:Es) (he:EG e):OkF (E e) yrL yhv:=by
 intro as K h
 unfold yrL yme at h
 split at h
 ·exact ya6 (yqm e he) (ybg (l:=[(10434000,yo6)]) ⟨yua e he,trivial⟩ (by kernel_rfl)) (by kernel_rfl) (by kernel_rfl) (fun _=>yab (by kernel_rfl) _) (he.num _ (by kernel_rfl)) ((yA3 ..).mpr h)
 ·exact h.elim
abbrev yfW:Type:=Ls→(Int→Prop)→Prop
def ycD (x0:Ls→Int→Int→Bool→Prop):Nat→Ls→Int→Int→Prop
 | 0,_,_,_=>False
 | n+1,l0,i1,i2 =>
 (cbr (decide (i2<(((List.length l0):Nat):Int)))
 (asr (decide ((0:Int)≤i2))
 (asr (decide (i2<(((List.length l0):Nat):Int)))
 (asr (conf (.one (.i .i64)) (List.getD l0 (i2.toNat) .nils))
 (ycD x0 n l0 (if (yaa (List.getD l0 (i2.toNat) .nils))>i1 then (yaa (List.getD l0 (i2.toNat) .nils)) else i1) (IntKind.i64.wrap (i2+(1:Int)))))))
 (x0 l0 i1 i2 false))
def ymg (p0:Ls) (K:Int→Prop):Prop :=
 (cbr (decide ((((List.length p0):Nat):Int)<(1:Int)))
 False
 (asr (decide ((0:Int)<(((List.length p0):Nat):Int)))
 (asr (conf (.one (.i .i64)) (List.getD p0 0 .nils))
 (∃ n:Nat,ycD
 (fun _ a _ _=>(K a))
 n p0 (yaa (List.getD p0 0 .nils)) (1:Int)))))
def yd8 (p0:Ls) (K:Int→Prop):Prop:=ymg p0 K
def ymh (w:yfW) (as:Ls) (K:PV→Prop):Prop :=
 match as with
 | [(.data p0)]=>w p0 (fun r0=>K (.int .i64 r0))
 | _=>False
def yrM (as:Ls) (K:PV→Prop):Prop:=ymh yd8 as K
def yeR (F:Frm) (H:Hp) (A0:Ls→Int→Int→Prop):Prop :=
 match F,H with
 | [(0,.v (.data l0)),(3,.v (.int .i64 i1)),(4,.v (.int .i64 i2))],[]=>(A0 l0 i1 i2)
 | _,_=>False
def yjv (Q:Qx):Ls→Int→Int→Bool→Prop:=(fun l0 i1 i2 b3=>Q (.exit 0) [(0,.v (.data l0)),(3,.v (.int .i64 i1)),(4,.v (.int .i64 i2)),(15,.v (.bool b3))] [])
def yh9 (Q:Qx) (n:Nat) (F:Frm) (H:Hp):Prop:=yeR F H (fun l0 i1 i2=>ycD (yjv Q) n l0 i1 i2)
def yiS:LP:=fun id F H Q =>
 bif Nat.beq id 64079100 then yeR F H (fun l0 i1 i2=>∃ n:Nat,ycD (yjv Q) n l0 i1 i2) else
 False
def ymi (e:Es):SE:=⟨(E e),yaK [],yaL [],yiS⟩
theorem yqn (e:Es) (he:EG e):SEOk (ymi e):=yat trivial trivial he.ok
theorem ysp (e:Es) ( Q n l0 i1 i2):WC (E e) (ybd (ymi e) 5) (yiS) yo7 [(0,.v (.data l0)),(3,.v (.int .i64 i1)),(4,.v (.int .i64 i2))] [] (exQ (yh9 Q n) Q)=ycD (yjv Q) (n+1) l0 i1 i2:=by kernel_rfl
theorem yv0 (e:Es) (_:EG e):LpOk (E e) (yiS) yo7:=(yai (by kernel_rfl))
theorem yub (e:Es) (he:EG e):∀ F H Q,yiS 64079100 F H Q→ycr (E e) yo7 F H Q:=by
 intro F H Q h
 have go:=ycr.intro (yaG (yqn e he) 5) (yv0 e he) (yh9 Q) (by intro F H h;unfold yh9 yeR at h;split at h <;> exact h) (by intro n F H h;unfold yh9 yeR at h;split at h;exact (ysp ..).mpr h;exact h.elim)
 have h:yeR F H _:=h
 unfold yeR at h
 split at h
 ·obtain ⟨n,h⟩:=h;exact go n _ _ h
 ·exact h.elim
theorem yA5 (e:Es) ( p0 K):WP (ymi e) 6 yCm [(.data p0)] K=ymg p0 (fun r0=>K (.int .i64 r0)):=by kernel_rfl
theorem yA6 (e:Es) (he:EG e):OkF (E e) yrM yfT:=by
 intro as K h
 unfold yrM ymh at h
 split at h
 ·exact ya6 (yqn e he) (ybg (l:=[(64079100,yo7)]) ⟨yub e he,trivial⟩ (by kernel_rfl)) (by kernel_rfl) (by kernel_rfl) (fun _=>yab (by kernel_rfl) _) (he.num _ (by kernel_rfl)) ((yA5 ..).mpr h)
 ·exact h.elim
abbrev yaF:Type:=Int→Ls→Ls→(Int→Prop)→Prop
def ydG (a0:yfV) (a1:yfW) (x0:Int→Prop) (x1:Int→Ls→Ls→Int→Int→Bool→Prop):Nat→Int→Ls→Ls→Int→Int→Prop
 | 0,_,_,_,_,_=>False
 | n+1,i0,l1,l2,i3,i4 =>
 (cbr (decide (i4<i3))
 (asr (decide ((0:Int)≤i4))
 (asr (decide (i4<(((List.length l1):Nat):Int)))
 (asr (conf (.one (.i .i64)) (List.getD l1 (i4.toNat) .nils))
 (asr (decide ((0:Int)≤(IntKind.i64.wrap (i4+(1:Int)))))
 (asr (decide ((IntKind.i64.wrap (i4+(1:Int)))<(((List.length l1):Nat):Int)))
 (asr (conf (.one (.i .i64)) (List.getD l1 ((IntKind.i64.wrap (i4+(1:Int))).toNat) .nils))
 (cbr (decide ((yaa (List.getD l1 (i4.toNat) .nils))≥(yaa (List.getD l1 ((IntKind.i64.wrap (i4+(1:Int))).toNat) .nils))))
 (x0 (8:Int))
 (ydG a0 a1 x0 x1 n i0 l1 l2 i3 (IntKind.i64.wrap (i4+(1:Int)))))))))))
 (x1 i0 l1 l2 i3 i4 false))
def yqT (a0:yfV) (a1:yfW) (p0:Int) (p1 p2:Ls) (K:Int→Prop):Prop :=
 (cbr (decide (p0>(1000:Int)))
 (K (4:Int))
 (cbr (decide ((((List.length p1):Nat):Int)>(40:Int)))
 (K (4:Int))
 (cbr (decide (p0<(1:Int)))
 (K (8:Int))
 (cbr (decide ((((List.length p1):Nat):Int)<(2:Int)))
 (K (8:Int))
 (cbr ((((List.length p2):Nat):Int) !=(IntKind.i64.wrap ((((List.length p1):Nat):Int)-(1:Int))))
 (K (8:Int))
 (asr (decide ((0:Int)<(((List.length p1):Nat):Int)))
 (asr (conf (.one (.i .i64)) (List.getD p1 0 .nils))
 (cbr ((yaa (List.getD p1 0 .nils)) !=(0:Int))
 (K (8:Int))
 (asr (decide ((0:Int)≤(IntKind.i64.wrap ((((List.length p1):Nat):Int)-(1:Int)))))
 (asr (decide ((IntKind.i64.wrap ((((List.length p1):Nat):Int)-(1:Int)))<(((List.length p1):Nat):Int)))
 (asr (conf (.one (.i .i64)) (List.getD p1 ((IntKind.i64.wrap ((((List.length p1):Nat):Int)-(1:Int))).toNat) .nils))
 (cbr ((yaa (List.getD p1 ((IntKind.i64.wrap ((((List.length p1):Nat):Int)-(1:Int))).toNat) .nils)) != p0)
 (K (8:Int))
 (∃ n:Nat,ydG a0 a1
 (fun b=>(K b))
 (fun _ _ a _ _ _=>(a0 a (fun c =>
 (cbr (decide (c<(0:Int)))
 (K (8:Int))
 (a1 a (fun d =>
 (cbr (decide (d>(12:Int)))
 (K (8:Int))
 (a1 a (fun e =>
 (cbr (e ==(0:Int))
 (K (8:Int))
 (K (0:Int))))))))))))
 n p0 p1 p2 (IntKind.i64.wrap ((((List.length p1):Nat):Int)-(1:Int))) (0:Int))))))))))))))
def yas (p0:Int) (p1 p2:Ls) (K:Int→Prop):Prop:=yqT yd7 yd8 p0 p1 p2 K
def yex (w:yaF) (as:Ls) (K:PV→Prop):Prop :=
 match as with
 | [(.agg [(.int .i64 p0),(.data p1),(.data p2)])]=>w p0 p1 p2 (fun r0=>K (.int .i64 r0))
 | _=>False
def ywJ (as:Ls) (K:PV→Prop):Prop:=yex yas as K
def ygL (F:Frm) (H:Hp) (A0:Int→Ls→Ls→Int→Int→Prop):Prop :=
 match F,H with
 | [(1,.box (.agg [(.int .i64 i0),(.data l1),(.data l2)])),(49,.v (.int .i64 i3)),(50,.v (.int .i64 i4))],[]=>(A0 i0 l1 l2 i3 i4)
 | _,_=>False
def ymj (Q:Qx):Int→Prop:=(fun i0=>Q .ret [(2,.v (.int .i64 i0))] [])
def ymk (Q:Qx):Int→Ls→Ls→Int→Int→Bool→Prop:=(fun i0 l1 l2 i3 i4 b5=>Q (.exit 0) [(1,.box (.agg [(.int .i64 i0),(.data l1),(.data l2)])),(49,.v (.int .i64 i3)),(50,.v (.int .i64 i4)),(51,.v (.bool b5))] [])
def ykZ (a0:yfV) (a1:yfW) (Q:Qx) (n:Nat) (F:Frm) (H:Hp):Prop:=ygL F H (fun i0 l1 l2 i3 i4=>ydG a0 a1 (ymj Q) (ymk Q) n i0 l1 l2 i3 i4)
def ymN (a0:yfV) (a1:yfW):LP:=fun id F H Q =>
 bif Nat.beq id 87419700 then ygL F H (fun i0 l1 l2 i3 i4=>∃ n:Nat,ydG a0 a1 (ymj Q) (ymk Q) n i0 l1 l2 i3 i4) else
 False
def yqU (e:Es) (a0:yfV) (a1:yfW):SE:=⟨(E e),yaK [(yhv,yme a0),(yfT,ymh a1)],yaL [],ymN a0 a1⟩
theorem yuc (e:Es) (he:EG e):SEOk (yqU e yd7 yd8):=yat ⟨(yA4 e he),(yA6 e he),trivial⟩ trivial he.ok
theorem yv1 (e:Es) (a0 a1 Q n i0 l1 l2 i3 i4):WC (E e) (ybd (yqU e a0 a1) 5) (ymN a0 a1) yo8 [(1,.box (.agg [(.int .i64 i0),(.data l1),(.data l2)])),(49,.v (.int .i64 i3)),(50,.v (.int .i64 i4))] [] (exQ (ykZ a0 a1 Q n) Q)=ydG a0 a1 (ymj Q) (ymk Q) (n+1) i0 l1 l2 i3 i4:=by kernel_rfl
theorem yA7 (e:Es) (_:EG e):LpOk (E e) (ymN yd7 yd8) yo8:=(yai (by kernel_rfl))
theorem yzf (e:Es) (he:EG e):∀ F H Q,ymN yd7 yd8 87419700 F H Q→ycr (E e) yo8 F H Q:=by
 intro F H Q h
 have go:=ycr.intro (yaG (yuc e he) 5) (yA7 e he) (ykZ yd7 yd8 Q) (by intro F H h;unfold ykZ ygL at h;split at h <;> exact h) (by intro n F H h;unfold ykZ ygL at h;split at h;exact (yv1 ..).mpr h;exact h.elim)
 have h:ygL F H _:=h
 unfold ygL at h
 split at h
 ·obtain ⟨n,h⟩:=h;exact go n _ _ h
 ·exact h.elim
theorem yF0 (e:Es) (a0 a1 p0 p1 p2 K):WP (yqU e a0 a1) 6 yIc [(.agg [(.int .i64 p0),(.data p1),(.data p2)])] K=yqT a0 a1 p0 p1 p2 (fun r0=>K (.int .i64 r0)):=by kernel_rfl
theorem yfp (e:Es) (he:EG e):OkF (E e) ywJ ycb:=by
 intro as K h
 unfold ywJ yex at h
 split at h
 ·exact ya6 (yuc e he) (ybg (l:=[(87419700,yo8)]) ⟨yzf e he,trivial⟩ (by kernel_rfl)) (by kernel_rfl) (by kernel_rfl) (fun _=>yab (by kernel_rfl) _) (he.num _ (by kernel_rfl)) ((yF0 ..).mpr h)
 ·exact h.elim
abbrev yav:Type:=Int→Ls→Ls→(Int→Int→Prop)→Prop
def ydH (a0:yaF) (x0:Int→Ls→Ls→Int→Ls→Int→Int→Bool→Prop):Nat→Int→Ls→Ls→Int→Ls→Int→Int→Prop
 | 0,_,_,_,_,_,_,_=>False
 | n+1,i0,l1,l2,i3,l4,i5,i6 =>
 (cbr (decide (i6<i5))
 (asr (decide ((0:Int)≤i6))
 (asr (decide (i6<(((List.length l4):Nat):Int)))
 (asr (conf (.one (.i .i64)) (List.getD l4 (i6.toNat) .nils))
 (asr (decide ((0:Int)≤(IntKind.i64.wrap (i6+(1:Int)))))
 (asr (decide ((IntKind.i64.wrap (i6+(1:Int)))<(((List.length l1):Nat):Int)))
 (asr (conf (.one (.i .i64)) (List.getD l1 ((IntKind.i64.wrap (i6+(1:Int))).toNat) .nils))
 (asr (decide ((0:Int)≤i6))
 (asr (decide (i6<(((List.length l1):Nat):Int)))
 (asr (conf (.one (.i .i64)) (List.getD l1 (i6.toNat) .nils))
 (ydH a0 x0 n i0 l1 l2 (IntKind.i64.wrap (i3+(IntKind.i64.wrap ((yaa (List.getD l4 (i6.toNat) .nils))*(IntKind.i64.wrap ((yaa (List.getD l1 ((IntKind.i64.wrap (i6+(1:Int))).toNat) .nils))-(yaa (List.getD l1 (i6.toNat) .nils)))))))) l4 i5 (IntKind.i64.wrap (i6+(1:Int)))))))))))))
 (x0 i0 l1 l2 i3 l4 i5 i6 false))
def ymO (a0:yaF) (p0:Int) (p1 p2:Ls) (K:Int→Int→Prop):Prop :=
 (a0 p0 p1 p2 (fun a =>
 (cbr (a !=(0:Int))
 (K (0:Int) a)
 (∃ n:Nat,ydH a0
 (fun _ _ _ b _ _ _ _=>(K b (0:Int)))
 n p0 p1 p2 (0:Int) p2 (((List.length p2):Nat):Int) (0:Int)))))
def yae (p0:Int) (p1 p2:Ls) (K:Int→Int→Prop):Prop:=ymO yas p0 p1 p2 K
def yey (w:yav) (as:Ls) (K:PV→Prop):Prop :=
 match as with
 | [(.agg [(.int .i64 p0),(.data p1),(.data p2)])]=>w p0 p1 p2 (fun r0 r1=>K (.tup [(.int .i64 r0),(.int .i64 r1)]))
 | _=>False
def ywK (as:Ls) (K:PV→Prop):Prop:=yey yae as K
def ygM (F:Frm) (H:Hp) (A0:Int→Ls→Ls→Int→Ls→Int→Int→Prop):Prop :=
 match F,H with
 | [(1,.box (.agg [(.int .i64 i0),(.data l1),(.data l2)])),(5,.v (.int .i64 i3)),(14,.v (.data l4)),(15,.v (.int .i64 i5)),(16,.v (.int .i64 i6))],[]=>(A0 i0 l1 l2 i3 l4 i5 i6)
 | _,_=>False
def yml (Q:Qx):Int→Ls→Ls→Int→Ls→Int→Int→Bool→Prop:=(fun i0 l1 l2 i3 l4 i5 i6 b7=>Q (.exit 0) [(1,.box (.agg [(.int .i64 i0),(.data l1),(.data l2)])),(5,.v (.int .i64 i3)),(14,.v (.data l4)),(15,.v (.int .i64 i5)),(16,.v (.int .i64 i6)),(17,.v (.bool b7))] [])
def yk0 (a0:yaF) (Q:Qx) (n:Nat) (F:Frm) (H:Hp):Prop:=ygM F H (fun i0 l1 l2 i3 l4 i5 i6=>ydH a0 (yml Q) n i0 l1 l2 i3 l4 i5 i6)
def ymP (a0:yaF):LP:=fun id F H Q =>
 bif Nat.beq id 45203600 then ygM F H (fun i0 l1 l2 i3 l4 i5 i6=>∃ n:Nat,ydH a0 (yml Q) n i0 l1 l2 i3 l4 i5 i6) else
 False
def yqV (e:Es) (a0:yaF):SE:=⟨(E e),yaK [(ycb,yex a0)],yaL [],ymP a0⟩
theorem yud (e:Es) (he:EG e):SEOk (yqV e yas):=yat ⟨(yfp e he),trivial⟩ trivial he.ok
theorem yv2 (e:Es) (a0 Q n i0 l1 l2 i3 l4 i5 i6):WC (E e) (ybd (yqV e a0) 5) (ymP a0) ypb [(1,.box (.agg [(.int .i64 i0),(.data l1),(.data l2)])),(5,.v (.int .i64 i3)),(14,.v (.data l4)),(15,.v (.int .i64 i5)),(16,.v (.int .i64 i6))] [] (exQ (yk0 a0 Q n) Q)=ydH a0 (yml Q) (n+1) i0 l1 l2 i3 l4 i5 i6:=by kernel_rfl
theorem yA8 (e:Es) (_:EG e):LpOk (E e) (ymP yas) ypb:=(yai (by kernel_rfl))
theorem yzg (e:Es) (he:EG e):∀ F H Q,ymP yas 45203600 F H Q→ycr (E e) ypb F H Q:=by
 intro F H Q h
 have go:=ycr.intro (yaG (yud e he) 5) (yA8 e he) (yk0 yas Q) (by intro F H h;unfold yk0 ygM at h;split at h <;> exact h) (by intro n F H h;unfold yk0 ygM at h;split at h;exact (yv2 ..).mpr h;exact h.elim)
 have h:ygM F H _:=h
 unfold ygM at h
 split at h
 ·obtain ⟨n,h⟩:=h;exact go n _ _ h
 ·exact h.elim
theorem yF1 (e:Es) (a0 p0 p1 p2 K):WP (yqV e a0) 6 yIe [(.agg [(.int .i64 p0),(.data p1),(.data p2)])] K=ymO a0 p0 p1 p2 (fun r0 r1=>K (.tup [(.int .i64 r0),(.int .i64 r1)])):=by kernel_rfl
theorem yfq (e:Es) (he:EG e):OkF (E e) ywK ycZ:=by
 intro as K h
 unfold ywK yey at h
 split at h
 ·exact ya6 (yud e he) (ybg (l:=[(45203600,ypb)]) ⟨yzg e he,trivial⟩ (by kernel_rfl)) (by kernel_rfl) (by kernel_rfl) (fun _=>yab (by kernel_rfl) _) (he.num _ (by kernel_rfl)) ((yF1 ..).mpr h)
 ·exact h.elim
abbrev yco:Type:=Int→(Int→Int→Prop)→Prop
def ywL (p0:Int) (K:Int→Int→Prop):Prop :=
 (K p0 (1:Int))
def ybQ (p0:Int) (K:Int→Int→Prop):Prop:=ywL p0 K
def yhJ (w:yco) (as:Ls) (K:PV→Prop):Prop :=
 match as with
 | [(.int .i64 p0)]=>w p0 (fun r0 r1=>K (.agg [(.int .i64 r0),(.int .i64 r1)]))
 | _=>False
def ywM (as:Ls) (K:PV→Prop):Prop:=yhJ ybQ as K
def yF2:LP:=fun _ _ _ _ =>
 False
def ywN (e:Es):SE:=⟨(E e),yaK [],yaL [],yF2⟩
theorem yEh (e:Es) (he:EG e):SEOk (ywN e):=yat trivial trivial he.ok
theorem yF3 (e:Es) ( p0 K):WP (ywN e) 6 yIi [(.int .i64 p0)] K=ywL p0 (fun r0 r1=>K (.agg [(.int .i64 r0),(.int .i64 r1)])):=by kernel_rfl
theorem ymQ (e:Es) (he:EG e):OkF (E e) ywM ycm:=by
 intro as K h
 unfold ywM yhJ at h
 split at h
 ·exact ya6 (yEh e he) (yai (by kernel_rfl)) (by kernel_rfl) (by kernel_rfl) (fun _=>yab (by kernel_rfl) _) (he.num _ (by kernel_rfl)) ((yF3 ..).mpr h)
 ·exact h.elim
abbrev ycP:Type:=Int→Int→Int→Int→(Bool→Prop)→Prop
def ysq (a0:ybO) (p0 p1 p2 p3:Int) (K:Bool→Prop):Prop :=
 (a0 p0 p1 p2 p3 (fun a _ =>
 (K (decide (a<(0:Int))))))
def ybX (p0 p1 p2 p3:Int) (K:Bool→Prop):Prop:=ysq ybW p0 p1 p2 p3 K
def yiT (w:ycP) (as:Ls) (K:PV→Prop):Prop :=
 match as with
 | [(.agg [(.int .i64 p0),(.int .i64 p1)]),(.agg [(.int .i64 p2),(.int .i64 p3)])]=>w p0 p1 p2 p3 (fun r0=>K (.bool r0))
 | _=>False
def yzh (as:Ls) (K:PV→Prop):Prop:=yiT ybX as K
def yIB (_:ybO):LP:=fun _ _ _ _ =>
 False
def yzi (e:Es) (a0:ybO):SE:=⟨(E e),yaK [(ycM,ygd a0)],yaL [],yIB a0⟩
theorem yF4 (e:Es) (he:EG e):SEOk (yzi e ybW):=yat ⟨(yhf e he),trivial⟩ trivial he.ok
theorem yIC (e:Es) (a0 p0 p1 p2 p3 K):WP (yzi e a0) 6 yKa [(.agg [(.int .i64 p0),(.int .i64 p1)]),(.agg [(.int .i64 p2),(.int .i64 p3)])] K=ysq a0 p0 p1 p2 p3 (fun r0=>K (.bool r0)):=by kernel_rfl
theorem yoj (e:Es) (he:EG e):OkF (E e) yzh ydd:=by
 intro as K h
 unfold yzh yiT at h
 split at h
 ·exact ya6 (yF4 e he) (yai (by kernel_rfl)) (by kernel_rfl) (by kernel_rfl) (fun _=>yab (by kernel_rfl) _) (he.num _ (by kernel_rfl)) ((yIC ..).mpr h)
 ·exact h.elim
abbrev ydq:Type:=Int→Ls→Ls→Int→Int→(Bool→Prop)→Prop
def yqW (a0:ycy) (a1:yco) (a2:ycP) (p0:Int) (_ _:Ls) (p3 p4:Int) (K:Bool→Prop):Prop :=
 (a0 p3 p4 (fun a =>
 (cbr (a ==(0:Int))
 (cbr (decide (p3≥(0:Int)))
 (a1 p0 (fun b c =>
 (a2 b c p3 p4 (fun d =>
 (K (!d))))))
 (K false))
 (K false))))
def ycd (p0:Int) (p1 p2:Ls) (p3 p4:Int) (K:Bool→Prop):Prop:=yqW yby ybQ ybX p0 p1 p2 p3 p4 K
def yjK (w:ydq) (as:Ls) (K:PV→Prop):Prop :=
 match as with
 | [(.agg [(.int .i64 p0),(.data p1),(.data p2)]),(.agg [(.int .i64 p3),(.int .i64 p4)])]=>w p0 p1 p2 p3 p4 (fun r0=>K (.bool r0))
 | _=>False
def ywO (as:Ls) (K:PV→Prop):Prop:=yjK ycd as K
def yF5 (_:ycy) (_:yco) (_:ycP):LP:=fun _ _ _ _ =>
 False
def ywP (e:Es) (a0:ycy) (a1:yco) (a2:ycP):SE:=⟨(E e),yaK [(ydm,ygJ a0),(ycm,yhJ a1),(ydd,yiT a2)],yaL [],yF5 a0 a1 a2⟩
theorem yEi (e:Es) (he:EG e):SEOk (ywP e yby ybQ ybX):=yat ⟨(yim e he),(ymQ e he),(yoj e he),trivial⟩ trivial he.ok
theorem yF6 (e:Es) (a0 a1 a2 p0 p1 p2 p3 p4 K):WP (ywP e a0 a1 a2) 6 yIk [(.agg [(.int .i64 p0),(.data p1),(.data p2)]),(.agg [(.int .i64 p3),(.int .i64 p4)])] K=yqW a0 a1 a2 p0 p1 p2 p3 p4 (fun r0=>K (.bool r0)):=by kernel_rfl
theorem yqX (e:Es) (he:EG e):OkF (E e) ywO yfj:=by
 intro as K h
 unfold ywO yjK at h
 split at h
 ·exact ya6 (yEi e he) (yai (by kernel_rfl)) (by kernel_rfl) (by kernel_rfl) (fun _=>yab (by kernel_rfl) _) (he.num _ (by kernel_rfl)) ((yF6 ..).mpr h)
 ·exact h.elim
abbrev yqo:Type:=Int→Ls→Ls→Int→Int→Int→Int→(Int→Int→Int→Prop)→Prop
def ybD (a0:yaF) (a1:ydq) (a2:ycy) (a3:yco) (a4:ycP) (a5:yd6) (a6:ycO) (a7:yaO) (a8:ybz) (x0:Int→Int→Int→Int→Int→Int→Prop) (x1:Int→Int→Int→Int→Int→Int→Ls→Ls→Int→Int→Ls→Int→Int→Bool→Prop):Nat→Int→Int→Int→Int→Int→Int→Ls→Ls→Int→Int→Ls→Int→Int→Prop
 | 0,_,_,_,_,_,_,_,_,_,_,_,_,_=>False
 | n+1,i0,i1,i2,i3,i4,i5,l6,l7,i8,i9,l10,i11,i12 =>
 (cbr (decide (i12<i11))
 (asr (decide ((0:Int)≤i12))
 (asr (decide (i12<(((List.length l10):Nat):Int)))
 (asr (conf (.one (.i .i64)) (List.getD l10 (i12.toNat) .nils))
 (asr (decide ((0:Int)≤(IntKind.i64.wrap (i12+(1:Int)))))
 (asr (decide ((IntKind.i64.wrap (i12+(1:Int)))<(((List.length l6):Nat):Int)))
 (asr (conf (.one (.i .i64)) (List.getD l6 ((IntKind.i64.wrap (i12+(1:Int))).toNat) .nils))
 (a3 (yaa (List.getD l6 ((IntKind.i64.wrap (i12+(1:Int))).toNat) .nils)) (fun a b =>
 (a4 i8 i9 a b (fun s =>
 (cbr (!s)
 (ybD a0 a1 a2 a3 a4 a5 a6 a7 a8 x0 x1 n i0 i1 i2 i3 i4 i5 l6 l7 i8 i9 l10 i11 (IntKind.i64.wrap (i12+(1:Int))))
 (a3 (0:Int) (fun j k =>
 (cbr (decide ((yaa (List.getD l10 (i12.toNat) .nils))>(0:Int)))
 (a5 a b i8 i9 (fun t u l =>
 (cbr (l !=(0:Int))
 (x0 i0 i1 i2 i3 i4 l)
 (a3 (yaa (List.getD l10 (i12.toNat) .nils)) (fun v w =>
 (a6 t u v w (fun m o p =>
 (cbr (p !=(0:Int))
 (x0 i0 i1 i2 i3 i4 p)
 (cbr ((yaa (List.getD l10 (i12.toNat) .nils)) ==(0:Int))
 (ybD a0 a1 a2 a3 a4 a5 a6 a7 a8 x0 x1 n i0 i1 i2 i3 i4 i5 l6 l7 a b l10 i11 (IntKind.i64.wrap (i12+(1:Int))))
 (a4 m o i0 i1 (fun x =>
 (cbr x
 (a5 i0 i1 m o (fun e f c =>
 (cbr (c !=(0:Int))
 (cbr (c !=(0:Int))
 (x0 e f i2 i3 c (0:Int))
 (ybD a0 a1 a2 a3 a4 a5 a6 a7 a8 x0 x1 n e f i2 i3 c i5 l6 l7 a b l10 i11 (IntKind.i64.wrap (i12+(1:Int)))))
 (cbr (c !=(0:Int))
 (x0 e f i2 i3 (6:Int) (0:Int))
 (ybD a0 a1 a2 a3 a4 a5 a6 a7 a8 x0 x1 n e f i2 i3 (6:Int) i5 l6 l7 a b l10 i11 (IntKind.i64.wrap (i12+(1:Int))))))))
 (a3 (yaa (List.getD l10 (i12.toNat) .nils)) (fun y z =>
 (a7 i0 i1 y z (fun A B q =>
 (cbr (q ==(0:Int))
 (a8 i8 i9 A B (fun C D E =>
 (x0 i0 i1 C D E (0:Int))))
 (x0 i0 i1 i2 i3 q (0:Int)))))))))))))))))))
 (cbr ((yaa (List.getD l10 (i12.toNat) .nils)) ==(0:Int))
 (ybD a0 a1 a2 a3 a4 a5 a6 a7 a8 x0 x1 n i0 i1 i2 i3 i4 i5 l6 l7 a b l10 i11 (IntKind.i64.wrap (i12+(1:Int))))
 (a4 j k i0 i1 (fun F =>
 (cbr F
 (a5 i0 i1 j k (fun g h d =>
 (cbr (d !=(0:Int))
 (cbr (d !=(0:Int))
 (x0 g h i2 i3 d (0:Int))
 (ybD a0 a1 a2 a3 a4 a5 a6 a7 a8 x0 x1 n g h i2 i3 d i5 l6 l7 a b l10 i11 (IntKind.i64.wrap (i12+(1:Int)))))
 (cbr (d !=(0:Int))
 (x0 g h i2 i3 (6:Int) (0:Int))
 (ybD a0 a1 a2 a3 a4 a5 a6 a7 a8 x0 x1 n g h i2 i3 (6:Int) i5 l6 l7 a b l10 i11 (IntKind.i64.wrap (i12+(1:Int))))))))
 (a3 (yaa (List.getD l10 (i12.toNat) .nils)) (fun G H =>
 (a7 i0 i1 G H (fun I J r =>
 (cbr (r ==(0:Int))
 (a8 i8 i9 I J (fun K L M =>
 (x0 i0 i1 K L M (0:Int))))
 (x0 i0 i1 i2 i3 r (0:Int)))))))))))))))))))))))))
 (x1 i0 i1 i2 i3 i4 i5 l6 l7 i8 i9 l10 i11 i12 false))
def ysr (a0:yaF) (a1:ydq) (a2:ycy) (a3:yco) (a4:ycP) (a5:yd6) (a6:ycO) (a7:yaO) (a8:ybz) (p0:Int) (p1 p2:Ls) (p3 p4 p5 p6:Int) (K:Int→Int→Int→Prop):Prop :=
 (a0 p0 p1 p2 (fun b =>
 (cbr (b !=(0:Int))
 (K (0:Int) (0:Int) b)
 (a1 p0 p1 p2 p3 p4 (fun g =>
 (cbr (!g)
 (K (0:Int) (0:Int) (2:Int))
 (a2 p5 p6 (fun h =>
 (cbr (h !=(0:Int))
 (K (0:Int) (0:Int) (2:Int))
 (cbr (decide (p5<(0:Int)))
 (K (0:Int) (0:Int) (2:Int))
 (cbr (p5 ==(0:Int))
 (K p3 p4 (0:Int))
 (∃ n:Nat,ybD a0 a1 a2 a3 a4 a5 a6 a7 a8
 (fun _ _ c d e a=>(cbr (a !=(0:Int))
 (cbr (a !=(0:Int))
 (K (0:Int) (0:Int) a)
 (K c d (0:Int)))
 (cbr (e !=(0:Int))
 (K (0:Int) (0:Int) e)
 (K c d (0:Int)))))
 (fun _ _ i j f _ _ _ _ _ _ _ _ _=>(cbr (f !=(0:Int))
 (K (0:Int) (0:Int) f)
 (K i j (0:Int))))
 n p5 p6 (0:Int) (0:Int) (6:Int) p0 p1 p2 p3 p4 p2 (((List.length p2):Nat):Int) (0:Int)))))))))))))
def yiq (p0:Int) (p1 p2:Ls) (p3 p4 p5 p6:Int) (K:Int→Int→Int→Prop):Prop:=ysr yas ycd yby ybQ ybX ybP ybA yaz yaH p0 p1 p2 p3 p4 p5 p6 K
def yss (w:yqo) (as:Ls) (K:PV→Prop):Prop :=
 match as with
 | [(.agg [(.int .i64 p0),(.data p1),(.data p2)]),(.agg [(.int .i64 p3),(.int .i64 p4)]),(.agg [(.int .i64 p5),(.int .i64 p6)])]=>w p0 p1 p2 p3 p4 p5 p6 (fun r0 r1 r2=>K (.tup [(.agg [(.int .i64 r0),(.int .i64 r1)]),(.int .i64 r2)]))
 | _=>False
def yzj (as:Ls) (K:PV→Prop):Prop:=yss yiq as K
def yhK (F:Frm) (H:Hp) (A0:Int→Int→Int→Int→Int→Int→Ls→Ls→Int→Int→Ls→Int→Int→Prop):Prop :=
 match F,H with
 | [(2,.v (.fn (.func q0) [] [(.ptr 0 1 0 0),(.ptr 2 1 0 0),(.ptr 1 1 0 0)])),(3,.box (.agg [(.int .i64 i5),(.data l6),(.data l7)])),(4,.box (.agg [(.int .i64 i8),(.int .i64 i9)])),(14,.v (.data l10)),(15,.v (.int .i64 i11)),(16,.v (.int .i64 i12))],[⟨false,true,2,[(.agg [(.int .i64 i0),(.int .i64 i1)])]⟩,⟨false,true,2,[(.agg [(.int .i64 i2),(.int .i64 i3)])]⟩,⟨false,true,1,[(.int .i64 i4)]⟩]=>asr (Nat.beq q0 ygi) (A0 i0 i1 i2 i3 i4 i5 l6 l7 i8 i9 l10 i11 i12)
 | _,_=>False
def ynB (Q:Qx):Int→Int→Int→Int→Int→Int→Prop:=(fun i0 i1 i2 i3 i4 i5=>Q .ret [(6,.v (.int .i64 i5))] [⟨false,true,2,([(.agg [(.int .i64 i0),(.int .i64 i1)])]:Ls)⟩,⟨false,true,2,([(.agg [(.int .i64 i2),(.int .i64 i3)])]:Ls)⟩,⟨false,true,1,([(.int .i64 i4)]:Ls)⟩])
def ynC (Q:Qx):Int→Int→Int→Int→Int→Int→Ls→Ls→Int→Int→Ls→Int→Int→Bool→Prop:=(fun i0 i1 i2 i3 i4 i5 l6 l7 i8 i9 l10 i11 i12 b13=>Q (.exit 0) [(2,.v (.fn (.func ygi) [] [(.ptr 0 1 0 0),(.ptr 2 1 0 0),(.ptr 1 1 0 0)])),(3,.box (.agg [(.int .i64 i5),(.data l6),(.data l7)])),(4,.box (.agg [(.int .i64 i8),(.int .i64 i9)])),(14,.v (.data l10)),(15,.v (.int .i64 i11)),(16,.v (.int .i64 i12)),(17,.v (.bool b13))] [⟨false,true,2,([(.agg [(.int .i64 i0),(.int .i64 i1)])]:Ls)⟩,⟨false,true,2,([(.agg [(.int .i64 i2),(.int .i64 i3)])]:Ls)⟩,⟨false,true,1,([(.int .i64 i4)]:Ls)⟩])
def ymR (a0:yaF) (a1:ydq) (a2:ycy) (a3:yco) (a4:ycP) (a5:yd6) (a6:ycO) (a7:yaO) (a8:ybz) (Q:Qx) (n:Nat) (F:Frm) (H:Hp):Prop:=yhK F H (fun i0 i1 i2 i3 i4 i5 l6 l7 i8 i9 l10 i11 i12=>ybD a0 a1 a2 a3 a4 a5 a6 a7 a8 (ynB Q) (ynC Q) n i0 i1 i2 i3 i4 i5 l6 l7 i8 i9 l10 i11 i12)
def yk1 (a0:yaF) (a1:ydq) (a2:ycy) (a3:yco) (a4:ycP) (a5:yd6) (a6:ycO) (a7:yaO) (a8:ybz):LP:=fun id F H Q =>
 bif Nat.beq id 41613500 then yhK F H (fun i0 i1 i2 i3 i4 i5 l6 l7 i8 i9 l10 i11 i12=>∃ n:Nat,ybD a0 a1 a2 a3 a4 a5 a6 a7 a8 (ynB Q) (ynC Q) n i0 i1 i2 i3 i4 i5 l6 l7 i8 i9 l10 i11 i12) else
 False
def yzk (e:Es) (a0:yaF) (a1:ydq) (a2:ycy) (a3:yco) (a4:ycP) (a5:yd6) (a6:ycO) (a7:yaO) (a8:ybz):SE:=⟨(E e),yaK [(ycb,yex a0),(yfj,yjK a1),(ydm,ygJ a2),(ycm,yhJ a3),(ydd,yiT a4),(ydC,ykX a5),(yd4,yiQ a6),(yd5,ygf a7),(yde,yge a8)],yaL [(ygi,ywB)],yk1 a0 a1 a2 a3 a4 a5 a6 a7 a8⟩
def yzl (e:Es) (a0:yaF) (a1:ydq) (a2:ycy) (a3:yco) (a4:ycP) (a5:yd6) (a6:ycO) (a7:yaO) (a8:ybz):SE:=⟨(E e),yaK [(ycb,yex a0),(yfj,yjK a1),(ydm,ygJ a2),(ycm,yhJ a3),(ydd,yiT a4),(ydC,ykX a5),(yd4,yiQ a6),(yd5,ygf a7),(yde,yge a8)],yaL [(ytT,yKf),(ygi,ywB)],yk1 a0 a1 a2 a3 a4 a5 a6 a7 a8⟩
theorem yF7 (e:Es) (he:EG e):SEOk (yzk e yas ycd yby ybQ ybX ybP ybA yaz yaH):=yat ⟨(yfp e he),(yqX e he),(yim e he),(ymQ e he),(yoj e he),(yoi e he),(ykY e he),(yhi e he),(yhh e he),trivial⟩ ⟨⟨by kernel_rfl,by kernel_rfl,rfl,fun as=>yab (by kernel_rfl) as,he.num _ (by kernel_rfl),(yai (by kernel_rfl))⟩,trivial⟩ he.ok
theorem yxO (e:Es) (a0 a1 a2 a3 a4 a5 a6 a7 a8 Q n i0 i1 i2 i3 i4 i5 l6 l7 i8 i9 l10 i11 i12):WC (E e) (ybd (yzk e a0 a1 a2 a3 a4 a5 a6 a7 a8) 5) (yk1 a0 a1 a2 a3 a4 a5 a6 a7 a8) ypf [(2,.v (.fn (.func ygi) [] [(.ptr 0 1 0 0),(.ptr 2 1 0 0),(.ptr 1 1 0 0)])),(3,.box (.agg [(.int .i64 i5),(.data l6),(.data l7)])),(4,.box (.agg [(.int .i64 i8),(.int .i64 i9)])),(14,.v (.data l10)),(15,.v (.int .i64 i11)),(16,.v (.int .i64 i12))] [⟨false,true,2,([(.agg [(.int .i64 i0),(.int .i64 i1)])]:Ls)⟩,⟨false,true,2,([(.agg [(.int .i64 i2),(.int .i64 i3)])]:Ls)⟩,⟨false,true,1,([(.int .i64 i4)]:Ls)⟩] (exQ (ymR a0 a1 a2 a3 a4 a5 a6 a7 a8 Q n) Q)=ybD a0 a1 a2 a3 a4 a5 a6 a7 a8 (ynB Q) (ynC Q) (n+1) i0 i1 i2 i3 i4 i5 l6 l7 i8 i9 l10 i11 i12:=by kernel_rfl
theorem yCv (e:Es) (_:EG e):LpOk (E e) (yk1 yas ycd yby ybQ ybX ybP ybA yaz yaH) ypf:=(yai (by kernel_rfl))
theorem yA9 (e:Es) (he:EG e):∀ F H Q,yk1 yas ycd yby ybQ ybX ybP ybA yaz yaH 41613500 F H Q→ycr (E e) ypf F H Q:=by
 intro F H Q h
 have go:=ycr.intro (yaG (yF7 e he) 5) (yCv e he) (ymR yas ycd yby ybQ ybX ybP ybA yaz yaH Q) (by
  intro F H h
  unfold ymR yhK at h
  split at h
  ·obtain ⟨hg,k⟩:=yah.1 h
   clear h
   have h:=k
   clear k
   try simp only [qAc,decide_eq_true_eq] at hg
   have g0:=hg;have g0:=qAg g0;subst g0;exact h
  ·exact h) (by
  intro n F H h
  unfold ymR yhK at h
  split at h
  ·obtain ⟨hg,k⟩:=yah.1 h
   clear h
   have h:=k
   clear k
   try simp only [qAc,decide_eq_true_eq] at hg
   have g0:=hg;have g0:=qAg g0;subst g0;exact (yxO ..).mpr h
  ·exact h.elim)
 have h:yhK F H _:=h
 unfold yhK at h
 split at h
 ·obtain ⟨hg,n,h⟩:=yah.1 h;exact go n _ _ (yah.2 ⟨hg,h⟩)
 ·exact h.elim
theorem yF8 (e:Es) (he:EG e):SEOk (yzl e yas ycd yby ybQ ybX ybP ybA yaz yaH):=yat ⟨(yfp e he),(yqX e he),(yim e he),(ymQ e he),(yoj e he),(yoi e he),(ykY e he),(yhi e he),(yhh e he),trivial⟩ ⟨⟨by kernel_rfl,by kernel_rfl,rfl,fun as=>yab (by kernel_rfl) as,he.num _ (by kernel_rfl),(ybg (l:=[(41613500,ypf)]) ⟨yA9 e he,trivial⟩ (by kernel_rfl))⟩,⟨by kernel_rfl,by kernel_rfl,rfl,fun as=>yab (by kernel_rfl) as,he.num _ (by kernel_rfl),(yai (by kernel_rfl))⟩,trivial⟩ he.ok
theorem yID (e:Es) (a0 a1 a2 a3 a4 a5 a6 a7 a8 p0 p1 p2 p3 p4 p5 p6 K):WP (yzl e a0 a1 a2 a3 a4 a5 a6 a7 a8) 6 yKg [(.agg [(.int .i64 p0),(.data p1),(.data p2)]),(.agg [(.int .i64 p3),(.int .i64 p4)]),(.agg [(.int .i64 p5),(.int .i64 p6)])] K=ysr a0 a1 a2 a3 a4 a5 a6 a7 a8 p0 p1 p2 p3 p4 p5 p6 (fun r0 r1 r2=>K (.tup [(.agg [(.int .i64 r0),(.int .i64 r1)]),(.int .i64 r2)])):=by kernel_rfl
theorem yzm (e:Es) (he:EG e):OkF (E e) yzj yii:=by
 intro as K h
 unfold yzj yss at h
 split at h
 ·exact ya6 (yF8 e he) (yai (by kernel_rfl)) (by kernel_rfl) (by kernel_rfl) (fun _=>yab (by kernel_rfl) _) (he.num _ (by kernel_rfl)) ((yID ..).mpr h)
 ·exact h.elim
abbrev yez:Type:=Int→Ls→Ls→Int→Int→Int→Int→(Int→Int→Int→Prop)→Prop
def ya4 (a0:yaF) (a1:ydq) (a2:ycP) (a3:yco) (a4:yd6) (a5:ycO) (a6:ybz) (x0:Int→Int→Int→Prop) (x1:Int→Ls→Ls→Int→Int→Int→Int→Int→Int→Int→Int→Ls→Int→Int→Bool→Prop):Nat→Int→Ls→Ls→Int→Int→Int→Int→Int→Int→Int→Int→Ls→Int→Int→Prop
 | 0,_,_,_,_,_,_,_,_,_,_,_,_,_,_=>False
 | n+1,i0,l1,l2,i3,i4,i5,i6,i7,i8,i9,i10,l11,i12,i13 =>
 (cbr (decide (i13<i12))
 (asr (decide ((0:Int)≤i13))
 (asr (decide (i13<(((List.length l11):Nat):Int)))
 (asr (conf (.one (.i .i64)) (List.getD l11 (i13.toNat) .nils))
 (asr (decide ((0:Int)≤(IntKind.i64.wrap (i13+(1:Int)))))
 (asr (decide ((IntKind.i64.wrap (i13+(1:Int)))<(((List.length l1):Nat):Int)))
 (asr (conf (.one (.i .i64)) (List.getD l1 ((IntKind.i64.wrap (i13+(1:Int))).toNat) .nils))
 (a3 (yaa (List.getD l1 ((IntKind.i64.wrap (i13+(1:Int))).toNat) .nils)) (fun a b =>
 (a2 i3 i4 a b (fun j =>
 (cbr j
 (cbr ((yaa (List.getD l11 (i13.toNat) .nils)) ==(0:Int))
 (a2 i9 i10 i3 i4 (fun k =>
 (cbr k
 (ya4 a0 a1 a2 a3 a4 a5 a6 x0 x1 n i0 l1 l2 i3 i4 i5 i6 i7 i8 i3 i4 l11 i12 (IntKind.i64.wrap (i13+(1:Int))))
 (ya4 a0 a1 a2 a3 a4 a5 a6 x0 x1 n i0 l1 l2 i3 i4 i5 i6 i7 i8 i9 i10 l11 i12 (IntKind.i64.wrap (i13+(1:Int)))))))
 (a2 i9 i10 i3 i4 (fun l =>
 (cbr (!l)
 (a2 i9 i10 i3 i4 (fun m =>
 (cbr m
 (ya4 a0 a1 a2 a3 a4 a5 a6 x0 x1 n i0 l1 l2 i3 i4 i5 i6 i7 i8 i3 i4 l11 i12 (IntKind.i64.wrap (i13+(1:Int))))
 (ya4 a0 a1 a2 a3 a4 a5 a6 x0 x1 n i0 l1 l2 i3 i4 i5 i6 i7 i8 i9 i10 l11 i12 (IntKind.i64.wrap (i13+(1:Int)))))))
 (a4 i3 i4 i9 i10 (fun o p c =>
 (cbr (c !=(0:Int))
 (x0 (0:Int) (0:Int) c)
 (a3 (yaa (List.getD l11 (i13.toNat) .nils)) (fun q r =>
 (a5 o p q r (fun s t d =>
 (cbr (d !=(0:Int))
 (x0 (0:Int) (0:Int) d)
 (a6 i7 i8 s t (fun u v e =>
 (cbr (e !=(0:Int))
 (x0 (0:Int) (0:Int) e)
 (ya4 a0 a1 a2 a3 a4 a5 a6 x0 x1 n i0 l1 l2 i3 i4 i5 i6 u v i3 i4 l11 i12 (IntKind.i64.wrap (i13+(1:Int)))))))))))))))))))
 (cbr ((yaa (List.getD l11 (i13.toNat) .nils)) ==(0:Int))
 (a2 i9 i10 a b (fun w =>
 (cbr w
 (ya4 a0 a1 a2 a3 a4 a5 a6 x0 x1 n i0 l1 l2 i3 i4 i5 i6 i7 i8 a b l11 i12 (IntKind.i64.wrap (i13+(1:Int))))
 (ya4 a0 a1 a2 a3 a4 a5 a6 x0 x1 n i0 l1 l2 i3 i4 i5 i6 i7 i8 i9 i10 l11 i12 (IntKind.i64.wrap (i13+(1:Int)))))))
 (a2 i9 i10 a b (fun x =>
 (cbr (!x)
 (a2 i9 i10 a b (fun y =>
 (cbr y
 (ya4 a0 a1 a2 a3 a4 a5 a6 x0 x1 n i0 l1 l2 i3 i4 i5 i6 i7 i8 a b l11 i12 (IntKind.i64.wrap (i13+(1:Int))))
 (ya4 a0 a1 a2 a3 a4 a5 a6 x0 x1 n i0 l1 l2 i3 i4 i5 i6 i7 i8 i9 i10 l11 i12 (IntKind.i64.wrap (i13+(1:Int)))))))
 (a4 a b i9 i10 (fun z A f =>
 (cbr (f !=(0:Int))
 (x0 (0:Int) (0:Int) f)
 (a3 (yaa (List.getD l11 (i13.toNat) .nils)) (fun B C =>
 (a5 z A B C (fun D E g =>
 (cbr (g !=(0:Int))
 (x0 (0:Int) (0:Int) g)
 (a6 i7 i8 D E (fun F G h =>
 (cbr (h !=(0:Int))
 (x0 (0:Int) (0:Int) h)
 (ya4 a0 a1 a2 a3 a4 a5 a6 x0 x1 n i0 l1 l2 i3 i4 i5 i6 F G a b l11 i12 (IntKind.i64.wrap (i13+(1:Int))))))))))))))))))))))))))))))
 (x1 i0 l1 l2 i3 i4 i5 i6 i7 i8 i9 i10 l11 i12 i13 false))
def yqY (a0:yaF) (a1:ydq) (a2:ycP) (a3:yco) (a4:yd6) (a5:ycO) (a6:ybz) (p0:Int) (p1 p2:Ls) (p3 p4 p5 p6:Int) (K:Int→Int→Int→Prop):Prop :=
 (a0 p0 p1 p2 (fun a =>
 (cbr (a !=(0:Int))
 (K (0:Int) (0:Int) a)
 (a1 p0 p1 p2 p3 p4 (fun b =>
 (cbr (!b)
 (K (0:Int) (0:Int) (2:Int))
 (a1 p0 p1 p2 p5 p6 (fun c =>
 (cbr (!c)
 (K (0:Int) (0:Int) (2:Int))
 (a2 p5 p6 p3 p4 (fun d =>
 (cbr d
 (K (0:Int) (0:Int) (2:Int))
 (a3 (0:Int) (fun e f =>
 (∃ n:Nat,ya4 a0 a1 a2 a3 a4 a5 a6
 (fun g h i=>(K g h i))
 (fun _ _ _ _ _ _ _ j k _ _ _ _ _ _=>(K j k (0:Int)))
 n p0 p1 p2 p5 p6 (0:Int) (0:Int) e f p3 p4 p2 (((List.length p2):Nat):Int) (0:Int))))))))))))))))
def ybw (p0:Int) (p1 p2:Ls) (p3 p4 p5 p6:Int) (K:Int→Int→Int→Prop):Prop:=yqY yas ycd ybX ybQ ybP ybA yaH p0 p1 p2 p3 p4 p5 p6 K
def yjL (w:yez) (as:Ls) (K:PV→Prop):Prop :=
 match as with
 | [(.agg [(.int .i64 p0),(.data p1),(.data p2)]),(.agg [(.int .i64 p3),(.int .i64 p4)]),(.agg [(.int .i64 p5),(.int .i64 p6)])]=>w p0 p1 p2 p3 p4 p5 p6 (fun r0 r1 r2=>K (.tup [(.agg [(.int .i64 r0),(.int .i64 r1)]),(.int .i64 r2)]))
 | _=>False
def ywQ (as:Ls) (K:PV→Prop):Prop:=yjL ybw as K
def ygN (F:Frm) (H:Hp) (A0:Int→Ls→Ls→Int→Int→Int→Int→Int→Int→Int→Int→Ls→Int→Int→Prop):Prop :=
 match F,H with
 | [(3,.box (.agg [(.int .i64 i0),(.data l1),(.data l2)])),(5,.box (.agg [(.int .i64 i3),(.int .i64 i4)])),(6,.box (.agg [(.int .i64 i5),(.int .i64 i6)])),(9,.box (.agg [(.int .i64 i7),(.int .i64 i8)])),(10,.box (.agg [(.int .i64 i9),(.int .i64 i10)])),(42,.v (.data l11)),(43,.v (.int .i64 i12)),(44,.v (.int .i64 i13))],[]=>(A0 i0 l1 l2 i3 i4 i5 i6 i7 i8 i9 i10 l11 i12 i13)
 | _,_=>False
def ymm (Q:Qx):Int→Int→Int→Prop:=(fun i0 i1 i2=>Q .ret [(6,.box (.agg [(.int .i64 i0),(.int .i64 i1)])),(7,.v (.int .i64 i2))] [])
def ymn (Q:Qx):Int→Ls→Ls→Int→Int→Int→Int→Int→Int→Int→Int→Ls→Int→Int→Bool→Prop:=(fun i0 l1 l2 i3 i4 i5 i6 i7 i8 i9 i10 l11 i12 i13 b14=>Q (.exit 0) [(3,.box (.agg [(.int .i64 i0),(.data l1),(.data l2)])),(5,.box (.agg [(.int .i64 i3),(.int .i64 i4)])),(6,.box (.agg [(.int .i64 i5),(.int .i64 i6)])),(9,.box (.agg [(.int .i64 i7),(.int .i64 i8)])),(10,.box (.agg [(.int .i64 i9),(.int .i64 i10)])),(42,.v (.data l11)),(43,.v (.int .i64 i12)),(44,.v (.int .i64 i13)),(45,.v (.bool b14))] [])
def yk2 (a0:yaF) (a1:ydq) (a2:ycP) (a3:yco) (a4:yd6) (a5:ycO) (a6:ybz) (Q:Qx) (n:Nat) (F:Frm) (H:Hp):Prop:=ygN F H (fun i0 l1 l2 i3 i4 i5 i6 i7 i8 i9 i10 l11 i12 i13=>ya4 a0 a1 a2 a3 a4 a5 a6 (ymm Q) (ymn Q) n i0 l1 l2 i3 i4 i5 i6 i7 i8 i9 i10 l11 i12 i13)
def ymS (a0:yaF) (a1:ydq) (a2:ycP) (a3:yco) (a4:yd6) (a5:ycO) (a6:ybz):LP:=fun id F H Q =>
 bif Nat.beq id 85339800 then ygN F H (fun i0 l1 l2 i3 i4 i5 i6 i7 i8 i9 i10 l11 i12 i13=>∃ n:Nat,ya4 a0 a1 a2 a3 a4 a5 a6 (ymm Q) (ymn Q) n i0 l1 l2 i3 i4 i5 i6 i7 i8 i9 i10 l11 i12 i13) else
 False
def yqZ (e:Es) (a0:yaF) (a1:ydq) (a2:ycP) (a3:yco) (a4:yd6) (a5:ycO) (a6:ybz):SE:=⟨(E e),yaK [(ycb,yex a0),(yfj,yjK a1),(ydd,yiT a2),(ycm,yhJ a3),(ydC,ykX a4),(yd4,yiQ a5),(yde,yge a6)],yaL [],ymS a0 a1 a2 a3 a4 a5 a6⟩
theorem yue (e:Es) (he:EG e):SEOk (yqZ e yas ycd ybX ybQ ybP ybA yaH):=yat ⟨(yfp e he),(yqX e he),(yoj e he),(ymQ e he),(yoi e he),(ykY e he),(yhh e he),trivial⟩ trivial he.ok
theorem yv3 (e:Es) (a0 a1 a2 a3 a4 a5 a6 Q n i0 l1 l2 i3 i4 i5 i6 i7 i8 i9 i10 l11 i12 i13):WC (E e) (ybd (yqZ e a0 a1 a2 a3 a4 a5 a6) 5) (ymS a0 a1 a2 a3 a4 a5 a6) yph [(3,.box (.agg [(.int .i64 i0),(.data l1),(.data l2)])),(5,.box (.agg [(.int .i64 i3),(.int .i64 i4)])),(6,.box (.agg [(.int .i64 i5),(.int .i64 i6)])),(9,.box (.agg [(.int .i64 i7),(.int .i64 i8)])),(10,.box (.agg [(.int .i64 i9),(.int .i64 i10)])),(42,.v (.data l11)),(43,.v (.int .i64 i12)),(44,.v (.int .i64 i13))] [] (exQ (yk2 a0 a1 a2 a3 a4 a5 a6 Q n) Q)=ya4 a0 a1 a2 a3 a4 a5 a6 (ymm Q) (ymn Q) (n+1) i0 l1 l2 i3 i4 i5 i6 i7 i8 i9 i10 l11 i12 i13:=by kernel_rfl
theorem yBa (e:Es) (_:EG e):LpOk (E e) (ymS yas ycd ybX ybQ ybP ybA yaH) yph:=(yai (by kernel_rfl))
theorem yzn (e:Es) (he:EG e):∀ F H Q,ymS yas ycd ybX ybQ ybP ybA yaH 85339800 F H Q→ycr (E e) yph F H Q:=by
 intro F H Q h
 have go:=ycr.intro (yaG (yue e he) 5) (yBa e he) (yk2 yas ycd ybX ybQ ybP ybA yaH Q) (by intro F H h;unfold yk2 ygN at h;split at h <;> exact h) (by intro n F H h;unfold yk2 ygN at h;split at h;exact (yv3 ..).mpr h;exact h.elim)
 have h:ygN F H _:=h
 unfold ygN at h
 split at h
 ·obtain ⟨n,h⟩:=h;exact go n _ _ h
 ·exact h.elim
theorem yF9 (e:Es) (a0 a1 a2 a3 a4 a5 a6 p0 p1 p2 p3 p4 p5 p6 K):WP (yqZ e a0 a1 a2 a3 a4 a5 a6) 6 yIm [(.agg [(.int .i64 p0),(.data p1),(.data p2)]),(.agg [(.int .i64 p3),(.int .i64 p4)]),(.agg [(.int .i64 p5),(.int .i64 p6)])] K=yqY a0 a1 a2 a3 a4 a5 a6 p0 p1 p2 p3 p4 p5 p6 (fun r0 r1 r2=>K (.tup [(.agg [(.int .i64 r0),(.int .i64 r1)]),(.int .i64 r2)])):=by kernel_rfl
theorem ymT (e:Es) (he:EG e):OkF (E e) ywQ yew:=by
 intro as K h
 unfold ywQ yjL at h
 split at h
 ·exact ya6 (yue e he) (ybg (l:=[(85339800,yph)]) ⟨yzn e he,trivial⟩ (by kernel_rfl)) (by kernel_rfl) (by kernel_rfl) (fun _=>yab (by kernel_rfl) _) (he.num _ (by kernel_rfl)) ((yF9 ..).mpr h)
 ·exact h.elim
abbrev yay:Type:=Ls→Ls→(Bool→Prop)→Prop
def yaM (x0:Ls→Ls→Int→Int→Bool→Prop) (x1:Bool→Prop):Nat→Ls→Ls→Int→Int→Prop
 | 0,_,_,_,_=>False
 | n+1,l0,l1,i2,i3 =>
 (cbr (decide (i3<i2))
 (asr (decide ((0:Int)≤i3))
 (asr (decide (i3<(((List.length l0):Nat):Int)))
 (lt (List.getD l0 (i3.toNat) .nils) (fun a =>
 (asr (conf (.agg [.i .i64,.i .i64]) a)
 (asr (decide ((0:Int)≤i3))
 (asr (decide (i3<(((List.length l1):Nat):Int)))
 (lt (List.getD l1 (i3.toNat) .nils) (fun b =>
 (asr (conf (.agg [.i .i64,.i .i64]) b)
 (cbr (!(((yaa (yag a 0)) ==(yaa (yag b 0)))&&(((yaa (yag a 1)) ==(yaa (yag b 1)))&&true)))
 (x1 false)
 (lt (IntKind.i64.wrap (i3+(1:Int))) (fun c =>
 (yaM x0 x1 n l0 l1 i2 c))))))))))))))
 (x0 l0 l1 i2 i3 false))
def yek (p0 p1:Ls) (K:Bool→Prop):Prop :=
 (cbr ((((List.length p0):Nat):Int) !=(((List.length p1):Nat):Int))
 (K false)
 (∃ n:Nat,yaM
 (fun _ _ _ _ _=>(K true))
 (fun a=>(K a))
 n p0 p1 (((List.length p0):Nat):Int) (0:Int)))
def yao (p0 p1:Ls) (K:Bool→Prop):Prop:=yek p0 p1 K
def yc1 (w:yay) (as:Ls) (K:PV→Prop):Prop :=
 match as with
 | [(.data p0),(.data p1)]=>w p0 p1 (fun r0=>K (.bool r0))
 | _=>False
def ygO (as:Ls) (K:PV→Prop):Prop:=yc1 yao as K
def ybu (F:Frm) (H:Hp) (A0:Ls→Ls→Int→Int→Prop):Prop :=
 match F,H with
 | [(0,.v (.data l0)),(1,.v (.data l1)),(12,.v (.int .i64 i2)),(13,.v (.int .i64 i3))],[]=>(A0 l0 l1 i2 i3)
 | _,_=>False
def ydM (Q:Qx):Ls→Ls→Int→Int→Bool→Prop:=(fun l0 l1 i2 i3 b4=>Q (.exit 0) [(0,.v (.data l0)),(1,.v (.data l1)),(12,.v (.int .i64 i2)),(13,.v (.int .i64 i3)),(14,.v (.bool b4))] [])
def ydN (Q:Qx):Bool→Prop:=(fun b0=>Q .ret [(4,.v (.bool b0))] [])
def ycL (Q:Qx) (n:Nat) (F:Frm) (H:Hp):Prop:=ybu F H (fun l0 l1 i2 i3=>yaM (ydM Q) (ydN Q) n l0 l1 i2 i3)
def yc2:LP:=fun id F H Q =>
 bif Nat.beq id 11234800 then ybu F H (fun l0 l1 i2 i3=>∃ n:Nat,yaM (ydM Q) (ydN Q) n l0 l1 i2 i3) else
 False
def yel (e:Es):SE:=⟨(E e),yaK [],yaL [],yc2⟩
theorem ygB (e:Es) (he:EG e):SEOk (yel e):=yat trivial trivial he.ok
theorem yjw (e:Es) ( Q n l0 l1 i2 i3):WC (E e) (ybd (yel e) 5) (yc2) ypr [(0,.v (.data l0)),(1,.v (.data l1)),(12,.v (.int .i64 i2)),(13,.v (.int .i64 i3))] [] (exQ (ycL Q n) Q)=yaM (ydM Q) (ydN Q) (n+1) l0 l1 i2 i3:=by kernel_rfl
theorem ykA (e:Es) (_:EG e):LpOk (E e) (yc2) ypr:=(yai (by kernel_rfl))
theorem yj7 (e:Es) (he:EG e):∀ F H Q,yc2 11234800 F H Q→ycr (E e) ypr F H Q:=by
 intro F H Q h
 have go:=ycr.intro (yaG (ygB e he) 5) (ykA e he) (ycL Q) (by intro F H h;unfold ycL ybu at h;split at h <;> exact h) (by intro n F H h;unfold ycL ybu at h;split at h;exact (yjw ..).mpr h;exact h.elim)
 have h:ybu F H _:=h
 unfold ybu at h
 split at h
 ·obtain ⟨n,h⟩:=h;exact go n _ _ h
 ·exact h.elim
theorem ymo (e:Es) ( p0 p1 K):WP (yel e) 6 yne [(.data p0),(.data p1)] K=yek p0 p1 (fun r0=>K (.bool r0)):=by kernel_rfl
theorem yem (e:Es) (he:EG e):OkF (E e) ygO yaN:=by
 intro as K h
 unfold ygO yc1 at h
 split at h
 ·exact ya6 (ygB e he) (ybg (l:=[(11234800,ypr)]) ⟨yj7 e he,trivial⟩ (by kernel_rfl)) (by kernel_rfl) (by kernel_rfl) (fun _=>yab (by kernel_rfl) _) (he.num _ (by kernel_rfl)) ((ymo ..).mpr h)
 ·exact h.elim
end Go.Pf.Vc
namespace Go.Pf.Vc
open Go Go.Pf
set_option linter.unusedVariables false
theorem yEj (p0:Int) (p1:Ls) (p2:Ls) (r0:Int) (h:∀ K:Int→Prop,K r0→yas p0 p1 p2 K) (K:Int→Prop):yas p0 p1 p2 K=K r0 :=
 propext ⟨fun k=>detC (yfp [] yba) (as:=[(.agg [(.int .i64 p0),(.data p1),(.data p2)])]) (x:=(.int .i64 r0)) (fun K' k'=>h (fun r0=>K' (.int .i64 r0)) k') (K:=fun x=>match x with | (.int .i64 r0)=>K r0 | _=>False) k,h K⟩
theorem yEk (p0:Int) (p1:Ls) (p2:Ls) (r0:Int) (r1:Int) (h:∀ K:Int→Int→Prop,K r0 r1→yae p0 p1 p2 K) (K:Int→Int→Prop):yae p0 p1 p2 K=K r0 r1 :=
 propext ⟨fun k=>detC (yfq [] yba) (as:=[(.agg [(.int .i64 p0),(.data p1),(.data p2)])]) (x:=(.tup [(.int .i64 r0),(.int .i64 r1)])) (fun K' k'=>h (fun r0 r1=>K' (.tup [(.int .i64 r0),(.int .i64 r1)])) k') (K:=fun x=>match x with | (.tup [(.int .i64 r0),(.int .i64 r1)])=>K r0 r1 | _=>False) k,h K⟩
theorem yGa (p0:Int) (p1:Ls) (p2:Ls) (p3:Int) (p4:Int) (p5:Int) (p6:Int) (r0:Int) (r1:Int) (r2:Int) (h:∀ K:Int→Int→Int→Prop,K r0 r1 r2→yiq p0 p1 p2 p3 p4 p5 p6 K) (K:Int→Int→Int→Prop):yiq p0 p1 p2 p3 p4 p5 p6 K=K r0 r1 r2 :=
 propext ⟨fun k=>detC (yzm [] yba) (as:=[(.agg [(.int .i64 p0),(.data p1),(.data p2)]),(.agg [(.int .i64 p3),(.int .i64 p4)]),(.agg [(.int .i64 p5),(.int .i64 p6)])]) (x:=(.tup [(.agg [(.int .i64 r0),(.int .i64 r1)]),(.int .i64 r2)])) (fun K' k'=>h (fun r0 r1 r2=>K' (.tup [(.agg [(.int .i64 r0),(.int .i64 r1)]),(.int .i64 r2)])) k') (K:=fun x=>match x with | (.tup [(.agg [(.int .i64 r0),(.int .i64 r1)]),(.int .i64 r2)])=>K r0 r1 r2 | _=>False) k,h K⟩
theorem yEl (p0:Int) (p1:Ls) (p2:Ls) (p3:Int) (p4:Int) (p5:Int) (p6:Int) (r0:Int) (r1:Int) (r2:Int) (h:∀ K:Int→Int→Int→Prop,K r0 r1 r2→ybw p0 p1 p2 p3 p4 p5 p6 K) (K:Int→Int→Int→Prop):ybw p0 p1 p2 p3 p4 p5 p6 K=K r0 r1 r2 :=
 propext ⟨fun k=>detC (ymT [] yba) (as:=[(.agg [(.int .i64 p0),(.data p1),(.data p2)]),(.agg [(.int .i64 p3),(.int .i64 p4)]),(.agg [(.int .i64 p5),(.int .i64 p6)])]) (x:=(.tup [(.agg [(.int .i64 r0),(.int .i64 r1)]),(.int .i64 r2)])) (fun K' k'=>h (fun r0 r1 r2=>K' (.tup [(.agg [(.int .i64 r0),(.int .i64 r1)]),(.int .i64 r2)])) k') (K:=fun x=>match x with | (.tup [(.agg [(.int .i64 r0),(.int .i64 r1)]),(.int .i64 r2)])=>K r0 r1 r2 | _=>False) k,h K⟩
theorem yly (p0:Ls) (p1:Ls) (r0:Bool) (h:∀ K:Bool→Prop,K r0→yao p0 p1 K) (K:Bool→Prop):yao p0 p1 K=K r0 :=
 propext ⟨fun k=>detC (yem [] yba) (as:=[(.data p0),(.data p1)]) (x:=(.bool r0)) (fun K' k'=>h (fun r0=>K' (.bool r0)) k') (K:=fun x=>match x with | (.bool r0)=>K r0 | _=>False) k,h K⟩
end Go.Pf.Vc
namespace Go.Pf.Vc
open Go Go.Pf
set_option maxRecDepth 100000
abbrev yhL:Type:=Int→Int→Int→Int→(Bool→Prop)→Prop
def ypA (a0:ybO) (p0 p1 p2 p3:Int) (K:Bool→Prop):Prop :=
 (a0 p0 p1 p2 p3 (fun a b =>
 (cbr (b ==(0:Int))
 (K (decide (a<(0:Int))))
 (K false))))
def ycW (p0 p1 p2 p3:Int) (K:Bool→Prop):Prop:=ypA ybW p0 p1 p2 p3 K
def ypB (w:yhL) (as:Ls) (K:PV→Prop):Prop :=
 match as with
 | [(.agg [(.int .i64 p0),(.int .i64 p1),(.int .i64 p2),(.int .i64 p3)])]=>w p0 p1 p2 p3 (fun r0=>K (.bool r0))
 | _=>False
def yuf (as:Ls) (K:PV→Prop):Prop:=ypB ycW as K
def yEm (_:ybO):LP:=fun _ _ _ _ =>
 False
def yug (e:Es) (a0:ybO):SE:=⟨(E e),yaK [(ycM,ygd a0)],yaL [],yEm a0⟩
theorem yCw (e:Es) (he:EG e):SEOk (yug e ybW):=yat ⟨(yhf e he),trivial⟩ trivial he.ok
theorem yEn (e:Es) (a0 p0 p1 p2 p3 K):WP (yug e a0) 6 yFB [(.agg [(.int .i64 p0),(.int .i64 p1),(.int .i64 p2),(.int .i64 p3)])] K=ypA a0 p0 p1 p2 p3 (fun r0=>K (.bool r0)):=by kernel_rfl
theorem yuh (e:Es) (he:EG e):OkF (E e) yuf yjH:=by
 intro as K h
 unfold yuf ypB at h
 split at h
 ·exact ya6 (yCw e he) (yai (by kernel_rfl)) (by kernel_rfl) (by kernel_rfl) (fun _=>yab (by kernel_rfl) _) (he.num _ (by kernel_rfl)) ((yEn ..).mpr h)
 ·exact h.elim
abbrev yku:Type:=Ls→(Int→Prop)→Prop
def yd9 (a0:yhL) (x0:Int→Prop) (x1:Ls→Int→Int→Bool→Prop):Nat→Ls→Int→Int→Prop
 | 0,_,_,_=>False
 | n+1,l0,i1,i2 =>
 (cbr (decide (i2<i1))
 (asr (decide ((0:Int)≤i2))
 (asr (decide (i2<(((List.length l0):Nat):Int)))
 (asr (conf (.agg [.i .i64,.i .i64,.i .i64,.i .i64]) (List.getD l0 (i2.toNat) .nils))
 (a0 (yaa (yag (List.getD l0 (i2.toNat) .nils) 0)) (yaa (yag (List.getD l0 (i2.toNat) .nils) 1)) (yaa (yag (List.getD l0 (i2.toNat) .nils) 2)) (yaa (yag (List.getD l0 (i2.toNat) .nils) 3)) (fun a =>
 (cbr (!a)
 (x0 (8:Int))
 (yd9 a0 x0 x1 n l0 i1 (IntKind.i64.wrap (i2+(1:Int))))))))))
 (x1 l0 i1 i2 false))
def yst (a0:yhL) (p0:Ls) (K:Int→Prop):Prop :=
 (cbr (decide ((((List.length p0):Nat):Int)>(60:Int)))
 (K (4:Int))
 (∃ n:Nat,yd9 a0
 (fun a=>(K a))
 (fun _ _ _ _=>(K (0:Int)))
 n p0 (((List.length p0):Nat):Int) (0:Int)))
def yeG (p0:Ls) (K:Int→Prop):Prop:=yst ycW p0 K
def ysu (w:yku) (as:Ls) (K:PV→Prop):Prop :=
 match as with
 | [(.data p0)]=>w p0 (fun r0=>K (.int .i64 r0))
 | _=>False
def yzo (as:Ls) (K:PV→Prop):Prop:=ysu yeG as K
def yhM (F:Frm) (H:Hp) (A0:Ls→Int→Int→Prop):Prop :=
 match F,H with
 | [(8,.v (.data l0)),(9,.v (.int .i64 i1)),(10,.v (.int .i64 i2))],[]=>(A0 l0 i1 i2)
 | _,_=>False
def ynD (Q:Qx):Int→Prop:=(fun i0=>Q .ret [(2,.v (.int .i64 i0))] [])
def ynE (Q:Qx):Ls→Int→Int→Bool→Prop:=(fun l0 i1 i2 b3=>Q (.exit 0) [(8,.v (.data l0)),(9,.v (.int .i64 i1)),(10,.v (.int .i64 i2)),(11,.v (.bool b3))] [])
def ymU (a0:yhL) (Q:Qx) (n:Nat) (F:Frm) (H:Hp):Prop:=yhM F H (fun l0 i1 i2=>yd9 a0 (ynD Q) (ynE Q) n l0 i1 i2)
def yok (a0:yhL):LP:=fun id F H Q =>
 bif Nat.beq id 56157900 then yhM F H (fun l0 i1 i2=>∃ n:Nat,yd9 a0 (ynD Q) (ynE Q) n l0 i1 i2) else
 False
def ysv (e:Es) (a0:yhL):SE:=⟨(E e),yaK [(yjH,ypB a0)],yaL [],yok a0⟩
theorem ywR (e:Es) (he:EG e):SEOk (ysv e ycW):=yat ⟨(yuh e he),trivial⟩ trivial he.ok
theorem yxP (e:Es) (a0 Q n l0 i1 i2):WC (E e) (ybd (ysv e a0) 5) (yok a0) ypm [(8,.v (.data l0)),(9,.v (.int .i64 i1)),(10,.v (.int .i64 i2))] [] (exQ (ymU a0 Q n) Q)=yd9 a0 (ynD Q) (ynE Q) (n+1) l0 i1 i2:=by kernel_rfl
theorem yCx (e:Es) (_:EG e):LpOk (E e) (yok ycW) ypm:=(yai (by kernel_rfl))
theorem yBb (e:Es) (he:EG e):∀ F H Q,yok ycW 56157900 F H Q→ycr (E e) ypm F H Q:=by
 intro F H Q h
 have go:=ycr.intro (yaG (ywR e he) 5) (yCx e he) (ymU ycW Q) (by intro F H h;unfold ymU yhM at h;split at h <;> exact h) (by intro n F H h;unfold ymU yhM at h;split at h;exact (yxP ..).mpr h;exact h.elim)
 have h:yhM F H _:=h
 unfold yhM at h
 split at h
 ·obtain ⟨n,h⟩:=h;exact go n _ _ h
 ·exact h.elim
theorem yIE (e:Es) (a0 p0 K):WP (ysv e a0) 6 yKi [(.data p0)] K=yst a0 p0 (fun r0=>K (.int .i64 r0)):=by kernel_rfl
theorem yzp (e:Es) (he:EG e):OkF (E e) yzo ynb:=by
 intro as K h
 unfold yzo ysu at h
 split at h
 ·exact ya6 (ywR e he) (ybg (l:=[(56157900,ypm)]) ⟨yBb e he,trivial⟩ (by kernel_rfl)) (by kernel_rfl) (by kernel_rfl) (fun _=>yab (by kernel_rfl) _) (he.num _ (by kernel_rfl)) ((yIE ..).mpr h)
 ·exact h.elim
abbrev ycX:Type:=Int→Int→Int→Int→(Int→Prop)→Prop
def ypC (a0:ybO) (p0 p1 p2 p3:Int) (K:Int→Prop):Prop :=
 (a0 p0 p1 p2 p3 (fun a _ =>
 (K a)))
def ya3 (p0 p1 p2 p3:Int) (K:Int→Prop):Prop:=ypC ybW p0 p1 p2 p3 K
def yir (w:ycX) (as:Ls) (K:PV→Prop):Prop :=
 match as with
 | [(.agg [(.int .i64 p0),(.int .i64 p1)]),(.agg [(.int .i64 p2),(.int .i64 p3)])]=>w p0 p1 p2 p3 (fun r0=>K (.int .i64 r0))
 | _=>False
def yui (as:Ls) (K:PV→Prop):Prop:=yir ya3 as K
def yEo (_:ybO):LP:=fun _ _ _ _ =>
 False
def yuj (e:Es) (a0:ybO):SE:=⟨(E e),yaK [(ycM,ygd a0)],yaL [],yEo a0⟩
theorem yCy (e:Es) (he:EG e):SEOk (yuj e ybW):=yat ⟨(yhf e he),trivial⟩ trivial he.ok
theorem yEp (e:Es) (a0 p0 p1 p2 p3 K):WP (yuj e a0) 6 yFC [(.agg [(.int .i64 p0),(.int .i64 p1)]),(.agg [(.int .i64 p2),(.int .i64 p3)])] K=ypC a0 p0 p1 p2 p3 (fun r0=>K (.int .i64 r0)):=by kernel_rfl
theorem ypD (e:Es) (he:EG e):OkF (E e) yui yfl:=by
 intro as K h
 unfold yui yir at h
 split at h
 ·exact ya6 (yCy e he) (yai (by kernel_rfl)) (by kernel_rfl) (by kernel_rfl) (fun _=>yab (by kernel_rfl) _) (he.num _ (by kernel_rfl)) ((yEp ..).mpr h)
 ·exact h.elim
abbrev yci:Type:=Ls→(Int→Prop)→Prop
def ycH (a0:yku) (a1:ycX) (x0:Int→Prop) (x1:Ls→Int→Bool→Prop):Nat→Ls→Int→Prop
 | 0,_,_=>False
 | n+1,l0,i1 =>
 (cbr (decide (i1<(((List.length l0):Nat):Int)))
 (asr (decide ((0:Int)≤(IntKind.i64.wrap (i1-(1:Int)))))
 (asr (decide ((IntKind.i64.wrap (i1-(1:Int)))<(((List.length l0):Nat):Int)))
 (asr (conf (.agg [.i .i64,.i .i64,.i .i64,.i .i64]) (List.getD l0 ((IntKind.i64.wrap (i1-(1:Int))).toNat) .nils))
 (asr (decide ((0:Int)≤i1))
 (asr (decide (i1<(((List.length l0):Nat):Int)))
 (asr (conf (.agg [.i .i64,.i .i64,.i .i64,.i .i64]) (List.getD l0 (i1.toNat) .nils))
 (a1 (yaa (yag (List.getD l0 ((IntKind.i64.wrap (i1-(1:Int))).toNat) .nils) 2)) (yaa (yag (List.getD l0 ((IntKind.i64.wrap (i1-(1:Int))).toNat) .nils) 3)) (yaa (yag (List.getD l0 (i1.toNat) .nils) 0)) (yaa (yag (List.getD l0 (i1.toNat) .nils) 1)) (fun a =>
 (cbr (decide (a≥(0:Int)))
 (x0 (8:Int))
 (ycH a0 a1 x0 x1 n l0 (IntKind.i64.wrap (i1+(1:Int)))))))))))))
 (x1 l0 i1 false))
def ypE (a0:yku) (a1:ycX) (p0:Ls) (K:Int→Prop):Prop :=
 (a0 p0 (fun a =>
 (cbr (a !=(0:Int))
 (K a)
 (∃ n:Nat,ycH a0 a1
 (fun b=>(K b))
 (fun _ _ _=>(K (0:Int)))
 n p0 (1:Int)))))
def yaI (p0:Ls) (K:Int→Prop):Prop:=ypE yeG ya3 p0 K
def yis (w:yci) (as:Ls) (K:PV→Prop):Prop :=
 match as with
 | [(.data p0)]=>w p0 (fun r0=>K (.int .i64 r0))
 | _=>False
def yuk (as:Ls) (K:PV→Prop):Prop:=yis yaI as K
def yfX (F:Frm) (H:Hp) (A0:Ls→Int→Prop):Prop :=
 match F,H with
 | [(0,.v (.data l0)),(4,.v (.int .i64 i1))],[]=>(A0 l0 i1)
 | _,_=>False
def yk3 (Q:Qx):Int→Prop:=(fun i0=>Q .ret [(2,.v (.int .i64 i0))] [])
def yk4 (Q:Qx):Ls→Int→Bool→Prop:=(fun l0 i1 b2=>Q (.exit 0) [(0,.v (.data l0)),(4,.v (.int .i64 i1)),(13,.v (.bool b2))] [])
def yjS (a0:yku) (a1:ycX) (Q:Qx) (n:Nat) (F:Frm) (H:Hp):Prop:=yfX F H (fun l0 i1=>ycH a0 a1 (yk3 Q) (yk4 Q) n l0 i1)
def yk5 (a0:yku) (a1:ycX):LP:=fun id F H Q =>
 bif Nat.beq id 17365500 then yfX F H (fun l0 i1=>∃ n:Nat,ycH a0 a1 (yk3 Q) (yk4 Q) n l0 i1) else
 False
def ypF (e:Es) (a0:yku) (a1:ycX):SE:=⟨(E e),yaK [(ynb,ysu a0),(yfl,yir a1)],yaL [],yk5 a0 a1⟩
theorem ytj (e:Es) (he:EG e):SEOk (ypF e yeG ya3):=yat ⟨(yzp e he),(ypD e he),trivial⟩ trivial he.ok
theorem yul (e:Es) (a0 a1 Q n l0 i1):WC (E e) (ybd (ypF e a0 a1) 5) (yk5 a0 a1) ypn [(0,.v (.data l0)),(4,.v (.int .i64 i1))] [] (exQ (yjS a0 a1 Q n) Q)=ycH a0 a1 (yk3 Q) (yk4 Q) (n+1) l0 i1:=by kernel_rfl
theorem yzq (e:Es) (_:EG e):LpOk (E e) (yk5 yeG ya3) ypn:=(yai (by kernel_rfl))
theorem yxQ (e:Es) (he:EG e):∀ F H Q,yk5 yeG ya3 17365500 F H Q→ycr (E e) ypn F H Q:=by
 intro F H Q h
 have go:=ycr.intro (yaG (ytj e he) 5) (yzq e he) (yjS yeG ya3 Q) (by intro F H h;unfold yjS yfX at h;split at h <;> exact h) (by intro n F H h;unfold yjS yfX at h;split at h;exact (yul ..).mpr h;exact h.elim)
 have h:yfX F H _:=h
 unfold yfX at h
 split at h
 ·obtain ⟨n,h⟩:=h;exact go n _ _ h
 ·exact h.elim
theorem yEq (e:Es) (a0 a1 p0 K):WP (ypF e a0 a1) 6 yFD [(.data p0)] K=ypE a0 a1 p0 (fun r0=>K (.int .i64 r0)):=by kernel_rfl
theorem yk6 (e:Es) (he:EG e):OkF (E e) yuk yfm:=by
 intro as K h
 unfold yuk yis at h
 split at h
 ·exact ya6 (ytj e he) (ybg (l:=[(17365500,ypn)]) ⟨yxQ e he,trivial⟩ (by kernel_rfl)) (by kernel_rfl) (by kernel_rfl) (fun _=>yab (by kernel_rfl) _) (he.num _ (by kernel_rfl)) ((yEq ..).mpr h)
 ·exact h.elim
abbrev yGb:Type:=Int→Ls→Ls→Ls→(Int→Int→Int→Prop)→Prop
def ybR (a0:yaF) (a1:yci) (a2:ycX) (a3:yez) (a4:ybz) (x0:Int→Ls→Ls→Int→Int→Int→Int→Ls→Int→Int→Bool→Prop) (x1:Int→Ls→Ls→Int→Int→Int→Prop):Nat→Int→Ls→Ls→Int→Int→Int→Int→Ls→Int→Int→Prop
 | 0,_,_,_,_,_,_,_,_,_,_=>False
 | n+1,i0,l1,l2,i3,i4,i5,i6,l7,i8,i9 =>
 (cbr (decide (i9<i8))
 (asr (decide ((0:Int)≤i9))
 (asr (decide (i9<(((List.length l7):Nat):Int)))
 (lt (List.getD l7 (i9.toNat) .nils) (fun a =>
 (asr (conf (.agg [.i .i64,.i .i64,.i .i64,.i .i64]) a)
 (a3 i0 l1 l2 (yaa (yag a 0)) (yaa (yag a 1)) (yaa (yag a 2)) (yaa (yag a 3)) (fun d e b =>
 (cbr (b !=(0:Int))
 (x1 i0 l1 l2 (0:Int) (0:Int) b)
 (a4 i5 i6 d e (fun f g c =>
 (cbr (c !=(0:Int))
 (x1 i0 l1 l2 (0:Int) (0:Int) c)
 (lt (IntKind.i64.wrap (i9+(1:Int))) (fun h =>
 (ybR a0 a1 a2 a3 a4 x0 x1 n i0 l1 l2 i3 i4 f g l7 i8 h))))))))))))))
 (x0 i0 l1 l2 i3 i4 i5 i6 l7 i8 i9 false))
def ypG (a0:yaF) (a1:yci) (a2:ycX) (a3:yez) (a4:ybz) (p0:Int) (p1 p2 p3:Ls) (K:Int→Int→Int→Prop):Prop :=
 (a0 p0 p1 p2 (fun d =>
 (cbr (d !=(0:Int))
 (K (0:Int) (0:Int) d)
 (a1 p3 (fun e =>
 (cbr (e !=(0:Int))
 (K (0:Int) (0:Int) e)
 (jn (fun (a:Bool→Prop) =>
 (cbr (decide ((((List.length p3):Nat):Int)>(0:Int)))
 (asr (decide ((0:Int)<(((List.length p3):Nat):Int)))
 (lt (List.getD p3 0 .nils) (fun f =>
 (asr (conf (.agg [.i .i64,.i .i64,.i .i64,.i .i64]) f)
 (cbr (decide ((yaa (yag f 0))<(0:Int)))
 (a true)
 (lt (IntKind.i64.wrap ((((List.length p3):Nat):Int)-(1:Int))) (fun b =>
 (asr (decide ((0:Int)≤b))
 (asr (decide (b<(((List.length p3):Nat):Int)))
 (lt (List.getD p3 (b.toNat) .nils) (fun c =>
 (asr (conf (.agg [.i .i64,.i .i64,.i .i64,.i .i64]) c)
 (a2 (yaa (yag c 2)) (yaa (yag c 3)) p0 (1:Int) (fun h =>
 (a (decide (h>(0:Int))))))))))))))))))
 (a false)))
 (fun j=>(cbr j
 (K (0:Int) (0:Int) (2:Int))
 (jn (fun (g:Int→Ls→Ls→Int→Int→Int→Prop) =>
 (∃ n:Nat,ybR a0 a1 a2 a3 a4
 (fun k l m _ _ o p _ _ _ _=>(g k l m o p (0:Int)))
 (fun q r s t u v=>(g q r s t u v))
 n p0 p1 p2 (0:Int) (0:Int) (0:Int) (1:Int) p3 (((List.length p3):Nat):Int) (0:Int)))
 (fun _ _ _ w x y=>(K w x y))))))))))))
def ydo (p0:Int) (p1 p2 p3:Ls) (K:Int→Int→Int→Prop):Prop:=ypG yas yaI ya3 ybw yaH p0 p1 p2 p3 K
def ypH (w:yGb) (as:Ls) (K:PV→Prop):Prop :=
 match as with
 | [(.agg [(.int .i64 p0),(.data p1),(.data p2)]),(.data p3)]=>w p0 p1 p2 p3 (fun r0 r1 r2=>K (.tup [(.agg [(.int .i64 r0),(.int .i64 r1)]),(.int .i64 r2)]))
 | _=>False
def yk7 (as:Ls) (K:PV→Prop):Prop:=ypH ydo as K
def yfY (F:Frm) (H:Hp) (A0:Int→Ls→Ls→Int→Int→Int→Int→Ls→Int→Int→Prop):Prop :=
 match F,H with
 | [(1,.v (.fn (.func q0) [] [(.ptr 0 1 0 0)])),(4,.box (.agg [(.int .i64 i3),(.int .i64 i4)])),(6,.box (.agg [(.int .i64 i5),(.int .i64 i6)])),(12,.v (.data l7)),(13,.v (.int .i64 i8)),(14,.v (.int .i64 i9))],[⟨false,true,3,[(.agg [(.int .i64 i0),(.data l1),(.data l2)])]⟩]=>asr (Nat.beq q0 ye3) (A0 i0 l1 l2 i3 i4 i5 i6 l7 i8 i9)
 | _,_=>False
def yk8 (Q:Qx):Int→Ls→Ls→Int→Int→Int→Int→Ls→Int→Int→Bool→Prop:=(fun i0 l1 l2 i3 i4 i5 i6 l7 i8 i9 b10=>Q (.exit 0) [(1,.v (.fn (.func ye3) [] [(.ptr 0 1 0 0)])),(4,.box (.agg [(.int .i64 i3),(.int .i64 i4)])),(6,.box (.agg [(.int .i64 i5),(.int .i64 i6)])),(12,.v (.data l7)),(13,.v (.int .i64 i8)),(14,.v (.int .i64 i9)),(15,.v (.bool b10))] [⟨false,true,3,([(.agg [(.int .i64 i0),(.data l1),(.data l2)])]:Ls)⟩])
def yk9 (Q:Qx):Int→Ls→Ls→Int→Int→Int→Prop:=(fun i0 l1 l2 i3 i4 i5=>Q .ret [(4,.box (.agg [(.int .i64 i3),(.int .i64 i4)])),(5,.v (.int .i64 i5))] [⟨false,true,3,([(.agg [(.int .i64 i0),(.data l1),(.data l2)])]:Ls)⟩])
def yjT (a0:yaF) (a1:yci) (a2:ycX) (a3:yez) (a4:ybz) (Q:Qx) (n:Nat) (F:Frm) (H:Hp):Prop:=yfY F H (fun i0 l1 l2 i3 i4 i5 i6 l7 i8 i9=>ybR a0 a1 a2 a3 a4 (yk8 Q) (yk9 Q) n i0 l1 l2 i3 i4 i5 i6 l7 i8 i9)
def yit (a0:yaF) (a1:yci) (a2:ycX) (a3:yez) (a4:ybz):LP:=fun id F H Q =>
 bif Nat.beq id 87165700 then yfY F H (fun i0 l1 l2 i3 i4 i5 i6 l7 i8 i9=>∃ n:Nat,ybR a0 a1 a2 a3 a4 (yk8 Q) (yk9 Q) n i0 l1 l2 i3 i4 i5 i6 l7 i8 i9) else
 False
def yum (e:Es) (a0:yaF) (a1:yci) (a2:ycX) (a3:yez) (a4:ybz):SE:=⟨(E e),yaK [(ycb,yex a0),(yfm,yis a1),(yfl,yir a2),(yew,yjL a3),(yde,yge a4)],yaL [(ye3,ytg)],yit a0 a1 a2 a3 a4⟩
def yun (e:Es) (a0:yaF) (a1:yci) (a2:ycX) (a3:yez) (a4:ybz):SE:=⟨(E e),yaK [(ycb,yex a0),(yfm,yis a1),(yfl,yir a2),(yew,yjL a3),(yde,yge a4)],yaL [(ytV,yKj),(ye3,ytg)],yit a0 a1 a2 a3 a4⟩
theorem yCz (e:Es) (he:EG e):SEOk (yum e yas yaI ya3 ybw yaH):=yat ⟨(yfp e he),(yk6 e he),(ypD e he),(ymT e he),(yhh e he),trivial⟩ ⟨⟨by kernel_rfl,by kernel_rfl,rfl,fun as=>yab (by kernel_rfl) as,he.num _ (by kernel_rfl),(yai (by kernel_rfl))⟩,trivial⟩ he.ok
theorem yuo (e:Es) (a0 a1 a2 a3 a4 Q n i0 l1 l2 i3 i4 i5 i6 l7 i8 i9):WC (E e) (ybd (yum e a0 a1 a2 a3 a4) 5) (yit a0 a1 a2 a3 a4) ypo [(1,.v (.fn (.func ye3) [] [(.ptr 0 1 0 0)])),(4,.box (.agg [(.int .i64 i3),(.int .i64 i4)])),(6,.box (.agg [(.int .i64 i5),(.int .i64 i6)])),(12,.v (.data l7)),(13,.v (.int .i64 i8)),(14,.v (.int .i64 i9))] [⟨false,true,3,([(.agg [(.int .i64 i0),(.data l1),(.data l2)])]:Ls)⟩] (exQ (yjT a0 a1 a2 a3 a4 Q n) Q)=ybR a0 a1 a2 a3 a4 (yk8 Q) (yk9 Q) (n+1) i0 l1 l2 i3 i4 i5 i6 l7 i8 i9:=by kernel_rfl
theorem yzr (e:Es) (_:EG e):LpOk (E e) (yit yas yaI ya3 ybw yaH) ypo:=(yai (by kernel_rfl))
theorem yxR (e:Es) (he:EG e):∀ F H Q,yit yas yaI ya3 ybw yaH 87165700 F H Q→ycr (E e) ypo F H Q:=by
 intro F H Q h
 have go:=ycr.intro (yaG (yCz e he) 5) (yzr e he) (yjT yas yaI ya3 ybw yaH Q) (by
  intro F H h
  unfold yjT yfY at h
  split at h
  ·obtain ⟨hg,k⟩:=yah.1 h
   clear h
   have h:=k
   clear k
   try simp only [qAc,decide_eq_true_eq] at hg
   have g0:=hg;have g0:=qAg g0;subst g0;exact h
  ·exact h) (by
  intro n F H h
  unfold yjT yfY at h
  split at h
  ·obtain ⟨hg,k⟩:=yah.1 h
   clear h
   have h:=k
   clear k
   try simp only [qAc,decide_eq_true_eq] at hg
   have g0:=hg;have g0:=qAg g0;subst g0;exact (yuo ..).mpr h
  ·exact h.elim)
 have h:yfY F H _:=h
 unfold yfY at h
 split at h
 ·obtain ⟨hg,n,h⟩:=yah.1 h;exact go n _ _ (yah.2 ⟨hg,h⟩)
 ·exact h.elim
theorem yCA (e:Es) (he:EG e):SEOk (yun e yas yaI ya3 ybw yaH):=yat ⟨(yfp e he),(yk6 e he),(ypD e he),(ymT e he),(yhh e he),trivial⟩ ⟨⟨by kernel_rfl,by kernel_rfl,rfl,fun as=>yab (by kernel_rfl) as,he.num _ (by kernel_rfl),(ybg (l:=[(87165700,ypo)]) ⟨yxR e he,trivial⟩ (by kernel_rfl))⟩,⟨by kernel_rfl,by kernel_rfl,rfl,fun as=>yab (by kernel_rfl) as,he.num _ (by kernel_rfl),(yai (by kernel_rfl))⟩,trivial⟩ he.ok
theorem yEr (e:Es) (a0 a1 a2 a3 a4 p0 p1 p2 p3 K):WP (yun e a0 a1 a2 a3 a4) 6 yFG [(.agg [(.int .i64 p0),(.data p1),(.data p2)]),(.data p3)] K=ypG a0 a1 a2 a3 a4 p0 p1 p2 p3 (fun r0 r1 r2=>K (.tup [(.agg [(.int .i64 r0),(.int .i64 r1)]),(.int .i64 r2)])):=by kernel_rfl
theorem yup (e:Es) (he:EG e):OkF (E e) yk7 ycU:=by
 intro as K h
 unfold yk7 ypH at h
 split at h
 ·exact ya6 (yCA e he) (yai (by kernel_rfl)) (by kernel_rfl) (by kernel_rfl) (fun _=>yab (by kernel_rfl) _) (he.num _ (by kernel_rfl)) ((yEr ..).mpr h)
 ·exact h.elim
end Go.Pf.Vc
namespace Go.Pf.Vc
open Go Go.Pf
set_option linter.unusedVariables false
theorem yCB (p0:Int) (p1:Int) (p2:Int) (p3:Int) (r0:Bool) (h:∀ K:Bool→Prop,K r0→ycW p0 p1 p2 p3 K) (K:Bool→Prop):ycW p0 p1 p2 p3 K=K r0 :=
 propext ⟨fun k=>detC (yuh [] yba) (as:=[(.agg [(.int .i64 p0),(.int .i64 p1),(.int .i64 p2),(.int .i64 p3)])]) (x:=(.bool r0)) (fun K' k'=>h (fun r0=>K' (.bool r0)) k') (K:=fun x=>match x with | (.bool r0)=>K r0 | _=>False) k,h K⟩
theorem yGc (p0:Ls) (r0:Int) (h:∀ K:Int→Prop,K r0→yeG p0 K) (K:Int→Prop):yeG p0 K=K r0 :=
 propext ⟨fun k=>detC (yzp [] yba) (as:=[(.data p0)]) (x:=(.int .i64 r0)) (fun K' k'=>h (fun r0=>K' (.int .i64 r0)) k') (K:=fun x=>match x with | (.int .i64 r0)=>K r0 | _=>False) k,h K⟩
theorem yCC (p0:Ls) (r0:Int) (h:∀ K:Int→Prop,K r0→yaI p0 K) (K:Int→Prop):yaI p0 K=K r0 :=
 propext ⟨fun k=>detC (yk6 [] yba) (as:=[(.data p0)]) (x:=(.int .i64 r0)) (fun K' k'=>h (fun r0=>K' (.int .i64 r0)) k') (K:=fun x=>match x with | (.int .i64 r0)=>K r0 | _=>False) k,h K⟩
theorem yCD (p0:Int) (p1:Ls) (p2:Ls) (p3:Ls) (r0:Int) (r1:Int) (r2:Int) (h:∀ K:Int→Int→Int→Prop,K r0 r1 r2→ydo p0 p1 p2 p3 K) (K:Int→Int→Int→Prop):ydo p0 p1 p2 p3 K=K r0 r1 r2 :=
 propext ⟨fun k=>detC (yup [] yba) (as:=[(.agg [(.int .i64 p0),(.data p1),(.data p2)]),(.data p3)]) (x:=(.tup [(.agg [(.int .i64 r0),(.int .i64 r1)]),(.int .i64 r2)])) (fun K' k'=>h (fun r0 r1 r2=>K' (.tup [(.agg [(.int .i64 r0),(.int .i64 r1)]),(.int .i64 r2)])) k') (K:=fun x=>match x with | (.tup [(.agg [(.int .i64 r0),(.int .i64 r1)]),(.int .i64 r2)])=>K r0 r1 r2 | _=>False) k,h K⟩
end Go.Pf.Vc
namespace Go.Pf.Vc
open Go Go.Pf
set_option maxRecDepth 100000
abbrev ybS:Type:=Ls→Ls→(Int→Prop)→Prop
def yea (a0:yaF) (a:Int→Prop) (b:Ls→Ls→Ls→Int→Int→Bool→Prop):Nat→Ls→Ls→Ls→Int→Int→Prop
 | 0,_,_,_,_,_=>False
 | e+1,l0,l1,l2,i3,i4 =>
 (cbr (decide (i4<i3))
 (asr (decide ((0:Int)≤i4))
 (asr (decide (i4<(((List.length l2):Nat):Int)))
 (asr (conf (.agg [.i .i64,.d,.d]) (List.getD l2 (i4.toNat) .nils))
 (a0 (yaa (yag (List.getD l2 (i4.toNat) .nils) 0)) (yaA (yag (List.getD l2 (i4.toNat) .nils) 1)) (yaA (yag (List.getD l2 (i4.toNat) .nils) 2)) (fun c =>
 (cbr (c !=(0:Int))
 (a c)
 (yea a0 a b e l0 l1 l2 i3 (IntKind.i64.wrap (i4+(1:Int))))))))))
 (b l0 l1 l2 i3 i4 false))
def ydr (a0:yaF) (a:Int→Prop) (b:Ls→Ls→Ls→Int→Int→Bool→Prop):Nat→Ls→Ls→Ls→Int→Int→Prop
 | 0,_,_,_,_,_=>False
 | c+1,l0,l1,l2,i3,i4 =>
 (cbr (decide (i4<i3))
 (asr (decide ((0:Int)≤i4))
 (asr (decide (i4<(((List.length l2):Nat):Int)))
 (asr (conf (.agg [.i .i64,.d,.d]) (List.getD l2 (i4.toNat) .nils))
 (asr (decide ((0:Int)<(((List.length l0):Nat):Int)))
 (asr (conf (.agg [.i .i64,.d,.d]) (List.getD l0 0 .nils))
 (cbr ((yaa (yag (List.getD l2 (i4.toNat) .nils) 0)) !=(yaa (yag (List.getD l0 0 .nils) 0)))
 (a (8:Int))
 (ydr a0 a b c l0 l1 l2 i3 (IntKind.i64.wrap (i4+(1:Int))))))))))
 (b l0 l1 l2 i3 i4 false))
def ysw (a0:yaF) (p0 p1:Ls) (K:Int→Prop):Prop :=
 (cbr (decide ((((List.length p0):Nat):Int)>(6:Int)))
 (K (4:Int))
 (cbr (decide ((((List.length p1):Nat):Int)>(2000:Int)))
 (K (4:Int))
 (cbr ((((List.length p0):Nat):Int) ==(0:Int))
 (K (8:Int))
 (∃ b:Nat,yea a0
 (fun c=>(K c))
 (fun a d _ _ _ _=>(∃ e:Nat,ydr a0
 (fun f=>(K f))
 (fun _ _ _ _ _ _=>(K (0:Int)))
 e a d a (((List.length a):Nat):Int) (0:Int)))
 b p0 p1 p0 (((List.length p0):Nat):Int) (0:Int)))))
def ybr (p0 p1:Ls) (K:Int→Prop):Prop:=ysw yas p0 p1 K
def yiU (w:ybS) (as:Ls) (K:PV→Prop):Prop :=
 match as with
 | [(.agg [(.data p0),(.data p1)])]=>w p0 p1 (fun r0=>K (.int .i64 r0))
 | _=>False
def yzs (as:Ls) (K:PV→Prop):Prop:=yiU ybr as K
def yhN (F:Frm) (H:Hp) (A0:Ls→Ls→Ls→Int→Int→Prop):Prop :=
 match F,H with
 | [(1,.box (.agg [(.data l0),(.data l1)])),(23,.v (.data l2)),(24,.v (.int .i64 i3)),(25,.v (.int .i64 i4))],[]=>(A0 l0 l1 l2 i3 i4)
 | _,_=>False
def yhO (F:Frm) (H:Hp) (A0:Ls→Ls→Ls→Int→Int→Prop):Prop :=
 match F,H with
 | [(1,.box (.agg [(.data l0),(.data l1)])),(36,.v (.data l2)),(37,.v (.int .i64 i3)),(38,.v (.int .i64 i4))],[]=>(A0 l0 l1 l2 i3 i4)
 | _,_=>False
def ynF (Q:Qx):Int→Prop:=(fun i0=>Q .ret [(2,.v (.int .i64 i0))] [])
def ynG (Q:Qx):Ls→Ls→Ls→Int→Int→Bool→Prop:=(fun l0 l1 l2 i3 i4 b5=>Q (.exit 0) [(1,.box (.agg [(.data l0),(.data l1)])),(23,.v (.data l2)),(24,.v (.int .i64 i3)),(25,.v (.int .i64 i4)),(26,.v (.bool b5))] [])
def ynH (Q:Qx):Int→Prop:=(fun i0=>Q .ret [(2,.v (.int .i64 i0))] [])
def ynI (Q:Qx):Ls→Ls→Ls→Int→Int→Bool→Prop:=(fun l0 l1 l2 i3 i4 b5=>Q (.exit 2) [(1,.box (.agg [(.data l0),(.data l1)])),(36,.v (.data l2)),(37,.v (.int .i64 i3)),(38,.v (.int .i64 i4)),(39,.v (.bool b5))] [])
def ymV (a0:yaF) (Q:Qx) (n:Nat) (F:Frm) (H:Hp):Prop:=yhN F H (fun l0 l1 l2 i3 i4=>yea a0 (ynF Q) (ynG Q) n l0 l1 l2 i3 i4)
def ymW (a0:yaF) (Q:Qx) (n:Nat) (F:Frm) (H:Hp):Prop:=yhO F H (fun l0 l1 l2 i3 i4=>ydr a0 (ynH Q) (ynI Q) n l0 l1 l2 i3 i4)
def yhj (a0:yaF):LP:=fun id F H Q =>
 bif Nat.beq id 12157600 then yhN F H (fun l0 l1 l2 i3 i4=>∃ n:Nat,yea a0 (ynF Q) (ynG Q) n l0 l1 l2 i3 i4) else
 bif Nat.beq id 12157601 then yhO F H (fun l0 l1 l2 i3 i4=>∃ n:Nat,ydr a0 (ynH Q) (ynI Q) n l0 l1 l2 i3 i4) else
 False
def yol (e:Es) (a0:yaF):SE:=⟨(E e),yaK [(ycb,yex a0)],yaL [],yhj a0⟩
theorem yq0 (e:Es) (he:EG e):SEOk (yol e yas):=yat ⟨(yfp e he),trivial⟩ trivial he.ok
theorem yxS (e:Es) (a0 Q n l0 l1 l2 i3 i4):WC (E e) (ybd (yol e a0) 5) (yhj a0) yo9 [(1,.box (.agg [(.data l0),(.data l1)])),(23,.v (.data l2)),(24,.v (.int .i64 i3)),(25,.v (.int .i64 i4))] [] (exQ (ymV a0 Q n) Q)=yea a0 (ynF Q) (ynG Q) (n+1) l0 l1 l2 i3 i4:=by kernel_rfl
theorem yCE (e:Es) (_:EG e):LpOk (E e) (yhj yas) yo9:=(yai (by kernel_rfl))
theorem yBc (e:Es) (he:EG e):∀ F H Q,yhj yas 12157600 F H Q→ycr (E e) yo9 F H Q:=by
 intro F H Q h
 have go:=ycr.intro (yaG (yq0 e he) 5) (yCE e he) (ymV yas Q) (by intro F H h;unfold ymV yhN at h;split at h <;> exact h) (by intro n F H h;unfold ymV yhN at h;split at h;exact (yxS ..).mpr h;exact h.elim)
 have h:yhN F H _:=h
 unfold yhN at h
 split at h
 ·obtain ⟨n,h⟩:=h;exact go n _ _ h
 ·exact h.elim
theorem yxT (e:Es) (a0 Q n l0 l1 l2 i3 i4):WC (E e) (ybd (yol e a0) 5) (yhj a0) ypa [(1,.box (.agg [(.data l0),(.data l1)])),(36,.v (.data l2)),(37,.v (.int .i64 i3)),(38,.v (.int .i64 i4))] [] (exQ (ymW a0 Q n) Q)=ydr a0 (ynH Q) (ynI Q) (n+1) l0 l1 l2 i3 i4:=by kernel_rfl
theorem yCF (e:Es) (_:EG e):LpOk (E e) (yhj yas) ypa:=(yai (by kernel_rfl))
theorem yBd (e:Es) (he:EG e):∀ F H Q,yhj yas 12157601 F H Q→ycr (E e) ypa F H Q:=by
 intro F H Q h
 have go:=ycr.intro (yaG (yq0 e he) 5) (yCF e he) (ymW yas Q) (by intro F H h;unfold ymW yhO at h;split at h <;> exact h) (by intro n F H h;unfold ymW yhO at h;split at h;exact (yxT ..).mpr h;exact h.elim)
 have h:yhO F H _:=h
 unfold yhO at h
 split at h
 ·obtain ⟨n,h⟩:=h;exact go n _ _ h
 ·exact h.elim
theorem yIF (e:Es) (a0 p0 p1 K):WP (yol e a0) 6 yJ7 [(.agg [(.data p0),(.data p1)])] K=ysw a0 p0 p1 (fun r0=>K (.int .i64 r0)):=by kernel_rfl
theorem yla (e:Es) (he:EG e):OkF (E e) yzs ydz:=by
 intro as K h
 unfold yzs yiU at h
 split at h
 ·exact ya6 (yq0 e he) (ybg (l:=[(12157600,yo9),(12157601,ypa)]) ⟨yBc e he,yBd e he,trivial⟩ (by kernel_rfl)) (by kernel_rfl) (by kernel_rfl) (fun _=>yab (by kernel_rfl) _) (he.num _ (by kernel_rfl)) ((yIF ..).mpr h)
 ·exact h.elim
abbrev yhk:Type:=Ls→(Ls→Prop)→Prop
mutual
def yft (a0:yeP) (x0:Ls→Ls→Int→Int→Bool→Prop) (x1:Ls→Int→Int→Bool→Prop):Nat→Ls→Int→Int→Prop
 | 0,_,_,_=>False
 | n+1,l0,i1,i2 =>
 (cbr (decide (i2<i1))
 (asr (decide ((0:Int)≤i2))
 (asr (decide (i2<(((List.length l0):Nat):Int)))
 (asr (conf (.agg [.i .i64,.d,.d]) (List.getD l0 (i2.toNat) .nils))
 (a0 (yaA (yag (List.getD l0 (i2.toNat) .nils) 1)) (fun a =>
 (a0 (yaA (yag (List.getD l0 (i2.toNat) .nils) 2)) (fun b =>
 (asr (decide (1=List.length ([(.agg [(.int .i64 (yaa (yag (List.getD l0 (i2.toNat) .nils) 0))),(.data a),(.data b)])]:Ls))&&decide (1=List.length ([(.agg [(.int .i64 (yaa (yag (List.getD l0 (i2.toNat) .nils) 0))),(.data a),(.data b)])]:Ls)))
 (ydI a0 x0 x1 n ([(.agg [(.int .i64 (yaa (yag (List.getD l0 (i2.toNat) .nils) 0))),(.data a),(.data b)])]:Ls) l0 i1 (IntKind.i64.wrap (i2+(1:Int))))))))))))
 (x1 l0 i1 i2 false))
def ydI (a0:yeP) (x0:Ls→Ls→Int→Int→Bool→Prop) (x1:Ls→Int→Int→Bool→Prop):Nat→Ls→Ls→Int→Int→Prop
 | 0,_,_,_,_=>False
 | n+1,l0,l3,i4,i5 =>
 (cbr (decide (i5<i4))
 (asr (decide ((0:Int)≤i5))
 (asr (decide (i5<(((List.length l3):Nat):Int)))
 (asr (conf (.agg [.i .i64,.d,.d]) (List.getD l3 (i5.toNat) .nils))
 (a0 (yaA (yag (List.getD l3 (i5.toNat) .nils) 1)) (fun a =>
 (a0 (yaA (yag (List.getD l3 (i5.toNat) .nils) 2)) (fun b =>
 (asr (decide ((List.length l0)=(List.length l0)))
 (asr (decide ((0+(List.length l0))≤(List.length l0)))
 (asr (!(decide (((0+(List.length l0))+1)≤(List.length l0))))
 (asr (decide ((List.length l0)=(List.length l0)))
 (asr (decide ((((List.length l0)+1)+64)*(56+1)≤room))
 (asr (decide ((List.length (l0++([(.agg [(.int .i64 (yaa (yag (List.getD l3 (i5.toNat) .nils) 0))),(.data a),(.data b)])]:Ls)))=List.length (l0++([(.agg [(.int .i64 (yaa (yag (List.getD l3 (i5.toNat) .nils) 0))),(.data a),(.data b)])]:Ls)))&&decide ((List.length (l0++([(.agg [(.int .i64 (yaa (yag (List.getD l3 (i5.toNat) .nils) 0))),(.data a),(.data b)])]:Ls)))=List.length (l0++([(.agg [(.int .i64 (yaa (yag (List.getD l3 (i5.toNat) .nils) 0))),(.data a),(.data b)])]:Ls))))
 (ydI a0 x0 x1 n (l0++([(.agg [(.int .i64 (yaa (yag (List.getD l3 (i5.toNat) .nils) 0))),(.data a),(.data b)])]:Ls)) l3 i4 (IntKind.i64.wrap (i5+(1:Int)))))))))))))))))
 (x0 l0 l3 i4 i5 false))
end
def yq1 (a0:yeP) (p0:Ls) (K:Ls→Prop):Prop :=
 (∃ n:Nat,yft a0
 (fun a _ _ _ _=>(asr (decide ((List.length a)=(List.length a)))
 (asr (decide ((0+(List.length a))≤(List.length a)))
 (K (List.take (List.length a) a)))))
 (fun _ _ _ _=>(K ([]:Ls)))
 n p0 (((List.length p0):Nat):Int) (0:Int))
def yfk (p0:Ls) (K:Ls→Prop):Prop:=yq1 ydX p0 K
def ymX (w:yhk) (as:Ls) (K:PV→Prop):Prop :=
 match as with
 | [(.data p0)]=>w p0 (fun r0=>K (.data r0))
 | _=>False
def ywS (as:Ls) (K:PV→Prop):Prop:=ymX yfk as K
def ygP (F:Frm) (H:Hp) (A0:Ls→Int→Int→Prop) (A1:Ls→Ls→Int→Int→Prop):Prop :=
 match F,H with
 | [(3,.v .nils),(6,.v (.data l0)),(7,.v (.int .i64 i1)),(8,.v (.int .i64 i2))],[]=>(A0 l0 i1 i2)
 | [(3,.v (.own 0 0 t1 t2 none)),(6,.v (.data l3)),(7,.v (.int .i64 i4)),(8,.v (.int .i64 i5))],[⟨false,true,3,l0⟩]=>asr (decide (t1=List.length l0)&&decide (t2=List.length l0)) (A1 l0 l3 i4 i5)
 | _,_=>False
def yfu (Q:Qx):Ls→Ls→Int→Int→Bool→Prop:=(fun l0 l3 i4 i5 b6=>Q (.exit 0) [(3,.v (.own 0 0 (List.length l0) (List.length l0) none)),(6,.v (.data l3)),(7,.v (.int .i64 i4)),(8,.v (.int .i64 i5)),(9,.v (.bool b6))] [⟨false,true,3,l0⟩])
def yfv (Q:Qx):Ls→Int→Int→Bool→Prop:=(fun l0 i1 i2 b3=>Q (.exit 0) [(3,.v .nils),(6,.v (.data l0)),(7,.v (.int .i64 i1)),(8,.v (.int .i64 i2)),(9,.v (.bool b3))] [])
def yiu (a0:yeP) (Q:Qx) (n:Nat) (F:Frm) (H:Hp):Prop:=ygP F H (fun l0 i1 i2=>yft a0 (yfu Q) (yfv Q) n l0 i1 i2) (fun l0 l3 i4 i5=>ydI a0 (yfu Q) (yfv Q) n l0 l3 i4 i5)
def yjM (a0:yeP):LP:=fun id F H Q =>
 bif Nat.beq id 94933800 then ygP F H (fun l0 i1 i2=>∃ n:Nat,yft a0 (yfu Q) (yfv Q) n l0 i1 i2) (fun l0 l3 i4 i5=>∃ n:Nat,ydI a0 (yfu Q) (yfv Q) n l0 l3 i4 i5) else
 False
def ymY (e:Es) (a0:yeP):SE:=⟨(E e),yaK [(ydR,yxA a0)],yaL [],yjM a0⟩
theorem yuq (e:Es) (he:EG e):SEOk (ymY e ydX):=yat ⟨(yxC e he),trivial⟩ trivial he.ok
theorem yv4 (e:Es) (a0 Q n l0 i1 i2):WC (E e) (ybd (ymY e a0) 5) (yjM a0) ylQ [(3,.v .nils),(6,.v (.data l0)),(7,.v (.int .i64 i1)),(8,.v (.int .i64 i2))] [] (exQ (yiu a0 Q n) Q)=yft a0 (yfu Q) (yfv Q) (n+1) l0 i1 i2:=by kernel_rfl
theorem yv5 (e:Es) (a0 Q n l0 l3 i4 i5):WC (E e) (ybd (ymY e a0) 5) (yjM a0) ylQ [(3,.v (.own 0 0 (List.length l0) (List.length l0) none)),(6,.v (.data l3)),(7,.v (.int .i64 i4)),(8,.v (.int .i64 i5))] [⟨false,true,3,l0⟩] (exQ (yiu a0 Q n) Q)=ydI a0 (yfu Q) (yfv Q) (n+1) l0 l3 i4 i5:=by kernel_rfl
theorem yBe (e:Es) (_:EG e):LpOk (E e) (yjM ydX) ylQ:=(yai (by kernel_rfl))
theorem yzt (e:Es) (he:EG e):∀ F H Q,yjM ydX 94933800 F H Q→ycr (E e) ylQ F H Q:=by
 intro F H Q h
 have go:=ycr.intro (yaG (yuq e he) 5) (yBe e he) (yiu ydX Q) (by
  intro F H h
  unfold yiu ygP at h
  split at h
  ·exact h
  ·obtain ⟨hg,k⟩:=yah.1 h
   clear h
   have h:=k
   clear k
   try simp only [qAc,decide_eq_true_eq] at hg
   obtain ⟨g0,g1⟩:=hg;subst g0;subst g1;exact h
  ·exact h) (by
  intro n F H h
  unfold yiu ygP at h
  split at h
  ·exact (yv4 ..).mpr h
  ·obtain ⟨hg,k⟩:=yah.1 h
   clear h
   have h:=k
   clear k
   try simp only [qAc,decide_eq_true_eq] at hg
   obtain ⟨g0,g1⟩:=hg;subst g0;subst g1;exact (yv5 ..).mpr h
  ·exact h.elim)
 have h:ygP F H _ _:=h
 unfold ygP at h
 split at h
 ·obtain ⟨n,h⟩:=h;exact go n _ _ h
 ·obtain ⟨hg,n,h⟩:=yah.1 h;exact go n _ _ (yah.2 ⟨hg,h⟩)
 ·exact h.elim
theorem yGd (e:Es) (a0 p0 K):WP (ymY e a0) 6 yId [(.data p0)] K=yq1 a0 p0 (fun r0=>K (.data r0)):=by kernel_rfl
theorem yq2 (e:Es) (he:EG e):OkF (E e) ywS yg5:=by
 intro as K h
 unfold ywS ymX at h
 split at h
 ·exact ya6 (yuq e he) (ybg (l:=[(94933800,ylQ)]) ⟨yzt e he,trivial⟩ (by kernel_rfl)) (by kernel_rfl) (by kernel_rfl) (fun _=>yab (by kernel_rfl) _) (he.num _ (by kernel_rfl)) ((yGd ..).mpr h)
 ·exact h.elim
abbrev ye6:Type:=Ls→(Ls→Ls→Int→Prop)→Prop
def yur (a0:ybS) (a1:yhk) (p0:Ls) (K:Ls→Ls→Int→Prop):Prop :=
 (a0 p0 ([]:Ls) (fun a =>
 (cbr (a !=(0:Int))
 (K ([]:Ls) ([]:Ls) a)
 (a1 p0 (fun b =>
 (K b ([]:Ls) (0:Int)))))))
def ycg (p0:Ls) (K:Ls→Ls→Int→Prop):Prop:=yur ybr yfk p0 K
def yus (w:ye6) (as:Ls) (K:PV→Prop):Prop :=
 match as with
 | [(.data p0)]=>w p0 (fun r0 r1 r2=>K (.tup [(.agg [(.data r0),(.data r1)]),(.int .i64 r2)]))
 | _=>False
def yBW (as:Ls) (K:PV→Prop):Prop:=yus ycg as K
def yKp (_:ybS) (_:yhk):LP:=fun _ _ _ _ =>
 False
def yBX (e:Es) (a0:ybS) (a1:yhk):SE:=⟨(E e),yaK [(ydz,yiU a0),(yg5,ymX a1)],yaL [],yKp a0 a1⟩
theorem yIG (e:Es) (he:EG e):SEOk (yBX e ybr yfk):=yat ⟨(yla e he),(yq2 e he),trivial⟩ trivial he.ok
theorem yKq (e:Es) (a0 a1 p0 K):WP (yBX e a0 a1) 6 yMh [(.data p0)] K=yur a0 a1 p0 (fun r0 r1 r2=>K (.tup [(.agg [(.data r0),(.data r1)]),(.int .i64 r2)])):=by kernel_rfl
theorem yKr (e:Es) (he:EG e):OkF (E e) yBW yoY:=by
 intro as K h
 unfold yBW yus at h
 split at h
 ·exact ya6 (yIG e he) (yai (by kernel_rfl)) (by kernel_rfl) (by kernel_rfl) (fun _=>yab (by kernel_rfl) _) (he.num _ (by kernel_rfl)) ((yKq ..).mpr h)
 ·exact h.elim
abbrev ycI:Type:=Ls→Ls→Int→Int→Int→Int→Int→(Int→Int→Int→Prop)→Prop
def yhl (a0:yqo) (p0 _:Ls) (p2 p3 p4 p5 p6:Int) (K:Int→Int→Int→Prop):Prop :=
 (asr (decide ((0:Int)≤p2))
 (asr (decide (p2<(((List.length p0):Nat):Int)))
 (asr (conf (.agg [.i .i64,.d,.d]) (List.getD p0 (p2.toNat) .nils))
 (a0 (yaa (yag (List.getD p0 (p2.toNat) .nils) 0)) (yaA (yag (List.getD p0 (p2.toNat) .nils) 1)) (yaA (yag (List.getD p0 (p2.toNat) .nils) 2)) p3 p4 p5 p6 (fun a b c =>
 (K a b c))))))
def ybE (p0 p1:Ls) (p2 p3 p4 p5 p6:Int) (K:Int→Int→Int→Prop):Prop:=yhl yiq p0 p1 p2 p3 p4 p5 p6 K
def yhm (w:ycI) (as:Ls) (K:PV→Prop):Prop :=
 match as with
 | [(.agg [(.data p0),(.data p1)]),(.int .i64 p2),(.agg [(.int .i64 p3),(.int .i64 p4)]),(.agg [(.int .i64 p5),(.int .i64 p6)])]=>w p0 p1 p2 p3 p4 p5 p6 (fun r0 r1 r2=>K (.tup [(.agg [(.int .i64 r0),(.int .i64 r1)]),(.int .i64 r2)]))
 | _=>False
def ypI (as:Ls) (K:PV→Prop):Prop:=yhm ybE as K
def yxU (_:yqo):LP:=fun _ _ _ _ =>
 False
def ypJ (e:Es) (a0:yqo):SE:=⟨(E e),yaK [(yii,yss a0)],yaL [],yxU a0⟩
theorem yv6 (e:Es) (he:EG e):SEOk (ypJ e yiq):=yat ⟨(yzm e he),trivial⟩ trivial he.ok
theorem yxV (e:Es) (a0 p0 p1 p2 p3 p4 p5 p6 K):WP (ypJ e a0) 6 yyZ [(.agg [(.data p0),(.data p1)]),(.int .i64 p2),(.agg [(.int .i64 p3),(.int .i64 p4)]),(.agg [(.int .i64 p5),(.int .i64 p6)])] K=yhl a0 p0 p1 p2 p3 p4 p5 p6 (fun r0 r1 r2=>K (.tup [(.agg [(.int .i64 r0),(.int .i64 r1)]),(.int .i64 r2)])):=by kernel_rfl
theorem ypK (e:Es) (he:EG e):OkF (E e) ypI ydT:=by
 intro as K h
 unfold ypI yhm at h
 split at h
 ·exact ya6 (yv6 e he) (yai (by kernel_rfl)) (by kernel_rfl) (by kernel_rfl) (fun _=>yab (by kernel_rfl) _) (he.num _ (by kernel_rfl)) ((yxV ..).mpr h)
 ·exact h.elim
abbrev yc3:Type:=Ls→Ls→Int→(Bool→Prop)→Prop
def ylb (p0 _:Ls) (p2:Int) (K:Bool→Prop):Prop :=
 (cbr (decide (p2≥(0:Int)))
 (K (decide (p2<(((List.length p0):Nat):Int))))
 (K false))
def ybL (p0 p1:Ls) (p2:Int) (K:Bool→Prop):Prop:=ylb p0 p1 p2 K
def yia (w:yc3) (as:Ls) (K:PV→Prop):Prop :=
 match as with
 | [(.agg [(.data p0),(.data p1)]),(.int .i64 p2)]=>w p0 p1 p2 (fun r0=>K (.bool r0))
 | _=>False
def yqp (as:Ls) (K:PV→Prop):Prop:=yia ybL as K
def yzu:LP:=fun _ _ _ _ =>
 False
def yqq (e:Es):SE:=⟨(E e),yaK [],yaL [],yzu⟩
theorem yxW (e:Es) (he:EG e):SEOk (yqq e):=yat trivial trivial he.ok
theorem yzv (e:Es) ( p0 p1 p2 K):WP (yqq e) 6 yAR [(.agg [(.data p0),(.data p1)]),(.int .i64 p2)] K=ylb p0 p1 p2 (fun r0=>K (.bool r0)):=by kernel_rfl
theorem yqr (e:Es) (he:EG e):OkF (E e) yqp yei:=by
 intro as K h
 unfold yqp yia at h
 split at h
 ·exact ya6 (yxW e he) (yai (by kernel_rfl)) (by kernel_rfl) (by kernel_rfl) (fun _=>yab (by kernel_rfl) _) (he.num _ (by kernel_rfl)) ((yzv ..).mpr h)
 ·exact h.elim
abbrev ye7:Type:=Ls→Ls→Int→Int→Int→Int→Int→(Ls→Ls→Int→Int→Int→Prop)→Prop
def yut (a0:ybS) (a1:yc3) (a2:ycI) (a3:yhk) (p0 p1:Ls) (p2 p3 p4 p5 p6:Int) (K:Ls→Ls→Int→Int→Int→Prop):Prop :=
 (a0 p0 p1 (fun c =>
 (cbr (c !=(0:Int))
 (K ([]:Ls) ([]:Ls) (0:Int) (0:Int) c)
 (a1 p0 p1 p2 (fun f =>
 (cbr (!f)
 (K ([]:Ls) ([]:Ls) (0:Int) (0:Int) (2:Int))
 (a2 p0 p1 p2 p3 p4 p5 p6 (fun a b d =>
 (cbr (d !=(0:Int))
 (K ([]:Ls) ([]:Ls) (0:Int) (0:Int) d)
 (cbr (decide ((((List.length p1):Nat):Int)≥(2000:Int)))
 (K ([]:Ls) ([]:Ls) (0:Int) (0:Int) (4:Int))
 (asr (decide ((0:Int)≤(IntKind.i64.wrap ((((List.length p1):Nat):Int)+(1:Int)))))
 (asr (decide ((((IntKind.i64.wrap ((((List.length p1):Nat):Int)+(1:Int))).toNat)+64)*(64+1)≤room))
 (a3 p0 (fun e =>
 (asr (yeC 8 p1)
 (asr (decide ((List.length (List.replicate ((IntKind.i64.wrap ((((List.length p1):Nat):Int)+(1:Int))).toNat) ((.agg [(.int .i64 (0)),(.int .u8 (0)),(.int .i64 (0)),(.int .i64 (0)),(.int .i64 (0)),(.int .i64 (0)),(.int .i64 (0)),(.int .i64 (0))]):PV)))=((IntKind.i64.wrap ((((List.length p1):Nat):Int)+(1:Int))).toNat)))
 (asr (decide (0≤((IntKind.i64.wrap ((((List.length p1):Nat):Int)+(1:Int))).toNat)))
 (cbr (List.isEmpty p1)
 (asr (decide ((List.length (List.replicate ((IntKind.i64.wrap ((((List.length p1):Nat):Int)+(1:Int))).toNat) ((.agg [(.int .i64 (0)),(.int .u8 (0)),(.int .i64 (0)),(.int .i64 (0)),(.int .i64 (0)),(.int .i64 (0)),(.int .i64 (0)),(.int .i64 (0))]):PV)))=((IntKind.i64.wrap ((((List.length p1):Nat):Int)+(1:Int))).toNat)))
 (asr (decide (0≤((IntKind.i64.wrap ((((List.length p1):Nat):Int)+(1:Int))).toNat)))
 (asr (decide (1≤((IntKind.i64.wrap ((((List.length p1):Nat):Int)+(1:Int))).toNat)))
 (asr (decide ((List.length (([(.agg [(.int .i64 p2),(.int .u8 (2:Int)),(.int .i64 p3),(.int .i64 p4),(.int .i64 p5),(.int .i64 p6),(.int .i64 a),(.int .i64 b)])]:Ls)++(List.drop 1 (List.replicate ((IntKind.i64.wrap ((((List.length p1):Nat):Int)+(1:Int))).toNat) ((.agg [(.int .i64 (0)),(.int .u8 (0)),(.int .i64 (0)),(.int .i64 (0)),(.int .i64 (0)),(.int .i64 (0)),(.int .i64 (0)),(.int .i64 (0))]):PV)))))=((IntKind.i64.wrap ((((List.length p1):Nat):Int)+(1:Int))).toNat)))
 (asr (decide (1≤((IntKind.i64.wrap ((((List.length p1):Nat):Int)+(1:Int))).toNat)))
 (K e (List.take 1 (([(.agg [(.int .i64 p2),(.int .u8 (2:Int)),(.int .i64 p3),(.int .i64 p4),(.int .i64 p5),(.int .i64 p6),(.int .i64 a),(.int .i64 b)])]:Ls)++(List.drop 1 (List.replicate ((IntKind.i64.wrap ((((List.length p1):Nat):Int)+(1:Int))).toNat) ((.agg [(.int .i64 (0)),(.int .u8 (0)),(.int .i64 (0)),(.int .i64 (0)),(.int .i64 (0)),(.int .i64 (0)),(.int .i64 (0)),(.int .i64 (0))]):PV))))) a b (0:Int)))))))
 (asr (decide ((0+(List.length p1))≤((IntKind.i64.wrap ((((List.length p1):Nat):Int)+(1:Int))).toNat)))
 (asr (decide ((List.length (p1++(List.drop (0+(List.length p1)) (List.replicate ((IntKind.i64.wrap ((((List.length p1):Nat):Int)+(1:Int))).toNat) ((.agg [(.int .i64 (0)),(.int .u8 (0)),(.int .i64 (0)),(.int .i64 (0)),(.int .i64 (0)),(.int .i64 (0)),(.int .i64 (0)),(.int .i64 (0))]):PV)))))=((IntKind.i64.wrap ((((List.length p1):Nat):Int)+(1:Int))).toNat)))
 (asr (decide ((0+(0+(List.length p1)))≤((IntKind.i64.wrap ((((List.length p1):Nat):Int)+(1:Int))).toNat)))
 (asr (decide (((0+(List.length p1))+1)≤((IntKind.i64.wrap ((((List.length p1):Nat):Int)+(1:Int))).toNat)))
 (asr (decide ((List.length ((List.take (0+(0+(List.length p1))) (p1++(List.drop (0+(List.length p1)) (List.replicate ((IntKind.i64.wrap ((((List.length p1):Nat):Int)+(1:Int))).toNat) ((.agg [(.int .i64 (0)),(.int .u8 (0)),(.int .i64 (0)),(.int .i64 (0)),(.int .i64 (0)),(.int .i64 (0)),(.int .i64 (0)),(.int .i64 (0))]):PV)))))++(([(.agg [(.int .i64 p2),(.int .u8 (2:Int)),(.int .i64 p3),(.int .i64 p4),(.int .i64 p5),(.int .i64 p6),(.int .i64 a),(.int .i64 b)])]:Ls)++(List.drop ((0+(0+(List.length p1)))+1) (p1++(List.drop (0+(List.length p1)) (List.replicate ((IntKind.i64.wrap ((((List.length p1):Nat):Int)+(1:Int))).toNat) ((.agg [(.int .i64 (0)),(.int .u8 (0)),(.int .i64 (0)),(.int .i64 (0)),(.int .i64 (0)),(.int .i64 (0)),(.int .i64 (0)),(.int .i64 (0))]):PV))))))))=((IntKind.i64.wrap ((((List.length p1):Nat):Int)+(1:Int))).toNat)))
 (asr (decide ((0+((0+(List.length p1))+1))≤((IntKind.i64.wrap ((((List.length p1):Nat):Int)+(1:Int))).toNat)))
 (K e (List.take ((0+(List.length p1))+1) ((List.take (0+(0+(List.length p1))) (p1++(List.drop (0+(List.length p1)) (List.replicate ((IntKind.i64.wrap ((((List.length p1):Nat):Int)+(1:Int))).toNat) ((.agg [(.int .i64 (0)),(.int .u8 (0)),(.int .i64 (0)),(.int .i64 (0)),(.int .i64 (0)),(.int .i64 (0)),(.int .i64 (0)),(.int .i64 (0))]):PV)))))++(([(.agg [(.int .i64 p2),(.int .u8 (2:Int)),(.int .i64 p3),(.int .i64 p4),(.int .i64 p5),(.int .i64 p6),(.int .i64 a),(.int .i64 b)])]:Ls)++(List.drop ((0+(0+(List.length p1)))+1) (p1++(List.drop (0+(List.length p1)) (List.replicate ((IntKind.i64.wrap ((((List.length p1):Nat):Int)+(1:Int))).toNat) ((.agg [(.int .i64 (0)),(.int .u8 (0)),(.int .i64 (0)),(.int .i64 (0)),(.int .i64 (0)),(.int .i64 (0)),(.int .i64 (0)),(.int .i64 (0))]):PV)))))))) a b (0:Int))))))))))))))))))))))))))
def ybF (p0 p1:Ls) (p2 p3 p4 p5 p6:Int) (K:Ls→Ls→Int→Int→Int→Prop):Prop:=yut ybr ybL ybE yfk p0 p1 p2 p3 p4 p5 p6 K
def yuu (w:ye7) (as:Ls) (K:PV→Prop):Prop :=
 match as with
 | [(.agg [(.data p0),(.data p1)]),(.int .i64 p2),(.agg [(.int .i64 p3),(.int .i64 p4)]),(.agg [(.int .i64 p5),(.int .i64 p6)])]=>w p0 p1 p2 p3 p4 p5 p6 (fun r0 r1 r2 r3 r4=>K (.tup [(.agg [(.data r0),(.data r1)]),(.agg [(.int .i64 r2),(.int .i64 r3)]),(.int .i64 r4)]))
 | _=>False
def yBY (as:Ls) (K:PV→Prop):Prop:=yuu ybF as K
def yKs (_:ybS) (_:yc3) (_:ycI) (_:yhk):LP:=fun _ _ _ _ =>
 False
def yBZ (e:Es) (a0:ybS) (a1:yc3) (a2:ycI) (a3:yhk):SE:=⟨(E e),yaK [(ydz,yiU a0),(yei,yia a1),(ydT,yhm a2),(yg5,ymX a3)],yaL [(ylP,yAS)],yKs a0 a1 a2 a3⟩
theorem yIH (e:Es) (he:EG e):SEOk (yBZ e ybr ybL ybE yfk):=yat ⟨(yla e he),(yqr e he),(ypK e he),(yq2 e he),trivial⟩ ⟨⟨by kernel_rfl,by kernel_rfl,rfl,fun as=>yab (by kernel_rfl) as,he.num _ (by kernel_rfl),(yai (by kernel_rfl))⟩,trivial⟩ he.ok
theorem yKt (e:Es) (a0 a1 a2 a3 p0 p1 p2 p3 p4 p5 p6 K):WP (yBZ e a0 a1 a2 a3) 6 yMi [(.agg [(.data p0),(.data p1)]),(.int .i64 p2),(.agg [(.int .i64 p3),(.int .i64 p4)]),(.agg [(.int .i64 p5),(.int .i64 p6)])] K=yut a0 a1 a2 a3 p0 p1 p2 p3 p4 p5 p6 (fun r0 r1 r2 r3 r4=>K (.tup [(.agg [(.data r0),(.data r1)]),(.agg [(.int .i64 r2),(.int .i64 r3)]),(.int .i64 r4)])):=by kernel_rfl
theorem yB0 (e:Es) (he:EG e):OkF (E e) yBY yoZ:=by
 intro as K h
 unfold yBY yuu at h
 split at h
 ·exact ya6 (yIH e he) (yai (by kernel_rfl)) (by kernel_rfl) (by kernel_rfl) (fun _=>yab (by kernel_rfl) _) (he.num _ (by kernel_rfl)) ((yKt ..).mpr h)
 ·exact h.elim
abbrev yen:Type:=Ls→Ls→Int→Int→Int→Int→Int→(Int→Int→Int→Prop)→Prop
def yjx (a0:yez) (p0 _:Ls) (p2 p3 p4 p5 p6:Int) (K:Int→Int→Int→Prop):Prop :=
 (asr (decide ((0:Int)≤p2))
 (asr (decide (p2<(((List.length p0):Nat):Int)))
 (asr (conf (.agg [.i .i64,.d,.d]) (List.getD p0 (p2.toNat) .nils))
 (a0 (yaa (yag (List.getD p0 (p2.toNat) .nils) 0)) (yaA (yag (List.getD p0 (p2.toNat) .nils) 1)) (yaA (yag (List.getD p0 (p2.toNat) .nils) 2)) p3 p4 p5 p6 (fun a b c =>
 (K a b c))))))
def ycp (p0 p1:Ls) (p2 p3 p4 p5 p6:Int) (K:Int→Int→Int→Prop):Prop:=yjx ybw p0 p1 p2 p3 p4 p5 p6 K
def yjy (w:yen) (as:Ls) (K:PV→Prop):Prop :=
 match as with
 | [(.agg [(.data p0),(.data p1)]),(.int .i64 p2),(.agg [(.int .i64 p3),(.int .i64 p4)]),(.agg [(.int .i64 p5),(.int .i64 p6)])]=>w p0 p1 p2 p3 p4 p5 p6 (fun r0 r1 r2=>K (.tup [(.agg [(.int .i64 r0),(.int .i64 r1)]),(.int .i64 r2)]))
 | _=>False
def yn6 (as:Ls) (K:PV→Prop):Prop:=yjy ycp as K
def yv7 (_:yez):LP:=fun _ _ _ _ =>
 False
def yoa (e:Es) (a0:yez):SE:=⟨(E e),yaK [(yew,yjL a0)],yaL [],yv7 a0⟩
theorem yuv (e:Es) (he:EG e):SEOk (yoa e ybw):=yat ⟨(ymT e he),trivial⟩ trivial he.ok
theorem yv8 (e:Es) (a0 p0 p1 p2 p3 p4 p5 p6 K):WP (yoa e a0) 6 yxz [(.agg [(.data p0),(.data p1)]),(.int .i64 p2),(.agg [(.int .i64 p3),(.int .i64 p4)]),(.agg [(.int .i64 p5),(.int .i64 p6)])] K=yjx a0 p0 p1 p2 p3 p4 p5 p6 (fun r0 r1 r2=>K (.tup [(.agg [(.int .i64 r0),(.int .i64 r1)]),(.int .i64 r2)])):=by kernel_rfl
theorem yv9 (e:Es) (he:EG e):OkF (E e) yn6 yfE:=by
 intro as K h
 unfold yn6 yjy at h
 split at h
 ·exact ya6 (yuv e he) (yai (by kernel_rfl)) (by kernel_rfl) (by kernel_rfl) (fun _=>yab (by kernel_rfl) _) (he.num _ (by kernel_rfl)) ((yv8 ..).mpr h)
 ·exact h.elim
abbrev yiV:Type:=Ls→Ls→(Int→Int→Prop)→Prop
def ydJ (a0:ybS) (a1:yc3) (a2:ycI) (a3:yen) (x0:Ls→Ls→Ls→Ls→Int→Int→Bool→Prop) (x1:Int→Int→Prop):Nat→Ls→Ls→Ls→Ls→Int→Int→Prop
 | 0,_,_,_,_,_,_=>False
 | n+1,l0,l1,l2,l3,i4,i5 =>
 (cbr (decide (i5<i4))
 (jn (fun d =>
 (asr (decide ((0:Int)≤i5))
 (asr (decide (i5<(((List.length l3):Nat):Int)))
 (lt (List.getD l3 (i5.toNat) .nils) (fun a =>
 (asr (conf (.agg [.i .i64,.i .u8,.i .i64,.i .i64,.i .i64,.i .i64,.i .i64,.i .i64]) a)
 (cbr ((yaa (yag a 1)) ==(2:Int))
 (jn (fun (b:Bool→Prop) =>
 (a1 l1 l2 (yaa (yag a 0)) (fun g =>
 (cbr (!g)
 (b true)
 (cbr (decide ((yaa (yag a 1))<(1:Int)))
 (b true)
 (b (decide ((yaa (yag a 1))>(2:Int)))))))))
 (fun h=>(cbr h
 (x1 i5 (0:Int))
 (a2 l1 l2 (yaa (yag a 0)) (yaa (yag a 2)) (yaa (yag a 3)) (yaa (yag a 4)) (yaa (yag a 5)) (fun j k l =>
 (jn (fun (e:Bool→Prop) =>
 (cbr (l !=(0:Int))
 (e true)
 (e (!((j ==(yaa (yag a 6)))&&((k ==(yaa (yag a 7)))&&true))))))
 (fun m=>(cbr m
 (x1 i5 (0:Int))
 d))))))))
 (jn (fun (c:Bool→Prop) =>
 (a1 l1 l2 (yaa (yag a 0)) (fun o =>
 (cbr (!o)
 (c true)
 (cbr (decide ((yaa (yag a 1))<(1:Int)))
 (c true)
 (c (decide ((yaa (yag a 1))>(2:Int)))))))))
 (fun p=>(cbr p
 (x1 i5 (0:Int))
 (a3 l1 l2 (yaa (yag a 0)) (yaa (yag a 2)) (yaa (yag a 3)) (yaa (yag a 4)) (yaa (yag a 5)) (fun q r s =>
 (jn (fun (f:Bool→Prop) =>
 (cbr (s !=(0:Int))
 (f true)
 (f (!((q ==(yaa (yag a 6)))&&((r ==(yaa (yag a 7)))&&true))))))
 (fun t=>(cbr t
 (x1 i5 (0:Int))
 d)))))))))))))))
 (lt (IntKind.i64.wrap (i5+(1:Int))) (fun u =>
 (ydJ a0 a1 a2 a3 x0 x1 n l0 l1 l2 l3 i4 u))))
 (x0 l0 l1 l2 l3 i4 i5 false))
def yq3 (a0:ybS) (a1:yc3) (a2:ycI) (a3:yen) (p0 p1:Ls) (K:Int→Int→Prop):Prop :=
 (a0 p0 p1 (fun a =>
 (cbr (a !=(0:Int))
 (K (0:Int) a)
 (∃ n:Nat,ydJ a0 a1 a2 a3
 (fun b _ _ _ _ _ _=>(K (((List.length b):Nat):Int) (0:Int)))
 (fun c d=>(K c d))
 n p1 p0 p1 p1 (((List.length p1):Nat):Int) (0:Int)))))
def yds (p0 p1:Ls) (K:Int→Int→Prop):Prop:=yq3 ybr ybL ybE ycp p0 p1 K
def yq4 (w:yiV) (as:Ls) (K:PV→Prop):Prop :=
 match as with
 | [(.data p0),(.data p1)]=>w p0 p1 (fun r0 r1=>K (.tup [(.int .i64 r0),(.int .i64 r1)]))
 | _=>False
def ywT (as:Ls) (K:PV→Prop):Prop:=yq4 yds as K
def ygQ (F:Frm) (H:Hp) (A0:Ls→Ls→Ls→Ls→Int→Int→Prop):Prop :=
 match F,H with
 | [(1,.v (.data l0)),(6,.box (.agg [(.data l1),(.data l2)])),(25,.v (.data l3)),(26,.v (.int .i64 i4)),(27,.v (.int .i64 i5))],[]=>(A0 l0 l1 l2 l3 i4 i5)
 | _,_=>False
def ymp (Q:Qx):Ls→Ls→Ls→Ls→Int→Int→Bool→Prop:=(fun l0 l1 l2 l3 i4 i5 b6=>Q (.exit 0) [(1,.v (.data l0)),(6,.box (.agg [(.data l1),(.data l2)])),(25,.v (.data l3)),(26,.v (.int .i64 i4)),(27,.v (.int .i64 i5)),(28,.v (.bool b6))] [])
def ymq (Q:Qx):Int→Int→Prop:=(fun i0 i1=>Q .ret [(4,.v (.int .i64 i0)),(5,.v (.int .i64 i1))] [])
def ylc (a0:ybS) (a1:yc3) (a2:ycI) (a3:yen) (Q:Qx) (n:Nat) (F:Frm) (H:Hp):Prop:=ygQ F H (fun l0 l1 l2 l3 i4 i5=>ydJ a0 a1 a2 a3 (ymp Q) (ymq Q) n l0 l1 l2 l3 i4 i5)
def ymZ (a0:ybS) (a1:yc3) (a2:ycI) (a3:yen):LP:=fun id F H Q =>
 bif Nat.beq id 47732200 then ygQ F H (fun l0 l1 l2 l3 i4 i5=>∃ n:Nat,ydJ a0 a1 a2 a3 (ymp Q) (ymq Q) n l0 l1 l2 l3 i4 i5) else
 False
def yq5 (e:Es) (a0:ybS) (a1:yc3) (a2:ycI) (a3:yen):SE:=⟨(E e),yaK [(ydz,yiU a0),(yei,yia a1),(ydT,yhm a2),(yfE,yjy a3)],yaL [],ymZ a0 a1 a2 a3⟩
theorem yuw (e:Es) (he:EG e):SEOk (yq5 e ybr ybL ybE ycp):=yat ⟨(yla e he),(yqr e he),(ypK e he),(yv9 e he),trivial⟩ trivial he.ok
theorem ywa (e:Es) (a0 a1 a2 a3 Q n l0 l1 l2 l3 i4 i5):WC (E e) (ybd (yq5 e a0 a1 a2 a3) 5) (ymZ a0 a1 a2 a3) ypl [(1,.v (.data l0)),(6,.box (.agg [(.data l1),(.data l2)])),(25,.v (.data l3)),(26,.v (.int .i64 i4)),(27,.v (.int .i64 i5))] [] (exQ (ylc a0 a1 a2 a3 Q n) Q)=ydJ a0 a1 a2 a3 (ymp Q) (ymq Q) (n+1) l0 l1 l2 l3 i4 i5:=by kernel_rfl
theorem yBf (e:Es) (_:EG e):LpOk (E e) (ymZ ybr ybL ybE ycp) ypl:=(yai (by kernel_rfl))
theorem yzw (e:Es) (he:EG e):∀ F H Q,ymZ ybr ybL ybE ycp 47732200 F H Q→ycr (E e) ypl F H Q:=by
 intro F H Q h
 have go:=ycr.intro (yaG (yuw e he) 5) (yBf e he) (ylc ybr ybL ybE ycp Q) (by intro F H h;unfold ylc ygQ at h;split at h <;> exact h) (by intro n F H h;unfold ylc ygQ at h;split at h;exact (ywa ..).mpr h;exact h.elim)
 have h:ygQ F H _:=h
 unfold ygQ at h
 split at h
 ·obtain ⟨n,h⟩:=h;exact go n _ _ h
 ·exact h.elim
theorem yGe (e:Es) (a0 a1 a2 a3 p0 p1 K):WP (yq5 e a0 a1 a2 a3) 6 yIn [(.data p0),(.data p1)] K=yq3 a0 a1 a2 a3 p0 p1 (fun r0 r1=>K (.tup [(.int .i64 r0),(.int .i64 r1)])):=by kernel_rfl
theorem ywU (e:Es) (he:EG e):OkF (E e) ywT ykO:=by
 intro as K h
 unfold ywT yq4 at h
 split at h
 ·exact ya6 (yuw e he) (ybg (l:=[(47732200,ypl)]) ⟨yzw e he,trivial⟩ (by kernel_rfl)) (by kernel_rfl) (by kernel_rfl) (fun _=>yab (by kernel_rfl) _) (he.num _ (by kernel_rfl)) ((yGe ..).mpr h)
 ·exact h.elim
end Go.Pf.Vc
namespace Go.Pf.Vc
open Go Go.Pf
set_option linter.unusedVariables false
theorem yGf (p0:Ls) (p1:Ls) (r0:Int) (h:∀ K:Int→Prop,K r0→ybr p0 p1 K) (K:Int→Prop):ybr p0 p1 K=K r0 :=
 propext ⟨fun k=>detC (yla [] yba) (as:=[(.agg [(.data p0),(.data p1)])]) (x:=(.int .i64 r0)) (fun K' k'=>h (fun r0=>K' (.int .i64 r0)) k') (K:=fun x=>match x with | (.int .i64 r0)=>K r0 | _=>False) k,h K⟩
theorem yEs (p0:Ls) (r0:Ls) (h:∀ K:Ls→Prop,K r0→yfk p0 K) (K:Ls→Prop):yfk p0 K=K r0 :=
 propext ⟨fun k=>detC (yq2 [] yba) (as:=[(.data p0)]) (x:=(.data r0)) (fun K' k'=>h (fun r0=>K' (.data r0)) k') (K:=fun x=>match x with | (.data r0)=>K r0 | _=>False) k,h K⟩
theorem yII (p0:Ls) (p1:Ls) (p2:Int) (p3:Int) (p4:Int) (p5:Int) (p6:Int) (r0:Ls) (r1:Ls) (r2:Int) (r3:Int) (r4:Int) (h:∀ K:Ls→Ls→Int→Int→Int→Prop,K r0 r1 r2 r3 r4→ybF p0 p1 p2 p3 p4 p5 p6 K) (K:Ls→Ls→Int→Int→Int→Prop):ybF p0 p1 p2 p3 p4 p5 p6 K=K r0 r1 r2 r3 r4 :=
 propext ⟨fun k=>detC (yB0 [] yba) (as:=[(.agg [(.data p0),(.data p1)]),(.int .i64 p2),(.agg [(.int .i64 p3),(.int .i64 p4)]),(.agg [(.int .i64 p5),(.int .i64 p6)])]) (x:=(.tup [(.agg [(.data r0),(.data r1)]),(.agg [(.int .i64 r2),(.int .i64 r3)]),(.int .i64 r4)])) (fun K' k'=>h (fun r0 r1 r2 r3 r4=>K' (.tup [(.agg [(.data r0),(.data r1)]),(.agg [(.int .i64 r2),(.int .i64 r3)]),(.int .i64 r4)])) k') (K:=fun x=>match x with | (.tup [(.agg [(.data r0),(.data r1)]),(.agg [(.int .i64 r2),(.int .i64 r3)]),(.int .i64 r4)])=>K r0 r1 r2 r3 r4 | _=>False) k,h K⟩
theorem yEt (p0:Ls) (p1:Ls) (r0:Int) (r1:Int) (h:∀ K:Int→Int→Prop,K r0 r1→yds p0 p1 K) (K:Int→Int→Prop):yds p0 p1 K=K r0 r1 :=
 propext ⟨fun k=>detC (ywU [] yba) (as:=[(.data p0),(.data p1)]) (x:=(.tup [(.int .i64 r0),(.int .i64 r1)])) (fun K' k'=>h (fun r0 r1=>K' (.tup [(.int .i64 r0),(.int .i64 r1)])) k') (K:=fun x=>match x with | (.tup [(.int .i64 r0),(.int .i64 r1)])=>K r0 r1 | _=>False) k,h K⟩
end Go.Pf.Vc
namespace Go.Pf.Vc
open Go Go.Pf
set_option maxRecDepth 100000
abbrev ycY:Type:=Int→(Int→Int→Prop)→Prop
def yux (p0:Int) (K:Int→Int→Prop):Prop :=
 (K p0 (1:Int))
def ybm (p0:Int) (K:Int→Int→Prop):Prop:=yux p0 K
def ypL (w:ycY) (as:Ls) (K:PV→Prop):Prop :=
 match as with
 | [(.int .i64 p0)]=>w p0 (fun r0 r1=>K (.agg [(.int .i64 r0),(.int .i64 r1)]))
 | _=>False
def yuy (as:Ls) (K:PV→Prop):Prop:=ypL ybm as K
def yEu:LP:=fun _ _ _ _ =>
 False
def yuz (e:Es):SE:=⟨(E e),yaK [],yaL [],yEu⟩
theorem yCG (e:Es) (he:EG e):SEOk (yuz e):=yat trivial trivial he.ok
theorem yEv (e:Es) ( p0 K):WP (yuz e) 6 yFx [(.int .i64 p0)] K=yux p0 (fun r0 r1=>K (.agg [(.int .i64 r0),(.int .i64 r1)])):=by kernel_rfl
theorem yEw (e:Es) (he:EG e):OkF (E e) yuy ycS:=by
 intro as K h
 unfold yuy ypL at h
 split at h
 ·exact ya6 (yCG e he) (yai (by kernel_rfl)) (by kernel_rfl) (by kernel_rfl) (fun _=>yab (by kernel_rfl) _) (he.num _ (by kernel_rfl)) ((yEv ..).mpr h)
 ·exact h.elim
abbrev ydt:Type:=Int→Ls→Ls→Int→(Int→Int→Prop)→Prop
def yq6 (a0:yav) (a1:ybo) (p0:Int) (p1 p2:Ls) (p3:Int) (K:Int→Int→Prop):Prop :=
 (a0 p0 p1 p2 (fun a _ =>
 (a1 a p3 (fun b c _ =>
 (K b c)))))
def ybn (p0:Int) (p1 p2:Ls) (p3:Int) (K:Int→Int→Prop):Prop:=yq6 yae yan p0 p1 p2 p3 K
def yq7 (w:ydt) (as:Ls) (K:PV→Prop):Prop :=
 match as with
 | [(.agg [(.int .i64 p0),(.data p1),(.data p2)]),(.int .i64 p3)]=>w p0 p1 p2 p3 (fun r0 r1=>K (.agg [(.int .i64 r0),(.int .i64 r1)]))
 | _=>False
def ywV (as:Ls) (K:PV→Prop):Prop:=yq7 ybn as K
def yGg (_:yav) (_:ybo):LP:=fun _ _ _ _ =>
 False
def ywW (e:Es) (a0:yav) (a1:ybo):SE:=⟨(E e),yaK [(ycZ,yey a0),(yf8,yjJ a1)],yaL [],yGg a0 a1⟩
theorem yEx (e:Es) (he:EG e):SEOk (ywW e yae yan):=yat ⟨(yfq e he),(ymL e he),trivial⟩ trivial he.ok
theorem yGh (e:Es) (a0 a1 p0 p1 p2 p3 K):WP (ywW e a0 a1) 6 yIh [(.agg [(.int .i64 p0),(.data p1),(.data p2)]),(.int .i64 p3)] K=yq6 a0 a1 p0 p1 p2 p3 (fun r0 r1=>K (.agg [(.int .i64 r0),(.int .i64 r1)])):=by kernel_rfl
theorem yGi (e:Es) (he:EG e):OkF (E e) ywV yf9:=by
 intro as K h
 unfold ywV yq7 at h
 split at h
 ·exact ya6 (yEx e he) (yai (by kernel_rfl)) (by kernel_rfl) (by kernel_rfl) (fun _=>yab (by kernel_rfl) _) (he.num _ (by kernel_rfl)) ((yGh ..).mpr h)
 ·exact h.elim
abbrev ydu:Type:=Int→Int→Int→Int→(Bool→Prop)→Prop
def yq8 (a0:ybO) (p0 p1 p2 p3:Int) (K:Bool→Prop):Prop :=
 (a0 p0 p1 p2 p3 (fun a _ =>
 (K (decide (a<(0:Int))))))
def ya8 (p0 p1 p2 p3:Int) (K:Bool→Prop):Prop:=yq8 ybW p0 p1 p2 p3 K
def yq9 (w:ydu) (as:Ls) (K:PV→Prop):Prop :=
 match as with
 | [(.agg [(.int .i64 p0),(.int .i64 p1)]),(.agg [(.int .i64 p2),(.int .i64 p3)])]=>w p0 p1 p2 p3 (fun r0=>K (.bool r0))
 | _=>False
def ywX (as:Ls) (K:PV→Prop):Prop:=yq9 ya8 as K
def yGj (_:ybO):LP:=fun _ _ _ _ =>
 False
def ywY (e:Es) (a0:ybO):SE:=⟨(E e),yaK [(ycM,ygd a0)],yaL [],yGj a0⟩
theorem yEy (e:Es) (he:EG e):SEOk (ywY e ybW):=yat ⟨(yhf e he),trivial⟩ trivial he.ok
theorem yGk (e:Es) (a0 p0 p1 p2 p3 K):WP (ywY e a0) 6 yIl [(.agg [(.int .i64 p0),(.int .i64 p1)]),(.agg [(.int .i64 p2),(.int .i64 p3)])] K=yq8 a0 p0 p1 p2 p3 (fun r0=>K (.bool r0)):=by kernel_rfl
theorem yGl (e:Es) (he:EG e):OkF (E e) ywX yg6:=by
 intro as K h
 unfold ywX yq9 at h
 split at h
 ·exact ya6 (yEy e he) (yai (by kernel_rfl)) (by kernel_rfl) (by kernel_rfl) (fun _=>yab (by kernel_rfl) _) (he.num _ (by kernel_rfl)) ((yGk ..).mpr h)
 ·exact h.elim
abbrev yeA:Type:=Ls→(Ls→Ls→Ls→Int→Prop)→Prop
def ydf (a0:ye6) (a1:ycY) (a2:ydt) (a3:ye7) (a4:ydu) (a:Ls→Ls→Ls→Ls→Nat→Nat→Nat→Int→Int→Bool→Prop):Nat→Ls→Ls→Ls→Ls→Nat→Nat→Nat→Int→Int→Prop
 | 0,_,_,_,_,_,_,_,_,_=>False
 | b+1,l0,l1,l2,l3,n4,n5,n6,i7,i8 =>
 (cbr (decide (i8<i7))
 (asr (decide ((List.length l0)=n5))
 (asr (decide ((0+n4)≤n5))
 (asr (decide ((n4+1)≤n6))
 (ydf a0 a1 a2 a3 a4 a b ((List.take (0+n4) l0)++(([(.int .i64 i8)]:Ls)++(List.drop ((0+n4)+1) l0))) l1 l2 l3 (n4+1) n5 n6 i7 (IntKind.i64.wrap (i8+(1:Int)))))))
 (a l0 l1 l2 l3 n4 n5 n6 i7 i8 false))
mutual
def ycj (a0:ye6) (a1:ycY) (a2:ydt) (a3:ye7) (a4:ydu) (a:Ls→Ls→Int→Prop) (b:Ls→Ls→Ls→Nat→Nat→Nat→Ls→Ls→Nat→Nat→Nat→Int→Int→Int→Int→Int→Nat→Nat→Nat→Int→Int→Bool→Prop) (c:Ls→Ls→Ls→Int→Prop) (e:Ls→Ls→Ls→Ls→Nat→Nat→Nat→Ls→Ls→Nat→Nat→Nat→Int→Int→Int→Int→Int→Nat→Nat→Nat→Int→Int→Bool→Prop):Nat→Ls→Ls→Ls→Nat→Nat→Nat→Ls→Ls→Nat→Nat→Nat→Int→Int→Int→Int→Int→Nat→Nat→Nat→Int→Int→Prop
 | 0,_,_,_,_,_,_,_,_,_,_,_,_,_,_,_,_,_,_,_,_,_=>False
 | f+1,l0,l1,l2,n3,n4,n5,l6,l7,n8,n9,n10,i11,i12,i13,i14,i15,n16,n17,n18,i19,i20 =>
 (cbr (decide (i20<i19))
 (asr (decide ((0:Int)≤i20))
 (asr (decide (i20<((n16:Nat):Int)))
 (asr (decide ((List.length l0)=n17))
 (asr (decide ((0+(i20.toNat))<(List.length l0)))
 (asr (conf (.one (.i .i64)) (List.getD l0 (0+(i20.toNat)) .nils))
 (asr (decide ((0:Int)≤(yaa (List.getD l0 (0+(i20.toNat)) .nils))))
 (asr (decide ((yaa (List.getD l0 (0+(i20.toNat)) .nils))<(((List.length l2):Nat):Int)))
 (asr (conf (.agg [.i .i64,.d,.d]) (List.getD l2 ((yaa (List.getD l0 (0+(i20.toNat)) .nils)).toNat) .nils))
 (a2 (yaa (yag (List.getD l2 ((yaa (List.getD l0 (0+(i20.toNat)) .nils)).toNat) .nils) 0)) (yaA (yag (List.getD l2 ((yaa (List.getD l0 (0+(i20.toNat)) .nils)).toNat) .nils) 1)) (yaA (yag (List.getD l2 ((yaa (List.getD l0 (0+(i20.toNat)) .nils)).toNat) .nils) 2)) (((List.length l2):Nat):Int) (fun m n =>
 (a3 l6 l7 (yaa (List.getD l0 (0+(i20.toNat)) .nils)) i11 i12 m n (fun g h j k l =>
 (cbr (l !=(0:Int))
 (a l0 l1 l)
 (cbr (i20 ==(0:Int))
 (ycj a0 a1 a2 a3 a4 a b c e f l0 l1 l2 n3 n4 n5 g h n8 n9 n10 i11 i12 i20 j k n16 n17 n18 i19 (IntKind.i64.wrap (i20+(1:Int))))
 (a4 j k i14 i15 (fun o =>
 (cbr o
 (ycj a0 a1 a2 a3 a4 a b c e f l0 l1 l2 n3 n4 n5 g h n8 n9 n10 i11 i12 i20 j k n16 n17 n18 i19 (IntKind.i64.wrap (i20+(1:Int))))
 (ycj a0 a1 a2 a3 a4 a b c e f l0 l1 l2 n3 n4 n5 g h n8 n9 n10 i11 i12 i13 i14 i15 n16 n17 n18 i19 (IntKind.i64.wrap (i20+(1:Int)))))))))))))))))))))
 (b l0 l1 l2 n3 n4 n5 l6 l7 n8 n9 n10 i11 i12 i13 i14 i15 n16 n17 n18 i19 i20 false))
def yck (a0:ye6) (a1:ycY) (a2:ydt) (a3:ye7) (a4:ydu) (c:Ls→Ls→Int→Prop) (e:Ls→Ls→Ls→Nat→Nat→Nat→Ls→Ls→Nat→Nat→Nat→Int→Int→Int→Int→Int→Nat→Nat→Nat→Int→Int→Bool→Prop) (a:Ls→Ls→Ls→Int→Prop) (b:Ls→Ls→Ls→Ls→Nat→Nat→Nat→Ls→Ls→Nat→Nat→Nat→Int→Int→Int→Int→Int→Nat→Nat→Nat→Int→Int→Bool→Prop):Nat→Ls→Ls→Ls→Ls→Nat→Nat→Nat→Ls→Ls→Nat→Nat→Nat→Int→Int→Int→Int→Int→Nat→Nat→Nat→Int→Int→Prop
 | 0,_,_,_,_,_,_,_,_,_,_,_,_,_,_,_,_,_,_,_,_,_,_=>False
 | f+1,l0,l1,l2,l3,n4,n5,n6,l9,l10,n11,n12,n13,i14,i15,i16,i17,i18,n19,n20,n21,i22,i23 =>
 (cbr (decide (i23<i22))
 (asr (decide ((0:Int)≤i23))
 (asr (decide (i23<((n19:Nat):Int)))
 (asr (decide ((List.length l0)=n20))
 (asr (decide ((0+(i23.toNat))<(List.length l0)))
 (asr (conf (.one (.i .i64)) (List.getD l0 (0+(i23.toNat)) .nils))
 (asr (decide ((0:Int)≤(yaa (List.getD l0 (0+(i23.toNat)) .nils))))
 (asr (decide ((yaa (List.getD l0 (0+(i23.toNat)) .nils))<(((List.length l3):Nat):Int)))
 (asr (conf (.agg [.i .i64,.d,.d]) (List.getD l3 ((yaa (List.getD l0 (0+(i23.toNat)) .nils)).toNat) .nils))
 (a2 (yaa (yag (List.getD l3 ((yaa (List.getD l0 (0+(i23.toNat)) .nils)).toNat) .nils) 0)) (yaA (yag (List.getD l3 ((yaa (List.getD l0 (0+(i23.toNat)) .nils)).toNat) .nils) 1)) (yaA (yag (List.getD l3 ((yaa (List.getD l0 (0+(i23.toNat)) .nils)).toNat) .nils) 2)) (((List.length l3):Nat):Int) (fun m n =>
 (a3 l9 l10 (yaa (List.getD l0 (0+(i23.toNat)) .nils)) i14 i15 m n (fun g h j k l =>
 (cbr (l !=(0:Int))
 (a l0 l1 l2 l)
 (cbr (i23 ==(0:Int))
 (asr (decide ((List.length l2)=List.length l2)&&decide ((List.length l2)=List.length l2))
 (yck a0 a1 a2 a3 a4 c e a b f l0 l1 l2 l3 n4 n5 n6 g h n11 n12 n13 i14 i15 i23 j k n19 n20 n21 i22 (IntKind.i64.wrap (i23+(1:Int)))))
 (a4 j k i17 i18 (fun o =>
 (cbr o
 (asr (decide ((List.length l2)=List.length l2)&&decide ((List.length l2)=List.length l2))
 (yck a0 a1 a2 a3 a4 c e a b f l0 l1 l2 l3 n4 n5 n6 g h n11 n12 n13 i14 i15 i23 j k n19 n20 n21 i22 (IntKind.i64.wrap (i23+(1:Int)))))
 (asr (decide ((List.length l2)=List.length l2)&&decide ((List.length l2)=List.length l2))
 (yck a0 a1 a2 a3 a4 c e a b f l0 l1 l2 l3 n4 n5 n6 g h n11 n12 n13 i14 i15 i16 i17 i18 n19 n20 n21 i22 (IntKind.i64.wrap (i23+(1:Int))))))))))))))))))))))
 (b l0 l1 l2 l3 n4 n5 n6 l9 l10 n11 n12 n13 i14 i15 i16 i17 i18 n19 n20 n21 i22 i23 false))
end
mutual
def ydg (a0:ye6) (a1:ycY) (a2:ydt) (a3:ye7) (a4:ydu) (l:Ls→Ls→Int→Prop) (m:Ls→Ls→Ls→Int→Prop) (s:Ls→Ls→Ls→Ls→Nat→Nat→Nat→Ls→Ls→Nat→Nat→Nat→Int→Int→Bool→Prop) (n:Ls→Ls→Ls→Nat→Nat→Nat→Ls→Ls→Nat→Nat→Nat→Int→Int→Bool→Prop):Nat→Ls→Ls→Ls→Nat→Nat→Nat→Ls→Ls→Nat→Nat→Nat→Int→Int→Prop
 | 0,_,_,_,_,_,_,_,_,_,_,_,_,_=>False
 | t+1,l0,l1,l2,n3,n4,n5,l6,l7,n8,n9,n10,i11,i12 =>
 (cbr (decide (((n8:Nat):Int)>(1:Int)))
 (∃ O:Nat,ycj a0 a1 a2 a3 a4
 (fun Q R S=>(l Q R S))
 (fun e o C y z D E F g j p G H b u v _ _ _ _ _ _=>(asr (decide ((0:Int)≤b))
 (asr (decide (b<((g:Nat):Int)))
 (asr (decide ((List.length e)=j))
 (asr (decide ((0+(b.toNat))<(List.length e)))
 (asr (conf (.one (.i .i64)) (List.getD e (0+(b.toNat)) .nils))
 (asr (decide ((0:Int)≤(yaa (List.getD e (0+(b.toNat)) .nils))))
 (asr (decide ((yaa (List.getD e (0+(b.toNat)) .nils))<((y:Nat):Int)))
 (asr (decide ((List.length o)=z))
 (asr (decide ((0+((yaa (List.getD e (0+(b.toNat)) .nils)).toNat))<(List.length o)))
 (asr (conf (.one (.d)) (List.getD o (0+((yaa (List.getD e (0+(b.toNat)) .nils)).toNat)) .nils))
 (asr (decide ((0:Int)≤b))
 (asr ((decide (b≤((g:Nat):Int)))||(decide (b≤((p:Nat):Int))))
 (asr (decide ((0:Int)≤(IntKind.i64.wrap (b+(1:Int)))))
 (asr (decide ((IntKind.i64.wrap (b+(1:Int)))≤((g:Nat):Int)))
 (asr ((decide (((g:Nat):Int)≤((g:Nat):Int)))||(decide (((g:Nat):Int)≤((p:Nat):Int))))
 (asr (decide ((List.length e)=j))
 (asr (decide (((0+((IntKind.i64.wrap (b+(1:Int))).toNat))+((((g:Nat):Int)-(IntKind.i64.wrap (b+(1:Int)))).toNat))≤j))
 (asr (yeC 1 (List.take ((((g:Nat):Int)-(IntKind.i64.wrap (b+(1:Int)))).toNat) (List.drop (0+((IntKind.i64.wrap (b+(1:Int))).toNat)) e)))
 (asr (decide ((List.length e)=j))
 (asr (decide ((0+((b-(0:Int)).toNat))≤j))
 (cbr (List.isEmpty (List.take ((((g:Nat):Int)-(IntKind.i64.wrap (b+(1:Int)))).toNat) (List.drop (0+((IntKind.i64.wrap (b+(1:Int))).toNat)) e)))
 (asr (decide (1=List.length ([(.int .i64 (yaa (List.getD e (0+(b.toNat)) .nils)))]:Ls))&&decide (1=List.length ([(.int .i64 (yaa (List.getD e (0+(b.toNat)) .nils)))]:Ls)))
 (ybe a0 a1 a2 a3 a4 l m s n t e (List.set o (0+((yaa (List.getD e (0+(b.toNat)) .nils)).toNat)) (.data ([(.agg [(.int .i64 G),(.int .i64 H),(.int .i64 u),(.int .i64 v)])]:Ls))) ([(.int .i64 (yaa (List.getD e (0+(b.toNat)) .nils)))]:Ls) C y z D E F ((b-(0:Int)).toNat) j (p-0) u v))
 (asr (decide ((((b-(0:Int)).toNat)+(List.length (List.take ((((g:Nat):Int)-(IntKind.i64.wrap (b+(1:Int)))).toNat) (List.drop (0+((IntKind.i64.wrap (b+(1:Int))).toNat)) e))))≤(p-0)))
 (asr (decide (1=List.length ([(.int .i64 (yaa (List.getD e (0+(b.toNat)) .nils)))]:Ls))&&decide (1=List.length ([(.int .i64 (yaa (List.getD e (0+(b.toNat)) .nils)))]:Ls)))
 (ybe a0 a1 a2 a3 a4 l m s n t ((List.take (0+((b-(0:Int)).toNat)) e)++((List.take ((((g:Nat):Int)-(IntKind.i64.wrap (b+(1:Int)))).toNat) (List.drop (0+((IntKind.i64.wrap (b+(1:Int))).toNat)) e))++(List.drop ((0+((b-(0:Int)).toNat))+(List.length (List.take ((((g:Nat):Int)-(IntKind.i64.wrap (b+(1:Int)))).toNat) (List.drop (0+((IntKind.i64.wrap (b+(1:Int))).toNat)) e)))) e))) (List.set o (0+((yaa (List.getD e (0+(b.toNat)) .nils)).toNat)) (.data ([(.agg [(.int .i64 G),(.int .i64 H),(.int .i64 u),(.int .i64 v)])]:Ls))) ([(.int .i64 (yaa (List.getD e (0+(b.toNat)) .nils)))]:Ls) C y z D E F (((b-(0:Int)).toNat)+(List.length (List.take ((((g:Nat):Int)-(IntKind.i64.wrap (b+(1:Int)))).toNat) (List.drop (0+((IntKind.i64.wrap (b+(1:Int))).toNat)) e)))) j (p-0) u v)))))))))))))))))))))))))
 (fun T U V W=>(m T U V W))
 (fun c q f I A B J K L h k r M N a w x _ _ _ _ _ _=>(asr (decide ((0:Int)≤a))
 (asr (decide (a<((h:Nat):Int)))
 (asr (decide ((List.length c)=k))
 (asr (decide ((0+(a.toNat))<(List.length c)))
 (asr (conf (.one (.i .i64)) (List.getD c (0+(a.toNat)) .nils))
 (asr (decide ((0:Int)≤(yaa (List.getD c (0+(a.toNat)) .nils))))
 (asr (decide ((yaa (List.getD c (0+(a.toNat)) .nils))<((A:Nat):Int)))
 (asr (decide ((List.length q)=B))
 (asr (decide ((0+((yaa (List.getD c (0+(a.toNat)) .nils)).toNat))<(List.length q)))
 (asr (conf (.one (.d)) (List.getD q (0+((yaa (List.getD c (0+(a.toNat)) .nils)).toNat)) .nils))
 (asr (decide ((List.length f)=(List.length f)))
 (asr (decide ((0+(List.length f))≤(List.length f)))
 (asr (!(decide (((0+(List.length f))+1)≤(List.length f))))
 (asr (decide ((List.length f)=(List.length f)))
 (asr (decide ((((List.length f)+1)+64)*(8+1)≤room))
 (asr (decide ((0:Int)≤a))
 (asr ((decide (a≤((h:Nat):Int)))||(decide (a≤((r:Nat):Int))))
 (asr (decide ((0:Int)≤(IntKind.i64.wrap (a+(1:Int)))))
 (asr (decide ((IntKind.i64.wrap (a+(1:Int)))≤((h:Nat):Int)))
 (asr ((decide (((h:Nat):Int)≤((h:Nat):Int)))||(decide (((h:Nat):Int)≤((r:Nat):Int))))
 (asr (decide ((List.length c)=k))
 (asr (decide (((0+((IntKind.i64.wrap (a+(1:Int))).toNat))+((((h:Nat):Int)-(IntKind.i64.wrap (a+(1:Int)))).toNat))≤k))
 (asr (yeC 1 (List.take ((((h:Nat):Int)-(IntKind.i64.wrap (a+(1:Int)))).toNat) (List.drop (0+((IntKind.i64.wrap (a+(1:Int))).toNat)) c)))
 (asr (decide ((List.length c)=k))
 (asr (decide ((0+((a-(0:Int)).toNat))≤k))
 (cbr (List.isEmpty (List.take ((((h:Nat):Int)-(IntKind.i64.wrap (a+(1:Int)))).toNat) (List.drop (0+((IntKind.i64.wrap (a+(1:Int))).toNat)) c)))
 (asr (decide ((List.length (f++([(.int .i64 (yaa (List.getD c (0+(a.toNat)) .nils)))]:Ls)))=List.length (f++([(.int .i64 (yaa (List.getD c (0+(a.toNat)) .nils)))]:Ls)))&&decide ((List.length (f++([(.int .i64 (yaa (List.getD c (0+(a.toNat)) .nils)))]:Ls)))=List.length (f++([(.int .i64 (yaa (List.getD c (0+(a.toNat)) .nils)))]:Ls))))
 (ybe a0 a1 a2 a3 a4 l m s n t c (List.set q (0+((yaa (List.getD c (0+(a.toNat)) .nils)).toNat)) (.data ([(.agg [(.int .i64 M),(.int .i64 N),(.int .i64 w),(.int .i64 x)])]:Ls))) (f++([(.int .i64 (yaa (List.getD c (0+(a.toNat)) .nils)))]:Ls)) I A B J K L ((a-(0:Int)).toNat) k (r-0) w x))
 (asr (decide ((((a-(0:Int)).toNat)+(List.length (List.take ((((h:Nat):Int)-(IntKind.i64.wrap (a+(1:Int)))).toNat) (List.drop (0+((IntKind.i64.wrap (a+(1:Int))).toNat)) c))))≤(r-0)))
 (asr (decide ((List.length (f++([(.int .i64 (yaa (List.getD c (0+(a.toNat)) .nils)))]:Ls)))=List.length (f++([(.int .i64 (yaa (List.getD c (0+(a.toNat)) .nils)))]:Ls)))&&decide ((List.length (f++([(.int .i64 (yaa (List.getD c (0+(a.toNat)) .nils)))]:Ls)))=List.length (f++([(.int .i64 (yaa (List.getD c (0+(a.toNat)) .nils)))]:Ls))))
 (ybe a0 a1 a2 a3 a4 l m s n t ((List.take (0+((a-(0:Int)).toNat)) c)++((List.take ((((h:Nat):Int)-(IntKind.i64.wrap (a+(1:Int)))).toNat) (List.drop (0+((IntKind.i64.wrap (a+(1:Int))).toNat)) c))++(List.drop ((0+((a-(0:Int)).toNat))+(List.length (List.take ((((h:Nat):Int)-(IntKind.i64.wrap (a+(1:Int)))).toNat) (List.drop (0+((IntKind.i64.wrap (a+(1:Int))).toNat)) c)))) c))) (List.set q (0+((yaa (List.getD c (0+(a.toNat)) .nils)).toNat)) (.data ([(.agg [(.int .i64 M),(.int .i64 N),(.int .i64 w),(.int .i64 x)])]:Ls))) (f++([(.int .i64 (yaa (List.getD c (0+(a.toNat)) .nils)))]:Ls)) I A B J K L (((a-(0:Int)).toNat)+(List.length (List.take ((((h:Nat):Int)-(IntKind.i64.wrap (a+(1:Int)))).toNat) (List.drop (0+((IntKind.i64.wrap (a+(1:Int))).toNat)) c)))) k (r-0) w x))))))))))))))))))))))))))))))
 O l0 l1 l2 n3 n4 n5 l6 l7 n8 n9 n10 i11 i12 (0:Int) (0:Int) (0:Int) n8 n9 n10 ((n8:Nat):Int) (0:Int))
 (n l0 l1 l2 n3 n4 n5 l6 l7 n8 n9 n10 i11 i12 false))
def ybe (a0:ye6) (a1:ycY) (a2:ydt) (a3:ye7) (a4:ydu) (l:Ls→Ls→Int→Prop) (m:Ls→Ls→Ls→Int→Prop) (n:Ls→Ls→Ls→Ls→Nat→Nat→Nat→Ls→Ls→Nat→Nat→Nat→Int→Int→Bool→Prop) (s:Ls→Ls→Ls→Nat→Nat→Nat→Ls→Ls→Nat→Nat→Nat→Int→Int→Bool→Prop):Nat→Ls→Ls→Ls→Ls→Nat→Nat→Nat→Ls→Ls→Nat→Nat→Nat→Int→Int→Prop
 | 0,_,_,_,_,_,_,_,_,_,_,_,_,_,_=>False
 | t+1,l0,l1,l2,l3,n4,n5,n6,l9,l10,n11,n12,n13,i14,i15 =>
 (cbr (decide (((n11:Nat):Int)>(1:Int)))
 (asr (decide ((List.length l2)=List.length l2)&&decide ((List.length l2)=List.length l2))
 (∃ O:Nat,yck a0 a1 a2 a3 a4
 (fun Q R S=>(l Q R S))
 (fun e o C y z D E F g j p G H b u v _ _ _ _ _ _=>(asr (decide ((0:Int)≤b))
 (asr (decide (b<((g:Nat):Int)))
 (asr (decide ((List.length e)=j))
 (asr (decide ((0+(b.toNat))<(List.length e)))
 (asr (conf (.one (.i .i64)) (List.getD e (0+(b.toNat)) .nils))
 (asr (decide ((0:Int)≤(yaa (List.getD e (0+(b.toNat)) .nils))))
 (asr (decide ((yaa (List.getD e (0+(b.toNat)) .nils))<((y:Nat):Int)))
 (asr (decide ((List.length o)=z))
 (asr (decide ((0+((yaa (List.getD e (0+(b.toNat)) .nils)).toNat))<(List.length o)))
 (asr (conf (.one (.d)) (List.getD o (0+((yaa (List.getD e (0+(b.toNat)) .nils)).toNat)) .nils))
 (asr (decide ((0:Int)≤b))
 (asr ((decide (b≤((g:Nat):Int)))||(decide (b≤((p:Nat):Int))))
 (asr (decide ((0:Int)≤(IntKind.i64.wrap (b+(1:Int)))))
 (asr (decide ((IntKind.i64.wrap (b+(1:Int)))≤((g:Nat):Int)))
 (asr ((decide (((g:Nat):Int)≤((g:Nat):Int)))||(decide (((g:Nat):Int)≤((p:Nat):Int))))
 (asr (decide ((List.length e)=j))
 (asr (decide (((0+((IntKind.i64.wrap (b+(1:Int))).toNat))+((((g:Nat):Int)-(IntKind.i64.wrap (b+(1:Int)))).toNat))≤j))
 (asr (yeC 1 (List.take ((((g:Nat):Int)-(IntKind.i64.wrap (b+(1:Int)))).toNat) (List.drop (0+((IntKind.i64.wrap (b+(1:Int))).toNat)) e)))
 (asr (decide ((List.length e)=j))
 (asr (decide ((0+((b-(0:Int)).toNat))≤j))
 (cbr (List.isEmpty (List.take ((((g:Nat):Int)-(IntKind.i64.wrap (b+(1:Int)))).toNat) (List.drop (0+((IntKind.i64.wrap (b+(1:Int))).toNat)) e)))
 (asr (decide (1=List.length ([(.int .i64 (yaa (List.getD e (0+(b.toNat)) .nils)))]:Ls))&&decide (1=List.length ([(.int .i64 (yaa (List.getD e (0+(b.toNat)) .nils)))]:Ls)))
 (ybe a0 a1 a2 a3 a4 l m n s t e (List.set o (0+((yaa (List.getD e (0+(b.toNat)) .nils)).toNat)) (.data ([(.agg [(.int .i64 G),(.int .i64 H),(.int .i64 u),(.int .i64 v)])]:Ls))) ([(.int .i64 (yaa (List.getD e (0+(b.toNat)) .nils)))]:Ls) C y z D E F ((b-(0:Int)).toNat) j (p-0) u v))
 (asr (decide ((((b-(0:Int)).toNat)+(List.length (List.take ((((g:Nat):Int)-(IntKind.i64.wrap (b+(1:Int)))).toNat) (List.drop (0+((IntKind.i64.wrap (b+(1:Int))).toNat)) e))))≤(p-0)))
 (asr (decide (1=List.length ([(.int .i64 (yaa (List.getD e (0+(b.toNat)) .nils)))]:Ls))&&decide (1=List.length ([(.int .i64 (yaa (List.getD e (0+(b.toNat)) .nils)))]:Ls)))
 (ybe a0 a1 a2 a3 a4 l m n s t ((List.take (0+((b-(0:Int)).toNat)) e)++((List.take ((((g:Nat):Int)-(IntKind.i64.wrap (b+(1:Int)))).toNat) (List.drop (0+((IntKind.i64.wrap (b+(1:Int))).toNat)) e))++(List.drop ((0+((b-(0:Int)).toNat))+(List.length (List.take ((((g:Nat):Int)-(IntKind.i64.wrap (b+(1:Int)))).toNat) (List.drop (0+((IntKind.i64.wrap (b+(1:Int))).toNat)) e)))) e))) (List.set o (0+((yaa (List.getD e (0+(b.toNat)) .nils)).toNat)) (.data ([(.agg [(.int .i64 G),(.int .i64 H),(.int .i64 u),(.int .i64 v)])]:Ls))) ([(.int .i64 (yaa (List.getD e (0+(b.toNat)) .nils)))]:Ls) C y z D E F (((b-(0:Int)).toNat)+(List.length (List.take ((((g:Nat):Int)-(IntKind.i64.wrap (b+(1:Int)))).toNat) (List.drop (0+((IntKind.i64.wrap (b+(1:Int))).toNat)) e)))) j (p-0) u v)))))))))))))))))))))))))
 (fun T U V W=>(m T U V W))
 (fun c q f I A B J K L h k r M N a w x _ _ _ _ _ _=>(asr (decide ((0:Int)≤a))
 (asr (decide (a<((h:Nat):Int)))
 (asr (decide ((List.length c)=k))
 (asr (decide ((0+(a.toNat))<(List.length c)))
 (asr (conf (.one (.i .i64)) (List.getD c (0+(a.toNat)) .nils))
 (asr (decide ((0:Int)≤(yaa (List.getD c (0+(a.toNat)) .nils))))
 (asr (decide ((yaa (List.getD c (0+(a.toNat)) .nils))<((A:Nat):Int)))
 (asr (decide ((List.length q)=B))
 (asr (decide ((0+((yaa (List.getD c (0+(a.toNat)) .nils)).toNat))<(List.length q)))
 (asr (conf (.one (.d)) (List.getD q (0+((yaa (List.getD c (0+(a.toNat)) .nils)).toNat)) .nils))
 (asr (decide ((List.length f)=(List.length f)))
 (asr (decide ((0+(List.length f))≤(List.length f)))
 (asr (!(decide (((0+(List.length f))+1)≤(List.length f))))
 (asr (decide ((List.length f)=(List.length f)))
 (asr (decide ((((List.length f)+1)+64)*(8+1)≤room))
 (asr (decide ((0:Int)≤a))
 (asr ((decide (a≤((h:Nat):Int)))||(decide (a≤((r:Nat):Int))))
 (asr (decide ((0:Int)≤(IntKind.i64.wrap (a+(1:Int)))))
 (asr (decide ((IntKind.i64.wrap (a+(1:Int)))≤((h:Nat):Int)))
 (asr ((decide (((h:Nat):Int)≤((h:Nat):Int)))||(decide (((h:Nat):Int)≤((r:Nat):Int))))
 (asr (decide ((List.length c)=k))
 (asr (decide (((0+((IntKind.i64.wrap (a+(1:Int))).toNat))+((((h:Nat):Int)-(IntKind.i64.wrap (a+(1:Int)))).toNat))≤k))
 (asr (yeC 1 (List.take ((((h:Nat):Int)-(IntKind.i64.wrap (a+(1:Int)))).toNat) (List.drop (0+((IntKind.i64.wrap (a+(1:Int))).toNat)) c)))
 (asr (decide ((List.length c)=k))
 (asr (decide ((0+((a-(0:Int)).toNat))≤k))
 (cbr (List.isEmpty (List.take ((((h:Nat):Int)-(IntKind.i64.wrap (a+(1:Int)))).toNat) (List.drop (0+((IntKind.i64.wrap (a+(1:Int))).toNat)) c)))
 (asr (decide ((List.length (f++([(.int .i64 (yaa (List.getD c (0+(a.toNat)) .nils)))]:Ls)))=List.length (f++([(.int .i64 (yaa (List.getD c (0+(a.toNat)) .nils)))]:Ls)))&&decide ((List.length (f++([(.int .i64 (yaa (List.getD c (0+(a.toNat)) .nils)))]:Ls)))=List.length (f++([(.int .i64 (yaa (List.getD c (0+(a.toNat)) .nils)))]:Ls))))
 (ybe a0 a1 a2 a3 a4 l m n s t c (List.set q (0+((yaa (List.getD c (0+(a.toNat)) .nils)).toNat)) (.data ([(.agg [(.int .i64 M),(.int .i64 N),(.int .i64 w),(.int .i64 x)])]:Ls))) (f++([(.int .i64 (yaa (List.getD c (0+(a.toNat)) .nils)))]:Ls)) I A B J K L ((a-(0:Int)).toNat) k (r-0) w x))
 (asr (decide ((((a-(0:Int)).toNat)+(List.length (List.take ((((h:Nat):Int)-(IntKind.i64.wrap (a+(1:Int)))).toNat) (List.drop (0+((IntKind.i64.wrap (a+(1:Int))).toNat)) c))))≤(r-0)))
 (asr (decide ((List.length (f++([(.int .i64 (yaa (List.getD c (0+(a.toNat)) .nils)))]:Ls)))=List.length (f++([(.int .i64 (yaa (List.getD c (0+(a.toNat)) .nils)))]:Ls)))&&decide ((List.length (f++([(.int .i64 (yaa (List.getD c (0+(a.toNat)) .nils)))]:Ls)))=List.length (f++([(.int .i64 (yaa (List.getD c (0+(a.toNat)) .nils)))]:Ls))))
 (ybe a0 a1 a2 a3 a4 l m n s t ((List.take (0+((a-(0:Int)).toNat)) c)++((List.take ((((h:Nat):Int)-(IntKind.i64.wrap (a+(1:Int)))).toNat) (List.drop (0+((IntKind.i64.wrap (a+(1:Int))).toNat)) c))++(List.drop ((0+((a-(0:Int)).toNat))+(List.length (List.take ((((h:Nat):Int)-(IntKind.i64.wrap (a+(1:Int)))).toNat) (List.drop (0+((IntKind.i64.wrap (a+(1:Int))).toNat)) c)))) c))) (List.set q (0+((yaa (List.getD c (0+(a.toNat)) .nils)).toNat)) (.data ([(.agg [(.int .i64 M),(.int .i64 N),(.int .i64 w),(.int .i64 x)])]:Ls))) (f++([(.int .i64 (yaa (List.getD c (0+(a.toNat)) .nils)))]:Ls)) I A B J K L (((a-(0:Int)).toNat)+(List.length (List.take ((((h:Nat):Int)-(IntKind.i64.wrap (a+(1:Int)))).toNat) (List.drop (0+((IntKind.i64.wrap (a+(1:Int))).toNat)) c)))) k (r-0) w x))))))))))))))))))))))))))))))
 O l0 l1 l2 l3 n4 n5 n6 l9 l10 n11 n12 n13 i14 i15 (0:Int) (0:Int) (0:Int) n11 n12 n13 ((n11:Nat):Int) (0:Int)))
 (n l0 l1 l2 l3 n4 n5 n6 l9 l10 n11 n12 n13 i14 i15 false))
end
def ypM (a0:ye6) (a1:ycY) (a2:ydt) (a3:ye7) (a4:ydu) (p0:Ls) (K:Ls→Ls→Ls→Int→Prop):Prop :=
 (a0 p0 (fun B C o =>
 (cbr (o !=(0:Int))
 (K ([]:Ls) ([]:Ls) ([]:Ls) o)
 (asr (decide ((0:Int)≤(((List.length p0):Nat):Int)))
 (asr (decide (((List.length p0)+64)*(8+1)≤room))
 (∃ D:Nat,ydf a0 a1 a2 a3 a4
 (fun E e F G H I J _ _ _=>(asr (decide ((0:Int)≤(((List.length e):Nat):Int)))
 (asr (decide ((((List.length e):Nat):Int)≤(((List.length e):Nat):Int)))
 (asr (decide (((List.length e)+64)*(24+1)≤room))
 (a1 (0:Int) (fun L M =>
 (∃ N:Nat,ydg a0 a1 a2 a3 a4
 (fun _ _ O=>(K ([]:Ls) ([]:Ls) ([]:Ls) O))
 (fun _ _ _ Q=>(K ([]:Ls) ([]:Ls) ([]:Ls) Q))
 (fun a f b h j k _ _ R p q _ r s _=>(asr (decide ((0:Int)<((p:Nat):Int)))
 (asr (decide ((List.length a)=q))
 (asr (decide (0<(List.length a)))
 (asr (conf (.one (.i .i64)) (List.getD a 0 .nils))
 (asr (decide ((0:Int)<(((List.length h):Nat):Int)))
 (asr (conf (.agg [.i .i64,.d,.d]) (List.getD h 0 .nils))
 (a1 (yaa (yag (List.getD h 0 .nils) 0)) (fun t u =>
 (asr (decide ((0:Int)≤(yaa (List.getD a 0 .nils))))
 (asr (decide ((yaa (List.getD a 0 .nils))<((j:Nat):Int)))
 (asr (decide ((List.length f)=k))
 (asr (decide ((0+((yaa (List.getD a 0 .nils)).toNat))<(List.length f)))
 (asr (conf (.one (.d)) (List.getD f (0+((yaa (List.getD a 0 .nils)).toNat)) .nils))
 (asr (decide ((0:Int)<((p:Nat):Int)))
 (asr (decide ((List.length a)=q))
 (asr (decide (0<(List.length a)))
 (asr (conf (.one (.i .i64)) (List.getD a 0 .nils))
 (asr (decide ((List.length b)=(List.length b)))
 (asr (decide ((0+(List.length b))≤(List.length b)))
 (asr (!(decide (((0+(List.length b))+1)≤(List.length b))))
 (asr (decide ((List.length b)=(List.length b)))
 (asr (decide ((((List.length b)+1)+64)*(8+1)≤room))
 (asr (decide ((List.length (List.set f (0+((yaa (List.getD a 0 .nils)).toNat)) (.data ([(.agg [(.int .i64 r),(.int .i64 s),(.int .i64 t),(.int .i64 u)])]:Ls))))=k))
 (asr (decide ((0+j)≤k))
 (asr (decide ((List.length (b++([(.int .i64 (yaa (List.getD a 0 .nils)))]:Ls)))=(List.length (b++([(.int .i64 (yaa (List.getD a 0 .nils)))]:Ls)))))
 (asr (decide ((0+(List.length (b++([(.int .i64 (yaa (List.getD a 0 .nils)))]:Ls))))≤(List.length (b++([(.int .i64 (yaa (List.getD a 0 .nils)))]:Ls)))))
 (K (List.take j (List.set f (0+((yaa (List.getD a 0 .nils)).toNat)) (.data ([(.agg [(.int .i64 r),(.int .i64 s),(.int .i64 t),(.int .i64 u)])]:Ls)))) (List.take (List.length (b++([(.int .i64 (yaa (List.getD a 0 .nils)))]:Ls))) (b++([(.int .i64 (yaa (List.getD a 0 .nils)))]:Ls))) R (0:Int)))))))))))))))))))))))))))))
 (fun c g l m n _ _ S v w _ x y _=>(asr (decide ((0:Int)<((v:Nat):Int)))
 (asr (decide ((List.length c)=w))
 (asr (decide (0<(List.length c)))
 (asr (conf (.one (.i .i64)) (List.getD c 0 .nils))
 (asr (decide ((0:Int)<(((List.length l):Nat):Int)))
 (asr (conf (.agg [.i .i64,.d,.d]) (List.getD l 0 .nils))
 (a1 (yaa (yag (List.getD l 0 .nils) 0)) (fun z A =>
 (asr (decide ((0:Int)≤(yaa (List.getD c 0 .nils))))
 (asr (decide ((yaa (List.getD c 0 .nils))<((m:Nat):Int)))
 (asr (decide ((List.length g)=n))
 (asr (decide ((0+((yaa (List.getD c 0 .nils)).toNat))<(List.length g)))
 (asr (conf (.one (.d)) (List.getD g (0+((yaa (List.getD c 0 .nils)).toNat)) .nils))
 (asr (decide ((0:Int)<((v:Nat):Int)))
 (asr (decide ((List.length c)=w))
 (asr (decide (0<(List.length c)))
 (asr (conf (.one (.i .i64)) (List.getD c 0 .nils))
 (asr (decide ((List.length (List.set g (0+((yaa (List.getD c 0 .nils)).toNat)) (.data ([(.agg [(.int .i64 x),(.int .i64 y),(.int .i64 z),(.int .i64 A)])]:Ls))))=n))
 (asr (decide ((0+m)≤n))
 (K (List.take m (List.set g (0+((yaa (List.getD c 0 .nils)).toNat)) (.data ([(.agg [(.int .i64 x),(.int .i64 y),(.int .i64 z),(.int .i64 A)])]:Ls)))) ([(.int .i64 (yaa (List.getD c 0 .nils)))]:Ls) S (0:Int))))))))))))))))))))))
 N E (List.replicate (List.length e) ((.data []):PV)) e (List.length e) (List.length e) (List.length e) F G H I J L M)))))))
 D (List.replicate (List.length p0) ((.int .i64 (0)):PV)) p0 B C 0 (List.length p0) (List.length p0) (((List.length p0):Nat):Int) (0:Int)))))))
def ycA (p0:Ls) (K:Ls→Ls→Ls→Int→Prop):Prop:=ypM ycg ybm ybn ybF ya8 p0 K
def yld (w:yeA) (as:Ls) (K:PV→Prop):Prop :=
 match as with
 | [(.data p0)]=>w p0 (fun r0 r1 r2 r3=>K (.tup [(.agg [(.data r0)]),(.data r1),(.data r2),(.int .i64 r3)]))
 | _=>False
def yuA (as:Ls) (K:PV→Prop):Prop:=yld ycA as K
def yfZ (F:Frm) (H:Hp) (A0:Ls→Ls→Ls→Ls→Nat→Nat→Nat→Int→Int→Prop):Prop :=
 match F,H with
 | [(0,.v (.data l1)),(2,.box (.agg [.nils])),(3,.v .nils),(6,.box (.agg [(.data l2),(.data l3)])),(7,.v (.own 0 0 n4 n5 (some n6))),(31,.v (.int .i64 i7)),(32,.v (.int .i64 i8))],[⟨false,true,1,l0⟩]=>(A0 l0 l1 l2 l3 n4 n5 n6 i7 i8)
 | _,_=>False
def yf0 (F:Frm) (H:Hp) (A0:Ls→Ls→Ls→Nat→Nat→Nat→Ls→Ls→Nat→Nat→Nat→Int→Int→Int→Int→Int→Nat→Nat→Nat→Int→Int→Prop) (A1:Ls→Ls→Ls→Ls→Nat→Nat→Nat→Ls→Ls→Nat→Nat→Nat→Int→Int→Int→Int→Int→Nat→Nat→Nat→Int→Int→Prop):Prop :=
 match F,H with
 | [(0,.v (.data l2)),(2,.box (.agg [(.own 1 0 n3 n4 (some n5))])),(3,.v .nils),(6,.box (.agg [(.data l6),(.data l7)])),(7,.v (.own 0 0 n8 n9 (some n10))),(9,.box (.agg [(.int .i64 i11),(.int .i64 i12)])),(10,.v (.int .i64 i13)),(11,.box (.agg [(.int .i64 i14),(.int .i64 i15)])),(49,.v (.own 0 0 n16 n17 (some n18))),(50,.v (.int .i64 i19)),(51,.v (.int .i64 i20))],[⟨false,true,1,l0⟩,⟨false,true,1,l1⟩]=>(A0 l0 l1 l2 n3 n4 n5 l6 l7 n8 n9 n10 i11 i12 i13 i14 i15 n16 n17 n18 i19 i20)
 | [(0,.v (.data l3)),(2,.box (.agg [(.own 1 0 n4 n5 (some n6))])),(3,.v (.own 2 0 t7 t8 none)),(6,.box (.agg [(.data l9),(.data l10)])),(7,.v (.own 0 0 n11 n12 (some n13))),(9,.box (.agg [(.int .i64 i14),(.int .i64 i15)])),(10,.v (.int .i64 i16)),(11,.box (.agg [(.int .i64 i17),(.int .i64 i18)])),(49,.v (.own 0 0 n19 n20 (some n21))),(50,.v (.int .i64 i22)),(51,.v (.int .i64 i23))],[⟨false,true,1,l0⟩,⟨false,true,1,l1⟩,⟨false,true,1,l2⟩]=>asr (decide (t7=List.length l2)&&decide (t8=List.length l2)) (A1 l0 l1 l2 l3 n4 n5 n6 l9 l10 n11 n12 n13 i14 i15 i16 i17 i18 n19 n20 n21 i22 i23)
 | _,_=>False
def yf1 (F:Frm) (H:Hp) (A0:Ls→Ls→Ls→Nat→Nat→Nat→Ls→Ls→Nat→Nat→Nat→Int→Int→Prop) (A1:Ls→Ls→Ls→Ls→Nat→Nat→Nat→Ls→Ls→Nat→Nat→Nat→Int→Int→Prop):Prop :=
 match F,H with
 | [(0,.v (.data l2)),(2,.box (.agg [(.own 1 0 n3 n4 (some n5))])),(3,.v .nils),(6,.box (.agg [(.data l6),(.data l7)])),(7,.v (.own 0 0 n8 n9 (some n10))),(9,.box (.agg [(.int .i64 i11),(.int .i64 i12)]))],[⟨false,true,1,l0⟩,⟨false,true,1,l1⟩]=>(A0 l0 l1 l2 n3 n4 n5 l6 l7 n8 n9 n10 i11 i12)
 | [(0,.v (.data l3)),(2,.box (.agg [(.own 1 0 n4 n5 (some n6))])),(3,.v (.own 2 0 t7 t8 none)),(6,.box (.agg [(.data l9),(.data l10)])),(7,.v (.own 0 0 n11 n12 (some n13))),(9,.box (.agg [(.int .i64 i14),(.int .i64 i15)]))],[⟨false,true,1,l0⟩,⟨false,true,1,l1⟩,⟨false,true,1,l2⟩]=>asr (decide (t7=List.length l2)&&decide (t8=List.length l2)) (A1 l0 l1 l2 l3 n4 n5 n6 l9 l10 n11 n12 n13 i14 i15)
 | _,_=>False
def yle (Q:Qx):Ls→Ls→Ls→Ls→Nat→Nat→Nat→Int→Int→Bool→Prop:=(fun l0 l1 l2 l3 n4 n5 n6 i7 i8 b9=>Q (.exit 0) [(0,.v (.data l1)),(2,.box (.agg [.nils])),(3,.v .nils),(6,.box (.agg [(.data l2),(.data l3)])),(7,.v (.own 0 0 n4 n5 (some n6))),(31,.v (.int .i64 i7)),(32,.v (.int .i64 i8)),(33,.v (.bool b9))] [⟨false,true,1,l0⟩])
def yeS (Q:Qx):Ls→Ls→Int→Prop:=(fun l0 l1 i2=>Q .ret [(2,.box (.agg [.nils])),(3,.v .nils),(4,.v .nils),(5,.v (.int .i64 i2))] [⟨false,true,1,l0⟩,⟨false,true,1,l1⟩])
def yeT (Q:Qx):Ls→Ls→Ls→Nat→Nat→Nat→Ls→Ls→Nat→Nat→Nat→Int→Int→Int→Int→Int→Nat→Nat→Nat→Int→Int→Bool→Prop:=(fun l0 l1 l2 n3 n4 n5 l6 l7 n8 n9 n10 i11 i12 i13 i14 i15 n16 n17 n18 i19 i20 b21=>Q (.exit 4) [(0,.v (.data l2)),(2,.box (.agg [(.own 1 0 n3 n4 (some n5))])),(3,.v .nils),(6,.box (.agg [(.data l6),(.data l7)])),(7,.v (.own 0 0 n8 n9 (some n10))),(9,.box (.agg [(.int .i64 i11),(.int .i64 i12)])),(10,.v (.int .i64 i13)),(11,.box (.agg [(.int .i64 i14),(.int .i64 i15)])),(49,.v (.own 0 0 n16 n17 (some n18))),(50,.v (.int .i64 i19)),(51,.v (.int .i64 i20)),(52,.v (.bool b21))] [⟨false,true,1,l0⟩,⟨false,true,1,l1⟩])
def yeU (Q:Qx):Ls→Ls→Ls→Int→Prop:=(fun l0 l1 l2 i3=>Q .ret [(2,.box (.agg [.nils])),(3,.v .nils),(4,.v .nils),(5,.v (.int .i64 i3))] [⟨false,true,1,l0⟩,⟨false,true,1,l1⟩,⟨false,true,1,l2⟩])
def yeV (Q:Qx):Ls→Ls→Ls→Ls→Nat→Nat→Nat→Ls→Ls→Nat→Nat→Nat→Int→Int→Int→Int→Int→Nat→Nat→Nat→Int→Int→Bool→Prop:=(fun l0 l1 l2 l3 n4 n5 n6 l9 l10 n11 n12 n13 i14 i15 i16 i17 i18 n19 n20 n21 i22 i23 b24=>Q (.exit 4) [(0,.v (.data l3)),(2,.box (.agg [(.own 1 0 n4 n5 (some n6))])),(3,.v (.own 2 0 (List.length l2) (List.length l2) none)),(6,.box (.agg [(.data l9),(.data l10)])),(7,.v (.own 0 0 n11 n12 (some n13))),(9,.box (.agg [(.int .i64 i14),(.int .i64 i15)])),(10,.v (.int .i64 i16)),(11,.box (.agg [(.int .i64 i17),(.int .i64 i18)])),(49,.v (.own 0 0 n19 n20 (some n21))),(50,.v (.int .i64 i22)),(51,.v (.int .i64 i23)),(52,.v (.bool b24))] [⟨false,true,1,l0⟩,⟨false,true,1,l1⟩,⟨false,true,1,l2⟩])
def yeW (Q:Qx):Ls→Ls→Int→Prop:=(fun l0 l1 i2=>Q .ret [(2,.box (.agg [.nils])),(3,.v .nils),(4,.v .nils),(5,.v (.int .i64 i2))] [⟨false,true,1,l0⟩,⟨false,true,1,l1⟩])
def yeX (Q:Qx):Ls→Ls→Ls→Int→Prop:=(fun l0 l1 l2 i3=>Q .ret [(2,.box (.agg [.nils])),(3,.v .nils),(4,.v .nils),(5,.v (.int .i64 i3))] [⟨false,true,1,l0⟩,⟨false,true,1,l1⟩,⟨false,true,1,l2⟩])
def yeY (Q:Qx):Ls→Ls→Ls→Ls→Nat→Nat→Nat→Ls→Ls→Nat→Nat→Nat→Int→Int→Bool→Prop:=(fun l0 l1 l2 l3 n4 n5 n6 l9 l10 n11 n12 n13 i14 i15 b16=>Q (.exit 2) [(0,.v (.data l3)),(2,.box (.agg [(.own 1 0 n4 n5 (some n6))])),(3,.v (.own 2 0 (List.length l2) (List.length l2) none)),(6,.box (.agg [(.data l9),(.data l10)])),(7,.v (.own 0 0 n11 n12 (some n13))),(9,.box (.agg [(.int .i64 i14),(.int .i64 i15)])),(47,.v (.bool b16))] [⟨false,true,1,l0⟩,⟨false,true,1,l1⟩,⟨false,true,1,l2⟩])
def yeZ (Q:Qx):Ls→Ls→Ls→Nat→Nat→Nat→Ls→Ls→Nat→Nat→Nat→Int→Int→Bool→Prop:=(fun l0 l1 l2 n3 n4 n5 l6 l7 n8 n9 n10 i11 i12 b13=>Q (.exit 2) [(0,.v (.data l2)),(2,.box (.agg [(.own 1 0 n3 n4 (some n5))])),(3,.v .nils),(6,.box (.agg [(.data l6),(.data l7)])),(7,.v (.own 0 0 n8 n9 (some n10))),(9,.box (.agg [(.int .i64 i11),(.int .i64 i12)])),(47,.v (.bool b13))] [⟨false,true,1,l0⟩,⟨false,true,1,l1⟩])
def yjU (a0:ye6) (a1:ycY) (a2:ydt) (a3:ye7) (a4:ydu) (Q:Qx) (n:Nat) (F:Frm) (H:Hp):Prop:=yfZ F H (fun l0 l1 l2 l3 n4 n5 n6 i7 i8=>ydf a0 a1 a2 a3 a4 (yle Q) n l0 l1 l2 l3 n4 n5 n6 i7 i8)
def yhx (a0:ye6) (a1:ycY) (a2:ydt) (a3:ye7) (a4:ydu) (Q:Qx) (n:Nat) (F:Frm) (H:Hp):Prop:=yf0 F H (fun l0 l1 l2 n3 n4 n5 l6 l7 n8 n9 n10 i11 i12 i13 i14 i15 n16 n17 n18 i19 i20=>ycj a0 a1 a2 a3 a4 (yeS Q) (yeT Q) (yeU Q) (yeV Q) n l0 l1 l2 n3 n4 n5 l6 l7 n8 n9 n10 i11 i12 i13 i14 i15 n16 n17 n18 i19 i20) (fun l0 l1 l2 l3 n4 n5 n6 l9 l10 n11 n12 n13 i14 i15 i16 i17 i18 n19 n20 n21 i22 i23=>yck a0 a1 a2 a3 a4 (yeS Q) (yeT Q) (yeU Q) (yeV Q) n l0 l1 l2 l3 n4 n5 n6 l9 l10 n11 n12 n13 i14 i15 i16 i17 i18 n19 n20 n21 i22 i23)
def yhy (a0:ye6) (a1:ycY) (a2:ydt) (a3:ye7) (a4:ydu) (Q:Qx) (n:Nat) (F:Frm) (H:Hp):Prop:=yf1 F H (fun l0 l1 l2 n3 n4 n5 l6 l7 n8 n9 n10 i11 i12=>ydg a0 a1 a2 a3 a4 (yeW Q) (yeX Q) (yeY Q) (yeZ Q) n l0 l1 l2 n3 n4 n5 l6 l7 n8 n9 n10 i11 i12) (fun l0 l1 l2 l3 n4 n5 n6 l9 l10 n11 n12 n13 i14 i15=>ybe a0 a1 a2 a3 a4 (yeW Q) (yeX Q) (yeY Q) (yeZ Q) n l0 l1 l2 l3 n4 n5 n6 l9 l10 n11 n12 n13 i14 i15)
def ycu (a0:ye6) (a1:ycY) (a2:ydt) (a3:ye7) (a4:ydu):LP:=fun id F H Q =>
 bif Nat.beq id 29600600 then yfZ F H (fun l0 l1 l2 l3 n4 n5 n6 i7 i8=>∃ n:Nat,ydf a0 a1 a2 a3 a4 (yle Q) n l0 l1 l2 l3 n4 n5 n6 i7 i8) else
 bif Nat.beq id 29600601 then yf0 F H (fun l0 l1 l2 n3 n4 n5 l6 l7 n8 n9 n10 i11 i12 i13 i14 i15 n16 n17 n18 i19 i20=>∃ n:Nat,ycj a0 a1 a2 a3 a4 (yeS Q) (yeT Q) (yeU Q) (yeV Q) n l0 l1 l2 n3 n4 n5 l6 l7 n8 n9 n10 i11 i12 i13 i14 i15 n16 n17 n18 i19 i20) (fun l0 l1 l2 l3 n4 n5 n6 l9 l10 n11 n12 n13 i14 i15 i16 i17 i18 n19 n20 n21 i22 i23=>∃ n:Nat,yck a0 a1 a2 a3 a4 (yeS Q) (yeT Q) (yeU Q) (yeV Q) n l0 l1 l2 l3 n4 n5 n6 l9 l10 n11 n12 n13 i14 i15 i16 i17 i18 n19 n20 n21 i22 i23) else
 bif Nat.beq id 29600602 then yf1 F H (fun l0 l1 l2 n3 n4 n5 l6 l7 n8 n9 n10 i11 i12=>∃ n:Nat,ydg a0 a1 a2 a3 a4 (yeW Q) (yeX Q) (yeY Q) (yeZ Q) n l0 l1 l2 n3 n4 n5 l6 l7 n8 n9 n10 i11 i12) (fun l0 l1 l2 l3 n4 n5 n6 l9 l10 n11 n12 n13 i14 i15=>∃ n:Nat,ybe a0 a1 a2 a3 a4 (yeW Q) (yeX Q) (yeY Q) (yeZ Q) n l0 l1 l2 l3 n4 n5 n6 l9 l10 n11 n12 n13 i14 i15) else
 False
def yfJ (e:Es) (a0:ye6) (a1:ycY) (a2:ydt) (a3:ye7) (a4:ydu):SE:=⟨(E e),yaK [(yoY,yus a0),(ycS,ypL a1),(yf9,yq7 a2),(yoZ,yuu a3),(yg6,yq9 a4)],yaL [],ycu a0 a1 a2 a3 a4⟩
theorem yjV (e:Es) (he:EG e):SEOk (yfJ e ycg ybm ybn ybF ya8):=yat ⟨(yKr e he),(yEw e he),(yGi e he),(yB0 e he),(yGl e he),trivial⟩ trivial he.ok
theorem yuB (e:Es) (a0 a1 a2 a3 a4 Q n l0 l1 l2 l3 n4 n5 n6 i7 i8):WC (E e) (ybd (yfJ e a0 a1 a2 a3 a4) 5) (ycu a0 a1 a2 a3 a4) ypg [(0,.v (.data l1)),(2,.box (.agg [.nils])),(3,.v .nils),(6,.box (.agg [(.data l2),(.data l3)])),(7,.v (.own 0 0 n4 n5 (some n6))),(31,.v (.int .i64 i7)),(32,.v (.int .i64 i8))] [⟨false,true,1,l0⟩] (exQ (yjU a0 a1 a2 a3 a4 Q n) Q)=ydf a0 a1 a2 a3 a4 (yle Q) (n+1) l0 l1 l2 l3 n4 n5 n6 i7 i8:=by kernel_rfl
theorem yzx (e:Es) (_:EG e):LpOk (E e) (ycu ycg ybm ybn ybF ya8) ypg:=(yai (by kernel_rfl))
theorem yxX (e:Es) (he:EG e):∀ F H Q,ycu ycg ybm ybn ybF ya8 29600600 F H Q→ycr (E e) ypg F H Q:=by
 intro F H Q h
 have go:=ycr.intro (yaG (yjV e he) 5) (yzx e he) (yjU ycg ybm ybn ybF ya8 Q) (by intro F H h;unfold yjU yfZ at h;split at h <;> exact h) (by intro n F H h;unfold yjU yfZ at h;split at h;exact (yuB ..).mpr h;exact h.elim)
 have h:yfZ F H _:=h
 unfold yfZ at h
 split at h
 ·obtain ⟨n,h⟩:=h;exact go n _ _ h
 ·exact h.elim
theorem yuC (e:Es) (a0 a1 a2 a3 a4 Q n l0 l1 l2 n3 n4 n5 l6 l7 n8 n9 n10 i11 i12 i13 i14 i15 n16 n17 n18 i19 i20):WC (E e) (ybd (yfJ e a0 a1 a2 a3 a4) 5) (ycu a0 a1 a2 a3 a4) yj4 [(0,.v (.data l2)),(2,.box (.agg [(.own 1 0 n3 n4 (some n5))])),(3,.v .nils),(6,.box (.agg [(.data l6),(.data l7)])),(7,.v (.own 0 0 n8 n9 (some n10))),(9,.box (.agg [(.int .i64 i11),(.int .i64 i12)])),(10,.v (.int .i64 i13)),(11,.box (.agg [(.int .i64 i14),(.int .i64 i15)])),(49,.v (.own 0 0 n16 n17 (some n18))),(50,.v (.int .i64 i19)),(51,.v (.int .i64 i20))] [⟨false,true,1,l0⟩,⟨false,true,1,l1⟩] (exQ (yhx a0 a1 a2 a3 a4 Q n) Q)=ycj a0 a1 a2 a3 a4 (yeS Q) (yeT Q) (yeU Q) (yeV Q) (n+1) l0 l1 l2 n3 n4 n5 l6 l7 n8 n9 n10 i11 i12 i13 i14 i15 n16 n17 n18 i19 i20:=by kernel_rfl
theorem yuD (e:Es) (a0 a1 a2 a3 a4 Q n l0 l1 l2 l3 n4 n5 n6 l9 l10 n11 n12 n13 i14 i15 i16 i17 i18 n19 n20 n21 i22 i23):WC (E e) (ybd (yfJ e a0 a1 a2 a3 a4) 5) (ycu a0 a1 a2 a3 a4) yj4 [(0,.v (.data l3)),(2,.box (.agg [(.own 1 0 n4 n5 (some n6))])),(3,.v (.own 2 0 (List.length l2) (List.length l2) none)),(6,.box (.agg [(.data l9),(.data l10)])),(7,.v (.own 0 0 n11 n12 (some n13))),(9,.box (.agg [(.int .i64 i14),(.int .i64 i15)])),(10,.v (.int .i64 i16)),(11,.box (.agg [(.int .i64 i17),(.int .i64 i18)])),(49,.v (.own 0 0 n19 n20 (some n21))),(50,.v (.int .i64 i22)),(51,.v (.int .i64 i23))] [⟨false,true,1,l0⟩,⟨false,true,1,l1⟩,⟨false,true,1,l2⟩] (exQ (yhx a0 a1 a2 a3 a4 Q n) Q)=yck a0 a1 a2 a3 a4 (yeS Q) (yeT Q) (yeU Q) (yeV Q) (n+1) l0 l1 l2 l3 n4 n5 n6 l9 l10 n11 n12 n13 i14 i15 i16 i17 i18 n19 n20 n21 i22 i23:=by kernel_rfl
theorem yzy (e:Es) (_:EG e):LpOk (E e) (ycu ycg ybm ybn ybF ya8) yj4:=(yai (by kernel_rfl))
theorem ypN (e:Es) (he:EG e):∀ F H Q,ycu ycg ybm ybn ybF ya8 29600601 F H Q→ycr (E e) yj4 F H Q:=by
 intro F H Q h
 have go:=ycr.intro (yaG (yjV e he) 5) (yzy e he) (yhx ycg ybm ybn ybF ya8 Q) (by
  intro F H h
  unfold yhx yf0 at h
  split at h
  ·exact h
  ·obtain ⟨hg,k⟩:=yah.1 h
   clear h
   have h:=k
   clear k
   try simp only [qAc,decide_eq_true_eq] at hg
   obtain ⟨g0,g1⟩:=hg;subst g0;subst g1;exact h
  ·exact h) (by
  intro n F H h
  unfold yhx yf0 at h
  split at h
  ·exact (yuC ..).mpr h
  ·obtain ⟨hg,k⟩:=yah.1 h
   clear h
   have h:=k
   clear k
   try simp only [qAc,decide_eq_true_eq] at hg
   obtain ⟨g0,g1⟩:=hg;subst g0;subst g1;exact (yuD ..).mpr h
  ·exact h.elim)
 have h:yf0 F H _ _:=h
 unfold yf0 at h
 split at h
 ·obtain ⟨n,h⟩:=h;exact go n _ _ h
 ·obtain ⟨hg,n,h⟩:=yah.1 h;exact go n _ _ (yah.2 ⟨hg,h⟩)
 ·exact h.elim
theorem yuE (e:Es) (a0 a1 a2 a3 a4 Q n l0 l1 l2 n3 n4 n5 l6 l7 n8 n9 n10 i11 i12):WC (E e) (ybd (yfJ e a0 a1 a2 a3 a4) 5) (ycu a0 a1 a2 a3 a4) ylT [(0,.v (.data l2)),(2,.box (.agg [(.own 1 0 n3 n4 (some n5))])),(3,.v .nils),(6,.box (.agg [(.data l6),(.data l7)])),(7,.v (.own 0 0 n8 n9 (some n10))),(9,.box (.agg [(.int .i64 i11),(.int .i64 i12)]))] [⟨false,true,1,l0⟩,⟨false,true,1,l1⟩] (exQ (yhy a0 a1 a2 a3 a4 Q n) Q)=ydg a0 a1 a2 a3 a4 (yeW Q) (yeX Q) (yeY Q) (yeZ Q) (n+1) l0 l1 l2 n3 n4 n5 l6 l7 n8 n9 n10 i11 i12:=by kernel_rfl
theorem yuF (e:Es) (a0 a1 a2 a3 a4 Q n l0 l1 l2 l3 n4 n5 n6 l9 l10 n11 n12 n13 i14 i15):WC (E e) (ybd (yfJ e a0 a1 a2 a3 a4) 5) (ycu a0 a1 a2 a3 a4) ylT [(0,.v (.data l3)),(2,.box (.agg [(.own 1 0 n4 n5 (some n6))])),(3,.v (.own 2 0 (List.length l2) (List.length l2) none)),(6,.box (.agg [(.data l9),(.data l10)])),(7,.v (.own 0 0 n11 n12 (some n13))),(9,.box (.agg [(.int .i64 i14),(.int .i64 i15)]))] [⟨false,true,1,l0⟩,⟨false,true,1,l1⟩,⟨false,true,1,l2⟩] (exQ (yhy a0 a1 a2 a3 a4 Q n) Q)=ybe a0 a1 a2 a3 a4 (yeW Q) (yeX Q) (yeY Q) (yeZ Q) (n+1) l0 l1 l2 l3 n4 n5 n6 l9 l10 n11 n12 n13 i14 i15:=by kernel_rfl
theorem yzz (e:Es) (he:EG e):LpOk (E e) (ycu ycg ybm ybn ybF ya8) ylT:=(ybg (l:=[(29600601,yj4)]) ⟨ypN e he,trivial⟩ (by kernel_rfl))
theorem yxY (e:Es) (he:EG e):∀ F H Q,ycu ycg ybm ybn ybF ya8 29600602 F H Q→ycr (E e) ylT F H Q:=by
 intro F H Q h
 have go:=ycr.intro (yaG (yjV e he) 5) (yzz e he) (yhy ycg ybm ybn ybF ya8 Q) (by
  intro F H h
  unfold yhy yf1 at h
  split at h
  ·exact h
  ·obtain ⟨hg,k⟩:=yah.1 h
   clear h
   have h:=k
   clear k
   try simp only [qAc,decide_eq_true_eq] at hg
   obtain ⟨g0,g1⟩:=hg;subst g0;subst g1;exact h
  ·exact h) (by
  intro n F H h
  unfold yhy yf1 at h
  split at h
  ·exact (yuE ..).mpr h
  ·obtain ⟨hg,k⟩:=yah.1 h
   clear h
   have h:=k
   clear k
   try simp only [qAc,decide_eq_true_eq] at hg
   obtain ⟨g0,g1⟩:=hg;subst g0;subst g1;exact (yuF ..).mpr h
  ·exact h.elim)
 have h:yf1 F H _ _:=h
 unfold yf1 at h
 split at h
 ·obtain ⟨n,h⟩:=h;exact go n _ _ h
 ·obtain ⟨hg,n,h⟩:=yah.1 h;exact go n _ _ (yah.2 ⟨hg,h⟩)
 ·exact h.elim
theorem yEz (e:Es) (a0 a1 a2 a3 a4 p0 K):WP (yfJ e a0 a1 a2 a3 a4) 6 yFA [(.data p0)] K=ypM a0 a1 a2 a3 a4 p0 (fun r0 r1 r2 r3=>K (.tup [(.agg [(.data r0)]),(.data r1),(.data r2),(.int .i64 r3)])):=by kernel_rfl
theorem ypO (e:Es) (he:EG e):OkF (E e) yuA ygj:=by
 intro as K h
 unfold yuA yld at h
 split at h
 ·exact ya6 (yjV e he) (ybg (l:=[(29600600,ypg),(29600601,yj4),(29600602,ylT)]) ⟨yxX e he,ypN e he,yxY e he,trivial⟩ (by kernel_rfl)) (by kernel_rfl) (by kernel_rfl) (fun _=>yab (by kernel_rfl) _) (he.num _ (by kernel_rfl)) ((yEz ..).mpr h)
 ·exact h.elim
abbrev ym0:Type:=Int→Ls→Ls→Int→Int→(Int→Int→Int→Prop)→Prop
def ygm (p0:Int) (p1 p2:Ls) (p3 p4:Int) (K:Int→Int→Int→Prop):Prop :=
 ∃ r0 r1 r2,K r0 r1 r2∧∀ e:Es,EG e→Ans (E e) ycT [(.agg [(.int .i64 p0),(.data p1),(.data p2)]),(.agg [(.int .i64 p3),(.int .i64 p4)])] (.tup [(.agg [(.int .i64 r0),(.int .i64 r1)]),(.int .i64 r2)])
def ypP (w:ym0) (as:Ls) (K:PV→Prop):Prop :=
 match as with
 | [(.agg [(.int .i64 p0),(.data p1),(.data p2)]),(.agg [(.int .i64 p3),(.int .i64 p4)])]=>w p0 p1 p2 p3 p4 (fun r0 r1 r2=>K (.tup [(.agg [(.int .i64 r0),(.int .i64 r1)]),(.int .i64 r2)]))
 | _=>False
def yuG (as:Ls) (K:PV→Prop):Prop:=ypP ygm as K
theorem yuH (e:Es) (he:EG e):OkF (E e) yuG ycT:=by
 intro as K h
 unfold yuG ypP at h
 split at h
 ·obtain ⟨r0,r1,r2,hk,ha⟩:=h
  exact ⟨_,hk,ha e he⟩
 ·exact h.elim
abbrev yqs:Type:=Int→Ls→Ls→Int→Ls→Ls→Int→Int→(Int→Int→Int→Prop)→Prop
def yiv (p0:Int) (p1 p2:Ls) (p3:Int) (p4 p5:Ls) (p6 p7:Int) (K:Int→Int→Int→Prop):Prop :=
 ∃ r0 r1 r2,K r0 r1 r2∧∀ e:Es,EG e→Ans (E e) ycN [(.agg [(.int .i64 p0),(.data p1),(.data p2)]),(.agg [(.int .i64 p3),(.data p4),(.data p5)]),(.agg [(.int .i64 p6),(.int .i64 p7)])] (.tup [(.agg [(.int .i64 r0),(.int .i64 r1)]),(.int .i64 r2)])
def ysx (w:yqs) (as:Ls) (K:PV→Prop):Prop :=
 match as with
 | [(.agg [(.int .i64 p0),(.data p1),(.data p2)]),(.agg [(.int .i64 p3),(.data p4),(.data p5)]),(.agg [(.int .i64 p6),(.int .i64 p7)])]=>w p0 p1 p2 p3 p4 p5 p6 p7 (fun r0 r1 r2=>K (.tup [(.agg [(.int .i64 r0),(.int .i64 r1)]),(.int .i64 r2)]))
 | _=>False
def yzA (as:Ls) (K:PV→Prop):Prop:=ysx yiv as K
theorem yzB (e:Es) (he:EG e):OkF (E e) yzA ycN:=by
 intro as K h
 unfold yzA ysx at h
 split at h
 ·obtain ⟨r0,r1,r2,hk,ha⟩:=h
  exact ⟨_,hk,ha e he⟩
 ·exact h.elim
abbrev yom:Type:=Int→Ls→Ls→Int→Ls→Ls→(Int→Int→Int→Int→Int→Prop)→Prop
def yiW (p0:Int) (p1 p2:Ls) (p3:Int) (p4 p5:Ls) (K:Int→Int→Int→Int→Int→Prop):Prop :=
 ∃ r0 r1 r2 r3 r4,K r0 r1 r2 r3 r4∧∀ e:Es,EG e→Ans (E e) yg7 [(.agg [(.int .i64 p0),(.data p1),(.data p2)]),(.agg [(.int .i64 p3),(.data p4),(.data p5)])] (.tup [(.agg [(.int .i64 r0),(.int .i64 r1),(.int .i64 r2),(.int .i64 r3)]),(.int .i64 r4)])
def yra (w:yom) (as:Ls) (K:PV→Prop):Prop :=
 match as with
 | [(.agg [(.int .i64 p0),(.data p1),(.data p2)]),(.agg [(.int .i64 p3),(.data p4),(.data p5)])]=>w p0 p1 p2 p3 p4 p5 (fun r0 r1 r2 r3 r4=>K (.tup [(.agg [(.int .i64 r0),(.int .i64 r1),(.int .i64 r2),(.int .i64 r3)]),(.int .i64 r4)]))
 | _=>False
def ywZ (as:Ls) (K:PV→Prop):Prop:=yra yiW as K
theorem yw0 (e:Es) (he:EG e):OkF (E e) ywZ yg7:=by
 intro as K h
 unfold ywZ yra at h
 split at h
 ·obtain ⟨r0,r1,r2,r3,r4,hk,ha⟩:=h
  exact ⟨_,hk,ha e he⟩
 ·exact h.elim
end Go.Pf.Vc
namespace Go.Pf.Vc
open Go Go.Pf
set_option linter.unusedVariables false
theorem yCH (p0:Ls) (r0:Ls) (r1:Ls) (r2:Ls) (r3:Int) (h:∀ K:Ls→Ls→Ls→Int→Prop,K r0 r1 r2 r3→ycA p0 K) (K:Ls→Ls→Ls→Int→Prop):ycA p0 K=K r0 r1 r2 r3 :=
 propext ⟨fun k=>detC (ypO [] yba) (as:=[(.data p0)]) (x:=(.tup [(.agg [(.data r0)]),(.data r1),(.data r2),(.int .i64 r3)])) (fun K' k'=>h (fun r0 r1 r2 r3=>K' (.tup [(.agg [(.data r0)]),(.data r1),(.data r2),(.int .i64 r3)])) k') (K:=fun x=>match x with | (.tup [(.agg [(.data r0)]),(.data r1),(.data r2),(.int .i64 r3)])=>K r0 r1 r2 r3 | _=>False) k,h K⟩
theorem yCI (p0:Int) (p1:Ls) (p2:Ls) (p3:Int) (p4:Int) (r0:Int) (r1:Int) (r2:Int) (h:∀ K:Int→Int→Int→Prop,K r0 r1 r2→ygm p0 p1 p2 p3 p4 K) (K:Int→Int→Int→Prop):ygm p0 p1 p2 p3 p4 K=K r0 r1 r2 :=
 propext ⟨fun k=>detC (yuH [] yba) (as:=[(.agg [(.int .i64 p0),(.data p1),(.data p2)]),(.agg [(.int .i64 p3),(.int .i64 p4)])]) (x:=(.tup [(.agg [(.int .i64 r0),(.int .i64 r1)]),(.int .i64 r2)])) (fun K' k'=>h (fun r0 r1 r2=>K' (.tup [(.agg [(.int .i64 r0),(.int .i64 r1)]),(.int .i64 r2)])) k') (K:=fun x=>match x with | (.tup [(.agg [(.int .i64 r0),(.int .i64 r1)]),(.int .i64 r2)])=>K r0 r1 r2 | _=>False) k,h K⟩
theorem yw1 (p0:Int) (p1:Ls) (p2:Ls) (p3:Int) (p4:Ls) (p5:Ls) (p6:Int) (p7:Int) (r0:Int) (r1:Int) (r2:Int) (h:∀ K:Int→Int→Int→Prop,K r0 r1 r2→yiv p0 p1 p2 p3 p4 p5 p6 p7 K) (K:Int→Int→Int→Prop):yiv p0 p1 p2 p3 p4 p5 p6 p7 K=K r0 r1 r2 :=
 propext ⟨fun k=>detC (yzB [] yba) (as:=[(.agg [(.int .i64 p0),(.data p1),(.data p2)]),(.agg [(.int .i64 p3),(.data p4),(.data p5)]),(.agg [(.int .i64 p6),(.int .i64 p7)])]) (x:=(.tup [(.agg [(.int .i64 r0),(.int .i64 r1)]),(.int .i64 r2)])) (fun K' k'=>h (fun r0 r1 r2=>K' (.tup [(.agg [(.int .i64 r0),(.int .i64 r1)]),(.int .i64 r2)])) k') (K:=fun x=>match x with | (.tup [(.agg [(.int .i64 r0),(.int .i64 r1)]),(.int .i64 r2)])=>K r0 r1 r2 | _=>False) k,h K⟩
theorem yEA (p0:Int) (p1:Ls) (p2:Ls) (p3:Int) (p4:Ls) (p5:Ls) (r0:Int) (r1:Int) (r2:Int) (r3:Int) (r4:Int) (h:∀ K:Int→Int→Int→Int→Int→Prop,K r0 r1 r2 r3 r4→yiW p0 p1 p2 p3 p4 p5 K) (K:Int→Int→Int→Int→Int→Prop):yiW p0 p1 p2 p3 p4 p5 K=K r0 r1 r2 r3 r4 :=
 propext ⟨fun k=>detC (yw0 [] yba) (as:=[(.agg [(.int .i64 p0),(.data p1),(.data p2)]),(.agg [(.int .i64 p3),(.data p4),(.data p5)])]) (x:=(.tup [(.agg [(.int .i64 r0),(.int .i64 r1),(.int .i64 r2),(.int .i64 r3)]),(.int .i64 r4)])) (fun K' k'=>h (fun r0 r1 r2 r3 r4=>K' (.tup [(.agg [(.int .i64 r0),(.int .i64 r1),(.int .i64 r2),(.int .i64 r3)]),(.int .i64 r4)])) k') (K:=fun x=>match x with | (.tup [(.agg [(.int .i64 r0),(.int .i64 r1),(.int .i64 r2),(.int .i64 r3)]),(.int .i64 r4)])=>K r0 r1 r2 r3 r4 | _=>False) k,h K⟩
end Go.Pf.Vc
namespace Go.Pf.Vc
open Go Go.Pf
set_option maxRecDepth 100000
abbrev yzC:Type:=Int→(Int→Int→Prop)→Prop
def yHg (p0:Int) (K:Int→Int→Prop):Prop :=
 (K p0 (1:Int))
def yEB (p0:Int) (K:Int→Int→Prop):Prop:=yHg p0 K
def yBg (w:yzC) (as:Ls) (K:PV→Prop):Prop :=
 match as with
 | [(.int .i64 p0)]=>w p0 (fun r0 r1=>K (.agg [(.int .i64 r0),(.int .i64 r1)]))
 | _=>False
def yHh (as:Ls) (K:PV→Prop):Prop:=yBg yEB as K
def yOW:LP:=fun _ _ _ _ =>
 False
def yHi (e:Es):SE:=⟨(E e),yaK [],yaL [],yOW⟩
theorem yMD (e:Es) (he:EG e):SEOk (yHi e):=yat trivial trivial he.ok
theorem yOX (e:Es) ( p0 K):WP (yHi e) 6 yQl [(.int .i64 p0)] K=yHg p0 (fun r0 r1=>K (.agg [(.int .i64 r0),(.int .i64 r1)])):=by kernel_rfl
theorem yOY (e:Es) (he:EG e):OkF (E e) yHh ytU:=by
 intro as K h
 unfold yHh yBg at h
 split at h
 ·exact ya6 (yMD e he) (yai (by kernel_rfl)) (by kernel_rfl) (by kernel_rfl) (fun _=>yab (by kernel_rfl) _) (he.num _ (by kernel_rfl)) ((yOX ..).mpr h)
 ·exact h.elim
abbrev yvA:Type:=Int→(Int→Prop)→Prop
def yxZ (p0:Int) (K:Int→Prop):Prop :=
 (cbr (decide (p0<(0:Int)))
 (K (IntKind.u64.wrap ((IntKind.u64.wrap (IntKind.i64.wrap ((0:Int)-(IntKind.i64.wrap (p0+(1:Int))))))+(1:Int))))
 (K (IntKind.u64.wrap p0)))
def yrN (p0:Int) (K:Int→Prop):Prop:=yxZ p0 K
def yx0 (w:yvA) (as:Ls) (K:PV→Prop):Prop :=
 match as with
 | [(.int .i64 p0)]=>w p0 (fun r0=>K (.int .u64 r0))
 | _=>False
def yEC (as:Ls) (K:PV→Prop):Prop:=yx0 yrN as K
def yME:LP:=fun _ _ _ _ =>
 False
def yED (e:Es):SE:=⟨(E e),yaK [],yaL [],yME⟩
theorem yKu (e:Es) (he:EG e):SEOk (yED e):=yat trivial trivial he.ok
theorem yMF (e:Es) ( p0 K):WP (yED e) 6 yOU [(.int .i64 p0)] K=yxZ p0 (fun r0=>K (.int .u64 r0)):=by kernel_rfl
theorem yMG (e:Es) (he:EG e):OkF (E e) yEC yoI:=by
 intro as K h
 unfold yEC yx0 at h
 split at h
 ·exact ya6 (yKu e he) (yai (by kernel_rfl)) (by kernel_rfl) (by kernel_rfl) (fun _=>yab (by kernel_rfl) _) (he.num _ (by kernel_rfl)) ((yMF ..).mpr h)
 ·exact h.elim
abbrev yvB:Type:=Int→Int→(Int→Prop)→Prop
def ygn (x0:Int→Int→Bool→Prop):Nat→Int→Int→Prop
 | 0,_,_=>False
 | n+1,i0,i1 =>
 (cbr (i1 !=(0:Int))
 (asr (!(decide (i1=(0:Int))))
 (ygn x0 n i1 (Int.tmod i0 i1)))
 (x0 i0 i1 false))
def yx1 (p0 p1:Int) (K:Int→Prop):Prop :=
 (∃ n:Nat,ygn
 (fun a _ _=>(K a))
 n p0 p1)
def ymr (p0 p1:Int) (K:Int→Prop):Prop:=yx1 p0 p1 K
def yx2 (w:yvB) (as:Ls) (K:PV→Prop):Prop :=
 match as with
 | [(.int .u64 p0),(.int .u64 p1)]=>w p0 p1 (fun r0=>K (.int .u64 r0))
 | _=>False
def yEE (as:Ls) (K:PV→Prop):Prop:=yx2 ymr as K
def ykv (F:Frm) (H:Hp) (A0:Int→Int→Prop):Prop :=
 match F,H with
 | [(0,.v (.int .u64 i0)),(1,.v (.int .u64 i1))],[]=>(A0 i0 i1)
 | _,_=>False
def yrb (Q:Qx):Int→Int→Bool→Prop:=(fun i0 i1 b2=>Q (.exit 0) [(0,.v (.int .u64 i0)),(1,.v (.int .u64 i1)),(6,.v (.bool b2))] [])
def yqt (Q:Qx) (n:Nat) (F:Frm) (H:Hp):Prop:=ykv F H (fun i0 i1=>ygn (yrb Q) n i0 i1)
def ysy:LP:=fun id F H Q =>
 bif Nat.beq id 16774900 then ykv F H (fun i0 i1=>∃ n:Nat,ygn (yrb Q) n i0 i1) else
 False
def yx3 (e:Es):SE:=⟨(E e),yaK [],yaL [],ysy⟩
theorem yB1 (e:Es) (he:EG e):SEOk (yx3 e):=yat trivial trivial he.ok
theorem yBh (e:Es) ( Q n i0 i1):WC (E e) (ybd (yx3 e) 5) (ysy) ypt [(0,.v (.int .u64 i0)),(1,.v (.int .u64 i1))] [] (exQ (yqt Q n) Q)=ygn (yrb Q) (n+1) i0 i1:=by kernel_rfl
theorem yGm (e:Es) (_:EG e):LpOk (E e) (ysy) ypt:=(yai (by kernel_rfl))
theorem yEF (e:Es) (he:EG e):∀ F H Q,ysy 16774900 F H Q→ycr (E e) ypt F H Q:=by
 intro F H Q h
 have go:=ycr.intro (yaG (yB1 e he) 5) (yGm e he) (yqt Q) (by intro F H h;unfold yqt ykv at h;split at h <;> exact h) (by intro n F H h;unfold yqt ykv at h;split at h;exact (yBh ..).mpr h;exact h.elim)
 have h:ykv F H _:=h
 unfold ykv at h
 split at h
 ·obtain ⟨n,h⟩:=h;exact go n _ _ h
 ·exact h.elim
theorem yMH (e:Es) ( p0 p1 K):WP (yx3 e) 6 yOV [(.int .u64 p0),(.int .u64 p1)] K=yx1 p0 p1 (fun r0=>K (.int .u64 r0)):=by kernel_rfl
theorem yEG (e:Es) (he:EG e):OkF (E e) yEE yrC:=by
 intro as K h
 unfold yEE yx2 at h
 split at h
 ·exact ya6 (yB1 e he) (ybg (l:=[(16774900,ypt)]) ⟨yEF e he,trivial⟩ (by kernel_rfl)) (by kernel_rfl) (by kernel_rfl) (fun _=>yab (by kernel_rfl) _) (he.num _ (by kernel_rfl)) ((yMH ..).mpr h)
 ·exact h.elim
abbrev ysz:Type:=Bool→Int→Int→Int→Int→(Int→Int→Int→Prop)→Prop
def yuI (p0:Bool) (p1 p2 p3 p4:Int) (K:Int→Int→Int→Prop):Prop :=
 (cbr (decide (p1>(0:Int)))
 (K (0:Int) (0:Int) (16:Int))
 (cbr (decide (p3>(0:Int)))
 (K (0:Int) (0:Int) (16:Int))
 (cbr (decide (p2>(1000000000000000000:Int)))
 (K (0:Int) (0:Int) (16:Int))
 (cbr (decide (p4>(1000000000000000000:Int)))
 (K (0:Int) (0:Int) (16:Int))
 (cbr p0
 (K (IntKind.i64.wrap ((0:Int)-(IntKind.i64.wrap p2))) (IntKind.i64.wrap p4) (0:Int))
 (K (IntKind.i64.wrap p2) (IntKind.i64.wrap p4) (0:Int)))))))
def ypQ (p0:Bool) (p1 p2 p3 p4:Int) (K:Int→Int→Int→Prop):Prop:=yuI p0 p1 p2 p3 p4 K
def yuJ (w:ysz) (as:Ls) (K:PV→Prop):Prop :=
 match as with
 | [(.bool p0),(.agg [(.int .u64 p1),(.int .u64 p2)]),(.agg [(.int .u64 p3),(.int .u64 p4)])]=>w p0 p1 p2 p3 p4 (fun r0 r1 r2=>K (.tup [(.agg [(.int .i64 r0),(.int .i64 r1)]),(.int .i64 r2)]))
 | _=>False
def yB2 (as:Ls) (K:PV→Prop):Prop:=yuJ ypQ as K
def yKv:LP:=fun _ _ _ _ =>
 False
def yB3 (e:Es):SE:=⟨(E e),yaK [],yaL [],yKv⟩
theorem yIJ (e:Es) (he:EG e):SEOk (yB3 e):=yat trivial trivial he.ok
theorem yKw (e:Es) ( p0 p1 p2 p3 p4 K):WP (yB3 e) 6 yMq [(.bool p0),(.agg [(.int .u64 p1),(.int .u64 p2)]),(.agg [(.int .u64 p3),(.int .u64 p4)])] K=yuI p0 p1 p2 p3 p4 (fun r0 r1 r2=>K (.tup [(.agg [(.int .i64 r0),(.int .i64 r1)]),(.int .i64 r2)])):=by kernel_rfl
theorem yKx (e:Es) (he:EG e):OkF (E e) yB2 yo3:=by
 intro as K h
 unfold yB2 yuJ at h
 split at h
 ·exact ya6 (yIJ e he) (yai (by kernel_rfl)) (by kernel_rfl) (by kernel_rfl) (fun _=>yab (by kernel_rfl) _) (he.num _ (by kernel_rfl)) ((yKw ..).mpr h)
 ·exact h.elim
abbrev ysA:Type:=Int→Int→(Int→Int→Int→Prop)→Prop
def yuK (a0:yvA) (a1:yvB) (a2:ysz) (p0 p1:Int) (K:Int→Int→Int→Prop):Prop :=
 (cbr (p1 ==(0:Int))
 (K (0:Int) (0:Int) (18:Int))
 (a0 p0 (fun b =>
 (a0 p1 (fun c =>
 (a1 b c (fun a =>
 (asr (!(decide (a=(0:Int))))
 (asr (!(decide (a=(0:Int))))
 (a2 ((decide (p0<(0:Int))) !=(decide (p1<(0:Int)))) (0:Int) (IntKind.u64.wrap (Int.tdiv b a)) (0:Int) (IntKind.u64.wrap (Int.tdiv c a)) (fun d e f =>
 (K d e f))))))))))))
def ypR (p0 p1:Int) (K:Int→Int→Int→Prop):Prop:=yuK yrN ymr ypQ p0 p1 K
def yuL (w:ysA) (as:Ls) (K:PV→Prop):Prop :=
 match as with
 | [(.int .i64 p0),(.int .i64 p1)]=>w p0 p1 (fun r0 r1 r2=>K (.tup [(.agg [(.int .i64 r0),(.int .i64 r1)]),(.int .i64 r2)]))
 | _=>False
def yB4 (as:Ls) (K:PV→Prop):Prop:=yuL ypR as K
def yKy (_:yvA) (_:yvB) (_:ysz):LP:=fun _ _ _ _ =>
 False
def yB5 (e:Es) (a0:yvA) (a1:yvB) (a2:ysz):SE:=⟨(E e),yaK [(yoI,yx0 a0),(yrC,yx2 a1),(yo3,yuJ a2)],yaL [],yKy a0 a1 a2⟩
theorem yIK (e:Es) (he:EG e):SEOk (yB5 e yrN ymr ypQ):=yat ⟨(yMG e he),(yEG e he),(yKx e he),trivial⟩ trivial he.ok
theorem yKz (e:Es) (a0 a1 a2 p0 p1 K):WP (yB5 e a0 a1 a2) 6 yMr [(.int .i64 p0),(.int .i64 p1)] K=yuK a0 a1 a2 p0 p1 (fun r0 r1 r2=>K (.tup [(.agg [(.int .i64 r0),(.int .i64 r1)]),(.int .i64 r2)])):=by kernel_rfl
theorem yKA (e:Es) (he:EG e):OkF (E e) yB4 yo4:=by
 intro as K h
 unfold yB4 yuL at h
 split at h
 ·exact ya6 (yIK e he) (yai (by kernel_rfl)) (by kernel_rfl) (by kernel_rfl) (fun _=>yab (by kernel_rfl) _) (he.num _ (by kernel_rfl)) ((yKz ..).mpr h)
 ·exact h.elim
end Go.Pf.Vc
namespace Go.Pf.Vc
open Go Go.Pf
set_option linter.unusedVariables false
theorem yKB (p0:Int) (p1:Int) (r0:Int) (h:∀ K:Int→Prop,K r0→ymr p0 p1 K) (K:Int→Prop):ymr p0 p1 K=K r0 :=
 propext ⟨fun k=>detC (yEG [] yba) (as:=[(.int .u64 p0),(.int .u64 p1)]) (x:=(.int .u64 r0)) (fun K' k'=>h (fun r0=>K' (.int .u64 r0)) k') (K:=fun x=>match x with | (.int .u64 r0)=>K r0 | _=>False) k,h K⟩
end Go.Pf.Vc
namespace Go.Pf.Vc
open Go Go.Pf
set_option maxRecDepth 100000
abbrev ykw:Type:=Int→Ls→Ls→(Bool→Prop)→Prop
def ysB (_:Int) (p1 p2:Ls) (K:Bool→Prop):Prop :=
 (cbr (decide ((((List.length p1):Nat):Int)>(60:Int)))
 (K true)
 (K (decide ((((List.length p2):Nat):Int)>(60:Int)))))
def ygg (p0:Int) (p1 p2:Ls) (K:Bool→Prop):Prop:=ysB p0 p1 p2 K
def ysC (w:ykw) (as:Ls) (K:PV→Prop):Prop :=
 match as with
 | [(.agg [(.int .i64 p0),(.data p1),(.data p2)])]=>w p0 p1 p2 (fun r0=>K (.bool r0))
 | _=>False
def yzD (as:Ls) (K:PV→Prop):Prop:=ysC ygg as K
def yIL:LP:=fun _ _ _ _ =>
 False
def yzE (e:Es):SE:=⟨(E e),yaK [],yaL [],yIL⟩
theorem yGn (e:Es) (he:EG e):SEOk (yzE e):=yat trivial trivial he.ok
theorem yIM (e:Es) ( p0 p1 p2 K):WP (yzE e) 6 yJ3 [(.agg [(.int .i64 p0),(.data p1),(.data p2)])] K=ysB p0 p1 p2 (fun r0=>K (.bool r0)):=by kernel_rfl
theorem yIN (e:Es) (he:EG e):OkF (E e) yzD ym8:=by
 intro as K h
 unfold yzD ysC at h
 split at h
 ·exact ya6 (yGn e he) (yai (by kernel_rfl)) (by kernel_rfl) (by kernel_rfl) (fun _=>yab (by kernel_rfl) _) (he.num _ (by kernel_rfl)) ((yIM ..).mpr h)
 ·exact h.elim
abbrev yg2:Type:=Int→Ls→Ls→(Int→Prop)→Prop
def ydv (x0:Int→Prop) (x1:Int→Ls→Ls→Bool→Int→Bool→Prop):Nat→Int→Ls→Ls→Bool→Int→Prop
 | 0,_,_,_,_,_=>False
 | n+1,i0,l1,l2,b3,i4 =>
 (cbr (decide (i4<(((List.length l2):Nat):Int)))
 (asr (decide ((0:Int)≤(IntKind.i64.wrap (i4+(1:Int)))))
 (asr (decide ((IntKind.i64.wrap (i4+(1:Int)))<(((List.length l1):Nat):Int)))
 (asr (conf (.one (.i .i64)) (List.getD l1 ((IntKind.i64.wrap (i4+(1:Int))).toNat) .nils))
 (asr (decide ((0:Int)≤i4))
 (asr (decide (i4<(((List.length l1):Nat):Int)))
 (asr (conf (.one (.i .i64)) (List.getD l1 (i4.toNat) .nils))
 (cbr (decide ((yaa (List.getD l1 ((IntKind.i64.wrap (i4+(1:Int))).toNat) .nils))≤(yaa (List.getD l1 (i4.toNat) .nils))))
 (x0 (8:Int))
 (asr (decide ((0:Int)≤i4))
 (asr (decide (i4<(((List.length l2):Nat):Int)))
 (asr (conf (.one (.i .i64)) (List.getD l2 (i4.toNat) .nils))
 (cbr (decide ((yaa (List.getD l2 (i4.toNat) .nils))<(0:Int)))
 (x0 (8:Int))
 (asr (decide ((0:Int)≤i4))
 (asr (decide (i4<(((List.length l2):Nat):Int)))
 (asr (conf (.one (.i .i64)) (List.getD l2 (i4.toNat) .nils))
 (cbr (decide ((yaa (List.getD l2 (i4.toNat) .nils))>(12:Int)))
 (x0 (8:Int))
 (cbr b3
 (ydv x0 x1 n i0 l1 l2 true (IntKind.i64.wrap (i4+(1:Int))))
 (asr (decide ((0:Int)≤i4))
 (asr (decide (i4<(((List.length l2):Nat):Int)))
 (asr (conf (.one (.i .i64)) (List.getD l2 (i4.toNat) .nils))
 (ydv x0 x1 n i0 l1 l2 (decide ((yaa (List.getD l2 (i4.toNat) .nils))>(0:Int))) (IntKind.i64.wrap (i4+(1:Int)))))))))))))))))))))))
 (x1 i0 l1 l2 b3 i4 false))
def ysD (p0:Int) (p1 p2:Ls) (K:Int→Prop):Prop :=
 (cbr (decide (p0>(1000:Int)))
 (K (4:Int))
 (cbr (decide ((((List.length p1):Nat):Int)>(40:Int)))
 (K (4:Int))
 (cbr (decide (p0<(1:Int)))
 (K (8:Int))
 (cbr (decide ((((List.length p1):Nat):Int)<(2:Int)))
 (K (8:Int))
 (cbr ((((List.length p2):Nat):Int) !=(IntKind.i64.wrap ((((List.length p1):Nat):Int)-(1:Int))))
 (K (8:Int))
 (asr (decide ((0:Int)<(((List.length p1):Nat):Int)))
 (asr (conf (.one (.i .i64)) (List.getD p1 0 .nils))
 (cbr ((yaa (List.getD p1 0 .nils)) !=(0:Int))
 (K (8:Int))
 (asr (decide ((0:Int)≤(IntKind.i64.wrap ((((List.length p1):Nat):Int)-(1:Int)))))
 (asr (decide ((IntKind.i64.wrap ((((List.length p1):Nat):Int)-(1:Int)))<(((List.length p1):Nat):Int)))
 (asr (conf (.one (.i .i64)) (List.getD p1 ((IntKind.i64.wrap ((((List.length p1):Nat):Int)-(1:Int))).toNat) .nils))
 (cbr ((yaa (List.getD p1 ((IntKind.i64.wrap ((((List.length p1):Nat):Int)-(1:Int))).toNat) .nils)) != p0)
 (K (8:Int))
 (∃ n:Nat,ydv
 (fun a=>(K a))
 (fun _ _ _ b _ _=>(cbr (!b)
 (K (8:Int))
 (K (0:Int))))
 n p0 p1 p2 false (0:Int))))))))))))))
def ycE (p0:Int) (p1 p2:Ls) (K:Int→Prop):Prop:=ysD p0 p1 p2 K
def ysE (w:yg2) (as:Ls) (K:PV→Prop):Prop :=
 match as with
 | [(.agg [(.int .i64 p0),(.data p1),(.data p2)])]=>w p0 p1 p2 (fun r0=>K (.int .i64 r0))
 | _=>False
def yzF (as:Ls) (K:PV→Prop):Prop:=ysE ycE as K
def yhP (F:Frm) (H:Hp) (A0:Int→Ls→Ls→Bool→Int→Prop):Prop :=
 match F,H with
 | [(1,.box (.agg [(.int .i64 i0),(.data l1),(.data l2)])),(3,.v (.bool b3)),(4,.v (.int .i64 i4))],[]=>(A0 i0 l1 l2 b3 i4)
 | _,_=>False
def ynJ (Q:Qx):Int→Prop:=(fun i0=>Q .ret [(2,.v (.int .i64 i0))] [])
def ynK (Q:Qx):Int→Ls→Ls→Bool→Int→Bool→Prop:=(fun i0 l1 l2 b3 i4 b5=>Q (.exit 0) [(1,.box (.agg [(.int .i64 i0),(.data l1),(.data l2)])),(3,.v (.bool b3)),(4,.v (.int .i64 i4)),(57,.v (.bool b5))] [])
def ym1 (Q:Qx) (n:Nat) (F:Frm) (H:Hp):Prop:=yhP F H (fun i0 l1 l2 b3 i4=>ydv (ynJ Q) (ynK Q) n i0 l1 l2 b3 i4)
def yon:LP:=fun id F H Q =>
 bif Nat.beq id 94526800 then yhP F H (fun i0 l1 l2 b3 i4=>∃ n:Nat,ydv (ynJ Q) (ynK Q) n i0 l1 l2 b3 i4) else
 False
def ysF (e:Es):SE:=⟨(E e),yaK [],yaL [],yon⟩
theorem yw2 (e:Es) (he:EG e):SEOk (ysF e):=yat trivial trivial he.ok
theorem yx4 (e:Es) ( Q n i0 l1 l2 b3 i4):WC (E e) (ybd (ysF e) 5) (yon) yo5 [(1,.box (.agg [(.int .i64 i0),(.data l1),(.data l2)])),(3,.v (.bool b3)),(4,.v (.int .i64 i4))] [] (exQ (ym1 Q n) Q)=ydv (ynJ Q) (ynK Q) (n+1) i0 l1 l2 b3 i4:=by kernel_rfl
theorem yCJ (e:Es) (_:EG e):LpOk (E e) (yon) yo5:=(yai (by kernel_rfl))
theorem yBi (e:Es) (he:EG e):∀ F H Q,yon 94526800 F H Q→ycr (E e) yo5 F H Q:=by
 intro F H Q h
 have go:=ycr.intro (yaG (yw2 e he) 5) (yCJ e he) (ym1 Q) (by intro F H h;unfold ym1 yhP at h;split at h <;> exact h) (by intro n F H h;unfold ym1 yhP at h;split at h;exact (yx4 ..).mpr h;exact h.elim)
 have h:yhP F H _:=h
 unfold yhP at h
 split at h
 ·obtain ⟨n,h⟩:=h;exact go n _ _ h
 ·exact h.elim
theorem yIO (e:Es) ( p0 p1 p2 K):WP (ysF e) 6 yJ4 [(.agg [(.int .i64 p0),(.data p1),(.data p2)])] K=ysD p0 p1 p2 (fun r0=>K (.int .i64 r0)):=by kernel_rfl
theorem yzG (e:Es) (he:EG e):OkF (E e) yzF ykn:=by
 intro as K h
 unfold yzF ysE at h
 split at h
 ·exact ya6 (yw2 e he) (ybg (l:=[(94526800,yo5)]) ⟨yBi e he,trivial⟩ (by kernel_rfl)) (by kernel_rfl) (by kernel_rfl) (fun _=>yab (by kernel_rfl) _) (he.num _ (by kernel_rfl)) ((yIO ..).mpr h)
 ·exact h.elim
abbrev yqu:Type:=Int→Ls→Ls→(Int→Prop)→Prop
def yeb (x0:Int→Ls→Ls→Int→Int→Bool→Prop):Nat→Int→Ls→Ls→Int→Int→Prop
 | 0,_,_,_,_,_=>False
 | n+1,i0,l1,l2,i3,i4 =>
 (cbr (decide (i4<(((List.length l2):Nat):Int)))
 (asr (decide ((0:Int)≤i4))
 (asr (decide (i4<(((List.length l2):Nat):Int)))
 (asr (conf (.one (.i .i64)) (List.getD l2 (i4.toNat) .nils))
 (asr (decide ((0:Int)≤(IntKind.i64.wrap (i4+(1:Int)))))
 (asr (decide ((IntKind.i64.wrap (i4+(1:Int)))<(((List.length l1):Nat):Int)))
 (asr (conf (.one (.i .i64)) (List.getD l1 ((IntKind.i64.wrap (i4+(1:Int))).toNat) .nils))
 (asr (decide ((0:Int)≤i4))
 (asr (decide (i4<(((List.length l1):Nat):Int)))
 (asr (conf (.one (.i .i64)) (List.getD l1 (i4.toNat) .nils))
 (yeb x0 n i0 l1 l2 (IntKind.i64.wrap (i3+(IntKind.i64.wrap ((yaa (List.getD l2 (i4.toNat) .nils))*(IntKind.i64.wrap ((yaa (List.getD l1 ((IntKind.i64.wrap (i4+(1:Int))).toNat) .nils))-(yaa (List.getD l1 (i4.toNat) .nils)))))))) (IntKind.i64.wrap (i4+(1:Int)))))))))))))
 (x0 i0 l1 l2 i3 i4 false))
def ysG (p0:Int) (p1 p2:Ls) (K:Int→Prop):Prop :=
 (∃ n:Nat,yeb
 (fun _ _ _ a _ _=>(K a))
 n p0 p1 p2 (0:Int) (0:Int))
def yiw (p0:Int) (p1 p2:Ls) (K:Int→Prop):Prop:=ysG p0 p1 p2 K
def ysH (w:yqu) (as:Ls) (K:PV→Prop):Prop :=
 match as with
 | [(.agg [(.int .i64 p0),(.data p1),(.data p2)])]=>w p0 p1 p2 (fun r0=>K (.int .i64 r0))
 | _=>False
def yzH (as:Ls) (K:PV→Prop):Prop:=ysH yiw as K
def yhQ (F:Frm) (H:Hp) (A0:Int→Ls→Ls→Int→Int→Prop):Prop :=
 match F,H with
 | [(1,.box (.agg [(.int .i64 i0),(.data l1),(.data l2)])),(3,.v (.int .i64 i3)),(4,.v (.int .i64 i4))],[]=>(A0 i0 l1 l2 i3 i4)
 | _,_=>False
def ynL (Q:Qx):Int→Ls→Ls→Int→Int→Bool→Prop:=(fun i0 l1 l2 i3 i4 b5=>Q (.exit 0) [(1,.box (.agg [(.int .i64 i0),(.data l1),(.data l2)])),(3,.v (.int .i64 i3)),(4,.v (.int .i64 i4)),(9,.v (.bool b5))] [])
def ym2 (Q:Qx) (n:Nat) (F:Frm) (H:Hp):Prop:=yhQ F H (fun i0 l1 l2 i3 i4=>yeb (ynL Q) n i0 l1 l2 i3 i4)
def yoo:LP:=fun id F H Q =>
 bif Nat.beq id 21661800 then yhQ F H (fun i0 l1 l2 i3 i4=>∃ n:Nat,yeb (ynL Q) n i0 l1 l2 i3 i4) else
 False
def ysI (e:Es):SE:=⟨(E e),yaK [],yaL [],yoo⟩
theorem yw3 (e:Es) (he:EG e):SEOk (ysI e):=yat trivial trivial he.ok
theorem yx5 (e:Es) ( Q n i0 l1 l2 i3 i4):WC (E e) (ybd (ysI e) 5) (yoo) yps [(1,.box (.agg [(.int .i64 i0),(.data l1),(.data l2)])),(3,.v (.int .i64 i3)),(4,.v (.int .i64 i4))] [] (exQ (ym2 Q n) Q)=yeb (ynL Q) (n+1) i0 l1 l2 i3 i4:=by kernel_rfl
theorem yCK (e:Es) (_:EG e):LpOk (E e) (yoo) yps:=(yai (by kernel_rfl))
theorem yBj (e:Es) (he:EG e):∀ F H Q,yoo 21661800 F H Q→ycr (E e) yps F H Q:=by
 intro F H Q h
 have go:=ycr.intro (yaG (yw3 e he) 5) (yCK e he) (ym2 Q) (by intro F H h;unfold ym2 yhQ at h;split at h <;> exact h) (by intro n F H h;unfold ym2 yhQ at h;split at h;exact (yx5 ..).mpr h;exact h.elim)
 have h:yhQ F H _:=h
 unfold yhQ at h
 split at h
 ·obtain ⟨n,h⟩:=h;exact go n _ _ h
 ·exact h.elim
theorem yIP (e:Es) ( p0 p1 p2 K):WP (ysI e) 6 yKk [(.agg [(.int .i64 p0),(.data p1),(.data p2)])] K=ysG p0 p1 p2 (fun r0=>K (.int .i64 r0)):=by kernel_rfl
end Go.Pf.Vc
