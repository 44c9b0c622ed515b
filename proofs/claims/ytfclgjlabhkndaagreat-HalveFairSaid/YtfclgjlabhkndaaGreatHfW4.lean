/- Part 4. -/
import Derived.Test.YtfclgjlabhkndaaGreatHfW3
noncomputable section
namespace Go.Pf.Vc
open Go Go.Pf
set_option maxRecDepth 100000
def ylb (a0:yal) (a1:yat) (a2:yac) (a3:yaf) (a4:yam) (a5:yax) (a6:yah) (a7:yao) (a8:yar) (p0 p1 p2:Ls) (p3 p4 p5 p6:Int) (K:Ls→Ls→Int→Int→Ls→Ls→Int→Prop):Prop :=
 (a0 p0 p1 (fun M =>
 (cbr (M !=(0:Int))
 (K ([]:Ls) ([]:Ls) (0:Int) (0:Int) ([]:Ls) ([]:Ls) M)
 (jn (fun (r:Bool→Prop) =>
 (cbr (decide ((((List.length p2):Nat):Int)>(1:Int)))
 (asr (decide ((0:Int)<(((List.length p2):Nat):Int)))
 (lt (List.getD p2 0 .nils) (fun N =>
 (asr (conf zI N)
 (cbr (decide ((yaa N)≥(0:Int)))
 (lt (IntKind.i64.wrap ((((List.length p2):Nat):Int)-(1:Int))) (fun s =>
 (asr (decide ((0:Int)≤s))
 (asr (decide (s<(((List.length p2):Nat):Int)))
 (lt (List.getD p2 (s.toNat) .nils) (fun O =>
 (asr (conf zI O)
 (r (decide ((yaa O)<(((List.length p0):Nat):Int)))))))))))
 (r false))))))
 (r false)))
 (fun vd=>(∃ ve:Nat,ybR a0 a1 a2 a3 a4 a5 a6 a7 a8
 (fun l t vf u Q v w vg vh vi _ _=>(a1 u Q v w (fun vj vk =>
 (jn (fun (k:Bool→Prop) =>
 (cbr (!vi)
 (k true)
 (cbr (vk !=(0:Int))
 (k true)
 (cbr (decide (vj≥(0:Int)))
 (k true)
 (cbr (decide (u<(0:Int)))
 (k true)
 (asr (decide ((0:Int)<(((List.length t):Nat):Int)))
 (lt (List.getD t 0 .nils) (fun R =>
 (asr (conf zK R)
 (a2 (yaa (yab R 0)) (fun vl vm =>
 (a3 v w vl vm (fun vn =>
 (k (decide (vn>(0:Int)))))))))))))))))
 (fun vo=>(cbr vo
 (K ([]:Ls) ([]:Ls) (0:Int) (0:Int) ([]:Ls) ([]:Ls) (2:Int))
 (lt (IntKind.i64.wrap (Int.tdiv (((List.length l):Nat):Int) (2:Int))) (fun S =>
 (a4 S (((List.length l):Nat):Int) (fun vp vq _ =>
 (∃ vr:Nat,yeL a0 a1 a2 a3 a4 a5 a6 a7 a8
 (fun vs vt _ _ _ _ vu vv vw _ _ _ _ _ _=>(∃ x:Nat,ylQ a0 a1 a2 a3 a4 a5 a6 a7 a8
 (fun T vx U _ _=>(lt (IntKind.i64.wrap (U+(1:Int))) (fun vy =>
 (∃ y:Nat,yh6 a0 a1 a2 a3 a4 a5 a6 a7 a8
 (fun _ _ _ _=>(∃ z:Nat,ylS a0 a1 a2 a3 a4 a5 a6 a7 a8
 (fun _ _ _=>(∃ A:Nat,ylT a0 a1 a2 a3 a4 a5 a6 a7 a8
 (fun _ _ _ _ vz _ _ _=>(a6 (0:Int) (fun vA =>
 (∃ a:Nat,yib a0 a1 a2 a3 a4 a5 a6 a7 a8
 (a6 (0:Int) (fun vB =>
 (∃ a:Nat,yib a0 a1 a2 a3 a4 a5 a6 a7 a8
 (lt (IntKind.i64.wrap (vz-(1:Int))) (fun _ =>
 False))
 a (0:Int) (0:Int) vB true true)))
 a (0:Int) (0:Int) vA true true))))
 A vs vt vu vv vw (0:Int) (0:Int)))
 z T vx))
 y U T vy))))
 x (0:Int) (20:Int) (0:Int) (20:Int)))
 (fun vC vD vE=>(K ([]:Ls) ([]:Ls) vC vD ([]:Ls) ([]:Ls) vE))
 (fun b vF vG _ _ _ _ vH vI vJ _ _ _ _ _ _=>(asr (decide ((List.length b)=List.length b)&&decide ((List.length b)=List.length b))
 (∃ x:Nat,yfZ a0 a1 a2 a3 a4 a5 a6 a7 a8
 (fun j V vK W _ _=>(lt (IntKind.i64.wrap (W+(1:Int))) (fun vL =>
 (asr (decide ((List.length j)=List.length j)&&decide ((List.length j)=List.length j))
 (∃ y:Nat,ybv a0 a1 a2 a3 a4 a5 a6 a7 a8
 (fun vM _ _ _ _=>(∃ z:Nat,yf0 a0 a1 a2 a3 a4 a5 a6 a7 a8
 (fun vN _ _ _ _ _=>(∃ A:Nat,yeM a0 a1 a2 a3 a4 a5 a6 a7 a8
 (fun vO vP vQ _ _ vR vS vT _ _ _ _ _=>(a6 (0:Int) (fun vU =>
 (∃ a:Nat,yic a0 a1 a2 a3 a4 a5 a6 a7 a8
 (fun vV=>(a6 (0:Int) (fun vW =>
 (∃ a:Nat,yic a0 a1 a2 a3 a4 a5 a6 a7 a8
 (fun B=>(lt (IntKind.i64.wrap (vR-(1:Int))) (fun m =>
 (asr (decide ((0:Int)≤m))
 (asr (decide (m<((vS:Nat):Int)))
 (asr (decide ((List.length B)=vT))
 (asr (decide ((0+(m.toNat))<(List.length B)))
 (lt (List.getD B (0+(m.toNat)) .nils) (fun C =>
 (asr (conf (.agg [.i .i64,.i .i64,.i .i64]) C)
 (K vP vQ (yaa (yab C 1)) (yaa (yab C 2)) ([]:Ls) ([]:Ls) (0:Int))))))))))))
 a vV (0:Int) (0:Int) vW true true))))
 a vO (0:Int) (0:Int) vU true true))))
 (fun vX c vY vZ _ _ v0 v1 v2 _ _ _ _ _=>(a6 (IntKind.u64.wrap (((List.length c):Nat):Int)) (fun v3 =>
 (∃ a:Nat,yid a0 a1 a2 a3 a4 a5 a6 a7 a8
 (fun v4 v5=>(a6 (0:Int) (fun v6 =>
 (∃ a:Nat,yie a0 a1 a2 a3 a4 a5 a6 a7 a8
 (fun D X=>(lt (IntKind.i64.wrap (v0-(1:Int))) (fun n =>
 (asr (decide ((0:Int)≤n))
 (asr (decide (n<((v1:Nat):Int)))
 (asr (decide ((List.length D)=v2))
 (asr (decide ((0+(n.toNat))<(List.length D)))
 (lt (List.getD D (0+(n.toNat)) .nils) (fun E =>
 (asr (conf (.agg [.i .i64,.i .i64,.i .i64]) E)
 (asr (decide ((List.length X)=(List.length c)))
 (asr (decide ((0+(List.length c))≤(List.length c)))
 (K vY vZ (yaa (yab E 1)) (yaa (yab E 2)) (List.take (List.length c) X) ([]:Ls) (0:Int))))))))))))))
 a v4 v5 (0:Int) (0:Int) v6 true true))))
 a vX c (List.length c) (List.length c) (0:Int) (((List.length c):Nat):Int) v3 true true))))
 (fun v7 d e v8 v9 _ _ wa wb wc _ _ _ _ _=>(a6 (IntKind.u64.wrap (((List.length d):Nat):Int)) (fun wd =>
 (∃ a:Nat,yc1 a0 a1 a2 a3 a4 a5 a6 a7 a8
 (fun we wf wg=>(a6 (IntKind.u64.wrap (((List.length e):Nat):Int)) (fun wh =>
 (∃ a:Nat,yc2 a0 a1 a2 a3 a4 a5 a6 a7 a8
 (fun F Y Z=>(lt (IntKind.i64.wrap (wa-(1:Int))) (fun o =>
 (asr (decide ((0:Int)≤o))
 (asr (decide (o<((wb:Nat):Int)))
 (asr (decide ((List.length F)=wc))
 (asr (decide ((0+(o.toNat))<(List.length F)))
 (lt (List.getD F (0+(o.toNat)) .nils) (fun G =>
 (asr (conf (.agg [.i .i64,.i .i64,.i .i64]) G)
 (asr (decide ((List.length Y)=(List.length d)))
 (asr (decide ((0+(List.length d))≤(List.length d)))
 (asr (decide ((List.length Z)=(List.length e)))
 (asr (decide ((0+(List.length e))≤(List.length e)))
 (K v8 v9 (yaa (yab G 1)) (yaa (yab G 2)) (List.take (List.length d) Y) (List.take (List.length e) Z) (0:Int))))))))))))))))
 a we wf wg (List.length e) (List.length e) (0:Int) (((List.length e):Nat):Int) wh true true))))
 a v7 d e (List.length d) (List.length d) (0:Int) (((List.length d):Nat):Int) wd true true))))
 (fun wi f wj wk _ _ wl wm wn _ _ _ _ _=>(a6 (0:Int) (fun wo =>
 (∃ a:Nat,yie a0 a1 a2 a3 a4 a5 a6 a7 a8
 (fun wp wq=>(a6 (IntKind.u64.wrap (((List.length f):Nat):Int)) (fun wr =>
 (∃ a:Nat,yid a0 a1 a2 a3 a4 a5 a6 a7 a8
 (fun H va=>(lt (IntKind.i64.wrap (wl-(1:Int))) (fun p =>
 (asr (decide ((0:Int)≤p))
 (asr (decide (p<((wm:Nat):Int)))
 (asr (decide ((List.length H)=wn))
 (asr (decide ((0+(p.toNat))<(List.length H)))
 (lt (List.getD H (0+(p.toNat)) .nils) (fun I =>
 (asr (conf (.agg [.i .i64,.i .i64,.i .i64]) I)
 (asr (decide ((List.length va)=(List.length f)))
 (asr (decide ((0+(List.length f))≤(List.length f)))
 (K wj wk (yaa (yab I 1)) (yaa (yab I 2)) ([]:Ls) (List.take (List.length f) va) (0:Int))))))))))))))
 a wp wq (List.length f) (List.length f) (0:Int) (((List.length f):Nat):Int) wr true true))))
 a wi f (0:Int) (0:Int) wo true true))))
 (fun ws g h wt wu _ _ wv ww wx _ _ _ _ _=>(a6 (IntKind.u64.wrap (((List.length h):Nat):Int)) (fun wy =>
 (∃ a:Nat,yc2 a0 a1 a2 a3 a4 a5 a6 a7 a8
 (fun wz wA wB=>(a6 (IntKind.u64.wrap (((List.length g):Nat):Int)) (fun wC =>
 (∃ a:Nat,yc1 a0 a1 a2 a3 a4 a5 a6 a7 a8
 (fun J vb vc=>(lt (IntKind.i64.wrap (wv-(1:Int))) (fun q =>
 (asr (decide ((0:Int)≤q))
 (asr (decide (q<((ww:Nat):Int)))
 (asr (decide ((List.length J)=wx))
 (asr (decide ((0+(q.toNat))<(List.length J)))
 (lt (List.getD J (0+(q.toNat)) .nils) (fun L =>
 (asr (conf (.agg [.i .i64,.i .i64,.i .i64]) L)
 (asr (decide ((List.length vc)=(List.length h)))
 (asr (decide ((0+(List.length h))≤(List.length h)))
 (asr (decide ((List.length vb)=(List.length g)))
 (asr (decide ((0+(List.length g))≤(List.length g)))
 (K wt wu (yaa (yab L 1)) (yaa (yab L 2)) (List.take (List.length h) vc) (List.take (List.length g) vb) (0:Int))))))))))))))))
 a wz wA wB (List.length g) (List.length g) (0:Int) (((List.length g):Nat):Int) wC true true))))
 a ws g h (List.length h) (List.length h) (0:Int) (((List.length h):Nat):Int) wy true true))))
 A vN vF vG vH vI vJ (List.length b) (List.length b) (List.length b) (List.length b) (((List.length b):Nat):Int) (0:Int)))
 z vM (List.length j) (List.length j) V vK))
 y j W V vL)))))
 x b (((List.length b):Nat):Int) (20:Int) (0:Int) (20:Int))))
 (fun _ wD wE wF=>(K ([]:Ls) ([]:Ls) wD wE ([]:Ls) ([]:Ls) wF))
 vr t vf u Q v w vg vh S vp vq l (((List.length l):Nat):Int) (0:Int))))))))))))
 ve p2 p0 p1 p3 p4 p5 p6 (0:Int) (0:Int) vd (1:Int)))))))
def yaN:ybQ:=ylb yaS ya3 ya4 ybk yap yaP yeG yaH yaw
def yBr:Sg:=⟨(lC pt21 (lC vD pt10)),Ls→Ls→Int→Int→Ls→Ls→Int→Prop,fun K=>(fun r0 r1 r2 r3 r4 r5 r6=>K (.tup [(.agg [(.data r0),(.data r1)]),(.agg [(.int .i64 r2),(.int .i64 r3)]),(.data r4),(.data r5),(.int .i64 r6)]))⟩
def yvF (Q:Qx):Ls→Ls→Ls→Int→Int→Int→Int→Int→Int→Bool→Int→Bool→Prop:=(fun l0 l1 l2 i3 i4 i5 i6 i7 i8 b9 i10 b11=>Q (.exit 0) [(1,.v (.data l0)),(4,.box (.agg [(.data l1),(.data l2)])),(6,.box (.agg [(.int .i64 i3),(.int .i64 i4)])),(7,.box (.agg [(.int .i64 i5),(.int .i64 i6)])),(8,.box (.agg [.nils,.nils])),(9,.box (.agg [(.int .i64 i7),(.int .i64 i8)])),(10,.v .nils),(11,.v .nils),(14,.v (.bool b9)),(15,.v (.int .i64 i10)),(58,.v (.bool b11))] [])
def yvG (Q:Qx):Ls→Ls→Int→Int→Int→Int→Int→Int→Int→Int→Int→Ls→Int→Int→Bool→Prop:=(fun l0 l1 i2 i3 i4 i5 i6 i7 i8 i9 i10 l11 i12 i13 b14=>Q (.exit 2) [(4,.box (.agg [(.data l0),(.data l1)])),(6,.box (.agg [(.int .i64 i2),(.int .i64 i3)])),(7,.box (.agg [(.int .i64 i4),(.int .i64 i5)])),(8,.box (.agg [.nils,.nils])),(9,.box (.agg [(.int .i64 i6),(.int .i64 i7)])),(10,.v .nils),(11,.v .nils),(18,.v (.int .i64 i8)),(19,.box (.agg [(.int .i64 i9),(.int .i64 i10)])),(21,.v .nils),(118,.v (.data l11)),(119,.v (.int .i64 i12)),(120,.v (.int .i64 i13)),(121,.v (.bool b14))] [])
def yvH (Q:Qx):Int→Int→Int→Prop:=(fun i0 i1 i2=>Q .ret [(8,.box (.agg [.nils,.nils])),(9,.box (.agg [(.int .i64 i0),(.int .i64 i1)])),(10,.v .nils),(11,.v .nils),(12,.v (.int .i64 i2))] [])
def ylX (Q:Qx):Ls→Ls→Ls→Int→Int→Int→Int→Int→Int→Int→Int→Int→Ls→Int→Int→Bool→Prop:=(fun l0 l1 l2 i3 i4 i5 i6 i7 i8 i9 i10 i11 l14 i15 i16 b17=>Q (.exit 2) [(4,.box (.agg [(.data l1),(.data l2)])),(6,.box (.agg [(.int .i64 i3),(.int .i64 i4)])),(7,.box (.agg [(.int .i64 i5),(.int .i64 i6)])),(8,.box (.agg [.nils,.nils])),(9,.box (.agg [(.int .i64 i7),(.int .i64 i8)])),(10,.v .nils),(11,.v .nils),(18,.v (.int .i64 i9)),(19,.box (.agg [(.int .i64 i10),(.int .i64 i11)])),(21,.v (.own 0 0 (List.length l0) (List.length l0) none)),(118,.v (.data l14)),(119,.v (.int .i64 i15)),(120,.v (.int .i64 i16)),(121,.v (.bool b17))] [⟨false,true,3,l0⟩])
def ylY (Q:Qx):Ls→Int→Int→Int→Prop:=(fun l0 i1 i2 i3=>Q .ret [(8,.box (.agg [.nils,.nils])),(9,.box (.agg [(.int .i64 i1),(.int .i64 i2)])),(10,.v .nils),(11,.v .nils),(12,.v (.int .i64 i3))] [⟨false,true,3,l0⟩])
def yvI (Q:Qx):Int→Int→Int→Int→Bool→Prop:=(fun i0 i1 i2 i3 b4=>Q (.exit 0) [(0,.v .nils),(1,.v (.int .i64 i0)),(2,.v (.fn (.func ybp) [] [])),(6,.v (.int .i64 i1)),(7,.v (.int .i64 i2)),(8,.v (.int .i64 i3)),(13,.v (.bool b4))] [])
def yvJ (Q:Qx):Ls→Int→Int→Int→Int→Bool→Prop:=(fun l0 i3 i4 i5 i6 b7=>Q (.exit 0) [(0,.v (.own 0 0 (List.length l0) (List.length l0) none)),(1,.v (.int .i64 i3)),(2,.v (.fn (.func ybp) [] [])),(6,.v (.int .i64 i4)),(7,.v (.int .i64 i5)),(8,.v (.int .i64 i6)),(13,.v (.bool b7))] [⟨false,true,3,l0⟩])
def yvK (Q:Qx):Int→Int→Int→Int→Bool→Prop:=(fun i0 i1 i2 i3 b4=>Q (.exit 2) [(0,.v .nils),(1,.v (.int .i64 i0)),(2,.v (.int .i64 i1)),(3,.v (.fn (.func ybp) [] [])),(8,.v (.int .i64 i2)),(9,.v (.int .i64 i3)),(34,.v (.bool b4))] [])
def yvL (Q:Qx):Ls→Int→Int→Int→Int→Bool→Prop:=(fun l0 i3 i4 i5 i6 b7=>Q (.exit 2) [(0,.v (.own 0 0 (List.length l0) (List.length l0) none)),(1,.v (.int .i64 i3)),(2,.v (.int .i64 i4)),(3,.v (.fn (.func ybp) [] [])),(8,.v (.int .i64 i5)),(9,.v (.int .i64 i6)),(34,.v (.bool b7))] [⟨false,true,3,l0⟩])
def yvM (Q:Qx):Int→Int→Bool→Prop:=(fun i0 i1 b2=>Q (.exit 2) [(0,.v .nils),(1,.v (.int .i64 i0)),(2,.v (.fn (.func ybp) [] [])),(6,.v (.int .i64 i1)),(30,.v (.bool b2))] [])
def yvN (Q:Qx):Ls→Nat→Nat→Int→Int→Bool→Prop:=(fun l0 n1 n2 i3 i4 b5=>Q (.exit 2) [(0,.v (.own 0 0 n1 n2 none)),(1,.v (.int .i64 i3)),(2,.v (.fn (.func ybp) [] [])),(6,.v (.int .i64 i4)),(30,.v (.bool b5))] [⟨false,true,3,l0⟩])
def yvO (Q:Qx):Ls→Ls→Int→Int→Int→Int→Int→Bool→Prop:=(fun l0 l1 i2 i3 i4 i5 i6 b7=>Q (.exit 4) [(4,.box (.agg [(.data l0),(.data l1)])),(8,.box (.agg [.nils,.nils])),(9,.box (.agg [(.int .i64 i2),(.int .i64 i3)])),(10,.v .nils),(11,.v .nils),(18,.v (.int .i64 i4)),(21,.v .nils),(148,.v .nils),(149,.v (.int .i64 i5)),(150,.v (.int .i64 i6)),(151,.v (.bool b7))] [])
def yvP (Q:Qx):Ls→Ls→Ls→Int→Int→Int→Nat→Nat→Nat→Nat→Int→Int→Bool→Prop:=(fun l0 l1 l2 i3 i4 i5 n6 n7 n8 n9 i10 i11 b12=>Q (.exit 4) [(4,.box (.agg [(.data l1),(.data l2)])),(8,.box (.agg [.nils,.nils])),(9,.box (.agg [(.int .i64 i3),(.int .i64 i4)])),(10,.v .nils),(11,.v .nils),(18,.v (.int .i64 i5)),(21,.v (.own 0 0 n6 n7 none)),(148,.v (.own 0 0 n8 n9 none)),(149,.v (.int .i64 i10)),(150,.v (.int .i64 i11)),(151,.v (.bool b12))] [⟨false,true,3,l0⟩])
def ylZ (Q:Qx):Ls→Ls→Ls→Ls→Int→Int→Int→Nat→Nat→Nat→Nat→Int→Int→Bool→Prop:=(fun l0 l1 l2 l3 i4 i5 i8 n9 n10 n11 n12 i13 i14 b15=>Q (.exit 4) [(4,.box (.agg [(.data l2),(.data l3)])),(8,.box (.agg [.nils,.nils])),(9,.box (.agg [(.int .i64 i4),(.int .i64 i5)])),(10,.v (.own 1 0 (List.length l1) (List.length l1) none)),(11,.v .nils),(18,.v (.int .i64 i8)),(21,.v (.own 0 0 n9 n10 none)),(148,.v (.own 0 0 n11 n12 none)),(149,.v (.int .i64 i13)),(150,.v (.int .i64 i14)),(151,.v (.bool b15))] [⟨false,true,3,l0⟩,⟨false,true,1,l1⟩])
def yif (Q:Qx):Ls→Ls→Ls→Ls→Ls→Int→Int→Int→Nat→Nat→Nat→Nat→Int→Int→Bool→Prop:=(fun l0 l1 l2 l3 l4 i5 i6 i11 n12 n13 n14 n15 i16 i17 b18=>Q (.exit 4) [(4,.box (.agg [(.data l3),(.data l4)])),(8,.box (.agg [.nils,.nils])),(9,.box (.agg [(.int .i64 i5),(.int .i64 i6)])),(10,.v (.own 1 0 (List.length l1) (List.length l1) none)),(11,.v (.own 2 0 (List.length l2) (List.length l2) none)),(18,.v (.int .i64 i11)),(21,.v (.own 0 0 n12 n13 none)),(148,.v (.own 0 0 n14 n15 none)),(149,.v (.int .i64 i16)),(150,.v (.int .i64 i17)),(151,.v (.bool b18))] [⟨false,true,3,l0⟩,⟨false,true,1,l1⟩,⟨false,true,1,l2⟩])
def yl6 (Q:Qx):Ls→Ls→Ls→Ls→Int→Int→Int→Nat→Nat→Nat→Nat→Int→Int→Bool→Prop:=(fun l0 l1 l2 l3 i4 i5 i8 n9 n10 n11 n12 i13 i14 b15=>Q (.exit 4) [(4,.box (.agg [(.data l2),(.data l3)])),(8,.box (.agg [.nils,.nils])),(9,.box (.agg [(.int .i64 i4),(.int .i64 i5)])),(10,.v .nils),(11,.v (.own 1 0 (List.length l1) (List.length l1) none)),(18,.v (.int .i64 i8)),(21,.v (.own 0 0 n9 n10 none)),(148,.v (.own 0 0 n11 n12 none)),(149,.v (.int .i64 i13)),(150,.v (.int .i64 i14)),(151,.v (.bool b15))] [⟨false,true,3,l0⟩,⟨false,true,1,l1⟩])
def yig (Q:Qx):Ls→Ls→Ls→Ls→Ls→Int→Int→Int→Nat→Nat→Nat→Nat→Int→Int→Bool→Prop:=(fun l0 l1 l2 l3 l4 i5 i6 i11 n12 n13 n14 n15 i16 i17 b18=>Q (.exit 4) [(4,.box (.agg [(.data l3),(.data l4)])),(8,.box (.agg [.nils,.nils])),(9,.box (.agg [(.int .i64 i5),(.int .i64 i6)])),(10,.v (.own 2 0 (List.length l2) (List.length l2) none)),(11,.v (.own 1 0 (List.length l1) (List.length l1) none)),(18,.v (.int .i64 i11)),(21,.v (.own 0 0 n12 n13 none)),(148,.v (.own 0 0 n14 n15 none)),(149,.v (.int .i64 i16)),(150,.v (.int .i64 i17)),(151,.v (.bool b18))] [⟨false,true,3,l0⟩,⟨false,true,1,l1⟩,⟨false,true,1,l2⟩])
def yvQ (Q:Qx):Int→Int→Int→Int→Bool→Prop:=(fun i0 i1 i2 i3 b4=>Q (.exit 2) [(0,.v .nils),(1,.v (.int .i64 i0)),(2,.v (.int .i64 i1)),(6,.v (.int .i64 i2)),(7,.v (.int .i64 i3)),(30,.v (.bool b4))] [])
def yvR (Q:Qx):Ls→Int→Int→Int→Int→Bool→Prop:=(fun l0 i1 i2 i3 i4 b5=>Q (.exit 2) [(0,.v .nils),(1,.v (.int .i64 i1)),(2,.v (.int .i64 i2)),(6,.v (.int .i64 i3)),(7,.v (.int .i64 i4)),(30,.v (.bool b5))] [⟨false,true,3,l0⟩])
def yvS (Q:Qx):Ls→Ls→Nat→Nat→Int→Int→Int→Int→Bool→Prop:=(fun l0 l1 n2 n3 i4 i5 i6 i7 b8=>Q (.exit 2) [(0,.v (.own 1 0 n2 n3 none)),(1,.v (.int .i64 i4)),(2,.v (.int .i64 i5)),(6,.v (.int .i64 i6)),(7,.v (.int .i64 i7)),(30,.v (.bool b8))] [⟨false,true,3,l0⟩,⟨false,true,1,l1⟩])
def yvT (Q:Qx):Ls→Ls→Int→Int→Int→Int→Bool→Prop:=(fun l0 l1 i2 i3 i4 i5 b6=>Q (.exit 2) [(0,.v .nils),(1,.v (.int .i64 i2)),(2,.v (.int .i64 i3)),(6,.v (.int .i64 i4)),(7,.v (.int .i64 i5)),(30,.v (.bool b6))] [⟨false,true,3,l0⟩,⟨false,true,1,l1⟩])
def yvU (Q:Qx):Ls→Ls→Ls→Nat→Nat→Int→Int→Int→Int→Bool→Prop:=(fun l0 l1 l2 n3 n4 i5 i6 i7 i8 b9=>Q (.exit 2) [(0,.v (.own 1 0 n3 n4 none)),(1,.v (.int .i64 i5)),(2,.v (.int .i64 i6)),(6,.v (.int .i64 i7)),(7,.v (.int .i64 i8)),(30,.v (.bool b9))] [⟨false,true,3,l0⟩,⟨false,true,1,l1⟩,⟨false,true,1,l2⟩])
def yvV (Q:Qx):Ls→Ls→Ls→Nat→Nat→Int→Int→Int→Int→Bool→Prop:=(fun l0 l1 l2 n3 n4 i5 i6 i7 i8 b9=>Q (.exit 2) [(0,.v (.own 2 0 n3 n4 none)),(1,.v (.int .i64 i5)),(2,.v (.int .i64 i6)),(6,.v (.int .i64 i7)),(7,.v (.int .i64 i8)),(30,.v (.bool b9))] [⟨false,true,3,l0⟩,⟨false,true,1,l1⟩,⟨false,true,1,l2⟩])
def yvW (Q:Qx):Int→Int→Int→Bool→Prop:=(fun i0 i1 i2 b3=>Q (.exit 0) [(0,.v .nils),(1,.v (.int .i64 i0)),(2,.v (.int .i64 i1)),(3,.v (.fn (.func ybp) [] [])),(8,.v (.int .i64 i2)),(14,.v (.bool b3))] [])
def yvX (Q:Qx):Ls→Int→Int→Int→Bool→Prop:=(fun l0 i3 i4 i5 b6=>Q (.exit 0) [(0,.v (.own 0 0 (List.length l0) (List.length l0) none)),(1,.v (.int .i64 i3)),(2,.v (.int .i64 i4)),(3,.v (.fn (.func ybp) [] [])),(8,.v (.int .i64 i5)),(14,.v (.bool b6))] [⟨false,true,3,l0⟩])
def yvY (Q:Qx):Int→Int→Int→Bool→Prop:=(fun i0 i1 i2 b3=>Q (.exit 0) [(0,.v .nils),(1,.v (.int .i64 i0)),(2,.v (.int .i64 i1)),(6,.v (.int .i64 i2)),(12,.v (.bool b3))] [])
def yvZ (Q:Qx):Ls→Int→Int→Int→Bool→Prop:=(fun l0 i1 i2 i3 b4=>Q (.exit 0) [(0,.v .nils),(1,.v (.int .i64 i1)),(2,.v (.int .i64 i2)),(6,.v (.int .i64 i3)),(12,.v (.bool b4))] [⟨false,true,3,l0⟩])
def yv0 (Q:Qx):Ls→Ls→Nat→Nat→Int→Int→Int→Bool→Prop:=(fun l0 l1 n2 n3 i4 i5 i6 b7=>Q (.exit 0) [(0,.v (.own 1 0 n2 n3 none)),(1,.v (.int .i64 i4)),(2,.v (.int .i64 i5)),(6,.v (.int .i64 i6)),(12,.v (.bool b7))] [⟨false,true,3,l0⟩,⟨false,true,1,l1⟩])
def yv1 (Q:Qx):Ls→Ls→Int→Int→Int→Bool→Prop:=(fun l0 l1 i2 i3 i4 b5=>Q (.exit 0) [(0,.v .nils),(1,.v (.int .i64 i2)),(2,.v (.int .i64 i3)),(6,.v (.int .i64 i4)),(12,.v (.bool b5))] [⟨false,true,3,l0⟩,⟨false,true,1,l1⟩])
def yv2 (Q:Qx):Ls→Ls→Ls→Nat→Nat→Int→Int→Int→Bool→Prop:=(fun l0 l1 l2 n3 n4 i5 i6 i7 b8=>Q (.exit 0) [(0,.v (.own 1 0 n3 n4 none)),(1,.v (.int .i64 i5)),(2,.v (.int .i64 i6)),(6,.v (.int .i64 i7)),(12,.v (.bool b8))] [⟨false,true,3,l0⟩,⟨false,true,1,l1⟩,⟨false,true,1,l2⟩])
def yv3 (Q:Qx):Ls→Ls→Ls→Nat→Nat→Int→Int→Int→Bool→Prop:=(fun l0 l1 l2 n3 n4 i5 i6 i7 b8=>Q (.exit 0) [(0,.v (.own 2 0 n3 n4 none)),(1,.v (.int .i64 i5)),(2,.v (.int .i64 i6)),(6,.v (.int .i64 i7)),(12,.v (.bool b8))] [⟨false,true,3,l0⟩,⟨false,true,1,l1⟩,⟨false,true,1,l2⟩])
def yv4 (Q:Qx):Prop:=Q .ret [] []
def yv5 (Q:Qx):Ls→Prop:=(fun l0=>Q .ret [] [⟨false,true,3,l0⟩])
def yl7 (Q:Qx):Ls→Ls→Prop:=(fun l0 l1=>Q .ret [] [⟨false,true,3,l0⟩,⟨false,true,1,l1⟩])
def yma (Q:Qx):Ls→Ls→Ls→Prop:=(fun l0 l1 l2=>Q .ret [] [⟨false,true,3,l0⟩,⟨false,true,1,l1⟩,⟨false,true,1,l2⟩])
def pt44:VPt:=vA (lC vNs (lC vNs lN))
def yns (a0:yal) (a1:yat) (a2:yac) (a3:yaf) (a4:yam) (a5:yax) (a6:yah) (a7:yao) (a8:yar) (Q:Qx):List St:=[⟨(pS hN (fV 1 vD (fX 4 pt21 (fX 6 pt6 (fX 7 pt6 (fX 8 pt44 (fX 9 pt6 (fV 10 vNs (fV 11 vNs (fV 14 vB (fV 15 pt0 fN)))))))))) fN),ybR a0 a1 a2 a3 a4 a5 a6 a7 a8 (yvF Q)⟩]
def pt45:Pat Frm:=fV 118 vD (fV 119 pt0 (fV 120 pt0 fN))
def ynt (a0:yal) (a1:yat) (a2:yac) (a3:yaf) (a4:yam) (a5:yax) (a6:yah) (a7:yao) (a8:yar) (Q:Qx):List St:=[⟨(pS hN (fX 4 pt21 (fX 6 pt6 (fX 7 pt6 (fX 8 pt44 (fX 9 pt6 (fV 10 vNs (fV 11 vNs (fV 18 pt0 (fX 19 pt6 (fV 21 vNs pt45)))))))))) fN),yeL a0 a1 a2 a3 a4 a5 a6 a7 a8 (yvG Q) (yvH Q) (ylX Q) (ylY Q)⟩,⟨(pS pt22 (fX 4 pt21 (fX 6 pt6 (fX 7 pt6 (fX 8 pt44 (fX 9 pt6 (fV 10 vNs (fV 11 vNs (fV 18 pt0 (fX 19 pt6 (fV 21 pt23 pt45)))))))))) fN),ybs a0 a1 a2 a3 a4 a5 a6 a7 a8 (ylX Q) (ylY Q)⟩]
def pt46:VPt:=vF ybp lN lN
def pt47:Pat Frm:=fV 1 pt0 (fV 2 pt46 (fV 6 pt0 pt8))
def ynu (a0:yal) (a1:yat) (a2:yac) (a3:yaf) (a4:yam) (a5:yax) (a6:yah) (a7:yao) (a8:yar) (Q:Qx):List St:=[⟨(pS hN (fV 0 vNs pt47) fN),ylQ a0 a1 a2 a3 a4 a5 a6 a7 a8 (yvI Q)⟩,⟨(pS pt22 (fV 0 pt23 pt47) fN),yfZ a0 a1 a2 a3 a4 a5 a6 a7 a8 (yvJ Q)⟩]
def pt48:Pat Frm:=fV 1 pt0 (fV 2 pt0 (fV 3 pt46 (fV 8 pt0 (fV 9 pt0 fN))))
def ynv (a0:yal) (a1:yat) (a2:yac) (a3:yaf) (a4:yam) (a5:yax) (a6:yah) (a7:yao) (a8:yar) (Q:Qx):List St:=[⟨(pS hN (fV 0 vNs pt48) fN),ylR a0 a1 a2 a3 a4 a5 a6 a7 a8 (yvK Q)⟩,⟨(pS pt22 (fV 0 pt23 pt48) fN),ybD a0 a1 a2 a3 a4 a5 a6 a7 a8 (yvL Q)⟩]
def pt49:Pat Frm:=fV 1 pt0 (fV 2 pt46 (fV 6 pt0 fN))
def pt50:VPt:=vW 0 (nK 0) nV nV
def ynw (a0:yal) (a1:yat) (a2:yac) (a3:yaf) (a4:yam) (a5:yax) (a6:yah) (a7:yao) (a8:yar) (Q:Qx):List St:=[⟨(pS hN (fV 0 vNs pt49) fN),ylS a0 a1 a2 a3 a4 a5 a6 a7 a8 (yvM Q)⟩,⟨(pS pt22 (fV 0 pt50 pt49) fN),yf0 a0 a1 a2 a3 a4 a5 a6 a7 a8 (yvN Q)⟩]
def pt51:Pat Frm:=fV 149 pt0 (fV 150 pt0 fN)
def pt52:Pat Frm:=fV 18 pt0 (fV 21 pt50 (fV 148 pt50 pt51))
def pt53:HPt:=hB false true 1 rA hN
def pt54:HPt:=hB false true 3 rA pt53
def pt55:HPt:=hB false true 3 rA (hB false true 1 rA pt53)
def pt56:VPt:=vW 2 (nK 0) (nT 2) (nT 2)
def ynx (a0:yal) (a1:yat) (a2:yac) (a3:yaf) (a4:yam) (a5:yax) (a6:yah) (a7:yao) (a8:yar) (Q:Qx):List St:=[⟨(pS hN (fX 4 pt21 (fX 8 pt44 (fX 9 pt6 (fV 10 vNs (fV 11 vNs (fV 18 pt0 (fV 21 vNs (fV 148 vNs pt51)))))))) fN),ylT a0 a1 a2 a3 a4 a5 a6 a7 a8 (yvO Q)⟩,⟨(pS pt22 (fX 4 pt21 (fX 8 pt44 (fX 9 pt6 (fV 10 vNs (fV 11 vNs pt52))))) fN),yeM a0 a1 a2 a3 a4 a5 a6 a7 a8 (yvP Q) (ylZ Q) (yif Q) (yl6 Q) (yig Q)⟩,⟨(pS pt54 (fX 4 pt21 (fX 8 pt44 (fX 9 pt6 (fV 10 pt39 (fV 11 vNs pt52))))) fN),ybu a0 a1 a2 a3 a4 a5 a6 a7 a8 (ylZ Q) (yif Q)⟩,⟨(pS pt55 (fX 4 pt21 (fX 8 pt44 (fX 9 pt6 (fV 10 pt39 (fV 11 pt56 pt52))))) fN),ybt a0 a1 a2 a3 a4 a5 a6 a7 a8 (yif Q)⟩,⟨(pS pt54 (fX 4 pt21 (fX 8 pt44 (fX 9 pt6 (fV 10 vNs (fV 11 pt39 pt52))))) fN),yh4 a0 a1 a2 a3 a4 a5 a6 a7 a8 (yl6 Q) (yig Q)⟩,⟨(pS pt55 (fX 4 pt21 (fX 8 pt44 (fX 9 pt6 (fV 10 pt56 (fV 11 pt39 pt52))))) fN),yh3 a0 a1 a2 a3 a4 a5 a6 a7 a8 (yig Q)⟩]
def pt57:Pat Frm:=fV 1 pt0 (fV 2 pt0 (fV 6 pt0 (fV 7 pt0 fN)))
def pt58:VPt:=vW 1 (nK 0) nV nV
def pt59:VPt:=vW 2 (nK 0) nV nV
def yny (a0:yal) (a1:yat) (a2:yac) (a3:yaf) (a4:yam) (a5:yax) (a6:yah) (a7:yao) (a8:yar) (Q:Qx):List St:=[⟨(pS hN (fV 0 vNs pt57) fN),ylU a0 a1 a2 a3 a4 a5 a6 a7 a8 (yvQ Q)⟩,⟨(pS pt22 (fV 0 vNs pt57) fN),ylV a0 a1 a2 a3 a4 a5 a6 a7 a8 (yvR Q)⟩,⟨(pS pt54 (fV 0 pt58 pt57) fN),yh5 a0 a1 a2 a3 a4 a5 a6 a7 a8 (yvS Q)⟩,⟨(pS pt54 (fV 0 vNs pt57) fN),ylW a0 a1 a2 a3 a4 a5 a6 a7 a8 (yvT Q)⟩,⟨(pS pt55 (fV 0 pt58 pt57) fN),ybE a0 a1 a2 a3 a4 a5 a6 a7 a8 (yvU Q)⟩,⟨(pS pt55 (fV 0 pt59 pt57) fN),ybF a0 a1 a2 a3 a4 a5 a6 a7 a8 (yvV Q)⟩]
def pt60:Pat Frm:=fV 1 pt0 (fV 2 pt0 (fV 3 pt46 (fV 8 pt0 fN)))
def ynz (a0:yal) (a1:yat) (a2:yac) (a3:yaf) (a4:yam) (a5:yax) (a6:yah) (a7:yao) (a8:yar) (Q:Qx):List St:=[⟨(pS hN (fV 0 vNs pt60) fN),yh6 a0 a1 a2 a3 a4 a5 a6 a7 a8 (yvW Q)⟩,⟨(pS pt22 (fV 0 pt23 pt60) fN),ybv a0 a1 a2 a3 a4 a5 a6 a7 a8 (yvX Q)⟩]
def pt61:Pat Frm:=fV 1 pt0 (fV 2 pt0 (fV 6 pt0 fN))
def ynA (a0:yal) (a1:yat) (a2:yac) (a3:yaf) (a4:yam) (a5:yax) (a6:yah) (a7:yao) (a8:yar) (Q:Qx):List St:=[⟨(pS hN (fV 0 vNs pt61) fN),yh7 a0 a1 a2 a3 a4 a5 a6 a7 a8 (yvY Q)⟩,⟨(pS pt22 (fV 0 vNs pt61) fN),yh8 a0 a1 a2 a3 a4 a5 a6 a7 a8 (yvZ Q)⟩,⟨(pS pt54 (fV 0 pt58 pt61) fN),yh9 a0 a1 a2 a3 a4 a5 a6 a7 a8 (yv0 Q)⟩,⟨(pS pt54 (fV 0 vNs pt61) fN),yia a0 a1 a2 a3 a4 a5 a6 a7 a8 (yv1 Q)⟩,⟨(pS pt55 (fV 0 pt58 pt61) fN),ybG a0 a1 a2 a3 a4 a5 a6 a7 a8 (yv2 Q)⟩,⟨(pS pt55 (fV 0 pt59 pt61) fN),ybH a0 a1 a2 a3 a4 a5 a6 a7 a8 (yv3 Q)⟩]
def pt62:Pat Frm:=fV 1 pt0 (fV 2 pt0 (fV 3 pt0 (fV 8 vB (fV 9 vB fN))))
def ynB (a0:yal) (a1:yat) (a2:yac) (a3:yaf) (a4:yam) (a5:yax) (a6:yah) (a7:yao) (a8:yar) (Q:Qx):List St:=[⟨(pS hN (fV 0 vNs pt62) fN),yib a0 a1 a2 a3 a4 a5 a6 a7 a8 (yv4 Q)⟩,⟨(pS pt22 (fV 0 vNs pt62) fN),yic a0 a1 a2 a3 a4 a5 a6 a7 a8 (yv5 Q)⟩,⟨(pS pt54 (fV 0 pt58 pt62) fN),yid a0 a1 a2 a3 a4 a5 a6 a7 a8 (yl7 Q)⟩,⟨(pS pt54 (fV 0 vNs pt62) fN),yie a0 a1 a2 a3 a4 a5 a6 a7 a8 (yl7 Q)⟩,⟨(pS pt55 (fV 0 pt58 pt62) fN),yc1 a0 a1 a2 a3 a4 a5 a6 a7 a8 (yma Q)⟩,⟨(pS pt55 (fV 0 pt59 pt62) fN),yc2 a0 a1 a2 a3 a4 a5 a6 a7 a8 (yma Q)⟩]
def ybO (a0:yal) (a1:yat) (a2:yac) (a3:yaf) (a4:yam) (a5:yax) (a6:yah) (a7:yao) (a8:yar):LP:=lpS [(42112300,yns a0 a1 a2 a3 a4 a5 a6 a7 a8),(42112301,ynt a0 a1 a2 a3 a4 a5 a6 a7 a8),(34804800,ynu a0 a1 a2 a3 a4 a5 a6 a7 a8),(44419400,ynv a0 a1 a2 a3 a4 a5 a6 a7 a8),(34804802,ynw a0 a1 a2 a3 a4 a5 a6 a7 a8),(42112302,ynx a0 a1 a2 a3 a4 a5 a6 a7 a8),(58428500,yny a0 a1 a2 a3 a4 a5 a6 a7 a8),(44419401,ynz a0 a1 a2 a3 a4 a5 a6 a7 a8),(58428501,ynA a0 a1 a2 a3 a4 a5 a6 a7 a8),(82372100,ynB a0 a1 a2 a3 a4 a5 a6 a7 a8)]
def ycF (e:Es) (a0:yal) (a1:yat) (a2:yac) (a3:yaf) (a4:yam) (a5:yax) (a6:yah) (a7:yao) (a8:yar):SE:=⟨(E e),yeW [(ydb,yvb.pw a0),(ydc,yEB.pw a1),(ydV,yjd.pw a2),(yeQ,ykM.pw a3),(yey,yCt.pw a4),(ygr,yC1.pw a5),(ynU,ytp.pw a6),(ybp,yxF.pw a7),(yeb,yyL.pw a8)],yeX [(yby,yce),(ygs,yix)],ybO a0 a1 a2 a3 a4 a5 a6 a7 a8,fun _=>none⟩
def yqF (e:Es) (a0:yal) (a1:yat) (a2:yac) (a3:yaf) (a4:yam) (a5:yax) (a6:yah) (a7:yao) (a8:yar):SE:=⟨(E e),yeW [(ydb,yvb.pw a0),(ydc,yEB.pw a1),(ydV,yjd.pw a2),(yeQ,ykM.pw a3),(yey,yCt.pw a4),(ygr,yC1.pw a5),(ynU,ytp.pw a6),(ybp,yxF.pw a7),(yeb,yyL.pw a8)],yeX [(yby,yce),(ycU,yei),(ya7,ybz),(ygs,yix),(ybY,ybZ)],ybO a0 a1 a2 a3 a4 a5 a6 a7 a8,fun _=>none⟩
def yqG (e:Es) (a0:yal) (a1:yat) (a2:yac) (a3:yaf) (a4:yam) (a5:yax) (a6:yah) (a7:yao) (a8:yar):SE:=⟨(E e),yeW [(ydb,yvb.pw a0),(ydc,yEB.pw a1),(ydV,yjd.pw a2),(yeQ,ykM.pw a3),(yey,yCt.pw a4),(ygr,yC1.pw a5),(ynU,ytp.pw a6),(ybp,yxF.pw a7),(yeb,yyL.pw a8)],yeX [(yby,yce),(ycU,yei),(ya7,ybz),(ygs,yix),(ycT,yj1),(ybY,ybZ)],ybO a0 a1 a2 a3 a4 a5 a6 a7 a8,fun _=>none⟩
theorem ycL (e:Es) (he:EG e):SEOk (Uni (E e)) (ycF e yaS ya3 ya4 ybk yap yaP yeG yaH yaw):=yaz (Sub.uni _) ⟨(ydx e he),(ydw e he),(ygh e he),(yh2 e he),(yfL e he),(ymR e he),(yuU e he),(yiP e he),(yjG e he),trivial⟩ ⟨⟨by kernel_rfl,by kernel_rfl,rfl,fun az=>yaB (by kernel_rfl) az,he.num _ (by kernel_rfl),by kernel_rfl,(yak (by kernel_rfl))⟩,⟨by kernel_rfl,by kernel_rfl,rfl,fun az=>yaB (by kernel_rfl) az,he.num _ (by kernel_rfl),by kernel_rfl,(yak (by kernel_rfl))⟩,trivial⟩ he.ok
theorem ytR (e:Es) (a0 a1 a2 a3 a4 a5 a6 a7 a8):ybV (ycF e a0 a1 a2 a3 a4 a5 a6 a7 a8) 5 a ysY false (yns a0 a1 a2 a3 a4 a5 a6 a7 a8):=fun _=>⟨fun _=>by kernel_rfl,fun _ _=>by kernel_rfl,trivial⟩
theorem ytS (e:Es) (he:EG e):LpT (Uni (E e)) (ybO yaS ya3 ya4 ybk yap yaP yeG yaH yaw) [] 42112300 (.loop 42112300 ysY):=fun _ _ _=>yrX.st (Sub.uni _) (yaK (ycL e he) 5) (YOk.no _ _) (yak (by kernel_rfl)) (ytR e _ _ _ _ _ _ _ _ _ _)
theorem ytT (e:Es) (a0 a1 a2 a3 a4 a5 a6 a7 a8):ybV (ycF e a0 a1 a2 a3 a4 a5 a6 a7 a8) 5 a ysZ false (ynt a0 a1 a2 a3 a4 a5 a6 a7 a8):=fun _=>⟨fun _=>by kernel_rfl,fun _ _=>by kernel_rfl,fun _=>by kernel_rfl,fun _ _=>by kernel_rfl,trivial⟩
theorem ytU (e:Es) (he:EG e):LpT (Uni (E e)) (ybO yaS ya3 ya4 ybk yap yaP yeG yaH yaw) [] 42112301 (.loop 42112301 ysZ):=fun _ _ _=>yrX.st (Sub.uni _) (yaK (ycL e he) 5) (YOk.no _ _) (yak (by kernel_rfl)) (ytT e _ _ _ _ _ _ _ _ _ _)
theorem ytV (e:Es) (a0 a1 a2 a3 a4 a5 a6 a7 a8):ybV (ycF e a0 a1 a2 a3 a4 a5 a6 a7 a8) 5 a ykG false (ynu a0 a1 a2 a3 a4 a5 a6 a7 a8):=fun _=>⟨fun _=>by kernel_rfl,fun _ _=>by kernel_rfl,fun _=>by kernel_rfl,fun _ _=>by kernel_rfl,trivial⟩
theorem ylc (e:Es) (he:EG e):LpT (Uni (E e)) (ybO yaS ya3 ya4 ybk yap yaP yeG yaH yaw) [] 34804800 (.loop 34804800 ykG):=fun _ _ _=>yrX.st (Sub.uni _) (yaK (ycL e he) 5) (YOk.no _ _) (yak (by kernel_rfl)) (ytV e _ _ _ _ _ _ _ _ _ _)
theorem ytW (e:Es) (a0 a1 a2 a3 a4 a5 a6 a7 a8):ybV (ycF e a0 a1 a2 a3 a4 a5 a6 a7 a8) 5 a ykF false (ynv a0 a1 a2 a3 a4 a5 a6 a7 a8):=fun _=>⟨fun _=>by kernel_rfl,fun _ _=>by kernel_rfl,fun _=>by kernel_rfl,fun _ _=>by kernel_rfl,trivial⟩
theorem yhn (e:Es) (he:EG e):LpT (Uni (E e)) (ybO yaS ya3 ya4 ybk yap yaP yeG yaH yaw) [] 44419400 (.loop 44419400 ykF):=fun _ _ _=>yrX.st (Sub.uni _) (yaK (ycL e he) 5) (YOk.no _ _) (yak (by kernel_rfl)) (ytW e _ _ _ _ _ _ _ _ _ _)
theorem ytX (e:Es) (a0 a1 a2 a3 a4 a5 a6 a7 a8):ybV (ycF e a0 a1 a2 a3 a4 a5 a6 a7 a8) 5 a ykH false (ynw a0 a1 a2 a3 a4 a5 a6 a7 a8):=fun _=>⟨fun _=>by kernel_rfl,fun _ _=>by kernel_rfl,fun _=>by kernel_rfl,fun _ _=>by kernel_rfl,trivial⟩
theorem yld (e:Es) (he:EG e):LpT (Uni (E e)) (ybO yaS ya3 ya4 ybk yap yaP yeG yaH yaw) [] 34804802 (.loop 34804802 ykH):=fun _ _ _=>yrX.st (Sub.uni _) (yaK (ycL e he) 5) (YOk.no _ _) (yak (by kernel_rfl)) (ytX e _ _ _ _ _ _ _ _ _ _)
theorem ytY (e:Es) (a0 a1 a2 a3 a4 a5 a6 a7 a8):ybV (ycF e a0 a1 a2 a3 a4 a5 a6 a7 a8) 5 a ys0 false (ynx a0 a1 a2 a3 a4 a5 a6 a7 a8):=fun _=>⟨fun _=>by kernel_rfl,fun _ _=>by kernel_rfl,fun _=>by kernel_rfl,fun _ _=>by kernel_rfl,fun _=>by kernel_rfl,fun _ _=>by kernel_rfl,fun _=>by kernel_rfl,fun _ _=>by kernel_rfl,fun _=>by kernel_rfl,fun _ _=>by kernel_rfl,fun _=>by kernel_rfl,fun _ _=>by kernel_rfl,trivial⟩
theorem ytZ (e:Es) (he:EG e):LpT (Uni (E e)) (ybO yaS ya3 ya4 ybk yap yaP yeG yaH yaw) [] 42112302 (.loop 42112302 ys0):=fun _ _ _=>yrX.st (Sub.uni _) (yaK (ycL e he) 5) (YOk.no _ _) (yak (by kernel_rfl)) (ytY e _ _ _ _ _ _ _ _ _ _)
theorem yt0 (e:Es) (a0 a1 a2 a3 a4 a5 a6 a7 a8):ybV (ycF e a0 a1 a2 a3 a4 a5 a6 a7 a8) 5 a ykI false (yny a0 a1 a2 a3 a4 a5 a6 a7 a8):=fun _=>⟨fun _=>by kernel_rfl,fun _ _=>by kernel_rfl,fun _=>by kernel_rfl,fun _ _=>by kernel_rfl,fun _=>by kernel_rfl,fun _ _=>by kernel_rfl,fun _=>by kernel_rfl,fun _ _=>by kernel_rfl,fun _=>by kernel_rfl,fun _ _=>by kernel_rfl,fun _=>by kernel_rfl,fun _ _=>by kernel_rfl,trivial⟩
theorem yho (e:Es) (he:EG e):LpT (Uni (E e)) (ybO yaS ya3 ya4 ybk yap yaP yeG yaH yaw) [] 58428500 (.loop 58428500 ykI):=fun _ _ _=>yrX.st (Sub.uni _) (yaK (ycL e he) 5) (YOk.no _ _) (yak (by kernel_rfl)) (yt0 e _ _ _ _ _ _ _ _ _ _)
theorem yt1 (e:Es) (a0 a1 a2 a3 a4 a5 a6 a7 a8):ybV (ycF e a0 a1 a2 a3 a4 a5 a6 a7 a8) 5 a ynY false (ynz a0 a1 a2 a3 a4 a5 a6 a7 a8):=fun _=>⟨fun _=>by kernel_rfl,fun _ _=>by kernel_rfl,fun _=>by kernel_rfl,fun _ _=>by kernel_rfl,trivial⟩
theorem yle (e:Es) (he:EG e):LpT (Uni (E e)) (ybO yaS ya3 ya4 ybk yap yaP yeG yaH yaw) [] 44419401 (.loop 44419401 ynY):=fun _ _ _=>yrX.st (Sub.uni _) (yaK (ycL e he) 5) (YOk.no _ _) (ya1 (l:=[(44419400,.loop 44419400 ykF)]) ⟨yhn e he,trivial⟩ (by kernel_rfl)) (yt1 e _ _ _ _ _ _ _ _ _ _)
theorem yt2 (e:Es) (a0 a1 a2 a3 a4 a5 a6 a7 a8):ybV (ycF e a0 a1 a2 a3 a4 a5 a6 a7 a8) 5 a ynZ false (ynA a0 a1 a2 a3 a4 a5 a6 a7 a8):=fun _=>⟨fun _=>by kernel_rfl,fun _ _=>by kernel_rfl,fun _=>by kernel_rfl,fun _ _=>by kernel_rfl,fun _=>by kernel_rfl,fun _ _=>by kernel_rfl,fun _=>by kernel_rfl,fun _ _=>by kernel_rfl,fun _=>by kernel_rfl,fun _ _=>by kernel_rfl,fun _=>by kernel_rfl,fun _ _=>by kernel_rfl,trivial⟩
theorem ylf (e:Es) (he:EG e):LpT (Uni (E e)) (ybO yaS ya3 ya4 ybk yap yaP yeG yaH yaw) [] 58428501 (.loop 58428501 ynZ):=fun _ _ _=>yrX.st (Sub.uni _) (yaK (ycL e he) 5) (YOk.no _ _) (ya1 (l:=[(58428500,.loop 58428500 ykI)]) ⟨yho e he,trivial⟩ (by kernel_rfl)) (yt2 e _ _ _ _ _ _ _ _ _ _)
theorem yzl (e:Es) (he:EG e):SEOk (Uni (E e)) (yqF e yaS ya3 ya4 ybk yap yaP yeG yaH yaw):=yaz (Sub.uni _) ⟨(ydx e he),(ydw e he),(ygh e he),(yh2 e he),(yfL e he),(ymR e he),(yuU e he),(yiP e he),(yjG e he),trivial⟩ ⟨⟨by kernel_rfl,by kernel_rfl,rfl,fun az=>yaB (by kernel_rfl) az,he.num _ (by kernel_rfl),by kernel_rfl,(yak (by kernel_rfl))⟩,⟨by kernel_rfl,by kernel_rfl,rfl,fun az=>yaB (by kernel_rfl) az,he.num _ (by kernel_rfl),by kernel_rfl,(ya1 (l:=[(34804800,.loop 34804800 ykG),(34804802,.loop 34804802 ykH)]) ⟨ylc e he,yld e he,trivial⟩ (by kernel_rfl))⟩,⟨by kernel_rfl,by kernel_rfl,rfl,fun az=>yaB (by kernel_rfl) az,he.num _ (by kernel_rfl),by kernel_rfl,(ya1 (l:=[(44419400,.loop 44419400 ykF),(44419401,.loop 44419401 ynY)]) ⟨yhn e he,yle e he,trivial⟩ (by kernel_rfl))⟩,⟨by kernel_rfl,by kernel_rfl,rfl,fun az=>yaB (by kernel_rfl) az,he.num _ (by kernel_rfl),by kernel_rfl,(yak (by kernel_rfl))⟩,⟨by kernel_rfl,by kernel_rfl,rfl,fun az=>yaB (by kernel_rfl) az,he.num _ (by kernel_rfl),by kernel_rfl,(ya1 (l:=[(58428500,.loop 58428500 ykI),(58428501,.loop 58428501 ynZ)]) ⟨yho e he,ylf e he,trivial⟩ (by kernel_rfl))⟩,trivial⟩ he.ok
theorem yt3 (e:Es) (a0 a1 a2 a3 a4 a5 a6 a7 a8):ybV (yqF e a0 a1 a2 a3 a4 a5 a6 a7 a8) 5 a yn2 false (ynB a0 a1 a2 a3 a4 a5 a6 a7 a8):=fun _=>⟨fun _=>by kernel_rfl,fun _ _=>by kernel_rfl,fun _=>by kernel_rfl,fun _ _=>by kernel_rfl,fun _=>by kernel_rfl,fun _ _=>by kernel_rfl,fun _=>by kernel_rfl,fun _ _=>by kernel_rfl,fun _=>by kernel_rfl,fun _ _=>by kernel_rfl,fun _=>by kernel_rfl,fun _ _=>by kernel_rfl,trivial⟩
theorem yt4 (e:Es) (he:EG e):LpT (Uni (E e)) (ybO yaS ya3 ya4 ybk yap yaP yeG yaH yaw) [] 82372100 (.loop 82372100 yn2):=fun _ _ _=>yrX.st (Sub.uni _) (yaK (yzl e he) 5) (YOk.no _ _) (yak (by kernel_rfl)) (yt3 e _ _ _ _ _ _ _ _ _ _)
theorem yzm (e:Es) (he:EG e):SEOk (Uni (E e)) (yqG e yaS ya3 ya4 ybk yap yaP yeG yaH yaw):=yaz (Sub.uni _) ⟨(ydx e he),(ydw e he),(ygh e he),(yh2 e he),(yfL e he),(ymR e he),(yuU e he),(yiP e he),(yjG e he),trivial⟩ ⟨⟨by kernel_rfl,by kernel_rfl,rfl,fun az=>yaB (by kernel_rfl) az,he.num _ (by kernel_rfl),by kernel_rfl,(yak (by kernel_rfl))⟩,⟨by kernel_rfl,by kernel_rfl,rfl,fun az=>yaB (by kernel_rfl) az,he.num _ (by kernel_rfl),by kernel_rfl,(ya1 (l:=[(34804800,.loop 34804800 ykG),(34804802,.loop 34804802 ykH)]) ⟨ylc e he,yld e he,trivial⟩ (by kernel_rfl))⟩,⟨by kernel_rfl,by kernel_rfl,rfl,fun az=>yaB (by kernel_rfl) az,he.num _ (by kernel_rfl),by kernel_rfl,(ya1 (l:=[(44419400,.loop 44419400 ykF),(44419401,.loop 44419401 ynY)]) ⟨yhn e he,yle e he,trivial⟩ (by kernel_rfl))⟩,⟨by kernel_rfl,by kernel_rfl,rfl,fun az=>yaB (by kernel_rfl) az,he.num _ (by kernel_rfl),by kernel_rfl,(yak (by kernel_rfl))⟩,⟨by kernel_rfl,by kernel_rfl,rfl,fun az=>yaB (by kernel_rfl) az,he.num _ (by kernel_rfl),by kernel_rfl,(ya1 (l:=[(82372100,.loop 82372100 yn2)]) ⟨yt4 e he,trivial⟩ (by kernel_rfl))⟩,⟨by kernel_rfl,by kernel_rfl,rfl,fun az=>yaB (by kernel_rfl) az,he.num _ (by kernel_rfl),by kernel_rfl,(ya1 (l:=[(58428500,.loop 58428500 ykI),(58428501,.loop 58428501 ynZ)]) ⟨yho e he,ylf e he,trivial⟩ (by kernel_rfl))⟩,trivial⟩ he.ok
theorem yBs (e:Es) (a0 a1 a2 a3 a4 a5 a6 a7 a8):EqW (yqG e a0 a1 a2 a3 a4 a5 a6 a7 a8) 6 yiZ yBr (ylb a0 a1 a2 a3 a4 a5 a6 a7 a8):=fun _ _=>by kernel_rfl
theorem yqH (e:Es) (he:EG e):OkF (E e) (yBr.pw yaN) ygT:=okU he (yBs e _ _ _ _ _ _ _ _ _) (yzm e he) ypG.flat (ya1 (l:=[(42112300,.loop 42112300 ysY),(42112301,.loop 42112301 ysZ),(42112302,.loop 42112302 ys0)]) ⟨ytS e he,ytU e he,ytZ e he,trivial⟩ (by kernel_rfl))
def ycn (a0:yck) (a1:yac) (a2:ybQ) (a:Ls→Ls→Ls→Ls→Int→Int→Int→Int→Int→Int→Bool→Prop):Nat→Ls→Ls→Ls→Ls→Int→Int→Int→Int→Int→Int→Prop
 | 0,_,_,_,_,_,_,_,_,_,_=>False
 | b+1,l0,l1,l2,l3,i6,i7,i8,i9,i10,i11 =>
 (cbr (decide (i11<i10))
 (asr (decide ((List.length l0)=(List.length l0)))
 (asr (decide ((0+(List.length l0))≤(List.length l0)))
 (asr (!(decide (((0+(List.length l0))+1)≤(List.length l0))))
 (asr (decide ((List.length l0)=(List.length l0)))
 (asr (decide ((((List.length l0)+1)+64)*(8+1)≤room))
 (lt (IntKind.i64.wrap (i11+(1:Int))) (fun c =>
 (asr (decide ((List.length (l0++([(.int .i64 i11)]:Ls)))=List.length (l0++([(.int .i64 i11)]:Ls)))&&decide ((List.length (l0++([(.int .i64 i11)]:Ls)))=List.length (l0++([(.int .i64 i11)]:Ls))))
 (ycn a0 a1 a2 a b (l0++([(.int .i64 i11)]:Ls)) l1 l2 l3 i6 i7 i8 i9 i10 c)))))))))
 (a l0 l1 l2 l3 i6 i7 i8 i9 i10 i11 false))
def yfF (a0:yck) (a1:yac) (a2:ybQ) (a:Ls→Ls→Ls→Int→Int→Int→Int→Int→Int→Bool→Prop) (b:Ls→Ls→Ls→Ls→Int→Int→Int→Int→Int→Int→Bool→Prop):Nat→Ls→Ls→Ls→Int→Int→Int→Int→Int→Int→Prop
 | 0,_,_,_,_,_,_,_,_,_=>False
 | c+1,l0,l1,l2,i3,i4,i5,i6,i7,i8 =>
 (cbr (decide (i8<i7))
 (lt (IntKind.i64.wrap (i8+(1:Int))) (fun d =>
 (asr (decide (1=List.length ([(.int .i64 i8)]:Ls))&&decide (1=List.length ([(.int .i64 i8)]:Ls)))
 (ycn a0 a1 a2 b c ([(.int .i64 i8)]:Ls) l0 l1 l2 i3 i4 i5 i6 i7 d))))
 (a l0 l1 l2 i3 i4 i5 i6 i7 i8 false))
def yg5 (a0:yck) (a1:yac) (a2:ybQ) (h:Ls→Ls→Ls→Nat→Nat→Nat→Ls→Ls→Nat→Nat→Bool→Prop) (j:Ls→Ls→Ls→Int→Prop):Nat→Ls→Ls→Ls→Nat→Nat→Nat→Ls→Ls→Nat→Nat→Prop
 | 0,_,_,_,_,_,_,_,_,_,_=>False
 | k+1,l0,l1,l2,n3,n4,n5,l6,l7,n8,n9 =>
 (cbr (decide (((n8:Nat):Int)>(0:Int)))
 (lt (IntKind.i64.wrap (((n8:Nat):Int)-(1:Int))) (fun e =>
 (asr (decide ((0:Int)≤e))
 (asr (decide (e<((n8:Nat):Int)))
 (asr (decide ((List.length l2)=n9))
 (asr (decide ((0+(e.toNat))<(List.length l2)))
 (lt (List.getD l2 (0+(e.toNat)) .nils) (fun a =>
 (asr (conf (.agg [.d,.i .i64,.i .i64,.i .i64,.i .i64]) a)
 (lt (IntKind.i64.wrap (((n8:Nat):Int)-(1:Int))) (fun b =>
 (asr (decide ((0:Int)≤b))
 (asr ((decide (b≤((n8:Nat):Int)))||(decide (b≤((n8:Nat):Int))))
 (cbr ((((List.length (yaI (yab a 0))):Nat):Int) ==(1:Int))
 (asr (decide ((0:Int)<(((List.length (yaI (yab a 0))):Nat):Int)))
 (lt (List.getD (yaI (yab a 0)) 0 .nils) (fun c =>
 (asr (conf zI c)
 (asr (decide ((0:Int)≤(yaa c)))
 (asr (decide ((yaa c)<((n3:Nat):Int)))
 (asr (decide ((List.length l0)=n4))
 (asr (decide ((0+((yaa c).toNat))<(List.length l0)))
 (lt (List.getD l0 (0+((yaa c).toNat)) .nils) (fun p =>
 (asr (conf zD p)
 (yg5 a0 a1 a2 h j k (List.set l0 (0+((yaa c).toNat)) (.data ([(.agg [(.int .i64 (yaa (yab a 1))),(.int .i64 (yaa (yab a 2))),(.int .i64 (yaa (yab a 3))),(.int .i64 (yaa (yab a 4)))])]:Ls))) l1 l2 n3 n4 n5 l6 l7 ((b-(0:Int)).toNat) n9))))))))))))
 (a2 l6 l7 (yaI (yab a 0)) (yaa (yab a 1)) (yaa (yab a 2)) (yaa (yab a 3)) (yaa (yab a 4)) (fun q r f g l m n =>
 (cbr (n !=(0:Int))
 (j l0 l1 l2 n)
 (jn (fun (o:Ls→Nat→Prop) =>
 (asr (decide ((List.length l2)=n9))
 (asr (decide ((0+((b-(0:Int)).toNat))≤n9))
 (cbr (decide (((0+((b-(0:Int)).toNat))+2)≤n9))
 (o ((List.take (0+((b-(0:Int)).toNat)) l2)++(([(.agg [(.data m),(.int .i64 f),(.int .i64 g),(.int .i64 (yaa (yab a 3))),(.int .i64 (yaa (yab a 4)))]),(.agg [(.data l),(.int .i64 (yaa (yab a 1))),(.int .i64 (yaa (yab a 2))),(.int .i64 f),(.int .i64 g)])]:Ls)++(List.drop ((0+((b-(0:Int)).toNat))+2) l2))) n9)
 (asr (decide (((b-(0:Int)).toNat)≤n9))
 (asr (decide (((((b-(0:Int)).toNat)+2)+64)*(56+1)≤room))
 (o ((List.take ((b-(0:Int)).toNat) l2)++([(.agg [(.data m),(.int .i64 f),(.int .i64 g),(.int .i64 (yaa (yab a 3))),(.int .i64 (yaa (yab a 4)))]),(.agg [(.data l),(.int .i64 (yaa (yab a 1))),(.int .i64 (yaa (yab a 2))),(.int .i64 f),(.int .i64 g)])]:Ls)) (((b-(0:Int)).toNat)+2))))))))
 (fun s t=>(yg5 a0 a1 a2 h j k l0 l1 s n3 n4 n5 q r (((b-(0:Int)).toNat)+2) t))))))))))))))))))))
 (h l0 l1 l2 n3 n4 n5 l6 l7 n8 n9 false))
def yg6 (a0:yck) (a1:yac) (a2:ybQ) (k:Ls→Ls→Nat→Nat→Nat→Ls→Ls→Nat→Nat→Bool→Prop) (l:Ls→Ls→Int→Prop) (m:Ls→Ls→Ls→Nat→Nat→Nat→Ls→Ls→Nat→Nat→Bool→Prop) (n:Ls→Ls→Ls→Int→Prop):Nat→Ls→Ls→Nat→Nat→Nat→Ls→Ls→Nat→Nat→Prop
 | 0,_,_,_,_,_,_,_,_,_=>False
 | o+1,l0,l1,n2,n3,n4,l5,l6,n7,n9 =>
 (cbr (decide (((n7:Nat):Int)>(0:Int)))
 (lt (IntKind.i64.wrap (((n7:Nat):Int)-(1:Int))) (fun j =>
 (asr (decide ((0:Int)≤j))
 (asr (decide (j<((n7:Nat):Int)))
 (asr (decide ((List.length l1)=(List.length l1)))
 (asr (decide ((0+(j.toNat))<(List.length l1)))
 (lt (List.getD l1 (0+(j.toNat)) .nils) (fun a =>
 (asr (conf (.agg [.d,.i .i64,.i .i64,.i .i64,.i .i64]) a)
 (lt (IntKind.i64.wrap (((n7:Nat):Int)-(1:Int))) (fun b =>
 (asr (decide ((0:Int)≤b))
 (asr ((decide (b≤((n7:Nat):Int)))||(decide (b≤((n9:Nat):Int))))
 (cbr ((((List.length (yaI (yab a 0))):Nat):Int) ==(1:Int))
 (asr (decide ((0:Int)<(((List.length (yaI (yab a 0))):Nat):Int)))
 (lt (List.getD (yaI (yab a 0)) 0 .nils) (fun f =>
 (asr (conf zI f)
 (asr (decide ((0:Int)≤(yaa f)))
 (asr (decide ((yaa f)<((n2:Nat):Int)))
 (asr (decide ((List.length l0)=n3))
 (asr (decide ((0+((yaa f).toNat))<(List.length l0)))
 (lt (List.getD l0 (0+((yaa f).toNat)) .nils) (fun s =>
 (asr (conf zD s)
 (asr (decide ((List.length l1)=List.length l1))
 (yg6 a0 a1 a2 k l m n o (List.set l0 (0+((yaa f).toNat)) (.data ([(.agg [(.int .i64 (yaa (yab a 1))),(.int .i64 (yaa (yab a 2))),(.int .i64 (yaa (yab a 3))),(.int .i64 (yaa (yab a 4)))])]:Ls))) l1 n2 n3 n4 l5 l6 ((b-(0:Int)).toNat) (n9-0))))))))))))))
 (a2 l5 l6 (yaI (yab a 0)) (yaa (yab a 1)) (yaa (yab a 2)) (yaa (yab a 3)) (yaa (yab a 4)) (fun p q c e g h r =>
 (cbr (r !=(0:Int))
 (l l0 l1 r)
 (asr (decide ((List.length l1)=(List.length l1)))
 (asr (decide ((0+((b-(0:Int)).toNat))≤(List.length l1)))
 (cbr (decide ((((b-(0:Int)).toNat)+2)≤(n9-0)))
 (asr (decide ((List.length l1)=List.length ((List.take (0+((b-(0:Int)).toNat)) l1)++(([(.agg [(.data h),(.int .i64 c),(.int .i64 e),(.int .i64 (yaa (yab a 3))),(.int .i64 (yaa (yab a 4)))]),(.agg [(.data g),(.int .i64 (yaa (yab a 1))),(.int .i64 (yaa (yab a 2))),(.int .i64 c),(.int .i64 e)])]:Ls)++(List.drop ((0+((b-(0:Int)).toNat))+2) l1)))))
 (yg6 a0 a1 a2 k l m n o l0 ((List.take (0+((b-(0:Int)).toNat)) l1)++(([(.agg [(.data h),(.int .i64 c),(.int .i64 e),(.int .i64 (yaa (yab a 3))),(.int .i64 (yaa (yab a 4)))]),(.agg [(.data g),(.int .i64 (yaa (yab a 1))),(.int .i64 (yaa (yab a 2))),(.int .i64 c),(.int .i64 e)])]:Ls)++(List.drop ((0+((b-(0:Int)).toNat))+2) l1))) n2 n3 n4 p q (((b-(0:Int)).toNat)+2) (n9-0)))
 (asr (decide (((List.length ((List.take ((b-(0:Int)).toNat) l1)++([(.agg [(.data h),(.int .i64 c),(.int .i64 e),(.int .i64 (yaa (yab a 3))),(.int .i64 (yaa (yab a 4)))]),(.agg [(.data g),(.int .i64 (yaa (yab a 1))),(.int .i64 (yaa (yab a 2))),(.int .i64 c),(.int .i64 e)])]:Ls)))+64)*(56+1)≤room))
 (yg5 a0 a1 a2 m n o l0 l1 ((List.take ((b-(0:Int)).toNat) l1)++([(.agg [(.data h),(.int .i64 c),(.int .i64 e),(.int .i64 (yaa (yab a 3))),(.int .i64 (yaa (yab a 4)))]),(.agg [(.data g),(.int .i64 (yaa (yab a 1))),(.int .i64 (yaa (yab a 2))),(.int .i64 c),(.int .i64 e)])]:Ls)) n2 n3 n4 p q (List.length ((List.take ((b-(0:Int)).toNat) l1)++([(.agg [(.data h),(.int .i64 c),(.int .i64 e),(.int .i64 (yaa (yab a 3))),(.int .i64 (yaa (yab a 4)))]),(.agg [(.data g),(.int .i64 (yaa (yab a 1))),(.int .i64 (yaa (yab a 2))),(.int .i64 c),(.int .i64 e)])]:Ls))) (List.length ((List.take ((b-(0:Int)).toNat) l1)++([(.agg [(.data h),(.int .i64 c),(.int .i64 e),(.int .i64 (yaa (yab a 3))),(.int .i64 (yaa (yab a 4)))]),(.agg [(.data g),(.int .i64 (yaa (yab a 1))),(.int .i64 (yaa (yab a 2))),(.int .i64 c),(.int .i64 e)])]:Ls)))))))))))))))))))))))))
 (k l0 l1 n2 n3 n4 l5 l6 n7 n9 false))
def yaT (a0:yck) (a1:yac) (a2:ybQ) (h:Ls→Ls→Ls→Ls→Nat→Nat→Nat→Ls→Ls→Nat→Nat→Bool→Prop) (j:Ls→Ls→Ls→Ls→Int→Prop):Nat→Ls→Ls→Ls→Ls→Nat→Nat→Nat→Ls→Ls→Nat→Nat→Prop
 | 0,_,_,_,_,_,_,_,_,_,_,_=>False
 | k+1,l0,l1,l2,l3,n4,n5,n6,l7,l8,n9,n10 =>
 (cbr (decide (((n9:Nat):Int)>(0:Int)))
 (lt (IntKind.i64.wrap (((n9:Nat):Int)-(1:Int))) (fun e =>
 (asr (decide ((0:Int)≤e))
 (asr (decide (e<((n9:Nat):Int)))
 (asr (decide ((List.length l3)=n10))
 (asr (decide ((0+(e.toNat))<(List.length l3)))
 (lt (List.getD l3 (0+(e.toNat)) .nils) (fun a =>
 (asr (conf (.agg [.d,.i .i64,.i .i64,.i .i64,.i .i64]) a)
 (lt (IntKind.i64.wrap (((n9:Nat):Int)-(1:Int))) (fun b =>
 (asr (decide ((0:Int)≤b))
 (asr ((decide (b≤((n9:Nat):Int)))||(decide (b≤((n9:Nat):Int))))
 (cbr ((((List.length (yaI (yab a 0))):Nat):Int) ==(1:Int))
 (asr (decide ((0:Int)<(((List.length (yaI (yab a 0))):Nat):Int)))
 (lt (List.getD (yaI (yab a 0)) 0 .nils) (fun c =>
 (asr (conf zI c)
 (asr (decide ((0:Int)≤(yaa c)))
 (asr (decide ((yaa c)<((n4:Nat):Int)))
 (asr (decide ((List.length l1)=n5))
 (asr (decide ((0+((yaa c).toNat))<(List.length l1)))
 (lt (List.getD l1 (0+((yaa c).toNat)) .nils) (fun p =>
 (asr (conf zD p)
 (yaT a0 a1 a2 h j k l0 (List.set l1 (0+((yaa c).toNat)) (.data ([(.agg [(.int .i64 (yaa (yab a 1))),(.int .i64 (yaa (yab a 2))),(.int .i64 (yaa (yab a 3))),(.int .i64 (yaa (yab a 4)))])]:Ls))) l2 l3 n4 n5 n6 l7 l8 ((b-(0:Int)).toNat) n10))))))))))))
 (a2 l7 l8 (yaI (yab a 0)) (yaa (yab a 1)) (yaa (yab a 2)) (yaa (yab a 3)) (yaa (yab a 4)) (fun q r f g l m n =>
 (cbr (n !=(0:Int))
 (j l0 l1 l2 l3 n)
 (jn (fun (o:Ls→Nat→Prop) =>
 (asr (decide ((List.length l3)=n10))
 (asr (decide ((0+((b-(0:Int)).toNat))≤n10))
 (cbr (decide (((0+((b-(0:Int)).toNat))+2)≤n10))
 (o ((List.take (0+((b-(0:Int)).toNat)) l3)++(([(.agg [(.data m),(.int .i64 f),(.int .i64 g),(.int .i64 (yaa (yab a 3))),(.int .i64 (yaa (yab a 4)))]),(.agg [(.data l),(.int .i64 (yaa (yab a 1))),(.int .i64 (yaa (yab a 2))),(.int .i64 f),(.int .i64 g)])]:Ls)++(List.drop ((0+((b-(0:Int)).toNat))+2) l3))) n10)
 (asr (decide (((b-(0:Int)).toNat)≤n10))
 (asr (decide (((((b-(0:Int)).toNat)+2)+64)*(56+1)≤room))
 (o ((List.take ((b-(0:Int)).toNat) l3)++([(.agg [(.data m),(.int .i64 f),(.int .i64 g),(.int .i64 (yaa (yab a 3))),(.int .i64 (yaa (yab a 4)))]),(.agg [(.data l),(.int .i64 (yaa (yab a 1))),(.int .i64 (yaa (yab a 2))),(.int .i64 f),(.int .i64 g)])]:Ls)) (((b-(0:Int)).toNat)+2))))))))
 (fun s t=>(yaT a0 a1 a2 h j k l0 l1 l2 s n4 n5 n6 q r (((b-(0:Int)).toNat)+2) t))))))))))))))))))))
 (h l0 l1 l2 l3 n4 n5 n6 l7 l8 n9 n10 false))
def ybw (a0:yck) (a1:yac) (a2:ybQ) (k:Ls→Ls→Ls→Nat→Nat→Nat→Ls→Ls→Nat→Nat→Bool→Prop) (l:Ls→Ls→Ls→Int→Prop) (m:Ls→Ls→Ls→Ls→Nat→Nat→Nat→Ls→Ls→Nat→Nat→Bool→Prop) (n:Ls→Ls→Ls→Ls→Int→Prop):Nat→Ls→Ls→Ls→Nat→Nat→Nat→Ls→Ls→Nat→Nat→Prop
 | 0,_,_,_,_,_,_,_,_,_,_=>False
 | o+1,l0,l1,l2,n3,n4,n5,l6,l7,n8,n10 =>
 (cbr (decide (((n8:Nat):Int)>(0:Int)))
 (lt (IntKind.i64.wrap (((n8:Nat):Int)-(1:Int))) (fun j =>
 (asr (decide ((0:Int)≤j))
 (asr (decide (j<((n8:Nat):Int)))
 (asr (decide ((List.length l2)=(List.length l2)))
 (asr (decide ((0+(j.toNat))<(List.length l2)))
 (lt (List.getD l2 (0+(j.toNat)) .nils) (fun a =>
 (asr (conf (.agg [.d,.i .i64,.i .i64,.i .i64,.i .i64]) a)
 (lt (IntKind.i64.wrap (((n8:Nat):Int)-(1:Int))) (fun b =>
 (asr (decide ((0:Int)≤b))
 (asr ((decide (b≤((n8:Nat):Int)))||(decide (b≤((n10:Nat):Int))))
 (cbr ((((List.length (yaI (yab a 0))):Nat):Int) ==(1:Int))
 (asr (decide ((0:Int)<(((List.length (yaI (yab a 0))):Nat):Int)))
 (lt (List.getD (yaI (yab a 0)) 0 .nils) (fun f =>
 (asr (conf zI f)
 (asr (decide ((0:Int)≤(yaa f)))
 (asr (decide ((yaa f)<((n3:Nat):Int)))
 (asr (decide ((List.length l1)=n4))
 (asr (decide ((0+((yaa f).toNat))<(List.length l1)))
 (lt (List.getD l1 (0+((yaa f).toNat)) .nils) (fun s =>
 (asr (conf zD s)
 (asr (decide ((List.length l2)=List.length l2))
 (ybw a0 a1 a2 k l m n o l0 (List.set l1 (0+((yaa f).toNat)) (.data ([(.agg [(.int .i64 (yaa (yab a 1))),(.int .i64 (yaa (yab a 2))),(.int .i64 (yaa (yab a 3))),(.int .i64 (yaa (yab a 4)))])]:Ls))) l2 n3 n4 n5 l6 l7 ((b-(0:Int)).toNat) (n10-0))))))))))))))
 (a2 l6 l7 (yaI (yab a 0)) (yaa (yab a 1)) (yaa (yab a 2)) (yaa (yab a 3)) (yaa (yab a 4)) (fun p q c e g h r =>
 (cbr (r !=(0:Int))
 (l l0 l1 l2 r)
 (asr (decide ((List.length l2)=(List.length l2)))
 (asr (decide ((0+((b-(0:Int)).toNat))≤(List.length l2)))
 (cbr (decide ((((b-(0:Int)).toNat)+2)≤(n10-0)))
 (asr (decide ((List.length l2)=List.length ((List.take (0+((b-(0:Int)).toNat)) l2)++(([(.agg [(.data h),(.int .i64 c),(.int .i64 e),(.int .i64 (yaa (yab a 3))),(.int .i64 (yaa (yab a 4)))]),(.agg [(.data g),(.int .i64 (yaa (yab a 1))),(.int .i64 (yaa (yab a 2))),(.int .i64 c),(.int .i64 e)])]:Ls)++(List.drop ((0+((b-(0:Int)).toNat))+2) l2)))))
 (ybw a0 a1 a2 k l m n o l0 l1 ((List.take (0+((b-(0:Int)).toNat)) l2)++(([(.agg [(.data h),(.int .i64 c),(.int .i64 e),(.int .i64 (yaa (yab a 3))),(.int .i64 (yaa (yab a 4)))]),(.agg [(.data g),(.int .i64 (yaa (yab a 1))),(.int .i64 (yaa (yab a 2))),(.int .i64 c),(.int .i64 e)])]:Ls)++(List.drop ((0+((b-(0:Int)).toNat))+2) l2))) n3 n4 n5 p q (((b-(0:Int)).toNat)+2) (n10-0)))
 (asr (decide (((List.length ((List.take ((b-(0:Int)).toNat) l2)++([(.agg [(.data h),(.int .i64 c),(.int .i64 e),(.int .i64 (yaa (yab a 3))),(.int .i64 (yaa (yab a 4)))]),(.agg [(.data g),(.int .i64 (yaa (yab a 1))),(.int .i64 (yaa (yab a 2))),(.int .i64 c),(.int .i64 e)])]:Ls)))+64)*(56+1)≤room))
 (yaT a0 a1 a2 m n o l0 l1 l2 ((List.take ((b-(0:Int)).toNat) l2)++([(.agg [(.data h),(.int .i64 c),(.int .i64 e),(.int .i64 (yaa (yab a 3))),(.int .i64 (yaa (yab a 4)))]),(.agg [(.data g),(.int .i64 (yaa (yab a 1))),(.int .i64 (yaa (yab a 2))),(.int .i64 c),(.int .i64 e)])]:Ls)) n3 n4 n5 p q (List.length ((List.take ((b-(0:Int)).toNat) l2)++([(.agg [(.data h),(.int .i64 c),(.int .i64 e),(.int .i64 (yaa (yab a 3))),(.int .i64 (yaa (yab a 4)))]),(.agg [(.data g),(.int .i64 (yaa (yab a 1))),(.int .i64 (yaa (yab a 2))),(.int .i64 c),(.int .i64 e)])]:Ls))) (List.length ((List.take ((b-(0:Int)).toNat) l2)++([(.agg [(.data h),(.int .i64 c),(.int .i64 e),(.int .i64 (yaa (yab a 3))),(.int .i64 (yaa (yab a 4)))]),(.agg [(.data g),(.int .i64 (yaa (yab a 1))),(.int .i64 (yaa (yab a 2))),(.int .i64 c),(.int .i64 e)])]:Ls)))))))))))))))))))))))))
 (k l0 l1 l2 n3 n4 n5 l6 l7 n8 n10 false))
def yoC (a0:yck) (a1:yac) (a2:ybQ) (p0:Ls) (K:Ls→Ls→Int→Prop):Prop :=
 (a0 p0 (fun A B e =>
 (cbr (e !=(0:Int))
 (K ([]:Ls) ([]:Ls) e)
 (asr (decide ((0:Int)<(((List.length p0):Nat):Int)))
 (lt (List.getD p0 0 .nils) (fun f =>
 (asr (conf zK f)
 (a1 (yaa (yab f 0)) (fun C D =>
 (a1 (0:Int) (fun E F =>
 (∃ G:Nat,yfF a0 a1 a2
 (fun b H I g h i j _ _ _=>(asr (decide ((0:Int)≤(((List.length b):Nat):Int)))
 (asr (decide ((((List.length b):Nat):Int)≤(((List.length b):Nat):Int)))
 (asr (decide (((List.length b)+64)*(24+1)≤room))
 (asr (decide (1=List.length ([(.agg [(.data ([]:Ls)),(.int .i64 g),(.int .i64 h),(.int .i64 i),(.int .i64 j)])]:Ls)))
 (∃ d:Nat,yg6 a0 a1 a2
 (fun k _ l m _ _ J _ _ _=>(asr (decide ((List.length k)=m))
 (asr (decide ((0+l)≤m))
 (K (List.take l k) J (0:Int)))))
 (fun _ _ L=>(K ([]:Ls) ([]:Ls) L))
 (fun n _ _ o p _ _ M _ _ _=>(asr (decide ((List.length n)=p))
 (asr (decide ((0+o)≤p))
 (K (List.take o n) M (0:Int)))))
 (fun _ _ _ N=>(K ([]:Ls) ([]:Ls) N))
 d (List.replicate (List.length b) ((.data []):PV)) ([(.agg [(.data ([]:Ls)),(.int .i64 g),(.int .i64 h),(.int .i64 i),(.int .i64 j)])]:Ls) (List.length b) (List.length b) (List.length b) H I 1 1))))))
 (fun a c O Q q r s t _ _ _=>(asr (decide ((0:Int)≤(((List.length c):Nat):Int)))
 (asr (decide ((((List.length c):Nat):Int)≤(((List.length c):Nat):Int)))
 (asr (decide (((List.length c)+64)*(24+1)≤room))
 (asr (decide ((List.length a)=(List.length a)))
 (asr (decide ((0+(List.length a))≤(List.length a)))
 (asr (decide (1=List.length ([(.agg [(.data (List.take (List.length a) a)),(.int .i64 q),(.int .i64 r),(.int .i64 s),(.int .i64 t)])]:Ls)))
 (∃ d:Nat,ybw a0 a1 a2
 (fun _ u _ v w _ _ R _ _ _=>(asr (decide ((List.length u)=w))
 (asr (decide ((0+v)≤w))
 (K (List.take v u) R (0:Int)))))
 (fun _ _ _ S=>(K ([]:Ls) ([]:Ls) S))
 (fun _ x _ _ y z _ _ T _ _ _=>(asr (decide ((List.length x)=z))
 (asr (decide ((0+y)≤z))
 (K (List.take y x) T (0:Int)))))
 (fun _ _ _ _ U=>(K ([]:Ls) ([]:Ls) U))
 d a (List.replicate (List.length c) ((.data []):PV)) ([(.agg [(.data (List.take (List.length a) a)),(.int .i64 q),(.int .i64 r),(.int .i64 s),(.int .i64 t)])]:Ls) (List.length c) (List.length c) (List.length c) O Q 1 1))))))))
 G p0 A B E F C D (((List.length p0):Nat):Int) (0:Int)))))))))))))
def yjt:yck:=yoC yhg ya4 yaN
def yE7:Sg:=⟨pt7,Ls→Ls→Int→Prop,fun K=>(fun r0 r1 r2=>K (.tup [(.agg [(.data r0)]),(.data r1),(.int .i64 r2)]))⟩
def yzn (Q:Qx):Ls→Ls→Ls→Int→Int→Int→Int→Int→Int→Bool→Prop:=(fun l0 l1 l2 i3 i4 i5 i6 i7 i8 b9=>Q (.exit 0) [(0,.v (.data l0)),(2,.box (.agg [.nils])),(5,.box (.agg [(.data l1),(.data l2)])),(6,.box (.agg [.nils,(.int .i64 i3),(.int .i64 i4),(.int .i64 i5),(.int .i64 i6)])),(32,.v (.int .i64 i7)),(33,.v (.int .i64 i8)),(34,.v (.bool b9))] [])
def yo7 (Q:Qx):Ls→Ls→Ls→Ls→Int→Int→Int→Int→Int→Int→Bool→Prop:=(fun l0 l1 l2 l3 i6 i7 i8 i9 i10 i11 b12=>Q (.exit 0) [(0,.v (.data l1)),(2,.box (.agg [.nils])),(5,.box (.agg [(.data l2),(.data l3)])),(6,.box (.agg [(.own 0 0 (List.length l0) (List.length l0) none),(.int .i64 i6),(.int .i64 i7),(.int .i64 i8),(.int .i64 i9)])),(32,.v (.int .i64 i10)),(33,.v (.int .i64 i11)),(34,.v (.bool b12))] [⟨false,true,1,l0⟩])
def yzo (Q:Qx):Ls→Ls→Nat→Nat→Nat→Ls→Ls→Nat→Nat→Bool→Prop:=(fun l0 l1 n2 n3 n4 l5 l6 n7 n9 b10=>Q (.exit 2) [(2,.box (.agg [(.own 0 0 n2 n3 (some n4))])),(5,.box (.agg [(.data l5),(.data l6)])),(8,.v (.own 1 0 n7 (List.length l1) (some n9))),(51,.v (.bool b10))] [⟨false,true,1,l0⟩,⟨false,true,5,l1⟩])
def yzp (Q:Qx):Ls→Ls→Int→Prop:=(fun l0 l1 i2=>Q .ret [(2,.box (.agg [.nils])),(3,.v .nils),(4,.v (.int .i64 i2))] [⟨false,true,1,l0⟩,⟨false,true,5,l1⟩])
def yo8 (Q:Qx):Ls→Ls→Ls→Nat→Nat→Nat→Ls→Ls→Nat→Nat→Bool→Prop:=(fun l0 l1 l2 n3 n4 n5 l6 l7 n8 n9 b10=>Q (.exit 2) [(2,.box (.agg [(.own 0 0 n3 n4 (some n5))])),(5,.box (.agg [(.data l6),(.data l7)])),(8,.v (.own 2 0 n8 n9 none)),(51,.v (.bool b10))] [⟨false,true,1,l0⟩,⟨false,true,5,l1⟩,⟨false,true,5,l2⟩])
def yo9 (Q:Qx):Ls→Ls→Ls→Int→Prop:=(fun l0 l1 l2 i3=>Q .ret [(2,.box (.agg [.nils])),(3,.v .nils),(4,.v (.int .i64 i3))] [⟨false,true,1,l0⟩,⟨false,true,5,l1⟩,⟨false,true,5,l2⟩])
def yzq (Q:Qx):Ls→Ls→Ls→Nat→Nat→Nat→Ls→Ls→Nat→Nat→Bool→Prop:=(fun l0 l1 l2 n3 n4 n5 l6 l7 n8 n10 b11=>Q (.exit 2) [(2,.box (.agg [(.own 1 0 n3 n4 (some n5))])),(5,.box (.agg [(.data l6),(.data l7)])),(8,.v (.own 2 0 n8 (List.length l2) (some n10))),(51,.v (.bool b11))] [⟨true,true,1,l0⟩,⟨false,true,1,l1⟩,⟨false,true,5,l2⟩])
def yzr (Q:Qx):Ls→Ls→Ls→Int→Prop:=(fun l0 l1 l2 i3=>Q .ret [(2,.box (.agg [.nils])),(3,.v .nils),(4,.v (.int .i64 i3))] [⟨true,true,1,l0⟩,⟨false,true,1,l1⟩,⟨false,true,5,l2⟩])
def ypa (Q:Qx):Ls→Ls→Ls→Ls→Nat→Nat→Nat→Ls→Ls→Nat→Nat→Bool→Prop:=(fun l0 l1 l2 l3 n4 n5 n6 l7 l8 n9 n10 b11=>Q (.exit 2) [(2,.box (.agg [(.own 1 0 n4 n5 (some n6))])),(5,.box (.agg [(.data l7),(.data l8)])),(8,.v (.own 3 0 n9 n10 none)),(51,.v (.bool b11))] [⟨true,true,1,l0⟩,⟨false,true,1,l1⟩,⟨false,true,5,l2⟩,⟨false,true,5,l3⟩])
def ypb (Q:Qx):Ls→Ls→Ls→Ls→Int→Prop:=(fun l0 l1 l2 l3 i4=>Q .ret [(2,.box (.agg [.nils])),(3,.v .nils),(4,.v (.int .i64 i4))] [⟨true,true,1,l0⟩,⟨false,true,1,l1⟩,⟨false,true,5,l2⟩,⟨false,true,5,l3⟩])
def yqI (a0:yck) (a1:yac) (a2:ybQ) (Q:Qx):List St:=[⟨(pS hN (fV 0 vD (fX 2 (vA (lC vNs lN)) (fX 5 pt21 (fX 6 (vA (lC vNs pt18)) (fV 32 pt0 (fV 33 pt0 fN)))))) fN),yfF a0 a1 a2 (yzn Q) (yo7 Q)⟩,⟨(pS pt53 (fV 0 vD (fX 2 (vA (lC vNs lN)) (fX 5 pt21 (fX 6 (vA (lC pt23 pt18)) (fV 32 pt0 (fV 33 pt0 fN)))))) fN),ycn a0 a1 a2 (yo7 Q)⟩]
def pt63:HPt:=hB false true 1 rA (hB false true 5 rA hN)
def pt64:VPt:=vA (lC (vO 0 (nK 0) nV nV nV) lN)
def pt65:HPt:=hB false true 1 rA (hB false true 5 rA (hB false true 5 rA hN))
def pt66:VPt:=vA (lC (vO 1 (nK 0) nV nV nV) lN)
def yqJ (a0:yck) (a1:yac) (a2:ybQ) (Q:Qx):List St:=[⟨(pS pt63 (fX 2 pt64 (fX 5 pt21 (fV 8 (vO 1 (nK 0) nV (nT 1) nV) fN))) fN),yg6 a0 a1 a2 (yzo Q) (yzp Q) (yo8 Q) (yo9 Q)⟩,⟨(pS pt65 (fX 2 pt64 (fX 5 pt21 (fV 8 pt59 fN))) fN),yg5 a0 a1 a2 (yo8 Q) (yo9 Q)⟩,⟨(pS (hB true true 1 rA pt63) (fX 2 pt66 (fX 5 pt21 (fV 8 (vO 2 (nK 0) nV (nT 2) nV) fN))) fN),ybw a0 a1 a2 (yzq Q) (yzr Q) (ypa Q) (ypb Q)⟩,⟨(pS (hB true true 1 rA pt65) (fX 2 pt66 (fX 5 pt21 (fV 8 (vW 3 (nK 0) nV nV) fN))) fN),yaT a0 a1 a2 (ypa Q) (ypb Q)⟩]
def yoD (a0:yck) (a1:yac) (a2:ybQ):LP:=lpS [(682800,yqI a0 a1 a2),(682801,yqJ a0 a1 a2)]
def ykb (e:Es) (a0:yck) (a1:yac) (a2:ybQ):SE:=sE (E e) [(ynS,yGm.pw a0),(ydV,yjd.pw a1),(ygT,yBr.pw a2)] (yoD a0 a1 a2)
theorem ymS (e:Es) (he:EG e):SEOk (Uni (E e)) (ykb e yhg ya4 yaN):=yaz (Sub.uni _) ⟨(yGp e he),(ygh e he),(yqH e he),trivial⟩ trivial he.ok
theorem yxI (e:Es) (a0 a1 a2):ybV (ykb e a0 a1 a2) 5 a yAG false (yqI a0 a1 a2):=fun _=>⟨fun _=>by kernel_rfl,fun _ _=>by kernel_rfl,fun _=>by kernel_rfl,fun _ _=>by kernel_rfl,trivial⟩
theorem yxJ (e:Es) (he:EG e):LpT (Uni (E e)) (yoD yhg ya4 yaN) [] 682800 (.loop 682800 yAG):=fun _ _ _=>yrX.st (Sub.uni _) (yaK (ymS e he) 5) (YOk.no _ _) (yak (by kernel_rfl)) (yxI e _ _ _ _)
theorem yxK (e:Es) (a0 a1 a2):ybV (ykb e a0 a1 a2) 5 a yAH false (yqJ a0 a1 a2):=fun _=>⟨fun _=>by kernel_rfl,fun _ _=>by kernel_rfl,fun _=>by kernel_rfl,fun _ _=>by kernel_rfl,fun _=>by kernel_rfl,fun _ _=>by kernel_rfl,fun _=>by kernel_rfl,fun _ _=>by kernel_rfl,trivial⟩
theorem yxL (e:Es) (he:EG e):LpT (Uni (E e)) (yoD yhg ya4 yaN) [] 682801 (.loop 682801 yAH):=fun _ _ _=>yrX.st (Sub.uni _) (yaK (ymS e he) 5) (YOk.no _ _) (yak (by kernel_rfl)) (yxK e _ _ _ _)
theorem yE8 (e:Es) (a0 a1 a2):EqW (ykb e a0 a1 a2) 6 ypL yE7 (yoC a0 a1 a2):=fun _ _=>by kernel_rfl
theorem yv6 (e:Es) (he:EG e):OkF (E e) (yE7.pw yjt) yjn:=okU he (yE8 e _ _ _) (ymS e he) ypG.flat (ya1 (l:=[(682800,.loop 682800 yAG),(682801,.loop 682801 yAH)]) ⟨yxJ e he,yxL e he,trivial⟩ (by kernel_rfl))
def ylg (a0:yah) (p0:Int) (K:Int→Int→Prop):Prop :=
 (jn (fun (a:Bool→Prop) =>
 (cbr (decide (p0<(1:Int)))
 (a true)
 (a (decide (p0>(6:Int))))))
 (fun b=>(cbr b
 (K (0:Int) (2:Int))
 (cbr (p0 ==(1:Int))
 (K (0:Int) (0:Int))
 (lt (IntKind.i64.wrap (p0-(1:Int))) (fun c =>
 (a0 (IntKind.u64.wrap c) (fun d =>
 (lt (IntKind.i64.wrap ((2:Int)*d)) (fun e =>
 (lt (IntKind.i64.wrap (e-(1:Int))) (fun f =>
 (lt (IntKind.i64.wrap (p0*f)) (fun g =>
 (K g (0:Int))))))))))))))))
def ygX:yac:=ylg yeG
def yBt:Sg:=⟨pt1,Int→Int→Prop,fun K=>(fun r0 r1=>K (.tup [(.int .i64 r0),(.int .i64 r1)]))⟩
def yBu (e:Es) (a0:yah):SE:=sE (E e) [(ynU,ytp.pw a0)] lp0
theorem yBv (e:Es) (a0):EqW (yBu e a0) 6 yCh yBt (ylg a0):=fun _ _=>by kernel_rfl
theorem yqK (e:Es) (he:EG e):OkF (E e) (yBt.pw ygX) ygU:=okU he (yBv e _) (yaz (Sub.uni _) ⟨(yuU e he),trivial⟩ trivial he.ok) ypG.flat (yak (by kernel_rfl))
def yt5 (a0:ydo) (a1:yal) (p0:Ls) (K:Bool→Prop):Prop :=
 (jn (fun (a:Bool→Prop) =>
 (a0 p0 (fun b =>
 (cbr (!b)
 (a1 p0 ([]:Ls) (fun c =>
 (a (c ==(0:Int)))))
 (a false)))))
 (fun d=>(K d)))
def yrf:ydo:=yt5 yd7 yge
def yHR (e:Es) (a0:ydo) (a1:yal):SE:=sE (E e) [(ygn,yhX.pw a0),(ylA,yvb.pw a1)] lp0
theorem yHS (e:Es) (a0 a1):EqW (yHR e a0 a1) 6 yJO yhX (yt5 a0 a1):=fun _ _=>by kernel_rfl
theorem yHT (e:Es) (he:EG e):OkF (E e) (yhX.pw yrf) yrd:=okU he (yHS e _ _) (yaz (Sub.uni _) ⟨(ylM e he),(yvo e he),trivial⟩ trivial he.ok) ypG.flat (yak (by kernel_rfl))
abbrev yqL:Type:=(Ls→Prop)→Prop
def yv7 (K:Ls→Prop):Prop :=
 (K ([(.agg [(.int .i64 (6:Int)),(.data ([(.int .i64 (0:Int)),(.int .i64 (6:Int))]:Ls)),(.data ([(.int .i64 (1:Int))]:Ls))]),(.agg [(.int .i64 (6:Int)),(.data ([(.int .i64 (0:Int)),(.int .i64 (4:Int)),(.int .i64 (6:Int))]:Ls)),(.data ([(.int .i64 (1:Int)),(.int .i64 (4:Int))]:Ls))]),(.agg [(.int .i64 (6:Int)),(.data ([(.int .i64 (0:Int)),(.int .i64 (2:Int)),(.int .i64 (6:Int))]:Ls)),(.data ([(.int .i64 (2:Int)),(.int .i64 (0:Int))]:Ls))])]:Ls))
def yqM:yqL:=yv7
def yE9:Sg:=⟨lN,Ls→Prop,fun K=>(fun r0=>K (.data r0))⟩
def yFa (e:Es):SE:=sE (E e) [] lp0
theorem yFb (e:Es):EqW (yFa e) 6 yF9 yE9 yv7:=fun _ _=>by kernel_rfl
theorem yFc (e:Es) (he:EG e):OkF (E e) (yE9.pw yqM) ylB:=okU he (yFb e) (yaz (Sub.uni _) trivial trivial he.ok) ypG.flat (yak (by kernel_rfl))
abbrev ymT:Type:=Int→Int→Int→Int→(Ls→Prop)→Prop
def yqN (p0 p1 p2 p3:Int) (K:Ls→Prop):Prop :=
 (K ([(.agg [(.int .i64 p0),(.int .i64 p1),(.int .i64 p2),(.int .i64 p3)])]:Ls))
def ymU:ymT:=yqN
def yBw:Sg:=⟨pt10,Ls→Prop,fun K=>(fun r0=>K (.data r0))⟩
def yBx (e:Es):SE:=sE (E e) [] lp0
theorem yBy (e:Es):EqW (yBx e) 6 yCi yBw yqN:=fun _ _=>by kernel_rfl
theorem yBz (e:Es) (he:EG e):OkF (E e) (yBw.pw ymU) yiX:=okU he (yBy e) (yaz (Sub.uni _) trivial trivial he.ok) ypG.flat (yak (by kernel_rfl))
abbrev yqO:Type:=(Bool→Prop)→Prop
def yoE (a0:yac) (a1:yqL) (a2:yck) (a3:ybQ) (a4:yac) (a5:ymT) (a6:yad) (a7:yad) (K:Bool→Prop):Prop :=
 (a0 (0:Int) (fun b c =>
 (a0 (6:Int) (fun d e =>
 (a1  (fun f =>
 (a2 f (fun g h i =>
 (a1  (fun j =>
 (a3 j ([]:Ls) ([(.int .i64 (0:Int)),(.int .i64 (1:Int)),(.int .i64 (2:Int))]:Ls) b c d e (fun _ _ k l m n o =>
 (a4 (3:Int) (fun p q =>
 (jn (fun (a:Bool→Prop) =>
 (cbr (i ==(0:Int))
 (a5 (2:Int) (3:Int) (10:Int) (3:Int) (fun r =>
 (a5 (10:Int) (3:Int) d e (fun s =>
 (a5 b c (2:Int) (3:Int) (fun t =>
 (a6 g ([(.data r),(.data s),(.data t)]:Ls) (fun u =>
 (cbr u
 (cbr ((((List.length h):Nat):Int) ==(7:Int))
 (cbr (o ==(0:Int))
 (cbr ((k ==(2:Int))&&((l ==(3:Int))&&true))
 (a7 m ([(.int .i64 (2:Int))]:Ls) (fun v =>
 (cbr v
 (a7 n ([(.int .i64 (0:Int)),(.int .i64 (1:Int))]:Ls) (fun w =>
 (cbr w
 (cbr (q ==(0:Int))
 (a (p ==(9:Int)))
 (a false))
 (a false))))
 (a false))))
 (a false))
 (a false))
 (a false))
 (a false))))))))))
 (a false)))
 (fun x=>(K x)))))))))))))))))
def yju:yqO:=yoE yA9 yqM yjt yaN ygX ymU yhh yhi
def yFd:Sg:=⟨lN,Bool→Prop,fun K=>(fun r0=>K (.bool r0))⟩
def yFe (e:Es) (a0:yac) (a1:yqL) (a2:yck) (a3:ybQ) (a4:yac) (a5:ymT) (a6:yad) (a7:yad):SE:=sE (E e) [(yuF,yjd.pw a0),(ylB,yE9.pw a1),(yjn,yE7.pw a2),(ygT,yBr.pw a3),(ygU,yBt.pw a4),(yiX,yBw.pw a5),(ynW,yGt.pw a6),(ynX,ycu.pw a7)] lp0
theorem yFf (e:Es) (a0 a1 a2 a3 a4 a5 a6 a7):EqW (yFe e a0 a1 a2 a3 a4 a5 a6 a7) 6 yGj yFd (yoE a0 a1 a2 a3 a4 a5 a6 a7):=fun _ _=>by kernel_rfl
theorem yFg (e:Es) (he:EG e):OkF (E e) (yFd.pw yju) ylF:=okU he (yFf e _ _ _ _ _ _ _ _) (yaz (Sub.uni _) ⟨(yJU e he),(yFc e he),(yv6 e he),(yqH e he),(yqK e he),(yBz e he),(yyp e he),(yyr e he),trivial⟩ trivial he.ok) ypG.flat (yak (by kernel_rfl))
def yiQ (a0:ydo) (a1:yqO) (a2:yck) (a3:yac) (a4:yon) (a5:yoA) (a6:yk7) (p0:Ls) (K:Bool→Prop):Prop :=
 (a0 p0 (fun e =>
 (cbr (!e)
 (a1  (fun f =>
 (K f)))
 (a2 p0 (fun d b g =>
 (a3 (((List.length p0):Nat):Int) (fun h i =>
 (a4 p0 b (fun j k =>
 (a5 p0 d (fun _ l m =>
 (jn (fun (a:Bool→Prop) =>
 (cbr (g !=(0:Int))
 (a true)
 (cbr (i !=(0:Int))
 (a true)
 (cbr (k !=(0:Int))
 (a true)
 (cbr (j !=(((List.length b):Nat):Int))
 (a true)
 (cbr (decide ((((List.length b):Nat):Int)>h))
 (a true)
 (a (m !=(0:Int)))))))))
 (fun n=>(cbr n
 (K false)
 (a6 p0 d (19:Int) l (fun o p =>
 (jn (fun (c:Bool→Prop) =>
 (cbr (p ==(0:Int))
 (cbr o
 (a1  (fun q =>
 (c q)))
 (c false))
 (c false)))
 (fun r=>(K r)))))))))))))))))))
def yg7:ydo:=yiQ yrf yju yjt ygX ygx yfy yeg
def yxM (a0:ydo) (a1:yqO) (a2:yck) (a3:yac) (a4:yon) (a5:yoA) (a6:yk7):SE:=sE (E ef0) [(yrd,yhX.pw a0),(ylF,yFd.pw a1),(yjn,yE7.pw a2),(ygU,yBt.pw a3),(yjZ,yCR.pw a4),(yj0,yCZ.pw a5),(yhM,yzg.pw a6)] lp0
theorem yxN (a0 a1 a2 a3 a4 a5 a6):EqW (yxM a0 a1 a2 a3 a4 a5 a6) 6 yyG yhX (yiQ a0 a1 a2 a3 a4 a5 a6):=fun _ _=>by kernel_rfl
theorem yxO:OkF (E ef0) (yhX.pw yg7) yjB:=okU ycV (yxN _ _ _ _ _ _ _) (yaz (Sub.uni _) ⟨(yHT ef0 ycV),(yFg ef0 ycV),(yv6 ef0 ycV),(yqK ef0 ycV),(ysk ef0 ycV),ysq,yo6,trivial⟩ trivial ycV.ok) ypG.flat (yak (by kernel_rfl))
def I64 (n:Int):Prop:=-9223372036854775808≤n∧n≤9223372036854775807
def U64 (n:Int):Prop:=0≤n∧n≤18446744073709551615
theorem yys (n:Int):IntKind.u64.wrap n=n % 18446744073709551616:=by
 simp only [IntKind.wrap,IntKind.signed,IntKind.bits,qBs,qAx,if_false]
 rfl
theorem yNX (n:Int):IntKind.i64.wrap n=if n % 18446744073709551616≥9223372036854775808 then n % 18446744073709551616-18446744073709551616 else n % 18446744073709551616:=by
 have e1:(2:Int) ^ 64=18446744073709551616:=rfl
 have e2:(2:Int) ^ (64-1)=9223372036854775808:=rfl
 simp only [IntKind.wrap,IntKind.signed,IntKind.bits,qBm,e1,e2]
 by_cases h:n % 18446744073709551616≥9223372036854775808 <;> simp [h]
theorem wu64 {n:Int} (h:U64 n):IntKind.u64.wrap n=n:=by
 unfold U64 at h
 rw [yys]
 omega
theorem wi64 {n:Int} (h:I64 n):IntKind.i64.wrap n=n:=by
 unfold I64 at h
 rw [yNX]
 split <;> omega
theorem yas {x y:Prop}:cbr true x y=x:=rfl
theorem yae {x y:Prop}:cbr false x y=y:=rfl
theorem yaO {x:Prop}:asr true x=x:=rfl
theorem yji {p:Int} (h:I64 p) (K:Int→Prop):yeE p K=K (p.natAbs:Int):=by
 unfold I64 at h
 unfold yeE ymm
 by_cases hp:p<0
 ·have e:IntKind.u64.wrap ((0:Int)-IntKind.u64.wrap p)=(p.natAbs:Int):=by
   rw [yys,yys]
   omega
  rw [decide_eq_true hp,yas,e]
 ·rw [decide_eq_false hp,yae,wu64 ⟨by omega,by omega⟩]
  congr 1
  omega
theorem yGw (x:Int→Int→Bool→Prop):∀ (n a b:Nat),b<n→yfD x n (a:Int) (b:Int)=x ((Nat.gcd a b:Nat):Int) 0 false
 | 0,a,b,h=>by omega
 | n+1,a,b,h=>by
  unfold yfD
  by_cases hb:b=0
  ·subst hb
   simp [cbr]
  ·have h1:(b:Int)>0:=by omega
   have h2:¬((b:Int)=0):=by omega
   rw [decide_eq_true h1,yas,decide_eq_false h2,qB8,yaO]
   have e:Int.tmod (a:Int) (b:Int)=((a % b:Nat):Int):=by rw [Int.tmod_eq_emod_of_nonneg (by omega)];omega
   rw [e,yGw x n b (a % b) (by have:=Nat.mod_lt a (show b>0 by omega);omega)]
   rw [Nat.gcd_comm a b,Nat.gcd_rec b a,Nat.gcd_comm]
theorem yxP (a b:Nat) (K:Int→Prop) (h:K ((Nat.gcd a b:Nat):Int)):yde (a:Int) (b:Int) K:=by
 unfold yde yn4
 exact ⟨b+1,by rw [yGw _ (b+1) a b (by omega)];exact h⟩
def RV (n d:Int):Prop:=1≤d∧d≤1000000000000000000∧-1000000000000000000≤n∧n≤1000000000000000000∧Nat.gcd n.natAbs d.natAbs=1
instance (n d:Int):Decidable (RV n d):=by unfold RV;infer_instance
def chk (n d:Int):Int:=if RV n d then 0 else 8
theorem yBA {n d:Int} (hn:I64 n) (hd:I64 d) {K:Int→Prop} (h:K (chk n d)):yca n d K:=by
 unfold yca ykK
 by_cases h1:d<1
 ·have e:chk n d=8:=if_neg fun h=>by have:=h.1;omega
  rw [decide_eq_true h1,yas,← e];exact h
 ·have hd':=hd;have hn':=hn
  unfold I64 at hd' hn'
  have ed:IntKind.u64.wrap d=((d.natAbs:Nat):Int):=by rw [wu64 ⟨by omega,by omega⟩];omega
  rw [decide_eq_false h1,yae,yji hn,ed]
  by_cases h2:((if ((d.natAbs:Nat):Int)>((n.natAbs:Nat):Int) then ((d.natAbs:Nat):Int) else ((n.natAbs:Nat):Int))>1000000000000000000)
  ·have e:chk n d=8:=if_neg fun h=>by
    obtain ⟨a1,a2,a3,a4,_⟩:=h
    revert h2;split <;> omega
   rw [decide_eq_true h2,yas,← e];exact h
  ·rw [decide_eq_false h2,yae,yji hn]
   refine yxP _ _ _ ?_
   have h3:0<Nat.gcd n.natAbs d.natAbs:=qCa _ (by omega)
   have h4:d≤1000000000000000000∧-1000000000000000000≤n∧n≤1000000000000000000:=by
    revert h2;split <;> omega
   by_cases h5:((Nat.gcd n.natAbs d.natAbs:Nat):Int)>1
   ·have e:chk n d=8:=if_neg fun h=>by have:=h.2.2.2.2;omega
    rw [decide_eq_true h5,yas,← e];exact h
   ·have e:chk n d=0:=if_pos ⟨by omega,h4.1,h4.2.1,h4.2.2,by omega⟩
    rw [decide_eq_false h5,yae,← e];exact h
theorem yBB {p:Int} (h:U64 p):IntKind.u64.wrap (BitVec.ofInt IntKind.u64.bits p&&&BitVec.ofInt IntKind.u64.bits (4294967295:Int)).toNat=p % 4294967296:=by
 unfold U64 at h
 have e1:(BitVec.ofInt 64 p).toNat=p.toNat:=by
  rw [BitVec.toNat_ofInt];omega
 have e2:(BitVec.ofInt 64 (4294967295:Int)).toNat=4294967295:=rfl
 have e3:(BitVec.ofInt IntKind.u64.bits p&&&BitVec.ofInt IntKind.u64.bits (4294967295:Int)).toNat=p.toNat % 4294967296:=by
  show (BitVec.ofInt 64 p&&&BitVec.ofInt 64 (4294967295:Int)).toNat=_
  rw [BitVec.toNat_and,e1,e2]
  exact Nat.and_two_pow_sub_one_eq_mod p.toNat 32
 rw [e3,yys]
 omega
theorem yNu (p:Int):Int.fdiv p 4294967296=p / 4294967296:=by
 rw [Int.fdiv_eq_ediv_of_nonneg _ (by omega)]
theorem ylh {a b:Int} (ha:U64 a) (hb:U64 b) (K:Int→Int→Prop):ygu a b K=K (a*b / 18446744073709551616) (a*b % 18446744073709551616):=by
 unfold ygu ytm
 simp only [yNu]
 rw [yBB ha,yBB hb]
 unfold U64 at ha hb
 have ha':=ha;have hb':=hb
 obtain ⟨x1,hx1⟩:∃ x,x=a / 4294967296:=⟨_,rfl⟩
 obtain ⟨x0,hx0⟩:∃ x,x=a % 4294967296:=⟨_,rfl⟩
 obtain ⟨y1,hy1⟩:∃ x,x=b / 4294967296:=⟨_,rfl⟩
 obtain ⟨y0,hy0⟩:∃ x,x=b % 4294967296:=⟨_,rfl⟩
 rw [← hx1,← hx0,← hy1,← hy0]
 have b1:0≤x1∧x1≤4294967295:=by omega
 have b2:0≤x0∧x0≤4294967295:=by omega
 have b3:0≤y1∧y1≤4294967295:=by omega
 have b4:0≤y0∧y0≤4294967295:=by omega
 have pb:∀ x y:Int,0≤x∧x≤4294967295→0≤y∧y≤4294967295→0≤x*y∧x*y≤18446744065119617025:=by
  intro x y hx hy
  refine ⟨qBc hx.1 hy.1,?_⟩
  have:=qB1 hx.2 hy.2 hy.1 (by omega:(0:Int)≤4294967295)
  omega
 have p1:=pb x1 y1 b1 b3
 have p2:=pb x1 y0 b1 b4
 have p3:=pb x0 y1 b2 b3
 have p4:=pb x0 y0 b2 b4
 have ea:a=x1*4294967296+x0:=by omega
 have eb:b=y1*4294967296+y0:=by omega
 have eab:a*b=x1*y1*18446744073709551616+x1*y0*4294967296+x0*y1*4294967296+x0*y0:=by
  rw [ea,eb];grind
 obtain ⟨P,hP⟩:∃ x,x=x1*y1:=⟨_,rfl⟩
 obtain ⟨Q,hQ⟩:∃ x,x=x1*y0:=⟨_,rfl⟩
 obtain ⟨R,hR⟩:∃ x,x=x0*y1:=⟨_,rfl⟩
 obtain ⟨S,hS⟩:∃ x,x=x0*y0:=⟨_,rfl⟩
 rw [← hP] at p1;rw [← hQ] at p2;rw [← hR] at p3;rw [← hS] at p4
 rw [← hP,← hQ,← hR,← hS] at eab ⊢
 have w1:IntKind.u64.wrap S=S:=wu64 ⟨by omega,by omega⟩
 have w2:IntKind.u64.wrap Q=Q:=wu64 ⟨by omega,by omega⟩
 have w3:IntKind.u64.wrap R=R:=wu64 ⟨by omega,by omega⟩
 have w4:IntKind.u64.wrap P=P:=wu64 ⟨by omega,by omega⟩
 rw [w1,w2,w3,w4]
 have w5:IntKind.u64.wrap (Q+S / 4294967296)=Q+S / 4294967296:=wu64 ⟨by omega,by omega⟩
 rw [w5,yBB ⟨by omega,by omega⟩]
 have w6:IntKind.u64.wrap ((Q+S / 4294967296) % 4294967296+R)=(Q+S / 4294967296) % 4294967296+R:=wu64 ⟨by omega,by omega⟩
 rw [w6]
 have w7:IntKind.u64.wrap (P+(Q+S / 4294967296) / 4294967296)=P+(Q+S / 4294967296) / 4294967296:=by
  have:a*b / 18446744073709551616≤18446744073709551615:=by
   have h1:a*b≤18446744073709551615*18446744073709551615:=by
    have:=qB1 ha'.2 hb'.2 hb'.1 (by omega:(0:Int)≤18446744073709551615)
    exact this
   omega
  exact wu64 ⟨by omega,by omega⟩
 rw [w7]
 have hab:a*b≤18446744073709551615*18446744073709551615:=qB1 ha'.2 hb'.2 hb'.1 (by omega:(0:Int)≤18446744073709551615)
 rw [eab] at hab ⊢
 rw [yys,yys]
 congr 1
 omega
theorem yNv {a b:Int} {K:Int→Prop} (h:K (if a=0 then b else a)):yfs [.int .i64 a,.int .i64 b] K:=by
 unfold yfs ygH
 refine ⟨3,?_⟩
 have e1:IntKind.i64.wrap 1=1:=by decide
 have e2:IntKind.i64.wrap 2=2:=by decide
 by_cases ha:a=0
 ·by_cases hb:b=0
  ·simp [yct,yas,yae,yaO,conf,yoP,yaa,e1,e2,ha,hb] at h ⊢;exact h
  ·have e3:(b != 0)=true:=by simpa using hb
   simp [yct,yas,yae,yaO,conf,yoP,yaa,e1,e2,ha,e3] at h ⊢;exact h
 ·have e3:(a != 0)=true:=by simpa using ha
  simp [yct,yas,yae,yaO,conf,yoP,yaa,e1,e2,ha,e3] at h ⊢;exact h
def chk2 (a b c d:Int):Int:=if chk a b=0 then chk c d else chk a b
theorem yqP {a b c d:Int} (ha:I64 a) (hb:I64 b) (hc:I64 c) (hd:I64 d) {K:Int→Prop} (h:K (chk2 a b c d)):ydX a b c d K:=by
 unfold ydX ykL
 exact yBA ha hb (yBA hc hd (yNv h))
def cmp3 (a b:Int):Int:=if a<b then -1 else if a>b then 1 else 0
theorem yFh (a b:Int) (K:Int→Prop):ye2 a b K=K (cmp3 a b):=by
 unfold ye2 ygc
 simp only [yhT,yhc,bne_self_eq_false,yae,cmp3]
 by_cases h:a<b
 ·simp [h,yas]
 ·by_cases h2:a>b
  ·simp [h,h2,yas,yae]
  ·simp [h,h2,yae]
theorem yv8 (a b:Int) (K:Int→Prop):yeF a b K=K (cmp3 a b):=by
 unfold yeF yfQ
 simp only [yhd,ygJ,bne_self_eq_false,yae,cmp3]
 by_cases h:a<b
 ·simp [h,yas]
 ·by_cases h2:a>b
  ·simp [h,h2,yas,yae]
  ·simp [h,h2,yae]
theorem yMp {a b:Int} {K:Int→Prop} (h:K (if a=0 then b else a)):yj4 [.int .i64 a,.int .i64 b] K:=by
 unfold yj4 ymn
 refine ⟨3,?_⟩
 have e1:IntKind.i64.wrap 1=1:=by decide
 have e2:IntKind.i64.wrap 2=2:=by decide
 by_cases ha:a=0
 ·by_cases hb:b=0
  ·simp [yd2,yas,yae,yaO,conf,yoP,yaa,e1,e2,ha,hb] at h ⊢;exact h
  ·have e3:(b != 0)=true:=by simpa using hb
   simp [yd2,yas,yae,yaO,conf,yoP,yaa,e1,e2,ha,e3] at h ⊢;exact h
 ·have e3:(a != 0)=true:=by simpa using ha
  simp [yd2,yas,yae,yaO,conf,yoP,yaa,e1,e2,ha,e3] at h ⊢;exact h
theorem yer {a b c d:Int}:chk2 a b c d=0↔RV a b∧RV c d:=by
 unfold chk2 chk
 by_cases h1:RV a b <;> by_cases h2:RV c d <;> simp [h1,h2]
def cmpR (a b c d:Int):Int:=cmp3 (a*d) (c*b)
theorem yJV {x y:Int} (_:0≤x) (_:0≤y):(if cmp3 (x / 18446744073709551616) (y / 18446744073709551616)=0 then cmp3 (x % 18446744073709551616) (y % 18446744073709551616) else cmp3 (x / 18446744073709551616) (y / 18446744073709551616))=cmp3 x y:=by
 unfold cmp3
 split <;> rename_i h <;> revert h <;> repeat' split <;> intro h <;> omega
theorem U64.abs {n:Int} (h:I64 n):U64 ((n.natAbs:Nat):Int):=by unfold I64 at h;unfold U64;omega
theorem yK6 {a b c d:Int} (ha:I64 a) (hb:I64 b) (hc:I64 c) (hd:I64 d) {K:Int→Int→Prop} (h:K (if chk2 a b c d=0 then cmpR a b c d else 0) (chk2 a b c d)):ya3 a b c d K:=by
 unfold ya3 yn8
 refine yqP ha hb hc hd ?_
 by_cases hk:chk2 a b c d=0
 ·rw [if_pos hk] at h
  rw [hk] at h ⊢
  obtain ⟨⟨b1,b2,a1,a2,_⟩,d1,d2,c1,c2,_⟩:=yer.1 hk
  simp only [bne_self_eq_false,yae]
  by_cases hs:decide (a<0)=decide (c<0)
  ·have e:(decide (a<0) != decide (c<0))=false:=by rw [hs];simp
   rw [e,yae,yji ha,wu64 ⟨by omega,by omega⟩,ylh (U64.abs ha) ⟨by omega,by omega⟩,yji hc,wu64 ⟨by omega,by omega⟩,ylh (U64.abs hc) ⟨by omega,by omega⟩,yv8,yv8]
   refine yMp ?_
   have p1:0≤((a.natAbs:Nat):Int)*d:=qBc (by omega) (by omega)
   have p2:0≤((c.natAbs:Nat):Int)*b:=qBc (by omega) (by omega)
   rw [yJV p1 p2]
   by_cases hneg:a<0
   ·have hcn:c<0:=by simpa [hneg] using hs.symm
    rw [decide_eq_true hneg,yas]
    have e1:((a.natAbs:Nat):Int)*d=-(a*d):=by
     rw [show ((a.natAbs:Nat):Int)=-a by omega,Int.neg_mul]
    have e2:((c.natAbs:Nat):Int)*b=-(c*b):=by
     rw [show ((c.natAbs:Nat):Int)=-c by omega,Int.neg_mul]
    have e3:IntKind.i64.wrap (0-cmp3 (((a.natAbs:Nat):Int)*d) (((c.natAbs:Nat):Int)*b))=cmpR a b c d:=by
     rw [e1,e2]
     unfold cmpR cmp3
     rw [wi64 (by unfold I64;repeat' split <;> omega)]
     repeat' split <;> omega
    rw [e3];exact h
   ·have hcn:¬c<0:=by simpa [hneg] using hs.symm
    rw [decide_eq_false hneg,yae,show ((a.natAbs:Nat):Int)=a by omega,show ((c.natAbs:Nat):Int)=c by omega]
    exact h
  ·have e:(decide (a<0) != decide (c<0))=true:=by simpa using hs
   rw [e,yas,yFh]
   have e2:cmp3 a c=cmpR a b c d:=by
    unfold cmpR cmp3
    by_cases hneg:a<0
    ·have hcn:¬c<0:=by intro hcn;simp [hneg,hcn] at hs
     have q1:a*d<0:=Int.mul_neg_of_neg_of_pos hneg (by omega)
     have q2:0≤c*b:=qBc (by omega) (by omega)
     rw [if_pos (by omega),if_pos (by omega)]
    ·have hcn:c<0:=by
      by_cases hcn:c<0
      ·exact hcn
      ·simp [hneg,hcn] at hs
     have q1:c*b<0:=Int.mul_neg_of_neg_of_pos hcn (by omega)
     have q2:0≤a*d:=qBc (by omega) (by omega)
     rw [if_neg (by omega),if_pos (by omega),if_neg (by omega),if_pos (by omega)]
   rw [e2];exact h
 ·rw [if_neg hk] at h
  have e:(chk2 a b c d != 0)=true:=by simpa using hk
  rw [e,yas];exact h
def blen (x:Nat):Nat:=if x=0 then 0 else x.log2+1
theorem yIG (x:Nat):x<2 ^ blen x:=by
 unfold blen
 split
 ·rename_i h;subst h;decide
 ·exact Nat.lt_log2_self
theorem yzz {x:Nat} (h:x≠0):2 ^ (blen x-1)≤x:=by
 unfold blen
 rw [if_neg h]
 exact Nat.log2_self_le h
theorem yMq {x m:Nat} (h1:2 ^ m≤x) (h2:x<2 ^ (m+1)):blen x=m+1:=by
 have hx:x≠0:=by have:=Nat.two_pow_pos m;omega
 unfold blen
 rw [if_neg hx]
 congr 1
 have a:=Nat.log2_self_le hx
 have b:=Nat.lt_log2_self (n:=x)
 have c1:¬(x.log2<m):=fun h=>by
  have:=Nat.pow_le_pow_right (show 0<2 by omega) (show x.log2+1≤m by omega)
  omega
 have c2:¬(m<x.log2):=fun h=>by
  have:=Nat.pow_le_pow_right (show 0<2 by omega) (show m+1≤x.log2 by omega)
  omega
 omega
theorem yK7 {x k:Nat} (h:2 ^ k≤x):blen x=k+blen (x / 2 ^ k):=by
 have hp:=Nat.two_pow_pos k
 have hq:x / 2 ^ k≠0:=by
  have:=Nat.div_pos h hp
  omega
 have h1:=yzz hq
 have h2:=yIG (x / 2 ^ k)
 obtain ⟨m,hm⟩:∃ m,blen (x / 2 ^ k)=m+1:=⟨blen (x / 2 ^ k)-1,by
  have:blen (x / 2 ^ k)≠0:=by unfold blen;rw [if_neg hq];omega
  omega⟩
 rw [hm] at h1 h2 ⊢
 rw [Nat.add_sub_cancel] at h1
 have:=yMq (x:=x) (m:=k+m) (by
   rw [Nat.pow_add]
   calc 2 ^ k*2 ^ m≤2 ^ k*(x / 2 ^ k):=Nat.mul_le_mul_left _ h1
    _≤x:=Nat.mul_div_le _ _) (by
   rw [show k+m+1=k+(m+1) by omega,Nat.pow_add]
   rw [Nat.mul_comm]
   exact (Nat.div_lt_iff_lt_mul hp).1 h2)
 omega
theorem yNw:∀ x:Nat,x<256→yaa (List.getD yhJ x .nils)=(blen x:Int):=by decide +kernel
theorem wu8 {n:Int} (h0:0≤n) (h1:n<256):IntKind.u8.wrap n=n:=by
 have e1:(2:Int) ^ 8=256:=rfl
 simp only [IntKind.wrap,IntKind.signed,IntKind.bits,qBs,qAx,if_false,e1]
 omega
theorem yMr {n:Int} (h0:0≤n) (h1:n<256):yaa (List.getD yhJ (IntKind.u8.wrap n).toNat .nils)=(blen n.toNat:Int):=by
 rw [wu8 h0 h1]
 exact yNw n.toNat (by omega)
theorem yNY {n:Nat} (h:n<256):blen n≤8:=by
 by_cases h0:n=0
 ·subst h0;decide
 ·have:=yzz h0
  have h2:blen n-1<8:=by
   refine Nat.lt_of_not_le fun hc=>?_
   have:=Nat.pow_le_pow_right (show 0<2 by omega) hc
   omega
  omega
theorem yyt {n k:Int} (h0:0≤n) (h1:n<256) (hk:0≤k∧k≤56) {m:Int} (hm:m=k+blen n.toNat) {K:Int→Prop} (h:K m) :
  asr (decide ((0:Int)≤(IntKind.u8.wrap n))) (asr (decide ((IntKind.u8.wrap n)<(256:Int))) (K (IntKind.i64.wrap (k+(IntKind.i64.wrap (yaa (List.getD yhJ ((IntKind.u8.wrap n).toNat) .nils))))))):=by
 have hb:=yNY (n:=n.toNat) (by omega)
 have e1:IntKind.i64.wrap (blen n.toNat:Int)=blen n.toNat:=wi64 (by unfold I64;omega)
 have e2:IntKind.i64.wrap (k+blen n.toNat:Int)=k+blen n.toNat:=wi64 (by unfold I64;omega)
 rw [yMr h0 h1,wu8 h0 h1,decide_eq_true h0,yaO,decide_eq_true h1,yaO,e1,e2,← hm]
 exact h
theorem yBC (p q:Int) (hq:0≤q):Int.fdiv p q=p / q:=Int.fdiv_eq_ediv_of_nonneg _ hq
theorem yGx {p:Int} (hp:U64 p) {K:Int→Prop} (h:K (blen p.toNat:Int)):yiB p K:=by
 unfold U64 at hp
 unfold yiB yto
 simp only [yBC _ 4294967296 (by omega),yBC _ 65536 (by omega),yBC _ 256 (by omega)]
 have key:∀ (k:Nat) (q:Int),2 ^ k≤p.toNat→q=p / (2 ^ k:Nat)→(blen p.toNat:Int)=k+blen q.toNat:=by
  intro k q hk hq
  have e:q.toNat=p.toNat / 2 ^ k:=by
   rw [hq]
   obtain ⟨m,rfl⟩:∃ m:Nat,p=m:=⟨p.toNat,by omega⟩
   rw [← qB5,qAg,qAg]
  rw [e]
  have:=yK7 hk
  omega
 by_cases h1:p≥4294967296
 ·rw [decide_eq_true h1,yas]
  by_cases h2:p / 4294967296≥65536
  ·rw [decide_eq_true h2,yas]
   by_cases h3:p / 4294967296 / 65536≥256
   ·rw [decide_eq_true h3,yas]
    exact yyt (by omega) (by omega) (by omega) (key 56 _ (by omega) (by omega)) h
   ·rw [decide_eq_false h3,yae]
    exact yyt (by omega) (by omega) (by omega) (key 48 _ (by omega) (by omega)) h
  ·rw [decide_eq_false h2,yae]
   by_cases h3:p / 4294967296≥256
   ·rw [decide_eq_true h3,yas]
    exact yyt (by omega) (by omega) (by omega) (key 40 _ (by omega) (by omega)) h
   ·rw [decide_eq_false h3,yae]
    exact yyt (by omega) (by omega) (by omega) (key 32 _ (by omega) (by omega)) h
 ·rw [decide_eq_false h1,yae]
  by_cases h2:p≥65536
  ·rw [decide_eq_true h2,yas]
   by_cases h3:p / 65536≥256
   ·rw [decide_eq_true h3,yas]
    exact yyt (by omega) (by omega) (by omega) (key 24 _ (by omega) (by omega)) h
   ·rw [decide_eq_false h3,yae]
    exact yyt (by omega) (by omega) (by omega) (key 16 _ (by omega) (by omega)) h
  ·rw [decide_eq_false h2,yae]
   by_cases h3:p≥256
   ·rw [decide_eq_true h3,yas]
    exact yyt (by omega) (by omega) (by omega) (key 8 _ (by omega) (by omega)) h
   ·rw [decide_eq_false h3,yae]
    exact yyt (by omega) (by omega) (by omega) (by simp) h
theorem yv9 {p:Int} (hp:U64 p) {K:Int→Prop} (h:K (64-blen p.toNat:Int)):yci p K:=by
 unfold yci ygK
 refine yGx hp ?_
 have hb:blen p.toNat≤64:=by
  unfold U64 at hp
  by_cases h0:p.toNat=0
  ·rw [h0];decide
  ·have:=yzz h0
   have h2:blen p.toNat-1<64:=by
    refine Nat.lt_of_not_le fun hc=>?_
    have:=Nat.pow_le_pow_right (show 0<2 by omega) hc
    omega
   omega
 rw [wi64 (by unfold I64;omega)]
 exact h
structure DI (y a b u un q r:Int):Prop where
 hy:y=a*4294967296+b
 h1:2147483648≤a∧a≤4294967295
 h0:0≤b∧b≤4294967295
 hn:0≤un∧un≤4294967295
 hu:q*a+r=u
 hq:0≤q∧q≤4294967297
 hr:0≤r∧r≤4294967295
 hlt:u<y
 hU:u*4294967296+un<(q+1)*y
def DG (y u un q:Int):Prop:=0≤q∧q≤4294967295∧q*y≤u*4294967296+un∧u*4294967296+un<(q+1)*y
theorem DI.step {y a b u un q r:Int} (h:DI y a b u un q r) {A B C:Prop}
  (hA:DG y u un (q-1)→0≤q-1→q-1≤4294967296→A)
  (hB:DI y a b u un (q-1) (r+a)→B)
  (hC:DG y u un q→C) :
  cbr (decide (q≥(4294967296:Int)))
   (cbr (decide ((IntKind.u64.wrap (r+a))≥(4294967296:Int))) A B)
   (cbr (decide ((IntKind.u64.wrap (q*b))>(IntKind.u64.wrap ((IntKind.u64.wrap ((4294967296:Int)*r))+un))))
    (cbr (decide ((IntKind.u64.wrap (r+a))≥(4294967296:Int))) A B) C):=by
 have h':=h
 obtain ⟨hy,h1,h0,hn,hu,hq,hr,hlt,hU⟩:=h
 have e1:IntKind.u64.wrap (r+a)=r+a:=wu64 ⟨by omega,by omega⟩
 have eq1:q*y=q*a*4294967296+q*b:=by rw [hy];grind
 have eq2:(q-1)*y=q*y-y:=by grind
 have eq3:(q-1)*a=q*a-a:=by grind
 have eq4:(q-1+1)*y=q*y:=by grind
 have eq5:(q-1)*b=q*b-b:=by grind
 have big:u*4294967296+un<q*y→cbr (decide ((IntKind.u64.wrap (r+a))≥(4294967296:Int))) A B:=by
  intro hb
  have q1:0≤q-1:=by
   refine Int.not_lt.1 fun hc=>?_
   have hq0:q=0:=by omega
   subst hq0
   simp at hb hu
   omega
  rw [e1]
  by_cases hc:r+a≥4294967296
  ·rw [decide_eq_true hc,yas]
   have hp:(q-1)*b≤4294967296*4294967295:=qB1 (by omega) h0.2 h0.1 (by omega)
   have hle:(q-1)*y≤u*4294967296+un:=by
    have:(q-1)*y=(q-1)*a*4294967296+(q-1)*b:=by rw [hy];grind
    omega
   have hlt32:q-1≤4294967295:=by
    refine Int.not_lt.1 fun hc=>?_
    have:4294967296*y≤(q-1)*y:=qAh (by omega) (by omega)
    omega
   exact hA ⟨q1,hlt32,hle,by rw [eq4];exact hb⟩ q1 (by omega)
  ·rw [decide_eq_false hc,yae]
   exact hB ⟨hy,h1,h0,hn,by rw [eq3];omega,⟨q1,by omega⟩,⟨by omega,by omega⟩,hlt,by rw [eq4];exact hb⟩
 by_cases ha:q≥4294967296
 ·rw [decide_eq_true ha,yas]
  refine big ?_
  have:4294967296*y≤q*y:=qAh (by omega) (by omega)
  omega
 ·rw [decide_eq_false ha,yae]
  have hp:q*b≤4294967295*4294967295:=qB1 (by omega) h0.2 h0.1 (by omega)
  have hp0:0≤q*b:=qBc hq.1 h0.1
  have w1:IntKind.u64.wrap (q*b)=q*b:=wu64 ⟨hp0,by omega⟩
  have w2:IntKind.u64.wrap ((4294967296:Int)*r)=4294967296*r:=wu64 ⟨by omega,by omega⟩
  have w3:IntKind.u64.wrap ((4294967296:Int)*r+un)=4294967296*r+un:=wu64 ⟨by omega,by omega⟩
  rw [w1,w2,w3]
  by_cases hb:q*b>4294967296*r+un
  ·rw [decide_eq_true hb,yas]
   exact big (by omega)
  ·rw [decide_eq_false hb,yae]
   exact hC ⟨hq.1,by omega,by omega,hU⟩
theorem yNZ (W:Int→(Int→Prop)→Prop) {y a c u un:Int} (s v un0:Int) {x0 x1:Int→Int→Int→Int→Int→Int→Int→Int→Int→Bool→Prop}
  (hx:∀ q r b,DG y u un q→x0 y s a c v un un0 q r b) (hx1:∀ q r b,DG y u un q→x1 y s a c v un un0 q r b) :
  ∀ (n:Nat) (q r:Int) (b:Bool),DI y a c u un q r→4294967296≤r+n*2147483648→ydY W x0 x1 (n+1) y s a c v un un0 q r b:=by
 intro n
 induction n with
 | zero =>
  intro q r b h hn
  have:=h.hr.2
  exact absurd hn (by omega)
 | succ n ih =>
  intro q r b h hn
  unfold ydY
  refine h.step (fun g a1 a2=>?_) (fun g=>?_) (fun g=>hx1 _ _ _ g)
  ·rw [wu64 (n:=q-1) ⟨by omega,by omega⟩]
   exact hx _ _ _ g
  ·have e1:IntKind.u64.wrap (q-1)=q-1:=wu64 ⟨g.hq.1,by have:=g.hq.2;omega⟩
   have e2:IntKind.u64.wrap (r+a)=r+a:=wu64 ⟨g.hr.1,by have:=g.hr.2;omega⟩
   rw [e1,e2]
   exact ih _ _ _ g (by have:=h.h1.1;omega)
theorem yN0 (W:Int→(Int→Prop)→Prop) {y a c u un:Int} (s q1 v:Int) {x0 x1:Int→Int→Int→Int→Int→Int→Int→Int→Int→Bool→Prop}
  (hx:∀ q r b,DG y u un q→x0 y s a c un q1 r v q b) (hx1:∀ q r b,DG y u un q→x1 y s a c un q1 r v q b) :
  ∀ (n:Nat) (q r:Int) (b:Bool),DI y a c u un q r→4294967296≤r+n*2147483648→ydZ W x0 x1 (n+1) y s a c un q1 r v q b:=by
 intro n
 induction n with
 | zero =>
  intro q r b h hn
  have:=h.hr.2
  exact absurd hn (by omega)
 | succ n ih =>
  intro q r b h hn
  unfold ydZ
  refine h.step (fun g a1 a2=>?_) (fun g=>?_) (fun g=>hx1 _ _ _ g)
  ·rw [wu64 (n:=q-1) ⟨by omega,by omega⟩]
   exact hx _ _ _ g
  ·have e1:IntKind.u64.wrap (q-1)=q-1:=wu64 ⟨g.hq.1,by have:=g.hq.2;omega⟩
   have e2:IntKind.u64.wrap (r+a)=r+a:=wu64 ⟨g.hr.1,by have:=g.hr.2;omega⟩
   rw [e1,e2]
   exact ih _ _ _ g (by have:=h.h1.1;omega)
theorem yNx (W:Int→(Int→Prop)→Prop) {y a c u un:Int} (s v un0:Int) {x0 x1:Int→Int→Int→Int→Int→Int→Int→Int→Int→Bool→Prop}
  (hx:∀ q r b,DG y u un q→x0 y s a c v un un0 q r b) (hx1:∀ q r b,DG y u un q→x1 y s a c v un un0 q r b) (q r:Int) (h:DI y a c u un q r):yjb W x0 x1 3 y s a c v un un0 q r:=by
 have:=yNZ W s v un0 hx hx1 2 q r true h (by have:=h.hr.1;omega)
 unfold ydY at this
 unfold yjb
 exact this
theorem yNy (W:Int→(Int→Prop)→Prop) {y a c u un:Int} (s q1 v:Int) {x0 x1:Int→Int→Int→Int→Int→Int→Int→Int→Int→Bool→Prop}
  (hx:∀ q r b,DG y u un q→x0 y s a c un q1 r v q b) (hx1:∀ q r b,DG y u un q→x1 y s a c un q1 r v q b) (q r:Int) (h:DI y a c u un q r):yfM W x0 x1 3 y s a c un q1 r v q:=by
 have:=yN0 W s q1 v hx hx1 2 q r true h (by have:=h.hr.1;omega)
 unfold ydZ at this
 unfold yfM
 exact this
theorem DI.init {y a b u un:Int} (hy:y=a*4294967296+b) (h1:2147483648≤a∧a≤4294967295) (h0:0≤b∧b≤4294967295) (hn:0≤un∧un≤4294967295)
  (hu:0≤u) (hlt:u<y):DI y a b u un (u / a) (u-u / a*a):=by
 have a1:=Int.mul_ediv_add_emod u a
 have a2:=Int.emod_nonneg u (show a≠0 by omega)
 have a3:=Int.emod_lt_of_pos u (show 0<a by omega)
 have a4:u / a*a=a*(u / a):=Int.mul_comm _ _
 have a5:0≤u / a:=Int.ediv_nonneg hu (by omega)
 have a6:u / a≤4294967297:=by
  refine Int.not_lt.1 fun hc=>?_
  have:a*4294967298≤a*(u / a):=qB6 (by omega) (by omega)
  omega
 refine ⟨hy,h1,h0,hn,by omega,⟨a5,a6⟩,⟨by omega,by omega⟩,hlt,?_⟩
 have e:(u / a+1)*y=a*(u / a)*4294967296+a*4294967296+(u / a+1)*b:=by
  obtain ⟨t,ht⟩:∃ t,t=u / a:=⟨_,rfl⟩
  rw [← ht,hy];grind
 have:0≤(u / a+1)*b:=qBc (by omega) h0.1
 omega
theorem yN1 {a b:Int} {k:Nat} (ha:0≤a) (hb:0≤b∧b<2 ^ k) (hab:a*2 ^ k≤18446744073709551615∧b≤18446744073709551615) (hs:a*2 ^ k+b≤18446744073709551615) :
  IntKind.u64.wrap (BitVec.ofInt IntKind.u64.bits (a*2 ^ k)|||BitVec.ofInt IntKind.u64.bits b).toNat=a*2 ^ k+b:=by
 obtain ⟨x,rfl⟩:∃ x:Nat,a=x:=⟨a.toNat,by omega⟩
 obtain ⟨z,rfl⟩:∃ z:Nat,b=z:=⟨b.toNat,by omega⟩
 have ec:((x:Int)*2 ^ k)=((2 ^ k*x:Nat):Int):=by push_cast;exact Int.mul_comm _ _
 rw [ec] at hab hs ⊢
 have hz:z<2 ^ k:=by have:=hb.2;exact_mod_cast this
 have e:(BitVec.ofInt IntKind.u64.bits ((2 ^ k*x:Nat):Int)|||BitVec.ofInt IntKind.u64.bits (z:Int)).toNat=2 ^ k*x+z:=by
  show (BitVec.ofInt 64 ((2 ^ k*x:Nat):Int)|||BitVec.ofInt 64 (z:Int)).toNat=_
  rw [BitVec.toNat_or,BitVec.toNat_ofInt,BitVec.toNat_ofInt]
  have e1:(((2 ^ k*x:Nat):Int) % (2 ^ 64:Nat)).toNat=2 ^ k*x:=by omega
  have e2:((z:Int) % (2 ^ 64:Nat)).toNat=z:=by omega
  rw [e1,e2,Nat.two_pow_add_eq_or_of_lt hz]
 rw [e,wu64 ⟨by omega,by omega⟩]
 push_cast;rfl
theorem yIH {u un q y:Int} (h0:0≤u*4294967296+un-q*y) (h1:u*4294967296+un-q*y≤18446744073709551615) :
  IntKind.u64.wrap (IntKind.u64.wrap (IntKind.u64.wrap (u*4294967296)+un)-IntKind.u64.wrap (q*y))=u*4294967296+un-q*y:=by
 simp only [yys]
 omega
theorem ynC {a b:Int} (h:0≤a):Int.tdiv a b=a / b:=Int.tdiv_eq_ediv_of_nonneg h
theorem yMX {a b:Int} (h:0≤a):Int.tmod a b=a % b:=Int.tmod_eq_emod_of_nonneg h
theorem yGy {h l y:Int} (hh:U64 h) (hl:U64 l) (hy:U64 y) (hlt:h<y) {K:Int→Int→Prop}
  (k:K ((h*18446744073709551616+l) / y) ((h*18446744073709551616+l) % y)):yhs h l y K:=by
 unfold U64 at hh hl hy
 unfold yhs ytr
 have b1:(y ==(0:Int))=false:=beq_eq_false_iff_ne.2 (by omega)
 have b2:decide (y≤h)=false:=decide_eq_false (by omega)
 have b3:(!(decide (y=(0:Int))))=true:=by rw [decide_eq_false (by omega)];rfl
 rw [b1,yae,b2,yae,b3]
 by_cases h0:h=0
 ·subst h0
  have:((0:Int) == 0)=true:=rfl
  rw [this,yas,yaO,yaO,ynC hl.1,yMX hl.1]
  have e:(0:Int)*18446744073709551616+l=l:=by omega
  rw [e] at k
  have b4:l / y≤l:=Int.ediv_le_self _ hl.1
  rw [wu64 ⟨Int.ediv_nonneg hl.1 (by omega),by omega⟩]
  exact k
 ·have b4:(h ==(0:Int))=false:=beq_eq_false_iff_ne.2 h0
  rw [b4,yae]
  refine yv9 ⟨by omega,by omega⟩ ?_
  have hyn:y.toNat≠0:=by omega
  have c1:=yIG y.toNat
  have c2:=yzz hyn
  have c3:blen y.toNat≤64:=by
   refine Nat.le_of_not_lt fun hc=>?_
   have:=Nat.pow_le_pow_right (show 0<2 by omega) (show 64≤blen y.toNat-1 by omega)
   omega
  have c4:1≤blen y.toNat:=by
   refine Nat.le_of_not_lt fun hc=>?_
   have:blen y.toNat=0:=by omega
   rw [this] at c1
   omega
  obtain ⟨m,hm⟩:∃ m,m=64-blen y.toNat:=⟨_,rfl⟩
  have es:(64-(blen y.toNat:Int))=(m:Int):=by omega
  rw [es]
  have m63:m≤63:=by omega
  have e1:IntKind.u64.wrap (m:Int)=m:=wu64 ⟨by omega,by omega⟩
  have e2:IntKind.u64.wrap ((64:Int)-m)=((64-m:Nat):Int):=by
   rw [wu64 ⟨by omega,by omega⟩];omega
  have e3:min ((m:Int)).toNat IntKind.u64.bits=m:=by
   show min ((m:Int)).toNat 64=m
   rw [qAg];omega
  have e4:min (((64-m:Nat):Int)).toNat IntKind.u64.bits=64-m:=by
   show min (((64-m:Nat):Int)).toNat 64=64-m
   rw [qAg];omega
  simp only [e1]
  rw [e2,e3,e4]
  have p64:(2:Int) ^ (64-m)*2 ^ m=18446744073709551616:=by
   rw [← Int.pow_add,show 64-m+m=64 by omega];rfl
  have p63:(2:Int) ^ (63-m)*2 ^ m=9223372036854775808:=by
   rw [← Int.pow_add,show 63-m+m=63 by omega];rfl
  have tp:(0:Int)<2 ^ m:=Int.pow_pos (by omega)
  have tp':(0:Int)<2 ^ (64-m):=Int.pow_pos (by omega)
  have y1:y<(2:Int) ^ (64-m):=by
   have:blen y.toNat=64-m:=by omega
   rw [this] at c1
   have c1':((y.toNat:Nat):Int)<((2 ^ (64-m):Nat):Int):=by exact_mod_cast c1
   push_cast at c1'
   omega
  have y2:(2:Int) ^ (63-m)≤y:=by
   have:blen y.toNat-1=63-m:=by omega
   rw [this] at c2
   have c2':((2 ^ (63-m):Nat):Int)≤((y.toNat:Nat):Int):=by exact_mod_cast c2
   push_cast at c2'
   omega
  have Y1:y*2 ^ m<18446744073709551616:=by
   have:=Int.mul_lt_mul_of_pos_right y1 tp
   omega
  have Y2:9223372036854775808≤y*2 ^ m:=by
   have:=qAh y2 (show (0:Int)≤2 ^ m by omega)
   omega
  have H1:(h+1)*2 ^ m≤y*2 ^ m:=qAh (by omega) (by omega)
  have H2:(h+1)*2 ^ m=h*2 ^ m+2 ^ m:=by grind
  have H0:0≤h*2 ^ m:=qBc hh.1 (by omega)
  have fd:Int.fdiv l (2 ^ (64-m))=l / 2 ^ (64-m):=yBC _ _ (by omega)
  have L1:=Int.mul_ediv_add_emod l (2 ^ (64-m))
  have L2:=Int.emod_nonneg l (show (2:Int) ^ (64-m)≠0 by omega)
  have L3:=Int.emod_lt_of_pos l tp'
  have L4:0≤l / 2 ^ (64-m):=Int.ediv_nonneg hl.1 (by omega)
  have L5:l / 2 ^ (64-m)<2 ^ m:=by
   refine Int.ediv_lt_of_lt_mul tp' ?_
   rw [Int.mul_comm,p64];omega
  have w1:IntKind.u64.wrap (y*2 ^ m)=y*2 ^ m:=wu64 ⟨by omega,by omega⟩
  have w2:IntKind.u64.wrap (h*2 ^ m)=h*2 ^ m:=wu64 ⟨by omega,by omega⟩
  have w3:IntKind.u64.wrap (BitVec.ofInt IntKind.u64.bits (h*2 ^ m)|||BitVec.ofInt IntKind.u64.bits (l / 2 ^ (64-m))).toNat=h*2 ^ m+l / 2 ^ (64-m) :=
   yN1 hh.1 ⟨L4,L5⟩ ⟨by omega,by omega⟩ (by omega)
  have w4:IntKind.u64.wrap (l*2 ^ m)=l % 2 ^ (64-m)*2 ^ m:=by
   have e:l*2 ^ m=(l / 2 ^ (64-m))*18446744073709551616+l % 2 ^ (64-m)*2 ^ m:=by
    rw [← p64]
    obtain ⟨a,ha⟩:∃ a,a=l / 2 ^ (64-m):=⟨_,rfl⟩
    obtain ⟨b,hb⟩:∃ b,b=l % 2 ^ (64-m):=⟨_,rfl⟩
    obtain ⟨t,ht⟩:∃ t,t=(2:Int) ^ m:=⟨_,rfl⟩
    obtain ⟨t',ht'⟩:∃ t,t=(2:Int) ^ (64-m):=⟨_,rfl⟩
    rw [← ha,← hb,← ht'] at L1
    rw [← ha,← hb,← ht,← ht']
    rw [← L1];grind
   have e5:l % 2 ^ (64-m)*2 ^ m<18446744073709551616:=by
    rw [← p64];exact Int.mul_lt_mul_of_pos_right L3 tp
   have e6:0≤l % 2 ^ (64-m)*2 ^ m:=qBc L2 (by omega)
   rw [e,yys];omega
  have e5:l % 2 ^ (64-m)*2 ^ m<18446744073709551616:=by
   rw [← p64];exact Int.mul_lt_mul_of_pos_right L3 tp
  have e6:0≤l % 2 ^ (64-m)*2 ^ m:=qBc L2 (by omega)
  have eN:(h*18446744073709551616+l)*2 ^ m=(h*2 ^ m+l / 2 ^ (64-m))*18446744073709551616+l % 2 ^ (64-m)*2 ^ m:=by
   rw [← p64]
   obtain ⟨a,ha⟩:∃ a,a=l / 2 ^ (64-m):=⟨_,rfl⟩
   obtain ⟨b,hb⟩:∃ b,b=l % 2 ^ (64-m):=⟨_,rfl⟩
   obtain ⟨t,ht⟩:∃ t,t=(2:Int) ^ m:=⟨_,rfl⟩
   obtain ⟨t',ht'⟩:∃ t,t=(2:Int) ^ (64-m):=⟨_,rfl⟩
   rw [← ha,← hb,← ht'] at L1
   rw [← ha,← hb,← ht,← ht']
   rw [← L1];grind
  have U1:h*2 ^ m+l / 2 ^ (64-m)<y*2 ^ m:=by omega
  have U0:0≤h*2 ^ m+l / 2 ^ (64-m):=by omega
  rw [fd,w1,w2,w3,w4]
  have b5:(!(decide ((m:Int)<0)))=true:=by rw [decide_eq_false (by omega)];rfl
  have b6:(!(decide (((64-m:Nat):Int)<0)))=true:=by rw [decide_eq_false (by omega)];rfl
  rw [b5,b6,yaO,yaO,yaO,yaO]
  generalize h*2 ^ m+l / 2 ^ (64-m)=u at *
  generalize hl0:l % 2 ^ (64-m)*2 ^ m=v at *
  generalize hY:y*2 ^ m=Y at *
  rw [yBC Y _ (by omega),yBC v _ (by omega),yBB ⟨by omega,by omega⟩,yBB ⟨by omega,by omega⟩,ynC U0]
  have b7:(!(decide (Y / 4294967296=(0:Int))))=true:=by rw [decide_eq_false (by omega)];rfl
  rw [b7,yaO]
  obtain ⟨c,hyn1⟩:∃ a,a=Y / 4294967296:=⟨_,rfl⟩
  obtain ⟨d,hyn0⟩:∃ a,a=Y % 4294967296:=⟨_,rfl⟩
  obtain ⟨un1,hun1⟩:∃ a,a=v / 4294967296:=⟨_,rfl⟩
  obtain ⟨un0,hun0⟩:∃ a,a=v % 4294967296:=⟨_,rfl⟩
  rw [← hyn1,← hyn0,← hun1,← hun0]
  have d1:2147483648≤c∧c≤4294967295:=by omega
  have d0:0≤d∧d≤4294967295:=by omega
  have dn1:0≤un1∧un1≤4294967295:=by omega
  have dn0:0≤un0∧un0≤4294967295:=by omega
  have dY:Y=c*4294967296+d:=by omega
  have g1:=DI.init dY d1 d0 dn1 U0 U1
  have x1:IntKind.u64.wrap (u / c)=u / c:=wu64 ⟨g1.hq.1,by have:=g1.hq.2;omega⟩
  have x2:IntKind.u64.wrap (u-IntKind.u64.wrap (u / c*c))=u-u / c*c:=by
   have r1:=g1.hr.1
   have r2:0≤u / c*c:=qBc g1.hq.1 (by omega)
   have r3:=g1.hr.2
   rw [wu64 (n:=u / c*c) ⟨r2,by omega⟩,wu64 ⟨r1,by omega⟩]
  rw [x1,x2]
  have fin:∀ q1:Int,DG Y u un1 q1→∀ (un21:Int),un21=u*4294967296+un1-q1*Y→∀ q0,DG Y un21 un0 q0 →
    K (IntKind.u64.wrap ((IntKind.u64.wrap (q1*(4294967296:Int)))+q0)) (Int.fdiv (IntKind.u64.wrap ((IntKind.u64.wrap ((IntKind.u64.wrap (un21*(4294967296:Int)))+un0))-(IntKind.u64.wrap (q0*Y)))) (2 ^ (min ((m:Int)).toNat IntKind.u64.bits))):=by
   intro q1 G1 un21 e21 q0 G0
   obtain ⟨a1,a2,a3,a4⟩:=G1
   obtain ⟨c1,c2,c3,c4⟩:=G0
   have s1:(q1+1)*Y=q1*Y+Y:=by grind
   have s0:(q0+1)*Y=q0*Y+Y:=by grind
   have w5:IntKind.u64.wrap (q1*4294967296)=q1*4294967296:=wu64 ⟨by omega,by omega⟩
   have w6:IntKind.u64.wrap (q1*4294967296+q0)=q1*4294967296+q0:=wu64 ⟨by omega,by omega⟩
   rw [yIH (by omega) (by omega),w5,w6,e3,yBC _ _ (by omega)]
   have eT:un21*4294967296+un0-q0*Y=(h*18446744073709551616+l-(q1*4294967296+q0)*y)*2 ^ m:=by
    have f1:(q1*4294967296+q0)*Y=q1*Y*4294967296+q0*Y:=by grind
    have f2:(h*18446744073709551616+l-(q1*4294967296+q0)*y)*2 ^ m=(h*18446744073709551616+l)*2 ^ m-(q1*4294967296+q0)*Y:=by
     rw [← hY,Int.sub_mul,Int.mul_assoc (q1*4294967296+q0)]
    rw [f2,f1,eN]
    omega
   rw [eT,Int.mul_ediv_cancel _ (by omega)]
   have r0:0≤h*18446744073709551616+l-(q1*4294967296+q0)*y:=by
    refine Int.not_lt.1 fun hc=>?_
    have:=Int.mul_neg_of_neg_of_pos hc tp
    omega
   have r1:h*18446744073709551616+l-(q1*4294967296+q0)*y<y:=by
    refine Int.not_le.1 fun hc=>?_
    have:=qAh hc (show (0:Int)≤2 ^ m by omega)
    omega
   obtain ⟨Q,hQ⟩:∃ Q,Q=q1*4294967296+q0:=⟨_,rfl⟩
   rw [← hQ] at r0 r1 ⊢
   have z1:(h*18446744073709551616+l) / y=Q:=by
    have:h*18446744073709551616+l=(h*18446744073709551616+l-Q*y)+Q*y:=by omega
    rw [this,Int.add_mul_ediv_right _ _ (by omega),Int.ediv_eq_zero_of_lt r0 r1];omega
   have z2:(h*18446744073709551616+l) % y=h*18446744073709551616+l-Q*y:=by
    have:=Int.mul_ediv_add_emod (h*18446744073709551616+l) y
    rw [z1,Int.mul_comm] at this
    omega
   rw [z1,z2] at k
   exact k
  have mid:∀ q:Int,DG Y u un1 q→∀ (X:Int→Int→Int→Int→Int→Int→Int→Int→Int→Bool→Prop),(∀ q0 r0 b0,DG Y (u*4294967296+un1-q*Y) un0 q0→X Y m c d un0 q r0 (u*4294967296+un1-q*Y) q0 b0) →
    asr (!(decide (c=(0:Int)))) (∃ n:Nat,yfM yci X X n Y m c d un0 q ((IntKind.u64.wrap ((IntKind.u64.wrap ((IntKind.u64.wrap ((IntKind.u64.wrap (u*(4294967296:Int)))+un1))-(IntKind.u64.wrap (q*Y))))-(IntKind.u64.wrap ((IntKind.u64.wrap (Int.tdiv (IntKind.u64.wrap ((IntKind.u64.wrap ((IntKind.u64.wrap (u*(4294967296:Int)))+un1))-(IntKind.u64.wrap (q*Y)))) c))*c))))) (IntKind.u64.wrap ((IntKind.u64.wrap ((IntKind.u64.wrap (u*(4294967296:Int)))+un1))-(IntKind.u64.wrap (q*Y)))) (IntKind.u64.wrap (Int.tdiv (IntKind.u64.wrap ((IntKind.u64.wrap ((IntKind.u64.wrap (u*(4294967296:Int)))+un1))-(IntKind.u64.wrap (q*Y)))) c))):=by
   intro q G X hX
   obtain ⟨a1,a2,a3,a4⟩:=G
   have s1:(q+1)*Y=q*Y+Y:=by grind
   have b8:(!(decide (c=(0:Int))))=true:=by rw [decide_eq_false (by omega)];rfl
   rw [b8,yaO,yIH (by omega) (by omega),ynC (by omega)]
   have g0:=DI.init dY d1 d0 dn0 (u:=u*4294967296+un1-q*Y) (by omega) (by omega)
   generalize u*4294967296+un1-q*Y=u2 at *
   have x1:IntKind.u64.wrap (u2 / c)=u2 / c:=wu64 ⟨g0.hq.1,by have:=g0.hq.2;omega⟩
   have x2:IntKind.u64.wrap (u2-IntKind.u64.wrap (u2 / c*c))=u2-u2 / c*c:=by
    have r1:=g0.hr.1
    have r2:0≤u2 / c*c:=qBc g0.hq.1 (by omega)
    have r3:=g0.hr.2
    have r4:=g0.hlt
    rw [wu64 (n:=u2 / c*c) ⟨r2,by omega⟩,wu64 ⟨r1,by omega⟩]
   rw [x1,x2]
   exact ⟨3,yNy _ _ _ _ (fun q0 r0 b0 g=>hX q0 r0 b0 g) (fun q0 r0 b0 g=>hX q0 r0 b0 g) _ _ g0⟩
  have leaf:∀ {P:Prop},P→asr (!(decide ((m:Int)<0))) P:=fun p=>by rw [b5,yaO];exact p
  refine ⟨3,yNx _ _ _ _ (fun q r b G=>?_) (fun q r b G=>?_) _ _ g1⟩
  ·exact mid q G _ (fun q0 r0 b0 G0=>leaf (fin q G _ rfl q0 G0))
  ·exact mid q G _ (fun q0 r0 b0 G0=>leaf (fin q G _ rfl q0 G0))
theorem yK8 {h l y:Int} (hh:U64 h) (hl:U64 l) (hy:U64 y) (h0:0<y) {K:Int→Prop}
  (k:K ((h*18446744073709551616+l) % y)):yiC h l y K:=by
 unfold yiC ytt
 have b3:(!(decide (y=(0:Int))))=true:=by rw [decide_eq_false (by omega)];rfl
 have a1:=Int.emod_nonneg h (show y≠0 by omega)
 have a2:=Int.emod_lt_of_pos h h0
 have hh':=hh
 unfold U64 at hh hy
 rw [b3,yaO,yMX hh.1]
 refine yGy ⟨a1,by omega⟩ hl ⟨by omega,by omega⟩ a2 ?_
 have e:(h % y*18446744073709551616+l) % y=(h*18446744073709551616+l) % y:=by
  rw [Int.add_emod,Int.mul_emod,Int.emod_emod,← Int.mul_emod,← Int.add_emod]
 rw [e]
 exact k
def outS (s:Bool) (a b:Int) (K:Int→Int→Int→Prop):Prop :=
 if a≤1000000000000000000∧b≤1000000000000000000 then K (if s then -a else a) b 0 else K 0 0 16
theorem yrg {s:Bool} {a b:Int} (ha:0≤a) (hb:0≤b) (K:Int→Int→Int→Prop):ycY s a b K=outS s a b K:=by
 unfold ycY yjC outS
 by_cases h:a≤1000000000000000000∧b≤1000000000000000000
 ·have e:decide ((if b>a then b else a)>(1000000000000000000:Int))=false:=by
   refine decide_eq_false ?_
   split <;> omega
  have w1:IntKind.i64.wrap a=a:=wi64 ⟨by omega,by omega⟩
  have w2:IntKind.i64.wrap b=b:=wi64 ⟨by omega,by omega⟩
  have w3:IntKind.i64.wrap (0-a)=-a:=by rw [wi64 ⟨by omega,by omega⟩];omega
  rw [e,yae,if_pos h,w1,w2,w3]
  cases s
  ·rfl
  ·rfl
 ·have e:decide ((if b>a then b else a)>(1000000000000000000:Int))=true:=by
   refine decide_eq_true ?_
   split <;> omega
  rw [e,yas,if_neg h]
theorem Make_of {n d:Int} (hn:I64 n) (hd:I64 d) {K:Int→Int→Int→Prop}
  (k:if d=0 then K 0 0 18 else outS (decide (n<0) != decide (d<0)) ((n.natAbs / Nat.gcd n.natAbs d.natAbs:Nat):Int) ((d.natAbs / Nat.gcd n.natAbs d.natAbs:Nat):Int) K):yap n d K:=by
 unfold yap ymp
 by_cases h:d=0
 ·rw [if_pos h] at k
  have:(d ==(0:Int))=true:=beq_iff_eq.2 h
  rw [this,yas]
  exact k
 ·rw [if_neg h] at k
  have:(d ==(0:Int))=false:=beq_eq_false_iff_ne.2 h
  rw [this,yae,yji hn,yji hd]
  refine yxP _ _ _ ?_
  have gp:0<Nat.gcd n.natAbs d.natAbs:=qCa _ (by omega)
  have b3:(!(decide (((Nat.gcd n.natAbs d.natAbs:Nat):Int)=(0:Int))))=true:=by rw [decide_eq_false (by omega)];rfl
  unfold I64 at hn hd
  have u1:n.natAbs / Nat.gcd n.natAbs d.natAbs≤n.natAbs:=Nat.div_le_self _ _
  have u2:d.natAbs / Nat.gcd n.natAbs d.natAbs≤d.natAbs:=Nat.div_le_self _ _
  rw [b3,yaO,yaO,ynC (by omega),ynC (by omega),← qB5,← qB5]
  generalize n.natAbs / Nat.gcd n.natAbs d.natAbs=A at *
  generalize d.natAbs / Nat.gcd n.natAbs d.natAbs=B at *
  rw [wu64 (n:=(A:Int)) ⟨by omega,by omega⟩,wu64 (n:=(B:Int)) ⟨by omega,by omega⟩,yrg (by omega) (by omega)]
  exact k
def numM (a c:Int) (b d:Int):Nat:=(a.natAbs / Nat.gcd a.natAbs d.natAbs)*(c.natAbs / Nat.gcd c.natAbs b.natAbs)
def denM (a c:Int) (b d:Int):Nat:=(b.natAbs / Nat.gcd c.natAbs b.natAbs)*(d.natAbs / Nat.gcd a.natAbs d.natAbs)
theorem yHU {a b c d:Int} (ha:I64 a) (hb:I64 b) (hc:I64 c) (hd:I64 d) {K:Int→Int→Int→Prop}
  (k:if chk2 a b c d=0 then outS (decide (a<0) != decide (c<0)) (numM a c b d) (denM a c b d) K else K 0 0 (chk2 a b c d)):ybC a b c d K:=by
 unfold ybC yoc
 refine yqP ha hb hc hd ?_
 by_cases h:chk2 a b c d=0
 ·rw [if_pos h] at k
  have:(chk2 a b c d !=(0:Int))=false:=by rw [h];rfl
  rw [this,yae,yji ha,yji hc]
  obtain ⟨⟨b1,b2,a1,a2,_⟩,d1,d2,c1,c2,_⟩:=yer.1 h
  have wb:IntKind.u64.wrap b=((b.natAbs:Nat):Int):=by rw [wu64 ⟨by omega,by omega⟩];omega
  have wd:IntKind.u64.wrap d=((d.natAbs:Nat):Int):=by rw [wu64 ⟨by omega,by omega⟩];omega
  rw [wb,wd]
  refine yxP _ _ _ (yxP _ _ _ ?_)
  unfold numM denM at k
  have g1:0<Nat.gcd a.natAbs d.natAbs:=qCa _ (by omega)
  have g2:0<Nat.gcd c.natAbs b.natAbs:=qCa _ (by omega)
  obtain ⟨g3,h3⟩:∃ g,g=Nat.gcd a.natAbs d.natAbs:=⟨_,rfl⟩
  obtain ⟨g4,h4⟩:∃ g,g=Nat.gcd c.natAbs b.natAbs:=⟨_,rfl⟩
  rw [← h3,← h4] at k ⊢
  rw [← h3] at g1;rw [← h4] at g2
  have n3:(!(decide ((g3:Int)=(0:Int))))=true:=by rw [decide_eq_false (by omega)];rfl
  have n4:(!(decide ((g4:Int)=(0:Int))))=true:=by rw [decide_eq_false (by omega)];rfl
  rw [n3,n4,yaO,yaO,ynC (by omega),ynC (by omega),ynC (by omega),ynC (by omega),← qB5,← qB5,← qB5,← qB5]
  have q1:a.natAbs / g3≤a.natAbs:=Nat.div_le_self _ _
  have q2:c.natAbs / g4≤c.natAbs:=Nat.div_le_self _ _
  have q3:b.natAbs / g4≤b.natAbs:=Nat.div_le_self _ _
  have q4:d.natAbs / g3≤d.natAbs:=Nat.div_le_self _ _
  generalize a.natAbs / g3=A at *
  generalize c.natAbs / g4=C at *
  generalize b.natAbs / g4=B at *
  generalize d.natAbs / g3=D at *
  rw [wu64 (n:=(A:Int)) ⟨by omega,by omega⟩,wu64 (n:=(C:Int)) ⟨by omega,by omega⟩,wu64 (n:=(B:Int)) ⟨by omega,by omega⟩,wu64 (n:=(D:Int)) ⟨by omega,by omega⟩,
   ylh ⟨by omega,by omega⟩ ⟨by omega,by omega⟩,yaO,yaO,ylh ⟨by omega,by omega⟩ ⟨by omega,by omega⟩]
  have m1:A*C≤1000000000000000000*1000000000000000000:=Nat.mul_le_mul (by omega) (by omega)
  have m2:B*D≤1000000000000000000*1000000000000000000:=Nat.mul_le_mul (by omega) (by omega)
  rw [← Int.natCast_mul,← Int.natCast_mul]
  generalize A*C=M at *
  generalize B*D=N at *
  have wm:IntKind.u64.wrap ((M:Int) / 18446744073709551616+(N:Int) / 18446744073709551616)=(M:Int) / 18446744073709551616+(N:Int) / 18446744073709551616:=wu64 ⟨by omega,by omega⟩
  rw [wm]
  by_cases hb:(M:Int) / 18446744073709551616+(N:Int) / 18446744073709551616>0
  ·rw [decide_eq_true hb,yas]
   unfold outS at k
   rw [if_neg (by omega)] at k
   exact k
  ·rw [decide_eq_false hb,yae]
   have eM:(M:Int) % 18446744073709551616=M:=by omega
   have eN:(N:Int) % 18446744073709551616=N:=by omega
   rw [eM,eN]
   by_cases h0:(M:Int)>0
   ·rw [decide_eq_true h0,yas,yrg (by omega) (by omega)]
    exact k
   ·rw [decide_eq_false h0,yae,yrg (by omega) (by omega)]
    have hz:M=0:=by omega
    subst hz
    unfold outS at k ⊢
    by_cases hN:(N:Int)≤1000000000000000000
    ·rw [if_pos ⟨by omega,hN⟩] at k ⊢
     have e:(if (decide (a<0) != decide (c<0))=true then -((0:Nat):Int) else ((0:Nat):Int))=0:=by split <;> rfl
     rw [e] at k
     exact k
    ·rw [if_neg (by omega)] at k ⊢
     exact k
 ·rw [if_neg h] at k
  have:(chk2 a b c d !=(0:Int))=true:=by rw [bne_iff_ne];exact h
  rw [this,yas]
  exact k
theorem RV.swap {c d:Int} (h:RV c d) (h0:0<c):RV d c:=by
 obtain ⟨d1,d2,c1,c2,g⟩:=h
 exact ⟨by omega,c2,by omega,d2,by rw [Nat.gcd_comm];exact g⟩
theorem RV.swapn {c d:Int} (h:RV c d) (h0:c<0):RV (-d) (-c):=by
 obtain ⟨d1,d2,c1,c2,g⟩:=h
 exact ⟨by omega,by omega,by omega,by omega,by rw [Int.natAbs_neg,Int.natAbs_neg,Nat.gcd_comm];exact g⟩
theorem yNz {a b c d:Int} (ha:I64 a) (hb:I64 b) (hc:I64 c) (hd:I64 d) {K:Int→Int→Int→Prop}
  (k:if chk2 a b c d=0 then (if c=0 then K 0 0 18 else outS (decide (a<0) != decide (c<0)) (numM a d b c) (denM a d b c) K) else K 0 0 (chk2 a b c d)):yaW a b c d K:=by
 unfold yaW yod
 refine yqP ha hb hc hd ?_
 by_cases h:chk2 a b c d=0
 ·rw [if_pos h] at k
  have:(chk2 a b c d !=(0:Int))=false:=by rw [h];rfl
  rw [this,yae]
  obtain ⟨hab,hcd⟩:=yer.1 h
  obtain ⟨d1,d2,c1,c2,_⟩:=id hcd
  by_cases h0:c=0
  ·rw [if_pos h0] at k
   have:(c ==(0:Int))=true:=beq_iff_eq.2 h0
   rw [this,yas]
   exact k
  ·rw [if_neg h0] at k
   have:(c ==(0:Int))=false:=beq_eq_false_iff_ne.2 h0
   rw [this,yae]
   by_cases hn:c<0
   ·rw [decide_eq_true hn] at k
    rw [decide_eq_true hn,yas,wi64 (n:=0-d) ⟨by omega,by omega⟩,wi64 (n:=0-c) ⟨by omega,by omega⟩,Int.zero_sub,Int.zero_sub]
    have e:chk2 a b (-d) (-c)=0:=yer.2 ⟨hab,hcd.swapn hn⟩
    refine yHU ha hb ⟨by omega,by omega⟩ ⟨by omega,by omega⟩ ?_
    rw [if_pos e,decide_eq_true (show -d<0 by omega)]
    unfold numM denM at k ⊢
    rw [Int.natAbs_neg,Int.natAbs_neg]
    exact k
   ·rw [decide_eq_false hn] at k
    rw [decide_eq_false hn,yae]
    have e:chk2 a b d c=0:=yer.2 ⟨hab,hcd.swap (by omega)⟩
    refine yHU ha hb hd hc ?_
    rw [if_pos e,decide_eq_false (show ¬d<0 by omega)]
    exact k
 ·rw [if_neg h] at k
  have:(chk2 a b c d !=(0:Int))=true:=by rw [bne_iff_ne];exact h
  rw [this,yas]
  exact k
theorem yMs {s:Bool} {hi lo p1 p3:Int} {g:Nat} (hh:U64 hi) (hl:U64 lo) (hg:0<g) (g1:(g:Int)≤1000000000000000000)
   (h1:0≤p1∧p1≤1000000000000000000) (h3:0≤p3∧p3≤1000000000000000000) {K:Int→Int→Int→Prop}
   (k:outS s (((hi*18446744073709551616+lo).toNat / Nat.gcd (hi*18446744073709551616+lo).toNat g:Nat):Int)
    (((p1.toNat / g)*(p3.toNat / Nat.gcd (hi*18446744073709551616+lo).toNat g):Nat):Int) K) :
   (yiC hi lo (g:Int) (fun (b:Int) =>
 (yde b (g:Int) (fun (a:Int) =>
 (cbr (decide (hi≥a))
 (K (0:Int) (0:Int) (16:Int))
 (yhs hi lo a (fun (c:Int) (_:Int) =>
 (asr (!(decide ((g:Int)=(0:Int))))
 (asr (!(decide (a=(0:Int))))
 (ygu (IntKind.u64.wrap (Int.tdiv (IntKind.u64.wrap p1) (g:Int))) (IntKind.u64.wrap (Int.tdiv (IntKind.u64.wrap p3) a)) (fun (d:Int) (e:Int) =>
 (cbr (decide (d>(0:Int)))
 (K (0:Int) (0:Int) (16:Int))
 (ycY s c e (fun (f:Int) (h:Int) (i:Int) =>
 (K f h i))))))))))))))):=by
  unfold U64 at hh hl
  obtain ⟨X,hX⟩:∃ X:Nat,X=(hi*18446744073709551616+lo).toNat:=⟨_,rfl⟩
  have eX:hi*18446744073709551616+lo=(X:Int):=by omega
  rw [← hX] at k
  refine yK8 hh hl ⟨by omega,by omega⟩ (by omega) ?_
  rw [eX,← Int.natCast_emod]
  refine yxP _ _ _ ?_
  have eg:Nat.gcd (X % g) g=Nat.gcd X g:=by rw [Nat.gcd_comm,Nat.gcd_comm X,Nat.gcd_rec g X,Nat.gcd_comm]
  rw [eg]
  have gp:0<Nat.gcd X g:=qCa _ hg
  have gl:Nat.gcd X g≤g:=Nat.le_of_dvd hg (Nat.gcd_dvd_right _ _)
  generalize Nat.gcd X g=G at *
  by_cases hb:hi≥(G:Int)
  ·rw [decide_eq_true hb,yas]
   unfold outS at k
   have:18446744073709551616≤X / G:=by
    rw [Nat.le_div_iff_mul_le gp]
    omega
   rw [if_neg (by omega)] at k
   exact k
  ·rw [decide_eq_false hb,yae]
   refine yGy hh hl ⟨by omega,by omega⟩ (by omega) ?_
   rw [eX]
   have n3:(!(decide ((g:Int)=(0:Int))))=true:=by rw [decide_eq_false (by omega)];rfl
   have n4:(!(decide ((G:Int)=(0:Int))))=true:=by rw [decide_eq_false (by omega)];rfl
   have e1:IntKind.u64.wrap p1=(p1.toNat:Int):=by rw [wu64 ⟨by omega,by omega⟩];omega
   have e3:IntKind.u64.wrap p3=(p3.toNat:Int):=by rw [wu64 ⟨by omega,by omega⟩];omega
   rw [n3,n4,yaO,yaO,e1,e3,ynC (by omega),ynC (by omega),← qB5,← qB5,← qB5]
   have q1:p1.toNat / g≤p1.toNat:=Nat.div_le_self _ _
   have q3:p3.toNat / G≤p3.toNat:=Nat.div_le_self _ _
   generalize p1.toNat / g=A at *
   generalize p3.toNat / G=B at *
   generalize X / G=N at *
   rw [wu64 (n:=(A:Int)) ⟨by omega,by omega⟩,wu64 (n:=(B:Int)) ⟨by omega,by omega⟩,ylh ⟨by omega,by omega⟩ ⟨by omega,by omega⟩,← Int.natCast_mul]
   generalize A*B=D at *
   by_cases hd:((D:Int) / 18446744073709551616)>0
   ·rw [decide_eq_true hd,yas]
    unfold outS at k
    rw [if_neg (by omega)] at k
    exact k
   ·rw [decide_eq_false hd,yae]
    have eD:(D:Int) % 18446744073709551616=D:=by omega
    rw [eD,yrg (by omega) (by omega)]
    exact k
theorem yGz {p q c:Int} {K:Int→Int→Prop} (hc:c.toNat≤1) (k:K (((p.toNat+q.toNat+c.toNat) % 18446744073709551616:Nat):Int) (((p.toNat+q.toNat+c.toNat) / 18446744073709551616:Nat):Int)):ykh p q c K:=by
 unfold ykh
 rw [decide_eq_true hc,yaO]
 exact k
theorem yGA {p q c:Int} {K:Int→Int→Prop} (hc:c.toNat≤1) (k:K (((p.toNat+18446744073709551616-q.toNat-c.toNat) % 18446744073709551616:Nat):Int) ((if q.toNat+c.toNat≤p.toNat then 0 else 1:Nat):Int)):yki p q c K:=by
 unfold yki
 rw [decide_eq_true hc,yaO]
 have e:(bif Nat.ble (q.toNat+c.toNat) p.toNat then 0 else 1:Nat)=(if q.toNat+c.toNat≤p.toNat then 0 else 1:Nat):=by
  by_cases h:q.toNat+c.toNat≤p.toNat
  ·rw [if_pos h,show Nat.ble (q.toNat+c.toNat) p.toNat=true from Nat.ble_eq_true_of_le h];rfl
  ·rw [if_neg h]
   cases hb:Nat.ble (q.toNat+c.toNat) p.toNat
   ·rfl
   ·exact absurd (Nat.le_of_ble_eq_true hb) h
 rw [e]
 exact k
theorem yK9 {X Y:Int} (hx:0≤X) (hy:0≤Y) (hs:X+Y<340282366920938463463374607431768211456) {F:Int→Int→Int→Int→Prop}
  (h:∀ c1 c2,F ((X+Y) % 18446744073709551616) c1 ((X+Y) / 18446744073709551616) c2) :
  ykh (X % 18446744073709551616) (Y % 18446744073709551616) 0 (fun lo c1=>ykh (X / 18446744073709551616) (Y / 18446744073709551616) c1 (fun hi c2=>F lo c1 hi c2)):=by
 obtain ⟨x,rfl⟩:∃ x:Nat,X=x:=⟨X.toNat,by omega⟩
 obtain ⟨y,rfl⟩:∃ y:Nat,Y=y:=⟨Y.toNat,by omega⟩
 refine yGz (by decide) (yGz (by omega) ?_)
 have e1:(((((x:Int) % 18446744073709551616).toNat+((y:Int) % 18446744073709551616).toNat+(0:Int).toNat) % 18446744073709551616:Nat):Int)=((x:Int)+y) % 18446744073709551616:=by omega
 have e2:(((((x:Int) / 18446744073709551616).toNat+((y:Int) / 18446744073709551616).toNat+(((((x:Int) % 18446744073709551616).toNat+((y:Int) % 18446744073709551616).toNat+(0:Int).toNat) / 18446744073709551616:Nat):Int).toNat) % 18446744073709551616:Nat):Int)=((x:Int)+y) / 18446744073709551616:=by omega
 rw [e1,e2]
 exact h _ _
theorem ywa {X Y:Int} (hy:0≤Y) (hxy:Y≤X) (hs:X<340282366920938463463374607431768211456) {F:Int→Int→Int→Int→Prop}
  (h:∀ c1 c2,F ((X-Y) % 18446744073709551616) c1 ((X-Y) / 18446744073709551616) c2) :
  yki (X % 18446744073709551616) (Y % 18446744073709551616) 0 (fun lo c1=>yki (X / 18446744073709551616) (Y / 18446744073709551616) c1 (fun hi c2=>F lo c1 hi c2)):=by
 obtain ⟨x,rfl⟩:∃ x:Nat,X=x:=⟨X.toNat,by omega⟩
 obtain ⟨y,rfl⟩:∃ y:Nat,Y=y:=⟨Y.toNat,by omega⟩
 refine yGA (by decide) (yGA (by split <;> omega) ?_)
 have e1:(((((x:Int) % 18446744073709551616).toNat+18446744073709551616-((y:Int) % 18446744073709551616).toNat-(0:Int).toNat) % 18446744073709551616:Nat):Int)=((x:Int)-y) % 18446744073709551616:=by omega
 rw [e1]
 by_cases hb:((y:Int) % 18446744073709551616).toNat+(0:Int).toNat≤((x:Int) % 18446744073709551616).toNat
 ·rw [if_pos hb]
  have e2:(((((x:Int) / 18446744073709551616).toNat+18446744073709551616-((y:Int) / 18446744073709551616).toNat-((0:Nat):Int).toNat) % 18446744073709551616:Nat):Int)=((x:Int)-y) / 18446744073709551616:=by omega
  rw [e2]
  exact h _ _
 ·rw [if_neg hb]
  have e2:(((((x:Int) / 18446744073709551616).toNat+18446744073709551616-((y:Int) / 18446744073709551616).toNat-((1:Nat):Int).toNat) % 18446744073709551616:Nat):Int)=((x:Int)-y) / 18446744073709551616:=by omega
  rw [e2]
  exact h _ _
def outA (s:Bool) (Z p1 p3:Int) (g:Nat) (K:Int→Int→Int→Prop):Prop :=
 if Z=0 then K 0 1 0 else outS s ((Z.toNat / Nat.gcd Z.toNat g:Nat):Int) (((p1.toNat / g)*(p3.toNat / Nat.gcd Z.toNat g):Nat):Int) K
theorem yBD {s:Bool} {Z p1 p3:Int} {g:Nat} (hz:0≤Z) (hz2:Z<340282366920938463463374607431768211456) (hg:0<g) (g1:(g:Int)≤1000000000000000000)
   (h1:0≤p1∧p1≤1000000000000000000) (h3:0≤p3∧p3≤1000000000000000000) {K:Int→Int→Int→Prop}
   (k:outA s Z p1 p3 g K) :
   cbr (Z / 18446744073709551616 ==(0:Int)) (cbr (Z % 18446744073709551616 ==(0:Int)) (K 0 1 0) (yiC (Z / 18446744073709551616) (Z % 18446744073709551616) (g:Int) (fun (b:Int) =>
 (yde b (g:Int) (fun (a:Int) =>
 (cbr (decide ((Z / 18446744073709551616)≥a))
 (K (0:Int) (0:Int) (16:Int))
 (yhs (Z / 18446744073709551616) (Z % 18446744073709551616) a (fun (c:Int) (_:Int) =>
 (asr (!(decide ((g:Int)=(0:Int))))
 (asr (!(decide (a=(0:Int))))
 (ygu (IntKind.u64.wrap (Int.tdiv (IntKind.u64.wrap p1) (g:Int))) (IntKind.u64.wrap (Int.tdiv (IntKind.u64.wrap p3) a)) (fun (d:Int) (e:Int) =>
 (cbr (decide (d>(0:Int)))
 (K (0:Int) (0:Int) (16:Int))
 (ycY s c e (fun (f:Int) (h:Int) (i:Int) =>
 (K f h i)))))))))))))))) (yiC (Z / 18446744073709551616) (Z % 18446744073709551616) (g:Int) (fun (b:Int) =>
 (yde b (g:Int) (fun (a:Int) =>
 (cbr (decide ((Z / 18446744073709551616)≥a))
 (K (0:Int) (0:Int) (16:Int))
 (yhs (Z / 18446744073709551616) (Z % 18446744073709551616) a (fun (c:Int) (_:Int) =>
 (asr (!(decide ((g:Int)=(0:Int))))
 (asr (!(decide (a=(0:Int))))
 (ygu (IntKind.u64.wrap (Int.tdiv (IntKind.u64.wrap p1) (g:Int))) (IntKind.u64.wrap (Int.tdiv (IntKind.u64.wrap p3) a)) (fun (d:Int) (e:Int) =>
 (cbr (decide (d>(0:Int)))
 (K (0:Int) (0:Int) (16:Int))
 (ycY s c e (fun (f:Int) (h:Int) (i:Int) =>
 (K f h i))))))))))))))):=by
  unfold outA at k
  have eZ:Z / 18446744073709551616*18446744073709551616+Z % 18446744073709551616=Z:=by omega
  by_cases h0:Z=0
  ·rw [if_pos h0] at k
   subst h0
   have e1:((0:Int) / 18446744073709551616 ==(0:Int))=true:=by decide
   have e2:((0:Int) % 18446744073709551616 ==(0:Int))=true:=by decide
   rw [e1,yas,e2,yas]
   exact k
  ·rw [if_neg h0] at k
   have t:=yMs (s:=s) (hi:=Z / 18446744073709551616) (lo:=Z % 18446744073709551616) (p1:=p1) (p3:=p3) (g:=g) (K:=K) ⟨by omega,by omega⟩ ⟨by omega,by omega⟩ hg g1 h1 h3 (by rw [eZ];exact k)
   cases h4:(Z / 18446744073709551616 ==(0:Int))
   ·rw [yae];exact t
   ·rw [yas]
    cases h2:(Z % 18446744073709551616 ==(0:Int))
    ·rw [yae];exact t
    ·have:=beq_iff_eq.1 h2
     have:=beq_iff_eq.1 h4
     exact absurd (show Z=0 by omega) h0
theorem yt6 {s s':Bool} {Z Z' p1 p3:Int} {g:Nat} {K:Int→Int→Int→Prop} (k:outA s' Z' p1 p3 g K) (hz:Z=Z') (hs:Z≠0→s=s'):outA s Z p1 p3 g K:=by
 subst hz
 unfold outA at k ⊢
 by_cases h:Z=0
 ·rw [if_pos h] at k ⊢;exact k
 ·rw [if_neg h] at k ⊢;rw [hs h];exact k
theorem yLa {a b c d:Int} (ha:I64 a) (hb:I64 b) (hc:I64 c) (hd:I64 d) {K:Int→Int→Int→Prop}
  (k:if chk2 a b c d=0 then outA (decide (a*(d / (Nat.gcd b.natAbs d.natAbs:Nat))+c*(b / (Nat.gcd b.natAbs d.natAbs:Nat))<0))
    ((a*(d / (Nat.gcd b.natAbs d.natAbs:Nat))+c*(b / (Nat.gcd b.natAbs d.natAbs:Nat))).natAbs:Int) b d (Nat.gcd b.natAbs d.natAbs) K
   else K 0 0 (chk2 a b c d)):ya5 a b c d K:=by
 unfold ya5 yoa
 refine yqP ha hb hc hd ?_
 by_cases h:chk2 a b c d=0
 ·rw [if_pos h] at k
  have:(chk2 a b c d !=(0:Int))=false:=by rw [h];rfl
  rw [this,yae]
  obtain ⟨⟨b1,b2,a1,a2,_⟩,d1,d2,c1,c2,_⟩:=yer.1 h
  have wb:IntKind.u64.wrap b=((b.natAbs:Nat):Int):=by rw [wu64 ⟨by omega,by omega⟩];omega
  have wd:IntKind.u64.wrap d=((d.natAbs:Nat):Int):=by rw [wu64 ⟨by omega,by omega⟩];omega
  have g1:0<Nat.gcd b.natAbs d.natAbs:=qCa _ (by omega)
  have g2:Nat.gcd b.natAbs d.natAbs≤d.natAbs:=Nat.le_of_dvd (by omega) (Nat.gcd_dvd_right _ _)
  have go:yde (IntKind.u64.wrap b) (IntKind.u64.wrap d)=yde ((b.natAbs:Nat):Int) ((d.natAbs:Nat):Int):=by rw [wb,wd]
  rw [go]
  refine yxP _ _ _ ?_
  generalize Nat.gcd b.natAbs d.natAbs=g at *
  have n3:(!(decide ((g:Int)=(0:Int))))=true:=by rw [decide_eq_false (by omega)];rfl
  have q1:0≤b / (g:Int):=Int.ediv_nonneg (by omega) (by omega)
  have q2:0≤d / (g:Int):=Int.ediv_nonneg (by omega) (by omega)
  have q3:b / (g:Int)≤b:=Int.ediv_le_self _ (by omega)
  have q4:d / (g:Int)≤d:=Int.ediv_le_self _ (by omega)
  have ed:IntKind.u64.wrap (Int.tdiv (IntKind.u64.wrap d) (g:Int))=d / (g:Int):=by
   rw [wu64 (n:=d) ⟨by omega,by omega⟩,ynC (by omega),wu64 ⟨by omega,by omega⟩]
  have eb:IntKind.u64.wrap (Int.tdiv (IntKind.u64.wrap b) (g:Int))=b / (g:Int):=by
   rw [wu64 (n:=b) ⟨by omega,by omega⟩,ynC (by omega),wu64 ⟨by omega,by omega⟩]
  have ymV:∀ {c:Bool} {P:Prop},c=true→P→asr c P:=fun h p=>by rw [h,yaO];exact p
  rw [yji ha]
  refine ymV n3 ?_
  rw [ylh (U64.abs ha) (by rw [ed];exact ⟨by omega,by omega⟩),yji hc]
  refine ymV n3 ?_
  rw [ylh (U64.abs hc) (by rw [eb];exact ⟨by omega,by omega⟩)]
  obtain ⟨X,hX⟩:∃ X,X=((a.natAbs:Nat):Int)*IntKind.u64.wrap (Int.tdiv (IntKind.u64.wrap d) (g:Int)):=⟨_,rfl⟩
  obtain ⟨Y,hY⟩:∃ Y,Y=((c.natAbs:Nat):Int)*IntKind.u64.wrap (Int.tdiv (IntKind.u64.wrap b) (g:Int)):=⟨_,rfl⟩
  rw [← hX,← hY]
  rw [ed] at hX;rw [eb] at hY
  have X0:0≤X:=by rw [hX];exact qBc (by omega) q2
  have Y0:0≤Y:=by rw [hY];exact qBc (by omega) q1
  have X1:X≤1000000000000000000*1000000000000000000:=by rw [hX];exact qB1 (by omega) (by omega) q2 (by omega)
  have Y1:Y≤1000000000000000000*1000000000000000000:=by rw [hY];exact qB1 (by omega) (by omega) q1 (by omega)
  have ax:a*(d / (g:Int))=if a<0 then -X else X:=by
   split
   ·rw [hX,show ((a.natAbs:Nat):Int)=-a by omega,Int.neg_mul,Int.neg_neg]
   ·rw [hX,show ((a.natAbs:Nat):Int)=a by omega]
  have cy:c*(b / (g:Int))=if c<0 then -Y else Y:=by
   split
   ·rw [hY,show ((c.natAbs:Nat):Int)=-c by omega,Int.neg_mul,Int.neg_neg]
   ·rw [hY,show ((c.natAbs:Nat):Int)=c by omega]
  rw [ax,cy] at k
  clear hX hY ax cy ed eb n3
  by_cases hs:decide (a<0)=decide (c<0)
  ·have e:(decide (a<0) == decide (c<0))=true:=beq_iff_eq.2 hs
   rw [e,yas]
   refine yK9 X0 Y0 (by omega) (fun c1 c2=>?_)
   refine yBD (by omega) (by omega) g1 (by omega) ⟨by omega,b2⟩ ⟨by omega,d2⟩ (yt6 k ?_ ?_)
   ·by_cases h1:a<0
    ·have h2:c<0:=by simpa [h1] using hs.symm
     rw [if_pos h1,if_pos h2];omega
    ·have h2:¬c<0:=by simpa [h1] using hs.symm
     rw [if_neg h1,if_neg h2];omega
   ·intro h0
    by_cases h1:a<0
    ·have h2:c<0:=by simpa [h1] using hs.symm
     rw [if_pos h1,if_pos h2,decide_eq_true h1,decide_eq_true (by omega)]
    ·have h2:¬c<0:=by simpa [h1] using hs.symm
     rw [if_neg h1,if_neg h2,decide_eq_false h1,decide_eq_false (by omega)]
  ·have e:(decide (a<0) == decide (c<0))=false:=beq_eq_false_iff_ne.2 hs
   rw [e,yae]
   have h12:(a<0∧¬c<0)∨(¬a<0∧c<0):=by
    by_cases h1:a<0 <;> by_cases h2:c<0 <;> simp [h1,h2] at hs ⊢
   by_cases hlt:X<Y
   ·have kk:outA (!decide (a<0)) (Y-X) b d g K:=by
     refine yt6 k ?_ ?_
     ·rcases h12 with ⟨h1,h2⟩ | ⟨h1,h2⟩
      ·rw [if_pos h1,if_neg h2];omega
      ·rw [if_neg h1,if_pos h2];omega
     ·intro h0
      rcases h12 with ⟨h1,h2⟩ | ⟨h1,h2⟩
      ·rw [if_pos h1,if_neg h2,decide_eq_true h1,decide_eq_false (by omega)];rfl
      ·rw [if_neg h1,if_pos h2,decide_eq_false h1,decide_eq_true (by omega)];rfl
    by_cases h1:X / 18446744073709551616<Y / 18446744073709551616
    ·rw [decide_eq_true h1,yas]
     refine ywa X0 (by omega) (by omega) (fun c1 c2=>?_)
     exact yBD (by omega) (by omega) g1 (by omega) ⟨by omega,b2⟩ ⟨by omega,d2⟩ kk
    ·have e1:(X / 18446744073709551616 == Y / 18446744073709551616)=true:=beq_iff_eq.2 (by omega)
     rw [decide_eq_false h1,yae,e1,yas,decide_eq_true (show X % 18446744073709551616<Y % 18446744073709551616 by have:=beq_iff_eq.1 e1;omega),yas]
     refine ywa X0 (by omega) (by omega) (fun c1 c2=>?_)
     exact yBD (by omega) (by omega) g1 (by omega) ⟨by omega,b2⟩ ⟨by omega,d2⟩ kk
   ·have kk:outA (decide (a<0)) (X-Y) b d g K:=by
     refine yt6 k ?_ ?_
     ·rcases h12 with ⟨h1,h2⟩ | ⟨h1,h2⟩
      ·rw [if_pos h1,if_neg h2];omega
      ·rw [if_neg h1,if_pos h2];omega
     ·intro h0
      rcases h12 with ⟨h1,h2⟩ | ⟨h1,h2⟩
      ·rw [if_pos h1,if_neg h2,decide_eq_true h1,decide_eq_true (by omega)]
      ·rw [if_neg h1,if_pos h2,decide_eq_false h1,decide_eq_false (by omega)]
    have h1:¬X / 18446744073709551616<Y / 18446744073709551616:=by omega
    rw [decide_eq_false h1,yae]
    cases e1:(X / 18446744073709551616 == Y / 18446744073709551616)
    ·rw [yae]
     refine ywa Y0 (by omega) (by omega) (fun c1 c2=>?_)
     exact yBD (by omega) (by omega) g1 (by omega) ⟨by omega,b2⟩ ⟨by omega,d2⟩ kk
    ·rw [yas,decide_eq_false (show ¬X % 18446744073709551616<Y % 18446744073709551616 by have:=beq_iff_eq.1 e1;omega),yae]
     refine ywa Y0 (by omega) (by omega) (fun c1 c2=>?_)
     exact yBD (by omega) (by omega) g1 (by omega) ⟨by omega,b2⟩ ⟨by omega,d2⟩ kk
 ·rw [if_neg h] at k
  have:(chk2 a b c d !=(0:Int))=true:=by rw [bne_iff_ne];exact h
  rw [this,yas]
  exact k
theorem RV.neg {c d:Int} (h:RV c d):RV (-c) d:=by
 obtain ⟨d1,d2,c1,c2,g⟩:=h
 exact ⟨d1,d2,by omega,by omega,by rw [Int.natAbs_neg];exact g⟩
theorem yNA {a b c d:Int} (ha:I64 a) (hb:I64 b) (hc:I64 c) (hd:I64 d) {K:Int→Int→Int→Prop}
  (k:if chk2 a b c d=0 then outA (decide (a*(d / (Nat.gcd b.natAbs d.natAbs:Nat))+-c*(b / (Nat.gcd b.natAbs d.natAbs:Nat))<0))
    ((a*(d / (Nat.gcd b.natAbs d.natAbs:Nat))+-c*(b / (Nat.gcd b.natAbs d.natAbs:Nat))).natAbs:Int) b d (Nat.gcd b.natAbs d.natAbs) K
   else K 0 0 (chk2 a b c d)):ycj a b c d K:=by
 unfold ycj yob
 refine yqP ha hb hc hd ?_
 by_cases h:chk2 a b c d=0
 ·rw [if_pos h] at k
  have:(chk2 a b c d !=(0:Int))=false:=by rw [h];rfl
  rw [this,yae]
  obtain ⟨hab,hcd⟩:=yer.1 h
  obtain ⟨d1,d2,c1,c2,_⟩:=id hcd
  rw [wi64 (n:=0-c) ⟨by omega,by omega⟩,Int.zero_sub]
  refine yLa ha hb ⟨by omega,by omega⟩ hd ?_
  rw [if_pos (yer.2 ⟨hab,hcd.neg⟩)]
  exact k
 ·rw [if_neg h] at k
  have:(chk2 a b c d !=(0:Int))=true:=by rw [bne_iff_ne];exact h
  rw [this,yas]
  exact k
def ints (l:List Int):List PV:=l.map (PV.int .i64)
theorem ybP (l:List Int):(ints l).length=l.length:=qAf ..
theorem yII {l:List Int} {i:Nat} (h:i<l.length):List.getD (ints l) i .nils=.int .i64 (l.getD i 0):=by
 unfold ints
 rw [qAa,qAa,qAz,qAb h]
 rfl
theorem ydI {l:List Int} {i:Nat} (h:i<l.length):yaa (List.getD (ints l) i .nils)=l.getD i 0:=by
 rw [yII h];rfl
theorem yiR {l:List Int} {i:Nat} (h:i<l.length):conf zI (List.getD (ints l) i .nils)=true:=by
 rw [yII h];rfl
theorem ymV {c:Bool} {P:Prop} (h:c=true) (p:P):asr c P:=by rw [h,yaO];exact p
theorem ysr {c:Prop} [Decidable c] {P:Prop} (h:c) (p:P):asr (decide c) P:=ymV (decide_eq_true h) p
theorem yIJ {c:Prop} [Decidable c] {P Q:Prop} (h:c) (p:P):cbr (decide c) P Q:=by rw [decide_eq_true h,yas];exact p
theorem yDD {c:Prop} [Decidable c] {P Q:Prop} (h:¬c) (q:Q):cbr (decide c) P Q:=by rw [decide_eq_false h,yae];exact q
def mnf (m x:Int):Int:=if x<m then x else m
theorem yLb {l:List Int} (hl:l.length<9223372036854775807) (x0:List PV→Int→Int→Bool→Prop) :
  ∀ (rest:List Int) (i:Nat) (m:Int) (n:Nat),l.drop i=rest→i≤l.length→rest.length<n→x0 (ints l) (rest.foldl mnf m) (l.length:Int) false →
   yc7 x0 n (ints l) m (i:Int):=by
 intro rest
 induction rest with
 | nil =>
  intro i m n hd hi hn k
  have:i=l.length:=by
   have:=congrArg List.length hd
   rw [qAu] at this
   have h2:([]:List Int).length=0:=rfl
   omega
  match n,hn with
  | n+1,_ =>
   unfold yc7
   rw [ybP,this]
   exact yDD (by omega) k
 | cons x t ih =>
  intro i m n hd hi hn k
  have hlt:i<l.length:=by
   have:=congrArg List.length hd
   rw [qAu,qAn] at this
   omega
  have hx:l.getD i 0=x:=by
   have:=List.getElem_drop (xs:=l) (i:=i) (j:=0) (h:=by rw [hd];exact Nat.zero_lt_succ _)
   rw [qAa,qAb hlt]
   simp only [hd,List.getElem_cons_zero,Nat.add_zero] at this
   exact this.symm
  have ht:l.drop (i+1)=t:=by rw [← List.tail_drop,hd];rfl
  match n,hn with
  | n+1,hn =>
   unfold yc7
   rw [ybP]
   refine yIJ (by omega) ?_
   refine ysr (by omega) (ysr (by omega) (ymV (yiR (by omega)) ?_))
   rw [qAg,ydI hlt,hx,wi64 (n:=(i:Int)+1) ⟨by omega,by omega⟩]
   exact ih (i+1) _ n ht (by omega) (by rw [qAn] at hn;omega) k
theorem yNB {l:List Int} (hl:l.length<9223372036854775807) {x:Int} {t:List Int} (e:l=x::t) {K:Int→Prop} (k:K (t.foldl mnf x)):yem (ints l) K:=by
 have h0:0<l.length:=by rw [e];exact Nat.zero_lt_succ _
 unfold yem yiE
 rw [ybP]
 refine yDD (by omega) (ysr (by omega) (ymV (yiR h0) ⟨l.length+1,?_⟩))
 have e0:l.getD 0 0=x:=by rw [e];rfl
 rw [ydI h0,e0]
 refine yLb hl _ t 1 x _ (by rw [e];rfl) (by omega) (by rw [e,qAn];omega) ?_
 exact k
def mxf (m x:Int):Int:=if x>m then x else m
theorem yLc {l:List Int} (hl:l.length<9223372036854775807) (x0:List PV→Int→Int→Bool→Prop) :
  ∀ (rest:List Int) (i:Nat) (m:Int) (n:Nat),l.drop i=rest→i≤l.length→rest.length<n→x0 (ints l) (rest.foldl mxf m) (l.length:Int) false →
   yc8 x0 n (ints l) m (i:Int):=by
 intro rest
 induction rest with
 | nil =>
  intro i m n hd hi hn k
  have:i=l.length:=by
   have:=congrArg List.length hd
   rw [qAu] at this
   have h2:([]:List Int).length=0:=rfl
   omega
  match n,hn with
  | n+1,_ =>
   unfold yc8
   rw [ybP,this]
   exact yDD (by omega) k
 | cons x t ih =>
  intro i m n hd hi hn k
  have hlt:i<l.length:=by
   have:=congrArg List.length hd
   rw [qAu,qAn] at this
   omega
  have hx:l.getD i 0=x:=by
   have:=List.getElem_drop (xs:=l) (i:=i) (j:=0) (h:=by rw [hd];exact Nat.zero_lt_succ _)
   rw [qAa,qAb hlt]
   simp only [hd,List.getElem_cons_zero,Nat.add_zero] at this
   exact this.symm
  have ht:l.drop (i+1)=t:=by rw [← List.tail_drop,hd];rfl
  match n,hn with
  | n+1,hn =>
   unfold yc8
   rw [ybP]
   refine yIJ (by omega) ?_
   refine ysr (by omega) (ysr (by omega) (ymV (yiR (by omega)) ?_))
   rw [qAg,ydI hlt,hx,wi64 (n:=(i:Int)+1) ⟨by omega,by omega⟩]
   exact ih (i+1) _ n ht (by omega) (by rw [qAn] at hn;omega) k
theorem yLd {l:List Int} (hl:l.length<9223372036854775807) {x:Int} {t:List Int} (e:l=x::t) {K:Int→Prop} (k:K (t.foldl mxf x)):yen (ints l) K:=by
 have h0:0<l.length:=by rw [e];exact Nat.zero_lt_succ _
 unfold yen yiG
 rw [ybP]
 refine yDD (by omega) (ysr (by omega) (ymV (yiR h0) ⟨l.length+1,?_⟩))
 have e0:l.getD 0 0=x:=by rw [e];rfl
 rw [ydI h0,e0]
 refine yLc hl _ t 1 x _ (by rw [e];rfl) (by omega) (by rw [e,qAn];omega) ?_
 exact k
def incr (l:List Int) (i:Nat):Prop:=∀ j,i≤j→j+1<l.length→l.getD j 0<l.getD (j+1) 0
theorem yHV {l:List Int} {p2:List PV} {p0:Int} (hl:l.length<9223372036854775807) (W1 W2:List PV→(Int→Prop)→Prop) (x0:Int→Prop) (x1:Int→List PV→List PV→Int→Int→Bool→Prop) :
  ∀ (r i n:Nat),i+r+1=l.length→r<n→(incr l i→x1 p0 (ints l) p2 ((l.length:Int)-1) ((l.length:Int)-1) false)→(¬incr l i→x0 8) →
   yd3 W1 W2 x0 x1 n p0 (ints l) p2 ((l.length:Int)-1) (i:Int):=by
 intro r
 induction r with
 | zero =>
  intro i n hi hn k _
  match n,hn with
  | n+1,_ =>
   unfold yd3
   have e:(i:Int)=(l.length:Int)-1:=by omega
   refine yDD (by omega) ?_
   rw [e]
   exact k (fun j h1 h2=>by omega)
 | succ r ih =>
  intro i n hi hn k k0
  match n,hn with
  | n+1,hn =>
   unfold yd3
   rw [wi64 (n:=(i:Int)+1) ⟨by omega,by omega⟩,ybP]
   have e1:((i:Int)+1)=((i+1:Nat):Int):=by omega
   rw [e1,qAg,qAg]
   refine yIJ (by omega) (ysr (by omega) (ysr (by omega) (ymV (yiR (by omega)) (ysr (by omega) (ysr (by omega) (ymV (yiR (by omega)) ?_))))))
   rw [ydI (by omega),ydI (by omega)]
   by_cases h:l.getD i 0≥l.getD (i+1) 0
   ·exact yIJ h (k0 fun hc=>absurd (hc i (qAk _) (by omega)) (by omega))
   ·refine yDD h (ih (i+1) n (by omega) (by omega) (fun hc=>k fun j h1 h2=>?_) (fun hc=>k0 fun hd=>hc fun j h1 h2=>hd j (by omega) h2))
    by_cases hj:j=i
    ·subst hj;omega
    ·exact hc j (by omega) h2
def small (q:Rat):Prop:=-1000000000000000000≤q.num∧q.num≤1000000000000000000∧(q.den:Int)≤1000000000000000000
instance (q:Rat):Decidable (small q):=by unfold small;infer_instance
theorem small.rv {q:Rat} (h:small q):RV q.num q.den:=by
 obtain ⟨h1,h2,h3⟩:=h
 have:=q.den_pos
 exact ⟨by omega,h3,h1,h2,q.reduced⟩
theorem yHW {n d:Int} (h:RV n d):∃ q:Rat,small q∧q.num=n∧(q.den:Int)=d:=by
 obtain ⟨h1,h2,h3,h4,h5⟩:=h
 refine ⟨⟨n,d.toNat,by omega,?_⟩,⟨h3,h4,by show ((d.toNat:Nat):Int)≤_;omega⟩,rfl,by show ((d.toNat:Nat):Int)=_;omega⟩
 have:d.natAbs=d.toNat:=by omega
 rw [this] at h5
 exact h5
theorem small.i1 {q:Rat} (h:small q):I64 q.num:=⟨by have:=h.1;omega,by have:=h.2.1;omega⟩
theorem small.i2 {q:Rat} (h:small q):I64 (q.den:Int):=⟨by omega,by have:=h.2.2;omega⟩
theorem yli {q r:Rat} (h:small q) (k:small r):chk2 q.num q.den r.num r.den=0:=yer.2 ⟨h.rv,k.rv⟩
def fitK (q:Rat) (K:Int→Int→Int→Prop):Prop:=if small q then K q.num q.den 0 else K 0 0 16
theorem yBE {q:Rat} {s:Bool} {a b:Int} (ha:a=(q.num.natAbs:Int)) (hb:b=(q.den:Int)) (hs:q.num≠0→s=decide (q.num<0)) (K:Int→Int→Int→Prop):outS s a b K=fitK q K:=by
 unfold outS fitK
 subst ha hb
 by_cases h:small q
 ·have h':=h
  obtain ⟨h1,h2,h3⟩:=h
  rw [if_pos (show _∧_ from ⟨by omega,h3⟩),if_pos h']
  have e:(if s=true then -((q.num.natAbs:Nat):Int) else ((q.num.natAbs:Nat):Int))=q.num:=by
   by_cases h0:q.num=0
   ·rw [h0];cases s <;> rfl
   ·rw [hs h0]
    by_cases h1:q.num<0
    ·rw [decide_eq_true h1,if_pos rfl];omega
    ·rw [decide_eq_false h1,if_neg (by simp)];omega
  rw [e]
 ·rw [if_neg h,if_neg]
  intro h2
  exact h ⟨by omega,by omega,h2.2⟩
theorem yGB (x:Int) (g:Nat):(Int.tdiv x g).natAbs=x.natAbs / g:=by rw [Int.natAbs_tdiv,Int.natAbs_natCast];rfl
theorem yDE {x:Int} {g:Nat} (h:(g:Int)∣x) (hx:x≠0):decide (Int.tdiv x g<0)=decide (x<0):=by
 obtain ⟨k,rfl⟩:=h
 have hg:(g:Int)≠0:=fun e=>hx (by rw [e,Int.zero_mul])
 rw [Int.mul_tdiv_cancel_left _ hg]
 have h1:(g:Int)>0:=by have:=Int.natCast_nonneg g;omega
 have:(g:Int)*k<0↔k<0:=by
  constructor
  ·intro h;refine Int.not_le.1 fun hk=>?_
   have:=qBc (show 0≤(g:Int) by omega) hk
   omega
  ·intro h;exact Int.mul_neg_of_pos_of_neg h1 h
 simp only [this]
theorem yJW (q r:Rat):(q*r).num=Int.tdiv q.num (Nat.gcd q.num.natAbs r.den)*Int.tdiv r.num (Nat.gcd r.num.natAbs q.den) ∧
  (q*r).den=(q.den / Nat.gcd r.num.natAbs q.den)*(r.den / Nat.gcd q.num.natAbs r.den):=by
 have e:q*r=Rat.mul q r:=rfl
 rw [e]
 delta Rat.mul
 constructor
 ·simp only [Int.divExact_eq_tdiv]
 ·simp only [Nat.divExact_eq_div]
theorem ynD (x:Int) (d:Nat):((Nat.gcd x.natAbs d:Nat):Int)∣x:=by
 rw [← Int.dvd_natAbs,Int.ofNat_dvd];exact Nat.gcd_dvd_left _ _
theorem yIK {x:Int} {g:Nat} (h:(g:Int)∣x) (hx:x≠0):Int.tdiv x g≠0:=by
 obtain ⟨k,rfl⟩:=h
 have hg:(g:Int)≠0:=fun e=>hx (by rw [e,Int.zero_mul])
 rw [Int.mul_tdiv_cancel_left _ hg]
 intro e;rw [e,Int.mul_zero] at hx;exact hx rfl
theorem yLe {x y:Int} (hx:x≠0) (hy:y≠0):decide (x*y<0)=(decide (x<0) != decide (y<0)):=by
 by_cases h1:x<0 <;> by_cases h2:y<0
 ·have:=Int.mul_pos_of_neg_of_neg h1 h2
  simp [h1,h2];omega
 ·have:=Int.mul_neg_of_neg_of_pos h1 (show 0<y by omega)
  simp [h1,h2];omega
 ·have:=Int.mul_neg_of_pos_of_neg (show 0<x by omega) h2
  simp [h1,h2];omega
 ·have:=Int.mul_pos (show 0<x by omega) (show 0<y by omega)
  simp [h1,h2];omega
theorem yIL (q r:Rat) (K:Int→Int→Int→Prop):outS (decide (q.num<0) != decide (r.num<0)) (numM q.num r.num q.den r.den) (denM q.num r.num q.den r.den) K=fitK (q*r) K:=by
 obtain ⟨e1,e2⟩:=yJW q r
 refine yBE ?_ ?_ ?_ K
 ·rw [e1,Int.natAbs_mul,yGB,yGB]
  simp only [numM,Int.natAbs_natCast]
 ·rw [e2]
  simp only [denM,Int.natAbs_natCast]
 ·intro h
  rw [e1] at h ⊢
  have h1:q.num≠0:=fun e=>h (by rw [e,Int.zero_tdiv,Int.zero_mul])
  have h2:r.num≠0:=fun e=>h (by rw [e,Int.zero_tdiv,Int.mul_zero])
  rw [yLe (yIK (ynD _ _) h1) (yIK (ynD _ _) h2),yDE (ynD _ _) h1,yDE (ynD _ _) h2]
theorem ywb {w:(Int→Int→Int→Prop)→Prop} {q:Rat} (det:∀ r0 r1 r2,(∀ K:Int→Int→Int→Prop,K r0 r1 r2→w K)→∀ K,w K=K r0 r1 r2) (h:∀ K,fitK q K→w K) (K:Int→Int→Int→Prop):w K=fitK q K:=by
 unfold fitK at h ⊢
 by_cases hs:small q
 ·simp only [if_pos hs] at h ⊢
  exact det _ _ _ h K
 ·simp only [if_neg hs] at h ⊢
  exact det _ _ _ h K
theorem yzA {q r:Rat} (hq:small q) (hr:small r) (K:Int→Int→Int→Prop):ybC q.num q.den r.num r.den K=fitK (q*r) K :=
 ywb (fun r0 r1 r2 h K=>yCz _ _ _ _ r0 r1 r2 h K) (fun K k=>yHU hq.i1 hq.i2 hr.i1 hr.i2 (by rw [if_pos (yli hq hr),yIL];exact k)) K
theorem yJX {r:Rat} (h:r≠0):(r⁻¹).num=(if r.num<0 then -(r.den:Int) else r.den)∧(r⁻¹).den=r.num.natAbs:=by
 have h0:r.num≠0:=fun e=>h (Rat.num_eq_zero.1 e)
 constructor
 ·rw [Rat.num_inv]
  by_cases h1:r.num<0
  ·rw [if_pos h1,Int.sign_eq_neg_one_of_neg h1];omega
  ·rw [if_neg h1,Int.sign_eq_one_of_pos (by omega)];omega
 ·rw [Rat.den_inv,if_neg h0]
theorem yIM {q r:Rat} (hq:small q) (hr:small r) (h0:r≠0) (K:Int→Int→Int→Prop):yaW q.num q.den r.num r.den K=fitK (q / r) K:=by
 have hn:r.num≠0:=fun e=>h0 (Rat.num_eq_zero.1 e)
 refine ywb (fun r0 r1 r2 h K=>yCA _ _ _ _ r0 r1 r2 h K) (fun K k=>yNz hq.i1 hq.i2 hr.i1 hr.i2 ?_) K
 rw [if_pos (yli hq hr),if_neg hn]
 rw [Rat.div_def,← yIL] at k
 obtain ⟨e1,e2⟩:=yJX h0
 rw [e1,e2] at k
 have s:decide ((if r.num<0 then -(r.den:Int) else (r.den:Int))<0)=decide (r.num<0):=by
  have:=r.den_pos
  split
  ·rename_i h;simp only [h];simp;omega
  ·rename_i h;simp only [h];simp
 rw [s] at k
 have hd:(if r.num<0 then -(r.den:Int) else (r.den:Int)).natAbs=r.den:=by split <;> omega
 unfold numM denM at k ⊢
 simp only [hd,Int.natAbs_natCast] at k ⊢
 exact k
theorem yJY (q r:Rat):(q+r).num=(q.num*(r.den / Nat.gcd q.den r.den:Nat)+r.num*(q.den / Nat.gcd q.den r.den:Nat)) / (Nat.gcd (q.num*(r.den / Nat.gcd q.den r.den:Nat)+r.num*(q.den / Nat.gcd q.den r.den:Nat)).natAbs (Nat.gcd q.den r.den):Nat) ∧
  (q+r).den=(q.den / Nat.gcd q.den r.den)*r.den / Nat.gcd (q.num*(r.den / Nat.gcd q.den r.den:Nat)+r.num*(q.den / Nat.gcd q.den r.den:Nat)).natAbs (Nat.gcd q.den r.den):=by
 have e:q+r=Rat.add q r:=rfl
 rw [e]
 delta Rat.add
 by_cases hg:q.den.gcd r.den=1
 ·simp only [hg,dif_pos,Nat.div_one,Nat.gcd_one_right,Int.natCast_one,Int.ediv_one,and_self]
 ·simp only [hg,dif_neg,not_false_eq_true,Rat.maybeNormalize_eq]
  constructor
  ·first | rfl | simp only [Int.divExact_eq_tdiv]
  ·first | rfl | simp only []
theorem yLf {q r:Rat} {Z:Int} {g:Nat} (e1:(q+r).num=Z / (Nat.gcd Z.natAbs g:Nat)) (e2:(q+r).den=(q.den / g)*r.den / Nat.gcd Z.natAbs g) (hgp:0<g) (hgd:g∣r.den) (K:Int→Int→Int→Prop) :
  outA (decide (Z<0)) (Z.natAbs:Int) q.den r.den g K=fitK (q+r) K:=by
 unfold outA
 by_cases h0:Z=0
 ·subst h0
  have:(q+r)=0:=by
   apply Rat.num_eq_zero.1
   rw [e1];simp
  rw [this,if_pos (by rfl)]
  unfold fitK
  rw [if_pos (by decide)];rfl
 ·have hne:¬((Z.natAbs:Nat):Int)=0:=by omega
  rw [if_neg hne]
  have hdv:((Nat.gcd Z.natAbs g:Nat):Int)∣Z:=ynD _ _
  have hhp:0<Nat.gcd Z.natAbs g:=qCa _ hgp
  have hhg:Nat.gcd Z.natAbs g∣r.den:=Nat.dvd_trans (Nat.gcd_dvd_right _ _) hgd
  refine yBE ?_ ?_ ?_ K
  ·rw [e1,Int.natAbs_ediv_of_dvd hdv];simp
  ·rw [e2];simp only [qAg];rw [Nat.mul_div_assoc _ hhg]
  ·intro h
   rw [e1]
   obtain ⟨k,hk⟩:=hdv
   revert hhp hk
   generalize Nat.gcd Z.natAbs g=h
   intro hhp hk
   have e:Z / (h:Int)=k:=by rw [hk,Int.mul_ediv_cancel_left _ (by omega)]
   rw [e]
   have:Z<0↔k<0:=by
    rw [hk]
    constructor
    ·intro hk;refine Int.not_le.1 fun hk2=>?_
     have:=qBc (show 0≤(h:Int) by omega) hk2
     omega
    ·intro hk;exact Int.mul_neg_of_pos_of_neg (by omega) hk
   simp only [this]
theorem yIN (q r:Rat) (K:Int→Int→Int→Prop) :
  outA (decide (q.num*((r.den:Int) / (Nat.gcd (q.den:Int).natAbs (r.den:Int).natAbs:Nat))+r.num*((q.den:Int) / (Nat.gcd (q.den:Int).natAbs (r.den:Int).natAbs:Nat))<0))
   ((q.num*((r.den:Int) / (Nat.gcd (q.den:Int).natAbs (r.den:Int).natAbs:Nat))+r.num*((q.den:Int) / (Nat.gcd (q.den:Int).natAbs (r.den:Int).natAbs:Nat))).natAbs:Int) q.den r.den (Nat.gcd (q.den:Int).natAbs (r.den:Int).natAbs) K=fitK (q+r) K:=by
 obtain ⟨e1,e2⟩:=yJY q r
 rw [qB5,qB5] at e1 e2
 exact yLf e1 e2 (Nat.gcd_pos_of_pos_left _ q.den_pos) (Nat.gcd_dvd_right _ _) K
theorem yzB {q r:Rat} (hq:small q) (hr:small r) (K:Int→Int→Int→Prop):ya5 q.num q.den r.num r.den K=fitK (q+r) K :=
 ywb (fun r0 r1 r2 h K=>yCx _ _ _ _ r0 r1 r2 h K) (fun K k=>yLa hq.i1 hq.i2 hr.i1 hr.i2 (by rw [if_pos (yli hq hr),yIN];exact k)) K
theorem yzC {q r:Rat} (hq:small q) (hr:small r) (K:Int→Int→Int→Prop):ycj q.num q.den r.num r.den K=fitK (q-r) K :=
 ywb (fun r0 r1 r2 h K=>yCy _ _ _ _ r0 r1 r2 h K) (fun K k=>yNA hq.i1 hq.i2 hr.i1 hr.i2 (by
  rw [if_pos (yli hq hr)]
  rw [Rat.sub_eq_add_neg,← yIN] at k
  exact k)) K
theorem yLg {n d:Int} (hd:d≠0) (K:Int→Int→Int→Prop):outS (decide (n<0) != decide (d<0)) ((n.natAbs / Nat.gcd n.natAbs d.natAbs:Nat):Int) ((d.natAbs / Nat.gcd n.natAbs d.natAbs:Nat):Int) K=fitK ((n:Rat) / (d:Rat)) K:=by
 have e:(n:Rat) / (d:Rat)=mkRat (if d<0 then -n else n) d.natAbs:=by
  rw [Rat.mkRat_eq_div]
  split
  ·rename_i h
   have h1:((d.natAbs:Nat):Int)=-d:=by omega
   have h2:((d.natAbs:Nat):Rat)=-(d:Rat):=by rw [← Rat.intCast_natCast,h1,Rat.intCast_neg]
   rw [h2,Rat.intCast_neg]
   have h3:(d:Rat)≠0:=fun e=>hd (Rat.intCast_eq_zero_iff.1 e)
   grind
  ·rename_i h
   have h1:((d.natAbs:Nat):Int)=d:=by omega
   have h2:((d.natAbs:Nat):Rat)=(d:Rat):=by rw [← Rat.intCast_natCast,h1]
   rw [h2]
 have h0:d.natAbs≠0:=by omega
 have hab:(if d<0 then -n else n).natAbs=n.natAbs:=by split <;> omega
 rw [e]
 refine yBE ?_ ?_ ?_ K
 ·rw [Rat.num_mkRat,if_neg h0,hab,Int.natAbs_ediv_of_dvd,Int.natAbs_natCast,hab,Nat.gcd_comm]
  rw [← Int.dvd_natAbs,Int.ofNat_dvd,hab];exact Nat.gcd_dvd_right _ _
 ·rw [Rat.den_mkRat,if_neg h0,hab,Nat.gcd_comm]
 ·rw [Rat.num_mkRat,if_neg h0,hab]
  have hdv:((Nat.gcd d.natAbs n.natAbs:Nat):Int)∣(if d<0 then -n else n):=by
   rw [← Int.dvd_natAbs,Int.ofNat_dvd,hab];exact Nat.gcd_dvd_right _ _
  have hp:0<Nat.gcd d.natAbs n.natAbs:=Nat.gcd_pos_of_pos_left _ (by omega)
  obtain ⟨k,hk⟩:=hdv
  rw [hk,Int.mul_ediv_cancel_left _ (by omega)]
  intro hk0
  generalize Nat.gcd d.natAbs n.natAbs=g at *
  have h1:(g:Int)*k<0↔k<0:=by
   constructor
   ·intro hk;refine Int.not_le.1 fun hk2=>?_
    have:=qBc (show 0≤(g:Int) by omega) hk2
    omega
   ·intro hk;exact Int.mul_neg_of_pos_of_neg (by omega) hk
  have h2:(g:Int)*k≠0:=fun e=>by rcases Int.mul_eq_zero.1 e with e | e <;> omega
  by_cases hd2:d<0
  ·rw [if_pos hd2] at hk
   by_cases hn:n<0
   ·have:¬k<0:=by omega
    simp [hd2,hn,this]
   ·have:k<0:=by omega
    simp [hd2,this];omega
  ·rw [if_neg hd2] at hk
   by_cases hn:n<0
   ·have:k<0:=by omega
    simp [hd2,hn,this]
   ·have:¬k<0:=by omega
    simp [hd2,this];omega
theorem yGC {n d:Int} (hn:I64 n) (hd:I64 d) (h0:d≠0) (K:Int→Int→Int→Prop):yap n d K=fitK ((n:Rat) / (d:Rat)) K :=
 ywb (fun r0 r1 r2 h K=>yAV _ _ r0 r1 r2 h K) (fun K k=>Make_of hn hd (by rw [if_neg h0,yLg h0];exact k)) K
def cmpQ (q r:Rat):Int:=if q<r then -1 else if r<q then 1 else 0
theorem yIO (q r:Rat):cmpR q.num q.den r.num r.den=cmpQ q r:=by
 unfold cmpR cmp3 cmpQ
 simp only [Rat.lt_iff]
theorem yoF {q r:Rat} (hq:small q) (hr:small r) (K:Int→Int→Prop):ya3 q.num q.den r.num r.den K=K (cmpQ q r) 0 :=
 yCw _ _ _ _ _ _ (fun K k=>yK6 hq.i1 hq.i2 hr.i1 hr.i2 (by rw [yli hq hr,if_pos rfl,yIO];exact k)) K
theorem yDF {n d:Int} (hn:I64 n) (hd:I64 d) (K:Int→Prop):yca n d K=K (chk n d) :=
 yyO _ _ _ (fun _ k=>yBA hn hd k) K
theorem yN2 {a b:Int} (h:a=b):(a != b)=false:=by simp [h]
theorem yN3 {a b:Int} (h:a≠b):(a != b)=true:=by simp [h]
theorem yN4 {a b:Int} (h:a≠b):(a == b)=false:=by simp [h]
theorem yN5 {a b:Int} (h:a=b):(a == b)=true:=by simp [h]
theorem cbT {c:Prop} [Decidable c] {P Q:Prop} (h:c):cbr (decide c) P Q=P:=by rw [decide_eq_true h,yas]
theorem cbF {c:Prop} [Decidable c] {P Q:Prop} (h:¬c):cbr (decide c) P Q=Q:=by rw [decide_eq_false h,yae]
theorem cnT {a b:Int} {P Q:Prop} (h:a≠b):cbr (a != b) P Q=P:=by rw [yN3 h,yas]
theorem cnF {a b:Int} {P Q:Prop} (h:a=b):cbr (a != b) P Q=Q:=by rw [yN2 h,yae]
theorem ceT {a b:Int} {P Q:Prop} (h:a=b):cbr (a == b) P Q=P:=by rw [yN5 h,yas]
theorem ceF {a b:Int} {P Q:Prop} (h:a≠b):cbr (a == b) P Q=Q:=by rw [yN4 h,yae]
theorem asT {c:Prop} [Decidable c] {P:Prop} (h:c):asr (decide c) P=P:=by rw [decide_eq_true h,yaO]
theorem asC {l:List Int} {i:Nat} {P:Prop} (h:i<l.length):asr (conf zI (List.getD (ints l) i .nils)) P=P:=by rw [yiR h,yaO]
theorem wib {n:Int} (h1:-9223372036854775808≤n) (h2:n≤9223372036854775807):IntKind.i64.wrap n=n:=wi64 ⟨h1,h2⟩
theorem ycR (i:Nat):(i:Int)+1=((i+1:Nat):Int):=by omega
theorem yiS {x:Int} (h:-1000000000000000000≤x∧x≤1000000000000000000):small (x:Rat):=by
 unfold small
 rw [Rat.num_intCast,Rat.den_intCast]
 omega
def allD (dens:List Int):Prop:=∀ d∈dens,0≤d∧d≤12
def yBF (dens:List Int):Prop:=∃ d∈dens,0<d
instance (l:List Int):Decidable (allD l):=by unfold allD;infer_instance
instance (l:List Int):Decidable (yBF l):=by unfold yBF;infer_instance
def VC (len:Int) (cuts dens:List Int):Prop :=
 1≤len∧len≤1000∧2≤cuts.length∧cuts.length≤40∧dens.length+1=cuts.length∧cuts.getD 0 0=0∧cuts.getD (cuts.length-1) 0=len∧incr cuts 0∧allD dens∧yBF dens
theorem yLh (l:List Int):incr l 0↔∀ j,j<l.length→j+1<l.length→l.getD j 0<l.getD (j+1) 0:=⟨fun h j _ h2=>h j (by omega) h2,fun h j _ h2=>h j (by omega) h2⟩
instance (l:List Int):Decidable (incr l 0):=decidable_of_iff _ (yLh l).symm
instance (len:Int) (cuts dens:List Int):Decidable (VC len cuts dens):=by unfold VC;infer_instance
def ckC (len:Int) (cuts dens:List Int):Int:=if len>1000∨cuts.length>40 then 4 else if VC len cuts dens then 0 else 8
theorem yIP (l:List Int) (x:Int):(l.foldl mnf x<0)↔¬(∀ d∈x::l,0≤d):=by
 induction l generalizing x with
 | nil=>simp
 | cons y t ih =>
  rw [List.foldl_cons,ih]
  unfold mnf
  simp only [List.forall_mem_cons]
  split
  ·constructor
   ·intro h h2;exact h ⟨h2.2.1,h2.2.2⟩
   ·intro h h2;exact h ⟨by omega,h2.1,h2.2⟩
  ·constructor
   ·intro h h2;exact h ⟨h2.1,h2.2.2⟩
   ·intro h h2;exact h ⟨h2.1,by omega,h2.2⟩
theorem ywc (l:List Int) (x k:Int):(l.foldl mxf x>k)↔¬(∀ d∈x::l,d≤k):=by
 induction l generalizing x with
 | nil=>simp
 | cons y t ih =>
  rw [List.foldl_cons,ih]
  unfold mxf
  simp only [List.forall_mem_cons]
  split
  ·constructor
   ·intro h h2;exact h ⟨h2.2.1,h2.2.2⟩
   ·intro h h2;exact h ⟨by omega,h2.1,h2.2⟩
  ·constructor
   ·intro h h2;exact h ⟨h2.1,h2.2.2⟩
   ·intro h h2;exact h ⟨h2.1,by omega,h2.2⟩
theorem ykk {len:Int} {cuts dens:List Int} (h1:cuts.length<4611686018427387904) (h2:dens.length<4611686018427387904) (K:Int→Prop) :
  yaL len (ints cuts) (ints dens) K=K (ckC len cuts dens):=by
 refine yAW _ _ _ _ (fun K k=>?_) K
 unfold yaL ymq
 simp only [ybP]
 have bad:¬(len>1000∨cuts.length>40)→¬VC len cuts dens→K 8:=fun h h2=>by
  rw [ckC,if_neg h,if_neg h2] at k;exact k
 by_cases a1:len>1000
 ·rw [cbT a1];rw [ckC,if_pos (.inl a1)] at k;exact k
 rw [cbF a1]
 by_cases a2:cuts.length>40
 ·rw [cbT (by omega)];rw [ckC,if_pos (.inr a2)] at k;exact k
 have a12:¬(len>1000∨cuts.length>40):=by omega
 rw [cbF (by omega)]
 by_cases a3:len<1
 ·rw [cbT a3];exact bad a12 (fun h=>by have:=h.1;omega)
 rw [cbF a3]
 by_cases a4:cuts.length<2
 ·rw [cbT (by omega)];exact bad a12 (fun h=>by have:=h.2.2.1;omega)
 rw [cbF (by omega),wib (n:=(cuts.length:Int)-1) (by omega) (by omega)]
 by_cases a5:dens.length+1=cuts.length
 case neg=>rw [cnT (by omega)];exact bad a12 (fun h=>a5 h.2.2.2.2.1)
 rw [cnF (by omega),asT (by omega),asC (by omega),ydI (by omega)]
 by_cases a6:cuts.getD 0 0=0
 case neg=>rw [cnT a6];exact bad a12 (fun h=>a6 h.2.2.2.2.2.1)
 rw [cnF a6,asT (by omega),asT (by omega),asC (by omega),ydI (by omega)]
 have en:((cuts.length:Int)-1).toNat=cuts.length-1:=by omega
 rw [en]
 by_cases a7:cuts.getD (cuts.length-1) 0=len
 case neg=>rw [cnT a7];exact bad a12 (fun h=>a7 h.2.2.2.2.2.2.1)
 rw [cnF a7]
 refine ⟨cuts.length+1,?_⟩
 refine yHV (by omega) _ _ _ _ (cuts.length-1) 0 _ (by omega) (by omega) (fun hi=>?_) (fun hi=>bad a12 (fun h=>hi h.2.2.2.2.2.2.2.1))
 obtain ⟨x,t,e⟩:∃ x t,dens=x::t:=by
  cases dens with
  | nil=>exfalso;have:([]:List Int).length=0:=rfl;omega
  | cons x t=>exact ⟨x,t,rfl⟩
 refine yNB (by omega) e ?_
 by_cases b1:t.foldl mnf x<0
 ·rw [cbT b1]
  rw [yIP] at b1
  exact bad a12 (fun h=>b1 fun d hd=>(h.2.2.2.2.2.2.2.2.1 d (by rw [e];exact hd)).1)
 rw [cbF b1]
 refine yLd (by omega) e ?_
 by_cases b2:t.foldl mxf x>12
 ·rw [cbT b2]
  rw [ywc] at b2
  exact bad a12 (fun h=>b2 fun d hd=>(h.2.2.2.2.2.2.2.2.1 d (by rw [e];exact hd)).2)
 rw [cbF b2]
 refine yLd (by omega) e ?_
 have c1:∀ d∈dens,0≤d:=by rw [yIP,Classical.not_not,← e] at b1;exact b1
 have c2:∀ d∈dens,d≤12:=by rw [ywc,Classical.not_not,← e] at b2;exact b2
 by_cases b3:t.foldl mxf x=0
 ·rw [ceT b3]
  refine bad a12 (fun h=>?_)
  obtain ⟨d,hd,h0⟩:=h.2.2.2.2.2.2.2.2.2
  have:¬(t.foldl mxf x>0):=by omega
  rw [ywc,Classical.not_not,← e] at this
  have:=this d hd
  omega
 ·rw [ceF b3]
  have b4:t.foldl mxf x>0:=by
   refine Int.not_le.1 fun hle=>b3 ?_
   have:t.foldl mxf x>-1:=by
    rw [ywc]
    intro h
    have h1:=h x (qAo ..)
    have h2:=c1 x (by rw [e];exact qAo ..)
    omega
   omega
  rw [ywc,← e] at b4
  have b5:yBF dens:=by
   refine Classical.byContradiction fun hn=>b4 fun d hd=>?_
   exact Int.not_lt.1 fun hlt=>hn ⟨d,hd,hlt⟩
  rw [ckC,if_neg a12,if_pos ⟨by omega,by omega,by omega,by omega,a5,a6,a7,hi,fun d hd=>⟨c1 d hd,c2 d hd⟩,b5⟩] at k
  exact k
theorem yih (n:Int) (K:Int→Int→Prop):ycH n K=K (n:Rat).num (n:Rat).den:=rfl
theorem ygi {q r:Rat} (hq:small q) (hr:small r) (K:Bool→Prop):ycP q.num q.den r.num r.den K=K (decide (q<r)):=by
 unfold ycP yoe
 rw [yoF hq hr]
 congr 1
 rw [decide_eq_decide,cmpQ]
 by_cases h:q<r
 ·simp [h]
 ·by_cases h2:r<q <;> simp [h,h2]
def PT (len:Int) (n d:Int):Prop:=RV n d∧0≤n∧n≤len*d
instance (len n d:Int):Decidable (PT len n d):=by unfold PT;infer_instance
theorem yNC {len n d:Int} (h:PT len n d):∃ q:Rat,small q∧q.num=n∧(q.den:Int)=d∧0≤q∧q≤(len:Rat):=by
 obtain ⟨h1,h2,h3⟩:=h
 obtain ⟨q,e1,e2,e3⟩:=yHW h1
 refine ⟨q,e1,e2,e3,?_,?_⟩
 ·rw [← Rat.num_nonneg,e2];exact h2
 ·rw [Rat.le_iff,e2,e3,Rat.num_intCast,Rat.den_intCast];simpa using h3
theorem yHX (x:Int) (q:Rat):((x:Rat)<q)↔x*(q.den:Int)<q.num:=by
 rw [Rat.lt_iff,Rat.num_intCast,Rat.den_intCast];simp
theorem yBG {len:Int} (hl:-1000000000000000000≤len∧len≤1000000000000000000) {n d:Int} (hn:I64 n) (hd:I64 d) (a b:List PV) (K:Bool→Prop) :
  ycJ len a b n d K=K (decide (PT len n d)):=by
 unfold ycJ ymt
 rw [yDF hn hd]
 by_cases h:RV n d
 ·obtain ⟨q,e1,e2,e3⟩:=yHW h
  rw [chk,if_pos h,ceT rfl]
  by_cases h0:n≥0
  ·rw [cbT h0,yih,← e2,← e3,ygi (yiS hl) e1]
   congr 1
   have:((len:Rat)<q)↔len*(q.den:Int)<q.num:=yHX _ _
   by_cases h3:(len:Rat)<q
   ·have h4:=this.1 h3
    rw [decide_eq_true h3,decide_eq_false];rfl
    intro hp;have:=hp.2.2;omega
   ·have h4:¬_:=fun x=>h3 (this.2 x)
    rw [decide_eq_false h3,decide_eq_true];rfl
    exact ⟨e1.rv,by omega,by omega⟩
  ·rw [cbF h0,decide_eq_false]
   intro hp;have:=hp.2.1;omega
 ·rw [chk,if_neg h,ceF (by decide),decide_eq_false]
  intro hp;exact h hp.1
section
variable {len:Int} {cuts dens:List Int}
theorem VC.step (h:VC len cuts dens) {i:Nat} (hi:i+1<cuts.length):cuts.getD i 0<cuts.getD (i+1) 0:=h.2.2.2.2.2.2.2.1 i (qBj _) hi
theorem VC.mono (h:VC len cuts dens) {i:Nat}:∀ {j:Nat},i≤j→j<cuts.length→cuts.getD i 0≤cuts.getD j 0
 | 0,hij,_=>by
  have:i=0:=by omega
  subst this;exact Int.le_refl _
 | j+1,hij,hj=>by
  by_cases e:i=j+1
  ·subst e;exact Int.le_refl _
  ·have h1:=h.mono (i:=i) (j:=j) (by omega) (by omega)
   have h2:=h.step (i:=j) hj
   omega
theorem VC.lo (h:VC len cuts dens) {i:Nat} (hi:i<cuts.length):0≤cuts.getD i 0:=by
 have:=h.mono (qBj i) hi
 rw [h.2.2.2.2.2.1] at this;exact this
theorem VC.hi (h:VC len cuts dens) {i:Nat} (hi:i<cuts.length):cuts.getD i 0≤len:=by
 have:=h.mono (i:=i) (j:=cuts.length-1) (by omega) (by omega)
 rw [h.2.2.2.2.2.2.1] at this;exact this
theorem VC.den (h:VC len cuts dens) {i:Nat} (hi:i<dens.length):0≤dens.getD i 0∧dens.getD i 0≤12:=by
 rw [qAa,qAb hi]
 exact h.2.2.2.2.2.2.2.2.1 _ (qBb hi)
theorem VC.l1 (h:VC len cuts dens):dens.length+1=cuts.length:=h.2.2.2.2.1
theorem VC.l2 (h:VC len cuts dens):cuts.length≤40:=h.2.2.2.1
theorem VC.len0 (h:VC len cuts dens):1≤len∧len≤1000:=⟨h.1,h.2.1⟩
theorem VC.sc (h:VC len cuts dens) {i:Nat} (hi:i<cuts.length):small ((cuts.getD i 0:Int):Rat):=yiS (by have:=h.lo hi;have:=h.hi hi;have:=h.len0;omega)
theorem VC.sd (h:VC len cuts dens) {i:Nat} (hi:i<dens.length):small ((dens.getD i 0:Int):Rat):=yiS (by have:=h.den hi;omega)
theorem ywd (h:ckC len cuts dens=0):VC len cuts dens:=by
 unfold ckC at h
 split at h
 ·omega
 ·split at h
  ·assumption
  ·omega
theorem VC.ck (h:VC len cuts dens):ckC len cuts dens=0:=by
 rw [ckC,if_neg (by have:=h.l2;have:=h.len0;omega),if_pos h]
def totS (cuts dens:List Int):Nat→Nat→Int→Int
 | 0,_,s=>s
 | r+1,i,s=>totS cuts dens r (i+1) (s+dens.getD i 0*(cuts.getD (i+1) 0-cuts.getD i 0))
def totC (cuts dens:List Int):Int:=totS cuts dens dens.length 0 0
theorem yIQ {d x:Int} (h:0≤d∧d≤12) (hx:0≤x):0≤d*x∧d*x≤12*x:=⟨qBc h.1 hx,qAh h.2 hx⟩
theorem yBH (h:VC len cuts dens):∀ (r i:Nat) (s:Int),i+r=dens.length→0≤s→s≤12*cuts.getD i 0→0≤totS cuts dens r i s∧totS cuts dens r i s≤12*len
 | 0,i,s,hi,h0,h1=>by
  have:=h.l1
  have:=h.hi (i:=i) (by omega)
  unfold totS
  omega
 | r+1,i,s,hi,h0,h1=>by
  unfold totS
  have l1:=h.l1
  have h2:=h.step (i:=i) (by omega)
  have h3:=yIQ (h.den (i:=i) (by omega)) (x:=cuts.getD (i+1) 0-cuts.getD i 0) (by omega)
  exact yBH h r (i+1) _ (by omega) (by omega) (by omega)
theorem yiT (h:VC len cuts dens):0≤totC cuts dens∧totC cuts dens≤12000:=by
 have l1:=h.l1
 have h0:=h.lo (i:=0) (by omega)
 have:=yBH h dens.length 0 0 (by omega) (by omega) (by omega)
 have h2:=h.len0
 unfold totC;omega
theorem yBI (h:VC len cuts dens) (W:Int→List PV→List PV→(Int→Prop)→Prop) (x0:Int→List PV→List PV→Int→List PV→Int→Int→Bool→Prop) :
  ∀ (r i n:Nat) (s:Int),i+r=dens.length→r<n→0≤s→s≤12*cuts.getD i 0 →
   yd4 W x0 n len (ints cuts) (ints dens) s (ints dens) dens.length i=x0 len (ints cuts) (ints dens) (totS cuts dens r i s) (ints dens) dens.length dens.length false
 | 0,i,n+1,s,hi,hn,h0,h1=>by
  unfold yd4 totS
  rw [cbF (by omega)]
  have:(i:Int)=dens.length:=by omega
  rw [this]
 | r+1,i,n+1,s,hi,hn,h0,h1=>by
  unfold yd4
  have l1:=h.l1;have l2:=h.l2
  have h2:=h.step (i:=i) (by omega)
  have h3:=yIQ (h.den (i:=i) (by omega)) (x:=cuts.getD (i+1) 0-cuts.getD i 0) (by omega)
  have a1:=h.lo (i:=i) (by omega)
  have a2:=h.hi (i:=i+1) (by omega)
  have a3:=h.len0
  have e1:=wib (n:=(i:Int)+1) (by omega) (by omega)
  have e2:=wib (n:=cuts.getD (i+1) 0-cuts.getD i 0) (by omega) (by omega)
  have e3:=wib (n:=dens.getD i 0*(cuts.getD (i+1) 0-cuts.getD i 0)) (by omega) (by omega)
  have e4:=wib (n:=s+dens.getD i 0*(cuts.getD (i+1) 0-cuts.getD i 0)) (by omega) (by omega)
  rw [cbT (by omega),ybP,ybP,e1,ycR,qAg,qAg,asT (by omega),asT (by omega),asC (by omega),asT (by omega),asT (by omega),asC (by omega),asT (by omega),asT (by omega),asC (by omega),ydI (by omega),ydI (by omega),ydI (by omega),e2,e3,e4]
  exact yBI h W x0 r (i+1) n _ (by omega) (by omega) (by omega) (by omega)
theorem yxQ (h1:cuts.length<4611686018427387904) (h2:dens.length<4611686018427387904) (K:Int→Int→Prop) :
  yaj len (ints cuts) (ints dens) K=if ckC len cuts dens=0 then K (totC cuts dens) 0 else K 0 (ckC len cuts dens):=by
 by_cases h:ckC len cuts dens=0
 ·rw [if_pos h]
  refine yAX _ _ _ _ _ (fun K k=>?_) K
  unfold yaj yjc
  have hv:=ywd h
  rw [ykk h1 h2,h,cnF rfl]
  refine ⟨dens.length+1,?_⟩
  have l1:=hv.l1
  have a1:=hv.lo (i:=0) (by omega)
  rw [ybP]
  have:=yBI hv yaL (fun b c d a e f g j=>(K a (0:Int))) dens.length 0 (dens.length+1) 0 (by omega) (by omega) (by omega) (by omega)
  rw [show ((0:Nat):Int)=0 from rfl] at this
  rw [this]
  exact k
 ·rw [if_neg h]
  unfold yaj yjc
  rw [ykk h1 h2,cnT h]
def exK (e:Except Int Rat) (K:Int→Int→Int→Prop):Prop:=match e with | .ok q=>K q.num q.den 0 | .error c=>K 0 0 c
def fit {α:Type} (q:Rat) (k:Rat→Except Int α):Except Int α:=if small q then k q else .error 16
def valS (cuts dens:List Int) (b:Rat):Nat→Nat→Rat→Rat→Except Int Rat
 | 0,_,_,sum=>.ok sum
 | r+1,i,p,sum =>
  let en:Rat:=if b<(cuts.getD (i+1) 0:Int) then b else (cuts.getD (i+1) 0:Int)
  if dens.getD i 0=0∨¬p<en then valS cuts dens b r (i+1) (if p<en then en else p) sum
  else fit (en-p) fun l=>fit (l*(dens.getD i 0:Int)) fun w=>fit (sum+w) fun s=>valS cuts dens b r (i+1) en s
def valC (cuts dens:List Int) (a b:Rat):Except Int Rat:=valS cuts dens b dens.length 0 a 0
theorem ygz {q:Rat} {K:Int→Int→Int→Prop}:fitK q K=if small q then K q.num q.den 0 else K 0 0 16:=rfl
theorem yBJ (h:VC len cuts dens) {b:Rat} (hb:small b) (an ad:Int) (W1:Int→List PV→List PV→(Int→Prop)→Prop) (W2:Int→List PV→List PV→Int→Int→(Bool→Prop)→Prop) (K:Int→Int→Int→Prop) :
  ∀ (r i n:Nat) (p sum:Rat),i+r=dens.length→r<n→small p→small sum →
   ya9 W1 W2 ycP ycH ycj ybC ya5 (fun a d e=>(K a d e)) (fun _ _ _ _ _ _ _ f g _ _ _ _ _ _=>(K f g (0:Int)))
    n len (ints cuts) (ints dens) b.num b.den an ad sum.num sum.den p.num p.den (ints dens) dens.length i=exK (valS cuts dens b r i p sum) K
 | 0,i,n+1,p,sum,hi,hn,hp,hs=>by
  unfold ya9 valS
  rw [cbF (by omega)];rfl
 | r+1,i,n+1,p,sum,hi,hn,hp,hs=>by
  unfold ya9
  have l1:=h.l1;have l2:=h.l2
  have sc:=h.sc (i:=i+1) (by omega)
  have sd:=h.sd (i:=i) (by omega)
  have e1:=wib (n:=(i:Int)+1) (by omega) (by omega)
  rw [cbT (by omega),ybP,ybP,e1,ycR,qAg,qAg,asT (by omega),asT (by omega),asC (by omega),asT (by omega),asT (by omega),asC (by omega),ydI (by omega),ydI (by omega),yih,ygi hb sc]
  have ih:=fun p sum hp hs=>yBJ h hb an ad W1 W2 K r (i+1) n p sum (by omega) (by omega) hp hs
  unfold valS
  by_cases hbc:b<((cuts.getD (i+1) 0:Int):Rat)
  ·rw [cbT hbc]
   simp only [if_pos hbc]
   by_cases hd:dens.getD i 0=0
   ·rw [ceT hd,if_pos (.inl hd),ygi hp hb]
    by_cases hpb:p<b
    ·rw [cbT hpb,if_pos hpb];exact ih b sum hb hs
    ·rw [cbF hpb,if_neg hpb];exact ih p sum hp hs
   ·rw [ceF hd,ygi hp hb]
    by_cases hpb:p<b
    ·have hc:¬(dens.getD i 0=0∨¬p<b):=by simp [hpb];exact hd
     rw [if_neg hc,decide_eq_true hpb,qBq,yae,yzC hb hp,ygz]
     by_cases s1:small (b-p)
     ·rw [if_pos s1,cnF rfl,yih,yzA s1 sd,ygz,fit,if_pos s1]
      by_cases s2:small ((b-p)*(dens.getD i 0:Int))
      ·rw [if_pos s2,cnF rfl,yzB hs s2,ygz,fit,if_pos s2]
       by_cases s3:small (sum+(b-p)*(dens.getD i 0:Int))
       ·rw [if_pos s3,cnF rfl,fit,if_pos s3];exact ih b _ hb s3
       ·rw [if_neg s3,cnT (by decide),fit,if_neg s3];rfl
      ·rw [if_neg s2,cnT (by decide),fit,if_neg s2];rfl
     ·rw [if_neg s1,cnT (by decide),fit,if_neg s1];rfl
    ·rw [if_pos (.inr hpb),decide_eq_false hpb,qB8,yas,ygi hp hb,cbF hpb,if_neg hpb];exact ih p sum hp hs
  ·rw [cbF hbc]
   simp only [if_neg hbc]
   obtain ⟨c,hc⟩:∃ c:Rat,c=((cuts.getD (i+1) 0:Int):Rat):=⟨_,rfl⟩
   rw [← hc] at sc ⊢
   by_cases hd:dens.getD i 0=0
   ·rw [ceT hd,if_pos (.inl hd),ygi hp sc]
    by_cases hpb:p<c
    ·rw [cbT hpb,if_pos hpb];exact ih c sum sc hs
    ·rw [cbF hpb,if_neg hpb];exact ih p sum hp hs
   ·rw [ceF hd,ygi hp sc]
    by_cases hpb:p<c
    ·have hcc:¬(dens.getD i 0=0∨¬p<c):=by simp [hpb];exact hd
     rw [if_neg hcc,decide_eq_true hpb,qBq,yae,yzC sc hp,ygz]
     by_cases s1:small (c-p)
     ·rw [if_pos s1,cnF rfl,yih,yzA s1 sd,ygz,fit,if_pos s1]
      by_cases s2:small ((c-p)*(dens.getD i 0:Int))
      ·rw [if_pos s2,cnF rfl,yzB hs s2,ygz,fit,if_pos s2]
       by_cases s3:small (sum+(c-p)*(dens.getD i 0:Int))
       ·rw [if_pos s3,cnF rfl,fit,if_pos s3];exact ih c _ sc s3
       ·rw [if_neg s3,cnT (by decide),fit,if_neg s3];rfl
      ·rw [if_neg s2,cnT (by decide),fit,if_neg s2];rfl
     ·rw [if_neg s1,cnT (by decide),fit,if_neg s1];rfl
    ·rw [if_pos (.inr hpb),decide_eq_false hpb,qB8,yas,ygi hp sc,cbF hpb,if_neg hpb];exact ih p sum hp hs
end
def rt (n d:Int):Rat:=mkRat n d.toNat
theorem yeN (q:Rat):rt q.num q.den=q:=by unfold rt;rw [qAg,Rat.mkRat_self]
theorem ynE {n d:Int} (h:RV n d):small (rt n d)∧(rt n d).num=n∧((rt n d).den:Int)=d:=by
 obtain ⟨q,h1,h2,h3⟩:=yHW h
 subst h2 h3
 rw [yeN];exact ⟨h1,rfl,rfl⟩
theorem PT.pt {len n d:Int} (h:PT len n d):small (rt n d)∧(rt n d).num=n∧((rt n d).den:Int)=d∧0≤rt n d∧rt n d≤(len:Rat):=by
 obtain ⟨q,h1,h2,h3,h4,h5⟩:=yNC h
 subst h2 h3
 rw [yeN];exact ⟨h1,rfl,rfl,h4,h5⟩
theorem yyu {len:Int} {q:Rat} (h:small q) (h0:0≤q) (h1:q≤(len:Rat)):PT len q.num q.den:=by
 refine ⟨h.rv,Rat.num_nonneg.2 h0,?_⟩
 rw [Rat.le_iff,Rat.num_intCast,Rat.den_intCast] at h1
 simpa using h1
section
variable {len:Int} {cuts dens:List Int}
def valR (len:Int) (cuts dens:List Int) (an ad bn bd:Int):Except Int Rat :=
 if ckC len cuts dens=0 then (if PT len an ad∧PT len bn bd∧¬rt bn bd<rt an ad then valC cuts dens (rt an ad) (rt bn bd) else .error 2) else .error (ckC len cuts dens)
theorem yLi {w:(Int→Int→Int→Prop)→Prop} {e:Except Int Rat} (det:∀ r0 r1 r2,(∀ K:Int→Int→Int→Prop,K r0 r1 r2→w K)→∀ K,w K=K r0 r1 r2) (h:∀ K,exK e K→w K) (K:Int→Int→Int→Prop):w K=exK e K:=by
 cases e with
 | ok q=>exact det _ _ _ h K
 | error c=>exact det _ _ _ h K
theorem yxR (h1:cuts.length<4611686018427387904) (h2:dens.length<4611686018427387904) {an ad bn bd:Int} (ha:I64 an) (ha':I64 ad) (hb:I64 bn) (hb':I64 bd) (K:Int→Int→Int→Prop) :
  ybJ len (ints cuts) (ints dens) an ad bn bd K=exK (valR len cuts dens an ad bn bd) K:=by
 refine yLi (fun r0 r1 r2 h K=>yAY _ _ _ _ _ _ _ r0 r1 r2 h K) (fun K k=>?_) K
 unfold ybJ ymv
 rw [ykk h1 h2]
 unfold valR at k
 by_cases h:ckC len cuts dens=0
 case neg=>rw [cnT h];rw [if_neg h] at k;exact k
 have hv:=ywd h
 have hl:=hv.len0
 rw [if_pos h] at k
 rw [cnF h,yBG (by omega) ha ha']
 by_cases p1:PT len an ad
 case neg=>rw [decide_eq_false p1,qB8,yas];rw [if_neg (fun x=>p1 x.1)] at k;exact k
 rw [decide_eq_true p1,qBq,yae,yBG (by omega) hb hb']
 by_cases p2:PT len bn bd
 case neg=>rw [decide_eq_false p2,qB8,yas];rw [if_neg (fun x=>p2 x.2.1)] at k;exact k
 rw [decide_eq_true p2,qBq,yae]
 obtain ⟨s1,e1,e2,_,_⟩:=p1.pt
 obtain ⟨s2,f1,f2,_,_⟩:=p2.pt
 have hless:=ygi s2 s1
 rw [e1,e2,f1,f2] at hless
 rw [hless]
 by_cases p3:rt bn bd<rt an ad
 ·rw [cbT p3];rw [if_neg (fun x=>x.2.2 p3)] at k;exact k
 rw [cbF p3]
 rw [if_pos ⟨p1,p2,p3⟩] at k
 rw [yih,ybP]
 refine ⟨dens.length+1,?_⟩
 have:=yBJ hv s2 0 0 yaL ycJ K dens.length 0 (dens.length+1) (rt an ad) 0 (by omega) (by omega) s1 (by decide)
 rw [e1,e2,f1,f2] at this
 exact this.mpr k
def mrkS (cuts dens:List Int):Nat→Nat→Rat→Rat→Except Int Rat
 | 0,_,_,_=>.error 6
 | r+1,i,p,v =>
  if ¬p<(cuts.getD (i+1) 0:Int) then mrkS cuts dens r (i+1) p v
  else if dens.getD i 0=0 then mrkS cuts dens r (i+1) (cuts.getD (i+1) 0:Int) v
  else fit ((cuts.getD (i+1) 0:Int)-p) fun l=>fit (l*(dens.getD i 0:Int)) fun w =>
   if w<v then fit (v-w) fun v'=>mrkS cuts dens r (i+1) (cuts.getD (i+1) 0:Int) v'
   else fit (v / (dens.getD i 0:Int)) fun s=>fit (p+s) .ok
def mrkC (cuts dens:List Int) (a v:Rat):Except Int Rat:=if v=0 then .ok a else mrkS cuts dens dens.length 0 a v
def mrkR (len:Int) (cuts dens:List Int) (an ad vn vd:Int):Except Int Rat :=
 if ckC len cuts dens=0 then (if PT len an ad∧RV vn vd∧0≤vn then mrkC cuts dens (rt an ad) (rt vn vd) else .error 2) else .error (ckC len cuts dens)
theorem yDG (h:VC len cuts dens) (W1:Int→List PV→List PV→(Int→Prop)→Prop) (W2:Int→List PV→List PV→Int→Int→(Bool→Prop)→Prop) (W3:Int→Int→(Int→Prop)→Prop) (K:Int→Int→Int→Prop) :
  ∀ (r i n:Nat) (p v:Rat) (o1 o2:Int),i+r=dens.length→r<n→small p→small v →
   ybK W1 W2 W3 ycH ycP ycj ybC yaW ya5
    (fun _ _ b d f a=>(cbr (a !=(0:Int)) (cbr (a !=(0:Int)) (K (0:Int) (0:Int) a) (K b d (0:Int))) (cbr (f !=(0:Int)) (K (0:Int) (0:Int) f) (K b d (0:Int)))))
    (fun _ _ j k g _ _ _ _ _ _ _ _ _=>(cbr (g !=(0:Int)) (K (0:Int) (0:Int) g) (K j k (0:Int))))
    n v.num v.den o1 o2 6 len (ints cuts) (ints dens) p.num p.den (ints dens) dens.length i=exK (mrkS cuts dens r i p v) K
 | 0,i,n+1,p,v,o1,o2,hi,hn,hp,hs=>by
  unfold ybK mrkS
  rw [cbF (by omega)];rfl
 | r+1,i,n+1,p,v,o1,o2,hi,hn,hp,hs=>by
  unfold ybK
  have l1:=h.l1;have l2:=h.l2
  have sc:=h.sc (i:=i+1) (by omega)
  have sd:=h.sd (i:=i) (by omega)
  have hd0:=h.den (i:=i) (by omega)
  have e1:=wib (n:=(i:Int)+1) (by omega) (by omega)
  rw [cbT (by omega),ybP,ybP,e1,ycR,qAg,qAg,asT (by omega),asT (by omega),asC (by omega),asT (by omega),asT (by omega),asC (by omega),ydI (by omega),ydI (by omega),yih,ygi hp sc]
  have ih:=fun p v o1 o2 hp hs=>yDG h W1 W2 W3 K r (i+1) n p v o1 o2 (by omega) (by omega) hp hs
  unfold mrkS
  obtain ⟨c,hc⟩:∃ c:Rat,c=((cuts.getD (i+1) 0:Int):Rat):=⟨_,rfl⟩
  rw [← hc] at sc ⊢
  by_cases hpc:p<c
  case neg=>rw [decide_eq_false hpc,qB8,yas,if_pos hpc];exact ih p v o1 o2 hp hs
  rw [decide_eq_true hpc,qBq,yae,if_neg (fun x=>x hpc),yih]
  by_cases hd:dens.getD i 0=0
  ·rw [cbF (by omega),ceT hd,if_pos hd];exact ih c v o1 o2 sc hs
  rw [cbT (by omega),if_neg hd,yzC sc hp,ygz]
  by_cases s1:small (c-p)
  case neg=>rw [if_neg s1,cnT (by decide),cnT (by decide),cnT (by decide),fit,if_neg s1];rfl
  rw [if_pos s1,cnF rfl,yih,yzA s1 sd,ygz,fit,if_pos s1]
  by_cases s2:small ((c-p)*(dens.getD i 0:Int))
  case neg=>rw [if_neg s2,cnT (by decide),cnT (by decide),cnT (by decide),fit,if_neg s2];rfl
  rw [if_pos s2,cnF rfl,ceF hd,ygi s2 hs,fit,if_pos s2]
  by_cases hw:(c-p)*(dens.getD i 0:Int)<v
  ·rw [cbT hw,if_pos hw,yzC hs s2,ygz,fit]
   by_cases s3:small (v-(c-p)*(dens.getD i 0:Int))
   ·rw [if_pos s3,if_pos s3,cnF rfl,cnF rfl];exact ih c _ o1 o2 sc s3
   ·rw [if_neg s3,if_neg s3,cnT (by decide),cnT (by decide),cnF rfl,cnT (by decide)];rfl
  ·have hdn:((dens.getD i 0:Int):Rat)≠0:=fun e=>hd (Rat.intCast_eq_zero_iff.1 e)
   rw [cbF hw,if_neg hw,yih,yIM hs sd hdn,ygz,fit]
   by_cases s3:small (v / (dens.getD i 0:Int))
   ·rw [if_pos s3,if_pos s3,ceT rfl,yzB hp s3,ygz,fit]
    by_cases s4:small (p+v / (dens.getD i 0:Int))
    ·rw [if_pos s4,if_pos s4,cnF rfl,cnF rfl];rfl
    ·rw [if_neg s4,if_neg s4,cnF rfl,cnT (by decide)];rfl
   ·rw [if_neg s3,if_neg s3,ceF (by decide),cnF rfl,cnT (by decide)];rfl
theorem yGD (h1:cuts.length<4611686018427387904) (h2:dens.length<4611686018427387904) {an ad vn vd:Int} (ha:I64 an) (ha':I64 ad) (hv:I64 vn) (hv':I64 vd) (K:Int→Int→Int→Prop) :
  yht len (ints cuts) (ints dens) an ad vn vd K=exK (mrkR len cuts dens an ad vn vd) K:=by
 refine yLi (fun r0 r1 r2 h K=>yCM _ _ _ _ _ _ _ r0 r1 r2 h K) (fun K k=>?_) K
 unfold yht yof
 rw [ykk h1 h2]
 unfold mrkR at k
 by_cases h:ckC len cuts dens=0
 case neg=>rw [cnT h];rw [if_neg h] at k;exact k
 have hc:=ywd h
 have hl:=hc.len0
 rw [if_pos h] at k
 rw [cnF h,yBG (by omega) ha ha']
 by_cases p1:PT len an ad
 case neg=>rw [decide_eq_false p1,qB8,yas];rw [if_neg (fun x=>p1 x.1)] at k;exact k
 rw [decide_eq_true p1,qBq,yae,yDF hv hv',chk]
 by_cases p2:RV vn vd
 case neg=>rw [if_neg p2,cnT (by decide)];rw [if_neg (fun x=>p2 x.2.1)] at k;exact k
 rw [if_pos p2,cnF rfl]
 by_cases p3:vn<0
 ·rw [cbT p3];rw [if_neg (fun x=>by omega)] at k;exact k
 rw [cbF p3]
 rw [if_pos ⟨p1,p2,by omega⟩] at k
 obtain ⟨s1,e1,e2,_,_⟩:=p1.pt
 obtain ⟨s2,f1,f2⟩:=ynE p2
 unfold mrkC at k
 by_cases p4:vn=0
 ·rw [ceT p4]
  rw [if_pos (Rat.num_eq_zero.1 (f1.trans p4))] at k
  have k:K (rt an ad).num (rt an ad).den 0:=k
  rw [e1,e2] at k
  exact k
 rw [ceF p4]
 rw [if_neg (fun x=>p4 (by rw [← f1,x];rfl))] at k
 rw [ybP]
 refine ⟨dens.length+1,?_⟩
 have:=yDG hc yaL ycJ yca K dens.length 0 (dens.length+1) (rt an ad) (rt vn vd) 0 0 (by omega) (by omega) s1 s2
 rw [e1,e2,f1,f2] at this
 exact this.mpr k
def okD (cuts dens:List Int) (i:Nat):Prop:=∀ j,i≤j→j<dens.length→cuts.getD j 0<cuts.getD (j+1) 0∧0≤dens.getD j 0∧dens.getD j 0≤12
theorem yqQ (l1:dens.length+1=cuts.length) (l2:dens.length<4611686018427387904) (x0:Int→Prop) (x1:Int→List PV→List PV→Bool→Int→Bool→Prop) (P:Prop)
  (hbad:¬okD cuts dens 0→x0 8=P) (hgood:∀ b:Bool,okD cuts dens 0→b=decide (∃ j,j<dens.length∧0<dens.getD j 0)→x1 len (ints cuts) (ints dens) b dens.length false=P) :
  ∀ (r i n:Nat) (b:Bool),i+r=dens.length→r<n→(∀ j,j<i→cuts.getD j 0<cuts.getD (j+1) 0∧0≤dens.getD j 0∧dens.getD j 0≤12)→b=decide (∃ j,j<i∧0<dens.getD j 0) →
   ydO x0 x1 n len (ints cuts) (ints dens) b i=P
 | 0,i,n+1,b,hi,hn,hj,hb=>by
  unfold ydO
  rw [ybP,cbF (by omega),show (i:Int)=dens.length by omega]
  refine hgood b (fun j _ h=>hj j (by omega)) ?_
  rw [hb,decide_eq_decide]
  rw [show i=dens.length by omega]
 | r+1,i,n+1,b,hi,hn,hj,hb=>by
  unfold ydO
  have e1:=wib (n:=(i:Int)+1) (by omega) (by omega)
  rw [ybP,ybP,cbT (by omega),e1,ycR,qAg,qAg,asT (by omega),asT (by omega),asC (by omega),asT (by omega),asT (by omega),asC (by omega),ydI (by omega),ydI (by omega)]
  have bad:¬(cuts.getD i 0<cuts.getD (i+1) 0∧0≤dens.getD i 0∧dens.getD i 0≤12)→x0 8=P:=fun h=>hbad fun hk=>h (hk i (by omega) (by omega))
  by_cases a1:cuts.getD (i+1) 0≤cuts.getD i 0
  ·rw [cbT a1];exact bad (by omega)
  rw [cbF a1,asT (by omega),asT (by omega),asC (by omega),ydI (by omega)]
  by_cases a2:dens.getD i 0<0
  ·rw [cbT a2];exact bad (by omega)
  rw [cbF a2,asT (by omega),asT (by omega),asC (by omega)]
  by_cases a3:dens.getD i 0>12
  ·rw [cbT a3];exact bad (by omega)
  rw [cbF a3]
  have hj2:∀ j,j<i+1→cuts.getD j 0<cuts.getD (j+1) 0∧0≤dens.getD j 0∧dens.getD j 0≤12:=by
   intro j hlt
   by_cases e:j=i
   ·subst e;omega
   ·exact hj j (by omega)
  have ex:∀ c:Bool,(c=true↔(b=true∨0<dens.getD i 0))→c=decide (∃ j,j<i+1∧0<dens.getD j 0):=by
   intro c hc
   rw [Bool.eq_iff_iff,hc,hb,decide_eq_true_iff,decide_eq_true_iff]
   constructor
   ·rintro (⟨j,h1,h2⟩ | h)
    ·exact ⟨j,by omega,h2⟩
    ·exact ⟨i,by omega,h⟩
   ·rintro ⟨j,h1,h2⟩
    by_cases e:j=i
    ·subst e;exact .inr h2
    ·exact .inl ⟨j,by omega,h2⟩
  cases b with
  | true =>
   rw [yas]
   exact yqQ l1 l2 x0 x1 P hbad hgood r (i+1) n true (by omega) (by omega) hj2 (ex _ (by simp))
  | false =>
   rw [yae,asT (by omega),asT (by omega),asC (by omega)]
   exact yqQ l1 l2 x0 x1 P hbad hgood r (i+1) n _ (by omega) (by omega) hj2 (ex _ (by simp))
theorem yDH (h1:cuts.length<4611686018427387904) (h2:dens.length<4611686018427387904) (K:Int→Prop) :
  ydf len (ints cuts) (ints dens) K=K (ckC len cuts dens):=by
 refine yCV _ _ _ _ (fun K k=>?_) K
 unfold ydf yop
 simp only [ybP]
 have bad:¬(len>1000∨cuts.length>40)→¬VC len cuts dens→K 8:=fun h h2=>by
  rw [ckC,if_neg h,if_neg h2] at k;exact k
 by_cases a1:len>1000
 ·rw [cbT a1];rw [ckC,if_pos (.inl a1)] at k;exact k
 rw [cbF a1]
 by_cases a2:cuts.length>40
 ·rw [cbT (by omega)];rw [ckC,if_pos (.inr a2)] at k;exact k
 have a12:¬(len>1000∨cuts.length>40):=by omega
 rw [cbF (by omega)]
 by_cases a3:len<1
 ·rw [cbT a3];exact bad a12 (fun h=>by have:=h.1;omega)
 rw [cbF a3]
 by_cases a4:cuts.length<2
 ·rw [cbT (by omega)];exact bad a12 (fun h=>by have:=h.2.2.1;omega)
 rw [cbF (by omega),wib (n:=(cuts.length:Int)-1) (by omega) (by omega)]
 by_cases a5:dens.length+1=cuts.length
 case neg=>rw [cnT (by omega)];exact bad a12 (fun h=>a5 h.2.2.2.2.1)
 rw [cnF (by omega),asT (by omega),asC (by omega),ydI (by omega)]
 by_cases a6:cuts.getD 0 0=0
 case neg=>rw [cnT a6];exact bad a12 (fun h=>a6 h.2.2.2.2.2.1)
 rw [cnF a6,asT (by omega),asT (by omega),asC (by omega),ydI (by omega)]
 have en:((cuts.length:Int)-1).toNat=cuts.length-1:=by omega
 rw [en]
 by_cases a7:cuts.getD (cuts.length-1) 0=len
 case neg=>rw [cnT a7];exact bad a12 (fun h=>a7 h.2.2.2.2.2.2.1)
 rw [cnF a7]
 have mem:∀ d,d∈dens↔∃ j,j<dens.length∧dens.getD j 0=d:=by
  intro d
  rw [List.mem_iff_getElem]
  constructor
  ·rintro ⟨j,hj,e⟩;exact ⟨j,hj,by rw [qAa,qAb hj];exact e⟩
  ·rintro ⟨j,hj,e⟩;exact ⟨j,hj,by rw [qAa,qAb hj] at e;exact e⟩
 refine ⟨dens.length+1,?_⟩
 refine (yqQ a5 h2 _ _ (K (ckC len cuts dens)) (fun hk=>?_) (fun b hk hb=>?_) dens.length 0 (dens.length+1) false (by omega) (by omega) (fun j h=>by omega) (by simp)).mpr k
 ·have hv:¬VC len cuts dens:=fun h=>hk fun j _ hj=>⟨h.step (by omega),h.den hj⟩
  rw [ckC,if_neg a12,if_neg hv]
 ·have hsome:yBF dens↔∃ j,j<dens.length∧0<dens.getD j 0:=by
   constructor
   ·rintro ⟨d,hd,h0⟩
    obtain ⟨j,hj,e⟩:=(mem d).1 hd
    exact ⟨j,hj,by rw [e];exact h0⟩
   ·rintro ⟨j,hj,h0⟩;exact ⟨_,(mem _).2 ⟨j,hj,rfl⟩,h0⟩
  have hv:VC len cuts dens↔yBF dens:=by
   refine ⟨fun h=>h.2.2.2.2.2.2.2.2.2,fun h=>⟨by omega,by omega,by omega,by omega,a5,a6,a7,fun j _ hj=>(hk j (by omega) (by omega)).1,fun d hd=>?_,h⟩⟩
   obtain ⟨j,hj,e⟩:=(mem d).1 hd
   rw [← e];exact (hk j (by omega) hj).2
  rw [ckC,if_neg a12]
  by_cases hs:yBF dens
  ·rw [if_pos (hv.2 hs),hb,decide_eq_true (hsome.1 hs)];rfl
  ·rw [if_neg (fun x=>hs (hv.1 x)),hb,decide_eq_false (fun x=>hs (hsome.2 x))];rfl
theorem ymW {α:Type} {q:Rat} {k:Rat→Except Int α} (h:small q):fit q k=k q:=if_pos h
theorem yFi {q:Rat} {K:Int→Int→Int→Prop}:exK (.ok q) K=K q.num q.den 0:=rfl
theorem yLj {c:Int} {K:Int→Int→Int→Prop}:exK (.error c) K=K 0 0 c:=rfl
end
structure Ck where
 len:Int
 cuts:List Int
 dens:List Int
instance:Inhabited Ck:=⟨⟨0,[],[]⟩⟩
def encC (c:Ck):PV:=.agg [.int .i64 c.len,.data (ints c.cuts),.data (ints c.dens)]
def cks (l:List Ck):List PV:=l.map encC
def Ck.fin (c:Ck):Prop:=c.cuts.length<4611686018427387904∧c.dens.length<4611686018427387904
def Ck.err (c:Ck):Int:=ckC c.len c.cuts c.dens
def Ck.ok (c:Ck):Prop:=VC c.len c.cuts c.dens
instance (c:Ck):Decidable c.ok:=by unfold Ck.ok;infer_instance
theorem ya8 (l:List Ck):(cks l).length=l.length:=qAf ..
theorem yej {l:List Ck} {i:Nat} (h:i<l.length):List.getD (cks l) i .nils=encC (l.getD i default):=by
 unfold cks
 rw [qAa,qAa,qAz,qAb h]
 rfl
theorem ydr {α:Type} {l:List α} {i:Nat} (d:α) (h:i<l.length):l.drop i=l.getD i d::l.drop (i+1):=by
 rw [List.drop_eq_getElem_cons h,qAa,qAb h];rfl
theorem asCk {c:Ck} {P:Prop}:asr (conf zK (encC c)) P=P:=rfl
theorem ck0 (c:Ck):yaa (yab (encC c) 0)=c.len:=rfl
theorem ck1 (c:Ck):yaI (yab (encC c) 1)=ints c.cuts:=rfl
theorem ck2 (c:Ck):yaI (yab (encC c) 2)=ints c.dens:=rfl
def ygN:List Ck→Int
 | []=>0
 | c::t=>if c.err=0 then ygN t else c.err
def ylj (n:Int):List Ck→Bool
 | []=>true
 | c::t=>decide (c.len=n)&&ylj n t
def ygY (l:List Ck) (m:Nat):Int :=
 if l.length>6 then 4 else if m>2000 then 4 else if l.length=0 then 8 else if ygN l=0 then (if ylj (l.getD 0 default).len l then 0 else 8) else ygN l
section
variable {l:List Ck}
def finC (l:List Ck):Prop:=∀ i,i<l.length→(l.getD i default).fin
theorem yIR (hf:finC l) (hl:l.length<4611686018427387904) (x0:Int→Prop) (x1:List PV→List PV→List PV→Int→Int→Bool→Prop) (lg:List PV) :
  ∀ (r i n:Nat),i+r=l.length→r<n→yep yaL x0 x1 n (cks l) lg (cks l) l.length i =
   if ygN (l.drop i)=0 then x1 (cks l) lg (cks l) l.length l.length false else x0 (ygN (l.drop i))
 | 0,i,n+1,hi,hn=>by
  unfold yep
  rw [cbF (by omega),qA5 (by omega),show (i:Int)=l.length by omega];rfl
 | r+1,i,n+1,hi,hn=>by
  unfold yep
  have e1:=wib (n:=(i:Int)+1) (by omega) (by omega)
  obtain ⟨f1,f2⟩:=hf i (by omega)
  rw [cbT (by omega),ya8,qAg,yej (by omega),asT (by omega),asT (by omega),asCk,ck0,ck1,ck2,ykk (by omega) (by omega),ydr default (by omega),ygN,e1,ycR]
  show cbr ((l.getD i default).err != 0) _ _=_
  by_cases h:(l.getD i default).err=0
  ·rw [cnF h,if_pos h];exact yIR hf hl x0 x1 lg r (i+1) n (by omega) (by omega)
  ·rw [cnT h,if_neg h,if_neg h];rfl
theorem yIS (hl:l.length<4611686018427387904) (x0:Int→Prop) (x1:List PV→List PV→List PV→Int→Int→Bool→Prop) (lg:List PV) (W) :
  ∀ (r i n:Nat),i+r=l.length→r<n→ydN W x0 x1 n (cks l) lg (cks l) l.length i =
   if ylj (l.getD 0 default).len (l.drop i) then x1 (cks l) lg (cks l) l.length l.length false else x0 8
 | 0,i,n+1,hi,hn=>by
  unfold ydN
  rw [cbF (by omega),qA5 (by omega),show (i:Int)=l.length by omega];rfl
 | r+1,i,n+1,hi,hn=>by
  unfold ydN
  have e1:=wib (n:=(i:Int)+1) (by omega) (by omega)
  rw [cbT (by omega),ya8,qAg,yej (by omega),yej (by omega),asT (by omega),asT (by omega),asCk,asT (by omega),asCk,ck0,ck0,ydr default (by omega),ylj,e1,ycR]
  by_cases h:(l.getD i default).len=(l.getD 0 default).len
  ·rw [cnF h,decide_eq_true h,qBm];exact yIS hl x0 x1 lg W r (i+1) n (by omega) (by omega)
  ·rw [cnT h,decide_eq_false h,qBs,if_neg (by simp)]
theorem yiU (hf:finC l) (hl:l.length<4611686018427387904) (lg:List PV) (K:Int→Prop):yaS (cks l) lg K=K (ygY l lg.length):=by
 refine yCT _ _ _ (fun K k=>?_) K
 unfold yaS yoj
 unfold ygY at k
 rw [ya8]
 by_cases a1:l.length>6
 ·rw [cbT (by omega)];rw [if_pos a1] at k;exact k
 rw [cbF (by omega)];rw [if_neg a1] at k
 by_cases a2:lg.length>2000
 ·rw [cbT (by omega)];rw [if_pos a2] at k;exact k
 rw [cbF (by omega)];rw [if_neg a2] at k
 by_cases a3:l.length=0
 ·rw [ceT (by omega)];rw [if_pos a3] at k;exact k
 rw [ceF (by omega)];rw [if_neg a3] at k
 refine ⟨l.length+1,?_⟩
 have h0:=yIR hf hl (fun c=>K c) (fun a d o p q r=>(∃ e:Nat,ydN yaL (fun b=>(K b)) (fun f g i j m n=>(K (0:Int))) e a d a (((List.length a):Nat):Int) (0:Int))) lg l.length 0 (l.length+1) (by omega) (by omega)
 rw [show ((0:Nat):Int)=0 from rfl,qBi] at h0
 rw [h0]
 by_cases a4:ygN l=0
 ·rw [if_pos a4] at k ⊢
  refine ⟨l.length+1,?_⟩
  have h1:=yIS hl (fun b=>(K b)) (fun f g i j m n=>(K (0:Int))) lg yaL l.length 0 (l.length+1) (by omega) (by omega)
  rw [show ((0:Nat):Int)=0 from rfl,qBi] at h1
  rw [ya8,h1]
  split at k <;> rename_i h <;> simp only [h] <;> exact k
 ·rw [if_neg a4] at k ⊢;exact k
theorem yIT (hf:finC l) (hl:l.length<4611686018427387904) (x0:Int→Prop) (x1:List PV→List PV→Int→Bool→Prop) (lg:List PV) :
  ∀ (r i n:Nat),i+r=l.length→r<n→yeq ydf x0 x1 n (cks l) lg i =
   if ygN (l.drop i)=0 then x1 (cks l) lg l.length false else x0 (ygN (l.drop i))
 | 0,i,n+1,hi,hn=>by
  unfold yeq
  rw [ya8,cbF (by omega),qA5 (by omega),show (i:Int)=l.length by omega];rfl
 | r+1,i,n+1,hi,hn=>by
  unfold yeq
  have e1:=wib (n:=(i:Int)+1) (by omega) (by omega)
  obtain ⟨f1,f2⟩:=hf i (by omega)
  rw [ya8,cbT (by omega),qAg,yej (by omega),asT (by omega),asT (by omega),asCk,ck0,ck1,ck2,yDH (by omega) (by omega),ydr default (by omega),ygN,e1,ycR]
  show cbr ((l.getD i default).err != 0) _ _=_
  by_cases h:(l.getD i default).err=0
  ·rw [cnF h,if_pos h];exact yIT hf hl x0 x1 lg r (i+1) n (by omega) (by omega)
  ·rw [cnT h,if_neg h,if_neg h,asT (by omega),asT (by omega),asCk,yDH (by omega) (by omega)];rfl
theorem yIU (hl:l.length<4611686018427387904) (x0:Int→Prop) (x1:List PV→List PV→Int→Bool→Prop) (lg:List PV) (W) :
  ∀ (r i n:Nat),i+r=l.length→r<n→ydP W x0 x1 n (cks l) lg i =
   if ylj (l.getD 0 default).len (l.drop i) then x1 (cks l) lg l.length false else x0 8
 | 0,i,n+1,hi,hn=>by
  unfold ydP
  rw [ya8,cbF (by omega),qA5 (by omega),show (i:Int)=l.length by omega];rfl
 | r+1,i,n+1,hi,hn=>by
  unfold ydP
  have e1:=wib (n:=(i:Int)+1) (by omega) (by omega)
  rw [ya8,cbT (by omega),qAg,yej (by omega),yej (by omega),asT (by omega),asT (by omega),asCk,asT (by omega),asCk,ck0,ck0,ydr default (by omega),ylj,e1,ycR]
  by_cases h:(l.getD i default).len=(l.getD 0 default).len
  ·rw [cnF h,decide_eq_true h,qBm];exact yIU hl x0 x1 lg W r (i+1) n (by omega) (by omega)
  ·rw [cnT h,decide_eq_false h,qBs,if_neg (by simp)]
theorem yJZ (hf:finC l) (hl:l.length<4611686018427387904) (lg:List PV) (K:Int→Prop):yge (cks l) lg K=K (ygY l lg.length):=by
 refine yCW _ _ _ (fun K k=>?_) K
 unfold yge yor
 unfold ygY at k
 rw [ya8]
 by_cases a1:l.length>6
 ·rw [cbT (by omega)];rw [if_pos a1] at k;exact k
 rw [cbF (by omega)];rw [if_neg a1] at k
 by_cases a2:lg.length>2000
 ·rw [cbT (by omega)];rw [if_pos a2] at k;exact k
 rw [cbF (by omega)];rw [if_neg a2] at k
 by_cases a3:l.length=0
 ·rw [ceT (by omega)];rw [if_pos a3] at k;exact k
 rw [ceF (by omega)];rw [if_neg a3] at k
 refine ⟨l.length+1,?_⟩
 have h0:=yIT hf hl (fun b=>K b) (fun c d m n=>(∃ e:Nat,ydP ydf (fun a=>(K a)) (fun f g i j=>(K (0:Int))) e c d (0:Int))) lg l.length 0 (l.length+1) (by omega) (by omega)
 rw [show ((0:Nat):Int)=0 from rfl,qBi] at h0
 rw [h0]
 by_cases a4:ygN l=0
 ·rw [if_pos a4] at k ⊢
  refine ⟨l.length+1,?_⟩
  have h1:=yIU hl (fun a=>(K a)) (fun f g i j=>(K (0:Int))) lg ydf l.length 0 (l.length+1) (by omega) (by omega)
  rw [show ((0:Nat):Int)=0 from rfl,qBi] at h1
  rw [h1]
  split at k <;> rename_i h <;> simp only [h] <;> exact k
 ·rw [if_neg a4] at k ⊢;exact k
def Ck.low (c:Ck):Prop:=c.cuts.length≤1000∧c.dens.length≤1000
def lowC (l:List Ck):Prop:=∀ i,i<l.length→(l.getD i default).low
theorem yGE (l:List Int):yd9 1 (ints l)=true:=by cases l <;> rfl
theorem ywe {l:List Int} (h:l.length≤1000) (K:List PV→Prop):yeD (ints l) K=K (ints l):=by
 show asr (yjX 1 8 (ints l)) (K (ints l))=_
 have:yjX 1 8 (ints l)=true:=by
  unfold yjX
  rw [yGE,ybP,qBm,decide_eq_true_iff]
  unfold room;omega
 rw [this,yaO]
theorem asTT {c:Bool} {P:Prop} (h:c=true):asr c P=P:=by rw [h,yaO]
theorem yIV (hf:lowC l) (hl:l.length≤1000) (x0:List PV→List PV→Int→Int→Bool→Prop) (x1:List PV→Int→Int→Bool→Prop) :
  ∀ (r i n:Nat) (acc:List PV),i+r=l.length→r<n→acc.length≤i→yd5 yeD x0 x1 n acc (cks l) l.length i=x0 (acc++cks (l.drop i)) (cks l) l.length l.length false
 | 0,i,n+1,acc,hi,hn,ha=>by
  unfold yd5
  rw [cbF (by omega),qA5 (by omega),show (i:Int)=l.length by omega]
  show _=x0 (acc++[]) _ _ _ _
  rw [qBk]
 | r+1,i,n+1,acc,hi,hn,ha=>by
  unfold yd5
  have e1:=wib (n:=(i:Int)+1) (by omega) (by omega)
  obtain ⟨f1,f2⟩:=hf i (by omega)
  rw [cbT (by omega),ya8,qAg,yej (by omega),asT (by omega),asT (by omega),asCk,ck0,ck1,ck2,ywe f1,ywe f2,asT rfl,asT (by omega),asTT (by rw [decide_eq_false (by omega)];rfl),asT rfl,asT (by unfold room;omega),asTT (by simp),e1,ycR]
  rw [yIV hf hl x0 x1 r (i+1) n _ (by omega) (by omega) (by simp;omega),ydr (i:=i) default (by omega),qAj];rfl
theorem yxS (hf:lowC l) (hl:l.length≤1000) (K:List PV→Prop):yeJ (cks l) K=K (cks l):=by
 refine yA7 _ _ (fun K k=>?_) K
 unfold yeJ ymy
 cases hc:l with
 | nil =>
  refine ⟨0+1,?_⟩
  rw [hc] at k
  rw [ygw,ya8,cbF (by simp)]
  exact k
 | cons c t =>
  rw [← hc]
  have h0:0<l.length:=by rw [hc];exact Nat.zero_lt_succ _
  refine ⟨(l.length+1)+1,?_⟩
  rw [ygw]
  obtain ⟨f1,f2⟩:=hf 0 (by omega)
  have e1:=wib (n:=(0:Int)+1) (by omega) (by omega)
  rw [ya8,cbT (by omega),show (0:Int).toNat=0 from rfl,yej (by omega),asT (by omega),asT (by omega),asCk,ck0,ck1,ck2,ywe f1,ywe f2,asTT (by simp),e1,show (0:Int)+1=((0+1:Nat):Int) from rfl]
  rw [yIV hf hl _ _ (l.length-1) (0+1) (l.length+1) _ (by omega) (by omega) (by simp)]
  have e:[PV.agg [PV.int IntKind.i64 (l.getD 0 default).len,PV.data (ints (l.getD 0 default).cuts),PV.data (ints (l.getD 0 default).dens)]]++cks (l.drop (0+1))=cks l:=by
   conv=>rhs;rw [← qBi (l:=l),ydr default h0]
   rfl
  rw [e,asT rfl,asT (by omega),List.take_length]
  exact k
theorem yyv:∀ (l:List Ck),ygN l=0→∀ i,i<l.length→(l.getD i default).ok
 | c::t,h,0,_=>by
  unfold ygN at h
  split at h
  ·rename_i h1;exact ywd h1
  ·rename_i h1;exact absurd h h1
 | c::t,h,i+1,hi=>by
  unfold ygN at h
  split at h
  ·exact yyv t h i (by simpa using hi)
  ·rename_i h1;exact absurd h h1
theorem yBK {n:Int}:∀ (l:List Ck),ylj n l=true→∀ i,i<l.length→(l.getD i default).len=n
 | c::t,h,0,_=>by
  unfold ylj at h
  simp only [qAe,decide_eq_true_eq] at h
  exact h.1
 | c::t,h,i+1,hi=>by
  unfold ylj at h
  simp only [qAe,decide_eq_true_eq] at h
  exact yBK t h.2 i (by simpa using hi)
structure DK (l:List Ck):Prop where
 n6:l.length≤6
 n0:1≤l.length
 ok:∀ i,i<l.length→(l.getD i default).ok
 len:∀ i,i<l.length→(l.getD i default).len=(l.getD 0 default).len
theorem ylk {m:Nat} (h:ygY l m=0):DK l∧m≤2000:=by
 unfold ygY at h
 split at h
 ·omega
 split at h
 ·omega
 split at h
 ·omega
 split at h
 ·rename_i h0 h1 h2 h3
  split at h
  ·rename_i h4
   exact ⟨⟨by omega,by omega,yyv l h3,yBK l h4⟩,by omega⟩
  ·omega
 ·rename_i h3;exact absurd h h3
theorem DK.err {l:List Ck} (h:DK l) {m:Nat} (hm:m≤2000):ygY l m=0:=by
 have f:∀ l:List Ck,(∀ i,i<l.length→(l.getD i default).ok)→ygN l=0:=by
  intro l
  induction l with
  | nil=>intro _;rfl
  | cons c t ih =>
   intro h
   unfold ygN
   rw [if_pos (show c.err=0 from (h 0 (Nat.zero_lt_succ _)).ck)]
   exact ih fun i hi=>h (i+1) (by simpa using hi)
 have g:∀ (n:Int) (l:List Ck),(∀ i,i<l.length→(l.getD i default).len=n)→ylj n l=true:=by
  intro n l
  induction l with
  | nil=>intro _;rfl
  | cons c t ih =>
   intro h
   unfold ylj
   rw [qAe,decide_eq_true_eq]
   exact ⟨h 0 (Nat.zero_lt_succ _),ih fun i hi=>h (i+1) (by simpa using hi)⟩
 have:=h.n6;have:=h.n0
 unfold ygY
 rw [if_neg (by omega),if_neg (by omega),if_neg (by omega),if_pos (f l h.ok),if_pos (g _ l h.len)]
theorem DK.low {l:List Ck} (h:DK l):lowC l:=fun i hi=>by
 have h1:=(h.ok i hi).l1;have h2:=(h.ok i hi).l2
 exact ⟨by omega,by omega⟩
theorem DK.fin {l:List Ck} (h:DK l):finC l:=fun i hi=>by
 have h1:=(h.ok i hi).l1;have h2:=(h.ok i hi).l2
 exact ⟨by omega,by omega⟩
theorem yLk (hf:finC l) (hl:l.length<4611686018427387904) (K:List PV→List PV→Int→Prop):yhg (cks l) K=if ygY l 0=0 then K (cks l) [] 0 else K [] [] (ygY l 0):=by
 unfold yhg yqd
 rw [yiU hf hl]
 show cbr (ygY l 0 != 0) _ _=_
 by_cases h:ygY l 0=0
 ·have hd:=(ylk h).1
  rw [cnF h,if_pos h,yxS hd.low (by have:=hd.n6;omega)]
 ·rw [cnT h,if_neg h];rfl
def qrow (agent kind an ad bn bd cn cd:Int):PV:=.agg [.int .i64 agent,.int .u8 kind,.int .i64 an,.int .i64 ad,.int .i64 bn,.int .i64 bd,.int .i64 cn,.int .i64 cd]
def qryR (l:List Ck) (m:Nat) (agent:Int) (ans:Ck→Except Int Rat):Except Int Rat :=
 if ygY l m=0 then (if 0≤agent∧agent<l.length then (match ans (l.getD agent.toNat default) with
  | .ok p=>if m≥2000 then .error 4 else .ok p
  | .error e=>.error e) else .error 2) else .error (ygY l m)
def qryK (l:List Ck) (lg:List PV) (row:Rat→PV) (e:Except Int Rat) (K:List PV→List PV→Int→Int→Int→Prop):Prop :=
 match e with
 | .ok p=>K (cks l) (lg++[row p]) p.num p.den 0
 | .error c=>K [] [] 0 0 c
theorem yMY {w:(List PV→List PV→Int→Int→Int→Prop)→Prop} {l:List Ck} {lg:List PV} {row:Rat→PV} {e:Except Int Rat} (det:∀ r0 r1 r2 r3 r4,(∀ K:List PV→List PV→Int→Int→Int→Prop,K r0 r1 r2 r3 r4→w K)→∀ K,w K=K r0 r1 r2 r3 r4)
  (h:∀ K,qryK l lg row e K→w K) (K):w K=qryK l lg row e K:=by
 cases e with
 | ok q=>exact det _ _ _ _ _ h K
 | error c=>exact det _ _ _ _ _ h K
theorem mk1 {z q:PV} {lg:List PV} {m:Nat} (hm:m=lg.length) :
  List.take ((0+m)+1) ((List.take (0+(0+m)) (lg++(List.drop (0+m) (List.replicate (m+1) z))))++(([q]:List PV)++(List.drop ((0+(0+m))+1) (lg++(List.drop (0+m) (List.replicate (m+1) z))))))=lg++[q]:=by
 subst hm
 simp
 rw [qA2 (by simp)]
theorem yFj (lg:List PV) (agent:Int) (K:Bool→Prop):ybN (cks l) lg agent K=K (decide (0≤agent∧agent<l.length)):=by
 unfold ybN yhV
 rw [ya8]
 by_cases h:agent≥0
 ·rw [cbT h]
  congr 1
  rw [decide_eq_decide];omega
 ·rw [cbF h,decide_eq_false (by omega)]
def Ck.mark (an ad vn vd:Int) (c:Ck):Except Int Rat:=mrkR c.len c.cuts c.dens an ad vn vd
def Ck.value (an ad bn bd:Int) (c:Ck):Except Int Rat:=valR c.len c.cuts c.dens an ad bn bd
theorem yLl (hf:finC l) (hl:l.length<4611686018427387904) {lg:List PV} (hlg:yd9 8 lg=true) {agent an ad vn vd:Int} (ha:I64 an) (ha':I64 ad) (hv:I64 vn) (hv':I64 vd) (K) :
  yeS (cks l) lg agent an ad vn vd K=qryK l lg (fun p=>qrow agent 2 an ad vn vd p.num p.den) (qryR l lg.length agent (Ck.mark an ad vn vd)) K:=by
 refine yMY (fun r0 r1 r2 r3 r4 h K=>yEX _ _ _ _ _ _ _ r0 r1 r2 r3 r4 h K) (fun K k=>?_) K
 unfold yeS yqf
 unfold qryR at k
 rw [yiU hf hl]
 by_cases h:ygY l lg.length=0
 case neg=>rw [cnT h];rw [if_neg h] at k;exact k
 obtain ⟨hd,hm⟩:=ylk h
 rw [if_pos h] at k
 rw [cnF h,yFj]
 by_cases h2:0≤agent∧agent<l.length
 case neg=>rw [decide_eq_false h2,qB8,yas];rw [if_neg h2] at k;exact k
 rw [if_pos h2] at k
 obtain ⟨a,rfl⟩:∃ a:Nat,agent=a:=⟨agent.toNat,by omega⟩
 have ha2:a<l.length:=by omega
 rw [qAg] at k
 obtain ⟨f1,f2⟩:=hf a ha2
 rw [decide_eq_true h2,qBq,yae,ych,yfw,ya8,qAg,yej ha2,asT (by omega),asT (by omega),asCk,ck0,ck1,ck2,yGD (by omega) (by omega) ha ha' hv hv']
 have em:Ck.mark an ad vn vd (l.getD a default)=mrkR (l.getD a default).len (l.getD a default).cuts (l.getD a default).dens an ad vn vd:=rfl
 rw [em] at k
 cases hr:mrkR (l.getD a default).len (l.getD a default).cuts (l.getD a default).dens an ad vn vd with
 | error c =>
  rw [hr] at k
  have k:K [] [] 0 0 c:=k
  rw [yLj]
  have hc:c≠0:=by
   intro hc
   subst hc
   unfold mrkR at hr
   split at hr
   ·split at hr
    ·unfold mrkC at hr
     split at hr
     ·cases hr
     ·have no:∀ (r i:Nat) (p v:Rat),mrkS (l.getD a default).cuts (l.getD a default).dens r i p v≠.error 0:=by
       intro r
       induction r with
       | zero=>intro i p v e;unfold mrkS at e;cases e
       | succ r ih =>
        intro i p v e
        unfold mrkS fit at e
        repeat' (first | split at e | dsimp only at e)
        all_goals first | exact ih _ _ _ e | cases e
      exact no _ _ _ _ hr
    ·cases hr
   ·rename_i h5;exact h5 (Except.error.inj hr)
  rw [cnT hc];exact k
 | ok p =>
  rw [hr] at k
  rw [yFi,cnF rfl]
  by_cases h3:lg.length≥2000
  ·rw [cbT (by omega)]
   have k:qryK l lg _ (if lg.length≥2000 then .error 4 else .ok p) K:=k
   rw [if_pos h3] at k;exact k
  ·have k:qryK l lg _ (if lg.length≥2000 then .error 4 else .ok p) K:=k
   rw [if_neg h3] at k
   have k:K (cks l) (lg++[qrow a 2 an ad vn vd p.num p.den]) p.num p.den 0:=k
   have e1:=wib (n:=(lg.length:Int)+1) (by omega) (by omega)
   have e2:((lg.length:Int)+1).toNat=lg.length+1:=by omega
   rw [cbF (by omega),e1,e2,asT (by omega),asT (by unfold room;omega),yxS hd.low (by have:=hd.n6;omega),hlg,yaO]
   rw [asT (by simp),asT (by omega)]
   cases hlg2:lg with
   | nil =>
    rw [List.isEmpty_nil,yas,asT (by simp),asT (by simp),asT (by simp),asT (by simp),asT (by simp)]
    rw [hlg2] at k
    exact k
   | cons x t =>
    rw [← hlg2,show List.isEmpty lg=false by rw [hlg2];rfl,yae,asT (by omega),asT (by simp),asT (by omega),asT (by omega),asT (by simp),asT (by omega)]
    rw [mk1 rfl]
    exact k
theorem yLm (cuts dens:List Int) (b:Rat):∀ (r i:Nat) (p v:Rat),valS cuts dens b r i p v≠.error 0:=by
 intro r
 induction r with
 | zero=>intro i p v e;unfold valS at e;cases e
 | succ r ih =>
  intro i p v e
  unfold valS fit at e
  repeat' (first | split at e | dsimp only at e)
  all_goals first | exact ih _ _ _ e | cases e
theorem yLn {len:Int} {cuts dens:List Int} {an ad vn vd:Int}:valR len cuts dens an ad vn vd≠.error 0:=by
 intro hr
 unfold valR at hr
 split at hr
 ·split at hr
  ·exact yLm _ _ _ _ _ _ _ hr
  ·cases hr
 ·rename_i h5;exact h5 (Except.error.inj hr)
theorem yJ0 (hf:finC l) (hl:l.length<4611686018427387904) {lg:List PV} (hlg:yd9 8 lg=true) {agent an ad vn vd:Int} (ha:I64 an) (ha':I64 ad) (hv:I64 vn) (hv':I64 vd) (K) :
  yeK (cks l) lg agent an ad vn vd K=qryK l lg (fun p=>qrow agent 1 an ad vn vd p.num p.den) (qryR l lg.length agent (Ck.value an ad vn vd)) K:=by
 refine yMY (fun r0 r1 r2 r3 r4 h K=>yCU _ _ _ _ _ _ _ r0 r1 r2 r3 r4 h K) (fun K k=>?_) K
 unfold yeK yom
 unfold qryR at k
 rw [yiU hf hl]
 by_cases h:ygY l lg.length=0
 case neg=>rw [cnT h];rw [if_neg h] at k;exact k
 obtain ⟨hd,hm⟩:=ylk h
 rw [if_pos h] at k
 rw [cnF h,yFj]
 by_cases h2:0≤agent∧agent<l.length
 case neg=>rw [decide_eq_false h2,qB8,yas];rw [if_neg h2] at k;exact k
 rw [if_pos h2] at k
 obtain ⟨a,rfl⟩:∃ a:Nat,agent=a:=⟨agent.toNat,by omega⟩
 have ha2:a<l.length:=by omega
 rw [qAg] at k
 obtain ⟨f1,f2⟩:=hf a ha2
 rw [decide_eq_true h2,qBq,yae,ybU,ye3,ya8,qAg,yej ha2,asT (by omega),asT (by omega),asCk,ck0,ck1,ck2,yxR (by omega) (by omega) ha ha' hv hv']
 have em:Ck.value an ad vn vd (l.getD a default)=valR (l.getD a default).len (l.getD a default).cuts (l.getD a default).dens an ad vn vd:=rfl
 rw [em] at k
 cases hr:valR (l.getD a default).len (l.getD a default).cuts (l.getD a default).dens an ad vn vd with
 | error c =>
  rw [hr] at k
  have k:K [] [] 0 0 c:=k
  rw [yLj]
  have hc:c≠0:=fun hc=>yLn (hc ▸ hr)
  rw [cnT hc];exact k
 | ok p =>
  rw [hr] at k
  rw [yFi,cnF rfl]
  by_cases h3:lg.length≥2000
  ·rw [cbT (by omega)]
   have k:qryK l lg _ (if lg.length≥2000 then .error 4 else .ok p) K:=k
   rw [if_pos h3] at k;exact k
  ·have k:qryK l lg _ (if lg.length≥2000 then .error 4 else .ok p) K:=k
   rw [if_neg h3] at k
   have k:K (cks l) (lg++[qrow a 1 an ad vn vd p.num p.den]) p.num p.den 0:=k
   have e1:=wib (n:=(lg.length:Int)+1) (by omega) (by omega)
   have e2:((lg.length:Int)+1).toNat=lg.length+1:=by omega
   rw [cbF (by omega),e1,e2,asT (by omega),asT (by unfold room;omega),yxS hd.low (by have:=hd.n6;omega),hlg,yaO]
   rw [asT (by simp),asT (by omega)]
   cases hlg2:lg with
   | nil =>
    rw [List.isEmpty_nil,yas,asT (by simp),asT (by simp),asT (by simp),asT (by simp),asT (by simp)]
    rw [hlg2] at k
    exact k
   | cons x t =>
    rw [← hlg2,show List.isEmpty lg=false by rw [hlg2];rfl,yae,asT (by omega),asT (by simp),asT (by omega),asT (by omega),asT (by simp),asT (by omega)]
    rw [mk1 rfl]
    exact k
def yt7 (l:List Ck):Bool:=l.any (fun c=>decide (c.cuts.length>60)||decide (c.dens.length>60))||decide (l.length>10)
theorem yJ1 {len:Int} {cuts dens:List Int} (K:Bool→Prop):ygd len (ints cuts) (ints dens) K=K (decide (cuts.length>60)||decide (dens.length>60)):=by
 unfold ygd yoo
 rw [ybP,ybP]
 by_cases h:cuts.length>60
 ·rw [cbT (by omega),decide_eq_true h];rfl
 ·rw [cbF (by omega),decide_eq_false h,Bool.false_or]
  congr 1;rw [decide_eq_decide];omega
theorem ypc (hl:l.length≤9223372036854775807) (K:Bool→Prop) :
  ∀ (r i n:Nat),i+r=l.length→r<n→ycQ ygd (fun a=>(K a)) (fun b _ _=>(K (decide ((((List.length b):Nat):Int)>(10:Int))))) n (cks l) i =
   K ((l.drop i).any (fun c=>decide (c.cuts.length>60)||decide (c.dens.length>60))||decide (l.length>10))
 | 0,i,n+1,hi,hn=>by
  unfold ycQ
  rw [ya8,cbF (by omega),qA5 (by omega)]
  show K _=K (false||_)
  rw [Bool.false_or]
  congr 1;rw [decide_eq_decide];omega
 | r+1,i,n+1,hi,hn=>by
  unfold ycQ
  have e1:=wib (n:=(i:Int)+1) (by omega) (by omega)
  rw [ya8,cbT (by omega),qAg,yej (by omega),asT (by omega),asT (by omega),asCk,ck0,ck1,ck2,yJ1,ydr default (by omega),List.any_cons,e1,ycR]
  cases hb:(decide ((l.getD i default).cuts.length>60)||decide ((l.getD i default).dens.length>60)) with
  | true=>rw [yas];rfl
  | false=>rw [yae,Bool.false_or];exact ypc hl K r (i+1) n (by omega) (by omega)
theorem yC4 (hl:l.length≤9223372036854775807) (K:Bool→Prop):yd7 (cks l) K=K (yt7 l):=by
 refine ytA _ _ (fun K k=>?_) K
 unfold yd7 yhW
 refine ⟨l.length+1,?_⟩
 have:=ypc hl K l.length 0 (l.length+1) (by omega) (by omega)
 rw [show ((0:Nat):Int)=0 from rfl,qBi] at this
 rw [this];exact k
theorem yHY (h:yt7 l=false):l.length≤10∧lowC l∧finC l:=by
 unfold yt7 at h
 simp only [Bool.or_eq_false_iff,decide_eq_false_iff_not,List.any_eq_false,Bool.not_eq_true,Nat.not_lt] at h
 have hh:∀ i,i<l.length→(l.getD i default).cuts.length≤60∧(l.getD i default).dens.length≤60:=by
  intro i hi
  have hm:l.getD i default∈l:=by rw [qAa,qAb hi];exact qBb hi
  have:=h.1 _ hm
  omega
 exact ⟨by omega,fun i hi=>⟨by have:=hh i hi;omega,by have:=hh i hi;omega⟩,fun i hi=>⟨by have:=hh i hi;omega,by have:=hh i hi;omega⟩⟩
theorem yJ2 {n d:Int} (hn:-1000000000000000000≤n∧n≤1000000000000000000) (hd:1≤d∧d≤1000000000000000000):small ((n:Rat) / (d:Rat)):=by
 have e:(n:Rat) / (d:Rat)=mkRat n d.toNat:=by
  rw [Rat.mkRat_eq_div]
  have h1:((d.toNat:Nat):Int)=d:=by omega
  have h2:((d.toNat:Nat):Rat)=(d:Rat):=by rw [← Rat.intCast_natCast,h1]
  rw [h2]
 rw [e]
 unfold small
 rw [Rat.num_mkRat,Rat.den_mkRat,if_neg (by omega),if_neg (by omega)]
 have g0:0<d.toNat.gcd n.natAbs:=Nat.gcd_pos_of_pos_left _ (by omega)
 have h1:(n / (d.toNat.gcd n.natAbs:Nat)).natAbs≤n.natAbs:=by
  rw [Int.natAbs_ediv_of_dvd,Int.natAbs_natCast]
  ·exact Nat.div_le_self _ _
  ·rw [← Int.dvd_natAbs,Int.ofNat_dvd];exact Nat.gcd_dvd_right _ _
 have h2:d.toNat / d.toNat.gcd n.natAbs≤d.toNat:=Nat.div_le_self _ _
 generalize n / (d.toNat.gcd n.natAbs:Nat)=x at *
 generalize d.toNat / d.toNat.gcd n.natAbs=y at *
 omega
end
theorem rne {D:Int} (h:1≤D):(D:Rat)≠0:=fun e=>by have:=Rat.intCast_eq_zero_iff.1 e;omega
section
variable {len:Int} {cuts dens:List Int}
def rem (cuts dens:List Int):Nat→Nat→Int
 | 0,_=>0
 | r+1,i=>dens.getD i 0*(cuts.getD (i+1) 0-cuts.getD i 0)+rem cuts dens r (i+1)
theorem yBL (cuts dens:List Int):∀ (r i:Nat) (s:Int),totS cuts dens r i s=s+rem cuts dens r i
 | 0,i,s=>by unfold totS rem;omega
 | r+1,i,s=>by unfold totS rem;rw [yBL cuts dens r (i+1)];omega
theorem yDI (h:VC len cuts dens):∀ (r i:Nat),i+r=dens.length→0≤rem cuts dens r i∧rem cuts dens r i≤12*(len-cuts.getD i 0)
 | 0,i,hi=>by
  have:=h.l1
  have:=h.hi (i:=i) (by omega)
  unfold rem;omega
 | r+1,i,hi=>by
  unfold rem
  have l1:=h.l1
  have h2:=h.step (i:=i) (by omega)
  have h3:=yIQ (h.den (i:=i) (by omega)) (x:=cuts.getD (i+1) 0-cuts.getD i 0) (by omega)
  have:=yDI h r (i+1) (by omega)
  omega
theorem yIW (h:VC len cuts dens):∀ (r i:Nat),i+r=dens.length→(∃ j,i≤j∧j<dens.length∧0<dens.getD j 0)→0<rem cuts dens r i
 | 0,i,hi,⟨j,h1,h2,_⟩=>by omega
 | r+1,i,hi,⟨j,h1,h2,h3⟩=>by
  unfold rem
  have l1:=h.l1
  have s:=h.step (i:=i) (by omega)
  have m:=yIQ (h.den (i:=i) (by omega)) (x:=cuts.getD (i+1) 0-cuts.getD i 0) (by omega)
  have b:=yDI h r (i+1) (by omega)
  by_cases e:j=i
  ·subst e
   have:=Int.mul_pos h3 (show 0<cuts.getD (j+1) 0-cuts.getD j 0 by omega)
   omega
  ·have:=yIW h r (i+1) (by omega) ⟨j,by omega,h2,h3⟩
   omega
theorem yBM (h:VC len cuts dens):0<totC cuts dens:=by
 unfold totC
 rw [yBL]
 obtain ⟨d,hd,h0⟩:=h.2.2.2.2.2.2.2.2.2
 obtain ⟨j,hj,e⟩:=List.mem_iff_getElem.1 hd
 have:=yIW h dens.length 0 (by omega) ⟨j,by omega,hj,by rw [qAa,qAb hj];simpa [e] using h0⟩
 omega
end
structure Qy where
 agent:Int
 kind:Int
 an:Int
 ad:Int
 bn:Int
 bd:Int
 cn:Int
 cd:Int
 deriving DecidableEq
instance:Inhabited Qy:=⟨⟨0,0,0,0,0,0,0,0⟩⟩
def encQ (q:Qy):PV:=qrow q.agent q.kind q.an q.ad q.bn q.bd q.cn q.cd
def logs (l:List Qy):List PV:=l.map encQ
theorem yii (l:List Qy):(logs l).length=l.length:=qAf ..
theorem yMt {l:List Qy} {i:Nat} (h:i<l.length):List.getD (logs l) i .nils=encQ (l.getD i default):=by
 unfold logs
 rw [qAa,qAa,qAz,qAb h]
 rfl
theorem yDJ (l:List Qy):yd9 8 (logs l)=true:=by cases l <;> rfl
theorem yGF (l m:List Qy):logs (l++m)=logs l++logs m:=qBl ..
theorem asQ {q:Qy} {P:Prop}:asr (conf (.agg [.i .i64,.i .u8,.i .i64,.i .i64,.i .i64,.i .i64,.i .i64,.i .i64]) (encQ q)) P=P:=rfl
structure Sp where
 a:Int
 b:Int
 c:Int
 d:Int
 deriving DecidableEq
instance:Inhabited Sp:=⟨⟨0,0,0,0⟩⟩
def encS (s:Sp):PV:=.agg [.int .i64 s.a,.int .i64 s.b,.int .i64 s.c,.int .i64 s.d]
def yfG (l:List Sp):List PV:=l.map encS
def yqR (l:List (List Sp)):List PV:=l.map fun s=>.data (yfG s)
theorem yhy (l:List Sp):(yfG l).length=l.length:=qAf ..
theorem yqS {l:List Sp} {i:Nat} (h:i<l.length):List.getD (yfG l) i .nils=encS (l.getD i default):=by
 unfold yfG
 rw [qAa,qAa,qAz,qAb h]
 rfl
theorem yBN (l:List (List Sp)):(yqR l).length=l.length:=qAf ..
theorem yJ3 {l:List (List Sp)} {i:Nat} (h:i<l.length):List.getD (yqR l) i .nils=.data (yfG (l.getD i [])):=by
 unfold yqR
 rw [qAa,qAa,qAz,qAb h]
 rfl
theorem asS {s:Sp} {P:Prop}:asr (conf z4 (encS s)) P=P:=rfl
theorem asD {r:List PV} {P:Prop}:asr (conf zD (.data r)) P=P:=rfl
theorem yBO {s:List Sp} (hl:s.length<4611686018427387904) (K:Bool→Prop) :
  ∀ (r i n:Nat),i+r=s.length→r<n→yfd (fun a=>(K a)) (fun _ _ _ _=>(K true)) n (yfG s) (yfG s) i=K true
 | 0,i,n+1,hi,hn=>by
  unfold yfd
  rw [yhy,cbF (by omega)]
 | r+1,i,n+1,hi,hn=>by
  unfold yfd
  have e1:=wib (n:=(i:Int)+1) (by omega) (by omega)
  rw [yhy,cbT (by omega),qAg,yqS (by omega),asT (by omega),asT (by omega),asS,asT (by omega),asT (by omega),asS,e1,ycR]
  simp only [beq_self_eq_true,Bool.and_self,qBq,yae]
  exact yBO hl K r (i+1) n (by omega) (by omega)
theorem yHZ {s:List Sp} (hl:s.length<4611686018427387904) (K:Bool→Prop):yeT (yfG s) (yfG s) K=K true:=by
 refine yE4 _ _ _ (fun K k=>?_) K
 unfold yeT yqm
 rw [cnF rfl]
 refine ⟨s.length+1,?_⟩
 exact (yBO hl K s.length 0 (s.length+1) (by omega) (by omega)).mpr k
theorem yBP {l:List (List Sp)} (hf:∀ i,i<l.length→(l.getD i []).length<4611686018427387904) (hl:l.length<4611686018427387904) (K:Bool→Prop) :
  ∀ (r i n:Nat),i+r=l.length→r<n→yfe yeT (fun a=>(K a)) (fun _ _ _ _=>(K true)) n (yqR l) (yqR l) i=K true
 | 0,i,n+1,hi,hn=>by
  unfold yfe
  rw [yBN,cbF (by omega)]
 | r+1,i,n+1,hi,hn=>by
  unfold yfe
  have e1:=wib (n:=(i:Int)+1) (by omega) (by omega)
  rw [yBN,cbT (by omega),qAg,yJ3 (by omega),asT (by omega),asT (by omega),asD,asT (by omega),asT (by omega),asD]
  show yeT (yfG (l.getD i [])) (yfG (l.getD i [])) _=_
  rw [yHZ (hf i (by omega)),qBq,yae,e1,ycR]
  exact yBP hf hl K r (i+1) n (by omega) (by omega)
theorem yH0 {l:List (List Sp)} (hf:∀ i,i<l.length→(l.getD i []).length<4611686018427387904) (hl:l.length<4611686018427387904) (K:Bool→Prop):yhh (yqR l) (yqR l) K=K true:=by
 refine yE5 _ _ _ (fun K k=>?_) K
 unfold yhh yqo
 rw [cnF rfl]
 refine ⟨l.length+1,?_⟩
 exact (yBP hf hl K l.length 0 (l.length+1) (by omega) (by omega)).mpr k
def getR (e:Except Int Rat):Rat:=match e with | .ok q=>q | .error _=>0
theorem yMu {e:Except Int Rat} {q:Rat} (h:e=.ok q):e=.ok (getR e)∧getR e=q:=by subst h;exact ⟨rfl,rfl⟩
section
variable {l:List Ck}
theorem yIX (x y:Rat):decide (cmpQ x y≥0)=!decide (x<y):=by
 unfold cmpQ
 by_cases h:x<y
 ·simp [h]
 ·by_cases h2:y<x <;> simp [h,h2]
end
def dsC:DS:=.a [.i .i64,.s (.i .i64),.s (.i .i64)]
theorem yIY {n:Int} (h:inK .i64 n):I64 n:=by
 have e1:IntKind.i64.min=-9223372036854775808:=by decide
 have e2:IntKind.i64.max=9223372036854775807:=by decide
 unfold inK at h
 rw [e1,e2] at h
 exact h
theorem F_i {c:List PV} (h:HasF (.i .i64) c):∃ n,c=[.int .i64 n]∧I64 n:=by
 simp only [HasF] at h
 obtain ⟨n,e,k⟩:=h
 exact ⟨n,e,yIY k⟩
theorem yFk:∀ (rows:List PV),(∀ x∈rows,x.isAgg=(DS.i .i64).isA∧HasF (.i .i64) x.cells)→∃ l:List Int,rows=ints l∧∀ n∈l,I64 n
 | [],_=>⟨[],rfl,by simp⟩
 | x::r,h=>by
  obtain ⟨l,e,hl⟩:=yFk r (fun y hy=>h y (qAi _ hy))
  obtain ⟨h1,h2⟩:=h x (qAo ..)
  obtain ⟨n,e2,hn⟩:=F_i h2
  have ex:x=.int .i64 n:=by
   cases x <;> first | (simp only [PV.cells,qA3,and_true] at e2;exact e2) | (cases h1)
  refine ⟨n::l,by rw [ex,e];rfl,?_⟩
  intro m hm
  rcases qAt.1 hm with rfl | hm
  ·exact hn
  ·exact hl m hm
def Ck.i64 (c:Ck):Prop:=I64 c.len∧(∀ n∈c.cuts,I64 n)∧∀ n∈c.dens,I64 n
theorem F_c {c:List PV} (h:HasF dsC c):∃ k:Ck,c=[.int .i64 k.len,.data (ints k.cuts),.data (ints k.dens)]∧k.i64∧k.cuts.length≤9223372036854775807∧k.dens.length≤9223372036854775807:=by
 simp only [dsC,HasF,HasL] at h
 obtain ⟨c1,c2,rfl,⟨n,rfl,hn⟩,c3,c4,rfl,⟨r1,rfl,l1,h1⟩,c5,c6,rfl,⟨r2,rfl,l2,h2⟩,rfl⟩:=h
 obtain ⟨a,rfl,ha⟩:=yFk r1 (fun x hx=>⟨(h1 x hx).1,by simp only [HasF];exact (h1 x hx).2⟩)
 obtain ⟨b,rfl,hb⟩:=yFk r2 (fun x hx=>⟨(h2 x hx).1,by simp only [HasF];exact (h2 x hx).2⟩)
 rw [ybP] at l1 l2
 exact ⟨⟨n,a,b⟩,rfl,⟨yIY hn,ha,hb⟩,l1,l2⟩
theorem yND {x:PV} {l:List DS} (h:x.isAgg=(DS.a l).isA):x=.agg x.cells:=by
 cases x <;> first | rfl | cases h
theorem yLo:∀ (rows:List PV),(∀ x∈rows,x.isAgg=dsC.isA∧HasF dsC x.cells)→∃ l:List Ck,rows=cks l∧∀ c∈l,c.i64
 | [],_=>⟨[],rfl,by simp⟩
 | x::r,h=>by
  obtain ⟨l,e,hl⟩:=yLo r (fun y hy=>h y (qAi _ hy))
  obtain ⟨h1,h2⟩:=h x (qAo ..)
  obtain ⟨k,e2,hk,_⟩:=F_c h2
  have ex:x=encC k:=by rw [yND h1,e2];rfl
  refine ⟨k::l,by rw [ex,e];rfl,?_⟩
  intro m hm
  rcases qAt.1 hm with rfl | hm
  ·exact hk
  ·exact hl m hm
theorem yN6 {c:List PV} (h:HasF (.s dsC) c):∃ l:List Ck,c=[.data (cks l)]∧l.length≤9223372036854775807∧∀ k∈l,k.i64:=by
 simp only [HasF] at h
 obtain ⟨rows,rfl,hl,hr⟩:=h
 obtain ⟨l,rfl,hi⟩:=yLo rows hr
 rw [ya8] at hl
 exact ⟨l,rfl,hl,hi⟩
theorem yJ4 {x y:PV} (h:x.isAgg=false) (e:x.cells=[y]):x=y:=by
 cases x <;> first | (simp only [PV.cells,qA3,and_true] at e;exact e) | cases h
theorem yN7 {az:List PV} (h:yuD [.s dsC] az):∃ (l:List Ck),az=[.data (cks l)]∧l.length≤9223372036854775807∧∀ k∈l,k.i64:=by
 simp only [yuD] at h
 obtain ⟨x,r,rfl,x1,x2,rfl⟩:=h
 obtain ⟨l,e1,hl,hi⟩:=yN6 x2
 rw [yJ4 x1 e1]
 exact ⟨l,rfl,hl,hi⟩
theorem yBQ {l:List Int} (hl:l.length<4611686018427387904) (K:Bool→Prop) :
  ∀ (r i n:Nat),i+r=l.length→r<n→yff (fun a=>(K a)) (fun _ _ _ _=>(K true)) n (ints l) (ints l) i=K true
 | 0,i,n+1,hi,hn=>by
  unfold yff
  rw [ybP,cbF (by omega)]
 | r+1,i,n+1,hi,hn=>by
  unfold yff
  have e1:=wib (n:=(i:Int)+1) (by omega) (by omega)
  rw [ybP,cbT (by omega),qAg,asT (by omega),asT (by omega),asC (by omega),asT (by omega),asT (by omega),asC (by omega),cnF rfl,e1,ycR]
  exact yBQ hl K r (i+1) n (by omega) (by omega)
theorem yH1 {l:List Int} (hl:l.length<4611686018427387904) (K:Bool→Prop):yhi (ints l) (ints l) K=K true:=by
 refine yE6 _ _ _ (fun K k=>?_) K
 unfold yhi yqq
 rw [cnF rfl]
 refine ⟨l.length+1,?_⟩
 exact (yBQ hl K l.length 0 (l.length+1) (by omega) (by omega)).mpr k
end Go.Pf.Vc
namespace Go.Pf.Vc
abbrev RS:Type:=Rat×Rat
def inS (s:RS) (p:Rat):Prop:=s.1≤p∧p<s.2
def memP (l:List RS) (p:Rat):Prop:=∃ s∈l,inS s p
def yIZ:List RS→Prop
 | []=>True
 | s::r=>s.1<s.2∧(∀ t∈r,s.2<t.1)∧yIZ r
theorem yLp {p:Rat}:¬memP [] p:=fun ⟨s,h,_⟩=>by cases h
theorem yrh {s:RS} {r:List RS} {p:Rat}:memP (s::r) p↔inS s p∨memP r p:=by
 constructor
 ·rintro ⟨t,h,hp⟩
  rcases qAt.1 h with rfl | h
  ·exact .inl hp
  ·exact .inr ⟨t,h,hp⟩
 ·rintro (h | ⟨t,h,hp⟩)
  ·exact ⟨s,qAo,h⟩
  ·exact ⟨t,qAi _ h,hp⟩
def maxR (a b:Rat):Rat:=if a<b then b else a
def yBR:List RS→Prop
 | []=>True
 | s::r=>(∀ t∈r,s.1≤t.1)∧yBR r
def minR (a b:Rat):Rat:=if a<b then a else b
theorem yf1 (a b:Rat):a≤maxR a b∧b≤maxR a b∧(maxR a b=a∨maxR a b=b):=by unfold maxR;split <;> grind
theorem yg8 (a b:Rat):minR a b≤a∧minR a b≤b∧(minR a b=a∨minR a b=b):=by unfold minR;split <;> grind
end Go.Pf.Vc
namespace Go.Pf.Vc
open Go Go.Pf
def Sp.rs (s:Sp):RS:=(rt s.a s.b,rt s.c s.d)
def Sp.ok (s:Sp):Prop:=RV s.a s.b∧RV s.c s.d∧rt s.a s.b<rt s.c s.d
instance (s:Sp):Decidable s.ok:=by unfold Sp.ok;infer_instance
def Sp.i64 (s:Sp):Prop:=I64 s.a∧I64 s.b∧I64 s.c∧I64 s.d
theorem yGG {q r:Rat} (hq:small q) (hr:small r) (K:Int→Prop):ybo q.num q.den r.num r.den K=K (cmpQ q r):=by
 unfold ybo ykR
 rw [yoF hq hr]
theorem yLq {a b c d:Int} (h:RV a b) (k:RV c d) (K:Int→Prop):ybo a b c d K=K (cmpQ (rt a b) (rt c d)):=by
 obtain ⟨h1,h2,h3⟩:=ynE h
 obtain ⟨k1,k2,k3⟩:=ynE k
 have:=yGG h1 k1 K
 rw [h2,h3,k2,k3] at this
 exact this
theorem ywf (q r:Rat):decide (cmpQ q r<0)=decide (q<r):=by
 unfold cmpQ
 by_cases h:q<r
 ·rw [if_pos h];simp [h]
 ·rw [if_neg h]
  split <;> simp [h]
theorem yMv (q r:Rat):decide (cmpQ q r≤0)=!decide (r<q):=by
 unfold cmpQ
 by_cases h:q<r
 ·have:¬r<q:=by grind
  rw [if_pos h];simp [this]
 ·rw [if_neg h]
  by_cases h2:r<q
  ·rw [if_pos h2];simp [h2]
  ·rw [if_neg h2];simp [h2]
theorem yLr {s:Sp} (h:s.i64) (K:Bool→Prop):ycX s.a s.b s.c s.d K=K (decide s.ok):=by
 refine yyV _ _ _ _ _ (fun K k=>?_) K
 unfold ycX ykQ
 refine yK6 h.1 h.2.1 h.2.2.1 h.2.2.2 ?_
 by_cases h1:RV s.a s.b
 ·by_cases h2:RV s.c s.d
  ·have e:chk2 s.a s.b s.c s.d=0:=yer.2 ⟨h1,h2⟩
   obtain ⟨_,n1,n2⟩:=ynE h1
   obtain ⟨_,n3,n4⟩:=ynE h2
   have e2:=yIO (rt s.a s.b) (rt s.c s.d)
   rw [n1,n2,n3,n4] at e2
   rw [e,if_pos rfl,ceT rfl,e2,ywf]
   have e3:decide s.ok=decide (rt s.a s.b<rt s.c s.d):=by rw [decide_eq_decide];exact ⟨fun k=>k.2.2,fun k=>⟨h1,h2,k⟩⟩
   rw [← e3];exact k
  ·have e:chk2 s.a s.b s.c s.d≠0:=fun e=>h2 (yer.1 e).2
   rw [ceF e]
   have e3:decide s.ok=false:=decide_eq_false fun k=>h2 k.2.1
   rw [← e3];exact k
 ·have e:chk2 s.a s.b s.c s.d≠0:=fun e=>h1 (yer.1 e).1
  rw [ceF e]
  have e3:decide s.ok=false:=decide_eq_false fun k=>h1 k.1
  rw [← e3];exact k
theorem asSp {s:Sp} {P:Prop}:asr (conf z4 (encS s)) P=P:=rfl
def yBS (l:List Sp):Bool:=l.all fun s=>decide s.ok
theorem yLs {l:List Sp} (h64:∀ s∈l,s.i64) (hl:l.length<4611686018427387904) :
  ∀ x0 x1,∀ (r i n:Nat),i+r=l.length→r<n→yeo ycX x0 x1 n (yfG l) l.length i=if yBS (l.drop i) then x1 (yfG l) l.length l.length false else x0 8:=by
 intro x0 x1 r
 induction r with
 | zero =>
  intro i n hi hn
  obtain ⟨n,rfl⟩:∃ m,n=m+1:=⟨n-1,by omega⟩
  obtain rfl:i=l.length:=by omega
  rw [yeo,cbF (by omega),List.drop_length]
  rfl
 | succ r ih =>
  intro i n hi hn
  obtain ⟨n,rfl⟩:∃ m,n=m+1:=⟨n-1,by omega⟩
  have hil:i<l.length:=by omega
  have e1:=wib (n:=(i:Int)+1) (by omega) (by omega)
  have hm:l.getD i default∈l:=by
   rw [qAa,qAb hil]
   exact qBb hil
  have hd:yBS (l.drop i)=(decide (l.getD i default).ok&&yBS (l.drop (i+1))):=by
   rw [ydr default hil];rfl
  rw [yeo,cbT (by omega),asT (by omega),yhy,asT (by omega),qAg,yqS hil,asSp,e1,ycR]
  change ycX (l.getD i default).a (l.getD i default).b (l.getD i default).c (l.getD i default).d _=_
  rw [yLr (h64 _ hm),hd]
  cases hv:decide (l.getD i default).ok with
  | true =>
   rw [show (!true)=false from rfl,yae,qBm]
   exact ih (i+1) n (by omega) (by omega)
  | false =>
   rw [show (!false)=true from rfl,yas,qBs]
   rfl
def allE (l:List Sp):Int:=if l.length>60 then 4 else if yBS l then 0 else 8
theorem yNE {l:List Sp} (h64:∀ s∈l,s.i64) (hl:l.length<4611686018427387904) (K:Int→Prop):yeI (yfG l) K=K (allE l):=by
 refine yCO _ _ (fun K k=>?_) K
 unfold yeI yoh
 unfold allE at k
 rw [yhy]
 by_cases h:l.length>60
 ·rw [cbT (by omega)];rw [if_pos h] at k;exact k
 ·rw [cbF (by omega)]
  rw [if_neg h] at k
  refine ⟨l.length+1,?_⟩
  refine (yLs h64 hl _ _ l.length 0 (l.length+1) (by omega) (by omega)).mpr ?_
  rw [qBi]
  split
  ·rename_i h2;rw [if_pos h2] at k;exact k
  ·rename_i h2;rw [if_neg h2] at k;exact k
def gapB:Sp→List Sp→Bool
 | _,[]=>true
 | s,t::r=>decide (s.rs.2<t.rs.1)&&gapB t r
theorem yH2 {l:List Sp} (hok:∀ s∈l,s.ok) (hl:l.length<4611686018427387904) :
  ∀ x0 x1,∀ (r i n:Nat),i+1+r=l.length→r<n→ycZ yeI ybo x0 x1 n (yfG l) ((i+1:Nat):Int)=if gapB (l.getD i default) (l.drop (i+1)) then x1 (yfG l) l.length false else x0 8:=by
 intro x0 x1 r
 induction r with
 | zero =>
  intro i n hi hn
  obtain ⟨n,rfl⟩:∃ m,n=m+1:=⟨n-1,by omega⟩
  rw [ycZ,yhy,cbF (by omega),List.drop_eq_nil_of_le (by omega),show i+1=l.length by omega]
  rfl
 | succ r ih =>
  intro i n hi hn
  obtain ⟨n,rfl⟩:∃ m,n=m+1:=⟨n-1,by omega⟩
  have e0:=wib (n:=((i+1:Nat):Int)-1) (by omega) (by omega)
  have e2:((i+1:Nat):Int)-1=(i:Int):=by omega
  have e1:=wib (n:=((i+1:Nat):Int)+1) (by omega) (by omega)
  have hm1:l.getD i default∈l:=by
   rw [qAa,qAb (by omega)]
   exact qBb (by omega)
  have hm2:l.getD (i+1) default∈l:=by
   rw [qAa,qAb (by omega)]
   exact qBb (by omega)
  rw [ycZ,yhy,cbT (by omega),e0,e2,asT (by omega),asT (by omega),qAg,yqS (by omega),asSp,asT (by omega),asT (by omega),qAg,yqS (by omega),asSp]
  change ybo (l.getD i default).c (l.getD i default).d (l.getD (i+1) default).a (l.getD (i+1) default).b _=_
  rw [yLq (hok _ hm1).2.1 (hok _ hm2).1,e1,ycR,ydr default (by omega)]
  unfold gapB
  have e3:decide (cmpQ (rt (l.getD i default).c (l.getD i default).d) (rt (l.getD (i+1) default).a (l.getD (i+1) default).b)≥0)=!decide ((l.getD i default).rs.2<(l.getD (i+1) default).rs.1):=yIX _ _
  rw [e3]
  cases decide ((l.getD i default).rs.2<(l.getD (i+1) default).rs.1) with
  | true =>
   rw [show (!true)=false from rfl,yae,qBm]
   exact ih (i+1) n (by omega) (by omega)
  | false =>
   rw [show (!false)=true from rfl,yas,qBs]
   rfl
def rsL (l:List Sp):List RS:=l.map Sp.rs
def yFl (l:List Sp):Int:=if allE l=0 then (match l with | []=>0 | s::r=>if gapB s r then 0 else 8) else allE l
theorem yJ5 {l:List Sp} (h:allE l=0):l.length≤60∧∀ s∈l,s.ok:=by
 unfold allE at h
 split at h
 ·cases h
 ·split at h
  ·rename_i h1 h2
   exact ⟨by omega,fun s hs=>by simpa using List.all_eq_true.1 h2 s hs⟩
  ·cases h
theorem yJ6 {l:List Sp} (h64:∀ s∈l,s.i64) (hl:l.length<4611686018427387904) (K:Int→Prop):ya6 (yfG l) K=K (yFl l):=by
 refine yyW _ _ (fun K k=>?_) K
 unfold ya6 ykT
 unfold yFl at k
 rw [yNE h64 hl]
 by_cases h:allE l=0
 ·rw [if_pos h] at k
  rw [cnF h]
  obtain ⟨h1,h2⟩:=yJ5 h
  cases l with
  | nil =>
   refine ⟨1,?_⟩
   rw [ycZ,yhy,cbF (by simp)]
   exact k
  | cons s r =>
   refine ⟨r.length+1,?_⟩
   refine (yH2 h2 hl _ _ r.length 0 (r.length+1) (by simp;omega) (by omega)).mpr ?_
   dsimp only at k
   show if gapB s r then _ else _
   split
   ·rename_i hg;rw [if_pos hg] at k;exact k
   ·rename_i hg;rw [if_neg hg] at k;exact k
 ·rw [if_neg h] at k
  rw [cnT h];exact k
theorem yDK:∀ (r:List Sp) (s:Sp),s.ok→(∀ t∈r,t.ok)→(gapB s r=true↔yIZ (rsL (s::r)))
 | [],s,hs,_=>⟨fun _=>⟨hs.2.2,by simp,trivial⟩,fun _=>rfl⟩
 | t::r,s,hs,h=>by
  have ht:=h t qAo
  have ih:=yDK r t ht fun u hu=>h u (qAi _ hu)
  unfold gapB
  rw [qAe,decide_eq_true_eq,ih]
  constructor
  ·rintro ⟨h1,h2⟩
   refine ⟨hs.2.2,fun u hu=>?_,h2⟩
   rcases qAt.1 hu with rfl | hu
   ·exact h1
   ·have:=h2.2.1 u hu
    have:=h2.1
    show s.rs.2<u.1
    grind
  ·rintro ⟨_,h2,h3⟩
   exact ⟨h2 _ qAo,h3⟩
end Go.Pf.Vc
namespace Go.Pf.Vc
open Go Go.Pf Go.Sort
theorem yzD {n d:Int}:rvB n d=true↔RV n d:=by
 unfold rvB RV
 simp only [qAe,decide_eq_true_eq]
theorem yMw {a b c d:Int} (h:RV a b) (k:RV c d):cmpI a b c d<0↔rt a b<rt c d:=by
 obtain ⟨_,h2,h3⟩:=ynE h
 obtain ⟨_,k2,k3⟩:=ynE k
 rw [Rat.lt_iff,h2,h3,k2,k3]
 unfold cmpI
 by_cases h:a*d<c*b
 ·rw [if_pos h];simp [h]
 ·rw [if_neg h]
  split <;> simp [h]
def yLt:PV→Rat
 | .agg (.int _ a::.int _ b::_)=>rt a b
 | _=>0
theorem ywg {x y:PV} (hx:ysF x=true) (hy:ysF y=true):yoS x y<0↔yLt x<yLt y:=by
 unfold ysF at hx hy
 split at hx
 ·split at hy
  ·simp only [yoS,yLt]
   exact yMw (yzD.1 hx) (yzD.1 hy)
  ·cases hy
 ·cases hx
theorem ymb {n g:Nat} (x:(ylx n g).s.El):ysF x.1=true:=by
 have:=x.2
 simp only [Srt.gd,qAe] at this
 exact this.2
theorem yH3 (n g:Nat):SWO (fun x y:(ylx n g).s.El=>decide ((ylx n g).cf x y<0)) where
 irrefl x:=by
  have:=ywg (ymb x) (ymb x)
  show decide (yoS x.1 x.1<0)=false
  rw [decide_eq_false_iff_not,this]
  exact Rat.lt_irrefl
 trans x y z h1 h2:=by
  have h1:decide (yoS x.1 y.1<0)=true:=h1
  have h2:decide (yoS y.1 z.1<0)=true:=h2
  show decide (yoS x.1 z.1<0)=true
  rw [decide_eq_true_eq,ywg (ymb _) (ymb _)] at *
  grind
 ntrans x y z h1 h2:=by
  have h1:decide (yoS x.1 y.1<0)=false:=h1
  have h2:decide (yoS y.1 z.1<0)=false:=h2
  show decide (yoS x.1 z.1<0)=false
  rw [decide_eq_false_iff_not,ywg (ymb _) (ymb _)] at *
  grind
theorem yxT {s:Srt}:∀ {l:List PV},(∀ x∈l,s.gd x=true)→∃ d,s.rows? l=some d
 | [],_=>⟨[],rfl⟩
 | x::r,h=>by
  obtain ⟨d,hd⟩:=yxT (s:=s) (l:=r) fun y hy=>h y (qAi _ hy)
  refine ⟨⟨x,h x qAo⟩::d,?_⟩
  simp only [Srt.rows?]
  rw [dif_pos (h x qAo),hd]
theorem RV.i1 {n d:Int} (h:RV n d):I64 n:=by obtain ⟨h1,h2,h3,h4,_⟩:=h;exact ⟨by omega,by omega⟩
theorem RV.i2 {n d:Int} (h:RV n d):I64 d:=by obtain ⟨h1,h2,h3,h4,_⟩:=h;exact ⟨by omega,by omega⟩
theorem Sp.ok.i64 {s:Sp} (h:s.ok):s.i64:=⟨h.1.i1,h.1.i2,h.2.1.i1,h.2.1.i2⟩
theorem yLu (n g:Nat) {s:Sp} (h:s.ok):(ylx n g).s.gd (encS s)=true:=by
 obtain ⟨h1,h2,h3,h4⟩:=h.i64
 have e1:IntKind.i64.min=-9223372036854775808:=by decide
 have e2:IntKind.i64.max=9223372036854775807:=by decide
 simp only [Srt.gd,ylx,okI,encS,okL,ysF,qAe,decide_eq_true_eq,e1,e2]
 unfold I64 at h1 h2 h3 h4
 exact ⟨⟨trivial,h1.1,h1.2,trivial,h2.1,h2.2,trivial,h3.1,h3.2,trivial,h4.1,h4.2,trivial⟩,yzD.2 h.1⟩
def decS:PV→Sp
 | .agg [.int _ a,.int _ b,.int _ c,.int _ d]=>⟨a,b,c,d⟩
 | _=>default
theorem yGH (s:Sp):decS (encS s)=s:=rfl
theorem yJ7 (n g:Nat) {l:List Sp} (h:∀ s∈l,s.ok):∃ l':List Sp,l'.Perm l∧l'.Pairwise (fun s t=>¬t.rs.1<s.rs.1)∧Srt.sorted (ylx n g).s (ylx n g).srt (yfG l)=yfG l':=by
 obtain ⟨d,hd⟩:=yxT (s:=(ylx n g).s) (l:=yfG l) fun x hx=>by
  obtain ⟨s,hs,rfl⟩:=qBx.1 hx
  exact yLu n g (h s hs)
 obtain ⟨d',h1,h2,h3⟩:=(ylx n g).sorted_is (yH3 n g) hd
 have hv:=Srt.rows?_val hd
 have hp:(d'.map (·.1)).Perm (yfG l):=by rw [← hv];exact h1.map _
 have hm:∀ x∈d'.map (·.1),∃ s∈l,encS s=x:=fun x hx=>qBx.1 (hp.mem_iff.1 hx)
 refine ⟨(d'.map (·.1)).map decS,?_,?_,?_⟩
 ·have this:(List.map decS (d'.map (·.1))).Perm (List.map decS (l.map encS)):=hp.map decS
  have e:List.map decS (l.map encS)=l:=by rw [List.map_map,show decS ∘ encS=id from funext yGH,List.map_id]
  rw [e] at this
  exact this
 ·rw [List.map_map,List.pairwise_map]
  refine h2.imp_of_mem fun {x y} hx hy hxy=>?_
  have hxy:¬yoS y.1 x.1<0:=hxy
  rw [ywg (ymb _) (ymb _)] at hxy
  obtain ⟨s,_,es⟩:=hm x.1 (List.mem_map_of_mem hx)
  obtain ⟨t,_,et⟩:=hm y.1 (List.mem_map_of_mem hy)
  show ¬(decS y.1).rs.1<(decS x.1).rs.1
  rw [← es,← et] at hxy ⊢
  exact hxy
 ·rw [h3]
  have key:∀ (xs:List PV),(∀ x∈xs,∃ s∈l,encS s=x)→(xs.map decS).map encS=xs:=by
   intro xs
   induction xs with
   | nil=>intro _;rfl
   | cons x r ih =>
    intro h
    obtain ⟨s,_,es⟩:=h x qAo
    rw [qBy,qBy,ih fun y hy=>h y (qAi _ hy),← es,yGH]
  exact (key _ hm).symm
end Go.Pf.Vc
namespace Go.Pf.Vc
open Go Go.Pf
def spOf (r:RS):Sp:=⟨r.1.num,r.1.den,r.2.num,r.2.den⟩
def rsp (l:List RS):List PV:=yfG (l.map spOf)
def yfz (r:RS):Prop:=small r.1∧small r.2
theorem yc3 (l:List RS):(rsp l).length=l.length:=by unfold rsp;rw [yhy,qAf]
def encR (r:RS):PV:=encS (spOf r)
theorem yqT {l:List RS} {i:Nat} (h:i<l.length):List.getD (rsp l) i .nils=encR (l.getD i default):=by
 unfold rsp
 rw [yqS (by rw [qAf];exact h)]
 unfold encR
 congr 1
 rw [qAa,qAa,qAz,qAb h]
 rfl
theorem yDL (r:RS):yaa (yab (encR r) 0)=r.1.num:=rfl
theorem yI0 (r:RS):yaa (yab (encR r) 1)=r.1.den:=rfl
theorem yDM (r:RS):yaa (yab (encR r) 2)=r.2.num:=rfl
theorem yDN (r:RS):yaa (yab (encR r) 3)=r.2.den:=rfl
theorem asR (r:RS) (P:Prop):asr (conf z4 (encR r)) P=P:=rfl
theorem yMx (a b:List RS):rsp a++rsp b=rsp (a++b):=by unfold rsp yfG;rw [qBl,qBl]
theorem asTr (P:Prop):asr (decide True) P=P:=by rw [decide_true];rfl
theorem yt8 {l:List RS} (h:∀ s∈l,yfz s) {i:Nat} (hi:i<l.length):yfz (l.getD i default):=by
 rw [qAa,qAb hi]
 exact h _ (qBb hi)
theorem yMy {s:Sp} (h:s.ok):spOf s.rs=s:=by
 obtain ⟨_,h2,h3⟩:=ynE h.1
 obtain ⟨_,k2,k3⟩:=ynE h.2.1
 unfold spOf Sp.rs
 cases s
 simp only at h2 h3 k2 k3 ⊢
 rw [h2,h3,k2,k3]
theorem yI1 {r:RS} (_:yfz r):(spOf r).rs=r:=by
 show (rt r.1.num r.1.den,rt r.2.num r.2.den)=r
 rw [yeN,yeN]
theorem yzE {r:RS} (h:yfz r) (hv:r.1<r.2):(spOf r).ok:=⟨h.1.rv,h.2.rv,by
 show rt r.1.num r.1.den<rt r.2.num r.2.den
 rw [yeN,yeN];exact hv⟩
theorem yJ8 {l:List Sp} (h:∀ s∈l,s.ok):yfG l=rsp (rsL l):=by
 unfold rsp rsL
 rw [List.map_map]
 congr 1
 conv=>lhs;rw [← List.map_id l]
 exact List.map_congr_left fun s hs=>(yMy (h s hs)).symm
theorem yDO:∀ {l:List RS},l.Pairwise (fun s t=>¬t.1<s.1)→yBR l
 | [],_=>trivial
 | s::r,h=>by
  rw [List.pairwise_cons] at h
  exact ⟨fun t ht=>by have:=h.1 t ht;grind,yDO h.2⟩
def encW (q:Rat):PV:=.agg [.int .i64 q.num,.int .i64 q.den]
def rts (l:List Rat):List PV:=l.map encW
theorem ymc (l:List Rat):(rts l).length=l.length:=qAf ..
end Go.Pf.Vc
