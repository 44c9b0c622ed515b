/- Part 3. -/
import Derived.Test.YtoinjplollnohaaGreatTuW2
open Go.IntKind (i64 u8 u64)
open List (length getD take drop replicate set map isEmpty)
noncomputable section
namespace Go.Pf.Vc
open Go Go.Pf
set_option maxRecDepth 100000
def Us (b:Int) (K:Int→Prop):Prop:=
 (aA (decide (b≥4294967296)) (aA (decide ((Int.fdiv b 4294967296)≥65536)) (aA (decide ((Int.fdiv (Int.fdiv b 4294967296) 65536)≥256)) (aB (decide (0≤(u8.wrap (Int.fdiv (Int.fdiv (Int.fdiv b 4294967296) 65536) 256)))) (aB (decide ((u8.wrap (Int.fdiv (Int.fdiv (Int.fdiv b 4294967296) 65536) 256))<256)) (K (i64.wrap (56+(i64.wrap (aC (getD uW ((u8.wrap (Int.fdiv (Int.fdiv (Int.fdiv b 4294967296) 65536) 256)).toNat) .nils)))))))) (aB (decide (0≤(u8.wrap (Int.fdiv (Int.fdiv b 4294967296) 65536)))) (aB (decide ((u8.wrap (Int.fdiv (Int.fdiv b 4294967296) 65536))<256)) (K (i64.wrap (48+(i64.wrap (aC (getD uW ((u8.wrap (Int.fdiv (Int.fdiv b 4294967296) 65536)).toNat) .nils))))))))) (aA (decide ((Int.fdiv b 4294967296)≥256)) (aB (decide (0≤(u8.wrap (Int.fdiv (Int.fdiv b 4294967296) 256)))) (aB (decide ((u8.wrap (Int.fdiv (Int.fdiv b 4294967296) 256))<256)) (K (i64.wrap (40+(i64.wrap (aC (getD uW ((u8.wrap (Int.fdiv (Int.fdiv b 4294967296) 256)).toNat) .nils)))))))) (aB (decide (0≤(u8.wrap (Int.fdiv b 4294967296)))) (aB (decide ((u8.wrap (Int.fdiv b 4294967296))<256)) (K (i64.wrap (32+(i64.wrap (aC (getD uW ((u8.wrap (Int.fdiv b 4294967296)).toNat) .nils)))))))))) (aA (decide (b≥65536)) (aA (decide ((Int.fdiv b 65536)≥256)) (aB (decide (0≤(u8.wrap (Int.fdiv (Int.fdiv b 65536) 256)))) (aB (decide ((u8.wrap (Int.fdiv (Int.fdiv b 65536) 256))<256)) (K (i64.wrap (24+(i64.wrap (aC (getD uW ((u8.wrap (Int.fdiv (Int.fdiv b 65536) 256)).toNat) .nils)))))))) (aB (decide (0≤(u8.wrap (Int.fdiv b 65536)))) (aB (decide ((u8.wrap (Int.fdiv b 65536))<256)) (K (i64.wrap (16+(i64.wrap (aC (getD uW ((u8.wrap (Int.fdiv b 65536)).toNat) .nils))))))))) (aA (decide (b≥256)) (aB (decide (0≤(u8.wrap (Int.fdiv b 256)))) (aB (decide ((u8.wrap (Int.fdiv b 256))<256)) (K (i64.wrap (8+(i64.wrap (aC (getD uW ((u8.wrap (Int.fdiv b 256)).toNat) .nils)))))))) (aB (decide (0≤(u8.wrap b))) (aB (decide ((u8.wrap b)<256)) (K (i64.wrap (0+(i64.wrap (aC (getD uW ((u8.wrap b).toNat) .nils)))))))))))
def Nl:gY:=Us
def Fx:Sg:=⟨Nf,Int→Prop,fun K=>(fun r0=>K (ic r0))⟩
def yLH (e:Es):SE:=sE (E e) [] cG
theorem yLI (e:Es):bN (yLH e) 6 R5 Fx Us:=fun _ _=>by kernel_rfl
theorem yLJ (e:Es) (he:EG e):bM (E e) (Fx.pw Nl) Mh:=bO he (yLI e) (bK (aK.uni _) trivial trivial he.ok) bA.flat (aZ (by kernel_rfl))
def Ut (a0:gY) (b:Int) (K:Int→Prop):Prop:=
 (a0 b (fun c=>(K (i64.wrap (64-c)))))
def Be:gY:=Ut Nl
def yuc (e:Es) (a0:gY):SE:=sE (E e) [(Mh,Fx.pw a0)] cG
theorem yud (e:Es) (a0):bN (yuc e a0) 6 R6 Fx (Ut a0):=fun _ _=>by kernel_rfl
theorem yue (e:Es) (he:EG e):bM (E e) (Fx.pw Be) Mi:=bO he (yud e _) (bK (aK.uni _) ⟨(yLJ e he),trivial⟩ trivial he.ok) bA.flat (aZ (by kernel_rfl))
abbrev gT:Type:=Int→Int→Int→(Int→Int→Prop)→Prop
mutual
def Nm (a0:gY) (x0:J4 (J4 (Int→Bool→Prop))) (x1:J4 (J4 (Int→Bool→Prop))):Nat→J4 (J4 (Int→Prop))
 | 0,_,_,_,_,_,_,_,_,_=>False
 | n+1,b,c,d,e,f,g,h,i,j=>
 (aA (decide (i≥4294967296)) (aA (decide ((u64.wrap (j+d))≥4294967296)) (x0 b c d e f g h (u64.wrap (i-1)) (u64.wrap (j+d)) true) (Bf a0 x0 x1 n b c d e f g h (u64.wrap (i-1)) (u64.wrap (j+d)) false)) (aA (decide ((u64.wrap (i*e))>(u64.wrap ((u64.wrap (4294967296*j))+g)))) (aA (decide ((u64.wrap (j+d))≥4294967296)) (x0 b c d e f g h (u64.wrap (i-1)) (u64.wrap (j+d)) true) (Bf a0 x0 x1 n b c d e f g h (u64.wrap (i-1)) (u64.wrap (j+d)) false)) (x1 b c d e f g h i j false)))
def Bf (a0:gY) (x0:J4 (J4 (Int→Bool→Prop))) (x1:J4 (J4 (Int→Bool→Prop))):Nat→J4 (J4 (Int→Bool→Prop))
 | 0,_,_,_,_,_,_,_,_,_,_=>False
 | n+1,b,c,d,e,f,g,h,i,j,_=>
 (aA (decide (i≥4294967296)) (aA (decide ((u64.wrap (j+d))≥4294967296)) (x0 b c d e f g h (u64.wrap (i-1)) (u64.wrap (j+d)) true) (Bf a0 x0 x1 n b c d e f g h (u64.wrap (i-1)) (u64.wrap (j+d)) false)) (aA (decide ((u64.wrap (i*e))>(u64.wrap ((u64.wrap (4294967296*j))+g)))) (aA (decide ((u64.wrap (j+d))≥4294967296)) (x0 b c d e f g h (u64.wrap (i-1)) (u64.wrap (j+d)) true) (Bf a0 x0 x1 n b c d e f g h (u64.wrap (i-1)) (u64.wrap (j+d)) false)) (x1 b c d e f g h i j false)))
end
mutual
def Fy (a0:gY) (x0:J4 (J4 (Int→Bool→Prop))) (x1:J4 (J4 (Int→Bool→Prop))):Nat→J4 (J4 (Int→Prop))
 | 0,_,_,_,_,_,_,_,_,_=>False
 | n+1,b,c,d,e,f,g,h,i,j=>
 (aA (decide (j≥4294967296)) (aA (decide ((u64.wrap (h+d))≥4294967296)) (x0 b c d e f g (u64.wrap (h+d)) i (u64.wrap (j-1)) true) (Bg a0 x0 x1 n b c d e f g (u64.wrap (h+d)) i (u64.wrap (j-1)) false)) (aA (decide ((u64.wrap (j*e))>(u64.wrap ((u64.wrap (4294967296*h))+f)))) (aA (decide ((u64.wrap (h+d))≥4294967296)) (x0 b c d e f g (u64.wrap (h+d)) i (u64.wrap (j-1)) true) (Bg a0 x0 x1 n b c d e f g (u64.wrap (h+d)) i (u64.wrap (j-1)) false)) (x1 b c d e f g h i j false)))
def Bg (a0:gY) (x0:J4 (J4 (Int→Bool→Prop))) (x1:J4 (J4 (Int→Bool→Prop))):Nat→J4 (J4 (Int→Bool→Prop))
 | 0,_,_,_,_,_,_,_,_,_,_=>False
 | n+1,b,c,d,e,f,g,h,i,j,_=>
 (aA (decide (j≥4294967296)) (aA (decide ((u64.wrap (h+d))≥4294967296)) (x0 b c d e f g (u64.wrap (h+d)) i (u64.wrap (j-1)) true) (Bg a0 x0 x1 n b c d e f g (u64.wrap (h+d)) i (u64.wrap (j-1)) false)) (aA (decide ((u64.wrap (j*e))>(u64.wrap ((u64.wrap (4294967296*h))+f)))) (aA (decide ((u64.wrap (h+d))≥4294967296)) (x0 b c d e f g (u64.wrap (h+d)) i (u64.wrap (j-1)) true) (Bg a0 x0 x1 n b c d e f g (u64.wrap (h+d)) i (u64.wrap (j-1)) false)) (x1 b c d e f g h i j false)))
end
def Uu (a0:gY) (b c d:Int) (K:Int→Int→Prop):Prop:=
 (aA (d==0) False (aA (decide (d≤b)) False (aA (b==0) (aB (!(decide (d=0))) (aB (!(decide (d=0))) (K (u64.wrap (Int.tdiv c d)) (Int.tmod c d)))) (a0 d (fun e=>(aB (!(decide ((u64.wrap e)<0))) (aB (!(decide ((u64.wrap e)<0))) (aB (!(decide ((u64.wrap (64-(u64.wrap e)))<0))) (aB (!(decide ((u64.wrap e)<0))) (aB (!(decide ((Int.fdiv (u64.wrap (d*2 ^ (min (u64.wrap e).toNat u64.bits))) 4294967296)=0))) (∃ m0:Nat,Nm a0 (fun f g h i j k l m _ _=>(aB (!(decide (h=0))) (∃ m1:Nat,Fy a0 (fun q r _ _ u v _ z A _=>(aB (!(decide (r<0))) (K (u64.wrap ((u64.wrap (v*4294967296))+A)) (Int.fdiv (u64.wrap ((u64.wrap ((u64.wrap (z*4294967296))+u))-(u64.wrap (A*q)))) (2 ^ (min r.toNat u64.bits)))))) (fun q r _ _ u v _ z A _=>(aB (!(decide (r<0))) (K (u64.wrap ((u64.wrap (v*4294967296))+A)) (Int.fdiv (u64.wrap ((u64.wrap ((u64.wrap (z*4294967296))+u))-(u64.wrap (A*q)))) (2 ^ (min r.toNat u64.bits)))))) m1 f g h i l m (u64.wrap ((u64.wrap ((u64.wrap ((u64.wrap (j*4294967296))+k))-(u64.wrap (m*f))))-(u64.wrap ((u64.wrap (Int.tdiv (u64.wrap ((u64.wrap ((u64.wrap (j*4294967296))+k))-(u64.wrap (m*f)))) h))*h)))) (u64.wrap ((u64.wrap ((u64.wrap (j*4294967296))+k))-(u64.wrap (m*f)))) (u64.wrap (Int.tdiv (u64.wrap ((u64.wrap ((u64.wrap (j*4294967296))+k))-(u64.wrap (m*f)))) h))))) (fun f g h i j k l m _ _=>(aB (!(decide (h=0))) (∃ m1:Nat,Fy a0 (fun q r _ _ u v _ z A _=>(aB (!(decide (r<0))) (K (u64.wrap ((u64.wrap (v*4294967296))+A)) (Int.fdiv (u64.wrap ((u64.wrap ((u64.wrap (z*4294967296))+u))-(u64.wrap (A*q)))) (2 ^ (min r.toNat u64.bits)))))) (fun q r _ _ u v _ z A _=>(aB (!(decide (r<0))) (K (u64.wrap ((u64.wrap (v*4294967296))+A)) (Int.fdiv (u64.wrap ((u64.wrap ((u64.wrap (z*4294967296))+u))-(u64.wrap (A*q)))) (2 ^ (min r.toNat u64.bits)))))) m1 f g h i l m (u64.wrap ((u64.wrap ((u64.wrap ((u64.wrap (j*4294967296))+k))-(u64.wrap (m*f))))-(u64.wrap ((u64.wrap (Int.tdiv (u64.wrap ((u64.wrap ((u64.wrap (j*4294967296))+k))-(u64.wrap (m*f)))) h))*h)))) (u64.wrap ((u64.wrap ((u64.wrap (j*4294967296))+k))-(u64.wrap (m*f)))) (u64.wrap (Int.tdiv (u64.wrap ((u64.wrap ((u64.wrap (j*4294967296))+k))-(u64.wrap (m*f)))) h))))) m0 (u64.wrap (d*2 ^ (min (u64.wrap e).toNat u64.bits))) (u64.wrap e) (Int.fdiv (u64.wrap (d*2 ^ (min (u64.wrap e).toNat u64.bits))) 4294967296) (u64.wrap (BitVec.ofInt u64.bits (u64.wrap (d*2 ^ (min (u64.wrap e).toNat u64.bits)))&&&BitVec.ofInt u64.bits 4294967295).toNat) (u64.wrap (BitVec.ofInt u64.bits (u64.wrap (b*2 ^ (min (u64.wrap e).toNat u64.bits)))|||BitVec.ofInt u64.bits (Int.fdiv c (2 ^ (min (u64.wrap (64-(u64.wrap e))).toNat u64.bits)))).toNat) (Int.fdiv (u64.wrap (c*2 ^ (min (u64.wrap e).toNat u64.bits))) 4294967296) (u64.wrap (BitVec.ofInt u64.bits (u64.wrap (c*2 ^ (min (u64.wrap e).toNat u64.bits)))&&&BitVec.ofInt u64.bits 4294967295).toNat) (u64.wrap (Int.tdiv (u64.wrap (BitVec.ofInt u64.bits (u64.wrap (b*2 ^ (min (u64.wrap e).toNat u64.bits)))|||BitVec.ofInt u64.bits (Int.fdiv c (2 ^ (min (u64.wrap (64-(u64.wrap e))).toNat u64.bits)))).toNat) (Int.fdiv (u64.wrap (d*2 ^ (min (u64.wrap e).toNat u64.bits))) 4294967296))) (u64.wrap ((u64.wrap (BitVec.ofInt u64.bits (u64.wrap (b*2 ^ (min (u64.wrap e).toNat u64.bits)))|||BitVec.ofInt u64.bits (Int.fdiv c (2 ^ (min (u64.wrap (64-(u64.wrap e))).toNat u64.bits)))).toNat)-(u64.wrap ((u64.wrap (Int.tdiv (u64.wrap (BitVec.ofInt u64.bits (u64.wrap (b*2 ^ (min (u64.wrap e).toNat u64.bits)))|||BitVec.ofInt u64.bits (Int.fdiv c (2 ^ (min (u64.wrap (64-(u64.wrap e))).toNat u64.bits)))).toNat) (Int.fdiv (u64.wrap (d*2 ^ (min (u64.wrap e).toNat u64.bits))) 4294967296)))*(Int.fdiv (u64.wrap (d*2 ^ (min (u64.wrap e).toNat u64.bits))) 4294967296))))))))))))))))
def Bh:gT:=Uu Be
def Nn:Sg:=⟨(lC pt2 rS),Int→Int→Prop,fun K=>(fun r0 r1=>K (.tup [(.int .u64 r0),(.int .u64 r1)]))⟩
def dy (Q:Qx):J4 (J4 (Int→Bool→Prop )):=(fun b c d e f g h i j k=>Q (.exit 0) [(2,.v (.int .u64 b)),(8,.v (.int .u64 c)),(9,.v (.int .u64 d)),(10,.v (.int .u64 e)),(11,.v (.int .u64 f)),(13,.v (.int .u64 g)),(14,.v (.int .u64 h)),(15,.v (.int .u64 i)),(16,.v (.int .u64 j)),(85,.v (.bool k))] [])
def dz (Q:Qx):J4 (J4 (Int→Bool→Prop )):=(fun b c d e f g h i j k=>Q (.exit 0) [(2,.v (.int .u64 b)),(8,.v (.int .u64 c)),(9,.v (.int .u64 d)),(10,.v (.int .u64 e)),(11,.v (.int .u64 f)),(13,.v (.int .u64 g)),(14,.v (.int .u64 h)),(15,.v (.int .u64 i)),(16,.v (.int .u64 j)),(78,.v (.bool k))] [])
def ee (Q:Qx):J4 (J4 (Int→Bool→Prop )):=(fun b c d e f g h i j k=>Q (.exit 2) [(2,.v (.int .u64 b)),(8,.v (.int .u64 c)),(9,.v (.int .u64 d)),(10,.v (.int .u64 e)),(14,.v (.int .u64 f)),(15,.v (.int .u64 g)),(16,.v (.int .u64 h)),(17,.v (.int .u64 i)),(18,.v (.int .u64 j)),(120,.v (.bool k))] [])
def er (Q:Qx):J4 (J4 (Int→Bool→Prop )):=(fun b c d e f g h i j k=>Q (.exit 2) [(2,.v (.int .u64 b)),(8,.v (.int .u64 c)),(9,.v (.int .u64 d)),(10,.v (.int .u64 e)),(14,.v (.int .u64 f)),(15,.v (.int .u64 g)),(16,.v (.int .u64 h)),(17,.v (.int .u64 i)),(18,.v (.int .u64 j)),(113,.v (.bool k))] [])
def fa (a0:gY) (Q:Qx):List St:=[⟨(pS hN (fV 2 pt2 (fV 8 pt2 (fV 9 pt2 (fV 10 pt2 (fV 11 pt2 (fV 13 pt2 (fV 14 pt2 (fV 15 pt2 (fV 16 pt2 fN))))))))) fN),Nm a0 (dy Q) (dz Q)⟩,⟨(pS hN (fV 2 pt2 (fV 8 pt2 (fV 9 pt2 (fV 10 pt2 (fV 11 pt2 (fV 13 pt2 (fV 14 pt2 (fV 15 pt2 (fV 16 pt2 (fV 85 vB fN)))))))))) fN),Bf a0 (dy Q) (dz Q)⟩]
def fb (a0:gY) (Q:Qx):List St:=[⟨(pS hN (fV 2 pt2 (fV 8 pt2 (fV 9 pt2 (fV 10 pt2 (fV 14 pt2 (fV 15 pt2 (fV 16 pt2 (fV 17 pt2 (fV 18 pt2 fN))))))))) fN),Fy a0 (ee Q) (er Q)⟩,⟨(pS hN (fV 2 pt2 (fV 8 pt2 (fV 9 pt2 (fV 10 pt2 (fV 14 pt2 (fV 15 pt2 (fV 16 pt2 (fV 17 pt2 (fV 18 pt2 (fV 120 vB fN)))))))))) fN),Bg a0 (ee Q) (er Q)⟩]
def Uv (a0:gY):LP:=fG [(60530100,fa a0),(60530101,fb a0)]
def No (e:Es) (a0:gY):SE:=sE (E e) [(Mi,Fx.pw a0)] (Uv a0)
theorem Uw (e:Es) (he:EG e):SEOk (bC (E e)) (No e Be):=bK (aK.uni _) ⟨(yue e he),trivial⟩ trivial he.ok
theorem yDI (e:Es) (a0):eC (No e a0) 5 a Rp false (fa a0):=fun _=>⟨fun _=>by kernel_rfl,fun _ _=>by kernel_rfl,fun _=>by kernel_rfl,fun _ _=>by kernel_rfl,trivial⟩
theorem yDJ (e:Es) (he:EG e):cQ (bC (E e)) (Uv Be) [] 60530100 (.loop 60530100 Rp):=fun _ _ _=>bU.st (aK.uni _) (cL (Uw e he) 5) (cF.no _ _) (aZ (by kernel_rfl)) (yDI e _ _)
theorem yDK (e:Es) (a0):eC (No e a0) 5 a Rq false (fb a0):=fun _=>⟨fun _=>by kernel_rfl,fun _ _=>by kernel_rfl,fun _=>by kernel_rfl,fun _ _=>by kernel_rfl,trivial⟩
theorem yDL (e:Es) (he:EG e):cQ (bC (E e)) (Uv Be) [] 60530101 (.loop 60530101 Rq):=fun _ _ _=>bU.st (aK.uni _) (cL (Uw e he) 5) (cF.no _ _) (aZ (by kernel_rfl)) (yDK e _ _)
theorem yLL (e:Es) (a0):bN (No e a0) 6 MT Nn (Uu a0):=fun _ _=>by kernel_rfl
theorem fe (e:Es) (he:EG e):bM (E e) (Nn.pw Bh) HQ:=bO he (yLL e _) (Uw e he) bA.flat (cZ (l:=[(60530100,.loop 60530100 Rp),(60530101,.loop 60530101 Rq)]) ⟨yDJ e he,yDL e he,trivial⟩ (by kernel_rfl))
abbrev Ux:Type:=Int→Int→Int→(Int→Prop)→Prop
def Uy (a0:gT) (b c d:Int) (K:Int→Prop):Prop:=
 (aB (!(decide (d=0))) (a0 (Int.tmod b d) c d (fun _ f=>(K f))))
def CM:Ux:=Uy Bh
def Uz:Sg:=⟨(lC pt2 rS),Int→Prop,fun K=>(fun r0=>K (.int .u64 r0))⟩
def yLN (e:Es) (a0:gT):SE:=sE (E e) [(HQ,Nn.pw a0)] cG
theorem yLO (e:Es) (a0):bN (yLN e a0) 6 R7 Uz (Uy a0):=fun _ _=>by kernel_rfl
theorem yLP (e:Es) (he:EG e):bM (E e) (Uz.pw CM) Mj:=bO he (yLO e _) (bK (aK.uni _) ⟨(fe e he),trivial⟩ trivial he.ok) bA.flat (aZ (by kernel_rfl))
def UA (a0:gS) (a1:eJ) (a2:gY) (a3:nS) (a4:df) (a5:Ux) (a6:gT) (a7:IN) (a8:dg) (b c d e:Int) (K:Int→Int→Int→Prop):Prop:=
 (a0 b c d e (fun f=>(aA (f !=0) (K 0 0 f) (a1 (u64.wrap c) (u64.wrap e) (fun g=>(a2 b (fun h=>(aB (!(decide (g=0))) (a3 h (u64.wrap (Int.tdiv (u64.wrap e) g)) (fun i j=>(a2 d (fun k=>(aB (!(decide (g=0))) (a3 k (u64.wrap (Int.tdiv (u64.wrap c) g)) (fun l m=>(aA ((decide (b<0)) ==(decide (d<0))) (a4 j m 0 (fun o p=>(a4 i l p (fun q _=>(aA (q==0) (aA (o==0) (K 0 1 0) (a5 q o g (fun s=>(a1 s g (fun t=>(aA (decide (q≥t)) (K 0 0 16) (a6 q o t (fun u _=>(aB (!(decide (g=0))) (aB (!(decide (t=0))) (a3 (u64.wrap (Int.tdiv (u64.wrap c) g)) (u64.wrap (Int.tdiv (u64.wrap e) t)) (fun w z=>(aA (decide (w>0)) (K 0 0 16) (a7 (decide (b<0)) u z K)))))))))))))) (a5 q o g (fun s=>(a1 s g (fun t=>(aA (decide (q≥t)) (K 0 0 16) (a6 q o t (fun u _=>(aB (!(decide (g=0))) (aB (!(decide (t=0))) (a3 (u64.wrap (Int.tdiv (u64.wrap c) g)) (u64.wrap (Int.tdiv (u64.wrap e) t)) (fun w z=>(aA (decide (w>0)) (K 0 0 16) (a7 (decide (b<0)) u z K)))))))))))))))))) (aA (decide (i<l)) (a8 m j 0 (fun o p=>(a8 l i p (fun q _=>(aA (q==0) (aA (o==0) (K 0 1 0) (a5 q o g (fun s=>(a1 s g (fun t=>(aA (decide (q≥t)) (K 0 0 16) (a6 q o t (fun u _=>(aB (!(decide (g=0))) (aB (!(decide (t=0))) (a3 (u64.wrap (Int.tdiv (u64.wrap c) g)) (u64.wrap (Int.tdiv (u64.wrap e) t)) (fun w z=>(aA (decide (w>0)) (K 0 0 16) (a7 (!(decide (b<0))) u z K)))))))))))))) (a5 q o g (fun s=>(a1 s g (fun t=>(aA (decide (q≥t)) (K 0 0 16) (a6 q o t (fun u _=>(aB (!(decide (g=0))) (aB (!(decide (t=0))) (a3 (u64.wrap (Int.tdiv (u64.wrap c) g)) (u64.wrap (Int.tdiv (u64.wrap e) t)) (fun w z=>(aA (decide (w>0)) (K 0 0 16) (a7 (!(decide (b<0))) u z K)))))))))))))))))) (aA (i==l) (aA (decide (j<m)) (a8 m j 0 (fun o p=>(a8 l i p (fun q _=>(aA (q==0) (aA (o==0) (K 0 1 0) (a5 q o g (fun s=>(a1 s g (fun t=>(aA (decide (q≥t)) (K 0 0 16) (a6 q o t (fun u _=>(aB (!(decide (g=0))) (aB (!(decide (t=0))) (a3 (u64.wrap (Int.tdiv (u64.wrap c) g)) (u64.wrap (Int.tdiv (u64.wrap e) t)) (fun w z=>(aA (decide (w>0)) (K 0 0 16) (a7 (!(decide (b<0))) u z K)))))))))))))) (a5 q o g (fun s=>(a1 s g (fun t=>(aA (decide (q≥t)) (K 0 0 16) (a6 q o t (fun u _=>(aB (!(decide (g=0))) (aB (!(decide (t=0))) (a3 (u64.wrap (Int.tdiv (u64.wrap c) g)) (u64.wrap (Int.tdiv (u64.wrap e) t)) (fun w z=>(aA (decide (w>0)) (K 0 0 16) (a7 (!(decide (b<0))) u z K)))))))))))))))))) (a8 j m 0 (fun o p=>(a8 i l p (fun q _=>(aA (q==0) (aA (o==0) (K 0 1 0) (a5 q o g (fun s=>(a1 s g (fun t=>(aA (decide (q≥t)) (K 0 0 16) (a6 q o t (fun u _=>(aB (!(decide (g=0))) (aB (!(decide (t=0))) (a3 (u64.wrap (Int.tdiv (u64.wrap c) g)) (u64.wrap (Int.tdiv (u64.wrap e) t)) (fun w z=>(aA (decide (w>0)) (K 0 0 16) (a7 (decide (b<0)) u z K)))))))))))))) (a5 q o g (fun s=>(a1 s g (fun t=>(aA (decide (q≥t)) (K 0 0 16) (a6 q o t (fun u _=>(aB (!(decide (g=0))) (aB (!(decide (t=0))) (a3 (u64.wrap (Int.tdiv (u64.wrap c) g)) (u64.wrap (Int.tdiv (u64.wrap e) t)) (fun w z=>(aA (decide (w>0)) (K 0 0 16) (a7 (decide (b<0)) u z K))))))))))))))))))) (a8 j m 0 (fun o p=>(a8 i l p (fun q _=>(aA (q==0) (aA (o==0) (K 0 1 0) (a5 q o g (fun s=>(a1 s g (fun t=>(aA (decide (q≥t)) (K 0 0 16) (a6 q o t (fun u _=>(aB (!(decide (g=0))) (aB (!(decide (t=0))) (a3 (u64.wrap (Int.tdiv (u64.wrap c) g)) (u64.wrap (Int.tdiv (u64.wrap e) t)) (fun w z=>(aA (decide (w>0)) (K 0 0 16) (a7 (decide (b<0)) u z K)))))))))))))) (a5 q o g (fun s=>(a1 s g (fun t=>(aA (decide (q≥t)) (K 0 0 16) (a6 q o t (fun u _=>(aB (!(decide (g=0))) (aB (!(decide (t=0))) (a3 (u64.wrap (Int.tdiv (u64.wrap c) g)) (u64.wrap (Int.tdiv (u64.wrap e) t)) (fun w z=>(aA (decide (w>0)) (K 0 0 16) (a7 (decide (b<0)) u z K))))))))))))))))))))))))))))))))))))
def oS:dE:=UA Bc vH CL zJ EQ CM Bh Bd ER
def yHs (e:Es) (a0:gS) (a1:eJ) (a2:gY) (a3:nS) (a4:df) (a5:Ux) (a6:gT) (a7:IN) (a8:dg):SE:=sE (E e) [(AV,nD.pw a0),(EX,xG.pw a1),(Cr,tQ.pw a2),(EY,IM.pw a3),(Cx,QJ a4),(Mj,Uz.pw a5),(HQ,Nn.pw a6),(HP,Nh.pw a7),(Cy,QK a8)] cG
theorem yHt (e:Es) (a0 a1 a2 a3 a4 a5 a6 a7 a8):bN (yHs e a0 a1 a2 a3 a4 a5 a6 a7 a8) 6 R8 fA (UA a0 a1 a2 a3 a4 a5 a6 a7 a8):=fun _ _=>by kernel_rfl
theorem IQ (e:Es) (he:EG e):bM (E e) (fA.pw oS) Cz:=bO he (yHt e _ _ _ _ _ _ _ _ _) (bK (aK.uni _) ⟨(IL e he),(TX e he),(Nd e he),(Ud e he),(yLC e he),(yLP e he),(fe e he),(du e he),(yLD e he),trivial⟩ trivial he.ok) bA.flat (aZ (by kernel_rfl))
def UB (a0:gS) (a1:dE) (b c d e:Int) (K:Int→Int→Int→Prop):Prop:=
 (a0 b c d e (fun f=>(aA (f !=0) (K 0 0 f) (a1 b c (i64.wrap (0-d)) e K))))
def yaX:dE:=UB Bc oS
def yHu (e:Es) (a0:gS) (a1:dE):SE:=sE (E e) [(AV,nD.pw a0),(Cz,fA.pw a1)] cG
theorem yHv (e:Es) (a0 a1):bN (yHu e a0 a1) 6 R9 fA (UB a0 a1):=fun _ _=>by kernel_rfl
theorem Fz (e:Es) (he:EG e):bM (E e) (fA.pw yaX) AX:=bO he (yHv e _ _) (bK (aK.uni _) ⟨(IL e he),(IQ e he),trivial⟩ trivial he.ok) bA.flat (aZ (by kernel_rfl))
def UC (a0:gS) (a1:dE) (b c d e:Int) (K:Int→Int→Int→Prop):Prop:=
 (a0 b c d e (fun f=>(aA (f !=0) (K 0 0 f) (aA (d==0) (K 0 0 18) (aA (decide (d<0)) (a1 b c (i64.wrap (0-e)) (i64.wrap (0-d)) K) (a1 b c e d K))))))
def vK:dE:=UC Bc ybF
def yHw (e:Es) (a0:gS) (a1:dE):SE:=sE (E e) [(AV,nD.pw a0),(AW,fA.pw a1)] cG
theorem yHx (e:Es) (a0 a1):bN (yHw e a0 a1) 6 S0 fA (UC a0 a1):=fun _ _=>by kernel_rfl
theorem UD (e:Es) (he:EG e):bM (E e) (fA.pw vK) HR:=bO he (yHx e _ _) (bK (aK.uni _) ⟨(IL e he),(Fs e he),trivial⟩ trivial he.ok) bA.flat (aZ (by kernel_rfl))
set_option linter.unusedVariables false
theorem yBz (p0 p1 r0:Int) (h:∀ K:Int→Prop,K r0→rT p0 p1 K) (K:Int→Prop):rT p0 p1 K=K r0:=
 Aac ⟨fun k=>cE (IK [] fQ) (az:=[(.agg [(ic p0),(ic p1)])]) (x:=(ic r0)) (fun K' k'=>h (fun r0=>K' (ic r0)) k') (K:=fun x=>match x with | (ic r0)=>K r0 | _=>False) k,h K⟩
theorem yEY (p0 p1 p2 p3 r0 r1 r2:Int) (h:∀ K:Int→Int→Int→Prop,K r0 r1 r2→ybF p0 p1 p2 p3 K) (K:Int→Int→Int→Prop):ybF p0 p1 p2 p3 K=K r0 r1 r2:=
 Aac ⟨fun k=>cE (Fs [] fQ) (az:=[(.agg [(ic p0),(ic p1)]),(.agg [(ic p2),(ic p3)])]) (x:=(.tup [(.agg [(ic r0),(ic r1)]),(ic r2)])) (fun K' k'=>h (fun r0 r1 r2=>K' (.tup [(.agg [(ic r0),(ic r1)]),(ic r2)])) k') (K:=fun x=>match x with | (.tup [(.agg [(ic r0),(ic r1)]),(ic r2)])=>K r0 r1 r2 | _=>False) k,h K⟩
theorem yEZ (p0 p1 p2 p3 r0 r1:Int) (h:∀ K:Int→Int→Prop,K r0 r1→rU p0 p1 p2 p3 K) (K:Int→Int→Prop):rU p0 p1 p2 p3 K=K r0 r1:=
 Aac ⟨fun k=>cE (IP [] fQ) (az:=[(.agg [(ic p0),(ic p1)]),(.agg [(ic p2),(ic p3)])]) (x:=(.tup [(ic r0),(ic r1)])) (fun K' k'=>h (fun r0 r1=>K' (.tup [(ic r0),(ic r1)])) k') (K:=fun x=>match x with | (.tup [(ic r0),(ic r1)])=>K r0 r1 | _=>False) k,h K⟩
theorem yE0 (p0 p1 p2 p3 r0 r1 r2:Int) (h:∀ K:Int→Int→Int→Prop,K r0 r1 r2→oS p0 p1 p2 p3 K) (K:Int→Int→Int→Prop):oS p0 p1 p2 p3 K=K r0 r1 r2:=
 Aac ⟨fun k=>cE (IQ [] fQ) (az:=[(.agg [(ic p0),(ic p1)]),(.agg [(ic p2),(ic p3)])]) (x:=(.tup [(.agg [(ic r0),(ic r1)]),(ic r2)])) (fun K' k'=>h (fun r0 r1 r2=>K' (.tup [(.agg [(ic r0),(ic r1)]),(ic r2)])) k') (K:=fun x=>match x with | (.tup [(.agg [(ic r0),(ic r1)]),(ic r2)])=>K r0 r1 r2 | _=>False) k,h K⟩
theorem yE1 (p0 p1 p2 p3 r0 r1 r2:Int) (h:∀ K:Int→Int→Int→Prop,K r0 r1 r2→yaX p0 p1 p2 p3 K) (K:Int→Int→Int→Prop):yaX p0 p1 p2 p3 K=K r0 r1 r2:=
 Aac ⟨fun k=>cE (Fz [] fQ) (az:=[(.agg [(ic p0),(ic p1)]),(.agg [(ic p2),(ic p3)])]) (x:=(.tup [(.agg [(ic r0),(ic r1)]),(ic r2)])) (fun K' k'=>h (fun r0 r1 r2=>K' (.tup [(.agg [(ic r0),(ic r1)]),(ic r2)])) k') (K:=fun x=>match x with | (.tup [(.agg [(ic r0),(ic r1)]),(ic r2)])=>K r0 r1 r2 | _=>False) k,h K⟩
theorem yE2 (p0 p1 p2 p3 r0 r1 r2:Int) (h:∀ K:Int→Int→Int→Prop,K r0 r1 r2→vK p0 p1 p2 p3 K) (K:Int→Int→Int→Prop):vK p0 p1 p2 p3 K=K r0 r1 r2:=
 Aac ⟨fun k=>cE (UD [] fQ) (az:=[(.agg [(ic p0),(ic p1)]),(.agg [(ic p2),(ic p3)])]) (x:=(.tup [(.agg [(ic r0),(ic r1)]),(ic r2)])) (fun K' k'=>h (fun r0 r1 r2=>K' (.tup [(.agg [(ic r0),(ic r1)]),(ic r2)])) k') (K:=fun x=>match x with | (.tup [(.agg [(ic r0),(ic r1)]),(ic r2)])=>K r0 r1 r2 | _=>False) k,h K⟩
def FA (x0:Ls→Int→Int→Bool→Prop):Nat→Ls→Int→Int→Prop
 | 0,_,_,_=>False
 | n+1,b,c,d=>
 (aA (decide (d<(((length b):Nat):Int))) (aB (decide (0≤d)) (aB (decide (d<(((length b):Nat):Int))) (aB (aE zI (getD b (d.toNat) .nils)) (FA x0 n b (if (aC (getD b (d.toNat) .nils))<c then (aC (getD b (d.toNat) .nils)) else c) (i64.wrap (d+1)))))) (x0 b c d false))
def UE (b:Ls) (K:Int→Prop):Prop:=
 (aA (decide ((((length b):Nat):Int)<1)) False (aB (decide (0<(((length b):Nat):Int))) (aB (aE zI (getD b 0 .nils)) (∃ n:Nat,FA (fun c d e f=>(K d)) n b (aC (getD b 0 .nils)) 1))))
def FC:oR:=UE
def yuf (Q:Qx):Ls→Int→Int→Bool→Prop:=(fun b c d e=>Q (.exit 0) [(0,.v (.data b)),(3,.v (ic c)),(4,.v (ic d)),(15,.v (.bool e))] [])
def pP:Pat aG:=fV 4 bL fN
def IR:Pat rQ:=pS hN (fV 0 vD (fV 3 bL pP)) fN
def ff (Q:Qx):List St:=[⟨IR,FA (yuf Q)⟩]
def fh:LP:=fG [(10434000,ff)]
def UF (e:Es):SE:=sE (E e) [] (fh)
theorem fi (e:Es) (he:EG e):SEOk (bC (E e)) (UF e):=bK (aK.uni _) trivial trivial he.ok
theorem yss (e:Es):eC (UF e) 5 a Ra false (ff):=fun _=>⟨fun _=>by kernel_rfl,fun _ _=>by kernel_rfl,trivial⟩
theorem yst (e:Es) (he:EG e):cQ (bC (E e)) (fh) [] 10434000 (.loop 10434000 Ra):=fun _ _ _=>bU.st (aK.uni _) (cL (fi e he) 5) (cF.no _ _) (aZ (by kernel_rfl)) (yss e _)
theorem yzG (e:Es):bN (UF e) 6 QZ pN UE:=fun _ _=>by kernel_rfl
theorem yzH (e:Es) (he:EG e):bM (E e) (pN.pw FC) LW:=bO he (yzG e) (fi e he) bA.flat (cZ (l:=[(10434000,.loop 10434000 Ra)]) ⟨yst e he,trivial⟩ (by kernel_rfl))
def FD (x0:Ls→Int→Int→Bool→Prop):Nat→Ls→Int→Int→Prop
 | 0,_,_,_=>False
 | n+1,b,c,d=>
 (aA (decide (d<(((length b):Nat):Int))) (aB (decide (0≤d)) (aB (decide (d<(((length b):Nat):Int))) (aB (aE zI (getD b (d.toNat) .nils)) (FD x0 n b (if (aC (getD b (d.toNat) .nils))>c then (aC (getD b (d.toNat) .nils)) else c) (i64.wrap (d+1)))))) (x0 b c d false))
def UG (b:Ls) (K:Int→Prop):Prop:=
 (aA (decide ((((length b):Nat):Int)<1)) False (aB (decide (0<(((length b):Nat):Int))) (aB (aE zI (getD b 0 .nils)) (∃ n:Nat,FD (fun c d e f=>(K d)) n b (aC (getD b 0 .nils)) 1))))
def FE:oR:=UG
def yug (Q:Qx):Ls→Int→Int→Bool→Prop:=(fun b c d e=>Q (.exit 0) [(0,.v (.data b)),(3,.v (ic c)),(4,.v (ic d)),(15,.v (.bool e))] [])
def fj (Q:Qx):List St:=[⟨IR,FD (yug Q)⟩]
def fk:LP:=fG [(64079100,fj)]
def UH (e:Es):SE:=sE (E e) [] (fk)
theorem fm (e:Es) (he:EG e):SEOk (bC (E e)) (UH e):=bK (aK.uni _) trivial trivial he.ok
theorem ysu (e:Es):eC (UH e) 5 a Rc false (fj):=fun _=>⟨fun _=>by kernel_rfl,fun _ _=>by kernel_rfl,trivial⟩
theorem ysv (e:Es) (he:EG e):cQ (bC (E e)) (fk) [] 64079100 (.loop 64079100 Rc):=fun _ _ _=>bU.st (aK.uni _) (cL (fm e he) 5) (cF.no _ _) (aZ (by kernel_rfl)) (ysu e _)
theorem yzI (e:Es):bN (UH e) 6 Rb pN UG:=fun _ _=>by kernel_rfl
theorem yzJ (e:Es) (he:EG e):bM (E e) (pN.pw FE) LX:=bO he (yzI e) (fm e he) bA.flat (cZ (l:=[(64079100,.loop 64079100 Rc)]) ⟨ysv e he,trivial⟩ (by kernel_rfl))
abbrev cD:Type:=Int→Ls→Ls→(Int→Prop)→Prop
def FF (a0 a1:oR) (x0:Int→Prop) (x1:Int→Ls→Ls→Int→Int→Bool→Prop):Nat→Int→Ls→Ls→Int→Int→Prop
 | 0,_,_,_,_,_=>False
 | n+1,b,c,d,e,f=>
 (aA (decide (f<e)) (aB (decide (0≤f)) (aB (decide (f<(((length c):Nat):Int))) (aB (aE zI (getD c (f.toNat) .nils)) (aB (decide (0≤(i64.wrap (f+1)))) (aB (decide ((i64.wrap (f+1))<(((length c):Nat):Int))) (aB (aE zI (getD c ((i64.wrap (f+1)).toNat) .nils)) (aA (decide ((aC (getD c (f.toNat) .nils))≥(aC (getD c ((i64.wrap (f+1)).toNat) .nils)))) (x0 8) (FF a0 a1 x0 x1 n b c d e (i64.wrap (f+1)))))))))) (x1 b c d e f false))
def UI (a0 a1:oR) (b:Int) (c d:Ls) (K:Int→Prop):Prop:=
 (aA (decide (b>1000)) (K 4) (aA (decide ((((length c):Nat):Int)>40)) (K 4) (aA (decide (b<1)) (K 8) (aA (decide ((((length c):Nat):Int)<2)) (K 8) (aA ((((length d):Nat):Int) !=(i64.wrap ((((length c):Nat):Int)-1))) (K 8) (aB (decide (0<(((length c):Nat):Int))) (aB (aE zI (getD c 0 .nils)) (aA ((aC (getD c 0 .nils)) !=0) (K 8) (aB (decide (0≤(i64.wrap ((((length c):Nat):Int)-1)))) (aB (decide ((i64.wrap ((((length c):Nat):Int)-1))<(((length c):Nat):Int))) (aB (aE zI (getD c ((i64.wrap ((((length c):Nat):Int)-1)).toNat) .nils)) (aA ((aC (getD c ((i64.wrap ((((length c):Nat):Int)-1)).toNat) .nils)) !=b) (K 8) (∃ n:Nat,FF a0 a1 K (fun e f g h i j=>(a0 g (fun k=>(aA (decide (k<0)) (K 8) (a1 g (fun l=>(aA (decide (l>12)) (K 8) (a1 g (fun m=>(aA (m==0) (K 8) (K 0))))))))))) n b c d (i64.wrap ((((length c):Nat):Int)-1)) 0)))))))))))))
def kA:cD:=UI FC FE
def vL:jN:=lC vD xH
def lA:gH:=vA (lC bL vL)
def zL:jN:=lC lA lN
def pQ:Sg:=⟨zL,Int→Prop,fun K=>(fun r0=>K (ic r0))⟩
def yzK (Q:Qx):Int→Prop:=(fun b=>Q .ret [(2,.v (ic b))] [])
def yzL (Q:Qx):Int→Ls→Ls→Int→Int→Bool→Prop:=(fun b c d e f g=>Q (.exit 0) [(1,.box (.agg [(ic b),(.data c),(.data d)])),(49,.v (ic e)),(50,.v (ic f)),(51,.v (.bool g))] [])
def fp (a0 a1:oR) (Q:Qx):List St:=[⟨(pS hN (fX 1 lA (fV 49 bL (fV 50 bL fN))) fN),FF a0 a1 (yzK Q) (yzL Q)⟩]
def fq (a0 a1:oR):LP:=fG [(87419700,fp a0 a1)]
def UJ (e:Es) (a0 a1:oR):SE:=sE (E e) [(LW,pN.pw a0),(LX,pN.pw a1)] (fq a0 a1)
theorem ft (e:Es) (he:EG e):SEOk (bC (E e)) (UJ e FC FE):=bK (aK.uni _) ⟨(yzH e he),(yzJ e he),trivial⟩ trivial he.ok
theorem yx0 (e:Es) (a0 a1):eC (UJ e a0 a1) 5 a Re false (fp a0 a1):=fun _=>⟨fun _=>by kernel_rfl,fun _ _=>by kernel_rfl,trivial⟩
theorem yx1 (e:Es) (he:EG e):cQ (bC (E e)) (fq FC FE) [] 87419700 (.loop 87419700 Re):=fun _ _ _=>bU.st (aK.uni _) (cL (ft e he) 5) (cF.no _ _) (aZ (by kernel_rfl)) (yx0 e _ _ _)
theorem yE3 (e:Es) (a0 a1):bN (UJ e a0 a1) 6 Rd pQ (UI a0 a1):=fun _ _=>by kernel_rfl
theorem FG (e:Es) (he:EG e):bM (E e) (pQ.pw kA) AU:=bO he (yE3 e _ _) (ft e he) bA.flat (cZ (l:=[(87419700,.loop 87419700 Re)]) ⟨yx1 e he,trivial⟩ (by kernel_rfl))
abbrev UK:Type:=Int→Ls→Ls→(Int→Int→Prop)→Prop
def FH (a0:cD) (x0:Int→Ls→Ls→Int→Ls→Int→Int→Bool→Prop):Nat→Int→Ls→Ls→Int→Ls→Int→Int→Prop
 | 0,_,_,_,_,_,_,_=>False
 | n+1,b,c,d,e,f,g,h=>
 (aA (decide (h<g)) (aB (decide (0≤h)) (aB (decide (h<(((length f):Nat):Int))) (aB (aE zI (getD f (h.toNat) .nils)) (aB (decide (0≤(i64.wrap (h+1)))) (aB (decide ((i64.wrap (h+1))<(((length c):Nat):Int))) (aB (aE zI (getD c ((i64.wrap (h+1)).toNat) .nils)) (aB (decide (0≤h)) (aB (decide (h<(((length c):Nat):Int))) (aB (aE zI (getD c (h.toNat) .nils)) (FH a0 x0 n b c d (i64.wrap (e+(i64.wrap ((aC (getD f (h.toNat) .nils))*(i64.wrap ((aC (getD c ((i64.wrap (h+1)).toNat) .nils))-(aC (getD c (h.toNat) .nils)))))))) f g (i64.wrap (h+1)))))))))))) (x0 b c d e f g h false))
def Np (a0:cD) (b:Int) (c d:Ls) (K:Int→Int→Prop):Prop:=
 (a0 b c d (fun e=>(aA (e !=0) (K 0 e) (∃ n:Nat,FH a0 (fun f g h i j k l m=>(K i 0)) n b c d 0 d (((length d):Nat):Int) 0))))
def CN:UK:=Np kA
def UL:Sg:=⟨zL,Int→Int→Prop,fun K=>(fun r0 r1=>K (.tup [(ic r0),(ic r1)]))⟩
def yzM (Q:Qx):Int→Ls→Ls→Int→Ls→Int→Int→Bool→Prop:=(fun b c d e f g h i=>Q (.exit 0) [(1,.box (.agg [(ic b),(.data c),(.data d)])),(5,.v (ic e)),(14,.v (.data f)),(15,.v (ic g)),(16,.v (ic h)),(17,.v (.bool i))] [])
def IS:Pat aG:=fV 14 vD (fV 15 bL (fV 16 bL fN))
def fw (a0:cD) (Q:Qx):List St:=[⟨(pS hN (fX 1 lA (fV 5 bL IS)) fN),FH a0 (yzM Q)⟩]
def fy (a0:cD):LP:=fG [(45203600,fw a0)]
def UM (e:Es) (a0:cD):SE:=sE (E e) [(AU,pQ.pw a0)] (fy a0)
theorem gb (e:Es) (he:EG e):SEOk (bC (E e)) (UM e kA):=bK (aK.uni _) ⟨(FG e he),trivial⟩ trivial he.ok
theorem yx2 (e:Es) (a0):eC (UM e a0) 5 a Ri false (fw a0):=fun _=>⟨fun _=>by kernel_rfl,fun _ _=>by kernel_rfl,trivial⟩
theorem yx3 (e:Es) (he:EG e):cQ (bC (E e)) (fy kA) [] 45203600 (.loop 45203600 Ri):=fun _ _ _=>bU.st (aK.uni _) (cL (gb e he) 5) (cF.no _ _) (aZ (by kernel_rfl)) (yx2 e _ _)
theorem yE5 (e:Es) (a0):bN (UM e a0) 6 Rh UL (Np a0):=fun _ _=>by kernel_rfl
theorem gf (e:Es) (he:EG e):bM (E e) (UL.pw CN) LY:=bO he (yE5 e _) (gb e he) bA.flat (cZ (l:=[(45203600,.loop 45203600 Ri)]) ⟨yx3 e he,trivial⟩ (by kernel_rfl))
abbrev cA:Type:=Int→(Int→Int→Prop)→Prop
def gh (b:Int) (K:Int→Int→Prop):Prop:=
 (K b 1)
def tR:cA:=gh
def nE:Sg:=⟨pt1,Int→Int→Prop,fun K=>(fun r0 r1=>K (.agg [(ic r0),(ic r1)]))⟩
def yE6 (e:Es):SE:=sE (E e) [] cG
theorem yE7 (e:Es):bN (yE6 e) 6 Q7 nE gh:=fun _ _=>by kernel_rfl
theorem Nq (e:Es) (he:EG e):bM (E e) (nE.pw tR) Cu:=bO he (yE7 e) (bK (aK.uni _) trivial trivial he.ok) bA.flat (aZ (by kernel_rfl))
abbrev bH:Type:=J4 ((Bool→Prop)→Prop)
def UN (a0:iI) (b c d e:Int) (K:Bool→Prop):Prop:=
 (a0 b c d e (fun f g=>(K (decide (f<0)))))
def rV:bH:=UN rU
def mH:Sg:=⟨nR,Bool→Prop,fun K=>(fun r0=>K (.bool r0))⟩
def yHy (e:Es) (a0:iI):SE:=sE (E e) [(Cv,Fw.pw a0)] cG
theorem yHz (e:Es) (a0):bN (yHy e a0) 6 R3 mH (UN a0):=fun _ _=>by kernel_rfl
theorem Nr (e:Es) (he:EG e):bM (E e) (mH.pw rV) Cw:=bO he (yHz e _) (bK (aK.uni _) ⟨(IP e he),trivial⟩ trivial he.ok) bA.flat (aZ (by kernel_rfl))
abbrev tS:Type:=Int→Ls→Ls→Int→Int→(Bool→Prop)→Prop
def UO (a0:eJ) (a1:cA) (a2:bH) (b:Int) (c d:Ls) (e f:Int) (K:Bool→Prop):Prop:=
 (a0 e f (fun g=>(aA (g==0) (aA (decide (e≥0)) (a1 b (fun h i=>(a2 h i e f (fun j=>(K (!j)))))) (K false)) (K false))))
def tT:tS:=UO rT tR rV
def IT:Sg:=⟨(lC lA Fq),Bool→Prop,fun K=>(fun r0=>K (.bool r0))⟩
def yE9 (e:Es) (a0:eJ) (a1:cA) (a2:bH):SE:=sE (E e) [(Ct,vJ.pw a0),(Cu,nE.pw a1),(Cw,mH.pw a2)] cG
theorem yFa (e:Es) (a0 a1 a2):bN (yE9 e a0 a1 a2) 6 R4 IT (UO a0 a1 a2):=fun _ _=>by kernel_rfl
theorem UP (e:Es) (he:EG e):bM (E e) (IT.pw tT) EZ:=bO he (yFa e _ _ _) (bK (aK.uni _) ⟨(IK e he),(Nq e he),(Nr e he),trivial⟩ trivial he.ok) bA.flat (aZ (by kernel_rfl))
abbrev xI:Type:=Int→Ls→Ls→J4 ((Int→Int→Int→Prop)→Prop)
def tU (a0:cD) (a1:tS) (a2:eJ) (a3:cA) (a4:bH) (a5 a6 a7 a8:dE) (x0:J4 (Int→Int→Prop)) (x1:J4 (Int→Int→Ls→Ls→Int→Int→Ls→Int→Int→Bool→Prop)):Nat→J4 (Int→Int→Ls→Ls→Int→Int→Ls→Int→Int→Prop)
 | 0,_,_,_,_,_,_,_,_,_,_,_,_,_=>False
 | n+1,b,c,d,e,f,g,h,i,j,k,l,m,o=>
 (aA (decide (o<m)) (aB (decide (0≤o)) (aB (decide (o<(((length l):Nat):Int))) (aB (aE zI (getD l (o.toNat) .nils)) (aB (decide (0≤(i64.wrap (o+1)))) (aB (decide ((i64.wrap (o+1))<(((length h):Nat):Int))) (aB (aE zI (getD h ((i64.wrap (o+1)).toNat) .nils)) (a3 (aC (getD h ((i64.wrap (o+1)).toNat) .nils)) (fun p q=>(a4 j k p q (fun r=>(aA (!r) (tU a0 a1 a2 a3 a4 a5 a6 a7 a8 x0 x1 n b c d e f g h i j k l m (i64.wrap (o+1))) (a3 0 (fun s t=>(aA (decide ((aC (getD l (o.toNat) .nils))>0)) (a5 p q j k (fun u v w=>(aA (w !=0) (x0 b c d e f w) (a3 (aC (getD l (o.toNat) .nils)) (fun z A=>(a6 u v z A (fun B C D=>(aA (D !=0) (x0 b c d e f D) (aA ((aC (getD l (o.toNat) .nils))==0) (tU a0 a1 a2 a3 a4 a5 a6 a7 a8 x0 x1 n b c d e f g h i p q l m (i64.wrap (o+1))) (a4 B C b c (fun E=>(aA E (a5 b c B C (fun F G H=>(aA (H !=0) (aA (H !=0) (x0 F G d e H 0) (tU a0 a1 a2 a3 a4 a5 a6 a7 a8 x0 x1 n F G d e H g h i p q l m (i64.wrap (o+1)))) (aA (H !=0) (x0 F G d e 6 0) (tU a0 a1 a2 a3 a4 a5 a6 a7 a8 x0 x1 n F G d e 6 g h i p q l m (i64.wrap (o+1))))))) (a3 (aC (getD l (o.toNat) .nils)) (fun F G=>(a7 b c F G (fun H I J=>(aA (J==0) (a8 j k H I (fun L M N=>(x0 b c L M N 0))) (x0 b c d e J 0)))))))))))))))))) (aA ((aC (getD l (o.toNat) .nils))==0) (tU a0 a1 a2 a3 a4 a5 a6 a7 a8 x0 x1 n b c d e f g h i p q l m (i64.wrap (o+1))) (a4 s t b c (fun u=>(aA u (a5 b c s t (fun v w z=>(aA (z !=0) (aA (z !=0) (x0 v w d e z 0) (tU a0 a1 a2 a3 a4 a5 a6 a7 a8 x0 x1 n v w d e z g h i p q l m (i64.wrap (o+1)))) (aA (z !=0) (x0 v w d e 6 0) (tU a0 a1 a2 a3 a4 a5 a6 a7 a8 x0 x1 n v w d e 6 g h i p q l m (i64.wrap (o+1))))))) (a3 (aC (getD l (o.toNat) .nils)) (fun v w=>(a7 b c v w (fun z A B=>(aA (B==0) (a8 j k z A (fun C D E=>(x0 b c C D E 0))) (x0 b c d e B 0)))))))))))))))))))))))) (x1 b c d e f g h i j k l m o false))
def UQ (a0:cD) (a1:tS) (a2:eJ) (a3:cA) (a4:bH) (a5 a6 a7 a8:dE) (b:Int) (c d:Ls) (e f g h:Int) (K:Int→Int→Int→Prop):Prop:=
 (a0 b c d (fun i=>(aA (i !=0) (K 0 0 i) (a1 b c d e f (fun j=>(aA (!j) (K 0 0 2) (a2 g h (fun k=>(aA (k !=0) (K 0 0 2) (aA (decide (g<0)) (K 0 0 2) (aA (g==0) (K e f 0) (∃ n:Nat,tU a0 a1 a2 a3 a4 a5 a6 a7 a8 (fun l m o p q r=>(aA (r !=0) (aA (r !=0) (K 0 0 r) (K o p 0)) (aA (q !=0) (K 0 0 q) (K o p 0)))) (fun l m o p q r s t u v w z A B=>(aA (q !=0) (K 0 0 q) (K o p 0))) n g h 0 0 6 b c d e f d (((length d):Nat):Int) 0))))))))))))
def FI:xI:=UQ kA tT rT tR rV yaX ybF vK oS
def UR:jN:=lC lA nR
def tV:Sg:=⟨UR,Int→Int→Int→Prop,fun K=>(fun r0 r1 r2=>K (.tup [(.agg [(ic r0),(ic r1)]),(ic r2)]))⟩
def yBA (Q:Qx):J4 (Int→Int→Prop ):=(fun b c d e f g=>Q .ret [(6,.v (ic g))] [⟨false,true,2,([(.agg [(ic b),(ic c)])]:Ls)⟩,⟨false,true,2,([(.agg [(ic d),(ic e)])]:Ls)⟩,⟨false,true,1,([(ic f)]:Ls)⟩])
def yBB (Q:Qx):J4 (Int→Int→Ls→Ls→Int→Int→Ls→Int→Int→Bool→Prop ):=(fun b c d e f g h i j k l m o p=>Q (.exit 0) [(2,.v (.fn (.func HS) [] [(.ptr 0 1 0 0),(.ptr 2 1 0 0),(.ptr 1 1 0 0)])),(3,.box (.agg [(ic g),(.data h),(.data i)])),(4,.box (.agg [(ic j),(ic k)])),(14,.v (.data l)),(15,.v (ic m)),(16,.v (ic o)),(17,.v (.bool p))] [⟨false,true,2,([(.agg [(ic b),(ic c)])]:Ls)⟩,⟨false,true,2,([(.agg [(ic d),(ic e)])]:Ls)⟩,⟨false,true,1,([(ic f)]:Ls)⟩])
def pR:RPt:=rC bL rN
def CO:HPt:=hB false true 1 pR hN
def cU:gH:=vP 0 0 (nK 1) (nK 0)
def pT:gH:=vP 1 0 (nK 1) (nK 0)
def gi (a0:cD) (a1:tS) (a2:eJ) (a3:cA) (a4:bH) (a5 a6 a7 a8:dE) (Q:Qx):List St:=[⟨(pS (hB false true 2 (rC nQ rN) (hB false true 2 (rC nQ rN) CO)) (fV 2 (vF HS lN (lC cU (lC (vP 2 0 (nK 1) (nK 0)) (lC pT lN)))) (fX 3 lA (fX 4 nQ IS))) fN),tU a0 a1 a2 a3 a4 a5 a6 a7 a8 (yBA Q) (yBB Q)⟩]
def US (a0:cD) (a1:tS) (a2:eJ) (a3:cA) (a4:bH) (a5 a6 a7 a8:dE):LP:=fG [(41613500,gi a0 a1 a2 a3 a4 a5 a6 a7 a8)]
def gj (e:Es) (a0:cD) (a1:tS) (a2:eJ) (a3:cA) (a4:bH) (a5 a6 a7 a8:dE):SE:=⟨(E e),ygn [(AU,pQ.pw a0),(EZ,IT.pw a1),(Ct,vJ.pw a2),(Cu,nE.pw a3),(Cw,mH.pw a4),(AX,fA.pw a5),(AW,fA.pw a6),(HR,fA.pw a7),(Cz,fA.pw a8)],ygo [(HS,Rr)],US a0 a1 a2 a3 a4 a5 a6 a7 a8,fun _=>none⟩
def gk (e:Es) (a0:cD) (a1:tS) (a2:eJ) (a3:cA) (a4:bH) (a5 a6 a7 a8:dE):SE:=⟨(E e),ygn [(AU,pQ.pw a0),(EZ,IT.pw a1),(Ct,vJ.pw a2),(Cu,nE.pw a3),(Cw,mH.pw a4),(AX,fA.pw a5),(AW,fA.pw a6),(HR,fA.pw a7),(Cz,fA.pw a8)],ygo [(O6,Rs),(HS,Rr)],US a0 a1 a2 a3 a4 a5 a6 a7 a8,fun _=>none⟩
theorem yFb (e:Es) (he:EG e):SEOk (bC (E e)) (gj e kA tT rT tR rV yaX ybF vK oS):=bK (aK.uni _) ⟨(FG e he),(UP e he),(IK e he),(Nq e he),(Nr e he),(Fz e he),(Fs e he),(UD e he),(IQ e he),trivial⟩ ⟨⟨by kernel_rfl,by kernel_rfl,rfl,fun az=>rO (by kernel_rfl) az,he.num _ (by kernel_rfl),by kernel_rfl,(aZ (by kernel_rfl))⟩,trivial⟩ he.ok
theorem yzN (e:Es) (a0 a1 a2 a3 a4 a5 a6 a7 a8):eC (gj e a0 a1 a2 a3 a4 a5 a6 a7 a8) 5 a Rt false (gi a0 a1 a2 a3 a4 a5 a6 a7 a8):=fun _=>⟨fun _=>by kernel_rfl,fun _ _=>by kernel_rfl,trivial⟩
theorem yzO (e:Es) (he:EG e):cQ (bC (E e)) (US kA tT rT tR rV yaX ybF vK oS) [] 41613500 (.loop 41613500 Rt):=fun _ _ _=>bU.st (aK.uni _) (cL (yFb e he) 5) (cF.no _ _) (aZ (by kernel_rfl)) (yzN e _ _ _ _ _ _ _ _ _ _)
theorem yFc (e:Es) (he:EG e):SEOk (bC (E e)) (gk e kA tT rT tR rV yaX ybF vK oS):=bK (aK.uni _) ⟨(FG e he),(UP e he),(IK e he),(Nq e he),(Nr e he),(Fz e he),(Fs e he),(UD e he),(IQ e he),trivial⟩ ⟨⟨by kernel_rfl,by kernel_rfl,rfl,fun az=>rO (by kernel_rfl) az,he.num _ (by kernel_rfl),by kernel_rfl,(cZ (l:=[(41613500,.loop 41613500 Rt)]) ⟨yzO e he,trivial⟩ (by kernel_rfl))⟩,⟨by kernel_rfl,by kernel_rfl,rfl,fun az=>rO (by kernel_rfl) az,he.num _ (by kernel_rfl),by kernel_rfl,(aZ (by kernel_rfl))⟩,trivial⟩ he.ok
theorem yHA (e:Es) (a0 a1 a2 a3 a4 a5 a6 a7 a8):bN (gk e a0 a1 a2 a3 a4 a5 a6 a7 a8) 6 S2 tV (UQ a0 a1 a2 a3 a4 a5 a6 a7 a8):=fun _ _=>by kernel_rfl
theorem gm (e:Es) (he:EG e):bM (E e) (tV.pw FI) Mk:=bO he (yHA e _ _ _ _ _ _ _ _ _) (yFc e he) bA.flat (aZ (by kernel_rfl))
def pV (a0:cD) (a1:tS) (a2:bH) (a3:cA) (a4 a5 a6:dE) (x0:Int→Int→Int→Prop) (x1:Int→Ls→Ls→J4 (J4 (Ls→Int→Int→Bool→Prop))):Nat→Int→Ls→Ls→J4 (J4 (Ls→Int→Int→Prop))
 | 0,_,_,_,_,_,_,_,_,_,_,_,_,_,_=>False
 | n+1,b,c,d,e,f,g,h,i,j,k,l,m,o,p=>
 (aA (decide (p<o)) (aB (decide (0≤p)) (aB (decide (p<(((length m):Nat):Int))) (aB (aE zI (getD m (p.toNat) .nils)) (aB (decide (0≤(i64.wrap (p+1)))) (aB (decide ((i64.wrap (p+1))<(((length c):Nat):Int))) (aB (aE zI (getD c ((i64.wrap (p+1)).toNat) .nils)) (a3 (aC (getD c ((i64.wrap (p+1)).toNat) .nils)) (fun q r=>(a2 e f q r (fun s=>(aA s (aA ((aC (getD m (p.toNat) .nils))==0) (a2 k l e f (fun t=>(aA t (pV a0 a1 a2 a3 a4 a5 a6 x0 x1 n b c d e f g h i j e f m o (i64.wrap (p+1))) (pV a0 a1 a2 a3 a4 a5 a6 x0 x1 n b c d e f g h i j k l m o (i64.wrap (p+1)))))) (a2 k l e f (fun t=>(aA (!t) (a2 k l e f (fun u=>(aA u (pV a0 a1 a2 a3 a4 a5 a6 x0 x1 n b c d e f g h i j e f m o (i64.wrap (p+1))) (pV a0 a1 a2 a3 a4 a5 a6 x0 x1 n b c d e f g h i j k l m o (i64.wrap (p+1)))))) (a4 e f k l (fun u v w=>(aA (w !=0) (x0 0 0 w) (a3 (aC (getD m (p.toNat) .nils)) (fun z A=>(a5 u v z A (fun B C D=>(aA (D !=0) (x0 0 0 D) (a6 i j B C (fun E F G=>(aA (G !=0) (x0 0 0 G) (pV a0 a1 a2 a3 a4 a5 a6 x0 x1 n b c d e f g h E F e f m o (i64.wrap (p+1)))))))))))))))))) (aA ((aC (getD m (p.toNat) .nils))==0) (a2 k l q r (fun t=>(aA t (pV a0 a1 a2 a3 a4 a5 a6 x0 x1 n b c d e f g h i j q r m o (i64.wrap (p+1))) (pV a0 a1 a2 a3 a4 a5 a6 x0 x1 n b c d e f g h i j k l m o (i64.wrap (p+1)))))) (a2 k l q r (fun t=>(aA (!t) (a2 k l q r (fun u=>(aA u (pV a0 a1 a2 a3 a4 a5 a6 x0 x1 n b c d e f g h i j q r m o (i64.wrap (p+1))) (pV a0 a1 a2 a3 a4 a5 a6 x0 x1 n b c d e f g h i j k l m o (i64.wrap (p+1)))))) (a4 q r k l (fun u v w=>(aA (w !=0) (x0 0 0 w) (a3 (aC (getD m (p.toNat) .nils)) (fun z A=>(a5 u v z A (fun B C D=>(aA (D !=0) (x0 0 0 D) (a6 i j B C (fun E F G=>(aA (G !=0) (x0 0 0 G) (pV a0 a1 a2 a3 a4 a5 a6 x0 x1 n b c d e f g h E F q r m o (i64.wrap (p+1))))))))))))))))))))))))))))) (x1 b c d e f g h i j k l m o p false))
def UT (a0:cD) (a1:tS) (a2:bH) (a3:cA) (a4 a5 a6:dE) (b:Int) (c d:Ls) (e f g h:Int) (K:Int→Int→Int→Prop):Prop:=
 (a0 b c d (fun i=>(aA (i !=0) (K 0 0 i) (a1 b c d e f (fun j=>(aA (!j) (K 0 0 2) (a1 b c d g h (fun k=>(aA (!k) (K 0 0 2) (a2 g h e f (fun l=>(aA l (K 0 0 2) (a3 0 (fun m o=>(∃ n:Nat,pV a0 a1 a2 a3 a4 a5 a6 K (fun p q r s t u v w z A B C D E F=>(K w z 0)) n b c d g h 0 0 m o e f d (((length d):Nat):Int) 0)))))))))))))))
def FJ:xI:=UT kA tT rV tR yaX ybF oS
def yzP (Q:Qx):Int→Int→Int→Prop:=(fun b c d=>Q .ret [(6,.box (.agg [(ic b),(ic c)])),(7,.v (ic d))] [])
def yzQ (Q:Qx):Int→Ls→Ls→J4 (J4 (Ls→Int→Int→Bool→Prop )):=(fun b c d e f g h i j k l m o p q=>Q (.exit 0) [(3,.box (.agg [(ic b),(.data c),(.data d)])),(5,.box (.agg [(ic e),(ic f)])),(6,.box (.agg [(ic g),(ic h)])),(9,.box (.agg [(ic i),(ic j)])),(10,.box (.agg [(ic k),(ic l)])),(42,.v (.data m)),(43,.v (ic o)),(44,.v (ic p)),(45,.v (.bool q))] [])
def gn (a0:cD) (a1:tS) (a2:bH) (a3:cA) (a4 a5 a6:dE) (Q:Qx):List St:=[⟨(pS hN (fX 3 lA (fX 5 nQ (fX 6 nQ (fX 9 nQ (fX 10 nQ (fV 42 vD (fV 43 bL (fV 44 bL fN)))))))) fN),pV a0 a1 a2 a3 a4 a5 a6 (yzP Q) (yzQ Q)⟩]
def gr (a0:cD) (a1:tS) (a2:bH) (a3:cA) (a4 a5 a6:dE):LP:=fG [(85339800,gn a0 a1 a2 a3 a4 a5 a6)]
def UU (e:Es) (a0:cD) (a1:tS) (a2:bH) (a3:cA) (a4 a5 a6:dE):SE:=sE (E e) [(AU,pQ.pw a0),(EZ,IT.pw a1),(Cw,mH.pw a2),(Cu,nE.pw a3),(AX,fA.pw a4),(AW,fA.pw a5),(Cz,fA.pw a6)] (gr a0 a1 a2 a3 a4 a5 a6)
theorem gu (e:Es) (he:EG e):SEOk (bC (E e)) (UU e kA tT rV tR yaX ybF oS):=bK (aK.uni _) ⟨(FG e he),(UP e he),(Nr e he),(Nq e he),(Fz e he),(Fs e he),(IQ e he),trivial⟩ trivial he.ok
theorem yx8 (e:Es) (a0 a1 a2 a3 a4 a5 a6):eC (UU e a0 a1 a2 a3 a4 a5 a6) 5 a Ry false (gn a0 a1 a2 a3 a4 a5 a6):=fun _=>⟨fun _=>by kernel_rfl,fun _ _=>by kernel_rfl,trivial⟩
theorem yx9 (e:Es) (he:EG e):cQ (bC (E e)) (gr kA tT rV tR yaX ybF oS) [] 85339800 (.loop 85339800 Ry):=fun _ _ _=>bU.st (aK.uni _) (cL (gu e he) 5) (cF.no _ _) (aZ (by kernel_rfl)) (yx8 e _ _ _ _ _ _ _ _)
theorem yFd (e:Es) (a0 a1 a2 a3 a4 a5 a6):bN (UU e a0 a1 a2 a3 a4 a5 a6) 6 Rx tV (UT a0 a1 a2 a3 a4 a5 a6):=fun _ _=>by kernel_rfl
theorem gv (e:Es) (he:EG e):bM (E e) (tV.pw FJ) Mn:=bO he (yFd e _ _ _ _ _ _ _) (gu e he) bA.flat (cZ (l:=[(85339800,.loop 85339800 Ry)]) ⟨yx9 e he,trivial⟩ (by kernel_rfl))
set_option linter.unusedVariables false
theorem yDN (p0:Int) (p1 p2:Ls) (r0:Int) (h:∀ K:Int→Prop,K r0→kA p0 p1 p2 K) (K:Int→Prop):kA p0 p1 p2 K=K r0:=
 Aac ⟨fun k=>cE (FG [] fQ) (az:=[(.agg [(ic p0),(.data p1),(.data p2)])]) (x:=(ic r0)) (fun K' k'=>h (fun r0=>K' (ic r0)) k') (K:=fun x=>match x with | (ic r0)=>K r0 | _=>False) k,h K⟩
theorem yDO (p0:Int) (p1 p2:Ls) (r0 r1:Int) (h:∀ K:Int→Int→Prop,K r0 r1→CN p0 p1 p2 K) (K:Int→Int→Prop):CN p0 p1 p2 K=K r0 r1:=
 Aac ⟨fun k=>cE (gf [] fQ) (az:=[(.agg [(ic p0),(.data p1),(.data p2)])]) (x:=(.tup [(ic r0),(ic r1)])) (fun K' k'=>h (fun r0 r1=>K' (.tup [(ic r0),(ic r1)])) k') (K:=fun x=>match x with | (.tup [(ic r0),(ic r1)])=>K r0 r1 | _=>False) k,h K⟩
theorem yFe (p0:Int) (p1 p2:Ls) (p3 p4 p5 p6 r0 r1 r2:Int) (h:∀ K:Int→Int→Int→Prop,K r0 r1 r2→FI p0 p1 p2 p3 p4 p5 p6 K) (K:Int→Int→Int→Prop):FI p0 p1 p2 p3 p4 p5 p6 K=K r0 r1 r2:=
 Aac ⟨fun k=>cE (gm [] fQ) (az:=[(.agg [(ic p0),(.data p1),(.data p2)]),(.agg [(ic p3),(ic p4)]),(.agg [(ic p5),(ic p6)])]) (x:=(.tup [(.agg [(ic r0),(ic r1)]),(ic r2)])) (fun K' k'=>h (fun r0 r1 r2=>K' (.tup [(.agg [(ic r0),(ic r1)]),(ic r2)])) k') (K:=fun x=>match x with | (.tup [(.agg [(ic r0),(ic r1)]),(ic r2)])=>K r0 r1 r2 | _=>False) k,h K⟩
theorem yDP (p0:Int) (p1 p2:Ls) (p3 p4 p5 p6 r0 r1 r2:Int) (h:∀ K:Int→Int→Int→Prop,K r0 r1 r2→FJ p0 p1 p2 p3 p4 p5 p6 K) (K:Int→Int→Int→Prop):FJ p0 p1 p2 p3 p4 p5 p6 K=K r0 r1 r2:=
 Aac ⟨fun k=>cE (gv [] fQ) (az:=[(.agg [(ic p0),(.data p1),(.data p2)]),(.agg [(ic p3),(ic p4)]),(.agg [(ic p5),(ic p6)])]) (x:=(.tup [(.agg [(ic r0),(ic r1)]),(ic r2)])) (fun K' k'=>h (fun r0 r1 r2=>K' (.tup [(.agg [(ic r0),(ic r1)]),(ic r2)])) k') (K:=fun x=>match x with | (.tup [(.agg [(ic r0),(ic r1)]),(ic r2)])=>K r0 r1 r2 | _=>False) k,h K⟩
def UV (a0:iI) (b c d e:Int) (K:Bool→Prop):Prop:=
 (a0 b c d e (fun f g=>(aA (g==0) (K (decide (f<0))) (K false))))
def xJ:bH:=UV rU
def IU:jN:=lC (vA (lC bL (lC bL IJ))) lN
def CP:Sg:=⟨IU,Bool→Prop,fun K=>(fun r0=>K (.bool r0))⟩
def yDQ (e:Es) (a0:iI):SE:=sE (E e) [(Cv,Fw.pw a0)] cG
theorem yDR (e:Es) (a0):bN (yDQ e a0) 6 T4 CP (UV a0):=fun _ _=>by kernel_rfl
theorem gw (e:Es) (he:EG e):bM (E e) (CP.pw xJ) Mp:=bO he (yDR e _) (bK (aK.uni _) ⟨(IP e he),trivial⟩ trivial he.ok) bA.flat (aZ (by kernel_rfl))
def FK (a0:bH) (x0:Int→Prop) (x1:Ls→Int→Int→Bool→Prop):Nat→Ls→Int→Int→Prop
 | 0,_,_,_=>False
 | n+1,b,c,d=>
 (aA (decide (d<c)) (aB (decide (0≤d)) (aB (decide (d<(((length b):Nat):Int))) (aB (aE z4 (getD b (d.toNat) .nils)) (a0 (aC (aD (getD b (d.toNat) .nils) 0)) (aC (aD (getD b (d.toNat) .nils) 1)) (aC (aD (getD b (d.toNat) .nils) 2)) (aC (aD (getD b (d.toNat) .nils) 3)) (fun e=>(aA (!e) (x0 8) (FK a0 x0 x1 n b c (i64.wrap (d+1))))))))) (x1 b c d false))
def UW (a0:bH) (b:Ls) (K:Int→Prop):Prop:=
 (aA (decide ((((length b):Nat):Int)>60)) (K 4) (∃ n:Nat,FK a0 K (fun c d e f=>(K 0)) n b (((length b):Nat):Int) 0))
def FL:oR:=UW xJ
def yBC (Q:Qx):Int→Prop:=(fun b=>Q .ret [(2,.v (ic b))] [])
def yBD (Q:Qx):Ls→Int→Int→Bool→Prop:=(fun b c d e=>Q (.exit 0) [(8,.v (.data b)),(9,.v (ic c)),(10,.v (ic d)),(11,.v (.bool e))] [])
def gx (a0:bH) (Q:Qx):List St:=[⟨(pS hN (fV 8 vD (fV 9 bL (fV 10 bL fN))) fN),FK a0 (yBC Q) (yBD Q)⟩]
def gy (a0:bH):LP:=fG [(56157900,gx a0)]
def UX (e:Es) (a0:bH):SE:=sE (E e) [(Mp,CP.pw a0)] (gy a0)
theorem ia (e:Es) (he:EG e):SEOk (bC (E e)) (UX e xJ):=bK (aK.uni _) ⟨(gw e he),trivial⟩ trivial he.ok
theorem yzR (e:Es) (a0):eC (UX e a0) 5 a RH false (gx a0):=fun _=>⟨fun _=>by kernel_rfl,fun _ _=>by kernel_rfl,trivial⟩
theorem yzS (e:Es) (he:EG e):cQ (bC (E e)) (gy xJ) [] 56157900 (.loop 56157900 RH):=fun _ _ _=>bU.st (aK.uni _) (cL (ia e he) 5) (cF.no _ _) (aZ (by kernel_rfl)) (yzR e _ _)
theorem yHB (e:Es) (a0):bN (UX e a0) 6 RG pN (UW a0):=fun _ _=>by kernel_rfl
theorem ie (e:Es) (he:EG e):bM (E e) (pN.pw FL) Mq:=bO he (yHB e _) (ia e he) bA.flat (cZ (l:=[(56157900,.loop 56157900 RH)]) ⟨yzS e he,trivial⟩ (by kernel_rfl))
def UY (a0:iI) (b c d e:Int) (K:Int→Prop):Prop:=
 (a0 b c d e (fun f g=>(K f)))
def zM:gS:=UY rU
def yDS (e:Es) (a0:iI):SE:=sE (E e) [(Cv,Fw.pw a0)] cG
theorem yDT (e:Es) (a0):bN (yDS e a0) 6 T6 nD (UY a0):=fun _ _=>by kernel_rfl
theorem ig (e:Es) (he:EG e):bM (E e) (nD.pw zM) HY:=bO he (yDT e _) (bK (aK.uni _) ⟨(IP e he),trivial⟩ trivial he.ok) bA.flat (aZ (by kernel_rfl))
abbrev yzT:Type:=J4 (J4 ((Int→Prop)→Prop))
def UZ (a0:gS) (b c d e f g h i:Int) (K:Int→Prop):Prop:=
 (a0 b c f g K)
def Va:yzT:=UZ zM
def ii:Sg:=⟨(lC (vA (lC bL (lC bL IJ))) IU),Int→Prop,fun K=>(fun r0=>K (ic r0))⟩
def yyd (e:Es) (a0:gS):SE:=sE (E e) [(HY,nD.pw a0)] cG
theorem yye (e:Es) (a0):bN (yyd e a0) 6 T7 ii (UZ a0):=fun _ _=>by kernel_rfl
theorem yyf (e:Es) (he:EG e):bM (E e) (ii.pw Va) Fb:=bO he (yye e _) (bK (aK.uni _) ⟨(ig e he),trivial⟩ trivial he.ok) bA.flat (aZ (by kernel_rfl))
abbrev gJ:Type:=Ls→(Ls→Prop)→Prop
mutual
def ij (a0:gS) (x0:Int→Int→Bool→Prop) (x1:Ls→Int→Int→Bool→Prop) (x2:Ls→Ls→Int→Int→Bool→Prop):Nat→Int→Int→Prop
 | 0,_,_=>False
 | n+1,b,c=>
 (aA (decide (c<b)) False (x0 b c false))
def Vb (a0:gS) (x0:Int→Int→Bool→Prop) (x1:Ls→Int→Int→Bool→Prop) (x2:Ls→Ls→Int→Int→Bool→Prop):Nat→Ls→Int→Int→Prop
 | 0,_,_,_=>False
 | n+1,b,c,d=>
 (aA (decide (d<c)) (aB (decide (0≤d)) (aB (decide (d<(((length b):Nat):Int))) (aB (decide ((length b)=(length b))) (aB (decide ((0+(d.toNat))<(length b))) (lt (getD b (0+(d.toNat)) .nils) (fun e=>(aB (aE z4 e) (lt (i64.wrap (d+1)) (fun f=>(aB (decide (1=length ([(.agg [(ic (aC (aD e 0))),(ic (aC (aD e 1))),(ic (aC (aD e 2))),(ic (aC (aD e 3)))])]:Ls))&&decide (1=length ([(.agg [(ic (aC (aD e 0))),(ic (aC (aD e 1))),(ic (aC (aD e 2))),(ic (aC (aD e 3)))])]:Ls))&&decide ((length b)=length b)&&decide ((length b)=length b)) (CQ a0 x0 x1 x2 n b ([(.agg [(ic (aC (aD e 0))),(ic (aC (aD e 1))),(ic (aC (aD e 2))),(ic (aC (aD e 3)))])]:Ls) c f))))))))))) (x1 b c d false))
def CQ (a0:gS) (x0:Int→Int→Bool→Prop) (x1:Ls→Int→Int→Bool→Prop) (x2:Ls→Ls→Int→Int→Bool→Prop):Nat→Ls→Ls→Int→Int→Prop
 | 0,_,_,_,_=>False
 | n+1,b,c,d,e=>
 (aA (decide (e<d)) (jn (fun (a:Ls→Prop)=>(aB (decide (0≤e)) (aB (decide (e<(((length b):Nat):Int))) (aB (decide ((length b)=(length b))) (aB (decide ((0+(e.toNat))<(length b))) (lt (getD b (0+(e.toNat)) .nils) (fun f=>(aB (aE z4 f) (jn (fun (o:Bool→Prop)=>(aA (decide ((((length c):Nat):Int)>0)) (lt (i64.wrap ((((length c):Nat):Int)-1)) (fun g=>(aB (decide (0≤g)) (aB (decide (g<(((length c):Nat):Int))) (aB (decide ((length c)=(length c))) (aB (decide ((0+(g.toNat))<(length c))) (lt (getD c (0+(g.toNat)) .nils) (fun h=>(aB (aE z4 h) (a0 (aC (aD f 0)) (aC (aD f 1)) (aC (aD h 2)) (aC (aD h 3)) (fun i=>(o (decide (i≤0)))))))))))))) (o false))) (fun g=>(aA g (lt (i64.wrap ((((length c):Nat):Int)-1)) (fun h=>(aB (decide (0≤h)) (aB (decide (h<(((length c):Nat):Int))) (aB (decide ((length c)=(length c))) (aB (decide ((0+(h.toNat))<(length c))) (lt (getD c (0+(h.toNat)) .nils) (fun i=>(aB (aE z4 i) (a0 (aC (aD f 2)) (aC (aD f 3)) (aC (aD i 2)) (aC (aD i 3)) (fun j=>(aA (decide (j>0)) (lt (i64.wrap ((((length c):Nat):Int)-1)) (fun k=>(aB (decide (0≤k)) (aB (decide (k<(((length c):Nat):Int))) (aB (decide ((length c)=(length c))) (aB (decide ((0+(k.toNat))<(length c))) (lt (getD c (0+(k.toNat)) .nils) (fun l=>(aB (aE z4 l) (lt (i64.wrap (e+1)) (fun m=>(aB (decide ((length c)=length (set c (0+(k.toNat)) (.agg [(ic (aC (aD l 0))),(ic (aC (aD l 1))),(ic (aC (aD f 2))),(ic (aC (aD f 3)))])))&&decide ((length c)=length (set c (0+(k.toNat)) (.agg [(ic (aC (aD l 0))),(ic (aC (aD l 1))),(ic (aC (aD f 2))),(ic (aC (aD f 3)))])))&&decide ((length b)=length b)&&decide ((length b)=length b)) (CQ a0 x0 x1 x2 n b (set c (0+(k.toNat)) (.agg [(ic (aC (aD l 0))),(ic (aC (aD l 1))),(ic (aC (aD f 2))),(ic (aC (aD f 3)))])) d m))))))))))))) (a c))))))))))))) (aB (decide ((length c)=(length c))) (aB (decide ((0+(length c))≤(length c))) (aB (!(decide (((0+(length c))+1)≤(length c)))) (aB (decide ((length c)=(length c))) (aB (decide ((((length c)+1)+64)*(32+1)≤room)) (a (c++([(.agg [(ic (aC (aD f 0))),(ic (aC (aD f 1))),(ic (aC (aD f 2))),(ic (aC (aD f 3)))])]:Ls))))))))))))))))))) (fun f=>(lt (i64.wrap (e+1)) (fun g=>(aB (decide ((length f)=length f)&&decide ((length f)=length f)&&decide ((length b)=length b)&&decide ((length b)=length b)) (CQ a0 x0 x1 x2 n b f d g)))))) (x2 b c d e false))
end
def Vd (a0:gS) (b:Ls) (K:Ls→Prop):Prop:=
 (aB (pJ 4 32 b) (aA (isEmpty b) (∃ n:Nat,ij a0 (fun c d e=>(K ([]:Ls))) (fun c d e f=>(K ([]:Ls))) (fun c d e f g=>(aB (decide ((length d)=(length d))) (aB (decide ((0+(length d))≤(length d))) (K (take (length d) d))))) n 0 0) (aB (Srt.cond mQ.s b 0 (length b) (length b) 4 false) (aB (decide ((length b)=length (take 0 b++(Srt.sorted mQ.s mQ.srt (take (length b) (drop 0 b))++drop (0+(length b)) b)))&&decide ((length b)=length (take 0 b++(Srt.sorted mQ.s mQ.srt (take (length b) (drop 0 b))++drop (0+(length b)) b)))) (∃ n:Nat,Vb a0 (fun c d e=>(K ([]:Ls))) (fun c d e f=>(K ([]:Ls))) (fun c d e f g=>(aB (decide ((length d)=(length d))) (aB (decide ((0+(length d))≤(length d))) (K (take (length d) d))))) n (take 0 b++(Srt.sorted mQ.s mQ.srt (take (length b) (drop 0 b))++drop (0+(length b)) b)) (((length b):Nat):Int) 0)))))
def yfb:gJ:=Vd zM
def oU:Sg:=⟨xH,Ls→Prop,fun K=>(fun r0=>K (.data r0))⟩
def Ve (Q:Qx):Int→Int→Bool→Prop:=(fun b c d=>Q (.exit 0) [(3,.v .nils),(11,.v .emp),(12,.v (ic b)),(13,.v (ic c)),(14,.v (.bool d))] [])
def Vf (Q:Qx):Ls→Int→Int→Bool→Prop:=(fun b c d e=>Q (.exit 0) [(3,.v .nils),(11,.v (.own 0 0 (length b) (length b) none)),(12,.v (ic c)),(13,.v (ic d)),(14,.v (.bool e))] [⟨false,true,4,b⟩])
def Vg (Q:Qx):Ls→Ls→Int→Int→Bool→Prop:=(fun b c d e f=>Q (.exit 0) [(3,.v (.own 1 0 (length c) (length c) none)),(11,.v (.own 0 0 (length b) (length b) none)),(12,.v (ic d)),(13,.v (ic e)),(14,.v (.bool f))] [⟨false,true,4,b⟩,⟨false,true,4,c⟩])
def pX:HPt:=hB false true 4 rA hN
def nU:gH:=vW 0 (nK 0) (nT 0) (nT 0)
def IV:Pat aG:=fV 11 nU (fV 12 bL (fV 13 bL fN))
def IW:gH:=vW 1 (nK 0) (nT 1) (nT 1)
def ik (a0:gS) (Q:Qx):List St:=[⟨(pS hN (fV 3 oO (fV 11 vE (fV 12 bL (fV 13 bL fN)))) fN),ij a0 (Ve Q) (Vf Q) (Vg Q)⟩,⟨(pS pX (fV 3 oO IV) fN),Vb a0 (Ve Q) (Vf Q) (Vg Q)⟩,⟨(pS (hB false true 4 rA pX) (fV 3 IW IV) fN),CQ a0 (Ve Q) (Vf Q) (Vg Q)⟩]
def il (a0:gS):LP:=fG [(63960300,ik a0)]
def Vh (a0:gS):SE:=sE (E gI) [(HY,nD.pw a0)] (il a0)
theorem im:SEOk (bC (E gI)) (Vh zM):=bK (aK.uni _) ⟨(ig gI kM),trivial⟩ trivial kM.ok
theorem yuh (a0):eC (Vh a0) 5 a RK false (ik a0):=fun _=>⟨fun _=>by kernel_rfl,fun _ _=>by kernel_rfl,fun _=>by kernel_rfl,fun _ _=>by kernel_rfl,fun _=>by kernel_rfl,fun _ _=>by kernel_rfl,trivial⟩
theorem yui:cQ (bC (E gI)) (il zM) [] 63960300 (.loop 63960300 RK):=fun _ _ _=>bU.st (aK.uni _) (cL (im) 5) (cF.no _ _) (aZ (by kernel_rfl)) (yuh _ _)
theorem yBE (a0):bN (Vh a0) 6 RJ oU (Vd a0):=fun _ _=>by kernel_rfl
theorem ip:bM (E gI) (oU.pw yfb) Ms:=bO kM (yBE _) (im) bA.flat (cZ (l:=[(63960300,.loop 63960300 RK)]) ⟨yui,trivial⟩ (by kernel_rfl))
abbrev lK:Type:=Ls→(Ls→Int→Prop)→Prop
def Vi (a0:oR) (a1:gJ) (b:Ls) (K:Ls→Int→Prop):Prop:=
 (a0 b (fun c=>(aA (c !=0) (K ([]:Ls) c) (a1 b (fun d=>(K d 0))))))
def yas:lK:=Vi FL yfb
def CR:Sg:=⟨xH,Ls→Int→Prop,fun K=>(fun r0 r1=>K (.tup [(.data r0),(ic r1)]))⟩
def yFf (a0:oR) (a1:gJ):SE:=sE (E gI) [(Mq,pN.pw a0),(Ms,oU.pw a1)] cG
theorem yFg (a0 a1):bN (yFf a0 a1) 6 T8 CR (Vi a0 a1):=fun _ _=>by kernel_rfl
theorem iq:bM (E gI) (CR.pw yas) HZ:=bO kM (yFg _ _) (bK (aK.uni _) ⟨(ie gI kM),ip,trivial⟩ trivial kM.ok) bA.flat (aZ (by kernel_rfl))
set_option linter.unusedVariables false
theorem yBF (p0 p1 p2 p3:Int) (r0:Bool) (h:∀ K:Bool→Prop,K r0→xJ p0 p1 p2 p3 K) (K:Bool→Prop):xJ p0 p1 p2 p3 K=K r0:=
 Aac ⟨fun k=>cE (gw [] fQ) (az:=[(.agg [(ic p0),(ic p1),(ic p2),(ic p3)])]) (x:=(.bool r0)) (fun K' k'=>h (fun r0=>K' (.bool r0)) k') (K:=fun x=>match x with | (.bool r0)=>K r0 | _=>False) k,h K⟩
theorem yFh (p0:Ls) (r0:Int) (h:∀ K:Int→Prop,K r0→FL p0 K) (K:Int→Prop):FL p0 K=K r0:=
 Aac ⟨fun k=>cE (ie [] fQ) (az:=[(.data p0)]) (x:=(ic r0)) (fun K' k'=>h (fun r0=>K' (ic r0)) k') (K:=fun x=>match x with | (ic r0)=>K r0 | _=>False) k,h K⟩
theorem yzU (p0 r0:Ls) (h:∀ K:Ls→Prop,K r0→yfb p0 K) (K:Ls→Prop):yfb p0 K=K r0:=
 Aac ⟨fun k=>cE ip (az:=[(.data p0)]) (x:=(.data r0)) (fun K' k'=>h (fun r0=>K' (.data r0)) k') (K:=fun x=>match x with | (.data r0)=>K r0 | _=>False) k,h K⟩
abbrev cX:Type:=Ls→Ls→(Int→Prop)→Prop
def FM (a0:cD) (x0:Int→Prop) (x1:Ls→Ls→Ls→Int→Int→Bool→Prop):Nat→Ls→Ls→Ls→Int→Int→Prop
 | 0,_,_,_,_,_=>False
 | n+1,b,c,d,e,f=>
 (aA (decide (f<e)) (aB (decide (0≤f)) (aB (decide (f<(((length d):Nat):Int))) (aB (aE zK (getD d (f.toNat) .nils)) (a0 (aC (aD (getD d (f.toNat) .nils) 0)) (fW (aD (getD d (f.toNat) .nils) 1)) (fW (aD (getD d (f.toNat) .nils) 2)) (fun g=>(aA (g !=0) (x0 g) (FM a0 x0 x1 n b c d e (i64.wrap (f+1))))))))) (x1 b c d e f false))
def CS (a0:cD) (x0:Int→Prop) (x1:Ls→Ls→Ls→Int→Int→Bool→Prop):Nat→Ls→Ls→Ls→Int→Int→Prop
 | 0,_,_,_,_,_=>False
 | n+1,b,c,d,e,f=>
 (aA (decide (f<e)) (aB (decide (0≤f)) (aB (decide (f<(((length d):Nat):Int))) (aB (aE zK (getD d (f.toNat) .nils)) (aB (decide (0<(((length b):Nat):Int))) (aB (aE zK (getD b 0 .nils)) (aA ((aC (aD (getD d (f.toNat) .nils) 0)) !=(aC (aD (getD b 0 .nils) 0))) (x0 8) (CS a0 x0 x1 n b c d e (i64.wrap (f+1))))))))) (x1 b c d e f false))
def Vj (a0:cD) (b c:Ls) (K:Int→Prop):Prop:=
 (aA (decide ((((length b):Nat):Int)>6)) (K 4) (aA (decide ((((length c):Nat):Int)>2000)) (K 4) (aA ((((length b):Nat):Int)==0) (K 8) (∃ m0:Nat,FM a0 K (fun d e f g h i=>(∃ m1:Nat,CS a0 K (fun j k l m o p=>(K 0)) m1 d e d (((length d):Nat):Int) 0)) m0 b c b (((length b):Nat):Int) 0))))
def ydu:cX:=Vj kA
def lO:gH:=vA vL
def Vk:jN:=lC lO lN
def nW:Sg:=⟨Vk,Int→Prop,fun K=>(fun r0=>K (ic r0))⟩
def yBG (Q:Qx):Int→Prop:=(fun b=>Q .ret [(2,.v (ic b))] [])
def yBH (Q:Qx):Ls→Ls→Ls→Int→Int→Bool→Prop:=(fun b c d e f g=>Q (.exit 0) [(1,.box (.agg [(.data b),(.data c)])),(23,.v (.data d)),(24,.v (ic e)),(25,.v (ic f)),(26,.v (.bool g))] [])
def yBI (Q:Qx):Int→Prop:=(fun b=>Q .ret [(2,.v (ic b))] [])
def yBJ (Q:Qx):Ls→Ls→Ls→Int→Int→Bool→Prop:=(fun b c d e f g=>Q (.exit 2) [(1,.box (.agg [(.data b),(.data c)])),(36,.v (.data d)),(37,.v (ic e)),(38,.v (ic f)),(39,.v (.bool g))] [])
def ir (a0:cD) (Q:Qx):List St:=[⟨(pS hN (fX 1 lO (fV 23 vD (fV 24 bL (fV 25 bL fN)))) fN),FM a0 (yBG Q) (yBH Q)⟩]
def it (a0:cD) (Q:Qx):List St:=[⟨(pS hN (fX 1 lO (fV 36 vD (fV 37 bL (fV 38 bL fN)))) fN),CS a0 (yBI Q) (yBJ Q)⟩]
def Vl (a0:cD):LP:=fG [(12157600,ir a0),(12157601,it a0)]
def Ns (e:Es) (a0:cD):SE:=sE (E e) [(AU,pQ.pw a0)] (Vl a0)
theorem Vm (e:Es) (he:EG e):SEOk (bC (E e)) (Ns e kA):=bK (aK.uni _) ⟨(FG e he),trivial⟩ trivial he.ok
theorem yzV (e:Es) (a0):eC (Ns e a0) 5 a Rf false (ir a0):=fun _=>⟨fun _=>by kernel_rfl,fun _ _=>by kernel_rfl,trivial⟩
theorem yzW (e:Es) (he:EG e):cQ (bC (E e)) (Vl kA) [] 12157600 (.loop 12157600 Rf):=fun _ _ _=>bU.st (aK.uni _) (cL (Vm e he) 5) (cF.no _ _) (aZ (by kernel_rfl)) (yzV e _ _)
theorem yzX (e:Es) (a0):eC (Ns e a0) 5 a Rg false (it a0):=fun _=>⟨fun _=>by kernel_rfl,fun _ _=>by kernel_rfl,trivial⟩
theorem yzY (e:Es) (he:EG e):cQ (bC (E e)) (Vl kA) [] 12157601 (.loop 12157601 Rg):=fun _ _ _=>bU.st (aK.uni _) (cL (Vm e he) 5) (cF.no _ _) (aZ (by kernel_rfl)) (yzX e _ _)
theorem yHC (e:Es) (a0):bN (Ns e a0) 6 MS nW (Vj a0):=fun _ _=>by kernel_rfl
theorem IX (e:Es) (he:EG e):bM (E e) (nW.pw ydu) Cq:=bO he (yHC e _) (Vm e he) bA.flat (cZ (l:=[(12157600,.loop 12157600 Rf),(12157601,.loop 12157601 Rg)]) ⟨yzW e he,yzY e he,trivial⟩ (by kernel_rfl))
abbrev xK:Type:=Ls→Ls→Int→(Bool→Prop)→Prop
def Vn (b c:Ls) (d:Int) (K:Bool→Prop):Prop:=
 (aA (decide (d≥0)) (K (decide (d<(((length b):Nat):Int)))) (K false))
def FN:xK:=Vn
def Bi:Sg:=⟨(lC lO pt1),Bool→Prop,fun K=>(fun r0=>K (.bool r0))⟩
def yyg (e:Es):SE:=sE (E e) [] cG
theorem yyh (e:Es):bN (yyg e) 6 P6 Bi Vn:=fun _ _=>by kernel_rfl
theorem Vo (e:Es) (he:EG e):bM (E e) (Bi.pw FN) EW:=bO he (yyh e) (bK (aK.uni _) trivial trivial he.ok) bA.flat (aZ (by kernel_rfl))
abbrev Vp:Type:=Ls→Ls→Int→(Int→Int→Prop)→Prop
def Vq (a0:cX) (a1:xK) (a2:UK) (b c:Ls) (d:Int) (K:Int→Int→Prop):Prop:=
 (a0 b c (fun e=>(aA (e !=0) (K 0 e) (a1 b c d (fun f=>(aA (!f) (K 0 2) (aB (decide (0≤d)) (aB (decide (d<(((length b):Nat):Int))) (lt (getD b (d.toNat) .nils) (fun g=>(aB (aE zK g) (a2 (aC (aD g 0)) (fW (aD g 1)) (fW (aD g 2)) K))))))))))))
def Nt:Vp:=Vq ydu FN CN
def Vr:Sg:=⟨(lC lO pt1),Int→Int→Prop,fun K=>(fun r0 r1=>K (.tup [(ic r0),(ic r1)]))⟩
def yHE (e:Es) (a0:cX) (a1:xK) (a2:UK):SE:=sE (E e) [(Cq,nW.pw a0),(EW,Bi.pw a1),(LY,UL.pw a2)] cG
theorem yHF (e:Es) (a0 a1 a2):bN (yHE e a0 a1 a2) 6 P7 Vr (Vq a0 a1 a2):=fun _ _=>by kernel_rfl
theorem yHG (e:Es) (he:EG e):bM (E e) (Vr.pw Nt) LZ:=bO he (yHF e _ _ _) (bK (aK.uni _) ⟨(IX e he),(Vo e he),(gf e he),trivial⟩ trivial he.ok) bA.flat (aZ (by kernel_rfl))
abbrev FO:Type:=Ls→Ls→J4 (Int→(Int→Int→Int→Prop)→Prop)
def Vs (a0:xI) (b c:Ls) (d e f g h:Int) (K:Int→Int→Int→Prop):Prop:=
 (aB (decide (0≤d)) (aB (decide (d<(((length b):Nat):Int))) (aB (aE zK (getD b (d.toNat) .nils)) (a0 (aC (aD (getD b (d.toNat) .nils) 0)) (fW (aD (getD b (d.toNat) .nils) 1)) (fW (aD (getD b (d.toNat) .nils) 2)) e f g h K))))
def Vt:FO:=Vs FI
def IY:jN:=lC lO (lC bL nR)
def FQ:Sg:=⟨IY,Int→Int→Int→Prop,fun K=>(fun r0 r1 r2=>K (.tup [(.agg [(ic r0),(ic r1)]),(ic r2)]))⟩
def ywF (e:Es) (a0:xI):SE:=sE (E e) [(Mk,tV.pw a0)] cG
theorem ywG (e:Es) (a0):bN (ywF e a0) 6 S4 FQ (Vs a0):=fun _ _=>by kernel_rfl
theorem ywH (e:Es) (he:EG e):bM (E e) (FQ.pw Vt) Ml:=bO he (ywG e _) (bK (aK.uni _) ⟨(gm e he),trivial⟩ trivial he.ok) bA.flat (aZ (by kernel_rfl))
mutual
def Nu (a0:Fp) (x0:Ls→Ls→Int→Int→Bool→Prop) (x1:Ls→Int→Int→Bool→Prop):Nat→Ls→Int→Int→Prop
 | 0,_,_,_=>False
 | n+1,b,c,d=>
 (aA (decide (d<c)) (aB (decide (0≤d)) (aB (decide (d<(((length b):Nat):Int))) (aB (aE zK (getD b (d.toNat) .nils)) (a0 (fW (aD (getD b (d.toNat) .nils) 1)) (fun e=>(a0 (fW (aD (getD b (d.toNat) .nils) 2)) (fun f=>(aB (decide (1=length ([(.agg [(ic (aC (aD (getD b (d.toNat) .nils) 0))),(.data e),(.data f)])]:Ls))&&decide (1=length ([(.agg [(ic (aC (aD (getD b (d.toNat) .nils) 0))),(.data e),(.data f)])]:Ls))) (FR a0 x0 x1 n ([(.agg [(ic (aC (aD (getD b (d.toNat) .nils) 0))),(.data e),(.data f)])]:Ls) b c (i64.wrap (d+1))))))))))) (x1 b c d false))
def FR (a0:Fp) (x0:Ls→Ls→Int→Int→Bool→Prop) (x1:Ls→Int→Int→Bool→Prop):Nat→Ls→Ls→Int→Int→Prop
 | 0,_,_,_,_=>False
 | n+1,b,c,d,e=>
 (aA (decide (e<d)) (aB (decide (0≤e)) (aB (decide (e<(((length c):Nat):Int))) (aB (aE zK (getD c (e.toNat) .nils)) (a0 (fW (aD (getD c (e.toNat) .nils) 1)) (fun f=>(a0 (fW (aD (getD c (e.toNat) .nils) 2)) (fun g=>(aB (decide ((length b)=(length b))) (aB (decide ((0+(length b))≤(length b))) (aB (!(decide (((0+(length b))+1)≤(length b)))) (aB (decide ((length b)=(length b))) (aB (decide ((((length b)+1)+64)*(56+1)≤room)) (aB (decide ((length (b++([(.agg [(ic (aC (aD (getD c (e.toNat) .nils) 0))),(.data f),(.data g)])]:Ls)))=length (b++([(.agg [(ic (aC (aD (getD c (e.toNat) .nils) 0))),(.data f),(.data g)])]:Ls)))&&decide ((length (b++([(.agg [(ic (aC (aD (getD c (e.toNat) .nils) 0))),(.data f),(.data g)])]:Ls)))=length (b++([(.agg [(ic (aC (aD (getD c (e.toNat) .nils) 0))),(.data f),(.data g)])]:Ls)))) (FR a0 x0 x1 n (b++([(.agg [(ic (aC (aD (getD c (e.toNat) .nils) 0))),(.data f),(.data g)])]:Ls)) c d (i64.wrap (e+1)))))))))))))))) (x0 b c d e false))
end
def Vu (a0:Fp) (b:Ls) (K:Ls→Prop):Prop:=
 (∃ n:Nat,Nu a0 (fun c d e f g=>(aB (decide ((length c)=(length c))) (aB (decide ((0+(length c))≤(length c))) (K (take (length c) c))))) (fun c d e f=>(K ([]:Ls))) n b (((length b):Nat):Int) 0)
def CT:gJ:=Vu IG
def iu (Q:Qx):Ls→Ls→Int→Int→Bool→Prop:=(fun b c d e f=>Q (.exit 0) [(3,.v (.own 0 0 (length b) (length b) none)),(6,.v (.data c)),(7,.v (ic d)),(8,.v (ic e)),(9,.v (.bool f))] [⟨false,true,3,b⟩])
def ix (Q:Qx):Ls→Int→Int→Bool→Prop:=(fun b c d e=>Q (.exit 0) [(3,.v .nils),(6,.v (.data b)),(7,.v (ic c)),(8,.v (ic d)),(9,.v (.bool e))] [])
def iy (a0:Fp) (Q:Qx):List St:=[⟨(pS hN (fV 3 oO zH) fN),Nu a0 (iu Q) (ix Q)⟩,⟨(pS (hB false true 3 rA hN) (fV 3 nU zH) fN),FR a0 (iu Q) (ix Q)⟩]
def iz (a0:Fp):LP:=fG [(94933800,iy a0)]
def Vv (e:Es) (a0:Fp):SE:=sE (E e) [(HT,yws a0)] (iz a0)
theorem ja (e:Es) (he:EG e):SEOk (bC (E e)) (Vv e IG):=bK (aK.uni _) ⟨(ywu e he),trivial⟩ trivial he.ok
theorem yyi (e:Es) (a0):eC (Vv e a0) 5 a Rv false (iy a0):=fun _=>⟨fun _=>by kernel_rfl,fun _ _=>by kernel_rfl,fun _=>by kernel_rfl,fun _ _=>by kernel_rfl,trivial⟩
theorem yyj (e:Es) (he:EG e):cQ (bC (E e)) (iz IG) [] 94933800 (.loop 94933800 Rv):=fun _ _ _=>bU.st (aK.uni _) (cL (ja e he) 5) (cF.no _ _) (aZ (by kernel_rfl)) (yyi e _ _)
theorem yFi (e:Es) (a0):bN (Vv e a0) 6 Ru oU (Vu a0):=fun _ _=>by kernel_rfl
theorem Vw (e:Es) (he:EG e):bM (E e) (oU.pw CT) HU:=bO he (yFi e _) (ja e he) bA.flat (cZ (l:=[(94933800,.loop 94933800 Rv)]) ⟨yyj e he,trivial⟩ (by kernel_rfl))
abbrev gU:Type:=Ls→Ls→J4 (Int→(Ls→Ls→Int→Int→Int→Prop)→Prop)
def Vx (a0:cX) (a1:xK) (a2:FO) (a3:gJ) (b c:Ls) (d e f g h:Int) (K:Ls→Ls→Int→Int→Int→Prop):Prop:=
 (a0 b c (fun i=>(aA (i !=0) (K ([]:Ls) ([]:Ls) 0 0 i) (a1 b c d (fun j=>(aA (!j) (K ([]:Ls) ([]:Ls) 0 0 2) (a2 b c d e f g h (fun k l m=>(aA (m !=0) (K ([]:Ls) ([]:Ls) 0 0 m) (aA (decide ((((length c):Nat):Int)≥2000)) (K ([]:Ls) ([]:Ls) 0 0 4) (aB (decide (0≤(i64.wrap ((((length c):Nat):Int)+1)))) (aB (decide ((((i64.wrap ((((length c):Nat):Int)+1)).toNat)+64)*(64+1)≤room)) (a3 b (fun o=>(aB (iY 8 c) (aB (decide ((length (replicate ((i64.wrap ((((length c):Nat):Int)+1)).toNat) ((.agg [(ic (0)),(.int .u8 (0)),(ic (0)),(ic (0)),(ic (0)),(ic (0)),(ic (0)),(ic (0))]):PV)))=((i64.wrap ((((length c):Nat):Int)+1)).toNat))) (aB (decide (0≤((i64.wrap ((((length c):Nat):Int)+1)).toNat))) (aA (isEmpty c) (aB (decide ((length (replicate ((i64.wrap ((((length c):Nat):Int)+1)).toNat) ((.agg [(ic (0)),(.int .u8 (0)),(ic (0)),(ic (0)),(ic (0)),(ic (0)),(ic (0)),(ic (0))]):PV)))=((i64.wrap ((((length c):Nat):Int)+1)).toNat))) (aB (decide (0≤((i64.wrap ((((length c):Nat):Int)+1)).toNat))) (aB (decide (1≤((i64.wrap ((((length c):Nat):Int)+1)).toNat))) (aB (decide ((length (([(.agg [(ic d),(.int .u8 2),(ic e),(ic f),(ic g),(ic h),(ic k),(ic l)])]:Ls)++(drop 1 (replicate ((i64.wrap ((((length c):Nat):Int)+1)).toNat) ((.agg [(ic (0)),(.int .u8 (0)),(ic (0)),(ic (0)),(ic (0)),(ic (0)),(ic (0)),(ic (0))]):PV)))))=((i64.wrap ((((length c):Nat):Int)+1)).toNat))) (aB (decide (1≤((i64.wrap ((((length c):Nat):Int)+1)).toNat))) (K o (take 1 (([(.agg [(ic d),(.int .u8 2),(ic e),(ic f),(ic g),(ic h),(ic k),(ic l)])]:Ls)++(drop 1 (replicate ((i64.wrap ((((length c):Nat):Int)+1)).toNat) ((.agg [(ic (0)),(.int .u8 (0)),(ic (0)),(ic (0)),(ic (0)),(ic (0)),(ic (0)),(ic (0))]):PV))))) k l 0)))))) (aB (decide ((0+(length c))≤((i64.wrap ((((length c):Nat):Int)+1)).toNat))) (aB (decide ((length (c++(drop (0+(length c)) (replicate ((i64.wrap ((((length c):Nat):Int)+1)).toNat) ((.agg [(ic (0)),(.int .u8 (0)),(ic (0)),(ic (0)),(ic (0)),(ic (0)),(ic (0)),(ic (0))]):PV)))))=((i64.wrap ((((length c):Nat):Int)+1)).toNat))) (aB (decide ((0+(0+(length c)))≤((i64.wrap ((((length c):Nat):Int)+1)).toNat))) (aB (decide (((0+(length c))+1)≤((i64.wrap ((((length c):Nat):Int)+1)).toNat))) (aB (decide ((length ((take (0+(0+(length c))) (c++(drop (0+(length c)) (replicate ((i64.wrap ((((length c):Nat):Int)+1)).toNat) ((.agg [(ic (0)),(.int .u8 (0)),(ic (0)),(ic (0)),(ic (0)),(ic (0)),(ic (0)),(ic (0))]):PV)))))++(([(.agg [(ic d),(.int .u8 2),(ic e),(ic f),(ic g),(ic h),(ic k),(ic l)])]:Ls)++(drop ((0+(0+(length c)))+1) (c++(drop (0+(length c)) (replicate ((i64.wrap ((((length c):Nat):Int)+1)).toNat) ((.agg [(ic (0)),(.int .u8 (0)),(ic (0)),(ic (0)),(ic (0)),(ic (0)),(ic (0)),(ic (0))]):PV))))))))=((i64.wrap ((((length c):Nat):Int)+1)).toNat))) (aB (decide ((0+((0+(length c))+1))≤((i64.wrap ((((length c):Nat):Int)+1)).toNat))) (K o (take ((0+(length c))+1) ((take (0+(0+(length c))) (c++(drop (0+(length c)) (replicate ((i64.wrap ((((length c):Nat):Int)+1)).toNat) ((.agg [(ic (0)),(.int .u8 (0)),(ic (0)),(ic (0)),(ic (0)),(ic (0)),(ic (0)),(ic (0))]):PV)))))++(([(.agg [(ic d),(.int .u8 2),(ic e),(ic f),(ic g),(ic h),(ic k),(ic l)])]:Ls)++(drop ((0+(0+(length c)))+1) (c++(drop (0+(length c)) (replicate ((i64.wrap ((((length c):Nat):Int)+1)).toNat) ((.agg [(ic (0)),(.int .u8 (0)),(ic (0)),(ic (0)),(ic (0)),(ic (0)),(ic (0)),(ic (0))]):PV)))))))) k l 0)))))))))))))))))))))))))
def Bj:gU:=Vx ydu FN Vt CT
def pY:Sg:=⟨IY,Ls→Ls→Int→Int→Int→Prop,fun K=>(fun r0 r1 r2 r3 r4=>K (.tup [(.agg [(.data r0),(.data r1)]),(.agg [(ic r2),(ic r3)]),(ic r4)]))⟩
def yJX (e:Es) (a0:cX) (a1:xK) (a2:FO) (a3:gJ):SE:=⟨(E e),ygn [(Cq,nW.pw a0),(EW,Bi.pw a1),(Ml,FQ.pw a2),(HU,oU.pw a3)],ygo [(QS,Rw)],cG,fun _=>none⟩
theorem yJY (e:Es) (a0 a1 a2 a3):bN (yJX e a0 a1 a2 a3) 6 S5 pY (Vx a0 a1 a2 a3):=fun _ _=>by kernel_rfl
theorem jb (e:Es) (he:EG e):bM (E e) (pY.pw Bj) Mm:=bO he (yJY e _ _ _ _) (bK (aK.uni _) ⟨(IX e he),(Vo e he),(ywH e he),(Vw e he),trivial⟩ ⟨⟨by kernel_rfl,by kernel_rfl,rfl,fun az=>rO (by kernel_rfl) az,he.num _ (by kernel_rfl),by kernel_rfl,(aZ (by kernel_rfl))⟩,trivial⟩ he.ok) bA.flat (aZ (by kernel_rfl))
def Vy (a0:xI) (b c:Ls) (d e f g h:Int) (K:Int→Int→Int→Prop):Prop:=
 (aB (decide (0≤d)) (aB (decide (d<(((length b):Nat):Int))) (aB (aE zK (getD b (d.toNat) .nils)) (a0 (aC (aD (getD b (d.toNat) .nils) 0)) (fW (aD (getD b (d.toNat) .nils) 1)) (fW (aD (getD b (d.toNat) .nils) 2)) e f g h K))))
def Vz:FO:=Vy FJ
def yuj (e:Es) (a0:xI):SE:=sE (E e) [(Mn,tV.pw a0)] cG
theorem yuk (e:Es) (a0):bN (yuj e a0) 6 S8 FQ (Vy a0):=fun _ _=>by kernel_rfl
theorem yul (e:Es) (he:EG e):bM (E e) (FQ.pw Vz) Mo:=bO he (yuk e _) (bK (aK.uni _) ⟨(gv e he),trivial⟩ trivial he.ok) bA.flat (aZ (by kernel_rfl))
def VA (a0:cX) (a1:xK) (a2:FO) (a3:gJ) (b c:Ls) (d e f g h:Int) (K:Ls→Ls→Int→Int→Int→Prop):Prop:=
 (a0 b c (fun i=>(aA (i !=0) (K ([]:Ls) ([]:Ls) 0 0 i) (a1 b c d (fun j=>(aA (!j) (K ([]:Ls) ([]:Ls) 0 0 2) (a2 b c d e f g h (fun k l m=>(aA (m !=0) (K ([]:Ls) ([]:Ls) 0 0 m) (aA (decide ((((length c):Nat):Int)≥2000)) (K ([]:Ls) ([]:Ls) 0 0 4) (aB (decide (0≤(i64.wrap ((((length c):Nat):Int)+1)))) (aB (decide ((((i64.wrap ((((length c):Nat):Int)+1)).toNat)+64)*(64+1)≤room)) (a3 b (fun o=>(aB (iY 8 c) (aB (decide ((length (replicate ((i64.wrap ((((length c):Nat):Int)+1)).toNat) ((.agg [(ic (0)),(.int .u8 (0)),(ic (0)),(ic (0)),(ic (0)),(ic (0)),(ic (0)),(ic (0))]):PV)))=((i64.wrap ((((length c):Nat):Int)+1)).toNat))) (aB (decide (0≤((i64.wrap ((((length c):Nat):Int)+1)).toNat))) (aA (isEmpty c) (aB (decide ((length (replicate ((i64.wrap ((((length c):Nat):Int)+1)).toNat) ((.agg [(ic (0)),(.int .u8 (0)),(ic (0)),(ic (0)),(ic (0)),(ic (0)),(ic (0)),(ic (0))]):PV)))=((i64.wrap ((((length c):Nat):Int)+1)).toNat))) (aB (decide (0≤((i64.wrap ((((length c):Nat):Int)+1)).toNat))) (aB (decide (1≤((i64.wrap ((((length c):Nat):Int)+1)).toNat))) (aB (decide ((length (([(.agg [(ic d),(.int .u8 1),(ic e),(ic f),(ic g),(ic h),(ic k),(ic l)])]:Ls)++(drop 1 (replicate ((i64.wrap ((((length c):Nat):Int)+1)).toNat) ((.agg [(ic (0)),(.int .u8 (0)),(ic (0)),(ic (0)),(ic (0)),(ic (0)),(ic (0)),(ic (0))]):PV)))))=((i64.wrap ((((length c):Nat):Int)+1)).toNat))) (aB (decide (1≤((i64.wrap ((((length c):Nat):Int)+1)).toNat))) (K o (take 1 (([(.agg [(ic d),(.int .u8 1),(ic e),(ic f),(ic g),(ic h),(ic k),(ic l)])]:Ls)++(drop 1 (replicate ((i64.wrap ((((length c):Nat):Int)+1)).toNat) ((.agg [(ic (0)),(.int .u8 (0)),(ic (0)),(ic (0)),(ic (0)),(ic (0)),(ic (0)),(ic (0))]):PV))))) k l 0)))))) (aB (decide ((0+(length c))≤((i64.wrap ((((length c):Nat):Int)+1)).toNat))) (aB (decide ((length (c++(drop (0+(length c)) (replicate ((i64.wrap ((((length c):Nat):Int)+1)).toNat) ((.agg [(ic (0)),(.int .u8 (0)),(ic (0)),(ic (0)),(ic (0)),(ic (0)),(ic (0)),(ic (0))]):PV)))))=((i64.wrap ((((length c):Nat):Int)+1)).toNat))) (aB (decide ((0+(0+(length c)))≤((i64.wrap ((((length c):Nat):Int)+1)).toNat))) (aB (decide (((0+(length c))+1)≤((i64.wrap ((((length c):Nat):Int)+1)).toNat))) (aB (decide ((length ((take (0+(0+(length c))) (c++(drop (0+(length c)) (replicate ((i64.wrap ((((length c):Nat):Int)+1)).toNat) ((.agg [(ic (0)),(.int .u8 (0)),(ic (0)),(ic (0)),(ic (0)),(ic (0)),(ic (0)),(ic (0))]):PV)))))++(([(.agg [(ic d),(.int .u8 1),(ic e),(ic f),(ic g),(ic h),(ic k),(ic l)])]:Ls)++(drop ((0+(0+(length c)))+1) (c++(drop (0+(length c)) (replicate ((i64.wrap ((((length c):Nat):Int)+1)).toNat) ((.agg [(ic (0)),(.int .u8 (0)),(ic (0)),(ic (0)),(ic (0)),(ic (0)),(ic (0)),(ic (0))]):PV))))))))=((i64.wrap ((((length c):Nat):Int)+1)).toNat))) (aB (decide ((0+((0+(length c))+1))≤((i64.wrap ((((length c):Nat):Int)+1)).toNat))) (K o (take ((0+(length c))+1) ((take (0+(0+(length c))) (c++(drop (0+(length c)) (replicate ((i64.wrap ((((length c):Nat):Int)+1)).toNat) ((.agg [(ic (0)),(.int .u8 (0)),(ic (0)),(ic (0)),(ic (0)),(ic (0)),(ic (0)),(ic (0))]):PV)))))++(([(.agg [(ic d),(.int .u8 1),(ic e),(ic f),(ic g),(ic h),(ic k),(ic l)])]:Ls)++(drop ((0+(0+(length c)))+1) (c++(drop (0+(length c)) (replicate ((i64.wrap ((((length c):Nat):Int)+1)).toNat) ((.agg [(ic (0)),(.int .u8 (0)),(ic (0)),(ic (0)),(ic (0)),(ic (0)),(ic (0)),(ic (0))]):PV)))))))) k l 0)))))))))))))))))))))))))
def yaz:gU:=VA ydu FN Vz CT
def yHH (e:Es) (a0:cX) (a1:xK) (a2:FO) (a3:gJ):SE:=⟨(E e),ygn [(Cq,nW.pw a0),(EW,Bi.pw a1),(Mo,FQ.pw a2),(HU,oU.pw a3)],ygo [(QS,Rw)],cG,fun _=>none⟩
theorem yHI (e:Es) (a0 a1 a2 a3):bN (yHH e a0 a1 a2 a3) 6 S9 pY (VA a0 a1 a2 a3):=fun _ _=>by kernel_rfl
theorem IZ (e:Es) (he:EG e):bM (E e) (pY.pw yaz) CB:=bO he (yHI e _ _ _ _) (bK (aK.uni _) ⟨(IX e he),(Vo e he),(yul e he),(Vw e he),trivial⟩ ⟨⟨by kernel_rfl,by kernel_rfl,rfl,fun az=>rO (by kernel_rfl) az,he.num _ (by kernel_rfl),by kernel_rfl,(aZ (by kernel_rfl))⟩,trivial⟩ he.ok) bA.flat (aZ (by kernel_rfl))
set_option linter.unusedVariables false
theorem yFj (p0 p1:Ls) (r0:Int) (h:∀ K:Int→Prop,K r0→ydu p0 p1 K) (K:Int→Prop):ydu p0 p1 K=K r0:=
 Aac ⟨fun k=>cE (IX [] fQ) (az:=[(.agg [(.data p0),(.data p1)])]) (x:=(ic r0)) (fun K' k'=>h (fun r0=>K' (ic r0)) k') (K:=fun x=>match x with | (ic r0)=>K r0 | _=>False) k,h K⟩
theorem yDU (p0 r0:Ls) (h:∀ K:Ls→Prop,K r0→CT p0 K) (K:Ls→Prop):CT p0 K=K r0:=
 Aac ⟨fun k=>cE (Vw [] fQ) (az:=[(.data p0)]) (x:=(.data r0)) (fun K' k'=>h (fun r0=>K' (.data r0)) k') (K:=fun x=>match x with | (.data r0)=>K r0 | _=>False) k,h K⟩
theorem yHJ (p0 p1:Ls) (p2 p3 p4 p5 p6:Int) (r0 r1:Ls) (r2 r3 r4:Int) (h:∀ K:Ls→Ls→Int→Int→Int→Prop,K r0 r1 r2 r3 r4→Bj p0 p1 p2 p3 p4 p5 p6 K) (K:Ls→Ls→Int→Int→Int→Prop):Bj p0 p1 p2 p3 p4 p5 p6 K=K r0 r1 r2 r3 r4:=
 Aac ⟨fun k=>cE (jb [] fQ) (az:=[(.agg [(.data p0),(.data p1)]),(ic p2),(.agg [(ic p3),(ic p4)]),(.agg [(ic p5),(ic p6)])]) (x:=(.tup [(.agg [(.data r0),(.data r1)]),(.agg [(ic r2),(ic r3)]),(ic r4)])) (fun K' k'=>h (fun r0 r1 r2 r3 r4=>K' (.tup [(.agg [(.data r0),(.data r1)]),(.agg [(ic r2),(ic r3)]),(ic r4)])) k') (K:=fun x=>match x with | (.tup [(.agg [(.data r0),(.data r1)]),(.agg [(ic r2),(ic r3)]),(ic r4)])=>K r0 r1 r2 r3 r4 | _=>False) k,h K⟩
theorem yFk (p0 p1:Ls) (p2 p3 p4 p5 p6:Int) (r0 r1:Ls) (r2 r3 r4:Int) (h:∀ K:Ls→Ls→Int→Int→Int→Prop,K r0 r1 r2 r3 r4→yaz p0 p1 p2 p3 p4 p5 p6 K) (K:Ls→Ls→Int→Int→Int→Prop):yaz p0 p1 p2 p3 p4 p5 p6 K=K r0 r1 r2 r3 r4:=
 Aac ⟨fun k=>cE (IZ [] fQ) (az:=[(.agg [(.data p0),(.data p1)]),(ic p2),(.agg [(ic p3),(ic p4)]),(.agg [(ic p5),(ic p6)])]) (x:=(.tup [(.agg [(.data r0),(.data r1)]),(.agg [(ic r2),(ic r3)]),(ic r4)])) (fun K' k'=>h (fun r0 r1 r2 r3 r4=>K' (.tup [(.agg [(.data r0),(.data r1)]),(.agg [(ic r2),(ic r3)]),(ic r4)])) k') (K:=fun x=>match x with | (.tup [(.agg [(.data r0),(.data r1)]),(.agg [(ic r2),(ic r3)]),(ic r4)])=>K r0 r1 r2 r3 r4 | _=>False) k,h K⟩
def jc (b:Int) (K:Int→Int→Prop):Prop:=
 (K b 1)
def cM:cA:=jc
def yOj (e:Es):SE:=sE (E e) [] cG
theorem yOk (e:Es):bN (yOj e) 6 U4 nE jc:=fun _ _=>by kernel_rfl
theorem Ja (e:Es) (he:EG e):bM (E e) (nE.pw cM) rR:=bO he (yOk e) (bK (aK.uni _) trivial trivial he.ok) bA.flat (aZ (by kernel_rfl))
def VB (b:Int) (K:Int→Prop):Prop:=
 (aA (decide (b<0)) (K (u64.wrap ((u64.wrap (i64.wrap (0-(i64.wrap (b+1)))))+1))) (K (u64.wrap b)))
def CU:gY:=VB
def yLQ (e:Es):SE:=sE (E e) [] cG
theorem yLR (e:Es):bN (yLQ e) 6 U5 tQ VB:=fun _ _=>by kernel_rfl
theorem Nv (e:Es) (he:EG e):bM (E e) (tQ.pw CU) CE:=bO he (yLR e) (bK (aK.uni _) trivial trivial he.ok) bA.flat (aZ (by kernel_rfl))
def Jb (x0:Int→Int→Bool→Prop):Nat→Int→Int→Prop
 | 0,_,_=>False
 | n+1,b,c=>
 (aA (c !=0) (aB (!(decide (c=0))) (Jb x0 n c (Int.tmod b c))) (x0 b c false))
def VD (b c:Int) (K:Int→Prop):Prop:=
 (∃ n:Nat,Jb (fun d e f=>(K d)) n b c)
def vM:eJ:=VD
def yFl (Q:Qx):Int→Int→Bool→Prop:=(fun b c d=>Q (.exit 0) [(0,.v (.int .u64 b)),(1,.v (.int .u64 c)),(6,.v (.bool d))] [])
def jd (Q:Qx):List St:=[⟨dh,Jb (yFl Q)⟩]
def je:LP:=fG [(16774900,jd)]
def VE (e:Es):SE:=sE (E e) [] (je)
theorem jf (e:Es) (he:EG e):SEOk (bC (E e)) (VE e):=bK (aK.uni _) trivial trivial he.ok
theorem yDW (e:Es):eC (VE e) 5 a RU false (jd):=fun _=>⟨fun _=>by kernel_rfl,fun _ _=>by kernel_rfl,trivial⟩
theorem yDX (e:Es) (he:EG e):cQ (bC (E e)) (je) [] 16774900 (.loop 16774900 RU):=fun _ _ _=>bU.st (aK.uni _) (cL (jf e he) 5) (cF.no _ _) (aZ (by kernel_rfl)) (yDW e _)
theorem yLS (e:Es):bN (VE e) 6 RT xG VD:=fun _ _=>by kernel_rfl
theorem Nw (e:Es) (he:EG e):bM (E e) (xG.pw vM) Ff:=bO he (yLS e) (jf e he) bA.flat (cZ (l:=[(16774900,.loop 16774900 RU)]) ⟨yDX e he,trivial⟩ (by kernel_rfl))
def VF (a0:gY) (a1:eJ) (b c:Int) (K:Int→Prop):Prop:=
 (aA (decide (c<1)) (K 8) (aA (decide (c>1000000000000000000)) (K 8) (aA (decide (b<(-1000000000000000000))) (K 8) (aA (decide (b>1000000000000000000)) (K 8) (a0 b (fun d=>(a1 d (u64.wrap c) (fun e=>(aA (e !=1) (K 8) (K 0))))))))))
def zN:eJ:=VF CU vM
def yHK (e:Es) (a0:gY) (a1:eJ):SE:=sE (E e) [(CE,tQ.pw a0),(Ff,xG.pw a1)] cG
theorem yHL (e:Es) (a0 a1):bN (yHK e a0 a1) 6 U6 vJ (VF a0 a1):=fun _ _=>by kernel_rfl
theorem VG (e:Es) (he:EG e):bM (E e) (vJ.pw zN) Fg:=bO he (yHL e _ _) (bK (aK.uni _) ⟨(Nv e he),(Nw e he),trivial⟩ trivial he.ok) bA.flat (aZ (by kernel_rfl))
def VH (a0:eJ) (b c d e:Int) (K:Int→Prop):Prop:=
 (a0 b c (fun f=>(aA (f !=0) (a0 b c K) (a0 d e K))))
def Bk:gS:=VH zN
def yJZ (e:Es) (a0:eJ):SE:=sE (E e) [(Fg,vJ.pw a0)] cG
theorem yJ0 (e:Es) (a0):bN (yJZ e a0) 6 U7 nD (VH a0):=fun _ _=>by kernel_rfl
theorem Jc (e:Es) (he:EG e):bM (E e) (nD.pw Bk) AY:=bO he (yJ0 e _) (bK (aK.uni _) ⟨(VG e he),trivial⟩ trivial he.ok) bA.flat (aZ (by kernel_rfl))
def VI (b c:Int) (K:Int→Int→Prop):Prop:=
 (K (u64.wrap ((u64.wrap ((u64.wrap ((Int.fdiv b 4294967296)*(Int.fdiv c 4294967296)))+(Int.fdiv (u64.wrap ((Int.fdiv b 4294967296)*(u64.wrap (BitVec.ofInt u64.bits c&&&BitVec.ofInt u64.bits 4294967295).toNat))) 4294967296)))+(Int.fdiv (u64.wrap ((u64.wrap ((u64.wrap (BitVec.ofInt u64.bits (u64.wrap ((Int.fdiv b 4294967296)*(u64.wrap (BitVec.ofInt u64.bits c&&&BitVec.ofInt u64.bits 4294967295).toNat)))&&&BitVec.ofInt u64.bits 4294967295).toNat)+(u64.wrap ((u64.wrap (BitVec.ofInt u64.bits b&&&BitVec.ofInt u64.bits 4294967295).toNat)*(Int.fdiv c 4294967296)))))+(Int.fdiv (u64.wrap ((u64.wrap (BitVec.ofInt u64.bits b&&&BitVec.ofInt u64.bits 4294967295).toNat)*(u64.wrap (BitVec.ofInt u64.bits c&&&BitVec.ofInt u64.bits 4294967295).toNat))) 4294967296))) 4294967296))) (u64.wrap (BitVec.ofInt u64.bits (u64.wrap ((u64.wrap ((u64.wrap ((u64.wrap (BitVec.ofInt u64.bits (u64.wrap ((Int.fdiv b 4294967296)*(u64.wrap (BitVec.ofInt u64.bits c&&&BitVec.ofInt u64.bits 4294967295).toNat)))&&&BitVec.ofInt u64.bits 4294967295).toNat)+(u64.wrap ((u64.wrap (BitVec.ofInt u64.bits b&&&BitVec.ofInt u64.bits 4294967295).toNat)*(Int.fdiv c 4294967296)))))+(Int.fdiv (u64.wrap ((u64.wrap (BitVec.ofInt u64.bits b&&&BitVec.ofInt u64.bits 4294967295).toNat)*(u64.wrap (BitVec.ofInt u64.bits c&&&BitVec.ofInt u64.bits 4294967295).toNat))) 4294967296)))*4294967296))|||BitVec.ofInt u64.bits (u64.wrap (BitVec.ofInt u64.bits (u64.wrap ((u64.wrap (BitVec.ofInt u64.bits b&&&BitVec.ofInt u64.bits 4294967295).toNat)*(u64.wrap (BitVec.ofInt u64.bits c&&&BitVec.ofInt u64.bits 4294967295).toNat)))&&&BitVec.ofInt u64.bits 4294967295).toNat)).toNat))
def Bl:nS:=VI
def Jd:Sg:=⟨rS,Int→Int→Prop,fun K=>(fun r0 r1=>K (.agg [(.int .u64 r0),(.int .u64 r1)]))⟩
def yHN (e:Es):SE:=sE (E e) [] cG
theorem yHO (e:Es):bN (yHN e) 6 U8 Jd VI:=fun _ _=>by kernel_rfl
theorem VJ (e:Es) (he:EG e):bM (E e) (Jd.pw Bl) Fh:=bO he (yHO e) (bK (aK.uni _) trivial trivial he.ok) bA.flat (aZ (by kernel_rfl))
abbrev Je:Type:=Bool→J4 ((Int→Int→Int→Prop)→Prop)
def VK (b:Bool) (c d e f:Int) (K:Int→Int→Int→Prop):Prop:=
 (aA (decide (c>0)) (K 0 0 16) (aA (decide (e>0)) (K 0 0 16) (aA (decide (d>1000000000000000000)) (K 0 0 16) (aA (decide (f>1000000000000000000)) (K 0 0 16) (aA b (K (i64.wrap (0-(i64.wrap d))) (i64.wrap f) 0) (K (i64.wrap d) (i64.wrap f) 0))))))
def FS:Je:=VK
def CV:jN:=lC (vA rS) (lC (vA rS) lN)
def Ny:Sg:=⟨(lC vB CV),Int→Int→Int→Prop,fun K=>(fun r0 r1 r2=>K (.tup [(.agg [(ic r0),(ic r1)]),(ic r2)]))⟩
def yJ2 (e:Es):SE:=sE (E e) [] cG
theorem yJ3 (e:Es):bN (yJ2 e) 6 U9 Ny VK:=fun _ _=>by kernel_rfl
theorem jg (e:Es) (he:EG e):bM (E e) (Ny.pw FS) Ic:=bO he (yJ3 e) (bK (aK.uni _) trivial trivial he.ok) bA.flat (aZ (by kernel_rfl))
def VL (a0:gS) (a1:gY) (a2:eJ) (a3:nS) (a4:Je) (b c d e:Int) (K:Int→Int→Int→Prop):Prop:=
 (a0 b c d e (fun f=>(aA (f !=0) (a0 b c d e (fun g=>(K 0 0 g))) (a1 b (fun g=>(a2 g (u64.wrap e) (fun h=>(a1 d (fun i=>(a2 i (u64.wrap c) (fun j=>(aA ((decide (b<0)) !=(decide (d<0))) (aA (b !=0) (a1 b (fun k=>(aB (!(decide (h=0))) (a1 d (fun l=>(aB (!(decide (j=0))) (a3 (u64.wrap (Int.tdiv k h)) (u64.wrap (Int.tdiv l j)) (fun m o=>(aB (!(decide (j=0))) (aB (!(decide (h=0))) (a3 (u64.wrap (Int.tdiv (u64.wrap c) j)) (u64.wrap (Int.tdiv (u64.wrap e) h)) (fun p q=>(a4 (d !=0) m o p q K))))))))))))) (a1 b (fun k=>(aB (!(decide (h=0))) (a1 d (fun l=>(aB (!(decide (j=0))) (a3 (u64.wrap (Int.tdiv k h)) (u64.wrap (Int.tdiv l j)) (fun m o=>(aB (!(decide (j=0))) (aB (!(decide (h=0))) (a3 (u64.wrap (Int.tdiv (u64.wrap c) j)) (u64.wrap (Int.tdiv (u64.wrap e) h)) (fun p q=>(a4 false m o p q K)))))))))))))) (a1 b (fun k=>(aB (!(decide (h=0))) (a1 d (fun l=>(aB (!(decide (j=0))) (a3 (u64.wrap (Int.tdiv k h)) (u64.wrap (Int.tdiv l j)) (fun m o=>(aB (!(decide (j=0))) (aB (!(decide (h=0))) (a3 (u64.wrap (Int.tdiv (u64.wrap c) j)) (u64.wrap (Int.tdiv (u64.wrap e) h)) (fun p q=>(a4 false m o p q K)))))))))))))))))))))))))
def yg9:dE:=VL Bk CU vM Bl FS
def yLT (e:Es) (a0:gS) (a1:gY) (a2:eJ) (a3:nS) (a4:Je):SE:=sE (E e) [(AY,nD.pw a0),(CE,tQ.pw a1),(Ff,xG.pw a2),(Fh,Jd.pw a3),(Ic,Ny.pw a4)] cG
theorem yLU (e:Es) (a0 a1 a2 a3 a4):bN (yLT e a0 a1 a2 a3 a4) 6 V0 fA (VL a0 a1 a2 a3 a4):=fun _ _=>by kernel_rfl
theorem VM (e:Es) (he:EG e):bM (E e) (fA.pw yg9) Fi:=bO he (yLU e _ _ _ _ _) (bK (aK.uni _) ⟨(Jc e he),(Nv e he),(Nw e he),(VJ e he),(jg e he),trivial⟩ trivial he.ok) bA.flat (aZ (by kernel_rfl))
def VN (b c d e:Int) (K:Bool→Prop):Prop:=
 (aA (decide (b<d)) (K true) (aA (b==d) (K (decide (c<e))) (K false)))
def Jf:bH:=VN
def Nz:Sg:=⟨CV,Bool→Prop,fun K=>(fun r0=>K (.bool r0))⟩
def yJ5 (e:Es):SE:=sE (E e) [] cG
theorem yJ6 (e:Es):bN (yJ5 e) 6 V3 Nz VN:=fun _ _=>by kernel_rfl
theorem jh (e:Es) (he:EG e):bM (E e) (Nz.pw Jf) Id:=bO he (yJ6 e) (bK (aK.uni _) trivial trivial he.ok) bA.flat (aZ (by kernel_rfl))
def VO (a0:gY) (a1:nS) (a2:bH) (b c d e:Int) (K:Bool→Prop):Prop:=
 (aA ((decide (b<0)) !=(decide (d<0))) (K (decide (b<0))) (a0 b (fun f=>(a1 f (u64.wrap e) (fun g h=>(a0 d (fun i=>(a1 i (u64.wrap c) (fun j k=>(aA (decide (b<0)) (a2 j k g h K) (a2 g h j k K)))))))))))
def yaw:bH:=VO CU Bl Jf
def yJ7 (e:Es) (a0:gY) (a1:nS) (a2:bH):SE:=sE (E e) [(CE,tQ.pw a0),(Fh,Jd.pw a1),(Id,Nz.pw a2)] cG
theorem yJ8 (e:Es) (a0 a1 a2):bN (yJ7 e a0 a1 a2) 6 V4 mH (VO a0 a1 a2):=fun _ _=>by kernel_rfl
theorem tW (e:Es) (he:EG e):bM (E e) (mH.pw yaw) oP:=bO he (yJ8 e _ _ _) (bK (aK.uni _) ⟨(Nv e he),(VJ e he),(jh e he),trivial⟩ trivial he.ok) bA.flat (aZ (by kernel_rfl))
def VS (b c:Int) (K:Int→Int→Prop):Prop:=
 (K (i64.wrap (0-b)) c)
def NA:nS:=VS
def VT:Sg:=⟨Fq,Int→Int→Prop,fun K=>(fun r0 r1=>K (.agg [(ic r0),(ic r1)]))⟩
def yLW (e:Es):SE:=sE (E e) [] cG
theorem yLX (e:Es):bN (yLW e) 6 V8 VT VS:=fun _ _=>by kernel_rfl
theorem yLY (e:Es) (he:EG e):bM (E e) (VT.pw NA) Mx:=bO he (yLX e) (bK (aK.uni _) trivial trivial he.ok) bA.flat (aZ (by kernel_rfl))
def VU (b c d e:Int) (K:Int→Int→Prop):Prop:=
 (aA (decide ((u64.wrap (c+e))<c)) (K (u64.wrap ((u64.wrap (b+d))+1)) (u64.wrap (c+e))) (K (u64.wrap (b+d)) (u64.wrap (c+e))))
def xL:iI:=VU
def CW:Sg:=⟨CV,Int→Int→Prop,fun K=>(fun r0 r1=>K (.agg [(.int .u64 r0),(.int .u64 r1)]))⟩
def yJ9 (e:Es):SE:=sE (E e) [] cG
theorem yKa (e:Es):bN (yJ9 e) 6 V9 CW VU:=fun _ _=>by kernel_rfl
theorem ji (e:Es) (he:EG e):bM (E e) (CW.pw xL) Ih:=bO he (yKa e) (bK (aK.uni _) trivial trivial he.ok) bA.flat (aZ (by kernel_rfl))
def NB (b c d e:Int) (K:Int→Int→Prop):Prop:=
 (aA (decide (c<e)) (K (u64.wrap ((u64.wrap (b-d))-1)) (u64.wrap (c-e))) (K (u64.wrap (b-d)) (u64.wrap (c-e))))
def FT:iI:=NB
def yHP (e:Es):SE:=sE (E e) [] cG
theorem yHQ (e:Es):bN (yHP e) 6 W0 CW NB:=fun _ _=>by kernel_rfl
theorem yHR (e:Es) (he:EG e):bM (E e) (CW.pw FT) My:=bO he (yHQ e) (bK (aK.uni _) trivial trivial he.ok) bA.flat (aZ (by kernel_rfl))
abbrev VV:Type:=Int→Int→Int→(Int→Int→Int→Prop)→Prop
def vQ (a0:iI) (x0:J4 (J4 (Int→Bool→Prop))):Nat→J4 (J4 (Int→Prop))
 | 0,_,_,_,_,_,_,_,_,_=>False
 | n+1,b,c,d,e,f,g,h,i,j=>
 (aA (decide (j≥0)) (aB (!(decide ((i64.wrap (BitVec.ofInt i64.bits j&&&BitVec.ofInt i64.bits 63).toNat)<0))) (aA (decide (j≥64)) (aB (!(decide ((i64.wrap (BitVec.ofInt i64.bits j&&&BitVec.ofInt i64.bits 63).toNat)<0))) (a0 g h g h (fun k l=>(aA (decide ((u64.wrap (BitVec.ofInt u64.bits (u64.wrap (i*2))|||BitVec.ofInt u64.bits (u64.wrap (BitVec.ofInt u64.bits (Int.fdiv c (2 ^ (min (i64.wrap (BitVec.ofInt i64.bits j&&&BitVec.ofInt i64.bits 63).toNat).toNat u64.bits)))&&&BitVec.ofInt u64.bits 1).toNat)).toNat)≥b)) (vQ a0 x0 n b c d e f k (u64.wrap (BitVec.ofInt u64.bits l|||BitVec.ofInt u64.bits 1).toNat) (u64.wrap ((u64.wrap (BitVec.ofInt u64.bits (u64.wrap (i*2))|||BitVec.ofInt u64.bits (u64.wrap (BitVec.ofInt u64.bits (Int.fdiv c (2 ^ (min (i64.wrap (BitVec.ofInt i64.bits j&&&BitVec.ofInt i64.bits 63).toNat).toNat u64.bits)))&&&BitVec.ofInt u64.bits 1).toNat)).toNat)-b)) (i64.wrap (j-1))) (vQ a0 x0 n b c d e f k l (u64.wrap (BitVec.ofInt u64.bits (u64.wrap (i*2))|||BitVec.ofInt u64.bits (u64.wrap (BitVec.ofInt u64.bits (Int.fdiv c (2 ^ (min (i64.wrap (BitVec.ofInt i64.bits j&&&BitVec.ofInt i64.bits 63).toNat).toNat u64.bits)))&&&BitVec.ofInt u64.bits 1).toNat)).toNat) (i64.wrap (j-1))))))) (a0 g h g h (fun k l=>(aA (decide ((u64.wrap (BitVec.ofInt u64.bits (u64.wrap (i*2))|||BitVec.ofInt u64.bits (u64.wrap (BitVec.ofInt u64.bits (Int.fdiv d (2 ^ (min (i64.wrap (BitVec.ofInt i64.bits j&&&BitVec.ofInt i64.bits 63).toNat).toNat u64.bits)))&&&BitVec.ofInt u64.bits 1).toNat)).toNat)≥b)) (vQ a0 x0 n b c d e f k (u64.wrap (BitVec.ofInt u64.bits l|||BitVec.ofInt u64.bits 1).toNat) (u64.wrap ((u64.wrap (BitVec.ofInt u64.bits (u64.wrap (i*2))|||BitVec.ofInt u64.bits (u64.wrap (BitVec.ofInt u64.bits (Int.fdiv d (2 ^ (min (i64.wrap (BitVec.ofInt i64.bits j&&&BitVec.ofInt i64.bits 63).toNat).toNat u64.bits)))&&&BitVec.ofInt u64.bits 1).toNat)).toNat)-b)) (i64.wrap (j-1))) (vQ a0 x0 n b c d e f k l (u64.wrap (BitVec.ofInt u64.bits (u64.wrap (i*2))|||BitVec.ofInt u64.bits (u64.wrap (BitVec.ofInt u64.bits (Int.fdiv d (2 ^ (min (i64.wrap (BitVec.ofInt i64.bits j&&&BitVec.ofInt i64.bits 63).toNat).toNat u64.bits)))&&&BitVec.ofInt u64.bits 1).toNat)).toNat) (i64.wrap (j-1)))))))) (x0 b c d e f g h i j false))
def VW (a0:iI) (b c d:Int) (K:Int→Int→Int→Prop):Prop:=
 (∃ n:Nat,vQ a0 (fun e f g h i j k l m o=>(K j k l)) n d b c 0 0 0 0 0 127)
def zO:VV:=VW xL
def VX:Sg:=⟨(lC (vA rS) Nf),Int→Int→Int→Prop,fun K=>(fun r0 r1 r2=>K (.tup [(.agg [(.int .u64 r0),(.int .u64 r1)]),(.int .u64 r2)]))⟩
def yBK (Q:Qx):J4 (J4 (Int→Bool→Prop )):=(fun b c d e f g h i j k=>Q (.exit 0) [(1,.v (.int .u64 b)),(2,.box (.agg [(.int .u64 c),(.int .u64 d)])),(4,.box (.agg [(.int .u64 e),(.int .u64 f)])),(6,.box (.agg [(.int .u64 g),(.int .u64 h)])),(7,.v (.int .u64 i)),(8,.v (ic j)),(11,.v (.bool k))] [])
def jj (a0:iI) (Q:Qx):List St:=[⟨(pS hN (fV 1 pt2 (fX 2 (vA rS) (fX 4 (vA rS) (fX 6 (vA rS) (fV 7 pt2 (fV 8 bL fN)))))) fN),vQ a0 (yBK Q)⟩]
def jk (a0:iI):LP:=fG [(22549700,jj a0)]
def VY (e:Es) (a0:iI):SE:=sE (E e) [(Ih,CW.pw a0)] (jk a0)
theorem jl (e:Es) (he:EG e):SEOk (bC (E e)) (VY e xL):=bK (aK.uni _) ⟨(ji e he),trivial⟩ trivial he.ok
theorem yzZ (e:Es) (a0):eC (VY e a0) 5 a RX false (jj a0):=fun _=>⟨fun _=>by kernel_rfl,fun _ _=>by kernel_rfl,trivial⟩
theorem yz0 (e:Es) (he:EG e):cQ (bC (E e)) (jk xL) [] 22549700 (.loop 22549700 RX):=fun _ _ _=>bU.st (aK.uni _) (cL (jl e he) 5) (cF.no _ _) (aZ (by kernel_rfl)) (yzZ e _ _)
theorem yHT (e:Es) (a0):bN (VY e a0) 6 RW VX (VW a0):=fun _ _=>by kernel_rfl
theorem jm (e:Es) (he:EG e):bM (E e) (VX.pw zO) Mz:=bO he (yHT e _) (jl e he) bA.flat (cZ (l:=[(22549700,.loop 22549700 RX)]) ⟨yz0 e he,trivial⟩ (by kernel_rfl))
def VZ (a0:gS) (a1:eJ) (a2:gY) (a3:nS) (a4 a5:iI) (a6:bH) (a7:VV) (a8:Je) (b c d e:Int) (K:Int→Int→Int→Prop):Prop:=
 (a0 b c d e (fun f=>(aA (f !=0) (a0 b c d e (fun g=>(K 0 0 g))) (a1 (u64.wrap c) (u64.wrap e) (fun g=>(a2 b (fun h=>(aB (!(decide (g=0))) (a3 h (u64.wrap (Int.tdiv (u64.wrap e) g)) (fun i j=>(a2 d (fun k=>(aB (!(decide (g=0))) (a3 k (u64.wrap (Int.tdiv (u64.wrap c) g)) (fun l m=>(a4 i j l m (fun o p=>(aA ((decide (b<0)) !=(decide (d<0))) (a5 i j l m (fun q r=>(a6 i j l m (fun s=>(aA s (a5 l m i j (fun t u=>(aA ((t==0)&&((u==0)&&true)) (K 0 1 0) (a7 t u g (fun v w z=>(a1 z g (fun A=>(a7 t u A (fun B C D=>(aB (!(decide (g=0))) (aB (!(decide (A=0))) (a3 (u64.wrap (Int.tdiv (u64.wrap c) g)) (u64.wrap (Int.tdiv (u64.wrap e) A)) (fun E F=>(a8 (decide (d<0)) B C E F K)))))))))))))) (aA ((q==0)&&((r==0)&&true)) (K 0 1 0) (a7 q r g (fun t u v=>(a1 v g (fun w=>(a7 q r w (fun z A B=>(aB (!(decide (g=0))) (aB (!(decide (w=0))) (a3 (u64.wrap (Int.tdiv (u64.wrap c) g)) (u64.wrap (Int.tdiv (u64.wrap e) w)) (fun C D=>(a8 (decide (b<0)) z A C D K))))))))))))))))) (aA ((o==0)&&((p==0)&&true)) (K 0 1 0) (a7 o p g (fun q r s=>(a1 s g (fun t=>(a7 o p t (fun u v w=>(aB (!(decide (g=0))) (aB (!(decide (t=0))) (a3 (u64.wrap (Int.tdiv (u64.wrap c) g)) (u64.wrap (Int.tdiv (u64.wrap e) t)) (fun z A=>(a8 (decide (b<0)) u v z A K))))))))))))))))))))))))))))))
def tX:dE:=VZ Bk vM CU Bl xL FT Jf zO FS
def yLZ (e:Es) (a0:gS) (a1:eJ) (a2:gY) (a3:nS) (a4 a5:iI) (a6:bH) (a7:VV) (a8:Je):SE:=sE (E e) [(AY,nD.pw a0),(Ff,xG.pw a1),(CE,tQ.pw a2),(Fh,Jd.pw a3),(Ih,CW.pw a4),(My,CW.pw a5),(Id,Nz.pw a6),(Mz,VX.pw a7),(Ic,Ny.pw a8)] cG
theorem yL0 (e:Es) (a0 a1 a2 a3 a4 a5 a6 a7 a8):bN (yLZ e a0 a1 a2 a3 a4 a5 a6 a7 a8) 6 W5 fA (VZ a0 a1 a2 a3 a4 a5 a6 a7 a8):=fun _ _=>by kernel_rfl
theorem Wa (e:Es) (he:EG e):bM (E e) (fA.pw tX) Fj:=bO he (yL0 e _ _ _ _ _ _ _ _ _) (bK (aK.uni _) ⟨(Jc e he),(Nw e he),(Nv e he),(VJ e he),(ji e he),(yHR e he),(jh e he),(jm e he),(jg e he),trivial⟩ trivial he.ok) bA.flat (aZ (by kernel_rfl))
def Wb (a0:gS) (a1:nS) (a2:dE) (b c d e:Int) (K:Int→Int→Int→Prop):Prop:=
 (a0 b c d e (fun f=>(aA (f !=0) (a0 b c d e (fun g=>(K 0 0 g))) (a1 d e (fun g h=>(a2 b c g h K))))))
def xM:dE:=Wb Bk NA tX
def yL1 (e:Es) (a0:gS) (a1:nS) (a2:dE):SE:=sE (E e) [(AY,nD.pw a0),(Mx,VT.pw a1),(Fj,fA.pw a2)] cG
theorem yL2 (e:Es) (a0 a1 a2):bN (yL1 e a0 a1 a2) 6 W6 fA (Wb a0 a1 a2):=fun _ _=>by kernel_rfl
theorem Wc (e:Es) (he:EG e):bM (E e) (fA.pw xM) Fk:=bO he (yL2 e _ _ _) (bK (aK.uni _) ⟨(Jc e he),(yLY e he),(Wa e he),trivial⟩ trivial he.ok) bA.flat (aZ (by kernel_rfl))
def Wd (a0:gS) (a1:dE) (b c d e:Int) (K:Int→Int→Int→Prop):Prop:=
 (a0 b c d e (fun f=>(aA (f !=0) (a0 b c d e (fun g=>(K 0 0 g))) (aA (d==0) (K 0 0 18) (aA (decide (d<0)) (a1 b c (i64.wrap (0-e)) (i64.wrap (0-d)) K) (a1 b c e d K))))))
def CX:dE:=Wd Bk yg9
def yL3 (e:Es) (a0:gS) (a1:dE):SE:=sE (E e) [(AY,nD.pw a0),(Fi,fA.pw a1)] cG
theorem yL4 (e:Es) (a0 a1):bN (yL3 e a0 a1) 6 W8 fA (Wd a0 a1):=fun _ _=>by kernel_rfl
theorem yL5 (e:Es) (he:EG e):bM (E e) (fA.pw CX) MB:=bO he (yL4 e _ _) (bK (aK.uni _) ⟨(Jc e he),(VM e he),trivial⟩ trivial he.ok) bA.flat (aZ (by kernel_rfl))
set_option linter.unusedVariables false
theorem yKb (p0 p1 r0:Int) (h:∀ K:Int→Prop,K r0→vM p0 p1 K) (K:Int→Prop):vM p0 p1 K=K r0:=
 Aac ⟨fun k=>cE (Nw [] fQ) (az:=[(.int .u64 p0),(.int .u64 p1)]) (x:=(.int .u64 r0)) (fun K' k'=>h (fun r0=>K' (.int .u64 r0)) k') (K:=fun x=>match x with | (.int .u64 r0)=>K r0 | _=>False) k,h K⟩
theorem yFm (p0 p1 p2 r0 r1 r2:Int) (h:∀ K:Int→Int→Int→Prop,K r0 r1 r2→zO p0 p1 p2 K) (K:Int→Int→Int→Prop):zO p0 p1 p2 K=K r0 r1 r2:=
 Aac ⟨fun k=>cE (jm [] fQ) (az:=[(.agg [(.int .u64 p0),(.int .u64 p1)]),(.int .u64 p2)]) (x:=(.tup [(.agg [(.int .u64 r0),(.int .u64 r1)]),(.int .u64 r2)])) (fun K' k'=>h (fun r0 r1 r2=>K' (.tup [(.agg [(.int .u64 r0),(.int .u64 r1)]),(.int .u64 r2)])) k') (K:=fun x=>match x with | (.tup [(.agg [(.int .u64 r0),(.int .u64 r1)]),(.int .u64 r2)])=>K r0 r1 r2 | _=>False) k,h K⟩
abbrev FU:Type:=Int→Ls→Ls→(Bool→Prop)→Prop
def We (b:Int) (c d:Ls) (K:Bool→Prop):Prop:=
 (aA (decide ((((length c):Nat):Int)>60)) (K true) (K (decide ((((length d):Nat):Int)>60))))
def CY:FU:=We
def Wf:Sg:=⟨zL,Bool→Prop,fun K=>(fun r0=>K (.bool r0))⟩
def yHV (e:Es):SE:=sE (E e) [] cG
theorem yHW (e:Es):bN (yHV e) 6 P2 Wf We:=fun _ _=>by kernel_rfl
theorem yHX (e:Es) (he:EG e):bM (E e) (Wf.pw CY) LT:=bO he (yHW e) (bK (aK.uni _) trivial trivial he.ok) bA.flat (aZ (by kernel_rfl))
def CZ (x0:Int→Prop) (x1:Int→Ls→Ls→Bool→Int→Bool→Prop):Nat→Int→Ls→Ls→Bool→Int→Prop
 | 0,_,_,_,_,_=>False
 | n+1,b,c,d,e,f=>
 (aA (decide (f<(((length d):Nat):Int))) (aB (decide (0≤(i64.wrap (f+1)))) (aB (decide ((i64.wrap (f+1))<(((length c):Nat):Int))) (aB (aE zI (getD c ((i64.wrap (f+1)).toNat) .nils)) (aB (decide (0≤f)) (aB (decide (f<(((length c):Nat):Int))) (aB (aE zI (getD c (f.toNat) .nils)) (aA (decide ((aC (getD c ((i64.wrap (f+1)).toNat) .nils))≤(aC (getD c (f.toNat) .nils)))) (x0 8) (aB (decide (0≤f)) (aB (decide (f<(((length d):Nat):Int))) (aB (aE zI (getD d (f.toNat) .nils)) (aA (decide ((aC (getD d (f.toNat) .nils))<0)) (x0 8) (aB (decide (0≤f)) (aB (decide (f<(((length d):Nat):Int))) (aB (aE zI (getD d (f.toNat) .nils)) (aA (decide ((aC (getD d (f.toNat) .nils))>12)) (x0 8) (aA e (CZ x0 x1 n b c d true (i64.wrap (f+1))) (aB (decide (0≤f)) (aB (decide (f<(((length d):Nat):Int))) (aB (aE zI (getD d (f.toNat) .nils)) (CZ x0 x1 n b c d (decide ((aC (getD d (f.toNat) .nils))>0)) (i64.wrap (f+1)))))))))))))))))))))) (x1 b c d e f false))
def Wg (b:Int) (c d:Ls) (K:Int→Prop):Prop:=
 (aA (decide (b>1000)) (K 4) (aA (decide ((((length c):Nat):Int)>40)) (K 4) (aA (decide (b<1)) (K 8) (aA (decide ((((length c):Nat):Int)<2)) (K 8) (aA ((((length d):Nat):Int) !=(i64.wrap ((((length c):Nat):Int)-1))) (K 8) (aB (decide (0<(((length c):Nat):Int))) (aB (aE zI (getD c 0 .nils)) (aA ((aC (getD c 0 .nils)) !=0) (K 8) (aB (decide (0≤(i64.wrap ((((length c):Nat):Int)-1)))) (aB (decide ((i64.wrap ((((length c):Nat):Int)-1))<(((length c):Nat):Int))) (aB (aE zI (getD c ((i64.wrap ((((length c):Nat):Int)-1)).toNat) .nils)) (aA ((aC (getD c ((i64.wrap ((((length c):Nat):Int)-1)).toNat) .nils)) !=b) (K 8) (∃ n:Nat,CZ K (fun e f g h i j=>(aA (!h) (K 8) (K 0))) n b c d false 0)))))))))))))
def mI:cD:=Wg
def yBL (Q:Qx):Int→Prop:=(fun b=>Q .ret [(2,.v (ic b))] [])
def yBM (Q:Qx):Int→Ls→Ls→Bool→Int→Bool→Prop:=(fun b c d e f g=>Q (.exit 0) [(1,.box (.agg [(ic b),(.data c),(.data d)])),(3,.v (.bool e)),(4,.v (ic f)),(57,.v (.bool g))] [])
def jo (Q:Qx):List St:=[⟨(pS hN (fX 1 lA (fV 3 vB pP)) fN),CZ (yBL Q) (yBM Q)⟩]
def jp:LP:=fG [(94526800,jo)]
def Wh (e:Es):SE:=sE (E e) [] (jp)
theorem jq (e:Es) (he:EG e):SEOk (bC (E e)) (Wh e):=bK (aK.uni _) trivial trivial he.ok
theorem yz1 (e:Es):eC (Wh e) 5 a RN false (jo):=fun _=>⟨fun _=>by kernel_rfl,fun _ _=>by kernel_rfl,trivial⟩
theorem yz2 (e:Es) (he:EG e):cQ (bC (E e)) (jp) [] 94526800 (.loop 94526800 RN):=fun _ _ _=>bU.st (aK.uni _) (cL (jq e he) 5) (cF.no _ _) (aZ (by kernel_rfl)) (yz1 e _)
theorem yHY (e:Es):bN (Wh e) 6 RM pQ Wg:=fun _ _=>by kernel_rfl
theorem NC (e:Es) (he:EG e):bM (E e) (pQ.pw mI) Fd:=bO he (yHY e) (jq e he) bA.flat (cZ (l:=[(94526800,.loop 94526800 RN)]) ⟨yz2 e he,trivial⟩ (by kernel_rfl))
def FW (x0:Int→Ls→Ls→Int→Int→Bool→Prop):Nat→Int→Ls→Ls→Int→Int→Prop
 | 0,_,_,_,_,_=>False
 | n+1,b,c,d,e,f=>
 (aA (decide (f<(((length d):Nat):Int))) (aB (decide (0≤f)) (aB (decide (f<(((length d):Nat):Int))) (aB (aE zI (getD d (f.toNat) .nils)) (aB (decide (0≤(i64.wrap (f+1)))) (aB (decide ((i64.wrap (f+1))<(((length c):Nat):Int))) (aB (aE zI (getD c ((i64.wrap (f+1)).toNat) .nils)) (aB (decide (0≤f)) (aB (decide (f<(((length c):Nat):Int))) (aB (aE zI (getD c (f.toNat) .nils)) (FW x0 n b c d (i64.wrap (e+(i64.wrap ((aC (getD d (f.toNat) .nils))*(i64.wrap ((aC (getD c ((i64.wrap (f+1)).toNat) .nils))-(aC (getD c (f.toNat) .nils)))))))) (i64.wrap (f+1)))))))))))) (x0 b c d e f false))
def Wi (b:Int) (c d:Ls) (K:Int→Prop):Prop:=
 (∃ n:Nat,FW (fun e f g h i j=>(K h)) n b c d 0 0)
def ya7:cD:=Wi
def yBN (Q:Qx):Int→Ls→Ls→Int→Int→Bool→Prop:=(fun b c d e f g=>Q (.exit 0) [(1,.box (.agg [(ic b),(.data c),(.data d)])),(3,.v (ic e)),(4,.v (ic f)),(9,.v (.bool g))] [])
def jr (Q:Qx):List St:=[⟨(pS hN (fX 1 lA (fV 3 bL pP)) fN),FW (yBN Q)⟩]
def js:LP:=fG [(21661800,jr)]
def Wj (e:Es):SE:=sE (E e) [] (js)
theorem jt (e:Es) (he:EG e):SEOk (bC (E e)) (Wj e):=bK (aK.uni _) trivial trivial he.ok
theorem yz3 (e:Es):eC (Wj e) 5 a RR false (jr):=fun _=>⟨fun _=>by kernel_rfl,fun _ _=>by kernel_rfl,trivial⟩
theorem yz4 (e:Es) (he:EG e):cQ (bC (E e)) (js) [] 21661800 (.loop 21661800 RR):=fun _ _ _=>bU.st (aK.uni _) (cL (jt e he) 5) (cF.no _ _) (aZ (by kernel_rfl)) (yz3 e _)
theorem yHZ (e:Es):bN (Wj e) 6 RQ pQ Wi:=fun _ _=>by kernel_rfl
theorem ju (e:Es) (he:EG e):bM (E e) (pQ.pw ya7) Fe:=bO he (yHZ e) (jt e he) bA.flat (cZ (l:=[(21661800,.loop 21661800 RR)]) ⟨yz4 e he,trivial⟩ (by kernel_rfl))
abbrev vR:Type:=Int→Int→Int→(Bool→Prop)→Prop
def Wk (a0:eJ) (a1:cA) (a2:bH) (b c d:Int) (K:Bool→Prop):Prop:=
 (a0 c d (fun e=>(aA (e==0) (aA (decide (c≥0)) (a1 b (fun f g=>(a2 f g c d (fun h=>(K (!h)))))) (K false)) (K false))))
def vT:vR:=Wk zN cM yaw
def ND:Sg:=⟨(lC bL Fq),Bool→Prop,fun K=>(fun r0=>K (.bool r0))⟩
def yH1 (e:Es) (a0:eJ) (a1:cA) (a2:bH):SE:=sE (E e) [(Fg,vJ.pw a0),(rR,nE.pw a1),(oP,mH.pw a2)] cG
theorem yH2 (e:Es) (a0 a1 a2):bN (yH1 e a0 a1 a2) 6 V5 ND (Wk a0 a1 a2):=fun _ _=>by kernel_rfl
theorem jv (e:Es) (he:EG e):bM (E e) (ND.pw vT) Ie:=bO he (yH2 e _ _ _) (bK (aK.uni _) ⟨(VG e he),(Ja e he),(tW e he),trivial⟩ trivial he.ok) bA.flat (aZ (by kernel_rfl))
def Wl (a0:bH) (b c d e:Int) (K:Int→Int→Prop):Prop:=
 (a0 b c d e (fun f=>(aA f (K d e) (K b c))))
def Bm:iI:=Wl yaw
def Da:Sg:=⟨nR,Int→Int→Prop,fun K=>(fun r0 r1=>K (.agg [(ic r0),(ic r1)]))⟩
def yH3 (e:Es) (a0:bH):SE:=sE (E e) [(oP,mH.pw a0)] cG
theorem yH4 (e:Es) (a0):bN (yH3 e a0) 6 V6 Da (Wl a0):=fun _ _=>by kernel_rfl
theorem jw (e:Es) (he:EG e):bM (E e) (Da.pw Bm) Ig:=bO he (yH4 e _) (bK (aK.uni _) ⟨(tW e he),trivial⟩ trivial he.ok) bA.flat (aZ (by kernel_rfl))
def Wm (a0:bH) (b c d e:Int) (K:Int→Int→Prop):Prop:=
 (a0 b c d e (fun f=>(aA f (K b c) (K d e))))
def NE:iI:=Wm yaw
def yFn (e:Es) (a0:bH):SE:=sE (E e) [(oP,mH.pw a0)] cG
theorem yFo (e:Es) (a0):bN (yFn e a0) 6 V7 Da (Wm a0):=fun _ _=>by kernel_rfl
theorem yFp (e:Es) (he:EG e):bM (E e) (Da.pw NE) Mw:=bO he (yFo e _) (bK (aK.uni _) ⟨(tW e he),trivial⟩ trivial he.ok) bA.flat (aZ (by kernel_rfl))
abbrev vU:Type:=Int→Ls→Ls→J4 (Int→(Int→Int→Int→Prop)→Prop)
def Wn (a0:cA) (a1 a2:iI) (a3:bH) (a4 a5:dE) (b:Int) (c d:Ls) (e f g h i:Int) (K:Int→Int→Int→Prop):Prop:=
 (aB (decide (0≤e)) (aB (decide (e<(((length c):Nat):Int))) (aB (aE zI (getD c (e.toNat) .nils)) (a0 (aC (getD c (e.toNat) .nils)) (fun j k=>(a1 f g j k (fun l m=>(aB (decide (0≤(i64.wrap (e+1)))) (aB (decide ((i64.wrap (e+1))<(((length c):Nat):Int))) (aB (aE zI (getD c ((i64.wrap (e+1)).toNat) .nils)) (a0 (aC (getD c ((i64.wrap (e+1)).toNat) .nils)) (fun o p=>(a2 h i o p (fun q r=>(a3 l m q r (fun s=>(aA (!s) (K 0 1 0) (aB (decide (0≤e)) (aB (decide (e<(((length d):Nat):Int))) (aB (aE zI (getD d (e.toNat) .nils)) (aA ((aC (getD d (e.toNat) .nils))==0) (K 0 1 0) (a4 q r l m (fun t u v=>(aA (v !=0) (K 0 0 v) (aB (decide (0≤e)) (aB (decide (e<(((length d):Nat):Int))) (aB (aE zI (getD d (e.toNat) .nils)) (a0 (aC (getD d (e.toNat) .nils)) (fun w z=>(a5 t u w z K))))))))))))))))))))))))))))))
def vV:vU:=Wn cM Bm NE yaw xM yg9
def NF:Sg:=⟨(lC lA (lC bL nR)),Int→Int→Int→Prop,fun K=>(fun r0 r1 r2=>K (.tup [(.agg [(ic r0),(ic r1)]),(ic r2)]))⟩
def yH6 (e:Es) (a0:cA) (a1 a2:iI) (a3:bH) (a4 a5:dE):SE:=sE (E e) [(rR,nE.pw a0),(Ig,Da.pw a1),(Mw,Da.pw a2),(oP,mH.pw a3),(Fk,fA.pw a4),(Fi,fA.pw a5)] cG
theorem yH7 (e:Es) (a0 a1 a2 a3 a4 a5):bN (yH6 e a0 a1 a2 a3 a4 a5) 6 W7 NF (Wn a0 a1 a2 a3 a4 a5):=fun _ _=>by kernel_rfl
theorem jz (e:Es) (he:EG e):bM (E e) (NF.pw vV) Ii:=bO he (yH7 e _ _ _ _ _ _) (bK (aK.uni _) ⟨(Ja e he),(jw e he),(yFp e he),(tW e he),(Wc e he),(VM e he),trivial⟩ trivial he.ok) bA.flat (aZ (by kernel_rfl))
def FX (a0:cD) (a1:vR) (a2:bH) (a3:vU) (a4:dE) (x0:Int→Int→Int→Prop) (x1:Int→Ls→Ls→J4 (J4 (Int→Bool→Prop))):Nat→Int→Ls→Ls→J4 (J4 (Int→Prop))
 | 0,_,_,_,_,_,_,_,_,_,_,_,_=>False
 | n+1,b,c,d,e,f,g,h,i,j,k,l,m=>
 (aA (decide (m<(((length d):Nat):Int))) (a3 b c d m e f g h (fun o p q=>(aA (q !=0) (x0 0 0 q) (a4 k l o p (fun r s t=>(aA (t !=0) (x0 0 0 t) (FX a0 a1 a2 a3 a4 x0 x1 n b c d e f g h i j r s (i64.wrap (m+1))))))))) (x1 b c d e f g h i j k l m false))
def Wo (a0:cD) (a1:vR) (a2:bH) (a3:vU) (a4:dE) (b:Int) (c d:Ls) (e f g h:Int) (K:Int→Int→Int→Prop):Prop:=
 (a0 b c d (fun i=>(aA (i !=0) (a0 b c d (fun j=>(K 0 0 j))) (a1 b e f (fun j=>(aA (!j) (K 0 0 2) (a1 b g h (fun k=>(aA (!k) (K 0 0 2) (a2 g h e f (fun l=>(aA l (K 0 0 2) (∃ n:Nat,FX a0 a1 a2 a3 a4 K (fun m o p q r s t u v w z A B=>(K w z 0)) n b c d e f g h 0 0 0 1 0)))))))))))))
def FY:xI:=Wo mI vT yaw vV tX
def yBO (Q:Qx):Int→Int→Int→Prop:=(fun b c d=>Q .ret [(6,.box (.agg [(ic b),(ic c)])),(7,.v (ic d))] [])
def yBP (Q:Qx):Int→Ls→Ls→J4 (J4 (Int→Bool→Prop )):=(fun b c d e f g h i j k l m o=>Q (.exit 0) [(3,.box (.agg [(ic b),(.data c),(.data d)])),(4,.box (.agg [(ic e),(ic f)])),(5,.box (.agg [(ic g),(ic h)])),(6,.box (.agg [(ic i),(ic j)])),(8,.box (.agg [(ic k),(ic l)])),(9,.v (ic m)),(41,.v (.bool o))] [])
def Jg:Pat rQ:=pS hN (fX 3 lA (fX 4 nQ (fX 5 nQ (fX 6 nQ (fX 8 nQ (fV 9 bL fN)))))) fN
def ka (a0:cD) (a1:vR) (a2:bH) (a3:vU) (a4:dE) (Q:Qx):List St:=[⟨Jg,FX a0 a1 a2 a3 a4 (yBO Q) (yBP Q)⟩]
def kb (a0:cD) (a1:vR) (a2:bH) (a3:vU) (a4:dE):LP:=fG [(92446900,ka a0 a1 a2 a3 a4)]
def Wp (e:Es) (a0:cD) (a1:vR) (a2:bH) (a3:vU) (a4:dE):SE:=sE (E e) [(Fd,pQ.pw a0),(Ie,ND.pw a1),(oP,mH.pw a2),(Ii,NF.pw a3),(Fj,fA.pw a4)] (kb a0 a1 a2 a3 a4)
theorem kc (e:Es) (he:EG e):SEOk (bC (E e)) (Wp e mI vT yaw vV tX):=bK (aK.uni _) ⟨(NC e he),(jv e he),(tW e he),(jz e he),(Wa e he),trivial⟩ trivial he.ok
theorem yz5 (e:Es) (a0 a1 a2 a3 a4):eC (Wp e a0 a1 a2 a3 a4) 5 a RZ false (ka a0 a1 a2 a3 a4):=fun _=>⟨fun _=>by kernel_rfl,fun _ _=>by kernel_rfl,trivial⟩
theorem yz6 (e:Es) (he:EG e):cQ (bC (E e)) (kb mI vT yaw vV tX) [] 92446900 (.loop 92446900 RZ):=fun _ _ _=>bU.st (aK.uni _) (cL (kc e he) 5) (cF.no _ _) (aZ (by kernel_rfl)) (yz5 e _ _ _ _ _ _)
theorem yH8 (e:Es) (a0 a1 a2 a3 a4):bN (Wp e a0 a1 a2 a3 a4) 6 RY tV (Wo a0 a1 a2 a3 a4):=fun _ _=>by kernel_rfl
theorem kd (e:Es) (he:EG e):bM (E e) (tV.pw FY) MA:=bO he (yH8 e _ _ _ _ _) (kc e he) bA.flat (cZ (l:=[(92446900,.loop 92446900 RZ)]) ⟨yz6 e he,trivial⟩ (by kernel_rfl))
def zP (a0:cD) (a1:vR) (a2:eJ) (a3:cA) (a4:bH) (a5:iI) (a6:vU) (a7 a8 a9:dE) (x0:Int→Int→Int→Prop) (x1:Int→Ls→Ls→J4 (J4 (Int→Bool→Prop))):Nat→Int→Ls→Ls→J4 (J4 (Int→Prop))
 | 0,_,_,_,_,_,_,_,_,_,_,_,_=>False
 | n+1,b,c,d,e,f,g,h,i,j,k,l,m=>
 (aA (decide (m<(((length d):Nat):Int))) (aA (decide (g>0)) (aB (decide (0≤(i64.wrap (m+1)))) (aB (decide ((i64.wrap (m+1))<(((length c):Nat):Int))) (aB (aE zI (getD c ((i64.wrap (m+1)).toNat) .nils)) (a3 (aC (getD c ((i64.wrap (m+1)).toNat) .nils)) (fun o p=>(a4 k l o p (fun q=>(aA (!q) (a5 k l o p (fun r s=>(zP a0 a1 a2 a3 a4 a5 a6 a7 a8 a9 x0 x1 n b c d e f g h i j r s (i64.wrap (m+1))))) (aB (decide (0≤m)) (aB (decide (m<(((length d):Nat):Int))) (aB (aE zI (getD d (m.toNat) .nils)) (aA ((aC (getD d (m.toNat) .nils))==0) (a5 k l o p (fun r s=>(zP a0 a1 a2 a3 a4 a5 a6 a7 a8 a9 x0 x1 n b c d e f g h i j r s (i64.wrap (m+1))))) (a6 b c d m k l o p (fun r s t=>(aA (t !=0) (x0 0 0 t) (a4 r s g h (fun u=>(aA (!u) (aB (decide (0≤m)) (aB (decide (m<(((length d):Nat):Int))) (aB (aE zI (getD d (m.toNat) .nils)) (a3 (aC (getD d (m.toNat) .nils)) (fun v w=>(a7 g h v w (fun z A B=>(aA (B !=0) (x0 0 0 B) (a8 k l z A x0))))))))) (a9 g h r s (fun v w z=>(aA (z !=0) (x0 0 0 z) (zP a0 a1 a2 a3 a4 a5 a6 a7 a8 a9 x0 x1 n b c d e f v w i j o p (i64.wrap (m+1)))))))))))))))))))))))) (x1 b c d e f g h i j k l m false)) (x1 b c d e f g h i j k l m false))
def Wq (a0:cD) (a1:vR) (a2:eJ) (a3:cA) (a4:bH) (a5:iI) (a6:vU) (a7 a8 a9:dE) (b:Int) (c d:Ls) (e f g h:Int) (K:Int→Int→Int→Prop):Prop:=
 (a0 b c d (fun i=>(aA (i !=0) (a0 b c d (fun j=>(K 0 0 j))) (a1 b e f (fun j=>(aA (!j) (K 0 0 2) (a2 g h (fun k=>(aA (k !=0) (K 0 0 2) (aA (decide (g<0)) (K 0 0 2) (∃ n:Nat,zP a0 a1 a2 a3 a4 a5 a6 a7 a8 a9 K (fun l m o p q r s t u v w z A=>(aA (decide (r>0)) (K 0 0 6) (K p q 0))) n b c d e f g h 0 0 e f 0)))))))))))
def FZ:xI:=Wq mI vT zN cM yaw Bm vV CX tX xM
def yDY (Q:Qx):Int→Int→Int→Prop:=(fun b c d=>Q .ret [(6,.box (.agg [(ic b),(ic c)])),(7,.v (ic d))] [])
def yDZ (Q:Qx):Int→Ls→Ls→J4 (J4 (Int→Bool→Prop )):=(fun b c d e f g h i j k l m o=>Q (.exit 0) [(3,.box (.agg [(ic b),(.data c),(.data d)])),(4,.box (.agg [(ic e),(ic f)])),(5,.box (.agg [(ic g),(ic h)])),(6,.box (.agg [(ic i),(ic j)])),(8,.box (.agg [(ic k),(ic l)])),(9,.v (ic m)),(47,.v (.bool o))] [])
def ke (a0:cD) (a1:vR) (a2:eJ) (a3:cA) (a4:bH) (a5:iI) (a6:vU) (a7 a8 a9:dE) (Q:Qx):List St:=[⟨Jg,zP a0 a1 a2 a3 a4 a5 a6 a7 a8 a9 (yDY Q) (yDZ Q)⟩]
def kf (a0:cD) (a1:vR) (a2:eJ) (a3:cA) (a4:bH) (a5:iI) (a6:vU) (a7 a8 a9:dE):LP:=fG [(63725400,ke a0 a1 a2 a3 a4 a5 a6 a7 a8 a9)]
def Wr (e:Es) (a0:cD) (a1:vR) (a2:eJ) (a3:cA) (a4:bH) (a5:iI) (a6:vU) (a7 a8 a9:dE):SE:=sE (E e) [(Fd,pQ.pw a0),(Ie,ND.pw a1),(Fg,vJ.pw a2),(rR,nE.pw a3),(oP,mH.pw a4),(Ig,Da.pw a5),(Ii,NF.pw a6),(MB,fA.pw a7),(Fj,fA.pw a8),(Fk,fA.pw a9)] (kf a0 a1 a2 a3 a4 a5 a6 a7 a8 a9)
theorem kg (e:Es) (he:EG e):SEOk (bC (E e)) (Wr e mI vT zN cM yaw Bm vV CX tX xM):=bK (aK.uni _) ⟨(NC e he),(jv e he),(VG e he),(Ja e he),(tW e he),(jw e he),(jz e he),(yL5 e he),(Wa e he),(Wc e he),trivial⟩ trivial he.ok
theorem yBQ (e:Es) (a0 a1 a2 a3 a4 a5 a6 a7 a8 a9):eC (Wr e a0 a1 a2 a3 a4 a5 a6 a7 a8 a9) 5 a Sb false (ke a0 a1 a2 a3 a4 a5 a6 a7 a8 a9):=fun _=>⟨fun _=>by kernel_rfl,fun _ _=>by kernel_rfl,trivial⟩
theorem yBR (e:Es) (he:EG e):cQ (bC (E e)) (kf mI vT zN cM yaw Bm vV CX tX xM) [] 63725400 (.loop 63725400 Sb):=fun _ _ _=>bU.st (aK.uni _) (cL (kg e he) 5) (cF.no _ _) (aZ (by kernel_rfl)) (yBQ e _ _ _ _ _ _ _ _ _ _ _)
theorem yKc (e:Es) (a0 a1 a2 a3 a4 a5 a6 a7 a8 a9):bN (Wr e a0 a1 a2 a3 a4 a5 a6 a7 a8 a9) 6 Sa tV (Wq a0 a1 a2 a3 a4 a5 a6 a7 a8 a9):=fun _ _=>by kernel_rfl
theorem kh (e:Es) (he:EG e):bM (E e) (tV.pw FZ) MC:=bO he (yKc e _ _ _ _ _ _ _ _ _ _) (kg e he) bA.flat (cZ (l:=[(63725400,.loop 63725400 Sb)]) ⟨yBR e he,trivial⟩ (by kernel_rfl))
abbrev Db:Type:=Int→Ls→Ls→(Int→Ls→Ls→Prop)→Prop
def Ws (b:Int) (c d:Ls) (K:Int→Ls→Ls→Prop):Prop:=
 (aB (iY 1 c) (aA (isEmpty c) (aB (iY 1 d) (aA (isEmpty d) (K b ([]:Ls) ([]:Ls)) (aB (decide (((length d)+64)*(8+1)≤room)) (aB (decide ((length d)=(length d))) (aB (decide ((0+(length d))≤(length d))) (K b ([]:Ls) (take (length d) d))))))) (aB (decide (((length c)+64)*(8+1)≤room)) (aB (iY 1 d) (aA (isEmpty d) (aB (decide ((length c)=(length c))) (aB (decide ((0+(length c))≤(length c))) (K b (take (length c) c) ([]:Ls)))) (aB (decide (((length d)+64)*(8+1)≤room)) (aB (decide ((length c)=(length c))) (aB (decide ((0+(length c))≤(length c))) (aB (decide ((length d)=(length d))) (aB (decide ((0+(length d))≤(length d))) (K b (take (length c) c) (take (length d) d))))))))))))
def Dc:Db:=Ws
def Wt:Sg:=⟨zL,Int→Ls→Ls→Prop,fun K=>(fun r0 r1 r2=>K (.agg [(ic r0),(.data r1),(.data r2)]))⟩
def yKe (e:Es):SE:=sE (E e) [] cG
theorem yKf (e:Es):bN (yKe e) 6 X2 Wt Ws:=fun _ _=>by kernel_rfl
theorem yKg (e:Es) (he:EG e):bM (E e) (Wt.pw Dc) ME:=bO he (yKf e) (bK (aK.uni _) trivial trivial he.ok) bA.flat (aZ (by kernel_rfl))
set_option linter.unusedVariables false
theorem yFq (p0:Int) (p1 p2:Ls) (r0:Int) (h:∀ K:Int→Prop,K r0→mI p0 p1 p2 K) (K:Int→Prop):mI p0 p1 p2 K=K r0:=
 Aac ⟨fun k=>cE (NC [] fQ) (az:=[(.agg [(ic p0),(.data p1),(.data p2)])]) (x:=(ic r0)) (fun K' k'=>h (fun r0=>K' (ic r0)) k') (K:=fun x=>match x with | (ic r0)=>K r0 | _=>False) k,h K⟩
theorem yFr (p0:Int) (p1 p2:Ls) (r0:Int) (h:∀ K:Int→Prop,K r0→ya7 p0 p1 p2 K) (K:Int→Prop):ya7 p0 p1 p2 K=K r0:=
 Aac ⟨fun k=>cE (ju [] fQ) (az:=[(.agg [(ic p0),(.data p1),(.data p2)])]) (x:=(ic r0)) (fun K' k'=>h (fun r0=>K' (ic r0)) k') (K:=fun x=>match x with | (ic r0)=>K r0 | _=>False) k,h K⟩
theorem yFs (p0:Int) (p1 p2:Ls) (p3 p4 p5 p6 r0 r1 r2:Int) (h:∀ K:Int→Int→Int→Prop,K r0 r1 r2→FY p0 p1 p2 p3 p4 p5 p6 K) (K:Int→Int→Int→Prop):FY p0 p1 p2 p3 p4 p5 p6 K=K r0 r1 r2:=
 Aac ⟨fun k=>cE (kd [] fQ) (az:=[(.agg [(ic p0),(.data p1),(.data p2)]),(.agg [(ic p3),(ic p4)]),(.agg [(ic p5),(ic p6)])]) (x:=(.tup [(.agg [(ic r0),(ic r1)]),(ic r2)])) (fun K' k'=>h (fun r0 r1 r2=>K' (.tup [(.agg [(ic r0),(ic r1)]),(ic r2)])) k') (K:=fun x=>match x with | (.tup [(.agg [(ic r0),(ic r1)]),(ic r2)])=>K r0 r1 r2 | _=>False) k,h K⟩
theorem yH9 (p0:Int) (p1 p2:Ls) (p3 p4 p5 p6 r0 r1 r2:Int) (h:∀ K:Int→Int→Int→Prop,K r0 r1 r2→FZ p0 p1 p2 p3 p4 p5 p6 K) (K:Int→Int→Int→Prop):FZ p0 p1 p2 p3 p4 p5 p6 K=K r0 r1 r2:=
 Aac ⟨fun k=>cE (kh [] fQ) (az:=[(.agg [(ic p0),(.data p1),(.data p2)]),(.agg [(ic p3),(ic p4)]),(.agg [(ic p5),(ic p6)])]) (x:=(.tup [(.agg [(ic r0),(ic r1)]),(ic r2)])) (fun K' k'=>h (fun r0 r1 r2=>K' (.tup [(.agg [(ic r0),(ic r1)]),(ic r2)])) k') (K:=fun x=>match x with | (.tup [(.agg [(ic r0),(ic r1)]),(ic r2)])=>K r0 r1 r2 | _=>False) k,h K⟩
abbrev NG:Type:=Ls→(Bool→Prop)→Prop
def Ga (a0:FU) (x0:Bool→Prop) (x1:Ls→Int→Bool→Prop):Nat→Ls→Int→Prop
 | 0,_,_=>False
 | n+1,b,c=>
 (aA (decide (c<(((length b):Nat):Int))) (aB (decide (0≤c)) (aB (decide (c<(((length b):Nat):Int))) (aB (aE zK (getD b (c.toNat) .nils)) (a0 (aC (aD (getD b (c.toNat) .nils) 0)) (fW (aD (getD b (c.toNat) .nils) 1)) (fW (aD (getD b (c.toNat) .nils) 2)) (fun d=>(aA d (x0 true) (Ga a0 x0 x1 n b (i64.wrap (c+1))))))))) (x1 b c false))
def Wu (a0:FU) (b:Ls) (K:Bool→Prop):Prop:=
 (∃ n:Nat,Ga a0 K (fun c d e=>(K (decide ((((length c):Nat):Int)>10)))) n b 0)
def Gb:NG:=Wu CY
def Jh:Sg:=⟨xH,Bool→Prop,fun K=>(fun r0=>K (.bool r0))⟩
def ysW (Q:Qx):Bool→Prop:=(fun b=>Q .ret [(2,.v (.bool b))] [])
def ysX (Q:Qx):Ls→Int→Bool→Prop:=(fun b c d=>Q (.exit 0) [(0,.v (.data b)),(3,.v (ic c)),(7,.v (.bool d))] [])
def ki (a0:FU) (Q:Qx):List St:=[⟨(pS hN (fV 0 vD (fV 3 bL fN)) fN),Ga a0 (ysW Q) (ysX Q)⟩]
def kj (a0:FU):LP:=fG [(4277600,ki a0)]
def Wv (e:Es) (a0:FU):SE:=sE (E e) [(LT,Wf.pw a0)] (kj a0)
theorem kl (e:Es) (he:EG e):SEOk (bC (E e)) (Wv e CY):=bK (aK.uni _) ⟨(yHX e he),trivial⟩ trivial he.ok
theorem yrV (e:Es) (a0):eC (Wv e a0) 5 a QY false (ki a0):=fun _=>⟨fun _=>by kernel_rfl,fun _ _=>by kernel_rfl,trivial⟩
theorem yrW (e:Es) (he:EG e):cQ (bC (E e)) (kj CY) [] 4277600 (.loop 4277600 QY):=fun _ _ _=>bU.st (aK.uni _) (cL (kl e he) 5) (cF.no _ _) (aZ (by kernel_rfl)) (yrV e _ _)
theorem yyx (e:Es) (a0):bN (Wv e a0) 6 QX Jh (Wu a0):=fun _ _=>by kernel_rfl
theorem km (e:Es) (he:EG e):bM (E e) (Jh.pw Gb) LU:=bO he (yyx e _) (kl e he) bA.flat (cZ (l:=[(4277600,.loop 4277600 QY)]) ⟨yrW e he,trivial⟩ (by kernel_rfl))
def Gc (a0:cD) (x0:Int→Prop) (x1:Ls→Ls→Int→Bool→Prop):Nat→Ls→Ls→Int→Prop
 | 0,_,_,_=>False
 | n+1,b,c,d=>
 (aA (decide (d<(((length b):Nat):Int))) (aB (decide (0≤d)) (aB (decide (d<(((length b):Nat):Int))) (aB (aE zK (getD b (d.toNat) .nils)) (a0 (aC (aD (getD b (d.toNat) .nils) 0)) (fW (aD (getD b (d.toNat) .nils) 1)) (fW (aD (getD b (d.toNat) .nils) 2)) (fun e=>(aA (e !=0) (aB (decide (0≤d)) (aB (decide (d<(((length b):Nat):Int))) (aB (aE zK (getD b (d.toNat) .nils)) (a0 (aC (aD (getD b (d.toNat) .nils) 0)) (fW (aD (getD b (d.toNat) .nils) 1)) (fW (aD (getD b (d.toNat) .nils) 2)) x0)))) (Gc a0 x0 x1 n b c (i64.wrap (d+1))))))))) (x1 b c d false))
def Dd (a0:cD) (x0:Int→Prop) (x1:Ls→Ls→Int→Bool→Prop):Nat→Ls→Ls→Int→Prop
 | 0,_,_,_=>False
 | n+1,b,c,d=>
 (aA (decide (d<(((length b):Nat):Int))) (aB (decide (0≤d)) (aB (decide (d<(((length b):Nat):Int))) (aB (aE zK (getD b (d.toNat) .nils)) (aB (decide (0<(((length b):Nat):Int))) (aB (aE zK (getD b 0 .nils)) (aA ((aC (aD (getD b (d.toNat) .nils) 0)) !=(aC (aD (getD b 0 .nils) 0))) (x0 8) (Dd a0 x0 x1 n b c (i64.wrap (d+1))))))))) (x1 b c d false))
def Ww (a0:cD) (b c:Ls) (K:Int→Prop):Prop:=
 (aA (decide ((((length b):Nat):Int)>6)) (K 4) (aA (decide ((((length c):Nat):Int)>2000)) (K 4) (aA ((((length b):Nat):Int)==0) (K 8) (∃ m0:Nat,Gc a0 K (fun d e f g=>(∃ m1:Nat,Dd a0 K (fun h i j k=>(K 0)) m1 d e 0)) m0 b c 0))))
def yeN:cX:=Ww mI
def yBS (Q:Qx):Int→Prop:=(fun b=>Q .ret [(2,.v (ic b))] [])
def yBT (Q:Qx):Ls→Ls→Int→Bool→Prop:=(fun b c d e=>Q (.exit 0) [(1,.box (.agg [(.data b),(.data c)])),(3,.v (ic d)),(23,.v (.bool e))] [])
def yBU (Q:Qx):Int→Prop:=(fun b=>Q .ret [(2,.v (ic b))] [])
def yBV (Q:Qx):Ls→Ls→Int→Bool→Prop:=(fun b c d e=>Q (.exit 2) [(1,.box (.agg [(.data b),(.data c)])),(4,.v (ic d)),(43,.v (.bool e))] [])
def ko (a0:cD) (Q:Qx):List St:=[⟨(pS hN (fX 1 lO (fV 3 bL fN)) fN),Gc a0 (yBS Q) (yBT Q)⟩]
def kp (a0:cD) (Q:Qx):List St:=[⟨(pS hN (fX 1 lO pP) fN),Dd a0 (yBU Q) (yBV Q)⟩]
def Wx (a0:cD):LP:=fG [(6981300,ko a0),(6981301,kp a0)]
def NH (e:Es) (a0:cD):SE:=sE (E e) [(Fd,pQ.pw a0)] (Wx a0)
theorem Wy (e:Es) (he:EG e):SEOk (bC (E e)) (NH e mI):=bK (aK.uni _) ⟨(NC e he),trivial⟩ trivial he.ok
theorem yz7 (e:Es) (a0):eC (NH e a0) 5 a RO false (ko a0):=fun _=>⟨fun _=>by kernel_rfl,fun _ _=>by kernel_rfl,trivial⟩
theorem yz8 (e:Es) (he:EG e):cQ (bC (E e)) (Wx mI) [] 6981300 (.loop 6981300 RO):=fun _ _ _=>bU.st (aK.uni _) (cL (Wy e he) 5) (cF.no _ _) (aZ (by kernel_rfl)) (yz7 e _ _)
theorem yz9 (e:Es) (a0):eC (NH e a0) 5 a RP false (kp a0):=fun _=>⟨fun _=>by kernel_rfl,fun _ _=>by kernel_rfl,trivial⟩
theorem yAa (e:Es) (he:EG e):cQ (bC (E e)) (Wx mI) [] 6981301 (.loop 6981301 RP):=fun _ _ _=>bU.st (aK.uni _) (cL (Wy e he) 5) (cF.no _ _) (aZ (by kernel_rfl)) (yz9 e _ _)
theorem yIa (e:Es) (a0):bN (NH e a0) 6 MX nW (Ww a0):=fun _ _=>by kernel_rfl
theorem Wz (e:Es) (he:EG e):bM (E e) (nW.pw yeN) Ib:=bO he (yIa e _) (Wy e he) bA.flat (cZ (l:=[(6981300,.loop 6981300 RO),(6981301,.loop 6981301 RP)]) ⟨yz8 e he,yAa e he,trivial⟩ (by kernel_rfl))
def WA (b c:Ls) (d:Int) (K:Bool→Prop):Prop:=
 (aA (decide (d≥0)) (K (decide (d<(((length b):Nat):Int)))) (K false))
def NI:xK:=WA
def yIb (e:Es):SE:=sE (E e) [] cG
theorem yIc (e:Es):bN (yIb e) 6 V2 Bi WA:=fun _ _=>by kernel_rfl
theorem yId (e:Es) (he:EG e):bM (E e) (Bi.pw NI) Mv:=bO he (yIc e) (bK (aK.uni _) trivial trivial he.ok) bA.flat (aZ (by kernel_rfl))
abbrev WB:Type:=Ls→J4 (J4 ((Int→Int→Int→Prop)→Prop))
def WD (a0 a1:xI) (b:Ls) (c d e f g h i j:Int) (K:Int→Int→Int→Prop):Prop:=
 (aA (d==1) (aB (decide (0≤c)) (aB (decide (c<(((length b):Nat):Int))) (aB (aE zK (getD b (c.toNat) .nils)) (a0 (aC (aD (getD b (c.toNat) .nils) 0)) (fW (aD (getD b (c.toNat) .nils) 1)) (fW (aD (getD b (c.toNat) .nils) 2)) e f g h K)))) (aB (decide (0≤c)) (aB (decide (c<(((length b):Nat):Int))) (aB (aE zK (getD b (c.toNat) .nils)) (a1 (aC (aD (getD b (c.toNat) .nils) 0)) (fW (aD (getD b (c.toNat) .nils) 1)) (fW (aD (getD b (c.toNat) .nils) 2)) e f g h K)))))
def NJ:WB:=WD FY FZ
def De:jN:=lC bL (lC bL (lC bL (lC bL IJ)))
def Ji:jN:=lC (vA (lC bL (lC (vI u8) De))) lN
def WE:Sg:=⟨(lC vD Ji),Int→Int→Int→Prop,fun K=>(fun r0 r1 r2=>K (.tup [(.agg [(ic r0),(ic r1)]),(ic r2)]))⟩
def yFu (e:Es) (a0 a1:xI):SE:=sE (E e) [(MA,tV.pw a0),(MC,tV.pw a1)] cG
theorem yFv (e:Es) (a0 a1):bN (yFu e a0 a1) 6 W9 WE (WD a0 a1):=fun _ _=>by kernel_rfl
theorem yFw (e:Es) (he:EG e):bM (E e) (WE.pw NJ) MD:=bO he (yFv e _ _) (bK (aK.uni _) ⟨(kd e he),(kh e he),trivial⟩ trivial he.ok) bA.flat (aZ (by kernel_rfl))
mutual
def NK (a0:Db) (x0:Ls→Ls→Int→Bool→Prop) (x1:Ls→Int→Bool→Prop):Nat→Ls→Int→Prop
 | 0,_,_=>False
 | n+1,b,c=>
 (aA (decide (c<(((length b):Nat):Int))) (aB (decide (0≤c)) (aB (decide (c<(((length b):Nat):Int))) (aB (aE zK (getD b (c.toNat) .nils)) (a0 (aC (aD (getD b (c.toNat) .nils) 0)) (fW (aD (getD b (c.toNat) .nils) 1)) (fW (aD (getD b (c.toNat) .nils) 2)) (fun d e f=>(aB (decide (1=length ([(.agg [(ic d),(.data e),(.data f)])]:Ls))&&decide (1=length ([(.agg [(ic d),(.data e),(.data f)])]:Ls))) (Gd a0 x0 x1 n ([(.agg [(ic d),(.data e),(.data f)])]:Ls) b (i64.wrap (c+1))))))))) (x1 b c false))
def Gd (a0:Db) (x0:Ls→Ls→Int→Bool→Prop) (x1:Ls→Int→Bool→Prop):Nat→Ls→Ls→Int→Prop
 | 0,_,_,_=>False
 | n+1,b,c,d=>
 (aA (decide (d<(((length c):Nat):Int))) (aB (decide (0≤d)) (aB (decide (d<(((length c):Nat):Int))) (aB (aE zK (getD c (d.toNat) .nils)) (a0 (aC (aD (getD c (d.toNat) .nils) 0)) (fW (aD (getD c (d.toNat) .nils) 1)) (fW (aD (getD c (d.toNat) .nils) 2)) (fun e f g=>(aB (decide ((length b)=(length b))) (aB (decide ((0+(length b))≤(length b))) (aB (!(decide (((0+(length b))+1)≤(length b)))) (aB (decide ((length b)=(length b))) (aB (decide ((((length b)+1)+64)*(56+1)≤room)) (aB (decide ((length (b++([(.agg [(ic e),(.data f),(.data g)])]:Ls)))=length (b++([(.agg [(ic e),(.data f),(.data g)])]:Ls)))&&decide ((length (b++([(.agg [(ic e),(.data f),(.data g)])]:Ls)))=length (b++([(.agg [(ic e),(.data f),(.data g)])]:Ls)))) (Gd a0 x0 x1 n (b++([(.agg [(ic e),(.data f),(.data g)])]:Ls)) c (i64.wrap (d+1)))))))))))))) (x0 b c d false))
end
def WF (a0:Db) (b:Ls) (K:Ls→Prop):Prop:=
 (∃ n:Nat,NK a0 (fun c d e f=>(aB (decide ((length c)=(length c))) (aB (decide ((0+(length c))≤(length c))) (K (take (length c) c))))) (fun c d e=>(K ([]:Ls))) n b 0)
def Ge:gJ:=WF Dc
def kr (Q:Qx):Ls→Ls→Int→Bool→Prop:=(fun b c d e=>Q (.exit 0) [(0,.v (.data c)),(3,.v (.own 0 0 (length b) (length b) none)),(4,.v (ic d)),(8,.v (.bool e))] [⟨false,true,3,b⟩])
def kt (Q:Qx):Ls→Int→Bool→Prop:=(fun b c d=>Q (.exit 0) [(0,.v (.data b)),(3,.v .nils),(4,.v (ic c)),(8,.v (.bool d))] [])
def ku (a0:Db) (Q:Qx):List St:=[⟨(pS hN (fV 0 vD (fV 3 oO pP)) fN),NK a0 (kr Q) (kt Q)⟩,⟨(pS (hB false true 3 rA hN) (fV 0 vD (fV 3 nU pP)) fN),Gd a0 (kr Q) (kt Q)⟩]
def kv (a0:Db):LP:=fG [(44560800,ku a0)]
def WG (e:Es) (a0:Db):SE:=sE (E e) [(ME,Wt.pw a0)] (kv a0)
theorem kw (e:Es) (he:EG e):SEOk (bC (E e)) (WG e Dc):=bK (aK.uni _) ⟨(yKg e he),trivial⟩ trivial he.ok
theorem yAb (e:Es) (a0):eC (WG e a0) 5 a Sd false (ku a0):=fun _=>⟨fun _=>by kernel_rfl,fun _ _=>by kernel_rfl,fun _=>by kernel_rfl,fun _ _=>by kernel_rfl,trivial⟩
theorem yAc (e:Es) (he:EG e):cQ (bC (E e)) (kv Dc) [] 44560800 (.loop 44560800 Sd):=fun _ _ _=>bU.st (aK.uni _) (cL (kw e he) 5) (cF.no _ _) (aZ (by kernel_rfl)) (yAb e _ _)
theorem yIe (e:Es) (a0):bN (WG e a0) 6 Sc oU (WF a0):=fun _ _=>by kernel_rfl
theorem kx (e:Es) (he:EG e):bM (E e) (oU.pw Ge) MF:=bO he (yIe e _) (kw e he) bA.flat (cZ (l:=[(44560800,.loop 44560800 Sd)]) ⟨yAc e he,trivial⟩ (by kernel_rfl))
abbrev Jj:Type:=Ls→Ls→J4 (J4 ((Ls→Ls→Int→Int→Int→Prop)→Prop))
def WH (a0:cX) (a1:xK) (a2:WB) (a3:gJ) (b c:Ls) (d e f g h i j k:Int) (K:Ls→Ls→Int→Int→Int→Prop):Prop:=
 (a0 b c (fun l=>(aA (l !=0) (a0 b c (fun m=>(K ([]:Ls) ([]:Ls) 0 0 m))) (a1 b c d (fun m=>(aA (!m) (K ([]:Ls) ([]:Ls) 0 0 2) (a2 b d e f g h i j k (fun o p q=>(aA (q !=0) (K ([]:Ls) ([]:Ls) 0 0 q) (aA ((((length c):Nat):Int)==2000) (K ([]:Ls) ([]:Ls) 0 0 4) (a3 b (fun r=>(aB (iY 8 c) (aA (isEmpty c) (K r ([(.agg [(ic d),(.int .u8 e),(ic f),(ic g),(ic h),(ic i),(ic o),(ic p)])]:Ls) o p 0) (aB (decide (((length c)+64)*(64+1)≤room)) (aB (decide ((length c)=(length c))) (aB (decide ((0+(length c))≤(length c))) (aB (!(decide (((0+(length c))+1)≤(length c)))) (aB (decide ((length c)=(length c))) (aB (decide ((((length c)+1)+64)*(64+1)≤room)) (aB (decide ((length (c++([(.agg [(ic d),(.int .u8 e),(ic f),(ic g),(ic h),(ic i),(ic o),(ic p)])]:Ls)))=(length (c++([(.agg [(ic d),(.int .u8 e),(ic f),(ic g),(ic h),(ic i),(ic o),(ic p)])]:Ls))))) (aB (decide ((0+(length (c++([(.agg [(ic d),(.int .u8 e),(ic f),(ic g),(ic h),(ic i),(ic o),(ic p)])]:Ls))))≤(length (c++([(.agg [(ic d),(.int .u8 e),(ic f),(ic g),(ic h),(ic i),(ic o),(ic p)])]:Ls))))) (K r (take (length (c++([(.agg [(ic d),(.int .u8 e),(ic f),(ic g),(ic h),(ic i),(ic o),(ic p)])]:Ls))) (c++([(.agg [(ic d),(.int .u8 e),(ic f),(ic g),(ic h),(ic i),(ic o),(ic p)])]:Ls))) o p 0)))))))))))))))))))))))
def Df:Jj:=WH yeN NI NJ Ge
def NL:Sg:=⟨(lC lO Ji),Ls→Ls→Int→Int→Int→Prop,fun K=>(fun r0 r1 r2 r3 r4=>K (.tup [(.agg [(.data r0),(.data r1)]),(.agg [(ic r2),(ic r3)]),(ic r4)]))⟩
def yIg (e:Es) (a0:cX) (a1:xK) (a2:WB) (a3:gJ):SE:=sE (E e) [(Ib,nW.pw a0),(Mv,Bi.pw a1),(MD,WE.pw a2),(MF,oU.pw a3)] cG
theorem yIh (e:Es) (a0 a1 a2 a3):bN (yIg e a0 a1 a2 a3) 6 X4 NL (WH a0 a1 a2 a3):=fun _ _=>by kernel_rfl
theorem WI (e:Es) (he:EG e):bM (E e) (NL.pw Df) Ij:=bO he (yIh e _ _ _ _) (bK (aK.uni _) ⟨(Wz e he),(yId e he),(yFw e he),(kx e he),trivial⟩ trivial he.ok) bA.flat (aZ (by kernel_rfl))
def WJ (a0:Jj) (b c:Ls) (d e f g h:Int) (K:Ls→Ls→Int→Int→Int→Prop):Prop:=
 (a0 b c d 2 e f g h 0 0 K)
def Gf:gU:=WJ Df
def yKh (e:Es) (a0:Jj):SE:=sE (E e) [(Ij,NL.pw a0)] cG
theorem yKi (e:Es) (a0):bN (yKh e a0) 6 X5 pY (WJ a0):=fun _ _=>by kernel_rfl
theorem yKj (e:Es) (he:EG e):bM (E e) (pY.pw Gf) MG:=bO he (yKi e _) (bK (aK.uni _) ⟨(WI e he),trivial⟩ trivial he.ok) bA.flat (aZ (by kernel_rfl))
def WK (a0:Jj) (b c:Ls) (d e f g h:Int) (K:Ls→Ls→Int→Int→Int→Prop):Prop:=
 (a0 b c d 1 e f g h 0 0 K)
def Dg:gU:=WK Df
def yIi (e:Es) (a0:Jj):SE:=sE (E e) [(Ij,NL.pw a0)] cG
theorem yIj (e:Es) (a0):bN (yIi e a0) 6 X7 pY (WK a0):=fun _ _=>by kernel_rfl
theorem yIk (e:Es) (he:EG e):bM (E e) (pY.pw Dg) MH:=bO he (yIj e _) (bK (aK.uni _) ⟨(WI e he),trivial⟩ trivial he.ok) bA.flat (aZ (by kernel_rfl))
abbrev xN:Type:=Ls→Ls→(Bool→Prop)→Prop
def Dh (x0:Bool→Prop) (x1:Ls→Ls→Int→Bool→Prop):Nat→Ls→Ls→Int→Prop
 | 0,_,_,_=>False
 | n+1,b,c,d=>
 (aA (decide (d<(((length b):Nat):Int))) (aB (decide (0≤d)) (aB (decide (d<(((length b):Nat):Int))) (aB (aE (.agg [.i .i64,.i .u8,.i .i64,.i .i64,.i .i64,.i .i64,.i .i64,.i .i64]) (getD b (d.toNat) .nils)) (aB (decide (0≤d)) (aB (decide (d<(((length c):Nat):Int))) (aB (aE (.agg [.i .i64,.i .u8,.i .i64,.i .i64,.i .i64,.i .i64,.i .i64,.i .i64]) (getD c (d.toNat) .nils)) (aA (!(((aC (aD (getD b (d.toNat) .nils) 0)) ==(aC (aD (getD c (d.toNat) .nils) 0)))&&(((aC (aD (getD b (d.toNat) .nils) 1)) ==(aC (aD (getD c (d.toNat) .nils) 1)))&&(((aC (aD (getD b (d.toNat) .nils) 2)) ==(aC (aD (getD c (d.toNat) .nils) 2)))&&(((aC (aD (getD b (d.toNat) .nils) 3)) ==(aC (aD (getD c (d.toNat) .nils) 3)))&&(((aC (aD (getD b (d.toNat) .nils) 4)) ==(aC (aD (getD c (d.toNat) .nils) 4)))&&(((aC (aD (getD b (d.toNat) .nils) 5)) ==(aC (aD (getD c (d.toNat) .nils) 5)))&&(((aC (aD (getD b (d.toNat) .nils) 6)) ==(aC (aD (getD c (d.toNat) .nils) 6)))&&(((aC (aD (getD b (d.toNat) .nils) 7)) ==(aC (aD (getD c (d.toNat) .nils) 7)))&&true))))))))) (x0 false) (Dh x0 x1 n b c (i64.wrap (d+1)))))))))) (x1 b c d false))
def WL (b c:Ls) (K:Bool→Prop):Prop:=
 (aA ((((length b):Nat):Int) !=(((length c):Nat):Int)) (K false) (∃ n:Nat,Dh K (fun d e f g=>(K true)) n b c 0))
def Bn:xN:=WL
def Gg:Sg:=⟨vL,Bool→Prop,fun K=>(fun r0=>K (.bool r0))⟩
def ywT (Q:Qx):Bool→Prop:=(fun b=>Q .ret [(4,.v (.bool b))] [])
def ywU (Q:Qx):Ls→Ls→Int→Bool→Prop:=(fun b c d e=>Q (.exit 0) [(0,.v (.data b)),(1,.v (.data c)),(5,.v (ic d)),(14,.v (.bool e))] [])
def Jk:Pat rQ:=pS hN (fV 0 vD (fV 1 vD (fV 5 bL fN))) fN
def ky (Q:Qx):List St:=[⟨Jk,Dh (ywT Q) (ywU Q)⟩]
def kz:LP:=fG [(11728400,ky)]
def WM (e:Es):SE:=sE (E e) [] (kz)
theorem lc (e:Es) (he:EG e):SEOk (bC (E e)) (WM e):=bK (aK.uni _) trivial trivial he.ok
theorem yum (e:Es):eC (WM e) 5 a TT false (ky):=fun _=>⟨fun _=>by kernel_rfl,fun _ _=>by kernel_rfl,trivial⟩
theorem yun (e:Es) (he:EG e):cQ (bC (E e)) (kz) [] 11728400 (.loop 11728400 TT):=fun _ _ _=>bU.st (aK.uni _) (cL (lc e he) 5) (cF.no _ _) (aZ (by kernel_rfl)) (yum e _)
theorem yBW (e:Es):bN (WM e) 6 TS Gg WL:=fun _ _=>by kernel_rfl
theorem ld (e:Es) (he:EG e):bM (E e) (Gg.pw Bn) MR:=bO he (yBW e) (lc e he) bA.flat (cZ (l:=[(11728400,.loop 11728400 TT)]) ⟨yun e he,trivial⟩ (by kernel_rfl))
set_option linter.unusedVariables false
theorem ywV (p0:Ls) (r0:Bool) (h:∀ K:Bool→Prop,K r0→Gb p0 K) (K:Bool→Prop):Gb p0 K=K r0:=
 Aac ⟨fun k=>cE (km [] fQ) (az:=[(.data p0)]) (x:=(.bool r0)) (fun K' k'=>h (fun r0=>K' (.bool r0)) k') (K:=fun x=>match x with | (.bool r0)=>K r0 | _=>False) k,h K⟩
theorem yFx (p0 p1:Ls) (r0:Int) (h:∀ K:Int→Prop,K r0→yeN p0 p1 K) (K:Int→Prop):yeN p0 p1 K=K r0:=
 Aac ⟨fun k=>cE (Wz [] fQ) (az:=[(.agg [(.data p0),(.data p1)])]) (x:=(ic r0)) (fun K' k'=>h (fun r0=>K' (ic r0)) k') (K:=fun x=>match x with | (ic r0)=>K r0 | _=>False) k,h K⟩
theorem yFy (p0 r0:Ls) (h:∀ K:Ls→Prop,K r0→Ge p0 K) (K:Ls→Prop):Ge p0 K=K r0:=
 Aac ⟨fun k=>cE (kx [] fQ) (az:=[(.data p0)]) (x:=(.data r0)) (fun K' k'=>h (fun r0=>K' (.data r0)) k') (K:=fun x=>match x with | (.data r0)=>K r0 | _=>False) k,h K⟩
theorem yFz (p0 p1:Ls) (p2 p3 p4 p5 p6 p7 p8 p9:Int) (r0 r1:Ls) (r2 r3 r4:Int) (h:∀ K:Ls→Ls→Int→Int→Int→Prop,K r0 r1 r2 r3 r4→Df p0 p1 p2 p3 p4 p5 p6 p7 p8 p9 K) (K:Ls→Ls→Int→Int→Int→Prop):Df p0 p1 p2 p3 p4 p5 p6 p7 p8 p9 K=K r0 r1 r2 r3 r4:=
 Aac ⟨fun k=>cE (WI [] fQ) (az:=[(.agg [(.data p0),(.data p1)]),(.agg [(ic p2),(.int .u8 p3),(ic p4),(ic p5),(ic p6),(ic p7),(ic p8),(ic p9)])]) (x:=(.tup [(.agg [(.data r0),(.data r1)]),(.agg [(ic r2),(ic r3)]),(ic r4)])) (fun K' k'=>h (fun r0 r1 r2 r3 r4=>K' (.tup [(.agg [(.data r0),(.data r1)]),(.agg [(ic r2),(ic r3)]),(ic r4)])) k') (K:=fun x=>match x with | (.tup [(.agg [(.data r0),(.data r1)]),(.agg [(ic r2),(ic r3)]),(ic r4)])=>K r0 r1 r2 r3 r4 | _=>False) k,h K⟩
theorem yAd (p0 p1:Ls) (r0:Bool) (h:∀ K:Bool→Prop,K r0→Bn p0 p1 K) (K:Bool→Prop):Bn p0 p1 K=K r0:=
 Aac ⟨fun k=>cE (ld [] fQ) (az:=[(.data p0),(.data p1)]) (x:=(.bool r0)) (fun K' k'=>h (fun r0=>K' (.bool r0)) k') (K:=fun x=>match x with | (.bool r0)=>K r0 | _=>False) k,h K⟩
def WN (a0:gS) (a1:bH) (b c d e:Int) (K:Bool→Prop):Prop:=
 (jn (fun (a:Bool→Prop)=>(a0 b c d e (fun f=>(aA (f==0) (a1 b c d e a) (a false))))) K)
def yaB:bH:=WN Bk yaw
def yIl (e:Es) (a0:gS) (a1:bH):SE:=sE (E e) [(AY,nD.pw a0),(oP,mH.pw a1)] cG
theorem yIm (e:Es) (a0 a1):bN (yIl e a0 a1) 6 cw CP (WN a0 a1):=fun _ _=>by kernel_rfl
theorem lf (e:Es) (he:EG e):bM (E e) (CP.pw yaB) Ik:=bO he (yIm e _ _) (bK (aK.uni _) ⟨(Jc e he),(tW e he),trivial⟩ trivial he.ok) bA.flat (aZ (by kernel_rfl))
abbrev Di:Type:=Ls→Ls→(Ls→Prop)→Prop
mutual
def Jl (a0:bH) (x0:Int→Int→Int→Bool→Prop) (x1:Ls→Int→Int→Int→Bool→Prop) (x2:Ls→Prop):Nat→Int→Int→Int→Prop
 | 0,_,_,_=>False
 | n+1,b,c,d=>
 (aA (decide (d<0)) False (x0 b c d false))
def tY (a0:bH) (x0:Int→Int→Int→Bool→Prop) (x1:Ls→Int→Int→Int→Bool→Prop) (x2:Ls→Prop):Nat→Ls→Int→Int→Int→Prop
 | 0,_,_,_,_=>False
 | n+1,b,c,d,e=>
 (aA (decide (e<(((length b):Nat):Int))) (aB (decide (0≤e)) (aB (decide (e<(((length b):Nat):Int))) (aB (decide ((length b)=(length b))) (aB (decide ((0+(e.toNat))<(length b))) (lt (getD b (0+(e.toNat)) .nils) (fun f=>(aB (aE z2 f) (aA (((aC (aD f 0))==c)&&(((aC (aD f 1))==d)&&true)) (x2 b) (lt (i64.wrap (e+1)) (fun g=>(aB (decide ((length b)=length b)&&decide ((length b)=length b)) (tY a0 x0 x1 x2 n b c d g)))))))))))) (x1 b c d e false))
end
def lB (a0:bH) (x0:Ls→Int→Bool→Prop):Nat→Ls→Int→Prop
 | 0,_,_=>False
 | n+1,b,c=>
 (jn (fun (a:Bool→Prop)=>(aA (decide (c>0)) (aB (decide (0≤c)) (aB (decide (c<(((length b):Nat):Int))) (aB (decide ((length b)=(length b))) (aB (decide ((0+(c.toNat))<(length b))) (lt (getD b (0+(c.toNat)) .nils) (fun d=>(aB (aE z2 d) (lt (i64.wrap (c-1)) (fun e=>(aB (decide (0≤e)) (aB (decide (e<(((length b):Nat):Int))) (aB (decide ((length b)=(length b))) (aB (decide ((0+(e.toNat))<(length b))) (lt (getD b (0+(e.toNat)) .nils) (fun f=>(aB (aE z2 f) (a0 (aC (aD d 0)) (aC (aD d 1)) (aC (aD f 0)) (aC (aD f 1)) a))))))))))))))))) (a false))) (fun d=>(aA d (lt (i64.wrap (c-1)) (fun e=>(aB (decide (0≤c)) (aB (decide (c<(((length b):Nat):Int))) (aB (decide ((length b)=(length b))) (aB (decide ((0+(c.toNat))<(length b))) (lt (getD b (0+(c.toNat)) .nils) (fun f=>(aB (aE z2 f) (lt (i64.wrap (c-1)) (fun g=>(aB (decide (0≤g)) (aB (decide (g<(((length b):Nat):Int))) (aB (decide ((length b)=(length b))) (aB (decide ((0+(g.toNat))<(length b))) (lt (getD b (0+(g.toNat)) .nils) (fun h=>(aB (aE z2 h) (aB (decide (0≤e)) (aB (decide (e<(((length b):Nat):Int))) (aB (decide ((length b)=(length b))) (aB (decide ((0+(e.toNat))<(length b))) (lt (getD b (0+(e.toNat)) .nils) (fun i=>(aB (aE z2 i) (aB (decide (0≤c)) (aB (decide (c<(((length b):Nat):Int))) (aB (decide ((length (set b (0+(e.toNat)) (.agg [(ic (aC (aD f 0))),(ic (aC (aD f 1)))])))=(length b))) (aB (decide ((0+(c.toNat))<(length (set b (0+(e.toNat)) (.agg [(ic (aC (aD f 0))),(ic (aC (aD f 1)))]))))) (lt (getD (set b (0+(e.toNat)) (.agg [(ic (aC (aD f 0))),(ic (aC (aD f 1)))])) (0+(c.toNat)) .nils) (fun j=>(aB (aE z2 j) (lt (i64.wrap (c-1)) (fun k=>(aB (decide ((length b)=length (set (set b (0+(e.toNat)) (.agg [(ic (aC (aD f 0))),(ic (aC (aD f 1)))])) (0+(c.toNat)) (.agg [(ic (aC (aD h 0))),(ic (aC (aD h 1)))])))&&decide ((length b)=length (set (set b (0+(e.toNat)) (.agg [(ic (aC (aD f 0))),(ic (aC (aD f 1)))])) (0+(c.toNat)) (.agg [(ic (aC (aD h 0))),(ic (aC (aD h 1)))])))) (lB a0 x0 n (set (set b (0+(e.toNat)) (.agg [(ic (aC (aD f 0))),(ic (aC (aD f 1)))])) (0+(c.toNat)) (.agg [(ic (aC (aD h 0))),(ic (aC (aD h 1)))])) k)))))))))))))))))))))))))))))))))))) (x0 b c false))))
mutual
def Jm (a0:bH) (x0:Ls→Int→Bool→Prop) (x1:Ls→Ls→Int→Bool→Prop):Nat→Ls→Int→Prop
 | 0,_,_=>False
 | n+1,b,c=>
 (aA (decide (c<(((length b):Nat):Int))) (aB (decide (0≤c)) (aB (decide (c<(((length b):Nat):Int))) (lt (getD b (c.toNat) .nils) (fun d=>(aB (aE z4 d) (jn (fun (a:Ls→Prop)=>(∃ m0:Nat,Jl a0 (fun e f g h=>(aB (decide (1=length ([(.agg [(ic e),(ic f)])]:Ls))&&decide (1=length ([(.agg [(ic e),(ic f)])]:Ls))) (∃ m1:Nat,lB a0 (fun i j k=>(a i)) m1 ([(.agg [(ic e),(ic f)])]:Ls) 0))) (fun e f g h i=>(aB (decide ((length e)=(length e))) (aB (decide ((0+(length e))≤(length e))) (aB (!(decide (((0+(length e))+1)≤(length e)))) (aB (decide ((length e)=(length e))) (aB (decide ((((length e)+1)+64)*(16+1)≤room)) (lt (i64.wrap ((((length (e++([(.agg [(ic f),(ic g)])]:Ls))):Nat):Int)-1)) (fun j=>(aB (decide ((length (e++([(.agg [(ic f),(ic g)])]:Ls)))=length (e++([(.agg [(ic f),(ic g)])]:Ls)))&&decide ((length (e++([(.agg [(ic f),(ic g)])]:Ls)))=length (e++([(.agg [(ic f),(ic g)])]:Ls)))) (∃ m1:Nat,lB a0 (fun k l m=>(a k)) m1 (e++([(.agg [(ic f),(ic g)])]:Ls)) j)))))))))) a m0 (aC (aD d 0)) (aC (aD d 1)) 0)) (fun e=>(aB (decide (0≤c)) (aB (decide (c<(((length b):Nat):Int))) (lt (getD b (c.toNat) .nils) (fun f=>(aB (aE z4 f) (jn (fun (q:Ls→Prop)=>(aB (decide ((length e)=length e)&&decide ((length e)=length e)) (∃ m0:Nat,tY a0 (fun g h i j=>(aB (decide (1=length ([(.agg [(ic g),(ic h)])]:Ls))&&decide (1=length ([(.agg [(ic g),(ic h)])]:Ls))) (∃ m1:Nat,lB a0 (fun k l m=>(q k)) m1 ([(.agg [(ic g),(ic h)])]:Ls) 0))) (fun g h i j k=>(aB (decide ((length g)=(length g))) (aB (decide ((0+(length g))≤(length g))) (aB (!(decide (((0+(length g))+1)≤(length g)))) (aB (decide ((length g)=(length g))) (aB (decide ((((length g)+1)+64)*(16+1)≤room)) (lt (i64.wrap ((((length (g++([(.agg [(ic h),(ic i)])]:Ls))):Nat):Int)-1)) (fun l=>(aB (decide ((length (g++([(.agg [(ic h),(ic i)])]:Ls)))=length (g++([(.agg [(ic h),(ic i)])]:Ls)))&&decide ((length (g++([(.agg [(ic h),(ic i)])]:Ls)))=length (g++([(.agg [(ic h),(ic i)])]:Ls)))) (∃ m1:Nat,lB a0 (fun m o p=>(q m)) m1 (g++([(.agg [(ic h),(ic i)])]:Ls)) l)))))))))) q m0 e (aC (aD f 2)) (aC (aD f 3)) 0))) (fun g=>(lt (i64.wrap (c+1)) (fun h=>(aB (decide ((length g)=length g)&&decide ((length g)=length g)) (zU a0 x0 x1 n g b h)))))))))))))))))) (x0 b c false))
def zU (a0:bH) (x0:Ls→Int→Bool→Prop) (x1:Ls→Ls→Int→Bool→Prop):Nat→Ls→Ls→Int→Prop
 | 0,_,_,_=>False
 | n+1,b,c,d=>
 (aA (decide (d<(((length c):Nat):Int))) (aB (decide (0≤d)) (aB (decide (d<(((length c):Nat):Int))) (lt (getD c (d.toNat) .nils) (fun e=>(aB (aE z4 e) (jn (fun (a:Ls→Prop)=>(aB (decide ((length b)=length b)&&decide ((length b)=length b)) (∃ m0:Nat,tY a0 (fun f g h i=>(aB (decide (1=length ([(.agg [(ic f),(ic g)])]:Ls))&&decide (1=length ([(.agg [(ic f),(ic g)])]:Ls))) (∃ m1:Nat,lB a0 (fun j k l=>(a j)) m1 ([(.agg [(ic f),(ic g)])]:Ls) 0))) (fun f g h i j=>(aB (decide ((length f)=(length f))) (aB (decide ((0+(length f))≤(length f))) (aB (!(decide (((0+(length f))+1)≤(length f)))) (aB (decide ((length f)=(length f))) (aB (decide ((((length f)+1)+64)*(16+1)≤room)) (lt (i64.wrap ((((length (f++([(.agg [(ic g),(ic h)])]:Ls))):Nat):Int)-1)) (fun k=>(aB (decide ((length (f++([(.agg [(ic g),(ic h)])]:Ls)))=length (f++([(.agg [(ic g),(ic h)])]:Ls)))&&decide ((length (f++([(.agg [(ic g),(ic h)])]:Ls)))=length (f++([(.agg [(ic g),(ic h)])]:Ls)))) (∃ m1:Nat,lB a0 (fun l m o=>(a l)) m1 (f++([(.agg [(ic g),(ic h)])]:Ls)) k)))))))))) a m0 b (aC (aD e 0)) (aC (aD e 1)) 0))) (fun f=>(aB (decide (0≤d)) (aB (decide (d<(((length c):Nat):Int))) (lt (getD c (d.toNat) .nils) (fun g=>(aB (aE z4 g) (jn (fun (r:Ls→Prop)=>(aB (decide ((length f)=length f)&&decide ((length f)=length f)) (∃ m0:Nat,tY a0 (fun h i j k=>(aB (decide (1=length ([(.agg [(ic h),(ic i)])]:Ls))&&decide (1=length ([(.agg [(ic h),(ic i)])]:Ls))) (∃ m1:Nat,lB a0 (fun l m o=>(r l)) m1 ([(.agg [(ic h),(ic i)])]:Ls) 0))) (fun h i j k l=>(aB (decide ((length h)=(length h))) (aB (decide ((0+(length h))≤(length h))) (aB (!(decide (((0+(length h))+1)≤(length h)))) (aB (decide ((length h)=(length h))) (aB (decide ((((length h)+1)+64)*(16+1)≤room)) (lt (i64.wrap ((((length (h++([(.agg [(ic i),(ic j)])]:Ls))):Nat):Int)-1)) (fun m=>(aB (decide ((length (h++([(.agg [(ic i),(ic j)])]:Ls)))=length (h++([(.agg [(ic i),(ic j)])]:Ls)))&&decide ((length (h++([(.agg [(ic i),(ic j)])]:Ls)))=length (h++([(.agg [(ic i),(ic j)])]:Ls)))) (∃ m1:Nat,lB a0 (fun o p q=>(r o)) m1 (h++([(.agg [(ic i),(ic j)])]:Ls)) m)))))))))) r m0 f (aC (aD g 2)) (aC (aD g 3)) 0))) (fun h=>(lt (i64.wrap (d+1)) (fun i=>(aB (decide ((length h)=length h)&&decide ((length h)=length h)) (zU a0 x0 x1 n h c i)))))))))))))))))) (x1 b c d false))
end
mutual
def Jn (a0:bH) (x0:Ls→Ls→Int→Bool→Prop) (x1:Ls→Ls→Ls→Int→Bool→Prop):Nat→Ls→Ls→Int→Prop
 | 0,_,_,_=>False
 | n+1,b,c,d=>
 (aA (decide (d<(((length b):Nat):Int))) (aB (decide (0≤d)) (aB (decide (d<(((length b):Nat):Int))) (lt (getD b (d.toNat) .nils) (fun e=>(aB (aE z4 e) (jn (fun (a:Ls→Prop)=>(∃ m0:Nat,Jl a0 (fun f g h i=>(aB (decide (1=length ([(.agg [(ic f),(ic g)])]:Ls))&&decide (1=length ([(.agg [(ic f),(ic g)])]:Ls))) (∃ m1:Nat,lB a0 (fun j k l=>(a j)) m1 ([(.agg [(ic f),(ic g)])]:Ls) 0))) (fun f g h i j=>(aB (decide ((length f)=(length f))) (aB (decide ((0+(length f))≤(length f))) (aB (!(decide (((0+(length f))+1)≤(length f)))) (aB (decide ((length f)=(length f))) (aB (decide ((((length f)+1)+64)*(16+1)≤room)) (lt (i64.wrap ((((length (f++([(.agg [(ic g),(ic h)])]:Ls))):Nat):Int)-1)) (fun k=>(aB (decide ((length (f++([(.agg [(ic g),(ic h)])]:Ls)))=length (f++([(.agg [(ic g),(ic h)])]:Ls)))&&decide ((length (f++([(.agg [(ic g),(ic h)])]:Ls)))=length (f++([(.agg [(ic g),(ic h)])]:Ls)))) (∃ m1:Nat,lB a0 (fun l m o=>(a l)) m1 (f++([(.agg [(ic g),(ic h)])]:Ls)) k)))))))))) a m0 (aC (aD e 0)) (aC (aD e 1)) 0)) (fun f=>(aB (decide (0≤d)) (aB (decide (d<(((length b):Nat):Int))) (lt (getD b (d.toNat) .nils) (fun g=>(aB (aE z4 g) (jn (fun (r:Ls→Prop)=>(aB (decide ((length f)=length f)&&decide ((length f)=length f)) (∃ m0:Nat,tY a0 (fun h i j k=>(aB (decide (1=length ([(.agg [(ic h),(ic i)])]:Ls))&&decide (1=length ([(.agg [(ic h),(ic i)])]:Ls))) (∃ m1:Nat,lB a0 (fun l m o=>(r l)) m1 ([(.agg [(ic h),(ic i)])]:Ls) 0))) (fun h i j k l=>(aB (decide ((length h)=(length h))) (aB (decide ((0+(length h))≤(length h))) (aB (!(decide (((0+(length h))+1)≤(length h)))) (aB (decide ((length h)=(length h))) (aB (decide ((((length h)+1)+64)*(16+1)≤room)) (lt (i64.wrap ((((length (h++([(.agg [(ic i),(ic j)])]:Ls))):Nat):Int)-1)) (fun m=>(aB (decide ((length (h++([(.agg [(ic i),(ic j)])]:Ls)))=length (h++([(.agg [(ic i),(ic j)])]:Ls)))&&decide ((length (h++([(.agg [(ic i),(ic j)])]:Ls)))=length (h++([(.agg [(ic i),(ic j)])]:Ls)))) (∃ m1:Nat,lB a0 (fun o p q=>(r o)) m1 (h++([(.agg [(ic i),(ic j)])]:Ls)) m)))))))))) r m0 f (aC (aD g 2)) (aC (aD g 3)) 0))) (fun h=>(lt (i64.wrap (d+1)) (fun i=>(aB (decide ((length h)=length h)&&decide ((length h)=length h)) (Bo a0 x0 x1 n h b c i)))))))))))))))))) (x0 b c d false))
def Bo (a0:bH) (x0:Ls→Ls→Int→Bool→Prop) (x1:Ls→Ls→Ls→Int→Bool→Prop):Nat→Ls→Ls→Ls→Int→Prop
 | 0,_,_,_,_=>False
 | n+1,b,c,d,e=>
 (aA (decide (e<(((length c):Nat):Int))) (aB (decide (0≤e)) (aB (decide (e<(((length c):Nat):Int))) (lt (getD c (e.toNat) .nils) (fun f=>(aB (aE z4 f) (jn (fun (a:Ls→Prop)=>(aB (decide ((length b)=length b)&&decide ((length b)=length b)) (∃ m0:Nat,tY a0 (fun g h i j=>(aB (decide (1=length ([(.agg [(ic g),(ic h)])]:Ls))&&decide (1=length ([(.agg [(ic g),(ic h)])]:Ls))) (∃ m1:Nat,lB a0 (fun k l m=>(a k)) m1 ([(.agg [(ic g),(ic h)])]:Ls) 0))) (fun g h i j k=>(aB (decide ((length g)=(length g))) (aB (decide ((0+(length g))≤(length g))) (aB (!(decide (((0+(length g))+1)≤(length g)))) (aB (decide ((length g)=(length g))) (aB (decide ((((length g)+1)+64)*(16+1)≤room)) (lt (i64.wrap ((((length (g++([(.agg [(ic h),(ic i)])]:Ls))):Nat):Int)-1)) (fun l=>(aB (decide ((length (g++([(.agg [(ic h),(ic i)])]:Ls)))=length (g++([(.agg [(ic h),(ic i)])]:Ls)))&&decide ((length (g++([(.agg [(ic h),(ic i)])]:Ls)))=length (g++([(.agg [(ic h),(ic i)])]:Ls)))) (∃ m1:Nat,lB a0 (fun m o p=>(a m)) m1 (g++([(.agg [(ic h),(ic i)])]:Ls)) l)))))))))) a m0 b (aC (aD f 0)) (aC (aD f 1)) 0))) (fun g=>(aB (decide (0≤e)) (aB (decide (e<(((length c):Nat):Int))) (lt (getD c (e.toNat) .nils) (fun h=>(aB (aE z4 h) (jn (fun (s:Ls→Prop)=>(aB (decide ((length g)=length g)&&decide ((length g)=length g)) (∃ m0:Nat,tY a0 (fun i j k l=>(aB (decide (1=length ([(.agg [(ic i),(ic j)])]:Ls))&&decide (1=length ([(.agg [(ic i),(ic j)])]:Ls))) (∃ m1:Nat,lB a0 (fun m o p=>(s m)) m1 ([(.agg [(ic i),(ic j)])]:Ls) 0))) (fun i j k l m=>(aB (decide ((length i)=(length i))) (aB (decide ((0+(length i))≤(length i))) (aB (!(decide (((0+(length i))+1)≤(length i)))) (aB (decide ((length i)=(length i))) (aB (decide ((((length i)+1)+64)*(16+1)≤room)) (lt (i64.wrap ((((length (i++([(.agg [(ic j),(ic k)])]:Ls))):Nat):Int)-1)) (fun o=>(aB (decide ((length (i++([(.agg [(ic j),(ic k)])]:Ls)))=length (i++([(.agg [(ic j),(ic k)])]:Ls)))&&decide ((length (i++([(.agg [(ic j),(ic k)])]:Ls)))=length (i++([(.agg [(ic j),(ic k)])]:Ls)))) (∃ m1:Nat,lB a0 (fun p q r=>(s p)) m1 (i++([(.agg [(ic j),(ic k)])]:Ls)) o)))))))))) s m0 g (aC (aD h 2)) (aC (aD h 3)) 0))) (fun i=>(lt (i64.wrap (e+1)) (fun j=>(aB (decide ((length i)=length i)&&decide ((length i)=length i)) (Bo a0 x0 x1 n i c d j)))))))))))))))))) (x1 b c d e false))
end
def WO (a0:bH) (b c:Ls) (K:Ls→Prop):Prop:=
 (∃ m0:Nat,Jn a0 (fun d e f g=>(∃ m1:Nat,Jm a0 (fun h i j=>(K ([]:Ls))) (fun h i j k=>(aB (decide ((length h)=(length h))) (aB (decide ((0+(length h))≤(length h))) (K (take (length h) h))))) m1 e 0)) (fun d e f g h=>(aB (decide ((length d)=length d)&&decide ((length d)=length d)) (∃ m1:Nat,zU a0 (fun i j k=>(K ([]:Ls))) (fun i j k l=>(aB (decide ((length i)=(length i))) (aB (decide ((0+(length i))≤(length i))) (K (take (length i) i))))) m1 d f 0))) m0 b c 0)
def xO:Di:=WO yaw
def WQ:Sg:=⟨vL,Ls→Prop,fun K=>(fun r0=>K (.data r0))⟩
def lh (Q:Qx):Int→Int→Int→Bool→Prop:=(fun b c d e=>Q (.exit 0) [(0,.v .nils),(3,.box (.agg [(ic b),(ic c)])),(5,.v (ic d)),(10,.v (.bool e))] [])
def lj (Q:Qx):Ls→Int→Int→Int→Bool→Prop:=(fun b c d e f=>Q (.exit 0) [(0,.v (.own 0 0 (length b) (length b) none)),(3,.box (.agg [(ic c),(ic d)])),(5,.v (ic e)),(10,.v (.bool f))] [⟨false,true,2,b⟩])
def lk (Q:Qx):Ls→Prop:=(fun b=>Q .ret [(4,.v (.own 0 0 (length b) (length b) none))] [⟨false,true,2,b⟩])
def yD0 (Q:Qx):Ls→Int→Bool→Prop:=(fun b c d=>Q (.exit 2) [(0,.v (.own 0 0 (length b) (length b) none)),(6,.v (ic c)),(40,.v (.bool d))] [⟨false,true,2,b⟩])
def lm (Q:Qx):Ls→Int→Bool→Prop:=(fun b c d=>Q (.exit 2) [(1,.v (.data b)),(5,.v .nils),(7,.v (ic c)),(30,.v (.bool d))] [])
def ln (Q:Qx):Ls→Ls→Int→Bool→Prop:=(fun b c d e=>Q (.exit 2) [(1,.v (.data c)),(5,.v (.own 0 0 (length b) (length b) none)),(7,.v (ic d)),(30,.v (.bool e))] [⟨false,true,2,b⟩])
def lq (Q:Qx):Ls→Ls→Int→Bool→Prop:=(fun b c d e=>Q (.exit 0) [(0,.v (.data b)),(1,.v (.data c)),(5,.v .nils),(6,.v (ic d)),(11,.v (.bool e))] [])
def lr (Q:Qx):Ls→Ls→Ls→Int→Bool→Prop:=(fun b c d e f=>Q (.exit 0) [(0,.v (.data c)),(1,.v (.data d)),(5,.v (.own 0 0 (length b) (length b) none)),(6,.v (ic e)),(11,.v (.bool f))] [⟨false,true,2,b⟩])
def Dj:Pat aG:=fX 3 nQ (fV 5 bL fN)
def mR:HPt:=hB false true 2 rA hN
def lu (a0:bH) (Q:Qx):List St:=[⟨(pS hN (fV 0 oO Dj) fN),Jl a0 (lh Q) (lj Q) (lk Q)⟩,⟨(pS mR (fV 0 nU Dj) fN),tY a0 (lh Q) (lj Q) (lk Q)⟩]
def pZ:Pat aG:=fV 6 bL fN
def lv (a0:bH) (Q:Qx):List St:=[⟨(pS mR (fV 0 nU pZ) fN),lB a0 (yD0 Q)⟩]
def lw (a0:bH) (Q:Qx):List St:=[⟨(pS hN (fV 1 vD (fV 5 oO (fV 7 bL fN))) fN),Jm a0 (lm Q) (ln Q)⟩,⟨(pS mR (fV 1 vD (fV 5 nU (fV 7 bL fN))) fN),zU a0 (lm Q) (ln Q)⟩]
def lz (a0:bH) (Q:Qx):List St:=[⟨(pS hN (fV 0 vD (fV 1 vD (fV 5 oO pZ))) fN),Jn a0 (lq Q) (lr Q)⟩,⟨(pS mR (fV 0 vD (fV 1 vD (fV 5 nU pZ))) fN),Bo a0 (lq Q) (lr Q)⟩]
def Gi (a0:bH):LP:=fG [(33442700,lu a0),(33442701,lv a0),(95913401,lw a0),(95913400,lz a0)]
def WR (e:Es) (a0:bH):SE:=sE (E e) [(oP,mH.pw a0)] (Gi a0)
def NM (e:Es) (a0:bH):SE:=⟨(E e),ygn [(oP,mH.pw a0)],ygo [(P1,Nb)],Gi a0,fun _=>none⟩
theorem ma (e:Es) (he:EG e):SEOk (bC (E e)) (WR e yaw):=bK (aK.uni _) ⟨(tW e he),trivial⟩ trivial he.ok
theorem yBX (e:Es) (a0):eC (WR e a0) 5 a TB false (lu a0):=fun _=>⟨fun _=>by kernel_rfl,fun _ _=>by kernel_rfl,fun _=>by kernel_rfl,fun _ _=>by kernel_rfl,trivial⟩
theorem yBY (e:Es) (he:EG e):cQ (bC (E e)) (Gi yaw) [] 33442700 (.loop 33442700 TB):=fun _ _ _=>bU.st (aK.uni _) (cL (ma e he) 5) (cF.no _ _) (aZ (by kernel_rfl)) (yBX e _ _)
theorem yBZ (e:Es) (a0):eC (WR e a0) 5 a TD false (lv a0):=fun _=>⟨fun _=>by kernel_rfl,fun _ _=>by kernel_rfl,trivial⟩
theorem yB0 (e:Es) (he:EG e):cQ (bC (E e)) (Gi yaw) [] 33442701 (.loop 33442701 TD):=fun _ _ _=>bU.st (aK.uni _) (cL (ma e he) 5) (cF.no _ _) (aZ (by kernel_rfl)) (yBZ e _ _)
theorem WS (e:Es) (he:EG e):SEOk (bC (E e)) (NM e yaw):=bK (aK.uni _) ⟨(tW e he),trivial⟩ ⟨⟨by kernel_rfl,by kernel_rfl,rfl,fun az=>rO (by kernel_rfl) az,he.num _ (by kernel_rfl),by kernel_rfl,(cZ (l:=[(33442700,.loop 33442700 TB),(33442701,.loop 33442701 TD)]) ⟨yBY e he,yB0 e he,trivial⟩ (by kernel_rfl))⟩,trivial⟩ he.ok
theorem yB1 (e:Es) (a0):eC (NM e a0) 5 a TF false (lw a0):=fun _=>⟨fun _=>by kernel_rfl,fun _ _=>by kernel_rfl,fun _=>by kernel_rfl,fun _ _=>by kernel_rfl,trivial⟩
theorem yB2 (e:Es) (he:EG e):cQ (bC (E e)) (Gi yaw) [] 95913401 (.loop 95913401 TF):=fun _ _ _=>bU.st (aK.uni _) (cL (WS e he) 5) (cF.no _ _) (aZ (by kernel_rfl)) (yB1 e _ _)
theorem yB3 (e:Es) (a0):eC (NM e a0) 5 a TE false (lz a0):=fun _=>⟨fun _=>by kernel_rfl,fun _ _=>by kernel_rfl,fun _=>by kernel_rfl,fun _ _=>by kernel_rfl,trivial⟩
theorem yB4 (e:Es) (he:EG e):cQ (bC (E e)) (Gi yaw) [] 95913400 (.loop 95913400 TE):=fun _ _ _=>bU.st (aK.uni _) (cL (WS e he) 5) (cF.no _ _) (aZ (by kernel_rfl)) (yB3 e _ _)
theorem yKl (e:Es) (a0):bN (NM e a0) 6 Nc WQ (WO a0):=fun _ _=>by kernel_rfl
theorem mb (e:Es) (he:EG e):bM (E e) (WQ.pw xO) MK:=bO he (yKl e _) (WS e he) bA.flat (cZ (l:=[(95913400,.loop 95913400 TE),(95913401,.loop 95913401 TF)]) ⟨yB4 e he,yB2 e he,trivial⟩ (by kernel_rfl))
abbrev Dk:Type:=Ls→Int→Int→(Bool→Prop)→Prop
def Gj (a0:bH) (x0:Ls→Int→Int→Int→Bool→Prop) (x1:Bool→Prop):Nat→Ls→Int→Int→Int→Prop
 | 0,_,_,_,_=>False
 | n+1,b,c,d,e=>
 (aA (decide (e<(((length b):Nat):Int))) (jn (fun (a:Bool→Prop)=>(aB (decide (0≤e)) (aB (decide (e<(((length b):Nat):Int))) (lt (getD b (e.toNat) .nils) (fun f=>(aB (aE z4 f) (a0 c d (aC (aD f 0)) (aC (aD f 1)) (fun g=>(aA (!g) (aB (decide (0≤e)) (aB (decide (e<(((length b):Nat):Int))) (lt (getD b (e.toNat) .nils) (fun h=>(aB (aE z4 h) (a0 c d (aC (aD h 2)) (aC (aD h 3)) a)))))) (a false)))))))))) (fun f=>(aA f (x1 true) (lt (i64.wrap (e+1)) (Gj a0 x0 x1 n b c d))))) (x0 b c d e false))
def WT (a0:bH) (b:Ls) (c d:Int) (K:Bool→Prop):Prop:=
 (∃ n:Nat,Gj a0 (fun e f g h i=>(K false)) K n b c d 0)
def xP:Dk:=WT yaw
def WU:Sg:=⟨(lC vD Fq),Bool→Prop,fun K=>(fun r0=>K (.bool r0))⟩
def yIn (Q:Qx):Ls→Int→Int→Int→Bool→Prop:=(fun b c d e f=>Q (.exit 0) [(0,.v (.data b)),(3,.box (.agg [(ic c),(ic d)])),(5,.v (ic e)),(9,.v (.bool f))] [])
def yIo (Q:Qx):Bool→Prop:=(fun b=>Q .ret [(4,.v (.bool b))] [])
def mc (a0:bH) (Q:Qx):List St:=[⟨(pS hN (fV 0 vD Dj) fN),Gj a0 (yIn Q) (yIo Q)⟩]
def me (a0:bH):LP:=fG [(81840800,mc a0)]
def WV (e:Es) (a0:bH):SE:=sE (E e) [(oP,mH.pw a0)] (me a0)
theorem mf (e:Es) (he:EG e):SEOk (bC (E e)) (WV e yaw):=bK (aK.uni _) ⟨(tW e he),trivial⟩ trivial he.ok
theorem yFA (e:Es) (a0):eC (WV e a0) 5 a TH false (mc a0):=fun _=>⟨fun _=>by kernel_rfl,fun _ _=>by kernel_rfl,trivial⟩
theorem yFB (e:Es) (he:EG e):cQ (bC (E e)) (me yaw) [] 81840800 (.loop 81840800 TH):=fun _ _ _=>bU.st (aK.uni _) (cL (mf e he) 5) (cF.no _ _) (aZ (by kernel_rfl)) (yFA e _ _)
theorem yOm (e:Es) (a0):bN (WV e a0) 6 TG WU (WT a0):=fun _ _=>by kernel_rfl
theorem mg (e:Es) (he:EG e):bM (E e) (WU.pw xP) ML:=bO he (yOm e _) (mf e he) bA.flat (cZ (l:=[(81840800,.loop 81840800 TH)]) ⟨yFB e he,trivial⟩ (by kernel_rfl))
abbrev Gk:Type:=Ls→Ls→Int→(Ls→Prop)→Prop
mutual
def Dl (a0:Di) (a1:Dk) (x0:Ls→Ls→Int→Ls→Int→Bool→Prop) (x1:Ls→Ls→Ls→Int→Ls→Int→Bool→Prop):Nat→Ls→Ls→Int→Ls→Int→Prop
 | 0,_,_,_,_,_=>False
 | n+1,b,c,d,e,f=>
 (lt (i64.wrap (f+1)) (fun g=>(aA (decide (g<(((length e):Nat):Int))) (aB (decide (0≤f)) (aB (decide (f<(((length e):Nat):Int))) (lt (getD e (f.toNat) .nils) (fun h=>(aB (aE z2 h) (a1 b (aC (aD h 0)) (aC (aD h 1)) (fun i=>(aB (decide (0≤f)) (aB (decide (f<(((length e):Nat):Int))) (lt (getD e (f.toNat) .nils) (fun j=>(aB (aE z2 j) (a1 c (aC (aD j 0)) (aC (aD j 1)) (fun k=>(jn (fun (u:Bool→Prop)=>(aA i (u true) (u k))) (fun l=>(jn (fun (a:Bool→Prop)=>(aA (d==1) (aA i (a k) (a false)) (a l))) (fun m=>(jn (fun (t:Bool→Prop)=>(aA (d==2) (aA i (t (!k)) (t false)) (t m))) (fun o=>(aA (!o) (lt (i64.wrap (f+1)) (Dl a0 a1 x0 x1 n b c d e)) (aB (decide (0≤f)) (aB (decide (f<(((length e):Nat):Int))) (lt (getD e (f.toNat) .nils) (fun p=>(aB (aE z2 p) (lt (i64.wrap (f+1)) (fun q=>(aB (decide (0≤q)) (aB (decide (q<(((length e):Nat):Int))) (lt (getD e (q.toNat) .nils) (fun r=>(aB (aE z2 r) (lt (i64.wrap (f+1)) (fun s=>(aB (decide (1=length ([(.agg [(ic (aC (aD p 0))),(ic (aC (aD p 1))),(ic (aC (aD r 0))),(ic (aC (aD r 1)))])]:Ls))&&decide (1=length ([(.agg [(ic (aC (aD p 0))),(ic (aC (aD p 1))),(ic (aC (aD r 0))),(ic (aC (aD r 1)))])]:Ls))) (Dm a0 a1 x0 x1 n ([(.agg [(ic (aC (aD p 0))),(ic (aC (aD p 1))),(ic (aC (aD r 0))),(ic (aC (aD r 1)))])]:Ls) b c d e s))))))))))))))))))))))))))))))))))))) (x0 b c d e f false))))
def Dm (a0:Di) (a1:Dk) (x0:Ls→Ls→Int→Ls→Int→Bool→Prop) (x1:Ls→Ls→Ls→Int→Ls→Int→Bool→Prop):Nat→Ls→Ls→Ls→Int→Ls→Int→Prop
 | 0,_,_,_,_,_,_=>False
 | n+1,b,c,d,e,f,g=>
 (lt (i64.wrap (g+1)) (fun h=>(aA (decide (h<(((length f):Nat):Int))) (jn (fun (x:Ls→Prop)=>(aB (decide (0≤g)) (aB (decide (g<(((length f):Nat):Int))) (lt (getD f (g.toNat) .nils) (fun i=>(aB (aE z2 i) (a1 c (aC (aD i 0)) (aC (aD i 1)) (fun j=>(aB (decide (0≤g)) (aB (decide (g<(((length f):Nat):Int))) (lt (getD f (g.toNat) .nils) (fun k=>(aB (aE z2 k) (a1 d (aC (aD k 0)) (aC (aD k 1)) (fun l=>(jn (fun (y:Bool→Prop)=>(aA j (y true) (y l))) (fun m=>(jn (fun (a:Bool→Prop)=>(aA (e==1) (aA j (a l) (a false)) (a m))) (fun o=>(jn (fun (w:Bool→Prop)=>(aA (e==2) (aA j (w (!l)) (w false)) (w o))) (fun p=>(aA (!p) (x b) (jn (fun (z:Bool→Prop)=>(aA (decide ((((length b):Nat):Int)>0)) (lt (i64.wrap ((((length b):Nat):Int)-1)) (fun q=>(aB (decide (0≤q)) (aB (decide (q<(((length b):Nat):Int))) (aB (decide ((length b)=(length b))) (aB (decide ((0+(q.toNat))<(length b))) (lt (getD b (0+(q.toNat)) .nils) (fun r=>(aB (aE z4 r) (aB (decide (0≤g)) (aB (decide (g<(((length f):Nat):Int))) (lt (getD f (g.toNat) .nils) (fun s=>(aB (aE z2 s) (z (((aC (aD r 2)) ==(aC (aD s 0)))&&(((aC (aD r 3)) ==(aC (aD s 1)))&&true))))))))))))))))) (z false))) (fun q=>(aA q (lt (i64.wrap ((((length b):Nat):Int)-1)) (fun r=>(lt (i64.wrap (g+1)) (fun s=>(aB (decide (0≤s)) (aB (decide (s<(((length f):Nat):Int))) (lt (getD f (s.toNat) .nils) (fun t=>(aB (aE z2 t) (aB (decide (0≤r)) (aB (decide (r<(((length b):Nat):Int))) (aB (decide ((length b)=(length b))) (aB (decide ((0+(r.toNat))<(length b))) (lt (getD b (0+(r.toNat)) .nils) (fun u=>(aB (aE z4 u) (lt (i64.wrap (g+1)) (fun v=>(aB (decide ((length b)=length (set b (0+(r.toNat)) (.agg [(ic (aC (aD u 0))),(ic (aC (aD u 1))),(ic (aC (aD t 0))),(ic (aC (aD t 1)))])))&&decide ((length b)=length (set b (0+(r.toNat)) (.agg [(ic (aC (aD u 0))),(ic (aC (aD u 1))),(ic (aC (aD t 0))),(ic (aC (aD t 1)))])))) (Dm a0 a1 x0 x1 n (set b (0+(r.toNat)) (.agg [(ic (aC (aD u 0))),(ic (aC (aD u 1))),(ic (aC (aD t 0))),(ic (aC (aD t 1)))])) c d e f v)))))))))))))))))))) (aB (decide (0≤g)) (aB (decide (g<(((length f):Nat):Int))) (lt (getD f (g.toNat) .nils) (fun r=>(aB (aE z2 r) (lt (i64.wrap (g+1)) (fun s=>(aB (decide (0≤s)) (aB (decide (s<(((length f):Nat):Int))) (lt (getD f (s.toNat) .nils) (fun t=>(aB (aE z2 t) (aB (decide ((length b)=(length b))) (aB (decide ((0+(length b))≤(length b))) (aB (!(decide (((0+(length b))+1)≤(length b)))) (aB (decide ((length b)=(length b))) (aB (decide ((((length b)+1)+64)*(32+1)≤room)) (x (b++([(.agg [(ic (aC (aD r 0))),(ic (aC (aD r 1))),(ic (aC (aD t 0))),(ic (aC (aD t 1)))])]:Ls))))))))))))))))))))))))))))))))))))))))))))) (fun i=>(lt (i64.wrap (g+1)) (fun j=>(aB (decide ((length i)=length i)&&decide ((length i)=length i)) (Dm a0 a1 x0 x1 n i c d e f j)))))) (x1 b c d e f g false))))
end
def WW (a0:Di) (a1:Dk) (b c:Ls) (d:Int) (K:Ls→Prop):Prop:=
 (a0 b c (fun e=>(∃ n:Nat,Dl a0 a1 (fun f g h i j k=>(K ([]:Ls))) (fun f g h i j k l=>(aB (decide ((length f)=(length f))) (aB (decide ((0+(length f))≤(length f))) (K (take (length f) f))))) n b c d e 0)))
def qP:Gk:=WW xO xP
def WX:Sg:=⟨(lC vD (lC vD pt1)),Ls→Prop,fun K=>(fun r0=>K (.data r0))⟩
def mh (Q:Qx):Ls→Ls→Int→Ls→Int→Bool→Prop:=(fun b c d e f g=>Q (.exit 0) [(0,.v (.data b)),(1,.v (.data c)),(2,.v (ic d)),(7,.v (.data e)),(8,.v .nils),(9,.v (ic f)),(20,.v (.bool g))] [])
def mi (Q:Qx):Ls→Ls→Ls→Int→Ls→Int→Bool→Prop:=(fun b c d e f g h=>Q (.exit 0) [(0,.v (.data c)),(1,.v (.data d)),(2,.v (ic e)),(7,.v (.data f)),(8,.v (.own 0 0 (length b) (length b) none)),(9,.v (ic g)),(20,.v (.bool h))] [⟨false,true,4,b⟩])
def mj (a0:Di) (a1:Dk) (Q:Qx):List St:=[⟨(pS hN (fV 0 vD (fV 1 vD (fV 2 bL (fV 7 vD (fV 8 oO (fV 9 bL fN)))))) fN),Dl a0 a1 (mh Q) (mi Q)⟩,⟨(pS pX (fV 0 vD (fV 1 vD (fV 2 bL (fV 7 vD (fV 8 nU (fV 9 bL fN)))))) fN),Dm a0 a1 (mh Q) (mi Q)⟩]
def mn (a0:Di) (a1:Dk):LP:=fG [(37905300,mj a0 a1)]
def WY (e:Es) (a0:Di) (a1:Dk):SE:=sE (E e) [(MK,WQ.pw a0),(ML,WU.pw a1)] (mn a0 a1)
theorem mo (e:Es) (he:EG e):SEOk (bC (E e)) (WY e xO xP):=bK (aK.uni _) ⟨(mb e he),(mg e he),trivial⟩ trivial he.ok
theorem yyC (e:Es) (a0 a1):eC (WY e a0 a1) 5 a TJ false (mj a0 a1):=fun _=>⟨fun _=>by kernel_rfl,fun _ _=>by kernel_rfl,fun _=>by kernel_rfl,fun _ _=>by kernel_rfl,trivial⟩
theorem yyD (e:Es) (he:EG e):cQ (bC (E e)) (mn xO xP) [] 37905300 (.loop 37905300 TJ):=fun _ _ _=>bU.st (aK.uni _) (cL (mo e he) 5) (cF.no _ _) (aZ (by kernel_rfl)) (yyC e _ _ _)
theorem yFD (e:Es) (a0 a1):bN (WY e a0 a1) 6 TI WX (WW a0 a1):=fun _ _=>by kernel_rfl
theorem mp (e:Es) (he:EG e):bM (E e) (WX.pw qP) MM:=bO he (yFD e _ _) (mo e he) bA.flat (cZ (l:=[(37905300,.loop 37905300 TJ)]) ⟨yyD e he,trivial⟩ (by kernel_rfl))
def Gl (a0:bH) (a1:Gk) (x0:Ls→Int→Bool→Prop) (x1:Int→Prop):Nat→Ls→Int→Prop
 | 0,_,_=>False
 | n+1,b,c=>
 (aA (decide (c<(((length b):Nat):Int))) (aB (decide (0≤c)) (aB (decide (c<(((length b):Nat):Int))) (lt (getD b (c.toNat) .nils) (fun d=>(aB (aE z4 d) (a0 (aC (aD d 0)) (aC (aD d 1)) (aC (aD d 2)) (aC (aD d 3)) (fun e=>(aA (!e) (x1 8) (lt (i64.wrap (c+1)) (Gl a0 a1 x0 x1 n b)))))))))) (x0 b c false))
def Jo (a0:bH) (a1:Gk) (b:Ls) (K:Ls→Int→Prop):Prop:=
 (aA (decide ((((length b):Nat):Int)>60)) (K ([]:Ls) 4) (∃ n:Nat,Gl a0 a1 (fun c d e=>(a1 c ([]:Ls) 0 (fun f=>(K f 0)))) (fun c=>(K ([]:Ls) c)) n b 0))
def yaT:lK:=Jo yaB qP
def yD2 (Q:Qx):Ls→Int→Bool→Prop:=(fun b c d=>Q (.exit 0) [(0,.v (.data b)),(4,.v (ic c)),(11,.v (.bool d))] [])
def yD3 (Q:Qx):Int→Prop:=(fun b=>Q .ret [(2,.v .nils),(3,.v (ic b))] [])
def mq (a0:bH) (a1:Gk) (Q:Qx):List St:=[⟨(pS hN (fV 0 vD pP) fN),Gl a0 a1 (yD2 Q) (yD3 Q)⟩]
def mr (a0:bH) (a1:Gk):LP:=fG [(78184200,mq a0 a1)]
def WZ (e:Es) (a0:bH) (a1:Gk):SE:=sE (E e) [(Ik,CP.pw a0),(MM,WX.pw a1)] (mr a0 a1)
theorem mu (e:Es) (he:EG e):SEOk (bC (E e)) (WZ e yaB qP):=bK (aK.uni _) ⟨(lf e he),(mp e he),trivial⟩ trivial he.ok
theorem yB5 (e:Es) (a0 a1):eC (WZ e a0 a1) 5 a TL false (mq a0 a1):=fun _=>⟨fun _=>by kernel_rfl,fun _ _=>by kernel_rfl,trivial⟩
theorem yB6 (e:Es) (he:EG e):cQ (bC (E e)) (mr yaB qP) [] 78184200 (.loop 78184200 TL):=fun _ _ _=>bU.st (aK.uni _) (cL (mu e he) 5) (cF.no _ _) (aZ (by kernel_rfl)) (yB5 e _ _ _)
theorem yKm (e:Es) (a0 a1):bN (WZ e a0 a1) 6 TK CR (Jo a0 a1):=fun _ _=>by kernel_rfl
theorem mw (e:Es) (he:EG e):bM (E e) (CR.pw yaT) MN:=bO he (yKm e _ _) (mu e he) bA.flat (cZ (l:=[(78184200,.loop 78184200 TL)]) ⟨yB6 e he,trivial⟩ (by kernel_rfl))
def Gm (x0:Bool→Prop) (x1:Ls→Ls→Int→Bool→Prop):Nat→Ls→Ls→Int→Prop
 | 0,_,_,_=>False
 | n+1,b,c,d=>
 (aA (decide (d<(((length b):Nat):Int))) (aB (decide (0≤d)) (aB (decide (d<(((length b):Nat):Int))) (aB (aE z4 (getD b (d.toNat) .nils)) (aB (decide (0≤d)) (aB (decide (d<(((length c):Nat):Int))) (aB (aE z4 (getD c (d.toNat) .nils)) (aA (!(((aC (aD (getD b (d.toNat) .nils) 0)) ==(aC (aD (getD c (d.toNat) .nils) 0)))&&(((aC (aD (getD b (d.toNat) .nils) 1)) ==(aC (aD (getD c (d.toNat) .nils) 1)))&&(((aC (aD (getD b (d.toNat) .nils) 2)) ==(aC (aD (getD c (d.toNat) .nils) 2)))&&(((aC (aD (getD b (d.toNat) .nils) 3)) ==(aC (aD (getD c (d.toNat) .nils) 3)))&&true))))) (x0 false) (Gm x0 x1 n b c (i64.wrap (d+1)))))))))) (x1 b c d false))
def Xa (b c:Ls) (K:Bool→Prop):Prop:=
 (aA ((((length b):Nat):Int) !=(((length c):Nat):Int)) (K false) (∃ n:Nat,Gm K (fun d e f g=>(K true)) n b c 0))
def xQ:xN:=Xa
def yD4 (Q:Qx):Bool→Prop:=(fun b=>Q .ret [(4,.v (.bool b))] [])
def yD5 (Q:Qx):Ls→Ls→Int→Bool→Prop:=(fun b c d e=>Q (.exit 0) [(0,.v (.data b)),(1,.v (.data c)),(5,.v (ic d)),(14,.v (.bool e))] [])
def my (Q:Qx):List St:=[⟨Jk,Gm (yD4 Q) (yD5 Q)⟩]
def mz:LP:=fG [(27088800,my)]
def Xb (e:Es):SE:=sE (E e) [] (mz)
theorem na (e:Es) (he:EG e):SEOk (bC (E e)) (Xb e):=bK (aK.uni _) trivial trivial he.ok
theorem yB7 (e:Es):eC (Xb e) 5 a TP false (my):=fun _=>⟨fun _=>by kernel_rfl,fun _ _=>by kernel_rfl,trivial⟩
theorem yB8 (e:Es) (he:EG e):cQ (bC (E e)) (mz) [] 27088800 (.loop 27088800 TP):=fun _ _ _=>bU.st (aK.uni _) (cL (na e he) 5) (cF.no _ _) (aZ (by kernel_rfl)) (yB7 e _)
theorem yKn (e:Es):bN (Xb e) 6 TO Gg Xa:=fun _ _=>by kernel_rfl
theorem nd (e:Es) (he:EG e):bM (E e) (Gg.pw xQ) MP:=bO he (yKn e) (na e he) bA.flat (cZ (l:=[(27088800,.loop 27088800 TP)]) ⟨yB8 e he,trivial⟩ (by kernel_rfl))
def Gn (a0:xN) (x0:Bool→Prop) (x1:Ls→Ls→Int→Bool→Prop):Nat→Ls→Ls→Int→Prop
 | 0,_,_,_=>False
 | n+1,b,c,d=>
 (aA (decide (d<(((length b):Nat):Int))) (aB (decide (0≤d)) (aB (decide (d<(((length b):Nat):Int))) (aB (aE zD (getD b (d.toNat) .nils)) (aB (decide (0≤d)) (aB (decide (d<(((length c):Nat):Int))) (aB (aE zD (getD c (d.toNat) .nils)) (a0 (fW (getD b (d.toNat) .nils)) (fW (getD c (d.toNat) .nils)) (fun e=>(aA (!e) (x0 false) (Gn a0 x0 x1 n b c (i64.wrap (d+1)))))))))))) (x1 b c d false))
def Xc (a0:xN) (b c:Ls) (K:Bool→Prop):Prop:=
 (aA ((((length b):Nat):Int) !=(((length c):Nat):Int)) (K false) (∃ n:Nat,Gn a0 K (fun d e f g=>(K true)) n b c 0))
def Bp:xN:=Xc xQ
def Xd:Sg:=⟨(lC (vA xH) (lC (vA xH) lN)),Bool→Prop,fun K=>(fun r0=>K (.bool r0))⟩
def yD6 (Q:Qx):Bool→Prop:=(fun b=>Q .ret [(4,.v (.bool b))] [])
def yD7 (Q:Qx):Ls→Ls→Int→Bool→Prop:=(fun b c d e=>Q (.exit 0) [(2,.box (.agg [(.data b)])),(3,.box (.agg [(.data c)])),(5,.v (ic d)),(17,.v (.bool e))] [])
def nf (a0:xN) (Q:Qx):List St:=[⟨(pS hN (fX 2 (vA xH) (fX 3 (vA xH) (fV 5 bL fN))) fN),Gn a0 (yD6 Q) (yD7 Q)⟩]
def ng (a0:xN):LP:=fG [(70742100,nf a0)]
def Xe (e:Es) (a0:xN):SE:=sE (E e) [(MP,Gg.pw a0)] (ng a0)
theorem nh (e:Es) (he:EG e):SEOk (bC (E e)) (Xe e xQ):=bK (aK.uni _) ⟨(nd e he),trivial⟩ trivial he.ok
theorem yB9 (e:Es) (a0):eC (Xe e a0) 5 a TR false (nf a0):=fun _=>⟨fun _=>by kernel_rfl,fun _ _=>by kernel_rfl,trivial⟩
theorem yCa (e:Es) (he:EG e):cQ (bC (E e)) (ng xQ) [] 70742100 (.loop 70742100 TR):=fun _ _ _=>bU.st (aK.uni _) (cL (nh e he) 5) (cF.no _ _) (aZ (by kernel_rfl)) (yB9 e _ _)
theorem yKp (e:Es) (a0):bN (Xe e a0) 6 TQ Xd (Xc a0):=fun _ _=>by kernel_rfl
theorem ni (e:Es) (he:EG e):bM (E e) (Xd.pw Bp) MQ:=bO he (yKp e _) (nh e he) bA.flat (cZ (l:=[(70742100,.loop 70742100 TR)]) ⟨yCa e he,trivial⟩ (by kernel_rfl))
set_option linter.unusedVariables false
theorem yIp (p0 p1 r0:Ls) (h:∀ K:Ls→Prop,K r0→xO p0 p1 K) (K:Ls→Prop):xO p0 p1 K=K r0:=
 Aac ⟨fun k=>cE (mb [] fQ) (az:=[(.data p0),(.data p1)]) (x:=(.data r0)) (fun K' k'=>h (fun r0=>K' (.data r0)) k') (K:=fun x=>match x with | (.data r0)=>K r0 | _=>False) k,h K⟩
theorem yL6 (p0:Ls) (p1 p2:Int) (r0:Bool) (h:∀ K:Bool→Prop,K r0→xP p0 p1 p2 K) (K:Bool→Prop):xP p0 p1 p2 K=K r0:=
 Aac ⟨fun k=>cE (mg [] fQ) (az:=[(.data p0),(.agg [(ic p1),(ic p2)])]) (x:=(.bool r0)) (fun K' k'=>h (fun r0=>K' (.bool r0)) k') (K:=fun x=>match x with | (.bool r0)=>K r0 | _=>False) k,h K⟩
theorem yD8 (p0 p1:Ls) (p2:Int) (r0:Ls) (h:∀ K:Ls→Prop,K r0→qP p0 p1 p2 K) (K:Ls→Prop):qP p0 p1 p2 K=K r0:=
 Aac ⟨fun k=>cE (mp [] fQ) (az:=[(.data p0),(.data p1),(ic p2)]) (x:=(.data r0)) (fun K' k'=>h (fun r0=>K' (.data r0)) k') (K:=fun x=>match x with | (.data r0)=>K r0 | _=>False) k,h K⟩
theorem Xf (p0 r0:Ls) (r1:Int) (h:∀ K:Ls→Int→Prop,K r0 r1→yaT p0 K) (K:Ls→Int→Prop):yaT p0 K=K r0 r1:=
 Aac ⟨fun k=>cE (mw [] fQ) (az:=[(.data p0)]) (x:=(.tup [(.data r0),(ic r1)])) (fun K' k'=>h (fun r0 r1=>K' (.tup [(.data r0),(ic r1)])) k') (K:=fun x=>match x with | (.tup [(.data r0),(ic r1)])=>K r0 r1 | _=>False) k,h K⟩
theorem yIq (p0 p1:Ls) (r0:Bool) (h:∀ K:Bool→Prop,K r0→xQ p0 p1 K) (K:Bool→Prop):xQ p0 p1 K=K r0:=
 Aac ⟨fun k=>cE (nd [] fQ) (az:=[(.data p0),(.data p1)]) (x:=(.bool r0)) (fun K' k'=>h (fun r0=>K' (.bool r0)) k') (K:=fun x=>match x with | (.bool r0)=>K r0 | _=>False) k,h K⟩
theorem yIr (p0 p1:Ls) (r0:Bool) (h:∀ K:Bool→Prop,K r0→Bp p0 p1 K) (K:Bool→Prop):Bp p0 p1 K=K r0:=
 Aac ⟨fun k=>cE (ni [] fQ) (az:=[(.agg [(.data p0)]),(.agg [(.data p1)])]) (x:=(.bool r0)) (fun K' k'=>h (fun r0=>K' (.bool r0)) k') (K:=fun x=>match x with | (.bool r0)=>K r0 | _=>False) k,h K⟩
set_option maxHeartbeats 0
def NN (a0:cX) (b c:Ls) (K:Int→Prop):Prop:=
 (a0 b c (fun d=>(aA (d !=0) (K d) (aA ((((length b):Nat):Int) !=3) (K 2) (K 0)))))
def yay:cX:=NN ydu
def yAg (e:Es) (a0:cX):SE:=sE (E e) [(Cq,nW.pw a0)] cG
theorem yAh (e:Es) (a0):bN (yAg e a0) 6 P4 nW (NN a0):=fun _ _=>by kernel_rfl
theorem nj (e:Es) (he:EG e):bM (E e) (nW.pw yay) HN:=bO he (yAh e _) (bK (aK.uni _) ⟨(IX e he),trivial⟩ trivial he.ok) bA.flat (aZ (by kernel_rfl))
def nk (b:Int) (K:Int→Int→Prop):Prop:=
 (K b 1)
def ya5:cA:=nk
def yCb (e:Es):SE:=sE (E e) [] cG
theorem yCc (e:Es):bN (yCb e) 6 P5 nE nk:=fun _ _=>by kernel_rfl
theorem Xg (e:Es) (he:EG e):bM (E e) (nE.pw ya5) EV:=bO he (yCc e) (bK (aK.uni _) trivial trivial he.ok) bA.flat (aZ (by kernel_rfl))
def nm (b c:Int) (K:Int→Prop):Prop:=
 (aA (c !=0) False (K b))
def Xh:eJ:=nm
def ywW (e:Es):SE:=sE (E e) [] cG
theorem ywX (e:Es):bN (ywW e) 6 P8 Fu nm:=fun _ _=>by kernel_rfl
theorem ywY (e:Es) (he:EG e):bM (E e) (Fu.pw Xh) Ma:=bO he (ywX e) (bK (aK.uni _) trivial trivial he.ok) bA.flat (aZ (by kernel_rfl))
abbrev vY:Type:=Ls→Ls→Int→(Int→Int→Ls→Ls→Prop)→Prop
def Xi (a0:Vp) (a1:eJ) (a2:cA) (b c:Ls) (d:Int) (K:Int→Int→Ls→Ls→Prop):Prop:=
 (a0 b c d (fun e f=>(a1 e f (fun g=>(a2 g (fun h i=>(K h i b c)))))))
def yaK:vY:=Xi Nt Xh ya5
def NO (w:vY) (az:Ls) (b:HB) (K:PV→Ls→Prop):Prop:=
 match az,b with
 | [(.ptr 0 1 0 0),(ic p2)],⟨false,true,2,[(.agg [(.data p0),(.data p1)])]⟩=>w p0 p1 p2 (fun r0 r1 r2 r3=>K (.agg [(ic r0),(ic r1)]) [(.agg [(.data r2),(.data r3)])])
 | _,_=>False
def nn (az:Ls) (b:HB) (K:PV→Ls→Prop):Prop:=NO yaK az b K
def nq (e:Es) (a0:Vp) (a1:eJ) (a2:cA):SE:=sE (E e) [(LZ,Vr.pw a0),(Ma,Fu.pw a1),(EV,nE.pw a2)] cG
theorem yqQ (e:Es) (he:EG e):SEOk (bC (E e)) (nq e Nt Xh ya5):=bK (aK.uni _) ⟨(yHG e he),(ywY e he),(Xg e he),trivial⟩ trivial he.ok
theorem yrX (e:Es) (a0 a1 a2 p0 p1 p2 K):rL (nq e a0 a1 a2) 6 P9 [(.ptr 0 1 0 0),(ic p2)] ⟨false,true,2,[(.agg [(.data p0),(.data p1)])]⟩ K=Xi a0 a1 a2 p0 p1 p2 (fun b c d e=>K (.agg [(ic b),(ic c)]) [(.agg [(.data d),(.data e)])]):=by kernel_rfl
theorem nr (e:Es) (he:EG e):uY (E e) nn HO:=by
 intro az b K h;unfold nn NO at h;split at h
 ·exact uS (yqQ e he) bA.flat (aZ (by kernel_rfl)) (by kernel_rfl) (he.num _ (by kernel_rfl)) ((yrX ..).mpr h)
 ·exact h.elim
def ns (b c d:Int) (K:Int→Int→Prop):Prop:=
 (aA (d !=0) False (K b c))
def yad:gT:=ns
def Bq:Sg:=⟨(lC nQ pt1),Int→Int→Prop,fun K=>(fun r0 r1=>K (.agg [(ic r0),(ic r1)]))⟩
def yof (e:Es):SE:=sE (E e) [] cG
theorem yog (e:Es):bN (yof e) 6 Q6 Bq ns:=fun _ _=>by kernel_rfl
theorem Gp (e:Es) (he:EG e):bM (E e) (Bq.pw yad) yX:=bO he (yog e) (bK (aK.uni _) trivial trivial he.ok) bA.flat (aZ (by kernel_rfl))
abbrev rW:Type:=Ls→Ls→J4 (Int→(Int→Int→Ls→Ls→Prop)→Prop)
def Xj (a0:gU) (a1:gT) (b c:Ls) (d e f g h:Int) (K:Int→Int→Ls→Ls→Prop):Prop:=
 (a0 b c d e f g h (fun i j k l m=>(a1 k l m (fun o p=>(K k l i j)))))
def yaH:rW:=Xj Bj yad
def Jp (w:rW) (az:Ls) (b:HB) (K:PV→Ls→Prop):Prop:=
 match az,b with
 | [(.ptr 0 1 0 0),(ic p2),(.agg [(ic p3),(ic p4)]),(.agg [(ic p5),(ic p6)])],⟨false,true,2,[(.agg [(.data p0),(.data p1)])]⟩=>w p0 p1 p2 p3 p4 p5 p6 (fun r0 r1 r2 r3=>K (.agg [(ic r0),(ic r1)]) [(.agg [(.data r2),(.data r3)])])
 | _,_=>False
def nu (az:Ls) (b:HB) (K:PV→Ls→Prop):Prop:=Jp yaH az b K
def nv (e:Es) (a0:gU) (a1:gT):SE:=sE (E e) [(Mm,pY.pw a0),(yX,Bq.pw a1)] cG
theorem yrY (e:Es) (he:EG e):SEOk (bC (E e)) (nv e Bj yad):=bK (aK.uni _) ⟨(jb e he),(Gp e he),trivial⟩ trivial he.ok
theorem yth (e:Es) (a0 a1 p0 p1 p2 p3 p4 p5 p6 K):rL (nv e a0 a1) 6 S6 [(.ptr 0 1 0 0),(ic p2),(.agg [(ic p3),(ic p4)]),(.agg [(ic p5),(ic p6)])] ⟨false,true,2,[(.agg [(.data p0),(.data p1)])]⟩ K=Xj a0 a1 p0 p1 p2 p3 p4 p5 p6 (fun b c d e=>K (.agg [(ic b),(ic c)]) [(.agg [(.data d),(.data e)])]):=by kernel_rfl
theorem Xk (e:Es) (he:EG e):uY (E e) nu Fa:=by
 intro az b K h;unfold nu Jp at h;split at h
 ·exact uS (yrY e he) bA.flat (aZ (by kernel_rfl)) (by kernel_rfl) (he.num _ (by kernel_rfl)) ((yth ..).mpr h)
 ·exact h.elim
abbrev kO:Type:=Ls→Ls→J4 (Int→(J4 (Ls→Ls→Prop))→Prop)
def Xl (a0:dE) (a1:gT) (a2:rW) (b c:Ls) (d e f g h:Int) (K:J4 (Ls→Ls→Prop)):Prop:=
 (a0 g h 1 3 (fun i j k=>(a1 i j k (fun l m=>(a2 b c d e f l m (fun o p q r=>(a0 g h 2 3 (fun s t u=>(a1 s t u (fun v w=>(a2 q r d e f v w (K o p))))))))))))
def yai:kO:=Xl ybF yad yaH
def Gq (w:kO) (az:Ls) (b:HB) (K:PV→Ls→Prop):Prop:=
 match az,b with
 | [(.ptr 0 1 0 0),(ic p2),(.agg [(ic p3),(ic p4)]),(.agg [(ic p5),(ic p6)])],⟨false,true,2,[(.agg [(.data p0),(.data p1)])]⟩=>w p0 p1 p2 p3 p4 p5 p6 (fun r0 r1 r2 r3 r4 r5=>K (.tup [(.agg [(ic r0),(ic r1)]),(.agg [(ic r2),(ic r3)])]) [(.agg [(.data r4),(.data r5)])])
 | _,_=>False
def nw (az:Ls) (b:HB) (K:PV→Ls→Prop):Prop:=Gq yai az b K
def ny (e:Es) (a0:dE) (a1:gT) (a2:rW):SE:=⟨(E e),ygn [(AW,fA.pw a0),(yX,Bq.pw a1)],ygo [],cG,ymi [(Fa,Jp a2)]⟩
theorem yoY (e:Es) (he:EG e):SEOk (bC (E e)) (ny e ybF yad yaH):=xC (aK.uni _) ⟨(Fs e he),(Gp e he),trivial⟩ trivial he.ok ⟨(Xk e he),trivial⟩
theorem yqR (e:Es) (a0 a1 a2 p0 p1 p2 p3 p4 p5 p6 K):rL (ny e a0 a1 a2) 6 S7 [(.ptr 0 1 0 0),(ic p2),(.agg [(ic p3),(ic p4)]),(.agg [(ic p5),(ic p6)])] ⟨false,true,2,[(.agg [(.data p0),(.data p1)])]⟩ K=Xl a0 a1 a2 p0 p1 p2 p3 p4 p5 p6 (fun b c d e f g=>K (.tup [(.agg [(ic b),(ic c)]),(.agg [(ic d),(ic e)])]) [(.agg [(.data f),(.data g)])]):=by kernel_rfl
theorem NP (e:Es) (he:EG e):uY (E e) nw CA:=by
 intro az b K h;unfold nw Gq at h;split at h
 ·exact uS (yoY e he) bA.flat (aZ (by kernel_rfl)) (by kernel_rfl) (he.num _ (by kernel_rfl)) ((yqR ..).mpr h)
 ·exact h.elim
def Gr (a0:iI) (x0:Ls→Int→Ls→Int→Int→Bool→Prop):Nat→Ls→Int→Ls→Int→Int→Prop
 | 0,_,_,_,_,_=>False
 | n+1,b,c,d,e,f=>
 (aA (decide (f<e)) (jn (fun (a:Int→Prop)=>(aB (decide (0≤f)) (aB (decide (f<(((length d):Nat):Int))) (lt (getD d (f.toNat) .nils) (fun g=>(aB (aE zI g) (aB (decide (0≤(aC g))) (aB (decide ((aC g)<(((length b):Nat):Int))) (lt (getD b ((aC g).toNat) .nils) (fun h=>(aB (aE z2 h) (aB (decide (0≤c)) (aB (decide (c<(((length b):Nat):Int))) (lt (getD b (c.toNat) .nils) (fun i=>(aB (aE z2 i) (a0 (aC (aD h 0)) (aC (aD h 1)) (aC (aD i 0)) (aC (aD i 1)) (fun j k=>(aA (decide (j>0)) (a (aC g)) (a c)))))))))))))))))))) (fun g=>(lt (i64.wrap (f+1)) (Gr a0 x0 n b g d e)))) (x0 b c d e f false))
def Xm (a0:iI) (b c:Ls) (K:Int→Prop):Prop:=
 (aB (decide (0<(((length c):Nat):Int))) (lt (getD c 0 .nils) (fun d=>(aB (aE zI d) (∃ n:Nat,Gr a0 (fun e f g h i j=>(K f)) n b (aC d) c (((length c):Nat):Int) 0)))))
def yau:cX:=Xm rU
def Gs:Sg:=⟨vL,Int→Prop,fun K=>(fun r0=>K (ic r0))⟩
def yyH (Q:Qx):Ls→Int→Ls→Int→Int→Bool→Prop:=(fun b c d e f g=>Q (.exit 0) [(0,.v (.data b)),(5,.v (ic c)),(13,.v (.data d)),(14,.v (ic e)),(15,.v (ic f)),(16,.v (.bool g))] [])
def Dn:Pat aG:=fV 14 bL (fV 15 bL fN)
def rX:Pat aG:=fV 13 vD Dn
def nz (a0:iI) (Q:Qx):List St:=[⟨(pS hN (fV 0 vD (fV 5 bL rX)) fN),Gr a0 (yyH Q)⟩]
def oa (a0:iI):LP:=fG [(12610200,nz a0)]
def Xn (e:Es) (a0:iI):SE:=sE (E e) [(Cv,Fw.pw a0)] (oa a0)
theorem oe (e:Es) (he:EG e):SEOk (bC (E e)) (Xn e rU):=bK (aK.uni _) ⟨(IP e he),trivial⟩ trivial he.ok
theorem ywZ (e:Es) (a0):eC (Xn e a0) 5 a RA false (nz a0):=fun _=>⟨fun _=>by kernel_rfl,fun _ _=>by kernel_rfl,trivial⟩
theorem yw0 (e:Es) (he:EG e):cQ (bC (E e)) (oa rU) [] 12610200 (.loop 12610200 RA):=fun _ _ _=>bU.st (aK.uni _) (cL (oe e he) 5) (cF.no _ _) (aZ (by kernel_rfl)) (ywZ e _ _)
theorem yEa (e:Es) (a0):bN (Xn e a0) 6 Rz Gs (Xm a0):=fun _ _=>by kernel_rfl
theorem Jq (e:Es) (he:EG e):bM (E e) (Gs.pw yau) CC:=bO he (yEa e _) (oe e he) bA.flat (cZ (l:=[(12610200,.loop 12610200 RA)]) ⟨yw0 e he,trivial⟩ (by kernel_rfl))
end Go.Pf.Vc
