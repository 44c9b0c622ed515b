/- Part 4. -/
import Derived.Test.YtlccifogaejlnaaEbW3
open Go.IntKind (i64 u8 u64)
open List (length getD take drop replicate set map isEmpty)
namespace Go.Pf.Vc
open Go Go.Pf
set_option linter.unusedVariables false
theorem I5 (p0:Int) (p1 p2:Ls) (r0:Bool) (h:∀ K:Bool→Prop,K r0→sC p0 p1 p2 K) (K:Bool→Prop):sC p0 p1 p2 K=K r0:=
 Aac ⟨fun k=>dO (TH [] jK) (as:=[(.agg [(ic p0),(.data p1),(.data p2)])]) (x:=(.bool r0)) (fun K' k'=>h (fun r0=>K' (.bool r0)) k') (K:=fun x=>match x with | (.bool r0)=>K r0 | _=>False) k,h K⟩
theorem I6 (p0:Ls) (r0:Int) (h:∀ K:Int→Prop,K r0→mU p0 K) (K:Int→Prop):mU p0 K=K r0:=
 Aac ⟨fun k=>dO (I0 [] jK) (as:=[(.data p0)]) (x:=(ic r0)) (fun K' k'=>h (fun r0=>K' (ic r0)) k') (K:=fun x=>match x with | (ic r0)=>K r0 | _=>False) k,h K⟩
theorem xe (p0 p1:Ls) (r0 r1:Int) (h:∀ K:Int→Int→Prop,K r0 r1→nH p0 p1 K) (K:Int→Int→Prop):nH p0 p1 K=K r0 r1:=
 Aac ⟨fun k=>dO (I2 [] jK) (as:=[(.data p0),(.data p1)]) (x:=(.agg [(ic r0),(ic r1)])) (fun K' k'=>h (fun r0 r1=>K' (.agg [(ic r0),(ic r1)])) k') (K:=fun x=>match x with | (.agg [(ic r0),(ic r1)])=>K r0 r1 | _=>False) k,h K⟩
theorem I7 (p0 r0:Ls) (r1 r2 r3:Int) (h:∀ K:Ls→Int→Int→Int→Prop,K r0 r1 r2 r3→GU p0 K) (K:Ls→Int→Int→Int→Prop):GU p0 K=K r0 r1 r2 r3:=
 Aac ⟨fun k=>Is (I4 [] jK) (as:=[(.data p0)]) (x:=(.tup [(.data r0),(.agg [(ic r1),(ic r2)]),(ic r3)])) (fun K' k'=>h (fun r0 r1 r2 r3=>K' (.tup [(.data r0),(.agg [(ic r1),(ic r2)]),(ic r3)])) k') (K:=fun x=>match x with | (.tup [(.data r0),(.agg [(ic r1),(ic r2)]),(ic r3)])=>K r0 r1 r2 r3 | _=>False) k,h K⟩
set_option maxRecDepth 100000
def GV (a0:wZ) (x0:Ls→Int→Bool→Prop) (x1:Bool→Prop):Nat→Ls→Int→Prop
 | 0,_,_=>False
 | n+1,b,c=>
 (aM (decide (c<(((length b):Nat):Int))) (jn (fun (a:Bool→Prop)=>(aI (decide (0≤c)) (aI (decide (c<(((length b):Nat):Int))) (lt (getD b (c.toNat) .nils) (fun d=>(aI (aZ zK d) (aM (decide ((((length (lM (fB d 1))):Nat):Int)>14)) (aI (decide (0≤c)) (aI (decide (c<(((length b):Nat):Int))) (lt (getD b (c.toNat) .nils) (fun e=>(aI (aZ zK e) (a (decide ((((length (lM (fB e 1))):Nat):Int)≤40)))))))) (a false)))))))) (fun d=>(aM d (x1 true) (lt (i64.wrap (c+1)) (GV a0 x0 x1 n b))))) (x0 b c false))
def TP (a0:wZ) (b:Ls) (K:Bool→Prop):Prop:=
 (∃ n:Nat,GV a0 (fun c d e=>(a0 c K)) K n b 0)
def GW:wZ:=TP Al
def xf (Q:Qx):Ls→Int→Bool→Prop:=(fun b c d=>Q (.exit 0) [(0,.v (.data b)),(3,.v (ic c)),(7,.v (.bool d))] [])
def xg (Q:Qx):Bool→Prop:=(fun b=>Q .ret [(2,.v (.bool b))] [])
def I8 (a0:wZ) (Q:Qx):List St:=[⟨JN,GV a0 (xf Q) (xg Q)⟩]
def I9 (a0:wZ):LP:=lpS [(60274600,I8 a0)]
def TQ (e:Es) (a0:wZ):SE:=sE (E e) [(Ix,Cd.pw a0)] (I9 a0)
theorem J0 (e:Es) (he:EG e):SEOk (cB (E e)) (TQ e Al):=cT (aX.uni _) ⟨(F8 e he),trivial⟩ trivial he.ok
theorem xh (e:Es) (a0):kQ (TQ e a0) 5 a LU false (I8 a0):=fun _=>⟨fun _=>by kernel_rfl,fun _ _=>by kernel_rfl,trivial⟩
theorem xi (e:Es) (he:EG e):kR (cB (E e)) (I9 Al) [] 60274600 (.loop 60274600 LU):=fun _ _ _=>cV.st (aX.uni _) (eJ (J0 e he) 5) (dT.no _ _) (bW (by kernel_rfl)) (xh e _ _)
theorem xj (e:Es) (a0):cZ (TQ e a0) 6 PD Cd (TP a0):=fun _ _=>by kernel_rfl
theorem J2 (e:Es) (he:EG e):cR (E e) (Cd.pw GW) Iy:=dC he (xj e _) (J0 e he) cG.flat (fM (l:=[(60274600,.loop 60274600 LU)]) ⟨xi e he,trivial⟩ (by kernel_rfl))
def GX (a0:sA) (a1:mT) (x0:Ls→Int→Bool→Prop) (x1:Int→Prop):Nat→Ls→Int→Prop
 | 0,_,_=>False
 | n+1,b,c=>
 (aM (decide (c<(((length b):Nat):Int))) (aI (decide (0≤c)) (aI (decide (c<(((length b):Nat):Int))) (lt (getD b (c.toNat) .nils) (fun d=>(aI (aZ zK d) (a1 (bV (fB d 0)) (lM (fB d 1)) (lM (fB d 2)) (fun e=>(aM (!e) (x1 2) (lt (i64.wrap (c+1)) (GX a0 a1 x0 x1 n b)))))))))) (x0 b c false))
def TR (a0:sA) (a1:mT) (b:Ls) (K:Int→Prop):Prop:=
 (a0 b ([]:Ls) (fun c=>(aM (c !=0) (K c) (aM (decide ((((length b):Nat):Int)>4)) (K 4) (∃ n:Nat,GX a0 a1 (fun d e f=>(K 0)) K n b 0)))))
def qW:jS:=TR Am Ak
def xk (Q:Qx):Ls→Int→Bool→Prop:=(fun b c d=>Q (.exit 0) [(0,.v (.data b)),(4,.v (ic c)),(17,.v (.bool d))] [])
def xl (Q:Qx):Int→Prop:=(fun b=>Q .ret [(2,.v (ic b))] [])
def J3 (a0:sA) (a1:mT) (Q:Qx):List St:=[⟨(pS hN (fV 0 vD uV) fN),GX a0 a1 (xk Q) (xl Q)⟩]
def J5 (a0:sA) (a1:mT):LP:=lpS [(10200500,J3 a0 a1)]
def TS (e:Es) (a0:sA) (a1:mT):SE:=sE (E e) [(IL,DR.pw a0),(IM,wW.pw a1)] (J5 a0 a1)
theorem J6 (e:Es) (he:EG e):SEOk (cB (E e)) (TS e Am Ak):=cT (aX.uni _) ⟨(G4 e he),(E6 e he),trivial⟩ trivial he.ok
theorem xm (e:Es) (a0 a1):kQ (TS e a0 a1) 5 a Mx false (J3 a0 a1):=fun _=>⟨fun _=>by kernel_rfl,fun _ _=>by kernel_rfl,trivial⟩
theorem xn (e:Es) (he:EG e):kR (cB (E e)) (J5 Am Ak) [] 10200500 (.loop 10200500 Mx):=fun _ _ _=>cV.st (aX.uni _) (eJ (J6 e he) 5) (dT.no _ _) (bW (by kernel_rfl)) (xm e _ _ _)
theorem xo (e:Es) (a0 a1):cZ (TS e a0 a1) 6 QH nF (TR a0 a1):=fun _ _=>by kernel_rfl
theorem TT (e:Es) (he:EG e):cR (E e) (nF.pw qW) Ge:=dC he (xo e _ _) (J6 e he) cG.flat (fM (l:=[(10200500,.loop 10200500 Mx)]) ⟨xn e he,trivial⟩ (by kernel_rfl))
abbrev JP:Type:=Int→Ls→Ls→Int→(Int→Prop)→Prop
def GY (x0:Int→Int→Ls→Ls→Int→Int→Bool→Prop):Nat→Int→Int→Ls→Ls→Int→Int→Prop
 | 0,_,_,_,_,_,_=>False
 | n+1,b,c,d,e,f,g=>
 (aM (decide (g<b)) (aI (decide (0≤g)) (aI (decide (g<(((length e):Nat):Int))) (lt (getD e (g.toNat) .nils) (fun h=>(aI (aZ zI h) (lt (i64.wrap (g+1)) (fun i=>(aI (decide (0≤i)) (aI (decide (i<(((length d):Nat):Int))) (lt (getD d (i.toNat) .nils) (fun j=>(aI (aZ zI j) (aI (decide (0≤g)) (aI (decide (g<(((length d):Nat):Int))) (lt (getD d (g.toNat) .nils) (fun k=>(aI (aZ zI k) (lt (i64.wrap ((bV j)-(bV k))) (fun l=>(lt (i64.wrap ((bV h)*l)) (fun m=>(lt (i64.wrap (f+m)) (fun o=>(lt (i64.wrap (g+1)) (GY x0 n b c d e o))))))))))))))))))))))))) (x0 b c d e f g false))
def TU (b:Int) (c d:Ls) (e:Int) (K:Int→Prop):Prop:=
 (∃ n:Nat,GY (fun f g h i j k l=>(K j)) n e b c d 0 0)
def Ed:JP:=TU
def Nj:Sg:=⟨(lC nX tI),Int→Prop,fun K=>(fun r0=>K (ic r0))⟩
def xp (Q:Qx):Int→Int→Ls→Ls→Int→Int→Bool→Prop:=(fun b c d e f g h=>Q (.exit 0) [(1,.v (ic b)),(2,.box (.agg [(ic c),(.data d),(.data e)])),(5,.v (ic f)),(6,.v (ic g)),(9,.v (.bool h))] [])
def J7 (Q:Qx):List St:=[⟨(pS hN (fV 1 gP (fX 2 nX (fV 5 gP (fV 6 gP fN)))) fN),GY (xp Q)⟩]
def J8:LP:=lpS [(81408600,J7)]
def TV (e:Es):SE:=sE (E e) [] (J8)
theorem J9 (e:Es) (he:EG e):SEOk (cB (E e)) (TV e):=cT (aX.uni _) trivial trivial he.ok
theorem xq (e:Es):kQ (TV e) 5 a MA false (J7):=fun _=>⟨fun _=>by kernel_rfl,fun _ _=>by kernel_rfl,trivial⟩
theorem xr (e:Es) (he:EG e):kR (cB (E e)) (J8) [] 81408600 (.loop 81408600 MA):=fun _ _ _=>cV.st (aX.uni _) (eJ (J9 e he) 5) (dT.no _ _) (bW (by kernel_rfl)) (xq e _)
theorem xt (e:Es):cZ (TV e) 6 QY Nj TU:=fun _ _=>by kernel_rfl
theorem TW (e:Es) (he:EG e):cR (E e) (Nj.pw Ed) Dl:=dC he (xt e) (J9 e he) cG.flat (fM (l:=[(81408600,.loop 81408600 MA)]) ⟨xr e he,trivial⟩ (by kernel_rfl))
abbrev TX:Type:=Int→Ls→Ls→J4 (Int→(J4 (Prop))→Prop)
def TY (a0:tN) (a1 a2:iO) (a3:JP) (a4:iO) (b:Int) (c d:Ls) (e f g h i:Int) (K:J4 (Prop)):Prop:=
 (aI (decide (0≤e)) (aI (decide (e<(((length d):Nat):Int))) (lt (getD d (e.toNat) .nils) (fun j=>(aI (aZ zI j) (a0 (bV j) (fun k l=>(aI (decide (0≤e)) (aI (decide (e<(((length c):Nat):Int))) (lt (getD c (e.toNat) .nils) (fun m=>(aI (aZ zI m) (a0 (bV m) (fun o p=>(a1 f g o p (fun q r s=>(a2 q r k l (fun t u v=>(a3 b c d e (fun w=>(a0 w (fun z A=>(a4 t u z A (fun B C D=>(a2 h i k l (fun E F G=>(K B C E F)))))))))))))))))))))))))))
def ybI:TX:=TY sB GN JL Ed ybM
def TZ:nS:=lC nX (lC gP (lC Ec lN))
def GZ:Sg:=⟨TZ,Int→Int→Int→Int→Prop,fun K=>(fun r0 r1 r2 r3=>K (.agg [(ic r0),(ic r1),(ic r2),(ic r3)]))⟩
def xu (e:Es) (a0:tN) (a1 a2:iO) (a3:JP) (a4:iO):SE:=sE (E e) [(nT,uX.pw a0),(yU,gF.pw a1),(BA,gF.pw a2),(Dl,Nj.pw a3),(uN,gF.pw a4)] eO
theorem xw (e:Es) (a0 a1 a2 a3 a4):cZ (xu e a0 a1 a2 a3 a4) 6 QZ GZ (TY a0 a1 a2 a3 a4):=fun _ _=>by kernel_rfl
theorem xx (e:Es) (he:EG e):cR (E e) (GZ.pw ybI) IP:=dC he (xw e _ _ _ _ _) (cT (aX.uni _) ⟨(MS e he),(Tl e he),(D7 e he),(TW e he),(Nb e he),trivial⟩ trivial he.ok) cG.flat (bW (by kernel_rfl))
def Ua (a0:tN) (a1:JP) (a2 a3 a4:iO) (b:Int) (c d:Ls) (e f g h i:Int) (K:J4 (Prop)):Prop:=
 (aI (decide (0≤e)) (aI (decide (e<(((length d):Nat):Int))) (lt (getD d (e.toNat) .nils) (fun j=>(aI (aZ zI j) (a0 (bV j) (fun k l=>(a1 b c d e (fun m=>(a0 m (fun o p=>(a2 f g o p (fun q r s=>(a3 q r k l (fun t u v=>(aI (decide (0≤e)) (aI (decide (e<(((length c):Nat):Int))) (lt (getD c (e.toNat) .nils) (fun w=>(aI (aZ zI w) (a0 (bV w) (fun z A=>(a4 t u z A (fun B C D=>(a3 h i k l (fun E F G=>(K B C E F)))))))))))))))))))))))))))
def ybV:TX:=Ua sB Ed GN JM ybM
def xy (e:Es) (a0:tN) (a1:JP) (a2 a3 a4:iO):SE:=sE (E e) [(nT,uX.pw a0),(Dl,Nj.pw a1),(yU,gF.pw a2),(BB,gF.pw a3),(uN,gF.pw a4)] eO
theorem xz (e:Es) (a0 a1 a2 a3 a4):cZ (xy e a0 a1 a2 a3 a4) 6 Rc GZ (Ua a0 a1 a2 a3 a4):=fun _ _=>by kernel_rfl
theorem ya (e:Es) (he:EG e):cR (E e) (GZ.pw ybV) IR:=dC he (xz e _ _ _ _ _) (cT (aX.uni _) ⟨(MS e he),(TW e he),(Tl e he),(D8 e he),(Nb e he),trivial⟩ trivial he.ok) cG.flat (bW (by kernel_rfl))
def Ub (a0:tN) (a1 a2:iO) (b c d e f:Int) (K:Int→Int→Prop):Prop:=
 (a0 f (fun g h=>(a1 g h b c (fun i j k=>(a2 i j d e (fun l m o=>(K l m)))))))
def mW:qV:=Ub sB GN JM
def yc (e:Es) (a0:tN) (a1 a2:iO):SE:=sE (E e) [(nT,uX.pw a0),(yU,gF.pw a1),(BB,gF.pw a2)] eO
theorem yd (e:Es) (a0 a1 a2):cZ (yc e a0 a1 a2) 6 Rd GT (Ub a0 a1 a2):=fun _ _=>by kernel_rfl
theorem ye (e:Es) (he:EG e):cR (E e) (GT.pw mW) wN:=dC he (yd e _ _ _) (cT (aX.uni _) ⟨(MS e he),(Tl e he),(D8 e he),trivial⟩ trivial he.ok) cG.flat (bW (by kernel_rfl))
def oS (p0 p1:Ls) (K:Int→Int→Prop):Prop:=
 ∃ r0 r1,K r0 r1∧∀ e:Es,EG e→tF (E e) wP [(.data p0),(.data p1)] (.agg [(.int .i64 r0),(.int .i64 r1)])
theorem Uc (e:Es) (he:EG e):cR (E e) (Nh.pw oS) wP:=fun as K h=>by obtain ⟨a,e1,r0,r1,hk,ha⟩:=Sg.inv h;subst e1;exact ⟨_,hk,ha e he⟩
def Ha (p0:Ls) (K:Ls→Int→Int→Int→Prop):Prop:=
 ∃ r0 r1 r2 r3,K r0 r1 r2 r3∧∀ e:Es,EG e→tF (E e) yV [(.data p0)] (.tup [(.data r0),(.agg [(.int .i64 r1),(.int .i64 r2)]),(.int .i64 r3)])
theorem K0 (e:Es) (he:EG e):cR (E e) (Ni.pw Ha) yV:=fun as K h=>by obtain ⟨a,e1,r0,r1,r2,r3,hk,ha⟩:=Sg.inv h;subst e1;exact ⟨_,hk,ha e he⟩
set_option linter.unusedVariables false
theorem yf (p0:Ls) (r0:Bool) (h:∀ K:Bool→Prop,K r0→GW p0 K) (K:Bool→Prop):GW p0 K=K r0:=
 Aac ⟨fun k=>dO (J2 [] jK) (as:=[(.data p0)]) (x:=(.bool r0)) (fun K' k'=>h (fun r0=>K' (.bool r0)) k') (K:=fun x=>match x with | (.bool r0)=>K r0 | _=>False) k,h K⟩
theorem yg (p0:Ls) (r0:Int) (h:∀ K:Int→Prop,K r0→qW p0 K) (K:Int→Prop):qW p0 K=K r0:=
 Aac ⟨fun k=>dO (TT [] jK) (as:=[(.data p0)]) (x:=(ic r0)) (fun K' k'=>h (fun r0=>K' (ic r0)) k') (K:=fun x=>match x with | (ic r0)=>K r0 | _=>False) k,h K⟩
theorem yh (p0:Int) (p1 p2:Ls) (p3 r0:Int) (h:∀ K:Int→Prop,K r0→Ed p0 p1 p2 p3 K) (K:Int→Prop):Ed p0 p1 p2 p3 K=K r0:=
 Aac ⟨fun k=>dO (TW [] jK) (as:=[(.agg [(ic p0),(.data p1),(.data p2)]),(ic p3)]) (x:=(ic r0)) (fun K' k'=>h (fun r0=>K' (ic r0)) k') (K:=fun x=>match x with | (ic r0)=>K r0 | _=>False) k,h K⟩
theorem yi (p0 p1:Ls) (r0 r1:Int) (h:∀ K:Int→Int→Prop,K r0 r1→oS p0 p1 K) (K:Int→Int→Prop):oS p0 p1 K=K r0 r1:=
 Aac ⟨fun k=>dO (Uc [] jK) (as:=[(.data p0),(.data p1)]) (x:=(.agg [(ic r0),(ic r1)])) (fun K' k'=>h (fun r0 r1=>K' (.agg [(ic r0),(ic r1)])) k') (K:=fun x=>match x with | (.agg [(ic r0),(ic r1)])=>K r0 r1 | _=>False) k,h K⟩
theorem K1 (p0 r0:Ls) (r1 r2 r3:Int) (h:∀ K:Ls→Int→Int→Int→Prop,K r0 r1 r2 r3→Ha p0 K) (K:Ls→Int→Int→Int→Prop):Ha p0 K=K r0 r1 r2 r3:=
 Aac ⟨fun k=>dO (K0 [] jK) (as:=[(.data p0)]) (x:=(.tup [(.data r0),(.agg [(ic r1),(ic r2)]),(ic r3)])) (fun K' k'=>h (fun r0 r1 r2 r3=>K' (.tup [(.data r0),(.agg [(ic r1),(ic r2)]),(ic r3)])) k') (K:=fun x=>match x with | (.tup [(.data r0),(.agg [(ic r1),(ic r2)]),(ic r3)])=>K r0 r1 r2 r3 | _=>False) k,h K⟩
def Ud (a0:wZ) (a1 a2:I3) (a3:TD) (b:Ls) (K:Bool→Prop):Prop:=
 (a0 b (fun c=>(aM c (K true) (a1 b (fun d e f g=>(a2 b (fun h i j k=>(jn (fun (a:Bool→Prop)=>(a3 d h (fun l=>(aM l (aM ((e==i)&&((f==j)&&true)) (a (g==k)) (a false)) (a false))))) K))))))))
def Nk:wZ:=Ud GW GU Ha Ce
def yj (e:Es) (a0:wZ) (a1 a2:I3) (a3:TD):SE:=sE (E e) [(Iy,Cd.pw a0),(oM,Ni.pw a1),(yV,Ni.pw a2),(IS,TF.pw a3)] eO
theorem ym (e:Es) (a0 a1 a2 a3):cZ (yj e a0 a1 a2 a3) 6 RE Cd (Ud a0 a1 a2 a3):=fun _ _=>by kernel_rfl
theorem yo (e:Es) (he:EG e):LN (E e) (Cd.pw Nk) Pz:=dC he (ym e _ _ _ _) (cT (aX.solo _) ⟨(cR.solo (J2 e he)),(I4 e he),(cR.solo (K0 e he)),(cR.solo (G8 e he)),trivial⟩ trivial he.ok) cG.flat (bW (by kernel_rfl))
def dI (n:Int):Prop:=-9223372036854775808≤n∧n≤9223372036854775807
def gK (n:Int):Prop:=0≤n∧n≤18446744073709551615
theorem oU (n:Int):u64.wrap n=n%18446744073709551616:=by simp only [IntKind.wrap,IntKind.signed,IntKind.bits,qK,iZ,if_false];rfl
theorem yp (n:Int):i64.wrap n=if n%18446744073709551616≥9223372036854775808 then n%18446744073709551616-18446744073709551616 else n%18446744073709551616:=by
 have e1:(2:Int) ^ 64=18446744073709551616:=rfl;have e2:(2:Int) ^ (64-1)=9223372036854775808:=rfl;simp only [IntKind.wrap,IntKind.signed,IntKind.bits,sS,e1,e2]
 by_cases h:n%18446744073709551616≥9223372036854775808<;>simp [h]
theorem bF {n:Int} (h:gK n):u64.wrap n=n:=by unfold gK at h;rw [oU];omega
theorem dU {n:Int} (h:dI n):i64.wrap n=n:=by unfold dI at h;rw [yp];split<;>omega
theorem bU {x y:Prop}:aM true x y=x:=rfl
theorem bN {x y:Prop}:aM false x y=y:=rfl
theorem gG {x:Prop}:aI true x=x:=rfl
theorem Cf {p:Int} (h:dI p) (K:Int→Prop):DN p K=K (p.natAbs:Int):=by
 unfold dI at h;unfold DN RF
 by_cases hp:p<0
 ·have e:u64.wrap ((0:Int)-u64.wrap p)=(p.natAbs:Int):=by
   rw [oU,oU];omega
  rw [Eb hp,bU,e]
 ·rw [Os hp,bN,bF ⟨by omega,by omega⟩];congr 1;omega
theorem K2 (x:Int→Int→Bool→Prop):∀ (n a b:Nat),b<n→Jx x n (a:Int) (b:Int)=x ((Nat.gcd a b:Nat):Int) 0 false
 | 0,a,b,h=>by omega
 | n+1,a,b,h=>by
  unfold Jx
  by_cases hb:b=0
  ·subst hb;simp [aM]
  ·have h1:(b:Int)>0:=by omega
   have h2:¬((b:Int)=0):=by omega
   rw [Eb h1,bU,Os h2,Bool.not_false,gG];have e:Int.tmod (a:Int) (b:Int)=((a%b:Nat):Int):=by rw [Int.tmod_eq_emod_of_nonneg (by omega)];omega
   rw [e,K2 x n b (a%b) (by have:=Nat.mod_lt a (show b>0 by omega);omega)];rw [vY a b,Nat.gcd_rec b a,vY]
theorem JQ (a b:Nat) (K:Int→Prop) (h:K ((Nat.gcd a b:Nat):Int)):uU (a:Int) (b:Int) K:=by unfold uU RG;exact ⟨b+1,by rw [K2 _ (b+1) a b (by omega)];exact h⟩
def RV (n d:Int):Prop:=1≤d∧d≤1000000000000000000∧-1000000000000000000≤n∧n≤1000000000000000000∧Nat.gcd n.natAbs d.natAbs=1
instance (n d:Int):Decidable (RV n d):=by unfold RV;infer_instance
def nY (n d:Int):Int:=if RV n d then 0 else 8
theorem K3 {n d:Int} (hn:dI n) (hd:dI d) {K:Int→Prop} (h:K (nY n d)):Gy n d K:=by
 unfold Gy RK
 by_cases h1:d<1
 ·have e:nY n d=8:=WO fun h=>by have:=h.1;omega
  rw [Eb h1,bU,← e];exact h
 ·have hd':=hd;have hn':=hn;unfold dI at hd' hn';have ed:u64.wrap d=((d.natAbs:Nat):Int):=by rw [bF ⟨by omega,by omega⟩];omega
  rw [Os h1,bN,Cf hn,ed]
  by_cases h2:((if ((d.natAbs:Nat):Int)>((n.natAbs:Nat):Int) then ((d.natAbs:Nat):Int) else ((n.natAbs:Nat):Int))>1000000000000000000)
  ·have e:nY n d=8:=WO fun h=>by
    obtain ⟨a1,a2,a3,a4,_⟩:=h;revert h2;split<;>omega
   rw [Eb h2,bU,← e];exact h
  ·rw [Os h2,bN,Cf hn];refine JQ _ _ _ ?_;have h3:0<Nat.gcd n.natAbs d.natAbs:=xN _ (by omega);have h4:d≤1000000000000000000∧-1000000000000000000≤n∧n≤1000000000000000000:=by
    revert h2;split<;>omega
   by_cases h5:((Nat.gcd n.natAbs d.natAbs:Nat):Int)>1
   ·have e:nY n d=8:=WO fun h=>by have:=h.2.2.2.2;omega
    rw [Eb h5,bU,← e];exact h
   ·have e:nY n d=0:=WN ⟨by omega,h4.1,h4.2.1,h4.2.2,by omega⟩;rw [Os h5,bN,← e];exact h
theorem Ap {p:Int} (h:gK p):u64.wrap (BitVec.ofInt u64.bits p&&&BitVec.ofInt u64.bits (4294967295:Int)).toNat=p%4294967296:=by
 unfold gK at h;have e1:(BitVec.ofInt 64 p).toNat=p.toNat:=by
  rw [BitVec.toNat_ofInt];omega
 have e2:(BitVec.ofInt 64 (4294967295:Int)).toNat=4294967295:=rfl;have e3:(BitVec.ofInt u64.bits p&&&BitVec.ofInt u64.bits (4294967295:Int)).toNat=p.toNat%4294967296:=by show (BitVec.ofInt 64 p&&&BitVec.ofInt 64 (4294967295:Int)).toNat=_;rw [BitVec.toNat_and,e1,e2];exact Nat.and_two_pow_sub_one_eq_mod p.toNat 32
 rw [e3,oU];omega
theorem K4 (p:Int):Int.fdiv p 4294967296=p/4294967296:=by rw [Int.fdiv_eq_ediv_of_nonneg _ (by omega)]
theorem Ee {a b:Int} (ha:gK a) (hb:gK b) (K:Int→Int→Prop):Ah a b K=K (a*b/18446744073709551616) (a*b%18446744073709551616):=by
 unfold Ah RQ;simp only [K4];rw [Ap ha,Ap hb];unfold gK at ha hb;have ha':=ha;have hb':=hb;obtain ⟨x1,hx1⟩:∃ x,x=a/4294967296:=⟨_,rfl⟩;obtain ⟨x0,hx0⟩:∃ x,x=a%4294967296:=⟨_,rfl⟩;obtain ⟨y1,hy1⟩:∃ x,x=b/4294967296:=⟨_,rfl⟩;obtain ⟨y0,hy0⟩:∃ x,x=b%4294967296:=⟨_,rfl⟩;rw [← hx1,← hx0,← hy1,← hy0];have b1:0≤x1∧x1≤4294967295:=by omega
 have b2:0≤x0∧x0≤4294967295:=by omega
 have b3:0≤y1∧y1≤4294967295:=by omega
 have b4:0≤y0∧y0≤4294967295:=by omega
 have pb:∀ x y:Int,0≤x∧x≤4294967295→0≤y∧y≤4294967295→0≤x*y∧x*y≤18446744065119617025:=by intro x y hx hy;refine ⟨lK hx.1 hy.1,?_⟩;have:=nB hx.2 hy.2 hy.1 (by omega:(0:Int)≤4294967295);omega
 have p1:=pb x1 y1 b1 b3;have p2:=pb x1 y0 b1 b4;have p3:=pb x0 y1 b2 b3;have p4:=pb x0 y0 b2 b4;have ea:a=x1*4294967296+x0:=by omega
 have eb:b=y1*4294967296+y0:=by omega
 have eab:a*b=x1*y1*18446744073709551616+x1*y0*4294967296+x0*y1*4294967296+x0*y0:=by rw [ea,eb];grind
 obtain ⟨P,hP⟩:∃ x,x=x1*y1:=⟨_,rfl⟩;obtain ⟨Q,hQ⟩:∃ x,x=x1*y0:=⟨_,rfl⟩;obtain ⟨R,hR⟩:∃ x,x=x0*y1:=⟨_,rfl⟩;obtain ⟨S,hS⟩:∃ x,x=x0*y0:=⟨_,rfl⟩;rw [← hP] at p1;rw [← hQ] at p2;rw [← hR] at p3;rw [← hS] at p4;rw [← hP,← hQ,← hR,← hS] at eab ⊢;have w1:u64.wrap S=S:=bF ⟨by omega,by omega⟩;have w2:u64.wrap Q=Q:=bF ⟨by omega,by omega⟩;have w3:u64.wrap R=R:=bF ⟨by omega,by omega⟩;have w4:u64.wrap P=P:=bF ⟨by omega,by omega⟩;rw [w1,w2,w3,w4];have w5:u64.wrap (Q+S/4294967296)=Q+S/4294967296:=bF ⟨by omega,by omega⟩;rw [w5,Ap ⟨by omega,by omega⟩];have w6:u64.wrap ((Q+S/4294967296)%4294967296+R)=(Q+S/4294967296)%4294967296+R:=bF ⟨by omega,by omega⟩;rw [w6];have w7:u64.wrap (P+(Q+S/4294967296)/4294967296)=P+(Q+S/4294967296)/4294967296:=by
  have:a*b/18446744073709551616≤18446744073709551615:=by
   have h1:a*b≤18446744073709551615*18446744073709551615:=by have:=nB ha'.2 hb'.2 hb'.1 (by omega:(0:Int)≤18446744073709551615);exact this
   omega
  exact bF ⟨by omega,by omega⟩
 rw [w7];have hab:a*b≤18446744073709551615*18446744073709551615:=nB ha'.2 hb'.2 hb'.1 (by omega:(0:Int)≤18446744073709551615);rw [eab] at hab ⊢;rw [oU,oU];congr 1;omega
theorem yq {a b:Int} {K:Int→Prop} (h:K (if a=0 then b else a)):MG [.int .i64 a,.int .i64 b] K:=by
 unfold MG RM;refine ⟨3,?_⟩;have e1:i64.wrap 1=1:=by decide
 have e2:i64.wrap 2=2:=by decide
 by_cases ha:a=0
 ·by_cases hb:b=0
  ·simp [GA,bU,bN,gG,aZ,tE,bV,e1,e2,ha,hb] at h ⊢;exact h
  ·have e3:(b !=0)=true:=by simpa using hb
   simp [GA,bU,bN,gG,aZ,tE,bV,e1,e2,ha,e3] at h ⊢;exact h
 ·have e3:(a !=0)=true:=by simpa using ha
  simp [GA,bU,bN,gG,aZ,tE,bV,e1,e2,ha,e3] at h ⊢;exact h
def dA (a b c d:Int):Int:=if nY a b=0 then nY c d else nY a b
theorem JR {a b c d:Int} (ha:dI a) (hb:dI b) (hc:dI c) (hd:dI d) {K:Int→Prop} (h:K (dA a b c d)):BQ a b c d K:=by unfold BQ RP;exact K3 ha hb (K3 hc hd (yq h))
def gY (a b:Int):Int:=if a<b then -1 else if a>b then 1 else 0
theorem yr (a b:Int) (K:Int→Prop):MN a b K=K (gY a b):=by
 unfold MN Sr;simp only [So,Sn,bne_self_eq_false,bN,gY]
 by_cases h:a<b
 ·simp [h,bU]
 ·by_cases h2:a>b
  ·simp [h,h2,bU,bN]
  ·simp [h,h2,bN]
theorem K5 (a b:Int) (K:Int→Prop):MO a b K=K (gY a b):=by
 unfold MO Sx;simp only [Sv,Su,bne_self_eq_false,bN,gY]
 by_cases h:a<b
 ·simp [h,bU]
 ·by_cases h2:a>b
  ·simp [h,h2,bU,bN]
  ·simp [h,h2,bN]
theorem yt {a b:Int} {K:Int→Prop} (h:K (if a=0 then b else a)):MP [.int .i64 a,.int .i64 b] K:=by
 unfold MP Sz;refine ⟨3,?_⟩;have e1:i64.wrap 1=1:=by decide
 have e2:i64.wrap 2=2:=by decide
 by_cases ha:a=0
 ·by_cases hb:b=0
  ·simp [GE,bU,bN,gG,aZ,tE,bV,e1,e2,ha,hb] at h ⊢;exact h
  ·have e3:(b !=0)=true:=by simpa using hb
   simp [GE,bU,bN,gG,aZ,tE,bV,e1,e2,ha,e3] at h ⊢;exact h
 ·have e3:(a !=0)=true:=by simpa using ha
  simp [GE,bU,bN,gG,aZ,tE,bV,e1,e2,ha,e3] at h ⊢;exact h
theorem Aq {a b c d:Int}:dA a b c d=0↔RV a b∧RV c d:=by
 unfold dA nY
 by_cases h1:RV a b<;>by_cases h2:RV c d<;>simp [h1,h2]
def pW (a b c d:Int):Int:=gY (a*d) (c*b)
theorem yu {x y:Int} (hx:0≤x) (hy:0≤y):(if gY (x/18446744073709551616) (y/18446744073709551616)=0 then gY (x%18446744073709551616) (y%18446744073709551616) else gY (x/18446744073709551616) (y/18446744073709551616))=gY x y:=by unfold gY;split<;>rename_i h<;>revert h<;>repeat' split<;>intro h<;>omega
theorem gK.abs {n:Int} (h:dI n):gK ((n.natAbs:Nat):Int):=by unfold dI at h;unfold gK;omega
theorem yv {a b c d:Int} (ha:dI a) (hb:dI b) (hc:dI c) (hd:dI d) {K:Int→Int→Prop} (h:K (if dA a b c d=0 then pW a b c d else 0) (dA a b c d)):DP a b c d K:=by
 unfold DP SB;refine JR ha hb hc hd ?_
 by_cases hk:dA a b c d=0
 ·rw [WN hk] at h;rw [hk] at h ⊢;obtain ⟨⟨b1,b2,a1,a2,_⟩,d1,d2,c1,c2,_⟩:=Aq.1 hk;simp only [bne_self_eq_false,bN]
  by_cases hs:decide (a<0)=decide (c<0)
  ·have e:(decide (a<0) !=decide (c<0))=false:=by rw [hs];simp
   rw [e,bN,Cf ha,bF ⟨by omega,by omega⟩,Ee (gK.abs ha) ⟨by omega,by omega⟩,Cf hc,bF ⟨by omega,by omega⟩,Ee (gK.abs hc) ⟨by omega,by omega⟩,K5,K5];refine yt ?_;have p1:0≤((a.natAbs:Nat):Int)*d:=lK (by omega) (by omega);have p2:0≤((c.natAbs:Nat):Int)*b:=lK (by omega) (by omega);rw [yu p1 p2]
   by_cases hneg:a<0
   ·have hcn:c<0:=by simpa [hneg] using hs.symm
    rw [Eb hneg,bU];have e1:((a.natAbs:Nat):Int)*d=-(a*d):=by
     rw [show ((a.natAbs:Nat):Int)=-a by omega,Ba]
    have e2:((c.natAbs:Nat):Int)*b=-(c*b):=by rw [show ((c.natAbs:Nat):Int)=-c by omega,Ba]
    have e3:i64.wrap (0-gY (((a.natAbs:Nat):Int)*d) (((c.natAbs:Nat):Int)*b))=pW a b c d:=by
     rw [e1,e2];unfold pW gY;rw [dU (by unfold dI;repeat' split<;>omega)]
     repeat' split<;>omega
    rw [e3];exact h
   ·have hcn:¬c<0:=by simpa [hneg] using hs.symm
    rw [Os hneg,bN,show ((a.natAbs:Nat):Int)=a by omega,show ((c.natAbs:Nat):Int)=c by omega];exact h
  ·have e:(decide (a<0) !=decide (c<0))=true:=by simpa using hs
   rw [e,bU,yr];have e2:gY a c=pW a b c d:=by
    unfold pW gY
    by_cases hneg:a<0
    ·have hcn:¬c<0:=by intro hcn;simp [hneg,hcn] at hs
     have q1:a*d<0:=EM hneg (by omega);have q2:0≤c*b:=lK (by omega) (by omega);rw [WN (by omega),WN (by omega)]
    ·have hcn:c<0:=by
      by_cases hcn:c<0
      ·exact hcn
      ·simp [hneg,hcn] at hs
     have q1:c*b<0:=EM hcn (by omega);have q2:0≤a*d:=lK (by omega) (by omega);rw [WO (by omega),WN (by omega),WO (by omega),WN (by omega)]
   rw [e2];exact h
 ·rw [WO hk] at h;have e:(dA a b c d !=0)=true:=by simpa using hk
  rw [e,bU];exact h
def blen (x:Nat):Nat:=if x=0 then 0 else x.log2+1
theorem K6 (x:Nat):x<2 ^ blen x:=by
 unfold blen;split
 ·rename_i h;subst h;decide
 ·exact Nat.lt_log2_self
theorem Nl {x:Nat} (h:x≠0):2 ^ (blen x-1)≤x:=by unfold blen;rw [WO h];exact Nat.log2_self_le h
theorem yw {x m:Nat} (h1:2 ^ m≤x) (h2:x<2 ^ (m+1)):blen x=m+1:=by
 have hx:x≠0:=by have:=Nat.two_pow_pos m;omega
 unfold blen;rw [WO hx];congr 1;have a:=Nat.log2_self_le hx;have b:=Nat.lt_log2_self (n:=x);have c1:¬(x.log2<m):=fun h=>by
  have:=HD (show 0<2 by omega) (show x.log2+1≤m by omega);omega
 have c2:¬(m<x.log2):=fun h=>by
  have:=HD (show 0<2 by omega) (show m+1≤x.log2 by omega);omega
 omega
theorem yx {x k:Nat} (h:2 ^ k≤x):blen x=k+blen (x/2 ^ k):=by
 have hp:=Nat.two_pow_pos k;have hq:x/2 ^ k≠0:=by have:=Nat.div_pos h hp;omega
 have h1:=Nl hq;have h2:=K6 (x/2 ^ k);obtain ⟨m,hm⟩:∃ m,blen (x/2 ^ k)=m+1:=⟨blen (x/2 ^ k)-1,by
  have:blen (x/2 ^ k)≠0:=by unfold blen;rw [WO hq];omega
  omega⟩
 rw [hm] at h1 h2 ⊢;rw [Nat.add_sub_cancel] at h1;have:=yw (x:=x) (m:=k+m) (by
   rw [Nat.pow_add]
   calc 2 ^ k*2 ^ m≤2 ^ k*(x/2 ^ k):=Nat.mul_le_mul_left _ h1
    _≤x:=Nat.mul_div_le _ _) (by
   rw [show k+m+1=k+(m+1) by omega,Nat.pow_add];rw [Nat.mul_comm];exact (Nat.div_lt_iff_lt_mul hp).1 h2)
 omega
theorem yy:∀ x:Nat,x<256→bV (getD uI x .nils)=(blen x:Int):=by decide +kernel
theorem K7 {n:Int} (h0:0≤n) (h1:n<256):u8.wrap n=n:=by have e1:(2:Int) ^ 8=256:=rfl;simp only [IntKind.wrap,IntKind.signed,IntKind.bits,qK,iZ,if_false,e1];omega
theorem yz {n:Int} (h0:0≤n) (h1:n<256):bV (getD uI (u8.wrap n).toNat .nils)=(blen n.toNat:Int):=by rw [K7 h0 h1];exact yy n.toNat (by omega)
theorem za {n:Nat} (h:n<256):blen n≤8:=by
 by_cases h0:n=0
 ·subst h0;decide
 ·have:=Nl h0;have h2:blen n-1<8:=by
   refine Nat.lt_of_not_le fun hc=>?_
   have:=HD (show 0<2 by omega) hc;omega
  omega
theorem Cg {n k:Int} (h0:0≤n) (h1:n<256) (hk:0≤k∧k≤56) {m:Int} (hm:m=k+blen n.toNat) {K:Int→Prop} (h:K m) :
  aI (decide ((0:Int)≤(u8.wrap n))) (aI (decide ((u8.wrap n)<(256:Int))) (K (i64.wrap (k+(i64.wrap (bV (getD uI ((u8.wrap n).toNat) .nils))))))):=by
 have hb:=za (n:=n.toNat) (by omega);have e1:i64.wrap (blen n.toNat:Int)=blen n.toNat:=dU (by unfold dI;omega);have e2:i64.wrap (k+blen n.toNat:Int)=k+blen n.toNat:=dU (by unfold dI;omega);rw [yz h0 h1,K7 h0 h1,Eb h0,gG,Eb h1,gG,e1,e2,← hm];exact h
theorem Ci (p q:Int) (hq:0≤q):Int.fdiv p q=p/q:=Int.fdiv_eq_ediv_of_nonneg _ hq
theorem zb {p:Int} (hp:gK p) {K:Int→Prop} (h:K (blen p.toNat:Int)):MI p K:=by
 unfold gK at hp;unfold MI RS;simp only [Ci _ 4294967296 (by omega),Ci _ 65536 (by omega),Ci _ 256 (by omega)];have key:∀ (k:Nat) (q:Int),2 ^ k≤p.toNat→q=p/(2 ^ k:Nat)→(blen p.toNat:Int)=k+blen q.toNat:=by
  intro k q hk hq;have e:q.toNat=p.toNat/2 ^ k:=by
   rw [hq];obtain ⟨m,rfl⟩:∃ m:Nat,p=m:=⟨p.toNat,by omega⟩;rw [← mM,dR,dR]
  rw [e];have:=yx hk;omega
 by_cases h1:p≥4294967296
 ·rw [Eb h1,bU]
  by_cases h2:p/4294967296≥65536
  ·rw [Eb h2,bU]
   by_cases h3:p/4294967296/65536≥256
   ·rw [Eb h3,bU];exact Cg (by omega) (by omega) (by omega) (key 56 _ (by omega) (by omega)) h
   ·rw [Os h3,bN];exact Cg (by omega) (by omega) (by omega) (key 48 _ (by omega) (by omega)) h
  ·rw [Os h2,bN]
   by_cases h3:p/4294967296≥256
   ·rw [Eb h3,bU];exact Cg (by omega) (by omega) (by omega) (key 40 _ (by omega) (by omega)) h
   ·rw [Os h3,bN];exact Cg (by omega) (by omega) (by omega) (key 32 _ (by omega) (by omega)) h
 ·rw [Os h1,bN]
  by_cases h2:p≥65536
  ·rw [Eb h2,bU]
   by_cases h3:p/65536≥256
   ·rw [Eb h3,bU];exact Cg (by omega) (by omega) (by omega) (key 24 _ (by omega) (by omega)) h
   ·rw [Os h3,bN];exact Cg (by omega) (by omega) (by omega) (key 16 _ (by omega) (by omega)) h
  ·rw [Os h2,bN]
   by_cases h3:p≥256
   ·rw [Eb h3,bU];exact Cg (by omega) (by omega) (by omega) (key 8 _ (by omega) (by omega)) h
   ·rw [Os h3,bN];exact Cg (by omega) (by omega) (by omega) (by simp) h
theorem zc {p:Int} (hp:gK p) {K:Int→Prop} (h:K (64-blen p.toNat:Int)):BR p K:=by
 unfold BR RT;refine zb hp ?_;have hb:blen p.toNat≤64:=by
  unfold gK at hp
  by_cases h0:p.toNat=0
  ·rw [h0];decide
  ·have:=Nl h0;have h2:blen p.toNat-1<64:=by
    refine Nat.lt_of_not_le fun hc=>?_
    have:=HD (show 0<2 by omega) hc;omega
   omega
 rw [dU (by unfold dI;omega)];exact h
structure DI (y a b u un q r:Int):Prop where
 hy:y=a*4294967296+b
 h1:2147483648≤a∧a≤4294967295
 h0:0≤b∧b≤4294967295
 hn:0≤un∧un≤4294967295
 hu:q*a+r=u
 hq:0≤q∧q≤4294967297
 hr:0≤r∧r≤4294967295
 hlt:u<y
 hU:u*4294967296+un<(q+1)*y
def DG (y u un q:Int):Prop:=0≤q∧q≤4294967295∧q*y≤u*4294967296+un∧u*4294967296+un<(q+1)*y
theorem DI.step {y a b u un q r:Int} (h:DI y a b u un q r) {A B C:Prop}
  (hA:DG y u un (q-1)→0≤q-1→q-1≤4294967296→A)
  (hB:DI y a b u un (q-1) (r+a)→B)
  (hC:DG y u un q→C) :
  aM (decide (q≥(4294967296:Int)))
   (aM (decide ((u64.wrap (r+a))≥(4294967296:Int))) A B)
   (aM (decide ((u64.wrap (q*b))>(u64.wrap ((u64.wrap ((4294967296:Int)*r))+un))))
    (aM (decide ((u64.wrap (r+a))≥(4294967296:Int))) A B) C):=by
 have h':=h;obtain ⟨hy,h1,h0,hn,hu,hq,hr,hlt,hU⟩:=h;have e1:u64.wrap (r+a)=r+a:=bF ⟨by omega,by omega⟩;have eq1:q*y=q*a*4294967296+q*b:=by rw [hy];grind
 have eq2:(q-1)*y=q*y-y:=by grind
 have eq3:(q-1)*a=q*a-a:=by grind
 have eq4:(q-1+1)*y=q*y:=by grind
 have eq5:(q-1)*b=q*b-b:=by grind
 have big:u*4294967296+un<q*y→aM (decide ((u64.wrap (r+a))≥(4294967296:Int))) A B:=by
  intro hb;have q1:0≤q-1:=by
   refine Int.not_lt.1 fun hc=>?_
   have hq0:q=0:=by omega
   subst hq0;simp at hb hu;omega
  rw [e1]
  by_cases hc:r+a≥4294967296
  ·rw [Eb hc,bU];have hp:(q-1)*b≤4294967296*4294967295:=nB (by omega) h0.2 h0.1 (by omega);have hle:(q-1)*y≤u*4294967296+un:=by
    have:(q-1)*y=(q-1)*a*4294967296+(q-1)*b:=by rw [hy];grind
    omega
   have hlt32:q-1≤4294967295:=by
    refine Int.not_lt.1 fun hc=>?_
    have:4294967296*y≤(q-1)*y:=EH (by omega) (by omega);omega
   exact hA ⟨q1,hlt32,hle,by rw [eq4];exact hb⟩ q1 (by omega)
  ·rw [Os hc,bN];exact hB ⟨hy,h1,h0,hn,by rw [eq3];omega,⟨q1,by omega⟩,⟨by omega,by omega⟩,hlt,by rw [eq4];exact hb⟩
 by_cases ha:q≥4294967296
 ·rw [Eb ha,bU];refine big ?_;have:4294967296*y≤q*y:=EH (by omega) (by omega);omega
 ·rw [Os ha,bN];have hp:q*b≤4294967295*4294967295:=nB (by omega) h0.2 h0.1 (by omega);have hp0:0≤q*b:=lK hq.1 h0.1;have w1:u64.wrap (q*b)=q*b:=bF ⟨hp0,by omega⟩;have w2:u64.wrap ((4294967296:Int)*r)=4294967296*r:=bF ⟨by omega,by omega⟩;have w3:u64.wrap ((4294967296:Int)*r+un)=4294967296*r+un:=bF ⟨by omega,by omega⟩;rw [w1,w2,w3]
  by_cases hb:q*b>4294967296*r+un
  ·rw [Eb hb,bU];exact big (by omega)
  ·rw [Os hb,bN];exact hC ⟨hq.1,by omega,by omega,hU⟩
theorem zd (W:Int→(Int→Prop)→Prop) {y a c u un:Int} (s v un0:Int) {x0 x1:Int→Int→Int→Int→Int→Int→Int→Int→Int→Bool→Prop}
  (hx:∀ q r b,DG y u un q→x0 y s a c v un un0 q r b) (hx1:∀ q r b,DG y u un q→x1 y s a c v un un0 q r b) :
  ∀ (n:Nat) (q r:Int) (b:Bool),DI y a c u un q r→4294967296≤r+n*2147483648→BS W x0 x1 (n+1) y s a c v un un0 q r b:=by
 intro n;induction n with
 | zero =>intro q r b h hn;have:=h.hr.2;exact absurd hn (by omega)
 | succ n ih=>
  intro q r b h hn;unfold BS;refine h.step (fun g a1 a2=>?_) (fun g=>?_) (fun g=>hx1 _ _ _ g)
  ·rw [bF (n:=q-1) ⟨by omega,by omega⟩];exact hx _ _ _ g
  ·have e1:u64.wrap (q-1)=q-1:=bF ⟨g.hq.1,by have:=g.hq.2;omega⟩;have e2:u64.wrap (r+a)=r+a:=bF ⟨g.hr.1,by have:=g.hr.2;omega⟩;rw [e1,e2];exact ih _ _ _ g (by have:=h.h1.1;omega)
theorem ze (W:Int→(Int→Prop)→Prop) {y a c u un:Int} (s q1 v:Int) {x0 x1:Int→Int→Int→Int→Int→Int→Int→Int→Int→Bool→Prop}
  (hx:∀ q r b,DG y u un q→x0 y s a c un q1 r v q b) (hx1:∀ q r b,DG y u un q→x1 y s a c un q1 r v q b) :
  ∀ (n:Nat) (q r:Int) (b:Bool),DI y a c u un q r→4294967296≤r+n*2147483648→BT W x0 x1 (n+1) y s a c un q1 r v q b:=by
 intro n;induction n with
 | zero =>intro q r b h hn;have:=h.hr.2;exact absurd hn (by omega)
 | succ n ih=>
  intro q r b h hn;unfold BT;refine h.step (fun g a1 a2=>?_) (fun g=>?_) (fun g=>hx1 _ _ _ g)
  ·rw [bF (n:=q-1) ⟨by omega,by omega⟩];exact hx _ _ _ g
  ·have e1:u64.wrap (q-1)=q-1:=bF ⟨g.hq.1,by have:=g.hq.2;omega⟩;have e2:u64.wrap (r+a)=r+a:=bF ⟨g.hr.1,by have:=g.hr.2;omega⟩;rw [e1,e2];exact ih _ _ _ g (by have:=h.h1.1;omega)
theorem zf (W:Int→(Int→Prop)→Prop) {y a c u un:Int} (s v un0:Int) {x0 x1:Int→Int→Int→Int→Int→Int→Int→Int→Int→Bool→Prop}
  (hx:∀ q r b,DG y u un q→x0 y s a c v un un0 q r b) (hx1:∀ q r b,DG y u un q→x1 y s a c v un un0 q r b) (q r:Int) (h:DI y a c u un q r):MJ W x0 x1 3 y s a c v un un0 q r:=by
 have:=zd W s v un0 hx hx1 2 q r true h (by have:=h.hr.1;omega);unfold BS at this;unfold MJ;exact this
theorem zg (W:Int→(Int→Prop)→Prop) {y a c u un:Int} (s q1 v:Int) {x0 x1:Int→Int→Int→Int→Int→Int→Int→Int→Int→Bool→Prop}
  (hx:∀ q r b,DG y u un q→x0 y s a c un q1 r v q b) (hx1:∀ q r b,DG y u un q→x1 y s a c un q1 r v q b) (q r:Int) (h:DI y a c u un q r):GC W x0 x1 3 y s a c un q1 r v q:=by
 have:=ze W s q1 v hx hx1 2 q r true h (by have:=h.hr.1;omega);unfold BT at this;unfold GC;exact this
theorem DI.init {y a b u un:Int} (hy:y=a*4294967296+b) (h1:2147483648≤a∧a≤4294967295) (h0:0≤b∧b≤4294967295) (hn:0≤un∧un≤4294967295)
  (hu:0≤u) (hlt:u<y):DI y a b u un (u/a) (u-u/a*a):=by
 have a1:=Int.mul_ediv_add_emod u a;have a2:=EU u (show a≠0 by omega);have a3:=ES u (show 0<a by omega);have a4:u/a*a=a*(u/a):=AZ _ _;have a5:0≤u/a:=vT hu (by omega);have a6:u/a≤4294967297:=by
  refine Int.not_lt.1 fun hc=>?_
  have:a*4294967298≤a*(u/a):=Kw (by omega) (by omega);omega
 refine ⟨hy,h1,h0,hn,by omega,⟨a5,a6⟩,⟨by omega,by omega⟩,hlt,?_⟩;have e:(u/a+1)*y=a*(u/a)*4294967296+a*4294967296+(u/a+1)*b:=by
  obtain ⟨t,ht⟩:∃ t,t=u/a:=⟨_,rfl⟩;rw [← ht,hy];grind
 have:0≤(u/a+1)*b:=lK (by omega) h0.1;omega
theorem Ue {a b:Int} {k:Nat} (ha:0≤a) (hb:0≤b∧b<2 ^ k) (hab:a*2 ^ k≤18446744073709551615∧b≤18446744073709551615) (hs:a*2 ^ k+b≤18446744073709551615) :
  u64.wrap (BitVec.ofInt u64.bits (a*2 ^ k)|||BitVec.ofInt u64.bits b).toNat=a*2 ^ k+b:=by
 obtain ⟨x,rfl⟩:∃ x:Nat,a=x:=⟨a.toNat,by omega⟩;obtain ⟨z,rfl⟩:∃ z:Nat,b=z:=⟨b.toNat,by omega⟩;have ec:((x:Int)*2 ^ k)=((2 ^ k*x:Nat):Int):=by push_cast;exact AZ _ _
 rw [ec] at hab hs ⊢;have hz:z<2 ^ k:=by have:=hb.2;exact_mod_cast this
 have e:(BitVec.ofInt u64.bits ((2 ^ k*x:Nat):Int)|||BitVec.ofInt u64.bits (z:Int)).toNat=2 ^ k*x+z:=by
  show (BitVec.ofInt 64 ((2 ^ k*x:Nat):Int)|||BitVec.ofInt 64 (z:Int)).toNat=_;rw [BitVec.toNat_or,BitVec.toNat_ofInt,BitVec.toNat_ofInt];have e1:(((2 ^ k*x:Nat):Int)%(2 ^ 64:Nat)).toNat=2 ^ k*x:=by omega
  have e2:((z:Int)%(2 ^ 64:Nat)).toNat=z:=by omega
  rw [e1,e2,Nat.two_pow_add_eq_or_of_lt hz]
 rw [e,bF ⟨by omega,by omega⟩]
 push_cast;rfl
theorem K8 {u un q y:Int} (h0:0≤u*4294967296+un-q*y) (h1:u*4294967296+un-q*y≤18446744073709551615) :
  u64.wrap (u64.wrap (u64.wrap (u*4294967296)+un)-u64.wrap (q*y))=u*4294967296+un-q*y:=by
 simp only [oU];omega
theorem vC {a b:Int} (h:0≤a):Int.tdiv a b=a/b:=Int.tdiv_eq_ediv_of_nonneg h
theorem K9 {a b:Int} (h:0≤a):Int.tmod a b=a%b:=Int.tmod_eq_emod_of_nonneg h
theorem L6 {h l y:Int} (hh:gK h) (hl:gK l) (hy:gK y) (hlt:h<y) {K:Int→Int→Prop}
  (k:K ((h*18446744073709551616+l)/y) ((h*18446744073709551616+l)%y)):BU h l y K:=by
 unfold gK at hh hl hy;unfold BU RU;have b1:(y ==(0:Int))=false:=beq_eq_false_iff_ne.2 (by omega);have b2:decide (y≤h)=false:=Os (by omega);have b3:(!(decide (y=(0:Int))))=true:=by rw [Os (by omega)];rfl
 rw [b1,bN,b2,bN,b3]
 by_cases h0:h=0
 ·subst h0;have:((0:Int)==0)=true:=rfl;rw [this,bU,gG,gG,vC hl.1,K9 hl.1];have e:(0:Int)*18446744073709551616+l=l:=by omega
  rw [e] at k;have b4:l/y≤l:=AV _ hl.1;rw [bF ⟨vT hl.1 (by omega),by omega⟩];exact k
 ·have b4:(h ==(0:Int))=false:=beq_eq_false_iff_ne.2 h0;rw [b4,bN];refine zc ⟨by omega,by omega⟩ ?_;have hyn:y.toNat≠0:=by omega
  have c1:=K6 y.toNat
  have c2:=Nl hyn;have c3:blen y.toNat≤64:=by
   refine Nat.le_of_not_lt fun hc=>?_
   have:=HD (show 0<2 by omega) (show 64≤blen y.toNat-1 by omega);omega
  have c4:1≤blen y.toNat:=by
   refine Nat.le_of_not_lt fun hc=>?_
   have:blen y.toNat=0:=by omega
   rw [this] at c1;omega
  obtain ⟨m,hm⟩:∃ m,m=64-blen y.toNat:=⟨_,rfl⟩;have es:(64-(blen y.toNat:Int))=(m:Int):=by omega
  rw [es];have m63:m≤63:=by omega
  have e1:u64.wrap (m:Int)=m:=bF ⟨by omega,by omega⟩;have e2:u64.wrap ((64:Int)-m)=((64-m:Nat):Int):=by rw [bF ⟨by omega,by omega⟩];omega
  have e3:min ((m:Int)).toNat u64.bits=m:=by show min ((m:Int)).toNat 64=m;rw [dR];omega
  have e4:min (((64-m:Nat):Int)).toNat u64.bits=64-m:=by show min (((64-m:Nat):Int)).toNat 64=64-m;rw [dR];omega
  simp only [e1];rw [e2,e3,e4];have p64:(2:Int) ^ (64-m)*2 ^ m=18446744073709551616:=by
   rw [← Int.pow_add,show 64-m+m=64 by omega];rfl
  have p63:(2:Int) ^ (63-m)*2 ^ m=9223372036854775808:=by rw [← Int.pow_add,show 63-m+m=63 by omega];rfl
  have tp:(0:Int)<2 ^ m:=Int.pow_pos (by omega);have tp':(0:Int)<2 ^ (64-m):=Int.pow_pos (by omega);have y1:y<(2:Int) ^ (64-m):=by
   have:blen y.toNat=64-m:=by omega
   rw [this] at c1;have c1':((y.toNat:Nat):Int)<((2 ^ (64-m):Nat):Int):=by exact_mod_cast c1
   push_cast at c1'
   omega
  have y2:(2:Int) ^ (63-m)≤y:=by
   have:blen y.toNat-1=63-m:=by omega
   rw [this] at c2;have c2':((2 ^ (63-m):Nat):Int)≤((y.toNat:Nat):Int):=by exact_mod_cast c2
   push_cast at c2'
   omega
  have Y1:y*2 ^ m<18446744073709551616:=by have:=Int.mul_lt_mul_of_pos_right y1 tp;omega
  have Y2:9223372036854775808≤y*2 ^ m:=by have:=EH y2 (show (0:Int)≤2 ^ m by omega);omega
  have H1:(h+1)*2 ^ m≤y*2 ^ m:=EH (by omega) (by omega);have H2:(h+1)*2 ^ m=h*2 ^ m+2 ^ m:=by grind
  have H0:0≤h*2 ^ m:=lK hh.1 (by omega);have fd:Int.fdiv l (2 ^ (64-m))=l/2 ^ (64-m):=Ci _ _ (by omega);have L1:=Int.mul_ediv_add_emod l (2 ^ (64-m));have L2:=EU l (show (2:Int) ^ (64-m)≠0 by omega);have L3:=ES l tp';have L4:0≤l/2 ^ (64-m):=vT hl.1 (by omega);have L5:l/2 ^ (64-m)<2 ^ m:=by refine Int.ediv_lt_of_lt_mul tp' ?_;rw [AZ,p64];omega
  have w1:u64.wrap (y*2 ^ m)=y*2 ^ m:=bF ⟨by omega,by omega⟩;have w2:u64.wrap (h*2 ^ m)=h*2 ^ m:=bF ⟨by omega,by omega⟩;have w3:u64.wrap (BitVec.ofInt u64.bits (h*2 ^ m)|||BitVec.ofInt u64.bits (l/2 ^ (64-m))).toNat=h*2 ^ m+l/2 ^ (64-m):=
   Ue hh.1 ⟨L4,L5⟩ ⟨by omega,by omega⟩ (by omega)
  have w4:u64.wrap (l*2 ^ m)=l%2 ^ (64-m)*2 ^ m:=by
   have e:l*2 ^ m=(l/2 ^ (64-m))*18446744073709551616+l%2 ^ (64-m)*2 ^ m:=by rw [← p64];obtain ⟨a,ha⟩:∃ a,a=l/2 ^ (64-m):=⟨_,rfl⟩;obtain ⟨b,hb⟩:∃ b,b=l%2 ^ (64-m):=⟨_,rfl⟩;obtain ⟨t,ht⟩:∃ t,t=(2:Int) ^ m:=⟨_,rfl⟩;obtain ⟨t',ht'⟩:∃ t,t=(2:Int) ^ (64-m):=⟨_,rfl⟩;rw [← ha,← hb,← ht'] at L1;rw [← ha,← hb,← ht,← ht'];rw [← L1];grind
   have e5:l%2 ^ (64-m)*2 ^ m<18446744073709551616:=by rw [← p64];exact Int.mul_lt_mul_of_pos_right L3 tp
   have e6:0≤l%2 ^ (64-m)*2 ^ m:=lK L2 (by omega);rw [e,oU];omega
  have e5:l%2 ^ (64-m)*2 ^ m<18446744073709551616:=by rw [← p64];exact Int.mul_lt_mul_of_pos_right L3 tp
  have e6:0≤l%2 ^ (64-m)*2 ^ m:=lK L2 (by omega);have eN:(h*18446744073709551616+l)*2 ^ m=(h*2 ^ m+l/2 ^ (64-m))*18446744073709551616+l%2 ^ (64-m)*2 ^ m:=by rw [← p64];obtain ⟨a,ha⟩:∃ a,a=l/2 ^ (64-m):=⟨_,rfl⟩;obtain ⟨b,hb⟩:∃ b,b=l%2 ^ (64-m):=⟨_,rfl⟩;obtain ⟨t,ht⟩:∃ t,t=(2:Int) ^ m:=⟨_,rfl⟩;obtain ⟨t',ht'⟩:∃ t,t=(2:Int) ^ (64-m):=⟨_,rfl⟩;rw [← ha,← hb,← ht'] at L1;rw [← ha,← hb,← ht,← ht'];rw [← L1];grind
  have U1:h*2 ^ m+l/2 ^ (64-m)<y*2 ^ m:=by omega
  have U0:0≤h*2 ^ m+l/2 ^ (64-m):=by omega
  rw [fd,w1,w2,w3,w4];have b5:(!(decide ((m:Int)<0)))=true:=by rw [Os (by omega)];rfl
  have b6:(!(decide (((64-m:Nat):Int)<0)))=true:=by rw [Os (by omega)];rfl
  rw [b5,b6,gG,gG,gG,gG];generalize h*2 ^ m+l/2 ^ (64-m)=u at *
  generalize hl0:l%2 ^ (64-m)*2 ^ m=v at *
  generalize hY:y*2 ^ m=Y at *
  rw [Ci Y _ (by omega),Ci v _ (by omega),Ap ⟨by omega,by omega⟩,Ap ⟨by omega,by omega⟩,vC U0];have b7:(!(decide (Y/4294967296=(0:Int))))=true:=by rw [Os (by omega)];rfl
  rw [b7,gG];obtain ⟨c,hyn1⟩:∃ a,a=Y/4294967296:=⟨_,rfl⟩;obtain ⟨d,hyn0⟩:∃ a,a=Y%4294967296:=⟨_,rfl⟩;obtain ⟨un1,hun1⟩:∃ a,a=v/4294967296:=⟨_,rfl⟩;obtain ⟨un0,hun0⟩:∃ a,a=v%4294967296:=⟨_,rfl⟩;rw [← hyn1,← hyn0,← hun1,← hun0];have d1:2147483648≤c∧c≤4294967295:=by omega
  have d0:0≤d∧d≤4294967295:=by omega
  have dn1:0≤un1∧un1≤4294967295:=by omega
  have dn0:0≤un0∧un0≤4294967295:=by omega
  have dY:Y=c*4294967296+d:=by omega
  have g1:=DI.init dY d1 d0 dn1 U0 U1;have x1:u64.wrap (u/c)=u/c:=bF ⟨g1.hq.1,by have:=g1.hq.2;omega⟩;have x2:u64.wrap (u-u64.wrap (u/c*c))=u-u/c*c:=by have r1:=g1.hr.1;have r2:0≤u/c*c:=lK g1.hq.1 (by omega);have r3:=g1.hr.2;rw [bF (n:=u/c*c) ⟨r2,by omega⟩,bF ⟨r1,by omega⟩]
  rw [x1,x2];have fin:∀ q1:Int,DG Y u un1 q1→∀ (un21:Int),un21=u*4294967296+un1-q1*Y→∀ q0,DG Y un21 un0 q0 →
    K (u64.wrap ((u64.wrap (q1*(4294967296:Int)))+q0)) (Int.fdiv (u64.wrap ((u64.wrap ((u64.wrap (un21*(4294967296:Int)))+un0))-(u64.wrap (q0*Y)))) (2 ^ (min ((m:Int)).toNat u64.bits))):=by
   intro q1 G1 un21 e21 q0 G0;obtain ⟨a1,a2,a3,a4⟩:=G1;obtain ⟨c1,c2,c3,c4⟩:=G0;have s1:(q1+1)*Y=q1*Y+Y:=by grind
   have s0:(q0+1)*Y=q0*Y+Y:=by grind
   have w5:u64.wrap (q1*4294967296)=q1*4294967296:=bF ⟨by omega,by omega⟩;have w6:u64.wrap (q1*4294967296+q0)=q1*4294967296+q0:=bF ⟨by omega,by omega⟩;rw [K8 (by omega) (by omega),w5,w6,e3,Ci _ _ (by omega)];have eT:un21*4294967296+un0-q0*Y=(h*18446744073709551616+l-(q1*4294967296+q0)*y)*2 ^ m:=by
    have f1:(q1*4294967296+q0)*Y=q1*Y*4294967296+q0*Y:=by grind
    have f2:(h*18446744073709551616+l-(q1*4294967296+q0)*y)*2 ^ m=(h*18446744073709551616+l)*2 ^ m-(q1*4294967296+q0)*Y:=by rw [← hY,Int.sub_mul,Int.mul_assoc (q1*4294967296+q0)]
    rw [f2,f1,eN];omega
   rw [eT,Int.mul_ediv_cancel _ (by omega)];have r0:0≤h*18446744073709551616+l-(q1*4294967296+q0)*y:=by
    refine Int.not_lt.1 fun hc=>?_
    have:=EM hc tp;omega
   have r1:h*18446744073709551616+l-(q1*4294967296+q0)*y<y:=by
    refine Int.not_le.1 fun hc=>?_
    have:=EH hc (show (0:Int)≤2 ^ m by omega);omega
   obtain ⟨Q,hQ⟩:∃ Q,Q=q1*4294967296+q0:=⟨_,rfl⟩;rw [← hQ] at r0 r1 ⊢;have z1:(h*18446744073709551616+l)/y=Q:=by
    have:h*18446744073709551616+l=(h*18446744073709551616+l-Q*y)+Q*y:=by omega
    rw [this,Int.add_mul_ediv_right _ _ (by omega),Int.ediv_eq_zero_of_lt r0 r1];omega
   have z2:(h*18446744073709551616+l)%y=h*18446744073709551616+l-Q*y:=by have:=Int.mul_ediv_add_emod (h*18446744073709551616+l) y;rw [z1,AZ] at this;omega
   rw [z1,z2] at k;exact k
  have mid:∀ q:Int,DG Y u un1 q→∀ (X:Int→Int→Int→Int→Int→Int→Int→Int→Int→Bool→Prop),(∀ q0 r0 b0,DG Y (u*4294967296+un1-q*Y) un0 q0→X Y m c d un0 q r0 (u*4294967296+un1-q*Y) q0 b0) →
    aI (!(decide (c=(0:Int)))) (∃ n:Nat,GC BR X X n Y m c d un0 q ((u64.wrap ((u64.wrap ((u64.wrap ((u64.wrap (u*(4294967296:Int)))+un1))-(u64.wrap (q*Y))))-(u64.wrap ((u64.wrap (Int.tdiv (u64.wrap ((u64.wrap ((u64.wrap (u*(4294967296:Int)))+un1))-(u64.wrap (q*Y)))) c))*c))))) (u64.wrap ((u64.wrap ((u64.wrap (u*(4294967296:Int)))+un1))-(u64.wrap (q*Y)))) (u64.wrap (Int.tdiv (u64.wrap ((u64.wrap ((u64.wrap (u*(4294967296:Int)))+un1))-(u64.wrap (q*Y)))) c))):=by
   intro q G X hX;obtain ⟨a1,a2,a3,a4⟩:=G;have s1:(q+1)*Y=q*Y+Y:=by grind
   have b8:(!(decide (c=(0:Int))))=true:=by rw [Os (by omega)];rfl
   rw [b8,gG,K8 (by omega) (by omega),vC (by omega)];have g0:=DI.init dY d1 d0 dn0 (u:=u*4294967296+un1-q*Y) (by omega) (by omega);generalize u*4294967296+un1-q*Y=u2 at *
   have x1:u64.wrap (u2/c)=u2/c:=bF ⟨g0.hq.1,by have:=g0.hq.2;omega⟩;have x2:u64.wrap (u2-u64.wrap (u2/c*c))=u2-u2/c*c:=by have r1:=g0.hr.1;have r2:0≤u2/c*c:=lK g0.hq.1 (by omega);have r3:=g0.hr.2;have r4:=g0.hlt;rw [bF (n:=u2/c*c) ⟨r2,by omega⟩,bF ⟨r1,by omega⟩]
   rw [x1,x2];exact ⟨3,zg _ _ _ _ (fun q0 r0 b0 g=>hX q0 r0 b0 g) (fun q0 r0 b0 g=>hX q0 r0 b0 g) _ _ g0⟩
  have leaf:∀ {P:Prop},P→aI (!(decide ((m:Int)<0))) P:=fun p=>by rw [b5,gG];exact p
  refine ⟨3,zf _ _ _ _ (fun q r b G=>?_) (fun q r b G=>?_) _ _ g1⟩
  ·exact mid q G _ (fun q0 r0 b0 G0=>leaf (fin q G _ rfl q0 G0))
  ·exact mid q G _ (fun q0 r0 b0 G0=>leaf (fin q G _ rfl q0 G0))
theorem zh {h l y:Int} (hh:gK h) (hl:gK l) (hy:gK y) (h0:0<y) {K:Int→Prop}
  (k:K ((h*18446744073709551616+l)%y)):DO h l y K:=by
 unfold DO RZ;have b3:(!(decide (y=(0:Int))))=true:=by rw [Os (by omega)];rfl
 have a1:=EU h (show y≠0 by omega);have a2:=ES h h0;have hh':=hh;unfold gK at hh hy;rw [b3,gG,K9 hh.1];refine L6 ⟨a1,by omega⟩ hl ⟨by omega,by omega⟩ a2 ?_;have e:(h%y*18446744073709551616+l)%y=(h*18446744073709551616+l)%y:=by rw [Int.add_emod,Int.mul_emod,Int.emod_emod,← Int.mul_emod,← Int.add_emod]
 rw [e];exact k
def gH (s:Bool) (a b:Int) (K:Int→Int→Int→Prop):Prop:=
 if a≤1000000000000000000∧b≤1000000000000000000 then K (if s then -a else a) b 0 else K 0 0 16
theorem Uf {s:Bool} {a b:Int} (ha:0≤a) (hb:0≤b) (K:Int→Int→Int→Prop):BV s a b K=gH s a b K:=by
 unfold BV Sb gH
 by_cases h:a≤1000000000000000000∧b≤1000000000000000000
 ·have e:decide ((if b>a then b else a)>(1000000000000000000:Int))=false:=by
   refine Os ?_;split<;>omega
  have w1:i64.wrap a=a:=dU ⟨by omega,by omega⟩;have w2:i64.wrap b=b:=dU ⟨by omega,by omega⟩;have w3:i64.wrap (0-a)=-a:=by rw [dU ⟨by omega,by omega⟩];omega
  rw [e,bN,WN h,w1,w2,w3]
  cases s
  ·rfl
  ·rfl
 ·have e:decide ((if b>a then b else a)>(1000000000000000000:Int))=true:=by
   refine Eb ?_;split<;>omega
  rw [e,bU,WO h]
def iP (a c:Int) (b d:Int):Nat:=(a.natAbs/Nat.gcd a.natAbs d.natAbs)*(c.natAbs/Nat.gcd c.natAbs b.natAbs)
def kZ (a c:Int) (b d:Int):Nat:=(b.natAbs/Nat.gcd c.natAbs b.natAbs)*(d.natAbs/Nat.gcd a.natAbs d.natAbs)
theorem Ug {a b c d:Int} (ha:dI a) (hb:dI b) (hc:dI c) (hd:dI d) {K:Int→Int→Int→Prop}
  (k:if dA a b c d=0 then gH (decide (a<0) !=decide (c<0)) (iP a c b d) (kZ a c b d) K else K 0 0 (dA a b c d)):BY a b c d K:=by
 unfold BY Sj;refine JR ha hb hc hd ?_
 by_cases h:dA a b c d=0
 ·rw [WN h] at k;have:(dA a b c d !=(0:Int))=false:=by rw [h];rfl
  rw [this,bN,Cf ha,Cf hc];obtain ⟨⟨b1,b2,a1,a2,_⟩,d1,d2,c1,c2,_⟩:=Aq.1 h;have wb:u64.wrap b=((b.natAbs:Nat):Int):=by rw [bF ⟨by omega,by omega⟩];omega
  have wd:u64.wrap d=((d.natAbs:Nat):Int):=by rw [bF ⟨by omega,by omega⟩];omega
  rw [wb,wd];refine JQ _ _ _ (JQ _ _ _ ?_);unfold iP kZ at k;have g1:0<Nat.gcd a.natAbs d.natAbs:=xN _ (by omega);have g2:0<Nat.gcd c.natAbs b.natAbs:=xN _ (by omega);obtain ⟨g3,h3⟩:∃ g,g=Nat.gcd a.natAbs d.natAbs:=⟨_,rfl⟩;obtain ⟨g4,h4⟩:∃ g,g=Nat.gcd c.natAbs b.natAbs:=⟨_,rfl⟩;rw [← h3,← h4] at k ⊢;rw [← h3] at g1;rw [← h4] at g2;have n3:(!(decide ((g3:Int)=(0:Int))))=true:=by rw [Os (by omega)];rfl
  have n4:(!(decide ((g4:Int)=(0:Int))))=true:=by rw [Os (by omega)];rfl
  rw [n3,n4,gG,gG,vC (by omega),vC (by omega),vC (by omega),vC (by omega),← mM,← mM,← mM,← mM];have q1:a.natAbs/g3≤a.natAbs:=oG _ _;have q2:c.natAbs/g4≤c.natAbs:=oG _ _;have q3:b.natAbs/g4≤b.natAbs:=oG _ _;have q4:d.natAbs/g3≤d.natAbs:=oG _ _;generalize a.natAbs/g3=A at *
  generalize c.natAbs/g4=C at *
  generalize b.natAbs/g4=B at *
  generalize d.natAbs/g3=D at *
  rw [bF (n:=(A:Int)) ⟨by omega,by omega⟩,bF (n:=(C:Int)) ⟨by omega,by omega⟩,bF (n:=(B:Int)) ⟨by omega,by omega⟩,bF (n:=(D:Int)) ⟨by omega,by omega⟩,
   Ee ⟨by omega,by omega⟩ ⟨by omega,by omega⟩,gG,gG,Ee ⟨by omega,by omega⟩ ⟨by omega,by omega⟩]
  have m1:A*C≤1000000000000000000*1000000000000000000:=xS (by omega) (by omega);have m2:B*D≤1000000000000000000*1000000000000000000:=xS (by omega) (by omega);rw [← vU,← vU];generalize A*C=M at *
  generalize B*D=N at *
  have wm:u64.wrap ((M:Int)/18446744073709551616+(N:Int)/18446744073709551616)=(M:Int)/18446744073709551616+(N:Int)/18446744073709551616:=bF ⟨by omega,by omega⟩;rw [wm]
  by_cases hb:(M:Int)/18446744073709551616+(N:Int)/18446744073709551616>0
  ·rw [Eb hb,bU];unfold gH at k;rw [WO (by omega)] at k;exact k
  ·rw [Os hb,bN];have eM:(M:Int)%18446744073709551616=M:=by omega
   have eN:(N:Int)%18446744073709551616=N:=by omega
   rw [eM,eN]
   by_cases h0:(M:Int)>0
   ·rw [Eb h0,bU,Uf (by omega) (by omega)];exact k
   ·rw [Os h0,bN,Uf (by omega) (by omega)];have hz:M=0:=by omega
    subst hz;unfold gH at k ⊢
    by_cases hN:(N:Int)≤1000000000000000000
    ·rw [WN ⟨by omega,hN⟩] at k ⊢;have e:(if (decide (a<0) !=decide (c<0))=true then -((0:Nat):Int) else ((0:Nat):Int))=0:=by split<;>rfl
     rw [e] at k;exact k
    ·rw [WO (by omega)] at k ⊢;exact k
 ·rw [WO h] at k;have:(dA a b c d !=(0:Int))=true:=by rw [bne_iff_ne];exact h
  rw [this,bU];exact k
theorem RV.swap {c d:Int} (h:RV c d) (h0:0<c):RV d c:=by obtain ⟨d1,d2,c1,c2,g⟩:=h;exact ⟨by omega,c2,by omega,d2,by rw [vY];exact g⟩
theorem RV.swapn {c d:Int} (h:RV c d) (h0:c<0):RV (-d) (-c):=by obtain ⟨d1,d2,c1,c2,g⟩:=h;exact ⟨by omega,by omega,by omega,by omega,by rw [Int.natAbs_neg,Int.natAbs_neg,vY];exact g⟩
theorem zi {a b c d:Int} (ha:dI a) (hb:dI b) (hc:dI c) (hd:dI d) {K:Int→Int→Int→Prop}
  (k:if dA a b c d=0 then (if c=0 then K 0 0 18 else gH (decide (a<0) !=decide (c<0)) (iP a d b c) (kZ a d b c) K) else K 0 0 (dA a b c d)):BZ a b c d K:=by
 unfold BZ Sl;refine JR ha hb hc hd ?_
 by_cases h:dA a b c d=0
 ·rw [WN h] at k;have:(dA a b c d !=(0:Int))=false:=by rw [h];rfl
  rw [this,bN];obtain ⟨hab,hcd⟩:=Aq.1 h;obtain ⟨d1,d2,c1,c2,_⟩:=id hcd
  by_cases h0:c=0
  ·rw [WN h0] at k;have:(c ==(0:Int))=true:=beq_iff_eq.2 h0;rw [this,bU];exact k
  ·rw [WO h0] at k;have:(c ==(0:Int))=false:=beq_eq_false_iff_ne.2 h0;rw [this,bN]
   by_cases hn:c<0
   ·rw [Eb hn] at k;rw [Eb hn,bU,dU (n:=0-d) ⟨by omega,by omega⟩,dU (n:=0-c) ⟨by omega,by omega⟩,Int.zero_sub,Int.zero_sub];have e:dA a b (-d) (-c)=0:=Aq.2 ⟨hab,hcd.swapn hn⟩;refine Ug ha hb ⟨by omega,by omega⟩ ⟨by omega,by omega⟩ ?_;rw [WN e,Eb (show -d<0 by omega)];unfold iP kZ at k ⊢;rw [Int.natAbs_neg,Int.natAbs_neg];exact k
   ·rw [Os hn] at k;rw [Os hn,bN];have e:dA a b d c=0:=Aq.2 ⟨hab,hcd.swap (by omega)⟩;refine Ug ha hb hd hc ?_;rw [WN e,Os (show ¬d<0 by omega)];exact k
 ·rw [WO h] at k;have:(dA a b c d !=(0:Int))=true:=by rw [bne_iff_ne];exact h
  rw [this,bU];exact k
theorem zj {s:Bool} {hi lo p1 p3:Int} {g:Nat} (hh:gK hi) (hl:gK lo) (hg:0<g) (g1:(g:Int)≤1000000000000000000)
   (h1:0≤p1∧p1≤1000000000000000000) (h3:0≤p3∧p3≤1000000000000000000) {K:Int→Int→Int→Prop}
   (k:gH s (((hi*18446744073709551616+lo).toNat/Nat.gcd (hi*18446744073709551616+lo).toNat g:Nat):Int)
    (((p1.toNat/g)*(p3.toNat/Nat.gcd (hi*18446744073709551616+lo).toNat g):Nat):Int) K) :
   (DO hi lo (g:Int) (fun (b:Int)=>
 (uU b (g:Int) (fun (a:Int)=>
 (aM (decide (hi≥a))
 (K (0:Int) (0:Int) (16:Int))
 (BU hi lo a (fun (c:Int) (j:Int)=>
 (aI (!(decide ((g:Int)=(0:Int))))
 (aI (!(decide (a=(0:Int))))
 (Ah (u64.wrap (Int.tdiv (u64.wrap p1) (g:Int))) (u64.wrap (Int.tdiv (u64.wrap p3) a)) (fun (d:Int) (e:Int)=>
 (aM (decide (d>(0:Int)))
 (K (0:Int) (0:Int) (16:Int))
 (BV s c e (fun (f:Int) (h:Int) (i:Int)=>
 (K f h i))))))))))))))):=by
  unfold gK at hh hl;obtain ⟨X,hX⟩:∃ X:Nat,X=(hi*18446744073709551616+lo).toNat:=⟨_,rfl⟩;have eX:hi*18446744073709551616+lo=(X:Int):=by omega
  rw [← hX] at k;refine zh hh hl ⟨by omega,by omega⟩ (by omega) ?_;rw [eX,← Int.natCast_emod];refine JQ _ _ _ ?_;have eg:Nat.gcd (X%g) g=Nat.gcd X g:=by rw [vY,vY X,Nat.gcd_rec g X,vY]
  rw [eg];have gp:0<Nat.gcd X g:=xN _ hg;have gl:Nat.gcd X g≤g:=Nat.le_of_dvd hg (HG _ _);generalize Nat.gcd X g=G at *
  by_cases hb:hi≥(G:Int)
  ·rw [Eb hb,bU];unfold gH at k;have:18446744073709551616≤X/G:=by
    rw [Nat.le_div_iff_mul_le gp];omega
   rw [WO (by omega)] at k;exact k
  ·rw [Os hb,bN];refine L6 hh hl ⟨by omega,by omega⟩ (by omega) ?_;rw [eX];have n3:(!(decide ((g:Int)=(0:Int))))=true:=by rw [Os (by omega)];rfl
   have n4:(!(decide ((G:Int)=(0:Int))))=true:=by rw [Os (by omega)];rfl
   have e1:u64.wrap p1=(p1.toNat:Int):=by rw [bF ⟨by omega,by omega⟩];omega
   have e3:u64.wrap p3=(p3.toNat:Int):=by rw [bF ⟨by omega,by omega⟩];omega
   rw [n3,n4,gG,gG,e1,e3,vC (by omega),vC (by omega),← mM,← mM,← mM];have q1:p1.toNat/g≤p1.toNat:=oG _ _;have q3:p3.toNat/G≤p3.toNat:=oG _ _;generalize p1.toNat/g=A at *
   generalize p3.toNat/G=B at *
   generalize X/G=N at *
   rw [bF (n:=(A:Int)) ⟨by omega,by omega⟩,bF (n:=(B:Int)) ⟨by omega,by omega⟩,Ee ⟨by omega,by omega⟩ ⟨by omega,by omega⟩,← vU];generalize A*B=D at *
   by_cases hd:((D:Int)/18446744073709551616)>0
   ·rw [Eb hd,bU];unfold gH at k;rw [WO (by omega)] at k;exact k
   ·rw [Os hd,bN];have eD:(D:Int)%18446744073709551616=D:=by omega
    rw [eD,Uf (by omega) (by omega)];exact k
theorem L7 {p q c:Int} {K:Int→Int→Prop} (hc:c.toNat≤1) (k:K (((p.toNat+q.toNat+c.toNat)%18446744073709551616:Nat):Int) (((p.toNat+q.toNat+c.toNat)/18446744073709551616:Nat):Int)):FN p q c K:=by unfold FN;rw [Eb hc,gG];exact k
theorem L8 {p q c:Int} {K:Int→Int→Prop} (hc:c.toNat≤1) (k:K (((p.toNat+18446744073709551616-q.toNat-c.toNat)%18446744073709551616:Nat):Int) ((if q.toNat+c.toNat≤p.toNat then 0 else 1:Nat):Int)):FO p q c K:=by
 unfold FO;rw [Eb hc,gG];have e:(bif Nat.ble (q.toNat+c.toNat) p.toNat then 0 else 1:Nat)=(if q.toNat+c.toNat≤p.toNat then 0 else 1:Nat):=by
  by_cases h:q.toNat+c.toNat≤p.toNat
  ·rw [WN h,show Nat.ble (q.toNat+c.toNat) p.toNat=true from EN h];rfl
  ·rw [WO h]
   cases hb:Nat.ble (q.toNat+c.toNat) p.toNat
   ·rfl
   ·exact absurd (AS hb) h
 rw [e];exact k
theorem zk {X Y:Int} (hx:0≤X) (hy:0≤Y) (hs:X+Y<340282366920938463463374607431768211456) {F:Int→Int→Int→Int→Prop}
  (h:∀ c1 c2,F ((X+Y)%18446744073709551616) c1 ((X+Y)/18446744073709551616) c2) :
  FN (X%18446744073709551616) (Y%18446744073709551616) 0 (fun lo c1=>FN (X/18446744073709551616) (Y/18446744073709551616) c1 (fun hi c2=>F lo c1 hi c2)):=by
 obtain ⟨x,rfl⟩:∃ x:Nat,X=x:=⟨X.toNat,by omega⟩;obtain ⟨y,rfl⟩:∃ y:Nat,Y=y:=⟨Y.toNat,by omega⟩;refine L7 (by decide) (L7 (by omega) ?_);have e1:(((((x:Int)%18446744073709551616).toNat+((y:Int)%18446744073709551616).toNat+(0:Int).toNat)%18446744073709551616:Nat):Int)=((x:Int)+y)%18446744073709551616:=by omega
 have e2:(((((x:Int)/18446744073709551616).toNat+((y:Int)/18446744073709551616).toNat+(((((x:Int)%18446744073709551616).toNat+((y:Int)%18446744073709551616).toNat+(0:Int).toNat)/18446744073709551616:Nat):Int).toNat)%18446744073709551616:Nat):Int)=((x:Int)+y)/18446744073709551616:=by omega
 rw [e1,e2];exact h _ _
theorem Nm {X Y:Int} (hy:0≤Y) (hxy:Y≤X) (hs:X<340282366920938463463374607431768211456) {F:Int→Int→Int→Int→Prop}
  (h:∀ c1 c2,F ((X-Y)%18446744073709551616) c1 ((X-Y)/18446744073709551616) c2) :
  FO (X%18446744073709551616) (Y%18446744073709551616) 0 (fun lo c1=>FO (X/18446744073709551616) (Y/18446744073709551616) c1 (fun hi c2=>F lo c1 hi c2)):=by
 obtain ⟨x,rfl⟩:∃ x:Nat,X=x:=⟨X.toNat,by omega⟩;obtain ⟨y,rfl⟩:∃ y:Nat,Y=y:=⟨Y.toNat,by omega⟩;refine L8 (by decide) (L8 (by split<;>omega) ?_);have e1:(((((x:Int)%18446744073709551616).toNat+18446744073709551616-((y:Int)%18446744073709551616).toNat-(0:Int).toNat)%18446744073709551616:Nat):Int)=((x:Int)-y)%18446744073709551616:=by omega
 rw [e1]
 by_cases hb:((y:Int)%18446744073709551616).toNat+(0:Int).toNat≤((x:Int)%18446744073709551616).toNat
 ·rw [WN hb];have e2:(((((x:Int)/18446744073709551616).toNat+18446744073709551616-((y:Int)/18446744073709551616).toNat-((0:Nat):Int).toNat)%18446744073709551616:Nat):Int)=((x:Int)-y)/18446744073709551616:=by omega
  rw [e2];exact h _ _
 ·rw [WO hb];have e2:(((((x:Int)/18446744073709551616).toNat+18446744073709551616-((y:Int)/18446744073709551616).toNat-((1:Nat):Int).toNat)%18446744073709551616:Nat):Int)=((x:Int)-y)/18446744073709551616:=by omega
  rw [e2];exact h _ _
def fU (s:Bool) (Z p1 p3:Int) (g:Nat) (K:Int→Int→Int→Prop):Prop:=
 if Z=0 then K 0 1 0 else gH s ((Z.toNat/Nat.gcd Z.toNat g:Nat):Int) (((p1.toNat/g)*(p3.toNat/Nat.gcd Z.toNat g):Nat):Int) K
theorem JS {s:Bool} {Z p1 p3:Int} {g:Nat} (hz:0≤Z) (hz2:Z<340282366920938463463374607431768211456) (hg:0<g) (g1:(g:Int)≤1000000000000000000)
   (h1:0≤p1∧p1≤1000000000000000000) (h3:0≤p3∧p3≤1000000000000000000) {K:Int→Int→Int→Prop}
   (k:fU s Z p1 p3 g K) :
   aM (Z/18446744073709551616 ==(0:Int)) (aM (Z%18446744073709551616 ==(0:Int)) (K 0 1 0) (DO (Z/18446744073709551616) (Z%18446744073709551616) (g:Int) (fun (b:Int)=>
 (uU b (g:Int) (fun (a:Int)=>
 (aM (decide ((Z/18446744073709551616)≥a))
 (K (0:Int) (0:Int) (16:Int))
 (BU (Z/18446744073709551616) (Z%18446744073709551616) a (fun (c:Int) (j:Int)=>
 (aI (!(decide ((g:Int)=(0:Int))))
 (aI (!(decide (a=(0:Int))))
 (Ah (u64.wrap (Int.tdiv (u64.wrap p1) (g:Int))) (u64.wrap (Int.tdiv (u64.wrap p3) a)) (fun (d:Int) (e:Int)=>
 (aM (decide (d>(0:Int)))
 (K (0:Int) (0:Int) (16:Int))
 (BV s c e (fun (f:Int) (h:Int) (i:Int)=>
 (K f h i)))))))))))))))) (DO (Z/18446744073709551616) (Z%18446744073709551616) (g:Int) (fun (b:Int)=>
 (uU b (g:Int) (fun (a:Int)=>
 (aM (decide ((Z/18446744073709551616)≥a))
 (K (0:Int) (0:Int) (16:Int))
 (BU (Z/18446744073709551616) (Z%18446744073709551616) a (fun (c:Int) (j:Int)=>
 (aI (!(decide ((g:Int)=(0:Int))))
 (aI (!(decide (a=(0:Int))))
 (Ah (u64.wrap (Int.tdiv (u64.wrap p1) (g:Int))) (u64.wrap (Int.tdiv (u64.wrap p3) a)) (fun (d:Int) (e:Int)=>
 (aM (decide (d>(0:Int)))
 (K (0:Int) (0:Int) (16:Int))
 (BV s c e (fun (f:Int) (h:Int) (i:Int)=>
 (K f h i))))))))))))))):=by
  unfold fU at k;have eZ:Z/18446744073709551616*18446744073709551616+Z%18446744073709551616=Z:=by omega
  by_cases h0:Z=0
  ·rw [WN h0] at k;subst h0;have e1:((0:Int)/18446744073709551616 ==(0:Int))=true:=by decide
   have e2:((0:Int)%18446744073709551616 ==(0:Int))=true:=by decide
   rw [e1,bU,e2,bU];exact k
  ·rw [WO h0] at k;have t:=zj (s:=s) (hi:=Z/18446744073709551616) (lo:=Z%18446744073709551616) (p1:=p1) (p3:=p3) (g:=g) (K:=K) ⟨by omega,by omega⟩ ⟨by omega,by omega⟩ hg g1 h1 h3 (by rw [eZ];exact k)
   cases h4:(Z/18446744073709551616 ==(0:Int))
   ·rw [bN];exact t
   ·rw [bU]
    cases h2:(Z%18446744073709551616 ==(0:Int))
    ·rw [bN];exact t
    ·have:=beq_iff_eq.1 h2;have:=beq_iff_eq.1 h4;exact absurd (show Z=0 by omega) h0
theorem Uh {s s':Bool} {Z Z' p1 p3:Int} {g:Nat} {K:Int→Int→Int→Prop} (k:fU s' Z' p1 p3 g K) (hz:Z=Z') (hs:Z≠0→s=s'):fU s Z p1 p3 g K:=by
 subst hz;unfold fU at k ⊢
 by_cases h:Z=0
 ·rw [WN h] at k ⊢;exact k
 ·rw [WO h] at k ⊢;rw [hs h];exact k
theorem L9 {a b c d:Int} (ha:dI a) (hb:dI b) (hc:dI c) (hd:dI d) {K:Int→Int→Int→Prop}
  (k:if dA a b c d=0 then fU (decide (a*(d/(Nat.gcd b.natAbs d.natAbs:Nat))+c*(b/(Nat.gcd b.natAbs d.natAbs:Nat))<0))
    ((a*(d/(Nat.gcd b.natAbs d.natAbs:Nat))+c*(b/(Nat.gcd b.natAbs d.natAbs:Nat))).natAbs:Int) b d (Nat.gcd b.natAbs d.natAbs) K
   else K 0 0 (dA a b c d)):BW a b c d K:=by
 unfold BW Sc;refine JR ha hb hc hd ?_
 by_cases h:dA a b c d=0
 ·rw [WN h] at k;have:(dA a b c d !=(0:Int))=false:=by rw [h];rfl
  rw [this,bN];obtain ⟨⟨b1,b2,a1,a2,_⟩,d1,d2,c1,c2,_⟩:=Aq.1 h;have wb:u64.wrap b=((b.natAbs:Nat):Int):=by rw [bF ⟨by omega,by omega⟩];omega
  have wd:u64.wrap d=((d.natAbs:Nat):Int):=by rw [bF ⟨by omega,by omega⟩];omega
  have g1:0<Nat.gcd b.natAbs d.natAbs:=xN _ (by omega);have g2:Nat.gcd b.natAbs d.natAbs≤d.natAbs:=Nat.le_of_dvd (by omega) (HG _ _);have go:uU (u64.wrap b) (u64.wrap d)=uU ((b.natAbs:Nat):Int) ((d.natAbs:Nat):Int):=by rw [wb,wd]
  rw [go];refine JQ _ _ _ ?_;generalize Nat.gcd b.natAbs d.natAbs=g at *
  have n3:(!(decide ((g:Int)=(0:Int))))=true:=by rw [Os (by omega)];rfl
  have q1:0≤b/(g:Int):=vT (by omega) (by omega);have q2:0≤d/(g:Int):=vT (by omega) (by omega);have q3:b/(g:Int)≤b:=AV _ (by omega);have q4:d/(g:Int)≤d:=AV _ (by omega);have ed:u64.wrap (Int.tdiv (u64.wrap d) (g:Int))=d/(g:Int):=by rw [bF (n:=d) ⟨by omega,by omega⟩,vC (by omega),bF ⟨by omega,by omega⟩]
  have eb:u64.wrap (Int.tdiv (u64.wrap b) (g:Int))=b/(g:Int):=by rw [bF (n:=b) ⟨by omega,by omega⟩,vC (by omega),bF ⟨by omega,by omega⟩]
  have yii:∀ {c:Bool} {P:Prop},c=true→P→aI c P:=fun h p=>by rw [h,gG];exact p
  rw [Cf ha];refine yii n3 ?_;rw [Ee (gK.abs ha) (by rw [ed];exact ⟨by omega,by omega⟩),Cf hc];refine yii n3 ?_;rw [Ee (gK.abs hc) (by rw [eb];exact ⟨by omega,by omega⟩)];obtain ⟨X,hX⟩:∃ X,X=((a.natAbs:Nat):Int)*u64.wrap (Int.tdiv (u64.wrap d) (g:Int)):=⟨_,rfl⟩;obtain ⟨Y,hY⟩:∃ Y,Y=((c.natAbs:Nat):Int)*u64.wrap (Int.tdiv (u64.wrap b) (g:Int)):=⟨_,rfl⟩;rw [← hX,← hY];rw [ed] at hX;rw [eb] at hY;have X0:0≤X:=by rw [hX];exact lK (by omega) q2
  have Y0:0≤Y:=by rw [hY];exact lK (by omega) q1
  have X1:X≤1000000000000000000*1000000000000000000:=by rw [hX];exact nB (by omega) (by omega) q2 (by omega)
  have Y1:Y≤1000000000000000000*1000000000000000000:=by rw [hY];exact nB (by omega) (by omega) q1 (by omega)
  have ax:a*(d/(g:Int))=if a<0 then -X else X:=by
   split
   ·rw [hX,show ((a.natAbs:Nat):Int)=-a by omega,Ba,Int.neg_neg]
   ·rw [hX,show ((a.natAbs:Nat):Int)=a by omega]
  have cy:c*(b/(g:Int))=if c<0 then -Y else Y:=by
   split
   ·rw [hY,show ((c.natAbs:Nat):Int)=-c by omega,Ba,Int.neg_neg]
   ·rw [hY,show ((c.natAbs:Nat):Int)=c by omega]
  rw [ax,cy] at k;clear hX hY ax cy ed eb n3
  by_cases hs:decide (a<0)=decide (c<0)
  ·have e:(decide (a<0)==decide (c<0))=true:=beq_iff_eq.2 hs;rw [e,bU];refine zk X0 Y0 (by omega) (fun c1 c2=>?_);refine JS (by omega) (by omega) g1 (by omega) ⟨by omega,b2⟩ ⟨by omega,d2⟩ (Uh k ?_ ?_)
   ·by_cases h1:a<0
    ·have h2:c<0:=by simpa [h1] using hs.symm
     rw [WN h1,WN h2];omega
    ·have h2:¬c<0:=by simpa [h1] using hs.symm
     rw [WO h1,WO h2];omega
   ·intro h0
    by_cases h1:a<0
    ·have h2:c<0:=by simpa [h1] using hs.symm
     rw [WN h1,WN h2,Eb h1,Eb (by omega)]
    ·have h2:¬c<0:=by simpa [h1] using hs.symm
     rw [WO h1,WO h2,Os h1,Os (by omega)]
  ·have e:(decide (a<0)==decide (c<0))=false:=beq_eq_false_iff_ne.2 hs;rw [e,bN];have h12:(a<0∧¬c<0)∨(¬a<0∧c<0):=by
    by_cases h1:a<0<;>by_cases h2:c<0<;>simp [h1,h2] at hs ⊢
   by_cases hlt:X<Y
   ·have kk:fU (!decide (a<0)) (Y-X) b d g K:=by
     refine Uh k ?_ ?_
     ·rcases h12 with ⟨h1,h2⟩ | ⟨h1,h2⟩
      ·rw [WN h1,WO h2];omega
      ·rw [WO h1,WN h2];omega
     ·intro h0;rcases h12 with ⟨h1,h2⟩ | ⟨h1,h2⟩
      ·rw [WN h1,WO h2,Eb h1,Os (by omega)];rfl
      ·rw [WO h1,WN h2,Os h1,Eb (by omega)];rfl
    by_cases h1:X/18446744073709551616<Y/18446744073709551616
    ·rw [Eb h1,bU];refine Nm X0 (by omega) (by omega) (fun c1 c2=>?_);exact JS (by omega) (by omega) g1 (by omega) ⟨by omega,b2⟩ ⟨by omega,d2⟩ kk
    ·have e1:(X/18446744073709551616==Y/18446744073709551616)=true:=beq_iff_eq.2 (by omega);rw [Os h1,bN,e1,bU,Eb (show X%18446744073709551616<Y%18446744073709551616 by have:=beq_iff_eq.1 e1;omega),bU];refine Nm X0 (by omega) (by omega) (fun c1 c2=>?_);exact JS (by omega) (by omega) g1 (by omega) ⟨by omega,b2⟩ ⟨by omega,d2⟩ kk
   ·have kk:fU (decide (a<0)) (X-Y) b d g K:=by
     refine Uh k ?_ ?_
     ·rcases h12 with ⟨h1,h2⟩ | ⟨h1,h2⟩
      ·rw [WN h1,WO h2];omega
      ·rw [WO h1,WN h2];omega
     ·intro h0;rcases h12 with ⟨h1,h2⟩ | ⟨h1,h2⟩
      ·rw [WN h1,WO h2,Eb h1,Eb (by omega)]
      ·rw [WO h1,WN h2,Os h1,Os (by omega)]
    have h1:¬X/18446744073709551616<Y/18446744073709551616:=by omega
    rw [Os h1,bN]
    cases e1:(X/18446744073709551616==Y/18446744073709551616)
    ·rw [bN];refine Nm Y0 (by omega) (by omega) (fun c1 c2=>?_);exact JS (by omega) (by omega) g1 (by omega) ⟨by omega,b2⟩ ⟨by omega,d2⟩ kk
    ·rw [bU,Os (show ¬X%18446744073709551616<Y%18446744073709551616 by have:=beq_iff_eq.1 e1;omega),bN];refine Nm Y0 (by omega) (by omega) (fun c1 c2=>?_);exact JS (by omega) (by omega) g1 (by omega) ⟨by omega,b2⟩ ⟨by omega,d2⟩ kk
 ·rw [WO h] at k;have:(dA a b c d !=(0:Int))=true:=by rw [bne_iff_ne];exact h
  rw [this,bU];exact k
theorem RV.neg {c d:Int} (h:RV c d):RV (-c) d:=by obtain ⟨d1,d2,c1,c2,g⟩:=h;exact ⟨d1,d2,by omega,by omega,by rw [Int.natAbs_neg];exact g⟩
theorem zl {a b c d:Int} (ha:dI a) (hb:dI b) (hc:dI c) (hd:dI d) {K:Int→Int→Int→Prop}
  (k:if dA a b c d=0 then fU (decide (a*(d/(Nat.gcd b.natAbs d.natAbs:Nat))+-c*(b/(Nat.gcd b.natAbs d.natAbs:Nat))<0))
    ((a*(d/(Nat.gcd b.natAbs d.natAbs:Nat))+-c*(b/(Nat.gcd b.natAbs d.natAbs:Nat))).natAbs:Int) b d (Nat.gcd b.natAbs d.natAbs) K
   else K 0 0 (dA a b c d)):BX a b c d K:=by
 unfold BX Sf;refine JR ha hb hc hd ?_
 by_cases h:dA a b c d=0
 ·rw [WN h] at k;have:(dA a b c d !=(0:Int))=false:=by rw [h];rfl
  rw [this,bN];obtain ⟨hab,hcd⟩:=Aq.1 h;obtain ⟨d1,d2,c1,c2,_⟩:=id hcd;rw [dU (n:=0-c) ⟨by omega,by omega⟩,Int.zero_sub];refine L9 ha hb ⟨by omega,by omega⟩ hd ?_;rw [WN (Aq.2 ⟨hab,hcd.neg⟩)];exact k
 ·rw [WO h] at k;have:(dA a b c d !=(0:Int))=true:=by rw [bne_iff_ne];exact h
  rw [this,bU];exact k
def aD (l:List Int):List PV:=l.map (PV.int .i64)
theorem dZ (l:List Int):(aD l).length=l.length:=lJ ..
theorem M2 {l:List Int} {i:Nat} (h:i<l.length):getD (aD l) i .nils=.int .i64 (l.getD i 0):=by unfold aD;rw [dQ,dQ,rE,dF h];rfl
theorem fG {l:List Int} {i:Nat} (h:i<l.length):bV (getD (aD l) i .nils)=l.getD i 0:=by rw [M2 h];rfl
theorem Cj {l:List Int} {i:Nat} (h:i<l.length):aZ zI (getD (aD l) i .nils)=true:=by rw [M2 h];rfl
theorem yii {c:Bool} {P:Prop} (h:c=true) (p:P):aI c P:=by rw [h,gG];exact p
theorem xB {c:Prop} [Decidable c] {P:Prop} (h:c) (p:P):aI (decide c) P:=yii (Eb h) p
theorem Nn {c:Prop} [Decidable c] {P Q:Prop} (h:c) (p:P):aM (decide c) P Q:=by rw [Eb h,bU];exact p
theorem Hb {c:Prop} [Decidable c] {P Q:Prop} (h:¬c) (q:Q):aM (decide c) P Q:=by rw [Os h,bN];exact q
def JT (m x:Int):Int:=if x<m then x else m
theorem zm {l:List Int} (hl:l.length<9223372036854775807) (x0:List PV→Int→Int→Bool→Prop) :
  ∀ (rest:List Int) (i:Nat) (m:Int) (n:Nat),l.drop i=rest→i≤l.length→rest.length<n→x0 (aD l) (rest.foldl JT m) (l.length:Int) false →
   GF x0 n (aD l) m (i:Int):=by
 intro rest;induction rest with
 | nil=>
  intro i m n hd hi hn k;have:i=l.length:=by
   have:=Aaa length hd;rw [lH] at this;have h2:([]:List Int).length=0:=rfl;omega
  match n,hn with
  | n+1,_ =>unfold GF;rw [dZ,this];exact Hb (by omega) k
 | cons x t ih=>
  intro i m n hd hi hn k;have hlt:i<l.length:=by
   have:=Aaa length hd;rw [lH,kK] at this;omega
  have hx:l.getD i 0=x:=by have:=List.getElem_drop (xs:=l) (i:=i) (j:=0) (h:=by rw [hd];exact AW _);rw [dQ,dF hlt];simp only [hd,List.getElem_cons_zero,tV] at this;exact this.symm
  have ht:l.drop (i+1)=t:=by rw [← List.tail_drop,hd];rfl
  match n,hn with
  | n+1,hn =>unfold GF;rw [dZ];refine Nn (by omega) ?_;refine xB (by omega) (xB (by omega) (yii (Cj (by omega)) ?_));rw [dR,fG hlt,hx,dU (n:=(i:Int)+1) ⟨by omega,by omega⟩];exact ih (i+1) _ n ht (by omega) (by rw [kK] at hn;omega) k
theorem zn {l:List Int} (hl:l.length<9223372036854775807) {x:Int} {t:List Int} (e:l=x::t) {K:Int→Prop} (k:K (t.foldl JT x)):GG (aD l) K:=by
 have h0:0<l.length:=by rw [e];exact AW _
 unfold GG SD;rw [dZ];refine Hb (by omega) (xB (by omega) (yii (Cj h0) ⟨l.length+1,?_⟩));have e0:l.getD 0 0=x:=by rw [e];rfl
 rw [fG h0,e0];refine zm hl _ t 1 x _ (by rw [e];rfl) (by omega) (by rw [e,kK];omega) ?_;exact k
def Ar (m x:Int):Int:=if x>m then x else m
theorem zo {l:List Int} (hl:l.length<9223372036854775807) (x0:List PV→Int→Int→Bool→Prop) :
  ∀ (rest:List Int) (i:Nat) (m:Int) (n:Nat),l.drop i=rest→i≤l.length→rest.length<n→x0 (aD l) (rest.foldl Ar m) (l.length:Int) false →
   GH x0 n (aD l) m (i:Int):=by
 intro rest;induction rest with
 | nil=>
  intro i m n hd hi hn k;have:i=l.length:=by
   have:=Aaa length hd;rw [lH] at this;have h2:([]:List Int).length=0:=rfl;omega
  match n,hn with
  | n+1,_ =>unfold GH;rw [dZ,this];exact Hb (by omega) k
 | cons x t ih=>
  intro i m n hd hi hn k;have hlt:i<l.length:=by
   have:=Aaa length hd;rw [lH,kK] at this;omega
  have hx:l.getD i 0=x:=by have:=List.getElem_drop (xs:=l) (i:=i) (j:=0) (h:=by rw [hd];exact AW _);rw [dQ,dF hlt];simp only [hd,List.getElem_cons_zero,tV] at this;exact this.symm
  have ht:l.drop (i+1)=t:=by rw [← List.tail_drop,hd];rfl
  match n,hn with
  | n+1,hn =>unfold GH;rw [dZ];refine Nn (by omega) ?_;refine xB (by omega) (xB (by omega) (yii (Cj (by omega)) ?_));rw [dR,fG hlt,hx,dU (n:=(i:Int)+1) ⟨by omega,by omega⟩];exact ih (i+1) _ n ht (by omega) (by rw [kK] at hn;omega) k
theorem M3 {l:List Int} (hl:l.length<9223372036854775807) {x:Int} {t:List Int} (e:l=x::t) {K:Int→Prop} (k:K (t.foldl Ar x)):GI (aD l) K:=by
 have h0:0<l.length:=by rw [e];exact AW _
 unfold GI SG;rw [dZ];refine Hb (by omega) (xB (by omega) (yii (Cj h0) ⟨l.length+1,?_⟩));have e0:l.getD 0 0=x:=by rw [e];rfl
 rw [fG h0,e0];refine zo hl _ t 1 x _ (by rw [e];rfl) (by omega) (by rw [e,kK];omega) ?_;exact k
def vE (l:List Int) (i:Nat):Prop:=∀ j,i≤j→j+1<l.length→l.getD j 0<l.getD (j+1) 0
theorem zp {l:List Int} {p2:List PV} {p0:Int} (hl:l.length<9223372036854775807) (W1 W2:List PV→(Int→Prop)→Prop) (x0:Int→Prop) (x1:Int→List PV→List PV→Int→Int→Bool→Prop) :
  ∀ (r i n:Nat),i+r+1=l.length→r<n→(vE l i→x1 p0 (aD l) p2 ((l.length:Int)-1) ((l.length:Int)-1) false)→(¬vE l i→x0 8) →
   GJ W1 W2 x0 x1 n p0 (aD l) p2 ((l.length:Int)-1) (i:Int):=by
 intro r;induction r with
 | zero=>
  intro i n hi hn k _
  match n,hn with
  | n+1,_=>
   unfold GJ;have e:(i:Int)=(l.length:Int)-1:=by omega
   refine Hb (by omega) ?_;rw [e];exact k (fun j h1 h2=>by omega)
 | succ r ih=>
  intro i n hi hn k k0
  match n,hn with
  | n+1,hn=>
   unfold GJ;rw [dU (n:=(i:Int)+1) ⟨by omega,by omega⟩,dZ];have e1:((i:Int)+1)=((i+1:Nat):Int):=by omega
   rw [e1,dR,dR];refine Nn (by omega) (xB (by omega) (xB (by omega) (yii (Cj (by omega)) (xB (by omega) (xB (by omega) (yii (Cj (by omega)) ?_))))));rw [fG (by omega),fG (by omega)]
   by_cases h:l.getD i 0≥l.getD (i+1) 0
   ·exact Nn h (k0 fun hc=>absurd (hc i (cQ _) (by omega)) (by omega))
   ·refine Hb h (ih (i+1) n (by omega) (by omega) (fun hc=>k fun j h1 h2=>?_) (fun hc=>k0 fun hd=>hc fun j h1 h2=>hd j (by omega) h2))
    by_cases hj:j=i
    ·subst hj;omega
    ·exact hc j (by omega) h2
def small (q:Rat):Prop:=-1000000000000000000≤q.num∧q.num≤1000000000000000000∧(q.den:Int)≤1000000000000000000
instance (q:Rat):Decidable (small q):=by unfold small;infer_instance
theorem small.rv {q:Rat} (h:small q):RV q.num q.den:=by obtain ⟨h1,h2,h3⟩:=h;have:=q.den_pos;exact ⟨by omega,h3,h1,h2,q.reduced⟩
theorem small.i1 {q:Rat} (h:small q):dI q.num:=⟨by have:=h.1;omega,by have:=h.2.1;omega⟩
theorem small.i2 {q:Rat} (h:small q):dI (q.den:Int):=⟨by omega,by have:=h.2.2;omega⟩
theorem As {q r:Rat} (h:small q) (k:small r):dA q.num q.den r.num r.den=0:=Aq.2 ⟨h.rv,k.rv⟩
def fitK (q:Rat) (K:Int→Int→Int→Prop):Prop:=if small q then K q.num q.den 0 else K 0 0 16
theorem M4 {q:Rat} {s:Bool} {a b:Int} (ha:a=(q.num.natAbs:Int)) (hb:b=(q.den:Int)) (hs:q.num≠0→s=decide (q.num<0)) (K:Int→Int→Int→Prop):gH s a b K=fitK q K:=by
 unfold gH fitK;subst ha hb
 by_cases h:small q
 ·have h':=h;obtain ⟨h1,h2,h3⟩:=h;rw [WN (show _∧_ from ⟨by omega,h3⟩),WN h'];have e:(if s=true then -((q.num.natAbs:Nat):Int) else ((q.num.natAbs:Nat):Int))=q.num:=by
   by_cases h0:q.num=0
   ·rw [h0];cases s<;>rfl
   ·rw [hs h0]
    by_cases h1:q.num<0
    ·rw [Eb h1,WN rfl];omega
    ·rw [Os h1,WO (by simp)];omega
  rw [e]
 ·rw [WO h,WO];intro h2;exact h ⟨by omega,by omega,h2.2⟩
theorem M5 (x:Int) (g:Nat):(Int.tdiv x g).natAbs=x.natAbs/g:=by rw [Int.natAbs_tdiv,HF];rfl
theorem M6 {x:Int} {g:Nat} (h:(g:Int)∣x) (hx:x≠0):decide (Int.tdiv x g<0)=decide (x<0):=by
 obtain ⟨k,rfl⟩:=h;have hg:(g:Int)≠0:=fun e=>hx (by rw [e,Int.zero_mul])
 rw [Int.mul_tdiv_cancel_left _ hg];have h1:(g:Int)>0:=by have:=vQ g;omega
 have:(g:Int)*k<0↔k<0:=by
  constructor
  ·intro h;refine Int.not_le.1 fun hk=>?_
   have:=lK (show 0≤(g:Int) by omega) hk;omega
  ·intro h;exact Int.mul_neg_of_pos_of_neg h1 h
 simp only [this]
theorem zq (q r:Rat):(q*r).num=Int.tdiv q.num (Nat.gcd q.num.natAbs r.den)*Int.tdiv r.num (Nat.gcd r.num.natAbs q.den) ∧
  (q*r).den=(q.den/Nat.gcd r.num.natAbs q.den)*(r.den/Nat.gcd q.num.natAbs r.den):=by
 have e:q*r=Rat.mul q r:=rfl;rw [e]
 delta Rat.mul
 constructor
 ·simp only [Int.divExact_eq_tdiv]
 ·simp only [Nat.divExact_eq_div]
theorem JU (x:Int) (d:Nat):((Nat.gcd x.natAbs d:Nat):Int)∣x:=by rw [← Int.dvd_natAbs,Int.ofNat_dvd];exact Nat.gcd_dvd_left _ _
theorem M7 {x:Int} {g:Nat} (h:(g:Int)∣x) (hx:x≠0):Int.tdiv x g≠0:=by
 obtain ⟨k,rfl⟩:=h;have hg:(g:Int)≠0:=fun e=>hx (by rw [e,Int.zero_mul])
 rw [Int.mul_tdiv_cancel_left _ hg];intro e;rw [e,Int.mul_zero] at hx;exact hx rfl
theorem zr {x y:Int} (hx:x≠0) (hy:y≠0):decide (x*y<0)=(decide (x<0) !=decide (y<0)):=by
 by_cases h1:x<0<;>by_cases h2:y<0
 ·have:=Int.mul_pos_of_neg_of_neg h1 h2;simp [h1,h2];omega
 ·have:=EM h1 (show 0<y by omega);simp [h1,h2];omega
 ·have:=Int.mul_neg_of_pos_of_neg (show 0<x by omega) h2;simp [h1,h2];omega
 ·have:=Int.mul_pos (show 0<x by omega) (show 0<y by omega);simp [h1,h2];omega
theorem Ui (q r:Rat) (K:Int→Int→Int→Prop):gH (decide (q.num<0) !=decide (r.num<0)) (iP q.num r.num q.den r.den) (kZ q.num r.num q.den r.den) K=fitK (q*r) K:=by
 obtain ⟨e1,e2⟩:=zq q r;refine M4 ?_ ?_ ?_ K
 ·rw [e1,Int.natAbs_mul,M5,M5];simp only [iP,HF]
 ·rw [e2];simp only [kZ,HF]
 ·intro h;rw [e1] at h ⊢;have h1:q.num≠0:=fun e=>h (by rw [e,Int.zero_tdiv,Int.zero_mul])
  have h2:r.num≠0:=fun e=>h (by rw [e,Int.zero_tdiv,Int.mul_zero])
  rw [zr (M7 (JU _ _) h1) (M7 (JU _ _) h2),M6 (JU _ _) h1,M6 (JU _ _) h2]
theorem No {w:(Int→Int→Int→Prop)→Prop} {q:Rat} (det:∀ r0 r1 r2,(∀ K:Int→Int→Int→Prop,K r0 r1 r2→w K)→∀ K,w K=K r0 r1 r2) (h:∀ K,fitK q K→w K) (K:Int→Int→Int→Prop):w K=fitK q K:=by
 unfold fitK at h ⊢
 by_cases hs:small q
 ·simp only [WN hs] at h ⊢;exact det _ _ _ h K
 ·simp only [WO hs] at h ⊢;exact det _ _ _ h K
theorem M8 {q r:Rat} (hq:small q) (hr:small r) (K:Int→Int→Int→Prop):BY q.num q.den r.num r.den K=fitK (q*r) K:=
 No (fun r0 r1 r2 h K=>pn _ _ _ _ r0 r1 r2 h K) (fun K k=>Ug hq.i1 hq.i2 hr.i1 hr.i2 (by rw [WN (As hq hr),Ui];exact k)) K
theorem Uj {r:Rat} (h:r≠0):(r⁻¹).num=(if r.num<0 then -(r.den:Int) else r.den)∧(r⁻¹).den=r.num.natAbs:=by
 have h0:r.num≠0:=fun e=>h (Rat.num_eq_zero.1 e)
 constructor
 ·rw [Rat.num_inv]
  by_cases h1:r.num<0
  ·rw [WN h1,Int.sign_eq_neg_one_of_neg h1];omega
  ·rw [WO h1,Int.sign_eq_one_of_pos (by omega)];omega
 ·rw [Rat.den_inv,WO h0]
theorem small.inv {r:Rat} (h:small r) (h0:r≠0):small r⁻¹:=by obtain ⟨e1,e2⟩:=Uj h0;obtain ⟨h1,h2,h3⟩:=h;unfold small;rw [e1,e2];split<;>omega
theorem Uk {q r:Rat} (hq:small q) (hr:small r) (h0:r≠0) (K:Int→Int→Int→Prop):BZ q.num q.den r.num r.den K=fitK (q/r) K:=by
 have hn:r.num≠0:=fun e=>h0 (Rat.num_eq_zero.1 e)
 refine No (fun r0 r1 r2 h K=>po _ _ _ _ r0 r1 r2 h K) (fun K k=>zi hq.i1 hq.i2 hr.i1 hr.i2 ?_) K;rw [WN (As hq hr),WO hn];rw [Rat.div_def,← Ui] at k;obtain ⟨e1,e2⟩:=Uj h0;rw [e1,e2] at k;have s:decide ((if r.num<0 then -(r.den:Int) else (r.den:Int))<0)=decide (r.num<0):=by
  have:=r.den_pos;split
  ·rename_i h;simp only [h];simp;omega
  ·rename_i h;simp only [h];simp
 rw [s] at k;have hd:(if r.num<0 then -(r.den:Int) else (r.den:Int)).natAbs=r.den:=by split<;>omega
 unfold iP kZ at k ⊢;simp only [hd,HF] at k ⊢;exact k
theorem zt (q r:Rat):(q+r).num=(q.num*(r.den/Nat.gcd q.den r.den:Nat)+r.num*(q.den/Nat.gcd q.den r.den:Nat))/(Nat.gcd (q.num*(r.den/Nat.gcd q.den r.den:Nat)+r.num*(q.den/Nat.gcd q.den r.den:Nat)).natAbs (Nat.gcd q.den r.den):Nat) ∧
  (q+r).den=(q.den/Nat.gcd q.den r.den)*r.den/Nat.gcd (q.num*(r.den/Nat.gcd q.den r.den:Nat)+r.num*(q.den/Nat.gcd q.den r.den:Nat)).natAbs (Nat.gcd q.den r.den):=by
 have e:q+r=Rat.add q r:=rfl;rw [e]
 delta Rat.add
 by_cases hg:q.den.gcd r.den=1
 ·simp only [hg,dif_pos,Nat.div_one,Nat.gcd_one_right,Int.natCast_one,Int.ediv_one,and_self]
 ·simp only [hg,dif_neg,not_false_eq_true,Rat.maybeNormalize_eq];constructor
  ·first | rfl | simp only [Int.divExact_eq_tdiv]
  ·first | rfl | simp only []
theorem zu {q r:Rat} {Z:Int} {g:Nat} (e1:(q+r).num=Z/(Nat.gcd Z.natAbs g:Nat)) (e2:(q+r).den=(q.den/g)*r.den/Nat.gcd Z.natAbs g) (hgp:0<g) (hgd:g∣r.den) (K:Int→Int→Int→Prop) :
  fU (decide (Z<0)) (Z.natAbs:Int) q.den r.den g K=fitK (q+r) K:=by
 unfold fU
 by_cases h0:Z=0
 ·subst h0;have:(q+r)=0:=by
   apply Rat.num_eq_zero.1;rw [e1];simp
  rw [this,WN (by rfl)];unfold fitK;rw [WN (by decide)];rfl
 ·have hne:¬((Z.natAbs:Nat):Int)=0:=by omega
  rw [WO hne];have hdv:((Nat.gcd Z.natAbs g:Nat):Int)∣Z:=JU _ _;have hhp:0<Nat.gcd Z.natAbs g:=xN _ hgp;have hhg:Nat.gcd Z.natAbs g∣r.den:=Nat.dvd_trans (HG _ _) hgd;refine M4 ?_ ?_ ?_ K
  ·rw [e1,Int.natAbs_ediv_of_dvd hdv];simp
  ·rw [e2];simp only [dR];rw [Nat.mul_div_assoc _ hhg]
  ·intro h;rw [e1];obtain ⟨k,hk⟩:=hdv;revert hhp hk;generalize Nat.gcd Z.natAbs g=h;intro hhp hk;have e:Z/(h:Int)=k:=by rw [hk,Int.mul_ediv_cancel_left _ (by omega)]
   rw [e];have:Z<0↔k<0:=by
    rw [hk];constructor
    ·intro hk;refine Int.not_le.1 fun hk2=>?_
     have:=lK (show 0≤(h:Int) by omega) hk2;omega
    ·intro hk;exact Int.mul_neg_of_pos_of_neg (by omega) hk
   simp only [this]
theorem Ul (q r:Rat) (K:Int→Int→Int→Prop) :
  fU (decide (q.num*((r.den:Int)/(Nat.gcd (q.den:Int).natAbs (r.den:Int).natAbs:Nat))+r.num*((q.den:Int)/(Nat.gcd (q.den:Int).natAbs (r.den:Int).natAbs:Nat))<0))
   ((q.num*((r.den:Int)/(Nat.gcd (q.den:Int).natAbs (r.den:Int).natAbs:Nat))+r.num*((q.den:Int)/(Nat.gcd (q.den:Int).natAbs (r.den:Int).natAbs:Nat))).natAbs:Int) q.den r.den (Nat.gcd (q.den:Int).natAbs (r.den:Int).natAbs) K=fitK (q+r) K:=by
 obtain ⟨e1,e2⟩:=zt q r;rw [mM,mM] at e1 e2;exact zu e1 e2 (Nat.gcd_pos_of_pos_left _ q.den_pos) (HG _ _) K
theorem Um {q r:Rat} (hq:small q) (hr:small r) (K:Int→Int→Int→Prop):BW q.num q.den r.num r.den K=fitK (q+r) K:=
 No (fun r0 r1 r2 h K=>pl _ _ _ _ r0 r1 r2 h K) (fun K k=>L9 hq.i1 hq.i2 hr.i1 hr.i2 (by rw [WN (As hq hr),Ul];exact k)) K
theorem M9 {q r:Rat} (hq:small q) (hr:small r) (K:Int→Int→Int→Prop):BX q.num q.den r.num r.den K=fitK (q-r) K:=
 No (fun r0 r1 r2 h K=>pm _ _ _ _ r0 r1 r2 h K) (fun K k=>zl hq.i1 hq.i2 hr.i1 hr.i2 (by
  rw [WN (As hq hr)];rw [Rat.sub_eq_add_neg,← Ul] at k;exact k)) K
def Au (q r:Rat):Int:=if q<r then -1 else if r<q then 1 else 0
theorem zv (q r:Rat):pW q.num q.den r.num r.den=Au q r:=by unfold pW gY Au;simp only [Rat.lt_iff]
theorem zw {q r:Rat} (hq:small q) (hr:small r) (K:Int→Int→Prop):DP q.num q.den r.num r.den K=K (Au q r) 0:=
 pq _ _ _ _ _ _ (fun K k=>yv hq.i1 hq.i2 hr.i1 hr.i2 (by rw [As hq hr,WN rfl,zv];exact k)) K
theorem Av {p:Int} (h:dI p) (K:Int→Prop):DT p K=K (p.natAbs:Int):=by
 unfold dI at h;unfold DT ST
 by_cases hp:p<0
 ·have e0:i64.wrap (p+1)=p+1:=dU ⟨by omega,by omega⟩;have e1:i64.wrap ((0:Int)-(p+1))=-(p+1):=by rw [dU ⟨by omega,by omega⟩];omega
  have e2:u64.wrap (-(p+1))=-(p+1):=bF ⟨by omega,by omega⟩;have e3:u64.wrap (-(p+1)+1)=(p.natAbs:Int):=by rw [bF ⟨by omega,by omega⟩];omega
  rw [Eb hp,bU,e0,e1,e2,e3]
 ·rw [Os hp,bN,bF ⟨by omega,by omega⟩];congr 1;omega
theorem N0 (x:Int→Int→Bool→Prop):∀ (n a b:Nat),b<n→JH x n (a:Int) (b:Int)=x ((Nat.gcd a b:Nat):Int) 0 false
 | 0,a,b,h=>by omega
 | n+1,a,b,h=>by
  unfold JH
  by_cases hb:b=0
  ·subst hb;simp [aM]
  ·have h1:((b:Int) !=0)=true:=by simp;omega
   have h2:¬((b:Int)=0):=by omega
   rw [h1,bU,Os h2,Bool.not_false,gG];have e:Int.tmod (a:Int) (b:Int)=((a%b:Nat):Int):=by rw [Int.tmod_eq_emod_of_nonneg (by omega)];omega
   rw [e,N0 x n b (a%b) (by have:=Nat.mod_lt a (show b>0 by omega);omega)];rw [vY a b,Nat.gcd_rec b a,vY]
theorem JV (a b:Nat) (K:Int→Prop):uY (a:Int) (b:Int) K=K ((Nat.gcd a b:Nat):Int):=by refine uc _ _ _ (fun K h=>?_) K;unfold uY SU;exact ⟨b+1,by rw [N0 _ (b+1) a b (by omega)];exact h⟩
theorem Cl {a b:Int} (h:a=b):(a !=b)=false:=by simp [h]
theorem JW {a b:Int} (h:a≠b):(a !=b)=true:=by simp [h]
theorem Hc {a b:Int} (h:a≠b):(a==b)=false:=by simp [h]
theorem Np {a b:Int} (h:a=b):(a==b)=true:=by simp [h]
theorem Un {n d:Int} (hn:dI n) (hd:dI d) (K:Int→Prop):MV n d K=K (nY n d):=by
 unfold MV SW
 by_cases h1:d<1
 ·rw [Eb h1,bU,nY,WO (fun h=>by have:=h.1;omega)]
 ·rw [Os h1,bN]
  by_cases h2:d>1000000000000000000
  ·rw [Eb h2,bU,nY,WO (fun h=>by have:=h.2.1;omega)]
  ·rw [Os h2,bN]
   by_cases h3:n < -1000000000000000000
   ·rw [Eb h3,bU,nY,WO (fun h=>by have:=h.2.2.1;omega)]
   ·rw [Os h3,bN]
    by_cases h4:n>1000000000000000000
    ·rw [Eb h4,bU,nY,WO (fun h=>by have:=h.2.2.2.1;omega)]
    ·have ed:u64.wrap d=((d.natAbs:Nat):Int):=by rw [bF ⟨by omega,by omega⟩];omega
     rw [Os h4,bN,Av hn,ed,JV]
     by_cases h5:Nat.gcd n.natAbs d.natAbs=1
     ·rw [h5,Cl (by rfl),bN,nY,WN ⟨by omega,by omega,by omega,by omega,h5⟩]
     ·rw [JW (by omega),bU,nY,WO (fun h=>h5 h.2.2.2.2)]
theorem Nq {a b c d:Int} (ha:dI a) (hb:dI b) (hc:dI c) (hd:dI d) (K:Int→Prop):DU a b c d K=K (dA a b c d):=by
 unfold DU SX;rw [Un ha hb,Un ha hb,Un hc hd,dA]
 by_cases h:nY a b=0
 ·rw [Cl h,bN,WN h]
 ·rw [JW h,bU,WO h]
theorem Uo {m s:Int} (hm:0≤m) (hs:0≤s∧s<4294967296):u64.wrap (BitVec.ofInt u64.bits (u64.wrap (m*4294967296))|||BitVec.ofInt u64.bits s).toNat=m%4294967296*4294967296+s:=by
 have e:u64.wrap (m*4294967296)=m%4294967296*2 ^ 32:=by rw [oU];omega
 rw [e,Ue (k:=32) (by omega) ⟨hs.1,by omega⟩ ⟨by omega,by omega⟩ (by omega)];omega
theorem zx {a b:Int} (ha:gK a) (hb:gK b) (K:Int→Int→Prop):Cb a b K=K (a*b/18446744073709551616) (a*b%18446744073709551616):=by
 unfold Cb Ta;simp only [K4];rw [Ap ha,Ap hb];unfold gK at ha hb;have ha':=ha;have hb':=hb;obtain ⟨x1,hx1⟩:∃ x,x=a/4294967296:=⟨_,rfl⟩;obtain ⟨x0,hx0⟩:∃ x,x=a%4294967296:=⟨_,rfl⟩;obtain ⟨y1,hy1⟩:∃ x,x=b/4294967296:=⟨_,rfl⟩;obtain ⟨y0,hy0⟩:∃ x,x=b%4294967296:=⟨_,rfl⟩;rw [← hx1,← hx0,← hy1,← hy0];have b1:0≤x1∧x1≤4294967295:=by omega
 have b2:0≤x0∧x0≤4294967295:=by omega
 have b3:0≤y1∧y1≤4294967295:=by omega
 have b4:0≤y0∧y0≤4294967295:=by omega
 have pb:∀ x y:Int,0≤x∧x≤4294967295→0≤y∧y≤4294967295→0≤x*y∧x*y≤18446744065119617025:=by intro x y hx hy;refine ⟨lK hx.1 hy.1,?_⟩;have:=nB hx.2 hy.2 hy.1 (by omega:(0:Int)≤4294967295);omega
 have p1:=pb x1 y1 b1 b3;have p2:=pb x1 y0 b1 b4;have p3:=pb x0 y1 b2 b3;have p4:=pb x0 y0 b2 b4;have ea:a=x1*4294967296+x0:=by omega
 have eb:b=y1*4294967296+y0:=by omega
 have eab:a*b=x1*y1*18446744073709551616+x1*y0*4294967296+x0*y1*4294967296+x0*y0:=by rw [ea,eb];grind
 obtain ⟨P,hP⟩:∃ x,x=x1*y1:=⟨_,rfl⟩;obtain ⟨Q,hQ⟩:∃ x,x=x1*y0:=⟨_,rfl⟩;obtain ⟨R,hR⟩:∃ x,x=x0*y1:=⟨_,rfl⟩;obtain ⟨S,hS⟩:∃ x,x=x0*y0:=⟨_,rfl⟩;rw [← hP] at p1;rw [← hQ] at p2;rw [← hR] at p3;rw [← hS] at p4;rw [← hP,← hQ,← hR,← hS] at eab ⊢;have w1:u64.wrap S=S:=bF ⟨by omega,by omega⟩;have w2:u64.wrap Q=Q:=bF ⟨by omega,by omega⟩;have w3:u64.wrap R=R:=bF ⟨by omega,by omega⟩;have w4:u64.wrap P=P:=bF ⟨by omega,by omega⟩;rw [w1,w2,w3,w4,Ap (p:=Q) ⟨by omega,by omega⟩,Ap (p:=S) ⟨by omega,by omega⟩];have w5:u64.wrap (Q%4294967296+R)=Q%4294967296+R:=bF ⟨by omega,by omega⟩;rw [w5];have w6:u64.wrap (Q%4294967296+R+S/4294967296)=Q%4294967296+R+S/4294967296:=bF ⟨by omega,by omega⟩;rw [w6,Uo (by omega) ⟨by omega,by omega⟩];have hab:a*b≤18446744073709551615*18446744073709551615:=nB ha'.2 hb'.2 hb'.1 (by omega:(0:Int)≤18446744073709551615);rw [eab] at hab ⊢;have w7:u64.wrap (P+Q/4294967296)=P+Q/4294967296:=bF ⟨by omega,by omega⟩;rw [w7,bF ⟨by omega,by omega⟩];congr 1<;>omega
theorem Up {X Y:Int} (hx:0≤X) (hy:0≤Y) (hs:X+Y<340282366920938463463374607431768211456) (K:Int→Int→Prop) :
  wV (X/18446744073709551616) (X%18446744073709551616) (Y/18446744073709551616) (Y%18446744073709551616) K=K ((X+Y)/18446744073709551616) ((X+Y)%18446744073709551616):=by
 unfold wV Tc;rw [oU,oU,oU]
 by_cases h:(X%18446744073709551616+Y%18446744073709551616)%18446744073709551616<X%18446744073709551616
 ·rw [Eb h,bU];congr 1<;>omega
 ·rw [Os h,bN];congr 1<;>omega
theorem N1 {X Y:Int} (hy:0≤Y) (hs:Y≤X) (hx:X<340282366920938463463374607431768211456) (K:Int→Int→Prop) :
  GL (X/18446744073709551616) (X%18446744073709551616) (Y/18446744073709551616) (Y%18446744073709551616) K=K ((X-Y)/18446744073709551616) ((X-Y)%18446744073709551616):=by
 unfold GL MY;rw [oU,oU,oU]
 by_cases h:X%18446744073709551616<Y%18446744073709551616
 ·rw [Eb h,bU];congr 1<;>omega
 ·rw [Os h,bN];congr 1<;>omega
theorem Nr {X Y:Int} (hx:0≤X) (hy:0≤Y) (K:Bool→Prop) :
  JJ (X/18446744073709551616) (X%18446744073709551616) (Y/18446744073709551616) (Y%18446744073709551616) K=K (decide (X<Y)):=by
 unfold JJ Td
 by_cases h:X/18446744073709551616<Y/18446744073709551616
 ·rw [Eb h,bU,Eb (by omega)]
 ·rw [Os h,bN]
  by_cases h2:X/18446744073709551616=Y/18446744073709551616
  ·rw [Np h2,bU];congr 1;rw [Aab];omega
  ·rw [Hc h2,bN,Os (by omega)]
theorem zy {i:Int} (h:0≤i∧i≤127):i64.wrap (BitVec.ofInt i64.bits i&&&BitVec.ofInt i64.bits (63:Int)).toNat=i%64:=by
 have e1:(BitVec.ofInt 64 i).toNat=i.toNat:=by rw [BitVec.toNat_ofInt];omega
 have e2:(BitVec.ofInt 64 (63:Int)).toNat=63:=rfl;have e3:(BitVec.ofInt i64.bits i&&&BitVec.ofInt i64.bits (63:Int)).toNat=i.toNat%64:=by show (BitVec.ofInt 64 i&&&BitVec.ofInt 64 (63:Int)).toNat=_;rw [BitVec.toNat_and,e1,e2];exact Nat.and_two_pow_sub_one_eq_mod i.toNat 6
 rw [e3,dU ⟨by omega,by omega⟩];omega
theorem JX {p:Int} (h:gK p):u64.wrap (BitVec.ofInt u64.bits p&&&BitVec.ofInt u64.bits (1:Int)).toNat=p%2:=by
 unfold gK at h;have e1:(BitVec.ofInt 64 p).toNat=p.toNat:=by
  rw [BitVec.toNat_ofInt];omega
 have e2:(BitVec.ofInt 64 (1:Int)).toNat=1:=rfl;have e3:(BitVec.ofInt u64.bits p&&&BitVec.ofInt u64.bits (1:Int)).toNat=p.toNat%2:=by show (BitVec.ofInt 64 p&&&BitVec.ofInt 64 (1:Int)).toNat=_;rw [BitVec.toNat_and,e1,e2];exact Nat.and_two_pow_sub_one_eq_mod p.toNat 1
 rw [e3,oU];omega
theorem N2 {m s:Int} (hm:0≤m∧m≤9223372036854775807) (hs:0≤s∧s<2):u64.wrap (BitVec.ofInt u64.bits (m*2)|||BitVec.ofInt u64.bits s).toNat=m*2+s:=by have:=Ue (a:=m) (b:=s) (k:=1) hm.1 ⟨hs.1,by omega⟩ ⟨by omega,by omega⟩ (by omega);simpa using this
theorem JY (i:Nat):(2:Int) ^ i=((2 ^ i:Nat):Int):=by rw [Int.natCast_pow];rfl
theorem zz {W:Nat} (hW:W=2 ^ 64) {A:Int} (hA:0≤A) {i:Nat} (hi:i<64):A%(W:Int)/(2 ^ i:Int)%((2:Nat):Int)=A/(2 ^ i:Int)%((2:Nat):Int):=by
 obtain ⟨a,rfl⟩:∃ a:Nat,A=a:=⟨A.toNat,by omega⟩;have:(a%W/2 ^ i%2:Nat)=a/2 ^ i%2:=by
  have e:W=2 ^ i*2 ^ (64-i):=by rw [← Nat.pow_add];rw [show i+(64-i)=64 by omega,hW]
  rw [e,Nat.mod_mul_right_div_self];have e2:2 ^ (64-i)=2*2 ^ (63-i):=by rw [show 64-i=(63-i)+1 by omega,Nat.pow_succ,Nat.mul_comm]
  rw [e2,Nat.mod_mul_right_mod]
 rw [JY,← Int.natCast_emod,← mM,← Int.natCast_emod,← mM,← Int.natCast_emod,this]
theorem yI8 {A:Int} (hA:0≤A) {i:Nat} (hi:i<64):A%18446744073709551616/(2 ^ i:Int)%2=A/(2 ^ i:Int)%2:=zz (W:=18446744073709551616) rfl hA hi
theorem yGb {W:Nat} (hW:W=2 ^ 64) {A:Int} (hA:0≤A) {i:Nat} (hi:64≤i):A/(W:Int)/(2 ^ (i-64):Int)=A/(2 ^ i:Int):=by
 obtain ⟨a,rfl⟩:∃ a:Nat,A=a:=⟨A.toNat,by omega⟩;have:(a/W/2 ^ (i-64):Nat)=a/2 ^ i:=by
  have e:(2 ^ i:Nat)=W*2 ^ (i-64):=by rw [hW,← Nat.pow_add,show 64+(i-64)=i by omega]
  rw [e,Nat.div_div_eq_div_mul]
 rw [JY,JY,← mM,← mM,← mM,this]
theorem yI9 {A:Int} (hA:0≤A) {i:Nat} (hi:64≤i):A/18446744073709551616/(2 ^ (i-64):Int)=A/(2 ^ i:Int):=yGb (W:=18446744073709551616) rfl hA hi
theorem yED {d B q r b:Int} (hd:0<d) (hq:B/d=q) (hr:B%d=r) (hb:0≤b∧b≤1) :
  (2*B+b)/d=(if 2*r+b≥d then 2*q+1 else 2*q)∧(2*B+b)%d=(if 2*r+b≥d then 2*r+b-d else 2*r+b):=by
 have h1:=Int.mul_ediv_add_emod B d;have h2:=EU B (show d≠0 by omega);have h3:=ES B hd;rw [hq,hr] at h1;rw [hr] at h2 h3;split
 ·refine (Int.ediv_emod_unique hd).2 ⟨?_,by omega,by omega⟩;grind
 ·refine (Int.ediv_emod_unique hd).2 ⟨?_,by omega,by omega⟩;grind
theorem yAt {A d:Int} (hA:0≤A∧A<340282366920938463463374607431768211456) (hd:0<d∧d<9223372036854775808) {x0:Int→Int→Int→Int→Int→Int→Int→Int→Int→Bool→Prop}
  (k0:x0 d (A/18446744073709551616) (A%18446744073709551616) 0 0 (A/d/18446744073709551616) (A/d%18446744073709551616) (A%d) (-1) false) :
  ∀ (k n:Nat),k≤128→k<n→uZ wV x0 n d (A/18446744073709551616) (A%18446744073709551616) 0 0
   (A/2 ^ k/d/18446744073709551616) (A/2 ^ k/d%18446744073709551616) (A/2 ^ k%d) ((k:Int)-1):=by
 intro k;induction k with
 | zero=>
  intro n _ hn
  match n,hn with
  | n+1,_=>
   unfold uZ;rw [Os (by omega),bN];have e:A/2 ^ 0=A:=by rw [Int.pow_zero,Int.ediv_one]
   rw [e];exact k0
 | succ k ih=>
  intro n hk hn
  match n,hn with
  | n+1,hn=>
   unfold uZ;have e8:((k+1:Nat):Int)-1=(k:Int):=by omega
   rw [e8,Eb (by omega),bU];rw [zy (i:=(k:Int)) ⟨by omega,by omega⟩];have en:(!decide ((k:Int)%64<0))=true:=by rw [Os (by omega)];rfl
   have em:min ((k:Int)%64).toNat u64.bits=k%64:=by show min _ 64=_;omega
   rw [en,gG,gG,em];have pp:∀ m:Nat,(0:Int)≤2 ^ m:=fun m=>by rw [JY];exact vQ _
   have p1:∀ m:Nat,(0:Int)<2 ^ m:=fun m=>by rw [JY];exact Int.natCast_pos.2 (Nat.two_pow_pos m)
   simp only [Ci _ _ (pp _)];have hC0:0≤A/2 ^ k:=vT hA.1 (pp _);have hCA:A/2 ^ k≤A:=AV _ hA.1;have hBC:A/2 ^ (k+1)=A/2 ^ k/2:=by
    rw [Int.pow_succ,Int.ediv_ediv_of_nonneg (pp k)]
   obtain ⟨C,hC⟩:∃ C,C=A/2 ^ k:=⟨_,rfl⟩;have ih2:=ih n (by omega) (by omega);rw [← hC] at hC0 hCA hBC ih2;rw [hBC];obtain ⟨b,hb⟩:∃ b,b=C%2:=⟨_,rfl⟩;have hCb:C=2*(C/2)+b:=by omega
   obtain ⟨s1,s2⟩:=yED (B:=C/2) (b:=b) hd.1 rfl rfl ⟨by omega,by omega⟩;rw [← hCb] at s1 s2;have r0:=EU (C/2) (show d≠0 by omega);have r1:=ES (C/2) hd.1;have q0:0≤C/2/d:=vT (by omega) (by omega);have q1:C/2/d≤C/2:=AV _ (by omega);rw [s1,s2] at ih2;obtain ⟨q,hq⟩:∃ q,q=C/2/d:=⟨_,rfl⟩;obtain ⟨r,hr⟩:∃ r,r=C/2%d:=⟨_,rfl⟩;rw [← hq,← hr] at ih2;rw [← hq] at q0 q1;rw [← hr] at r0 r1;rw [← hq,← hr];have e2:u64.wrap (r*2)=r*2:=bF ⟨by omega,by omega⟩;rw [e2,dU (n:=(k:Int)-1) ⟨by omega,by omega⟩];rw [Up q0 q0 (by omega),Up q0 q0 (by omega)];have hlo:0≤A%18446744073709551616/2 ^ (k%64)∧A%18446744073709551616/2 ^ (k%64)≤18446744073709551615:=by
    refine ⟨vT (by omega) (pp _),?_⟩;have:=AV (a:=A%18446744073709551616) (2 ^ (k%64)) (by omega);omega
   have hhi:0≤A/18446744073709551616/2 ^ (k%64)∧A/18446744073709551616/2 ^ (k%64)≤18446744073709551615:=by refine ⟨vT (by omega) (pp _),?_⟩;have:=AV (a:=A/18446744073709551616) (2 ^ (k%64)) (by omega);omega
   rw [JX hlo,JX hhi];have go:∀ bb:Int,bb=b→aM (decide (u64.wrap (BitVec.ofInt u64.bits (r*2)|||BitVec.ofInt u64.bits bb).toNat≥d))
     (uZ wV x0 n d (A/18446744073709551616) (A%18446744073709551616) 0 0 ((q+q)/18446744073709551616) (u64.wrap (BitVec.ofInt u64.bits ((q+q)%18446744073709551616)|||BitVec.ofInt u64.bits (1:Int)).toNat) (u64.wrap ((u64.wrap (BitVec.ofInt u64.bits (r*2)|||BitVec.ofInt u64.bits bb).toNat)-d)) ((k:Int)-1))
     (uZ wV x0 n d (A/18446744073709551616) (A%18446744073709551616) 0 0 ((q+q)/18446744073709551616) ((q+q)%18446744073709551616) (u64.wrap (BitVec.ofInt u64.bits (r*2)|||BitVec.ofInt u64.bits bb).toNat) ((k:Int)-1)):=by
    intro bb hbb;rw [hbb,N2 ⟨r0,by omega⟩ ⟨by omega,by omega⟩]
    by_cases hge:2*r+b≥d
    ·rw [WN hge,WN hge] at ih2;rw [Eb (show r*2+b≥d by omega),bU,bF (n:=r*2+b-d) ⟨by omega,by omega⟩];have e3:(q+q)%18446744073709551616=((q%9223372036854775808)*2):=by omega
     rw [e3,N2 ⟨by omega,by omega⟩ ⟨by omega,by omega⟩];have e4:(q+q)/18446744073709551616=(2*q+1)/18446744073709551616:=by omega
     have e5:q%9223372036854775808*2+1=(2*q+1)%18446744073709551616:=by omega
     rw [e4,e5,show r*2+b-d=2*r+b-d by omega];exact ih2
    ·rw [WO hge,WO hge] at ih2;rw [Os (show ¬r*2+b≥d by omega),bN,show q+q=2*q by omega,show r*2+b=2*r+b by omega];exact ih2
   by_cases h64:(k:Int)≥64
   ·rw [Eb h64,bU];refine go _ ?_;rw [show k%64=k-64 by omega,yI9 hA.1 (by omega),← hC,hb]
   ·rw [Os h64,bN];refine go _ ?_;rw [show k%64=k by omega,yI8 hA.1 (by omega),← hC,hb]
theorem yEE {A d:Int} (hA:0≤A∧A<340282366920938463463374607431768211456) (hd:0<d∧d<9223372036854775808) (K:Int→Int→Int→Prop) :
  Aj (A/18446744073709551616) (A%18446744073709551616) d K=K (A/d/18446744073709551616) (A/d%18446744073709551616) (A%d):=by
 refine ud _ _ _ _ _ _ (fun K h=>?_) K;unfold Aj Tf;refine ⟨129,?_⟩;have e:=yAt (x0:=fun f g i j k a b c l m=>K a b c) hA hd h 128 129 (by omega) (by omega);have z:A/2 ^ 128=0:=Int.ediv_eq_zero_of_lt hA.1 hA.2;rw [z,Int.zero_ediv,Int.zero_emod] at e;exact e
theorem N3 {s:Bool} {X Y:Int} (hx:0≤X) (hy:0≤Y) (K:Int→Int→Int→Prop) :
  GM s (X/18446744073709551616) (X%18446744073709551616) (Y/18446744073709551616) (Y%18446744073709551616) K=gH s X Y K:=by
 unfold GM Ti gH
 by_cases h:X≤1000000000000000000∧Y≤1000000000000000000
 ·have e1:i64.wrap (X%18446744073709551616)=X:=by rw [show X%18446744073709551616=X by omega,dU ⟨by omega,by omega⟩]
  have e2:i64.wrap (Y%18446744073709551616)=Y:=by rw [show Y%18446744073709551616=Y by omega,dU ⟨by omega,by omega⟩]
  rw [WN h,Os (by omega),bN,Os (by omega),bN,Os (by omega),bN,Os (by omega),bN,e1,e2]
  cases s
  ·rw [bN];rfl
  ·rw [bU,dU ⟨by omega,by omega⟩,Int.zero_sub];rfl
 ·rw [WO h]
  by_cases h1:X/18446744073709551616>0
  ·rw [Eb h1,bU]
  ·rw [Os h1,bN]
   by_cases h2:Y/18446744073709551616>0
   ·rw [Eb h2,bU]
   ·rw [Os h2,bN]
    by_cases h3:X%18446744073709551616>1000000000000000000
    ·rw [Eb h3,bU]
    ·rw [Os h3,bN,Eb (by omega),bU]
theorem Hd {g:Int} (h:g≠0) {P:Prop}:aI (!(decide (g=(0:Int)))) P=P:=by rw [Os h];rfl
theorem nI {n:Nat} (h:(n:Int)≤18446744073709551615):u64.wrap (n:Int)=n:=bF ⟨by omega,h⟩
theorem JZ (a b:Nat):Int.tdiv (a:Int) (b:Int)=((a/b:Nat):Int):=by rw [Int.tdiv_eq_ediv_of_nonneg (by omega),mM]
theorem N4 {A d:Nat} (hA:A<340282366920938463463374607431768211456) (hd:0<d∧d<9223372036854775808) (K:Int→Int→Int→Prop) :
  Aj ((A:Int)/18446744073709551616) ((A:Int)%18446744073709551616) d K=K (((A/d:Nat):Int)/18446744073709551616) (((A/d:Nat):Int)%18446744073709551616) ((A%d:Nat):Int):=by
 rw [yEE ⟨by omega,by omega⟩ ⟨by omega,by omega⟩,mM,Int.natCast_emod]
theorem Ef {a b:Nat} (ha:a≤18446744073709551615) (hb:b≤18446744073709551615) (K:Int→Int→Prop) :
  Cb (a:Int) (b:Int) K=K (((a*b:Nat):Int)/18446744073709551616) (((a*b:Nat):Int)%18446744073709551616):=by
 rw [zx ⟨by omega,by omega⟩ ⟨by omega,by omega⟩,vU]
theorem yC5 {a b c d:Int} {K:Int→Int→Prop} {Z:Prop} (h:∀ u v,K u v=Z):GL a b c d K=Z:=by
 unfold GL MY;simp only [h]
 by_cases e:b<d
 ·rw [Eb e,bU]
 ·rw [Os e,bN]
theorem yGc {s:Bool} {Z p1 p3 g:Nat} (hZ:Z<340282366920938463463374607431768211456) (hg:0<g) (g1:g≤1000000000000000000) (h1:p1≤1000000000000000000) (h3:p3≤1000000000000000000) (K:Int→Int→Int→Prop) :
  aM (((Z:Int)/18446744073709551616 ==(0:Int))&&(((Z:Int)%18446744073709551616 ==(0:Int))&&true)) (K 0 1 0)
   (Aj ((Z:Int)/18446744073709551616) ((Z:Int)%18446744073709551616) (g:Int) (fun _ _ b=>
    (uY b (g:Int) (fun a=>
     (Aj ((Z:Int)/18446744073709551616) ((Z:Int)%18446744073709551616) a (fun c d _=>
      (aI (!(decide ((g:Int)=(0:Int)))) (aI (!(decide (a=(0:Int))))
       (Cb (u64.wrap (Int.tdiv (u64.wrap (p1:Int)) (g:Int))) (u64.wrap (Int.tdiv (u64.wrap (p3:Int)) a)) (fun f h=>
        (GM s c d f h (fun i j k=>K i j k))))))))))))=fU s (Z:Int) p1 p3 g K:=by
 unfold fU
 by_cases h0:Z=0
 ·subst h0;rfl
 ·have e:(((Z:Int)/18446744073709551616 ==(0:Int))&&(((Z:Int)%18446744073709551616 ==(0:Int))&&true))=false:=by
   by_cases e1:(Z:Int)/18446744073709551616=0
   ·rw [Np e1,Hc (by omega)];rfl
   ·rw [Hc e1];rfl
  have hg0:0<Nat.gcd Z g:=xN _ hg;have hgg:Nat.gcd Z g≤g:=Nat.gcd_le_right _ hg;have eg:Nat.gcd (Z%g) g=Nat.gcd Z g:=by rw [vY Z g,Nat.gcd_rec g Z]
  have q1:p1/g≤p1:=oG _ _;have q3:p3/Nat.gcd Z g≤p3:=oG _ _;rw [e,bN,WO (by omega),N4 hZ ⟨hg,by omega⟩];simp only [JV,eg];rw [N4 hZ ⟨hg0,by omega⟩,Hd (by omega),Hd (by omega),nI (by omega),nI (by omega),JZ,JZ,nI (by omega),nI (by omega),Ef (by omega) (by omega)];rw [N3 (vQ _) (vQ _)];simp only [dR]
theorem Ns {q r:Rat} (hq:small q) (hr:small r) (K:Int→Int→Int→Prop):ybM q.num q.den r.num r.den K=fitK (q+r) K:=by
 unfold ybM Tj;rw [Nq hq.i1 hq.i2 hr.i1 hr.i2,As hq hr,Cl rfl,bN,← Ul];obtain ⟨a1,a2,a3⟩:=hq;obtain ⟨b1,b2,b3⟩:=hr;have dq:=q.den_pos;have dr:=r.den_pos;have g0:0<Nat.gcd q.den r.den:=Nat.gcd_pos_of_pos_left _ dq;have gl:Nat.gcd q.den r.den≤q.den:=Nat.gcd_le_left _ dq;have w1:uY (u64.wrap (q.den:Int)) (u64.wrap (r.den:Int))=uY (q.den:Int) (r.den:Int):=by rw [nI (by omega),nI (by omega)]
 rw [w1,JV,Av ⟨by omega,by omega⟩,Hd (by omega)];show _=fU (decide (q.num*((r.den:Int)/(Nat.gcd q.den r.den:Nat))+r.num*((q.den:Int)/(Nat.gcd q.den r.den:Nat))<0)) ((q.num*((r.den:Int)/(Nat.gcd q.den r.den:Nat))+r.num*((q.den:Int)/(Nat.gcd q.den r.den:Nat))).natAbs:Int) q.den r.den (Nat.gcd q.den r.den) K;obtain ⟨g,hg⟩:∃ g,g=Nat.gcd q.den r.den:=⟨_,rfl⟩;rw [← hg] at g0 gl ⊢;have q3:r.den/g≤r.den:=oG _ _;have q4:q.den/g≤q.den:=oG _ _;have t1:u64.wrap (Int.tdiv (u64.wrap (r.den:Int)) (g:Int))=((r.den/g:Nat):Int):=by rw [nI (by omega),JZ,nI (by omega)]
 have t2:u64.wrap (Int.tdiv (u64.wrap (q.den:Int)) (g:Int))=((q.den/g:Nat):Int):=by rw [nI (by omega),JZ,nI (by omega)]
 rw [t1,Ef (by omega) (by omega)];rw [Av ⟨by omega,by omega⟩,Hd (by omega),t2,Ef (by omega) (by omega)];rw [← mM,← mM];obtain ⟨x,hx⟩:∃ x,x=r.den/g:=⟨_,rfl⟩;obtain ⟨y,hy⟩:∃ y,y=q.den/g:=⟨_,rfl⟩;rw [← hx] at q3 ⊢;rw [← hy] at q4 ⊢;have X1:q.num.natAbs*x≤1000000000000000000*1000000000000000000:=xS (by omega) (by omega);have Y1:r.num.natAbs*y≤1000000000000000000*1000000000000000000:=xS (by omega) (by omega);have ax:q.num*(x:Int)=if q.num<0 then -((q.num.natAbs*x:Nat):Int) else ((q.num.natAbs*x:Nat):Int):=by
  rw [vU];split
  ·rw [show ((q.num.natAbs:Nat):Int)=-q.num by omega,Ba,Int.neg_neg]
  ·rw [show ((q.num.natAbs:Nat):Int)=q.num by omega]
 have cy:r.num*(y:Int)=if r.num<0 then -((r.num.natAbs*y:Nat):Int) else ((r.num.natAbs*y:Nat):Int):=by
  rw [vU];split
  ·rw [show ((r.num.natAbs:Nat):Int)=-r.num by omega,Ba,Int.neg_neg]
  ·rw [show ((r.num.natAbs:Nat):Int)=r.num by omega]
 rw [ax,cy];obtain ⟨X,hX⟩:∃ X,X=q.num.natAbs*x:=⟨_,rfl⟩;obtain ⟨Y,hY⟩:∃ Y,Y=r.num.natAbs*y:=⟨_,rfl⟩;rw [← hX] at X1 ⊢;rw [← hY] at Y1 ⊢;rw [Up (by omega) (by omega) (by omega)];have fin:=fun (s:Bool) (Z:Nat) (hZ:Z<340282366920938463463374607431768211456)=>yGc (s:=s) (Z:=Z) (p1:=q.den) (p3:=r.den) (g:=g) hZ g0 (by omega) (by omega) (by omega) K
 simp only [t2,← hy] at fin;have cong:∀ (s s':Bool) (Z Z':Int),Z=Z'→(Z≠0→s=s')→fU s Z q.den r.den g K=fU s' Z' q.den r.den g K:=by
  intro s s' Z Z' h1 h2;subst h1
  by_cases h:Z=0
  ·unfold fU;rw [WN h,WN h]
  ·rw [h2 h]
 by_cases hs:decide (q.num<0)=decide (r.num<0)
 ·have e:(decide (q.num<0) !=decide (r.num<0))=false:=by rw [hs];simp
  rw [e,bN,show (X:Int)+Y=((X+Y:Nat):Int) by omega];rw [fin (decide (q.num<0)) (X+Y) (by omega)];refine cong _ _ _ _ ?_ ?_
  ·by_cases h1:q.num<0
   ·have h2:r.num<0:=by simpa [h1] using hs.symm
    rw [WN h1,WN h2];omega
   ·have h2:¬r.num<0:=by simpa [h1] using hs.symm
    rw [WO h1,WO h2];omega
  ·intro h0
   by_cases h1:q.num<0
   ·have h2:r.num<0:=by simpa [h1] using hs.symm
    rw [WN h1,WN h2,Eb h1,Eb (by omega)]
   ·have h2:¬r.num<0:=by simpa [h1] using hs.symm
    rw [WO h1,WO h2,Os h1,Os (by omega)]
 ·have e:(decide (q.num<0) !=decide (r.num<0))=true:=by simpa using hs
  have h12:(q.num<0∧¬r.num<0)∨(¬q.num<0∧r.num<0):=by
   by_cases h1:q.num<0<;>by_cases h2:r.num<0<;>simp [h1,h2] at hs ⊢
  rw [e,bU]
  by_cases hlt:X<Y
  ·refine yC5 (fun u v=>?_);rw [Nr (by omega) (by omega),Eb (by omega),bU,N1 (by omega) (by omega) (by omega)];have ez:(Y:Int)-X=((Y-X:Nat):Int):=by omega
   rw [ez];rw [fin (decide (r.num<0)) (Y-X) (by omega)];refine cong _ _ _ _ ?_ ?_
   ·rcases h12 with ⟨h1,h2⟩ | ⟨h1,h2⟩
    ·rw [WN h1,WO h2];omega
    ·rw [WO h1,WN h2];omega
   ·intro h0;rcases h12 with ⟨h1,h2⟩ | ⟨h1,h2⟩
    ·rw [WN h1,WO h2,Os h2,Os (by omega)]
    ·rw [WO h1,WN h2,Eb h2,Eb (by omega)]
  ·rw [N1 (by omega) (by omega) (by omega),Nr (by omega) (by omega),Os (by omega),bN];have ez:(X:Int)-Y=((X-Y:Nat):Int):=by omega
   rw [ez];rw [fin (decide (q.num<0)) (X-Y) (by omega)];refine cong _ _ _ _ ?_ ?_
   ·rcases h12 with ⟨h1,h2⟩ | ⟨h1,h2⟩
    ·rw [WN h1,WO h2];omega
    ·rw [WO h1,WN h2];omega
   ·intro h0;rcases h12 with ⟨h1,h2⟩ | ⟨h1,h2⟩
    ·rw [WN h1,WO h2,Eb h1,Eb (by omega)]
    ·rw [WO h1,WN h2,Os h1,Os (by omega)]
theorem yGd {q:Rat} (hq:small q) (K:Int→Int→Prop):MX q.num q.den K=K (-q).num (-q).den:=by unfold MX SY;obtain ⟨a1,a2,a3⟩:=hq;rw [dU ⟨by omega,by omega⟩,Int.zero_sub];rfl
theorem small.neg {q:Rat} (hq:small q):small (-q):=by obtain ⟨a1,a2,a3⟩:=hq;unfold small;rw [Rat.neg_num,Rat.neg_den];omega
theorem Uq {q r:Rat} (hq:small q) (hr:small r) (K:Int→Int→Int→Prop):GN q.num q.den r.num r.den K=fitK (q-r) K:=by unfold GN Tk;rw [Nq hq.i1 hq.i2 hr.i1 hr.i2,As hq hr,Cl rfl,bN,yGd hr,Ns hq hr.neg,Rat.sub_eq_add_neg]
theorem Ur {q r:Rat} (hq:small q) (hr:small r) (K:Int→Int→Int→Prop):JL q.num q.den r.num r.den K=fitK (q*r) K:=by
 unfold JL Tm;rw [Nq hq.i1 hq.i2 hr.i1 hr.i2,As hq hr,Cl rfl,bN];have hq':=hq;have hr':=hr;obtain ⟨a1,a2,a3⟩:=hq;obtain ⟨b1,b2,b3⟩:=hr;have dq:=q.den_pos;have dr:=r.den_pos;have g0:0<Nat.gcd q.num.natAbs r.den:=xN _ dr;have h0:0<Nat.gcd r.num.natAbs q.den:=xN _ dq;rw [Av hq'.i1,nI (n:=r.den) (by omega),JV,Av hr'.i1,nI (n:=q.den) (by omega),JV];simp only [Av hq'.i1,Av hr'.i1];have q1:q.num.natAbs/Nat.gcd q.num.natAbs r.den≤q.num.natAbs:=oG _ _;have q2:r.num.natAbs/Nat.gcd r.num.natAbs q.den≤r.num.natAbs:=oG _ _;have q3:q.den/Nat.gcd r.num.natAbs q.den≤q.den:=oG _ _;have q4:r.den/Nat.gcd q.num.natAbs r.den≤r.den:=oG _ _;have e1:iP q.num r.num q.den r.den=q.num.natAbs/Nat.gcd q.num.natAbs r.den*(r.num.natAbs/Nat.gcd r.num.natAbs q.den):=rfl;have e2:kZ q.num r.num q.den r.den=q.den/Nat.gcd r.num.natAbs q.den*(r.den/Nat.gcd q.num.natAbs r.den):=rfl;have z1:q.num=0→iP q.num r.num q.den r.den=0:=fun h=>by rw [e1,h,Int.natAbs_zero,Nat.zero_div,Nat.zero_mul]
 have z2:r.num=0→iP q.num r.num q.den r.den=0:=fun h=>by rw [e1,h,Int.natAbs_zero,Nat.zero_div,Nat.mul_zero]
 have n1:∀ P:Prop,aI (!(decide (((Nat.gcd q.num.natAbs r.den:Nat):Int)=(0:Int)))) P=P:=fun P=>Hd (by omega)
 have n2:∀ P:Prop,aI (!(decide (((Nat.gcd r.num.natAbs q.den:Nat):Int)=(0:Int)))) P=P:=fun P=>Hd (by omega)
 have w1:=nI (n:=q.num.natAbs/Nat.gcd q.num.natAbs r.den) (by omega);have w2:=nI (n:=r.num.natAbs/Nat.gcd r.num.natAbs q.den) (by omega);have w3:=nI (n:=q.den/Nat.gcd r.num.natAbs q.den) (by omega);have w4:=nI (n:=r.den/Nat.gcd q.num.natAbs r.den) (by omega);have t1:=Ef (a:=q.num.natAbs/Nat.gcd q.num.natAbs r.den) (b:=r.num.natAbs/Nat.gcd r.num.natAbs q.den) (by omega) (by omega);have t2:=Ef (a:=q.den/Nat.gcd r.num.natAbs q.den) (b:=r.den/Nat.gcd q.num.natAbs r.den) (by omega) (by omega);have m:=fun s=>N3 (s:=s) (X:=((iP q.num r.num q.den r.den:Nat):Int)) (Y:=((kZ q.num r.num q.den r.den:Nat):Int)) (vQ _) (vQ _) K
 rw [← e1] at t1;rw [← e2] at t2;simp only [n1,n2,JZ,w1,w2,w3,w4,t1,t2,m];rw [← Ui];have zs:∀ s s':Bool,iP q.num r.num q.den r.den=0→gH s (iP q.num r.num q.den r.den:Nat) (kZ q.num r.num q.den r.den:Nat) K=gH s' (iP q.num r.num q.den r.den:Nat) (kZ q.num r.num q.den r.den:Nat) K:=by
  intro s s' h;rw [h]
  cases s<;>cases s' <;> rfl
 by_cases hs:(decide (q.num<0) !=decide (r.num<0))=true
 ·rw [hs,bU]
  by_cases n1:q.num=0
  ·rw [Cl n1,bN];exact zs _ _ (z1 n1)
  ·rw [JW n1,bU]
   by_cases n2:r.num=0
   ·exact zs _ _ (z2 n2)
   ·rw [JW n2]
 ·have hs':(decide (q.num<0) !=decide (r.num<0))=false:=by simpa using hs
  rw [hs',bN]
theorem Us {q r:Rat} (hq:small q) (hr:small r) (h0:r≠0) (K:Int→Int→Int→Prop):JM q.num q.den r.num r.den K=fitK (q/r) K:=by
 unfold JM Tn;have hn:r.num≠0:=fun e=>h0 (Rat.num_eq_zero.1 e)
 rw [Nq hq.i1 hq.i2 hr.i1 hr.i2,As hq hr,Cl rfl,bN,Hc hn,bN];obtain ⟨e1,e2⟩:=Uj h0;have m:=Ur hq (hr.inv h0) K;rw [e1,e2] at m;obtain ⟨b1,b2,b3⟩:=hr;rw [Rat.div_def,← m]
 by_cases h:r.num<0
 ·rw [Eb h,bU,WN h,dU (n:=(0:Int)-r.den) ⟨by omega,by omega⟩,dU (n:=(0:Int)-r.num) ⟨by omega,by omega⟩];rw [show (0:Int)-r.den=-(r.den:Int) by omega,show (0:Int)-r.num=((r.num.natAbs:Nat):Int) by omega]
 ·rw [Os h,bN,WO h,show ((r.num.natAbs:Nat):Int)=r.num by omega]
theorem N5 {q r:Rat} (hq:small q) (hr:small r) (K:Bool→Prop):kY q.num q.den r.num r.den K=K (decide (q<r)):=by
 unfold kY To;have hq':=hq;have hr':=hr;obtain ⟨a1,a2,a3⟩:=hq;obtain ⟨b1,b2,b3⟩:=hr;have dq:=q.den_pos;have dr:=r.den_pos;have e:decide (q<r)=decide (q.num*r.den<r.num*q.den):=by rw [Aab];exact Rat.lt_iff q r
 rw [e]
 by_cases hs:(decide (q.num<0) !=decide (r.num<0))=true
 ·rw [hs,bU]
  by_cases h1:q.num<0
  ·have h2:¬r.num<0:=by simpa [h1] using hs
   have p1:q.num*r.den<0:=EM h1 (by omega);have p2:0≤r.num*q.den:=lK (by omega) (by omega);rw [Eb h1,Eb (by omega)]
  ·have h2:r.num<0:=by simpa [h1] using hs
   have p1:r.num*q.den<0:=EM h2 (by omega);have p2:0≤q.num*r.den:=lK (by omega) (by omega);rw [Os h1,Os (by omega)]
 ·have hs':(decide (q.num<0) !=decide (r.num<0))=false:=by simpa using hs
  rw [hs',bN,Av hq'.i1,nI (by omega),Ef (by omega) (by omega),Av hr'.i1,nI (by omega),Ef (by omega) (by omega),Nr (vQ _) (vQ _),Nr (vQ _) (vQ _),vU,vU]
  by_cases h1:q.num<0
  ·have h2:r.num<0:=by simpa [h1] using hs'
   rw [Eb h1,bU,show ((q.num.natAbs:Nat):Int)=-q.num by omega,show ((r.num.natAbs:Nat):Int)=-r.num by omega,Ba,Ba];congr 1;rw [Aab];omega
  ·have h2:¬r.num<0:=by simpa [h1] using hs'
   rw [Os h1,bN,show ((q.num.natAbs:Nat):Int)=q.num by omega,show ((r.num.natAbs:Nat):Int)=r.num by omega]
theorem xC (n:Int) (K:Int→Int→Prop):sB n K=K (n:Rat).num (n:Rat).den:=rfl
theorem eC {c:Prop} [Decidable c] {P Q:Prop} (h:c):aM (decide c) P Q=P:=by rw [Eb h,bU]
theorem eE {c:Prop} [Decidable c] {P Q:Prop} (h:¬c):aM (decide c) P Q=Q:=by rw [Os h,bN]
theorem qX {a b:Int} {P Q:Prop} (h:a≠b):aM (a !=b) P Q=P:=by rw [JW h,bU]
theorem mX {a b:Int} {P Q:Prop} (h:a=b):aM (a !=b) P Q=Q:=by rw [Cl h,bN]
theorem He {a b:Int} {P Q:Prop} (h:a=b):aM (a==b) P Q=P:=by rw [Np h,bU]
theorem Eg {a b:Int} {P Q:Prop} (h:a≠b):aM (a==b) P Q=Q:=by rw [Hc h,bN]
theorem bB {c:Prop} [Decidable c] {P:Prop} (h:c):aI (decide c) P=P:=by rw [Eb h,gG]
theorem fP {l:List Int} {i:Nat} {P:Prop} (h:i<l.length):aI (aZ zI (getD (aD l) i .nils)) P=P:=by rw [Cj h,gG]
theorem eQ {n:Int} (h1:-9223372036854775808≤n) (h2:n≤9223372036854775807):i64.wrap n=n:=dU ⟨h1,h2⟩
theorem kD (i:Nat):(i:Int)+1=((i+1:Nat):Int):=by omega
theorem Cm {x:Int} (h:-1000000000000000000≤x∧x≤1000000000000000000):small (x:Rat):=by unfold small;rw [Rat.num_intCast,Rat.den_intCast];omega
def Eh (dens:List Int):Prop:=∀ d∈dens,0≤d∧d≤12
def Ei (dens:List Int):Prop:=∃ d∈dens,0<d
instance (l:List Int):Decidable (Eh l):=by unfold Eh;infer_instance
instance (l:List Int):Decidable (Ei l):=by unfold Ei;infer_instance
def VC (len:Int) (cuts dens:List Int):Prop:=
 1≤len∧len≤1000∧2≤cuts.length∧cuts.length≤40∧dens.length+1=cuts.length∧cuts.getD 0 0=0∧cuts.getD (cuts.length-1) 0=len∧vE cuts 0∧Eh dens∧Ei dens
theorem yEF (l:List Int):vE l 0↔∀ j,j<l.length→j+1<l.length→l.getD j 0<l.getD (j+1) 0:=⟨fun h j _ h2=>h j (by omega) h2,fun h j _ h2=>h j (by omega) h2⟩
instance (l:List Int):Decidable (vE l 0):=decidable_of_iff _ (yEF l).symm
instance (len:Int) (cuts dens:List Int):Decidable (VC len cuts dens):=by unfold VC;infer_instance
def nZ (len:Int) (cuts dens:List Int):Int:=if len>1000∨cuts.length>40 then 4 else if VC len cuts dens then 0 else 8
theorem N6 (l:List Int) (x:Int):(l.foldl JT x<0)↔¬(∀ d∈x::l,0≤d):=by
 induction l generalizing x with
 | nil=>simp
 | cons y t ih=>
  rw [List.foldl_cons,ih];unfold JT;simp only [List.forall_mem_cons];split
  ·constructor
   ·intro h h2;exact h ⟨h2.2.1,h2.2.2⟩
   ·intro h h2;exact h ⟨by omega,h2.1,h2.2⟩
  ·constructor
   ·intro h h2;exact h ⟨h2.1,h2.2.2⟩
   ·intro h h2;exact h ⟨h2.1,by omega,h2.2⟩
theorem Ka (l:List Int) (x k:Int):(l.foldl Ar x>k)↔¬(∀ d∈x::l,d≤k):=by
 induction l generalizing x with
 | nil=>simp
 | cons y t ih=>
  rw [List.foldl_cons,ih];unfold Ar;simp only [List.forall_mem_cons];split
  ·constructor
   ·intro h h2;exact h ⟨h2.2.1,h2.2.2⟩
   ·intro h h2;exact h ⟨by omega,h2.1,h2.2⟩
  ·constructor
   ·intro h h2;exact h ⟨h2.1,h2.2.2⟩
   ·intro h h2;exact h ⟨h2.1,by omega,h2.2⟩
theorem yC6 {len:Int} {cuts dens:List Int} (h1:cuts.length<4611686018427387904) (h2:dens.length<4611686018427387904) (K:Int→Prop) :
  tL len (aD cuts) (aD dens) K=K (nZ len cuts dens):=by
 refine qw _ _ _ _ (fun K k=>?_) K;unfold tL SI;simp only [dZ];have bad:¬(len>1000∨cuts.length>40)→¬VC len cuts dens→K 8:=fun h h2=>by
  rw [nZ,WO h,WO h2] at k;exact k
 by_cases a1:len>1000
 ·rw [eC a1];rw [nZ,WN (.inl a1)] at k;exact k
 rw [eE a1]
 by_cases a2:cuts.length>40
 ·rw [eC (by omega)];rw [nZ,WN (.inr a2)] at k;exact k
 have a12:¬(len>1000∨cuts.length>40):=by omega
 rw [eE (by omega)]
 by_cases a3:len<1
 ·rw [eC a3];exact bad a12 (fun h=>by have:=h.1;omega)
 rw [eE a3]
 by_cases a4:cuts.length<2
 ·rw [eC (by omega)];exact bad a12 (fun h=>by have:=h.2.2.1;omega)
 rw [eE (by omega),eQ (n:=(cuts.length:Int)-1) (by omega) (by omega)]
 by_cases a5:dens.length+1=cuts.length
 case neg=>rw [qX (by omega)];exact bad a12 (fun h=>a5 h.2.2.2.2.1)
 rw [mX (by omega),bB (by omega),fP (by omega),fG (by omega)]
 by_cases a6:cuts.getD 0 0=0
 case neg=>rw [qX a6];exact bad a12 (fun h=>a6 h.2.2.2.2.2.1)
 rw [mX a6,bB (by omega),bB (by omega),fP (by omega),fG (by omega)];have en:((cuts.length:Int)-1).toNat=cuts.length-1:=by omega
 rw [en]
 by_cases a7:cuts.getD (cuts.length-1) 0=len
 case neg=>rw [qX a7];exact bad a12 (fun h=>a7 h.2.2.2.2.2.2.1)
 rw [mX a7];refine ⟨cuts.length+1,?_⟩;refine zp (by omega) _ _ _ _ (cuts.length-1) 0 _ (by omega) (by omega) (fun hi=>?_) (fun hi=>bad a12 (fun h=>hi h.2.2.2.2.2.2.2.1));obtain ⟨x,t,e⟩:∃ x t,dens=x::t:=by
  cases dens with
  | nil=>exfalso;have:([]:List Int).length=0:=rfl;omega
  | cons x t=>exact ⟨x,t,rfl⟩
 refine zn (by omega) e ?_
 by_cases b1:t.foldl JT x<0
 ·rw [eC b1];rw [N6] at b1;exact bad a12 (fun h=>b1 fun d hd=>(h.2.2.2.2.2.2.2.2.1 d (by rw [e];exact hd)).1)
 rw [eE b1];refine M3 (by omega) e ?_
 by_cases b2:t.foldl Ar x>12
 ·rw [eC b2];rw [Ka] at b2;exact bad a12 (fun h=>b2 fun d hd=>(h.2.2.2.2.2.2.2.2.1 d (by rw [e];exact hd)).2)
 rw [eE b2];refine M3 (by omega) e ?_;have c1:∀ d∈dens,0≤d:=by rw [N6,Classical.not_not,← e] at b1;exact b1
 have c2:∀ d∈dens,d≤12:=by rw [Ka,Classical.not_not,← e] at b2;exact b2
 by_cases b3:t.foldl Ar x=0
 ·rw [He b3];refine bad a12 (fun h=>?_);obtain ⟨d,hd,h0⟩:=h.2.2.2.2.2.2.2.2.2;have:¬(t.foldl Ar x>0):=by omega
  rw [Ka,Classical.not_not,← e] at this;have:=this d hd;omega
 ·rw [Eg b3];have b4:t.foldl Ar x>0:=by
   refine Int.not_le.1 fun hle=>b3 ?_
   have:t.foldl Ar x>-1:=by rw [Ka];intro h;have h1:=h x (jU ..);have h2:=c1 x (by rw [e];exact jU ..);omega
   omega
  rw [Ka,← e] at b4;have b5:Ei dens:=by
   refine Classical.byContradiction fun hn=>b4 fun d hd=>?_
   exact Int.not_lt.1 fun hlt=>hn ⟨d,hd,hlt⟩
  rw [nZ,WO a12,WN ⟨by omega,by omega,by omega,by omega,a5,a6,a7,hi,fun d hd=>⟨c1 d hd,c2 d hd⟩,b5⟩] at k;exact k
section
variable {len:Int} {cuts dens:List Int}
theorem VC.step (h:VC len cuts dens) {i:Nat} (hi:i+1<cuts.length):cuts.getD i 0<cuts.getD (i+1) 0:=h.2.2.2.2.2.2.2.1 i (jA _) hi
theorem VC.mono (h:VC len cuts dens) {i:Nat}:∀ {j:Nat},i≤j→j<cuts.length→cuts.getD i 0≤cuts.getD j 0
 | 0,hij,_=>by
  have:i=0:=by omega
  subst this;exact Int.le_refl _
 | j+1,hij,hj=>by
  by_cases e:i=j+1
  ·subst e;exact Int.le_refl _
  ·have h1:=h.mono (i:=i) (j:=j) (by omega) (by omega);have h2:=h.step (i:=j) hj;omega
theorem VC.lo (h:VC len cuts dens) {i:Nat} (hi:i<cuts.length):0≤cuts.getD i 0:=by have:=h.mono (jA i) hi;rw [h.2.2.2.2.2.1] at this;exact this
theorem VC.hi (h:VC len cuts dens) {i:Nat} (hi:i<cuts.length):cuts.getD i 0≤len:=by have:=h.mono (i:=i) (j:=cuts.length-1) (by omega) (by omega);rw [h.2.2.2.2.2.2.1] at this;exact this
theorem VC.den (h:VC len cuts dens) {i:Nat} (hi:i<dens.length):0≤dens.getD i 0∧dens.getD i 0≤12:=by rw [dQ,dF hi];exact h.2.2.2.2.2.2.2.2.1 _ (sQ hi)
theorem VC.l1 (h:VC len cuts dens):dens.length+1=cuts.length:=h.2.2.2.2.1
theorem VC.l2 (h:VC len cuts dens):cuts.length≤40:=h.2.2.2.1
theorem VC.len0 (h:VC len cuts dens):1≤len∧len≤1000:=⟨h.1,h.2.1⟩
theorem VC.sc (h:VC len cuts dens) {i:Nat} (hi:i<cuts.length):small ((cuts.getD i 0:Int):Rat):=Cm (by have:=h.lo hi;have:=h.hi hi;have:=h.len0;omega)
theorem VC.sd (h:VC len cuts dens) {i:Nat} (hi:i<dens.length):small ((dens.getD i 0:Int):Rat):=Cm (by have:=h.den hi;omega)
theorem yEG (h:nZ len cuts dens=0):VC len cuts dens:=by
 unfold nZ at h;split at h
 ·omega
 ·split at h
  ·assumption
  ·omega
theorem VC.ck (h:VC len cuts dens):nZ len cuts dens=0:=by rw [nZ,WO (by have:=h.l2;have:=h.len0;omega),WN h]
def lA (cuts dens:List Int):Nat→Nat→Int→Int
 | 0,_,s=>s
 | r+1,i,s=>lA cuts dens r (i+1) (s+dens.getD i 0*(cuts.getD (i+1) 0-cuts.getD i 0))
def totC (cuts dens:List Int):Int:=lA cuts dens dens.length 0 0
theorem N7 {d x:Int} (h:0≤d∧d≤12) (hx:0≤x):0≤d*x∧d*x≤12*x:=⟨lK h.1 hx,EH h.2 hx⟩
theorem N8 (h:VC len cuts dens):∀ (r i:Nat) (s:Int),i+r=dens.length→0≤s→s≤12*cuts.getD i 0→0≤lA cuts dens r i s∧lA cuts dens r i s≤12*len
 | 0,i,s,hi,h0,h1=>by have:=h.l1;have:=h.hi (i:=i) (by omega);unfold lA;omega
 | r+1,i,s,hi,h0,h1=>by unfold lA;have l1:=h.l1;have h2:=h.step (i:=i) (by omega);have h3:=N7 (h.den (i:=i) (by omega)) (x:=cuts.getD (i+1) 0-cuts.getD i 0) (by omega);exact N8 h r (i+1) _ (by omega) (by omega) (by omega)
theorem yAu (h:VC len cuts dens):0≤totC cuts dens∧totC cuts dens≤12000:=by have l1:=h.l1;have h0:=h.lo (i:=0) (by omega);have:=N8 h dens.length 0 0 (by omega) (by omega) (by omega);have h2:=h.len0;unfold totC;omega
def N9 (cuts dens:List Int) (i:Nat):Prop:=∀ j,i≤j→j<dens.length→cuts.getD j 0<cuts.getD (j+1) 0∧0≤dens.getD j 0∧dens.getD j 0≤12
theorem Ut (l1:dens.length+1=cuts.length) (l2:dens.length<4611686018427387904) (x0:Int→Prop) (x1:Int→List PV→List PV→Bool→Int→Bool→Prop) (P:Prop)
  (hbad:¬N9 cuts dens 0→x0 8=P) (hgood:∀ b:Bool,N9 cuts dens 0→b=decide (∃ j,j<dens.length∧0<dens.getD j 0)→x1 len (aD cuts) (aD dens) b dens.length false=P) :
  ∀ (r i n:Nat) (b:Bool),i+r=dens.length→r<n→(∀ j,j<i→cuts.getD j 0<cuts.getD (j+1) 0∧0≤dens.getD j 0∧dens.getD j 0≤12)→b=decide (∃ j,j<i∧0<dens.getD j 0) →
   DZ x0 x1 n len (aD cuts) (aD dens) b i=P
 | 0,i,n+1,b,hi,hn,hj,hb=>by unfold DZ;rw [dZ,eE (by omega),show (i:Int)=dens.length by omega];refine hgood b (fun j _ h=>hj j (by omega)) ?_;rw [hb,Aab];rw [show i=dens.length by omega]
 | r+1,i,n+1,b,hi,hn,hj,hb=>by
  unfold DZ;have e1:=eQ (n:=(i:Int)+1) (by omega) (by omega);rw [dZ,dZ,eC (by omega),e1,kD,dR,dR,bB (by omega),bB (by omega),fP (by omega),bB (by omega),bB (by omega),fP (by omega),fG (by omega),fG (by omega)];have bad:¬(cuts.getD i 0<cuts.getD (i+1) 0∧0≤dens.getD i 0∧dens.getD i 0≤12)→x0 8=P:=fun h=>hbad fun hk=>h (hk i (by omega) (by omega))
  by_cases a1:cuts.getD (i+1) 0≤cuts.getD i 0
  ·rw [eC a1];exact bad (by omega)
  rw [eE a1,bB (by omega),bB (by omega),fP (by omega),fG (by omega)]
  by_cases a2:dens.getD i 0<0
  ·rw [eC a2];exact bad (by omega)
  rw [eE a2,bB (by omega),bB (by omega),fP (by omega)]
  by_cases a3:dens.getD i 0>12
  ·rw [eC a3];exact bad (by omega)
  rw [eE a3];have hj2:∀ j,j<i+1→cuts.getD j 0<cuts.getD (j+1) 0∧0≤dens.getD j 0∧dens.getD j 0≤12:=by
   intro j hlt
   by_cases e:j=i
   ·subst e;omega
   ·exact hj j (by omega)
  have ex:∀ c:Bool,(c=true↔(b=true∨0<dens.getD i 0))→c=decide (∃ j,j<i+1∧0<dens.getD j 0):=by
   intro c hc;rw [Bool.eq_iff_iff,hc,hb,decide_eq_true_iff,decide_eq_true_iff];constructor
   ·rintro (⟨j,h1,h2⟩ | h)
    ·exact ⟨j,by omega,h2⟩
    ·exact ⟨i,by omega,h⟩
   ·rintro ⟨j,h1,h2⟩
    by_cases e:j=i
    ·subst e;exact .inr h2
    ·exact .inl ⟨j,by omega,h2⟩
  cases b with
  | true =>rw [bU];exact Ut l1 l2 x0 x1 P hbad hgood r (i+1) n true (by omega) (by omega) hj2 (ex _ (by simp))
  | false =>rw [bN,bB (by omega),bB (by omega),fP (by omega)];exact Ut l1 l2 x0 x1 P hbad hgood r (i+1) n _ (by omega) (by omega) hj2 (ex _ (by simp))
theorem O0 (h1:cuts.length<4611686018427387904) (h2:dens.length<4611686018427387904) (K:Int→Prop) :
  tO len (aD cuts) (aD dens) K=K (nZ len cuts dens):=by
 refine uy _ _ _ _ (fun K k=>?_) K;unfold tO Tr;simp only [dZ];have bad:¬(len>1000∨cuts.length>40)→¬VC len cuts dens→K 8:=fun h h2=>by
  rw [nZ,WO h,WO h2] at k;exact k
 by_cases a1:len>1000
 ·rw [eC a1];rw [nZ,WN (.inl a1)] at k;exact k
 rw [eE a1]
 by_cases a2:cuts.length>40
 ·rw [eC (by omega)];rw [nZ,WN (.inr a2)] at k;exact k
 have a12:¬(len>1000∨cuts.length>40):=by omega
 rw [eE (by omega)]
 by_cases a3:len<1
 ·rw [eC a3];exact bad a12 (fun h=>by have:=h.1;omega)
 rw [eE a3]
 by_cases a4:cuts.length<2
 ·rw [eC (by omega)];exact bad a12 (fun h=>by have:=h.2.2.1;omega)
 rw [eE (by omega),eQ (n:=(cuts.length:Int)-1) (by omega) (by omega)]
 by_cases a5:dens.length+1=cuts.length
 case neg=>rw [qX (by omega)];exact bad a12 (fun h=>a5 h.2.2.2.2.1)
 rw [mX (by omega),bB (by omega),fP (by omega),fG (by omega)]
 by_cases a6:cuts.getD 0 0=0
 case neg=>rw [qX a6];exact bad a12 (fun h=>a6 h.2.2.2.2.2.1)
 rw [mX a6,bB (by omega),bB (by omega),fP (by omega),fG (by omega)];have en:((cuts.length:Int)-1).toNat=cuts.length-1:=by omega
 rw [en]
 by_cases a7:cuts.getD (cuts.length-1) 0=len
 case neg=>rw [qX a7];exact bad a12 (fun h=>a7 h.2.2.2.2.2.2.1)
 rw [mX a7];have mem:∀ d,d∈dens↔∃ j,j<dens.length∧dens.getD j 0=d:=by
  intro d;rw [List.mem_iff_getElem];constructor
  ·rintro ⟨j,hj,e⟩;exact ⟨j,hj,by rw [dQ,dF hj];exact e⟩
  ·rintro ⟨j,hj,e⟩;exact ⟨j,hj,by rw [dQ,dF hj] at e;exact e⟩
 refine ⟨dens.length+1,?_⟩;refine (Ut a5 h2 _ _ (K (nZ len cuts dens)) (fun hk=>?_) (fun b hk hb=>?_) dens.length 0 (dens.length+1) false (by omega) (by omega) (fun j h=>by omega) (by simp)).mpr k
 ·have hv:¬VC len cuts dens:=fun h=>hk fun j _ hj=>⟨h.step (by omega),h.den hj⟩
  rw [nZ,WO a12,WO hv]
 ·have hsome:Ei dens↔∃ j,j<dens.length∧0<dens.getD j 0:=by
   constructor
   ·rintro ⟨d,hd,h0⟩;obtain ⟨j,hj,e⟩:=(mem d).1 hd;exact ⟨j,hj,by rw [e];exact h0⟩
   ·rintro ⟨j,hj,h0⟩;exact ⟨_,(mem _).2 ⟨j,hj,rfl⟩,h0⟩
  have hv:VC len cuts dens↔Ei dens:=by refine ⟨fun h=>h.2.2.2.2.2.2.2.2.2,fun h=>⟨by omega,by omega,by omega,by omega,a5,a6,a7,fun j _ hj=>(hk j (by omega) (by omega)).1,fun d hd=>?_,h⟩⟩;obtain ⟨j,hj,e⟩:=(mem d).1 hd;rw [← e];exact (hk j (by omega) hj).2
  rw [nZ,WO a12]
  by_cases hs:Ei dens
  ·rw [WN (hv.2 hs),hb,Eb (hsome.1 hs)];rfl
  ·rw [WO (fun x=>hs (hv.1 x)),hb,Os (fun x=>hs (hsome.2 x))];rfl
theorem O1 (h:VC len cuts dens) (x0:Int→List PV→List PV→Int→Int→Bool→Prop) :
  ∀ (r i n:Nat) (s:Int),i+r=dens.length→r<n→0≤s→s≤12*cuts.getD i 0 →
   GP x0 n len (aD cuts) (aD dens) s i=x0 len (aD cuts) (aD dens) (lA cuts dens r i s) dens.length false
 | 0,i,n+1,s,hi,hn,h0,h1=>by
  unfold GP lA;have:(i:Int)=dens.length:=by omega
  rw [dZ,eE (by omega),this]
 | r+1,i,n+1,s,hi,hn,h0,h1=>by unfold GP;have l1:=h.l1;have l2:=h.l2;have h2:=h.step (i:=i) (by omega);have h3:=N7 (h.den (i:=i) (by omega)) (x:=cuts.getD (i+1) 0-cuts.getD i 0) (by omega);have a1:=h.lo (i:=i) (by omega);have a2:=h.hi (i:=i+1) (by omega);have a3:=h.len0;have e1:=eQ (n:=(i:Int)+1) (by omega) (by omega);have e2:=eQ (n:=cuts.getD (i+1) 0-cuts.getD i 0) (by omega) (by omega);have e3:=eQ (n:=dens.getD i 0*(cuts.getD (i+1) 0-cuts.getD i 0)) (by omega) (by omega);have e4:=eQ (n:=s+dens.getD i 0*(cuts.getD (i+1) 0-cuts.getD i 0)) (by omega) (by omega);rw [dZ,dZ,eC (by omega),e1,kD,dR,dR,bB (by omega),bB (by omega),fP (by omega),bB (by omega),bB (by omega),fP (by omega),bB (by omega),bB (by omega),fP (by omega),fG (by omega),fG (by omega),fG (by omega),e2,e3,e4];exact O1 h x0 r (i+1) n _ (by omega) (by omega) (by omega) (by omega)
theorem yC7 (hv:VC len cuts dens) (K:Int→Prop):qU len (aD cuts) (aD dens) K=K (totC cuts dens):=by refine va _ _ _ _ (fun K k=>?_) K;unfold qU Tv;refine ⟨dens.length+1,?_⟩;have l1:=hv.l1;have a1:=hv.lo (i:=0) (by omega);have:=O1 hv (fun b c d a e f=>K a) dens.length 0 (dens.length+1) 0 (by omega) (by omega) (by omega) (by omega);rw [show ((0:Nat):Int)=0 from rfl] at this;rw [this];exact k
end
structure Ck where
 len:Int
 cuts:List Int
 dens:List Int
instance:Inhabited Ck:=⟨⟨0,[],[]⟩⟩
def kE (c:Ck):PV:=.agg [.int .i64 c.len,.data (aD c.cuts),.data (aD c.dens)]
def cks (l:List Ck):List PV:=l.map kE
def Ck.fin (c:Ck):Prop:=c.cuts.length<4611686018427387904∧c.dens.length<4611686018427387904
def Ck.err (c:Ck):Int:=nZ c.len c.cuts c.dens
def Ck.ok (c:Ck):Prop:=VC c.len c.cuts c.dens
instance (c:Ck):Decidable c.ok:=by unfold Ck.ok;infer_instance
theorem iQ (l:List Ck):(cks l).length=l.length:=lJ ..
theorem tP {l:List Ck} {i:Nat} (h:i<l.length):getD (cks l) i .nils=kE (l.getD i default):=by unfold cks;rw [dQ,dQ,rE,dF h];rfl
theorem tQ {α:Type} {l:List α} {i:Nat} (d:α) (h:i<l.length):l.drop i=l.getD i d::l.drop (i+1):=by rw [List.drop_eq_getElem_cons h,dQ,dF h];rfl
theorem gZ {c:Ck} {P:Prop}:aI (aZ zK (kE c)) P=P:=rfl
theorem xD (c:Ck):bV (fB (kE c) 0)=c.len:=rfl
theorem Ej (c:Ck):lM (fB (kE c) 1)=aD c.cuts:=rfl
theorem Hf (c:Ck):lM (fB (kE c) 2)=aD c.dens:=rfl
def oV:List Ck→Int
 | []=>0
 | c::t=>if c.err=0 then oV t else c.err
def vG (n:Int):List Ck→Bool
 | []=>true
 | c::t=>decide (c.len=n)&&vG n t
def pX (l:List Ck) (m:Nat):Int:=
 if l.length>6 then 4 else if m>2000 then 4 else if l.length=0 then 8 else if oV l=0 then (if vG (l.getD 0 default).len l then 0 else 8) else oV l
section
variable {l:List Ck}
def pY (l:List Ck):Prop:=∀ i,i<l.length→(l.getD i default).fin
theorem O2 (hf:pY l) (hl:l.length<4611686018427387904) (x0:Int→Prop) (x1:List PV→List PV→List PV→Int→Int→Bool→Prop) (lg:List PV) :
  ∀ (r i n:Nat),i+r=l.length→r<n→GK tL x0 x1 n (cks l) lg (cks l) l.length i =
   if oV (l.drop i)=0 then x1 (cks l) lg (cks l) l.length l.length false else x0 (oV (l.drop i))
 | 0,i,n+1,hi,hn=>by unfold GK;rw [eE (by omega),nA (by omega),show (i:Int)=l.length by omega];rfl
 | r+1,i,n+1,hi,hn=>by
  unfold GK;have e1:=eQ (n:=(i:Int)+1) (by omega) (by omega);obtain ⟨f1,f2⟩:=hf i (by omega);rw [eC (by omega),iQ,dR,tP (by omega),bB (by omega),bB (by omega),gZ,xD,Ej,Hf,yC6 (by omega) (by omega),tQ default (by omega),oV,e1,kD];show aM ((l.getD i default).err !=0) _ _=_
  by_cases h:(l.getD i default).err=0
  ·rw [mX h,WN h];exact O2 hf hl x0 x1 lg r (i+1) n (by omega) (by omega)
  ·rw [qX h,WO h,WO h];rfl
theorem O3 (hl:l.length<4611686018427387904) (x0:Int→Prop) (x1:List PV→List PV→List PV→Int→Int→Bool→Prop) (lg:List PV) (W) :
  ∀ (r i n:Nat),i+r=l.length→r<n→DQ W x0 x1 n (cks l) lg (cks l) l.length i =
   if vG (l.getD 0 default).len (l.drop i) then x1 (cks l) lg (cks l) l.length l.length false else x0 8
 | 0,i,n+1,hi,hn=>by unfold DQ;rw [eE (by omega),nA (by omega),show (i:Int)=l.length by omega];rfl
 | r+1,i,n+1,hi,hn=>by
  unfold DQ;have e1:=eQ (n:=(i:Int)+1) (by omega) (by omega);rw [eC (by omega),iQ,dR,tP (by omega),tP (by omega),bB (by omega),bB (by omega),gZ,bB (by omega),gZ,xD,xD,tQ default (by omega),vG,e1,kD]
  by_cases h:(l.getD i default).len=(l.getD 0 default).len
  ·rw [mX h,Eb h,sS];exact O3 hl x0 x1 lg W r (i+1) n (by omega) (by omega)
  ·rw [qX h,Os h,qK,WO (by simp)]
theorem O4 (hf:pY l) (hl:l.length<4611686018427387904) (lg:List PV) (K:Int→Prop):uW (cks l) lg K=K (pX l lg.length):=by
 refine rl _ _ _ (fun K k=>?_) K;unfold uW SP;unfold pX at k;rw [iQ]
 by_cases a1:l.length>6
 ·rw [eC (by omega)];rw [WN a1] at k;exact k
 rw [eE (by omega)];rw [WO a1] at k
 by_cases a2:lg.length>2000
 ·rw [eC (by omega)];rw [WN a2] at k;exact k
 rw [eE (by omega)];rw [WO a2] at k
 by_cases a3:l.length=0
 ·rw [He (by omega)];rw [WN a3] at k;exact k
 rw [Eg (by omega)];rw [WO a3] at k;refine ⟨l.length+1,?_⟩;have h0:=O2 hf hl (fun c=>K c) (fun a d o p q r=>(∃ e:Nat,DQ tL (fun b=>(K b)) (fun f g i j m n=>(K (0:Int))) e a d a (((length a):Nat):Int) (0:Int))) lg l.length 0 (l.length+1) (by omega) (by omega);rw [show ((0:Nat):Int)=0 from rfl,qJ] at h0;rw [h0]
 by_cases a4:oV l=0
 ·rw [WN a4] at k ⊢;refine ⟨l.length+1,?_⟩;have h1:=O3 hl (fun b=>(K b)) (fun f g i j m n=>(K (0:Int))) lg tL l.length 0 (l.length+1) (by omega) (by omega);rw [show ((0:Nat):Int)=0 from rfl,qJ] at h1;rw [iQ,h1];split at k<;>rename_i h<;>simp only [h]<;>exact k
 ·rw [WO a4] at k ⊢;exact k
theorem O5 (hf:pY l) (hl:l.length<4611686018427387904) (x0:Int→Prop) (x1:List PV→List PV→Int→Bool→Prop) (lg:List PV) :
  ∀ (r i n:Nat),i+r=l.length→r<n→GR tO x0 x1 n (cks l) lg i =
   if oV (l.drop i)=0 then x1 (cks l) lg l.length false else x0 (oV (l.drop i))
 | 0,i,n+1,hi,hn=>by unfold GR;rw [iQ,eE (by omega),nA (by omega),show (i:Int)=l.length by omega];rfl
 | r+1,i,n+1,hi,hn=>by
  unfold GR;have e1:=eQ (n:=(i:Int)+1) (by omega) (by omega);obtain ⟨f1,f2⟩:=hf i (by omega);rw [iQ,eC (by omega),dR,tP (by omega),bB (by omega),bB (by omega),gZ,xD,Ej,Hf,O0 (by omega) (by omega),tQ default (by omega),oV,e1,kD];show aM ((l.getD i default).err !=0) _ _=_
  by_cases h:(l.getD i default).err=0
  ·rw [mX h,WN h];exact O5 hf hl x0 x1 lg r (i+1) n (by omega) (by omega)
  ·rw [qX h,WO h,WO h,bB (by omega),bB (by omega),gZ,O0 (by omega) (by omega)];rfl
theorem O6 (hl:l.length<4611686018427387904) (x0:Int→Prop) (x1:List PV→List PV→Int→Bool→Prop) (lg:List PV) (W) :
  ∀ (r i n:Nat),i+r=l.length→r<n→Ea W x0 x1 n (cks l) lg i =
   if vG (l.getD 0 default).len (l.drop i) then x1 (cks l) lg l.length false else x0 8
 | 0,i,n+1,hi,hn=>by unfold Ea;rw [iQ,eE (by omega),nA (by omega),show (i:Int)=l.length by omega];rfl
 | r+1,i,n+1,hi,hn=>by
  unfold Ea;have e1:=eQ (n:=(i:Int)+1) (by omega) (by omega);rw [iQ,eC (by omega),dR,tP (by omega),tP (by omega),bB (by omega),bB (by omega),gZ,bB (by omega),gZ,xD,xD,tQ default (by omega),vG,e1,kD]
  by_cases h:(l.getD i default).len=(l.getD 0 default).len
  ·rw [mX h,Eb h,sS];exact O6 hl x0 x1 lg W r (i+1) n (by omega) (by omega)
  ·rw [qX h,Os h,qK,WO (by simp)]
theorem yC8 (hf:pY l) (hl:l.length<4611686018427387904) (lg:List PV) (K:Int→Prop):Am (cks l) lg K=K (pX l lg.length):=by
 refine vt _ _ _ (fun K k=>?_) K;unfold Am Tz;unfold pX at k;rw [iQ]
 by_cases a1:l.length>6
 ·rw [eC (by omega)];rw [WN a1] at k;exact k
 rw [eE (by omega)];rw [WO a1] at k
 by_cases a2:lg.length>2000
 ·rw [eC (by omega)];rw [WN a2] at k;exact k
 rw [eE (by omega)];rw [WO a2] at k
 by_cases a3:l.length=0
 ·rw [He (by omega)];rw [WN a3] at k;exact k
 rw [Eg (by omega)];rw [WO a3] at k;refine ⟨l.length+1,?_⟩;have h0:=O5 hf hl (fun b=>K b) (fun c d m n=>(∃ e:Nat,Ea tO (fun a=>(K a)) (fun f g i j=>(K (0:Int))) e c d (0:Int))) lg l.length 0 (l.length+1) (by omega) (by omega);rw [show ((0:Nat):Int)=0 from rfl,qJ] at h0;rw [h0]
 by_cases a4:oV l=0
 ·rw [WN a4] at k ⊢;refine ⟨l.length+1,?_⟩;have h1:=O6 hl (fun a=>(K a)) (fun f g i j=>(K (0:Int))) lg tO l.length 0 (l.length+1) (by omega) (by omega);rw [show ((0:Nat):Int)=0 from rfl,qJ] at h1;rw [h1];split at k<;>rename_i h<;>simp only [h]<;>exact k
 ·rw [WO a4] at k ⊢;exact k
def Ck.low (c:Ck):Prop:=c.cuts.length≤1000∧c.dens.length≤1000
def Uu (l:List Ck):Prop:=∀ i,i<l.length→(l.getD i default).low
theorem Aw {c:Bool} {P:Prop} (h:c=true):aI c P=P:=by rw [h,gG]
theorem O7:∀ (l:List Ck),oV l=0→∀ i,i<l.length→(l.getD i default).ok
 | c::t,h,0,_=>by
  unfold oV at h;split at h
  ·rename_i h1;exact yEG h1
  ·rename_i h1;exact absurd h h1
 | c::t,h,i+1,hi=>by
  unfold oV at h;split at h
  ·exact O7 t h i (by simpa using hi)
  ·rename_i h1;exact absurd h h1
theorem O8 {n:Int}:∀ (l:List Ck),vG n l=true→∀ i,i<l.length→(l.getD i default).len=n
 | c::t,h,0,_=>by unfold vG at h;simp only [cU,decide_eq_true_eq] at h;exact h.1
 | c::t,h,i+1,hi=>by unfold vG at h;simp only [cU,decide_eq_true_eq] at h;exact O8 t h.2 i (by simpa using hi)
structure DK (l:List Ck):Prop where
 n6:l.length≤6
 n0:1≤l.length
 ok:∀ i,i<l.length→(l.getD i default).ok
 len:∀ i,i<l.length→(l.getD i default).len=(l.getD 0 default).len
theorem yAv {m:Nat} (h:pX l m=0):DK l∧m≤2000:=by
 unfold pX at h;split at h
 ·omega
 split at h
 ·omega
 split at h
 ·omega
 split at h
 ·rename_i h0 h1 h2 h3;split at h
  ·rename_i h4;exact ⟨⟨by omega,by omega,O7 l h3,O8 l h4⟩,by omega⟩
  ·omega
 ·rename_i h3;exact absurd h h3
theorem DK.err {l:List Ck} (h:DK l) {m:Nat} (hm:m≤2000):pX l m=0:=by
 have f:∀ l:List Ck,(∀ i,i<l.length→(l.getD i default).ok)→oV l=0:=by
  intro l;induction l with
  | nil=>intro _;rfl
  | cons c t ih =>intro h;unfold oV;rw [WN (show c.err=0 from (h 0 (AW _)).ck)];exact ih fun i hi=>h (i+1) (by simpa using hi)
 have g:∀ (n:Int) (l:List Ck),(∀ i,i<l.length→(l.getD i default).len=n)→vG n l=true:=by
  intro n l;induction l with
  | nil=>intro _;rfl
  | cons c t ih =>intro h;unfold vG;rw [cU,decide_eq_true_eq];exact ⟨h 0 (AW _),ih fun i hi=>h (i+1) (by simpa using hi)⟩
 have:=h.n6;have:=h.n0;unfold pX;rw [WO (by omega),WO (by omega),WO (by omega),WN (f l h.ok),WN (g _ l h.len)]
def Nt (l:List Ck):Bool:=l.any (fun c=>decide (c.cuts.length>60)||decide (c.dens.length>60))||decide (l.length>10)
theorem yC9 {len:Int} {cuts dens:List Int} (K:Bool→Prop):DY len (aD cuts) (aD dens) K=K (decide (cuts.length>60)||decide (dens.length>60)):=by
 unfold DY Tq;rw [dZ,dZ]
 by_cases h:cuts.length>60
 ·rw [eC (by omega),Eb h];rfl
 ·rw [eE (by omega),Os h,CD];congr 1;rw [Aab];omega
theorem O9 (hl:l.length≤9223372036854775807) (K:Bool→Prop) :
  ∀ (r i n:Nat),i+r=l.length→r<n→GQ DY (fun a=>(K a)) (fun b d e=>(K (decide ((((length b):Nat):Int)>(10:Int))))) n (cks l) i =
   K ((l.drop i).any (fun c=>decide (c.cuts.length>60)||decide (c.dens.length>60))||decide (l.length>10))
 | 0,i,n+1,hi,hn=>by unfold GQ;rw [iQ,eE (by omega),nA (by omega)];show K _=K (false||_);rw [CD];congr 1;rw [Aab];omega
 | r+1,i,n+1,hi,hn=>by
  unfold GQ;have e1:=eQ (n:=(i:Int)+1) (by omega) (by omega);rw [iQ,eC (by omega),dR,tP (by omega),bB (by omega),bB (by omega),gZ,xD,Ej,Hf,yC9,tQ default (by omega),List.any_cons,e1,kD]
  cases hb:(decide ((l.getD i default).cuts.length>60)||decide ((l.getD i default).dens.length>60)) with
  | true=>rw [bU];rfl
  | false=>rw [bN,CD];exact O9 hl K r (i+1) n (by omega) (by omega)
theorem yt9 (hl:l.length≤9223372036854775807) (K:Bool→Prop):Al (cks l) K=K (Nt l):=by refine vq _ _ (fun K k=>?_) K;unfold Al Tx;refine ⟨l.length+1,?_⟩;have:=O9 hl K l.length 0 (l.length+1) (by omega) (by omega);rw [show ((0:Nat):Int)=0 from rfl,qJ] at this;rw [this];exact k
theorem yAw (h:Nt l=false):l.length≤10∧Uu l∧pY l:=by
 unfold Nt at h;simp only [AT,decide_eq_false_iff_not,List.any_eq_false,Bool.not_eq_true,Nat.not_lt] at h;have hh:∀ i,i<l.length→(l.getD i default).cuts.length≤60∧(l.getD i default).dens.length≤60:=by
  intro i hi;have hm:l.getD i default∈l:=by rw [dQ,dF hi];exact sQ hi
  have:=h.1 _ hm;omega
 exact ⟨by omega,fun i hi=>⟨by have:=hh i hi;omega,by have:=hh i hi;omega⟩,fun i hi=>⟨by have:=hh i hi;omega,by have:=hh i hi;omega⟩⟩
theorem yDa {n d:Int} (hn:-1000000000000000000≤n∧n≤1000000000000000000) (hd:1≤d∧d≤1000000000000000000):small ((n:Rat)/(d:Rat)):=by
 have e:(n:Rat)/(d:Rat)=mkRat n d.toNat:=by
  rw [Rat.mkRat_eq_div];have h1:((d.toNat:Nat):Int)=d:=by omega
  have h2:((d.toNat:Nat):Rat)=(d:Rat):=by rw [← Rat.intCast_natCast,h1]
  rw [h2]
 rw [e];unfold small;rw [Rat.num_mkRat,Rat.den_mkRat,WO (by omega),WO (by omega)];have g0:0<d.toNat.gcd n.natAbs:=Nat.gcd_pos_of_pos_left _ (by omega);have h1:(n/(d.toNat.gcd n.natAbs:Nat)).natAbs≤n.natAbs:=by
  rw [Int.natAbs_ediv_of_dvd,HF]
  ·exact oG _ _
  ·rw [← Int.dvd_natAbs,Int.ofNat_dvd];exact HG _ _
 have h2:d.toNat/d.toNat.gcd n.natAbs≤d.toNat:=oG _ _;generalize n/(d.toNat.gcd n.natAbs:Nat)=x at *
 generalize d.toNat/d.toNat.gcd n.natAbs=y at *
 omega
end
theorem Ax {D:Int} (h:1≤D):(D:Rat)≠0:=fun e=>by have:=Rat.intCast_eq_zero_iff.1 e;omega
section
variable {len:Int} {cuts dens:List Int}
def rem (cuts dens:List Int):Nat→Nat→Int
 | 0,_=>0
 | r+1,i=>dens.getD i 0*(cuts.getD (i+1) 0-cuts.getD i 0)+rem cuts dens r (i+1)
theorem P0 (cuts dens:List Int):∀ (r i:Nat) (s:Int),lA cuts dens r i s=s+rem cuts dens r i
 | 0,i,s=>by unfold lA rem;omega
 | r+1,i,s=>by unfold lA rem;rw [P0 cuts dens r (i+1)];omega
end
def Cn:DS:=.a [.i .i64,.s (.i .i64),.s (.i .i64)]
theorem P1 {n:Int} (h:jB .i64 n):dI n:=by
 have e1:i64.min=-9223372036854775808:=by decide
 have e2:i64.max=9223372036854775807:=by decide
 unfold jB at h;rw [e1,e2] at h;exact h
theorem F_i {c:List PV} (h:HasF (.i .i64) c):∃ n,c=[.int .i64 n]∧dI n:=by simp only [HasF] at h;obtain ⟨n,e,k⟩:=h;exact ⟨n,e,P1 k⟩
theorem Uv:∀ (rows:List PV),(∀ x∈rows,x.isAgg=(DS.i .i64).isA∧HasF (.i .i64) x.cells)→∃ l:List Int,rows=aD l∧∀ n∈l,dI n
 | [],_=>⟨[],rfl,by simp⟩
 | x::r,h=>by
  obtain ⟨l,e,hl⟩:=Uv r (fun y hy=>h y (iY _ hy));obtain ⟨h1,h2⟩:=h x (jU ..);obtain ⟨n,e2,hn⟩:=F_i h2;have ex:x=.int .i64 n:=by
   cases x<;>first | (simp only [PV.cells,lI,and_true] at e2;exact e2) | (cases h1)
  refine ⟨n::l,by rw [ex,e];rfl,?_⟩;intro m hm;rcases qAs.1 hm with rfl | hm
  ·exact hn
  ·exact hl m hm
def Ck.i64 (c:Ck):Prop:=dI c.len∧(∀ n∈c.cuts,dI n)∧∀ n∈c.dens,dI n
theorem F_c {c:List PV} (h:HasF Cn c):∃ k:Ck,c=[.int .i64 k.len,.data (aD k.cuts),.data (aD k.dens)]∧k.i64∧k.cuts.length≤9223372036854775807∧k.dens.length≤9223372036854775807:=by simp only [Cn,HasF,HasL] at h;obtain ⟨c1,c2,rfl,⟨n,rfl,hn⟩,c3,c4,rfl,⟨r1,rfl,l1,h1⟩,c5,c6,rfl,⟨r2,rfl,l2,h2⟩,rfl⟩:=h;obtain ⟨a,rfl,ha⟩:=Uv r1 (fun x hx=>⟨(h1 x hx).1,by simp only [HasF];exact (h1 x hx).2⟩);obtain ⟨b,rfl,hb⟩:=Uv r2 (fun x hx=>⟨(h2 x hx).1,by simp only [HasF];exact (h2 x hx).2⟩);rw [dZ] at l1 l2;exact ⟨⟨n,a,b⟩,rfl,⟨P1 hn,ha,hb⟩,l1,l2⟩
theorem yJa {x:PV} {l:List DS} (h:x.isAgg=(DS.a l).isA):x=.agg x.cells:=by
 cases x<;>first | rfl | cases h
theorem P2:∀ (rows:List PV),(∀ x∈rows,x.isAgg=Cn.isA∧HasF Cn x.cells)→∃ l:List Ck,rows=cks l∧∀ c∈l,c.i64
 | [],_=>⟨[],rfl,by simp⟩
 | x::r,h=>by
  obtain ⟨l,e,hl⟩:=P2 r (fun y hy=>h y (iY _ hy));obtain ⟨h1,h2⟩:=h x (jU ..);obtain ⟨k,e2,hk,_⟩:=F_c h2;have ex:x=kE k:=by rw [yJa h1,e2];rfl
  refine ⟨k::l,by rw [ex,e];rfl,?_⟩;intro m hm;rcases qAs.1 hm with rfl | hm
  ·exact hk
  ·exact hl m hm
theorem yLO {c:List PV} (h:HasF (.s Cn) c):∃ l:List Ck,c=[.data (cks l)]∧l.length≤9223372036854775807∧∀ k∈l,k.i64:=by simp only [HasF] at h;obtain ⟨rows,rfl,hl,hr⟩:=h;obtain ⟨l,rfl,hi⟩:=P2 rows hr;rw [iQ] at hl;exact ⟨l,rfl,hl,hi⟩
theorem yDb {x y:PV} (h:x.isAgg=false) (e:x.cells=[y]):x=y:=by
 cases x<;>first | (simp only [PV.cells,lI,and_true] at e;exact e) | cases h
theorem yLP {as:List PV} (h:yox [.s Cn] as):∃ (l:List Ck),as=[.data (cks l)]∧l.length≤9223372036854775807∧∀ k∈l,k.i64:=by simp only [yox] at h;obtain ⟨x,r,rfl,x1,x2,rfl⟩:=h;obtain ⟨l,e1,hl,hi⟩:=yLO x2;rw [yDb x1 e1];exact ⟨l,rfl,hl,hi⟩
theorem P3 {l:List Int} (hl:l.length<4611686018427387904) (K:Bool→Prop) :
  ∀ (r i n:Nat),i+r=l.length→r<n→GS (fun a=>(K a)) (fun b c d e=>(K true)) n (aD l) (aD l) i=K true
 | 0,i,n+1,hi,hn=>by unfold GS;rw [dZ,eE (by omega)]
 | r+1,i,n+1,hi,hn=>by unfold GS;have e1:=eQ (n:=(i:Int)+1) (by omega) (by omega);rw [dZ,eC (by omega),dR,bB (by omega),bB (by omega),fP (by omega),bB (by omega),bB (by omega),fP (by omega),mX rfl,e1,kD];exact P3 hl K r (i+1) n (by omega) (by omega)
theorem P4 {l:List Int} (hl:l.length<4611686018427387904) (K:Bool→Prop):Ce (aD l) (aD l) K=K true:=by refine wg _ _ _ (fun K k=>?_) K;unfold Ce TE;rw [mX rfl];refine ⟨l.length+1,?_⟩;exact (P3 hl K l.length 0 (l.length+1) (by omega) (by omega)).mpr k
end Go.Pf.Vc
namespace Go.Pf.Vc
def iR (a b:Rat):Rat:=if a<b then b else a
def sF (a b:Rat):Rat:=if a<b then a else b
theorem Co (a b:Rat):a≤iR a b∧b≤iR a b∧(iR a b=a∨iR a b=b):=by unfold iR;split<;>grind
theorem Hg (a b:Rat):sF a b≤a∧sF a b≤b∧(sF a b=a∨sF a b=b):=by unfold sF;split<;>grind
end Go.Pf.Vc
namespace Go.Pf.Vc
open Go Go.Pf
theorem asTr (P:Prop):aI (decide True) P=P:=by rw [decide_true];rfl
theorem ez (P Q:Prop):aM ((0:Int)==0) P Q=P:=rfl
section
variable {len:Int} {cuts dens:List Int}
def uC (cuts:List Int) (i:Nat) (x:Rat):Rat:=sF (iR x (cuts.getD i 0:Int)) (cuts.getD (i+1) 0:Int)
def vu (cuts dens:List Int) (x:Rat):Nat→Nat→Rat
 | 0,_=>0
 | r+1,i=>(dens.getD i 0:Int)*uC cuts i x+vu cuts dens x r (i+1)
theorem Uw (h:VC len cuts dens):∀ (r i:Nat) {x y:Rat},i+r=dens.length→x≤(cuts.getD i 0:Int)→y≤(cuts.getD i 0:Int)→vu cuts dens x r i=vu cuts dens y r i
 | 0,_,_,_,_,_,_=>rfl
 | r+1,i,x,y,hi,hx,hy=>by
  have l1:=h.l1;have hst:((cuts.getD i 0:Int):Rat)<((cuts.getD (i+1) 0:Int):Rat):=Rat.intCast_lt_intCast.2 (h.step (i:=i) (by omega));have ih:=Uw h r (i+1) (x:=x) (y:=y) (by omega) (by grind) (by grind);unfold vu;rw [ih];have e:uC cuts i x=uC cuts i y:=by
   unfold uC;have a1:=Co x (cuts.getD i 0:Int);have a2:=Co y (cuts.getD i 0:Int);have e1:iR x (cuts.getD i 0:Int)=(cuts.getD i 0:Int):=by grind
   have e2:iR y (cuts.getD i 0:Int)=(cuts.getD i 0:Int):=by grind
   rw [e1,e2]
  rw [e]
def vX (cuts dens:List Int) (x:Rat):Rat:=vu cuts dens x dens.length 0
theorem yGe (h:VC len cuts dens) {i:Nat} (hi:i+1<cuts.length) {x y:Rat} (hxy:x≤y):uC cuts i x≤uC cuts i y:=by have hst:((cuts.getD i 0:Int):Rat)<((cuts.getD (i+1) 0:Int):Rat):=Rat.intCast_lt_intCast.2 (h.step (i:=i) hi);have m1:=Co x (cuts.getD i 0:Int);have m2:=Co y (cuts.getD i 0:Int);have n1:=Hg (iR x (cuts.getD i 0:Int)) (cuts.getD (i+1) 0:Int);have n2:=Hg (iR y (cuts.getD i 0:Int)) (cuts.getD (i+1) 0:Int);unfold uC;grind
theorem yJb (h:VC len cuts dens) {i:Nat} (hi:i<dens.length):(0:Rat)≤((dens.getD i 0:Int):Rat):=vR.2 (h.den hi).1
theorem P5 (h:VC len cuts dens) {x y:Rat} (hxy:x≤y):∀ (r i:Nat),i+r=dens.length→vu cuts dens x r i≤vu cuts dens y r i
 | 0,_,_=>kL
 | r+1,i,hi=>by have l1:=h.l1;have h1:=yGe h (i:=i) (by omega) hxy;have h2:=P5 h hxy r (i+1) (by omega);have h3:=EK h1 (yJb h (i:=i) (by omega));unfold vu;grind
theorem P6 (h:VC len cuts dens) {x y:Rat} (hxy:x≤y):vX cuts dens x≤vX cuts dens y:=P5 h hxy dens.length 0 (by omega)
theorem VC.last (h:VC len cuts dens):cuts.getD dens.length 0=len:=by have l1:=h.l1;have:=h.2.2.2.2.2.2.1;rw [show dens.length=cuts.length-1 by omega];exact this
end
def In (D:Int) (q:Rat):Prop:=∃ n:Int,q=(n:Rat)/(D:Rat)
theorem In.int {D:Int} (h:1≤D) (c:Int):In D (c:Rat):=⟨c*D,by rw [qI,Rat.mul_div_cancel (Ax h)]⟩
theorem In.add {D:Int} {q r:Rat} (h:In D q) (k:In D r):In D (q+r):=by obtain ⟨n,rfl⟩:=h;obtain ⟨m,rfl⟩:=k;exact ⟨n+m,by rw [Rat.intCast_add];grind⟩
theorem In.sub {D:Int} {q r:Rat} (h:In D q) (k:In D r):In D (q-r):=by obtain ⟨n,rfl⟩:=h;obtain ⟨m,rfl⟩:=k;exact ⟨n-m,by rw [EW];grind⟩
theorem In.mulI {D:Int} {q:Rat} (h:In D q) (d:Int):In D (q*(d:Rat)):=by obtain ⟨n,rfl⟩:=h;exact ⟨n*d,by rw [qI];grind⟩
theorem In.div {D d:Int} {q:Rat} (hD:1≤D) (hd:1≤d) (h:In D q):In (d*D) (q/(d:Rat)):=by obtain ⟨n,rfl⟩:=h;have h1:=Ax hD;have h2:=Ax hd;refine ⟨n,?_⟩;rw [qI];grind
theorem In.small {D M:Int} {q:Rat} (h:In D q) (hD:1≤D∧D≤1000000000000000000) (hM:M*D≤1000000000000000000) (h0:-(M:Rat)≤q) (h1:q≤(M:Rat)):small q:=by
 obtain ⟨n,rfl⟩:=h;have hp:(0:Rat)<(D:Rat):=Rat.intCast_pos.2 (by omega);have e:(n:Rat)/(D:Rat)*(D:Rat)=(n:Rat):=Rat.div_mul_cancel (Ax hD.1);have a:=EI h0 (jV hp);have b:=EI h1 (jV hp);rw [e] at a b;have a':((-(M*D):Int):Rat)≤(n:Rat):=by rw [Rat.intCast_neg,qI];grind
 have b':(n:Rat)≤((M*D:Int):Rat):=by rw [qI];exact b
 have a2:=jF.1 a';have b2:=jF.1 b';exact yDa (d:=D) ⟨by omega,by omega⟩ ⟨by omega,by omega⟩
section
variable {len:Int} {cuts dens:List Int}
theorem yJc (h:VC len cuts dens) {u:Rat} (h0:0≤u) (h1:u<(len:Rat)):∃ i,i<dens.length∧((cuts.getD i 0:Int):Rat)≤u∧u<((cuts.getD (i+1) 0:Int):Rat):=by
 have key:∀ n,n≤dens.length→u<((cuts.getD n 0:Int):Rat)→∃ i,i<n∧((cuts.getD i 0:Int):Rat)≤u∧u<((cuts.getD (i+1) 0:Int):Rat):=by
  intro n;induction n with
  | zero =>intro _ hu;have c0:cuts.getD 0 0=0:=h.2.2.2.2.2.1;rw [c0] at hu;have:u<0:=hu;grind
  | succ n ih=>
   intro hn hu
   by_cases hc:u<((cuts.getD n 0:Int):Rat)
   ·obtain ⟨i,h1,h2,h3⟩:=ih (by omega) hc;exact ⟨i,by omega,h2,h3⟩
   ·exact ⟨n,by omega,Rat.not_lt.1 hc,hu⟩
 obtain ⟨i,h1,h2,h3⟩:=key dens.length (cQ _) (by rw [h.last];exact h1);exact ⟨i,h1,h2,h3⟩
theorem Hj (h:VC len cuts dens) {i j:Nat} (hij:i≤j) (hj:j≤dens.length):((cuts.getD i 0:Int):Rat)≤((cuts.getD j 0:Int):Rat):=jF.2 (h.mono hij (by have:=h.l1;omega))
theorem P7 (h:VC len cuts dens) {i:Nat} (hi:i<dens.length) {u p:Rat} (h0:((cuts.getD i 0:Int):Rat)≤u) (h1:u≤p) (h2:p≤((cuts.getD (i+1) 0:Int):Rat)) :
  ∀ (r j:Nat),j+r=dens.length→j≤i→vu cuts dens p r j=vu cuts dens u r j+((dens.getD i 0:Int):Rat)*(p-u)
 | 0,j,hj,hji=>by omega
 | r+1,j,hj,hji=>by
  have hst:((cuts.getD j 0:Int):Rat)≤((cuts.getD (j+1) 0:Int):Rat):=Hj h (Nat.le_succ j) (by omega);have m1:=Co p (cuts.getD j 0:Int);have m2:=Co u (cuts.getD j 0:Int);have n1:=Hg (iR p (cuts.getD j 0:Int)) (cuts.getD (j+1) 0:Int);have n2:=Hg (iR u (cuts.getD j 0:Int)) (cuts.getD (j+1) 0:Int)
  by_cases e:j=i
  ·subst e;have low:=Uw h r (j+1) (x:=p) (y:=u) (by omega) h2 (by grind);have ep:uC cuts j p=p:=by unfold uC;grind
   have eu:uC cuts j u=u:=by unfold uC;grind
   unfold vu;rw [low,ep,eu];grind
  ·have hc:((cuts.getD (j+1) 0:Int):Rat)≤((cuts.getD i 0:Int):Rat):=Hj h (by omega) (by omega);have ih:=P7 h hi h0 h1 h2 r (j+1) (by omega) (by omega);have ep:uC cuts j p=uC cuts j u:=by unfold uC;grind
   unfold vu;rw [ih,ep];grind
theorem Nu (h:VC len cuts dens) {i:Nat} (hi:i<dens.length) {u p:Rat} (h0:((cuts.getD i 0:Int):Rat)≤u) (h1:u≤p) (h2:p≤((cuts.getD (i+1) 0:Int):Rat)) :
 vX cuts dens p=vX cuts dens u+((dens.getD i 0:Int):Rat)*(p-u):=P7 h hi h0 h1 h2 dens.length 0 (by omega) (jA _)
def Hk (dens:List Int):Prop:=∀ i,i<dens.length→0<dens.getD i 0
theorem P8 (h:VC len cuts dens) (hh:Hk dens) {u w:Rat} (h0:0≤u) (h1:u<w) (h2:w≤(len:Rat)):vX cuts dens u<vX cuts dens w:=by
 obtain ⟨i,i1,i2,i3⟩:=yJc h h0 (by grind);have hd:(0:Rat)<((dens.getD i 0:Int):Rat):=Rat.intCast_pos.2 (hh i i1)
 by_cases hw:w≤((cuts.getD (i+1) 0:Int):Rat)
 ·have e:=Nu h i1 i2 (jV h1) hw;have:=Rat.mul_lt_mul_of_pos_left (show (0:Rat)<w-u by grind) hd;grind
 ·have e:=Nu h i1 i2 (jV i3) kL;have:=Rat.mul_lt_mul_of_pos_left (show (0:Rat)<((cuts.getD (i+1) 0:Int):Rat)-u by grind) hd;have m:=P6 h (x:=((cuts.getD (i+1) 0:Int):Rat)) (y:=w) (jV (Rat.not_le.1 hw));grind
theorem P9 (h:VC len cuts dens) (hh:Hk dens) {u w:Rat} (_:0≤u) (h1:u≤(len:Rat)) (k0:0≤w) (_:w≤(len:Rat)):vX cuts dens u≤vX cuts dens w↔u≤w:=by
 constructor
 ·intro hle;refine Rat.not_lt.1 fun hlt=>?_
  have:=P8 h hh k0 hlt h1;grind
 ·exact P6 h
theorem Q0 (h:VC len cuts dens):∀ (r i:Nat),i+r=dens.length→vu cuts dens (len:Rat) r i-vu cuts dens ((cuts.getD i 0:Int):Rat) r i=((rem cuts dens r i:Int):Rat)
 | 0,_,_=>by unfold vu rem;show (0:Rat)-0=0;grind
 | r+1,i,hi=>by
  have ih:=Q0 h r (i+1) (by omega);have hst:((cuts.getD i 0:Int):Rat)≤((cuts.getD (i+1) 0:Int):Rat):=Hj h (Nat.le_succ i) (by omega);have hl:((cuts.getD (i+1) 0:Int):Rat)≤(len:Rat):=by rw [← h.last];exact Hj h (by omega) (cQ _)
  have low:=Uw h r (i+1) (x:=((cuts.getD i 0:Int):Rat)) (y:=((cuts.getD (i+1) 0:Int):Rat)) (by omega) hst kL;have m1:=Co (len:Rat) (cuts.getD i 0:Int);have n1:=Hg (iR (len:Rat) (cuts.getD i 0:Int)) (cuts.getD (i+1) 0:Int);have m2:=Co ((cuts.getD i 0:Int):Rat) (cuts.getD i 0:Int);have n2:=Hg (iR ((cuts.getD i 0:Int):Rat) (cuts.getD i 0:Int)) (cuts.getD (i+1) 0:Int);have e1:uC cuts i (len:Rat)=((cuts.getD (i+1) 0:Int):Rat):=by unfold uC;grind
  have e2:uC cuts i ((cuts.getD i 0:Int):Rat)=((cuts.getD i 0:Int):Rat):=by unfold uC;grind
  unfold vu rem;rw [e1,e2,low,Rat.intCast_add,qI,EW,← ih];grind
theorem yJd (h:VC len cuts dens):vX cuts dens (len:Rat)-vX cuts dens 0=((totC cuts dens:Int):Rat):=by have c0:cuts.getD 0 0=0:=h.2.2.2.2.2.1;have:=Q0 h dens.length 0 (by omega);rw [c0] at this;unfold totC;rw [P0,show (0:Int)+rem cuts dens dens.length 0=rem cuts dens dens.length 0 by omega];exact this
theorem Cp (h:VC len cuts dens):(1:Rat)≤(len:Rat)∧(len:Rat)≤1000:=by have:=h.len0;exact ⟨jF.2 this.1,jF.2 this.2⟩
theorem Ay (h:VC len cuts dens) {i:Nat} (hi:i<dens.length):(0:Rat)≤((dens.getD i 0:Int):Rat)∧((dens.getD i 0:Int):Rat)≤12:=by have:=h.den hi;exact ⟨jF.2 this.1,jF.2 this.2⟩
theorem yGf {x d:Rat} (h0:0≤x) (hd:0≤d∧d≤12):0≤x*d∧x*d≤12*x:=by have a:=Rat.mul_nonneg h0 hd.1;have b:=EK hd.2 h0;exact ⟨a,by grind⟩
end
def upC (c:Ck):Nat→Int
 | 0=>0
 | i+1=>upC c i+c.dens.getD i 0*(c.cuts.getD (i+1) 0-c.cuts.getD i 0)
def aK (c:Ck) (i:Nat):Rat:=((c.cuts.getD i 0:Int):Rat)
def aU (c:Ck) (i:Nat):Rat:=((c.dens.getD i 0:Int):Rat)
def dJ (c:Ck) (i:Nat):Rat:=((upC c i:Int):Rat)
def lQ (c:Ck) (x:Rat):Rat:=vX c.cuts c.dens x
def cS (c:Ck):Rat:=((totC c.cuts c.dens:Int):Rat)
def eI (L:Int) (c:Ck):Prop:=VC L c.cuts c.dens∧Hk c.dens
theorem Nv (c:Ck) (i:Nat):dJ c (i+1)=dJ c i+aU c i*(aK c (i+1)-aK c i):=by unfold dJ aK aU;rw [upC,Rat.intCast_add,qI,EW]
theorem Kb {L:Int} {c:Ck} (h:eI L c) {i:Nat} (hi:i<c.dens.length):aK c i<aK c (i+1):=by have:=h.1.l1;exact Rat.intCast_lt_intCast.2 (h.1.step (i:=i) (by omega))
theorem Ek {L:Int} {c:Ck} (h:eI L c):aK c 0=0:=by unfold aK;rw [h.1.2.2.2.2.2.1];rfl
theorem Ux {L:Int} {c:Ck} (h:eI L c):aK c c.dens.length=(L:Rat):=by unfold aK;rw [h.1.last]
theorem xE {L:Int} {c:Ck} (h:eI L c) {i:Nat} (hi:i≤c.dens.length):0≤aK c i:=by have:=Hj h.1 (jA i) hi;have h0:=Ek h;unfold aK at h0 ⊢;rw [h0] at this;exact this
theorem tS {L:Int} {c:Ck} (h:eI L c) {i:Nat} (hi:i≤c.dens.length):aK c i≤(L:Rat):=by have:=Hj h.1 hi (cQ _);have h0:=Ux h;unfold aK at h0 ⊢;rw [h0] at this;exact this
theorem den_pos {L:Int} {c:Ck} (h:eI L c) {i:Nat} (hi:i<c.dens.length):0<aU c i:=Rat.intCast_pos.2 (h.2 i hi)
theorem Uy {L:Int} {c:Ck} (h:eI L c):∀ i,i≤c.dens.length→lQ c (aK c i)=lQ c 0+dJ c i
 | 0,_=>by rw [Ek h];show _=_+((0:Int):Rat);grind
 | i+1,hi=>by have ih:=Uy h i (by omega);have e:=Nu h.1 (i:=i) (by omega) (u:=aK c i) (p:=aK c (i+1)) kL (jV (Kb h (by omega))) kL;have e':lQ c (aK c (i+1))=lQ c (aK c i)+aU c i*(aK c (i+1)-aK c i):=e;rw [e',ih,Nv];grind
theorem Q1 {L:Int} {c:Ck} (h:eI L c) {i:Nat} (hi:i<c.dens.length) {y:Rat} (h0:aK c i≤y) (h1:y≤aK c (i+1)):lQ c y=lQ c 0+dJ c i+aU c i*(y-aK c i):=by have e:lQ c y=lQ c (aK c i)+aU c i*(y-aK c i):=Nu h.1 hi kL h0 h1;rw [e,Uy h i (by omega)]
theorem Q2 {L:Int} {c:Ck} (h:eI L c):lQ c (L:Rat)=lQ c 0+cS c:=by have:=yJd h.1;unfold lQ cS;grind
theorem Cq {L:Int} {c:Ck} (h:eI L c):0<cS c:=by have h1:=(Cp h.1).1;have e:lQ c 0<lQ c (L:Rat):=P8 h.1 h.2 kL (by grind) kL;have:=Q2 h;grind
structure Ln where
 A:Rat
 B:Rat
def Ln.p (x:Ln) (q:Rat):Rat:=x.A+x.B*q
def dD (c:Ck) (f t:Nat) (x:Ln):Ln:=⟨((x.A-aK c f)*aU c f+(dJ c f-dJ c t))/aU c t+aK c t,(x.B*aU c f+cS c)/aU c t⟩
def wh (x:Ln) (n:Rat):Rat:=(n-x.A)/x.B
theorem rtri (a b:Rat):a<b∨a=b∨b<a:=by
 by_cases h:a<b
 ·exact .inl h
 ·by_cases k:b<a
  ·exact .inr (.inr k)
  ·exact .inr (.inl (by grind))
theorem lD {a b:Rat} (h:b≠0):a/b*b=a:=by rw [Rat.div_def,Rat.mul_assoc,Rat.inv_mul_cancel b h,Rat.mul_one]
theorem Nw {c:Ck} {f t:Nat} {x:Ln} (h:0<aU c t) (q:Rat):aU c t*((dD c f t x).p q-aK c t)+dJ c t=aU c f*(x.p q-aK c f)+dJ c f+q*cS c:=by
 have h0:aU c t≠0:=by grind
 have e1:=lD (a:=(x.A-aK c f)*aU c f+(dJ c f-dJ c t)) h0;have e2:=lD (a:=x.B*aU c f+cS c) h0;unfold Ln.p dD;simp only;generalize ((x.A-aK c f)*aU c f+(dJ c f-dJ c t))/aU c t=u at *
 generalize (x.B*aU c f+cS c)/aU c t=v at *
 grind
theorem yEM {a b:Rat} (h:0<b) (ha:0<a):0<a/b:=by rw [Rat.div_def];exact Rat.mul_pos ha (Rat.inv_pos.2 h)
theorem Hl {c:Ck} {f t:Nat} {x:Ln} (h:0<aU c t) (hf:0<aU c f) (hT:0<cS c) (hB:0≤x.B):0<(dD c f t x).B:=by have:=Rat.mul_nonneg hB (jV hf);exact yEM h (by grind)
theorem oA {x:Ln} (h:0<x.B) (n:Rat):x.p (wh x n)=n:=by
 have e:=lD (a:=n-x.A) (b:=x.B) (by grind);unfold Ln.p wh;generalize (n-x.A)/x.B=u at *
 grind
theorem El {x:Ln} (h:0≤x.B) {q r:Rat} (hq:q≤r):x.p q≤x.p r:=by have:=EK hq h;unfold Ln.p;grind
theorem Az {x:Ln} (h:0<x.B) {q r:Rat} (hq:q<r):x.p q<x.p r:=by have:=Rat.mul_lt_mul_of_pos_left hq h;unfold Ln.p;grind
theorem Q3 {x:Ln} (h:0<x.B) {q n:Rat} (hq:q≤wh x n):x.p q≤n:=by have:=El (jV h) hq;rw [oA h] at this;exact this
theorem Ny {x:Ln} (h:0<x.B) {q n:Rat}:wh x n=q↔x.p q=n:=by
 constructor
 ·intro e;rw [← e,oA h]
 ·intro e;rcases rtri (wh x n) q with k | k | k
  ·have:=Az h k;rw [oA h] at this;grind
  ·exact k
  ·have:=Az h k;rw [oA h] at this;grind
theorem Uz {x:Ln} (h:0<x.B) {q n:Rat} (hq:x.p q<n):q<wh x n:=by
 rcases rtri (wh x n) q with k|k|k
 ·have:=Az h k;rw [oA h] at this;grind
 ·have:=oA h n;rw [k] at this;grind
 ·exact k
abbrev Sq:=Ck×Nat×Nat
def bK (s:Sq) (x:Ln):Ln:=dD s.1 s.2.1 s.2.2 x
def jL:List Sq→Ln→Ln
 | [],x=>x
 | s::S,x=>jL S (bK s x)
def jM (L:Int):List Sq→Ln→Rat→Prop
 | [],_,_=>True
 | s::S,x,q=>eI L s.1∧s.2.1<s.1.dens.length∧s.2.2<s.1.dens.length∧aK s.1 s.2.1≤x.p q∧x.p q<aK s.1 (s.2.1+1)∧aK s.1 s.2.2≤(bK s x).p q∧(bK s x).p q<aK s.1 (s.2.2+1)∧jM L S (bK s x) q
def tT (L:Int):List Sq→Ln→Rat→Prop
 | [],_,_=>True
 | s::S,x,q=>eI L s.1∧s.2.1<s.1.dens.length∧s.2.2<s.1.dens.length∧aK s.1 s.2.1≤x.p q∧x.p q≤aK s.1 (s.2.1+1)∧aK s.1 s.2.2≤(bK s x).p q∧(bK s x).p q≤aK s.1 (s.2.2+1)∧tT L S (bK s x) q
def jN:List Sq→Ln→Bool→List Rat
 | [],_,_=>[]
 | s::S,x,b=>(if b then [wh x (aK s.1 (s.2.1+1))] else [])++wh (bK s x) (aK s.1 (s.2.2+1))::jN S (bK s x) true
def kF (q:Rat):List Sq→Ln→Bool→List Sq
 | [],_,_=>[]
 | s::S,x,b=>(s.1,s.2.1+(if b=true∧wh x (aK s.1 (s.2.1+1))=q then 1 else 0),s.2.2+(if wh (bK s x) (aK s.1 (s.2.2+1))=q then 1 else 0))::kF q S (bK s x) true
def Ch (L:Int):List Ck→Rat→Rat→List Rat→Prop
 | [],_,_,ys=>ys=[]
 | c::cs,p,q,ys=>∃ y r,ys=y::r∧p≤y∧y≤(L:Rat)∧lQ c y=lQ c p+q*cS c∧Ch L cs y q r
def Em:List Sq→Ln→Rat→List Rat
 | [],_,_=>[]
 | s::S,x,q=>(bK s x).p q::Em S (bK s x) q
theorem Q4 {L:Int} {s:Sq} {x:Ln} {q:Rat} (h:eI L s.1) (h1:s.2.1<s.1.dens.length) (h2:s.2.2<s.1.dens.length) (a:aK s.1 s.2.1≤x.p q) (b:x.p q≤aK s.1 (s.2.1+1)) (c:aK s.1 s.2.2≤(bK s x).p q) (d:(bK s x).p q≤aK s.1 (s.2.2+1)) :
  lQ s.1 ((bK s x).p q)=lQ s.1 (x.p q)+q*cS s.1:=by
 rw [Q1 h h2 c d,Q1 h h1 a b];have:=Nw (x:=x) (c:=s.1) (f:=s.2.1) (t:=s.2.2) (den_pos h h2) q;unfold bK;grind
theorem Q5 {L:Int} {c:Ck} (h:eI L c) {p y q:Rat} (p0:0≤p) (p1:p≤(L:Rat)) (y0:0≤y) (y1:y≤(L:Rat)) (hq:0≤q) (e:lQ c y=lQ c p+q*cS c):p≤y:=by have:=Rat.mul_nonneg hq (jV (Cq h));exact (P9 h.1 h.2 p0 p1 y0 y1).1 (by unfold lQ at e;grind)
theorem tT.ch {L:Int} {q:Rat} (hq:0≤q):∀ {S:List Sq} {x:Ln},tT L S x q→Ch L (S.map (·.1)) (x.p q) q (Em S x q)
 | [],_,_=>rfl
 | s::S,x,⟨h,h1,h2,a,b,c,d,hr⟩=>by have e:=Q4 h h1 h2 a b c d;have k1:=xE h (i:=s.2.1) (by omega);have k2:=xE h (i:=s.2.2) (by omega);have k3:=tS h (i:=s.2.1+1) (by omega);have k4:=tS h (i:=s.2.2+1) (by omega);exact ⟨_,_,rfl,Q5 h (iE k1 a) (iE b k3) (iE k2 c) (iE d k4) hq e,iE d k4,e,tT.ch hq hr⟩
theorem tT.le_last {L:Int} {q:Rat} (hq:0≤q):∀ {S:List Sq} {x:Ln},tT L S x q→x.p q≤(jL S x).p q
 | [],_,_=>kL
 | s::S,x,⟨h,h1,h2,a,b,c,d,hr⟩=>by have e:=Q4 h h1 h2 a b c d;have k1:=xE h (i:=s.2.1) (by omega);have k2:=xE h (i:=s.2.2) (by omega);have k3:=tS h (i:=s.2.1+1) (by omega);have k4:=tS h (i:=s.2.2+1) (by omega);exact iE (Q5 h (iE k1 a) (iE b k3) (iE k2 c) (iE d k4) hq e) (tT.le_last hq hr)
theorem Q6 {L:Int} {q0 q:Rat} (hq:q0≤q):∀ {S:List Sq} {x:Ln} {b:Bool},jM L S x q0→(∀ w∈jN S x b,q≤w)→(b=true→0<x.B)→(b=false→x.B=0)→tT L S x q
 | [],_,_,_,_,_,_=>trivial
 | s::S,x,b,⟨h,h1,h2,a1,a2,a3,a4,hr⟩,hw,hb,hn=>by
  have hB:0≤x.B:=by cases b<;>grind
  have hB':0<(bK s x).B:=Hl (den_pos h h2) (den_pos h h1) (Cq h) hB;refine ⟨h,h1,h2,iE a1 (El hB hq),?_,iE a3 (El (jV hB') hq),Q3 hB' (hw _ (by simp [jN])),Q6 hq hr (fun w k=>hw w (by simp only [jN,qAz,qAs];exact Or.inr (Or.inr k))) (fun _=>hB') (fun k=>by cases k)⟩
  cases b with
  | true=>exact Q3 (hb rfl) (hw _ (by simp [jN]))
  | false=>
   have:=hn rfl;have e:x.p q=x.p q0:=by unfold Ln.p;rw [this];grind
   rw [e];exact jV a2
theorem yJe {L:Int} {c:Ck} {f t f' t':Nat} {x x':Ln} {q:Rat} (h:eI L c) (ht:t<c.dens.length) (ht':t'<c.dens.length) (hx:x'.p q=x.p q)
  (hf:f'=f∨(f'=f+1∧x.p q=aK c (f+1))) (hg:t'=t∨(t'=t+1∧(dD c f t x).p q=aK c (t+1))):(dD c f' t' x').p q=(dD c f t x).p q:=by
 have e1:=Nw (x:=x) (c:=c) (f:=f) (t:=t) (den_pos h ht) q;have e2:=Nw (x:=x') (c:=c) (f:=f') (t:=t') (den_pos h ht') q;have hd:=den_pos h ht';have u1:=Nv c f;have u2:=Nv c t;have ef:aU c f'*(x'.p q-aK c f')+dJ c f'=aU c f*(x.p q-aK c f)+dJ c f:=by
  rcases hf with rfl|⟨rfl,k⟩
  ·rw [hx]
  ·rw [hx,k,u1];grind
 have et:aU c t'*((dD c f t x).p q-aK c t')+dJ c t'=aU c t*((dD c f t x).p q-aK c t)+dJ c t:=by
  rcases hg with rfl|⟨rfl,k⟩
  ·rfl
  ·rw [k,u2];grind
 have e3:aU c t'*((dD c f' t' x').p q-(dD c f t x).p q)=0:=by grind
 rcases Rat.mul_eq_zero.1 e3 with k|k
 ·grind
 ·grind
theorem Q7 {L:Int} {q:Rat} (hq:0≤q):∀ {S:List Sq} {x x':Ln} {b:Bool},tT L S x q→x'.p q=x.p q→(b=true→0<x.B)→(b=false→x.B=0∧∀ s r,S=s::r→x.p q<aK s.1 (s.2.1+1))→(jL S x).p q<(L:Rat)→jM L (kF q S x b) x' q∧(jL (kF q S x b) x').p q=(jL S x).p q
 | [],_,_,_,_,hx,_,_,_=>⟨trivial,hx⟩
 | s::S,x,x',b,⟨h,h1,h2,a1,a2,a3,a4,hr⟩,hx,hb,hn,hl=>by
  have hB:0≤x.B:=by cases b<;>grind
  have hB':0<(bK s x).B:=Hl (den_pos h h2) (den_pos h h1) (Cq h) hB;have m1:=tT.le_last hq (S:=s::S) ⟨h,h1,h2,a1,a2,a3,a4,hr⟩;have m2:=tT.le_last hq hr;have kl:=Ux h;have hl':(jL S (bK s x)).p q<(L:Rat):=hl;have m1':x.p q≤(jL S (bK s x)).p q:=m1;have hf:∃ f',f'=s.2.1+(if b=true∧wh x (aK s.1 (s.2.1+1))=q then 1 else 0)∧f'<s.1.dens.length∧aK s.1 f'≤x.p q∧x.p q<aK s.1 (f'+1)∧(f'=s.2.1∨(f'=s.2.1+1∧x.p q=aK s.1 (s.2.1+1))):=by
   by_cases k:b=true∧wh x (aK s.1 (s.2.1+1))=q
   ·have e:=(Ny (hb k.1)).1 k.2;have hne:s.2.1+1≠s.1.dens.length:=fun k'=>by rw [k',kl] at e;grind
    refine ⟨_,rfl,?_⟩;rw [WN k];have st:=Kb h (i:=s.2.1+1) (by omega);exact ⟨by omega,by grind,by grind,Or.inr ⟨rfl,e⟩⟩
   ·refine ⟨_,rfl,?_⟩;rw [WO k];refine ⟨h1,a1,?_,Or.inl rfl⟩
    cases b with
    | true=>
     have:¬x.p q=aK s.1 (s.2.1+1):=fun k'=>k ⟨rfl,(Ny (hb rfl)).2 k'⟩
     show x.p q<aK s.1 (s.2.1+1);grind
    | false=>exact (hn rfl).2 _ _ rfl
  have ht:∃ t',t'=s.2.2+(if wh (bK s x) (aK s.1 (s.2.2+1))=q then 1 else 0)∧t'<s.1.dens.length∧aK s.1 t'≤(bK s x).p q∧(bK s x).p q<aK s.1 (t'+1)∧(t'=s.2.2∨(t'=s.2.2+1∧(bK s x).p q=aK s.1 (s.2.2+1))):=by
   by_cases k:wh (bK s x) (aK s.1 (s.2.2+1))=q
   ·have e:=(Ny hB').1 k;have hne:s.2.2+1≠s.1.dens.length:=fun k'=>by rw [k',kl] at e;grind
    refine ⟨_,rfl,?_⟩;rw [WN k];have st:=Kb h (i:=s.2.2+1) (by omega);exact ⟨by omega,by grind,by grind,Or.inr ⟨rfl,e⟩⟩
   ·refine ⟨_,rfl,?_⟩;rw [WO k];have:¬(bK s x).p q=aK s.1 (s.2.2+1):=fun k'=>k ((Ny hB').2 k')
    exact ⟨h2,a3,by show _<aK s.1 (s.2.2+1);grind,Or.inl rfl⟩
  obtain ⟨f',ef,f1,f2,f3,f4⟩:=hf;obtain ⟨t',et,t1,t2,t3,t4⟩:=ht;have ee:(dD s.1 f' t' x').p q=(bK s x).p q:=yJe h h2 t1 hx f4 t4;obtain ⟨r1,r2⟩:=Q7 hq (S:=S) (x:=bK s x) (x':=dD s.1 f' t' x') (b:=true) hr ee (fun _=>hB') (fun k=>by cases k) hl';simp only [kF,← ef,← et];refine ⟨⟨h,f1,t1,by rw [hx];exact f2,by rw [hx];exact f3,?_,?_,r1⟩,r2⟩
  ·show aK s.1 t'≤(dD s.1 f' t' x').p q;rw [ee];exact t2
  ·show (dD s.1 f' t' x').p q<aK s.1 (t'+1);rw [ee];exact t3
def mnS (q:Rat):List Rat→Rat
 | []=>q
 | r::l=>mnS (if r<q then r else q) l
theorem Q8:∀ (l:List Rat) (q:Rat),mnS q l≤q∧∀ w∈l,mnS q l≤w
 | [],_=>⟨kL,fun _ h=>by cases h⟩
 | r::l,q=>by
  obtain ⟨h1,h2⟩:=Q8 l (if r<q then r else q);have e:(if r<q then r else q)≤q∧(if r<q then r else q)≤r:=by split<;>grind
  refine ⟨iE h1 e.1,fun w hw=>?_⟩;rcases qAs.1 hw with rfl | hw
  ·exact iE h1 e.2
  ·exact h2 w hw
theorem yB3:∀ (l:List Rat) (q:Rat),mnS q l=q∨mnS q l∈l
 | [],_=>Or.inl rfl
 | r::l,q=>by
  rcases yB3 l (if r<q then r else q) with h|h
  ·by_cases c:r<q
   ·exact Or.inr (by rw [mnS,h,WN c];exact jU ..)
   ·exact Or.inl (by rw [mnS,h,WO c])
  ·exact Or.inr (iY _ h)
theorem Q9 {a:Rat}:∀ {l:List Rat} {q:Rat},a<q→(∀ w∈l,a<w)→a<mnS q l
 | [],_,h,_=>h
 | r::l,q,h,k=>Q9 (l:=l) (by have:=k r (jU ..);split<;>assumption) (fun w hw=>k w (iY _ hw))
def iS:List Sq→Nat
 | []=>0
 | s::S=>s.2.1+s.2.2+iS S
def kG:List Sq→Nat
 | []=>0
 | s::S=>s.1.dens.length+s.1.dens.length+kG S
theorem jM.pos {L:Int} {q:Rat}:∀ {S:List Sq} {x:Ln},jM L S x q→iS S≤kG S
 | [],_,_=>cQ _
 | _::_,_,⟨_,b,c,_,_,_,_,h⟩=>by have:=jM.pos h;show _+_+iS _≤_+_+kG _;omega
theorem R0 (q:Rat):∀ (S:List Sq) (x:Ln) (b:Bool),kG (kF q S x b)=kG S
 | [],_,_=>rfl
 | s::S,x,b=>by show _+_+kG (kF q S _ true)=_+_+kG S;rw [R0 q S]
theorem En (q:Rat):∀ (S:List Sq) (x:Ln) (b:Bool),(kF q S x b).map (·.1)=S.map (·.1)
 | [],_,_=>rfl
 | s::S,x,b=>by show s.1::(kF q S _ true).map (·.1)=s.1::S.map (·.1);rw [En q S]
theorem R1 (q:Rat):∀ (S:List Sq) (x:Ln) (b:Bool),iS S≤iS (kF q S x b)∧(q∈jN S x b→iS S<iS (kF q S x b))
 | [],_,_=>⟨cQ _,fun h=>by cases h⟩
 | s::S,x,b=>by
  obtain ⟨h1,h2⟩:=R1 q S (bK s x) true;have e:iS (kF q (s::S) x b)=(s.2.1+(if b=true∧wh x (aK s.1 (s.2.1+1))=q then 1 else 0))+(s.2.2+(if wh (bK s x) (aK s.1 (s.2.2+1))=q then 1 else 0))+iS (kF q S (bK s x) true):=rfl;have e2:iS (s::S)=s.2.1+s.2.2+iS S:=rfl;rw [e,e2];refine ⟨by omega,fun h=>?_⟩;simp only [jN,qAz,qAs] at h;rcases h with h | h | h
  ·cases b with
   | false=>cases h
   | true=>
    have h':q=wh x (aK s.1 (s.2.1+1)):=by simpa using h
    rw [WN (⟨rfl,h'.symm⟩:true=true∧_)];omega
  ·rw [WN h.symm];omega
  ·have:=h2 h;omega
theorem R2 {L:Int} {q:Rat}:∀ {S:List Sq} {x:Ln} {b:Bool},jM L S x q→(b=true→0<x.B)→(b=false→x.B=0)→∀ w∈jN S x b,q<w
 | [],_,_,_,_,_,_,hw=>by cases hw
 | s::S,x,b,⟨h,h1,h2,a1,a2,a3,a4,hr⟩,hb,hn,w,hw=>by
  have hB:0≤x.B:=by cases b<;>grind
  have hB':0<(bK s x).B:=Hl (den_pos h h2) (den_pos h h1) (Cq h) hB;simp only [jN,qAz,qAs] at hw;rcases hw with hw | hw | hw
  ·cases b with
   | false=>cases hw
   | true=>
    have h':w=wh x (aK s.1 (s.2.1+1)):=by simpa using hw
    rw [h'];exact Uz (hb rfl) a2
  ·rw [hw];exact Uz hB' a4
  ·exact R2 hr (fun _=>hB') (fun k=>by cases k) w hw
theorem R3 {L:Int} {q:Rat}:∀ {S:List Sq} {x:Ln},jM L S x q→S≠[]→0≤x.B→(jL S x).p q<(L:Rat)∧0<(jL S x).B
 | [],_,_,h,_=>absurd rfl h
 | [s],x,⟨h,h1,h2,a1,a2,a3,a4,hr⟩,_,hB=>⟨by have:=tS h (i:=s.2.2+1) (by omega);show (bK s x).p q<_;grind,Hl (den_pos h h2) (den_pos h h1) (Cq h) hB⟩
 | s::s'::S,x,⟨h,h1,h2,a1,a2,a3,a4,hr⟩,_,hB=>R3 (S:=s'::S) hr (by simp) (jV (Hl (den_pos h h2) (den_pos h h1) (Cq h) hB))
def dE:Ln:=⟨0,0⟩
theorem AA (q:Rat):dE.p q=0:=by unfold dE Ln.p;grind
def RI (L:Int) (S:List Sq) (q:Rat):Prop:=jM L S dE q∧0≤q∧S≠[]
def FinS (L:Int) (cs:List Ck) (q:Rat):Prop:=0<q∧∃ ys,Ch L cs 0 q ys∧ys.getLast?=some (L:Rat)
theorem R4 {q:Rat}:∀ {S:List Sq} {x:Ln},S≠[]→(Em S x q).getLast?=some ((jL S x).p q)
 | [],_,h=>absurd rfl h
 | [_],_,_=>rfl
 | s::s'::S,x,_=>by have:=R4 (q:=q) (S:=s'::S) (x:=bK s x) (by simp);show ((bK s x).p q::Em (s'::S) (bK s x) q).getLast?=_;rw [show Em (s'::S) (bK s x) q=(bK s' (bK s x)).p q::Em S (bK s' (bK s x)) q from rfl] at this ⊢;rw [List.getLast?_cons_cons,this];rfl
def iG (L:Int) (S:List Sq):Rat:=wh (jL S dE) (L:Rat)
def dK (L:Int) (S:List Sq):Rat:=mnS (iG L S) (jN S dE false)
theorem round {L:Int} {S:List Sq} {q0:Rat} (h:RI L S q0):(dK L S=iG L S→FinS L (S.map (·.1)) (dK L S)) ∧
  (dK L S≠iG L S→RI L (kF (dK L S) S dE false) (dK L S)∧iS S<iS (kF (dK L S) S dE false)):=by
 obtain ⟨hi,h0,hn⟩:=h;have hz:dE.B=0:=rfl;obtain ⟨l1,l2⟩:=R3 hi hn (by rw [hz];exact kL);have k1:q0<dK L S:=Q9 (Uz l2 l1) (R2 hi (fun k=>by cases k) (fun _=>hz));obtain ⟨m1,m2⟩:=Q8 (jN S dE false) (iG L S);have k2:tT L S dE (dK L S):=Q6 (jV k1) hi m2 (fun k=>by cases k) (fun _=>hz);have kp:0<dK L S:=by grind
 refine ⟨fun e=>⟨kp,Em S dE (dK L S),?_,?_⟩,fun e=>?_⟩
 ·have:=k2.ch (jV kp);rw [AA] at this;exact this
 ·rw [R4 hn,e];exact Aaa some (oA l2 _)
 ·have k3:dK L S<iG L S:=by have:dK L S≤iG L S:=m1;grind
  have k4:(jL S dE).p (dK L S)<(L:Rat):=by have:=Az l2 k3;rw [iG,oA l2] at this;exact this
  obtain ⟨r1,_⟩:=Q7 (jV kp) (x':=dE) (b:=false) k2 rfl (fun k=>by cases k) (fun _=>⟨rfl,fun s r e=>by
   subst e;obtain ⟨h,h1,_,_,a2,_⟩:=hi;rw [AA] at a2 ⊢;exact a2⟩) k4
  refine ⟨⟨r1,jV kp,?_⟩,(R1 _ S dE false).2 ?_⟩
  ·cases S with
   | nil=>exact absurd rfl hn
   | cons s S=>intro k;cases k
  ·rcases yB3 (jN S dE false) (iG L S) with k | k
   ·exact absurd k e
   ·exact k
theorem Kc {u M d:Rat} (h0:-M≤u) (h1:u≤M) (d0:0≤d) (d1:d≤12) (hM:0≤M):-(12*M)≤u*d∧u*d≤12*M:=by have a:=EI h1 d0;have b:=EI h0 d0;have c:=EK d1 hM;constructor<;>grind
theorem yGg {u M d E:Rat} (h0:-M≤u) (h1:u≤M) (d0:0≤d) (d1:d≤E) (hM:0≤M):-(E*M)≤u*d∧u*d≤E*M:=by have a:=EI h1 d0;have b:=EI h0 d0;have c:=EK d1 hM;constructor<;>grind
theorem Hm {u M d:Rat} (h0:-M≤u) (h1:u≤M) (hd:1≤d) (hM:0≤M):-M≤u/d∧u/d≤M:=by
 have e:=lD (a:=u) (b:=d) (by grind);have c:=EK hd hM;generalize u/d=v at *
 constructor
 ·refine Rat.not_lt.1 fun k=>?_
  have:=Rat.mul_lt_mul_of_pos_right k (show (0:Rat)<d by grind);grind
 ·refine Rat.not_lt.1 fun k=>?_
  have:=Rat.mul_lt_mul_of_pos_right k (show (0:Rat)<d by grind);grind
theorem R5 {L:Int} {c:Ck} (h:eI L c):∀ i,i≤c.dens.length→0≤dJ c i∧dJ c i≤12*aK c i
 | 0,_=>by have:dJ c 0=0:=rfl;rw [this,Ek h];constructor<;>grind
 | i+1,hi=>by obtain ⟨a,b⟩:=R5 h i (by omega);have s:=Kb h (i:=i) (by omega);have d:=Ay h.1 (i:=i) (by omega);have d1:aU c i≤12:=d.2;have d0:0≤aU c i:=d.1;have m:=yGf (x:=aK c (i+1)-aK c i) (by grind) ⟨d0,d1⟩;rw [Nv,Rat.mul_comm (aU c i)];constructor<;>grind
theorem xF {L:Int} {c:Ck} (h:eI L c) {i:Nat} (hi:i≤c.dens.length):0≤dJ c i∧dJ c i≤12000:=by have a:=R5 h i hi;have b:=tS h hi;have e:=(Cp h.1).2;exact ⟨a.1,by grind⟩
def Bk:Nat→Int
 | 0=>0
 | k+1=>12*Bk k+12000*12 ^ k
def Mk:Nat→Int
 | 0=>0
 | k+1=>12*Mk k+25000
theorem R6:∀ k,0≤Mk k
 | 0=>Int.le_refl _
 | k+1=>by have:=R6 k;show 0≤12*Mk k+25000;omega
def LB (k:Nat) (x:Ln):Prop:=∃ F b:Int,1≤F∧F≤12 ^ k∧In F x.A∧x.B=(b:Rat)/(F:Rat)∧0≤b∧b≤Bk k∧-((Mk k:Int):Rat)≤x.A∧x.A≤((Mk k:Int):Rat)
theorem Nz:LB 0 dE:=⟨1,0,by decide,by decide,⟨0,by decide +kernel⟩,by decide +kernel,by decide,by decide,by decide +kernel,by decide +kernel⟩
theorem Hn {L:Int} {c:Ck} (h:eI L c) {i:Nat} (hi:i<c.dens.length):1≤c.dens.getD i 0∧c.dens.getD i 0≤12:=⟨h.2 i hi,(h.1.den hi).2⟩
theorem UA {L:Int} {c:Ck} (h:eI L c):0≤totC c.cuts c.dens∧totC c.cuts c.dens≤12000:=by have:=yAu h.1;omega
theorem R7 {a b c d:Rat} (hb:b≠0) (hd:d≠0) (e:a*d=c*b):a/b=c/d:=by
 have e1:=lD (a:=a) hb;have e2:=lD (a:=c) hd;generalize a/b=u at *
 generalize c/d=v at *
 have:(u-v)*(b*d)=0:=by grind
 rcases Rat.mul_eq_zero.1 this with k|k
 ·grind
 ·rcases Rat.mul_eq_zero.1 k with k | k
  ·exact absurd k hb
  ·exact absurd k hd
theorem Kd {L:Int} {c:Ck} (h:eI L c) {f t k:Nat} (hf:f<c.dens.length) (ht:t<c.dens.length) {x:Ln} (hx:LB k x):LB (k+1) (dD c f t x):=by
 obtain ⟨F,b,F1,F2,hA,hB,b0,b1,m0,m1⟩:=hx;have d1:=Hn h hf;have e1:=Hn h ht;have T:=UA h;have hM:(0:Rat)≤((Mk k:Int):Rat):=vR.2 (R6 k);refine ⟨c.dens.getD t 0*F,b*c.dens.getD f 0+totC c.cuts c.dens*F,?_,?_,?_,?_,?_,?_,?_⟩
 ·have:=nB e1.1 F1 (by omega) (by omega);omega
 ·have:=nB e1.2 F2 (by omega) (by omega);rw [Int.pow_succ,AZ (12 ^ k)];exact this
 ·have D1:1≤c.dens.getD t 0*F:=by have:=nB e1.1 F1 (by omega) (by omega);omega
  refine In.add ?_ (In.int D1 _);refine In.div F1 e1.1 ?_;refine In.add ((hA.sub (In.int F1 _)).mulI _) ?_;have:dJ c f-dJ c t=((upC c f-upC c t:Int):Rat):=by rw [EW];rfl
  rw [this];exact In.int F1 _
 ·show (x.B*aU c f+cS c)/aU c t=_;rw [hB,Rat.intCast_add,qI,qI,qI];have r1:(F:Rat)≠0:=Ax F1;have r2:((c.dens.getD t 0:Int):Rat)≠0:=Ax e1.1;have e:=lD (a:=(b:Rat)) r1;refine R7 r2 (fun k=>by rcases Rat.mul_eq_zero.1 k with k | k<;>contradiction) ?_;unfold aU cS;generalize (b:Rat)/(F:Rat)=w at *
  grind
 ·have:=lK b0 (show 0≤c.dens.getD f 0 by omega);have:=lK T.1 (show 0≤F by omega);omega
 ·have a1:=nB b1 d1.2 (by omega) (by omega);have a2:=nB T.2 F2 (by omega) (by omega);show _≤12*Bk k+12000*12 ^ k;omega
 ·have u1:=xF h (i:=f) (by omega);have u2:=xF h (i:=t) (by omega);have c1:=tS h (i:=f) (by omega);have c2:=tS h (i:=t) (by omega);have c3:=xE h (i:=f) (by omega);have c4:=xE h (i:=t) (by omega);have l:=(Cp h.1).2;have q1:(1:Rat)≤aU c t:=by have:=(jF (a:=1)).2 e1.1;exact this
  have q2:aU c f≤12:=(Ay h.1 hf).2;have q3:0≤aU c f:=(Ay h.1 hf).1;have eM:((Mk (k+1):Int):Rat)=12*((Mk k:Int):Rat)+25000:=by show ((12*Mk k+25000:Int):Rat)=_;rw [Rat.intCast_add,qI];rfl
  have v:=Kc (u:=x.A-aK c f) (M:=((Mk k:Int):Rat)+1000) (d:=aU c f) (by grind) (by grind) q3 q2 (by grind);have w:=Hm (u:=(x.A-aK c f)*aU c f+(dJ c f-dJ c t)) (M:=12*((Mk k:Int):Rat)+24000) (by grind) (by grind) q1 (by grind);rw [eM];show -(12*((Mk k:Int):Rat)+25000)≤_/_+aK c t∧_/_+aK c t≤12*((Mk k:Int):Rat)+25000;constructor<;>grind
set_option maxRecDepth 100000
def R8:List An→List An
 | []=>[]
 | a::r=>⟨a.at_,.raw,a.md⟩::R8 r
def AB:TC→TC
 | .ops l an ps fg=>.ops l (R8 an) ps fg
 | .seq a b=>.seq (AB a) (AB b)
 | .cond c a b=>.cond c (AB a) (AB b)
 | .block i b=>.block i (AB b)
 | c=>c
def R9:List An→List An
 | []=>[]
 | a::r=>(match a.sh with | .one .d=>⟨a.at_,.raw,a.md⟩ | _=>a)::R9 r
def cX:TC→TC
 | .ops l an ps fg=>.ops l (R9 an) ps fg
 | .seq a b=>.seq (cX a) (cX b)
 | .cond c a b=>.cond c (cX a) (cX b)
 | .block i b=>.block i (cX b)
 | .loop i b=>.loop i (cX b)
 | .lG i b=>.lG i (bif Nat.beq i 5508403 then AB b else cX b)
 | c=>c
def pZ (t:TFn):TFn:=⟨t.nparams,t.results,cX t.body⟩
def UE (E:Env) (callK:CK) (lp:LP) (b:TC):Nat→aG→Hp→(Ex→aG→Hp→Prop)→Prop
 | 0,_,_,_=>False
 | n+1,F,H,Q=>WC E callK lp [] cJ b F H fun x F' H'=>match x with | .norm=>UE E callK lp b n F' H' Q | .exit i=>Q (.exit i) F' H' | .ret=>Q .ret F' H' | .brk k i=>Q (.brk k i) F' H'
def Ho (E:Env) (callK:CK) (lp:LP) (b:TC):Nat→aG→Hp→(Ex→aG→Hp→Prop)→Prop
 | 0,_,_,_=>False
 | n+1,F,H,Q=>WC E callK lp [] cJ b F H fun x F' H'=>match x with | .norm=>Ho E callK lp b n F' (uB F' H.length H') Q | .exit i=>Q (.exit i) F' H' | .ret=>Q .ret F' H' | .brk k i=>Q (.brk k i) F' H'
def unB:TC→TC
 | .block _ c=>c
 | c=>c
def fQ:Nat→TC→TC
 | 0,c=>c
 | n+1,.seq _ b=>fQ n b
 | _+1,c=>c
def jO:Nat→TC→TC
 | n+1,.seq a b=>.seq a (jO n b)
 | _,_=>.skip
structure Se where
 len:Int
 cuts:List PV
 dens:List PV
 up:List PV
 tot:Int
 f:Int
 t:Int
structure L4 where
 a:Int
 b:Int
 c:Int
 d:Int
def L4.v (l:L4):PV:=.agg [.int .i64 l.a,.int .i64 l.b,.int .i64 l.c,.int .i64 l.d]
def NA (s:Se):HB:=⟨false,true,1,s.up⟩
def NB (k:Nat) (s:Se):HB:=⟨false,false,7,[.agg [.int .i64 s.len,.data s.cuts,.data s.dens,.own k 0 s.up.length s.up.length none,.int .i64 s.tot,.int .i64 s.f,.int .i64 s.t]]⟩
def UB:Nat→List Se→Hp
 | _,[]=>[]
 | k,s::r=>NA s::NB k s::UB (k+2) r
def UC:Nat→Nat→List PV
 | _,0=>[]
 | k,n+1=>.ptr k 1 0 0::UC (k+2) n
def eF (S:List Se):Hp:=
 match S with
 | []=>[]
 | s::r=>[⟨false,false,1,[.own 4 0 S.length S.length none]⟩,NA s,NB 1 s,⟨false,false,1,[]⟩,⟨false,false,1,.ptr 2 1 0 0::UC 6 r.length⟩]++UB 5 r++[⟨false,false,1,[.int .i64 r.length]⟩]
def bH (a b:Int):PV:=.agg [.int .i64 a,.int .i64 b]
def kH (L:List PV) (n:Nat):aG:=[(0,.v (.data L)),(4,.box (bH 0 0)),(5,.v (.ptr 0 1 0 0)),(11,.v (.ptr (3+2*n) 1 0 0))]
def Eo (L:List PV) (n:Nat) (a b:Int):aG:=[(0,.v (.data L)),(4,.box (bH 0 0)),(5,.v (.ptr 0 1 0 0)),(11,.v (.ptr (3+2*n) 1 0 0)),(16,.box (bH a b)),(17,.v (.ptr (6+2*n) 1 0 0)),(18,.v (.fn (.func FX) [] [.ptr 0 1 0 0,.ptr (5+2*n) 1 0 0,.ptr (3+2*n) 1 0 0]))]
def sG (S:List Se) (ls:List L4) (a b:Int):Hp:=eF S++[⟨false,true,4,ls.map L4.v⟩,⟨false,false,1,[.own (4+2*S.length) 0 S.length S.length (some S.length)]⟩,⟨false,false,2,[bH a b]⟩]
def vH (aE:xA):List Se→L4→(List L4→Prop)→Prop
 | [],_,K=>K []
 | s::S,x,K=>aI (decide (s.up.length=s.up.length)) (aI (decide (0+s.up.length≤s.up.length)) (aE s.len s.cuts s.dens ((s.up.drop 0).take s.up.length) s.tot s.f s.t x.a x.b x.c x.d fun a b c d=>vH aE S ⟨a,b,c,d⟩ fun l=>K (⟨a,b,c,d⟩::l)))
def lE (cuts:List PV) (i:Int) (K:Int→Prop):Prop:=aI (decide (0≤i)) (aI (decide (i<((cuts.length:Nat):Int))) (aI (aZ zI (cuts.getD i.toNat .nils)) (K (bV (cuts.getD i.toNat .nils)))))
def iT (aN:qV) (l:L4) (cuts:List PV) (i:Int) (K:Int→Int→Prop):Prop:=lE cuts (i64.wrap (i+1)) fun n=>aN l.a l.b l.c l.d n K
def qA (aN:qV) (aL:(Int→Int→Int→Int→(Bool→Prop)→Prop)):List Se→List L4→L4→Bool→Int→Int→(Int→Int→Prop)→Prop
 | s::S,l::ls,x,b,q0,q1,K=>
  let k2:=fun q0 q1=>iT aN l s.cuts s.t fun r0 r1=>aL r0 r1 q0 q1 fun t=>aM t (qA aN aL S ls l true r0 r1 K) (qA aN aL S ls l true q0 q1 K)
  match b with
  | true=>iT aN x s.cuts s.f fun r0 r1=>aL r0 r1 q0 q1 fun t=>aM t (k2 r0 r1) (k2 q0 q1)
  | false=>k2 q0 q1
 | _,_,_,_,q0,q1,K=>K q0 q1
def qB (a b q0 q1:Int):Bool:=(a==q0)&&((b==q1)&&true)
def mC (aN:qV) (q0 q1:Int):List Se→List L4→L4→Bool→(List Bool→Prop)→Prop
 | s::S,l::ls,x,b,K=>
  let k2:=fun K=>iT aN l s.cuts s.t fun r0 r1=>aM (qB r0 r1 q0 q1) (mC aN q0 q1 S ls l true fun m=>K (true::m)) (mC aN q0 q1 S ls l true fun m=>K (false::m))
  match b with
  | true=>iT aN x s.cuts s.f fun r0 r1=>aM (qB r0 r1 q0 q1) (k2 fun m=>K (true::m)) (k2 fun m=>K (false::m))
  | false=>k2 K
 | _,_,_,_,K=>K []
def oW:Nat→Nat→Bool→List Bool→List PV
 | k,n+1,true,bf::bt::m=>(bif bf then [.ptr k 1 0 5] else [])++(bif bt then [.ptr k 1 0 6] else [])++oW (k+2) n true m
 | _,n+1,false,bt::m=>(bif bt then [.ptr 2 1 0 6] else [])++oW 6 n true m
 | _,_,_,_=>[]
def iV:List Se→Bool→List Bool→List Se
 | s::S,true,bf::bt::m=>⟨s.len,s.cuts,s.dens,s.up,s.tot,bif bf then i64.wrap (s.f+1) else s.f,bif bt then i64.wrap (s.t+1) else s.t⟩::iV S true m
 | s::S,false,bt::m=>⟨s.len,s.cuts,s.dens,s.up,s.tot,s.f,bif bt then i64.wrap (s.t+1) else s.t⟩::iV S true m
 | _,_,_=>[]
def gbS:List PV→Hp
 | []=>[]
 | p::r=>⟨false,false,1,[p]⟩::⟨false,false,1,p::r⟩::r.map fun x=>⟨false,false,1,[x]⟩
def qY (S:List Se) (ls:List L4) (a b:Int) (m:List PV):Hp:=sG S ls a b++[⟨false,false,1,[match m with | []=>.nils | _::_=>.own (9+2*S.length) 0 m.length m.length none]⟩]++gbS m
def qZ (L:List PV) (n:Nat):aG:=[(0,.v (.data L)),(4,.box (bH 0 0)),(5,.v (.ptr 0 1 0 0)),(11,.v (.ptr (3+2*n) 1 0 0)),(19,.v (.ptr (7+2*n) 1 0 0))]
def Ep:L4:=⟨0,1,0,1⟩
def mD:List L4→L4
 | []=>Ep
 | [l]=>l
 | _::r=>mD r
section
variable (e:Es) (aW:(Int→(Int→Int→Prop)→Prop)) (aE:xA) (aN:qV) (aL:(Int→Int→Int→Int→(Bool→Prop)→Prop))
def NC:Nat→Option (List PV→(PV→Prop)→Prop):=yko [(pM,uX.pw aW),(FW,TK.pw aE),(Dg,GT.pw aN),(Dh,Cc.pw aL)]
def Ke:SE:=⟨E e,NC aW aE aN aL,yeG [(Gb,pZ Gu),(Gc,pZ Gv)],fun _ _ _ _ _=>False,fun _=>none⟩
def S2:LP:=fun id _ F H Q=>bif Nat.beq id 31735400 then UE (E e) (gJ (Ke e aW aE aN aL) 2) (fun _ _ _ _ _=>False) (cX Mp) 5 F H Q else False
def sH:SE:=⟨E e,NC aW aE aN aL,yeG [(FX,pZ Gt),(Gb,pZ Gu),(Gc,pZ Gv)],S2 e aW aE aN aL,fun _=>none⟩
def UD:LP:=fun id _ F H Q=>
 bif Nat.beq id 5508402 then Ho (E e) (gJ (sH e aW aE aN aL) 4) (fun _ _ _ _ _=>False) (cX Mr) 5 F H Q else
 bif Nat.beq id 5508403 then Ho (E e) (gJ (sH e aW aE aN aL) 4) (fun _ _ _ _ _=>False) (AB Ms) 8 F H Q else False
def wR (c:TC) (F:aG) (H:Hp) (Q:Ex→aG→Hp→Prop):Prop:=WC (E e) (gJ (sH e aW aE aN aL) 4) (UD e aW aE aN aL) [] cJ c F H Q
def bR:TC:=unB (cX iN)
def Hq (L0:Int) (Lr:List PV) (S:List Se) (Q:List L4→Int→Int→Int→Int→Prop):Prop:=
 aW 0 fun w0 w1=>aW 0 fun w2 w3=>vH aE S ⟨w0,w1,w2,w3⟩ fun ls=>aI (decide ((0:Int)<(((Lr.length+1:Nat)):Int))) (aN (mD ls).a (mD ls).b (mD ls).c (mD ls).d L0 fun s0 s1=>qA aN aL S ls ⟨w0,w1,w2,w3⟩ false s0 s1 fun q0 q1=>Q ls s0 s1 q0 q1)
def L1 (L0:Int) (c0 d0 Lr:List PV):List PV:=.agg [.int .i64 L0,.data c0,.data d0]::Lr
def QA (L:List PV) (S:List Se) (Q:Ex→aG→Hp→Prop):List L4→Int→Int→Int→Int→Prop:=fun ls s0 s1 q0 q1=>Q .norm (Eo L S.length s0 s1) (sG S ls q0 q1)
def QG (b:TC) (k:Nat) (Rn:aG→Hp→Prop) (Q:Ex→aG→Hp→Prop):Ex→aG→Hp→Prop:=fun x F' H'=>match x with
 | .norm=>Rn (fdels F' (gD (bM b))) (uB (fdels F' (gD (bM b))) k H')
 | .exit i=>Q (.exit i) F' H'
 | .ret=>Q .ret F' H'
 | .brk k i=>Q (.brk k i) F' H'
def QB (b:TC) (id k:Nat) (Rn:aG→Hp→Prop) (Q:Ex→aG→Hp→Prop):Ex→aG→Hp→Prop:=fun x F' H'=>match x with
 | .norm=>QG b k Rn Q .norm F' H'
 | .exit i=>(bif Nat.beq i id then QG b k Rn Q .norm F' H' else QG b k Rn Q (.exit i) F' H')
 | .ret=>QG b k Rn Q .ret F' H'
 | .brk k' i=>QG b k Rn Q (.brk k' i) F' H'
def sI (q0 q1:Int):aG:=[(4,.box (bH q0 q1))]
end
def eU (S:List Se):Hp:=
 match S with
 | []=>[⟨false,false,1,[.nils]⟩]
 | s::r=>[⟨false,false,1,[.own 4 0 S.length S.length none]⟩,NA s,NB 1 s,⟨false,false,1,[]⟩,⟨false,false,1,.ptr 2 1 0 0::UC 6 r.length⟩]++UB 5 r
def S3:Nat→Nat
 | 0=>1
 | j+1=>5+2*j
def lR (L ord:List PV) (j:Nat) (dens:List PV) (m i:Int):aG:=[(0,.v (.data L)),(4,.box (bH 0 0)),(5,.v (.ptr 0 1 0 0)),(8,.v (.ptr (S3 j+1) 1 0 0)),(22,.v (.data ord)),(23,.v (.int .i64 ord.length)),(24,.v (.int .i64 j)),(39,.v (.data dens)),(40,.v (.int .i64 m)),(41,.v (.int .i64 i))]
def iW (L ord:List PV) (j:Nat) (dens:List PV) (m i:Int):aG:=lR L ord j dens m i++[(42,.v (.bool false))]
def fH (S:List Se) (s:Se):Hp:=eU S++[NA s,NB (S3 S.length) s]
def lS (L ord:List PV) (j:Nat):aG:=[(0,.v (.data L)),(4,.box (bH 0 0)),(5,.v (.ptr 0 1 0 0)),(22,.v (.data ord)),(23,.v (.int .i64 ord.length)),(24,.v (.int .i64 j))]
def iX (L ord:List PV) (j:Nat):aG:=lS L ord j++[(25,.v (.bool false))]
def sJ (dens cuts:List PV) (tot i:Int):Int:=i64.wrap (tot+i64.wrap (bV (dens.getD i.toNat .nils)*i64.wrap (bV (cuts.getD (i64.wrap (i+1)).toNat .nils)-bV (cuts.getD i.toNat .nils))))
def qC (dens:List PV) (s:Se) (i:Int) (K:Se→Prop):Prop:=
 aI (decide (0≤i)) (aI (decide (i<((dens.length:Nat):Int))) (aI (aZ zI (dens.getD i.toNat .nils)) (aI (decide (0≤i64.wrap (i+1))) (aI (decide (i64.wrap (i+1)<((s.cuts.length:Nat):Int)))
 (aI (aZ zI (s.cuts.getD (i64.wrap (i+1)).toNat .nils)) (aI (decide (0≤i)) (aI (decide (i<((s.cuts.length:Nat):Int))) (aI (aZ zI (s.cuts.getD i.toNat .nils))
 (aI (decide (s.up.length=s.up.length)) (aI (decide (0+s.up.length≤s.up.length)) (aI (!decide (0+s.up.length+1≤s.up.length)) (aI (decide (s.up.length=s.up.length)) (aI (decide ((s.up.length+1+64)*(8+1)≤room))
  (K ⟨s.len,s.cuts,s.dens,s.up++[.int .i64 (sJ dens s.cuts s.tot i)],sJ dens s.cuts s.tot i,s.f,s.t⟩))))))))))))))
def S4 (PP:aG→Hp→Prop→Prop) (F1:aG) (H1:Hp):LP:=fun id _ F H Q=>bif Nat.beq id 5508400 then PP F H (Q (.exit 2) F1 H1) else False
def ND (PP PQ:aG→Hp→Prop→Prop) (F1:aG) (H1:Hp) (q0 q1:Int):LP:=fun id _ F H Q=>bif Nat.beq id 5508401 then PP F H (Q (.exit 0) F1 H1) else bif Nat.beq id 5508404 then PQ F H (∀ H',Q .ret (sI q0 q1) H') else False
def AD (ord:List PV) (j:Nat):Int:=bV (ord.getD ((j:Int)).toNat .nils)
def lF (L ord:List PV) (j:Nat):PV:=L.getD (AD ord j).toNat .nils
def fW (c:PV):Se:=⟨bV (fB c 0),lM (fB c 1),lM (fB c 2),[.int .i64 0],0,0,0⟩
def Er (L ord:List PV) (j:Nat) (X Y:Prop):Prop:=
 aM (decide ((j:Int)<((ord.length:Nat):Int))) (aI (decide ((j:Int)<((ord.length:Nat):Int))) (aI (aZ zI (ord.getD ((j:Int)).toNat .nils)) (aI (decide (0≤AD ord j)) (aI (decide (AD ord j<((L.length:Nat):Int))) (aI (aZ zK (lF L ord j)) X))))) Y
section
variable (e:Es) (aW:(Int→(Int→Int→Prop)→Prop)) (aE:xA) (aN:qV) (aL:(Int→Int→Int→Int→(Bool→Prop)→Prop))
variable (L ord:List PV) (Rn:aG→Hp→Prop) (Q:Ex→aG→Hp→Prop) (PP PQ:aG→Hp→Prop→Prop)
def wD (F:aG) (H:Hp) (Q:Ex→aG→Hp→Prop):Prop:=WC (E e) (gJ (sH e aW aE aN aL) 4) (UD e aW aE aN aL) [] cJ (cX rX) F H Q
def wO (F1:aG) (H1:Hp) (F:aG) (H:Hp) (Q:Ex→aG→Hp→Prop):Prop:=WC (E e) (gJ (sH e aW aE aN aL) 4) (S4 PP F1 H1) [] cJ (cX qT) F H Q
def wT (F1:aG) (H1:Hp) (q0 q1:Int) (K:PV→Prop):Prop:=WP ⟨E e,NC aW aE aN aL,yeG [(FX,pZ Gt),(Gb,pZ Gu),(Gc,pZ Gv)],ND PP PQ F1 H1 q0 q1,fun _=>none⟩ 4 (pZ Jn) [.data L,.data ord] K
theorem UF (dens:List PV) (m i:Int) (s:Se):wD e aW aE aN aL (lR L ord 0 dens m i) (fH [] s) (QG (cX rX) (fH [] s).length Rn Q)=aM (decide (i<m)) (qC dens s i fun s'=>Rn (lR L ord 0 dens m (i64.wrap (i+1))) (fH [] s')) (Q (.exit 2) (iW L ord 0 dens m i) (fH [] s)):=by kernel_rfl
theorem UG (dens:List PV) (m i:Int) (s:Se) (s0:Se):wD e aW aE aN aL (lR L ord 1 dens m i) (fH [s0] s) (QG (cX rX) (fH [s0] s).length Rn Q)=aM (decide (i<m)) (qC dens s i fun s'=>Rn (lR L ord 1 dens m (i64.wrap (i+1))) (fH [s0] s')) (Q (.exit 2) (iW L ord 1 dens m i) (fH [s0] s)):=by kernel_rfl
theorem UH (dens:List PV) (m i:Int) (s:Se) (s0 s1:Se):wD e aW aE aN aL (lR L ord 2 dens m i) (fH [s0,s1] s) (QG (cX rX) (fH [s0,s1] s).length Rn Q)=aM (decide (i<m)) (qC dens s i fun s'=>Rn (lR L ord 2 dens m (i64.wrap (i+1))) (fH [s0,s1] s')) (Q (.exit 2) (iW L ord 2 dens m i) (fH [s0,s1] s)):=by kernel_rfl
theorem UI (dens:List PV) (m i:Int) (s:Se) (s0 s1 s2:Se):wD e aW aE aN aL (lR L ord 3 dens m i) (fH [s0,s1,s2] s) (QG (cX rX) (fH [s0,s1,s2] s).length Rn Q)=aM (decide (i<m)) (qC dens s i fun s'=>Rn (lR L ord 3 dens m (i64.wrap (i+1))) (fH [s0,s1,s2] s')) (Q (.exit 2) (iW L ord 3 dens m i) (fH [s0,s1,s2] s)):=by kernel_rfl
theorem UJ (dens:List PV) (m i:Int) (s:Se):wO e aW aE aN aL PP (iW L ord 0 dens m i) (fH [] s) (lS L ord 0) (eU []) (QG (cX qT) (eU []).length Rn Q)=Er L ord 0 (PP (lR L ord 0 (fW (lF L ord 0)).dens (fW (lF L ord 0)).dens.length 0) (fH [] (fW (lF L ord 0))) (Rn (lS L ord 1) (eU [s]))) (Q (.exit 0) (iX L ord 0) (eU [])):=by kernel_rfl
theorem UK (dens:List PV) (m i:Int) (s:Se) (s0:Se):wO e aW aE aN aL PP (iW L ord 1 dens m i) (fH [s0] s) (lS L ord 1) (eU [s0]) (QG (cX qT) (eU [s0]).length Rn Q)=Er L ord 1 (PP (lR L ord 1 (fW (lF L ord 1)).dens (fW (lF L ord 1)).dens.length 0) (fH [s0] (fW (lF L ord 1))) (Rn (lS L ord 2) (eU [s0,s]))) (Q (.exit 0) (iX L ord 1) (eU [s0])):=by kernel_rfl
theorem UL (q0 q1:Int) (K:PV→Prop) (s0:Se):wT e aW aE aN aL L ord PP PQ (iX L ord 1) (eU [s0]) q0 q1 K=PP (lS L ord 0) (eU []) (PQ (kH L 1) (eF [s0]) (∀ _:Hp,K (bH q0 q1))):=by kernel_rfl
theorem UM (dens:List PV) (m i:Int) (s:Se) (s0 s1:Se):wO e aW aE aN aL PP (iW L ord 2 dens m i) (fH [s0,s1] s) (lS L ord 2) (eU [s0,s1]) (QG (cX qT) (eU [s0,s1]).length Rn Q)=Er L ord 2 (PP (lR L ord 2 (fW (lF L ord 2)).dens (fW (lF L ord 2)).dens.length 0) (fH [s0,s1] (fW (lF L ord 2))) (Rn (lS L ord 3) (eU [s0,s1,s]))) (Q (.exit 0) (iX L ord 2) (eU [s0,s1])):=by kernel_rfl
theorem UN (q0 q1:Int) (K:PV→Prop) (s0 s1:Se):wT e aW aE aN aL L ord PP PQ (iX L ord 2) (eU [s0,s1]) q0 q1 K=PP (lS L ord 0) (eU []) (PQ (kH L 2) (eF [s0,s1]) (∀ _:Hp,K (bH q0 q1))):=by kernel_rfl
theorem UO (dens:List PV) (m i:Int) (s:Se) (s0 s1 s2:Se):wO e aW aE aN aL PP (iW L ord 3 dens m i) (fH [s0,s1,s2] s) (lS L ord 3) (eU [s0,s1,s2]) (QG (cX qT) (eU [s0,s1,s2]).length Rn Q)=Er L ord 3 (PP (lR L ord 3 (fW (lF L ord 3)).dens (fW (lF L ord 3)).dens.length 0) (fH [s0,s1,s2] (fW (lF L ord 3))) (Rn (lS L ord 4) (eU [s0,s1,s2,s]))) (Q (.exit 0) (iX L ord 3) (eU [s0,s1,s2])):=by kernel_rfl
theorem UP (q0 q1:Int) (K:PV→Prop) (s0 s1 s2:Se):wT e aW aE aN aL L ord PP PQ (iX L ord 3) (eU [s0,s1,s2]) q0 q1 K=PP (lS L ord 0) (eU []) (PQ (kH L 3) (eF [s0,s1,s2]) (∀ _:Hp,K (bH q0 q1))):=by kernel_rfl
theorem UQ (dens:List PV) (m i:Int) (s:Se) (s0 s1 s2 s3:Se):wO e aW aE aN aL PP (iW L ord 4 dens m i) (fH [s0,s1,s2,s3] s) (lS L ord 4) (eU [s0,s1,s2,s3]) (QG (cX qT) (eU [s0,s1,s2,s3]).length Rn Q)=Er L ord 4 (PP (lR L ord 4 (fW (lF L ord 4)).dens (fW (lF L ord 4)).dens.length 0) (fH [s0,s1,s2,s3] (fW (lF L ord 4))) (Rn (lS L ord 5) (eU [s0,s1,s2,s3,s]))) (Q (.exit 0) (iX L ord 4) (eU [s0,s1,s2,s3])):=by kernel_rfl
theorem UR (q0 q1:Int) (K:PV→Prop) (s0 s1 s2 s3:Se):wT e aW aE aN aL L ord PP PQ (iX L ord 4) (eU [s0,s1,s2,s3]) q0 q1 K=PP (lS L ord 0) (eU []) (PQ (kH L 4) (eF [s0,s1,s2,s3]) (∀ _:Hp,K (bH q0 q1))):=by kernel_rfl
end
theorem Et (n:Int) (K:Int→Int→Prop):oR n K=K (n:Rat).num (n:Rat).den:=rfl
theorem US {q r:Rat} (hq:small q) (hr:small r) (K:Bool→Prop):gX q.num q.den r.num r.den K=K (decide (q<r)):=by
 unfold gX TO;rw [zw hq hr];congr 1;rw [Aab,Au]
 by_cases h:q<r
 ·simp [h]
 ·by_cases h2:r<q<;>simp [h,h2]
def Bd (q:Rat):Prop:=∃ D:Int,1≤D∧D≤20736∧In D q∧-100000000≤q∧q≤100000000
theorem Bd.sm {q:Rat}:Bd q→small q
 | ⟨_,h1,h2,h,a,b⟩=>In.small (M:=100000000) h ⟨h1,by omega⟩ (by omega) a b
theorem mE {q:Rat} (h:small q) (K:Int→Int→Int→Prop):fitK q K=K q.num q.den 0:=WN h
def qD (c:Ck):List Int:=(List.range (c.dens.length+1)).map (upC c)
theorem Kf (c:Ck):(qD c).length=c.dens.length+1:=by unfold qD;rw [lJ,List.length_range]
theorem S5 {c:Ck} {i:Nat} (h:i≤c.dens.length):(qD c).getD i 0=upC c i:=by unfold qD;rw [dQ,rE,List.getElem?_range (by omega)];rfl
theorem LB.num {k:Nat} {x:Ln} (hk:k≤3) (h:LB k x):∃ F b:Int,1≤F∧F≤1728∧In F x.A∧x.B=(b:Rat)/(F:Rat)∧0≤b∧b≤5184000∧-3925000≤x.A∧x.A≤3925000:=by
 obtain ⟨F,b,h1,h2,h3,h4,h5,h6,h7,h8⟩:=h;obtain rfl | rfl | rfl | rfl:k=0∨k=1∨k=2∨k=3:=by omega
 ·exact ⟨F,b,h1,vZ h2 (by decide),h3,h4,h5,vZ h6 (by decide),iE (by decide +kernel) h7,iE h8 (by decide +kernel)⟩
 ·exact ⟨F,b,h1,vZ h2 (by decide),h3,h4,h5,vZ h6 (by decide),iE (by decide +kernel) h7,iE h8 (by decide +kernel)⟩
 ·exact ⟨F,b,h1,vZ h2 (by decide),h3,h4,h5,vZ h6 (by decide),iE (by decide +kernel) h7,iE h8 (by decide +kernel)⟩
 ·exact ⟨F,b,h1,vZ h2 (by decide),h3,h4,h5,vZ h6 (by decide),iE (by decide +kernel) h7,iE h8 (by decide +kernel)⟩
theorem LB.numB {k:Nat} {x:Ln} (hk:k≤4) (h:LB k x):∃ F b:Int,1≤F∧F≤20736∧In F x.A∧x.B=(b:Rat)/(F:Rat)∧0≤b∧b≤82944000∧-47125000≤x.A∧x.A≤47125000:=by
 obtain ⟨F,b,h1,h2,h3,h4,h5,h6,h7,h8⟩:=h;obtain rfl | rfl | rfl | rfl | rfl:k=0∨k=1∨k=2∨k=3∨k=4:=by omega
 all_goals exact ⟨F,b,h1,vZ h2 (by decide),h3,h4,h5,vZ h6 (by decide),iE (by decide +kernel) h7,iE h8 (by decide +kernel)⟩
theorem UT {F b M:Int} (hF:1≤F) (b0:0≤b) (b1:b≤M):0≤(b:Rat)/(F:Rat)∧(b:Rat)/(F:Rat)≤(M:Rat):=by have f1:(1:Rat)≤(F:Rat):=(jF (a:=1)).2 hF;have c0:(0:Rat)≤(b:Rat):=vR.2 b0;have c1:(b:Rat)≤(M:Rat):=jF.2 b1;have:=Hm (u:=(b:Rat)) (M:=(M:Rat)) (d:=(F:Rat)) (by grind) c1 f1 (by grind);refine ⟨?_,this.2⟩;rw [Rat.div_def];exact Rat.mul_nonneg c0 (jV (Rat.inv_pos.2 (by grind)))
theorem yAy {L:Int} {c:Ck} (h:eI L c) {f t k:Nat} (hf:f<c.dens.length) (ht:t<c.dens.length) {x:Ln} (hx:LB k x) (hk:k≤3) (K:Int→Int→Int→Int→Prop) :
  mV L (aD c.cuts) (aD c.dens) (aD (qD c)) (totC c.cuts c.dens) f t x.A.num x.A.den x.B.num x.B.den K =
   K (dD c f t x).A.num (dD c f t x).A.den (dD c f t x).B.num (dD c f t x).B.den:=by
 obtain ⟨F,b,F1,F2,hA,hB,b0,b1,m0,m1⟩:=hx.num hk;have l1:=h.1.l1;have df:=Hn h hf;have dt:=Hn h ht;have T:=UA h;have u1:=xF h (i:=f) (by omega);have u2:=xF h (i:=t) (by omega);have c1:=tS h (i:=f) (by omega);have c2:=tS h (i:=t) (by omega);have c3:=xE h (i:=f) (by omega);have c4:=xE h (i:=t) (by omega);have l:=(Cp h.1).2;have q1:(1:Rat)≤aU c t:=(jF (a:=1)).2 dt.1;have q2:aU c f≤12:=(Ay h.1 hf).2;have q3:0≤aU c f:=(Ay h.1 hf).1;have q4:aU c t≤12:=(Ay h.1 ht).2;have T0:0≤cS c:=vR.2 T.1;have T1:cS c≤12000:=(jF (b:=12000)).2 T.2;have hBb:=UT F1 b0 b1;rw [← hB] at hBb;have D1:1≤c.dens.getD t 0*F:=by have:=nB dt.1 F1 (by omega) (by omega);omega
 have D2:c.dens.getD t 0*F≤20736:=by have:=nB dt.2 F2 (by omega) (by omega);omega
 have iU:dJ c f-dJ c t=((upC c f-upC c t:Int):Rat):=by rw [EW];rfl
 have iB:In F x.B:=⟨b,hB⟩;have v:=Kc (u:=x.A-aK c f) (M:=3926000) (d:=aU c f) (by grind) (by grind) q3 q2 (by grind);have vB:=Kc (u:=x.B) (M:=5184000) (d:=aU c f) (by grind) (by grind) q3 q2 (by grind);have w:=Hm (u:=(x.A-aK c f)*aU c f+(dJ c f-dJ c t)) (M:=48000000) (by grind) (by grind) q1 (by grind);have wB:=Hm (u:=x.B*aU c f+cS c) (M:=63000000) (by grind) (by grind) q1 (by grind);have i1:In F (x.A-aK c f):=hA.sub (In.int F1 _);have i2:In F ((x.A-aK c f)*aU c f):=i1.mulI _;have i3:In F ((x.A-aK c f)*aU c f+(dJ c f-dJ c t)):=i2.add (by rw [iU];exact In.int F1 _);have i4:In F (x.B*aU c f):=iB.mulI _;have i5:In F (x.B*aU c f+cS c):=i4.add (In.int F1 _);have s0:small x.A:=Bd.sm ⟨F,F1,by omega,hA,by grind,by grind⟩;have s0':small x.B:=Bd.sm ⟨F,F1,by omega,iB,by grind,by grind⟩;have s1:small (x.A-aK c f):=Bd.sm ⟨F,F1,by omega,i1,by grind,by grind⟩;have s2:small ((x.A-aK c f)*aU c f):=Bd.sm ⟨F,F1,by omega,i2,by grind,by grind⟩;have s3:small ((x.A-aK c f)*aU c f+(dJ c f-dJ c t)):=Bd.sm ⟨F,F1,by omega,i3,by grind,by grind⟩;have s4:small (x.B*aU c f):=Bd.sm ⟨F,F1,by omega,i4,by grind,by grind⟩;have s5:small (x.B*aU c f+cS c):=Bd.sm ⟨F,F1,by omega,i5,by grind,by grind⟩;have s6:small (((x.A-aK c f)*aU c f+(dJ c f-dJ c t))/aU c t):=Bd.sm ⟨_,D1,D2,In.div F1 dt.1 i3,by grind,by grind⟩;have s7:small (((x.A-aK c f)*aU c f+(dJ c f-dJ c t))/aU c t+aK c t):=Bd.sm ⟨_,D1,D2,(In.div F1 dt.1 i3).add (In.int D1 _),by grind,by grind⟩;have s8:small ((x.B*aU c f+cS c)/aU c t):=Bd.sm ⟨_,D1,D2,In.div F1 dt.1 i5,by grind,by grind⟩;have sc:small (aK c f):=h.1.sc (by omega);have sc':small (aK c t):=h.1.sc (by omega);have sd:small (aU c f):=h.1.sd hf;have sd':small (aU c t):=h.1.sd ht;have sT:small (cS c):=Cm (by omega);have bu:-100000000≤upC c f-upC c t∧upC c f-upC c t≤100000000:=by
  have a1:upC c f-upC c t≤12000:=by refine jF.1 ?_;rw [← iU];show _≤(12000:Rat);grind
  have a2:-12000≤upC c f-upC c t:=by refine jF.1 ?_;rw [← iU];show (-12000:Rat)≤_;grind
  omega
 have sU:small (dJ c f-dJ c t):=by rw [iU];exact Cm (by omega)
 have hd0:aU c t≠0:=by grind
 unfold mV TJ;simp only [lt];rw [dZ,bB (by omega),bB (by omega),dR,dR,fP hf,fG hf,Et,bB (by omega),bB (by omega),fP ht,fG ht,Et,dZ,bB (by omega),bB (by omega),fP (by omega),fG (by omega),Et];refine (M9 s0 sc _).trans ?_;rw [mE s1];refine (M8 s1 sd _).trans ?_;rw [mE s2,dZ,Kf,bB (by omega),bB (by omega),fP (by rw [Kf];omega),fG (by rw [Kf];omega),bB (by omega),bB (by omega),fP (by rw [Kf];omega),fG (by rw [Kf];omega),S5 (by omega),S5 (by omega),eQ (by omega) (by omega),Et,← iU];refine (Um s2 sU _).trans ?_;rw [mE s3];refine (M8 s0' sd _).trans ?_;rw [mE s4,Et];refine (Um s4 sT _).trans ?_;rw [mE s5];refine (Uk s3 sd' hd0 _).trans ?_;rw [mE s6,bB (by omega),bB (by omega),fP (by omega),fG (by omega),Et];refine (Um s6 sc' _).trans ?_;rw [mE s7];refine (Uk s5 sd' hd0 _).trans ?_;rw [mE s8];rfl
theorem yAz {n d:Int} (h1:1≤d) (h2:d≤1000000000000000000) (h3:-1000000000000000000≤n) (h4:n≤1000000000000000000):small ((n:Rat)/(d:Rat)):=by
 have e:=lD (a:=(n:Rat)) (b:=(d:Rat)) (Ax h1);generalize (n:Rat)/(d:Rat)=q at *
 have hn:q.num*d=n*q.den:=by
  have e2:q*(q.den:Rat)=(q.num:Rat):=by
   have a:(q.num:Rat)/(q.den:Rat)=q:=by have h:=Rat.num_divInt_den q;rw [Rat.divInt_eq_div] at h;exact h
   have b:=lD (a:=(q.num:Rat)) (b:=(q.den:Rat)) (by have:=q.den_nz;exact fun k=>this (by have:((q.den:Nat):Rat)=((0:Nat):Rat):=k;exact Rat.natCast_inj.1 this));rw [a] at b;exact b
  have:((q.num*d:Int):Rat)=((n*q.den:Int):Rat):=by rw [qI,qI,← e,← e2,Rat.intCast_natCast];grind
  exact Rat.intCast_inj.1 this
 have hp:(0:Int)<q.den:=by have:=q.den_pos;omega
 have hdv:(q.den:Int)∣d:=by
  have h:(q.den:Int)∣q.num*d:=⟨n,by rw [hn,AZ]⟩;have h2:q.den∣q.num.natAbs*d.natAbs:=by rw [← Int.natAbs_mul];exact Int.ofNat_dvd_left.1 h
  exact Int.ofNat_dvd_left.2 (Nat.Coprime.dvd_of_dvd_mul_left q.reduced.symm h2)
 obtain ⟨m,hm⟩:=hdv;have hm1:1≤m:=by
  refine Int.not_lt.1 fun k=>?_
  have:=Kw (show m≤0 by omega) (Int.le_of_lt hp);omega
 have hnm:n=q.num*m:=by
  have:q.den*(q.num*m)=q.den*n:=by rw [hm] at hn;grind
  exact (Int.eq_of_mul_eq_mul_left (by omega) this).symm
 have hd:(q.den:Int)≤d:=by have:=Kw hm1 (Int.le_of_lt hp);rw [← hm] at this;omega
 refine ⟨?_,?_,by omega⟩
 ·by_cases k:0≤q.num
  ·omega
  ·have:=Int.mul_le_mul_of_nonpos_left (show q.num≤0 by omega) hm1;rw [← hnm] at this;omega
 ·by_cases k:0≤q.num
  ·have:=Kw hm1 k;rw [← hnm] at this;omega
  ·omega
theorem UU {k:Nat} {x:Ln} (hk:k≤4) (hx:LB k x) (hp:0<x.B) {n:Int} (n0:0≤n) (n1:n≤1000):∃ a b:Int,1≤b∧b≤82944000∧-1000000000000≤a∧a≤1000000000000∧wh x (n:Rat)=(a:Rat)/(b:Rat)∧small ((n:Rat)-x.A)∧small x.A∧small x.B:=by
 obtain ⟨F,b,F1,F2,⟨a,hA⟩,hB,b0,b1,m0,m1⟩:=hx.numB hk;have hF:=Ax F1;have iA:In F x.A:=⟨a,hA⟩;have f0:(0:Rat)<(F:Rat):=by have:=(jF (a:=1)).2 F1;have:(1:Rat)≤(F:Rat):=this;grind
 have f1:(F:Rat)≤20736:=(jF (b:=20736)).2 F2;have r0:(0:Rat)≤(n:Rat):=vR.2 n0;have r1:(n:Rat)≤1000:=(jF (b:=1000)).2 n1;have hb1:1≤b:=by
  refine Int.not_lt.1 fun k=>?_
  have:b=0:=by omega
  rw [this] at hB;have:x.B=0:=by rw [hB];show (0:Rat)/_=0;rw [Rat.div_def,Rat.zero_mul]
  grind
 have eA:=lD (a:=(a:Rat)) hF;have eB:=lD (a:=(b:Rat)) hF;rw [← hA] at eA;rw [← hB] at eB;have ea:((n*F-a:Int):Rat)=((n:Rat)-x.A)*(F:Rat):=by rw [EW,qI,← eA];grind
 have v:=yGg (u:=(n:Rat)-x.A) (M:=48000000) (d:=(F:Rat)) (E:=20736) (by grind) (by grind) (jV f0) f1 (by grind);refine ⟨n*F-a,b,hb1,b1,?_,?_,?_,?_,?_,?_⟩
 ·refine jF.1 ?_;rw [ea];show (-1000000000000:Rat)≤_;grind
 ·refine jF.1 ?_;rw [ea];show _≤(1000000000000:Rat);grind
 ·unfold wh;exact R7 (by grind) (Ax hb1) (by rw [ea,← eB];grind)
 ·exact Bd.sm ⟨F,F1,F2,(In.int F1 n).sub iA,by grind,by grind⟩
 ·exact Bd.sm ⟨F,F1,F2,iA,by grind,by grind⟩
 ·have:=UT F1 b0 b1;rw [← hB] at this;exact Bd.sm ⟨F,F1,F2,⟨b,hB⟩,by grind,by have:x.B≤82944000:=this.2;grind⟩
theorem Kg {k:Nat} {x:Ln} (hk:k≤4) (hx:LB k x) (hp:0<x.B) {n:Int} (n0:0≤n) (n1:n≤1000):small (wh x (n:Rat)):=by obtain ⟨a,b,h1,h2,h3,h4,h5,_⟩:=UU hk hx hp n0 n1;rw [h5];exact yAz h1 (by omega) (by omega) (by omega)
theorem S6 {k:Nat} {x:Ln} (hk:k≤4) (hx:LB k x) (hp:0<x.B) {n:Int} (n0:0≤n) (n1:n≤1000) (K:Int→Int→Prop) :
  gT x.A.num x.A.den x.B.num x.B.den n K=K (wh x (n:Rat)).num (wh x (n:Rat)).den:=by
 obtain ⟨_,_,_,_,_,_,_,s1,s2,s3⟩:=UU hk hx hp n0 n1;unfold gT TM;rw [Et];refine (M9 (Cm (by omega)) s2 _).trans ?_;rw [mE s1];refine (Uk s1 s3 (by grind) _).trans ?_;exact mE (Kg hk hx hp n0 n1) _
section
variable (e:Es) (aW:(Int→(Int→Int→Prop)→Prop)) (aE:xA) (aN:qV) (aL:(Int→Int→Int→Int→(Bool→Prop)→Prop))
variable (L0:Int) (c0 d0 Lr:List PV) (Rn:aG→Hp→Prop) (Q:Ex→aG→Hp→Prop) (q0 q1 t0 t1:Int)
theorem UV (s0:Se):wR e aW aE aN aL (jO 7 bR) (kH (L1 L0 c0 d0 Lr) 1) (eF [s0]) Q=Hq aW aE aN aL L0 Lr [s0] (QA (L1 L0 c0 d0 Lr) [s0] Q):=by kernel_rfl
theorem UW (s0 s1:Se):wR e aW aE aN aL (jO 7 bR) (kH (L1 L0 c0 d0 Lr) 2) (eF [s0,s1]) Q=Hq aW aE aN aL L0 Lr [s0,s1] (QA (L1 L0 c0 d0 Lr) [s0,s1] Q):=by kernel_rfl
theorem UX (s0 s1 s2:Se):wR e aW aE aN aL (jO 7 bR) (kH (L1 L0 c0 d0 Lr) 3) (eF [s0,s1,s2]) Q=Hq aW aE aN aL L0 Lr [s0,s1,s2] (QA (L1 L0 c0 d0 Lr) [s0,s1,s2] Q):=by kernel_rfl
theorem UY (s0:Se) (l0:L4):wR e aW aE aN aL (jO 3 (fQ 7 bR)) (Eo (L1 L0 c0 d0 Lr) 1 t0 t1) (sG [s0] [l0] q0 q1) Q=aM (qB q0 q1 t0 t1) (Q .ret (sI q0 q1) (sG [s0] [l0] q0 q1)) (mC aN q0 q1 [s0] [l0] Ep false fun m=>Q .norm (qZ (L1 L0 c0 d0 Lr) 1) (qY [s0] [l0] q0 q1 (oW 2 1 false m))):=by kernel_rfl
theorem UZ (s0 s1:Se) (l0 l1:L4):wR e aW aE aN aL (jO 3 (fQ 7 bR)) (Eo (L1 L0 c0 d0 Lr) 2 t0 t1) (sG [s0,s1] [l0,l1] q0 q1) Q=aM (qB q0 q1 t0 t1) (Q .ret (sI q0 q1) (sG [s0,s1] [l0,l1] q0 q1)) (mC aN q0 q1 [s0,s1] [l0,l1] Ep false fun m=>Q .norm (qZ (L1 L0 c0 d0 Lr) 2) (qY [s0,s1] [l0,l1] q0 q1 (oW 2 2 false m))):=by kernel_rfl
theorem Va (s0 s1 s2:Se) (l0 l1 l2:L4):wR e aW aE aN aL (jO 3 (fQ 7 bR)) (Eo (L1 L0 c0 d0 Lr) 3 t0 t1) (sG [s0,s1,s2] [l0,l1,l2] q0 q1) Q=aM (qB q0 q1 t0 t1) (Q .ret (sI q0 q1) (sG [s0,s1,s2] [l0,l1,l2] q0 q1)) (mC aN q0 q1 [s0,s1,s2] [l0,l1,l2] Ep false fun m=>Q .norm (qZ (L1 L0 c0 d0 Lr) 3) (qY [s0,s1,s2] [l0,l1,l2] q0 q1 (oW 2 3 false m))):=by kernel_rfl
theorem Vb (s0:Se) (l0:L4) (b0:Bool):wR e aW aE aN aL (fQ 10 bR) (qZ (L1 L0 c0 d0 Lr) 1) (qY [s0] [l0] q0 q1 (oW 2 1 false [b0])) (QB (cX iN) 5 (eF [s0]).length Rn Q)=Rn (kH (L1 L0 c0 d0 Lr) 1) (eF (iV [s0] false [b0])):=by cases b0<;>kernel_rfl
theorem Vd (s0 s1:Se) (l0 l1:L4) (b0 b1 b2:Bool):wR e aW aE aN aL (fQ 10 bR) (qZ (L1 L0 c0 d0 Lr) 2) (qY [s0,s1] [l0,l1] q0 q1 (oW 2 2 false [b0,b1,b2])) (QB (cX iN) 5 (eF [s0,s1]).length Rn Q)=Rn (kH (L1 L0 c0 d0 Lr) 2) (eF (iV [s0,s1] false [b0,b1,b2])):=by cases b0<;>cases b1<;>cases b2<;>kernel_rfl
theorem Ve (s0 s1 s2:Se) (l0 l1 l2:L4) (b0 b1 b2 b3 b4:Bool):wR e aW aE aN aL (fQ 10 bR) (qZ (L1 L0 c0 d0 Lr) 3) (qY [s0,s1,s2] [l0,l1,l2] q0 q1 (oW 2 3 false [b0,b1,b2,b3,b4])) (QB (cX iN) 5 (eF [s0,s1,s2]).length Rn Q)=Rn (kH (L1 L0 c0 d0 Lr) 3) (eF (iV [s0,s1,s2] false [b0,b1,b2,b3,b4])):=by cases b0<;>cases b1<;>cases b2<;>cases b3<;>cases b4<;>kernel_rfl
end
section
variable (e:Es) (aW:(Int→(Int→Int→Prop)→Prop)) (aE:xA) (aN:qV) (aL:(Int→Int→Int→Int→(Bool→Prop)→Prop))
variable (L0:Int) (c0 d0 Lr:List PV) (Rn:aG→Hp→Prop) (Q:Ex→aG→Hp→Prop) (q0 q1 t0 t1:Int)
theorem Vf (s0 s1 s2 s3:Se):wR e aW aE aN aL (jO 7 bR) (kH (L1 L0 c0 d0 Lr) 4) (eF [s0,s1,s2,s3]) Q=Hq aW aE aN aL L0 Lr [s0,s1,s2,s3] (QA (L1 L0 c0 d0 Lr) [s0,s1,s2,s3] Q):=by kernel_rfl
end
section
variable (e:Es) (aW:(Int→(Int→Int→Prop)→Prop)) (aE:xA) (aN:qV) (aL:(Int→Int→Int→Int→(Bool→Prop)→Prop))
variable (L0:Int) (c0 d0 Lr:List PV) (Rn:aG→Hp→Prop) (Q:Ex→aG→Hp→Prop) (q0 q1 t0 t1:Int)
theorem Vg (s0 s1 s2 s3:Se) (l0 l1 l2 l3:L4):wR e aW aE aN aL (jO 3 (fQ 7 bR)) (Eo (L1 L0 c0 d0 Lr) 4 t0 t1) (sG [s0,s1,s2,s3] [l0,l1,l2,l3] q0 q1) Q=aM (qB q0 q1 t0 t1) (Q .ret (sI q0 q1) (sG [s0,s1,s2,s3] [l0,l1,l2,l3] q0 q1)) (mC aN q0 q1 [s0,s1,s2,s3] [l0,l1,l2,l3] Ep false fun m=>Q .norm (qZ (L1 L0 c0 d0 Lr) 4) (qY [s0,s1,s2,s3] [l0,l1,l2,l3] q0 q1 (oW 2 4 false m))):=by kernel_rfl
end
section
variable (e:Es) (aW:(Int→(Int→Int→Prop)→Prop)) (aE:xA) (aN:qV) (aL:(Int→Int→Int→Int→(Bool→Prop)→Prop))
variable (L0:Int) (c0 d0 Lr:List PV) (Rn:aG→Hp→Prop) (Q:Ex→aG→Hp→Prop) (q0 q1 t0 t1:Int)
theorem yJf (s0 s1 s2 s3:Se) (l0 l1 l2 l3:L4) (b2 b3 b4 b5 b6:Bool):wR e aW aE aN aL (fQ 10 bR) (qZ (L1 L0 c0 d0 Lr) 4) (qY [s0,s1,s2,s3] [l0,l1,l2,l3] q0 q1 (oW 2 4 false [false,false,b2,b3,b4,b5,b6])) (QB (cX iN) 5 (eF [s0,s1,s2,s3]).length Rn Q)=Rn (kH (L1 L0 c0 d0 Lr) 4) (eF (iV [s0,s1,s2,s3] false [false,false,b2,b3,b4,b5,b6])):=by cases b2<;>cases b3<;>cases b4<;>cases b5<;>cases b6<;>kernel_rfl
theorem yJg (s0 s1 s2 s3:Se) (l0 l1 l2 l3:L4) (b2 b3 b4 b5 b6:Bool):wR e aW aE aN aL (fQ 10 bR) (qZ (L1 L0 c0 d0 Lr) 4) (qY [s0,s1,s2,s3] [l0,l1,l2,l3] q0 q1 (oW 2 4 false [false,true,b2,b3,b4,b5,b6])) (QB (cX iN) 5 (eF [s0,s1,s2,s3]).length Rn Q)=Rn (kH (L1 L0 c0 d0 Lr) 4) (eF (iV [s0,s1,s2,s3] false [false,true,b2,b3,b4,b5,b6])):=by cases b2<;>cases b3<;>cases b4<;>cases b5<;>cases b6<;>kernel_rfl
theorem yJh (s0 s1 s2 s3:Se) (l0 l1 l2 l3:L4) (b2 b3 b4 b5 b6:Bool):wR e aW aE aN aL (fQ 10 bR) (qZ (L1 L0 c0 d0 Lr) 4) (qY [s0,s1,s2,s3] [l0,l1,l2,l3] q0 q1 (oW 2 4 false [true,false,b2,b3,b4,b5,b6])) (QB (cX iN) 5 (eF [s0,s1,s2,s3]).length Rn Q)=Rn (kH (L1 L0 c0 d0 Lr) 4) (eF (iV [s0,s1,s2,s3] false [true,false,b2,b3,b4,b5,b6])):=by cases b2<;>cases b3<;>cases b4<;>cases b5<;>cases b6<;>kernel_rfl
theorem yJi (s0 s1 s2 s3:Se) (l0 l1 l2 l3:L4) (b2 b3 b4 b5 b6:Bool):wR e aW aE aN aL (fQ 10 bR) (qZ (L1 L0 c0 d0 Lr) 4) (qY [s0,s1,s2,s3] [l0,l1,l2,l3] q0 q1 (oW 2 4 false [true,true,b2,b3,b4,b5,b6])) (QB (cX iN) 5 (eF [s0,s1,s2,s3]).length Rn Q)=Rn (kH (L1 L0 c0 d0 Lr) 4) (eF (iV [s0,s1,s2,s3] false [true,true,b2,b3,b4,b5,b6])):=by cases b2<;>cases b3<;>cases b4<;>cases b5<;>cases b6<;>kernel_rfl
end
def l4 (x:Ln):L4:=⟨x.A.num,x.A.den,x.B.num,x.B.den⟩
def eG (s:Sq):Se:=⟨s.1.len,aD s.1.cuts,aD s.1.dens,aD (qD s.1),totC s.1.cuts s.1.dens,(s.2.1:Int),(s.2.2:Int)⟩
def kI (L:Int) (s:Sq):Prop:=eI L s.1∧s.1.len=L∧s.2.1<s.1.dens.length∧s.2.2<s.1.dens.length
def mF:List Sq→Ln→List Ln
 | [],_=>[]
 | s::S,x=>bK s x::mF S (bK s x)
def vJ (q:Rat):List Sq→Ln→Bool→List Bool
 | [],_,_=>[]
 | s::S,x,b=>(if b then [decide (wh x (aK s.1 (s.2.1+1))=q)] else [])++decide (wh (bK s x) (aK s.1 (s.2.2+1))=q)::vJ q S (bK s x) true
theorem S7 {L:Int}:∀ {S:List Sq} {x:Ln} {k:Nat} (K:List L4→Prop),(∀ s∈S,kI L s)→LB k x→k+S.length≤4→vH mV (S.map eG) (l4 x) K=K ((mF S x).map l4)
 | [],_,_,_,_,_,_=>rfl
 | s::S,x,k,K,h,hx,hk=>by obtain ⟨h1,h2,h3,h4⟩:=h s (jU ..);have hk':k+(S.length+1)≤4:=hk;show aI (decide ((eG s).up.length=(eG s).up.length)) (aI (decide (0+(eG s).up.length≤(eG s).up.length)) (mV s.1.len (aD s.1.cuts) (aD s.1.dens) (((eG s).up.drop 0).take (eG s).up.length) (totC s.1.cuts s.1.dens) (s.2.1:Int) (s.2.2:Int) x.A.num x.A.den x.B.num x.B.den fun a b c d=>vH mV (S.map eG) ⟨a,b,c,d⟩ fun l=>K (⟨a,b,c,d⟩::l)))=K (l4 (bK s x)::(mF S (bK s x)).map l4);rw [bB rfl,bB (by omega),qJ,ET,h2];refine (yAy h1 h3 h4 hx (by omega) _).trans ?_;exact S7 (S:=S) (x:=bK s x) (k:=k+1) _ (fun t ht=>h t (iY _ ht)) (Kd h1 h3 h4 hx) (by omega)
theorem S8:∀ {S:List Sq} {x:Ln},S≠[]→mD ((mF S x).map l4)=l4 (jL S x)
 | [],_,h=>absurd rfl h
 | [_],_,_=>rfl
 | s::t::S,x,_=>S8 (S:=t::S) (x:=bK s x) (by simp)
theorem NE {L:Int} {c:Ck} {i k:Nat} {x:Ln} (h:eI L c) (hi:i<c.dens.length) (hk:k≤4) (hx:LB k x) (hp:0<x.B) (K:Int→Int→Prop) :
  iT gT (l4 x) (aD c.cuts) (i:Int) K=K (wh x (aK c (i+1))).num (wh x (aK c (i+1))).den:=by
 have l1:=h.1.l1;have l2:=h.1.l2;have e1:=eQ (n:=(i:Int)+1) (by omega) (by omega);have lo:=h.1.lo (i:=i+1) (by omega);have hi':=h.1.hi (i:=i+1) (by omega);have ll:=h.1.len0;unfold iT lE;rw [e1,kD,dZ,bB (by omega),bB (by omega),dR,fP (by omega),fG (by omega)];exact S6 hk hx hp (by omega) (by omega) K
theorem NF {L:Int} {s:Sq} {x:Ln} (h:kI L s) (hB:0≤x.B):0<(bK s x).B:=Hl (den_pos h.1 h.2.2.2) (den_pos h.1 h.2.2.1) (Cq h.1) hB
theorem Vh {L:Int} {c:Ck} {i k:Nat} {x:Ln} (h:eI L c) (hi:i<c.dens.length) (hk:k≤4) (hx:LB k x) (hp:0<x.B):small (wh x (aK c (i+1))):=by have l1:=h.1.l1;have lo:=h.1.lo (i:=i+1) (by omega);have hi':=h.1.hi (i:=i+1) (by omega);have ll:=h.1.len0;exact Kg hk hx hp (by omega) (by omega)
theorem S9 {L:Int}:∀ {S:List Sq} {x:Ln} {k:Nat} {b:Bool} {q:Rat} (K:Int→Int→Prop),(∀ s∈S,kI L s)→LB k x→k+S.length≤4→0≤x.B→(b=true→0<x.B)→small q →
  qA gT gX (S.map eG) ((mF S x).map l4) (l4 x) b q.num q.den K=K (mnS q (jN S x b)).num (mnS q (jN S x b)).den∧small (mnS q (jN S x b))
 | [],_,_,_,_,_,_,_,_,_,_,hq=>⟨rfl,hq⟩
 | s::S,x,k,b,q,K,h,hx,hk,hB,hb,hq=>by
  have hs:=h s (jU ..);obtain ⟨h1,h2,h3,h4⟩:=hs;have hs:=h s (jU ..);have hk':k+(S.length+1)≤4:=hk;have hy:LB (k+1) (bK s x):=Kd h1 h3 h4 hx;have yB:=NF hs hB;have ih:=fun {q:Rat} (hq:small q)=>S9 (S:=S) (x:=bK s x) (k:=k+1) (b:=true) (q:=q) K (fun t ht=>h t (iY _ ht)) hy (by omega) (jV yB) (fun _=>yB) hq
  have sy:=Vh h1 h4 (k:=k+1) (by omega) hy yB;have key:∀ {q:Rat},small q→(iT gT (l4 (bK s x)) (aD s.1.cuts) (s.2.2:Int) fun r0 r1=>gX r0 r1 q.num q.den fun t=>aM t (qA gT gX (S.map eG) ((mF S (bK s x)).map l4) (l4 (bK s x)) true r0 r1 K) (qA gT gX (S.map eG) ((mF S (bK s x)).map l4) (l4 (bK s x)) true q.num q.den K)) =
    K (mnS q (wh (bK s x) (aK s.1 (s.2.2+1))::jN S (bK s x) true)).num (mnS q (wh (bK s x) (aK s.1 (s.2.2+1))::jN S (bK s x) true)).den∧small (mnS q (wh (bK s x) (aK s.1 (s.2.2+1))::jN S (bK s x) true)):=fun {q} hq=>by
   rw [NE h1 h4 (by omega) hy yB,US sy hq,(ih sy).1,(ih hq).1];rw [show ∀ l,mnS q (wh (bK s x) (aK s.1 (s.2.2+1))::l)=mnS (if wh (bK s x) (aK s.1 (s.2.2+1))<q then wh (bK s x) (aK s.1 (s.2.2+1)) else q) l from fun _=>rfl]
   by_cases c:wh (bK s x) (aK s.1 (s.2.2+1))<q
   ·rw [Eb c,bU,WN c];exact ⟨rfl,(ih sy).2⟩
   ·rw [Os c,bN,WO c];exact ⟨rfl,(ih hq).2⟩
  cases b with
  | false=>exact key hq
  | true=>
   have hp:=hb rfl;have sx:=Vh h1 h3 (by omega) hx hp;show (iT gT (l4 x) (aD s.1.cuts) (s.2.1:Int) fun r0 r1=>gX r0 r1 q.num q.den fun t=>aM t _ _)=_∧_;rw [NE h1 h3 (by omega) hx hp,US sx hq];have kx:=key sx;have kq:=key hq;show aM (decide (wh x (aK s.1 (s.2.1+1))<q)) (iT gT (l4 (bK s x)) (aD s.1.cuts) (s.2.2:Int) _) (iT gT (l4 (bK s x)) (aD s.1.cuts) (s.2.2:Int) _)=K (mnS q (wh x (aK s.1 (s.2.1+1))::wh (bK s x) (aK s.1 (s.2.2+1))::jN S (bK s x) true)).num (mnS q (wh x (aK s.1 (s.2.1+1))::wh (bK s x) (aK s.1 (s.2.2+1))::jN S (bK s x) true)).den∧small (mnS q (wh x (aK s.1 (s.2.1+1))::wh (bK s x) (aK s.1 (s.2.2+1))::jN S (bK s x) true));rw [show ∀ l,mnS q (wh x (aK s.1 (s.2.1+1))::l)=mnS (if wh x (aK s.1 (s.2.1+1))<q then wh x (aK s.1 (s.2.1+1)) else q) l from fun _=>rfl]
   by_cases c:wh x (aK s.1 (s.2.1+1))<q
   ·rw [Eb c,bU,WN c];exact kx
   ·rw [Os c,bN,WO c];exact kq
theorem Hr (r q:Rat):qB r.num r.den q.num q.den=decide (r=q):=by
 unfold qB
 by_cases c:r=q
 ·subst c;simp
 ·rw [Os c,Bool.and_true];refine Bool.eq_false_iff.2 fun h=>c ?_
  rw [cU,beq_iff_eq,beq_iff_eq] at h;exact Rat.ext h.1 (by omega)
theorem T3 {L:Int} {q:Rat}:∀ {S:List Sq} {x:Ln} {k:Nat} {b:Bool} (K:List Bool→Prop),(∀ s∈S,kI L s)→LB k x→k+S.length≤4→0≤x.B→(b=true→0<x.B) →
  mC gT q.num q.den (S.map eG) ((mF S x).map l4) (l4 x) b K=K (vJ q S x b)
 | [],_,_,_,_,_,_,_,_,_=>rfl
 | s::S,x,k,b,K,h,hx,hk,hB,hb=>by
  have hs:=h s (jU ..);obtain ⟨h1,h2,h3,h4⟩:=hs;have hs:=h s (jU ..);have hk':k+(S.length+1)≤4:=hk;have hy:LB (k+1) (bK s x):=Kd h1 h3 h4 hx;have yB:=NF hs hB;have ih:=fun (K:List Bool→Prop)=>T3 (q:=q) (S:=S) (x:=bK s x) (k:=k+1) (b:=true) K (fun t ht=>h t (iY _ ht)) hy (by omega) (jV yB) (fun _=>yB)
  have key:∀ K:List Bool→Prop,(iT gT (l4 (bK s x)) (aD s.1.cuts) (s.2.2:Int) fun r0 r1=>aM (qB r0 r1 q.num q.den) (mC gT q.num q.den (S.map eG) ((mF S (bK s x)).map l4) (l4 (bK s x)) true fun m=>K (true::m)) (mC gT q.num q.den (S.map eG) ((mF S (bK s x)).map l4) (l4 (bK s x)) true fun m=>K (false::m))) =
    K (decide (wh (bK s x) (aK s.1 (s.2.2+1))=q)::vJ q S (bK s x) true):=fun K=>by
   rw [NE h1 h4 (by omega) hy yB,Hr,ih,ih]
   cases decide (wh (bK s x) (aK s.1 (s.2.2+1))=q)<;>rfl
  cases b with
  | false=>exact key K
  | true=>
   have hp:=hb rfl;show (iT gT (l4 x) (aD s.1.cuts) (s.2.1:Int) fun r0 r1=>aM (qB r0 r1 q.num q.den) (iT gT (l4 (bK s x)) (aD s.1.cuts) (s.2.2:Int) _) (iT gT (l4 (bK s x)) (aD s.1.cuts) (s.2.2:Int) _))=K (decide (wh x (aK s.1 (s.2.1+1))=q)::decide (wh (bK s x) (aK s.1 (s.2.2+1))=q)::vJ q S (bK s x) true);rw [NE h1 h3 (by omega) hx hp,Hr];have kt:=key fun m=>K (true::m)
   have kf:=key fun m=>K (false::m)
   cases decide (wh x (aK s.1 (s.2.1+1))=q)
   ·exact kf
   ·exact kt
theorem T4 {b:Bool} {n m:Nat} (h:n<m) (hm:m<1000000):(bif b then i64.wrap ((n:Int)+1) else (n:Int))=((n+(if b=true then 1 else 0):Nat):Int):=by
 have e1:=eQ (n:=(n:Int)+1) (by omega) (by omega)
 cases b
 ·rfl
 ·show i64.wrap ((n:Int)+1)=_;rw [e1];rfl
end Go.Pf.Vc
