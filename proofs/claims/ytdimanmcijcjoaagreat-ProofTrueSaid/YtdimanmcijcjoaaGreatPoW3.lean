/- Part 3. -/
import Derived.Test.YtdimanmcijcjoaaGreatPoW2
open Go.IntKind (i64 u8 u64)
open List (length getD take drop replicate set map isEmpty)
noncomputable section
namespace Go.Pf.Vc
open Go Go.Pf
set_option maxRecDepth 100000
def OI (a0:rD) (b c d e:Int) (K:Bool→Prop):Prop:=
 (a0 b c d e (fun f _=>(K (decide (f<0)))))
def yN:bZ:=OI rE
def kW:Sg:=⟨rB,Bool→Prop,fun K=>(fun r0=>K (.bool r0))⟩
def ka (e:Es) (a0:rD):SE:=sE (E e) [(xW,AQ.pw a0)] dJ
theorem kb (e:Es) (a0):bR (ka e a0) 6 VK kW (OI a0):=fun _ _=>by kernel_rfl
theorem WU (e:Es) (he:EG e):bP (E e) (kW.pw yN) FD:=bT he (kb e _) (bK (aQ.uni _) ⟨(Db e he),trivial⟩ trivial he.ok) bH.flat (aW (by kernel_rfl))
abbrev Dk:Type:=Int→Ls→Ls→Int→Int→(Bool→Prop)→Prop
def OJ (a0:gF) (a1:cD) (a2:bZ) (b:Int) (_ _:Ls) (e f:Int) (K:Bool→Prop):Prop:=
 (a0 e f (fun g=>(aB (g==0) (aB (decide (e≥0)) (a1 b (fun h i=>(a2 h i e f (fun j=>(K (!j)))))) (K false)) (K false))))
def AV:Dk:=OJ yE AU yN
def OL:Sg:=⟨(lC kG FW),Bool→Prop,fun K=>(fun r0=>K (.bool r0))⟩
def kc (e:Es) (a0:gF) (a1:cD) (a2:bZ):SE:=sE (E e) [(FA,yF.pw a0),(FC,jX.pw a1),(FD,kW.pw a2)] dJ
theorem kd (e:Es) (a0 a1 a2):bR (kc e a0 a1 a2) 6 VL OL (OJ a0 a1 a2):=fun _ _=>by kernel_rfl
theorem ke (e:Es) (he:EG e):bP (E e) (OL.pw AV) IS:=bT he (kd e _ _ _) (bK (aQ.uni _) ⟨(NO e he),(WT e he),(WU e he),trivial⟩ trivial he.ok) bH.flat (aW (by kernel_rfl))
abbrev AW:Type:=Int→Ls→Ls→J4 ((Int→Int→Int→Prop)→Prop)
def mU (a0:fD) (a1:Dk) (a2:bZ) (a3:cD) (a4 a5 a6:cY) (x0:Int→Int→Int→Prop) (x1:Int→Ls→Ls→J4 (J4 (Ls→Int→Int→Bool→Prop))):Nat→Int→Ls→Ls→J4 (J4 (Ls→Int→Int→Prop))
 | 0,_,_,_,_,_,_,_,_,_,_,_,_,_,_=>False
 | n+1,b,c,d,e,f,g,h,i,j,k,l,m,o,p=>
 (aB (decide (p<o)) (aA (decide (0≤p)) (aA (decide (p<(((length m):Nat):Int))) (aA (aF zI (getD m (p.toNat) .nils)) (aA (decide (0≤(i64.wrap (p+1)))) (aA (decide ((i64.wrap (p+1))<(((length c):Nat):Int))) (aA (aF zI (getD c ((i64.wrap (p+1)).toNat) .nils)) (a3 (aK (getD c ((i64.wrap (p+1)).toNat) .nils)) (fun q r=>(a2 e f q r (fun s=>(aB s (aB ((aK (getD m (p.toNat) .nils))==0) (a2 k l e f (fun t=>(aB t (mU a0 a1 a2 a3 a4 a5 a6 x0 x1 n b c d e f g h i j e f m o (i64.wrap (p+1))) (mU a0 a1 a2 a3 a4 a5 a6 x0 x1 n b c d e f g h i j k l m o (i64.wrap (p+1)))))) (a2 k l e f (fun t=>(aB (!t) (a2 k l e f (fun u=>(aB u (mU a0 a1 a2 a3 a4 a5 a6 x0 x1 n b c d e f g h i j e f m o (i64.wrap (p+1))) (mU a0 a1 a2 a3 a4 a5 a6 x0 x1 n b c d e f g h i j k l m o (i64.wrap (p+1)))))) (a4 e f k l (fun u v w=>(aB (w !=0) (x0 0 0 w) (a3 (aK (getD m (p.toNat) .nils)) (fun z A=>(a5 u v z A (fun B C D=>(aB (D !=0) (x0 0 0 D) (a6 i j B C (fun E F G=>(aB (G !=0) (x0 0 0 G) (mU a0 a1 a2 a3 a4 a5 a6 x0 x1 n b c d e f g h E F e f m o (i64.wrap (p+1)))))))))))))))))) (aB ((aK (getD m (p.toNat) .nils))==0) (a2 k l q r (fun t=>(aB t (mU a0 a1 a2 a3 a4 a5 a6 x0 x1 n b c d e f g h i j q r m o (i64.wrap (p+1))) (mU a0 a1 a2 a3 a4 a5 a6 x0 x1 n b c d e f g h i j k l m o (i64.wrap (p+1)))))) (a2 k l q r (fun t=>(aB (!t) (a2 k l q r (fun u=>(aB u (mU a0 a1 a2 a3 a4 a5 a6 x0 x1 n b c d e f g h i j q r m o (i64.wrap (p+1))) (mU a0 a1 a2 a3 a4 a5 a6 x0 x1 n b c d e f g h i j k l m o (i64.wrap (p+1)))))) (a4 q r k l (fun u v w=>(aB (w !=0) (x0 0 0 w) (a3 (aK (getD m (p.toNat) .nils)) (fun z A=>(a5 u v z A (fun B C D=>(aB (D !=0) (x0 0 0 D) (a6 i j B C (fun E F G=>(aB (G !=0) (x0 0 0 G) (mU a0 a1 a2 a3 a4 a5 a6 x0 x1 n b c d e f g h E F q r m o (i64.wrap (p+1))))))))))))))))))))))))))))) (x1 b c d e f g h i j k l m o p false))
def OM (a0:fD) (a1:Dk) (a2:bZ) (a3:cD) (a4 a5 a6:cY) (b:Int) (c d:Ls) (e f g h:Int) (K:Int→Int→Int→Prop):Prop:=
 (a0 b c d (fun i=>(aB (i !=0) (K 0 0 i) (a1 b c d e f (fun j=>(aB (!j) (K 0 0 2) (a1 b c d g h (fun k=>(aB (!k) (K 0 0 2) (a2 g h e f (fun l=>(aB l (K 0 0 2) (a3 0 (fun m o=>(∃ n:Nat,mU a0 a1 a2 a3 a4 a5 a6 K (fun _ _ _ _ _ _ _ w z _ _ _ _ _ _=>(K w z 0)) n b c d g h 0 0 m o e f d (((length d):Nat):Int) 0)))))))))))))))
def yaY:AW:=OM yaE AV yN AU sS rF ya1
def Jv:Sg:=⟨(lC kG rB),Int→Int→Int→Prop,fun K=>(fun r0 r1 r2=>K (.tup [(.agg [(ic r0),(ic r1)]),(ic r2)]))⟩
def kf (Q:Qx):Int→Int→Int→Prop:=(fun b c d=>Q .ret [(6,.box (.agg [(ic b),(ic c)])),(7,.v (ic d))] [])
def kg (Q:Qx):Int→Ls→Ls→J4 (J4 (Ls→Int→Int→Bool→Prop )):=(fun b c d e f g h i j k l m o p q=>Q (.exit 0) [(3,.box (.agg [(ic b),(.data c),(.data d)])),(5,.box (.agg [(ic e),(ic f)])),(6,.box (.agg [(ic g),(ic h)])),(9,.box (.agg [(ic i),(ic j)])),(10,.box (.agg [(ic k),(ic l)])),(42,.v (.data m)),(43,.v (ic o)),(44,.v (ic p)),(45,.v (.bool q))] [])
def WV (a0:fD) (a1:Dk) (a2:bZ) (a3:cD) (a4 a5 a6:cY) (Q:Qx):List St:=[⟨(pS hN (fX 3 kG (fX 5 qZ (fX 6 qZ (fX 9 qZ (fX 10 qZ (fV 42 vD (fV 43 cF (fV 44 cF fN)))))))) fN),mU a0 a1 a2 a3 a4 a5 a6 (kf Q) (kg Q)⟩]
def WX (a0:fD) (a1:Dk) (a2:bZ) (a3:cD) (a4 a5 a6:cY):LP:=eQ [(85339800,WV a0 a1 a2 a3 a4 a5 a6)]
def ON (e:Es) (a0:fD) (a1:Dk) (a2:bZ) (a3:cD) (a4 a5 a6:cY):SE:=sE (E e) [(xT,sT.pw a0),(IS,OL.pw a1),(FD,kW.pw a2),(FC,jX.pw a3),(IW,jI.pw a4),(FG,jI.pw a5),(AJ,jI.pw a6)] (WX a0 a1 a2 a3 a4 a5 a6)
theorem WY (e:Es) (he:EG e):SEOk (aZ (E e)) (ON e yaE AV yN AU sS rF ya1):=bK (aQ.uni _) ⟨(Dj e he),(ke e he),(WU e he),(WT e he),(WF e he),(Oy e he),(Gc e he),trivial⟩ trivial he.ok
theorem kh (e:Es) (a0 a1 a2 a3 a4 a5 a6):dF (ON e a0 a1 a2 a3 a4 a5 a6) 5 a Ni false (WV a0 a1 a2 a3 a4 a5 a6):=fun _=>⟨fun _=>by kernel_rfl,fun _ _=>by kernel_rfl,trivial⟩
theorem ki (e:Es) (he:EG e):dG (aZ (E e)) (WX yaE AV yN AU sS rF ya1) [] 85339800 (.loop 85339800 Ni):=fun _ _ _=>cJ.st (aQ.uni _) (cM (WY e he) 5) (cS.no _ _) (aW (by kernel_rfl)) (kh e _ _ _ _ _ _ _ _)
theorem kj (e:Es) (a0 a1 a2 a3 a4 a5 a6):bR (ON e a0 a1 a2 a3 a4 a5 a6) 6 Nh Jv (OM a0 a1 a2 a3 a4 a5 a6):=fun _ _=>by kernel_rfl
theorem OO (e:Es) (he:EG e):bP (E e) (Jv.pw yaY) FH:=bT he (kj e _ _ _ _ _ _ _) (WY e he) bH.flat (dA (l:=[(85339800,.loop 85339800 Ni)]) ⟨ki e he,trivial⟩ (by kernel_rfl))
abbrev dE:Type:=Int→Ls→Ls→(Int→Int→Prop)→Prop
def Dl (a0:fD) (x0:Int→Ls→Ls→Int→Ls→Int→Int→Bool→Prop):Nat→Int→Ls→Ls→Int→Ls→Int→Int→Prop
 | 0,_,_,_,_,_,_,_=>False
 | n+1,b,c,d,e,f,g,h=>
 (aB (decide (h<g)) (aA (decide (0≤h)) (aA (decide (h<(((length f):Nat):Int))) (aA (aF zI (getD f (h.toNat) .nils)) (aA (decide (0≤(i64.wrap (h+1)))) (aA (decide ((i64.wrap (h+1))<(((length c):Nat):Int))) (aA (aF zI (getD c ((i64.wrap (h+1)).toNat) .nils)) (aA (decide (0≤h)) (aA (decide (h<(((length c):Nat):Int))) (aA (aF zI (getD c (h.toNat) .nils)) (Dl a0 x0 n b c d (i64.wrap (e+(i64.wrap ((aK (getD f (h.toNat) .nils))*(i64.wrap ((aK (getD c ((i64.wrap (h+1)).toNat) .nils))-(aK (getD c (h.toNat) .nils)))))))) f g (i64.wrap (h+1)))))))))))) (x0 b c d e f g h false))
def Jw (a0:fD) (b:Int) (c d:Ls) (K:Int→Int→Prop):Prop:=
 (a0 b c d (fun e=>(aB (e !=0) (K 0 e) (∃ n:Nat,Dl a0 (fun _ _ _ i _ _ _ _=>(K i 0)) n b c d 0 d (((length d):Nat):Int) 0))))
def bU:dE:=Jw yaE
def sU:Sg:=⟨AT,Int→Int→Prop,fun K=>(fun r0 r1=>K (.tup [(ic r0),(ic r1)]))⟩
def kl (Q:Qx):Int→Ls→Ls→Int→Ls→Int→Int→Bool→Prop:=(fun b c d e f g h i=>Q (.exit 0) [(1,.box (.agg [(ic b),(.data c),(.data d)])),(5,.v (ic e)),(14,.v (.data f)),(15,.v (ic g)),(16,.v (ic h)),(17,.v (.bool i))] [])
def WZ (a0:fD) (Q:Qx):List St:=[⟨(pS hN (fX 1 kG (fV 5 cF (fV 14 vD (fV 15 cF (fV 16 cF fN))))) fN),Dl a0 (kl Q)⟩]
def Xa (a0:fD):LP:=eQ [(45203600,WZ a0)]
def OP (e:Es) (a0:fD):SE:=sE (E e) [(xT,sT.pw a0)] (Xa a0)
theorem Xb (e:Es) (he:EG e):SEOk (aZ (E e)) (OP e yaE):=bK (aQ.uni _) ⟨(Dj e he),trivial⟩ trivial he.ok
theorem km (e:Es) (a0):dF (OP e a0) 5 a Nn false (WZ a0):=fun _=>⟨fun _=>by kernel_rfl,fun _ _=>by kernel_rfl,trivial⟩
theorem ko (e:Es) (he:EG e):dG (aZ (E e)) (Xa yaE) [] 45203600 (.loop 45203600 Nn):=fun _ _ _=>cJ.st (aQ.uni _) (cM (Xb e he) 5) (cS.no _ _) (aW (by kernel_rfl)) (km e _ _)
theorem kp (e:Es) (a0):bR (OP e a0) 6 Nm sU (Jw a0):=fun _ _=>by kernel_rfl
theorem sV (e:Es) (he:EG e):bP (E e) (sU.pw bU) jG:=bT he (kp e _) (Xb e he) bH.flat (dA (l:=[(45203600,.loop 45203600 Nn)]) ⟨ko e he,trivial⟩ (by kernel_rfl))
abbrev dP:Type:=Ls→Ls→(Bool→Prop)→Prop
def uM (x0:Ls→Ls→Int→Int→Bool→Prop) (x1:Bool→Prop):Nat→Ls→Ls→Int→Int→Prop
 | 0,_,_,_,_=>False
 | n+1,b,c,d,e=>
 (aB (decide (e<d)) (aA (decide (0≤e)) (aA (decide (e<(((length b):Nat):Int))) (lt (getD b (e.toNat) .nils) (fun f=>(aA (aF z2 f) (aA (decide (0≤e)) (aA (decide (e<(((length c):Nat):Int))) (lt (getD c (e.toNat) .nils) (fun g=>(aA (aF z2 g) (aB (!(((aK (aP f 0)) ==(aK (aP g 0)))&&(((aK (aP f 1)) ==(aK (aP g 1)))&&true))) (x1 false) (lt (i64.wrap (e+1)) (uM x0 x1 n b c d))))))))))))) (x0 b c d e false))
def Jx (b c:Ls) (K:Bool→Prop):Prop:=
 (aB ((((length b):Nat):Int) !=(((length c):Nat):Int)) (K false) (∃ n:Nat,uM (fun _ _ _ _ _=>(K true)) K n b c (((length b):Nat):Int) 0))
def lJ:dP:=Jx
def rG:Sg:=⟨lI,Bool→Prop,fun K=>(fun r0=>K (.bool r0))⟩
def kr (Q:Qx):Ls→Ls→Int→Int→Bool→Prop:=(fun b c d e f=>Q (.exit 0) [(0,.v (.data b)),(1,.v (.data c)),(12,.v (ic d)),(13,.v (ic e)),(14,.v (.bool f))] [])
def kt (Q:Qx):Bool→Prop:=(fun b=>Q .ret [(4,.v (.bool b))] [])
def Xc (Q:Qx):List St:=[⟨(pS hN (fV 0 vD (fV 1 vD (fV 12 cF (fV 13 cF fN)))) fN),uM (kr Q) (kt Q)⟩]
def Xd:LP:=eQ [(11234800,Xc)]
def OQ (e:Es):SE:=sE (E e) [] (Xd)
theorem Xe (e:Es) (he:EG e):SEOk (aZ (E e)) (OQ e):=bK (aQ.uni _) trivial trivial he.ok
theorem ku (e:Es):dF (OQ e) 5 a NG false (Xc):=fun _=>⟨fun _=>by kernel_rfl,fun _ _=>by kernel_rfl,trivial⟩
theorem kv (e:Es) (he:EG e):dG (aZ (E e)) (Xd) [] 11234800 (.loop 11234800 NG):=fun _ _ _=>cJ.st (aQ.uni _) (cM (Xe e he) 5) (cS.no _ _) (aW (by kernel_rfl)) (ku e _)
theorem kw (e:Es):bR (OQ e) 6 NF rG Jx:=fun _ _=>by kernel_rfl
theorem OR (e:Es) (he:EG e):bP (E e) (rG.pw lJ) AK:=bT he (kw e) (Xe e he) bH.flat (dA (l:=[(11234800,.loop 11234800 NG)]) ⟨kv e he,trivial⟩ (by kernel_rfl))
set_option linter.unusedVariables false
theorem kx (p0:Int) (p1 p2:Ls) (r0:Int) (h:∀ K:Int→Prop,K r0→yaE p0 p1 p2 K) (K:Int→Prop):yaE p0 p1 p2 K=K r0:=
 Aab ⟨fun k=>bX (Dj [] fI) (az:=[(.agg [(ic p0),(.data p1),(.data p2)])]) (x:=(ic r0)) (fun K' k'=>h (fun r0=>K' (ic r0)) k') (K:=fun x=>match x with | (ic r0)=>K r0 | _=>False) k,h K⟩
theorem ky (p0:Int) (p1 p2:Ls) (p3 p4 p5 p6 r0 r1 r2:Int) (h:∀ K:Int→Int→Int→Prop,K r0 r1 r2→yaY p0 p1 p2 p3 p4 p5 p6 K) (K:Int→Int→Int→Prop):yaY p0 p1 p2 p3 p4 p5 p6 K=K r0 r1 r2:=
 Aab ⟨fun k=>bX (OO [] fI) (az:=[(.agg [(ic p0),(.data p1),(.data p2)]),(.agg [(ic p3),(ic p4)]),(.agg [(ic p5),(ic p6)])]) (x:=(.tup [(.agg [(ic r0),(ic r1)]),(ic r2)])) (fun K' k'=>h (fun r0 r1 r2=>K' (.tup [(.agg [(ic r0),(ic r1)]),(ic r2)])) k') (K:=fun x=>match x with | (.tup [(.agg [(ic r0),(ic r1)]),(ic r2)])=>K r0 r1 r2 | _=>False) k,h K⟩
theorem kz (p0:Int) (p1 p2:Ls) (r0 r1:Int) (h:∀ K:Int→Int→Prop,K r0 r1→bU p0 p1 p2 K) (K:Int→Int→Prop):bU p0 p1 p2 K=K r0 r1:=
 Aab ⟨fun k=>bX (sV [] fI) (az:=[(.agg [(ic p0),(.data p1),(.data p2)])]) (x:=(.tup [(ic r0),(ic r1)])) (fun K' k'=>h (fun r0 r1=>K' (.tup [(ic r0),(ic r1)])) k') (K:=fun x=>match x with | (.tup [(ic r0),(ic r1)])=>K r0 r1 | _=>False) k,h K⟩
theorem Xf (p0 p1:Ls) (r0:Bool) (h:∀ K:Bool→Prop,K r0→lJ p0 p1 K) (K:Bool→Prop):lJ p0 p1 K=K r0:=
 Aab ⟨fun k=>bX (OR [] fI) (az:=[(.data p0),(.data p1)]) (x:=(.bool r0)) (fun K' k'=>h (fun r0=>K' (.bool r0)) k') (K:=fun x=>match x with | (.bool r0)=>K r0 | _=>False) k,h K⟩
def OS (a0:rD) (b c d e:Int) (K:Bool→Prop):Prop:=
 (a0 b c d e (fun f g=>(aB (g==0) (K (decide (f<0))) (K false))))
def sW:bZ:=OS rE
def rH:fH:=vA (lC cF (lC cF CX))
def Dm:Sg:=⟨(lC rH lN),Bool→Prop,fun K=>(fun r0=>K (.bool r0))⟩
def lc (e:Es) (a0:rD):SE:=sE (E e) [(xW,AQ.pw a0)] dJ
theorem lf (e:Es) (a0):bR (lc e a0) 6 VF Dm (OS a0):=fun _ _=>by kernel_rfl
theorem Xg (e:Es) (he:EG e):bP (E e) (Dm.pw sW) IQ:=bT he (lf e _) (bK (aQ.uni _) ⟨(Db e he),trivial⟩ trivial he.ok) bH.flat (aW (by kernel_rfl))
def Dn (a0:bZ) (x0:Int→Prop) (x1:Ls→Int→Int→Bool→Prop):Nat→Ls→Int→Int→Prop
 | 0,_,_,_=>False
 | n+1,b,c,d=>
 (aB (decide (d<c)) (aA (decide (0≤d)) (aA (decide (d<(((length b):Nat):Int))) (aA (aF z4 (getD b (d.toNat) .nils)) (a0 (aK (aP (getD b (d.toNat) .nils) 0)) (aK (aP (getD b (d.toNat) .nils) 1)) (aK (aP (getD b (d.toNat) .nils) 2)) (aK (aP (getD b (d.toNat) .nils) 3)) (fun e=>(aB (!e) (x0 8) (Dn a0 x0 x1 n b c (i64.wrap (d+1))))))))) (x1 b c d false))
def OT (a0:bZ) (b:Ls) (K:Int→Prop):Prop:=
 (aB (decide ((((length b):Nat):Int)>60)) (K 4) (∃ n:Nat,Dn a0 K (fun c d e f=>(K 0)) n b (((length b):Nat):Int) 0))
def uN:dS:=OT sW
def lh (Q:Qx):Int→Prop:=(fun b=>Q .ret [(2,.v (ic b))] [])
def lj (Q:Qx):Ls→Int→Int→Bool→Prop:=(fun b c d e=>Q (.exit 0) [(8,.v (.data b)),(9,.v (ic c)),(10,.v (ic d)),(11,.v (.bool e))] [])
def Xh (a0:bZ) (Q:Qx):List St:=[⟨(pS hN (fV 8 vD (fV 9 cF (fV 10 cF fN))) fN),Dn a0 (lh Q) (lj Q)⟩]
def Xi (a0:bZ):LP:=eQ [(56157900,Xh a0)]
def OU (e:Es) (a0:bZ):SE:=sE (E e) [(IQ,Dm.pw a0)] (Xi a0)
theorem Xj (e:Es) (he:EG e):SEOk (aZ (E e)) (OU e sW):=bK (aQ.uni _) ⟨(Xg e he),trivial⟩ trivial he.ok
theorem lk (e:Es) (a0):dF (OU e a0) 5 a MZ false (Xh a0):=fun _=>⟨fun _=>by kernel_rfl,fun _ _=>by kernel_rfl,trivial⟩
theorem ll (e:Es) (he:EG e):dG (aZ (E e)) (Xi sW) [] 56157900 (.loop 56157900 MZ):=fun _ _ _=>cJ.st (aQ.uni _) (cM (Xj e he) 5) (cS.no _ _) (aW (by kernel_rfl)) (lk e _ _)
theorem lm (e:Es) (a0):bR (OU e a0) 6 MY iP (OT a0):=fun _ _=>by kernel_rfl
theorem Xk (e:Es) (he:EG e):bP (E e) (iP.pw uN) IR:=bT he (lm e _) (Xj e he) bH.flat (dA (l:=[(56157900,.loop 56157900 MZ)]) ⟨ll e he,trivial⟩ (by kernel_rfl))
def OV (a0:rD) (b c d e:Int) (K:Int→Prop):Prop:=
 (a0 b c d e (fun f g=>(K f)))
def yaS:gS:=OV rE
def ln (e:Es) (a0:rD):SE:=sE (E e) [(xW,AQ.pw a0)] dJ
theorem lq (e:Es) (a0):bR (ln e a0) 6 VG mT (OV a0):=fun _ _=>by kernel_rfl
theorem OW (e:Es) (he:EG e):bP (E e) (mT.pw yaS) CG:=bT he (lq e _) (bK (aQ.uni _) ⟨(Db e he),trivial⟩ trivial he.ok) bH.flat (aW (by kernel_rfl))
def AX (a0:dS) (a1:gS) (x0:Int→Prop) (x1:Ls→Int→Bool→Prop):Nat→Ls→Int→Prop
 | 0,_,_=>False
 | n+1,b,c=>
 (aB (decide (c<(((length b):Nat):Int))) (aA (decide (0≤(i64.wrap (c-1)))) (aA (decide ((i64.wrap (c-1))<(((length b):Nat):Int))) (aA (aF z4 (getD b ((i64.wrap (c-1)).toNat) .nils)) (aA (decide (0≤c)) (aA (decide (c<(((length b):Nat):Int))) (aA (aF z4 (getD b (c.toNat) .nils)) (a1 (aK (aP (getD b ((i64.wrap (c-1)).toNat) .nils) 2)) (aK (aP (getD b ((i64.wrap (c-1)).toNat) .nils) 3)) (aK (aP (getD b (c.toNat) .nils) 0)) (aK (aP (getD b (c.toNat) .nils) 1)) (fun d=>(aB (decide (d≥0)) (x0 8) (AX a0 a1 x0 x1 n b (i64.wrap (c+1)))))))))))) (x1 b c false))
def OX (a0:dS) (a1:gS) (b:Ls) (K:Int→Prop):Prop:=
 (a0 b (fun c=>(aB (c !=0) (K c) (∃ n:Nat,AX a0 a1 K (fun d e f=>(K 0)) n b 1))))
def yaN:dS:=OX uN yaS
def lr (Q:Qx):Int→Prop:=(fun b=>Q .ret [(2,.v (ic b))] [])
def lu (Q:Qx):Ls→Int→Bool→Prop:=(fun b c d=>Q (.exit 0) [(0,.v (.data b)),(4,.v (ic c)),(13,.v (.bool d))] [])
def Xl (a0:dS) (a1:gS) (Q:Qx):List St:=[⟨(pS hN (fV 0 vD oI) fN),AX a0 a1 (lr Q) (lu Q)⟩]
def Xm (a0:dS) (a1:gS):LP:=eQ [(17365500,Xl a0 a1)]
def OY (e:Es) (a0:dS) (a1:gS):SE:=sE (E e) [(IR,iP.pw a0),(CG,mT.pw a1)] (Xm a0 a1)
theorem Xn (e:Es) (he:EG e):SEOk (aZ (E e)) (OY e uN yaS):=bK (aQ.uni _) ⟨(Xk e he),(OW e he),trivial⟩ trivial he.ok
theorem lv (e:Es) (a0 a1):dF (OY e a0 a1) 5 a Nb false (Xl a0 a1):=fun _=>⟨fun _=>by kernel_rfl,fun _ _=>by kernel_rfl,trivial⟩
theorem lw (e:Es) (he:EG e):dG (aZ (E e)) (Xm uN yaS) [] 17365500 (.loop 17365500 Nb):=fun _ _ _=>cJ.st (aQ.uni _) (cM (Xn e he) 5) (cS.no _ _) (aW (by kernel_rfl)) (lv e _ _ _)
theorem lz (e:Es) (a0 a1):bR (OY e a0 a1) 6 Na iP (OX a0 a1):=fun _ _=>by kernel_rfl
theorem Jy (e:Es) (he:EG e):bP (E e) (iP.pw yaN) CH:=bT he (lz e _ _) (Xn e he) bH.flat (dA (l:=[(17365500,.loop 17365500 Nb)]) ⟨lw e he,trivial⟩ (by kernel_rfl))
abbrev ma:Type:=Int→Ls→Ls→Ls→(Int→Int→Int→Prop)→Prop
def yaK (a0:fD) (a1:dS) (a2:gS) (a3:AW) (a4:cY) (x0:Int→Ls→Ls→J4 (Ls→Int→Int→Bool→Prop)) (x1:Int→Ls→Ls→Int→Int→Int→Prop):Nat→Int→Ls→Ls→J4 (Ls→Int→Int→Prop)
 | 0,_,_,_,_,_,_,_,_,_,_=>False
 | n+1,b,c,d,e,f,g,h,i,j,k=>
 (aB (decide (k<j)) (aA (decide (0≤k)) (aA (decide (k<(((length i):Nat):Int))) (lt (getD i (k.toNat) .nils) (fun l=>(aA (aF z4 l) (a3 b c d (aK (aP l 0)) (aK (aP l 1)) (aK (aP l 2)) (aK (aP l 3)) (fun m o p=>(aB (p !=0) (x1 b c d 0 0 p) (a4 g h m o (fun q r s=>(aB (s !=0) (x1 b c d 0 0 s) (lt (i64.wrap (k+1)) (yaK a0 a1 a2 a3 a4 x0 x1 n b c d e f q r i j))))))))))))) (x0 b c d e f g h i j k false))
def Jz (a0:fD) (a1:dS) (a2:gS) (a3:AW) (a4:cY) (b:Int) (c d e:Ls) (K:Int→Int→Int→Prop):Prop:=
 (a0 b c d (fun f=>(aB (f !=0) (K 0 0 f) (a1 e (fun g=>(aB (g !=0) (K 0 0 g) (jn (fun (a:Bool→Prop)=>(aB (decide ((((length e):Nat):Int)>0)) (aA (decide (0<(((length e):Nat):Int))) (lt (getD e 0 .nils) (fun h=>(aA (aF z4 h) (aB (decide ((aK (aP h 0))<0)) (a true) (lt (i64.wrap ((((length e):Nat):Int)-1)) (fun i=>(aA (decide (0≤i)) (aA (decide (i<(((length e):Nat):Int))) (lt (getD e (i.toNat) .nils) (fun j=>(aA (aF z4 j) (a2 (aK (aP j 2)) (aK (aP j 3)) b 1 (fun k=>(a (decide (k>0))))))))))))))))) (a false))) (fun h=>(aB h (K 0 0 2) (jn (fun (u:Int→Ls→Ls→Int→Int→Int→Prop)=>(∃ n:Nat,yaK a0 a1 a2 a3 a4 (fun i j k l m o p q r s t=>(u i j k o p 0)) u n b c d 0 0 0 1 e (((length e):Nat):Int) 0)) (fun i j k l m o=>(K l m o))))))))))))
def yaW:ma:=Jz yaE yaN yaS yaY ya1
def OZ:Sg:=⟨(lC kG yG),Int→Int→Int→Prop,fun K=>(fun r0 r1 r2=>K (.tup [(.agg [(ic r0),(ic r1)]),(ic r2)]))⟩
def Xo (az:Ls) (K:PV→Prop):Prop:=OZ.pw yaW az K
def mb (Q:Qx):Int→Ls→Ls→J4 (Ls→Int→Int→Bool→Prop ):=(fun b c d e f g h i j k l=>Q (.exit 0) [(1,.v (.fn (.func FI) [] [(.ptr 0 1 0 0)])),(4,.box (.agg [(ic e),(ic f)])),(6,.box (.agg [(ic g),(ic h)])),(12,.v (.data i)),(13,.v (ic j)),(14,.v (ic k)),(15,.v (.bool l))] [⟨false,true,3,([(.agg [(ic b),(.data c),(.data d)])]:Ls)⟩])
def mc (Q:Qx):Int→Ls→Ls→Int→Int→Int→Prop:=(fun b c d e f g=>Q .ret [(4,.box (.agg [(ic e),(ic f)])),(5,.v (ic g))] [⟨false,true,3,([(.agg [(ic b),(.data c),(.data d)])]:Ls)⟩])
def uO:fH:=vP 0 0 (nK 1) (nK 0)
def lK:jE:=lC uO lN
def oJ:Pat aG:=fV 13 cF (fV 14 cF fN)
def Xp (a0:fD) (a1:dS) (a2:gS) (a3:AW) (a4:cY) (Q:Qx):List St:=[⟨(pS (hB false true 3 (rC kG rN) hN) (fV 1 (vF FI lN lK) (fX 4 qZ (fX 6 qZ (fV 12 vD oJ)))) fN),yaK a0 a1 a2 a3 a4 (mb Q) (mc Q)⟩]
def Pa (a0:fD) (a1:dS) (a2:gS) (a3:AW) (a4:cY):LP:=eQ [(87165700,Xp a0 a1 a2 a3 a4)]
def Xq (e:Es) (a0:fD) (a1:dS) (a2:gS) (a3:AW) (a4:cY):SE:=⟨(E e),yeY [(xT,sT.pw a0),(CH,iP.pw a1),(CG,mT.pw a2),(FH,Jv.pw a3),(AJ,jI.pw a4)],yez [(FI,Nj)],Pa a0 a1 a2 a3 a4,fun _=>none⟩
def Xr (e:Es) (a0:fD) (a1:dS) (a2:gS) (a3:AW) (a4:cY):SE:=⟨(E e),yeY [(xT,sT.pw a0),(CH,iP.pw a1),(CG,mT.pw a2),(FH,Jv.pw a3),(AJ,jI.pw a4)],yez [(Va,Nk),(FI,Nj)],Pa a0 a1 a2 a3 a4,fun _=>none⟩
theorem me (e:Es) (he:EG e):SEOk (aZ (E e)) (Xq e yaE yaN yaS yaY ya1):=bK (aQ.uni _) ⟨(Dj e he),(Jy e he),(OW e he),(OO e he),(Gc e he),trivial⟩ ⟨⟨by kernel_rfl,by kernel_rfl,rfl,fun az=>dW (by kernel_rfl) az,he.num _ (by kernel_rfl),by kernel_rfl,(aW (by kernel_rfl))⟩,trivial⟩ he.ok
theorem mf (e:Es) (a0 a1 a2 a3 a4):dF (Xq e a0 a1 a2 a3 a4) 5 a Nl false (Xp a0 a1 a2 a3 a4):=fun _=>⟨fun _=>by kernel_rfl,fun _ _=>by kernel_rfl,trivial⟩
theorem mg (e:Es) (he:EG e):dG (aZ (E e)) (Pa yaE yaN yaS yaY ya1) [] 87165700 (.loop 87165700 Nl):=fun _ _ _=>cJ.st (aQ.uni _) (cM (me e he) 5) (cS.no _ _) (aW (by kernel_rfl)) (mf e _ _ _ _ _ _)
theorem mh (e:Es) (he:EG e):SEOk (aZ (E e)) (Xr e yaE yaN yaS yaY ya1):=bK (aQ.uni _) ⟨(Dj e he),(Jy e he),(OW e he),(OO e he),(Gc e he),trivial⟩ ⟨⟨by kernel_rfl,by kernel_rfl,rfl,fun az=>dW (by kernel_rfl) az,he.num _ (by kernel_rfl),by kernel_rfl,(dA (l:=[(87165700,.loop 87165700 Nl)]) ⟨mg e he,trivial⟩ (by kernel_rfl))⟩,⟨by kernel_rfl,by kernel_rfl,rfl,fun az=>dW (by kernel_rfl) az,he.num _ (by kernel_rfl),by kernel_rfl,(aW (by kernel_rfl))⟩,trivial⟩ he.ok
theorem mi (e:Es) (a0 a1 a2 a3 a4):bR (Xr e a0 a1 a2 a3 a4) 6 VV OZ (Jz a0 a1 a2 a3 a4):=fun _ _=>by kernel_rfl
theorem Pb (e:Es) (he:EG e):bP (E e) (OZ.pw yaW) iO:=bT he (mi e _ _ _ _ _) (mh e he) bH.flat (aW (by kernel_rfl))
set_option linter.unusedVariables false
theorem mj (p0 p1 p2 p3:Int) (r0:Bool) (h:∀ K:Bool→Prop,K r0→sW p0 p1 p2 p3 K) (K:Bool→Prop):sW p0 p1 p2 p3 K=K r0:=
 Aab ⟨fun k=>bX (Xg [] fI) (az:=[(.agg [(ic p0),(ic p1),(ic p2),(ic p3)])]) (x:=(.bool r0)) (fun K' k'=>h (fun r0=>K' (.bool r0)) k') (K:=fun x=>match x with | (.bool r0)=>K r0 | _=>False) k,h K⟩
theorem ml (p0:Ls) (r0:Int) (h:∀ K:Int→Prop,K r0→uN p0 K) (K:Int→Prop):uN p0 K=K r0:=
 Aab ⟨fun k=>bX (Xk [] fI) (az:=[(.data p0)]) (x:=(ic r0)) (fun K' k'=>h (fun r0=>K' (ic r0)) k') (K:=fun x=>match x with | (ic r0)=>K r0 | _=>False) k,h K⟩
theorem mn (p0:Ls) (r0:Int) (h:∀ K:Int→Prop,K r0→yaN p0 K) (K:Int→Prop):yaN p0 K=K r0:=
 Aab ⟨fun k=>bX (Jy [] fI) (az:=[(.data p0)]) (x:=(ic r0)) (fun K' k'=>h (fun r0=>K' (ic r0)) k') (K:=fun x=>match x with | (ic r0)=>K r0 | _=>False) k,h K⟩
theorem Xs (p0:Int) (p1 p2 p3:Ls) (r0 r1 r2:Int) (h:∀ K:Int→Int→Int→Prop,K r0 r1 r2→yaW p0 p1 p2 p3 K) (K:Int→Int→Int→Prop):yaW p0 p1 p2 p3 K=K r0 r1 r2:=
 Aab ⟨fun k=>bX (Pb [] fI) (az:=[(.agg [(ic p0),(.data p1),(.data p2)]),(.data p3)]) (x:=(.tup [(.agg [(ic r0),(ic r1)]),(ic r2)])) (fun K' k'=>h (fun r0 r1 r2=>K' (.tup [(.agg [(ic r0),(ic r1)]),(ic r2)])) k') (K:=fun x=>match x with | (.tup [(.agg [(ic r0),(ic r1)]),(ic r2)])=>K r0 r1 r2 | _=>False) k,h K⟩
abbrev gN:Type:=Ls→Ls→(Int→Prop)→Prop
def Dp (a0:fD) (x0:Int→Prop) (x1:Ls→Ls→Ls→Int→Int→Bool→Prop):Nat→Ls→Ls→Ls→Int→Int→Prop
 | 0,_,_,_,_,_=>False
 | n+1,b,c,d,e,f=>
 (aB (decide (f<e)) (aA (decide (0≤f)) (aA (decide (f<(((length d):Nat):Int))) (aA (aF zK (getD d (f.toNat) .nils)) (a0 (aK (aP (getD d (f.toNat) .nils) 0)) (bL (aP (getD d (f.toNat) .nils) 1)) (bL (aP (getD d (f.toNat) .nils) 2)) (fun g=>(aB (g !=0) (x0 g) (Dp a0 x0 x1 n b c d e (i64.wrap (f+1))))))))) (x1 b c d e f false))
def AY (a0:fD) (x0:Int→Prop) (x1:Ls→Ls→Ls→Int→Int→Bool→Prop):Nat→Ls→Ls→Ls→Int→Int→Prop
 | 0,_,_,_,_,_=>False
 | n+1,b,c,d,e,f=>
 (aB (decide (f<e)) (aA (decide (0≤f)) (aA (decide (f<(((length d):Nat):Int))) (aA (aF zK (getD d (f.toNat) .nils)) (aA (decide (0<(((length b):Nat):Int))) (aA (aF zK (getD b 0 .nils)) (aB ((aK (aP (getD d (f.toNat) .nils) 0)) !=(aK (aP (getD b 0 .nils) 0))) (x0 8) (AY a0 x0 x1 n b c d e (i64.wrap (f+1))))))))) (x1 b c d e f false))
def Pd (a0:fD) (b c:Ls) (K:Int→Prop):Prop:=
 (aB (decide ((((length b):Nat):Int)>6)) (K 4) (aB (decide ((((length c):Nat):Int)>2000)) (K 4) (aB ((((length b):Nat):Int)==0) (K 8) (∃ m0:Nat,Dp a0 K (fun d e f g h i=>(∃ m1:Nat,AY a0 K (fun j k l m o p=>(K 0)) m1 d e d (((length d):Nat):Int) 0)) m0 b c b (((length b):Nat):Int) 0))))
def uP:gN:=Pd yaE
def Dq:Sg:=⟨(lC (vA lI) lN),Int→Prop,fun K=>(fun r0=>K (ic r0))⟩
def mo (Q:Qx):Int→Prop:=(fun b=>Q .ret [(2,.v (ic b))] [])
def mq (Q:Qx):Ls→Ls→Ls→Int→Int→Bool→Prop:=(fun b c d e f g=>Q (.exit 0) [(1,.box (.agg [(.data b),(.data c)])),(23,.v (.data d)),(24,.v (ic e)),(25,.v (ic f)),(26,.v (.bool g))] [])
def mr (Q:Qx):Int→Prop:=(fun b=>Q .ret [(2,.v (ic b))] [])
def ms (Q:Qx):Ls→Ls→Ls→Int→Int→Bool→Prop:=(fun b c d e f g=>Q (.exit 2) [(1,.box (.agg [(.data b),(.data c)])),(36,.v (.data d)),(37,.v (ic e)),(38,.v (ic f)),(39,.v (.bool g))] [])
def Xt (a0:fD) (Q:Qx):List St:=[⟨(pS hN (fX 1 (vA lI) (fV 23 vD (fV 24 cF (fV 25 cF fN)))) fN),Dp a0 (mo Q) (mq Q)⟩]
def Xu (a0:fD) (Q:Qx):List St:=[⟨(pS hN (fX 1 (vA lI) (fV 36 vD (fV 37 cF (fV 38 cF fN)))) fN),AY a0 (mr Q) (ms Q)⟩]
def Pe (a0:fD):LP:=eQ [(12157600,Xt a0),(12157601,Xu a0)]
def JA (e:Es) (a0:fD):SE:=sE (E e) [(xT,sT.pw a0)] (Pe a0)
theorem Pg (e:Es) (he:EG e):SEOk (aZ (E e)) (JA e yaE):=bK (aQ.uni _) ⟨(Dj e he),trivial⟩ trivial he.ok
theorem mu (e:Es) (a0):dF (JA e a0) 5 a MQ false (Xt a0):=fun _=>⟨fun _=>by kernel_rfl,fun _ _=>by kernel_rfl,trivial⟩
theorem mw (e:Es) (he:EG e):dG (aZ (E e)) (Pe yaE) [] 12157600 (.loop 12157600 MQ):=fun _ _ _=>cJ.st (aQ.uni _) (cM (Pg e he) 5) (cS.no _ _) (aW (by kernel_rfl)) (mu e _ _)
theorem my (e:Es) (a0):dF (JA e a0) 5 a MR false (Xu a0):=fun _=>⟨fun _=>by kernel_rfl,fun _ _=>by kernel_rfl,trivial⟩
theorem mz (e:Es) (he:EG e):dG (aZ (E e)) (Pe yaE) [] 12157601 (.loop 12157601 MR):=fun _ _ _=>cJ.st (aQ.uni _) (cM (Pg e he) 5) (cS.no _ _) (aW (by kernel_rfl)) (my e _ _)
theorem nd (e:Es) (a0):bR (JA e a0) 6 Jb Dq (Pd a0):=fun _ _=>by kernel_rfl
theorem Xv (e:Es) (he:EG e):bP (E e) (Dq.pw uP) II:=bT he (nd e _) (Pg e he) bH.flat (dA (l:=[(12157600,.loop 12157600 MQ),(12157601,.loop 12157601 MR)]) ⟨mw e he,mz e he,trivial⟩ (by kernel_rfl))
set_option linter.unusedVariables false
theorem nf (p0 p1:Ls) (r0:Int) (h:∀ K:Int→Prop,K r0→uP p0 p1 K) (K:Int→Prop):uP p0 p1 K=K r0:=
 Aab ⟨fun k=>bX (Xv [] fI) (az:=[(.agg [(.data p0),(.data p1)])]) (x:=(ic r0)) (fun K' k'=>h (fun r0=>K' (ic r0)) k') (K:=fun x=>match x with | (ic r0)=>K r0 | _=>False) k,h K⟩
def Ph (b:Int) (K:Int→Prop):Prop:=
 (aB (decide (b<0)) (K (u64.wrap ((u64.wrap (i64.wrap (0-(i64.wrap (b+1)))))+1))) (K (u64.wrap b)))
def Ge:gB:=Ph
def ng (e:Es):SE:=sE (E e) [] dJ
theorem nh (e:Es):bR (ng e) 6 Vj qY Ph:=fun _ _=>by kernel_rfl
theorem Xw (e:Es) (he:EG e):bP (E e) (qY.pw Ge) Fy:=bT he (nh e) (bK (aQ.uni _) trivial trivial he.ok) bH.flat (aW (by kernel_rfl))
def Gf (x0:Int→Int→Bool→Prop):Nat→Int→Int→Prop
 | 0,_,_=>False
 | n+1,b,c=>
 (aB (c !=0) (aA (!(decide (c=0))) (Gf x0 n c (Int.tmod b c))) (x0 b c false))
def Pi (b c:Int) (K:Int→Prop):Prop:=
 (∃ n:Nat,Gf (fun d e f=>(K d)) n b c)
def Dr:gF:=Pi
def ni (Q:Qx):Int→Int→Bool→Prop:=(fun b c d=>Q (.exit 0) [(0,.v (.int .u64 b)),(1,.v (.int .u64 c)),(6,.v (.bool d))] [])
def Xx (Q:Qx):List St:=[⟨Wm,Gf (ni Q)⟩]
def Xy:LP:=eQ [(16774900,Xx)]
def Pj (e:Es):SE:=sE (E e) [] (Xy)
theorem Xz (e:Es) (he:EG e):SEOk (aZ (E e)) (Pj e):=bK (aQ.uni _) trivial trivial he.ok
theorem nj (e:Es):dF (Pj e) 5 a MA false (Xx):=fun _=>⟨fun _=>by kernel_rfl,fun _ _=>by kernel_rfl,trivial⟩
theorem nk (e:Es) (he:EG e):dG (aZ (E e)) (Xy) [] 16774900 (.loop 16774900 MA):=fun _ _ _=>cJ.st (aQ.uni _) (cM (Xz e he) 5) (cS.no _ _) (aW (by kernel_rfl)) (nj e _)
theorem nm (e:Es):bR (Pj e) 6 Mz uJ Pi:=fun _ _=>by kernel_rfl
theorem XA (e:Es) (he:EG e):bP (E e) (uJ.pw Dr) It:=bT he (nm e) (Xz e he) bH.flat (dA (l:=[(16774900,.loop 16774900 MA)]) ⟨nk e he,trivial⟩ (by kernel_rfl))
def Pk (a0:gB) (a1:gF) (b c:Int) (K:Int→Prop):Prop:=
 (aB (decide (c<1)) (K 8) (aB (decide (c>1000000000000000000)) (K 8) (aB (decide (b<(-1000000000000000000))) (K 8) (aB (decide (b>1000000000000000000)) (K 8) (a0 b (fun d=>(a1 d (u64.wrap c) (fun e=>(aB (e !=1) (K 8) (K 0))))))))))
def Gg:gF:=Pk Ge Dr
def nn (e:Es) (a0:gB) (a1:gF):SE:=sE (E e) [(Fy,qY.pw a0),(It,uJ.pw a1)] dJ
theorem nq (e:Es) (a0 a1):bR (nn e a0 a1) 6 Vk yF (Pk a0 a1):=fun _ _=>by kernel_rfl
theorem XB (e:Es) (he:EG e):bP (E e) (yF.pw Gg) Fz:=bT he (nq e _ _) (bK (aQ.uni _) ⟨(Xw e he),(XA e he),trivial⟩ trivial he.ok) bH.flat (aW (by kernel_rfl))
def Pl (a0:gF) (b c d e:Int) (K:Int→Prop):Prop:=
 (a0 b c (fun f=>(aB (f !=0) (a0 b c K) (a0 d e K))))
def JB:gS:=Pl Gg
def nr (e:Es) (a0:gF):SE:=sE (E e) [(Fz,yF.pw a0)] dJ
theorem ns (e:Es) (a0):bR (nr e a0) 6 Vl mT (Pl a0):=fun _ _=>by kernel_rfl
theorem nu (e:Es) (he:EG e):bP (E e) (mT.pw JB) Iu:=bT he (ns e _) (bK (aQ.uni _) ⟨(XB e he),trivial⟩ trivial he.ok) bH.flat (aW (by kernel_rfl))
def Pm (b c:Int) (K:Int→Int→Prop):Prop:=
 (K (u64.wrap ((u64.wrap ((u64.wrap ((Int.fdiv b 4294967296)*(Int.fdiv c 4294967296)))+(Int.fdiv (u64.wrap ((Int.fdiv b 4294967296)*(u64.wrap (BitVec.ofInt u64.bits c&&&BitVec.ofInt u64.bits 4294967295).toNat))) 4294967296)))+(Int.fdiv (u64.wrap ((u64.wrap ((u64.wrap (BitVec.ofInt u64.bits (u64.wrap ((Int.fdiv b 4294967296)*(u64.wrap (BitVec.ofInt u64.bits c&&&BitVec.ofInt u64.bits 4294967295).toNat)))&&&BitVec.ofInt u64.bits 4294967295).toNat)+(u64.wrap ((u64.wrap (BitVec.ofInt u64.bits b&&&BitVec.ofInt u64.bits 4294967295).toNat)*(Int.fdiv c 4294967296)))))+(Int.fdiv (u64.wrap ((u64.wrap (BitVec.ofInt u64.bits b&&&BitVec.ofInt u64.bits 4294967295).toNat)*(u64.wrap (BitVec.ofInt u64.bits c&&&BitVec.ofInt u64.bits 4294967295).toNat))) 4294967296))) 4294967296))) (u64.wrap (BitVec.ofInt u64.bits (u64.wrap ((u64.wrap ((u64.wrap ((u64.wrap (BitVec.ofInt u64.bits (u64.wrap ((Int.fdiv b 4294967296)*(u64.wrap (BitVec.ofInt u64.bits c&&&BitVec.ofInt u64.bits 4294967295).toNat)))&&&BitVec.ofInt u64.bits 4294967295).toNat)+(u64.wrap ((u64.wrap (BitVec.ofInt u64.bits b&&&BitVec.ofInt u64.bits 4294967295).toNat)*(Int.fdiv c 4294967296)))))+(Int.fdiv (u64.wrap ((u64.wrap (BitVec.ofInt u64.bits b&&&BitVec.ofInt u64.bits 4294967295).toNat)*(u64.wrap (BitVec.ofInt u64.bits c&&&BitVec.ofInt u64.bits 4294967295).toNat))) 4294967296)))*4294967296))|||BitVec.ofInt u64.bits (u64.wrap (BitVec.ofInt u64.bits (u64.wrap ((u64.wrap (BitVec.ofInt u64.bits b&&&BitVec.ofInt u64.bits 4294967295).toNat)*(u64.wrap (BitVec.ofInt u64.bits c&&&BitVec.ofInt u64.bits 4294967295).toNat)))&&&BitVec.ofInt u64.bits 4294967295).toNat)).toNat))
def Gi:sR:=Pm
def Pn:Sg:=⟨uI,Int→Int→Prop,fun K=>(fun r0 r1=>K (.agg [(.int .u64 r0),(.int .u64 r1)]))⟩
def nv (e:Es):SE:=sE (E e) [] dJ
theorem nw (e:Es):bR (nv e) 6 Vm Pn Pm:=fun _ _=>by kernel_rfl
theorem ny (e:Es) (he:EG e):bP (E e) (Pn.pw Gi) Iv:=bT he (nw e) (bK (aQ.uni _) trivial trivial he.ok) bH.flat (aW (by kernel_rfl))
def Pp (b c d e:Int) (K:Bool→Prop):Prop:=
 (aB (decide (b<d)) (K true) (aB (b==d) (K (decide (c<e))) (K false)))
def JC:bZ:=Pp
def Pq:Sg:=⟨(lC (vA uI) (lC (vA uI) lN)),Bool→Prop,fun K=>(fun r0=>K (.bool r0))⟩
def oa (e:Es):SE:=sE (E e) [] dJ
theorem od (e:Es):bR (oa e) 6 Vn Pq Pp:=fun _ _=>by kernel_rfl
theorem oe (e:Es) (he:EG e):bP (E e) (Pq.pw JC) Iw:=bT he (od e) (bK (aQ.uni _) trivial trivial he.ok) bH.flat (aW (by kernel_rfl))
def Pr (a0:gB) (a1:sR) (a2:bZ) (b c d e:Int) (K:Bool→Prop):Prop:=
 (aB ((decide (b<0)) !=(decide (d<0))) (K (decide (b<0))) (a0 b (fun f=>(a1 f (u64.wrap e) (fun g h=>(a0 d (fun i=>(a1 i (u64.wrap c) (fun j k=>(aB (decide (b<0)) (a2 j k g h K) (a2 g h j k K)))))))))))
def rI:bZ:=Pr Ge Gi JC
def og (e:Es) (a0:gB) (a1:sR) (a2:bZ):SE:=sE (E e) [(Fy,qY.pw a0),(Iv,Pn.pw a1),(Iw,Pq.pw a2)] dJ
theorem oi (e:Es) (a0 a1 a2):bR (og e a0 a1 a2) 6 Vo kW (Pr a0 a1 a2):=fun _ _=>by kernel_rfl
theorem Ps (e:Es) (he:EG e):bP (E e) (kW.pw rI) CD:=bT he (oi e _ _ _) (bK (aQ.uni _) ⟨(Xw e he),(ny e he),(oe e he),trivial⟩ trivial he.ok) bH.flat (aW (by kernel_rfl))
def XC (b:Int) (K:Int→Int→Prop):Prop:=
 (K b 1)
def Ds:cD:=XC
def oj (e:Es):SE:=sE (E e) [] dJ
theorem oq (e:Es):bR (oj e) 6 Vq jX XC:=fun _ _=>by kernel_rfl
theorem Pt (e:Es) (he:EG e):bP (E e) (jX.pw Ds) CE:=bT he (oq e) (bK (aQ.uni _) trivial trivial he.ok) bH.flat (aW (by kernel_rfl))
set_option linter.unusedVariables false
theorem ot (p0 p1 r0:Int) (h:∀ K:Int→Prop,K r0→Dr p0 p1 K) (K:Int→Prop):Dr p0 p1 K=K r0:=
 Aab ⟨fun k=>bX (XA [] fI) (az:=[(.int .u64 p0),(.int .u64 p1)]) (x:=(.int .u64 r0)) (fun K' k'=>h (fun r0=>K' (.int .u64 r0)) k') (K:=fun x=>match x with | (.int .u64 r0)=>K r0 | _=>False) k,h K⟩
abbrev Dt:Type:=Int→Ls→Ls→(Bool→Prop)→Prop
def Pu (b:Int) (c d:Ls) (K:Bool→Prop):Prop:=
 (aB (decide ((((length c):Nat):Int)>60)) (K true) (K (decide ((((length d):Nat):Int)>60))))
def AZ:Dt:=Pu
def Pv:Sg:=⟨AT,Bool→Prop,fun K=>(fun r0=>K (.bool r0))⟩
def ou (e:Es):SE:=sE (E e) [] dJ
theorem ov (e:Es):bR (ou e) 6 Vi Pv Pu:=fun _ _=>by kernel_rfl
theorem ow (e:Es) (he:EG e):bP (E e) (Pv.pw AZ) Io:=bT he (ov e) (bK (aQ.uni _) trivial trivial he.ok) bH.flat (aW (by kernel_rfl))
def Ba (x0:Int→Prop) (x1:Int→Ls→Ls→Bool→Int→Bool→Prop):Nat→Int→Ls→Ls→Bool→Int→Prop
 | 0,_,_,_,_,_=>False
 | n+1,b,c,d,e,f=>
 (aB (decide (f<(((length d):Nat):Int))) (aA (decide (0≤(i64.wrap (f+1)))) (aA (decide ((i64.wrap (f+1))<(((length c):Nat):Int))) (aA (aF zI (getD c ((i64.wrap (f+1)).toNat) .nils)) (aA (decide (0≤f)) (aA (decide (f<(((length c):Nat):Int))) (aA (aF zI (getD c (f.toNat) .nils)) (aB (decide ((aK (getD c ((i64.wrap (f+1)).toNat) .nils))≤(aK (getD c (f.toNat) .nils)))) (x0 8) (aA (decide (0≤f)) (aA (decide (f<(((length d):Nat):Int))) (aA (aF zI (getD d (f.toNat) .nils)) (aB (decide ((aK (getD d (f.toNat) .nils))<0)) (x0 8) (aA (decide (0≤f)) (aA (decide (f<(((length d):Nat):Int))) (aA (aF zI (getD d (f.toNat) .nils)) (aB (decide ((aK (getD d (f.toNat) .nils))>12)) (x0 8) (aB e (Ba x0 x1 n b c d true (i64.wrap (f+1))) (aA (decide (0≤f)) (aA (decide (f<(((length d):Nat):Int))) (aA (aF zI (getD d (f.toNat) .nils)) (Ba x0 x1 n b c d (decide ((aK (getD d (f.toNat) .nils))>0)) (i64.wrap (f+1)))))))))))))))))))))) (x1 b c d e f false))
def Pw (b:Int) (c d:Ls) (K:Int→Prop):Prop:=
 (aB (decide (b>1000)) (K 4) (aB (decide ((((length c):Nat):Int)>40)) (K 4) (aB (decide (b<1)) (K 8) (aB (decide ((((length c):Nat):Int)<2)) (K 8) (aB ((((length d):Nat):Int) !=(i64.wrap ((((length c):Nat):Int)-1))) (K 8) (aA (decide (0<(((length c):Nat):Int))) (aA (aF zI (getD c 0 .nils)) (aB ((aK (getD c 0 .nils)) !=0) (K 8) (aA (decide (0≤(i64.wrap ((((length c):Nat):Int)-1)))) (aA (decide ((i64.wrap ((((length c):Nat):Int)-1))<(((length c):Nat):Int))) (aA (aF zI (getD c ((i64.wrap ((((length c):Nat):Int)-1)).toNat) .nils)) (aB ((aK (getD c ((i64.wrap ((((length c):Nat):Int)-1)).toNat) .nils)) !=b) (K 8) (∃ n:Nat,Ba K (fun e f g h i j=>(aB (!h) (K 8) (K 0))) n b c d false 0)))))))))))))
def pR:fD:=Pw
def oz (Q:Qx):Int→Prop:=(fun b=>Q .ret [(2,.v (ic b))] [])
def pd (Q:Qx):Int→Ls→Ls→Bool→Int→Bool→Prop:=(fun b c d e f g=>Q (.exit 0) [(1,.box (.agg [(ic b),(.data c),(.data d)])),(3,.v (.bool e)),(4,.v (ic f)),(57,.v (.bool g))] [])
def XD (Q:Qx):List St:=[⟨(pS hN (fX 1 kG (fV 3 vB oI)) fN),Ba (oz Q) (pd Q)⟩]
def XE:LP:=eQ [(94526800,XD)]
def Px (e:Es):SE:=sE (E e) [] (XE)
theorem XF (e:Es) (he:EG e):SEOk (aZ (E e)) (Px e):=bK (aQ.uni _) trivial trivial he.ok
theorem pe (e:Es):dF (Px e) 5 a Mw false (XD):=fun _=>⟨fun _=>by kernel_rfl,fun _ _=>by kernel_rfl,trivial⟩
theorem pf (e:Es) (he:EG e):dG (aZ (E e)) (XE) [] 94526800 (.loop 94526800 Mw):=fun _ _ _=>cJ.st (aQ.uni _) (cM (XF e he) 5) (cS.no _ _) (aW (by kernel_rfl)) (pe e _)
theorem pg (e:Es):bR (Px e) 6 Mv sT Pw:=fun _ _=>by kernel_rfl
theorem XG (e:Es) (he:EG e):bP (E e) (sT.pw pR) Ir:=bT he (pg e) (XF e he) bH.flat (dA (l:=[(94526800,.loop 94526800 Mw)]) ⟨pf e he,trivial⟩ (by kernel_rfl))
abbrev Du:Type:=Int→Int→Int→(Bool→Prop)→Prop
def Py (a0:gF) (a1:cD) (a2:bZ) (b c d:Int) (K:Bool→Prop):Prop:=
 (a0 c d (fun e=>(aB (e==0) (aB (decide (c≥0)) (a1 b (fun f g=>(a2 f g c d (fun h=>(K (!h)))))) (K false)) (K false))))
def Bb:Du:=Py Gg Ds rI
def Pz:Sg:=⟨(lC cF FW),Bool→Prop,fun K=>(fun r0=>K (.bool r0))⟩
def ph (e:Es) (a0:gF) (a1:cD) (a2:bZ):SE:=sE (E e) [(Fz,yF.pw a0),(CE,jX.pw a1),(CD,kW.pw a2)] dJ
theorem pi (e:Es) (a0 a1 a2):bR (ph e a0 a1 a2) 6 Vr Pz (Py a0 a1 a2):=fun _ _=>by kernel_rfl
theorem pj (e:Es) (he:EG e):bP (E e) (Pz.pw Bb) Iz:=bT he (pi e _ _ _) (bK (aQ.uni _) ⟨(XB e he),(Pt e he),(Ps e he),trivial⟩ trivial he.ok) bH.flat (aW (by kernel_rfl))
set_option linter.unusedVariables false
theorem pk (p0:Int) (p1 p2:Ls) (r0:Int) (h:∀ K:Int→Prop,K r0→pR p0 p1 p2 K) (K:Int→Prop):pR p0 p1 p2 K=K r0:=
 Aab ⟨fun k=>bX (XG [] fI) (az:=[(.agg [(ic p0),(.data p1),(.data p2)])]) (x:=(ic r0)) (fun K' k'=>h (fun r0=>K' (ic r0)) k') (K:=fun x=>match x with | (ic r0)=>K r0 | _=>False) k,h K⟩
abbrev Bc:Type:=Ls→(Bool→Prop)→Prop
def Dv (a0:Dt) (x0:Bool→Prop) (x1:Ls→Int→Bool→Prop):Nat→Ls→Int→Prop
 | 0,_,_=>False
 | n+1,b,c=>
 (aB (decide (c<(((length b):Nat):Int))) (aA (decide (0≤c)) (aA (decide (c<(((length b):Nat):Int))) (aA (aF zK (getD b (c.toNat) .nils)) (a0 (aK (aP (getD b (c.toNat) .nils) 0)) (bL (aP (getD b (c.toNat) .nils) 1)) (bL (aP (getD b (c.toNat) .nils) 2)) (fun d=>(aB d (x0 true) (Dv a0 x0 x1 n b (i64.wrap (c+1))))))))) (x1 b c false))
def PA (a0:Dt) (b:Ls) (K:Bool→Prop):Prop:=
 (∃ n:Nat,Dv a0 K (fun c d e=>(K (decide ((((length c):Nat):Int)>10)))) n b 0)
def rJ:Bc:=PA AZ
def Dw:Sg:=⟨yG,Bool→Prop,fun K=>(fun r0=>K (.bool r0))⟩
def pl (Q:Qx):Bool→Prop:=(fun b=>Q .ret [(2,.v (.bool b))] [])
def pm (Q:Qx):Ls→Int→Bool→Prop:=(fun b c d=>Q (.exit 0) [(0,.v (.data b)),(3,.v (ic c)),(7,.v (.bool d))] [])
def Gj:Pat pO:=pS hN (fV 0 vD (fV 3 cF fN)) fN
def XH (a0:Dt) (Q:Qx):List St:=[⟨Gj,Dv a0 (pl Q) (pm Q)⟩]
def XI (a0:Dt):LP:=eQ [(4277600,XH a0)]
def PB (e:Es) (a0:Dt):SE:=sE (E e) [(Io,Pv.pw a0)] (XI a0)
theorem XJ (e:Es) (he:EG e):SEOk (aZ (E e)) (PB e AZ):=bK (aQ.uni _) ⟨(ow e he),trivial⟩ trivial he.ok
theorem po (e:Es) (a0):dF (PB e a0) 5 a Ms false (XH a0):=fun _=>⟨fun _=>by kernel_rfl,fun _ _=>by kernel_rfl,trivial⟩
theorem pp (e:Es) (he:EG e):dG (aZ (E e)) (XI AZ) [] 4277600 (.loop 4277600 Ms):=fun _ _ _=>cJ.st (aQ.uni _) (cM (XJ e he) 5) (cS.no _ _) (aW (by kernel_rfl)) (po e _ _)
theorem pq (e:Es) (a0):bR (PB e a0) 6 Mr Dw (PA a0):=fun _ _=>by kernel_rfl
theorem XK (e:Es) (he:EG e):bP (E e) (Dw.pw rJ) Ip:=bT he (pq e _) (XJ e he) bH.flat (dA (l:=[(4277600,.loop 4277600 Ms)]) ⟨pp e he,trivial⟩ (by kernel_rfl))
def Dx (a0:fD) (x0:Int→Prop) (x1:Ls→Ls→Int→Bool→Prop):Nat→Ls→Ls→Int→Prop
 | 0,_,_,_=>False
 | n+1,b,c,d=>
 (aB (decide (d<(((length b):Nat):Int))) (aA (decide (0≤d)) (aA (decide (d<(((length b):Nat):Int))) (aA (aF zK (getD b (d.toNat) .nils)) (a0 (aK (aP (getD b (d.toNat) .nils) 0)) (bL (aP (getD b (d.toNat) .nils) 1)) (bL (aP (getD b (d.toNat) .nils) 2)) (fun e=>(aB (e !=0) (aA (decide (0≤d)) (aA (decide (d<(((length b):Nat):Int))) (aA (aF zK (getD b (d.toNat) .nils)) (a0 (aK (aP (getD b (d.toNat) .nils) 0)) (bL (aP (getD b (d.toNat) .nils) 1)) (bL (aP (getD b (d.toNat) .nils) 2)) x0)))) (Dx a0 x0 x1 n b c (i64.wrap (d+1))))))))) (x1 b c d false))
def Bd (a0:fD) (x0:Int→Prop) (x1:Ls→Ls→Int→Bool→Prop):Nat→Ls→Ls→Int→Prop
 | 0,_,_,_=>False
 | n+1,b,c,d=>
 (aB (decide (d<(((length b):Nat):Int))) (aA (decide (0≤d)) (aA (decide (d<(((length b):Nat):Int))) (aA (aF zK (getD b (d.toNat) .nils)) (aA (decide (0<(((length b):Nat):Int))) (aA (aF zK (getD b 0 .nils)) (aB ((aK (aP (getD b (d.toNat) .nils) 0)) !=(aK (aP (getD b 0 .nils) 0))) (x0 8) (Bd a0 x0 x1 n b c (i64.wrap (d+1))))))))) (x1 b c d false))
def PC (a0:fD) (b c:Ls) (K:Int→Prop):Prop:=
 (aB (decide ((((length b):Nat):Int)>6)) (K 4) (aB (decide ((((length c):Nat):Int)>2000)) (K 4) (aB ((((length b):Nat):Int)==0) (K 8) (∃ m0:Nat,Dx a0 K (fun d e f g=>(∃ m1:Nat,Bd a0 K (fun h i j k=>(K 0)) m1 d e 0)) m0 b c 0))))
def uQ:gN:=PC pR
def px (Q:Qx):Int→Prop:=(fun b=>Q .ret [(2,.v (ic b))] [])
def py (Q:Qx):Ls→Ls→Int→Bool→Prop:=(fun b c d e=>Q (.exit 0) [(1,.box (.agg [(.data b),(.data c)])),(3,.v (ic d)),(23,.v (.bool e))] [])
def pz (Q:Qx):Int→Prop:=(fun b=>Q .ret [(2,.v (ic b))] [])
def qa (Q:Qx):Ls→Ls→Int→Bool→Prop:=(fun b c d e=>Q (.exit 2) [(1,.box (.agg [(.data b),(.data c)])),(4,.v (ic d)),(43,.v (.bool e))] [])
def XL (a0:fD) (Q:Qx):List St:=[⟨(pS hN (fX 1 (vA lI) (fV 3 cF fN)) fN),Dx a0 (px Q) (py Q)⟩]
def XM (a0:fD) (Q:Qx):List St:=[⟨(pS hN (fX 1 (vA lI) oI) fN),Bd a0 (pz Q) (qa Q)⟩]
def PD (a0:fD):LP:=eQ [(6981300,XL a0),(6981301,XM a0)]
def JD (e:Es) (a0:fD):SE:=sE (E e) [(Ir,sT.pw a0)] (PD a0)
theorem PE (e:Es) (he:EG e):SEOk (aZ (E e)) (JD e pR):=bK (aQ.uni _) ⟨(XG e he),trivial⟩ trivial he.ok
theorem qb (e:Es) (a0):dF (JD e a0) 5 a Mx false (XL a0):=fun _=>⟨fun _=>by kernel_rfl,fun _ _=>by kernel_rfl,trivial⟩
theorem qc (e:Es) (he:EG e):dG (aZ (E e)) (PD pR) [] 6981300 (.loop 6981300 Mx):=fun _ _ _=>cJ.st (aQ.uni _) (cM (PE e he) 5) (cS.no _ _) (aW (by kernel_rfl)) (qb e _ _)
theorem qd (e:Es) (a0):dF (JD e a0) 5 a My false (XM a0):=fun _=>⟨fun _=>by kernel_rfl,fun _ _=>by kernel_rfl,trivial⟩
theorem qe (e:Es) (he:EG e):dG (aZ (E e)) (PD pR) [] 6981301 (.loop 6981301 My):=fun _ _ _=>cJ.st (aQ.uni _) (cM (PE e he) 5) (cS.no _ _) (aW (by kernel_rfl)) (qd e _ _)
theorem qf (e:Es) (a0):bR (JD e a0) 6 IZ Dq (PC a0):=fun _ _=>by kernel_rfl
theorem XN (e:Es) (he:EG e):bP (E e) (Dq.pw uQ) Is:=bT he (qf e _) (PE e he) bH.flat (dA (l:=[(6981300,.loop 6981300 Mx),(6981301,.loop 6981301 My)]) ⟨qc e he,qe e he,trivial⟩ (by kernel_rfl))
set_option linter.unusedVariables false
theorem qg (p0:Ls) (r0:Bool) (h:∀ K:Bool→Prop,K r0→rJ p0 K) (K:Bool→Prop):rJ p0 K=K r0:=
 Aab ⟨fun k=>bX (XK [] fI) (az:=[(.data p0)]) (x:=(.bool r0)) (fun K' k'=>h (fun r0=>K' (.bool r0)) k') (K:=fun x=>match x with | (.bool r0)=>K r0 | _=>False) k,h K⟩
theorem qh (p0 p1:Ls) (r0:Int) (h:∀ K:Int→Prop,K r0→uQ p0 p1 K) (K:Int→Prop):uQ p0 p1 K=K r0:=
 Aab ⟨fun k=>bX (XN [] fI) (az:=[(.agg [(.data p0),(.data p1)])]) (x:=(ic r0)) (fun K' k'=>h (fun r0=>K' (ic r0)) k') (K:=fun x=>match x with | (ic r0)=>K r0 | _=>False) k,h K⟩
def PF (b:Ls) (K:Bool→Prop):Prop:=
 (jn (fun (a:Bool→Prop)=>(aB (decide ((((length b):Nat):Int)>20)) (aB (decide ((((length b):Nat):Int)≤60)) (a true) (a (decide ((((length b):Nat):Int)>70)))) (a (decide ((((length b):Nat):Int)>70))))) K)
def yO:Bc:=PF
def qi (e:Es):SE:=sE (E e) [] dJ
theorem qj (e:Es):bR (qi e) 6 Vh Dw PF:=fun _ _=>by kernel_rfl
theorem qk (e:Es) (he:EG e):bP (E e) (Dw.pw yO) Im:=bT he (qj e) (bK (aQ.uni _) trivial trivial he.ok) bH.flat (aW (by kernel_rfl))
def Dy (a0 a1:Bc) (x0:Ls→Ls→Int→Bool→Prop) (x1:Bool→Prop):Nat→Ls→Ls→Int→Prop
 | 0,_,_,_=>False
 | n+1,b,c,d=>
 (aB (decide (d<(((length c):Nat):Int))) (aA (decide (0≤d)) (aA (decide (d<(((length c):Nat):Int))) (lt (getD c (d.toNat) .nils) (fun e=>(aA (aF zD e) (a0 (bL e) (fun f=>(aB f (x1 true) (lt (i64.wrap (d+1)) (Dy a0 a1 x0 x1 n b c)))))))))) (x0 b c d false))
def PG (a0 a1:Bc) (b c:Ls) (K:Bool→Prop):Prop:=
 (∃ n:Nat,Dy a0 a1 (fun d e f g=>(jn (fun (a:Bool→Prop)=>(a1 d (fun h=>(aB h (a true) (a (decide ((((length e):Nat):Int)>10))))))) K)) K n b c 0)
def Dz:dP:=PG yO rJ
def jJ:fH:=vA yG
def uR:jE:=lC vD (lC jJ lN)
def DA:Sg:=⟨uR,Bool→Prop,fun K=>(fun r0=>K (.bool r0))⟩
def ql (Q:Qx):Ls→Ls→Int→Bool→Prop:=(fun b c d e=>Q (.exit 0) [(0,.v (.data b)),(3,.box (.agg [(.data c)])),(5,.v (ic d)),(10,.v (.bool e))] [])
def qm (Q:Qx):Bool→Prop:=(fun b=>Q .ret [(4,.v (.bool b))] [])
def XO (a0 a1:Bc) (Q:Qx):List St:=[⟨(pS hN (fV 0 vD (fX 3 jJ (fV 5 cF fN))) fN),Dy a0 a1 (ql Q) (qm Q)⟩]
def XP (a0 a1:Bc):LP:=eQ [(69508200,XO a0 a1)]
def PH (e:Es) (a0 a1:Bc):SE:=sE (E e) [(Im,Dw.pw a0),(Ip,Dw.pw a1)] (XP a0 a1)
theorem XQ (e:Es) (he:EG e):SEOk (aZ (E e)) (PH e yO rJ):=bK (aQ.uni _) ⟨(qk e he),(XK e he),trivial⟩ trivial he.ok
theorem qn (e:Es) (a0 a1):dF (PH e a0 a1) 5 a Mu false (XO a0 a1):=fun _=>⟨fun _=>by kernel_rfl,fun _ _=>by kernel_rfl,trivial⟩
theorem qo (e:Es) (he:EG e):dG (aZ (E e)) (XP yO rJ) [] 69508200 (.loop 69508200 Mu):=fun _ _ _=>cJ.st (aQ.uni _) (cM (XQ e he) 5) (cS.no _ _) (aW (by kernel_rfl)) (qn e _ _ _)
theorem qp (e:Es) (a0 a1):bR (PH e a0 a1) 6 Mt DA (PG a0 a1):=fun _ _=>by kernel_rfl
theorem XS (e:Es) (he:EG e):bP (E e) (DA.pw Dz) Iq:=bT he (qp e _ _) (XQ e he) bH.flat (dA (l:=[(69508200,.loop 69508200 Mu)]) ⟨qo e he,trivial⟩ (by kernel_rfl))
def PI (a0:gS) (a1:bZ) (b c d e:Int) (K:Bool→Prop):Prop:=
 (jn (fun (a:Bool→Prop)=>(a0 b c d e (fun f=>(aB (f==0) (a1 b c d e a) (a false))))) K)
def yP:bZ:=PI JB rI
def qq (e:Es) (a0:gS) (a1:bZ):SE:=sE (E e) [(Iu,mT.pw a0),(CD,kW.pw a1)] dJ
theorem qr (e:Es) (a0 a1):bR (qq e a0 a1) 6 Vp Dm (PI a0 a1):=fun _ _=>by kernel_rfl
theorem qu (e:Es) (he:EG e):bP (E e) (Dm.pw yP) Ix:=bT he (qr e _ _) (bK (aQ.uni _) ⟨(nu e he),(Ps e he),trivial⟩ trivial he.ok) bH.flat (aW (by kernel_rfl))
def DB (a0 a1:bZ) (x0:Ls→Int→Bool→Prop) (x1:Int→Prop):Nat→Ls→Int→Prop
 | 0,_,_=>False
 | n+1,b,c=>
 (aB (decide (c<(((length b):Nat):Int))) (jn (fun (a:Bool→Prop)=>(aA (decide (0≤c)) (aA (decide (c<(((length b):Nat):Int))) (lt (getD b (c.toNat) .nils) (fun d=>(aA (aF z4 d) (a0 (aK (aP d 0)) (aK (aP d 1)) (aK (aP d 2)) (aK (aP d 3)) (fun e=>(aB (!e) (a true) (aB (decide (c>0)) (lt (i64.wrap (c-1)) (fun f=>(aA (decide (0≤f)) (aA (decide (f<(((length b):Nat):Int))) (lt (getD b (f.toNat) .nils) (fun g=>(aA (aF z4 g) (aA (decide (0≤c)) (aA (decide (c<(((length b):Nat):Int))) (lt (getD b (c.toNat) .nils) (fun h=>(aA (aF z4 h) (a1 (aK (aP g 2)) (aK (aP g 3)) (aK (aP h 0)) (aK (aP h 1)) (fun i=>(a (!i)))))))))))))))) (a false))))))))))) (fun d=>(aB d (x1 8) (lt (i64.wrap (c+1)) (DB a0 a1 x0 x1 n b))))) (x0 b c false))
def PJ (a0 a1:bZ) (b:Ls) (K:Int→Prop):Prop:=
 (aB (decide ((((length b):Nat):Int)>60)) (K 4) (∃ n:Nat,DB a0 a1 (fun c d e=>(K 0)) K n b 0))
def rK:dS:=PJ yP rI
def qv (Q:Qx):Ls→Int→Bool→Prop:=(fun b c d=>Q (.exit 0) [(0,.v (.data b)),(3,.v (ic c)),(10,.v (.bool d))] [])
def qw (Q:Qx):Int→Prop:=(fun b=>Q .ret [(2,.v (ic b))] [])
def XT (a0 a1:bZ) (Q:Qx):List St:=[⟨Gj,DB a0 a1 (qv Q) (qw Q)⟩]
def XU (a0 a1:bZ):LP:=eQ [(754900,XT a0 a1)]
def PK (e:Es) (a0 a1:bZ):SE:=sE (E e) [(Ix,Dm.pw a0),(CD,kW.pw a1)] (XU a0 a1)
theorem XV (e:Es) (he:EG e):SEOk (aZ (E e)) (PK e yP rI):=bK (aQ.uni _) ⟨(qu e he),(Ps e he),trivial⟩ trivial he.ok
theorem qx (e:Es) (a0 a1):dF (PK e a0 a1) 5 a MC false (XT a0 a1):=fun _=>⟨fun _=>by kernel_rfl,fun _ _=>by kernel_rfl,trivial⟩
theorem qy (e:Es) (he:EG e):dG (aZ (E e)) (XU yP rI) [] 754900 (.loop 754900 MC):=fun _ _ _=>cJ.st (aQ.uni _) (cM (XV e he) 5) (cS.no _ _) (aW (by kernel_rfl)) (qx e _ _ _)
theorem qz (e:Es) (a0 a1):bR (PK e a0 a1) 6 MB iP (PJ a0 a1):=fun _ _=>by kernel_rfl
theorem XW (e:Es) (he:EG e):bP (E e) (iP.pw rK) Iy:=bT he (qz e _ _) (XV e he) bH.flat (dA (l:=[(754900,.loop 754900 MC)]) ⟨qy e he,trivial⟩ (by kernel_rfl))
abbrev yQ:Type:=Int→Ls→(Bool→Prop)→Prop
def DC (a0:Du) (x0:Int→Ls→Int→Bool→Prop) (x1:Bool→Prop):Nat→Int→Ls→Int→Prop
 | 0,_,_,_=>False
 | n+1,b,c,d=>
 (aB (decide (d<(((length c):Nat):Int))) (jn (fun (a:Bool→Prop)=>(aA (decide (0≤d)) (aA (decide (d<(((length c):Nat):Int))) (lt (getD c (d.toNat) .nils) (fun e=>(aA (aF z4 e) (a0 b (aK (aP e 0)) (aK (aP e 1)) (fun f=>(aB (!f) (a true) (aA (decide (0≤d)) (aA (decide (d<(((length c):Nat):Int))) (lt (getD c (d.toNat) .nils) (fun g=>(aA (aF z4 g) (a0 b (aK (aP g 2)) (aK (aP g 3)) (fun h=>(a (!h)))))))))))))))))) (fun e=>(aB e (x1 false) (lt (i64.wrap (d+1)) (DC a0 x0 x1 n b c))))) (x0 b c d false))
def PL (a0:Du) (b:Int) (c:Ls) (K:Bool→Prop):Prop:=
 (∃ n:Nat,DC a0 (fun d e f g=>(K true)) K n b c 0)
def rL:yQ:=PL Bb
def PM:Sg:=⟨(lC cF yG),Bool→Prop,fun K=>(fun r0=>K (.bool r0))⟩
def ra (Q:Qx):Int→Ls→Int→Bool→Prop:=(fun b c d e=>Q (.exit 0) [(0,.v (ic b)),(1,.v (.data c)),(5,.v (ic d)),(9,.v (.bool e))] [])
def re (Q:Qx):Bool→Prop:=(fun b=>Q .ret [(4,.v (.bool b))] [])
def XX (a0:Du) (Q:Qx):List St:=[⟨(pS hN (fV 0 cF (fV 1 vD (fV 5 cF fN))) fN),DC a0 (ra Q) (re Q)⟩]
def XY (a0:Du):LP:=eQ [(21172200,XX a0)]
def PN (e:Es) (a0:Du):SE:=sE (E e) [(Iz,Pz.pw a0)] (XY a0)
theorem XZ (e:Es) (he:EG e):SEOk (aZ (E e)) (PN e Bb):=bK (aQ.uni _) ⟨(pj e he),trivial⟩ trivial he.ok
theorem rf (e:Es) (a0):dF (PN e a0) 5 a ME false (XX a0):=fun _=>⟨fun _=>by kernel_rfl,fun _ _=>by kernel_rfl,trivial⟩
theorem rh (e:Es) (he:EG e):dG (aZ (E e)) (XY Bb) [] 21172200 (.loop 21172200 ME):=fun _ _ _=>cJ.st (aQ.uni _) (cM (XZ e he) 5) (cS.no _ _) (aW (by kernel_rfl)) (rf e _ _)
theorem ri (e:Es) (a0):bR (PN e a0) 6 MD PM (PL a0):=fun _ _=>by kernel_rfl
theorem Ya (e:Es) (he:EG e):bP (E e) (PM.pw rL) IA:=bT he (ri e _) (XZ e he) bH.flat (dA (l:=[(21172200,.loop 21172200 ME)]) ⟨rh e he,trivial⟩ (by kernel_rfl))
def DD (a0:gN) (a1:dS) (a2:yQ) (x0:Ls→Ls→Int→Bool→Prop) (x1:Int→Prop):Nat→Ls→Ls→Int→Prop
 | 0,_,_,_=>False
 | n+1,b,c,d=>
 (aB (decide (d<(((length c):Nat):Int))) (aA (decide (0≤d)) (aA (decide (d<(((length c):Nat):Int))) (lt (getD c (d.toNat) .nils) (fun e=>(aA (aF zD e) (a1 (bL e) (fun f=>(aB (f !=0) (x1 f) (lt (i64.wrap (d+1)) (DD a0 a1 a2 x0 x1 n b c)))))))))) (x0 b c d false))
def DE (a0:gN) (a1:dS) (a2:yQ) (x0:Ls→Ls→Int→Bool→Prop) (x1:Int→Prop):Nat→Ls→Ls→Int→Prop
 | 0,_,_,_=>False
 | n+1,b,c,d=>
 (aB (decide (d<(((length c):Nat):Int))) (aA (decide (0<(((length b):Nat):Int))) (lt (getD b 0 .nils) (fun e=>(aA (aF zK e) (aA (decide (0≤d)) (aA (decide (d<(((length c):Nat):Int))) (lt (getD c (d.toNat) .nils) (fun f=>(aA (aF zD f) (a2 (aK (aP e 0)) (bL f) (fun g=>(aB (!g) (x1 2) (lt (i64.wrap (d+1)) (DE a0 a1 a2 x0 x1 n b c)))))))))))))) (x0 b c d false))
def PO (a0:gN) (a1:dS) (a2:yQ) (b c:Ls) (K:Int→Prop):Prop:=
 (a0 b ([]:Ls) (fun d=>(aB (d !=0) (K d) (aB ((((length c):Nat):Int) !=(((length b):Nat):Int)) (K 2) (∃ m0:Nat,DD a0 a1 a2 (fun e f g h=>(∃ m1:Nat,DE a0 a1 a2 (fun i j k l=>(K 0)) K m1 e f 0)) K m0 b c 0)))))
def DF:gN:=PO uQ rK rL
def yR:Sg:=⟨uR,Int→Prop,fun K=>(fun r0=>K (ic r0))⟩
def rj (Q:Qx):Ls→Ls→Int→Bool→Prop:=(fun b c d e=>Q (.exit 0) [(0,.v (.data b)),(3,.box (.agg [(.data c)])),(6,.v (ic d)),(25,.v (.bool e))] [])
def rk (Q:Qx):Int→Prop:=(fun b=>Q .ret [(4,.v (ic b))] [])
def rl (Q:Qx):Ls→Ls→Int→Bool→Prop:=(fun b c d e=>Q (.exit 2) [(0,.v (.data b)),(3,.box (.agg [(.data c)])),(8,.v (ic d)),(41,.v (.bool e))] [])
def rm (Q:Qx):Int→Prop:=(fun b=>Q .ret [(4,.v (ic b))] [])
def Yb (a0:gN) (a1:dS) (a2:yQ) (Q:Qx):List St:=[⟨(pS hN (fV 0 vD (fX 3 jJ (fV 6 cF fN))) fN),DD a0 a1 a2 (rj Q) (rk Q)⟩]
def Yc (a0:gN) (a1:dS) (a2:yQ) (Q:Qx):List St:=[⟨(pS hN (fV 0 vD (fX 3 jJ (fV 8 cF fN))) fN),DE a0 a1 a2 (rl Q) (rm Q)⟩]
def PP (a0:gN) (a1:dS) (a2:yQ):LP:=eQ [(19434100,Yb a0 a1 a2),(19434101,Yc a0 a1 a2)]
def JE (e:Es) (a0:gN) (a1:dS) (a2:yQ):SE:=sE (E e) [(Is,Dq.pw a0),(Iy,iP.pw a1),(IA,PM.pw a2)] (PP a0 a1 a2)
theorem PQ (e:Es) (he:EG e):SEOk (aZ (E e)) (JE e uQ rK rL):=bK (aQ.uni _) ⟨(XN e he),(XW e he),(Ya e he),trivial⟩ trivial he.ok
theorem rn (e:Es) (a0 a1 a2):dF (JE e a0 a1 a2) 5 a MF false (Yb a0 a1 a2):=fun _=>⟨fun _=>by kernel_rfl,fun _ _=>by kernel_rfl,trivial⟩
theorem rp (e:Es) (he:EG e):dG (aZ (E e)) (PP uQ rK rL) [] 19434100 (.loop 19434100 MF):=fun _ _ _=>cJ.st (aQ.uni _) (cM (PQ e he) 5) (cS.no _ _) (aW (by kernel_rfl)) (rn e _ _ _ _)
theorem rq (e:Es) (a0 a1 a2):dF (JE e a0 a1 a2) 5 a MG false (Yc a0 a1 a2):=fun _=>⟨fun _=>by kernel_rfl,fun _ _=>by kernel_rfl,trivial⟩
theorem rr (e:Es) (he:EG e):dG (aZ (E e)) (PP uQ rK rL) [] 19434101 (.loop 19434101 MG):=fun _ _ _=>cJ.st (aQ.uni _) (cM (PQ e he) 5) (cS.no _ _) (aW (by kernel_rfl)) (rq e _ _ _ _)
theorem ru (e:Es) (a0 a1 a2):bR (JE e a0 a1 a2) 6 Ja yR (PO a0 a1 a2):=fun _ _=>by kernel_rfl
theorem Yd (e:Es) (he:EG e):bP (E e) (yR.pw DF) IB:=bT he (ru e _ _ _) (PQ e he) bH.flat (dA (l:=[(19434100,.loop 19434100 MF),(19434101,.loop 19434101 MG)]) ⟨rp e he,rr e he,trivial⟩ (by kernel_rfl))
def PR (x0:Ls→Ls→Int→Int→Bool→Prop) (x1:Bool→Prop):Nat→Ls→Ls→Int→Int→Prop
 | 0,_,_,_,_=>False
 | n+1,b,c,d,e=>
 (aA (decide (0≤d)) (aA (decide (d<(((length b):Nat):Int))) (lt (getD b (d.toNat) .nils) (fun f=>(aA (aF zD f) (aB (decide (e<(((length (bL f)):Nat):Int))) (aA (decide (0≤d)) (aA (decide (d<(((length b):Nat):Int))) (lt (getD b (d.toNat) .nils) (fun g=>(aA (aF zD g) (aA (decide (0≤e)) (aA (decide (e<(((length (bL g)):Nat):Int))) (lt (getD (bL g) (e.toNat) .nils) (fun h=>(aA (aF z2 h) (aA (decide (0≤d)) (aA (decide (d<(((length c):Nat):Int))) (lt (getD c (d.toNat) .nils) (fun i=>(aA (aF zD i) (aA (decide (0≤e)) (aA (decide (e<(((length (bL i)):Nat):Int))) (lt (getD (bL i) (e.toNat) .nils) (fun j=>(aA (aF z2 j) (aB (!(((aK (aP h 0)) ==(aK (aP j 0)))&&(((aK (aP h 1)) ==(aK (aP j 1)))&&true))) (x1 false) (lt (i64.wrap (e+1)) (PR x0 x1 n b c d))))))))))))))))))))))) (x0 b c d e false)))))))
def PS (x0:Ls→Ls→Int→Bool→Prop) (x1:Bool→Prop):Nat→Ls→Ls→Int→Prop
 | 0,_,_,_=>False
 | n+1,b,c,d=>
 (aB (decide (d<(((length b):Nat):Int))) (aA (decide (0≤d)) (aA (decide (d<(((length b):Nat):Int))) (lt (getD b (d.toNat) .nils) (fun e=>(aA (aF zD e) (aA (decide (0≤d)) (aA (decide (d<(((length c):Nat):Int))) (lt (getD c (d.toNat) .nils) (fun f=>(aA (aF zD f) (aB ((((length (bL e)):Nat):Int) !=(((length (bL f)):Nat):Int)) (x1 false) (∃ m0:Nat,PR (fun g h i j k=>(lt (i64.wrap (i+1)) (PS x0 x1 n g h))) x1 m0 b c d 0)))))))))))) (x0 b c d false))
def PU (b c:Ls) (K:Bool→Prop):Prop:=
 (aB ((((length b):Nat):Int) !=(((length c):Nat):Int)) (K false) (∃ m0:Nat,PS (fun d e f g=>(K true)) K m0 b c 0))
def Be:dP:=PU
def rx (Q:Qx):Ls→Ls→Int→Int→Bool→Prop:=(fun b c d e f=>Q (.exit 2) [(0,.v (.data b)),(1,.v (.data c)),(5,.v (ic d)),(6,.v (ic e)),(35,.v (.bool f))] [])
def ry (Q:Qx):Bool→Prop:=(fun b=>Q .ret [(4,.v (.bool b))] [])
def rz (Q:Qx):Ls→Ls→Int→Bool→Prop:=(fun b c d e=>Q (.exit 0) [(0,.v (.data b)),(1,.v (.data c)),(5,.v (ic d)),(15,.v (.bool e))] [])
def sa (Q:Qx):Bool→Prop:=(fun b=>Q .ret [(4,.v (.bool b))] [])
def Ye (Q:Qx):List St:=[⟨(pS hN (fV 0 vD (fV 1 vD (fV 5 cF (fV 6 cF fN)))) fN),PR (rx Q) (ry Q)⟩]
def Yf (Q:Qx):List St:=[⟨(pS hN (fV 0 vD (fV 1 vD (fV 5 cF fN))) fN),PS (rz Q) (sa Q)⟩]
def PW:LP:=eQ [(72981700,Ye),(72981701,Yf)]
def JF (e:Es):SE:=sE (E e) [] (PW)
theorem PX (e:Es) (he:EG e):SEOk (aZ (E e)) (JF e):=bK (aQ.uni _) trivial trivial he.ok
theorem se (e:Es):dF (JF e) 5 a Jj false (Ye):=fun _=>⟨fun _=>by kernel_rfl,fun _ _=>by kernel_rfl,trivial⟩
theorem Yg (e:Es) (he:EG e):dG (aZ (E e)) (PW) [] 72981700 (.loop 72981700 Jj):=fun _ _ _=>cJ.st (aQ.uni _) (cM (PX e he) 5) (cS.no _ _) (aW (by kernel_rfl)) (se e _)
theorem sf (e:Es):dF (JF e) 5 a NC false (Yf):=fun _=>⟨fun _=>by kernel_rfl,fun _ _=>by kernel_rfl,trivial⟩
theorem sg (e:Es) (he:EG e):dG (aZ (E e)) (PW) [] 72981701 (.loop 72981701 NC):=fun _ _ _=>cJ.st (aQ.uni _) (cM (PX e he) 5) (cS.no _ _) (dA (l:=[(72981700,.loop 72981700 Jj)]) ⟨Yg e he,trivial⟩ (by kernel_rfl)) (sf e _)
theorem si (e:Es):bR (JF e) 6 Ji rG PU:=fun _ _=>by kernel_rfl
theorem Yh (e:Es) (he:EG e):bP (E e) (rG.pw Be) IX:=bT he (si e) (PX e he) bH.flat (dA (l:=[(72981700,.loop 72981700 Jj),(72981701,.loop 72981701 NC)]) ⟨Yg e he,sg e he,trivial⟩ (by kernel_rfl))
set_option linter.unusedVariables false
theorem sj (p0 p1:Ls) (r0:Bool) (h:∀ K:Bool→Prop,K r0→Dz p0 p1 K) (K:Bool→Prop):Dz p0 p1 K=K r0:=
 Aab ⟨fun k=>bX (XS [] fI) (az:=[(.data p0),(.agg [(.data p1)])]) (x:=(.bool r0)) (fun K' k'=>h (fun r0=>K' (.bool r0)) k') (K:=fun x=>match x with | (.bool r0)=>K r0 | _=>False) k,h K⟩
theorem sk (p0:Ls) (r0:Int) (h:∀ K:Int→Prop,K r0→rK p0 K) (K:Int→Prop):rK p0 K=K r0:=
 Aab ⟨fun k=>bX (XW [] fI) (az:=[(.data p0)]) (x:=(ic r0)) (fun K' k'=>h (fun r0=>K' (ic r0)) k') (K:=fun x=>match x with | (ic r0)=>K r0 | _=>False) k,h K⟩
theorem sm (p0:Int) (p1:Ls) (r0:Bool) (h:∀ K:Bool→Prop,K r0→rL p0 p1 K) (K:Bool→Prop):rL p0 p1 K=K r0:=
 Aab ⟨fun k=>bX (Ya [] fI) (az:=[(ic p0),(.data p1)]) (x:=(.bool r0)) (fun K' k'=>h (fun r0=>K' (.bool r0)) k') (K:=fun x=>match x with | (.bool r0)=>K r0 | _=>False) k,h K⟩
theorem sn (p0 p1:Ls) (r0:Int) (h:∀ K:Int→Prop,K r0→DF p0 p1 K) (K:Int→Prop):DF p0 p1 K=K r0:=
 Aab ⟨fun k=>bX (Yd [] fI) (az:=[(.data p0),(.agg [(.data p1)])]) (x:=(ic r0)) (fun K' k'=>h (fun r0=>K' (ic r0)) k') (K:=fun x=>match x with | (ic r0)=>K r0 | _=>False) k,h K⟩
theorem so (p0 p1:Ls) (r0:Bool) (h:∀ K:Bool→Prop,K r0→Be p0 p1 K) (K:Bool→Prop):Be p0 p1 K=K r0:=
 Aab ⟨fun k=>bX (Yh [] fI) (az:=[(.data p0),(.data p1)]) (x:=(.bool r0)) (fun K' k'=>h (fun r0=>K' (.bool r0)) k') (K:=fun x=>match x with | (.bool r0)=>K r0 | _=>False) k,h K⟩
def Yi (b:Int) (K:Int→Int→Prop):Prop:=
 (K b 1)
def dX:cD:=Yi
def sr (e:Es):SE:=sE (E e) [] dJ
theorem su (e:Es):bR (sr e) 11 VH jX Yi:=fun _ _=>by kernel_rfl
theorem sX (e:Es) (he:EG e):bP (E e) (jX.pw dX) jV:=bT he (su e) (bK (aQ.uni _) trivial trivial he.ok) bH.flat (aW (by kernel_rfl))
def PY (a0:rD) (b c d e:Int) (K:Bool→Prop):Prop:=
 (a0 b c d e (fun f g=>(K (decide (f<0)))))
def cB:bZ:=PY rE
def sw (e:Es) (a0:rD):SE:=sE (E e) [(xW,AQ.pw a0)] dJ
theorem sx (e:Es) (a0):bR (sw e a0) 11 VI kW (PY a0):=fun _ _=>by kernel_rfl
theorem Bf (e:Es) (he:EG e):bP (E e) (kW.pw cB) sN:=bT he (sx e _) (bK (aQ.uni _) ⟨(Db e he),trivial⟩ trivial he.ok) bH.flat (aW (by kernel_rfl))
def DH (a0:gN) (a1:dS) (a2:cD) (a3:bZ) (x0:Ls→Ls→Ls→Int→Int→Bool→Prop) (x1:Int→Prop):Nat→Ls→Ls→Ls→Int→Int→Prop
 | 0,_,_,_,_,_=>False
 | n+1,b,c,d,e,f=>
 (aB (decide (f<e)) (aA (decide (0≤f)) (aA (decide (f<(((length d):Nat):Int))) (lt (getD d (f.toNat) .nils) (fun g=>(aA (aF zD g) (a1 (bL g) (fun h=>(aB (h !=0) (x1 h) (lt (i64.wrap (f+1)) (DH a0 a1 a2 a3 x0 x1 n b c d e)))))))))) (x0 b c d e f false))
def ycs (a0:gN) (a1:dS) (a2:cD) (a3:bZ) (x0:Ls→Ls→Int→Int→Bool→Prop) (x1:Int→Prop):Nat→Ls→Ls→Int→Int→Prop
 | 0,_,_,_,_=>False
 | n+1,b,c,d,e=>
 (aB (decide (e<d)) (aA (decide (0≤e)) (aA (decide (e<(((length c):Nat):Int))) (lt (getD c (e.toNat) .nils) (fun f=>(aA (aF zD f) (jn (fun (a:Bool→Prop)=>(aB (decide ((((length (bL f)):Nat):Int)>0)) (aA (decide (0<(((length (bL f)):Nat):Int))) (lt (getD (bL f) 0 .nils) (fun g=>(aA (aF z4 g) (aB (decide ((aK (aP g 0))<0)) (a true) (aA (decide (0<(((length b):Nat):Int))) (lt (getD b 0 .nils) (fun h=>(aA (aF zK h) (a2 (aK (aP h 0)) (fun i j=>(lt (i64.wrap ((((length (bL f)):Nat):Int)-1)) (fun k=>(aA (decide (0≤k)) (aA (decide (k<(((length (bL f)):Nat):Int))) (lt (getD (bL f) (k.toNat) .nils) (fun l=>(aA (aF z4 l) (a3 i j (aK (aP l 2)) (aK (aP l 3)) a))))))))))))))))))) (a false))) (fun g=>(aB g (x1 2) (lt (i64.wrap (e+1)) (ycs a0 a1 a2 a3 x0 x1 n b c d)))))))))) (x0 b c d e false))
def PZ (a0:gN) (a1:dS) (a2:cD) (a3:bZ) (b c:Ls) (K:Int→Prop):Prop:=
 (a0 b ([]:Ls) (fun d=>(aB (d !=0) (K d) (aB ((((length c):Nat):Int) !=(((length b):Nat):Int)) (K 2) (∃ m0:Nat,DH a0 a1 a2 a3 (fun e f g h i j=>(∃ m1:Nat,ycs a0 a1 a2 a3 (fun k l m o p=>(K 0)) K m1 e f (((length f):Nat):Int) 0)) K m0 b c c (((length c):Nat):Int) 0)))))
def ybi:gN:=PZ uP yaN dX cB
def Yj (az:Ls) (K:PV→Prop):Prop:=yR.pw ybi az K
def sy (Q:Qx):Ls→Ls→Ls→Int→Int→Bool→Prop:=(fun b c d e f g=>Q (.exit 0) [(0,.v (.data b)),(3,.box (.agg [(.data c)])),(25,.v (.data d)),(26,.v (ic e)),(27,.v (ic f)),(28,.v (.bool g))] [])
def ta (Q:Qx):Int→Prop:=(fun b=>Q .ret [(4,.v (ic b))] [])
def tc (Q:Qx):Ls→Ls→Int→Int→Bool→Prop:=(fun b c d e f=>Q (.exit 2) [(0,.v (.data b)),(38,.v (.data c)),(39,.v (ic d)),(40,.v (ic e)),(41,.v (.bool f))] [])
def td (Q:Qx):Int→Prop:=(fun b=>Q .ret [(4,.v (ic b))] [])
def Bg:Pat aG:=fV 25 vD (fV 26 cF (fV 27 cF fN))
def Yk (a0:gN) (a1:dS) (a2:cD) (a3:bZ) (Q:Qx):List St:=[⟨(pS hN (fV 0 vD (fX 3 jJ Bg)) fN),DH a0 a1 a2 a3 (sy Q) (ta Q)⟩]
def Yl (a0:gN) (a1:dS) (a2:cD) (a3:bZ) (Q:Qx):List St:=[⟨(pS hN (fV 0 vD (fV 38 vD (fV 39 cF (fV 40 cF fN)))) fN),ycs a0 a1 a2 a3 (tc Q) (td Q)⟩]
def Qa (a0:gN) (a1:dS) (a2:cD) (a3:bZ):LP:=eQ [(8206000,Yk a0 a1 a2 a3),(8206001,Yl a0 a1 a2 a3)]
def JG (e:Es) (a0:gN) (a1:dS) (a2:cD) (a3:bZ):SE:=sE (E e) [(II,Dq.pw a0),(CH,iP.pw a1),(jV,jX.pw a2),(sN,kW.pw a3)] (Qa a0 a1 a2 a3)
theorem Qb (e:Es) (he:EG e):SEOk (aZ (E e)) (JG e uP yaN dX cB):=bK (aQ.uni _) ⟨(Xv e he),(Jy e he),(sX e he),(Bf e he),trivial⟩ trivial he.ok
theorem te (e:Es) (a0 a1 a2 a3):dF (JG e a0 a1 a2 a3) 10 a Nc false (Yk a0 a1 a2 a3):=fun _=>⟨fun _=>by kernel_rfl,fun _ _=>by kernel_rfl,trivial⟩
theorem tf (e:Es) (he:EG e):dG (aZ (E e)) (Qa uP yaN dX cB) [] 8206000 (.loop 8206000 Nc):=fun _ _ _=>cJ.st (aQ.uni _) (cM (Qb e he) 10) (cS.no _ _) (aW (by kernel_rfl)) (te e _ _ _ _ _)
theorem tg (e:Es) (a0 a1 a2 a3):dF (JG e a0 a1 a2 a3) 10 a Nd false (Yl a0 a1 a2 a3):=fun _=>⟨fun _=>by kernel_rfl,fun _ _=>by kernel_rfl,trivial⟩
theorem th (e:Es) (he:EG e):dG (aZ (E e)) (Qa uP yaN dX cB) [] 8206001 (.loop 8206001 Nd):=fun _ _ _=>cJ.st (aQ.uni _) (cM (Qb e he) 10) (cS.no _ _) (aW (by kernel_rfl)) (tg e _ _ _ _ _)
theorem ti (e:Es) (a0 a1 a2 a3):bR (JG e a0 a1 a2 a3) 11 Jc yR (PZ a0 a1 a2 a3):=fun _ _=>by kernel_rfl
theorem Gk (e:Es) (he:EG e):bP (E e) (yR.pw ybi) mR:=bT he (ti e _ _ _ _) (Qb e he) bH.flat (dA (l:=[(8206000,.loop 8206000 Nc),(8206001,.loop 8206001 Nd)]) ⟨tf e he,th e he,trivial⟩ (by kernel_rfl))
abbrev fK:Type:=Ls→Ls→(Ls→Int→Prop)→Prop
def yak (p0 p1:Ls) (K:Ls→Int→Prop):Prop:=
 ∃ r0 r1,K r0 r1∧∀ e:Es,EG e→Ans (E e) jF [(.data p0),(.agg [(.data p1)])] (.tup [(.data r0),(.int .i64 r1)])
def yS:Sg:=⟨uR,Ls→Int→Prop,fun K=>(fun r0 r1=>K (.tup [(.data r0),(ic r1)]))⟩
theorem yT (e:Es) (he:EG e):bP (E e) (yS.pw yak) jF:=fun az K h=>by obtain ⟨a,e1,r0,r1,hk,ha⟩:=Sg.inv h;subst e1;exact ⟨_,hk,ha e he⟩
abbrev Bh:Type:=J4 (Ls→(Bool→Prop)→Prop)
def DJ (a0:bZ) (x0:J4 (Ls→Int→Int→Bool→Prop)) (x1:J4 (Int→Prop)):Nat→J4 (Ls→Int→Int→Prop)
 | 0,_,_,_,_,_,_,_=>False
 | n+1,b,c,d,e,f,g,h=>
 (aB (decide (h<g)) (aA (decide (0≤h)) (aA (decide (h<(((length f):Nat):Int))) (lt (getD f (h.toNat) .nils) (fun i=>(aA (aF z4 i) (jn (fun (a:Bool→Prop)=>(a0 b c (aK (aP i 2)) (aK (aP i 3)) (fun j=>(aB j (a0 (aK (aP i 0)) (aK (aP i 1)) d e a) (a false))))) (fun j=>(aB j (x1 b c d e h) (lt (i64.wrap (h+1)) (DJ a0 x0 x1 n b c d e f g)))))))))) (x0 b c d e f g h false))
def Qc (a0:bZ) (b c d e:Int) (f:Ls) (K:Bool→Prop):Prop:=
 (jn (fun (a:Int→Int→Int→Int→Int→Prop)=>(∃ n:Nat,DJ a0 (fun g h i j k l m o=>(a g h i j (-1))) a n b c d e f (((length f):Nat):Int) 0)) (fun g h i j k=>(K (decide (k≥0)))))
def sY:Bh:=Qc cB
def JH:Sg:=⟨(lC rH (lC (vX 0 vD) lN)),Bool→Prop,fun K=>(fun r0=>K (.bool r0))⟩
def tj (Q:Qx):J4 (Ls→Int→Int→Bool→Prop ):=(fun b c d e f g h i=>Q (.exit 0) [(0,.v (.data f)),(1,.v (.fn (.func FK) [] [(.ptr 0 1 0 0)])),(7,.v (ic g)),(8,.v (ic h)),(9,.v (.bool i))] [⟨false,false,4,([(ga [b,c,d,e])]:Ls)⟩])
def tk (Q:Qx):J4 (Int→Prop ):=(fun b c d e f=>Q .ret [(4,.v (ic f))] [⟨false,false,4,([(ga [b,c,d,e])]:Ls)⟩])
def Ym (a0:bZ) (Q:Qx):List St:=[⟨(pS (hB false false 4 (rC rH rN) hN) (fV 0 vD (fV 1 (vF FK lN lK) AP)) fN),DJ a0 (tj Q) (tk Q)⟩]
def Qd (a0:bZ):LP:=eQ [(68674300,Ym a0)]
def Yn (e:Es) (a0:bZ):SE:=⟨(E e),yeY [(sN,kW.pw a0)],yez [(FL,FR),(FK,No)],Qd a0,fun _=>none⟩
def Yo (e:Es) (a0:bZ):SE:=⟨(E e),yeY [(sN,kW.pw a0)],yez [(FL,FR),(Mn,Je),(FK,No)],Qd a0,fun _=>none⟩
theorem tm (e:Es) (he:EG e):SEOk (aZ (E e)) (Yn e cB):=bK (aQ.uni _) ⟨(Bf e he),trivial⟩ ⟨⟨by kernel_rfl,by kernel_rfl,rfl,fun az=>dW (by kernel_rfl) az,he.num _ (by kernel_rfl),by kernel_rfl,(aW (by kernel_rfl))⟩,⟨by kernel_rfl,by kernel_rfl,rfl,fun az=>dW (by kernel_rfl) az,he.num _ (by kernel_rfl),by kernel_rfl,(aW (by kernel_rfl))⟩,trivial⟩ he.ok
theorem tn (e:Es) (a0):dF (Yn e a0) 10 a CS false (Ym a0):=fun _=>⟨fun _=>by kernel_rfl,fun _ _=>by kernel_rfl,trivial⟩
theorem tq (e:Es) (he:EG e):dG (aZ (E e)) (Qd cB) [] 68674300 (.loop 68674300 CS):=fun _ _ _=>cJ.st (aQ.uni _) (cM (tm e he) 10) (cS.no _ _) (aW (by kernel_rfl)) (tn e _ _)
theorem tt (e:Es) (he:EG e):SEOk (aZ (E e)) (Yo e cB):=bK (aQ.uni _) ⟨(Bf e he),trivial⟩ ⟨⟨by kernel_rfl,by kernel_rfl,rfl,fun az=>dW (by kernel_rfl) az,he.num _ (by kernel_rfl),by kernel_rfl,(aW (by kernel_rfl))⟩,⟨by kernel_rfl,by kernel_rfl,rfl,fun az=>dW (by kernel_rfl) az,he.num _ (by kernel_rfl),by kernel_rfl,(dA (l:=[(68674300,.loop 68674300 CS)]) ⟨tq e he,trivial⟩ (by kernel_rfl))⟩,⟨by kernel_rfl,by kernel_rfl,rfl,fun az=>dW (by kernel_rfl) az,he.num _ (by kernel_rfl),by kernel_rfl,(aW (by kernel_rfl))⟩,trivial⟩ he.ok
theorem tu (e:Es) (a0):bR (Yo e a0) 11 VX JH (Qc a0):=fun _ _=>by kernel_rfl
theorem Qe (e:Es) (he:EG e):bP (E e) (JH.pw sY) yA:=bT he (tu e _) (tt e he) bH.flat (aW (by kernel_rfl))
def DM (a0:Bh) (x0:Ls→Ls→Int→Int→Bool→Prop) (x1:Ls→Int→Prop):Nat→Ls→Ls→Int→Int→Prop
 | 0,_,_,_,_=>False
 | n+1,b,c,d,e=>
 (aB (decide (e<d)) (aA (decide (0≤e)) (aA (decide (e<(((length c):Nat):Int))) (lt (getD c (e.toNat) .nils) (fun f=>(aA (aF z4 f) (a0 (aK (aP f 0)) (aK (aP f 1)) (aK (aP f 2)) (aK (aP f 3)) b (fun g=>(aB g (x1 b e) (lt (i64.wrap (e+1)) (DM a0 x0 x1 n b c d)))))))))) (x0 b c d e false))
def Qf (a0:Bh) (b c:Ls) (K:Bool→Prop):Prop:=
 (jn (fun (a:Ls→Int→Prop)=>(∃ n:Nat,DM a0 (fun d e f g h=>(a d (-1))) a n c b (((length b):Nat):Int) 0)) (fun d e=>(K (decide (e≥0)))))
def cW:dP:=Qf sY
def tv (Q:Qx):Ls→Ls→Int→Int→Bool→Prop:=(fun b c d e f=>Q (.exit 0) [(0,.v (.data c)),(1,.v (.fn (.func yA) [] [(.ptr 0 1 0 0)])),(7,.v (ic d)),(8,.v (ic e)),(9,.v (.bool f))] [⟨false,false,1,([(.data b)]:Ls)⟩])
def tw (Q:Qx):Ls→Int→Prop:=(fun b c=>Q .ret [(4,.v (ic c))] [⟨false,false,1,([(.data b)]:Ls)⟩])
def Yp (a0:Bh) (Q:Qx):List St:=[⟨(pS (hB false false 1 (rC vD rN) hN) (fV 0 vD (fV 1 (vF yA lN lK) AP)) fN),DM a0 (tv Q) (tw Q)⟩]
def Qg (a0:Bh):LP:=eQ [(68674300,Yp a0)]
def Yq (e:Es) (a0:Bh):SE:=⟨(E e),yeY [(yA,JH.pw a0)],yez [(FL,FR)],Qg a0,fun _=>none⟩
def Yr (e:Es) (a0:Bh):SE:=⟨(E e),yeY [(yA,JH.pw a0)],yez [(FL,FR),(Mn,Je)],Qg a0,fun _=>none⟩
theorem tx (e:Es) (he:EG e):SEOk (aZ (E e)) (Yq e sY):=bK (aQ.uni _) ⟨(Qe e he),trivial⟩ ⟨⟨by kernel_rfl,by kernel_rfl,rfl,fun az=>dW (by kernel_rfl) az,he.num _ (by kernel_rfl),by kernel_rfl,(aW (by kernel_rfl))⟩,trivial⟩ he.ok
theorem tz (e:Es) (a0):dF (Yq e a0) 10 a CS false (Yp a0):=fun _=>⟨fun _=>by kernel_rfl,fun _ _=>by kernel_rfl,trivial⟩
theorem ua (e:Es) (he:EG e):dG (aZ (E e)) (Qg sY) [] 68674300 (.loop 68674300 CS):=fun _ _ _=>cJ.st (aQ.uni _) (cM (tx e he) 10) (cS.no _ _) (aW (by kernel_rfl)) (tz e _ _)
theorem ub (e:Es) (he:EG e):SEOk (aZ (E e)) (Yr e sY):=bK (aQ.uni _) ⟨(Qe e he),trivial⟩ ⟨⟨by kernel_rfl,by kernel_rfl,rfl,fun az=>dW (by kernel_rfl) az,he.num _ (by kernel_rfl),by kernel_rfl,(aW (by kernel_rfl))⟩,⟨by kernel_rfl,by kernel_rfl,rfl,fun az=>dW (by kernel_rfl) az,he.num _ (by kernel_rfl),by kernel_rfl,(dA (l:=[(68674300,.loop 68674300 CS)]) ⟨ua e he,trivial⟩ (by kernel_rfl))⟩,trivial⟩ he.ok
theorem uc (e:Es) (a0):bR (Yr e a0) 11 VY rG (Qf a0):=fun _ _=>by kernel_rfl
theorem Qh (e:Es) (he:EG e):bP (E e) (rG.pw cW) FM:=bT he (uc e _) (ub e he) bH.flat (aW (by kernel_rfl))
abbrev ud:Type:=J4 (J4 ((Int→Prop)→Prop))
def Qi (a0:rD) (b c d e f g h i:Int) (K:Int→Prop):Prop:=
 (a0 b c f g (fun j k=>(K j)))
def Qj:ud:=Qi rE
def Ys:Sg:=⟨(lC rH (lC rH lN)),Int→Prop,fun K=>(fun r0=>K (ic r0))⟩
def ue (e:Es) (a0:rD):SE:=sE (E e) [(xW,AQ.pw a0)] dJ
theorem uf (e:Es) (a0):bR (ue e a0) 11 Wa Ys (Qi a0):=fun _ _=>by kernel_rfl
theorem ug (e:Es) (he:EG e):bP (E e) (Ys.pw Qj) CL:=bT he (uf e _) (bK (aQ.uni _) ⟨(Db e he),trivial⟩ trivial he.ok) bH.flat (aW (by kernel_rfl))
abbrev lL:Type:=Ls→Ls→Ls→Ls→(Bool→Prop)→Prop
def DN (a0:cD) (a1:bZ) (x0:Ls→Int→Ls→Int→Int→Bool→Prop):Nat→Ls→Int→Ls→Int→Int→Prop
 | 0,_,_,_,_,_=>False
 | n+1,b,c,d,e,f=>
 (aB (decide (f<e)) (aA (decide (0≤f)) (aA (decide (f<(((length d):Nat):Int))) (lt (getD d (f.toNat) .nils) (fun g=>(aA (aF zD g) (lt (i64.wrap (c+(((length (bL g)):Nat):Int))) (fun h=>(aB (decide (h<0)) False (lt (i64.wrap (f+1)) (DN a0 a1 x0 n b h d e)))))))))) (x0 b c d e f false))
def uS (a0:cD) (a1:bZ) (x0:Ls→Nat→Ls→Int→Int→Bool→Prop):Nat→Ls→Nat→Ls→Int→Int→Prop
 | 0,_,_,_,_,_=>False
 | n+1,b,c,d,e,f=>
 (aB (decide (f<e)) (aA (decide (0≤f)) (aA (decide (f<(((length d):Nat):Int))) (lt (getD d (f.toNat) .nils) (fun g=>(aA (aF zD g) (aA (kY 4 (bL g)) (aA (decide ((length b)=(length b))) (aA (decide ((0+c)≤(length b))) (aB (isEmpty (bL g)) (lt (i64.wrap (f+1)) (fun h=>(aA (decide ((length b)=length b)) (uS a0 a1 x0 n b c d e h)))) (aA (decide (((0+c)+(length (bL g)))≤(length b))) (lt (i64.wrap (f+1)) (fun h=>(aA (decide ((length b)=length ((take (0+c) b)++((bL g)++(drop ((0+c)+(length (bL g))) b))))) (uS a0 a1 x0 n ((take (0+c) b)++((bL g)++(drop ((0+c)+(length (bL g))) b))) (c+(length (bL g))) d e h)))))))))))))) (x0 b c d e f false))
def DO (a0:cD) (a1:bZ) (x0:Ls→Int→Int→Bool→Prop) (x1:Ls→Nat→Ls→Int→Int→Bool→Prop):Nat→Ls→Int→Int→Prop
 | 0,_,_,_=>False
 | n+1,b,c,d=>
 (aB (decide (d<c)) (aA (decide (0≤d)) (aA (decide (d<(((length b):Nat):Int))) (lt (getD b (d.toNat) .nils) (fun e=>(aA (aF zD e) (aA (kY 4 (bL e)) (aB (isEmpty (bL e)) (lt (i64.wrap (d+1)) (DO a0 a1 x0 x1 n b c)) (aA (decide (((length (bL e))+64)*(32+1)≤room)) (lt (i64.wrap (d+1)) (fun f=>(aA (decide ((length (bL e))=length (bL e))) (uS a0 a1 x1 n (bL e) (length (bL e)) b c f)))))))))))) (x0 b c d false))
def DP (a0:cD) (a1:bZ) (x0:Ls→Ls→Ls→Ls→Ls→Int→Int→Nat→Int→Int→Bool→Prop) (x1:Ls→Bool→Prop):Nat→Ls→Ls→Ls→Ls→Ls→Int→Int→Nat→Int→Int→Prop
 | 0,_,_,_,_,_,_,_,_,_,_=>False
 | n+1,b,c,d,e,f,g,h,i,j,k=>
 (aB (decide (k<j)) (jn (fun (a:Int→Int→Prop)=>(aA (decide (0≤k)) (aA (decide (k<((i:Nat):Int))) (aA (decide ((length b)=(length b))) (aA (decide ((0+(k.toNat))<(length b))) (lt (getD b (0+(k.toNat)) .nils) (fun l=>(aA (aF z4 l) (a1 g h (aK (aP l 0)) (aK (aP l 1)) (fun m=>(aB m (x1 b true) (a1 g h (aK (aP l 2)) (aK (aP l 3)) (fun o=>(aB o (a (aK (aP l 2)) (aK (aP l 3))) (a g h))))))))))))))) (fun l m=>(lt (i64.wrap (k+1)) (fun o=>(aA (decide ((length b)=length b)) (DP a0 a1 x0 x1 n b c d e f l m i j o)))))) (x0 b c d e f g h i j k false))
def Qk (a0:cD) (a1:bZ) (x0:Ls→Ls→Ls→Ls→J4 (Bool→Prop)):Nat→Ls→Ls→Ls→Ls→J4 (Prop)
 | 0,_,_,_,_,_,_,_,_=>False
 | n+1,b,c,d,e,f,g,h,i=>
 (aB (decide (i<h)) False (x0 b c d e f g h i false))
def Ql (a0:cD) (a1:bZ) (b c d e:Ls) (K:Bool→Prop):Prop:=
 (jn (fun (a:Ls→Nat→Prop)=>(∃ m0:Nat,DN a0 a1 (fun f g h i j k=>(aB (decide (g<0)) False (jn (fun l=>(lt (i64.wrap (g-0)) (fun m=>(aB (decide (m>0)) (aA (decide (0≤m)) (aB (decide ((m.toNat)=0)) l (aA (decide (((length (replicate (m.toNat) ((gz 4):PV)))+64)*(32+1)≤room)) (aA ((decide (0≤(((length (replicate (m.toNat) ((gz 4):PV))):Nat):Int)))||(decide (0≤(((length (replicate (m.toNat) ((gz 4):PV))):Nat):Int)))) (aA (decide ((length (replicate (m.toNat) ((gz 4):PV)))=length (replicate (m.toNat) ((gz 4):PV)))) (∃ m1:Nat,uS a0 a1 (fun o p q r s t=>(a o p)) m1 (replicate (m.toNat) ((gz 4):PV)) 0 f (((length f):Nat):Int) 0)))))) l)))) (∃ m1:Nat,DO a0 a1 (fun l m o p=>(a0 0 (fun q r=>(∃ m2:Nat,Qk a0 a1 (fun s t u v w z A B C=>(aA (decide (0<(((length s):Nat):Int))) (lt (getD s 0 .nils) (fun D=>(aA (aF zK D) (a0 (aK (aP D 0)) (fun E F=>(a1 w z E F K)))))))) m2 b c d e q r 0 0)))) (fun l m o p q r=>(a l m)) m1 f (((length f):Nat):Int) 0)))) m0 c 0 c (((length c):Nat):Int) 0)) (fun f g=>(aA (Srt.cond lF.s f 0 g (length f) 4 false) (a0 0 (fun h i=>(aA (decide ((length f)=length (take 0 f++(Srt.sorted lF.s lF.srt (take g (drop 0 f))++drop (0+g) f)))) (∃ m0:Nat,DP a0 a1 (fun j k l m o p q r s t u=>(aA (decide (0<(((length k):Nat):Int))) (lt (getD k 0 .nils) (fun v=>(aA (aF zK v) (a0 (aK (aP v 0)) (fun w z=>(a1 p q w z K)))))))) (fun j k=>(K k)) m0 (take 0 f++(Srt.sorted lF.s lF.srt (take g (drop 0 f))++drop (0+g) f)) b c d e h i g ((g:Nat):Int) 0)))))))
def yac:lL:=Ql dX cB
def fL:fH:=vX 0 (vA (lC vD (lC vD lI)))
def JI:Sg:=⟨(lC fL lN),Bool→Prop,fun K=>(fun r0=>K (.bool r0))⟩
def uh (Q:Qx):Ls→Int→Ls→Int→Int→Bool→Prop:=(fun b c d e f g=>Q (.exit 0) [(0,.v (.data b)),(3,.v (ic c)),(9,.v (.data d)),(10,.v (ic e)),(11,.v (ic f)),(12,.v (.bool g))] [])
def ui (Q:Qx):Ls→Int→Int→Bool→Prop:=(fun b c d e=>Q (.exit 2) [(6,.v .nils),(25,.v (.data b)),(26,.v (ic c)),(27,.v (ic d)),(28,.v (.bool e))] [])
def Yt (Q:Qx):Ls→Nat→Ls→Int→Int→Bool→Prop:=(fun b c d e f g=>Q (.exit 2) [(6,.v (.own 0 0 c (length b) none)),(25,.v (.data d)),(26,.v (ic e)),(27,.v (ic f)),(28,.v (.bool g))] [⟨false,true,4,b⟩])
def uj (Q:Qx):Ls→Ls→Ls→Ls→Ls→Int→Int→Nat→Int→Int→Bool→Prop:=(fun b c d e f g h i j k l=>Q (.exit 0) [(0,.v (.eptr [(.agg [(.data c),(.data d),(.data e),(.data f)])] 0 0)),(4,.box (.agg [(ic g),(ic h)])),(15,.v (.own 0 0 i (length b) none)),(16,.v (ic j)),(17,.v (ic k)),(18,.v (.bool l))] [⟨false,true,4,b⟩])
def uk (Q:Qx):Ls→Bool→Prop:=(fun b c=>Q .ret [(2,.v (.bool c))] [⟨false,true,4,b⟩])
def ul (Q:Qx):Ls→Ls→Ls→Ls→J4 (Bool→Prop ):=(fun b c d e f g h i j=>Q (.exit 0) [(0,.v (.eptr [(.agg [(.data b),(.data c),(.data d),(.data e)])] 0 0)),(4,.box (.agg [(ic f),(ic g)])),(15,.v .nils),(16,.v (ic h)),(17,.v (ic i)),(18,.v (.bool j))] [])
def Yu (a0:cD) (a1:bZ) (Q:Qx):List St:=[⟨(pS hN (fV 0 vD (fV 3 cF (fV 9 vD (fV 10 cF (fV 11 cF fN))))) fN),DN a0 a1 (uh Q)⟩]
def Yv (a0:cD) (a1:bZ) (Q:Qx):List St:=[⟨(pS hN (fV 6 Fw Bg) fN),DO a0 a1 (ui Q) (Yt Q)⟩,⟨(pS (hB false true 4 rA hN) (fV 6 (vW 0 (nK 0) nV (nT 0)) Bg) fN),uS a0 a1 (Yt Q)⟩]
def Bi:Pat aG:=fV 16 cF (fV 17 cF fN)
def Yw (a0:cD) (a1:bZ) (Q:Qx):List St:=[⟨(pS (hB false true 4 rA hN) (fV 0 fL (fX 4 qZ (fV 15 (vW 0 (nK 0) nV (nT 0)) Bi))) fN),DP a0 a1 (uj Q) (uk Q)⟩,⟨(pS hN (fV 0 fL (fX 4 qZ (fV 15 Fw Bi))) fN),Qk a0 a1 (ul Q)⟩]
def Gl (a0:cD) (a1:bZ):LP:=eQ [(14451100,Yu a0 a1),(14451101,Yv a0 a1),(93107500,Yw a0 a1)]
def JJ (a0:cD) (a1:bZ):SE:=⟨(E aT),yeY [(jV,jX.pw a0),(sN,kW.pw a1)],yez [(Mo,Nr)],Gl a0 a1,fun _=>none⟩
def Yx (a0:cD) (a1:bZ):SE:=⟨(E aT),yeY [(jV,jX.pw a0),(sN,kW.pw a1)],yez [(Vd,Jh),(Mo,Nr)],Gl a0 a1,fun _=>none⟩
theorem Qm:SEOk (aZ (E aT)) (JJ dX cB):=bK (aQ.uni _) ⟨(sX aT bB),(Bf aT bB),trivial⟩ ⟨⟨by kernel_rfl,by kernel_rfl,rfl,fun az=>dW (by kernel_rfl) az,bB.num _ (by kernel_rfl),by kernel_rfl,(aW (by kernel_rfl))⟩,trivial⟩ bB.ok
theorem um (a0 a1):dF (JJ a0 a1) 10 a Ns false (Yu a0 a1):=fun _=>⟨fun _=>by kernel_rfl,fun _ _=>by kernel_rfl,trivial⟩
theorem uo:dG (aZ (E aT)) (Gl dX cB) [] 14451100 (.loop 14451100 Ns):=fun _ _ _=>cJ.st (aQ.uni _) (cM (Qm) 10) (cS.no _ _) (aW (by kernel_rfl)) (um _ _ _)
theorem uq (a0 a1):dF (JJ a0 a1) 10 a Nt false (Yv a0 a1):=fun _=>⟨fun _=>by kernel_rfl,fun _ _=>by kernel_rfl,fun _=>by kernel_rfl,fun _ _=>by kernel_rfl,trivial⟩
theorem ur:dG (aZ (E aT)) (Gl dX cB) [] 14451101 (.loop 14451101 Nt):=fun _ _ _=>cJ.st (aQ.uni _) (cM (Qm) 10) (cS.no _ _) (aW (by kernel_rfl)) (uq _ _ _)
theorem ut (a0 a1):dF (JJ a0 a1) 10 a Nw false (Yw a0 a1):=fun _=>⟨fun _=>by kernel_rfl,fun _ _=>by kernel_rfl,fun _=>by kernel_rfl,fun _ _=>by kernel_rfl,trivial⟩
theorem uu:dG (aZ (E aT)) (Gl dX cB) [] 93107500 (.loop 93107500 Nw):=fun _ _ _=>cJ.st (aQ.uni _) (cM (Qm) 10) (cS.no _ _) (aW (by kernel_rfl)) (ut _ _ _)
theorem uv:SEOk (aZ (E aT)) (Yx dX cB):=bK (aQ.uni _) ⟨(sX aT bB),(Bf aT bB),trivial⟩ ⟨⟨by kernel_rfl,by kernel_rfl,rfl,fun az=>dW (by kernel_rfl) az,bB.num _ (by kernel_rfl),by kernel_rfl,(dA (l:=[(14451100,.loop 14451100 Ns),(14451101,.loop 14451101 Nt)]) ⟨uo,ur,trivial⟩ (by kernel_rfl))⟩,⟨by kernel_rfl,by kernel_rfl,rfl,fun az=>dW (by kernel_rfl) az,bB.num _ (by kernel_rfl),by kernel_rfl,(aW (by kernel_rfl))⟩,trivial⟩ bB.ok
theorem uw (a0 a1):bR (Yx a0 a1) 11 Nv JI (Ql a0 a1):=fun _ _=>by kernel_rfl
theorem Qn:bP (E aT) (JI.pw yac) CM:=bT bB (uw _ _) (uv) bH.flat (dA (l:=[(93107500,.loop 93107500 Nw)]) ⟨uu,trivial⟩ (by kernel_rfl))
abbrev fQ:Type:=Ls→Ls→Ls→Ls→Int→(Int→Int→Bool→Prop)→Prop
def uT (a0:dP) (a1:lL) (a2:dE) (a3:lH) (a4:bZ) (x0:Ls→Ls→Ls→Ls→Ls→Ls→Ls→Ls→J4 (Int→Bool→Prop)) (x1:Ls→Ls→Ls→Ls→Int→Int→Bool→Prop):Nat→Ls→Ls→Ls→Ls→Ls→Ls→Ls→Ls→J4 (Int→Prop)
 | 0,_,_,_,_,_,_,_,_,_,_,_,_,_=>False
 | n+1,b,c,d,e,f,g,h,i,j,k,l,m,o=>
 (aB (decide (o<m)) (jn (fun (a:Bool→Prop)=>(aB (decide (j<o)) (aA (decide (0≤j)) (aA (decide (j<(((length c):Nat):Int))) (lt (getD c (j.toNat) .nils) (fun p=>(aA (aF zD p) (aA (decide (0≤o)) (aA (decide (o<(((length c):Nat):Int))) (lt (getD c (o.toNat) .nils) (fun q=>(aA (aF zD q) (a0 (bL p) (bL q) a))))))))))) (a false))) (fun p=>(aB p (x1 b c d e j o true) (lt (i64.wrap (o+1)) (uT a0 a1 a2 a3 a4 x0 x1 n b c d e f g h i j k l m))))) (x0 b c d e f g h i j k l m o false))
def uU (a0:dP) (a1:lL) (a2:dE) (a3:lH) (a4:bZ) (x0:Ls→Ls→Ls→Ls→Int→Int→Bool→Prop) (x1:Ls→Ls→Ls→Ls→Ls→Ls→Ls→Ls→J4 (Int→Bool→Prop)):Nat→Ls→Ls→Ls→Ls→Ls→Ls→Ls→Ls→J4 (Int→Prop)
 | 0,_,_,_,_,_,_,_,_,_,_,_,_,_=>False
 | n+1,b,c,d,e,f,g,h,i,j,k,l,m,o=>
 (aB (decide (o<m)) (aA (decide (0≤j)) (aA (decide (j<(((length b):Nat):Int))) (lt (getD b (j.toNat) .nils) (fun p=>(aA (aF zK p) (a2 (aK (aP p 0)) (bL (aP p 1)) (bL (aP p 2)) (fun q r=>(a3 q (((length b):Nat):Int) (fun s t u=>(jn (fun (a:Bool→Prop)=>(aB (j==o) (aA (decide (0≤j)) (aA (decide (j<(((length d):Nat):Int))) (lt (getD d (j.toNat) .nils) (fun v=>(aA (aF zD v) (aA (decide (0≤j)) (aA (decide (j<(((length (bL v)):Nat):Int))) (lt (getD (bL v) (j.toNat) .nils) (fun w=>(aA (aF z2 w) (a4 (aK (aP w 0)) (aK (aP w 1)) s t a))))))))))) (a false))) (fun v=>(aB v (x0 b c d e j o true) (lt (i64.wrap (o+1)) (uU a0 a1 a2 a3 a4 x0 x1 n b c d e f g h i j k l m)))))))))))))) (x1 b c d e f g h i j k l m o false))
def uV (a0:dP) (a1:lL) (a2:dE) (a3:lH) (a4:bZ) (x0:Ls→Ls→Ls→Ls→Int→Int→Bool→Prop) (x1:Ls→Ls→Ls→Ls→Ls→Ls→Ls→Ls→J4 (Int→Bool→Prop)):Nat→Ls→Ls→Ls→Ls→Ls→Ls→Ls→Ls→J4 (Int→Prop)
 | 0,_,_,_,_,_,_,_,_,_,_,_,_,_=>False
 | n+1,b,c,d,e,f,g,h,i,j,k,l,m,o=>
 (aB (decide (o<m)) (aA (decide (0≤j)) (aA (decide (j<(((length d):Nat):Int))) (lt (getD d (j.toNat) .nils) (fun p=>(aA (aF zD p) (aA (decide (0≤j)) (aA (decide (j<(((length (bL p)):Nat):Int))) (lt (getD (bL p) (j.toNat) .nils) (fun q=>(aA (aF z2 q) (aA (decide (0≤j)) (aA (decide (j<(((length d):Nat):Int))) (lt (getD d (j.toNat) .nils) (fun r=>(aA (aF zD r) (aA (decide (0≤o)) (aA (decide (o<(((length (bL r)):Nat):Int))) (lt (getD (bL r) (o.toNat) .nils) (fun s=>(aA (aF z2 s) (a4 (aK (aP q 0)) (aK (aP q 1)) (aK (aP s 0)) (aK (aP s 1)) (fun t=>(aB t (x0 b c d e j o true) (lt (i64.wrap (o+1)) (uV a0 a1 a2 a3 a4 x0 x1 n b c d e f g h i j k l m))))))))))))))))))))))))) (x1 b c d e f g h i j k l m o false))
def uW (a0:dP) (a1:lL) (a2:dE) (a3:lH) (a4:bZ) (x0:Ls→Ls→Ls→Ls→Int→Int→Bool→Prop) (x1:Ls→Ls→Ls→Ls→Ls→Ls→Ls→Ls→J4 (Int→Bool→Prop)):Nat→Ls→Ls→Ls→Ls→Ls→Ls→Ls→Ls→J4 (Int→Prop)
 | 0,_,_,_,_,_,_,_,_,_,_,_,_,_=>False
 | n+1,b,c,d,e,f,g,h,i,j,k,l,m,o=>
 (aB (decide (o<m)) (jn (fun (a:Bool→Prop)=>(aB (o==0) (aA (decide (0≤j)) (aA (decide (j<(((length e):Nat):Int))) (lt (getD e (j.toNat) .nils) (fun p=>(aA (aF z2 p) (aA (decide (0<(((length e):Nat):Int))) (lt (getD e 0 .nils) (fun q=>(aA (aF z2 q) (a (!(((aK (aP p 0)) ==(aK (aP q 0)))&&(((aK (aP p 1)) ==(aK (aP q 1)))&&true))))))))))))) (a false))) (fun p=>(aB p (x0 b c d e j o true) (lt (i64.wrap (o+1)) (uW a0 a1 a2 a3 a4 x0 x1 n b c d e f g h i j k l m))))) (x1 b c d e f g h i j k l m o false))
def uX (a0:dP) (a1:lL) (a2:dE) (a3:lH) (a4:bZ) (x0:Ls→Ls→Ls→Ls→Int→Int→Bool→Prop) (x1:Ls→Ls→Ls→Ls→Ls→Ls→Ls→Ls→J4 (Int→Bool→Prop)):Nat→Ls→Ls→Ls→Ls→Ls→Ls→Ls→Ls→J4 (Int→Prop)
 | 0,_,_,_,_,_,_,_,_,_,_,_,_,_=>False
 | n+1,b,c,d,e,f,g,h,i,j,k,l,m,o=>
 (aB (decide (o<m)) (jn (fun (a:Bool→Prop)=>(aB (j==o) (aA (decide (0≤j)) (aA (decide (j<(((length c):Nat):Int))) (lt (getD c (j.toNat) .nils) (fun p=>(aA (aF zD p) (a ((((length (bL p)):Nat):Int) !=1))))))) (a false))) (fun p=>(aB p (x0 b c d e j o true) (lt (i64.wrap (o+1)) (uX a0 a1 a2 a3 a4 x0 x1 n b c d e f g h i j k l m))))) (x1 b c d e f g h i j k l m o false))
def uY (a0:dP) (a1:lL) (a2:dE) (a3:lH) (a4:bZ) (x0:Ls→Ls→Ls→Ls→Ls→Ls→Ls→Ls→Int→Int→Bool→Prop) (x1:Ls→Ls→Ls→Ls→Int→Int→Bool→Prop):Nat→Ls→Ls→Ls→Ls→Ls→Ls→Ls→Ls→Int→Int→Prop
 | 0,_,_,_,_,_,_,_,_,_,_=>False
 | n+1,b,c,d,e,f,g,h,i,j,k=>
 (aB (decide (k<j)) (∃ m0:Nat,uT a0 a1 a2 a3 a4 (fun l m o p q r s t u v w z A B=>(lt (i64.wrap (w+1)) (uY a0 a1 a2 a3 a4 x0 x1 n l m o p q r s t v))) x1 m0 b c d e f g h i k j k (((length f):Nat):Int) 0) (x0 b c d e f g h i j k false))
def uZ (a0:dP) (a1:lL) (a2:dE) (a3:lH) (a4:bZ) (x0:Ls→Ls→Ls→Ls→Int→Int→Bool→Prop) (x1:Ls→Ls→Ls→Ls→Ls→Ls→Ls→Ls→Int→Int→Bool→Prop):Nat→Ls→Ls→Ls→Ls→Ls→Ls→Ls→Ls→Int→Int→Prop
 | 0,_,_,_,_,_,_,_,_,_,_=>False
 | n+1,b,c,d,e,f,g,h,i,j,k=>
 (aB (decide (k<j)) (∃ m0:Nat,uU a0 a1 a2 a3 a4 x0 (fun l m o p q r s t u v w z A B=>(lt (i64.wrap (w+1)) (uZ a0 a1 a2 a3 a4 x0 x1 n l m o p q r s t v))) m0 b c d e f g h i k j k (((length f):Nat):Int) 0) (x1 b c d e f g h i j k false))
def vC (a0:dP) (a1:lL) (a2:dE) (a3:lH) (a4:bZ) (x0:Ls→Ls→Ls→Ls→Int→Int→Bool→Prop) (x1:Ls→Ls→Ls→Ls→Ls→Ls→Ls→Ls→Int→Int→Bool→Prop):Nat→Ls→Ls→Ls→Ls→Ls→Ls→Ls→Ls→Int→Int→Prop
 | 0,_,_,_,_,_,_,_,_,_,_=>False
 | n+1,b,c,d,e,f,g,h,i,j,k=>
 (aB (decide (k<j)) (∃ m0:Nat,uV a0 a1 a2 a3 a4 x0 (fun l m o p q r s t u v w z A B=>(lt (i64.wrap (w+1)) (vC a0 a1 a2 a3 a4 x0 x1 n l m o p q r s t v))) m0 b c d e f g h i k j k (((length f):Nat):Int) 0) (x1 b c d e f g h i j k false))
def vE (a0:dP) (a1:lL) (a2:dE) (a3:lH) (a4:bZ) (x0:Ls→Ls→Ls→Ls→Int→Int→Bool→Prop) (x1:Ls→Ls→Ls→Ls→Ls→Ls→Ls→Ls→Int→Int→Bool→Prop):Nat→Ls→Ls→Ls→Ls→Ls→Ls→Ls→Ls→Int→Int→Prop
 | 0,_,_,_,_,_,_,_,_,_,_=>False
 | n+1,b,c,d,e,f,g,h,i,j,k=>
 (aB (decide (k<j)) (∃ m0:Nat,uW a0 a1 a2 a3 a4 x0 (fun l m o p q r s t u v w z A B=>(lt (i64.wrap (w+1)) (vE a0 a1 a2 a3 a4 x0 x1 n l m o p q r s t v))) m0 b c d e f g h i k j k (((length f):Nat):Int) 0) (x1 b c d e f g h i j k false))
def vG (a0:dP) (a1:lL) (a2:dE) (a3:lH) (a4:bZ) (x0:Ls→Ls→Ls→Ls→Int→Int→Bool→Prop) (x1:Ls→Ls→Ls→Ls→Ls→Ls→Ls→Ls→Int→Int→Bool→Prop):Nat→Ls→Ls→Ls→Ls→Ls→Ls→Ls→Ls→Int→Int→Prop
 | 0,_,_,_,_,_,_,_,_,_,_=>False
 | n+1,b,c,d,e,f,g,h,i,j,k=>
 (aB (decide (k<j)) (∃ m0:Nat,uX a0 a1 a2 a3 a4 x0 (fun l m o p q r s t u v w z A B=>(lt (i64.wrap (w+1)) (vG a0 a1 a2 a3 a4 x0 x1 n l m o p q r s t v))) m0 b c d e f g h i k j k (((length f):Nat):Int) 0) (x1 b c d e f g h i j k false))
def Qo (a0:dP) (a1:lL) (a2:dE) (a3:lH) (a4:bZ) (b c d e:Ls) (f:Int) (K:Int→Int→Bool→Prop):Prop:=
 (aB (f==1) (jn (fun (a:Ls→Ls→Ls→Ls→Int→Int→Bool→Prop)=>(∃ m0:Nat,uY a0 a1 a2 a3 a4 (fun g h i j k l m o p q r=>(a g h i j 0 0 false)) a m0 b c d e b c d e (((length b):Nat):Int) 0)) (fun g h i j k l m=>(jn (fun (n:Bool→Prop)=>(aB (!m) (a1 g h i j n) (n false))) (fun o=>(aB o (K (-1) (-1) true) (K k l m)))))) (aB (f==2) (jn (fun (s:Ls→Ls→Ls→Ls→Int→Int→Bool→Prop)=>(∃ m0:Nat,uZ a0 a1 a2 a3 a4 s (fun g h i j k l m o p q r=>(s g h i j 0 0 false)) m0 b c d e b c d e (((length b):Nat):Int) 0)) (fun g h i j k l m=>(K k l m))) (aB (f==4) (jn (fun (t:Ls→Ls→Ls→Ls→Int→Int→Bool→Prop)=>(∃ m0:Nat,vC a0 a1 a2 a3 a4 t (fun g h i j k l m o p q r=>(t g h i j 0 0 false)) m0 b c d e b c d e (((length b):Nat):Int) 0)) (fun g h i j k l m=>(K k l m))) (aB (f==8) (jn (fun (u:Ls→Ls→Ls→Ls→Int→Int→Bool→Prop)=>(∃ m0:Nat,vE a0 a1 a2 a3 a4 u (fun g h i j k l m o p q r=>(u g h i j 0 0 false)) m0 b c d e b c d e (((length b):Nat):Int) 0)) (fun g h i j k l m=>(K k l m))) (jn (fun (v:Ls→Ls→Ls→Ls→Int→Int→Bool→Prop)=>(∃ m0:Nat,vG a0 a1 a2 a3 a4 v (fun g h i j k l m o p q r=>(v g h i j 0 0 false)) m0 b c d e b c d e (((length b):Nat):Int) 0)) (fun g h i j k l m=>(K k l m)))))))
def yam:fQ:=Qo cW yac bU cU cB
def oK:fH:=vI u8
def yU:Sg:=⟨(lC fL (lC oK lN)),Int→Int→Bool→Prop,fun K=>(fun r0 r1 r2=>K (.tup [(ic r0),(ic r1),(.bool r2)]))⟩
def ux (Q:Qx):Ls→Ls→Ls→Ls→Ls→Ls→Ls→Ls→J4 (Int→Bool→Prop ):=(fun b c d e f g h i j k l m o p=>Q (.exit 2) [(0,.v (.eptr [(.agg [(.data f),(.data g),(.data h),(.data i)])] 0 0)),(1,.v (.fn (.func CJ) [] [(.ptr 0 1 0 0)])),(7,.v (ic j)),(13,.v (ic k)),(14,.v (ic l)),(21,.v (ic m)),(22,.v (ic o)),(23,.v (.bool p))] [⟨false,false,1,([(.eptr [(.agg [(.data b),(.data c),(.data d),(.data e)])] 0 0)]:Ls)⟩])
def Gm (Q:Qx):Ls→Ls→Ls→Ls→Int→Int→Bool→Prop:=(fun b c d e f g h=>Q .ret [(4,.v (ic f)),(5,.v (ic g)),(6,.v (.bool h))] [⟨false,false,1,([(.eptr [(.agg [(.data b),(.data c),(.data d),(.data e)])] 0 0)]:Ls)⟩])
def uy (Q:Qx):Ls→Ls→Ls→Ls→Ls→Ls→Ls→Ls→J4 (Int→Bool→Prop ):=(fun b c d e f g h i j k l m o p=>Q (.exit 2) [(0,.v (.eptr [(.agg [(.data f),(.data g),(.data h),(.data i)])] 0 0)),(1,.v (.fn (.func CN) [] [(.ptr 0 1 0 0)])),(7,.v (ic j)),(13,.v (ic k)),(14,.v (ic l)),(21,.v (ic m)),(22,.v (ic o)),(23,.v (.bool p))] [⟨false,false,1,([(.eptr [(.agg [(.data b),(.data c),(.data d),(.data e)])] 0 0)]:Ls)⟩])
def uz (Q:Qx):Ls→Ls→Ls→Ls→Ls→Ls→Ls→Ls→J4 (Int→Bool→Prop ):=(fun b c d e f g h i j k l m o p=>Q (.exit 2) [(0,.v (.eptr [(.agg [(.data f),(.data g),(.data h),(.data i)])] 0 0)),(1,.v (.fn (.func CO) [] [(.ptr 0 1 0 0)])),(7,.v (ic j)),(13,.v (ic k)),(14,.v (ic l)),(21,.v (ic m)),(22,.v (ic o)),(23,.v (.bool p))] [⟨false,false,1,([(.eptr [(.agg [(.data b),(.data c),(.data d),(.data e)])] 0 0)]:Ls)⟩])
def va (Q:Qx):Ls→Ls→Ls→Ls→Ls→Ls→Ls→Ls→J4 (Int→Bool→Prop ):=(fun b c d e f g h i j k l m o p=>Q (.exit 2) [(0,.v (.eptr [(.agg [(.data f),(.data g),(.data h),(.data i)])] 0 0)),(1,.v (.fn (.func CP) [] [(.ptr 0 1 0 0)])),(7,.v (ic j)),(13,.v (ic k)),(14,.v (ic l)),(21,.v (ic m)),(22,.v (ic o)),(23,.v (.bool p))] [⟨false,false,1,([(.eptr [(.agg [(.data b),(.data c),(.data d),(.data e)])] 0 0)]:Ls)⟩])
def vb (Q:Qx):Ls→Ls→Ls→Ls→Ls→Ls→Ls→Ls→J4 (Int→Bool→Prop ):=(fun b c d e f g h i j k l m o p=>Q (.exit 2) [(0,.v (.eptr [(.agg [(.data f),(.data g),(.data h),(.data i)])] 0 0)),(1,.v (.fn (.func CQ) [] [(.ptr 0 1 0 0)])),(7,.v (ic j)),(13,.v (ic k)),(14,.v (ic l)),(21,.v (ic m)),(22,.v (ic o)),(23,.v (.bool p))] [⟨false,false,1,([(.eptr [(.agg [(.data b),(.data c),(.data d),(.data e)])] 0 0)]:Ls)⟩])
def vc (Q:Qx):Ls→Ls→Ls→Ls→Ls→Ls→Ls→Ls→Int→Int→Bool→Prop:=(fun b c d e f g h i j k l=>Q (.exit 0) [(0,.v (.eptr [(.agg [(.data f),(.data g),(.data h),(.data i)])] 0 0)),(1,.v (.fn (.func CJ) [] [(.ptr 0 1 0 0)])),(13,.v (ic j)),(14,.v (ic k)),(15,.v (.bool l))] [⟨false,false,1,([(.eptr [(.agg [(.data b),(.data c),(.data d),(.data e)])] 0 0)]:Ls)⟩])
def Gn (Q:Qx):Ls→Ls→Ls→Ls→Int→Int→Bool→Prop:=(fun b c d e f g h=>Q .ret [(4,.v (ic f)),(5,.v (ic g)),(6,.v (.bool h))] [⟨false,false,1,([(.eptr [(.agg [(.data b),(.data c),(.data d),(.data e)])] 0 0)]:Ls)⟩])
def vd (Q:Qx):Ls→Ls→Ls→Ls→Ls→Ls→Ls→Ls→Int→Int→Bool→Prop:=(fun b c d e f g h i j k l=>Q (.exit 0) [(0,.v (.eptr [(.agg [(.data f),(.data g),(.data h),(.data i)])] 0 0)),(1,.v (.fn (.func CN) [] [(.ptr 0 1 0 0)])),(13,.v (ic j)),(14,.v (ic k)),(15,.v (.bool l))] [⟨false,false,1,([(.eptr [(.agg [(.data b),(.data c),(.data d),(.data e)])] 0 0)]:Ls)⟩])
def ve (Q:Qx):Ls→Ls→Ls→Ls→Ls→Ls→Ls→Ls→Int→Int→Bool→Prop:=(fun b c d e f g h i j k l=>Q (.exit 0) [(0,.v (.eptr [(.agg [(.data f),(.data g),(.data h),(.data i)])] 0 0)),(1,.v (.fn (.func CO) [] [(.ptr 0 1 0 0)])),(13,.v (ic j)),(14,.v (ic k)),(15,.v (.bool l))] [⟨false,false,1,([(.eptr [(.agg [(.data b),(.data c),(.data d),(.data e)])] 0 0)]:Ls)⟩])
def vf (Q:Qx):Ls→Ls→Ls→Ls→Ls→Ls→Ls→Ls→Int→Int→Bool→Prop:=(fun b c d e f g h i j k l=>Q (.exit 0) [(0,.v (.eptr [(.agg [(.data f),(.data g),(.data h),(.data i)])] 0 0)),(1,.v (.fn (.func CP) [] [(.ptr 0 1 0 0)])),(13,.v (ic j)),(14,.v (ic k)),(15,.v (.bool l))] [⟨false,false,1,([(.eptr [(.agg [(.data b),(.data c),(.data d),(.data e)])] 0 0)]:Ls)⟩])
def vg (Q:Qx):Ls→Ls→Ls→Ls→Ls→Ls→Ls→Ls→Int→Int→Bool→Prop:=(fun b c d e f g h i j k l=>Q (.exit 0) [(0,.v (.eptr [(.agg [(.data f),(.data g),(.data h),(.data i)])] 0 0)),(1,.v (.fn (.func CQ) [] [(.ptr 0 1 0 0)])),(13,.v (ic j)),(14,.v (ic k)),(15,.v (.bool l))] [⟨false,false,1,([(.eptr [(.agg [(.data b),(.data c),(.data d),(.data e)])] 0 0)]:Ls)⟩])
def jK:HPt:=hB false false 1 (rC fL rN) hN
def Gp:fH:=vF CJ lN lK
def rM:Pat aG:=fV 7 cF (fV 13 cF (fV 14 cF (fV 21 cF (fV 22 cF fN))))
def Gq:fH:=vF CN lN lK
def Gr:fH:=vF CO lN lK
def Gs:fH:=vF CP lN lK
def Gt:fH:=vF CQ lN lK
def Yy (a0:dP) (a1:lL) (a2:dE) (a3:lH) (a4:bZ) (Q:Qx):List St:=[⟨(pS jK (fV 0 fL (fV 1 Gp rM)) fN),uT a0 a1 a2 a3 a4 (ux Q) (Gm Q)⟩,⟨(pS jK (fV 0 fL (fV 1 Gq rM)) fN),uU a0 a1 a2 a3 a4 (Gm Q) (uy Q)⟩,⟨(pS jK (fV 0 fL (fV 1 Gr rM)) fN),uV a0 a1 a2 a3 a4 (Gm Q) (uz Q)⟩,⟨(pS jK (fV 0 fL (fV 1 Gs rM)) fN),uW a0 a1 a2 a3 a4 (Gm Q) (va Q)⟩,⟨(pS jK (fV 0 fL (fV 1 Gt rM)) fN),uX a0 a1 a2 a3 a4 (Gm Q) (vb Q)⟩]
def Yz (a0:dP) (a1:lL) (a2:dE) (a3:lH) (a4:bZ) (Q:Qx):List St:=[⟨(pS jK (fV 0 fL (fV 1 Gp oJ)) fN),uY a0 a1 a2 a3 a4 (vc Q) (Gn Q)⟩,⟨(pS jK (fV 0 fL (fV 1 Gq oJ)) fN),uZ a0 a1 a2 a3 a4 (Gn Q) (vd Q)⟩,⟨(pS jK (fV 0 fL (fV 1 Gr oJ)) fN),vC a0 a1 a2 a3 a4 (Gn Q) (ve Q)⟩,⟨(pS jK (fV 0 fL (fV 1 Gs oJ)) fN),vE a0 a1 a2 a3 a4 (Gn Q) (vf Q)⟩,⟨(pS jK (fV 0 fL (fV 1 Gt oJ)) fN),vG a0 a1 a2 a3 a4 (Gn Q) (vg Q)⟩]
def JK (a0:dP) (a1:lL) (a2:dE) (a3:lH) (a4:bZ):LP:=eQ [(97930200,Yy a0 a1 a2 a3 a4),(97930201,Yz a0 a1 a2 a3 a4)]
def Qp (a0:dP) (a1:lL) (a2:dE) (a3:lH) (a4:bZ):SE:=⟨(E aT),yeY [(FM,rG.pw a0),(CM,JI.pw a1),(jG,sU.pw a2),(FO,Ju.pw a3),(sN,kW.pw a4)],yez [(CJ,Np),(CN,Ny),(CO,Nz),(CP,NA),(CQ,NB)],JK a0 a1 a2 a3 a4,fun _=>none⟩
def YA (a0:dP) (a1:lL) (a2:dE) (a3:lH) (a4:bZ):SE:=⟨(E aT),yeY [(FM,rG.pw a0),(CM,JI.pw a1),(jG,sU.pw a2),(FO,Ju.pw a3),(sN,kW.pw a4)],yez [(Vb,Jf),(CJ,Np),(CN,Ny),(CO,Nz),(CP,NA),(CQ,NB)],JK a0 a1 a2 a3 a4,fun _=>none⟩
theorem YB:SEOk (aZ (E aT)) (Qp cW yac bU cU cB):=bK (aQ.uni _) ⟨(Qh aT bB),Qn,(sV aT bB),(OB aT bB),(Bf aT bB),trivial⟩ ⟨⟨by kernel_rfl,by kernel_rfl,rfl,fun az=>dW (by kernel_rfl) az,bB.num _ (by kernel_rfl),by kernel_rfl,(aW (by kernel_rfl))⟩,⟨by kernel_rfl,by kernel_rfl,rfl,fun az=>dW (by kernel_rfl) az,bB.num _ (by kernel_rfl),by kernel_rfl,(aW (by kernel_rfl))⟩,⟨by kernel_rfl,by kernel_rfl,rfl,fun az=>dW (by kernel_rfl) az,bB.num _ (by kernel_rfl),by kernel_rfl,(aW (by kernel_rfl))⟩,⟨by kernel_rfl,by kernel_rfl,rfl,fun az=>dW (by kernel_rfl) az,bB.num _ (by kernel_rfl),by kernel_rfl,(aW (by kernel_rfl))⟩,⟨by kernel_rfl,by kernel_rfl,rfl,fun az=>dW (by kernel_rfl) az,bB.num _ (by kernel_rfl),by kernel_rfl,(aW (by kernel_rfl))⟩,trivial⟩ bB.ok
theorem vh (a0 a1 a2 a3 a4):dF (Qp a0 a1 a2 a3 a4) 10 a Jg false (Yy a0 a1 a2 a3 a4):=fun _=>⟨fun _=>by kernel_rfl,fun _ _=>by kernel_rfl,fun _=>by kernel_rfl,fun _ _=>by kernel_rfl,fun _=>by kernel_rfl,fun _ _=>by kernel_rfl,fun _=>by kernel_rfl,fun _ _=>by kernel_rfl,fun _=>by kernel_rfl,fun _ _=>by kernel_rfl,trivial⟩
theorem YC:dG (aZ (E aT)) (JK cW yac bU cU cB) [] 97930200 (.loop 97930200 Jg):=fun _ _ _=>cJ.st (aQ.uni _) (cM (YB) 10) (cS.no _ _) (aW (by kernel_rfl)) (vh _ _ _ _ _ _)
theorem vi (a0 a1 a2 a3 a4):dF (Qp a0 a1 a2 a3 a4) 10 a Nq false (Yz a0 a1 a2 a3 a4):=fun _=>⟨fun _=>by kernel_rfl,fun _ _=>by kernel_rfl,fun _=>by kernel_rfl,fun _ _=>by kernel_rfl,fun _=>by kernel_rfl,fun _ _=>by kernel_rfl,fun _=>by kernel_rfl,fun _ _=>by kernel_rfl,fun _=>by kernel_rfl,fun _ _=>by kernel_rfl,trivial⟩
theorem vk:dG (aZ (E aT)) (JK cW yac bU cU cB) [] 97930201 (.loop 97930201 Nq):=fun _ _ _=>cJ.st (aQ.uni _) (cM (YB) 10) (cS.no _ _) (dA (l:=[(97930200,.loop 97930200 Jg)]) ⟨YC,trivial⟩ (by kernel_rfl)) (vi _ _ _ _ _ _)
theorem vl:SEOk (aZ (E aT)) (YA cW yac bU cU cB):=bK (aQ.uni _) ⟨(Qh aT bB),Qn,(sV aT bB),(OB aT bB),(Bf aT bB),trivial⟩ ⟨⟨by kernel_rfl,by kernel_rfl,rfl,fun az=>dW (by kernel_rfl) az,bB.num _ (by kernel_rfl),by kernel_rfl,(dA (l:=[(97930200,.loop 97930200 Jg),(97930201,.loop 97930201 Nq)]) ⟨YC,vk,trivial⟩ (by kernel_rfl))⟩,⟨by kernel_rfl,by kernel_rfl,rfl,fun az=>dW (by kernel_rfl) az,bB.num _ (by kernel_rfl),by kernel_rfl,(aW (by kernel_rfl))⟩,⟨by kernel_rfl,by kernel_rfl,rfl,fun az=>dW (by kernel_rfl) az,bB.num _ (by kernel_rfl),by kernel_rfl,(aW (by kernel_rfl))⟩,⟨by kernel_rfl,by kernel_rfl,rfl,fun az=>dW (by kernel_rfl) az,bB.num _ (by kernel_rfl),by kernel_rfl,(aW (by kernel_rfl))⟩,⟨by kernel_rfl,by kernel_rfl,rfl,fun az=>dW (by kernel_rfl) az,bB.num _ (by kernel_rfl),by kernel_rfl,(aW (by kernel_rfl))⟩,⟨by kernel_rfl,by kernel_rfl,rfl,fun az=>dW (by kernel_rfl) az,bB.num _ (by kernel_rfl),by kernel_rfl,(aW (by kernel_rfl))⟩,trivial⟩ bB.ok
theorem vm (a0 a1 a2 a3 a4):bR (YA a0 a1 a2 a3 a4) 11 Wc yU (Qo a0 a1 a2 a3 a4):=fun _ _=>by kernel_rfl
theorem yV:bP (E aT) (yU.pw yam) iE:=bT bB (vm _ _ _ _ _) (vl) bH.flat (aW (by kernel_rfl))
abbrev yW:Type:=Ls→Ls→(Int→Ls→Int→Prop)→Prop
def DQ (a0:fK) (a1:dE) (a2:cD) (a3:cY) (a4:fQ) (x0:Ls→Ls→Ls→Ls→Int→Int→Bool→Prop) (x1:Ls→Ls→Ls→Ls→Int→Prop):Nat→Ls→Ls→Ls→Ls→Int→Int→Prop
 | 0,_,_,_,_,_,_=>False
 | n+1,b,c,d,e,f,g=>
 (aB (decide (g<f)) (aA (decide (0≤g)) (aA (decide (g<(((length c):Nat):Int))) (lt (getD c (g.toNat) .nils) (fun h=>(aA (aF zK h) (a1 (aK (aP h 0)) (bL (aP h 1)) (bL (aP h 2)) (fun i j=>(aA (decide (0≤g)) (aA (decide (g<(((length e):Nat):Int))) (lt (getD e (g.toNat) .nils) (fun k=>(aA (aF zD k) (aA (decide (0≤g)) (aA (decide (g<(((length (bL k)):Nat):Int))) (lt (getD (bL k) (g.toNat) .nils) (fun l=>(aA (aF z2 l) (a2 i (fun m o=>(a3 (aK (aP l 0)) (aK (aP l 1)) m o (fun p q r=>(aB (r !=0) (x1 b c d e r) (aA (decide ((length b)=(length b))) (aA (decide ((0+(length b))≤(length b))) (aA (!(decide (((0+(length b))+1)≤(length b)))) (aA (decide ((length b)=(length b))) (aA (decide ((((length b)+1)+64)*(16+1)≤room)) (lt (i64.wrap (g+1)) (fun s=>(aA (decide ((length (b++([(.agg [(ic p),(ic q)])]:Ls)))=length (b++([(.agg [(ic p),(ic q)])]:Ls)))&&decide ((length (b++([(.agg [(ic p),(ic q)])]:Ls)))=length (b++([(.agg [(ic p),(ic q)])]:Ls)))) (DQ a0 a1 a2 a3 a4 x0 x1 n (b++([(.agg [(ic p),(ic q)])]:Ls)) c d e f s))))))))))))))))))))))))))))))) (x0 b c d e f g false))
def JL (a0:fK) (a1:dE) (a2:cD) (a3:cY) (a4:fQ) (x0:Ls→Ls→Ls→Int→Int→Bool→Prop) (x1:Ls→Ls→Ls→Int→Prop) (x2:Ls→Ls→Ls→Ls→Int→Int→Bool→Prop) (x3:Ls→Ls→Ls→Ls→Int→Prop):Nat→Ls→Ls→Ls→Int→Int→Prop
 | 0,_,_,_,_,_=>False
 | n+1,b,c,d,e,f=>
 (aB (decide (f<e)) (aA (decide (0≤f)) (aA (decide (f<(((length b):Nat):Int))) (lt (getD b (f.toNat) .nils) (fun g=>(aA (aF zK g) (a1 (aK (aP g 0)) (bL (aP g 1)) (bL (aP g 2)) (fun h i=>(aA (decide (0≤f)) (aA (decide (f<(((length d):Nat):Int))) (lt (getD d (f.toNat) .nils) (fun j=>(aA (aF zD j) (aA (decide (0≤f)) (aA (decide (f<(((length (bL j)):Nat):Int))) (lt (getD (bL j) (f.toNat) .nils) (fun k=>(aA (aF z2 k) (a2 h (fun l m=>(a3 (aK (aP k 0)) (aK (aP k 1)) l m (fun o p q=>(aB (q !=0) (x1 b c d q) (lt (i64.wrap (f+1)) (fun r=>(aA (decide (1=length ([(.agg [(ic o),(ic p)])]:Ls))&&decide (1=length ([(.agg [(ic o),(ic p)])]:Ls))) (DQ a0 a1 a2 a3 a4 x2 x3 n ([(.agg [(ic o),(ic p)])]:Ls) b c d e r)))))))))))))))))))))))))) (x0 b c d e f false))
def Qq (a0:fK) (a1:dE) (a2:cD) (a3:cY) (a4:fQ) (x0:Ls→Ls→Ls→Int→Int→Ls→Int→Bool→Prop):Nat→Ls→Ls→Ls→Int→Int→Ls→Int→Prop
 | 0,_,_,_,_,_,_,_=>False
 | n+1,b,c,d,e,f,g,h=>
 (aB (decide (h<5)) (jn (fun (a:Int→Prop)=>(aA (!(decide (h<0))) (lt (u8.wrap (1*2 ^ (min h.toNat u8.bits))) (fun i=>(a4 b c d ([]:Ls) i (fun j k l=>(aB (!l) (aA (!(decide (h<0))) (lt (u8.wrap (1*2 ^ (min h.toNat u8.bits))) (fun m=>(lt (u8.wrap (BitVec.ofInt u8.bits f|||BitVec.ofInt u8.bits m).toNat) a)))) (a f)))))))) (fun i=>(lt (i64.wrap (h+1)) (Qq a0 a1 a2 a3 a4 x0 n b c d e i g)))) (x0 b c d e f g h false))
def yX (a0:fK) (a1:dE) (a2:cD) (a3:cY) (a4:fQ) (x0:Ls→Ls→Ls→Ls→Int→Int→Ls→Int→Bool→Prop):Nat→Ls→Ls→Ls→Ls→Int→Int→Ls→Int→Prop
 | 0,_,_,_,_,_,_,_,_=>False
 | n+1,b,c,d,e,f,g,h,i=>
 (aB (decide (i<5)) (jn (fun (a:Int→Prop)=>(aA (!(decide (i<0))) (lt (u8.wrap (1*2 ^ (min i.toNat u8.bits))) (fun j=>(aA (decide ((length b)=(length b))) (aA (decide ((0+(length b))≤(length b))) (a4 c d e (take (length b) b) j (fun k l m=>(aB (!m) (aA (!(decide (i<0))) (lt (u8.wrap (1*2 ^ (min i.toNat u8.bits))) (fun o=>(lt (u8.wrap (BitVec.ofInt u8.bits g|||BitVec.ofInt u8.bits o).toNat) a)))) (a g)))))))))) (fun j=>(lt (i64.wrap (i+1)) (fun k=>(aA (decide ((length b)=length b)&&decide ((length b)=length b)) (yX a0 a1 a2 a3 a4 x0 n b c d e f j h k)))))) (x0 b c d e f g h i false))
def Bj (a0:fK) (a1:dE) (a2:cD) (a3:cY) (a4:fQ) (b c:Ls) (K:Int→Ls→Int→Prop):Prop:=
 (a0 b c (fun d e=>(aB (e !=0) (aB (e==0) False (aB (e !=0) (K 0 ([]:Ls) e) False)) (jn (fun (a:Ls→Ls→Ls→Int→Prop)=>(jn (fun (n:Ls→Ls→Ls→Ls→Int→Prop)=>(∃ m0:Nat,JL a0 a1 a2 a3 a4 (fun f g h i j k=>(a f g h 0)) a (fun f g h i j k l=>(n f g h i 0)) n m0 b c d (((length b):Nat):Int) 0)) (fun f g h i j=>(aB (j !=0) (K 0 ([]:Ls) j) (aA (decide ((length f)=length f)&&decide ((length f)=length f)) (∃ m0:Nat,yX a0 a1 a2 a3 a4 (fun k l m o p q r s t=>(K q r 0)) m0 f g h i 0 0 i 0)))))) (fun f g h i=>(aB (i !=0) (K 0 ([]:Ls) i) (∃ m0:Nat,Qq a0 a1 a2 a3 a4 (fun j k l m o p q r=>(K o p 0)) m0 f g h 0 0 h 0)))))))
def ybj:yW:=Bj yak bU dX fJ yam
def JM:Sg:=⟨uR,Int→Ls→Int→Prop,fun K=>(fun r0 r1 r2=>K (.tup [(.agg [(.int .u8 r0),(.data r1)]),(ic r2)]))⟩
def vn (Q:Qx):Ls→Ls→Ls→Int→Int→Bool→Prop:=(fun b c d e f g=>Q (.exit 0) [(0,.v (.ptr 0 1 0 0)),(12,.v (ic e)),(13,.v (ic f)),(14,.v (.bool g))] [⟨false,false,4,([(.agg [(.data b),(.data c),(.data d),.nils])]:Ls)⟩])
def vo (Q:Qx):Ls→Ls→Ls→Int→Prop:=(fun b c d e=>Q .ret [(2,.v (ic e))] [⟨false,false,4,([(.agg [(.data b),(.data c),(.data d),.nils])]:Ls)⟩])
def YD (Q:Qx):Ls→Ls→Ls→Ls→Int→Int→Bool→Prop:=(fun b c d e f g h=>Q (.exit 0) [(0,.v (.ptr 0 1 0 0)),(12,.v (ic f)),(13,.v (ic g)),(14,.v (.bool h))] [⟨false,false,4,([(.agg [(.data c),(.data d),(.data e),(.own 1 0 (length b) (length b) none)])]:Ls)⟩,⟨false,true,2,b⟩])
def YE (Q:Qx):Ls→Ls→Ls→Ls→Int→Prop:=(fun b c d e f=>Q .ret [(2,.v (ic f))] [⟨false,false,4,([(.agg [(.data c),(.data d),(.data e),(.own 1 0 (length b) (length b) none)])]:Ls)⟩,⟨false,true,2,b⟩])
def vp (Q:Qx):Ls→Ls→Ls→Int→Int→Ls→Int→Bool→Prop:=(fun b c d e f g h i=>Q (.exit 0) [(4,.box (.agg [(.int .u8 e),.nils])),(6,.v (.ptr 0 1 0 0)),(8,.box (.agg [(.int .u8 f),(.data g)])),(32,.v (ic h)),(33,.v (.bool i))] [⟨false,false,4,([(.agg [(.data b),(.data c),(.data d),.nils])]:Ls)⟩])
def vq (Q:Qx):Ls→Ls→Ls→Ls→Int→Int→Ls→Int→Bool→Prop:=(fun b c d e f g h i j=>Q (.exit 0) [(4,.box (.agg [(.int .u8 f),.nils])),(6,.v (.ptr 0 1 0 0)),(8,.box (.agg [(.int .u8 g),(.data h)])),(32,.v (ic i)),(33,.v (.bool j))] [⟨false,false,4,([(.agg [(.data c),(.data d),(.data e),(.own 1 0 (length b) (length b) none)])]:Ls)⟩,⟨false,true,2,b⟩])
def vH:HPt:=hB false false 4 (rC (vA (lC vD (lC vD (lC vD (lC Fw lN))))) rN) hN
def Gu:Pat aG:=fV 0 uO (fV 12 cF (fV 13 cF fN))
def Bk:Pat pO:=pS vH Gu fN
def Bl:HPt:=hB false false 4 (rC (vA (lC vD (lC vD (lC vD (lC (vW 1 (nK 0) (nT 1) (nT 1)) lN))))) rN) (hB false true 2 rA hN)
def Bm:Pat pO:=pS Bl Gu fN
def YF (a0:fK) (a1:dE) (a2:cD) (a3:cY) (a4:fQ) (Q:Qx):List St:=[⟨Bk,JL a0 a1 a2 a3 a4 (vn Q) (vo Q) (YD Q) (YE Q)⟩,⟨Bm,fun n b c d e f g=>DQ a0 a1 a2 a3 a4 (YD Q) (YE Q) n e b c d f g⟩]
def vJ:fH:=vA (lC oK yG)
def Gv:Pat aG:=fX 4 (vA (lC oK (lC Fw lN))) (fV 6 uO (fX 8 vJ (fV 32 cF fN)))
def YG (a0:fK) (a1:dE) (a2:cD) (a3:cY) (a4:fQ) (Q:Qx):List St:=[⟨(pS vH Gv fN),Qq a0 a1 a2 a3 a4 (vp Q)⟩,⟨(pS Bl Gv fN),fun n b c d e f g h i=>yX a0 a1 a2 a3 a4 (vq Q) n e b c d f g h i⟩]
def JN (a0:fK) (a1:dE) (a2:cD) (a3:cY) (a4:fQ):LP:=eQ [(20643600,YF a0 a1 a2 a3 a4),(65264200,YG a0 a1 a2 a3 a4)]
def Qr (a0:fK) (a1:dE) (a2:cD) (a3:cY) (a4:fQ):SE:=⟨(E aT),yeY [(jF,yS.pw a0),(jG,sU.pw a1),(jV,jX.pw a2),(jH,jI.pw a3),(iE,yU.pw a4)],yez [(xZ,yC)],JN a0 a1 a2 a3 a4,fun _=>none⟩
def YH (a0:fK) (a1:dE) (a2:cD) (a3:cY) (a4:fQ):SE:=⟨(E aT),yeY [(jF,yS.pw a0),(jG,sU.pw a1),(jV,jX.pw a2),(jH,jI.pw a3),(iE,yU.pw a4)],yez [(xZ,yC),(FJ,AM)],JN a0 a1 a2 a3 a4,fun _=>none⟩
theorem YI:SEOk (aZ (E aT)) (Qr yak bU dX fJ yam):=bK (aQ.uni _) ⟨(yT aT bB),(sV aT bB),(sX aT bB),(yM aT bB),yV,trivial⟩ ⟨⟨by kernel_rfl,by kernel_rfl,rfl,fun az=>dW (by kernel_rfl) az,bB.num _ (by kernel_rfl),by kernel_rfl,(aW (by kernel_rfl))⟩,trivial⟩ bB.ok
theorem vt (a0 a1 a2 a3 a4):dF (Qr a0 a1 a2 a3 a4) 10 a pP false (YF a0 a1 a2 a3 a4):=fun _=>⟨fun _=>by kernel_rfl,fun _ _=>by kernel_rfl,fun _=>by kernel_rfl,fun _ _=>by kernel_rfl,trivial⟩
theorem vv:dG (aZ (E aT)) (JN yak bU dX fJ yam) [] 20643600 (.loop 20643600 pP):=fun _ _ _=>cJ.st (aQ.uni _) (cM (YI) 10) (cS.no _ _) (aW (by kernel_rfl)) (vt _ _ _ _ _ _)
theorem vw (a0 a1 a2 a3 a4):dF (Qr a0 a1 a2 a3 a4) 10 a CU false (YG a0 a1 a2 a3 a4):=fun _=>⟨fun _=>by kernel_rfl,fun _ _=>by kernel_rfl,fun _=>by kernel_rfl,fun _ _=>by kernel_rfl,trivial⟩
theorem vz:dG (aZ (E aT)) (JN yak bU dX fJ yam) [] 65264200 (.loop 65264200 CU):=fun _ _ _=>cJ.st (aQ.uni _) (cM (YI) 10) (cS.no _ _) (aW (by kernel_rfl)) (vw _ _ _ _ _ _)
theorem wa:SEOk (aZ (E aT)) (YH yak bU dX fJ yam):=bK (aQ.uni _) ⟨(yT aT bB),(sV aT bB),(sX aT bB),(yM aT bB),yV,trivial⟩ ⟨⟨by kernel_rfl,by kernel_rfl,rfl,fun az=>dW (by kernel_rfl) az,bB.num _ (by kernel_rfl),by kernel_rfl,(aW (by kernel_rfl))⟩,⟨by kernel_rfl,by kernel_rfl,rfl,fun az=>dW (by kernel_rfl) az,bB.num _ (by kernel_rfl),by kernel_rfl,(dA (l:=[(20643600,.loop 20643600 pP)]) ⟨vv,trivial⟩ (by kernel_rfl))⟩,trivial⟩ bB.ok
theorem we (a0 a1 a2 a3 a4):bR (YH a0 a1 a2 a3 a4) 11 CT JM (Bj a0 a1 a2 a3 a4):=fun _ _=>by kernel_rfl
theorem Qs:bP (E aT) (JM.pw ybj) kV:=bT bB (we _ _ _ _ _) (wa) bH.flat (dA (l:=[(65264200,.loop 65264200 CU)]) ⟨vz,trivial⟩ (by kernel_rfl))
abbrev Gw:Type:=Ls→Ls→Int→(Int→Int→Bool→Int→Prop)→Prop
def DR (a0:gN) (a1:fK) (a2:dE) (a3:cD) (a4:cY) (a5:fQ) (x2:Ls→Ls→Ls→Ls→Int→Int→Bool→Prop) (x3:Ls→Ls→Ls→Ls→Int→Prop):Nat→Ls→Ls→Ls→Ls→Int→Int→Prop
 | 0,_,_,_,_,_,_=>False
 | n+1,b,c,d,e,f,g=>
 (aB (decide (g<f)) (aA (decide (0≤g)) (aA (decide (g<(((length c):Nat):Int))) (lt (getD c (g.toNat) .nils) (fun h=>(aA (aF zK h) (a2 (aK (aP h 0)) (bL (aP h 1)) (bL (aP h 2)) (fun i j=>(aA (decide (0≤g)) (aA (decide (g<(((length e):Nat):Int))) (lt (getD e (g.toNat) .nils) (fun k=>(aA (aF zD k) (aA (decide (0≤g)) (aA (decide (g<(((length (bL k)):Nat):Int))) (lt (getD (bL k) (g.toNat) .nils) (fun l=>(aA (aF z2 l) (a3 i (fun m o=>(a4 (aK (aP l 0)) (aK (aP l 1)) m o (fun p q r=>(aB (r !=0) (x3 b c d e r) (aA (decide ((length b)=(length b))) (aA (decide ((0+(length b))≤(length b))) (aA (!(decide (((0+(length b))+1)≤(length b)))) (aA (decide ((length b)=(length b))) (aA (decide ((((length b)+1)+64)*(16+1)≤room)) (lt (i64.wrap (g+1)) (fun s=>(aA (decide ((length (b++([(.agg [(ic p),(ic q)])]:Ls)))=length (b++([(.agg [(ic p),(ic q)])]:Ls)))&&decide ((length (b++([(.agg [(ic p),(ic q)])]:Ls)))=length (b++([(.agg [(ic p),(ic q)])]:Ls)))) (DR a0 a1 a2 a3 a4 a5 x2 x3 n (b++([(.agg [(ic p),(ic q)])]:Ls)) c d e f s))))))))))))))))))))))))))))))) (x2 b c d e f g false))
def JO (a0:gN) (a1:fK) (a2:dE) (a3:cD) (a4:cY) (a5:fQ) (x0:Ls→Ls→Ls→Int→Int→Bool→Prop) (x1:Ls→Ls→Ls→Int→Prop) (x2:Ls→Ls→Ls→Ls→Int→Int→Bool→Prop) (x3:Ls→Ls→Ls→Ls→Int→Prop):Nat→Ls→Ls→Ls→Int→Int→Prop
 | 0,_,_,_,_,_=>False
 | n+1,b,c,d,e,f=>
 (aB (decide (f<e)) (aA (decide (0≤f)) (aA (decide (f<(((length b):Nat):Int))) (lt (getD b (f.toNat) .nils) (fun g=>(aA (aF zK g) (a2 (aK (aP g 0)) (bL (aP g 1)) (bL (aP g 2)) (fun h i=>(aA (decide (0≤f)) (aA (decide (f<(((length d):Nat):Int))) (lt (getD d (f.toNat) .nils) (fun j=>(aA (aF zD j) (aA (decide (0≤f)) (aA (decide (f<(((length (bL j)):Nat):Int))) (lt (getD (bL j) (f.toNat) .nils) (fun k=>(aA (aF z2 k) (a3 h (fun l m=>(a4 (aK (aP k 0)) (aK (aP k 1)) l m (fun o p q=>(aB (q !=0) (x1 b c d q) (lt (i64.wrap (f+1)) (fun r=>(aA (decide (1=length ([(.agg [(ic o),(ic p)])]:Ls))&&decide (1=length ([(.agg [(ic o),(ic p)])]:Ls))) (DR a0 a1 a2 a3 a4 a5 x2 x3 n ([(.agg [(ic o),(ic p)])]:Ls) b c d e r)))))))))))))))))))))))))) (x0 b c d e f false))
def JP (a0:gN) (a1:fK) (a2:dE) (a3:cD) (a4:cY) (a5:fQ) (b c:Ls) (d:Int) (K:Int→Int→Bool→Int→Prop):Prop:=
 (a0 b c (fun e=>(aB (e !=0) (K 0 0 false e) (jn (fun (r:Bool→Prop)=>(aB (d==8) (r true) (jn (fun (a:Bool→Prop)=>(aB (d==1) (a true) (aB (d==2) (a true) (aB (d==4) (a true) (a (d==16)))))) (fun f=>(aB f (r false) (K 0 0 false 2)))))) (fun f=>(a1 b c (fun g h=>(aB (h !=0) (jn (fun (s:Bool→Prop)=>(aB (h==0) (s f) (s false))) (fun i=>(aB i False (aB (h !=0) (K 0 0 false h) False)))) (jn (fun (t:Ls→Ls→Ls→Int→Prop)=>(aB f (jn (fun (u:Ls→Ls→Ls→Int→Prop)=>(jn (fun (v:Ls→Ls→Ls→Ls→Int→Prop)=>(∃ n:Nat,JO a0 a1 a2 a3 a4 a5 (fun i j k l m o=>(u i j k 0)) u (fun i j k l m o p=>(v i j k l 0)) v n b c g (((length b):Nat):Int) 0)) (fun i j k l m=>(aB (m !=0) (K 0 0 false m) (aA (decide ((length i)=(length i))) (aA (decide ((0+(length i))≤(length i))) (a5 j k l (take (length i) i) d (fun o p q=>(K o p q 0))))))))) t) (t b c g 0))) (fun i j k l=>(aB (l !=0) (K 0 0 false l) (a5 i j k ([]:Ls) d (fun m o p=>(K m o p 0))))))))))))))
def ybq:Gw:=JP ybi yak bU dX fJ yam
def Bn:jE:=lC vD (lC jJ (lC oK lN))
def JQ:Sg:=⟨Bn,Int→Int→Bool→Int→Prop,fun K=>(fun r0 r1 r2 r3=>K (.tup [(ic r0),(ic r1),(.bool r2),(ic r3)]))⟩
def wg (Q:Qx):Ls→Ls→Ls→Int→Int→Bool→Prop:=(fun b c d e f g=>Q (.exit 0) [(0,.v (.ptr 0 1 0 0)),(12,.v (ic e)),(13,.v (ic f)),(14,.v (.bool g))] [⟨false,false,4,([(.agg [(.data b),(.data c),(.data d),.nils])]:Ls)⟩])
def wh (Q:Qx):Ls→Ls→Ls→Int→Prop:=(fun b c d e=>Q .ret [(2,.v (ic e))] [⟨false,false,4,([(.agg [(.data b),(.data c),(.data d),.nils])]:Ls)⟩])
def YJ (Q:Qx):Ls→Ls→Ls→Ls→Int→Int→Bool→Prop:=(fun b c d e f g h=>Q (.exit 0) [(0,.v (.ptr 0 1 0 0)),(12,.v (ic f)),(13,.v (ic g)),(14,.v (.bool h))] [⟨false,false,4,([(.agg [(.data c),(.data d),(.data e),(.own 1 0 (length b) (length b) none)])]:Ls)⟩,⟨false,true,2,b⟩])
def YL (Q:Qx):Ls→Ls→Ls→Ls→Int→Prop:=(fun b c d e f=>Q .ret [(2,.v (ic f))] [⟨false,false,4,([(.agg [(.data c),(.data d),(.data e),(.own 1 0 (length b) (length b) none)])]:Ls)⟩,⟨false,true,2,b⟩])
def YM (a0:gN) (a1:fK) (a2:dE) (a3:cD) (a4:cY) (a5:fQ) (Q:Qx):List St:=[⟨Bk,JO a0 a1 a2 a3 a4 a5 (wg Q) (wh Q) (YJ Q) (YL Q)⟩,⟨Bm,fun n b c d e f g=>DR a0 a1 a2 a3 a4 a5 (YJ Q) (YL Q) n e b c d f g⟩]
def Qt (a0:gN) (a1:fK) (a2:dE) (a3:cD) (a4:cY) (a5:fQ):LP:=eQ [(20643600,YM a0 a1 a2 a3 a4 a5)]
def YN (a0:gN) (a1:fK) (a2:dE) (a3:cD) (a4:cY) (a5:fQ):SE:=⟨(E aT),yeY [(mR,yR.pw a0),(jF,yS.pw a1),(jG,sU.pw a2),(jV,jX.pw a3),(jH,jI.pw a4),(iE,yU.pw a5)],yez [(xZ,yC)],Qt a0 a1 a2 a3 a4 a5,fun _=>none⟩
def YO (a0:gN) (a1:fK) (a2:dE) (a3:cD) (a4:cY) (a5:fQ):SE:=⟨(E aT),yeY [(mR,yR.pw a0),(jF,yS.pw a1),(jG,sU.pw a2),(jV,jX.pw a3),(jH,jI.pw a4),(iE,yU.pw a5)],yez [(xZ,yC),(FJ,AM)],Qt a0 a1 a2 a3 a4 a5,fun _=>none⟩
theorem wj:SEOk (aZ (E aT)) (YN ybi yak bU dX fJ yam):=bK (aQ.uni _) ⟨(Gk aT bB),(yT aT bB),(sV aT bB),(sX aT bB),(yM aT bB),yV,trivial⟩ ⟨⟨by kernel_rfl,by kernel_rfl,rfl,fun az=>dW (by kernel_rfl) az,bB.num _ (by kernel_rfl),by kernel_rfl,(aW (by kernel_rfl))⟩,trivial⟩ bB.ok
theorem wk (a0 a1 a2 a3 a4 a5):dF (YN a0 a1 a2 a3 a4 a5) 10 a pP false (YM a0 a1 a2 a3 a4 a5):=fun _=>⟨fun _=>by kernel_rfl,fun _ _=>by kernel_rfl,fun _=>by kernel_rfl,fun _ _=>by kernel_rfl,trivial⟩
theorem wn:dG (aZ (E aT)) (Qt ybi yak bU dX fJ yam) [] 20643600 (.loop 20643600 pP):=fun _ _ _=>cJ.st (aQ.uni _) (cM (wj) 10) (cS.no _ _) (aW (by kernel_rfl)) (wk _ _ _ _ _ _ _)
theorem wo:SEOk (aZ (E aT)) (YO ybi yak bU dX fJ yam):=bK (aQ.uni _) ⟨(Gk aT bB),(yT aT bB),(sV aT bB),(sX aT bB),(yM aT bB),yV,trivial⟩ ⟨⟨by kernel_rfl,by kernel_rfl,rfl,fun az=>dW (by kernel_rfl) az,bB.num _ (by kernel_rfl),by kernel_rfl,(aW (by kernel_rfl))⟩,⟨by kernel_rfl,by kernel_rfl,rfl,fun az=>dW (by kernel_rfl) az,bB.num _ (by kernel_rfl),by kernel_rfl,(dA (l:=[(20643600,.loop 20643600 pP)]) ⟨wn,trivial⟩ (by kernel_rfl))⟩,trivial⟩ bB.ok
theorem wq (a0 a1 a2 a3 a4 a5):bR (YO a0 a1 a2 a3 a4 a5) 11 Wd JQ (JP a0 a1 a2 a3 a4 a5):=fun _ _=>by kernel_rfl
theorem Qu:bP (E aT) (JQ.pw ybq) FQ:=bT bB (wq _ _ _ _ _ _) (wo) bH.flat (aW (by kernel_rfl))
abbrev yY:Type:=Ls→Ls→Int→(Int→Int→Int→Prop)→Prop
def Qv (a0:Gw) (b c:Ls) (d:Int) (K:Int→Int→Int→Prop):Prop:=
 (a0 b c d (fun e f g h=>(jn (fun (a:Bool→Prop)=>(aB (h==0) (a (!g)) (a false))) (fun i=>(aB i (K 0 0 6) (K e f h))))))
def sZ:yY:=Qv ybq
def JR:Sg:=⟨Bn,Int→Int→Int→Prop,fun K=>(fun r0 r1 r2=>K (.tup [(ic r0),(ic r1),(ic r2)]))⟩
def ws (a0:Gw):SE:=sE (E aT) [(FQ,JQ.pw a0)] dJ
theorem wt (a0):bR (ws a0) 11 We JR (Qv a0):=fun _ _=>by kernel_rfl
theorem Qw:bP (E aT) (JR.pw sZ) jW:=bT bB (wt _) (bK (aQ.uni _) ⟨Qu,trivial⟩ trivial bB.ok) bH.flat (aW (by kernel_rfl))
abbrev yZ:Type:=Ls→Ls→Int→(Bool→Int→Prop)→Prop
def Qy (a0:Gw) (b c:Ls) (d:Int) (K:Bool→Int→Prop):Prop:=
 (a0 b c d (fun e f g h=>(jn (fun (a:Bool→Prop)=>(aB (!g) (a (h==0)) (a false))) (fun i=>(K i h)))))
def tA:yZ:=Qy ybq
def JS:Sg:=⟨Bn,Bool→Int→Prop,fun K=>(fun r0 r1=>K (.tup [(.bool r0),(ic r1)]))⟩
def wu (a0:Gw):SE:=sE (E aT) [(FQ,JQ.pw a0)] dJ
theorem ww (a0):bR (wu a0) 11 Wf JS (Qy a0):=fun _ _=>by kernel_rfl
theorem Qz:bP (E aT) (JS.pw tA) mS:=bT bB (ww _) (bK (aQ.uni _) ⟨Qu,trivial⟩ trivial bB.ok) bH.flat (aW (by kernel_rfl))
abbrev DT:Type:=Ls→Ls→Int→Ls→(Bool→Int→Prop)→Prop
def vK (a0:fK) (a1:dP) (a2:dE) (a3:cD) (a4:cY) (a5:fQ) (x0:Ls→Ls→Ls→Ls→Ls→Int→Int→Bool→Prop) (x1:Ls→Ls→Ls→Bool→Prop):Nat→Ls→Ls→Ls→Ls→Ls→Int→Int→Prop
 | 0,_,_,_,_,_,_,_=>False
 | n+1,b,c,d,e,f,g,h=>
 (aB (decide (h<g)) (aA (decide (0≤h)) (aA (decide (h<(((length f):Nat):Int))) (lt (getD f (h.toNat) .nils) (fun i=>(aA (aF zD i) (aA (decide (0≤h)) (aA (decide (h<(((length e):Nat):Int))) (lt (getD e (h.toNat) .nils) (fun j=>(aA (aF zD j) (a1 (bL i) (bL j) (fun k=>(aB (!k) (x1 b c d false) (lt (i64.wrap (h+1)) (vK a0 a1 a2 a3 a4 a5 x0 x1 n b c d e f g))))))))))))))) (x0 b c d e f g h false))
def DU (a0:fK) (a1:dP) (a2:dE) (a3:cD) (a4:cY) (a5:fQ) (x0:Ls→Ls→Ls→Ls→Int→Int→Bool→Prop) (x1:Ls→Ls→Ls→Ls→Int→Prop):Nat→Ls→Ls→Ls→Ls→Int→Int→Prop
 | 0,_,_,_,_,_,_=>False
 | n+1,b,c,d,e,f,g=>
 (aB (decide (g<f)) (aA (decide (0≤g)) (aA (decide (g<(((length c):Nat):Int))) (lt (getD c (g.toNat) .nils) (fun h=>(aA (aF zK h) (a2 (aK (aP h 0)) (bL (aP h 1)) (bL (aP h 2)) (fun i j=>(aA (decide (0≤g)) (aA (decide (g<(((length e):Nat):Int))) (lt (getD e (g.toNat) .nils) (fun k=>(aA (aF zD k) (aA (decide (0≤g)) (aA (decide (g<(((length (bL k)):Nat):Int))) (lt (getD (bL k) (g.toNat) .nils) (fun l=>(aA (aF z2 l) (a3 i (fun m o=>(a4 (aK (aP l 0)) (aK (aP l 1)) m o (fun p q r=>(aB (r !=0) (x1 b c d e r) (aA (decide ((length b)=(length b))) (aA (decide ((0+(length b))≤(length b))) (aA (!(decide (((0+(length b))+1)≤(length b)))) (aA (decide ((length b)=(length b))) (aA (decide ((((length b)+1)+64)*(16+1)≤room)) (lt (i64.wrap (g+1)) (fun s=>(aA (decide ((length (b++([(.agg [(ic p),(ic q)])]:Ls)))=length (b++([(.agg [(ic p),(ic q)])]:Ls)))&&decide ((length (b++([(.agg [(ic p),(ic q)])]:Ls)))=length (b++([(.agg [(ic p),(ic q)])]:Ls)))) (DU a0 a1 a2 a3 a4 a5 x0 x1 n (b++([(.agg [(ic p),(ic q)])]:Ls)) c d e f s))))))))))))))))))))))))))))))) (x0 b c d e f g false))
def JT (a0:fK) (a1:dP) (a2:dE) (a3:cD) (a4:cY) (a5:fQ) (x0:Ls→Ls→Ls→Int→Int→Bool→Prop) (x1:Ls→Ls→Ls→Int→Prop) (x2:Ls→Ls→Ls→Ls→Int→Int→Bool→Prop) (x3:Ls→Ls→Ls→Ls→Int→Prop):Nat→Ls→Ls→Ls→Int→Int→Prop
 | 0,_,_,_,_,_=>False
 | n+1,b,c,d,e,f=>
 (aB (decide (f<e)) (aA (decide (0≤f)) (aA (decide (f<(((length b):Nat):Int))) (lt (getD b (f.toNat) .nils) (fun g=>(aA (aF zK g) (a2 (aK (aP g 0)) (bL (aP g 1)) (bL (aP g 2)) (fun h i=>(aA (decide (0≤f)) (aA (decide (f<(((length d):Nat):Int))) (lt (getD d (f.toNat) .nils) (fun j=>(aA (aF zD j) (aA (decide (0≤f)) (aA (decide (f<(((length (bL j)):Nat):Int))) (lt (getD (bL j) (f.toNat) .nils) (fun k=>(aA (aF z2 k) (a3 h (fun l m=>(a4 (aK (aP k 0)) (aK (aP k 1)) l m (fun o p q=>(aB (q !=0) (x1 b c d q) (lt (i64.wrap (f+1)) (fun r=>(aA (decide (1=length ([(.agg [(ic o),(ic p)])]:Ls))&&decide (1=length ([(.agg [(ic o),(ic p)])]:Ls))) (DU a0 a1 a2 a3 a4 a5 x2 x3 n ([(.agg [(ic o),(ic p)])]:Ls) b c d e r)))))))))))))))))))))))))) (x0 b c d e f false))
def DW (a0:fK) (a1:dP) (a2:dE) (a3:cD) (a4:cY) (a5:fQ) (x0:Ls→Ls→Ls→Int→Ls→Int→Bool→Prop) (x1:Ls→Ls→Ls→Bool→Int→Prop):Nat→Ls→Ls→Ls→Int→Ls→Int→Prop
 | 0,_,_,_,_,_,_=>False
 | n+1,b,c,d,e,f,g=>
 (aB (decide (g<5)) (jn (fun h=>(aA (!(decide (g<0))) (lt (Int.fdiv e (2 ^ (min g.toNat u8.bits))) (fun i=>(lt (u8.wrap (BitVec.ofInt u8.bits i&&&BitVec.ofInt u8.bits 1).toNat) (fun j=>(aB (j==0) h (aA (!(decide (g<0))) (lt (u8.wrap (1*2 ^ (min g.toNat u8.bits))) (fun k=>(a5 b c d ([]:Ls) k (fun l m o=>(aB o (x1 b c d false 0) h))))))))))))) (lt (i64.wrap (g+1)) (DW a0 a1 a2 a3 a4 a5 x0 x1 n b c d e f))) (x0 b c d e f g false))
def DX (a0:fK) (a1:dP) (a2:dE) (a3:cD) (a4:cY) (a5:fQ) (x0:Ls→Ls→Ls→Ls→Int→Ls→Int→Bool→Prop) (x1:Ls→Ls→Ls→Ls→Bool→Int→Prop):Nat→Ls→Ls→Ls→Ls→Int→Ls→Int→Prop
 | 0,_,_,_,_,_,_,_=>False
 | n+1,b,c,d,e,f,g,h=>
 (aB (decide (h<5)) (jn (fun i=>(aA (!(decide (h<0))) (lt (Int.fdiv f (2 ^ (min h.toNat u8.bits))) (fun j=>(lt (u8.wrap (BitVec.ofInt u8.bits j&&&BitVec.ofInt u8.bits 1).toNat) (fun k=>(aB (k==0) i (aA (!(decide (h<0))) (lt (u8.wrap (1*2 ^ (min h.toNat u8.bits))) (fun l=>(aA (decide ((length b)=(length b))) (aA (decide ((0+(length b))≤(length b))) (a5 c d e (take (length b) b) l (fun m o p=>(aB p (x1 b c d e false 0) i))))))))))))))) (lt (i64.wrap (h+1)) (fun i=>(aA (decide ((length b)=length b)&&decide ((length b)=length b)) (DX a0 a1 a2 a3 a4 a5 x0 x1 n b c d e f g i))))) (x0 b c d e f g h false))
def JU (a0:fK) (a1:dP) (a2:dE) (a3:cD) (a4:cY) (a5:fQ) (b c:Ls) (d:Int) (e:Ls) (K:Bool→Int→Prop):Prop:=
 (a0 b c (fun f g=>(aB (g !=0) (aB (g !=0) (K false g) (aB (decide (d≥32)) (K false 0) False)) (jn (fun (n:Ls→Ls→Ls→Bool→Prop)=>(aB (decide (d≥32)) (n b c f true) (jn (fun (a:Ls→Ls→Ls→Bool→Prop)=>(aB ((((length f):Nat):Int) !=(((length e):Nat):Int)) (a b c f false) (∃ m0:Nat,vK a0 a1 a2 a3 a4 a5 (fun h i j k l m o p=>(a h i j true)) a m0 b c f e f (((length f):Nat):Int) 0))) (fun h i j k=>(n h i j (!k)))))) (fun h i j k=>(aB k (K false 0) (jn (fun (x:Ls→Ls→Ls→Prop)=>(lt (u8.wrap (BitVec.ofInt u8.bits d&&&BitVec.ofInt u8.bits 8).toNat) (fun l=>(aB (l !=0) (jn (fun (y:Ls→Ls→Ls→Int→Prop)=>(jn (fun (C:Ls→Ls→Ls→Ls→Int→Prop)=>(∃ m0:Nat,JT a0 a1 a2 a3 a4 a5 (fun m o p q r s=>(y m o p 0)) y (fun m o p q r s t=>(C m o p q 0)) C m0 h i j (((length h):Nat):Int) 0)) (fun m o p q r=>(aB (r !=0) (K false r) (aA (decide ((length m)=length m)&&decide ((length m)=length m)) (∃ m0:Nat,DX a0 a1 a2 a3 a4 a5 (fun s t u v w z A B=>(K true 0)) (fun s t u v w z=>(K w z)) m0 m o p q d e 0)))))) (fun m o p q=>(aB (q !=0) (K false q) (x m o p)))) (x h i j))))) (fun l m o=>(∃ m0:Nat,DW a0 a1 a2 a3 a4 a5 (fun p q r s t u v=>(K true 0)) (fun p q r s t=>(K s t)) m0 l m o d e 0)))))))))
def oL:DT:=JU yak lJ bU dX fJ yam
def QA:Sg:=⟨(lC vD (lC jJ (lC vJ lN))),Bool→Int→Prop,fun K=>(fun r0 r1=>K (.tup [(.bool r0),(ic r1)]))⟩
def wx (Q:Qx):Ls→Ls→Ls→Ls→Ls→Int→Int→Bool→Prop:=(fun b c d e f g h i=>Q (.exit 0) [(1,.v (.data e)),(2,.v (.fn (.func AK) [] [])),(15,.v (.data f)),(16,.v (ic g)),(17,.v (ic h)),(18,.v (.bool i))] [⟨false,false,4,([(.agg [(.data b),(.data c),(.data d),.nils])]:Ls)⟩])
def wy (Q:Qx):Ls→Ls→Ls→Bool→Prop:=(fun b c d e=>Q .ret [(6,.v (.bool e))] [⟨false,false,4,([(.agg [(.data b),(.data c),(.data d),.nils])]:Ls)⟩])
def wz (Q:Qx):Ls→Ls→Ls→Int→Int→Bool→Prop:=(fun b c d e f g=>Q (.exit 0) [(0,.v (.ptr 0 1 0 0)),(12,.v (ic e)),(13,.v (ic f)),(14,.v (.bool g))] [⟨false,false,4,([(.agg [(.data b),(.data c),(.data d),.nils])]:Ls)⟩])
def xa (Q:Qx):Ls→Ls→Ls→Int→Prop:=(fun b c d e=>Q .ret [(2,.v (ic e))] [⟨false,false,4,([(.agg [(.data b),(.data c),(.data d),.nils])]:Ls)⟩])
def YP (Q:Qx):Ls→Ls→Ls→Ls→Int→Int→Bool→Prop:=(fun b c d e f g h=>Q (.exit 0) [(0,.v (.ptr 0 1 0 0)),(12,.v (ic f)),(13,.v (ic g)),(14,.v (.bool h))] [⟨false,false,4,([(.agg [(.data c),(.data d),(.data e),(.own 1 0 (length b) (length b) none)])]:Ls)⟩,⟨false,true,2,b⟩])
def YQ (Q:Qx):Ls→Ls→Ls→Ls→Int→Prop:=(fun b c d e f=>Q .ret [(2,.v (ic f))] [⟨false,false,4,([(.agg [(.data c),(.data d),(.data e),(.own 1 0 (length b) (length b) none)])]:Ls)⟩,⟨false,true,2,b⟩])
def xb (Q:Qx):Ls→Ls→Ls→Int→Ls→Int→Bool→Prop:=(fun b c d e f g h=>Q (.exit 0) [(5,.box (.agg [(.int .u8 e),(.data f)])),(8,.v (.ptr 0 1 0 0)),(46,.v (ic g)),(47,.v (.bool h))] [⟨false,false,4,([(.agg [(.data b),(.data c),(.data d),.nils])]:Ls)⟩])
def xc (Q:Qx):Ls→Ls→Ls→Bool→Int→Prop:=(fun b c d e f=>Q .ret [(6,.v (.bool e)),(7,.v (ic f))] [⟨false,false,4,([(.agg [(.data b),(.data c),(.data d),.nils])]:Ls)⟩])
def xd (Q:Qx):Ls→Ls→Ls→Ls→Int→Ls→Int→Bool→Prop:=(fun b c d e f g h i=>Q (.exit 0) [(5,.box (.agg [(.int .u8 f),(.data g)])),(8,.v (.ptr 0 1 0 0)),(46,.v (ic h)),(47,.v (.bool i))] [⟨false,false,4,([(.agg [(.data c),(.data d),(.data e),(.own 1 0 (length b) (length b) none)])]:Ls)⟩,⟨false,true,2,b⟩])
def xe (Q:Qx):Ls→Ls→Ls→Ls→Bool→Int→Prop:=(fun b c d e f g=>Q .ret [(6,.v (.bool f)),(7,.v (ic g))] [⟨false,false,4,([(.agg [(.data c),(.data d),(.data e),(.own 1 0 (length b) (length b) none)])]:Ls)⟩,⟨false,true,2,b⟩])
def YR (a0:fK) (a1:dP) (a2:dE) (a3:cD) (a4:cY) (a5:fQ) (Q:Qx):List St:=[⟨(pS vH (fV 1 vD (fV 2 (vF AK lN lN) (fV 15 vD Bi))) fN),vK a0 a1 a2 a3 a4 a5 (wx Q) (wy Q)⟩]
def YS (a0:fK) (a1:dP) (a2:dE) (a3:cD) (a4:cY) (a5:fQ) (Q:Qx):List St:=[⟨Bk,JT a0 a1 a2 a3 a4 a5 (wz Q) (xa Q) (YP Q) (YQ Q)⟩,⟨Bm,fun n b c d e f g=>DU a0 a1 a2 a3 a4 a5 (YP Q) (YQ Q) n e b c d f g⟩]
def Gx:Pat aG:=fX 5 vJ (fV 8 uO (fV 46 cF fN))
def YT (a0:fK) (a1:dP) (a2:dE) (a3:cD) (a4:cY) (a5:fQ) (Q:Qx):List St:=[⟨(pS vH Gx fN),DW a0 a1 a2 a3 a4 a5 (xb Q) (xc Q)⟩,⟨(pS Bl Gx fN),fun n b c d e f g h=>DX a0 a1 a2 a3 a4 a5 (xd Q) (xe Q) n e b c d f g h⟩]
def Gy (a0:fK) (a1:dP) (a2:dE) (a3:cD) (a4:cY) (a5:fQ):LP:=eQ [(8009400,YR a0 a1 a2 a3 a4 a5),(20643600,YS a0 a1 a2 a3 a4 a5),(47320500,YT a0 a1 a2 a3 a4 a5)]
def JV (a0:fK) (a1:dP) (a2:dE) (a3:cD) (a4:cY) (a5:fQ):SE:=⟨(E aT),yeY [(jF,yS.pw a0),(AK,rG.pw a1),(jG,sU.pw a2),(jV,jX.pw a3),(jH,jI.pw a4),(iE,yU.pw a5)],yez [(xZ,yC)],Gy a0 a1 a2 a3 a4 a5,fun _=>none⟩
def YU (a0:fK) (a1:dP) (a2:dE) (a3:cD) (a4:cY) (a5:fQ):SE:=⟨(E aT),yeY [(jF,yS.pw a0),(AK,rG.pw a1),(jG,sU.pw a2),(jV,jX.pw a3),(jH,jI.pw a4),(iE,yU.pw a5)],yez [(xZ,yC),(Vg,ND),(FJ,AM)],Gy a0 a1 a2 a3 a4 a5,fun _=>none⟩
theorem QB:SEOk (aZ (E aT)) (JV yak lJ bU dX fJ yam):=bK (aQ.uni _) ⟨(yT aT bB),(OR aT bB),(sV aT bB),(sX aT bB),(yM aT bB),yV,trivial⟩ ⟨⟨by kernel_rfl,by kernel_rfl,rfl,fun az=>dW (by kernel_rfl) az,bB.num _ (by kernel_rfl),by kernel_rfl,(aW (by kernel_rfl))⟩,trivial⟩ bB.ok
theorem xf (a0 a1 a2 a3 a4 a5):dF (JV a0 a1 a2 a3 a4 a5) 10 a NE false (YR a0 a1 a2 a3 a4 a5):=fun _=>⟨fun _=>by kernel_rfl,fun _ _=>by kernel_rfl,trivial⟩
theorem xg:dG (aZ (E aT)) (Gy yak lJ bU dX fJ yam) [] 8009400 (.loop 8009400 NE):=fun _ _ _=>cJ.st (aQ.uni _) (cM (QB) 10) (cS.no _ _) (aW (by kernel_rfl)) (xf _ _ _ _ _ _ _)
theorem xh (a0 a1 a2 a3 a4 a5):dF (JV a0 a1 a2 a3 a4 a5) 10 a pP false (YS a0 a1 a2 a3 a4 a5):=fun _=>⟨fun _=>by kernel_rfl,fun _ _=>by kernel_rfl,fun _=>by kernel_rfl,fun _ _=>by kernel_rfl,trivial⟩
theorem xi:dG (aZ (E aT)) (Gy yak lJ bU dX fJ yam) [] 20643600 (.loop 20643600 pP):=fun _ _ _=>cJ.st (aQ.uni _) (cM (QB) 10) (cS.no _ _) (aW (by kernel_rfl)) (xh _ _ _ _ _ _ _)
theorem xj (a0 a1 a2 a3 a4 a5):dF (JV a0 a1 a2 a3 a4 a5) 10 a NI false (YT a0 a1 a2 a3 a4 a5):=fun _=>⟨fun _=>by kernel_rfl,fun _ _=>by kernel_rfl,fun _=>by kernel_rfl,fun _ _=>by kernel_rfl,trivial⟩
theorem xk:dG (aZ (E aT)) (Gy yak lJ bU dX fJ yam) [] 47320500 (.loop 47320500 NI):=fun _ _ _=>cJ.st (aQ.uni _) (cM (QB) 10) (cS.no _ _) (aW (by kernel_rfl)) (xj _ _ _ _ _ _ _)
theorem xl:SEOk (aZ (E aT)) (YU yak lJ bU dX fJ yam):=bK (aQ.uni _) ⟨(yT aT bB),(OR aT bB),(sV aT bB),(sX aT bB),(yM aT bB),yV,trivial⟩ ⟨⟨by kernel_rfl,by kernel_rfl,rfl,fun az=>dW (by kernel_rfl) az,bB.num _ (by kernel_rfl),by kernel_rfl,(aW (by kernel_rfl))⟩,⟨by kernel_rfl,by kernel_rfl,rfl,fun az=>dW (by kernel_rfl) az,bB.num _ (by kernel_rfl),by kernel_rfl,(dA (l:=[(8009400,.loop 8009400 NE)]) ⟨xg,trivial⟩ (by kernel_rfl))⟩,⟨by kernel_rfl,by kernel_rfl,rfl,fun az=>dW (by kernel_rfl) az,bB.num _ (by kernel_rfl),by kernel_rfl,(dA (l:=[(20643600,.loop 20643600 pP)]) ⟨xi,trivial⟩ (by kernel_rfl))⟩,trivial⟩ bB.ok
theorem xm (a0 a1 a2 a3 a4 a5):bR (YU a0 a1 a2 a3 a4 a5) 11 NH QA (JU a0 a1 a2 a3 a4 a5):=fun _ _=>by kernel_rfl
theorem JW:bP (E aT) (QA.pw oL) sP:=bT bB (xm _ _ _ _ _ _) (xl) bH.flat (dA (l:=[(47320500,.loop 47320500 NI)]) ⟨xk,trivial⟩ (by kernel_rfl))
set_option linter.unusedVariables false
theorem xn (p0 p1:Ls) (r0:Int) (h:∀ K:Int→Prop,K r0→ybi p0 p1 K) (K:Int→Prop):ybi p0 p1 K=K r0:=
 Aab ⟨fun k=>bX (Gk [] fI) (az:=[(.data p0),(.agg [(.data p1)])]) (x:=(ic r0)) (fun K' k'=>h (fun r0=>K' (ic r0)) k') (K:=fun x=>match x with | (ic r0)=>K r0 | _=>False) k,h K⟩
theorem xo (p0 p1 r0:Ls) (r1:Int) (h:∀ K:Ls→Int→Prop,K r0 r1→yak p0 p1 K) (K:Ls→Int→Prop):yak p0 p1 K=K r0 r1:=
 Aab ⟨fun k=>bX (yT [] fI) (az:=[(.data p0),(.agg [(.data p1)])]) (x:=(.tup [(.data r0),(ic r1)])) (fun K' k'=>h (fun r0 r1=>K' (.tup [(.data r0),(ic r1)])) k') (K:=fun x=>match x with | (.tup [(.data r0),(ic r1)])=>K r0 r1 | _=>False) k,h K⟩
theorem xq (p0 p1 p2 p3:Int) (p4:Ls) (r0:Bool) (h:∀ K:Bool→Prop,K r0→sY p0 p1 p2 p3 p4 K) (K:Bool→Prop):sY p0 p1 p2 p3 p4 K=K r0:=
 Aab ⟨fun k=>bX (Qe [] fI) (az:=[(.agg [(ic p0),(ic p1),(ic p2),(ic p3)]),(.eptr [(.data p4)] 0 0)]) (x:=(.bool r0)) (fun K' k'=>h (fun r0=>K' (.bool r0)) k') (K:=fun x=>match x with | (.bool r0)=>K r0 | _=>False) k,h K⟩
theorem xr (p0 p1:Ls) (r0:Bool) (h:∀ K:Bool→Prop,K r0→cW p0 p1 K) (K:Bool→Prop):cW p0 p1 K=K r0:=
 Aab ⟨fun k=>bX (Qh [] fI) (az:=[(.data p0),(.data p1)]) (x:=(.bool r0)) (fun K' k'=>h (fun r0=>K' (.bool r0)) k') (K:=fun x=>match x with | (.bool r0)=>K r0 | _=>False) k,h K⟩
theorem xt (p0 p1 p2 p3:Ls) (r0:Bool) (h:∀ K:Bool→Prop,K r0→yac p0 p1 p2 p3 K) (K:Bool→Prop):yac p0 p1 p2 p3 K=K r0:=
 Aab ⟨fun k=>bX Qn (az:=[(.eptr [(.agg [(.data p0),(.data p1),(.data p2),(.data p3)])] 0 0)]) (x:=(.bool r0)) (fun K' k'=>h (fun r0=>K' (.bool r0)) k') (K:=fun x=>match x with | (.bool r0)=>K r0 | _=>False) k,h K⟩
theorem xu (p0 p1 p2 p3:Ls) (p4 r0 r1:Int) (r2:Bool) (h:∀ K:Int→Int→Bool→Prop,K r0 r1 r2→yam p0 p1 p2 p3 p4 K) (K:Int→Int→Bool→Prop):yam p0 p1 p2 p3 p4 K=K r0 r1 r2:=
 Aab ⟨fun k=>bX yV (az:=[(.eptr [(.agg [(.data p0),(.data p1),(.data p2),(.data p3)])] 0 0),(.int .u8 p4)]) (x:=(.tup [(ic r0),(ic r1),(.bool r2)])) (fun K' k'=>h (fun r0 r1 r2=>K' (.tup [(ic r0),(ic r1),(.bool r2)])) k') (K:=fun x=>match x with | (.tup [(ic r0),(ic r1),(.bool r2)])=>K r0 r1 r2 | _=>False) k,h K⟩
theorem Gz (p0 p1:Ls) (r0:Int) (r1:Ls) (r2:Int) (h:∀ K:Int→Ls→Int→Prop,K r0 r1 r2→ybj p0 p1 K) (K:Int→Ls→Int→Prop):ybj p0 p1 K=K r0 r1 r2:=
 Aab ⟨fun k=>bX Qs (az:=[(.data p0),(.agg [(.data p1)])]) (x:=(.tup [(.agg [(.int .u8 r0),(.data r1)]),(ic r2)])) (fun K' k'=>h (fun r0 r1 r2=>K' (.tup [(.agg [(.int .u8 r0),(.data r1)]),(ic r2)])) k') (K:=fun x=>match x with | (.tup [(.agg [(.int .u8 r0),(.data r1)]),(ic r2)])=>K r0 r1 r2 | _=>False) k,h K⟩
theorem xw (p0 p1:Ls) (p2 r0 r1:Int) (r2:Bool) (r3:Int) (h:∀ K:Int→Int→Bool→Int→Prop,K r0 r1 r2 r3→ybq p0 p1 p2 K) (K:Int→Int→Bool→Int→Prop):ybq p0 p1 p2 K=K r0 r1 r2 r3:=
 Aab ⟨fun k=>bX Qu (az:=[(.data p0),(.agg [(.data p1)]),(.int .u8 p2)]) (x:=(.tup [(ic r0),(ic r1),(.bool r2),(ic r3)])) (fun K' k'=>h (fun r0 r1 r2 r3=>K' (.tup [(ic r0),(ic r1),(.bool r2),(ic r3)])) k') (K:=fun x=>match x with | (.tup [(ic r0),(ic r1),(.bool r2),(ic r3)])=>K r0 r1 r2 r3 | _=>False) k,h K⟩
theorem YV (p0 p1:Ls) (p2:Int) (p3:Ls) (r0:Bool) (r1:Int) (h:∀ K:Bool→Int→Prop,K r0 r1→oL p0 p1 p2 p3 K) (K:Bool→Int→Prop):oL p0 p1 p2 p3 K=K r0 r1:=
 Aab ⟨fun k=>bX JW (az:=[(.data p0),(.agg [(.data p1)]),(.agg [(.int .u8 p2),(.data p3)])]) (x:=(.tup [(.bool r0),(ic r1)])) (fun K' k'=>h (fun r0 r1=>K' (.tup [(.bool r0),(ic r1)])) k') (K:=fun x=>match x with | (.tup [(.bool r0),(ic r1)])=>K r0 r1 | _=>False) k,h K⟩
def QC (a0:dP) (a1:gN) (b c:Ls) (K:Bool→Prop):Prop:=
 (jn (fun (a:Bool→Prop)=>(a0 b c (fun d=>(aB (!d) (a1 b c (fun e=>(a (e==0)))) (a false))))) K)
def zA:dP:=QC Dz DF
def xx (e:Es) (a0:dP) (a1:gN):SE:=sE (E e) [(Iq,DA.pw a0),(IB,yR.pw a1)] dJ
theorem xy (e:Es) (a0 a1):bR (xx e a0 a1) 6 Vs DA (QC a0 a1):=fun _ _=>by kernel_rfl
theorem YW (e:Es) (he:EG e):bP (E e) (DA.pw zA) qX:=bT he (xy e _ _) (bK (aQ.uni _) ⟨(XS e he),(Yd e he),trivial⟩ trivial he.ok) bH.flat (aW (by kernel_rfl))
abbrev QD:Type:=Int→Int→(J4 (Prop))→Prop
def YX (a0:cD) (b c:Int) (K:J4 (Prop)):Prop:=
 (a0 b (fun d e=>(a0 c (K d e))))
def QE:QD:=YX Ds
def QF:Sg:=⟨CX,Int→Int→Int→Int→Prop,fun K=>(fun r0 r1 r2 r3=>K (.agg [(ic r0),(ic r1),(ic r2),(ic r3)]))⟩
def xz (e:Es) (a0:cD):SE:=sE (E e) [(CE,jX.pw a0)] dJ
theorem ya (e:Es) (a0):bR (xz e a0) 6 Vt QF (YX a0):=fun _ _=>by kernel_rfl
theorem yb (e:Es) (he:EG e):bP (E e) (QF.pw QE) IC:=bT he (ya e _) (bK (aQ.uni _) ⟨(Pt e he),trivial⟩ trivial he.ok) bH.flat (aW (by kernel_rfl))
abbrev QG:Type:=Ls→(Ls→Prop)→Prop
def QH (x1:Ls→Ls→Int→Bool→Prop):Nat→Ls→Ls→Int→Prop
 | 0,_,_,_=>False
 | n+1,b,c,d=>
 (aB (decide (d<(((length c):Nat):Int))) (aA (decide (0≤d)) (aA (decide (d<(((length c):Nat):Int))) (lt (getD c (d.toNat) .nils) (fun e=>(aA (aF z4 e) (aA (decide ((length b)=(length b))) (aA (decide ((0+(length b))≤(length b))) (aA (!(decide (((0+(length b))+1)≤(length b)))) (aA (decide ((length b)=(length b))) (aA (decide ((((length b)+1)+64)*(24+1)≤room)) (lt (i64.wrap (d+1)) (fun f=>(aA (decide ((length (b++([(.data ([(.agg [(ic (aK (aP e 0))),(ic (aK (aP e 1))),(ic (aK (aP e 2))),(ic (aK (aP e 3)))])]:Ls))]:Ls)))=length (b++([(.data ([(.agg [(ic (aK (aP e 0))),(ic (aK (aP e 1))),(ic (aK (aP e 2))),(ic (aK (aP e 3)))])]:Ls))]:Ls)))&&decide ((length (b++([(.data ([(.agg [(ic (aK (aP e 0))),(ic (aK (aP e 1))),(ic (aK (aP e 2))),(ic (aK (aP e 3)))])]:Ls))]:Ls)))=length (b++([(.data ([(.agg [(ic (aK (aP e 0))),(ic (aK (aP e 1))),(ic (aK (aP e 2))),(ic (aK (aP e 3)))])]:Ls))]:Ls)))) (QH x1 n (b++([(.data ([(.agg [(ic (aK (aP e 0))),(ic (aK (aP e 1))),(ic (aK (aP e 2))),(ic (aK (aP e 3)))])]:Ls))]:Ls)) c f)))))))))))))) (x1 b c d false))
def QI (x0:Ls→Int→Bool→Prop) (x1:Ls→Ls→Int→Bool→Prop):Nat→Ls→Int→Prop
 | 0,_,_=>False
 | n+1,b,c=>
 (aB (decide (c<(((length b):Nat):Int))) (aA (decide (0≤c)) (aA (decide (c<(((length b):Nat):Int))) (lt (getD b (c.toNat) .nils) (fun d=>(aA (aF z4 d) (lt (i64.wrap (c+1)) (fun e=>(aA (decide (1=length ([(.data ([(.agg [(ic (aK (aP d 0))),(ic (aK (aP d 1))),(ic (aK (aP d 2))),(ic (aK (aP d 3)))])]:Ls))]:Ls))&&decide (1=length ([(.data ([(.agg [(ic (aK (aP d 0))),(ic (aK (aP d 1))),(ic (aK (aP d 2))),(ic (aK (aP d 3)))])]:Ls))]:Ls))) (QH x1 n ([(.data ([(.agg [(ic (aK (aP d 0))),(ic (aK (aP d 1))),(ic (aK (aP d 2))),(ic (aK (aP d 3)))])]:Ls))]:Ls) b e))))))))) (x0 b c false))
def QJ (b:Ls) (K:Ls→Prop):Prop:=
 (∃ n:Nat,QI (fun c d e=>(K ([]:Ls))) (fun c d e f=>(aA (decide ((length c)=(length c))) (aA (decide ((0+(length c))≤(length c))) (K (take (length c) c))))) n b 0)
def zB:QG:=QJ
def QK:Sg:=⟨yG,Ls→Prop,fun K=>(fun r0=>K (.agg [(.data r0)]))⟩
def yc (Q:Qx):Ls→Int→Bool→Prop:=(fun b c d=>Q (.exit 0) [(0,.v (.data b)),(2,.box (.agg [.nils])),(3,.box (.agg [.nils])),(4,.v (ic c)),(8,.v (.bool d))] [])
def YZ (Q:Qx):Ls→Ls→Int→Bool→Prop:=(fun b c d e=>Q (.exit 0) [(0,.v (.data c)),(2,.box (.agg [.nils])),(3,.box (.agg [(.own 0 0 (length b) (length b) none)])),(4,.v (ic d)),(8,.v (.bool e))] [⟨false,true,1,b⟩])
def Bo:fH:=vA (lC Fw lN)
def Za (Q:Qx):List St:=[⟨(pS hN (fV 0 vD (fX 2 Bo (fX 3 Bo oI))) fN),QI (yc Q) (YZ Q)⟩,⟨(pS (hB false true 1 rA hN) (fV 0 vD (fX 2 Bo (fX 3 (vA (lC (vW 0 (nK 0) (nT 0) (nT 0)) lN)) oI))) fN),QH (YZ Q)⟩]
def Zb:LP:=eQ [(99620800,Za)]
def QM (e:Es):SE:=sE (E e) [] (Zb)
theorem Zc (e:Es) (he:EG e):SEOk (aZ (E e)) (QM e):=bK (aQ.uni _) trivial trivial he.ok
theorem yd (e:Es):dF (QM e) 5 a MI false (Za):=fun _=>⟨fun _=>by kernel_rfl,fun _ _=>by kernel_rfl,fun _=>by kernel_rfl,fun _ _=>by kernel_rfl,trivial⟩
theorem ye (e:Es) (he:EG e):dG (aZ (E e)) (Zb) [] 99620800 (.loop 99620800 MI):=fun _ _ _=>cJ.st (aQ.uni _) (cM (Zc e he) 5) (cS.no _ _) (aW (by kernel_rfl)) (yd e _)
theorem yf (e:Es):bR (QM e) 6 MH QK QJ:=fun _ _=>by kernel_rfl
theorem Zd (e:Es) (he:EG e):bP (E e) (QK.pw zB) ID:=bT he (yf e) (Zc e he) bH.flat (dA (l:=[(99620800,.loop 99620800 MI)]) ⟨ye e he,trivial⟩ (by kernel_rfl))
abbrev QN:Type:=(Ls→Prop)→Prop
def Ze (K:Ls→Prop):Prop:=
 (K ([(.agg [(ic 2),(.data ([(ic 0),(ic 2)]:Ls)),(.data ([(ic 1)]:Ls))]),(.agg [(ic 2),(.data ([(ic 0),(ic 1),(ic 2)]:Ls)),(.data ([(ic 3),(ic 1)]:Ls))])]:Ls))
def QO:QN:=Ze
def QP:Sg:=⟨lN,Ls→Prop,fun K=>(fun r0=>K (.data r0))⟩
def yg (e:Es):SE:=sE (E e) [] dJ
theorem yh (e:Es):bR (yg e) 6 Vu QP Ze:=fun _ _=>by kernel_rfl
theorem yi (e:Es) (he:EG e):bP (E e) (QP.pw QO) IE:=bT he (yh e) (bK (aQ.uni _) trivial trivial he.ok) bH.flat (aW (by kernel_rfl))
abbrev QQ:Type:=Ls→Ls→Int→Int→Int→(Bool→Prop)→Prop
def QR (a0:yY) (a1:yZ) (b c:Ls) (d e f:Int) (K:Bool→Prop):Prop:=
 (a0 b c d (fun g h i=>(a1 b c d (fun j k=>(jn (fun (a:Bool→Prop)=>(aB (i==0) (aB (g==e) (aB (h==f) (aB (k==0) (a (!j)) (a false)) (a false)) (a false)) (a false))) K)))))
def JX:QQ:=QR sZ tA
def QS:Sg:=⟨(lC vD (lC jJ (lC oK CX))),Bool→Prop,fun K=>(fun r0=>K (.bool r0))⟩
def yj (a0:yY) (a1:yZ):SE:=sE (E aT) [(jW,JR.pw a0),(mS,JS.pw a1)] dJ
theorem ym (a0 a1):bR (yj a0 a1) 6 Wg QS (QR a0 a1):=fun _ _=>by kernel_rfl
theorem yo:bP (E aT) (QS.pw JX) IY:=bT bB (ym _ _) (bK (aQ.uni _) ⟨Qw,Qz,trivial⟩ trivial bB.ok) bH.flat (aW (by kernel_rfl))
abbrev DY:Type:=(Bool→Prop)→Prop
def QT (a0:QD) (a1:QG) (a2:QN) (a3:fK) (a4:yW) (a5:cD) (a6:dP) (a7:QQ) (K:Bool→Prop):Prop:=
 (a0 0 1 (fun b c d e=>(a0 1 2 (fun f g h i=>(a1 ([(.agg [(ic b),(ic c),(ic d),(ic e)]),(.agg [(ic f),(ic g),(ic h),(ic i)])]:Ls) (fun j=>(a0 1 2 (fun k l m o=>(a0 0 1 (fun p q r s=>(a1 ([(.agg [(ic k),(ic l),(ic m),(ic o)]),(.agg [(ic p),(ic q),(ic r),(ic s)])]:Ls) (fun t=>(a2  (fun u=>(a3 u j (fun v w=>(a2  (fun z=>(a4 z j (fun A B C=>(a2  (fun D=>(a4 D t (fun E F G=>(a5 1 (fun H I=>(a5 3 (fun J L=>(jn (fun (a:Bool→Prop)=>(aB (w==0) (a6 v ([(.data ([(.agg [(ic H),(ic I)]),(.agg [(ic H),(ic I)])]:Ls)),(.data ([(.agg [(ic J),(ic L)]),(.agg [(ic H),(ic I)])]:Ls))]:Ls) (fun M=>(aB M (aB (C==0) (aB (A==17) (aB (G==0) (aB (E==23) (a2  (fun N=>(a7 N j 2 1 1 (fun O=>(aB O (a2  (fun P=>(a7 P j 4 1 0 (fun R=>(aB R (a2  (fun S=>(a7 S j 8 1 0 a))) (a false)))))) (a false)))))) (a false)) (a false)) (a false)) (a false)) (a false)))) (a false))) K)))))))))))))))))))))))))))))
def vL:DY:=QT QE zB QO yak ybj Ds Be JX
def QU:Sg:=⟨lN,Bool→Prop,fun K=>(fun r0=>K (.bool r0))⟩
def yp (a0:QD) (a1:QG) (a2:QN) (a3:fK) (a4:yW) (a5:cD) (a6:dP) (a7:QQ):SE:=sE (E aT) [(IC,QF.pw a0),(ID,QK.pw a1),(IE,QP.pw a2),(jF,yS.pw a3),(kV,JM.pw a4),(CE,jX.pw a5),(IX,rG.pw a6),(IY,QS.pw a7)] dJ
theorem yq (a0 a1 a2 a3 a4 a5 a6 a7):bR (yp a0 a1 a2 a3 a4 a5 a6 a7) 6 Wh QU (QT a0 a1 a2 a3 a4 a5 a6 a7):=fun _ _=>by kernel_rfl
theorem Zf:bP (E aT) (QU.pw vL) sO:=bT bB (yq _ _ _ _ _ _ _ _) (bK (aQ.uni _) ⟨(yb aT bB),(Zd aT bB),(yi aT bB),(yT aT bB),Qs,(Pt aT bB),(Yh aT bB),yo,trivial⟩ trivial bB.ok) bH.flat (aW (by kernel_rfl))
abbrev yr:Type:=Ls→Ls→J4 (Int→(Bool→Prop)→Prop)
def Bp (a0:dP) (a1:DY) (a2:yW) (a3:DT) (a4:yZ) (a5:yY) (x0:Ls→Int→Int→Ls→Int→Int→Int→Ls→Int→Bool→Prop) (x1:Bool→Prop):Nat→Ls→Int→Int→Ls→Int→Int→Int→Ls→Int→Prop
 | 0,_,_,_,_,_,_,_,_,_=>False
 | n+1,b,c,d,e,f,g,h,i,j=>
 (aB (decide (j<5)) (aA (!(decide (j<0))) (lt (u8.wrap (1*2 ^ (min j.toNat u8.bits))) (fun k=>(a4 b e k (fun l m=>(a5 b e k (fun o p q=>(jn (fun (a:Bool→Prop)=>(aB (m !=0) (a true) (lt (u8.wrap (BitVec.ofInt u8.bits h&&&BitVec.ofInt u8.bits k).toNat) (fun r=>(aB (l !=(r !=0)) (a true) (aB (l !=(q==6)) (a true) (aB (!l) (a (q !=0)) (a false)))))))) (fun r=>(aB r (x1 false) (lt (i64.wrap (j+1)) (Bp a0 a1 a2 a3 a4 a5 x0 x1 n b c d e f g h i)))))))))))) (x0 b c d e f g h i j false))
def QV (a0:dP) (a1:DY) (a2:yW) (a3:DT) (a4:yZ) (a5:yY) (b c:Ls) (d e f g h:Int) (K:Bool→Prop):Prop:=
 (a0 b c (fun i=>(aB (!i) (a1  K) (a2 b c (fun j k l=>(aB (l !=0) (jn (fun (y:Bool→Prop)=>(aB (l==16) (a1  y) (y false))) K) (aB ((((length k):Nat):Int) !=(((length b):Nat):Int)) (K false) (a3 b c d k (fun m o=>(jn (fun (x:Bool→Prop)=>(aB (o !=0) (x true) (aB (decide (d≤31)) (lt (u8.wrap (BitVec.ofInt u8.bits d&&&BitVec.ofInt u8.bits j).toNat) (fun p=>(x (m !=(p==d))))) (x (m !=false))))) (fun p=>(aB p (K false) (∃ n:Nat,Bp a0 a1 a2 a3 a4 a5 (fun q r s t u v w z A B=>(jn (fun (a:Bool→Prop)=>(aB (decide (r<0)) (a true) (aB (decide (r≥(((length q):Nat):Int))) (a true) (aB (decide (s<0)) (a true) (aA (decide (0≤r)) (aA (decide (r<(((length z):Nat):Int))) (lt (getD z (r.toNat) .nils) (fun C=>(aA (aF zD C) (aB (decide (s≥(((length (bL C)):Nat):Int))) (a true) (aA (decide (0≤r)) (aA (decide (r<(((length z):Nat):Int))) (lt (getD z (r.toNat) .nils) (fun D=>(aA (aF zD D) (aA (decide (0≤s)) (aA (decide (s<(((length (bL D)):Nat):Int))) (lt (getD (bL D) (s.toNat) .nils) (fun E=>(aA (aF z2 E) (a ((u ==(aK (aP E 0)))&&((v ==(aK (aP E 1)))&&true))))))))))))))))))))))) (fun C=>(aB C (a1  K) (aA (decide (0≤r)) (aA (decide (r<(((length z):Nat):Int))) (lt (getD z (r.toNat) .nils) (fun D=>(aA (aF zD D) (aA (decide (0≤s)) (aA (decide (s<(((length (bL D)):Nat):Int))) (lt (getD (bL D) (s.toNat) .nils) (fun E=>(aA (aF z2 E) False)))))))))))))) K n b e f c g h j k 0)))))))))))))
def JY:yr:=QV zA vL ybj oL tA sZ
def Zg:Sg:=⟨(lC vD (lC jJ (lC oK (lC cF (lC cF FW))))),Bool→Prop,fun K=>(fun r0=>K (.bool r0))⟩
def yt (Q:Qx):Ls→Int→Int→Ls→Int→Int→Int→Ls→Int→Bool→Prop:=(fun b c d e f g h i j k=>Q (.exit 0) [(0,.v (.data b)),(3,.v (ic c)),(4,.v (ic d)),(7,.box (.agg [(.data e)])),(11,.box (.agg [(ic f),(ic g)])),(13,.box (.agg [(.int .u8 h),(.data i)])),(18,.v (ic j)),(79,.v (.bool k))] [])
def yu (Q:Qx):Bool→Prop:=(fun b=>Q .ret [(12,.v (.bool b))] [])
def Zh (a0:dP) (a1:DY) (a2:yW) (a3:DT) (a4:yZ) (a5:yY) (Q:Qx):List St:=[⟨(pS hN (fV 0 vD (fV 3 cF (fV 4 cF (fX 7 jJ (fX 11 qZ (fX 13 vJ (fV 18 cF fN))))))) fN),Bp a0 a1 a2 a3 a4 a5 (yt Q) (yu Q)⟩]
def Zi (a0:dP) (a1:DY) (a2:yW) (a3:DT) (a4:yZ) (a5:yY):LP:=eQ [(89800100,Zh a0 a1 a2 a3 a4 a5)]
def QW (a0:dP) (a1:DY) (a2:yW) (a3:DT) (a4:yZ) (a5:yY):SE:=sE (E aT) [(qX,DA.pw a0),(sO,QU.pw a1),(kV,JM.pw a2),(sP,QA.pw a3),(mS,JS.pw a4),(jW,JR.pw a5)] (Zi a0 a1 a2 a3 a4 a5)
theorem Zj:SEOk (aZ (E aT)) (QW zA vL ybj oL tA sZ):=bK (aQ.uni _) ⟨(YW aT bB),Zf,Qs,JW,Qz,Qw,trivial⟩ trivial bB.ok
theorem yv (a0 a1 a2 a3 a4 a5):dF (QW a0 a1 a2 a3 a4 a5) 5 a CW false (Zh a0 a1 a2 a3 a4 a5):=fun _=>⟨fun _=>by kernel_rfl,fun _ _=>by kernel_rfl,trivial⟩
theorem yw:dG (aZ (E aT)) (Zi zA vL ybj oL tA sZ) [] 89800100 (.loop 89800100 CW):=fun _ _ _=>cJ.st (aQ.uni _) (cM (Zj) 5) (cS.no _ _) (aW (by kernel_rfl)) (yv _ _ _ _ _ _ _)
theorem yx (a0 a1 a2 a3 a4 a5):bR (QW a0 a1 a2 a3 a4 a5) 6 CV Zg (QV a0 a1 a2 a3 a4 a5):=fun _ _=>by kernel_rfl
theorem yy:bP (E aT) (Zg.pw JY) AL:=bT bB (yx _ _ _ _ _ _) (Zj) bH.flat (dA (l:=[(89800100,.loop 89800100 CW)]) ⟨yw,trivial⟩ (by kernel_rfl))
set_option linter.unusedVariables false
theorem yz (p0 r0:Ls) (h:∀ K:Ls→Prop,K r0→zB p0 K) (K:Ls→Prop):zB p0 K=K r0:=
 Aab ⟨fun k=>bX (Zd [] fI) (az:=[(.data p0)]) (x:=(.agg [(.data r0)])) (fun K' k'=>h (fun r0=>K' (.agg [(.data r0)])) k') (K:=fun x=>match x with | (.agg [(.data r0)])=>K r0 | _=>False) k,h K⟩
def bS (n:Int):Prop:=-9223372036854775808≤n∧n≤9223372036854775807
def fE (n:Int):Prop:=0≤n∧n≤18446744073709551615
theorem vM (n:Int):u64.wrap n=n%18446744073709551616:=by simp only [IntKind.wrap,IntKind.signed,IntKind.bits,jS,gR,if_false];rfl
theorem za (n:Int):i64.wrap n=if n%18446744073709551616≥9223372036854775808 then n%18446744073709551616-18446744073709551616 else n%18446744073709551616:=by
 have e1:(2:Int) ^ 64=18446744073709551616:=rfl;have e2:(2:Int) ^ (64-1)=9223372036854775808:=rfl;simp only [IntKind.wrap,IntKind.signed,IntKind.bits,gH,e1,e2]
 by_cases h:n%18446744073709551616≥9223372036854775808<;>simp [h]
theorem aU {n:Int} (h:fE n):u64.wrap n=n:=by unfold fE at h;rw [vM];omega
theorem eW {n:Int} (h:bS n):i64.wrap n=n:=by unfold bS at h;rw [za];split<;>omega
theorem aY {x y:Prop}:aB true x y=x:=rfl
theorem aV {x y:Prop}:aB false x y=y:=rfl
theorem cH {x:Prop}:aA true x=x:=rfl
theorem tB {p:Int} (h:bS p) (K:Int→Prop):yD p K=K (p.natAbs:Int):=by
 unfold bS at h;unfold yD NJ
 by_cases hp:p<0
 ·have e:u64.wrap ((0:Int)-u64.wrap p)=(p.natAbs:Int):=by
   rw [vM,vM];omega
  rw [Os hp,aY,e]
 ·rw [Po hp,aV,aU ⟨by omega,by omega⟩];congr 1;omega
theorem Zk (x:Int→Int→Bool→Prop):∀ (n a b:Nat),b<n→FU x n (a:Int) (b:Int)=x ((Nat.gcd a b:Nat):Int) 0 false
 | 0,a,b,h=>by omega
 | n+1,a,b,h=>by
  unfold FU
  by_cases hb:b=0
  ·subst hb;simp [aB]
  ·have h1:(b:Int)>0:=by omega
   have h2:¬((b:Int)=0):=by omega
   rw [Os h1,aY,Po h2,pC,cH];have e:Int.tmod (a:Int) (b:Int)=((a%b:Nat):Int):=by rw [Int.tmod_eq_emod_of_nonneg (by omega)];omega
   rw [e,Zk x n b (a%b) (by have:=Nat.mod_lt a (show b>0 by omega);omega)];rw [qC a b,Nat.gcd_rec b a,qC]
theorem DZ (a b:Nat) (K:Int→Prop) (h:K ((Nat.gcd a b:Nat):Int)):pQ (a:Int) (b:Int) K:=by unfold pQ NK;exact ⟨b+1,by rw [Zk _ (b+1) a b (by omega)];exact h⟩
def RV (n d:Int):Prop:=1≤d∧d≤1000000000000000000∧-1000000000000000000≤n∧n≤1000000000000000000∧Nat.gcd n.natAbs d.natAbs=1
instance (n d:Int):Decidable (RV n d):=by unfold RV;infer_instance
def chk (n d:Int):Int:=if RV n d then 0 else 8
theorem QX {n d:Int} (hn:bS n) (hd:bS d) {K:Int→Prop} (h:K (chk n d)):yE n d K:=by
 unfold yE NN
 by_cases h1:d<1
 ·have e:chk n d=8:=Sk fun h=>by have:=h.1;omega
  rw [Os h1,aY,← e];exact h
 ·have hd':=hd;have hn':=hn;unfold bS at hd' hn';have ed:u64.wrap d=((d.natAbs:Nat):Int):=by rw [aU ⟨by omega,by omega⟩];omega
  rw [Po h1,aV,tB hn,ed]
  by_cases h2:((if ((d.natAbs:Nat):Int)>((n.natAbs:Nat):Int) then ((d.natAbs:Nat):Int) else ((n.natAbs:Nat):Int))>1000000000000000000)
  ·have e:chk n d=8:=Sk fun h=>by
    obtain ⟨a1,a2,a3,a4,_⟩:=h;revert h2;split<;>omega
   rw [Os h2,aY,← e];exact h
  ·rw [Po h2,aV,tB hn];refine DZ _ _ _ ?_;have h3:0<Nat.gcd n.natAbs d.natAbs:=zY _ (by omega);have h4:d≤1000000000000000000∧-1000000000000000000≤n∧n≤1000000000000000000:=by
    revert h2;split<;>omega
   by_cases h5:((Nat.gcd n.natAbs d.natAbs:Nat):Int)>1
   ·have e:chk n d=8:=Sk fun h=>by have:=h.2.2.2.2;omega
    rw [Os h5,aY,← e];exact h
   ·have e:chk n d=0:=Sj ⟨by omega,h4.1,h4.2.1,h4.2.2,by omega⟩;rw [Po h5,aV,← e];exact h
theorem vN {p:Int} (h:fE p):u64.wrap (BitVec.ofInt u64.bits p&&&BitVec.ofInt u64.bits (4294967295:Int)).toNat=p%4294967296:=by
 unfold fE at h;have e1:(BitVec.ofInt 64 p).toNat=p.toNat:=by
  rw [BitVec.toNat_ofInt];omega
 have e2:(BitVec.ofInt 64 (4294967295:Int)).toNat=4294967295:=rfl;have e3:(BitVec.ofInt u64.bits p&&&BitVec.ofInt u64.bits (4294967295:Int)).toNat=p.toNat%4294967296:=by show (BitVec.ofInt 64 p&&&BitVec.ofInt 64 (4294967295:Int)).toNat=_;rw [BitVec.toNat_and,e1,e2];exact Nat.and_two_pow_sub_one_eq_mod p.toNat 32
 rw [e3,vM];omega
theorem Zl (p:Int):Int.fdiv p 4294967296=p/4294967296:=by rw [Int.fdiv_eq_ediv_of_nonneg _ (by omega)]
theorem Bq {a b:Int} (ha:fE a) (hb:fE b) (K:Int→Int→Prop):uK a b K=K (a*b/18446744073709551616) (a*b%18446744073709551616):=by
 unfold uK NX;simp only [Zl];rw [vN ha,vN hb];unfold fE at ha hb;have ha':=ha;have hb':=hb;obtain ⟨x1,hx1⟩:∃ x,x=a/4294967296:=⟨_,rfl⟩;obtain ⟨x0,hx0⟩:∃ x,x=a%4294967296:=⟨_,rfl⟩;obtain ⟨y1,hy1⟩:∃ x,x=b/4294967296:=⟨_,rfl⟩;obtain ⟨y0,hy0⟩:∃ x,x=b%4294967296:=⟨_,rfl⟩;rw [← hx1,← hx0,← hy1,← hy0];have b1:0≤x1∧x1≤4294967295:=by omega
 have b2:0≤x0∧x0≤4294967295:=by omega
 have b3:0≤y1∧y1≤4294967295:=by omega
 have b4:0≤y0∧y0≤4294967295:=by omega
 have pb:∀ x y:Int,0≤x∧x≤4294967295→0≤y∧y≤4294967295→0≤x*y∧x*y≤18446744065119617025:=by intro x y hx hy;refine ⟨iY hx.1 hy.1,?_⟩;have:=sB hx.2 hy.2 hy.1 (by omega:(0:Int)≤4294967295);omega
 have p1:=pb x1 y1 b1 b3;have p2:=pb x1 y0 b1 b4;have p3:=pb x0 y1 b2 b3;have p4:=pb x0 y0 b2 b4;have ea:a=x1*4294967296+x0:=by omega
 have eb:b=y1*4294967296+y0:=by omega
 have eab:a*b=x1*y1*18446744073709551616+x1*y0*4294967296+x0*y1*4294967296+x0*y0:=by rw [ea,eb];grind
 obtain ⟨P,hP⟩:∃ x,x=x1*y1:=⟨_,rfl⟩;obtain ⟨Q,hQ⟩:∃ x,x=x1*y0:=⟨_,rfl⟩;obtain ⟨R,hR⟩:∃ x,x=x0*y1:=⟨_,rfl⟩;obtain ⟨S,hS⟩:∃ x,x=x0*y0:=⟨_,rfl⟩;rw [← hP] at p1;rw [← hQ] at p2;rw [← hR] at p3;rw [← hS] at p4;rw [← hP,← hQ,← hR,← hS] at eab ⊢;have w1:u64.wrap S=S:=aU ⟨by omega,by omega⟩;have w2:u64.wrap Q=Q:=aU ⟨by omega,by omega⟩;have w3:u64.wrap R=R:=aU ⟨by omega,by omega⟩;have w4:u64.wrap P=P:=aU ⟨by omega,by omega⟩;rw [w1,w2,w3,w4];have w5:u64.wrap (Q+S/4294967296)=Q+S/4294967296:=aU ⟨by omega,by omega⟩;rw [w5,vN ⟨by omega,by omega⟩];have w6:u64.wrap ((Q+S/4294967296)%4294967296+R)=(Q+S/4294967296)%4294967296+R:=aU ⟨by omega,by omega⟩;rw [w6];have w7:u64.wrap (P+(Q+S/4294967296)/4294967296)=P+(Q+S/4294967296)/4294967296:=by
  have:a*b/18446744073709551616≤18446744073709551615:=by
   have h1:a*b≤18446744073709551615*18446744073709551615:=by have:=sB ha'.2 hb'.2 hb'.1 (by omega:(0:Int)≤18446744073709551615);exact this
   omega
  exact aU ⟨by omega,by omega⟩
 rw [w7];have hab:a*b≤18446744073709551615*18446744073709551615:=sB ha'.2 hb'.2 hb'.1 (by omega:(0:Int)≤18446744073709551615);rw [eab] at hab ⊢;rw [vM,vM];congr 1;omega
theorem zb {a b:Int} {K:Int→Prop} (h:K (if a=0 then b else a)):Jm [.int .i64 a,.int .i64 b] K:=by
 unfold Jm NP;refine ⟨3,?_⟩;have e1:i64.wrap 1=1:=by decide
 have e2:i64.wrap 2=2:=by decide
 by_cases ha:a=0
 ·by_cases hb:b=0
  ·simp [CY,aY,aV,cH,aF,pM,aK,e1,e2,ha,hb] at h ⊢;exact h
  ·have e3:(b !=0)=true:=by simpa using hb
   simp [CY,aY,aV,cH,aF,pM,aK,e1,e2,ha,e3] at h ⊢;exact h
 ·have e3:(a !=0)=true:=by simpa using ha
  simp [CY,aY,aV,cH,aF,pM,aK,e1,e2,ha,e3] at h ⊢;exact h
def bY (a b c d:Int):Int:=if chk a b=0 then chk c d else chk a b
theorem GA {a b c d:Int} (ha:bS a) (hb:bS b) (hc:bS c) (hd:bS d) {K:Int→Prop} (h:K (bY a b c d)):yH a b c d K:=by unfold yH NR;exact QX ha hb (QX hc hd (zb h))
def fM (a b:Int):Int:=if a<b then -1 else if a>b then 1 else 0
theorem zc (a b:Int) (K:Int→Prop):Jn a b K=K (fM a b):=by
 unfold Jn NV;simp only [NT,NS,bne_self_eq_false,aV,fM]
 by_cases h:a<b
 ·simp [h,aY]
 ·by_cases h2:a>b
  ·simp [h,h2,aY,aV]
  ·simp [h,h2,aV]
theorem Zm (a b:Int) (K:Int→Prop):Jo a b K=K (fM a b):=by
 unfold Jo Oc;simp only [Oa,NZ,bne_self_eq_false,aV,fM]
 by_cases h:a<b
 ·simp [h,aY]
 ·by_cases h2:a>b
  ·simp [h,h2,aY,aV]
  ·simp [h,h2,aV]
theorem zd {a b:Int} {K:Int→Prop} (h:K (if a=0 then b else a)):Jp [.int .i64 a,.int .i64 b] K:=by
 unfold Jp Oe;refine ⟨3,?_⟩;have e1:i64.wrap 1=1:=by decide
 have e2:i64.wrap 2=2:=by decide
 by_cases ha:a=0
 ·by_cases hb:b=0
  ·simp [Da,aY,aV,cH,aF,pM,aK,e1,e2,ha,hb] at h ⊢;exact h
  ·have e3:(b !=0)=true:=by simpa using hb
   simp [Da,aY,aV,cH,aF,pM,aK,e1,e2,ha,e3] at h ⊢;exact h
 ·have e3:(a !=0)=true:=by simpa using ha
  simp [Da,aY,aV,cH,aF,pM,aK,e1,e2,ha,e3] at h ⊢;exact h
theorem nN {a b c d:Int}:bY a b c d=0↔RV a b∧RV c d:=by
 unfold bY chk
 by_cases h1:RV a b<;>by_cases h2:RV c d<;>simp [h1,h2]
def mV (a b c d:Int):Int:=fM (a*d) (c*b)
theorem ze {x y:Int} (hx:0≤x) (hy:0≤y):(if fM (x/18446744073709551616) (y/18446744073709551616)=0 then fM (x%18446744073709551616) (y%18446744073709551616) else fM (x/18446744073709551616) (y/18446744073709551616))=fM x y:=by unfold fM;split<;>rename_i h<;>revert h<;>repeat' split<;>intro h<;>omega
theorem fE.abs {n:Int} (h:bS n):fE ((n.natAbs:Nat):Int):=by unfold bS at h;unfold fE;omega
theorem Zn {a b c d:Int} (ha:bS a) (hb:bS b) (hc:bS c) (hd:bS d) {K:Int→Int→Prop} (h:K (if bY a b c d=0 then mV a b c d else 0) (bY a b c d)):rE a b c d K:=by
 unfold rE Og;refine GA ha hb hc hd ?_
 by_cases hk:bY a b c d=0
 ·rw [Sj hk] at h;rw [hk] at h ⊢;obtain ⟨⟨b1,b2,a1,a2,_⟩,d1,d2,c1,c2,_⟩:=nN.1 hk;simp only [bne_self_eq_false,aV]
  by_cases hs:decide (a<0)=decide (c<0)
  ·have e:(decide (a<0) !=decide (c<0))=false:=by rw [hs];simp
   rw [e,aV,tB ha,aU ⟨by omega,by omega⟩,Bq (fE.abs ha) ⟨by omega,by omega⟩,tB hc,aU ⟨by omega,by omega⟩,Bq (fE.abs hc) ⟨by omega,by omega⟩,Zm,Zm];refine zd ?_;have p1:0≤((a.natAbs:Nat):Int)*d:=iY (by omega) (by omega);have p2:0≤((c.natAbs:Nat):Int)*b:=iY (by omega) (by omega);rw [ze p1 p2]
   by_cases hneg:a<0
   ·have hcn:c<0:=by simpa [hneg] using hs.symm
    rw [Os hneg,aY];have e1:((a.natAbs:Nat):Int)*d=-(a*d):=by
     rw [show ((a.natAbs:Nat):Int)=-a by omega,Int.neg_mul]
    have e2:((c.natAbs:Nat):Int)*b=-(c*b):=by rw [show ((c.natAbs:Nat):Int)=-c by omega,Int.neg_mul]
    have e3:i64.wrap (0-fM (((a.natAbs:Nat):Int)*d) (((c.natAbs:Nat):Int)*b))=mV a b c d:=by
     rw [e1,e2];unfold mV fM;rw [eW (by unfold bS;repeat' split<;>omega)]
     repeat' split<;>omega
    rw [e3];exact h
   ·have hcn:¬c<0:=by simpa [hneg] using hs.symm
    rw [Po hneg,aV,show ((a.natAbs:Nat):Int)=a by omega,show ((c.natAbs:Nat):Int)=c by omega];exact h
  ·have e:(decide (a<0) !=decide (c<0))=true:=by simpa using hs
   rw [e,aY,zc];have e2:fM a c=mV a b c d:=by
    unfold mV fM
    by_cases hneg:a<0
    ·have hcn:¬c<0:=by intro hcn;simp [hneg,hcn] at hs
     have q1:a*d<0:=zX hneg (by omega);have q2:0≤c*b:=iY (by omega) (by omega);rw [Sj (by omega),Sj (by omega)]
    ·have hcn:c<0:=by
      by_cases hcn:c<0
      ·exact hcn
      ·simp [hneg,hcn] at hs
     have q1:c*b<0:=zX hcn (by omega);have q2:0≤a*d:=iY (by omega) (by omega);rw [Sk (by omega),Sj (by omega),Sk (by omega),Sj (by omega)]
   rw [e2];exact h
 ·rw [Sk hk] at h;have e:(bY a b c d !=0)=true:=by simpa using hk
  rw [e,aY];exact h
def blen (x:Nat):Nat:=if x=0 then 0 else x.log2+1
theorem Zo (x:Nat):x<2 ^ blen x:=by
 unfold blen;split
 ·rename_i h;subst h;decide
 ·exact Nat.lt_log2_self
theorem JZ {x:Nat} (h:x≠0):2 ^ (blen x-1)≤x:=by unfold blen;rw [Sk h];exact Nat.log2_self_le h
theorem zf {x m:Nat} (h1:2 ^ m≤x) (h2:x<2 ^ (m+1)):blen x=m+1:=by
 have hx:x≠0:=by have:=Nat.two_pow_pos m;omega
 unfold blen;rw [Sk hx];congr 1;have a:=Nat.log2_self_le hx;have b:=Nat.lt_log2_self (n:=x);have c1:¬(x.log2<m):=fun h=>by
  have:=EA (show 0<2 by omega) (show x.log2+1≤m by omega);omega
 have c2:¬(m<x.log2):=fun h=>by
  have:=EA (show 0<2 by omega) (show m+1≤x.log2 by omega);omega
 omega
theorem zg {x k:Nat} (h:2 ^ k≤x):blen x=k+blen (x/2 ^ k):=by
 have hp:=Nat.two_pow_pos k;have hq:x/2 ^ k≠0:=by have:=Nat.div_pos h hp;omega
 have h1:=JZ hq;have h2:=Zo (x/2 ^ k);obtain ⟨m,hm⟩:∃ m,blen (x/2 ^ k)=m+1:=⟨blen (x/2 ^ k)-1,by
  have:blen (x/2 ^ k)≠0:=by unfold blen;rw [Sk hq];omega
  omega⟩
 rw [hm] at h1 h2 ⊢;rw [Nat.add_sub_cancel] at h1;have:=zf (x:=x) (m:=k+m) (by
   rw [Nat.pow_add]
   calc 2 ^ k*2 ^ m≤2 ^ k*(x/2 ^ k):=Nat.mul_le_mul_left _ h1
    _≤x:=Nat.mul_div_le _ _) (by
   rw [show k+m+1=k+(m+1) by omega,Nat.pow_add];rw [Nat.mul_comm];exact (Nat.div_lt_iff_lt_mul hp).1 h2)
 omega
theorem zh:∀ x:Nat,x<256→aK (getD qS x .nils)=(blen x:Int):=by decide +kernel
theorem Zp {n:Int} (h0:0≤n) (h1:n<256):u8.wrap n=n:=by have e1:(2:Int) ^ 8=256:=rfl;simp only [IntKind.wrap,IntKind.signed,IntKind.bits,jS,gR,if_false,e1];omega
theorem zi {n:Int} (h0:0≤n) (h1:n<256):aK (getD qS (u8.wrap n).toNat .nils)=(blen n.toNat:Int):=by rw [Zp h0 h1];exact zh n.toNat (by omega)
theorem zj {n:Nat} (h:n<256):blen n≤8:=by
 by_cases h0:n=0
 ·subst h0;decide
 ·have:=JZ h0;have h2:blen n-1<8:=by
   refine Nat.lt_of_not_le fun hc=>?_
   have:=EA (show 0<2 by omega) hc;omega
  omega
theorem zC {n k:Int} (h0:0≤n) (h1:n<256) (hk:0≤k∧k≤56) {m:Int} (hm:m=k+blen n.toNat) {K:Int→Prop} (h:K m) :
  aA (decide ((0:Int)≤(u8.wrap n))) (aA (decide ((u8.wrap n)<(256:Int))) (K (i64.wrap (k+(i64.wrap (aK (getD qS ((u8.wrap n).toNat) .nils))))))):=by
 have hb:=zj (n:=n.toNat) (by omega);have e1:i64.wrap (blen n.toNat:Int)=blen n.toNat:=eW (by unfold bS;omega);have e2:i64.wrap (k+blen n.toNat:Int)=k+blen n.toNat:=eW (by unfold bS;omega);rw [zi h0 h1,Zp h0 h1,Os h0,cH,Os h1,cH,e1,e2,← hm];exact h
theorem Br (p q:Int) (hq:0≤q):Int.fdiv p q=p/q:=Int.fdiv_eq_ediv_of_nonneg _ hq
theorem zk {p:Int} (hp:fE p) {K:Int→Prop} (h:K (blen p.toNat:Int)):Jq p K:=by
 unfold fE at hp;unfold Jq Oh;simp only [Br _ 4294967296 (by omega),Br _ 65536 (by omega),Br _ 256 (by omega)];have key:∀ (k:Nat) (q:Int),2 ^ k≤p.toNat→q=p/(2 ^ k:Nat)→(blen p.toNat:Int)=k+blen q.toNat:=by
  intro k q hk hq;have e:q.toNat=p.toNat/2 ^ k:=by
   rw [hq];obtain ⟨m,rfl⟩:∃ m:Nat,p=m:=⟨p.toNat,by omega⟩;rw [← pB,cE,cE]
  rw [e];have:=zg hk;omega
 by_cases h1:p≥4294967296
 ·rw [Os h1,aY]
  by_cases h2:p/4294967296≥65536
  ·rw [Os h2,aY]
   by_cases h3:p/4294967296/65536≥256
   ·rw [Os h3,aY];exact zC (by omega) (by omega) (by omega) (key 56 _ (by omega) (by omega)) h
   ·rw [Po h3,aV];exact zC (by omega) (by omega) (by omega) (key 48 _ (by omega) (by omega)) h
  ·rw [Po h2,aV]
   by_cases h3:p/4294967296≥256
   ·rw [Os h3,aY];exact zC (by omega) (by omega) (by omega) (key 40 _ (by omega) (by omega)) h
   ·rw [Po h3,aV];exact zC (by omega) (by omega) (by omega) (key 32 _ (by omega) (by omega)) h
 ·rw [Po h1,aV]
  by_cases h2:p≥65536
  ·rw [Os h2,aY]
   by_cases h3:p/65536≥256
   ·rw [Os h3,aY];exact zC (by omega) (by omega) (by omega) (key 24 _ (by omega) (by omega)) h
   ·rw [Po h3,aV];exact zC (by omega) (by omega) (by omega) (key 16 _ (by omega) (by omega)) h
  ·rw [Po h2,aV]
   by_cases h3:p≥256
   ·rw [Os h3,aY];exact zC (by omega) (by omega) (by omega) (key 8 _ (by omega) (by omega)) h
   ·rw [Po h3,aV];exact zC (by omega) (by omega) (by omega) (by simp) h
theorem zl {p:Int} (hp:fE p) {K:Int→Prop} (h:K (64-blen p.toNat:Int)):yI p K:=by
 unfold yI Oi;refine zk hp ?_;have hb:blen p.toNat≤64:=by
  unfold fE at hp
  by_cases h0:p.toNat=0
  ·rw [h0];decide
  ·have:=JZ h0;have h2:blen p.toNat-1<64:=by
    refine Nat.lt_of_not_le fun hc=>?_
    have:=EA (show 0<2 by omega) hc;omega
   omega
 rw [eW (by unfold bS;omega)];exact h
structure DI (y a b u un q r:Int):Prop where
 hy:y=a*4294967296+b
 h1:2147483648≤a∧a≤4294967295
 h0:0≤b∧b≤4294967295
 hn:0≤un∧un≤4294967295
 hu:q*a+r=u
 hq:0≤q∧q≤4294967297
 hr:0≤r∧r≤4294967295
 hlt:u<y
 hU:u*4294967296+un<(q+1)*y
def DG (y u un q:Int):Prop:=0≤q∧q≤4294967295∧q*y≤u*4294967296+un∧u*4294967296+un<(q+1)*y
theorem DI.step {y a b u un q r:Int} (h:DI y a b u un q r) {A B C:Prop}
  (hA:DG y u un (q-1)→0≤q-1→q-1≤4294967296→A)
  (hB:DI y a b u un (q-1) (r+a)→B)
  (hC:DG y u un q→C) :
  aB (decide (q≥(4294967296:Int)))
   (aB (decide ((u64.wrap (r+a))≥(4294967296:Int))) A B)
   (aB (decide ((u64.wrap (q*b))>(u64.wrap ((u64.wrap ((4294967296:Int)*r))+un))))
    (aB (decide ((u64.wrap (r+a))≥(4294967296:Int))) A B) C):=by
 have h':=h;obtain ⟨hy,h1,h0,hn,hu,hq,hr,hlt,hU⟩:=h;have e1:u64.wrap (r+a)=r+a:=aU ⟨by omega,by omega⟩;have eq1:q*y=q*a*4294967296+q*b:=by rw [hy];grind
 have eq2:(q-1)*y=q*y-y:=by grind
 have eq3:(q-1)*a=q*a-a:=by grind
 have eq4:(q-1+1)*y=q*y:=by grind
 have eq5:(q-1)*b=q*b-b:=by grind
 have big:u*4294967296+un<q*y→aB (decide ((u64.wrap (r+a))≥(4294967296:Int))) A B:=by
  intro hb;have q1:0≤q-1:=by
   refine Int.not_lt.1 fun hc=>?_
   have hq0:q=0:=by omega
   subst hq0;simp at hb hu;omega
  rw [e1]
  by_cases hc:r+a≥4294967296
  ·rw [Os hc,aY];have hp:(q-1)*b≤4294967296*4294967295:=sB (by omega) h0.2 h0.1 (by omega);have hle:(q-1)*y≤u*4294967296+un:=by
    have:(q-1)*y=(q-1)*a*4294967296+(q-1)*b:=by rw [hy];grind
    omega
   have hlt32:q-1≤4294967295:=by
    refine Int.not_lt.1 fun hc=>?_
    have:4294967296*y≤(q-1)*y:=zV (by omega) (by omega);omega
   exact hA ⟨q1,hlt32,hle,by rw [eq4];exact hb⟩ q1 (by omega)
  ·rw [Po hc,aV];exact hB ⟨hy,h1,h0,hn,by rw [eq3];omega,⟨q1,by omega⟩,⟨by omega,by omega⟩,hlt,by rw [eq4];exact hb⟩
 by_cases ha:q≥4294967296
 ·rw [Os ha,aY];refine big ?_;have:4294967296*y≤q*y:=zV (by omega) (by omega);omega
 ·rw [Po ha,aV];have hp:q*b≤4294967295*4294967295:=sB (by omega) h0.2 h0.1 (by omega);have hp0:0≤q*b:=iY hq.1 h0.1;have w1:u64.wrap (q*b)=q*b:=aU ⟨hp0,by omega⟩;have w2:u64.wrap ((4294967296:Int)*r)=4294967296*r:=aU ⟨by omega,by omega⟩;have w3:u64.wrap ((4294967296:Int)*r+un)=4294967296*r+un:=aU ⟨by omega,by omega⟩;rw [w1,w2,w3]
  by_cases hb:q*b>4294967296*r+un
  ·rw [Os hb,aY];exact big (by omega)
  ·rw [Po hb,aV];exact hC ⟨hq.1,by omega,by omega,hU⟩
theorem zm (W:Int→(Int→Prop)→Prop) {y a c u un:Int} (s v un0:Int) {x0 x1:Int→Int→Int→Int→Int→Int→Int→Int→Int→Bool→Prop}
  (hx:∀ q r b,DG y u un q→x0 y s a c v un un0 q r b) (hx1:∀ q r b,DG y u un q→x1 y s a c v un un0 q r b) :
  ∀ (n:Nat) (q r:Int) (b:Bool),DI y a c u un q r→4294967296≤r+n*2147483648→yJ W x0 x1 (n+1) y s a c v un un0 q r b:=by
 intro n;induction n with
 | zero =>intro q r b h hn;have:=h.hr.2;exact absurd hn (by omega)
 | succ n ih=>
  intro q r b h hn;unfold yJ;refine h.step (fun g a1 a2=>?_) (fun g=>?_) (fun g=>hx1 _ _ _ g)
  ·rw [aU (n:=q-1) ⟨by omega,by omega⟩];exact hx _ _ _ g
  ·have e1:u64.wrap (q-1)=q-1:=aU ⟨g.hq.1,by have:=g.hq.2;omega⟩;have e2:u64.wrap (r+a)=r+a:=aU ⟨g.hr.1,by have:=g.hr.2;omega⟩;rw [e1,e2];exact ih _ _ _ g (by have:=h.h1.1;omega)
theorem zn (W:Int→(Int→Prop)→Prop) {y a c u un:Int} (s q1 v:Int) {x0 x1:Int→Int→Int→Int→Int→Int→Int→Int→Int→Bool→Prop}
  (hx:∀ q r b,DG y u un q→x0 y s a c un q1 r v q b) (hx1:∀ q r b,DG y u un q→x1 y s a c un q1 r v q b) :
  ∀ (n:Nat) (q r:Int) (b:Bool),DI y a c u un q r→4294967296≤r+n*2147483648→yK W x0 x1 (n+1) y s a c un q1 r v q b:=by
 intro n;induction n with
 | zero =>intro q r b h hn;have:=h.hr.2;exact absurd hn (by omega)
 | succ n ih=>
  intro q r b h hn;unfold yK;refine h.step (fun g a1 a2=>?_) (fun g=>?_) (fun g=>hx1 _ _ _ g)
  ·rw [aU (n:=q-1) ⟨by omega,by omega⟩];exact hx _ _ _ g
  ·have e1:u64.wrap (q-1)=q-1:=aU ⟨g.hq.1,by have:=g.hq.2;omega⟩;have e2:u64.wrap (r+a)=r+a:=aU ⟨g.hr.1,by have:=g.hr.2;omega⟩;rw [e1,e2];exact ih _ _ _ g (by have:=h.h1.1;omega)
theorem zo (W:Int→(Int→Prop)→Prop) {y a c u un:Int} (s v un0:Int) {x0 x1:Int→Int→Int→Int→Int→Int→Int→Int→Int→Bool→Prop}
  (hx:∀ q r b,DG y u un q→x0 y s a c v un un0 q r b) (hx1:∀ q r b,DG y u un q→x1 y s a c v un un0 q r b) (q r:Int) (h:DI y a c u un q r):Jr W x0 x1 3 y s a c v un un0 q r:=by
 have:=zm W s v un0 hx hx1 2 q r true h (by have:=h.hr.1;omega);unfold yJ at this;unfold Jr;exact this
theorem zp (W:Int→(Int→Prop)→Prop) {y a c u un:Int} (s q1 v:Int) {x0 x1:Int→Int→Int→Int→Int→Int→Int→Int→Int→Bool→Prop}
  (hx:∀ q r b,DG y u un q→x0 y s a c un q1 r v q b) (hx1:∀ q r b,DG y u un q→x1 y s a c un q1 r v q b) (q r:Int) (h:DI y a c u un q r):Dd W x0 x1 3 y s a c un q1 r v q:=by
 have:=zn W s q1 v hx hx1 2 q r true h (by have:=h.hr.1;omega);unfold yK at this;unfold Dd;exact this
theorem DI.init {y a b u un:Int} (hy:y=a*4294967296+b) (h1:2147483648≤a∧a≤4294967295) (h0:0≤b∧b≤4294967295) (hn:0≤un∧un≤4294967295)
  (hu:0≤u) (hlt:u<y):DI y a b u un (u/a) (u-u/a*a):=by
 have a1:=Int.mul_ediv_add_emod u a;have a2:=Int.emod_nonneg u (show a≠0 by omega);have a3:=Int.emod_lt_of_pos u (show 0<a by omega);have a4:u/a*a=a*(u/a):=Int.mul_comm _ _;have a5:0≤u/a:=BS hu (by omega);have a6:u/a≤4294967297:=by
  refine Int.not_lt.1 fun hc=>?_
  have:a*4294967298≤a*(u/a):=Int.mul_le_mul_of_nonneg_left (by omega) (by omega);omega
 refine ⟨hy,h1,h0,hn,by omega,⟨a5,a6⟩,⟨by omega,by omega⟩,hlt,?_⟩;have e:(u/a+1)*y=a*(u/a)*4294967296+a*4294967296+(u/a+1)*b:=by
  obtain ⟨t,ht⟩:∃ t,t=u/a:=⟨_,rfl⟩;rw [← ht,hy];grind
 have:0≤(u/a+1)*b:=iY (by omega) h0.1;omega
theorem Zq {a b:Int} {k:Nat} (ha:0≤a) (hb:0≤b∧b<2 ^ k) (hab:a*2 ^ k≤18446744073709551615∧b≤18446744073709551615) (hs:a*2 ^ k+b≤18446744073709551615) :
  u64.wrap (BitVec.ofInt u64.bits (a*2 ^ k)|||BitVec.ofInt u64.bits b).toNat=a*2 ^ k+b:=by
 obtain ⟨x,rfl⟩:∃ x:Nat,a=x:=⟨a.toNat,by omega⟩;obtain ⟨z,rfl⟩:∃ z:Nat,b=z:=⟨b.toNat,by omega⟩;have ec:((x:Int)*2 ^ k)=((2 ^ k*x:Nat):Int):=by push_cast;exact Int.mul_comm _ _
 rw [ec] at hab hs ⊢;have hz:z<2 ^ k:=by have:=hb.2;exact_mod_cast this
 have e:(BitVec.ofInt u64.bits ((2 ^ k*x:Nat):Int)|||BitVec.ofInt u64.bits (z:Int)).toNat=2 ^ k*x+z:=by
  show (BitVec.ofInt 64 ((2 ^ k*x:Nat):Int)|||BitVec.ofInt 64 (z:Int)).toNat=_;rw [BitVec.toNat_or,BitVec.toNat_ofInt,BitVec.toNat_ofInt];have e1:(((2 ^ k*x:Nat):Int)%(2 ^ 64:Nat)).toNat=2 ^ k*x:=by omega
  have e2:((z:Int)%(2 ^ 64:Nat)).toNat=z:=by omega
  rw [e1,e2,Nat.two_pow_add_eq_or_of_lt hz]
 rw [e,aU ⟨by omega,by omega⟩]
 push_cast;rfl
theorem Zr {u un q y:Int} (h0:0≤u*4294967296+un-q*y) (h1:u*4294967296+un-q*y≤18446744073709551615) :
  u64.wrap (u64.wrap (u64.wrap (u*4294967296)+un)-u64.wrap (q*y))=u*4294967296+un-q*y:=by
 simp only [vM];omega
theorem oM {a b:Int} (h:0≤a):Int.tdiv a b=a/b:=Int.tdiv_eq_ediv_of_nonneg h
theorem Zs {a b:Int} (h:0≤a):Int.tmod a b=a%b:=Int.tmod_eq_emod_of_nonneg h
end Go.Pf.Vc
