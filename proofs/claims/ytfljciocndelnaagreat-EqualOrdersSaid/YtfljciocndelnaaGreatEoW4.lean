/- Part 4. -/
import Derived.Test.YtfljciocndelnaaGreatEoW3
open Go.IntKind (i64 u8 u64)
open List (length getD take drop replicate set map isEmpty)
namespace Go.Pf.Vc
open Go Go.Pf
set_option maxRecDepth 100000
def G3 (a0:kA) (a1:mG):LP:=jF [(10200500,F9 a0 a1)]
def SZ (e:Es) (a0:kA) (a1:mG):SE:=sE (E e) [(HY,Dq.pw a0),(HZ,wN.pw a1)] (G3 a0 a1)
theorem G4 (e:Es) (he:EG e):SEOk (bW (E e)) (SZ e zO zL):=bZ (aM.uni _) ⟨(C7 e he),(C0 e he),trivial⟩ trivial he.ok
theorem zb (e:Es) (a0 a1):hO (SZ e a0 a1) 5 a Lo false (F9 a0 a1):=fun _=>⟨fun _=>by kernel_rfl,fun _ _=>by kernel_rfl,trivial⟩
theorem zc (e:Es) (he:EG e):hZ (bW (E e)) (G3 zO zL) [] 10200500 (.loop 10200500 Lo):=fun _ _ _=>cJ.st (aM.uni _) (dV (G4 e he) 5) (cS.no _ _) (bC (by kernel_rfl)) (zb e _ _ _)
theorem zd (e:Es) (a0 a1):cE (SZ e a0 a1) 6 Pb lY (SY a0 a1):=fun _ _=>by kernel_rfl
theorem G5 (e:Es) (he:EG e):bO (E e) (lY.pw Gy) Fb:=cH he (zd e _ _) (G4 e he) bN.flat (gA (l:=[(10200500,.loop 10200500 Lo)]) ⟨zc e he,trivial⟩ (by kernel_rfl))
abbrev Ta:Type:=Int→Ls→(Bool→Prop)→Prop
def Gz (x0:Ls→Int→Ls→Nat→Nat→Nat→Int→Bool→Prop) (x1:Ls→Bool→Prop):Nat→Ls→Int→Ls→Nat→Nat→Nat→Int→Prop
 | 0,_,_,_,_,_,_,_=>False
 | n+1,b,c,d,e,f,g,h=>
 (aG (decide (h<c)) (jn (fun (a:Bool→Prop)=>(asr (decide (0≤h)) (asr (decide (h<(((length d):Nat):Int))) (lt (getD d (h.toNat) .nils) (fun i=>(asr (aJ zI i) (aG (decide ((aS i)<0)) (a true) (asr (decide (0≤h)) (asr (decide (h<(((length d):Nat):Int))) (lt (getD d (h.toNat) .nils) (fun j=>(asr (aJ zI j) (aG (decide ((aS j)≥c)) (a true) (asr (decide (0≤h)) (asr (decide (h<(((length d):Nat):Int))) (lt (getD d (h.toNat) .nils) (fun k=>(asr (aJ zI k) (asr (decide (0≤(aS k))) (asr (decide ((aS k)<((e:Nat):Int))) (asr (decide ((length b)=f)) (asr (decide ((0+((aS k).toNat))<(length b))) (lt (getD b (0+((aS k).toNat)) .nils) (fun l=>(asr (aJ (.one (.b)) l) (a (Oq l))))))))))))))))))))))))))) (fun i=>(aG i (x1 b false) (asr (decide (0≤h)) (asr (decide (h<(((length d):Nat):Int))) (lt (getD d (h.toNat) .nils) (fun j=>(asr (aJ zI j) (asr (decide (0≤(aS j))) (asr (decide ((aS j)<((e:Nat):Int))) (asr (decide ((length b)=f)) (asr (decide ((0+((aS j).toNat))<(length b))) (lt (getD b (0+((aS j).toNat)) .nils) (fun k=>(asr (aJ (.one (.b)) k) (lt (i64.wrap (h+1)) (fun l=>(Gz x0 x1 n (set b (0+((aS j).toNat)) (.bool true)) c d e f g l)))))))))))))))))) (x0 b c d e f g h false))
def Tb (b:Int) (c:Ls) (K:Bool→Prop):Prop:=
 (aG ((((length c):Nat):Int) !=b) (K false) (asr (decide (0≤b)) (asr (decide (b≤b)) (asr (decide (((b.toNat)+64)*(1+1)≤room)) (∃ n:Nat,Gz (fun _ _ _ _ _ _ _ _=>(K true)) (fun _ e=>(K e)) n (replicate (b.toNat) ((.bool false):PV)) b c (b.toNat) (b.toNat) (b.toNat) 0)))))
def Mx:Ta:=Tb
def Tc:Sg:=⟨(lC eF IN),Bool→Prop,fun K=>(fun r0=>K (.bool r0))⟩
def ze (Q:Qx):Ls→Int→Ls→Nat→Nat→Nat→Int→Bool→Prop:=(fun b c d e f g h i=>Q (.exit 0) [(0,.v (ic c)),(1,.v (.data d)),(5,.v (.own 0 0 e f (some g))),(6,.v (ic h)),(15,.v (.bool i))] [⟨false,true,1,b⟩])
def zf (Q:Qx):Ls→Bool→Prop:=(fun b c=>Q .ret [(4,.v (.bool c))] [⟨false,true,1,b⟩])
def rE:HPt:=hB false true 1 rA hN
def G6 (Q:Qx):List St:=[⟨(pS rE (fV 0 eF (fV 1 vD (fV 5 (vO 0 (nK 0) nV nV nV) (fV 6 eF fN)))) fN),Gz (ze Q) (zf Q)⟩]
def G7:LP:=jF [(62552700,G6)]
def Td (e:Es):SE:=sE (E e) [] (G7)
theorem G8 (e:Es) (he:EG e):SEOk (bW (E e)) (Td e):=bZ (aM.uni _) trivial trivial he.ok
theorem zg (e:Es):hO (Td e) 5 a Lp false (G6):=fun _=>⟨fun _=>by kernel_rfl,fun _ _=>by kernel_rfl,trivial⟩
theorem zh (e:Es) (he:EG e):hZ (bW (E e)) (G7) [] 62552700 (.loop 62552700 Lp):=fun _ _ _=>cJ.st (aM.uni _) (dV (G8 e he) 5) (cS.no _ _) (bC (by kernel_rfl)) (zg e _)
theorem zi (e:Es):cE (Td e) 6 Pc Tc Tb:=fun _ _=>by kernel_rfl
theorem zj (e:Es) (he:EG e):bO (E e) (Tc.pw Mx) Ia:=cH he (zi e) (G8 e he) bN.flat (gA (l:=[(62552700,.loop 62552700 Lp)]) ⟨zh e he,trivial⟩ (by kernel_rfl))
def Te (a0:iY) (a1:Ta) (b c:Ls) (K:Int→Prop):Prop:=
 (a0 b (fun d=>(aG (d !=0) (a0 b K) (a1 (((length b):Nat):Int) c (fun e=>(aG (!e) (K 8) (K 0)))))))
def Tf:kA:=Te Gy Mx
def zk (e:Es) (a0:iY) (a1:Ta):SE:=sE (E e) [(Fb,lY.pw a0),(Ia,Tc.pw a1)] eC
theorem zl (e:Es) (a0 a1):cE (zk e a0 a1) 6 Pd Gs (Te a0 a1):=fun _ _=>by kernel_rfl
theorem zm (e:Es) (he:EG e):bO (E e) (Gs.pw Tf) Ib:=cH he (zl e _ _) (bZ (aM.uni _) ⟨(G5 e he),(zj e he),trivial⟩ trivial he.ok) bN.flat (bC (by kernel_rfl))
def Tg (x0:Ls→Ls→Int→Bool→Prop) (x1:Bool→Prop):Nat→Ls→Ls→Int→Prop
 | 0,_,_,_=>False
 | n+1,b,c,d=>
 (aG (decide (d<(((length b):Nat):Int))) (asr (decide (0≤d)) (asr (decide (d<(((length b):Nat):Int))) (lt (getD b (d.toNat) .nils) (fun e=>(asr (aJ z2 e) (asr (decide (0≤d)) (asr (decide (d<(((length c):Nat):Int))) (lt (getD c (d.toNat) .nils) (fun f=>(asr (aJ z2 f) (aG (!(((aS (cQ e 0)) ==(aS (cQ f 0)))&&(((aS (cQ e 1)) ==(aS (cQ f 1)))&&true))) (x1 false) (lt (i64.wrap (d+1)) (Tg x0 x1 n b c))))))))))))) (x0 b c d false))
def Th (b c:Ls) (K:Bool→Prop):Prop:=
 (aG ((((length b):Nat):Int) !=(((length c):Nat):Int)) (K false) (∃ n:Nat,Tg (fun _ _ _ _=>(K true)) K n b c 0))
def ycM:sN:=Th
def zn (Q:Qx):Ls→Ls→Int→Bool→Prop:=(fun b c d e=>Q (.exit 0) [(0,.v (.data b)),(1,.v (.data c)),(5,.v (ic d)),(14,.v (.bool e))] [])
def zo (Q:Qx):Bool→Prop:=(fun b=>Q .ret [(4,.v (.bool b))] [])
def G9 (Q:Qx):List St:=[⟨Jf,Tg (zn Q) (zo Q)⟩]
def H8:LP:=jF [(13861700,G9)]
def Ti (e:Es):SE:=sE (E e) [] (H8)
theorem H9 (e:Es) (he:EG e):SEOk (bW (E e)) (Ti e):=bZ (aM.uni _) trivial trivial he.ok
theorem zp (e:Es):hO (Ti e) 5 a LO false (G9):=fun _=>⟨fun _=>by kernel_rfl,fun _ _=>by kernel_rfl,trivial⟩
theorem zq (e:Es) (he:EG e):hZ (bW (E e)) (H8) [] 13861700 (.loop 13861700 LO):=fun _ _ _=>cJ.st (aM.uni _) (dV (H9 e he) 5) (cS.no _ _) (bC (by kernel_rfl)) (zp e _)
theorem zr (e:Es):cE (Ti e) 6 Qw uG Th:=fun _ _=>by kernel_rfl
theorem I0 (e:Es) (he:EG e):bO (E e) (uG.pw ycM) Fq:=cH he (zr e) (H9 e he) bN.flat (gA (l:=[(13861700,.loop 13861700 LO)]) ⟨zq e he,trivial⟩ (by kernel_rfl))
set_option linter.unusedVariables false
theorem zt (p0:Ls) (r0:Bool) (h:∀ K:Bool→Prop,K r0→Gw p0 K) (K:Bool→Prop):Gw p0 K=K r0:=
 Aac ⟨fun k=>cW (F8 [] iE) (as:=[(.data p0)]) (x:=(.bool r0)) (fun K' k'=>h (fun r0=>K' (.bool r0)) k') (K:=fun x=>match x with | (.bool r0)=>K r0 | _=>False) k,h K⟩
theorem zu (p0:Ls) (r0:Int) (h:∀ K:Int→Prop,K r0→Gy p0 K) (K:Int→Prop):Gy p0 K=K r0:=
 Aac ⟨fun k=>cW (G5 [] iE) (as:=[(.data p0)]) (x:=(ic r0)) (fun K' k'=>h (fun r0=>K' (ic r0)) k') (K:=fun x=>match x with | (ic r0)=>K r0 | _=>False) k,h K⟩
theorem zv (p0 p1:Ls) (r0:Bool) (h:∀ K:Bool→Prop,K r0→ycM p0 p1 K) (K:Bool→Prop):ycM p0 p1 K=K r0:=
 Aac ⟨fun k=>cW (I0 [] iE) (as:=[(.data p0),(.data p1)]) (x:=(.bool r0)) (fun K' k'=>h (fun r0=>K' (.bool r0)) k') (K:=fun x=>match x with | (.bool r0)=>K r0 | _=>False) k,h K⟩
def Tj (a0:zM) (a1:kA) (b c:Ls) (K:Bool→Prop):Prop:=
 (jn (fun (a:Bool→Prop)=>(a0 b (fun d=>(aG (!d) (aG (decide ((((length c):Nat):Int)≤20)) (a1 b c (fun e=>(a (e==0)))) (a false)) (a false))))) K)
def Bz:sN:=Tj Gw Tf
def zw (e:Es) (a0:zM) (a1:kA):SE:=sE (E e) [(HX,Gn.pw a0),(Ib,Gs.pw a1)] eC
theorem zx (e:Es) (a0 a1):cE (zw e a0 a1) 6 Pe uG (Tj a0 a1):=fun _ _=>by kernel_rfl
theorem I1 (e:Es) (he:EG e):bO (E e) (uG.pw Bz) Ic:=cH he (zx e _ _) (bZ (aM.uni _) ⟨(F8 e he),(zm e he),trivial⟩ trivial he.ok) bN.flat (bC (by kernel_rfl))
abbrev Tk:Type:=(Ls→Prop)→Prop
def I2 (K:Ls→Prop):Prop:=
 (K ([(.agg [(ic 4),(.data ([(ic 0),(ic 4)]:Ls)),(.data ([(ic 1)]:Ls))]),(.agg [(ic 4),(.data ([(ic 0),(ic 1),(ic 4)]:Ls)),(.data ([(ic 3),(ic 1)]:Ls))])]:Ls))
def yrx:Tk:=I2
def Tl:Sg:=⟨lN,Ls→Prop,fun K=>(fun r0=>K (.data r0))⟩
def zy (e:Es):SE:=sE (E e) [] eC
theorem zz (e:Es):cE (zy e) 6 Pg Tl I2:=fun _ _=>by kernel_rfl
theorem yBN (e:Es) (he:EG e):bO (E e) (Tl.pw yrx) vY:=cH he (zz e) (bZ (aM.uni _) trivial trivial he.ok) bN.flat (bC (by kernel_rfl))
def I3 (a0:fS) (b:Int) (K:Int→Int→Prop):Prop:=
 (a0 b K)
def Tm:fS:=I3 A7
def yEt (e:Es) (a0:fS):SE:=sE (E e) [(Ip,nF.pw a0)] eC
theorem yEu (e:Es) (a0):cE (yEt e a0) 6 Qv nF (I3 a0):=fun _ _=>by kernel_rfl
theorem yEv (e:Es) (he:EG e):bO (E e) (nF.pw Tm) Iq:=cH he (yEu e _) (bZ (aM.uni _) ⟨(uf e he),trivial⟩ trivial he.ok) bN.flat (bC (by kernel_rfl))
abbrev Du:Type:=(Bool→Prop)→Prop
def Tn (a0:Tk) (a1:zU) (a2:SP) (a3:By) (a4:fS) (a5 a6:sN) (K:Bool→Prop):Prop:=
 (a0  (fun b=>(a1 b ([(ic 0),(ic 1)]:Ls) (fun c d e=>(a0  (fun f=>(a2 f ([(ic 0),(ic 1)]:Ls) c d (fun g h=>(a0  (fun i=>(a1 i ([(ic 1),(ic 0)]:Ls) (fun j k l=>(a0  (fun m=>(a2 m ([(ic 1),(ic 0)]:Ls) j k (fun o p=>(a0  (fun q=>(a3 q (fun r s t u=>(a0  (fun v=>(a2 v ([(ic 0),(ic 1)]:Ls) 1 2 (fun w z=>(a4 4 (fun A B=>(jn (fun (a:Bool→Prop)=>(aG (e==0) (aG ((c==2)&&((d==5)&&true)) (aG (h==0) (a5 g ([(.agg [(ic 8),(ic 5)]),(.agg [(ic A),(ic B)])]:Ls) (fun C=>(aG C (aG (l==0) (aG ((j==3)&&((k==5)&&true)) (aG (p==0) (a5 o ([(.agg [(ic 8),(ic 5)]),(.agg [(ic A),(ic B)])]:Ls) (fun D=>(aG D (aG (u==0) (aG ((s==j)&&((t==k)&&true)) (a6 r ([(ic 1),(ic 0)]:Ls) (fun E=>(aG E (a (z==6)) (a false)))) (a false)) (a false)) (a false)))) (a false)) (a false)) (a false)) (a false)))) (a false)) (a false)) (a false))) K)))))))))))))))))))))))))))
def GA:Du:=Tn yrx ybG ybV zV Tm ycM Gq
def To:Sg:=⟨lN,Bool→Prop,fun K=>(fun r0=>K (.bool r0))⟩
def yxU (e:Es) (a0:Tk) (a1:zU) (a2:SP) (a3:By) (a4:fS) (a5 a6:sN):SE:=sE (E e) [(vY,Tl.pw a0),(wA,Mw.pw a1),(Cy,SS.pw a2),(pV,SU.pw a3),(Iq,nF.pw a4),(Fq,uG.pw a5),(Ir,uG.pw a6)] eC
theorem yxV (e:Es) (a0 a1 a2 a3 a4 a5 a6):cE (yxU e a0 a1 a2 a3 a4 a5 a6) 6 Qz To (Tn a0 a1 a2 a3 a4 a5 a6):=fun _ _=>by kernel_rfl
theorem yxW (e:Es) (he:EG e):AY (E e) (To.pw GA) Fr:=cH he (yxV e _ _ _ _ _ _ _) (bZ (aM.solo _) ⟨(bO.solo (yBN e he)),(D9 e he),(E8 e he),(SV e he),(bO.solo (yEv e he)),(bO.solo (I0 e he)),(bO.solo (D3 e he)),trivial⟩ trivial he.ok) bN.flat (bC (by kernel_rfl))
abbrev Dv:Type:=Int→Ls→Ls→(Int→Ls→Ls→Prop)→Prop
def Dw (x0:Ls→Int→Ls→Ls→Int→Int→Int→Bool→Prop):Nat→Ls→Int→Ls→Ls→Int→Int→Int→Prop
 | 0,_,_,_,_,_,_,_=>False
 | n+1,b,c,d,e,f,g,h=>
 (aG (decide (h≥0)) (asr (decide (0≤h)) (asr (decide (h<(((length d):Nat):Int))) (lt (getD d (h.toNat) .nils) (fun i=>(asr (aJ zI i) (lt (i64.wrap (c-(aS i))) (fun j=>(asr (decide ((length b)=(length b))) (asr (decide ((0+(length b))≤(length b))) (asr (!(decide (((0+(length b))+1)≤(length b)))) (asr (decide ((length b)=(length b))) (asr (decide ((((length b)+1)+64)*(8+1)≤room)) (lt (i64.wrap (h-1)) (fun k=>(asr (decide ((length (b++([(ic j)]:Ls)))=length (b++([(ic j)]:Ls)))&&decide ((length (b++([(ic j)]:Ls)))=length (b++([(ic j)]:Ls)))) (Dw x0 n (b++([(ic j)]:Ls)) c d e f g k)))))))))))))))) (x0 b c d e f g h false))
def Tp (x0:Int→Ls→Ls→Int→Int→Int→Bool→Prop) (x1:Ls→Int→Ls→Ls→Int→Int→Int→Bool→Prop):Nat→Int→Ls→Ls→Int→Int→Int→Prop
 | 0,_,_,_,_,_,_=>False
 | n+1,b,c,d,e,f,g=>
 (aG (decide (g≥0)) (asr (decide (0≤g)) (asr (decide (g<(((length c):Nat):Int))) (lt (getD c (g.toNat) .nils) (fun h=>(asr (aJ zI h) (lt (i64.wrap (b-(aS h))) (fun i=>(lt (i64.wrap (g-1)) (fun j=>(asr (decide (1=length ([(ic i)]:Ls))&&decide (1=length ([(ic i)]:Ls))) (Dw x1 n ([(ic i)]:Ls) b c d e f j))))))))))) (x0 b c d e f g false))
def Tq (x0:Ls→Int→Ls→Ls→Int→Int→Int→Bool→Prop):Nat→Ls→Int→Ls→Ls→Int→Int→Int→Prop
 | 0,_,_,_,_,_,_,_=>False
 | n+1,b,c,d,e,f,g,h=>
 (aG (decide (h≥0)) (asr (decide (0≤h)) (asr (decide (h<(((length e):Nat):Int))) (lt (getD e (h.toNat) .nils) (fun i=>(asr (aJ zI i) (asr (decide ((length b)=(length b))) (asr (decide ((0+(length b))≤(length b))) (asr (!(decide (((0+(length b))+1)≤(length b)))) (asr (decide ((length b)=(length b))) (asr (decide ((((length b)+1)+64)*(8+1)≤room)) (lt (i64.wrap (h-1)) (fun j=>(asr (decide ((length (b++([(ic (aS i))]:Ls)))=length (b++([(ic (aS i))]:Ls)))&&decide ((length (b++([(ic (aS i))]:Ls)))=length (b++([(ic (aS i))]:Ls)))) (Tq x0 n (b++([(ic (aS i))]:Ls)) c d e f g j)))))))))))))) (x0 b c d e f g h false))
def I4 (x0:Int→Ls→Ls→Int→Int→Int→Bool→Prop) (x1:Ls→Int→Ls→Ls→Int→Int→Int→Bool→Prop):Nat→Int→Ls→Ls→Int→Int→Int→Prop
 | 0,_,_,_,_,_,_=>False
 | n+1,b,c,d,e,f,g=>
 (aG (decide (g≥0)) (asr (decide (0≤g)) (asr (decide (g<(((length d):Nat):Int))) (lt (getD d (g.toNat) .nils) (fun h=>(asr (aJ zI h) (lt (i64.wrap (g-1)) (fun i=>(asr (decide (1=length ([(ic (aS h))]:Ls))&&decide (1=length ([(ic (aS h))]:Ls))) (Tq x1 n ([(ic (aS h))]:Ls) b c d e f i))))))))) (x0 b c d e f g false))
def Dx (x0:Ls→Ls→Int→Ls→Ls→Int→Int→Int→Bool→Prop):Nat→Ls→Ls→Int→Ls→Ls→Int→Int→Int→Prop
 | 0,_,_,_,_,_,_,_,_=>False
 | n+1,b,c,d,e,f,g,h,i=>
 (aG (decide (i≥0)) (asr (decide (0≤i)) (asr (decide (i<(((length f):Nat):Int))) (lt (getD f (i.toNat) .nils) (fun j=>(asr (aJ zI j) (asr (decide ((length c)=(length c))) (asr (decide ((0+(length c))≤(length c))) (asr (!(decide (((0+(length c))+1)≤(length c)))) (asr (decide ((length c)=(length c))) (asr (decide ((((length c)+1)+64)*(8+1)≤room)) (lt (i64.wrap (i-1)) (fun k=>(asr (decide ((length b)=length b)&&decide ((length b)=length b)&&decide ((length (c++([(ic (aS j))]:Ls)))=length (c++([(ic (aS j))]:Ls)))&&decide ((length (c++([(ic (aS j))]:Ls)))=length (c++([(ic (aS j))]:Ls)))) (Dx x0 n b (c++([(ic (aS j))]:Ls)) d e f g h k)))))))))))))) (x0 b c d e f g h i false))
def Tr (x0:Ls→Int→Ls→Ls→Int→Int→Int→Bool→Prop) (x1:Ls→Ls→Int→Ls→Ls→Int→Int→Int→Bool→Prop):Nat→Ls→Int→Ls→Ls→Int→Int→Int→Prop
 | 0,_,_,_,_,_,_,_=>False
 | n+1,b,c,d,e,f,g,h=>
 (aG (decide (h≥0)) (asr (decide (0≤h)) (asr (decide (h<(((length e):Nat):Int))) (lt (getD e (h.toNat) .nils) (fun i=>(asr (aJ zI i) (lt (i64.wrap (h-1)) (fun j=>(asr (decide ((length b)=length b)&&decide ((length b)=length b)&&decide (1=length ([(ic (aS i))]:Ls))&&decide (1=length ([(ic (aS i))]:Ls))) (Dx x1 n b ([(ic (aS i))]:Ls) c d e f g j))))))))) (x0 b c d e f g h false))
def Ts (b:Int) (c d:Ls) (K:Int→Ls→Ls→Prop):Prop:=
 (lt (i64.wrap ((((length c):Nat):Int)-1)) (fun e=>(∃ m0:Nat,Tp (fun f g h i j k l=>(lt (i64.wrap ((((length h):Nat):Int)-1)) (fun m=>(∃ m1:Nat,I4 (fun o p q r s t u=>(K s ([]:Ls) ([]:Ls))) (fun o p q r s t u v=>(asr (decide ((length o)=(length o))) (asr (decide ((0+(length o))≤(length o))) (K t ([]:Ls) (take (length o) o))))) m1 f g h i j m)))) (fun f g h i j k l m=>(lt (i64.wrap ((((length i):Nat):Int)-1)) (fun o=>(asr (decide ((length f)=length f)&&decide ((length f)=length f)) (∃ m1:Nat,Tr (fun p q r s t u v w=>(asr (decide ((length p)=(length p))) (asr (decide ((0+(length p))≤(length p))) (K u (take (length p) p) ([]:Ls))))) (fun p q r s t u v w z=>(asr (decide ((length p)=(length p))) (asr (decide ((0+(length p))≤(length p))) (asr (decide ((length q)=(length q))) (asr (decide ((0+(length q))≤(length q))) (K v (take (length p) p) (take (length q) q))))))) m1 f g h i j k o))))) m0 b c d 0 b e)))
def zW:Dv:=Ts
def Tt:Sg:=⟨zA,Int→Ls→Ls→Prop,fun K=>(fun r0 r1 r2=>K (.agg [(ic r0),(.data r1),(.data r2)]))⟩
def yry (Q:Qx):Int→Ls→Ls→Int→Int→Int→Bool→Prop:=(fun b c d e f g h=>Q (.exit 0) [(1,.box (.agg [(ic b),(.data c),(.data d)])),(2,.box (.agg [(ic e),.nils,.nils])),(3,.box (.agg [(ic f),.nils,.nils])),(4,.v (ic g)),(14,.v (.bool h))] [])
def I5 (Q:Qx):Ls→Int→Ls→Ls→Int→Int→Int→Bool→Prop:=(fun b c d e f g h i=>Q (.exit 0) [(1,.box (.agg [(ic c),(.data d),(.data e)])),(2,.box (.agg [(ic f),.nils,.nils])),(3,.box (.agg [(ic g),(.own 0 0 (length b) (length b) none),.nils])),(4,.v (ic h)),(14,.v (.bool i))] [⟨false,true,1,b⟩])
def yrz (Q:Qx):Int→Ls→Ls→Int→Int→Int→Bool→Prop:=(fun b c d e f g h=>Q (.exit 2) [(1,.box (.agg [(ic b),(.data c),(.data d)])),(2,.box (.agg [(ic e),.nils,.nils])),(3,.box (.agg [(ic f),.nils,.nils])),(5,.v (ic g)),(35,.v (.bool h))] [])
def I6 (Q:Qx):Ls→Int→Ls→Ls→Int→Int→Int→Bool→Prop:=(fun b c d e f g h i=>Q (.exit 2) [(1,.box (.agg [(ic c),(.data d),(.data e)])),(2,.box (.agg [(ic f),.nils,.nils])),(3,.box (.agg [(ic g),.nils,(.own 0 0 (length b) (length b) none)])),(5,.v (ic h)),(35,.v (.bool i))] [⟨false,true,1,b⟩])
def yrA (Q:Qx):Ls→Int→Ls→Ls→Int→Int→Int→Bool→Prop:=(fun b c d e f g h i=>Q (.exit 2) [(1,.box (.agg [(ic c),(.data d),(.data e)])),(2,.box (.agg [(ic f),.nils,.nils])),(3,.box (.agg [(ic g),(.own 0 0 (length b) (length b) none),.nils])),(5,.v (ic h)),(35,.v (.bool i))] [⟨false,true,1,b⟩])
def I7 (Q:Qx):Ls→Ls→Int→Ls→Ls→Int→Int→Int→Bool→Prop:=(fun b c d e f g h i j=>Q (.exit 2) [(1,.box (.agg [(ic d),(.data e),(.data f)])),(2,.box (.agg [(ic g),.nils,.nils])),(3,.box (.agg [(ic h),(.own 0 0 (length b) (length b) none),(.own 1 0 (length c) (length c) none)])),(5,.v (ic i)),(35,.v (.bool j))] [⟨false,true,1,b⟩,⟨false,true,1,c⟩])
def nG:jY:=vA (lC eF (lC Cq (lC Cq lN)))
def Jj:jY:=vA (lC eF (lC uI (lC Cq lN)))
def I8 (Q:Qx):List St:=[⟨(pS hN (fX 1 iF (fX 2 nG (fX 3 nG rD))) fN),Tp (yry Q) (I5 Q)⟩,⟨(pS rE (fX 1 iF (fX 2 nG (fX 3 Jj rD))) fN),Dw (I5 Q)⟩]
def Jk:jY:=vW 1 (nK 0) (nT 1) (nT 1)
def I9 (Q:Qx):List St:=[⟨(pS hN (fX 1 iF (fX 2 nG (fX 3 nG uH))) fN),I4 (yrz Q) (I6 Q)⟩,⟨(pS rE (fX 1 iF (fX 2 nG (fX 3 (vA (lC eF (lC Cq (lC uI lN)))) uH))) fN),Tq (I6 Q)⟩,⟨(pS rE (fX 1 iF (fX 2 nG (fX 3 Jj uH))) fN),Tr (yrA Q) (I7 Q)⟩,⟨(pS (hB false true 1 rA rE) (fX 1 iF (fX 2 nG (fX 3 (vA (lC eF (lC uI (lC Jk lN)))) uH))) fN),Dx (I7 Q)⟩]
def Tu:LP:=jF [(51314200,I8),(51314201,I9)]
def My (e:Es):SE:=sE (E e) [] (Tu)
theorem Tv (e:Es) (he:EG e):SEOk (bW (E e)) (My e):=bZ (aM.uni _) trivial trivial he.ok
theorem yp8 (e:Es):hO (My e) 5 a LS false (I8):=fun _=>⟨fun _=>by kernel_rfl,fun _ _=>by kernel_rfl,fun _=>by kernel_rfl,fun _ _=>by kernel_rfl,trivial⟩
theorem yp9 (e:Es) (he:EG e):hZ (bW (E e)) (Tu) [] 51314200 (.loop 51314200 LS):=fun _ _ _=>cJ.st (aM.uni _) (dV (Tv e he) 5) (cS.no _ _) (bC (by kernel_rfl)) (yp8 e _)
theorem yqa (e:Es):hO (My e) 5 a LT false (I9):=fun _=>⟨fun _=>by kernel_rfl,fun _ _=>by kernel_rfl,fun _=>by kernel_rfl,fun _ _=>by kernel_rfl,fun _=>by kernel_rfl,fun _ _=>by kernel_rfl,fun _=>by kernel_rfl,fun _ _=>by kernel_rfl,trivial⟩
theorem yqb (e:Es) (he:EG e):hZ (bW (E e)) (Tu) [] 51314201 (.loop 51314201 LT):=fun _ _ _=>cJ.st (aM.uni _) (dV (Tv e he) 5) (cS.no _ _) (bC (by kernel_rfl)) (yqa e _)
theorem yvL (e:Es):cE (My e) 6 QK Tt Ts:=fun _ _=>by kernel_rfl
theorem J0 (e:Es) (he:EG e):bO (E e) (Tt.pw zW) Iu:=cH he (yvL e) (Tv e he) bN.flat (gA (l:=[(51314200,.loop 51314200 LS),(51314201,.loop 51314201 LT)]) ⟨yp9 e he,yqb e he,trivial⟩ (by kernel_rfl))
def GB (a0:sN) (a1:Du) (a2:zU) (a3:By) (a4:mQ) (a5:fM) (a6:Dv) (x1:Ls→Ls→Ls→Ls→Int→Int→Int→Bool→Prop):Nat→Ls→Ls→Ls→Ls→Int→Int→Int→Prop
 | 0,_,_,_,_,_,_,_=>False
 | n+1,b,c,d,e,f,g,h=>
 (aG (decide (h<(((length d):Nat):Int))) (asr (decide (0≤h)) (asr (decide (h<(((length d):Nat):Int))) (lt (getD d (h.toNat) .nils) (fun i=>(asr (aJ zK i) (a6 (aS (cQ i 0)) (gH (cQ i 1)) (gH (cQ i 2)) (fun j k l=>(asr (decide ((length b)=(length b))) (asr (decide ((0+(length b))≤(length b))) (asr (!(decide (((0+(length b))+1)≤(length b)))) (asr (decide ((length b)=(length b))) (asr (decide ((((length b)+1)+64)*(56+1)≤room)) (lt (i64.wrap ((((length e):Nat):Int)-1)) (fun m=>(lt (i64.wrap (m-h)) (fun o=>(asr (decide (0≤o)) (asr (decide (o<(((length e):Nat):Int))) (lt (getD e (o.toNat) .nils) (fun p=>(asr (aJ zI p) (asr (decide ((length c)=(length c))) (asr (decide ((0+(length c))≤(length c))) (asr (!(decide (((0+(length c))+1)≤(length c)))) (asr (decide ((length c)=(length c))) (asr (decide ((((length c)+1)+64)*(8+1)≤room)) (lt (i64.wrap (h+1)) (fun q=>(asr (decide ((length (b++([(.agg [(ic j),(.data k),(.data l)])]:Ls)))=length (b++([(.agg [(ic j),(.data k),(.data l)])]:Ls)))&&decide ((length (b++([(.agg [(ic j),(.data k),(.data l)])]:Ls)))=length (b++([(.agg [(ic j),(.data k),(.data l)])]:Ls)))&&decide ((length (c++([(ic (aS p))]:Ls)))=length (c++([(ic (aS p))]:Ls)))&&decide ((length (c++([(ic (aS p))]:Ls)))=length (c++([(ic (aS p))]:Ls)))) (GB a0 a1 a2 a3 a4 a5 a6 x1 n (b++([(.agg [(ic j),(.data k),(.data l)])]:Ls)) (c++([(ic (aS p))]:Ls)) d e f g q)))))))))))))))))))))))))))))) (x1 b c d e f g h false))
def Tw (a0:sN) (a1:Du) (a2:zU) (a3:By) (a4:mQ) (a5:fM) (a6:Dv) (x0:Ls→Ls→Int→Int→Int→Bool→Prop) (x1:Ls→Ls→Ls→Ls→Int→Int→Int→Bool→Prop):Nat→Ls→Ls→Int→Int→Int→Prop
 | 0,_,_,_,_,_=>False
 | n+1,b,c,d,e,f=>
 (aG (decide (f<(((length b):Nat):Int))) (asr (decide (0≤f)) (asr (decide (f<(((length b):Nat):Int))) (lt (getD b (f.toNat) .nils) (fun g=>(asr (aJ zK g) (a6 (aS (cQ g 0)) (gH (cQ g 1)) (gH (cQ g 2)) (fun h i j=>(lt (i64.wrap ((((length c):Nat):Int)-1)) (fun k=>(lt (i64.wrap (k-f)) (fun l=>(asr (decide (0≤l)) (asr (decide (l<(((length c):Nat):Int))) (lt (getD c (l.toNat) .nils) (fun m=>(asr (aJ zI m) (lt (i64.wrap (f+1)) (fun o=>(asr (decide (1=length ([(.agg [(ic h),(.data i),(.data j)])]:Ls))&&decide (1=length ([(.agg [(ic h),(.data i),(.data j)])]:Ls))&&decide (1=length ([(ic (aS m))]:Ls))&&decide (1=length ([(ic (aS m))]:Ls))) (GB a0 a1 a2 a3 a4 a5 a6 x1 n ([(.agg [(ic h),(.data i),(.data j)])]:Ls) ([(ic (aS m))]:Ls) b c d e o)))))))))))))))))))) (x0 b c d e f false))
def Tx (a0:sN) (a1:Du) (a2:zU) (a3:By) (a4:mQ) (a5:fM) (a6:Dv) (b c:Ls) (K:Bool→Prop):Prop:=
 (a0 b c (fun d=>(aG (!d) (a1  K) (a2 b c (fun e f g=>(a3 b (fun h i j k=>(jn (fun (a:Bool→Prop)=>(aG (g !=0) (a true) (aG (k !=0) (a true) (a4 e f i j (fun l=>(aG (l !=0) (a true) (a5 i j e f (fun m=>(aG m (a true) (a5 i j 1 (((length b):Nat):Int) a)))))))))) (fun l=>(aG l (K false) (a2 b h (fun m o p=>(jn (fun (E:Bool→Prop)=>(aG (p !=0) (E true) (E (!((m==i)&&((o==j)&&true)))))) (fun q=>(aG q (K false) (∃ n:Nat,Tw a0 a1 a2 a3 a4 a5 a6 (fun r s t u v w=>(a2 ([]:Ls) ([]:Ls) (fun z A B=>(jn (fun (x:Bool→Prop)=>(aG (B==0) (aG ((z==t)&&((A==u)&&true)) (a1  x) (x false)) (x false))) K)))) (fun r s t u v w z A=>(asr (decide ((length r)=(length r))) (asr (decide ((0+(length r))≤(length r))) (asr (decide ((length s)=(length s))) (asr (decide ((0+(length s))≤(length s))) (a2 (take (length r) r) (take (length s) s) (fun B C D=>(jn (fun (y:Bool→Prop)=>(aG (D==0) (aG ((B==v)&&((C==w)&&true)) (a1  y) (y false)) (y false))) K)))))))) n b c e f 0))))))))))))))))
def Mz:sN:=Tx Bz GA ybG zV Gj Gk zW
def yll (Q:Qx):Ls→Ls→Int→Int→Int→Bool→Prop:=(fun b c d e f g=>Q (.exit 0) [(0,.v (.data b)),(1,.v (.data c)),(5,.box (.agg [(ic d),(ic e)])),(12,.v .nils),(13,.v .nils),(14,.v (ic f)),(74,.v (.bool g))] [])
def J1 (Q:Qx):Ls→Ls→Ls→Ls→Int→Int→Int→Bool→Prop:=(fun b c d e f g h i=>Q (.exit 0) [(0,.v (.data d)),(1,.v (.data e)),(5,.box (.agg [(ic f),(ic g)])),(12,.v (.own 0 0 (length b) (length b) none)),(13,.v (.own 1 0 (length c) (length c) none)),(14,.v (ic h)),(74,.v (.bool i))] [⟨false,true,3,b⟩,⟨false,true,1,c⟩])
def J2 (a0:sN) (a1:Du) (a2:zU) (a3:By) (a4:mQ) (a5:fM) (a6:Dv) (Q:Qx):List St:=[⟨(pS hN (fV 0 vD (fV 1 vD (fX 5 uD (fV 12 Cq (fV 13 Cq (fV 14 eF fN)))))) fN),Tw a0 a1 a2 a3 a4 a5 a6 (yll Q) (J1 Q)⟩,⟨(pS (hB false true 3 rA rE) (fV 0 vD (fV 1 vD (fX 5 uD (fV 12 uI (fV 13 Jk (fV 14 eF fN)))))) fN),GB a0 a1 a2 a3 a4 a5 a6 (J1 Q)⟩]
def J3 (a0:sN) (a1:Du) (a2:zU) (a3:By) (a4:mQ) (a5:fM) (a6:Dv):LP:=jF [(54399100,J2 a0 a1 a2 a3 a4 a5 a6)]
def Ty (e:Es) (a0:sN) (a1:Du) (a2:zU) (a3:By) (a4:mQ) (a5:fM) (a6:Dv):SE:=sE (E e) [(Ic,uG.pw a0),(Fr,To.pw a1),(wA,Mw.pw a2),(pV,SU.pw a3),(It,wJ.pw a4),(Fv,sK.pw a5),(Iu,Tt.pw a6)] (J3 a0 a1 a2 a3 a4 a5 a6)
theorem J5 (e:Es) (he:EG e):SEOk (eK (E e)) (Ty e Bz GA ybG zV Gj Gk zW):=bZ (aM.solo _) ⟨(bO.solo (I1 e he)),(yxW e he),(D9 e he),(SV e he),(bO.solo (uw e he)),(bO.solo (vh e he)),(bO.solo (J0 e he)),trivial⟩ trivial he.ok
theorem ykM (e:Es) (a0 a1 a2 a3 a4 a5 a6):hO (Ty e a0 a1 a2 a3 a4 a5 a6) 5 a LU false (J2 a0 a1 a2 a3 a4 a5 a6):=fun _=>⟨fun _=>by kernel_rfl,fun _ _=>by kernel_rfl,fun _=>by kernel_rfl,fun _ _=>by kernel_rfl,trivial⟩
theorem ykN (e:Es) (he:EG e):hZ (eK (E e)) (J3 Bz GA ybG zV Gj Gk zW) [] 54399100 (.loop 54399100 LU):=fun _ _ _=>cJ.st (aM.solo _) (dV (J5 e he) 5) (cS.no _ _) (bC (by kernel_rfl)) (ykM e _ _ _ _ _ _ _ _)
theorem yoR (e:Es) (a0 a1 a2 a3 a4 a5 a6):cE (Ty e a0 a1 a2 a3 a4 a5 a6) 6 QL uG (Tx a0 a1 a2 a3 a4 a5 a6):=fun _ _=>by kernel_rfl
theorem yoS (e:Es) (he:EG e):AY (E e) (uG.pw Mz) OU:=cH he (yoR e _ _ _ _ _ _ _) (J5 e he) bN.flat (gA (l:=[(54399100,.loop 54399100 LU)]) ⟨ykN e he,trivial⟩ (by kernel_rfl))
set_option linter.unusedVariables false
theorem yzX (p0 p1:Ls) (r0:Bool) (h:∀ K:Bool→Prop,K r0→Bz p0 p1 K) (K:Bool→Prop):Bz p0 p1 K=K r0:=
 Aac ⟨fun k=>cW (I1 [] iE) (as:=[(.data p0),(.data p1)]) (x:=(.bool r0)) (fun K' k'=>h (fun r0=>K' (.bool r0)) k') (K:=fun x=>match x with | (.bool r0)=>K r0 | _=>False) k,h K⟩
theorem yux (p0:Int) (p1 p2:Ls) (r0:Int) (r1 r2:Ls) (h:∀ K:Int→Ls→Ls→Prop,K r0 r1 r2→zW p0 p1 p2 K) (K:Int→Ls→Ls→Prop):zW p0 p1 p2 K=K r0 r1 r2:=
 Aac ⟨fun k=>cW (J0 [] iE) (as:=[(.agg [(ic p0),(.data p1),(.data p2)])]) (x:=(.agg [(ic r0),(.data r1),(.data r2)])) (fun K' k'=>h (fun r0 r1 r2=>K' (.agg [(ic r0),(.data r1),(.data r2)])) k') (K:=fun x=>match x with | (.agg [(ic r0),(.data r1),(.data r2)])=>K r0 r1 r2 | _=>False) k,h K⟩
def cL (n:Int):Prop:=-9223372036854775808≤n∧n≤9223372036854775807
def gJ (n:Int):Prop:=0≤n∧n≤18446744073709551615
theorem zX (n:Int):u64.wrap n=n%18446744073709551616:=by simp only [IntKind.wrap,IntKind.signed,IntKind.bits,oE,fK,if_false];rfl
theorem yM4 (n:Int):i64.wrap n=if n%18446744073709551616≥9223372036854775808 then n%18446744073709551616-18446744073709551616 else n%18446744073709551616:=by
 have e1:(2:Int) ^ 64=18446744073709551616:=rfl;have e2:(2:Int) ^ (64-1)=9223372036854775808:=rfl;simp only [IntKind.wrap,IntKind.signed,IntKind.bits,pM,e1,e2]
 by_cases h:n%18446744073709551616≥9223372036854775808<;>simp [h]
theorem aU {n:Int} (h:gJ n):u64.wrap n=n:=by unfold gJ at h;rw [zX];omega
theorem gB {n:Int} (h:cL n):i64.wrap n=n:=by unfold cL at h;rw [yM4];split<;>omega
theorem bL {x y:Prop}:aG true x y=x:=rfl
theorem bQ {x y:Prop}:aG false x y=y:=rfl
theorem gC {x:Prop}:asr true x=x:=rfl
theorem BA {p:Int} (h:cL p) (K:Int→Prop):Dh p K=K (p.natAbs:Int):=by
 unfold cL at h;unfold Dh QP
 by_cases hp:p<0
 ·have e:u64.wrap ((0:Int)-u64.wrap p)=(p.natAbs:Int):=by
   rw [zX,zX];omega
  rw [Eo hp,bL,e]
 ·rw [Os hp,bQ,aU ⟨by omega,by omega⟩];congr 1;omega
theorem J6 (x:Int→Int→Bool→Prop):∀ (n a b:Nat),b<n→IM x n (a:Int) (b:Int)=x ((Nat.gcd a b:Nat):Int) 0 false
 | 0,a,b,h=>by omega
 | n+1,a,b,h=>by
  unfold IM
  by_cases hb:b=0
  ·subst hb;simp [aG]
  ·have h1:(b:Int)>0:=by omega
   have h2:¬((b:Int)=0):=by omega
   rw [Eo h1,bL,Os h2,AD,gC];have e:Int.tmod (a:Int) (b:Int)=((a%b:Nat):Int):=by rw [Int.tmod_eq_emod_of_nonneg (by omega)];omega
   rw [e,J6 x n b (a%b) (by have:=Nat.mod_lt a (show b>0 by omega);omega)];rw [xN a b,Nat.gcd_rec b a,xN]
theorem Jl (a b:Nat) (K:Int→Prop) (h:K ((Nat.gcd a b:Nat):Int)):uB (a:Int) (b:Int) K:=by unfold uB QQ;exact ⟨b+1,by rw [J6 _ (b+1) a b (by omega)];exact h⟩
def RV (n d:Int):Prop:=1≤d∧d≤1000000000000000000∧-1000000000000000000≤n∧n≤1000000000000000000∧Nat.gcd n.natAbs d.natAbs=1
instance (n d:Int):Decidable (RV n d):=by unfold RV;infer_instance
def kU (n d:Int):Int:=if RV n d then 0 else 8
theorem Tz {n d:Int} (hn:cL n) (hd:cL d) {K:Int→Prop} (h:K (kU n d)):nD n d K:=by
 unfold nD QT
 by_cases h1:d<1
 ·have e:kU n d=8:=VY fun h=>by have:=h.1;omega
  rw [Eo h1,bL,← e];exact h
 ·have hd':=hd;have hn':=hn;unfold cL at hd' hn';have ed:u64.wrap d=((d.natAbs:Nat):Int):=by rw [aU ⟨by omega,by omega⟩];omega
  rw [Os h1,bQ,BA hn,ed]
  by_cases h2:((if ((d.natAbs:Nat):Int)>((n.natAbs:Nat):Int) then ((d.natAbs:Nat):Int) else ((n.natAbs:Nat):Int))>1000000000000000000)
  ·have e:kU n d=8:=VY fun h=>by
    obtain ⟨a1,a2,a3,a4,_⟩:=h;revert h2;split<;>omega
   rw [Eo h2,bL,← e];exact h
  ·rw [Os h2,bQ,BA hn];refine Jl _ _ _ ?_;have h3:0<Nat.gcd n.natAbs d.natAbs:=DZ _ (by omega);have h4:d≤1000000000000000000∧-1000000000000000000≤n∧n≤1000000000000000000:=by
    revert h2;split<;>omega
   by_cases h5:((Nat.gcd n.natAbs d.natAbs:Nat):Int)>1
   ·have e:kU n d=8:=VY fun h=>by have:=h.2.2.2.2;omega
    rw [Eo h5,bL,← e];exact h
   ·have e:kU n d=0:=VX ⟨by omega,h4.1,h4.2.1,h4.2.2,by omega⟩;rw [Os h5,bQ,← e];exact h
theorem zY {p:Int} (h:gJ p):u64.wrap (BitVec.ofInt u64.bits p&&&BitVec.ofInt u64.bits (4294967295:Int)).toNat=p%4294967296:=by
 unfold gJ at h;have e1:(BitVec.ofInt 64 p).toNat=p.toNat:=by
  rw [BitVec.toNat_ofInt];omega
 have e2:(BitVec.ofInt 64 (4294967295:Int)).toNat=4294967295:=rfl;have e3:(BitVec.ofInt u64.bits p&&&BitVec.ofInt u64.bits (4294967295:Int)).toNat=p.toNat%4294967296:=by show (BitVec.ofInt 64 p&&&BitVec.ofInt 64 (4294967295:Int)).toNat=_;rw [BitVec.toNat_and,e1,e2];exact Nat.and_two_pow_sub_one_eq_mod p.toNat 32
 rw [e3,zX];omega
theorem J7 (p:Int):Int.fdiv p 4294967296=p/4294967296:=by rw [Int.fdiv_eq_ediv_of_nonneg _ (by omega)]
theorem Dy {a b:Int} (ha:gJ a) (hb:gJ b) (K:Int→Int→Prop):yZ a b K=K (a*b/18446744073709551616) (a*b%18446744073709551616):=by
 unfold yZ QX;simp only [J7];rw [zY ha,zY hb];unfold gJ at ha hb;have ha':=ha;have hb':=hb;obtain ⟨x1,hx1⟩:∃ x,x=a/4294967296:=⟨_,rfl⟩;obtain ⟨x0,hx0⟩:∃ x,x=a%4294967296:=⟨_,rfl⟩;obtain ⟨y1,hy1⟩:∃ x,x=b/4294967296:=⟨_,rfl⟩;obtain ⟨y0,hy0⟩:∃ x,x=b%4294967296:=⟨_,rfl⟩;rw [← hx1,← hx0,← hy1,← hy0];have b1:0≤x1∧x1≤4294967295:=by omega
 have b2:0≤x0∧x0≤4294967295:=by omega
 have b3:0≤y1∧y1≤4294967295:=by omega
 have b4:0≤y0∧y0≤4294967295:=by omega
 have pb:∀ x y:Int,0≤x∧x≤4294967295→0≤y∧y≤4294967295→0≤x*y∧x*y≤18446744065119617025:=by intro x y hx hy;refine ⟨kP hx.1 hy.1,?_⟩;have:=nL hx.2 hy.2 hy.1 (by omega:(0:Int)≤4294967295);omega
 have p1:=pb x1 y1 b1 b3;have p2:=pb x1 y0 b1 b4;have p3:=pb x0 y1 b2 b3;have p4:=pb x0 y0 b2 b4;have ea:a=x1*4294967296+x0:=by omega
 have eb:b=y1*4294967296+y0:=by omega
 have eab:a*b=x1*y1*18446744073709551616+x1*y0*4294967296+x0*y1*4294967296+x0*y0:=by rw [ea,eb];grind
 obtain ⟨P,hP⟩:∃ x,x=x1*y1:=⟨_,rfl⟩;obtain ⟨Q,hQ⟩:∃ x,x=x1*y0:=⟨_,rfl⟩;obtain ⟨R,hR⟩:∃ x,x=x0*y1:=⟨_,rfl⟩;obtain ⟨S,hS⟩:∃ x,x=x0*y0:=⟨_,rfl⟩;rw [← hP] at p1;rw [← hQ] at p2;rw [← hR] at p3;rw [← hS] at p4;rw [← hP,← hQ,← hR,← hS] at eab ⊢;have w1:u64.wrap S=S:=aU ⟨by omega,by omega⟩;have w2:u64.wrap Q=Q:=aU ⟨by omega,by omega⟩;have w3:u64.wrap R=R:=aU ⟨by omega,by omega⟩;have w4:u64.wrap P=P:=aU ⟨by omega,by omega⟩;rw [w1,w2,w3,w4];have w5:u64.wrap (Q+S/4294967296)=Q+S/4294967296:=aU ⟨by omega,by omega⟩;rw [w5,zY ⟨by omega,by omega⟩];have w6:u64.wrap ((Q+S/4294967296)%4294967296+R)=(Q+S/4294967296)%4294967296+R:=aU ⟨by omega,by omega⟩;rw [w6];have w7:u64.wrap (P+(Q+S/4294967296)/4294967296)=P+(Q+S/4294967296)/4294967296:=by
  have:a*b/18446744073709551616≤18446744073709551615:=by
   have h1:a*b≤18446744073709551615*18446744073709551615:=by have:=nL ha'.2 hb'.2 hb'.1 (by omega:(0:Int)≤18446744073709551615);exact this
   omega
  exact aU ⟨by omega,by omega⟩
 rw [w7];have hab:a*b≤18446744073709551615*18446744073709551615:=nL ha'.2 hb'.2 hb'.1 (by omega:(0:Int)≤18446744073709551615);rw [eab] at hab ⊢;rw [zX,zX];congr 1;omega
theorem yKq {a b:Int} {K:Int→Prop} (h:K (if a=0 then b else a)):LZ [.int .i64 a,.int .i64 b] K:=by
 unfold LZ QU;refine ⟨3,?_⟩;have e1:i64.wrap 1=1:=by decide
 have e2:i64.wrap 2=2:=by decide
 by_cases ha:a=0
 ·by_cases hb:b=0
  ·simp [FW,bL,bQ,gC,aJ,sF,aS,e1,e2,ha,hb] at h ⊢;exact h
  ·have e3:(b !=0)=true:=by simpa using hb
   simp [FW,bL,bQ,gC,aJ,sF,aS,e1,e2,ha,e3] at h ⊢;exact h
 ·have e3:(a !=0)=true:=by simpa using ha
  simp [FW,bL,bQ,gC,aJ,sF,aS,e1,e2,ha,e3] at h ⊢;exact h
def cI (a b c d:Int):Int:=if kU a b=0 then kU c d else kU a b
theorem Jm {a b c d:Int} (ha:cL a) (hb:cL b) (hc:cL c) (hd:cL d) {K:Int→Prop} (h:K (cI a b c d)):Bp a b c d K:=by unfold Bp QW;exact Tz ha hb (Tz hc hd (yKq h))
def gP (a b:Int):Int:=if a<b then -1 else if a>b then 1 else 0
theorem yxX (a b:Int) (K:Int→Prop):Me a b K=K (gP a b):=by
 unfold Me Ro;simp only [Rm,Rl,bne_self_eq_false,bQ,gP]
 by_cases h:a<b
 ·simp [h,bL]
 ·by_cases h2:a>b
  ·simp [h,h2,bL,bQ]
  ·simp [h,h2,bQ]
theorem J8 (a b:Int) (K:Int→Prop):Mf a b K=K (gP a b):=by
 unfold Mf Rt;simp only [Rr,Rq,bne_self_eq_false,bQ,gP]
 by_cases h:a<b
 ·simp [h,bL]
 ·by_cases h2:a>b
  ·simp [h,h2,bL,bQ]
  ·simp [h,h2,bQ]
theorem yHQ {a b:Int} {K:Int→Prop} (h:K (if a=0 then b else a)):Mg [.int .i64 a,.int .i64 b] K:=by
 unfold Mg Rv;refine ⟨3,?_⟩;have e1:i64.wrap 1=1:=by decide
 have e2:i64.wrap 2=2:=by decide
 by_cases ha:a=0
 ·by_cases hb:b=0
  ·simp [FZ,bL,bQ,gC,aJ,sF,aS,e1,e2,ha,hb] at h ⊢;exact h
  ·have e3:(b !=0)=true:=by simpa using hb
   simp [FZ,bL,bQ,gC,aJ,sF,aS,e1,e2,ha,e3] at h ⊢;exact h
 ·have e3:(a !=0)=true:=by simpa using ha
  simp [FZ,bL,bQ,gC,aJ,sF,aS,e1,e2,ha,e3] at h ⊢;exact h
theorem zZ {a b c d:Int}:cI a b c d=0↔RV a b∧RV c d:=by
 unfold cI kU
 by_cases h1:RV a b<;>by_cases h2:RV c d<;>simp [h1,h2]
def oV (a b c d:Int):Int:=gP (a*d) (c*b)
theorem yEw {x y:Int} (hx:0≤x) (hy:0≤y):(if gP (x/18446744073709551616) (y/18446744073709551616)=0 then gP (x%18446744073709551616) (y%18446744073709551616) else gP (x/18446744073709551616) (y/18446744073709551616))=gP x y:=by unfold gP;split<;>rename_i h<;>revert h<;>repeat' split<;>intro h<;>omega
theorem gJ.abs {n:Int} (h:cL n):gJ ((n.natAbs:Nat):Int):=by unfold cL at h;unfold gJ;omega
theorem yKr {a b c d:Int} (ha:cL a) (hb:cL b) (hc:cL c) (hd:cL d) {K:Int→Int→Prop} (h:K (if cI a b c d=0 then oV a b c d else 0) (cI a b c d)):Bv a b c d K:=by
 unfold Bv Rx;refine Jm ha hb hc hd ?_
 by_cases hk:cI a b c d=0
 ·rw [VX hk] at h;rw [hk] at h ⊢;obtain ⟨⟨b1,b2,a1,a2,_⟩,d1,d2,c1,c2,_⟩:=zZ.1 hk;simp only [bne_self_eq_false,bQ]
  by_cases hs:decide (a<0)=decide (c<0)
  ·have e:(decide (a<0) !=decide (c<0))=false:=by rw [hs];simp
   rw [e,bQ,BA ha,aU ⟨by omega,by omega⟩,Dy (gJ.abs ha) ⟨by omega,by omega⟩,BA hc,aU ⟨by omega,by omega⟩,Dy (gJ.abs hc) ⟨by omega,by omega⟩,J8,J8];refine yHQ ?_;have p1:0≤((a.natAbs:Nat):Int)*d:=kP (by omega) (by omega);have p2:0≤((c.natAbs:Nat):Int)*b:=kP (by omega) (by omega);rw [yEw p1 p2]
   by_cases hneg:a<0
   ·have hcn:c<0:=by simpa [hneg] using hs.symm
    rw [Eo hneg,bL];have e1:((a.natAbs:Nat):Int)*d=-(a*d):=by
     rw [show ((a.natAbs:Nat):Int)=-a by omega,Int.neg_mul]
    have e2:((c.natAbs:Nat):Int)*b=-(c*b):=by rw [show ((c.natAbs:Nat):Int)=-c by omega,Int.neg_mul]
    have e3:i64.wrap (0-gP (((a.natAbs:Nat):Int)*d) (((c.natAbs:Nat):Int)*b))=oV a b c d:=by
     rw [e1,e2];unfold oV gP;rw [gB (by unfold cL;repeat' split<;>omega)]
     repeat' split<;>omega
    rw [e3];exact h
   ·have hcn:¬c<0:=by simpa [hneg] using hs.symm
    rw [Os hneg,bQ,show ((a.natAbs:Nat):Int)=a by omega,show ((c.natAbs:Nat):Int)=c by omega];exact h
  ·have e:(decide (a<0) !=decide (c<0))=true:=by simpa using hs
   rw [e,bL,yxX];have e2:gP a c=oV a b c d:=by
    unfold oV gP
    by_cases hneg:a<0
    ·have hcn:¬c<0:=by intro hcn;simp [hneg,hcn] at hs
     have q1:a*d<0:=DY hneg (by omega);have q2:0≤c*b:=kP (by omega) (by omega);rw [VX (by omega),VX (by omega)]
    ·have hcn:c<0:=by
      by_cases hcn:c<0
      ·exact hcn
      ·simp [hneg,hcn] at hs
     have q1:c*b<0:=DY hcn (by omega);have q2:0≤a*d:=kP (by omega) (by omega);rw [VY (by omega),VX (by omega),VY (by omega),VX (by omega)]
   rw [e2];exact h
 ·rw [VY hk] at h;have e:(cI a b c d !=0)=true:=by simpa using hk
  rw [e,bL];exact h
def blen (x:Nat):Nat:=if x=0 then 0 else x.log2+1
theorem J9 (x:Nat):x<2 ^ blen x:=by
 unfold blen;split
 ·rename_i h;subst h;decide
 ·exact Nat.lt_log2_self
theorem MA {x:Nat} (h:x≠0):2 ^ (blen x-1)≤x:=by unfold blen;rw [VY h];exact Nat.log2_self_le h
theorem yHR {x m:Nat} (h1:2 ^ m≤x) (h2:x<2 ^ (m+1)):blen x=m+1:=by
 have hx:x≠0:=by have:=Nat.two_pow_pos m;omega
 unfold blen;rw [VY hx];congr 1;have a:=Nat.log2_self_le hx;have b:=Nat.lt_log2_self (n:=x);have c1:¬(x.log2<m):=fun h=>by
  have:=GW (show 0<2 by omega) (show x.log2+1≤m by omega);omega
 have c2:¬(m<x.log2):=fun h=>by
  have:=GW (show 0<2 by omega) (show m+1≤x.log2 by omega);omega
 omega
theorem yF2 {x k:Nat} (h:2 ^ k≤x):blen x=k+blen (x/2 ^ k):=by
 have hp:=Nat.two_pow_pos k;have hq:x/2 ^ k≠0:=by have:=Nat.div_pos h hp;omega
 have h1:=MA hq;have h2:=J9 (x/2 ^ k);obtain ⟨m,hm⟩:∃ m,blen (x/2 ^ k)=m+1:=⟨blen (x/2 ^ k)-1,by
  have:blen (x/2 ^ k)≠0:=by unfold blen;rw [VY hq];omega
  omega⟩
 rw [hm] at h1 h2 ⊢;rw [Nat.add_sub_cancel] at h1;have:=yHR (x:=x) (m:=k+m) (by
   rw [Nat.pow_add]
   calc 2 ^ k*2 ^ m≤2 ^ k*(x/2 ^ k):=Nat.mul_le_mul_left _ h1
    _≤x:=Nat.mul_div_le _ _) (by
   rw [show k+m+1=k+(m+1) by omega,Nat.pow_add];rw [Nat.mul_comm];exact (Nat.div_lt_iff_lt_mul hp).1 h2)
 omega
theorem yKs:∀ x:Nat,x<256→aS (getD tO x .nils)=(blen x:Int):=by decide +kernel
theorem K1 {n:Int} (h0:0≤n) (h1:n<256):u8.wrap n=n:=by have e1:(2:Int) ^ 8=256:=rfl;simp only [IntKind.wrap,IntKind.signed,IntKind.bits,oE,fK,if_false,e1];omega
theorem yHS {n:Int} (h0:0≤n) (h1:n<256):aS (getD tO (u8.wrap n).toNat .nils)=(blen n.toNat:Int):=by rw [K1 h0 h1];exact yKs n.toNat (by omega)
theorem yM5 {n:Nat} (h:n<256):blen n≤8:=by
 by_cases h0:n=0
 ·subst h0;decide
 ·have:=MA h0;have h2:blen n-1<8:=by
   refine Nat.lt_of_not_le fun hc=>?_
   have:=GW (show 0<2 by omega) hc;omega
  omega
theorem BB {n k:Int} (h0:0≤n) (h1:n<256) (hk:0≤k∧k≤56) {m:Int} (hm:m=k+blen n.toNat) {K:Int→Prop} (h:K m) :
  asr (decide ((0:Int)≤(u8.wrap n))) (asr (decide ((u8.wrap n)<(256:Int))) (K (i64.wrap (k+(i64.wrap (aS (getD tO ((u8.wrap n).toNat) .nils))))))):=by
 have hb:=yM5 (n:=n.toNat) (by omega);have e1:i64.wrap (blen n.toNat:Int)=blen n.toNat:=gB (by unfold cL;omega);have e2:i64.wrap (k+blen n.toNat:Int)=k+blen n.toNat:=gB (by unfold cL;omega);rw [yHS h0 h1,K1 h0 h1,Eo h0,gC,Eo h1,gC,e1,e2,← hm];exact h
theorem Dz (p q:Int) (hq:0≤q):Int.fdiv p q=p/q:=Int.fdiv_eq_ediv_of_nonneg _ hq
theorem yF3 {p:Int} (hp:gJ p) {K:Int→Prop} (h:K (blen p.toNat:Int)):LW p K:=by
 unfold gJ at hp;unfold LW QM;simp only [Dz _ 4294967296 (by omega),Dz _ 65536 (by omega),Dz _ 256 (by omega)];have key:∀ (k:Nat) (q:Int),2 ^ k≤p.toNat→q=p/(2 ^ k:Nat)→(blen p.toNat:Int)=k+blen q.toNat:=by
  intro k q hk hq;have e:q.toNat=p.toNat/2 ^ k:=by
   rw [hq];obtain ⟨m,rfl⟩:∃ m:Nat,p=m:=⟨p.toNat,by omega⟩;rw [← uY,dL,dL]
  rw [e];have:=yF2 hk;omega
 by_cases h1:p≥4294967296
 ·rw [Eo h1,bL]
  by_cases h2:p/4294967296≥65536
  ·rw [Eo h2,bL]
   by_cases h3:p/4294967296/65536≥256
   ·rw [Eo h3,bL];exact BB (by omega) (by omega) (by omega) (key 56 _ (by omega) (by omega)) h
   ·rw [Os h3,bQ];exact BB (by omega) (by omega) (by omega) (key 48 _ (by omega) (by omega)) h
  ·rw [Os h2,bQ]
   by_cases h3:p/4294967296≥256
   ·rw [Eo h3,bL];exact BB (by omega) (by omega) (by omega) (key 40 _ (by omega) (by omega)) h
   ·rw [Os h3,bQ];exact BB (by omega) (by omega) (by omega) (key 32 _ (by omega) (by omega)) h
 ·rw [Os h1,bQ]
  by_cases h2:p≥65536
  ·rw [Eo h2,bL]
   by_cases h3:p/65536≥256
   ·rw [Eo h3,bL];exact BB (by omega) (by omega) (by omega) (key 24 _ (by omega) (by omega)) h
   ·rw [Os h3,bQ];exact BB (by omega) (by omega) (by omega) (key 16 _ (by omega) (by omega)) h
  ·rw [Os h2,bQ]
   by_cases h3:p≥256
   ·rw [Eo h3,bL];exact BB (by omega) (by omega) (by omega) (key 8 _ (by omega) (by omega)) h
   ·rw [Os h3,bQ];exact BB (by omega) (by omega) (by omega) (by simp) h
theorem yqe {p:Int} (hp:gJ p) {K:Int→Prop} (h:K (64-blen p.toNat:Int)):Bq p K:=by
 unfold Bq QZ;refine yF3 hp ?_;have hb:blen p.toNat≤64:=by
  unfold gJ at hp
  by_cases h0:p.toNat=0
  ·rw [h0];decide
  ·have:=MA h0;have h2:blen p.toNat-1<64:=by
    refine Nat.lt_of_not_le fun hc=>?_
    have:=GW (show 0<2 by omega) hc;omega
   omega
 rw [gB (by unfold cL;omega)];exact h
structure DI (y a b u un q r:Int):Prop where
 hy:y=a*4294967296+b
 h1:2147483648≤a∧a≤4294967295
 h0:0≤b∧b≤4294967295
 hn:0≤un∧un≤4294967295
 hu:q*a+r=u
 hq:0≤q∧q≤4294967297
 hr:0≤r∧r≤4294967295
 hlt:u<y
 hU:u*4294967296+un<(q+1)*y
def DG (y u un q:Int):Prop:=0≤q∧q≤4294967295∧q*y≤u*4294967296+un∧u*4294967296+un<(q+1)*y
theorem DI.step {y a b u un q r:Int} (h:DI y a b u un q r) {A B C:Prop}
  (hA:DG y u un (q-1)→0≤q-1→q-1≤4294967296→A)
  (hB:DI y a b u un (q-1) (r+a)→B)
  (hC:DG y u un q→C) :
  aG (decide (q≥(4294967296:Int)))
   (aG (decide ((u64.wrap (r+a))≥(4294967296:Int))) A B)
   (aG (decide ((u64.wrap (q*b))>(u64.wrap ((u64.wrap ((4294967296:Int)*r))+un))))
    (aG (decide ((u64.wrap (r+a))≥(4294967296:Int))) A B) C):=by
 have h':=h;obtain ⟨hy,h1,h0,hn,hu,hq,hr,hlt,hU⟩:=h;have e1:u64.wrap (r+a)=r+a:=aU ⟨by omega,by omega⟩;have eq1:q*y=q*a*4294967296+q*b:=by rw [hy];grind
 have eq2:(q-1)*y=q*y-y:=by grind
 have eq3:(q-1)*a=q*a-a:=by grind
 have eq4:(q-1+1)*y=q*y:=by grind
 have eq5:(q-1)*b=q*b-b:=by grind
 have big:u*4294967296+un<q*y→aG (decide ((u64.wrap (r+a))≥(4294967296:Int))) A B:=by
  intro hb;have q1:0≤q-1:=by
   refine Int.not_lt.1 fun hc=>?_
   have hq0:q=0:=by omega
   subst hq0;simp at hb hu;omega
  rw [e1]
  by_cases hc:r+a≥4294967296
  ·rw [Eo hc,bL];have hp:(q-1)*b≤4294967296*4294967295:=nL (by omega) h0.2 h0.1 (by omega);have hle:(q-1)*y≤u*4294967296+un:=by
    have:(q-1)*y=(q-1)*a*4294967296+(q-1)*b:=by rw [hy];grind
    omega
   have hlt32:q-1≤4294967295:=by
    refine Int.not_lt.1 fun hc=>?_
    have:4294967296*y≤(q-1)*y:=DW (by omega) (by omega);omega
   exact hA ⟨q1,hlt32,hle,by rw [eq4];exact hb⟩ q1 (by omega)
  ·rw [Os hc,bQ];exact hB ⟨hy,h1,h0,hn,by rw [eq3];omega,⟨q1,by omega⟩,⟨by omega,by omega⟩,hlt,by rw [eq4];exact hb⟩
 by_cases ha:q≥4294967296
 ·rw [Eo ha,bL];refine big ?_;have:4294967296*y≤q*y:=DW (by omega) (by omega);omega
 ·rw [Os ha,bQ];have hp:q*b≤4294967295*4294967295:=nL (by omega) h0.2 h0.1 (by omega);have hp0:0≤q*b:=kP hq.1 h0.1;have w1:u64.wrap (q*b)=q*b:=aU ⟨hp0,by omega⟩;have w2:u64.wrap ((4294967296:Int)*r)=4294967296*r:=aU ⟨by omega,by omega⟩;have w3:u64.wrap ((4294967296:Int)*r+un)=4294967296*r+un:=aU ⟨by omega,by omega⟩;rw [w1,w2,w3]
  by_cases hb:q*b>4294967296*r+un
  ·rw [Eo hb,bL];exact big (by omega)
  ·rw [Os hb,bQ];exact hC ⟨hq.1,by omega,by omega,hU⟩
theorem yM6 (W:Int→(Int→Prop)→Prop) {y a c u un:Int} (s v un0:Int) {x0 x1:Int→Int→Int→Int→Int→Int→Int→Int→Int→Bool→Prop}
  (hx:∀ q r b,DG y u un q→x0 y s a c v un un0 q r b) (hx1:∀ q r b,DG y u un q→x1 y s a c v un un0 q r b) :
  ∀ (n:Nat) (q r:Int) (b:Bool),DI y a c u un q r→4294967296≤r+n*2147483648→Br W x0 x1 (n+1) y s a c v un un0 q r b:=by
 intro n;induction n with
 | zero =>intro q r b h hn;have:=h.hr.2;exact absurd hn (by omega)
 | succ n ih=>
  intro q r b h hn;unfold Br;refine h.step (fun g a1 a2=>?_) (fun g=>?_) (fun g=>hx1 _ _ _ g)
  ·rw [aU (n:=q-1) ⟨by omega,by omega⟩];exact hx _ _ _ g
  ·have e1:u64.wrap (q-1)=q-1:=aU ⟨g.hq.1,by have:=g.hq.2;omega⟩;have e2:u64.wrap (r+a)=r+a:=aU ⟨g.hr.1,by have:=g.hr.2;omega⟩;rw [e1,e2];exact ih _ _ _ g (by have:=h.h1.1;omega)
theorem yM7 (W:Int→(Int→Prop)→Prop) {y a c u un:Int} (s q1 v:Int) {x0 x1:Int→Int→Int→Int→Int→Int→Int→Int→Int→Bool→Prop}
  (hx:∀ q r b,DG y u un q→x0 y s a c un q1 r v q b) (hx1:∀ q r b,DG y u un q→x1 y s a c un q1 r v q b) :
  ∀ (n:Nat) (q r:Int) (b:Bool),DI y a c u un q r→4294967296≤r+n*2147483648→Bs W x0 x1 (n+1) y s a c un q1 r v q b:=by
 intro n;induction n with
 | zero =>intro q r b h hn;have:=h.hr.2;exact absurd hn (by omega)
 | succ n ih=>
  intro q r b h hn;unfold Bs;refine h.step (fun g a1 a2=>?_) (fun g=>?_) (fun g=>hx1 _ _ _ g)
  ·rw [aU (n:=q-1) ⟨by omega,by omega⟩];exact hx _ _ _ g
  ·have e1:u64.wrap (q-1)=q-1:=aU ⟨g.hq.1,by have:=g.hq.2;omega⟩;have e2:u64.wrap (r+a)=r+a:=aU ⟨g.hr.1,by have:=g.hr.2;omega⟩;rw [e1,e2];exact ih _ _ _ g (by have:=h.h1.1;omega)
theorem yKt (W:Int→(Int→Prop)→Prop) {y a c u un:Int} (s v un0:Int) {x0 x1:Int→Int→Int→Int→Int→Int→Int→Int→Int→Bool→Prop}
  (hx:∀ q r b,DG y u un q→x0 y s a c v un un0 q r b) (hx1:∀ q r b,DG y u un q→x1 y s a c v un un0 q r b) (q r:Int) (h:DI y a c u un q r):Ma W x0 x1 3 y s a c v un un0 q r:=by
 have:=yM6 W s v un0 hx hx1 2 q r true h (by have:=h.hr.1;omega);unfold Br at this;unfold Ma;exact this
theorem yKu (W:Int→(Int→Prop)→Prop) {y a c u un:Int} (s q1 v:Int) {x0 x1:Int→Int→Int→Int→Int→Int→Int→Int→Int→Bool→Prop}
  (hx:∀ q r b,DG y u un q→x0 y s a c un q1 r v q b) (hx1:∀ q r b,DG y u un q→x1 y s a c un q1 r v q b) (q r:Int) (h:DI y a c u un q r):FX W x0 x1 3 y s a c un q1 r v q:=by
 have:=yM7 W s q1 v hx hx1 2 q r true h (by have:=h.hr.1;omega);unfold Bs at this;unfold FX;exact this
theorem DI.init {y a b u un:Int} (hy:y=a*4294967296+b) (h1:2147483648≤a∧a≤4294967295) (h0:0≤b∧b≤4294967295) (hn:0≤un∧un≤4294967295)
  (hu:0≤u) (hlt:u<y):DI y a b u un (u/a) (u-u/a*a):=by
 have a1:=Int.mul_ediv_add_emod u a;have a2:=Int.emod_nonneg u (show a≠0 by omega);have a3:=Int.emod_lt_of_pos u (show 0<a by omega);have a4:u/a*a=a*(u/a):=AE _ _;have a5:0≤u/a:=Eg hu (by omega);have a6:u/a≤4294967297:=by
  refine Int.not_lt.1 fun hc=>?_
  have:a*4294967298≤a*(u/a):=JM (by omega) (by omega);omega
 refine ⟨hy,h1,h0,hn,by omega,⟨a5,a6⟩,⟨by omega,by omega⟩,hlt,?_⟩;have e:(u/a+1)*y=a*(u/a)*4294967296+a*4294967296+(u/a+1)*b:=by
  obtain ⟨t,ht⟩:∃ t,t=u/a:=⟨_,rfl⟩;rw [← ht,hy];grind
 have:0≤(u/a+1)*b:=kP (by omega) h0.1;omega
theorem K2 {a b:Int} {k:Nat} (ha:0≤a) (hb:0≤b∧b<2 ^ k) (hab:a*2 ^ k≤18446744073709551615∧b≤18446744073709551615) (hs:a*2 ^ k+b≤18446744073709551615) :
  u64.wrap (BitVec.ofInt u64.bits (a*2 ^ k)|||BitVec.ofInt u64.bits b).toNat=a*2 ^ k+b:=by
 obtain ⟨x,rfl⟩:∃ x:Nat,a=x:=⟨a.toNat,by omega⟩;obtain ⟨z,rfl⟩:∃ z:Nat,b=z:=⟨b.toNat,by omega⟩;have ec:((x:Int)*2 ^ k)=((2 ^ k*x:Nat):Int):=by push_cast;exact AE _ _
 rw [ec] at hab hs ⊢;have hz:z<2 ^ k:=by have:=hb.2;exact_mod_cast this
 have e:(BitVec.ofInt u64.bits ((2 ^ k*x:Nat):Int)|||BitVec.ofInt u64.bits (z:Int)).toNat=2 ^ k*x+z:=by
  show (BitVec.ofInt 64 ((2 ^ k*x:Nat):Int)|||BitVec.ofInt 64 (z:Int)).toNat=_;rw [BitVec.toNat_or,BitVec.toNat_ofInt,BitVec.toNat_ofInt];have e1:(((2 ^ k*x:Nat):Int)%(2 ^ 64:Nat)).toNat=2 ^ k*x:=by omega
  have e2:((z:Int)%(2 ^ 64:Nat)).toNat=z:=by omega
  rw [e1,e2,Nat.two_pow_add_eq_or_of_lt hz]
 rw [e,aU ⟨by omega,by omega⟩]
 push_cast;rfl
theorem K3 {u un q y:Int} (h0:0≤u*4294967296+un-q*y) (h1:u*4294967296+un-q*y≤18446744073709551615) :
  u64.wrap (u64.wrap (u64.wrap (u*4294967296)+un)-u64.wrap (q*y))=u*4294967296+un-q*y:=by
 simp only [zX];omega
theorem uJ {a b:Int} (h:0≤a):Int.tdiv a b=a/b:=Int.tdiv_eq_ediv_of_nonneg h
theorem K4 {a b:Int} (h:0≤a):Int.tmod a b=a%b:=Int.tmod_eq_emod_of_nonneg h
theorem K5 {h l y:Int} (hh:gJ h) (hl:gJ l) (hy:gJ y) (hlt:h<y) {K:Int→Int→Prop}
  (k:K ((h*18446744073709551616+l)/y) ((h*18446744073709551616+l)%y)):Bt h l y K:=by
 unfold gJ at hh hl hy;unfold Bt Ra;have b1:(y ==(0:Int))=false:=beq_eq_false_iff_ne.2 (by omega);have b2:decide (y≤h)=false:=Os (by omega);have b3:(!(decide (y=(0:Int))))=true:=by rw [Os (by omega)];rfl
 rw [b1,bQ,b2,bQ,b3]
 by_cases h0:h=0
 ·subst h0;have:((0:Int)==0)=true:=rfl;rw [this,bL,gC,gC,uJ hl.1,K4 hl.1];have e:(0:Int)*18446744073709551616+l=l:=by omega
  rw [e] at k;have b4:l/y≤l:=Int.ediv_le_self _ hl.1;rw [aU ⟨Eg hl.1 (by omega),by omega⟩];exact k
 ·have b4:(h ==(0:Int))=false:=beq_eq_false_iff_ne.2 h0;rw [b4,bQ];refine yqe ⟨by omega,by omega⟩ ?_;have hyn:y.toNat≠0:=by omega
  have c1:=J9 y.toNat
  have c2:=MA hyn;have c3:blen y.toNat≤64:=by
   refine Nat.le_of_not_lt fun hc=>?_
   have:=GW (show 0<2 by omega) (show 64≤blen y.toNat-1 by omega);omega
  have c4:1≤blen y.toNat:=by
   refine Nat.le_of_not_lt fun hc=>?_
   have:blen y.toNat=0:=by omega
   rw [this] at c1;omega
  obtain ⟨m,hm⟩:∃ m,m=64-blen y.toNat:=⟨_,rfl⟩;have es:(64-(blen y.toNat:Int))=(m:Int):=by omega
  rw [es];have m63:m≤63:=by omega
  have e1:u64.wrap (m:Int)=m:=aU ⟨by omega,by omega⟩;have e2:u64.wrap ((64:Int)-m)=((64-m:Nat):Int):=by rw [aU ⟨by omega,by omega⟩];omega
  have e3:min ((m:Int)).toNat u64.bits=m:=by show min ((m:Int)).toNat 64=m;rw [dL];omega
  have e4:min (((64-m:Nat):Int)).toNat u64.bits=64-m:=by show min (((64-m:Nat):Int)).toNat 64=64-m;rw [dL];omega
  simp only [e1];rw [e2,e3,e4];have p64:(2:Int) ^ (64-m)*2 ^ m=18446744073709551616:=by
   rw [← Int.pow_add,show 64-m+m=64 by omega];rfl
  have p63:(2:Int) ^ (63-m)*2 ^ m=9223372036854775808:=by rw [← Int.pow_add,show 63-m+m=63 by omega];rfl
  have tp:(0:Int)<2 ^ m:=Int.pow_pos (by omega);have tp':(0:Int)<2 ^ (64-m):=Int.pow_pos (by omega);have y1:y<(2:Int) ^ (64-m):=by
   have:blen y.toNat=64-m:=by omega
   rw [this] at c1;have c1':((y.toNat:Nat):Int)<((2 ^ (64-m):Nat):Int):=by exact_mod_cast c1
   push_cast at c1'
   omega
  have y2:(2:Int) ^ (63-m)≤y:=by
   have:blen y.toNat-1=63-m:=by omega
   rw [this] at c2;have c2':((2 ^ (63-m):Nat):Int)≤((y.toNat:Nat):Int):=by exact_mod_cast c2
   push_cast at c2'
   omega
  have Y1:y*2 ^ m<18446744073709551616:=by have:=Int.mul_lt_mul_of_pos_right y1 tp;omega
  have Y2:9223372036854775808≤y*2 ^ m:=by have:=DW y2 (show (0:Int)≤2 ^ m by omega);omega
  have H1:(h+1)*2 ^ m≤y*2 ^ m:=DW (by omega) (by omega);have H2:(h+1)*2 ^ m=h*2 ^ m+2 ^ m:=by grind
  have H0:0≤h*2 ^ m:=kP hh.1 (by omega);have fd:Int.fdiv l (2 ^ (64-m))=l/2 ^ (64-m):=Dz _ _ (by omega);have L1:=Int.mul_ediv_add_emod l (2 ^ (64-m));have L2:=Int.emod_nonneg l (show (2:Int) ^ (64-m)≠0 by omega);have L3:=Int.emod_lt_of_pos l tp';have L4:0≤l/2 ^ (64-m):=Eg hl.1 (by omega);have L5:l/2 ^ (64-m)<2 ^ m:=by refine Int.ediv_lt_of_lt_mul tp' ?_;rw [AE,p64];omega
  have w1:u64.wrap (y*2 ^ m)=y*2 ^ m:=aU ⟨by omega,by omega⟩;have w2:u64.wrap (h*2 ^ m)=h*2 ^ m:=aU ⟨by omega,by omega⟩;have w3:u64.wrap (BitVec.ofInt u64.bits (h*2 ^ m)|||BitVec.ofInt u64.bits (l/2 ^ (64-m))).toNat=h*2 ^ m+l/2 ^ (64-m):=
   K2 hh.1 ⟨L4,L5⟩ ⟨by omega,by omega⟩ (by omega)
  have w4:u64.wrap (l*2 ^ m)=l%2 ^ (64-m)*2 ^ m:=by
   have e:l*2 ^ m=(l/2 ^ (64-m))*18446744073709551616+l%2 ^ (64-m)*2 ^ m:=by rw [← p64];obtain ⟨a,ha⟩:∃ a,a=l/2 ^ (64-m):=⟨_,rfl⟩;obtain ⟨b,hb⟩:∃ b,b=l%2 ^ (64-m):=⟨_,rfl⟩;obtain ⟨t,ht⟩:∃ t,t=(2:Int) ^ m:=⟨_,rfl⟩;obtain ⟨t',ht'⟩:∃ t,t=(2:Int) ^ (64-m):=⟨_,rfl⟩;rw [← ha,← hb,← ht'] at L1;rw [← ha,← hb,← ht,← ht'];rw [← L1];grind
   have e5:l%2 ^ (64-m)*2 ^ m<18446744073709551616:=by rw [← p64];exact Int.mul_lt_mul_of_pos_right L3 tp
   have e6:0≤l%2 ^ (64-m)*2 ^ m:=kP L2 (by omega);rw [e,zX];omega
  have e5:l%2 ^ (64-m)*2 ^ m<18446744073709551616:=by rw [← p64];exact Int.mul_lt_mul_of_pos_right L3 tp
  have e6:0≤l%2 ^ (64-m)*2 ^ m:=kP L2 (by omega);have eN:(h*18446744073709551616+l)*2 ^ m=(h*2 ^ m+l/2 ^ (64-m))*18446744073709551616+l%2 ^ (64-m)*2 ^ m:=by rw [← p64];obtain ⟨a,ha⟩:∃ a,a=l/2 ^ (64-m):=⟨_,rfl⟩;obtain ⟨b,hb⟩:∃ b,b=l%2 ^ (64-m):=⟨_,rfl⟩;obtain ⟨t,ht⟩:∃ t,t=(2:Int) ^ m:=⟨_,rfl⟩;obtain ⟨t',ht'⟩:∃ t,t=(2:Int) ^ (64-m):=⟨_,rfl⟩;rw [← ha,← hb,← ht'] at L1;rw [← ha,← hb,← ht,← ht'];rw [← L1];grind
  have U1:h*2 ^ m+l/2 ^ (64-m)<y*2 ^ m:=by omega
  have U0:0≤h*2 ^ m+l/2 ^ (64-m):=by omega
  rw [fd,w1,w2,w3,w4];have b5:(!(decide ((m:Int)<0)))=true:=by rw [Os (by omega)];rfl
  have b6:(!(decide (((64-m:Nat):Int)<0)))=true:=by rw [Os (by omega)];rfl
  rw [b5,b6,gC,gC,gC,gC];generalize h*2 ^ m+l/2 ^ (64-m)=u at *
  generalize hl0:l%2 ^ (64-m)*2 ^ m=v at *
  generalize hY:y*2 ^ m=Y at *
  rw [Dz Y _ (by omega),Dz v _ (by omega),zY ⟨by omega,by omega⟩,zY ⟨by omega,by omega⟩,uJ U0];have b7:(!(decide (Y/4294967296=(0:Int))))=true:=by rw [Os (by omega)];rfl
  rw [b7,gC];obtain ⟨c,hyn1⟩:∃ a,a=Y/4294967296:=⟨_,rfl⟩;obtain ⟨d,hyn0⟩:∃ a,a=Y%4294967296:=⟨_,rfl⟩;obtain ⟨un1,hun1⟩:∃ a,a=v/4294967296:=⟨_,rfl⟩;obtain ⟨un0,hun0⟩:∃ a,a=v%4294967296:=⟨_,rfl⟩;rw [← hyn1,← hyn0,← hun1,← hun0];have d1:2147483648≤c∧c≤4294967295:=by omega
  have d0:0≤d∧d≤4294967295:=by omega
  have dn1:0≤un1∧un1≤4294967295:=by omega
  have dn0:0≤un0∧un0≤4294967295:=by omega
  have dY:Y=c*4294967296+d:=by omega
  have g1:=DI.init dY d1 d0 dn1 U0 U1;have x1:u64.wrap (u/c)=u/c:=aU ⟨g1.hq.1,by have:=g1.hq.2;omega⟩;have x2:u64.wrap (u-u64.wrap (u/c*c))=u-u/c*c:=by have r1:=g1.hr.1;have r2:0≤u/c*c:=kP g1.hq.1 (by omega);have r3:=g1.hr.2;rw [aU (n:=u/c*c) ⟨r2,by omega⟩,aU ⟨r1,by omega⟩]
  rw [x1,x2];have fin:∀ q1:Int,DG Y u un1 q1→∀ (un21:Int),un21=u*4294967296+un1-q1*Y→∀ q0,DG Y un21 un0 q0 →
    K (u64.wrap ((u64.wrap (q1*(4294967296:Int)))+q0)) (Int.fdiv (u64.wrap ((u64.wrap ((u64.wrap (un21*(4294967296:Int)))+un0))-(u64.wrap (q0*Y)))) (2 ^ (min ((m:Int)).toNat u64.bits))):=by
   intro q1 G1 un21 e21 q0 G0;obtain ⟨a1,a2,a3,a4⟩:=G1;obtain ⟨c1,c2,c3,c4⟩:=G0;have s1:(q1+1)*Y=q1*Y+Y:=by grind
   have s0:(q0+1)*Y=q0*Y+Y:=by grind
   have w5:u64.wrap (q1*4294967296)=q1*4294967296:=aU ⟨by omega,by omega⟩;have w6:u64.wrap (q1*4294967296+q0)=q1*4294967296+q0:=aU ⟨by omega,by omega⟩;rw [K3 (by omega) (by omega),w5,w6,e3,Dz _ _ (by omega)];have eT:un21*4294967296+un0-q0*Y=(h*18446744073709551616+l-(q1*4294967296+q0)*y)*2 ^ m:=by
    have f1:(q1*4294967296+q0)*Y=q1*Y*4294967296+q0*Y:=by grind
    have f2:(h*18446744073709551616+l-(q1*4294967296+q0)*y)*2 ^ m=(h*18446744073709551616+l)*2 ^ m-(q1*4294967296+q0)*Y:=by rw [← hY,Int.sub_mul,Int.mul_assoc (q1*4294967296+q0)]
    rw [f2,f1,eN];omega
   rw [eT,Int.mul_ediv_cancel _ (by omega)];have r0:0≤h*18446744073709551616+l-(q1*4294967296+q0)*y:=by
    refine Int.not_lt.1 fun hc=>?_
    have:=DY hc tp;omega
   have r1:h*18446744073709551616+l-(q1*4294967296+q0)*y<y:=by
    refine Int.not_le.1 fun hc=>?_
    have:=DW hc (show (0:Int)≤2 ^ m by omega);omega
   obtain ⟨Q,hQ⟩:∃ Q,Q=q1*4294967296+q0:=⟨_,rfl⟩;rw [← hQ] at r0 r1 ⊢;have z1:(h*18446744073709551616+l)/y=Q:=by
    have:h*18446744073709551616+l=(h*18446744073709551616+l-Q*y)+Q*y:=by omega
    rw [this,Int.add_mul_ediv_right _ _ (by omega),Int.ediv_eq_zero_of_lt r0 r1];omega
   have z2:(h*18446744073709551616+l)%y=h*18446744073709551616+l-Q*y:=by have:=Int.mul_ediv_add_emod (h*18446744073709551616+l) y;rw [z1,AE] at this;omega
   rw [z1,z2] at k;exact k
  have mid:∀ q:Int,DG Y u un1 q→∀ (X:Int→Int→Int→Int→Int→Int→Int→Int→Int→Bool→Prop),(∀ q0 r0 b0,DG Y (u*4294967296+un1-q*Y) un0 q0→X Y m c d un0 q r0 (u*4294967296+un1-q*Y) q0 b0) →
    asr (!(decide (c=(0:Int)))) (∃ n:Nat,FX Bq X X n Y m c d un0 q ((u64.wrap ((u64.wrap ((u64.wrap ((u64.wrap (u*(4294967296:Int)))+un1))-(u64.wrap (q*Y))))-(u64.wrap ((u64.wrap (Int.tdiv (u64.wrap ((u64.wrap ((u64.wrap (u*(4294967296:Int)))+un1))-(u64.wrap (q*Y)))) c))*c))))) (u64.wrap ((u64.wrap ((u64.wrap (u*(4294967296:Int)))+un1))-(u64.wrap (q*Y)))) (u64.wrap (Int.tdiv (u64.wrap ((u64.wrap ((u64.wrap (u*(4294967296:Int)))+un1))-(u64.wrap (q*Y)))) c))):=by
   intro q G X hX;obtain ⟨a1,a2,a3,a4⟩:=G;have s1:(q+1)*Y=q*Y+Y:=by grind
   have b8:(!(decide (c=(0:Int))))=true:=by rw [Os (by omega)];rfl
   rw [b8,gC,K3 (by omega) (by omega),uJ (by omega)];have g0:=DI.init dY d1 d0 dn0 (u:=u*4294967296+un1-q*Y) (by omega) (by omega);generalize u*4294967296+un1-q*Y=u2 at *
   have x1:u64.wrap (u2/c)=u2/c:=aU ⟨g0.hq.1,by have:=g0.hq.2;omega⟩;have x2:u64.wrap (u2-u64.wrap (u2/c*c))=u2-u2/c*c:=by have r1:=g0.hr.1;have r2:0≤u2/c*c:=kP g0.hq.1 (by omega);have r3:=g0.hr.2;have r4:=g0.hlt;rw [aU (n:=u2/c*c) ⟨r2,by omega⟩,aU ⟨r1,by omega⟩]
   rw [x1,x2];exact ⟨3,yKu _ _ _ _ (fun q0 r0 b0 g=>hX q0 r0 b0 g) (fun q0 r0 b0 g=>hX q0 r0 b0 g) _ _ g0⟩
  have leaf:∀ {P:Prop},P→asr (!(decide ((m:Int)<0))) P:=fun p=>by rw [b5,gC];exact p
  refine ⟨3,yKt _ _ _ _ (fun q r b G=>?_) (fun q r b G=>?_) _ _ g1⟩
  ·exact mid q G _ (fun q0 r0 b0 G0=>leaf (fin q G _ rfl q0 G0))
  ·exact mid q G _ (fun q0 r0 b0 G0=>leaf (fin q G _ rfl q0 G0))
theorem yF4 {h l y:Int} (hh:gJ h) (hl:gJ l) (hy:gJ y) (h0:0<y) {K:Int→Prop}
  (k:K ((h*18446744073709551616+l)%y)):Dj h l y K:=by
 unfold Dj Re;have b3:(!(decide (y=(0:Int))))=true:=by rw [Os (by omega)];rfl
 have a1:=Int.emod_nonneg h (show y≠0 by omega);have a2:=Int.emod_lt_of_pos h h0;have hh':=hh;unfold gJ at hh hy;rw [b3,gC,K4 hh.1];refine K5 ⟨a1,by omega⟩ hl ⟨by omega,by omega⟩ a2 ?_;have e:(h%y*18446744073709551616+l)%y=(h*18446744073709551616+l)%y:=by rw [Int.add_emod,Int.mul_emod,Int.emod_emod,← Int.mul_emod,← Int.add_emod]
 rw [e];exact k
def jA (s:Bool) (a b:Int) (K:Int→Int→Int→Prop):Prop:=
 if a≤1000000000000000000∧b≤1000000000000000000 then K (if s then -a else a) b 0 else K 0 0 16
theorem TA {s:Bool} {a b:Int} (ha:0≤a) (hb:0≤b) (K:Int→Int→Int→Prop):Bu s a b K=jA s a b K:=by
 unfold Bu Rg jA
 by_cases h:a≤1000000000000000000∧b≤1000000000000000000
 ·have e:decide ((if b>a then b else a)>(1000000000000000000:Int))=false:=by
   refine Os ?_;split<;>omega
  have w1:i64.wrap a=a:=gB ⟨by omega,by omega⟩;have w2:i64.wrap b=b:=gB ⟨by omega,by omega⟩;have w3:i64.wrap (0-a)=-a:=by rw [gB ⟨by omega,by omega⟩];omega
  rw [e,bQ,VX h,w1,w2,w3]
  cases s
  ·rfl
  ·rfl
 ·have e:decide ((if b>a then b else a)>(1000000000000000000:Int))=true:=by
   refine Eo ?_;split<;>omega
  rw [e,bL,VY h]
def oW (a c:Int) (b d:Int):Nat:=(a.natAbs/Nat.gcd a.natAbs d.natAbs)*(c.natAbs/Nat.gcd c.natAbs b.natAbs)
def oY (a c:Int) (b d:Int):Nat:=(b.natAbs/Nat.gcd c.natAbs b.natAbs)*(d.natAbs/Nat.gcd a.natAbs d.natAbs)
theorem TB {a b c d:Int} (ha:cL a) (hb:cL b) (hc:cL c) (hd:cL d) {K:Int→Int→Int→Prop}
  (k:if cI a b c d=0 then jA (decide (a<0) !=decide (c<0)) (oW a c b d) (oY a c b d) K else K 0 0 (cI a b c d)):nE a b c d K:=by
 unfold nE Rj;refine Jm ha hb hc hd ?_
 by_cases h:cI a b c d=0
 ·rw [VX h] at k;have:(cI a b c d !=(0:Int))=false:=by rw [h];rfl
  rw [this,bQ,BA ha,BA hc];obtain ⟨⟨b1,b2,a1,a2,_⟩,d1,d2,c1,c2,_⟩:=zZ.1 h;have wb:u64.wrap b=((b.natAbs:Nat):Int):=by rw [aU ⟨by omega,by omega⟩];omega
  have wd:u64.wrap d=((d.natAbs:Nat):Int):=by rw [aU ⟨by omega,by omega⟩];omega
  rw [wb,wd];refine Jl _ _ _ (Jl _ _ _ ?_);unfold oW oY at k;have g1:0<Nat.gcd a.natAbs d.natAbs:=DZ _ (by omega);have g2:0<Nat.gcd c.natAbs b.natAbs:=DZ _ (by omega);obtain ⟨g3,h3⟩:∃ g,g=Nat.gcd a.natAbs d.natAbs:=⟨_,rfl⟩;obtain ⟨g4,h4⟩:∃ g,g=Nat.gcd c.natAbs b.natAbs:=⟨_,rfl⟩;rw [← h3,← h4] at k ⊢;rw [← h3] at g1;rw [← h4] at g2;have n3:(!(decide ((g3:Int)=(0:Int))))=true:=by rw [Os (by omega)];rfl
  have n4:(!(decide ((g4:Int)=(0:Int))))=true:=by rw [Os (by omega)];rfl
  rw [n3,n4,gC,gC,uJ (by omega),uJ (by omega),uJ (by omega),uJ (by omega),← uY,← uY,← uY,← uY];have q1:a.natAbs/g3≤a.natAbs:=AB _ _;have q2:c.natAbs/g4≤c.natAbs:=AB _ _;have q3:b.natAbs/g4≤b.natAbs:=AB _ _;have q4:d.natAbs/g3≤d.natAbs:=AB _ _;generalize a.natAbs/g3=A at *
  generalize c.natAbs/g4=C at *
  generalize b.natAbs/g4=B at *
  generalize d.natAbs/g3=D at *
  rw [aU (n:=(A:Int)) ⟨by omega,by omega⟩,aU (n:=(C:Int)) ⟨by omega,by omega⟩,aU (n:=(B:Int)) ⟨by omega,by omega⟩,aU (n:=(D:Int)) ⟨by omega,by omega⟩,
   Dy ⟨by omega,by omega⟩ ⟨by omega,by omega⟩,gC,gC,Dy ⟨by omega,by omega⟩ ⟨by omega,by omega⟩]
  have m1:A*C≤1000000000000000000*1000000000000000000:=BO (by omega) (by omega);have m2:B*D≤1000000000000000000*1000000000000000000:=BO (by omega) (by omega);rw [← AA,← AA];generalize A*C=M at *
  generalize B*D=N at *
  have wm:u64.wrap ((M:Int)/18446744073709551616+(N:Int)/18446744073709551616)=(M:Int)/18446744073709551616+(N:Int)/18446744073709551616:=aU ⟨by omega,by omega⟩;rw [wm]
  by_cases hb:(M:Int)/18446744073709551616+(N:Int)/18446744073709551616>0
  ·rw [Eo hb,bL];unfold jA at k;rw [VY (by omega)] at k;exact k
  ·rw [Os hb,bQ];have eM:(M:Int)%18446744073709551616=M:=by omega
   have eN:(N:Int)%18446744073709551616=N:=by omega
   rw [eM,eN]
   by_cases h0:(M:Int)>0
   ·rw [Eo h0,bL,TA (by omega) (by omega)];exact k
   ·rw [Os h0,bQ,TA (by omega) (by omega)];have hz:M=0:=by omega
    subst hz;unfold jA at k ⊢
    by_cases hN:(N:Int)≤1000000000000000000
    ·rw [VX ⟨by omega,hN⟩] at k ⊢;have e:(if (decide (a<0) !=decide (c<0))=true then -((0:Nat):Int) else ((0:Nat):Int))=0:=by split<;>rfl
     rw [e] at k;exact k
    ·rw [VY (by omega)] at k ⊢;exact k
 ·rw [VY h] at k;have:(cI a b c d !=(0:Int))=true:=by rw [bne_iff_ne];exact h
  rw [this,bL];exact k
theorem RV.swap {c d:Int} (h:RV c d) (h0:0<c):RV d c:=by obtain ⟨d1,d2,c1,c2,g⟩:=h;exact ⟨by omega,c2,by omega,d2,by rw [xN];exact g⟩
theorem RV.swapn {c d:Int} (h:RV c d) (h0:c<0):RV (-d) (-c):=by obtain ⟨d1,d2,c1,c2,g⟩:=h;exact ⟨by omega,by omega,by omega,by omega,by rw [Int.natAbs_neg,Int.natAbs_neg,xN];exact g⟩
theorem yKv {a b c d:Int} (ha:cL a) (hb:cL b) (hc:cL c) (hd:cL d) {K:Int→Int→Int→Prop}
  (k:if cI a b c d=0 then (if c=0 then K 0 0 18 else jA (decide (a<0) !=decide (c<0)) (oW a d b c) (oY a d b c) K) else K 0 0 (cI a b c d)):rB a b c d K:=by
 unfold rB Rk;refine Jm ha hb hc hd ?_
 by_cases h:cI a b c d=0
 ·rw [VX h] at k;have:(cI a b c d !=(0:Int))=false:=by rw [h];rfl
  rw [this,bQ];obtain ⟨hab,hcd⟩:=zZ.1 h;obtain ⟨d1,d2,c1,c2,_⟩:=id hcd
  by_cases h0:c=0
  ·rw [VX h0] at k;have:(c ==(0:Int))=true:=beq_iff_eq.2 h0;rw [this,bL];exact k
  ·rw [VY h0] at k;have:(c ==(0:Int))=false:=beq_eq_false_iff_ne.2 h0;rw [this,bQ]
   by_cases hn:c<0
   ·rw [Eo hn] at k;rw [Eo hn,bL,gB (n:=0-d) ⟨by omega,by omega⟩,gB (n:=0-c) ⟨by omega,by omega⟩,Int.zero_sub,Int.zero_sub];have e:cI a b (-d) (-c)=0:=zZ.2 ⟨hab,hcd.swapn hn⟩;refine TB ha hb ⟨by omega,by omega⟩ ⟨by omega,by omega⟩ ?_;rw [VX e,Eo (show -d<0 by omega)];unfold oW oY at k ⊢;rw [Int.natAbs_neg,Int.natAbs_neg];exact k
   ·rw [Os hn] at k;rw [Os hn,bQ];have e:cI a b d c=0:=zZ.2 ⟨hab,hcd.swap (by omega)⟩;refine TB ha hb hd hc ?_;rw [VX e,Os (show ¬d<0 by omega)];exact k
 ·rw [VY h] at k;have:(cI a b c d !=(0:Int))=true:=by rw [bne_iff_ne];exact h
  rw [this,bL];exact k
theorem yHT {s:Bool} {hi lo p1 p3:Int} {g:Nat} (hh:gJ hi) (hl:gJ lo) (hg:0<g) (g1:(g:Int)≤1000000000000000000)
   (h1:0≤p1∧p1≤1000000000000000000) (h3:0≤p3∧p3≤1000000000000000000) {K:Int→Int→Int→Prop}
   (k:jA s (((hi*18446744073709551616+lo).toNat/Nat.gcd (hi*18446744073709551616+lo).toNat g:Nat):Int)
    (((p1.toNat/g)*(p3.toNat/Nat.gcd (hi*18446744073709551616+lo).toNat g):Nat):Int) K) :
   (Dj hi lo (g:Int) (fun (b:Int)=>
 (uB b (g:Int) (fun (a:Int)=>
 (aG (decide (hi≥a))
 (K (0:Int) (0:Int) (16:Int))
 (Bt hi lo a (fun (c:Int) (j:Int)=>
 (asr (!(decide ((g:Int)=(0:Int))))
 (asr (!(decide (a=(0:Int))))
 (yZ (u64.wrap (Int.tdiv (u64.wrap p1) (g:Int))) (u64.wrap (Int.tdiv (u64.wrap p3) a)) (fun (d:Int) (e:Int)=>
 (aG (decide (d>(0:Int)))
 (K (0:Int) (0:Int) (16:Int))
 (Bu s c e (fun (f:Int) (h:Int) (i:Int)=>
 (K f h i))))))))))))))):=by
  unfold gJ at hh hl;obtain ⟨X,hX⟩:∃ X:Nat,X=(hi*18446744073709551616+lo).toNat:=⟨_,rfl⟩;have eX:hi*18446744073709551616+lo=(X:Int):=by omega
  rw [← hX] at k;refine yF4 hh hl ⟨by omega,by omega⟩ (by omega) ?_;rw [eX,← Int.natCast_emod];refine Jl _ _ _ ?_;have eg:Nat.gcd (X%g) g=Nat.gcd X g:=by rw [xN,xN X,Nat.gcd_rec g X,xN]
  rw [eg];have gp:0<Nat.gcd X g:=DZ _ hg;have gl:Nat.gcd X g≤g:=Nat.le_of_dvd hg (Hc _ _);generalize Nat.gcd X g=G at *
  by_cases hb:hi≥(G:Int)
  ·rw [Eo hb,bL];unfold jA at k;have:18446744073709551616≤X/G:=by
    rw [Nat.le_div_iff_mul_le gp];omega
   rw [VY (by omega)] at k;exact k
  ·rw [Os hb,bQ];refine K5 hh hl ⟨by omega,by omega⟩ (by omega) ?_;rw [eX];have n3:(!(decide ((g:Int)=(0:Int))))=true:=by rw [Os (by omega)];rfl
   have n4:(!(decide ((G:Int)=(0:Int))))=true:=by rw [Os (by omega)];rfl
   have e1:u64.wrap p1=(p1.toNat:Int):=by rw [aU ⟨by omega,by omega⟩];omega
   have e3:u64.wrap p3=(p3.toNat:Int):=by rw [aU ⟨by omega,by omega⟩];omega
   rw [n3,n4,gC,gC,e1,e3,uJ (by omega),uJ (by omega),← uY,← uY,← uY];have q1:p1.toNat/g≤p1.toNat:=AB _ _;have q3:p3.toNat/G≤p3.toNat:=AB _ _;generalize p1.toNat/g=A at *
   generalize p3.toNat/G=B at *
   generalize X/G=N at *
   rw [aU (n:=(A:Int)) ⟨by omega,by omega⟩,aU (n:=(B:Int)) ⟨by omega,by omega⟩,Dy ⟨by omega,by omega⟩ ⟨by omega,by omega⟩,← AA];generalize A*B=D at *
   by_cases hd:((D:Int)/18446744073709551616)>0
   ·rw [Eo hd,bL];unfold jA at k;rw [VY (by omega)] at k;exact k
   ·rw [Os hd,bQ];have eD:(D:Int)%18446744073709551616=D:=by omega
    rw [eD,TA (by omega) (by omega)];exact k
theorem K6 {p q c:Int} {K:Int→Int→Prop} (hc:c.toNat≤1) (k:K (((p.toNat+q.toNat+c.toNat)%18446744073709551616:Nat):Int) (((p.toNat+q.toNat+c.toNat)/18446744073709551616:Nat):Int)):ET p q c K:=by unfold ET;rw [Eo hc,gC];exact k
theorem K7 {p q c:Int} {K:Int→Int→Prop} (hc:c.toNat≤1) (k:K (((p.toNat+18446744073709551616-q.toNat-c.toNat)%18446744073709551616:Nat):Int) ((if q.toNat+c.toNat≤p.toNat then 0 else 1:Nat):Int)):EU p q c K:=by
 unfold EU;rw [Eo hc,gC];have e:(bif Nat.ble (q.toNat+c.toNat) p.toNat then 0 else 1:Nat)=(if q.toNat+c.toNat≤p.toNat then 0 else 1:Nat):=by
  by_cases h:q.toNat+c.toNat≤p.toNat
  ·rw [VX h,show Nat.ble (q.toNat+c.toNat) p.toNat=true from Ea h];rfl
  ·rw [VY h]
   cases hb:Nat.ble (q.toNat+c.toNat) p.toNat
   ·rfl
   ·exact absurd (Aw hb) h
 rw [e];exact k
theorem yF5 {X Y:Int} (hx:0≤X) (hy:0≤Y) (hs:X+Y<340282366920938463463374607431768211456) {F:Int→Int→Int→Int→Prop}
  (h:∀ c1 c2,F ((X+Y)%18446744073709551616) c1 ((X+Y)/18446744073709551616) c2) :
  ET (X%18446744073709551616) (Y%18446744073709551616) 0 (fun lo c1=>ET (X/18446744073709551616) (Y/18446744073709551616) c1 (fun hi c2=>F lo c1 hi c2)):=by
 obtain ⟨x,rfl⟩:∃ x:Nat,X=x:=⟨X.toNat,by omega⟩;obtain ⟨y,rfl⟩:∃ y:Nat,Y=y:=⟨Y.toNat,by omega⟩;refine K6 (by decide) (K6 (by omega) ?_);have e1:(((((x:Int)%18446744073709551616).toNat+((y:Int)%18446744073709551616).toNat+(0:Int).toNat)%18446744073709551616:Nat):Int)=((x:Int)+y)%18446744073709551616:=by omega
 have e2:(((((x:Int)/18446744073709551616).toNat+((y:Int)/18446744073709551616).toNat+(((((x:Int)%18446744073709551616).toNat+((y:Int)%18446744073709551616).toNat+(0:Int).toNat)/18446744073709551616:Nat):Int).toNat)%18446744073709551616:Nat):Int)=((x:Int)+y)/18446744073709551616:=by omega
 rw [e1,e2];exact h _ _
theorem MB {X Y:Int} (hy:0≤Y) (hxy:Y≤X) (hs:X<340282366920938463463374607431768211456) {F:Int→Int→Int→Int→Prop}
  (h:∀ c1 c2,F ((X-Y)%18446744073709551616) c1 ((X-Y)/18446744073709551616) c2) :
  EU (X%18446744073709551616) (Y%18446744073709551616) 0 (fun lo c1=>EU (X/18446744073709551616) (Y/18446744073709551616) c1 (fun hi c2=>F lo c1 hi c2)):=by
 obtain ⟨x,rfl⟩:∃ x:Nat,X=x:=⟨X.toNat,by omega⟩;obtain ⟨y,rfl⟩:∃ y:Nat,Y=y:=⟨Y.toNat,by omega⟩;refine K7 (by decide) (K7 (by split<;>omega) ?_);have e1:(((((x:Int)%18446744073709551616).toNat+18446744073709551616-((y:Int)%18446744073709551616).toNat-(0:Int).toNat)%18446744073709551616:Nat):Int)=((x:Int)-y)%18446744073709551616:=by omega
 rw [e1]
 by_cases hb:((y:Int)%18446744073709551616).toNat+(0:Int).toNat≤((x:Int)%18446744073709551616).toNat
 ·rw [VX hb];have e2:(((((x:Int)/18446744073709551616).toNat+18446744073709551616-((y:Int)/18446744073709551616).toNat-((0:Nat):Int).toNat)%18446744073709551616:Nat):Int)=((x:Int)-y)/18446744073709551616:=by omega
  rw [e2];exact h _ _
 ·rw [VY hb];have e2:(((((x:Int)/18446744073709551616).toNat+18446744073709551616-((y:Int)/18446744073709551616).toNat-((1:Nat):Int).toNat)%18446744073709551616:Nat):Int)=((x:Int)-y)/18446744073709551616:=by omega
  rw [e2];exact h _ _
def jS (s:Bool) (Z p1 p3:Int) (g:Nat) (K:Int→Int→Int→Prop):Prop:=
 if Z=0 then K 0 1 0 else jA s ((Z.toNat/Nat.gcd Z.toNat g:Nat):Int) (((p1.toNat/g)*(p3.toNat/Nat.gcd Z.toNat g):Nat):Int) K
theorem Jn {s:Bool} {Z p1 p3:Int} {g:Nat} (hz:0≤Z) (hz2:Z<340282366920938463463374607431768211456) (hg:0<g) (g1:(g:Int)≤1000000000000000000)
   (h1:0≤p1∧p1≤1000000000000000000) (h3:0≤p3∧p3≤1000000000000000000) {K:Int→Int→Int→Prop}
   (k:jS s Z p1 p3 g K) :
   aG (Z/18446744073709551616 ==(0:Int)) (aG (Z%18446744073709551616 ==(0:Int)) (K 0 1 0) (Dj (Z/18446744073709551616) (Z%18446744073709551616) (g:Int) (fun (b:Int)=>
 (uB b (g:Int) (fun (a:Int)=>
 (aG (decide ((Z/18446744073709551616)≥a))
 (K (0:Int) (0:Int) (16:Int))
 (Bt (Z/18446744073709551616) (Z%18446744073709551616) a (fun (c:Int) (j:Int)=>
 (asr (!(decide ((g:Int)=(0:Int))))
 (asr (!(decide (a=(0:Int))))
 (yZ (u64.wrap (Int.tdiv (u64.wrap p1) (g:Int))) (u64.wrap (Int.tdiv (u64.wrap p3) a)) (fun (d:Int) (e:Int)=>
 (aG (decide (d>(0:Int)))
 (K (0:Int) (0:Int) (16:Int))
 (Bu s c e (fun (f:Int) (h:Int) (i:Int)=>
 (K f h i)))))))))))))))) (Dj (Z/18446744073709551616) (Z%18446744073709551616) (g:Int) (fun (b:Int)=>
 (uB b (g:Int) (fun (a:Int)=>
 (aG (decide ((Z/18446744073709551616)≥a))
 (K (0:Int) (0:Int) (16:Int))
 (Bt (Z/18446744073709551616) (Z%18446744073709551616) a (fun (c:Int) (j:Int)=>
 (asr (!(decide ((g:Int)=(0:Int))))
 (asr (!(decide (a=(0:Int))))
 (yZ (u64.wrap (Int.tdiv (u64.wrap p1) (g:Int))) (u64.wrap (Int.tdiv (u64.wrap p3) a)) (fun (d:Int) (e:Int)=>
 (aG (decide (d>(0:Int)))
 (K (0:Int) (0:Int) (16:Int))
 (Bu s c e (fun (f:Int) (h:Int) (i:Int)=>
 (K f h i))))))))))))))):=by
  unfold jS at k;have eZ:Z/18446744073709551616*18446744073709551616+Z%18446744073709551616=Z:=by omega
  by_cases h0:Z=0
  ·rw [VX h0] at k;subst h0;have e1:((0:Int)/18446744073709551616 ==(0:Int))=true:=by decide
   have e2:((0:Int)%18446744073709551616 ==(0:Int))=true:=by decide
   rw [e1,bL,e2,bL];exact k
  ·rw [VY h0] at k;have t:=yHT (s:=s) (hi:=Z/18446744073709551616) (lo:=Z%18446744073709551616) (p1:=p1) (p3:=p3) (g:=g) (K:=K) ⟨by omega,by omega⟩ ⟨by omega,by omega⟩ hg g1 h1 h3 (by rw [eZ];exact k)
   cases h4:(Z/18446744073709551616 ==(0:Int))
   ·rw [bQ];exact t
   ·rw [bL]
    cases h2:(Z%18446744073709551616 ==(0:Int))
    ·rw [bQ];exact t
    ·have:=beq_iff_eq.1 h2;have:=beq_iff_eq.1 h4;exact absurd (show Z=0 by omega) h0
theorem TD {s s':Bool} {Z Z' p1 p3:Int} {g:Nat} {K:Int→Int→Int→Prop} (k:jS s' Z' p1 p3 g K) (hz:Z=Z') (hs:Z≠0→s=s'):jS s Z p1 p3 g K:=by
 subst hz;unfold jS at k ⊢
 by_cases h:Z=0
 ·rw [VX h] at k ⊢;exact k
 ·rw [VY h] at k ⊢;rw [hs h];exact k
theorem K8 {a b c d:Int} (ha:cL a) (hb:cL b) (hc:cL c) (hd:cL d) {K:Int→Int→Int→Prop}
  (k:if cI a b c d=0 then jS (decide (a*(d/(Nat.gcd b.natAbs d.natAbs:Nat))+c*(b/(Nat.gcd b.natAbs d.natAbs:Nat))<0))
    ((a*(d/(Nat.gcd b.natAbs d.natAbs:Nat))+c*(b/(Nat.gcd b.natAbs d.natAbs:Nat))).natAbs:Int) b d (Nat.gcd b.natAbs d.natAbs) K
   else K 0 0 (cI a b c d)):qY a b c d K:=by
 unfold qY Rh;refine Jm ha hb hc hd ?_
 by_cases h:cI a b c d=0
 ·rw [VX h] at k;have:(cI a b c d !=(0:Int))=false:=by rw [h];rfl
  rw [this,bQ];obtain ⟨⟨b1,b2,a1,a2,_⟩,d1,d2,c1,c2,_⟩:=zZ.1 h;have wb:u64.wrap b=((b.natAbs:Nat):Int):=by rw [aU ⟨by omega,by omega⟩];omega
  have wd:u64.wrap d=((d.natAbs:Nat):Int):=by rw [aU ⟨by omega,by omega⟩];omega
  have g1:0<Nat.gcd b.natAbs d.natAbs:=DZ _ (by omega);have g2:Nat.gcd b.natAbs d.natAbs≤d.natAbs:=Nat.le_of_dvd (by omega) (Hc _ _);have go:uB (u64.wrap b) (u64.wrap d)=uB ((b.natAbs:Nat):Int) ((d.natAbs:Nat):Int):=by rw [wb,wd]
  rw [go];refine Jl _ _ _ ?_;generalize Nat.gcd b.natAbs d.natAbs=g at *
  have n3:(!(decide ((g:Int)=(0:Int))))=true:=by rw [Os (by omega)];rfl
  have q1:0≤b/(g:Int):=Eg (by omega) (by omega);have q2:0≤d/(g:Int):=Eg (by omega) (by omega);have q3:b/(g:Int)≤b:=Int.ediv_le_self _ (by omega);have q4:d/(g:Int)≤d:=Int.ediv_le_self _ (by omega);have ed:u64.wrap (Int.tdiv (u64.wrap d) (g:Int))=d/(g:Int):=by rw [aU (n:=d) ⟨by omega,by omega⟩,uJ (by omega),aU ⟨by omega,by omega⟩]
  have eb:u64.wrap (Int.tdiv (u64.wrap b) (g:Int))=b/(g:Int):=by rw [aU (n:=b) ⟨by omega,by omega⟩,uJ (by omega),aU ⟨by omega,by omega⟩]
  have yiJ:∀ {c:Bool} {P:Prop},c=true→P→asr c P:=fun h p=>by rw [h,gC];exact p
  rw [BA ha];refine yiJ n3 ?_;rw [Dy (gJ.abs ha) (by rw [ed];exact ⟨by omega,by omega⟩),BA hc];refine yiJ n3 ?_;rw [Dy (gJ.abs hc) (by rw [eb];exact ⟨by omega,by omega⟩)];obtain ⟨X,hX⟩:∃ X,X=((a.natAbs:Nat):Int)*u64.wrap (Int.tdiv (u64.wrap d) (g:Int)):=⟨_,rfl⟩;obtain ⟨Y,hY⟩:∃ Y,Y=((c.natAbs:Nat):Int)*u64.wrap (Int.tdiv (u64.wrap b) (g:Int)):=⟨_,rfl⟩;rw [← hX,← hY];rw [ed] at hX;rw [eb] at hY;have X0:0≤X:=by rw [hX];exact kP (by omega) q2
  have Y0:0≤Y:=by rw [hY];exact kP (by omega) q1
  have X1:X≤1000000000000000000*1000000000000000000:=by rw [hX];exact nL (by omega) (by omega) q2 (by omega)
  have Y1:Y≤1000000000000000000*1000000000000000000:=by rw [hY];exact nL (by omega) (by omega) q1 (by omega)
  have ax:a*(d/(g:Int))=if a<0 then -X else X:=by
   split
   ·rw [hX,show ((a.natAbs:Nat):Int)=-a by omega,Int.neg_mul,Int.neg_neg]
   ·rw [hX,show ((a.natAbs:Nat):Int)=a by omega]
  have cy:c*(b/(g:Int))=if c<0 then -Y else Y:=by
   split
   ·rw [hY,show ((c.natAbs:Nat):Int)=-c by omega,Int.neg_mul,Int.neg_neg]
   ·rw [hY,show ((c.natAbs:Nat):Int)=c by omega]
  rw [ax,cy] at k;clear hX hY ax cy ed eb n3
  by_cases hs:decide (a<0)=decide (c<0)
  ·have e:(decide (a<0)==decide (c<0))=true:=beq_iff_eq.2 hs;rw [e,bL];refine yF5 X0 Y0 (by omega) (fun c1 c2=>?_);refine Jn (by omega) (by omega) g1 (by omega) ⟨by omega,b2⟩ ⟨by omega,d2⟩ (TD k ?_ ?_)
   ·by_cases h1:a<0
    ·have h2:c<0:=by simpa [h1] using hs.symm
     rw [VX h1,VX h2];omega
    ·have h2:¬c<0:=by simpa [h1] using hs.symm
     rw [VY h1,VY h2];omega
   ·intro h0
    by_cases h1:a<0
    ·have h2:c<0:=by simpa [h1] using hs.symm
     rw [VX h1,VX h2,Eo h1,Eo (by omega)]
    ·have h2:¬c<0:=by simpa [h1] using hs.symm
     rw [VY h1,VY h2,Os h1,Os (by omega)]
  ·have e:(decide (a<0)==decide (c<0))=false:=beq_eq_false_iff_ne.2 hs;rw [e,bQ];have h12:(a<0∧¬c<0)∨(¬a<0∧c<0):=by
    by_cases h1:a<0<;>by_cases h2:c<0<;>simp [h1,h2] at hs ⊢
   by_cases hlt:X<Y
   ·have kk:jS (!decide (a<0)) (Y-X) b d g K:=by
     refine TD k ?_ ?_
     ·rcases h12 with ⟨h1,h2⟩ | ⟨h1,h2⟩
      ·rw [VX h1,VY h2];omega
      ·rw [VY h1,VX h2];omega
     ·intro h0;rcases h12 with ⟨h1,h2⟩ | ⟨h1,h2⟩
      ·rw [VX h1,VY h2,Eo h1,Os (by omega)];rfl
      ·rw [VY h1,VX h2,Os h1,Eo (by omega)];rfl
    by_cases h1:X/18446744073709551616<Y/18446744073709551616
    ·rw [Eo h1,bL];refine MB X0 (by omega) (by omega) (fun c1 c2=>?_);exact Jn (by omega) (by omega) g1 (by omega) ⟨by omega,b2⟩ ⟨by omega,d2⟩ kk
    ·have e1:(X/18446744073709551616==Y/18446744073709551616)=true:=beq_iff_eq.2 (by omega);rw [Os h1,bQ,e1,bL,Eo (show X%18446744073709551616<Y%18446744073709551616 by have:=beq_iff_eq.1 e1;omega),bL];refine MB X0 (by omega) (by omega) (fun c1 c2=>?_);exact Jn (by omega) (by omega) g1 (by omega) ⟨by omega,b2⟩ ⟨by omega,d2⟩ kk
   ·have kk:jS (decide (a<0)) (X-Y) b d g K:=by
     refine TD k ?_ ?_
     ·rcases h12 with ⟨h1,h2⟩ | ⟨h1,h2⟩
      ·rw [VX h1,VY h2];omega
      ·rw [VY h1,VX h2];omega
     ·intro h0;rcases h12 with ⟨h1,h2⟩ | ⟨h1,h2⟩
      ·rw [VX h1,VY h2,Eo h1,Eo (by omega)]
      ·rw [VY h1,VX h2,Os h1,Os (by omega)]
    have h1:¬X/18446744073709551616<Y/18446744073709551616:=by omega
    rw [Os h1,bQ]
    cases e1:(X/18446744073709551616==Y/18446744073709551616)
    ·rw [bQ];refine MB Y0 (by omega) (by omega) (fun c1 c2=>?_);exact Jn (by omega) (by omega) g1 (by omega) ⟨by omega,b2⟩ ⟨by omega,d2⟩ kk
    ·rw [bL,Os (show ¬X%18446744073709551616<Y%18446744073709551616 by have:=beq_iff_eq.1 e1;omega),bQ];refine MB Y0 (by omega) (by omega) (fun c1 c2=>?_);exact Jn (by omega) (by omega) g1 (by omega) ⟨by omega,b2⟩ ⟨by omega,d2⟩ kk
 ·rw [VY h] at k;have:(cI a b c d !=(0:Int))=true:=by rw [bne_iff_ne];exact h
  rw [this,bL];exact k
theorem RV.neg {c d:Int} (h:RV c d):RV (-c) d:=by obtain ⟨d1,d2,c1,c2,g⟩:=h;exact ⟨d1,d2,by omega,by omega,by rw [Int.natAbs_neg];exact g⟩
theorem yKw {a b c d:Int} (ha:cL a) (hb:cL b) (hc:cL c) (hd:cL d) {K:Int→Int→Int→Prop}
  (k:if cI a b c d=0 then jS (decide (a*(d/(Nat.gcd b.natAbs d.natAbs:Nat))+-c*(b/(Nat.gcd b.natAbs d.natAbs:Nat))<0))
    ((a*(d/(Nat.gcd b.natAbs d.natAbs:Nat))+-c*(b/(Nat.gcd b.natAbs d.natAbs:Nat))).natAbs:Int) b d (Nat.gcd b.natAbs d.natAbs) K
   else K 0 0 (cI a b c d)):qZ a b c d K:=by
 unfold qZ Ri;refine Jm ha hb hc hd ?_
 by_cases h:cI a b c d=0
 ·rw [VX h] at k;have:(cI a b c d !=(0:Int))=false:=by rw [h];rfl
  rw [this,bQ];obtain ⟨hab,hcd⟩:=zZ.1 h;obtain ⟨d1,d2,c1,c2,_⟩:=id hcd;rw [gB (n:=0-c) ⟨by omega,by omega⟩,Int.zero_sub];refine K8 ha hb ⟨by omega,by omega⟩ hd ?_;rw [VX (zZ.2 ⟨hab,hcd.neg⟩)];exact k
 ·rw [VY h] at k;have:(cI a b c d !=(0:Int))=true:=by rw [bne_iff_ne];exact h
  rw [this,bL];exact k
def aB (l:List Int):List PV:=l.map (PV.int .i64)
theorem cN (l:List Int):(aB l).length=l.length:=jH ..
theorem K9 {l:List Int} {i:Nat} (h:i<l.length):getD (aB l) i .nils=.int .i64 (l.getD i 0):=by unfold aB;rw [cO,cO,rT,bY h];rfl
theorem dW {l:List Int} {i:Nat} (h:i<l.length):aS (getD (aB l) i .nils)=l.getD i 0:=by rw [K9 h];rfl
theorem BC {l:List Int} {i:Nat} (h:i<l.length):aJ zI (getD (aB l) i .nils)=true:=by rw [K9 h];rfl
theorem yiJ {c:Bool} {P:Prop} (h:c=true) (p:P):asr c P:=by rw [h,gC];exact p
theorem wS {c:Prop} [Decidable c] {P:Prop} (h:c) (p:P):asr (decide c) P:=yiJ (Eo h) p
theorem MC {c:Prop} [Decidable c] {P Q:Prop} (h:c) (p:P):aG (decide c) P Q:=by rw [Eo h,bL];exact p
theorem GC {c:Prop} [Decidable c] {P Q:Prop} (h:¬c) (q:Q):aG (decide c) P Q:=by rw [Os h,bQ];exact q
def Jo (m x:Int):Int:=if x<m then x else m
theorem yF7 {l:List Int} (hl:l.length<9223372036854775807) (x0:List PV→Int→Int→Bool→Prop) :
  ∀ (rest:List Int) (i:Nat) (m:Int) (n:Nat),l.drop i=rest→i≤l.length→rest.length<n→x0 (aB l) (rest.foldl Jo m) (l.length:Int) false →
   Ga x0 n (aB l) m (i:Int):=by
 intro rest;induction rest with
 | nil=>
  intro i m n hd hi hn k;have:i=l.length:=by
   have:=Aaa length hd;rw [lU] at this;have h2:([]:List Int).length=0:=rfl;omega
  match n,hn with
  | n+1,_ =>unfold Ga;rw [cN,this];exact GC (by omega) k
 | cons x t ih=>
  intro i m n hd hi hn k;have hlt:i<l.length:=by
   have:=Aaa length hd;rw [lU,gS] at this;omega
  have hx:l.getD i 0=x:=by have:=List.getElem_drop (xs:=l) (i:=i) (j:=0) (h:=by rw [hd];exact Ef _);rw [cO,bY hlt];simp only [hd,List.getElem_cons_zero,vH] at this;exact this.symm
  have ht:l.drop (i+1)=t:=by rw [← List.tail_drop,hd];rfl
  match n,hn with
  | n+1,hn =>unfold Ga;rw [cN];refine MC (by omega) ?_;refine wS (by omega) (wS (by omega) (yiJ (BC (by omega)) ?_));rw [dL,dW hlt,hx,gB (n:=(i:Int)+1) ⟨by omega,by omega⟩];exact ih (i+1) _ n ht (by omega) (by rw [gS] at hn;omega) k
theorem yKx {l:List Int} (hl:l.length<9223372036854775807) {x:Int} {t:List Int} (e:l=x::t) {K:Int→Prop} (k:K (t.foldl Jo x)):Gb (aB l) K:=by
 have h0:0<l.length:=by rw [e];exact Ef _
 unfold Gb Rz;rw [cN];refine GC (by omega) (wS (by omega) (yiJ (BC h0) ⟨l.length+1,?_⟩));have e0:l.getD 0 0=x:=by rw [e];rfl
 rw [dW h0,e0];refine yF7 hl _ t 1 x _ (by rw [e];rfl) (by omega) (by rw [e,gS];omega) ?_;exact k
def Aa (m x:Int):Int:=if x>m then x else m
theorem yF8 {l:List Int} (hl:l.length<9223372036854775807) (x0:List PV→Int→Int→Bool→Prop) :
  ∀ (rest:List Int) (i:Nat) (m:Int) (n:Nat),l.drop i=rest→i≤l.length→rest.length<n→x0 (aB l) (rest.foldl Aa m) (l.length:Int) false →
   Gc x0 n (aB l) m (i:Int):=by
 intro rest;induction rest with
 | nil=>
  intro i m n hd hi hn k;have:i=l.length:=by
   have:=Aaa length hd;rw [lU] at this;have h2:([]:List Int).length=0:=rfl;omega
  match n,hn with
  | n+1,_ =>unfold Gc;rw [cN,this];exact GC (by omega) k
 | cons x t ih=>
  intro i m n hd hi hn k;have hlt:i<l.length:=by
   have:=Aaa length hd;rw [lU,gS] at this;omega
  have hx:l.getD i 0=x:=by have:=List.getElem_drop (xs:=l) (i:=i) (j:=0) (h:=by rw [hd];exact Ef _);rw [cO,bY hlt];simp only [hd,List.getElem_cons_zero,vH] at this;exact this.symm
  have ht:l.drop (i+1)=t:=by rw [← List.tail_drop,hd];rfl
  match n,hn with
  | n+1,hn =>unfold Gc;rw [cN];refine MC (by omega) ?_;refine wS (by omega) (wS (by omega) (yiJ (BC (by omega)) ?_));rw [dL,dW hlt,hx,gB (n:=(i:Int)+1) ⟨by omega,by omega⟩];exact ih (i+1) _ n ht (by omega) (by rw [gS] at hn;omega) k
theorem L6 {l:List Int} (hl:l.length<9223372036854775807) {x:Int} {t:List Int} (e:l=x::t) {K:Int→Prop} (k:K (t.foldl Aa x)):Gd (aB l) K:=by
 have h0:0<l.length:=by rw [e];exact Ef _
 unfold Gd RB;rw [cN];refine GC (by omega) (wS (by omega) (yiJ (BC h0) ⟨l.length+1,?_⟩));have e0:l.getD 0 0=x:=by rw [e];rfl
 rw [dW h0,e0];refine yF8 hl _ t 1 x _ (by rw [e];rfl) (by omega) (by rw [e,gS];omega) ?_;exact k
def uK (l:List Int) (i:Nat):Prop:=∀ j,i≤j→j+1<l.length→l.getD j 0<l.getD (j+1) 0
theorem yBP {l:List Int} {p2:List PV} {p0:Int} (hl:l.length<9223372036854775807) (W1 W2:List PV→(Int→Prop)→Prop) (x0:Int→Prop) (x1:Int→List PV→List PV→Int→Int→Bool→Prop) :
  ∀ (r i n:Nat),i+r+1=l.length→r<n→(uK l i→x1 p0 (aB l) p2 ((l.length:Int)-1) ((l.length:Int)-1) false)→(¬uK l i→x0 8) →
   Ge W1 W2 x0 x1 n p0 (aB l) p2 ((l.length:Int)-1) (i:Int):=by
 intro r;induction r with
 | zero=>
  intro i n hi hn k _
  match n,hn with
  | n+1,_=>
   unfold Ge;have e:(i:Int)=(l.length:Int)-1:=by omega
   refine GC (by omega) ?_;rw [e];exact k (fun j h1 h2=>by omega)
 | succ r ih=>
  intro i n hi hn k k0
  match n,hn with
  | n+1,hn=>
   unfold Ge;rw [gB (n:=(i:Int)+1) ⟨by omega,by omega⟩,cN];have e1:((i:Int)+1)=((i+1:Nat):Int):=by omega
   rw [e1,dL,dL];refine MC (by omega) (wS (by omega) (wS (by omega) (yiJ (BC (by omega)) (wS (by omega) (wS (by omega) (yiJ (BC (by omega)) ?_))))));rw [dW (by omega),dW (by omega)]
   by_cases h:l.getD i 0≥l.getD (i+1) 0
   ·exact MC h (k0 fun hc=>absurd (hc i (bV _) (by omega)) (by omega))
   ·refine GC h (ih (i+1) n (by omega) (by omega) (fun hc=>k fun j h1 h2=>?_) (fun hc=>k0 fun hd=>hc fun j h1 h2=>hd j (by omega) h2))
    by_cases hj:j=i
    ·subst hj;omega
    ·exact hc j (by omega) h2
def small (q:Rat):Prop:=-1000000000000000000≤q.num∧q.num≤1000000000000000000∧(q.den:Int)≤1000000000000000000
instance (q:Rat):Decidable (small q):=by unfold small;infer_instance
theorem small.rv {q:Rat} (h:small q):RV q.num q.den:=by obtain ⟨h1,h2,h3⟩:=h;have:=q.den_pos;exact ⟨by omega,h3,h1,h2,q.reduced⟩
theorem TE {n d:Int} (h:RV n d):∃ q:Rat,small q∧q.num=n∧(q.den:Int)=d:=by
 obtain ⟨h1,h2,h3,h4,h5⟩:=h;refine ⟨⟨n,d.toNat,by omega,?_⟩,⟨h3,h4,by show ((d.toNat:Nat):Int)≤_;omega⟩,rfl,by show ((d.toNat:Nat):Int)=_;omega⟩;have:d.natAbs=d.toNat:=by omega
 rw [this] at h5;exact h5
theorem small.i1 {q:Rat} (h:small q):cL q.num:=⟨by have:=h.1;omega,by have:=h.2.1;omega⟩
theorem small.i2 {q:Rat} (h:small q):cL (q.den:Int):=⟨by omega,by have:=h.2.2;omega⟩
theorem GD {q r:Rat} (h:small q) (k:small r):cI q.num q.den r.num r.den=0:=zZ.2 ⟨h.rv,k.rv⟩
def fitK (q:Rat) (K:Int→Int→Int→Prop):Prop:=if small q then K q.num q.den 0 else K 0 0 16
theorem L7 {q:Rat} {s:Bool} {a b:Int} (ha:a=(q.num.natAbs:Int)) (hb:b=(q.den:Int)) (hs:q.num≠0→s=decide (q.num<0)) (K:Int→Int→Int→Prop):jA s a b K=fitK q K:=by
 unfold jA fitK;subst ha hb
 by_cases h:small q
 ·have h':=h;obtain ⟨h1,h2,h3⟩:=h;rw [VX (show _∧_ from ⟨by omega,h3⟩),VX h'];have e:(if s=true then -((q.num.natAbs:Nat):Int) else ((q.num.natAbs:Nat):Int))=q.num:=by
   by_cases h0:q.num=0
   ·rw [h0];cases s<;>rfl
   ·rw [hs h0]
    by_cases h1:q.num<0
    ·rw [Eo h1,VX rfl];omega
    ·rw [Os h1,VY (by simp)];omega
  rw [e]
 ·rw [VY h,VY];intro h2;exact h ⟨by omega,by omega,h2.2⟩
theorem L8 (x:Int) (g:Nat):(Int.tdiv x g).natAbs=x.natAbs/g:=by rw [Int.natAbs_tdiv,GZ];rfl
theorem L9 {x:Int} {g:Nat} (h:(g:Int)∣x) (hx:x≠0):decide (Int.tdiv x g<0)=decide (x<0):=by
 obtain ⟨k,rfl⟩:=h;have hg:(g:Int)≠0:=fun e=>hx (by rw [e,Int.zero_mul])
 rw [Int.mul_tdiv_cancel_left _ hg];have h1:(g:Int)>0:=by have:=Ha g;omega
 have:(g:Int)*k<0↔k<0:=by
  constructor
  ·intro h;refine Int.not_le.1 fun hk=>?_
   have:=kP (show 0≤(g:Int) by omega) hk;omega
  ·intro h;exact Int.mul_neg_of_pos_of_neg h1 h
 simp only [this]
theorem yEx (q r:Rat):(q*r).num=Int.tdiv q.num (Nat.gcd q.num.natAbs r.den)*Int.tdiv r.num (Nat.gcd r.num.natAbs q.den) ∧
  (q*r).den=(q.den/Nat.gcd r.num.natAbs q.den)*(r.den/Nat.gcd q.num.natAbs r.den):=by
 have e:q*r=Rat.mul q r:=rfl;rw [e]
 delta Rat.mul
 constructor
 ·simp only [Int.divExact_eq_tdiv]
 ·simp only [Nat.divExact_eq_div]
theorem Jp (x:Int) (d:Nat):((Nat.gcd x.natAbs d:Nat):Int)∣x:=by rw [← Int.dvd_natAbs,Int.ofNat_dvd];exact Nat.gcd_dvd_left _ _
theorem M3 {x:Int} {g:Nat} (h:(g:Int)∣x) (hx:x≠0):Int.tdiv x g≠0:=by
 obtain ⟨k,rfl⟩:=h;have hg:(g:Int)≠0:=fun e=>hx (by rw [e,Int.zero_mul])
 rw [Int.mul_tdiv_cancel_left _ hg];intro e;rw [e,Int.mul_zero] at hx;exact hx rfl
theorem yGa {x y:Int} (hx:x≠0) (hy:y≠0):decide (x*y<0)=(decide (x<0) !=decide (y<0)):=by
 by_cases h1:x<0<;>by_cases h2:y<0
 ·have:=Int.mul_pos_of_neg_of_neg h1 h2;simp [h1,h2];omega
 ·have:=DY h1 (show 0<y by omega);simp [h1,h2];omega
 ·have:=Int.mul_neg_of_pos_of_neg (show 0<x by omega) h2;simp [h1,h2];omega
 ·have:=Int.mul_pos (show 0<x by omega) (show 0<y by omega);simp [h1,h2];omega
theorem M4 (q r:Rat) (K:Int→Int→Int→Prop):jA (decide (q.num<0) !=decide (r.num<0)) (oW q.num r.num q.den r.den) (oY q.num r.num q.den r.den) K=fitK (q*r) K:=by
 obtain ⟨e1,e2⟩:=yEx q r;refine L7 ?_ ?_ ?_ K
 ·rw [e1,Int.natAbs_mul,L8,L8];simp only [oW,GZ]
 ·rw [e2];simp only [oY,GZ]
 ·intro h;rw [e1] at h ⊢;have h1:q.num≠0:=fun e=>h (by rw [e,Int.zero_tdiv,Int.zero_mul])
  have h2:r.num≠0:=fun e=>h (by rw [e,Int.zero_tdiv,Int.mul_zero])
  rw [yGa (M3 (Jp _ _) h1) (M3 (Jp _ _) h2),L9 (Jp _ _) h1,L9 (Jp _ _) h2]
theorem MD {w:(Int→Int→Int→Prop)→Prop} {q:Rat} (det:∀ r0 r1 r2,(∀ K:Int→Int→Int→Prop,K r0 r1 r2→w K)→∀ K,w K=K r0 r1 r2) (h:∀ K,fitK q K→w K) (K:Int→Int→Int→Prop):w K=fitK q K:=by
 unfold fitK at h ⊢
 by_cases hs:small q
 ·simp only [VX hs] at h ⊢;exact det _ _ _ h K
 ·simp only [VY hs] at h ⊢;exact det _ _ _ h K
theorem Jq {q r:Rat} (hq:small q) (hr:small r) (K:Int→Int→Int→Prop):nE q.num q.den r.num r.den K=fitK (q*r) K:=
 MD (fun r0 r1 r2 h K=>qr _ _ _ _ r0 r1 r2 h K) (fun K k=>TB hq.i1 hq.i2 hr.i1 hr.i2 (by rw [VX (GD hq hr),M4];exact k)) K
theorem yEy {r:Rat} (h:r≠0):(r⁻¹).num=(if r.num<0 then -(r.den:Int) else r.den)∧(r⁻¹).den=r.num.natAbs:=by
 have h0:r.num≠0:=fun e=>h (Rat.num_eq_zero.1 e)
 constructor
 ·rw [Rat.num_inv]
  by_cases h1:r.num<0
  ·rw [VX h1,Int.sign_eq_neg_one_of_neg h1];omega
  ·rw [VY h1,Int.sign_eq_one_of_pos (by omega)];omega
 ·rw [Rat.den_inv,VY h0]
theorem ME {q r:Rat} (hq:small q) (hr:small r) (h0:r≠0) (K:Int→Int→Int→Prop):rB q.num q.den r.num r.den K=fitK (q/r) K:=by
 have hn:r.num≠0:=fun e=>h0 (Rat.num_eq_zero.1 e)
 refine MD (fun r0 r1 r2 h K=>qu _ _ _ _ r0 r1 r2 h K) (fun K k=>yKv hq.i1 hq.i2 hr.i1 hr.i2 ?_) K;rw [VX (GD hq hr),VY hn];rw [Rat.div_def,← M4] at k;obtain ⟨e1,e2⟩:=yEy h0;rw [e1,e2] at k;have s:decide ((if r.num<0 then -(r.den:Int) else (r.den:Int))<0)=decide (r.num<0):=by
  have:=r.den_pos;split
  ·rename_i h;simp only [h];simp;omega
  ·rename_i h;simp only [h];simp
 rw [s] at k;have hd:(if r.num<0 then -(r.den:Int) else (r.den:Int)).natAbs=r.den:=by split<;>omega
 unfold oW oY at k ⊢;simp only [hd,GZ] at k ⊢;exact k
theorem yEz (q r:Rat):(q+r).num=(q.num*(r.den/Nat.gcd q.den r.den:Nat)+r.num*(q.den/Nat.gcd q.den r.den:Nat))/(Nat.gcd (q.num*(r.den/Nat.gcd q.den r.den:Nat)+r.num*(q.den/Nat.gcd q.den r.den:Nat)).natAbs (Nat.gcd q.den r.den):Nat) ∧
  (q+r).den=(q.den/Nat.gcd q.den r.den)*r.den/Nat.gcd (q.num*(r.den/Nat.gcd q.den r.den:Nat)+r.num*(q.den/Nat.gcd q.den r.den:Nat)).natAbs (Nat.gcd q.den r.den):=by
 have e:q+r=Rat.add q r:=rfl;rw [e]
 delta Rat.add
 by_cases hg:q.den.gcd r.den=1
 ·simp only [hg,dif_pos,Nat.div_one,Nat.gcd_one_right,Int.natCast_one,Int.ediv_one,and_self]
 ·simp only [hg,dif_neg,not_false_eq_true,Rat.maybeNormalize_eq];constructor
  ·first | rfl | simp only [Int.divExact_eq_tdiv]
  ·first | rfl | simp only []
theorem yGb {q r:Rat} {Z:Int} {g:Nat} (e1:(q+r).num=Z/(Nat.gcd Z.natAbs g:Nat)) (e2:(q+r).den=(q.den/g)*r.den/Nat.gcd Z.natAbs g) (hgp:0<g) (hgd:g∣r.den) (K:Int→Int→Int→Prop) :
  jS (decide (Z<0)) (Z.natAbs:Int) q.den r.den g K=fitK (q+r) K:=by
 unfold jS
 by_cases h0:Z=0
 ·subst h0;have:(q+r)=0:=by
   apply Rat.num_eq_zero.1;rw [e1];simp
  rw [this,VX (by rfl)];unfold fitK;rw [VX (by decide)];rfl
 ·have hne:¬((Z.natAbs:Nat):Int)=0:=by omega
  rw [VY hne];have hdv:((Nat.gcd Z.natAbs g:Nat):Int)∣Z:=Jp _ _;have hhp:0<Nat.gcd Z.natAbs g:=DZ _ hgp;have hhg:Nat.gcd Z.natAbs g∣r.den:=Nat.dvd_trans (Hc _ _) hgd;refine L7 ?_ ?_ ?_ K
  ·rw [e1,Int.natAbs_ediv_of_dvd hdv];simp
  ·rw [e2];simp only [dL];rw [Nat.mul_div_assoc _ hhg]
  ·intro h;rw [e1];obtain ⟨k,hk⟩:=hdv;revert hhp hk;generalize Nat.gcd Z.natAbs g=h;intro hhp hk;have e:Z/(h:Int)=k:=by rw [hk,Int.mul_ediv_cancel_left _ (by omega)]
   rw [e];have:Z<0↔k<0:=by
    rw [hk];constructor
    ·intro hk;refine Int.not_le.1 fun hk2=>?_
     have:=kP (show 0≤(h:Int) by omega) hk2;omega
    ·intro hk;exact Int.mul_neg_of_pos_of_neg (by omega) hk
   simp only [this]
theorem M5 (q r:Rat) (K:Int→Int→Int→Prop) :
  jS (decide (q.num*((r.den:Int)/(Nat.gcd (q.den:Int).natAbs (r.den:Int).natAbs:Nat))+r.num*((q.den:Int)/(Nat.gcd (q.den:Int).natAbs (r.den:Int).natAbs:Nat))<0))
   ((q.num*((r.den:Int)/(Nat.gcd (q.den:Int).natAbs (r.den:Int).natAbs:Nat))+r.num*((q.den:Int)/(Nat.gcd (q.den:Int).natAbs (r.den:Int).natAbs:Nat))).natAbs:Int) q.den r.den (Nat.gcd (q.den:Int).natAbs (r.den:Int).natAbs) K=fitK (q+r) K:=by
 obtain ⟨e1,e2⟩:=yEz q r;rw [uY,uY] at e1 e2;exact yGb e1 e2 (Nat.gcd_pos_of_pos_left _ q.den_pos) (Hc _ _) K
theorem MF {q r:Rat} (hq:small q) (hr:small r) (K:Int→Int→Int→Prop):qY q.num q.den r.num r.den K=fitK (q+r) K:=
 MD (fun r0 r1 r2 h K=>qp _ _ _ _ r0 r1 r2 h K) (fun K k=>K8 hq.i1 hq.i2 hr.i1 hr.i2 (by rw [VX (GD hq hr),M5];exact k)) K
theorem MG {q r:Rat} (hq:small q) (hr:small r) (K:Int→Int→Int→Prop):qZ q.num q.den r.num r.den K=fitK (q-r) K:=
 MD (fun r0 r1 r2 h K=>qq _ _ _ _ r0 r1 r2 h K) (fun K k=>yKw hq.i1 hq.i2 hr.i1 hr.i2 (by
  rw [VX (GD hq hr)];rw [Rat.sub_eq_add_neg,← M5] at k;exact k)) K
def uL (q r:Rat):Int:=if q<r then -1 else if r<q then 1 else 0
theorem yHU (q r:Rat):oV q.num q.den r.num r.den=uL q r:=by unfold oV gP uL;simp only [Rat.lt_iff]
theorem M6 {q r:Rat} (hq:small q) (hr:small r) (K:Int→Int→Prop):Bv q.num q.den r.num r.den K=K (uL q r) 0:=
 qv _ _ _ _ _ _ (fun K k=>yKr hq.i1 hq.i2 hr.i1 hr.i2 (by rw [GD hq hr,VX rfl,yHU];exact k)) K
theorem TF {n d:Int} (hn:cL n) (hd:cL d) (K:Int→Prop):nD n d K=K (kU n d):=
 qo _ _ _ (fun K k=>Tz hn hd k) K
theorem TG {p:Int} (h:cL p) (K:Int→Prop):Jb p K=K (p.natAbs:Int):=by
 unfold cL at h;unfold Jb Sa
 by_cases hp:p<0
 ·have e0:i64.wrap (p+1)=p+1:=gB ⟨by omega,by omega⟩;have e1:i64.wrap ((0:Int)-(p+1))=-(p+1):=by rw [gB ⟨by omega,by omega⟩];omega
  have e2:u64.wrap (-(p+1))=-(p+1):=aU ⟨by omega,by omega⟩;have e3:u64.wrap (-(p+1)+1)=(p.natAbs:Int):=by rw [aU ⟨by omega,by omega⟩];omega
  rw [Eo hp,bL,e0,e1,e2,e3]
 ·rw [Os hp,bQ,aU ⟨by omega,by omega⟩];congr 1;omega
theorem M7 (x:Int→Int→Bool→Prop):∀ (n a b:Nat),b<n→Jc x n (a:Int) (b:Int)=x ((Nat.gcd a b:Nat):Int) 0 false
 | 0,a,b,h=>by omega
 | n+1,a,b,h=>by
  unfold Jc
  by_cases hb:b=0
  ·subst hb;simp [aG]
  ·have h1:((b:Int) !=0)=true:=by simp;omega
   have h2:¬((b:Int)=0):=by omega
   rw [h1,bL,Os h2,AD,gC];have e:Int.tmod (a:Int) (b:Int)=((a%b:Nat):Int):=by rw [Int.tmod_eq_emod_of_nonneg (by omega)];omega
   rw [e,M7 x n b (a%b) (by have:=Nat.mod_lt a (show b>0 by omega);omega)];rw [xN a b,Nat.gcd_rec b a,xN]
theorem yHV (a b:Nat) (K:Int→Prop):Gi (a:Int) (b:Int) K=K ((Nat.gcd a b:Nat):Int):=by refine vi _ _ _ (fun K h=>?_) K;unfold Gi Sb;exact ⟨b+1,by rw [M7 _ (b+1) a b (by omega)];exact h⟩
theorem TH {a b:Int} (h:a=b):(a !=b)=false:=by simp [h]
theorem TI {a b:Int} (h:a≠b):(a !=b)=true:=by simp [h]
theorem MH {a b:Int} (h:a≠b):(a==b)=false:=by simp [h]
theorem TJ {a b:Int} (h:a=b):(a==b)=true:=by simp [h]
theorem TK {n d:Int} (hn:cL n) (hd:cL d) (K:Int→Prop):Mq n d K=K (kU n d):=by
 unfold Mq Sd
 by_cases h1:d<1
 ·rw [Eo h1,bL,kU,VY (fun h=>by have:=h.1;omega)]
 ·rw [Os h1,bQ]
  by_cases h2:d>1000000000000000000
  ·rw [Eo h2,bL,kU,VY (fun h=>by have:=h.2.1;omega)]
  ·rw [Os h2,bQ]
   by_cases h3:n < -1000000000000000000
   ·rw [Eo h3,bL,kU,VY (fun h=>by have:=h.2.2.1;omega)]
   ·rw [Os h3,bQ]
    by_cases h4:n>1000000000000000000
    ·rw [Eo h4,bL,kU,VY (fun h=>by have:=h.2.2.2.1;omega)]
    ·have ed:u64.wrap d=((d.natAbs:Nat):Int):=by rw [aU ⟨by omega,by omega⟩];omega
     rw [Os h4,bQ,TG hn,ed,yHV]
     by_cases h5:Nat.gcd n.natAbs d.natAbs=1
     ·rw [h5,TH (by rfl),bQ,kU,VX ⟨by omega,by omega,by omega,by omega,h5⟩]
     ·rw [TI (by omega),bL,kU,VY (fun h=>h5 h.2.2.2.2)]
theorem yGf {a b c d:Int} (ha:cL a) (hb:cL b) (hc:cL c) (hd:cL d) (K:Int→Prop):Gj a b c d K=K (cI a b c d):=by
 unfold Gj Sf;rw [TK ha hb,TK ha hb,TK hc hd,cI]
 by_cases h:kU a b=0
 ·rw [TH h,bQ,VX h]
 ·rw [TI h,bL,VY h]
theorem TL {m s:Int} (hm:0≤m) (hs:0≤s∧s<4294967296):u64.wrap (BitVec.ofInt u64.bits (u64.wrap (m*4294967296))|||BitVec.ofInt u64.bits s).toNat=m%4294967296*4294967296+s:=by
 have e:u64.wrap (m*4294967296)=m%4294967296*2 ^ 32:=by rw [zX];omega
 rw [e,K2 (k:=32) (by omega) ⟨hs.1,by omega⟩ ⟨by omega,by omega⟩ (by omega)];omega
theorem yGg {a b:Int} (ha:gJ a) (hb:gJ b) (K:Int→Int→Prop):Jd a b K=K (a*b/18446744073709551616) (a*b%18446744073709551616):=by
 unfold Jd Si;simp only [J7];rw [zY ha,zY hb];unfold gJ at ha hb;have ha':=ha;have hb':=hb;obtain ⟨x1,hx1⟩:∃ x,x=a/4294967296:=⟨_,rfl⟩;obtain ⟨x0,hx0⟩:∃ x,x=a%4294967296:=⟨_,rfl⟩;obtain ⟨y1,hy1⟩:∃ x,x=b/4294967296:=⟨_,rfl⟩;obtain ⟨y0,hy0⟩:∃ x,x=b%4294967296:=⟨_,rfl⟩;rw [← hx1,← hx0,← hy1,← hy0];have b1:0≤x1∧x1≤4294967295:=by omega
 have b2:0≤x0∧x0≤4294967295:=by omega
 have b3:0≤y1∧y1≤4294967295:=by omega
 have b4:0≤y0∧y0≤4294967295:=by omega
 have pb:∀ x y:Int,0≤x∧x≤4294967295→0≤y∧y≤4294967295→0≤x*y∧x*y≤18446744065119617025:=by intro x y hx hy;refine ⟨kP hx.1 hy.1,?_⟩;have:=nL hx.2 hy.2 hy.1 (by omega:(0:Int)≤4294967295);omega
 have p1:=pb x1 y1 b1 b3;have p2:=pb x1 y0 b1 b4;have p3:=pb x0 y1 b2 b3;have p4:=pb x0 y0 b2 b4;have ea:a=x1*4294967296+x0:=by omega
 have eb:b=y1*4294967296+y0:=by omega
 have eab:a*b=x1*y1*18446744073709551616+x1*y0*4294967296+x0*y1*4294967296+x0*y0:=by rw [ea,eb];grind
 obtain ⟨P,hP⟩:∃ x,x=x1*y1:=⟨_,rfl⟩;obtain ⟨Q,hQ⟩:∃ x,x=x1*y0:=⟨_,rfl⟩;obtain ⟨R,hR⟩:∃ x,x=x0*y1:=⟨_,rfl⟩;obtain ⟨S,hS⟩:∃ x,x=x0*y0:=⟨_,rfl⟩;rw [← hP] at p1;rw [← hQ] at p2;rw [← hR] at p3;rw [← hS] at p4;rw [← hP,← hQ,← hR,← hS] at eab ⊢;have w1:u64.wrap S=S:=aU ⟨by omega,by omega⟩;have w2:u64.wrap Q=Q:=aU ⟨by omega,by omega⟩;have w3:u64.wrap R=R:=aU ⟨by omega,by omega⟩;have w4:u64.wrap P=P:=aU ⟨by omega,by omega⟩;rw [w1,w2,w3,w4,zY (p:=Q) ⟨by omega,by omega⟩,zY (p:=S) ⟨by omega,by omega⟩];have w5:u64.wrap (Q%4294967296+R)=Q%4294967296+R:=aU ⟨by omega,by omega⟩;rw [w5];have w6:u64.wrap (Q%4294967296+R+S/4294967296)=Q%4294967296+R+S/4294967296:=aU ⟨by omega,by omega⟩;rw [w6,TL (by omega) ⟨by omega,by omega⟩];have hab:a*b≤18446744073709551615*18446744073709551615:=nL ha'.2 hb'.2 hb'.1 (by omega:(0:Int)≤18446744073709551615);rw [eab] at hab ⊢;have w7:u64.wrap (P+Q/4294967296)=P+Q/4294967296:=aU ⟨by omega,by omega⟩;rw [w7,aU ⟨by omega,by omega⟩];congr 1<;>omega
theorem M8 {X Y:Int} (hx:0≤X) (hy:0≤Y) (K:Bool→Prop) :
  Mr (X/18446744073709551616) (X%18446744073709551616) (Y/18446744073709551616) (Y%18446744073709551616) K=K (decide (X<Y)):=by
 unfold Mr Sk
 by_cases h:X/18446744073709551616<Y/18446744073709551616
 ·rw [Eo h,bL,Eo (by omega)]
 ·rw [Os h,bQ]
  by_cases h2:X/18446744073709551616=Y/18446744073709551616
  ·rw [TJ h2,bL];congr 1;rw [Aab];omega
  ·rw [MH h2,bQ,Os (by omega)]
theorem M9 {n:Nat} (h:(n:Int)≤18446744073709551615):u64.wrap (n:Int)=n:=aU ⟨by omega,h⟩
theorem N0 {a b:Nat} (ha:a≤18446744073709551615) (hb:b≤18446744073709551615) (K:Int→Int→Prop) :
  Jd (a:Int) (b:Int) K=K (((a*b:Nat):Int)/18446744073709551616) (((a*b:Nat):Int)%18446744073709551616):=by
 rw [yGg ⟨by omega,by omega⟩ ⟨by omega,by omega⟩,AA]
theorem N1 {q r:Rat} (hq:small q) (hr:small r) (K:Bool→Prop):Gk q.num q.den r.num r.den K=K (decide (q<r)):=by
 unfold Gk Sm;have hq':=hq;have hr':=hr;obtain ⟨a1,a2,a3⟩:=hq;obtain ⟨b1,b2,b3⟩:=hr;have dq:=q.den_pos;have dr:=r.den_pos;have e:decide (q<r)=decide (q.num*r.den<r.num*q.den):=by rw [Aab];exact Rat.lt_iff q r
 rw [e]
 by_cases hs:(decide (q.num<0) !=decide (r.num<0))=true
 ·rw [hs,bL]
  by_cases h1:q.num<0
  ·have h2:¬r.num<0:=by simpa [h1] using hs
   have p1:q.num*r.den<0:=DY h1 (by omega);have p2:0≤r.num*q.den:=kP (by omega) (by omega);rw [Eo h1,Eo (by omega)]
  ·have h2:r.num<0:=by simpa [h1] using hs
   have p1:r.num*q.den<0:=DY h2 (by omega);have p2:0≤q.num*r.den:=kP (by omega) (by omega);rw [Os h1,Os (by omega)]
 ·have hs':(decide (q.num<0) !=decide (r.num<0))=false:=by simpa using hs
  rw [hs',bQ,TG hq'.i1,M9 (by omega),N0 (by omega) (by omega),TG hr'.i1,M9 (by omega),N0 (by omega) (by omega),M8 (Ha _) (Ha _),M8 (Ha _) (Ha _),AA,AA]
  by_cases h1:q.num<0
  ·have h2:r.num<0:=by simpa [h1] using hs'
   rw [Eo h1,bL,show ((q.num.natAbs:Nat):Int)=-q.num by omega,show ((r.num.natAbs:Nat):Int)=-r.num by omega,Int.neg_mul,Int.neg_mul];congr 1;rw [Aab];omega
  ·have h2:¬r.num<0:=by simpa [h1] using hs'
   rw [Os h1,bQ,show ((q.num.natAbs:Nat):Int)=q.num by omega,show ((r.num.natAbs:Nat):Int)=r.num by omega]
theorem cU {c:Prop} [Decidable c] {P Q:Prop} (h:c):aG (decide c) P Q=P:=by rw [Eo h,bL]
theorem cX {c:Prop} [Decidable c] {P Q:Prop} (h:¬c):aG (decide c) P Q=Q:=by rw [Os h,bQ]
theorem gQ {a b:Int} {P Q:Prop} (h:a≠b):aG (a !=b) P Q=P:=by rw [TI h,bL]
theorem eP {a b:Int} {P Q:Prop} (h:a=b):aG (a !=b) P Q=Q:=by rw [TH h,bQ]
theorem nH {a b:Int} {P Q:Prop} (h:a=b):aG (a==b) P Q=P:=by rw [TJ h,bL]
theorem sP {a b:Int} {P Q:Prop} (h:a≠b):aG (a==b) P Q=Q:=by rw [MH h,bQ]
theorem aK {c:Prop} [Decidable c] {P:Prop} (h:c):asr (decide c) P=P:=by rw [Eo h,gC]
theorem eQ {l:List Int} {i:Nat} {P:Prop} (h:i<l.length):asr (aJ zI (getD (aB l) i .nils)) P=P:=by rw [BC h,gC]
theorem dO {n:Int} (h1:-9223372036854775808≤n) (h2:n≤9223372036854775807):i64.wrap n=n:=gB ⟨h1,h2⟩
theorem mA (i:Nat):(i:Int)+1=((i+1:Nat):Int):=by omega
theorem BD {x:Int} (h:-1000000000000000000≤x∧x≤1000000000000000000):small (x:Rat):=by unfold small;rw [Rat.num_intCast,Rat.den_intCast];omega
def DA (dens:List Int):Prop:=∀ d∈dens,0≤d∧d≤12
def DB (dens:List Int):Prop:=∃ d∈dens,0<d
instance (l:List Int):Decidable (DA l):=by unfold DA;infer_instance
instance (l:List Int):Decidable (DB l):=by unfold DB;infer_instance
def VC (len:Int) (cuts dens:List Int):Prop:=
 1≤len∧len≤1000∧2≤cuts.length∧cuts.length≤40∧dens.length+1=cuts.length∧cuts.getD 0 0=0∧cuts.getD (cuts.length-1) 0=len∧uK cuts 0∧DA dens∧DB dens
theorem N2 (l:List Int):uK l 0↔∀ j,j<l.length→j+1<l.length→l.getD j 0<l.getD (j+1) 0:=⟨fun h j _ h2=>h j (by omega) h2,fun h j _ h2=>h j (by omega) h2⟩
instance (l:List Int):Decidable (uK l 0):=decidable_of_iff _ (N2 l).symm
instance (len:Int) (cuts dens:List Int):Decidable (VC len cuts dens):=by unfold VC;infer_instance
def kB (len:Int) (cuts dens:List Int):Int:=if len>1000∨cuts.length>40 then 4 else if VC len cuts dens then 0 else 8
theorem N3 (l:List Int) (x:Int):(l.foldl Jo x<0)↔¬(∀ d∈x::l,0≤d):=by
 induction l generalizing x with
 | nil=>simp
 | cons y t ih=>
  rw [List.foldl_cons,ih];unfold Jo;simp only [List.forall_mem_cons];split
  ·constructor
   ·intro h h2;exact h ⟨h2.2.1,h2.2.2⟩
   ·intro h h2;exact h ⟨by omega,h2.1,h2.2⟩
  ·constructor
   ·intro h h2;exact h ⟨h2.1,h2.2.2⟩
   ·intro h h2;exact h ⟨h2.1,by omega,h2.2⟩
theorem Jr (l:List Int) (x k:Int):(l.foldl Aa x>k)↔¬(∀ d∈x::l,d≤k):=by
 induction l generalizing x with
 | nil=>simp
 | cons y t ih=>
  rw [List.foldl_cons,ih];unfold Aa;simp only [List.forall_mem_cons];split
  ·constructor
   ·intro h h2;exact h ⟨h2.2.1,h2.2.2⟩
   ·intro h h2;exact h ⟨by omega,h2.1,h2.2⟩
  ·constructor
   ·intro h h2;exact h ⟨h2.1,h2.2.2⟩
   ·intro h h2;exact h ⟨h2.1,by omega,h2.2⟩
theorem MI {len:Int} {cuts dens:List Int} (h1:cuts.length<4611686018427387904) (h2:dens.length<4611686018427387904) (K:Int→Prop) :
  lI len (aB cuts) (aB dens) K=K (kB len cuts dens):=by
 refine ti _ _ _ _ (fun K k=>?_) K;unfold lI RE;simp only [cN];have bad:¬(len>1000∨cuts.length>40)→¬VC len cuts dens→K 8:=fun h h2=>by
  rw [kB,VY h,VY h2] at k;exact k
 by_cases a1:len>1000
 ·rw [cU a1];rw [kB,VX (.inl a1)] at k;exact k
 rw [cX a1]
 by_cases a2:cuts.length>40
 ·rw [cU (by omega)];rw [kB,VX (.inr a2)] at k;exact k
 have a12:¬(len>1000∨cuts.length>40):=by omega
 rw [cX (by omega)]
 by_cases a3:len<1
 ·rw [cU a3];exact bad a12 (fun h=>by have:=h.1;omega)
 rw [cX a3]
 by_cases a4:cuts.length<2
 ·rw [cU (by omega)];exact bad a12 (fun h=>by have:=h.2.2.1;omega)
 rw [cX (by omega),dO (n:=(cuts.length:Int)-1) (by omega) (by omega)]
 by_cases a5:dens.length+1=cuts.length
 case neg=>rw [gQ (by omega)];exact bad a12 (fun h=>a5 h.2.2.2.2.1)
 rw [eP (by omega),aK (by omega),eQ (by omega),dW (by omega)]
 by_cases a6:cuts.getD 0 0=0
 case neg=>rw [gQ a6];exact bad a12 (fun h=>a6 h.2.2.2.2.2.1)
 rw [eP a6,aK (by omega),aK (by omega),eQ (by omega),dW (by omega)];have en:((cuts.length:Int)-1).toNat=cuts.length-1:=by omega
 rw [en]
 by_cases a7:cuts.getD (cuts.length-1) 0=len
 case neg=>rw [gQ a7];exact bad a12 (fun h=>a7 h.2.2.2.2.2.2.1)
 rw [eP a7];refine ⟨cuts.length+1,?_⟩;refine yBP (by omega) _ _ _ _ (cuts.length-1) 0 _ (by omega) (by omega) (fun hi=>?_) (fun hi=>bad a12 (fun h=>hi h.2.2.2.2.2.2.2.1));obtain ⟨x,t,e⟩:∃ x t,dens=x::t:=by
  cases dens with
  | nil=>exfalso;have:([]:List Int).length=0:=rfl;omega
  | cons x t=>exact ⟨x,t,rfl⟩
 refine yKx (by omega) e ?_
 by_cases b1:t.foldl Jo x<0
 ·rw [cU b1];rw [N3] at b1;exact bad a12 (fun h=>b1 fun d hd=>(h.2.2.2.2.2.2.2.2.1 d (by rw [e];exact hd)).1)
 rw [cX b1];refine L6 (by omega) e ?_
 by_cases b2:t.foldl Aa x>12
 ·rw [cU b2];rw [Jr] at b2;exact bad a12 (fun h=>b2 fun d hd=>(h.2.2.2.2.2.2.2.2.1 d (by rw [e];exact hd)).2)
 rw [cX b2];refine L6 (by omega) e ?_;have c1:∀ d∈dens,0≤d:=by rw [N3,Classical.not_not,← e] at b1;exact b1
 have c2:∀ d∈dens,d≤12:=by rw [Jr,Classical.not_not,← e] at b2;exact b2
 by_cases b3:t.foldl Aa x=0
 ·rw [nH b3];refine bad a12 (fun h=>?_);obtain ⟨d,hd,h0⟩:=h.2.2.2.2.2.2.2.2.2;have:¬(t.foldl Aa x>0):=by omega
  rw [Jr,Classical.not_not,← e] at this;have:=this d hd;omega
 ·rw [sP b3];have b4:t.foldl Aa x>0:=by
   refine Int.not_le.1 fun hle=>b3 ?_
   have:t.foldl Aa x>-1:=by rw [Jr];intro h;have h1:=h x (iP ..);have h2:=c1 x (by rw [e];exact iP ..);omega
   omega
  rw [Jr,← e] at b4;have b5:DB dens:=by
   refine Classical.byContradiction fun hn=>b4 fun d hd=>?_
   exact Int.not_lt.1 fun hlt=>hn ⟨d,hd,hlt⟩
  rw [kB,VY a12,VX ⟨by omega,by omega,by omega,by omega,a5,a6,a7,hi,fun d hd=>⟨c1 d hd,c2 d hd⟩,b5⟩] at k;exact k
theorem Js (n:Int) (K:Int→Int→Prop):Bw n K=K (n:Rat).num (n:Rat).den:=rfl
theorem TM {q r:Rat} (hq:small q) (hr:small r) (K:Bool→Prop):zJ q.num q.den r.num r.den K=K (decide (q<r)):=by
 unfold zJ RP;rw [M6 hq hr];congr 1;rw [Aab,uL]
 by_cases h:q<r
 ·simp [h]
 ·by_cases h2:r<q<;>simp [h,h2]
def PT (len:Int) (n d:Int):Prop:=RV n d∧0≤n∧n≤len*d
instance (len n d:Int):Decidable (PT len n d):=by unfold PT;infer_instance
theorem yKy {len n d:Int} (h:PT len n d):∃ q:Rat,small q∧q.num=n∧(q.den:Int)=d∧0≤q∧q≤(len:Rat):=by
 obtain ⟨h1,h2,h3⟩:=h;obtain ⟨q,e1,e2,e3⟩:=TE h1;refine ⟨q,e1,e2,e3,?_,?_⟩
 ·rw [← Rat.num_nonneg,e2];exact h2
 ·rw [Rat.le_iff,e2,e3,Rat.num_intCast,Rat.den_intCast];simpa using h3
theorem yBR (x:Int) (q:Rat):((x:Rat)<q)↔x*(q.den:Int)<q.num:=by rw [Rat.lt_iff,Rat.num_intCast,Rat.den_intCast];simp
theorem yGh {len:Int} (hl:-1000000000000000000≤len∧len≤1000000000000000000) {n d:Int} (hn:cL n) (hd:cL d) (a b:List PV) (K:Bool→Prop) :
  Bx len a b n d K=K (decide (PT len n d)):=by
 unfold Bx RR;rw [TF hn hd]
 by_cases h:RV n d
 ·obtain ⟨q,e1,e2,e3⟩:=TE h;rw [kU,VX h,nH rfl]
  by_cases h0:n≥0
  ·rw [cU h0,Js,← e2,← e3,TM (BD hl) e1];congr 1;have:((len:Rat)<q)↔len*(q.den:Int)<q.num:=yBR _ _
   by_cases h3:(len:Rat)<q
   ·have h4:=this.1 h3;rw [Eo h3,Os];rfl;intro hp;have:=hp.2.2;omega
   ·have h4:¬_:=fun x=>h3 (this.2 x)
    rw [Os h3,Eo];rfl;exact ⟨e1.rv,by omega,by omega⟩
  ·rw [cX h0,Os];intro hp;have:=hp.2.1;omega
 ·rw [kU,VY h,sP (by decide),Os];intro hp;exact h hp.1
section
variable {len:Int} {cuts dens:List Int}
theorem VC.step (h:VC len cuts dens) {i:Nat} (hi:i+1<cuts.length):cuts.getD i 0<cuts.getD (i+1) 0:=h.2.2.2.2.2.2.2.1 i (jJ _) hi
theorem VC.mono (h:VC len cuts dens) {i:Nat}:∀ {j:Nat},i≤j→j<cuts.length→cuts.getD i 0≤cuts.getD j 0
 | 0,hij,_=>by
  have:i=0:=by omega
  subst this;exact Int.le_refl _
 | j+1,hij,hj=>by
  by_cases e:i=j+1
  ·subst e;exact Int.le_refl _
  ·have h1:=h.mono (i:=i) (j:=j) (by omega) (by omega);have h2:=h.step (i:=j) hj;omega
theorem VC.lo (h:VC len cuts dens) {i:Nat} (hi:i<cuts.length):0≤cuts.getD i 0:=by have:=h.mono (jJ i) hi;rw [h.2.2.2.2.2.1] at this;exact this
theorem VC.hi (h:VC len cuts dens) {i:Nat} (hi:i<cuts.length):cuts.getD i 0≤len:=by have:=h.mono (i:=i) (j:=cuts.length-1) (by omega) (by omega);rw [h.2.2.2.2.2.2.1] at this;exact this
theorem VC.den (h:VC len cuts dens) {i:Nat} (hi:i<dens.length):0≤dens.getD i 0∧dens.getD i 0≤12:=by rw [cO,bY hi];exact h.2.2.2.2.2.2.2.2.1 _ (mL hi)
theorem VC.l1 (h:VC len cuts dens):dens.length+1=cuts.length:=h.2.2.2.2.1
theorem VC.l2 (h:VC len cuts dens):cuts.length≤40:=h.2.2.2.1
theorem VC.len0 (h:VC len cuts dens):1≤len∧len≤1000:=⟨h.1,h.2.1⟩
theorem VC.sc (h:VC len cuts dens) {i:Nat} (hi:i<cuts.length):small ((cuts.getD i 0:Int):Rat):=BD (by have:=h.lo hi;have:=h.hi hi;have:=h.len0;omega)
theorem VC.sd (h:VC len cuts dens) {i:Nat} (hi:i<dens.length):small ((dens.getD i 0:Int):Rat):=BD (by have:=h.den hi;omega)
theorem TN (h:kB len cuts dens=0):VC len cuts dens:=by
 unfold kB at h;split at h
 ·omega
 ·split at h
  ·assumption
  ·omega
theorem VC.ck (h:VC len cuts dens):kB len cuts dens=0:=by rw [kB,VY (by have:=h.l2;have:=h.len0;omega),VX h]
def kL (cuts dens:List Int):Nat→Nat→Int→Int
 | 0,_,s=>s
 | r+1,i,s=>kL cuts dens r (i+1) (s+dens.getD i 0*(cuts.getD (i+1) 0-cuts.getD i 0))
def totC (cuts dens:List Int):Int:=kL cuts dens dens.length 0 0
theorem N4 {d x:Int} (h:0≤d∧d≤12) (hx:0≤x):0≤d*x∧d*x≤12*x:=⟨kP h.1 hx,DW h.2 hx⟩
theorem N5 (h:VC len cuts dens):∀ (r i:Nat) (s:Int),i+r=dens.length→0≤s→s≤12*cuts.getD i 0→0≤kL cuts dens r i s∧kL cuts dens r i s≤12*len
 | 0,i,s,hi,h0,h1=>by have:=h.l1;have:=h.hi (i:=i) (by omega);unfold kL;omega
 | r+1,i,s,hi,h0,h1=>by unfold kL;have l1:=h.l1;have h2:=h.step (i:=i) (by omega);have h3:=N4 (h.den (i:=i) (by omega)) (x:=cuts.getD (i+1) 0-cuts.getD i 0) (by omega);exact N5 h r (i+1) _ (by omega) (by omega) (by omega)
theorem TO (h:VC len cuts dens):0≤totC cuts dens∧totC cuts dens≤12000:=by have l1:=h.l1;have h0:=h.lo (i:=0) (by omega);have:=N5 h dens.length 0 0 (by omega) (by omega) (by omega);have h2:=h.len0;unfold totC;omega
theorem N6 (h:VC len cuts dens) (W:Int→List PV→List PV→(Int→Prop)→Prop) (x0:Int→List PV→List PV→Int→List PV→Int→Int→Bool→Prop) :
  ∀ (r i n:Nat) (s:Int),i+r=dens.length→r<n→0≤s→s≤12*cuts.getD i 0 →
   Gf W x0 n len (aB cuts) (aB dens) s (aB dens) dens.length i=x0 len (aB cuts) (aB dens) (kL cuts dens r i s) (aB dens) dens.length dens.length false
 | 0,i,n+1,s,hi,hn,h0,h1=>by
  unfold Gf kL;rw [cX (by omega)];have:(i:Int)=dens.length:=by omega
  rw [this]
 | r+1,i,n+1,s,hi,hn,h0,h1=>by unfold Gf;have l1:=h.l1;have l2:=h.l2;have h2:=h.step (i:=i) (by omega);have h3:=N4 (h.den (i:=i) (by omega)) (x:=cuts.getD (i+1) 0-cuts.getD i 0) (by omega);have a1:=h.lo (i:=i) (by omega);have a2:=h.hi (i:=i+1) (by omega);have a3:=h.len0;have e1:=dO (n:=(i:Int)+1) (by omega) (by omega);have e2:=dO (n:=cuts.getD (i+1) 0-cuts.getD i 0) (by omega) (by omega);have e3:=dO (n:=dens.getD i 0*(cuts.getD (i+1) 0-cuts.getD i 0)) (by omega) (by omega);have e4:=dO (n:=s+dens.getD i 0*(cuts.getD (i+1) 0-cuts.getD i 0)) (by omega) (by omega);rw [cU (by omega),cN,cN,e1,mA,dL,dL,aK (by omega),aK (by omega),eQ (by omega),aK (by omega),aK (by omega),eQ (by omega),aK (by omega),aK (by omega),eQ (by omega),dW (by omega),dW (by omega),dW (by omega),e2,e3,e4];exact N6 h W x0 r (i+1) n _ (by omega) (by omega) (by omega) (by omega)
theorem yEA (h1:cuts.length<4611686018427387904) (h2:dens.length<4611686018427387904) (K:Int→Int→Prop) :
  uF len (aB cuts) (aB dens) K=if kB len cuts dens=0 then K (totC cuts dens) 0 else K 0 (kB len cuts dens):=by
 by_cases h:kB len cuts dens=0
 ·rw [VX h];refine tk _ _ _ _ _ (fun K k=>?_) K;unfold uF Mn;have hv:=TN h;rw [MI h1 h2,h,eP rfl];refine ⟨dens.length+1,?_⟩;have l1:=hv.l1;have a1:=hv.lo (i:=0) (by omega);rw [cN];have:=N6 hv lI (fun b c d a e f g j=>(K a (0:Int))) dens.length 0 (dens.length+1) 0 (by omega) (by omega) (by omega) (by omega);rw [show ((0:Nat):Int)=0 from rfl] at this;rw [this];exact k
 ·rw [VY h];unfold uF Mn;rw [MI h1 h2,gQ h]
def exK (e:Except Int Rat) (K:Int→Int→Int→Prop):Prop:=match e with | .ok q=>K q.num q.den 0 | .error c=>K 0 0 c
def mR {α:Type} (q:Rat) (k:Rat→Except Int α):Except Int α:=if small q then k q else .error 16
theorem DC {q:Rat} {K:Int→Int→Int→Prop}:fitK q K=if small q then K q.num q.den 0 else K 0 0 16:=rfl
end
def rt (n d:Int):Rat:=mkRat n d.toNat
theorem MJ (q:Rat):rt q.num q.den=q:=by unfold rt;rw [dL,Rat.mkRat_self]
theorem yM8 {n d:Int} (h:RV n d):small (rt n d)∧(rt n d).num=n∧((rt n d).den:Int)=d:=by obtain ⟨q,h1,h2,h3⟩:=TE h;subst h2 h3;rw [MJ];exact ⟨h1,rfl,rfl⟩
theorem PT.pt {len n d:Int} (h:PT len n d):small (rt n d)∧(rt n d).num=n∧((rt n d).den:Int)=d∧0≤rt n d∧rt n d≤(len:Rat):=by obtain ⟨q,h1,h2,h3,h4,h5⟩:=yKy h;subst h2 h3;rw [MJ];exact ⟨h1,rfl,rfl,h4,h5⟩
theorem yM9 {len:Int} {q:Rat} (h:small q) (h0:0≤q) (h1:q≤(len:Rat)):PT len q.num q.den:=by refine ⟨h.rv,Rat.num_nonneg.2 h0,?_⟩;rw [Rat.le_iff,Rat.num_intCast,Rat.den_intCast] at h1;simpa using h1
section
variable {len:Int} {cuts dens:List Int}
theorem yKz {w:(Int→Int→Int→Prop)→Prop} {e:Except Int Rat} (det:∀ r0 r1 r2,(∀ K:Int→Int→Int→Prop,K r0 r1 r2→w K)→∀ K,w K=K r0 r1 r2) (h:∀ K,exK e K→w K) (K:Int→Int→Int→Prop):w K=exK e K:=by
 cases e with
 | ok q=>exact det _ _ _ h K
 | error c=>exact det _ _ _ h K
def jB (cuts dens:List Int):Nat→Nat→Rat→Rat→Except Int Rat
 | 0,_,_,_=>.error 6
 | r+1,i,p,v=>
  if ¬p<(cuts.getD (i+1) 0:Int) then jB cuts dens r (i+1) p v
  else if dens.getD i 0=0 then jB cuts dens r (i+1) (cuts.getD (i+1) 0:Int) v
  else mR ((cuts.getD (i+1) 0:Int)-p) fun l=>mR (l*(dens.getD i 0:Int)) fun w=>
   if w<v then mR (v-w) fun v'=>jB cuts dens r (i+1) (cuts.getD (i+1) 0:Int) v'
   else mR (v/(dens.getD i 0:Int)) fun s=>mR (p+s) .ok
def mrkC (cuts dens:List Int) (a v:Rat):Except Int Rat:=if v=0 then .ok a else jB cuts dens dens.length 0 a v
def DD (len:Int) (cuts dens:List Int) (an ad vn vd:Int):Except Int Rat:=
 if kB len cuts dens=0 then (if PT len an ad∧RV vn vd∧0≤vn then mrkC cuts dens (rt an ad) (rt vn vd) else .error 2) else .error (kB len cuts dens)
theorem N7 (h:VC len cuts dens) (W1:Int→List PV→List PV→(Int→Prop)→Prop) (W2:Int→List PV→List PV→Int→Int→(Bool→Prop)→Prop) (W3:Int→Int→(Int→Prop)→Prop) (K:Int→Int→Int→Prop) :
  ∀ (r i n:Nat) (p v:Rat) (o1 o2:Int),i+r=dens.length→r<n→small p→small v →
   sL W1 W2 W3 Bw zJ qZ nE rB qY
    (fun l m b d f a=>(aG (a !=(0:Int)) (aG (a !=(0:Int)) (K (0:Int) (0:Int) a) (K b d (0:Int))) (aG (f !=(0:Int)) (K (0:Int) (0:Int) f) (K b d (0:Int)))))
    (fun o q j k g s t u w y z A B C=>(aG (g !=(0:Int)) (K (0:Int) (0:Int) g) (K j k (0:Int))))
    n v.num v.den o1 o2 6 len (aB cuts) (aB dens) p.num p.den (aB dens) dens.length i=exK (jB cuts dens r i p v) K
 | 0,i,n+1,p,v,o1,o2,hi,hn,hp,hs=>by unfold sL jB;rw [cX (by omega)];rfl
 | r+1,i,n+1,p,v,o1,o2,hi,hn,hp,hs=>by
  unfold sL;have l1:=h.l1;have l2:=h.l2;have sc:=h.sc (i:=i+1) (by omega);have sd:=h.sd (i:=i) (by omega);have hd0:=h.den (i:=i) (by omega);have e1:=dO (n:=(i:Int)+1) (by omega) (by omega);rw [cU (by omega),cN,cN,e1,mA,dL,dL,aK (by omega),aK (by omega),eQ (by omega),aK (by omega),aK (by omega),eQ (by omega),dW (by omega),dW (by omega),Js,TM hp sc];have ih:=fun p v o1 o2 hp hs=>N7 h W1 W2 W3 K r (i+1) n p v o1 o2 (by omega) (by omega) hp hs
  unfold jB;obtain ⟨c,hc⟩:∃ c:Rat,c=((cuts.getD (i+1) 0:Int):Rat):=⟨_,rfl⟩;rw [← hc] at sc ⊢
  by_cases hpc:p<c
  case neg=>rw [Os hpc,AD,bL,VX hpc];exact ih p v o1 o2 hp hs
  rw [Eo hpc,Bool.not_true,bQ,VY (fun x=>x hpc),Js]
  by_cases hd:dens.getD i 0=0
  ·rw [cX (by omega),nH hd,VX hd];exact ih c v o1 o2 sc hs
  rw [cU (by omega),VY hd,MG sc hp,DC]
  by_cases s1:small (c-p)
  case neg=>rw [VY s1,gQ (by decide),gQ (by decide),gQ (by decide),mR,VY s1];rfl
  rw [VX s1,eP rfl,Js,Jq s1 sd,DC,mR,VX s1]
  by_cases s2:small ((c-p)*(dens.getD i 0:Int))
  case neg=>rw [VY s2,gQ (by decide),gQ (by decide),gQ (by decide),mR,VY s2];rfl
  rw [VX s2,eP rfl,sP hd,TM s2 hs,mR,VX s2]
  by_cases hw:(c-p)*(dens.getD i 0:Int)<v
  ·rw [cU hw,VX hw,MG hs s2,DC,mR]
   by_cases s3:small (v-(c-p)*(dens.getD i 0:Int))
   ·rw [VX s3,VX s3,eP rfl,eP rfl];exact ih c _ o1 o2 sc s3
   ·rw [VY s3,VY s3,gQ (by decide),gQ (by decide),eP rfl,gQ (by decide)];rfl
  ·have hdn:((dens.getD i 0:Int):Rat)≠0:=fun e=>hd (Rat.intCast_eq_zero_iff.1 e)
   rw [cX hw,VY hw,Js,ME hs sd hdn,DC,mR]
   by_cases s3:small (v/(dens.getD i 0:Int))
   ·rw [VX s3,VX s3,nH rfl,MF hp s3,DC,mR]
    by_cases s4:small (p+v/(dens.getD i 0:Int))
    ·rw [VX s4,VX s4,eP rfl,eP rfl];rfl
    ·rw [VY s4,VY s4,eP rfl,gQ (by decide)];rfl
   ·rw [VY s3,VY s3,sP (by decide),eP rfl,gQ (by decide)];rfl
theorem yGi (h1:cuts.length<4611686018427387904) (h2:dens.length<4611686018427387904) {an ad vn vd:Int} (ha:cL an) (ha':cL ad) (hv:cL vn) (hv':cL vd) (K:Int→Int→Int→Prop) :
  wL len (aB cuts) (aB dens) an ad vn vd K=exK (DD len cuts dens an ad vn vd) K:=by
 refine yKz (fun r0 r1 r2 h K=>tl _ _ _ _ _ _ _ r0 r1 r2 h K) (fun K k=>?_) K;unfold wL RS;rw [MI h1 h2];unfold DD at k
 by_cases h:kB len cuts dens=0
 case neg=>rw [gQ h];rw [VY h] at k;exact k
 have hc:=TN h;have hl:=hc.len0;rw [VX h] at k;rw [eP h,yGh (by omega) ha ha']
 by_cases p1:PT len an ad
 case neg=>rw [Os p1,AD,bL];rw [VY (fun x=>p1 x.1)] at k;exact k
 rw [Eo p1,Bool.not_true,bQ,TF hv hv',kU]
 by_cases p2:RV vn vd
 case neg=>rw [VY p2,gQ (by decide)];rw [VY (fun x=>p2 x.2.1)] at k;exact k
 rw [VX p2,eP rfl]
 by_cases p3:vn<0
 ·rw [cU p3];rw [VY (fun x=>by omega)] at k;exact k
 rw [cX p3];rw [VX ⟨p1,p2,by omega⟩] at k;obtain ⟨s1,e1,e2,_,_⟩:=p1.pt;obtain ⟨s2,f1,f2⟩:=yM8 p2;unfold mrkC at k
 by_cases p4:vn=0
 ·rw [nH p4];rw [VX (Rat.num_eq_zero.1 (f1.trans p4))] at k;have k:K (rt an ad).num (rt an ad).den 0:=k;rw [e1,e2] at k;exact k
 rw [sP p4];rw [VY (fun x=>p4 (by rw [← f1,x];rfl))] at k;rw [cN];refine ⟨dens.length+1,?_⟩;have:=N7 hc lI Bx nD K dens.length 0 (dens.length+1) (rt an ad) (rt vn vd) 0 0 (by omega) (by omega) s1 s2;rw [e1,e2,f1,f2] at this;exact this.mpr k
def N8 (cuts dens:List Int) (i:Nat):Prop:=∀ j,i≤j→j<dens.length→cuts.getD j 0<cuts.getD (j+1) 0∧0≤dens.getD j 0∧dens.getD j 0≤12
theorem TP (l1:dens.length+1=cuts.length) (l2:dens.length<4611686018427387904) (x0:Int→Prop) (x1:Int→List PV→List PV→Bool→Int→Bool→Prop) (P:Prop)
  (hbad:¬N8 cuts dens 0→x0 8=P) (hgood:∀ b:Bool,N8 cuts dens 0→b=decide (∃ j,j<dens.length∧0<dens.getD j 0)→x1 len (aB cuts) (aB dens) b dens.length false=P) :
  ∀ (r i n:Nat) (b:Bool),i+r=dens.length→r<n→(∀ j,j<i→cuts.getD j 0<cuts.getD (j+1) 0∧0≤dens.getD j 0∧dens.getD j 0≤12)→b=decide (∃ j,j<i∧0<dens.getD j 0) →
   Ds x0 x1 n len (aB cuts) (aB dens) b i=P
 | 0,i,n+1,b,hi,hn,hj,hb=>by unfold Ds;rw [cN,cX (by omega),show (i:Int)=dens.length by omega];refine hgood b (fun j _ h=>hj j (by omega)) ?_;rw [hb,Aab];rw [show i=dens.length by omega]
 | r+1,i,n+1,b,hi,hn,hj,hb=>by
  unfold Ds;have e1:=dO (n:=(i:Int)+1) (by omega) (by omega);rw [cN,cN,cU (by omega),e1,mA,dL,dL,aK (by omega),aK (by omega),eQ (by omega),aK (by omega),aK (by omega),eQ (by omega),dW (by omega),dW (by omega)];have bad:¬(cuts.getD i 0<cuts.getD (i+1) 0∧0≤dens.getD i 0∧dens.getD i 0≤12)→x0 8=P:=fun h=>hbad fun hk=>h (hk i (by omega) (by omega))
  by_cases a1:cuts.getD (i+1) 0≤cuts.getD i 0
  ·rw [cU a1];exact bad (by omega)
  rw [cX a1,aK (by omega),aK (by omega),eQ (by omega),dW (by omega)]
  by_cases a2:dens.getD i 0<0
  ·rw [cU a2];exact bad (by omega)
  rw [cX a2,aK (by omega),aK (by omega),eQ (by omega)]
  by_cases a3:dens.getD i 0>12
  ·rw [cU a3];exact bad (by omega)
  rw [cX a3];have hj2:∀ j,j<i+1→cuts.getD j 0<cuts.getD (j+1) 0∧0≤dens.getD j 0∧dens.getD j 0≤12:=by
   intro j hlt
   by_cases e:j=i
   ·subst e;omega
   ·exact hj j (by omega)
  have ex:∀ c:Bool,(c=true↔(b=true∨0<dens.getD i 0))→c=decide (∃ j,j<i+1∧0<dens.getD j 0):=by
   intro c hc;rw [Bool.eq_iff_iff,hc,hb,decide_eq_true_iff,decide_eq_true_iff];constructor
   ·rintro (⟨j,h1,h2⟩ | h)
    ·exact ⟨j,by omega,h2⟩
    ·exact ⟨i,by omega,h⟩
   ·rintro ⟨j,h1,h2⟩
    by_cases e:j=i
    ·subst e;exact .inr h2
    ·exact .inl ⟨j,by omega,h2⟩
  cases b with
  | true =>rw [bL];exact TP l1 l2 x0 x1 P hbad hgood r (i+1) n true (by omega) (by omega) hj2 (ex _ (by simp))
  | false =>rw [bQ,aK (by omega),aK (by omega),eQ (by omega)];exact TP l1 l2 x0 x1 P hbad hgood r (i+1) n _ (by omega) (by omega) hj2 (ex _ (by simp))
theorem N9 (h1:cuts.length<4611686018427387904) (h2:dens.length<4611686018427387904) (K:Int→Prop) :
  sM len (aB cuts) (aB dens) K=K (kB len cuts dens):=by
 refine wi _ _ _ _ (fun K k=>?_) K;unfold sM So;simp only [cN];have bad:¬(len>1000∨cuts.length>40)→¬VC len cuts dens→K 8:=fun h h2=>by
  rw [kB,VY h,VY h2] at k;exact k
 by_cases a1:len>1000
 ·rw [cU a1];rw [kB,VX (.inl a1)] at k;exact k
 rw [cX a1]
 by_cases a2:cuts.length>40
 ·rw [cU (by omega)];rw [kB,VX (.inr a2)] at k;exact k
 have a12:¬(len>1000∨cuts.length>40):=by omega
 rw [cX (by omega)]
 by_cases a3:len<1
 ·rw [cU a3];exact bad a12 (fun h=>by have:=h.1;omega)
 rw [cX a3]
 by_cases a4:cuts.length<2
 ·rw [cU (by omega)];exact bad a12 (fun h=>by have:=h.2.2.1;omega)
 rw [cX (by omega),dO (n:=(cuts.length:Int)-1) (by omega) (by omega)]
 by_cases a5:dens.length+1=cuts.length
 case neg=>rw [gQ (by omega)];exact bad a12 (fun h=>a5 h.2.2.2.2.1)
 rw [eP (by omega),aK (by omega),eQ (by omega),dW (by omega)]
 by_cases a6:cuts.getD 0 0=0
 case neg=>rw [gQ a6];exact bad a12 (fun h=>a6 h.2.2.2.2.2.1)
 rw [eP a6,aK (by omega),aK (by omega),eQ (by omega),dW (by omega)];have en:((cuts.length:Int)-1).toNat=cuts.length-1:=by omega
 rw [en]
 by_cases a7:cuts.getD (cuts.length-1) 0=len
 case neg=>rw [gQ a7];exact bad a12 (fun h=>a7 h.2.2.2.2.2.2.1)
 rw [eP a7];have mem:∀ d,d∈dens↔∃ j,j<dens.length∧dens.getD j 0=d:=by
  intro d;rw [List.mem_iff_getElem];constructor
  ·rintro ⟨j,hj,e⟩;exact ⟨j,hj,by rw [cO,bY hj];exact e⟩
  ·rintro ⟨j,hj,e⟩;exact ⟨j,hj,by rw [cO,bY hj] at e;exact e⟩
 refine ⟨dens.length+1,?_⟩;refine (TP a5 h2 _ _ (K (kB len cuts dens)) (fun hk=>?_) (fun b hk hb=>?_) dens.length 0 (dens.length+1) false (by omega) (by omega) (fun j h=>by omega) (by simp)).mpr k
 ·have hv:¬VC len cuts dens:=fun h=>hk fun j _ hj=>⟨h.step (by omega),h.den hj⟩
  rw [kB,VY a12,VY hv]
 ·have hsome:DB dens↔∃ j,j<dens.length∧0<dens.getD j 0:=by
   constructor
   ·rintro ⟨d,hd,h0⟩;obtain ⟨j,hj,e⟩:=(mem d).1 hd;exact ⟨j,hj,by rw [e];exact h0⟩
   ·rintro ⟨j,hj,h0⟩;exact ⟨_,(mem _).2 ⟨j,hj,rfl⟩,h0⟩
  have hv:VC len cuts dens↔DB dens:=by refine ⟨fun h=>h.2.2.2.2.2.2.2.2.2,fun h=>⟨by omega,by omega,by omega,by omega,a5,a6,a7,fun j _ hj=>(hk j (by omega) (by omega)).1,fun d hd=>?_,h⟩⟩;obtain ⟨j,hj,e⟩:=(mem d).1 hd;rw [← e];exact (hk j (by omega) hj).2
  rw [kB,VY a12]
  by_cases hs:DB dens
  ·rw [VX (hv.2 hs),hb,Eo (hsome.1 hs)];rfl
  ·rw [VY (fun x=>hs (hv.1 x)),hb,Os (fun x=>hs (hsome.2 x))];rfl
theorem O0 {q:Rat} {K:Int→Int→Int→Prop}:exK (.ok q) K=K q.num q.den 0:=rfl
theorem O1 {c:Int} {K:Int→Int→Int→Prop}:exK (.error c) K=K 0 0 c:=rfl
end
structure Ck where
 len:Int
 cuts:List Int
 dens:List Int
instance:Inhabited Ck:=⟨⟨0,[],[]⟩⟩
def mI (c:Ck):PV:=.agg [.int .i64 c.len,.data (aB c.cuts),.data (aB c.dens)]
def cks (l:List Ck):List PV:=l.map mI
def Ck.fin (c:Ck):Prop:=c.cuts.length<4611686018427387904∧c.dens.length<4611686018427387904
def Ck.err (c:Ck):Int:=kB c.len c.cuts c.dens
def Ck.ok (c:Ck):Prop:=VC c.len c.cuts c.dens
instance (c:Ck):Decidable c.ok:=by unfold Ck.ok;infer_instance
theorem gK (l:List Ck):(cks l).length=l.length:=jH ..
theorem oZ {l:List Ck} {i:Nat} (h:i<l.length):getD (cks l) i .nils=mI (l.getD i default):=by unfold cks;rw [cO,cO,rT,bY h];rfl
theorem sQ {α:Type} {l:List α} {i:Nat} (d:α) (h:i<l.length):l.drop i=l.getD i d::l.drop (i+1):=by rw [List.drop_eq_getElem_cons h,cO,bY h];rfl
theorem eS {c:Ck} {P:Prop}:asr (aJ zK (mI c)) P=P:=rfl
theorem rF (c:Ck):aS (cQ (mI c) 0)=c.len:=rfl
theorem wU (c:Ck):gH (cQ (mI c) 1)=aB c.cuts:=rfl
theorem Ab (c:Ck):gH (cQ (mI c) 2)=aB c.dens:=rfl
def nW:List Ck→Int
 | []=>0
 | c::t=>if c.err=0 then nW t else c.err
def uM (n:Int):List Ck→Bool
 | []=>true
 | c::t=>decide (c.len=n)&&uM n t
def rG (l:List Ck) (m:Nat):Int:=
 if l.length>6 then 4 else if m>2000 then 4 else if l.length=0 then 8 else if nW l=0 then (if uM (l.getD 0 default).len l then 0 else 8) else nW l
section
variable {l:List Ck}
def pA (l:List Ck):Prop:=∀ i,i<l.length→(l.getD i default).fin
theorem O2 (hf:pA l) (hl:l.length<4611686018427387904) (x0:Int→Prop) (x1:List PV→List PV→List PV→Int→Int→Bool→Prop) (lg:List PV) :
  ∀ (r i n:Nat),i+r=l.length→r<n→Gg lI x0 x1 n (cks l) lg (cks l) l.length i =
   if nW (l.drop i)=0 then x1 (cks l) lg (cks l) l.length l.length false else x0 (nW (l.drop i))
 | 0,i,n+1,hi,hn=>by unfold Gg;rw [cX (by omega),oD (by omega),show (i:Int)=l.length by omega];rfl
 | r+1,i,n+1,hi,hn=>by
  unfold Gg;have e1:=dO (n:=(i:Int)+1) (by omega) (by omega);obtain ⟨f1,f2⟩:=hf i (by omega);rw [cU (by omega),gK,dL,oZ (by omega),aK (by omega),aK (by omega),eS,rF,wU,Ab,MI (by omega) (by omega),sQ default (by omega),nW,e1,mA];show aG ((l.getD i default).err !=0) _ _=_
  by_cases h:(l.getD i default).err=0
  ·rw [eP h,VX h];exact O2 hf hl x0 x1 lg r (i+1) n (by omega) (by omega)
  ·rw [gQ h,VY h,VY h];rfl
theorem O3 (hl:l.length<4611686018427387904) (x0:Int→Prop) (x1:List PV→List PV→List PV→Int→Int→Bool→Prop) (lg:List PV) (W) :
  ∀ (r i n:Nat),i+r=l.length→r<n→Dp W x0 x1 n (cks l) lg (cks l) l.length i =
   if uM (l.getD 0 default).len (l.drop i) then x1 (cks l) lg (cks l) l.length l.length false else x0 8
 | 0,i,n+1,hi,hn=>by unfold Dp;rw [cX (by omega),oD (by omega),show (i:Int)=l.length by omega];rfl
 | r+1,i,n+1,hi,hn=>by
  unfold Dp;have e1:=dO (n:=(i:Int)+1) (by omega) (by omega);rw [cU (by omega),gK,dL,oZ (by omega),oZ (by omega),aK (by omega),aK (by omega),eS,aK (by omega),eS,rF,rF,sQ default (by omega),uM,e1,mA]
  by_cases h:(l.getD i default).len=(l.getD 0 default).len
  ·rw [eP h,Eo h,pM];exact O3 hl x0 x1 lg W r (i+1) n (by omega) (by omega)
  ·rw [gQ h,Os h,oE,VY (by simp)]
theorem yEB (hf:pA l) (hl:l.length<4611686018427387904) (lg:List PV) (K:Int→Prop):wM (cks l) lg K=K (rG l lg.length):=by
 refine uc _ _ _ (fun K k=>?_) K;unfold wM RW;unfold rG at k;rw [gK]
 by_cases a1:l.length>6
 ·rw [cU (by omega)];rw [VX a1] at k;exact k
 rw [cX (by omega)];rw [VY a1] at k
 by_cases a2:lg.length>2000
 ·rw [cU (by omega)];rw [VX a2] at k;exact k
 rw [cX (by omega)];rw [VY a2] at k
 by_cases a3:l.length=0
 ·rw [nH (by omega)];rw [VX a3] at k;exact k
 rw [sP (by omega)];rw [VY a3] at k;refine ⟨l.length+1,?_⟩;have h0:=O2 hf hl (fun c=>K c) (fun a d o p q r=>(∃ e:Nat,Dp lI (fun b=>(K b)) (fun f g i j m n=>(K (0:Int))) e a d a (((length a):Nat):Int) (0:Int))) lg l.length 0 (l.length+1) (by omega) (by omega);rw [show ((0:Nat):Int)=0 from rfl,pK] at h0;rw [h0]
 by_cases a4:nW l=0
 ·rw [VX a4] at k ⊢;refine ⟨l.length+1,?_⟩;have h1:=O3 hl (fun b=>(K b)) (fun f g i j m n=>(K (0:Int))) lg lI l.length 0 (l.length+1) (by omega) (by omega);rw [show ((0:Nat):Int)=0 from rfl,pK] at h1;rw [gK,h1];split at k<;>rename_i h<;>simp only [h]<;>exact k
 ·rw [VY a4] at k ⊢;exact k
theorem O4 (hf:pA l) (hl:l.length<4611686018427387904) (x0:Int→Prop) (x1:List PV→List PV→Int→Bool→Prop) (lg:List PV) :
  ∀ (r i n:Nat),i+r=l.length→r<n→Gp sM x0 x1 n (cks l) lg i =
   if nW (l.drop i)=0 then x1 (cks l) lg l.length false else x0 (nW (l.drop i))
 | 0,i,n+1,hi,hn=>by unfold Gp;rw [gK,cX (by omega),oD (by omega),show (i:Int)=l.length by omega];rfl
 | r+1,i,n+1,hi,hn=>by
  unfold Gp;have e1:=dO (n:=(i:Int)+1) (by omega) (by omega);obtain ⟨f1,f2⟩:=hf i (by omega);rw [gK,cU (by omega),dL,oZ (by omega),aK (by omega),aK (by omega),eS,rF,wU,Ab,N9 (by omega) (by omega),sQ default (by omega),nW,e1,mA];show aG ((l.getD i default).err !=0) _ _=_
  by_cases h:(l.getD i default).err=0
  ·rw [eP h,VX h];exact O4 hf hl x0 x1 lg r (i+1) n (by omega) (by omega)
  ·rw [gQ h,VY h,VY h,aK (by omega),aK (by omega),eS,N9 (by omega) (by omega)];rfl
theorem O5 (hl:l.length<4611686018427387904) (x0:Int→Prop) (x1:List PV→List PV→Int→Bool→Prop) (lg:List PV) (W) :
  ∀ (r i n:Nat),i+r=l.length→r<n→Dt W x0 x1 n (cks l) lg i =
   if uM (l.getD 0 default).len (l.drop i) then x1 (cks l) lg l.length false else x0 8
 | 0,i,n+1,hi,hn=>by unfold Dt;rw [gK,cX (by omega),oD (by omega),show (i:Int)=l.length by omega];rfl
 | r+1,i,n+1,hi,hn=>by
  unfold Dt;have e1:=dO (n:=(i:Int)+1) (by omega) (by omega);rw [gK,cU (by omega),dL,oZ (by omega),oZ (by omega),aK (by omega),aK (by omega),eS,aK (by omega),eS,rF,rF,sQ default (by omega),uM,e1,mA]
  by_cases h:(l.getD i default).len=(l.getD 0 default).len
  ·rw [eP h,Eo h,pM];exact O5 hl x0 x1 lg W r (i+1) n (by omega) (by omega)
  ·rw [gQ h,Os h,oE,VY (by simp)]
theorem yEC (hf:pA l) (hl:l.length<4611686018427387904) (lg:List PV) (K:Int→Prop):zO (cks l) lg K=K (rG l lg.length):=by
 refine xe _ _ _ (fun K k=>?_) K;unfold zO Sw;unfold rG at k;rw [gK]
 by_cases a1:l.length>6
 ·rw [cU (by omega)];rw [VX a1] at k;exact k
 rw [cX (by omega)];rw [VY a1] at k
 by_cases a2:lg.length>2000
 ·rw [cU (by omega)];rw [VX a2] at k;exact k
 rw [cX (by omega)];rw [VY a2] at k
 by_cases a3:l.length=0
 ·rw [nH (by omega)];rw [VX a3] at k;exact k
 rw [sP (by omega)];rw [VY a3] at k;refine ⟨l.length+1,?_⟩;have h0:=O4 hf hl (fun b=>K b) (fun c d m n=>(∃ e:Nat,Dt sM (fun a=>(K a)) (fun f g i j=>(K (0:Int))) e c d (0:Int))) lg l.length 0 (l.length+1) (by omega) (by omega);rw [show ((0:Nat):Int)=0 from rfl,pK] at h0;rw [h0]
 by_cases a4:nW l=0
 ·rw [VX a4] at k ⊢;refine ⟨l.length+1,?_⟩;have h1:=O5 hl (fun a=>(K a)) (fun f g i j=>(K (0:Int))) lg sM l.length 0 (l.length+1) (by omega) (by omega);rw [show ((0:Nat):Int)=0 from rfl,pK] at h1;rw [h1];split at k<;>rename_i h<;>simp only [h]<;>exact k
 ·rw [VY a4] at k ⊢;exact k
def Ck.low (c:Ck):Prop:=c.cuts.length≤1000∧c.dens.length≤1000
def TQ (l:List Ck):Prop:=∀ i,i<l.length→(l.getD i default).low
theorem gD {c:Bool} {P:Prop} (h:c=true):asr c P=P:=by rw [h,gC]
theorem O6:∀ (l:List Ck),nW l=0→∀ i,i<l.length→(l.getD i default).ok
 | c::t,h,0,_=>by
  unfold nW at h;split at h
  ·rename_i h1;exact TN h1
  ·rename_i h1;exact absurd h h1
 | c::t,h,i+1,hi=>by
  unfold nW at h;split at h
  ·exact O6 t h i (by simpa using hi)
  ·rename_i h1;exact absurd h h1
theorem O7 {n:Int}:∀ (l:List Ck),uM n l=true→∀ i,i<l.length→(l.getD i default).len=n
 | c::t,h,0,_=>by unfold uM at h;simp only [cA,decide_eq_true_eq] at h;exact h.1
 | c::t,h,i+1,hi=>by unfold uM at h;simp only [cA,decide_eq_true_eq] at h;exact O7 t h.2 i (by simpa using hi)
structure DK (l:List Ck):Prop where
 n6:l.length≤6
 n0:1≤l.length
 ok:∀ i,i<l.length→(l.getD i default).ok
 len:∀ i,i<l.length→(l.getD i default).len=(l.getD 0 default).len
theorem yBS {m:Nat} (h:rG l m=0):DK l∧m≤2000:=by
 unfold rG at h;split at h
 ·omega
 split at h
 ·omega
 split at h
 ·omega
 split at h
 ·rename_i h0 h1 h2 h3;split at h
  ·rename_i h4;exact ⟨⟨by omega,by omega,O6 l h3,O7 l h4⟩,by omega⟩
  ·omega
 ·rename_i h3;exact absurd h h3
theorem DK.err {l:List Ck} (h:DK l) {m:Nat} (hm:m≤2000):rG l m=0:=by
 have f:∀ l:List Ck,(∀ i,i<l.length→(l.getD i default).ok)→nW l=0:=by
  intro l;induction l with
  | nil=>intro _;rfl
  | cons c t ih =>intro h;unfold nW;rw [VX (show c.err=0 from (h 0 (Ef _)).ck)];exact ih fun i hi=>h (i+1) (by simpa using hi)
 have g:∀ (n:Int) (l:List Ck),(∀ i,i<l.length→(l.getD i default).len=n)→uM n l=true:=by
  intro n l;induction l with
  | nil=>intro _;rfl
  | cons c t ih =>intro h;unfold uM;rw [cA,decide_eq_true_eq];exact ⟨h 0 (Ef _),ih fun i hi=>h (i+1) (by simpa using hi)⟩
 have:=h.n6;have:=h.n0;unfold rG;rw [VY (by omega),VY (by omega),VY (by omega),VX (f l h.ok),VX (g _ l h.len)]
def MK (l:List Ck):Bool:=l.any (fun c=>decide (c.cuts.length>60)||decide (c.dens.length>60))||decide (l.length>10)
theorem yED {len:Int} {cuts dens:List Int} (K:Bool→Prop):Dr len (aB cuts) (aB dens) K=K (decide (cuts.length>60)||decide (dens.length>60)):=by
 unfold Dr Sn;rw [cN,cN]
 by_cases h:cuts.length>60
 ·rw [cU (by omega),Eo h];rfl
 ·rw [cX (by omega),Os h,BQ];congr 1;rw [Aab];omega
theorem O8 (hl:l.length≤9223372036854775807) (K:Bool→Prop) :
  ∀ (r i n:Nat),i+r=l.length→r<n→Gm Dr (fun a=>(K a)) (fun b d e=>(K (decide ((((length b):Nat):Int)>(10:Int))))) n (cks l) i =
   K ((l.drop i).any (fun c=>decide (c.cuts.length>60)||decide (c.dens.length>60))||decide (l.length>10))
 | 0,i,n+1,hi,hn=>by unfold Gm;rw [gK,cX (by omega),oD (by omega)];show K _=K (false||_);rw [BQ];congr 1;rw [Aab];omega
 | r+1,i,n+1,hi,hn=>by
  unfold Gm;have e1:=dO (n:=(i:Int)+1) (by omega) (by omega);rw [gK,cU (by omega),dL,oZ (by omega),aK (by omega),aK (by omega),eS,rF,wU,Ab,yED,sQ default (by omega),List.any_cons,e1,mA]
  cases hb:(decide ((l.getD i default).cuts.length>60)||decide ((l.getD i default).dens.length>60)) with
  | true=>rw [bL];rfl
  | false=>rw [bQ,BQ];exact O8 hl K r (i+1) n (by omega) (by omega)
theorem yvM (hl:l.length≤9223372036854775807) (K:Bool→Prop):zN (cks l) K=K (MK l):=by refine xd _ _ (fun K k=>?_) K;unfold zN Su;refine ⟨l.length+1,?_⟩;have:=O8 hl K l.length 0 (l.length+1) (by omega) (by omega);rw [show ((0:Nat):Int)=0 from rfl,pK] at this;rw [this];exact k
theorem yBT (h:MK l=false):l.length≤10∧TQ l∧pA l:=by
 unfold MK at h;simp only [Ax,decide_eq_false_iff_not,List.any_eq_false,Bool.not_eq_true,Nat.not_lt] at h;have hh:∀ i,i<l.length→(l.getD i default).cuts.length≤60∧(l.getD i default).dens.length≤60:=by
  intro i hi;have hm:l.getD i default∈l:=by rw [cO,bY hi];exact mL hi
  have:=h.1 _ hm;omega
 exact ⟨by omega,fun i hi=>⟨by have:=hh i hi;omega,by have:=hh i hi;omega⟩,fun i hi=>⟨by have:=hh i hi;omega,by have:=hh i hi;omega⟩⟩
theorem yEE {n d:Int} (hn:-1000000000000000000≤n∧n≤1000000000000000000) (hd:1≤d∧d≤1000000000000000000):small ((n:Rat)/(d:Rat)):=by
 have e:(n:Rat)/(d:Rat)=mkRat n d.toNat:=by
  rw [Rat.mkRat_eq_div];have h1:((d.toNat:Nat):Int)=d:=by omega
  have h2:((d.toNat:Nat):Rat)=(d:Rat):=by rw [← Rat.intCast_natCast,h1]
  rw [h2]
 rw [e];unfold small;rw [Rat.num_mkRat,Rat.den_mkRat,VY (by omega),VY (by omega)];have g0:0<d.toNat.gcd n.natAbs:=Nat.gcd_pos_of_pos_left _ (by omega);have h1:(n/(d.toNat.gcd n.natAbs:Nat)).natAbs≤n.natAbs:=by
  rw [Int.natAbs_ediv_of_dvd,GZ]
  ·exact AB _ _
  ·rw [← Int.dvd_natAbs,Int.ofNat_dvd];exact Hc _ _
 have h2:d.toNat/d.toNat.gcd n.natAbs≤d.toNat:=AB _ _;generalize n/(d.toNat.gcd n.natAbs:Nat)=x at *
 generalize d.toNat/d.toNat.gcd n.natAbs=y at *
 omega
end
theorem Ac {D:Int} (h:1≤D):(D:Rat)≠0:=fun e=>by have:=Rat.intCast_eq_zero_iff.1 e;omega
section
variable {len:Int} {cuts dens:List Int}
def rem (cuts dens:List Int):Nat→Nat→Int
 | 0,_=>0
 | r+1,i=>dens.getD i 0*(cuts.getD (i+1) 0-cuts.getD i 0)+rem cuts dens r (i+1)
theorem O9 (cuts dens:List Int):∀ (r i:Nat) (s:Int),kL cuts dens r i s=s+rem cuts dens r i
 | 0,i,s=>by unfold kL rem;omega
 | r+1,i,s=>by unfold kL rem;rw [O9 cuts dens r (i+1)];omega
end
def BE:DS:=.a [.i .i64,.s (.i .i64),.s (.i .i64)]
theorem P0 {n:Int} (h:iL .i64 n):cL n:=by
 have e1:i64.min=-9223372036854775808:=by decide
 have e2:i64.max=9223372036854775807:=by decide
 unfold iL at h;rw [e1,e2] at h;exact h
theorem F_i {c:List PV} (h:HasF (.i .i64) c):∃ n,c=[.int .i64 n]∧cL n:=by simp only [HasF] at h;obtain ⟨n,e,k⟩:=h;exact ⟨n,e,P0 k⟩
theorem ML:∀ (rows:List PV),(∀ x∈rows,x.isAgg=(DS.i .i64).isA∧HasF (.i .i64) x.cells)→∃ l:List Int,rows=aB l∧∀ n∈l,cL n
 | [],_=>⟨[],rfl,by simp⟩
 | x::r,h=>by
  obtain ⟨l,e,hl⟩:=ML r (fun y hy=>h y (gL _ hy));obtain ⟨h1,h2⟩:=h x (iP ..);obtain ⟨n,e2,hn⟩:=F_i h2;have ex:x=.int .i64 n:=by
   cases x<;>first | (simp only [PV.cells,kO,and_true] at e2;exact e2) | (cases h1)
  refine ⟨n::l,by rw [ex,e];rfl,?_⟩;intro m hm;rcases qAp.1 hm with rfl | hm
  ·exact hn
  ·exact hl m hm
def Ck.i64 (c:Ck):Prop:=cL c.len∧(∀ n∈c.cuts,cL n)∧∀ n∈c.dens,cL n
theorem F_c {c:List PV} (h:HasF BE c):∃ k:Ck,c=[.int .i64 k.len,.data (aB k.cuts),.data (aB k.dens)]∧k.i64∧k.cuts.length≤9223372036854775807∧k.dens.length≤9223372036854775807:=by simp only [BE,HasF,HasL] at h;obtain ⟨c1,c2,rfl,⟨n,rfl,hn⟩,c3,c4,rfl,⟨r1,rfl,l1,h1⟩,c5,c6,rfl,⟨r2,rfl,l2,h2⟩,rfl⟩:=h;obtain ⟨a,rfl,ha⟩:=ML r1 (fun x hx=>⟨(h1 x hx).1,by simp only [HasF];exact (h1 x hx).2⟩);obtain ⟨b,rfl,hb⟩:=ML r2 (fun x hx=>⟨(h2 x hx).1,by simp only [HasF];exact (h2 x hx).2⟩);rw [cN] at l1 l2;exact ⟨⟨n,a,b⟩,rfl,⟨P0 hn,ha,hb⟩,l1,l2⟩
theorem yKA {x:PV} {l:List DS} (h:x.isAgg=(DS.a l).isA):x=.agg x.cells:=by
 cases x<;>first | rfl | cases h
theorem P3:∀ (rows:List PV),(∀ x∈rows,x.isAgg=BE.isA∧HasF BE x.cells)→∃ l:List Ck,rows=cks l∧∀ c∈l,c.i64
 | [],_=>⟨[],rfl,by simp⟩
 | x::r,h=>by
  obtain ⟨l,e,hl⟩:=P3 r (fun y hy=>h y (gL _ hy));obtain ⟨h1,h2⟩:=h x (iP ..);obtain ⟨k,e2,hk,_⟩:=F_c h2;have ex:x=mI k:=by rw [yKA h1,e2];rfl
  refine ⟨k::l,by rw [ex,e];rfl,?_⟩;intro m hm;rcases qAp.1 hm with rfl | hm
  ·exact hk
  ·exact hl m hm
theorem yNa {c:List PV} (h:HasF (.s BE) c):∃ l:List Ck,c=[.data (cks l)]∧l.length≤9223372036854775807∧∀ k∈l,k.i64:=by simp only [HasF] at h;obtain ⟨rows,rfl,hl,hr⟩:=h;obtain ⟨l,rfl,hi⟩:=P3 rows hr;rw [gK] at hl;exact ⟨l,rfl,hl,hi⟩
theorem P4 {x y:PV} (h:x.isAgg=false) (e:x.cells=[y]):x=y:=by
 cases x<;>first | (simp only [PV.cells,kO,and_true] at e;exact e) | cases h
end Go.Pf.Vc
namespace Go.Pf.Vc
def fQ (a b:Rat):Rat:=if a<b then b else a
def rH (a b:Rat):Rat:=if a<b then a else b
theorem uN (a b:Rat):a≤fQ a b∧b≤fQ a b∧(fQ a b=a∨fQ a b=b):=by unfold fQ;split<;>grind
theorem Ad (a b:Rat):rH a b≤a∧rH a b≤b∧(rH a b=a∨rH a b=b):=by unfold rH;split<;>grind
end Go.Pf.Vc
namespace Go.Pf.Vc
open Go Go.Pf
theorem asTr (P:Prop):asr (decide True) P=P:=by rw [decide_true];rfl
section
variable {len:Int} {cuts dens:List Int}
def uC (cuts:List Int) (i:Nat) (x:Rat):Rat:=rH (fQ x (cuts.getD i 0:Int)) (cuts.getD (i+1) 0:Int)
def vu (cuts dens:List Int) (x:Rat):Nat→Nat→Rat
 | 0,_=>0
 | r+1,i=>(dens.getD i 0:Int)*uC cuts i x+vu cuts dens x r (i+1)
theorem MM (h:VC len cuts dens):∀ (r i:Nat) {x y:Rat},i+r=dens.length→x≤(cuts.getD i 0:Int)→y≤(cuts.getD i 0:Int)→vu cuts dens x r i=vu cuts dens y r i
 | 0,_,_,_,_,_,_=>rfl
 | r+1,i,x,y,hi,hx,hy=>by
  have l1:=h.l1;have hst:((cuts.getD i 0:Int):Rat)<((cuts.getD (i+1) 0:Int):Rat):=JS.2 (h.step (i:=i) (by omega));have ih:=MM h r (i+1) (x:=x) (y:=y) (by omega) (by grind) (by grind);unfold vu;rw [ih];have e:uC cuts i x=uC cuts i y:=by
   unfold uC;have a1:=uN x (cuts.getD i 0:Int);have a2:=uN y (cuts.getD i 0:Int);have e1:fQ x (cuts.getD i 0:Int)=(cuts.getD i 0:Int):=by grind
   have e2:fQ y (cuts.getD i 0:Int)=(cuts.getD i 0:Int):=by grind
   rw [e1,e2]
  rw [e]
theorem Jt {α:Type} {q:Rat} {k:Rat→Except Int α} {v:α} (h:mR q k=.ok v):k q=.ok v:=by
 unfold mR at h;split at h
 ·exact h
 ·cases h
def vX (cuts dens:List Int) (x:Rat):Rat:=vu cuts dens x dens.length 0
theorem P5 (h:VC len cuts dens) {i:Nat} (hi:i+1<cuts.length) {x y:Rat} (hxy:x≤y):uC cuts i x≤uC cuts i y:=by have hst:((cuts.getD i 0:Int):Rat)<((cuts.getD (i+1) 0:Int):Rat):=JS.2 (h.step (i:=i) hi);have m1:=uN x (cuts.getD i 0:Int);have m2:=uN y (cuts.getD i 0:Int);have n1:=Ad (fQ x (cuts.getD i 0:Int)) (cuts.getD (i+1) 0:Int);have n2:=Ad (fQ y (cuts.getD i 0:Int)) (cuts.getD (i+1) 0:Int);unfold uC;grind
theorem P6 (h:VC len cuts dens) {i:Nat} (hi:i<dens.length):(0:Rat)≤((dens.getD i 0:Int):Rat):=Ee.2 (h.den hi).1
theorem TR (h:VC len cuts dens) {x y:Rat} (hxy:x≤y):∀ (r i:Nat),i+r=dens.length→vu cuts dens x r i≤vu cuts dens y r i
 | 0,_,_=>dT
 | r+1,i,hi=>by have l1:=h.l1;have h1:=P5 h (i:=i) (by omega) hxy;have h2:=TR h hxy r (i+1) (by omega);have h3:=xG h1 (P6 h (i:=i) (by omega));unfold vu;grind
theorem P7 (h:VC len cuts dens) {x y:Rat} (hxy:x≤y):vX cuts dens x≤vX cuts dens y:=TR h hxy dens.length 0 (by omega)
theorem MN (h:VC len cuts dens):∀ (r i:Nat) (p v q:Rat),i+r=dens.length→0<v→((cuts.getD i 0:Int):Rat)≤p→jB cuts dens r i p v=.ok q →
  vu cuts dens q r i-vu cuts dens p r i=v∧p<q∧q≤((cuts.getD dens.length 0:Int):Rat)∧∀ x,x<q→vu cuts dens x r i<vu cuts dens q r i
 | 0,_,_,_,_,_,_,_,e=>by cases e
 | r+1,i,p,v,q,hi,hv,hp,e=>by
  have l1:=h.l1;have hst:((cuts.getD i 0:Int):Rat)<((cuts.getD (i+1) 0:Int):Rat):=JS.2 (h.step (i:=i) (by omega));have hd:=h.den (i:=i) (by omega);have hd0:=P6 h (i:=i) (by omega);have low:=fun {x y:Rat}=>MM h r (i+1) (x:=x) (y:=y) (by omega)
  have hmon:=fun {x:Rat} (hx:x<q)=>P5 h (i:=i) (by omega) (eY hx)
  have hmon2:=fun {x:Rat} (hx:x<q)=>TR h (eY hx) r (i+1) (by omega)
  have m1:=uN p (cuts.getD i 0:Int);have m2:=uN q (cuts.getD i 0:Int);have n1:=Ad (fQ p (cuts.getD i 0:Int)) (cuts.getD (i+1) 0:Int);have n2:=Ad (fQ q (cuts.getD i 0:Int)) (cuts.getD (i+1) 0:Int);unfold jB at e
  by_cases c1:p<((cuts.getD (i+1) 0:Int):Rat)
  case neg=>
   rw [VX c1] at e;obtain ⟨a1,a2,a3,a4⟩:=MN h r (i+1) p v q (by omega) hv (Rat.not_lt.1 c1) e;have eq:uC cuts i q=uC cuts i p:=by unfold uC;grind
   refine ⟨by unfold vu;rw [eq];grind,a2,a3,fun x hx=>?_⟩;have b1:=a4 x hx;have b2:=xG (hmon hx) hd0;unfold vu;grind
  rw [VY (fun k=>k c1)] at e
  by_cases c2:dens.getD i 0=0
  ·rw [VX c2] at e;obtain ⟨a1,a2,a3,a4⟩:=MN h r (i+1) _ v q (by omega) hv dT e;have e2:=low (x:=p) (y:=((cuts.getD (i+1) 0:Int):Rat)) (eY c1) dT;refine ⟨by unfold vu;rw [e2,c2];grind,by grind,a3,fun x hx=>?_⟩;have b1:=a4 x hx;have b2:=xG (hmon hx) hd0;unfold vu;grind
  rw [VY c2] at e;have e:=Jt (Jt e);have dpos:(0:Rat)<((dens.getD i 0:Int):Rat):=Rat.intCast_pos.2 (by omega);have up:uC cuts i p=p:=by unfold uC;grind
  by_cases c3:(((cuts.getD (i+1) 0:Int):Rat)-p)*((dens.getD i 0:Int):Rat)<v
  ·rw [VX c3] at e;have e:=Jt e;obtain ⟨a1,a2,a3,a4⟩:=MN h r (i+1) _ _ q (by omega) (by grind) dT e;have e2:=low (x:=p) (y:=((cuts.getD (i+1) 0:Int):Rat)) (eY c1) dT;have uq:uC cuts i q=((cuts.getD (i+1) 0:Int):Rat):=by unfold uC;grind
   refine ⟨by unfold vu;rw [e2,up,uq];grind,by grind,a3,fun x hx=>?_⟩;have b1:=a4 x hx;have b2:=xG (hmon hx) hd0;unfold vu;grind
  ·rw [VY c3] at e;have e:=Jt (Jt e)
   cases e
   generalize hs:v/((dens.getD i 0:Int):Rat)=s at *
   have es:s*((dens.getD i 0:Int):Rat)=v:=by rw [← hs];exact Rat.div_mul_cancel (by grind)
   have s0:0<s:=by
    refine Rat.not_le.1 fun k=>?_
    have:=BI k hd0;grind
   have s1:p+s≤((cuts.getD (i+1) 0:Int):Rat):=by
    refine Rat.not_lt.1 fun k=>?_
    have:(((cuts.getD (i+1) 0:Int):Rat)-p)<s:=by grind
    have:=JP this dpos;grind
   have uq:uC cuts i (p+s)=p+s:=by unfold uC;grind
   have e2:=low (x:=p+s) (y:=p) s1 (eY c1);have hlast:cuts.getD (i+1) 0≤cuts.getD dens.length 0:=h.mono (by omega) (by omega);have hlast:((cuts.getD (i+1) 0:Int):Rat)≤((cuts.getD dens.length 0:Int):Rat):=kM.2 hlast;refine ⟨by unfold vu;rw [e2,up,uq];grind,by grind,by grind,fun x hx=>?_⟩;have b1:=hmon2 hx;have ux:uC cuts i x<p+s:=by have k1:=uN x (cuts.getD i 0:Int);have k2:=Ad (fQ x (cuts.getD i 0:Int)) (cuts.getD (i+1) 0:Int);unfold uC;grind
   have b2:=GT ux dpos;unfold vu;rw [uq];grind
theorem VC.last (h:VC len cuts dens):cuts.getD dens.length 0=len:=by have l1:=h.l1;have:=h.2.2.2.2.2.2.1;rw [show dens.length=cuts.length-1 by omega];exact this
theorem P8 (h:VC len cuts dens) {a v q:Rat} (h0:0≤a) (h1:a≤(len:Rat)) (hv:0≤v) (e:mrkC cuts dens a v=.ok q) :
  vX cuts dens q=vX cuts dens a+v∧a≤q∧q≤(len:Rat)∧(v=0→a=q)∧(v≠0→∀ x,x<q→vX cuts dens x<vX cuts dens q):=by
 unfold mrkC at e
 by_cases c:v=0
 ·rw [VX c] at e
  cases e
  rw [c];exact ⟨by grind,dT,h1,fun _=>rfl,fun k=>absurd rfl k⟩
 ·rw [VY c] at e;have c0:cuts.getD 0 0=0:=h.2.2.2.2.2.1;obtain ⟨a1,a2,a3,a4⟩:=MN h dens.length 0 a v q (by omega) (by grind) (by rw [c0];exact h0) e;rw [h.last] at a3;exact ⟨by unfold vX;grind,eY a2,a3,fun k=>absurd k c,fun _=>a4⟩
end
def In (D:Int) (q:Rat):Prop:=∃ n:Int,q=(n:Rat)/(D:Rat)
theorem In.int {D:Int} (h:1≤D) (c:Int):In D (c:Rat):=⟨c*D,by rw [pJ,Rat.mul_div_cancel (Ac h)]⟩
theorem In.add {D:Int} {q r:Rat} (h:In D q) (k:In D r):In D (q+r):=by obtain ⟨n,rfl⟩:=h;obtain ⟨m,rfl⟩:=k;exact ⟨n+m,by rw [Rat.intCast_add];grind⟩
theorem In.sub {D:Int} {q r:Rat} (h:In D q) (k:In D r):In D (q-r):=by obtain ⟨n,rfl⟩:=h;obtain ⟨m,rfl⟩:=k;exact ⟨n-m,by rw [BN];grind⟩
theorem In.mulI {D:Int} {q:Rat} (h:In D q) (d:Int):In D (q*(d:Rat)):=by obtain ⟨n,rfl⟩:=h;exact ⟨n*d,by rw [pJ];grind⟩
theorem In.div {D d:Int} {q:Rat} (hD:1≤D) (hd:1≤d) (h:In D q):In (d*D) (q/(d:Rat)):=by obtain ⟨n,rfl⟩:=h;have h1:=Ac hD;have h2:=Ac hd;refine ⟨n,?_⟩;rw [pJ];grind
theorem In.small {D M:Int} {q:Rat} (h:In D q) (hD:1≤D∧D≤1000000000000000000) (hM:M*D≤1000000000000000000) (h0:-(M:Rat)≤q) (h1:q≤(M:Rat)):small q:=by
 obtain ⟨n,rfl⟩:=h;have hp:(0:Rat)<(D:Rat):=Rat.intCast_pos.2 (by omega);have e:(n:Rat)/(D:Rat)*(D:Rat)=(n:Rat):=Rat.div_mul_cancel (Ac hD.1);have a:=BI h0 (eY hp);have b:=BI h1 (eY hp);rw [e] at a b;have a':((-(M*D):Int):Rat)≤(n:Rat):=by rw [Rat.intCast_neg,pJ];grind
 have b':(n:Rat)≤((M*D:Int):Rat):=by rw [pJ];exact b
 have a2:=kM.1 a';have b2:=kM.1 b';exact yEE (d:=D) ⟨by omega,by omega⟩ ⟨by omega,by omega⟩
section
variable {len:Int} {cuts dens:List Int}
theorem yKB (h:VC len cuts dens) {u:Rat} (h0:0≤u) (h1:u<(len:Rat)):∃ i,i<dens.length∧((cuts.getD i 0:Int):Rat)≤u∧u<((cuts.getD (i+1) 0:Int):Rat):=by
 have key:∀ n,n≤dens.length→u<((cuts.getD n 0:Int):Rat)→∃ i,i<n∧((cuts.getD i 0:Int):Rat)≤u∧u<((cuts.getD (i+1) 0:Int):Rat):=by
  intro n;induction n with
  | zero =>intro _ hu;have c0:cuts.getD 0 0=0:=h.2.2.2.2.2.1;rw [c0] at hu;have:u<0:=hu;grind
  | succ n ih=>
   intro hn hu
   by_cases hc:u<((cuts.getD n 0:Int):Rat)
   ·obtain ⟨i,h1,h2,h3⟩:=ih (by omega) hc;exact ⟨i,by omega,h2,h3⟩
   ·exact ⟨n,by omega,Rat.not_lt.1 hc,hu⟩
 obtain ⟨i,h1,h2,h3⟩:=key dens.length (bV _) (by rw [h.last];exact h1);exact ⟨i,h1,h2,h3⟩
theorem GE (h:VC len cuts dens) {i j:Nat} (hij:i≤j) (hj:j≤dens.length):((cuts.getD i 0:Int):Rat)≤((cuts.getD j 0:Int):Rat):=kM.2 (h.mono hij (by have:=h.l1;omega))
theorem P9 (h:VC len cuts dens) {i:Nat} (hi:i<dens.length) {u p:Rat} (h0:((cuts.getD i 0:Int):Rat)≤u) (h1:u≤p) (h2:p≤((cuts.getD (i+1) 0:Int):Rat)) :
  ∀ (r j:Nat),j+r=dens.length→j≤i→vu cuts dens p r j=vu cuts dens u r j+((dens.getD i 0:Int):Rat)*(p-u)
 | 0,j,hj,hji=>by omega
 | r+1,j,hj,hji=>by
  have hst:((cuts.getD j 0:Int):Rat)≤((cuts.getD (j+1) 0:Int):Rat):=GE h (Nat.le_succ j) (by omega);have m1:=uN p (cuts.getD j 0:Int);have m2:=uN u (cuts.getD j 0:Int);have n1:=Ad (fQ p (cuts.getD j 0:Int)) (cuts.getD (j+1) 0:Int);have n2:=Ad (fQ u (cuts.getD j 0:Int)) (cuts.getD (j+1) 0:Int)
  by_cases e:j=i
  ·subst e;have low:=MM h r (j+1) (x:=p) (y:=u) (by omega) h2 (by grind);have ep:uC cuts j p=p:=by unfold uC;grind
   have eu:uC cuts j u=u:=by unfold uC;grind
   unfold vu;rw [low,ep,eu];grind
  ·have hc:((cuts.getD (j+1) 0:Int):Rat)≤((cuts.getD i 0:Int):Rat):=GE h (by omega) (by omega);have ih:=P9 h hi h0 h1 h2 r (j+1) (by omega) (by omega);have ep:uC cuts j p=uC cuts j u:=by unfold uC;grind
   unfold vu;rw [ih,ep];grind
theorem MO (h:VC len cuts dens) {i:Nat} (hi:i<dens.length) {u p:Rat} (h0:((cuts.getD i 0:Int):Rat)≤u) (h1:u≤p) (h2:p≤((cuts.getD (i+1) 0:Int):Rat)) :
 vX cuts dens p=vX cuts dens u+((dens.getD i 0:Int):Rat)*(p-u):=P9 h hi h0 h1 h2 dens.length 0 (by omega) (jJ _)
def GF (dens:List Int):Prop:=∀ i,i<dens.length→0<dens.getD i 0
theorem Q0 (h:VC len cuts dens) (hh:GF dens) {u w:Rat} (h0:0≤u) (h1:u<w) (h2:w≤(len:Rat)):vX cuts dens u<vX cuts dens w:=by
 obtain ⟨i,i1,i2,i3⟩:=yKB h h0 (by grind);have hd:(0:Rat)<((dens.getD i 0:Int):Rat):=Rat.intCast_pos.2 (hh i i1)
 by_cases hw:w≤((cuts.getD (i+1) 0:Int):Rat)
 ·have e:=MO h i1 i2 (eY h1) hw;have:=GT (show (0:Rat)<w-u by grind) hd;grind
 ·have e:=MO h i1 i2 (eY i3) dT;have:=GT (show (0:Rat)<((cuts.getD (i+1) 0:Int):Rat)-u by grind) hd;have m:=P7 h (x:=((cuts.getD (i+1) 0:Int):Rat)) (y:=w) (eY (Rat.not_le.1 hw));grind
theorem Q1 (h:VC len cuts dens) (hh:GF dens) {u w:Rat} (_:0≤u) (h1:u≤(len:Rat)) (k0:0≤w) (_:w≤(len:Rat)):vX cuts dens u≤vX cuts dens w↔u≤w:=by
 constructor
 ·intro hle;refine Rat.not_lt.1 fun hlt=>?_
  have:=Q0 h hh k0 hlt h1;grind
 ·exact P7 h
theorem Q2 (h:VC len cuts dens):∀ (r i:Nat),i+r=dens.length→vu cuts dens (len:Rat) r i-vu cuts dens ((cuts.getD i 0:Int):Rat) r i=((rem cuts dens r i:Int):Rat)
 | 0,_,_=>by unfold vu rem;show (0:Rat)-0=0;grind
 | r+1,i,hi=>by
  have ih:=Q2 h r (i+1) (by omega);have hst:((cuts.getD i 0:Int):Rat)≤((cuts.getD (i+1) 0:Int):Rat):=GE h (Nat.le_succ i) (by omega);have hl:((cuts.getD (i+1) 0:Int):Rat)≤(len:Rat):=by rw [← h.last];exact GE h (by omega) (bV _)
  have low:=MM h r (i+1) (x:=((cuts.getD i 0:Int):Rat)) (y:=((cuts.getD (i+1) 0:Int):Rat)) (by omega) hst dT;have m1:=uN (len:Rat) (cuts.getD i 0:Int);have n1:=Ad (fQ (len:Rat) (cuts.getD i 0:Int)) (cuts.getD (i+1) 0:Int);have m2:=uN ((cuts.getD i 0:Int):Rat) (cuts.getD i 0:Int);have n2:=Ad (fQ ((cuts.getD i 0:Int):Rat) (cuts.getD i 0:Int)) (cuts.getD (i+1) 0:Int);have e1:uC cuts i (len:Rat)=((cuts.getD (i+1) 0:Int):Rat):=by unfold uC;grind
  have e2:uC cuts i ((cuts.getD i 0:Int):Rat)=((cuts.getD i 0:Int):Rat):=by unfold uC;grind
  unfold vu rem;rw [e1,e2,low,Rat.intCast_add,pJ,BN,← ih];grind
theorem yKC (h:VC len cuts dens):vX cuts dens (len:Rat)-vX cuts dens 0=((totC cuts dens:Int):Rat):=by have c0:cuts.getD 0 0=0:=h.2.2.2.2.2.1;have:=Q2 h dens.length 0 (by omega);rw [c0] at this;unfold totC;rw [O9,show (0:Int)+rem cuts dens dens.length 0=rem cuts dens dens.length 0 by omega];exact this
theorem wV (h:VC len cuts dens):(1:Rat)≤(len:Rat)∧(len:Rat)≤1000:=by have:=h.len0;exact ⟨kM.2 this.1,kM.2 this.2⟩
theorem GG (h:VC len cuts dens) {i:Nat} (hi:i<dens.length):(0:Rat)≤((dens.getD i 0:Int):Rat)∧((dens.getD i 0:Int):Rat)≤12:=by have:=h.den hi;exact ⟨kM.2 this.1,kM.2 this.2⟩
theorem yHW {x d:Rat} (h0:0≤x) (hd:0≤d∧d≤12):0≤x*d∧x*d≤12*x:=by have a:=vC h0 hd.1;have b:=xG hd.2 h0;exact ⟨a,by grind⟩
end
def upC (c:Ck):Nat→Int
 | 0=>0
 | i+1=>upC c i+c.dens.getD i 0*(c.cuts.getD (i+1) 0-c.cuts.getD i 0)
def aI (c:Ck) (i:Nat):Rat:=((c.cuts.getD i 0:Int):Rat)
def aR (c:Ck) (i:Nat):Rat:=((c.dens.getD i 0:Int):Rat)
def dJ (c:Ck) (i:Nat):Rat:=((upC c i:Int):Rat)
def dE (c:Ck) (x:Rat):Rat:=vX c.cuts c.dens x
def bM (c:Ck):Rat:=((totC c.cuts c.dens:Int):Rat)
def cM (L:Int) (c:Ck):Prop:=VC L c.cuts c.dens∧GF c.dens
theorem BF (c:Ck) (i:Nat):dJ c (i+1)=dJ c i+aR c i*(aI c (i+1)-aI c i):=by unfold dJ aI aR;rw [upC,Rat.intCast_add,pJ,BN]
theorem GH {L:Int} {c:Ck} (h:cM L c) {i:Nat} (hi:i<c.dens.length):aI c i<aI c (i+1):=by have:=h.1.l1;exact JS.2 (h.1.step (i:=i) (by omega))
theorem wW {L:Int} {c:Ck} (h:cM L c):aI c 0=0:=by unfold aI;rw [h.1.2.2.2.2.2.1];rfl
theorem GI {L:Int} {c:Ck} (h:cM L c):aI c c.dens.length=(L:Rat):=by unfold aI;rw [h.1.last]
theorem Ae {L:Int} {c:Ck} (h:cM L c) {i:Nat} (hi:i≤c.dens.length):0≤aI c i:=by have:=GE h.1 (jJ i) hi;have h0:=wW h;unfold aI at h0 ⊢;rw [h0] at this;exact this
theorem wZ {L:Int} {c:Ck} (h:cM L c) {i:Nat} (hi:i≤c.dens.length):aI c i≤(L:Rat):=by have:=GE h.1 hi (bV _);have h0:=GI h;unfold aI at h0 ⊢;rw [h0] at this;exact this
theorem den_pos {L:Int} {c:Ck} (h:cM L c) {i:Nat} (hi:i<c.dens.length):0<aR c i:=Rat.intCast_pos.2 (h.2 i hi)
theorem GJ {L:Int} {c:Ck} (h:cM L c):∀ i,i≤c.dens.length→dE c (aI c i)=dE c 0+dJ c i
 | 0,_=>by rw [wW h];show _=_+((0:Int):Rat);grind
 | i+1,hi=>by have ih:=GJ h i (by omega);have e:=MO h.1 (i:=i) (by omega) (u:=aI c i) (p:=aI c (i+1)) dT (eY (GH h (by omega))) dT;have e':dE c (aI c (i+1))=dE c (aI c i)+aR c i*(aI c (i+1)-aI c i):=e;rw [e',ih,BF];grind
theorem Ju {L:Int} {c:Ck} (h:cM L c) {i:Nat} (hi:i<c.dens.length) {y:Rat} (h0:aI c i≤y) (h1:y≤aI c (i+1)):dE c y=dE c 0+dJ c i+aR c i*(y-aI c i):=by have e:dE c y=dE c (aI c i)+aR c i*(y-aI c i):=MO h.1 hi dT h0 h1;rw [e,GJ h i (by omega)]
theorem Jv {L:Int} {c:Ck} (h:cM L c):dE c (L:Rat)=dE c 0+bM c:=by have:=yKC h.1;unfold dE bM;grind
theorem rI {L:Int} {c:Ck} (h:cM L c):0<bM c:=by have h1:=(wV h.1).1;have e:dE c 0<dE c (L:Rat):=Q0 h.1 h.2 dT (by grind) dT;have:=Jv h;grind
structure Ln where
 A:Rat
 B:Rat
def Ln.p (x:Ln) (q:Rat):Rat:=x.A+x.B*q
def dA (c:Ck) (f t:Nat) (x:Ln):Ln:=⟨((x.A-aI c f)*aR c f+(dJ c f-dJ c t))/aR c t+aI c t,(x.B*aR c f+bM c)/aR c t⟩
def wh (x:Ln) (n:Rat):Rat:=(n-x.A)/x.B
theorem rtri (a b:Rat):a<b∨a=b∨b<a:=by
 by_cases h:a<b
 ·exact .inl h
 ·by_cases k:b<a
  ·exact .inr (.inr k)
  ·exact .inr (.inl (by grind))
theorem jC {a b:Rat} (h:b≠0):a/b*b=a:=by rw [Rat.div_def,Rat.mul_assoc,Rat.inv_mul_cancel b h,Rat.mul_one]
theorem MP {c:Ck} {f t:Nat} {x:Ln} (h:0<aR c t) (q:Rat):aR c t*((dA c f t x).p q-aI c t)+dJ c t=aR c f*(x.p q-aI c f)+dJ c f+q*bM c:=by
 have h0:aR c t≠0:=by grind
 have e1:=jC (a:=(x.A-aI c f)*aR c f+(dJ c f-dJ c t)) h0;have e2:=jC (a:=x.B*aR c f+bM c) h0;unfold Ln.p dA;simp only;generalize ((x.A-aI c f)*aR c f+(dJ c f-dJ c t))/aR c t=u at *
 generalize (x.B*aR c f+bM c)/aR c t=v at *
 grind
theorem TS {a b:Rat} (h:0<b) (ha:0<a):0<a/b:=by rw [Rat.div_def];exact Rat.mul_pos ha (Rat.inv_pos.2 h)
theorem GK {c:Ck} {f t:Nat} {x:Ln} (h:0<aR c t) (hf:0<aR c f) (hT:0<bM c) (hB:0≤x.B):0<(dA c f t x).B:=by have:=vC hB (eY hf);exact TS h (by grind)
theorem nI {x:Ln} (h:0<x.B) (n:Rat):x.p (wh x n)=n:=by
 have e:=jC (a:=n-x.A) (b:=x.B) (by grind);unfold Ln.p wh;generalize (n-x.A)/x.B=u at *
 grind
theorem DE {x:Ln} (h:0≤x.B) {q r:Rat} (hq:q≤r):x.p q≤x.p r:=by have:=xG hq h;unfold Ln.p;grind
theorem Af {x:Ln} (h:0<x.B) {q r:Rat} (hq:q<r):x.p q<x.p r:=by have:=GT hq h;unfold Ln.p;grind
theorem Q3 {x:Ln} (h:0<x.B) {q n:Rat} (hq:q≤wh x n):x.p q≤n:=by have:=DE (eY h) hq;rw [nI h] at this;exact this
theorem MQ {x:Ln} (h:0<x.B) {q n:Rat}:wh x n=q↔x.p q=n:=by
 constructor
 ·intro e;rw [← e,nI h]
 ·intro e;rcases rtri (wh x n) q with k | k | k
  ·have:=Af h k;rw [nI h] at this;grind
  ·exact k
  ·have:=Af h k;rw [nI h] at this;grind
theorem TT {x:Ln} (h:0<x.B) {q n:Rat} (hq:x.p q<n):q<wh x n:=by
 rcases rtri (wh x n) q with k|k|k
 ·have:=Af h k;rw [nI h] at this;grind
 ·have:=nI h n;rw [k] at this;grind
 ·exact k
abbrev Sq:=Ck×Nat×Nat
def aY (s:Sq) (x:Ln):Ln:=dA s.1 s.2.1 s.2.2 x
def nJ:List Sq→Ln→Ln
 | [],x=>x
 | s::S,x=>nJ S (aY s x)
def jD (L:Int):List Sq→Ln→Rat→Prop
 | [],_,_=>True
 | s::S,x,q=>cM L s.1∧s.2.1<s.1.dens.length∧s.2.2<s.1.dens.length∧aI s.1 s.2.1≤x.p q∧x.p q<aI s.1 (s.2.1+1)∧aI s.1 s.2.2≤(aY s x).p q∧(aY s x).p q<aI s.1 (s.2.2+1)∧jD L S (aY s x) q
def sR (L:Int):List Sq→Ln→Rat→Prop
 | [],_,_=>True
 | s::S,x,q=>cM L s.1∧s.2.1<s.1.dens.length∧s.2.2<s.1.dens.length∧aI s.1 s.2.1≤x.p q∧x.p q≤aI s.1 (s.2.1+1)∧aI s.1 s.2.2≤(aY s x).p q∧(aY s x).p q≤aI s.1 (s.2.2+1)∧sR L S (aY s x) q
def lL:List Sq→Ln→Bool→List Rat
 | [],_,_=>[]
 | s::S,x,b=>(if b then [wh x (aI s.1 (s.2.1+1))] else [])++wh (aY s x) (aI s.1 (s.2.2+1))::lL S (aY s x) true
def lM (q:Rat):List Sq→Ln→Bool→List Sq
 | [],_,_=>[]
 | s::S,x,b=>(s.1,s.2.1+(if b=true∧wh x (aI s.1 (s.2.1+1))=q then 1 else 0),s.2.2+(if wh (aY s x) (aI s.1 (s.2.2+1))=q then 1 else 0))::lM q S (aY s x) true
def Ch (L:Int):List Ck→Rat→Rat→List Rat→Prop
 | [],_,_,ys=>ys=[]
 | c::cs,p,q,ys=>∃ y r,ys=y::r∧p≤y∧y≤(L:Rat)∧dE c y=dE c p+q*bM c∧Ch L cs y q r
def DF:List Sq→Ln→Rat→List Rat
 | [],_,_=>[]
 | s::S,x,q=>(aY s x).p q::DF S (aY s x) q
theorem Q4 {L:Int} {s:Sq} {x:Ln} {q:Rat} (h:cM L s.1) (h1:s.2.1<s.1.dens.length) (h2:s.2.2<s.1.dens.length) (a:aI s.1 s.2.1≤x.p q) (b:x.p q≤aI s.1 (s.2.1+1)) (c:aI s.1 s.2.2≤(aY s x).p q) (d:(aY s x).p q≤aI s.1 (s.2.2+1)) :
  dE s.1 ((aY s x).p q)=dE s.1 (x.p q)+q*bM s.1:=by
 rw [Ju h h2 c d,Ju h h1 a b];have:=MP (x:=x) (c:=s.1) (f:=s.2.1) (t:=s.2.2) (den_pos h h2) q;unfold aY;grind
theorem Q5 {L:Int} {c:Ck} (h:cM L c) {p y q:Rat} (p0:0≤p) (p1:p≤(L:Rat)) (y0:0≤y) (y1:y≤(L:Rat)) (hq:0≤q) (e:dE c y=dE c p+q*bM c):p≤y:=by have:=vC hq (eY (rI h));exact (Q1 h.1 h.2 p0 p1 y0 y1).1 (by unfold dE at e;grind)
theorem sR.ch {L:Int} {q:Rat} (hq:0≤q):∀ {S:List Sq} {x:Ln},sR L S x q→Ch L (S.map (·.1)) (x.p q) q (DF S x q)
 | [],_,_=>rfl
 | s::S,x,⟨h,h1,h2,a,b,c,d,hr⟩=>by have e:=Q4 h h1 h2 a b c d;have k1:=Ae h (i:=s.2.1) (by omega);have k2:=Ae h (i:=s.2.2) (by omega);have k3:=wZ h (i:=s.2.1+1) (by omega);have k4:=wZ h (i:=s.2.2+1) (by omega);exact ⟨_,_,rfl,Q5 h (gE k1 a) (gE b k3) (gE k2 c) (gE d k4) hq e,gE d k4,e,sR.ch hq hr⟩
theorem sR.le_last {L:Int} {q:Rat} (hq:0≤q):∀ {S:List Sq} {x:Ln},sR L S x q→x.p q≤(nJ S x).p q
 | [],_,_=>dT
 | s::S,x,⟨h,h1,h2,a,b,c,d,hr⟩=>by have e:=Q4 h h1 h2 a b c d;have k1:=Ae h (i:=s.2.1) (by omega);have k2:=Ae h (i:=s.2.2) (by omega);have k3:=wZ h (i:=s.2.1+1) (by omega);have k4:=wZ h (i:=s.2.2+1) (by omega);exact gE (Q5 h (gE k1 a) (gE b k3) (gE k2 c) (gE d k4) hq e) (sR.le_last hq hr)
theorem Q6 {L:Int} {q0 q:Rat} (hq:q0≤q):∀ {S:List Sq} {x:Ln} {b:Bool},jD L S x q0→(∀ w∈lL S x b,q≤w)→(b=true→0<x.B)→(b=false→x.B=0)→sR L S x q
 | [],_,_,_,_,_,_=>trivial
 | s::S,x,b,⟨h,h1,h2,a1,a2,a3,a4,hr⟩,hw,hb,hn=>by
  have hB:0≤x.B:=by cases b<;>grind
  have hB':0<(aY s x).B:=GK (den_pos h h2) (den_pos h h1) (rI h) hB;refine ⟨h,h1,h2,gE a1 (DE hB hq),?_,gE a3 (DE (eY hB') hq),Q3 hB' (hw _ (by simp [lL])),Q6 hq hr (fun w k=>hw w (by simp only [lL,qAz,qAp];exact Or.inr (Or.inr k))) (fun _=>hB') (fun k=>by cases k)⟩
  cases b with
  | true=>exact Q3 (hb rfl) (hw _ (by simp [lL]))
  | false=>
   have:=hn rfl;have e:x.p q=x.p q0:=by unfold Ln.p;rw [this];grind
   rw [e];exact eY a2
theorem yKD {L:Int} {c:Ck} {f t f' t':Nat} {x x':Ln} {q:Rat} (h:cM L c) (ht:t<c.dens.length) (ht':t'<c.dens.length) (hx:x'.p q=x.p q)
  (hf:f'=f∨(f'=f+1∧x.p q=aI c (f+1))) (hg:t'=t∨(t'=t+1∧(dA c f t x).p q=aI c (t+1))):(dA c f' t' x').p q=(dA c f t x).p q:=by
 have e1:=MP (x:=x) (c:=c) (f:=f) (t:=t) (den_pos h ht) q;have e2:=MP (x:=x') (c:=c) (f:=f') (t:=t') (den_pos h ht') q;have hd:=den_pos h ht';have u1:=BF c f;have u2:=BF c t;have ef:aR c f'*(x'.p q-aI c f')+dJ c f'=aR c f*(x.p q-aI c f)+dJ c f:=by
  rcases hf with rfl|⟨rfl,k⟩
  ·rw [hx]
  ·rw [hx,k,u1];grind
 have et:aR c t'*((dA c f t x).p q-aI c t')+dJ c t'=aR c t*((dA c f t x).p q-aI c t)+dJ c t:=by
  rcases hg with rfl|⟨rfl,k⟩
  ·rfl
  ·rw [k,u2];grind
 have e3:aR c t'*((dA c f' t' x').p q-(dA c f t x).p q)=0:=by grind
 rcases Rat.mul_eq_zero.1 e3 with k|k
 ·grind
 ·grind
theorem Q7 {L:Int} {q:Rat} (hq:0≤q):∀ {S:List Sq} {x x':Ln} {b:Bool},sR L S x q→x'.p q=x.p q→(b=true→0<x.B)→(b=false→x.B=0∧∀ s r,S=s::r→x.p q<aI s.1 (s.2.1+1))→(nJ S x).p q<(L:Rat)→jD L (lM q S x b) x' q∧(nJ (lM q S x b) x').p q=(nJ S x).p q
 | [],_,_,_,_,hx,_,_,_=>⟨trivial,hx⟩
 | s::S,x,x',b,⟨h,h1,h2,a1,a2,a3,a4,hr⟩,hx,hb,hn,hl=>by
  have hB:0≤x.B:=by cases b<;>grind
  have hB':0<(aY s x).B:=GK (den_pos h h2) (den_pos h h1) (rI h) hB;have m1:=sR.le_last hq (S:=s::S) ⟨h,h1,h2,a1,a2,a3,a4,hr⟩;have m2:=sR.le_last hq hr;have kl:=GI h;have hl':(nJ S (aY s x)).p q<(L:Rat):=hl;have m1':x.p q≤(nJ S (aY s x)).p q:=m1;have hf:∃ f',f'=s.2.1+(if b=true∧wh x (aI s.1 (s.2.1+1))=q then 1 else 0)∧f'<s.1.dens.length∧aI s.1 f'≤x.p q∧x.p q<aI s.1 (f'+1)∧(f'=s.2.1∨(f'=s.2.1+1∧x.p q=aI s.1 (s.2.1+1))):=by
   by_cases k:b=true∧wh x (aI s.1 (s.2.1+1))=q
   ·have e:=(MQ (hb k.1)).1 k.2;have hne:s.2.1+1≠s.1.dens.length:=fun k'=>by rw [k',kl] at e;grind
    refine ⟨_,rfl,?_⟩;rw [VX k];have st:=GH h (i:=s.2.1+1) (by omega);exact ⟨by omega,by grind,by grind,Or.inr ⟨rfl,e⟩⟩
   ·refine ⟨_,rfl,?_⟩;rw [VY k];refine ⟨h1,a1,?_,Or.inl rfl⟩
    cases b with
    | true=>
     have:¬x.p q=aI s.1 (s.2.1+1):=fun k'=>k ⟨rfl,(MQ (hb rfl)).2 k'⟩
     show x.p q<aI s.1 (s.2.1+1);grind
    | false=>exact (hn rfl).2 _ _ rfl
  have ht:∃ t',t'=s.2.2+(if wh (aY s x) (aI s.1 (s.2.2+1))=q then 1 else 0)∧t'<s.1.dens.length∧aI s.1 t'≤(aY s x).p q∧(aY s x).p q<aI s.1 (t'+1)∧(t'=s.2.2∨(t'=s.2.2+1∧(aY s x).p q=aI s.1 (s.2.2+1))):=by
   by_cases k:wh (aY s x) (aI s.1 (s.2.2+1))=q
   ·have e:=(MQ hB').1 k;have hne:s.2.2+1≠s.1.dens.length:=fun k'=>by rw [k',kl] at e;grind
    refine ⟨_,rfl,?_⟩;rw [VX k];have st:=GH h (i:=s.2.2+1) (by omega);exact ⟨by omega,by grind,by grind,Or.inr ⟨rfl,e⟩⟩
   ·refine ⟨_,rfl,?_⟩;rw [VY k];have:¬(aY s x).p q=aI s.1 (s.2.2+1):=fun k'=>k ((MQ hB').2 k')
    exact ⟨h2,a3,by show _<aI s.1 (s.2.2+1);grind,Or.inl rfl⟩
  obtain ⟨f',ef,f1,f2,f3,f4⟩:=hf;obtain ⟨t',et,t1,t2,t3,t4⟩:=ht;have ee:(dA s.1 f' t' x').p q=(aY s x).p q:=yKD h h2 t1 hx f4 t4;obtain ⟨r1,r2⟩:=Q7 hq (S:=S) (x:=aY s x) (x':=dA s.1 f' t' x') (b:=true) hr ee (fun _=>hB') (fun k=>by cases k) hl';simp only [lM,← ef,← et];refine ⟨⟨h,f1,t1,by rw [hx];exact f2,by rw [hx];exact f3,?_,?_,r1⟩,r2⟩
  ·show aI s.1 t'≤(dA s.1 f' t' x').p q;rw [ee];exact t2
  ·show (dA s.1 f' t' x').p q<aI s.1 (t'+1);rw [ee];exact t3
def mnS (q:Rat):List Rat→Rat
 | []=>q
 | r::l=>mnS (if r<q then r else q) l
theorem Q8:∀ (l:List Rat) (q:Rat),mnS q l≤q∧∀ w∈l,mnS q l≤w
 | [],_=>⟨dT,fun _ h=>by cases h⟩
 | r::l,q=>by
  obtain ⟨h1,h2⟩:=Q8 l (if r<q then r else q);have e:(if r<q then r else q)≤q∧(if r<q then r else q)≤r:=by split<;>grind
  refine ⟨gE h1 e.1,fun w hw=>?_⟩;rcases qAp.1 hw with rfl | hw
  ·exact gE h1 e.2
  ·exact h2 w hw
theorem yDi:∀ (l:List Rat) (q:Rat),mnS q l=q∨mnS q l∈l
 | [],_=>Or.inl rfl
 | r::l,q=>by
  rcases yDi l (if r<q then r else q) with h|h
  ·by_cases c:r<q
   ·exact Or.inr (by rw [mnS,h,VX c];exact iP ..)
   ·exact Or.inl (by rw [mnS,h,VY c])
  ·exact Or.inr (gL _ h)
theorem Q9 {a:Rat}:∀ {l:List Rat} {q:Rat},a<q→(∀ w∈l,a<w)→a<mnS q l
 | [],_,h,_=>h
 | r::l,q,h,k=>Q9 (l:=l) (by have:=k r (iP ..);split<;>assumption) (fun w hw=>k w (gL _ hw))
def iG:List Sq→Nat
 | []=>0
 | s::S=>s.2.1+s.2.2+iG S
def lO:List Sq→Nat
 | []=>0
 | s::S=>s.1.dens.length+s.1.dens.length+lO S
theorem jD.pos {L:Int} {q:Rat}:∀ {S:List Sq} {x:Ln},jD L S x q→iG S≤lO S
 | [],_,_=>bV _
 | _::_,_,⟨_,b,c,_,_,_,_,h⟩=>by have:=jD.pos h;show _+_+iG _≤_+_+lO _;omega
theorem R0 (q:Rat):∀ (S:List Sq) (x:Ln) (b:Bool),lO (lM q S x b)=lO S
 | [],_,_=>rfl
 | s::S,x,b=>by show _+_+lO (lM q S _ true)=_+_+lO S;rw [R0 q S]
theorem Jw (q:Rat):∀ (S:List Sq) (x:Ln) (b:Bool),(lM q S x b).map (·.1)=S.map (·.1)
 | [],_,_=>rfl
 | s::S,x,b=>by show s.1::(lM q S _ true).map (·.1)=s.1::S.map (·.1);rw [Jw q S]
theorem R1 (q:Rat):∀ (S:List Sq) (x:Ln) (b:Bool),iG S≤iG (lM q S x b)∧(q∈lL S x b→iG S<iG (lM q S x b))
 | [],_,_=>⟨bV _,fun h=>by cases h⟩
 | s::S,x,b=>by
  obtain ⟨h1,h2⟩:=R1 q S (aY s x) true;have e:iG (lM q (s::S) x b)=(s.2.1+(if b=true∧wh x (aI s.1 (s.2.1+1))=q then 1 else 0))+(s.2.2+(if wh (aY s x) (aI s.1 (s.2.2+1))=q then 1 else 0))+iG (lM q S (aY s x) true):=rfl;have e2:iG (s::S)=s.2.1+s.2.2+iG S:=rfl;rw [e,e2];refine ⟨by omega,fun h=>?_⟩;simp only [lL,qAz,qAp] at h;rcases h with h | h | h
  ·cases b with
   | false=>cases h
   | true=>
    have h':q=wh x (aI s.1 (s.2.1+1)):=by simpa using h
    rw [VX (⟨rfl,h'.symm⟩:true=true∧_)];omega
  ·rw [VX h.symm];omega
  ·have:=h2 h;omega
theorem R2 {L:Int} {q:Rat}:∀ {S:List Sq} {x:Ln} {b:Bool},jD L S x q→(b=true→0<x.B)→(b=false→x.B=0)→∀ w∈lL S x b,q<w
 | [],_,_,_,_,_,_,hw=>by cases hw
 | s::S,x,b,⟨h,h1,h2,a1,a2,a3,a4,hr⟩,hb,hn,w,hw=>by
  have hB:0≤x.B:=by cases b<;>grind
  have hB':0<(aY s x).B:=GK (den_pos h h2) (den_pos h h1) (rI h) hB;simp only [lL,qAz,qAp] at hw;rcases hw with hw | hw | hw
  ·cases b with
   | false=>cases hw
   | true=>
    have h':w=wh x (aI s.1 (s.2.1+1)):=by simpa using hw
    rw [h'];exact TT (hb rfl) a2
  ·rw [hw];exact TT hB' a4
  ·exact R2 hr (fun _=>hB') (fun k=>by cases k) w hw
theorem R3 {L:Int} {q:Rat}:∀ {S:List Sq} {x:Ln},jD L S x q→S≠[]→0≤x.B→(nJ S x).p q<(L:Rat)∧0<(nJ S x).B
 | [],_,_,h,_=>absurd rfl h
 | [s],x,⟨h,h1,h2,a1,a2,a3,a4,hr⟩,_,hB=>⟨by have:=wZ h (i:=s.2.2+1) (by omega);show (aY s x).p q<_;grind,GK (den_pos h h2) (den_pos h h1) (rI h) hB⟩
 | s::s'::S,x,⟨h,h1,h2,a1,a2,a3,a4,hr⟩,_,hB=>R3 (S:=s'::S) hr (by simp) (eY (GK (den_pos h h2) (den_pos h h1) (rI h) hB))
def gW:Ln:=⟨0,0⟩
theorem DH (q:Rat):gW.p q=0:=by unfold gW Ln.p;grind
def RI (L:Int) (S:List Sq) (q:Rat):Prop:=jD L S gW q∧0≤q∧S≠[]
def FinS (L:Int) (cs:List Ck) (q:Rat):Prop:=0<q∧∃ ys,Ch L cs 0 q ys∧ys.getLast?=some (L:Rat)
theorem R4 {q:Rat}:∀ {S:List Sq} {x:Ln},S≠[]→(DF S x q).getLast?=some ((nJ S x).p q)
 | [],_,h=>absurd rfl h
 | [_],_,_=>rfl
 | s::s'::S,x,_=>by have:=R4 (q:=q) (S:=s'::S) (x:=aY s x) (by simp);show ((aY s x).p q::DF (s'::S) (aY s x) q).getLast?=_;rw [show DF (s'::S) (aY s x) q=(aY s' (aY s x)).p q::DF S (aY s' (aY s x)) q from rfl] at this ⊢;rw [JR,this];rfl
def lP (L:Int) (S:List Sq):Rat:=wh (nJ S gW) (L:Rat)
def fT (L:Int) (S:List Sq):Rat:=mnS (lP L S) (lL S gW false)
theorem round {L:Int} {S:List Sq} {q0:Rat} (h:RI L S q0):(fT L S=lP L S→FinS L (S.map (·.1)) (fT L S)) ∧
  (fT L S≠lP L S→RI L (lM (fT L S) S gW false) (fT L S)∧iG S<iG (lM (fT L S) S gW false)):=by
 obtain ⟨hi,h0,hn⟩:=h;have hz:gW.B=0:=rfl;obtain ⟨l1,l2⟩:=R3 hi hn (by rw [hz];exact dT);have k1:q0<fT L S:=Q9 (TT l2 l1) (R2 hi (fun k=>by cases k) (fun _=>hz));obtain ⟨m1,m2⟩:=Q8 (lL S gW false) (lP L S);have k2:sR L S gW (fT L S):=Q6 (eY k1) hi m2 (fun k=>by cases k) (fun _=>hz);have kp:0<fT L S:=by grind
 refine ⟨fun e=>⟨kp,DF S gW (fT L S),?_,?_⟩,fun e=>?_⟩
 ·have:=k2.ch (eY kp);rw [DH] at this;exact this
 ·rw [R4 hn,e];exact Aaa some (nI l2 _)
 ·have k3:fT L S<lP L S:=by have:fT L S≤lP L S:=m1;grind
  have k4:(nJ S gW).p (fT L S)<(L:Rat):=by have:=Af l2 k3;rw [lP,nI l2] at this;exact this
  obtain ⟨r1,_⟩:=Q7 (eY kp) (x':=gW) (b:=false) k2 rfl (fun k=>by cases k) (fun _=>⟨rfl,fun s r e=>by
   subst e;obtain ⟨h,h1,_,_,a2,_⟩:=hi;rw [DH] at a2 ⊢;exact a2⟩) k4
  refine ⟨⟨r1,eY kp,?_⟩,(R1 _ S gW false).2 ?_⟩
  ·cases S with
   | nil=>exact absurd rfl hn
   | cons s S=>intro k;cases k
  ·rcases yDi (lL S gW false) (lP L S) with k | k
   ·exact absurd k e
   ·exact k
theorem TU {u M d:Rat} (h0:-M≤u) (h1:u≤M) (d0:0≤d) (d1:d≤12) (hM:0≤M):-(12*M)≤u*d∧u*d≤12*M:=by have a:=BI h1 d0;have b:=BI h0 d0;have c:=xG d1 hM;constructor<;>grind
theorem yHX {u M d E:Rat} (h0:-M≤u) (h1:u≤M) (d0:0≤d) (d1:d≤E) (hM:0≤M):-(E*M)≤u*d∧u*d≤E*M:=by have a:=BI h1 d0;have b:=BI h0 d0;have c:=xG d1 hM;constructor<;>grind
theorem MR {u M d:Rat} (h0:-M≤u) (h1:u≤M) (hd:1≤d) (hM:0≤M):-M≤u/d∧u/d≤M:=by
 have e:=jC (a:=u) (b:=d) (by grind);have c:=xG hd hM;generalize u/d=v at *
 constructor
 ·refine Rat.not_lt.1 fun k=>?_
  have:=JP k (show (0:Rat)<d by grind);grind
 ·refine Rat.not_lt.1 fun k=>?_
  have:=JP k (show (0:Rat)<d by grind);grind
theorem R5 {L:Int} {c:Ck} (h:cM L c):∀ i,i≤c.dens.length→0≤dJ c i∧dJ c i≤12*aI c i
 | 0,_=>by have:dJ c 0=0:=rfl;rw [this,wW h];constructor<;>grind
 | i+1,hi=>by obtain ⟨a,b⟩:=R5 h i (by omega);have s:=GH h (i:=i) (by omega);have d:=GG h.1 (i:=i) (by omega);have d1:aR c i≤12:=d.2;have d0:0≤aR c i:=d.1;have m:=yHW (x:=aI c (i+1)-aI c i) (by grind) ⟨d0,d1⟩;rw [BF,Rat.mul_comm (aR c i)];constructor<;>grind
theorem Jx {L:Int} {c:Ck} (h:cM L c) {i:Nat} (hi:i≤c.dens.length):0≤dJ c i∧dJ c i≤12000:=by have a:=R5 h i hi;have b:=wZ h hi;have e:=(wV h.1).2;exact ⟨a.1,by grind⟩
def Bk:Nat→Int
 | 0=>0
 | k+1=>12*Bk k+12000*12 ^ k
def Mk:Nat→Int
 | 0=>0
 | k+1=>12*Mk k+25000
theorem R6:∀ k,0≤Mk k
 | 0=>Int.le_refl _
 | k+1=>by have:=R6 k;show 0≤12*Mk k+25000;omega
def LB (k:Nat) (x:Ln):Prop:=∃ F b:Int,1≤F∧F≤12 ^ k∧In F x.A∧x.B=(b:Rat)/(F:Rat)∧0≤b∧b≤Bk k∧-((Mk k:Int):Rat)≤x.A∧x.A≤((Mk k:Int):Rat)
theorem R7:LB 0 gW:=⟨1,0,by decide,by decide,⟨0,by decide +kernel⟩,by decide +kernel,by decide,by decide,by decide +kernel,by decide +kernel⟩
theorem MS {L:Int} {c:Ck} (h:cM L c) {i:Nat} (hi:i<c.dens.length):1≤c.dens.getD i 0∧c.dens.getD i 0≤12:=⟨h.2 i hi,(h.1.den hi).2⟩
theorem R8 {L:Int} {c:Ck} (h:cM L c):0≤totC c.cuts c.dens∧totC c.cuts c.dens≤12000:=by have:=TO h.1;omega
theorem R9 {a b c d:Rat} (hb:b≠0) (hd:d≠0) (e:a*d=c*b):a/b=c/d:=by
 have e1:=jC (a:=a) hb;have e2:=jC (a:=c) hd;generalize a/b=u at *
 generalize c/d=v at *
 have:(u-v)*(b*d)=0:=by grind
 rcases Rat.mul_eq_zero.1 this with k|k
 ·grind
 ·rcases Rat.mul_eq_zero.1 k with k | k
  ·exact absurd k hb
  ·exact absurd k hd
theorem MT {L:Int} {c:Ck} (h:cM L c) {f t k:Nat} (hf:f<c.dens.length) (ht:t<c.dens.length) {x:Ln} (hx:LB k x):LB (k+1) (dA c f t x):=by
 obtain ⟨F,b,F1,F2,hA,hB,b0,b1,m0,m1⟩:=hx;have d1:=MS h hf;have e1:=MS h ht;have T:=R8 h;have hM:(0:Rat)≤((Mk k:Int):Rat):=Ee.2 (R6 k);refine ⟨c.dens.getD t 0*F,b*c.dens.getD f 0+totC c.cuts c.dens*F,?_,?_,?_,?_,?_,?_,?_⟩
 ·have:=nL e1.1 F1 (by omega) (by omega);omega
 ·have:=nL e1.2 F2 (by omega) (by omega);rw [Int.pow_succ,AE (12 ^ k)];exact this
 ·have D1:1≤c.dens.getD t 0*F:=by have:=nL e1.1 F1 (by omega) (by omega);omega
  refine In.add ?_ (In.int D1 _);refine In.div F1 e1.1 ?_;refine In.add ((hA.sub (In.int F1 _)).mulI _) ?_;have:dJ c f-dJ c t=((upC c f-upC c t:Int):Rat):=by rw [BN];rfl
  rw [this];exact In.int F1 _
 ·show (x.B*aR c f+bM c)/aR c t=_;rw [hB,Rat.intCast_add,pJ,pJ,pJ];have r1:(F:Rat)≠0:=Ac F1;have r2:((c.dens.getD t 0:Int):Rat)≠0:=Ac e1.1;have e:=jC (a:=(b:Rat)) r1;refine R9 r2 (fun k=>by rcases Rat.mul_eq_zero.1 k with k | k<;>contradiction) ?_;unfold aR bM;generalize (b:Rat)/(F:Rat)=w at *
  grind
 ·have:=kP b0 (show 0≤c.dens.getD f 0 by omega);have:=kP T.1 (show 0≤F by omega);omega
 ·have a1:=nL b1 d1.2 (by omega) (by omega);have a2:=nL T.2 F2 (by omega) (by omega);show _≤12*Bk k+12000*12 ^ k;omega
 ·have u1:=Jx h (i:=f) (by omega);have u2:=Jx h (i:=t) (by omega);have c1:=wZ h (i:=f) (by omega);have c2:=wZ h (i:=t) (by omega);have c3:=Ae h (i:=f) (by omega);have c4:=Ae h (i:=t) (by omega);have l:=(wV h.1).2;have q1:(1:Rat)≤aR c t:=by have:=(kM (a:=1)).2 e1.1;exact this
  have q2:aR c f≤12:=(GG h.1 hf).2;have q3:0≤aR c f:=(GG h.1 hf).1;have eM:((Mk (k+1):Int):Rat)=12*((Mk k:Int):Rat)+25000:=by show ((12*Mk k+25000:Int):Rat)=_;rw [Rat.intCast_add,pJ];rfl
  have v:=TU (u:=x.A-aI c f) (M:=((Mk k:Int):Rat)+1000) (d:=aR c f) (by grind) (by grind) q3 q2 (by grind);have w:=MR (u:=(x.A-aI c f)*aR c f+(dJ c f-dJ c t)) (M:=12*((Mk k:Int):Rat)+24000) (by grind) (by grind) q1 (by grind);rw [eM];show -(12*((Mk k:Int):Rat)+25000)≤_/_+aI c t∧_/_+aI c t≤12*((Mk k:Int):Rat)+25000;constructor<;>grind
set_option maxRecDepth 100000
def TV:List An→List An
 | []=>[]
 | a::r=>⟨a.at_,.raw,a.md⟩::TV r
def sS:TC→TC
 | .ops l an ps fg=>.ops l (TV an) ps fg
 | .seq a b=>.seq (sS a) (sS b)
 | .cond c a b=>.cond c (sS a) (sS b)
 | .block i b=>.block i (sS b)
 | c=>c
def S2:List An→List An
 | []=>[]
 | a::r=>(match a.sh with | .one .d=>⟨a.at_,.raw,a.md⟩ | _=>a)::S2 r
def cF:TC→TC
 | .ops l an ps fg=>.ops l (S2 an) ps fg
 | .seq a b=>.seq (cF a) (cF b)
 | .cond c a b=>.cond c (cF a) (cF b)
 | .block i b=>.block i (cF b)
 | .loop i b=>.loop i (cF b)
 | .lG i b=>.lG i (bif Nat.beq i 5508403 then sS b else cF b)
 | c=>c
def nX (t:TFn):TFn:=⟨t.nparams,t.results,cF t.body⟩
def UE (E:Env) (callK:CK) (lp:LP) (b:TC):Nat→aF→Hp→(Ex→aF→Hp→Prop)→Prop
 | 0,_,_,_=>False
 | n+1,F,H,Q=>WC E callK lp [] cC b F H fun x F' H'=>match x with | .norm=>UE E callK lp b n F' H' Q | .exit i=>Q (.exit i) F' H' | .ret=>Q .ret F' H' | .brk k i=>Q (.brk k i) F' H'
def Jy (E:Env) (callK:CK) (lp:LP) (b:TC):Nat→aF→Hp→(Ex→aF→Hp→Prop)→Prop
 | 0,_,_,_=>False
 | n+1,F,H,Q=>WC E callK lp [] cC b F H fun x F' H'=>match x with | .norm=>Jy E callK lp b n F' (tH F' H.length H') Q | .exit i=>Q (.exit i) F' H' | .ret=>Q .ret F' H' | .brk k i=>Q (.brk k i) F' H'
def unB:TC→TC
 | .block _ c=>c
 | c=>c
def fB:Nat→TC→TC
 | 0,c=>c
 | n+1,.seq _ b=>fB n b
 | _+1,c=>c
def jE:Nat→TC→TC
 | n+1,.seq a b=>.seq a (jE n b)
 | _,_=>.skip
structure Se where
 len:Int
 cuts:List PV
 dens:List PV
 up:List PV
 tot:Int
 f:Int
 t:Int
structure L4 where
 a:Int
 b:Int
 c:Int
 d:Int
def L4.v (l:L4):PV:=.agg [.int .i64 l.a,.int .i64 l.b,.int .i64 l.c,.int .i64 l.d]
def MU (s:Se):HB:=⟨false,true,1,s.up⟩
def MV (k:Nat) (s:Se):HB:=⟨false,false,7,[.agg [.int .i64 s.len,.data s.cuts,.data s.dens,.own k 0 s.up.length s.up.length none,.int .i64 s.tot,.int .i64 s.f,.int .i64 s.t]]⟩
def TW:Nat→List Se→Hp
 | _,[]=>[]
 | k,s::r=>MU s::MV k s::TW (k+2) r
def TX:Nat→Nat→List PV
 | _,0=>[]
 | k,n+1=>.ptr k 1 0 0::TX (k+2) n
def dF (S:List Se):Hp:=
 match S with
 | []=>[]
 | s::r=>[⟨false,false,1,[.own 4 0 S.length S.length none]⟩,MU s,MV 1 s,⟨false,false,1,[]⟩,⟨false,false,1,.ptr 2 1 0 0::TX 6 r.length⟩]++TW 5 r++[⟨false,false,1,[.int .i64 r.length]⟩]
def aX (a b:Int):PV:=.agg [.int .i64 a,.int .i64 b]
def jT (L:List PV) (n:Nat):aF:=[(0,.v (.data L)),(4,.box (aX 0 0)),(5,.v (.ptr 0 1 0 0)),(11,.v (.ptr (3+2*n) 1 0 0))]
def DJ (L:List PV) (n:Nat) (a b:Int):aF:=[(0,.v (.data L)),(4,.box (aX 0 0)),(5,.v (.ptr 0 1 0 0)),(11,.v (.ptr (3+2*n) 1 0 0)),(16,.box (aX a b)),(17,.v (.ptr (6+2*n) 1 0 0)),(18,.v (.fn (.func Fh) [] [.ptr 0 1 0 0,.ptr (5+2*n) 1 0 0,.ptr (3+2*n) 1 0 0]))]
def rJ (S:List Se) (ls:List L4) (a b:Int):Hp:=dF S++[⟨false,true,4,ls.map L4.v⟩,⟨false,false,1,[.own (4+2*S.length) 0 S.length S.length (some S.length)]⟩,⟨false,false,2,[aX a b]⟩]
def uO (aE:wQ):List Se→L4→(List L4→Prop)→Prop
 | [],_,K=>K []
 | s::S,x,K=>asr (decide (s.up.length=s.up.length)) (asr (decide (0+s.up.length≤s.up.length)) (aE s.len s.cuts s.dens ((s.up.drop 0).take s.up.length) s.tot s.f s.t x.a x.b x.c x.d fun a b c d=>uO aE S ⟨a,b,c,d⟩ fun l=>K (⟨a,b,c,d⟩::l)))
def Jz (cuts:List PV) (i:Int) (K:Int→Prop):Prop:=asr (decide (0≤i)) (asr (decide (i<((cuts.length:Nat):Int))) (asr (aJ zI (cuts.getD i.toNat .nils)) (K (aS (cuts.getD i.toNat .nils)))))
def iH (aN:sO) (l:L4) (cuts:List PV) (i:Int) (K:Int→Int→Prop):Prop:=Jz cuts (i64.wrap (i+1)) fun n=>aN l.a l.b l.c l.d n K
def pB (aN:sO) (aL:fM):List Se→List L4→L4→Bool→Int→Int→(Int→Int→Prop)→Prop
 | s::S,l::ls,x,b,q0,q1,K=>
  let k2:=fun q0 q1=>iH aN l s.cuts s.t fun r0 r1=>aL r0 r1 q0 q1 fun t=>aG t (pB aN aL S ls l true r0 r1 K) (pB aN aL S ls l true q0 q1 K)
  match b with
  | true=>iH aN x s.cuts s.f fun r0 r1=>aL r0 r1 q0 q1 fun t=>aG t (k2 r0 r1) (k2 q0 q1)
  | false=>k2 q0 q1
 | _,_,_,_,q0,q1,K=>K q0 q1
def uP (a b q0 q1:Int):Bool:=(a==q0)&&((b==q1)&&true)
def lQ (aN:sO) (q0 q1:Int):List Se→List L4→L4→Bool→(List Bool→Prop)→Prop
 | s::S,l::ls,x,b,K=>
  let k2:=fun K=>iH aN l s.cuts s.t fun r0 r1=>aG (uP r0 r1 q0 q1) (lQ aN q0 q1 S ls l true fun m=>K (true::m)) (lQ aN q0 q1 S ls l true fun m=>K (false::m))
  match b with
  | true=>iH aN x s.cuts s.f fun r0 r1=>aG (uP r0 r1 q0 q1) (k2 fun m=>K (true::m)) (k2 fun m=>K (false::m))
  | false=>k2 K
 | _,_,_,_,K=>K []
def nY:Nat→Nat→Bool→List Bool→List PV
 | k,n+1,true,bf::bt::m=>(bif bf then [.ptr k 1 0 5] else [])++(bif bt then [.ptr k 1 0 6] else [])++nY (k+2) n true m
 | _,n+1,false,bt::m=>(bif bt then [.ptr 2 1 0 6] else [])++nY 6 n true m
 | _,_,_,_=>[]
def iI:List Se→Bool→List Bool→List Se
 | s::S,true,bf::bt::m=>⟨s.len,s.cuts,s.dens,s.up,s.tot,bif bf then i64.wrap (s.f+1) else s.f,bif bt then i64.wrap (s.t+1) else s.t⟩::iI S true m
 | s::S,false,bt::m=>⟨s.len,s.cuts,s.dens,s.up,s.tot,s.f,bif bt then i64.wrap (s.t+1) else s.t⟩::iI S true m
 | _,_,_=>[]
def gbS:List PV→Hp
 | []=>[]
 | p::r=>⟨false,false,1,[p]⟩::⟨false,false,1,p::r⟩::r.map fun x=>⟨false,false,1,[x]⟩
def qB (S:List Se) (ls:List L4) (a b:Int) (m:List PV):Hp:=rJ S ls a b++[⟨false,false,1,[match m with | []=>.nils | _::_=>.own (9+2*S.length) 0 m.length m.length none]⟩]++gbS m
def qC (L:List PV) (n:Nat):aF:=[(0,.v (.data L)),(4,.box (aX 0 0)),(5,.v (.ptr 0 1 0 0)),(11,.v (.ptr (3+2*n) 1 0 0)),(19,.v (.ptr (7+2*n) 1 0 0))]
def DL:L4:=⟨0,1,0,1⟩
def lR:List L4→L4
 | []=>DL
 | [l]=>l
 | _::r=>lR r
section
variable (e:Es) (aW:fS) (aE:wQ) (aN:sO) (aL:fM)
def MW:Nat→Option (List PV→(PV→Prop)→Prop):=yiW [(mO,nF.pw aW),(Fg,SJ.pw aE),(Cv,SM.pw aN),(Cx,sK.pw aL)]
def JA:SE:=⟨E e,MW aW aE aN aL,yfD [(Fl,nX FK),(Fm,nX FM)],fun _ _ _ _ _=>False,fun _=>none⟩
def S3:LP:=fun id _ F H Q=>bif Nat.beq id 31735400 then UE (E e) (jO (JA e aW aE aN aL) 2) (fun _ _ _ _ _=>False) (cF LF) 5 F H Q else False
def rK:SE:=⟨E e,MW aW aE aN aL,yfD [(Fh,nX FJ),(Fl,nX FK),(Fm,nX FM)],S3 e aW aE aN aL,fun _=>none⟩
def TY:LP:=fun id _ F H Q=>
 bif Nat.beq id 5508402 then Jy (E e) (jO (rK e aW aE aN aL) 4) (fun _ _ _ _ _=>False) (cF LH) 5 F H Q else
 bif Nat.beq id 5508403 then Jy (E e) (jO (rK e aW aE aN aL) 4) (fun _ _ _ _ _=>False) (sS LI) 8 F H Q else False
def wR (c:TC) (F:aF) (H:Hp) (Q:Ex→aF→Hp→Prop):Prop:=WC (E e) (jO (rK e aW aE aN aL) 4) (TY e aW aE aN aL) [] cC c F H Q
def bR:TC:=unB (cF iD)
def GL (L0:Int) (Lr:List PV) (S:List Se) (Q:List L4→Int→Int→Int→Int→Prop):Prop:=
 aW 0 fun w0 w1=>aW 0 fun w2 w3=>uO aE S ⟨w0,w1,w2,w3⟩ fun ls=>asr (decide ((0:Int)<(((Lr.length+1:Nat)):Int))) (aN (lR ls).a (lR ls).b (lR ls).c (lR ls).d L0 fun s0 s1=>pB aN aL S ls ⟨w0,w1,w2,w3⟩ false s0 s1 fun q0 q1=>Q ls s0 s1 q0 q1)
def L1 (L0:Int) (c0 d0 Lr:List PV):List PV:=.agg [.int .i64 L0,.data c0,.data d0]::Lr
def QA (L:List PV) (S:List Se) (Q:Ex→aF→Hp→Prop):List L4→Int→Int→Int→Int→Prop:=fun ls s0 s1 q0 q1=>Q .norm (DJ L S.length s0 s1) (rJ S ls q0 q1)
def QG (b:TC) (k:Nat) (Rn:aF→Hp→Prop) (Q:Ex→aF→Hp→Prop):Ex→aF→Hp→Prop:=fun x F' H'=>match x with
 | .norm=>Rn (fdels F' (fP (erase b))) (tH (fdels F' (fP (erase b))) k H')
 | .exit i=>Q (.exit i) F' H'
 | .ret=>Q .ret F' H'
 | .brk k i=>Q (.brk k i) F' H'
def QB (b:TC) (id k:Nat) (Rn:aF→Hp→Prop) (Q:Ex→aF→Hp→Prop):Ex→aF→Hp→Prop:=fun x F' H'=>match x with
 | .norm=>QG b k Rn Q .norm F' H'
 | .exit i=>(bif Nat.beq i id then QG b k Rn Q .norm F' H' else QG b k Rn Q (.exit i) F' H')
 | .ret=>QG b k Rn Q .ret F' H'
 | .brk k' i=>QG b k Rn Q (.brk k' i) F' H'
def Ag (q0 q1:Int):aF:=[(4,.box (aX q0 q1))]
end
def dS (S:List Se):Hp:=
 match S with
 | []=>[⟨false,false,1,[.nils]⟩]
 | s::r=>[⟨false,false,1,[.own 4 0 S.length S.length none]⟩,MU s,MV 1 s,⟨false,false,1,[]⟩,⟨false,false,1,.ptr 2 1 0 0::TX 6 r.length⟩]++TW 5 r
def S4:Nat→Nat
 | 0=>1
 | j+1=>5+2*j
def kV (L ord:List PV) (j:Nat) (dens:List PV) (m i:Int):aF:=[(0,.v (.data L)),(4,.box (aX 0 0)),(5,.v (.ptr 0 1 0 0)),(8,.v (.ptr (S4 j+1) 1 0 0)),(22,.v (.data ord)),(23,.v (.int .i64 ord.length)),(24,.v (.int .i64 j)),(39,.v (.data dens)),(40,.v (.int .i64 m)),(41,.v (.int .i64 i))]
def iJ (L ord:List PV) (j:Nat) (dens:List PV) (m i:Int):aF:=kV L ord j dens m i++[(42,.v (.bool false))]
def eU (S:List Se) (s:Se):Hp:=dS S++[MU s,MV (S4 S.length) s]
def kW (L ord:List PV) (j:Nat):aF:=[(0,.v (.data L)),(4,.box (aX 0 0)),(5,.v (.ptr 0 1 0 0)),(22,.v (.data ord)),(23,.v (.int .i64 ord.length)),(24,.v (.int .i64 j))]
def iK (L ord:List PV) (j:Nat):aF:=kW L ord j++[(25,.v (.bool false))]
def rL (dens cuts:List PV) (tot i:Int):Int:=i64.wrap (tot+i64.wrap (aS (dens.getD i.toNat .nils)*i64.wrap (aS (cuts.getD (i64.wrap (i+1)).toNat .nils)-aS (cuts.getD i.toNat .nils))))
def pC (dens:List PV) (s:Se) (i:Int) (K:Se→Prop):Prop:=
 asr (decide (0≤i)) (asr (decide (i<((dens.length:Nat):Int))) (asr (aJ zI (dens.getD i.toNat .nils)) (asr (decide (0≤i64.wrap (i+1))) (asr (decide (i64.wrap (i+1)<((s.cuts.length:Nat):Int)))
 (asr (aJ zI (s.cuts.getD (i64.wrap (i+1)).toNat .nils)) (asr (decide (0≤i)) (asr (decide (i<((s.cuts.length:Nat):Int))) (asr (aJ zI (s.cuts.getD i.toNat .nils))
 (asr (decide (s.up.length=s.up.length)) (asr (decide (0+s.up.length≤s.up.length)) (asr (!decide (0+s.up.length+1≤s.up.length)) (asr (decide (s.up.length=s.up.length)) (asr (decide ((s.up.length+1+64)*(8+1)≤room))
  (K ⟨s.len,s.cuts,s.dens,s.up++[.int .i64 (rL dens s.cuts s.tot i)],rL dens s.cuts s.tot i,s.f,s.t⟩))))))))))))))
def S5 (PP:aF→Hp→Prop→Prop) (F1:aF) (H1:Hp):LP:=fun id _ F H Q=>bif Nat.beq id 5508400 then PP F H (Q (.exit 2) F1 H1) else False
def MX (PP PQ:aF→Hp→Prop→Prop) (F1:aF) (H1:Hp) (q0 q1:Int):LP:=fun id _ F H Q=>bif Nat.beq id 5508401 then PP F H (Q (.exit 0) F1 H1) else bif Nat.beq id 5508404 then PQ F H (∀ H',Q .ret (Ag q0 q1) H') else False
def DM (ord:List PV) (j:Nat):Int:=aS (ord.getD ((j:Int)).toNat .nils)
def lS (L ord:List PV) (j:Nat):PV:=L.getD (DM ord j).toNat .nils
def fH (c:PV):Se:=⟨aS (cQ c 0),gH (cQ c 1),gH (cQ c 2),[.int .i64 0],0,0,0⟩
def DN (L ord:List PV) (j:Nat) (X Y:Prop):Prop:=
 aG (decide ((j:Int)<((ord.length:Nat):Int))) (asr (decide ((j:Int)<((ord.length:Nat):Int))) (asr (aJ zI (ord.getD ((j:Int)).toNat .nils)) (asr (decide (0≤DM ord j)) (asr (decide (DM ord j<((L.length:Nat):Int))) (asr (aJ zK (lS L ord j)) X))))) Y
section
variable (e:Es) (aW:fS) (aE:wQ) (aN:sO) (aL:fM)
variable (L ord:List PV) (Rn:aF→Hp→Prop) (Q:Ex→aF→Hp→Prop) (PP PQ:aF→Hp→Prop→Prop)
def wD (F:aF) (H:Hp) (Q:Ex→aF→Hp→Prop):Prop:=WC (E e) (jO (rK e aW aE aN aL) 4) (TY e aW aE aN aL) [] cC (cF qX) F H Q
def wO (F1:aF) (H1:Hp) (F:aF) (H:Hp) (Q:Ex→aF→Hp→Prop):Prop:=WC (E e) (jO (rK e aW aE aN aL) 4) (S5 PP F1 H1) [] cC (cF qA) F H Q
def wT (F1:aF) (H1:Hp) (q0 q1:Int) (K:PV→Prop):Prop:=WP ⟨E e,MW aW aE aN aL,yfD [(Fh,nX FJ),(Fl,nX FK),(Fm,nX FM)],MX PP PQ F1 H1 q0 q1,fun _=>none⟩ 4 (nX IJ) [.data L,.data ord] K
theorem TZ (dens:List PV) (m i:Int) (s:Se):wD e aW aE aN aL (kV L ord 0 dens m i) (eU [] s) (QG (cF qX) (eU [] s).length Rn Q)=aG (decide (i<m)) (pC dens s i fun s'=>Rn (kV L ord 0 dens m (i64.wrap (i+1))) (eU [] s')) (Q (.exit 2) (iJ L ord 0 dens m i) (eU [] s)):=by kernel_rfl
theorem Ua (dens:List PV) (m i:Int) (s:Se) (s0:Se):wD e aW aE aN aL (kV L ord 1 dens m i) (eU [s0] s) (QG (cF qX) (eU [s0] s).length Rn Q)=aG (decide (i<m)) (pC dens s i fun s'=>Rn (kV L ord 1 dens m (i64.wrap (i+1))) (eU [s0] s')) (Q (.exit 2) (iJ L ord 1 dens m i) (eU [s0] s)):=by kernel_rfl
theorem Ub (dens:List PV) (m i:Int) (s:Se) (s0 s1:Se):wD e aW aE aN aL (kV L ord 2 dens m i) (eU [s0,s1] s) (QG (cF qX) (eU [s0,s1] s).length Rn Q)=aG (decide (i<m)) (pC dens s i fun s'=>Rn (kV L ord 2 dens m (i64.wrap (i+1))) (eU [s0,s1] s')) (Q (.exit 2) (iJ L ord 2 dens m i) (eU [s0,s1] s)):=by kernel_rfl
theorem Uc (dens:List PV) (m i:Int) (s:Se) (s0 s1 s2:Se):wD e aW aE aN aL (kV L ord 3 dens m i) (eU [s0,s1,s2] s) (QG (cF qX) (eU [s0,s1,s2] s).length Rn Q)=aG (decide (i<m)) (pC dens s i fun s'=>Rn (kV L ord 3 dens m (i64.wrap (i+1))) (eU [s0,s1,s2] s')) (Q (.exit 2) (iJ L ord 3 dens m i) (eU [s0,s1,s2] s)):=by kernel_rfl
theorem Ud (dens:List PV) (m i:Int) (s:Se):wO e aW aE aN aL PP (iJ L ord 0 dens m i) (eU [] s) (kW L ord 0) (dS []) (QG (cF qA) (dS []).length Rn Q)=DN L ord 0 (PP (kV L ord 0 (fH (lS L ord 0)).dens (fH (lS L ord 0)).dens.length 0) (eU [] (fH (lS L ord 0))) (Rn (kW L ord 1) (dS [s]))) (Q (.exit 0) (iK L ord 0) (dS [])):=by kernel_rfl
theorem Ue (dens:List PV) (m i:Int) (s:Se) (s0:Se):wO e aW aE aN aL PP (iJ L ord 1 dens m i) (eU [s0] s) (kW L ord 1) (dS [s0]) (QG (cF qA) (dS [s0]).length Rn Q)=DN L ord 1 (PP (kV L ord 1 (fH (lS L ord 1)).dens (fH (lS L ord 1)).dens.length 0) (eU [s0] (fH (lS L ord 1))) (Rn (kW L ord 2) (dS [s0,s]))) (Q (.exit 0) (iK L ord 1) (dS [s0])):=by kernel_rfl
theorem Uf (q0 q1:Int) (K:PV→Prop) (s0:Se):wT e aW aE aN aL L ord PP PQ (iK L ord 1) (dS [s0]) q0 q1 K=PP (kW L ord 0) (dS []) (PQ (jT L 1) (dF [s0]) (∀ _:Hp,K (aX q0 q1))):=by kernel_rfl
theorem Ug (dens:List PV) (m i:Int) (s:Se) (s0 s1:Se):wO e aW aE aN aL PP (iJ L ord 2 dens m i) (eU [s0,s1] s) (kW L ord 2) (dS [s0,s1]) (QG (cF qA) (dS [s0,s1]).length Rn Q)=DN L ord 2 (PP (kV L ord 2 (fH (lS L ord 2)).dens (fH (lS L ord 2)).dens.length 0) (eU [s0,s1] (fH (lS L ord 2))) (Rn (kW L ord 3) (dS [s0,s1,s]))) (Q (.exit 0) (iK L ord 2) (dS [s0,s1])):=by kernel_rfl
theorem Uh (q0 q1:Int) (K:PV→Prop) (s0 s1:Se):wT e aW aE aN aL L ord PP PQ (iK L ord 2) (dS [s0,s1]) q0 q1 K=PP (kW L ord 0) (dS []) (PQ (jT L 2) (dF [s0,s1]) (∀ _:Hp,K (aX q0 q1))):=by kernel_rfl
theorem Ui (dens:List PV) (m i:Int) (s:Se) (s0 s1 s2:Se):wO e aW aE aN aL PP (iJ L ord 3 dens m i) (eU [s0,s1,s2] s) (kW L ord 3) (dS [s0,s1,s2]) (QG (cF qA) (dS [s0,s1,s2]).length Rn Q)=DN L ord 3 (PP (kV L ord 3 (fH (lS L ord 3)).dens (fH (lS L ord 3)).dens.length 0) (eU [s0,s1,s2] (fH (lS L ord 3))) (Rn (kW L ord 4) (dS [s0,s1,s2,s]))) (Q (.exit 0) (iK L ord 3) (dS [s0,s1,s2])):=by kernel_rfl
theorem Uj (q0 q1:Int) (K:PV→Prop) (s0 s1 s2:Se):wT e aW aE aN aL L ord PP PQ (iK L ord 3) (dS [s0,s1,s2]) q0 q1 K=PP (kW L ord 0) (dS []) (PQ (jT L 3) (dF [s0,s1,s2]) (∀ _:Hp,K (aX q0 q1))):=by kernel_rfl
theorem Uk (dens:List PV) (m i:Int) (s:Se) (s0 s1 s2 s3:Se):wO e aW aE aN aL PP (iJ L ord 4 dens m i) (eU [s0,s1,s2,s3] s) (kW L ord 4) (dS [s0,s1,s2,s3]) (QG (cF qA) (dS [s0,s1,s2,s3]).length Rn Q)=DN L ord 4 (PP (kV L ord 4 (fH (lS L ord 4)).dens (fH (lS L ord 4)).dens.length 0) (eU [s0,s1,s2,s3] (fH (lS L ord 4))) (Rn (kW L ord 5) (dS [s0,s1,s2,s3,s]))) (Q (.exit 0) (iK L ord 4) (dS [s0,s1,s2,s3])):=by kernel_rfl
theorem Ul (q0 q1:Int) (K:PV→Prop) (s0 s1 s2 s3:Se):wT e aW aE aN aL L ord PP PQ (iK L ord 4) (dS [s0,s1,s2,s3]) q0 q1 K=PP (kW L ord 0) (dS []) (PQ (jT L 4) (dF [s0,s1,s2,s3]) (∀ _:Hp,K (aX q0 q1))):=by kernel_rfl
end
theorem xA (n:Int) (K:Int→Int→Prop):lZ n K=K (n:Rat).num (n:Rat).den:=rfl
theorem Um {q r:Rat} (hq:small q) (hr:small r) (K:Bool→Prop):gO q.num q.den r.num r.den K=K (decide (q<r)):=by
 unfold gO SO;rw [M6 hq hr];congr 1;rw [Aab,uL]
 by_cases h:q<r
 ·simp [h]
 ·by_cases h2:r<q<;>simp [h,h2]
def Bd (q:Rat):Prop:=∃ D:Int,1≤D∧D≤20736∧In D q∧-100000000≤q∧q≤100000000
theorem Bd.sm {q:Rat}:Bd q→small q
 | ⟨_,h1,h2,h,a,b⟩=>In.small (M:=100000000) h ⟨h1,by omega⟩ (by omega) a b
theorem xB {q:Rat} (h:small q) (K:Int→Int→Int→Prop):fitK q K=K q.num q.den 0:=VX h
def pD (c:Ck):List Int:=(List.range (c.dens.length+1)).map (upC c)
theorem JB (c:Ck):(pD c).length=c.dens.length+1:=by unfold pD;rw [jH,List.length_range]
theorem S6 {c:Ck} {i:Nat} (h:i≤c.dens.length):(pD c).getD i 0=upC c i:=by unfold pD;rw [cO,rT,List.getElem?_range (by omega)];rfl
theorem LB.num {k:Nat} {x:Ln} (hk:k≤3) (h:LB k x):∃ F b:Int,1≤F∧F≤1728∧In F x.A∧x.B=(b:Rat)/(F:Rat)∧0≤b∧b≤5184000∧-3925000≤x.A∧x.A≤3925000:=by
 obtain ⟨F,b,h1,h2,h3,h4,h5,h6,h7,h8⟩:=h;obtain rfl | rfl | rfl | rfl:k=0∨k=1∨k=2∨k=3:=by omega
 ·exact ⟨F,b,h1,vJ h2 (by decide),h3,h4,h5,vJ h6 (by decide),gE (by decide +kernel) h7,gE h8 (by decide +kernel)⟩
 ·exact ⟨F,b,h1,vJ h2 (by decide),h3,h4,h5,vJ h6 (by decide),gE (by decide +kernel) h7,gE h8 (by decide +kernel)⟩
 ·exact ⟨F,b,h1,vJ h2 (by decide),h3,h4,h5,vJ h6 (by decide),gE (by decide +kernel) h7,gE h8 (by decide +kernel)⟩
 ·exact ⟨F,b,h1,vJ h2 (by decide),h3,h4,h5,vJ h6 (by decide),gE (by decide +kernel) h7,gE h8 (by decide +kernel)⟩
theorem LB.numB {k:Nat} {x:Ln} (hk:k≤4) (h:LB k x):∃ F b:Int,1≤F∧F≤20736∧In F x.A∧x.B=(b:Rat)/(F:Rat)∧0≤b∧b≤82944000∧-47125000≤x.A∧x.A≤47125000:=by
 obtain ⟨F,b,h1,h2,h3,h4,h5,h6,h7,h8⟩:=h;obtain rfl | rfl | rfl | rfl | rfl:k=0∨k=1∨k=2∨k=3∨k=4:=by omega
 all_goals exact ⟨F,b,h1,vJ h2 (by decide),h3,h4,h5,vJ h6 (by decide),gE (by decide +kernel) h7,gE h8 (by decide +kernel)⟩
theorem S7 {F b M:Int} (hF:1≤F) (b0:0≤b) (b1:b≤M):0≤(b:Rat)/(F:Rat)∧(b:Rat)/(F:Rat)≤(M:Rat):=by have f1:(1:Rat)≤(F:Rat):=(kM (a:=1)).2 hF;have c0:(0:Rat)≤(b:Rat):=Ee.2 b0;have c1:(b:Rat)≤(M:Rat):=kM.2 b1;have:=MR (u:=(b:Rat)) (M:=(M:Rat)) (d:=(F:Rat)) (by grind) c1 f1 (by grind);refine ⟨?_,this.2⟩;rw [Rat.div_def];exact vC c0 (eY (Rat.inv_pos.2 (by grind)))
theorem yBV {L:Int} {c:Ck} (h:cM L c) {f t k:Nat} (hf:f<c.dens.length) (ht:t<c.dens.length) {x:Ln} (hx:LB k x) (hk:k≤3) (K:Int→Int→Int→Int→Prop) :
  mH L (aB c.cuts) (aB c.dens) (aB (pD c)) (totC c.cuts c.dens) f t x.A.num x.A.den x.B.num x.B.den K =
   K (dA c f t x).A.num (dA c f t x).A.den (dA c f t x).B.num (dA c f t x).B.den:=by
 obtain ⟨F,b,F1,F2,hA,hB,b0,b1,m0,m1⟩:=hx.num hk;have l1:=h.1.l1;have df:=MS h hf;have dt:=MS h ht;have T:=R8 h;have u1:=Jx h (i:=f) (by omega);have u2:=Jx h (i:=t) (by omega);have c1:=wZ h (i:=f) (by omega);have c2:=wZ h (i:=t) (by omega);have c3:=Ae h (i:=f) (by omega);have c4:=Ae h (i:=t) (by omega);have l:=(wV h.1).2;have q1:(1:Rat)≤aR c t:=(kM (a:=1)).2 dt.1;have q2:aR c f≤12:=(GG h.1 hf).2;have q3:0≤aR c f:=(GG h.1 hf).1;have q4:aR c t≤12:=(GG h.1 ht).2;have T0:0≤bM c:=Ee.2 T.1;have T1:bM c≤12000:=(kM (b:=12000)).2 T.2;have hBb:=S7 F1 b0 b1;rw [← hB] at hBb;have D1:1≤c.dens.getD t 0*F:=by have:=nL dt.1 F1 (by omega) (by omega);omega
 have D2:c.dens.getD t 0*F≤20736:=by have:=nL dt.2 F2 (by omega) (by omega);omega
 have iU:dJ c f-dJ c t=((upC c f-upC c t:Int):Rat):=by rw [BN];rfl
 have iB:In F x.B:=⟨b,hB⟩;have v:=TU (u:=x.A-aI c f) (M:=3926000) (d:=aR c f) (by grind) (by grind) q3 q2 (by grind);have vB:=TU (u:=x.B) (M:=5184000) (d:=aR c f) (by grind) (by grind) q3 q2 (by grind);have w:=MR (u:=(x.A-aI c f)*aR c f+(dJ c f-dJ c t)) (M:=48000000) (by grind) (by grind) q1 (by grind);have wB:=MR (u:=x.B*aR c f+bM c) (M:=63000000) (by grind) (by grind) q1 (by grind);have i1:In F (x.A-aI c f):=hA.sub (In.int F1 _);have i2:In F ((x.A-aI c f)*aR c f):=i1.mulI _;have i3:In F ((x.A-aI c f)*aR c f+(dJ c f-dJ c t)):=i2.add (by rw [iU];exact In.int F1 _);have i4:In F (x.B*aR c f):=iB.mulI _;have i5:In F (x.B*aR c f+bM c):=i4.add (In.int F1 _);have s0:small x.A:=Bd.sm ⟨F,F1,by omega,hA,by grind,by grind⟩;have s0':small x.B:=Bd.sm ⟨F,F1,by omega,iB,by grind,by grind⟩;have s1:small (x.A-aI c f):=Bd.sm ⟨F,F1,by omega,i1,by grind,by grind⟩;have s2:small ((x.A-aI c f)*aR c f):=Bd.sm ⟨F,F1,by omega,i2,by grind,by grind⟩;have s3:small ((x.A-aI c f)*aR c f+(dJ c f-dJ c t)):=Bd.sm ⟨F,F1,by omega,i3,by grind,by grind⟩;have s4:small (x.B*aR c f):=Bd.sm ⟨F,F1,by omega,i4,by grind,by grind⟩;have s5:small (x.B*aR c f+bM c):=Bd.sm ⟨F,F1,by omega,i5,by grind,by grind⟩;have s6:small (((x.A-aI c f)*aR c f+(dJ c f-dJ c t))/aR c t):=Bd.sm ⟨_,D1,D2,In.div F1 dt.1 i3,by grind,by grind⟩;have s7:small (((x.A-aI c f)*aR c f+(dJ c f-dJ c t))/aR c t+aI c t):=Bd.sm ⟨_,D1,D2,(In.div F1 dt.1 i3).add (In.int D1 _),by grind,by grind⟩;have s8:small ((x.B*aR c f+bM c)/aR c t):=Bd.sm ⟨_,D1,D2,In.div F1 dt.1 i5,by grind,by grind⟩;have sc:small (aI c f):=h.1.sc (by omega);have sc':small (aI c t):=h.1.sc (by omega);have sd:small (aR c f):=h.1.sd hf;have sd':small (aR c t):=h.1.sd ht;have sT:small (bM c):=BD (by omega);have bu:-100000000≤upC c f-upC c t∧upC c f-upC c t≤100000000:=by
  have a1:upC c f-upC c t≤12000:=by refine kM.1 ?_;rw [← iU];show _≤(12000:Rat);grind
  have a2:-12000≤upC c f-upC c t:=by refine kM.1 ?_;rw [← iU];show (-12000:Rat)≤_;grind
  omega
 have sU:small (dJ c f-dJ c t):=by rw [iU];exact BD (by omega)
 have hd0:aR c t≠0:=by grind
 unfold mH SI;simp only [lt];rw [cN,aK (by omega),aK (by omega),dL,dL,eQ hf,dW hf,xA,aK (by omega),aK (by omega),eQ ht,dW ht,xA,cN,aK (by omega),aK (by omega),eQ (by omega),dW (by omega),xA];refine (MG s0 sc _).trans ?_;rw [xB s1];refine (Jq s1 sd _).trans ?_;rw [xB s2,cN,JB,aK (by omega),aK (by omega),eQ (by rw [JB];omega),dW (by rw [JB];omega),aK (by omega),aK (by omega),eQ (by rw [JB];omega),dW (by rw [JB];omega),S6 (by omega),S6 (by omega),dO (by omega) (by omega),xA,← iU];refine (MF s2 sU _).trans ?_;rw [xB s3];refine (Jq s0' sd _).trans ?_;rw [xB s4,xA];refine (MF s4 sT _).trans ?_;rw [xB s5];refine (ME s3 sd' hd0 _).trans ?_;rw [xB s6,aK (by omega),aK (by omega),eQ (by omega),dW (by omega),xA];refine (MF s6 sc' _).trans ?_;rw [xB s7];refine (ME s5 sd' hd0 _).trans ?_;rw [xB s8];rfl
theorem yBW {n d:Int} (h1:1≤d) (h2:d≤1000000000000000000) (h3:-1000000000000000000≤n) (h4:n≤1000000000000000000):small ((n:Rat)/(d:Rat)):=by
 have e:=jC (a:=(n:Rat)) (b:=(d:Rat)) (Ac h1);generalize (n:Rat)/(d:Rat)=q at *
 have hn:q.num*d=n*q.den:=by
  have e2:q*(q.den:Rat)=(q.num:Rat):=by
   have a:(q.num:Rat)/(q.den:Rat)=q:=by have h:=Rat.num_divInt_den q;rw [Rat.divInt_eq_div] at h;exact h
   have b:=jC (a:=(q.num:Rat)) (b:=(q.den:Rat)) (by have:=q.den_nz;exact fun k=>this (by have:((q.den:Nat):Rat)=((0:Nat):Rat):=k;exact Rat.natCast_inj.1 this));rw [a] at b;exact b
  have:((q.num*d:Int):Rat)=((n*q.den:Int):Rat):=by rw [pJ,pJ,← e,← e2,Rat.intCast_natCast];grind
  exact Rat.intCast_inj.1 this
 have hp:(0:Int)<q.den:=by have:=q.den_pos;omega
 have hdv:(q.den:Int)∣d:=by
  have h:(q.den:Int)∣q.num*d:=⟨n,by rw [hn,AE]⟩;have h2:q.den∣q.num.natAbs*d.natAbs:=by rw [← Int.natAbs_mul];exact Int.ofNat_dvd_left.1 h
  exact Int.ofNat_dvd_left.2 (Nat.Coprime.dvd_of_dvd_mul_left q.reduced.symm h2)
 obtain ⟨m,hm⟩:=hdv;have hm1:1≤m:=by
  refine Int.not_lt.1 fun k=>?_
  have:=JM (show m≤0 by omega) (Int.le_of_lt hp);omega
 have hnm:n=q.num*m:=by
  have:q.den*(q.num*m)=q.den*n:=by rw [hm] at hn;grind
  exact (Int.eq_of_mul_eq_mul_left (by omega) this).symm
 have hd:(q.den:Int)≤d:=by have:=JM hm1 (Int.le_of_lt hp);rw [← hm] at this;omega
 refine ⟨?_,?_,by omega⟩
 ·by_cases k:0≤q.num
  ·omega
  ·have:=Int.mul_le_mul_of_nonpos_left (show q.num≤0 by omega) hm1;rw [← hnm] at this;omega
 ·by_cases k:0≤q.num
  ·have:=JM hm1 k;rw [← hnm] at this;omega
  ·omega
theorem S8 {k:Nat} {x:Ln} (hk:k≤4) (hx:LB k x) (hp:0<x.B) {n:Int} (n0:0≤n) (n1:n≤1000):∃ a b:Int,1≤b∧b≤82944000∧-1000000000000≤a∧a≤1000000000000∧wh x (n:Rat)=(a:Rat)/(b:Rat)∧small ((n:Rat)-x.A)∧small x.A∧small x.B:=by
 obtain ⟨F,b,F1,F2,⟨a,hA⟩,hB,b0,b1,m0,m1⟩:=hx.numB hk;have hF:=Ac F1;have iA:In F x.A:=⟨a,hA⟩;have f0:(0:Rat)<(F:Rat):=by have:=(kM (a:=1)).2 F1;have:(1:Rat)≤(F:Rat):=this;grind
 have f1:(F:Rat)≤20736:=(kM (b:=20736)).2 F2;have r0:(0:Rat)≤(n:Rat):=Ee.2 n0;have r1:(n:Rat)≤1000:=(kM (b:=1000)).2 n1;have hb1:1≤b:=by
  refine Int.not_lt.1 fun k=>?_
  have:b=0:=by omega
  rw [this] at hB;have:x.B=0:=by rw [hB];show (0:Rat)/_=0;rw [Rat.div_def,Rat.zero_mul]
  grind
 have eA:=jC (a:=(a:Rat)) hF;have eB:=jC (a:=(b:Rat)) hF;rw [← hA] at eA;rw [← hB] at eB;have ea:((n*F-a:Int):Rat)=((n:Rat)-x.A)*(F:Rat):=by rw [BN,pJ,← eA];grind
 have v:=yHX (u:=(n:Rat)-x.A) (M:=48000000) (d:=(F:Rat)) (E:=20736) (by grind) (by grind) (eY f0) f1 (by grind);refine ⟨n*F-a,b,hb1,b1,?_,?_,?_,?_,?_,?_⟩
 ·refine kM.1 ?_;rw [ea];show (-1000000000000:Rat)≤_;grind
 ·refine kM.1 ?_;rw [ea];show _≤(1000000000000:Rat);grind
 ·unfold wh;exact R9 (by grind) (Ac hb1) (by rw [ea,← eB];grind)
 ·exact Bd.sm ⟨F,F1,F2,(In.int F1 n).sub iA,by grind,by grind⟩
 ·exact Bd.sm ⟨F,F1,F2,iA,by grind,by grind⟩
 ·have:=S7 F1 b0 b1;rw [← hB] at this;exact Bd.sm ⟨F,F1,F2,⟨b,hB⟩,by grind,by have:x.B≤82944000:=this.2;grind⟩
theorem Un {k:Nat} {x:Ln} (hk:k≤4) (hx:LB k x) (hp:0<x.B) {n:Int} (n0:0≤n) (n1:n≤1000):small (wh x (n:Rat)):=by obtain ⟨a,b,h1,h2,h3,h4,h5,_⟩:=S8 hk hx hp n0 n1;rw [h5];exact yBW h1 (by omega) (by omega) (by omega)
theorem S9 {k:Nat} {x:Ln} (hk:k≤4) (hx:LB k x) (hp:0<x.B) {n:Int} (n0:0≤n) (n1:n≤1000) (K:Int→Int→Prop) :
  gI x.A.num x.A.den x.B.num x.B.den n K=K (wh x (n:Rat)).num (wh x (n:Rat)).den:=by
 obtain ⟨_,_,_,_,_,_,_,s1,s2,s3⟩:=S8 hk hx hp n0 n1;unfold gI SL;rw [xA];refine (MG (BD (by omega)) s2 _).trans ?_;rw [xB s1];refine (ME s1 s3 (by grind) _).trans ?_;exact xB (Un hk hx hp n0 n1) _
section
variable (e:Es) (aW:fS) (aE:wQ) (aN:sO) (aL:fM)
variable (L0:Int) (c0 d0 Lr:List PV) (Rn:aF→Hp→Prop) (Q:Ex→aF→Hp→Prop) (q0 q1 t0 t1:Int)
theorem Uo (s0:Se):wR e aW aE aN aL (jE 7 bR) (jT (L1 L0 c0 d0 Lr) 1) (dF [s0]) Q=GL aW aE aN aL L0 Lr [s0] (QA (L1 L0 c0 d0 Lr) [s0] Q):=by kernel_rfl
theorem Up (s0 s1:Se):wR e aW aE aN aL (jE 7 bR) (jT (L1 L0 c0 d0 Lr) 2) (dF [s0,s1]) Q=GL aW aE aN aL L0 Lr [s0,s1] (QA (L1 L0 c0 d0 Lr) [s0,s1] Q):=by kernel_rfl
theorem Uq (s0 s1 s2:Se):wR e aW aE aN aL (jE 7 bR) (jT (L1 L0 c0 d0 Lr) 3) (dF [s0,s1,s2]) Q=GL aW aE aN aL L0 Lr [s0,s1,s2] (QA (L1 L0 c0 d0 Lr) [s0,s1,s2] Q):=by kernel_rfl
theorem Ur (s0:Se) (l0:L4):wR e aW aE aN aL (jE 3 (fB 7 bR)) (DJ (L1 L0 c0 d0 Lr) 1 t0 t1) (rJ [s0] [l0] q0 q1) Q=aG (uP q0 q1 t0 t1) (Q .ret (Ag q0 q1) (rJ [s0] [l0] q0 q1)) (lQ aN q0 q1 [s0] [l0] DL false fun m=>Q .norm (qC (L1 L0 c0 d0 Lr) 1) (qB [s0] [l0] q0 q1 (nY 2 1 false m))):=by kernel_rfl
theorem Us (s0 s1:Se) (l0 l1:L4):wR e aW aE aN aL (jE 3 (fB 7 bR)) (DJ (L1 L0 c0 d0 Lr) 2 t0 t1) (rJ [s0,s1] [l0,l1] q0 q1) Q=aG (uP q0 q1 t0 t1) (Q .ret (Ag q0 q1) (rJ [s0,s1] [l0,l1] q0 q1)) (lQ aN q0 q1 [s0,s1] [l0,l1] DL false fun m=>Q .norm (qC (L1 L0 c0 d0 Lr) 2) (qB [s0,s1] [l0,l1] q0 q1 (nY 2 2 false m))):=by kernel_rfl
theorem Ut (s0 s1 s2:Se) (l0 l1 l2:L4):wR e aW aE aN aL (jE 3 (fB 7 bR)) (DJ (L1 L0 c0 d0 Lr) 3 t0 t1) (rJ [s0,s1,s2] [l0,l1,l2] q0 q1) Q=aG (uP q0 q1 t0 t1) (Q .ret (Ag q0 q1) (rJ [s0,s1,s2] [l0,l1,l2] q0 q1)) (lQ aN q0 q1 [s0,s1,s2] [l0,l1,l2] DL false fun m=>Q .norm (qC (L1 L0 c0 d0 Lr) 3) (qB [s0,s1,s2] [l0,l1,l2] q0 q1 (nY 2 3 false m))):=by kernel_rfl
theorem Uu (s0:Se) (l0:L4) (b0:Bool):wR e aW aE aN aL (fB 10 bR) (qC (L1 L0 c0 d0 Lr) 1) (qB [s0] [l0] q0 q1 (nY 2 1 false [b0])) (QB (cF iD) 5 (dF [s0]).length Rn Q)=Rn (jT (L1 L0 c0 d0 Lr) 1) (dF (iI [s0] false [b0])):=by cases b0<;>kernel_rfl
theorem Uv (s0 s1:Se) (l0 l1:L4) (b0 b1 b2:Bool):wR e aW aE aN aL (fB 10 bR) (qC (L1 L0 c0 d0 Lr) 2) (qB [s0,s1] [l0,l1] q0 q1 (nY 2 2 false [b0,b1,b2])) (QB (cF iD) 5 (dF [s0,s1]).length Rn Q)=Rn (jT (L1 L0 c0 d0 Lr) 2) (dF (iI [s0,s1] false [b0,b1,b2])):=by cases b0<;>cases b1<;>cases b2<;>kernel_rfl
theorem Uw (s0 s1 s2:Se) (l0 l1 l2:L4) (b0 b1 b2 b3 b4:Bool):wR e aW aE aN aL (fB 10 bR) (qC (L1 L0 c0 d0 Lr) 3) (qB [s0,s1,s2] [l0,l1,l2] q0 q1 (nY 2 3 false [b0,b1,b2,b3,b4])) (QB (cF iD) 5 (dF [s0,s1,s2]).length Rn Q)=Rn (jT (L1 L0 c0 d0 Lr) 3) (dF (iI [s0,s1,s2] false [b0,b1,b2,b3,b4])):=by cases b0<;>cases b1<;>cases b2<;>cases b3<;>cases b4<;>kernel_rfl
end
section
variable (e:Es) (aW:fS) (aE:wQ) (aN:sO) (aL:fM)
variable (L0:Int) (c0 d0 Lr:List PV) (Rn:aF→Hp→Prop) (Q:Ex→aF→Hp→Prop) (q0 q1 t0 t1:Int)
theorem Ux (s0 s1 s2 s3:Se):wR e aW aE aN aL (jE 7 bR) (jT (L1 L0 c0 d0 Lr) 4) (dF [s0,s1,s2,s3]) Q=GL aW aE aN aL L0 Lr [s0,s1,s2,s3] (QA (L1 L0 c0 d0 Lr) [s0,s1,s2,s3] Q):=by kernel_rfl
end
section
variable (e:Es) (aW:fS) (aE:wQ) (aN:sO) (aL:fM)
variable (L0:Int) (c0 d0 Lr:List PV) (Rn:aF→Hp→Prop) (Q:Ex→aF→Hp→Prop) (q0 q1 t0 t1:Int)
theorem Uy (s0 s1 s2 s3:Se) (l0 l1 l2 l3:L4):wR e aW aE aN aL (jE 3 (fB 7 bR)) (DJ (L1 L0 c0 d0 Lr) 4 t0 t1) (rJ [s0,s1,s2,s3] [l0,l1,l2,l3] q0 q1) Q=aG (uP q0 q1 t0 t1) (Q .ret (Ag q0 q1) (rJ [s0,s1,s2,s3] [l0,l1,l2,l3] q0 q1)) (lQ aN q0 q1 [s0,s1,s2,s3] [l0,l1,l2,l3] DL false fun m=>Q .norm (qC (L1 L0 c0 d0 Lr) 4) (qB [s0,s1,s2,s3] [l0,l1,l2,l3] q0 q1 (nY 2 4 false m))):=by kernel_rfl
end
section
variable (e:Es) (aW:fS) (aE:wQ) (aN:sO) (aL:fM)
variable (L0:Int) (c0 d0 Lr:List PV) (Rn:aF→Hp→Prop) (Q:Ex→aF→Hp→Prop) (q0 q1 t0 t1:Int)
theorem yKE (s0 s1 s2 s3:Se) (l0 l1 l2 l3:L4) (b2 b3 b4 b5 b6:Bool):wR e aW aE aN aL (fB 10 bR) (qC (L1 L0 c0 d0 Lr) 4) (qB [s0,s1,s2,s3] [l0,l1,l2,l3] q0 q1 (nY 2 4 false [false,false,b2,b3,b4,b5,b6])) (QB (cF iD) 5 (dF [s0,s1,s2,s3]).length Rn Q)=Rn (jT (L1 L0 c0 d0 Lr) 4) (dF (iI [s0,s1,s2,s3] false [false,false,b2,b3,b4,b5,b6])):=by cases b2<;>cases b3<;>cases b4<;>cases b5<;>cases b6<;>kernel_rfl
theorem yKF (s0 s1 s2 s3:Se) (l0 l1 l2 l3:L4) (b2 b3 b4 b5 b6:Bool):wR e aW aE aN aL (fB 10 bR) (qC (L1 L0 c0 d0 Lr) 4) (qB [s0,s1,s2,s3] [l0,l1,l2,l3] q0 q1 (nY 2 4 false [false,true,b2,b3,b4,b5,b6])) (QB (cF iD) 5 (dF [s0,s1,s2,s3]).length Rn Q)=Rn (jT (L1 L0 c0 d0 Lr) 4) (dF (iI [s0,s1,s2,s3] false [false,true,b2,b3,b4,b5,b6])):=by cases b2<;>cases b3<;>cases b4<;>cases b5<;>cases b6<;>kernel_rfl
theorem yKG (s0 s1 s2 s3:Se) (l0 l1 l2 l3:L4) (b2 b3 b4 b5 b6:Bool):wR e aW aE aN aL (fB 10 bR) (qC (L1 L0 c0 d0 Lr) 4) (qB [s0,s1,s2,s3] [l0,l1,l2,l3] q0 q1 (nY 2 4 false [true,false,b2,b3,b4,b5,b6])) (QB (cF iD) 5 (dF [s0,s1,s2,s3]).length Rn Q)=Rn (jT (L1 L0 c0 d0 Lr) 4) (dF (iI [s0,s1,s2,s3] false [true,false,b2,b3,b4,b5,b6])):=by cases b2<;>cases b3<;>cases b4<;>cases b5<;>cases b6<;>kernel_rfl
theorem yKH (s0 s1 s2 s3:Se) (l0 l1 l2 l3:L4) (b2 b3 b4 b5 b6:Bool):wR e aW aE aN aL (fB 10 bR) (qC (L1 L0 c0 d0 Lr) 4) (qB [s0,s1,s2,s3] [l0,l1,l2,l3] q0 q1 (nY 2 4 false [true,true,b2,b3,b4,b5,b6])) (QB (cF iD) 5 (dF [s0,s1,s2,s3]).length Rn Q)=Rn (jT (L1 L0 c0 d0 Lr) 4) (dF (iI [s0,s1,s2,s3] false [true,true,b2,b3,b4,b5,b6])):=by cases b2<;>cases b3<;>cases b4<;>cases b5<;>cases b6<;>kernel_rfl
end
def l4 (x:Ln):L4:=⟨x.A.num,x.A.den,x.B.num,x.B.den⟩
def dG (s:Sq):Se:=⟨s.1.len,aB s.1.cuts,aB s.1.dens,aB (pD s.1),totC s.1.cuts s.1.dens,(s.2.1:Int),(s.2.2:Int)⟩
def lT (L:Int) (s:Sq):Prop:=cM L s.1∧s.1.len=L∧s.2.1<s.1.dens.length∧s.2.2<s.1.dens.length
def pE:List Sq→Ln→List Ln
 | [],_=>[]
 | s::S,x=>aY s x::pE S (aY s x)
def uQ (q:Rat):List Sq→Ln→Bool→List Bool
 | [],_,_=>[]
 | s::S,x,b=>(if b then [decide (wh x (aI s.1 (s.2.1+1))=q)] else [])++decide (wh (aY s x) (aI s.1 (s.2.2+1))=q)::uQ q S (aY s x) true
theorem T3 {L:Int}:∀ {S:List Sq} {x:Ln} {k:Nat} (K:List L4→Prop),(∀ s∈S,lT L s)→LB k x→k+S.length≤4→uO mH (S.map dG) (l4 x) K=K ((pE S x).map l4)
 | [],_,_,_,_,_,_=>rfl
 | s::S,x,k,K,h,hx,hk=>by obtain ⟨h1,h2,h3,h4⟩:=h s (iP ..);have hk':k+(S.length+1)≤4:=hk;show asr (decide ((dG s).up.length=(dG s).up.length)) (asr (decide (0+(dG s).up.length≤(dG s).up.length)) (mH s.1.len (aB s.1.cuts) (aB s.1.dens) (((dG s).up.drop 0).take (dG s).up.length) (totC s.1.cuts s.1.dens) (s.2.1:Int) (s.2.2:Int) x.A.num x.A.den x.B.num x.B.den fun a b c d=>uO mH (S.map dG) ⟨a,b,c,d⟩ fun l=>K (⟨a,b,c,d⟩::l)))=K (l4 (aY s x)::(pE S (aY s x)).map l4);rw [aK rfl,aK (by omega),pK,xJ,h2];refine (yBV h1 h3 h4 hx (by omega) _).trans ?_;exact T3 (S:=S) (x:=aY s x) (k:=k+1) _ (fun t ht=>h t (gL _ ht)) (MT h1 h3 h4 hx) (by omega)
theorem T4:∀ {S:List Sq} {x:Ln},S≠[]→lR ((pE S x).map l4)=l4 (nJ S x)
 | [],_,h=>absurd rfl h
 | [_],_,_=>rfl
 | s::t::S,x,_=>T4 (S:=t::S) (x:=aY s x) (by simp)
end Go.Pf.Vc
