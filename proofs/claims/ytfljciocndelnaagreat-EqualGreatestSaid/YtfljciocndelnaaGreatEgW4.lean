/- Part 4. -/
import Derived.Test.YtfljciocndelnaaGreatEgW3
open Go.IntKind (i64 u8 u64)
open List (length getD take drop replicate set map isEmpty)
namespace Go.Pf.Vc
open Go Go.Pf
set_option maxRecDepth 100000
def QV:Sg:=⟨lN,Ls→Prop,fun K=>(fun r0=>K (.data r0))⟩
def pl (e:Es):SE:=sE (E e) [] dC
theorem pm (e:Es):bQ (pl e) 6 MX QV XU:=fun _ _=>by kernel_rfl
theorem pn (e:Es) (he:EG e):bG (E e) (QV.pw yqM) tL:=bS he (pm e) (bN (aJ.uni _) trivial trivial he.ok) bF.flat (bC (by kernel_rfl))
def XV (a0:dZ) (b:Int) (K:Int→Int→Prop):Prop:=
 (a0 b K)
def Hl:dZ:=XV WU
def po (e:Es) (a0:dZ):SE:=sE (E e) [(Gk,lJ.pw a0)] dC
theorem pq (e:Es) (a0):bQ (po e a0) 6 Oh lJ (XV a0):=fun _ _=>by kernel_rfl
theorem XW (e:Es) (he:EG e):bG (E e) (lJ.pw Hl) AU:=bS he (pq e _) (bN (aJ.uni _) ⟨(ji e he),trivial⟩ trivial he.ok) bF.flat (bC (by kernel_rfl))
abbrev QW:Type:=(Bool→Prop)→Prop
def QX (a0:QU) (a1:He) (a2:Hg) (a3:Xz) (a4:dZ) (a5 a6:BL) (K:Bool→Prop):Prop:=
 (a0  (fun b=>(a1 b ([(ic 0),(ic 1)]:Ls) (fun c d e=>(a0  (fun f=>(a2 f ([(ic 0),(ic 1)]:Ls) c d (fun g h=>(a0  (fun i=>(a1 i ([(ic 1),(ic 0)]:Ls) (fun j k l=>(a0  (fun m=>(a2 m ([(ic 1),(ic 0)]:Ls) j k (fun o p=>(a0  (fun q=>(a3 q (fun r s t u=>(a0  (fun v=>(a2 v ([(ic 0),(ic 1)]:Ls) 1 2 (fun _ z=>(a4 4 (fun A B=>(jn (fun (a:Bool→Prop)=>(aD (e==0) (aD ((c==2)&&((d==5)&&true)) (aD (h==0) (a5 g ([(.agg [(ic 8),(ic 5)]),(.agg [(ic A),(ic B)])]:Ls) (fun C=>(aD C (aD (l==0) (aD ((j==3)&&((k==5)&&true)) (aD (p==0) (a5 o ([(.agg [(ic 8),(ic 5)]),(.agg [(ic A),(ic B)])]:Ls) (fun D=>(aD D (aD (u==0) (aD ((s==j)&&((t==k)&&true)) (a6 r ([(ic 1),(ic 0)]:Ls) (fun E=>(aD E (a (z==6)) (a false)))) (a false)) (a false)) (a false)))) (a false)) (a false)) (a false)) (a false)))) (a false)) (a false)) (a false))) K)))))))))))))))))))))))))))
def Hm:QW:=QX yqM ycf ybx Hk Hl ycA Eo
def QY:Sg:=⟨lN,Bool→Prop,fun K=>(fun r0=>K (.bool r0))⟩
def py (e:Es) (a0:QU) (a1:He) (a2:Hg) (a3:Xz) (a4:dZ) (a5 a6:BL):SE:=sE (E e) [(tL,QV.pw a0),(yQ,Ki.pw a1),(vR,Kj.pw a2),(AT,XA.pw a3),(AU,lJ.pw a4),(DA,wW.pw a5),(Gl,wW.pw a6)] dC
theorem pz (e:Es) (a0 a1 a2 a3 a4 a5 a6):bQ (py e a0 a1 a2 a3 a4 a5 a6) 6 Ok QY (QX a0 a1 a2 a3 a4 a5 a6):=fun _ _=>by kernel_rfl
theorem qa (e:Es) (he:EG e):yN (E e) (QY.pw Hm) yR:=bS he (pz e _ _ _ _ _ _ _) (bN (aJ.solo _) ⟨(bG.solo (pn e he)),(Xt e he),(QE e he),(XB e he),(bG.solo (XW e he)),(bG.solo (XS e he)),(bG.solo (Xn e he)),trivial⟩ trivial he.ok) bF.flat (bC (by kernel_rfl))
abbrev qb:Type:=Ls→Ls→Int→Int→(Bool→Prop)→Prop
def QZ (a0:BL) (a1:dX) (a2:QW) (a3:He) (a4:Hg) (a5:iE) (a6:dZ) (b c:Ls) (d e:Int) (K:Bool→Prop):Prop:=
 (jn (fun (n:Bool→Prop)=>(a0 b c (fun f=>(aD (!f) (n true) (a1 d e (fun g=>(aD (g !=0) (n true) (n (decide (d<0)))))))))) (fun f=>(aD f (a2  K) (a3 b c (fun g h i=>(jn (fun (v:Bool→Prop)=>(aD (i !=0) (v true) (a1 g h (fun j=>(v (j !=0)))))) (fun j=>(aD j (K false) (a4 b c d e (fun k l=>(jn (fun (w:Bool→Prop)=>(aD (l==16) (w true) (w ((d==g)&&((e==h)&&true))))) (fun m=>(aD m (a2  K) (a5 g h d e (fun o=>(aD o (jn (fun (x:Bool→Prop)=>(aD (l==6) (a2  x) (x false))) K) (jn (fun (a:Bool→Prop)=>(aD (l==0) (aD ((((length k):Nat):Int) ==(((length c):Nat):Int)) (lt (i64.wrap ((((length k):Nat):Int)-1)) (fun p=>(asr (decide (0≤p)) (asr (decide (p<(((length k):Nat):Int))) (lt (getD k (p.toNat) .nils) (fun q=>(asr (aG z2 q) (asr (decide (0<(((length b):Nat):Int))) (lt (getD b 0 .nils) (fun r=>(asr (aG zK r) (a6 (aP (bZ r 0)) (fun s t=>(a5 (aP (bZ q 0)) (aP (bZ q 1)) s t (fun u=>(aD u (a2  a) (a false))))))))))))))))) (a false)) (a false))) K)))))))))))))))))
def Kl:qb:=QZ EB Ke Hm ycf ybx Hb Hl
def XX:Sg:=⟨(lC vD (lC vD GK)),Bool→Prop,fun K=>(fun r0=>K (.bool r0))⟩
def qc (e:Es) (a0:BL) (a1:dX) (a2:QW) (a3:He) (a4:Hg) (a5:iE) (a6:dZ):SE:=sE (E e) [(FY,wW.pw a0),(Dk,tS.pw a1),(yR,QY.pw a2),(yQ,Ki.pw a3),(vR,Kj.pw a4),(DD,sC.pw a5),(AU,lJ.pw a6)] dC
theorem qd (e:Es) (a0 a1 a2 a3 a4 a5 a6):bQ (qc e a0 a1 a2 a3 a4 a5 a6) 6 Oq XX (QZ a0 a1 a2 a3 a4 a5 a6):=fun _ _=>by kernel_rfl
theorem qe (e:Es) (he:EG e):yN (E e) (XX.pw Kl) MJ:=bS he (qd e _ _ _ _ _ _ _) (bN (aJ.solo _) ⟨(bG.solo (XT e he)),(bG.solo (jf e he)),(qa e he),(Xt e he),(QE e he),(bG.solo (js e he)),(bG.solo (XW e he)),trivial⟩ trivial he.ok) bF.flat (bC (by kernel_rfl))
set_option linter.unusedVariables false
theorem qf (p0 p1:Ls) (r0:Bool) (h:∀ K:Bool→Prop,K r0→EB p0 p1 K) (K:Bool→Prop):EB p0 p1 K=K r0:=
 Aac ⟨fun k=>cJ (XT [] gK) (as:=[(.data p0),(.data p1)]) (x:=(.bool r0)) (fun K' k'=>h (fun r0=>K' (.bool r0)) k') (K:=fun x=>match x with | (.bool r0)=>K r0 | _=>False) k,h K⟩
def bT (n:Int):Prop:=-9223372036854775808≤n∧n≤9223372036854775807
def eY (n:Int):Prop:=0≤n∧n≤18446744073709551615
theorem wY (n:Int):u64.wrap n=n%18446744073709551616:=by simp only [IntKind.wrap,IntKind.signed,IntKind.bits,mO,eC,if_false];rfl
theorem qg (n:Int):i64.wrap n=if n%18446744073709551616≥9223372036854775808 then n%18446744073709551616-18446744073709551616 else n%18446744073709551616:=by
 have e1:(2:Int) ^ 64=18446744073709551616:=rfl;have e2:(2:Int) ^ (64-1)=9223372036854775808:=rfl;simp only [IntKind.wrap,IntKind.signed,IntKind.bits,nQ,e1,e2]
 by_cases h:n%18446744073709551616≥9223372036854775808<;>simp [h]
theorem aK {n:Int} (h:eY n):u64.wrap n=n:=by unfold eY at h;rw [wY];omega
theorem eQ {n:Int} (h:bT n):i64.wrap n=n:=by unfold bT at h;rw [qg];split<;>omega
theorem aY {x y:Prop}:aD true x y=x:=rfl
theorem bE {x y:Prop}:aD false x y=y:=rfl
theorem eS {x:Prop}:asr true x=x:=rfl
theorem zZ {p:Int} (h:bT p) (K:Int→Prop):By p K=K (p.natAbs:Int):=by
 unfold bT at h;unfold By Ow
 by_cases hp:p<0
 ·have e:u64.wrap ((0:Int)-u64.wrap p)=(p.natAbs:Int):=by
   rw [wY,wY];omega
  rw [Eg hp,aY,e]
 ·rw [Os hp,bE,aK ⟨by omega,by omega⟩];congr 1;omega
theorem XY (x:Int→Int→Bool→Prop):∀ (n a b:Nat),b<n→GJ x n (a:Int) (b:Int)=x ((Nat.gcd a b:Nat):Int) 0 false
 | 0,a,b,h=>by omega
 | n+1,a,b,h=>by
  unfold GJ
  by_cases hb:b=0
  ·subst hb;simp [aD]
  ·have h1:(b:Int)>0:=by omega
   have h2:¬((b:Int)=0):=by omega
   rw [Eg h1,aY,Os h2,xT,eS];have e:Int.tmod (a:Int) (b:Int)=((a%b:Nat):Int):=by rw [Int.tmod_eq_emod_of_nonneg (by omega)];omega
   rw [e,XY x n b (a%b) (by have:=Nat.mod_lt a (show b>0 by omega);omega)];rw [uM a b,Nat.gcd_rec b a,uM]
theorem Hn (a b:Nat) (K:Int→Prop) (h:K ((Nat.gcd a b:Nat):Int)):rY (a:Int) (b:Int) K:=by unfold rY Ox;exact ⟨b+1,by rw [XY _ (b+1) a b (by omega)];exact h⟩
def RV (n d:Int):Prop:=1≤d∧d≤1000000000000000000∧-1000000000000000000≤n∧n≤1000000000000000000∧Nat.gcd n.natAbs d.natAbs=1
instance (n d:Int):Decidable (RV n d):=by unfold RV;infer_instance
def iQ (n d:Int):Int:=if RV n d then 0 else 8
theorem Ra {n d:Int} (hn:bT n) (hd:bT d) {K:Int→Prop} (h:K (iQ n d)):lX n d K:=by
 unfold lX OA
 by_cases h1:d<1
 ·have e:iQ n d=8:=Sz fun h=>by have:=h.1;omega
  rw [Eg h1,aY,← e];exact h
 ·have hd':=hd;have hn':=hn;unfold bT at hd' hn';have ed:u64.wrap d=((d.natAbs:Nat):Int):=by rw [aK ⟨by omega,by omega⟩];omega
  rw [Os h1,bE,zZ hn,ed]
  by_cases h2:((if ((d.natAbs:Nat):Int)>((n.natAbs:Nat):Int) then ((d.natAbs:Nat):Int) else ((n.natAbs:Nat):Int))>1000000000000000000)
  ·have e:iQ n d=8:=Sz fun h=>by
    obtain ⟨a1,a2,a3,a4,_⟩:=h;revert h2;split<;>omega
   rw [Eg h2,aY,← e];exact h
  ·rw [Os h2,bE,zZ hn];refine Hn _ _ _ ?_;have h3:0<Nat.gcd n.natAbs d.natAbs:=Co _ (by omega);have h4:d≤1000000000000000000∧-1000000000000000000≤n∧n≤1000000000000000000:=by
    revert h2;split<;>omega
   by_cases h5:((Nat.gcd n.natAbs d.natAbs:Nat):Int)>1
   ·have e:iQ n d=8:=Sz fun h=>by have:=h.2.2.2.2;omega
    rw [Eg h5,aY,← e];exact h
   ·have e:iQ n d=0:=Sy ⟨by omega,h4.1,h4.2.1,h4.2.2,by omega⟩;rw [Os h5,bE,← e];exact h
theorem wZ {p:Int} (h:eY p):u64.wrap (BitVec.ofInt u64.bits p&&&BitVec.ofInt u64.bits (4294967295:Int)).toNat=p%4294967296:=by
 unfold eY at h;have e1:(BitVec.ofInt 64 p).toNat=p.toNat:=by
  rw [BitVec.toNat_ofInt];omega
 have e2:(BitVec.ofInt 64 (4294967295:Int)).toNat=4294967295:=rfl;have e3:(BitVec.ofInt u64.bits p&&&BitVec.ofInt u64.bits (4294967295:Int)).toNat=p.toNat%4294967296:=by show (BitVec.ofInt 64 p&&&BitVec.ofInt 64 (4294967295:Int)).toNat=_;rw [BitVec.toNat_and,e1,e2];exact Nat.and_two_pow_sub_one_eq_mod p.toNat 32
 rw [e3,wY];omega
theorem XZ (p:Int):Int.fdiv p 4294967296=p/4294967296:=by rw [Int.fdiv_eq_ediv_of_nonneg _ (by omega)]
theorem BN {a b:Int} (ha:eY a) (hb:eY b) (K:Int→Int→Prop):wL a b K=K (a*b/18446744073709551616) (a*b%18446744073709551616):=by
 unfold wL OE;simp only [XZ];rw [wZ ha,wZ hb];unfold eY at ha hb;have ha':=ha;have hb':=hb;obtain ⟨x1,hx1⟩:∃ x,x=a/4294967296:=⟨_,rfl⟩;obtain ⟨x0,hx0⟩:∃ x,x=a%4294967296:=⟨_,rfl⟩;obtain ⟨y1,hy1⟩:∃ x,x=b/4294967296:=⟨_,rfl⟩;obtain ⟨y0,hy0⟩:∃ x,x=b%4294967296:=⟨_,rfl⟩;rw [← hx1,← hx0,← hy1,← hy0];have b1:0≤x1∧x1≤4294967295:=by omega
 have b2:0≤x0∧x0≤4294967295:=by omega
 have b3:0≤y1∧y1≤4294967295:=by omega
 have b4:0≤y0∧y0≤4294967295:=by omega
 have pb:∀ x y:Int,0≤x∧x≤4294967295→0≤y∧y≤4294967295→0≤x*y∧x*y≤18446744065119617025:=by intro x y hx hy;refine ⟨jI hx.1 hy.1,?_⟩;have:=lO hx.2 hy.2 hy.1 (by omega:(0:Int)≤4294967295);omega
 have p1:=pb x1 y1 b1 b3;have p2:=pb x1 y0 b1 b4;have p3:=pb x0 y1 b2 b3;have p4:=pb x0 y0 b2 b4;have ea:a=x1*4294967296+x0:=by omega
 have eb:b=y1*4294967296+y0:=by omega
 have eab:a*b=x1*y1*18446744073709551616+x1*y0*4294967296+x0*y1*4294967296+x0*y0:=by rw [ea,eb];grind
 obtain ⟨P,hP⟩:∃ x,x=x1*y1:=⟨_,rfl⟩;obtain ⟨Q,hQ⟩:∃ x,x=x1*y0:=⟨_,rfl⟩;obtain ⟨R,hR⟩:∃ x,x=x0*y1:=⟨_,rfl⟩;obtain ⟨S,hS⟩:∃ x,x=x0*y0:=⟨_,rfl⟩;rw [← hP] at p1;rw [← hQ] at p2;rw [← hR] at p3;rw [← hS] at p4;rw [← hP,← hQ,← hR,← hS] at eab ⊢;have w1:u64.wrap S=S:=aK ⟨by omega,by omega⟩;have w2:u64.wrap Q=Q:=aK ⟨by omega,by omega⟩;have w3:u64.wrap R=R:=aK ⟨by omega,by omega⟩;have w4:u64.wrap P=P:=aK ⟨by omega,by omega⟩;rw [w1,w2,w3,w4];have w5:u64.wrap (Q+S/4294967296)=Q+S/4294967296:=aK ⟨by omega,by omega⟩;rw [w5,wZ ⟨by omega,by omega⟩];have w6:u64.wrap ((Q+S/4294967296)%4294967296+R)=(Q+S/4294967296)%4294967296+R:=aK ⟨by omega,by omega⟩;rw [w6];have w7:u64.wrap (P+(Q+S/4294967296)/4294967296)=P+(Q+S/4294967296)/4294967296:=by
  have:a*b/18446744073709551616≤18446744073709551615:=by
   have h1:a*b≤18446744073709551615*18446744073709551615:=by have:=lO ha'.2 hb'.2 hb'.1 (by omega:(0:Int)≤18446744073709551615);exact this
   omega
  exact aK ⟨by omega,by omega⟩
 rw [w7];have hab:a*b≤18446744073709551615*18446744073709551615:=lO ha'.2 hb'.2 hb'.1 (by omega:(0:Int)≤18446744073709551615);rw [eab] at hab ⊢;rw [wY,wY];congr 1;omega
theorem qh {a b:Int} {K:Int→Prop} (h:K (if a=0 then b else a)):JS [.int .i64 a,.int .i64 b] K:=by
 unfold JS OB;refine ⟨3,?_⟩;have e1:i64.wrap 1=1:=by decide
 have e2:i64.wrap 2=2:=by decide
 by_cases ha:a=0
 ·by_cases hb:b=0
  ·simp [DW,aY,bE,eS,aG,qG,aP,e1,e2,ha,hb] at h ⊢;exact h
  ·have e3:(b !=0)=true:=by simpa using hb
   simp [DW,aY,bE,eS,aG,qG,aP,e1,e2,ha,e3] at h ⊢;exact h
 ·have e3:(a !=0)=true:=by simpa using ha
  simp [DW,aY,bE,eS,aG,qG,aP,e1,e2,ha,e3] at h ⊢;exact h
def bV (a b c d:Int):Int:=if iQ a b=0 then iQ c d else iQ a b
theorem Ho {a b c d:Int} (ha:bT a) (hb:bT b) (hc:bT c) (hd:bT d) {K:Int→Prop} (h:K (bV a b c d)):zM a b c d K:=by unfold zM OD;exact Ra ha hb (Ra hc hd (qh h))
def fF (a b:Int):Int:=if a<b then -1 else if a>b then 1 else 0
theorem qi (a b:Int) (K:Int→Prop):JX a b K=K (fF a b):=by
 unfold JX OV;simp only [OU,OT,bne_self_eq_false,bE,fF]
 by_cases h:a<b
 ·simp [h,aY]
 ·by_cases h2:a>b
  ·simp [h,h2,aY,bE]
  ·simp [h,h2,bE]
theorem Ya (a b:Int) (K:Int→Prop):JY a b K=K (fF a b):=by
 unfold JY Pa;simp only [OY,OX,bne_self_eq_false,bE,fF]
 by_cases h:a<b
 ·simp [h,aY]
 ·by_cases h2:a>b
  ·simp [h,h2,aY,bE]
  ·simp [h,h2,bE]
theorem qj {a b:Int} {K:Int→Prop} (h:K (if a=0 then b else a)):JZ [.int .i64 a,.int .i64 b] K:=by
 unfold JZ Pc;refine ⟨3,?_⟩;have e1:i64.wrap 1=1:=by decide
 have e2:i64.wrap 2=2:=by decide
 by_cases ha:a=0
 ·by_cases hb:b=0
  ·simp [DZ,aY,bE,eS,aG,qG,aP,e1,e2,ha,hb] at h ⊢;exact h
  ·have e3:(b !=0)=true:=by simpa using hb
   simp [DZ,aY,bE,eS,aG,qG,aP,e1,e2,ha,e3] at h ⊢;exact h
 ·have e3:(a !=0)=true:=by simpa using ha
  simp [DZ,aY,bE,eS,aG,qG,aP,e1,e2,ha,e3] at h ⊢;exact h
theorem xA {a b c d:Int}:bV a b c d=0↔RV a b∧RV c d:=by
 unfold bV iQ
 by_cases h1:RV a b<;>by_cases h2:RV c d<;>simp [h1,h2]
def nD (a b c d:Int):Int:=fF (a*d) (c*b)
theorem qk {x y:Int} (hx:0≤x) (hy:0≤y):(if fF (x/18446744073709551616) (y/18446744073709551616)=0 then fF (x%18446744073709551616) (y%18446744073709551616) else fF (x/18446744073709551616) (y/18446744073709551616))=fF x y:=by unfold fF;split<;>rename_i h<;>revert h<;>repeat' split<;>intro h<;>omega
theorem eY.abs {n:Int} (h:bT n):eY ((n.natAbs:Nat):Int):=by unfold bT at h;unfold eY;omega
theorem ql {a b c d:Int} (ha:bT a) (hb:bT b) (hc:bT c) (hd:bT d) {K:Int→Int→Prop} (h:K (if bV a b c d=0 then nD a b c d else 0) (bV a b c d)):zW a b c d K:=by
 unfold zW Pe;refine Ho ha hb hc hd ?_
 by_cases hk:bV a b c d=0
 ·rw [Sy hk] at h;rw [hk] at h ⊢;obtain ⟨⟨b1,b2,a1,a2,_⟩,d1,d2,c1,c2,_⟩:=xA.1 hk;simp only [bne_self_eq_false,bE]
  by_cases hs:decide (a<0)=decide (c<0)
  ·have e:(decide (a<0) !=decide (c<0))=false:=by rw [hs];simp
   rw [e,bE,zZ ha,aK ⟨by omega,by omega⟩,BN (eY.abs ha) ⟨by omega,by omega⟩,zZ hc,aK ⟨by omega,by omega⟩,BN (eY.abs hc) ⟨by omega,by omega⟩,Ya,Ya];refine qj ?_;have p1:0≤((a.natAbs:Nat):Int)*d:=jI (by omega) (by omega);have p2:0≤((c.natAbs:Nat):Int)*b:=jI (by omega) (by omega);rw [qk p1 p2]
   by_cases hneg:a<0
   ·have hcn:c<0:=by simpa [hneg] using hs.symm
    rw [Eg hneg,aY];have e1:((a.natAbs:Nat):Int)*d=-(a*d):=by
     rw [show ((a.natAbs:Nat):Int)=-a by omega,Int.neg_mul]
    have e2:((c.natAbs:Nat):Int)*b=-(c*b):=by rw [show ((c.natAbs:Nat):Int)=-c by omega,Int.neg_mul]
    have e3:i64.wrap (0-fF (((a.natAbs:Nat):Int)*d) (((c.natAbs:Nat):Int)*b))=nD a b c d:=by
     rw [e1,e2];unfold nD fF;rw [eQ (by unfold bT;repeat' split<;>omega)]
     repeat' split<;>omega
    rw [e3];exact h
   ·have hcn:¬c<0:=by simpa [hneg] using hs.symm
    rw [Os hneg,bE,show ((a.natAbs:Nat):Int)=a by omega,show ((c.natAbs:Nat):Int)=c by omega];exact h
  ·have e:(decide (a<0) !=decide (c<0))=true:=by simpa using hs
   rw [e,aY,qi];have e2:fF a c=nD a b c d:=by
    unfold nD fF
    by_cases hneg:a<0
    ·have hcn:¬c<0:=by intro hcn;simp [hneg,hcn] at hs
     have q1:a*d<0:=Cn hneg (by omega);have q2:0≤c*b:=jI (by omega) (by omega);rw [Sy (by omega),Sy (by omega)]
    ·have hcn:c<0:=by
      by_cases hcn:c<0
      ·exact hcn
      ·simp [hneg,hcn] at hs
     have q1:c*b<0:=Cn hcn (by omega);have q2:0≤a*d:=jI (by omega) (by omega);rw [Sz (by omega),Sy (by omega),Sz (by omega),Sy (by omega)]
   rw [e2];exact h
 ·rw [Sz hk] at h;have e:(bV a b c d !=0)=true:=by simpa using hk
  rw [e,aY];exact h
def blen (x:Nat):Nat:=if x=0 then 0 else x.log2+1
theorem Yb (x:Nat):x<2 ^ blen x:=by
 unfold blen;split
 ·rename_i h;subst h;decide
 ·exact Nat.lt_log2_self
theorem Km {x:Nat} (h:x≠0):2 ^ (blen x-1)≤x:=by unfold blen;rw [Sz h];exact Nat.log2_self_le h
theorem qm {x m:Nat} (h1:2 ^ m≤x) (h2:x<2 ^ (m+1)):blen x=m+1:=by
 have hx:x≠0:=by have:=Nat.two_pow_pos m;omega
 unfold blen;rw [Sz hx];congr 1;have a:=Nat.log2_self_le hx;have b:=Nat.lt_log2_self (n:=x);have c1:¬(x.log2<m):=fun h=>by
  have:=EQ (show 0<2 by omega) (show x.log2+1≤m by omega);omega
 have c2:¬(m<x.log2):=fun h=>by
  have:=EQ (show 0<2 by omega) (show m+1≤x.log2 by omega);omega
 omega
theorem qn {x k:Nat} (h:2 ^ k≤x):blen x=k+blen (x/2 ^ k):=by
 have hp:=Nat.two_pow_pos k;have hq:x/2 ^ k≠0:=by have:=Nat.div_pos h hp;omega
 have h1:=Km hq;have h2:=Yb (x/2 ^ k);obtain ⟨m,hm⟩:∃ m,blen (x/2 ^ k)=m+1:=⟨blen (x/2 ^ k)-1,by
  have:blen (x/2 ^ k)≠0:=by unfold blen;rw [Sz hq];omega
  omega⟩
 rw [hm] at h1 h2 ⊢;rw [Nat.add_sub_cancel] at h1;have:=qm (x:=x) (m:=k+m) (by
   rw [Nat.pow_add]
   calc 2 ^ k*2 ^ m≤2 ^ k*(x/2 ^ k):=Nat.mul_le_mul_left _ h1
    _≤x:=Nat.mul_div_le _ _) (by
   rw [show k+m+1=k+(m+1) by omega,Nat.pow_add];rw [Nat.mul_comm];exact (Nat.div_lt_iff_lt_mul hp).1 h2)
 omega
theorem qo:∀ x:Nat,x<256→aP (getD rK x .nils)=(blen x:Int):=by decide +kernel
theorem Yc {n:Int} (h0:0≤n) (h1:n<256):u8.wrap n=n:=by have e1:(2:Int) ^ 8=256:=rfl;simp only [IntKind.wrap,IntKind.signed,IntKind.bits,mO,eC,if_false,e1];omega
theorem qp {n:Int} (h0:0≤n) (h1:n<256):aP (getD rK (u8.wrap n).toNat .nils)=(blen n.toNat:Int):=by rw [Yc h0 h1];exact qo n.toNat (by omega)
theorem qq {n:Nat} (h:n<256):blen n≤8:=by
 by_cases h0:n=0
 ·subst h0;decide
 ·have:=Km h0;have h2:blen n-1<8:=by
   refine Nat.lt_of_not_le fun hc=>?_
   have:=EQ (show 0<2 by omega) hc;omega
  omega
theorem Aa {n k:Int} (h0:0≤n) (h1:n<256) (hk:0≤k∧k≤56) {m:Int} (hm:m=k+blen n.toNat) {K:Int→Prop} (h:K m) :
  asr (decide ((0:Int)≤(u8.wrap n))) (asr (decide ((u8.wrap n)<(256:Int))) (K (i64.wrap (k+(i64.wrap (aP (getD rK ((u8.wrap n).toNat) .nils))))))):=by
 have hb:=qq (n:=n.toNat) (by omega);have e1:i64.wrap (blen n.toNat:Int)=blen n.toNat:=eQ (by unfold bT;omega);have e2:i64.wrap (k+blen n.toNat:Int)=k+blen n.toNat:=eQ (by unfold bT;omega);rw [qp h0 h1,Yc h0 h1,Eg h0,eS,Eg h1,eS,e1,e2,← hm];exact h
theorem BO (p q:Int) (hq:0≤q):Int.fdiv p q=p/q:=Int.fdiv_eq_ediv_of_nonneg _ hq
theorem qr {p:Int} (hp:eY p) {K:Int→Prop} (h:K (blen p.toNat:Int)):JQ p K:=by
 unfold eY at hp;unfold JQ Ot;simp only [BO _ 4294967296 (by omega),BO _ 65536 (by omega),BO _ 256 (by omega)];have key:∀ (k:Nat) (q:Int),2 ^ k≤p.toNat→q=p/(2 ^ k:Nat)→(blen p.toNat:Int)=k+blen q.toNat:=by
  intro k q hk hq;have e:q.toNat=p.toNat/2 ^ k:=by
   rw [hq];obtain ⟨m,rfl⟩:∃ m:Nat,p=m:=⟨p.toNat,by omega⟩;rw [← sX,cX,cX]
  rw [e];have:=qn hk;omega
 by_cases h1:p≥4294967296
 ·rw [Eg h1,aY]
  by_cases h2:p/4294967296≥65536
  ·rw [Eg h2,aY]
   by_cases h3:p/4294967296/65536≥256
   ·rw [Eg h3,aY];exact Aa (by omega) (by omega) (by omega) (key 56 _ (by omega) (by omega)) h
   ·rw [Os h3,bE];exact Aa (by omega) (by omega) (by omega) (key 48 _ (by omega) (by omega)) h
  ·rw [Os h2,bE]
   by_cases h3:p/4294967296≥256
   ·rw [Eg h3,aY];exact Aa (by omega) (by omega) (by omega) (key 40 _ (by omega) (by omega)) h
   ·rw [Os h3,bE];exact Aa (by omega) (by omega) (by omega) (key 32 _ (by omega) (by omega)) h
 ·rw [Os h1,bE]
  by_cases h2:p≥65536
  ·rw [Eg h2,aY]
   by_cases h3:p/65536≥256
   ·rw [Eg h3,aY];exact Aa (by omega) (by omega) (by omega) (key 24 _ (by omega) (by omega)) h
   ·rw [Os h3,bE];exact Aa (by omega) (by omega) (by omega) (key 16 _ (by omega) (by omega)) h
  ·rw [Os h2,bE]
   by_cases h3:p≥256
   ·rw [Eg h3,aY];exact Aa (by omega) (by omega) (by omega) (key 8 _ (by omega) (by omega)) h
   ·rw [Os h3,bE];exact Aa (by omega) (by omega) (by omega) (by simp) h
theorem qu {p:Int} (hp:eY p) {K:Int→Prop} (h:K (64-blen p.toNat:Int)):zN p K:=by
 unfold zN OG;refine qr hp ?_;have hb:blen p.toNat≤64:=by
  unfold eY at hp
  by_cases h0:p.toNat=0
  ·rw [h0];decide
  ·have:=Km h0;have h2:blen p.toNat-1<64:=by
    refine Nat.lt_of_not_le fun hc=>?_
    have:=EQ (show 0<2 by omega) hc;omega
   omega
 rw [eQ (by unfold bT;omega)];exact h
structure DI (y a b u un q r:Int):Prop where
 hy:y=a*4294967296+b
 h1:2147483648≤a∧a≤4294967295
 h0:0≤b∧b≤4294967295
 hn:0≤un∧un≤4294967295
 hu:q*a+r=u
 hq:0≤q∧q≤4294967297
 hr:0≤r∧r≤4294967295
 hlt:u<y
 hU:u*4294967296+un<(q+1)*y
def DG (y u un q:Int):Prop:=0≤q∧q≤4294967295∧q*y≤u*4294967296+un∧u*4294967296+un<(q+1)*y
theorem DI.step {y a b u un q r:Int} (h:DI y a b u un q r) {A B C:Prop}
  (hA:DG y u un (q-1)→0≤q-1→q-1≤4294967296→A)
  (hB:DI y a b u un (q-1) (r+a)→B)
  (hC:DG y u un q→C) :
  aD (decide (q≥(4294967296:Int)))
   (aD (decide ((u64.wrap (r+a))≥(4294967296:Int))) A B)
   (aD (decide ((u64.wrap (q*b))>(u64.wrap ((u64.wrap ((4294967296:Int)*r))+un))))
    (aD (decide ((u64.wrap (r+a))≥(4294967296:Int))) A B) C):=by
 have h':=h;obtain ⟨hy,h1,h0,hn,hu,hq,hr,hlt,hU⟩:=h;have e1:u64.wrap (r+a)=r+a:=aK ⟨by omega,by omega⟩;have eq1:q*y=q*a*4294967296+q*b:=by rw [hy];grind
 have eq2:(q-1)*y=q*y-y:=by grind
 have eq3:(q-1)*a=q*a-a:=by grind
 have eq4:(q-1+1)*y=q*y:=by grind
 have eq5:(q-1)*b=q*b-b:=by grind
 have big:u*4294967296+un<q*y→aD (decide ((u64.wrap (r+a))≥(4294967296:Int))) A B:=by
  intro hb;have q1:0≤q-1:=by
   refine Int.not_lt.1 fun hc=>?_
   have hq0:q=0:=by omega
   subst hq0;simp at hb hu;omega
  rw [e1]
  by_cases hc:r+a≥4294967296
  ·rw [Eg hc,aY];have hp:(q-1)*b≤4294967296*4294967295:=lO (by omega) h0.2 h0.1 (by omega);have hle:(q-1)*y≤u*4294967296+un:=by
    have:(q-1)*y=(q-1)*a*4294967296+(q-1)*b:=by rw [hy];grind
    omega
   have hlt32:q-1≤4294967295:=by
    refine Int.not_lt.1 fun hc=>?_
    have:4294967296*y≤(q-1)*y:=Ah (by omega) (by omega);omega
   exact hA ⟨q1,hlt32,hle,by rw [eq4];exact hb⟩ q1 (by omega)
  ·rw [Os hc,bE];exact hB ⟨hy,h1,h0,hn,by rw [eq3];omega,⟨q1,by omega⟩,⟨by omega,by omega⟩,hlt,by rw [eq4];exact hb⟩
 by_cases ha:q≥4294967296
 ·rw [Eg ha,aY];refine big ?_;have:4294967296*y≤q*y:=Ah (by omega) (by omega);omega
 ·rw [Os ha,bE];have hp:q*b≤4294967295*4294967295:=lO (by omega) h0.2 h0.1 (by omega);have hp0:0≤q*b:=jI hq.1 h0.1;have w1:u64.wrap (q*b)=q*b:=aK ⟨hp0,by omega⟩;have w2:u64.wrap ((4294967296:Int)*r)=4294967296*r:=aK ⟨by omega,by omega⟩;have w3:u64.wrap ((4294967296:Int)*r+un)=4294967296*r+un:=aK ⟨by omega,by omega⟩;rw [w1,w2,w3]
  by_cases hb:q*b>4294967296*r+un
  ·rw [Eg hb,aY];exact big (by omega)
  ·rw [Os hb,bE];exact hC ⟨hq.1,by omega,by omega,hU⟩
theorem qv (W:Int→(Int→Prop)→Prop) {y a c u un:Int} (s v un0:Int) {x0 x1:Int→Int→Int→Int→Int→Int→Int→Int→Int→Bool→Prop}
  (hx:∀ q r b,DG y u un q→x0 y s a c v un un0 q r b) (hx1:∀ q r b,DG y u un q→x1 y s a c v un un0 q r b) :
  ∀ (n:Nat) (q r:Int) (b:Bool),DI y a c u un q r→4294967296≤r+n*2147483648→zO W x0 x1 (n+1) y s a c v un un0 q r b:=by
 intro n;induction n with
 | zero =>intro q r b h hn;have:=h.hr.2;exact absurd hn (by omega)
 | succ n ih=>
  intro q r b h hn;unfold zO;refine h.step (fun g a1 a2=>?_) (fun g=>?_) (fun g=>hx1 _ _ _ g)
  ·rw [aK (n:=q-1) ⟨by omega,by omega⟩];exact hx _ _ _ g
  ·have e1:u64.wrap (q-1)=q-1:=aK ⟨g.hq.1,by have:=g.hq.2;omega⟩;have e2:u64.wrap (r+a)=r+a:=aK ⟨g.hr.1,by have:=g.hr.2;omega⟩;rw [e1,e2];exact ih _ _ _ g (by have:=h.h1.1;omega)
theorem qw (W:Int→(Int→Prop)→Prop) {y a c u un:Int} (s q1 v:Int) {x0 x1:Int→Int→Int→Int→Int→Int→Int→Int→Int→Bool→Prop}
  (hx:∀ q r b,DG y u un q→x0 y s a c un q1 r v q b) (hx1:∀ q r b,DG y u un q→x1 y s a c un q1 r v q b) :
  ∀ (n:Nat) (q r:Int) (b:Bool),DI y a c u un q r→4294967296≤r+n*2147483648→zP W x0 x1 (n+1) y s a c un q1 r v q b:=by
 intro n;induction n with
 | zero =>intro q r b h hn;have:=h.hr.2;exact absurd hn (by omega)
 | succ n ih=>
  intro q r b h hn;unfold zP;refine h.step (fun g a1 a2=>?_) (fun g=>?_) (fun g=>hx1 _ _ _ g)
  ·rw [aK (n:=q-1) ⟨by omega,by omega⟩];exact hx _ _ _ g
  ·have e1:u64.wrap (q-1)=q-1:=aK ⟨g.hq.1,by have:=g.hq.2;omega⟩;have e2:u64.wrap (r+a)=r+a:=aK ⟨g.hr.1,by have:=g.hr.2;omega⟩;rw [e1,e2];exact ih _ _ _ g (by have:=h.h1.1;omega)
theorem qx (W:Int→(Int→Prop)→Prop) {y a c u un:Int} (s v un0:Int) {x0 x1:Int→Int→Int→Int→Int→Int→Int→Int→Int→Bool→Prop}
  (hx:∀ q r b,DG y u un q→x0 y s a c v un un0 q r b) (hx1:∀ q r b,DG y u un q→x1 y s a c v un un0 q r b) (q r:Int) (h:DI y a c u un q r):JT W x0 x1 3 y s a c v un un0 q r:=by
 have:=qv W s v un0 hx hx1 2 q r true h (by have:=h.hr.1;omega);unfold zO at this;unfold JT;exact this
theorem qy (W:Int→(Int→Prop)→Prop) {y a c u un:Int} (s q1 v:Int) {x0 x1:Int→Int→Int→Int→Int→Int→Int→Int→Int→Bool→Prop}
  (hx:∀ q r b,DG y u un q→x0 y s a c un q1 r v q b) (hx1:∀ q r b,DG y u un q→x1 y s a c un q1 r v q b) (q r:Int) (h:DI y a c u un q r):DX W x0 x1 3 y s a c un q1 r v q:=by
 have:=qw W s q1 v hx hx1 2 q r true h (by have:=h.hr.1;omega);unfold zP at this;unfold DX;exact this
theorem DI.init {y a b u un:Int} (hy:y=a*4294967296+b) (h1:2147483648≤a∧a≤4294967295) (h0:0≤b∧b≤4294967295) (hn:0≤un∧un≤4294967295)
  (hu:0≤u) (hlt:u<y):DI y a b u un (u/a) (u-u/a*a):=by
 have a1:=Int.mul_ediv_add_emod u a;have a2:=Int.emod_nonneg u (show a≠0 by omega);have a3:=Int.emod_lt_of_pos u (show 0<a by omega);have a4:u/a*a=a*(u/a):=xU _ _;have a5:0≤u/a:=Cu hu (by omega);have a6:u/a≤4294967297:=by
  refine Int.not_lt.1 fun hc=>?_
  have:a*4294967298≤a*(u/a):=HN (by omega) (by omega);omega
 refine ⟨hy,h1,h0,hn,by omega,⟨a5,a6⟩,⟨by omega,by omega⟩,hlt,?_⟩;have e:(u/a+1)*y=a*(u/a)*4294967296+a*4294967296+(u/a+1)*b:=by
  obtain ⟨t,ht⟩:∃ t,t=u/a:=⟨_,rfl⟩;rw [← ht,hy];grind
 have:0≤(u/a+1)*b:=jI (by omega) h0.1;omega
theorem Yd {a b:Int} {k:Nat} (ha:0≤a) (hb:0≤b∧b<2 ^ k) (hab:a*2 ^ k≤18446744073709551615∧b≤18446744073709551615) (hs:a*2 ^ k+b≤18446744073709551615) :
  u64.wrap (BitVec.ofInt u64.bits (a*2 ^ k)|||BitVec.ofInt u64.bits b).toNat=a*2 ^ k+b:=by
 obtain ⟨x,rfl⟩:∃ x:Nat,a=x:=⟨a.toNat,by omega⟩;obtain ⟨z,rfl⟩:∃ z:Nat,b=z:=⟨b.toNat,by omega⟩;have ec:((x:Int)*2 ^ k)=((2 ^ k*x:Nat):Int):=by push_cast;exact xU _ _
 rw [ec] at hab hs ⊢;have hz:z<2 ^ k:=by have:=hb.2;exact_mod_cast this
 have e:(BitVec.ofInt u64.bits ((2 ^ k*x:Nat):Int)|||BitVec.ofInt u64.bits (z:Int)).toNat=2 ^ k*x+z:=by
  show (BitVec.ofInt 64 ((2 ^ k*x:Nat):Int)|||BitVec.ofInt 64 (z:Int)).toNat=_;rw [BitVec.toNat_or,BitVec.toNat_ofInt,BitVec.toNat_ofInt];have e1:(((2 ^ k*x:Nat):Int)%(2 ^ 64:Nat)).toNat=2 ^ k*x:=by omega
  have e2:((z:Int)%(2 ^ 64:Nat)).toNat=z:=by omega
  rw [e1,e2,Nat.two_pow_add_eq_or_of_lt hz]
 rw [e,aK ⟨by omega,by omega⟩]
 push_cast;rfl
theorem Ye {u un q y:Int} (h0:0≤u*4294967296+un-q*y) (h1:u*4294967296+un-q*y≤18446744073709551615) :
  u64.wrap (u64.wrap (u64.wrap (u*4294967296)+un)-u64.wrap (q*y))=u*4294967296+un-q*y:=by
 simp only [wY];omega
theorem sF {a b:Int} (h:0≤a):Int.tdiv a b=a/b:=Int.tdiv_eq_ediv_of_nonneg h
theorem Yf {a b:Int} (h:0≤a):Int.tmod a b=a%b:=Int.tmod_eq_emod_of_nonneg h
theorem Yg {h l y:Int} (hh:eY h) (hl:eY l) (hy:eY y) (hlt:h<y) {K:Int→Int→Prop}
  (k:K ((h*18446744073709551616+l)/y) ((h*18446744073709551616+l)%y)):zU h l y K:=by
 unfold eY at hh hl hy;unfold zU OH;have b1:(y ==(0:Int))=false:=beq_eq_false_iff_ne.2 (by omega);have b2:decide (y≤h)=false:=Os (by omega);have b3:(!(decide (y=(0:Int))))=true:=by rw [Os (by omega)];rfl
 rw [b1,bE,b2,bE,b3]
 by_cases h0:h=0
 ·subst h0;have:((0:Int)==0)=true:=rfl;rw [this,aY,eS,eS,sF hl.1,Yf hl.1];have e:(0:Int)*18446744073709551616+l=l:=by omega
  rw [e] at k;have b4:l/y≤l:=Int.ediv_le_self _ hl.1;rw [aK ⟨Cu hl.1 (by omega),by omega⟩];exact k
 ·have b4:(h ==(0:Int))=false:=beq_eq_false_iff_ne.2 h0;rw [b4,bE];refine qu ⟨by omega,by omega⟩ ?_;have hyn:y.toNat≠0:=by omega
  have c1:=Yb y.toNat
  have c2:=Km hyn;have c3:blen y.toNat≤64:=by
   refine Nat.le_of_not_lt fun hc=>?_
   have:=EQ (show 0<2 by omega) (show 64≤blen y.toNat-1 by omega);omega
  have c4:1≤blen y.toNat:=by
   refine Nat.le_of_not_lt fun hc=>?_
   have:blen y.toNat=0:=by omega
   rw [this] at c1;omega
  obtain ⟨m,hm⟩:∃ m,m=64-blen y.toNat:=⟨_,rfl⟩;have es:(64-(blen y.toNat:Int))=(m:Int):=by omega
  rw [es];have m63:m≤63:=by omega
  have e1:u64.wrap (m:Int)=m:=aK ⟨by omega,by omega⟩;have e2:u64.wrap ((64:Int)-m)=((64-m:Nat):Int):=by rw [aK ⟨by omega,by omega⟩];omega
  have e3:min ((m:Int)).toNat u64.bits=m:=by show min ((m:Int)).toNat 64=m;rw [cX];omega
  have e4:min (((64-m:Nat):Int)).toNat u64.bits=64-m:=by show min (((64-m:Nat):Int)).toNat 64=64-m;rw [cX];omega
  simp only [e1];rw [e2,e3,e4];have p64:(2:Int) ^ (64-m)*2 ^ m=18446744073709551616:=by
   rw [← Int.pow_add,show 64-m+m=64 by omega];rfl
  have p63:(2:Int) ^ (63-m)*2 ^ m=9223372036854775808:=by rw [← Int.pow_add,show 63-m+m=63 by omega];rfl
  have tp:(0:Int)<2 ^ m:=Int.pow_pos (by omega);have tp':(0:Int)<2 ^ (64-m):=Int.pow_pos (by omega);have y1:y<(2:Int) ^ (64-m):=by
   have:blen y.toNat=64-m:=by omega
   rw [this] at c1;have c1':((y.toNat:Nat):Int)<((2 ^ (64-m):Nat):Int):=by exact_mod_cast c1
   push_cast at c1'
   omega
  have y2:(2:Int) ^ (63-m)≤y:=by
   have:blen y.toNat-1=63-m:=by omega
   rw [this] at c2;have c2':((2 ^ (63-m):Nat):Int)≤((y.toNat:Nat):Int):=by exact_mod_cast c2
   push_cast at c2'
   omega
  have Y1:y*2 ^ m<18446744073709551616:=by have:=Int.mul_lt_mul_of_pos_right y1 tp;omega
  have Y2:9223372036854775808≤y*2 ^ m:=by have:=Ah y2 (show (0:Int)≤2 ^ m by omega);omega
  have H1:(h+1)*2 ^ m≤y*2 ^ m:=Ah (by omega) (by omega);have H2:(h+1)*2 ^ m=h*2 ^ m+2 ^ m:=by grind
  have H0:0≤h*2 ^ m:=jI hh.1 (by omega);have fd:Int.fdiv l (2 ^ (64-m))=l/2 ^ (64-m):=BO _ _ (by omega);have L1:=Int.mul_ediv_add_emod l (2 ^ (64-m));have L2:=Int.emod_nonneg l (show (2:Int) ^ (64-m)≠0 by omega);have L3:=Int.emod_lt_of_pos l tp';have L4:0≤l/2 ^ (64-m):=Cu hl.1 (by omega);have L5:l/2 ^ (64-m)<2 ^ m:=by refine Int.ediv_lt_of_lt_mul tp' ?_;rw [xU,p64];omega
  have w1:u64.wrap (y*2 ^ m)=y*2 ^ m:=aK ⟨by omega,by omega⟩;have w2:u64.wrap (h*2 ^ m)=h*2 ^ m:=aK ⟨by omega,by omega⟩;have w3:u64.wrap (BitVec.ofInt u64.bits (h*2 ^ m)|||BitVec.ofInt u64.bits (l/2 ^ (64-m))).toNat=h*2 ^ m+l/2 ^ (64-m):=
   Yd hh.1 ⟨L4,L5⟩ ⟨by omega,by omega⟩ (by omega)
  have w4:u64.wrap (l*2 ^ m)=l%2 ^ (64-m)*2 ^ m:=by
   have e:l*2 ^ m=(l/2 ^ (64-m))*18446744073709551616+l%2 ^ (64-m)*2 ^ m:=by rw [← p64];obtain ⟨a,ha⟩:∃ a,a=l/2 ^ (64-m):=⟨_,rfl⟩;obtain ⟨b,hb⟩:∃ b,b=l%2 ^ (64-m):=⟨_,rfl⟩;obtain ⟨t,ht⟩:∃ t,t=(2:Int) ^ m:=⟨_,rfl⟩;obtain ⟨t',ht'⟩:∃ t,t=(2:Int) ^ (64-m):=⟨_,rfl⟩;rw [← ha,← hb,← ht'] at L1;rw [← ha,← hb,← ht,← ht'];rw [← L1];grind
   have e5:l%2 ^ (64-m)*2 ^ m<18446744073709551616:=by rw [← p64];exact Int.mul_lt_mul_of_pos_right L3 tp
   have e6:0≤l%2 ^ (64-m)*2 ^ m:=jI L2 (by omega);rw [e,wY];omega
  have e5:l%2 ^ (64-m)*2 ^ m<18446744073709551616:=by rw [← p64];exact Int.mul_lt_mul_of_pos_right L3 tp
  have e6:0≤l%2 ^ (64-m)*2 ^ m:=jI L2 (by omega);have eN:(h*18446744073709551616+l)*2 ^ m=(h*2 ^ m+l/2 ^ (64-m))*18446744073709551616+l%2 ^ (64-m)*2 ^ m:=by rw [← p64];obtain ⟨a,ha⟩:∃ a,a=l/2 ^ (64-m):=⟨_,rfl⟩;obtain ⟨b,hb⟩:∃ b,b=l%2 ^ (64-m):=⟨_,rfl⟩;obtain ⟨t,ht⟩:∃ t,t=(2:Int) ^ m:=⟨_,rfl⟩;obtain ⟨t',ht'⟩:∃ t,t=(2:Int) ^ (64-m):=⟨_,rfl⟩;rw [← ha,← hb,← ht'] at L1;rw [← ha,← hb,← ht,← ht'];rw [← L1];grind
  have U1:h*2 ^ m+l/2 ^ (64-m)<y*2 ^ m:=by omega
  have U0:0≤h*2 ^ m+l/2 ^ (64-m):=by omega
  rw [fd,w1,w2,w3,w4];have b5:(!(decide ((m:Int)<0)))=true:=by rw [Os (by omega)];rfl
  have b6:(!(decide (((64-m:Nat):Int)<0)))=true:=by rw [Os (by omega)];rfl
  rw [b5,b6,eS,eS,eS,eS];generalize h*2 ^ m+l/2 ^ (64-m)=u at *
  generalize hl0:l%2 ^ (64-m)*2 ^ m=v at *
  generalize hY:y*2 ^ m=Y at *
  rw [BO Y _ (by omega),BO v _ (by omega),wZ ⟨by omega,by omega⟩,wZ ⟨by omega,by omega⟩,sF U0];have b7:(!(decide (Y/4294967296=(0:Int))))=true:=by rw [Os (by omega)];rfl
  rw [b7,eS];obtain ⟨c,hyn1⟩:∃ a,a=Y/4294967296:=⟨_,rfl⟩;obtain ⟨d,hyn0⟩:∃ a,a=Y%4294967296:=⟨_,rfl⟩;obtain ⟨un1,hun1⟩:∃ a,a=v/4294967296:=⟨_,rfl⟩;obtain ⟨un0,hun0⟩:∃ a,a=v%4294967296:=⟨_,rfl⟩;rw [← hyn1,← hyn0,← hun1,← hun0];have d1:2147483648≤c∧c≤4294967295:=by omega
  have d0:0≤d∧d≤4294967295:=by omega
  have dn1:0≤un1∧un1≤4294967295:=by omega
  have dn0:0≤un0∧un0≤4294967295:=by omega
  have dY:Y=c*4294967296+d:=by omega
  have g1:=DI.init dY d1 d0 dn1 U0 U1;have x1:u64.wrap (u/c)=u/c:=aK ⟨g1.hq.1,by have:=g1.hq.2;omega⟩;have x2:u64.wrap (u-u64.wrap (u/c*c))=u-u/c*c:=by have r1:=g1.hr.1;have r2:0≤u/c*c:=jI g1.hq.1 (by omega);have r3:=g1.hr.2;rw [aK (n:=u/c*c) ⟨r2,by omega⟩,aK ⟨r1,by omega⟩]
  rw [x1,x2];have fin:∀ q1:Int,DG Y u un1 q1→∀ (un21:Int),un21=u*4294967296+un1-q1*Y→∀ q0,DG Y un21 un0 q0 →
    K (u64.wrap ((u64.wrap (q1*(4294967296:Int)))+q0)) (Int.fdiv (u64.wrap ((u64.wrap ((u64.wrap (un21*(4294967296:Int)))+un0))-(u64.wrap (q0*Y)))) (2 ^ (min ((m:Int)).toNat u64.bits))):=by
   intro q1 G1 un21 e21 q0 G0;obtain ⟨a1,a2,a3,a4⟩:=G1;obtain ⟨c1,c2,c3,c4⟩:=G0;have s1:(q1+1)*Y=q1*Y+Y:=by grind
   have s0:(q0+1)*Y=q0*Y+Y:=by grind
   have w5:u64.wrap (q1*4294967296)=q1*4294967296:=aK ⟨by omega,by omega⟩;have w6:u64.wrap (q1*4294967296+q0)=q1*4294967296+q0:=aK ⟨by omega,by omega⟩;rw [Ye (by omega) (by omega),w5,w6,e3,BO _ _ (by omega)];have eT:un21*4294967296+un0-q0*Y=(h*18446744073709551616+l-(q1*4294967296+q0)*y)*2 ^ m:=by
    have f1:(q1*4294967296+q0)*Y=q1*Y*4294967296+q0*Y:=by grind
    have f2:(h*18446744073709551616+l-(q1*4294967296+q0)*y)*2 ^ m=(h*18446744073709551616+l)*2 ^ m-(q1*4294967296+q0)*Y:=by rw [← hY,Int.sub_mul,Int.mul_assoc (q1*4294967296+q0)]
    rw [f2,f1,eN];omega
   rw [eT,Int.mul_ediv_cancel _ (by omega)];have r0:0≤h*18446744073709551616+l-(q1*4294967296+q0)*y:=by
    refine Int.not_lt.1 fun hc=>?_
    have:=Cn hc tp;omega
   have r1:h*18446744073709551616+l-(q1*4294967296+q0)*y<y:=by
    refine Int.not_le.1 fun hc=>?_
    have:=Ah hc (show (0:Int)≤2 ^ m by omega);omega
   obtain ⟨Q,hQ⟩:∃ Q,Q=q1*4294967296+q0:=⟨_,rfl⟩;rw [← hQ] at r0 r1 ⊢;have z1:(h*18446744073709551616+l)/y=Q:=by
    have:h*18446744073709551616+l=(h*18446744073709551616+l-Q*y)+Q*y:=by omega
    rw [this,Int.add_mul_ediv_right _ _ (by omega),Int.ediv_eq_zero_of_lt r0 r1];omega
   have z2:(h*18446744073709551616+l)%y=h*18446744073709551616+l-Q*y:=by have:=Int.mul_ediv_add_emod (h*18446744073709551616+l) y;rw [z1,xU] at this;omega
   rw [z1,z2] at k;exact k
  have mid:∀ q:Int,DG Y u un1 q→∀ (X:Int→Int→Int→Int→Int→Int→Int→Int→Int→Bool→Prop),(∀ q0 r0 b0,DG Y (u*4294967296+un1-q*Y) un0 q0→X Y m c d un0 q r0 (u*4294967296+un1-q*Y) q0 b0) →
    asr (!(decide (c=(0:Int)))) (∃ n:Nat,DX zN X X n Y m c d un0 q ((u64.wrap ((u64.wrap ((u64.wrap ((u64.wrap (u*(4294967296:Int)))+un1))-(u64.wrap (q*Y))))-(u64.wrap ((u64.wrap (Int.tdiv (u64.wrap ((u64.wrap ((u64.wrap (u*(4294967296:Int)))+un1))-(u64.wrap (q*Y)))) c))*c))))) (u64.wrap ((u64.wrap ((u64.wrap (u*(4294967296:Int)))+un1))-(u64.wrap (q*Y)))) (u64.wrap (Int.tdiv (u64.wrap ((u64.wrap ((u64.wrap (u*(4294967296:Int)))+un1))-(u64.wrap (q*Y)))) c))):=by
   intro q G X hX;obtain ⟨a1,a2,a3,a4⟩:=G;have s1:(q+1)*Y=q*Y+Y:=by grind
   have b8:(!(decide (c=(0:Int))))=true:=by rw [Os (by omega)];rfl
   rw [b8,eS,Ye (by omega) (by omega),sF (by omega)];have g0:=DI.init dY d1 d0 dn0 (u:=u*4294967296+un1-q*Y) (by omega) (by omega);generalize u*4294967296+un1-q*Y=u2 at *
   have x1:u64.wrap (u2/c)=u2/c:=aK ⟨g0.hq.1,by have:=g0.hq.2;omega⟩;have x2:u64.wrap (u2-u64.wrap (u2/c*c))=u2-u2/c*c:=by have r1:=g0.hr.1;have r2:0≤u2/c*c:=jI g0.hq.1 (by omega);have r3:=g0.hr.2;have r4:=g0.hlt;rw [aK (n:=u2/c*c) ⟨r2,by omega⟩,aK ⟨r1,by omega⟩]
   rw [x1,x2];exact ⟨3,qy _ _ _ _ (fun q0 r0 b0 g=>hX q0 r0 b0 g) (fun q0 r0 b0 g=>hX q0 r0 b0 g) _ _ g0⟩
  have leaf:∀ {P:Prop},P→asr (!(decide ((m:Int)<0))) P:=fun p=>by rw [b5,eS];exact p
  refine ⟨3,qx _ _ _ _ (fun q r b G=>?_) (fun q r b G=>?_) _ _ g1⟩
  ·exact mid q G _ (fun q0 r0 b0 G0=>leaf (fin q G _ rfl q0 G0))
  ·exact mid q G _ (fun q0 r0 b0 G0=>leaf (fin q G _ rfl q0 G0))
theorem qz {h l y:Int} (hh:eY h) (hl:eY l) (hy:eY y) (h0:0<y) {K:Int→Prop}
  (k:K ((h*18446744073709551616+l)%y)):BB h l y K:=by
 unfold BB OM;have b3:(!(decide (y=(0:Int))))=true:=by rw [Os (by omega)];rfl
 have a1:=Int.emod_nonneg h (show y≠0 by omega);have a2:=Int.emod_lt_of_pos h h0;have hh':=hh;unfold eY at hh hy;rw [b3,eS,Yf hh.1];refine Yg ⟨a1,by omega⟩ hl ⟨by omega,by omega⟩ a2 ?_;have e:(h%y*18446744073709551616+l)%y=(h*18446744073709551616+l)%y:=by rw [Int.add_emod,Int.mul_emod,Int.emod_emod,← Int.mul_emod,← Int.add_emod]
 rw [e];exact k
def gN (s:Bool) (a b:Int) (K:Int→Int→Int→Prop):Prop:=
 if a≤1000000000000000000∧b≤1000000000000000000 then K (if s then -a else a) b 0 else K 0 0 16
theorem Rb {s:Bool} {a b:Int} (ha:0≤a) (hb:0≤b) (K:Int→Int→Int→Prop):zV s a b K=gN s a b K:=by
 unfold zV OO gN
 by_cases h:a≤1000000000000000000∧b≤1000000000000000000
 ·have e:decide ((if b>a then b else a)>(1000000000000000000:Int))=false:=by
   refine Os ?_;split<;>omega
  have w1:i64.wrap a=a:=eQ ⟨by omega,by omega⟩;have w2:i64.wrap b=b:=eQ ⟨by omega,by omega⟩;have w3:i64.wrap (0-a)=-a:=by rw [eQ ⟨by omega,by omega⟩];omega
  rw [e,bE,Sy h,w1,w2,w3]
  cases s
  ·rfl
  ·rfl
 ·have e:decide ((if b>a then b else a)>(1000000000000000000:Int))=true:=by
   refine Eg ?_;split<;>omega
  rw [e,aY,Sz h]
def nE (a c:Int) (b d:Int):Nat:=(a.natAbs/Nat.gcd a.natAbs d.natAbs)*(c.natAbs/Nat.gcd c.natAbs b.natAbs)
def nF (a c:Int) (b d:Int):Nat:=(b.natAbs/Nat.gcd c.natAbs b.natAbs)*(d.natAbs/Nat.gcd a.natAbs d.natAbs)
theorem Rc {a b c d:Int} (ha:bT a) (hb:bT b) (hc:bT c) (hd:bT d) {K:Int→Int→Int→Prop}
  (k:if bV a b c d=0 then gN (decide (a<0) !=decide (c<0)) (nE a c b d) (nF a c b d) K else K 0 0 (bV a b c d)):lY a b c d K:=by
 unfold lY OR;refine Ho ha hb hc hd ?_
 by_cases h:bV a b c d=0
 ·rw [Sy h] at k;have:(bV a b c d !=(0:Int))=false:=by rw [h];rfl
  rw [this,bE,zZ ha,zZ hc];obtain ⟨⟨b1,b2,a1,a2,_⟩,d1,d2,c1,c2,_⟩:=xA.1 h;have wb:u64.wrap b=((b.natAbs:Nat):Int):=by rw [aK ⟨by omega,by omega⟩];omega
  have wd:u64.wrap d=((d.natAbs:Nat):Int):=by rw [aK ⟨by omega,by omega⟩];omega
  rw [wb,wd];refine Hn _ _ _ (Hn _ _ _ ?_);unfold nE nF at k;have g1:0<Nat.gcd a.natAbs d.natAbs:=Co _ (by omega);have g2:0<Nat.gcd c.natAbs b.natAbs:=Co _ (by omega);obtain ⟨g3,h3⟩:∃ g,g=Nat.gcd a.natAbs d.natAbs:=⟨_,rfl⟩;obtain ⟨g4,h4⟩:∃ g,g=Nat.gcd c.natAbs b.natAbs:=⟨_,rfl⟩;rw [← h3,← h4] at k ⊢;rw [← h3] at g1;rw [← h4] at g2;have n3:(!(decide ((g3:Int)=(0:Int))))=true:=by rw [Os (by omega)];rfl
  have n4:(!(decide ((g4:Int)=(0:Int))))=true:=by rw [Os (by omega)];rfl
  rw [n3,n4,eS,eS,sF (by omega),sF (by omega),sF (by omega),sF (by omega),← sX,← sX,← sX,← sX];have q1:a.natAbs/g3≤a.natAbs:=xS _ _;have q2:c.natAbs/g4≤c.natAbs:=xS _ _;have q3:b.natAbs/g4≤b.natAbs:=xS _ _;have q4:d.natAbs/g3≤d.natAbs:=xS _ _;generalize a.natAbs/g3=A at *
  generalize c.natAbs/g4=C at *
  generalize b.natAbs/g4=B at *
  generalize d.natAbs/g3=D at *
  rw [aK (n:=(A:Int)) ⟨by omega,by omega⟩,aK (n:=(C:Int)) ⟨by omega,by omega⟩,aK (n:=(B:Int)) ⟨by omega,by omega⟩,aK (n:=(D:Int)) ⟨by omega,by omega⟩,
   BN ⟨by omega,by omega⟩ ⟨by omega,by omega⟩,eS,eS,BN ⟨by omega,by omega⟩ ⟨by omega,by omega⟩]
  have m1:A*C≤1000000000000000000*1000000000000000000:=Am (by omega) (by omega);have m2:B*D≤1000000000000000000*1000000000000000000:=Am (by omega) (by omega);rw [← xR,← xR];generalize A*C=M at *
  generalize B*D=N at *
  have wm:u64.wrap ((M:Int)/18446744073709551616+(N:Int)/18446744073709551616)=(M:Int)/18446744073709551616+(N:Int)/18446744073709551616:=aK ⟨by omega,by omega⟩;rw [wm]
  by_cases hb:(M:Int)/18446744073709551616+(N:Int)/18446744073709551616>0
  ·rw [Eg hb,aY];unfold gN at k;rw [Sz (by omega)] at k;exact k
  ·rw [Os hb,bE];have eM:(M:Int)%18446744073709551616=M:=by omega
   have eN:(N:Int)%18446744073709551616=N:=by omega
   rw [eM,eN]
   by_cases h0:(M:Int)>0
   ·rw [Eg h0,aY,Rb (by omega) (by omega)];exact k
   ·rw [Os h0,bE,Rb (by omega) (by omega)];have hz:M=0:=by omega
    subst hz;unfold gN at k ⊢
    by_cases hN:(N:Int)≤1000000000000000000
    ·rw [Sy ⟨by omega,hN⟩] at k ⊢;have e:(if (decide (a<0) !=decide (c<0))=true then -((0:Nat):Int) else ((0:Nat):Int))=0:=by split<;>rfl
     rw [e] at k;exact k
    ·rw [Sz (by omega)] at k ⊢;exact k
 ·rw [Sz h] at k;have:(bV a b c d !=(0:Int))=true:=by rw [bne_iff_ne];exact h
  rw [this,aY];exact k
theorem RV.swap {c d:Int} (h:RV c d) (h0:0<c):RV d c:=by obtain ⟨d1,d2,c1,c2,g⟩:=h;exact ⟨by omega,c2,by omega,d2,by rw [uM];exact g⟩
theorem RV.swapn {c d:Int} (h:RV c d) (h0:c<0):RV (-d) (-c):=by obtain ⟨d1,d2,c1,c2,g⟩:=h;exact ⟨by omega,by omega,by omega,by omega,by rw [Int.natAbs_neg,Int.natAbs_neg,uM];exact g⟩
theorem ra {a b c d:Int} (ha:bT a) (hb:bT b) (hc:bT c) (hd:bT d) {K:Int→Int→Int→Prop}
  (k:if bV a b c d=0 then (if c=0 then K 0 0 18 else gN (decide (a<0) !=decide (c<0)) (nE a d b c) (nF a d b c) K) else K 0 0 (bV a b c d)):pK a b c d K:=by
 unfold pK OS;refine Ho ha hb hc hd ?_
 by_cases h:bV a b c d=0
 ·rw [Sy h] at k;have:(bV a b c d !=(0:Int))=false:=by rw [h];rfl
  rw [this,bE];obtain ⟨hab,hcd⟩:=xA.1 h;obtain ⟨d1,d2,c1,c2,_⟩:=id hcd
  by_cases h0:c=0
  ·rw [Sy h0] at k;have:(c ==(0:Int))=true:=beq_iff_eq.2 h0;rw [this,aY];exact k
  ·rw [Sz h0] at k;have:(c ==(0:Int))=false:=beq_eq_false_iff_ne.2 h0;rw [this,bE]
   by_cases hn:c<0
   ·rw [Eg hn] at k;rw [Eg hn,aY,eQ (n:=0-d) ⟨by omega,by omega⟩,eQ (n:=0-c) ⟨by omega,by omega⟩,Int.zero_sub,Int.zero_sub];have e:bV a b (-d) (-c)=0:=xA.2 ⟨hab,hcd.swapn hn⟩;refine Rc ha hb ⟨by omega,by omega⟩ ⟨by omega,by omega⟩ ?_;rw [Sy e,Eg (show -d<0 by omega)];unfold nE nF at k ⊢;rw [Int.natAbs_neg,Int.natAbs_neg];exact k
   ·rw [Os hn] at k;rw [Os hn,bE];have e:bV a b d c=0:=xA.2 ⟨hab,hcd.swap (by omega)⟩;refine Rc ha hb hd hc ?_;rw [Sy e,Os (show ¬d<0 by omega)];exact k
 ·rw [Sz h] at k;have:(bV a b c d !=(0:Int))=true:=by rw [bne_iff_ne];exact h
  rw [this,aY];exact k
theorem re {s:Bool} {hi lo p1 p3:Int} {g:Nat} (hh:eY hi) (hl:eY lo) (hg:0<g) (g1:(g:Int)≤1000000000000000000)
   (h1:0≤p1∧p1≤1000000000000000000) (h3:0≤p3∧p3≤1000000000000000000) {K:Int→Int→Int→Prop}
   (k:gN s (((hi*18446744073709551616+lo).toNat/Nat.gcd (hi*18446744073709551616+lo).toNat g:Nat):Int)
    (((p1.toNat/g)*(p3.toNat/Nat.gcd (hi*18446744073709551616+lo).toNat g):Nat):Int) K) :
   (BB hi lo (g:Int) (fun (b:Int)=>
 (rY b (g:Int) (fun (a:Int)=>
 (aD (decide (hi≥a))
 (K (0:Int) (0:Int) (16:Int))
 (zU hi lo a (fun (c:Int) (j:Int)=>
 (asr (!(decide ((g:Int)=(0:Int))))
 (asr (!(decide (a=(0:Int))))
 (wL (u64.wrap (Int.tdiv (u64.wrap p1) (g:Int))) (u64.wrap (Int.tdiv (u64.wrap p3) a)) (fun (d:Int) (e:Int)=>
 (aD (decide (d>(0:Int)))
 (K (0:Int) (0:Int) (16:Int))
 (zV s c e (fun (f:Int) (h:Int) (i:Int)=>
 (K f h i))))))))))))))):=by
  unfold eY at hh hl;obtain ⟨X,hX⟩:∃ X:Nat,X=(hi*18446744073709551616+lo).toNat:=⟨_,rfl⟩;have eX:hi*18446744073709551616+lo=(X:Int):=by omega
  rw [← hX] at k;refine qz hh hl ⟨by omega,by omega⟩ (by omega) ?_;rw [eX,← Int.natCast_emod];refine Hn _ _ _ ?_;have eg:Nat.gcd (X%g) g=Nat.gcd X g:=by rw [uM,uM X,Nat.gcd_rec g X,uM]
  rw [eg];have gp:0<Nat.gcd X g:=Co _ hg;have gl:Nat.gcd X g≤g:=Nat.le_of_dvd hg (EW _ _);generalize Nat.gcd X g=G at *
  by_cases hb:hi≥(G:Int)
  ·rw [Eg hb,aY];unfold gN at k;have:18446744073709551616≤X/G:=by
    rw [Nat.le_div_iff_mul_le gp];omega
   rw [Sz (by omega)] at k;exact k
  ·rw [Os hb,bE];refine Yg hh hl ⟨by omega,by omega⟩ (by omega) ?_;rw [eX];have n3:(!(decide ((g:Int)=(0:Int))))=true:=by rw [Os (by omega)];rfl
   have n4:(!(decide ((G:Int)=(0:Int))))=true:=by rw [Os (by omega)];rfl
   have e1:u64.wrap p1=(p1.toNat:Int):=by rw [aK ⟨by omega,by omega⟩];omega
   have e3:u64.wrap p3=(p3.toNat:Int):=by rw [aK ⟨by omega,by omega⟩];omega
   rw [n3,n4,eS,eS,e1,e3,sF (by omega),sF (by omega),← sX,← sX,← sX];have q1:p1.toNat/g≤p1.toNat:=xS _ _;have q3:p3.toNat/G≤p3.toNat:=xS _ _;generalize p1.toNat/g=A at *
   generalize p3.toNat/G=B at *
   generalize X/G=N at *
   rw [aK (n:=(A:Int)) ⟨by omega,by omega⟩,aK (n:=(B:Int)) ⟨by omega,by omega⟩,BN ⟨by omega,by omega⟩ ⟨by omega,by omega⟩,← xR];generalize A*B=D at *
   by_cases hd:((D:Int)/18446744073709551616)>0
   ·rw [Eg hd,aY];unfold gN at k;rw [Sz (by omega)] at k;exact k
   ·rw [Os hd,bE];have eD:(D:Int)%18446744073709551616=D:=by omega
    rw [eD,Rb (by omega) (by omega)];exact k
theorem Yh {p q c:Int} {K:Int→Int→Prop} (hc:c.toNat≤1) (k:K (((p.toNat+q.toNat+c.toNat)%18446744073709551616:Nat):Int) (((p.toNat+q.toNat+c.toNat)/18446744073709551616:Nat):Int)):Dc p q c K:=by unfold Dc;rw [Eg hc,eS];exact k
theorem Yi {p q c:Int} {K:Int→Int→Prop} (hc:c.toNat≤1) (k:K (((p.toNat+18446744073709551616-q.toNat-c.toNat)%18446744073709551616:Nat):Int) ((if q.toNat+c.toNat≤p.toNat then 0 else 1:Nat):Int)):Dd p q c K:=by
 unfold Dd;rw [Eg hc,eS];have e:(bif Nat.ble (q.toNat+c.toNat) p.toNat then 0 else 1:Nat)=(if q.toNat+c.toNat≤p.toNat then 0 else 1:Nat):=by
  by_cases h:q.toNat+c.toNat≤p.toNat
  ·rw [Sy h,show Nat.ble (q.toNat+c.toNat) p.toNat=true from Cp h];rfl
  ·rw [Sz h]
   cases hb:Nat.ble (q.toNat+c.toNat) p.toNat
   ·rfl
   ·exact absurd (xN hb) h
 rw [e];exact k
theorem rf {X Y:Int} (hx:0≤X) (hy:0≤Y) (hs:X+Y<340282366920938463463374607431768211456) {F:Int→Int→Int→Int→Prop}
  (h:∀ c1 c2,F ((X+Y)%18446744073709551616) c1 ((X+Y)/18446744073709551616) c2) :
  Dc (X%18446744073709551616) (Y%18446744073709551616) 0 (fun lo c1=>Dc (X/18446744073709551616) (Y/18446744073709551616) c1 (fun hi c2=>F lo c1 hi c2)):=by
 obtain ⟨x,rfl⟩:∃ x:Nat,X=x:=⟨X.toNat,by omega⟩;obtain ⟨y,rfl⟩:∃ y:Nat,Y=y:=⟨Y.toNat,by omega⟩;refine Yh (by decide) (Yh (by omega) ?_);have e1:(((((x:Int)%18446744073709551616).toNat+((y:Int)%18446744073709551616).toNat+(0:Int).toNat)%18446744073709551616:Nat):Int)=((x:Int)+y)%18446744073709551616:=by omega
 have e2:(((((x:Int)/18446744073709551616).toNat+((y:Int)/18446744073709551616).toNat+(((((x:Int)%18446744073709551616).toNat+((y:Int)%18446744073709551616).toNat+(0:Int).toNat)/18446744073709551616:Nat):Int).toNat)%18446744073709551616:Nat):Int)=((x:Int)+y)/18446744073709551616:=by omega
 rw [e1,e2];exact h _ _
theorem Kn {X Y:Int} (hy:0≤Y) (hxy:Y≤X) (hs:X<340282366920938463463374607431768211456) {F:Int→Int→Int→Int→Prop}
  (h:∀ c1 c2,F ((X-Y)%18446744073709551616) c1 ((X-Y)/18446744073709551616) c2) :
  Dd (X%18446744073709551616) (Y%18446744073709551616) 0 (fun lo c1=>Dd (X/18446744073709551616) (Y/18446744073709551616) c1 (fun hi c2=>F lo c1 hi c2)):=by
 obtain ⟨x,rfl⟩:∃ x:Nat,X=x:=⟨X.toNat,by omega⟩;obtain ⟨y,rfl⟩:∃ y:Nat,Y=y:=⟨Y.toNat,by omega⟩;refine Yi (by decide) (Yi (by split<;>omega) ?_);have e1:(((((x:Int)%18446744073709551616).toNat+18446744073709551616-((y:Int)%18446744073709551616).toNat-(0:Int).toNat)%18446744073709551616:Nat):Int)=((x:Int)-y)%18446744073709551616:=by omega
 rw [e1]
 by_cases hb:((y:Int)%18446744073709551616).toNat+(0:Int).toNat≤((x:Int)%18446744073709551616).toNat
 ·rw [Sy hb];have e2:(((((x:Int)/18446744073709551616).toNat+18446744073709551616-((y:Int)/18446744073709551616).toNat-((0:Nat):Int).toNat)%18446744073709551616:Nat):Int)=((x:Int)-y)/18446744073709551616:=by omega
  rw [e2];exact h _ _
 ·rw [Sz hb];have e2:(((((x:Int)/18446744073709551616).toNat+18446744073709551616-((y:Int)/18446744073709551616).toNat-((1:Nat):Int).toNat)%18446744073709551616:Nat):Int)=((x:Int)-y)/18446744073709551616:=by omega
  rw [e2];exact h _ _
def iF (s:Bool) (Z p1 p3:Int) (g:Nat) (K:Int→Int→Int→Prop):Prop:=
 if Z=0 then K 0 1 0 else gN s ((Z.toNat/Nat.gcd Z.toNat g:Nat):Int) (((p1.toNat/g)*(p3.toNat/Nat.gcd Z.toNat g):Nat):Int) K
theorem Hq {s:Bool} {Z p1 p3:Int} {g:Nat} (hz:0≤Z) (hz2:Z<340282366920938463463374607431768211456) (hg:0<g) (g1:(g:Int)≤1000000000000000000)
   (h1:0≤p1∧p1≤1000000000000000000) (h3:0≤p3∧p3≤1000000000000000000) {K:Int→Int→Int→Prop}
   (k:iF s Z p1 p3 g K) :
   aD (Z/18446744073709551616 ==(0:Int)) (aD (Z%18446744073709551616 ==(0:Int)) (K 0 1 0) (BB (Z/18446744073709551616) (Z%18446744073709551616) (g:Int) (fun (b:Int)=>
 (rY b (g:Int) (fun (a:Int)=>
 (aD (decide ((Z/18446744073709551616)≥a))
 (K (0:Int) (0:Int) (16:Int))
 (zU (Z/18446744073709551616) (Z%18446744073709551616) a (fun (c:Int) (j:Int)=>
 (asr (!(decide ((g:Int)=(0:Int))))
 (asr (!(decide (a=(0:Int))))
 (wL (u64.wrap (Int.tdiv (u64.wrap p1) (g:Int))) (u64.wrap (Int.tdiv (u64.wrap p3) a)) (fun (d:Int) (e:Int)=>
 (aD (decide (d>(0:Int)))
 (K (0:Int) (0:Int) (16:Int))
 (zV s c e (fun (f:Int) (h:Int) (i:Int)=>
 (K f h i)))))))))))))))) (BB (Z/18446744073709551616) (Z%18446744073709551616) (g:Int) (fun (b:Int)=>
 (rY b (g:Int) (fun (a:Int)=>
 (aD (decide ((Z/18446744073709551616)≥a))
 (K (0:Int) (0:Int) (16:Int))
 (zU (Z/18446744073709551616) (Z%18446744073709551616) a (fun (c:Int) (j:Int)=>
 (asr (!(decide ((g:Int)=(0:Int))))
 (asr (!(decide (a=(0:Int))))
 (wL (u64.wrap (Int.tdiv (u64.wrap p1) (g:Int))) (u64.wrap (Int.tdiv (u64.wrap p3) a)) (fun (d:Int) (e:Int)=>
 (aD (decide (d>(0:Int)))
 (K (0:Int) (0:Int) (16:Int))
 (zV s c e (fun (f:Int) (h:Int) (i:Int)=>
 (K f h i))))))))))))))):=by
  unfold iF at k;have eZ:Z/18446744073709551616*18446744073709551616+Z%18446744073709551616=Z:=by omega
  by_cases h0:Z=0
  ·rw [Sy h0] at k;subst h0;have e1:((0:Int)/18446744073709551616 ==(0:Int))=true:=by decide
   have e2:((0:Int)%18446744073709551616 ==(0:Int))=true:=by decide
   rw [e1,aY,e2,aY];exact k
  ·rw [Sz h0] at k;have t:=re (s:=s) (hi:=Z/18446744073709551616) (lo:=Z%18446744073709551616) (p1:=p1) (p3:=p3) (g:=g) (K:=K) ⟨by omega,by omega⟩ ⟨by omega,by omega⟩ hg g1 h1 h3 (by rw [eZ];exact k)
   cases h4:(Z/18446744073709551616 ==(0:Int))
   ·rw [bE];exact t
   ·rw [aY]
    cases h2:(Z%18446744073709551616 ==(0:Int))
    ·rw [bE];exact t
    ·have:=beq_iff_eq.1 h2;have:=beq_iff_eq.1 h4;exact absurd (show Z=0 by omega) h0
theorem Rd {s s':Bool} {Z Z' p1 p3:Int} {g:Nat} {K:Int→Int→Int→Prop} (k:iF s' Z' p1 p3 g K) (hz:Z=Z') (hs:Z≠0→s=s'):iF s Z p1 p3 g K:=by
 subst hz;unfold iF at k ⊢
 by_cases h:Z=0
 ·rw [Sy h] at k ⊢;exact k
 ·rw [Sz h] at k ⊢;rw [hs h];exact k
theorem Yj {a b c d:Int} (ha:bT a) (hb:bT b) (hc:bT c) (hd:bT d) {K:Int→Int→Int→Prop}
  (k:if bV a b c d=0 then iF (decide (a*(d/(Nat.gcd b.natAbs d.natAbs:Nat))+c*(b/(Nat.gcd b.natAbs d.natAbs:Nat))<0))
    ((a*(d/(Nat.gcd b.natAbs d.natAbs:Nat))+c*(b/(Nat.gcd b.natAbs d.natAbs:Nat))).natAbs:Int) b d (Nat.gcd b.natAbs d.natAbs) K
   else K 0 0 (bV a b c d)):pI a b c d K:=by
 unfold pI OP;refine Ho ha hb hc hd ?_
 by_cases h:bV a b c d=0
 ·rw [Sy h] at k;have:(bV a b c d !=(0:Int))=false:=by rw [h];rfl
  rw [this,bE];obtain ⟨⟨b1,b2,a1,a2,_⟩,d1,d2,c1,c2,_⟩:=xA.1 h;have wb:u64.wrap b=((b.natAbs:Nat):Int):=by rw [aK ⟨by omega,by omega⟩];omega
  have wd:u64.wrap d=((d.natAbs:Nat):Int):=by rw [aK ⟨by omega,by omega⟩];omega
  have g1:0<Nat.gcd b.natAbs d.natAbs:=Co _ (by omega);have g2:Nat.gcd b.natAbs d.natAbs≤d.natAbs:=Nat.le_of_dvd (by omega) (EW _ _);have go:rY (u64.wrap b) (u64.wrap d)=rY ((b.natAbs:Nat):Int) ((d.natAbs:Nat):Int):=by rw [wb,wd]
  rw [go];refine Hn _ _ _ ?_;generalize Nat.gcd b.natAbs d.natAbs=g at *
  have n3:(!(decide ((g:Int)=(0:Int))))=true:=by rw [Os (by omega)];rfl
  have q1:0≤b/(g:Int):=Cu (by omega) (by omega);have q2:0≤d/(g:Int):=Cu (by omega) (by omega);have q3:b/(g:Int)≤b:=Int.ediv_le_self _ (by omega);have q4:d/(g:Int)≤d:=Int.ediv_le_self _ (by omega);have ed:u64.wrap (Int.tdiv (u64.wrap d) (g:Int))=d/(g:Int):=by rw [aK (n:=d) ⟨by omega,by omega⟩,sF (by omega),aK ⟨by omega,by omega⟩]
  have eb:u64.wrap (Int.tdiv (u64.wrap b) (g:Int))=b/(g:Int):=by rw [aK (n:=b) ⟨by omega,by omega⟩,sF (by omega),aK ⟨by omega,by omega⟩]
  have yif:∀ {c:Bool} {P:Prop},c=true→P→asr c P:=fun h p=>by rw [h,eS];exact p
  rw [zZ ha];refine yif n3 ?_;rw [BN (eY.abs ha) (by rw [ed];exact ⟨by omega,by omega⟩),zZ hc];refine yif n3 ?_;rw [BN (eY.abs hc) (by rw [eb];exact ⟨by omega,by omega⟩)];obtain ⟨X,hX⟩:∃ X,X=((a.natAbs:Nat):Int)*u64.wrap (Int.tdiv (u64.wrap d) (g:Int)):=⟨_,rfl⟩;obtain ⟨Y,hY⟩:∃ Y,Y=((c.natAbs:Nat):Int)*u64.wrap (Int.tdiv (u64.wrap b) (g:Int)):=⟨_,rfl⟩;rw [← hX,← hY];rw [ed] at hX;rw [eb] at hY;have X0:0≤X:=by rw [hX];exact jI (by omega) q2
  have Y0:0≤Y:=by rw [hY];exact jI (by omega) q1
  have X1:X≤1000000000000000000*1000000000000000000:=by rw [hX];exact lO (by omega) (by omega) q2 (by omega)
  have Y1:Y≤1000000000000000000*1000000000000000000:=by rw [hY];exact lO (by omega) (by omega) q1 (by omega)
  have ax:a*(d/(g:Int))=if a<0 then -X else X:=by
   split
   ·rw [hX,show ((a.natAbs:Nat):Int)=-a by omega,Int.neg_mul,Int.neg_neg]
   ·rw [hX,show ((a.natAbs:Nat):Int)=a by omega]
  have cy:c*(b/(g:Int))=if c<0 then -Y else Y:=by
   split
   ·rw [hY,show ((c.natAbs:Nat):Int)=-c by omega,Int.neg_mul,Int.neg_neg]
   ·rw [hY,show ((c.natAbs:Nat):Int)=c by omega]
  rw [ax,cy] at k;clear hX hY ax cy ed eb n3
  by_cases hs:decide (a<0)=decide (c<0)
  ·have e:(decide (a<0)==decide (c<0))=true:=beq_iff_eq.2 hs;rw [e,aY];refine rf X0 Y0 (by omega) (fun c1 c2=>?_);refine Hq (by omega) (by omega) g1 (by omega) ⟨by omega,b2⟩ ⟨by omega,d2⟩ (Rd k ?_ ?_)
   ·by_cases h1:a<0
    ·have h2:c<0:=by simpa [h1] using hs.symm
     rw [Sy h1,Sy h2];omega
    ·have h2:¬c<0:=by simpa [h1] using hs.symm
     rw [Sz h1,Sz h2];omega
   ·intro h0
    by_cases h1:a<0
    ·have h2:c<0:=by simpa [h1] using hs.symm
     rw [Sy h1,Sy h2,Eg h1,Eg (by omega)]
    ·have h2:¬c<0:=by simpa [h1] using hs.symm
     rw [Sz h1,Sz h2,Os h1,Os (by omega)]
  ·have e:(decide (a<0)==decide (c<0))=false:=beq_eq_false_iff_ne.2 hs;rw [e,bE];have h12:(a<0∧¬c<0)∨(¬a<0∧c<0):=by
    by_cases h1:a<0<;>by_cases h2:c<0<;>simp [h1,h2] at hs ⊢
   by_cases hlt:X<Y
   ·have kk:iF (!decide (a<0)) (Y-X) b d g K:=by
     refine Rd k ?_ ?_
     ·rcases h12 with ⟨h1,h2⟩ | ⟨h1,h2⟩
      ·rw [Sy h1,Sz h2];omega
      ·rw [Sz h1,Sy h2];omega
     ·intro h0;rcases h12 with ⟨h1,h2⟩ | ⟨h1,h2⟩
      ·rw [Sy h1,Sz h2,Eg h1,Os (by omega)];rfl
      ·rw [Sz h1,Sy h2,Os h1,Eg (by omega)];rfl
    by_cases h1:X/18446744073709551616<Y/18446744073709551616
    ·rw [Eg h1,aY];refine Kn X0 (by omega) (by omega) (fun c1 c2=>?_);exact Hq (by omega) (by omega) g1 (by omega) ⟨by omega,b2⟩ ⟨by omega,d2⟩ kk
    ·have e1:(X/18446744073709551616==Y/18446744073709551616)=true:=beq_iff_eq.2 (by omega);rw [Os h1,bE,e1,aY,Eg (show X%18446744073709551616<Y%18446744073709551616 by have:=beq_iff_eq.1 e1;omega),aY];refine Kn X0 (by omega) (by omega) (fun c1 c2=>?_);exact Hq (by omega) (by omega) g1 (by omega) ⟨by omega,b2⟩ ⟨by omega,d2⟩ kk
   ·have kk:iF (decide (a<0)) (X-Y) b d g K:=by
     refine Rd k ?_ ?_
     ·rcases h12 with ⟨h1,h2⟩ | ⟨h1,h2⟩
      ·rw [Sy h1,Sz h2];omega
      ·rw [Sz h1,Sy h2];omega
     ·intro h0;rcases h12 with ⟨h1,h2⟩ | ⟨h1,h2⟩
      ·rw [Sy h1,Sz h2,Eg h1,Eg (by omega)]
      ·rw [Sz h1,Sy h2,Os h1,Os (by omega)]
    have h1:¬X/18446744073709551616<Y/18446744073709551616:=by omega
    rw [Os h1,bE]
    cases e1:(X/18446744073709551616==Y/18446744073709551616)
    ·rw [bE];refine Kn Y0 (by omega) (by omega) (fun c1 c2=>?_);exact Hq (by omega) (by omega) g1 (by omega) ⟨by omega,b2⟩ ⟨by omega,d2⟩ kk
    ·rw [aY,Os (show ¬X%18446744073709551616<Y%18446744073709551616 by have:=beq_iff_eq.1 e1;omega),bE];refine Kn Y0 (by omega) (by omega) (fun c1 c2=>?_);exact Hq (by omega) (by omega) g1 (by omega) ⟨by omega,b2⟩ ⟨by omega,d2⟩ kk
 ·rw [Sz h] at k;have:(bV a b c d !=(0:Int))=true:=by rw [bne_iff_ne];exact h
  rw [this,aY];exact k
theorem RV.neg {c d:Int} (h:RV c d):RV (-c) d:=by obtain ⟨d1,d2,c1,c2,g⟩:=h;exact ⟨d1,d2,by omega,by omega,by rw [Int.natAbs_neg];exact g⟩
theorem rg {a b c d:Int} (ha:bT a) (hb:bT b) (hc:bT c) (hd:bT d) {K:Int→Int→Int→Prop}
  (k:if bV a b c d=0 then iF (decide (a*(d/(Nat.gcd b.natAbs d.natAbs:Nat))+-c*(b/(Nat.gcd b.natAbs d.natAbs:Nat))<0))
    ((a*(d/(Nat.gcd b.natAbs d.natAbs:Nat))+-c*(b/(Nat.gcd b.natAbs d.natAbs:Nat))).natAbs:Int) b d (Nat.gcd b.natAbs d.natAbs) K
   else K 0 0 (bV a b c d)):pJ a b c d K:=by
 unfold pJ OQ;refine Ho ha hb hc hd ?_
 by_cases h:bV a b c d=0
 ·rw [Sy h] at k;have:(bV a b c d !=(0:Int))=false:=by rw [h];rfl
  rw [this,bE];obtain ⟨hab,hcd⟩:=xA.1 h;obtain ⟨d1,d2,c1,c2,_⟩:=id hcd;rw [eQ (n:=0-c) ⟨by omega,by omega⟩,Int.zero_sub];refine Yj ha hb ⟨by omega,by omega⟩ hd ?_;rw [Sy (xA.2 ⟨hab,hcd.neg⟩)];exact k
 ·rw [Sz h] at k;have:(bV a b c d !=(0:Int))=true:=by rw [bne_iff_ne];exact h
  rw [this,aY];exact k
def aA (l:List Int):List PV:=l.map (PV.int .i64)
theorem cP (l:List Int):(aA l).length=l.length:=mC ..
theorem Yk {l:List Int} {i:Nat} (h:i<l.length):getD (aA l) i .nils=.int .i64 (l.getD i 0):=by unfold aA;rw [dO,dO,sW,cB h];rfl
theorem eJ {l:List Int} {i:Nat} (h:i<l.length):aP (getD (aA l) i .nils)=l.getD i 0:=by rw [Yk h];rfl
theorem Ab {l:List Int} {i:Nat} (h:i<l.length):aG zI (getD (aA l) i .nils)=true:=by rw [Yk h];rfl
theorem yif {c:Bool} {P:Prop} (h:c=true) (p:P):asr c P:=by rw [h,eS];exact p
theorem tZ {c:Prop} [Decidable c] {P:Prop} (h:c) (p:P):asr (decide c) P:=yif (Eg h) p
theorem Ko {c:Prop} [Decidable c] {P Q:Prop} (h:c) (p:P):aD (decide c) P Q:=by rw [Eg h,aY];exact p
theorem EC {c:Prop} [Decidable c] {P Q:Prop} (h:¬c) (q:Q):aD (decide c) P Q:=by rw [Os h,bE];exact q
def Hr (m x:Int):Int:=if x<m then x else m
theorem rh {l:List Int} (hl:l.length<9223372036854775807) (x0:List PV→Int→Int→Bool→Prop) :
  ∀ (rest:List Int) (i:Nat) (m:Int) (n:Nat),l.drop i=rest→i≤l.length→rest.length<n→x0 (aA l) (rest.foldl Hr m) (l.length:Int) false →
   Ea x0 n (aA l) m (i:Int):=by
 intro rest;induction rest with
 | nil=>
  intro i m n hd hi hn k;have:i=l.length:=by
   have:=Aaa length hd;rw [kI] at this;have h2:([]:List Int).length=0:=rfl;omega
  match n,hn with
  | n+1,_ =>unfold Ea;rw [cP,this];exact EC (by omega) k
 | cons x t ih=>
  intro i m n hd hi hn k;have hlt:i<l.length:=by
   have:=Aaa length hd;rw [kI,iV] at this;omega
  have hx:l.getD i 0=x:=by have:=List.getElem_drop (xs:=l) (i:=i) (j:=0) (h:=by rw [hd];exact Ct _);rw [dO,cB hlt];simp only [hd,List.getElem_cons_zero,tB] at this;exact this.symm
  have ht:l.drop (i+1)=t:=by rw [← List.tail_drop,hd];rfl
  match n,hn with
  | n+1,hn =>unfold Ea;rw [cP];refine Ko (by omega) ?_;refine tZ (by omega) (tZ (by omega) (yif (Ab (by omega)) ?_));rw [cX,eJ hlt,hx,eQ (n:=(i:Int)+1) ⟨by omega,by omega⟩];exact ih (i+1) _ n ht (by omega) (by rw [iV] at hn;omega) k
theorem ri {l:List Int} (hl:l.length<9223372036854775807) {x:Int} {t:List Int} (e:l=x::t) {K:Int→Prop} (k:K (t.foldl Hr x)):Eb (aA l) K:=by
 have h0:0<l.length:=by rw [e];exact Ct _
 unfold Eb Ph;rw [cP];refine EC (by omega) (tZ (by omega) (yif (Ab h0) ⟨l.length+1,?_⟩));have e0:l.getD 0 0=x:=by rw [e];rfl
 rw [eJ h0,e0];refine rh hl _ t 1 x _ (by rw [e];rfl) (by omega) (by rw [e,iV];omega) ?_;exact k
def xB (m x:Int):Int:=if x>m then x else m
theorem rj {l:List Int} (hl:l.length<9223372036854775807) (x0:List PV→Int→Int→Bool→Prop) :
  ∀ (rest:List Int) (i:Nat) (m:Int) (n:Nat),l.drop i=rest→i≤l.length→rest.length<n→x0 (aA l) (rest.foldl xB m) (l.length:Int) false →
   Ec x0 n (aA l) m (i:Int):=by
 intro rest;induction rest with
 | nil=>
  intro i m n hd hi hn k;have:i=l.length:=by
   have:=Aaa length hd;rw [kI] at this;have h2:([]:List Int).length=0:=rfl;omega
  match n,hn with
  | n+1,_ =>unfold Ec;rw [cP,this];exact EC (by omega) k
 | cons x t ih=>
  intro i m n hd hi hn k;have hlt:i<l.length:=by
   have:=Aaa length hd;rw [kI,iV] at this;omega
  have hx:l.getD i 0=x:=by have:=List.getElem_drop (xs:=l) (i:=i) (j:=0) (h:=by rw [hd];exact Ct _);rw [dO,cB hlt];simp only [hd,List.getElem_cons_zero,tB] at this;exact this.symm
  have ht:l.drop (i+1)=t:=by rw [← List.tail_drop,hd];rfl
  match n,hn with
  | n+1,hn =>unfold Ec;rw [cP];refine Ko (by omega) ?_;refine tZ (by omega) (tZ (by omega) (yif (Ab (by omega)) ?_));rw [cX,eJ hlt,hx,eQ (n:=(i:Int)+1) ⟨by omega,by omega⟩];exact ih (i+1) _ n ht (by omega) (by rw [iV] at hn;omega) k
theorem Yl {l:List Int} (hl:l.length<9223372036854775807) {x:Int} {t:List Int} (e:l=x::t) {K:Int→Prop} (k:K (t.foldl xB x)):Ed (aA l) K:=by
 have h0:0<l.length:=by rw [e];exact Ct _
 unfold Ed Pj;rw [cP];refine EC (by omega) (tZ (by omega) (yif (Ab h0) ⟨l.length+1,?_⟩));have e0:l.getD 0 0=x:=by rw [e];rfl
 rw [eJ h0,e0];refine rj hl _ t 1 x _ (by rw [e];rfl) (by omega) (by rw [e,iV];omega) ?_;exact k
def sG (l:List Int) (i:Nat):Prop:=∀ j,i≤j→j+1<l.length→l.getD j 0<l.getD (j+1) 0
theorem rk {l:List Int} {p2:List PV} {p0:Int} (hl:l.length<9223372036854775807) (W1 W2:List PV→(Int→Prop)→Prop) (x0:Int→Prop) (x1:Int→List PV→List PV→Int→Int→Bool→Prop) :
  ∀ (r i n:Nat),i+r+1=l.length→r<n→(sG l i→x1 p0 (aA l) p2 ((l.length:Int)-1) ((l.length:Int)-1) false)→(¬sG l i→x0 8) →
   Ee W1 W2 x0 x1 n p0 (aA l) p2 ((l.length:Int)-1) (i:Int):=by
 intro r;induction r with
 | zero=>
  intro i n hi hn k _
  match n,hn with
  | n+1,_=>
   unfold Ee;have e:(i:Int)=(l.length:Int)-1:=by omega
   refine EC (by omega) ?_;rw [e];exact k (fun j h1 h2=>by omega)
 | succ r ih=>
  intro i n hi hn k k0
  match n,hn with
  | n+1,hn=>
   unfold Ee;rw [eQ (n:=(i:Int)+1) ⟨by omega,by omega⟩,cP];have e1:((i:Int)+1)=((i+1:Nat):Int):=by omega
   rw [e1,cX,cX];refine Ko (by omega) (tZ (by omega) (tZ (by omega) (yif (Ab (by omega)) (tZ (by omega) (tZ (by omega) (yif (Ab (by omega)) ?_))))));rw [eJ (by omega),eJ (by omega)]
   by_cases h:l.getD i 0≥l.getD (i+1) 0
   ·exact Ko h (k0 fun hc=>absurd (hc i (bI _) (by omega)) (by omega))
   ·refine EC h (ih (i+1) n (by omega) (by omega) (fun hc=>k fun j h1 h2=>?_) (fun hc=>k0 fun hd=>hc fun j h1 h2=>hd j (by omega) h2))
    by_cases hj:j=i
    ·subst hj;omega
    ·exact hc j (by omega) h2
def small (q:Rat):Prop:=-1000000000000000000≤q.num∧q.num≤1000000000000000000∧(q.den:Int)≤1000000000000000000
instance (q:Rat):Decidable (small q):=by unfold small;infer_instance
theorem small.rv {q:Rat} (h:small q):RV q.num q.den:=by obtain ⟨h1,h2,h3⟩:=h;have:=q.den_pos;exact ⟨by omega,h3,h1,h2,q.reduced⟩
theorem Kp {n d:Int} (h:RV n d):∃ q:Rat,small q∧q.num=n∧(q.den:Int)=d:=by
 obtain ⟨h1,h2,h3,h4,h5⟩:=h;refine ⟨⟨n,d.toNat,by omega,?_⟩,⟨h3,h4,by show ((d.toNat:Nat):Int)≤_;omega⟩,rfl,by show ((d.toNat:Nat):Int)=_;omega⟩;have:d.natAbs=d.toNat:=by omega
 rw [this] at h5;exact h5
theorem small.i1 {q:Rat} (h:small q):bT q.num:=⟨by have:=h.1;omega,by have:=h.2.1;omega⟩
theorem small.i2 {q:Rat} (h:small q):bT (q.den:Int):=⟨by omega,by have:=h.2.2;omega⟩
theorem Hs {q r:Rat} (h:small q) (k:small r):bV q.num q.den r.num r.den=0:=xA.2 ⟨h.rv,k.rv⟩
def fitK (q:Rat) (K:Int→Int→Int→Prop):Prop:=if small q then K q.num q.den 0 else K 0 0 16
theorem Ym {q:Rat} {s:Bool} {a b:Int} (ha:a=(q.num.natAbs:Int)) (hb:b=(q.den:Int)) (hs:q.num≠0→s=decide (q.num<0)) (K:Int→Int→Int→Prop):gN s a b K=fitK q K:=by
 unfold gN fitK;subst ha hb
 by_cases h:small q
 ·have h':=h;obtain ⟨h1,h2,h3⟩:=h;rw [Sy (show _∧_ from ⟨by omega,h3⟩),Sy h'];have e:(if s=true then -((q.num.natAbs:Nat):Int) else ((q.num.natAbs:Nat):Int))=q.num:=by
   by_cases h0:q.num=0
   ·rw [h0];cases s<;>rfl
   ·rw [hs h0]
    by_cases h1:q.num<0
    ·rw [Eg h1,Sy rfl];omega
    ·rw [Os h1,Sz (by simp)];omega
  rw [e]
 ·rw [Sz h,Sz];intro h2;exact h ⟨by omega,by omega,h2.2⟩
theorem Yn (x:Int) (g:Nat):(Int.tdiv x g).natAbs=x.natAbs/g:=by rw [Int.natAbs_tdiv,ET];rfl
theorem Yo {x:Int} {g:Nat} (h:(g:Int)∣x) (hx:x≠0):decide (Int.tdiv x g<0)=decide (x<0):=by
 obtain ⟨k,rfl⟩:=h;have hg:(g:Int)≠0:=fun e=>hx (by rw [e,Int.zero_mul])
 rw [Int.mul_tdiv_cancel_left _ hg];have h1:(g:Int)>0:=by have:=EU g;omega
 have:(g:Int)*k<0↔k<0:=by
  constructor
  ·intro h;refine Int.not_le.1 fun hk=>?_
   have:=jI (show 0≤(g:Int) by omega) hk;omega
  ·intro h;exact Int.mul_neg_of_pos_of_neg h1 h
 simp only [this]
theorem rl (q r:Rat):(q*r).num=Int.tdiv q.num (Nat.gcd q.num.natAbs r.den)*Int.tdiv r.num (Nat.gcd r.num.natAbs q.den) ∧
  (q*r).den=(q.den/Nat.gcd r.num.natAbs q.den)*(r.den/Nat.gcd q.num.natAbs r.den):=by
 have e:q*r=Rat.mul q r:=rfl;rw [e]
 delta Rat.mul
 constructor
 ·simp only [Int.divExact_eq_tdiv]
 ·simp only [Nat.divExact_eq_div]
theorem Ht (x:Int) (d:Nat):((Nat.gcd x.natAbs d:Nat):Int)∣x:=by rw [← Int.dvd_natAbs,Int.ofNat_dvd];exact Nat.gcd_dvd_left _ _
theorem Yp {x:Int} {g:Nat} (h:(g:Int)∣x) (hx:x≠0):Int.tdiv x g≠0:=by
 obtain ⟨k,rfl⟩:=h;have hg:(g:Int)≠0:=fun e=>hx (by rw [e,Int.zero_mul])
 rw [Int.mul_tdiv_cancel_left _ hg];intro e;rw [e,Int.mul_zero] at hx;exact hx rfl
theorem rm {x y:Int} (hx:x≠0) (hy:y≠0):decide (x*y<0)=(decide (x<0) !=decide (y<0)):=by
 by_cases h1:x<0<;>by_cases h2:y<0
 ·have:=Int.mul_pos_of_neg_of_neg h1 h2;simp [h1,h2];omega
 ·have:=Cn h1 (show 0<y by omega);simp [h1,h2];omega
 ·have:=Int.mul_neg_of_pos_of_neg (show 0<x by omega) h2;simp [h1,h2];omega
 ·have:=Int.mul_pos (show 0<x by omega) (show 0<y by omega);simp [h1,h2];omega
theorem Yq (q r:Rat) (K:Int→Int→Int→Prop):gN (decide (q.num<0) !=decide (r.num<0)) (nE q.num r.num q.den r.den) (nF q.num r.num q.den r.den) K=fitK (q*r) K:=by
 obtain ⟨e1,e2⟩:=rl q r;refine Ym ?_ ?_ ?_ K
 ·rw [e1,Int.natAbs_mul,Yn,Yn];simp only [nE,ET]
 ·rw [e2];simp only [nF,ET]
 ·intro h;rw [e1] at h ⊢;have h1:q.num≠0:=fun e=>h (by rw [e,Int.zero_tdiv,Int.zero_mul])
  have h2:r.num≠0:=fun e=>h (by rw [e,Int.zero_tdiv,Int.mul_zero])
  rw [rm (Yp (Ht _ _) h1) (Yp (Ht _ _) h2),Yo (Ht _ _) h1,Yo (Ht _ _) h2]
theorem Kq {w:(Int→Int→Int→Prop)→Prop} {q:Rat} (det:∀ r0 r1 r2,(∀ K:Int→Int→Int→Prop,K r0 r1 r2→w K)→∀ K,w K=K r0 r1 r2) (h:∀ K,fitK q K→w K) (K:Int→Int→Int→Prop):w K=fitK q K:=by
 unfold fitK at h ⊢
 by_cases hs:small q
 ·simp only [Sy hs] at h ⊢;exact det _ _ _ h K
 ·simp only [Sz hs] at h ⊢;exact det _ _ _ h K
theorem Hu {q r:Rat} (hq:small q) (hr:small r) (K:Int→Int→Int→Prop):lY q.num q.den r.num r.den K=fitK (q*r) K:=
 Kq (fun r0 r1 r2 h K=>du _ _ _ _ r0 r1 r2 h K) (fun K k=>Rc hq.i1 hq.i2 hr.i1 hr.i2 (by rw [Sy (Hs hq hr),Yq];exact k)) K
theorem rp {r:Rat} (h:r≠0):(r⁻¹).num=(if r.num<0 then -(r.den:Int) else r.den)∧(r⁻¹).den=r.num.natAbs:=by
 have h0:r.num≠0:=fun e=>h (Rat.num_eq_zero.1 e)
 constructor
 ·rw [Rat.num_inv]
  by_cases h1:r.num<0
  ·rw [Sy h1,Int.sign_eq_neg_one_of_neg h1];omega
  ·rw [Sz h1,Int.sign_eq_one_of_pos (by omega)];omega
 ·rw [Rat.den_inv,Sz h0]
theorem Kr {q r:Rat} (hq:small q) (hr:small r) (h0:r≠0) (K:Int→Int→Int→Prop):pK q.num q.den r.num r.den K=fitK (q/r) K:=by
 have hn:r.num≠0:=fun e=>h0 (Rat.num_eq_zero.1 e)
 refine Kq (fun r0 r1 r2 h K=>dv _ _ _ _ r0 r1 r2 h K) (fun K k=>ra hq.i1 hq.i2 hr.i1 hr.i2 ?_) K;rw [Sy (Hs hq hr),Sz hn];rw [Rat.div_def,← Yq] at k;obtain ⟨e1,e2⟩:=rp h0;rw [e1,e2] at k;have s:decide ((if r.num<0 then -(r.den:Int) else (r.den:Int))<0)=decide (r.num<0):=by
  have:=r.den_pos;split
  ·rename_i h;simp only [h];simp;omega
  ·rename_i h;simp only [h];simp
 rw [s] at k;have hd:(if r.num<0 then -(r.den:Int) else (r.den:Int)).natAbs=r.den:=by split<;>omega
 unfold nE nF at k ⊢;simp only [hd,ET] at k ⊢;exact k
theorem rq (q r:Rat):(q+r).num=(q.num*(r.den/Nat.gcd q.den r.den:Nat)+r.num*(q.den/Nat.gcd q.den r.den:Nat))/(Nat.gcd (q.num*(r.den/Nat.gcd q.den r.den:Nat)+r.num*(q.den/Nat.gcd q.den r.den:Nat)).natAbs (Nat.gcd q.den r.den):Nat) ∧
  (q+r).den=(q.den/Nat.gcd q.den r.den)*r.den/Nat.gcd (q.num*(r.den/Nat.gcd q.den r.den:Nat)+r.num*(q.den/Nat.gcd q.den r.den:Nat)).natAbs (Nat.gcd q.den r.den):=by
 have e:q+r=Rat.add q r:=rfl;rw [e]
 delta Rat.add
 by_cases hg:q.den.gcd r.den=1
 ·simp only [hg,dif_pos,Nat.div_one,Nat.gcd_one_right,Int.natCast_one,Int.ediv_one,and_self]
 ·simp only [hg,dif_neg,not_false_eq_true,Rat.maybeNormalize_eq];constructor
  ·first | rfl | simp only [Int.divExact_eq_tdiv]
  ·first | rfl | simp only []
theorem ru {q r:Rat} {Z:Int} {g:Nat} (e1:(q+r).num=Z/(Nat.gcd Z.natAbs g:Nat)) (e2:(q+r).den=(q.den/g)*r.den/Nat.gcd Z.natAbs g) (hgp:0<g) (hgd:g∣r.den) (K:Int→Int→Int→Prop) :
  iF (decide (Z<0)) (Z.natAbs:Int) q.den r.den g K=fitK (q+r) K:=by
 unfold iF
 by_cases h0:Z=0
 ·subst h0;have:(q+r)=0:=by
   apply Rat.num_eq_zero.1;rw [e1];simp
  rw [this,Sy (by rfl)];unfold fitK;rw [Sy (by decide)];rfl
 ·have hne:¬((Z.natAbs:Nat):Int)=0:=by omega
  rw [Sz hne];have hdv:((Nat.gcd Z.natAbs g:Nat):Int)∣Z:=Ht _ _;have hhp:0<Nat.gcd Z.natAbs g:=Co _ hgp;have hhg:Nat.gcd Z.natAbs g∣r.den:=Nat.dvd_trans (EW _ _) hgd;refine Ym ?_ ?_ ?_ K
  ·rw [e1,Int.natAbs_ediv_of_dvd hdv];simp
  ·rw [e2];simp only [cX];rw [Nat.mul_div_assoc _ hhg]
  ·intro h;rw [e1];obtain ⟨k,hk⟩:=hdv;revert hhp hk;generalize Nat.gcd Z.natAbs g=h;intro hhp hk;have e:Z/(h:Int)=k:=by rw [hk,Int.mul_ediv_cancel_left _ (by omega)]
   rw [e];have:Z<0↔k<0:=by
    rw [hk];constructor
    ·intro hk;refine Int.not_le.1 fun hk2=>?_
     have:=jI (show 0≤(h:Int) by omega) hk2;omega
    ·intro hk;exact Int.mul_neg_of_pos_of_neg (by omega) hk
   simp only [this]
theorem Yr (q r:Rat) (K:Int→Int→Int→Prop) :
  iF (decide (q.num*((r.den:Int)/(Nat.gcd (q.den:Int).natAbs (r.den:Int).natAbs:Nat))+r.num*((q.den:Int)/(Nat.gcd (q.den:Int).natAbs (r.den:Int).natAbs:Nat))<0))
   ((q.num*((r.den:Int)/(Nat.gcd (q.den:Int).natAbs (r.den:Int).natAbs:Nat))+r.num*((q.den:Int)/(Nat.gcd (q.den:Int).natAbs (r.den:Int).natAbs:Nat))).natAbs:Int) q.den r.den (Nat.gcd (q.den:Int).natAbs (r.den:Int).natAbs) K=fitK (q+r) K:=by
 obtain ⟨e1,e2⟩:=rq q r;rw [sX,sX] at e1 e2;exact ru e1 e2 (Nat.gcd_pos_of_pos_left _ q.den_pos) (EW _ _) K
theorem Ks {q r:Rat} (hq:small q) (hr:small r) (K:Int→Int→Int→Prop):pI q.num q.den r.num r.den K=fitK (q+r) K:=
 Kq (fun r0 r1 r2 h K=>dm _ _ _ _ r0 r1 r2 h K) (fun K k=>Yj hq.i1 hq.i2 hr.i1 hr.i2 (by rw [Sy (Hs hq hr),Yr];exact k)) K
theorem Kt {q r:Rat} (hq:small q) (hr:small r) (K:Int→Int→Int→Prop):pJ q.num q.den r.num r.den K=fitK (q-r) K:=
 Kq (fun r0 r1 r2 h K=>dp _ _ _ _ r0 r1 r2 h K) (fun K k=>rg hq.i1 hq.i2 hr.i1 hr.i2 (by
  rw [Sy (Hs hq hr)];rw [Rat.sub_eq_add_neg,← Yr] at k;exact k)) K
def sH (q r:Rat):Int:=if q<r then -1 else if r<q then 1 else 0
theorem rz (q r:Rat):nD q.num q.den r.num r.den=sH q r:=by unfold nD fF sH;simp only [Rat.lt_iff]
theorem Ys {q r:Rat} (hq:small q) (hr:small r) (K:Int→Int→Prop):zW q.num q.den r.num r.den K=K (sH q r) 0:=
 dw _ _ _ _ _ _ (fun K k=>ql hq.i1 hq.i2 hr.i1 hr.i2 (by rw [Hs hq hr,Sy rfl,rz];exact k)) K
theorem Re {n d:Int} (hn:bT n) (hd:bT d) (K:Int→Prop):lX n d K=K (iQ n d):=
 dl _ _ _ (fun K k=>Ra hn hd k) K
theorem Rf {p:Int} (h:bT p) (K:Int→Prop):GY p K=K (p.natAbs:Int):=by
 unfold bT at h;unfold GY PJ
 by_cases hp:p<0
 ·have e0:i64.wrap (p+1)=p+1:=eQ ⟨by omega,by omega⟩;have e1:i64.wrap ((0:Int)-(p+1))=-(p+1):=by rw [eQ ⟨by omega,by omega⟩];omega
  have e2:u64.wrap (-(p+1))=-(p+1):=aK ⟨by omega,by omega⟩;have e3:u64.wrap (-(p+1)+1)=(p.natAbs:Int):=by rw [aK ⟨by omega,by omega⟩];omega
  rw [Eg hp,aY,e0,e1,e2,e3]
 ·rw [Os hp,bE,aK ⟨by omega,by omega⟩];congr 1;omega
theorem Yt (x:Int→Int→Bool→Prop):∀ (n a b:Nat),b<n→GZ x n (a:Int) (b:Int)=x ((Nat.gcd a b:Nat):Int) 0 false
 | 0,a,b,h=>by omega
 | n+1,a,b,h=>by
  unfold GZ
  by_cases hb:b=0
  ·subst hb;simp [aD]
  ·have h1:((b:Int) !=0)=true:=by simp;omega
   have h2:¬((b:Int)=0):=by omega
   rw [h1,aY,Os h2,xT,eS];have e:Int.tmod (a:Int) (b:Int)=((a%b:Nat):Int):=by rw [Int.tmod_eq_emod_of_nonneg (by omega)];omega
   rw [e,Yt x n b (a%b) (by have:=Nat.mod_lt a (show b>0 by omega);omega)];rw [uM a b,Nat.gcd_rec b a,uM]
theorem sa (a b:Nat) (K:Int→Prop):Ej (a:Int) (b:Int) K=K ((Nat.gcd a b:Nat):Int):=by refine jt _ _ _ (fun K h=>?_) K;unfold Ej PK;exact ⟨b+1,by rw [Yt _ (b+1) a b (by omega)];exact h⟩
theorem Yu {a b:Int} (h:a=b):(a !=b)=false:=by simp [h]
theorem Yv {a b:Int} (h:a≠b):(a !=b)=true:=by simp [h]
theorem Rg {a b:Int} (h:a≠b):(a==b)=false:=by simp [h]
theorem Yw {a b:Int} (h:a=b):(a==b)=true:=by simp [h]
theorem Yx {n d:Int} (hn:bT n) (hd:bT d) (K:Int→Prop):Ke n d K=K (iQ n d):=by
 unfold Ke PM
 by_cases h1:d<1
 ·rw [Eg h1,aY,iQ,Sz (fun h=>by have:=h.1;omega)]
 ·rw [Os h1,bE]
  by_cases h2:d>1000000000000000000
  ·rw [Eg h2,aY,iQ,Sz (fun h=>by have:=h.2.1;omega)]
  ·rw [Os h2,bE]
   by_cases h3:n < -1000000000000000000
   ·rw [Eg h3,aY,iQ,Sz (fun h=>by have:=h.2.2.1;omega)]
   ·rw [Os h3,bE]
    by_cases h4:n>1000000000000000000
    ·rw [Eg h4,aY,iQ,Sz (fun h=>by have:=h.2.2.2.1;omega)]
    ·have ed:u64.wrap d=((d.natAbs:Nat):Int):=by rw [aK ⟨by omega,by omega⟩];omega
     rw [Os h4,bE,Rf hn,ed,sa]
     by_cases h5:Nat.gcd n.natAbs d.natAbs=1
     ·rw [h5,Yu (by rfl),bE,iQ,Sy ⟨by omega,by omega,by omega,by omega,h5⟩]
     ·rw [Yv (by omega),aY,iQ,Sz (fun h=>h5 h.2.2.2.2)]
theorem Rh {m s:Int} (hm:0≤m) (hs:0≤s∧s<4294967296):u64.wrap (BitVec.ofInt u64.bits (u64.wrap (m*4294967296))|||BitVec.ofInt u64.bits s).toNat=m%4294967296*4294967296+s:=by
 have e:u64.wrap (m*4294967296)=m%4294967296*2 ^ 32:=by rw [wY];omega
 rw [e,Yd (k:=32) (by omega) ⟨hs.1,by omega⟩ ⟨by omega,by omega⟩ (by omega)];omega
theorem se {a b:Int} (ha:eY a) (hb:eY b) (K:Int→Int→Prop):Ha a b K=K (a*b/18446744073709551616) (a*b%18446744073709551616):=by
 unfold Ha PN;simp only [XZ];rw [wZ ha,wZ hb];unfold eY at ha hb;have ha':=ha;have hb':=hb;obtain ⟨x1,hx1⟩:∃ x,x=a/4294967296:=⟨_,rfl⟩;obtain ⟨x0,hx0⟩:∃ x,x=a%4294967296:=⟨_,rfl⟩;obtain ⟨y1,hy1⟩:∃ x,x=b/4294967296:=⟨_,rfl⟩;obtain ⟨y0,hy0⟩:∃ x,x=b%4294967296:=⟨_,rfl⟩;rw [← hx1,← hx0,← hy1,← hy0];have b1:0≤x1∧x1≤4294967295:=by omega
 have b2:0≤x0∧x0≤4294967295:=by omega
 have b3:0≤y1∧y1≤4294967295:=by omega
 have b4:0≤y0∧y0≤4294967295:=by omega
 have pb:∀ x y:Int,0≤x∧x≤4294967295→0≤y∧y≤4294967295→0≤x*y∧x*y≤18446744065119617025:=by intro x y hx hy;refine ⟨jI hx.1 hy.1,?_⟩;have:=lO hx.2 hy.2 hy.1 (by omega:(0:Int)≤4294967295);omega
 have p1:=pb x1 y1 b1 b3;have p2:=pb x1 y0 b1 b4;have p3:=pb x0 y1 b2 b3;have p4:=pb x0 y0 b2 b4;have ea:a=x1*4294967296+x0:=by omega
 have eb:b=y1*4294967296+y0:=by omega
 have eab:a*b=x1*y1*18446744073709551616+x1*y0*4294967296+x0*y1*4294967296+x0*y0:=by rw [ea,eb];grind
 obtain ⟨P,hP⟩:∃ x,x=x1*y1:=⟨_,rfl⟩;obtain ⟨Q,hQ⟩:∃ x,x=x1*y0:=⟨_,rfl⟩;obtain ⟨R,hR⟩:∃ x,x=x0*y1:=⟨_,rfl⟩;obtain ⟨S,hS⟩:∃ x,x=x0*y0:=⟨_,rfl⟩;rw [← hP] at p1;rw [← hQ] at p2;rw [← hR] at p3;rw [← hS] at p4;rw [← hP,← hQ,← hR,← hS] at eab ⊢;have w1:u64.wrap S=S:=aK ⟨by omega,by omega⟩;have w2:u64.wrap Q=Q:=aK ⟨by omega,by omega⟩;have w3:u64.wrap R=R:=aK ⟨by omega,by omega⟩;have w4:u64.wrap P=P:=aK ⟨by omega,by omega⟩;rw [w1,w2,w3,w4,wZ (p:=Q) ⟨by omega,by omega⟩,wZ (p:=S) ⟨by omega,by omega⟩];have w5:u64.wrap (Q%4294967296+R)=Q%4294967296+R:=aK ⟨by omega,by omega⟩;rw [w5];have w6:u64.wrap (Q%4294967296+R+S/4294967296)=Q%4294967296+R+S/4294967296:=aK ⟨by omega,by omega⟩;rw [w6,Rh (by omega) ⟨by omega,by omega⟩];have hab:a*b≤18446744073709551615*18446744073709551615:=lO ha'.2 hb'.2 hb'.1 (by omega:(0:Int)≤18446744073709551615);rw [eab] at hab ⊢;have w7:u64.wrap (P+Q/4294967296)=P+Q/4294967296:=aK ⟨by omega,by omega⟩;rw [w7,aK ⟨by omega,by omega⟩];congr 1<;>omega
theorem Yy {X Y:Int} (hx:0≤X) (hy:0≤Y) (K:Bool→Prop) :
  Kf (X/18446744073709551616) (X%18446744073709551616) (Y/18446744073709551616) (Y%18446744073709551616) K=K (decide (X<Y)):=by
 unfold Kf PR
 by_cases h:X/18446744073709551616<Y/18446744073709551616
 ·rw [Eg h,aY,Eg (by omega)]
 ·rw [Os h,bE]
  by_cases h2:X/18446744073709551616=Y/18446744073709551616
  ·rw [Yw h2,aY];congr 1;rw [Aab];omega
  ·rw [Rg h2,bE,Os (by omega)]
theorem Yz {n:Nat} (h:(n:Int)≤18446744073709551615):u64.wrap (n:Int)=n:=aK ⟨by omega,h⟩
theorem YA {a b:Nat} (ha:a≤18446744073709551615) (hb:b≤18446744073709551615) (K:Int→Int→Prop) :
  Ha (a:Int) (b:Int) K=K (((a*b:Nat):Int)/18446744073709551616) (((a*b:Nat):Int)%18446744073709551616):=by
 rw [se ⟨by omega,by omega⟩ ⟨by omega,by omega⟩,xR]
theorem Ri {q r:Rat} (hq:small q) (hr:small r) (K:Bool→Prop):Hb q.num q.den r.num r.den K=K (decide (q<r)):=by
 unfold Hb PU;have hq':=hq;have hr':=hr;obtain ⟨a1,a2,a3⟩:=hq;obtain ⟨b1,b2,b3⟩:=hr;have dq:=q.den_pos;have dr:=r.den_pos;have e:decide (q<r)=decide (q.num*r.den<r.num*q.den):=by rw [Aab];exact Rat.lt_iff q r
 rw [e]
 by_cases hs:(decide (q.num<0) !=decide (r.num<0))=true
 ·rw [hs,aY]
  by_cases h1:q.num<0
  ·have h2:¬r.num<0:=by simpa [h1] using hs
   have p1:q.num*r.den<0:=Cn h1 (by omega);have p2:0≤r.num*q.den:=jI (by omega) (by omega);rw [Eg h1,Eg (by omega)]
  ·have h2:r.num<0:=by simpa [h1] using hs
   have p1:r.num*q.den<0:=Cn h2 (by omega);have p2:0≤q.num*r.den:=jI (by omega) (by omega);rw [Os h1,Os (by omega)]
 ·have hs':(decide (q.num<0) !=decide (r.num<0))=false:=by simpa using hs
  rw [hs',bE,Rf hq'.i1,Yz (by omega),YA (by omega) (by omega),Rf hr'.i1,Yz (by omega),YA (by omega) (by omega),Yy (EU _) (EU _),Yy (EU _) (EU _),xR,xR]
  by_cases h1:q.num<0
  ·have h2:r.num<0:=by simpa [h1] using hs'
   rw [Eg h1,aY,show ((q.num.natAbs:Nat):Int)=-q.num by omega,show ((r.num.natAbs:Nat):Int)=-r.num by omega,Int.neg_mul,Int.neg_mul];congr 1;rw [Aab];omega
  ·have h2:¬r.num<0:=by simpa [h1] using hs'
   rw [Os h1,bE,show ((q.num.natAbs:Nat):Int)=q.num by omega,show ((r.num.natAbs:Nat):Int)=r.num by omega]
theorem cL {c:Prop} [Decidable c] {P Q:Prop} (h:c):aD (decide c) P Q=P:=by rw [Eg h,aY]
theorem cN {c:Prop} [Decidable c] {P Q:Prop} (h:¬c):aD (decide c) P Q=Q:=by rw [Os h,bE]
theorem fA {a b:Int} {P Q:Prop} (h:a≠b):aD (a !=b) P Q=P:=by rw [Yv h,aY]
theorem dM {a b:Int} {P Q:Prop} (h:a=b):aD (a !=b) P Q=Q:=by rw [Yu h,bE]
theorem lD {a b:Int} {P Q:Prop} (h:a=b):aD (a==b) P Q=P:=by rw [Yw h,aY]
theorem pM {a b:Int} {P Q:Prop} (h:a≠b):aD (a==b) P Q=Q:=by rw [Rg h,bE]
theorem aO {c:Prop} [Decidable c] {P:Prop} (h:c):asr (decide c) P=P:=by rw [Eg h,eS]
theorem fB {l:List Int} {i:Nat} {P:Prop} (h:i<l.length):asr (aG zI (getD (aA l) i .nils)) P=P:=by rw [Ab h,eS]
theorem fR {n:Int} (h1:-9223372036854775808≤n) (h2:n≤9223372036854775807):i64.wrap n=n:=eQ ⟨h1,h2⟩
theorem lK (i:Nat):(i:Int)+1=((i+1:Nat):Int):=by omega
theorem xC {x:Int} (h:-1000000000000000000≤x∧x≤1000000000000000000):small (x:Rat):=by unfold small;rw [Rat.num_intCast,Rat.den_intCast];omega
def BP (dens:List Int):Prop:=∀ d∈dens,0≤d∧d≤12
def BQ (dens:List Int):Prop:=∃ d∈dens,0<d
instance (l:List Int):Decidable (BP l):=by unfold BP;infer_instance
instance (l:List Int):Decidable (BQ l):=by unfold BQ;infer_instance
def VC (len:Int) (cuts dens:List Int):Prop:=
 1≤len∧len≤1000∧2≤cuts.length∧cuts.length≤40∧dens.length+1=cuts.length∧cuts.getD 0 0=0∧cuts.getD (cuts.length-1) 0=len∧sG cuts 0∧BP dens∧BQ dens
theorem sf (l:List Int):sG l 0↔∀ j,j<l.length→j+1<l.length→l.getD j 0<l.getD (j+1) 0:=⟨fun h j _ h2=>h j (by omega) h2,fun h j _ h2=>h j (by omega) h2⟩
instance (l:List Int):Decidable (sG l 0):=decidable_of_iff _ (sf l).symm
instance (len:Int) (cuts dens:List Int):Decidable (VC len cuts dens):=by unfold VC;infer_instance
def iR (len:Int) (cuts dens:List Int):Int:=if len>1000∨cuts.length>40 then 4 else if VC len cuts dens then 0 else 8
theorem YB (l:List Int) (x:Int):(l.foldl Hr x<0)↔¬(∀ d∈x::l,0≤d):=by
 induction l generalizing x with
 | nil=>simp
 | cons y t ih=>
  rw [List.foldl_cons,ih];unfold Hr;simp only [List.forall_mem_cons];split
  ·constructor
   ·intro h h2;exact h ⟨h2.2.1,h2.2.2⟩
   ·intro h h2;exact h ⟨by omega,h2.1,h2.2⟩
  ·constructor
   ·intro h h2;exact h ⟨h2.1,h2.2.2⟩
   ·intro h h2;exact h ⟨h2.1,by omega,h2.2⟩
theorem Hv (l:List Int) (x k:Int):(l.foldl xB x>k)↔¬(∀ d∈x::l,d≤k):=by
 induction l generalizing x with
 | nil=>simp
 | cons y t ih=>
  rw [List.foldl_cons,ih];unfold xB;simp only [List.forall_mem_cons];split
  ·constructor
   ·intro h h2;exact h ⟨h2.2.1,h2.2.2⟩
   ·intro h h2;exact h ⟨by omega,h2.1,h2.2⟩
  ·constructor
   ·intro h h2;exact h ⟨h2.1,h2.2.2⟩
   ·intro h h2;exact h ⟨h2.1,by omega,h2.2⟩
theorem Ku {len:Int} {cuts dens:List Int} (h1:cuts.length<4611686018427387904) (h2:dens.length<4611686018427387904) (K:Int→Prop) :
  jV len (aA cuts) (aA dens) K=K (iR len cuts dens):=by
 refine ii _ _ _ _ (fun K k=>?_) K;unfold jV Pl;simp only [cP];have bad:¬(len>1000∨cuts.length>40)→¬VC len cuts dens→K 8:=fun h h2=>by
  rw [iR,Sz h,Sz h2] at k;exact k
 by_cases a1:len>1000
 ·rw [cL a1];rw [iR,Sy (.inl a1)] at k;exact k
 rw [cN a1]
 by_cases a2:cuts.length>40
 ·rw [cL (by omega)];rw [iR,Sy (.inr a2)] at k;exact k
 have a12:¬(len>1000∨cuts.length>40):=by omega
 rw [cN (by omega)]
 by_cases a3:len<1
 ·rw [cL a3];exact bad a12 (fun h=>by have:=h.1;omega)
 rw [cN a3]
 by_cases a4:cuts.length<2
 ·rw [cL (by omega)];exact bad a12 (fun h=>by have:=h.2.2.1;omega)
 rw [cN (by omega),fR (n:=(cuts.length:Int)-1) (by omega) (by omega)]
 by_cases a5:dens.length+1=cuts.length
 case neg=>rw [fA (by omega)];exact bad a12 (fun h=>a5 h.2.2.2.2.1)
 rw [dM (by omega),aO (by omega),fB (by omega),eJ (by omega)]
 by_cases a6:cuts.getD 0 0=0
 case neg=>rw [fA a6];exact bad a12 (fun h=>a6 h.2.2.2.2.2.1)
 rw [dM a6,aO (by omega),aO (by omega),fB (by omega),eJ (by omega)];have en:((cuts.length:Int)-1).toNat=cuts.length-1:=by omega
 rw [en]
 by_cases a7:cuts.getD (cuts.length-1) 0=len
 case neg=>rw [fA a7];exact bad a12 (fun h=>a7 h.2.2.2.2.2.2.1)
 rw [dM a7];refine ⟨cuts.length+1,?_⟩;refine rk (by omega) _ _ _ _ (cuts.length-1) 0 _ (by omega) (by omega) (fun hi=>?_) (fun hi=>bad a12 (fun h=>hi h.2.2.2.2.2.2.2.1));obtain ⟨x,t,e⟩:∃ x t,dens=x::t:=by
  cases dens with
  | nil=>exfalso;have:([]:List Int).length=0:=rfl;omega
  | cons x t=>exact ⟨x,t,rfl⟩
 refine ri (by omega) e ?_
 by_cases b1:t.foldl Hr x<0
 ·rw [cL b1];rw [YB] at b1;exact bad a12 (fun h=>b1 fun d hd=>(h.2.2.2.2.2.2.2.2.1 d (by rw [e];exact hd)).1)
 rw [cN b1];refine Yl (by omega) e ?_
 by_cases b2:t.foldl xB x>12
 ·rw [cL b2];rw [Hv] at b2;exact bad a12 (fun h=>b2 fun d hd=>(h.2.2.2.2.2.2.2.2.1 d (by rw [e];exact hd)).2)
 rw [cN b2];refine Yl (by omega) e ?_;have c1:∀ d∈dens,0≤d:=by rw [YB,Classical.not_not,← e] at b1;exact b1
 have c2:∀ d∈dens,d≤12:=by rw [Hv,Classical.not_not,← e] at b2;exact b2
 by_cases b3:t.foldl xB x=0
 ·rw [lD b3];refine bad a12 (fun h=>?_);obtain ⟨d,hd,h0⟩:=h.2.2.2.2.2.2.2.2.2;have:¬(t.foldl xB x>0):=by omega
  rw [Hv,Classical.not_not,← e] at this;have:=this d hd;omega
 ·rw [pM b3];have b4:t.foldl xB x>0:=by
   refine Int.not_le.1 fun hle=>b3 ?_
   have:t.foldl xB x>-1:=by rw [Hv];intro h;have h1:=h x (gT ..);have h2:=c1 x (by rw [e];exact gT ..);omega
   omega
  rw [Hv,← e] at b4;have b5:BQ dens:=by
   refine Classical.byContradiction fun hn=>b4 fun d hd=>?_
   exact Int.not_lt.1 fun hlt=>hn ⟨d,hd,hlt⟩
  rw [iR,Sz a12,Sy ⟨by omega,by omega,by omega,by omega,a5,a6,a7,hi,fun d hd=>⟨c1 d hd,c2 d hd⟩,b5⟩] at k;exact k
theorem Hw (n:Int) (K:Int→Int→Prop):zX n K=K (n:Rat).num (n:Rat).den:=rfl
theorem Rj {q r:Rat} (hq:small q) (hr:small r) (K:Bool→Prop):wP q.num q.den r.num r.den K=K (decide (q<r)):=by
 unfold wP Pz;rw [Ys hq hr];congr 1;rw [Aab,sH]
 by_cases h:q<r
 ·simp [h]
 ·by_cases h2:r<q<;>simp [h,h2]
def PT (len:Int) (n d:Int):Prop:=RV n d∧0≤n∧n≤len*d
instance (len n d:Int):Decidable (PT len n d):=by unfold PT;infer_instance
theorem sg {len n d:Int} (h:PT len n d):∃ q:Rat,small q∧q.num=n∧(q.den:Int)=d∧0≤q∧q≤(len:Rat):=by
 obtain ⟨h1,h2,h3⟩:=h;obtain ⟨q,e1,e2,e3⟩:=Kp h1;refine ⟨q,e1,e2,e3,?_,?_⟩
 ·rw [← Rat.num_nonneg,e2];exact h2
 ·rw [Rat.le_iff,e2,e3,Rat.num_intCast,Rat.den_intCast];simpa using h3
theorem si (x:Int) (q:Rat):((x:Rat)<q)↔x*(q.den:Int)<q.num:=by rw [Rat.lt_iff,Rat.num_intCast,Rat.den_intCast];simp
theorem sj {len:Int} (hl:-1000000000000000000≤len∧len≤1000000000000000000) {n d:Int} (hn:bT n) (hd:bT d) (a b:List PV) (K:Bool→Prop) :
  zY len a b n d K=K (decide (PT len n d)):=by
 unfold zY PB;rw [Re hn hd]
 by_cases h:RV n d
 ·obtain ⟨q,e1,e2,e3⟩:=Kp h;rw [iQ,Sy h,lD rfl]
  by_cases h0:n≥0
  ·rw [cL h0,Hw,← e2,← e3,Rj (xC hl) e1];congr 1;have:((len:Rat)<q)↔len*(q.den:Int)<q.num:=si _ _
   by_cases h3:(len:Rat)<q
   ·have h4:=this.1 h3;rw [Eg h3,Os];rfl;intro hp;have:=hp.2.2;omega
   ·have h4:¬_:=fun x=>h3 (this.2 x)
    rw [Os h3,Eg];rfl;exact ⟨e1.rv,by omega,by omega⟩
  ·rw [cN h0,Os];intro hp;have:=hp.2.1;omega
 ·rw [iQ,Sz h,pM (by decide),Os];intro hp;exact h hp.1
section
variable {len:Int} {cuts dens:List Int}
theorem VC.step (h:VC len cuts dens) {i:Nat} (hi:i+1<cuts.length):cuts.getD i 0<cuts.getD (i+1) 0:=h.2.2.2.2.2.2.2.1 i (gV _) hi
theorem VC.mono (h:VC len cuts dens) {i:Nat}:∀ {j:Nat},i≤j→j<cuts.length→cuts.getD i 0≤cuts.getD j 0
 | 0,hij,_=>by
  have:i=0:=by omega
  subst this;exact Int.le_refl _
 | j+1,hij,hj=>by
  by_cases e:i=j+1
  ·subst e;exact Int.le_refl _
  ·have h1:=h.mono (i:=i) (j:=j) (by omega) (by omega);have h2:=h.step (i:=j) hj;omega
theorem VC.lo (h:VC len cuts dens) {i:Nat} (hi:i<cuts.length):0≤cuts.getD i 0:=by have:=h.mono (gV i) hi;rw [h.2.2.2.2.2.1] at this;exact this
theorem VC.hi (h:VC len cuts dens) {i:Nat} (hi:i<cuts.length):cuts.getD i 0≤len:=by have:=h.mono (i:=i) (j:=cuts.length-1) (by omega) (by omega);rw [h.2.2.2.2.2.2.1] at this;exact this
theorem VC.den (h:VC len cuts dens) {i:Nat} (hi:i<dens.length):0≤dens.getD i 0∧dens.getD i 0≤12:=by rw [dO,cB hi];exact h.2.2.2.2.2.2.2.2.1 _ (oJ hi)
theorem VC.l1 (h:VC len cuts dens):dens.length+1=cuts.length:=h.2.2.2.2.1
theorem VC.l2 (h:VC len cuts dens):cuts.length≤40:=h.2.2.2.1
theorem VC.len0 (h:VC len cuts dens):1≤len∧len≤1000:=⟨h.1,h.2.1⟩
theorem VC.sc (h:VC len cuts dens) {i:Nat} (hi:i<cuts.length):small ((cuts.getD i 0:Int):Rat):=xC (by have:=h.lo hi;have:=h.hi hi;have:=h.len0;omega)
theorem VC.sd (h:VC len cuts dens) {i:Nat} (hi:i<dens.length):small ((dens.getD i 0:Int):Rat):=xC (by have:=h.den hi;omega)
theorem Rk (h:iR len cuts dens=0):VC len cuts dens:=by
 unfold iR at h;split at h
 ·omega
 ·split at h
  ·assumption
  ·omega
theorem VC.ck (h:VC len cuts dens):iR len cuts dens=0:=by rw [iR,Sz (by have:=h.l2;have:=h.len0;omega),Sy h]
def jF (cuts dens:List Int):Nat→Nat→Int→Int
 | 0,_,s=>s
 | r+1,i,s=>jF cuts dens r (i+1) (s+dens.getD i 0*(cuts.getD (i+1) 0-cuts.getD i 0))
def totC (cuts dens:List Int):Int:=jF cuts dens dens.length 0 0
theorem YC {d x:Int} (h:0≤d∧d≤12) (hx:0≤x):0≤d*x∧d*x≤12*x:=⟨jI h.1 hx,Ah h.2 hx⟩
theorem YD (h:VC len cuts dens):∀ (r i:Nat) (s:Int),i+r=dens.length→0≤s→s≤12*cuts.getD i 0→0≤jF cuts dens r i s∧jF cuts dens r i s≤12*len
 | 0,i,s,hi,h0,h1=>by have:=h.l1;have:=h.hi (i:=i) (by omega);unfold jF;omega
 | r+1,i,s,hi,h0,h1=>by unfold jF;have l1:=h.l1;have h2:=h.step (i:=i) (by omega);have h3:=YC (h.den (i:=i) (by omega)) (x:=cuts.getD (i+1) 0-cuts.getD i 0) (by omega);exact YD h r (i+1) _ (by omega) (by omega) (by omega)
theorem Rl (h:VC len cuts dens):0≤totC cuts dens∧totC cuts dens≤12000:=by have l1:=h.l1;have h0:=h.lo (i:=0) (by omega);have:=YD h dens.length 0 0 (by omega) (by omega) (by omega);have h2:=h.len0;unfold totC;omega
theorem YE (h:VC len cuts dens) (W:Int→List PV→List PV→(Int→Prop)→Prop) (x0:Int→List PV→List PV→Int→List PV→Int→Int→Bool→Prop) :
  ∀ (r i n:Nat) (s:Int),i+r=dens.length→r<n→0≤s→s≤12*cuts.getD i 0 →
   Eh W x0 n len (aA cuts) (aA dens) s (aA dens) dens.length i=x0 len (aA cuts) (aA dens) (jF cuts dens r i s) (aA dens) dens.length dens.length false
 | 0,i,n+1,s,hi,hn,h0,h1=>by
  unfold Eh jF;rw [cN (by omega)];have:(i:Int)=dens.length:=by omega
  rw [this]
 | r+1,i,n+1,s,hi,hn,h0,h1=>by unfold Eh;have l1:=h.l1;have l2:=h.l2;have h2:=h.step (i:=i) (by omega);have h3:=YC (h.den (i:=i) (by omega)) (x:=cuts.getD (i+1) 0-cuts.getD i 0) (by omega);have a1:=h.lo (i:=i) (by omega);have a2:=h.hi (i:=i+1) (by omega);have a3:=h.len0;have e1:=fR (n:=(i:Int)+1) (by omega) (by omega);have e2:=fR (n:=cuts.getD (i+1) 0-cuts.getD i 0) (by omega) (by omega);have e3:=fR (n:=dens.getD i 0*(cuts.getD (i+1) 0-cuts.getD i 0)) (by omega) (by omega);have e4:=fR (n:=s+dens.getD i 0*(cuts.getD (i+1) 0-cuts.getD i 0)) (by omega) (by omega);rw [cL (by omega),cP,cP,e1,lK,cX,cX,aO (by omega),aO (by omega),fB (by omega),aO (by omega),aO (by omega),fB (by omega),aO (by omega),aO (by omega),fB (by omega),eJ (by omega),eJ (by omega),eJ (by omega),e2,e3,e4];exact YE h W x0 r (i+1) n _ (by omega) (by omega) (by omega) (by omega)
theorem sk (h1:cuts.length<4611686018427387904) (h2:dens.length<4611686018427387904) (K:Int→Int→Prop) :
  sB len (aA cuts) (aA dens) K=if iR len cuts dens=0 then K (totC cuts dens) 0 else K 0 (iR len cuts dens):=by
 by_cases h:iR len cuts dens=0
 ·rw [Sy h];refine ij _ _ _ _ _ (fun K k=>?_) K;unfold sB Kb;have hv:=Rk h;rw [Ku h1 h2,h,dM rfl];refine ⟨dens.length+1,?_⟩;have l1:=hv.l1;have a1:=hv.lo (i:=0) (by omega);rw [cP];have:=YE hv jV (fun b c d a e f g j=>(K a (0:Int))) dens.length 0 (dens.length+1) 0 (by omega) (by omega) (by omega) (by omega);rw [show ((0:Nat):Int)=0 from rfl] at this;rw [this];exact k
 ·rw [Sz h];unfold sB Kb;rw [Ku h1 h2,fA h]
def exK (e:Except Int Rat) (K:Int→Int→Int→Prop):Prop:=match e with | .ok q=>K q.num q.den 0 | .error c=>K 0 0 c
def jY {α:Type} (q:Rat) (k:Rat→Except Int α):Except Int α:=if small q then k q else .error 16
theorem BR {q:Rat} {K:Int→Int→Int→Prop}:fitK q K=if small q then K q.num q.den 0 else K 0 0 16:=rfl
end
def rt (n d:Int):Rat:=mkRat n d.toNat
theorem Kv (q:Rat):rt q.num q.den=q:=by unfold rt;rw [cX,Rat.mkRat_self]
theorem sn {n d:Int} (h:RV n d):small (rt n d)∧(rt n d).num=n∧((rt n d).den:Int)=d:=by obtain ⟨q,h1,h2,h3⟩:=Kp h;subst h2 h3;rw [Kv];exact ⟨h1,rfl,rfl⟩
theorem PT.pt {len n d:Int} (h:PT len n d):small (rt n d)∧(rt n d).num=n∧((rt n d).den:Int)=d∧0≤rt n d∧rt n d≤(len:Rat):=by obtain ⟨q,h1,h2,h3,h4,h5⟩:=sg h;subst h2 h3;rw [Kv];exact ⟨h1,rfl,rfl,h4,h5⟩
theorem so {len:Int} {q:Rat} (h:small q) (h0:0≤q) (h1:q≤(len:Rat)):PT len q.num q.den:=by refine ⟨h.rv,Rat.num_nonneg.2 h0,?_⟩;rw [Rat.le_iff,Rat.num_intCast,Rat.den_intCast] at h1;simpa using h1
section
variable {len:Int} {cuts dens:List Int}
theorem sq {w:(Int→Int→Int→Prop)→Prop} {e:Except Int Rat} (det:∀ r0 r1 r2,(∀ K:Int→Int→Int→Prop,K r0 r1 r2→w K)→∀ K,w K=K r0 r1 r2) (h:∀ K,exK e K→w K) (K:Int→Int→Int→Prop):w K=exK e K:=by
 cases e with
 | ok q=>exact det _ _ _ h K
 | error c=>exact det _ _ _ h K
def mrkS (cuts dens:List Int):Nat→Nat→Rat→Rat→Except Int Rat
 | 0,_,_,_=>.error 6
 | r+1,i,p,v=>
  if ¬p<(cuts.getD (i+1) 0:Int) then mrkS cuts dens r (i+1) p v
  else if dens.getD i 0=0 then mrkS cuts dens r (i+1) (cuts.getD (i+1) 0:Int) v
  else jY ((cuts.getD (i+1) 0:Int)-p) fun l=>jY (l*(dens.getD i 0:Int)) fun w=>
   if w<v then jY (v-w) fun v'=>mrkS cuts dens r (i+1) (cuts.getD (i+1) 0:Int) v'
   else jY (v/(dens.getD i 0:Int)) fun s=>jY (p+s) .ok
def mrkC (cuts dens:List Int) (a v:Rat):Except Int Rat:=if v=0 then .ok a else mrkS cuts dens dens.length 0 a v
def BS (len:Int) (cuts dens:List Int) (an ad vn vd:Int):Except Int Rat:=
 if iR len cuts dens=0 then (if PT len an ad∧RV vn vd∧0≤vn then mrkC cuts dens (rt an ad) (rt vn vd) else .error 2) else .error (iR len cuts dens)
theorem YF (h:VC len cuts dens) (W1:Int→List PV→List PV→(Int→Prop)→Prop) (W2:Int→List PV→List PV→Int→Int→(Bool→Prop)→Prop) (W3:Int→Int→(Int→Prop)→Prop) (K:Int→Int→Int→Prop) :
  ∀ (r i n:Nat) (p v:Rat) (o1 o2:Int),i+r=dens.length→r<n→small p→small v →
   qN W1 W2 W3 zX wP pJ lY pK pI
    (fun l m b d f a=>(aD (a !=(0:Int)) (aD (a !=(0:Int)) (K (0:Int) (0:Int) a) (K b d (0:Int))) (aD (f !=(0:Int)) (K (0:Int) (0:Int) f) (K b d (0:Int)))))
    (fun o q j k g s t u w y z A B C=>(aD (g !=(0:Int)) (K (0:Int) (0:Int) g) (K j k (0:Int))))
    n v.num v.den o1 o2 6 len (aA cuts) (aA dens) p.num p.den (aA dens) dens.length i=exK (mrkS cuts dens r i p v) K
 | 0,i,n+1,p,v,o1,o2,hi,hn,hp,hs=>by unfold qN mrkS;rw [cN (by omega)];rfl
 | r+1,i,n+1,p,v,o1,o2,hi,hn,hp,hs=>by
  unfold qN;have l1:=h.l1;have l2:=h.l2;have sc:=h.sc (i:=i+1) (by omega);have sd:=h.sd (i:=i) (by omega);have hd0:=h.den (i:=i) (by omega);have e1:=fR (n:=(i:Int)+1) (by omega) (by omega);rw [cL (by omega),cP,cP,e1,lK,cX,cX,aO (by omega),aO (by omega),fB (by omega),aO (by omega),aO (by omega),fB (by omega),eJ (by omega),eJ (by omega),Hw,Rj hp sc];have ih:=fun p v o1 o2 hp hs=>YF h W1 W2 W3 K r (i+1) n p v o1 o2 (by omega) (by omega) hp hs
  unfold mrkS;obtain ⟨c,hc⟩:∃ c:Rat,c=((cuts.getD (i+1) 0:Int):Rat):=⟨_,rfl⟩;rw [← hc] at sc ⊢
  by_cases hpc:p<c
  case neg=>rw [Os hpc,xT,aY,Sy hpc];exact ih p v o1 o2 hp hs
  rw [Eg hpc,Bool.not_true,bE,Sz (fun x=>x hpc),Hw]
  by_cases hd:dens.getD i 0=0
  ·rw [cN (by omega),lD hd,Sy hd];exact ih c v o1 o2 sc hs
  rw [cL (by omega),Sz hd,Kt sc hp,BR]
  by_cases s1:small (c-p)
  case neg=>rw [Sz s1,fA (by decide),fA (by decide),fA (by decide),jY,Sz s1];rfl
  rw [Sy s1,dM rfl,Hw,Hu s1 sd,BR,jY,Sy s1]
  by_cases s2:small ((c-p)*(dens.getD i 0:Int))
  case neg=>rw [Sz s2,fA (by decide),fA (by decide),fA (by decide),jY,Sz s2];rfl
  rw [Sy s2,dM rfl,pM hd,Rj s2 hs,jY,Sy s2]
  by_cases hw:(c-p)*(dens.getD i 0:Int)<v
  ·rw [cL hw,Sy hw,Kt hs s2,BR,jY]
   by_cases s3:small (v-(c-p)*(dens.getD i 0:Int))
   ·rw [Sy s3,Sy s3,dM rfl,dM rfl];exact ih c _ o1 o2 sc s3
   ·rw [Sz s3,Sz s3,fA (by decide),fA (by decide),dM rfl,fA (by decide)];rfl
  ·have hdn:((dens.getD i 0:Int):Rat)≠0:=fun e=>hd (Rat.intCast_eq_zero_iff.1 e)
   rw [cN hw,Sz hw,Hw,Kr hs sd hdn,BR,jY]
   by_cases s3:small (v/(dens.getD i 0:Int))
   ·rw [Sy s3,Sy s3,lD rfl,Ks hp s3,BR,jY]
    by_cases s4:small (p+v/(dens.getD i 0:Int))
    ·rw [Sy s4,Sy s4,dM rfl,dM rfl];rfl
    ·rw [Sz s4,Sz s4,dM rfl,fA (by decide)];rfl
   ·rw [Sz s3,Sz s3,pM (by decide),dM rfl,fA (by decide)];rfl
theorem sr (h1:cuts.length<4611686018427387904) (h2:dens.length<4611686018427387904) {an ad vn vd:Int} (ha:bT an) (ha':bT ad) (hv:bT vn) (hv':bT vd) (K:Int→Int→Int→Prop) :
  tU len (aA cuts) (aA dens) an ad vn vd K=exK (BS len cuts dens an ad vn vd) K:=by
 refine sq (fun r0 r1 r2 h K=>ik _ _ _ _ _ _ _ r0 r1 r2 h K) (fun K k=>?_) K;unfold tU PC;rw [Ku h1 h2];unfold BS at k
 by_cases h:iR len cuts dens=0
 case neg=>rw [fA h];rw [Sz h] at k;exact k
 have hc:=Rk h;have hl:=hc.len0;rw [Sy h] at k;rw [dM h,sj (by omega) ha ha']
 by_cases p1:PT len an ad
 case neg=>rw [Os p1,xT,aY];rw [Sz (fun x=>p1 x.1)] at k;exact k
 rw [Eg p1,Bool.not_true,bE,Re hv hv',iQ]
 by_cases p2:RV vn vd
 case neg=>rw [Sz p2,fA (by decide)];rw [Sz (fun x=>p2 x.2.1)] at k;exact k
 rw [Sy p2,dM rfl]
 by_cases p3:vn<0
 ·rw [cL p3];rw [Sz (fun x=>by omega)] at k;exact k
 rw [cN p3];rw [Sy ⟨p1,p2,by omega⟩] at k;obtain ⟨s1,e1,e2,_,_⟩:=p1.pt;obtain ⟨s2,f1,f2⟩:=sn p2;unfold mrkC at k
 by_cases p4:vn=0
 ·rw [lD p4];rw [Sy (Rat.num_eq_zero.1 (f1.trans p4))] at k;have k:K (rt an ad).num (rt an ad).den 0:=k;rw [e1,e2] at k;exact k
 rw [pM p4];rw [Sz (fun x=>p4 (by rw [← f1,x];rfl))] at k;rw [cP];refine ⟨dens.length+1,?_⟩;have:=YF hc jV zY lX K dens.length 0 (dens.length+1) (rt an ad) (rt vn vd) 0 0 (by omega) (by omega) s1 s2;rw [e1,e2,f1,f2] at this;exact this.mpr k
def YG (cuts dens:List Int) (i:Nat):Prop:=∀ j,i≤j→j<dens.length→cuts.getD j 0<cuts.getD (j+1) 0∧0≤dens.getD j 0∧dens.getD j 0≤12
theorem Rm (l1:dens.length+1=cuts.length) (l2:dens.length<4611686018427387904) (x0:Int→Prop) (x1:Int→List PV→List PV→Bool→Int→Bool→Prop) (P:Prop)
  (hbad:¬YG cuts dens 0→x0 8=P) (hgood:∀ b:Bool,YG cuts dens 0→b=decide (∃ j,j<dens.length∧0<dens.getD j 0)→x1 len (aA cuts) (aA dens) b dens.length false=P) :
  ∀ (r i n:Nat) (b:Bool),i+r=dens.length→r<n→(∀ j,j<i→cuts.getD j 0<cuts.getD (j+1) 0∧0≤dens.getD j 0∧dens.getD j 0≤12)→b=decide (∃ j,j<i∧0<dens.getD j 0) →
   BJ x0 x1 n len (aA cuts) (aA dens) b i=P
 | 0,i,n+1,b,hi,hn,hj,hb=>by unfold BJ;rw [cP,cN (by omega),show (i:Int)=dens.length by omega];refine hgood b (fun j _ h=>hj j (by omega)) ?_;rw [hb,Aab];rw [show i=dens.length by omega]
 | r+1,i,n+1,b,hi,hn,hj,hb=>by
  unfold BJ;have e1:=fR (n:=(i:Int)+1) (by omega) (by omega);rw [cP,cP,cL (by omega),e1,lK,cX,cX,aO (by omega),aO (by omega),fB (by omega),aO (by omega),aO (by omega),fB (by omega),eJ (by omega),eJ (by omega)];have bad:¬(cuts.getD i 0<cuts.getD (i+1) 0∧0≤dens.getD i 0∧dens.getD i 0≤12)→x0 8=P:=fun h=>hbad fun hk=>h (hk i (by omega) (by omega))
  by_cases a1:cuts.getD (i+1) 0≤cuts.getD i 0
  ·rw [cL a1];exact bad (by omega)
  rw [cN a1,aO (by omega),aO (by omega),fB (by omega),eJ (by omega)]
  by_cases a2:dens.getD i 0<0
  ·rw [cL a2];exact bad (by omega)
  rw [cN a2,aO (by omega),aO (by omega),fB (by omega)]
  by_cases a3:dens.getD i 0>12
  ·rw [cL a3];exact bad (by omega)
  rw [cN a3];have hj2:∀ j,j<i+1→cuts.getD j 0<cuts.getD (j+1) 0∧0≤dens.getD j 0∧dens.getD j 0≤12:=by
   intro j hlt
   by_cases e:j=i
   ·subst e;omega
   ·exact hj j (by omega)
  have ex:∀ c:Bool,(c=true↔(b=true∨0<dens.getD i 0))→c=decide (∃ j,j<i+1∧0<dens.getD j 0):=by
   intro c hc;rw [Bool.eq_iff_iff,hc,hb,decide_eq_true_iff,decide_eq_true_iff];constructor
   ·rintro (⟨j,h1,h2⟩ | h)
    ·exact ⟨j,by omega,h2⟩
    ·exact ⟨i,by omega,h⟩
   ·rintro ⟨j,h1,h2⟩
    by_cases e:j=i
    ·subst e;exact .inr h2
    ·exact .inl ⟨j,by omega,h2⟩
  cases b with
  | true =>rw [aY];exact Rm l1 l2 x0 x1 P hbad hgood r (i+1) n true (by omega) (by omega) hj2 (ex _ (by simp))
  | false =>rw [bE,aO (by omega),aO (by omega),fB (by omega)];exact Rm l1 l2 x0 x1 P hbad hgood r (i+1) n _ (by omega) (by omega) hj2 (ex _ (by simp))
theorem YH (h1:cuts.length<4611686018427387904) (h2:dens.length<4611686018427387904) (K:Int→Prop) :
  qO len (aA cuts) (aA dens) K=K (iR len cuts dens):=by
 refine ki _ _ _ _ (fun K k=>?_) K;unfold qO PX;simp only [cP];have bad:¬(len>1000∨cuts.length>40)→¬VC len cuts dens→K 8:=fun h h2=>by
  rw [iR,Sz h,Sz h2] at k;exact k
 by_cases a1:len>1000
 ·rw [cL a1];rw [iR,Sy (.inl a1)] at k;exact k
 rw [cN a1]
 by_cases a2:cuts.length>40
 ·rw [cL (by omega)];rw [iR,Sy (.inr a2)] at k;exact k
 have a12:¬(len>1000∨cuts.length>40):=by omega
 rw [cN (by omega)]
 by_cases a3:len<1
 ·rw [cL a3];exact bad a12 (fun h=>by have:=h.1;omega)
 rw [cN a3]
 by_cases a4:cuts.length<2
 ·rw [cL (by omega)];exact bad a12 (fun h=>by have:=h.2.2.1;omega)
 rw [cN (by omega),fR (n:=(cuts.length:Int)-1) (by omega) (by omega)]
 by_cases a5:dens.length+1=cuts.length
 case neg=>rw [fA (by omega)];exact bad a12 (fun h=>a5 h.2.2.2.2.1)
 rw [dM (by omega),aO (by omega),fB (by omega),eJ (by omega)]
 by_cases a6:cuts.getD 0 0=0
 case neg=>rw [fA a6];exact bad a12 (fun h=>a6 h.2.2.2.2.2.1)
 rw [dM a6,aO (by omega),aO (by omega),fB (by omega),eJ (by omega)];have en:((cuts.length:Int)-1).toNat=cuts.length-1:=by omega
 rw [en]
 by_cases a7:cuts.getD (cuts.length-1) 0=len
 case neg=>rw [fA a7];exact bad a12 (fun h=>a7 h.2.2.2.2.2.2.1)
 rw [dM a7];have mem:∀ d,d∈dens↔∃ j,j<dens.length∧dens.getD j 0=d:=by
  intro d;rw [List.mem_iff_getElem];constructor
  ·rintro ⟨j,hj,e⟩;exact ⟨j,hj,by rw [dO,cB hj];exact e⟩
  ·rintro ⟨j,hj,e⟩;exact ⟨j,hj,by rw [dO,cB hj] at e;exact e⟩
 refine ⟨dens.length+1,?_⟩;refine (Rm a5 h2 _ _ (K (iR len cuts dens)) (fun hk=>?_) (fun b hk hb=>?_) dens.length 0 (dens.length+1) false (by omega) (by omega) (fun j h=>by omega) (by simp)).mpr k
 ·have hv:¬VC len cuts dens:=fun h=>hk fun j _ hj=>⟨h.step (by omega),h.den hj⟩
  rw [iR,Sz a12,Sz hv]
 ·have hsome:BQ dens↔∃ j,j<dens.length∧0<dens.getD j 0:=by
   constructor
   ·rintro ⟨d,hd,h0⟩;obtain ⟨j,hj,e⟩:=(mem d).1 hd;exact ⟨j,hj,by rw [e];exact h0⟩
   ·rintro ⟨j,hj,h0⟩;exact ⟨_,(mem _).2 ⟨j,hj,rfl⟩,h0⟩
  have hv:VC len cuts dens↔BQ dens:=by refine ⟨fun h=>h.2.2.2.2.2.2.2.2.2,fun h=>⟨by omega,by omega,by omega,by omega,a5,a6,a7,fun j _ hj=>(hk j (by omega) (by omega)).1,fun d hd=>?_,h⟩⟩;obtain ⟨j,hj,e⟩:=(mem d).1 hd;rw [← e];exact (hk j (by omega) hj).2
  rw [iR,Sz a12]
  by_cases hs:BQ dens
  ·rw [Sy (hv.2 hs),hb,Eg (hsome.1 hs)];rfl
  ·rw [Sz (fun x=>hs (hv.1 x)),hb,Os (fun x=>hs (hsome.2 x))];rfl
theorem BT {α:Type} {q:Rat} {k:Rat→Except Int α} (h:small q):jY q k=k q:=Sy h
theorem YI {q:Rat} {K:Int→Int→Int→Prop}:exK (.ok q) K=K q.num q.den 0:=rfl
theorem YJ {c:Int} {K:Int→Int→Int→Prop}:exK (.error c) K=K 0 0 c:=rfl
end
structure Ck where
 len:Int
 cuts:List Int
 dens:List Int
instance:Inhabited Ck:=⟨⟨0,[],[]⟩⟩
def lE (c:Ck):PV:=.agg [.int .i64 c.len,.data (aA c.cuts),.data (aA c.dens)]
def cks (l:List Ck):List PV:=l.map lE
def Ck.fin (c:Ck):Prop:=c.cuts.length<4611686018427387904∧c.dens.length<4611686018427387904
def Ck.err (c:Ck):Int:=iR c.len c.cuts c.dens
def Ck.ok (c:Ck):Prop:=VC c.len c.cuts c.dens
instance (c:Ck):Decidable c.ok:=by unfold Ck.ok;infer_instance
theorem iG (l:List Ck):(cks l).length=l.length:=mC ..
theorem oC {l:List Ck} {i:Nat} (h:i<l.length):getD (cks l) i .nils=lE (l.getD i default):=by unfold cks;rw [dO,dO,sW,cB h];rfl
theorem sI {α:Type} {l:List α} {i:Nat} (d:α) (h:i<l.length):l.drop i=l.getD i d::l.drop (i+1):=by rw [List.drop_eq_getElem_cons h,dO,cB h];rfl
theorem dU {c:Ck} {P:Prop}:asr (aG zK (lE c)) P=P:=rfl
theorem qQ (c:Ck):aP (bZ (lE c) 0)=c.len:=rfl
theorem Ac (c:Ck):gA (bZ (lE c) 1)=aA c.cuts:=rfl
theorem BU (c:Ck):gA (bZ (lE c) 2)=aA c.dens:=rfl
def mL:List Ck→Int
 | []=>0
 | c::t=>if c.err=0 then mL t else c.err
def sJ (n:Int):List Ck→Bool
 | []=>true
 | c::t=>decide (c.len=n)&&sJ n t
def pN (l:List Ck) (m:Nat):Int:=
 if l.length>6 then 4 else if m>2000 then 4 else if l.length=0 then 8 else if mL l=0 then (if sJ (l.getD 0 default).len l then 0 else 8) else mL l
section
variable {l:List Ck}
def nG (l:List Ck):Prop:=∀ i,i<l.length→(l.getD i default).fin
theorem YL (hf:nG l) (hl:l.length<4611686018427387904) (x0:Int→Prop) (x1:List PV→List PV→List PV→Int→Int→Bool→Prop) (lg:List PV) :
  ∀ (r i n:Nat),i+r=l.length→r<n→Ei jV x0 x1 n (cks l) lg (cks l) l.length i =
   if mL (l.drop i)=0 then x1 (cks l) lg (cks l) l.length l.length false else x0 (mL (l.drop i))
 | 0,i,n+1,hi,hn=>by unfold Ei;rw [cN (by omega),nN (by omega),show (i:Int)=l.length by omega];rfl
 | r+1,i,n+1,hi,hn=>by
  unfold Ei;have e1:=fR (n:=(i:Int)+1) (by omega) (by omega);obtain ⟨f1,f2⟩:=hf i (by omega);rw [cL (by omega),iG,cX,oC (by omega),aO (by omega),aO (by omega),dU,qQ,Ac,BU,Ku (by omega) (by omega),sI default (by omega),mL,e1,lK];show aD ((l.getD i default).err !=0) _ _=_
  by_cases h:(l.getD i default).err=0
  ·rw [dM h,Sy h];exact YL hf hl x0 x1 lg r (i+1) n (by omega) (by omega)
  ·rw [fA h,Sz h,Sz h];rfl
theorem YM (hl:l.length<4611686018427387904) (x0:Int→Prop) (x1:List PV→List PV→List PV→Int→Int→Bool→Prop) (lg:List PV) (W) :
  ∀ (r i n:Nat),i+r=l.length→r<n→BG W x0 x1 n (cks l) lg (cks l) l.length i =
   if sJ (l.getD 0 default).len (l.drop i) then x1 (cks l) lg (cks l) l.length l.length false else x0 8
 | 0,i,n+1,hi,hn=>by unfold BG;rw [cN (by omega),nN (by omega),show (i:Int)=l.length by omega];rfl
 | r+1,i,n+1,hi,hn=>by
  unfold BG;have e1:=fR (n:=(i:Int)+1) (by omega) (by omega);rw [cL (by omega),iG,cX,oC (by omega),oC (by omega),aO (by omega),aO (by omega),dU,aO (by omega),dU,qQ,qQ,sI default (by omega),sJ,e1,lK]
  by_cases h:(l.getD i default).len=(l.getD 0 default).len
  ·rw [dM h,Eg h,nQ];exact YM hl x0 x1 lg W r (i+1) n (by omega) (by omega)
  ·rw [fA h,Os h,mO,Sz (by simp)]
theorem su (hf:nG l) (hl:l.length<4611686018427387904) (lg:List PV) (K:Int→Prop):tV (cks l) lg K=K (pN l lg.length):=by
 refine iw _ _ _ (fun K k=>?_) K;unfold tV PF;unfold pN at k;rw [iG]
 by_cases a1:l.length>6
 ·rw [cL (by omega)];rw [Sy a1] at k;exact k
 rw [cN (by omega)];rw [Sz a1] at k
 by_cases a2:lg.length>2000
 ·rw [cL (by omega)];rw [Sy a2] at k;exact k
 rw [cN (by omega)];rw [Sz a2] at k
 by_cases a3:l.length=0
 ·rw [lD (by omega)];rw [Sy a3] at k;exact k
 rw [pM (by omega)];rw [Sz a3] at k;refine ⟨l.length+1,?_⟩;have h0:=YL hf hl (fun c=>K c) (fun a d o p q r=>(∃ e:Nat,BG jV (fun b=>(K b)) (fun f g i j m n=>(K (0:Int))) e a d a (((length a):Nat):Int) (0:Int))) lg l.length 0 (l.length+1) (by omega) (by omega);rw [show ((0:Nat):Int)=0 from rfl,nP] at h0;rw [h0]
 by_cases a4:mL l=0
 ·rw [Sy a4] at k ⊢;refine ⟨l.length+1,?_⟩;have h1:=YM hl (fun b=>(K b)) (fun f g i j m n=>(K (0:Int))) lg jV l.length 0 (l.length+1) (by omega) (by omega);rw [show ((0:Nat):Int)=0 from rfl,nP] at h1;rw [iG,h1];split at k<;>rename_i h<;>simp only [h]<;>exact k
 ·rw [Sz a4] at k ⊢;exact k
theorem YN (hf:nG l) (hl:l.length<4611686018427387904) (x0:Int→Prop) (x1:List PV→List PV→Int→Bool→Prop) (lg:List PV) :
  ∀ (r i n:Nat),i+r=l.length→r<n→En qO x0 x1 n (cks l) lg i =
   if mL (l.drop i)=0 then x1 (cks l) lg l.length false else x0 (mL (l.drop i))
 | 0,i,n+1,hi,hn=>by unfold En;rw [iG,cN (by omega),nN (by omega),show (i:Int)=l.length by omega];rfl
 | r+1,i,n+1,hi,hn=>by
  unfold En;have e1:=fR (n:=(i:Int)+1) (by omega) (by omega);obtain ⟨f1,f2⟩:=hf i (by omega);rw [iG,cL (by omega),cX,oC (by omega),aO (by omega),aO (by omega),dU,qQ,Ac,BU,YH (by omega) (by omega),sI default (by omega),mL,e1,lK];show aD ((l.getD i default).err !=0) _ _=_
  by_cases h:(l.getD i default).err=0
  ·rw [dM h,Sy h];exact YN hf hl x0 x1 lg r (i+1) n (by omega) (by omega)
  ·rw [fA h,Sz h,Sz h,aO (by omega),aO (by omega),dU,YH (by omega) (by omega)];rfl
theorem YO (hl:l.length<4611686018427387904) (x0:Int→Prop) (x1:List PV→List PV→Int→Bool→Prop) (lg:List PV) (W) :
  ∀ (r i n:Nat),i+r=l.length→r<n→BK W x0 x1 n (cks l) lg i =
   if sJ (l.getD 0 default).len (l.drop i) then x1 (cks l) lg l.length false else x0 8
 | 0,i,n+1,hi,hn=>by unfold BK;rw [iG,cN (by omega),nN (by omega),show (i:Int)=l.length by omega];rfl
 | r+1,i,n+1,hi,hn=>by
  unfold BK;have e1:=fR (n:=(i:Int)+1) (by omega) (by omega);rw [iG,cL (by omega),cX,oC (by omega),oC (by omega),aO (by omega),aO (by omega),dU,aO (by omega),dU,qQ,qQ,sI default (by omega),sJ,e1,lK]
  by_cases h:(l.getD i default).len=(l.getD 0 default).len
  ·rw [dM h,Eg h,nQ];exact YO hl x0 x1 lg W r (i+1) n (by omega) (by omega)
  ·rw [fA h,Os h,mO,Sz (by simp)]
theorem sw (hf:nG l) (hl:l.length<4611686018427387904) (lg:List PV) (K:Int→Prop):wV (cks l) lg K=K (pN l lg.length):=by
 refine lm _ _ _ (fun K k=>?_) K;unfold wV Qd;unfold pN at k;rw [iG]
 by_cases a1:l.length>6
 ·rw [cL (by omega)];rw [Sy a1] at k;exact k
 rw [cN (by omega)];rw [Sz a1] at k
 by_cases a2:lg.length>2000
 ·rw [cL (by omega)];rw [Sy a2] at k;exact k
 rw [cN (by omega)];rw [Sz a2] at k
 by_cases a3:l.length=0
 ·rw [lD (by omega)];rw [Sy a3] at k;exact k
 rw [pM (by omega)];rw [Sz a3] at k;refine ⟨l.length+1,?_⟩;have h0:=YN hf hl (fun b=>K b) (fun c d m n=>(∃ e:Nat,BK qO (fun a=>(K a)) (fun f g i j=>(K (0:Int))) e c d (0:Int))) lg l.length 0 (l.length+1) (by omega) (by omega);rw [show ((0:Nat):Int)=0 from rfl,nP] at h0;rw [h0]
 by_cases a4:mL l=0
 ·rw [Sy a4] at k ⊢;refine ⟨l.length+1,?_⟩;have h1:=YO hl (fun a=>(K a)) (fun f g i j=>(K (0:Int))) lg qO l.length 0 (l.length+1) (by omega) (by omega);rw [show ((0:Nat):Int)=0 from rfl,nP] at h1;rw [h1];split at k<;>rename_i h<;>simp only [h]<;>exact k
 ·rw [Sz a4] at k ⊢;exact k
def Ck.low (c:Ck):Prop:=c.cuts.length≤1000∧c.dens.length≤1000
def Ro (l:List Ck):Prop:=∀ i,i<l.length→(l.getD i default).low
theorem sK {c:Bool} {P:Prop} (h:c=true):asr c P=P:=by rw [h,eS]
theorem YP:∀ (l:List Ck),mL l=0→∀ i,i<l.length→(l.getD i default).ok
 | c::t,h,0,_=>by
  unfold mL at h;split at h
  ·rename_i h1;exact Rk h1
  ·rename_i h1;exact absurd h h1
 | c::t,h,i+1,hi=>by
  unfold mL at h;split at h
  ·exact YP t h i (by simpa using hi)
  ·rename_i h1;exact absurd h h1
theorem YQ {n:Int}:∀ (l:List Ck),sJ n l=true→∀ i,i<l.length→(l.getD i default).len=n
 | c::t,h,0,_=>by unfold sJ at h;simp only [bK,decide_eq_true_eq] at h;exact h.1
 | c::t,h,i+1,hi=>by unfold sJ at h;simp only [bK,decide_eq_true_eq] at h;exact YQ t h.2 i (by simpa using hi)
structure DK (l:List Ck):Prop where
 n6:l.length≤6
 n0:1≤l.length
 ok:∀ i,i<l.length→(l.getD i default).ok
 len:∀ i,i<l.length→(l.getD i default).len=(l.getD 0 default).len
theorem ta {m:Nat} (h:pN l m=0):DK l∧m≤2000:=by
 unfold pN at h;split at h
 ·omega
 split at h
 ·omega
 split at h
 ·omega
 split at h
 ·rename_i h0 h1 h2 h3;split at h
  ·rename_i h4;exact ⟨⟨by omega,by omega,YP l h3,YQ l h4⟩,by omega⟩
  ·omega
 ·rename_i h3;exact absurd h h3
theorem DK.err {l:List Ck} (h:DK l) {m:Nat} (hm:m≤2000):pN l m=0:=by
 have f:∀ l:List Ck,(∀ i,i<l.length→(l.getD i default).ok)→mL l=0:=by
  intro l;induction l with
  | nil=>intro _;rfl
  | cons c t ih =>intro h;unfold mL;rw [Sy (show c.err=0 from (h 0 (Ct _)).ck)];exact ih fun i hi=>h (i+1) (by simpa using hi)
 have g:∀ (n:Int) (l:List Ck),(∀ i,i<l.length→(l.getD i default).len=n)→sJ n l=true:=by
  intro n l;induction l with
  | nil=>intro _;rfl
  | cons c t ih =>intro h;unfold sJ;rw [bK,decide_eq_true_eq];exact ⟨h 0 (Ct _),ih fun i hi=>h (i+1) (by simpa using hi)⟩
 have:=h.n6;have:=h.n0;unfold pN;rw [Sz (by omega),Sz (by omega),Sz (by omega),Sy (f l h.ok),Sy (g _ l h.len)]
def Kw (l:List Ck):Bool:=l.any (fun c=>decide (c.cuts.length>60)||decide (c.dens.length>60))||decide (l.length>10)
theorem tb {len:Int} {cuts dens:List Int} (K:Bool→Prop):BI len (aA cuts) (aA dens) K=K (decide (cuts.length>60)||decide (dens.length>60)):=by
 unfold BI PW;rw [cP,cP]
 by_cases h:cuts.length>60
 ·rw [cL (by omega),Eg h];rfl
 ·rw [cN (by omega),Os h,Bool.false_or];congr 1;rw [Aab];omega
theorem YR (hl:l.length≤9223372036854775807) (K:Bool→Prop) :
  ∀ (r i n:Nat),i+r=l.length→r<n→El BI (fun a=>(K a)) (fun b d e=>(K (decide ((((length b):Nat):Int)>(10:Int))))) n (cks l) i =
   K ((l.drop i).any (fun c=>decide (c.cuts.length>60)||decide (c.dens.length>60))||decide (l.length>10))
 | 0,i,n+1,hi,hn=>by unfold El;rw [iG,cN (by omega),nN (by omega)];show K _=K (false||_);rw [Bool.false_or];congr 1;rw [Aab];omega
 | r+1,i,n+1,hi,hn=>by
  unfold El;have e1:=fR (n:=(i:Int)+1) (by omega) (by omega);rw [iG,cL (by omega),cX,oC (by omega),aO (by omega),aO (by omega),dU,qQ,Ac,BU,tb,sI default (by omega),List.any_cons,e1,lK]
  cases hb:(decide ((l.getD i default).cuts.length>60)||decide ((l.getD i default).dens.length>60)) with
  | true=>rw [aY];rfl
  | false=>rw [bE,Bool.false_or];exact YR hl K r (i+1) n (by omega) (by omega)
theorem tc (hl:l.length≤9223372036854775807) (K:Bool→Prop):wU (cks l) K=K (Kw l):=by refine lk _ _ (fun K k=>?_) K;unfold wU Qb;refine ⟨l.length+1,?_⟩;have:=YR hl K l.length 0 (l.length+1) (by omega) (by omega);rw [show ((0:Nat):Int)=0 from rfl,nP] at this;rw [this];exact k
theorem td (h:Kw l=false):l.length≤10∧Ro l∧nG l:=by
 unfold Kw at h;simp only [xO,decide_eq_false_iff_not,List.any_eq_false,Bool.not_eq_true,Nat.not_lt] at h;have hh:∀ i,i<l.length→(l.getD i default).cuts.length≤60∧(l.getD i default).dens.length≤60:=by
  intro i hi;have hm:l.getD i default∈l:=by rw [dO,cB hi];exact oJ hi
  have:=h.1 _ hm;omega
 exact ⟨by omega,fun i hi=>⟨by have:=hh i hi;omega,by have:=hh i hi;omega⟩,fun i hi=>⟨by have:=hh i hi;omega,by have:=hh i hi;omega⟩⟩
theorem te {n d:Int} (hn:-1000000000000000000≤n∧n≤1000000000000000000) (hd:1≤d∧d≤1000000000000000000):small ((n:Rat)/(d:Rat)):=by
 have e:(n:Rat)/(d:Rat)=mkRat n d.toNat:=by
  rw [Rat.mkRat_eq_div];have h1:((d.toNat:Nat):Int)=d:=by omega
  have h2:((d.toNat:Nat):Rat)=(d:Rat):=by rw [← Rat.intCast_natCast,h1]
  rw [h2]
 rw [e];unfold small;rw [Rat.num_mkRat,Rat.den_mkRat,Sz (by omega),Sz (by omega)];have g0:0<d.toNat.gcd n.natAbs:=Nat.gcd_pos_of_pos_left _ (by omega);have h1:(n/(d.toNat.gcd n.natAbs:Nat)).natAbs≤n.natAbs:=by
  rw [Int.natAbs_ediv_of_dvd,ET]
  ·exact xS _ _
  ·rw [← Int.dvd_natAbs,Int.ofNat_dvd];exact EW _ _
 have h2:d.toNat/d.toNat.gcd n.natAbs≤d.toNat:=xS _ _;generalize n/(d.toNat.gcd n.natAbs:Nat)=x at *
 generalize d.toNat/d.toNat.gcd n.natAbs=y at *
 omega
end
theorem sL {D:Int} (h:1≤D):(D:Rat)≠0:=fun e=>by have:=Rat.intCast_eq_zero_iff.1 e;omega
section
variable {len:Int} {cuts dens:List Int}
def rem (cuts dens:List Int):Nat→Nat→Int
 | 0,_=>0
 | r+1,i=>dens.getD i 0*(cuts.getD (i+1) 0-cuts.getD i 0)+rem cuts dens r (i+1)
theorem YS (cuts dens:List Int):∀ (r i:Nat) (s:Int),jF cuts dens r i s=s+rem cuts dens r i
 | 0,i,s=>by unfold jF rem;omega
 | r+1,i,s=>by unfold jF rem;rw [YS cuts dens r (i+1)];omega
end
def Hx:DS:=.a [.i .i64,.i .i64]
def Ad:DS:=.a [.i .i64,.s (.i .i64),.s (.i .i64)]
theorem Kx {n:Int} (h:fZ .i64 n):bT n:=by
 have e1:i64.min=-9223372036854775808:=by decide
 have e2:i64.max=9223372036854775807:=by decide
 unfold fZ at h;rw [e1,e2] at h;exact h
theorem tf {c:List PV} (h:HasF (.i .i64) c):∃ n,c=[.int .i64 n]∧bT n:=by simp only [HasF] at h;obtain ⟨n,e,k⟩:=h;exact ⟨n,e,Kx k⟩
theorem tg {c:List PV} (h:HasF Hx c):∃ n d,c=[.int .i64 n,.int .i64 d]∧bT n∧bT d:=by simp only [Hx,HasF,HasL] at h;obtain ⟨c1,c2,rfl,⟨n,rfl,hn⟩,c3,c4,rfl,⟨d,rfl,hd⟩,rfl⟩:=h;exact ⟨n,d,rfl,Kx hn,Kx hd⟩
theorem Ky:∀ (rows:List PV),(∀ x∈rows,x.isAgg=(DS.i .i64).isA∧HasF (.i .i64) x.cells)→∃ l:List Int,rows=aA l∧∀ n∈l,bT n
 | [],_=>⟨[],rfl,by simp⟩
 | x::r,h=>by
  obtain ⟨l,e,hl⟩:=Ky r (fun y hy=>h y (fH _ hy));obtain ⟨h1,h2⟩:=h x (gT ..);obtain ⟨n,e2,hn⟩:=tf h2;have ex:x=.int .i64 n:=by
   cases x<;>first | (simp only [PV.cells,jH,and_true] at e2;exact e2) | (cases h1)
  refine ⟨n::l,by rw [ex,e];rfl,?_⟩;intro m hm;rcases qAp.1 hm with rfl | hm
  ·exact hn
  ·exact hl m hm
def Ck.i64 (c:Ck):Prop:=bT c.len∧(∀ n∈c.cuts,bT n)∧∀ n∈c.dens,bT n
theorem th {c:List PV} (h:HasF Ad c):∃ k:Ck,c=[.int .i64 k.len,.data (aA k.cuts),.data (aA k.dens)]∧k.i64∧k.cuts.length≤9223372036854775807∧k.dens.length≤9223372036854775807:=by simp only [Ad,HasF,HasL] at h;obtain ⟨c1,c2,rfl,⟨n,rfl,hn⟩,c3,c4,rfl,⟨r1,rfl,l1,h1⟩,c5,c6,rfl,⟨r2,rfl,l2,h2⟩,rfl⟩:=h;obtain ⟨a,rfl,ha⟩:=Ky r1 (fun x hx=>⟨(h1 x hx).1,by simp only [HasF];exact (h1 x hx).2⟩);obtain ⟨b,rfl,hb⟩:=Ky r2 (fun x hx=>⟨(h2 x hx).1,by simp only [HasF];exact (h2 x hx).2⟩);rw [cP] at l1 l2;exact ⟨⟨n,a,b⟩,rfl,⟨Kx hn,ha,hb⟩,l1,l2⟩
theorem YT {x:PV} {l:List DS} (h:x.isAgg=(DS.a l).isA):x=.agg x.cells:=by
 cases x<;>first | rfl | cases h
theorem YU:∀ (rows:List PV),(∀ x∈rows,x.isAgg=Ad.isA∧HasF Ad x.cells)→∃ l:List Ck,rows=cks l∧∀ c∈l,c.i64
 | [],_=>⟨[],rfl,by simp⟩
 | x::r,h=>by
  obtain ⟨l,e,hl⟩:=YU r (fun y hy=>h y (fH _ hy));obtain ⟨h1,h2⟩:=h x (gT ..);obtain ⟨k,e2,hk,_⟩:=th h2;have ex:x=lE k:=by rw [YT h1,e2];rfl
  refine ⟨k::l,by rw [ex,e];rfl,?_⟩;intro m hm;rcases qAp.1 hm with rfl | hm
  ·exact hk
  ·exact hl m hm
theorem ti {c:List PV} (h:HasF (.s Ad) c):∃ l:List Ck,c=[.data (cks l)]∧l.length≤9223372036854775807∧∀ k∈l,k.i64:=by simp only [HasF] at h;obtain ⟨rows,rfl,hl,hr⟩:=h;obtain ⟨l,rfl,hi⟩:=YU rows hr;rw [iG] at hl;exact ⟨l,rfl,hl,hi⟩
theorem YV {x y:PV} (h:x.isAgg=false) (e:x.cells=[y]):x=y:=by
 cases x<;>first | (simp only [PV.cells,jH,and_true] at e;exact e) | cases h
end Go.Pf.Vc
namespace Go.Pf.Vc
def dK (a b:Rat):Rat:=if a<b then b else a
def pO (a b:Rat):Rat:=if a<b then a else b
theorem pP (a b:Rat):a≤dK a b∧b≤dK a b∧(dK a b=a∨dK a b=b):=by unfold dK;split<;>grind
theorem sM (a b:Rat):pO a b≤a∧pO a b≤b∧(pO a b=a∨pO a b=b):=by unfold pO;split<;>grind
end Go.Pf.Vc
namespace Go.Pf.Vc
open Go Go.Pf
theorem tj (P:Prop):asr (decide True) P=P:=by rw [decide_true];rfl
section
variable {len:Int} {cuts dens:List Int}
def uC (cuts:List Int) (i:Nat) (x:Rat):Rat:=pO (dK x (cuts.getD i 0:Int)) (cuts.getD (i+1) 0:Int)
def vu (cuts dens:List Int) (x:Rat):Nat→Nat→Rat
 | 0,_=>0
 | r+1,i=>(dens.getD i 0:Int)*uC cuts i x+vu cuts dens x r (i+1)
theorem Hy (h:VC len cuts dens):∀ (r i:Nat) {x y:Rat},i+r=dens.length→x≤(cuts.getD i 0:Int)→y≤(cuts.getD i 0:Int)→vu cuts dens x r i=vu cuts dens y r i
 | 0,_,_,_,_,_,_=>rfl
 | r+1,i,x,y,hi,hx,hy=>by
  have l1:=h.l1;have hst:((cuts.getD i 0:Int):Rat)<((cuts.getD (i+1) 0:Int):Rat):=EN.2 (h.step (i:=i) (by omega));have ih:=Hy h r (i+1) (x:=x) (y:=y) (by omega) (by grind) (by grind);unfold vu;rw [ih];have e:uC cuts i x=uC cuts i y:=by
   unfold uC;have a1:=pP x (cuts.getD i 0:Int);have a2:=pP y (cuts.getD i 0:Int);have e1:dK x (cuts.getD i 0:Int)=(cuts.getD i 0:Int):=by grind
   have e2:dK y (cuts.getD i 0:Int)=(cuts.getD i 0:Int):=by grind
   rw [e1,e2]
  rw [e]
theorem Hz {α:Type} {q:Rat} {k:Rat→Except Int α} {v:α} (h:jY q k=.ok v):k q=.ok v:=by
 unfold jY at h;split at h
 ·exact h
 ·cases h
def vX (cuts dens:List Int) (x:Rat):Rat:=vu cuts dens x dens.length 0
theorem YW (h:VC len cuts dens) {i:Nat} (hi:i+1<cuts.length) {x y:Rat} (hxy:x≤y):uC cuts i x≤uC cuts i y:=by have hst:((cuts.getD i 0:Int):Rat)<((cuts.getD (i+1) 0:Int):Rat):=EN.2 (h.step (i:=i) hi);have m1:=pP x (cuts.getD i 0:Int);have m2:=pP y (cuts.getD i 0:Int);have n1:=sM (dK x (cuts.getD i 0:Int)) (cuts.getD (i+1) 0:Int);have n2:=sM (dK y (cuts.getD i 0:Int)) (cuts.getD (i+1) 0:Int);unfold uC;grind
theorem YX (h:VC len cuts dens) {i:Nat} (hi:i<dens.length):(0:Rat)≤((dens.getD i 0:Int):Rat):=xP.2 (h.den hi).1
theorem Rp (h:VC len cuts dens) {x y:Rat} (hxy:x≤y):∀ (r i:Nat),i+r=dens.length→vu cuts dens x r i≤vu cuts dens y r i
 | 0,_,_=>dP
 | r+1,i,hi=>by have l1:=h.l1;have h1:=YW h (i:=i) (by omega) hxy;have h2:=Rp h hxy r (i+1) (by omega);have h3:=uG h1 (YX h (i:=i) (by omega));unfold vu;grind
theorem YY (h:VC len cuts dens) {x y:Rat} (hxy:x≤y):vX cuts dens x≤vX cuts dens y:=Rp h hxy dens.length 0 (by omega)
theorem Kz (h:VC len cuts dens):∀ (r i:Nat) (p v q:Rat),i+r=dens.length→0<v→((cuts.getD i 0:Int):Rat)≤p→mrkS cuts dens r i p v=.ok q →
  vu cuts dens q r i-vu cuts dens p r i=v∧p<q∧q≤((cuts.getD dens.length 0:Int):Rat)∧∀ x,x<q→vu cuts dens x r i<vu cuts dens q r i
 | 0,_,_,_,_,_,_,_,e=>by cases e
 | r+1,i,p,v,q,hi,hv,hp,e=>by
  have l1:=h.l1;have hst:((cuts.getD i 0:Int):Rat)<((cuts.getD (i+1) 0:Int):Rat):=EN.2 (h.step (i:=i) (by omega));have hd:=h.den (i:=i) (by omega);have hd0:=YX h (i:=i) (by omega);have low:=fun {x y:Rat}=>Hy h r (i+1) (x:=x) (y:=y) (by omega)
  have hmon:=fun {x:Rat} (hx:x<q)=>YW h (i:=i) (by omega) (dE hx)
  have hmon2:=fun {x:Rat} (hx:x<q)=>Rp h (dE hx) r (i+1) (by omega)
  have m1:=pP p (cuts.getD i 0:Int);have m2:=pP q (cuts.getD i 0:Int);have n1:=sM (dK p (cuts.getD i 0:Int)) (cuts.getD (i+1) 0:Int);have n2:=sM (dK q (cuts.getD i 0:Int)) (cuts.getD (i+1) 0:Int);unfold mrkS at e
  by_cases c1:p<((cuts.getD (i+1) 0:Int):Rat)
  case neg=>
   rw [Sy c1] at e;obtain ⟨a1,a2,a3,a4⟩:=Kz h r (i+1) p v q (by omega) hv (uN.1 c1) e;have eq:uC cuts i q=uC cuts i p:=by unfold uC;grind
   refine ⟨by unfold vu;rw [eq];grind,a2,a3,fun x hx=>?_⟩;have b1:=a4 x hx;have b2:=uG (hmon hx) hd0;unfold vu;grind
  rw [Sz (fun k=>k c1)] at e
  by_cases c2:dens.getD i 0=0
  ·rw [Sy c2] at e;obtain ⟨a1,a2,a3,a4⟩:=Kz h r (i+1) _ v q (by omega) hv dP e;have e2:=low (x:=p) (y:=((cuts.getD (i+1) 0:Int):Rat)) (dE c1) dP;refine ⟨by unfold vu;rw [e2,c2];grind,by grind,a3,fun x hx=>?_⟩;have b1:=a4 x hx;have b2:=uG (hmon hx) hd0;unfold vu;grind
  rw [Sz c2] at e;have e:=Hz (Hz e);have dpos:(0:Rat)<((dens.getD i 0:Int):Rat):=Rat.intCast_pos.2 (by omega);have up:uC cuts i p=p:=by unfold uC;grind
  by_cases c3:(((cuts.getD (i+1) 0:Int):Rat)-p)*((dens.getD i 0:Int):Rat)<v
  ·rw [Sy c3] at e;have e:=Hz e;obtain ⟨a1,a2,a3,a4⟩:=Kz h r (i+1) _ _ q (by omega) (by grind) dP e;have e2:=low (x:=p) (y:=((cuts.getD (i+1) 0:Int):Rat)) (dE c1) dP;have uq:uC cuts i q=((cuts.getD (i+1) 0:Int):Rat):=by unfold uC;grind
   refine ⟨by unfold vu;rw [e2,up,uq];grind,by grind,a3,fun x hx=>?_⟩;have b1:=a4 x hx;have b2:=uG (hmon hx) hd0;unfold vu;grind
  ·rw [Sz c3] at e;have e:=Hz (Hz e)
   cases e
   generalize hs:v/((dens.getD i 0:Int):Rat)=s at *
   have es:s*((dens.getD i 0:Int):Rat)=v:=by rw [← hs];exact Rat.div_mul_cancel (by grind)
   have s0:0<s:=by
    refine Rat.not_le.1 fun k=>?_
    have:=xJ k hd0;grind
   have s1:p+s≤((cuts.getD (i+1) 0:Int):Rat):=by
    refine uN.1 fun k=>?_
    have:(((cuts.getD (i+1) 0:Int):Rat)-p)<s:=by grind
    have:=Cm this dpos;grind
   have uq:uC cuts i (p+s)=p+s:=by unfold uC;grind
   have e2:=low (x:=p+s) (y:=p) s1 (dE c1);have hlast:cuts.getD (i+1) 0≤cuts.getD dens.length 0:=h.mono (by omega) (by omega);have hlast:((cuts.getD (i+1) 0:Int):Rat)≤((cuts.getD dens.length 0:Int):Rat):=iT.2 hlast;refine ⟨by unfold vu;rw [e2,up,uq];grind,by grind,by grind,fun x hx=>?_⟩;have b1:=hmon2 hx;have ux:uC cuts i x<p+s:=by have k1:=pP x (cuts.getD i 0:Int);have k2:=sM (dK x (cuts.getD i 0:Int)) (cuts.getD (i+1) 0:Int);unfold uC;grind
   have b2:=HP ux dpos;unfold vu;rw [uq];grind
theorem VC.last (h:VC len cuts dens):cuts.getD dens.length 0=len:=by have l1:=h.l1;have:=h.2.2.2.2.2.2.1;rw [show dens.length=cuts.length-1 by omega];exact this
theorem KA (h:VC len cuts dens) {a v q:Rat} (h0:0≤a) (h1:a≤(len:Rat)) (hv:0≤v) (e:mrkC cuts dens a v=.ok q) :
  vX cuts dens q=vX cuts dens a+v∧a≤q∧q≤(len:Rat)∧(v=0→a=q)∧(v≠0→∀ x,x<q→vX cuts dens x<vX cuts dens q):=by
 unfold mrkC at e
 by_cases c:v=0
 ·rw [Sy c] at e
  cases e
  rw [c];exact ⟨by grind,dP,h1,fun _=>rfl,fun k=>absurd rfl k⟩
 ·rw [Sz c] at e;have c0:cuts.getD 0 0=0:=h.2.2.2.2.2.1;obtain ⟨a1,a2,a3,a4⟩:=Kz h dens.length 0 a v q (by omega) (by grind) (by rw [c0];exact h0) e;rw [h.last] at a3;exact ⟨by unfold vX;grind,dE a2,a3,fun k=>absurd k c,fun _=>a4⟩
end
def In (D:Int) (q:Rat):Prop:=∃ n:Int,q=(n:Rat)/(D:Rat)
theorem In.int {D:Int} (h:1≤D) (c:Int):In D (c:Rat):=⟨c*D,by rw [mD,Rat.mul_div_cancel (sL h)]⟩
theorem In.add {D:Int} {q r:Rat} (h:In D q) (k:In D r):In D (q+r):=by obtain ⟨n,rfl⟩:=h;obtain ⟨m,rfl⟩:=k;exact ⟨n+m,by rw [Rat.intCast_add];grind⟩
theorem In.sub {D:Int} {q r:Rat} (h:In D q) (k:In D r):In D (q-r):=by obtain ⟨n,rfl⟩:=h;obtain ⟨m,rfl⟩:=k;exact ⟨n-m,by rw [Cv];grind⟩
theorem In.mulI {D:Int} {q:Rat} (h:In D q) (d:Int):In D (q*(d:Rat)):=by obtain ⟨n,rfl⟩:=h;exact ⟨n*d,by rw [mD];grind⟩
theorem In.up {D d:Int} {q:Rat} (hD:1≤D) (hd:1≤d) (h:In D q):In (d*D) q:=by obtain ⟨n,rfl⟩:=h;have h1:=sL hD;have h2:=sL hd;refine ⟨d*n,?_⟩;rw [mD,mD];grind
theorem In.div {D d:Int} {q:Rat} (hD:1≤D) (hd:1≤d) (h:In D q):In (d*D) (q/(d:Rat)):=by obtain ⟨n,rfl⟩:=h;have h1:=sL hD;have h2:=sL hd;refine ⟨n,?_⟩;rw [mD];grind
theorem In.small {D M:Int} {q:Rat} (h:In D q) (hD:1≤D∧D≤1000000000000000000) (hM:M*D≤1000000000000000000) (h0:-(M:Rat)≤q) (h1:q≤(M:Rat)):small q:=by
 obtain ⟨n,rfl⟩:=h;have hp:(0:Rat)<(D:Rat):=Rat.intCast_pos.2 (by omega);have e:(n:Rat)/(D:Rat)*(D:Rat)=(n:Rat):=Rat.div_mul_cancel (sL hD.1);have a:=xJ h0 (dE hp);have b:=xJ h1 (dE hp);rw [e] at a b;have a':((-(M*D):Int):Rat)≤(n:Rat):=by rw [Rat.intCast_neg,mD];grind
 have b':(n:Rat)≤((M*D:Int):Rat):=by rw [mD];exact b
 have a2:=iT.1 a';have b2:=iT.1 b';exact te (d:=D) ⟨by omega,by omega⟩ ⟨by omega,by omega⟩
section
variable {len:Int} {cuts dens:List Int}
theorem tk (h:VC len cuts dens) {u:Rat} (h0:0≤u) (h1:u<(len:Rat)):∃ i,i<dens.length∧((cuts.getD i 0:Int):Rat)≤u∧u<((cuts.getD (i+1) 0:Int):Rat):=by
 have key:∀ n,n≤dens.length→u<((cuts.getD n 0:Int):Rat)→∃ i,i<n∧((cuts.getD i 0:Int):Rat)≤u∧u<((cuts.getD (i+1) 0:Int):Rat):=by
  intro n;induction n with
  | zero =>intro _ hu;have c0:cuts.getD 0 0=0:=h.2.2.2.2.2.1;rw [c0] at hu;have:u<0:=hu;grind
  | succ n ih=>
   intro hn hu
   by_cases hc:u<((cuts.getD n 0:Int):Rat)
   ·obtain ⟨i,h1,h2,h3⟩:=ih (by omega) hc;exact ⟨i,by omega,h2,h3⟩
   ·exact ⟨n,by omega,uN.1 hc,hu⟩
 obtain ⟨i,h1,h2,h3⟩:=key dens.length (bI _) (by rw [h.last];exact h1);exact ⟨i,h1,h2,h3⟩
theorem BV (h:VC len cuts dens) {i j:Nat} (hij:i≤j) (hj:j≤dens.length):((cuts.getD i 0:Int):Rat)≤((cuts.getD j 0:Int):Rat):=iT.2 (h.mono hij (by have:=h.l1;omega))
theorem YZ (h:VC len cuts dens) {i:Nat} (hi:i<dens.length) {u p:Rat} (h0:((cuts.getD i 0:Int):Rat)≤u) (h1:u≤p) (h2:p≤((cuts.getD (i+1) 0:Int):Rat)) :
  ∀ (r j:Nat),j+r=dens.length→j≤i→vu cuts dens p r j=vu cuts dens u r j+((dens.getD i 0:Int):Rat)*(p-u)
 | 0,j,hj,hji=>by omega
 | r+1,j,hj,hji=>by
  have hst:((cuts.getD j 0:Int):Rat)≤((cuts.getD (j+1) 0:Int):Rat):=BV h (Nat.le_succ j) (by omega);have m1:=pP p (cuts.getD j 0:Int);have m2:=pP u (cuts.getD j 0:Int);have n1:=sM (dK p (cuts.getD j 0:Int)) (cuts.getD (j+1) 0:Int);have n2:=sM (dK u (cuts.getD j 0:Int)) (cuts.getD (j+1) 0:Int)
  by_cases e:j=i
  ·subst e;have low:=Hy h r (j+1) (x:=p) (y:=u) (by omega) h2 (by grind);have ep:uC cuts j p=p:=by unfold uC;grind
   have eu:uC cuts j u=u:=by unfold uC;grind
   unfold vu;rw [low,ep,eu];grind
  ·have hc:((cuts.getD (j+1) 0:Int):Rat)≤((cuts.getD i 0:Int):Rat):=BV h (by omega) (by omega);have ih:=YZ h hi h0 h1 h2 r (j+1) (by omega) (by omega);have ep:uC cuts j p=uC cuts j u:=by unfold uC;grind
   unfold vu;rw [ih,ep];grind
theorem KB (h:VC len cuts dens) {i:Nat} (hi:i<dens.length) {u p:Rat} (h0:((cuts.getD i 0:Int):Rat)≤u) (h1:u≤p) (h2:p≤((cuts.getD (i+1) 0:Int):Rat)) :
 vX cuts dens p=vX cuts dens u+((dens.getD i 0:Int):Rat)*(p-u):=YZ h hi h0 h1 h2 dens.length 0 (by omega) (gV _)
def BW (dens:List Int):Prop:=∀ i,i<dens.length→0<dens.getD i 0
theorem Za (h:VC len cuts dens) (hh:BW dens) {u w:Rat} (h0:0≤u) (h1:u<w) (h2:w≤(len:Rat)):vX cuts dens u<vX cuts dens w:=by
 obtain ⟨i,i1,i2,i3⟩:=tk h h0 (by grind);have hd:(0:Rat)<((dens.getD i 0:Int):Rat):=Rat.intCast_pos.2 (hh i i1)
 by_cases hw:w≤((cuts.getD (i+1) 0:Int):Rat)
 ·have e:=KB h i1 i2 (dE h1) hw;have:=HP (show (0:Rat)<w-u by grind) hd;grind
 ·have e:=KB h i1 i2 (dE i3) dP;have:=HP (show (0:Rat)<((cuts.getD (i+1) 0:Int):Rat)-u by grind) hd;have m:=YY h (x:=((cuts.getD (i+1) 0:Int):Rat)) (y:=w) (dE (Rat.not_le.1 hw));grind
theorem Zb (h:VC len cuts dens) (hh:BW dens) {u w:Rat} (_:0≤u) (h1:u≤(len:Rat)) (k0:0≤w) (_:w≤(len:Rat)):vX cuts dens u≤vX cuts dens w↔u≤w:=by
 constructor
 ·intro hle;refine uN.1 fun hlt=>?_
  have:=Za h hh k0 hlt h1;grind
 ·exact YY h
theorem Zc (h:VC len cuts dens):∀ (r i:Nat),i+r=dens.length→vu cuts dens (len:Rat) r i-vu cuts dens ((cuts.getD i 0:Int):Rat) r i=((rem cuts dens r i:Int):Rat)
 | 0,_,_=>by unfold vu rem;show (0:Rat)-0=0;grind
 | r+1,i,hi=>by
  have ih:=Zc h r (i+1) (by omega);have hst:((cuts.getD i 0:Int):Rat)≤((cuts.getD (i+1) 0:Int):Rat):=BV h (Nat.le_succ i) (by omega);have hl:((cuts.getD (i+1) 0:Int):Rat)≤(len:Rat):=by rw [← h.last];exact BV h (by omega) (bI _)
  have low:=Hy h r (i+1) (x:=((cuts.getD i 0:Int):Rat)) (y:=((cuts.getD (i+1) 0:Int):Rat)) (by omega) hst dP;have m1:=pP (len:Rat) (cuts.getD i 0:Int);have n1:=sM (dK (len:Rat) (cuts.getD i 0:Int)) (cuts.getD (i+1) 0:Int);have m2:=pP ((cuts.getD i 0:Int):Rat) (cuts.getD i 0:Int);have n2:=sM (dK ((cuts.getD i 0:Int):Rat) (cuts.getD i 0:Int)) (cuts.getD (i+1) 0:Int);have e1:uC cuts i (len:Rat)=((cuts.getD (i+1) 0:Int):Rat):=by unfold uC;grind
  have e2:uC cuts i ((cuts.getD i 0:Int):Rat)=((cuts.getD i 0:Int):Rat):=by unfold uC;grind
  unfold vu rem;rw [e1,e2,low,Rat.intCast_add,mD,Cv,← ih];grind
theorem tl (h:VC len cuts dens):vX cuts dens (len:Rat)-vX cuts dens 0=((totC cuts dens:Int):Rat):=by have c0:cuts.getD 0 0=0:=h.2.2.2.2.2.1;have:=Zc h dens.length 0 (by omega);rw [c0] at this;unfold totC;rw [YS,show (0:Int)+rem cuts dens dens.length 0=rem cuts dens dens.length 0 by omega];exact this
theorem uA (h:VC len cuts dens):(1:Rat)≤(len:Rat)∧(len:Rat)≤1000:=by have:=h.len0;exact ⟨iT.2 this.1,iT.2 this.2⟩
theorem BX (h:VC len cuts dens) {i:Nat} (hi:i<dens.length):(0:Rat)≤((dens.getD i 0:Int):Rat)∧((dens.getD i 0:Int):Rat)≤12:=by have:=h.den hi;exact ⟨iT.2 this.1,iT.2 this.2⟩
theorem Zd {x d:Rat} (h0:0≤x) (hd:0≤d∧d≤12):0≤x*d∧x*d≤12*x:=by have a:=sZ h0 hd.1;have b:=uG hd.2 h0;exact ⟨a,by grind⟩
theorem Rq (h:VC len cuts dens) (hh:BW dens):∀ (r i:Nat) (p v:Rat),i+r=dens.length→((cuts.getD i 0:Int):Rat)≤p→p≤(len:Rat)→0<v→v≤vu cuts dens (len:Rat) r i-vu cuts dens p r i →
  (∀ e,mrkS cuts dens r i p v=.error e→e=16) ∧
  ∀ D,1≤D→D≤1000000000000→In D p→In D v→v≤12000→∃ q d,mrkS cuts dens r i p v=.ok q∧(1≤d∧d≤12)∧In (d*D) q
 | 0,i,p,v,hi,_,_,v0,v1=>by unfold vu at v1;grind
 | r+1,i,p,v,hi,hp,p1,v0,v1=>by
  have l1:=h.l1;have hl:=uA h;have hd:=BX h (i:=i) (by omega);have hd1:=hh i (by omega);have hd2:=h.den (i:=i) (by omega);have dpos:(0:Rat)<((dens.getD i 0:Int):Rat):=Rat.intCast_pos.2 hd1;have hc0:(0:Rat)≤((cuts.getD i 0:Int):Rat):=xP.2 (h.lo (by omega));have hst:((cuts.getD i 0:Int):Rat)<((cuts.getD (i+1) 0:Int):Rat):=EN.2 (h.step (i:=i) (by omega));have hc1:((cuts.getD (i+1) 0:Int):Rat)≤(len:Rat):=by rw [← h.last];exact BV h (by omega) (bI _)
  have low:=Hy h r (i+1) (x:=p) (y:=((cuts.getD (i+1) 0:Int):Rat)) (by omega);have m1:=pP p (cuts.getD i 0:Int);have m2:=pP (len:Rat) (cuts.getD i 0:Int);have n1:=sM (dK p (cuts.getD i 0:Int)) (cuts.getD (i+1) 0:Int);have n2:=sM (dK (len:Rat) (cuts.getD i 0:Int)) (cuts.getD (i+1) 0:Int);have el:uC cuts i (len:Rat)=((cuts.getD (i+1) 0:Int):Rat):=by unfold uC;grind
  unfold vu at v1;rw [el] at v1;unfold mrkS
  by_cases c1:p<((cuts.getD (i+1) 0:Int):Rat)
  case neg=>
   rw [Sy c1];have ep:uC cuts i p=((cuts.getD (i+1) 0:Int):Rat):=by unfold uC;grind
   rw [ep] at v1;exact Rq h hh r (i+1) p v (by omega) (uN.1 c1) p1 v0 (by grind)
  rw [Sz (fun k=>k c1),Sz (by omega)];have ep:uC cuts i p=p:=by unfold uC;grind
  rw [ep,low (dE c1) dP] at v1;have fe:∀ {e:Int} {q:Rat} {k:Rat→Except Int Rat},jY q k=.error e→e=16∨k q=.error e:=by
   intro e q k hf;unfold jY at hf;split at hf
   ·exact .inr hf
   ·cases hf;exact .inl rfl
  have m:=Zd (x:=((cuts.getD (i+1) 0:Int):Rat)-p) (by grind) hd
  by_cases c3:(((cuts.getD (i+1) 0:Int):Rat)-p)*((dens.getD i 0:Int):Rat)<v
  ·have ih:=Rq h hh r (i+1) ((cuts.getD (i+1) 0:Int):Rat) (v-(((cuts.getD (i+1) 0:Int):Rat)-p)*((dens.getD i 0:Int):Rat)) (by omega) dP hc1 (by grind) (by grind);refine ⟨fun e he=>?_,fun D D1 D2 hpD hvD hv=>?_⟩
   ·rcases fe he with he | he
    ·exact he
    rcases fe he with he|he
    ·exact he
    rw [Sy c3] at he;rcases fe he with he | he
    ·exact he
    exact ih.1 e he
   ·have i1:=(In.int D1 (cuts.getD (i+1) 0)).sub hpD;have i2:=i1.mulI (dens.getD i 0);have i3:=hvD.sub i2;rw [BT (i1.small (M:=1000) ⟨by omega,by omega⟩ (by omega) (by show -(1000:Rat)≤_;grind) (by show _≤(1000:Rat);grind)),
     BT (i2.small (M:=12000) ⟨by omega,by omega⟩ (by omega) (by show -(12000:Rat)≤_;grind) (by show _≤(12000:Rat);grind)),Sy c3,
     BT (i3.small (M:=12000) ⟨by omega,by omega⟩ (by omega) (by show -(12000:Rat)≤_;grind) (by show _≤(12000:Rat);grind))]
    exact ih.2 D D1 D2 (In.int D1 _) i3 (by grind)
  ·refine ⟨fun e he=>?_,fun D D1 D2 hpD hvD hv=>?_⟩
   ·rcases fe he with he | he
    ·exact he
    rcases fe he with he|he
    ·exact he
    rw [Sz c3] at he;rcases fe he with he | he
    ·exact he
    rcases fe he with he|he
    ·exact he
    cases he
   ·have i1:=(In.int D1 (cuts.getD (i+1) 0)).sub hpD;have i2:=i1.mulI (dens.getD i 0);have i3:=hvD.div D1 (d:=dens.getD i 0) (by omega);have i4:=(hpD.up D1 (d:=dens.getD i 0) (by omega)).add i3;have hDD:dens.getD i 0*D≤12*D:=Ah hd2.2 (by omega);have hDD1:1*1≤dens.getD i 0*D:=lO (by omega) D1 (by omega) (by omega);generalize hs:v/((dens.getD i 0:Int):Rat)=s at *
    have es:s*((dens.getD i 0:Int):Rat)=v:=by rw [← hs];exact Rat.div_mul_cancel (by grind)
    have s0:0≤s:=by
     refine uN.1 fun k=>?_
     have:=Cm k dpos;grind
    have s1:p+s≤((cuts.getD (i+1) 0:Int):Rat):=by
     refine uN.1 fun k=>?_
     have:(((cuts.getD (i+1) 0:Int):Rat)-p)<s:=by grind
     have:=Cm this dpos;grind
    rw [BT (i1.small (M:=1000) ⟨by omega,by omega⟩ (by omega) (by show -(1000:Rat)≤_;grind) (by show _≤(1000:Rat);grind)),
     BT (i2.small (M:=12000) ⟨by omega,by omega⟩ (by omega) (by show -(12000:Rat)≤_;grind) (by show _≤(12000:Rat);grind)),Sz c3,
     BT (i3.small (M:=1000) ⟨by omega,by omega⟩ (by omega) (by show -(1000:Rat)≤_;grind) (by show _≤(1000:Rat);grind)),
     BT (i4.small (M:=1000) ⟨by omega,by omega⟩ (by omega) (by show -(1000:Rat)≤_;grind) (by show _≤(1000:Rat);grind))]
    exact ⟨_,dens.getD i 0,rfl,⟨by omega,hd2.2⟩,i4⟩
theorem tn (h:VC len cuts dens) (hh:BW dens) {p v:Rat} (p0:0≤p) (p1:p≤(len:Rat)) (v0:0<v) (hv:v≤vX cuts dens (len:Rat)-vX cuts dens p) :
  (∀ e,mrkC cuts dens p v=.error e→e=16) ∧
  ∀ D,1≤D→D≤1000000000000→In D p→In D v→v≤12000→∃ q d,mrkC cuts dens p v=.ok q∧(1≤d∧d≤12)∧In (d*D) q:=by
 have c0:cuts.getD 0 0=0:=h.2.2.2.2.2.1;unfold mrkC;rw [Sz (by grind)];exact Rq h hh dens.length 0 p v (by omega) (by rw [c0];exact p0) p1 v0 hv
end
def upC (c:Ck):Nat→Int
 | 0=>0
 | i+1=>upC c i+c.dens.getD i 0*(c.cuts.getD (i+1) 0-c.cuts.getD i 0)
def aF (c:Ck) (i:Nat):Rat:=((c.cuts.getD i 0:Int):Rat)
def aM (c:Ck) (i:Nat):Rat:=((c.dens.getD i 0:Int):Rat)
def cV (c:Ck) (i:Nat):Rat:=((upC c i:Int):Rat)
def iS (c:Ck) (x:Rat):Rat:=vX c.cuts c.dens x
def bJ (c:Ck):Rat:=((totC c.cuts c.dens:Int):Rat)
def cT (L:Int) (c:Ck):Prop:=VC L c.cuts c.dens∧BW c.dens
theorem KC (c:Ck) (i:Nat):cV c (i+1)=cV c i+aM c i*(aF c (i+1)-aF c i):=by unfold cV aF aM;rw [upC,Rat.intCast_add,mD,Cv]
theorem HA {L:Int} {c:Ck} (h:cT L c) {i:Nat} (hi:i<c.dens.length):aF c i<aF c (i+1):=by have:=h.1.l1;exact EN.2 (h.1.step (i:=i) (by omega))
theorem BY {L:Int} {c:Ck} (h:cT L c):aF c 0=0:=by unfold aF;rw [h.1.2.2.2.2.2.1];rfl
theorem Rr {L:Int} {c:Ck} (h:cT L c):aF c c.dens.length=(L:Rat):=by unfold aF;rw [h.1.last]
theorem Ae {L:Int} {c:Ck} (h:cT L c) {i:Nat} (hi:i≤c.dens.length):0≤aF c i:=by have:=BV h.1 (gV i) hi;have h0:=BY h;unfold aF at h0 ⊢;rw [h0] at this;exact this
theorem uB {L:Int} {c:Ck} (h:cT L c) {i:Nat} (hi:i≤c.dens.length):aF c i≤(L:Rat):=by have:=BV h.1 hi (bI _);have h0:=Rr h;unfold aF at h0 ⊢;rw [h0] at this;exact this
theorem den_pos {L:Int} {c:Ck} (h:cT L c) {i:Nat} (hi:i<c.dens.length):0<aM c i:=Rat.intCast_pos.2 (h.2 i hi)
theorem Rs {L:Int} {c:Ck} (h:cT L c):∀ i,i≤c.dens.length→iS c (aF c i)=iS c 0+cV c i
 | 0,_=>by rw [BY h];show _=_+((0:Int):Rat);grind
 | i+1,hi=>by have ih:=Rs h i (by omega);have e:=KB h.1 (i:=i) (by omega) (u:=aF c i) (p:=aF c (i+1)) dP (dE (HA h (by omega))) dP;have e':iS c (aF c (i+1))=iS c (aF c i)+aM c i*(aF c (i+1)-aF c i):=e;rw [e',ih,KC];grind
theorem Ze {L:Int} {c:Ck} (h:cT L c) {i:Nat} (hi:i<c.dens.length) {y:Rat} (h0:aF c i≤y) (h1:y≤aF c (i+1)):iS c y=iS c 0+cV c i+aM c i*(y-aF c i):=by have e:iS c y=iS c (aF c i)+aM c i*(y-aF c i):=KB h.1 hi dP h0 h1;rw [e,Rs h i (by omega)]
theorem Zf {L:Int} {c:Ck} (h:cT L c):iS c (L:Rat)=iS c 0+bJ c:=by have:=tl h.1;unfold iS bJ;grind
theorem oD {L:Int} {c:Ck} (h:cT L c):0<bJ c:=by have h1:=(uA h.1).1;have e:iS c 0<iS c (L:Rat):=Za h.1 h.2 dP (by grind) dP;have:=Zf h;grind
structure Ln where
 A:Rat
 B:Rat
def Ln.p (x:Ln) (q:Rat):Rat:=x.A+x.B*q
def cF (c:Ck) (f t:Nat) (x:Ln):Ln:=⟨((x.A-aF c f)*aM c f+(cV c f-cV c t))/aM c t+aF c t,(x.B*aM c f+bJ c)/aM c t⟩
def wh (x:Ln) (n:Rat):Rat:=(n-x.A)/x.B
theorem rtri (a b:Rat):a<b∨a=b∨b<a:=by
 by_cases h:a<b
 ·exact .inl h
 ·by_cases k:b<a
  ·exact .inr (.inr k)
  ·exact .inr (.inl (by grind))
theorem jG {a b:Rat} (h:b≠0):a/b*b=a:=by rw [Rat.div_def,Rat.mul_assoc,Rat.inv_mul_cancel b h,Rat.mul_one]
theorem KD {c:Ck} {f t:Nat} {x:Ln} (h:0<aM c t) (q:Rat):aM c t*((cF c f t x).p q-aF c t)+cV c t=aM c f*(x.p q-aF c f)+cV c f+q*bJ c:=by
 have h0:aM c t≠0:=by grind
 have e1:=jG (a:=(x.A-aF c f)*aM c f+(cV c f-cV c t)) h0;have e2:=jG (a:=x.B*aM c f+bJ c) h0;unfold Ln.p cF;simp only;generalize ((x.A-aF c f)*aM c f+(cV c f-cV c t))/aM c t=u at *
 generalize (x.B*aM c f+bJ c)/aM c t=v at *
 grind
theorem tq {a b:Rat} (h:0<b) (ha:0<a):0<a/b:=by rw [Rat.div_def];exact Rat.mul_pos ha (Rat.inv_pos.2 h)
theorem ED {c:Ck} {f t:Nat} {x:Ln} (h:0<aM c t) (hf:0<aM c f) (hT:0<bJ c) (hB:0≤x.B):0<(cF c f t x).B:=by have:=sZ hB (dE hf);exact tq h (by grind)
theorem mA {x:Ln} (h:0<x.B) (n:Rat):x.p (wh x n)=n:=by
 have e:=jG (a:=n-x.A) (b:=x.B) (by grind);unfold Ln.p wh;generalize (n-x.A)/x.B=u at *
 grind
theorem BZ {x:Ln} (h:0≤x.B) {q r:Rat} (hq:q≤r):x.p q≤x.p r:=by have:=uG hq h;unfold Ln.p;grind
theorem xD {x:Ln} (h:0<x.B) {q r:Rat} (hq:q<r):x.p q<x.p r:=by have:=HP hq h;unfold Ln.p;grind
theorem Zg {x:Ln} (h:0<x.B) {q n:Rat} (hq:q≤wh x n):x.p q≤n:=by have:=BZ (dE h) hq;rw [mA h] at this;exact this
theorem KE {x:Ln} (h:0<x.B) {q n:Rat}:wh x n=q↔x.p q=n:=by
 constructor
 ·intro e;rw [← e,mA h]
 ·intro e;rcases rtri (wh x n) q with k | k | k
  ·have:=xD h k;rw [mA h] at this;grind
  ·exact k
  ·have:=xD h k;rw [mA h] at this;grind
theorem Rt {x:Ln} (h:0<x.B) {q n:Rat} (hq:x.p q<n):q<wh x n:=by
 rcases rtri (wh x n) q with k|k|k
 ·have:=xD h k;rw [mA h] at this;grind
 ·have:=mA h n;rw [k] at this;grind
 ·exact k
abbrev Sq:=Ck×Nat×Nat
def aR (s:Sq) (x:Ln):Ln:=cF s.1 s.2.1 s.2.2 x
def mB:List Sq→Ln→Ln
 | [],x=>x
 | s::S,x=>mB S (aR s x)
def gO (L:Int):List Sq→Ln→Rat→Prop
 | [],_,_=>True
 | s::S,x,q=>cT L s.1∧s.2.1<s.1.dens.length∧s.2.2<s.1.dens.length∧aF s.1 s.2.1≤x.p q∧x.p q<aF s.1 (s.2.1+1)∧aF s.1 s.2.2≤(aR s x).p q∧(aR s x).p q<aF s.1 (s.2.2+1)∧gO L S (aR s x) q
def qR (L:Int):List Sq→Ln→Rat→Prop
 | [],_,_=>True
 | s::S,x,q=>cT L s.1∧s.2.1<s.1.dens.length∧s.2.2<s.1.dens.length∧aF s.1 s.2.1≤x.p q∧x.p q≤aF s.1 (s.2.1+1)∧aF s.1 s.2.2≤(aR s x).p q∧(aR s x).p q≤aF s.1 (s.2.2+1)∧qR L S (aR s x) q
def jZ:List Sq→Ln→Bool→List Rat
 | [],_,_=>[]
 | s::S,x,b=>(if b then [wh x (aF s.1 (s.2.1+1))] else [])++wh (aR s x) (aF s.1 (s.2.2+1))::jZ S (aR s x) true
def kA (q:Rat):List Sq→Ln→Bool→List Sq
 | [],_,_=>[]
 | s::S,x,b=>(s.1,s.2.1+(if b=true∧wh x (aF s.1 (s.2.1+1))=q then 1 else 0),s.2.2+(if wh (aR s x) (aF s.1 (s.2.2+1))=q then 1 else 0))::kA q S (aR s x) true
def Ch (L:Int):List Ck→Rat→Rat→List Rat→Prop
 | [],_,_,ys=>ys=[]
 | c::cs,p,q,ys=>∃ y r,ys=y::r∧p≤y∧y≤(L:Rat)∧iS c y=iS c p+q*bJ c∧Ch L cs y q r
def Ca:List Sq→Ln→Rat→List Rat
 | [],_,_=>[]
 | s::S,x,q=>(aR s x).p q::Ca S (aR s x) q
theorem Zh {L:Int} {s:Sq} {x:Ln} {q:Rat} (h:cT L s.1) (h1:s.2.1<s.1.dens.length) (h2:s.2.2<s.1.dens.length) (a:aF s.1 s.2.1≤x.p q) (b:x.p q≤aF s.1 (s.2.1+1)) (c:aF s.1 s.2.2≤(aR s x).p q) (d:(aR s x).p q≤aF s.1 (s.2.2+1)) :
  iS s.1 ((aR s x).p q)=iS s.1 (x.p q)+q*bJ s.1:=by
 rw [Ze h h2 c d,Ze h h1 a b];have:=KD (x:=x) (c:=s.1) (f:=s.2.1) (t:=s.2.2) (den_pos h h2) q;unfold aR;grind
theorem Zi {L:Int} {c:Ck} (h:cT L c) {p y q:Rat} (p0:0≤p) (p1:p≤(L:Rat)) (y0:0≤y) (y1:y≤(L:Rat)) (hq:0≤q) (e:iS c y=iS c p+q*bJ c):p≤y:=by have:=sZ hq (dE (oD h));exact (Zb h.1 h.2 p0 p1 y0 y1).1 (by unfold iS at e;grind)
theorem qR.ch {L:Int} {q:Rat} (hq:0≤q):∀ {S:List Sq} {x:Ln},qR L S x q→Ch L (S.map (·.1)) (x.p q) q (Ca S x q)
 | [],_,_=>rfl
 | s::S,x,⟨h,h1,h2,a,b,c,d,hr⟩=>by have e:=Zh h h1 h2 a b c d;have k1:=Ae h (i:=s.2.1) (by omega);have k2:=Ae h (i:=s.2.2) (by omega);have k3:=uB h (i:=s.2.1+1) (by omega);have k4:=uB h (i:=s.2.2+1) (by omega);exact ⟨_,_,rfl,Zi h (cY k1 a) (cY b k3) (cY k2 c) (cY d k4) hq e,cY d k4,e,qR.ch hq hr⟩
theorem qR.le_last {L:Int} {q:Rat} (hq:0≤q):∀ {S:List Sq} {x:Ln},qR L S x q→x.p q≤(mB S x).p q
 | [],_,_=>dP
 | s::S,x,⟨h,h1,h2,a,b,c,d,hr⟩=>by have e:=Zh h h1 h2 a b c d;have k1:=Ae h (i:=s.2.1) (by omega);have k2:=Ae h (i:=s.2.2) (by omega);have k3:=uB h (i:=s.2.1+1) (by omega);have k4:=uB h (i:=s.2.2+1) (by omega);exact cY (Zi h (cY k1 a) (cY b k3) (cY k2 c) (cY d k4) hq e) (qR.le_last hq hr)
theorem Zj {L:Int} {q0 q:Rat} (hq:q0≤q):∀ {S:List Sq} {x:Ln} {b:Bool},gO L S x q0→(∀ w∈jZ S x b,q≤w)→(b=true→0<x.B)→(b=false→x.B=0)→qR L S x q
 | [],_,_,_,_,_,_=>trivial
 | s::S,x,b,⟨h,h1,h2,a1,a2,a3,a4,hr⟩,hw,hb,hn=>by
  have hB:0≤x.B:=by cases b<;>grind
  have hB':0<(aR s x).B:=ED (den_pos h h2) (den_pos h h1) (oD h) hB;refine ⟨h,h1,h2,cY a1 (BZ hB hq),?_,cY a3 (BZ (dE hB') hq),Zg hB' (hw _ (by simp [jZ])),Zj hq hr (fun w k=>hw w (by simp only [jZ,qAw,qAp];exact Or.inr (Or.inr k))) (fun _=>hB') (fun k=>by cases k)⟩
  cases b with
  | true=>exact Zg (hb rfl) (hw _ (by simp [jZ]))
  | false=>
   have:=hn rfl;have e:x.p q=x.p q0:=by unfold Ln.p;rw [this];grind
   rw [e];exact dE a2
theorem tt {L:Int} {c:Ck} {f t f' t':Nat} {x x':Ln} {q:Rat} (h:cT L c) (ht:t<c.dens.length) (ht':t'<c.dens.length) (hx:x'.p q=x.p q)
  (hf:f'=f∨(f'=f+1∧x.p q=aF c (f+1))) (hg:t'=t∨(t'=t+1∧(cF c f t x).p q=aF c (t+1))):(cF c f' t' x').p q=(cF c f t x).p q:=by
 have e1:=KD (x:=x) (c:=c) (f:=f) (t:=t) (den_pos h ht) q;have e2:=KD (x:=x') (c:=c) (f:=f') (t:=t') (den_pos h ht') q;have hd:=den_pos h ht';have u1:=KC c f;have u2:=KC c t;have ef:aM c f'*(x'.p q-aF c f')+cV c f'=aM c f*(x.p q-aF c f)+cV c f:=by
  rcases hf with rfl|⟨rfl,k⟩
  ·rw [hx]
  ·rw [hx,k,u1];grind
 have et:aM c t'*((cF c f t x).p q-aF c t')+cV c t'=aM c t*((cF c f t x).p q-aF c t)+cV c t:=by
  rcases hg with rfl|⟨rfl,k⟩
  ·rfl
  ·rw [k,u2];grind
 have e3:aM c t'*((cF c f' t' x').p q-(cF c f t x).p q)=0:=by grind
 rcases Rat.mul_eq_zero.1 e3 with k|k
 ·grind
 ·grind
theorem Zk {L:Int} {q:Rat} (hq:0≤q):∀ {S:List Sq} {x x':Ln} {b:Bool},qR L S x q→x'.p q=x.p q→(b=true→0<x.B)→(b=false→x.B=0∧∀ s r,S=s::r→x.p q<aF s.1 (s.2.1+1))→(mB S x).p q<(L:Rat)→gO L (kA q S x b) x' q∧(mB (kA q S x b) x').p q=(mB S x).p q
 | [],_,_,_,_,hx,_,_,_=>⟨trivial,hx⟩
 | s::S,x,x',b,⟨h,h1,h2,a1,a2,a3,a4,hr⟩,hx,hb,hn,hl=>by
  have hB:0≤x.B:=by cases b<;>grind
  have hB':0<(aR s x).B:=ED (den_pos h h2) (den_pos h h1) (oD h) hB;have m1:=qR.le_last hq (S:=s::S) ⟨h,h1,h2,a1,a2,a3,a4,hr⟩;have m2:=qR.le_last hq hr;have kl:=Rr h;have hl':(mB S (aR s x)).p q<(L:Rat):=hl;have m1':x.p q≤(mB S (aR s x)).p q:=m1;have hf:∃ f',f'=s.2.1+(if b=true∧wh x (aF s.1 (s.2.1+1))=q then 1 else 0)∧f'<s.1.dens.length∧aF s.1 f'≤x.p q∧x.p q<aF s.1 (f'+1)∧(f'=s.2.1∨(f'=s.2.1+1∧x.p q=aF s.1 (s.2.1+1))):=by
   by_cases k:b=true∧wh x (aF s.1 (s.2.1+1))=q
   ·have e:=(KE (hb k.1)).1 k.2;have hne:s.2.1+1≠s.1.dens.length:=fun k'=>by rw [k',kl] at e;grind
    refine ⟨_,rfl,?_⟩;rw [Sy k];have st:=HA h (i:=s.2.1+1) (by omega);exact ⟨by omega,by grind,by grind,Or.inr ⟨rfl,e⟩⟩
   ·refine ⟨_,rfl,?_⟩;rw [Sz k];refine ⟨h1,a1,?_,Or.inl rfl⟩
    cases b with
    | true=>
     have:¬x.p q=aF s.1 (s.2.1+1):=fun k'=>k ⟨rfl,(KE (hb rfl)).2 k'⟩
     show x.p q<aF s.1 (s.2.1+1);grind
    | false=>exact (hn rfl).2 _ _ rfl
  have ht:∃ t',t'=s.2.2+(if wh (aR s x) (aF s.1 (s.2.2+1))=q then 1 else 0)∧t'<s.1.dens.length∧aF s.1 t'≤(aR s x).p q∧(aR s x).p q<aF s.1 (t'+1)∧(t'=s.2.2∨(t'=s.2.2+1∧(aR s x).p q=aF s.1 (s.2.2+1))):=by
   by_cases k:wh (aR s x) (aF s.1 (s.2.2+1))=q
   ·have e:=(KE hB').1 k;have hne:s.2.2+1≠s.1.dens.length:=fun k'=>by rw [k',kl] at e;grind
    refine ⟨_,rfl,?_⟩;rw [Sy k];have st:=HA h (i:=s.2.2+1) (by omega);exact ⟨by omega,by grind,by grind,Or.inr ⟨rfl,e⟩⟩
   ·refine ⟨_,rfl,?_⟩;rw [Sz k];have:¬(aR s x).p q=aF s.1 (s.2.2+1):=fun k'=>k ((KE hB').2 k')
    exact ⟨h2,a3,by show _<aF s.1 (s.2.2+1);grind,Or.inl rfl⟩
  obtain ⟨f',ef,f1,f2,f3,f4⟩:=hf;obtain ⟨t',et,t1,t2,t3,t4⟩:=ht;have ee:(cF s.1 f' t' x').p q=(aR s x).p q:=tt h h2 t1 hx f4 t4;obtain ⟨r1,r2⟩:=Zk hq (S:=S) (x:=aR s x) (x':=cF s.1 f' t' x') (b:=true) hr ee (fun _=>hB') (fun k=>by cases k) hl';simp only [kA,← ef,← et];refine ⟨⟨h,f1,t1,by rw [hx];exact f2,by rw [hx];exact f3,?_,?_,r1⟩,r2⟩
  ·show aF s.1 t'≤(cF s.1 f' t' x').p q;rw [ee];exact t2
  ·show (cF s.1 f' t' x').p q<aF s.1 (t'+1);rw [ee];exact t3
def mnS (q:Rat):List Rat→Rat
 | []=>q
 | r::l=>mnS (if r<q then r else q) l
theorem Zl:∀ (l:List Rat) (q:Rat),mnS q l≤q∧∀ w∈l,mnS q l≤w
 | [],_=>⟨dP,fun _ h=>by cases h⟩
 | r::l,q=>by
  obtain ⟨h1,h2⟩:=Zl l (if r<q then r else q);have e:(if r<q then r else q)≤q∧(if r<q then r else q)≤r:=by split<;>grind
  refine ⟨cY h1 e.1,fun w hw=>?_⟩;rcases qAp.1 hw with rfl | hw
  ·exact cY h1 e.2
  ·exact h2 w hw
theorem yBK:∀ (l:List Rat) (q:Rat),mnS q l=q∨mnS q l∈l
 | [],_=>Or.inl rfl
 | r::l,q=>by
  rcases yBK l (if r<q then r else q) with h|h
  ·by_cases c:r<q
   ·exact Or.inr (by rw [mnS,h,Sy c];exact gT ..)
   ·exact Or.inl (by rw [mnS,h,Sz c])
  ·exact Or.inr (fH _ h)
theorem Zm {a:Rat}:∀ {l:List Rat} {q:Rat},a<q→(∀ w∈l,a<w)→a<mnS q l
 | [],_,h,_=>h
 | r::l,q,h,k=>Zm (l:=l) (by have:=k r (gT ..);split<;>assumption) (fun w hw=>k w (fH _ hw))
def fS:List Sq→Nat
 | []=>0
 | s::S=>s.2.1+s.2.2+fS S
def kB:List Sq→Nat
 | []=>0
 | s::S=>s.1.dens.length+s.1.dens.length+kB S
theorem gO.pos {L:Int} {q:Rat}:∀ {S:List Sq} {x:Ln},gO L S x q→fS S≤kB S
 | [],_,_=>bI _
 | _::_,_,⟨_,b,c,_,_,_,_,h⟩=>by have:=gO.pos h;show _+_+fS _≤_+_+kB _;omega
theorem Zn (q:Rat):∀ (S:List Sq) (x:Ln) (b:Bool),kB (kA q S x b)=kB S
 | [],_,_=>rfl
 | s::S,x,b=>by show _+_+kB (kA q S _ true)=_+_+kB S;rw [Zn q S]
theorem HC (q:Rat):∀ (S:List Sq) (x:Ln) (b:Bool),(kA q S x b).map (·.1)=S.map (·.1)
 | [],_,_=>rfl
 | s::S,x,b=>by show s.1::(kA q S _ true).map (·.1)=s.1::S.map (·.1);rw [HC q S]
theorem Zo (q:Rat):∀ (S:List Sq) (x:Ln) (b:Bool),fS S≤fS (kA q S x b)∧(q∈jZ S x b→fS S<fS (kA q S x b))
 | [],_,_=>⟨bI _,fun h=>by cases h⟩
 | s::S,x,b=>by
  obtain ⟨h1,h2⟩:=Zo q S (aR s x) true;have e:fS (kA q (s::S) x b)=(s.2.1+(if b=true∧wh x (aF s.1 (s.2.1+1))=q then 1 else 0))+(s.2.2+(if wh (aR s x) (aF s.1 (s.2.2+1))=q then 1 else 0))+fS (kA q S (aR s x) true):=rfl;have e2:fS (s::S)=s.2.1+s.2.2+fS S:=rfl;rw [e,e2];refine ⟨by omega,fun h=>?_⟩;simp only [jZ,qAw,qAp] at h;rcases h with h | h | h
  ·cases b with
   | false=>cases h
   | true=>
    have h':q=wh x (aF s.1 (s.2.1+1)):=by simpa using h
    rw [Sy (⟨rfl,h'.symm⟩:true=true∧_)];omega
  ·rw [Sy h.symm];omega
  ·have:=h2 h;omega
theorem Zp {L:Int} {q:Rat}:∀ {S:List Sq} {x:Ln} {b:Bool},gO L S x q→(b=true→0<x.B)→(b=false→x.B=0)→∀ w∈jZ S x b,q<w
 | [],_,_,_,_,_,_,hw=>by cases hw
 | s::S,x,b,⟨h,h1,h2,a1,a2,a3,a4,hr⟩,hb,hn,w,hw=>by
  have hB:0≤x.B:=by cases b<;>grind
  have hB':0<(aR s x).B:=ED (den_pos h h2) (den_pos h h1) (oD h) hB;simp only [jZ,qAw,qAp] at hw;rcases hw with hw | hw | hw
  ·cases b with
   | false=>cases hw
   | true=>
    have h':w=wh x (aF s.1 (s.2.1+1)):=by simpa using hw
    rw [h'];exact Rt (hb rfl) a2
  ·rw [hw];exact Rt hB' a4
  ·exact Zp hr (fun _=>hB') (fun k=>by cases k) w hw
theorem Zq {L:Int} {q:Rat}:∀ {S:List Sq} {x:Ln},gO L S x q→S≠[]→0≤x.B→(mB S x).p q<(L:Rat)∧0<(mB S x).B
 | [],_,_,h,_=>absurd rfl h
 | [s],x,⟨h,h1,h2,a1,a2,a3,a4,hr⟩,_,hB=>⟨by have:=uB h (i:=s.2.2+1) (by omega);show (aR s x).p q<_;grind,ED (den_pos h h2) (den_pos h h1) (oD h) hB⟩
 | s::s'::S,x,⟨h,h1,h2,a1,a2,a3,a4,hr⟩,_,hB=>Zq (S:=s'::S) hr (by simp) (dE (ED (den_pos h h2) (den_pos h h1) (oD h) hB))
def fK:Ln:=⟨0,0⟩
theorem Cb (q:Rat):fK.p q=0:=by unfold fK Ln.p;grind
def RI (L:Int) (S:List Sq) (q:Rat):Prop:=gO L S fK q∧0≤q∧S≠[]
def FinS (L:Int) (cs:List Ck) (q:Rat):Prop:=0<q∧∃ ys,Ch L cs 0 q ys∧ys.getLast?=some (L:Rat)
theorem Zr {q:Rat}:∀ {S:List Sq} {x:Ln},S≠[]→(Ca S x q).getLast?=some ((mB S x).p q)
 | [],_,h=>absurd rfl h
 | [_],_,_=>rfl
 | s::s'::S,x,_=>by have:=Zr (q:=q) (S:=s'::S) (x:=aR s x) (by simp);show ((aR s x).p q::Ca (s'::S) (aR s x) q).getLast?=_;rw [show Ca (s'::S) (aR s x) q=(aR s' (aR s x)).p q::Ca S (aR s' (aR s x)) q from rfl] at this ⊢;rw [List.getLast?_cons_cons,this];rfl
def kC (L:Int) (S:List Sq):Rat:=wh (mB S fK) (L:Rat)
def eK (L:Int) (S:List Sq):Rat:=mnS (kC L S) (jZ S fK false)
theorem round {L:Int} {S:List Sq} {q0:Rat} (h:RI L S q0):(eK L S=kC L S→FinS L (S.map (·.1)) (eK L S)) ∧
  (eK L S≠kC L S→RI L (kA (eK L S) S fK false) (eK L S)∧fS S<fS (kA (eK L S) S fK false)):=by
 obtain ⟨hi,h0,hn⟩:=h;have hz:fK.B=0:=rfl;obtain ⟨l1,l2⟩:=Zq hi hn (by rw [hz];exact dP);have k1:q0<eK L S:=Zm (Rt l2 l1) (Zp hi (fun k=>by cases k) (fun _=>hz));obtain ⟨m1,m2⟩:=Zl (jZ S fK false) (kC L S);have k2:qR L S fK (eK L S):=Zj (dE k1) hi m2 (fun k=>by cases k) (fun _=>hz);have kp:0<eK L S:=by grind
 refine ⟨fun e=>⟨kp,Ca S fK (eK L S),?_,?_⟩,fun e=>?_⟩
 ·have:=k2.ch (dE kp);rw [Cb] at this;exact this
 ·rw [Zr hn,e];exact Aaa some (mA l2 _)
 ·have k3:eK L S<kC L S:=by have:eK L S≤kC L S:=m1;grind
  have k4:(mB S fK).p (eK L S)<(L:Rat):=by have:=xD l2 k3;rw [kC,mA l2] at this;exact this
  obtain ⟨r1,_⟩:=Zk (dE kp) (x':=fK) (b:=false) k2 rfl (fun k=>by cases k) (fun _=>⟨rfl,fun s r e=>by
   subst e;obtain ⟨h,h1,_,_,a2,_⟩:=hi;rw [Cb] at a2 ⊢;exact a2⟩) k4
  refine ⟨⟨r1,dE kp,?_⟩,(Zo _ S fK false).2 ?_⟩
  ·cases S with
   | nil=>exact absurd rfl hn
   | cons s S=>intro k;cases k
  ·rcases yBK (jZ S fK false) (kC L S) with k | k
   ·exact absurd k e
   ·exact k
theorem Ru {u M d:Rat} (h0:-M≤u) (h1:u≤M) (d0:0≤d) (d1:d≤12) (hM:0≤M):-(12*M)≤u*d∧u*d≤12*M:=by have a:=xJ h1 d0;have b:=xJ h0 d0;have c:=uG d1 hM;constructor<;>grind
theorem tu {u M d E:Rat} (h0:-M≤u) (h1:u≤M) (d0:0≤d) (d1:d≤E) (hM:0≤M):-(E*M)≤u*d∧u*d≤E*M:=by have a:=xJ h1 d0;have b:=xJ h0 d0;have c:=uG d1 hM;constructor<;>grind
theorem KF {u M d:Rat} (h0:-M≤u) (h1:u≤M) (hd:1≤d) (hM:0≤M):-M≤u/d∧u/d≤M:=by
 have e:=jG (a:=u) (b:=d) (by grind);have c:=uG hd hM;generalize u/d=v at *
 constructor
 ·refine uN.1 fun k=>?_
  have:=Cm k (show (0:Rat)<d by grind);grind
 ·refine uN.1 fun k=>?_
  have:=Cm k (show (0:Rat)<d by grind);grind
theorem Zs {L:Int} {c:Ck} (h:cT L c):∀ i,i≤c.dens.length→0≤cV c i∧cV c i≤12*aF c i
 | 0,_=>by have:cV c 0=0:=rfl;rw [this,BY h];constructor<;>grind
 | i+1,hi=>by obtain ⟨a,b⟩:=Zs h i (by omega);have s:=HA h (i:=i) (by omega);have d:=BX h.1 (i:=i) (by omega);have d1:aM c i≤12:=d.2;have d0:0≤aM c i:=d.1;have m:=Zd (x:=aF c (i+1)-aF c i) (by grind) ⟨d0,d1⟩;rw [KC,Rat.mul_comm (aM c i)];constructor<;>grind
theorem HD {L:Int} {c:Ck} (h:cT L c) {i:Nat} (hi:i≤c.dens.length):0≤cV c i∧cV c i≤12000:=by have a:=Zs h i hi;have b:=uB h hi;have e:=(uA h.1).2;exact ⟨a.1,by grind⟩
def Bk:Nat→Int
 | 0=>0
 | k+1=>12*Bk k+12000*12 ^ k
def Mk:Nat→Int
 | 0=>0
 | k+1=>12*Mk k+25000
theorem Zt:∀ k,0≤Mk k
 | 0=>Int.le_refl _
 | k+1=>by have:=Zt k;show 0≤12*Mk k+25000;omega
def LB (k:Nat) (x:Ln):Prop:=∃ F b:Int,1≤F∧F≤12 ^ k∧In F x.A∧x.B=(b:Rat)/(F:Rat)∧0≤b∧b≤Bk k∧-((Mk k:Int):Rat)≤x.A∧x.A≤((Mk k:Int):Rat)
theorem Zu:LB 0 fK:=⟨1,0,by decide,by decide,⟨0,by decide +kernel⟩,by decide +kernel,by decide,by decide,by decide +kernel,by decide +kernel⟩
theorem KG {L:Int} {c:Ck} (h:cT L c) {i:Nat} (hi:i<c.dens.length):1≤c.dens.getD i 0∧c.dens.getD i 0≤12:=⟨h.2 i hi,(h.1.den hi).2⟩
theorem Zv {L:Int} {c:Ck} (h:cT L c):0≤totC c.cuts c.dens∧totC c.cuts c.dens≤12000:=by have:=Rl h.1;omega
theorem Zw {a b c d:Rat} (hb:b≠0) (hd:d≠0) (e:a*d=c*b):a/b=c/d:=by
 have e1:=jG (a:=a) hb;have e2:=jG (a:=c) hd;generalize a/b=u at *
 generalize c/d=v at *
 have:(u-v)*(b*d)=0:=by grind
 rcases Rat.mul_eq_zero.1 this with k|k
 ·grind
 ·rcases Rat.mul_eq_zero.1 k with k | k
  ·exact absurd k hb
  ·exact absurd k hd
theorem KH {L:Int} {c:Ck} (h:cT L c) {f t k:Nat} (hf:f<c.dens.length) (ht:t<c.dens.length) {x:Ln} (hx:LB k x):LB (k+1) (cF c f t x):=by
 obtain ⟨F,b,F1,F2,hA,hB,b0,b1,m0,m1⟩:=hx;have d1:=KG h hf;have e1:=KG h ht;have T:=Zv h;have hM:(0:Rat)≤((Mk k:Int):Rat):=xP.2 (Zt k);refine ⟨c.dens.getD t 0*F,b*c.dens.getD f 0+totC c.cuts c.dens*F,?_,?_,?_,?_,?_,?_,?_⟩
 ·have:=lO e1.1 F1 (by omega) (by omega);omega
 ·have:=lO e1.2 F2 (by omega) (by omega);rw [Int.pow_succ,xU (12 ^ k)];exact this
 ·have D1:1≤c.dens.getD t 0*F:=by have:=lO e1.1 F1 (by omega) (by omega);omega
  refine In.add ?_ (In.int D1 _);refine In.div F1 e1.1 ?_;refine In.add ((hA.sub (In.int F1 _)).mulI _) ?_;have:cV c f-cV c t=((upC c f-upC c t:Int):Rat):=by rw [Cv];rfl
  rw [this];exact In.int F1 _
 ·show (x.B*aM c f+bJ c)/aM c t=_;rw [hB,Rat.intCast_add,mD,mD,mD];have r1:(F:Rat)≠0:=sL F1;have r2:((c.dens.getD t 0:Int):Rat)≠0:=sL e1.1;have e:=jG (a:=(b:Rat)) r1;refine Zw r2 (fun k=>by rcases Rat.mul_eq_zero.1 k with k | k<;>contradiction) ?_;unfold aM bJ;generalize (b:Rat)/(F:Rat)=w at *
  grind
 ·have:=jI b0 (show 0≤c.dens.getD f 0 by omega);have:=jI T.1 (show 0≤F by omega);omega
 ·have a1:=lO b1 d1.2 (by omega) (by omega);have a2:=lO T.2 F2 (by omega) (by omega);show _≤12*Bk k+12000*12 ^ k;omega
 ·have u1:=HD h (i:=f) (by omega);have u2:=HD h (i:=t) (by omega);have c1:=uB h (i:=f) (by omega);have c2:=uB h (i:=t) (by omega);have c3:=Ae h (i:=f) (by omega);have c4:=Ae h (i:=t) (by omega);have l:=(uA h.1).2;have q1:(1:Rat)≤aM c t:=by have:=(iT (a:=1)).2 e1.1;exact this
  have q2:aM c f≤12:=(BX h.1 hf).2;have q3:0≤aM c f:=(BX h.1 hf).1;have eM:((Mk (k+1):Int):Rat)=12*((Mk k:Int):Rat)+25000:=by show ((12*Mk k+25000:Int):Rat)=_;rw [Rat.intCast_add,mD];rfl
  have v:=Ru (u:=x.A-aF c f) (M:=((Mk k:Int):Rat)+1000) (d:=aM c f) (by grind) (by grind) q3 q2 (by grind);have w:=KF (u:=(x.A-aF c f)*aM c f+(cV c f-cV c t)) (M:=12*((Mk k:Int):Rat)+24000) (by grind) (by grind) q1 (by grind);rw [eM];show -(12*((Mk k:Int):Rat)+25000)≤_/_+aF c t∧_/_+aF c t≤12*((Mk k:Int):Rat)+25000;constructor<;>grind
set_option maxRecDepth 100000
def Rv:List An→List An
 | []=>[]
 | a::r=>⟨a.at_,.raw,a.md⟩::Rv r
def qS:TC→TC
 | .ops l an ps fg=>.ops l (Rv an) ps fg
 | .seq a b=>.seq (qS a) (qS b)
 | .cond c a b=>.cond c (qS a) (qS b)
 | .block i b=>.block i (qS b)
 | c=>c
def Zx:List An→List An
 | []=>[]
 | a::r=>(match a.sh with | .one .d=>⟨a.at_,.raw,a.md⟩ | _=>a)::Zx r
def bP:TC→TC
 | .ops l an ps fg=>.ops l (Zx an) ps fg
 | .seq a b=>.seq (bP a) (bP b)
 | .cond c a b=>.cond c (bP a) (bP b)
 | .block i b=>.block i (bP b)
 | .loop i b=>.loop i (bP b)
 | .lG i b=>.lG i (bif Nat.beq i 5508403 then qS b else bP b)
 | c=>c
def mM (t:TFn):TFn:=⟨t.nparams,t.results,bP t.body⟩
def UE (E:Env) (callK:CK) (lp:LP) (b:TC):Nat→aB→Hp→(Ex→aB→Hp→Prop)→Prop
 | 0,_,_,_=>False
 | n+1,F,H,Q=>WC E callK lp [] bX b F H fun x F' H'=>match x with | .norm=>UE E callK lp b n F' H' Q | .exit i=>Q (.exit i) F' H' | .ret=>Q .ret F' H' | .brk k i=>Q (.brk k i) F' H'
def HE (E:Env) (callK:CK) (lp:LP) (b:TC):Nat→aB→Hp→(Ex→aB→Hp→Prop)→Prop
 | 0,_,_,_=>False
 | n+1,F,H,Q=>WC E callK lp [] bX b F H fun x F' H'=>match x with | .norm=>HE E callK lp b n F' (rE F' H.length H') Q | .exit i=>Q (.exit i) F' H' | .ret=>Q .ret F' H' | .brk k i=>Q (.brk k i) F' H'
def tv:TC→TC
 | .block _ c=>c
 | c=>c
def dN:Nat→TC→TC
 | 0,c=>c
 | n+1,.seq _ b=>dN n b
 | _+1,c=>c
def gP:Nat→TC→TC
 | n+1,.seq a b=>.seq a (gP n b)
 | _,_=>.skip
structure Se where
 len:Int
 cuts:List PV
 dens:List PV
 up:List PV
 tot:Int
 f:Int
 t:Int
structure L4 where
 a:Int
 b:Int
 c:Int
 d:Int
def L4.v (l:L4):PV:=.agg [.int .i64 l.a,.int .i64 l.b,.int .i64 l.c,.int .i64 l.d]
def KI (s:Se):HB:=⟨false,true,1,s.up⟩
def KJ (k:Nat) (s:Se):HB:=⟨false,false,7,[.agg [.int .i64 s.len,.data s.cuts,.data s.dens,.own k 0 s.up.length s.up.length none,.int .i64 s.tot,.int .i64 s.f,.int .i64 s.t]]⟩
def Rw:Nat→List Se→Hp
 | _,[]=>[]
 | k,s::r=>KI s::KJ k s::Rw (k+2) r
def Rx:Nat→Nat→List PV
 | _,0=>[]
 | k,n+1=>.ptr k 1 0 0::Rx (k+2) n
def cG (S:List Se):Hp:=
 match S with
 | []=>[]
 | s::r=>[⟨false,false,1,[.own 4 0 S.length S.length none]⟩,KI s,KJ 1 s,⟨false,false,1,[]⟩,⟨false,false,1,.ptr 2 1 0 0::Rx 6 r.length⟩]++Rw 5 r++[⟨false,false,1,[.int .i64 r.length]⟩]
def kQ (a b:Int):PV:=.agg [.int .i64 a,.int .i64 b]
def iH (L:List PV) (n:Nat):aB:=[(0,.v (.data L)),(4,.box (kQ 0 0)),(5,.v (.ptr 0 1 0 0)),(11,.v (.ptr (3+2*n) 1 0 0))]
def Cc (L:List PV) (n:Nat) (a b:Int):aB:=[(0,.v (.data L)),(4,.box (kQ 0 0)),(5,.v (.ptr 0 1 0 0)),(11,.v (.ptr (3+2*n) 1 0 0)),(16,.box (kQ a b)),(17,.v (.ptr (6+2*n) 1 0 0)),(18,.v (.fn (.func Dr) [] [.ptr 0 1 0 0,.ptr (5+2*n) 1 0 0,.ptr (3+2*n) 1 0 0]))]
def pQ (S:List Se) (ls:List L4) (a b:Int):Hp:=cG S++[⟨false,true,4,ls.map L4.v⟩,⟨false,false,1,[.own (4+2*S.length) 0 S.length S.length (some S.length)]⟩,⟨false,false,2,[kQ a b]⟩]
def sN (aE:tY):List Se→L4→(List L4→Prop)→Prop
 | [],_,K=>K []
 | s::S,x,K=>asr (decide (s.up.length=s.up.length)) (asr (decide (0+s.up.length≤s.up.length)) (aE s.len s.cuts s.dens ((s.up.drop 0).take s.up.length) s.tot s.f s.t x.a x.b x.c x.d fun a b c d=>sN aE S ⟨a,b,c,d⟩ fun l=>K (⟨a,b,c,d⟩::l)))
def HF (cuts:List PV) (i:Int) (K:Int→Prop):Prop:=asr (decide (0≤i)) (asr (decide (i<((cuts.length:Nat):Int))) (asr (aG zI (cuts.getD i.toNat .nils)) (K (aP (cuts.getD i.toNat .nils)))))
def fT (aN:qP) (l:L4) (cuts:List PV) (i:Int) (K:Int→Int→Prop):Prop:=HF cuts (i64.wrap (i+1)) fun n=>aN l.a l.b l.c l.d n K
def nH (aN:qP) (aL:iE):List Se→List L4→L4→Bool→Int→Int→(Int→Int→Prop)→Prop
 | s::S,l::ls,x,b,q0,q1,K=>
  let k2:=fun q0 q1=>fT aN l s.cuts s.t fun r0 r1=>aL r0 r1 q0 q1 fun t=>aD t (nH aN aL S ls l true r0 r1 K) (nH aN aL S ls l true q0 q1 K)
  match b with
  | true=>fT aN x s.cuts s.f fun r0 r1=>aL r0 r1 q0 q1 fun t=>aD t (k2 r0 r1) (k2 q0 q1)
  | false=>k2 q0 q1
 | _,_,_,_,q0,q1,K=>K q0 q1
def sO (a b q0 q1:Int):Bool:=(a==q0)&&((b==q1)&&true)
def kD (aN:qP) (q0 q1:Int):List Se→List L4→L4→Bool→(List Bool→Prop)→Prop
 | s::S,l::ls,x,b,K=>
  let k2:=fun K=>fT aN l s.cuts s.t fun r0 r1=>aD (sO r0 r1 q0 q1) (kD aN q0 q1 S ls l true fun m=>K (true::m)) (kD aN q0 q1 S ls l true fun m=>K (false::m))
  match b with
  | true=>fT aN x s.cuts s.f fun r0 r1=>aD (sO r0 r1 q0 q1) (k2 fun m=>K (true::m)) (k2 fun m=>K (false::m))
  | false=>k2 K
 | _,_,_,_,K=>K []
def mN:Nat→Nat→Bool→List Bool→List PV
 | k,n+1,true,bf::bt::m=>(bif bf then [.ptr k 1 0 5] else [])++(bif bt then [.ptr k 1 0 6] else [])++mN (k+2) n true m
 | _,n+1,false,bt::m=>(bif bt then [.ptr 2 1 0 6] else [])++mN 6 n true m
 | _,_,_,_=>[]
def fU:List Se→Bool→List Bool→List Se
 | s::S,true,bf::bt::m=>⟨s.len,s.cuts,s.dens,s.up,s.tot,bif bf then i64.wrap (s.f+1) else s.f,bif bt then i64.wrap (s.t+1) else s.t⟩::fU S true m
 | s::S,false,bt::m=>⟨s.len,s.cuts,s.dens,s.up,s.tot,s.f,bif bt then i64.wrap (s.t+1) else s.t⟩::fU S true m
 | _,_,_=>[]
def tw:List PV→Hp
 | []=>[]
 | p::r=>⟨false,false,1,[p]⟩::⟨false,false,1,p::r⟩::r.map fun x=>⟨false,false,1,[x]⟩
def oE (S:List Se) (ls:List L4) (a b:Int) (m:List PV):Hp:=pQ S ls a b++[⟨false,false,1,[match m with | []=>.nils | _::_=>.own (9+2*S.length) 0 m.length m.length none]⟩]++tw m
def oG (L:List PV) (n:Nat):aB:=[(0,.v (.data L)),(4,.box (kQ 0 0)),(5,.v (.ptr 0 1 0 0)),(11,.v (.ptr (3+2*n) 1 0 0)),(19,.v (.ptr (7+2*n) 1 0 0))]
def Cd:L4:=⟨0,1,0,1⟩
def kE:List L4→L4
 | []=>Cd
 | [l]=>l
 | _::r=>kE r
section
variable (e:Es) (aW:dZ) (aE:tY) (aN:qP) (aL:iE)
def KK:Nat→Option (List PV→(PV→Prop)→Prop):=yki [(lI,lJ.pw aW),(Dq,Qq.pw aE),(AR,Qt.pw aN),(Dv,sC.pw aL)]
def HG:SE:=⟨E e,KK aW aE aN aL,yhi [(Dw,mM DP),(Dx,mM DQ)],fun _ _ _ _ _=>False,fun _=>none⟩
def Zy:LP:=fun id _ F H Q=>bif Nat.beq id 31735400 then UE (E e) (jK (HG e aW aE aN aL) 2) (fun _ _ _ _ _=>False) (bP JG) 5 F H Q else False
def pR:SE:=⟨E e,KK aW aE aN aL,yhi [(Dr,mM DO),(Dw,mM DP),(Dx,mM DQ)],Zy e aW aE aN aL,fun _=>none⟩
def Ry:LP:=fun id _ F H Q=>
 bif Nat.beq id 5508402 then HE (E e) (jK (pR e aW aE aN aL) 4) (fun _ _ _ _ _=>False) (bP JI) 5 F H Q else
 bif Nat.beq id 5508403 then HE (E e) (jK (pR e aW aE aN aL) 4) (fun _ _ _ _ _=>False) (qS JJ) 8 F H Q else False
def wR (c:TC) (F:aB) (H:Hp) (Q:Ex→aB→Hp→Prop):Prop:=WC (E e) (jK (pR e aW aE aN aL) 4) (Ry e aW aE aN aL) [] bX c F H Q
def bR:TC:=tv (bP fQ)
def EE (L0:Int) (Lr:List PV) (S:List Se) (Q:List L4→Int→Int→Int→Int→Prop):Prop:=
 aW 0 fun w0 w1=>aW 0 fun w2 w3=>sN aE S ⟨w0,w1,w2,w3⟩ fun ls=>asr (decide ((0:Int)<(((Lr.length+1:Nat)):Int))) (aN (kE ls).a (kE ls).b (kE ls).c (kE ls).d L0 fun s0 s1=>nH aN aL S ls ⟨w0,w1,w2,w3⟩ false s0 s1 fun q0 q1=>Q ls s0 s1 q0 q1)
def L1 (L0:Int) (c0 d0 Lr:List PV):List PV:=.agg [.int .i64 L0,.data c0,.data d0]::Lr
def QA (L:List PV) (S:List Se) (Q:Ex→aB→Hp→Prop):List L4→Int→Int→Int→Int→Prop:=fun ls s0 s1 q0 q1=>Q .norm (Cc L S.length s0 s1) (pQ S ls q0 q1)
def QG (b:TC) (k:Nat) (Rn:aB→Hp→Prop) (Q:Ex→aB→Hp→Prop):Ex→aB→Hp→Prop:=fun x F' H'=>match x with
 | .norm=>Rn (fdels F' (eE (aZ b))) (rE (fdels F' (eE (aZ b))) k H')
 | .exit i=>Q (.exit i) F' H'
 | .ret=>Q .ret F' H'
 | .brk k i=>Q (.brk k i) F' H'
def QB (b:TC) (id k:Nat) (Rn:aB→Hp→Prop) (Q:Ex→aB→Hp→Prop):Ex→aB→Hp→Prop:=fun x F' H'=>match x with
 | .norm=>QG b k Rn Q .norm F' H'
 | .exit i=>(bif Nat.beq i id then QG b k Rn Q .norm F' H' else QG b k Rn Q (.exit i) F' H')
 | .ret=>QG b k Rn Q .ret F' H'
 | .brk k' i=>QG b k Rn Q (.brk k' i) F' H'
def xE (q0 q1:Int):aB:=[(4,.box (kQ q0 q1))]
end
def cW (S:List Se):Hp:=
 match S with
 | []=>[⟨false,false,1,[.nils]⟩]
 | s::r=>[⟨false,false,1,[.own 4 0 S.length S.length none]⟩,KI s,KJ 1 s,⟨false,false,1,[]⟩,⟨false,false,1,.ptr 2 1 0 0::Rx 6 r.length⟩]++Rw 5 r
def Zz:Nat→Nat
 | 0=>1
 | j+1=>5+2*j
def jL (L ord:List PV) (j:Nat) (dens:List PV) (m i:Int):aB:=[(0,.v (.data L)),(4,.box (kQ 0 0)),(5,.v (.ptr 0 1 0 0)),(8,.v (.ptr (Zz j+1) 1 0 0)),(22,.v (.data ord)),(23,.v (.int .i64 ord.length)),(24,.v (.int .i64 j)),(39,.v (.data dens)),(40,.v (.int .i64 m)),(41,.v (.int .i64 i))]
def fW (L ord:List PV) (j:Nat) (dens:List PV) (m i:Int):aB:=jL L ord j dens m i++[(42,.v (.bool false))]
def hpD (S:List Se) (s:Se):Hp:=cW S++[KI s,KJ (Zz S.length) s]
def jM (L ord:List PV) (j:Nat):aB:=[(0,.v (.data L)),(4,.box (kQ 0 0)),(5,.v (.ptr 0 1 0 0)),(22,.v (.data ord)),(23,.v (.int .i64 ord.length)),(24,.v (.int .i64 j))]
def fY (L ord:List PV) (j:Nat):aB:=jM L ord j++[(25,.v (.bool false))]
def pT (dens cuts:List PV) (tot i:Int):Int:=i64.wrap (tot+i64.wrap (aP (dens.getD i.toNat .nils)*i64.wrap (aP (cuts.getD (i64.wrap (i+1)).toNat .nils)-aP (cuts.getD i.toNat .nils))))
def nI (dens:List PV) (s:Se) (i:Int) (K:Se→Prop):Prop:=
 asr (decide (0≤i)) (asr (decide (i<((dens.length:Nat):Int))) (asr (aG zI (dens.getD i.toNat .nils)) (asr (decide (0≤i64.wrap (i+1))) (asr (decide (i64.wrap (i+1)<((s.cuts.length:Nat):Int)))
 (asr (aG zI (s.cuts.getD (i64.wrap (i+1)).toNat .nils)) (asr (decide (0≤i)) (asr (decide (i<((s.cuts.length:Nat):Int))) (asr (aG zI (s.cuts.getD i.toNat .nils))
 (asr (decide (s.up.length=s.up.length)) (asr (decide (0+s.up.length≤s.up.length)) (asr (!decide (0+s.up.length+1≤s.up.length)) (asr (decide (s.up.length=s.up.length)) (asr (decide ((s.up.length+1+64)*(8+1)≤room))
  (K ⟨s.len,s.cuts,s.dens,s.up++[.int .i64 (pT dens s.cuts s.tot i)],pT dens s.cuts s.tot i,s.f,s.t⟩))))))))))))))
def ZA (PP:aB→Hp→Prop→Prop) (F1:aB) (H1:Hp):LP:=fun id _ F H Q=>bif Nat.beq id 5508400 then PP F H (Q (.exit 2) F1 H1) else False
def KL (PP PQ:aB→Hp→Prop→Prop) (F1:aB) (H1:Hp) (q0 q1:Int):LP:=fun id _ F H Q=>bif Nat.beq id 5508401 then PP F H (Q (.exit 0) F1 H1) else bif Nat.beq id 5508404 then PQ F H (∀ H',Q .ret (xE q0 q1) H') else False
def Ce (ord:List PV) (j:Nat):Int:=aP (ord.getD ((j:Int)).toNat .nils)
def kF (L ord:List PV) (j:Nat):PV:=L.getD (Ce ord j).toNat .nils
def dV (c:PV):Se:=⟨aP (bZ c 0),gA (bZ c 1),gA (bZ c 2),[.int .i64 0],0,0,0⟩
def Cf (L ord:List PV) (j:Nat) (X Y:Prop):Prop:=
 aD (decide ((j:Int)<((ord.length:Nat):Int))) (asr (decide ((j:Int)<((ord.length:Nat):Int))) (asr (aG zI (ord.getD ((j:Int)).toNat .nils)) (asr (decide (0≤Ce ord j)) (asr (decide (Ce ord j<((L.length:Nat):Int))) (asr (aG zK (kF L ord j)) X))))) Y
section
variable (e:Es) (aW:dZ) (aE:tY) (aN:qP) (aL:iE)
variable (L ord:List PV) (Rn:aB→Hp→Prop) (Q:Ex→aB→Hp→Prop) (PP PQ:aB→Hp→Prop→Prop)
def wD (F:aB) (H:Hp) (Q:Ex→aB→Hp→Prop):Prop:=WC (E e) (jK (pR e aW aE aN aL) 4) (Ry e aW aE aN aL) [] bX (bP pH) F H Q
def wO (F1:aB) (H1:Hp) (F:aB) (H:Hp) (Q:Ex→aB→Hp→Prop):Prop:=WC (E e) (jK (pR e aW aE aN aL) 4) (ZA PP F1 H1) [] bX (bP oA) F H Q
def wT (F1:aB) (H1:Hp) (q0 q1:Int) (K:PV→Prop):Prop:=WP ⟨E e,KK aW aE aN aL,yhi [(Dr,mM DO),(Dw,mM DP),(Dx,mM DQ)],KL PP PQ F1 H1 q0 q1,fun _=>none⟩ 4 (mM GG) [.data L,.data ord] K
theorem Rz (dens:List PV) (m i:Int) (s:Se):wD e aW aE aN aL (jL L ord 0 dens m i) (hpD [] s) (QG (bP pH) (hpD [] s).length Rn Q)=aD (decide (i<m)) (nI dens s i fun s'=>Rn (jL L ord 0 dens m (i64.wrap (i+1))) (hpD [] s')) (Q (.exit 2) (fW L ord 0 dens m i) (hpD [] s)):=by kernel_rfl
theorem RA (dens:List PV) (m i:Int) (s:Se) (s0:Se):wD e aW aE aN aL (jL L ord 1 dens m i) (hpD [s0] s) (QG (bP pH) (hpD [s0] s).length Rn Q)=aD (decide (i<m)) (nI dens s i fun s'=>Rn (jL L ord 1 dens m (i64.wrap (i+1))) (hpD [s0] s')) (Q (.exit 2) (fW L ord 1 dens m i) (hpD [s0] s)):=by kernel_rfl
theorem RB (dens:List PV) (m i:Int) (s:Se) (s0 s1:Se):wD e aW aE aN aL (jL L ord 2 dens m i) (hpD [s0,s1] s) (QG (bP pH) (hpD [s0,s1] s).length Rn Q)=aD (decide (i<m)) (nI dens s i fun s'=>Rn (jL L ord 2 dens m (i64.wrap (i+1))) (hpD [s0,s1] s')) (Q (.exit 2) (fW L ord 2 dens m i) (hpD [s0,s1] s)):=by kernel_rfl
theorem RD (dens:List PV) (m i:Int) (s:Se) (s0 s1 s2:Se):wD e aW aE aN aL (jL L ord 3 dens m i) (hpD [s0,s1,s2] s) (QG (bP pH) (hpD [s0,s1,s2] s).length Rn Q)=aD (decide (i<m)) (nI dens s i fun s'=>Rn (jL L ord 3 dens m (i64.wrap (i+1))) (hpD [s0,s1,s2] s')) (Q (.exit 2) (fW L ord 3 dens m i) (hpD [s0,s1,s2] s)):=by kernel_rfl
theorem RE (dens:List PV) (m i:Int) (s:Se):wO e aW aE aN aL PP (fW L ord 0 dens m i) (hpD [] s) (jM L ord 0) (cW []) (QG (bP oA) (cW []).length Rn Q)=Cf L ord 0 (PP (jL L ord 0 (dV (kF L ord 0)).dens (dV (kF L ord 0)).dens.length 0) (hpD [] (dV (kF L ord 0))) (Rn (jM L ord 1) (cW [s]))) (Q (.exit 0) (fY L ord 0) (cW [])):=by kernel_rfl
theorem RF (dens:List PV) (m i:Int) (s:Se) (s0:Se):wO e aW aE aN aL PP (fW L ord 1 dens m i) (hpD [s0] s) (jM L ord 1) (cW [s0]) (QG (bP oA) (cW [s0]).length Rn Q)=Cf L ord 1 (PP (jL L ord 1 (dV (kF L ord 1)).dens (dV (kF L ord 1)).dens.length 0) (hpD [s0] (dV (kF L ord 1))) (Rn (jM L ord 2) (cW [s0,s]))) (Q (.exit 0) (fY L ord 1) (cW [s0])):=by kernel_rfl
theorem RG (q0 q1:Int) (K:PV→Prop) (s0:Se):wT e aW aE aN aL L ord PP PQ (fY L ord 1) (cW [s0]) q0 q1 K=PP (jM L ord 0) (cW []) (PQ (iH L 1) (cG [s0]) (∀ _:Hp,K (kQ q0 q1))):=by kernel_rfl
theorem RH (dens:List PV) (m i:Int) (s:Se) (s0 s1:Se):wO e aW aE aN aL PP (fW L ord 2 dens m i) (hpD [s0,s1] s) (jM L ord 2) (cW [s0,s1]) (QG (bP oA) (cW [s0,s1]).length Rn Q)=Cf L ord 2 (PP (jL L ord 2 (dV (kF L ord 2)).dens (dV (kF L ord 2)).dens.length 0) (hpD [s0,s1] (dV (kF L ord 2))) (Rn (jM L ord 3) (cW [s0,s1,s]))) (Q (.exit 0) (fY L ord 2) (cW [s0,s1])):=by kernel_rfl
theorem RJ (q0 q1:Int) (K:PV→Prop) (s0 s1:Se):wT e aW aE aN aL L ord PP PQ (fY L ord 2) (cW [s0,s1]) q0 q1 K=PP (jM L ord 0) (cW []) (PQ (iH L 2) (cG [s0,s1]) (∀ _:Hp,K (kQ q0 q1))):=by kernel_rfl
theorem RK (dens:List PV) (m i:Int) (s:Se) (s0 s1 s2:Se):wO e aW aE aN aL PP (fW L ord 3 dens m i) (hpD [s0,s1,s2] s) (jM L ord 3) (cW [s0,s1,s2]) (QG (bP oA) (cW [s0,s1,s2]).length Rn Q)=Cf L ord 3 (PP (jL L ord 3 (dV (kF L ord 3)).dens (dV (kF L ord 3)).dens.length 0) (hpD [s0,s1,s2] (dV (kF L ord 3))) (Rn (jM L ord 4) (cW [s0,s1,s2,s]))) (Q (.exit 0) (fY L ord 3) (cW [s0,s1,s2])):=by kernel_rfl
theorem RL (q0 q1:Int) (K:PV→Prop) (s0 s1 s2:Se):wT e aW aE aN aL L ord PP PQ (fY L ord 3) (cW [s0,s1,s2]) q0 q1 K=PP (jM L ord 0) (cW []) (PQ (iH L 3) (cG [s0,s1,s2]) (∀ _:Hp,K (kQ q0 q1))):=by kernel_rfl
theorem RM (dens:List PV) (m i:Int) (s:Se) (s0 s1 s2 s3:Se):wO e aW aE aN aL PP (fW L ord 4 dens m i) (hpD [s0,s1,s2,s3] s) (jM L ord 4) (cW [s0,s1,s2,s3]) (QG (bP oA) (cW [s0,s1,s2,s3]).length Rn Q)=Cf L ord 4 (PP (jL L ord 4 (dV (kF L ord 4)).dens (dV (kF L ord 4)).dens.length 0) (hpD [s0,s1,s2,s3] (dV (kF L ord 4))) (Rn (jM L ord 5) (cW [s0,s1,s2,s3,s]))) (Q (.exit 0) (fY L ord 4) (cW [s0,s1,s2,s3])):=by kernel_rfl
theorem RN (q0 q1:Int) (K:PV→Prop) (s0 s1 s2 s3:Se):wT e aW aE aN aL L ord PP PQ (fY L ord 4) (cW [s0,s1,s2,s3]) q0 q1 K=PP (jM L ord 0) (cW []) (PQ (iH L 4) (cG [s0,s1,s2,s3]) (∀ _:Hp,K (kQ q0 q1))):=by kernel_rfl
end
theorem uD (n:Int) (K:Int→Int→Prop):kP n K=K (n:Rat).num (n:Rat).den:=rfl
theorem ZB {q r:Rat} (hq:small q) (hr:small r) (K:Bool→Prop):jX q.num q.den r.num r.den K=K (decide (q<r)):=by
 unfold jX Qv;rw [Ys hq hr];congr 1;rw [Aab,sH]
 by_cases h:q<r
 ·simp [h]
 ·by_cases h2:r<q<;>simp [h,h2]
def Bd (q:Rat):Prop:=∃ D:Int,1≤D∧D≤20736∧In D q∧-100000000≤q∧q≤100000000
theorem Bd.sm {q:Rat}:Bd q→small q
 | ⟨_,h1,h2,h,a,b⟩=>In.small (M:=100000000) h ⟨h1,by omega⟩ (by omega) a b
theorem uE {q:Rat} (h:small q) (K:Int→Int→Int→Prop):fitK q K=K q.num q.den 0:=Sy h
def nJ (c:Ck):List Int:=(List.range (c.dens.length+1)).map (upC c)
theorem HH (c:Ck):(nJ c).length=c.dens.length+1:=by unfold nJ;rw [mC,List.length_range]
theorem ZC {c:Ck} {i:Nat} (h:i≤c.dens.length):(nJ c).getD i 0=upC c i:=by unfold nJ;rw [dO,sW,List.getElem?_range (by omega)];rfl
theorem LB.num {k:Nat} {x:Ln} (hk:k≤3) (h:LB k x):∃ F b:Int,1≤F∧F≤1728∧In F x.A∧x.B=(b:Rat)/(F:Rat)∧0≤b∧b≤5184000∧-3925000≤x.A∧x.A≤3925000:=by
 obtain ⟨F,b,h1,h2,h3,h4,h5,h6,h7,h8⟩:=h;obtain rfl | rfl | rfl | rfl:k=0∨k=1∨k=2∨k=3:=by omega
 ·exact ⟨F,b,h1,tC h2 (by decide),h3,h4,h5,tC h6 (by decide),cY (by decide +kernel) h7,cY h8 (by decide +kernel)⟩
 ·exact ⟨F,b,h1,tC h2 (by decide),h3,h4,h5,tC h6 (by decide),cY (by decide +kernel) h7,cY h8 (by decide +kernel)⟩
 ·exact ⟨F,b,h1,tC h2 (by decide),h3,h4,h5,tC h6 (by decide),cY (by decide +kernel) h7,cY h8 (by decide +kernel)⟩
 ·exact ⟨F,b,h1,tC h2 (by decide),h3,h4,h5,tC h6 (by decide),cY (by decide +kernel) h7,cY h8 (by decide +kernel)⟩
theorem LB.numB {k:Nat} {x:Ln} (hk:k≤4) (h:LB k x):∃ F b:Int,1≤F∧F≤20736∧In F x.A∧x.B=(b:Rat)/(F:Rat)∧0≤b∧b≤82944000∧-47125000≤x.A∧x.A≤47125000:=by
 obtain ⟨F,b,h1,h2,h3,h4,h5,h6,h7,h8⟩:=h;obtain rfl | rfl | rfl | rfl | rfl:k=0∨k=1∨k=2∨k=3∨k=4:=by omega
 all_goals exact ⟨F,b,h1,tC h2 (by decide),h3,h4,h5,tC h6 (by decide),cY (by decide +kernel) h7,cY h8 (by decide +kernel)⟩
theorem ZD {F b M:Int} (hF:1≤F) (b0:0≤b) (b1:b≤M):0≤(b:Rat)/(F:Rat)∧(b:Rat)/(F:Rat)≤(M:Rat):=by have f1:(1:Rat)≤(F:Rat):=(iT (a:=1)).2 hF;have c0:(0:Rat)≤(b:Rat):=xP.2 b0;have c1:(b:Rat)≤(M:Rat):=iT.2 b1;have:=KF (u:=(b:Rat)) (M:=(M:Rat)) (d:=(F:Rat)) (by grind) c1 f1 (by grind);refine ⟨?_,this.2⟩;rw [Rat.div_def];exact sZ c0 (dE (Rat.inv_pos.2 (by grind)))
theorem tx {L:Int} {c:Ck} (h:cT L c) {f t k:Nat} (hf:f<c.dens.length) (ht:t<c.dens.length) {x:Ln} (hx:LB k x) (hk:k≤3) (K:Int→Int→Int→Int→Prop) :
  lA L (aA c.cuts) (aA c.dens) (aA (nJ c)) (totC c.cuts c.dens) f t x.A.num x.A.den x.B.num x.B.den K =
   K (cF c f t x).A.num (cF c f t x).A.den (cF c f t x).B.num (cF c f t x).B.den:=by
 obtain ⟨F,b,F1,F2,hA,hB,b0,b1,m0,m1⟩:=hx.num hk;have l1:=h.1.l1;have df:=KG h hf;have dt:=KG h ht;have T:=Zv h;have u1:=HD h (i:=f) (by omega);have u2:=HD h (i:=t) (by omega);have c1:=uB h (i:=f) (by omega);have c2:=uB h (i:=t) (by omega);have c3:=Ae h (i:=f) (by omega);have c4:=Ae h (i:=t) (by omega);have l:=(uA h.1).2;have q1:(1:Rat)≤aM c t:=(iT (a:=1)).2 dt.1;have q2:aM c f≤12:=(BX h.1 hf).2;have q3:0≤aM c f:=(BX h.1 hf).1;have q4:aM c t≤12:=(BX h.1 ht).2;have T0:0≤bJ c:=xP.2 T.1;have T1:bJ c≤12000:=(iT (b:=12000)).2 T.2;have hBb:=ZD F1 b0 b1;rw [← hB] at hBb;have D1:1≤c.dens.getD t 0*F:=by have:=lO dt.1 F1 (by omega) (by omega);omega
 have D2:c.dens.getD t 0*F≤20736:=by have:=lO dt.2 F2 (by omega) (by omega);omega
 have iU:cV c f-cV c t=((upC c f-upC c t:Int):Rat):=by rw [Cv];rfl
 have iB:In F x.B:=⟨b,hB⟩;have v:=Ru (u:=x.A-aF c f) (M:=3926000) (d:=aM c f) (by grind) (by grind) q3 q2 (by grind);have vB:=Ru (u:=x.B) (M:=5184000) (d:=aM c f) (by grind) (by grind) q3 q2 (by grind);have w:=KF (u:=(x.A-aF c f)*aM c f+(cV c f-cV c t)) (M:=48000000) (by grind) (by grind) q1 (by grind);have wB:=KF (u:=x.B*aM c f+bJ c) (M:=63000000) (by grind) (by grind) q1 (by grind);have i1:In F (x.A-aF c f):=hA.sub (In.int F1 _);have i2:In F ((x.A-aF c f)*aM c f):=i1.mulI _;have i3:In F ((x.A-aF c f)*aM c f+(cV c f-cV c t)):=i2.add (by rw [iU];exact In.int F1 _);have i4:In F (x.B*aM c f):=iB.mulI _;have i5:In F (x.B*aM c f+bJ c):=i4.add (In.int F1 _);have s0:small x.A:=Bd.sm ⟨F,F1,by omega,hA,by grind,by grind⟩;have s0':small x.B:=Bd.sm ⟨F,F1,by omega,iB,by grind,by grind⟩;have s1:small (x.A-aF c f):=Bd.sm ⟨F,F1,by omega,i1,by grind,by grind⟩;have s2:small ((x.A-aF c f)*aM c f):=Bd.sm ⟨F,F1,by omega,i2,by grind,by grind⟩;have s3:small ((x.A-aF c f)*aM c f+(cV c f-cV c t)):=Bd.sm ⟨F,F1,by omega,i3,by grind,by grind⟩;have s4:small (x.B*aM c f):=Bd.sm ⟨F,F1,by omega,i4,by grind,by grind⟩;have s5:small (x.B*aM c f+bJ c):=Bd.sm ⟨F,F1,by omega,i5,by grind,by grind⟩;have s6:small (((x.A-aF c f)*aM c f+(cV c f-cV c t))/aM c t):=Bd.sm ⟨_,D1,D2,In.div F1 dt.1 i3,by grind,by grind⟩;have s7:small (((x.A-aF c f)*aM c f+(cV c f-cV c t))/aM c t+aF c t):=Bd.sm ⟨_,D1,D2,(In.div F1 dt.1 i3).add (In.int D1 _),by grind,by grind⟩;have s8:small ((x.B*aM c f+bJ c)/aM c t):=Bd.sm ⟨_,D1,D2,In.div F1 dt.1 i5,by grind,by grind⟩;have sc:small (aF c f):=h.1.sc (by omega);have sc':small (aF c t):=h.1.sc (by omega);have sd:small (aM c f):=h.1.sd hf;have sd':small (aM c t):=h.1.sd ht;have sT:small (bJ c):=xC (by omega);have bu:-100000000≤upC c f-upC c t∧upC c f-upC c t≤100000000:=by
  have a1:upC c f-upC c t≤12000:=by refine iT.1 ?_;rw [← iU];show _≤(12000:Rat);grind
  have a2:-12000≤upC c f-upC c t:=by refine iT.1 ?_;rw [← iU];show (-12000:Rat)≤_;grind
  omega
 have sU:small (cV c f-cV c t):=by rw [iU];exact xC (by omega)
 have hd0:aM c t≠0:=by grind
 unfold lA Qp;simp only [lt];rw [cP,aO (by omega),aO (by omega),cX,cX,fB hf,eJ hf,uD,aO (by omega),aO (by omega),fB ht,eJ ht,uD,cP,aO (by omega),aO (by omega),fB (by omega),eJ (by omega),uD];refine (Kt s0 sc _).trans ?_;rw [uE s1];refine (Hu s1 sd _).trans ?_;rw [uE s2,cP,HH,aO (by omega),aO (by omega),fB (by rw [HH];omega),eJ (by rw [HH];omega),aO (by omega),aO (by omega),fB (by rw [HH];omega),eJ (by rw [HH];omega),ZC (by omega),ZC (by omega),fR (by omega) (by omega),uD,← iU];refine (Ks s2 sU _).trans ?_;rw [uE s3];refine (Hu s0' sd _).trans ?_;rw [uE s4,uD];refine (Ks s4 sT _).trans ?_;rw [uE s5];refine (Kr s3 sd' hd0 _).trans ?_;rw [uE s6,aO (by omega),aO (by omega),fB (by omega),eJ (by omega),uD];refine (Ks s6 sc' _).trans ?_;rw [uE s7];refine (Kr s5 sd' hd0 _).trans ?_;rw [uE s8];rfl
theorem tz {n d:Int} (h1:1≤d) (h2:d≤1000000000000000000) (h3:-1000000000000000000≤n) (h4:n≤1000000000000000000):small ((n:Rat)/(d:Rat)):=by
 have e:=jG (a:=(n:Rat)) (b:=(d:Rat)) (sL h1);generalize (n:Rat)/(d:Rat)=q at *
 have hn:q.num*d=n*q.den:=by
  have e2:q*(q.den:Rat)=(q.num:Rat):=by
   have a:(q.num:Rat)/(q.den:Rat)=q:=by have h:=Rat.num_divInt_den q;rw [Rat.divInt_eq_div] at h;exact h
   have b:=jG (a:=(q.num:Rat)) (b:=(q.den:Rat)) (by have:=q.den_nz;exact fun k=>this (by have:((q.den:Nat):Rat)=((0:Nat):Rat):=k;exact Rat.natCast_inj.1 this));rw [a] at b;exact b
  have:((q.num*d:Int):Rat)=((n*q.den:Int):Rat):=by rw [mD,mD,← e,← e2,Rat.intCast_natCast];grind
  exact Rat.intCast_inj.1 this
 have hp:(0:Int)<q.den:=by have:=q.den_pos;omega
 have hdv:(q.den:Int)∣d:=by
  have h:(q.den:Int)∣q.num*d:=⟨n,by rw [hn,xU]⟩;have h2:q.den∣q.num.natAbs*d.natAbs:=by rw [← Int.natAbs_mul];exact Int.ofNat_dvd_left.1 h
  exact Int.ofNat_dvd_left.2 (Nat.Coprime.dvd_of_dvd_mul_left q.reduced.symm h2)
 obtain ⟨m,hm⟩:=hdv;have hm1:1≤m:=by
  refine Int.not_lt.1 fun k=>?_
  have:=HN (show m≤0 by omega) (Int.le_of_lt hp);omega
 have hnm:n=q.num*m:=by
  have:q.den*(q.num*m)=q.den*n:=by rw [hm] at hn;grind
  exact (Int.eq_of_mul_eq_mul_left (by omega) this).symm
 have hd:(q.den:Int)≤d:=by have:=HN hm1 (Int.le_of_lt hp);rw [← hm] at this;omega
 refine ⟨?_,?_,by omega⟩
 ·by_cases k:0≤q.num
  ·omega
  ·have:=Int.mul_le_mul_of_nonpos_left (show q.num≤0 by omega) hm1;rw [← hnm] at this;omega
 ·by_cases k:0≤q.num
  ·have:=HN hm1 k;rw [← hnm] at this;omega
  ·omega
theorem ZE {k:Nat} {x:Ln} (hk:k≤4) (hx:LB k x) (hp:0<x.B) {n:Int} (n0:0≤n) (n1:n≤1000):∃ a b:Int,1≤b∧b≤82944000∧-1000000000000≤a∧a≤1000000000000∧wh x (n:Rat)=(a:Rat)/(b:Rat)∧small ((n:Rat)-x.A)∧small x.A∧small x.B:=by
 obtain ⟨F,b,F1,F2,⟨a,hA⟩,hB,b0,b1,m0,m1⟩:=hx.numB hk;have hF:=sL F1;have iA:In F x.A:=⟨a,hA⟩;have f0:(0:Rat)<(F:Rat):=by have:=(iT (a:=1)).2 F1;have:(1:Rat)≤(F:Rat):=this;grind
 have f1:(F:Rat)≤20736:=(iT (b:=20736)).2 F2;have r0:(0:Rat)≤(n:Rat):=xP.2 n0;have r1:(n:Rat)≤1000:=(iT (b:=1000)).2 n1;have hb1:1≤b:=by
  refine Int.not_lt.1 fun k=>?_
  have:b=0:=by omega
  rw [this] at hB;have:x.B=0:=by rw [hB];show (0:Rat)/_=0;rw [Rat.div_def,Rat.zero_mul]
  grind
 have eA:=jG (a:=(a:Rat)) hF;have eB:=jG (a:=(b:Rat)) hF;rw [← hA] at eA;rw [← hB] at eB;have ea:((n*F-a:Int):Rat)=((n:Rat)-x.A)*(F:Rat):=by rw [Cv,mD,← eA];grind
 have v:=tu (u:=(n:Rat)-x.A) (M:=48000000) (d:=(F:Rat)) (E:=20736) (by grind) (by grind) (dE f0) f1 (by grind);refine ⟨n*F-a,b,hb1,b1,?_,?_,?_,?_,?_,?_⟩
 ·refine iT.1 ?_;rw [ea];show (-1000000000000:Rat)≤_;grind
 ·refine iT.1 ?_;rw [ea];show _≤(1000000000000:Rat);grind
 ·unfold wh;exact Zw (by grind) (sL hb1) (by rw [ea,← eB];grind)
 ·exact Bd.sm ⟨F,F1,F2,(In.int F1 n).sub iA,by grind,by grind⟩
 ·exact Bd.sm ⟨F,F1,F2,iA,by grind,by grind⟩
 ·have:=ZD F1 b0 b1;rw [← hB] at this;exact Bd.sm ⟨F,F1,F2,⟨b,hB⟩,by grind,by have:x.B≤82944000:=this.2;grind⟩
theorem RO {k:Nat} {x:Ln} (hk:k≤4) (hx:LB k x) (hp:0<x.B) {n:Int} (n0:0≤n) (n1:n≤1000):small (wh x (n:Rat)):=by obtain ⟨a,b,h1,h2,h3,h4,h5,_⟩:=ZE hk hx hp n0 n1;rw [h5];exact tz h1 (by omega) (by omega) (by omega)
theorem ZF {k:Nat} {x:Ln} (hk:k≤4) (hx:LB k x) (hp:0<x.B) {n:Int} (n0:0≤n) (n1:n≤1000) (K:Int→Int→Prop) :
  eW x.A.num x.A.den x.B.num x.B.den n K=K (wh x (n:Rat)).num (wh x (n:Rat)).den:=by
 obtain ⟨_,_,_,_,_,_,_,s1,s2,s3⟩:=ZE hk hx hp n0 n1;unfold eW Qs;rw [uD];refine (Kt (xC (by omega)) s2 _).trans ?_;rw [uE s1];refine (Kr s1 s3 (by grind) _).trans ?_;exact uE (RO hk hx hp n0 n1) _
section
variable (e:Es) (aW:dZ) (aE:tY) (aN:qP) (aL:iE)
variable (L0:Int) (c0 d0 Lr:List PV) (Rn:aB→Hp→Prop) (Q:Ex→aB→Hp→Prop) (q0 q1 t0 t1:Int)
theorem RP (s0:Se):wR e aW aE aN aL (gP 7 bR) (iH (L1 L0 c0 d0 Lr) 1) (cG [s0]) Q=EE aW aE aN aL L0 Lr [s0] (QA (L1 L0 c0 d0 Lr) [s0] Q):=by kernel_rfl
theorem RQ (s0 s1:Se):wR e aW aE aN aL (gP 7 bR) (iH (L1 L0 c0 d0 Lr) 2) (cG [s0,s1]) Q=EE aW aE aN aL L0 Lr [s0,s1] (QA (L1 L0 c0 d0 Lr) [s0,s1] Q):=by kernel_rfl
theorem RR (s0 s1 s2:Se):wR e aW aE aN aL (gP 7 bR) (iH (L1 L0 c0 d0 Lr) 3) (cG [s0,s1,s2]) Q=EE aW aE aN aL L0 Lr [s0,s1,s2] (QA (L1 L0 c0 d0 Lr) [s0,s1,s2] Q):=by kernel_rfl
theorem RS (s0:Se) (l0:L4):wR e aW aE aN aL (gP 3 (dN 7 bR)) (Cc (L1 L0 c0 d0 Lr) 1 t0 t1) (pQ [s0] [l0] q0 q1) Q=aD (sO q0 q1 t0 t1) (Q .ret (xE q0 q1) (pQ [s0] [l0] q0 q1)) (kD aN q0 q1 [s0] [l0] Cd false fun m=>Q .norm (oG (L1 L0 c0 d0 Lr) 1) (oE [s0] [l0] q0 q1 (mN 2 1 false m))):=by kernel_rfl
theorem RT (s0 s1:Se) (l0 l1:L4):wR e aW aE aN aL (gP 3 (dN 7 bR)) (Cc (L1 L0 c0 d0 Lr) 2 t0 t1) (pQ [s0,s1] [l0,l1] q0 q1) Q=aD (sO q0 q1 t0 t1) (Q .ret (xE q0 q1) (pQ [s0,s1] [l0,l1] q0 q1)) (kD aN q0 q1 [s0,s1] [l0,l1] Cd false fun m=>Q .norm (oG (L1 L0 c0 d0 Lr) 2) (oE [s0,s1] [l0,l1] q0 q1 (mN 2 2 false m))):=by kernel_rfl
theorem RU (s0 s1 s2:Se) (l0 l1 l2:L4):wR e aW aE aN aL (gP 3 (dN 7 bR)) (Cc (L1 L0 c0 d0 Lr) 3 t0 t1) (pQ [s0,s1,s2] [l0,l1,l2] q0 q1) Q=aD (sO q0 q1 t0 t1) (Q .ret (xE q0 q1) (pQ [s0,s1,s2] [l0,l1,l2] q0 q1)) (kD aN q0 q1 [s0,s1,s2] [l0,l1,l2] Cd false fun m=>Q .norm (oG (L1 L0 c0 d0 Lr) 3) (oE [s0,s1,s2] [l0,l1,l2] q0 q1 (mN 2 3 false m))):=by kernel_rfl
theorem RW (s0:Se) (l0:L4) (b0:Bool):wR e aW aE aN aL (dN 10 bR) (oG (L1 L0 c0 d0 Lr) 1) (oE [s0] [l0] q0 q1 (mN 2 1 false [b0])) (QB (bP fQ) 5 (cG [s0]).length Rn Q)=Rn (iH (L1 L0 c0 d0 Lr) 1) (cG (fU [s0] false [b0])):=by cases b0<;>kernel_rfl
theorem RX (s0 s1:Se) (l0 l1:L4) (b0 b1 b2:Bool):wR e aW aE aN aL (dN 10 bR) (oG (L1 L0 c0 d0 Lr) 2) (oE [s0,s1] [l0,l1] q0 q1 (mN 2 2 false [b0,b1,b2])) (QB (bP fQ) 5 (cG [s0,s1]).length Rn Q)=Rn (iH (L1 L0 c0 d0 Lr) 2) (cG (fU [s0,s1] false [b0,b1,b2])):=by cases b0<;>cases b1<;>cases b2<;>kernel_rfl
theorem RY (s0 s1 s2:Se) (l0 l1 l2:L4) (b0 b1 b2 b3 b4:Bool):wR e aW aE aN aL (dN 10 bR) (oG (L1 L0 c0 d0 Lr) 3) (oE [s0,s1,s2] [l0,l1,l2] q0 q1 (mN 2 3 false [b0,b1,b2,b3,b4])) (QB (bP fQ) 5 (cG [s0,s1,s2]).length Rn Q)=Rn (iH (L1 L0 c0 d0 Lr) 3) (cG (fU [s0,s1,s2] false [b0,b1,b2,b3,b4])):=by cases b0<;>cases b1<;>cases b2<;>cases b3<;>cases b4<;>kernel_rfl
end
section
variable (e:Es) (aW:dZ) (aE:tY) (aN:qP) (aL:iE)
variable (L0:Int) (c0 d0 Lr:List PV) (Rn:aB→Hp→Prop) (Q:Ex→aB→Hp→Prop) (q0 q1 t0 t1:Int)
theorem RZ (s0 s1 s2 s3:Se):wR e aW aE aN aL (gP 7 bR) (iH (L1 L0 c0 d0 Lr) 4) (cG [s0,s1,s2,s3]) Q=EE aW aE aN aL L0 Lr [s0,s1,s2,s3] (QA (L1 L0 c0 d0 Lr) [s0,s1,s2,s3] Q):=by kernel_rfl
end
section
variable (e:Es) (aW:dZ) (aE:tY) (aN:qP) (aL:iE)
variable (L0:Int) (c0 d0 Lr:List PV) (Rn:aB→Hp→Prop) (Q:Ex→aB→Hp→Prop) (q0 q1 t0 t1:Int)
theorem Sa (s0 s1 s2 s3:Se) (l0 l1 l2 l3:L4):wR e aW aE aN aL (gP 3 (dN 7 bR)) (Cc (L1 L0 c0 d0 Lr) 4 t0 t1) (pQ [s0,s1,s2,s3] [l0,l1,l2,l3] q0 q1) Q=aD (sO q0 q1 t0 t1) (Q .ret (xE q0 q1) (pQ [s0,s1,s2,s3] [l0,l1,l2,l3] q0 q1)) (kD aN q0 q1 [s0,s1,s2,s3] [l0,l1,l2,l3] Cd false fun m=>Q .norm (oG (L1 L0 c0 d0 Lr) 4) (oE [s0,s1,s2,s3] [l0,l1,l2,l3] q0 q1 (mN 2 4 false m))):=by kernel_rfl
end
section
variable (e:Es) (aW:dZ) (aE:tY) (aN:qP) (aL:iE)
variable (L0:Int) (c0 d0 Lr:List PV) (Rn:aB→Hp→Prop) (Q:Ex→aB→Hp→Prop) (q0 q1 t0 t1:Int)
theorem ua (s0 s1 s2 s3:Se) (l0 l1 l2 l3:L4) (b2 b3 b4 b5 b6:Bool):wR e aW aE aN aL (dN 10 bR) (oG (L1 L0 c0 d0 Lr) 4) (oE [s0,s1,s2,s3] [l0,l1,l2,l3] q0 q1 (mN 2 4 false [false,false,b2,b3,b4,b5,b6])) (QB (bP fQ) 5 (cG [s0,s1,s2,s3]).length Rn Q)=Rn (iH (L1 L0 c0 d0 Lr) 4) (cG (fU [s0,s1,s2,s3] false [false,false,b2,b3,b4,b5,b6])):=by cases b2<;>cases b3<;>cases b4<;>cases b5<;>cases b6<;>kernel_rfl
theorem ub (s0 s1 s2 s3:Se) (l0 l1 l2 l3:L4) (b2 b3 b4 b5 b6:Bool):wR e aW aE aN aL (dN 10 bR) (oG (L1 L0 c0 d0 Lr) 4) (oE [s0,s1,s2,s3] [l0,l1,l2,l3] q0 q1 (mN 2 4 false [false,true,b2,b3,b4,b5,b6])) (QB (bP fQ) 5 (cG [s0,s1,s2,s3]).length Rn Q)=Rn (iH (L1 L0 c0 d0 Lr) 4) (cG (fU [s0,s1,s2,s3] false [false,true,b2,b3,b4,b5,b6])):=by cases b2<;>cases b3<;>cases b4<;>cases b5<;>cases b6<;>kernel_rfl
theorem uc (s0 s1 s2 s3:Se) (l0 l1 l2 l3:L4) (b2 b3 b4 b5 b6:Bool):wR e aW aE aN aL (dN 10 bR) (oG (L1 L0 c0 d0 Lr) 4) (oE [s0,s1,s2,s3] [l0,l1,l2,l3] q0 q1 (mN 2 4 false [true,false,b2,b3,b4,b5,b6])) (QB (bP fQ) 5 (cG [s0,s1,s2,s3]).length Rn Q)=Rn (iH (L1 L0 c0 d0 Lr) 4) (cG (fU [s0,s1,s2,s3] false [true,false,b2,b3,b4,b5,b6])):=by cases b2<;>cases b3<;>cases b4<;>cases b5<;>cases b6<;>kernel_rfl
theorem ud (s0 s1 s2 s3:Se) (l0 l1 l2 l3:L4) (b2 b3 b4 b5 b6:Bool):wR e aW aE aN aL (dN 10 bR) (oG (L1 L0 c0 d0 Lr) 4) (oE [s0,s1,s2,s3] [l0,l1,l2,l3] q0 q1 (mN 2 4 false [true,true,b2,b3,b4,b5,b6])) (QB (bP fQ) 5 (cG [s0,s1,s2,s3]).length Rn Q)=Rn (iH (L1 L0 c0 d0 Lr) 4) (cG (fU [s0,s1,s2,s3] false [true,true,b2,b3,b4,b5,b6])):=by cases b2<;>cases b3<;>cases b4<;>cases b5<;>cases b6<;>kernel_rfl
end
def l4 (x:Ln):L4:=⟨x.A.num,x.A.den,x.B.num,x.B.den⟩
def cH (s:Sq):Se:=⟨s.1.len,aA s.1.cuts,aA s.1.dens,aA (nJ s.1),totC s.1.cuts s.1.dens,(s.2.1:Int),(s.2.2:Int)⟩
def kG (L:Int) (s:Sq):Prop:=cT L s.1∧s.1.len=L∧s.2.1<s.1.dens.length∧s.2.2<s.1.dens.length
def nL:List Sq→Ln→List Ln
 | [],_=>[]
 | s::S,x=>aR s x::nL S (aR s x)
def sP (q:Rat):List Sq→Ln→Bool→List Bool
 | [],_,_=>[]
 | s::S,x,b=>(if b then [decide (wh x (aF s.1 (s.2.1+1))=q)] else [])++decide (wh (aR s x) (aF s.1 (s.2.2+1))=q)::sP q S (aR s x) true
theorem ZG {L:Int}:∀ {S:List Sq} {x:Ln} {k:Nat} (K:List L4→Prop),(∀ s∈S,kG L s)→LB k x→k+S.length≤4→sN lA (S.map cH) (l4 x) K=K ((nL S x).map l4)
 | [],_,_,_,_,_,_=>rfl
 | s::S,x,k,K,h,hx,hk=>by obtain ⟨h1,h2,h3,h4⟩:=h s (gT ..);have hk':k+(S.length+1)≤4:=hk;show asr (decide ((cH s).up.length=(cH s).up.length)) (asr (decide (0+(cH s).up.length≤(cH s).up.length)) (lA s.1.len (aA s.1.cuts) (aA s.1.dens) (((cH s).up.drop 0).take (cH s).up.length) (totC s.1.cuts s.1.dens) (s.2.1:Int) (s.2.2:Int) x.A.num x.A.den x.B.num x.B.den fun a b c d=>sN lA (S.map cH) ⟨a,b,c,d⟩ fun l=>K (⟨a,b,c,d⟩::l)))=K (l4 (aR s x)::(nL S (aR s x)).map l4);rw [aO rfl,aO (by omega),nP,List.take_length,h2];refine (tx h1 h3 h4 hx (by omega) _).trans ?_;exact ZG (S:=S) (x:=aR s x) (k:=k+1) _ (fun t ht=>h t (fH _ ht)) (KH h1 h3 h4 hx) (by omega)
theorem ZH:∀ {S:List Sq} {x:Ln},S≠[]→kE ((nL S x).map l4)=l4 (mB S x)
 | [],_,h=>absurd rfl h
 | [_],_,_=>rfl
 | s::t::S,x,_=>ZH (S:=t::S) (x:=aR s x) (by simp)
theorem KM {L:Int} {c:Ck} {i k:Nat} {x:Ln} (h:cT L c) (hi:i<c.dens.length) (hk:k≤4) (hx:LB k x) (hp:0<x.B) (K:Int→Int→Prop) :
  fT eW (l4 x) (aA c.cuts) (i:Int) K=K (wh x (aF c (i+1))).num (wh x (aF c (i+1))).den:=by
 have l1:=h.1.l1;have l2:=h.1.l2;have e1:=fR (n:=(i:Int)+1) (by omega) (by omega);have lo:=h.1.lo (i:=i+1) (by omega);have hi':=h.1.hi (i:=i+1) (by omega);have ll:=h.1.len0;unfold fT HF;rw [e1,lK,cP,aO (by omega),aO (by omega),cX,fB (by omega),eJ (by omega)];exact ZF hk hx hp (by omega) (by omega) K
theorem Sb {L:Int} {s:Sq} {x:Ln} (h:kG L s) (hB:0≤x.B):0<(aR s x).B:=ED (den_pos h.1 h.2.2.2) (den_pos h.1 h.2.2.1) (oD h.1) hB
theorem ZI {L:Int} {c:Ck} {i k:Nat} {x:Ln} (h:cT L c) (hi:i<c.dens.length) (hk:k≤4) (hx:LB k x) (hp:0<x.B):small (wh x (aF c (i+1))):=by have l1:=h.1.l1;have lo:=h.1.lo (i:=i+1) (by omega);have hi':=h.1.hi (i:=i+1) (by omega);have ll:=h.1.len0;exact RO hk hx hp (by omega) (by omega)
theorem ZJ {L:Int}:∀ {S:List Sq} {x:Ln} {k:Nat} {b:Bool} {q:Rat} (K:Int→Int→Prop),(∀ s∈S,kG L s)→LB k x→k+S.length≤4→0≤x.B→(b=true→0<x.B)→small q →
  nH eW jX (S.map cH) ((nL S x).map l4) (l4 x) b q.num q.den K=K (mnS q (jZ S x b)).num (mnS q (jZ S x b)).den∧small (mnS q (jZ S x b))
 | [],_,_,_,_,_,_,_,_,_,_,hq=>⟨rfl,hq⟩
 | s::S,x,k,b,q,K,h,hx,hk,hB,hb,hq=>by
  have hs:=h s (gT ..);obtain ⟨h1,h2,h3,h4⟩:=hs;have hs:=h s (gT ..);have hk':k+(S.length+1)≤4:=hk;have hy:LB (k+1) (aR s x):=KH h1 h3 h4 hx;have yB:=Sb hs hB;have ih:=fun {q:Rat} (hq:small q)=>ZJ (S:=S) (x:=aR s x) (k:=k+1) (b:=true) (q:=q) K (fun t ht=>h t (fH _ ht)) hy (by omega) (dE yB) (fun _=>yB) hq
  have sy:=ZI h1 h4 (k:=k+1) (by omega) hy yB;have key:∀ {q:Rat},small q→(fT eW (l4 (aR s x)) (aA s.1.cuts) (s.2.2:Int) fun r0 r1=>jX r0 r1 q.num q.den fun t=>aD t (nH eW jX (S.map cH) ((nL S (aR s x)).map l4) (l4 (aR s x)) true r0 r1 K) (nH eW jX (S.map cH) ((nL S (aR s x)).map l4) (l4 (aR s x)) true q.num q.den K)) =
    K (mnS q (wh (aR s x) (aF s.1 (s.2.2+1))::jZ S (aR s x) true)).num (mnS q (wh (aR s x) (aF s.1 (s.2.2+1))::jZ S (aR s x) true)).den∧small (mnS q (wh (aR s x) (aF s.1 (s.2.2+1))::jZ S (aR s x) true)):=fun {q} hq=>by
   rw [KM h1 h4 (by omega) hy yB,ZB sy hq,(ih sy).1,(ih hq).1];rw [show ∀ l,mnS q (wh (aR s x) (aF s.1 (s.2.2+1))::l)=mnS (if wh (aR s x) (aF s.1 (s.2.2+1))<q then wh (aR s x) (aF s.1 (s.2.2+1)) else q) l from fun _=>rfl]
   by_cases c:wh (aR s x) (aF s.1 (s.2.2+1))<q
   ·rw [Eg c,aY,Sy c];exact ⟨rfl,(ih sy).2⟩
   ·rw [Os c,bE,Sz c];exact ⟨rfl,(ih hq).2⟩
  cases b with
  | false=>exact key hq
  | true=>
   have hp:=hb rfl;have sx:=ZI h1 h3 (by omega) hx hp;show (fT eW (l4 x) (aA s.1.cuts) (s.2.1:Int) fun r0 r1=>jX r0 r1 q.num q.den fun t=>aD t _ _)=_∧_;rw [KM h1 h3 (by omega) hx hp,ZB sx hq];have kx:=key sx;have kq:=key hq;show aD (decide (wh x (aF s.1 (s.2.1+1))<q)) (fT eW (l4 (aR s x)) (aA s.1.cuts) (s.2.2:Int) _) (fT eW (l4 (aR s x)) (aA s.1.cuts) (s.2.2:Int) _)=K (mnS q (wh x (aF s.1 (s.2.1+1))::wh (aR s x) (aF s.1 (s.2.2+1))::jZ S (aR s x) true)).num (mnS q (wh x (aF s.1 (s.2.1+1))::wh (aR s x) (aF s.1 (s.2.2+1))::jZ S (aR s x) true)).den∧small (mnS q (wh x (aF s.1 (s.2.1+1))::wh (aR s x) (aF s.1 (s.2.2+1))::jZ S (aR s x) true));rw [show ∀ l,mnS q (wh x (aF s.1 (s.2.1+1))::l)=mnS (if wh x (aF s.1 (s.2.1+1))<q then wh x (aF s.1 (s.2.1+1)) else q) l from fun _=>rfl]
   by_cases c:wh x (aF s.1 (s.2.1+1))<q
   ·rw [Eg c,aY,Sy c];exact kx
   ·rw [Os c,bE,Sz c];exact kq
theorem KN (r q:Rat):sO r.num r.den q.num q.den=decide (r=q):=by
 unfold sO
 by_cases c:r=q
 ·subst c;simp
 ·rw [Os c,Bool.and_true];refine EX.2 fun h=>c ?_
  rw [bK,beq_iff_eq,beq_iff_eq] at h;exact Rat.ext h.1 (by omega)
theorem ZK {L:Int} {q:Rat}:∀ {S:List Sq} {x:Ln} {k:Nat} {b:Bool} (K:List Bool→Prop),(∀ s∈S,kG L s)→LB k x→k+S.length≤4→0≤x.B→(b=true→0<x.B) →
  kD eW q.num q.den (S.map cH) ((nL S x).map l4) (l4 x) b K=K (sP q S x b)
 | [],_,_,_,_,_,_,_,_,_=>rfl
 | s::S,x,k,b,K,h,hx,hk,hB,hb=>by
  have hs:=h s (gT ..);obtain ⟨h1,h2,h3,h4⟩:=hs;have hs:=h s (gT ..);have hk':k+(S.length+1)≤4:=hk;have hy:LB (k+1) (aR s x):=KH h1 h3 h4 hx;have yB:=Sb hs hB;have ih:=fun (K:List Bool→Prop)=>ZK (q:=q) (S:=S) (x:=aR s x) (k:=k+1) (b:=true) K (fun t ht=>h t (fH _ ht)) hy (by omega) (dE yB) (fun _=>yB)
  have key:∀ K:List Bool→Prop,(fT eW (l4 (aR s x)) (aA s.1.cuts) (s.2.2:Int) fun r0 r1=>aD (sO r0 r1 q.num q.den) (kD eW q.num q.den (S.map cH) ((nL S (aR s x)).map l4) (l4 (aR s x)) true fun m=>K (true::m)) (kD eW q.num q.den (S.map cH) ((nL S (aR s x)).map l4) (l4 (aR s x)) true fun m=>K (false::m))) =
    K (decide (wh (aR s x) (aF s.1 (s.2.2+1))=q)::sP q S (aR s x) true):=fun K=>by
   rw [KM h1 h4 (by omega) hy yB,KN,ih,ih]
   cases decide (wh (aR s x) (aF s.1 (s.2.2+1))=q)<;>rfl
  cases b with
  | false=>exact key K
  | true=>
   have hp:=hb rfl;show (fT eW (l4 x) (aA s.1.cuts) (s.2.1:Int) fun r0 r1=>aD (sO r0 r1 q.num q.den) (fT eW (l4 (aR s x)) (aA s.1.cuts) (s.2.2:Int) _) (fT eW (l4 (aR s x)) (aA s.1.cuts) (s.2.2:Int) _))=K (decide (wh x (aF s.1 (s.2.1+1))=q)::decide (wh (aR s x) (aF s.1 (s.2.2+1))=q)::sP q S (aR s x) true);rw [KM h1 h3 (by omega) hx hp,KN];have kt:=key fun m=>K (true::m)
   have kf:=key fun m=>K (false::m)
   cases decide (wh x (aF s.1 (s.2.1+1))=q)
   ·exact kf
   ·exact kt
theorem ZL {b:Bool} {n m:Nat} (h:n<m) (hm:m<1000000):(bif b then i64.wrap ((n:Int)+1) else (n:Int))=((n+(if b=true then 1 else 0):Nat):Int):=by
 have e1:=fR (n:=(n:Int)+1) (by omega) (by omega)
 cases b
 ·rfl
 ·show i64.wrap ((n:Int)+1)=_;rw [e1];rfl
theorem ZM {L:Int} {q:Rat}:∀ {S:List Sq} {x:Ln} {b:Bool},(∀ s∈S,kG L s)→fU (S.map cH) b (sP q S x b)=(kA q S x b).map cH
 | [],_,b,_=>by cases b<;>rfl
 | s::S,x,b,h=>by
  obtain ⟨h1,h2,h3,h4⟩:=h s (gT ..);have l1:=h1.1.l1;have l2:=h1.1.l2;have ih:=ZM (q:=q) (S:=S) (x:=aR s x) (b:=true) (fun t ht=>h t (fH _ ht));have w1:=ZL (b:=decide (wh x (aF s.1 (s.2.1+1))=q)) h3 (by omega);have w2:=ZL (b:=decide (wh (aR s x) (aF s.1 (s.2.2+1))=q)) h4 (by omega)
  cases b with
  | true =>show Se.mk _ _ _ _ _ (bif decide (wh x (aF s.1 (s.2.1+1))=q) then i64.wrap ((s.2.1:Int)+1) else (s.2.1:Int)) (bif decide (wh (aR s x) (aF s.1 (s.2.2+1))=q) then i64.wrap ((s.2.2:Int)+1) else (s.2.2:Int))::fU (S.map cH) true (sP q S (aR s x) true)=_;rw [ih,w1,w2];simp only [kA,uL,cH,decide_eq_true_eq,true_and]
  | false =>show Se.mk _ _ _ _ _ (s.2.1:Int) (bif decide (wh (aR s x) (aF s.1 (s.2.2+1))=q) then i64.wrap ((s.2.2:Int)+1) else (s.2.2:Int))::fU (S.map cH) true (sP q S (aR s x) true)=_;rw [ih,w2];simp [kA,cH]
theorem gO.all {L:Int} {q:Rat}:∀ {S:List Sq} {x:Ln},gO L S x q→∀ s∈S,cT L s.1∧s.2.1<s.1.dens.length∧s.2.2<s.1.dens.length
 | [],_,_,s,h=>by cases h
 | t::S,x,⟨a,b,c,_,_,_,_,h⟩,s,hs=>by
  rcases qAp.1 hs with rfl|hs
  ·exact ⟨a,b,c⟩
  ·exact gO.all h s hs
theorem ZN {L:Int} {Lr:List PV} {S:List Sq} (h:∀ s∈S,kG L s) (hn:S≠[]) (h4:S.length≤4) (hL:0≤L∧L≤1000) (Q:List L4→Int→Int→Int→Int→Prop) :
  EE kP lA eW jX L Lr (S.map cH) Q=Q ((nL S fK).map l4) (kC L S).num (kC L S).den (eK L S).num (eK L S).den∧small (kC L S)∧small (eK L S):=by
 have hx:=Zu;have hz:(0:Rat)≤fK.B:=dP;obtain ⟨lb,lB⟩:LB S.length (mB S fK)∧0<(mB S fK).B:=by
  have key:∀ {S:List Sq} {x:Ln} {k:Nat},(∀ s∈S,kG L s)→LB k x→0≤x.B→LB (k+S.length) (mB S x)∧(S≠[]→0<(mB S x).B):=by
   intro S;induction S with
   | nil=>intro x k _ hx _;exact ⟨hx,fun k=>absurd rfl k⟩
   | cons s S ih=>
    intro x k h hx hB;have hs:=h s (gT ..);have yB:=Sb hs hB;obtain ⟨i1,i2⟩:=ih (x:=aR s x) (k:=k+1) (fun t ht=>h t (fH _ ht)) (KH hs.1 hs.2.2.1 hs.2.2.2 hx) (dE yB);refine ⟨by rw [iV,show k+(S.length+1)=k+1+S.length by omega];exact i1,fun _=>?_⟩
    cases S with
    | nil=>exact yB
    | cons t S=>exact i2 (by simp)
  have:=key h hx hz;rw [lF] at this;exact ⟨this.1,this.2 hn⟩
 have ss:small (kC L S):=RO h4 lb lB hL.1 hL.2;have v:=fun K=>ZJ (b:=false) (q:=kC L S) K h hx (by omega) hz (fun k=>by cases k) ss
 refine ⟨?_,ss,(v fun _ _=>True).2⟩;show sN lA (S.map cH) (l4 fK) (fun ls=>asr (decide ((0:Int)<((Lr.length+1:Nat):Int))) (eW (kE ls).a (kE ls).b (kE ls).c (kE ls).d L fun s0 s1=>nH eW jX (S.map cH) ls (l4 fK) false s0 s1 fun q0 q1=>Q ls s0 s1 q0 q1))=_;rw [ZG _ h hx (by omega),aO (by omega),ZH hn];refine (ZF h4 lb lB hL.1 hL.2 _).trans ?_;exact (v _).1
theorem Sc {E:Env} {cK:CK} {lp:LP} {G:aB} {yk:YK}:∀ (n:Nat) (c:TC) (F:aB) (H:Hp) (Q:Ex→aB→Hp→Prop),WC E cK lp G yk c F H Q =
  WC E cK lp G yk (gP n c) F H fun x F' H'=>match x with
   | .norm=>WC E cK lp G yk (dN n c) F' H' Q
   | .exit i=>Q (.exit i) F' H'
   | .ret=>Q .ret F' H'
   | .brk k i=>Q (.brk k i) F' H'
 | 0,c,F,H,Q=>by
  simp only [dN]
  cases c<;>simp only [gP,WC]
 | n+1,.seq a b,F,H,Q=>by
  simp only [dN,gP,WC];congr 1
  funext x F' H'
  cases x with
  | norm=>exact Sc n b F' H' Q
  | _=>rfl
 | n+1,.skip,F,H,Q=>by simp only [dN,gP,WC]
 | n+1,.ops _ _ _ _,F,H,Q=>by simp only [dN,gP,WC]
 | n+1,.cond _ _ _,F,H,Q=>by simp only [dN,gP,WC]
 | n+1,.block _ _,F,H,Q=>by simp only [dN,gP,WC]
 | n+1,.loop _ _,F,H,Q=>by simp only [dN,gP,WC]
 | n+1,.lG _ _,F,H,Q=>by simp only [dN,gP,WC]
 | n+1,.exit _,F,H,Q=>by simp only [dN,gP,WC]
 | n+1,.ret,F,H,Q=>by simp only [dN,gP,WC]
 | n+1,.bad,F,H,Q=>by simp only [dN,gP,WC]
 | n+1,.rangeF _ _ _ _ _ _ _,F,H,Q=>by simp only [dN,gP,WC]
 | n+1,.yret _ _ _ _ _ _ _,F,H,Q=>by simp only [dN,gP,WC]
 | n+1,.cut _,F,H,Q=>by simp only [dN,gP,WC]
 | n+1,.join _ _,F,H,Q=>by simp only [dN,gP,WC]
theorem ZO {E:Env} {P:EP} {id:Nat} {callK:CK} {lp:LP} {b:TC} (hP:aJ P E) (hG:Good P callK) (hf:dW b=true) (hl:LpOk P E lp [] b) {n:Nat} {F:aB} {H:Hp} {Q:Ex→aB→Hp→Prop} (h:UE E callK lp b n F H Q):bU P (.loop id b) F H Q:=
 bU.intro hP hG hf (dB.no _ _) hl (fun n F H=>UE E callK lp b n F H Q) (fun _ _ h=>h) (fun _ _ _ h=>h) n F H h
theorem ZP {E:Env} {P:EP} {id:Nat} {callK:CK} {lp:LP} {b:TC} (hP:aJ P E) (hG:Good P callK) (hf:dW b=true) (hh:eE (aZ b)=[]) (hl:LpOk P E lp [] b) {n:Nat} {F:aB} {H:Hp} {Q:Ex→aB→Hp→Prop} (h:HE E callK lp b n F H Q):bU P (.lG id b) F H Q:=
 bU.introG hP hG hf (dB.no _ _) hl (fun n F H=>HE E callK lp b n F H Q) (fun _ _ h=>h) (fun n F H h=>by
  have e:∀ F',fdels F' (eE (aZ b))=F':=fun F'=>by rw [hh];rfl
  simp only [e];exact h) n F H h
theorem bU.introQ {E:Env} {P:EP} {id:Nat} {callK:CK} {lp:LP} {b:TC} (hP:aJ P E) (hG:Good P callK) (hf:dW b=true) (hl:LpOk P E lp [] b) {Q:Ex→aB→Hp→Prop} (R:Nat→aB→Hp→Prop) (h0:∀ F H,¬R 0 F H)
  (hs:∀ n F H,R (n+1) F H→WC E callK lp [] bX b F H (QG b H.length (R n) Q)):∀ n F H,R n F H→bU P (.lG id b) F H Q:=
 bU.introG hP hG hf (dB.no _ _) hl R h0 hs
theorem bU.introP {id:Nat} {P:EP} {b:TC} {Q:Ex→aB→Hp→Prop} (R:Nat→aB→Hp→Prop) (h0:∀ F H,¬R 0 F H)
  (hs:∀ n F H,R (n+1) F H→cR P (aZ b) F H (QG b H.length (R n) Q)):∀ n F H,R n F H→bU P (.lG id b) F H Q:=
 bU.introC R h0 hs
section
variable (e:Es) (he:EG e)
abbrev ue:SE:=HG e kP lA eW jX
abbrev Af:SE:=pR e kP lA eW jX
abbrev xF:LP:=Ry e kP lA eW jX
theorem uf (he:EG e):SEOk (bM (E e)) (ue e):=bN (aJ.uni _) ⟨Et e he,Qr e he,Qu e he,Qw e he,trivial⟩
 ⟨⟨by kernel_rfl,by kernel_rfl,by kernel_rfl,fun as=>kW (by kernel_rfl) _,he.num _ (by kernel_rfl),by kernel_rfl,bC (by kernel_rfl)⟩,
  ⟨by kernel_rfl,by kernel_rfl,by kernel_rfl,fun as=>kW (by kernel_rfl) _,he.num _ (by kernel_rfl),by kernel_rfl,bC (by kernel_rfl)⟩,trivial⟩ he.ok
theorem ug (he:EG e):LpOk (bM (E e)) (E e) (Zy e kP lA eW jX) [] (mM DO).body:=
 fI (l:=[(31735400,.loop 31735400 (bP JG))]) ⟨fun F H Q h=>ZO (aJ.uni _) (eF (uf e he) 2) (by kernel_rfl) (bC (by kernel_rfl)) h,trivial⟩ (by kernel_rfl)
theorem HI (he:EG e):SEOk (bM (E e)) (Af e):=bN (aJ.uni _) ⟨Et e he,Qr e he,Qu e he,Qw e he,trivial⟩
 ⟨⟨by kernel_rfl,by kernel_rfl,by kernel_rfl,fun as=>kW (by kernel_rfl) _,he.num _ (by kernel_rfl),by kernel_rfl,ug e he⟩,
  ⟨by kernel_rfl,by kernel_rfl,by kernel_rfl,fun as=>kW (by kernel_rfl) _,he.num _ (by kernel_rfl),by kernel_rfl,bC (by kernel_rfl)⟩,
  ⟨by kernel_rfl,by kernel_rfl,by kernel_rfl,fun as=>kW (by kernel_rfl) _,he.num _ (by kernel_rfl),by kernel_rfl,bC (by kernel_rfl)⟩,trivial⟩ he.ok
theorem uh (he:EG e):LpOk (bM (E e)) (E e) (xF e) [] (bP fQ):=
 fI (l:=[(5508402,.lG 5508402 (bP JI)),(5508403,.lG 5508403 (qS JJ))])
  ⟨fun F H Q h=>ZP (aJ.uni _) (eF (HI e he) 4) (by kernel_rfl) (by kernel_rfl) (bC (by kernel_rfl)) h,
   fun F H Q h=>ZP (aJ.uni _) (eF (HI e he) 4) (by kernel_rfl) (by kernel_rfl) (bC (by kernel_rfl)) h,trivial⟩ (by kernel_rfl)
end
theorem ui:bP fQ=.block 5 bR:=by kernel_rfl
section
variable (e:Es) (aW:dZ) (aE:tY) (aN:qP) (aL:iE)
variable (L0:Int) (c0 d0 Lr:List PV) (Rn:aB→Hp→Prop) (Q:Ex→aB→Hp→Prop) (q0 q1 t0 t1:Int)
theorem uj {S:List Se} (hn:S≠[]) (h4:S.length≤4):wR e aW aE aN aL (gP 7 bR) (iH (L1 L0 c0 d0 Lr) S.length) (cG S) Q=EE aW aE aN aL L0 Lr S (QA (L1 L0 c0 d0 Lr) S Q):=
 match S,hn,h4 with
 | [],hn,_=>absurd rfl hn
 | [s0],_,_=>RP ..
 | [s0,s1],_,_=>RQ ..
 | [s0,s1,s2],_,_=>RR ..
 | [s0,s1,s2,s3],_,_=>RZ ..
 | _::_::_::_::_::_,_,h=>by simp only [iV] at h;omega
theorem uk {S:List Se} {ls:List L4} (hl:ls.length=S.length) (hn:S≠[]) (h4:S.length≤4):wR e aW aE aN aL (gP 3 (dN 7 bR)) (Cc (L1 L0 c0 d0 Lr) S.length t0 t1) (pQ S ls q0 q1) Q =
  aD (sO q0 q1 t0 t1) (Q .ret (xE q0 q1) (pQ S ls q0 q1)) (kD aN q0 q1 S ls Cd false fun m=>Q .norm (oG (L1 L0 c0 d0 Lr) S.length) (oE S ls q0 q1 (mN 2 S.length false m))):=
 match S,ls,hl,hn,h4 with
 | [],_,_,hn,_=>absurd rfl hn
 | [s0],[l0],_,_,_=>RS ..
 | [s0,s1],[l0,l1],_,_,_=>RT ..
 | [s0,s1,s2],[l0,l1,l2],_,_,_=>RU ..
 | [s0,s1,s2,s3],[l0,l1,l2,l3],_,_,_=>Sa ..
 | _::_::_::_::_::_,_,_,_,h=>by simp only [iV] at h;omega
theorem Sd (s0 s1 s2 s3:Se) (l0 l1 l2 l3:L4):∀ (b0 b1 b2 b3 b4 b5 b6:Bool),wR e aW aE aN aL (dN 10 bR) (oG (L1 L0 c0 d0 Lr) 4) (oE [s0,s1,s2,s3] [l0,l1,l2,l3] q0 q1 (mN 2 4 false [b0,b1,b2,b3,b4,b5,b6])) (QB (bP fQ) 5 (cG [s0,s1,s2,s3]).length Rn Q)=Rn (iH (L1 L0 c0 d0 Lr) 4) (cG (fU [s0,s1,s2,s3] false [b0,b1,b2,b3,b4,b5,b6]))
 | false,false,_,_,_,_,_=>ua ..
 | false,true,_,_,_,_,_=>ub ..
 | true,false,_,_,_,_,_=>uc ..
 | true,true,_,_,_,_,_=>ud ..
theorem ul {S:List Se} {ls:List L4} {m:List Bool} (hl:ls.length=S.length) (hm:m.length+1=2*S.length) (h4:S.length≤4):wR e aW aE aN aL (dN 10 bR) (oG (L1 L0 c0 d0 Lr) S.length) (oE S ls q0 q1 (mN 2 S.length false m)) (QB (bP fQ) 5 (cG S).length Rn Q)=Rn (iH (L1 L0 c0 d0 Lr) S.length) (cG (fU S false m)):=
 match S,ls,m,hl,hm,h4 with
 | [],_,_,_,h,_=>by simp only [List.length_nil] at h;omega
 | [s0],[l0],[b0],_,_,_=>RW ..
 | [s0,s1],[l0,l1],[b0,b1,b2],_,_,_=>RX ..
 | [s0,s1,s2],[l0,l1,l2],[b0,b1,b2,b3,b4],_,_,_=>RY ..
 | [s0,s1,s2,s3],[l0,l1,l2,l3],[b0,b1,b2,b3,b4,b5,b6],_,_,_=>Sd ..
 | _::_::_::_::_::_,_,_,_,_,h=>by simp only [iV] at h;omega
end
theorem um:dN 3 (dN 7 bR)=dN 10 bR:=by kernel_rfl
theorem uo:Cd=l4 fK:=by kernel_rfl
theorem ZQ:∀ (S:List Sq) (x:Ln),(nL S x).length=S.length
 | [],_=>rfl
 | s::S,x=>by show (nL S _).length+1=S.length+1;rw [ZQ S]
theorem ZR (q:Rat):∀ (S:List Sq) (x:Ln) (b:Bool),(sP q S x b).length+(if b=true∨S=[] then 0 else 1)=2*S.length
 | [],_,b=>by simp [sP]
 | s::S,x,b=>by
  have ih:=ZR q S (aR s x) true;simp only [true_or,if_true] at ih
  cases b<;>simp [sP]<;>omega
theorem ur (q:Rat) (S:List Sq) (x:Ln) (b:Bool):(kA q S x b).length=S.length:=by have:=Aaa length (HC q S x b);simpa using this
def runN (L:Int):Nat→List Sq→Option Rat
 | 0,_=>none
 | n+1,S=>if eK L S=kC L S then some (eK L S) else runN L n (kA (eK L S) S fK false)
theorem ZS {L:Int}:∀ {n:Nat} {S:List Sq} {q0:Rat},RI L S q0→kB S<n+fS S→∃ q,runN L n S=some q∧FinS L (S.map (·.1)) q
 | 0,S,q0,h,hn=>by have:=h.1.pos;omega
 | n+1,S,q0,h,hn=>by
  obtain ⟨r1,r2⟩:=round h
  by_cases c:eK L S=kC L S
  ·exact ⟨_,Sy c,r1 c⟩
  ·obtain ⟨k1,k2⟩:=r2 c;obtain ⟨q,e1,e2⟩:=ZS (n:=n) k1 (by rw [Zn];omega);refine ⟨q,(Sz c).trans e1,?_⟩;rw [HC] at e2;exact e2
theorem ut {E:Env} {cK:CK} {lp:LP} {id:Nat} {b c:TC} {k:Nat} {Rn:aB→Hp→Prop} {F:aB} {H:Hp} {Q:Ex→aB→Hp→Prop}:WC E cK lp [] bX (.block id c) F H (QG b k Rn Q)=WC E cK lp [] bX c F H (QB b id k Rn Q):=by simp only [WC];rfl
section
variable {e:Es} {L:Int} {S:List Sq} {c0 d0 Lr:List PV}
theorem uu (h:∀ s∈S,kG L s) (hn:S≠[]) (h4:S.length≤4) (hL:0≤L∧L≤1000) {Rn:aB→Hp→Prop} {Q:Ex→aB→Hp→Prop}
  (h1:eK L S=kC L S→∀ H,Q .ret (xE (eK L S).num (eK L S).den) H)
  (h2:eK L S≠kC L S→Rn (iH (L1 L c0 d0 Lr) S.length) (cG ((kA (eK L S) S fK false).map cH))) :
  WC (E e) (jK (Af e) 4) (xF e) [] bX (bP fQ) (iH (L1 L c0 d0 Lr) S.length) (cG (S.map cH)) (QG (bP fQ) (cG (S.map cH)).length Rn Q):=by
 have hn':S.map cH≠[]:=fun k=>hn (List.map_eq_nil_iff.1 k)
 have hl:(S.map cH).length=S.length:=mC ..;have e0:=Aaa (fun c=>WC (E e) (jK (Af e) 4) (xF e) [] bX c (iH (L1 L c0 d0 Lr) S.length) (cG (S.map cH)) (QG (bP fQ) (cG (S.map cH)).length Rn Q)) ui;refine (e0.trans ut).mpr ?_;refine (Sc 7 bR _ _ _).mpr ?_;have eA:=uj e kP lA eW jX L c0 d0 Lr (fun x F' H'=>match x with
   | .norm=>WC (E e) (jK (Af e) 4) (xF e) [] bX (dN 7 bR) F' H' (QB (bP fQ) 5 (cG (S.map cH)).length Rn Q)
   | .exit i=>QB (bP fQ) 5 (cG (S.map cH)).length Rn Q (.exit i) F' H'
   | .ret=>QB (bP fQ) 5 (cG (S.map cH)).length Rn Q .ret F' H'
   | .brk k i=>QB (bP fQ) 5 (cG (S.map cH)).length Rn Q (.brk k i) F' H') hn' (by rw [hl];exact h4)
 rw [hl] at eA;refine eA.mpr ?_;obtain ⟨eR,s1,s2⟩:=ZN h hn h4 hL (Lr:=Lr) (QA (L1 L c0 d0 Lr) (S.map cH) (fun x F' H'=>match x with
   | .norm=>WC (E e) (jK (Af e) 4) (xF e) [] bX (dN 7 bR) F' H' (QB (bP fQ) 5 (cG (S.map cH)).length Rn Q)
   | .exit i=>QB (bP fQ) 5 (cG (S.map cH)).length Rn Q (.exit i) F' H'
   | .ret=>QB (bP fQ) 5 (cG (S.map cH)).length Rn Q .ret F' H'
   | .brk k i=>QB (bP fQ) 5 (cG (S.map cH)).length Rn Q (.brk k i) F' H'))
 refine eR.mpr ?_;show WC (E e) (jK (Af e) 4) (xF e) [] bX (dN 7 bR) (Cc (L1 L c0 d0 Lr) (S.map cH).length (kC L S).num (kC L S).den) (pQ (S.map cH) ((nL S fK).map l4) (eK L S).num (eK L S).den) (QB (bP fQ) 5 (cG (S.map cH)).length Rn Q);refine (Sc 3 (dN 7 bR) _ _ _).mpr ?_;have hll:((nL S fK).map l4).length=(S.map cH).length:=by rw [mC,ZQ,hl]
 refine (uk e kP lA eW jX L c0 d0 Lr _ _ _ _ _ hll hn' (by rw [hl];exact h4)).mpr ?_;rw [KN]
 by_cases c:eK L S=kC L S
 ·rw [Eg c,aY];exact h1 c _
 ·rw [Os c,bE,uo,ZK _ h Zu (by omega) dP (fun k=>by cases k)];rw [um];have hm:(sP (eK L S) S fK false).length+1=2*(S.map cH).length:=by
   have:=ZR (eK L S) S fK false;rw [hl,← this,Sz (by simp [hn])]
  refine (ul e kP lA eW jX L c0 d0 Lr _ _ _ _ hll hm (by rw [hl];exact h4)).mpr ?_;rw [ZM h,hl];exact h2 c
def KO (L:Int) (c0 d0 Lr:List PV) (cs:List Ck) (q:Rat) (n:Nat) (F:aB) (H:Hp):Prop:=
 ∃ S q0,S.map (·.1)=cs∧F=iH (L1 L c0 d0 Lr) S.length∧H=cG (S.map cH)∧RI L S q0∧runN L n S=some q
theorem uv {cs:List Ck} (hcs:∀ c∈cs,c.len=L) (h4:cs.length≤4) (hL:0≤L∧L≤1000) {q:Rat} {Q:Ex→aB→Hp→Prop} (hQ:∀ H,Q .ret (xE q.num q.den) H) (n:Nat) (F:aB) (H:Hp) (h:KO L c0 d0 Lr cs q (n+1) F H) :
  WC (E e) (jK (Af e) 4) (xF e) [] bX (bP fQ) F H (QG (bP fQ) H.length (KO L c0 d0 Lr cs q n) Q):=by
 obtain ⟨S,q0,e1,e2,e3,hi,hr⟩:=h;rw [e2,e3];have hl:S.length=cs.length:=by rw [← e1,mC]
 have hS:∀ s∈S,kG L s:=fun s hs=>by
  obtain ⟨a,b,c⟩:=hi.1.all s hs;exact ⟨a,hcs _ (by rw [← e1];exact List.mem_map_of_mem hs),b,c⟩
 obtain ⟨_,r2⟩:=round hi;refine uu hS hi.2.2 (by omega) hL (fun c H=>?_) (fun c=>?_)
 ·have:eK L S=q:=by rw [runN,Sy c] at hr;exact Option.some.inj hr
  rw [this];exact hQ H
 ·rw [runN,Sz c] at hr;exact ⟨kA (eK L S) S fK false,_,by rw [HC];exact e1,by rw [ur],rfl,(r2 c).1,hr⟩
theorem uw (he:EG e) {cs:List Ck} (hcs:∀ c∈cs,c.len=L) (h4:cs.length≤4) (hL:0≤L∧L≤1000) {q:Rat} {Q:Ex→aB→Hp→Prop} (hQ:∀ H,Q .ret (xE q.num q.den) H) {n:Nat} {F:aB} {H:Hp} (h:KO L c0 d0 Lr cs q n F H):bU (bM (E e)) (.lG 5508404 (bP fQ)) F H Q:=
 bU.introQ (aJ.uni _) (eF (HI e he) 4) (by kernel_rfl) (uh e he) (KO L c0 d0 Lr cs q) (fun F H h=>by obtain ⟨S,q0,_,_,_,_,h⟩:=h;cases h) (uv hcs h4 hL hQ) n F H h
end
def sD (c:Ck) (i:Nat):Se:=⟨c.len,aA c.cuts,aA c.dens,aA ((List.range (i+1)).map (upC c)),upC c i,0,0⟩
end Go.Pf.Vc
