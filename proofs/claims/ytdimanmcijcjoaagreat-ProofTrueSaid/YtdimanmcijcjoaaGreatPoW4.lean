/- Part 4. -/
import Derived.Test.YtdimanmcijcjoaaGreatPoW3
open Go.IntKind (i64 u8 u64)
open List (length getD take drop replicate set map isEmpty)
noncomputable section
namespace Go.Pf.Vc
open Go Go.Pf
theorem Zt {h l y:Int} (hh:fE h) (hl:fE l) (hy:fE y) (hlt:h<y) {K:Int→Int→Prop}
  (k:K ((h*18446744073709551616+l)/y) ((h*18446744073709551616+l)%y)):yL h l y K:=by
 unfold fE at hh hl hy;unfold yL Oj;have b1:(y ==(0:Int))=false:=beq_eq_false_iff_ne.2 (by omega);have b2:decide (y≤h)=false:=Po (by omega);have b3:(!(decide (y=(0:Int))))=true:=by rw [Po (by omega)];rfl
 rw [b1,aV,b2,aV,b3]
 by_cases h0:h=0
 ·subst h0;have:((0:Int)==0)=true:=rfl;rw [this,aY,cH,cH,oM hl.1,Zs hl.1];have e:(0:Int)*18446744073709551616+l=l:=by omega
  rw [e] at k;have b4:l/y≤l:=Int.ediv_le_self _ hl.1;rw [aU ⟨BS hl.1 (by omega),by omega⟩];exact k
 ·have b4:(h ==(0:Int))=false:=beq_eq_false_iff_ne.2 h0;rw [b4,aV];refine zl ⟨by omega,by omega⟩ ?_;have hyn:y.toNat≠0:=by omega
  have c1:=Zo y.toNat
  have c2:=JZ hyn;have c3:blen y.toNat≤64:=by
   refine Nat.le_of_not_lt fun hc=>?_
   have:=EA (show 0<2 by omega) (show 64≤blen y.toNat-1 by omega);omega
  have c4:1≤blen y.toNat:=by
   refine Nat.le_of_not_lt fun hc=>?_
   have:blen y.toNat=0:=by omega
   rw [this] at c1;omega
  obtain ⟨m,hm⟩:∃ m,m=64-blen y.toNat:=⟨_,rfl⟩;have es:(64-(blen y.toNat:Int))=(m:Int):=by omega
  rw [es];have m63:m≤63:=by omega
  have e1:u64.wrap (m:Int)=m:=aU ⟨by omega,by omega⟩;have e2:u64.wrap ((64:Int)-m)=((64-m:Nat):Int):=by rw [aU ⟨by omega,by omega⟩];omega
  have e3:min ((m:Int)).toNat u64.bits=m:=by show min ((m:Int)).toNat 64=m;rw [cE];omega
  have e4:min (((64-m:Nat):Int)).toNat u64.bits=64-m:=by show min (((64-m:Nat):Int)).toNat 64=64-m;rw [cE];omega
  simp only [e1];rw [e2,e3,e4];have p64:(2:Int) ^ (64-m)*2 ^ m=18446744073709551616:=by
   rw [← Int.pow_add,show 64-m+m=64 by omega];rfl
  have p63:(2:Int) ^ (63-m)*2 ^ m=9223372036854775808:=by rw [← Int.pow_add,show 63-m+m=63 by omega];rfl
  have tp:(0:Int)<2 ^ m:=Int.pow_pos (by omega);have tp':(0:Int)<2 ^ (64-m):=Int.pow_pos (by omega);have y1:y<(2:Int) ^ (64-m):=by
   have:blen y.toNat=64-m:=by omega
   rw [this] at c1;have c1':((y.toNat:Nat):Int)<((2 ^ (64-m):Nat):Int):=by exact_mod_cast c1
   push_cast at c1'
   omega
  have y2:(2:Int) ^ (63-m)≤y:=by
   have:blen y.toNat-1=63-m:=by omega
   rw [this] at c2;have c2':((2 ^ (63-m):Nat):Int)≤((y.toNat:Nat):Int):=by exact_mod_cast c2
   push_cast at c2'
   omega
  have Y1:y*2 ^ m<18446744073709551616:=by have:=Int.mul_lt_mul_of_pos_right y1 tp;omega
  have Y2:9223372036854775808≤y*2 ^ m:=by have:=zV y2 (show (0:Int)≤2 ^ m by omega);omega
  have H1:(h+1)*2 ^ m≤y*2 ^ m:=zV (by omega) (by omega);have H2:(h+1)*2 ^ m=h*2 ^ m+2 ^ m:=by grind
  have H0:0≤h*2 ^ m:=iY hh.1 (by omega);have fd:Int.fdiv l (2 ^ (64-m))=l/2 ^ (64-m):=Br _ _ (by omega);have L1:=Int.mul_ediv_add_emod l (2 ^ (64-m));have L2:=Int.emod_nonneg l (show (2:Int) ^ (64-m)≠0 by omega);have L3:=Int.emod_lt_of_pos l tp';have L4:0≤l/2 ^ (64-m):=BS hl.1 (by omega);have L5:l/2 ^ (64-m)<2 ^ m:=by refine Int.ediv_lt_of_lt_mul tp' ?_;rw [Int.mul_comm,p64];omega
  have w1:u64.wrap (y*2 ^ m)=y*2 ^ m:=aU ⟨by omega,by omega⟩;have w2:u64.wrap (h*2 ^ m)=h*2 ^ m:=aU ⟨by omega,by omega⟩;have w3:u64.wrap (BitVec.ofInt u64.bits (h*2 ^ m)|||BitVec.ofInt u64.bits (l/2 ^ (64-m))).toNat=h*2 ^ m+l/2 ^ (64-m):=
   Zq hh.1 ⟨L4,L5⟩ ⟨by omega,by omega⟩ (by omega)
  have w4:u64.wrap (l*2 ^ m)=l%2 ^ (64-m)*2 ^ m:=by
   have e:l*2 ^ m=(l/2 ^ (64-m))*18446744073709551616+l%2 ^ (64-m)*2 ^ m:=by rw [← p64];obtain ⟨a,ha⟩:∃ a,a=l/2 ^ (64-m):=⟨_,rfl⟩;obtain ⟨b,hb⟩:∃ b,b=l%2 ^ (64-m):=⟨_,rfl⟩;obtain ⟨t,ht⟩:∃ t,t=(2:Int) ^ m:=⟨_,rfl⟩;obtain ⟨t',ht'⟩:∃ t,t=(2:Int) ^ (64-m):=⟨_,rfl⟩;rw [← ha,← hb,← ht'] at L1;rw [← ha,← hb,← ht,← ht'];rw [← L1];grind
   have e5:l%2 ^ (64-m)*2 ^ m<18446744073709551616:=by rw [← p64];exact Int.mul_lt_mul_of_pos_right L3 tp
   have e6:0≤l%2 ^ (64-m)*2 ^ m:=iY L2 (by omega);rw [e,vM];omega
  have e5:l%2 ^ (64-m)*2 ^ m<18446744073709551616:=by rw [← p64];exact Int.mul_lt_mul_of_pos_right L3 tp
  have e6:0≤l%2 ^ (64-m)*2 ^ m:=iY L2 (by omega);have eN:(h*18446744073709551616+l)*2 ^ m=(h*2 ^ m+l/2 ^ (64-m))*18446744073709551616+l%2 ^ (64-m)*2 ^ m:=by rw [← p64];obtain ⟨a,ha⟩:∃ a,a=l/2 ^ (64-m):=⟨_,rfl⟩;obtain ⟨b,hb⟩:∃ b,b=l%2 ^ (64-m):=⟨_,rfl⟩;obtain ⟨t,ht⟩:∃ t,t=(2:Int) ^ m:=⟨_,rfl⟩;obtain ⟨t',ht'⟩:∃ t,t=(2:Int) ^ (64-m):=⟨_,rfl⟩;rw [← ha,← hb,← ht'] at L1;rw [← ha,← hb,← ht,← ht'];rw [← L1];grind
  have U1:h*2 ^ m+l/2 ^ (64-m)<y*2 ^ m:=by omega
  have U0:0≤h*2 ^ m+l/2 ^ (64-m):=by omega
  rw [fd,w1,w2,w3,w4];have b5:(!(decide ((m:Int)<0)))=true:=by rw [Po (by omega)];rfl
  have b6:(!(decide (((64-m:Nat):Int)<0)))=true:=by rw [Po (by omega)];rfl
  rw [b5,b6,cH,cH,cH,cH];generalize h*2 ^ m+l/2 ^ (64-m)=u at *
  generalize hl0:l%2 ^ (64-m)*2 ^ m=v at *
  generalize hY:y*2 ^ m=Y at *
  rw [Br Y _ (by omega),Br v _ (by omega),vN ⟨by omega,by omega⟩,vN ⟨by omega,by omega⟩,oM U0];have b7:(!(decide (Y/4294967296=(0:Int))))=true:=by rw [Po (by omega)];rfl
  rw [b7,cH];obtain ⟨c,hyn1⟩:∃ a,a=Y/4294967296:=⟨_,rfl⟩;obtain ⟨d,hyn0⟩:∃ a,a=Y%4294967296:=⟨_,rfl⟩;obtain ⟨un1,hun1⟩:∃ a,a=v/4294967296:=⟨_,rfl⟩;obtain ⟨un0,hun0⟩:∃ a,a=v%4294967296:=⟨_,rfl⟩;rw [← hyn1,← hyn0,← hun1,← hun0];have d1:2147483648≤c∧c≤4294967295:=by omega
  have d0:0≤d∧d≤4294967295:=by omega
  have dn1:0≤un1∧un1≤4294967295:=by omega
  have dn0:0≤un0∧un0≤4294967295:=by omega
  have dY:Y=c*4294967296+d:=by omega
  have g1:=DI.init dY d1 d0 dn1 U0 U1;have x1:u64.wrap (u/c)=u/c:=aU ⟨g1.hq.1,by have:=g1.hq.2;omega⟩;have x2:u64.wrap (u-u64.wrap (u/c*c))=u-u/c*c:=by have r1:=g1.hr.1;have r2:0≤u/c*c:=iY g1.hq.1 (by omega);have r3:=g1.hr.2;rw [aU (n:=u/c*c) ⟨r2,by omega⟩,aU ⟨r1,by omega⟩]
  rw [x1,x2];have fin:∀ q1:Int,DG Y u un1 q1→∀ (un21:Int),un21=u*4294967296+un1-q1*Y→∀ q0,DG Y un21 un0 q0 →
    K (u64.wrap ((u64.wrap (q1*(4294967296:Int)))+q0)) (Int.fdiv (u64.wrap ((u64.wrap ((u64.wrap (un21*(4294967296:Int)))+un0))-(u64.wrap (q0*Y)))) (2 ^ (min ((m:Int)).toNat u64.bits))):=by
   intro q1 G1 un21 e21 q0 G0;obtain ⟨a1,a2,a3,a4⟩:=G1;obtain ⟨c1,c2,c3,c4⟩:=G0;have s1:(q1+1)*Y=q1*Y+Y:=by grind
   have s0:(q0+1)*Y=q0*Y+Y:=by grind
   have w5:u64.wrap (q1*4294967296)=q1*4294967296:=aU ⟨by omega,by omega⟩;have w6:u64.wrap (q1*4294967296+q0)=q1*4294967296+q0:=aU ⟨by omega,by omega⟩;rw [Zr (by omega) (by omega),w5,w6,e3,Br _ _ (by omega)];have eT:un21*4294967296+un0-q0*Y=(h*18446744073709551616+l-(q1*4294967296+q0)*y)*2 ^ m:=by
    have f1:(q1*4294967296+q0)*Y=q1*Y*4294967296+q0*Y:=by grind
    have f2:(h*18446744073709551616+l-(q1*4294967296+q0)*y)*2 ^ m=(h*18446744073709551616+l)*2 ^ m-(q1*4294967296+q0)*Y:=by rw [← hY,Int.sub_mul,Int.mul_assoc (q1*4294967296+q0)]
    rw [f2,f1,eN];omega
   rw [eT,Int.mul_ediv_cancel _ (by omega)];have r0:0≤h*18446744073709551616+l-(q1*4294967296+q0)*y:=by
    refine Int.not_lt.1 fun hc=>?_
    have:=zX hc tp;omega
   have r1:h*18446744073709551616+l-(q1*4294967296+q0)*y<y:=by
    refine Int.not_le.1 fun hc=>?_
    have:=zV hc (show (0:Int)≤2 ^ m by omega);omega
   obtain ⟨Q,hQ⟩:∃ Q,Q=q1*4294967296+q0:=⟨_,rfl⟩;rw [← hQ] at r0 r1 ⊢;have z1:(h*18446744073709551616+l)/y=Q:=by
    have:h*18446744073709551616+l=(h*18446744073709551616+l-Q*y)+Q*y:=by omega
    rw [this,Int.add_mul_ediv_right _ _ (by omega),Int.ediv_eq_zero_of_lt r0 r1];omega
   have z2:(h*18446744073709551616+l)%y=h*18446744073709551616+l-Q*y:=by have:=Int.mul_ediv_add_emod (h*18446744073709551616+l) y;rw [z1,Int.mul_comm] at this;omega
   rw [z1,z2] at k;exact k
  have mid:∀ q:Int,DG Y u un1 q→∀ (X:Int→Int→Int→Int→Int→Int→Int→Int→Int→Bool→Prop),(∀ q0 r0 b0,DG Y (u*4294967296+un1-q*Y) un0 q0→X Y m c d un0 q r0 (u*4294967296+un1-q*Y) q0 b0) →
    aA (!(decide (c=(0:Int)))) (∃ n:Nat,Dd yI X X n Y m c d un0 q ((u64.wrap ((u64.wrap ((u64.wrap ((u64.wrap (u*(4294967296:Int)))+un1))-(u64.wrap (q*Y))))-(u64.wrap ((u64.wrap (Int.tdiv (u64.wrap ((u64.wrap ((u64.wrap (u*(4294967296:Int)))+un1))-(u64.wrap (q*Y)))) c))*c))))) (u64.wrap ((u64.wrap ((u64.wrap (u*(4294967296:Int)))+un1))-(u64.wrap (q*Y)))) (u64.wrap (Int.tdiv (u64.wrap ((u64.wrap ((u64.wrap (u*(4294967296:Int)))+un1))-(u64.wrap (q*Y)))) c))):=by
   intro q G X hX;obtain ⟨a1,a2,a3,a4⟩:=G;have s1:(q+1)*Y=q*Y+Y:=by grind
   have b8:(!(decide (c=(0:Int))))=true:=by rw [Po (by omega)];rfl
   rw [b8,cH,Zr (by omega) (by omega),oM (by omega)];have g0:=DI.init dY d1 d0 dn0 (u:=u*4294967296+un1-q*Y) (by omega) (by omega);generalize u*4294967296+un1-q*Y=u2 at *
   have x1:u64.wrap (u2/c)=u2/c:=aU ⟨g0.hq.1,by have:=g0.hq.2;omega⟩;have x2:u64.wrap (u2-u64.wrap (u2/c*c))=u2-u2/c*c:=by have r1:=g0.hr.1;have r2:0≤u2/c*c:=iY g0.hq.1 (by omega);have r3:=g0.hr.2;have r4:=g0.hlt;rw [aU (n:=u2/c*c) ⟨r2,by omega⟩,aU ⟨r1,by omega⟩]
   rw [x1,x2];exact ⟨3,zp _ _ _ _ (fun q0 r0 b0 g=>hX q0 r0 b0 g) (fun q0 r0 b0 g=>hX q0 r0 b0 g) _ _ g0⟩
  have leaf:∀ {P:Prop},P→aA (!(decide ((m:Int)<0))) P:=fun p=>by rw [b5,cH];exact p
  refine ⟨3,zo _ _ _ _ (fun q r b G=>?_) (fun q r b G=>?_) _ _ g1⟩
  ·exact mid q G _ (fun q0 r0 b0 G0=>leaf (fin q G _ rfl q0 G0))
  ·exact mid q G _ (fun q0 r0 b0 G0=>leaf (fin q G _ rfl q0 G0))
theorem zq {h l y:Int} (hh:fE h) (hl:fE l) (hy:fE y) (h0:0<y) {K:Int→Prop}
  (k:K ((h*18446744073709551616+l)%y)):AR h l y K:=by
 unfold AR Oo;have b3:(!(decide (y=(0:Int))))=true:=by rw [Po (by omega)];rfl
 have a1:=Int.emod_nonneg h (show y≠0 by omega);have a2:=Int.emod_lt_of_pos h h0;have hh':=hh;unfold fE at hh hy;rw [b3,cH,Zs hh.1];refine Zt ⟨a1,by omega⟩ hl ⟨by omega,by omega⟩ a2 ?_;have e:(h%y*18446744073709551616+l)%y=(h*18446744073709551616+l)%y:=by rw [Int.add_emod,Int.mul_emod,Int.emod_emod,← Int.mul_emod,← Int.add_emod]
 rw [e];exact k
def fO (s:Bool) (a b:Int) (K:Int→Int→Int→Prop):Prop:=
 if a≤1000000000000000000∧b≤1000000000000000000 then K (if s then -a else a) b 0 else K 0 0 16
theorem Ka {s:Bool} {a b:Int} (ha:0≤a) (hb:0≤b) (K:Int→Int→Int→Prop):uL s a b K=fO s a b K:=by
 unfold uL Ot fO
 by_cases h:a≤1000000000000000000∧b≤1000000000000000000
 ·have e:decide ((if b>a then b else a)>(1000000000000000000:Int))=false:=by
   refine Po ?_;split<;>omega
  have w1:i64.wrap a=a:=eW ⟨by omega,by omega⟩;have w2:i64.wrap b=b:=eW ⟨by omega,by omega⟩;have w3:i64.wrap (0-a)=-a:=by rw [eW ⟨by omega,by omega⟩];omega
  rw [e,aV,Sj h,w1,w2,w3]
  cases s
  ·rfl
  ·rfl
 ·have e:decide ((if b>a then b else a)>(1000000000000000000:Int))=true:=by
   refine Os ?_;split<;>omega
  rw [e,aY,Sk h]
theorem Make_of {n d:Int} (hn:bS n) (hd:bS d) {K:Int→Int→Int→Prop}
  (k:if d=0 then K 0 0 18 else fO (decide (n<0) !=decide (d<0)) ((n.natAbs/Nat.gcd n.natAbs d.natAbs:Nat):Int) ((d.natAbs/Nat.gcd n.natAbs d.natAbs:Nat):Int) K):cU n d K:=by
 unfold cU OA
 by_cases h:d=0
 ·rw [Sj h] at k;have:(d ==(0:Int))=true:=beq_iff_eq.2 h;rw [this,aY];exact k
 ·rw [Sk h] at k;have:(d ==(0:Int))=false:=beq_eq_false_iff_ne.2 h;rw [this,aV,tB hn,tB hd];refine DZ _ _ _ ?_;have gp:0<Nat.gcd n.natAbs d.natAbs:=zY _ (by omega);have b3:(!(decide (((Nat.gcd n.natAbs d.natAbs:Nat):Int)=(0:Int))))=true:=by rw [Po (by omega)];rfl
  unfold bS at hn hd;have u1:n.natAbs/Nat.gcd n.natAbs d.natAbs≤n.natAbs:=rZ _ _;have u2:d.natAbs/Nat.gcd n.natAbs d.natAbs≤d.natAbs:=rZ _ _;rw [b3,cH,cH,oM (by omega),oM (by omega),← pB,← pB];generalize n.natAbs/Nat.gcd n.natAbs d.natAbs=A at *
  generalize d.natAbs/Nat.gcd n.natAbs d.natAbs=B at *
  rw [aU (n:=(A:Int)) ⟨by omega,by omega⟩,aU (n:=(B:Int)) ⟨by omega,by omega⟩,Ka (by omega) (by omega)];exact k
def mW (a c:Int) (b d:Int):Nat:=(a.natAbs/Nat.gcd a.natAbs d.natAbs)*(c.natAbs/Nat.gcd c.natAbs b.natAbs)
def mX (a c:Int) (b d:Int):Nat:=(b.natAbs/Nat.gcd c.natAbs b.natAbs)*(d.natAbs/Nat.gcd a.natAbs d.natAbs)
theorem QY {a b c d:Int} (ha:bS a) (hb:bS b) (hc:bS c) (hd:bS d) {K:Int→Int→Int→Prop}
  (k:if bY a b c d=0 then fO (decide (a<0) !=decide (c<0)) (mW a c b d) (mX a c b d) K else K 0 0 (bY a b c d)):rF a b c d K:=by
 unfold rF Ox;refine GA ha hb hc hd ?_
 by_cases h:bY a b c d=0
 ·rw [Sj h] at k;have:(bY a b c d !=(0:Int))=false:=by rw [h];rfl
  rw [this,aV,tB ha,tB hc];obtain ⟨⟨b1,b2,a1,a2,_⟩,d1,d2,c1,c2,_⟩:=nN.1 h;have wb:u64.wrap b=((b.natAbs:Nat):Int):=by rw [aU ⟨by omega,by omega⟩];omega
  have wd:u64.wrap d=((d.natAbs:Nat):Int):=by rw [aU ⟨by omega,by omega⟩];omega
  rw [wb,wd];refine DZ _ _ _ (DZ _ _ _ ?_);unfold mW mX at k;have g1:0<Nat.gcd a.natAbs d.natAbs:=zY _ (by omega);have g2:0<Nat.gcd c.natAbs b.natAbs:=zY _ (by omega);obtain ⟨g3,h3⟩:∃ g,g=Nat.gcd a.natAbs d.natAbs:=⟨_,rfl⟩;obtain ⟨g4,h4⟩:∃ g,g=Nat.gcd c.natAbs b.natAbs:=⟨_,rfl⟩;rw [← h3,← h4] at k ⊢;rw [← h3] at g1;rw [← h4] at g2;have n3:(!(decide ((g3:Int)=(0:Int))))=true:=by rw [Po (by omega)];rfl
  have n4:(!(decide ((g4:Int)=(0:Int))))=true:=by rw [Po (by omega)];rfl
  rw [n3,n4,cH,cH,oM (by omega),oM (by omega),oM (by omega),oM (by omega),← pB,← pB,← pB,← pB];have q1:a.natAbs/g3≤a.natAbs:=rZ _ _;have q2:c.natAbs/g4≤c.natAbs:=rZ _ _;have q3:b.natAbs/g4≤b.natAbs:=rZ _ _;have q4:d.natAbs/g3≤d.natAbs:=rZ _ _;generalize a.natAbs/g3=A at *
  generalize c.natAbs/g4=C at *
  generalize b.natAbs/g4=B at *
  generalize d.natAbs/g3=D at *
  rw [aU (n:=(A:Int)) ⟨by omega,by omega⟩,aU (n:=(C:Int)) ⟨by omega,by omega⟩,aU (n:=(B:Int)) ⟨by omega,by omega⟩,aU (n:=(D:Int)) ⟨by omega,by omega⟩,
   Bq ⟨by omega,by omega⟩ ⟨by omega,by omega⟩,cH,cH,Bq ⟨by omega,by omega⟩ ⟨by omega,by omega⟩]
  have m1:A*C≤1000000000000000000*1000000000000000000:=Af (by omega) (by omega);have m2:B*D≤1000000000000000000*1000000000000000000:=Af (by omega) (by omega);rw [← tN,← tN];generalize A*C=M at *
  generalize B*D=N at *
  have wm:u64.wrap ((M:Int)/18446744073709551616+(N:Int)/18446744073709551616)=(M:Int)/18446744073709551616+(N:Int)/18446744073709551616:=aU ⟨by omega,by omega⟩;rw [wm]
  by_cases hb:(M:Int)/18446744073709551616+(N:Int)/18446744073709551616>0
  ·rw [Os hb,aY];unfold fO at k;rw [Sk (by omega)] at k;exact k
  ·rw [Po hb,aV];have eM:(M:Int)%18446744073709551616=M:=by omega
   have eN:(N:Int)%18446744073709551616=N:=by omega
   rw [eM,eN]
   by_cases h0:(M:Int)>0
   ·rw [Os h0,aY,Ka (by omega) (by omega)];exact k
   ·rw [Po h0,aV,Ka (by omega) (by omega)];have hz:M=0:=by omega
    subst hz;unfold fO at k ⊢
    by_cases hN:(N:Int)≤1000000000000000000
    ·rw [Sj ⟨by omega,hN⟩] at k ⊢;have e:(if (decide (a<0) !=decide (c<0))=true then -((0:Nat):Int) else ((0:Nat):Int))=0:=by split<;>rfl
     rw [e] at k;exact k
    ·rw [Sk (by omega)] at k ⊢;exact k
 ·rw [Sk h] at k;have:(bY a b c d !=(0:Int))=true:=by rw [bne_iff_ne];exact h
  rw [this,aY];exact k
theorem RV.swap {c d:Int} (h:RV c d) (h0:0<c):RV d c:=by obtain ⟨d1,d2,c1,c2,g⟩:=h;exact ⟨by omega,c2,by omega,d2,by rw [qC];exact g⟩
theorem RV.swapn {c d:Int} (h:RV c d) (h0:c<0):RV (-d) (-c):=by obtain ⟨d1,d2,c1,c2,g⟩:=h;exact ⟨by omega,by omega,by omega,by omega,by rw [Int.natAbs_neg,Int.natAbs_neg,qC];exact g⟩
theorem zr {a b c d:Int} (ha:bS a) (hb:bS b) (hc:bS c) (hd:bS d) {K:Int→Int→Int→Prop}
  (k:if bY a b c d=0 then (if c=0 then K 0 0 18 else fO (decide (a<0) !=decide (c<0)) (mW a d b c) (mX a d b c) K) else K 0 0 (bY a b c d)):fJ a b c d K:=by
 unfold fJ Oz;refine GA ha hb hc hd ?_
 by_cases h:bY a b c d=0
 ·rw [Sj h] at k;have:(bY a b c d !=(0:Int))=false:=by rw [h];rfl
  rw [this,aV];obtain ⟨hab,hcd⟩:=nN.1 h;obtain ⟨d1,d2,c1,c2,_⟩:=id hcd
  by_cases h0:c=0
  ·rw [Sj h0] at k;have:(c ==(0:Int))=true:=beq_iff_eq.2 h0;rw [this,aY];exact k
  ·rw [Sk h0] at k;have:(c ==(0:Int))=false:=beq_eq_false_iff_ne.2 h0;rw [this,aV]
   by_cases hn:c<0
   ·rw [Os hn] at k;rw [Os hn,aY,eW (n:=0-d) ⟨by omega,by omega⟩,eW (n:=0-c) ⟨by omega,by omega⟩,Int.zero_sub,Int.zero_sub];have e:bY a b (-d) (-c)=0:=nN.2 ⟨hab,hcd.swapn hn⟩;refine QY ha hb ⟨by omega,by omega⟩ ⟨by omega,by omega⟩ ?_;rw [Sj e,Os (show -d<0 by omega)];unfold mW mX at k ⊢;rw [Int.natAbs_neg,Int.natAbs_neg];exact k
   ·rw [Po hn] at k;rw [Po hn,aV];have e:bY a b d c=0:=nN.2 ⟨hab,hcd.swap (by omega)⟩;refine QY ha hb hd hc ?_;rw [Sj e,Po (show ¬d<0 by omega)];exact k
 ·rw [Sk h] at k;have:(bY a b c d !=(0:Int))=true:=by rw [bne_iff_ne];exact h
  rw [this,aY];exact k
theorem zt {s:Bool} {hi lo p1 p3:Int} {g:Nat} (hh:fE hi) (hl:fE lo) (hg:0<g) (g1:(g:Int)≤1000000000000000000)
   (h1:0≤p1∧p1≤1000000000000000000) (h3:0≤p3∧p3≤1000000000000000000) {K:Int→Int→Int→Prop}
   (k:fO s (((hi*18446744073709551616+lo).toNat/Nat.gcd (hi*18446744073709551616+lo).toNat g:Nat):Int)
    (((p1.toNat/g)*(p3.toNat/Nat.gcd (hi*18446744073709551616+lo).toNat g):Nat):Int) K) :
   (AR hi lo (g:Int) (fun (b:Int)=>
 (pQ b (g:Int) (fun (a:Int)=>
 (aB (decide (hi≥a))
 (K (0:Int) (0:Int) (16:Int))
 (yL hi lo a (fun (c:Int) (_:Int)=>
 (aA (!(decide ((g:Int)=(0:Int))))
 (aA (!(decide (a=(0:Int))))
 (uK (u64.wrap (Int.tdiv (u64.wrap p1) (g:Int))) (u64.wrap (Int.tdiv (u64.wrap p3) a)) (fun (d:Int) (e:Int)=>
 (aB (decide (d>(0:Int)))
 (K (0:Int) (0:Int) (16:Int))
 (uL s c e (fun (f:Int) (h:Int) (i:Int)=>
 (K f h i))))))))))))))):=by
  unfold fE at hh hl;obtain ⟨X,hX⟩:∃ X:Nat,X=(hi*18446744073709551616+lo).toNat:=⟨_,rfl⟩;have eX:hi*18446744073709551616+lo=(X:Int):=by omega
  rw [← hX] at k;refine zq hh hl ⟨by omega,by omega⟩ (by omega) ?_;rw [eX,← Int.natCast_emod];refine DZ _ _ _ ?_;have eg:Nat.gcd (X%g) g=Nat.gcd X g:=by rw [qC,qC X,Nat.gcd_rec g X,qC]
  rw [eg];have gp:0<Nat.gcd X g:=zY _ hg;have gl:Nat.gcd X g≤g:=Nat.le_of_dvd hg (Ac _ _);generalize Nat.gcd X g=G at *
  by_cases hb:hi≥(G:Int)
  ·rw [Os hb,aY];unfold fO at k;have:18446744073709551616≤X/G:=by
    rw [Nat.le_div_iff_mul_le gp];omega
   rw [Sk (by omega)] at k;exact k
  ·rw [Po hb,aV];refine Zt hh hl ⟨by omega,by omega⟩ (by omega) ?_;rw [eX];have n3:(!(decide ((g:Int)=(0:Int))))=true:=by rw [Po (by omega)];rfl
   have n4:(!(decide ((G:Int)=(0:Int))))=true:=by rw [Po (by omega)];rfl
   have e1:u64.wrap p1=(p1.toNat:Int):=by rw [aU ⟨by omega,by omega⟩];omega
   have e3:u64.wrap p3=(p3.toNat:Int):=by rw [aU ⟨by omega,by omega⟩];omega
   rw [n3,n4,cH,cH,e1,e3,oM (by omega),oM (by omega),← pB,← pB,← pB];have q1:p1.toNat/g≤p1.toNat:=rZ _ _;have q3:p3.toNat/G≤p3.toNat:=rZ _ _;generalize p1.toNat/g=A at *
   generalize p3.toNat/G=B at *
   generalize X/G=N at *
   rw [aU (n:=(A:Int)) ⟨by omega,by omega⟩,aU (n:=(B:Int)) ⟨by omega,by omega⟩,Bq ⟨by omega,by omega⟩ ⟨by omega,by omega⟩,← tN];generalize A*B=D at *
   by_cases hd:((D:Int)/18446744073709551616)>0
   ·rw [Os hd,aY];unfold fO at k;rw [Sk (by omega)] at k;exact k
   ·rw [Po hd,aV];have eD:(D:Int)%18446744073709551616=D:=by omega
    rw [eD,Ka (by omega) (by omega)];exact k
theorem Zu {p q c:Int} {K:Int→Int→Prop} (hc:c.toNat≤1) (k:K (((p.toNat+q.toNat+c.toNat)%18446744073709551616:Nat):Int) (((p.toNat+q.toNat+c.toNat)/18446744073709551616:Nat):Int)):Cx p q c K:=by unfold Cx;rw [Os hc,cH];exact k
theorem Zv {p q c:Int} {K:Int→Int→Prop} (hc:c.toNat≤1) (k:K (((p.toNat+18446744073709551616-q.toNat-c.toNat)%18446744073709551616:Nat):Int) ((if q.toNat+c.toNat≤p.toNat then 0 else 1:Nat):Int)):Cy p q c K:=by
 unfold Cy;rw [Os hc,cH];have e:(bif Nat.ble (q.toNat+c.toNat) p.toNat then 0 else 1:Nat)=(if q.toNat+c.toNat≤p.toNat then 0 else 1:Nat):=by
  by_cases h:q.toNat+c.toNat≤p.toNat
  ·rw [Sj h,show Nat.ble (q.toNat+c.toNat) p.toNat=true from BP h];rfl
  ·rw [Sk h]
   cases hb:Nat.ble (q.toNat+c.toNat) p.toNat
   ·rfl
   ·exact absurd (zZ hb) h
 rw [e];exact k
theorem zu {X Y:Int} (hx:0≤X) (hy:0≤Y) (hs:X+Y<340282366920938463463374607431768211456) {F:Int→Int→Int→Int→Prop}
  (h:∀ c1 c2,F ((X+Y)%18446744073709551616) c1 ((X+Y)/18446744073709551616) c2) :
  Cx (X%18446744073709551616) (Y%18446744073709551616) 0 (fun lo c1=>Cx (X/18446744073709551616) (Y/18446744073709551616) c1 (fun hi c2=>F lo c1 hi c2)):=by
 obtain ⟨x,rfl⟩:∃ x:Nat,X=x:=⟨X.toNat,by omega⟩;obtain ⟨y,rfl⟩:∃ y:Nat,Y=y:=⟨Y.toNat,by omega⟩;refine Zu (by decide) (Zu (by omega) ?_);have e1:(((((x:Int)%18446744073709551616).toNat+((y:Int)%18446744073709551616).toNat+(0:Int).toNat)%18446744073709551616:Nat):Int)=((x:Int)+y)%18446744073709551616:=by omega
 have e2:(((((x:Int)/18446744073709551616).toNat+((y:Int)/18446744073709551616).toNat+(((((x:Int)%18446744073709551616).toNat+((y:Int)%18446744073709551616).toNat+(0:Int).toNat)/18446744073709551616:Nat):Int).toNat)%18446744073709551616:Nat):Int)=((x:Int)+y)/18446744073709551616:=by omega
 rw [e1,e2];exact h _ _
theorem Kb {X Y:Int} (hy:0≤Y) (hxy:Y≤X) (hs:X<340282366920938463463374607431768211456) {F:Int→Int→Int→Int→Prop}
  (h:∀ c1 c2,F ((X-Y)%18446744073709551616) c1 ((X-Y)/18446744073709551616) c2) :
  Cy (X%18446744073709551616) (Y%18446744073709551616) 0 (fun lo c1=>Cy (X/18446744073709551616) (Y/18446744073709551616) c1 (fun hi c2=>F lo c1 hi c2)):=by
 obtain ⟨x,rfl⟩:∃ x:Nat,X=x:=⟨X.toNat,by omega⟩;obtain ⟨y,rfl⟩:∃ y:Nat,Y=y:=⟨Y.toNat,by omega⟩;refine Zv (by decide) (Zv (by split<;>omega) ?_);have e1:(((((x:Int)%18446744073709551616).toNat+18446744073709551616-((y:Int)%18446744073709551616).toNat-(0:Int).toNat)%18446744073709551616:Nat):Int)=((x:Int)-y)%18446744073709551616:=by omega
 rw [e1]
 by_cases hb:((y:Int)%18446744073709551616).toNat+(0:Int).toNat≤((x:Int)%18446744073709551616).toNat
 ·rw [Sj hb];have e2:(((((x:Int)/18446744073709551616).toNat+18446744073709551616-((y:Int)/18446744073709551616).toNat-((0:Nat):Int).toNat)%18446744073709551616:Nat):Int)=((x:Int)-y)/18446744073709551616:=by omega
  rw [e2];exact h _ _
 ·rw [Sk hb];have e2:(((((x:Int)/18446744073709551616).toNat+18446744073709551616-((y:Int)/18446744073709551616).toNat-((1:Nat):Int).toNat)%18446744073709551616:Nat):Int)=((x:Int)-y)/18446744073709551616:=by omega
  rw [e2];exact h _ _
def gZ (s:Bool) (Z p1 p3:Int) (g:Nat) (K:Int→Int→Int→Prop):Prop:=
 if Z=0 then K 0 1 0 else fO s ((Z.toNat/Nat.gcd Z.toNat g:Nat):Int) (((p1.toNat/g)*(p3.toNat/Nat.gcd Z.toNat g):Nat):Int) K
theorem GB {s:Bool} {Z p1 p3:Int} {g:Nat} (hz:0≤Z) (hz2:Z<340282366920938463463374607431768211456) (hg:0<g) (g1:(g:Int)≤1000000000000000000)
   (h1:0≤p1∧p1≤1000000000000000000) (h3:0≤p3∧p3≤1000000000000000000) {K:Int→Int→Int→Prop}
   (k:gZ s Z p1 p3 g K) :
   aB (Z/18446744073709551616 ==(0:Int)) (aB (Z%18446744073709551616 ==(0:Int)) (K 0 1 0) (AR (Z/18446744073709551616) (Z%18446744073709551616) (g:Int) (fun (b:Int)=>
 (pQ b (g:Int) (fun (a:Int)=>
 (aB (decide ((Z/18446744073709551616)≥a))
 (K (0:Int) (0:Int) (16:Int))
 (yL (Z/18446744073709551616) (Z%18446744073709551616) a (fun (c:Int) (_:Int)=>
 (aA (!(decide ((g:Int)=(0:Int))))
 (aA (!(decide (a=(0:Int))))
 (uK (u64.wrap (Int.tdiv (u64.wrap p1) (g:Int))) (u64.wrap (Int.tdiv (u64.wrap p3) a)) (fun (d:Int) (e:Int)=>
 (aB (decide (d>(0:Int)))
 (K (0:Int) (0:Int) (16:Int))
 (uL s c e (fun (f:Int) (h:Int) (i:Int)=>
 (K f h i)))))))))))))))) (AR (Z/18446744073709551616) (Z%18446744073709551616) (g:Int) (fun (b:Int)=>
 (pQ b (g:Int) (fun (a:Int)=>
 (aB (decide ((Z/18446744073709551616)≥a))
 (K (0:Int) (0:Int) (16:Int))
 (yL (Z/18446744073709551616) (Z%18446744073709551616) a (fun (c:Int) (_:Int)=>
 (aA (!(decide ((g:Int)=(0:Int))))
 (aA (!(decide (a=(0:Int))))
 (uK (u64.wrap (Int.tdiv (u64.wrap p1) (g:Int))) (u64.wrap (Int.tdiv (u64.wrap p3) a)) (fun (d:Int) (e:Int)=>
 (aB (decide (d>(0:Int)))
 (K (0:Int) (0:Int) (16:Int))
 (uL s c e (fun (f:Int) (h:Int) (i:Int)=>
 (K f h i))))))))))))))):=by
  unfold gZ at k;have eZ:Z/18446744073709551616*18446744073709551616+Z%18446744073709551616=Z:=by omega
  by_cases h0:Z=0
  ·rw [Sj h0] at k;subst h0;have e1:((0:Int)/18446744073709551616 ==(0:Int))=true:=by decide
   have e2:((0:Int)%18446744073709551616 ==(0:Int))=true:=by decide
   rw [e1,aY,e2,aY];exact k
  ·rw [Sk h0] at k;have t:=zt (s:=s) (hi:=Z/18446744073709551616) (lo:=Z%18446744073709551616) (p1:=p1) (p3:=p3) (g:=g) (K:=K) ⟨by omega,by omega⟩ ⟨by omega,by omega⟩ hg g1 h1 h3 (by rw [eZ];exact k)
   cases h4:(Z/18446744073709551616 ==(0:Int))
   ·rw [aV];exact t
   ·rw [aY]
    cases h2:(Z%18446744073709551616 ==(0:Int))
    ·rw [aV];exact t
    ·have:=beq_iff_eq.1 h2;have:=beq_iff_eq.1 h4;exact absurd (show Z=0 by omega) h0
theorem QZ {s s':Bool} {Z Z' p1 p3:Int} {g:Nat} {K:Int→Int→Int→Prop} (k:gZ s' Z' p1 p3 g K) (hz:Z=Z') (hs:Z≠0→s=s'):gZ s Z p1 p3 g K:=by
 subst hz;unfold gZ at k ⊢
 by_cases h:Z=0
 ·rw [Sj h] at k ⊢;exact k
 ·rw [Sk h] at k ⊢;rw [hs h];exact k
theorem Zw {a b c d:Int} (ha:bS a) (hb:bS b) (hc:bS c) (hd:bS d) {K:Int→Int→Int→Prop}
  (k:if bY a b c d=0 then gZ (decide (a*(d/(Nat.gcd b.natAbs d.natAbs:Nat))+c*(b/(Nat.gcd b.natAbs d.natAbs:Nat))<0))
    ((a*(d/(Nat.gcd b.natAbs d.natAbs:Nat))+c*(b/(Nat.gcd b.natAbs d.natAbs:Nat))).natAbs:Int) b d (Nat.gcd b.natAbs d.natAbs) K
   else K 0 0 (bY a b c d)):ya1 a b c d K:=by
 unfold ya1 Ov;refine GA ha hb hc hd ?_
 by_cases h:bY a b c d=0
 ·rw [Sj h] at k;have:(bY a b c d !=(0:Int))=false:=by rw [h];rfl
  rw [this,aV];obtain ⟨⟨b1,b2,a1,a2,_⟩,d1,d2,c1,c2,_⟩:=nN.1 h;have wb:u64.wrap b=((b.natAbs:Nat):Int):=by rw [aU ⟨by omega,by omega⟩];omega
  have wd:u64.wrap d=((d.natAbs:Nat):Int):=by rw [aU ⟨by omega,by omega⟩];omega
  have g1:0<Nat.gcd b.natAbs d.natAbs:=zY _ (by omega);have g2:Nat.gcd b.natAbs d.natAbs≤d.natAbs:=Nat.le_of_dvd (by omega) (Ac _ _);have go:pQ (u64.wrap b) (u64.wrap d)=pQ ((b.natAbs:Nat):Int) ((d.natAbs:Nat):Int):=by rw [wb,wd]
  rw [go];refine DZ _ _ _ ?_;generalize Nat.gcd b.natAbs d.natAbs=g at *
  have n3:(!(decide ((g:Int)=(0:Int))))=true:=by rw [Po (by omega)];rfl
  have q1:0≤b/(g:Int):=BS (by omega) (by omega);have q2:0≤d/(g:Int):=BS (by omega) (by omega);have q3:b/(g:Int)≤b:=Int.ediv_le_self _ (by omega);have q4:d/(g:Int)≤d:=Int.ediv_le_self _ (by omega);have ed:u64.wrap (Int.tdiv (u64.wrap d) (g:Int))=d/(g:Int):=by rw [aU (n:=d) ⟨by omega,by omega⟩,oM (by omega),aU ⟨by omega,by omega⟩]
  have eb:u64.wrap (Int.tdiv (u64.wrap b) (g:Int))=b/(g:Int):=by rw [aU (n:=b) ⟨by omega,by omega⟩,oM (by omega),aU ⟨by omega,by omega⟩]
  have ylu:∀ {c:Bool} {P:Prop},c=true→P→aA c P:=fun h p=>by rw [h,cH];exact p
  rw [tB ha];refine ylu n3 ?_;rw [Bq (fE.abs ha) (by rw [ed];exact ⟨by omega,by omega⟩),tB hc];refine ylu n3 ?_;rw [Bq (fE.abs hc) (by rw [eb];exact ⟨by omega,by omega⟩)];obtain ⟨X,hX⟩:∃ X,X=((a.natAbs:Nat):Int)*u64.wrap (Int.tdiv (u64.wrap d) (g:Int)):=⟨_,rfl⟩;obtain ⟨Y,hY⟩:∃ Y,Y=((c.natAbs:Nat):Int)*u64.wrap (Int.tdiv (u64.wrap b) (g:Int)):=⟨_,rfl⟩;rw [← hX,← hY];rw [ed] at hX;rw [eb] at hY;have X0:0≤X:=by rw [hX];exact iY (by omega) q2
  have Y0:0≤Y:=by rw [hY];exact iY (by omega) q1
  have X1:X≤1000000000000000000*1000000000000000000:=by rw [hX];exact sB (by omega) (by omega) q2 (by omega)
  have Y1:Y≤1000000000000000000*1000000000000000000:=by rw [hY];exact sB (by omega) (by omega) q1 (by omega)
  have ax:a*(d/(g:Int))=if a<0 then -X else X:=by
   split
   ·rw [hX,show ((a.natAbs:Nat):Int)=-a by omega,Int.neg_mul,Int.neg_neg]
   ·rw [hX,show ((a.natAbs:Nat):Int)=a by omega]
  have cy:c*(b/(g:Int))=if c<0 then -Y else Y:=by
   split
   ·rw [hY,show ((c.natAbs:Nat):Int)=-c by omega,Int.neg_mul,Int.neg_neg]
   ·rw [hY,show ((c.natAbs:Nat):Int)=c by omega]
  rw [ax,cy] at k;clear hX hY ax cy ed eb n3
  by_cases hs:decide (a<0)=decide (c<0)
  ·have e:(decide (a<0)==decide (c<0))=true:=beq_iff_eq.2 hs;rw [e,aY];refine zu X0 Y0 (by omega) (fun c1 c2=>?_);refine GB (by omega) (by omega) g1 (by omega) ⟨by omega,b2⟩ ⟨by omega,d2⟩ (QZ k ?_ ?_)
   ·by_cases h1:a<0
    ·have h2:c<0:=by simpa [h1] using hs.symm
     rw [Sj h1,Sj h2];omega
    ·have h2:¬c<0:=by simpa [h1] using hs.symm
     rw [Sk h1,Sk h2];omega
   ·intro h0
    by_cases h1:a<0
    ·have h2:c<0:=by simpa [h1] using hs.symm
     rw [Sj h1,Sj h2,Os h1,Os (by omega)]
    ·have h2:¬c<0:=by simpa [h1] using hs.symm
     rw [Sk h1,Sk h2,Po h1,Po (by omega)]
  ·have e:(decide (a<0)==decide (c<0))=false:=beq_eq_false_iff_ne.2 hs;rw [e,aV];have h12:(a<0∧¬c<0)∨(¬a<0∧c<0):=by
    by_cases h1:a<0<;>by_cases h2:c<0<;>simp [h1,h2] at hs ⊢
   by_cases hlt:X<Y
   ·have kk:gZ (!decide (a<0)) (Y-X) b d g K:=by
     refine QZ k ?_ ?_
     ·rcases h12 with ⟨h1,h2⟩ | ⟨h1,h2⟩
      ·rw [Sj h1,Sk h2];omega
      ·rw [Sk h1,Sj h2];omega
     ·intro h0;rcases h12 with ⟨h1,h2⟩ | ⟨h1,h2⟩
      ·rw [Sj h1,Sk h2,Os h1,Po (by omega)];rfl
      ·rw [Sk h1,Sj h2,Po h1,Os (by omega)];rfl
    by_cases h1:X/18446744073709551616<Y/18446744073709551616
    ·rw [Os h1,aY];refine Kb X0 (by omega) (by omega) (fun c1 c2=>?_);exact GB (by omega) (by omega) g1 (by omega) ⟨by omega,b2⟩ ⟨by omega,d2⟩ kk
    ·have e1:(X/18446744073709551616==Y/18446744073709551616)=true:=beq_iff_eq.2 (by omega);rw [Po h1,aV,e1,aY,Os (show X%18446744073709551616<Y%18446744073709551616 by have:=beq_iff_eq.1 e1;omega),aY];refine Kb X0 (by omega) (by omega) (fun c1 c2=>?_);exact GB (by omega) (by omega) g1 (by omega) ⟨by omega,b2⟩ ⟨by omega,d2⟩ kk
   ·have kk:gZ (decide (a<0)) (X-Y) b d g K:=by
     refine QZ k ?_ ?_
     ·rcases h12 with ⟨h1,h2⟩ | ⟨h1,h2⟩
      ·rw [Sj h1,Sk h2];omega
      ·rw [Sk h1,Sj h2];omega
     ·intro h0;rcases h12 with ⟨h1,h2⟩ | ⟨h1,h2⟩
      ·rw [Sj h1,Sk h2,Os h1,Os (by omega)]
      ·rw [Sk h1,Sj h2,Po h1,Po (by omega)]
    have h1:¬X/18446744073709551616<Y/18446744073709551616:=by omega
    rw [Po h1,aV]
    cases e1:(X/18446744073709551616==Y/18446744073709551616)
    ·rw [aV];refine Kb Y0 (by omega) (by omega) (fun c1 c2=>?_);exact GB (by omega) (by omega) g1 (by omega) ⟨by omega,b2⟩ ⟨by omega,d2⟩ kk
    ·rw [aY,Po (show ¬X%18446744073709551616<Y%18446744073709551616 by have:=beq_iff_eq.1 e1;omega),aV];refine Kb Y0 (by omega) (by omega) (fun c1 c2=>?_);exact GB (by omega) (by omega) g1 (by omega) ⟨by omega,b2⟩ ⟨by omega,d2⟩ kk
 ·rw [Sk h] at k;have:(bY a b c d !=(0:Int))=true:=by rw [bne_iff_ne];exact h
  rw [this,aY];exact k
theorem RV.neg {c d:Int} (h:RV c d):RV (-c) d:=by obtain ⟨d1,d2,c1,c2,g⟩:=h;exact ⟨d1,d2,by omega,by omega,by rw [Int.natAbs_neg];exact g⟩
theorem zv {a b c d:Int} (ha:bS a) (hb:bS b) (hc:bS c) (hd:bS d) {K:Int→Int→Int→Prop}
  (k:if bY a b c d=0 then gZ (decide (a*(d/(Nat.gcd b.natAbs d.natAbs:Nat))+-c*(b/(Nat.gcd b.natAbs d.natAbs:Nat))<0))
    ((a*(d/(Nat.gcd b.natAbs d.natAbs:Nat))+-c*(b/(Nat.gcd b.natAbs d.natAbs:Nat))).natAbs:Int) b d (Nat.gcd b.natAbs d.natAbs) K
   else K 0 0 (bY a b c d)):sS a b c d K:=by
 unfold sS Ow;refine GA ha hb hc hd ?_
 by_cases h:bY a b c d=0
 ·rw [Sj h] at k;have:(bY a b c d !=(0:Int))=false:=by rw [h];rfl
  rw [this,aV];obtain ⟨hab,hcd⟩:=nN.1 h;obtain ⟨d1,d2,c1,c2,_⟩:=id hcd;rw [eW (n:=0-c) ⟨by omega,by omega⟩,Int.zero_sub];refine Zw ha hb ⟨by omega,by omega⟩ hd ?_;rw [Sj (nN.2 ⟨hab,hcd.neg⟩)];exact k
 ·rw [Sk h] at k;have:(bY a b c d !=(0:Int))=true:=by rw [bne_iff_ne];exact h
  rw [this,aY];exact k
def aI (l:List Int):List PV:=l.map (PV.int .i64)
theorem jL (l:List Int):(aI l).length=l.length:=cP ..
theorem Zx {l:List Int} {i:Nat} (h:i<l.length):getD (aI l) i .nils=.int .i64 (l.getD i 0):=by unfold aI;rw [dH,dH,mJ,cN h];rfl
theorem kX {l:List Int} {i:Nat} (h:i<l.length):aK (getD (aI l) i .nils)=l.getD i 0:=by rw [Zx h];rfl
theorem Bs {l:List Int} {i:Nat} (h:i<l.length):aF zI (getD (aI l) i .nils)=true:=by rw [Zx h];rfl
theorem ylu {c:Bool} {P:Prop} (h:c=true) (p:P):aA c P:=by rw [h,cH];exact p
theorem tE {c:Prop} [Decidable c] {P:Prop} (h:c) (p:P):aA (decide c) P:=ylu (Os h) p
theorem Kc {c:Prop} [Decidable c] {P Q:Prop} (h:c) (p:P):aB (decide c) P Q:=by rw [Os h,aY];exact p
theorem Ea {c:Prop} [Decidable c] {P Q:Prop} (h:¬c) (q:Q):aB (decide c) P Q:=by rw [Po h,aV];exact q
def GC (m x:Int):Int:=if x<m then x else m
theorem zw {l:List Int} (hl:l.length<9223372036854775807) (x0:List PV→Int→Int→Bool→Prop) :
  ∀ (rest:List Int) (i:Nat) (m:Int) (n:Nat),l.drop i=rest→i≤l.length→rest.length<n→x0 (aI l) (rest.foldl GC m) (l.length:Int) false →
   De x0 n (aI l) m (i:Int):=by
 intro rest;induction rest with
 | nil=>
  intro i m n hd hi hn k;have:i=l.length:=by
   have:=Sl length hd;rw [iX] at this;have h2:([]:List Int).length=0:=rfl;omega
  match n,hn with
  | n+1,_ =>unfold De;rw [jL,this];exact Ea (by omega) k
 | cons x t ih=>
  intro i m n hd hi hn k;have hlt:i<l.length:=by
   have:=Sl length hd;rw [iX,kR] at this;omega
  have hx:l.getD i 0=x:=by have:=List.getElem_drop (xs:=l) (i:=i) (j:=0) (h:=by rw [hd];exact BR _);rw [dH,cN hlt];simp only [hd,List.getElem_cons_zero,sF] at this;exact this.symm
  have ht:l.drop (i+1)=t:=by rw [← List.tail_drop,hd];rfl
  match n,hn with
  | n+1,hn =>unfold De;rw [jL];refine Kc (by omega) ?_;refine tE (by omega) (tE (by omega) (ylu (Bs (by omega)) ?_));rw [cE,kX hlt,hx,eW (n:=(i:Int)+1) ⟨by omega,by omega⟩];exact ih (i+1) _ n ht (by omega) (by rw [kR] at hn;omega) k
theorem zx {l:List Int} (hl:l.length<9223372036854775807) {x:Int} {t:List Int} (e:l=x::t) {K:Int→Prop} (k:K (t.foldl GC x)):Df (aI l) K:=by
 have h0:0<l.length:=by rw [e];exact BR _
 unfold Df OC;rw [jL];refine Ea (by omega) (tE (by omega) (ylu (Bs h0) ⟨l.length+1,?_⟩));have e0:l.getD 0 0=x:=by rw [e];rfl
 rw [kX h0,e0];refine zw hl _ t 1 x _ (by rw [e];rfl) (by omega) (by rw [e,kR];omega) ?_;exact k
def vO (m x:Int):Int:=if x>m then x else m
theorem zy {l:List Int} (hl:l.length<9223372036854775807) (x0:List PV→Int→Int→Bool→Prop) :
  ∀ (rest:List Int) (i:Nat) (m:Int) (n:Nat),l.drop i=rest→i≤l.length→rest.length<n→x0 (aI l) (rest.foldl vO m) (l.length:Int) false →
   Dg x0 n (aI l) m (i:Int):=by
 intro rest;induction rest with
 | nil=>
  intro i m n hd hi hn k;have:i=l.length:=by
   have:=Sl length hd;rw [iX] at this;have h2:([]:List Int).length=0:=rfl;omega
  match n,hn with
  | n+1,_ =>unfold Dg;rw [jL,this];exact Ea (by omega) k
 | cons x t ih=>
  intro i m n hd hi hn k;have hlt:i<l.length:=by
   have:=Sl length hd;rw [iX,kR] at this;omega
  have hx:l.getD i 0=x:=by have:=List.getElem_drop (xs:=l) (i:=i) (j:=0) (h:=by rw [hd];exact BR _);rw [dH,cN hlt];simp only [hd,List.getElem_cons_zero,sF] at this;exact this.symm
  have ht:l.drop (i+1)=t:=by rw [← List.tail_drop,hd];rfl
  match n,hn with
  | n+1,hn =>unfold Dg;rw [jL];refine Kc (by omega) ?_;refine tE (by omega) (tE (by omega) (ylu (Bs (by omega)) ?_));rw [cE,kX hlt,hx,eW (n:=(i:Int)+1) ⟨by omega,by omega⟩];exact ih (i+1) _ n ht (by omega) (by rw [kR] at hn;omega) k
theorem Zy {l:List Int} (hl:l.length<9223372036854775807) {x:Int} {t:List Int} (e:l=x::t) {K:Int→Prop} (k:K (t.foldl vO x)):Dh (aI l) K:=by
 have h0:0<l.length:=by rw [e];exact BR _
 unfold Dh OE;rw [jL];refine Ea (by omega) (tE (by omega) (ylu (Bs h0) ⟨l.length+1,?_⟩));have e0:l.getD 0 0=x:=by rw [e];rfl
 rw [kX h0,e0];refine zy hl _ t 1 x _ (by rw [e];rfl) (by omega) (by rw [e,kR];omega) ?_;exact k
def rO (l:List Int) (i:Nat):Prop:=∀ j,i≤j→j+1<l.length→l.getD j 0<l.getD (j+1) 0
theorem zz {l:List Int} {p2:List PV} {p0:Int} (hl:l.length<9223372036854775807) (W1 W2:List PV→(Int→Prop)→Prop) (x0:Int→Prop) (x1:Int→List PV→List PV→Int→Int→Bool→Prop) :
  ∀ (r i n:Nat),i+r+1=l.length→r<n→(rO l i→x1 p0 (aI l) p2 ((l.length:Int)-1) ((l.length:Int)-1) false)→(¬rO l i→x0 8) →
   Di W1 W2 x0 x1 n p0 (aI l) p2 ((l.length:Int)-1) (i:Int):=by
 intro r;induction r with
 | zero=>
  intro i n hi hn k _
  match n,hn with
  | n+1,_=>
   unfold Di;have e:(i:Int)=(l.length:Int)-1:=by omega
   refine Ea (by omega) ?_;rw [e];exact k (fun j h1 h2=>by omega)
 | succ r ih=>
  intro i n hi hn k k0
  match n,hn with
  | n+1,hn=>
   unfold Di;rw [eW (n:=(i:Int)+1) ⟨by omega,by omega⟩,jL];have e1:((i:Int)+1)=((i+1:Nat):Int):=by omega
   rw [e1,cE,cE];refine Kc (by omega) (tE (by omega) (tE (by omega) (ylu (Bs (by omega)) (tE (by omega) (tE (by omega) (ylu (Bs (by omega)) ?_))))));rw [kX (by omega),kX (by omega)]
   by_cases h:l.getD i 0≥l.getD (i+1) 0
   ·exact Kc h (k0 fun hc=>absurd (hc i (bW _) (by omega)) (by omega))
   ·refine Ea h (ih (i+1) n (by omega) (by omega) (fun hc=>k fun j h1 h2=>?_) (fun hc=>k0 fun hd=>hc fun j h1 h2=>hd j (by omega) h2))
    by_cases hj:j=i
    ·subst hj;omega
    ·exact hc j (by omega) h2
def small (q:Rat):Prop:=-1000000000000000000≤q.num∧q.num≤1000000000000000000∧(q.den:Int)≤1000000000000000000
instance (q:Rat):Decidable (small q):=by unfold small;infer_instance
theorem small.rv {q:Rat} (h:small q):RV q.num q.den:=by obtain ⟨h1,h2,h3⟩:=h;have:=q.den_pos;exact ⟨by omega,h3,h1,h2,q.reduced⟩
theorem Kd {n d:Int} (h:RV n d):∃ q:Rat,small q∧q.num=n∧(q.den:Int)=d:=by
 obtain ⟨h1,h2,h3,h4,h5⟩:=h;refine ⟨⟨n,d.toNat,by omega,?_⟩,⟨h3,h4,by show ((d.toNat:Nat):Int)≤_;omega⟩,rfl,by show ((d.toNat:Nat):Int)=_;omega⟩;have:d.natAbs=d.toNat:=by omega
 rw [this] at h5;exact h5
theorem small.i1 {q:Rat} (h:small q):bS q.num:=⟨by have:=h.1;omega,by have:=h.2.1;omega⟩
theorem small.i2 {q:Rat} (h:small q):bS (q.den:Int):=⟨by omega,by have:=h.2.2;omega⟩
theorem GD {q r:Rat} (h:small q) (k:small r):bY q.num q.den r.num r.den=0:=nN.2 ⟨h.rv,k.rv⟩
def fitK (q:Rat) (K:Int→Int→Int→Prop):Prop:=if small q then K q.num q.den 0 else K 0 0 16
theorem Ra {q:Rat} {s:Bool} {a b:Int} (ha:a=(q.num.natAbs:Int)) (hb:b=(q.den:Int)) (hs:q.num≠0→s=decide (q.num<0)) (K:Int→Int→Int→Prop):fO s a b K=fitK q K:=by
 unfold fO fitK;subst ha hb
 by_cases h:small q
 ·have h':=h;obtain ⟨h1,h2,h3⟩:=h;rw [Sj (show _∧_ from ⟨by omega,h3⟩),Sj h'];have e:(if s=true then -((q.num.natAbs:Nat):Int) else ((q.num.natAbs:Nat):Int))=q.num:=by
   by_cases h0:q.num=0
   ·rw [h0];cases s<;>rfl
   ·rw [hs h0]
    by_cases h1:q.num<0
    ·rw [Os h1,Sj rfl];omega
    ·rw [Po h1,Sk (by simp)];omega
  rw [e]
 ·rw [Sk h,Sk];intro h2;exact h ⟨by omega,by omega,h2.2⟩
theorem Zz (x:Int) (g:Nat):(Int.tdiv x g).natAbs=x.natAbs/g:=by rw [Int.natAbs_tdiv,Aa];rfl
theorem ZA {x:Int} {g:Nat} (h:(g:Int)∣x) (hx:x≠0):decide (Int.tdiv x g<0)=decide (x<0):=by
 obtain ⟨k,rfl⟩:=h;have hg:(g:Int)≠0:=fun e=>hx (by rw [e,Int.zero_mul])
 rw [Int.mul_tdiv_cancel_left _ hg];have h1:(g:Int)>0:=by have:=ED g;omega
 have:(g:Int)*k<0↔k<0:=by
  constructor
  ·intro h;refine Int.not_le.1 fun hk=>?_
   have:=iY (show 0≤(g:Int) by omega) hk;omega
  ·intro h;exact Hf h1 h
 simp only [this]
theorem yHk (q r:Rat):(q*r).num=Int.tdiv q.num (Nat.gcd q.num.natAbs r.den)*Int.tdiv r.num (Nat.gcd r.num.natAbs q.den) ∧
  (q*r).den=(q.den/Nat.gcd r.num.natAbs q.den)*(r.den/Nat.gcd q.num.natAbs r.den):=by
 have e:q*r=Rat.mul q r:=rfl;rw [e]
 delta Rat.mul
 constructor
 ·simp only [Int.divExact_eq_tdiv]
 ·simp only [Nat.divExact_eq_div]
theorem GE (x:Int) (d:Nat):((Nat.gcd x.natAbs d:Nat):Int)∣x:=by rw [← Int.dvd_natAbs,Int.ofNat_dvd];exact Nat.gcd_dvd_left _ _
theorem ZB {x:Int} {g:Nat} (h:(g:Int)∣x) (hx:x≠0):Int.tdiv x g≠0:=by
 obtain ⟨k,rfl⟩:=h;have hg:(g:Int)≠0:=fun e=>hx (by rw [e,Int.zero_mul])
 rw [Int.mul_tdiv_cancel_left _ hg];intro e;rw [e,Int.mul_zero] at hx;exact hx rfl
theorem yIB {x y:Int} (hx:x≠0) (hy:y≠0):decide (x*y<0)=(decide (x<0) !=decide (y<0)):=by
 by_cases h1:x<0<;>by_cases h2:y<0
 ·have:=Int.mul_pos_of_neg_of_neg h1 h2;simp [h1,h2];omega
 ·have:=zX h1 (show 0<y by omega);simp [h1,h2];omega
 ·have:=Hf (show 0<x by omega) h2;simp [h1,h2];omega
 ·have:=Int.mul_pos (show 0<x by omega) (show 0<y by omega);simp [h1,h2];omega
theorem ZC (q r:Rat) (K:Int→Int→Int→Prop):fO (decide (q.num<0) !=decide (r.num<0)) (mW q.num r.num q.den r.den) (mX q.num r.num q.den r.den) K=fitK (q*r) K:=by
 obtain ⟨e1,e2⟩:=yHk q r;refine Ra ?_ ?_ ?_ K
 ·rw [e1,Int.natAbs_mul,Zz,Zz];simp only [mW,Aa]
 ·rw [e2];simp only [mX,Aa]
 ·intro h;rw [e1] at h ⊢;have h1:q.num≠0:=fun e=>h (by rw [e,Int.zero_tdiv,Int.zero_mul])
  have h2:r.num≠0:=fun e=>h (by rw [e,Int.zero_tdiv,Int.mul_zero])
  rw [yIB (ZB (GE _ _) h1) (ZB (GE _ _) h2),ZA (GE _ _) h1,ZA (GE _ _) h2]
theorem GF {w:(Int→Int→Int→Prop)→Prop} {q:Rat} (det:∀ r0 r1 r2,(∀ K:Int→Int→Int→Prop,K r0 r1 r2→w K)→∀ K,w K=K r0 r1 r2) (h:∀ K,fitK q K→w K) (K:Int→Int→Int→Prop):w K=fitK q K:=by
 unfold fitK at h ⊢
 by_cases hs:small q
 ·simp only [Sj hs] at h ⊢;exact det _ _ _ h K
 ·simp only [Sk hs] at h ⊢;exact det _ _ _ h K
theorem ZD {q r:Rat} (hq:small q) (hr:small r) (K:Int→Int→Int→Prop):rF q.num q.den r.num r.den K=fitK (q*r) K:=
 GF (fun r0 r1 r2 h K=>jf _ _ _ _ r0 r1 r2 h K) (fun K k=>QY hq.i1 hq.i2 hr.i1 hr.i2 (by rw [Sj (GD hq hr),ZC];exact k)) K
theorem yHl {r:Rat} (h:r≠0):(r⁻¹).num=(if r.num<0 then -(r.den:Int) else r.den)∧(r⁻¹).den=r.num.natAbs:=by
 have h0:r.num≠0:=fun e=>h (Rat.num_eq_zero.1 e)
 constructor
 ·rw [Rat.num_inv]
  by_cases h1:r.num<0
  ·rw [Sj h1,Int.sign_eq_neg_one_of_neg h1];omega
  ·rw [Sk h1,Int.sign_eq_one_of_pos (by omega)];omega
 ·rw [Rat.den_inv,Sk h0]
theorem yJL {q r:Rat} (hq:small q) (hr:small r) (h0:r≠0) (K:Int→Int→Int→Prop):fJ q.num q.den r.num r.den K=fitK (q/r) K:=by
 have hn:r.num≠0:=fun e=>h0 (Rat.num_eq_zero.1 e)
 refine GF (fun r0 r1 r2 h K=>jg _ _ _ _ r0 r1 r2 h K) (fun K k=>zr hq.i1 hq.i2 hr.i1 hr.i2 ?_) K;rw [Sj (GD hq hr),Sk hn];rw [Rat.div_def,← ZC] at k;obtain ⟨e1,e2⟩:=yHl h0;rw [e1,e2] at k;have s:decide ((if r.num<0 then -(r.den:Int) else (r.den:Int))<0)=decide (r.num<0):=by
  have:=r.den_pos;split
  ·rename_i h;simp only [h];simp;omega
  ·rename_i h;simp only [h];simp
 rw [s] at k;have hd:(if r.num<0 then -(r.den:Int) else (r.den:Int)).natAbs=r.den:=by split<;>omega
 unfold mW mX at k ⊢;simp only [hd,Aa] at k ⊢;exact k
theorem yHm (q r:Rat):(q+r).num=(q.num*(r.den/Nat.gcd q.den r.den:Nat)+r.num*(q.den/Nat.gcd q.den r.den:Nat))/(Nat.gcd (q.num*(r.den/Nat.gcd q.den r.den:Nat)+r.num*(q.den/Nat.gcd q.den r.den:Nat)).natAbs (Nat.gcd q.den r.den):Nat) ∧
  (q+r).den=(q.den/Nat.gcd q.den r.den)*r.den/Nat.gcd (q.num*(r.den/Nat.gcd q.den r.den:Nat)+r.num*(q.den/Nat.gcd q.den r.den:Nat)).natAbs (Nat.gcd q.den r.den):=by
 have e:q+r=Rat.add q r:=rfl;rw [e]
 delta Rat.add
 by_cases hg:q.den.gcd r.den=1
 ·simp only [hg,dif_pos,Nat.div_one,Nat.gcd_one_right,Int.natCast_one,Int.ediv_one,and_self]
 ·simp only [hg,dif_neg,not_false_eq_true,Rat.maybeNormalize_eq];constructor
  ·first | rfl | simp only [Int.divExact_eq_tdiv]
  ·first | rfl | simp only []
theorem yIC {q r:Rat} {Z:Int} {g:Nat} (e1:(q+r).num=Z/(Nat.gcd Z.natAbs g:Nat)) (e2:(q+r).den=(q.den/g)*r.den/Nat.gcd Z.natAbs g) (hgp:0<g) (hgd:g∣r.den) (K:Int→Int→Int→Prop) :
  gZ (decide (Z<0)) (Z.natAbs:Int) q.den r.den g K=fitK (q+r) K:=by
 unfold gZ
 by_cases h0:Z=0
 ·subst h0;have:(q+r)=0:=by
   apply Rat.num_eq_zero.1;rw [e1];simp
  rw [this,Sj (by rfl)];unfold fitK;rw [Sj (by decide)];rfl
 ·have hne:¬((Z.natAbs:Nat):Int)=0:=by omega
  rw [Sk hne];have hdv:((Nat.gcd Z.natAbs g:Nat):Int)∣Z:=GE _ _;have hhp:0<Nat.gcd Z.natAbs g:=zY _ hgp;have hhg:Nat.gcd Z.natAbs g∣r.den:=Nat.dvd_trans (Ac _ _) hgd;refine Ra ?_ ?_ ?_ K
  ·rw [e1,Int.natAbs_ediv_of_dvd hdv];simp
  ·rw [e2];simp only [cE];rw [Nat.mul_div_assoc _ hhg]
  ·intro h;rw [e1];obtain ⟨k,hk⟩:=hdv;revert hhp hk;generalize Nat.gcd Z.natAbs g=h;intro hhp hk;have e:Z/(h:Int)=k:=by rw [hk,Int.mul_ediv_cancel_left _ (by omega)]
   rw [e];have:Z<0↔k<0:=by
    rw [hk];constructor
    ·intro hk;refine Int.not_le.1 fun hk2=>?_
     have:=iY (show 0≤(h:Int) by omega) hk2;omega
    ·intro hk;exact Hf (by omega) hk
   simp only [this]
theorem ZE (q r:Rat) (K:Int→Int→Int→Prop) :
  gZ (decide (q.num*((r.den:Int)/(Nat.gcd (q.den:Int).natAbs (r.den:Int).natAbs:Nat))+r.num*((q.den:Int)/(Nat.gcd (q.den:Int).natAbs (r.den:Int).natAbs:Nat))<0))
   ((q.num*((r.den:Int)/(Nat.gcd (q.den:Int).natAbs (r.den:Int).natAbs:Nat))+r.num*((q.den:Int)/(Nat.gcd (q.den:Int).natAbs (r.den:Int).natAbs:Nat))).natAbs:Int) q.den r.den (Nat.gcd (q.den:Int).natAbs (r.den:Int).natAbs) K=fitK (q+r) K:=by
 obtain ⟨e1,e2⟩:=yHm q r;rw [pB,pB] at e1 e2;exact yIC e1 e2 (Nat.gcd_pos_of_pos_left _ q.den_pos) (Ac _ _) K
theorem Eb {q r:Rat} (hq:small q) (hr:small r) (K:Int→Int→Int→Prop):ya1 q.num q.den r.num r.den K=fitK (q+r) K:=
 GF (fun r0 r1 r2 h K=>jd _ _ _ _ r0 r1 r2 h K) (fun K k=>Zw hq.i1 hq.i2 hr.i1 hr.i2 (by rw [Sj (GD hq hr),ZE];exact k)) K
theorem ZF {q r:Rat} (hq:small q) (hr:small r) (K:Int→Int→Int→Prop):sS q.num q.den r.num r.den K=fitK (q-r) K:=
 GF (fun r0 r1 r2 h K=>je _ _ _ _ r0 r1 r2 h K) (fun K k=>zv hq.i1 hq.i2 hr.i1 hr.i2 (by
  rw [Sj (GD hq hr)];rw [Rat.sub_eq_add_neg,← ZE] at k;exact k)) K
theorem yID {n d:Int} (hd:d≠0) (K:Int→Int→Int→Prop):fO (decide (n<0) !=decide (d<0)) ((n.natAbs/Nat.gcd n.natAbs d.natAbs:Nat):Int) ((d.natAbs/Nat.gcd n.natAbs d.natAbs:Nat):Int) K=fitK ((n:Rat)/(d:Rat)) K:=by
 have e:(n:Rat)/(d:Rat)=mkRat (if d<0 then -n else n) d.natAbs:=by
  rw [Rat.mkRat_eq_div];split
  ·rename_i h;have h1:((d.natAbs:Nat):Int)=-d:=by omega
   have h2:((d.natAbs:Nat):Rat)=-(d:Rat):=by rw [← Rat.intCast_natCast,h1,Rat.intCast_neg]
   rw [h2,Rat.intCast_neg];have h3:(d:Rat)≠0:=fun e=>hd (Rat.intCast_eq_zero_iff.1 e)
   grind
  ·rename_i h;have h1:((d.natAbs:Nat):Int)=d:=by omega
   have h2:((d.natAbs:Nat):Rat)=(d:Rat):=by rw [← Rat.intCast_natCast,h1]
   rw [h2]
 have h0:d.natAbs≠0:=by omega
 have hab:(if d<0 then -n else n).natAbs=n.natAbs:=by split<;>omega
 rw [e];refine Ra ?_ ?_ ?_ K
 ·rw [Rat.num_mkRat,Sk h0,hab,Int.natAbs_ediv_of_dvd,Aa,hab,qC];rw [← Int.dvd_natAbs,Int.ofNat_dvd,hab];exact Ac _ _
 ·rw [Rat.den_mkRat,Sk h0,hab,qC]
 ·rw [Rat.num_mkRat,Sk h0,hab];have hdv:((Nat.gcd d.natAbs n.natAbs:Nat):Int)∣(if d<0 then -n else n):=by
   rw [← Int.dvd_natAbs,Int.ofNat_dvd,hab];exact Ac _ _
  have hp:0<Nat.gcd d.natAbs n.natAbs:=Nat.gcd_pos_of_pos_left _ (by omega);obtain ⟨k,hk⟩:=hdv;rw [hk,Int.mul_ediv_cancel_left _ (by omega)];intro hk0;generalize Nat.gcd d.natAbs n.natAbs=g at *
  have h1:(g:Int)*k<0↔k<0:=by
   constructor
   ·intro hk;refine Int.not_le.1 fun hk2=>?_
    have:=iY (show 0≤(g:Int) by omega) hk2;omega
   ·intro hk;exact Hf (by omega) hk
  have h2:(g:Int)*k≠0:=fun e=>by rcases Int.mul_eq_zero.1 e with e | e<;>omega
  by_cases hd2:d<0
  ·rw [Sj hd2] at hk
   by_cases hn:n<0
   ·have:¬k<0:=by omega
    simp [hd2,hn,this]
   ·have:k<0:=by omega
    simp [hd2,this];omega
  ·rw [Sk hd2] at hk
   by_cases hn:n<0
   ·have:k<0:=by omega
    simp [hd2,hn,this]
   ·have:¬k<0:=by omega
    simp [hd2,this];omega
theorem yIE {n d:Int} (hn:bS n) (hd:bS d) (h0:d≠0) (K:Int→Int→Int→Prop):cU n d K=fitK ((n:Rat)/(d:Rat)) K:=
 GF (fun r0 r1 r2 h K=>jh _ _ r0 r1 r2 h K) (fun K k=>Make_of hn hd (by rw [Sk h0,yID h0];exact k)) K
def eY (q r:Rat):Int:=if q<r then -1 else if r<q then 1 else 0
theorem ZG (q r:Rat):mV q.num q.den r.num r.den=eY q r:=by unfold mV fM eY;simp only [Rat.lt_iff]
theorem Ke {q r:Rat} (hq:small q) (hr:small r) (K:Int→Int→Prop):rE q.num q.den r.num r.den K=K (eY q r) 0:=
 jc _ _ _ _ _ _ (fun K k=>Zn hq.i1 hq.i2 hr.i1 hr.i2 (by rw [GD hq hr,Sj rfl,ZG];exact k)) K
theorem yHn {n d:Int} (hn:bS n) (hd:bS d) (K:Int→Prop):yE n d K=K (chk n d):=
 iz _ _ _ (fun _ k=>QX hn hd k) K
theorem Rb {p:Int} (h:bS p) (K:Int→Prop):Ge p K=K (p.natAbs:Int):=by
 unfold bS at h;unfold Ge Ph
 by_cases hp:p<0
 ·have e0:i64.wrap (p+1)=p+1:=eW ⟨by omega,by omega⟩;have e1:i64.wrap ((0:Int)-(p+1))=-(p+1):=by rw [eW ⟨by omega,by omega⟩];omega
  have e2:u64.wrap (-(p+1))=-(p+1):=aU ⟨by omega,by omega⟩;have e3:u64.wrap (-(p+1)+1)=(p.natAbs:Int):=by rw [aU ⟨by omega,by omega⟩];omega
  rw [Os hp,aY,e0,e1,e2,e3]
 ·rw [Po hp,aV,aU ⟨by omega,by omega⟩];congr 1;omega
theorem ZH (x:Int→Int→Bool→Prop):∀ (n a b:Nat),b<n→Gf x n (a:Int) (b:Int)=x ((Nat.gcd a b:Nat):Int) 0 false
 | 0,a,b,h=>by omega
 | n+1,a,b,h=>by
  unfold Gf
  by_cases hb:b=0
  ·subst hb;simp [aB]
  ·have h1:((b:Int) !=0)=true:=by simp;omega
   have h2:¬((b:Int)=0):=by omega
   rw [h1,aY,Po h2,pC,cH];have e:Int.tmod (a:Int) (b:Int)=((a%b:Nat):Int):=by rw [Int.tmod_eq_emod_of_nonneg (by omega)];omega
   rw [e,ZH x n b (a%b) (by have:=Nat.mod_lt a (show b>0 by omega);omega)];rw [qC a b,Nat.gcd_rec b a,qC]
theorem yJM (a b:Nat) (K:Int→Prop):Dr (a:Int) (b:Int) K=K ((Nat.gcd a b:Nat):Int):=by refine ot _ _ _ (fun K h=>?_) K;unfold Dr Pi;exact ⟨b+1,by rw [ZH _ (b+1) a b (by omega)];exact h⟩
theorem Rc {a b:Int} (h:a=b):(a !=b)=false:=by simp [h]
theorem Rd {a b:Int} (h:a≠b):(a !=b)=true:=by simp [h]
theorem ZI {a b:Int} (h:a≠b):(a==b)=false:=by simp [h]
theorem ZJ {a b:Int} (h:a=b):(a==b)=true:=by simp [h]
theorem Kf {n d:Int} (hn:bS n) (_:bS d) (K:Int→Prop):Gg n d K=K (chk n d):=by
 unfold Gg Pk
 by_cases h1:d<1
 ·rw [Os h1,aY,chk,Sk (fun h=>by have:=h.1;omega)]
 ·rw [Po h1,aV]
  by_cases h2:d>1000000000000000000
  ·rw [Os h2,aY,chk,Sk (fun h=>by have:=h.2.1;omega)]
  ·rw [Po h2,aV]
   by_cases h3:n < -1000000000000000000
   ·rw [Os h3,aY,chk,Sk (fun h=>by have:=h.2.2.1;omega)]
   ·rw [Po h3,aV]
    by_cases h4:n>1000000000000000000
    ·rw [Os h4,aY,chk,Sk (fun h=>by have:=h.2.2.2.1;omega)]
    ·have ed:u64.wrap d=((d.natAbs:Nat):Int):=by rw [aU ⟨by omega,by omega⟩];omega
     rw [Po h4,aV,Rb hn,ed,yJM]
     by_cases h5:Nat.gcd n.natAbs d.natAbs=1
     ·rw [h5,Rc (by rfl),aV,chk,Sj ⟨by omega,by omega,by omega,by omega,h5⟩]
     ·rw [Rd (by omega),aY,chk,Sk (fun h=>h5 h.2.2.2.2)]
theorem yIH {a b c d:Int} (ha:bS a) (hb:bS b) (hc:bS c) (hd:bS d) (K:Int→Prop):JB a b c d K=K (bY a b c d):=by
 unfold JB Pl;rw [Kf ha hb,Kf ha hb,Kf hc hd,bY]
 by_cases h:chk a b=0
 ·rw [Rc h,aV,Sj h]
 ·rw [Rd h,aY,Sk h]
theorem Re {m s:Int} (_:0≤m) (hs:0≤s∧s<4294967296):u64.wrap (BitVec.ofInt u64.bits (u64.wrap (m*4294967296))|||BitVec.ofInt u64.bits s).toNat=m%4294967296*4294967296+s:=by
 have e:u64.wrap (m*4294967296)=m%4294967296*2 ^ 32:=by rw [vM];omega
 rw [e,Zq (k:=32) (by omega) ⟨hs.1,by omega⟩ ⟨by omega,by omega⟩ (by omega)];omega
theorem yII {a b:Int} (ha:fE a) (hb:fE b) (K:Int→Int→Prop):Gi a b K=K (a*b/18446744073709551616) (a*b%18446744073709551616):=by
 unfold Gi Pm;simp only [Zl];rw [vN ha,vN hb];unfold fE at ha hb;have ha':=ha;have hb':=hb;obtain ⟨x1,hx1⟩:∃ x,x=a/4294967296:=⟨_,rfl⟩;obtain ⟨x0,hx0⟩:∃ x,x=a%4294967296:=⟨_,rfl⟩;obtain ⟨y1,hy1⟩:∃ x,x=b/4294967296:=⟨_,rfl⟩;obtain ⟨y0,hy0⟩:∃ x,x=b%4294967296:=⟨_,rfl⟩;rw [← hx1,← hx0,← hy1,← hy0];have b1:0≤x1∧x1≤4294967295:=by omega
 have b2:0≤x0∧x0≤4294967295:=by omega
 have b3:0≤y1∧y1≤4294967295:=by omega
 have b4:0≤y0∧y0≤4294967295:=by omega
 have pb:∀ x y:Int,0≤x∧x≤4294967295→0≤y∧y≤4294967295→0≤x*y∧x*y≤18446744065119617025:=by intro x y hx hy;refine ⟨iY hx.1 hy.1,?_⟩;have:=sB hx.2 hy.2 hy.1 (by omega:(0:Int)≤4294967295);omega
 have p1:=pb x1 y1 b1 b3;have p2:=pb x1 y0 b1 b4;have p3:=pb x0 y1 b2 b3;have p4:=pb x0 y0 b2 b4;have ea:a=x1*4294967296+x0:=by omega
 have eb:b=y1*4294967296+y0:=by omega
 have eab:a*b=x1*y1*18446744073709551616+x1*y0*4294967296+x0*y1*4294967296+x0*y0:=by rw [ea,eb];grind
 obtain ⟨P,hP⟩:∃ x,x=x1*y1:=⟨_,rfl⟩;obtain ⟨Q,hQ⟩:∃ x,x=x1*y0:=⟨_,rfl⟩;obtain ⟨R,hR⟩:∃ x,x=x0*y1:=⟨_,rfl⟩;obtain ⟨S,hS⟩:∃ x,x=x0*y0:=⟨_,rfl⟩;rw [← hP] at p1;rw [← hQ] at p2;rw [← hR] at p3;rw [← hS] at p4;rw [← hP,← hQ,← hR,← hS] at eab ⊢;have w1:u64.wrap S=S:=aU ⟨by omega,by omega⟩;have w2:u64.wrap Q=Q:=aU ⟨by omega,by omega⟩;have w3:u64.wrap R=R:=aU ⟨by omega,by omega⟩;have w4:u64.wrap P=P:=aU ⟨by omega,by omega⟩;rw [w1,w2,w3,w4,vN (p:=Q) ⟨by omega,by omega⟩,vN (p:=S) ⟨by omega,by omega⟩];have w5:u64.wrap (Q%4294967296+R)=Q%4294967296+R:=aU ⟨by omega,by omega⟩;rw [w5];have w6:u64.wrap (Q%4294967296+R+S/4294967296)=Q%4294967296+R+S/4294967296:=aU ⟨by omega,by omega⟩;rw [w6,Re (by omega) ⟨by omega,by omega⟩];have hab:a*b≤18446744073709551615*18446744073709551615:=sB ha'.2 hb'.2 hb'.1 (by omega:(0:Int)≤18446744073709551615);rw [eab] at hab ⊢;have w7:u64.wrap (P+Q/4294967296)=P+Q/4294967296:=aU ⟨by omega,by omega⟩;rw [w7,aU ⟨by omega,by omega⟩];congr 1<;>omega
theorem ZK {X Y:Int} (_:0≤X) (_:0≤Y) (K:Bool→Prop) :
  JC (X/18446744073709551616) (X%18446744073709551616) (Y/18446744073709551616) (Y%18446744073709551616) K=K (decide (X<Y)):=by
 unfold JC Pp
 by_cases h:X/18446744073709551616<Y/18446744073709551616
 ·rw [Os h,aY,Os (by omega)]
 ·rw [Po h,aV]
  by_cases h2:X/18446744073709551616=Y/18446744073709551616
  ·rw [ZJ h2,aY];congr 1;rw [Aaa];omega
  ·rw [ZI h2,aV,Po (by omega)]
theorem ZL {n:Nat} (h:(n:Int)≤18446744073709551615):u64.wrap (n:Int)=n:=aU ⟨by omega,h⟩
theorem ZM {a b:Nat} (ha:a≤18446744073709551615) (hb:b≤18446744073709551615) (K:Int→Int→Prop) :
  Gi (a:Int) (b:Int) K=K (((a*b:Nat):Int)/18446744073709551616) (((a*b:Nat):Int)%18446744073709551616):=by
 rw [yII ⟨by omega,by omega⟩ ⟨by omega,by omega⟩,tN]
theorem ZN {q r:Rat} (hq:small q) (hr:small r) (K:Bool→Prop):rI q.num q.den r.num r.den K=K (decide (q<r)):=by
 unfold rI Pr;have hq':=hq;have hr':=hr;obtain ⟨a1,a2,a3⟩:=hq;obtain ⟨b1,b2,b3⟩:=hr;have dq:=q.den_pos;have dr:=r.den_pos;have e:decide (q<r)=decide (q.num*r.den<r.num*q.den):=by rw [Aaa];exact Rat.lt_iff q r
 rw [e]
 by_cases hs:(decide (q.num<0) !=decide (r.num<0))=true
 ·rw [hs,aY]
  by_cases h1:q.num<0
  ·have h2:¬r.num<0:=by simpa [h1] using hs
   have p1:q.num*r.den<0:=zX h1 (by omega);have p2:0≤r.num*q.den:=iY (by omega) (by omega);rw [Os h1,Os (by omega)]
  ·have h2:r.num<0:=by simpa [h1] using hs
   have p1:r.num*q.den<0:=zX h2 (by omega);have p2:0≤q.num*r.den:=iY (by omega) (by omega);rw [Po h1,Po (by omega)]
 ·have hs':(decide (q.num<0) !=decide (r.num<0))=false:=by simpa using hs
  rw [hs',aV,Rb hq'.i1,ZL (by omega),ZM (by omega) (by omega),Rb hr'.i1,ZL (by omega),ZM (by omega) (by omega),ZK (ED _) (ED _),ZK (ED _) (ED _),tN,tN]
  by_cases h1:q.num<0
  ·have h2:r.num<0:=by simpa [h1] using hs'
   rw [Os h1,aY,show ((q.num.natAbs:Nat):Int)=-q.num by omega,show ((r.num.natAbs:Nat):Int)=-r.num by omega,Int.neg_mul,Int.neg_mul];congr 1;rw [Aaa];omega
  ·have h2:¬r.num<0:=by simpa [h1] using hs'
   rw [Po h1,aV,show ((q.num.natAbs:Nat):Int)=q.num by omega,show ((r.num.natAbs:Nat):Int)=r.num by omega]
theorem yMl (n:Int) (K:Int→Int→Prop):Ds n K=K (n:Rat).num (n:Rat).den:=rfl
theorem bI {c:Prop} [Decidable c] {P Q:Prop} (h:c):aB (decide c) P Q=P:=by rw [Os h,aY]
theorem bE {c:Prop} [Decidable c] {P Q:Prop} (h:¬c):aB (decide c) P Q=Q:=by rw [Po h,aV]
theorem iF {a b:Int} {P Q:Prop} (h:a≠b):aB (a !=b) P Q=P:=by rw [Rd h,aY]
theorem fA {a b:Int} {P Q:Prop} (h:a=b):aB (a !=b) P Q=Q:=by rw [Rc h,aV]
theorem kH {a b:Int} {P Q:Prop} (h:a=b):aB (a==b) P Q=P:=by rw [ZJ h,aY]
theorem tF {a b:Int} {P Q:Prop} (h:a≠b):aB (a==b) P Q=Q:=by rw [ZI h,aV]
theorem aJ {c:Prop} [Decidable c] {P:Prop} (h:c):aA (decide c) P=P:=by rw [Os h,cH]
theorem nO {l:List Int} {i:Nat} {P:Prop} (h:i<l.length):aA (aF zI (getD (aI l) i .nils)) P=P:=by rw [Bs h,cH]
theorem cI {n:Int} (h1:-9223372036854775808≤n) (h2:n≤9223372036854775807):i64.wrap n=n:=eW ⟨h1,h2⟩
theorem cZ (i:Nat):(i:Int)+1=((i+1:Nat):Int):=by omega
theorem vQ {x:Int} (h:-1000000000000000000≤x∧x≤1000000000000000000):small (x:Rat):=by unfold small;rw [Rat.num_intCast,Rat.den_intCast];omega
def Bt (dens:List Int):Prop:=∀ d∈dens,0≤d∧d≤12
def Bu (dens:List Int):Prop:=∃ d∈dens,0<d
instance (l:List Int):Decidable (Bt l):=by unfold Bt;infer_instance
instance (l:List Int):Decidable (Bu l):=by unfold Bu;infer_instance
def VC (len:Int) (cuts dens:List Int):Prop:=
 1≤len∧len≤1000∧2≤cuts.length∧cuts.length≤40∧dens.length+1=cuts.length∧cuts.getD 0 0=0∧cuts.getD (cuts.length-1) 0=len∧rO cuts 0∧Bt dens∧Bu dens
theorem yIJ (l:List Int):rO l 0↔∀ j,j<l.length→j+1<l.length→l.getD j 0<l.getD (j+1) 0:=⟨fun h j _ h2=>h j (by omega) h2,fun h j _ h2=>h j (by omega) h2⟩
instance (l:List Int):Decidable (rO l 0):=decidable_of_iff _ (yIJ l).symm
instance (len:Int) (cuts dens:List Int):Decidable (VC len cuts dens):=by unfold VC;infer_instance
def iQ (len:Int) (cuts dens:List Int):Int:=if len>1000∨cuts.length>40 then 4 else if VC len cuts dens then 0 else 8
theorem ZO (l:List Int) (x:Int):(l.foldl GC x<0)↔¬(∀ d∈x::l,0≤d):=by
 induction l generalizing x with
 | nil=>simp
 | cons y t ih=>
  rw [List.foldl_cons,ih];unfold GC;simp only [List.forall_mem_cons];split
  ·constructor
   ·intro h h2;exact h ⟨h2.2.1,h2.2.2⟩
   ·intro h h2;exact h ⟨by omega,h2.1,h2.2⟩
  ·constructor
   ·intro h h2;exact h ⟨h2.1,h2.2.2⟩
   ·intro h h2;exact h ⟨h2.1,by omega,h2.2⟩
theorem GG (l:List Int) (x k:Int):(l.foldl vO x>k)↔¬(∀ d∈x::l,d≤k):=by
 induction l generalizing x with
 | nil=>simp
 | cons y t ih=>
  rw [List.foldl_cons,ih];unfold vO;simp only [List.forall_mem_cons];split
  ·constructor
   ·intro h h2;exact h ⟨h2.2.1,h2.2.2⟩
   ·intro h h2;exact h ⟨by omega,h2.1,h2.2⟩
  ·constructor
   ·intro h h2;exact h ⟨h2.1,h2.2.2⟩
   ·intro h h2;exact h ⟨h2.1,by omega,h2.2⟩
theorem Ec {len:Int} {cuts dens:List Int} (h1:cuts.length<4611686018427387904) (h2:dens.length<4611686018427387904) (K:Int→Prop) :
  yaE len (aI cuts) (aI dens) K=K (iQ len cuts dens):=by
 refine kx _ _ _ _ (fun K k=>?_) K;unfold yaE OG;simp only [jL];have bad:¬(len>1000∨cuts.length>40)→¬VC len cuts dens→K 8:=fun h h2=>by
  rw [iQ,Sk h,Sk h2] at k;exact k
 by_cases a1:len>1000
 ·rw [bI a1];rw [iQ,Sj (.inl a1)] at k;exact k
 rw [bE a1]
 by_cases a2:cuts.length>40
 ·rw [bI (by omega)];rw [iQ,Sj (.inr a2)] at k;exact k
 have a12:¬(len>1000∨cuts.length>40):=by omega
 rw [bE (by omega)]
 by_cases a3:len<1
 ·rw [bI a3];exact bad a12 (fun h=>by have:=h.1;omega)
 rw [bE a3]
 by_cases a4:cuts.length<2
 ·rw [bI (by omega)];exact bad a12 (fun h=>by have:=h.2.2.1;omega)
 rw [bE (by omega),cI (n:=(cuts.length:Int)-1) (by omega) (by omega)]
 by_cases a5:dens.length+1=cuts.length
 case neg=>rw [iF (by omega)];exact bad a12 (fun h=>a5 h.2.2.2.2.1)
 rw [fA (by omega),aJ (by omega),nO (by omega),kX (by omega)]
 by_cases a6:cuts.getD 0 0=0
 case neg=>rw [iF a6];exact bad a12 (fun h=>a6 h.2.2.2.2.2.1)
 rw [fA a6,aJ (by omega),aJ (by omega),nO (by omega),kX (by omega)];have en:((cuts.length:Int)-1).toNat=cuts.length-1:=by omega
 rw [en]
 by_cases a7:cuts.getD (cuts.length-1) 0=len
 case neg=>rw [iF a7];exact bad a12 (fun h=>a7 h.2.2.2.2.2.2.1)
 rw [fA a7];refine ⟨cuts.length+1,?_⟩;refine zz (by omega) _ _ _ _ (cuts.length-1) 0 _ (by omega) (by omega) (fun hi=>?_) (fun hi=>bad a12 (fun h=>hi h.2.2.2.2.2.2.2.1));obtain ⟨x,t,e⟩:∃ x t,dens=x::t:=by
  cases dens with
  | nil=>exfalso;have:([]:List Int).length=0:=rfl;omega
  | cons x t=>exact ⟨x,t,rfl⟩
 refine zx (by omega) e ?_
 by_cases b1:t.foldl GC x<0
 ·rw [bI b1];rw [ZO] at b1;exact bad a12 (fun h=>b1 fun d hd=>(h.2.2.2.2.2.2.2.2.1 d (by rw [e];exact hd)).1)
 rw [bE b1];refine Zy (by omega) e ?_
 by_cases b2:t.foldl vO x>12
 ·rw [bI b2];rw [GG] at b2;exact bad a12 (fun h=>b2 fun d hd=>(h.2.2.2.2.2.2.2.2.1 d (by rw [e];exact hd)).2)
 rw [bE b2];refine Zy (by omega) e ?_;have c1:∀ d∈dens,0≤d:=by rw [ZO,Classical.not_not,← e] at b1;exact b1
 have c2:∀ d∈dens,d≤12:=by rw [GG,Classical.not_not,← e] at b2;exact b2
 by_cases b3:t.foldl vO x=0
 ·rw [kH b3];refine bad a12 (fun h=>?_);obtain ⟨d,hd,h0⟩:=h.2.2.2.2.2.2.2.2.2;have:¬(t.foldl vO x>0):=by omega
  rw [GG,Classical.not_not,← e] at this;have:=this d hd;omega
 ·rw [tF b3];have b4:t.foldl vO x>0:=by
   refine Int.not_le.1 fun hle=>b3 ?_
   have:t.foldl vO x>-1:=by rw [GG];intro h;have h1:=h x (eH ..);have h2:=c1 x (by rw [e];exact eH ..);omega
   omega
  rw [GG,← e] at b4;have b5:Bu dens:=by
   refine Classical.byContradiction fun hn=>b4 fun d hd=>?_
   exact Int.not_lt.1 fun hlt=>hn ⟨d,hd,hlt⟩
  rw [iQ,Sk a12,Sj ⟨by omega,by omega,by omega,by omega,a5,a6,a7,hi,fun d hd=>⟨c1 d hd,c2 d hd⟩,b5⟩] at k;exact k
theorem GH (n:Int) (K:Int→Int→Prop):AU n K=K (n:Rat).num (n:Rat).den:=rfl
theorem vR {q r:Rat} (hq:small q) (hr:small r) (K:Bool→Prop):yN q.num q.den r.num r.den K=K (decide (q<r)):=by
 unfold yN OI;rw [Ke hq hr];congr 1;rw [Aaa,eY]
 by_cases h:q<r
 ·simp [h]
 ·by_cases h2:r<q<;>simp [h,h2]
def PT (len:Int) (n d:Int):Prop:=RV n d∧0≤n∧n≤len*d
instance (len n d:Int):Decidable (PT len n d):=by unfold PT;infer_instance
theorem yMm {len n d:Int} (h:PT len n d):∃ q:Rat,small q∧q.num=n∧(q.den:Int)=d∧0≤q∧q≤(len:Rat):=by
 obtain ⟨h1,h2,h3⟩:=h;obtain ⟨q,e1,e2,e3⟩:=Kd h1;refine ⟨q,e1,e2,e3,?_,?_⟩
 ·rw [← Rat.num_nonneg,e2];exact h2
 ·rw [Rat.le_iff,e2,e3,Rat.num_intCast,Rat.den_intCast];simpa using h3
theorem ZP (x:Int) (q:Rat):((x:Rat)<q)↔x*(q.den:Int)<q.num:=by rw [Rat.lt_iff,Rat.num_intCast,Rat.den_intCast];simp
theorem ZQ {len:Int} (hl:-1000000000000000000≤len∧len≤1000000000000000000) {n d:Int} (hn:bS n) (hd:bS d) (a b:List PV) (K:Bool→Prop) :
  AV len a b n d K=K (decide (PT len n d)):=by
 unfold AV OJ;rw [yHn hn hd]
 by_cases h:RV n d
 ·obtain ⟨q,e1,e2,e3⟩:=Kd h;rw [chk,Sj h,kH rfl]
  by_cases h0:n≥0
  ·rw [bI h0,GH,← e2,← e3,vR (vQ hl) e1];congr 1;have:((len:Rat)<q)↔len*(q.den:Int)<q.num:=ZP _ _
   by_cases h3:(len:Rat)<q
   ·have h4:=this.1 h3;rw [Os h3,Po];rfl;intro hp;have:=hp.2.2;omega
   ·have h4:¬_:=fun x=>h3 (this.2 x)
    rw [Po h3,Os];rfl;exact ⟨e1.rv,by omega,by omega⟩
  ·rw [bE h0,Po];intro hp;have:=hp.2.1;omega
 ·rw [chk,Sk h,tF (by decide),Po];intro hp;exact h hp.1
section
variable {len:Int} {cuts dens:List Int}
theorem VC.step (h:VC len cuts dens) {i:Nat} (hi:i+1<cuts.length):cuts.getD i 0<cuts.getD (i+1) 0:=h.2.2.2.2.2.2.2.1 i (iB _) hi
theorem VC.mono (h:VC len cuts dens) {i:Nat}:∀ {j:Nat},i≤j→j<cuts.length→cuts.getD i 0≤cuts.getD j 0
 | 0,hij,_=>by
  have:i=0:=by omega
  subst this;exact Int.le_refl _
 | j+1,hij,hj=>by
  by_cases e:i=j+1
  ·subst e;exact Int.le_refl _
  ·have h1:=h.mono (i:=i) (j:=j) (by omega) (by omega);have h2:=h.step (i:=j) hj;omega
theorem VC.lo (h:VC len cuts dens) {i:Nat} (hi:i<cuts.length):0≤cuts.getD i 0:=by have:=h.mono (iB i) hi;rw [h.2.2.2.2.2.1] at this;exact this
theorem VC.hi (h:VC len cuts dens) {i:Nat} (hi:i<cuts.length):cuts.getD i 0≤len:=by have:=h.mono (i:=i) (j:=cuts.length-1) (by omega) (by omega);rw [h.2.2.2.2.2.2.1] at this;exact this
theorem VC.den (h:VC len cuts dens) {i:Nat} (hi:i<dens.length):0≤dens.getD i 0∧dens.getD i 0≤12:=by rw [dH,cN hi];exact h.2.2.2.2.2.2.2.2.1 _ (nI hi)
theorem VC.l1 (h:VC len cuts dens):dens.length+1=cuts.length:=h.2.2.2.2.1
theorem VC.l2 (h:VC len cuts dens):cuts.length≤40:=h.2.2.2.1
theorem VC.len0 (h:VC len cuts dens):1≤len∧len≤1000:=⟨h.1,h.2.1⟩
theorem VC.sc (h:VC len cuts dens) {i:Nat} (hi:i<cuts.length):small ((cuts.getD i 0:Int):Rat):=vQ (by have:=h.lo hi;have:=h.hi hi;have:=h.len0;omega)
theorem VC.sd (h:VC len cuts dens) {i:Nat} (hi:i<dens.length):small ((dens.getD i 0:Int):Rat):=vQ (by have:=h.den hi;omega)
theorem Rf (h:iQ len cuts dens=0):VC len cuts dens:=by
 unfold iQ at h;split at h
 ·omega
 ·split at h
  ·assumption
  ·omega
theorem VC.ck (h:VC len cuts dens):iQ len cuts dens=0:=by rw [iQ,Sk (by have:=h.l2;have:=h.len0;omega),Sj h]
def iR (cuts dens:List Int):Nat→Nat→Int→Int
 | 0,_,s=>s
 | r+1,i,s=>iR cuts dens r (i+1) (s+dens.getD i 0*(cuts.getD (i+1) 0-cuts.getD i 0))
def totC (cuts dens:List Int):Int:=iR cuts dens dens.length 0 0
theorem Kg {d x:Int} (h:0≤d∧d≤12) (hx:0≤x):0≤d*x∧d*x≤12*x:=⟨iY h.1 hx,zV h.2 hx⟩
theorem ZR (h:VC len cuts dens):∀ (r i:Nat) (s:Int),i+r=dens.length→0≤s→s≤12*cuts.getD i 0→0≤iR cuts dens r i s∧iR cuts dens r i s≤12*len
 | 0,i,s,hi,h0,h1=>by have:=h.l1;have:=h.hi (i:=i) (by omega);unfold iR;omega
 | r+1,i,s,hi,h0,h1=>by unfold iR;have l1:=h.l1;have h2:=h.step (i:=i) (by omega);have h3:=Kg (h.den (i:=i) (by omega)) (x:=cuts.getD (i+1) 0-cuts.getD i 0) (by omega);exact ZR h r (i+1) _ (by omega) (by omega) (by omega)
theorem GI (h:VC len cuts dens):0≤totC cuts dens∧totC cuts dens≤12000:=by have l1:=h.l1;have h0:=h.lo (i:=0) (by omega);have:=ZR h dens.length 0 0 (by omega) (by omega) (by omega);have h2:=h.len0;unfold totC;omega
theorem ZS (h:VC len cuts dens) (W:Int→List PV→List PV→(Int→Prop)→Prop) (x0:Int→List PV→List PV→Int→List PV→Int→Int→Bool→Prop) :
  ∀ (r i n:Nat) (s:Int),i+r=dens.length→r<n→0≤s→s≤12*cuts.getD i 0 →
   Dl W x0 n len (aI cuts) (aI dens) s (aI dens) dens.length i=x0 len (aI cuts) (aI dens) (iR cuts dens r i s) (aI dens) dens.length dens.length false
 | 0,i,n+1,s,hi,hn,h0,h1=>by
  unfold Dl iR;rw [bE (by omega)];have:(i:Int)=dens.length:=by omega
  rw [this]
 | r+1,i,n+1,s,hi,hn,h0,h1=>by unfold Dl;have l1:=h.l1;have l2:=h.l2;have h2:=h.step (i:=i) (by omega);have h3:=Kg (h.den (i:=i) (by omega)) (x:=cuts.getD (i+1) 0-cuts.getD i 0) (by omega);have a1:=h.lo (i:=i) (by omega);have a2:=h.hi (i:=i+1) (by omega);have a3:=h.len0;have e1:=cI (n:=(i:Int)+1) (by omega) (by omega);have e2:=cI (n:=cuts.getD (i+1) 0-cuts.getD i 0) (by omega) (by omega);have e3:=cI (n:=dens.getD i 0*(cuts.getD (i+1) 0-cuts.getD i 0)) (by omega) (by omega);have e4:=cI (n:=s+dens.getD i 0*(cuts.getD (i+1) 0-cuts.getD i 0)) (by omega) (by omega);rw [bI (by omega),jL,jL,e1,cZ,cE,cE,aJ (by omega),aJ (by omega),nO (by omega),aJ (by omega),aJ (by omega),nO (by omega),aJ (by omega),aJ (by omega),nO (by omega),kX (by omega),kX (by omega),kX (by omega),e2,e3,e4];exact ZS h W x0 r (i+1) n _ (by omega) (by omega) (by omega) (by omega)
theorem ZT (h1:cuts.length<4611686018427387904) (h2:dens.length<4611686018427387904) (K:Int→Int→Prop) :
  bU len (aI cuts) (aI dens) K=if iQ len cuts dens=0 then K (totC cuts dens) 0 else K 0 (iQ len cuts dens):=by
 by_cases h:iQ len cuts dens=0
 ·rw [Sj h];refine kz _ _ _ _ _ (fun K k=>?_) K;unfold bU Jw;have hv:=Rf h;rw [Ec h1 h2,h,fA rfl];refine ⟨dens.length+1,?_⟩;have l1:=hv.l1;have a1:=hv.lo (i:=0) (by omega);rw [jL];have:=ZS hv yaE (fun b c d a e f g j=>(K a (0:Int))) dens.length 0 (dens.length+1) 0 (by omega) (by omega) (by omega) (by omega);rw [show ((0:Nat):Int)=0 from rfl] at this;rw [this];exact k
 ·rw [Sk h];unfold bU Jw;rw [Ec h1 h2,iF h]
def exK (e:Except Int Rat) (K:Int→Int→Int→Prop):Prop:=match e with | .ok q=>K q.num q.den 0 | .error c=>K 0 0 c
def jY {α:Type} (q:Rat) (k:Rat→Except Int α):Except Int α:=if small q then k q else .error 16
def valS (cuts dens:List Int) (b:Rat):Nat→Nat→Rat→Rat→Except Int Rat
 | 0,_,_,sum=>.ok sum
 | r+1,i,p,sum=>
  let en:Rat:=if b<(cuts.getD (i+1) 0:Int) then b else (cuts.getD (i+1) 0:Int)
  if dens.getD i 0=0∨¬p<en then valS cuts dens b r (i+1) (if p<en then en else p) sum
  else jY (en-p) fun l=>jY (l*(dens.getD i 0:Int)) fun w=>jY (sum+w) fun s=>valS cuts dens b r (i+1) en s
def oN (cuts dens:List Int) (a b:Rat):Except Int Rat:=valS cuts dens b dens.length 0 a 0
theorem Ed {q:Rat} {K:Int→Int→Int→Prop}:fitK q K=if small q then K q.num q.den 0 else K 0 0 16:=rfl
theorem ZU (h:VC len cuts dens) {b:Rat} (hb:small b) (an ad:Int) (W1:Int→List PV→List PV→(Int→Prop)→Prop) (W2:Int→List PV→List PV→Int→Int→(Bool→Prop)→Prop) (K:Int→Int→Int→Prop) :
  ∀ (r i n:Nat) (p sum:Rat),i+r=dens.length→r<n→small p→small sum →
   mU W1 W2 yN AU sS rF ya1 (fun a d e=>(K a d e)) (fun _ _ _ _ _ _ _ f g _ _ _ _ _ _=>(K f g (0:Int)))
    n len (aI cuts) (aI dens) b.num b.den an ad sum.num sum.den p.num p.den (aI dens) dens.length i=exK (valS cuts dens b r i p sum) K
 | 0,i,n+1,p,sum,hi,hn,hp,hs=>by unfold mU valS;rw [bE (by omega)];rfl
 | r+1,i,n+1,p,sum,hi,hn,hp,hs=>by
  unfold mU;have l1:=h.l1;have l2:=h.l2;have sc:=h.sc (i:=i+1) (by omega);have sd:=h.sd (i:=i) (by omega);have e1:=cI (n:=(i:Int)+1) (by omega) (by omega);rw [bI (by omega),jL,jL,e1,cZ,cE,cE,aJ (by omega),aJ (by omega),nO (by omega),aJ (by omega),aJ (by omega),nO (by omega),kX (by omega),kX (by omega),GH,vR hb sc];have ih:=fun p sum hp hs=>ZU h hb an ad W1 W2 K r (i+1) n p sum (by omega) (by omega) hp hs
  unfold valS
  by_cases hbc:b<((cuts.getD (i+1) 0:Int):Rat)
  ·rw [bI hbc];simp only [Sj hbc]
   by_cases hd:dens.getD i 0=0
   ·rw [kH hd,Sj (.inl hd),vR hp hb]
    by_cases hpb:p<b
    ·rw [bI hpb,Sj hpb];exact ih b sum hb hs
    ·rw [bE hpb,Sk hpb];exact ih p sum hp hs
   ·rw [tF hd,vR hp hb]
    by_cases hpb:p<b
    ·have hc:¬(dens.getD i 0=0∨¬p<b):=by simp [hpb];exact hd
     rw [Sk hc,Os hpb,sD,aV,ZF hb hp,Ed]
     by_cases s1:small (b-p)
     ·rw [Sj s1,fA rfl,GH,ZD s1 sd,Ed,jY,Sj s1]
      by_cases s2:small ((b-p)*(dens.getD i 0:Int))
      ·rw [Sj s2,fA rfl,Eb hs s2,Ed,jY,Sj s2]
       by_cases s3:small (sum+(b-p)*(dens.getD i 0:Int))
       ·rw [Sj s3,fA rfl,jY,Sj s3];exact ih b _ hb s3
       ·rw [Sk s3,iF (by decide),jY,Sk s3];rfl
      ·rw [Sk s2,iF (by decide),jY,Sk s2];rfl
     ·rw [Sk s1,iF (by decide),jY,Sk s1];rfl
    ·rw [Sj (.inr hpb),Po hpb,pC,aY,vR hp hb,bE hpb,Sk hpb];exact ih p sum hp hs
  ·rw [bE hbc];simp only [Sk hbc];obtain ⟨c,hc⟩:∃ c:Rat,c=((cuts.getD (i+1) 0:Int):Rat):=⟨_,rfl⟩;rw [← hc] at sc ⊢
   by_cases hd:dens.getD i 0=0
   ·rw [kH hd,Sj (.inl hd),vR hp sc]
    by_cases hpb:p<c
    ·rw [bI hpb,Sj hpb];exact ih c sum sc hs
    ·rw [bE hpb,Sk hpb];exact ih p sum hp hs
   ·rw [tF hd,vR hp sc]
    by_cases hpb:p<c
    ·have hcc:¬(dens.getD i 0=0∨¬p<c):=by simp [hpb];exact hd
     rw [Sk hcc,Os hpb,sD,aV,ZF sc hp,Ed]
     by_cases s1:small (c-p)
     ·rw [Sj s1,fA rfl,GH,ZD s1 sd,Ed,jY,Sj s1]
      by_cases s2:small ((c-p)*(dens.getD i 0:Int))
      ·rw [Sj s2,fA rfl,Eb hs s2,Ed,jY,Sj s2]
       by_cases s3:small (sum+(c-p)*(dens.getD i 0:Int))
       ·rw [Sj s3,fA rfl,jY,Sj s3];exact ih c _ sc s3
       ·rw [Sk s3,iF (by decide),jY,Sk s3];rfl
      ·rw [Sk s2,iF (by decide),jY,Sk s2];rfl
     ·rw [Sk s1,iF (by decide),jY,Sk s1];rfl
    ·rw [Sj (.inr hpb),Po hpb,pC,aY,vR hp sc,bE hpb,Sk hpb];exact ih p sum hp hs
end
def rt (n d:Int):Rat:=mkRat n d.toNat
theorem mY (q:Rat):rt q.num q.den=q:=by unfold rt;rw [cE,Rat.mkRat_self]
theorem mE {n d:Int} (h:RV n d):small (rt n d)∧(rt n d).num=n∧((rt n d).den:Int)=d:=by obtain ⟨q,h1,h2,h3⟩:=Kd h;subst h2 h3;rw [mY];exact ⟨h1,rfl,rfl⟩
theorem PT.pt {len n d:Int} (h:PT len n d):small (rt n d)∧(rt n d).num=n∧((rt n d).den:Int)=d∧0≤rt n d∧rt n d≤(len:Rat):=by obtain ⟨q,h1,h2,h3,h4,h5⟩:=yMm h;subst h2 h3;rw [mY];exact ⟨h1,rfl,rfl,h4,h5⟩
theorem Kh {len:Int} {q:Rat} (h:small q) (h0:0≤q) (h1:q≤(len:Rat)):PT len q.num q.den:=by refine ⟨h.rv,Rat.num_nonneg.2 h0,?_⟩;rw [Rat.le_iff,Rat.num_intCast,Rat.den_intCast] at h1;simpa using h1
section
variable {len:Int} {cuts dens:List Int}
def vS (len:Int) (cuts dens:List Int) (an ad bn bd:Int):Except Int Rat:=
 if iQ len cuts dens=0 then (if PT len an ad∧PT len bn bd∧¬rt bn bd<rt an ad then oN cuts dens (rt an ad) (rt bn bd) else .error 2) else .error (iQ len cuts dens)
theorem yMn {w:(Int→Int→Int→Prop)→Prop} {e:Except Int Rat} (det:∀ r0 r1 r2,(∀ K:Int→Int→Int→Prop,K r0 r1 r2→w K)→∀ K,w K=K r0 r1 r2) (h:∀ K,exK e K→w K) (K:Int→Int→Int→Prop):w K=exK e K:=by
 cases e with
 | ok q=>exact det _ _ _ h K
 | error c=>exact det _ _ _ h K
theorem ZV (h1:cuts.length<4611686018427387904) (h2:dens.length<4611686018427387904) {an ad bn bd:Int} (ha:bS an) (ha':bS ad) (hb:bS bn) (hb':bS bd) (K:Int→Int→Int→Prop) :
  yaY len (aI cuts) (aI dens) an ad bn bd K=exK (vS len cuts dens an ad bn bd) K:=by
 refine yMn (fun r0 r1 r2 h K=>ky _ _ _ _ _ _ _ r0 r1 r2 h K) (fun K k=>?_) K;unfold yaY OM;rw [Ec h1 h2];unfold vS at k
 by_cases h:iQ len cuts dens=0
 case neg=>rw [iF h];rw [Sk h] at k;exact k
 have hv:=Rf h;have hl:=hv.len0;rw [Sj h] at k;rw [fA h,ZQ (by omega) ha ha']
 by_cases p1:PT len an ad
 case neg=>rw [Po p1,pC,aY];rw [Sk (fun x=>p1 x.1)] at k;exact k
 rw [Os p1,sD,aV,ZQ (by omega) hb hb']
 by_cases p2:PT len bn bd
 case neg=>rw [Po p2,pC,aY];rw [Sk (fun x=>p2 x.2.1)] at k;exact k
 rw [Os p2,sD,aV];obtain ⟨s1,e1,e2,_,_⟩:=p1.pt;obtain ⟨s2,f1,f2,_,_⟩:=p2.pt;have hless:=vR s2 s1;rw [e1,e2,f1,f2] at hless;rw [hless]
 by_cases p3:rt bn bd<rt an ad
 ·rw [bI p3];rw [Sk (fun x=>x.2.2 p3)] at k;exact k
 rw [bE p3];rw [Sj ⟨p1,p2,p3⟩] at k;rw [GH,jL];refine ⟨dens.length+1,?_⟩;have:=ZU hv s2 0 0 yaE AV K dens.length 0 (dens.length+1) (rt an ad) 0 (by omega) (by omega) s1 (by decide);rw [e1,e2,f1,f2] at this;exact this.mpr k
def ZW (cuts dens:List Int) (i:Nat):Prop:=∀ j,i≤j→j<dens.length→cuts.getD j 0<cuts.getD (j+1) 0∧0≤dens.getD j 0∧dens.getD j 0≤12
theorem Rg (l1:dens.length+1=cuts.length) (l2:dens.length<4611686018427387904) (x0:Int→Prop) (x1:Int→List PV→List PV→Bool→Int→Bool→Prop) (P:Prop)
  (hbad:¬ZW cuts dens 0→x0 8=P) (hgood:∀ b:Bool,ZW cuts dens 0→b=decide (∃ j,j<dens.length∧0<dens.getD j 0)→x1 len (aI cuts) (aI dens) b dens.length false=P) :
  ∀ (r i n:Nat) (b:Bool),i+r=dens.length→r<n→(∀ j,j<i→cuts.getD j 0<cuts.getD (j+1) 0∧0≤dens.getD j 0∧dens.getD j 0≤12)→b=decide (∃ j,j<i∧0<dens.getD j 0) →
   Ba x0 x1 n len (aI cuts) (aI dens) b i=P
 | 0,i,n+1,b,hi,hn,hj,hb=>by unfold Ba;rw [jL,bE (by omega),show (i:Int)=dens.length by omega];refine hgood b (fun j _ h=>hj j (by omega)) ?_;rw [hb,Aaa];rw [show i=dens.length by omega]
 | r+1,i,n+1,b,hi,hn,hj,hb=>by
  unfold Ba;have e1:=cI (n:=(i:Int)+1) (by omega) (by omega);rw [jL,jL,bI (by omega),e1,cZ,cE,cE,aJ (by omega),aJ (by omega),nO (by omega),aJ (by omega),aJ (by omega),nO (by omega),kX (by omega),kX (by omega)];have bad:¬(cuts.getD i 0<cuts.getD (i+1) 0∧0≤dens.getD i 0∧dens.getD i 0≤12)→x0 8=P:=fun h=>hbad fun hk=>h (hk i (by omega) (by omega))
  by_cases a1:cuts.getD (i+1) 0≤cuts.getD i 0
  ·rw [bI a1];exact bad (by omega)
  rw [bE a1,aJ (by omega),aJ (by omega),nO (by omega),kX (by omega)]
  by_cases a2:dens.getD i 0<0
  ·rw [bI a2];exact bad (by omega)
  rw [bE a2,aJ (by omega),aJ (by omega),nO (by omega)]
  by_cases a3:dens.getD i 0>12
  ·rw [bI a3];exact bad (by omega)
  rw [bE a3];have hj2:∀ j,j<i+1→cuts.getD j 0<cuts.getD (j+1) 0∧0≤dens.getD j 0∧dens.getD j 0≤12:=by
   intro j hlt
   by_cases e:j=i
   ·subst e;omega
   ·exact hj j (by omega)
  have ex:∀ c:Bool,(c=true↔(b=true∨0<dens.getD i 0))→c=decide (∃ j,j<i+1∧0<dens.getD j 0):=by
   intro c hc;rw [Ae,hc,hb,decide_eq_true_iff,decide_eq_true_iff];constructor
   ·rintro (⟨j,h1,h2⟩ | h)
    ·exact ⟨j,by omega,h2⟩
    ·exact ⟨i,by omega,h⟩
   ·rintro ⟨j,h1,h2⟩
    by_cases e:j=i
    ·subst e;exact .inr h2
    ·exact .inl ⟨j,by omega,h2⟩
  cases b with
  | true =>rw [aY];exact Rg l1 l2 x0 x1 P hbad hgood r (i+1) n true (by omega) (by omega) hj2 (ex _ (by simp))
  | false =>rw [aV,aJ (by omega),aJ (by omega),nO (by omega)];exact Rg l1 l2 x0 x1 P hbad hgood r (i+1) n _ (by omega) (by omega) hj2 (ex _ (by simp))
theorem ZX (h1:cuts.length<4611686018427387904) (h2:dens.length<4611686018427387904) (K:Int→Prop) :
  pR len (aI cuts) (aI dens) K=K (iQ len cuts dens):=by
 refine pk _ _ _ _ (fun K k=>?_) K;unfold pR Pw;simp only [jL];have bad:¬(len>1000∨cuts.length>40)→¬VC len cuts dens→K 8:=fun h h2=>by
  rw [iQ,Sk h,Sk h2] at k;exact k
 by_cases a1:len>1000
 ·rw [bI a1];rw [iQ,Sj (.inl a1)] at k;exact k
 rw [bE a1]
 by_cases a2:cuts.length>40
 ·rw [bI (by omega)];rw [iQ,Sj (.inr a2)] at k;exact k
 have a12:¬(len>1000∨cuts.length>40):=by omega
 rw [bE (by omega)]
 by_cases a3:len<1
 ·rw [bI a3];exact bad a12 (fun h=>by have:=h.1;omega)
 rw [bE a3]
 by_cases a4:cuts.length<2
 ·rw [bI (by omega)];exact bad a12 (fun h=>by have:=h.2.2.1;omega)
 rw [bE (by omega),cI (n:=(cuts.length:Int)-1) (by omega) (by omega)]
 by_cases a5:dens.length+1=cuts.length
 case neg=>rw [iF (by omega)];exact bad a12 (fun h=>a5 h.2.2.2.2.1)
 rw [fA (by omega),aJ (by omega),nO (by omega),kX (by omega)]
 by_cases a6:cuts.getD 0 0=0
 case neg=>rw [iF a6];exact bad a12 (fun h=>a6 h.2.2.2.2.2.1)
 rw [fA a6,aJ (by omega),aJ (by omega),nO (by omega),kX (by omega)];have en:((cuts.length:Int)-1).toNat=cuts.length-1:=by omega
 rw [en]
 by_cases a7:cuts.getD (cuts.length-1) 0=len
 case neg=>rw [iF a7];exact bad a12 (fun h=>a7 h.2.2.2.2.2.2.1)
 rw [fA a7];have mem:∀ d,d∈dens↔∃ j,j<dens.length∧dens.getD j 0=d:=by
  intro d;rw [List.mem_iff_getElem];constructor
  ·rintro ⟨j,hj,e⟩;exact ⟨j,hj,by rw [dH,cN hj];exact e⟩
  ·rintro ⟨j,hj,e⟩;exact ⟨j,hj,by rw [dH,cN hj] at e;exact e⟩
 refine ⟨dens.length+1,?_⟩;refine (Rg a5 h2 _ _ (K (iQ len cuts dens)) (fun hk=>?_) (fun b hk hb=>?_) dens.length 0 (dens.length+1) false (by omega) (by omega) (fun j h=>by omega) (by simp)).mpr k
 ·have hv:¬VC len cuts dens:=fun h=>hk fun j _ hj=>⟨h.step (by omega),h.den hj⟩
  rw [iQ,Sk a12,Sk hv]
 ·have hsome:Bu dens↔∃ j,j<dens.length∧0<dens.getD j 0:=by
   constructor
   ·rintro ⟨d,hd,h0⟩;obtain ⟨j,hj,e⟩:=(mem d).1 hd;exact ⟨j,hj,by rw [e];exact h0⟩
   ·rintro ⟨j,hj,h0⟩;exact ⟨_,(mem _).2 ⟨j,hj,rfl⟩,h0⟩
  have hv:VC len cuts dens↔Bu dens:=by refine ⟨fun h=>h.2.2.2.2.2.2.2.2.2,fun h=>⟨by omega,by omega,by omega,by omega,a5,a6,a7,fun j _ hj=>(hk j (by omega) (by omega)).1,fun d hd=>?_,h⟩⟩;obtain ⟨j,hj,e⟩:=(mem d).1 hd;rw [← e];exact (hk j (by omega) hj).2
  rw [iQ,Sk a12]
  by_cases hs:Bu dens
  ·rw [Sj (hv.2 hs),hb,Os (hsome.1 hs)];rfl
  ·rw [Sk (fun x=>hs (hv.1 x)),hb,Po (fun x=>hs (hsome.2 x))];rfl
theorem ZY (hl:-1000000000000000000≤len∧len≤1000000000000000000) {n d:Int} (hn:bS n) (hd:bS d) (K:Bool→Prop) :
  Bb len n d K=K (decide (PT len n d)):=by
 unfold Bb Py;rw [Kf hn hd]
 by_cases h:RV n d
 ·obtain ⟨q,e1,e2,e3⟩:=Kd h;rw [chk,Sj h,kH rfl]
  by_cases h0:n≥0
  ·rw [bI h0,yMl,← e2,← e3,ZN (vQ hl) e1];congr 1;have:((len:Rat)<q)↔len*(q.den:Int)<q.num:=ZP _ _
   by_cases h3:(len:Rat)<q
   ·have h4:=this.1 h3;rw [Os h3,Po];rfl;intro hp;have:=hp.2.2;omega
   ·have h4:¬_:=fun x=>h3 (this.2 x)
    rw [Po h3,Os];rfl;exact ⟨e1.rv,by omega,by omega⟩
  ·rw [bE h0,Po];intro hp;have:=hp.2.1;omega
 ·rw [chk,Sk h,tF (by decide),Po];intro hp;exact h hp.1
theorem Rh {α:Type} {q:Rat} {k:Rat→Except Int α} (h:small q):jY q k=k q:=Sj h
end
structure Ck where
 len:Int
 cuts:List Int
 dens:List Int
instance:Inhabited Ck:=⟨⟨0,[],[]⟩⟩
def cA (c:Ck):PV:=.agg [.int .i64 c.len,.data (aI c.cuts),.data (aI c.dens)]
def aD (l:List Ck):List PV:=l.map cA
def Ck.fin (c:Ck):Prop:=c.cuts.length<4611686018427387904∧c.dens.length<4611686018427387904
def Ck.err (c:Ck):Int:=iQ c.len c.cuts c.dens
def Ck.ok (c:Ck):Prop:=VC c.len c.cuts c.dens
instance (c:Ck):Decidable c.ok:=by unfold Ck.ok;infer_instance
theorem dT (l:List Ck):(aD l).length=l.length:=cP ..
theorem lM {l:List Ck} {i:Nat} (h:i<l.length):getD (aD l) i .nils=cA (l.getD i default):=by unfold aD;rw [dH,dH,mJ,cN h];rfl
theorem kI {α:Type} {l:List α} {i:Nat} (d:α) (h:i<l.length):l.drop i=l.getD i d::l.drop (i+1):=by rw [List.drop_eq_getElem_cons h,dH,cN h];rfl
theorem eG {c:Ck} {P:Prop}:aA (aF zK (cA c)) P=P:=rfl
theorem mF (c:Ck):aK (aP (cA c) 0)=c.len:=rfl
theorem tG (c:Ck):bL (aP (cA c) 1)=aI c.cuts:=rfl
theorem tH (c:Ck):bL (aP (cA c) 2)=aI c.dens:=rfl
def mG:List Ck→Int
 | []=>0
 | c::t=>if c.err=0 then mG t else c.err
def rP (n:Int):List Ck→Bool
 | []=>true
 | c::t=>decide (c.len=n)&&rP n t
def oO (l:List Ck) (m:Nat):Int:=
 if l.length>6 then 4 else if m>2000 then 4 else if l.length=0 then 8 else if mG l=0 then (if rP (l.getD 0 default).len l then 0 else 8) else mG l
section
variable {l:List Ck}
def mZ (l:List Ck):Prop:=∀ i,i<l.length→(l.getD i default).fin
theorem ZZ (hf:mZ l) (hl:l.length<4611686018427387904) (x0:Int→Prop) (x1:List PV→List PV→List PV→Int→Int→Bool→Prop) (lg:List PV) :
  ∀ (r i n:Nat),i+r=l.length→r<n→Dp yaE x0 x1 n (aD l) lg (aD l) l.length i =
   if mG (l.drop i)=0 then x1 (aD l) lg (aD l) l.length l.length false else x0 (mG (l.drop i))
 | 0,i,n+1,hi,hn=>by unfold Dp;rw [bE (by omega),lV (by omega),show (i:Int)=l.length by omega];rfl
 | r+1,i,n+1,hi,hn=>by
  unfold Dp;have e1:=cI (n:=(i:Int)+1) (by omega) (by omega);obtain ⟨f1,f2⟩:=hf i (by omega);rw [bI (by omega),dT,cE,lM (by omega),aJ (by omega),aJ (by omega),eG,mF,tG,tH,Ec (by omega) (by omega),kI default (by omega),mG,e1,cZ];show aB ((l.getD i default).err !=0) _ _=_
  by_cases h:(l.getD i default).err=0
  ·rw [fA h,Sj h];exact ZZ hf hl x0 x1 lg r (i+1) n (by omega) (by omega)
  ·rw [iF h,Sk h,Sk h];rfl
theorem A0 (hl:l.length<4611686018427387904) (x0:Int→Prop) (x1:List PV→List PV→List PV→Int→Int→Bool→Prop) (lg:List PV) (W) :
  ∀ (r i n:Nat),i+r=l.length→r<n→AY W x0 x1 n (aD l) lg (aD l) l.length i =
   if rP (l.getD 0 default).len (l.drop i) then x1 (aD l) lg (aD l) l.length l.length false else x0 8
 | 0,i,n+1,hi,hn=>by unfold AY;rw [bE (by omega),lV (by omega),show (i:Int)=l.length by omega];rfl
 | r+1,i,n+1,hi,hn=>by
  unfold AY;have e1:=cI (n:=(i:Int)+1) (by omega) (by omega);rw [bI (by omega),dT,cE,lM (by omega),lM (by omega),aJ (by omega),aJ (by omega),eG,aJ (by omega),eG,mF,mF,kI default (by omega),rP,e1,cZ]
  by_cases h:(l.getD i default).len=(l.getD 0 default).len
  ·rw [fA h,Os h,gH];exact A0 hl x0 x1 lg W r (i+1) n (by omega) (by omega)
  ·rw [iF h,Po h,jS,Sk (by simp)]
theorem yHo (hf:mZ l) (hl:l.length<4611686018427387904) (lg:List PV) (K:Int→Prop):uP (aD l) lg K=K (oO l lg.length):=by
 refine nf _ _ _ (fun K k=>?_) K;unfold uP Pd;unfold oO at k;rw [dT]
 by_cases a1:l.length>6
 ·rw [bI (by omega)];rw [Sj a1] at k;exact k
 rw [bE (by omega)];rw [Sk a1] at k
 by_cases a2:lg.length>2000
 ·rw [bI (by omega)];rw [Sj a2] at k;exact k
 rw [bE (by omega)];rw [Sk a2] at k
 by_cases a3:l.length=0
 ·rw [kH (by omega)];rw [Sj a3] at k;exact k
 rw [tF (by omega)];rw [Sk a3] at k;refine ⟨l.length+1,?_⟩;have h0:=ZZ hf hl (fun c=>K c) (fun a d o p q r=>(∃ e:Nat,AY yaE (fun b=>(K b)) (fun f g i j m n=>(K (0:Int))) e a d a (((length a):Nat):Int) (0:Int))) lg l.length 0 (l.length+1) (by omega) (by omega);rw [show ((0:Nat):Int)=0 from rfl,hZ] at h0;rw [h0]
 by_cases a4:mG l=0
 ·rw [Sj a4] at k ⊢;refine ⟨l.length+1,?_⟩;have h1:=A0 hl (fun b=>(K b)) (fun f g i j m n=>(K (0:Int))) lg yaE l.length 0 (l.length+1) (by omega) (by omega);rw [show ((0:Nat):Int)=0 from rfl,hZ] at h1;rw [dT,h1];split at k<;>rename_i h<;>simp only [h]<;>exact k
 ·rw [Sk a4] at k ⊢;exact k
theorem A1 (hf:mZ l) (hl:l.length<4611686018427387904) (x0:Int→Prop) (x1:List PV→List PV→Int→Bool→Prop) (lg:List PV) :
  ∀ (r i n:Nat),i+r=l.length→r<n→Dx pR x0 x1 n (aD l) lg i =
   if mG (l.drop i)=0 then x1 (aD l) lg l.length false else x0 (mG (l.drop i))
 | 0,i,n+1,hi,hn=>by unfold Dx;rw [dT,bE (by omega),lV (by omega),show (i:Int)=l.length by omega];rfl
 | r+1,i,n+1,hi,hn=>by
  unfold Dx;have e1:=cI (n:=(i:Int)+1) (by omega) (by omega);obtain ⟨f1,f2⟩:=hf i (by omega);rw [dT,bI (by omega),cE,lM (by omega),aJ (by omega),aJ (by omega),eG,mF,tG,tH,ZX (by omega) (by omega),kI default (by omega),mG,e1,cZ];show aB ((l.getD i default).err !=0) _ _=_
  by_cases h:(l.getD i default).err=0
  ·rw [fA h,Sj h];exact A1 hf hl x0 x1 lg r (i+1) n (by omega) (by omega)
  ·rw [iF h,Sk h,Sk h,aJ (by omega),aJ (by omega),eG,ZX (by omega) (by omega)];rfl
theorem A2 (hl:l.length<4611686018427387904) (x0:Int→Prop) (x1:List PV→List PV→Int→Bool→Prop) (lg:List PV) (W) :
  ∀ (r i n:Nat),i+r=l.length→r<n→Bd W x0 x1 n (aD l) lg i =
   if rP (l.getD 0 default).len (l.drop i) then x1 (aD l) lg l.length false else x0 8
 | 0,i,n+1,hi,hn=>by unfold Bd;rw [dT,bE (by omega),lV (by omega),show (i:Int)=l.length by omega];rfl
 | r+1,i,n+1,hi,hn=>by
  unfold Bd;have e1:=cI (n:=(i:Int)+1) (by omega) (by omega);rw [dT,bI (by omega),cE,lM (by omega),lM (by omega),aJ (by omega),aJ (by omega),eG,aJ (by omega),eG,mF,mF,kI default (by omega),rP,e1,cZ]
  by_cases h:(l.getD i default).len=(l.getD 0 default).len
  ·rw [fA h,Os h,gH];exact A2 hl x0 x1 lg W r (i+1) n (by omega) (by omega)
  ·rw [iF h,Po h,jS,Sk (by simp)]
theorem yHp (hf:mZ l) (hl:l.length<4611686018427387904) (lg:List PV) (K:Int→Prop):uQ (aD l) lg K=K (oO l lg.length):=by
 refine qh _ _ _ (fun K k=>?_) K;unfold uQ PC;unfold oO at k;rw [dT]
 by_cases a1:l.length>6
 ·rw [bI (by omega)];rw [Sj a1] at k;exact k
 rw [bE (by omega)];rw [Sk a1] at k
 by_cases a2:lg.length>2000
 ·rw [bI (by omega)];rw [Sj a2] at k;exact k
 rw [bE (by omega)];rw [Sk a2] at k
 by_cases a3:l.length=0
 ·rw [kH (by omega)];rw [Sj a3] at k;exact k
 rw [tF (by omega)];rw [Sk a3] at k;refine ⟨l.length+1,?_⟩;have h0:=A1 hf hl (fun b=>K b) (fun c d m n=>(∃ e:Nat,Bd pR (fun a=>(K a)) (fun f g i j=>(K (0:Int))) e c d (0:Int))) lg l.length 0 (l.length+1) (by omega) (by omega);rw [show ((0:Nat):Int)=0 from rfl,hZ] at h0;rw [h0]
 by_cases a4:mG l=0
 ·rw [Sj a4] at k ⊢;refine ⟨l.length+1,?_⟩;have h1:=A2 hl (fun a=>(K a)) (fun f g i j=>(K (0:Int))) lg pR l.length 0 (l.length+1) (by omega) (by omega);rw [show ((0:Nat):Int)=0 from rfl,hZ] at h1;rw [h1];split at k<;>rename_i h<;>simp only [h]<;>exact k
 ·rw [Sk a4] at k ⊢;exact k
def Ck.low (c:Ck):Prop:=c.cuts.length≤1000∧c.dens.length≤1000
def Ri (l:List Ck):Prop:=∀ i,i<l.length→(l.getD i default).low
theorem A3:∀ (l:List Ck),mG l=0→∀ i,i<l.length→(l.getD i default).ok
 | c::t,h,0,_=>by
  unfold mG at h;split at h
  ·rename_i h1;exact Rf h1
  ·rename_i h1;exact absurd h h1
 | c::t,h,i+1,hi=>by
  unfold mG at h;split at h
  ·exact A3 t h i (by simpa using hi)
  ·rename_i h1;exact absurd h h1
theorem A4 {n:Int}:∀ (l:List Ck),rP n l=true→∀ i,i<l.length→(l.getD i default).len=n
 | c::t,h,0,_=>by unfold rP at h;simp only [bQ,decide_eq_true_eq] at h;exact h.1
 | c::t,h,i+1,hi=>by unfold rP at h;simp only [bQ,decide_eq_true_eq] at h;exact A4 t h.2 i (by simpa using hi)
structure DK (l:List Ck):Prop where
 n6:l.length≤6
 n0:1≤l.length
 ok:∀ i,i<l.length→(l.getD i default).ok
 len:∀ i,i<l.length→(l.getD i default).len=(l.getD 0 default).len
theorem A5 {m:Nat} (h:oO l m=0):DK l∧m≤2000:=by
 unfold oO at h;split at h
 ·omega
 split at h
 ·omega
 split at h
 ·omega
 split at h
 ·rename_i h0 h1 h2 h3;split at h
  ·rename_i h4;exact ⟨⟨by omega,by omega,A3 l h3,A4 l h4⟩,by omega⟩
  ·omega
 ·rename_i h3;exact absurd h h3
theorem DK.err {l:List Ck} (h:DK l) {m:Nat} (hm:m≤2000):oO l m=0:=by
 have f:∀ l:List Ck,(∀ i,i<l.length→(l.getD i default).ok)→mG l=0:=by
  intro l;induction l with
  | nil=>intro _;rfl
  | cons c t ih =>intro h;unfold mG;rw [Sj (show c.err=0 from (h 0 (BR _)).ck)];exact ih fun i hi=>h (i+1) (by simpa using hi)
 have g:∀ (n:Int) (l:List Ck),(∀ i,i<l.length→(l.getD i default).len=n)→rP n l=true:=by
  intro n l;induction l with
  | nil=>intro _;rfl
  | cons c t ih =>intro h;unfold rP;rw [bQ,decide_eq_true_eq];exact ⟨h 0 (BR _),ih fun i hi=>h (i+1) (by simpa using hi)⟩
 have:=h.n6;have:=h.n0;unfold oO;rw [Sk (by omega),Sk (by omega),Sk (by omega),Sj (f l h.ok),Sj (g _ l h.len)]
theorem DK.fin {l:List Ck} (h:DK l):mZ l:=fun i hi=>by have h1:=(h.ok i hi).l1;have h2:=(h.ok i hi).l2;exact ⟨by omega,by omega⟩
def Ee (l:List Ck):Bool:=l.any (fun c=>decide (c.cuts.length>60)||decide (c.dens.length>60))||decide (l.length>10)
theorem yHq {len:Int} {cuts dens:List Int} (K:Bool→Prop):AZ len (aI cuts) (aI dens) K=K (decide (cuts.length>60)||decide (dens.length>60)):=by
 unfold AZ Pu;rw [jL,jL]
 by_cases h:cuts.length>60
 ·rw [bI (by omega),Os h];rfl
 ·rw [bE (by omega),Po h,qB];congr 1;rw [Aaa];omega
theorem A6 (hl:l.length≤9223372036854775807) (K:Bool→Prop) :
  ∀ (r i n:Nat),i+r=l.length→r<n→Dv AZ (fun a=>(K a)) (fun b _ _=>(K (decide ((((length b):Nat):Int)>(10:Int))))) n (aD l) i =
   K ((l.drop i).any (fun c=>decide (c.cuts.length>60)||decide (c.dens.length>60))||decide (l.length>10))
 | 0,i,n+1,hi,hn=>by unfold Dv;rw [dT,bE (by omega),lV (by omega)];show K _=K (false||_);rw [qB];congr 1;rw [Aaa];omega
 | r+1,i,n+1,hi,hn=>by
  unfold Dv;have e1:=cI (n:=(i:Int)+1) (by omega) (by omega);rw [dT,bI (by omega),cE,lM (by omega),aJ (by omega),aJ (by omega),eG,mF,tG,tH,yHq,kI default (by omega),List.any_cons,e1,cZ]
  cases hb:(decide ((l.getD i default).cuts.length>60)||decide ((l.getD i default).dens.length>60)) with
  | true=>rw [aY];rfl
  | false=>rw [aV,qB];exact A6 hl K r (i+1) n (by omega) (by omega)
theorem yAc (hl:l.length≤9223372036854775807) (K:Bool→Prop):rJ (aD l) K=K (Ee l):=by refine qg _ _ (fun K k=>?_) K;unfold rJ PA;refine ⟨l.length+1,?_⟩;have:=A6 hl K l.length 0 (l.length+1) (by omega) (by omega);rw [show ((0:Nat):Int)=0 from rfl,hZ] at this;rw [this];exact k
theorem yFu (h:Ee l=false):l.length≤10∧Ri l∧mZ l:=by
 unfold Ee at h;simp only [wW,decide_eq_false_iff_not,List.any_eq_false,Bool.not_eq_true,Nat.not_lt] at h;have hh:∀ i,i<l.length→(l.getD i default).cuts.length≤60∧(l.getD i default).dens.length≤60:=by
  intro i hi;have hm:l.getD i default∈l:=by rw [dH,cN hi];exact nI hi
  have:=h.1 _ hm;omega
 exact ⟨by omega,fun i hi=>⟨by have:=hh i hi;omega,by have:=hh i hi;omega⟩,fun i hi=>⟨by have:=hh i hi;omega,by have:=hh i hi;omega⟩⟩
theorem yHr {n d:Int} (hn:-1000000000000000000≤n∧n≤1000000000000000000) (hd:1≤d∧d≤1000000000000000000):small ((n:Rat)/(d:Rat)):=by
 have e:(n:Rat)/(d:Rat)=mkRat n d.toNat:=by
  rw [Rat.mkRat_eq_div];have h1:((d.toNat:Nat):Int)=d:=by omega
  have h2:((d.toNat:Nat):Rat)=(d:Rat):=by rw [← Rat.intCast_natCast,h1]
  rw [h2]
 rw [e];unfold small;rw [Rat.num_mkRat,Rat.den_mkRat,Sk (by omega),Sk (by omega)];have g0:0<d.toNat.gcd n.natAbs:=Nat.gcd_pos_of_pos_left _ (by omega);have h1:(n/(d.toNat.gcd n.natAbs:Nat)).natAbs≤n.natAbs:=by
  rw [Int.natAbs_ediv_of_dvd,Aa]
  ·exact rZ _ _
  ·rw [← Int.dvd_natAbs,Int.ofNat_dvd];exact Ac _ _
 have h2:d.toNat/d.toNat.gcd n.natAbs≤d.toNat:=rZ _ _;generalize n/(d.toNat.gcd n.natAbs:Nat)=x at *
 generalize d.toNat/d.toNat.gcd n.natAbs=y at *
 omega
end
theorem Ki {D:Int} (h:1≤D):(D:Rat)≠0:=fun e=>by have:=Rat.intCast_eq_zero_iff.1 e;omega
section
variable {len:Int} {cuts dens:List Int}
def rem (cuts dens:List Int):Nat→Nat→Int
 | 0,_=>0
 | r+1,i=>dens.getD i 0*(cuts.getD (i+1) 0-cuts.getD i 0)+rem cuts dens r (i+1)
theorem Rj (cuts dens:List Int):∀ (r i:Nat) (s:Int),iR cuts dens r i s=s+rem cuts dens r i
 | 0,i,s=>by unfold iR rem;omega
 | r+1,i,s=>by unfold iR rem;rw [Rj cuts dens r (i+1)];omega
theorem A7 (h:VC len cuts dens):∀ (r i:Nat),i+r=dens.length→0≤rem cuts dens r i∧rem cuts dens r i≤12*(len-cuts.getD i 0)
 | 0,i,hi=>by have:=h.l1;have:=h.hi (i:=i) (by omega);unfold rem;omega
 | r+1,i,hi=>by unfold rem;have l1:=h.l1;have h2:=h.step (i:=i) (by omega);have h3:=Kg (h.den (i:=i) (by omega)) (x:=cuts.getD (i+1) 0-cuts.getD i 0) (by omega);have:=A7 h r (i+1) (by omega);omega
theorem A8 (h:VC len cuts dens):∀ (r i:Nat),i+r=dens.length→(∃ j,i≤j∧j<dens.length∧0<dens.getD j 0)→0<rem cuts dens r i
 | 0,i,hi,⟨j,h1,h2,_⟩=>by omega
 | r+1,i,hi,⟨j,h1,h2,h3⟩=>by
  unfold rem;have l1:=h.l1;have s:=h.step (i:=i) (by omega);have m:=Kg (h.den (i:=i) (by omega)) (x:=cuts.getD (i+1) 0-cuts.getD i 0) (by omega);have b:=A7 h r (i+1) (by omega)
  by_cases e:j=i
  ·subst e;have:=Int.mul_pos h3 (show 0<cuts.getD (j+1) 0-cuts.getD j 0 by omega);omega
  ·have:=A8 h r (i+1) (by omega) ⟨j,by omega,h2,h3⟩;omega
theorem A9 (h:VC len cuts dens):0<totC cuts dens:=by unfold totC;rw [Rj];obtain ⟨d,hd,h0⟩:=h.2.2.2.2.2.2.2.2.2;obtain ⟨j,hj,e⟩:=List.mem_iff_getElem.1 hd;have:=A8 h dens.length 0 (by omega) ⟨j,by omega,hj,by rw [dH,cN hj];simpa [e] using h0⟩;omega
end
structure Sp where
 a:Int
 b:Int
 c:Int
 d:Int
 deriving DecidableEq
instance:Inhabited Sp:=⟨⟨0,0,0,0⟩⟩
def cC (s:Sp):PV:=.agg [.int .i64 s.a,.int .i64 s.b,.int .i64 s.c,.int .i64 s.d]
def fP (l:List Sp):List PV:=l.map cC
def jM (l:List (List Sp)):List PV:=l.map fun s=>.data (fP s)
theorem rQ (l:List Sp):(fP l).length=l.length:=cP ..
theorem Ef {l:List Sp} {i:Nat} (h:i<l.length):getD (fP l) i .nils=cC (l.getD i default):=by unfold fP;rw [dH,dH,mJ,cN h];rfl
theorem vT (l:List (List Sp)):(jM l).length=l.length:=cP ..
theorem Rk {l:List (List Sp)} {i:Nat} (h:i<l.length):getD (jM l) i .nils=.data (fP (l.getD i [])):=by unfold jM;rw [dH,dH,mJ,cN h];rfl
theorem gG {r:List PV} {P:Prop}:aA (aF zD (.data r)) P=P:=rfl
section
variable {l:List Ck}
theorem yJN (x y:Rat):decide (eY x y≥0)=!decide (x<y):=by
 unfold eY
 by_cases h:x<y
 ·simp [h]
 ·by_cases h2:y<x<;>simp [h,h2]
end
def vU:DS:=.a [.i .i64,.i .i64]
def tI:DS:=.a [.i .i64,.s (.i .i64),.s (.i .i64)]
theorem zF {n:Int} (h:gD .i64 n):bS n:=by
 have e1:i64.min=-9223372036854775808:=by decide
 have e2:i64.max=9223372036854775807:=by decide
 unfold gD at h;rw [e1,e2] at h;exact h
theorem Rl {c:List PV} (h:HasF (.i .i64) c):∃ n,c=[.int .i64 n]∧bS n:=by simp only [HasF] at h;obtain ⟨n,e,k⟩:=h;exact ⟨n,e,zF k⟩
theorem F_r {c:List PV} (h:HasF vU c):∃ n d,c=[.int .i64 n,.int .i64 d]∧bS n∧bS d:=by simp only [vU,HasF,HasL] at h;obtain ⟨c1,c2,rfl,⟨n,rfl,hn⟩,c3,c4,rfl,⟨d,rfl,hd⟩,rfl⟩:=h;exact ⟨n,d,rfl,zF hn,zF hd⟩
theorem Rm:∀ (rows:List PV),(∀ x∈rows,x.isAgg=(DS.i .i64).isA∧HasF (.i .i64) x.cells)→∃ l:List Int,rows=aI l∧∀ n∈l,bS n
 | [],_=>⟨[],rfl,by simp⟩
 | x::r,h=>by
  obtain ⟨l,e,hl⟩:=Rm r (fun y hy=>h y (eE _ hy));obtain ⟨h1,h2⟩:=h x (eH ..);obtain ⟨n,e2,hn⟩:=Rl h2;have ex:x=.int .i64 n:=by
   cases x<;>first | (simp only [PV.cells,iH,and_true] at e2;exact e2) | (cases h1)
  refine ⟨n::l,by rw [ex,e];rfl,?_⟩;intro m hm;rcases qAq.1 hm with rfl | hm
  ·exact hn
  ·exact hl m hm
def Ck.i64 (c:Ck):Prop:=bS c.len∧(∀ n∈c.cuts,bS n)∧∀ n∈c.dens,bS n
theorem F_c {c:List PV} (h:HasF tI c):∃ k:Ck,c=[.int .i64 k.len,.data (aI k.cuts),.data (aI k.dens)]∧k.i64∧k.cuts.length≤9223372036854775807∧k.dens.length≤9223372036854775807:=by simp only [tI,HasF,HasL] at h;obtain ⟨c1,c2,rfl,⟨n,rfl,hn⟩,c3,c4,rfl,⟨r1,rfl,l1,h1⟩,c5,c6,rfl,⟨r2,rfl,l2,h2⟩,rfl⟩:=h;obtain ⟨a,rfl,ha⟩:=Rm r1 (fun x hx=>⟨(h1 x hx).1,by simp only [HasF];exact (h1 x hx).2⟩);obtain ⟨b,rfl,hb⟩:=Rm r2 (fun x hx=>⟨(h2 x hx).1,by simp only [HasF];exact (h2 x hx).2⟩);rw [jL] at l1 l2;exact ⟨⟨n,a,b⟩,rfl,⟨zF hn,ha,hb⟩,l1,l2⟩
theorem Kj {x:PV} {l:List DS} (h:x.isAgg=(DS.a l).isA):x=.agg x.cells:=by
 cases x<;>first | rfl | cases h
theorem B0:∀ (rows:List PV),(∀ x∈rows,x.isAgg=tI.isA∧HasF tI x.cells)→∃ l:List Ck,rows=aD l∧∀ c∈l,c.i64
 | [],_=>⟨[],rfl,by simp⟩
 | x::r,h=>by
  obtain ⟨l,e,hl⟩:=B0 r (fun y hy=>h y (eE _ hy));obtain ⟨h1,h2⟩:=h x (eH ..);obtain ⟨k,e2,hk,_⟩:=F_c h2;have ex:x=cA k:=by rw [Kj h1,e2];rfl
  refine ⟨k::l,by rw [ex,e];rfl,?_⟩;intro m hm;rcases qAq.1 hm with rfl | hm
  ·exact hk
  ·exact hl m hm
theorem yMO {c:List PV} (h:HasF (.s tI) c):∃ l:List Ck,c=[.data (aD l)]∧l.length≤9223372036854775807∧∀ k∈l,k.i64:=by simp only [HasF] at h;obtain ⟨rows,rfl,hl,hr⟩:=h;obtain ⟨l,rfl,hi⟩:=B0 rows hr;rw [dT] at hl;exact ⟨l,rfl,hl,hi⟩
theorem GJ {x y:PV} (h:x.isAgg=false) (e:x.cells=[y]):x=y:=by
 cases x<;>first | (simp only [PV.cells,iH,and_true] at e;exact e) | cases h
end Go.Pf.Vc
namespace Go.Pf.Vc
abbrev RS:Type:=Rat×Rat
def Rn (s:RS) (p:Rat):Prop:=s.1≤p∧p<s.2
def memP (l:List RS) (p:Rat):Prop:=∃ s∈l,Rn s p
def GK:List RS→Prop
 | []=>True
 | s::r=>s.1<s.2∧(∀ t∈r,s.2<t.1)∧GK r
theorem yIL {p:Rat}:¬memP [] p:=fun ⟨s,h,_⟩=>by cases h
theorem ypL {s:RS} {r:List RS} {p:Rat}:memP (s::r) p↔Rn s p∨memP r p:=by
 constructor
 ·rintro ⟨t,h,hp⟩;rcases qAq.1 h with rfl | h
  ·exact .inl hp
  ·exact .inr ⟨t,h,hp⟩
 ·rintro (h | ⟨t,h,hp⟩)
  ·exact ⟨s,eH,h⟩
  ·exact ⟨t,eE _ h,hp⟩
def eA (a b:Rat):Rat:=if a<b then b else a
def GL:List RS→Prop
 | []=>True
 | s::r=>(∀ t∈r,s.1≤t.1)∧GL r
def jN (a b:Rat):Rat:=if a<b then a else b
theorem vV (a b:Rat):a≤eA a b∧b≤eA a b∧(eA a b=a∨eA a b=b):=by unfold eA;split<;>grind
theorem Bv (a b:Rat):jN a b≤a∧jN a b≤b∧(jN a b=a∨jN a b=b):=by unfold jN;split<;>grind
end Go.Pf.Vc
namespace Go.Pf.Vc
open Go Go.Pf
def Sp.rs (s:Sp):RS:=(rt s.a s.b,rt s.c s.d)
def Sp.ok (s:Sp):Prop:=RV s.a s.b∧RV s.c s.d∧rt s.a s.b<rt s.c s.d
instance (s:Sp):Decidable s.ok:=by unfold Sp.ok;infer_instance
def Sp.i64 (s:Sp):Prop:=bS s.a∧bS s.b∧bS s.c∧bS s.d
theorem Ro {q r:Rat} (hq:small q) (hr:small r) (K:Int→Prop):yaS q.num q.den r.num r.den K=K (eY q r):=by unfold yaS OV;rw [Ke hq hr]
theorem yIM {a b c d:Int} (h:RV a b) (k:RV c d) (K:Int→Prop):yaS a b c d K=K (eY (rt a b) (rt c d)):=by obtain ⟨h1,h2,h3⟩:=mE h;obtain ⟨k1,k2,k3⟩:=mE k;have:=Ro h1 k1 K;rw [h2,h3,k2,k3] at this;exact this
theorem B1 (q r:Rat):decide (eY q r<0)=decide (q<r):=by
 unfold eY
 by_cases h:q<r
 ·rw [Sj h];simp [h]
 ·rw [Sk h];split<;>simp [h]
theorem yJO (q r:Rat):decide (eY q r≤0)=!decide (r<q):=by
 unfold eY
 by_cases h:q<r
 ·have:¬r<q:=by grind
  rw [Sj h];simp [this]
 ·rw [Sk h]
  by_cases h2:r<q
  ·rw [Sj h2];simp [h2]
  ·rw [Sk h2];simp [h2]
theorem yIN {s:Sp} (h:s.i64) (K:Bool→Prop):sW s.a s.b s.c s.d K=K (decide s.ok):=by
 refine mj _ _ _ _ _ (fun K k=>?_) K;unfold sW OS;refine Zn h.1 h.2.1 h.2.2.1 h.2.2.2 ?_
 by_cases h1:RV s.a s.b
 ·by_cases h2:RV s.c s.d
  ·have e:bY s.a s.b s.c s.d=0:=nN.2 ⟨h1,h2⟩;obtain ⟨_,n1,n2⟩:=mE h1;obtain ⟨_,n3,n4⟩:=mE h2;have e2:=ZG (rt s.a s.b) (rt s.c s.d);rw [n1,n2,n3,n4] at e2;rw [e,Sj rfl,kH rfl,e2,B1];have e3:decide s.ok=decide (rt s.a s.b<rt s.c s.d):=by rw [Aaa];exact ⟨fun k=>k.2.2,fun k=>⟨h1,h2,k⟩⟩
   rw [← e3];exact k
  ·have e:bY s.a s.b s.c s.d≠0:=fun e=>h2 (nN.1 e).2
   rw [tF e];have e3:decide s.ok=false:=Po fun k=>h2 k.2.1
   rw [← e3];exact k
 ·have e:bY s.a s.b s.c s.d≠0:=fun e=>h1 (nN.1 e).1
  rw [tF e];have e3:decide s.ok=false:=Po fun k=>h1 k.1
  rw [← e3];exact k
theorem oP {s:Sp} {P:Prop}:aA (aF z4 (cC s)) P=P:=rfl
def yj4 (l:List Sp):Bool:=l.all fun s=>decide s.ok
theorem yIO {l:List Sp} (h64:∀ s∈l,s.i64) (hl:l.length<4611686018427387904) :
  ∀ x0 x1,∀ (r i n:Nat),i+r=l.length→r<n→Dn sW x0 x1 n (fP l) l.length i=if yj4 (l.drop i) then x1 (fP l) l.length l.length false else x0 8:=by
 intro x0 x1 r;induction r with
 | zero=>
  intro i n hi hn;obtain ⟨n,rfl⟩:∃ m,n=m+1:=⟨n-1,by omega⟩;obtain rfl:i=l.length:=by omega
  rw [Dn,bE (by omega),wZ];rfl
 | succ r ih=>
  intro i n hi hn;obtain ⟨n,rfl⟩:∃ m,n=m+1:=⟨n-1,by omega⟩;have hil:i<l.length:=by omega
  have e1:=cI (n:=(i:Int)+1) (by omega) (by omega);have hm:l.getD i default∈l:=by rw [dH,cN hil];exact nI hil
  have hd:yj4 (l.drop i)=(decide (l.getD i default).ok&&yj4 (l.drop (i+1))):=by rw [kI default hil];rfl
  rw [Dn,bI (by omega),aJ (by omega),rQ,aJ (by omega),cE,Ef hil,oP,e1,cZ];change sW (l.getD i default).a (l.getD i default).b (l.getD i default).c (l.getD i default).d _=_;rw [yIN (h64 _ hm),hd]
  cases hv:decide (l.getD i default).ok with
  | true =>rw [show (!true)=false from rfl,aV,gH];exact ih (i+1) n (by omega) (by omega)
  | false =>rw [show (!false)=true from rfl,aY,jS];rfl
def jO (l:List Sp):Int:=if l.length>60 then 4 else if yj4 l then 0 else 8
theorem yMo {l:List Sp} (h64:∀ s∈l,s.i64) (hl:l.length<4611686018427387904) (K:Int→Prop):uN (fP l) K=K (jO l):=by
 refine ml _ _ (fun K k=>?_) K;unfold uN OT;unfold jO at k;rw [rQ]
 by_cases h:l.length>60
 ·rw [bI (by omega)];rw [Sj h] at k;exact k
 ·rw [bE (by omega)];rw [Sk h] at k;refine ⟨l.length+1,?_⟩;refine (yIO h64 hl _ _ l.length 0 (l.length+1) (by omega) (by omega)).mpr ?_;rw [hZ];split
  ·rename_i h2;rw [Sj h2] at k;exact k
  ·rename_i h2;rw [Sk h2] at k;exact k
def gapB:Sp→List Sp→Bool
 | _,[]=>true
 | s,t::r=>decide (s.rs.2<t.rs.1)&&gapB t r
theorem yFv {l:List Sp} (hok:∀ s∈l,s.ok) (hl:l.length<4611686018427387904) :
  ∀ x0 x1,∀ (r i n:Nat),i+1+r=l.length→r<n→AX uN yaS x0 x1 n (fP l) ((i+1:Nat):Int)=if gapB (l.getD i default) (l.drop (i+1)) then x1 (fP l) l.length false else x0 8:=by
 intro x0 x1 r;induction r with
 | zero =>intro i n hi hn;obtain ⟨n,rfl⟩:∃ m,n=m+1:=⟨n-1,by omega⟩;rw [AX,rQ,bE (by omega),List.drop_eq_nil_of_le (by omega),show i+1=l.length by omega];rfl
 | succ r ih=>
  intro i n hi hn;obtain ⟨n,rfl⟩:∃ m,n=m+1:=⟨n-1,by omega⟩;have e0:=cI (n:=((i+1:Nat):Int)-1) (by omega) (by omega);have e2:((i+1:Nat):Int)-1=(i:Int):=by omega
  have e1:=cI (n:=((i+1:Nat):Int)+1) (by omega) (by omega);have hm1:l.getD i default∈l:=by rw [dH,cN (by omega)];exact nI (by omega)
  have hm2:l.getD (i+1) default∈l:=by rw [dH,cN (by omega)];exact nI (by omega)
  rw [AX,rQ,bI (by omega),e0,e2,aJ (by omega),aJ (by omega),cE,Ef (by omega),oP,aJ (by omega),aJ (by omega),cE,Ef (by omega),oP];change yaS (l.getD i default).c (l.getD i default).d (l.getD (i+1) default).a (l.getD (i+1) default).b _=_;rw [yIM (hok _ hm1).2.1 (hok _ hm2).1,e1,cZ,kI default (by omega)];unfold gapB;have e3:decide (eY (rt (l.getD i default).c (l.getD i default).d) (rt (l.getD (i+1) default).a (l.getD (i+1) default).b)≥0)=!decide ((l.getD i default).rs.2<(l.getD (i+1) default).rs.1):=yJN _ _;rw [e3]
  cases decide ((l.getD i default).rs.2<(l.getD (i+1) default).rs.1) with
  | true =>rw [show (!true)=false from rfl,aV,gH];exact ih (i+1) n (by omega) (by omega)
  | false =>rw [show (!false)=true from rfl,aY,jS];rfl
def eI (l:List Sp):List RS:=l.map Sp.rs
def nA (l:List Sp):Int:=if jO l=0 then (match l with | []=>0 | s::r=>if gapB s r then 0 else 8) else jO l
theorem B2 {l:List Sp} (h:jO l=0):l.length≤60∧∀ s∈l,s.ok:=by
 unfold jO at h;split at h
 ·cases h
 ·split at h
  ·rename_i h1 h2;exact ⟨by omega,fun s hs=>by simpa using tL.1 h2 s hs⟩
  ·cases h
theorem yHs {l:List Sp} (h64:∀ s∈l,s.i64) (hl:l.length<4611686018427387904) (K:Int→Prop):yaN (fP l) K=K (nA l):=by
 refine mn _ _ (fun K k=>?_) K;unfold yaN OX;unfold nA at k;rw [yMo h64 hl]
 by_cases h:jO l=0
 ·rw [Sj h] at k;rw [fA h];obtain ⟨h1,h2⟩:=B2 h
  cases l with
  | nil =>refine ⟨1,?_⟩;rw [AX,rQ,bE (by simp)];exact k
  | cons s r=>
   refine ⟨r.length+1,?_⟩;refine (yFv h2 hl _ _ r.length 0 (r.length+1) (by simp;omega) (by omega)).mpr ?_;dsimp only at k;show if gapB s r then _ else _
   split
   ·rename_i hg;rw [Sj hg] at k;exact k
   ·rename_i hg;rw [Sk hg] at k;exact k
 ·rw [Sk h] at k;rw [iF h];exact k
theorem Rp:∀ (r:List Sp) (s:Sp),s.ok→(∀ t∈r,t.ok)→(gapB s r=true↔GK (eI (s::r)))
 | [],s,hs,_=>⟨fun _=>⟨hs.2.2,by simp,trivial⟩,fun _=>rfl⟩
 | t::r,s,hs,h=>by
  have ht:=h t eH;have ih:=Rp r t ht fun u hu=>h u (eE _ hu)
  unfold gapB;rw [bQ,decide_eq_true_eq,ih];constructor
  ·rintro ⟨h1,h2⟩;refine ⟨hs.2.2,fun u hu=>?_,h2⟩;rcases qAq.1 hu with rfl | hu
   ·exact h1
   ·have:=h2.2.1 u hu;have:=h2.1;show s.rs.2<u.1;grind
  ·rintro ⟨_,h2,h3⟩;exact ⟨h2 _ eH,h3⟩
theorem yD6 {l:List Sp} (h:nA l=0):l.length≤60∧(∀ s∈l,s.ok)∧GK (eI l):=by
 unfold nA at h;split at h
 ·rename_i h0;obtain ⟨h1,h2⟩:=B2 h0;refine ⟨h1,h2,?_⟩
  cases l with
  | nil=>trivial
  | cons s r=>
   dsimp only at h;split at h
   ·rename_i hg;exact (Rp r s (h2 s eH) fun t ht=>h2 t (eE _ ht)).1 hg
   ·cases h
 ·rename_i h0;exact absurd h h0
end Go.Pf.Vc
namespace Go.Pf.Vc
open Go Go.Pf Go.Sort
theorem Kk {n d:Int}:Ii n d=true↔RV n d:=by unfold Ii RV;simp only [bQ,decide_eq_true_eq]
theorem yJP {a b c d:Int} (h:RV a b) (k:RV c d):kF a b c d<0↔rt a b<rt c d:=by
 obtain ⟨_,h2,h3⟩:=mE h;obtain ⟨_,k2,k3⟩:=mE k;rw [Rat.lt_iff,h2,h3,k2,k3];unfold kF
 by_cases h:a*d<c*b
 ·rw [Sj h];simp [h]
 ·rw [Sk h];split<;>simp [h]
def Rq:PV→Rat
 | .agg (.int _ a::.int _ b::_)=>rt a b
 | _=>0
theorem Kl {x y:PV} (hx:AG x=true) (hy:AG y=true):pN x y<0↔Rq x<Rq y:=by
 unfold AG at hx hy;split at hx
 ·split at hy
  ·simp only [pN,Rq];exact yJP (Kk.1 hx) (Kk.1 hy)
  ·cases hy
 ·cases hx
theorem zG {n g:Nat} (x:(nM n g).s.El):AG x.1=true:=by have:=x.2;simp only [Srt.gd,bQ] at this;exact this.2
theorem Rr (n g:Nat):SWO (fun x y:(nM n g).s.El=>decide ((nM n g).cf x y<0)) where
 irrefl x:=by
  have:=Kl (zG x) (zG x);show decide (pN x.1 x.1<0)=false;rw [decide_eq_false_iff_not,this];exact Rat.lt_irrefl
 trans x y z h1 h2:=by
  have h1:decide (pN x.1 y.1<0)=true:=h1;have h2:decide (pN y.1 z.1<0)=true:=h2;show decide (pN x.1 z.1<0)=true;rw [decide_eq_true_eq,Kl (zG _) (zG _)] at *
  grind
 ntrans x y z h1 h2:=by
  have h1:decide (pN x.1 y.1<0)=false:=h1;have h2:decide (pN y.1 z.1<0)=false:=h2;show decide (pN x.1 z.1<0)=false;rw [decide_eq_false_iff_not,Kl (zG _) (zG _)] at *
  grind
theorem Rs {s:Srt}:∀ {l:List PV},(∀ x∈l,s.gd x=true)→∃ d,s.rows? l=some d
 | [],_=>⟨[],rfl⟩
 | x::r,h=>by
  obtain ⟨d,hd⟩:=Rs (s:=s) (l:=r) fun y hy=>h y (eE _ hy)
  refine ⟨⟨x,h x eH⟩::d,?_⟩;simp only [Srt.rows?];rw [dif_pos (h x eH),hd]
theorem RV.i1 {n d:Int} (h:RV n d):bS n:=by obtain ⟨h1,h2,h3,h4,_⟩:=h;exact ⟨by omega,by omega⟩
theorem RV.i2 {n d:Int} (h:RV n d):bS d:=by obtain ⟨h1,h2,h3,h4,_⟩:=h;exact ⟨by omega,by omega⟩
theorem Sp.ok.i64 {s:Sp} (h:s.ok):s.i64:=⟨h.1.i1,h.1.i2,h.2.1.i1,h.2.1.i2⟩
theorem B3 (n g:Nat) {s:Sp} (h:s.ok):(nM n g).s.gd (cC s)=true:=by
 obtain ⟨h1,h2,h3,h4⟩:=h.i64;have e1:i64.min=-9223372036854775808:=by decide
 have e2:i64.max=9223372036854775807:=by decide
 simp only [Srt.gd,nM,CC,cC,eP,AG,bQ,decide_eq_true_eq,e1,e2];unfold bS at h1 h2 h3 h4;exact ⟨⟨trivial,h1.1,h1.2,trivial,h2.1,h2.2,trivial,h3.1,h3.2,trivial,h4.1,h4.2,trivial⟩,Kk.2 h.1⟩
def jP:PV→Sp
 | .agg [.int _ a,.int _ b,.int _ c,.int _ d]=>⟨a,b,c,d⟩
 | _=>default
theorem B4 (s:Sp):jP (cC s)=s:=rfl
theorem yHt (n g:Nat) {l:List Sp} (h:∀ s∈l,s.ok):∃ l':List Sp,l'.Perm l∧l'.Pairwise (fun s t=>¬t.rs.1<s.rs.1)∧Srt.sorted (nM n g).s (nM n g).srt (fP l)=fP l':=by
 obtain ⟨d,hd⟩:=Rs (s:=(nM n g).s) (l:=fP l) fun x hx=>by
  obtain ⟨s,hs,rfl⟩:=fT.1 hx;exact B3 n g (h s hs)
 obtain ⟨d',h1,h2,h3⟩:=(nM n g).sorted_is (Rr n g) hd;have hv:=Srt.rows?_val hd;have hp:(d'.map (·.1)).Perm (fP l):=by rw [← hv];exact h1.map _
 have hm:∀ x∈d'.map (·.1),∃ s∈l,cC s=x:=fun x hx=>fT.1 (hp.mem_iff.1 hx)
 refine ⟨(d'.map (·.1)).map jP,?_,?_,?_⟩
 ·have this:(map jP (d'.map (·.1))).Perm (map jP (l.map cC)):=hp.map jP;have e:map jP (l.map cC)=l:=by rw [iI,show jP ∘ cC=id from funext B4,List.map_id]
  rw [e] at this;exact this
 ·rw [iI,List.pairwise_map];refine h2.imp_of_mem fun {x y} hx hy hxy=>?_
  have hxy:¬pN y.1 x.1<0:=hxy;rw [Kl (zG _) (zG _)] at hxy;obtain ⟨s,_,es⟩:=hm x.1 (List.mem_map_of_mem hx);obtain ⟨t,_,et⟩:=hm y.1 (List.mem_map_of_mem hy);show ¬(jP y.1).rs.1<(jP x.1).rs.1;rw [← es,← et] at hxy ⊢;exact hxy
 ·rw [h3];have key:∀ (xs:List PV),(∀ x∈xs,∃ s∈l,cC s=x)→(xs.map jP).map cC=xs:=by
   intro xs;induction xs with
   | nil=>intro _;rfl
   | cons x r ih =>intro h;obtain ⟨s,_,es⟩:=h x eH;rw [mK,mK,ih fun y hy=>h y (eE _ hy),← es,B4]
  exact (key _ hm).symm
end Go.Pf.Vc
namespace Go.Pf.Vc
open Go Go.Pf
def dC (r:RS):Sp:=⟨r.1.num,r.1.den,r.2.num,r.2.den⟩
def aS (l:List RS):List PV:=fP (l.map dC)
def iS (r:RS):Prop:=small r.1∧small r.2
theorem gO (l:List RS):(aS l).length=l.length:=by unfold aS;rw [rQ,cP]
def nB (r:RS):PV:=cC (dC r)
theorem pT {l:List RS} {i:Nat} (h:i<l.length):getD (aS l) i .nils=nB (l.getD i default):=by unfold aS;rw [Ef (by rw [cP];exact h)];unfold nB;congr 1;rw [dH,dH,mJ,cN h];rfl
theorem vY (r:RS):aK (aP (nB r) 0)=r.1.num:=rfl
theorem Eg (r:RS):aK (aP (nB r) 1)=r.1.den:=rfl
theorem vZ (r:RS):aK (aP (nB r) 2)=r.2.num:=rfl
theorem wA (r:RS):aK (aP (nB r) 3)=r.2.den:=rfl
theorem pU (r:RS) (P:Prop):aA (aF z4 (nB r)) P=P:=rfl
theorem yJQ (a b:List RS):aS a++aS b=aS (a++b):=by unfold aS fP;rw [List.map_append,List.map_append]
theorem asE {α:Type} [DecidableEq α] (a:α) (P:Prop):aA (decide (a=a)) P=P:=by rw [Os rfl,cH]
theorem Rt (P:Prop):aA (decide True) P=P:=by rw [decide_true];rfl
theorem Km {l:List RS} (h:∀ s∈l,iS s) {i:Nat} (hi:i<l.length):iS (l.getD i default):=by rw [dH,cN hi];exact h _ (nI hi)
theorem B5 {s:Sp} (h:s.ok):dC s.rs=s:=by
 obtain ⟨_,h2,h3⟩:=mE h.1;obtain ⟨_,k2,k3⟩:=mE h.2.1;unfold dC Sp.rs
 cases s
 simp only at h2 h3 k2 k3 ⊢;rw [h2,h3,k2,k3]
theorem B6 {r:RS} (_:iS r):(dC r).rs=r:=by show (rt r.1.num r.1.den,rt r.2.num r.2.den)=r;rw [mY,mY]
theorem Kn {r:RS} (h:iS r) (hv:r.1<r.2):(dC r).ok:=⟨h.1.rv,h.2.rv,by
 show rt r.1.num r.1.den<rt r.2.num r.2.den;rw [mY,mY];exact hv⟩
theorem yIR {s:Sp} (h:s.ok):iS s.rs:=⟨(mE h.1).1,(mE h.2.1).1⟩
theorem B7 {l:List Sp} (h:∀ s∈l,s.ok):fP l=aS (eI l):=by
 unfold aS eI;rw [iI];congr 1
 conv=>lhs;rw [← List.map_id l]
 exact nH fun s hs=>(B5 (h s hs)).symm
theorem B8:∀ {l:List RS},l.Pairwise (fun s t=>¬t.1<s.1)→GL l
 | [],_=>trivial
 | s::r,h=>by rw [List.pairwise_cons] at h;exact ⟨fun t ht=>by have:=h.1 t ht;grind,B8 h.2⟩
theorem B9 {a b c d:Int} (h:RV a b) (k:RV c d) (K:Bool→Prop):rI a b c d K=K (decide (rt a b<rt c d)):=by obtain ⟨h1,h2,h3⟩:=mE h;obtain ⟨k1,k2,k3⟩:=mE k;have:=ZN h1 k1 K;rw [h2,h3,k2,k3] at this;exact this
theorem yHu {s:Sp} (h:s.i64) (K:Bool→Prop):yP s.a s.b s.c s.d K=K (decide s.ok):=by
 unfold yP PI;dsimp only [Go.Pf.jn];rw [yIH h.1 h.2.1 h.2.2.1 h.2.2.2]
 by_cases h1:RV s.a s.b∧RV s.c s.d
 ·rw [kH (nN.2 h1),B9 h1.1 h1.2];have e3:decide s.ok=decide (rt s.a s.b<rt s.c s.d):=by rw [Aaa];exact ⟨fun k=>k.2.2,fun k=>⟨h1.1,h1.2,k⟩⟩
  rw [e3]
 ·rw [tF fun e=>h1 (nN.1 e)];have e3:decide s.ok=false:=Po fun k=>h1 ⟨k.1,k.2.1⟩
  rw [e3]
theorem Sp.getD_mem {l:List Sp} {i:Nat} (h:i<l.length):l.getD i default∈l:=by rw [dH,cN h];exact nI h
def iT:Option Sp→List Sp→Bool
 | _,[]=>true
 | none,t::r=>decide t.ok&&iT (some t) r
 | some s,t::r=>decide t.ok&&(decide (s.rs.2<t.rs.1)&&iT (some t) r)
theorem C0 (t:Sp) (r:List Sp):iT none (t::r)=(decide t.ok&&iT (some t) r):=rfl
theorem Ru (s t:Sp) (r:List Sp):iT (some s) (t::r)=(decide t.ok&&(decide (s.rs.2<t.rs.1)&&iT (some t) r)):=rfl
theorem yD9 {l:List Sp} (h64:∀ s∈l,s.i64) (hl:l.length<4611686018427387904) {x0:List PV→Int→Bool→Prop} {x1:Int→Prop} :
  ∀ (r i n:Nat) (p:Option Sp),i+r=l.length→r<n→(p=if i=0 then none else some (l.getD (i-1) default))→(∀ s,p=some s→s.ok) →
   DB yP rI x0 x1 n (fP l) (i:Int)=if iT p (l.drop i) then x0 (fP l) (l.length:Int) false else x1 8:=by
 intro r;induction r with
 | zero=>
  intro i n p hi hn _ _;obtain ⟨n,rfl⟩:∃ m,n=m+1:=⟨n-1,by omega⟩;obtain rfl:i=l.length:=by omega
  rw [DB,rQ,bE (by omega),wZ];unfold iT;rfl
 | succ r ih=>
  intro i n p hi hn hp hpo;obtain ⟨n,rfl⟩:∃ m,n=m+1:=⟨n-1,by omega⟩;have hil:i<l.length:=by omega
  have e1:=cI (n:=(i:Int)+1) (by omega) (by omega);have hd:l.drop i=l.getD i default::l.drop (i+1):=kI default hil;have hx:=h64 _ (Sp.getD_mem hil);have IH:=fun (ho:(l.getD i default).ok)=>ih (i+1) n (some (l.getD i default)) (by omega) (by omega) (by rw [Sk (by omega)];rfl) (fun s hs=>by cases hs;exact ho)
  rw [DB,rQ,bI (by omega)];dsimp only [lt,Go.Pf.jn];rw [aJ (by omega),aJ (by omega),cE,Ef hil,oP,e1,hd];change yP (l.getD i default).a (l.getD i default).b (l.getD i default).c (l.getD i default).d _=_;rw [yHu hx]
  by_cases ho:(l.getD i default).ok
  ·rw [Os ho,show (!true)=false from rfl,aV]
   by_cases h0:i=0
   ·subst h0;rw [Sj rfl] at hp;subst hp;rw [bE (by omega),aV,cZ];have:=IH ho;rw [this,C0,Os ho,gH]
   ·rw [Sk h0] at hp;have e2:=cI (n:=(i:Int)-1) (by omega) (by omega);have e3:((i:Int)-1).toNat=i-1:=by omega
    rw [bI (by omega),e2,aJ (by omega),aJ (by omega),e3,Ef (by omega),oP,aJ (by omega),aJ (by omega),oP];subst hp;have hpo:=hpo _ rfl;change rI (l.getD (i-1) default).c (l.getD (i-1) default).d (l.getD i default).a (l.getD i default).b _=_;rw [B9 hpo.2.1 ho.1];rw [Ru,Os ho,gH];show aB (!decide ((l.getD (i-1) default).rs.2<(l.getD i default).rs.1)) _ _=_
    cases decide ((l.getD (i-1) default).rs.2<(l.getD i default).rs.1) with
    | true =>rw [show (!true)=false from rfl,aV,cZ,gH];exact IH ho
    | false =>rw [show (!false)=true from rfl,aY,jS];rfl
  ·rw [Po ho,show (!false)=true from rfl,aY,aY]
   cases p with
   | none=>rw [C0,Po ho,jS];rfl
   | some s=>rw [Ru,Po ho,jS];rfl
theorem C1:∀ (r:List Sp) (s:Sp),iT (some s) r=(yj4 r&&gapB s r)
 | [],s=>rfl
 | t::r,s=>by
  rw [Ru,C1 r t];rw [show gapB s (t::r)=(decide (s.rs.2<t.rs.1)&&gapB t r) from rfl];show _=((decide t.ok&&yj4 r)&&_)
  cases decide t.ok<;>cases decide (s.rs.2<t.rs.1)<;>cases yj4 r<;>cases gapB t r<;>rfl
theorem yFx {l:List Sp} (h64:∀ s∈l,s.i64) (hl:l.length<4611686018427387904) (K:Int→Prop):rK (fP l) K=K (nA l):=by
 refine sk _ _ (fun K k=>?_) K;unfold rK PJ;rw [rQ];unfold nA jO at k
 by_cases h:l.length>60
 ·rw [bI (by omega)];rw [Sj h,Sk (by omega)] at k;exact k
 ·rw [bE (by omega)];rw [Sk h] at k;refine ⟨l.length+1,?_⟩;refine (yD9 h64 hl l.length 0 (l.length+1) none (by omega) (by omega) rfl (fun s h=>by cases h)).mpr ?_;rw [hZ]
  cases l with
  | nil=>exact k
  | cons s r=>
   have e:iT none (s::r)=(yj4 (s::r)&&gapB s r):=by show (decide s.ok&&iT (some s) r)=_;rw [C1];show _=((decide s.ok&&yj4 r)&&_);rw [Bool.and_assoc]
   rw [e];dsimp only at k
   cases h1:yj4 (s::r) with
   | true=>
    rw [h1,Sj rfl,Sj rfl] at k;rw [gH];split
    ·rename_i h2;rw [Sj h2] at k;exact k
    ·rename_i h2;rw [Sk h2] at k;exact k
   | false =>rw [h1,Sk (by simp)] at k;rw [jS,Sk (by simp)];rw [Sk (by decide)] at k;exact k
def kJ (q:Rat):PV:=.agg [.int .i64 q.num,.int .i64 q.den]
def bF (l:List Rat):List PV:=l.map kJ
theorem kK (l:List Rat):(bF l).length=l.length:=cP ..
theorem mH {l:List Rat} {i:Nat} (h:i<l.length):getD (bF l) i .nils=kJ (l.getD i 0):=by unfold bF;rw [dH,dH,mJ,cN h];rfl
theorem nC (q:Rat):aK (aP (kJ q) 0)=q.num:=rfl
theorem nD (q:Rat):aK (aP (kJ q) 1)=q.den:=rfl
theorem lO (q:Rat) (P:Prop):aA (aF z2 (kJ q)) P=P:=rfl
theorem Rv (q:Rat):([.agg [.int .i64 q.num,.int .i64 q.den]]:List PV)=bF [q]:=rfl
theorem Rw (a b:List Rat):bF a++bF b=bF (a++b):=by unfold bF;rw [List.map_append]
theorem yMP (a b:Rat):((a.num==b.num)&&(((a.den:Int) ==(b.den:Int))&&true))=decide (a=b):=by
 rw [Bool.and_true,Ae];simp only [bQ,beq_iff_eq,decide_eq_true_eq];constructor
 ·rintro ⟨h1,h2⟩;exact Rat.ext h1 (by omega)
 ·rintro rfl;exact ⟨rfl,rfl⟩
theorem C2 (l:List RS):kY 4 (aS l)=true:=by cases l<;>rfl
theorem GM {l:List RS} (h:GK l):∀ s∈l,s.1<s.2:=by
 induction l with
 | nil=>intro s hs;cases hs
 | cons t r ih=>
  intro s hs;rcases qAq.1 hs with rfl | hs
  ·exact h.1
  ·exact ih h.2.2 s hs
def rR:DS:=.a [vU,vU]
theorem F_s {c:List PV} (h:HasF rR c):∃ s:Sp,c=[.int .i64 s.a,.int .i64 s.b,.int .i64 s.c,.int .i64 s.d]∧s.i64:=by simp only [rR,vU,HasF,HasL] at h;obtain ⟨_,_,rfl,⟨_,_,rfl,⟨a,rfl,ha⟩,_,_,rfl,⟨b,rfl,hb⟩,rfl⟩,_,_,rfl,⟨_,_,rfl,⟨c,rfl,hc⟩,_,_,rfl,⟨d,rfl,hd⟩,rfl⟩,rfl⟩:=h;exact ⟨⟨a,b,c,d⟩,rfl,zF ha,zF hb,zF hc,zF hd⟩
theorem C3:∀ (rows:List PV),(∀ x∈rows,x.isAgg=rR.isA∧HasF rR x.cells)→∃ l:List Sp,rows=fP l∧∀ s∈l,s.i64
 | [],_=>⟨[],rfl,by simp⟩
 | x::r,h=>by
  obtain ⟨l,e,hl⟩:=C3 r (fun y hy=>h y (eE _ hy));obtain ⟨h1,h2⟩:=h x (eH ..);obtain ⟨k,e2,hk⟩:=F_s h2;have ex:x=cC k:=by rw [Kj h1,e2];rfl
  refine ⟨k::l,by rw [ex,e];rfl,?_⟩;intro m hm;rcases qAq.1 hm with rfl | hm
  ·exact hk
  ·exact hl m hm
theorem yJR {c:List PV} (h:HasF (.s rR) c):∃ l:List Sp,c=[.data (fP l)]∧l.length≤9223372036854775807∧∀ s∈l,s.i64:=by simp only [HasF] at h;obtain ⟨rows,rfl,hl,hr⟩:=h;obtain ⟨l,rfl,hi⟩:=C3 rows hr;rw [rQ] at hl;exact ⟨l,rfl,hl,hi⟩
def yni (l:List Sp):Bool:=decide (l.length>20∧l.length≤60∨l.length>70)
theorem yHv (l:List Sp) (K:Bool→Prop):yO (fP l) K=K (yni l):=by
 unfold yO PF yni;dsimp only [Go.Pf.jn];rw [rQ]
 by_cases h:l.length>20
 ·rw [bI (by omega)]
  by_cases h2:l.length≤60
  ·rw [bI (by omega),Os (by omega)]
  ·rw [bE (by omega)];congr 1;rw [Aaa];omega
 ·rw [bE (by omega)];congr 1;rw [Aaa];omega
theorem C4 {l:List Sp} (h:yni l=false):l.length≤70∧(l.length≤60→l.length≤20):=by unfold yni at h;rw [decide_eq_false_iff_not] at h;omega
theorem yMp {a b c d:Int} (h:RV a b) (k:RV c d):kF a b c d=eY (rt a b) (rt c d):=by obtain ⟨_,h2,h3⟩:=mE h;obtain ⟨_,k2,k3⟩:=mE k;unfold kF eY;simp only [Rat.lt_iff,h2,h3,k2,k3]
theorem yIS:∀ {cs:List PV},eP [.i64,.i64,.i64,.i64] cs=true→∃ a b c d,cs=[.int .i64 a,.int .i64 b,.int .i64 c,.int .i64 d]
 | [],h=>by cases h
 | [x],h=>by cases x<;>simp [eP] at h
 | [x,y],h=>by cases x<;>cases y<;>simp [eP] at h
 | [x,y,z],h=>by cases x<;>cases y<;>cases z<;>simp [eP] at h
 | x::y::z::u::w,h=>by
  cases x<;>first | (simp [eP] at h;done) | skip
  cases y<;>first | (simp [eP] at h;done) | skip
  cases z<;>first | (simp [eP] at h;done) | skip
  cases u<;>first | (simp [eP] at h;done) | skip
  simp only [eP,bQ,decide_eq_true_eq] at h;obtain ⟨rfl,_,_,rfl,_,_,rfl,_,_,rfl,_,_,h⟩:=h
  cases w with
  | nil=>exact ⟨_,_,_,_,rfl⟩
  | cons p q=>simp [eP] at h
theorem C5 {n g:Nat} {x:PV} (h:(nM n g).s.gd x=true):∃ a b c d,x=.agg [.int .i64 a,.int .i64 b,.int .i64 c,.int .i64 d]∧RV a b:=by
 simp only [Srt.gd,bQ] at h;have h1:CC [.i64,.i64,.i64,.i64] x=true:=h.1;have h2:AG x=true:=h.2;clear h
 cases x<;>first | (simp [CC] at h1;done) | skip
 obtain ⟨a,b,c,d,rfl⟩:=yIS (h1:eP _ _=true);exact ⟨a,b,c,d,rfl,Kk.1 h2⟩
structure Pc (l:List RS):Prop where
 c:GK l
 s:∀ s∈l,iS s
 n:l.length≤60
theorem yIT {l:List RS} (h:∀ s∈l,iS s):eI (l.map dC)=l:=by
 induction l with
 | nil=>rfl
 | cons s r ih =>show (dC s).rs::eI (r.map dC)=_;rw [B6 (h s eH),ih fun t ht=>h t (eE _ ht)]
theorem Pc.ok {l:List RS} (h:Pc l):∀ s∈l.map dC,s.ok:=fun s hs=>by obtain ⟨t,ht,rfl⟩:=fT.1 hs;exact Kn (h.s t ht) (GM h.c t ht)
theorem Pc.i64 {l:List RS} (h:Pc l):∀ s∈l.map dC,s.i64:=fun s hs=>by obtain ⟨t,ht,rfl⟩:=fT.1 hs;have:=h.s t ht;exact ⟨this.1.i1,this.1.i2,this.2.i1,this.2.i2⟩
theorem Pc.e {l:List RS} (h:Pc l):nA (l.map dC)=0:=by
 have hl:=h.n;have ho:=h.ok;have hc:=h.c;rw [← yIT h.s] at hc;have h1:yj4 (l.map dC)=true:=tL.2 fun s hs=>Os (ho s hs)
 have h2:jO (l.map dC)=0:=by unfold jO;rw [Sk (by rw [cP];omega),h1,Sj rfl]
 unfold nA;rw [h2]
 cases l with
 | nil=>rfl
 | cons s r =>have hg:gapB (dC s) (r.map dC)=true:=(Rp _ _ (ho _ (by simp)) (fun t ht=>ho t (eE _ ht))).2 hc;show (if (0:Int)=0 then (if gapB (dC s) (r.map dC) then 0 else 8) else _)=_;rw [Sj rfl,hg,Sj rfl]
theorem Ko {l:List Sp} (h:nA l=0):Pc (eI l)∧fP l=aS (eI l)∧l=(eI l).map dC:=by
 obtain ⟨h1,h2,h3⟩:=yD6 h;refine ⟨⟨h3,fun s hs=>by obtain ⟨t,ht,rfl⟩:=fT.1 hs;exact yIR (h2 t ht),by unfold eI;rw [cP];exact h1⟩,B7 h2,?_⟩;unfold eI;rw [iI];have:∀ s∈l,(dC ∘ Sp.rs) s=id s:=fun s hs=>B5 (h2 s hs)
 rw [nH this,List.map_id]
theorem Pc.check {l:List RS} (h:Pc l) (K:Int→Prop):yaN (aS l) K=K 0:=by unfold aS;rw [yHs h.i64 (by rw [cP];have:=h.n;omega),h.e]
def dD (v:RS→Rat):List RS→Rat
 | []=>0
 | s::r=>v s+dD v r
theorem Kp:small 0:=by decide +kernel
theorem yJS {x:PV} (h1:x.isAgg=(DS.s rR).isA) (h2:HasF (.s rR) x.cells):∃ l:List Sp,x=.data (fP l)∧∀ s∈l,s.i64:=by obtain ⟨l,e,_,h⟩:=yJR h2;exact ⟨l,GJ h1 e,h⟩
theorem nz (P Q:Prop):aB ((0:Int) !=0) P Q=Q:=rfl
section
variable (V:Rat→Rat)
def dV (s:RS):Rat:=V s.2-V s.1
end
def oQ (w:(Int→Int→Int→Prop)→Prop) (t:Rat):Prop:=(∃ c,c=16∧∀ K,w K=K 0 0 c)∨(small t∧∀ K,w K=K t.num t.den 0)
section
variable {len:Int} {cuts dens:List Int}
def uC (cuts:List Int) (i:Nat) (x:Rat):Rat:=jN (eA x (cuts.getD i 0:Int)) (cuts.getD (i+1) 0:Int)
def vu (cuts dens:List Int) (x:Rat):Nat→Nat→Rat
 | 0,_=>0
 | r+1,i=>(dens.getD i 0:Int)*uC cuts i x+vu cuts dens x r (i+1)
theorem Rx (h:VC len cuts dens):∀ (r i:Nat) {x y:Rat},i+r=dens.length→x≤(cuts.getD i 0:Int)→y≤(cuts.getD i 0:Int)→vu cuts dens x r i=vu cuts dens y r i
 | 0,_,_,_,_,_,_=>rfl
 | r+1,i,x,y,hi,hx,hy=>by
  have l1:=h.l1;have hst:((cuts.getD i 0:Int):Rat)<((cuts.getD (i+1) 0:Int):Rat):=Rat.intCast_lt_intCast.2 (h.step (i:=i) (by omega));have ih:=Rx h r (i+1) (x:=x) (y:=y) (by omega) (by grind) (by grind);unfold vu;rw [ih];have e:uC cuts i x=uC cuts i y:=by
   unfold uC;have a1:=vV x (cuts.getD i 0:Int);have a2:=vV y (cuts.getD i 0:Int);have e1:eA x (cuts.getD i 0:Int)=(cuts.getD i 0:Int):=by grind
   have e2:eA y (cuts.getD i 0:Int)=(cuts.getD i 0:Int):=by grind
   rw [e1,e2]
  rw [e]
theorem Ry {α:Type} {q:Rat} {k:Rat→Except Int α} {v:α} (h:jY q k=.ok v):k q=.ok v:=by
 unfold jY at h;split at h
 ·exact h
 ·cases h
theorem Kq (h:VC len cuts dens) {b:Rat}:∀ (r i:Nat) (p sum v:Rat),i+r=dens.length→p≤b→(p=b∨((cuts.getD i 0:Int):Rat)≤p)→valS cuts dens b r i p sum=.ok v→v=sum+(vu cuts dens b r i-vu cuts dens p r i)
 | 0,i,p,sum,v,hi,hp,hc,hv=>by
  unfold valS at hv
  cases hv
  unfold vu;grind
 | r+1,i,p,sum,v,hi,hp,hc,hv=>by
  have l1:=h.l1;have hst:((cuts.getD i 0:Int):Rat)<((cuts.getD (i+1) 0:Int):Rat):=Rat.intCast_lt_intCast.2 (h.step (i:=i) (by omega));unfold valS at hv;dsimp only at hv;have hen:∃ en:Rat,(if b<((cuts.getD (i+1) 0:Int):Rat) then b else ((cuts.getD (i+1) 0:Int):Rat))=en∧en≤b∧en≤((cuts.getD (i+1) 0:Int):Rat)∧(en=b∨en=((cuts.getD (i+1) 0:Int):Rat)):=by refine ⟨_,rfl,?_⟩;split<;>grind
  obtain ⟨en,e0,he1,he2,he3⟩:=hen;rw [e0] at hv;have low:=Rx h r (i+1) (x:=en) (y:=p) (by omega);have m1:=vV b (cuts.getD i 0:Int);have m2:=vV p (cuts.getD i 0:Int);have n1:=Bv (eA b (cuts.getD i 0:Int)) (cuts.getD (i+1) 0:Int);have n2:=Bv (eA p (cuts.getD i 0:Int)) (cuts.getD (i+1) 0:Int);unfold vu uC;generalize ((cuts.getD i 0:Int):Rat)=c0 at *
  generalize hc1:((cuts.getD (i+1) 0:Int):Rat)=c1 at *
  by_cases hlt:p<en
  ·have hb:jN (eA b c0) c1=en:=by grind
   have hq:jN (eA p c0) c1=p:=by grind
   by_cases hd:dens.getD i 0=0
   ·rw [Sj (.inl hd),Sj hlt] at hv;have ih:=Kq h r (i+1) en sum v (by omega) he1 (by rw [hc1];grind) hv;rw [ih,hd,low (by grind) (by grind)];grind
   ·rw [Sk (by intro k;rcases k with k | k;exact hd k;exact k hlt)] at hv;have hv:=Ry (Ry (Ry hv));have ih:=Kq h r (i+1) en _ v (by omega) he1 (by rw [hc1];grind) hv;rw [ih,low (by grind) (by grind),hb,hq];grind
  ·rw [Sj (.inr hlt),Sk hlt] at hv;have ih:=Kq h r (i+1) p sum v (by omega) hp (by rw [hc1];grind) hv;have:jN (eA b c0) c1=jN (eA p c0) c1:=by grind
   rw [ih,this];grind
def vX (cuts dens:List Int) (x:Rat):Rat:=vu cuts dens x dens.length 0
theorem C6 (h:VC len cuts dens) {a b v:Rat} (h0:0≤a) (hab:a≤b) (hv:oN cuts dens a b=.ok v):v=vX cuts dens b-vX cuts dens a:=by have c0:cuts.getD 0 0=0:=h.2.2.2.2.2.1;have:=Kq h dens.length 0 a 0 v (by omega) hab (.inr (by rw [c0];exact h0)) hv;unfold vX;rw [this];grind
def Wi (len:Int) (l:List RS):Prop:=∀ s∈l,0≤s.1∧s.2≤(len:Rat)
theorem yFz (cuts dens:List Int) (b:Rat):∀ (r i:Nat) (p sum v:Rat),small sum→valS cuts dens b r i p sum=.ok v→small v:=by
 intro r;induction r with
 | zero=>intro i p sum v hs e;unfold valS at e;cases e;exact hs
 | succ r ih=>
  intro i p sum v hs e;unfold valS jY at e
  repeat' (first | split at e | dsimp only at e)
  all_goals first | exact ih _ _ _ _ hs e | (rename_i h;exact ih _ _ _ _ h e) | cases e
theorem yIU (cuts dens:List Int) (b:Rat):∀ (r i:Nat) (p v:Rat) (c:Int),valS cuts dens b r i p v=.error c→c=16:=by
 intro r;induction r with
 | zero=>intro i p v c e;unfold valS at e;cases e
 | succ r ih=>
  intro i p v c e;unfold valS jY at e
  repeat' (first | split at e | dsimp only at e)
  all_goals first | exact ih _ _ _ _ e | (cases e;rfl)
theorem yEd (h:VC len cuts dens) {s:RS} (hs:iS s) (hv:s.1<s.2) (hw:0≤s.1∧s.2≤(len:Rat)) :
  oQ (fun K=>yaY len (aI cuts) (aI dens) s.1.num s.1.den s.2.num s.2.den K) (dV (vX cuts dens) s):=by
 have l1:=h.l1;have l2:=h.l2;have e:∀ K,yaY len (aI cuts) (aI dens) s.1.num s.1.den s.2.num s.2.den K=exK (oN cuts dens s.1 s.2) K:=fun K=>by
  rw [ZV (by omega) (by omega) hs.1.i1 hs.1.i2 hs.2.i1 hs.2.i2];unfold vS;rw [Sj h.ck,Sj ⟨Kh hs.1 hw.1 (by grind),Kh hs.2 (by grind) hw.2,by rw [mY,mY];grind⟩,mY,mY]
 cases hc:oN cuts dens s.1 s.2 with
 | error c =>refine .inl ⟨c,yIU _ _ _ _ _ _ _ _ hc,fun K=>?_⟩;show yaY _ _ _ _ _ _ _ K=_;rw [e,hc];rfl
 | ok v =>have hv2:=C6 h hw.1 (by grind) hc;have hsm:small v:=yFz _ _ _ _ _ _ _ _ Kp hc;have ev:dV (vX cuts dens) s=v:=hv2.symm;rw [ev];refine .inr ⟨hsm,fun K=>?_⟩;show yaY _ _ _ _ _ _ _ K=_;rw [e,hc];rfl
theorem yFA (h:VC len cuts dens) {l:List RS} (hs:∀ s∈l,iS s) (hv:∀ s∈l,s.1<s.2) (hw:Wi len l) (hl:l.length<1000) (z z':Int) :
  ∀ (r i n:Nat) (q:Rat),i+r=l.length→r<n→small q →
   oQ (fun K=>yaK yaE yaN yaS yaY ya1 (fun _ _ _ _ _ a b _ _ _ _=>K a b 0) (fun _ _ _ a b e=>K a b e) n len (aI cuts) (aI dens) z z' q.num q.den (aS l) (l.length:Int) (i:Int)) (q+dD (dV (vX cuts dens)) (l.drop i)):=by
 intro r;induction r with
 | zero=>
  intro i n q hi hn hq;obtain ⟨n,rfl⟩:∃ m,n=m+1:=⟨n-1,by omega⟩;obtain rfl:i=l.length:=by omega
  rw [wZ];have e:q+dD (dV (vX cuts dens)) []=q:=Rat.add_zero q;rw [e];refine .inr ⟨hq,fun K=>?_⟩;dsimp only;rw [yaK,bE (by omega)]
 | succ r ih=>
  intro i n q hi hn hq;obtain ⟨n,rfl⟩:∃ m,n=m+1:=⟨n-1,by omega⟩;have hil:i<l.length:=by omega
  have e1:=cI (n:=(i:Int)+1) (by omega) (by omega);have hd:l.drop i=l.getD i default::l.drop (i+1):=kI default hil;have hm:l.getD i default∈l:=by rw [dH,cN hil];exact nI hil
  have hx:=hs _ hm;have hx2:=hv _ hm;have hx3:=hw _ hm;rw [hd];have step:∀ K:Int→Int→Int→Prop,yaK yaE yaN yaS yaY ya1 (fun _ _ _ _ _ a b _ _ _ _=>K a b 0) (fun _ _ _ a b e=>K a b e) (n+1) len (aI cuts) (aI dens) z z' q.num q.den (aS l) (l.length:Int) (i:Int) =
    yaY len (aI cuts) (aI dens) (l.getD i default).1.num (l.getD i default).1.den (l.getD i default).2.num (l.getD i default).2.den (fun a b e=>aB (e !=0) (K 0 0 e) (ya1 q.num q.den a b (fun a b e=>aB (e !=0) (K 0 0 e) (yaK yaE yaN yaS yaY ya1 (fun _ _ _ _ _ a b _ _ _ _=>K a b 0) (fun _ _ _ a b e=>K a b e) n len (aI cuts) (aI dens) z z' a b (aS l) (l.length:Int) ((i+1:Nat):Int))))):=fun K=>by
   rw [yaK,bI (by omega)];dsimp only [lt];rw [gO,aJ (by omega),aJ (by omega),cE,pT hil,pU,vY,Eg,vZ,wA,e1,cZ]
  generalize hq1:l.getD i default=t at hx hx2 hx3 step;have es:q+dD (dV (vX cuts dens)) (t::l.drop (i+1))=(q+dV (vX cuts dens) t)+dD (dV (vX cuts dens)) (l.drop (i+1)):=by
   show q+(dV (vX cuts dens) t+dD (dV (vX cuts dens)) (l.drop (i+1)))=_;grind
  rw [es];rcases yEd h hx hx2 hx3 with ⟨c,hc,ec⟩ | ⟨sc,ec⟩
  ·dsimp only at ec;refine .inl ⟨c,hc,fun K=>?_⟩;show yaK _ _ _ _ _ _ _ _ _ _ _ _ _ _ _ _ _ _=_;rw [step,ec,iF (show c≠0 by omega)]
  ·dsimp only at ec
   by_cases hsm:small (q+dV (vX cuts dens) t)
   ·rcases ih (i+1) n _ (by omega) (by omega) hsm with ⟨c,hc,e2⟩ | ⟨s2,e2⟩
    ·refine .inl ⟨c,hc,fun K=>?_⟩;show yaK _ _ _ _ _ _ _ _ _ _ _ _ _ _ _ _ _ _=_;rw [step,ec,nz,Eb hq sc];unfold fitK;rw [Sj hsm];dsimp only;rw [nz];exact e2 K
    ·refine .inr ⟨s2,fun K=>?_⟩;show yaK _ _ _ _ _ _ _ _ _ _ _ _ _ _ _ _ _ _=_;rw [step,ec,nz,Eb hq sc];unfold fitK;rw [Sj hsm];dsimp only;rw [nz];exact e2 K
   ·refine .inl ⟨16,by decide,fun K=>?_⟩;show yaK _ _ _ _ _ _ _ _ _ _ _ _ _ _ _ _ _ _=_;rw [step,ec,nz,Eb hq sc];unfold fitK;rw [Sk hsm];rfl
theorem yJT {w w':(Int→Int→Int→Prop)→Prop} {t:Rat} (det:∀ r0 r1 r2,(∀ K:Int→Int→Int→Prop,K r0 r1 r2→w K)→∀ K,w K=K r0 r1 r2) (key:∀ K,w' K→w K) (h:oQ w' t):oQ w t:=by
 rcases h with ⟨c,hc,e⟩|⟨s,e⟩
 ·exact .inl ⟨c,hc,det _ _ _ fun K k=>key K (by rw [e];exact k)⟩
 ·exact .inr ⟨s,det _ _ _ fun K k=>key K (by rw [e];exact k)⟩
theorem C7 (q r:Rat):decide (eY q r>0)=decide (r<q):=by rw [← Bool.not_eq_not,← yJO,Ae];simp only [decide_eq_true_eq];omega
theorem Pc.outWorth {l:List RS} (p:Pc l) (h:VC len cuts dens) (hw:Wi len l):oQ (fun K=>yaW len (aI cuts) (aI dens) (aS l) K) (dD (dV (vX cuts dens)) l):=by
 have l1:=h.l1;have l2:=h.l2;have l0:=h.len0;have hn:=p.n;have hl:=yFA h p.s (GM p.c) hw (by omega) 0 0 l.length 0 (l.length+1) 0 (by omega) (by omega) Kp;rw [hZ,Rat.zero_add] at hl;refine yJT (fun r0 r1 r2 h K=>Xs _ _ _ _ _ _ _ h K) (fun K k=>?_) hl;unfold yaW Jz;rw [Ec (by omega) (by omega),h.ck,nz,p.check,nz];dsimp only [Go.Pf.jn,lt];rw [gO];have fin:∃ n,yaK yaE yaN yaS yaY ya1 (fun _ _ _ _ _ a b _ _ _ _=>K a b 0) (fun _ _ _ a b e=>K a b e) n len (aI cuts) (aI dens) 0 0 0 1 (aS l) (l.length:Int) 0:=⟨l.length+1,k⟩
 by_cases hl0:l.length=0
 ·rw [bE (by omega),aV];exact fin
 ·have h0:0<l.length:=by omega
  have m0:l.getD 0 default∈l:=by rw [dH,cN h0];exact nI h0
  have m1:l.getD (l.length-1) default∈l:=by rw [dH,cN (by omega)];exact nI (by omega)
  have w0:=hw _ m0;have w1:=hw _ m1;have s1:=p.s _ m1;have n0:0≤(l.getD 0 default).1.num:=Rat.num_nonneg.2 w0.1;have e1:=cI (n:=(l.length:Int)-1) (by omega) (by omega);have et:((l.length:Int)-1).toNat=l.length-1:=by omega
  rw [bI (by omega),aJ (by omega),pT h0,pU,vY,bE (by omega),e1,aJ (by omega),aJ (by omega),et,pT (by omega),pU,vZ,wA];have sl:small (len:Rat):=vQ (by omega);show yaS (l.getD (l.length-1) default).2.num (l.getD (l.length-1) default).2.den (len:Rat).num ((len:Rat).den:Int) _;rw [Ro s1.2 sl,C7,bE (by grind)];exact fin
end
def ytT (len:Int) (l:List RS):Bool:=l.all fun s=>decide (PT len s.1.num s.1.den)&&decide (PT len s.2.num s.2.den)
theorem yIV {len:Int} {l:List RS} (h:ytT len l=true):Wi len l:=fun s hs=>by have:=tL.1 h s hs;simp only [bQ,decide_eq_true_eq] at this;obtain ⟨h1,h2⟩:=this;have p1:=h1.pt;have p2:=h2.pt;rw [mY] at p1 p2;exact ⟨p1.2.2.2.1,p2.2.2.2.2⟩
theorem yEe {len:Int} (h0:-1000000000000000000≤len∧len≤1000000000000000000) {l:List RS} (hs:∀ s∈l,iS s) (hl:l.length<1000) {K:Bool→Prop} :
  ∀ (r i n:Nat),i+r=l.length→r<n→DC Bb (fun _ _ _ _=>K true) (fun b=>K b) n len (aS l) (i:Int)=K (ytT len (l.drop i)):=by
 intro r;induction r with
 | zero=>
  intro i n hi hn;obtain ⟨n,rfl⟩:∃ m,n=m+1:=⟨n-1,by omega⟩;obtain rfl:i=l.length:=by omega
  rw [DC,gO,bE (by omega),wZ];rfl
 | succ r ih=>
  intro i n hi hn;obtain ⟨n,rfl⟩:∃ m,n=m+1:=⟨n-1,by omega⟩;have hil:i<l.length:=by omega
  have e1:=cI (n:=(i:Int)+1) (by omega) (by omega);have hd:l.drop i=l.getD i default::l.drop (i+1):=kI default hil;have hx:=Km hs hil;have IH:=ih (i+1) n (by omega) (by omega);generalize hq:l.getD i default=t at hx hd;have e:ytT len (t::l.drop (i+1))=((decide (PT len t.1.num t.1.den)&&decide (PT len t.2.num t.2.den))&&ytT len (l.drop (i+1))):=rfl;rw [DC,hd,e];dsimp only [lt,Go.Pf.jn];simp (discharger:=omega) only [gO,bI,aJ,cE,pT,hq,pU,vY,Eg,vZ,wA,e1,ZY h0 hx.1.i1 hx.1.i2,ZY h0 hx.2.i1 hx.2.i2]
  cases decide (PT len t.1.num t.1.den) with
  | false=>rfl
  | true=>
   rw [sD,aV,gH]
   cases decide (PT len t.2.num t.2.den) with
   | false=>rfl
   | true =>rw [sD,aV,gH,cZ];exact IH
theorem Pc.within {len:Int} (h0:-1000000000000000000≤len∧len≤1000000000000000000) {l:List RS} (h:Pc l) (K:Bool→Prop):rL len (aS l) K=K (ytT len l):=by refine sm _ _ _ (fun K k=>?_) K;unfold rL PL;refine ⟨l.length+1,?_⟩;have:=yEe h0 h.s (by have:=h.n;omega) (K:=K) l.length 0 (l.length+1) (by omega) (by omega);rw [hZ] at this;exact this.mpr k
section
variable {len:Int} {cuts dens:List Int}
theorem yJU (h:VC len cuts dens) {i:Nat} (hi:i+1<cuts.length) {x y:Rat} (hxy:x≤y):uC cuts i x≤uC cuts i y:=by have hst:((cuts.getD i 0:Int):Rat)<((cuts.getD (i+1) 0:Int):Rat):=Rat.intCast_lt_intCast.2 (h.step (i:=i) hi);have m1:=vV x (cuts.getD i 0:Int);have m2:=vV y (cuts.getD i 0:Int);have n1:=Bv (eA x (cuts.getD i 0:Int)) (cuts.getD (i+1) 0:Int);have n2:=Bv (eA y (cuts.getD i 0:Int)) (cuts.getD (i+1) 0:Int);unfold uC;grind
theorem yMq (h:VC len cuts dens) {i:Nat} (hi:i<dens.length):(0:Rat)≤((dens.getD i 0:Int):Rat):=Rat.intCast_nonneg.2 (h.den hi).1
theorem C8 (h:VC len cuts dens) {x y:Rat} (hxy:x≤y):∀ (r i:Nat),i+r=dens.length→vu cuts dens x r i≤vu cuts dens y r i
 | 0,_,_=>Rat.le_refl
 | r+1,i,hi=>by have l1:=h.l1;have h1:=yJU h (i:=i) (by omega) hxy;have h2:=C8 h hxy r (i+1) (by omega);have h3:=Rat.mul_le_mul_of_nonneg_left h1 (yMq h (i:=i) (by omega));unfold vu;grind
theorem Rz (h:VC len cuts dens) {x y:Rat} (hxy:x≤y):vX cuts dens x≤vX cuts dens y:=C8 h hxy dens.length 0 (by omega)
theorem VC.last (h:VC len cuts dens):cuts.getD dens.length 0=len:=by have l1:=h.l1;have:=h.2.2.2.2.2.2.1;rw [show dens.length=cuts.length-1 by omega];exact this
end
def In (D:Int) (q:Rat):Prop:=∃ n:Int,q=(n:Rat)/(D:Rat)
theorem In.int {D:Int} (h:1≤D) (c:Int):In D (c:Rat):=⟨c*D,by rw [xB,Rat.mul_div_cancel (Ki h)]⟩
theorem In.add {D:Int} {q r:Rat} (h:In D q) (k:In D r):In D (q+r):=by obtain ⟨n,rfl⟩:=h;obtain ⟨m,rfl⟩:=k;exact ⟨n+m,by rw [Rat.intCast_add];grind⟩
theorem In.sub {D:Int} {q r:Rat} (h:In D q) (k:In D r):In D (q-r):=by obtain ⟨n,rfl⟩:=h;obtain ⟨m,rfl⟩:=k;exact ⟨n-m,by rw [Rat.intCast_sub];grind⟩
theorem In.mulI {D:Int} {q:Rat} (h:In D q) (d:Int):In D (q*(d:Rat)):=by obtain ⟨n,rfl⟩:=h;exact ⟨n*d,by rw [xB];grind⟩
theorem In.div {D d:Int} {q:Rat} (hD:1≤D) (hd:1≤d) (h:In D q):In (d*D) (q/(d:Rat)):=by obtain ⟨n,rfl⟩:=h;have h1:=Ki hD;have h2:=Ki hd;refine ⟨n,?_⟩;rw [xB];grind
theorem In.small {D M:Int} {q:Rat} (h:In D q) (hD:1≤D∧D≤1000000000000000000) (hM:M*D≤1000000000000000000) (h0:-(M:Rat)≤q) (h1:q≤(M:Rat)):small q:=by
 obtain ⟨n,rfl⟩:=h;have hp:(0:Rat)<(D:Rat):=Rat.intCast_pos.2 (by omega);have e:(n:Rat)/(D:Rat)*(D:Rat)=(n:Rat):=Rat.div_mul_cancel (Ki hD.1);have a:=Rat.mul_le_mul_of_nonneg_right h0 (Rat.le_of_lt hp);have b:=Rat.mul_le_mul_of_nonneg_right h1 (Rat.le_of_lt hp);rw [e] at a b;have a':((-(M*D):Int):Rat)≤(n:Rat):=by rw [Rat.intCast_neg,xB];grind
 have b':(n:Rat)≤((M*D:Int):Rat):=by rw [xB];exact b
 have a2:=nS.1 a';have b2:=nS.1 b';exact yHr (d:=D) ⟨by omega,by omega⟩ ⟨by omega,by omega⟩
section
variable {len:Int} {cuts dens:List Int}
theorem RA (h:VC len cuts dens) {i j:Nat} (hij:i≤j) (hj:j≤dens.length):((cuts.getD i 0:Int):Rat)≤((cuts.getD j 0:Int):Rat):=nS.2 (h.mono hij (by have:=h.l1;omega))
theorem yMQ {D:Int} (hD:1≤D) {x:Rat} (hx:In D x) (i:Nat):In D (uC cuts i x):=by
 have n1:=Bv (eA x (cuts.getD i 0:Int)) (cuts.getD (i+1) 0:Int);have m1:=vV x (cuts.getD i 0:Int);unfold uC;rcases n1.2.2 with e | e
 ·rw [e];rcases m1.2.2 with e2 | e2
  ·rw [e2];exact hx
  ·rw [e2];exact In.int hD _
 ·rw [e];exact In.int hD _
theorem C9 {D:Int} (hD:1≤D) {x:Rat} (hx:In D x):∀ (r i:Nat),In D (vu cuts dens x r i)
 | 0,_=>In.int hD 0
 | r+1,i=>by unfold vu;rw [Rat.mul_comm];exact ((yMQ hD hx i).mulI _).add (C9 hD hx r (i+1))
theorem D0 {D:Int} (hD:1≤D) {x:Rat} (hx:In D x):In D (vX cuts dens x):=C9 hD hx _ _
theorem D1 (h:VC len cuts dens):∀ (r i:Nat),i+r=dens.length→vu cuts dens (len:Rat) r i-vu cuts dens ((cuts.getD i 0:Int):Rat) r i=((rem cuts dens r i:Int):Rat)
 | 0,_,_=>by unfold vu rem;show (0:Rat)-0=0;grind
 | r+1,i,hi=>by
  have ih:=D1 h r (i+1) (by omega);have hst:((cuts.getD i 0:Int):Rat)≤((cuts.getD (i+1) 0:Int):Rat):=RA h (Nat.le_succ i) (by omega);have hl:((cuts.getD (i+1) 0:Int):Rat)≤(len:Rat):=by rw [← h.last];exact RA h (by omega) (bW _)
  have low:=Rx h r (i+1) (x:=((cuts.getD i 0:Int):Rat)) (y:=((cuts.getD (i+1) 0:Int):Rat)) (by omega) hst Rat.le_refl;have m1:=vV (len:Rat) (cuts.getD i 0:Int);have n1:=Bv (eA (len:Rat) (cuts.getD i 0:Int)) (cuts.getD (i+1) 0:Int);have m2:=vV ((cuts.getD i 0:Int):Rat) (cuts.getD i 0:Int);have n2:=Bv (eA ((cuts.getD i 0:Int):Rat) (cuts.getD i 0:Int)) (cuts.getD (i+1) 0:Int);have e1:uC cuts i (len:Rat)=((cuts.getD (i+1) 0:Int):Rat):=by unfold uC;grind
  have e2:uC cuts i ((cuts.getD i 0:Int):Rat)=((cuts.getD i 0:Int):Rat):=by unfold uC;grind
  unfold vu rem;rw [e1,e2,low,Rat.intCast_add,xB,Rat.intCast_sub,← ih];grind
theorem yMr (h:VC len cuts dens):vX cuts dens (len:Rat)-vX cuts dens 0=((totC cuts dens:Int):Rat):=by have c0:cuts.getD 0 0=0:=h.2.2.2.2.2.1;have:=D1 h dens.length 0 (by omega);rw [c0] at this;unfold totC;rw [Rj,show (0:Int)+rem cuts dens dens.length 0=rem cuts dens dens.length 0 by omega];exact this
theorem yJV (h:VC len cuts dens):(1:Rat)≤(len:Rat)∧(len:Rat)≤1000:=by have:=h.len0;exact ⟨nS.2 this.1,nS.2 this.2⟩
theorem yJW (h:VC len cuts dens) {i:Nat} (hi:i<dens.length):(0:Rat)≤((dens.getD i 0:Int):Rat)∧((dens.getD i 0:Int):Rat)≤12:=by have:=h.den hi;exact ⟨nS.2 this.1,nS.2 this.2⟩
theorem yJX {x d:Rat} (h0:0≤x) (hd:0≤d∧d≤12):0≤x*d∧x*d≤12*x:=by have a:=Rat.mul_nonneg h0 hd.1;have b:=Rat.mul_le_mul_of_nonneg_left hd.2 h0;exact ⟨a,by grind⟩
theorem RB (h:VC len cuts dens) {D:Int} (hD:1≤D∧D≤50000000000000) {b:Rat} (hb:In D b) (b1:b≤(len:Rat)) :
  ∀ (r i:Nat) (p sum:Rat),i+r=dens.length→In D p→In D sum→0≤p→p≤(len:Rat)→0≤sum→sum≤12*p→∃ v,valS cuts dens b r i p sum=.ok v
 | 0,i,p,sum,_,_,_,_,_,_,_=>⟨sum,rfl⟩
 | r+1,i,p,sum,hi,hp,hs,p0,p1,s0,s1=>by
  have l1:=h.l1;have hl:=yJV h;have hd:=yJW h (i:=i) (by omega);have hc1:((cuts.getD (i+1) 0:Int):Rat)≤(len:Rat):=by rw [← h.last];exact RA h (by omega) (bW _)
  unfold valS;have hen:∃ en:Rat,(if b<((cuts.getD (i+1) 0:Int):Rat) then b else ((cuts.getD (i+1) 0:Int):Rat))=en∧In D en∧en≤(len:Rat):=by
   refine ⟨_,rfl,?_,?_⟩
   ·split
    ·exact hb
    ·exact In.int hD.1 _
   ·split<;>grind
  obtain ⟨en,e0,e1,e2⟩:=hen;rw [e0];dsimp only;split
  ·refine RB h hD hb b1 r (i+1) _ sum (by omega) ?_ hs ?_ ?_ s0 ?_
   ·split
    ·exact e1
    ·exact hp
   ·split<;>grind
   ·split<;>grind
   ·split<;>grind
  ·rename_i hn;have hlt:p<en:=by
    refine Classical.byContradiction fun k=>hn (.inr k)
   have m:=yJX (x:=en-p) (by grind) hd;have i1:=e1.sub hp;have i2:=i1.mulI (dens.getD i 0);have i3:=hs.add i2;rw [Rh (i1.small (M:=1000) ⟨by omega,by omega⟩ (by omega) (by show -(1000:Rat)≤_;grind) (by show _≤(1000:Rat);grind)),
    Rh (i2.small (M:=12000) ⟨by omega,by omega⟩ (by omega) (by show -(12000:Rat)≤_;grind) (by show _≤(12000:Rat);grind)),
    Rh (i3.small (M:=12000) ⟨by omega,by omega⟩ (by omega) (by show -(12000:Rat)≤_;grind) (by show _≤(12000:Rat);grind))]
   exact RB h hD hb b1 r (i+1) en _ (by omega) e1 i3 (by grind) e2 (by grind) (by grind)
theorem yHw (h:VC len cuts dens) {D:Int} (hD:1≤D∧D≤50000000000000) {a b:Rat} (ha:In D a) (hb:In D b) (a0:0≤a) (hab:a≤b) (b1:b≤(len:Rat)):oN cuts dens a b=.ok (vX cuts dens b-vX cuts dens a):=by obtain ⟨v,e⟩:=RB h hD hb b1 dens.length 0 a 0 (by omega) ha (In.int hD.1 0) a0 (by grind) (by grind) (by grind);have e:oN cuts dens a b=.ok v:=e;rw [e,C6 h a0 hab e]
end
set_option maxRecDepth 100000
def UL (E:Env) (callK:CK) (lp:LP) (b:TC):Nat→aG→Hp→(Ex→aG→Hp→Prop)→Prop
 | 0,_,_,_=>False
 | n+1,F,H,Q=>WC E callK lp [] oH b F H fun x F' H'=>match x with | .norm=>UL E callK lp b n F' H' Q | .exit i=>Q (.exit i) F' H' | .ret=>Q .ret F' H' | .brk k i=>Q (.brk k i) F' H'
theorem wB {E:Env} {P:EP} {id:Nat} {callK:CK} {lp:LP} {b:TC} (hP:aQ P E) (hG:Good P callK) (hf:gE b=true) (hl:LpOk P E lp [] b) {n:Nat} {F:aG} {H:Hp} {Q:Ex→aG→Hp→Prop} (h:UL E callK lp b n F H Q):cJ P (.loop id b) F H Q:=
 cJ.intro hP hG hf (cS.no _ _) hl (fun n F H=>UL E callK lp b n F H Q) (fun _ _ h=>h) (fun _ _ _ h=>h) n F H h
section
variable (e:Es) (fa fb fe:PV→PV→Int)
def WG (c p:PV):Prop:=Ans (E e) iO [c,p] (.tup [.agg [.int .i64 (fa c p),.int .i64 (fb c p)],.int .i64 (fe c p)])
def GN (az:List PV) (K:PV→Prop):Prop:=
 match az with
 | [c,p]=>WG e fa fb fe c p∧K (.tup [.agg [.int .i64 (fa c p),.int .i64 (fb c p)],.int .i64 (fe c p)])
 | _=>False
def RD (az:List PV) (K:PV→Prop):Prop:=Ans (E e) mR az (.int .i64 0)∧K (.int .i64 0)
def Eh:SE:=⟨E e,yeY [(mR,RD e),(iO,GN e fa fb fe)],yez [],fun _ _ _ _ _=>False,fun _=>none⟩
def GO:LP:=fun id _ F H Q=>bif Nat.beq id 14283600 then UL (E e) (jD (Eh e fa fb fe) 1) (fun _ _ _ _ _=>False) sQ 8 F H Q else False
def RE:LP:=fun id _ F H Q=>bif Nat.beq id 14283600 then UL (E e) (jD (Eh e fa fb fe) 1) (fun _ _ _ _ _=>False) sQ 8 F H Q else
 bif Nat.beq id 14283601 then UL (E e) (jD (Eh e fa fb fe) 1) (GO e fa fb fe) CR 8 F H Q else False
def Bw (K:Option PV→Prop):List (PV×PV)→Prop→Prop
 | [],fin=>fin
 | q::r,fin=>WG e fa fb fe q.1 q.2∧aB (fe q.1 q.2 !=0) (K (some (.tup [.data [],.int .i64 (fe q.1 q.2)]))) (Bw K r fin)
def Bx (cs:List Ck) (ps:List (List PV)):List (PV×PV):=cs.flatMap fun c=>ps.map fun p=>(cA c,.data p)
def wC (cs:List Ck) (ps:List (List PV)):List PV:=cs.map fun c=>.data (ps.map fun p=>.agg [.int .i64 (fa (cA c) (.data p)),.int .i64 (fb (cA c) (.data p))])
def aM (ps:List (List PV)):List PV:=ps.map fun p=>.data p
def kL (cs:List Ck) (ps:List (List PV)) (K:Option PV→Prop):Prop:=
 Cu (E e) (jD (Eh e fa fb fe) 1) (RE e fa fb fe) uG [.data (aD cs),.agg [.data (aM ps)]] [] fun r H=>K (jC true H r)
def nE (cs:List Ck) (ps:List (List PV)) (K:Option PV→Prop):Prop:=
 Ans (E e) mR [.data (aD cs),.agg [.data (aM ps)]] (.int .i64 0)∧Bw e fa fb fe K (Bx cs ps) (K (some (.tup [.data (wC fa fb cs ps),.int .i64 0])))
theorem yMR (c0:Ck) (p0:List PV) (K:Option PV→Prop):kL e fa fb fe [c0] [p0] K=nE e fa fb fe [c0] [p0] K:=by kernel_rfl
theorem yMS (c0 c1:Ck) (p0 p1:List PV) (K:Option PV→Prop):kL e fa fb fe [c0,c1] [p0,p1] K=nE e fa fb fe [c0,c1] [p0,p1] K:=by kernel_rfl
theorem yMT (c0 c1 c2:Ck) (p0 p1 p2:List PV) (K:Option PV→Prop):kL e fa fb fe [c0,c1,c2] [p0,p1,p2] K=nE e fa fb fe [c0,c1,c2] [p0,p1,p2] K:=by kernel_rfl
theorem yMU (c0 c1 c2 c3:Ck) (p0 p1 p2 p3:List PV) (K:Option PV→Prop):kL e fa fb fe [c0,c1,c2,c3] [p0,p1,p2,p3] K=nE e fa fb fe [c0,c1,c2,c3] [p0,p1,p2,p3] K:=by kernel_rfl
theorem yMV (c0 c1 c2 c3 c4:Ck) (p0 p1 p2 p3 p4:List PV) (K:Option PV→Prop):kL e fa fb fe [c0,c1,c2,c3,c4] [p0,p1,p2,p3,p4] K=nE e fa fb fe [c0,c1,c2,c3,c4] [p0,p1,p2,p3,p4] K:=by kernel_rfl
theorem yMW (c0 c1 c2 c3 c4 c5:Ck) (p0 p1 p2 p3 p4 p5:List PV) (K:Option PV→Prop):kL e fa fb fe [c0,c1,c2,c3,c4,c5] [p0,p1,p2,p3,p4,p5] K=nE e fa fb fe [c0,c1,c2,c3,c4,c5] [p0,p1,p2,p3,p4,p5] K:=by kernel_rfl
theorem D2 (he:EG e):SEOk (aZ (E e)) (Eh e fa fb fe):=
 bK (aQ.uni _) ⟨fun _ _ h=>⟨_,h.2,h.1⟩,fun az K h=>by
  unfold GN at h;split at h
  ·exact ⟨_,h.2,h.1⟩
  ·exact h.elim,trivial⟩ trivial he.ok
theorem yMs (he:EG e):LpOk (aZ (E e)) (E e) (RE e fa fb fe) [] uG.body:=by have hG:=cM (D2 e fa fb fe he) 1;have h0:LpOk (aZ (E e)) (E e) (fun _ _ _ _ _=>False) [] sQ:=aW (by kernel_rfl);have h1:LpOk (aZ (E e)) (E e) (GO e fa fb fe) [] CR:=dA (l:=[(14283600,.loop 14283600 sQ)]) ⟨fun F H Q h=>wB (aQ.uni _) hG (by kernel_rfl) h0 h,trivial⟩ (by kernel_rfl);exact dA (l:=[(14283600,.loop 14283600 sQ),(14283601,.loop 14283601 CR)]) ⟨fun F H Q h=>wB (aQ.uni _) hG (by kernel_rfl) h0 h,fun F H Q h=>wB (aQ.uni _) hG (by kernel_rfl) h1 h,trivial⟩ (by kernel_rfl)
theorem yHx (he:EG e) {cs:List Ck} {ps:List (List PV)} {K:PV→Prop} (h:kL e fa fb fe cs ps fun o=>∃ q,o=some q∧K q):∃ q,K q∧Ans (E e) jF [.data (aD cs),.agg [.data (aM ps)]] q:=by
 have hf:(E e).fns jF=some uG.fn:=by kernel_rfl
 have hx:∀ az H,(E e).eff jF az H=none:=he.num _ (by kernel_rfl);obtain ⟨r,H',⟨q,hp,hk⟩,m0,hm⟩:=Fr (S:=⟨E e,fun _=>none,fun _=>none,RE e fa fb fe,fun _=>none⟩) (callK:=jD (Eh e fa fb fe) 1) (aQ.uni _) (cM (D2 e fa fb fe he) 1) (fn:=uG) bH.flat (yMs e fa fb fe he) (n:=jF) hf hx h;refine ⟨q,hk,m0,fun k x m hk1 hk2 hle=>?_⟩;obtain ⟨_,l2,l3,_,_,l6,_⟩:=qP hk2;have hs:(E e).sum jF [.data (aD cs),.agg [.data (aM ps)]]=none:=dW (by kernel_rfl) _;have hq:(E e).qui jF=true:=by kernel_rfl
 have hn:(E e).nl jF=true:=by kernel_rfl
 have hm':ybF x m jF [.data (aD cs),.agg [.data (aM ps)]] []=some (r,H'):=hm k x m hk1 hk2 hle;unfold ydk;rw [l2,hs,l3,hq,hm',l6,hn];exact hp
end
theorem dQ {α:Type} {l:List α} {n:Nat} (h:l.length=n+1):∃ a r,l=a::r∧r.length=n:=by
 cases l with
 | nil=>cases h
 | cons a r=>exact ⟨a,r,rfl,by simpa using h⟩
theorem yIX (e:Es) (fa fb fe:PV→PV→Int) {cs:List Ck} {ps:List (List PV)} (hl:ps.length=cs.length) (h1:1≤cs.length) (h6:cs.length≤6) (K:Option PV→Prop):kL e fa fb fe cs ps K=nE e fa fb fe cs ps K:=by
 obtain ⟨n,hn⟩:∃ n,cs.length=n:=⟨_,rfl⟩;rw [hn] at hl h1 h6;obtain rfl | rfl | rfl | rfl | rfl | rfl:n=1∨n=2∨n=3∨n=4∨n=5∨n=6:=by omega
 ·obtain ⟨c0,cr0,hc0,hn0⟩:=dQ hn;subst hc0;have hzc:=jA hn0;subst hzc;obtain ⟨p0,pr0,hp0,hl0⟩:=dQ hl;subst hp0;have hzp:=jA hl0;subst hzp;exact yMR e fa fb fe c0 p0 K
 ·obtain ⟨c0,cr0,hc0,hn0⟩:=dQ hn;subst hc0;obtain ⟨c1,cr1,hc1,hn1⟩:=dQ hn0;subst hc1;have hzc:=jA hn1;subst hzc;obtain ⟨p0,pr0,hp0,hl0⟩:=dQ hl;subst hp0;obtain ⟨p1,pr1,hp1,hl1⟩:=dQ hl0;subst hp1;have hzp:=jA hl1;subst hzp;exact yMS e fa fb fe c0 c1 p0 p1 K
 ·obtain ⟨c0,cr0,hc0,hn0⟩:=dQ hn;subst hc0;obtain ⟨c1,cr1,hc1,hn1⟩:=dQ hn0;subst hc1;obtain ⟨c2,cr2,hc2,hn2⟩:=dQ hn1;subst hc2;have hzc:=jA hn2;subst hzc;obtain ⟨p0,pr0,hp0,hl0⟩:=dQ hl;subst hp0;obtain ⟨p1,pr1,hp1,hl1⟩:=dQ hl0;subst hp1;obtain ⟨p2,pr2,hp2,hl2⟩:=dQ hl1;subst hp2;have hzp:=jA hl2;subst hzp;exact yMT e fa fb fe c0 c1 c2 p0 p1 p2 K
 ·obtain ⟨c0,cr0,hc0,hn0⟩:=dQ hn;subst hc0;obtain ⟨c1,cr1,hc1,hn1⟩:=dQ hn0;subst hc1;obtain ⟨c2,cr2,hc2,hn2⟩:=dQ hn1;subst hc2;obtain ⟨c3,cr3,hc3,hn3⟩:=dQ hn2;subst hc3;have hzc:=jA hn3;subst hzc;obtain ⟨p0,pr0,hp0,hl0⟩:=dQ hl;subst hp0;obtain ⟨p1,pr1,hp1,hl1⟩:=dQ hl0;subst hp1;obtain ⟨p2,pr2,hp2,hl2⟩:=dQ hl1;subst hp2;obtain ⟨p3,pr3,hp3,hl3⟩:=dQ hl2;subst hp3;have hzp:=jA hl3;subst hzp;exact yMU e fa fb fe c0 c1 c2 c3 p0 p1 p2 p3 K
 ·obtain ⟨c0,cr0,hc0,hn0⟩:=dQ hn;subst hc0;obtain ⟨c1,cr1,hc1,hn1⟩:=dQ hn0;subst hc1;obtain ⟨c2,cr2,hc2,hn2⟩:=dQ hn1;subst hc2;obtain ⟨c3,cr3,hc3,hn3⟩:=dQ hn2;subst hc3;obtain ⟨c4,cr4,hc4,hn4⟩:=dQ hn3;subst hc4;have hzc:=jA hn4;subst hzc;obtain ⟨p0,pr0,hp0,hl0⟩:=dQ hl;subst hp0;obtain ⟨p1,pr1,hp1,hl1⟩:=dQ hl0;subst hp1;obtain ⟨p2,pr2,hp2,hl2⟩:=dQ hl1;subst hp2;obtain ⟨p3,pr3,hp3,hl3⟩:=dQ hl2;subst hp3;obtain ⟨p4,pr4,hp4,hl4⟩:=dQ hl3;subst hp4;have hzp:=jA hl4;subst hzp;exact yMV e fa fb fe c0 c1 c2 c3 c4 p0 p1 p2 p3 p4 K
 ·obtain ⟨c0,cr0,hc0,hn0⟩:=dQ hn;subst hc0;obtain ⟨c1,cr1,hc1,hn1⟩:=dQ hn0;subst hc1;obtain ⟨c2,cr2,hc2,hn2⟩:=dQ hn1;subst hc2;obtain ⟨c3,cr3,hc3,hn3⟩:=dQ hn2;subst hc3;obtain ⟨c4,cr4,hc4,hn4⟩:=dQ hn3;subst hc4;obtain ⟨c5,cr5,hc5,hn5⟩:=dQ hn4;subst hc5;have hzc:=jA hn5;subst hzc;obtain ⟨p0,pr0,hp0,hl0⟩:=dQ hl;subst hp0;obtain ⟨p1,pr1,hp1,hl1⟩:=dQ hl0;subst hp1;obtain ⟨p2,pr2,hp2,hl2⟩:=dQ hl1;subst hp2;obtain ⟨p3,pr3,hp3,hl3⟩:=dQ hl2;subst hp3;obtain ⟨p4,pr4,hp4,hl4⟩:=dQ hl3;subst hp4;obtain ⟨p5,pr5,hp5,hl5⟩:=dQ hl4;subst hp5;have hzp:=jA hl5;subst hzp;exact yMW e fa fb fe c0 c1 c2 c3 c4 c5 p0 p1 p2 p3 p4 p5 K
def rS (t:Int×Int×Int):PV:=.tup [.agg [.int .i64 t.1,.int .i64 t.2.1],.int .i64 t.2.2]
open Classical in
noncomputable def zH (e:Es) (c p:PV):Int×Int×Int:=if h:∃ t,Ans (E e) iO [c,p] (rS t) then Classical.choose h else (0,0,0)
theorem Kr {e:Es} {c p:PV} {t:Int×Int×Int} (h:Ans (E e) iO [c,p] (rS t)):zH e c p=t:=by
 have hx:∃ t,Ans (E e) iO [c,p] (rS t):=⟨t,h⟩;unfold zH;rw [dif_pos hx];have h2:=Ans.unique (Classical.choose_spec hx) h;generalize Classical.choose hx=u at h2;obtain ⟨a,b,c⟩:=u;obtain ⟨a',b',c'⟩:=t;unfold rS at h2
 cases h2
 rfl
theorem yMX {e:Es} {c p:PV} {t:Int×Int×Int} (h:Ans (E e) iO [c,p] (rS t)):WG e (fun c p=>(zH e c p).1) (fun c p=>(zH e c p).2.1) (fun c p=>(zH e c p).2.2) c p:=by unfold WG;have:=Kr h;dsimp only;rw [this];exact h
theorem D3 {e:Es} {fa fb fe:PV→PV→Int} {K:Option PV→Prop} {fin:Prop}:∀ {l:List (PV×PV)},(∀ q∈l,WG e fa fb fe q.1 q.2)→((∀ q∈l,fe q.1 q.2=0)→fin)→(∀ q∈l,fe q.1 q.2≠0→K (some (.tup [.data [],.int .i64 (fe q.1 q.2)])))→Bw e fa fb fe K l fin
 | [],_,h,_=>h fun q hq=>by cases hq
 | q::r,hg,h,hk=>by
  refine ⟨hg q eH,?_⟩
  by_cases h0:fe q.1 q.2=0
  ·rw [h0];refine D3 (fun x hx=>hg x (eE _ hx)) (fun hr=>h fun x hx=>?_) fun x hx=>hk x (eE _ hx)
   rcases qAq.1 hx with rfl|hx
   ·exact h0
   ·exact hr x hx
  ·have e1:(fe q.1 q.2 !=0)=true:=by simpa using h0
   rw [e1];exact hk q eH h0
theorem yMt {e:Es} (he:EG e) {c:Ck} {p:List PV} {t:Int×Int×Int} (h:∀ K:Int→Int→Int→Prop,yaW c.len (aI c.cuts) (aI c.dens) p K=K t.1 t.2.1 t.2.2):Ans (E e) iO [cA c,.data p] (rS t):=by
 have hw:Xo [cA c,.data p] (fun q=>q=rS t):=by
  have e0:Xo [cA c,.data p] (fun q=>q=rS t)=yaW c.len (aI c.cuts) (aI c.dens) p (fun r0 r1 r2=>PV.tup [.agg [.int .i64 r0,.int .i64 r1],.int .i64 r2]=rS t):=by kernel_rfl
  rw [e0,h];rfl
 obtain ⟨q,hq,ha⟩:=Pb e he [cA c,.data p] (fun q=>q=rS t) hw;rw [hq] at ha;exact ha
theorem Ks {cs:List Ck} {ps:List (List PV)} (hl:ps.length=cs.length) (h1:1≤cs.length) (h6:cs.length≤6) (hc:∀ K,ybi (aD cs) (aM ps) K=K 0) {F:Ck→List PV→Int×Int×Int}
  (hW:∀ c∈cs,∀ p∈ps,∀ K,yaW c.len (aI c.cuts) (aI c.dens) p K=K (F c p).1 (F c p).2.1 (F c p).2.2) {r0:List PV} {r1:Int}
  (h0:(∀ c∈cs,∀ p∈ps,(F c p).2.2=0)→r0=cs.map (fun c=>.data (ps.map fun p=>.agg [.int .i64 (F c p).1,.int .i64 (F c p).2.1]))∧r1=0)
  (hx:∀ c∈cs,∀ p∈ps,(F c p).2.2≠0→r0=[]∧r1=(F c p).2.2) (K:List PV→Int→Prop):yak (aD cs) (aM ps) K=K r0 r1:=by
 refine xo _ _ _ _ (fun K k=>?_) K;refine ⟨r0,r1,k,fun e he=>?_⟩;have hA:∀ c∈cs,∀ p∈ps,Ans (E e) iO [cA c,.data p] (rS (F c p)):=fun c hc p hp=>yMt he (hW c hc p hp)
 have hq:∀ q∈Bx cs ps,∃ c∈cs,∃ p∈ps,q=(cA c,PV.data p):=fun q hq=>by
  unfold Bx at hq;obtain ⟨c,hc,hq⟩:=BQ.1 hq;obtain ⟨p,hp,rfl⟩:=fT.1 hq;exact ⟨c,hc,p,hp,rfl⟩
 have hck:Ans (E e) mR [.data (aD cs),.agg [.data (aM ps)]] (.int .i64 0):=by
  have hw:Yj [.data (aD cs),.agg [.data (aM ps)]] (fun q=>q=.int .i64 0):=by
   have e0:Yj [.data (aD cs),.agg [.data (aM ps)]] (fun q=>q=.int .i64 0)=ybi (aD cs) (aM ps) (fun r0=>PV.int .i64 r0=.int .i64 0):=by kernel_rfl
   rw [e0,hc]
  obtain ⟨q,hq,ha⟩:=Gk e he [.data (aD cs),.agg [.data (aM ps)]] (fun q=>q=.int .i64 0) hw;rw [hq] at ha;exact ha
 have hrun:kL e (fun c p=>(zH e c p).1) (fun c p=>(zH e c p).2.1) (fun c p=>(zH e c p).2.2) cs ps fun o=>∃ q,o=some q∧q=.tup [.data r0,.int .i64 r1]:=by
  rw [yIX _ _ _ _ hl h1 h6];refine ⟨hck,D3 (fun q hq'=>?_) (fun hz=>?_) fun q hq' hn=>?_⟩
  ·obtain ⟨c,hc,p,hp,rfl⟩:=hq q hq';exact yMX (hA c hc p hp)
  ·have hz':∀ c∈cs,∀ p∈ps,(F c p).2.2=0:=fun c hc p hp=>by
    have:=hz (cA c,.data p) (BQ.2 ⟨c,hc,fT.2 ⟨p,hp,rfl⟩⟩);dsimp only at this;rw [Kr (hA c hc p hp)] at this;exact this
   obtain ⟨e1,e2⟩:=h0 hz';refine ⟨_,rfl,?_⟩;rw [e1,e2];unfold wC;congr 3;refine nH fun c hc=>?_
   congr 1;refine nH fun p hp=>?_
   dsimp only;rw [Kr (hA c hc p hp)]
  ·obtain ⟨c,hc,p,hp,rfl⟩:=hq q hq';dsimp only at hn ⊢;rw [Kr (hA c hc p hp)] at hn ⊢;obtain ⟨e1,e2⟩:=hx c hc p hp hn;exact ⟨_,rfl,by rw [e1,e2]⟩
 obtain ⟨q,hq',ha⟩:=yHx e _ _ _ he hrun;rw [hq'] at ha;exact ha
end Go.Pf.Vc
namespace Go.Pf.Vc
def GP (a b:List RS):Bool:=a.any fun s=>b.any fun t=>decide (s.1<t.2)&&decide (t.1<s.2)
def nF (len:Rat):List RS→Rat→Bool
 | [],at_=>decide (at_<len)
 | s::r,at_=>if at_<s.1 then true else nF len r (if at_<s.2 then s.2 else at_)
theorem D4 {len:Rat}:∀ (l:List RS) (at_:Rat),GL l→(∀ s∈l,s.1<s.2)→(∀ s∈l,s.2≤len)→(nF len l at_=true↔∃ p,at_≤p∧p<len∧¬memP l p)
 | [],at_,_,_,_=>by unfold nF;rw [decide_eq_true_eq];exact ⟨fun h=>⟨at_,Rat.le_refl,h,yIL⟩,fun ⟨p,h1,h2,_⟩=>by grind⟩
 | s::r,at_,hs,hv,hl=>by
  unfold nF;have s1:=hv s eH;have s2:=hl s eH
  by_cases h:at_<s.1
  ·rw [Sj h];refine ⟨fun _=>⟨at_,Rat.le_refl,by grind,fun hm=>?_⟩,fun _=>rfl⟩;rcases ypL.1 hm with hm | ⟨t,ht,hm,_⟩
   ·have:=hm.1;grind
   ·have:=hs.1 t ht;grind
  ·rw [Sk h,D4 r _ hs.2 (fun t ht=>hv t (eE _ ht)) (fun t ht=>hl t (eE _ ht))];constructor
   ·rintro ⟨p,h1,h2,h3⟩;have h1':at_≤p∧s.2≤p:=by split at h1<;>exact ⟨by grind,by grind⟩
    refine ⟨p,h1'.1,h2,fun hm=>?_⟩;rcases ypL.1 hm with hm | hm
    ·have:=hm.2;grind
    ·exact h3 hm
   ·rintro ⟨p,h1,h2,h3⟩;refine ⟨p,?_,h2,fun hm=>h3 (ypL.2 (.inr hm))⟩;have hn:¬Rn s p:=fun hm=>h3 (ypL.2 (.inl hm))
    have:s.2≤p:=Rat.not_lt.1 fun hlt=>hn ⟨by grind,hlt⟩
    split<;>assumption
end Go.Pf.Vc
namespace Go.Pf.Vc
open Go Go.Pf
theorem zJ {q r:Rat} (hq:small q) (hr:small r) (K:Bool→Prop):cB q.num q.den r.num r.den K=K (decide (q<r)):=by unfold cB PY;rw [Ke hq hr,B1]
theorem rT (n:Int) (K:Int→Int→Prop):dX n K=K (n:Rat).num (n:Rat).den:=rfl
def meets (s t:RS):Bool:=decide (s.1<t.2)&&decide (t.1<s.2)
theorem yEg {s:RS} (h:iS s) {B:List RS} (hs:∀ t∈B,iS t) (hl:B.length<4611686018427387904) {x0:Int→Int→Int→Int→List PV→Int→Int→Bool→Prop} {x1:Int→Int→Int→Int→Int→Prop} {K:Bool→Prop}
  (hx0:∀ a b c d l i k q,x0 a b c d l i k q=K false) (hx1:∀ a b c d i,0≤i→x1 a b c d i=K true) :
  ∀ (r i n:Nat),i+r=B.length→r<n→DJ cB x0 x1 n s.1.num s.1.den s.2.num s.2.den (aS B) (B.length:Int) (i:Int)=K ((B.drop i).any (meets s)):=by
 intro r;induction r with
 | zero=>
  intro i n hi hn;obtain ⟨n,rfl⟩:∃ m,n=m+1:=⟨n-1,by omega⟩;obtain rfl:i=B.length:=by omega
  rw [DJ,bE (by omega),wZ,hx0];rfl
 | succ r ih=>
  intro i n hi hn;obtain ⟨n,rfl⟩:∃ m,n=m+1:=⟨n-1,by omega⟩;have hil:i<B.length:=by omega
  have e1:=cI (n:=(i:Int)+1) (by omega) (by omega);have hd:B.drop i=B.getD i default::B.drop (i+1):=kI default hil;have hx:=Km hs hil;rw [DJ,bI (by omega)];dsimp only [lt,Go.Pf.jn];rw [gO,aJ (by omega),aJ (by omega),cE,pT hil,pU,vY,Eg,vZ,wA,zJ h.1 hx.2,e1,cZ,hd,List.any_cons];unfold meets
  cases decide (s.1<(B.getD i default).2) with
  | false =>rw [aV,aV,jS,qB];exact ih (i+1) n (by omega) (by omega)
  | true=>
   rw [aY,gH,zJ hx.1 h.2]
   cases decide ((B.getD i default).1<s.2) with
   | false =>rw [aV,qB];exact ih (i+1) n (by omega) (by omega)
   | true =>rw [aY,hx1 _ _ _ _ _ (by omega)];rfl
theorem yHy {s:RS} (h:iS s) {B:List RS} (hs:∀ t∈B,iS t) (hl:B.length<4611686018427387904) (K:Bool→Prop):sY s.1.num s.1.den s.2.num s.2.den (aS B) K=K (B.any (meets s)):=by refine xq _ _ _ _ _ _ (fun K k=>?_) K;unfold sY Qc;dsimp only [Go.Pf.jn];refine ⟨B.length+1,?_⟩;rw [gO];exact (yEg h hs hl (K:=K) (fun _ _ _ _ _ _ _ _=>rfl) (fun _ _ _ _ i hi=>by rw [Os hi]) B.length 0 (B.length+1) (by omega) (by omega)).mpr (by rw [hZ];exact k)
theorem yFB {A B:List RS} (ha:∀ s∈A,iS s) (hb:∀ t∈B,iS t) (hla:A.length<4611686018427387904) (hlb:B.length<4611686018427387904) {x0:List PV→List PV→Int→Int→Bool→Prop} {x1:List PV→Int→Prop} {K:Bool→Prop}
  (hx0:∀ l m i k q,x0 l m i k q=K false) (hx1:∀ l i,0≤i→x1 l i=K true) :
  ∀ (r i n:Nat),i+r=A.length→r<n→DM sY x0 x1 n (aS B) (aS A) (A.length:Int) (i:Int)=K (GP (A.drop i) B):=by
 intro r;induction r with
 | zero=>
  intro i n hi hn;obtain ⟨n,rfl⟩:∃ m,n=m+1:=⟨n-1,by omega⟩;obtain rfl:i=A.length:=by omega
  rw [DM,bE (by omega),wZ,hx0];rfl
 | succ r ih=>
  intro i n hi hn;obtain ⟨n,rfl⟩:∃ m,n=m+1:=⟨n-1,by omega⟩;have hil:i<A.length:=by omega
  have e1:=cI (n:=(i:Int)+1) (by omega) (by omega);have hd:A.drop i=A.getD i default::A.drop (i+1):=kI default hil;have hx:=Km ha hil;rw [DM,bI (by omega)];dsimp only [lt,Go.Pf.jn];rw [gO,aJ (by omega),aJ (by omega),cE,pT hil,pU,vY,Eg,vZ,wA,yHy hx hb hlb,e1,cZ,hd];have e:GP (A.getD i default::A.drop (i+1)) B=(B.any (meets (A.getD i default))||GP (A.drop (i+1)) B):=rfl;rw [e]
  cases B.any (meets (A.getD i default)) with
  | false =>rw [aV,qB];exact ih (i+1) n (by omega) (by omega)
  | true =>rw [aY,hx1 _ _ (by omega)];rfl
theorem yIY {A B:List RS} (ha:∀ s∈A,iS s) (hb:∀ t∈B,iS t) (hla:A.length<4611686018427387904) (hlb:B.length<4611686018427387904) (K:Bool→Prop):cW (aS A) (aS B) K=K (GP A B):=by refine xr _ _ _ (fun K k=>?_) K;unfold cW Qf;dsimp only [Go.Pf.jn];refine ⟨A.length+1,?_⟩;rw [gO];exact (yFB ha hb hla hlb (K:=K) (fun _ _ _ _ _=>rfl) (fun _ i hi=>by rw [Os hi]) A.length 0 (A.length+1) (by omega) (by omega)).mpr (by rw [hZ];exact k)
def Ei (cs:List Ck) (ps:List (List Sp)):Bool:=ps.any yni||(Ee cs||decide (ps.length>10))
section
variable {cs:List Ck} {ps:List (List Sp)}
theorem D5 (hl:ps.length≤9223372036854775807) {x0:List PV→List PV→Int→Bool→Prop} {x1:Bool→Prop} :
  ∀ (r i n:Nat),i+r=ps.length→r<n→Dy yO rJ x0 x1 n (aD cs) (jM ps) (i:Int)=if (ps.drop i).any yni then x1 true else x0 (aD cs) (jM ps) (ps.length:Int) false
 | 0,i,n+1,hi,hn=>by rw [Dy,vT,bE (by omega),lV (by omega),show (i:Int)=ps.length by omega];rfl
 | r+1,i,n+1,hi,hn=>by
  have e1:=cI (n:=(i:Int)+1) (by omega) (by omega);rw [Dy];dsimp only [lt,Go.Pf.jn];rw [vT,bI (by omega),cE,Rk (by omega),aJ (by omega),aJ (by omega),gG];show yO (fP (ps.getD i [])) _=_;rw [yHv,kI [] (by omega),List.any_cons,e1,cZ]
  cases yni (ps.getD i []) with
  | true=>rw [aY];rfl
  | false=>rw [aV,qB];exact D5 hl r (i+1) n (by omega) (by omega)
theorem yHz (hc:cs.length≤9223372036854775807) (hl:ps.length≤9223372036854775807) (K:Bool→Prop):Dz (aD cs) (jM ps) K=K (Ei cs ps):=by
 refine sj _ _ _ (fun K k=>?_) K;unfold Dz PG;dsimp only [Go.Pf.jn];refine ⟨ps.length+1,?_⟩;have:=D5 (cs:=cs) hl (x0:=fun a c _ _=>rJ a (fun d=>aB d (K true) (K (decide ((((length c):Nat):Int)>(10:Int)))))) (x1:=fun b=>K b) ps.length 0 (ps.length+1) (by omega) (by omega);refine this.mpr ?_;rw [hZ];unfold Ei at k
 cases h:ps.any yni with
 | true=>rw [h] at k;exact k
 | false=>
  rw [h,qB] at k;show rJ (aD cs) _;rw [yAc hc]
  cases h2:Ee cs with
  | true=>rw [h2] at k;rw [aY];exact k
  | false=>
   rw [h2,qB] at k;rw [aV,vT];have:decide (((ps.length:Nat):Int)>10)=decide (ps.length>10):=by rw [Aaa];omega
   rw [this];exact k
theorem D6 (h:Ei cs ps=false):ps.length≤10∧Ee cs=false∧∀ p∈ps,yni p=false:=by unfold Ei at h;simp only [wW,decide_eq_false_iff_not,List.any_eq_false] at h;exact ⟨by omega,h.2.1,fun p hp=>by simpa using h.1 p hp⟩
def wD:List (List Sp)→Int
 | []=>0
 | s::r=>if nA s=0 then wD r else nA s
def wE (cs:List Ck) (ps:List (List Sp)):Int:=
 if oO cs 0=0 then (if ps.length=cs.length then (if wD ps=0 then (if ps.all (fun p=>ytT (cs.getD 0 default).len (eI p)) then 0 else 2) else wD ps) else 2) else oO cs 0
theorem RF:∀ {l:List (List Sp)},wD l=0→∀ p∈l,nA p=0
 | [],_,p,hp=>by cases hp
 | s::r,h,p,hp=>by
  unfold wD at h
  by_cases h0:nA s=0
  ·rw [Sj h0] at h;rcases qAq.1 hp with rfl | hp
   ·exact h0
   ·exact RF h p hp
  ·rw [Sk h0] at h;exact absurd h h0
theorem kM {α:Type} {l:List α} {i:Nat} (d:α) (h:i<l.length):l.getD i d∈l:=by rw [dH,cN h];exact nI h
theorem D7 (hl:ps.length≤10) (h64:∀ p∈ps,∀ s∈p,s.i64) (hs:∀ p∈ps,p.length<4611686018427387904) {W4 WW} {x0:List PV→List PV→Int→Bool→Prop} {x1:Int→Prop} :
  ∀ (r i n:Nat),i+r=ps.length→r<n→DD W4 rK WW x0 x1 n (aD cs) (jM ps) (i:Int)=if wD (ps.drop i)=0 then x0 (aD cs) (jM ps) (ps.length:Int) false else x1 (wD (ps.drop i))
 | 0,i,n+1,hi,hn=>by rw [DD,vT,bE (by omega),lV (by omega),show (i:Int)=ps.length by omega];rfl
 | r+1,i,n+1,hi,hn=>by
  have e1:=cI (n:=(i:Int)+1) (by omega) (by omega);have hm:=kM [] (show i<ps.length by omega);rw [DD];dsimp only [lt,Go.Pf.jn];rw [vT,bI (by omega),cE,Rk (by omega),aJ (by omega),aJ (by omega),gG];show rK (fP (ps.getD i [])) _=_;rw [yFx (h64 _ hm) (hs _ hm),kI [] (by omega),wD,e1,cZ]
  by_cases h:nA (ps.getD i [])=0
  ·rw [fA h,Sj h];exact D7 hl h64 hs r (i+1) n (by omega) (by omega)
  ·rw [iF h,Sk h,Sk h]
theorem D8 (hc0:0<cs.length) (hlen:-1000000000000000000≤(cs.getD 0 default).len∧(cs.getD 0 default).len≤1000000000000000000) (hl:ps.length≤10) (hp:∀ p∈ps,nA p=0) {W4 WC3} {x0:List PV→List PV→Int→Bool→Prop} {x1:Int→Prop} :
  ∀ (r i n:Nat),i+r=ps.length→r<n→DE W4 WC3 rL x0 x1 n (aD cs) (jM ps) (i:Int)=if (ps.drop i).all (fun p=>ytT (cs.getD 0 default).len (eI p)) then x0 (aD cs) (jM ps) (ps.length:Int) false else x1 2
 | 0,i,n+1,hi,hn=>by rw [DE,vT,bE (by omega),lV (by omega),show (i:Int)=ps.length by omega];rfl
 | r+1,i,n+1,hi,hn=>by
  have e1:=cI (n:=(i:Int)+1) (by omega) (by omega);have hm:=kM [] (show i<ps.length by omega);obtain ⟨p1,p2,_⟩:=Ko (hp _ hm);have ea:=lM hc0;rw [DE];dsimp only [lt,Go.Pf.jn];rw [vT,dT,bI (by omega),aJ (by omega),ea,eG,cE,Rk (by omega),aJ (by omega),aJ (by omega),gG];show rL (cs.getD 0 default).len (fP (ps.getD i [])) _=_;rw [p2,p1.within hlen,kI [] (by omega),List.all_cons,e1,cZ]
  cases ytT (cs.getD 0 default).len (eI (ps.getD i [])) with
  | false=>rfl
  | true =>rw [sD,aV,gH];exact D8 hc0 hlen hl hp r (i+1) n (by omega) (by omega)
end
structure DV (cs:List Ck) (A:List (List RS)):Prop where
 d:DK cs
 l:A.length=cs.length
 p:∀ a∈A,Pc a
 m:∀ a∈A,a.length≤20
 w:∀ a∈A,ytT (cs.getD 0 default).len a=true
theorem dU (l:List PV):bL (PV.data l)=l:=rfl
def aC (A:List (List RS)):List PV:=A.map fun a=>.data (aS a)
theorem pV (A:List (List RS)):(aC A).length=A.length:=cP ..
theorem zL {A:List (List RS)} {i:Nat} (h:i<A.length):getD (aC A) i .nils=.data (aS (A.getD i [])):=by unfold aC;rw [dH,dH,mJ,cN h];rfl
section
variable {cs:List Ck} {ps:List (List Sp)} {A:List (List RS)}
theorem yFC (hf:mZ cs) (hc:cs.length≤10) (hl:ps.length≤10) (h64:∀ p∈ps,∀ s∈p,s.i64) (hs:∀ p∈ps,p.length<4611686018427387904) (K:Int→Prop):DF (aD cs) (jM ps) K=K (wE cs ps):=by
 refine sn _ _ _ (fun K k=>?_) K;unfold DF PO;rw [yHp hf (by omega)];unfold wE at k;show aB (oO cs 0 !=0) _ _
 by_cases h1:oO cs 0=0
 case neg=>rw [iF h1];rw [Sk h1] at k;exact k
 rw [fA h1];rw [Sj h1] at k;rw [vT,dT]
 by_cases h2:ps.length=cs.length
 case neg=>rw [iF (by omega)];rw [Sk h2] at k;exact k
 rw [fA (by omega)];rw [Sj h2] at k;refine ⟨ps.length+1,?_⟩;refine (D7 hl h64 hs ps.length 0 (ps.length+1) (by omega) (by omega)).mpr ?_;rw [hZ]
 by_cases h3:wD ps=0
 case neg=>rw [Sk h3];rw [Sk h3] at k;exact k
 rw [Sj h3];rw [Sj h3] at k;have hd:=(A5 h1).1;have l0:=(hd.ok 0 (by have:=hd.n0;omega)).len0;refine ⟨ps.length+1,?_⟩;refine (D8 (by have:=hd.n0;omega) (by omega) hl (RF h3) ps.length 0 (ps.length+1) (by omega) (by omega)).mpr ?_;rw [hZ];split at k<;>rename_i h<;>simp only [h]<;>exact k
def By (cs:List Ck) (ps:List (List Sp)):Bool:=!Ei cs ps&&decide (wE cs ps=0)
theorem D9 (hc:cs.length≤9223372036854775807) (hl:ps.length≤9223372036854775807) (h64:∀ p∈ps,∀ s∈p,s.i64) (K:Bool→Prop):zA (aD cs) (jM ps) K=K (By cs ps):=by
 unfold zA QC By;dsimp only [Go.Pf.jn];rw [yHz hc hl]
 cases hg:Ei cs ps with
 | true=>rfl
 | false =>obtain ⟨g1,g2,g3⟩:=D6 hg;obtain ⟨c1,c2,c3⟩:=yFu g2;rw [pC,aY,yFC c3 c1 g1 h64 (fun p hp=>by have:=(C4 (g3 p hp)).1;omega)];congr 1
theorem Kt (h:By cs ps=true):DV cs (ps.map eI)∧jM ps=aC (ps.map eI):=by
 unfold By at h;simp only [bQ,jR,decide_eq_true_eq] at h;obtain ⟨h0,h⟩:=h;obtain ⟨g1,g2,g3⟩:=D6 h0;unfold wE at h;split at h
 case isFalse hn=>exact absurd h hn
 rename_i h1;split at h
 case isFalse=>omega
 rename_i h2;split at h
 case isFalse hn=>exact absurd h hn
 rename_i h3;split at h
 case isFalse=>omega
 rename_i h4;have hp:=RF h3;refine ⟨⟨(A5 h1).1,by rw [cP];exact h2,fun a ha=>?_,fun a ha=>?_,fun a ha=>?_⟩,?_⟩
 ·obtain ⟨p,hp1,rfl⟩:=fT.1 ha;exact (Ko (hp p hp1)).1
 ·obtain ⟨p,hp1,rfl⟩:=fT.1 ha;have k1:=(Ko (hp p hp1)).1.n;have e:(eI p).length=p.length:=cP ..;have:=(C4 (g3 p hp1)).2 (by omega);omega
 ·obtain ⟨p,hp1,rfl⟩:=fT.1 ha;exact tL.1 h4 p hp1
 ·unfold jM aC;rw [iI];refine nH fun p hp1=>?_
  show PV.data (fP p)=PV.data (aS (eI p));rw [(Ko (hp p hp1)).2.1]
theorem DV.len0 (h:DV cs A):1≤(cs.getD 0 default).len∧(cs.getD 0 default).len≤1000:=(h.d.ok 0 (by have:=h.d.n0;omega)).len0
theorem DV.wi (h:DV cs A):∀ a∈A,Wi (cs.getD 0 default).len a:=fun a ha=>yIV (h.w a ha)
theorem E0 (h:DV cs A) {WA WW WL} {x0:List PV→List PV→List PV→Int→Int→Bool→Prop} {x1:Int→Prop} :
  ∀ (r i n:Nat),i+r=A.length→r<n→DH WA yaN WW WL x0 x1 n (aD cs) (aC A) (aC A) (A.length:Int) (i:Int)=x0 (aD cs) (aC A) (aC A) (A.length:Int) (A.length:Int) false
 | 0,i,n+1,hi,hn=>by rw [DH,bE (by omega),show (i:Int)=A.length by omega]
 | r+1,i,n+1,hi,hn=>by have h6:=h.d.n6;have hl:=h.l;have e1:=cI (n:=(i:Int)+1) (by omega) (by omega);have hm:=kM [] (show i<A.length by omega);rw [DH];dsimp only [lt,Go.Pf.jn];rw [bI (by omega),pV,aJ (by omega),aJ (by omega),cE,zL (by omega),gG];show yaN (aS (A.getD i [])) _=_;rw [(h.p _ hm).check,e1,cZ];show aB false _ _=_;rw [aV];exact E0 h r (i+1) n (by omega) (by omega)
theorem E1 (h:DV cs A) {WA WC} {x0:List PV→List PV→Int→Int→Bool→Prop} {x1:Int→Prop} :
  ∀ (r i n:Nat),i+r=A.length→r<n→ycs WA WC dX cB x0 x1 n (aD cs) (aC A) (A.length:Int) (i:Int)=x0 (aD cs) (aC A) (A.length:Int) (A.length:Int) false
 | 0,i,n+1,hi,hn=>by rw [ycs,bE (by omega),show (i:Int)=A.length by omega]
 | r+1,i,n+1,hi,hn=>by
  have h6:=h.d.n6;have hl:=h.l;have h1:=h.d.n0;have l0:=h.len0;have e1:=cI (n:=(i:Int)+1) (by omega) (by omega);have hm:=kM [] (show i<A.length by omega);have p:=h.p _ hm;have hw:=h.wi _ hm;have pn:=p.n;have ih:=E1 h (WA:=WA) (WC:=WC) (x0:=x0) (x1:=x1) r (i+1) n (by omega) (by omega);rw [ycs];dsimp only [lt,Go.Pf.jn];rw [bI (by omega),pV,aJ (by omega),aJ (by omega),cE,zL (by omega),gG,dU];generalize A.getD i []=a at p hw pn;rw [gO,e1,cZ]
  by_cases ha:a.length=0
  ·rw [bE (by omega),aV];exact ih
  ·have h0:0<a.length:=by omega
   have m0:=kM (default:RS) h0;have m1:=kM (default:RS) (show a.length-1<a.length by omega);have w0:=hw _ m0;have w1:=hw _ m1;have s1:=p.s _ m1;have n0:0≤(a.getD 0 default).1.num:=Rat.num_nonneg.2 w0.1;have e2:=cI (n:=(a.length:Int)-1) (by omega) (by omega);have et:((a.length:Int)-1).toNat=a.length-1:=by omega
   have sl:small ((cs.getD 0 default).len:Rat):=vQ (by omega);rw [bI (by omega),aJ (by omega),pT h0,pU,vY,bE (by omega),dT,aJ (by omega),lM (by omega),eG,mF,rT,e2,aJ (by omega),aJ (by omega),et,pT (by omega),pU,vZ,wA,zJ sl s1.2,bE (by grind)];exact ih
theorem Ej (h:DV cs A) (K:Int→Prop):ybi (aD cs) (aC A) K=K 0:=by have h6:=h.d.n6;have hl:=h.l;refine xn _ _ _ (fun K k=>?_) K;unfold ybi PZ;rw [yHo h.d.fin (by omega)];show aB (oO cs 0 !=0) _ _;rw [fA (h.d.err (by omega)),pV,dT,fA (by omega)];refine ⟨A.length+1,(E0 h A.length 0 (A.length+1) (by omega) (by omega)).mpr ?_⟩;show ∃ n,ycs _ _ _ _ _ _ n (aD cs) (aC A) (((aC A).length:Nat):Int) 0;rw [pV];exact ⟨A.length+1,(E1 h A.length 0 (A.length+1) (by omega) (by omega)).mpr k⟩
end
def wV (c:Ck) (a:List RS):Rat:=dD (dV (vX c.cuts c.dens)) a
def aE (cs:List Ck) (A:List (List RS)):List PV:=cs.map fun c=>.data (bF (A.map (wV c)))
open Classical in
noncomputable def fW (c:Ck) (p:List PV):Int×Int×Int:=if h:∃ t:Int×Int×Int,∀ K:Int→Int→Int→Prop,yaW c.len (aI c.cuts) (aI c.dens) p K=K t.1 t.2.1 t.2.2 then Classical.choose h else (0,0,0)
theorem Ek {c:Ck} {p:List PV} {t:Int×Int×Int} (h:∀ K:Int→Int→Int→Prop,yaW c.len (aI c.cuts) (aI c.dens) p K=K t.1 t.2.1 t.2.2):fW c p=t:=by have hx:∃ t:Int×Int×Int,∀ K:Int→Int→Int→Prop,yaW c.len (aI c.cuts) (aI c.dens) p K=K t.1 t.2.1 t.2.2:=⟨t,h⟩;unfold fW;rw [dif_pos hx];have h2:=Classical.choose_spec hx (fun a b c=>(a,b,c)=t);rw [h] at h2;exact h2.mp rfl
theorem yEh {α:Type} {l:List α} {x:α} (d:α) (h:x∈l):∃ i,i<l.length∧l.getD i d=x:=by obtain ⟨i,hi,e⟩:=List.getElem_of_mem h;exact ⟨i,hi,by rw [dH,cN hi];exact e⟩
section
variable {cs:List Ck} {A:List (List RS)}
theorem DK.mem (h:DK cs) {c:Ck} (hc:c∈cs):c.ok∧c.len=(cs.getD 0 default).len:=by obtain ⟨i,hi,rfl⟩:=yEh default hc;exact ⟨h.ok i hi,h.len i hi⟩
theorem DV.out (h:DV cs A) {c:Ck} (hc:c∈cs) {a:List RS} (ha:a∈A):oQ (fun K=>yaW c.len (aI c.cuts) (aI c.dens) (aS a) K) (wV c a):=by obtain ⟨h1,h2⟩:=h.d.mem hc;refine (h.p a ha).outWorth h1 ?_;rw [h2];exact h.wi a ha
theorem DV.Worth (h:DV cs A):(∀ K,yak (aD cs) (aC A) K=K [] 16)∨((∀ c∈cs,∀ a∈A,small (wV c a))∧∀ K,yak (aD cs) (aC A) K=K (aE cs A) 0):=by
 have h6:=h.d.n6;have h1:=h.d.n0;have hl:=h.l;have e:aM (A.map aS)=aC A:=by unfold aM aC;rw [iI];rfl
 have hall:∀ c∈cs,∀ a∈A,(∀ K:Int→Int→Int→Prop,yaW c.len (aI c.cuts) (aI c.dens) (aS a) K=K (fW c (aS a)).1 (fW c (aS a)).2.1 (fW c (aS a)).2.2)∧((fW c (aS a)).2.2=16∨(small (wV c a)∧fW c (aS a)=((wV c a).num,((wV c a).den:Int),0))):=fun c hc a ha=>by
  rcases h.out hc ha with ⟨x,rfl,hx⟩|⟨hs,hx⟩
  ·have e2:=Ek (t:=(0,0,16)) hx;rw [e2];exact ⟨hx,.inl rfl⟩
  ·have e2:=Ek (t:=((wV c a).num,((wV c a).den:Int),0)) hx;rw [e2];exact ⟨hx,.inr ⟨hs,rfl⟩⟩
 have hck:∀ K,ybi (aD cs) (aM (A.map aS)) K=K 0:=fun K=>by rw [e];exact Ej h K
 have hW:∀ c∈cs,∀ p∈A.map aS,∀ K:Int→Int→Int→Prop,yaW c.len (aI c.cuts) (aI c.dens) p K=K (fW c p).1 (fW c p).2.1 (fW c p).2.2:=fun c hc p hp=>by
  obtain ⟨a,ha,rfl⟩:=fT.1 hp;exact (hall c hc a ha).1
 by_cases hz:∀ c∈cs,∀ a∈A,(fW c (aS a)).2.2=0
 ·refine .inr ⟨fun c hc a ha=>?_,fun K=>?_⟩
  ·rcases (hall c hc a ha).2 with h16 | ⟨hs,_⟩
   ·have:=hz c hc a ha;omega
   ·exact hs
  ·rw [← e];refine Ks (by rw [cP];exact hl) h1 h6 hck hW (fun _=>⟨?_,rfl⟩) (fun c hc p hp hn=>?_) K
   ·unfold aE;refine nH fun c hc=>?_
    unfold bF;rw [iI,iI];congr 1;refine nH fun a ha=>?_
    rcases (hall c hc a ha).2 with h16|⟨_,h0⟩
    ·have:=hz c hc a ha;omega
    ·show kJ (wV c a)=.agg [.int .i64 (fW c (aS a)).1,.int .i64 (fW c (aS a)).2.1];rw [h0];rfl
   ·obtain ⟨a,ha,rfl⟩:=fT.1 hp;exact absurd (hz c hc a ha) hn
 ·refine .inl fun K=>?_
  rw [← e];refine Ks (by rw [cP];exact hl) h1 h6 hck hW (fun h0=>?_) (fun c hc p hp hn=>?_) K
  ·exact absurd (fun c hc a ha=>h0 c hc (aS a) (fT.2 ⟨a,ha,rfl⟩)) hz
  ·obtain ⟨a,ha,rfl⟩:=fT.1 hp;rcases (hall c hc a ha).2 with h16 | ⟨_,h0⟩
   ·exact ⟨rfl,h16.symm⟩
   ·rw [h0] at hn;exact absurd rfl hn
end
def tot (A:List (List RS)):Nat:=(A.map length).sum
theorem Ku (a:List RS) (A:List (List RS)):tot (a::A)=a.length+tot A:=by unfold tot;rw [mK,List.sum_cons]
theorem E3:∀ A:List (List RS),A.flatten.length=tot A
 | []=>rfl
 | a::r=>by rw [List.flatten_cons,hO,E3 r,Ku]
theorem E4 {m:Nat}:∀ {A:List (List RS)},(∀ a∈A,a.length≤m)→tot A≤A.length*m
 | [],_=>by simp [tot]
 | a::r,h=>by
  have h1:=h a eH;have h2:=E4 (m:=m) fun x hx=>h x (eE a hx)
  rw [Ku,kR,Nat.succ_mul];omega
section
variable {cs:List Ck} {A:List (List RS)}
theorem E5 (hl:A.length≤6) (hm:∀ a∈A,a.length≤20) {WW WL} {x0:List PV→Int→List PV→Int→Int→Bool→Prop} {l0:List PV} :
  ∀ (r i n s:Nat),i+r=A.length→r<n→s≤20*i→DN WW WL x0 n l0 (s:Int) (aC A) (A.length:Int) (i:Int)=x0 l0 ((s+tot (A.drop i):Nat):Int) (aC A) (A.length:Int) (A.length:Int) false
 | 0,i,n+1,s,hi,hn,hs=>by rw [DN,bE (by omega),lV (by omega),show (i:Int)=A.length by omega];rfl
 | r+1,i,n+1,s,hi,hn,hs=>by have e1:=cI (n:=(i:Int)+1) (by omega) (by omega);have hx:=kM [] (show i<A.length by omega);have hx2:=hm _ hx;have hd:A.drop i=A.getD i []::A.drop (i+1):=kI [] (by omega);have ih:=E5 hl hm (WW:=WW) (WL:=WL) (x0:=x0) (l0:=l0) r (i+1) n (s+(A.getD i []).length) (by omega) (by omega) (by omega);rw [DN];dsimp only [lt,Go.Pf.jn];rw [bI (by omega),pV,aJ (by omega),aJ (by omega),cE,zL (by omega),gG,dU,gO,hd,Ku,e1,cZ];generalize (A.getD i []).length=k at hx2 ih;have e2:=cI (n:=(s:Int)+(k:Int)) (by omega) (by omega);rw [e2,bE (by omega),← Int.natCast_add,ih];congr 2;omega
def Bz:PV:=.agg [.int .i64 0,.int .i64 0,.int .i64 0,.int .i64 0]
theorem E6 (hl:A.length≤6) {WW WL} {x1:List PV→Nat→List PV→Int→Int→Bool→Prop} :
  ∀ (r i n:Nat) (done:List RS),i+r=A.length→r<n→uS WW WL x1 n (aS done++replicate (tot (A.drop i)) Bz) done.length (aC A) (A.length:Int) (i:Int)=x1 (aS (done++(A.drop i).flatten)) (done++(A.drop i).flatten).length (aC A) (A.length:Int) (A.length:Int) false
 | 0,i,n+1,done,hi,hn=>by rw [uS,bE (by omega),lV (by omega),show (i:Int)=A.length by omega];show x1 (aS done++[]) _ _ _ _ _=x1 (aS (done++[])) (done++[]).length _ _ _ _;rw [xA,xA]
 | r+1,i,n+1,done,hi,hn=>by
  have e1:=cI (n:=(i:Int)+1) (by omega) (by omega);have hd:A.drop i=A.getD i []::A.drop (i+1):=kI [] (by omega);have ih:=E6 hl (WW:=WW) (WL:=WL) (x1:=x1) r (i+1) n (done++A.getD i []) (by omega) (by omega);rw [uS];dsimp only [lt,Go.Pf.jn];rw [bI (by omega),pV,aJ (by omega),aJ (by omega),cE,zL (by omega),gG,dU,C2,cH,hd,Ku,List.flatten_cons,e1,cZ,gO];generalize A.getD i []=a at ih;have hlen:(aS done++replicate (a.length+tot (A.drop (i+1))) Bz).length=done.length+(a.length+tot (A.drop (i+1))):=by rw [hO,gO,oV]
  rw [aJ rfl,aJ (by rw [hlen];omega)];rw [show done++(a++(A.drop (i+1)).flatten)=(done++a)++(A.drop (i+1)).flatten from (rX ..).symm]
  cases ha:a with
  | nil =>rw [ha,xA] at ih;show aB true _ _=_;rw [aY,aJ rfl,xA,List.length_nil,iA];exact ih
  | cons b t=>
   rw [← ha];have hemp:isEmpty (aS a)=false:=by rw [ha];rfl
   have hnew:take (0+done.length) (aS done++replicate (a.length+tot (A.drop (i+1))) Bz)++(aS a++drop (0+done.length+a.length) (aS done++replicate (a.length+tot (A.drop (i+1))) Bz))=aS (done++a)++replicate (tot (A.drop (i+1))) Bz:=by rw [iA,← yJQ,Hd (by rw [gO];omega),wU (by rw [gO];omega),List.drop_append,lV (by rw [gO];omega),rY,gO,show done.length+a.length-done.length=a.length by omega,List.drop_replicate,show a.length+tot (A.drop (i+1))-a.length=tot (A.drop (i+1)) by omega,rX]
   have hlen2:(aS (done++a)++replicate (tot (A.drop (i+1))) Bz).length=done.length+(a.length+tot (A.drop (i+1))):=by rw [hO,gO,hO,oV];omega
   rw [hemp,aV,aJ (by rw [hlen];omega),hnew,aJ (by rw [hlen,hlen2])];rw [hO] at ih;exact ih
theorem E7 {len:Int} {l:List RS} (hs:∀ s∈l,iS s) (hl:l.length<1000) {l1 l2 l3 l4:List PV} {x0:List PV→List PV→List PV→List PV→List PV→Int→Int→Nat→Int→Int→Bool→Prop} {x1:List PV→Bool→Prop} {K:Bool→Prop}
  (h0:∀ q:Rat,small q→x0 (aS l) l1 l2 l3 l4 q.num q.den l.length (l.length:Int) (l.length:Int) false=K (decide (q<(len:Rat)))) (h1:x1 (aS l) true=K true) :
  ∀ (r i n:Nat) (q:Rat),i+r=l.length→r<n→small q→DP dX cB x0 x1 n (aS l) l1 l2 l3 l4 q.num q.den l.length (l.length:Int) (i:Int)=K (nF (len:Rat) (l.drop i) q)
 | 0,i,n+1,q,hi,hn,hq=>by rw [DP,bE (by omega),lV (by omega),show (i:Int)=l.length by omega,h0 q hq];rfl
 | r+1,i,n+1,q,hi,hn,hq=>by
  have e1:=cI (n:=(i:Int)+1) (by omega) (by omega);have hd:l.drop i=l.getD i default::l.drop (i+1):=kI default (by omega);have hx:=Km hs (show i<l.length by omega);have ih:=fun q hq=>E7 hs hl h0 h1 r (i+1) n q (by omega) (by omega) hq
  rw [DP];dsimp only [lt,Go.Pf.jn];rw [bI (by omega),aJ (by omega),aJ (by omega),gO,aJ rfl,cE,iA,aJ (by omega),pT (by omega),pU,vY,Eg,vZ,wA,zJ hq hx.1,hd,e1,cZ];generalize l.getD i default=t at hx;unfold nF
  by_cases hlt:q<t.1
  ·rw [Os hlt,aY,Sj hlt];exact h1
  ·rw [Po hlt,aV,Sk hlt,zJ hq hx.2]
   by_cases hlt2:q<t.2
   ·rw [Os hlt2,aY,aJ rfl,Sj hlt2];exact ih t.2 hx.2
   ·rw [Po hlt2,aV,aJ rfl,Sk hlt2];exact ih q hq
theorem E8 (hl:A.length≤6) (hz:∀ a∈A,a=[]) {WW WL} {x0:List PV→Int→Int→Bool→Prop} {x1:List PV→Nat→List PV→Int→Int→Bool→Prop} :
  ∀ (r i n:Nat),i+r=A.length→r<n→DO WW WL x0 x1 n (aC A) (A.length:Int) (i:Int)=x0 (aC A) (A.length:Int) (A.length:Int) false
 | 0,i,n+1,hi,hn=>by rw [DO,bE (by omega),show (i:Int)=A.length by omega]
 | r+1,i,n+1,hi,hn=>by have e1:=cI (n:=(i:Int)+1) (by omega) (by omega);have hx:=hz _ (kM [] (show i<A.length by omega));rw [DO];dsimp only [lt,Go.Pf.jn];rw [bI (by omega),pV,aJ (by omega),aJ (by omega),cE,zL (by omega),gG,dU,hx,C2,cH,e1,cZ];show aB true _ _=_;rw [aY];exact E8 hl hz r (i+1) n (by omega) (by omega)
theorem yI0 (hl:A.length≤6) {WW WL} (x1:List PV→Nat→List PV→Int→Int→Bool→Prop):uS WW WL x1 (A.length+1) (replicate (tot A) Bz) 0 (aC A) (A.length:Int) 0=x1 (aS A.flatten) A.flatten.length (aC A) (A.length:Int) (A.length:Int) false:=by have hg:=E6 (A:=A) hl (WW:=WW) (WL:=WL) (x1:=x1) A.length 0 (A.length+1) [] (by omega) (by omega);rw [hZ,rY] at hg;exact hg
theorem DV.tot120 (h:DV cs A):tot A≤120:=by have h1:=E4 h.m;have h2:=h.l;have h3:=h.d.n6;have:A.length*20≤6*20:=eL _ (by omega);omega
theorem DV.flatS (h:DV cs A):∀ s∈A.flatten,iS s:=fun s hs=>by obtain ⟨a,ha,hs⟩:=List.mem_flatten.1 hs;exact (h.p a ha).s s hs
theorem DV.flatV (h:DV cs A):∀ s∈A.flatten,s.1<s.2:=fun s hs=>by obtain ⟨a,ha,hs⟩:=List.mem_flatten.1 hs;exact GM (h.p a ha).c s hs
theorem DV.gap (h:DV cs A) (W PT:List PV):∃ l:List RS,l.Perm A.flatten∧GL l∧∀ K,yac (aD cs) (aC A) W PT K=K (nF ((cs.getD 0 default).len:Rat) l 0):=by
 have h6:=h.d.n6;have h1:=h.d.n0;have hl:=h.l;have l0:=h.len0;have ht:=h.tot120;have hfS:=h.flatS;have hfV:=h.flatV;obtain ⟨m,p1,p2,p3⟩:=yHt FN CL (l:=A.flatten.map dC) (fun s hs=>by
  obtain ⟨r,hr,rfl⟩:=fT.1 hs;exact Kn (hfS r hr) (hfV r hr))
 have hm:∀ s∈m,s.ok:=fun s hs=>by
  obtain ⟨r,hr,rfl⟩:=fT.1 (p1.mem_iff.1 hs);exact Kn (hfS r hr) (hfV r hr)
 have hp:(eI m).Perm A.flatten:=by
  have:=p1.map Sp.rs;rw [iI] at this;have e:A.flatten.map (Sp.rs ∘ dC)=A.flatten:=by
   conv=>rhs;rw [← List.map_id A.flatten]
   exact nH fun r hr=>B6 (hfS r hr)
  rw [e] at this;exact this
 have hb:GL (eI m):=B8 (List.pairwise_map.2 p2);refine ⟨eI m,hp,hb,fun K=>?_⟩;refine xt _ _ _ _ _ (fun K k=>?_) K;have sl:small ((cs.getD 0 default).len:Rat):=vQ (by omega);have hfl:=E3 A;have hend:∀ (q:Rat),small q→aA (decide ((0:Int)<(((aD cs).length:Nat):Int))) (aA (aF zK (getD (aD cs) 0 .nils)) (dX (aK (aP (getD (aD cs) 0 .nils) 0)) fun a b=>cB q.num q.den a b fun b=>K b))=K (decide (q<((cs.getD 0 default).len:Rat))):=fun q hq=>by
  rw [dT,aJ (by omega),lM (by omega),eG,mF,rT,zJ hq sl]
 unfold yac Ql;dsimp only [Go.Pf.jn,lt];refine ⟨A.length+1,?_⟩;rw [pV];refine (E5 (by omega) h.m A.length 0 (A.length+1) 0 (by omega) (by omega) (by omega)).mpr ?_;rw [hZ,iA,bE (by omega)];have e2:=cI (n:=((tot A:Nat):Int)-0) (by omega) (by omega);rw [e2,show ((tot A:Nat):Int)-0=((tot A:Nat):Int) by omega]
 by_cases hz:tot A=0
 ·have hze:∀ a∈A,a=[]:=fun a ha=>by
   have hfe:=jA (hfl.trans hz);exact List.flatten_eq_nil_iff.1 hfe a ha
  have hml:eI m=[]:=jA (by rw [hp.length_eq,hfl,hz]);rw [hml] at k;rw [bE (by omega)];refine ⟨A.length+1,?_⟩;rw [pV];refine (E8 (by omega) hze A.length 0 (A.length+1) (by omega) (by omega)).mpr ?_;rw [rT];refine ⟨1,?_⟩;rw [Qk,bE (by omega)];exact (hend 0 Kp).mpr k
 ·rw [bI (by omega),aJ (by omega),cE,bE (by omega),oV,aJ (by unfold room;omega)];have hor:(decide ((0:Int)≤((tot A:Nat):Int))||decide ((0:Int)≤((tot A:Nat):Int)))=true:=by rw [Os (by omega)];rfl
  rw [hor,cH,aJ rfl];refine ⟨A.length+1,?_⟩;rw [pV];refine (yI0 (by omega) _).mpr ?_;have hcond:Srt.cond lF.s (aS A.flatten) 0 A.flatten.length (aS A.flatten).length 4 false=true:=by
   obtain ⟨d,hd⟩:∃ d,(lF).s.rows? (aS A.flatten)=some d:=Rs fun y hy=>by
    obtain ⟨s,h4,rfl⟩:=fT.1 hy;obtain ⟨q,hq,rfl⟩:=fT.1 h4;exact B3 _ _ (Kn (hfS q hq) (hfV q hq))
   unfold Srt.cond;rw [hZ,show take A.flatten.length (aS A.flatten)=aS A.flatten by rw [← gO,Ad],hd,gO];simp only [decide_true,gH,pC,Option.isSome_some,Bool.and_true,bQ,decide_eq_true_eq,iA,bW];exact ⟨by omega,rfl,by omega⟩
  rw [hcond,cH,rT];have hsrt:Srt.sorted lF.s lF.srt (aS A.flatten)=aS (eI m):=by
   rw [show aS A.flatten=fP (A.flatten.map dC) from rfl,← B7 hm];exact p3
  have hlm:(eI m).length=A.flatten.length:=hp.length_eq;have htk:take A.flatten.length (aS A.flatten)=aS A.flatten:=by rw [← gO,Ad]
  have hdp:drop A.flatten.length (aS A.flatten)=[]:=by rw [← gO,wZ]
  rw [List.take_zero,hZ,htk,hsrt,rY,iA,hdp,xA,gO,gO,aJ (by rw [hlm]),← hlm];refine ⟨(eI m).length+1,?_⟩;have hms:∀ s∈eI m,iS s:=fun s hs=>hfS s (hp.mem_iff.1 hs)
  have h2:=E7 (len:=(cs.getD 0 default).len) (l:=eI m) hms (by omega) (l1:=aD cs) (l2:=aC A) (l3:=W) (l4:=PT) (K:=K)
   (x0:=fun _ l _ _ _ a b _ _ _ _=>aA (decide ((0:Int)<(((length l):Nat):Int))) (aA (aF zK (getD l 0 .nils)) (dX (aK (aP (getD l 0 .nils) 0)) fun c d=>cB a b c d fun b=>K b))) (x1:=fun _ b=>K b)
   (fun q hq=>hend q hq) rfl (eI m).length 0 ((eI m).length+1) 0 (by omega) (by omega) Kp
  refine h2.mpr ?_;rw [hZ];exact k
end
theorem yJY {x d:Int} (h0:0≤x) (h1:x≤1000000000000000000) (d0:1≤d) (d1:d≤1000000000000000000):small ((x:Rat)/(d:Rat)):=by
 have hd:(d:Rat)≠0:=by have:(0:Rat)<(d:Rat):=Rat.intCast_pos.2 (by omega);grind
 generalize hq:(x:Rat)/(d:Rat)=q;have e1:(q.num:Rat)*(d:Rat)=(x:Rat)*(q.den:Rat):=by
  have h2:(q.den:Rat)≠0:=by have:(0:Rat)<(q.den:Rat):=Rat.natCast_pos.2 q.den_pos;grind
  have h3:q=(q.num:Rat)/(q.den:Rat):=by rw [← Rat.mkRat_eq_div,Rat.mkRat_self]
  have h4:q*(q.den:Rat)=(q.num:Rat):=by have:(q.num:Rat)/(q.den:Rat)*(q.den:Rat)=(q.num:Rat):=Rat.div_mul_cancel h2;rw [← h3] at this;exact this
  have h5:q*(d:Rat)=(x:Rat):=by rw [← hq];exact Rat.div_mul_cancel hd
  grind
 have e2:q.num*d=x*(q.den:Int):=by rw [show (q.den:Rat)=(((q.den:Nat):Int):Rat) from (Rat.intCast_natCast _).symm,← xB,← xB] at e1;exact Rat.intCast_inj.1 e1
 have hp:=q.den_pos;have n0:0≤q.num:=by
  refine Int.not_lt.1 fun h=>?_
  have a1:q.num*d<0:=zX h (by omega);have a2:0≤x*(q.den:Int):=iY h0 (by omega);omega
 have hdv:q.den∣d.natAbs:=by
  have hc:Nat.Coprime q.den q.num.natAbs:=q.reduced.symm;refine hc.dvd_of_dvd_mul_left (m:=q.num.natAbs) ?_;have:(q.num*d).natAbs=(x*(q.den:Int)).natAbs:=by rw [e2]
  rw [Int.natAbs_mul,Int.natAbs_mul,Aa] at this;rw [this];exact Nat.dvd_mul_left ..
 obtain ⟨t,ht⟩:=hdv;have hd2:d=(q.den:Int)*(t:Int):=by
  rw [← tN,← ht];omega
 have t1:1≤t:=by
  rcases Nat.eq_zero_or_pos t with h|h
  ·rw [h] at hd2;omega
  ·exact h
 have e3:q.num*(t:Int)=x:=by
  have:(q.num*(t:Int))*(q.den:Int)=x*(q.den:Int):=by rw [← e2,hd2,Int.mul_assoc,Int.mul_comm (t:Int)]
  exact Int.eq_of_mul_eq_mul_right (by omega) this
 have e4:q.num≤q.num*(t:Int):=by have:=Int.mul_le_mul_of_nonneg_left (show (1:Int)≤(t:Int) by omega) n0;omega
 have e5:(q.den:Int)≤(q.den:Int)*(t:Int):=by have:=Int.mul_le_mul_of_nonneg_left (show (1:Int)≤(t:Int) by omega) (show (0:Int)≤(q.den:Int) by omega);omega
 exact ⟨by omega,by omega,by omega⟩
def yA8 (f:Nat→Bool):Nat→Nat→Option Nat
 | 0,_=>none
 | r+1,i=>if f i then some i else yA8 f r (i+1)
def ydi (f:Nat→Nat→Bool) (n:Nat):Nat→Nat→Option (Nat×Nat)
 | 0,_=>none
 | r+1,i=>match yA8 (f i) n 0 with
  | some j=>some (i,j)
  | none=>ydi f n r (i+1)
theorem lP (cs:List Ck) (A:List (List RS)):(aE cs A).length=cs.length:=cP ..
theorem pW {cs:List Ck} {A:List (List RS)} {i:Nat} (h:i<cs.length):getD (aE cs A) i .nils=.data (bF (A.map (wV (cs.getD i default)))):=by unfold aE;rw [dH,dH,mJ,cN h];rfl
theorem tJ {c:Ck} {A:List (List RS)} {i:Nat} (h:i<A.length):(A.map (wV c)).getD i 0=wV c (A.getD i []):=by rw [dH,dH,mJ,cN h];rfl
def wF (A:List (List RS)) (a b:Nat):Bool:=decide (a<b)&&GP (A.getD a []) (A.getD b [])
def Kv (cs:List Ck) (a:Nat):Rat:=((totC (cs.getD a default).cuts (cs.getD a default).dens:Int):Rat)/((cs.length:Int):Rat)
def wG (cs:List Ck) (A:List (List RS)) (a b:Nat):Bool:=decide (a=b)&&decide (wV (cs.getD a default) (A.getD a [])<Kv cs a)
def wH (cs:List Ck) (A:List (List RS)) (a b:Nat):Bool:=decide (wV (cs.getD a default) (A.getD a [])<wV (cs.getD a default) (A.getD b []))
def wI (P:List Rat) (a b:Nat):Bool:=decide (b=0)&&!decide (P.getD a 0=P.getD 0 0)
def wJ (A:List (List RS)) (a b:Nat):Bool:=decide (a=b)&&decide ((A.getD a []).length≠1)
section
variable {cs:List Ck} {A:List (List RS)}
theorem DV.small (h:DV cs A) (hw:∀ c∈cs,∀ a∈A,small (wV c a)) {i j:Nat} (hi:i<cs.length) (hj:j<cs.length):Go.Pf.Vc.small (wV (cs.getD i default) (A.getD j [])):=
 hw _ (kM _ hi) _ (kM _ (by rw [h.l];exact hj))
theorem RG (a b:Nat):(((a:Int)) ==(b:Int))=decide (a=b):=by rw [Ae,beq_iff_eq,decide_eq_true_eq];omega
theorem yEj {c:Ck} {n:Nat} (hc:c.ok) (h1:1≤n) (h6:n≤6):small (((totC c.cuts c.dens:Int):Rat)/((n:Int):Rat)):=by have:=GI hc;exact yJY (by omega) (by omega) (by omega) (by omega)
theorem yMY (h:DV cs A) {l2 l3 l4 l5 l6 l7:List PV} {i9 i10:Int} {x0:List PV→List PV→List PV→List PV→List PV→List PV→List PV→List PV→Int→Int→Int→Int→Int→Bool→Prop} {x1:List PV→List PV→List PV→List PV→Int→Int→Bool→Prop} {a j n:Nat} (ha:a<cs.length) (hj:j<cs.length) :
 uT cW yac bU cU cB x0 x1 (n+1) (aD cs) (aC A) l2 l3 l4 l5 l6 l7 (a:Int) i9 i10 (cs.length:Int) (j:Int)=aB (wF A a j) (x1 (aD cs) (aC A) l2 l3 (a:Int) (j:Int) true) (uT cW yac bU cU cB x0 x1 n (aD cs) (aC A) l2 l3 l4 l5 l6 l7 (a:Int) i9 i10 (cs.length:Int) ((j+1:Nat):Int)):=by
 have h6:=h.d.n6;have h1:=h.d.n0;have hl:=h.l;have e1:=cI (n:=(j:Int)+1) (by omega) (by omega);rw [uT,bI (by omega)];dsimp only [lt,Go.Pf.jn];have ja:=h.p _ (kM [] (show a<A.length by omega));have jb:=h.p _ (kM [] (show j<A.length by omega));have na:=ja.n;have nb:=jb.n;unfold wF
 by_cases hlt:a<j
 ·rw [Os hlt,bI (by omega),pV,aJ (by omega),aJ (by omega),cE,zL (by omega),gG,aJ (by omega),aJ (by omega),cE,zL (by omega),gG,dU,dU,yIY ja.s jb.s (by omega) (by omega),gH,e1,cZ]
 ·rw [Po hlt,bE (by omega),jS,e1,cZ]
theorem yMZ (h:DV cs A) (hw:∀ c∈cs,∀ a∈A,small (wV c a)) {l3 l4 l5 l6 l7:List PV} {i9 i10:Int} {x0:List PV→List PV→List PV→List PV→List PV→List PV→List PV→List PV→Int→Int→Int→Int→Int→Bool→Prop} {x1:List PV→List PV→List PV→List PV→Int→Int→Bool→Prop} {a j n:Nat} (ha:a<cs.length) (hj:j<cs.length) :
 uU cW yac bU cU cB x1 x0 (n+1) (aD cs) (aC A) (aE cs A) l3 l4 l5 l6 l7 (a:Int) i9 i10 (cs.length:Int) (j:Int)=aB (wG cs A a j) (x1 (aD cs) (aC A) (aE cs A) l3 (a:Int) (j:Int) true) (uU cW yac bU cU cB x1 x0 n (aD cs) (aC A) (aE cs A) l3 l4 l5 l6 l7 (a:Int) i9 i10 (cs.length:Int) ((j+1:Nat):Int)):=by
 have h6:=h.d.n6;have h1:=h.d.n0;have hl:=h.l;have e1:=cI (n:=(j:Int)+1) (by omega) (by omega);rw [uU,bI (by omega)];dsimp only [lt,Go.Pf.jn];have hok:=(h.d.ok a ha);have l1:=hok.l1;have l2:=hok.l2;have hto:=GI hok;have hT:bS (totC (cs.getD a default).cuts (cs.getD a default).dens):=by constructor<;>omega
 have hN:bS (cs.length:Int):=by constructor<;>omega
 have hss:small (Kv cs a):=yEj hok h1 h6;rw [aJ (by omega),dT,aJ (by omega),cE,lM ha,eG,mF,tG,tH,ZT (by omega) (by omega),Sj hok.ck,yIE hT hN (by omega)];unfold Kv at hss;unfold fitK;rw [Sj hss];dsimp only;rw [RG,e1,cZ];unfold wG Kv
 by_cases hab:a=j
 ·rw [Os hab,aY,aJ (by omega),lP,aJ (by omega),pW ha,gG,aJ (by omega),dU,kK,cP,aJ (by omega),mH (by rw [cP];omega),lO,nC,nD,tJ (by omega),gH];rw [zJ (h.small hw ha ha) hss]
 ·rw [Po hab,aV,jS]
theorem yM0 (h:DV cs A) (hw:∀ c∈cs,∀ a∈A,small (wV c a)) {l3 l4 l5 l6 l7:List PV} {i9 i10:Int} {x0:List PV→List PV→List PV→List PV→List PV→List PV→List PV→List PV→Int→Int→Int→Int→Int→Bool→Prop} {x1:List PV→List PV→List PV→List PV→Int→Int→Bool→Prop} {a j n:Nat} (ha:a<cs.length) (hj:j<cs.length) :
 uV cW yac bU cU cB x1 x0 (n+1) (aD cs) (aC A) (aE cs A) l3 l4 l5 l6 l7 (a:Int) i9 i10 (cs.length:Int) (j:Int)=aB (wH cs A a j) (x1 (aD cs) (aC A) (aE cs A) l3 (a:Int) (j:Int) true) (uV cW yac bU cU cB x1 x0 n (aD cs) (aC A) (aE cs A) l3 l4 l5 l6 l7 (a:Int) i9 i10 (cs.length:Int) ((j+1:Nat):Int)):=by
 have h6:=h.d.n6;have h1:=h.d.n0;have hl:=h.l;have e1:=cI (n:=(j:Int)+1) (by omega) (by omega);rw [uV,bI (by omega)];dsimp only [lt,Go.Pf.jn];unfold wH;rw [aJ (by omega),lP,aJ (by omega),cE,pW ha,gG,aJ (by omega),dU,kK,cP,aJ (by omega),mH (by rw [cP];omega),lO,aJ (by omega),aJ (by omega),aJ (by omega),aJ (by omega),cE,mH (by rw [cP];omega),lO,nC,nD,nC,nD,tJ (by omega),tJ (by omega),zJ (h.small hw ha ha) (h.small hw ha hj),e1,cZ,gG]
theorem yM1 (h:DV cs A) {P:List Rat} (hP:P.length=cs.length) {l2 l4 l5 l6 l7:List PV} {i9 i10:Int} {x0:List PV→List PV→List PV→List PV→List PV→List PV→List PV→List PV→Int→Int→Int→Int→Int→Bool→Prop} {x1:List PV→List PV→List PV→List PV→Int→Int→Bool→Prop} {a j n:Nat} (ha:a<cs.length) (hj:j<cs.length) :
 uW cW yac bU cU cB x1 x0 (n+1) (aD cs) (aC A) l2 (bF P) l4 l5 l6 l7 (a:Int) i9 i10 (cs.length:Int) (j:Int)=aB (wI P a j) (x1 (aD cs) (aC A) l2 (bF P) (a:Int) (j:Int) true) (uW cW yac bU cU cB x1 x0 n (aD cs) (aC A) l2 (bF P) l4 l5 l6 l7 (a:Int) i9 i10 (cs.length:Int) ((j+1:Nat):Int)):=by
 have h6:=h.d.n6;have h1:=h.d.n0;have hl:=h.l;have e1:=cI (n:=(j:Int)+1) (by omega) (by omega);rw [uW,bI (by omega)];dsimp only [lt,Go.Pf.jn];unfold wI;rw [show ((j:Int) ==(0:Int))=decide (j=0) from RG j 0,e1,cZ]
 by_cases hab:j=0
 ·rw [Os hab,aY,aJ (by omega),kK,aJ (by omega),cE,mH (by omega),lO,aJ (by omega),mH (by omega),lO,nC,nD,nC,nD,yMP,gH]
 ·rw [Po hab,aV,jS]
theorem yM2 (h:DV cs A) {l2 l3 l4 l5 l6 l7:List PV} {i9 i10:Int} {x0:List PV→List PV→List PV→List PV→List PV→List PV→List PV→List PV→Int→Int→Int→Int→Int→Bool→Prop} {x1:List PV→List PV→List PV→List PV→Int→Int→Bool→Prop} {a j n:Nat} (_:a<cs.length) (hj:j<cs.length) :
 uX cW yac bU cU cB x1 x0 (n+1) (aD cs) (aC A) l2 l3 l4 l5 l6 l7 (a:Int) i9 i10 (cs.length:Int) (j:Int)=aB (wJ A a j) (x1 (aD cs) (aC A) l2 l3 (a:Int) (j:Int) true) (uX cW yac bU cU cB x1 x0 n (aD cs) (aC A) l2 l3 l4 l5 l6 l7 (a:Int) i9 i10 (cs.length:Int) ((j+1:Nat):Int)):=by
 have h6:=h.d.n6;have h1:=h.d.n0;have hl:=h.l;have e1:=cI (n:=(j:Int)+1) (by omega) (by omega);rw [uX,bI (by omega)];dsimp only [lt,Go.Pf.jn];unfold wJ;rw [RG,e1,cZ]
 by_cases hab:a=j
 ·have hne:((((A.getD a []).length:Nat):Int) !=(1:Int))=decide ((A.getD a []).length≠1):=by
   rw [Ae,bne_iff_ne,decide_eq_true_eq];omega
  rw [Os hab,aY,aJ (by omega),pV,aJ (by omega),cE,zL (by omega),gG,dU,gO,hne,gH]
 ·rw [Po hab,aV,jS]
end
def E9 (X:Nat→Prop) (Y:Prop):Option Nat→Prop
 | some j=>X j
 | none=>Y
def BA (X:Nat→Nat→Prop) (Y:Prop):Option (Nat×Nat)→Prop
 | some (a,b)=>X a b
 | none=>Y
theorem Em {f:Nat→Bool} {N:Nat} {L:Nat→Nat→Prop} {X:Nat→Prop} {Y:Prop} (hs:∀ n j,j<N→L (n+1) j=aB (f j) (X j) (L n (j+1))) (he:∀ n,L (n+1) N=Y) :
  ∀ (r j n:Nat),j+r=N→r<n→L n j=E9 X Y (yA8 f r j)
 | 0,j,n+1,hj,_=>by
  obtain rfl:j=N:=by omega
  rw [he];rfl
 | r+1,j,n+1,hj,hn=>by
  rw [hs n j (by omega),yA8]
  cases f j with
  | true=>rw [aY];rfl
  | false=>rw [aV];exact Em hs he r (j+1) n (by omega) (by omega)
theorem En {f:Nat→Nat→Bool} {N:Nat} {L:Nat→Nat→Prop} {X:Nat→Nat→Prop} {Y:Prop} (hs:∀ n a,a<N→E9 (X a) (L n (a+1)) (yA8 (f a) N 0)→L (n+1) a) (he:∀ n,Y→L (n+1) N) :
  ∀ (r a n:Nat),a+r=N→r<n→BA X Y (ydi f N r a)→L n a
 | 0,a,n+1,ha,_,h=>by
  obtain rfl:a=N:=by omega
  exact he n h
 | r+1,a,n+1,ha,hn,h=>by
  refine hs n a (by omega) ?_;rw [ydi] at h
  cases hb:yA8 (f a) N 0 with
  | some j=>rw [hb] at h;exact h
  | none=>rw [hb] at h;exact En hs he r (a+1) n (by omega) (by omega) h
section
variable {cs:List Ck} {A:List (List RS)}
theorem yM3 (h:DV cs A) {l2 l3:List PV} {x0:List PV→List PV→List PV→List PV→List PV→List PV→List PV→List PV→Int→Int→Bool→Prop} {x1:List PV→List PV→List PV→List PV→Int→Int→Bool→Prop} :
  ∀ (r a n:Nat),a+r=cs.length→r<n→BA (fun a b=>x1 (aD cs) (aC A) l2 l3 (a:Int) (b:Int) true) (x0 (aD cs) (aC A) l2 l3 (aD cs) (aC A) l2 l3 (cs.length:Int) (cs.length:Int) false) (ydi (wF A) cs.length r a)→uY cW yac bU cU cB x0 x1 n (aD cs) (aC A) l2 l3 (aD cs) (aC A) l2 l3 (cs.length:Int) (a:Int):=by
 have h6:=h.d.n6;refine En (L:=fun n a=>uY cW yac bU cU cB x0 x1 n (aD cs) (aC A) l2 l3 (aD cs) (aC A) l2 l3 (cs.length:Int) (a:Int)) (fun n a ha hb=>?_) (fun n hy=>?_)
 ·have e1:=cI (n:=(a:Int)+1) (by omega) (by omega);show uY cW yac bU cU cB x0 x1 (n+1) (aD cs) (aC A) l2 l3 (aD cs) (aC A) l2 l3 (cs.length:Int) (a:Int);rw [uY,bI (by omega),dT];dsimp only [lt,Go.Pf.jn];refine ⟨cs.length+1,?_⟩;refine (Em (f:=(wF A) a) (N:=cs.length) (L:=fun n j=>uT cW yac bU cU cB _ _ n (aD cs) (aC A) l2 l3 (aD cs) (aC A) l2 l3 (a:Int) (cs.length:Int) (a:Int) (cs.length:Int) (j:Int)) (fun n j hj=>yMY h ha hj) (fun n=>?_) cs.length 0 (cs.length+1) (by omega) (by omega)).mpr hb;show uT cW yac bU cU cB _ _ (n+1) (aD cs) (aC A) l2 l3 (aD cs) (aC A) l2 l3 (a:Int) (cs.length:Int) (a:Int) (cs.length:Int) (cs.length:Int)=_;rw [uT,bE (by omega),e1,cZ]
 ·show uY cW yac bU cU cB x0 x1 (n+1) (aD cs) (aC A) l2 l3 (aD cs) (aC A) l2 l3 (cs.length:Int) (cs.length:Int);rw [uY,bE (by omega)];exact hy
theorem yM4 (h:DV cs A) (hw:∀ c∈cs,∀ a∈A,small (wV c a)) {l3:List PV} {x0:List PV→List PV→List PV→List PV→List PV→List PV→List PV→List PV→Int→Int→Bool→Prop} {x1:List PV→List PV→List PV→List PV→Int→Int→Bool→Prop} :
  ∀ (r a n:Nat),a+r=cs.length→r<n→BA (fun a b=>x1 (aD cs) (aC A) (aE cs A) l3 (a:Int) (b:Int) true) (x0 (aD cs) (aC A) (aE cs A) l3 (aD cs) (aC A) (aE cs A) l3 (cs.length:Int) (cs.length:Int) false) (ydi (wG cs A) cs.length r a)→uZ cW yac bU cU cB x1 x0 n (aD cs) (aC A) (aE cs A) l3 (aD cs) (aC A) (aE cs A) l3 (cs.length:Int) (a:Int):=by
 have h6:=h.d.n6;refine En (L:=fun n a=>uZ cW yac bU cU cB x1 x0 n (aD cs) (aC A) (aE cs A) l3 (aD cs) (aC A) (aE cs A) l3 (cs.length:Int) (a:Int)) (fun n a ha hb=>?_) (fun n hy=>?_)
 ·have e1:=cI (n:=(a:Int)+1) (by omega) (by omega);show uZ cW yac bU cU cB x1 x0 (n+1) (aD cs) (aC A) (aE cs A) l3 (aD cs) (aC A) (aE cs A) l3 (cs.length:Int) (a:Int);rw [uZ,bI (by omega),dT];dsimp only [lt,Go.Pf.jn];refine ⟨cs.length+1,?_⟩;refine (Em (f:=(wG cs A) a) (N:=cs.length) (L:=fun n j=>uU cW yac bU cU cB _ _ n (aD cs) (aC A) (aE cs A) l3 (aD cs) (aC A) (aE cs A) l3 (a:Int) (cs.length:Int) (a:Int) (cs.length:Int) (j:Int)) (fun n j hj=>yMZ h hw ha hj) (fun n=>?_) cs.length 0 (cs.length+1) (by omega) (by omega)).mpr hb;show uU cW yac bU cU cB _ _ (n+1) (aD cs) (aC A) (aE cs A) l3 (aD cs) (aC A) (aE cs A) l3 (a:Int) (cs.length:Int) (a:Int) (cs.length:Int) (cs.length:Int)=_;rw [uU,bE (by omega),e1,cZ]
 ·show uZ cW yac bU cU cB x1 x0 (n+1) (aD cs) (aC A) (aE cs A) l3 (aD cs) (aC A) (aE cs A) l3 (cs.length:Int) (cs.length:Int);rw [uZ,bE (by omega)];exact hy
theorem yM5 (h:DV cs A) (hw:∀ c∈cs,∀ a∈A,small (wV c a)) {l3:List PV} {x0:List PV→List PV→List PV→List PV→List PV→List PV→List PV→List PV→Int→Int→Bool→Prop} {x1:List PV→List PV→List PV→List PV→Int→Int→Bool→Prop} :
  ∀ (r a n:Nat),a+r=cs.length→r<n→BA (fun a b=>x1 (aD cs) (aC A) (aE cs A) l3 (a:Int) (b:Int) true) (x0 (aD cs) (aC A) (aE cs A) l3 (aD cs) (aC A) (aE cs A) l3 (cs.length:Int) (cs.length:Int) false) (ydi (wH cs A) cs.length r a)→vC cW yac bU cU cB x1 x0 n (aD cs) (aC A) (aE cs A) l3 (aD cs) (aC A) (aE cs A) l3 (cs.length:Int) (a:Int):=by
 have h6:=h.d.n6;refine En (L:=fun n a=>vC cW yac bU cU cB x1 x0 n (aD cs) (aC A) (aE cs A) l3 (aD cs) (aC A) (aE cs A) l3 (cs.length:Int) (a:Int)) (fun n a ha hb=>?_) (fun n hy=>?_)
 ·have e1:=cI (n:=(a:Int)+1) (by omega) (by omega);show vC cW yac bU cU cB x1 x0 (n+1) (aD cs) (aC A) (aE cs A) l3 (aD cs) (aC A) (aE cs A) l3 (cs.length:Int) (a:Int);rw [vC,bI (by omega),dT];dsimp only [lt,Go.Pf.jn];refine ⟨cs.length+1,?_⟩;refine (Em (f:=(wH cs A) a) (N:=cs.length) (L:=fun n j=>uV cW yac bU cU cB _ _ n (aD cs) (aC A) (aE cs A) l3 (aD cs) (aC A) (aE cs A) l3 (a:Int) (cs.length:Int) (a:Int) (cs.length:Int) (j:Int)) (fun n j hj=>yM0 h hw ha hj) (fun n=>?_) cs.length 0 (cs.length+1) (by omega) (by omega)).mpr hb;show uV cW yac bU cU cB _ _ (n+1) (aD cs) (aC A) (aE cs A) l3 (aD cs) (aC A) (aE cs A) l3 (a:Int) (cs.length:Int) (a:Int) (cs.length:Int) (cs.length:Int)=_;rw [uV,bE (by omega),e1,cZ]
 ·show vC cW yac bU cU cB x1 x0 (n+1) (aD cs) (aC A) (aE cs A) l3 (aD cs) (aC A) (aE cs A) l3 (cs.length:Int) (cs.length:Int);rw [vC,bE (by omega)];exact hy
theorem yM6 (h:DV cs A) {P:List Rat} (hP:P.length=cs.length) {l2:List PV} {x0:List PV→List PV→List PV→List PV→List PV→List PV→List PV→List PV→Int→Int→Bool→Prop} {x1:List PV→List PV→List PV→List PV→Int→Int→Bool→Prop} :
  ∀ (r a n:Nat),a+r=cs.length→r<n→BA (fun a b=>x1 (aD cs) (aC A) l2 (bF P) (a:Int) (b:Int) true) (x0 (aD cs) (aC A) l2 (bF P) (aD cs) (aC A) l2 (bF P) (cs.length:Int) (cs.length:Int) false) (ydi (wI P) cs.length r a)→vE cW yac bU cU cB x1 x0 n (aD cs) (aC A) l2 (bF P) (aD cs) (aC A) l2 (bF P) (cs.length:Int) (a:Int):=by
 have h6:=h.d.n6;refine En (L:=fun n a=>vE cW yac bU cU cB x1 x0 n (aD cs) (aC A) l2 (bF P) (aD cs) (aC A) l2 (bF P) (cs.length:Int) (a:Int)) (fun n a ha hb=>?_) (fun n hy=>?_)
 ·have e1:=cI (n:=(a:Int)+1) (by omega) (by omega);show vE cW yac bU cU cB x1 x0 (n+1) (aD cs) (aC A) l2 (bF P) (aD cs) (aC A) l2 (bF P) (cs.length:Int) (a:Int);rw [vE,bI (by omega),dT];dsimp only [lt,Go.Pf.jn];refine ⟨cs.length+1,?_⟩;refine (Em (f:=(wI P) a) (N:=cs.length) (L:=fun n j=>uW cW yac bU cU cB _ _ n (aD cs) (aC A) l2 (bF P) (aD cs) (aC A) l2 (bF P) (a:Int) (cs.length:Int) (a:Int) (cs.length:Int) (j:Int)) (fun n j hj=>yM1 h hP ha hj) (fun n=>?_) cs.length 0 (cs.length+1) (by omega) (by omega)).mpr hb;show uW cW yac bU cU cB _ _ (n+1) (aD cs) (aC A) l2 (bF P) (aD cs) (aC A) l2 (bF P) (a:Int) (cs.length:Int) (a:Int) (cs.length:Int) (cs.length:Int)=_;rw [uW,bE (by omega),e1,cZ]
 ·show vE cW yac bU cU cB x1 x0 (n+1) (aD cs) (aC A) l2 (bF P) (aD cs) (aC A) l2 (bF P) (cs.length:Int) (cs.length:Int);rw [vE,bE (by omega)];exact hy
theorem yM7 (h:DV cs A) {l2 l3:List PV} {x0:List PV→List PV→List PV→List PV→List PV→List PV→List PV→List PV→Int→Int→Bool→Prop} {x1:List PV→List PV→List PV→List PV→Int→Int→Bool→Prop} :
  ∀ (r a n:Nat),a+r=cs.length→r<n→BA (fun a b=>x1 (aD cs) (aC A) l2 l3 (a:Int) (b:Int) true) (x0 (aD cs) (aC A) l2 l3 (aD cs) (aC A) l2 l3 (cs.length:Int) (cs.length:Int) false) (ydi (wJ A) cs.length r a)→vG cW yac bU cU cB x1 x0 n (aD cs) (aC A) l2 l3 (aD cs) (aC A) l2 l3 (cs.length:Int) (a:Int):=by
 have h6:=h.d.n6;refine En (L:=fun n a=>vG cW yac bU cU cB x1 x0 n (aD cs) (aC A) l2 l3 (aD cs) (aC A) l2 l3 (cs.length:Int) (a:Int)) (fun n a ha hb=>?_) (fun n hy=>?_)
 ·have e1:=cI (n:=(a:Int)+1) (by omega) (by omega);show vG cW yac bU cU cB x1 x0 (n+1) (aD cs) (aC A) l2 l3 (aD cs) (aC A) l2 l3 (cs.length:Int) (a:Int);rw [vG,bI (by omega),dT];dsimp only [lt,Go.Pf.jn];refine ⟨cs.length+1,?_⟩;refine (Em (f:=(wJ A) a) (N:=cs.length) (L:=fun n j=>uX cW yac bU cU cB _ _ n (aD cs) (aC A) l2 l3 (aD cs) (aC A) l2 l3 (a:Int) (cs.length:Int) (a:Int) (cs.length:Int) (j:Int)) (fun n j hj=>yM2 h ha hj) (fun n=>?_) cs.length 0 (cs.length+1) (by omega) (by omega)).mpr hb;show uX cW yac bU cU cB _ _ (n+1) (aD cs) (aC A) l2 l3 (aD cs) (aC A) l2 l3 (a:Int) (cs.length:Int) (a:Int) (cs.length:Int) (cs.length:Int)=_;rw [uX,bE (by omega),e1,cZ]
 ·show vG cW yac bU cU cB x1 x0 (n+1) (aD cs) (aC A) l2 l3 (aD cs) (aC A) l2 l3 (cs.length:Int) (cs.length:Int);rw [vG,bE (by omega)];exact hy
end
def mI:Option (Nat×Nat)→Int×Int×Bool
 | some (a,b)=>(a,b,true)
 | none=>(0,0,false)
def brk (cs:List Ck) (A:List (List RS)) (P:List Rat) (g:Bool) (c:Int):Int×Int×Bool:=
 if c=1 then (match ydi (wF A) cs.length cs.length 0 with
  | some (a,b)=>(a,b,true)
  | none=>if g then (-1,-1,true) else (0,0,false))
 else if c=2 then mI (ydi (wG cs A) cs.length cs.length 0)
 else if c=4 then mI (ydi (wH cs A) cs.length cs.length 0)
 else if c=8 then mI (ydi (wI P) cs.length cs.length 0)
 else mI (ydi (wJ A) cs.length cs.length 0)
theorem Eo {cs:List Ck} {A:List (List RS)} (h:DV cs A) (hw:∀ c∈cs,∀ a∈A,small (wV c a)) {P:List Rat} {c:Int} (hP:c=8→P.length=cs.length) (hc:c=1∨c=2∨c=4∨c=8∨c=16) {g:Bool}
  (hg:∀ K,yac (aD cs) (aC A) (aE cs A) (bF P) K=K g) (K:Int→Int→Bool→Prop) :
  yam (aD cs) (aC A) (aE cs A) (bF P) c K=K (brk cs A P g c).1 (brk cs A P g c).2.1 (brk cs A P g c).2.2:=by
 refine xu _ _ _ _ _ _ _ _ (fun K k=>?_) K;unfold yam Qo;dsimp only [Go.Pf.jn];rcases hc with rfl | rfl | rfl | rfl | rfl
 ·show aB true _ _;rw [aY];refine ⟨cs.length+1,?_⟩;rw [dT];refine yM3 h cs.length 0 (cs.length+1) (by omega) (by omega) ?_;have k:K (match ydi (wF A) cs.length cs.length 0 with | some (a,b)=>((a:Int),(b:Int),true) | none=>if g then (-1,-1,true) else (0,0,false)).1 (match ydi (wF A) cs.length cs.length 0 with | some (a,b)=>((a:Int),(b:Int),true) | none=>if g then (-1,-1,true) else (0,0,false)).2.1 (match ydi (wF A) cs.length cs.length 0 with | some (a,b)=>((a:Int),(b:Int),true) | none=>if g then (-1,-1,true) else (0,0,false)).2.2:=k
  cases hs:ydi (wF A) cs.length cs.length 0 with
  | some q =>rw [hs] at k;exact k
  | none=>
   rw [hs] at k;dsimp only [BA,pC];rw [show (!false)=true from rfl,aY,hg]
   cases g with
   | true=>exact k
   | false=>exact k
 ·show aB false _ (aB true _ _);rw [aV,aY];refine ⟨cs.length+1,?_⟩;rw [dT];refine yM4 h hw cs.length 0 (cs.length+1) (by omega) (by omega) ?_;have k:K (mI (ydi (wG cs A) cs.length cs.length 0)).1 (mI (ydi (wG cs A) cs.length cs.length 0)).2.1 (mI (ydi (wG cs A) cs.length cs.length 0)).2.2:=k
  cases hs:ydi (wG cs A) cs.length cs.length 0<;>(rw [hs] at k;exact k)
 ·show aB false _ (aB false _ (aB true _ _));rw [aV,aV,aY];refine ⟨cs.length+1,?_⟩;rw [dT];refine yM5 h hw cs.length 0 (cs.length+1) (by omega) (by omega) ?_;have k:K (mI (ydi (wH cs A) cs.length cs.length 0)).1 (mI (ydi (wH cs A) cs.length cs.length 0)).2.1 (mI (ydi (wH cs A) cs.length cs.length 0)).2.2:=k
  cases hs:ydi (wH cs A) cs.length cs.length 0<;>(rw [hs] at k;exact k)
 ·show aB false _ (aB false _ (aB false _ (aB true _ _)));rw [aV,aV,aV,aY];refine ⟨cs.length+1,?_⟩;rw [dT];refine yM6 h (hP rfl) cs.length 0 (cs.length+1) (by omega) (by omega) ?_;have k:K (mI (ydi (wI P) cs.length cs.length 0)).1 (mI (ydi (wI P) cs.length cs.length 0)).2.1 (mI (ydi (wI P) cs.length cs.length 0)).2.2:=k
  cases hs:ydi (wI P) cs.length cs.length 0<;>(rw [hs] at k;exact k)
 ·show aB false _ (aB false _ (aB false _ (aB false _ _)));rw [aV,aV,aV,aV];refine ⟨cs.length+1,?_⟩;rw [dT];refine yM7 h cs.length 0 (cs.length+1) (by omega) (by omega) ?_;have k:K (mI (ydi (wJ A) cs.length cs.length 0)).1 (mI (ydi (wJ A) cs.length cs.length 0)).2.1 (mI (ydi (wJ A) cs.length cs.length 0)).2.2:=k
  cases hs:ydi (wJ A) cs.length cs.length 0<;>(rw [hs] at k;exact k)
def prt (cs:List Ck) (A:List (List RS)) (i:Nat):Rat:=wV (cs.getD i default) (A.getD i [])/((totC (cs.getD i default).cuts (cs.getD i default).dens:Int):Rat)
def aO (cs:List Ck) (A:List (List RS)) (n:Nat):List Rat:=(List.range n).map (prt cs A)
theorem zM (cs:List Ck) (A:List (List RS)) (n:Nat):(aO cs A n).length=n:=by unfold aO;rw [cP,List.length_range]
theorem RH (cs:List Ck) (A:List (List RS)) (n:Nat):aO cs A (n+1)=aO cs A n++[prt cs A n]:=by unfold aO;rw [List.range_succ,List.map_append];rfl
def eB (cs:List Ck) (A:List (List RS)) (X Y:Prop):Nat→Nat→Prop
 | 0,_=>X
 | r+1,i=>if small (prt cs A i) then eB cs A X Y r (i+1) else Y
section
variable {cs:List Ck} {A:List (List RS)}
theorem DV.total (h:DV cs A) {i:Nat} (hi:i<cs.length) (K:Int→Int→Prop):bU (cs.getD i default).len (aI (cs.getD i default).cuts) (aI (cs.getD i default).dens) K=K (totC (cs.getD i default).cuts (cs.getD i default).dens) 0:=by have hok:=h.d.ok i hi;have l1:=hok.l1;have l2:=hok.l2;rw [ZT (by omega) (by omega),Sj hok.ck]
theorem DV.div (h:DV cs A) (hw:∀ c∈cs,∀ a∈A,Go.Pf.Vc.small (wV c a)) {i:Nat} (hi:i<cs.length) (K:Int→Int→Int→Prop):fJ (wV (cs.getD i default) (A.getD i [])).num (wV (cs.getD i default) (A.getD i [])).den ((totC (cs.getD i default).cuts (cs.getD i default).dens:Int):Rat).num ((totC (cs.getD i default).cuts (cs.getD i default).dens:Int):Rat).den K=fitK (prt cs A i) K:=by
 have hok:=h.d.ok i hi;have tb:=GI hok;have tp:=A9 hok;have hs:Go.Pf.Vc.small ((totC (cs.getD i default).cuts (cs.getD i default).dens:Int):Rat):=vQ (by omega);have h0:((totC (cs.getD i default).cuts (cs.getD i default).dens:Int):Rat)≠0:=fun e=>by
  have:(((totC (cs.getD i default).cuts (cs.getD i default).dens:Int):Rat))=((0:Int):Rat):=e;have:=Rat.intCast_inj.1 this;omega
 exact yJL (h.small hw hi hi) hs h0 K
theorem F3 (h:DV cs A) (hw:∀ c∈cs,∀ a∈A,small (wV c a)) (x2:List PV→List PV→List PV→List PV→Int→Int→Bool→Prop) (x3:List PV→List PV→List PV→List PV→Int→Prop) {YY:Prop} (hY:∀ L,x3 L (aD cs) (aC A) (aE cs A) 16=YY) :
  ∀ (r i n:Nat),i+r=cs.length→r<n→DQ yak bU dX fJ yam x2 x3 n (bF (aO cs A i)) (aD cs) (aC A) (aE cs A) (cs.length:Int) (i:Int)=eB cs A (x2 (bF (aO cs A cs.length)) (aD cs) (aC A) (aE cs A) (cs.length:Int) (cs.length:Int) false) YY r i
 | 0,i,n+1,hi,hn=>by
  obtain rfl:i=cs.length:=by omega
  rw [DQ,bE (by omega)];rfl
 | r+1,i,n+1,hi,hn=>by
  have h6:=h.d.n6;have hl:=h.l;have hi':i<cs.length:=by omega
  have e1:=cI (n:=(i:Int)+1) (by omega) (by omega);have ih:=F3 h hw x2 x3 hY r (i+1) n (by omega) (by omega);rw [DQ];dsimp only [lt,Go.Pf.jn];rw [bI (by omega),aJ (by omega),dT,aJ (by omega),cE,lM hi',eG,mF,tG,tH,h.total hi',aJ (by omega),lP,aJ (by omega),pW hi',gG,aJ (by omega),dU,kK,cP,aJ (by omega),mH (by rw [cP];omega),lO,nC,nD,tJ (by omega),rT,h.div hw hi'];unfold eB fitK
  by_cases hs:small (prt cs A i)
  ·rw [Sj hs,Sj hs];show aB false _ _=_;rw [aV,aJ rfl,kK,zM];simp only [iA,bW,decide_true,cH];rw [show (!decide (i+1≤i))=true by rw [Po (by omega)];rfl,cH,aJ (by unfold room;omega),show (true&&true)=true from rfl,cH,e1,cZ,Rv,Rw,← RH];exact ih
  ·rw [Sk hs,Sk hs];show aB true _ _=_;rw [aY,hY]
end
end Go.Pf.Vc
