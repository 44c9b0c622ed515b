/- Part 6. -/
import Derived.Test.YtoinjplollnohaaGreatTuW5
open Go.IntKind (i64 u8 u64)
open List (length getD take drop replicate set map isEmpty)
noncomputable section
namespace Go.Pf.Vc
open Go Go.Pf
theorem OC {q r:Rat} (hq:small q) (hr:small r) (K:Int→Int→Int→Prop):yg9 q.num q.den r.num r.den K=fitK (q*r) K:=by
 unfold yg9 VL;rw [Kb hq.i1 hq.i2 hr.i1 hr.i2,Af hq hr,sD rfl,aV];have hq':=hq;have hr':=hr;obtain ⟨a1,a2,a3⟩:=hq;obtain ⟨b1,b2,b3⟩:=hr;have dq:=q.den_pos;have dr:=r.den_pos;have g0:0<Nat.gcd q.num.natAbs r.den:=xX _ dr;have h0:0<Nat.gcd r.num.natAbs q.den:=xX _ dq;rw [Ag hq'.i1,nG (n:=r.den) (by omega),JX,Ag hr'.i1,nG (n:=q.den) (by omega),JX];simp only [Ag hq'.i1,Ag hr'.i1];have q1:q.num.natAbs/Nat.gcd q.num.natAbs r.den≤q.num.natAbs:=oG _ _;have q2:r.num.natAbs/Nat.gcd r.num.natAbs q.den≤r.num.natAbs:=oG _ _;have q3:q.den/Nat.gcd r.num.natAbs q.den≤q.den:=oG _ _;have q4:r.den/Nat.gcd q.num.natAbs r.den≤r.den:=oG _ _;have e1:iV q.num r.num q.den r.den=q.num.natAbs/Nat.gcd q.num.natAbs r.den*(r.num.natAbs/Nat.gcd r.num.natAbs q.den):=rfl;have e2:lD q.num r.num q.den r.den=q.den/Nat.gcd r.num.natAbs q.den*(r.den/Nat.gcd q.num.natAbs r.den):=rfl;have z1:q.num=0→iV q.num r.num q.den r.den=0:=fun h=>by rw [e1,h,Int.natAbs_zero,Nat.zero_div,Nat.zero_mul]
 have z2:r.num=0→iV q.num r.num q.den r.den=0:=fun h=>by rw [e1,h,Int.natAbs_zero,Nat.zero_div,Nat.mul_zero]
 have n1:∀ P:Prop,aB (!(decide (((Nat.gcd q.num.natAbs r.den:Nat):Int)=(0:Int)))) P=P:=fun P=>GB (by omega)
 have n2:∀ P:Prop,aB (!(decide (((Nat.gcd r.num.natAbs q.den:Nat):Int)=(0:Int)))) P=P:=fun P=>GB (by omega)
 have w1:=nG (n:=q.num.natAbs/Nat.gcd q.num.natAbs r.den) (by omega);have w2:=nG (n:=r.num.natAbs/Nat.gcd r.num.natAbs q.den) (by omega);have w3:=nG (n:=q.den/Nat.gcd r.num.natAbs q.den) (by omega);have w4:=nG (n:=r.den/Nat.gcd q.num.natAbs r.den) (by omega);have t1:=DJ (a:=q.num.natAbs/Nat.gcd q.num.natAbs r.den) (b:=r.num.natAbs/Nat.gcd r.num.natAbs q.den) (by omega) (by omega);have t2:=DJ (a:=q.den/Nat.gcd r.num.natAbs q.den) (b:=r.den/Nat.gcd q.num.natAbs r.den) (by omega) (by omega);have m:=fun s=>vh (s:=s) (X:=((iV q.num r.num q.den r.den:Nat):Int)) (Y:=((lD q.num r.num q.den r.den:Nat):Int)) (wO _) (wO _) K
 rw [← e1] at t1;rw [← e2] at t2;simp only [n1,n2,Ke,w1,w2,w3,w4,t1,t2,m];rw [← XV];have zs:∀ s s':Bool,iV q.num r.num q.den r.den=0→gC s (iV q.num r.num q.den r.den:Nat) (lD q.num r.num q.den r.den:Nat) K=gC s' (iV q.num r.num q.den r.den:Nat) (lD q.num r.num q.den r.den:Nat) K:=by
  intro s s' h;rw [h]
  cases s<;>cases s' <;> rfl
 by_cases hs:(decide (q.num<0) !=decide (r.num<0))=true
 ·rw [hs,aY]
  by_cases n1:q.num=0
  ·rw [sD n1,aV];exact zs _ _ (z1 n1)
  ·rw [JY n1,aY]
   by_cases n2:r.num=0
   ·exact zs _ _ (z2 n2)
   ·rw [JY n2]
 ·have hs':(decide (q.num<0) !=decide (r.num<0))=false:=by simpa using hs
  rw [hs',aV]
theorem yRj {q r:Rat} (hq:small q) (hr:small r) (h0:r≠0) (K:Int→Int→Int→Prop):CX q.num q.den r.num r.den K=fitK (q/r) K:=by
 unfold CX Wd;have hn:r.num≠0:=fun e=>h0 (BQ.1 e)
 rw [Kb hq.i1 hq.i2 hr.i1 hr.i2,Af hq hr,sD rfl,aV,JZ hn,aV];obtain ⟨e1,e2⟩:=XW h0;have m:=OC hq (hr.inv h0) K;rw [e1,e2] at m;obtain ⟨b1,b2,b3⟩:=hr;rw [Rat.div_def,← m]
 by_cases h:r.num<0
 ·rw [Os h,aY,Tu h,dP (n:=(0:Int)-r.den) ⟨by omega,by omega⟩,dP (n:=(0:Int)-r.num) ⟨by omega,by omega⟩];rw [show (0:Int)-r.den=-(r.den:Int) by omega,show (0:Int)-r.num=((r.num.natAbs:Nat):Int) by omega]
 ·rw [Pn h,aV,Zv h,show ((r.num.natAbs:Nat):Int)=r.num by omega]
theorem nH {q r:Rat} (hq:small q) (hr:small r) (K:Bool→Prop):yaw q.num q.den r.num r.den K=K (decide (q<r)):=by
 unfold yaw VO;have hq':=hq;have hr':=hr;obtain ⟨a1,a2,a3⟩:=hq;obtain ⟨b1,b2,b3⟩:=hr;have dq:=q.den_pos;have dr:=r.den_pos;have e:decide (q<r)=decide (q.num*r.den<r.num*q.den):=by rw [Aab];exact Rat.lt_iff q r
 rw [e]
 by_cases hs:(decide (q.num<0) !=decide (r.num<0))=true
 ·rw [hs,aY]
  by_cases h1:q.num<0
  ·have h2:¬r.num<0:=by simpa [h1] using hs
   have p1:q.num*r.den<0:=Eb h1 (by omega);have p2:0≤r.num*q.den:=lZ (by omega) (by omega);rw [Os h1,Os (by omega)]
  ·have h2:r.num<0:=by simpa [h1] using hs
   have p1:r.num*q.den<0:=Eb h2 (by omega);have p2:0≤q.num*r.den:=lZ (by omega) (by omega);rw [Pn h1,Pn (by omega)]
 ·have hs':(decide (q.num<0) !=decide (r.num<0))=false:=by simpa using hs
  rw [hs',aV,Ag hq'.i1,nG (by omega),DJ (by omega) (by omega),Ag hr'.i1,nG (by omega),DJ (by omega) (by omega),OA (wO _) (wO _),OA (wO _) (wO _),yB,yB]
  by_cases h1:q.num<0
  ·have h2:r.num<0:=by simpa [h1] using hs'
   rw [Os h1,aY,show ((q.num.natAbs:Nat):Int)=-q.num by omega,show ((r.num.natAbs:Nat):Int)=-r.num by omega,AD,AD];congr 1;rw [Aab];omega
  ·have h2:¬r.num<0:=by simpa [h1] using hs'
   rw [Pn h1,aV,show ((q.num.natAbs:Nat):Int)=q.num by omega,show ((r.num.natAbs:Nat):Int)=r.num by omega]
theorem GC (n:Int) (K:Int→Int→Prop):cM n K=K (n:Rat).num (n:Rat).den:=rfl
theorem aO {c:Prop} [Decidable c] {P Q:Prop} (h:c):aA (decide c) P Q=P:=by rw [Os h,aY]
theorem aP {c:Prop} [Decidable c] {P Q:Prop} (h:¬c):aA (decide c) P Q=Q:=by rw [Pn h,aV]
theorem dB {a b:Int} {P Q:Prop} (h:a≠b):aA (a !=b) P Q=P:=by rw [JY h,aY]
theorem cS {a b:Int} {P Q:Prop} (h:a=b):aA (a !=b) P Q=Q:=by rw [sD h,aV]
theorem nZ {a b:Int} {P Q:Prop} (h:a=b):aA (a==b) P Q=P:=by rw [Ya h,aY]
theorem oA {a b:Int} {P Q:Prop} (h:a≠b):aA (a==b) P Q=Q:=by rw [JZ h,aV]
theorem aI {c:Prop} [Decidable c] {P:Prop} (h:c):aB (decide c) P=P:=by rw [Os h,dI]
theorem jO {l:List Int} {i:Nat} {P:Prop} (h:i<l.length):aB (aE zI (getD (aR l) i .nils)) P=P:=by rw [DF h,dI]
theorem eF {n:Int} (h1:-9223372036854775808≤n) (h2:n≤9223372036854775807):i64.wrap n=n:=dP ⟨h1,h2⟩
theorem hO (i:Nat):(i:Int)+1=((i+1:Nat):Int):=by omega
theorem OD {x:Int} (h:-1000000000000000000≤x∧x≤1000000000000000000):small (x:Rat):=by unfold small;rw [Rat.num_intCast,Rat.den_intCast];omega
def DL (dens:List Int):Prop:=∀ d∈dens,0≤d∧d≤12
def DM (dens:List Int):Prop:=∃ d∈dens,0<d
instance (l:List Int):Decidable (DL l):=by unfold DL;infer_instance
instance (l:List Int):Decidable (DM l):=by unfold DM;infer_instance
def VC (len:Int) (cuts dens:List Int):Prop:=
 1≤len∧len≤1000∧2≤cuts.length∧cuts.length≤40∧dens.length+1=cuts.length∧cuts.getD 0 0=0∧cuts.getD (cuts.length-1) 0=len∧wC cuts 0∧DL dens∧DM dens
theorem yPQ (l:List Int):wC l 0↔∀ j,j<l.length→j+1<l.length→l.getD j 0<l.getD (j+1) 0:=⟨fun h j _ h2=>h j (by omega) h2,fun h j _ h2=>h j (by omega) h2⟩
instance (l:List Int):Decidable (wC l 0):=decidable_of_iff _ (yPQ l).symm
instance (len:Int) (cuts dens:List Int):Decidable (VC len cuts dens):=by unfold VC;infer_instance
def jC (len:Int) (cuts dens:List Int):Int:=if len>1000∨cuts.length>40 then 4 else if VC len cuts dens then 0 else 8
theorem vk (l:List Int) (x:Int):(l.foldl JU x<0)↔¬(∀ d∈x::l,0≤d):=by
 induction l generalizing x with
 | nil=>simp
 | cons y t ih=>
  rw [List.foldl_cons,ih];unfold JU;simp only [List.forall_mem_cons];split
  ·constructor
   ·intro h h2;exact h ⟨h2.2.1,h2.2.2⟩
   ·intro h h2;exact h ⟨by omega,h2.1,h2.2⟩
  ·constructor
   ·intro h h2;exact h ⟨h2.1,h2.2.2⟩
   ·intro h h2;exact h ⟨h2.1,by omega,h2.2⟩
theorem Kf (l:List Int) (x k:Int):(l.foldl Ae x>k)↔¬(∀ d∈x::l,d≤k):=by
 induction l generalizing x with
 | nil=>simp
 | cons y t ih=>
  rw [List.foldl_cons,ih];unfold Ae;simp only [List.forall_mem_cons];split
  ·constructor
   ·intro h h2;exact h ⟨h2.2.1,h2.2.2⟩
   ·intro h h2;exact h ⟨by omega,h2.1,h2.2⟩
  ·constructor
   ·intro h h2;exact h ⟨h2.1,h2.2.2⟩
   ·intro h h2;exact h ⟨h2.1,by omega,h2.2⟩
theorem Kg {len:Int} {cuts dens:List Int} (h1:cuts.length<4611686018427387904) (h2:dens.length<4611686018427387904) (K:Int→Prop) :
  kA len (aR cuts) (aR dens) K=K (jC len cuts dens):=by
 refine yDN _ _ _ _ (fun K k=>?_) K;unfold kA UI;simp only [fB];have bad:¬(len>1000∨cuts.length>40)→¬VC len cuts dens→K 8:=fun h h2=>by
  rw [jC,Zv h,Zv h2] at k;exact k
 by_cases a1:len>1000
 ·rw [aO a1];rw [jC,Tu (.inl a1)] at k;exact k
 rw [aP a1]
 by_cases a2:cuts.length>40
 ·rw [aO (by omega)];rw [jC,Tu (.inr a2)] at k;exact k
 have a12:¬(len>1000∨cuts.length>40):=by omega
 rw [aP (by omega)]
 by_cases a3:len<1
 ·rw [aO a3];exact bad a12 (fun h=>by have:=h.1;omega)
 rw [aP a3]
 by_cases a4:cuts.length<2
 ·rw [aO (by omega)];exact bad a12 (fun h=>by have:=h.2.2.1;omega)
 rw [aP (by omega),eF (n:=(cuts.length:Int)-1) (by omega) (by omega)]
 by_cases a5:dens.length+1=cuts.length
 case neg=>rw [dB (by omega)];exact bad a12 (fun h=>a5 h.2.2.2.2.1)
 rw [cS (by omega),aI (by omega),jO (by omega),jB (by omega)]
 by_cases a6:cuts.getD 0 0=0
 case neg=>rw [dB a6];exact bad a12 (fun h=>a6 h.2.2.2.2.2.1)
 rw [cS a6,aI (by omega),aI (by omega),jO (by omega),jB (by omega)];have en:((cuts.length:Int)-1).toNat=cuts.length-1:=by omega
 rw [en]
 by_cases a7:cuts.getD (cuts.length-1) 0=len
 case neg=>rw [dB a7];exact bad a12 (fun h=>a7 h.2.2.2.2.2.2.1)
 rw [cS a7];refine ⟨cuts.length+1,?_⟩;refine yMa (by omega) _ _ _ _ (cuts.length-1) 0 _ (by omega) (by omega) (fun hi=>?_) (fun hi=>bad a12 (fun h=>hi h.2.2.2.2.2.2.2.1));obtain ⟨x,t,e⟩:∃ x t,dens=x::t:=by
  cases dens with
  | nil=>exfalso;have:([]:List Int).length=0:=rfl;omega
  | cons x t=>exact ⟨x,t,rfl⟩
 refine ySk (by omega) e ?_
 by_cases b1:t.foldl JU x<0
 ·rw [aO b1];rw [vk] at b1;exact bad a12 (fun h=>b1 fun d hd=>(h.2.2.2.2.2.2.2.2.1 d (by rw [e];exact hd)).1)
 rw [aP b1];refine um (by omega) e ?_
 by_cases b2:t.foldl Ae x>12
 ·rw [aO b2];rw [Kf] at b2;exact bad a12 (fun h=>b2 fun d hd=>(h.2.2.2.2.2.2.2.2.1 d (by rw [e];exact hd)).2)
 rw [aP b2];refine um (by omega) e ?_;have c1:∀ d∈dens,0≤d:=by rw [vk,Classical.not_not,← e] at b1;exact b1
 have c2:∀ d∈dens,d≤12:=by rw [Kf,Classical.not_not,← e] at b2;exact b2
 by_cases b3:t.foldl Ae x=0
 ·rw [nZ b3];refine bad a12 (fun h=>?_);obtain ⟨d,hd,h0⟩:=h.2.2.2.2.2.2.2.2.2;have:¬(t.foldl Ae x>0):=by omega
  rw [Kf,Classical.not_not,← e] at this;have:=this d hd;omega
 ·rw [oA b3];have b4:t.foldl Ae x>0:=by
   refine Int.not_le.1 fun hle=>b3 ?_
   have:t.foldl Ae x>-1:=by rw [Kf];intro h;have h1:=h x (dS ..);have h2:=c1 x (by rw [e];exact dS ..);omega
   omega
  rw [Kf,← e] at b4;have b5:DM dens:=by
   refine Classical.byContradiction fun hn=>b4 fun d hd=>?_
   exact Int.not_lt.1 fun hlt=>hn ⟨d,hd,hlt⟩
  rw [jC,Zv a12,Tu ⟨by omega,by omega,by omega,by omega,a5,a6,a7,hi,fun d hd=>⟨c1 d hd,c2 d hd⟩,b5⟩] at k;exact k
theorem Ah (n:Int) (K:Int→Int→Prop):tR n K=K (n:Rat).num (n:Rat).den:=rfl
theorem wD {q r:Rat} (hq:small q) (hr:small r) (K:Bool→Prop):rV q.num q.den r.num r.den K=K (decide (q<r)):=by
 unfold rV UN;rw [XZ hq hr];congr 1;rw [Aab,gD]
 by_cases h:q<r
 ·simp [h]
 ·by_cases h2:r<q<;>simp [h,h2]
def PT (len:Int) (n d:Int):Prop:=RV n d∧0≤n∧n≤len*d
instance (len n d:Int):Decidable (PT len n d):=by unfold PT;infer_instance
theorem ySn {len n d:Int} (h:PT len n d):∃ q:Rat,small q∧q.num=n∧(q.den:Int)=d∧0≤q∧q≤(len:Rat):=by
 obtain ⟨h1,h2,h3⟩:=h;obtain ⟨q,e1,e2,e3⟩:=Oy h1;refine ⟨q,e1,e2,e3,?_,?_⟩
 ·rw [← Rat.num_nonneg,e2];exact h2
 ·rw [Rat.le_iff,e2,e3,Rat.num_intCast,Rat.den_intCast];simpa using h3
theorem vl (x:Int) (q:Rat):((x:Rat)<q)↔x*(q.den:Int)<q.num:=by rw [Rat.lt_iff,Rat.num_intCast,Rat.den_intCast];simp
theorem Ye {len:Int} (hl:-1000000000000000000≤len∧len≤1000000000000000000) {n d:Int} (hn:bE n) (hd:bE d) (a b:List PV) (K:Bool→Prop) :
  tT len a b n d K=K (decide (PT len n d)):=by
 unfold tT UO;rw [uw hn hd]
 by_cases h:RV n d
 ·obtain ⟨q,e1,e2,e3⟩:=Oy h;rw [kP,Tu h,nZ rfl]
  by_cases h0:n≥0
  ·rw [aO h0,Ah,← e2,← e3,wD (OD hl) e1];congr 1;have:((len:Rat)<q)↔len*(q.den:Int)<q.num:=vl _ _
   by_cases h3:(len:Rat)<q
   ·have h4:=this.1 h3;rw [Os h3,Pn];rfl;intro hp;have:=hp.2.2;omega
   ·have h4:¬_:=fun x=>h3 (this.2 x)
    rw [Pn h3,Os];rfl;exact ⟨e1.rv,by omega,by omega⟩
  ·rw [aP h0,Pn];intro hp;have:=hp.2.1;omega
 ·rw [kP,Zv h,oA (by decide),Pn];intro hp;exact h hp.1
section
variable {len:Int} {cuts dens:List Int}
theorem VC.step (h:VC len cuts dens) {i:Nat} (hi:i+1<cuts.length):cuts.getD i 0<cuts.getD (i+1) 0:=h.2.2.2.2.2.2.2.1 i (jV _) hi
theorem VC.mono (h:VC len cuts dens) {i:Nat}:∀ {j:Nat},i≤j→j<cuts.length→cuts.getD i 0≤cuts.getD j 0
 | 0,hij,_=>by
  have:i=0:=by omega
  subst this;exact Int.le_refl _
 | j+1,hij,hj=>by
  by_cases e:i=j+1
  ·subst e;exact Int.le_refl _
  ·have h1:=h.mono (i:=i) (j:=j) (by omega) (by omega);have h2:=h.step (i:=j) hj;omega
theorem VC.lo (h:VC len cuts dens) {i:Nat} (hi:i<cuts.length):0≤cuts.getD i 0:=by have:=h.mono (jV i) hi;rw [h.2.2.2.2.2.1] at this;exact this
theorem VC.hi (h:VC len cuts dens) {i:Nat} (hi:i<cuts.length):cuts.getD i 0≤len:=by have:=h.mono (i:=i) (j:=cuts.length-1) (by omega) (by omega);rw [h.2.2.2.2.2.2.1] at this;exact this
theorem VC.den (h:VC len cuts dens) {i:Nat} (hi:i<dens.length):0≤dens.getD i 0∧dens.getD i 0≤12:=by rw [dK,dL hi];exact h.2.2.2.2.2.2.2.2.1 _ (wP hi)
theorem VC.l1 (h:VC len cuts dens):dens.length+1=cuts.length:=h.2.2.2.2.1
theorem VC.l2 (h:VC len cuts dens):cuts.length≤40:=h.2.2.2.1
theorem VC.len0 (h:VC len cuts dens):1≤len∧len≤1000:=⟨h.1,h.2.1⟩
theorem VC.sc (h:VC len cuts dens) {i:Nat} (hi:i<cuts.length):small ((cuts.getD i 0:Int):Rat):=OD (by have:=h.lo hi;have:=h.hi hi;have:=h.len0;omega)
theorem VC.sd (h:VC len cuts dens) {i:Nat} (hi:i<dens.length):small ((dens.getD i 0:Int):Rat):=OD (by have:=h.den hi;omega)
theorem GD (h:jC len cuts dens=0):VC len cuts dens:=by
 unfold jC at h;split at h
 ·omega
 ·split at h
  ·assumption
  ·omega
theorem VC.ck (h:VC len cuts dens):jC len cuts dens=0:=by rw [jC,Zv (by have:=h.l2;have:=h.len0;omega),Tu h]
def jJ (cuts dens:List Int):Nat→Nat→Int→Int
 | 0,_,s=>s
 | r+1,i,s=>jJ cuts dens r (i+1) (s+dens.getD i 0*(cuts.getD (i+1) 0-cuts.getD i 0))
def totC (cuts dens:List Int):Int:=jJ cuts dens dens.length 0 0
theorem Kh {d x:Int} (h:0≤d∧d≤12) (hx:0≤x):0≤d*x∧d*x≤12*x:=⟨lZ h.1 hx,BJ h.2 hx⟩
theorem vm (h:VC len cuts dens):∀ (r i:Nat) (s:Int),i+r=dens.length→0≤s→s≤12*cuts.getD i 0→0≤jJ cuts dens r i s∧jJ cuts dens r i s≤12*len
 | 0,i,s,hi,h0,h1=>by have:=h.l1;have:=h.hi (i:=i) (by omega);unfold jJ;omega
 | r+1,i,s,hi,h0,h1=>by unfold jJ;have l1:=h.l1;have h2:=h.step (i:=i) (by omega);have h3:=Kh (h.den (i:=i) (by omega)) (x:=cuts.getD (i+1) 0-cuts.getD i 0) (by omega);exact vm h r (i+1) _ (by omega) (by omega) (by omega)
theorem vo (h:VC len cuts dens):0≤totC cuts dens∧totC cuts dens≤12000:=by have l1:=h.l1;have h0:=h.lo (i:=0) (by omega);have:=vm h dens.length 0 0 (by omega) (by omega) (by omega);have h2:=h.len0;unfold totC;omega
theorem vt (h:VC len cuts dens) (W:Int→List PV→List PV→(Int→Prop)→Prop) (x0:Int→List PV→List PV→Int→List PV→Int→Int→Bool→Prop) :
  ∀ (r i n:Nat) (s:Int),i+r=dens.length→r<n→0≤s→s≤12*cuts.getD i 0 →
   FH W x0 n len (aR cuts) (aR dens) s (aR dens) dens.length i=x0 len (aR cuts) (aR dens) (jJ cuts dens r i s) (aR dens) dens.length dens.length false
 | 0,i,n+1,s,hi,hn,h0,h1=>by
  unfold FH jJ;rw [aP (by omega)];have:(i:Int)=dens.length:=by omega
  rw [this]
 | r+1,i,n+1,s,hi,hn,h0,h1=>by unfold FH;have l1:=h.l1;have l2:=h.l2;have h2:=h.step (i:=i) (by omega);have h3:=Kh (h.den (i:=i) (by omega)) (x:=cuts.getD (i+1) 0-cuts.getD i 0) (by omega);have a1:=h.lo (i:=i) (by omega);have a2:=h.hi (i:=i+1) (by omega);have a3:=h.len0;have e1:=eF (n:=(i:Int)+1) (by omega) (by omega);have e2:=eF (n:=cuts.getD (i+1) 0-cuts.getD i 0) (by omega) (by omega);have e3:=eF (n:=dens.getD i 0*(cuts.getD (i+1) 0-cuts.getD i 0)) (by omega) (by omega);have e4:=eF (n:=s+dens.getD i 0*(cuts.getD (i+1) 0-cuts.getD i 0)) (by omega) (by omega);rw [aO (by omega),fB,fB,e1,hO,cP,cP,aI (by omega),aI (by omega),jO (by omega),aI (by omega),aI (by omega),jO (by omega),aI (by omega),aI (by omega),jO (by omega),jB (by omega),jB (by omega),jB (by omega),e2,e3,e4];exact vt h W x0 r (i+1) n _ (by omega) (by omega) (by omega) (by omega)
theorem yOr (h1:cuts.length<4611686018427387904) (h2:dens.length<4611686018427387904) (K:Int→Int→Prop) :
  CN len (aR cuts) (aR dens) K=if jC len cuts dens=0 then K (totC cuts dens) 0 else K 0 (jC len cuts dens):=by
 by_cases h:jC len cuts dens=0
 ·rw [Tu h];refine yDO _ _ _ _ _ (fun K k=>?_) K;unfold CN Np;have hv:=GD h;rw [Kg h1 h2,h,cS rfl];refine ⟨dens.length+1,?_⟩;have l1:=hv.l1;have a1:=hv.lo (i:=0) (by omega);rw [fB];have:=vt hv kA (fun b c d a e f g j=>(K a (0:Int))) dens.length 0 (dens.length+1) 0 (by omega) (by omega) (by omega) (by omega);rw [show ((0:Nat):Int)=0 from rfl] at this;rw [this];exact k
 ·rw [Zv h];unfold CN Np;rw [Kg h1 h2,dB h]
def exK (e:Except Int Rat) (K:Int→Int→Int→Prop):Prop:=match e with | .ok q=>K q.num q.den 0 | .error c=>K 0 0 c
def fO {α:Type} (q:Rat) (k:Rat→Except Int α):Except Int α:=if small q then k q else .error 16
def valS (cuts dens:List Int) (b:Rat):Nat→Nat→Rat→Rat→Except Int Rat
 | 0,_,_,sum=>.ok sum
 | r+1,i,p,sum=>
  let en:Rat:=if b<(cuts.getD (i+1) 0:Int) then b else (cuts.getD (i+1) 0:Int)
  if dens.getD i 0=0∨¬p<en then valS cuts dens b r (i+1) (if p<en then en else p) sum
  else fO (en-p) fun l=>fO (l*(dens.getD i 0:Int)) fun w=>fO (sum+w) fun s=>valS cuts dens b r (i+1) en s
def Ai (cuts dens:List Int) (a b:Rat):Except Int Rat:=valS cuts dens b dens.length 0 a 0
theorem jP {q:Rat} {K:Int→Int→Int→Prop}:fitK q K=if small q then K q.num q.den 0 else K 0 0 16:=rfl
theorem vv (h:VC len cuts dens) {b:Rat} (hb:small b) (an ad:Int) (W1:Int→List PV→List PV→(Int→Prop)→Prop) (W2:Int→List PV→List PV→Int→Int→(Bool→Prop)→Prop) (K:Int→Int→Int→Prop) :
  ∀ (r i n:Nat) (p sum:Rat),i+r=dens.length→r<n→small p→small sum →
   pV W1 W2 rV tR yaX ybF oS (fun a d e=>(K a d e)) (fun _ _ _ _ _ _ _ f g _ _ _ _ _ _=>(K f g (0:Int)))
    n len (aR cuts) (aR dens) b.num b.den an ad sum.num sum.den p.num p.den (aR dens) dens.length i=exK (valS cuts dens b r i p sum) K
 | 0,i,n+1,p,sum,hi,hn,hp,hs=>by unfold pV valS;rw [aP (by omega)];rfl
 | r+1,i,n+1,p,sum,hi,hn,hp,hs=>by
  unfold pV;have l1:=h.l1;have l2:=h.l2;have sc:=h.sc (i:=i+1) (by omega);have sd:=h.sd (i:=i) (by omega);have e1:=eF (n:=(i:Int)+1) (by omega) (by omega);rw [aO (by omega),fB,fB,e1,hO,cP,cP,aI (by omega),aI (by omega),jO (by omega),aI (by omega),aI (by omega),jO (by omega),jB (by omega),jB (by omega),Ah,wD hb sc];have ih:=fun p sum hp hs=>vv h hb an ad W1 W2 K r (i+1) n p sum (by omega) (by omega) hp hs
  unfold valS
  by_cases hbc:b<((cuts.getD (i+1) 0:Int):Rat)
  ·rw [aO hbc];simp only [Tu hbc]
   by_cases hd:dens.getD i 0=0
   ·rw [nZ hd,Tu (.inl hd),wD hp hb]
    by_cases hpb:p<b
    ·rw [aO hpb,Tu hpb];exact ih b sum hb hs
    ·rw [aP hpb,Zv hpb];exact ih p sum hp hs
   ·rw [oA hd,wD hp hb]
    by_cases hpb:p<b
    ·have hc:¬(dens.getD i 0=0∨¬p<b):=by simp [hpb];exact hd
     rw [Zv hc,Os hpb,jF,aV,DH hb hp,jP]
     by_cases s1:small (b-p)
     ·rw [Tu s1,cS rfl,Ah,JW s1 sd,jP,fO,Tu s1]
      by_cases s2:small ((b-p)*(dens.getD i 0:Int))
      ·rw [Tu s2,cS rfl,XY hs s2,jP,fO,Tu s2]
       by_cases s3:small (sum+(b-p)*(dens.getD i 0:Int))
       ·rw [Tu s3,cS rfl,fO,Tu s3];exact ih b _ hb s3
       ·rw [Zv s3,dB (by decide),fO,Zv s3];rfl
      ·rw [Zv s2,dB (by decide),fO,Zv s2];rfl
     ·rw [Zv s1,dB (by decide),fO,Zv s1];rfl
    ·rw [Tu (.inr hpb),Pn hpb,jT,aY,wD hp hb,aP hpb,Zv hpb];exact ih p sum hp hs
  ·rw [aP hbc];simp only [Zv hbc];obtain ⟨c,hc⟩:∃ c:Rat,c=((cuts.getD (i+1) 0:Int):Rat):=⟨_,rfl⟩;rw [← hc] at sc ⊢
   by_cases hd:dens.getD i 0=0
   ·rw [nZ hd,Tu (.inl hd),wD hp sc]
    by_cases hpb:p<c
    ·rw [aO hpb,Tu hpb];exact ih c sum sc hs
    ·rw [aP hpb,Zv hpb];exact ih p sum hp hs
   ·rw [oA hd,wD hp sc]
    by_cases hpb:p<c
    ·have hcc:¬(dens.getD i 0=0∨¬p<c):=by simp [hpb];exact hd
     rw [Zv hcc,Os hpb,jF,aV,DH sc hp,jP]
     by_cases s1:small (c-p)
     ·rw [Tu s1,cS rfl,Ah,JW s1 sd,jP,fO,Tu s1]
      by_cases s2:small ((c-p)*(dens.getD i 0:Int))
      ·rw [Tu s2,cS rfl,XY hs s2,jP,fO,Tu s2]
       by_cases s3:small (sum+(c-p)*(dens.getD i 0:Int))
       ·rw [Tu s3,cS rfl,fO,Tu s3];exact ih c _ sc s3
       ·rw [Zv s3,dB (by decide),fO,Zv s3];rfl
      ·rw [Zv s2,dB (by decide),fO,Zv s2];rfl
     ·rw [Zv s1,dB (by decide),fO,Zv s1];rfl
    ·rw [Tu (.inr hpb),Pn hpb,jT,aY,wD hp sc,aP hpb,Zv hpb];exact ih p sum hp hs
end
def rt (n d:Int):Rat:=mkRat n d.toNat
theorem uA (q:Rat):rt q.num q.den=q:=by unfold rt;rw [cP,Rat.mkRat_self]
theorem oZ {n d:Int} (h:RV n d):small (rt n d)∧(rt n d).num=n∧((rt n d).den:Int)=d:=by obtain ⟨q,h1,h2,h3⟩:=Oy h;subst h2 h3;rw [uA];exact ⟨h1,rfl,rfl⟩
theorem PT.pt {len n d:Int} (h:PT len n d):small (rt n d)∧(rt n d).num=n∧((rt n d).den:Int)=d∧0≤rt n d∧rt n d≤(len:Rat):=by obtain ⟨q,h1,h2,h3,h4,h5⟩:=ySn h;subst h2 h3;rw [uA];exact ⟨h1,rfl,rfl,h4,h5⟩
theorem Yf {len:Int} {q:Rat} (h:small q) (h0:0≤q) (h1:q≤(len:Rat)):PT len q.num q.den:=by refine ⟨h.rv,Rat.num_nonneg.2 h0,?_⟩;rw [Rat.le_iff,Rat.num_intCast,Rat.den_intCast] at h1;simpa using h1
section
variable {len:Int} {cuts dens:List Int}
def kC (len:Int) (cuts dens:List Int) (an ad bn bd:Int):Except Int Rat:=
 if jC len cuts dens=0 then (if PT len an ad∧PT len bn bd∧¬rt bn bd<rt an ad then Ai cuts dens (rt an ad) (rt bn bd) else .error 2) else .error (jC len cuts dens)
theorem OE {w:(Int→Int→Int→Prop)→Prop} {e:Except Int Rat} (det:∀ r0 r1 r2,(∀ K:Int→Int→Int→Prop,K r0 r1 r2→w K)→∀ K,w K=K r0 r1 r2) (h:∀ K,exK e K→w K) (K:Int→Int→Int→Prop):w K=exK e K:=by
 cases e with
 | ok q=>exact det _ _ _ h K
 | error c=>exact det _ _ _ h K
theorem yOs (h1:cuts.length<4611686018427387904) (h2:dens.length<4611686018427387904) {an ad bn bd:Int} (ha:bE an) (ha':bE ad) (hb:bE bn) (hb':bE bd) (K:Int→Int→Int→Prop) :
  FJ len (aR cuts) (aR dens) an ad bn bd K=exK (kC len cuts dens an ad bn bd) K:=by
 refine OE (fun r0 r1 r2 h K=>yDP _ _ _ _ _ _ _ r0 r1 r2 h K) (fun K k=>?_) K;unfold FJ UT;rw [Kg h1 h2];unfold kC at k
 by_cases h:jC len cuts dens=0
 case neg=>rw [dB h];rw [Zv h] at k;exact k
 have hv:=GD h;have hl:=hv.len0;rw [Tu h] at k;rw [cS h,Ye (by omega) ha ha']
 by_cases p1:PT len an ad
 case neg=>rw [Pn p1,jT,aY];rw [Zv (fun x=>p1 x.1)] at k;exact k
 rw [Os p1,jF,aV,Ye (by omega) hb hb']
 by_cases p2:PT len bn bd
 case neg=>rw [Pn p2,jT,aY];rw [Zv (fun x=>p2 x.2.1)] at k;exact k
 rw [Os p2,jF,aV];obtain ⟨s1,e1,e2,_,_⟩:=p1.pt;obtain ⟨s2,f1,f2,_,_⟩:=p2.pt;have hless:=wD s2 s1;rw [e1,e2,f1,f2] at hless;rw [hless]
 by_cases p3:rt bn bd<rt an ad
 ·rw [aO p3];rw [Zv (fun x=>x.2.2 p3)] at k;exact k
 rw [aP p3];rw [Tu ⟨p1,p2,p3⟩] at k;rw [Ah,fB];refine ⟨dens.length+1,?_⟩;have:=vv hv s2 0 0 kA tT K dens.length 0 (dens.length+1) (rt an ad) 0 (by omega) (by omega) s1 (by decide);rw [e1,e2,f1,f2] at this;exact this.mpr k
def mrkS (cuts dens:List Int):Nat→Nat→Rat→Rat→Except Int Rat
 | 0,_,_,_=>.error 6
 | r+1,i,p,v=>
  if ¬p<(cuts.getD (i+1) 0:Int) then mrkS cuts dens r (i+1) p v
  else if dens.getD i 0=0 then mrkS cuts dens r (i+1) (cuts.getD (i+1) 0:Int) v
  else fO ((cuts.getD (i+1) 0:Int)-p) fun l=>fO (l*(dens.getD i 0:Int)) fun w=>
   if w<v then fO (v-w) fun v'=>mrkS cuts dens r (i+1) (cuts.getD (i+1) 0:Int) v'
   else fO (v/(dens.getD i 0:Int)) fun s=>fO (p+s) .ok
def mrkC (cuts dens:List Int) (a v:Rat):Except Int Rat:=if v=0 then .ok a else mrkS cuts dens dens.length 0 a v
def jK (len:Int) (cuts dens:List Int) (an ad vn vd:Int):Except Int Rat:=
 if jC len cuts dens=0 then (if PT len an ad∧RV vn vd∧0≤vn then mrkC cuts dens (rt an ad) (rt vn vd) else .error 2) else .error (jC len cuts dens)
theorem vw (h:VC len cuts dens) (W1:Int→List PV→List PV→(Int→Prop)→Prop) (W2:Int→List PV→List PV→Int→Int→(Bool→Prop)→Prop) (W3:Int→Int→(Int→Prop)→Prop) (K:Int→Int→Int→Prop) :
  ∀ (r i n:Nat) (p v:Rat) (o1 o2:Int),i+r=dens.length→r<n→small p→small v →
   tU W1 W2 W3 tR rV yaX ybF vK oS
    (fun _ _ b d f a=>(aA (a !=(0:Int)) (aA (a !=(0:Int)) (K (0:Int) (0:Int) a) (K b d (0:Int))) (aA (f !=(0:Int)) (K (0:Int) (0:Int) f) (K b d (0:Int)))))
    (fun _ _ j k g _ _ _ _ _ _ _ _ _=>(aA (g !=(0:Int)) (K (0:Int) (0:Int) g) (K j k (0:Int))))
    n v.num v.den o1 o2 6 len (aR cuts) (aR dens) p.num p.den (aR dens) dens.length i=exK (mrkS cuts dens r i p v) K
 | 0,i,n+1,p,v,o1,o2,hi,hn,hp,hs=>by unfold tU mrkS;rw [aP (by omega)];rfl
 | r+1,i,n+1,p,v,o1,o2,hi,hn,hp,hs=>by
  unfold tU;have l1:=h.l1;have l2:=h.l2;have sc:=h.sc (i:=i+1) (by omega);have sd:=h.sd (i:=i) (by omega);have hd0:=h.den (i:=i) (by omega);have e1:=eF (n:=(i:Int)+1) (by omega) (by omega);rw [aO (by omega),fB,fB,e1,hO,cP,cP,aI (by omega),aI (by omega),jO (by omega),aI (by omega),aI (by omega),jO (by omega),jB (by omega),jB (by omega),Ah,wD hp sc];have ih:=fun p v o1 o2 hp hs=>vw h W1 W2 W3 K r (i+1) n p v o1 o2 (by omega) (by omega) hp hs
  unfold mrkS;obtain ⟨c,hc⟩:∃ c:Rat,c=((cuts.getD (i+1) 0:Int):Rat):=⟨_,rfl⟩;rw [← hc] at sc ⊢
  by_cases hpc:p<c
  case neg=>rw [Pn hpc,jT,aY,Tu hpc];exact ih p v o1 o2 hp hs
  rw [Os hpc,jF,aV,Zv (fun x=>x hpc),Ah]
  by_cases hd:dens.getD i 0=0
  ·rw [aP (by omega),nZ hd,Tu hd];exact ih c v o1 o2 sc hs
  rw [aO (by omega),Zv hd,DH sc hp,jP]
  by_cases s1:small (c-p)
  case neg=>rw [Zv s1,dB (by decide),dB (by decide),dB (by decide),fO,Zv s1];rfl
  rw [Tu s1,cS rfl,Ah,JW s1 sd,jP,fO,Tu s1]
  by_cases s2:small ((c-p)*(dens.getD i 0:Int))
  case neg=>rw [Zv s2,dB (by decide),dB (by decide),dB (by decide),fO,Zv s2];rfl
  rw [Tu s2,cS rfl,oA hd,wD s2 hs,fO,Tu s2]
  by_cases hw:(c-p)*(dens.getD i 0:Int)<v
  ·rw [aO hw,Tu hw,DH hs s2,jP,fO]
   by_cases s3:small (v-(c-p)*(dens.getD i 0:Int))
   ·rw [Tu s3,Tu s3,cS rfl,cS rfl];exact ih c _ o1 o2 sc s3
   ·rw [Zv s3,Zv s3,dB (by decide),dB (by decide),cS rfl,dB (by decide)];rfl
  ·have hdn:((dens.getD i 0:Int):Rat)≠0:=fun e=>hd (Rat.intCast_eq_zero_iff.1 e)
   rw [aP hw,Zv hw,Ah,yRe hs sd hdn,jP,fO]
   by_cases s3:small (v/(dens.getD i 0:Int))
   ·rw [Tu s3,Tu s3,nZ rfl,XY hp s3,jP,fO]
    by_cases s4:small (p+v/(dens.getD i 0:Int))
    ·rw [Tu s4,Tu s4,cS rfl,cS rfl];rfl
    ·rw [Zv s4,Zv s4,cS rfl,dB (by decide)];rfl
   ·rw [Zv s3,Zv s3,oA (by decide),cS rfl,dB (by decide)];rfl
theorem yPS (h1:cuts.length<4611686018427387904) (h2:dens.length<4611686018427387904) {an ad vn vd:Int} (ha:bE an) (ha':bE ad) (hv:bE vn) (hv':bE vd) (K:Int→Int→Int→Prop) :
  FI len (aR cuts) (aR dens) an ad vn vd K=exK (jK len cuts dens an ad vn vd) K:=by
 refine OE (fun r0 r1 r2 h K=>yFe _ _ _ _ _ _ _ r0 r1 r2 h K) (fun K k=>?_) K;unfold FI UQ;rw [Kg h1 h2];unfold jK at k
 by_cases h:jC len cuts dens=0
 case neg=>rw [dB h];rw [Zv h] at k;exact k
 have hc:=GD h;have hl:=hc.len0;rw [Tu h] at k;rw [cS h,Ye (by omega) ha ha']
 by_cases p1:PT len an ad
 case neg=>rw [Pn p1,jT,aY];rw [Zv (fun x=>p1 x.1)] at k;exact k
 rw [Os p1,jF,aV,uw hv hv',kP]
 by_cases p2:RV vn vd
 case neg=>rw [Zv p2,dB (by decide)];rw [Zv (fun x=>p2 x.2.1)] at k;exact k
 rw [Tu p2,cS rfl]
 by_cases p3:vn<0
 ·rw [aO p3];rw [Zv (fun x=>by omega)] at k;exact k
 rw [aP p3];rw [Tu ⟨p1,p2,by omega⟩] at k;obtain ⟨s1,e1,e2,_,_⟩:=p1.pt;obtain ⟨s2,f1,f2⟩:=oZ p2;unfold mrkC at k
 by_cases p4:vn=0
 ·rw [nZ p4];rw [Tu (BQ.1 (f1.trans p4))] at k;have k:K (rt an ad).num (rt an ad).den 0:=k;rw [e1,e2] at k;exact k
 rw [oA p4];rw [Zv (fun x=>p4 (by rw [← f1,x];rfl))] at k;rw [fB];refine ⟨dens.length+1,?_⟩;have:=vw hc kA tT rT K dens.length 0 (dens.length+1) (rt an ad) (rt vn vd) 0 0 (by omega) (by omega) s1 s2;rw [e1,e2,f1,f2] at this;exact this.mpr k
def vz (cuts dens:List Int) (i:Nat):Prop:=∀ j,i≤j→j<dens.length→cuts.getD j 0<cuts.getD (j+1) 0∧0≤dens.getD j 0∧dens.getD j 0≤12
theorem Yg (l1:dens.length+1=cuts.length) (l2:dens.length<4611686018427387904) (x0:Int→Prop) (x1:Int→List PV→List PV→Bool→Int→Bool→Prop) (P:Prop)
  (hbad:¬vz cuts dens 0→x0 8=P) (hgood:∀ b:Bool,vz cuts dens 0→b=decide (∃ j,j<dens.length∧0<dens.getD j 0)→x1 len (aR cuts) (aR dens) b dens.length false=P) :
  ∀ (r i n:Nat) (b:Bool),i+r=dens.length→r<n→(∀ j,j<i→cuts.getD j 0<cuts.getD (j+1) 0∧0≤dens.getD j 0∧dens.getD j 0≤12)→b=decide (∃ j,j<i∧0<dens.getD j 0) →
   CZ x0 x1 n len (aR cuts) (aR dens) b i=P
 | 0,i,n+1,b,hi,hn,hj,hb=>by unfold CZ;rw [fB,aP (by omega),show (i:Int)=dens.length by omega];refine hgood b (fun j _ h=>hj j (by omega)) ?_;rw [hb,Aab];rw [show i=dens.length by omega]
 | r+1,i,n+1,b,hi,hn,hj,hb=>by
  unfold CZ;have e1:=eF (n:=(i:Int)+1) (by omega) (by omega);rw [fB,fB,aO (by omega),e1,hO,cP,cP,aI (by omega),aI (by omega),jO (by omega),aI (by omega),aI (by omega),jO (by omega),jB (by omega),jB (by omega)];have bad:¬(cuts.getD i 0<cuts.getD (i+1) 0∧0≤dens.getD i 0∧dens.getD i 0≤12)→x0 8=P:=fun h=>hbad fun hk=>h (hk i (by omega) (by omega))
  by_cases a1:cuts.getD (i+1) 0≤cuts.getD i 0
  ·rw [aO a1];exact bad (by omega)
  rw [aP a1,aI (by omega),aI (by omega),jO (by omega),jB (by omega)]
  by_cases a2:dens.getD i 0<0
  ·rw [aO a2];exact bad (by omega)
  rw [aP a2,aI (by omega),aI (by omega),jO (by omega)]
  by_cases a3:dens.getD i 0>12
  ·rw [aO a3];exact bad (by omega)
  rw [aP a3];have hj2:∀ j,j<i+1→cuts.getD j 0<cuts.getD (j+1) 0∧0≤dens.getD j 0∧dens.getD j 0≤12:=by
   intro j hlt
   by_cases e:j=i
   ·subst e;omega
   ·exact hj j (by omega)
  have ex:∀ c:Bool,(c=true↔(b=true∨0<dens.getD i 0))→c=decide (∃ j,j<i+1∧0<dens.getD j 0):=by
   intro c hc;rw [Bool.eq_iff_iff,hc,hb,decide_eq_true_iff,decide_eq_true_iff];constructor
   ·rintro (⟨j,h1,h2⟩ | h)
    ·exact ⟨j,by omega,h2⟩
    ·exact ⟨i,by omega,h⟩
   ·rintro ⟨j,h1,h2⟩
    by_cases e:j=i
    ·subst e;exact .inr h2
    ·exact .inl ⟨j,by omega,h2⟩
  cases b with
  | true =>rw [aY];exact Yg l1 l2 x0 x1 P hbad hgood r (i+1) n true (by omega) (by omega) hj2 (ex _ (by simp))
  | false =>rw [aV,aI (by omega),aI (by omega),jO (by omega)];exact Yg l1 l2 x0 x1 P hbad hgood r (i+1) n _ (by omega) (by omega) hj2 (ex _ (by simp))
theorem GE (h1:cuts.length<4611686018427387904) (h2:dens.length<4611686018427387904) (K:Int→Prop) :
  mI len (aR cuts) (aR dens) K=K (jC len cuts dens):=by
 refine yFq _ _ _ _ (fun K k=>?_) K;unfold mI Wg;simp only [fB];have bad:¬(len>1000∨cuts.length>40)→¬VC len cuts dens→K 8:=fun h h2=>by
  rw [jC,Zv h,Zv h2] at k;exact k
 by_cases a1:len>1000
 ·rw [aO a1];rw [jC,Tu (.inl a1)] at k;exact k
 rw [aP a1]
 by_cases a2:cuts.length>40
 ·rw [aO (by omega)];rw [jC,Tu (.inr a2)] at k;exact k
 have a12:¬(len>1000∨cuts.length>40):=by omega
 rw [aP (by omega)]
 by_cases a3:len<1
 ·rw [aO a3];exact bad a12 (fun h=>by have:=h.1;omega)
 rw [aP a3]
 by_cases a4:cuts.length<2
 ·rw [aO (by omega)];exact bad a12 (fun h=>by have:=h.2.2.1;omega)
 rw [aP (by omega),eF (n:=(cuts.length:Int)-1) (by omega) (by omega)]
 by_cases a5:dens.length+1=cuts.length
 case neg=>rw [dB (by omega)];exact bad a12 (fun h=>a5 h.2.2.2.2.1)
 rw [cS (by omega),aI (by omega),jO (by omega),jB (by omega)]
 by_cases a6:cuts.getD 0 0=0
 case neg=>rw [dB a6];exact bad a12 (fun h=>a6 h.2.2.2.2.2.1)
 rw [cS a6,aI (by omega),aI (by omega),jO (by omega),jB (by omega)];have en:((cuts.length:Int)-1).toNat=cuts.length-1:=by omega
 rw [en]
 by_cases a7:cuts.getD (cuts.length-1) 0=len
 case neg=>rw [dB a7];exact bad a12 (fun h=>a7 h.2.2.2.2.2.2.1)
 rw [cS a7];have mem:∀ d,d∈dens↔∃ j,j<dens.length∧dens.getD j 0=d:=by
  intro d;rw [List.mem_iff_getElem];constructor
  ·rintro ⟨j,hj,e⟩;exact ⟨j,hj,by rw [dK,dL hj];exact e⟩
  ·rintro ⟨j,hj,e⟩;exact ⟨j,hj,by rw [dK,dL hj] at e;exact e⟩
 refine ⟨dens.length+1,?_⟩;refine (Yg a5 h2 _ _ (K (jC len cuts dens)) (fun hk=>?_) (fun b hk hb=>?_) dens.length 0 (dens.length+1) false (by omega) (by omega) (fun j h=>by omega) (by simp)).mpr k
 ·have hv:¬VC len cuts dens:=fun h=>hk fun j _ hj=>⟨h.step (by omega),h.den hj⟩
  rw [jC,Zv a12,Zv hv]
 ·have hsome:DM dens↔∃ j,j<dens.length∧0<dens.getD j 0:=by
   constructor
   ·rintro ⟨d,hd,h0⟩;obtain ⟨j,hj,e⟩:=(mem d).1 hd;exact ⟨j,hj,by rw [e];exact h0⟩
   ·rintro ⟨j,hj,h0⟩;exact ⟨_,(mem _).2 ⟨j,hj,rfl⟩,h0⟩
  have hv:VC len cuts dens↔DM dens:=by refine ⟨fun h=>h.2.2.2.2.2.2.2.2.2,fun h=>⟨by omega,by omega,by omega,by omega,a5,a6,a7,fun j _ hj=>(hk j (by omega) (by omega)).1,fun d hd=>?_,h⟩⟩;obtain ⟨j,hj,e⟩:=(mem d).1 hd;rw [← e];exact (hk j (by omega) hj).2
  rw [jC,Zv a12]
  by_cases hs:DM dens
  ·rw [Tu (hv.2 hs),hb,Os (hsome.1 hs)];rfl
  ·rw [Zv (fun x=>hs (hv.1 x)),hb,Pn (fun x=>hs (hsome.2 x))];rfl
theorem wa (h:VC len cuts dens) (x0:Int→List PV→List PV→Int→Int→Bool→Prop) :
  ∀ (r i n:Nat) (s:Int),i+r=dens.length→r<n→0≤s→s≤12*cuts.getD i 0 →
   FW x0 n len (aR cuts) (aR dens) s i=x0 len (aR cuts) (aR dens) (jJ cuts dens r i s) dens.length false
 | 0,i,n+1,s,hi,hn,h0,h1=>by
  unfold FW jJ;have:(i:Int)=dens.length:=by omega
  rw [fB,aP (by omega),this]
 | r+1,i,n+1,s,hi,hn,h0,h1=>by unfold FW;have l1:=h.l1;have l2:=h.l2;have h2:=h.step (i:=i) (by omega);have h3:=Kh (h.den (i:=i) (by omega)) (x:=cuts.getD (i+1) 0-cuts.getD i 0) (by omega);have a1:=h.lo (i:=i) (by omega);have a2:=h.hi (i:=i+1) (by omega);have a3:=h.len0;have e1:=eF (n:=(i:Int)+1) (by omega) (by omega);have e2:=eF (n:=cuts.getD (i+1) 0-cuts.getD i 0) (by omega) (by omega);have e3:=eF (n:=dens.getD i 0*(cuts.getD (i+1) 0-cuts.getD i 0)) (by omega) (by omega);have e4:=eF (n:=s+dens.getD i 0*(cuts.getD (i+1) 0-cuts.getD i 0)) (by omega) (by omega);rw [fB,fB,aO (by omega),e1,hO,cP,cP,aI (by omega),aI (by omega),jO (by omega),aI (by omega),aI (by omega),jO (by omega),aI (by omega),aI (by omega),jO (by omega),jB (by omega),jB (by omega),jB (by omega),e2,e3,e4];exact wa h x0 r (i+1) n _ (by omega) (by omega) (by omega) (by omega)
theorem yOt (hv:VC len cuts dens) (K:Int→Prop):ya7 len (aR cuts) (aR dens) K=K (totC cuts dens):=by refine yFr _ _ _ _ (fun K k=>?_) K;unfold ya7 Wi;refine ⟨dens.length+1,?_⟩;have l1:=hv.l1;have a1:=hv.lo (i:=0) (by omega);have:=wa hv (fun b c d a e f=>K a) dens.length 0 (dens.length+1) 0 (by omega) (by omega) (by omega) (by omega);rw [show ((0:Nat):Int)=0 from rfl] at this;rw [this];exact k
theorem Yh (hl:-1000000000000000000≤len∧len≤1000000000000000000) {n d:Int} (hn:bE n) (hd:bE d) (K:Bool→Prop) :
  vT len n d K=K (decide (PT len n d)):=by
 unfold vT Wk;rw [Ka hn hd]
 by_cases h:RV n d
 ·obtain ⟨q,e1,e2,e3⟩:=Oy h;rw [kP,Tu h,nZ rfl]
  by_cases h0:n≥0
  ·rw [aO h0,GC,← e2,← e3,nH (OD hl) e1];congr 1;have:((len:Rat)<q)↔len*(q.den:Int)<q.num:=vl _ _
   by_cases h3:(len:Rat)<q
   ·have h4:=this.1 h3;rw [Os h3,Pn];rfl;intro hp;have:=hp.2.2;omega
   ·have h4:¬_:=fun x=>h3 (this.2 x)
    rw [Pn h3,Os];rfl;exact ⟨e1.rv,by omega,by omega⟩
  ·rw [aP h0,Pn];intro hp;have:=hp.2.1;omega
 ·rw [kP,Zv h,oA (by decide),Pn];intro hp;exact h hp.1
def lR (a b:Rat):Rat:=if a<b then b else a
def jD (a b:Rat):Rat:=if a<b then a else b
theorem Yi {q r:Rat} (hq:small q) (hr:small r) (K:Int→Int→Prop):Bm q.num q.den r.num r.den K=K (lR q r).num (lR q r).den:=by
 unfold Bm Wl lR;rw [nH hq hr]
 by_cases h:q<r
 ·rw [aO h,Tu h]
 ·rw [aP h,Zv h]
theorem yMc {q r:Rat} (hq:small q) (hr:small r) (K:Int→Int→Prop):NE q.num q.den r.num r.den K=K (jD q r).num (jD q r).den:=by
 unfold NE Wm jD;rw [nH hq hr]
 by_cases h:q<r
 ·rw [aO h,Tu h]
 ·rw [aP h,Zv h]
theorem yPT {q r:Rat} (hq:small q) (hr:small r):small (lR q r):=by unfold lR;split<;>assumption
theorem yPU {q r:Rat} (hq:small q) (hr:small r):small (jD q r):=by unfold jD;split<;>assumption
def Aj (cuts dens:List Int) (i:Nat) (a b:Rat):Except Int Rat:=
 let f:=lR a (cuts.getD i 0:Int);let t:=jD b (cuts.getD (i+1) 0:Int)
 if ¬f<t∨dens.getD i 0=0 then .ok 0 else fO (t-f) fun d=>fO (d*(dens.getD i 0:Int)) .ok
theorem we (h:VC len cuts dens) {i:Nat} (hi:i<dens.length) {a b:Rat} (ha:small a) (hb:small b) (K:Int→Int→Int→Prop) :
  vV len (aR cuts) (aR dens) i a.num a.den b.num b.den K=exK (Aj cuts dens i a b) K:=by
 unfold vV Wn Aj;have l1:=h.l1;have l2:=h.l2;have sc:=h.sc (i:=i+1) (by omega);have sc0:=h.sc (i:=i) (by omega);have sd:=h.sd (i:=i) (by omega);have e1:=eF (n:=(i:Int)+1) (by omega) (by omega);rw [fB,fB,e1,hO,cP,cP,aI (by omega),aI (by omega),jO (by omega),jB (by omega),GC,Yi ha sc0,aI (by omega),aI (by omega),jO (by omega),jB (by omega),GC,yMc hb sc];have s1:=yPT ha sc0;have s2:=yPU hb sc;rw [nH s1 s2]
 by_cases c1:lR a (cuts.getD i 0:Int)<jD b (cuts.getD (i+1) 0:Int)
 case neg=>
  rw [Pn c1,jT,aY];simp only [c1,not_false_eq_true,true_or,if_true];rfl
 rw [Os c1,jF,aV,aI (by omega),aI (by omega),jO (by omega),jB (by omega)]
 by_cases c2:dens.getD i 0=0
 ·rw [nZ c2];simp only [c2,or_true,if_true];rfl
 rw [oA c2,Yd s2 s1,jP];have cc:¬(¬lR a (cuts.getD i 0:Int)<jD b (cuts.getD (i+1) 0:Int)∨dens.getD i 0=0):=fun x=>x.elim (fun y=>y c1) c2
 simp only [Zv cc,fO]
 by_cases s3:small (jD b (cuts.getD (i+1) 0:Int)-lR a (cuts.getD i 0:Int))
 ·rw [Tu s3,Tu s3,cS rfl,aI (by omega),aI (by omega),jO (by omega),GC,OC s3 sd,jP];split<;>rfl
 ·rw [Zv s3,Zv s3,dB (by decide)];rfl
theorem lS {α:Type} {q:Rat} {k:Rat→Except Int α} (h:small q):fO q k=k q:=Tu h
theorem wE {α:Type} {q:Rat} {k:Rat→Except Int α} (h:¬small q):fO q k=.error 16:=Zv h
theorem DN {q:Rat} {K:Int→Int→Int→Prop}:exK (.ok q) K=K q.num q.den 0:=rfl
theorem DO {c:Int} {K:Int→Int→Int→Prop}:exK (.error c) K=K 0 0 c:=rfl
theorem add_zero (q:Rat):q+0=q:=by grind
theorem wg (h:VC len cuts dens) {a b:Rat} (ha:small a) (hb:small b) (hab:¬b<a) (W1:Int→List PV→List PV→(Int→Prop)→Prop) (W2:Int→Int→Int→(Bool→Prop)→Prop) (W3:Int→Int→Int→Int→(Bool→Prop)→Prop) (K:Int→Int→Int→Prop) :
  ∀ (r i n:Nat) (p sum:Rat),i+r=dens.length→r<n→small sum→p=lR a (jD b (cuts.getD i 0:Int)) →
   FX W1 W2 W3 vV tX (fun e f g=>(K e f g)) (fun _ _ _ _ _ _ _ _ _ j k _ _=>(K j k (0:Int)))
    n len (aR cuts) (aR dens) a.num a.den b.num b.den 0 0 sum.num sum.den i=exK (valS cuts dens b r i p sum) K
 | 0,i,n+1,p,sum,hi,hn,hs,hp=>by unfold FX valS;rw [fB,aP (by omega)];rfl
 | r+1,i,n+1,p,sum,hi,hn,hs,hp=>by
  unfold FX;have l1:=h.l1;have l2:=h.l2;have e1:=eF (n:=(i:Int)+1) (by omega) (by omega);have hst:=h.step (i:=i) (by omega);have hst':((cuts.getD i 0:Int):Rat)<((cuts.getD (i+1) 0:Int):Rat):=Ed.2 hst;have sd:=h.sd (i:=i) (by omega);have sc:=h.sc (i:=i+1) (by omega);have sc0:=h.sc (i:=i) (by omega);rw [fB,aO (by omega),we h (by omega) ha hb,e1,hO];have ih:=fun p sum hs hp=>wg h ha hb hab W1 W2 W3 K r (i+1) n p sum (by omega) (by omega) hs hp
  unfold valS Aj;obtain ⟨c0,hc0⟩:∃ c:Rat,c=((cuts.getD i 0:Int):Rat):=⟨_,rfl⟩;obtain ⟨c,hc⟩:∃ c:Rat,c=((cuts.getD (i+1) 0:Int):Rat):=⟨_,rfl⟩;obtain ⟨d,hd⟩:∃ d:Rat,d=((dens.getD i 0:Int):Rat):=⟨_,rfl⟩;rw [← hc0,← hc] at hst';rw [← hc] at sc;rw [← hc0] at sc0 hp;rw [← hd] at sd;rw [← hc] at ih;simp only [← hc0,← hc,← hd];have zk:∀ K2:Int→Int→Int→Prop,fitK (sum+0) K2=K2 sum.num sum.den 0:=fun K2=>by rw [add_zero,jP,Tu hs]
  have en:(if b<c then b else c)=jD b c:=rfl;rw [en];have nx:(if p<jD b c then jD b c else p)=lR a (jD b c):=by rw [hp];unfold lR jD;grind
  have add0:=OB hs (r:=0) (by decide);rw [show (0:Rat).num=0 from rfl,show ((0:Rat).den:Int)=1 from rfl] at add0
  by_cases c2:dens.getD i 0=0
  ·rw [Tu (.inr c2),Tu (.inl c2),nx];rw [DN,cS rfl];rw [show ((0:Rat).num)=0 from rfl,show (((0:Rat).den:Nat):Int)=1 from rfl,add0,zk,cS rfl];exact ih _ sum hs rfl
  by_cases c1:lR a c0<jD b c
  ·-- the interval counts
   have hpm:p=lR a c0:=by
    rw [hp];unfold lR jD at *
    grind
   have hpl:p<jD b c:=by rw [hpm];exact c1
   rw [Zv (fun x=>x.elim (fun y=>y c1) c2),Zv (fun x=>x.elim c2 (fun y=>y hpl)),← hpm];have nx2:jD b c=lR a (jD b c):=by rw [← nx,Tu hpl]
   by_cases s1:small (jD b c-p)
   case neg=>rw [wE s1,wE s1,DO,dB (by decide)];rfl
   rw [lS s1,lS s1]
   by_cases s2:small ((jD b c-p)*d)
   case neg=>rw [wE s2,wE s2,DO,dB (by decide)];rfl
   rw [lS s2,lS s2,DN];rw [cS rfl,OB hs s2,jP]
   by_cases s3:small (sum+(jD b c-p)*d)
   ·rw [Tu s3,lS s3,cS rfl];exact ih _ _ s3 nx2
   ·rw [Zv s3,wE s3,dB (by decide)];rfl
  ·have hpl:¬p<jD b c:=by
    rw [hp];unfold lR jD at *
    grind
   rw [Tu (.inl c1),Tu (.inr hpl),nx];rw [DN,cS rfl];rw [show ((0:Rat).num)=0 from rfl,show (((0:Rat).den:Nat):Int)=1 from rfl,add0,zk,cS rfl];exact ih _ sum hs rfl
theorem yOu (h1:cuts.length<4611686018427387904) (h2:dens.length<4611686018427387904) {an ad bn bd:Int} (ha:bE an) (ha':bE ad) (hb:bE bn) (hb':bE bd) (K:Int→Int→Int→Prop) :
  FY len (aR cuts) (aR dens) an ad bn bd K=exK (kC len cuts dens an ad bn bd) K:=by
 refine OE (fun r0 r1 r2 h K=>yFs _ _ _ _ _ _ _ r0 r1 r2 h K) (fun K k=>?_) K;unfold FY Wo;rw [GE h1 h2];unfold kC at k
 by_cases h:jC len cuts dens=0
 case neg=>rw [dB h,GE h1 h2];rw [Zv h] at k;exact k
 have hv:=GD h;have hl:=hv.len0;rw [Tu h] at k;rw [cS h,Yh (by omega) ha ha']
 by_cases p1:PT len an ad
 case neg=>rw [Pn p1,jT,aY];rw [Zv (fun x=>p1 x.1)] at k;exact k
 rw [Os p1,jF,aV,Yh (by omega) hb hb']
 by_cases p2:PT len bn bd
 case neg=>rw [Pn p2,jT,aY];rw [Zv (fun x=>p2 x.2.1)] at k;exact k
 rw [Os p2,jF,aV];obtain ⟨s1,e1,e2,z1,_⟩:=p1.pt;obtain ⟨s2,f1,f2,_,_⟩:=p2.pt;have hless:=nH s2 s1;rw [e1,e2,f1,f2] at hless;rw [hless]
 by_cases p3:rt bn bd<rt an ad
 ·rw [aO p3];rw [Zv (fun x=>x.2.2 p3)] at k;exact k
 rw [aP p3];rw [Tu ⟨p1,p2,p3⟩] at k;refine ⟨dens.length+1,?_⟩;have c0:((cuts.getD 0 0:Int):Rat)=0:=by rw [hv.2.2.2.2.2.1];rfl
 have:=wg hv s1 s2 p3 mI vT yaw K dens.length 0 (dens.length+1) (rt an ad) 0 (by omega) (by omega) (by decide) (by rw [c0];unfold lR jD;grind);rw [e1,e2,f1,f2] at this;exact this.mpr k
theorem wh {q:Rat} (h:0<q):q.num>0:=by
 have h1:0≤q.num:=Rat.num_nonneg.2 (mE h);have h2:q.num≠0:=fun e=>by
  have:=BQ.1 e;rw [this] at h;exact qK h
 omega
theorem wi (h:VC len cuts dens) (an ad:Int) (W1:Int→List PV→List PV→(Int→Prop)→Prop) (W2:Int→Int→Int→(Bool→Prop)→Prop) (W3:Int→Int→(Int→Prop)→Prop) (K:Int→Int→Int→Prop) :
  ∀ (r i n:Nat) (p v:Rat),i+r=dens.length→r<n→small p→small v→0<v→¬p<(cuts.getD i 0:Int) →
   zP W1 W2 W3 cM yaw Bm vV CX tX xM
    (fun a d f=>(K a d f)) (fun _ _ _ g j k _ _ _ _ _ _ _=>(aA (decide (k>(0:Int))) (K (0:Int) (0:Int) (6:Int)) (K g j (0:Int))))
    n len (aR cuts) (aR dens) an ad v.num v.den 0 0 p.num p.den i=exK (mrkS cuts dens r i p v) K
 | 0,i,n+1,p,v,hi,hn,hp,hs,h0,hc0=>by unfold zP mrkS;rw [fB,aP (by omega),aO (wh h0)];rfl
 | r+1,i,n+1,p,v,hi,hn,hp,hs,h0,hc0=>by
  unfold zP;have l1:=h.l1;have l2:=h.l2;have e1:=eF (n:=(i:Int)+1) (by omega) (by omega);have sd:=h.sd (i:=i) (by omega);have sc:=h.sc (i:=i+1) (by omega);have hw:=fun b hb=>we h (i:=i) (by omega) hp (b:=b) hb
  rw [fB,fB,aO (by omega),aO (wh h0),e1,hO,cP,cP,aI (by omega),aI (by omega),jO (by omega),jB (by omega),jB (by omega),GC,nH hp sc];have ih:=fun p v hp hs h0 hc=>wi h an ad W1 W2 W3 K r (i+1) n p v (by omega) (by omega) hp hs h0 hc
  unfold mrkS;obtain ⟨c,hc⟩:∃ c:Rat,c=((cuts.getD (i+1) 0:Int):Rat):=⟨_,rfl⟩;rw [← hc] at sc ih ⊢
  by_cases hpc:p<c
  case neg=>
   rw [Pn hpc,jT,aY,Tu hpc,Yi hp sc];have:lR p c=p:=Zv hpc;rw [this];exact ih p v hp hs h0 hpc
  rw [Os hpc,jF,aV,Zv (fun x=>x hpc),aI (by omega),aI (by omega),jO (by omega)]
  by_cases hd:dens.getD i 0=0
  ·rw [nZ hd,Tu hd,Yi hp sc];have:lR p c=c:=Tu hpc;rw [this];exact ih c v sc hs h0 qK
  rw [oA hd,Zv hd,hw c sc];unfold Aj;have m1:lR p (cuts.getD i 0:Int)=p:=Zv hc0;have m2:jD c (cuts.getD (i+1) 0:Int)=c:=by rw [← hc];unfold jD;split<;>rfl
  simp only [m1,m2];rw [Zv (fun x=>x.elim (fun y=>y hpc) hd)]
  by_cases s1:small (c-p)
  case neg=>rw [wE s1,wE s1,DO,dB (by decide)];rfl
  rw [lS s1,lS s1]
  by_cases s2:small ((c-p)*(dens.getD i 0:Int))
  case neg=>rw [wE s2,wE s2,DO,dB (by decide)];rfl
  rw [lS s2,lS s2,DN];rw [cS rfl,nH s2 hs]
  by_cases hwv:(c-p)*(dens.getD i 0:Int)<v
  ·rw [Os hwv,jF,aV,Tu hwv,Yd hs s2,jP]
   by_cases s3:small (v-(c-p)*(dens.getD i 0:Int))
   ·rw [Tu s3,lS s3,cS rfl];exact ih c _ sc s3 (by grind) qK
   ·rw [Zv s3,wE s3,dB (by decide)];rfl
  ·have hdn:((dens.getD i 0:Int):Rat)≠0:=fun e=>hd (Rat.intCast_eq_zero_iff.1 e)
   rw [Pn hwv,jT,aY,Zv hwv,aI (by omega),aI (by omega),jO (by omega),GC,yRj hs sd hdn,jP]
   by_cases s3:small (v/(dens.getD i 0:Int))
   ·rw [Tu s3,lS s3,cS rfl,OB hp s3,jP,fO];split<;>rfl
   ·rw [Zv s3,wE s3,dB (by decide)];rfl
theorem yPV (h1:cuts.length<4611686018427387904) (h2:dens.length<4611686018427387904) {an ad vn vd:Int} (ha:bE an) (ha':bE ad) (hv:bE vn) (hv':bE vd) (K:Int→Int→Int→Prop) :
  FZ len (aR cuts) (aR dens) an ad vn vd K=exK (jK len cuts dens an ad vn vd) K:=by
 refine OE (fun r0 r1 r2 h K=>yH9 _ _ _ _ _ _ _ r0 r1 r2 h K) (fun K k=>?_) K;unfold FZ Wq;rw [GE h1 h2];unfold jK at k
 by_cases h:jC len cuts dens=0
 case neg=>rw [dB h,GE h1 h2];rw [Zv h] at k;exact k
 have hc:=GD h;have hl:=hc.len0;rw [Tu h] at k;rw [cS h,Yh (by omega) ha ha']
 by_cases p1:PT len an ad
 case neg=>rw [Pn p1,jT,aY];rw [Zv (fun x=>p1 x.1)] at k;exact k
 rw [Os p1,jF,aV,Ka hv hv',kP]
 by_cases p2:RV vn vd
 case neg=>rw [Zv p2,dB (by decide)];rw [Zv (fun x=>p2 x.2.1)] at k;exact k
 rw [Tu p2,cS rfl]
 by_cases p3:vn<0
 ·rw [aO p3];rw [Zv (fun x=>by omega)] at k;exact k
 rw [aP p3];rw [Tu ⟨p1,p2,by omega⟩] at k;obtain ⟨s1,e1,e2,z1,_⟩:=p1.pt;obtain ⟨s2,f1,f2⟩:=oZ p2;unfold mrkC at k;refine ⟨dens.length+1,?_⟩
 by_cases p4:vn=0
 ·rw [Tu (BQ.1 (f1.trans p4))] at k;have k:K (rt an ad).num (rt an ad).den 0:=k;rw [e1,e2] at k;unfold zP;rw [fB]
  by_cases hz:(0:Int)<dens.length
  ·rw [aO hz,aP (by omega),aP (by omega)];exact k
  ·rw [aP hz,aP (by omega)];exact k
 rw [Zv (fun x=>p4 (by rw [← f1,x];rfl))] at k;have hpos:0<rt vn vd:=by
  have a1:0≤rt vn vd:=Rat.num_nonneg.1 (by omega);have a2:rt vn vd≠0:=fun x=>p4 (by rw [← f1,x];rfl)
  grind
 have c0:((cuts.getD 0 0:Int):Rat)=0:=by rw [hc.2.2.2.2.2.1];rfl
 have:=wi hc an ad mI vT zN K dens.length 0 (dens.length+1) (rt an ad) (rt vn vd) (by omega) (by omega) s1 s2 hpos (by rw [c0];grind);rw [e1,e2,f1,f2] at this;exact this.mpr k
end
structure Ck where
 len:Int
 cuts:List Int
 dens:List Int
instance:Inhabited Ck:=⟨⟨0,[],[]⟩⟩
def qD (c:Ck):PV:=.agg [.int .i64 c.len,.data (aR c.cuts),.data (aR c.dens)]
def aJ (l:List Ck):List PV:=l.map qD
def Ck.fin (c:Ck):Prop:=c.cuts.length<4611686018427387904∧c.dens.length<4611686018427387904
def Ck.err (c:Ck):Int:=jC c.len c.cuts c.dens
def Ck.ok (c:Ck):Prop:=VC c.len c.cuts c.dens
instance (c:Ck):Decidable c.ok:=by unfold Ck.ok;infer_instance
theorem iE (l:List Ck):(aJ l).length=l.length:=lY ..
theorem nI {l:List Ck} {i:Nat} (h:i<l.length):getD (aJ l) i .nils=qD (l.getD i default):=by unfold aJ;rw [dK,dK,pE,dL h];rfl
theorem kD {α:Type} {l:List α} {i:Nat} (d:α) (h:i<l.length):l.drop i=l.getD i d::l.drop (i+1):=by rw [KI h,dK,dL h];rfl
theorem eO {c:Ck} {P:Prop}:aB (aE zK (qD c)) P=P:=rfl
theorem mT (c:Ck):aC (aD (qD c) 0)=c.len:=rfl
theorem qR (c:Ck):fW (aD (qD c) 1)=aR c.cuts:=rfl
theorem qS (c:Ck):fW (aD (qD c) 2)=aR c.dens:=rfl
def pB:List Ck→Int
 | []=>0
 | c::t=>if c.err=0 then pB t else c.err
def wF (n:Int):List Ck→Bool
 | []=>true
 | c::t=>decide (c.len=n)&&wF n t
def lE (l:List Ck) (m:Nat):Int:=
 if l.length>6 then 4 else if m>2000 then 4 else if l.length=0 then 8 else if pB l=0 then (if wF (l.getD 0 default).len l then 0 else 8) else pB l
section
variable {l:List Ck}
def gP (l:List Ck):Prop:=∀ i,i<l.length→(l.getD i default).fin
theorem wj (hf:gP l) (hl:l.length<4611686018427387904) (x0:Int→Prop) (x1:List PV→List PV→List PV→Int→Int→Bool→Prop) (lg:List PV) :
  ∀ (r i n:Nat),i+r=l.length→r<n→FM kA x0 x1 n (aJ l) lg (aJ l) l.length i =
   if pB (l.drop i)=0 then x1 (aJ l) lg (aJ l) l.length l.length false else x0 (pB (l.drop i))
 | 0,i,n+1,hi,hn=>by unfold FM;rw [aP (by omega),qW (by omega),show (i:Int)=l.length by omega];rfl
 | r+1,i,n+1,hi,hn=>by
  unfold FM;have e1:=eF (n:=(i:Int)+1) (by omega) (by omega);obtain ⟨f1,f2⟩:=hf i (by omega);rw [aO (by omega),iE,cP,nI (by omega),aI (by omega),aI (by omega),eO,mT,qR,qS,Kg (by omega) (by omega),kD default (by omega),pB,e1,hO];show aA ((l.getD i default).err !=0) _ _=_
  by_cases h:(l.getD i default).err=0
  ·rw [cS h,Tu h];exact wj hf hl x0 x1 lg r (i+1) n (by omega) (by omega)
  ·rw [dB h,Zv h,Zv h];rfl
theorem wk (hl:l.length<4611686018427387904) (x0:Int→Prop) (x1:List PV→List PV→List PV→Int→Int→Bool→Prop) (lg:List PV) (W) :
  ∀ (r i n:Nat),i+r=l.length→r<n→CS W x0 x1 n (aJ l) lg (aJ l) l.length i =
   if wF (l.getD 0 default).len (l.drop i) then x1 (aJ l) lg (aJ l) l.length l.length false else x0 8
 | 0,i,n+1,hi,hn=>by unfold CS;rw [aP (by omega),qW (by omega),show (i:Int)=l.length by omega];rfl
 | r+1,i,n+1,hi,hn=>by
  unfold CS;have e1:=eF (n:=(i:Int)+1) (by omega) (by omega);rw [aO (by omega),iE,cP,nI (by omega),nI (by omega),aI (by omega),aI (by omega),eO,aI (by omega),eO,mT,mT,kD default (by omega),wF,e1,hO]
  by_cases h:(l.getD i default).len=(l.getD 0 default).len
  ·rw [cS h,Os h,jU];exact wk hl x0 x1 lg W r (i+1) n (by omega) (by omega)
  ·rw [dB h,Pn h,qI,Zv (by simp)]
theorem Ki (hf:gP l) (hl:l.length<4611686018427387904) (lg:List PV) (K:Int→Prop):ydu (aJ l) lg K=K (lE l lg.length):=by
 refine yFj _ _ _ (fun K k=>?_) K;unfold ydu Vj;unfold lE at k;rw [iE]
 by_cases a1:l.length>6
 ·rw [aO (by omega)];rw [Tu a1] at k;exact k
 rw [aP (by omega)];rw [Zv a1] at k
 by_cases a2:lg.length>2000
 ·rw [aO (by omega)];rw [Tu a2] at k;exact k
 rw [aP (by omega)];rw [Zv a2] at k
 by_cases a3:l.length=0
 ·rw [nZ (by omega)];rw [Tu a3] at k;exact k
 rw [oA (by omega)];rw [Zv a3] at k;refine ⟨l.length+1,?_⟩;have h0:=wj hf hl (fun c=>K c) (fun a d o p q r=>(∃ e:Nat,CS kA (fun b=>(K b)) (fun f g i j m n=>(K (0:Int))) e a d a (((length a):Nat):Int) (0:Int))) lg l.length 0 (l.length+1) (by omega) (by omega);rw [show ((0:Nat):Int)=0 from rfl,mX] at h0;rw [h0]
 by_cases a4:pB l=0
 ·rw [Tu a4] at k ⊢;refine ⟨l.length+1,?_⟩;have h1:=wk hl (fun b=>(K b)) (fun f g i j m n=>(K (0:Int))) lg kA l.length 0 (l.length+1) (by omega) (by omega);rw [show ((0:Nat):Int)=0 from rfl,mX] at h1;rw [iE,h1];split at k<;>rename_i h<;>simp only [h]<;>exact k
 ·rw [Zv a4] at k ⊢;exact k
theorem wo (hf:gP l) (hl:l.length<4611686018427387904) (x0:Int→Prop) (x1:List PV→List PV→Int→Bool→Prop) (lg:List PV) :
  ∀ (r i n:Nat),i+r=l.length→r<n→Gc mI x0 x1 n (aJ l) lg i =
   if pB (l.drop i)=0 then x1 (aJ l) lg l.length false else x0 (pB (l.drop i))
 | 0,i,n+1,hi,hn=>by unfold Gc;rw [iE,aP (by omega),qW (by omega),show (i:Int)=l.length by omega];rfl
 | r+1,i,n+1,hi,hn=>by
  unfold Gc;have e1:=eF (n:=(i:Int)+1) (by omega) (by omega);obtain ⟨f1,f2⟩:=hf i (by omega);rw [iE,aO (by omega),cP,nI (by omega),aI (by omega),aI (by omega),eO,mT,qR,qS,GE (by omega) (by omega),kD default (by omega),pB,e1,hO];show aA ((l.getD i default).err !=0) _ _=_
  by_cases h:(l.getD i default).err=0
  ·rw [cS h,Tu h];exact wo hf hl x0 x1 lg r (i+1) n (by omega) (by omega)
  ·rw [dB h,Zv h,Zv h,aI (by omega),aI (by omega),eO,GE (by omega) (by omega)];rfl
theorem wq (hl:l.length<4611686018427387904) (x0:Int→Prop) (x1:List PV→List PV→Int→Bool→Prop) (lg:List PV) (W) :
  ∀ (r i n:Nat),i+r=l.length→r<n→Dd W x0 x1 n (aJ l) lg i =
   if wF (l.getD 0 default).len (l.drop i) then x1 (aJ l) lg l.length false else x0 8
 | 0,i,n+1,hi,hn=>by unfold Dd;rw [iE,aP (by omega),qW (by omega),show (i:Int)=l.length by omega];rfl
 | r+1,i,n+1,hi,hn=>by
  unfold Dd;have e1:=eF (n:=(i:Int)+1) (by omega) (by omega);rw [iE,aO (by omega),cP,nI (by omega),nI (by omega),aI (by omega),aI (by omega),eO,aI (by omega),eO,mT,mT,kD default (by omega),wF,e1,hO]
  by_cases h:(l.getD i default).len=(l.getD 0 default).len
  ·rw [cS h,Os h,jU];exact wq hl x0 x1 lg W r (i+1) n (by omega) (by omega)
  ·rw [dB h,Pn h,qI,Zv (by simp)]
theorem OF (hf:gP l) (hl:l.length<4611686018427387904) (lg:List PV) (K:Int→Prop):yeN (aJ l) lg K=K (lE l lg.length):=by
 refine yFx _ _ _ (fun K k=>?_) K;unfold yeN Ww;unfold lE at k;rw [iE]
 by_cases a1:l.length>6
 ·rw [aO (by omega)];rw [Tu a1] at k;exact k
 rw [aP (by omega)];rw [Zv a1] at k
 by_cases a2:lg.length>2000
 ·rw [aO (by omega)];rw [Tu a2] at k;exact k
 rw [aP (by omega)];rw [Zv a2] at k
 by_cases a3:l.length=0
 ·rw [nZ (by omega)];rw [Tu a3] at k;exact k
 rw [oA (by omega)];rw [Zv a3] at k;refine ⟨l.length+1,?_⟩;have h0:=wo hf hl (fun b=>K b) (fun c d m n=>(∃ e:Nat,Dd mI (fun a=>(K a)) (fun f g i j=>(K (0:Int))) e c d (0:Int))) lg l.length 0 (l.length+1) (by omega) (by omega);rw [show ((0:Nat):Int)=0 from rfl,mX] at h0;rw [h0]
 by_cases a4:pB l=0
 ·rw [Tu a4] at k ⊢;refine ⟨l.length+1,?_⟩;have h1:=wq hl (fun a=>(K a)) (fun f g i j=>(K (0:Int))) lg mI l.length 0 (l.length+1) (by omega) (by omega);rw [show ((0:Nat):Int)=0 from rfl,mX] at h1;rw [h1];split at k<;>rename_i h<;>simp only [h]<;>exact k
 ·rw [Zv a4] at k ⊢;exact k
def Ck.low (c:Ck):Prop:=c.cuts.length≤1000∧c.dens.length≤1000
def sG (l:List Ck):Prop:=∀ i,i<l.length→(l.getD i default).low
theorem Yj (l:List Int):iY 1 (aR l)=true:=by cases l<;>rfl
theorem OG {l:List Int} (h:l.length≤1000) (K:List PV→Prop):IG (aR l) K=K (aR l):=by
 show aB (pJ 1 8 (aR l)) (K (aR l))=_;have:pJ 1 8 (aR l)=true:=by unfold pJ;rw [Yj,fB,jU,decide_eq_true_iff];unfold room;omega
 rw [this,dI]
theorem cW {c:Bool} {P:Prop} (h:c=true):aB c P=P:=by rw [h,dI]
theorem wt (hf:sG l) (hl:l.length≤1000) (x0:List PV→List PV→Int→Int→Bool→Prop) (x1:List PV→Int→Int→Bool→Prop) :
  ∀ (r i n:Nat) (acc:List PV),i+r=l.length→r<n→acc.length≤i→FR IG x0 x1 n acc (aJ l) l.length i=x0 (acc++aJ (l.drop i)) (aJ l) l.length l.length false
 | 0,i,n+1,acc,hi,hn,ha=>by unfold FR;rw [aP (by omega),qW (by omega),show (i:Int)=l.length by omega];show _=x0 (acc++[]) _ _ _ _;rw [AA]
 | r+1,i,n+1,acc,hi,hn,ha=>by unfold FR;have e1:=eF (n:=(i:Int)+1) (by omega) (by omega);obtain ⟨f1,f2⟩:=hf i (by omega);rw [aO (by omega),iE,cP,nI (by omega),aI (by omega),aI (by omega),eO,mT,qR,qS,OG f1,OG f2,aI rfl,aI (by omega),cW (by rw [Pn (by omega)];rfl),aI rfl,aI (by unfold room;omega),cW (by simp),e1,hO];rw [wt hf hl x0 x1 r (i+1) n _ (by omega) (by omega) (by simp;omega),kD (i:=i) default (by omega),jE];rfl
theorem wu (hf:sG l) (hl:l.length≤1000) (K:List PV→Prop):CT (aJ l) K=K (aJ l):=by
 refine yDU _ _ (fun K k=>?_) K;unfold CT Vu
 cases hc:l with
 | nil =>refine ⟨0+1,?_⟩;rw [hc] at k;rw [Nu,iE,aP (by simp)];exact k
 | cons c t=>
  rw [← hc];have h0:0<l.length:=by rw [hc];exact Az _
  refine ⟨(l.length+1)+1,?_⟩;rw [Nu];obtain ⟨f1,f2⟩:=hf 0 (by omega);have e1:=eF (n:=(0:Int)+1) (by omega) (by omega);rw [iE,aO (by omega),show (0:Int).toNat=0 from rfl,nI (by omega),aI (by omega),aI (by omega),eO,mT,qR,qS,OG f1,OG f2,cW (by simp),e1,show (0:Int)+1=((0+1:Nat):Int) from rfl];rw [wt hf hl _ _ (l.length-1) (0+1) (l.length+1) _ (by omega) (by omega) (by simp)];have e:[PV.agg [PV.int i64 (l.getD 0 default).len,PV.data (aR (l.getD 0 default).cuts),PV.data (aR (l.getD 0 default).dens)]]++aJ (l.drop (0+1))=aJ l:=by
   conv=>rhs;rw [← mX (l:=l),kD default h0]
   rfl
  rw [e,aI rfl,aI (by omega),jS];exact k
theorem GF {α:Type} (x:List α):take x.length x=x:=jS
theorem yIF (x:List Int):isEmpty (aR x)=isEmpty x:=by cases x<;>rfl
theorem ww {len:Int} {cuts dens:List Int} (h1:cuts.length≤1000) (h2:dens.length≤1000) (K:Int→List PV→List PV→Prop) :
  Dc len (aR cuts) (aR dens) K=K len (aR cuts) (aR dens):=by
 unfold Dc Ws;rw [Yj,Yj];simp only [dI,fB,yIF]
 cases cuts with
 | nil=>
  cases dens with
  | nil=>rfl
  | cons y t =>simp only [Eg,List.isEmpty_cons,aY,aV];rw [aI (by unfold room;omega),aI trivial,aI (by omega),← fB,GF];rfl
 | cons x s=>
  cases dens with
  | nil =>simp only [Eg,List.isEmpty_cons,aY,aV];rw [aI (by unfold room;omega),aI trivial,aI (by omega),← fB,GF];rfl
  | cons y t =>simp only [List.isEmpty_cons,aV];rw [aI (by unfold room;omega),aI (by unfold room;omega),aI trivial,aI (by omega),aI trivial,aI (by omega)];rw [← fB,GF,← fB,GF]
theorem wx (hf:sG l) (hl:l.length≤1000) (x0:List PV→List PV→Int→Bool→Prop) (x1:List PV→Int→Bool→Prop) :
  ∀ (r i n:Nat) (acc:List PV),i+r=l.length→r<n→acc.length≤i→Gd Dc x0 x1 n acc (aJ l) i=x0 (acc++aJ (l.drop i)) (aJ l) l.length false
 | 0,i,n+1,acc,hi,hn,ha=>by unfold Gd;rw [iE,aP (by omega),qW (by omega),show (i:Int)=l.length by omega];show _=x0 (acc++[]) _ _ _;rw [AA]
 | r+1,i,n+1,acc,hi,hn,ha=>by unfold Gd;have e1:=eF (n:=(i:Int)+1) (by omega) (by omega);obtain ⟨f1,f2⟩:=hf i (by omega);rw [iE,aO (by omega),cP,nI (by omega),aI (by omega),aI (by omega),eO,mT,qR,qS,ww f1 f2,aI rfl,aI (by omega),cW (by rw [Pn (by omega)];rfl),aI rfl,aI (by unfold room;omega),cW (by simp),e1,hO];rw [wx hf hl x0 x1 r (i+1) n _ (by omega) (by omega) (by simp;omega),kD (i:=i) default (by omega),jE];rfl
theorem yPX (hf:sG l) (hl:l.length≤1000) (K:List PV→Prop):Ge (aJ l) K=K (aJ l):=by
 refine yFy _ _ (fun K k=>?_) K;unfold Ge WF
 cases hc:l with
 | nil =>refine ⟨0+1,?_⟩;rw [hc] at k;rw [NK,iE,aP (by simp)];exact k
 | cons c t=>
  rw [← hc];have h0:0<l.length:=by rw [hc];exact Az _
  refine ⟨(l.length+1)+1,?_⟩;rw [NK];obtain ⟨f1,f2⟩:=hf 0 (by omega);have e1:=eF (n:=(0:Int)+1) (by omega) (by omega);rw [iE,aO (by omega),show (0:Int).toNat=0 from rfl,nI (by omega),aI (by omega),aI (by omega),eO,mT,qR,qS,ww f1 f2,cW (by simp),e1,show (0:Int)+1=((0+1:Nat):Int) from rfl];rw [wx hf hl _ _ (l.length-1) (0+1) (l.length+1) _ (by omega) (by omega) (by simp)];have e:[PV.agg [PV.int i64 (l.getD 0 default).len,PV.data (aR (l.getD 0 default).cuts),PV.data (aR (l.getD 0 default).dens)]]++aJ (l.drop (0+1))=aJ l:=by
   conv=>rhs;rw [← mX (l:=l),kD default h0]
   rfl
  rw [e,aI rfl,aI (by omega),GF];exact k
theorem wy:∀ (l:List Ck),pB l=0→∀ i,i<l.length→(l.getD i default).ok
 | c::t,h,0,_=>by
  unfold pB at h;split at h
  ·rename_i h1;exact GD h1
  ·rename_i h1;exact absurd h h1
 | c::t,h,i+1,hi=>by
  unfold pB at h;split at h
  ·exact wy t h i (by simpa using hi)
  ·rename_i h1;exact absurd h h1
theorem wz {n:Int}:∀ (l:List Ck),wF n l=true→∀ i,i<l.length→(l.getD i default).len=n
 | c::t,h,0,_=>by unfold wF at h;simp only [bZ,decide_eq_true_eq] at h;exact h.1
 | c::t,h,i+1,hi=>by unfold wF at h;simp only [bZ,decide_eq_true_eq] at h;exact wz t h.2 i (by simpa using hi)
structure DK (l:List Ck):Prop where
 n6:l.length≤6
 n0:1≤l.length
 ok:∀ i,i<l.length→(l.getD i default).ok
 len:∀ i,i<l.length→(l.getD i default).len=(l.getD 0 default).len
theorem OH {m:Nat} (h:lE l m=0):DK l∧m≤2000:=by
 unfold lE at h;split at h
 ·omega
 split at h
 ·omega
 split at h
 ·omega
 split at h
 ·rename_i h0 h1 h2 h3;split at h
  ·rename_i h4;exact ⟨⟨by omega,by omega,wy l h3,wz l h4⟩,by omega⟩
  ·omega
 ·rename_i h3;exact absurd h h3
theorem DK.err {l:List Ck} (h:DK l) {m:Nat} (hm:m≤2000):lE l m=0:=by
 have f:∀ l:List Ck,(∀ i,i<l.length→(l.getD i default).ok)→pB l=0:=by
  intro l;induction l with
  | nil=>intro _;rfl
  | cons c t ih =>intro h;unfold pB;rw [Tu (show c.err=0 from (h 0 (Az _)).ck)];exact ih fun i hi=>h (i+1) (by simpa using hi)
 have g:∀ (n:Int) (l:List Ck),(∀ i,i<l.length→(l.getD i default).len=n)→wF n l=true:=by
  intro n l;induction l with
  | nil=>intro _;rfl
  | cons c t ih =>intro h;unfold wF;rw [bZ,decide_eq_true_eq];exact ⟨h 0 (Az _),ih fun i hi=>h (i+1) (by simpa using hi)⟩
 have:=h.n6;have:=h.n0;unfold lE;rw [Zv (by omega),Zv (by omega),Zv (by omega),Tu (f l h.ok),Tu (g _ l h.len)]
theorem DK.low {l:List Ck} (h:DK l):sG l:=fun i hi=>by have h1:=(h.ok i hi).l1;have h2:=(h.ok i hi).l2;exact ⟨by omega,by omega⟩
theorem DK.fin {l:List Ck} (h:DK l):gP l:=fun i hi=>by have h1:=(h.ok i hi).l1;have h2:=(h.ok i hi).l2;exact ⟨by omega,by omega⟩
def mU (agent kind an ad bn bd cn cd:Int):PV:=.agg [.int .i64 agent,.int .u8 kind,.int .i64 an,.int .i64 ad,.int .i64 bn,.int .i64 bd,.int .i64 cn,.int .i64 cd]
def iW (l:List Ck) (m:Nat) (agent:Int) (ans:Ck→Except Int Rat):Except Int Rat:=
 if lE l m=0 then (if 0≤agent∧agent<l.length then (match ans (l.getD agent.toNat default) with
  | .ok p=>if m≥2000 then .error 4 else .ok p
  | .error e=>.error e) else .error 2) else .error (lE l m)
def qryK (l:List Ck) (lg:List PV) (row:Rat→PV) (e:Except Int Rat) (K:List PV→List PV→Int→Int→Int→Prop):Prop:=
 match e with
 | .ok p=>K (aJ l) (lg++[row p]) p.num p.den 0
 | .error c=>K [] [] 0 0 c
theorem Yk {w:(List PV→List PV→Int→Int→Int→Prop)→Prop} {l:List Ck} {lg:List PV} {row:Rat→PV} {e:Except Int Rat} (det:∀ r0 r1 r2 r3 r4,(∀ K:List PV→List PV→Int→Int→Int→Prop,K r0 r1 r2 r3 r4→w K)→∀ K,w K=K r0 r1 r2 r3 r4)
  (h:∀ K,qryK l lg row e K→w K) (K):w K=qryK l lg row e K:=by
 cases e with
 | ok q=>exact det _ _ _ _ _ h K
 | error c=>exact det _ _ _ _ _ h K
theorem xa {z q:PV} {lg:List PV} {m:Nat} (hm:m=lg.length) :
  take ((0+m)+1) ((take (0+(0+m)) (lg++(drop (0+m) (replicate (m+1) z))))++(([q]:List PV)++(drop ((0+(0+m))+1) (lg++(drop (0+m) (replicate (m+1) z))))))=lg++[q]:=by
 subst hm;simp;rw [xY (by simp)]
theorem Yl (lg:List PV) (agent:Int) (K:Bool→Prop):FN (aJ l) lg agent K=K (decide (0≤agent∧agent<l.length)):=by
 unfold FN Vn;rw [iE]
 by_cases h:agent≥0
 ·rw [aO h];congr 1;rw [Aab];omega
 ·rw [aP h,Pn (by omega)]
theorem yPZ (lg:List PV) (agent:Int) (K:Bool→Prop):NI (aJ l) lg agent K=K (decide (0≤agent∧agent<l.length)):=by
 unfold NI WA;rw [iE]
 by_cases h:agent≥0
 ·rw [aO h];congr 1;rw [Aab];omega
 ·rw [aP h,Pn (by omega)]
def Ck.mark (an ad vn vd:Int) (c:Ck):Except Int Rat:=jK c.len c.cuts c.dens an ad vn vd
def Ck.value (an ad bn bd:Int) (c:Ck):Except Int Rat:=kC c.len c.cuts c.dens an ad bn bd
theorem xb (hf:gP l) (hl:l.length<4611686018427387904) {lg:List PV} (hlg:iY 8 lg=true) {agent an ad vn vd:Int} (ha:bE an) (ha':bE ad) (hv:bE vn) (hv':bE vd) (K) :
  Bj (aJ l) lg agent an ad vn vd K=qryK l lg (fun p=>mU agent 2 an ad vn vd p.num p.den) (iW l lg.length agent (Ck.mark an ad vn vd)) K:=by
 refine Yk (fun r0 r1 r2 r3 r4 h K=>yHJ _ _ _ _ _ _ _ r0 r1 r2 r3 r4 h K) (fun K k=>?_) K;unfold Bj Vx;unfold iW at k;rw [Ki hf hl]
 by_cases h:lE l lg.length=0
 case neg=>rw [dB h];rw [Zv h] at k;exact k
 obtain ⟨hd,hm⟩:=OH h;rw [Tu h] at k;rw [cS h,Yl]
 by_cases h2:0≤agent∧agent<l.length
 case neg=>rw [Pn h2,jT,aY];rw [Zv h2] at k;exact k
 rw [Tu h2] at k;obtain ⟨a,rfl⟩:∃ a:Nat,agent=a:=⟨agent.toNat,by omega⟩;have ha2:a<l.length:=by omega
 rw [cP] at k;obtain ⟨f1,f2⟩:=hf a ha2;rw [Os h2,jF,aV,Vt,Vs,iE,cP,nI ha2,aI (by omega),aI (by omega),eO,mT,qR,qS,yPS (by omega) (by omega) ha ha' hv hv'];have em:Ck.mark an ad vn vd (l.getD a default)=jK (l.getD a default).len (l.getD a default).cuts (l.getD a default).dens an ad vn vd:=rfl;rw [em] at k
 cases hr:jK (l.getD a default).len (l.getD a default).cuts (l.getD a default).dens an ad vn vd with
 | error c=>
  rw [hr] at k;have k:K [] [] 0 0 c:=k;rw [DO];have hc:c≠0:=by
   intro hc;subst hc;unfold jK at hr;split at hr
   ·split at hr
    ·unfold mrkC at hr;split at hr
     ·cases hr
     ·have no:∀ (r i:Nat) (p v:Rat),mrkS (l.getD a default).cuts (l.getD a default).dens r i p v≠.error 0:=by
       intro r;induction r with
       | zero=>intro i p v e;unfold mrkS at e;cases e
       | succ r ih=>
        intro i p v e;unfold mrkS fO at e
        repeat' (first | split at e | dsimp only at e)
        all_goals first | exact ih _ _ _ e | cases e
      exact no _ _ _ _ hr
    ·cases hr
   ·rename_i h5;exact h5 (Except.error.inj hr)
  rw [dB hc];exact k
 | ok p=>
  rw [hr] at k;rw [DN,cS rfl]
  by_cases h3:lg.length≥2000
  ·rw [aO (by omega)];have k:qryK l lg _ (if lg.length≥2000 then .error 4 else .ok p) K:=k;rw [Tu h3] at k;exact k
  ·have k:qryK l lg _ (if lg.length≥2000 then .error 4 else .ok p) K:=k;rw [Zv h3] at k;have k:K (aJ l) (lg++[mU a 2 an ad vn vd p.num p.den]) p.num p.den 0:=k;have e1:=eF (n:=(lg.length:Int)+1) (by omega) (by omega);have e2:((lg.length:Int)+1).toNat=lg.length+1:=by omega
   rw [aP (by omega),e1,e2,aI (by omega),aI (by unfold room;omega),wu hd.low (by have:=hd.n6;omega),hlg,dI];rw [aI (by simp),aI (by omega)]
   cases hlg2:lg with
   | nil =>rw [Eg,aY,aI (by simp),aI (by simp),aI (by simp),aI (by simp),aI (by simp)];rw [hlg2] at k;exact k
   | cons x t =>rw [← hlg2,show isEmpty lg=false by rw [hlg2];rfl,aV,aI (by omega),aI (by simp),aI (by omega),aI (by omega),aI (by simp),aI (by omega)];rw [xa rfl];exact k
theorem yP0 (cuts dens:List Int):∀ (r i:Nat) (p v:Rat),mrkS cuts dens r i p v≠.error 0:=by
 intro r;induction r with
 | zero=>intro i p v e;unfold mrkS at e;cases e
 | succ r ih=>
  intro i p v e;unfold mrkS fO at e
  repeat' (first | split at e | dsimp only at e)
  all_goals first | exact ih _ _ _ e | cases e
theorem yP1 {len:Int} {cuts dens:List Int} {an ad vn vd:Int}:jK len cuts dens an ad vn vd≠.error 0:=by
 intro hr;unfold jK at hr;split at hr
 ·split at hr
  ·unfold mrkC at hr;split at hr
   ·cases hr
   ·exact yP0 _ _ _ _ _ _ hr
  ·cases hr
 ·rename_i h5;exact h5 (Except.error.inj hr)
theorem yP2 (cuts dens:List Int) (b:Rat):∀ (r i:Nat) (p v:Rat),valS cuts dens b r i p v≠.error 0:=by
 intro r;induction r with
 | zero=>intro i p v e;unfold valS at e;cases e
 | succ r ih=>
  intro i p v e;unfold valS fO at e
  repeat' (first | split at e | dsimp only at e)
  all_goals first | exact ih _ _ _ e | cases e
theorem xc {len:Int} {cuts dens:List Int} {an ad vn vd:Int}:kC len cuts dens an ad vn vd≠.error 0:=by
 intro hr;unfold kC at hr;split at hr
 ·split at hr
  ·exact yP2 _ _ _ _ _ _ _ hr
  ·cases hr
 ·rename_i h5;exact h5 (Except.error.inj hr)
def sH (kind an ad bn bd:Int) (c:Ck):Except Int Rat:=if kind=1 then c.value an ad bn bd else c.mark an ad bn bd
theorem yP3 {kind an ad bn bd:Int} {c:Ck}:sH kind an ad bn bd c≠.error 0:=by
 unfold sH;split
 ·exact xc
 ·exact yP1
theorem yOv (hf:gP l) (hl:l.length<4611686018427387904) {lg:List PV} (hlg:iY 8 lg=true) {agent an ad vn vd:Int} (ha:bE an) (ha':bE ad) (hv:bE vn) (hv':bE vd) (K) :
  yaz (aJ l) lg agent an ad vn vd K=qryK l lg (fun p=>mU agent 1 an ad vn vd p.num p.den) (iW l lg.length agent (Ck.value an ad vn vd)) K:=by
 refine Yk (fun r0 r1 r2 r3 r4 h K=>yFk _ _ _ _ _ _ _ r0 r1 r2 r3 r4 h K) (fun K k=>?_) K;unfold yaz VA;unfold iW at k;rw [Ki hf hl]
 by_cases h:lE l lg.length=0
 case neg=>rw [dB h];rw [Zv h] at k;exact k
 obtain ⟨hd,hm⟩:=OH h;rw [Tu h] at k;rw [cS h,Yl]
 by_cases h2:0≤agent∧agent<l.length
 case neg=>rw [Pn h2,jT,aY];rw [Zv h2] at k;exact k
 rw [Tu h2] at k;obtain ⟨a,rfl⟩:∃ a:Nat,agent=a:=⟨agent.toNat,by omega⟩;have ha2:a<l.length:=by omega
 rw [cP] at k;obtain ⟨f1,f2⟩:=hf a ha2;rw [Os h2,jF,aV,Vz,Vy,iE,cP,nI ha2,aI (by omega),aI (by omega),eO,mT,qR,qS,yOs (by omega) (by omega) ha ha' hv hv'];have em:Ck.value an ad vn vd (l.getD a default)=kC (l.getD a default).len (l.getD a default).cuts (l.getD a default).dens an ad vn vd:=rfl;rw [em] at k
 cases hr:kC (l.getD a default).len (l.getD a default).cuts (l.getD a default).dens an ad vn vd with
 | error c=>
  rw [hr] at k;have k:K [] [] 0 0 c:=k;rw [DO];have hc:c≠0:=fun hc=>xc (hc ▸ hr)
  rw [dB hc];exact k
 | ok p=>
  rw [hr] at k;rw [DN,cS rfl]
  by_cases h3:lg.length≥2000
  ·rw [aO (by omega)];have k:qryK l lg _ (if lg.length≥2000 then .error 4 else .ok p) K:=k;rw [Tu h3] at k;exact k
  ·have k:qryK l lg _ (if lg.length≥2000 then .error 4 else .ok p) K:=k;rw [Zv h3] at k;have k:K (aJ l) (lg++[mU a 1 an ad vn vd p.num p.den]) p.num p.den 0:=k;have e1:=eF (n:=(lg.length:Int)+1) (by omega) (by omega);have e2:((lg.length:Int)+1).toNat=lg.length+1:=by omega
   rw [aP (by omega),e1,e2,aI (by omega),aI (by unfold room;omega),wu hd.low (by have:=hd.n6;omega),hlg,dI];rw [aI (by simp),aI (by omega)]
   cases hlg2:lg with
   | nil =>rw [Eg,aY,aI (by simp),aI (by simp),aI (by simp),aI (by simp),aI (by simp)];rw [hlg2] at k;exact k
   | cons x t =>rw [← hlg2,show isEmpty lg=false by rw [hlg2];rfl,aV,aI (by omega),aI (by simp),aI (by omega),aI (by omega),aI (by simp),aI (by omega)];rw [xa rfl];exact k
theorem yOw {a:Nat} (ha2:a<l.length) (hf:gP l) (kind:Int) {an ad bn bd:Int} (cn cd:Int) (ha:bE an) (ha':bE ad) (hb:bE bn) (hb':bE bd) (K:Int→Int→Int→Prop) :
  NJ (aJ l) a kind an ad bn bd cn cd K=exK (sH kind an ad bn bd (l.getD a default)) K:=by
 unfold NJ WD sH;obtain ⟨f1,f2⟩:=hf a ha2;rw [iE,cP,nI ha2]
 by_cases h:kind=1
 ·rw [nZ h,Tu h,aI (by omega),aI (by omega),eO,mT,qR,qS,yOu (by omega) (by omega) ha ha' hb hb'];rfl
 ·rw [oA h,Zv h,aI (by omega),aI (by omega),eO,mT,qR,qS,yPV (by omega) (by omega) ha ha' hb hb'];rfl
theorem xe (hf:gP l) (hl:l.length<4611686018427387904) {lg:List PV} (hlg:iY 8 lg=true) {agent:Int} (kind:Int) {an ad bn bd:Int} (cn cd:Int) (ha:bE an) (ha':bE ad) (hb:bE bn) (hb':bE bd) (K) :
  Df (aJ l) lg agent kind an ad bn bd cn cd K=qryK l lg (fun p=>mU agent kind an ad bn bd p.num p.den) (iW l lg.length agent (sH kind an ad bn bd)) K:=by
 refine Yk (fun r0 r1 r2 r3 r4 h K=>yFz _ _ _ _ _ _ _ _ _ _ r0 r1 r2 r3 r4 h K) (fun K k=>?_) K;unfold Df WH;unfold iW at k;rw [OF hf hl]
 by_cases h:lE l lg.length=0
 case neg=>rw [dB h,OF hf hl];rw [Zv h] at k;exact k
 obtain ⟨hd,hm⟩:=OH h;rw [Tu h] at k;rw [cS h,yPZ]
 by_cases h2:0≤agent∧agent<l.length
 case neg=>rw [Pn h2,jT,aY];rw [Zv h2] at k;exact k
 rw [Tu h2] at k;obtain ⟨a,rfl⟩:∃ a:Nat,agent=a:=⟨agent.toNat,by omega⟩;have ha2:a<l.length:=by omega
 rw [cP] at k;rw [Os h2,jF,aV,yOw ha2 hf kind cn cd ha ha' hb hb']
 cases hr:sH kind an ad bn bd (l.getD a default) with
 | error c=>
  rw [hr] at k;have k:K [] [] 0 0 c:=k;rw [DO];have hc:c≠0:=fun hc=>yP3 (hc ▸ hr)
  rw [dB hc];exact k
 | ok p=>
  rw [hr] at k;rw [DN,cS rfl]
  by_cases h3:lg.length≥2000
  ·rw [nZ (by omega)];have k:qryK l lg _ (if lg.length≥2000 then .error 4 else .ok p) K:=k;rw [Tu h3] at k;exact k
  ·have k:qryK l lg _ (if lg.length≥2000 then .error 4 else .ok p) K:=k;rw [Zv h3] at k;have k:K (aJ l) (lg++[mU a kind an ad bn bd p.num p.den]) p.num p.den 0:=k;rw [oA (by omega),yPX hd.low (by have:=hd.n6;omega),hlg,dI]
   cases hlg2:lg with
   | nil =>rw [Eg,aY];rw [hlg2] at k;exact k
   | cons x t =>rw [← hlg2,show isEmpty lg=false by rw [hlg2];rfl,aV,aI (by unfold room;omega),aI rfl,aI (by omega),cW (by rw [Pn (by omega)];rfl),aI rfl,aI (by unfold room;omega),aI rfl,aI (by omega),GF];exact k
theorem yP4 (hf:gP l) (hl:l.length<4611686018427387904) {lg:List PV} (hlg:iY 8 lg=true) {agent an ad vn vd:Int} (ha:bE an) (ha':bE ad) (hv:bE vn) (hv':bE vd) (K) :
  Gf (aJ l) lg agent an ad vn vd K=qryK l lg (fun p=>mU agent 2 an ad vn vd p.num p.den) (iW l lg.length agent (Ck.mark an ad vn vd)) K:=by
 unfold Gf WJ;rw [xe hf hl hlg 2 0 0 ha ha' hv hv'];rfl
theorem yOx (hf:gP l) (hl:l.length<4611686018427387904) {lg:List PV} (hlg:iY 8 lg=true) {agent an ad vn vd:Int} (ha:bE an) (ha':bE ad) (hv:bE vn) (hv':bE vd) (K) :
  Dg (aJ l) lg agent an ad vn vd K=qryK l lg (fun p=>mU agent 1 an ad vn vd p.num p.den) (iW l lg.length agent (Ck.value an ad vn vd)) K:=by
 unfold Dg WK;rw [xe hf hl hlg 1 0 0 ha ha' hv hv'];rfl
def OI (l:List Ck):Bool:=l.any (fun c=>decide (c.cuts.length>60)||decide (c.dens.length>60))||decide (l.length>10)
theorem yOy {len:Int} {cuts dens:List Int} (K:Bool→Prop):CY len (aR cuts) (aR dens) K=K (decide (cuts.length>60)||decide (dens.length>60)):=by
 unfold CY We;rw [fB,fB]
 by_cases h:cuts.length>60
 ·rw [aO (by omega),Os h];rfl
 ·rw [aP (by omega),Pn h,Bool.false_or];congr 1;rw [Aab];omega
theorem xf (hl:l.length≤9223372036854775807) (K:Bool→Prop) :
  ∀ (r i n:Nat),i+r=l.length→r<n→Ga CY (fun a=>(K a)) (fun b _ _=>(K (decide ((((length b):Nat):Int)>(10:Int))))) n (aJ l) i =
   K ((l.drop i).any (fun c=>decide (c.cuts.length>60)||decide (c.dens.length>60))||decide (l.length>10))
 | 0,i,n+1,hi,hn=>by unfold Ga;rw [iE,aP (by omega),qW (by omega)];show K _=K (false||_);rw [Bool.false_or];congr 1;rw [Aab];omega
 | r+1,i,n+1,hi,hn=>by
  unfold Ga;have e1:=eF (n:=(i:Int)+1) (by omega) (by omega);rw [iE,aO (by omega),cP,nI (by omega),aI (by omega),aI (by omega),eO,mT,qR,qS,yOy,kD default (by omega),List.any_cons,e1,hO]
  cases hb:(decide ((l.getD i default).cuts.length>60)||decide ((l.getD i default).dens.length>60)) with
  | true=>rw [aY];rfl
  | false=>rw [aV,Bool.false_or];exact xf hl K r (i+1) n (by omega) (by omega)
theorem yFH (hl:l.length≤9223372036854775807) (K:Bool→Prop):Gb (aJ l) K=K (OI l):=by refine ywV _ _ (fun K k=>?_) K;unfold Gb Wu;refine ⟨l.length+1,?_⟩;have:=xf hl K l.length 0 (l.length+1) (by omega) (by omega);rw [show ((0:Nat):Int)=0 from rfl,mX] at this;rw [this];exact k
theorem yMe (h:OI l=false):l.length≤10∧sG l∧gP l:=by
 unfold OI at h;simp only [Aw,decide_eq_false_iff_not,List.any_eq_false,Bool.not_eq_true,Nat.not_lt] at h;have hh:∀ i,i<l.length→(l.getD i default).cuts.length≤60∧(l.getD i default).dens.length≤60:=by
  intro i hi;have hm:l.getD i default∈l:=by rw [dK,dL hi];exact wP hi
  have:=h.1 _ hm;omega
 exact ⟨by omega,fun i hi=>⟨by have:=hh i hi;omega,by have:=hh i hi;omega⟩,fun i hi=>⟨by have:=hh i hi;omega,by have:=hh i hi;omega⟩⟩
theorem yOz {n d:Int} (hn:-1000000000000000000≤n∧n≤1000000000000000000) (hd:1≤d∧d≤1000000000000000000):small ((n:Rat)/(d:Rat)):=by
 have e:(n:Rat)/(d:Rat)=mkRat n d.toNat:=by
  rw [Rat.mkRat_eq_div];have h1:((d.toNat:Nat):Int)=d:=by omega
  have h2:((d.toNat:Nat):Rat)=(d:Rat):=by rw [← Rat.intCast_natCast,h1]
  rw [h2]
 rw [e];unfold small;rw [Rat.num_mkRat,Rat.den_mkRat,Zv (by omega),Zv (by omega)];have g0:0<d.toNat.gcd n.natAbs:=Nat.gcd_pos_of_pos_left _ (by omega);have h1:(n/(d.toNat.gcd n.natAbs:Nat)).natAbs≤n.natAbs:=by
  rw [Int.natAbs_ediv_of_dvd,GW]
  ·exact oG _ _
  ·rw [← Int.dvd_natAbs,Int.ofNat_dvd];exact GY _ _
 have h2:d.toNat/d.toNat.gcd n.natAbs≤d.toNat:=oG _ _;generalize n/(d.toNat.gcd n.natAbs:Nat)=x at *
 generalize d.toNat/d.toNat.gcd n.natAbs=y at *
 omega
end
theorem GG {D:Int} (h:1≤D):(D:Rat)≠0:=fun e=>by have:=Rat.intCast_eq_zero_iff.1 e;omega
section
variable {len:Int} {cuts dens:List Int}
def rem (cuts dens:List Int):Nat→Nat→Int
 | 0,_=>0
 | r+1,i=>dens.getD i 0*(cuts.getD (i+1) 0-cuts.getD i 0)+rem cuts dens r (i+1)
theorem Ym (cuts dens:List Int):∀ (r i:Nat) (s:Int),jJ cuts dens r i s=s+rem cuts dens r i
 | 0,i,s=>by unfold jJ rem;omega
 | r+1,i,s=>by unfold jJ rem;rw [Ym cuts dens r (i+1)];omega
theorem xg (h:VC len cuts dens):∀ (r i:Nat),i+r=dens.length→0≤rem cuts dens r i∧rem cuts dens r i≤12*(len-cuts.getD i 0)
 | 0,i,hi=>by have:=h.l1;have:=h.hi (i:=i) (by omega);unfold rem;omega
 | r+1,i,hi=>by unfold rem;have l1:=h.l1;have h2:=h.step (i:=i) (by omega);have h3:=Kh (h.den (i:=i) (by omega)) (x:=cuts.getD (i+1) 0-cuts.getD i 0) (by omega);have:=xg h r (i+1) (by omega);omega
theorem xh (h:VC len cuts dens):∀ (r i:Nat),i+r=dens.length→(∃ j,i≤j∧j<dens.length∧0<dens.getD j 0)→0<rem cuts dens r i
 | 0,i,hi,⟨j,h1,h2,_⟩=>by omega
 | r+1,i,hi,⟨j,h1,h2,h3⟩=>by
  unfold rem;have l1:=h.l1;have s:=h.step (i:=i) (by omega);have m:=Kh (h.den (i:=i) (by omega)) (x:=cuts.getD (i+1) 0-cuts.getD i 0) (by omega);have b:=xg h r (i+1) (by omega)
  by_cases e:j=i
  ·subst e;have:=Int.mul_pos h3 (show 0<cuts.getD (j+1) 0-cuts.getD j 0 by omega);omega
  ·have:=xh h r (i+1) (by omega) ⟨j,by omega,h2,h3⟩;omega
theorem yP5 (h:VC len cuts dens):0<totC cuts dens:=by unfold totC;rw [Ym];obtain ⟨d,hd,h0⟩:=h.2.2.2.2.2.2.2.2.2;obtain ⟨j,hj,e⟩:=List.mem_iff_getElem.1 hd;have:=xh h dens.length 0 (by omega) ⟨j,by omega,hj,by rw [dK,dL hj];simpa [e] using h0⟩;omega
end
structure Qy where
 agent:Int
 kind:Int
 an:Int
 ad:Int
 bn:Int
 bd:Int
 cn:Int
 cd:Int
 deriving DecidableEq
instance:Inhabited Qy:=⟨⟨0,0,0,0,0,0,0,0⟩⟩
def fK (q:Qy):PV:=mU q.agent q.kind q.an q.ad q.bn q.bd q.cn q.cd
def aF (l:List Qy):List PV:=l.map fK
theorem xS (l:List Qy):(aF l).length=l.length:=lY ..
theorem xi {l:List Qy} {i:Nat} (h:i<l.length):getD (aF l) i .nils=fK (l.getD i default):=by unfold aF;rw [dK,dK,pE,dL h];rfl
theorem Kj (l:List Qy):iY 8 (aF l)=true:=by cases l<;>rfl
theorem Yn (l m:List Qy):aF (l++m)=aF l++aF m:=List.map_append ..
theorem xj {q:Qy} {P:Prop}:aB (aE (.agg [.i .i64,.i .u8,.i .i64,.i .i64,.i .i64,.i .i64,.i .i64,.i .i64]) (fK q)) P=P:=rfl
theorem qeq (q r:Qy):((q.agent==r.agent)&&((q.kind==r.kind)&&((q.an==r.an)&&((q.ad==r.ad)&&((q.bn==r.bn)&&((q.bd==r.bd)&&((q.cn==r.cn)&&((q.cd==r.cd)&&true))))))))=decide (q=r):=by
 cases q;cases r
 rw [Bool.eq_iff_iff];simp
theorem yOA {α:Type} [DecidableEq α] (d:α) {a b:List α} {i:Nat} (ha:i<a.length) (hb:i<b.length):decide (a.drop i=b.drop i)=(decide (a.getD i d=b.getD i d)&&decide (a.drop (i+1)=b.drop (i+1))):=by rw [kD d ha,kD d hb,Bool.eq_iff_iff];simp
theorem xk {a b:List Qy} (hab:a.length=b.length) (hl:a.length<4611686018427387904) (K:Bool→Prop) :
  ∀ (r i n:Nat),i+r=a.length→r<n→Dh (fun d=>K d) (fun _ _ _ _=>K true) n (aF a) (aF b) i=K (decide (a.drop i=b.drop i))
 | 0,i,n+1,hi,hn=>by unfold Dh;rw [xS,aP (by omega),qW (by omega),qW (by omega)];rfl
 | r+1,i,n+1,hi,hn=>by
  unfold Dh;have e1:=eF (n:=(i:Int)+1) (by omega) (by omega);rw [xS,aO (by omega),xS,cP,xi (by omega),xi (by omega),aI (by omega),aI (by omega),xj,aI (by omega),aI (by omega),xj,yOA default (by omega) (by omega),e1,hO];have q2:((aC (aD (fK (a.getD i default)) 0)==aC (aD (fK (b.getD i default)) 0))&&((aC (aD (fK (a.getD i default)) 1)==aC (aD (fK (b.getD i default)) 1))&&((aC (aD (fK (a.getD i default)) 2)==aC (aD (fK (b.getD i default)) 2))&&((aC (aD (fK (a.getD i default)) 3)==aC (aD (fK (b.getD i default)) 3))&&((aC (aD (fK (a.getD i default)) 4)==aC (aD (fK (b.getD i default)) 4))&&((aC (aD (fK (a.getD i default)) 5)==aC (aD (fK (b.getD i default)) 5))&&((aC (aD (fK (a.getD i default)) 6)==aC (aD (fK (b.getD i default)) 6))&&((aC (aD (fK (a.getD i default)) 7)==aC (aD (fK (b.getD i default)) 7))&&true))))))))=decide (a.getD i default=b.getD i default):=qeq (a.getD i default) (b.getD i default);have ih:=xk hab hl K r (i+1) n (by omega) (by omega);refine (Aaa (fun c=>aA (!c) (K false) (Dh (fun d=>K d) (fun e f g h=>K true) n (aF a) (aF b) ((i+1:Nat):Int))) q2).trans ?_
  cases decide (a.getD i default=b.getD i default) with
  | true=>rw [jF,aV,jU];exact ih
  | false=>rw [jT,aY,qI]
theorem yKH {a b:List Qy} (ha:a.length<4611686018427387904) (_:b.length<4611686018427387904) (K:Bool→Prop):Bn (aF a) (aF b) K=K (decide (a=b)):=by
 refine yAd _ _ _ (fun K k=>?_) K;unfold Bn WL;rw [xS,xS]
 by_cases h:a.length=b.length
 ·rw [cS (by omega)];refine ⟨a.length+1,?_⟩;have:=xk h ha K a.length 0 (a.length+1) (by omega) (by omega);rw [show ((0:Nat):Int)=0 from rfl,mX,mX] at this;exact this.mpr k
 ·rw [dB (by omega)];rw [Pn (fun e=>h (by rw [e]))] at k;exact k
structure Sp where
 a:Int
 b:Int
 c:Int
 d:Int
 deriving DecidableEq
instance:Inhabited Sp:=⟨⟨0,0,0,0⟩⟩
def aN (s:Sp):PV:=.agg [.int .i64 s.a,.int .i64 s.b,.int .i64 s.c,.int .i64 s.d]
def kQ (l:List Sp):List PV:=l.map aN
def Ak (l:List (List Sp)):List PV:=l.map fun s=>.data (kQ s)
theorem Kk (l:List Sp):(kQ l).length=l.length:=lY ..
theorem Yo {l:List Sp} {i:Nat} (h:i<l.length):getD (kQ l) i .nils=aN (l.getD i default):=by unfold kQ;rw [dK,dK,pE,dL h];rfl
theorem xm (l:List (List Sp)):(Ak l).length=l.length:=lY ..
theorem yOB {l:List (List Sp)} {i:Nat} (h:i<l.length):getD (Ak l) i .nils=.data (kQ (l.getD i [])):=by unfold Ak;rw [dK,dK,pE,dL h];rfl
theorem xo {s:Sp} {P:Prop}:aB (aE z4 (aN s)) P=P:=rfl
theorem xq {r:List PV} {P:Prop}:aB (aE zD (.data r)) P=P:=rfl
theorem xr {s:List Sp} (hl:s.length<4611686018427387904) (K:Bool→Prop) :
  ∀ (r i n:Nat),i+r=s.length→r<n→Gm (fun a=>(K a)) (fun _ _ _ _=>(K true)) n (kQ s) (kQ s) i=K true
 | 0,i,n+1,hi,hn=>by unfold Gm;rw [Kk,aP (by omega)]
 | r+1,i,n+1,hi,hn=>by unfold Gm;have e1:=eF (n:=(i:Int)+1) (by omega) (by omega);rw [Kk,aO (by omega),cP,Yo (by omega),aI (by omega),aI (by omega),xo,aI (by omega),aI (by omega),xo,e1,hO];simp only [beq_self_eq_true,Bool.and_self,jF,aV];exact xr hl K r (i+1) n (by omega) (by omega)
theorem yMf {s:List Sp} (hl:s.length<4611686018427387904) (K:Bool→Prop):xQ (kQ s) (kQ s) K=K true:=by refine yIq _ _ _ (fun K k=>?_) K;unfold xQ Xa;rw [cS rfl];refine ⟨s.length+1,?_⟩;exact (xr hl K s.length 0 (s.length+1) (by omega) (by omega)).mpr k
theorem xt {l:List (List Sp)} (hf:∀ i,i<l.length→(l.getD i []).length<4611686018427387904) (hl:l.length<4611686018427387904) (K:Bool→Prop) :
  ∀ (r i n:Nat),i+r=l.length→r<n→Gn xQ (fun a=>(K a)) (fun _ _ _ _=>(K true)) n (Ak l) (Ak l) i=K true
 | 0,i,n+1,hi,hn=>by unfold Gn;rw [xm,aP (by omega)]
 | r+1,i,n+1,hi,hn=>by unfold Gn;have e1:=eF (n:=(i:Int)+1) (by omega) (by omega);rw [xm,aO (by omega),cP,yOB (by omega),aI (by omega),aI (by omega),xq,aI (by omega),aI (by omega),xq];show xQ (kQ (l.getD i [])) (kQ (l.getD i [])) _=_;rw [yMf (hf i (by omega)),jF,aV,e1,hO];exact xt hf hl K r (i+1) n (by omega) (by omega)
theorem xu {l:List (List Sp)} (hf:∀ i,i<l.length→(l.getD i []).length<4611686018427387904) (hl:l.length<4611686018427387904) (K:Bool→Prop):Bp (Ak l) (Ak l) K=K true:=by refine yIr _ _ _ (fun K k=>?_) K;unfold Bp Xc;rw [cS rfl];refine ⟨l.length+1,?_⟩;exact (xt hf hl K l.length 0 (l.length+1) (by omega) (by omega)).mpr k
def DP (e:Except Int Rat):Rat:=match e with | .ok q=>q | .error _=>0
theorem xw {e:Except Int Rat} {q:Rat} (h:e=.ok q):e=.ok (DP e)∧DP e=q:=by subst h;exact ⟨rfl,rfl⟩
section
variable {l:List Ck}
theorem yOC (K:Bool→Prop):Bp [] [] K=K true:=xu (l:=[]) (fun i hi=>absurd hi (Nat.not_lt_zero i)) (by decide) K
theorem xx {a:List Qy} (ha:a.length<4611686018427387904) (K:Bool→Prop):Bn (aF a) (aF a) K=K true:=by rw [yKH ha ha,Os rfl]
theorem yIH (K:Bool→Prop):Bn [] [] K=K true:=xx (a:=[]) (by decide) K
end
def Bx:DS:=.a [.i .i64,.s (.i .i64),.s (.i .i64)]
theorem xz {n:Int} (h:iZ .i64 n):bE n:=by
 have e1:i64.min=-9223372036854775808:=by decide
 have e2:i64.max=9223372036854775807:=by decide
 unfold iZ at h;rw [e1,e2] at h;exact h
theorem F_i {c:List PV} (h:HasF (.i .i64) c):∃ n,c=[.int .i64 n]∧bE n:=by simp only [HasF] at h;obtain ⟨n,e,k⟩:=h;exact ⟨n,e,xz k⟩
theorem Yp:∀ (rows:List PV),(∀ x∈rows,x.isAgg=(DS.i .i64).isA∧HasF (.i .i64) x.cells)→∃ l:List Int,rows=aR l∧∀ n∈l,bE n
 | [],_=>⟨[],rfl,by simp⟩
 | x::r,h=>by
  obtain ⟨l,e,hl⟩:=Yp r (fun y hy=>h y (fC _ hy));obtain ⟨h1,h2⟩:=h x (dS ..);obtain ⟨n,e2,hn⟩:=F_i h2;have ex:x=.int .i64 n:=by
   cases x<;>first | (simp only [PV.cells,kH,and_true] at e2;exact e2) | (cases h1)
  refine ⟨n::l,by rw [ex,e];rfl,?_⟩;intro m hm;rcases qAo.1 hm with rfl | hm
  ·exact hn
  ·exact hl m hm
def Ck.i64 (c:Ck):Prop:=bE c.len∧(∀ n∈c.cuts,bE n)∧∀ n∈c.dens,bE n
theorem F_c {c:List PV} (h:HasF Bx c):∃ k:Ck,c=[.int .i64 k.len,.data (aR k.cuts),.data (aR k.dens)]∧k.i64∧k.cuts.length≤9223372036854775807∧k.dens.length≤9223372036854775807:=by simp only [Bx,HasF,HasL] at h;obtain ⟨c1,c2,rfl,⟨n,rfl,hn⟩,c3,c4,rfl,⟨r1,rfl,l1,h1⟩,c5,c6,rfl,⟨r2,rfl,l2,h2⟩,rfl⟩:=h;obtain ⟨a,rfl,ha⟩:=Yp r1 (fun x hx=>⟨(h1 x hx).1,by simp only [HasF];exact (h1 x hx).2⟩);obtain ⟨b,rfl,hb⟩:=Yp r2 (fun x hx=>⟨(h2 x hx).1,by simp only [HasF];exact (h2 x hx).2⟩);rw [fB] at l1 l2;exact ⟨⟨n,a,b⟩,rfl,⟨xz hn,ha,hb⟩,l1,l2⟩
theorem ySo {x:PV} {l:List DS} (h:x.isAgg=(DS.a l).isA):x=.agg x.cells:=by
 cases x<;>first | rfl | cases h
theorem ya:∀ (rows:List PV),(∀ x∈rows,x.isAgg=Bx.isA∧HasF Bx x.cells)→∃ l:List Ck,rows=aJ l∧∀ c∈l,c.i64
 | [],_=>⟨[],rfl,by simp⟩
 | x::r,h=>by
  obtain ⟨l,e,hl⟩:=ya r (fun y hy=>h y (fC _ hy));obtain ⟨h1,h2⟩:=h x (dS ..);obtain ⟨k,e2,hk,_⟩:=F_c h2;have ex:x=qD k:=by rw [ySo h1,e2];rfl
  refine ⟨k::l,by rw [ex,e];rfl,?_⟩;intro m hm;rcases qAo.1 hm with rfl | hm
  ·exact hk
  ·exact hl m hm
theorem yST {c:List PV} (h:HasF (.s Bx) c):∃ l:List Ck,c=[.data (aJ l)]∧l.length≤9223372036854775807∧∀ k∈l,k.i64:=by simp only [HasF] at h;obtain ⟨rows,rfl,hl,hr⟩:=h;obtain ⟨l,rfl,hi⟩:=ya rows hr;rw [iE] at hl;exact ⟨l,rfl,hl,hi⟩
theorem yOD {x y:PV} (h:x.isAgg=false) (e:x.cells=[y]):x=y:=by
 cases x<;>first | (simp only [PV.cells,kH,and_true] at e;exact e) | cases h
theorem ySU {az:List PV} (h:yxF [.s Bx] az):∃ (l:List Ck),az=[.data (aJ l)]∧l.length≤9223372036854775807∧∀ k∈l,k.i64:=by simp only [yxF] at h;obtain ⟨x,r,rfl,x1,x2,rfl⟩:=h;obtain ⟨l,e1,hl,hi⟩:=yST x2;rw [yOD x1 e1];exact ⟨l,rfl,hl,hi⟩
section
variable {l:List Ck}
def fT (r:List Nat):List PV:=aR (r.map fun n:Nat=>(n:Int))
theorem yb (r:List Nat):(fT r).length=r.length:=by unfold fT;rw [fB,lY]
theorem ySp {r:List Nat} {i:Nat} (h:i<r.length):getD (fT r) i .nils=.int .i64 (r.getD i 0):=by unfold fT;rw [XU (by rw [lY];exact h)];rw [dK,pE,dL h,dK,dL h];rfl
end
end Go.Pf.Vc
namespace Go.Pf.Vc
abbrev RS:Type:=Rat×Rat
def wG (s:RS) (p:Rat):Prop:=s.1≤p∧p<s.2
def memP (l:List RS) (p:Rat):Prop:=∃ s∈l,wG s p
def qE:List RS→Prop
 | []=>True
 | s::r=>s.1<s.2∧(∀ t∈r,s.2<t.1)∧qE r
theorem DQ {p:Rat}:¬memP [] p:=fun ⟨s,h,_⟩=>by cases h
theorem ycx {s:RS} {r:List RS} {p:Rat}:memP (s::r) p↔wG s p∨memP r p:=by
 constructor
 ·rintro ⟨t,h,hp⟩;rcases qAo.1 h with rfl | h
  ·exact .inl hp
  ·exact .inr ⟨t,h,hp⟩
 ·rintro (h | ⟨t,h,hp⟩)
  ·exact ⟨s,dS,h⟩
  ·exact ⟨t,fC _ h,hp⟩
theorem ye {s:RS} {r:List RS} (h:qE (s::r)) {p:Rat} (hp:memP (s::r) p):s.1≤p:=by
 obtain ⟨h1,h2,_⟩:=h;rcases ycx.1 hp with h | ⟨t,h,hp,_⟩
 ·exact h.1
 ·have:=h2 t h;grind
theorem Yq {s:RS} {r:List RS} (h:qE (s::r)) {p:Rat} (hp:memP r p):s.2<p:=by obtain ⟨t,ht,h1,_⟩:=hp;have:=h.2.1 t ht;grind
theorem OJ {s:RS} {r:List RS} (h:qE (s::r)):memP (s::r) s.1:=ycx.2 (.inl ⟨gQ,h.1⟩)
theorem yf:∀ (a b:List RS),qE a→qE b→(∀ p,memP a p↔memP b p)→a=b
 | [],[],_,_,_=>rfl
 | [],t::b,_,hb,h=>(DQ ((h t.1).2 (OJ hb))).elim
 | s::a,[],ha,_,h=>(DQ ((h s.1).1 (OJ ha))).elim
 | s::a,t::b,ha,hb,h=>by
  have e1:s.1=t.1:=by have h1:=ye hb ((h s.1).1 (OJ ha));have h2:=ye ha ((h t.1).2 (OJ hb));grind
  have key:∀ (s t:RS) (a b:List RS),qE (s::a)→qE (t::b)→s.1=t.1→(∀ p,memP (s::a) p↔memP (t::b) p)→¬s.2<t.2:=by
   intro s t a b ha hb e h hlt;have h1:=(h s.2).2 (ycx.2 (.inl ⟨by have:=ha.1;grind,hlt⟩));rcases ycx.1 h1 with h2 | h2
   ·have:=h2.2;grind
   ·have:=Yq ha h2;grind
  have e2:s.2=t.2:=by
   have h1:=key s t a b ha hb e1 h;have h2:=key t s b a hb ha e1.symm fun p=>(h p).symm
   grind
  have e:s=t:=Prod.ext e1 e2;subst e;have hab:a=b:=by
   refine yf a b ha.2.2 hb.2.2 fun p=>⟨fun hp=>?_,fun hp=>?_⟩
   ·have h1:=Yq ha hp;rcases ycx.1 ((h p).1 (ycx.2 (.inr hp))) with h2 | h2
    ·have:=h2.2;grind
    ·exact h2
   ·have h1:=Yq hb hp;rcases ycx.1 ((h p).2 (ycx.2 (.inr hp))) with h2 | h2
    ·have:=h2.2;grind
    ·exact h2
  rw [hab]
def bX (a b:Rat):Rat:=if a<b then b else a
def oB:List RS→RS→List RS
 | [],c=>[c]
 | s::r,c=>if c.2<s.1 then c::oB r s else oB r (c.1,bX c.2 s.2)
def DR:List RS→List RS
 | []=>[]
 | s::r=>oB r s
def DT:List RS→Prop
 | []=>True
 | s::r=>(∀ t∈r,s.1≤t.1)∧DT r
theorem Yr:∀ (r:List RS) (c:RS),c.1<c.2→(∀ s∈r,s.1<s.2)→(∀ s∈r,c.1≤s.1)→DT r→qE (oB r c)∧(∀ t∈oB r c,c.1≤t.1)∧∀ p,memP (oB r c) p↔memP (c::r) p
 | [],c,hc,_,_,_=>by unfold oB;refine ⟨⟨hc,by simp,trivial⟩,fun t h=>?_,fun p=>Iff.rfl⟩;rw [oE] at h;rw [h];exact gQ
 | s::r,c,hc,hv,hl,hs=>by
  unfold oB;have hsv:=hv s dS;have hsl:=hl s dS
  by_cases h:c.2<s.1
  ·rw [Tu h];obtain ⟨i1,i2,i3⟩:=Yr r s hsv (fun t ht=>hv t (fC _ ht)) hs.1 hs.2;refine ⟨⟨hc,fun t ht=>by have:=i2 t ht;grind,i1⟩,fun t ht=>?_,fun p=>?_⟩
   ·rcases qAo.1 ht with rfl | ht
    ·exact gQ
    ·have:=i2 t ht;grind
   ·rw [ycx,i3 p,ycx,ycx,ycx]
  ·rw [Zv h];have hm:c.2≤bX c.2 s.2∧s.2≤bX c.2 s.2∧(bX c.2 s.2=c.2∨bX c.2 s.2=s.2):=by unfold bX;split<;>grind
   obtain ⟨i1,i2,i3⟩:=Yr r (c.1,bX c.2 s.2) (by show c.1<bX c.2 s.2;grind) (fun t ht=>hv t (fC _ ht)) (fun t ht=>hl t (fC _ ht)) hs.2;refine ⟨i1,i2,fun p=>?_⟩;rw [i3 p,ycx,ycx,ycx];have hin:wG (c.1,bX c.2 s.2) p↔wG c p∨wG s p:=by
    unfold wG;constructor
    ·rintro ⟨h1,h2⟩;have h2:p<bX c.2 s.2:=h2;have h1:c.1≤p:=h1
     by_cases h3:p<c.2
     ·exact .inl ⟨h1,h3⟩
     ·exact .inr ⟨by grind,by grind⟩
    ·rintro (⟨h1,h2⟩ | ⟨h1,h2⟩)
     ·exact ⟨h1,by show p<bX c.2 s.2;grind⟩
     ·exact ⟨by show c.1≤p;grind,by show p<bX c.2 s.2;grind⟩
   rw [hin,or_assoc]
theorem yg {l:List RS} (hv:∀ s∈l,s.1<s.2) (hs:DT l):qE (DR l)∧∀ p,memP (DR l) p↔memP l p:=by
 cases l with
 | nil=>exact ⟨trivial,fun p=>Iff.rfl⟩
 | cons s r =>obtain ⟨i1,_,i3⟩:=Yr r s (hv s dS) (fun t ht=>hv t (fC _ ht)) hs.1 hs.2;exact ⟨i1,i3⟩
def mJ:List Rat→Prop
 | []=>True
 | x::r=>(∀ y∈r,x<y)∧mJ r
def jn (f:Rat→Bool):List Rat→Option RS→List RS
 | x::y::r,none=>if f x then jn f (y::r) (some (x,y)) else jn f (y::r) none
 | x::y::r,some c=>if f x then (if c.2=x then jn f (y::r) (some (c.1,y)) else c::jn f (y::r) (some (x,y))) else jn f (y::r) (some c)
 | _,none=>[]
 | _,some c=>[c]
def segP (f:Rat→Bool):List Rat→Rat→Prop
 | x::y::r,p=>(f x=true∧x≤p∧p<y)∨segP f (y::r) p
 | _,_=>False
def lF:Option RS→Rat→Prop
 | none,_=>False
 | some c,p=>wG c p
def ySV (pts:List Rat):Option RS→Prop
 | none=>True
 | some c=>c.1<c.2∧∀ x∈pts,c.2≤x
def ySW (pts:List Rat):Option RS→Rat→Prop
 | none,q=>∃ x∈pts,x≤q
 | some c,q=>c.1≤q
theorem GH (f:Rat→Bool):∀ (pts:List Rat) (cur:Option RS),mJ pts→ySV pts cur →
  qE (jn f pts cur)∧(∀ t∈jn f pts cur,ySW pts cur t.1)∧∀ p,memP (jn f pts cur) p↔(lF cur p∨segP f pts p)
 | [],none,_,_=>by unfold jn;refine ⟨trivial,fun t h=>(by cases h),fun p=>?_⟩;simp only [lF,segP];exact ⟨fun h=>(DQ h).elim,fun h=>h.elim (fun h=>h.elim) (fun h=>h.elim)⟩
 | [],some c,_,hc=>by
  unfold jn;refine ⟨⟨hc.1,by simp,trivial⟩,fun t h=>?_,fun p=>?_⟩
  ·rw [oE] at h;rw [h];exact gQ
  ·rw [ycx];simp only [lF,segP];exact ⟨fun h=>h.elim .inl (fun h=>(DQ h).elim),fun h=>h.elim .inl (fun h=>h.elim)⟩
 | [x],none,_,_=>by unfold jn;refine ⟨trivial,fun t h=>(by cases h),fun p=>?_⟩;simp only [lF,segP];exact ⟨fun h=>(DQ h).elim,fun h=>h.elim (fun h=>h.elim) (fun h=>h.elim)⟩
 | [x],some c,_,hc=>by
  unfold jn;refine ⟨⟨hc.1,by simp,trivial⟩,fun t h=>?_,fun p=>?_⟩
  ·rw [oE] at h;rw [h];exact gQ
  ·rw [ycx];simp only [lF,segP];exact ⟨fun h=>h.elim .inl (fun h=>(DQ h).elim),fun h=>h.elim .inl (fun h=>h.elim)⟩
 | x::y::r,none,hi,_=>by
  have hxy:=hi.1 y dS;unfold jn
  cases hf:f x with
  | true=>
   rw [Tu rfl];obtain ⟨i1,i2,i3⟩:=GH f (y::r) (some (x,y)) hi.2 ⟨hxy,fun z hz=>by
    rcases qAo.1 hz with rfl|hz
    ·exact gQ
    ·have:=hi.2.1 z hz;show y≤z;grind⟩
   refine ⟨i1,fun t ht=>⟨x,dS,i2 t ht⟩,fun p=>?_⟩;rw [i3 p];simp only [lF,segP,wG,hf,true_and,false_or]
  | false=>
   rw [Zv (by decide)];obtain ⟨i1,i2,i3⟩:=GH f (y::r) none hi.2 trivial;refine ⟨i1,fun t ht=>?_,fun p=>?_⟩
   ·obtain ⟨z,hz,hzt⟩:=i2 t ht;exact ⟨z,fC _ hz,hzt⟩
   ·rw [i3 p];simp [lF,segP,hf]
 | x::y::r,some c,hi,hc=>by
  have hxy:=hi.1 y dS;have hcx:=hc.2 x dS;have hyr:∀ z∈y::r,y≤z:=fun z hz=>by
   rcases qAo.1 hz with rfl|hz
   ·exact gQ
   ·have:=hi.2.1 z hz;grind
  unfold jn
  cases hf:f x with
  | true=>
   rw [Tu rfl]
   by_cases he:c.2=x
   ·rw [Tu he];obtain ⟨i1,i2,i3⟩:=GH f (y::r) (some (c.1,y)) hi.2 ⟨by have:=hc.1;show c.1<y;grind,hyr⟩;refine ⟨i1,i2,fun p=>?_⟩;rw [i3 p];simp only [lF,segP,wG,hf,true_and];have:=hc.1;constructor
    ·rintro (⟨h1,h2⟩ | h)
     ·by_cases h3:p<c.2
      ·exact .inl ⟨h1,h3⟩
      ·exact .inr (.inl ⟨by grind,h2⟩)
     ·exact .inr (.inr h)
    ·rintro (⟨h1,h2⟩ | ⟨h1,h2⟩ | h)
     ·exact .inl ⟨h1,by grind⟩
     ·exact .inl ⟨by grind,h2⟩
     ·exact .inr h
   ·rw [Zv he];obtain ⟨i1,i2,i3⟩:=GH f (y::r) (some (x,y)) hi.2 ⟨hxy,hyr⟩;refine ⟨⟨hc.1,fun t ht=>?_,i1⟩,fun t ht=>?_,fun p=>?_⟩
    ·have:x≤t.1:=i2 t ht;grind
    ·rcases qAo.1 ht with rfl | ht
     ·exact gQ
     ·have:x≤t.1:=i2 t ht;have:=hc.1;show c.1≤t.1;grind
    ·rw [ycx,i3 p];simp only [lF,segP,wG,hf,true_and]
  | false =>rw [Zv (by decide)];obtain ⟨i1,i2,i3⟩:=GH f (y::r) (some c) hi.2 ⟨hc.1,fun z hz=>by have:=hyr z hz;grind⟩;refine ⟨i1,i2,fun p=>?_⟩;rw [i3 p];simp [lF,segP,hf]
def lT (a b:Rat):Rat:=if a<b then a else b
theorem qT (a b:Rat):a≤bX a b∧b≤bX a b∧(bX a b=a∨bX a b=b):=by unfold bX;split<;>grind
theorem uB (a b:Rat):lT a b≤a∧lT a b≤b∧(lT a b=a∨lT a b=b):=by unfold lT;split<;>grind
def Ys (full:List Rat):List Rat→Prop
 | x::y::r=>(∀ z∈full,z≤x∨y≤z)∧Ys full (y::r)
 | _=>True
theorem yh (full:List Rat):∀ (pts:List Rat),mJ pts→(∀ z∈full,z∈pts∨∀ w∈pts,z<w)→Ys full pts
 | [],_,_=>trivial
 | [_],_,_=>trivial
 | x::y::r,hi,h=>by
  refine ⟨fun z hz=>?_,yh full (y::r) hi.2 fun z hz=>?_⟩
  ·rcases h z hz with k | k
   ·rcases qAo.1 k with rfl | k
    ·exact .inl gQ
    ·rcases qAo.1 k with rfl | k
     ·exact .inr gQ
     ·have:=hi.2.1 z k;exact .inr (by grind)
   ·have:=k x dS;exact .inl (by grind)
  ·rcases h z hz with k | k
   ·rcases qAo.1 k with rfl | k
    ·exact .inr fun w hw=>hi.1 w hw
    ·exact .inl k
   ·exact .inr fun w hw=>k w (fC _ hw)
def Kl (pts:List Rat) (a:List RS):Prop:=∀ s∈a,s.1∈pts∧s.2∈pts
theorem yj {full:List Rat} {a:List RS} (h:Kl full a) {x y p:Rat} (hg:∀ z∈full,z≤x∨y≤z) (h1:x≤p) (h2:p<y):memP a p↔memP a x:=by
 constructor
 ·rintro ⟨s,hs,k1,k2⟩;obtain ⟨e1,e2⟩:=h s hs;have:=hg _ e1;exact ⟨s,hs,by grind,by grind⟩
 ·rintro ⟨s,hs,k1,k2⟩;obtain ⟨e1,e2⟩:=h s hs;have:=hg _ e2;exact ⟨s,hs,by grind,by grind⟩
def Yt (pts:List Rat) (p:Rat):Prop:=(∃ x∈pts,x≤p)∧∃ y∈pts,p<y
theorem ym {pts:List Rat} {a:List RS} (h:Kl pts a) {p:Rat} (hp:memP a p):Yt pts p:=by obtain ⟨s,hs,k1,k2⟩:=hp;obtain ⟨e1,e2⟩:=h s hs;exact ⟨⟨_,e1,k1⟩,⟨_,e2,k2⟩⟩
theorem yo {full:List Rat} {f:Rat→Bool} {P:Rat→Prop} (hc:∀ x y p,(∀ z∈full,z≤x∨y≤z)→x≤p→p<y→(P p↔P x)):∀ (pts:List Rat),mJ pts→Ys full pts→(∀ x∈pts,f x=true↔P x)→∀ p,segP f pts p↔(P p∧Yt pts p)
 | [],_,_,_,p=>by simp only [segP];exact ⟨fun h=>h.elim,fun h=>by obtain ⟨x,hx,_⟩:=h.2.1;cases hx⟩
 | [x],_,_,_,p=>by simp only [segP];refine ⟨fun h=>h.elim,fun h=>?_⟩;obtain ⟨u,hu,k1⟩:=h.2.1;obtain ⟨v,hv,k2⟩:=h.2.2;rw [oE] at hu hv;grind
 | x::y::r,hi,hg,hf,p=>by
  have ih:=yo hc (y::r) hi.2 hg.2 (fun z hz=>hf z (fC _ hz)) p;have hxy:=hi.1 y dS;simp only [segP];rw [ih,hf x dS];constructor
  ·rintro (⟨h1,h2,h3⟩ | ⟨h1,⟨u,hu,k1⟩,⟨v,hv,k2⟩⟩)
   ·exact ⟨(hc x y p hg.1 h2 h3).2 h1,⟨x,dS,h2⟩,⟨y,fC _ dS,h3⟩⟩
   ·exact ⟨h1,⟨u,fC _ hu,k1⟩,⟨v,fC _ hv,k2⟩⟩
  ·rintro ⟨h1,⟨u,hu,k1⟩,⟨v,hv,k2⟩⟩;have hxp:x≤p:=by
    rcases qAo.1 hu with rfl|hu
    ·exact k1
    ·have:=hi.1 u hu;grind
   by_cases hpy:p<y
   ·exact .inl ⟨(hc x y p hg.1 hxp hpy).1 h1,hxp,hpy⟩
   ·refine .inr ⟨h1,⟨y,dS,by grind⟩,?_⟩;rcases qAo.1 hv with rfl | hv
    ·exact absurd k2 (by grind)
    ·exact ⟨v,hv,k2⟩
theorem ySq {pts:List Rat} {f:Rat→Bool} {P:Rat→Prop} (hi:mJ pts) (hc:∀ x y p,(∀ z∈pts,z≤x∨y≤z)→x≤p→p<y→(P p↔P x)) (hf:∀ x∈pts,f x=true↔P x) (hh:∀ p,P p→Yt pts p) :
  qE (jn f pts none)∧∀ p,memP (jn f pts none) p↔P p:=by
 obtain ⟨i1,_,i3⟩:=GH f pts none hi trivial;refine ⟨i1,fun p=>?_⟩;rw [i3 p,yo hc pts hi (yh pts pts hi fun z hz=>.inl hz) hf p];simp only [lF,false_or];exact ⟨fun h=>h.1,fun h=>⟨h,hh p h⟩⟩
def cO (p:Rat):List Rat→List Rat
 | []=>[p]
 | x::r=>if p=x then x::r else if p<x then p::x::r else x::cO p r
theorem By {p z:Rat}:∀ (l:List Rat),z∈cO p l↔(z=p∨z∈l)
 | []=>by unfold cO;simp
 | x::r=>by
  unfold cO
  by_cases h:p=x
  ·rw [Tu h];subst h;simp
  ·rw [Zv h]
   by_cases h2:p<x
   ·rw [Tu h2];simp
   ·rw [Zv h2,qAo,By r,qAo];constructor
    ·rintro (h | h | h)
     ·exact .inr (.inl h)
     ·exact .inl h
     ·exact .inr (.inr h)
    ·rintro (h | h | h)
     ·exact .inr (.inl h)
     ·exact .inl h
     ·exact .inr (.inr h)
theorem wH {p:Rat}:∀ (l:List Rat),mJ l→mJ (cO p l)
 | [],_=>⟨by simp,trivial⟩
 | x::r,h=>by
  unfold cO
  by_cases h1:p=x
  ·rw [Tu h1];exact h
  ·rw [Zv h1]
   by_cases h2:p<x
   ·rw [Tu h2];refine ⟨fun y hy=>?_,h⟩;rcases qAo.1 hy with rfl | hy
    ·exact h2
    ·have:=h.1 y hy;grind
   ·rw [Zv h2];refine ⟨fun y hy=>?_,wH r h.2⟩;rcases (By r).1 hy with rfl | hy
    ·grind
    ·exact h.1 y hy
def jQ:List RS→List Rat→List Rat
 | [],out=>out
 | s::a,out=>jQ a (cO s.2 (cO s.1 out))
theorem OL:∀ (a:List RS) (out:List Rat),mJ out→mJ (jQ a out)
 | [],_,h=>h
 | _::a,_,h=>OL a _ (wH _ (wH _ h))
theorem Km:∀ (a:List RS) (out:List Rat) (z:Rat),z∈out→z∈jQ a out
 | [],_,_,h=>h
 | _::a,_,z,h=>Km a _ z ((By _).2 (.inr ((By _).2 (.inr h))))
theorem OM:∀ (a:List RS) (out:List Rat),Kl (jQ a out) a
 | [],_=>fun s h=>by cases h
 | t::a,out=>by
  intro s hs;rcases qAo.1 hs with rfl | hs
  ·exact ⟨Km a _ _ ((By _).2 (.inr ((By _).2 (.inl rfl)))),Km a _ _ ((By _).2 (.inl rfl))⟩
  ·exact OM a _ s hs
def ON (f:Rat→Bool) (a b:List RS):List RS:=jn f (jQ b (jQ a [])) none
theorem yp {a b:List RS} {f:Rat→Bool} {c:Prop→Prop→Prop} (hf:∀ x,f x=true↔c (memP a x) (memP b x)) (h0:¬c False False) :
  qE (ON f a b)∧∀ p,memP (ON f a b) p↔c (memP a p) (memP b p):=by
 have ea:Kl (jQ b (jQ a [])) a:=fun s hs=>⟨Km b _ _ (OM a [] s hs).1,Km b _ _ (OM a [] s hs).2⟩
 have eb:Kl (jQ b (jQ a [])) b:=OM b _;refine ySq (OL b _ (OL a _ trivial)) (fun x y p hg h1 h2=>?_) (fun x _=>hf x) (fun p hp=>?_)
 ·rw [yj ea hg h1 h2,yj eb hg h1 h2]
 ·by_cases h1:memP a p
  ·exact ym ea h1
  ·by_cases h2:memP b p
   ·exact ym eb h2
   ·rw [eq_false h1,eq_false h2] at hp;exact (h0 hp).elim
end Go.Pf.Vc
namespace Go.Pf.Vc
open Go Go.Pf
def Sp.rs (s:Sp):RS:=(rt s.a s.b,rt s.c s.d)
def Sp.ok (s:Sp):Prop:=RV s.a s.b∧RV s.c s.d∧rt s.a s.b<rt s.c s.d
instance (s:Sp):Decidable s.ok:=by unfold Sp.ok;infer_instance
def Sp.i64 (s:Sp):Prop:=bE s.a∧bE s.b∧bE s.c∧bE s.d
theorem Yu {q r:Rat} (hq:small q) (hr:small r) (K:Int→Prop):zM q.num q.den r.num r.den K=K (gD q r):=by unfold zM UY;rw [XZ hq hr]
theorem yP9 {a b c d:Int} (h:RV a b) (k:RV c d) (K:Int→Prop):zM a b c d K=K (gD (rt a b) (rt c d)):=by obtain ⟨h1,h2,h3⟩:=oZ h;obtain ⟨k1,k2,k3⟩:=oZ k;have:=Yu h1 k1 K;rw [h2,h3,k2,k3] at this;exact this
theorem yQa (q r:Rat):decide (gD q r<0)=decide (q<r):=by
 unfold gD
 by_cases h:q<r
 ·rw [Tu h];simp [h]
 ·rw [Zv h];split<;>simp [h]
theorem yq (q r:Rat):decide (gD q r≤0)=!decide (r<q):=by
 unfold gD
 by_cases h:q<r
 ·have:¬r<q:=by grind
  rw [Tu h];simp [this]
 ·rw [Zv h]
  by_cases h2:r<q
  ·rw [Tu h2];simp [h2]
  ·rw [Zv h2];simp [h2]
theorem yQb {s:Sp} (h:s.i64) (K:Bool→Prop):xJ s.a s.b s.c s.d K=K (decide s.ok):=by
 refine yBF _ _ _ _ _ (fun K k=>?_) K;unfold xJ UV;refine uc h.1 h.2.1 h.2.2.1 h.2.2.2 ?_
 by_cases h1:RV s.a s.b
 ·by_cases h2:RV s.c s.d
  ·have e:cH s.a s.b s.c s.d=0:=qQ.2 ⟨h1,h2⟩;obtain ⟨_,n1,n2⟩:=oZ h1;obtain ⟨_,n3,n4⟩:=oZ h2;have e2:=uv (rt s.a s.b) (rt s.c s.d);rw [n1,n2,n3,n4] at e2;rw [e,Tu rfl,nZ rfl,e2,yQa];have e3:decide s.ok=decide (rt s.a s.b<rt s.c s.d):=by rw [Aab];exact ⟨fun k=>k.2.2,fun k=>⟨h1,h2,k⟩⟩
   rw [← e3];exact k
  ·have e:cH s.a s.b s.c s.d≠0:=fun e=>h2 (qQ.1 e).2
   rw [oA e];have e3:decide s.ok=false:=Pn fun k=>h2 k.2.1
   rw [← e3];exact k
 ·have e:cH s.a s.b s.c s.d≠0:=fun e=>h1 (qQ.1 e).1
  rw [oA e];have e3:decide s.ok=false:=Pn fun k=>h1 k.1
  rw [← e3];exact k
theorem Yv {s:Sp} {P:Prop}:aB (aE z4 (aN s)) P=P:=rfl
def Kn (l:List Sp):Bool:=l.all fun s=>decide s.ok
theorem yQc {l:List Sp} (h64:∀ s∈l,s.i64) (hl:l.length<4611686018427387904) :
  ∀ x0 x1,∀ (r i n:Nat),i+r=l.length→r<n→FK xJ x0 x1 n (kQ l) l.length i=if Kn (l.drop i) then x1 (kQ l) l.length l.length false else x0 8:=by
 intro x0 x1 r;induction r with
 | zero=>
  intro i n hi hn;obtain ⟨n,rfl⟩:∃ m,n=m+1:=⟨n-1,by omega⟩;obtain rfl:i=l.length:=by omega
  rw [FK,aP (by omega),BP];rfl
 | succ r ih=>
  intro i n hi hn;obtain ⟨n,rfl⟩:∃ m,n=m+1:=⟨n-1,by omega⟩;have hil:i<l.length:=by omega
  have e1:=eF (n:=(i:Int)+1) (by omega) (by omega);have hm:l.getD i default∈l:=by rw [dK,dL hil];exact wP hil
  have hd:Kn (l.drop i)=(decide (l.getD i default).ok&&Kn (l.drop (i+1))):=by rw [kD default hil];rfl
  rw [FK,aO (by omega),aI (by omega),Kk,aI (by omega),cP,Yo hil,Yv,e1,hO];change xJ (l.getD i default).a (l.getD i default).b (l.getD i default).c (l.getD i default).d _=_;rw [yQb (h64 _ hm),hd]
  cases hv:decide (l.getD i default).ok with
  | true =>rw [show (!true)=false from rfl,aV,jU];exact ih (i+1) n (by omega) (by omega)
  | false =>rw [show (!false)=true from rfl,aY,qI];rfl
def qF (l:List Sp):Int:=if l.length>60 then 4 else if Kn l then 0 else 8
theorem ySr {l:List Sp} (h64:∀ s∈l,s.i64) (hl:l.length<4611686018427387904) (K:Int→Prop):FL (kQ l) K=K (qF l):=by
 refine yFh _ _ (fun K k=>?_) K;unfold FL UW;unfold qF at k;rw [Kk]
 by_cases h:l.length>60
 ·rw [aO (by omega)];rw [Tu h] at k;exact k
 ·rw [aP (by omega)];rw [Zv h] at k;refine ⟨l.length+1,?_⟩;refine (yQc h64 hl _ _ l.length 0 (l.length+1) (by omega) (by omega)).mpr ?_;rw [mX];split
  ·rename_i h2;rw [Tu h2] at k;exact k
  ·rename_i h2;rw [Zv h2] at k;exact k
def pC (l:List Sp):List RS:=l.map Sp.rs
theorem yOE {l:List Sp} (h:qF l=0):l.length≤60∧∀ s∈l,s.ok:=by
 unfold qF at h;split at h
 ·cases h
 ·split at h
  ·rename_i h1 h2;exact ⟨by omega,fun s hs=>by simpa using BO.1 h2 s hs⟩
  ·cases h
theorem yOF {q r:Rat} (hq:small q) (hr:small r):small (bX q r):=by unfold bX;split<;>assumption
end Go.Pf.Vc
namespace Go.Pf.Vc
open Go Go.Pf Go.Sort
theorem OO {n d:Int}:LO n d=true↔RV n d:=by unfold LO RV;simp only [bZ,decide_eq_true_eq]
theorem yRk {a b c d:Int} (h:RV a b) (k:RV c d):nP a b c d<0↔rt a b<rt c d:=by
 obtain ⟨_,h2,h3⟩:=oZ h;obtain ⟨_,k2,k3⟩:=oZ k;rw [Rat.lt_iff,h2,h3,k2,k3];unfold nP
 by_cases h:a*d<c*b
 ·rw [Tu h];simp [h]
 ·rw [Zv h];split<;>simp [h]
def Yw:PV→Rat
 | .agg (.int _ a::.int _ b::_)=>rt a b
 | _=>0
theorem OP {x y:PV} (hx:Cp x=true) (hy:Cp y=true):tM x y<0↔Yw x<Yw y:=by
 unfold Cp at hx hy;split at hx
 ·split at hy
  ·simp only [tM,Yw];exact yRk (OO.1 hx) (OO.1 hy)
  ·cases hy
 ·cases hx
theorem Bz {n g:Nat} (x:(qO n g).s.El):Cp x.1=true:=by have:=x.2;simp only [Srt.gd,bZ] at this;exact this.2
theorem Yx (n g:Nat):SWO (fun x y:(qO n g).s.El=>decide ((qO n g).cf x y<0)) where
 irrefl x:=by
  have:=OP (Bz x) (Bz x);show decide (tM x.1 x.1<0)=false;rw [decide_eq_false_iff_not,this];exact qK
 trans x y z h1 h2:=by
  have h1:decide (tM x.1 y.1<0)=true:=h1;have h2:decide (tM y.1 z.1<0)=true:=h2;show decide (tM x.1 z.1<0)=true;rw [decide_eq_true_eq,OP (Bz _) (Bz _)] at *
  grind
 ntrans x y z h1 h2:=by
  have h1:decide (tM x.1 y.1<0)=false:=h1;have h2:decide (tM y.1 z.1<0)=false:=h2;show decide (tM x.1 z.1<0)=false;rw [decide_eq_false_iff_not,OP (Bz _) (Bz _)] at *
  grind
theorem Yy {s:Srt}:∀ {l:List PV},(∀ x∈l,s.gd x=true)→∃ d,s.rows? l=some d
 | [],_=>⟨[],rfl⟩
 | x::r,h=>by
  obtain ⟨d,hd⟩:=Yy (s:=s) (l:=r) fun y hy=>h y (fC _ hy)
  refine ⟨⟨x,h x dS⟩::d,?_⟩;simp only [Srt.rows?];rw [dif_pos (h x dS),hd]
theorem RV.i1 {n d:Int} (h:RV n d):bE n:=by obtain ⟨h1,h2,h3,h4,_⟩:=h;exact ⟨by omega,by omega⟩
theorem RV.i2 {n d:Int} (h:RV n d):bE d:=by obtain ⟨h1,h2,h3,h4,_⟩:=h;exact ⟨by omega,by omega⟩
theorem Sp.ok.i64 {s:Sp} (h:s.ok):s.i64:=⟨h.1.i1,h.1.i2,h.2.1.i1,h.2.1.i2⟩
theorem yr (n g:Nat) {s:Sp} (h:s.ok):(qO n g).s.gd (aN s)=true:=by
 obtain ⟨h1,h2,h3,h4⟩:=h.i64;have e1:i64.min=-9223372036854775808:=by decide
 have e2:i64.max=9223372036854775807:=by decide
 simp only [Srt.gd,qO,ET,aN,fZ,Cp,bZ,decide_eq_true_eq,e1,e2];unfold bE at h1 h2 h3 h4;exact ⟨⟨trivial,h1.1,h1.2,trivial,h2.1,h2.2,trivial,h3.1,h3.2,trivial,h4.1,h4.2,trivial⟩,OO.2 h.1⟩
def lU:PV→Sp
 | .agg [.int _ a,.int _ b,.int _ c,.int _ d]=>⟨a,b,c,d⟩
 | _=>default
theorem yt (s:Sp):lU (aN s)=s:=rfl
theorem yOG (n g:Nat) {l:List Sp} (h:∀ s∈l,s.ok):∃ l':List Sp,l'.Perm l∧l'.Pairwise (fun s t=>¬t.rs.1<s.rs.1)∧Srt.sorted (qO n g).s (qO n g).srt (kQ l)=kQ l':=by
 obtain ⟨d,hd⟩:=Yy (s:=(qO n g).s) (l:=kQ l) fun x hx=>by
  obtain ⟨s,hs,rfl⟩:=rB.1 hx;exact yr n g (h s hs)
 obtain ⟨d',h1,h2,h3⟩:=(qO n g).sorted_is (Yx n g) hd;have hv:=Srt.rows?_val hd;have hp:(d'.map (·.1)).Perm (kQ l):=by rw [← hv];exact h1.map _
 have hm:∀ x∈d'.map (·.1),∃ s∈l,aN s=x:=fun x hx=>rB.1 (hp.mem_iff.1 hx)
 refine ⟨(d'.map (·.1)).map lU,?_,?_,?_⟩
 ·have this:(map lU (d'.map (·.1))).Perm (map lU (l.map aN)):=hp.map lU;have e:map lU (l.map aN)=l:=by rw [List.map_map,show lU ∘ aN=id from funext yt,List.map_id]
  rw [e] at this;exact this
 ·rw [List.map_map,List.pairwise_map];refine h2.imp_of_mem fun {x y} hx hy hxy=>?_
  have hxy:¬tM y.1 x.1<0:=hxy;rw [OP (Bz _) (Bz _)] at hxy;obtain ⟨s,_,es⟩:=hm x.1 (List.mem_map_of_mem hx);obtain ⟨t,_,et⟩:=hm y.1 (List.mem_map_of_mem hy);show ¬(lU y.1).rs.1<(lU x.1).rs.1;rw [← es,← et] at hxy ⊢;exact hxy
 ·rw [h3];have key:∀ (xs:List PV),(∀ x∈xs,∃ s∈l,aN s=x)→(xs.map lU).map aN=xs:=by
   intro xs;induction xs with
   | nil=>intro _;rfl
   | cons x r ih =>intro h;obtain ⟨s,_,es⟩:=h x dS;rw [qJ,qJ,ih fun y hy=>h y (fC _ hy),← es,yt]
  exact (key _ hm).symm
end Go.Pf.Vc
namespace Go.Pf.Vc
open Go Go.Pf
def dW (r:RS):Sp:=⟨r.1.num,r.1.den,r.2.num,r.2.den⟩
def bJ (l:List RS):List PV:=kQ (l.map dW)
def eH (r:RS):Prop:=small r.1∧small r.2
theorem lL (l:List RS):(bJ l).length=l.length:=by unfold bJ;rw [Kk,lY]
def aM (r:RS):PV:=aN (dW r)
theorem Ko {l:List RS} {i:Nat} (h:i<l.length):getD (bJ l) i .nils=aM (l.getD i default):=by unfold bJ;rw [Yo (by rw [lY];exact h)];unfold aM;congr 1;rw [dK,dK,pE,dL h];rfl
theorem BA (r:RS):aC (aD (aM r) 0)=r.1.num:=rfl
theorem BB (r:RS):aC (aD (aM r) 1)=r.1.den:=rfl
theorem BC (r:RS):aC (aD (aM r) 2)=r.2.num:=rfl
theorem BD (r:RS):aC (aD (aM r) 3)=r.2.den:=rfl
theorem sI (r:RS) (P:Prop):aB (aE z4 (aM r)) P=P:=rfl
theorem OQ (r:RS):([.agg [.int .i64 r.1.num,.int .i64 r.1.den,.int .i64 r.2.num,.int .i64 r.2.den]]:List PV)=bJ [r]:=rfl
theorem yu (a b:List RS):bJ a++bJ b=bJ (a++b):=by unfold bJ kQ;rw [List.map_append,List.map_append]
theorem yv (l:List RS) (i:Nat) (r:RS):set (bJ l) i (.agg [.int .i64 r.1.num,.int .i64 r.1.den,.int .i64 r.2.num,.int .i64 r.2.den])=bJ (l.set i r):=by unfold bJ kQ;rw [List.map_set,List.map_set];rfl
theorem jR {α:Type} [DecidableEq α] (a:α) (P:Prop):aB (decide (a=a)) P=P:=by rw [Os rfl,dI]
theorem iG {α:Type} [DecidableEq α] (a:α) (b:Bool) (P:Prop):aB (decide (a=a)&&b) P=aB b P:=by rw [Os rfl,jU]
theorem DU {c:Prop} [Decidable c] {P:Prop} (h:¬c):aB (!decide c) P=P:=by rw [Pn h];rfl
theorem Kp (P:Prop):aB (decide True) P=P:=by rw [decide_true];rfl
theorem Yz {c:Prop} [Decidable c] {b:Bool} {P:Prop} (h:c):aB (decide c&&b) P=aB b P:=by rw [Os h,jU]
theorem yw {α:Type} {acc:List α} {c d:α} {i:Nat} (h:i=acc.length):(acc++[c]).getD i d=c:=by subst h;rw [dK,Ea (cJ _),Nat.sub_self];rfl
theorem yx {α:Type} {acc:List α} {c d:α} {i:Nat} (h:i=acc.length):(acc++[c]).set i d=acc++[d]:=by subst h;rw [List.set_append_right _ _ (cJ _),Nat.sub_self];rfl
theorem OR {l:List RS} (h:∀ s∈l,eH s) {i:Nat} (hi:i<l.length):eH (l.getD i default):=by rw [dK,dL hi];exact h _ (wP hi)
theorem yKL {l:List RS} (hs:∀ s∈l,eH s) (hl:l.length<1000000) {x0:Int→Int→Bool→Prop} {x1:List PV→Int→Int→Bool→Prop} {x2:List PV→List PV→Int→Int→Bool→Prop} :
  ∀ (r i n:Nat) (acc:List RS) (c:RS),i+r=l.length→r<n→acc.length<i→eH c →
   CQ zM x0 x1 x2 n (bJ l) (bJ (acc++[c])) (l.length:Int) (i:Int)=x2 (bJ l) (bJ (acc++oB (l.drop i) c)) (l.length:Int) (l.length:Int) false:=by
 intro r;induction r with
 | zero=>
  intro i n acc c hi hn ha hc;obtain ⟨n,rfl⟩:∃ m,n=m+1:=⟨n-1,by omega⟩;obtain rfl:i=l.length:=by omega
  rw [CQ,aP (by omega),BP];rfl
 | succ r ih=>
  intro i n acc c hi hn ha hc;obtain ⟨n,rfl⟩:∃ m,n=m+1:=⟨n-1,by omega⟩;have hil:i<l.length:=by omega
  have e1:=eF (n:=(i:Int)+1) (by omega) (by omega);have hal:(acc++[c]).length=acc.length+1:=by simp
  have e2:=eF (n:=((acc.length+1:Nat):Int)-1) (by omega) (by omega);have e3:((acc.length+1:Nat):Int)-1=(acc.length:Int):=by omega
  rw [e3] at e2;have hsi:=OR hs hil;have hd:l.drop i=l.getD i default::l.drop (i+1):=kD default hil;generalize hx:l.getD i default=x at hd hsi;rw [CQ,aO (by omega)];dsimp only [lt,Go.Pf.jn];simp (discharger:=omega) only [lL,hal,cP,kI,aI,Ko,hx,sI,BA,BB,BC,BD,aO,e3,e2,e1,yw,DU,decide_true,jU,dI];rw [Yu hsi.1 hc.2,yq,hd];unfold oB
  by_cases h:c.2<x.1
  ·rw [Os h,Tu h,jF,aV,aI (by show _≤35184372088832;omega),OQ x,yu,hO];have:=ih (i+1) n (acc++[c]) x (by omega) (by omega) (by simp;omega) hsi;rw [this,jE];rfl
  ·rw [Pn h,Zv h,jT,aY,Yu hsi.2 hc.2];have e4:decide (gD x.2 c.2>0)=decide (c.2<x.2):=by
    have:=yq x.2 c.2;rw [show decide (gD x.2 c.2>0)=!decide (gD x.2 c.2≤0) by rw [← decide_not];simp,this,Bool.not_not]
   rw [e4];unfold bX
   by_cases h2:c.2<x.2
   ·have e5:set (bJ (acc++[c])) acc.length (.agg [.int .i64 c.1.num,.int .i64 c.1.den,.int .i64 x.2.num,.int .i64 x.2.den])=bJ (acc++[(c.1,x.2)]):=by
     rw [yv _ _ (c.1,x.2),yx rfl]
    rw [Os h2,Tu h2,aY,e5,lL,show (acc++[(c.1,x.2)]).length=acc.length+1 by simp];simp only [decide_true,jU,dI,hO];exact ih (i+1) n acc (c.1,x.2) (by omega) (by omega) (by omega) ⟨hc.1,hsi.2⟩
   ·rw [Pn h2,Zv h2,aV,hO];exact ih (i+1) n acc c (by omega) (by omega) (by omega) hc
theorem yRl {s:Sp} (h:s.ok):dW s.rs=s:=by
 obtain ⟨_,h2,h3⟩:=oZ h.1;obtain ⟨_,k2,k3⟩:=oZ h.2.1;unfold dW Sp.rs
 cases s
 simp only at h2 h3 k2 k3 ⊢;rw [h2,h3,k2,k3]
theorem yy {r:RS} (_:eH r):(dW r).rs=r:=by show (rt r.1.num r.1.den,rt r.2.num r.2.den)=r;rw [uA,uA]
theorem OS {r:RS} (h:eH r) (hv:r.1<r.2):(dW r).ok:=⟨h.1.rv,h.2.rv,by
 show rt r.1.num r.1.den<rt r.2.num r.2.den;rw [uA,uA];exact hv⟩
theorem yQf {s:Sp} (h:s.ok):eH s.rs:=⟨(oZ h.1).1,(oZ h.2.1).1⟩
theorem yz {l:List Sp} (h:∀ s∈l,s.ok):kQ l=bJ (pC l):=by
 unfold bJ pC;rw [List.map_map];congr 1
 conv=>lhs;rw [← List.map_id l]
 exact List.map_congr_left fun s hs=>(yRl (h s hs)).symm
theorem za:∀ {l:List RS},l.Pairwise (fun s t=>¬t.1<s.1)→DT l
 | [],_=>trivial
 | s::r,h=>by rw [List.pairwise_cons] at h;exact ⟨fun t ht=>by have:=h.1 t ht;grind,za h.2⟩
theorem yOH {l:List RS} (hs:∀ s∈l,eH s) (hv:∀ s∈l,s.1<s.2) (hl:l.length<100000):∃ l':List RS,l'.Perm l∧DT l'∧∀ K,yfb (bJ l) K=K (bJ (DR l')):=by
 obtain ⟨m,h1,h2,h3⟩:=yOG HX Fb (l:=l.map dW) (fun s h=>by
  obtain ⟨r,hr,rfl⟩:=rB.1 h;exact OS (hs r hr) (hv r hr))
 have hm:∀ s∈m,s.ok:=fun s h=>by
  obtain ⟨r,hr,rfl⟩:=rB.1 (h1.mem_iff.1 h);exact OS (hs r hr) (hv r hr)
 have hp:(pC m).Perm l:=by
  have:=h1.map Sp.rs;rw [List.map_map] at this;have e:l.map (Sp.rs ∘ dW)=l:=by
   conv=>rhs;rw [← List.map_id l]
   exact List.map_congr_left fun r hr=>yy (hs r hr)
  rw [e] at this;exact this
 have hb:DT (pC m):=za (List.pairwise_map.2 h2);refine ⟨pC m,hp,hb,fun K=>?_⟩;refine yzU _ _ (fun K k=>?_) K;unfold yfb Vd;have hlen:(pC m).length=l.length:=hp.length_eq;have hc:pJ 4 32 (bJ l)=true:=by
  unfold pJ;rw [bZ,decide_eq_true_eq,lL];refine ⟨?_,by show _≤35184372088832;omega⟩
  cases l<;>rfl
 rw [hc,dI]
 cases l with
 | nil =>have e:pC m=[]:=Au (by rw [hlen];rfl);rw [e] at k;exact ⟨1,k⟩
 | cons x r=>
  rw [show isEmpty (bJ (x::r))=false from rfl,aV];have hsm:eH x:=hs x dS;have hd:∃ d,(mQ).s.rows? (bJ (x::r))=some d:=Yy fun y hy=>by
   obtain ⟨s,h4,rfl⟩:=rB.1 hy;obtain ⟨q,hq,rfl⟩:=rB.1 h4;exact yr _ _ (OS (hs q hq) (hv q hq))
  obtain ⟨d,hd⟩:=hd;have hcond:Srt.cond mQ.s (bJ (x::r)) 0 (bJ (x::r)).length (bJ (x::r)).length 4 false=true:=by
   unfold Srt.cond;rw [mX,jS,hd,lL];simp only [decide_true,jU,jT,Option.isSome_some,BR,bZ,decide_eq_true_eq,kI,cJ];exact ⟨by simp,rfl,by omega⟩
  rw [hcond,dI];have hsrt:Srt.sorted mQ.s mQ.srt (bJ (x::r))=bJ (pC m):=by
   rw [show bJ (x::r)=kQ ((x::r).map dW) from rfl,← yz hm];exact h3
  rw [List.take_zero,mX,jS,hsrt,wR,kI,BP,AA,lL,lL,hlen];simp only [decide_true,jU,dI];have hms:∀ s∈pC m,eH s:=fun s h=>hs s (hp.mem_iff.1 h)
  cases hq:pC m with
  | nil=>rw [hq] at hlen;cases hlen
  | cons y t=>
   rw [hq] at k hms hlen;refine ⟨(y::t).length+2,?_⟩;have hy:eH y:=hms y dS;rw [Vb,aO (by simp only [eR];omega)];dsimp only [lt,Go.Pf.jn];have e1:i64.wrap ((0:Int)+1)=((1:Nat):Int):=by decide
   have e2:(bJ (y::t)).length=(x::r).length:=by rw [lL,hlen]
   have e3:getD (bJ (y::t)) (0+(0:Int).toNat) .nils=aM y:=rfl;rw [aI (by omega),aI (by rw [e2];simp only [eR];omega),jR,aI (by rw [e2];simp),e3,sI,BA,BB,BC,BD,e1,OQ,← hlen];rw [show (bJ [y]).length=1 from rfl];simp only [decide_true,jU,dI];have:=yKL hms (by rw [hlen];omega) (x0:=fun b c f=>K ([]:List PV)) (x1:=fun g i j n=>K ([]:List PV))
    (x2:=fun o a p u v=>aB (decide ((0+(length a))≤(length a))) (K (take (length a) a)))
    t.length 1 ((y::t).length+1) [] y (by simp only [eR];omega) (by simp only [eR];omega) (by simp) hy
   rw [wR] at this;refine this.mpr ?_;rw [aI (by omega),jS];exact k
theorem yQg {a b c d:Int} (h:RV a b) (k:RV c d) (K:Bool→Prop):yaw a b c d K=K (decide (rt a b<rt c d)):=by obtain ⟨h1,h2,h3⟩:=oZ h;obtain ⟨k1,k2,k3⟩:=oZ k;have:=nH h1 k1 K;rw [h2,h3,k2,k3] at this;exact this
theorem zb {s:Sp} (h:s.i64) (K:Bool→Prop):yaB s.a s.b s.c s.d K=K (decide s.ok):=by
 unfold yaB WN;dsimp only [Go.Pf.jn];rw [Kb h.1 h.2.1 h.2.2.1 h.2.2.2]
 by_cases h1:RV s.a s.b∧RV s.c s.d
 ·rw [nZ (qQ.2 h1),yQg h1.1 h1.2];have e3:decide s.ok=decide (rt s.a s.b<rt s.c s.d):=by rw [Aab];exact ⟨fun k=>k.2.2,fun k=>⟨h1.1,h1.2,k⟩⟩
  rw [e3]
 ·rw [oA fun e=>h1 (qQ.1 e)];have e3:decide s.ok=false:=Pn fun k=>h1 ⟨k.1,k.2.1⟩
  rw [e3]
def lH (l:List RS) (p:Rat):Bool:=l.any fun s=>!decide (p<s.1)&&decide (p<s.2)
theorem zc {l:List RS} {p:Rat}:lH l p=true↔memP l p:=by
 unfold lH memP wG;rw [List.any_eq_true];constructor
 ·rintro ⟨s,h1,h2⟩;simp only [bZ,lX,decide_eq_false_iff_not,decide_eq_true_eq] at h2;exact ⟨s,h1,by grind,h2.2⟩
 ·rintro ⟨s,h1,h2,h3⟩;refine ⟨s,h1,?_⟩;simp only [bZ,lX,decide_eq_false_iff_not,decide_eq_true_eq];exact ⟨by grind,h3⟩
theorem yRm {l:List RS} (hs:∀ s∈l,eH s) (hl:l.length<4611686018427387904) {p:Rat} (hp:small p) {x0:List PV→Int→Int→Int→Bool→Prop} {x1:Bool→Prop} :
  ∀ (r i n:Nat),i+r=l.length→r<n→Gj yaw x0 x1 n (bJ l) p.num p.den (i:Int)=if lH (l.drop i) p then x1 true else x0 (bJ l) p.num p.den (l.length:Int) false:=by
 intro r;induction r with
 | zero=>
  intro i n hi hn;obtain ⟨n,rfl⟩:∃ m,n=m+1:=⟨n-1,by omega⟩;obtain rfl:i=l.length:=by omega
  rw [Gj,lL,aP (by omega),BP];rfl
 | succ r ih=>
  intro i n hi hn;obtain ⟨n,rfl⟩:∃ m,n=m+1:=⟨n-1,by omega⟩;have hil:i<l.length:=by omega
  have e1:=eF (n:=(i:Int)+1) (by omega) (by omega);have hd:l.drop i=l.getD i default::l.drop (i+1):=kD default hil;have hx:=OR hs hil;rw [Gj,lL,aO (by omega)];dsimp only [lt,Go.Pf.jn];rw [aI (by omega),aI (by omega),cP,Ko hil,sI,BA,BB,BC,BD,nH hp hx.1,e1,hO,aI (by omega),aI (by omega),sI,nH hp hx.2,hd];have e:lH (l.getD i default::l.drop (i+1)) p=((!decide (p<(l.getD i default).1)&&decide (p<(l.getD i default).2))||lH (l.drop (i+1)) p):=rfl;rw [e]
  cases decide (p<(l.getD i default).1) with
  | true =>rw [show (!true)=false from rfl,aV,aV,qI,Bool.false_or];exact ih (i+1) n (by omega) (by omega)
  | false=>
   rw [show (!false)=true from rfl,aY,jU]
   cases decide (p<(l.getD i default).2) with
   | true=>rfl
   | false =>rw [aV,Bool.false_or];exact ih (i+1) n (by omega) (by omega)
theorem OT {l:List RS} (hs:∀ s∈l,eH s) (hl:l.length<4611686018427387904) {p:Rat} (hp:small p) (K:Bool→Prop):xP (bJ l) p.num p.den K=K (lH l p):=by
 refine yL6 _ _ _ _ (fun K k=>?_) K;unfold xP WT;refine ⟨l.length+1,?_⟩;refine (yRm hs hl hp l.length 0 (l.length+1) (by omega) (by omega)).mpr ?_;rw [mX]
 cases h:lH l p with
 | true=>rw [h] at k;exact k
 | false=>rw [h] at k;exact k
def dC (q:Rat):PV:=.agg [.int .i64 q.num,.int .i64 q.den]
def bP (l:List Rat):List PV:=l.map dC
theorem sJ (l:List Rat):(bP l).length=l.length:=lY ..
theorem xT {l:List Rat} {i:Nat} (h:i<l.length):getD (bP l) i .nils=dC (l.getD i 0):=by unfold bP;rw [dK,dK,pE,dL h];rfl
theorem BE (q:Rat):aC (aD (dC q) 0)=q.num:=rfl
theorem BF (q:Rat):aC (aD (dC q) 1)=q.den:=rfl
theorem BG (q:Rat) (P:Prop):aB (aE z2 (dC q)) P=P:=rfl
theorem yRn (q:Rat):([.agg [.int .i64 q.num,.int .i64 q.den]]:List PV)=bP [q]:=rfl
theorem yRo (q:Rat):(.agg [.int .i64 q.num,.int .i64 q.den]:PV)=dC q:=rfl
theorem yRp (a b:List Rat):bP a++bP b=bP (a++b):=by unfold bP;rw [List.map_append]
theorem yRq (l:List Rat) (i:Nat) (q:Rat):set (bP l) i (dC q)=bP (l.set i q):=by unfold bP;rw [List.map_set]
theorem zd (a b:Rat):((a.num==b.num)&&(((a.den:Int) ==(b.den:Int))&&true))=decide (a=b):=by
 rw [BR,Bool.eq_iff_iff];simp only [bZ,beq_iff_eq,decide_eq_true_eq];constructor
 ·rintro ⟨h1,h2⟩;exact Rat.ext h1 (by omega)
 ·rintro rfl;exact ⟨rfl,rfl⟩
theorem yKM {l:List Rat} {i:Nat} (h:i<l.length):l.getD i 0∈l:=by rw [dK,dL h];exact wP h
theorem yQh {out:List Rat} (hl:out.length<4611686018427387904) {q:Rat} {x0:Int→Int→Int→Bool→Prop} {x1:List PV→Int→Int→Int→Bool→Prop} {x2:List PV→Prop} :
  ∀ (r i n:Nat),i+r=out.length→r<n→tY yaw x0 x1 x2 n (bP out) q.num q.den (i:Int)=if q∈out.drop i then x2 (bP out) else x1 (bP out) q.num q.den (out.length:Int) false:=by
 intro r;induction r with
 | zero=>
  intro i n hi hn;obtain ⟨n,rfl⟩:∃ m,n=m+1:=⟨n-1,by omega⟩;obtain rfl:i=out.length:=by omega
  rw [tY,sJ,aP (by omega),BP,Zv (by simp)]
 | succ r ih=>
  intro i n hi hn;obtain ⟨n,rfl⟩:∃ m,n=m+1:=⟨n-1,by omega⟩;have hil:i<out.length:=by omega
  have e1:=eF (n:=(i:Int)+1) (by omega) (by omega);have hd:out.drop i=out.getD i 0::out.drop (i+1):=kD 0 hil;rw [tY,sJ,aO (by omega)];dsimp only [lt,Go.Pf.jn];rw [aI (by omega),aI (by omega),jR,cP,kI,aI (by omega),xT hil,BG,BE,BF,zd,e1,hO,iG,jR,ih (i+1) n (by omega) (by omega),hd]
  by_cases h:out.getD i 0=q
  ·rw [aO h,Tu (by rw [h];exact dS)]
  ·rw [aP h]
   by_cases h2:q∈out.drop (i+1)
   ·rw [Tu h2,Tu (fC _ h2)]
   ·rw [Zv h2,Zv (by rw [qAo];rintro (h3 | h3);exact h h3.symm;exact h2 h3)]
theorem ze {q x:Rat}:∀ {pre:List Rat},mJ (pre++[x])→q∉pre++[x]→cO q (pre++[x])=if q<x then cO q pre++[x] else pre++[x,q]
 | [],h,hn=>by
  have hne:q≠x:=fun e=>hn (by simp [e])
  show cO q [x]=_;unfold cO;rw [Zv hne];split<;>rfl
 | y::pre,h,hn=>by
  have h2:mJ (pre++[x]):=h.2;have hy:q≠y:=fun e=>hn (by simp [e])
  have hx:y<x:=h.1 x (by simp);have ih:=ze (q:=q) h2 (fun hm=>hn (fC _ hm));show cO q (y::(pre++[x]))=_;unfold cO;rw [Zv hy,Zv hy]
  by_cases h3:q<y
  ·rw [Tu h3,Tu h3,Tu (by grind)];rfl
  ·rw [Zv h3,Zv h3,ih];split<;>rfl
theorem zf:∀ {a b:List Rat},mJ (a++b)→mJ a
 | [],_,_=>trivial
 | _::_,_,h=>⟨fun z hz=>h.1 z (List.mem_append_left _ hz),zf h.2⟩
theorem zg {x0:List PV→Int→Bool→Prop} {K:List PV→Prop} (hx:∀ L i b,x0 L i b=K L) {q:Rat} (hq:small q) :
  ∀ (j n:Nat) (pre suf:List Rat),pre.length=j→j<n→pre.length+suf.length<1000000→(∀ z∈pre,small z)→mJ pre→q∉pre →
   lB yaw x0 n (bP (pre++q::suf)) (j:Int)=K (bP (cO q pre++suf)):=by
 intro j;induction j with
 | zero =>intro n pre suf hj hn hl hs hi hm;obtain ⟨n,rfl⟩:∃ m,n=m+1:=⟨n-1,by omega⟩;have:pre=[]:=Au hj;subst this;rw [lB];dsimp only [lt,Go.Pf.jn];rw [aP (by omega),aV,hx];rfl
 | succ j ih=>
  intro n pre suf hj hn hl hs hi hm;obtain ⟨n,rfl⟩:∃ m,n=m+1:=⟨n-1,by omega⟩;obtain ⟨pre,x,rfl⟩:∃ p x,pre=p++[x]:=⟨pre.dropLast,pre.getLast (by intro h;rw [h] at hj;cases hj),(List.dropLast_concat_getLast _).symm⟩;have hj2:pre.length=j:=by simpa using hj
  have hl2:(pre++[x]++q::suf).length=j+2+suf.length:=by simp;omega
  have e1:=eF (n:=((j+1:Nat):Int)-1) (by omega) (by omega);have e2:((j+1:Nat):Int)-1=(j:Int):=by omega
  rw [e2] at e1;have g1:(pre++[x]++q::suf).getD (j+1) 0=q:=by
   rw [dK,Ea (by simp;omega)];simp [hj2]
  have g2:(pre++[x]++q::suf).getD j 0=x:=by rw [jE,dK,Ea (by omega)];simp [hj2]
  have s1:(pre++[x]++q::suf).set j q=pre++[q]++q::suf:=by rw [jE,List.set_append_right _ _ (by omega),hj2,Nat.sub_self,jE];rfl
  have s2:(pre++[q]++q::suf).set (j+1) x=pre++q::(x::suf):=by rw [List.set_append_right _ _ (by simp;omega)];simp [hj2]
  have g3:(pre++[q]++q::suf).getD (j+1) 0=q:=by rw [dK,Ea (by simp;omega)];simp [hj2]
  have hl3:(pre++[q]++q::suf).length=j+2+suf.length:=by simp;omega
  have hxs:small x:=hs x (by simp);rw [lB];dsimp only [lt,Go.Pf.jn];rw [aO (by omega)];simp (discharger:=omega) only [e2,e1,sJ,hl2,aI,cP,kI,xT,g1,g2,BG,BE,BF,yRo,yRq,s1,g3,hl3,s2,nH hq hxs];rw [ze hi hm]
  by_cases h:q<x
  ·rw [aO h,Tu h];rw [show (pre++q::x::suf).length=j+2+suf.length by simp;omega,Yz rfl,aI rfl];have:=ih n pre (x::suf) hj2 (by omega) (by simp at hl ⊢;omega) (fun z hz=>hs z (by simp [hz])) (zf hi) (fun hm2=>hm (by simp [hm2]));rw [this,jE];rfl
  ·rw [aP h,Zv h,hx,jE,jE];rfl
theorem xU {q:Rat} (hq:small q) {out:List Rat} (hs:∀ z∈out,small z):∀ z∈cO q out,small z:=fun z hz=>by
 rcases (By out).1 hz with rfl|h
 ·exact hq
 ·exact hs z h
theorem wI {q:Rat}:∀ (out:List Rat),(cO q out).length≤out.length+1
 | []=>cJ _
 | x::r=>by
  unfold cO;split
  ·simp
  ·split
   ·simp
   ·have:=wI (q:=q) r;simp only [eR];omega
theorem zh {q:Rat}:∀ {out:List Rat},mJ out→q∈out→cO q out=out
 | [],_,h=>by cases h
 | x::r,hi,h=>by
  unfold cO
  by_cases h1:q=x
  ·rw [Tu h1]
  ·rw [Zv h1];have h2:q∈r:=by
    rcases qAo.1 h with h3|h3
    ·exact absurd h3 h1
    ·exact h3
   have:=hi.1 q h2;rw [Zv (by grind),zh hi.2 h2]
theorem GI {out:List Rat} {q:Rat} (hs:∀ z∈out,small z) (hi:mJ out) (hq:small q) (hl:out.length<100000) {x0:Int→Int→Int→Bool→Prop} {K:List PV→Prop} (k:K (bP (cO q out))) :
  ∃ n:Nat,tY yaw x0
   (fun yl i1 i2 _ _=>(aB (decide ((length yl)=(length yl)))
   (aB (decide ((0+(length yl))≤(length yl)))
   (aB (!(decide (((0+(length yl))+1)≤(length yl))))
   (aB (decide ((length yl)=(length yl)))
   (aB (decide ((((length yl)+1)+64)*(16+1)≤room))
   (lt (i64.wrap ((((length (yl++([(.agg [(.int .i64 i1),(.int .i64 i2)])]:List PV))):Nat):Int)-(1:Int))) (fun yi=>
   (aB (decide ((length (yl++([(.agg [(.int .i64 i1),(.int .i64 i2)])]:List PV)))=length (yl++([(.agg [(.int .i64 i1),(.int .i64 i2)])]:List PV)))&&decide ((length (yl++([(.agg [(.int .i64 i1),(.int .i64 i2)])]:List PV)))=length (yl++([(.agg [(.int .i64 i1),(.int .i64 i2)])]:List PV))))
   (∃ n:Nat,lB yaw (fun yl _ _=>K yl) n (yl++([(.agg [(.int .i64 i1),(.int .i64 i2)])]:List PV)) yi))))))))))
   (fun yl=>K yl) n (bP out) q.num q.den (0:Int):=by
 refine ⟨out.length+1,?_⟩;refine (yQh (by omega) out.length 0 (out.length+1) (by omega) (by omega)).mpr ?_;rw [mX]
 by_cases h:q∈out
 ·rw [Tu h];rw [zh hi h] at k;exact k
 ·rw [Zv h];have e1:=eF (n:=((out.length+1:Nat):Int)-1) (by omega) (by omega);have e2:((out.length+1:Nat):Int)-1=(out.length:Int):=by omega
  rw [e2] at e1;have e3:(bP out++([(.agg [(.int .i64 q.num),(.int .i64 q.den)])]:List PV))=bP (out++[q]):=by rw [yRn,yRp]
  have e4:(bP (out++[q])).length=out.length+1:=by rw [sJ];simp
  dsimp only [lt];rw [e3,e4,e2,e1,sJ,jR,aI (by omega),DU (by omega),jR,aI (by show _≤35184372088832;omega),iG,jR];refine ⟨out.length+1,?_⟩;refine (zg (x0:=fun yl _ _=>K yl) (K:=K) (fun _ _ _=>rfl) hq out.length (out.length+1) out [] rfl (by omega) (by simp;omega) hs hi h).mpr ?_;rw [AA];exact k
theorem zi {q:Rat} (hq:small q) {x1:List PV→Int→Int→Int→Bool→Prop} {x2:List PV→Prop} {K:List PV→Prop} (k:K (bP [q])) :
  ∃ n:Nat,Jl yaw
   (fun i1 i2 _ _=>(aB (decide (1=length ([(.agg [(.int .i64 i1),(.int .i64 i2)])]:List PV))&&decide (1=length ([(.agg [(.int .i64 i1),(.int .i64 i2)])]:List PV)))
   (∃ n:Nat,lB yaw (fun yl _ _=>K yl) n ([(.agg [(.int .i64 i1),(.int .i64 i2)])]:List PV) (0:Int))))
   x1 x2 n q.num q.den (0:Int):=by
 refine ⟨1,?_⟩;rw [Jl,aP (by omega)];refine bT.2 ⟨rfl,1,?_⟩;exact (zg (x0:=fun yl _ _=>K yl) (K:=K) (fun _ _ _=>rfl) hq 0 1 [] [] rfl (by omega) (by simp) (by simp) trivial (by simp)).mpr k
theorem OU:∀ {l:List RS} {out:List Rat},(∀ s∈l,eH s)→(∀ z∈out,small z)→∀ z∈jQ l out,small z
 | [],_,_,h=>h
 | s::a,_,hl,h=>OU (l:=a) (fun t ht=>hl t (fC _ ht)) (xU (hl s dS).2 (xU (hl s dS).1 h))
theorem OV:∀ (l:List RS) (out:List Rat),(jQ l out).length≤out.length+2*l.length
 | [],_=>cJ _
 | s::a,out=>by have h1:=OV a (cO s.2 (cO s.1 out));have h2:=wI (q:=s.2) (cO s.1 out);have h3:=wI (q:=s.1) out;show (jQ a _).length≤_;simp only [eR];omega
theorem zj {l:List RS} (hs:∀ s∈l,eH s) (hl:l.length<10000) {x0:List PV→Int→Bool→Prop} {x1:List PV→List PV→Int→Bool→Prop} :
  ∀ (r i n:Nat) (out:List Rat),i+r=l.length→r<n→(∀ z∈out,small z)→mJ out→out.length≤40000+2*i →
   x1 (bP (jQ (l.drop i) out)) (bJ l) (l.length:Int) false→zU yaw x0 x1 n (bP out) (bJ l) (i:Int):=by
 intro r;induction r with
 | zero=>
  intro i n out hi hn ho hc hb k;obtain ⟨n,rfl⟩:∃ m,n=m+1:=⟨n-1,by omega⟩;obtain rfl:i=l.length:=by omega
  rw [zU,lL,aP (by omega)];rw [BP] at k;exact k
 | succ r ih=>
  intro i n out hi hn ho hc hb k;obtain ⟨n,rfl⟩:∃ m,n=m+1:=⟨n-1,by omega⟩;have hil:i<l.length:=by omega
  have e1:=eF (n:=(i:Int)+1) (by omega) (by omega);have hd:l.drop i=l.getD i default::l.drop (i+1):=kD default hil;have hx:=OR hs hil;rw [hd] at k;have h1:=wI (q:=(l.getD i default).1) out;have h2:=wI (q:=(l.getD i default).2) (cO (l.getD i default).1 out);rw [zU,lL,aO (by omega)];dsimp only [Go.Pf.jn];rw [aI (by omega),aI (by omega),cP,Ko hil];show aB (aE z4 (aM (l.getD i default))) _;rw [sI,BA,BB,iG,jR];refine GI ho hc hx.1 (by omega) ?_;rw [aI (by omega),aI (by omega)];show aB (aE z4 (aM (l.getD i default))) _;rw [sI,BC,BD,iG,jR];refine GI (xU hx.1 ho) (wH _ hc) hx.2 (by omega) ?_;show aB _ (zU yaw x0 x1 n _ _ (i64.wrap ((i:Int)+1)));rw [iG,jR,e1,hO];exact ih (i+1) n _ (by omega) (by omega) (xU hx.2 (xU hx.1 ho)) (wH _ (wH _ hc)) (by omega) k
theorem yOI {l:List RS} (hs:∀ s∈l,eH s) (hl:l.length<10000) {x0:List PV→Int→Bool→Prop} {x1:List PV→List PV→Int→Bool→Prop} (h0:l=[]→x0 (bJ l) 0 false)
  (h1:l≠[]→x1 (bP (jQ l [])) (bJ l) (l.length:Int) false):Jm yaw x0 x1 (l.length+2) (bJ l) (0:Int):=by
 cases l with
 | nil =>rw [Jm,aP (by rw [lL];simp)];exact h0 rfl
 | cons s r=>
  have hx:=hs s dS;have e3:getD (bJ (s::r)) (0:Int).toNat .nils=aM s:=rfl;rw [Jm,lL,aO (by simp only [eR];omega)];dsimp only [Go.Pf.jn];rw [aI (by omega),aI (by simp only [eR];omega),e3];show aB (aE z4 (aM s)) _;rw [sI,BA,BB];refine zi hx.1 ?_;rw [aI (by omega),aI (by simp only [eR];omega)];show aB (aE z4 (aM s)) _;rw [sI,BC,BD,iG,jR];have hs1:∀ z∈[s.1],small z:=fun z hz=>by rw [oE] at hz;rw [hz];exact hx.1
  have hi1:mJ [s.1]:=⟨by simp,trivial⟩;refine GI (out:=[s.1]) hs1 hi1 hx.2 (by simp) ?_;show aB _ (zU yaw x0 x1 _ _ _ ((1:Nat):Int));rw [iG,jR];refine zj hs hl r.length 1 _ _ (by simp only [eR];omega) (by simp only [eR];omega) (xU hx.2 hs1) (wH _ hi1) ?_ (h1 (by simp));have h2:=wI (q:=s.2) (cO s.1 []);have h3:=wI (q:=s.1) [];simp only [sT] at h3;show (cO s.2 [s.1]).length≤_;have:cO s.1 []=[s.1]:=rfl;rw [this] at h2;simp only [eR,sT] at h2;omega
theorem yMj {l:List RS} (hs:∀ s∈l,eH s) (hl:l.length<10000) {b:List PV} {x0:List PV→List PV→Int→Bool→Prop} {x1:List PV→List PV→List PV→Int→Bool→Prop} :
  ∀ (r i n:Nat) (out:List Rat),i+r=l.length→r<n→(∀ z∈out,small z)→mJ out→out.length≤40000+2*i →
   x1 (bP (jQ (l.drop i) out)) (bJ l) b (l.length:Int) false→Bo yaw x0 x1 n (bP out) (bJ l) b (i:Int):=by
 intro r;induction r with
 | zero=>
  intro i n out hi hn ho hc hb k;obtain ⟨n,rfl⟩:∃ m,n=m+1:=⟨n-1,by omega⟩;obtain rfl:i=l.length:=by omega
  rw [Bo,lL,aP (by omega)];rw [BP] at k;exact k
 | succ r ih=>
  intro i n out hi hn ho hc hb k;obtain ⟨n,rfl⟩:∃ m,n=m+1:=⟨n-1,by omega⟩;have hil:i<l.length:=by omega
  have e1:=eF (n:=(i:Int)+1) (by omega) (by omega);have hd:l.drop i=l.getD i default::l.drop (i+1):=kD default hil;have hx:=OR hs hil;rw [hd] at k;have h1:=wI (q:=(l.getD i default).1) out;have h2:=wI (q:=(l.getD i default).2) (cO (l.getD i default).1 out);rw [Bo,lL,aO (by omega)];dsimp only [Go.Pf.jn];rw [aI (by omega),aI (by omega),cP,Ko hil];show aB (aE z4 (aM (l.getD i default))) _;rw [sI,BA,BB,iG,jR];refine GI ho hc hx.1 (by omega) ?_;rw [aI (by omega),aI (by omega)];show aB (aE z4 (aM (l.getD i default))) _;rw [sI,BC,BD,iG,jR];refine GI (xU hx.1 ho) (wH _ hc) hx.2 (by omega) ?_;show aB _ (Bo yaw x0 x1 n _ _ _ (i64.wrap ((i:Int)+1)));rw [iG,jR,e1,hO];exact ih (i+1) n _ (by omega) (by omega) (xU hx.2 (xU hx.1 ho)) (wH _ (wH _ hc)) (by omega) k
theorem yOJ {l:List RS} (hs:∀ s∈l,eH s) (hl:l.length<10000) {b:List PV} {x0:List PV→List PV→Int→Bool→Prop} {x1:List PV→List PV→List PV→Int→Bool→Prop} (h0:l=[]→x0 (bJ l) b 0 false)
  (h1:l≠[]→x1 (bP (jQ l [])) (bJ l) b (l.length:Int) false):Jn yaw x0 x1 (l.length+2) (bJ l) b (0:Int):=by
 cases l with
 | nil =>rw [Jn,aP (by rw [lL];simp)];exact h0 rfl
 | cons s r=>
  have hx:=hs s dS;have e3:getD (bJ (s::r)) (0:Int).toNat .nils=aM s:=rfl;rw [Jn,lL,aO (by simp only [eR];omega)];dsimp only [Go.Pf.jn];rw [aI (by omega),aI (by simp only [eR];omega),e3];show aB (aE z4 (aM s)) _;rw [sI,BA,BB];refine zi hx.1 ?_;rw [aI (by omega),aI (by simp only [eR];omega)];show aB (aE z4 (aM s)) _;rw [sI,BC,BD,iG,jR];have hs1:∀ z∈[s.1],small z:=fun z hz=>by rw [oE] at hz;rw [hz];exact hx.1
  have hi1:mJ [s.1]:=⟨by simp,trivial⟩;refine GI (out:=[s.1]) hs1 hi1 hx.2 (by simp) ?_;show aB _ (Bo yaw x0 x1 _ _ _ _ ((1:Nat):Int));rw [iG,jR];refine yMj hs hl r.length 1 _ _ (by simp only [eR];omega) (by simp only [eR];omega) (xU hx.2 hs1) (wH _ hi1) ?_ (h1 (by simp));have h2:=wI (q:=s.2) (cO s.1 []);have h3:=wI (q:=s.1) [];simp only [sT] at h3;show (cO s.2 [s.1]).length≤_;have:cO s.1 []=[s.1]:=rfl;rw [this] at h2;simp only [eR,sT] at h2;omega
theorem yQi {a b:List RS} (ha:∀ s∈a,eH s) (hb:∀ s∈b,eH s) (hla:a.length<10000) (hlb:b.length<10000) (K:List PV→Prop):xO (bJ a) (bJ b) K=K (bP (jQ b (jQ a []))):=by
 refine yIp _ _ _ (fun K k=>?_) K;unfold xO WO;refine ⟨a.length+2,?_⟩;have hea:=OU ha (out:=[]) (fun z hz=>by cases hz);refine yOJ ha hla (fun h=>?_) (fun h=>?_)
 ·subst h;refine ⟨b.length+2,?_⟩;refine yOI hb hlb (fun h=>?_) (fun h=>?_)
  ·subst h;exact k
  ·rw [jR,aI (by omega),jS];exact k
 ·rw [iG,jR];refine ⟨b.length+1,?_⟩;have:=OV a [];refine zj hb hlb b.length 0 (b.length+1) _ (by omega) (by omega) hea (OL a _ trivial) (by simp only [sT] at this;omega) ?_;rw [jR,aI (by omega),jS];exact k
theorem zl {b c:Bool} {k:Bool→Prop}:Go.Pf.jn (fun j=>aA b (j true) (j c)) k=k (b||c):=by cases b<;>rfl
theorem zm {d b c t:Bool} {k:Bool→Prop}:Go.Pf.jn (fun j=>aA d (aA b (j c) (j false)) (j t)) k=k (bif d then (b&&c) else t):=by cases d<;>cases b<;>rfl
def YA (how:Int) (x y:Bool):Bool:=bif how==2 then (x&&!y) else (bif how==1 then (x&&y) else (x||y))
section
variable {a b:List RS} {pts:List Rat} {how:Int}
def mV (a b:List RS) (how:Int) (q:Rat):Bool:=YA how (lH a q) (lH b q)
theorem OW {i:Nat} (hs:∀ z∈pts,small z) (h:i<pts.length):small (pts.getD i 0):=hs _ (yKM h)
theorem yKO (ha:∀ s∈a,eH s) (hb:∀ s∈b,eH s) (hla:a.length<10000) (hlb:b.length<10000) (hp:∀ z∈pts,small z) (hl:pts.length<100000)
  {x0:List PV→List PV→Int→List PV→Int→Bool→Prop} {x1:List PV→List PV→List PV→Int→List PV→Int→Bool→Prop} {K:List PV→Prop} (hx:∀ L i q,x1 L (bJ a) (bJ b) how (bP pts) i q=K L) :
  ∀ (r i n:Nat) (acc:List RS) (c:RS),i+r+1=pts.length→r<n→acc.length≤i→eH c →
   Dm xO xP x0 x1 n (bJ (acc++[c])) (bJ a) (bJ b) how (bP pts) (i:Int)=K (bJ (acc++jn (mV a b how) (pts.drop i) (some c))):=by
 intro r;induction r with
 | zero=>
  intro i n acc c hi hn hac hc;obtain ⟨n,rfl⟩:∃ m,n=m+1:=⟨n-1,by omega⟩;have e1:=eF (n:=(i:Int)+1) (by omega) (by omega);have hd:pts.drop i=[pts.getD i 0]:=by
   rw [kD 0 (by omega),KK (by omega)]
  rw [Dm];dsimp only [lt];rw [e1,sJ,aP (by omega),hx,hd];rfl
 | succ r ih=>
  intro i n acc c hi hn hac hc;obtain ⟨n,rfl⟩:∃ m,n=m+1:=⟨n-1,by omega⟩;have e1:=eF (n:=(i:Int)+1) (by omega) (by omega);have e5:((i:Int)+1).toNat=i+1:=by omega
  have hd:pts.drop i=pts.getD i 0::pts.getD (i+1) 0::pts.drop (i+2):=by rw [kD 0 (by omega),kD 0 (by omega)]
  have hd1:pts.drop (i+1)=pts.getD (i+1) 0::pts.drop (i+2):=kD 0 (by omega);have hx1:=OW hp (i:=i) (by omega);have hx2:=OW hp (i:=i+1) (by omega);have hal:(acc++[c]).length=acc.length+1:=by simp
  have e2:=eF (n:=((acc.length+1:Nat):Int)-1) (by omega) (by omega);have e3:((acc.length+1:Nat):Int)-1=(acc.length:Int):=by omega
  rw [e3] at e2;have IH:=fun acc c h1 h2=>ih (i+1) n acc c (by omega) (by omega) h1 h2
  rw [hd1] at IH;rw [hd];generalize hq1:pts.getD i 0=x at hx1;generalize hq2:pts.getD (i+1) 0=y at hx2 IH;rw [Dm];dsimp only [lt];simp (discharger:=omega) only [zl,zm,e1,sJ,aO,aI,cP,xT,hq1,BG,BE,BF,OT ha _ hx1,OT hb _ hx1,decide_true,dI];rw [show (bif how==2 then (lH a x&&!lH b x) else (bif how==1 then (lH a x&&lH b x) else (lH a x||lH b x)))=mV a b how x from rfl];dsimp only [Go.Pf.jn];unfold jn
  cases hs:mV a b how x with
  | false =>rw [jT,aY,Zv (by simp),jU,dI,hO];exact IH acc c (by omega) hc
  | true=>
   rw [jF,aV,Tu rfl];simp (discharger:=omega) only [lL,hal,e3,e2,e5,cP,kI,aI,Ko,hq2,yw,sI,BA,BB,BC,BD,zd,aO,DU]
   by_cases h2:c.2=x
   ·have e6:set (bJ (acc++[c])) acc.length (.agg [.int .i64 c.1.num,.int .i64 c.1.den,.int .i64 y.num,.int .i64 y.den])=bJ (acc++[(c.1,y)]):=by
     rw [yv _ _ (c.1,y),yx rfl]
    rw [aO h2,Tu h2,e6,lL,show (acc++[(c.1,y)]).length=acc.length+1 by simp,iG,jR,hO];exact IH acc (c.1,y) (by omega) ⟨hc.1,hx2⟩
   ·rw [aP h2,Zv h2,aI (by show _≤35184372088832;omega),OQ (x,y),yu,jU,dI,hO];have:=IH (acc++[c]) (x,y) (by simp;omega) ⟨hx1,hx2⟩;rw [this,jE];rfl
theorem yMk (ha:∀ s∈a,eH s) (hb:∀ s∈b,eH s) (hla:a.length<10000) (hlb:b.length<10000) (hp:∀ z∈pts,small z) (hl:pts.length<100000)
  {x0:List PV→List PV→Int→List PV→Int→Bool→Prop} {x1:List PV→List PV→List PV→Int→List PV→Int→Bool→Prop} {K:List PV→Prop} (hx0:∀ i q,x0 (bJ a) (bJ b) how (bP pts) i q=K []) (hx:∀ L i q,x1 L (bJ a) (bJ b) how (bP pts) i q=K L) :
  ∀ (r i n:Nat),i+r=pts.length→r<n →
   Dl xO xP x0 x1 n (bJ a) (bJ b) how (bP pts) (i:Int)=K (bJ (jn (mV a b how) (pts.drop i) none)):=by
 intro r;induction r with
 | zero =>intro i n hi hn;obtain ⟨n,rfl⟩:∃ m,n=m+1:=⟨n-1,by omega⟩;have e1:=eF (n:=(i:Int)+1) (by omega) (by omega);have hd:pts.drop i=[]:=KK (by omega);rw [Dl];dsimp only [lt];rw [e1,sJ,aP (by omega),hx0,hd];rfl
 | succ r ih=>
  intro i n hi hn;obtain ⟨n,rfl⟩:∃ m,n=m+1:=⟨n-1,by omega⟩;have e1:=eF (n:=(i:Int)+1) (by omega) (by omega)
  by_cases h1:i+1=pts.length
  ·have hd:pts.drop i=[pts.getD i 0]:=by
    rw [kD 0 (by omega),KK (by omega)]
   rw [Dl];dsimp only [lt];rw [e1,sJ,aP (by omega),hx0,hd];rfl
  ·have e5:((i:Int)+1).toNat=i+1:=by omega
   have hd:pts.drop i=pts.getD i 0::pts.getD (i+1) 0::pts.drop (i+2):=by rw [kD 0 (by omega),kD 0 (by omega)]
   have hd1:pts.drop (i+1)=pts.getD (i+1) 0::pts.drop (i+2):=kD 0 (by omega);have hx1:=OW hp (i:=i) (by omega);have hx2:=OW hp (i:=i+1) (by omega);have IH:=ih (i+1) n (by omega) (by omega);have IH2:=yKO ha hb hla hlb hp hl (x0:=x0) hx (r-1) (i+1) n [];rw [hd1] at IH;simp only [hd1] at IH2;rw [hd];generalize hq1:pts.getD i 0=x at hx1;generalize hq2:pts.getD (i+1) 0=y at hx2 IH IH2;rw [Dl];dsimp only [lt];simp (discharger:=omega) only [zl,zm,e1,sJ,aO,aI,cP,xT,hq1,BG,BE,BF,OT ha _ hx1,OT hb _ hx1];rw [show (bif how==2 then (lH a x&&!lH b x) else (bif how==1 then (lH a x&&lH b x) else (lH a x||lH b x)))=mV a b how x from rfl];unfold jn
   cases hs:mV a b how x with
   | false =>rw [jT,aY,Zv (by simp),hO];exact IH
   | true =>rw [jF,aV,Tu rfl];simp (discharger:=omega) only [e5,hq2];rw [OQ (x,y),show (bJ [(x,y)]).length=1 from rfl,iG,jR,hO];have:=IH2 (x,y) (by omega) (by omega) (by simp) ⟨hx1,hx2⟩;exact this
end
theorem YB {a b:List RS} (ha:∀ s∈a,eH s) (hb:∀ s∈b,eH s) (hla:a.length<10000) (hlb:b.length<10000) (how:Int) (K:List PV→Prop):qP (bJ a) (bJ b) how K=K (bJ (ON (mV a b how) a b)):=by
 refine yD8 _ _ _ _ (fun K k=>?_) K;unfold qP WW;rw [yQi ha hb hla hlb];have h1:=OU hb (OU ha (out:=[]) (fun z hz=>by cases hz));have h2:=OV a [];have h3:=OV b (jQ a []);simp only [sT] at h2;refine ⟨(jQ b (jQ a [])).length+1,?_⟩;refine (yMk ha hb hla hlb h1 (by omega) (K:=K) (fun _ _=>rfl) (fun L i q=>?_) (jQ b (jQ a [])).length 0 ((jQ b (jQ a [])).length+1) (by omega) (by omega)).mpr ?_
 ·rw [jR,aI (by omega),jS]
 ·rw [mX];exact k
theorem zn {a b:List RS} {q:Rat}:mV a b 0 q=true↔(memP a q∨memP b q):=by show (lH a q||lH b q)=true↔_;rw [sS,zc,zc]
def wJ (a b:List RS) (how:Int):List RS:=ON (mV a b how) a b
theorem ySs {a b c d:Int} (h:RV a b) (k:RV c d):nP a b c d=gD (rt a b) (rt c d):=by obtain ⟨_,h2,h3⟩:=oZ h;obtain ⟨_,k2,k3⟩:=oZ k;unfold nP gD;simp only [Rat.lt_iff,h2,h3,k2,k3]
theorem yQk:∀ {cs:List PV},fZ [.i64,.i64,.i64,.i64] cs=true→∃ a b c d,cs=[.int .i64 a,.int .i64 b,.int .i64 c,.int .i64 d]
 | [],h=>by cases h
 | [x],h=>by cases x<;>simp [fZ] at h
 | [x,y],h=>by cases x<;>cases y<;>simp [fZ] at h
 | [x,y,z],h=>by cases x<;>cases y<;>cases z<;>simp [fZ] at h
 | x::y::z::u::w,h=>by
  cases x<;>first | (simp [fZ] at h;done) | skip
  cases y<;>first | (simp [fZ] at h;done) | skip
  cases z<;>first | (simp [fZ] at h;done) | skip
  cases u<;>first | (simp [fZ] at h;done) | skip
  simp only [fZ,bZ,decide_eq_true_eq] at h;obtain ⟨rfl,_,_,rfl,_,_,rfl,_,_,rfl,_,_,h⟩:=h
  cases w with
  | nil=>exact ⟨_,_,_,_,rfl⟩
  | cons p q=>simp [fZ] at h
theorem zo {n g:Nat} {x:PV} (h:(qO n g).s.gd x=true):∃ a b c d,x=.agg [.int .i64 a,.int .i64 b,.int .i64 c,.int .i64 d]∧RV a b:=by
 simp only [Srt.gd,bZ] at h;have h1:ET [.i64,.i64,.i64,.i64] x=true:=h.1;have h2:Cp x=true:=h.2;clear h
 cases x<;>first | (simp [ET] at h1;done) | skip
 obtain ⟨a,b,c,d,rfl⟩:=yQk (h1:fZ _ _=true);exact ⟨a,b,c,d,rfl,OO.1 h2⟩
theorem yKP {n g:Nat} (e:Es) (he:EG e) {x y:PV} (hx:(qO n g).s.gd x=true) (hy:(qO n g).s.gd y=true):yU (E e) Fb [x,y] (.int .i64 (tM x y)):=by
 obtain ⟨a,b,c,d,rfl,h1⟩:=zo hx;obtain ⟨a',b',c',d',rfl,h2⟩:=zo hy;obtain ⟨r,hr,ha⟩:=yyf e he [.agg [.int .i64 a,.int .i64 b,.int .i64 c,.int .i64 d],.agg [.int .i64 a',.int .i64 b',.int .i64 c',.int .i64 d']] (fun r=>r=.int .i64 (nP a b a' b')) (by
  show Va a b c d a' b' c' d' (fun r=>PV.int .i64 r=.int .i64 (nP a b a' b'));unfold Va UZ;rw [yP9 h1 h2,ySs h1 h2])
 rw [hr] at ha;exact ha
structure Pc (l:List RS):Prop where
 c:qE l
 s:∀ s∈l,eH s
 n:l.length≤60
theorem yOK {a b:List RS} {p:Rat}:memP (wJ a b 0) p↔(memP a p∨memP b p):=(yp (c:=Or) (fun x=>zn) (by simp)).2 p
theorem yQl {l:List RS} (h:∀ s∈l,eH s):pC (l.map dW)=l:=by
 induction l with
 | nil=>rfl
 | cons s r ih =>show (dW s).rs::pC (r.map dW)=_;rw [yy (h s dS),ih fun t ht=>h t (fC _ ht)]
theorem YC:∀ (r:List RS) (c:RS),(oB r c).length≤r.length+1
 | [],c=>by simp [oB]
 | s::r,c=>by
  unfold oB;split
  ·have:=YC r s;simp only [eR];omega
  ·have:=YC r (c.1,bX c.2 s.2);simp only [eR];omega
theorem YD:∀ (r:List RS) (c:RS),eH c→(∀ s∈r,eH s)→∀ s∈oB r c,eH s
 | [],c,hc,_=>by simpa [oB] using hc
 | t::r,c,hc,h=>by
  have ht:=h t dS;have hr:∀ s∈r,eH s:=fun s hs=>h s (fC _ hs)
  intro s hs;unfold oB at hs;split at hs
  ·rcases qAo.1 hs with rfl | hs
   ·exact hc
   ·exact YD r t ht hr s hs
  ·exact YD r (c.1,bX c.2 t.2) ⟨hc.1,yOF hc.2 ht.2⟩ hr s hs
theorem yOL {l:List RS} (hs:∀ s∈l,eH s) (hv:∀ s∈l,s.1<s.2) (hb:DT l) (hl:l.length≤60):Pc (DR l):=by
 refine ⟨(yg hv hb).1,?_,?_⟩
 ·cases l with
  | nil=>simp [DR]
  | cons s r=>exact YD r s (hs s dS) fun t ht=>hs t (fC _ ht)
 ·cases l with
  | nil=>simp [DR]
  | cons s r =>have:=YC r s;show (oB r s).length≤60;simp only [eR] at hl;omega
theorem yMl {a b:List RS} (h:∀ s,s∈a↔s∈b) (p:Rat):memP a p↔memP b p:=
 ⟨fun ⟨s,hs,hp⟩=>⟨s,(h s).1 hs,hp⟩,fun ⟨s,hs,hp⟩=>⟨s,(h s).2 hs,hp⟩⟩
theorem yOM {l:List Sp} (h64:∀ s∈l,s.i64) (h0:qF l=0):∃ m,Pc m∧(∀ p,memP m p↔memP (pC l) p)∧∀ K,yas (kQ l) K=K (bJ m) 0:=by
 obtain ⟨h1,h2⟩:=yOE h0;have hs:∀ s∈pC l,eH s:=fun s hs=>by obtain ⟨t,ht,rfl⟩:=rB.1 hs;exact yQf (h2 t ht)
 have hv:∀ s∈pC l,s.1<s.2:=fun s hs=>by obtain ⟨t,ht,rfl⟩:=rB.1 hs;exact (h2 t ht).2.2
 have hn:(pC l).length=l.length:=lY ..;obtain ⟨l',hp,hb,hm⟩:=yOH hs hv (by omega);have hs':∀ s∈l',eH s:=fun s h=>hs s (hp.mem_iff.1 h)
 have hv':∀ s∈l',s.1<s.2:=fun s h=>hv s (hp.mem_iff.1 h)
 refine ⟨DR l',yOL hs' hv' hb (by rw [hp.length_eq];omega),fun p=>?_,fun K=>?_⟩
 ·rw [(yg hv' hb).2 p];exact yMl (fun s=>hp.mem_iff) p
 ·unfold yas Vi;rw [ySr h64 (by omega),h0,yz h2];show aA false _ _=_;rw [aV,hm]
theorem ez (P Q:Prop):aA ((0:Int)==0) P Q=P:=rfl
theorem yRr {L:List RS} (hs:∀ s∈L,eH s) (hv:∀ s∈L,s.1<s.2) (hl:L.length≤60):qF (L.map dW)=0:=by
 have h1:Kn (L.map dW)=true:=BO.2 fun s h=>by
  obtain ⟨t,ht,rfl⟩:=rB.1 h;exact Os (OS (hs t ht) (hv t ht))
 unfold qF;rw [Zv (by rw [lY];omega),h1,Tu rfl]
theorem yRs {L:List RS} (hs:∀ s∈L,eH s) (hv:∀ s∈L,s.1<s.2) (hl:L.length≤60):∃ m,Pc m∧(∀ p,memP m p↔memP L p)∧∀ K,yas (bJ L) K=K (bJ m) 0:=by
 obtain ⟨m,h1,h2,h3⟩:=yOM (l:=L.map dW) (fun s h=>by
  obtain ⟨t,ht,rfl⟩:=rB.1 h;have:=hs t ht;exact ⟨this.1.i1,this.1.i2,this.2.i1,this.2.i2⟩) (yRr hs hv hl)
 rw [yQl hs] at h2;exact ⟨m,h1,h2,h3⟩
section
variable (V:Rat→Rat)
def dV (s:RS):Rat:=V s.2-V s.1
end
section
variable {len:Int} {cuts dens:List Int}
def uC (cuts:List Int) (i:Nat) (x:Rat):Rat:=lT (bX x (cuts.getD i 0:Int)) (cuts.getD (i+1) 0:Int)
def vu (cuts dens:List Int) (x:Rat):Nat→Nat→Rat
 | 0,_=>0
 | r+1,i=>(dens.getD i 0:Int)*uC cuts i x+vu cuts dens x r (i+1)
theorem Kq (h:VC len cuts dens):∀ (r i:Nat) {x y:Rat},i+r=dens.length→x≤(cuts.getD i 0:Int)→y≤(cuts.getD i 0:Int)→vu cuts dens x r i=vu cuts dens y r i
 | 0,_,_,_,_,_,_=>rfl
 | r+1,i,x,y,hi,hx,hy=>by
  have l1:=h.l1;have hst:((cuts.getD i 0:Int):Rat)<((cuts.getD (i+1) 0:Int):Rat):=Ed.2 (h.step (i:=i) (by omega));have ih:=Kq h r (i+1) (x:=x) (y:=y) (by omega) (by grind) (by grind);unfold vu;rw [ih];have e:uC cuts i x=uC cuts i y:=by
   unfold uC;have a1:=qT x (cuts.getD i 0:Int);have a2:=qT y (cuts.getD i 0:Int);have e1:bX x (cuts.getD i 0:Int)=(cuts.getD i 0:Int):=by grind
   have e2:bX y (cuts.getD i 0:Int)=(cuts.getD i 0:Int):=by grind
   rw [e1,e2]
  rw [e]
theorem BH {α:Type} {q:Rat} {k:Rat→Except Int α} {v:α} (h:fO q k=.ok v):k q=.ok v:=by
 unfold fO at h;split at h
 ·exact h
 ·cases h
theorem OX (h:VC len cuts dens) {b:Rat}:∀ (r i:Nat) (p sum v:Rat),i+r=dens.length→p≤b→(p=b∨((cuts.getD i 0:Int):Rat)≤p)→valS cuts dens b r i p sum=.ok v→v=sum+(vu cuts dens b r i-vu cuts dens p r i)
 | 0,i,p,sum,v,hi,hp,hc,hv=>by
  unfold valS at hv
  cases hv
  unfold vu;grind
 | r+1,i,p,sum,v,hi,hp,hc,hv=>by
  have l1:=h.l1;have hst:((cuts.getD i 0:Int):Rat)<((cuts.getD (i+1) 0:Int):Rat):=Ed.2 (h.step (i:=i) (by omega));unfold valS at hv;dsimp only at hv;have hen:∃ en:Rat,(if b<((cuts.getD (i+1) 0:Int):Rat) then b else ((cuts.getD (i+1) 0:Int):Rat))=en∧en≤b∧en≤((cuts.getD (i+1) 0:Int):Rat)∧(en=b∨en=((cuts.getD (i+1) 0:Int):Rat)):=by refine ⟨_,rfl,?_⟩;split<;>grind
  obtain ⟨en,e0,he1,he2,he3⟩:=hen;rw [e0] at hv;have low:=Kq h r (i+1) (x:=en) (y:=p) (by omega);have m1:=qT b (cuts.getD i 0:Int);have m2:=qT p (cuts.getD i 0:Int);have n1:=uB (bX b (cuts.getD i 0:Int)) (cuts.getD (i+1) 0:Int);have n2:=uB (bX p (cuts.getD i 0:Int)) (cuts.getD (i+1) 0:Int);unfold vu uC;generalize ((cuts.getD i 0:Int):Rat)=c0 at *
  generalize hc1:((cuts.getD (i+1) 0:Int):Rat)=c1 at *
  by_cases hlt:p<en
  ·have hb:lT (bX b c0) c1=en:=by grind
   have hq:lT (bX p c0) c1=p:=by grind
   by_cases hd:dens.getD i 0=0
   ·rw [Tu (.inl hd),Tu hlt] at hv;have ih:=OX h r (i+1) en sum v (by omega) he1 (by rw [hc1];grind) hv;rw [ih,hd,low (by grind) (by grind)];grind
   ·rw [Zv (by intro k;rcases k with k | k;exact hd k;exact k hlt)] at hv;have hv:=BH (BH (BH hv));have ih:=OX h r (i+1) en _ v (by omega) he1 (by rw [hc1];grind) hv;rw [ih,low (by grind) (by grind),hb,hq];grind
  ·rw [Tu (.inr hlt),Zv hlt] at hv;have ih:=OX h r (i+1) p sum v (by omega) hp (by rw [hc1];grind) hv;have:lT (bX b c0) c1=lT (bX p c0) c1:=by grind
   rw [ih,this];grind
def vX (cuts dens:List Int) (x:Rat):Rat:=vu cuts dens x dens.length 0
theorem yRt (h:VC len cuts dens) {a b v:Rat} (h0:0≤a) (hab:a≤b) (hv:Ai cuts dens a b=.ok v):v=vX cuts dens b-vX cuts dens a:=by have c0:cuts.getD 0 0=0:=h.2.2.2.2.2.1;have:=OX h dens.length 0 a 0 v (by omega) hab (.inr (by rw [c0];exact h0)) hv;unfold vX;rw [this];grind
theorem zp (h:VC len cuts dens) {i:Nat} (hi:i+1<cuts.length) {x y:Rat} (hxy:x≤y):uC cuts i x≤uC cuts i y:=by have hst:((cuts.getD i 0:Int):Rat)<((cuts.getD (i+1) 0:Int):Rat):=Ed.2 (h.step (i:=i) hi);have m1:=qT x (cuts.getD i 0:Int);have m2:=qT y (cuts.getD i 0:Int);have n1:=uB (bX x (cuts.getD i 0:Int)) (cuts.getD (i+1) 0:Int);have n2:=uB (bX y (cuts.getD i 0:Int)) (cuts.getD (i+1) 0:Int);unfold uC;grind
theorem zq (h:VC len cuts dens) {i:Nat} (hi:i<dens.length):(0:Rat)≤((dens.getD i 0:Int):Rat):=Rat.intCast_nonneg.2 (h.den hi).1
theorem YE (h:VC len cuts dens) {x y:Rat} (hxy:x≤y):∀ (r i:Nat),i+r=dens.length→vu cuts dens x r i≤vu cuts dens y r i
 | 0,_,_=>gQ
 | r+1,i,hi=>by have l1:=h.l1;have h1:=zp h (i:=i) (by omega) hxy;have h2:=YE h hxy r (i+1) (by omega);have h3:=GR h1 (zq h (i:=i) (by omega));unfold vu;grind
theorem Kr (h:VC len cuts dens) {x y:Rat} (hxy:x≤y):vX cuts dens x≤vX cuts dens y:=YE h hxy dens.length 0 (by omega)
theorem OY (h:VC len cuts dens):∀ (r i:Nat) (p v q:Rat),i+r=dens.length→0<v→((cuts.getD i 0:Int):Rat)≤p→mrkS cuts dens r i p v=.ok q →
  vu cuts dens q r i-vu cuts dens p r i=v∧p<q∧q≤((cuts.getD dens.length 0:Int):Rat)∧∀ x,x<q→vu cuts dens x r i<vu cuts dens q r i
 | 0,_,_,_,_,_,_,_,e=>by cases e
 | r+1,i,p,v,q,hi,hv,hp,e=>by
  have l1:=h.l1;have hst:((cuts.getD i 0:Int):Rat)<((cuts.getD (i+1) 0:Int):Rat):=Ed.2 (h.step (i:=i) (by omega));have hd:=h.den (i:=i) (by omega);have hd0:=zq h (i:=i) (by omega);have low:=fun {x y:Rat}=>Kq h r (i+1) (x:=x) (y:=y) (by omega)
  have hmon:=fun {x:Rat} (hx:x<q)=>zp h (i:=i) (by omega) (mE hx)
  have hmon2:=fun {x:Rat} (hx:x<q)=>YE h (mE hx) r (i+1) (by omega)
  have m1:=qT p (cuts.getD i 0:Int);have m2:=qT q (cuts.getD i 0:Int);have n1:=uB (bX p (cuts.getD i 0:Int)) (cuts.getD (i+1) 0:Int);have n2:=uB (bX q (cuts.getD i 0:Int)) (cuts.getD (i+1) 0:Int);unfold mrkS at e
  by_cases c1:p<((cuts.getD (i+1) 0:Int):Rat)
  case neg=>
   rw [Tu c1] at e;obtain ⟨a1,a2,a3,a4⟩:=OY h r (i+1) p v q (by omega) hv (Rat.not_lt.1 c1) e;have eq:uC cuts i q=uC cuts i p:=by unfold uC;grind
   refine ⟨by unfold vu;rw [eq];grind,a2,a3,fun x hx=>?_⟩;have b1:=a4 x hx;have b2:=GR (hmon hx) hd0;unfold vu;grind
  rw [Zv (fun k=>k c1)] at e
  by_cases c2:dens.getD i 0=0
  ·rw [Tu c2] at e;obtain ⟨a1,a2,a3,a4⟩:=OY h r (i+1) _ v q (by omega) hv gQ e;have e2:=low (x:=p) (y:=((cuts.getD (i+1) 0:Int):Rat)) (mE c1) gQ;refine ⟨by unfold vu;rw [e2,c2];grind,by grind,a3,fun x hx=>?_⟩;have b1:=a4 x hx;have b2:=GR (hmon hx) hd0;unfold vu;grind
  rw [Zv c2] at e;have e:=BH (BH e);have dpos:(0:Rat)<((dens.getD i 0:Int):Rat):=Rat.intCast_pos.2 (by omega);have up:uC cuts i p=p:=by unfold uC;grind
  by_cases c3:(((cuts.getD (i+1) 0:Int):Rat)-p)*((dens.getD i 0:Int):Rat)<v
  ·rw [Tu c3] at e;have e:=BH e;obtain ⟨a1,a2,a3,a4⟩:=OY h r (i+1) _ _ q (by omega) (by grind) gQ e;have e2:=low (x:=p) (y:=((cuts.getD (i+1) 0:Int):Rat)) (mE c1) gQ;have uq:uC cuts i q=((cuts.getD (i+1) 0:Int):Rat):=by unfold uC;grind
   refine ⟨by unfold vu;rw [e2,up,uq];grind,by grind,a3,fun x hx=>?_⟩;have b1:=a4 x hx;have b2:=GR (hmon hx) hd0;unfold vu;grind
  ·rw [Zv c3] at e;have e:=BH (BH e)
   cases e
   generalize hs:v/((dens.getD i 0:Int):Rat)=s at *
   have es:s*((dens.getD i 0:Int):Rat)=v:=by rw [← hs];exact Rat.div_mul_cancel (by grind)
   have s0:0<s:=by
    refine Rat.not_le.1 fun k=>?_
    have:=Rat.mul_le_mul_of_nonneg_right k hd0;grind
   have s1:p+s≤((cuts.getD (i+1) 0:Int):Rat):=by
    refine Rat.not_lt.1 fun k=>?_
    have:(((cuts.getD (i+1) 0:Int):Rat)-p)<s:=by grind
    have:=Rat.mul_lt_mul_of_pos_right this dpos;grind
   have uq:uC cuts i (p+s)=p+s:=by unfold uC;grind
   have e2:=low (x:=p+s) (y:=p) s1 (mE c1);have hlast:cuts.getD (i+1) 0≤cuts.getD dens.length 0:=h.mono (by omega) (by omega);have hlast:((cuts.getD (i+1) 0:Int):Rat)≤((cuts.getD dens.length 0:Int):Rat):=qX.2 hlast;refine ⟨by unfold vu;rw [e2,up,uq];grind,by grind,by grind,fun x hx=>?_⟩;have b1:=hmon2 hx;have ux:uC cuts i x<p+s:=by have k1:=qT x (cuts.getD i 0:Int);have k2:=uB (bX x (cuts.getD i 0:Int)) (cuts.getD (i+1) 0:Int);unfold uC;grind
   have b2:=Rat.mul_lt_mul_of_pos_left ux dpos;unfold vu;rw [uq];grind
theorem VC.last (h:VC len cuts dens):cuts.getD dens.length 0=len:=by have l1:=h.l1;have:=h.2.2.2.2.2.2.1;rw [show dens.length=cuts.length-1 by omega];exact this
theorem yRu (h:VC len cuts dens) {a v q:Rat} (h0:0≤a) (h1:a≤(len:Rat)) (hv:0≤v) (e:mrkC cuts dens a v=.ok q) :
  vX cuts dens q=vX cuts dens a+v∧a≤q∧q≤(len:Rat)∧(v=0→a=q)∧(v≠0→∀ x,x<q→vX cuts dens x<vX cuts dens q):=by
 unfold mrkC at e
 by_cases c:v=0
 ·rw [Tu c] at e
  cases e
  rw [c];exact ⟨by grind,gQ,h1,fun _=>rfl,fun k=>absurd rfl k⟩
 ·rw [Zv c] at e;have c0:cuts.getD 0 0=0:=h.2.2.2.2.2.1;obtain ⟨a1,a2,a3,a4⟩:=OY h dens.length 0 a v q (by omega) (by grind) (by rw [c0];exact h0) e;rw [h.last] at a3;exact ⟨by unfold vX;grind,mE a2,a3,fun k=>absurd k c,fun _=>a4⟩
end
def In (D:Int) (q:Rat):Prop:=∃ n:Int,q=(n:Rat)/(D:Rat)
theorem In.int {D:Int} (h:1≤D) (c:Int):In D (c:Rat):=⟨c*D,by rw [yC,Rat.mul_div_cancel (GG h)]⟩
theorem In.add {D:Int} {q r:Rat} (h:In D q) (k:In D r):In D (q+r):=by obtain ⟨n,rfl⟩:=h;obtain ⟨m,rfl⟩:=k;exact ⟨n+m,by rw [Rat.intCast_add];grind⟩
theorem In.sub {D:Int} {q r:Rat} (h:In D q) (k:In D r):In D (q-r):=by obtain ⟨n,rfl⟩:=h;obtain ⟨m,rfl⟩:=k;exact ⟨n-m,by rw [Rat.intCast_sub];grind⟩
theorem In.mulI {D:Int} {q:Rat} (h:In D q) (d:Int):In D (q*(d:Rat)):=by obtain ⟨n,rfl⟩:=h;exact ⟨n*d,by rw [yC];grind⟩
theorem In.up {D d:Int} {q:Rat} (hD:1≤D) (hd:1≤d) (h:In D q):In (d*D) q:=by obtain ⟨n,rfl⟩:=h;have h1:=GG hD;have h2:=GG hd;refine ⟨d*n,?_⟩;rw [yC,yC];grind
theorem In.div {D d:Int} {q:Rat} (hD:1≤D) (hd:1≤d) (h:In D q):In (d*D) (q/(d:Rat)):=by obtain ⟨n,rfl⟩:=h;have h1:=GG hD;have h2:=GG hd;refine ⟨n,?_⟩;rw [yC];grind
theorem In.small {D M:Int} {q:Rat} (h:In D q) (hD:1≤D∧D≤1000000000000000000) (hM:M*D≤1000000000000000000) (h0:-(M:Rat)≤q) (h1:q≤(M:Rat)):small q:=by
 obtain ⟨n,rfl⟩:=h;have hp:(0:Rat)<(D:Rat):=Rat.intCast_pos.2 (by omega);have e:(n:Rat)/(D:Rat)*(D:Rat)=(n:Rat):=Rat.div_mul_cancel (GG hD.1);have a:=Rat.mul_le_mul_of_nonneg_right h0 (mE hp);have b:=Rat.mul_le_mul_of_nonneg_right h1 (mE hp);rw [e] at a b;have a':((-(M*D):Int):Rat)≤(n:Rat):=by rw [Rat.intCast_neg,yC];grind
 have b':(n:Rat)≤((M*D:Int):Rat):=by rw [yC];exact b
 have a2:=qX.1 a';have b2:=qX.1 b';exact yOz (d:=D) ⟨by omega,by omega⟩ ⟨by omega,by omega⟩
section
variable {len:Int} {cuts dens:List Int}
theorem OZ (h:VC len cuts dens) {i j:Nat} (hij:i≤j) (hj:j≤dens.length):((cuts.getD i 0:Int):Rat)≤((cuts.getD j 0:Int):Rat):=qX.2 (h.mono hij (by have:=h.l1;omega))
theorem ySX {D:Int} (hD:1≤D) {x:Rat} (hx:In D x) (i:Nat):In D (uC cuts i x):=by
 have n1:=uB (bX x (cuts.getD i 0:Int)) (cuts.getD (i+1) 0:Int);have m1:=qT x (cuts.getD i 0:Int);unfold uC;rcases n1.2.2 with e | e
 ·rw [e];rcases m1.2.2 with e2 | e2
  ·rw [e2];exact hx
  ·rw [e2];exact In.int hD _
 ·rw [e];exact In.int hD _
theorem zr {D:Int} (hD:1≤D) {x:Rat} (hx:In D x):∀ (r i:Nat),In D (vu cuts dens x r i)
 | 0,_=>In.int hD 0
 | r+1,i=>by unfold vu;rw [Rat.mul_comm];exact ((ySX hD hx i).mulI _).add (zr hD hx r (i+1))
theorem zt {D:Int} (hD:1≤D) {x:Rat} (hx:In D x):In D (vX cuts dens x):=zr hD hx _ _
theorem zu (h:VC len cuts dens):∀ (r i:Nat),i+r=dens.length→vu cuts dens (len:Rat) r i-vu cuts dens ((cuts.getD i 0:Int):Rat) r i=((rem cuts dens r i:Int):Rat)
 | 0,_,_=>by unfold vu rem;show (0:Rat)-0=0;grind
 | r+1,i,hi=>by
  have ih:=zu h r (i+1) (by omega);have hst:((cuts.getD i 0:Int):Rat)≤((cuts.getD (i+1) 0:Int):Rat):=OZ h (Nat.le_succ i) (by omega);have hl:((cuts.getD (i+1) 0:Int):Rat)≤(len:Rat):=by rw [← h.last];exact OZ h (by omega) (cJ _)
  have low:=Kq h r (i+1) (x:=((cuts.getD i 0:Int):Rat)) (y:=((cuts.getD (i+1) 0:Int):Rat)) (by omega) hst gQ;have m1:=qT (len:Rat) (cuts.getD i 0:Int);have n1:=uB (bX (len:Rat) (cuts.getD i 0:Int)) (cuts.getD (i+1) 0:Int);have m2:=qT ((cuts.getD i 0:Int):Rat) (cuts.getD i 0:Int);have n2:=uB (bX ((cuts.getD i 0:Int):Rat) (cuts.getD i 0:Int)) (cuts.getD (i+1) 0:Int);have e1:uC cuts i (len:Rat)=((cuts.getD (i+1) 0:Int):Rat):=by unfold uC;grind
  have e2:uC cuts i ((cuts.getD i 0:Int):Rat)=((cuts.getD i 0:Int):Rat):=by unfold uC;grind
  unfold vu rem;rw [e1,e2,low,Rat.intCast_add,yC,Rat.intCast_sub,← ih];grind
theorem Pa (h:VC len cuts dens):vX cuts dens (len:Rat)-vX cuts dens 0=((totC cuts dens:Int):Rat):=by have c0:cuts.getD 0 0=0:=h.2.2.2.2.2.1;have:=zu h dens.length 0 (by omega);rw [c0] at this;unfold totC;rw [Ym,show (0:Int)+rem cuts dens dens.length 0=rem cuts dens dens.length 0 by omega];exact this
theorem zw (h:VC len cuts dens):(1:Rat)≤(len:Rat)∧(len:Rat)≤1000:=by have:=h.len0;exact ⟨qX.2 this.1,qX.2 this.2⟩
theorem zx (h:VC len cuts dens) {i:Nat} (hi:i<dens.length):(0:Rat)≤((dens.getD i 0:Int):Rat)∧((dens.getD i 0:Int):Rat)≤12:=by have:=h.den hi;exact ⟨qX.2 this.1,qX.2 this.2⟩
theorem zy {x d:Rat} (h0:0≤x) (hd:0≤d∧d≤12):0≤x*d∧x*d≤12*x:=by have a:=Rat.mul_nonneg h0 hd.1;have b:=GR hd.2 h0;exact ⟨a,by grind⟩
theorem YF (h:VC len cuts dens) {D:Int} (hD:1≤D∧D≤50000000000000) {b:Rat} (hb:In D b) (b1:b≤(len:Rat)) :
  ∀ (r i:Nat) (p sum:Rat),i+r=dens.length→In D p→In D sum→0≤p→p≤(len:Rat)→0≤sum→sum≤12*p→∃ v,valS cuts dens b r i p sum=.ok v
 | 0,i,p,sum,_,_,_,_,_,_,_=>⟨sum,rfl⟩
 | r+1,i,p,sum,hi,hp,hs,p0,p1,s0,s1=>by
  have l1:=h.l1;have hl:=zw h;have hd:=zx h (i:=i) (by omega);have hc1:((cuts.getD (i+1) 0:Int):Rat)≤(len:Rat):=by rw [← h.last];exact OZ h (by omega) (cJ _)
  unfold valS;have hen:∃ en:Rat,(if b<((cuts.getD (i+1) 0:Int):Rat) then b else ((cuts.getD (i+1) 0:Int):Rat))=en∧In D en∧en≤(len:Rat):=by
   refine ⟨_,rfl,?_,?_⟩
   ·split
    ·exact hb
    ·exact In.int hD.1 _
   ·split<;>grind
  obtain ⟨en,e0,e1,e2⟩:=hen;rw [e0];dsimp only;split
  ·refine YF h hD hb b1 r (i+1) _ sum (by omega) ?_ hs ?_ ?_ s0 ?_
   ·split
    ·exact e1
    ·exact hp
   ·split<;>grind
   ·split<;>grind
   ·split<;>grind
  ·rename_i hn;have hlt:p<en:=by
    refine Classical.byContradiction fun k=>hn (.inr k)
   have m:=zy (x:=en-p) (by grind) hd;have i1:=e1.sub hp;have i2:=i1.mulI (dens.getD i 0);have i3:=hs.add i2;rw [lS (i1.small (M:=1000) ⟨by omega,by omega⟩ (by omega) (by show -(1000:Rat)≤_;grind) (by show _≤(1000:Rat);grind)),
    lS (i2.small (M:=12000) ⟨by omega,by omega⟩ (by omega) (by show -(12000:Rat)≤_;grind) (by show _≤(12000:Rat);grind)),
    lS (i3.small (M:=12000) ⟨by omega,by omega⟩ (by omega) (by show -(12000:Rat)≤_;grind) (by show _≤(12000:Rat);grind))]
   exact YF h hD hb b1 r (i+1) en _ (by omega) e1 i3 (by grind) e2 (by grind) (by grind)
theorem yON (h:VC len cuts dens) {D:Int} (hD:1≤D∧D≤50000000000000) {a b:Rat} (ha:In D a) (hb:In D b) (a0:0≤a) (hab:a≤b) (b1:b≤(len:Rat)):Ai cuts dens a b=.ok (vX cuts dens b-vX cuts dens a):=by obtain ⟨v,e⟩:=YF h hD hb b1 dens.length 0 a 0 (by omega) ha (In.int hD.1 0) a0 (by grind) (by grind) (by grind);have e:Ai cuts dens a b=.ok v:=e;rw [e,yRt h a0 hab e]
end
def qG (A:List (List RS)):List PV:=A.map fun a=>.data (bJ a)
section
variable {len:Int} {cuts dens:List Int}
theorem yQo (h:VC len cuts dens) {s:RS} (hv:s.1<s.2) (hw:0≤s.1∧s.2≤(len:Rat)):0≤dV (vX cuts dens) s∧dV (vX cuts dens) s≤12000:=by have a:=Kr h hw.1;have b:=Kr h hw.2;have c:=Kr h (mE hv);have t:=Pa h;have tb:=qX.2 (vo h).2;have tb:((totC cuts dens:Int):Rat)≤12000:=tb;show 0≤vX cuts dens s.2-vX cuts dens s.1∧vX cuts dens s.2-vX cuts dens s.1≤12000;grind
end
def QR (cs:List Ck) (q:Qy):Prop:=
 (0≤q.agent∧q.agent<cs.length)∧(bE q.an∧bE q.ad∧bE q.bn∧bE q.bd) ∧
  ∃ p:Rat,(q.cn=p.num∧q.cd=p.den) ∧
   ((q.kind=2∧jK (cs.getD q.agent.toNat default).len (cs.getD q.agent.toNat default).cuts (cs.getD q.agent.toNat default).dens q.an q.ad q.bn q.bd=.ok p) ∨
    (q.kind=1∧kC (cs.getD q.agent.toNat default).len (cs.getD q.agent.toNat default).cuts (cs.getD q.agent.toNat default).dens q.an q.ad q.bn q.bd=.ok p))
section
variable {len:Int} {cuts dens:List Int}
theorem Pb (h:VC len cuts dens):∀ (r i:Nat) (p v:Rat),i+r=dens.length→((cuts.getD i 0:Int):Rat)≤p→p≤(len:Rat)→0<v→v≤vu cuts dens (len:Rat) r i-vu cuts dens p r i →
  ∀ D,1≤D→D≤1000000000000→In D p→In D v→v≤12000→∃ q d,mrkS cuts dens r i p v=.ok q∧(1≤d∧d≤12)∧In (d*D) q
 | 0,i,p,v,hi,_,_,v0,v1=>by unfold vu at v1;grind
 | r+1,i,p,v,hi,hp,p1,v0,v1=>by
  intro D D1 D2 hpD hvD hv;have l1:=h.l1;have hl:=zw h;have hd:=zx h (i:=i) (by omega);have hd2:=h.den (i:=i) (by omega);have hc0:(0:Rat)≤((cuts.getD i 0:Int):Rat):=Rat.intCast_nonneg.2 (h.lo (by omega));have hst:((cuts.getD i 0:Int):Rat)<((cuts.getD (i+1) 0:Int):Rat):=Ed.2 (h.step (i:=i) (by omega));have hc1:((cuts.getD (i+1) 0:Int):Rat)≤(len:Rat):=by rw [← h.last];exact OZ h (by omega) (cJ _)
  have low:=Kq h r (i+1) (x:=p) (y:=((cuts.getD (i+1) 0:Int):Rat)) (by omega);have m1:=qT p (cuts.getD i 0:Int);have m2:=qT (len:Rat) (cuts.getD i 0:Int);have n1:=uB (bX p (cuts.getD i 0:Int)) (cuts.getD (i+1) 0:Int);have n2:=uB (bX (len:Rat) (cuts.getD i 0:Int)) (cuts.getD (i+1) 0:Int);have el:uC cuts i (len:Rat)=((cuts.getD (i+1) 0:Int):Rat):=by unfold uC;grind
  unfold vu at v1;rw [el] at v1;unfold mrkS
  by_cases c1:p<((cuts.getD (i+1) 0:Int):Rat)
  case neg=>
   rw [Tu c1];have ep:uC cuts i p=((cuts.getD (i+1) 0:Int):Rat):=by unfold uC;grind
   rw [ep] at v1;exact Pb h r (i+1) p v (by omega) (Rat.not_lt.1 c1) p1 v0 (by grind) D D1 D2 hpD hvD hv
  rw [Zv (fun k=>k c1)];have ep:uC cuts i p=p:=by unfold uC;grind
  rw [ep,low (mE c1) gQ] at v1
  by_cases cz:dens.getD i 0=0
  ·rw [Tu cz];rw [cz] at v1;have e0:((0:Int):Rat)=0:=rfl;exact Pb h r (i+1) ((cuts.getD (i+1) 0:Int):Rat) v (by omega) gQ hc1 v0 (by grind) D D1 D2 (In.int D1 _) hvD hv
  rw [Zv cz];have hd1:0<dens.getD i 0:=by omega
  have dpos:(0:Rat)<((dens.getD i 0:Int):Rat):=Rat.intCast_pos.2 hd1;have m:=zy (x:=((cuts.getD (i+1) 0:Int):Rat)-p) (by grind) hd
  by_cases c3:(((cuts.getD (i+1) 0:Int):Rat)-p)*((dens.getD i 0:Int):Rat)<v
  ·have i1:=(In.int D1 (cuts.getD (i+1) 0)).sub hpD;have i2:=i1.mulI (dens.getD i 0);have i3:=hvD.sub i2;rw [lS (i1.small (M:=1000) ⟨by omega,by omega⟩ (by omega) (by show -(1000:Rat)≤_;grind) (by show _≤(1000:Rat);grind)),
    lS (i2.small (M:=12000) ⟨by omega,by omega⟩ (by omega) (by show -(12000:Rat)≤_;grind) (by show _≤(12000:Rat);grind)),Tu c3,
    lS (i3.small (M:=12000) ⟨by omega,by omega⟩ (by omega) (by show -(12000:Rat)≤_;grind) (by show _≤(12000:Rat);grind))]
   exact Pb h r (i+1) ((cuts.getD (i+1) 0:Int):Rat) (v-(((cuts.getD (i+1) 0:Int):Rat)-p)*((dens.getD i 0:Int):Rat)) (by omega) gQ hc1 (by grind) (by grind) D D1 D2 (In.int D1 _) i3 (by grind)
  ·have i1:=(In.int D1 (cuts.getD (i+1) 0)).sub hpD;have i2:=i1.mulI (dens.getD i 0);have i3:=hvD.div D1 (d:=dens.getD i 0) (by omega);have i4:=(hpD.up D1 (d:=dens.getD i 0) (by omega)).add i3;have hDD:dens.getD i 0*D≤12*D:=BJ hd2.2 (by omega);have hDD1:1*1≤dens.getD i 0*D:=mC (by omega) D1 (by omega) (by omega);generalize hs:v/((dens.getD i 0:Int):Rat)=s at *
   have es:s*((dens.getD i 0:Int):Rat)=v:=by rw [← hs];exact Rat.div_mul_cancel (by grind)
   have s0:0≤s:=by
    refine Rat.not_lt.1 fun k=>?_
    have:=Rat.mul_lt_mul_of_pos_right k dpos;grind
   have s1:p+s≤((cuts.getD (i+1) 0:Int):Rat):=by
    refine Rat.not_lt.1 fun k=>?_
    have:(((cuts.getD (i+1) 0:Int):Rat)-p)<s:=by grind
    have:=Rat.mul_lt_mul_of_pos_right this dpos;grind
   rw [lS (i1.small (M:=1000) ⟨by omega,by omega⟩ (by omega) (by show -(1000:Rat)≤_;grind) (by show _≤(1000:Rat);grind)),
    lS (i2.small (M:=12000) ⟨by omega,by omega⟩ (by omega) (by show -(12000:Rat)≤_;grind) (by show _≤(12000:Rat);grind)),Zv c3,
    lS (i3.small (M:=1000) ⟨by omega,by omega⟩ (by omega) (by show -(1000:Rat)≤_;grind) (by show _≤(1000:Rat);grind)),
    lS (i4.small (M:=1000) ⟨by omega,by omega⟩ (by omega) (by show -(1000:Rat)≤_;grind) (by show _≤(1000:Rat);grind))]
   exact ⟨_,dens.getD i 0,rfl,⟨by omega,hd2.2⟩,i4⟩
theorem zz (h:VC len cuts dens) {p v:Rat} (p0:0≤p) (p1:p≤(len:Rat)) (v0:0<v) (hv:v≤vX cuts dens (len:Rat)-vX cuts dens p) {D:Int} (D1:1≤D) (D2:D≤1000000000000) (hp:In D p) (hvD:In D v) :
  ∃ q d,mrkC cuts dens p v=.ok q∧(1≤d∧d≤12)∧In (d*D) q∧vX cuts dens q=vX cuts dens p+v∧p<q∧q≤(len:Rat)∧∀ x,x<q→vX cuts dens x<vX cuts dens q:=by
 have c0:cuts.getD 0 0=0:=h.2.2.2.2.2.1;have t:=Pa h;have m0:=Kr h p0;have tb:((totC cuts dens:Int):Rat)≤12000:=qX.2 (vo h).2;obtain ⟨q,d,e,hd,hq⟩:=Pb h dens.length 0 p v (by omega) (by rw [c0];exact p0) p1 v0 hv D D1 D2 hp hvD (by grind);have ec:mrkC cuts dens p v=.ok q:=by unfold mrkC;rw [Zv (by grind)];exact e
 obtain ⟨k1,k2,k3,_,k5⟩:=yRu h p0 p1 (mE v0) ec;refine ⟨q,d,ec,hd,hq,k1,?_,k3,k5 (by grind)⟩
 by_cases hlt:p<q
 ·exact hlt
 ·have:p=q:=by grind
  rw [← this] at k1;grind
end
section
variable {l:List Ck}
def cI (l:List Ck) (a:Nat) (p:Rat):Rat:=vX (l.getD a default).cuts (l.getD a default).dens p
def aT (l:List Ck):Rat:=((l.getD 0 default).len:Rat)
def Al (an ad:Int) (a:Nat) (p v:Rat):Qy:=⟨a,1,an,ad,p.num,p.den,v.num,v.den⟩
def valE (l:List Ck) (an ad:Int) (m a:Nat) (p:Rat):Except Int Rat:=iW l m a (Ck.value an ad p.num p.den)
theorem yOO (hd:DK l) {a:Nat} (_:a<l.length) {an ad:Int} (ha:bE an) (ha':bE ad) (lg:List Qy) {p:Rat} (hp:small p) (K:List PV→List PV→Int→Int→Int→Prop) :
  yaz (aJ l) (aF lg) a an ad p.num p.den K =
   match valE l an ad lg.length a p with
   | .ok v=>K (aJ l) (aF (lg++[Al an ad a p v])) v.num v.den 0
   | .error e=>K [] [] 0 0 e:=by
 have n6:=hd.n6;rw [yOv hd.fin (by omega) (Kj lg) ha ha' hp.i1 hp.i2,xS];have em:iW l lg.length a (Ck.value an ad p.num p.den)=valE l an ad lg.length a p:=rfl;rw [em]
 cases valE l an ad lg.length a p with
 | ok v =>show K (aJ l) (aF lg++[_]) _ _ _=K (aJ l) (aF (lg++[_])) _ _ _;rw [Yn];rfl
 | error c=>rfl
theorem yQp {A r:List Nat} {i a:Nat} (h:A.drop i=a::r):i<A.length∧A.getD i 0=a∧A.drop (i+1)=r:=by
 have hlt:i<A.length:=by have:=Aaa length h;rw [kR,eR] at this;omega
 rw [KI hlt] at h;rw [dK,dL hlt];exact ⟨hlt,(List.cons.inj h).1,(List.cons.inj h).2⟩
theorem yRL {x:Int} {P:Prop}:aB (aE zI (.int .i64 x)) P=P:=rfl
theorem iov {k:IntKind} {x:Int}:aC (.int k x)=x:=rfl
theorem yOP (hd:DK l) {a:Nat} {an ad:Int} (ha:bE an) (ha':bE ad) (lg:List Qy) {p:Rat} (hp:small p) (K:List PV→List PV→Int→Int→Int→Prop) :
  Dg (aJ l) (aF lg) a an ad p.num p.den K =
   match valE l an ad lg.length a p with
   | .ok v=>K (aJ l) (aF (lg++[Al an ad a p v])) v.num v.den 0
   | .error e=>K [] [] 0 0 e:=by
 have n6:=hd.n6;rw [yOx hd.fin (by omega) (Kj lg) ha ha' hp.i1 hp.i2,xS];have em:iW l lg.length a (Ck.value an ad p.num p.den)=valE l an ad lg.length a p:=rfl;rw [em]
 cases valE l an ad lg.length a p with
 | ok v =>show K (aJ l) (aF lg++[_]) _ _ _=K (aJ l) (aF (lg++[_])) _ _ _;rw [Yn];rfl
 | error c=>rfl
theorem yGC (hd:DK l) {a:Nat} (h:a<l.length) {q p:Rat} (hs:small q) (hp:small p) (q0:0≤q) (qp:q≤p) (p1:p≤aT l) {D:Int} (hD:1≤D∧D≤50000000000000) (hq:In D q) (hpD:In D p) {m:Nat} (hm:m<2000) :
  valE l q.num q.den m a p=.ok (cI l a p-cI l a q)∧QR l (Al q.num q.den a p (cI l a p-cI l a q)):=by
 have hok:=hd.ok a h;have hlen:=hd.len a h;have p1':p≤((l.getD a default).len:Rat):=by rw [hlen];exact p1
 have e:kC (l.getD a default).len (l.getD a default).cuts (l.getD a default).dens q.num q.den p.num p.den=.ok (cI l a p-cI l a q):=by unfold kC;rw [Tu hok.ck,uA,uA,Tu ⟨Yf hs q0 (nL qp p1'),Yf hp (nL q0 qp) p1',Rat.not_lt.2 qp⟩];exact yON hok hD hq hpD q0 qp p1'
 refine ⟨?_,⟨by show (0:Int)≤a;omega,by show (a:Int)<_;omega⟩,⟨hs.i1,hs.i2,hp.i1,hp.i2⟩,cI l a p-cI l a q,⟨rfl,rfl⟩,.inr ⟨rfl,?_⟩⟩
 ·unfold valE iW;rw [Tu (hd.err (by omega)),Tu ⟨by omega,by omega⟩,cP];have:Ck.value q.num q.den p.num p.den (l.getD a default)=.ok (cI l a p-cI l a q):=e;rw [this];show (if m≥2000 then _ else _)=_;rw [Zv (by omega)]
 ·exact e
end
set_option maxRecDepth 100000
section
variable {l:List Ck}
theorem oC (a b:Int) (K:Int→Int→Prop):yad a b 0 K=K a b:=rfl
theorem yNu (n:Int) (K:Int→Int→Prop):ya5 n K=K n 1:=rfl
def dN (l:List Ck) (a:Nat) (q v:Rat):Rat:=DP (mrkC (l.getD a default).cuts (l.getD a default).dens q v)
def eI (a:Nat) (q v p:Rat):Qy:=⟨a,2,q.num,q.den,v.num,v.den,p.num,p.den⟩
def bG (l:List Ck) (a:Nat) (q p:Rat):Qy:=Al q.num q.den a p (cI l a p-cI l a q)
structure MkV (l:List Ck) (a:Nat) (q v:Rat) (D:Int):Prop where
 e:mrkC (l.getD a default).cuts (l.getD a default).dens q v=.ok (dN l a q v)
 d:∃ d:Int,(1≤d∧d≤12)∧In (d*D) (dN l a q v)
 eqv:cI l a (dN l a q v)=cI l a q+v
 ge:q≤dN l a q v
 le:dN l a q v≤aT l
theorem Ks (hd:DK l) {a:Nat} (ha:a<l.length) {q v:Rat} (q0:0≤q) (q1:q≤aT l) (v0:0≤v) (hv:v≤cI l a (aT l)-cI l a q) {D:Int} (D1:1≤D) (D2:D≤1000000000000) (hq:In D q) (hvD:In D v):MkV l a q v D:=by
 have hok:=hd.ok a ha;have hlen:=hd.len a ha
 by_cases hz:v=0
 ·have e:mrkC (l.getD a default).cuts (l.getD a default).dens q v=.ok q:=by unfold mrkC;rw [Tu hz]
  have g:dN l a q v=q:=by unfold dN;rw [e];rfl
  refine ⟨by rw [g];exact e,⟨1,by omega,by rw [g,Int.one_mul];exact hq⟩,by rw [g,hz];grind,by rw [g];exact gQ,by rw [g];exact q1⟩
 have v0:0<v:=by grind
 unfold cI aT at *
 rw [← hlen] at q1 hv;obtain ⟨p,d,e,hd12,hp,k1,k2,k3,k4⟩:=zz hok q0 q1 v0 hv D1 D2 hq hvD;obtain ⟨_,g2⟩:=xw e;have g2:dN l a q v=p:=g2;refine ⟨?_,⟨d,hd12,?_⟩,?_,?_,?_⟩
 ·rw [g2];exact e
 ·rw [g2];exact hp
 ·rw [g2];exact k1
 ·rw [g2];exact mE k2
 ·rw [g2];unfold aT;rw [← hlen];exact k3
theorem yGD (hd:DK l) {a:Nat} (ha:a<l.length) {q v:Rat} (hs:small q) (q0:0≤q) (q1:q≤aT l) (hv:small v) (v0:0≤v) {D:Int} (h:MkV l a q v D) {lg:List Qy} (hm:lg.length<2000) (K:List PV→List PV→Int→Int→Int→Prop) :
  Bj (aJ l) (aF lg) a q.num q.den v.num v.den K=K (aJ l) (aF (lg++[eI a q v (dN l a q v)])) (dN l a q v).num (dN l a q v).den 0:=by
 have n6:=hd.n6;have hok:=hd.ok a ha;have e1:jK (l.getD a default).len (l.getD a default).cuts (l.getD a default).dens q.num q.den v.num v.den=.ok (dN l a q v):=by unfold jK;rw [Tu hok.ck,Tu ⟨Yf hs q0 (by rw [hd.len a ha];exact q1),hv.rv,Rat.num_nonneg.2 v0⟩,uA,uA];exact h.e
 have e2:iW l lg.length (a:Int) (Ck.mark q.num q.den v.num v.den)=.ok (dN l a q v):=by unfold iW;rw [Tu (hd.err (by omega)),Tu ⟨by omega,by omega⟩,cP];have:Ck.mark q.num q.den v.num v.den (l.getD a default)=.ok (dN l a q v):=e1;rw [this];show (if lg.length≥2000 then _ else _)=_;rw [Zv (by omega)]
 rw [xb hd.fin (by omega) (Kj lg) hs.i1 hs.i2 hv.i1 hv.i2,xS,e2];show K (aJ l) (aF lg++[_]) _ _ _=K (aJ l) (aF (lg++[_])) _ _ _;rw [Yn];rfl
theorem YG (hd:DK l) {a:Nat} (ha:a<l.length) {q v:Rat} (hs:small q) (q0:0≤q) (q1:q≤aT l) (hv:small v) (v0:0≤v) {D:Int} (h:MkV l a q v D) {lg:List Qy} (hm:lg.length<2000) (K:Int→Int→List PV→List PV→Prop) :
  yaH (aJ l) (aF lg) a q.num q.den v.num v.den K=K (dN l a q v).num (dN l a q v).den (aJ l) (aF (lg++[eI a q v (dN l a q v)])):=by
 unfold yaH Xj;rw [yGD hd ha hs q0 q1 hv v0 h hm,oC]
theorem ySt (hd:DK l) {a:Nat} (ha:a<l.length) {q p:Rat} (hs:small q) (hp:small p) (q0:0≤q) (qp:q≤p) (p1:p≤aT l) {D:Int} (hD:1≤D∧D≤50000000000000) (hq:In D q) (hpD:In D p) {lg:List Qy} (hm:lg.length<2000) (K:List PV→List PV→Int→Int→Int→Prop) :
  yaz (aJ l) (aF lg) a q.num q.den p.num p.den K=K (aJ l) (aF (lg++[bG l a q p])) (cI l a p-cI l a q).num (cI l a p-cI l a q).den 0:=by
 rw [yOO hd ha hs.i1 hs.i2 lg hp,(yGC hd ha hs hp q0 qp p1 hD hq hpD (m:=lg.length) hm).1];rfl
def aQ (l:List Ck) (a:Nat):Rat:=((totC (l.getD a default).cuts (l.getD a default).dens:Int):Rat)
theorem yQr (hd:DK l) {a:Nat} (h2:a<l.length) {lg:List PV} (hm:lg.length≤2000) (K:Int→Int→List PV→List PV→Prop):yaK (aJ l) lg a K=K (aQ l a).num (aQ l a).den (aJ l) lg:=by
 have hok:=hd.ok a h2;have n6:=hd.n6;have h1:=VC.l1 hok;have h3:=VC.l2 hok;unfold yaK Xi Nt Vq;rw [Ki hd.fin (by omega),hd.err hm,cS rfl,Yl,Os (by omega),jF,aV];simp only [lt];rw [iE,cP,nI h2,aI (by omega),aI (by omega),eO,mT,qR,qS,yOr (by omega) (by omega),Tu (VC.ck hok)];have e1:(aQ l a).num=totC (l.getD a default).cuts (l.getD a default).dens:=Rat.num_intCast _;have e2:(((aQ l a).den:Nat):Int)=1:=by unfold aQ;rw [Rat.den_intCast];rfl
 rw [e1,e2];rfl
def r13:Rat:=mkRat 1 3
def cY:Rat:=mkRat 2 3
theorem Kt:r13.num=1:=by decide +kernel
theorem Ku:r13.den=3:=by decide +kernel
theorem Kv:cY.num=2:=by decide +kernel
theorem Kw:cY.den=3:=by decide +kernel
theorem Kx:small r13:=by decide +kernel
theorem Ky:small cY:=by decide +kernel
theorem yNv (hd:DK l) {a:Nat} (ha:a<l.length) {q v:Rat} (hs:small q) (q0:0≤q) (q1:q≤aT l) (hv:small v) (h1s:small (v*r13)) (h2s:small (v*cY)) (h10:0≤v*r13) (h20:0≤v*cY) {D D':Int} (h1:MkV l a q (v*r13) D) (h2:MkV l a q (v*cY) D') {lg:List Qy} (hm:lg.length+2<2000) (K:Int→Int→Int→Int→List PV→List PV→Prop) :
  yai (aJ l) (aF lg) a q.num q.den v.num v.den K=K (dN l a q (v*r13)).num (dN l a q (v*r13)).den (dN l a q (v*cY)).num (dN l a q (v*cY)).den (aJ l) (aF ((lg++[eI a q (v*r13) (dN l a q (v*r13))])++[eI a q (v*cY) (dN l a q (v*cY))])):=by
 unfold yai Xl;have m1:=fun K=>JW hv Kx K
 have m2:=fun K=>JW hv Ky K
 rw [Kt,Ku] at m1;rw [Kv,Kw] at m2;have m1:∀ K,ybF v.num v.den 1 3 K=_:=m1;have m2:∀ K,ybF v.num v.den 2 3 K=_:=m2;rw [m1,jP,Tu h1s,oC,YG hd ha hs q0 q1 h1s h10 h1 (by omega),m2,jP,Tu h2s,oC,YG hd ha hs q0 q1 h2s h20 h2 (by rw [cR,eQ];omega)]
def lV (v:Nat→Rat):Nat→List Nat→Nat
 | b,[]=>b
 | b,i::r=>lV v (if v b<v i then i else b) r
theorem ySu {q r:Rat}:decide (gD q r>0)=decide (r<q):=by
 unfold gD
 by_cases h:q<r
 ·rw [Tu h];have:¬r<q:=fun h'=>by grind
  simp [this]
 ·rw [Zv h]
  by_cases h2:r<q
  ·simp [h2]
  ·simp [h2]
theorem yGE {vs:List Rat} (hs:∀ i,i<vs.length→small (vs.getD i 0)) {J:List Nat} (hJ:∀ i∈J,i<vs.length) (h6:J.length≤100) {x:List PV→Int→List PV→Int→Int→Bool→Prop} :
  ∀ (r:List Nat) (i n b:Nat),J.drop i=r→i≤J.length→r.length<n→b<vs.length→x (bP vs) (lV (fun i=>vs.getD i 0) b r:Nat) (fT J) (J.length:Int) (J.length:Int) false→Gr rU x n (bP vs) (b:Int) (fT J) (J.length:Int) (i:Int)
 | [],i,n,b,hr,hi,hn,hb,h=>by
  obtain ⟨n,rfl⟩:∃ k,n=k+1:=⟨n-1,by omega⟩;have e:i=J.length:=by
   have:=Aaa length hr;rw [kR,sT] at this;omega
  subst e;unfold Gr;rw [aP (by omega)];exact h
 | a::r,i,n,b,hr,hi,hn,hb,h=>by
  obtain ⟨n,rfl⟩:∃ k,n=k+1:=⟨n-1,by omega⟩;simp only [eR] at hn;obtain ⟨hlt,hg,hr'⟩:=yQp hr;have ha:a<vs.length:=hJ a (by rw [← hg,dK,dL hlt];exact wP hlt);have ew:i64.wrap ((i:Int)+1)=((i+1:Nat):Int):=by rw [eF (by omega) (by omega)];omega
  have IH:=fun b hb h=>yGE hs hJ h6 (x:=x) r (i+1) n b hr' (by omega) (by omega) hb h
  unfold Gr;simp only [Go.Pf.jn,lt];rw [aO (by omega),yb,aI (by omega),aI (by omega),cP,ySp hlt,hg,yRL,iov,sJ,aI (by omega),aI (by omega),cP,xT ha,BG,aI (by omega),aI (by omega),cP,xT hb,BG,BE,BF,BE,BF,XZ (hs a ha) (hs b hb),ySu,ew];unfold lV at h
  by_cases hc:vs.getD b 0<vs.getD a 0
  ·rw [Tu hc] at h;rw [Os hc,aY];exact IH a ha h
  ·rw [Zv hc] at h;rw [Pn hc,aV];exact IH b hb h
theorem YH {vs:List Rat} (hs:∀ i,i<vs.length→small (vs.getD i 0)) {i0:Nat} {J:List Nat} (hJ:∀ i∈i0::J,i<vs.length) (h6:J.length≤90) (K:Int→Prop) :
  yau (bP vs) (fT (i0::J)) K=K (lV (fun i=>vs.getD i 0) i0 (i0::J):Nat):=by
 refine yCd _ _ _ (fun K k=>?_) K;unfold yau Xm;have e:getD (fT (i0::J)) 0 .nils=.int .i64 i0:=rfl;simp only [lt];rw [yb,aI (by simp only [eR];omega),e,yRL,iov];exact ⟨(i0::J).length+1,yGE hs hJ (by simp only [eR];omega) (i0::J) 0 _ i0 rfl (by omega) (by omega) (hJ i0 dS) k⟩
theorem GJ {v:Nat→Rat}:∀ (J:List Nat) (b:Nat),(lV v b J=b∨lV v b J∈J)∧v b≤v (lV v b J)∧∀ i∈J,v i≤v (lV v b J)
 | [],b=>⟨.inl rfl,gQ,fun i h=>by cases h⟩
 | a::r,b=>by
  unfold lV
  by_cases hc:v b<v a
  ·rw [Tu hc];obtain ⟨h1,h2,h3⟩:=GJ (v:=v) r a;refine ⟨.inr ?_,by grind,fun i hi=>?_⟩
   ·rcases h1 with h1 | h1
    ·rw [h1];exact dS
    ·exact fC _ h1
   ·rcases qAo.1 hi with rfl | hi
    ·exact h2
    ·exact h3 i hi
  ·rw [Zv hc];obtain ⟨h1,h2,h3⟩:=GJ (v:=v) r b;have hc:=Rat.not_lt.1 hc;refine ⟨?_,h2,fun i hi=>?_⟩
   ·rcases h1 with h1 | h1
    ·exact .inl h1
    ·exact .inr (fC _ h1)
   ·rcases qAo.1 hi with rfl | hi
    ·grind
    ·exact h3 i hi
def dX (p:Nat):List Nat:=if p=0 then [1,2] else if p=1 then [0,2] else [0,1]
theorem YI (K:List PV→Prop):yam (fT [0]) K=K (fT [1,2]):=by refine zZ _ _ (fun K k=>?_) K;refine @Exists.intro Nat _ 4 ?_;refine @Exists.intro Nat _ 2 ?_;refine @Exists.intro Nat _ 2 ?_;refine @Exists.intro Nat _ 2 ?_;exact k
theorem YJ (K:List PV→Prop):yam (fT [1]) K=K (fT [0,2]):=by refine zZ _ _ (fun K k=>?_) K;refine @Exists.intro Nat _ 4 ?_;refine @Exists.intro Nat _ 2 ?_;refine @Exists.intro Nat _ 2 ?_;refine @Exists.intro Nat _ 2 ?_;exact k
theorem YL (K:List PV→Prop):yam (fT [2]) K=K (fT [0,1]):=by refine zZ _ _ (fun K k=>?_) K;refine @Exists.intro Nat _ 4 ?_;refine @Exists.intro Nat _ 2 ?_;refine @Exists.intro Nat _ 2 ?_;refine @Exists.intro Nat _ 2 ?_;exact k
theorem ySY (K:List PV→Prop):yam (fT [0,1]) K=K (fT [2]):=by refine zZ _ _ (fun K k=>?_) K;refine @Exists.intro Nat _ 4 ?_;refine @Exists.intro Nat _ 3 ?_;refine @Exists.intro Nat _ 3 ?_;refine @Exists.intro Nat _ 3 ?_;exact k
theorem ySZ (K:List PV→Prop):yam (fT [1,0]) K=K (fT [2]):=by refine zZ _ _ (fun K k=>?_) K;refine @Exists.intro Nat _ 4 ?_;refine @Exists.intro Nat _ 3 ?_;refine @Exists.intro Nat _ 3 ?_;refine @Exists.intro Nat _ 3 ?_;exact k
theorem yS0 (K:List PV→Prop):yam (fT [0,2]) K=K (fT [1]):=by refine zZ _ _ (fun K k=>?_) K;refine @Exists.intro Nat _ 4 ?_;refine @Exists.intro Nat _ 3 ?_;refine @Exists.intro Nat _ 3 ?_;refine @Exists.intro Nat _ 3 ?_;exact k
theorem yS1 (K:List PV→Prop):yam (fT [2,0]) K=K (fT [1]):=by refine zZ _ _ (fun K k=>?_) K;refine @Exists.intro Nat _ 4 ?_;refine @Exists.intro Nat _ 3 ?_;refine @Exists.intro Nat _ 3 ?_;refine @Exists.intro Nat _ 3 ?_;exact k
theorem yS2 (K:List PV→Prop):yam (fT [1,2]) K=K (fT [0]):=by refine zZ _ _ (fun K k=>?_) K;refine @Exists.intro Nat _ 4 ?_;refine @Exists.intro Nat _ 3 ?_;refine @Exists.intro Nat _ 3 ?_;refine @Exists.intro Nat _ 3 ?_;exact k
theorem yS3 (K:List PV→Prop):yam (fT [2,1]) K=K (fT [0]):=by refine zZ _ _ (fun K k=>?_) K;refine @Exists.intro Nat _ 4 ?_;refine @Exists.intro Nat _ 3 ?_;refine @Exists.intro Nat _ 3 ?_;refine @Exists.intro Nat _ 3 ?_;exact k
theorem GK {p:Nat} (hp:p<3) (K:List PV→Prop):yam [.int .i64 (p:Int)] K=K (fT (dX p)):=by
 obtain rfl|rfl|rfl:p=0∨p=1∨p=2:=by omega
 ·exact YI K
 ·exact YJ K
 ·exact YL K
theorem YM {a b:Nat} (ha:a<3) (hb:b<3) (hab:a≠b) (K:List PV→Prop):yam [.int .i64 (a:Int),.int .i64 (b:Int)] K=K (fT [3-a-b]):=by
 obtain rfl|rfl|rfl:a=0∨a=1∨a=2:=by omega
 ·obtain rfl | rfl:b=1∨b=2:=by omega
  ·exact ySY K
  ·exact yS0 K
 ·obtain rfl | rfl:b=0∨b=2:=by omega
  ·exact ySZ K
  ·exact yS2 K
 ·obtain rfl | rfl:b=0∨b=1:=by omega
  ·exact yS1 K
  ·exact yS3 K
def pk (v:List Rat):Nat:=lV (fun i=>v.getD i 0) 0 [0,1,2]
def pkO (v:List Rat) (p:Nat):Nat:=lV (fun i=>v.getD i 0) ((dX p).getD 0 0) (dX p)
theorem YN (v:List Rat):pk v<3:=by
 obtain ⟨h,_⟩:=GJ (v:=fun i=>v.getD i 0) [0,1,2] 0;unfold pk;rcases h with h | h
 ·rw [h];decide
 ·simp only [qAo,Eh,or_false] at h;omega
theorem ySv (v:List Rat) {i:Nat} (hi:i<3):v.getD i 0≤v.getD (pk v) 0:=(GJ (v:=fun i=>v.getD i 0) [0,1,2] 0).2.2 i (by simp;omega)
theorem yRv {p i:Nat} (hp:p<3):i∈dX p↔i<3∧i≠p:=by
 obtain rfl|rfl|rfl:p=0∨p=1∨p=2:=by omega
 all_goals (simp [dX];omega)
theorem YO (v:List Rat) {p:Nat} (hp:p<3):pkO v p<3∧pkO v p≠p:=by
 obtain ⟨h,_⟩:=GJ (v:=fun i=>v.getD i 0) (dX p) ((dX p).getD 0 0);have h:pkO v p∈dX p:=by
  unfold pkO;rcases h with h | h
  ·rw [h];obtain rfl | rfl | rfl:p=0∨p=1∨p=2:=by omega
   all_goals simp [dX]
  ·exact h
 exact (yRv hp).1 h
theorem YP {v:List Rat} (h3:v.length=3) (hs:∀ i,i<3→small (v.getD i 0)) (K:Int→Prop):yau (bP v) [.int .i64 0,.int .i64 1,.int .i64 2] K=K (pk v:Nat):=
 YH (i0:=0) (J:=[1,2]) (by rw [h3];exact hs) (by rw [h3];intro i hi;simp at hi;omega) (by decide) K
theorem yNw {v:List Rat} (h3:v.length=3) (hs:∀ i,i<3→small (v.getD i 0)) {p:Nat} (hp:p<3) (K:Int→Prop):yau (bP v) (fT (dX p)) K=K (pkO v p:Nat):=by
 have key:∀ a b:Nat,dX p=[a,b]→a<3→b<3→yau (bP v) (fT (dX p)) K=K (pkO v p:Nat):=fun a b e ha hb=>by
  unfold pkO;rw [e];exact YH (i0:=a) (J:=[b]) (by rw [h3];exact hs) (by rw [h3];intro i hi;simp at hi;omega) (by rw [eQ];omega) K
 obtain rfl|rfl|rfl:p=0∨p=1∨p=2:=by omega
 ·exact key 1 2 rfl (by omega) (by omega)
 ·exact key 0 2 rfl (by omega) (by omega)
 ·exact key 0 1 rfl (by omega) (by omega)
end
theorem bR {P R:Nat→Prop} (h0:P 0=False) (h:∀ n,P (n+1)=R n):(∃ n,P n)=∃ n,R n:=
 Aac ⟨fun ⟨n,hn⟩=>match n,hn with | 0,hn=>(h0 ▸ hn).elim | n+1,hn=>⟨n,(h n) ▸ hn⟩,fun ⟨n,hn⟩=>⟨n+1,(h n).symm ▸ hn⟩⟩
theorem cK {Q:Prop}:(∃ _:Nat,Q)=Q:=Aac ⟨fun ⟨_,h⟩=>h,fun h=>⟨0,h⟩⟩
section
variable {l:List Ck}
structure VQ (l:List Ck) (s:RS):Prop where
 s1:small s.1
 s2:small s.2
 z:0≤s.1
 le:s.1≤s.2
 len:s.2≤aT l
 D:∃ D:Int,(1≤D∧D≤50000000000000)∧In D s.1∧In D s.2
def vS (l:List Ck) (a:Nat) (s:RS):Rat:=cI l a s.2-cI l a s.1
theorem VQ.val (hd:DK l) {a:Nat} (ha:a<l.length) {s:RS} (h:VQ l s) {lg:List Qy} (hm:lg.length<2000) (K:List PV→List PV→Int→Int→Int→Prop) :
  yaz (aJ l) (aF lg) a s.1.num s.1.den s.2.num s.2.den K=K (aJ l) (aF (lg++[bG l a s.1 s.2])) (vS l a s).num (vS l a s).den 0:=by
 obtain ⟨D,hD,k1,k2⟩:=h.D;exact ySt hd ha h.s1 h.s2 h.z h.le h.len hD k1 k2 hm K
theorem yS4 (hd:DK l) {a:Nat} (ha:a<l.length) {s t:RS} (hs:VQ l s) (ht:VQ l t) {lg:List Qy} (hm:lg.length+2<2000) {x0 x1} (i0 i1 i2 i3 i4 i5 i6 i7 i8 i9 i10 i11 i12 i13 i14 i15 i16 i17 i18 i19:Int) :
  (∃ n,ydk ya5 yaK yai yaz yad yaX yau yam yaH x0 x1 n (aJ l) (aF lg) i0 i1 i2 i3 i4 i5 i6 i7 i8 i9 i10 i11 i12 i13 i14 i15 i16 i17 i18 i19 (a:Int) [aM s,aM t] 2 0) =
  x1 (bP [vS l a s,vS l a t]) (aJ l) (aF ((lg++[bG l a s.1 s.2])++[bG l a t.1 t.2])) i0 i1 i2 i3 i4 i5 i6 i7 i8 i9 i10 i11 i12 i13 i14 i15 i16 i17 i18 i19 (a:Int) [aM s,aM t] 2 2 false:=by
 rw [bR rfl (R:=fun n=>Br ya5 yaK yai yaz yad yaX yau yam yaH x1 n (bP [vS l a s]) (aJ l) (aF (lg++[bG l a s.1 s.2])) i0 i1 i2 i3 i4 i5 i6 i7 i8 i9 i10 i11 i12 i13 i14 i15 i16 i17 i18 i19 (a:Int) [aM s,aM t] 2 1) (fun n=>?_),
  bR rfl (R:=fun n=>Br ya5 yaK yai yaz yad yaX yau yam yaH x1 n (bP [vS l a s,vS l a t]) (aJ l) (aF ((lg++[bG l a s.1 s.2])++[bG l a t.1 t.2])) i0 i1 i2 i3 i4 i5 i6 i7 i8 i9 i10 i11 i12 i13 i14 i15 i16 i17 i18 i19 (a:Int) [aM s,aM t] 2 2) (fun n=>?_),
  bR rfl (R:=fun _=>x1 (bP [vS l a s,vS l a t]) (aJ l) (aF ((lg++[bG l a s.1 s.2])++[bG l a t.1 t.2])) i0 i1 i2 i3 i4 i5 i6 i7 i8 i9 i10 i11 i12 i13 i14 i15 i16 i17 i18 i19 (a:Int) [aM s,aM t] 2 2 false) (fun n=>by kernel_rfl),cK]
 ·have e:Br ya5 yaK yai yaz yad yaX yau yam yaH x1 (n+1) (bP [vS l a s]) (aJ l) (aF (lg++[bG l a s.1 s.2])) i0 i1 i2 i3 i4 i5 i6 i7 i8 i9 i10 i11 i12 i13 i14 i15 i16 i17 i18 i19 (a:Int) [aM s,aM t] 2 1=yaz (aJ l) (aF (lg++[bG l a s.1 s.2])) a t.1.num t.1.den t.2.num t.2.den (fun c g y0 y1 y2=>yad y0 y1 y2 fun r0 r1=>Br ya5 yaK yai yaz yad yaX yau yam yaH x1 n [dC (vS l a s),.agg [.int .i64 r0,.int .i64 r1]] c g i0 i1 i2 i3 i4 i5 i6 i7 i8 i9 i10 i11 i12 i13 i14 i15 i16 i17 i18 i19 (a:Int) [aM s,aM t] 2 2):=by kernel_rfl
  rw [e,ht.val hd ha (by rw [cR,eQ];omega),oC];rfl
 ·have e:ydk ya5 yaK yai yaz yad yaX yau yam yaH x0 x1 (n+1) (aJ l) (aF lg) i0 i1 i2 i3 i4 i5 i6 i7 i8 i9 i10 i11 i12 i13 i14 i15 i16 i17 i18 i19 (a:Int) [aM s,aM t] 2 0=yaz (aJ l) (aF lg) a s.1.num s.1.den s.2.num s.2.den (fun c g y0 y1 y2=>yad y0 y1 y2 fun r0 r1=>Br ya5 yaK yai yaz yad yaX yau yam yaH x1 n [.agg [.int .i64 r0,.int .i64 r1]] c g i0 i1 i2 i3 i4 i5 i6 i7 i8 i9 i10 i11 i12 i13 i14 i15 i16 i17 i18 i19 (a:Int) [aM s,aM t] 2 1):=by kernel_rfl
  rw [e,hs.val hd ha (by omega),oC];rfl
theorem yRM (hd:DK l) {a:Nat} (ha:a<l.length) {s t u:RS} (hs:VQ l s) (ht:VQ l t) (hu:VQ l u) {lg:List Qy} (hm:lg.length+3<2000) {x2 x3} (v:List PV) (i12 i13 i14 i15 i16 i17 i18 i19:Int) :
  (∃ n,ycA ya5 yaK yai yaz yad yaX yau yam yaH x2 x3 n v (aJ l) (aF lg) s.1.num s.1.den s.2.num s.2.den t.1.num t.1.den t.2.num t.2.den u.1.num u.1.den u.2.num u.2.den i12 i13 i14 i15 i16 i17 i18 i19 (a:Int) 3 0) =
  x3 v (bP [vS l a s,vS l a t,vS l a u]) (aJ l) (aF (((lg++[bG l a s.1 s.2])++[bG l a t.1 t.2])++[bG l a u.1 u.2])) s.1.num s.1.den s.2.num s.2.den t.1.num t.1.den t.2.num t.2.den u.1.num u.1.den u.2.num u.2.den i12 i13 i14 i15 i16 i17 i18 i19 (a:Int) 3 3 false:=by
 rw [bR rfl (R:=fun n=>vZ ya5 yaK yai yaz yad yaX yau yam yaH x3 n v (bP [vS l a s]) (aJ l) (aF (lg++[bG l a s.1 s.2])) s.1.num s.1.den s.2.num s.2.den t.1.num t.1.den t.2.num t.2.den u.1.num u.1.den u.2.num u.2.den i12 i13 i14 i15 i16 i17 i18 i19 (a:Int) 3 1) (fun n=>?_),
  bR rfl (R:=fun n=>vZ ya5 yaK yai yaz yad yaX yau yam yaH x3 n v (bP [vS l a s,vS l a t]) (aJ l) (aF ((lg++[bG l a s.1 s.2])++[bG l a t.1 t.2])) s.1.num s.1.den s.2.num s.2.den t.1.num t.1.den t.2.num t.2.den u.1.num u.1.den u.2.num u.2.den i12 i13 i14 i15 i16 i17 i18 i19 (a:Int) 3 2) (fun n=>?_),
  bR rfl (R:=fun n=>vZ ya5 yaK yai yaz yad yaX yau yam yaH x3 n v (bP [vS l a s,vS l a t,vS l a u]) (aJ l) (aF (((lg++[bG l a s.1 s.2])++[bG l a t.1 t.2])++[bG l a u.1 u.2])) s.1.num s.1.den s.2.num s.2.den t.1.num t.1.den t.2.num t.2.den u.1.num u.1.den u.2.num u.2.den i12 i13 i14 i15 i16 i17 i18 i19 (a:Int) 3 3) (fun n=>?_),
  bR rfl (R:=fun _=>x3 v (bP [vS l a s,vS l a t,vS l a u]) (aJ l) (aF (((lg++[bG l a s.1 s.2])++[bG l a t.1 t.2])++[bG l a u.1 u.2])) s.1.num s.1.den s.2.num s.2.den t.1.num t.1.den t.2.num t.2.den u.1.num u.1.den u.2.num u.2.den i12 i13 i14 i15 i16 i17 i18 i19 (a:Int) 3 3 false) (fun n=>by kernel_rfl),cK]
 ·have e:vZ ya5 yaK yai yaz yad yaX yau yam yaH x3 (n+1) v (bP [vS l a s,vS l a t]) (aJ l) (aF ((lg++[bG l a s.1 s.2])++[bG l a t.1 t.2])) s.1.num s.1.den s.2.num s.2.den t.1.num t.1.den t.2.num t.2.den u.1.num u.1.den u.2.num u.2.den i12 i13 i14 i15 i16 i17 i18 i19 (a:Int) 3 2=yaz (aJ l) (aF ((lg++[bG l a s.1 s.2])++[bG l a t.1 t.2])) a u.1.num u.1.den u.2.num u.2.den (fun c g y0 y1 y2=>yad y0 y1 y2 fun r0 r1=>vZ ya5 yaK yai yaz yad yaX yau yam yaH x3 n v [dC (vS l a s),dC (vS l a t),.agg [.int .i64 r0,.int .i64 r1]] c g s.1.num s.1.den s.2.num s.2.den t.1.num t.1.den t.2.num t.2.den u.1.num u.1.den u.2.num u.2.den i12 i13 i14 i15 i16 i17 i18 i19 (a:Int) 3 3):=by kernel_rfl
  rw [e,hu.val hd ha (by simp only [cR,eQ];omega),oC];rfl
 ·have e:vZ ya5 yaK yai yaz yad yaX yau yam yaH x3 (n+1) v (bP [vS l a s]) (aJ l) (aF (lg++[bG l a s.1 s.2])) s.1.num s.1.den s.2.num s.2.den t.1.num t.1.den t.2.num t.2.den u.1.num u.1.den u.2.num u.2.den i12 i13 i14 i15 i16 i17 i18 i19 (a:Int) 3 1=yaz (aJ l) (aF (lg++[bG l a s.1 s.2])) a t.1.num t.1.den t.2.num t.2.den (fun c g y0 y1 y2=>yad y0 y1 y2 fun r0 r1=>vZ ya5 yaK yai yaz yad yaX yau yam yaH x3 n v [dC (vS l a s),.agg [.int .i64 r0,.int .i64 r1]] c g s.1.num s.1.den s.2.num s.2.den t.1.num t.1.den t.2.num t.2.den u.1.num u.1.den u.2.num u.2.den i12 i13 i14 i15 i16 i17 i18 i19 (a:Int) 3 2):=by kernel_rfl
  rw [e,ht.val hd ha (by rw [cR,eQ];omega),oC];rfl
 ·have e:ycA ya5 yaK yai yaz yad yaX yau yam yaH x2 x3 (n+1) v (aJ l) (aF lg) s.1.num s.1.den s.2.num s.2.den t.1.num t.1.den t.2.num t.2.den u.1.num u.1.den u.2.num u.2.den i12 i13 i14 i15 i16 i17 i18 i19 (a:Int) 3 0=yaz (aJ l) (aF lg) a s.1.num s.1.den s.2.num s.2.den (fun c g y0 y1 y2=>yad y0 y1 y2 fun r0 r1=>vZ ya5 yaK yai yaz yad yaX yau yam yaH x3 n v [.agg [.int .i64 r0,.int .i64 r1]] c g s.1.num s.1.den s.2.num s.2.den t.1.num t.1.den t.2.num t.2.den u.1.num u.1.den u.2.num u.2.den i12 i13 i14 i15 i16 i17 i18 i19 (a:Int) 3 1):=by kernel_rfl
  rw [e,hs.val hd ha (by omega),oC];rfl
end
section
variable {l:List Ck}
theorem Am (hd:DK l) {a:Nat} (ha:a<l.length):cI l a (aT l)-cI l a 0=aQ l a:=by have h:=Pa (hd.ok a ha);unfold cI aT aQ;rw [← hd.len a ha];exact h
theorem GL (hd:DK l) {a:Nat} (ha:a<l.length) {x y:Rat} (h:x≤y):cI l a x≤cI l a y:=Kr (hd.ok a ha) h
theorem Kz (hd:DK l) {a:Nat} (ha:a<l.length) {x y:Rat} (h:cI l a x<cI l a y):x<y:=by
 refine Rat.not_le.1 fun k=>?_
 have:=GL hd ha k;grind
theorem wK (hd:DK l) {a:Nat} (ha:a<l.length):0<aQ l a:=Rat.intCast_pos.2 (yP5 (hd.ok a ha))
theorem uD (hd:DK l) {a:Nat} (ha:a<l.length):aQ l a≤12000:=by
 have hok:=hd.ok a ha;have l0:=hok.len0;have hw:0≤(0:Rat)∧((l.getD a default).len:Rat)≤((l.getD a default).len:Rat):=⟨gQ,gQ⟩;have h:=(yQo hok (s:=((0:Rat),((l.getD a default).len:Rat))) (by
  show (0:Rat)<_;exact Rat.intCast_pos.2 (by omega)) hw).2
 have e:=Pa hok;unfold aQ;rw [← e];exact h
theorem In.D {a b:Int} (h:a=b) {q:Rat} (k:In a q):In b q:=h ▸ k
theorem kE {q:Rat} {D:Int} (h:In D q) (hD:1≤D∧D≤10000000000) (h0:-12000≤q) (h1:q≤12000):small q:=
 h.small (M:=12000) ⟨hD.1,by omega⟩ (by omega) (by show -(12000:Rat)≤_;grind) (by show _≤(12000:Rat);grind)
theorem xV {a:Nat} {D:Int} (hD:1≤D) {s:RS} (h:In D s.1∧In D s.2):In D (vS l a s):=(zt hD h.2).sub (zt hD h.1)
theorem GM (hd:DK l) {a:Nat} (ha:a<l.length) {s:RS} (z:0≤s.1) (le:s.1≤s.2) (hl:s.2≤aT l):0≤vS l a s∧vS l a s≤aQ l a:=by have h1:=GL hd ha z;have h2:=GL hd ha le;have h3:=GL hd ha hl;have h4:=Am hd ha;unfold vS;constructor<;>grind
@[irreducible] def A3 (l:List Ck):Rat:=dN l 0 0 (aQ l 0*r13)
@[irreducible] def B3 (l:List Ck):Rat:=dN l 0 0 (aQ l 0*cY)
structure G3 (l:List Ck) (D:Int):Prop where
 D1:1≤D∧D≤432
 mA:MkV l 0 0 (aQ l 0*r13) 3
 mB:MkV l 0 0 (aQ l 0*cY) 3
 a0:0<A3 l
 ab:A3 l<B3 l
 bl:B3 l<aT l
 iA:In D (A3 l)
 iB:In D (B3 l)
theorem gE:r13=1/3:=by decide +kernel
theorem fU:cY=2/3:=by decide +kernel
theorem In.r3 (c:Int):In 3 ((c:Rat)*r13)∧In 3 ((c:Rat)*cY):=by
 constructor
 ·exact ⟨c,by rw [gE];show (c:Rat)*(1/3)=(c:Rat)/3;grind⟩
 ·exact ⟨2*c,by rw [fU,yC];show (c:Rat)*(2/3)=((2:Int):Rat)*(c:Rat)/3;have:((2:Int):Rat)=2:=rfl;rw [this];grind⟩
theorem g3 (hd:DK l) (h3:l.length=3):∃ D,G3 l D:=by
 have h0:0<l.length:=by omega
 have t0:=wK hd h0;have tt:=Am hd h0;have i3:=In.r3 (totC (l.getD 0 default).cuts (l.getD 0 default).dens);have hl0:0≤aT l:=Rat.intCast_nonneg.2 (by have:=(hd.ok 0 h0).len0;omega);have mA:=Ks hd h0 (q:=0) (v:=aQ l 0*r13) gQ hl0 (by rw [gE];grind) (by rw [tt,gE];grind) (D:=3) (by decide) (by decide) (In.int (by decide) 0) i3.1;have mB:=Ks hd h0 (q:=0) (v:=aQ l 0*cY) gQ hl0 (by rw [fU];grind) (by rw [tt,fU];grind) (D:=3) (by decide) (by decide) (In.int (by decide) 0) i3.2;obtain ⟨d,hd1,k1⟩:=mA.d;obtain ⟨e,he1,k2⟩:=mB.d;have a1:=mA.eqv;have b1:=mB.eqv;rw [gE] at a1;rw [fU] at b1;have de:1*1≤d*e:=mC hd1.1 he1.1 (by omega) (by omega);have de2:d*e≤12*12:=mC hd1.2 he1.2 (by omega) (by omega);have eA:A3 l=dN l 0 0 (aQ l 0*r13):=by unfold A3;rfl
 have eB:B3 l=dN l 0 0 (aQ l 0*cY):=by unfold B3;rfl
 refine ⟨d*e*3,⟨by omega,by omega⟩,mA,mB,Kz hd h0 (a:=0) ?_,Kz hd h0 (a:=0) ?_,Kz hd h0 (a:=0) ?_,?_,?_⟩
 ·rw [eA];rw [gE] at *
  rw [a1];grind
 ·rw [eA,eB];rw [gE,fU] at *
  rw [a1,b1];grind
 ·rw [eB];rw [fU] at *
  rw [b1];grind
 ·rw [eA];exact In.D (by rw [Int.mul_comm d e,Int.mul_assoc]) ((k1.up (by omega) he1.1):In (e*(d*3)) _)
 ·rw [eB];exact In.D (by rw [Int.mul_assoc]) ((k2.up (by omega) hd1.1):In (d*(e*3)) _)
def P3 (l:List Ck):List RS:=[(0,A3 l),(A3 l,B3 l),(B3 l,aT l)]
theorem G3.VQ {D:Int} (hd:DK l) (h3:l.length=3) (g:G3 l D) {i:Nat} (hi:i<3):VQ l ((P3 l).getD i (0,0))∧(In D ((P3 l).getD i (0,0)).1∧In D ((P3 l).getD i (0,0)).2):=by
 have D1:=g.D1;have hl:=(hd.ok 0 (by omega)).len0;have hL:aT l≤1000:=qX.2 hl.2;have a0:=g.a0;have ab:=g.ab;have bl:=g.bl;have i0:In D 0:=In.int D1.1 0;have iL:In D (aT l):=In.int D1.1 _;have sA:small (A3 l):=kE g.iA ⟨D1.1,by omega⟩ (by grind) (by grind);have sB:small (B3 l):=kE g.iB ⟨D1.1,by omega⟩ (by grind) (by grind);have s0:small (0:Rat):=kE i0 ⟨D1.1,by omega⟩ (by grind) (by grind);have sL:small (aT l):=kE iL ⟨D1.1,by omega⟩ (by grind) (by grind);obtain rfl | rfl | rfl:i=0∨i=1∨i=2:=by omega
 ·exact ⟨⟨s0,sA,gQ,mE a0,by show A3 l≤_;grind,D,⟨D1.1,by omega⟩,i0,g.iA⟩,i0,g.iA⟩
 ·exact ⟨⟨sA,sB,mE a0,mE ab,mE bl,D,⟨D1.1,by omega⟩,g.iA,g.iB⟩,g.iA,g.iB⟩
 ·exact ⟨⟨sB,sL,by show 0≤B3 l;grind,mE bl,gQ,D,⟨D1.1,by omega⟩,g.iB,iL⟩,g.iB,iL⟩
def cN (l:List Ck):List Rat:=(P3 l).map (vS l 1)
@[irreducible] def p3 (l:List Ck):Nat:=pk (cN l)
@[irreducible] def q3 (l:List Ck):Nat:=pkO (cN l) (p3 l)
@[irreducible] def cB (l:List Ck):Rat:=(cN l).getD (p3 l) 0-(cN l).getD (q3 l) 0
@[irreducible] def tr3 (l:List Ck):Bool:=!decide ((cN l).getD (p3 l) 0=(cN l).getD (q3 l) 0)
@[irreducible] def aU (l:List Ck):Rat:=((P3 l).getD (p3 l) (0,0)).1
@[irreducible] def c3 (l:List Ck):Rat:=dN l 1 (aU l) (cB l)
def S3 (l:List Ck):List RS:=bif tr3 l then (P3 l).set (p3 l) (c3 l,((P3 l).getD (p3 l) (0,0)).2) else P3 l
def dZ (l:List Ck):List Rat:=bif tr3 l then (cN l).set (p3 l) ((cN l).getD (q3 l) 0) else cN l
def uE (l:List Ck):List Rat:=(S3 l).map (vS l 2)
@[irreducible] def o2 (l:List Ck):Nat:=pk (uE l)
@[irreducible] def o1 (l:List Ck):Nat:=bif tr3 l&&!decide (p3 l=o2 l) then p3 l else pkO (dZ l) (o2 l)
@[irreducible] def o0 (l:List Ck):Nat:=3-o1 l-o2 l
theorem Ao (l:List Ck):p3 l<3:=by unfold p3;exact YN _
theorem KA (l:List Ck):q3 l<3∧q3 l≠p3 l:=by unfold q3;exact YO _ (Ao l)
theorem yQu (l:List Ck) {i:Nat} (hi:i<3):(cN l).getD i 0≤(cN l).getD (p3 l) 0:=by unfold p3;exact ySv _ hi
theorem DV (l:List Ck):cB l=(cN l).getD (p3 l) 0-(cN l).getD (q3 l) 0:=by unfold cB;rfl
theorem yQv (l:List Ck):tr3 l=!decide ((cN l).getD (p3 l) 0=(cN l).getD (q3 l) 0):=by unfold tr3;rfl
theorem nJ (l:List Ck):aU l=((P3 l).getD (p3 l) (0,0)).1:=by unfold aU;rfl
theorem GN (l:List Ck):c3 l=dN l 1 (aU l) (cB l):=by unfold c3;rfl
theorem wL (l:List Ck):o2 l<3:=by unfold o2;exact YN _
theorem GO (l:List Ck):o1 l=bif tr3 l&&!decide (p3 l=o2 l) then p3 l else pkO (dZ l) (o2 l):=by unfold o1;rfl
theorem Ap (l:List Ck):o1 l<3∧o1 l≠o2 l:=by
 rw [GO]
 cases hb:(tr3 l&&!decide (p3 l=o2 l)) with
 | false=>rw [cond_false];exact YO (dZ l) (wL l)
 | true =>rw [cond_true];simp only [bZ,lX,decide_eq_false_iff_not] at hb;exact ⟨Ao l,hb.2⟩
theorem Pd {i:Nat} (hi:i<3):(cN l).getD i 0=vS l 1 ((P3 l).getD i (0,0)):=by
 obtain rfl|rfl|rfl:i=0∨i=1∨i=2:=by omega
 all_goals rfl
structure C3 (l:List Ck) (D:Int):Prop where
 D1:1≤D∧D≤5184
 m:∃ E:Int,1≤E∧MkV l 1 (aU l) (cB l) E
 so:small (cB l)
 o0:0≤cB l
 lo:aU l≤c3 l
 hi:c3 l≤((P3 l).getD (p3 l) (0,0)).2
 iP:∀ i,i<3→In D ((P3 l).getD i (0,0)).1∧In D ((P3 l).getD i (0,0)).2
 iC:In D (c3 l)
theorem pD (hd:DK l) (h3:l.length=3) {i:Nat} (hi:i<3):small ((cN l).getD i 0)∧0≤(cN l).getD i 0∧(cN l).getD i 0≤12000:=by
 obtain ⟨D,g⟩:=g3 hd h3;obtain ⟨v,iv⟩:=g.VQ hd h3 hi;have h1:1<l.length:=by omega
 rw [Pd hi];obtain ⟨b1,b2⟩:=GM hd h1 v.z v.le v.len;have b3:=uD hd h1;have D1:=g.D1;exact ⟨kE (xV D1.1 iv) ⟨D1.1,by omega⟩ (by grind) (by grind),b1,by grind⟩
theorem sK (hd:DK l) (h3:l.length=3):∃ D,C3 l D:=by
 obtain ⟨D,g⟩:=g3 hd h3;have h1:1<l.length:=by omega
 have hp:p3 l<3:=Ao l;have hq:q3 l<3∧q3 l≠p3 l:=KA l;obtain ⟨v,iv⟩:=g.VQ hd h3 hp;obtain ⟨w,iw⟩:=g.VQ hd h3 hq.1;have D1:=g.D1;have sp:=pD hd h3 hp;have sq:=pD hd h3 hq.1;have mx:(cN l).getD (q3 l) 0≤(cN l).getD (p3 l) 0:=yQu l hq.1;have io:In D (cB l):=by rw [DV];rw [Pd hp,Pd hq.1];exact (xV D1.1 iv).sub (xV D1.1 iw)
 have o0:0≤cB l:=by rw [DV];grind
 have ov:cB l≤vS l 1 ((P3 l).getD (p3 l) (0,0)):=by rw [← Pd hp];rw [DV];grind
 have ov2:cB l≤cI l 1 ((P3 l).getD (p3 l) (0,0)).2-cI l 1 (aU l):=by rw [nJ];exact ov
 have ml:=GL hd h1 v.len;have hv:cB l≤cI l 1 (aT l)-cI l 1 (aU l):=by have:cI l 1 ((P3 l).getD (p3 l) (0,0)).2≤cI l 1 (aT l):=ml;grind
 have fz:0≤aU l:=by rw [nJ];exact v.z
 have fle:aU l≤((P3 l).getD (p3 l) (0,0)).2:=by rw [nJ];exact v.le
 have fI:In D (aU l):=by rw [nJ];exact iv.1
 have m:=Ks hd h1 (q:=aU l) (v:=cB l) fz (nL fle v.len) o0 hv D1.1 (by omega) fI io;obtain ⟨d,hd1,k⟩:=m.d;have dD:1*1≤d*D:=mC hd1.1 D1.1 (by omega) (by omega);have dD2:d*D≤12*432:=mC hd1.2 D1.2 (by omega) (by omega);have hi:c3 l≤((P3 l).getD (p3 l) (0,0)).2:=by
  by_cases hz:cB l=0
  ·have e:c3 l=aU l:=by
    rw [GN];unfold dN mrkC;rw [Tu hz];rfl
   rw [e];exact fle
  refine Rat.not_lt.1 fun k2=>?_
  have e:=m.eqv;have h1':0<cB l:=by grind
  obtain ⟨p,d,e',_,_,k1,_,_,k4⟩:=zz (hd.ok 1 h1) (p:=aU l) (v:=cB l) fz (by rw [hd.len 1 h1];exact nL fle v.len) h1' (by
   have:=hv;unfold cI aT at this;rw [hd.len 1 h1];exact this) D1.1 (by omega) fI io
  obtain ⟨_,g2⟩:=xw e';have g2:c3 l=p:=by rw [GN];exact g2
  rw [g2] at k2;have:=k4 _ k2;have k1:cI l 1 p=cI l 1 (aU l)+cB l:=k1;have this:cI l 1 ((P3 l).getD (p3 l) (0,0)).2<cI l 1 p:=this;grind
 refine ⟨d*D,⟨by omega,by omega⟩,⟨D,D1.1,m⟩,kE io ⟨D1.1,by omega⟩ (by grind) (by have:=sp.2.2;have:=sq.2.1;rw [DV];grind),o0,by rw [GN];exact m.ge,hi,fun i hi=>?_,by rw [GN];exact k⟩;obtain ⟨_,j1,j2⟩:=g.VQ hd h3 hi;exact ⟨j1.up D1.1 hd1.1,j2.up D1.1 hd1.1⟩
end
set_option maxHeartbeats 1000000
section
variable {l:List Ck}
def s3 (l:List Ck) (i:Nat):RS:=(S3 l).getD i (0,0)
theorem Pe:S3 l=[s3 l 0,s3 l 1,s3 l 2]:=by
 have h:(S3 l).length=3:=by
  unfold S3
  cases tr3 l with
  | true=>rw [cond_true,sR];rfl
  | false=>rfl
 unfold s3
 match h2:S3 l,h with
 | [a,b,c],_=>rfl
theorem uF {i:Nat} (hi:i<3):s3 l i=bif tr3 l&&decide (i=p3 l) then (c3 l,((P3 l).getD (p3 l) (0,0)).2) else (P3 l).getD i (0,0):=by
 unfold s3 S3;have hl:(P3 l).length=3:=rfl
 cases tr3 l with
 | true=>
  rw [cond_true,jU]
  by_cases e:i=p3 l
  ·subst e;rw [Os rfl,cond_true,dK,uG (by omega)];rfl
  ·rw [Pn e,cond_false,dK,qZ (fun h=>e h.symm),← dK]
 | false=>rw [cond_false,qI,cond_false]
theorem sM (hd:DK l) (h3:l.length=3):∃ D:Int,(1≤D∧D≤5184)∧∀ i,i<3→VQ l (s3 l i)∧In D (s3 l i).1∧In D (s3 l i).2:=by
 obtain ⟨D,c⟩:=sK hd h3;obtain ⟨D0,g⟩:=g3 hd h3;have hl:=(hd.ok 0 (by omega)).len0;have hL:aT l≤1000:=qX.2 hl.2;have hp:p3 l<3:=Ao l;refine ⟨D,c.D1,fun i hi=>?_⟩;rw [uF hi];obtain ⟨v,_⟩:=g.VQ hd h3 hi;obtain ⟨w,_⟩:=g.VQ hd h3 hp;have D1:=c.D1
 cases hc:(tr3 l&&decide (i=p3 l)) with
 | false=>exact ⟨v,c.iP i hi⟩
 | true =>have z:0≤c3 l:=nL (by rw [nJ];exact w.z) c.lo;have wl:=w.len;have ch:=c.hi;refine ⟨⟨kE c.iC ⟨D1.1,by omega⟩ (by show -12000≤c3 l;grind) (by show c3 l≤12000;grind),w.s2,z,c.hi,w.len,D,⟨D1.1,by omega⟩,c.iC,(c.iP _ hp).2⟩,c.iC,(c.iP _ hp).2⟩
def jL (l:List Ck):Int:=bif tr3 l then (p3 l:Int) else -1
def iH (l:List Ck):List Qy:=[eI 0 0 (aQ l 0*r13) (A3 l)]++[eI 0 0 (aQ l 0*cY) (B3 l)]++[bG l 1 0 (A3 l)]++[bG l 1 (A3 l) (B3 l)]
def BI (l:List Ck):List Qy:=[bG l 2 (s3 l 0).1 (s3 l 0).2]++[bG l 2 (s3 l 1).1 (s3 l 1).2]++[bG l 2 (s3 l 2).1 (s3 l 2).2]
def eP (l:List Ck):List Qy:=iH l++((bif tr3 l then [eI 1 (aU l) (cB l) (c3 l)] else [])++BI l)
theorem yRN {q r:Rat}:((q.num==r.num)&&(((q.den:Int) ==(r.den:Int))&&true))=decide (q=r):=by
 by_cases h:q=r
 ·subst h;simp
 ·rw [Pn h,BR]
  cases h1:(q.num==r.num) with
  | false=>rfl
  | true=>
   cases h2:((q.den:Int) ==(r.den:Int)) with
   | false=>rfl
   | true =>simp only [beq_iff_eq] at h1 h2;exact absurd (Rat.ext h1 (by omega)) h
theorem YQ {a b:Nat} (h:a=b):(((a:Nat):Int) !=((b:Nat):Int))=false:=by rw [h];simp
theorem YR {a b:Nat} (h:¬a=b):(((a:Nat):Int) !=((b:Nat):Int))=true:=by simp only [bne_iff_ne,ne_eq];omega
end
end Go.Pf.Vc
