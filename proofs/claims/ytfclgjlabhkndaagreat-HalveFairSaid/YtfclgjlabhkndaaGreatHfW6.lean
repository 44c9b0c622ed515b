/- Part 6. -/
import Derived.Test.YtfclgjlabhkndaaGreatHfW5
noncomputable section
namespace Go.Pf.Vc
open Go Go.Pf
set_option maxRecDepth 100000
set_option maxHeartbeats 1000000
section
variable {l:List Ck}
theorem x12b {a0 a1 x6 x7 x8 x9} (hd:DK l) (h2:2≤l.length) (l0:List PV):∃ J M,J.length=M ∧
  (∃ k,ybw a0 a1 yaN x6 x7 x8 x9 k l0 (rspL (List.replicate l.length [])) [encT (t0T l)] l.length l.length l.length (cks l) [] 1 1) =
  x8 l0 (rspL (dvX l)) [encT (t0T l)] J l.length l.length l.length (cks l) (logs (dvL l)) 0 M false:=by
 have n6:=hd.n6
 have hv:=HV.top hd
 have hA:(List.range l.length).length=l.length:=qA8
 obtain ⟨D',hD',hl,hr⟩:=hv.split hd (by omega) (by decide)
 generalize hAe:List.range l.length=A at *
 have eL:=ydJ (A:=A) (fA l A 0 (lenR l))
 have eR:=ydK (A:=A) (fA l A 0 (lenR l))
 have hg:(A.flatMap (gA l A 0 (lenR l))).length≤2*A.length:=ywp _ 2 A fun a _=>yFq a
 have run:=fun K=>hv.run hd (by omega) (lg:=[]) (by rw [qBp];omega) K
 obtain ⟨J2,M2,hM2,i1⟩:=h13 (a0:=a0) (a1:=a1) (x6:=x8) (x7:=x9) hd l0 [encT (A,((0:Rat),lenR l))] 2 (lftS A (fA l A 0 (lenR l))) 0 (cutH A (fA l A 0 (lenR l))) D' hl (by rw [eL];omega) (by omega) ([]++[(rgtS A (fA l A 0 (lenR l)),(cutH A (fA l A 0 (lenR l)),lenR l))]) [] (List.replicate l.length []) ([]++A.flatMap (gA l A 0 (lenR l))) 2 qA0 (by simp) (by rw [qCb];omega) rfl
 have hlL:(dvM l 3 (lftS A (fA l A 0 (lenR l))) 0 (cutH A (fA l A 0 (lenR l)))).2.length≤2*(lftS A (fA l A 0 (lenR l))).length*2:=yoK 2 _ _ _ (by rw [eL];omega) (by rw [eL];omega)
 obtain ⟨J3,M3,hM3,i2⟩:=h13 (a0:=a0) (a1:=a1) (x6:=x8) (x7:=x9) hd l0 [encT (A,((0:Rat),lenR l))] 2 (rgtS A (fA l A 0 (lenR l))) (cutH A (fA l A 0 (lenR l))) (lenR l) D' hr (by rw [eR];omega) (by omega) [] J2 (setP (List.replicate l.length []) (dvM l 3 (lftS A (fA l A 0 (lenR l))) 0 (cutH A (fA l A 0 (lenR l)))).1) ([]++A.flatMap (gA l A 0 (lenR l))++(dvM l 3 (lftS A (fA l A 0 (lenR l))) 0 (cutH A (fA l A 0 (lenR l)))).2) M2 (by rw [ywq];exact qA0) (by decide) (by rw [qAd,qCb];omega) hM2
 have hM3:J3.length=M3:=hM3
 refine ⟨J3,M3,hM3,?_⟩
 have e':∀ n,yaT a0 a1 yaN x8 x9 (n+1) l0 (rspL (dvX l)) [encT (A,((0:Rat),lenR l))] J3 l.length l.length l.length (cks l) (logs (dvL l)) 0 M3=x8 l0 (rspL (dvX l)) [encT (A,((0:Rat),lenR l))] J3 l.length l.length l.length (cks l) (logs (dvL l)) 0 M3 false:=fun n=>by
  conv=>lhs;unfold yaT
  rfl
 have eX:dvX l=setP (setP (List.replicate l.length []) (dvM l 3 (lftS A (fA l A 0 (lenR l))) 0 (cutH A (fA l A 0 (lenR l)))).1) (dvM l 3 (rgtS A (fA l A 0 (lenR l))) (cutH A (fA l A 0 (lenR l))) (lenR l)).1:=by
  unfold dvX
  rw [hAe,yg9 (by omega),yB6]
 have eG:dvL l=[]++A.flatMap (gA l A 0 (lenR l))++(dvM l 3 (lftS A (fA l A 0 (lenR l))) 0 (cutH A (fA l A 0 (lenR l)))).2++(dvM l 3 (rgtS A (fA l A 0 (lenR l))) (cutH A (fA l A 0 (lenR l))) (lenR l)).2:=by
  unfold dvL
  rw [hAe,yg9 (by omega),qCb,qAj]
 have z:=(exS3 (P:=fun k=>yaT a0 a1 yaN x8 x9 k l0 (rspL (dvX l)) [encT (A,((0:Rat),lenR l))] J3 l.length l.length l.length (cks l) (logs (dvL l)) 0 M3) rfl (R:=fun _=>_) e').trans exC3
 unfold t0T
 rw [hAe]
 refine Eq.trans ?_ z
 rw [← eX,← eG] at i2
 refine (exS3 (P:=fun k=>ybw a0 a1 yaN x6 x7 x8 x9 k l0 (rspL (List.replicate l.length [])) [encT (A,((0:Rat),lenR l))] l.length l.length l.length (cks l) [] 1 1) rfl (x12s l0 (rspL (List.replicate l.length [])) (cks l) [] (cks l) _ A _ _ 0 (lenR l) _ l.length (by omega) run)).trans ?_
 exact i1.trans i2
theorem yJg (hd:DK l) (K:List PV→List PV→Int→Prop):yjt (cks l) K=K (rspL (dvX l)) (logs (dvL l)) 0:=by
 have n0:=hd.n0
 have n6:=hd.n6
 unfold yjt yoC
 rw [yLk hd.fin (by omega),if_pos (hd.err (by omega))]
 dsimp only [lt,Go.Pf.jn]
 rw [cnF rfl,ya8]
 refine (asTT (decide_eq_true (by omega))).trans ?_
 rw [yej n0]
 refine (asTT rfl).trans ?_
 rw [yB4,yB4]
 refine (hr00 n0 (by omega) (cks l) (cks l) [] 0 1 _ 1).trans ?_
 have lr:((List.range l.length).map encV).length=l.length:=by rw [qAf,qA8]
 rw [ya8,lr,qA2 (by rw [lr];exact qAk _),yLQ]
 refine (asTT (decide_eq_true (by omega))).trans ?_
 refine (asTT (decide_eq_true (by omega))).trans ?_
 refine (asTT (decide_eq_true (by unfold room;omega))).trans ?_
 refine (asTT (by simp)).trans ?_
 refine (asTT (by simp)).trans ?_
 refine (asTT rfl).trans ?_
 have lX:(rspL (dvX l)).length=l.length:=by rw [yeO,yJf]
 by_cases h1:l.length=1
 ·refine (x12a h1 ((List.range l.length).map encV)).trans ?_
  refine (asTT (decide_eq_true lX)).trans ?_
  refine (asTT (by simp)).trans ?_
  rw [qA2 (by omega)]
 ·obtain ⟨J,M,hJ,e⟩:=x12b hd (by omega) ((List.range l.length).map encV)
  refine e.trans ?_
  refine (asTT (decide_eq_true lX)).trans ?_
  refine (asTT (by simp)).trans ?_
  rw [qA2 (by omega)]
end
set_option maxHeartbeats 1000000
section
variable {l:List Ck} {A:List Nat} {q p:Rat} {D:Int}
theorem rOf9 (n:Int) (K:Int→Int→Prop):yA9 n K=K n 1:=rfl
end
set_option maxHeartbeats 1000000
def bnd9 (n:Int):Int×Int:=if n<1∨n>6 then (0,2) else (bif n == 1 then 0 else bif n == 2 then 2 else bif n == 3 then 9 else bif n == 4 then 12 else bif n == 5 then 25 else 30,0)
theorem in6 {n:Int} (h:¬(n<1∨n>6)):n=1∨n=2∨n=3∨n=4∨n=5∨n=6:=by omega
theorem yJh (n:Int) (K:Int→Int→Prop):ygX n K=K (bnd9 n).1 (bnd9 n).2:=by
 unfold ygX ylg bnd9
 dsimp only [lt,Go.Pf.jn]
 by_cases h:n<1∨n>6
 ·rw [if_pos h]
  by_cases h1:n<1
  ·rw [cbT h1,yas]
  ·rw [cbF h1,decide_eq_true (by omega),yas]
 ·rw [if_neg h,cbF (by omega),decide_eq_false (by omega),yae]
  rcases in6 h with rfl | rfl | rfl | rfl | rfl | rfl
  ·rfl
  all_goals
   refine (cbNN rfl).trans ?_
   refine (lenH ⟨by decide,by decide⟩ _).trans ?_
   rfl
section
variable {l:List Ck}
theorem yMO (hd:DK l):(dvL l).length≤2*l.length*3:=by
 have n6:=hd.n6
 have:(dvM l 4 (List.range l.length) 0 (lenR l)).2.length≤2*(List.range l.length).length*3:=yoK (l:=l) 3 (List.range l.length) 0 (lenR l) (by rw [qA8];omega) (by rw [qA8];exact hd.n0)
 rw [qA8] at this
 exact this
end
set_option maxHeartbeats 1000000
section
variable {l:List Ck} {A:List Nat} {q p:Rat} {D:Int}
theorem HV.up (h:HV l A q p D) {d:Int} (hd:1≤d) (hD:d*D≤100000000):HV l A q p (d*D):=by
 have D1:=h.D1
 have:1*D≤d*D:=qAh hd (by omega)
 exact ⟨h.len,h.srt,h.mem,h.q0,h.p1,⟨by omega,hD⟩,h.iq.up D1.1 hd,h.ip.up D1.1 hd,h.qp,h.pos⟩
theorem HV.split2 (hd:DK l) (h:HV l A q p D) (h2:2≤A.length) (hD:12*(A.length*D)≤100000000):∃ d,(1≤d∧d≤12)∧HV l (lftS A (fA l A q p)) q (cutH A (fA l A q p)) (d*(A.length*D))∧HV l (rgtS A (fA l A q p)) (cutH A (fA l A q p)) p (d*(A.length*D)):=by
 have D1:=h.D1
 have l6:=h.len.2
 obtain ⟨b,hb,eb⟩:=yJd (f:=fA l A q p) h2
 have k1:2*D≤(A.length:Int)*D:=qAh (by omega) (by omega)
 have k6:(A.length:Int)*D≤6*D:=qAh (by omega) (by omega)
 have M:∀ a∈A,MkV l a q ((vXA l a p-vXA l a q)*yds A) ((A.length:Int)*D):=fun a ha=>(h.sm hd h2 ha).2.2.2.2
 have ef:∀ a,fA l A q p a=mkV l a q ((vXA l a p-vXA l a q)*yds A):=fun a=>rfl
 obtain ⟨d,hd12,hc⟩:=(M b hb).d
 rw [← ef,← eb] at hc
 have d6:d*((A.length:Int)*D)≤12*((A.length:Int)*D):=qAh (by omega) (by omega)
 have d1:1*((A.length:Int)*D)≤d*((A.length:Int)*D):=qAh (by omega) (by omega)
 have iq:=(h.iq.up D1.1 (d:=(A.length:Int)) (by omega)).up (by omega) hd12.1
 have ip:=(h.ip.up D1.1 (d:=(A.length:Int)) (by omega)).up (by omega) hd12.1
 by_cases hs:72*D≤100000000
 ·obtain ⟨D',hD',hl,hr⟩:=h.split hd h2 hs
  exact ⟨d,hd12,⟨hl.len,hl.srt,hl.mem,hl.q0,hl.p1,⟨by omega,by omega⟩,iq,hc,hl.qp,hl.pos⟩,⟨hr.len,hr.srt,hr.mem,hr.q0,hr.p1,⟨by omega,by omega⟩,hc,ip,hr.qp,hr.pos⟩⟩
 ·-- the split itself asks nothing of the denominators: a lesser one does
  have w0:∀ a∈A,0<(vXA l a p-vXA l a q)*yds A:=fun a ha=>Rat.mul_pos (h.pos a ha) (yoH h2 l6).2.1
  have w1:∀ a∈A,(vXA l a p-vXA l a q)*yds A<vXA l a p-vXA l a q:=fun a ha=>by
   have:=Rat.mul_lt_mul_of_pos_left (yoH h2 l6).2.2 (h.pos a ha)
   rwa [Rat.mul_one] at this
  have cl:cutH A (fA l A q p)≤lenR l:=by rw [eb,ef];exact (M b hb).le
  have cq:q≤cutH A (fA l A q p):=by rw [eb,ef];exact (M b hb).ge
  have posL:∀ a∈lftS A (fA l A q p),0<vXA l a (cutH A (fA l A q p))-vXA l a q:=fun a ha=>by
   obtain ⟨m,hle⟩:=yqY h2 ha
   have:=yqX hd (h.mem a m) hle
   rw [ef,(M a m).eqv] at this
   have:=w0 a m
   grind
  have posR:∀ a∈rgtS A (fA l A q p),0<vXA l a p-vXA l a (cutH A (fA l A q p)):=fun a ha=>by
   obtain ⟨m,hle⟩:=yqZ h2 ha
   have:=yqX hd (h.mem a m) hle
   rw [ef a,(M a m).eqv] at this
   have:=w1 a m
   grind
  have exL:∃ a,a∈lftS A (fA l A q p):=List.exists_mem_of_length_pos (by rw [ydJ];omega)
  have exR:∃ a,a∈rgtS A (fA l A q p):=List.exists_mem_of_length_pos (by rw [ydK];omega)
  have qc:q<cutH A (fA l A q p):=by
   obtain ⟨a,ha⟩:=exL
   have:=posL a ha
   exact lt3 hd (h.mem a (yqY h2 ha).1) (by grind)
  have cp:cutH A (fA l A q p)<p:=by
   obtain ⟨a,ha⟩:=exR
   have:=posR a ha
   exact lt3 hd (h.mem a (yqZ h2 ha).1) (by grind)
  exact ⟨d,hd12,⟨by rw [ydJ];omega,h.lsrt _,fun a ha=>h.mem a (yqY h2 ha).1,h.q0,cl,⟨by omega,by omega⟩,iq,hc,qc,posL⟩,⟨by rw [ydK];omega,h.rsrt _,fun a ha=>h.mem a (yqZ h2 ha).1,Rat.le_trans h.q0 cq,h.p1,⟨by omega,by omega⟩,hc,ip,cp,posR⟩⟩
theorem HV.qr (hd:DK l) (h:HV l A q p D) (h2:2≤A.length):∀ y∈A.flatMap (gA l A q p),QR l y:=fun y hy=>by
 obtain ⟨a,ha,hy⟩:=List.mem_flatMap.1 hy
 obtain ⟨s1,s2,s3,s4,m⟩:=h.sm hd h2 ha
 have w0:0≤(vXA l a p-vXA l a q)*yds A:=Rat.mul_nonneg (qAy (h.pos a ha)) (qAy (yoH h2 h.len.2).2.1)
 have D1:=h.D1
 unfold gA hLog at hy
 rcases qA1.1 hy with hy | hy
 ·cases hh:hAsk l q p with
  | false=>rw [hh] at hy;cases hy
  | true =>
   rw [hh] at hy
   rw [qBe.1 hy]
   exact (yDV hd (h.mem a ha) s1 s2 h.q0 (qAy h.qp) h.p1 (D:=D) ⟨D1.1,by omega⟩ h.iq h.ip (m:=0) (by decide)).2
 ·rw [qBe.1 hy]
  exact m.QR hd (h.mem a ha) s1 h.q0 (Rat.le_trans (qAy h.qp) h.p1) s4 w0
end
def bndD (k:Nat):Int:=[1,1,24,864,27648,1244160,53747712].getD k 1
theorem yH7 {k:Nat} (h2:2≤k) (h6:k≤6):bndD k=12*k*(bndD (k / 2)*bndD (k-k / 2)):=by
 obtain rfl | rfl | rfl | rfl | rfl:k=2∨k=3∨k=4∨k=5∨k=6:=by omega
 all_goals decide
theorem ywr {k:Nat} (h6:k≤6):1≤bndD k:=by
 obtain rfl | rfl | rfl | rfl | rfl | rfl | rfl:k=0∨k=1∨k=2∨k=3∨k=4∨k=5∨k=6:=by omega
 all_goals decide
def Chn:Rat→List (Nat×RS)→Rat→Prop
 | q,[],p=>q=p
 | q,x::r,p=>x.2.1=q∧x.2.1<x.2.2∧Chn x.2.2 r p
theorem Chn.app:∀ {a:List (Nat×RS)} {q m p:Rat} {b:List (Nat×RS)},Chn q a m→Chn m b p→Chn q (a++b) p
 | [],q,m,p,b,h,k=>by
  have h:q=m:=h
  rw [h]
  exact k
 | x::a,q,m,p,b,h,k=>⟨h.1,h.2.1,h.2.2.app k⟩
theorem yJi {a b c:Int} (h:a≤b) (hc:0≤c):c*a≤c*b:=qB6 h hc
section
variable {l:List Ck}
theorem yLR (hd:DK l):∀ (n:Nat) (A:List Nat) (q p:Rat) (D:Int),HV l A q p D→A.length≤2 ^ n→bndD A.length*D≤100000000 →
  ∃ e,1≤e∧e≤bndD A.length∧Chn q (dvM l (n+1) A q p).1 p∧(∀ x∈(dvM l (n+1) A q p).1,In (e*D) x.2.1∧In (e*D) x.2.2)∧∀ y∈(dvM l (n+1) A q p).2,QR l y:=by
 intro n
 induction n with
 | zero =>
  intro A q p D h hA hD
  have hA:A.length≤1:=hA
  rw [ye4 hA]
  refine ⟨1,by decide,ywr (by omega),⟨rfl,h.qp,rfl⟩,fun x hx=>?_,fun y hy=>by cases hy⟩
  rw [qBe.1 hx,Int.one_mul]
  exact ⟨h.iq,h.ip⟩
 | succ n ih =>
  intro A q p D h hA hD
  have l6:=h.len.2
  have D1:=h.D1
  by_cases h2:A.length≤1
  ·rw [ye4 h2]
   refine ⟨1,by decide,ywr (by omega),⟨rfl,h.qp,rfl⟩,fun x hx=>?_,fun y hy=>by cases hy⟩
   rw [qBe.1 hx,Int.one_mul]
   exact ⟨h.iq,h.ip⟩
  ·have h2:2≤A.length:=by omega
   have e2:2 ^ (n+1)=2*2 ^ n:=by rw [Nat.pow_succ,Nat.mul_comm]
   have bs:=yH7 h2 l6
   have b1:=ywr (k:=A.length / 2) (by omega)
   have b2:=ywr (k:=A.length-A.length / 2) (by omega)
   have n0:(0:Int)≤12*(A.length*D):=qBc (by decide) (qBc (by omega) (by omega))
   have eB:bndD A.length*D=bndD (A.length-A.length / 2)*(bndD (A.length / 2)*(12*(A.length*D))):=by rw [bs];grind
   have m1:12*(A.length*D)≤bndD (A.length / 2)*(12*(A.length*D)):=by
    have:=qAh b1 n0
    rwa [Int.one_mul] at this
   have m2:bndD (A.length / 2)*(12*(A.length*D))≤bndD (A.length-A.length / 2)*(bndD (A.length / 2)*(12*(A.length*D))):=by
    have:=qAh b2 (Int.le_trans n0 m1)
    rwa [Int.one_mul] at this
   obtain ⟨d,hd12,hL,hR⟩:=h.split2 hd h2 (by omega)
   have k1:2*D≤(A.length:Int)*D:=qAh (by omega) (by omega)
   have d6:d*((A.length:Int)*D)≤12*((A.length:Int)*D):=qAh (by omega) (by omega)
   have m3:bndD (A.length / 2)*(d*(A.length*D))≤bndD (A.length / 2)*(12*(A.length*D)):=yJi d6 (by omega)
   obtain ⟨e,e1,e3,c1,i1,q1⟩:=ih _ _ _ _ hL (by rw [ydJ];omega) (by rw [ydJ];omega)
   rw [ydJ] at e3
   have dn:(0:Int)≤d*(A.length*D):=by have:=hL.D1;omega
   have m4:e*(d*(A.length*D))≤bndD (A.length / 2)*(d*(A.length*D)):=qAh e3 dn
   have hR2:=hR.up (d:=e) e1 (by omega)
   have m5:bndD (A.length-A.length / 2)*(e*(d*(A.length*D)))≤bndD (A.length-A.length / 2)*(bndD (A.length / 2)*(12*(A.length*D))):=yJi (by omega) (by omega)
   obtain ⟨f,f1,f3,c2,i2,q2⟩:=ih _ _ _ _ hR2 (by rw [ydK];omega) (by rw [ydK];omega)
   rw [ydK] at f3
   have eD:f*(e*(d*(A.length*D)))=f*(e*(d*A.length))*D:=by grind
   have p1:(1:Int)*1≤d*A.length:=qB1 hd12.1 (by omega) (by decide) (by omega)
   have p2:(1:Int)*1≤e*(d*A.length):=qB1 e1 (by omega) (by decide) (by omega)
   have p3:(1:Int)*1≤f*(e*(d*A.length)):=qB1 f1 (by omega) (by decide) (by omega)
   have t1:d*(A.length:Int)≤12*A.length:=qAh hd12.2 (by omega)
   have t2:e*(d*(A.length:Int))≤bndD (A.length / 2)*(12*A.length):=qB1 e3 t1 (by omega) (by omega)
   have t3:f*(e*(d*(A.length:Int)))≤bndD (A.length-A.length / 2)*(bndD (A.length / 2)*(12*A.length)):=qB1 f3 t2 (by omega) (by omega)
   refine ⟨f*(e*(d*A.length)),by omega,by rw [bs];refine Int.le_trans t3 (Int.le_of_eq (by grind)),?_,?_,?_⟩
   ·rw [yg9 h2]
    exact c1.app c2
   ·intro x hx
    rw [yg9 h2] at hx
    rw [← eD]
    rcases qA1.1 hx with hx | hx
    ·have:=i1 x hx
     have g:1≤e*(d*(A.length*D)):=hR2.D1.1
     exact ⟨this.1.up g f1,this.2.up g f1⟩
    ·exact i2 x hx
   ·intro y hy
    rw [yg9 h2] at hy
    rcases qA1.1 hy with hy | hy
    ·exact h.qr hd h2 y hy
    ·rcases qA1.1 hy with hy | hy
     ·exact q1 y hy
     ·exact q2 y hy
end
set_option maxHeartbeats 1000000
theorem Chn.at:∀ {ps:List (Nat×RS)} {q p:Rat},Chn q ps p→∀ j,j<ps.length→(ps.getD j default).2.1<(ps.getD j default).2.2∧(ps.getD j default).2.2=if j+1<ps.length then (ps.getD (j+1) default).2.1 else p
 | [],_,_,_,j,hj=>absurd hj (Nat.not_lt_zero j)
 | x::r,q,p,h,0,_=>by
  refine ⟨h.2.1,?_⟩
  match r,h with
  | [],h=>exact h.2.2
  | y::r,h =>
   rw [if_pos (by rw [qAn,qAn];omega)]
   exact h.2.2.1.symm
 | x::r,q,p,h,j+1,hj=>by
  rw [qAn] at hj
  obtain ⟨a,b⟩:=h.2.2.at j (by omega)
  refine ⟨a,?_⟩
  show (r.getD j default).2.2=_
  rw [b,qAn]
  by_cases c:j+1<r.length
  ·rw [if_pos c,if_pos (by omega)]
   rfl
  ·rw [if_neg c,if_neg (by omega)]
theorem yB7:∀ (ps:List (Nat×RS)) (X:List (List RS)) (a:Nat),a∉ps.map Prod.fst→(setP X ps).getD a []=X.getD a []
 | [],_,_,_=>rfl
 | x::r,X,a,h=>by
  rw [qBy,qAt,not_or] at h
  show (setP (X.set x.1 [x.2]) r).getD a []=_
  rw [yB7 r _ a h.2,qAa,qBh (fun k=>h.1 k.symm),← qAa]
theorem yGZ:∀ (ps:List (Nat×RS)) (X:List (List RS)) (x:Nat×RS),(ps.map Prod.fst).Nodup→x∈ps→x.1<X.length→(setP X ps).getD x.1 []=[x.2]
 | [],_,_,_,h,_=>by cases h
 | y::r,X,x,hn,hx,hl=>by
  rw [qBy,List.nodup_cons] at hn
  show (setP (X.set y.1 [y.2]) r).getD x.1 []=_
  rcases qAt.1 hx with rfl | hx
  ·rw [yB7 r _ _ hn.1,qAa,qB9 hl]
   rfl
  ·exact yGZ r _ x hn.2 hx (by rw [qB3];exact hl)
section
variable {l:List Ck}
theorem yB8:∀ (n:Nat) (A:List Nat) (q p:Rat),A.length≤2 ^ n→1≤A.length→((dvM l (n+1) A q p).1.map Prod.fst).Perm A
 | 0,A,q,p,h,h1=>by
  have h:A.length≤1:=h
  rw [ye4 h]
  match A,h1,h with
  | [a],_,_=>exact List.Perm.refl _
 | n+1,A,q,p,h,h1=>by
  by_cases h2:A.length≤1
  ·rw [ye4 h2]
   match A,h1,h2 with
   | [a],_,_=>exact List.Perm.refl _
  ·have e2:2 ^ (n+1)=2*2 ^ n:=by rw [Nat.pow_succ,Nat.mul_comm]
   rw [yg9 (by omega),qBl]
   have k1:=yB8 n (lftS A (fA l A q p)) q (cutH A (fA l A q p)) (by rw [ydJ];omega) (by rw [ydJ];omega)
   have k2:=yB8 n (rgtS A (fA l A q p)) (cutH A (fA l A q p)) p (by rw [ydK];omega) (by rw [ydK];omega)
   exact (k1.append k2).trans (yMN _)
theorem yws:∀ (n:Nat) (A:List Nat) (q p:Rat),A.length≤2 ^ n→dvM l (n+2) A q p=dvM l (n+1) A q p
 | 0,A,q,p,h=>by
  have h:A.length≤1:=h
  rw [ye4 h,ye4 h]
 | n+1,A,q,p,h=>by
  by_cases h2:A.length≤1
  ·rw [ye4 h2,ye4 h2]
  ·have e2:2 ^ (n+1)=2*2 ^ n:=by rw [Nat.pow_succ,Nat.mul_comm]
   rw [yg9 (A:=A) (n:=n+2) (by omega),yg9 (A:=A) (n:=n+1) (by omega),yws n (lftS A (fA l A q p)) q (cutH A (fA l A q p)) (by rw [ydJ];omega),yws n (rgtS A (fA l A q p)) (cutH A (fA l A q p)) p (by rw [ydK];omega)]
def psL (l:List Ck):List (Nat×RS):=(dvM l 4 (List.range l.length) 0 (lenR l)).1
def tL (l:List Ck) (j:Nat):Rat:=if j<l.length then ((psL l).getD j default).2.1 else lenR l
def oL (l:List Ck) (a:Nat):Nat:=((psL l).map Prod.fst).idxOf a
theorem ywt (hd:DK l):((psL l).map Prod.fst).Perm (List.range l.length):=by
 have n6:=hd.n6
 exact yB8 3 _ _ _ (by rw [qA8];omega) (by rw [qA8];exact hd.n0)
theorem yzI (hd:DK l):(psL l).length=l.length:=by
 have:=(ywt hd).length_eq
 rwa [qAf,qA8] at this
theorem yLS (hd:DK l):∃ D,(1≤D∧D≤100000000)∧Chn 0 (psL l) (lenR l)∧(∀ x∈psL l,In D x.2.1∧In D x.2.2)∧∀ y∈dvL l,QR l y:=by
 have n6:=hd.n6
 have n0:=hd.n0
 have b:bndD (List.range l.length).length≤53747712:=by
  rw [qA8]
  obtain h | h | h | h | h | h:l.length=1∨l.length=2∨l.length=3∨l.length=4∨l.length=5∨l.length=6:=by omega
  all_goals
   rw [h]
   decide
 obtain ⟨e,e1,e2,c,i,y⟩:=yLR hd 3 (List.range l.length) 0 (lenR l) 1 (HV.top hd) (by rw [qA8];omega) (by omega)
 rw [Int.mul_one] at i
 exact ⟨e,⟨e1,by omega⟩,c,i,y⟩
theorem yG0 (hd:DK l) {a:Nat} (ha:a<l.length):oL l a<l.length∧((psL l).getD (oL l a) default).1=a∧(psL l).getD (oL l a) default∈psL l:=by
 have hm:a∈(psL l).map Prod.fst:=(ywt hd).mem_iff.2 (List.mem_range.2 ha)
 have hl:=yzI hd
 have h1:oL l a<((psL l).map Prod.fst).length:=List.idxOf_lt_length_of_mem hm
 rw [qAf,hl] at h1
 have h2:(psL l)[oL l a]?=some ((psL l)[oL l a]'(by omega)):=qAb (by omega)
 have e:(psL l).getD (oL l a) default=(psL l)[oL l a]'(by omega):=by rw [qAa,h2];rfl
 refine ⟨h1,?_,by rw [e];exact qBb _⟩
 rw [e]
 have:=List.getElem_idxOf (xs:=(psL l).map Prod.fst) (x:=a) (by rw [qAf,hl];exact h1)
 rw [List.getElem_map] at this
 exact this
theorem nodP (hd:DK l):((psL l).map Prod.fst).Nodup:=(ywt hd).nodup_iff.2 List.nodup_range
theorem yOK (hd:DK l) {j:Nat} (hj:j<l.length):∃ a,a<l.length∧oL l a=j:=by
 have hl:=yzI hd
 have hj':j<((psL l).map Prod.fst).length:=by rw [qAf,hl];exact hj
 refine ⟨((psL l).map Prod.fst)[j]'hj',?_,(nodP hd).idxOf_getElem j hj'⟩
 exact List.mem_range.1 ((ywt hd).mem_iff.1 (qBb _))
theorem yLT (hd:DK l) {a:Nat} (ha:a<l.length):(dvX l).getD a []=[((psL l).getD (oL l a) default).2]:=by
 obtain ⟨h1,h2,h3⟩:=yG0 hd ha
 have:=yGZ (psL l) (List.replicate l.length []) _ (nodP hd) h3 (by rw [h2,qA0];exact ha)
 rw [h2] at this
 exact this
theorem yOL {D:Int} (hd:DK l) (c:Chn 0 (psL l) (lenR l)) (i:∀ x∈psL l,In D x.2.1∧In D x.2.2) (_:1≤D) {j:Nat} (hj:j<l.length):tL l j=((psL l).getD j default).2.1∧tL l (j+1)=((psL l).getD j default).2.2∧tL l j<tL l (j+1)∧In D (tL l j):=by
 have hl:=yzI hd
 obtain ⟨a,b⟩:=c.at j (by omega)
 have e1:tL l j=((psL l).getD j default).2.1:=by unfold tL;rw [if_pos hj]
 have e2:tL l (j+1)=((psL l).getD j default).2.2:=by
  unfold tL
  rw [b,hl]
 have hm:(psL l).getD j default∈psL l:=by
  rw [qAa,qAb (by omega)]
  exact qBb _
 refine ⟨e1,e2,by rw [e1,e2];exact a,?_⟩
 rw [e1]
 exact (i _ hm).1
theorem LD9 (hd:DK l):∃ D,(1≤D∧D≤100000000)∧LD l (dvX l) (tL l) (oL l)∧(∀ j,j≤l.length→In D (tL l j))∧∀ y∈dvL l,QR l y:=by
 obtain ⟨D,hD,c,i,y⟩:=yLS hd
 have n0:=hd.n0
 have n6:=hd.n6
 have hl:=yzI hd
 have T:=fun {j:Nat} (hj:j<l.length)=>yOL hd c i hD.1 hj
 have te:tL l l.length=lenR l:=by unfold tL;rw [if_neg (by omega)]
 have inD:∀ j,j≤l.length→In D (tL l j):=fun j hj=>by
  by_cases k:j<l.length
  ·exact (T k).2.2.2
  ·obtain rfl:j=l.length:=by omega
   rw [te]
   exact In.int hD.1 _
 have t0:tL l 0=0:=by
  rw [(T n0).1]
  match h:psL l,c with
  | [],_=>rw [h] at hl;exact absurd hl (by rw [qBp];omega)
  | x::r,c=>exact c.1
 have lt:∀ j,j<l.length→tL l j<tL l (j+1):=fun j hj=>(T hj).2.2.1
 have up:∀ j,j≤l.length→0≤tL l j:=fun j=>by
  induction j with
  | zero=>intro _;rw [t0];exact qA6
  | succ j ih=>intro hj;exact Rat.le_trans (ih (by omega)) (qAy (lt j (by omega)))
 have dn:∀ d j,j+d=l.length→tL l j≤lenR l:=fun d=>by
  induction d with
  | zero=>intro j hj;rw [show j=l.length by omega,te];exact qA6
  | succ d ih=>intro j hj;exact Rat.le_trans (qAy (lt j (by omega))) (ih (j+1) (by omega))
 have hL:lenR l≤1000:=qAw.2 (hd.ok 0 (by omega)).len0.2
 refine ⟨D,hD,⟨hd,yJf l,t0,te,lt,fun j hj=>?_,fun a ha=>?_,fun a b ha hb e=>?_,fun j hj=>yOK hd hj⟩,inD,y⟩
 ·have:=up j hj
  have:=dn (l.length-j) j (by omega)
  exact sm3 (inD j hj) ⟨hD.1,by omega⟩ (by grind) (by grind)
 ·obtain ⟨h1,h2,h3⟩:=yG0 hd ha
  obtain ⟨e1,e2,_⟩:=T h1
  refine ⟨h1,?_⟩
  rw [yLT hd ha,e1,e2]
 ·have h1:=(yG0 hd ha).2.1
  have h2:=(yG0 hd hb).2.1
  rw [e] at h1
  exact h1.symm.trans h2
end
def thr9:List Ck:=[⟨6,[0,6],[1]⟩,⟨6,[0,4,6],[1,4]⟩,⟨6,[0,2,6],[2,0]⟩]
theorem dk9:DK thr9:=(ylk (l:=thr9) (m:=0) (by decide +kernel)).1
theorem dvX9:dvX thr9=[[(mkRat 2 3,mkRat 10 3)],[(mkRat 10 3,6)],[(0,mkRat 2 3)]]:=by decide +kernel
theorem dvL9:(dvL thr9).length=7:=by decide +kernel
theorem cut9:cutH [0,1,2] (fA thr9 [0,1,2] 0 (lenR thr9))=mkRat 2 3∧lftS [0,1,2] (fA thr9 [0,1,2] 0 (lenR thr9))=[2]∧rgtS [0,1,2] (fA thr9 [0,1,2] 0 (lenR thr9))=[0,1]:=by decide +kernel
theorem yLU (K:List PV→Prop):yqM K=K (cks thr9):=rfl
theorem btw9 (a b c d:Int) (K:List PV→Prop):ymU a b c d K=K [(.agg [(.int .i64 a),(.int .i64 b),(.int .i64 c),(.int .i64 d)])]:=rfl
theorem yOM (K:Bool→Prop):yhh (rspL [[(mkRat 2 3,mkRat 10 3)],[(mkRat 10 3,6)],[(0,mkRat 2 3)]]) [(.data [(.agg [(.int .i64 (2:Int)),(.int .i64 (3:Int)),(.int .i64 (10:Int)),(.int .i64 (3:Int))])]),(.data [(.agg [(.int .i64 (10:Int)),(.int .i64 (3:Int)),(.int .i64 (6:Int)),(.int .i64 (1:Int))])]),(.data [(.agg [(.int .i64 (0:Int)),(.int .i64 (1:Int)),(.int .i64 (2:Int)),(.int .i64 (3:Int))])])] K=K true:=by
 have h:=yH0 (l:=[[⟨2,3,10,3⟩],[⟨10,3,6,1⟩],[⟨0,1,2,3⟩]]) (fun i hi=>by
  have hi:i<3:=hi
  obtain rfl | rfl | rfl:i=0∨i=1∨i=2:=by omega
  all_goals decide) (by decide) K
 have e:rspL [[(mkRat 2 3,mkRat 10 3)],[(mkRat 10 3,(6:Rat))],[((0:Rat),mkRat 2 3)]]=yqR [[⟨2,3,10,3⟩],[⟨10,3,6,1⟩],[⟨0,1,2,3⟩]]:=by kernel_rfl
 rw [e]
 exact h
theorem yLV {A:List Nat} (h:A.length≤1000) (K:Bool→Prop):yhi (A.map encV) (A.map encV) K=K true:=by
 have e:A.map encV=ints (A.map fun (a:Nat)=>(a:Int)):=by unfold ints;rw [List.map_map];rfl
 rw [e]
 exact yH1 (by rw [qAf];omega) K
theorem yDZ (K:Bool→Prop):yju K=K true:=by
 obtain ⟨c1,c2,c3⟩:=cut9
 have run:∀ K,yaN (cks thr9) (logs []) ([0,1,2].map encV) (0:Rat).num (0:Rat).den (lenR thr9).num (lenR thr9).den K=K (cks thr9) (logs ([]++[0,1,2].flatMap (gA thr9 [0,1,2] 0 (lenR thr9)))) (mkRat 2 3).num (mkRat 2 3).den ([2].map encV) ([0,1].map encV) 0:=fun K=>by
  have:=(HV.top dk9).run dk9 (by decide) (lg:=[]) (by decide) K
  rw [show List.range thr9.length=[0,1,2] from rfl,c1,c2,c3] at this
  exact this
 unfold yju yoE
 dsimp only [Go.Pf.jn]
 refine (rOf9 _ _).trans ?_
 refine (rOf9 _ _).trans ?_
 rw [yLU,yJg dk9,yLU]
 refine (run _).trans ?_
 rw [yJh]
 refine (cbYY rfl).trans ?_
 refine (btw9 _ _ _ _ _).trans ?_
 refine (btw9 _ _ _ _ _).trans ?_
 refine (btw9 _ _ _ _ _).trans ?_
 rw [dvX9,yOM,yas,yii,dvL9]
 refine (cbYY rfl).trans ?_
 refine (cbYY rfl).trans ?_
 refine (cbYY (by decide +kernel)).trans ?_
 refine (yLV (A:=[2]) (by decide) _).trans ?_
 rw [yas]
 refine (yLV (A:=[0,1]) (by decide) _).trans ?_
 rw [yas]
 refine (cbYY rfl).trans ?_
 rfl
section
variable {l:List Ck}
theorem yMP (hl:l.length≤9223372036854775807) (K:Bool→Prop):yrf (cks l) K=K (!yt7 l&&decide (ygY l 0=0)):=by
 unfold yrf yt5
 dsimp only [Go.Pf.jn]
 rw [yC4 hl]
 cases hg:yt7 l with
 | true=>rfl
 | false =>
  obtain ⟨g1,g2,g3⟩:=yHY hg
  have h:∀ K,yge (cks l) [] K=K (ygY l 0):=fun K=>yJZ (lg:=[]) g3 (by omega) K
  rw [show (!false)=true from rfl,yas,h,qBm]
  rfl
end
section
variable {l:List Ck}
theorem yMQ {n m:Nat} (h1:1≤n) (h6:n≤6) (h:n=1→m=0) (ha:n=2→m≤2) (hb:n=3→m≤9) (hc:n=4→m≤12) (hd:n=5→m≤25) (he:n=6→m≤30):(bnd9 (n:Int)).2=0∧¬((m:Int)>(bnd9 (n:Int)).1):=by
 obtain rfl | rfl | rfl | rfl | rfl | rfl:n=1∨n=2∨n=3∨n=4∨n=5∨n=6:=by omega
 ·exact ⟨rfl,fun k=>by have k:(m:Int)>0:=k;have:=h rfl;omega⟩
 ·exact ⟨rfl,fun k=>by have k:(m:Int)>2:=k;have:=ha rfl;omega⟩
 ·exact ⟨rfl,fun k=>by have k:(m:Int)>9:=k;have:=hb rfl;omega⟩
 ·exact ⟨rfl,fun k=>by have k:(m:Int)>12:=k;have:=hc rfl;omega⟩
 ·exact ⟨rfl,fun k=>by have k:(m:Int)>25:=k;have:=hd rfl;omega⟩
 ·exact ⟨rfl,fun k=>by have k:(m:Int)>30:=k;have:=he rfl;omega⟩
theorem yMR (hd:DK l):(bnd9 (l.length:Int)).2=0∧¬(((dvL l).length:Int)>(bnd9 (l.length:Int)).1):=by
 have n0:=hd.n0
 have n6:=hd.n6
 have hR:(List.range l.length).length=l.length:=qA8
 have f4:l.length≤4→dvM l 4 (List.range l.length) 0 (lenR l)=dvM l 3 (List.range l.length) 0 (lenR l):=fun h=>yws 2 _ _ _ (by rw [hR];omega)
 have f2:l.length≤2→dvM l 3 (List.range l.length) 0 (lenR l)=dvM l 2 (List.range l.length) 0 (lenR l):=fun h=>yws 1 _ _ _ (by rw [hR];omega)
 have g2:=yB5 (l:=l) 2 (List.range l.length) (by rw [hR];omega)
 rw [hR] at g2
 have b2:2≤l.length→(dvL l).length≤l.length*5:=g2
 have b1:2≤l.length→l.length≤4→(dvL l).length≤l.length*3:=fun h k=>by
  have:=yB5 (l:=l) 1 (List.range l.length) (by rw [hR];omega) (by rw [hR];omega)
  rw [hR] at this
  unfold dvL
  rw [f4 k]
  exact this
 have b0:l.length=2→(dvL l).length≤2:=fun h=>by
  have:=yB5 (l:=l) 0 (List.range l.length) (by rw [hR];omega) (by rw [hR];omega)
  rw [hR] at this
  unfold dvL
  rw [f4 (by omega),f2 (by omega)]
  have t:(dvM l (0+2) (List.range l.length) 0 (lenR l)).2.length≤l.length*1:=this
  rw [qBd] at t
  omega
 refine yMQ n0 n6 (fun h=>?_) (fun h=>b0 h) (fun h=>?_) (fun h=>?_) (fun h=>?_) (fun h=>?_)
 ·unfold dvL
  rw [ye4 (by rw [hR];omega)]
  rfl
 ·have:=b1 (by omega) (by omega);omega
 ·have:=b1 (by omega) (by omega);omega
 ·have:=b2 (by omega);omega
 ·have:=b2 (by omega);omega
theorem yNM (hd:DK l) (L0:LD l (dvX l) (tL l) (oL l)) {a:Nat} (ha:a<l.length):yt9 l a≤wV (l.getD a default) ((dvX l).getD a []):=by
 have n0:=hd.n0
 have n6:=hd.n6
 obtain ⟨h1,h2,h3⟩:=yG0 hd ha
 have s:=(yKj hd 3 (List.range l.length) 0 (lenR l) 1 (HV.top hd) (by rw [qA8];omega) (by decide) _ h3).2.2
 rw [h2,qA8,tot3 hd ha] at s
 have e:wV (l.getD a default) ((dvX l).getD a [])=vXA l a ((psL l).getD (oL l a) default).2.2-vXA l a ((psL l).getD (oL l a) default).2.1:=by
  rw [L0.wV _ ha]
  have k:=(L0.at_ a ha).2
  rw [yLT hd ha] at k
  have k:=(List.cons.inj k).1
  rw [k]
  rfl
 rw [e]
 have hn:(0:Rat)<((l.length:Int):Rat):=qB0.2 (by omega)
 show totR l a / ((l.length:Int):Rat)≤_
 have e2:totR l a / ((l.length:Int):Rat)*((l.length:Int):Rat)=totR l a:=Rat.div_mul_cancel (by grind)
 refine Rat.not_lt.1 fun k=>?_
 have:=Rat.mul_lt_mul_of_pos_right k hn
 grind
theorem yFr (hl:l.length≤9223372036854775807):yg7 (cks l) (fun b=>b=true):=by
 unfold yg7 yiQ
 rw [yMP hl]
 by_cases hf:(!yt7 l&&decide (ygY l 0=0))=true
 case neg =>
  rw [show (!yt7 l&&decide (ygY l 0=0))=false by simpa using hf]
  show yju _
  rw [yDZ]
 rw [hf,show (!true)=false from rfl,yae]
 simp only [qAe,qA7,decide_eq_true_eq] at hf
 obtain ⟨hg,hz⟩:=hf
 have hd:=(ylk hz).1
 have n0:=hd.n0;have n6:=hd.n6
 obtain ⟨D,hD,L0,inD,hq⟩:=LD9 hd
 have dv:=L0.DV
 obtain ⟨k1,k2,k3,k4⟩:=dv.good (D:=D) hD (L0.InA inD)
 obtain ⟨b1,b2⟩:=yMR hd
 have hL:=yMO hd
 rw [yJg hd,ya8,yJh,yKg hd (by omega) hq,k4]
 dsimp only [Go.Pf.jn]
 rw [cnF rfl,cnF b1,cnF rfl,yii,cnF rfl,cbF b2]
 show cbr (0 != 0) _ _
 rw [cnF rfl]
 rw [dv.Accept19 k1 k2 L0.none L0.nogap (fun a ha=>yNM hd L0 ha) L0.one,ceT rfl,yas,yDZ]
end
end Go.Pf.Vc
