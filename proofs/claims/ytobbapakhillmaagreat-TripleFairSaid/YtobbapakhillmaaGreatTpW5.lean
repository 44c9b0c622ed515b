/- Part 5. -/
import Derived.Test.YtobbapakhillmaaGreatTpW4
noncomputable section
namespace Go.Pf.Vc
open Go Go.Pf
section
variable {len:Int} {cuts dens:List Int}
def valC (cuts dens:List Int) (a b:Rat):Except Int Rat:=valS cuts dens b dens.length 0 a 0
theorem yfk {q:Rat} {K:Int→Int→Int→Prop}:fitK q K=if small q then K q.num q.den 0 else K 0 0 16:=rfl
theorem yCH (h:VC len cuts dens) {b:Rat} (hb:small b) (an ad:Int) (W1:Int→List PV→List PV→(Int→Prop)→Prop) (W2:Int→List PV→List PV→Int→Int→(Bool→Prop)→Prop) (K:Int→Int→Int→Prop) :
  ∀ (r i n:Nat) (p sum:Rat),i+r=dens.length→r<n→small p→small sum →
   ybk W1 W2 ycW ycQ yaQ ybJ ybh (fun a d e=>(K a d e)) (fun _ _ _ _ _ _ _ f g _ _ _ _ _ _=>(K f g (0:Int)))
    n len (ints cuts) (ints dens) b.num b.den an ad sum.num sum.den p.num p.den (ints dens) dens.length i=exK (valS cuts dens b r i p sum) K
 | 0,i,n+1,p,sum,hi,hn,hp,hs=>by
  unfold ybk valS
  rw [cbF (by omega)];rfl
 | r+1,i,n+1,p,sum,hi,hn,hp,hs=>by
  unfold ybk
  have l1:=h.l1;have l2:=h.l2
  have sc:=h.sc (i:=i+1) (by omega)
  have sd:=h.sd (i:=i) (by omega)
  have e1:=wib (n:=(i:Int)+1) (by omega) (by omega)
  rw [cbT (by omega),ybV,ybV,e1,ycP,qAe,qAe,asT (by omega),asT (by omega),asC (by omega),asT (by omega),asT (by omega),asC (by omega),ydW (by omega),ydW (by omega),yjf,ygW hb sc]
  have ih:=fun p sum hp hs=>yCH h hb an ad W1 W2 K r (i+1) n p sum (by omega) (by omega) hp hs
  unfold valS
  by_cases hbc:b<((cuts.getD (i+1) 0:Int):Rat)
  ·rw [cbT hbc]
   simp only [if_pos hbc]
   by_cases hd:dens.getD i 0=0
   ·rw [ceT hd,if_pos (.inl hd),ygW hp hb]
    by_cases hpb:p<b
    ·rw [cbT hpb,if_pos hpb];exact ih b sum hb hs
    ·rw [cbF hpb,if_neg hpb];exact ih p sum hp hs
   ·rw [ceF hd,ygW hp hb]
    by_cases hpb:p<b
    ·have hc:¬(dens.getD i 0=0∨¬p<b):=by simp [hpb];exact hd
     rw [if_neg hc,decide_eq_true hpb,qBt,yaf,ypW hb hp,yfk]
     by_cases s1:small (b-p)
     ·rw [if_pos s1,cnF rfl,yjf,yxp s1 sd,yfk,fit,if_pos s1]
      by_cases s2:small ((b-p)*(dens.getD i 0:Int))
      ·rw [if_pos s2,cnF rfl,yAJ hs s2,yfk,fit,if_pos s2]
       by_cases s3:small (sum+(b-p)*(dens.getD i 0:Int))
       ·rw [if_pos s3,cnF rfl,fit,if_pos s3];exact ih b _ hb s3
       ·rw [if_neg s3,cnT (by decide),fit,if_neg s3];rfl
      ·rw [if_neg s2,cnT (by decide),fit,if_neg s2];rfl
     ·rw [if_neg s1,cnT (by decide),fit,if_neg s1];rfl
    ·rw [if_pos (.inr hpb),decide_eq_false hpb,qB0,yau,ygW hp hb,cbF hpb,if_neg hpb];exact ih p sum hp hs
  ·rw [cbF hbc]
   simp only [if_neg hbc]
   obtain ⟨c,hc⟩:∃ c:Rat,c=((cuts.getD (i+1) 0:Int):Rat):=⟨_,rfl⟩
   rw [← hc] at sc ⊢
   by_cases hd:dens.getD i 0=0
   ·rw [ceT hd,if_pos (.inl hd),ygW hp sc]
    by_cases hpb:p<c
    ·rw [cbT hpb,if_pos hpb];exact ih c sum sc hs
    ·rw [cbF hpb,if_neg hpb];exact ih p sum hp hs
   ·rw [ceF hd,ygW hp sc]
    by_cases hpb:p<c
    ·have hcc:¬(dens.getD i 0=0∨¬p<c):=by simp [hpb];exact hd
     rw [if_neg hcc,decide_eq_true hpb,qBt,yaf,ypW sc hp,yfk]
     by_cases s1:small (c-p)
     ·rw [if_pos s1,cnF rfl,yjf,yxp s1 sd,yfk,fit,if_pos s1]
      by_cases s2:small ((c-p)*(dens.getD i 0:Int))
      ·rw [if_pos s2,cnF rfl,yAJ hs s2,yfk,fit,if_pos s2]
       by_cases s3:small (sum+(c-p)*(dens.getD i 0:Int))
       ·rw [if_pos s3,cnF rfl,fit,if_pos s3];exact ih c _ sc s3
       ·rw [if_neg s3,cnT (by decide),fit,if_neg s3];rfl
      ·rw [if_neg s2,cnT (by decide),fit,if_neg s2];rfl
     ·rw [if_neg s1,cnT (by decide),fit,if_neg s1];rfl
    ·rw [if_pos (.inr hpb),decide_eq_false hpb,qB0,yau,ygW hp sc,cbF hpb,if_neg hpb];exact ih p sum hp hs
end
def rt (n d:Int):Rat:=mkRat n d.toNat
theorem ye3 (q:Rat):rt q.num q.den=q:=by unfold rt;rw [qAe,Rat.mkRat_self]
theorem ymq {n d:Int} (h:RV n d):small (rt n d)∧(rt n d).num=n∧((rt n d).den:Int)=d:=by
 obtain ⟨q,h1,h2,h3⟩:=yJb h
 subst h2 h3
 rw [ye3];exact ⟨h1,rfl,rfl⟩
theorem PT.pt {len n d:Int} (h:PT len n d):small (rt n d)∧(rt n d).num=n∧((rt n d).den:Int)=d∧0≤rt n d∧rt n d≤(len:Rat):=by
 obtain ⟨q,h1,h2,h3,h4,h5⟩:=yPq h
 subst h2 h3
 rw [ye3];exact ⟨h1,rfl,rfl,h4,h5⟩
theorem yzG {len:Int} {q:Rat} (h:small q) (h0:0≤q) (h1:q≤(len:Rat)):PT len q.num q.den:=by
 refine ⟨h.rv,Rat.num_nonneg.2 h0,?_⟩
 rw [Rat.le_iff,Rat.num_intCast,Rat.den_intCast] at h1
 simpa using h1
section
variable {len:Int} {cuts dens:List Int}
def valR (len:Int) (cuts dens:List Int) (an ad bn bd:Int):Except Int Rat :=
 if ckC len cuts dens=0 then (if PT len an ad∧PT len bn bd∧¬rt bn bd<rt an ad then valC cuts dens (rt an ad) (rt bn bd) else .error 2) else .error (ckC len cuts dens)
theorem yMK {w:(Int→Int→Int→Prop)→Prop} {e:Except Int Rat} (det:∀ r0 r1 r2,(∀ K:Int→Int→Int→Prop,K r0 r1 r2→w K)→∀ K,w K=K r0 r1 r2) (h:∀ K,exK e K→w K) (K:Int→Int→Int→Prop):w K=exK e K:=by
 cases e with
 | ok q=>exact det _ _ _ h K
 | error c=>exact det _ _ _ h K
theorem yyZ (h1:cuts.length<4611686018427387904) (h2:dens.length<4611686018427387904) {an ad bn bd:Int} (ha:I64 an) (ha':I64 ad) (hb:I64 bn) (hb':I64 bd) (K:Int→Int→Int→Prop) :
  ybO len (ints cuts) (ints dens) an ad bn bd K=exK (valR len cuts dens an ad bn bd) K:=by
 refine yMK (fun r0 r1 r2 h K=>yB8 _ _ _ _ _ _ _ r0 r1 r2 h K) (fun K k=>?_) K
 unfold ybO ynA
 rw [ylm h1 h2]
 unfold valR at k
 by_cases h:ckC len cuts dens=0
 case neg=>rw [cnT h];rw [if_neg h] at k;exact k
 have hv:=yxs h
 have hl:=hv.len0
 rw [if_pos h] at k
 rw [cnF h,yCE (by omega) ha ha']
 by_cases p1:PT len an ad
 case neg=>rw [decide_eq_false p1,qB0,yau];rw [if_neg (fun x=>p1 x.1)] at k;exact k
 rw [decide_eq_true p1,qBt,yaf,yCE (by omega) hb hb']
 by_cases p2:PT len bn bd
 case neg=>rw [decide_eq_false p2,qB0,yau];rw [if_neg (fun x=>p2 x.2.1)] at k;exact k
 rw [decide_eq_true p2,qBt,yaf]
 obtain ⟨s1,e1,e2,_,_⟩:=p1.pt
 obtain ⟨s2,f1,f2,_,_⟩:=p2.pt
 have hless:=ygW s2 s1
 rw [e1,e2,f1,f2] at hless
 rw [hless]
 by_cases p3:rt bn bd<rt an ad
 ·rw [cbT p3];rw [if_neg (fun x=>x.2.2 p3)] at k;exact k
 rw [cbF p3]
 rw [if_pos ⟨p1,p2,p3⟩] at k
 rw [yjf,ybV]
 refine ⟨dens.length+1,?_⟩
 have:=yCH hv s2 0 0 yaU ycS K dens.length 0 (dens.length+1) (rt an ad) 0 (by omega) (by omega) s1 (by decide)
 rw [e1,e2,f1,f2] at this
 exact this.mpr k
def mrkS (cuts dens:List Int):Nat→Nat→Rat→Rat→Except Int Rat
 | 0,_,_,_=>.error 6
 | r+1,i,p,v =>
  if ¬p<(cuts.getD (i+1) 0:Int) then mrkS cuts dens r (i+1) p v
  else if dens.getD i 0=0 then mrkS cuts dens r (i+1) (cuts.getD (i+1) 0:Int) v
  else fit ((cuts.getD (i+1) 0:Int)-p) fun l=>fit (l*(dens.getD i 0:Int)) fun w =>
   if w<v then fit (v-w) fun v'=>mrkS cuts dens r (i+1) (cuts.getD (i+1) 0:Int) v'
   else fit (v / (dens.getD i 0:Int)) fun s=>fit (p+s) .ok
def mrkC (cuts dens:List Int) (a v:Rat):Except Int Rat:=if v=0 then .ok a else mrkS cuts dens dens.length 0 a v
def mrkR (len:Int) (cuts dens:List Int) (an ad vn vd:Int):Except Int Rat :=
 if ckC len cuts dens=0 then (if PT len an ad∧RV vn vd∧0≤vn then mrkC cuts dens (rt an ad) (rt vn vd) else .error 2) else .error (ckC len cuts dens)
theorem yEN (h:VC len cuts dens) (W1:Int→List PV→List PV→(Int→Prop)→Prop) (W2:Int→List PV→List PV→Int→Int→(Bool→Prop)→Prop) (W3:Int→Int→(Int→Prop)→Prop) (K:Int→Int→Int→Prop) :
  ∀ (r i n:Nat) (p v:Rat) (o1 o2:Int),i+r=dens.length→r<n→small p→small v →
   ybQ W1 W2 W3 ycQ ycW yaQ ybJ ya8 ybh
    (fun _ _ b d f a=>(cbr (a !=(0:Int)) (cbr (a !=(0:Int)) (K (0:Int) (0:Int) a) (K b d (0:Int))) (cbr (f !=(0:Int)) (K (0:Int) (0:Int) f) (K b d (0:Int)))))
    (fun _ _ j k g _ _ _ _ _ _ _ _ _=>(cbr (g !=(0:Int)) (K (0:Int) (0:Int) g) (K j k (0:Int))))
    n v.num v.den o1 o2 6 len (ints cuts) (ints dens) p.num p.den (ints dens) dens.length i=exK (mrkS cuts dens r i p v) K
 | 0,i,n+1,p,v,o1,o2,hi,hn,hp,hs=>by
  unfold ybQ mrkS
  rw [cbF (by omega)];rfl
 | r+1,i,n+1,p,v,o1,o2,hi,hn,hp,hs=>by
  unfold ybQ
  have l1:=h.l1;have l2:=h.l2
  have sc:=h.sc (i:=i+1) (by omega)
  have sd:=h.sd (i:=i) (by omega)
  have hd0:=h.den (i:=i) (by omega)
  have e1:=wib (n:=(i:Int)+1) (by omega) (by omega)
  rw [cbT (by omega),ybV,ybV,e1,ycP,qAe,qAe,asT (by omega),asT (by omega),asC (by omega),asT (by omega),asT (by omega),asC (by omega),ydW (by omega),ydW (by omega),yjf,ygW hp sc]
  have ih:=fun p v o1 o2 hp hs=>yEN h W1 W2 W3 K r (i+1) n p v o1 o2 (by omega) (by omega) hp hs
  unfold mrkS
  obtain ⟨c,hc⟩:∃ c:Rat,c=((cuts.getD (i+1) 0:Int):Rat):=⟨_,rfl⟩
  rw [← hc] at sc ⊢
  by_cases hpc:p<c
  case neg=>rw [decide_eq_false hpc,qB0,yau,if_pos hpc];exact ih p v o1 o2 hp hs
  rw [decide_eq_true hpc,qBt,yaf,if_neg (fun x=>x hpc),yjf]
  by_cases hd:dens.getD i 0=0
  ·rw [cbF (by omega),ceT hd,if_pos hd];exact ih c v o1 o2 sc hs
  rw [cbT (by omega),if_neg hd,ypW sc hp,yfk]
  by_cases s1:small (c-p)
  case neg=>rw [if_neg s1,cnT (by decide),cnT (by decide),cnT (by decide),fit,if_neg s1];rfl
  rw [if_pos s1,cnF rfl,yjf,yxp s1 sd,yfk,fit,if_pos s1]
  by_cases s2:small ((c-p)*(dens.getD i 0:Int))
  case neg=>rw [if_neg s2,cnT (by decide),cnT (by decide),cnT (by decide),fit,if_neg s2];rfl
  rw [if_pos s2,cnF rfl,ceF hd,ygW s2 hs,fit,if_pos s2]
  by_cases hw:(c-p)*(dens.getD i 0:Int)<v
  ·rw [cbT hw,if_pos hw,ypW hs s2,yfk,fit]
   by_cases s3:small (v-(c-p)*(dens.getD i 0:Int))
   ·rw [if_pos s3,if_pos s3,cnF rfl,cnF rfl];exact ih c _ o1 o2 sc s3
   ·rw [if_neg s3,if_neg s3,cnT (by decide),cnT (by decide),cnF rfl,cnT (by decide)];rfl
  ·have hdn:((dens.getD i 0:Int):Rat)≠0:=fun e=>hd (Rat.intCast_eq_zero_iff.1 e)
   rw [cbF hw,if_neg hw,yjf,yJ2 hs sd hdn,yfk,fit]
   by_cases s3:small (v / (dens.getD i 0:Int))
   ·rw [if_pos s3,if_pos s3,ceT rfl,yAJ hp s3,yfk,fit]
    by_cases s4:small (p+v / (dens.getD i 0:Int))
    ·rw [if_pos s4,if_pos s4,cnF rfl,cnF rfl];rfl
    ·rw [if_neg s4,if_neg s4,cnF rfl,cnT (by decide)];rfl
   ·rw [if_neg s3,if_neg s3,ceF (by decide),cnF rfl,cnT (by decide)];rfl
theorem yHU (h1:cuts.length<4611686018427387904) (h2:dens.length<4611686018427387904) {an ad vn vd:Int} (ha:I64 an) (ha':I64 ad) (hv:I64 vn) (hv':I64 vd) (K:Int→Int→Int→Prop) :
  yie len (ints cuts) (ints dens) an ad vn vd K=exK (mrkR len cuts dens an ad vn vd) K:=by
 refine yMK (fun r0 r1 r2 h K=>yDR _ _ _ _ _ _ _ r0 r1 r2 h K) (fun K k=>?_) K
 unfold yie ypt
 rw [ylm h1 h2]
 unfold mrkR at k
 by_cases h:ckC len cuts dens=0
 case neg=>rw [cnT h];rw [if_neg h] at k;exact k
 have hc:=yxs h
 have hl:=hc.len0
 rw [if_pos h] at k
 rw [cnF h,yCE (by omega) ha ha']
 by_cases p1:PT len an ad
 case neg=>rw [decide_eq_false p1,qB0,yau];rw [if_neg (fun x=>p1 x.1)] at k;exact k
 rw [decide_eq_true p1,qBt,yaf,yEM hv hv',chk]
 by_cases p2:RV vn vd
 case neg=>rw [if_neg p2,cnT (by decide)];rw [if_neg (fun x=>p2 x.2.1)] at k;exact k
 rw [if_pos p2,cnF rfl]
 by_cases p3:vn<0
 ·rw [cbT p3];rw [if_neg (fun x=>by omega)] at k;exact k
 rw [cbF p3]
 rw [if_pos ⟨p1,p2,by omega⟩] at k
 obtain ⟨s1,e1,e2,_,_⟩:=p1.pt
 obtain ⟨s2,f1,f2⟩:=ymq p2
 unfold mrkC at k
 by_cases p4:vn=0
 ·rw [ceT p4]
  rw [if_pos (Rat.num_eq_zero.1 (f1.trans p4))] at k
  have k:K (rt an ad).num (rt an ad).den 0:=k
  rw [e1,e2] at k
  exact k
 rw [ceF p4]
 rw [if_neg (fun x=>p4 (by rw [← f1,x];rfl))] at k
 rw [ybV]
 refine ⟨dens.length+1,?_⟩
 have:=yEN hc yaU ycS ycc K dens.length 0 (dens.length+1) (rt an ad) (rt vn vd) 0 0 (by omega) (by omega) s1 s2
 rw [e1,e2,f1,f2] at this
 exact this.mpr k
def okD (cuts dens:List Int) (i:Nat):Prop:=∀ j,i≤j→j<dens.length→cuts.getD j 0<cuts.getD (j+1) 0∧0≤dens.getD j 0∧dens.getD j 0≤12
theorem yso (l1:dens.length+1=cuts.length) (l2:dens.length<4611686018427387904) (x0:Int→Prop) (x1:Int→List PV→List PV→Bool→Int→Bool→Prop) (P:Prop)
  (hbad:¬okD cuts dens 0→x0 8=P) (hgood:∀ b:Bool,okD cuts dens 0→b=decide (∃ j,j<dens.length∧0<dens.getD j 0)→x1 len (ints cuts) (ints dens) b dens.length false=P) :
  ∀ (r i n:Nat) (b:Bool),i+r=dens.length→r<n→(∀ j,j<i→cuts.getD j 0<cuts.getD (j+1) 0∧0≤dens.getD j 0∧dens.getD j 0≤12)→b=decide (∃ j,j<i∧0<dens.getD j 0) →
   yd1 x0 x1 n len (ints cuts) (ints dens) b i=P
 | 0,i,n+1,b,hi,hn,hj,hb=>by
  unfold yd1
  rw [ybV,cbF (by omega),show (i:Int)=dens.length by omega]
  refine hgood b (fun j _ h=>hj j (by omega)) ?_
  rw [hb,decide_eq_decide]
  rw [show i=dens.length by omega]
 | r+1,i,n+1,b,hi,hn,hj,hb=>by
  unfold yd1
  have e1:=wib (n:=(i:Int)+1) (by omega) (by omega)
  rw [ybV,ybV,cbT (by omega),e1,ycP,qAe,qAe,asT (by omega),asT (by omega),asC (by omega),asT (by omega),asT (by omega),asC (by omega),ydW (by omega),ydW (by omega)]
  have bad:¬(cuts.getD i 0<cuts.getD (i+1) 0∧0≤dens.getD i 0∧dens.getD i 0≤12)→x0 8=P:=fun h=>hbad fun hk=>h (hk i (by omega) (by omega))
  by_cases a1:cuts.getD (i+1) 0≤cuts.getD i 0
  ·rw [cbT a1];exact bad (by omega)
  rw [cbF a1,asT (by omega),asT (by omega),asC (by omega),ydW (by omega)]
  by_cases a2:dens.getD i 0<0
  ·rw [cbT a2];exact bad (by omega)
  rw [cbF a2,asT (by omega),asT (by omega),asC (by omega)]
  by_cases a3:dens.getD i 0>12
  ·rw [cbT a3];exact bad (by omega)
  rw [cbF a3]
  have hj2:∀ j,j<i+1→cuts.getD j 0<cuts.getD (j+1) 0∧0≤dens.getD j 0∧dens.getD j 0≤12:=by
   intro j hlt
   by_cases e:j=i
   ·subst e;omega
   ·exact hj j (by omega)
  have ex:∀ c:Bool,(c=true↔(b=true∨0<dens.getD i 0))→c=decide (∃ j,j<i+1∧0<dens.getD j 0):=by
   intro c hc
   rw [Bool.eq_iff_iff,hc,hb,decide_eq_true_iff,decide_eq_true_iff]
   constructor
   ·rintro (⟨j,h1,h2⟩ | h)
    ·exact ⟨j,by omega,h2⟩
    ·exact ⟨i,by omega,h⟩
   ·rintro ⟨j,h1,h2⟩
    by_cases e:j=i
    ·subst e;exact .inr h2
    ·exact .inl ⟨j,by omega,h2⟩
  cases b with
  | true =>
   rw [yau]
   exact yso l1 l2 x0 x1 P hbad hgood r (i+1) n true (by omega) (by omega) hj2 (ex _ (by simp))
  | false =>
   rw [yaf,asT (by omega),asT (by omega),asC (by omega)]
   exact yso l1 l2 x0 x1 P hbad hgood r (i+1) n _ (by omega) (by omega) hj2 (ex _ (by simp))
theorem yEO (h1:cuts.length<4611686018427387904) (h2:dens.length<4611686018427387904) (K:Int→Prop) :
  ydj len (ints cuts) (ints dens) K=K (ckC len cuts dens):=by
 refine yD2 _ _ _ _ (fun K k=>?_) K
 unfold ydj ypE
 simp only [ybV]
 have bad:¬(len>1000∨cuts.length>40)→¬VC len cuts dens→K 8:=fun h h2=>by
  rw [ckC,if_neg h,if_neg h2] at k;exact k
 by_cases a1:len>1000
 ·rw [cbT a1];rw [ckC,if_pos (.inl a1)] at k;exact k
 rw [cbF a1]
 by_cases a2:cuts.length>40
 ·rw [cbT (by omega)];rw [ckC,if_pos (.inr a2)] at k;exact k
 have a12:¬(len>1000∨cuts.length>40):=by omega
 rw [cbF (by omega)]
 by_cases a3:len<1
 ·rw [cbT a3];exact bad a12 (fun h=>by have:=h.1;omega)
 rw [cbF a3]
 by_cases a4:cuts.length<2
 ·rw [cbT (by omega)];exact bad a12 (fun h=>by have:=h.2.2.1;omega)
 rw [cbF (by omega),wib (n:=(cuts.length:Int)-1) (by omega) (by omega)]
 by_cases a5:dens.length+1=cuts.length
 case neg=>rw [cnT (by omega)];exact bad a12 (fun h=>a5 h.2.2.2.2.1)
 rw [cnF (by omega),asT (by omega),asC (by omega),ydW (by omega)]
 by_cases a6:cuts.getD 0 0=0
 case neg=>rw [cnT a6];exact bad a12 (fun h=>a6 h.2.2.2.2.2.1)
 rw [cnF a6,asT (by omega),asT (by omega),asC (by omega),ydW (by omega)]
 have en:((cuts.length:Int)-1).toNat=cuts.length-1:=by omega
 rw [en]
 by_cases a7:cuts.getD (cuts.length-1) 0=len
 case neg=>rw [cnT a7];exact bad a12 (fun h=>a7 h.2.2.2.2.2.2.1)
 rw [cnF a7]
 have mem:∀ d,d∈dens↔∃ j,j<dens.length∧dens.getD j 0=d:=by
  intro d
  rw [List.mem_iff_getElem]
  constructor
  ·rintro ⟨j,hj,e⟩;exact ⟨j,hj,by rw [qAa,qAc hj];exact e⟩
  ·rintro ⟨j,hj,e⟩;exact ⟨j,hj,by rw [qAa,qAc hj] at e;exact e⟩
 refine ⟨dens.length+1,?_⟩
 refine (yso a5 h2 _ _ (K (ckC len cuts dens)) (fun hk=>?_) (fun b hk hb=>?_) dens.length 0 (dens.length+1) false (by omega) (by omega) (fun j h=>by omega) (by simp)).mpr k
 ·have hv:¬VC len cuts dens:=fun h=>hk fun j _ hj=>⟨h.step (by omega),h.den hj⟩
  rw [ckC,if_neg a12,if_neg hv]
 ·have hsome:yCD dens↔∃ j,j<dens.length∧0<dens.getD j 0:=by
   constructor
   ·rintro ⟨d,hd,h0⟩
    obtain ⟨j,hj,e⟩:=(mem d).1 hd
    exact ⟨j,hj,by rw [e];exact h0⟩
   ·rintro ⟨j,hj,h0⟩;exact ⟨_,(mem _).2 ⟨j,hj,rfl⟩,h0⟩
  have hv:VC len cuts dens↔yCD dens:=by
   refine ⟨fun h=>h.2.2.2.2.2.2.2.2.2,fun h=>⟨by omega,by omega,by omega,by omega,a5,a6,a7,fun j _ hj=>(hk j (by omega) (by omega)).1,fun d hd=>?_,h⟩⟩
   obtain ⟨j,hj,e⟩:=(mem d).1 hd
   rw [← e];exact (hk j (by omega) hj).2
  rw [ckC,if_neg a12]
  by_cases hs:yCD dens
  ·rw [if_pos (hv.2 hs),hb,decide_eq_true (hsome.1 hs)];rfl
  ·rw [if_neg (fun x=>hs (hv.1 x)),hb,decide_eq_false (fun x=>hs (hsome.2 x))];rfl
theorem yn7 {α:Type} {q:Rat} {k:Rat→Except Int α} (h:small q):fit q k=k q:=if_pos h
theorem yGz {q:Rat} {K:Int→Int→Int→Prop}:exK (.ok q) K=K q.num q.den 0:=rfl
theorem yML {c:Int} {K:Int→Int→Int→Prop}:exK (.error c) K=K 0 0 c:=rfl
end
structure Ck where
 len:Int
 cuts:List Int
 dens:List Int
instance:Inhabited Ck:=⟨⟨0,[],[]⟩⟩
def encC (c:Ck):PV:=.agg [.int .i64 c.len,.data (ints c.cuts),.data (ints c.dens)]
def cks (l:List Ck):List PV:=l.map encC
def Ck.fin (c:Ck):Prop:=c.cuts.length<4611686018427387904∧c.dens.length<4611686018427387904
def Ck.err (c:Ck):Int:=ckC c.len c.cuts c.dens
def Ck.ok (c:Ck):Prop:=VC c.len c.cuts c.dens
instance (c:Ck):Decidable c.ok:=by unfold Ck.ok;infer_instance
theorem ybC (l:List Ck):(cks l).length=l.length:=qAq ..
theorem yfB {l:List Ck} {i:Nat} (h:i<l.length):List.getD (cks l) i .nils=encC (l.getD i default):=by
 unfold cks
 rw [qAa,qAa,qA9,qAc h]
 rfl
theorem yde {α:Type} {l:List α} {i:Nat} (d:α) (h:i<l.length):l.drop i=l.getD i d::l.drop (i+1):=by
 rw [List.drop_eq_getElem_cons h,qAa,qAc h];rfl
theorem asCk {c:Ck} {P:Prop}:asr (conf zK (encC c)) P=P:=rfl
theorem ck0 (c:Ck):yaa (yab (encC c) 0)=c.len:=rfl
theorem ck1 (c:Ck):yaY (yab (encC c) 1)=ints c.cuts:=rfl
theorem ck2 (c:Ck):yaY (yab (encC c) 2)=ints c.dens:=rfl
def yhA:List Ck→Int
 | []=>0
 | c::t=>if c.err=0 then yhA t else c.err
def ymr (n:Int):List Ck→Bool
 | []=>true
 | c::t=>decide (c.len=n)&&ymr n t
def yjv (l:List Ck) (m:Nat):Int :=
 if l.length>6 then 4 else if m>2000 then 4 else if l.length=0 then 8 else if yhA l=0 then (if ymr (l.getD 0 default).len l then 0 else 8) else yhA l
section
variable {l:List Ck}
def finC (l:List Ck):Prop:=∀ i,i<l.length→(l.getD i default).fin
theorem yJ7 (hf:finC l) (hl:l.length<4611686018427387904) (x0:Int→Prop) (x1:List PV→List PV→List PV→Int→Int→Bool→Prop) (lg:List PV) :
  ∀ (r i n:Nat),i+r=l.length→r<n→yeJ yaU x0 x1 n (cks l) lg (cks l) l.length i =
   if yhA (l.drop i)=0 then x1 (cks l) lg (cks l) l.length l.length false else x0 (yhA (l.drop i))
 | 0,i,n+1,hi,hn=>by
  unfold yeJ
  rw [cbF (by omega),qA3 (by omega),show (i:Int)=l.length by omega];rfl
 | r+1,i,n+1,hi,hn=>by
  unfold yeJ
  have e1:=wib (n:=(i:Int)+1) (by omega) (by omega)
  obtain ⟨f1,f2⟩:=hf i (by omega)
  rw [cbT (by omega),ybC,qAe,yfB (by omega),asT (by omega),asT (by omega),asCk,ck0,ck1,ck2,ylm (by omega) (by omega),yde default (by omega),yhA,e1,ycP]
  show cbr ((l.getD i default).err != 0) _ _=_
  by_cases h:(l.getD i default).err=0
  ·rw [cnF h,if_pos h];exact yJ7 hf hl x0 x1 lg r (i+1) n (by omega) (by omega)
  ·rw [cnT h,if_neg h,if_neg h];rfl
theorem yJ8 (hl:l.length<4611686018427387904) (x0:Int→Prop) (x1:List PV→List PV→List PV→Int→Int→Bool→Prop) (lg:List PV) (W) :
  ∀ (r i n:Nat),i+r=l.length→r<n→yd0 W x0 x1 n (cks l) lg (cks l) l.length i =
   if ymr (l.getD 0 default).len (l.drop i) then x1 (cks l) lg (cks l) l.length l.length false else x0 8
 | 0,i,n+1,hi,hn=>by
  unfold yd0
  rw [cbF (by omega),qA3 (by omega),show (i:Int)=l.length by omega];rfl
 | r+1,i,n+1,hi,hn=>by
  unfold yd0
  have e1:=wib (n:=(i:Int)+1) (by omega) (by omega)
  rw [cbT (by omega),ybC,qAe,yfB (by omega),yfB (by omega),asT (by omega),asT (by omega),asCk,asT (by omega),asCk,ck0,ck0,yde default (by omega),ymr,e1,ycP]
  by_cases h:(l.getD i default).len=(l.getD 0 default).len
  ·rw [cnF h,decide_eq_true h,qAz];exact yJ8 hl x0 x1 lg W r (i+1) n (by omega) (by omega)
  ·rw [cnT h,decide_eq_false h,qBb,if_neg (by simp)]
theorem yln (hf:finC l) (hl:l.length<4611686018427387904) (lg:List PV) (K:Int→Prop):ybU (cks l) lg K=K (yjv l lg.length):=by
 refine yD0 _ _ _ (fun K k=>?_) K
 unfold ybU ypy
 unfold yjv at k
 rw [ybC]
 by_cases a1:l.length>6
 ·rw [cbT (by omega)];rw [if_pos a1] at k;exact k
 rw [cbF (by omega)];rw [if_neg a1] at k
 by_cases a2:lg.length>2000
 ·rw [cbT (by omega)];rw [if_pos a2] at k;exact k
 rw [cbF (by omega)];rw [if_neg a2] at k
 by_cases a3:l.length=0
 ·rw [ceT (by omega)];rw [if_pos a3] at k;exact k
 rw [ceF (by omega)];rw [if_neg a3] at k
 refine ⟨l.length+1,?_⟩
 have h0:=yJ7 hf hl (fun c=>K c) (fun a d o p q r=>(∃ e:Nat,yd0 yaU (fun b=>(K b)) (fun f g i j m n=>(K (0:Int))) e a d a (((List.length a):Nat):Int) (0:Int))) lg l.length 0 (l.length+1) (by omega) (by omega)
 rw [show ((0:Nat):Int)=0 from rfl,qBa] at h0
 rw [h0]
 by_cases a4:yhA l=0
 ·rw [if_pos a4] at k ⊢
  refine ⟨l.length+1,?_⟩
  have h1:=yJ8 hl (fun b=>(K b)) (fun f g i j m n=>(K (0:Int))) lg yaU l.length 0 (l.length+1) (by omega) (by omega)
  rw [show ((0:Nat):Int)=0 from rfl,qBa] at h1
  rw [ybC,h1]
  split at k <;> rename_i h <;> simp only [h] <;> exact k
 ·rw [if_neg a4] at k ⊢;exact k
theorem yJ9 (hf:finC l) (hl:l.length<4611686018427387904) (x0:Int→Prop) (x1:List PV→List PV→Int→Bool→Prop) (lg:List PV) :
  ∀ (r i n:Nat),i+r=l.length→r<n→yeK ydj x0 x1 n (cks l) lg i =
   if yhA (l.drop i)=0 then x1 (cks l) lg l.length false else x0 (yhA (l.drop i))
 | 0,i,n+1,hi,hn=>by
  unfold yeK
  rw [ybC,cbF (by omega),qA3 (by omega),show (i:Int)=l.length by omega];rfl
 | r+1,i,n+1,hi,hn=>by
  unfold yeK
  have e1:=wib (n:=(i:Int)+1) (by omega) (by omega)
  obtain ⟨f1,f2⟩:=hf i (by omega)
  rw [ybC,cbT (by omega),qAe,yfB (by omega),asT (by omega),asT (by omega),asCk,ck0,ck1,ck2,yEO (by omega) (by omega),yde default (by omega),yhA,e1,ycP]
  show cbr ((l.getD i default).err != 0) _ _=_
  by_cases h:(l.getD i default).err=0
  ·rw [cnF h,if_pos h];exact yJ9 hf hl x0 x1 lg r (i+1) n (by omega) (by omega)
  ·rw [cnT h,if_neg h,if_neg h,asT (by omega),asT (by omega),asCk,yEO (by omega) (by omega)];rfl
theorem yKa (hl:l.length<4611686018427387904) (x0:Int→Prop) (x1:List PV→List PV→Int→Bool→Prop) (lg:List PV) (W) :
  ∀ (r i n:Nat),i+r=l.length→r<n→yd2 W x0 x1 n (cks l) lg i =
   if ymr (l.getD 0 default).len (l.drop i) then x1 (cks l) lg l.length false else x0 8
 | 0,i,n+1,hi,hn=>by
  unfold yd2
  rw [ybC,cbF (by omega),qA3 (by omega),show (i:Int)=l.length by omega];rfl
 | r+1,i,n+1,hi,hn=>by
  unfold yd2
  have e1:=wib (n:=(i:Int)+1) (by omega) (by omega)
  rw [ybC,cbT (by omega),qAe,yfB (by omega),yfB (by omega),asT (by omega),asT (by omega),asCk,asT (by omega),asCk,ck0,ck0,yde default (by omega),ymr,e1,ycP]
  by_cases h:(l.getD i default).len=(l.getD 0 default).len
  ·rw [cnF h,decide_eq_true h,qAz];exact yKa hl x0 x1 lg W r (i+1) n (by omega) (by omega)
  ·rw [cnT h,decide_eq_false h,qBb,if_neg (by simp)]
theorem yLp (hf:finC l) (hl:l.length<4611686018427387904) (lg:List PV) (K:Int→Prop):ygP (cks l) lg K=K (yjv l lg.length):=by
 refine yD3 _ _ _ (fun K k=>?_) K
 unfold ygP ypG
 unfold yjv at k
 rw [ybC]
 by_cases a1:l.length>6
 ·rw [cbT (by omega)];rw [if_pos a1] at k;exact k
 rw [cbF (by omega)];rw [if_neg a1] at k
 by_cases a2:lg.length>2000
 ·rw [cbT (by omega)];rw [if_pos a2] at k;exact k
 rw [cbF (by omega)];rw [if_neg a2] at k
 by_cases a3:l.length=0
 ·rw [ceT (by omega)];rw [if_pos a3] at k;exact k
 rw [ceF (by omega)];rw [if_neg a3] at k
 refine ⟨l.length+1,?_⟩
 have h0:=yJ9 hf hl (fun b=>K b) (fun c d m n=>(∃ e:Nat,yd2 ydj (fun a=>(K a)) (fun f g i j=>(K (0:Int))) e c d (0:Int))) lg l.length 0 (l.length+1) (by omega) (by omega)
 rw [show ((0:Nat):Int)=0 from rfl,qBa] at h0
 rw [h0]
 by_cases a4:yhA l=0
 ·rw [if_pos a4] at k ⊢
  refine ⟨l.length+1,?_⟩
  have h1:=yKa hl (fun a=>(K a)) (fun f g i j=>(K (0:Int))) lg ydj l.length 0 (l.length+1) (by omega) (by omega)
  rw [show ((0:Nat):Int)=0 from rfl,qBa] at h1
  rw [h1]
  split at k <;> rename_i h <;> simp only [h] <;> exact k
 ·rw [if_neg a4] at k ⊢;exact k
def Ck.low (c:Ck):Prop:=c.cuts.length≤1000∧c.dens.length≤1000
def lowC (l:List Ck):Prop:=∀ i,i<l.length→(l.getD i default).low
theorem yHV (l:List Int):yd6 1 (ints l)=true:=by cases l <;> rfl
theorem yxt {l:List Int} (h:l.length≤1000) (K:List PV→Prop):yeX (ints l) K=K (ints l):=by
 show asr (yfM 1 8 (ints l)) (K (ints l))=_
 have:yfM 1 8 (ints l)=true:=by
  unfold yfM
  rw [yHV,ybV,qAz,decide_eq_true_iff]
  unfold room;omega
 rw [this,yaR]
theorem asTT {c:Bool} {P:Prop} (h:c=true):asr c P=P:=by rw [h,yaR]
theorem yKb (hf:lowC l) (hl:l.length≤1000) (x0:List PV→List PV→Int→Int→Bool→Prop) (x1:List PV→Int→Int→Bool→Prop) :
  ∀ (r i n:Nat) (acc:List PV),i+r=l.length→r<n→acc.length≤i→yen yeX x0 x1 n acc (cks l) l.length i=x0 (acc++cks (l.drop i)) (cks l) l.length l.length false
 | 0,i,n+1,acc,hi,hn,ha=>by
  unfold yen
  rw [cbF (by omega),qA3 (by omega),show (i:Int)=l.length by omega]
  show _=x0 (acc++[]) _ _ _ _
  rw [qB3]
 | r+1,i,n+1,acc,hi,hn,ha=>by
  unfold yen
  have e1:=wib (n:=(i:Int)+1) (by omega) (by omega)
  obtain ⟨f1,f2⟩:=hf i (by omega)
  rw [cbT (by omega),ybC,qAe,yfB (by omega),asT (by omega),asT (by omega),asCk,ck0,ck1,ck2,yxt f1,yxt f2,asT rfl,asT (by omega),asTT (by rw [decide_eq_false (by omega)];rfl),asT rfl,asT (by unfold room;omega),asTT (by simp),e1,ycP]
  rw [yKb hf hl x0 x1 r (i+1) n _ (by omega) (by omega) (by simp;omega),yde (i:=i) default (by omega),qBc];rfl
theorem yEP (hf:lowC l) (hl:l.length≤1000) (K:List PV→Prop):yfX (cks l) K=K (cks l):=by
 refine yCh _ _ (fun K k=>?_) K
 unfold yfX ynE
 cases hc:l with
 | nil =>
  refine ⟨0+1,?_⟩
  rw [hc] at k
  rw [yg9,ybC,cbF (by simp)]
  exact k
 | cons c t =>
  rw [← hc]
  have h0:0<l.length:=by rw [hc];exact Nat.zero_lt_succ _
  refine ⟨(l.length+1)+1,?_⟩
  rw [yg9]
  obtain ⟨f1,f2⟩:=hf 0 (by omega)
  have e1:=wib (n:=(0:Int)+1) (by omega) (by omega)
  rw [ybC,cbT (by omega),show (0:Int).toNat=0 from rfl,yfB (by omega),asT (by omega),asT (by omega),asCk,ck0,ck1,ck2,yxt f1,yxt f2,asTT (by simp),e1,show (0:Int)+1=((0+1:Nat):Int) from rfl]
  rw [yKb hf hl _ _ (l.length-1) (0+1) (l.length+1) _ (by omega) (by omega) (by simp)]
  have e:[PV.agg [PV.int IntKind.i64 (l.getD 0 default).len,PV.data (ints (l.getD 0 default).cuts),PV.data (ints (l.getD 0 default).dens)]]++cks (l.drop (0+1))=cks l:=by
   conv=>rhs;rw [← qBa (l:=l),yde default h0]
   rfl
  rw [e,asT rfl,asT (by omega),qAw]
  exact k
theorem yzH:∀ (l:List Ck),yhA l=0→∀ i,i<l.length→(l.getD i default).ok
 | c::t,h,0,_=>by
  unfold yhA at h
  split at h
  ·rename_i h1;exact yxs h1
  ·rename_i h1;exact absurd h h1
 | c::t,h,i+1,hi=>by
  unfold yhA at h
  split at h
  ·exact yzH t h i (by simpa using hi)
  ·rename_i h1;exact absurd h h1
theorem yCI {n:Int}:∀ (l:List Ck),ymr n l=true→∀ i,i<l.length→(l.getD i default).len=n
 | c::t,h,0,_=>by
  unfold ymr at h
  simp only [qAb,decide_eq_true_eq] at h
  exact h.1
 | c::t,h,i+1,hi=>by
  unfold ymr at h
  simp only [qAb,decide_eq_true_eq] at h
  exact yCI t h.2 i (by simpa using hi)
structure DK (l:List Ck):Prop where
 n6:l.length≤6
 n0:1≤l.length
 ok:∀ i,i<l.length→(l.getD i default).ok
 len:∀ i,i<l.length→(l.getD i default).len=(l.getD 0 default).len
theorem ypX {m:Nat} (h:yjv l m=0):DK l∧m≤2000:=by
 unfold yjv at h
 split at h
 ·omega
 split at h
 ·omega
 split at h
 ·omega
 split at h
 ·rename_i h0 h1 h2 h3
  split at h
  ·rename_i h4
   exact ⟨⟨by omega,by omega,yzH l h3,yCI l h4⟩,by omega⟩
  ·omega
 ·rename_i h3;exact absurd h h3
theorem DK.err {l:List Ck} (h:DK l) {m:Nat} (hm:m≤2000):yjv l m=0:=by
 have f:∀ l:List Ck,(∀ i,i<l.length→(l.getD i default).ok)→yhA l=0:=by
  intro l
  induction l with
  | nil=>intro _;rfl
  | cons c t ih =>
   intro h
   unfold yhA
   rw [if_pos (show c.err=0 from (h 0 (Nat.zero_lt_succ _)).ck)]
   exact ih fun i hi=>h (i+1) (by simpa using hi)
 have g:∀ (n:Int) (l:List Ck),(∀ i,i<l.length→(l.getD i default).len=n)→ymr n l=true:=by
  intro n l
  induction l with
  | nil=>intro _;rfl
  | cons c t ih =>
   intro h
   unfold ymr
   rw [qAb,decide_eq_true_eq]
   exact ⟨h 0 (Nat.zero_lt_succ _),ih fun i hi=>h (i+1) (by simpa using hi)⟩
 have:=h.n6;have:=h.n0
 unfold yjv
 rw [if_neg (by omega),if_neg (by omega),if_neg (by omega),if_pos (f l h.ok),if_pos (g _ l h.len)]
theorem DK.low {l:List Ck} (h:DK l):lowC l:=fun i hi=>by
 have h1:=(h.ok i hi).l1;have h2:=(h.ok i hi).l2
 exact ⟨by omega,by omega⟩
theorem DK.fin {l:List Ck} (h:DK l):finC l:=fun i hi=>by
 have h1:=(h.ok i hi).l1;have h2:=(h.ok i hi).l2
 exact ⟨by omega,by omega⟩
def qrow (agent kind an ad bn bd cn cd:Int):PV:=.agg [.int .i64 agent,.int .u8 kind,.int .i64 an,.int .i64 ad,.int .i64 bn,.int .i64 bd,.int .i64 cn,.int .i64 cd]
def qryR (l:List Ck) (m:Nat) (agent:Int) (ans:Ck→Except Int Rat):Except Int Rat :=
 if yjv l m=0 then (if 0≤agent∧agent<l.length then (match ans (l.getD agent.toNat default) with
  | .ok p=>if m≥2000 then .error 4 else .ok p
  | .error e=>.error e) else .error 2) else .error (yjv l m)
def qryK (l:List Ck) (lg:List PV) (row:Rat→PV) (e:Except Int Rat) (K:List PV→List PV→Int→Int→Int→Prop):Prop :=
 match e with
 | .ok p=>K (cks l) (lg++[row p]) p.num p.den 0
 | .error c=>K [] [] 0 0 c
theorem yOJ {w:(List PV→List PV→Int→Int→Int→Prop)→Prop} {l:List Ck} {lg:List PV} {row:Rat→PV} {e:Except Int Rat} (det:∀ r0 r1 r2 r3 r4,(∀ K:List PV→List PV→Int→Int→Int→Prop,K r0 r1 r2 r3 r4→w K)→∀ K,w K=K r0 r1 r2 r3 r4)
  (h:∀ K,qryK l lg row e K→w K) (K):w K=qryK l lg row e K:=by
 cases e with
 | ok q=>exact det _ _ _ _ _ h K
 | error c=>exact det _ _ _ _ _ h K
theorem mk1 {z q:PV} {lg:List PV} {m:Nat} (hm:m=lg.length) :
  List.take ((0+m)+1) ((List.take (0+(0+m)) (lg++(List.drop (0+m) (List.replicate (m+1) z))))++(([q]:List PV)++(List.drop ((0+(0+m))+1) (lg++(List.drop (0+m) (List.replicate (m+1) z))))))=lg++[q]:=by
 subst hm
 simp
 rw [qBo (by simp)]
theorem yGA (lg:List PV) (agent:Int) (K:Bool→Prop):ybS (cks l) lg agent K=K (decide (0≤agent∧agent<l.length)):=by
 unfold ybS yiP
 rw [ybC]
 by_cases h:agent≥0
 ·rw [cbT h]
  congr 1
  rw [decide_eq_decide];omega
 ·rw [cbF h,decide_eq_false (by omega)]
def Ck.mark (an ad vn vd:Int) (c:Ck):Except Int Rat:=mrkR c.len c.cuts c.dens an ad vn vd
def Ck.value (an ad bn bd:Int) (c:Ck):Except Int Rat:=valR c.len c.cuts c.dens an ad bn bd
theorem yMM (hf:finC l) (hl:l.length<4611686018427387904) {lg:List PV} (hlg:yd6 8 lg=true) {agent an ad vn vd:Int} (ha:I64 an) (ha':I64 ad) (hv:I64 vn) (hv':I64 vd) (K) :
  ygN (cks l) lg agent an ad vn vd K=qryK l lg (fun p=>qrow agent 2 an ad vn vd p.num p.den) (qryR l lg.length agent (Ck.mark an ad vn vd)) K:=by
 refine yOJ (fun r0 r1 r2 r3 r4 h K=>yGg _ _ _ _ _ _ _ r0 r1 r2 r3 r4 h K) (fun K k=>?_) K
 unfold ygN yrK
 unfold qryR at k
 rw [yln hf hl]
 by_cases h:yjv l lg.length=0
 case neg=>rw [cnT h];rw [if_neg h] at k;exact k
 obtain ⟨hd,hm⟩:=ypX h
 rw [if_pos h] at k
 rw [cnF h,yGA]
 by_cases h2:0≤agent∧agent<l.length
 case neg=>rw [decide_eq_false h2,qB0,yau];rw [if_neg h2] at k;exact k
 rw [if_pos h2] at k
 obtain ⟨a,rfl⟩:∃ a:Nat,agent=a:=⟨agent.toNat,by omega⟩
 have ha2:a<l.length:=by omega
 rw [qAe] at k
 obtain ⟨f1,f2⟩:=hf a ha2
 rw [decide_eq_true h2,qBt,yaf,ycn,yfW,ybC,qAe,yfB ha2,asT (by omega),asT (by omega),asCk,ck0,ck1,ck2,yHU (by omega) (by omega) ha ha' hv hv']
 have em:Ck.mark an ad vn vd (l.getD a default)=mrkR (l.getD a default).len (l.getD a default).cuts (l.getD a default).dens an ad vn vd:=rfl
 rw [em] at k
 cases hr:mrkR (l.getD a default).len (l.getD a default).cuts (l.getD a default).dens an ad vn vd with
 | error c =>
  rw [hr] at k
  have k:K [] [] 0 0 c:=k
  rw [yML]
  have hc:c≠0:=by
   intro hc
   subst hc
   unfold mrkR at hr
   split at hr
   ·split at hr
    ·unfold mrkC at hr
     split at hr
     ·cases hr
     ·have no:∀ (r i:Nat) (p v:Rat),mrkS (l.getD a default).cuts (l.getD a default).dens r i p v≠.error 0:=by
       intro r
       induction r with
       | zero=>intro i p v e;unfold mrkS at e;cases e
       | succ r ih =>
        intro i p v e
        unfold mrkS fit at e
        repeat' (first | split at e | dsimp only at e)
        all_goals first | exact ih _ _ _ e | cases e
      exact no _ _ _ _ hr
    ·cases hr
   ·rename_i h5;exact h5 (Except.error.inj hr)
  rw [cnT hc];exact k
 | ok p =>
  rw [hr] at k
  rw [yGz,cnF rfl]
  by_cases h3:lg.length≥2000
  ·rw [cbT (by omega)]
   have k:qryK l lg _ (if lg.length≥2000 then .error 4 else .ok p) K:=k
   rw [if_pos h3] at k;exact k
  ·have k:qryK l lg _ (if lg.length≥2000 then .error 4 else .ok p) K:=k
   rw [if_neg h3] at k
   have k:K (cks l) (lg++[qrow a 2 an ad vn vd p.num p.den]) p.num p.den 0:=k
   have e1:=wib (n:=(lg.length:Int)+1) (by omega) (by omega)
   have e2:((lg.length:Int)+1).toNat=lg.length+1:=by omega
   rw [cbF (by omega),e1,e2,asT (by omega),asT (by unfold room;omega),yEP hd.low (by have:=hd.n6;omega),hlg,yaR]
   rw [asT (by simp),asT (by omega)]
   cases hlg2:lg with
   | nil =>
    rw [List.isEmpty_nil,yau,asT (by simp),asT (by simp),asT (by simp),asT (by simp),asT (by simp)]
    rw [hlg2] at k
    exact k
   | cons x t =>
    rw [← hlg2,show List.isEmpty lg=false by rw [hlg2];rfl,yaf,asT (by omega),asT (by simp),asT (by omega),asT (by omega),asT (by simp),asT (by omega)]
    rw [mk1 rfl]
    exact k
theorem yMN (cuts dens:List Int) (b:Rat):∀ (r i:Nat) (p v:Rat),valS cuts dens b r i p v≠.error 0:=by
 intro r
 induction r with
 | zero=>intro i p v e;unfold valS at e;cases e
 | succ r ih =>
  intro i p v e
  unfold valS fit at e
  repeat' (first | split at e | dsimp only at e)
  all_goals first | exact ih _ _ _ e | cases e
theorem yMO {len:Int} {cuts dens:List Int} {an ad vn vd:Int}:valR len cuts dens an ad vn vd≠.error 0:=by
 intro hr
 unfold valR at hr
 split at hr
 ·split at hr
  ·exact yMN _ _ _ _ _ _ _ hr
  ·cases hr
 ·rename_i h5;exact h5 (Except.error.inj hr)
theorem yLq (hf:finC l) (hl:l.length<4611686018427387904) {lg:List PV} (hlg:yd6 8 lg=true) {agent an ad vn vd:Int} (ha:I64 an) (ha':I64 ad) (hv:I64 vn) (hv':I64 vd) (K) :
  yat (cks l) lg agent an ad vn vd K=qryK l lg (fun p=>qrow agent 1 an ad vn vd p.num p.den) (qryR l lg.length agent (Ck.value an ad vn vd)) K:=by
 refine yOJ (fun r0 r1 r2 r3 r4 h K=>yD1 _ _ _ _ _ _ _ r0 r1 r2 r3 r4 h K) (fun K k=>?_) K
 unfold yat ypC
 unfold qryR at k
 rw [yln hf hl]
 by_cases h:yjv l lg.length=0
 case neg=>rw [cnT h];rw [if_neg h] at k;exact k
 obtain ⟨hd,hm⟩:=ypX h
 rw [if_pos h] at k
 rw [cnF h,yGA]
 by_cases h2:0≤agent∧agent<l.length
 case neg=>rw [decide_eq_false h2,qB0,yau];rw [if_neg h2] at k;exact k
 rw [if_pos h2] at k
 obtain ⟨a,rfl⟩:∃ a:Nat,agent=a:=⟨agent.toNat,by omega⟩
 have ha2:a<l.length:=by omega
 rw [qAe] at k
 obtain ⟨f1,f2⟩:=hf a ha2
 rw [decide_eq_true h2,qBt,yaf,ybY,yfi,ybC,qAe,yfB ha2,asT (by omega),asT (by omega),asCk,ck0,ck1,ck2,yyZ (by omega) (by omega) ha ha' hv hv']
 have em:Ck.value an ad vn vd (l.getD a default)=valR (l.getD a default).len (l.getD a default).cuts (l.getD a default).dens an ad vn vd:=rfl
 rw [em] at k
 cases hr:valR (l.getD a default).len (l.getD a default).cuts (l.getD a default).dens an ad vn vd with
 | error c =>
  rw [hr] at k
  have k:K [] [] 0 0 c:=k
  rw [yML]
  have hc:c≠0:=fun hc=>yMO (hc ▸ hr)
  rw [cnT hc];exact k
 | ok p =>
  rw [hr] at k
  rw [yGz,cnF rfl]
  by_cases h3:lg.length≥2000
  ·rw [cbT (by omega)]
   have k:qryK l lg _ (if lg.length≥2000 then .error 4 else .ok p) K:=k
   rw [if_pos h3] at k;exact k
  ·have k:qryK l lg _ (if lg.length≥2000 then .error 4 else .ok p) K:=k
   rw [if_neg h3] at k
   have k:K (cks l) (lg++[qrow a 1 an ad vn vd p.num p.den]) p.num p.den 0:=k
   have e1:=wib (n:=(lg.length:Int)+1) (by omega) (by omega)
   have e2:((lg.length:Int)+1).toNat=lg.length+1:=by omega
   rw [cbF (by omega),e1,e2,asT (by omega),asT (by unfold room;omega),yEP hd.low (by have:=hd.n6;omega),hlg,yaR]
   rw [asT (by simp),asT (by omega)]
   cases hlg2:lg with
   | nil =>
    rw [List.isEmpty_nil,yau,asT (by simp),asT (by simp),asT (by simp),asT (by simp),asT (by simp)]
    rw [hlg2] at k
    exact k
   | cons x t =>
    rw [← hlg2,show List.isEmpty lg=false by rw [hlg2];rfl,yaf,asT (by omega),asT (by simp),asT (by omega),asT (by omega),asT (by simp),asT (by omega)]
    rw [mk1 rfl]
    exact k
def yvH (l:List Ck):Bool:=l.any (fun c=>decide (c.cuts.length>60)||decide (c.dens.length>60))||decide (l.length>10)
theorem yLr {len:Int} {cuts dens:List Int} (K:Bool→Prop):ygO len (ints cuts) (ints dens) K=K (decide (cuts.length>60)||decide (dens.length>60)):=by
 unfold ygO ypD
 rw [ybV,ybV]
 by_cases h:cuts.length>60
 ·rw [cbT (by omega),decide_eq_true h];rfl
 ·rw [cbF (by omega),decide_eq_false h,Bool.false_or]
  congr 1;rw [decide_eq_decide];omega
theorem yqz (hl:l.length≤9223372036854775807) (K:Bool→Prop) :
  ∀ (r i n:Nat),i+r=l.length→r<n→ycX ygO (fun a=>(K a)) (fun b _ _=>(K (decide ((((List.length b):Nat):Int)>(10:Int))))) n (cks l) i =
   K ((l.drop i).any (fun c=>decide (c.cuts.length>60)||decide (c.dens.length>60))||decide (l.length>10))
 | 0,i,n+1,hi,hn=>by
  unfold ycX
  rw [ybC,cbF (by omega),qA3 (by omega)]
  show K _=K (false||_)
  rw [Bool.false_or]
  congr 1;rw [decide_eq_decide];omega
 | r+1,i,n+1,hi,hn=>by
  unfold ycX
  have e1:=wib (n:=(i:Int)+1) (by omega) (by omega)
  rw [ybC,cbT (by omega),qAe,yfB (by omega),asT (by omega),asT (by omega),asCk,ck0,ck1,ck2,yLr,yde default (by omega),List.any_cons,e1,ycP]
  cases hb:(decide ((l.getD i default).cuts.length>60)||decide ((l.getD i default).dens.length>60)) with
  | true=>rw [yau];rfl
  | false=>rw [yaf,Bool.false_or];exact yqz hl K r (i+1) n (by omega) (by omega)
theorem yEa (hl:l.length≤9223372036854775807) (K:Bool→Prop):yep (cks l) K=K (yvH l):=by
 refine yvj _ _ (fun K k=>?_) K
 unfold yep yiR
 refine ⟨l.length+1,?_⟩
 have:=yqz hl K l.length 0 (l.length+1) (by omega) (by omega)
 rw [show ((0:Nat):Int)=0 from rfl,qBa] at this
 rw [this];exact k
theorem yJd (h:yvH l=false):l.length≤10∧lowC l∧finC l:=by
 unfold yvH at h
 simp only [qB7,decide_eq_false_iff_not,List.any_eq_false,Bool.not_eq_true,Nat.not_lt] at h
 have hh:∀ i,i<l.length→(l.getD i default).cuts.length≤60∧(l.getD i default).dens.length≤60:=by
  intro i hi
  have hm:l.getD i default∈l:=by rw [qAa,qAc hi];exact qB5 hi
  have:=h.1 _ hm
  omega
 exact ⟨by omega,fun i hi=>⟨by have:=hh i hi;omega,by have:=hh i hi;omega⟩,fun i hi=>⟨by have:=hh i hi;omega,by have:=hh i hi;omega⟩⟩
theorem yLs {n d:Int} (hn:-1000000000000000000≤n∧n≤1000000000000000000) (hd:1≤d∧d≤1000000000000000000):small ((n:Rat) / (d:Rat)):=by
 have e:(n:Rat) / (d:Rat)=mkRat n d.toNat:=by
  rw [Rat.mkRat_eq_div]
  have h1:((d.toNat:Nat):Int)=d:=by omega
  have h2:((d.toNat:Nat):Rat)=(d:Rat):=by rw [← Rat.intCast_natCast,h1]
  rw [h2]
 rw [e]
 unfold small
 rw [Rat.num_mkRat,Rat.den_mkRat,if_neg (by omega),if_neg (by omega)]
 have g0:0<d.toNat.gcd n.natAbs:=Nat.gcd_pos_of_pos_left _ (by omega)
 have h1:(n / (d.toNat.gcd n.natAbs:Nat)).natAbs≤n.natAbs:=by
  rw [Int.natAbs_ediv_of_dvd,Int.natAbs_natCast]
  ·exact Nat.div_le_self _ _
  ·rw [← Int.dvd_natAbs,Int.ofNat_dvd];exact Nat.gcd_dvd_right _ _
 have h2:d.toNat / d.toNat.gcd n.natAbs≤d.toNat:=Nat.div_le_self _ _
 generalize n / (d.toNat.gcd n.natAbs:Nat)=x at *
 generalize d.toNat / d.toNat.gcd n.natAbs=y at *
 omega
end
theorem rne {D:Int} (h:1≤D):(D:Rat)≠0:=fun e=>by have:=Rat.intCast_eq_zero_iff.1 e;omega
section
variable {len:Int} {cuts dens:List Int}
def rem (cuts dens:List Int):Nat→Nat→Int
 | 0,_=>0
 | r+1,i=>dens.getD i 0*(cuts.getD (i+1) 0-cuts.getD i 0)+rem cuts dens r (i+1)
theorem yCJ (cuts dens:List Int):∀ (r i:Nat) (s:Int),totS cuts dens r i s=s+rem cuts dens r i
 | 0,i,s=>by unfold totS rem;omega
 | r+1,i,s=>by unfold totS rem;rw [yCJ cuts dens r (i+1)];omega
theorem yEQ (h:VC len cuts dens):∀ (r i:Nat),i+r=dens.length→0≤rem cuts dens r i∧rem cuts dens r i≤12*(len-cuts.getD i 0)
 | 0,i,hi=>by
  have:=h.l1
  have:=h.hi (i:=i) (by omega)
  unfold rem;omega
 | r+1,i,hi=>by
  unfold rem
  have l1:=h.l1
  have h2:=h.step (i:=i) (by omega)
  have h3:=yJ6 (h.den (i:=i) (by omega)) (x:=cuts.getD (i+1) 0-cuts.getD i 0) (by omega)
  have:=yEQ h r (i+1) (by omega)
  omega
theorem yKc (h:VC len cuts dens):∀ (r i:Nat),i+r=dens.length→(∃ j,i≤j∧j<dens.length∧0<dens.getD j 0)→0<rem cuts dens r i
 | 0,i,hi,⟨j,h1,h2,_⟩=>by omega
 | r+1,i,hi,⟨j,h1,h2,h3⟩=>by
  unfold rem
  have l1:=h.l1
  have s:=h.step (i:=i) (by omega)
  have m:=yJ6 (h.den (i:=i) (by omega)) (x:=cuts.getD (i+1) 0-cuts.getD i 0) (by omega)
  have b:=yEQ h r (i+1) (by omega)
  by_cases e:j=i
  ·subst e
   have:=Int.mul_pos h3 (show 0<cuts.getD (j+1) 0-cuts.getD j 0 by omega)
   omega
  ·have:=yKc h r (i+1) (by omega) ⟨j,by omega,h2,h3⟩
   omega
theorem yCK (h:VC len cuts dens):0<totC cuts dens:=by
 unfold totC
 rw [yCJ]
 obtain ⟨d,hd,h0⟩:=h.2.2.2.2.2.2.2.2.2
 obtain ⟨j,hj,e⟩:=List.mem_iff_getElem.1 hd
 have:=yKc h dens.length 0 (by omega) ⟨j,by omega,hj,by rw [qAa,qAc hj];simpa [e] using h0⟩
 omega
end
structure Qy where
 agent:Int
 kind:Int
 an:Int
 ad:Int
 bn:Int
 bd:Int
 cn:Int
 cd:Int
 deriving DecidableEq
instance:Inhabited Qy:=⟨⟨0,0,0,0,0,0,0,0⟩⟩
def encQ (q:Qy):PV:=qrow q.agent q.kind q.an q.ad q.bn q.bd q.cn q.cd
def logs (l:List Qy):List PV:=l.map encQ
theorem yjg (l:List Qy):(logs l).length=l.length:=qAq ..
theorem yN8 {l:List Qy} {i:Nat} (h:i<l.length):List.getD (logs l) i .nils=encQ (l.getD i default):=by
 unfold logs
 rw [qAa,qAa,qA9,qAc h]
 rfl
theorem yER (l:List Qy):yd6 8 (logs l)=true:=by cases l <;> rfl
theorem yHW (l m:List Qy):logs (l++m)=logs l++logs m:=List.map_append ..
theorem asQ {q:Qy} {P:Prop}:asr (conf (.agg [.i .i64,.i .u8,.i .i64,.i .i64,.i .i64,.i .i64,.i .i64,.i .i64]) (encQ q)) P=P:=rfl
structure Sp where
 a:Int
 b:Int
 c:Int
 d:Int
 deriving DecidableEq
instance:Inhabited Sp:=⟨⟨0,0,0,0⟩⟩
def encS (s:Sp):PV:=.agg [.int .i64 s.a,.int .i64 s.b,.int .i64 s.c,.int .i64 s.d]
def yfc (l:List Sp):List PV:=l.map encS
def ysp (l:List (List Sp)):List PV:=l.map fun s=>.data (yfc s)
theorem yim (l:List Sp):(yfc l).length=l.length:=qAq ..
theorem ysq {l:List Sp} {i:Nat} (h:i<l.length):List.getD (yfc l) i .nils=encS (l.getD i default):=by
 unfold yfc
 rw [qAa,qAa,qA9,qAc h]
 rfl
theorem yCL (l:List (List Sp)):(ysp l).length=l.length:=qAq ..
theorem yLt {l:List (List Sp)} {i:Nat} (h:i<l.length):List.getD (ysp l) i .nils=.data (yfc (l.getD i [])):=by
 unfold ysp
 rw [qAa,qAa,qA9,qAc h]
 rfl
theorem asS {s:Sp} {P:Prop}:asr (conf z4 (encS s)) P=P:=rfl
theorem asD {r:List PV} {P:Prop}:asr (conf zD (.data r)) P=P:=rfl
theorem yCM {s:List Sp} (hl:s.length<4611686018427387904) (K:Bool→Prop) :
  ∀ (r i n:Nat),i+r=s.length→r<n→yfu (fun a=>(K a)) (fun _ _ _ _=>(K true)) n (yfc s) (yfc s) i=K true
 | 0,i,n+1,hi,hn=>by
  unfold yfu
  rw [yim,cbF (by omega)]
 | r+1,i,n+1,hi,hn=>by
  unfold yfu
  have e1:=wib (n:=(i:Int)+1) (by omega) (by omega)
  rw [yim,cbT (by omega),qAe,ysq (by omega),asT (by omega),asT (by omega),asS,asT (by omega),asT (by omega),asS,e1,ycP]
  simp only [beq_self_eq_true,Bool.and_self,qBt,yaf]
  exact yCM hl K r (i+1) n (by omega) (by omega)
theorem yJe {s:List Sp} (hl:s.length<4611686018427387904) (K:Bool→Prop):ye8 (yfc s) (yfc s) K=K true:=by
 refine yGn _ _ _ (fun K k=>?_) K
 unfold ye8 yrR
 rw [cnF rfl]
 refine ⟨s.length+1,?_⟩
 exact (yCM hl K s.length 0 (s.length+1) (by omega) (by omega)).mpr k
theorem yCN {l:List (List Sp)} (hf:∀ i,i<l.length→(l.getD i []).length<4611686018427387904) (hl:l.length<4611686018427387904) (K:Bool→Prop) :
  ∀ (r i n:Nat),i+r=l.length→r<n→yfv ye8 (fun a=>(K a)) (fun _ _ _ _=>(K true)) n (ysp l) (ysp l) i=K true
 | 0,i,n+1,hi,hn=>by
  unfold yfv
  rw [yCL,cbF (by omega)]
 | r+1,i,n+1,hi,hn=>by
  unfold yfv
  have e1:=wib (n:=(i:Int)+1) (by omega) (by omega)
  rw [yCL,cbT (by omega),qAe,yLt (by omega),asT (by omega),asT (by omega),asD,asT (by omega),asT (by omega),asD]
  show ye8 (yfc (l.getD i [])) (yfc (l.getD i [])) _=_
  rw [yJe (hf i (by omega)),qBt,yaf,e1,ycP]
  exact yCN hf hl K r (i+1) n (by omega) (by omega)
theorem yJf {l:List (List Sp)} (hf:∀ i,i<l.length→(l.getD i []).length<4611686018427387904) (hl:l.length<4611686018427387904) (K:Bool→Prop):yh5 (ysp l) (ysp l) K=K true:=by
 refine yGo _ _ _ (fun K k=>?_) K
 unfold yh5 yrT
 rw [cnF rfl]
 refine ⟨l.length+1,?_⟩
 exact (yCN hf hl K l.length 0 (l.length+1) (by omega) (by omega)).mpr k
def getR (e:Except Int Rat):Rat:=match e with | .ok q=>q | .error _=>0
theorem yKd {e:Except Int Rat} {q:Rat} (h:e=.ok q):e=.ok (getR e)∧getR e=q:=by subst h;exact ⟨rfl,rfl⟩
section
variable {l:List Ck}
theorem yN9 (x y:Rat):decide (cmpQ x y≥0)=!decide (x<y):=by
 unfold cmpQ
 by_cases h:x<y
 ·simp [h]
 ·by_cases h2:y<x <;> simp [h,h2]
end
def dsC:DS:=.a [.i .i64,.s (.i .i64),.s (.i .i64)]
theorem yKe {n:Int} (h:inK .i64 n):I64 n:=by
 have e1:IntKind.i64.min=-9223372036854775808:=by decide
 have e2:IntKind.i64.max=9223372036854775807:=by decide
 unfold inK at h
 rw [e1,e2] at h
 exact h
theorem F_i {c:List PV} (h:HasF (.i .i64) c):∃ n,c=[.int .i64 n]∧I64 n:=by
 simp only [HasF] at h
 obtain ⟨n,e,k⟩:=h
 exact ⟨n,e,yKe k⟩
theorem yGB:∀ (rows:List PV),(∀ x∈rows,x.isAgg=(DS.i .i64).isA∧HasF (.i .i64) x.cells)→∃ l:List Int,rows=ints l∧∀ n∈l,I64 n
 | [],_=>⟨[],rfl,by simp⟩
 | x::r,h=>by
  obtain ⟨l,e,hl⟩:=yGB r (fun y hy=>h y (qAf _ hy))
  obtain ⟨h1,h2⟩:=h x (qAg ..)
  obtain ⟨n,e2,hn⟩:=F_i h2
  have ex:x=.int .i64 n:=by
   cases x <;> first | (simp only [PV.cells,qA1,and_true] at e2;exact e2) | (cases h1)
  refine ⟨n::l,by rw [ex,e];rfl,?_⟩
  intro m hm
  rcases qAk.1 hm with rfl | hm
  ·exact hn
  ·exact hl m hm
def Ck.i64 (c:Ck):Prop:=I64 c.len∧(∀ n∈c.cuts,I64 n)∧∀ n∈c.dens,I64 n
theorem F_c {c:List PV} (h:HasF dsC c):∃ k:Ck,c=[.int .i64 k.len,.data (ints k.cuts),.data (ints k.dens)]∧k.i64∧k.cuts.length≤9223372036854775807∧k.dens.length≤9223372036854775807:=by
 simp only [dsC,HasF,HasL] at h
 obtain ⟨c1,c2,rfl,⟨n,rfl,hn⟩,c3,c4,rfl,⟨r1,rfl,l1,h1⟩,c5,c6,rfl,⟨r2,rfl,l2,h2⟩,rfl⟩:=h
 obtain ⟨a,rfl,ha⟩:=yGB r1 (fun x hx=>⟨(h1 x hx).1,by simp only [HasF];exact (h1 x hx).2⟩)
 obtain ⟨b,rfl,hb⟩:=yGB r2 (fun x hx=>⟨(h2 x hx).1,by simp only [HasF];exact (h2 x hx).2⟩)
 rw [ybV] at l1 l2
 exact ⟨⟨n,a,b⟩,rfl,⟨yKe hn,ha,hb⟩,l1,l2⟩
theorem yPr {x:PV} {l:List DS} (h:x.isAgg=(DS.a l).isA):x=.agg x.cells:=by
 cases x <;> first | rfl | cases h
theorem yMP:∀ (rows:List PV),(∀ x∈rows,x.isAgg=dsC.isA∧HasF dsC x.cells)→∃ l:List Ck,rows=cks l∧∀ c∈l,c.i64
 | [],_=>⟨[],rfl,by simp⟩
 | x::r,h=>by
  obtain ⟨l,e,hl⟩:=yMP r (fun y hy=>h y (qAf _ hy))
  obtain ⟨h1,h2⟩:=h x (qAg ..)
  obtain ⟨k,e2,hk,_⟩:=F_c h2
  have ex:x=encC k:=by rw [yPr h1,e2];rfl
  refine ⟨k::l,by rw [ex,e];rfl,?_⟩
  intro m hm
  rcases qAk.1 hm with rfl | hm
  ·exact hk
  ·exact hl m hm
theorem yPY {c:List PV} (h:HasF (.s dsC) c):∃ l:List Ck,c=[.data (cks l)]∧l.length≤9223372036854775807∧∀ k∈l,k.i64:=by
 simp only [HasF] at h
 obtain ⟨rows,rfl,hl,hr⟩:=h
 obtain ⟨l,rfl,hi⟩:=yMP rows hr
 rw [ybC] at hl
 exact ⟨l,rfl,hl,hi⟩
theorem yLu {x y:PV} (h:x.isAgg=false) (e:x.cells=[y]):x=y:=by
 cases x <;> first | (simp only [PV.cells,qA1,and_true] at e;exact e) | cases h
theorem yPZ {az:List PV} (h:ywb [.s dsC] az):∃ (l:List Ck),az=[.data (cks l)]∧l.length≤9223372036854775807∧∀ k∈l,k.i64:=by
 simp only [ywb] at h
 obtain ⟨x,r,rfl,x1,x2,rfl⟩:=h
 obtain ⟨l,e1,hl,hi⟩:=yPY x2
 rw [yLu x1 e1]
 exact ⟨l,rfl,hl,hi⟩
section
variable {l:List Ck}
def nts (r:List Nat):List PV:=ints (r.map fun n:Nat=>(n:Int))
theorem yKf (r:List Nat):(nts r).length=r.length:=by unfold nts;rw [ybV,qAq]
theorem yPs {r:List Nat} {i:Nat} (h:i<r.length):List.getD (nts r) i .nils=.int .i64 (r.getD i 0):=by
 unfold nts
 rw [yGy (by rw [qAq];exact h)]
 rw [qAa,qA9,qAc h,qAa,qAc h]
 rfl
end
end Go.Pf.Vc
namespace Go.Pf.Vc
abbrev RS:Type:=Rat×Rat
def inS (s:RS) (p:Rat):Prop:=s.1≤p∧p<s.2
def memP (l:List RS) (p:Rat):Prop:=∃ s∈l,inS s p
def yfd:List RS→Prop
 | []=>True
 | s::r=>s.1<s.2∧(∀ t∈r,s.2<t.1)∧yfd r
theorem yjh {p:Rat}:¬memP [] p:=fun ⟨s,h,_⟩=>by cases h
theorem ybW {s:RS} {r:List RS} {p:Rat}:memP (s::r) p↔inS s p∨memP r p:=by
 constructor
 ·rintro ⟨t,h,hp⟩
  rcases qAk.1 h with rfl | h
  ·exact .inl hp
  ·exact .inr ⟨t,h,hp⟩
 ·rintro (h | ⟨t,h,hp⟩)
  ·exact ⟨s,qAg,h⟩
  ·exact ⟨t,qAf _ h,hp⟩
theorem yES {s:RS} {r:List RS} (h:yfd (s::r)) {p:Rat} (hp:memP (s::r) p):s.1≤p:=by
 obtain ⟨h1,h2,_⟩:=h
 rcases ybW.1 hp with h | ⟨t,h,hp,_⟩
 ·exact h.1
 ·have:=h2 t h
  grind
theorem yvI {s:RS} {r:List RS} (h:yfd (s::r)) {p:Rat} (hp:memP r p):s.2<p:=by
 obtain ⟨t,ht,h1,_⟩:=hp
 have:=h.2.1 t ht
 grind
theorem ypY {s:RS} {r:List RS} (h:yfd (s::r)):memP (s::r) s.1:=ybW.2 (.inl ⟨qAr,h.1⟩)
theorem ye4:∀ (a b:List RS),yfd a→yfd b→(∀ p,memP a p↔memP b p)→a=b
 | [],[],_,_,_=>rfl
 | [],t::b,_,hb,h=>(yjh ((h t.1).2 (ypY hb))).elim
 | s::a,[],ha,_,h=>(yjh ((h s.1).1 (ypY ha))).elim
 | s::a,t::b,ha,hb,h=>by
  have e1:s.1=t.1:=by
   have h1:=yES hb ((h s.1).1 (ypY ha))
   have h2:=yES ha ((h t.1).2 (ypY hb))
   grind
  have key:∀ (s t:RS) (a b:List RS),yfd (s::a)→yfd (t::b)→s.1=t.1→(∀ p,memP (s::a) p↔memP (t::b) p)→¬s.2<t.2:=by
   intro s t a b ha hb e h hlt
   have h1:=(h s.2).2 (ybW.2 (.inl ⟨by have:=ha.1;grind,hlt⟩))
   rcases ybW.1 h1 with h2 | h2
   ·have:=h2.2;grind
   ·have:=yvI ha h2;grind
  have e2:s.2=t.2:=by
   have h1:=key s t a b ha hb e1 h
   have h2:=key t s b a hb ha e1.symm fun p=>(h p).symm
   grind
  have e:s=t:=Prod.ext e1 e2
  subst e
  have hab:a=b:=by
   refine ye4 a b ha.2.2 hb.2.2 fun p=>⟨fun hp=>?_,fun hp=>?_⟩
   ·have h1:=yvI ha hp
    rcases ybW.1 ((h p).1 (ybW.2 (.inr hp))) with h2 | h2
    ·have:=h2.2;grind
    ·exact h2
   ·have h1:=yvI hb hp
    rcases ybW.1 ((h p).2 (ybW.2 (.inr hp))) with h2 | h2
    ·have:=h2.2;grind
    ·exact h2
  rw [hab]
def maxR (a b:Rat):Rat:=if a<b then b else a
def mrg:List RS→RS→List RS
 | [],c=>[c]
 | s::r,c=>if c.2<s.1 then c::mrg r s else mrg r (c.1,maxR c.2 s.2)
def yvJ:List RS→List RS
 | []=>[]
 | s::r=>mrg r s
def yn8:List RS→Prop
 | []=>True
 | s::r=>(∀ t∈r,s.1≤t.1)∧yn8 r
theorem yJg:∀ (r:List RS) (c:RS),c.1<c.2→(∀ s∈r,s.1<s.2)→(∀ s∈r,c.1≤s.1)→yn8 r→yfd (mrg r c)∧(∀ t∈mrg r c,c.1≤t.1)∧∀ p,memP (mrg r c) p↔memP (c::r) p
 | [],c,hc,_,_,_=>by
  unfold mrg
  refine ⟨⟨hc,by simp,trivial⟩,fun t h=>?_,fun p=>Iff.rfl⟩
  rw [qAv] at h
  rw [h];exact qAr
 | s::r,c,hc,hv,hl,hs=>by
  unfold mrg
  have hsv:=hv s qAg
  have hsl:=hl s qAg
  by_cases h:c.2<s.1
  ·rw [if_pos h]
   obtain ⟨i1,i2,i3⟩:=yJg r s hsv (fun t ht=>hv t (qAf _ ht)) hs.1 hs.2
   refine ⟨⟨hc,fun t ht=>by have:=i2 t ht;grind,i1⟩,fun t ht=>?_,fun p=>?_⟩
   ·rcases qAk.1 ht with rfl | ht
    ·exact qAr
    ·have:=i2 t ht;grind
   ·rw [ybW,i3 p,ybW,ybW,ybW]
  ·rw [if_neg h]
   have hm:c.2≤maxR c.2 s.2∧s.2≤maxR c.2 s.2∧(maxR c.2 s.2=c.2∨maxR c.2 s.2=s.2):=by unfold maxR;split <;> grind
   obtain ⟨i1,i2,i3⟩:=yJg r (c.1,maxR c.2 s.2) (by show c.1<maxR c.2 s.2;grind) (fun t ht=>hv t (qAf _ ht)) (fun t ht=>hl t (qAf _ ht)) hs.2
   refine ⟨i1,i2,fun p=>?_⟩
   rw [i3 p,ybW,ybW,ybW]
   have hin:inS (c.1,maxR c.2 s.2) p↔inS c p∨inS s p:=by
    unfold inS
    constructor
    ·rintro ⟨h1,h2⟩
     have h2:p<maxR c.2 s.2:=h2
     have h1:c.1≤p:=h1
     by_cases h3:p<c.2
     ·exact .inl ⟨h1,h3⟩
     ·exact .inr ⟨by grind,by grind⟩
    ·rintro (⟨h1,h2⟩ | ⟨h1,h2⟩)
     ·exact ⟨h1,by show p<maxR c.2 s.2;grind⟩
     ·exact ⟨by show c.1≤p;grind,by show p<maxR c.2 s.2;grind⟩
   rw [hin,or_assoc]
theorem yET {l:List RS} (hv:∀ s∈l,s.1<s.2) (hs:yn8 l):yfd (yvJ l)∧∀ p,memP (yvJ l) p↔memP l p:=by
 cases l with
 | nil=>exact ⟨trivial,fun p=>Iff.rfl⟩
 | cons s r =>
  obtain ⟨i1,_,i3⟩:=yJg r s (hv s qAg) (fun t ht=>hv t (qAf _ ht)) hs.1 hs.2
  exact ⟨i1,i3⟩
def ysr:List Rat→Prop
 | []=>True
 | x::r=>(∀ y∈r,x<y)∧ysr r
def jn (f:Rat→Bool):List Rat→Option RS→List RS
 | x::y::r,none=>if f x then jn f (y::r) (some (x,y)) else jn f (y::r) none
 | x::y::r,some c=>if f x then (if c.2=x then jn f (y::r) (some (c.1,y)) else c::jn f (y::r) (some (x,y))) else jn f (y::r) (some c)
 | _,none=>[]
 | _,some c=>[c]
def segP (f:Rat→Bool):List Rat→Rat→Prop
 | x::y::r,p=>(f x=true∧x≤p∧p<y)∨segP f (y::r) p
 | _,_=>False
def curP:Option RS→Rat→Prop
 | none,_=>False
 | some c,p=>inS c p
def yP0 (pts:List Rat):Option RS→Prop
 | none=>True
 | some c=>c.1<c.2∧∀ x∈pts,c.2≤x
def yP1 (pts:List Rat):Option RS→Rat→Prop
 | none,q=>∃ x∈pts,x≤q
 | some c,q=>c.1≤q
theorem yEU (f:Rat→Bool):∀ (pts:List Rat) (cur:Option RS),ysr pts→yP0 pts cur →
  yfd (jn f pts cur)∧(∀ t∈jn f pts cur,yP1 pts cur t.1)∧∀ p,memP (jn f pts cur) p↔(curP cur p∨segP f pts p)
 | [],none,_,_=>by
  unfold jn
  refine ⟨trivial,fun t h=>(by cases h),fun p=>?_⟩
  simp only [curP,segP]
  exact ⟨fun h=>(yjh h).elim,fun h=>h.elim (fun h=>h.elim) (fun h=>h.elim)⟩
 | [],some c,_,hc=>by
  unfold jn
  refine ⟨⟨hc.1,by simp,trivial⟩,fun t h=>?_,fun p=>?_⟩
  ·rw [qAv] at h;rw [h];exact qAr
  ·rw [ybW]
   simp only [curP,segP]
   exact ⟨fun h=>h.elim .inl (fun h=>(yjh h).elim),fun h=>h.elim .inl (fun h=>h.elim)⟩
 | [x],none,_,_=>by
  unfold jn
  refine ⟨trivial,fun t h=>(by cases h),fun p=>?_⟩
  simp only [curP,segP]
  exact ⟨fun h=>(yjh h).elim,fun h=>h.elim (fun h=>h.elim) (fun h=>h.elim)⟩
 | [x],some c,_,hc=>by
  unfold jn
  refine ⟨⟨hc.1,by simp,trivial⟩,fun t h=>?_,fun p=>?_⟩
  ·rw [qAv] at h;rw [h];exact qAr
  ·rw [ybW]
   simp only [curP,segP]
   exact ⟨fun h=>h.elim .inl (fun h=>(yjh h).elim),fun h=>h.elim .inl (fun h=>h.elim)⟩
 | x::y::r,none,hi,_=>by
  have hxy:=hi.1 y qAg
  unfold jn
  cases hf:f x with
  | true =>
   rw [if_pos rfl]
   obtain ⟨i1,i2,i3⟩:=yEU f (y::r) (some (x,y)) hi.2 ⟨hxy,fun z hz=>by
    rcases qAk.1 hz with rfl | hz
    ·exact qAr
    ·have:=hi.2.1 z hz;show y≤z;grind⟩
   refine ⟨i1,fun t ht=>⟨x,qAg,i2 t ht⟩,fun p=>?_⟩
   rw [i3 p]
   simp only [curP,segP,inS,hf,true_and,false_or]
  | false =>
   rw [if_neg (by decide)]
   obtain ⟨i1,i2,i3⟩:=yEU f (y::r) none hi.2 trivial
   refine ⟨i1,fun t ht=>?_,fun p=>?_⟩
   ·obtain ⟨z,hz,hzt⟩:=i2 t ht
    exact ⟨z,qAf _ hz,hzt⟩
   ·rw [i3 p]
    simp [curP,segP,hf]
 | x::y::r,some c,hi,hc=>by
  have hxy:=hi.1 y qAg
  have hcx:=hc.2 x qAg
  have hyr:∀ z∈y::r,y≤z:=fun z hz=>by
   rcases qAk.1 hz with rfl | hz
   ·exact qAr
   ·have:=hi.2.1 z hz;grind
  unfold jn
  cases hf:f x with
  | true =>
   rw [if_pos rfl]
   by_cases he:c.2=x
   ·rw [if_pos he]
    obtain ⟨i1,i2,i3⟩:=yEU f (y::r) (some (c.1,y)) hi.2 ⟨by have:=hc.1;show c.1<y;grind,hyr⟩
    refine ⟨i1,i2,fun p=>?_⟩
    rw [i3 p]
    simp only [curP,segP,inS,hf,true_and]
    have:=hc.1
    constructor
    ·rintro (⟨h1,h2⟩ | h)
     ·by_cases h3:p<c.2
      ·exact .inl ⟨h1,h3⟩
      ·exact .inr (.inl ⟨by grind,h2⟩)
     ·exact .inr (.inr h)
    ·rintro (⟨h1,h2⟩ | ⟨h1,h2⟩ | h)
     ·exact .inl ⟨h1,by grind⟩
     ·exact .inl ⟨by grind,h2⟩
     ·exact .inr h
   ·rw [if_neg he]
    obtain ⟨i1,i2,i3⟩:=yEU f (y::r) (some (x,y)) hi.2 ⟨hxy,hyr⟩
    refine ⟨⟨hc.1,fun t ht=>?_,i1⟩,fun t ht=>?_,fun p=>?_⟩
    ·have:x≤t.1:=i2 t ht
     grind
    ·rcases qAk.1 ht with rfl | ht
     ·exact qAr
     ·have:x≤t.1:=i2 t ht
      have:=hc.1
      show c.1≤t.1
      grind
    ·rw [ybW,i3 p]
     simp only [curP,segP,inS,hf,true_and]
  | false =>
   rw [if_neg (by decide)]
   obtain ⟨i1,i2,i3⟩:=yEU f (y::r) (some c) hi.2 ⟨hc.1,fun z hz=>by have:=hyr z hz;grind⟩
   refine ⟨i1,i2,fun p=>?_⟩
   rw [i3 p]
   simp [curP,segP,hf]
def minR (a b:Rat):Rat:=if a<b then a else b
theorem ygx (a b:Rat):a≤maxR a b∧b≤maxR a b∧(maxR a b=a∨maxR a b=b):=by unfold maxR;split <;> grind
theorem yhT (a b:Rat):minR a b≤a∧minR a b≤b∧(minR a b=a∨minR a b=b):=by unfold minR;split <;> grind
def yMQ (full:List Rat):List Rat→Prop
 | x::y::r=>(∀ z∈full,z≤x∨y≤z)∧yMQ full (y::r)
 | _=>True
theorem yMR (full:List Rat):∀ (pts:List Rat),ysr pts→(∀ z∈full,z∈pts∨∀ w∈pts,z<w)→yMQ full pts
 | [],_,_=>trivial
 | [_],_,_=>trivial
 | x::y::r,hi,h=>by
  refine ⟨fun z hz=>?_,yMR full (y::r) hi.2 fun z hz=>?_⟩
  ·rcases h z hz with k | k
   ·rcases qAk.1 k with rfl | k
    ·exact .inl qAr
    ·rcases qAk.1 k with rfl | k
     ·exact .inr qAr
     ·have:=hi.2.1 z k
      exact .inr (by grind)
   ·have:=k x qAg
    exact .inl (by grind)
  ·rcases h z hz with k | k
   ·rcases qAk.1 k with rfl | k
    ·exact .inr fun w hw=>hi.1 w hw
    ·exact .inl k
   ·exact .inr fun w hw=>k w (qAf _ hw)
def yss (pts:List Rat) (a:List RS):Prop:=∀ s∈a,s.1∈pts∧s.2∈pts
theorem yy0 {full:List Rat} {a:List RS} (h:yss full a) {x y p:Rat} (hg:∀ z∈full,z≤x∨y≤z) (h1:x≤p) (h2:p<y):memP a p↔memP a x:=by
 constructor
 ·rintro ⟨s,hs,k1,k2⟩
  obtain ⟨e1,e2⟩:=h s hs
  have:=hg _ e1
  exact ⟨s,hs,by grind,by grind⟩
 ·rintro ⟨s,hs,k1,k2⟩
  obtain ⟨e1,e2⟩:=h s hs
  have:=hg _ e2
  exact ⟨s,hs,by grind,by grind⟩
def yJh (pts:List Rat) (p:Rat):Prop:=(∃ x∈pts,x≤p)∧∃ y∈pts,p<y
theorem yGC {pts:List Rat} {a:List RS} (h:yss pts a) {p:Rat} (hp:memP a p):yJh pts p:=by
 obtain ⟨s,hs,k1,k2⟩:=hp
 obtain ⟨e1,e2⟩:=h s hs
 exact ⟨⟨_,e1,k1⟩,⟨_,e2,k2⟩⟩
theorem yKg {full:List Rat} {f:Rat→Bool} {P:Rat→Prop} (hc:∀ x y p,(∀ z∈full,z≤x∨y≤z)→x≤p→p<y→(P p↔P x)):∀ (pts:List Rat),ysr pts→yMQ full pts→(∀ x∈pts,f x=true↔P x)→∀ p,segP f pts p↔(P p∧yJh pts p)
 | [],_,_,_,p=>by
  simp only [segP]
  exact ⟨fun h=>h.elim,fun h=>by obtain ⟨x,hx,_⟩:=h.2.1;cases hx⟩
 | [x],_,_,_,p=>by
  simp only [segP]
  refine ⟨fun h=>h.elim,fun h=>?_⟩
  obtain ⟨u,hu,k1⟩:=h.2.1
  obtain ⟨v,hv,k2⟩:=h.2.2
  rw [qAv] at hu hv
  grind
 | x::y::r,hi,hg,hf,p=>by
  have ih:=yKg hc (y::r) hi.2 hg.2 (fun z hz=>hf z (qAf _ hz)) p
  have hxy:=hi.1 y qAg
  simp only [segP]
  rw [ih,hf x qAg]
  constructor
  ·rintro (⟨h1,h2,h3⟩ | ⟨h1,⟨u,hu,k1⟩,⟨v,hv,k2⟩⟩)
   ·exact ⟨(hc x y p hg.1 h2 h3).2 h1,⟨x,qAg,h2⟩,⟨y,qAf _ qAg,h3⟩⟩
   ·exact ⟨h1,⟨u,qAf _ hu,k1⟩,⟨v,qAf _ hv,k2⟩⟩
  ·rintro ⟨h1,⟨u,hu,k1⟩,⟨v,hv,k2⟩⟩
   have hxp:x≤p:=by
    rcases qAk.1 hu with rfl | hu
    ·exact k1
    ·have:=hi.1 u hu;grind
   by_cases hpy:p<y
   ·exact .inl ⟨(hc x y p hg.1 hxp hpy).1 h1,hxp,hpy⟩
   ·refine .inr ⟨h1,⟨y,qAg,by grind⟩,?_⟩
    rcases qAk.1 hv with rfl | hv
    ·exact absurd k2 (by grind)
    ·exact ⟨v,hv,k2⟩
theorem yMS {pts:List Rat} {f:Rat→Bool} {P:Rat→Prop} (hi:ysr pts) (hc:∀ x y p,(∀ z∈pts,z≤x∨y≤z)→x≤p→p<y→(P p↔P x)) (hf:∀ x∈pts,f x=true↔P x) (hh:∀ p,P p→yJh pts p) :
  yfd (jn f pts none)∧∀ p,memP (jn f pts none) p↔P p:=by
 obtain ⟨i1,_,i3⟩:=yEU f pts none hi trivial
 refine ⟨i1,fun p=>?_⟩
 rw [i3 p,yKg hc pts hi (yMR pts pts hi fun z hz=>.inl hz) hf p]
 simp only [curP,false_or]
 exact ⟨fun h=>h.1,fun h=>⟨h,hh p h⟩⟩
def insR (p:Rat):List Rat→List Rat
 | []=>[p]
 | x::r=>if p=x then x::r else if p<x then p::x::r else x::insR p r
theorem yms {p z:Rat}:∀ (l:List Rat),z∈insR p l↔(z=p∨z∈l)
 | []=>by unfold insR;simp
 | x::r=>by
  unfold insR
  by_cases h:p=x
  ·rw [if_pos h]
   subst h
   simp
  ·rw [if_neg h]
   by_cases h2:p<x
   ·rw [if_pos h2];simp
   ·rw [if_neg h2,qAk,yms r,qAk]
    constructor
    ·rintro (h | h | h)
     ·exact .inr (.inl h)
     ·exact .inl h
     ·exact .inr (.inr h)
    ·rintro (h | h | h)
     ·exact .inr (.inl h)
     ·exact .inl h
     ·exact .inr (.inr h)
theorem yy1 {p:Rat}:∀ (l:List Rat),ysr l→ysr (insR p l)
 | [],_=>⟨by simp,trivial⟩
 | x::r,h=>by
  unfold insR
  by_cases h1:p=x
  ·rw [if_pos h1];exact h
  ·rw [if_neg h1]
   by_cases h2:p<x
   ·rw [if_pos h2]
    refine ⟨fun y hy=>?_,h⟩
    rcases qAk.1 hy with rfl | hy
    ·exact h2
    ·have:=h.1 y hy;grind
   ·rw [if_neg h2]
    refine ⟨fun y hy=>?_,yy1 r h.2⟩
    rcases (yms r).1 hy with rfl | hy
    ·grind
    ·exact h.1 y hy
def yfe:List RS→List Rat→List Rat
 | [],out=>out
 | s::a,out=>yfe a (insR s.2 (insR s.1 out))
theorem ymt:∀ (a:List RS) (out:List Rat),ysr out→ysr (yfe a out)
 | [],_,h=>h
 | _::a,_,h=>ymt a _ (yy1 _ (yy1 _ h))
theorem yia:∀ (a:List RS) (out:List Rat) (z:Rat),z∈out→z∈yfe a out
 | [],_,_,h=>h
 | _::a,_,z,h=>yia a _ z ((yms _).2 (.inr ((yms _).2 (.inr h))))
theorem yj8:∀ (a:List RS) (out:List Rat),yss (yfe a out) a
 | [],_=>fun s h=>by cases h
 | t::a,out=>by
  intro s hs
  rcases qAk.1 hs with rfl | hs
  ·exact ⟨yia a _ _ ((yms _).2 (.inr ((yms _).2 (.inl rfl)))),yia a _ _ ((yms _).2 (.inl rfl))⟩
  ·exact yj8 a _ s hs
def yMT (f:Rat→Bool) (a b:List RS):List RS:=jn f (yfe b (yfe a [])) none
theorem yxu {a b:List RS} {f:Rat→Bool} {c:Prop→Prop→Prop} (hf:∀ x,f x=true↔c (memP a x) (memP b x)) (h0:¬c False False) :
  yfd (yMT f a b)∧∀ p,memP (yMT f a b) p↔c (memP a p) (memP b p):=by
 have ea:yss (yfe b (yfe a [])) a:=fun s hs=>⟨yia b _ _ (yj8 a [] s hs).1,yia b _ _ (yj8 a [] s hs).2⟩
 have eb:yss (yfe b (yfe a [])) b:=yj8 b _
 refine yMS (ymt b _ (ymt a _ trivial)) (fun x y p hg h1 h2=>?_) (fun x _=>hf x) (fun p hp=>?_)
 ·rw [yy0 ea hg h1 h2,yy0 eb hg h1 h2]
 ·by_cases h1:memP a p
  ·exact yGC ea h1
  ·by_cases h2:memP b p
   ·exact yGC eb h2
   ·rw [eq_false h1,eq_false h2] at hp
    exact (h0 hp).elim
end Go.Pf.Vc
namespace Go.Pf.Vc
open Go Go.Pf
def Sp.rs (s:Sp):RS:=(rt s.a s.b,rt s.c s.d)
def Sp.ok (s:Sp):Prop:=RV s.a s.b∧RV s.c s.d∧rt s.a s.b<rt s.c s.d
instance (s:Sp):Decidable s.ok:=by unfold Sp.ok;infer_instance
def Sp.i64 (s:Sp):Prop:=I64 s.a∧I64 s.b∧I64 s.c∧I64 s.d
theorem yxv {q r:Rat} (hq:small q) (hr:small r) (K:Int→Prop):ya6 q.num q.den r.num r.den K=K (cmpQ q r):=by
 unfold ya6 ylO
 rw [yxq hq hr]
theorem yHX {a b c d:Int} (h:RV a b) (k:RV c d) (K:Int→Prop):ya6 a b c d K=K (cmpQ (rt a b) (rt c d)):=by
 obtain ⟨h1,h2,h3⟩:=ymq h
 obtain ⟨k1,k2,k3⟩:=ymq k
 have:=yxv h1 k1 K
 rw [h2,h3,k2,k3] at this
 exact this
theorem yHY (q r:Rat):decide (cmpQ q r<0)=decide (q<r):=by
 unfold cmpQ
 by_cases h:q<r
 ·rw [if_pos h];simp [h]
 ·rw [if_neg h]
  split <;> simp [h]
theorem yGD (q r:Rat):decide (cmpQ q r≤0)=!decide (r<q):=by
 unfold cmpQ
 by_cases h:q<r
 ·have:¬r<q:=by grind
  rw [if_pos h];simp [this]
 ·rw [if_neg h]
  by_cases h2:r<q
  ·rw [if_pos h2];simp [h2]
  ·rw [if_neg h2];simp [h2]
theorem yMU {s:Sp} (h:s.i64) (K:Bool→Prop):yc1 s.a s.b s.c s.d K=K (decide s.ok):=by
 refine yz6 _ _ _ _ _ (fun K k=>?_) K
 unfold yc1 ylN
 refine yMw h.1 h.2.1 h.2.2.1 h.2.2.2 ?_
 by_cases h1:RV s.a s.b
 ·by_cases h2:RV s.c s.d
  ·have e:chk2 s.a s.b s.c s.d=0:=yeL.2 ⟨h1,h2⟩
   obtain ⟨_,n1,n2⟩:=ymq h1
   obtain ⟨_,n3,n4⟩:=ymq h2
   have e2:=yJ4 (rt s.a s.b) (rt s.c s.d)
   rw [n1,n2,n3,n4] at e2
   rw [e,if_pos rfl,ceT rfl,e2,yHY]
   have e3:decide s.ok=decide (rt s.a s.b<rt s.c s.d):=by rw [decide_eq_decide];exact ⟨fun k=>k.2.2,fun k=>⟨h1,h2,k⟩⟩
   rw [← e3];exact k
  ·have e:chk2 s.a s.b s.c s.d≠0:=fun e=>h2 (yeL.1 e).2
   rw [ceF e]
   have e3:decide s.ok=false:=decide_eq_false fun k=>h2 k.2.1
   rw [← e3];exact k
 ·have e:chk2 s.a s.b s.c s.d≠0:=fun e=>h1 (yeL.1 e).1
  rw [ceF e]
  have e3:decide s.ok=false:=decide_eq_false fun k=>h1 k.1
  rw [← e3];exact k
theorem asSp {s:Sp} {P:Prop}:asr (conf z4 (encS s)) P=P:=rfl
def yy2 (l:List Sp):Bool:=l.all fun s=>decide s.ok
theorem yMV {l:List Sp} (h64:∀ s∈l,s.i64) (hl:l.length<4611686018427387904) :
  ∀ x0 x1,∀ (r i n:Nat),i+r=l.length→r<n→yeI yc1 x0 x1 n (yfc l) l.length i=if yy2 (l.drop i) then x1 (yfc l) l.length l.length false else x0 8:=by
 intro x0 x1 r
 induction r with
 | zero =>
  intro i n hi hn
  obtain ⟨n,rfl⟩:∃ m,n=m+1:=⟨n-1,by omega⟩
  obtain rfl:i=l.length:=by omega
  rw [yeI,cbF (by omega),List.drop_length]
  rfl
 | succ r ih =>
  intro i n hi hn
  obtain ⟨n,rfl⟩:∃ m,n=m+1:=⟨n-1,by omega⟩
  have hil:i<l.length:=by omega
  have e1:=wib (n:=(i:Int)+1) (by omega) (by omega)
  have hm:l.getD i default∈l:=by
   rw [qAa,qAc hil]
   exact qB5 hil
  have hd:yy2 (l.drop i)=(decide (l.getD i default).ok&&yy2 (l.drop (i+1))):=by
   rw [yde default hil];rfl
  rw [yeI,cbT (by omega),asT (by omega),yim,asT (by omega),qAe,ysq hil,asSp,e1,ycP]
  change yc1 (l.getD i default).a (l.getD i default).b (l.getD i default).c (l.getD i default).d _=_
  rw [yMU (h64 _ hm),hd]
  cases hv:decide (l.getD i default).ok with
  | true =>
   rw [show (!true)=false from rfl,yaf,qAz]
   exact ih (i+1) n (by omega) (by omega)
  | false =>
   rw [show (!false)=true from rfl,yau,qBb]
   rfl
def allE (l:List Sp):Int:=if l.length>60 then 4 else if yy2 l then 0 else 8
theorem yMW {l:List Sp} (h64:∀ s∈l,s.i64) (hl:l.length<4611686018427387904) (K:Int→Prop):yei (yfc l) K=K (allE l):=by
 refine yDW _ _ (fun K k=>?_) K
 unfold yei ypv
 unfold allE at k
 rw [yim]
 by_cases h:l.length>60
 ·rw [cbT (by omega)];rw [if_pos h] at k;exact k
 ·rw [cbF (by omega)]
  rw [if_neg h] at k
  refine ⟨l.length+1,?_⟩
  refine (yMV h64 hl _ _ l.length 0 (l.length+1) (by omega) (by omega)).mpr ?_
  rw [qBa]
  split
  ·rename_i h2;rw [if_pos h2] at k;exact k
  ·rename_i h2;rw [if_neg h2] at k;exact k
def gapB:Sp→List Sp→Bool
 | _,[]=>true
 | s,t::r=>decide (s.rs.2<t.rs.1)&&gapB t r
theorem yJi {l:List Sp} (hok:∀ s∈l,s.ok) (hl:l.length<4611686018427387904) :
  ∀ x0 x1,∀ (r i n:Nat),i+1+r=l.length→r<n→yc4 yei ya6 x0 x1 n (yfc l) ((i+1:Nat):Int)=if gapB (l.getD i default) (l.drop (i+1)) then x1 (yfc l) l.length false else x0 8:=by
 intro x0 x1 r
 induction r with
 | zero =>
  intro i n hi hn
  obtain ⟨n,rfl⟩:∃ m,n=m+1:=⟨n-1,by omega⟩
  rw [yc4,yim,cbF (by omega),List.drop_eq_nil_of_le (by omega),show i+1=l.length by omega]
  rfl
 | succ r ih =>
  intro i n hi hn
  obtain ⟨n,rfl⟩:∃ m,n=m+1:=⟨n-1,by omega⟩
  have e0:=wib (n:=((i+1:Nat):Int)-1) (by omega) (by omega)
  have e2:((i+1:Nat):Int)-1=(i:Int):=by omega
  have e1:=wib (n:=((i+1:Nat):Int)+1) (by omega) (by omega)
  have hm1:l.getD i default∈l:=by
   rw [qAa,qAc (by omega)]
   exact qB5 (by omega)
  have hm2:l.getD (i+1) default∈l:=by
   rw [qAa,qAc (by omega)]
   exact qB5 (by omega)
  rw [yc4,yim,cbT (by omega),e0,e2,asT (by omega),asT (by omega),qAe,ysq (by omega),asSp,asT (by omega),asT (by omega),qAe,ysq (by omega),asSp]
  change ya6 (l.getD i default).c (l.getD i default).d (l.getD (i+1) default).a (l.getD (i+1) default).b _=_
  rw [yHX (hok _ hm1).2.1 (hok _ hm2).1,e1,ycP,yde default (by omega)]
  unfold gapB
  have e3:decide (cmpQ (rt (l.getD i default).c (l.getD i default).d) (rt (l.getD (i+1) default).a (l.getD (i+1) default).b)≥0)=!decide ((l.getD i default).rs.2<(l.getD (i+1) default).rs.1):=yN9 _ _
  rw [e3]
  cases decide ((l.getD i default).rs.2<(l.getD (i+1) default).rs.1) with
  | true =>
   rw [show (!true)=false from rfl,yaf,qAz]
   exact ih (i+1) n (by omega) (by omega)
  | false =>
   rw [show (!false)=true from rfl,yau,qBb]
   rfl
def rsL (l:List Sp):List RS:=l.map Sp.rs
def yGE (l:List Sp):Int:=if allE l=0 then (match l with | []=>0 | s::r=>if gapB s r then 0 else 8) else allE l
theorem yEV {l:List Sp} (h:allE l=0):l.length≤60∧∀ s∈l,s.ok:=by
 unfold allE at h
 split at h
 ·cases h
 ·split at h
  ·rename_i h1 h2
   exact ⟨by omega,fun s hs=>by simpa using qCa.1 h2 s hs⟩
  ·cases h
theorem yLv {l:List Sp} (h64:∀ s∈l,s.i64) (hl:l.length<4611686018427387904) (K:Int→Prop):ybj (yfc l) K=K (yGE l):=by
 refine yz7 _ _ (fun K k=>?_) K
 unfold ybj ylQ
 unfold yGE at k
 rw [yMW h64 hl]
 by_cases h:allE l=0
 ·rw [if_pos h] at k
  rw [cnF h]
  obtain ⟨h1,h2⟩:=yEV h
  cases l with
  | nil =>
   refine ⟨1,?_⟩
   rw [yc4,yim,cbF (by simp)]
   exact k
  | cons s r =>
   refine ⟨r.length+1,?_⟩
   refine (yJi h2 hl _ _ r.length 0 (r.length+1) (by simp;omega) (by omega)).mpr ?_
   dsimp only at k
   show if gapB s r then _ else _
   split
   ·rename_i hg;rw [if_pos hg] at k;exact k
   ·rename_i hg;rw [if_neg hg] at k;exact k
 ·rw [if_neg h] at k
  rw [cnT h];exact k
theorem yEW:∀ (r:List Sp) (s:Sp),s.ok→(∀ t∈r,t.ok)→(gapB s r=true↔yfd (rsL (s::r)))
 | [],s,hs,_=>⟨fun _=>⟨hs.2.2,by simp,trivial⟩,fun _=>rfl⟩
 | t::r,s,hs,h=>by
  have ht:=h t qAg
  have ih:=yEW r t ht fun u hu=>h u (qAf _ hu)
  unfold gapB
  rw [qAb,decide_eq_true_eq,ih]
  constructor
  ·rintro ⟨h1,h2⟩
   refine ⟨hs.2.2,fun u hu=>?_,h2⟩
   rcases qAk.1 hu with rfl | hu
   ·exact h1
   ·have:=h2.2.1 u hu
    have:=h2.1
    show s.rs.2<u.1
    grind
  ·rintro ⟨_,h2,h3⟩
   exact ⟨h2 _ qAg,h3⟩
theorem yLw {q r:Rat} (hq:small q) (hr:small r):small (maxR q r):=by unfold maxR;split <;> assumption
end Go.Pf.Vc
namespace Go.Pf.Vc
open Go Go.Pf Go.Sort
theorem yAK {n d:Int}:rvB n d=true↔RV n d:=by
 unfold rvB RV
 simp only [qAb,decide_eq_true_eq]
theorem yOa {a b c d:Int} (h:RV a b) (k:RV c d):cmpI a b c d<0↔rt a b<rt c d:=by
 obtain ⟨_,h2,h3⟩:=ymq h
 obtain ⟨_,k2,k3⟩:=ymq k
 rw [Rat.lt_iff,h2,h3,k2,k3]
 unfold cmpI
 by_cases h:a*d<c*b
 ·rw [if_pos h];simp [h]
 ·rw [if_neg h]
  split <;> simp [h]
def yMX:PV→Rat
 | .agg (.int _ a::.int _ b::_)=>rt a b
 | _=>0
theorem yxw {x y:PV} (hx:yum x=true) (hy:yum y=true):yon x y<0↔yMX x<yMX y:=by
 unfold yum at hx hy
 split at hx
 ·split at hy
  ·simp only [yon,yMX]
   exact yOa (yAK.1 hx) (yAK.1 hy)
  ·cases hy
 ·cases hx
theorem ynf {n g:Nat} (x:(ykq n g).s.El):yum x.1=true:=by
 have:=x.2
 simp only [Srt.gd,qAb] at this
 exact this.2
theorem yCO (n g:Nat):SWO (fun x y:(ykq n g).s.El=>decide ((ykq n g).cf x y<0)) where
 irrefl x:=by
  have:=yxw (ynf x) (ynf x)
  show decide (yon x.1 x.1<0)=false
  rw [decide_eq_false_iff_not,this]
  exact Rat.lt_irrefl
 trans x y z h1 h2:=by
  have h1:decide (yon x.1 y.1<0)=true:=h1
  have h2:decide (yon y.1 z.1<0)=true:=h2
  show decide (yon x.1 z.1<0)=true
  rw [decide_eq_true_eq,yxw (ynf _) (ynf _)] at *
  grind
 ntrans x y z h1 h2:=by
  have h1:decide (yon x.1 y.1<0)=false:=h1
  have h2:decide (yon y.1 z.1<0)=false:=h2
  show decide (yon x.1 z.1<0)=false
  rw [decide_eq_false_iff_not,yxw (ynf _) (ynf _)] at *
  grind
theorem ysO {s:Srt}:∀ {l:List PV},(∀ x∈l,s.gd x=true)→∃ d,s.rows? l=some d
 | [],_=>⟨[],rfl⟩
 | x::r,h=>by
  obtain ⟨d,hd⟩:=ysO (s:=s) (l:=r) fun y hy=>h y (qAf _ hy)
  refine ⟨⟨x,h x qAg⟩::d,?_⟩
  simp only [Srt.rows?]
  rw [dif_pos (h x qAg),hd]
theorem RV.i1 {n d:Int} (h:RV n d):I64 n:=by obtain ⟨h1,h2,h3,h4,_⟩:=h;exact ⟨by omega,by omega⟩
theorem RV.i2 {n d:Int} (h:RV n d):I64 d:=by obtain ⟨h1,h2,h3,h4,_⟩:=h;exact ⟨by omega,by omega⟩
theorem Sp.ok.i64 {s:Sp} (h:s.ok):s.i64:=⟨h.1.i1,h.1.i2,h.2.1.i1,h.2.1.i2⟩
theorem yJj (n g:Nat) {s:Sp} (h:s.ok):(ykq n g).s.gd (encS s)=true:=by
 obtain ⟨h1,h2,h3,h4⟩:=h.i64
 have e1:IntKind.i64.min=-9223372036854775808:=by decide
 have e2:IntKind.i64.max=9223372036854775807:=by decide
 simp only [Srt.gd,ykq,okI,encS,okL,yum,qAb,decide_eq_true_eq,e1,e2]
 unfold I64 at h1 h2 h3 h4
 exact ⟨⟨trivial,h1.1,h1.2,trivial,h2.1,h2.2,trivial,h3.1,h3.2,trivial,h4.1,h4.2,trivial⟩,yAK.2 h.1⟩
def decS:PV→Sp
 | .agg [.int _ a,.int _ b,.int _ c,.int _ d]=>⟨a,b,c,d⟩
 | _=>default
theorem yHZ (s:Sp):decS (encS s)=s:=rfl
theorem yEX (n g:Nat) {l:List Sp} (h:∀ s∈l,s.ok):∃ l':List Sp,l'.Perm l∧l'.Pairwise (fun s t=>¬t.rs.1<s.rs.1)∧Srt.sorted (ykq n g).s (ykq n g).srt (yfc l)=yfc l':=by
 obtain ⟨d,hd⟩:=ysO (s:=(ykq n g).s) (l:=yfc l) fun x hx=>by
  obtain ⟨s,hs,rfl⟩:=qBl.1 hx
  exact yJj n g (h s hs)
 obtain ⟨d',h1,h2,h3⟩:=(ykq n g).sorted_is (yCO n g) hd
 have hv:=Srt.rows?_val hd
 have hp:(d'.map (·.1)).Perm (yfc l):=by rw [← hv];exact h1.map _
 have hm:∀ x∈d'.map (·.1),∃ s∈l,encS s=x:=fun x hx=>qBl.1 (hp.mem_iff.1 hx)
 refine ⟨(d'.map (·.1)).map decS,?_,?_,?_⟩
 ·have this:(List.map decS (d'.map (·.1))).Perm (List.map decS (l.map encS)):=hp.map decS
  have e:List.map decS (l.map encS)=l:=by rw [List.map_map,show decS ∘ encS=id from funext yHZ,List.map_id]
  rw [e] at this
  exact this
 ·rw [List.map_map,List.pairwise_map]
  refine h2.imp_of_mem fun {x y} hx hy hxy=>?_
  have hxy:¬yon y.1 x.1<0:=hxy
  rw [yxw (ynf _) (ynf _)] at hxy
  obtain ⟨s,_,es⟩:=hm x.1 (List.mem_map_of_mem hx)
  obtain ⟨t,_,et⟩:=hm y.1 (List.mem_map_of_mem hy)
  show ¬(decS y.1).rs.1<(decS x.1).rs.1
  rw [← es,← et] at hxy ⊢
  exact hxy
 ·rw [h3]
  have key:∀ (xs:List PV),(∀ x∈xs,∃ s∈l,encS s=x)→(xs.map decS).map encS=xs:=by
   intro xs
   induction xs with
   | nil=>intro _;rfl
   | cons x r ih =>
    intro h
    obtain ⟨s,_,es⟩:=h x qAg
    rw [qBs,qBs,ih fun y hy=>h y (qAf _ hy),← es,yHZ]
  exact (key _ hm).symm
end Go.Pf.Vc
namespace Go.Pf.Vc
open Go Go.Pf
def spOf (r:RS):Sp:=⟨r.1.num,r.1.den,r.2.num,r.2.den⟩
def rsp (l:List RS):List PV:=yfc (l.map spOf)
def ycb (r:RS):Prop:=small r.1∧small r.2
theorem ybZ (l:List RS):(rsp l).length=l.length:=by unfold rsp;rw [yim,qAq]
def encR (r:RS):PV:=encS (spOf r)
theorem ypZ {l:List RS} {i:Nat} (h:i<l.length):List.getD (rsp l) i .nils=encR (l.getD i default):=by
 unfold rsp
 rw [ysq (by rw [qAq];exact h)]
 unfold encR
 congr 1
 rw [qAa,qAa,qA9,qAc h]
 rfl
theorem yzI (r:RS):yaa (yab (encR r) 0)=r.1.num:=rfl
theorem yEY (r:RS):yaa (yab (encR r) 1)=r.1.den:=rfl
theorem yzJ (r:RS):yaa (yab (encR r) 2)=r.2.num:=rfl
theorem yzK (r:RS):yaa (yab (encR r) 3)=r.2.den:=rfl
theorem asR (r:RS) (P:Prop):asr (conf z4 (encR r)) P=P:=rfl
theorem yKh (r:RS):([.agg [.int .i64 r.1.num,.int .i64 r.1.den,.int .i64 r.2.num,.int .i64 r.2.den]]:List PV)=rsp [r]:=rfl
theorem yKi (a b:List RS):rsp a++rsp b=rsp (a++b):=by unfold rsp yfc;rw [List.map_append,List.map_append]
theorem yOb (l:List RS) (i:Nat) (r:RS):List.set (rsp l) i (.agg [.int .i64 r.1.num,.int .i64 r.1.den,.int .i64 r.2.num,.int .i64 r.2.den])=rsp (l.set i r):=by
 unfold rsp yfc
 rw [List.map_set,List.map_set]
 rfl
theorem asE {α:Type} [DecidableEq α] (a:α) (P:Prop):asr (decide (a=a)) P=P:=by rw [decide_eq_true rfl,yaR]
theorem asNo {c:Prop} [Decidable c] {P:Prop} (h:¬c):asr (!decide c) P=P:=by rw [decide_eq_false h];rfl
theorem yOc {α:Type} {acc:List α} {c d:α} {i:Nat} (h:i=acc.length):(acc++[c]).getD i d=c:=by
 subst h
 rw [qAa,List.getElem?_append_right (qAm _),Nat.sub_self]
 rfl
theorem yMY {α:Type} {acc:List α} {c d:α} {i:Nat} (h:i=acc.length):(acc++[c]).set i d=acc++[d]:=by
 subst h
 rw [List.set_append_right _ _ (qAm _),Nat.sub_self]
 rfl
theorem yp0 {l:List RS} (h:∀ s∈l,ycb s) {i:Nat} (hi:i<l.length):ycb (l.getD i default):=by
 rw [qAa,qAc hi]
 exact h _ (qB5 hi)
theorem yH0 {l:List RS} (hs:∀ s∈l,ycb s) (hl:l.length<1000000) {x0:Int→Int→Bool→Prop} {x1:List PV→Int→Int→Bool→Prop} {x2:List PV→List PV→Int→Int→Bool→Prop} :
  ∀ (r i n:Nat) (acc:List RS) (c:RS),i+r=l.length→r<n→acc.length<i→ycb c →
   ycU ya6 x0 x1 x2 n (rsp l) (rsp (acc++[c])) (l.length:Int) (i:Int)=x2 (rsp l) (rsp (acc++mrg (l.drop i) c)) (l.length:Int) (l.length:Int) false:=by
 intro r
 induction r with
 | zero =>
  intro i n acc c hi hn ha hc
  obtain ⟨n,rfl⟩:∃ m,n=m+1:=⟨n-1,by omega⟩
  obtain rfl:i=l.length:=by omega
  rw [ycU,cbF (by omega),List.drop_length]
  rfl
 | succ r ih =>
  intro i n acc c hi hn ha hc
  obtain ⟨n,rfl⟩:∃ m,n=m+1:=⟨n-1,by omega⟩
  have hil:i<l.length:=by omega
  have e1:=wib (n:=(i:Int)+1) (by omega) (by omega)
  have hal:(acc++[c]).length=acc.length+1:=by simp
  have e2:=wib (n:=((acc.length+1:Nat):Int)-1) (by omega) (by omega)
  have e3:((acc.length+1:Nat):Int)-1=(acc.length:Int):=by omega
  rw [e3] at e2
  have hsi:=yp0 hs hil
  have hd:l.drop i=l.getD i default::l.drop (i+1):=yde default hil
  generalize hx:l.getD i default=x at hd hsi
  rw [ycU,cbT (by omega)]
  dsimp only [lt,Go.Pf.jn]
  simp (discharger:=omega) only [ybZ,hal,qAe,qA4,asT,ypZ,hx,asR,yzI,yEY,yzJ,yzK,cbT,e3,e2,e1,yOc,asNo,decide_true,qAz,yaR]
  rw [yxv hsi.1 hc.2,yGD,hd]
  unfold mrg
  by_cases h:c.2<x.1
  ·rw [decide_eq_true h,if_pos h,qBt,yaf,asT (by show _≤35184372088832;omega),yKh x,yKi,ycP]
   have:=ih (i+1) n (acc++[c]) x (by omega) (by omega) (by simp;omega) hsi
   rw [this,qBc]
   rfl
  ·rw [decide_eq_false h,if_neg h,qB0,yau,yxv hsi.2 hc.2]
   have e4:decide (cmpQ x.2 c.2>0)=decide (c.2<x.2):=by
    have:=yGD x.2 c.2
    rw [show decide (cmpQ x.2 c.2>0)=!decide (cmpQ x.2 c.2≤0) by rw [← decide_not];simp,this,Bool.not_not]
   rw [e4]
   unfold maxR
   by_cases h2:c.2<x.2
   ·have e5:List.set (rsp (acc++[c])) acc.length (.agg [.int .i64 c.1.num,.int .i64 c.1.den,.int .i64 x.2.num,.int .i64 x.2.den])=rsp (acc++[(c.1,x.2)]):=by
     rw [yOb _ _ (c.1,x.2),yMY rfl]
    rw [decide_eq_true h2,if_pos h2,yau,e5,ybZ,show (acc++[(c.1,x.2)]).length=acc.length+1 by simp]
    simp only [decide_true,qAz,yaR,ycP]
    exact ih (i+1) n acc (c.1,x.2) (by omega) (by omega) (by omega) ⟨hc.1,hsi.2⟩
   ·rw [decide_eq_false h2,if_neg h2,yaf,ycP]
    exact ih (i+1) n acc c (by omega) (by omega) (by omega) hc
theorem yOd {s:Sp} (h:s.ok):spOf s.rs=s:=by
 obtain ⟨_,h2,h3⟩:=ymq h.1
 obtain ⟨_,k2,k3⟩:=ymq h.2.1
 unfold spOf Sp.rs
 cases s
 simp only at h2 h3 k2 k3 ⊢
 rw [h2,h3,k2,k3]
theorem yGF {r:RS} (_:ycb r):(spOf r).rs=r:=by
 show (rt r.1.num r.1.den,rt r.2.num r.2.den)=r
 rw [ye3,ye3]
theorem yng {r:RS} (h:ycb r) (hv:r.1<r.2):(spOf r).ok:=⟨h.1.rv,h.2.rv,by
 show rt r.1.num r.1.den<rt r.2.num r.2.den
 rw [ye3,ye3];exact hv⟩
theorem yMZ {s:Sp} (h:s.ok):ycb s.rs:=⟨(ymq h.1).1,(ymq h.2.1).1⟩
theorem yy3 {l:List Sp} (h:∀ s∈l,s.ok):yfc l=rsp (rsL l):=by
 unfold rsp rsL
 rw [List.map_map]
 congr 1
 conv=>lhs;rw [← List.map_id l]
 exact List.map_congr_left fun s hs=>(yOd (h s hs)).symm
theorem yy4:∀ {l:List RS},l.Pairwise (fun s t=>¬t.1<s.1)→yn8 l
 | [],_=>trivial
 | s::r,h=>by
  rw [List.pairwise_cons] at h
  exact ⟨fun t ht=>by have:=h.1 t ht;grind,yy4 h.2⟩
theorem yLx {l:List RS} (hs:∀ s∈l,ycb s) (hv:∀ s∈l,s.1<s.2) (hl:l.length<100000):∃ l':List RS,l'.Perm l∧yn8 l'∧∀ K,yft (rsp l) K=K (rsp (yvJ l')):=by
 obtain ⟨m,h1,h2,h3⟩:=yEX ya1 yej (l:=l.map spOf) (fun s h=>by
  obtain ⟨r,hr,rfl⟩:=qBl.1 h
  exact yng (hs r hr) (hv r hr))
 have hm:∀ s∈m,s.ok:=fun s h=>by
  obtain ⟨r,hr,rfl⟩:=qBl.1 (h1.mem_iff.1 h)
  exact yng (hs r hr) (hv r hr)
 have hp:(rsL m).Perm l:=by
  have:=h1.map Sp.rs
  rw [List.map_map] at this
  have e:l.map (Sp.rs ∘ spOf)=l:=by
   conv=>rhs;rw [← List.map_id l]
   exact List.map_congr_left fun r hr=>yGF (hs r hr)
  rw [e] at this
  exact this
 have hb:yn8 (rsL m):=yy4 (List.pairwise_map.2 h2)
 refine ⟨rsL m,hp,hb,fun K=>?_⟩
 refine yyv _ _ (fun K k=>?_) K
 unfold yft ykJ
 have hlen:(rsL m).length=l.length:=hp.length_eq
 have hc:yfM 4 32 (rsp l)=true:=by
  unfold yfM
  rw [qAb,decide_eq_true_eq,ybZ]
  refine ⟨?_,by show _≤35184372088832;omega⟩
  cases l <;> rfl
 rw [hc,yaR]
 cases l with
 | nil =>
  have e:rsL m=[]:=qAl (by rw [hlen];rfl)
  rw [e] at k
  exact ⟨1,k⟩
 | cons x r =>
  rw [show List.isEmpty (rsp (x::r))=false from rfl,yaf]
  have hsm:ycb x:=hs x qAg
  have hd:∃ d,(yuZ).s.rows? (rsp (x::r))=some d:=ysO fun y hy=>by
   obtain ⟨s,h4,rfl⟩:=qBl.1 hy
   obtain ⟨q,hq,rfl⟩:=qBl.1 h4
   exact yJj _ _ (yng (hs q hq) (hv q hq))
  obtain ⟨d,hd⟩:=hd
  have hcond:Srt.cond yuZ.s (rsp (x::r)) 0 (rsp (x::r)).length (rsp (x::r)).length 4 false=true:=by
   unfold Srt.cond
   rw [qBa,qAw,hd,ybZ]
   simp only [decide_true,qAz,qB0,Option.isSome_some,Bool.and_true,qAb,decide_eq_true_eq,qA4,qAm]
   exact ⟨by simp,rfl,by omega⟩
  rw [hcond,yaR]
  have hsrt:Srt.sorted yuZ.s yuZ.srt (rsp (x::r))=rsp (rsL m):=by
   rw [show rsp (x::r)=yfc ((x::r).map spOf) from rfl,← yy3 hm]
   exact h3
  rw [List.take_zero,qBa,qAw,hsrt,qBv,qA4,List.drop_length,qB3,ybZ,ybZ,hlen]
  simp only [decide_true,qAz,yaR]
  have hms:∀ s∈rsL m,ycb s:=fun s h=>hs s (hp.mem_iff.1 h)
  cases hq:rsL m with
  | nil=>rw [hq] at hlen;cases hlen
  | cons y t =>
   rw [hq] at k hms hlen
   refine ⟨(y::t).length+2,?_⟩
   have hy:ycb y:=hms y qAg
   rw [yh1,cbT (by simp only [qAo];omega)]
   dsimp only [lt,Go.Pf.jn]
   have e1:IntKind.i64.wrap ((0:Int)+1)=((1:Nat):Int):=by decide
   have e2:(rsp (y::t)).length=(x::r).length:=by rw [ybZ,hlen]
   have e3:List.getD (rsp (y::t)) (0+(0:Int).toNat) .nils=encR y:=rfl
   rw [asT (by omega),asT (by rw [e2];simp only [qAo];omega),asE,asT (by rw [e2];simp),e3,asR,yzI,yEY,yzJ,yzK,e1,yKh,← hlen]
   rw [show (rsp [y]).length=1 from rfl]
   simp only [decide_true,qAz,yaR]
   have:=yH0 hms (by rw [hlen];omega) (x0:=fun b c f=>K ([]:List PV)) (x1:=fun g i j n=>K ([]:List PV))
    (x2:=fun o a p u v=>asr (decide ((0+(List.length a))≤(List.length a))) (K (List.take (List.length a) a)))
    t.length 1 ((y::t).length+1) [] y (by simp only [qAo];omega) (by simp only [qAo];omega) (by simp) hy
   rw [qBv] at this
   refine this.mpr ?_
   rw [asT (by omega),qAw]
   exact k
def inB (l:List RS) (p:Rat):Bool:=l.any fun s=>!decide (p<s.1)&&decide (p<s.2)
theorem yxx {l:List RS} {p:Rat}:inB l p=true↔memP l p:=by
 unfold inB memP inS
 rw [List.any_eq_true]
 constructor
 ·rintro ⟨s,h1,h2⟩
  simp only [qAb,qAx,decide_eq_false_iff_not,decide_eq_true_eq] at h2
  exact ⟨s,h1,by grind,h2.2⟩
 ·rintro ⟨s,h1,h2,h3⟩
  refine ⟨s,h1,?_⟩
  simp only [qAb,qAx,decide_eq_false_iff_not,decide_eq_true_eq]
  exact ⟨by grind,h3⟩
def encW (q:Rat):PV:=.agg [.int .i64 q.num,.int .i64 q.den]
def rts (l:List Rat):List PV:=l.map encW
theorem yji (l:List Rat):(rts l).length=l.length:=qAq ..
theorem ykP {l:List Rat} {i:Nat} (h:i<l.length):List.getD (rts l) i .nils=encW (l.getD i 0):=by
 unfold rts
 rw [qAa,qAa,qA9,qAc h]
 rfl
theorem yt5 (q:Rat):yaa (yab (encW q) 0)=q.num:=rfl
theorem yt6 (q:Rat):yaa (yab (encW q) 1)=q.den:=rfl
theorem asW (q:Rat) (P:Prop):asr (conf z2 (encW q)) P=P:=rfl
theorem yOe (q:Rat):([.agg [.int .i64 q.num,.int .i64 q.den]]:List PV)=rts [q]:=rfl
theorem yOf (a b:List Rat):rts a++rts b=rts (a++b):=by unfold rts;rw [List.map_append]
theorem yP2 (a b:Rat):((a.num == b.num)&&(((a.den:Int) ==(b.den:Int))&&true))=decide (a=b):=by
 rw [Bool.and_true,Bool.eq_iff_iff]
 simp only [qAb,beq_iff_eq,decide_eq_true_eq]
 constructor
 ·rintro ⟨h1,h2⟩;exact Rat.ext h1 (by omega)
 ·rintro rfl;exact ⟨rfl,rfl⟩
def selB (how:Int) (x y:Bool):Bool:=bif how == 2 then (x&&!y) else (bif how == 1 then (x&&y) else (x||y))
section
variable {a b:List RS} {pts:List Rat} {how:Int}
def selF (a b:List RS) (how:Int) (q:Rat):Bool:=selB how (inB a q) (inB b q)
end
theorem yH1 (l:List RS):yd6 4 (rsp l)=true:=by cases l <;> rfl
theorem yCP {a b:List RS} {q:Rat}:selF a b 0 q=true↔(memP a q∨memP b q):=by
 show (inB a q||inB b q)=true↔_
 rw [qB4,yxx,yxx]
theorem yEZ {a b:List RS} {q:Rat}:selF a b 1 q=true↔(memP a q∧memP b q):=by
 show (inB a q&&inB b q)=true↔_
 rw [qAb,yxx,yxx]
theorem ykz {l:List RS} (h:yfd l):∀ s∈l,s.1<s.2:=by
 induction l with
 | nil=>intro s hs;cases hs
 | cons t r ih =>
  intro s hs
  rcases qAk.1 hs with rfl | hs
  ·exact h.1
  ·exact ih h.2.2 s hs
def setR (a b:List RS) (how:Int):List RS:=yMT (selF a b how) a b
theorem yM0 {a b c d:Int} (h:RV a b) (k:RV c d):cmpI a b c d=cmpQ (rt a b) (rt c d):=by
 obtain ⟨_,h2,h3⟩:=ymq h
 obtain ⟨_,k2,k3⟩:=ymq k
 unfold cmpI cmpQ
 simp only [Rat.lt_iff,h2,h3,k2,k3]
theorem yM1:∀ {cs:List PV},okL [.i64,.i64,.i64,.i64] cs=true→∃ a b c d,cs=[.int .i64 a,.int .i64 b,.int .i64 c,.int .i64 d]
 | [],h=>by cases h
 | [x],h=>by cases x <;> simp [okL] at h
 | [x,y],h=>by cases x <;> cases y <;> simp [okL] at h
 | [x,y,z],h=>by cases x <;> cases y <;> cases z <;> simp [okL] at h
 | x::y::z::u::w,h=>by
  cases x <;> first | (simp [okL] at h;done) | skip
  cases y <;> first | (simp [okL] at h;done) | skip
  cases z <;> first | (simp [okL] at h;done) | skip
  cases u <;> first | (simp [okL] at h;done) | skip
  simp only [okL,qAb,decide_eq_true_eq] at h
  obtain ⟨rfl,_,_,rfl,_,_,rfl,_,_,rfl,_,_,h⟩:=h
  cases w with
  | nil=>exact ⟨_,_,_,_,rfl⟩
  | cons p q=>simp [okL] at h
theorem yKj {n g:Nat} {x:PV} (h:(ykq n g).s.gd x=true):∃ a b c d,x=.agg [.int .i64 a,.int .i64 b,.int .i64 c,.int .i64 d]∧RV a b:=by
 simp only [Srt.gd,qAb] at h
 have h1:okI [.i64,.i64,.i64,.i64] x=true:=h.1
 have h2:yum x=true:=h.2
 clear h
 cases x <;> first | (simp [okI] at h1;done) | skip
 obtain ⟨a,b,c,d,rfl⟩:=yM1 (h1:okL _ _=true)
 exact ⟨a,b,c,d,rfl,yAK.1 h2⟩
theorem yH2 {n g:Nat} (e:Es) (he:EG e) {x y:PV} (hx:(ykq n g).s.gd x=true) (hy:(ykq n g).s.gd y=true):Ans (E e) yej [x,y] (.int .i64 (yon x y)):=by
 obtain ⟨a,b,c,d,rfl,h1⟩:=yKj hx
 obtain ⟨a',b',c',d',rfl,h2⟩:=yKj hy
 obtain ⟨r,hr,ha⟩:=ywI e he [.agg [.int .i64 a,.int .i64 b,.int .i64 c,.int .i64 d],.agg [.int .i64 a',.int .i64 b',.int .i64 c',.int .i64 d']] (fun r=>r=.int .i64 (cmpI a b a' b')) (by
  show yjT a b c d a' b' c' d' (fun r=>PV.int .i64 r=.int .i64 (cmpI a b a' b'))
  unfold yjT yiN
  rw [yHX h1 h2,yM0 h1 h2])
 rw [hr] at ha
 exact ha
structure Pc (l:List RS):Prop where
 c:yfd l
 s:∀ s∈l,ycb s
 n:l.length≤60
theorem yLy {a b:List RS} {p:Rat}:memP (setR a b 0) p↔(memP a p∨memP b p):=(yxu (c:=Or) (fun x=>yCP) (by simp)).2 p
theorem yM2 {a b:List RS} {p:Rat}:memP (setR a b 1) p↔(memP a p∧memP b p):=(yxu (c:=And) (fun x=>yEZ) (by simp)).2 p
theorem yH3 {l:List RS} (h:∀ s∈l,ycb s):rsL (l.map spOf)=l:=by
 induction l with
 | nil=>rfl
 | cons s r ih =>
  show (spOf s).rs::rsL (r.map spOf)=_
  rw [yGF (h s qAg),ih fun t ht=>h t (qAf _ ht)]
theorem Pc.ok {l:List RS} (h:Pc l):∀ s∈l.map spOf,s.ok:=fun s hs=>by
 obtain ⟨t,ht,rfl⟩:=qBl.1 hs
 exact yng (h.s t ht) (ykz h.c t ht)
theorem Pc.i64 {l:List RS} (h:Pc l):∀ s∈l.map spOf,s.i64:=fun s hs=>by
 obtain ⟨t,ht,rfl⟩:=qBl.1 hs
 have:=h.s t ht
 exact ⟨this.1.i1,this.1.i2,this.2.i1,this.2.i2⟩
theorem Pc.e {l:List RS} (h:Pc l):yGE (l.map spOf)=0:=by
 have hl:=h.n
 have ho:=h.ok
 have hc:=h.c
 rw [← yH3 h.s] at hc
 have h1:yy2 (l.map spOf)=true:=qCa.2 fun s hs=>decide_eq_true (ho s hs)
 have h2:allE (l.map spOf)=0:=by
  unfold allE
  rw [if_neg (by rw [qAq];omega),h1,if_pos rfl]
 unfold yGE
 rw [h2]
 cases l with
 | nil=>rfl
 | cons s r =>
  have hg:gapB (spOf s) (r.map spOf)=true:=(yEW _ _ (ho _ (by simp)) (fun t ht=>ho t (qAf _ ht))).2 hc
  show (if (0:Int)=0 then (if gapB (spOf s) (r.map spOf) then 0 else 8) else _)=_
  rw [if_pos rfl,hg,if_pos rfl]
theorem Pc.check {l:List RS} (h:Pc l) (K:Int→Prop):ybj (rsp l) K=K 0:=by
 unfold rsp
 rw [yLv h.i64 (by rw [qAq];have:=h.n;omega),h.e]
theorem yGG:∀ (r:List RS) (c:RS),(mrg r c).length≤r.length+1
 | [],c=>by simp [mrg]
 | s::r,c=>by
  unfold mrg
  split
  ·have:=yGG r s
   simp only [qAo];omega
  ·have:=yGG r (c.1,maxR c.2 s.2)
   simp only [qAo];omega
theorem yy5:∀ (r:List RS) (c:RS),ycb c→(∀ s∈r,ycb s)→∀ s∈mrg r c,ycb s
 | [],c,hc,_=>by simpa [mrg] using hc
 | t::r,c,hc,h=>by
  have ht:=h t qAg
  have hr:∀ s∈r,ycb s:=fun s hs=>h s (qAf _ hs)
  intro s hs
  unfold mrg at hs
  split at hs
  ·rcases qAk.1 hs with rfl | hs
   ·exact hc
   ·exact yy5 r t ht hr s hs
  ·exact yy5 r (c.1,maxR c.2 t.2) ⟨hc.1,yLw hc.2 ht.2⟩ hr s hs
theorem yLz {l:List RS} (hs:∀ s∈l,ycb s) (hv:∀ s∈l,s.1<s.2) (hb:yn8 l) (hl:l.length≤60):Pc (yvJ l):=by
 refine ⟨(yET hv hb).1,?_,?_⟩
 ·cases l with
  | nil=>simp [yvJ]
  | cons s r=>exact yy5 r s (hs s qAg) fun t ht=>hs t (qAf _ ht)
 ·cases l with
  | nil=>simp [yvJ]
  | cons s r =>
   have:=yGG r s
   show (mrg r s).length≤60
   simp only [qAo] at hl;omega
theorem yJk {a b:List RS} (h:∀ s,s∈a↔s∈b) (p:Rat):memP a p↔memP b p :=
 ⟨fun ⟨s,hs,hp⟩=>⟨s,(h s).1 hs,hp⟩,fun ⟨s,hs,hp⟩=>⟨s,(h s).2 hs,hp⟩⟩
theorem yLA {l:List Sp} (h64:∀ s∈l,s.i64) (h0:allE l=0):∃ m,Pc m∧(∀ p,memP m p↔memP (rsL l) p)∧∀ K,yao (yfc l) K=K (rsp m) 0:=by
 obtain ⟨h1,h2⟩:=yEV h0
 have hs:∀ s∈rsL l,ycb s:=fun s hs=>by obtain ⟨t,ht,rfl⟩:=qBl.1 hs;exact yMZ (h2 t ht)
 have hv:∀ s∈rsL l,s.1<s.2:=fun s hs=>by obtain ⟨t,ht,rfl⟩:=qBl.1 hs;exact (h2 t ht).2.2
 have hn:(rsL l).length=l.length:=qAq ..
 obtain ⟨l',hp,hb,hm⟩:=yLx hs hv (by omega)
 have hs':∀ s∈l',ycb s:=fun s h=>hs s (hp.mem_iff.1 h)
 have hv':∀ s∈l',s.1<s.2:=fun s h=>hv s (hp.mem_iff.1 h)
 refine ⟨yvJ l',yLz hs' hv' hb (by rw [hp.length_eq];omega),fun p=>?_,fun K=>?_⟩
 ·rw [(yET hv' hb).2 p]
  exact yJk (fun s=>hp.mem_iff) p
 ·unfold yao ynC
  rw [yMW h64 (by omega),h0,yy3 h2]
  show cbr false _ _=_
  rw [yaf,hm]
def sumV (v:RS→Rat):List RS→Rat
 | []=>0
 | s::r=>v s+sumV v r
theorem yCQ:small 0:=by decide +kernel
theorem nz (P Q:Prop):cbr ((0:Int) != 0) P Q=Q:=rfl
theorem ez (P Q:Prop):cbr ((0:Int) == 0) P Q=P:=rfl
theorem yOg {L:List RS} (hs:∀ s∈L,ycb s) (hv:∀ s∈L,s.1<s.2) (hl:L.length≤60):allE (L.map spOf)=0:=by
 have h1:yy2 (L.map spOf)=true:=qCa.2 fun s h=>by
  obtain ⟨t,ht,rfl⟩:=qBl.1 h
  exact decide_eq_true (yng (hs t ht) (hv t ht))
 unfold allE
 rw [if_neg (by rw [qAq];omega),h1,if_pos rfl]
theorem yOh {L:List RS} (hs:∀ s∈L,ycb s) (hv:∀ s∈L,s.1<s.2) (hl:L.length≤60):∃ m,Pc m∧(∀ p,memP m p↔memP L p)∧∀ K,yao (rsp L) K=K (rsp m) 0:=by
 obtain ⟨m,h1,h2,h3⟩:=yLA (l:=L.map spOf) (fun s h=>by
  obtain ⟨t,ht,rfl⟩:=qBl.1 h
  have:=hs t ht
  exact ⟨this.1.i1,this.1.i2,this.2.i1,this.2.i2⟩) (yOg hs hv hl)
 rw [yH3 hs] at h2
 exact ⟨m,h1,h2,h3⟩
section
variable (V:Rat→Rat)
def dV (s:RS):Rat:=V s.2-V s.1
def csum (f:Rat→Bool):List Rat→Rat
 | x::y::r=>(bif f x then V y-V x else 0)+csum f (y::r)
 | _=>0
theorem yCR (f:Rat→Bool):∀ (pts:List Rat),sumV (dV V) (jn f pts none)=csum V f pts∧∀ c,sumV (dV V) (jn f pts (some c))=dV V c+csum V f pts
 | []=>by
  unfold jn csum
  exact ⟨rfl,fun c=>rfl⟩
 | [x]=>by
  unfold jn csum
  exact ⟨rfl,fun c=>rfl⟩
 | x::y::r=>by
  obtain ⟨i1,i2⟩:=yCR f (y::r)
  unfold jn csum
  cases hf:f x with
  | true =>
   rw [if_pos rfl]
   refine ⟨?_,fun c=>?_⟩
   ·rw [i2];rfl
   ·rw [if_pos rfl]
    split
    ·rename_i hc
     rw [i2]
     unfold dV
     rw [cond_true,hc]
     dsimp only
     grind
    ·show dV V c+sumV (dV V) (jn f (y::r) (some (x,y)))=_
     rw [i2]
     unfold dV
     rw [cond_true]
  | false =>
   rw [if_neg (by decide)]
   refine ⟨?_,fun c=>?_⟩
   ·rw [i1,cond_false];grind
   ·rw [if_neg (by decide),i2,cond_false];grind
theorem yH4 (f g:Rat→Bool):∀ pts:List Rat,csum V f pts+csum V g pts=csum V (fun x=>f x||g x) pts+csum V (fun x=>f x&&g x) pts
 | []=>rfl
 | [x]=>rfl
 | x::y::r=>by
  have ih:=yH4 f g (y::r)
  unfold csum
  cases f x <;> cases g x <;> simp only [cond_true,cond_false,Bool.or_self,Bool.and_self,Bool.or_true,Bool.and_true,Bool.and_false,Bool.or_false] <;> grind
theorem yKk {pts:List Rat} {A:List RS} (hA:yfd A) (hi:ysr pts) (he:yss pts A):jn (inB A) pts none=A:=by
 obtain ⟨h1,h2⟩:=yMS (P:=memP A) hi (fun x y p hg h1 h2=>yy0 he hg h1 h2) (fun x _=>yxx) (fun p hp=>yGC he hp)
 exact ye4 _ _ h1 hA h2
theorem yM3 {A B:List RS} (hA:yfd A) (hB:yfd B):sumV (dV V) A+sumV (dV V) B=sumV (dV V) (setR A B 0)+sumV (dV V) (setR A B 1):=by
 have ea:yss (yfe B (yfe A [])) A:=fun s hs=>⟨yia B _ _ (yj8 A [] s hs).1,yia B _ _ (yj8 A [] s hs).2⟩
 have eb:yss (yfe B (yfe A [])) B:=yj8 B _
 have hi:ysr (yfe B (yfe A [])):=ymt B _ (ymt A _ trivial)
 have h1:=(yCR V (inB A) (yfe B (yfe A []))).1
 have h2:=(yCR V (inB B) (yfe B (yfe A []))).1
 have h3:=(yCR V (selF A B 0) (yfe B (yfe A []))).1
 have h4:=(yCR V (selF A B 1) (yfe B (yfe A []))).1
 rw [yKk hA hi ea] at h1
 rw [yKk hB hi eb] at h2
 show _=sumV (dV V) (jn (selF A B 0) (yfe B (yfe A [])) none)+sumV (dV V) (jn (selF A B 1) (yfe B (yfe A [])) none)
 rw [h1,h2,h3,h4,yH4]
 rfl
end
section
variable {len:Int} {cuts dens:List Int}
def uC (cuts:List Int) (i:Nat) (x:Rat):Rat:=minR (maxR x (cuts.getD i 0:Int)) (cuts.getD (i+1) 0:Int)
def vu (cuts dens:List Int) (x:Rat):Nat→Nat→Rat
 | 0,_=>0
 | r+1,i=>(dens.getD i 0:Int)*uC cuts i x+vu cuts dens x r (i+1)
theorem yCS (h:VC len cuts dens):∀ (r i:Nat) {x y:Rat},i+r=dens.length→x≤(cuts.getD i 0:Int)→y≤(cuts.getD i 0:Int)→vu cuts dens x r i=vu cuts dens y r i
 | 0,_,_,_,_,_,_=>rfl
 | r+1,i,x,y,hi,hx,hy=>by
  have l1:=h.l1
  have hst:((cuts.getD i 0:Int):Rat)<((cuts.getD (i+1) 0:Int):Rat):=Rat.intCast_lt_intCast.2 (h.step (i:=i) (by omega))
  have ih:=yCS h r (i+1) (x:=x) (y:=y) (by omega) (by grind) (by grind)
  unfold vu
  rw [ih]
  have e:uC cuts i x=uC cuts i y:=by
   unfold uC
   have a1:=ygx x (cuts.getD i 0:Int)
   have a2:=ygx y (cuts.getD i 0:Int)
   have e1:maxR x (cuts.getD i 0:Int)=(cuts.getD i 0:Int):=by grind
   have e2:maxR y (cuts.getD i 0:Int)=(cuts.getD i 0:Int):=by grind
   rw [e1,e2]
  rw [e]
theorem ynh {α:Type} {q:Rat} {k:Rat→Except Int α} {v:α} (h:fit q k=.ok v):k q=.ok v:=by
 unfold fit at h
 split at h
 ·exact h
 ·cases h
theorem yAL (h:VC len cuts dens) {b:Rat}:∀ (r i:Nat) (p sum v:Rat),i+r=dens.length→p≤b→(p=b∨((cuts.getD i 0:Int):Rat)≤p)→valS cuts dens b r i p sum=.ok v→v=sum+(vu cuts dens b r i-vu cuts dens p r i)
 | 0,i,p,sum,v,hi,hp,hc,hv=>by
  unfold valS at hv
  cases hv
  unfold vu
  grind
 | r+1,i,p,sum,v,hi,hp,hc,hv=>by
  have l1:=h.l1
  have hst:((cuts.getD i 0:Int):Rat)<((cuts.getD (i+1) 0:Int):Rat):=Rat.intCast_lt_intCast.2 (h.step (i:=i) (by omega))
  unfold valS at hv
  dsimp only at hv
  have hen:∃ en:Rat,(if b<((cuts.getD (i+1) 0:Int):Rat) then b else ((cuts.getD (i+1) 0:Int):Rat))=en∧en≤b∧en≤((cuts.getD (i+1) 0:Int):Rat)∧(en=b∨en=((cuts.getD (i+1) 0:Int):Rat)):=by
   refine ⟨_,rfl,?_⟩
   split <;> grind
  obtain ⟨en,e0,he1,he2,he3⟩:=hen
  rw [e0] at hv
  have low:=yCS h r (i+1) (x:=en) (y:=p) (by omega)
  have m1:=ygx b (cuts.getD i 0:Int)
  have m2:=ygx p (cuts.getD i 0:Int)
  have n1:=yhT (maxR b (cuts.getD i 0:Int)) (cuts.getD (i+1) 0:Int)
  have n2:=yhT (maxR p (cuts.getD i 0:Int)) (cuts.getD (i+1) 0:Int)
  unfold vu uC
  generalize ((cuts.getD i 0:Int):Rat)=c0 at *
  generalize hc1:((cuts.getD (i+1) 0:Int):Rat)=c1 at *
  by_cases hlt:p<en
  ·have hb:minR (maxR b c0) c1=en:=by grind
   have hq:minR (maxR p c0) c1=p:=by grind
   by_cases hd:dens.getD i 0=0
   ·rw [if_pos (.inl hd),if_pos hlt] at hv
    have ih:=yAL h r (i+1) en sum v (by omega) he1 (by rw [hc1];grind) hv
    rw [ih,hd,low (by grind) (by grind)]
    grind
   ·rw [if_neg (by intro k;rcases k with k | k;exact hd k;exact k hlt)] at hv
    have hv:=ynh (ynh (ynh hv))
    have ih:=yAL h r (i+1) en _ v (by omega) he1 (by rw [hc1];grind) hv
    rw [ih,low (by grind) (by grind),hb,hq]
    grind
  ·rw [if_pos (.inr hlt),if_neg hlt] at hv
   have ih:=yAL h r (i+1) p sum v (by omega) hp (by rw [hc1];grind) hv
   have:minR (maxR b c0) c1=minR (maxR p c0) c1:=by grind
   rw [ih,this]
   grind
def vX (cuts dens:List Int) (x:Rat):Rat:=vu cuts dens x dens.length 0
theorem yOi (h:VC len cuts dens) {a b v:Rat} (h0:0≤a) (hab:a≤b) (hv:valC cuts dens a b=.ok v):v=vX cuts dens b-vX cuts dens a:=by
 have c0:cuts.getD 0 0=0:=h.2.2.2.2.2.1
 have:=yAL h dens.length 0 a 0 v (by omega) hab (.inr (by rw [c0];exact h0)) hv
 unfold vX
 rw [this];grind
def Wi (len:Int) (l:List RS):Prop:=∀ s∈l,0≤s.1∧s.2≤(len:Rat)
theorem yOj (q r:Rat):decide (cmpQ q r>0)=decide (r<q):=by
 rw [← Bool.not_eq_not,← yGD,Bool.eq_iff_iff]
 simp only [decide_eq_true_eq]
 omega
end
def yM4 (len:Int) (l:List RS):Bool:=l.all fun s=>decide (PT len s.1.num s.1.den)&&decide (PT len s.2.num s.2.den)
theorem yM5 {len:Int} {l:List RS} (h:yM4 len l=true):Wi len l:=fun s hs=>by
 have:=qCa.1 h s hs
 simp only [qAb,decide_eq_true_eq] at this
 obtain ⟨h1,h2⟩:=this
 have p1:=h1.pt
 have p2:=h2.pt
 rw [ye3] at p1 p2
 exact ⟨p1.2.2.2.1,p2.2.2.2.2⟩
section
variable {len:Int} {cuts dens:List Int}
theorem yKl (h:VC len cuts dens) {i:Nat} (hi:i+1<cuts.length) {x y:Rat} (hxy:x≤y):uC cuts i x≤uC cuts i y:=by
 have hst:((cuts.getD i 0:Int):Rat)<((cuts.getD (i+1) 0:Int):Rat):=Rat.intCast_lt_intCast.2 (h.step (i:=i) hi)
 have m1:=ygx x (cuts.getD i 0:Int)
 have m2:=ygx y (cuts.getD i 0:Int)
 have n1:=yhT (maxR x (cuts.getD i 0:Int)) (cuts.getD (i+1) 0:Int)
 have n2:=yhT (maxR y (cuts.getD i 0:Int)) (cuts.getD (i+1) 0:Int)
 unfold uC
 grind
theorem yM6 (h:VC len cuts dens) {i:Nat} (hi:i<dens.length):(0:Rat)≤((dens.getD i 0:Int):Rat):=Rat.intCast_nonneg.2 (h.den hi).1
theorem yGH (h:VC len cuts dens) {x y:Rat} (hxy:x≤y):∀ (r i:Nat),i+r=dens.length→vu cuts dens x r i≤vu cuts dens y r i
 | 0,_,_=>qAr
 | r+1,i,hi=>by
  have l1:=h.l1
  have h1:=yKl h (i:=i) (by omega) hxy
  have h2:=yGH h hxy r (i+1) (by omega)
  have h3:=qBy h1 (yM6 h (i:=i) (by omega))
  unfold vu
  grind
theorem yxy (h:VC len cuts dens) {x y:Rat} (hxy:x≤y):vX cuts dens x≤vX cuts dens y:=yGH h hxy dens.length 0 (by omega)
theorem yAM (h:VC len cuts dens):∀ (r i:Nat) (p v q:Rat),i+r=dens.length→0<v→((cuts.getD i 0:Int):Rat)≤p→mrkS cuts dens r i p v=.ok q →
  vu cuts dens q r i-vu cuts dens p r i=v∧p<q∧q≤((cuts.getD dens.length 0:Int):Rat)∧∀ x,x<q→vu cuts dens x r i<vu cuts dens q r i
 | 0,_,_,_,_,_,_,_,e=>by cases e
 | r+1,i,p,v,q,hi,hv,hp,e=>by
  have l1:=h.l1
  have hst:((cuts.getD i 0:Int):Rat)<((cuts.getD (i+1) 0:Int):Rat):=Rat.intCast_lt_intCast.2 (h.step (i:=i) (by omega))
  have hd:=h.den (i:=i) (by omega)
  have hd0:=yM6 h (i:=i) (by omega)
  have low:=fun {x y:Rat}=>yCS h r (i+1) (x:=x) (y:=y) (by omega)
  have hmon:=fun {x:Rat} (hx:x<q)=>yKl h (i:=i) (by omega) (qBp hx)
  have hmon2:=fun {x:Rat} (hx:x<q)=>yGH h (qBp hx) r (i+1) (by omega)
  have m1:=ygx p (cuts.getD i 0:Int)
  have m2:=ygx q (cuts.getD i 0:Int)
  have n1:=yhT (maxR p (cuts.getD i 0:Int)) (cuts.getD (i+1) 0:Int)
  have n2:=yhT (maxR q (cuts.getD i 0:Int)) (cuts.getD (i+1) 0:Int)
  unfold mrkS at e
  by_cases c1:p<((cuts.getD (i+1) 0:Int):Rat)
  case neg =>
   rw [if_pos c1] at e
   obtain ⟨a1,a2,a3,a4⟩:=yAM h r (i+1) p v q (by omega) hv (qB8.1 c1) e
   have eq:uC cuts i q=uC cuts i p:=by unfold uC;grind
   refine ⟨by unfold vu;rw [eq];grind,a2,a3,fun x hx=>?_⟩
   have b1:=a4 x hx
   have b2:=qBy (hmon hx) hd0
   unfold vu
   grind
  rw [if_neg (fun k=>k c1)] at e
  by_cases c2:dens.getD i 0=0
  ·rw [if_pos c2] at e
   obtain ⟨a1,a2,a3,a4⟩:=yAM h r (i+1) _ v q (by omega) hv qAr e
   have e2:=low (x:=p) (y:=((cuts.getD (i+1) 0:Int):Rat)) (qBp c1) qAr
   refine ⟨by unfold vu;rw [e2,c2];grind,by grind,a3,fun x hx=>?_⟩
   have b1:=a4 x hx
   have b2:=qBy (hmon hx) hd0
   unfold vu
   grind
  rw [if_neg c2] at e
  have e:=ynh (ynh e)
  have dpos:(0:Rat)<((dens.getD i 0:Int):Rat):=Rat.intCast_pos.2 (by omega)
  have up:uC cuts i p=p:=by unfold uC;grind
  by_cases c3:(((cuts.getD (i+1) 0:Int):Rat)-p)*((dens.getD i 0:Int):Rat)<v
  ·rw [if_pos c3] at e
   have e:=ynh e
   obtain ⟨a1,a2,a3,a4⟩:=yAM h r (i+1) _ _ q (by omega) (by grind) qAr e
   have e2:=low (x:=p) (y:=((cuts.getD (i+1) 0:Int):Rat)) (qBp c1) qAr
   have uq:uC cuts i q=((cuts.getD (i+1) 0:Int):Rat):=by unfold uC;grind
   refine ⟨by unfold vu;rw [e2,up,uq];grind,by grind,a3,fun x hx=>?_⟩
   have b1:=a4 x hx
   have b2:=qBy (hmon hx) hd0
   unfold vu
   grind
  ·rw [if_neg c3] at e
   have e:=ynh (ynh e)
   cases e
   generalize hs:v / ((dens.getD i 0:Int):Rat)=s at *
   have es:s*((dens.getD i 0:Int):Rat)=v:=by rw [← hs];exact Rat.div_mul_cancel (by grind)
   have s0:0<s:=by
    refine Rat.not_le.1 fun k=>?_
    have:=Rat.mul_le_mul_of_nonneg_right k hd0
    grind
   have s1:p+s≤((cuts.getD (i+1) 0:Int):Rat):=by
    refine qB8.1 fun k=>?_
    have:(((cuts.getD (i+1) 0:Int):Rat)-p)<s:=by grind
    have:=Rat.mul_lt_mul_of_pos_right this dpos
    grind
   have uq:uC cuts i (p+s)=p+s:=by unfold uC;grind
   have e2:=low (x:=p+s) (y:=p) s1 (qBp c1)
   have hlast:cuts.getD (i+1) 0≤cuts.getD dens.length 0:=h.mono (by omega) (by omega)
   have hlast:((cuts.getD (i+1) 0:Int):Rat)≤((cuts.getD dens.length 0:Int):Rat):=qAu.2 hlast
   refine ⟨by unfold vu;rw [e2,up,uq];grind,by grind,by grind,fun x hx=>?_⟩
   have b1:=hmon2 hx
   have ux:uC cuts i x<p+s:=by
    have k1:=ygx x (cuts.getD i 0:Int)
    have k2:=yhT (maxR x (cuts.getD i 0:Int)) (cuts.getD (i+1) 0:Int)
    unfold uC
    grind
   have b2:=Rat.mul_lt_mul_of_pos_left ux dpos
   unfold vu
   rw [uq]
   grind
theorem VC.last (h:VC len cuts dens):cuts.getD dens.length 0=len:=by
 have l1:=h.l1
 have:=h.2.2.2.2.2.2.1
 rw [show dens.length=cuts.length-1 by omega]
 exact this
theorem yOk (h:VC len cuts dens) {a v q:Rat} (h0:0≤a) (h1:a≤(len:Rat)) (hv:0≤v) (e:mrkC cuts dens a v=.ok q) :
  vX cuts dens q=vX cuts dens a+v∧a≤q∧q≤(len:Rat)∧(v=0→a=q)∧(v≠0→∀ x,x<q→vX cuts dens x<vX cuts dens q):=by
 unfold mrkC at e
 by_cases c:v=0
 ·rw [if_pos c] at e
  cases e
  rw [c]
  exact ⟨by grind,qAr,h1,fun _=>rfl,fun k=>absurd rfl k⟩
 ·rw [if_neg c] at e
  have c0:cuts.getD 0 0=0:=h.2.2.2.2.2.1
  obtain ⟨a1,a2,a3,a4⟩:=yAM h dens.length 0 a v q (by omega) (by grind) (by rw [c0];exact h0) e
  rw [h.last] at a3
  exact ⟨by unfold vX;grind,qBp a2,a3,fun k=>absurd k c,fun _=>a4⟩
end
def In (D:Int) (q:Rat):Prop:=∃ n:Int,q=(n:Rat) / (D:Rat)
theorem In.int {D:Int} (h:1≤D) (c:Int):In D (c:Rat):=⟨c*D,by rw [qB9,Rat.mul_div_cancel (rne h)]⟩
theorem In.add {D:Int} {q r:Rat} (h:In D q) (k:In D r):In D (q+r):=by
 obtain ⟨n,rfl⟩:=h
 obtain ⟨m,rfl⟩:=k
 exact ⟨n+m,by rw [Rat.intCast_add];grind⟩
theorem In.sub {D:Int} {q r:Rat} (h:In D q) (k:In D r):In D (q-r):=by
 obtain ⟨n,rfl⟩:=h
 obtain ⟨m,rfl⟩:=k
 exact ⟨n-m,by rw [Rat.intCast_sub];grind⟩
theorem In.mulI {D:Int} {q:Rat} (h:In D q) (d:Int):In D (q*(d:Rat)):=by
 obtain ⟨n,rfl⟩:=h
 exact ⟨n*d,by rw [qB9];grind⟩
theorem In.up {D d:Int} {q:Rat} (hD:1≤D) (hd:1≤d) (h:In D q):In (d*D) q:=by
 obtain ⟨n,rfl⟩:=h
 have h1:=rne hD
 have h2:=rne hd
 refine ⟨d*n,?_⟩
 rw [qB9,qB9]
 grind
theorem In.div {D d:Int} {q:Rat} (hD:1≤D) (hd:1≤d) (h:In D q):In (d*D) (q / (d:Rat)):=by
 obtain ⟨n,rfl⟩:=h
 have h1:=rne hD
 have h2:=rne hd
 refine ⟨n,?_⟩
 rw [qB9]
 grind
theorem In.small {D M:Int} {q:Rat} (h:In D q) (hD:1≤D∧D≤1000000000000000000) (hM:M*D≤1000000000000000000) (h0:-(M:Rat)≤q) (h1:q≤(M:Rat)):small q:=by
 obtain ⟨n,rfl⟩:=h
 have hp:(0:Rat)<(D:Rat):=Rat.intCast_pos.2 (by omega)
 have e:(n:Rat) / (D:Rat)*(D:Rat)=(n:Rat):=Rat.div_mul_cancel (rne hD.1)
 have a:=Rat.mul_le_mul_of_nonneg_right h0 (qBp hp)
 have b:=Rat.mul_le_mul_of_nonneg_right h1 (qBp hp)
 rw [e] at a b
 have a':((-(M*D):Int):Rat)≤(n:Rat):=by rw [Rat.intCast_neg,qB9];grind
 have b':(n:Rat)≤((M*D:Int):Rat):=by rw [qB9];exact b
 have a2:=qAu.1 a'
 have b2:=qAu.1 b'
 exact yLs (d:=D) ⟨by omega,by omega⟩ ⟨by omega,by omega⟩
section
variable {len:Int} {cuts dens:List Int}
theorem yAN (h:VC len cuts dens) {i j:Nat} (hij:i≤j) (hj:j≤dens.length):((cuts.getD i 0:Int):Rat)≤((cuts.getD j 0:Int):Rat):=qAu.2 (h.mono hij (by have:=h.l1;omega))
theorem yP3 {D:Int} (hD:1≤D) {x:Rat} (hx:In D x) (i:Nat):In D (uC cuts i x):=by
 have n1:=yhT (maxR x (cuts.getD i 0:Int)) (cuts.getD (i+1) 0:Int)
 have m1:=ygx x (cuts.getD i 0:Int)
 unfold uC
 rcases n1.2.2 with e | e
 ·rw [e]
  rcases m1.2.2 with e2 | e2
  ·rw [e2];exact hx
  ·rw [e2];exact In.int hD _
 ·rw [e];exact In.int hD _
theorem yOK {D:Int} (hD:1≤D) {x:Rat} (hx:In D x):∀ (r i:Nat),In D (vu cuts dens x r i)
 | 0,_=>In.int hD 0
 | r+1,i=>by
  unfold vu
  rw [Rat.mul_comm]
  exact ((yP3 hD hx i).mulI _).add (yOK hD hx r (i+1))
theorem yKm {D:Int} (hD:1≤D) {x:Rat} (hx:In D x):In D (vX cuts dens x):=yOK hD hx _ _
theorem yM7 (h:VC len cuts dens):∀ (r i:Nat),i+r=dens.length→vu cuts dens (len:Rat) r i-vu cuts dens ((cuts.getD i 0:Int):Rat) r i=((rem cuts dens r i:Int):Rat)
 | 0,_,_=>by unfold vu rem;show (0:Rat)-0=0;grind
 | r+1,i,hi=>by
  have ih:=yM7 h r (i+1) (by omega)
  have hst:((cuts.getD i 0:Int):Rat)≤((cuts.getD (i+1) 0:Int):Rat):=yAN h (Nat.le_succ i) (by omega)
  have hl:((cuts.getD (i+1) 0:Int):Rat)≤(len:Rat):=by rw [← h.last];exact yAN h (by omega) (qAm _)
  have low:=yCS h r (i+1) (x:=((cuts.getD i 0:Int):Rat)) (y:=((cuts.getD (i+1) 0:Int):Rat)) (by omega) hst qAr
  have m1:=ygx (len:Rat) (cuts.getD i 0:Int)
  have n1:=yhT (maxR (len:Rat) (cuts.getD i 0:Int)) (cuts.getD (i+1) 0:Int)
  have m2:=ygx ((cuts.getD i 0:Int):Rat) (cuts.getD i 0:Int)
  have n2:=yhT (maxR ((cuts.getD i 0:Int):Rat) (cuts.getD i 0:Int)) (cuts.getD (i+1) 0:Int)
  have e1:uC cuts i (len:Rat)=((cuts.getD (i+1) 0:Int):Rat):=by unfold uC;grind
  have e2:uC cuts i ((cuts.getD i 0:Int):Rat)=((cuts.getD i 0:Int):Rat):=by unfold uC;grind
  unfold vu rem
  rw [e1,e2,low,Rat.intCast_add,qB9,Rat.intCast_sub,← ih]
  grind
theorem yCT (h:VC len cuts dens):vX cuts dens (len:Rat)-vX cuts dens 0=((totC cuts dens:Int):Rat):=by
 have c0:cuts.getD 0 0=0:=h.2.2.2.2.2.1
 have:=yM7 h dens.length 0 (by omega)
 rw [c0] at this
 unfold totC
 rw [yCJ,show (0:Int)+rem cuts dens dens.length 0=rem cuts dens dens.length 0 by omega]
 exact this
theorem yKn (h:VC len cuts dens):(1:Rat)≤(len:Rat)∧(len:Rat)≤1000:=by
 have:=h.len0
 exact ⟨qAu.2 this.1,qAu.2 this.2⟩
theorem yKo (h:VC len cuts dens) {i:Nat} (hi:i<dens.length):(0:Rat)≤((dens.getD i 0:Int):Rat)∧((dens.getD i 0:Int):Rat)≤12:=by
 have:=h.den hi
 exact ⟨qAu.2 this.1,qAu.2 this.2⟩
theorem yKp {x d:Rat} (h0:0≤x) (hd:0≤d∧d≤12):0≤x*d∧x*d≤12*x:=by
 have a:=Rat.mul_nonneg h0 hd.1
 have b:=qBy hd.2 h0
 exact ⟨a,by grind⟩
theorem yy6 (h:VC len cuts dens) {D:Int} (hD:1≤D∧D≤50000000000000) {b:Rat} (hb:In D b) (b1:b≤(len:Rat)) :
  ∀ (r i:Nat) (p sum:Rat),i+r=dens.length→In D p→In D sum→0≤p→p≤(len:Rat)→0≤sum→sum≤12*p→∃ v,valS cuts dens b r i p sum=.ok v
 | 0,i,p,sum,_,_,_,_,_,_,_=>⟨sum,rfl⟩
 | r+1,i,p,sum,hi,hp,hs,p0,p1,s0,s1=>by
  have l1:=h.l1
  have hl:=yKn h
  have hd:=yKo h (i:=i) (by omega)
  have hc1:((cuts.getD (i+1) 0:Int):Rat)≤(len:Rat):=by rw [← h.last];exact yAN h (by omega) (qAm _)
  unfold valS
  have hen:∃ en:Rat,(if b<((cuts.getD (i+1) 0:Int):Rat) then b else ((cuts.getD (i+1) 0:Int):Rat))=en∧In D en∧en≤(len:Rat):=by
   refine ⟨_,rfl,?_,?_⟩
   ·split
    ·exact hb
    ·exact In.int hD.1 _
   ·split <;> grind
  obtain ⟨en,e0,e1,e2⟩:=hen
  rw [e0]
  dsimp only
  split
  ·refine yy6 h hD hb b1 r (i+1) _ sum (by omega) ?_ hs ?_ ?_ s0 ?_
   ·split
    ·exact e1
    ·exact hp
   ·split <;> grind
   ·split <;> grind
   ·split <;> grind
  ·rename_i hn
   have hlt:p<en:=by
    refine Classical.byContradiction fun k=>hn (.inr k)
   have m:=yKp (x:=en-p) (by grind) hd
   have i1:=e1.sub hp
   have i2:=i1.mulI (dens.getD i 0)
   have i3:=hs.add i2
   rw [yn7 (i1.small (M:=1000) ⟨by omega,by omega⟩ (by omega) (by show -(1000:Rat)≤_;grind) (by show _≤(1000:Rat);grind)),
    yn7 (i2.small (M:=12000) ⟨by omega,by omega⟩ (by omega) (by show -(12000:Rat)≤_;grind) (by show _≤(12000:Rat);grind)),
    yn7 (i3.small (M:=12000) ⟨by omega,by omega⟩ (by omega) (by show -(12000:Rat)≤_;grind) (by show _≤(12000:Rat);grind))]
   exact yy6 h hD hb b1 r (i+1) en _ (by omega) e1 i3 (by grind) e2 (by grind) (by grind)
theorem yE0 (h:VC len cuts dens) {D:Int} (hD:1≤D∧D≤50000000000000) {a b:Rat} (ha:In D a) (hb:In D b) (a0:0≤a) (hab:a≤b) (b1:b≤(len:Rat)):valC cuts dens a b=.ok (vX cuts dens b-vX cuts dens a):=by
 obtain ⟨v,e⟩:=yy6 h hD hb b1 dens.length 0 a 0 (by omega) ha (In.int hD.1 0) a0 (by grind) (by grind) (by grind)
 have e:valC cuts dens a b=.ok v:=e
 rw [e,yOi h a0 hab e]
end
set_option maxRecDepth 100000
def UL (E:Env) (callK:CK) (lp:LP) (b:TC):Nat→Frm→Hp→(Ex→Frm→Hp→Prop)→Prop
 | 0,_,_,_=>False
 | n+1,F,H,Q=>WC E callK lp [] noYK b F H fun x F' H'=>match x with | .norm=>UL E callK lp b n F' H' Q | .exit i=>Q (.exit i) F' H' | .ret=>Q .ret F' H' | .brk k i=>Q (.brk k i) F' H'
theorem yM8 {E:Env} {P:EP} {id:Nat} {callK:CK} {lp:LP} {b:TC} (hP:Sub P E) (hG:Good P callK) (hf:yeB b=true) (hl:LpOk P E lp [] b) {n:Nat} {F:Frm} {H:Hp} {Q:Ex→Frm→Hp→Prop} (h:UL E callK lp b n F H Q):yp8 P (.loop id b) F H Q :=
 yp8.intro hP hG hf (YOk.no _ _) hl (fun n F H=>UL E callK lp b n F H Q) (fun _ _ h=>h) (fun _ _ _ h=>h) n F H h
section
variable (e:Es) (fa fb fe:PV→PV→Int)
def WG (c p:PV):Prop:=Ans (E e) ycL [c,p] (.tup [.agg [.int .i64 (fa c p),.int .i64 (fb c p)],.int .i64 (fe c p)])
def wpWr (az:List PV) (K:PV→Prop):Prop :=
 match az with
 | [c,p]=>WG e fa fb fe c p∧K (.tup [.agg [.int .i64 (fa c p),.int .i64 (fb c p)],.int .i64 (fe c p)])
 | _=>False
def wpCk (az:List PV) (K:PV→Prop):Prop:=Ans (E e) ye7 az (.int .i64 0)∧K (.int .i64 0)
def sW0:SE:=⟨E e,ydO [(ye7,wpCk e),(ycL,wpWr e fa fb fe)],ydP [],fun _ _ _ _ _=>False,fun _=>none⟩
def lpW1:LP:=fun id _ F H Q=>bif Nat.beq id 14283600 then UL (E e) (ylD (sW0 e fa fb fe) 1) (fun _ _ _ _ _=>False) ylI 8 F H Q else False
def lpW:LP:=fun id _ F H Q=>bif Nat.beq id 14283600 then UL (E e) (ylD (sW0 e fa fb fe) 1) (fun _ _ _ _ _=>False) ylI 8 F H Q else
 bif Nat.beq id 14283601 then UL (E e) (ylD (sW0 e fa fb fe) 1) (lpW1 e fa fb fe) yuQ 8 F H Q else False
def seqW (K:Option PV→Prop):List (PV×PV)→Prop→Prop
 | [],fin=>fin
 | q::r,fin=>WG e fa fb fe q.1 q.2∧cbr (fe q.1 q.2 != 0) (K (some (.tup [.data [],.int .i64 (fe q.1 q.2)]))) (seqW K r fin)
def prs (cs:List Ck) (ps:List (List PV)):List (PV×PV):=cs.flatMap fun c=>ps.map fun p=>(encC c,.data p)
def wtab (cs:List Ck) (ps:List (List PV)):List PV:=cs.map fun c=>.data (ps.map fun p=>.agg [.int .i64 (fa (encC c) (.data p)),.int .i64 (fb (encC c) (.data p))])
def pcsD (ps:List (List PV)):List PV:=ps.map fun p=>.data p
def wRun (cs:List Ck) (ps:List (List PV)) (K:Option PV→Prop):Prop :=
 WFn (E e) (ylD (sW0 e fa fb fe) 1) (lpW e fa fb fe) ykd [.data (cks cs),.agg [.data (pcsD ps)]] [] fun r H=>K (purN true H r)
def wAns (cs:List Ck) (ps:List (List PV)) (K:Option PV→Prop):Prop :=
 Ans (E e) ye7 [.data (cks cs),.agg [.data (pcsD ps)]] (.int .i64 0)∧seqW e fa fb fe K (prs cs ps) (K (some (.tup [.data (wtab fa fb cs ps),.int .i64 0])))
theorem yP4 (c0:Ck) (p0:List PV) (K:Option PV→Prop):wRun e fa fb fe [c0] [p0] K=wAns e fa fb fe [c0] [p0] K:=by kernel_rfl
theorem yP5 (c0 c1:Ck) (p0 p1:List PV) (K:Option PV→Prop):wRun e fa fb fe [c0,c1] [p0,p1] K=wAns e fa fb fe [c0,c1] [p0,p1] K:=by kernel_rfl
theorem yP6 (c0 c1 c2:Ck) (p0 p1 p2:List PV) (K:Option PV→Prop):wRun e fa fb fe [c0,c1,c2] [p0,p1,p2] K=wAns e fa fb fe [c0,c1,c2] [p0,p1,p2] K:=by kernel_rfl
theorem yP7 (c0 c1 c2 c3:Ck) (p0 p1 p2 p3:List PV) (K:Option PV→Prop):wRun e fa fb fe [c0,c1,c2,c3] [p0,p1,p2,p3] K=wAns e fa fb fe [c0,c1,c2,c3] [p0,p1,p2,p3] K:=by kernel_rfl
theorem yP8 (c0 c1 c2 c3 c4:Ck) (p0 p1 p2 p3 p4:List PV) (K:Option PV→Prop):wRun e fa fb fe [c0,c1,c2,c3,c4] [p0,p1,p2,p3,p4] K=wAns e fa fb fe [c0,c1,c2,c3,c4] [p0,p1,p2,p3,p4] K:=by kernel_rfl
theorem yP9 (c0 c1 c2 c3 c4 c5:Ck) (p0 p1 p2 p3 p4 p5:List PV) (K:Option PV→Prop):wRun e fa fb fe [c0,c1,c2,c3,c4,c5] [p0,p1,p2,p3,p4,p5] K=wAns e fa fb fe [c0,c1,c2,c3,c4,c5] [p0,p1,p2,p3,p4,p5] K:=by kernel_rfl
theorem yOL (he:EG e):SEOk (Uni (E e)) (sW0 e fa fb fe) :=
 yaE (Sub.uni _) ⟨fun _ _ h=>⟨_,h.2,h.1⟩,fun az K h=>by
  unfold wpWr at h
  split at h
  ·exact ⟨_,h.2,h.1⟩
  ·exact h.elim,trivial⟩ trivial he.ok
theorem yPt (he:EG e):LpOk (Uni (E e)) (E e) (lpW e fa fb fe) [] ykd.body:=by
 have hG:=yaW (yOL e fa fb fe he) 1
 have h0:LpOk (Uni (E e)) (E e) (fun _ _ _ _ _=>False) [] ylI:=yar (by kernel_rfl)
 have h1:LpOk (Uni (E e)) (E e) (lpW1 e fa fb fe) [] yuQ:=ybg (l:=[(14283600,.loop 14283600 ylI)]) ⟨fun F H Q h=>yM8 (Sub.uni _) hG (by kernel_rfl) h0 h,trivial⟩ (by kernel_rfl)
 exact ybg (l:=[(14283600,.loop 14283600 ylI),(14283601,.loop 14283601 yuQ)]) ⟨fun F H Q h=>yM8 (Sub.uni _) hG (by kernel_rfl) h0 h,fun F H Q h=>yM8 (Sub.uni _) hG (by kernel_rfl) h1 h,trivial⟩ (by kernel_rfl)
theorem yLB (he:EG e) {cs:List Ck} {ps:List (List PV)} {K:PV→Prop} (h:wRun e fa fb fe cs ps fun o=>∃ q,o=some q∧K q):∃ q,K q∧Ans (E e) ybE [.data (cks cs),.agg [.data (pcsD ps)]] q:=by
 have hf:(E e).fns ybE=some ykd.fn:=by kernel_rfl
 have hx:∀ az H,(E e).eff ybE az H=none:=he.num _ (by kernel_rfl)
 obtain ⟨r,H',⟨q,hp,hk⟩,m0,hm⟩:=yFJ (S:=⟨E e,fun _=>none,fun _=>none,lpW e fa fb fe,fun _=>none⟩) (callK:=ylD (sW0 e fa fb fe) 1) (Sub.uni _) (yaW (yOL e fa fb fe he) 1) (fn:=ykd) yp9.flat (yPt e fa fb fe he) (n:=ybE) hf hx h
 refine ⟨q,hk,m0,fun k x m hk1 hk2 hle=>?_⟩
 obtain ⟨_,l2,l3,_,_,l6,_⟩:=yhE hk2
 have hs:(E e).sum ybE [.data (cks cs),.agg [.data (pcsD ps)]]=none:=yaN (by kernel_rfl) _
 have hq:(E e).qui ybE=true:=by kernel_rfl
 have hn:(E e).nl ybE=true:=by kernel_rfl
 have hm':ycp x m ybE [.data (cks cs),.agg [.data (pcsD ps)]] []=some (r,H'):=hm k x m hk1 hk2 hle
 unfold yeM
 rw [l2,hs,l3,hq,hm',l6,hn]
 exact hp
end
theorem ya9 {α:Type} {l:List α} {n:Nat} (h:l.length=n+1):∃ a r,l=a::r∧r.length=n:=by
 cases l with
 | nil=>cases h
 | cons a r=>exact ⟨a,r,rfl,by simpa using h⟩
theorem yM9 (e:Es) (fa fb fe:PV→PV→Int) {cs:List Ck} {ps:List (List PV)} (hl:ps.length=cs.length) (h1:1≤cs.length) (h6:cs.length≤6) (K:Option PV→Prop):wRun e fa fb fe cs ps K=wAns e fa fb fe cs ps K:=by
 obtain ⟨n,hn⟩:∃ n,cs.length=n:=⟨_,rfl⟩
 rw [hn] at hl h1 h6
 obtain rfl | rfl | rfl | rfl | rfl | rfl:n=1∨n=2∨n=3∨n=4∨n=5∨n=6:=by omega
 ·obtain ⟨c0,cr0,hc0,hn0⟩:=ya9 hn
  subst hc0
  have hzc:=qAl hn0
  subst hzc
  obtain ⟨p0,pr0,hp0,hl0⟩:=ya9 hl
  subst hp0
  have hzp:=qAl hl0
  subst hzp
  exact yP4 e fa fb fe c0 p0 K
 ·obtain ⟨c0,cr0,hc0,hn0⟩:=ya9 hn
  subst hc0
  obtain ⟨c1,cr1,hc1,hn1⟩:=ya9 hn0
  subst hc1
  have hzc:=qAl hn1
  subst hzc
  obtain ⟨p0,pr0,hp0,hl0⟩:=ya9 hl
  subst hp0
  obtain ⟨p1,pr1,hp1,hl1⟩:=ya9 hl0
  subst hp1
  have hzp:=qAl hl1
  subst hzp
  exact yP5 e fa fb fe c0 c1 p0 p1 K
 ·obtain ⟨c0,cr0,hc0,hn0⟩:=ya9 hn
  subst hc0
  obtain ⟨c1,cr1,hc1,hn1⟩:=ya9 hn0
  subst hc1
  obtain ⟨c2,cr2,hc2,hn2⟩:=ya9 hn1
  subst hc2
  have hzc:=qAl hn2
  subst hzc
  obtain ⟨p0,pr0,hp0,hl0⟩:=ya9 hl
  subst hp0
  obtain ⟨p1,pr1,hp1,hl1⟩:=ya9 hl0
  subst hp1
  obtain ⟨p2,pr2,hp2,hl2⟩:=ya9 hl1
  subst hp2
  have hzp:=qAl hl2
  subst hzp
  exact yP6 e fa fb fe c0 c1 c2 p0 p1 p2 K
 ·obtain ⟨c0,cr0,hc0,hn0⟩:=ya9 hn
  subst hc0
  obtain ⟨c1,cr1,hc1,hn1⟩:=ya9 hn0
  subst hc1
  obtain ⟨c2,cr2,hc2,hn2⟩:=ya9 hn1
  subst hc2
  obtain ⟨c3,cr3,hc3,hn3⟩:=ya9 hn2
  subst hc3
  have hzc:=qAl hn3
  subst hzc
  obtain ⟨p0,pr0,hp0,hl0⟩:=ya9 hl
  subst hp0
  obtain ⟨p1,pr1,hp1,hl1⟩:=ya9 hl0
  subst hp1
  obtain ⟨p2,pr2,hp2,hl2⟩:=ya9 hl1
  subst hp2
  obtain ⟨p3,pr3,hp3,hl3⟩:=ya9 hl2
  subst hp3
  have hzp:=qAl hl3
  subst hzp
  exact yP7 e fa fb fe c0 c1 c2 c3 p0 p1 p2 p3 K
 ·obtain ⟨c0,cr0,hc0,hn0⟩:=ya9 hn
  subst hc0
  obtain ⟨c1,cr1,hc1,hn1⟩:=ya9 hn0
  subst hc1
  obtain ⟨c2,cr2,hc2,hn2⟩:=ya9 hn1
  subst hc2
  obtain ⟨c3,cr3,hc3,hn3⟩:=ya9 hn2
  subst hc3
  obtain ⟨c4,cr4,hc4,hn4⟩:=ya9 hn3
  subst hc4
  have hzc:=qAl hn4
  subst hzc
  obtain ⟨p0,pr0,hp0,hl0⟩:=ya9 hl
  subst hp0
  obtain ⟨p1,pr1,hp1,hl1⟩:=ya9 hl0
  subst hp1
  obtain ⟨p2,pr2,hp2,hl2⟩:=ya9 hl1
  subst hp2
  obtain ⟨p3,pr3,hp3,hl3⟩:=ya9 hl2
  subst hp3
  obtain ⟨p4,pr4,hp4,hl4⟩:=ya9 hl3
  subst hp4
  have hzp:=qAl hl4
  subst hzp
  exact yP8 e fa fb fe c0 c1 c2 c3 c4 p0 p1 p2 p3 p4 K
 ·obtain ⟨c0,cr0,hc0,hn0⟩:=ya9 hn
  subst hc0
  obtain ⟨c1,cr1,hc1,hn1⟩:=ya9 hn0
  subst hc1
  obtain ⟨c2,cr2,hc2,hn2⟩:=ya9 hn1
  subst hc2
  obtain ⟨c3,cr3,hc3,hn3⟩:=ya9 hn2
  subst hc3
  obtain ⟨c4,cr4,hc4,hn4⟩:=ya9 hn3
  subst hc4
  obtain ⟨c5,cr5,hc5,hn5⟩:=ya9 hn4
  subst hc5
  have hzc:=qAl hn5
  subst hzc
  obtain ⟨p0,pr0,hp0,hl0⟩:=ya9 hl
  subst hp0
  obtain ⟨p1,pr1,hp1,hl1⟩:=ya9 hl0
  subst hp1
  obtain ⟨p2,pr2,hp2,hl2⟩:=ya9 hl1
  subst hp2
  obtain ⟨p3,pr3,hp3,hl3⟩:=ya9 hl2
  subst hp3
  obtain ⟨p4,pr4,hp4,hl4⟩:=ya9 hl3
  subst hp4
  obtain ⟨p5,pr5,hp5,hl5⟩:=ya9 hl4
  subst hp5
  have hzp:=qAl hl5
  subst hzp
  exact yP9 e fa fb fe c0 c1 c2 c3 c4 c5 p0 p1 p2 p3 p4 p5 K
def wPV (t:Int×Int×Int):PV:=.tup [.agg [.int .i64 t.1,.int .i64 t.2.1],.int .i64 t.2.2]
open Classical in
noncomputable def wOf (e:Es) (c p:PV):Int×Int×Int:=if h:∃ t,Ans (E e) ycL [c,p] (wPV t) then Classical.choose h else (0,0,0)
theorem yGI {e:Es} {c p:PV} {t:Int×Int×Int} (h:Ans (E e) ycL [c,p] (wPV t)):wOf e c p=t:=by
 have hx:∃ t,Ans (E e) ycL [c,p] (wPV t):=⟨t,h⟩
 unfold wOf
 rw [dif_pos hx]
 have h2:=Ans.unique (Classical.choose_spec hx) h
 generalize Classical.choose hx=u at h2
 obtain ⟨a,b,c⟩:=u
 obtain ⟨a',b',c'⟩:=t
 unfold wPV at h2
 cases h2
 rfl
theorem yQa {e:Es} {c p:PV} {t:Int×Int×Int} (h:Ans (E e) ycL [c,p] (wPV t)):WG e (fun c p=>(wOf e c p).1) (fun c p=>(wOf e c p).2.1) (fun c p=>(wOf e c p).2.2) c p:=by
 unfold WG
 have:=yGI h
 dsimp only
 rw [this]
 exact h
theorem yKq {e:Es} {fa fb fe:PV→PV→Int} {K:Option PV→Prop} {fin:Prop}:∀ {l:List (PV×PV)},(∀ q∈l,WG e fa fb fe q.1 q.2)→((∀ q∈l,fe q.1 q.2=0)→fin)→(∀ q∈l,fe q.1 q.2≠0→K (some (.tup [.data [],.int .i64 (fe q.1 q.2)])))→seqW e fa fb fe K l fin
 | [],_,h,_=>h fun q hq=>by cases hq
 | q::r,hg,h,hk=>by
  refine ⟨hg q qAg,?_⟩
  by_cases h0:fe q.1 q.2=0
  ·rw [h0]
   refine yKq (fun x hx=>hg x (qAf _ hx)) (fun hr=>h fun x hx=>?_) fun x hx=>hk x (qAf _ hx)
   rcases qAk.1 hx with rfl | hx
   ·exact h0
   ·exact hr x hx
  ·have e1:(fe q.1 q.2 != 0)=true:=by simpa using h0
   rw [e1]
   exact hk q qAg h0
theorem yPu {e:Es} (he:EG e) {c:Ck} {p:List PV} {t:Int×Int×Int} (h:∀ K:Int→Int→Int→Prop,ycd c.len (ints c.cuts) (ints c.dens) p K=K t.1 t.2.1 t.2.2):Ans (E e) ycL [encC c,.data p] (wPV t):=by
 have hw:yrC [encC c,.data p] (fun q=>q=wPV t):=by
  have e0:yrC [encC c,.data p] (fun q=>q=wPV t)=ycd c.len (ints c.cuts) (ints c.dens) p (fun r0 r1 r2=>PV.tup [.agg [.int .i64 r0,.int .i64 r1],.int .i64 r2]=wPV t):=by kernel_rfl
  rw [e0,h]
  rfl
 obtain ⟨q,hq,ha⟩:=yrF e he [encC c,.data p] (fun q=>q=wPV t) hw
 rw [hq] at ha
 exact ha
theorem yNa {cs:List Ck} {ps:List (List PV)} (hl:ps.length=cs.length) (h1:1≤cs.length) (h6:cs.length≤6) (hc:∀ K,ydD (cks cs) (pcsD ps) K=K 0) {F:Ck→List PV→Int×Int×Int}
  (hW:∀ c∈cs,∀ p∈ps,∀ K,ycd c.len (ints c.cuts) (ints c.dens) p K=K (F c p).1 (F c p).2.1 (F c p).2.2) {r0:List PV} {r1:Int}
  (h0:(∀ c∈cs,∀ p∈ps,(F c p).2.2=0)→r0=cs.map (fun c=>.data (ps.map fun p=>.agg [.int .i64 (F c p).1,.int .i64 (F c p).2.1]))∧r1=0)
  (hx:∀ c∈cs,∀ p∈ps,(F c p).2.2≠0→r0=[]∧r1=(F c p).2.2) (K:List PV→Int→Prop):ya3 (cks cs) (pcsD ps) K=K r0 r1:=by
 refine yAs _ _ _ _ (fun K k=>?_) K
 refine ⟨r0,r1,k,fun e he=>?_⟩
 have hA:∀ c∈cs,∀ p∈ps,Ans (E e) ycL [encC c,.data p] (wPV (F c p)):=fun c hc p hp=>yPu he (hW c hc p hp)
 have hq:∀ q∈prs cs ps,∃ c∈cs,∃ p∈ps,q=(encC c,PV.data p):=fun q hq=>by
  unfold prs at hq
  obtain ⟨c,hc,hq⟩:=List.mem_flatMap.1 hq
  obtain ⟨p,hp,rfl⟩:=qBl.1 hq
  exact ⟨c,hc,p,hp,rfl⟩
 have hck:Ans (E e) ye7 [.data (cks cs),.agg [.data (pcsD ps)]] (.int .i64 0):=by
  have hw:yrW [.data (cks cs),.agg [.data (pcsD ps)]] (fun q=>q=.int .i64 0):=by
   have e0:yrW [.data (cks cs),.agg [.data (pcsD ps)]] (fun q=>q=.int .i64 0)=ydD (cks cs) (pcsD ps) (fun r0=>PV.int .i64 r0=.int .i64 0):=by kernel_rfl
   rw [e0,hc]
  obtain ⟨q,hq,ha⟩:=yrX e he [.data (cks cs),.agg [.data (pcsD ps)]] (fun q=>q=.int .i64 0) hw
  rw [hq] at ha
  exact ha
 have hrun:wRun e (fun c p=>(wOf e c p).1) (fun c p=>(wOf e c p).2.1) (fun c p=>(wOf e c p).2.2) cs ps fun o=>∃ q,o=some q∧q=.tup [.data r0,.int .i64 r1]:=by
  rw [yM9 _ _ _ _ hl h1 h6]
  refine ⟨hck,yKq (fun q hq'=>?_) (fun hz=>?_) fun q hq' hn=>?_⟩
  ·obtain ⟨c,hc,p,hp,rfl⟩:=hq q hq'
   exact yQa (hA c hc p hp)
  ·have hz':∀ c∈cs,∀ p∈ps,(F c p).2.2=0:=fun c hc p hp=>by
    have:=hz (encC c,.data p) (List.mem_flatMap.2 ⟨c,hc,qBl.2 ⟨p,hp,rfl⟩⟩)
    dsimp only at this
    rw [yGI (hA c hc p hp)] at this
    exact this
   obtain ⟨e1,e2⟩:=h0 hz'
   refine ⟨_,rfl,?_⟩
   rw [e1,e2]
   unfold wtab
   congr 3
   refine List.map_congr_left fun c hc=>?_
   congr 1
   refine List.map_congr_left fun p hp=>?_
   dsimp only
   rw [yGI (hA c hc p hp)]
  ·obtain ⟨c,hc,p,hp,rfl⟩:=hq q hq'
   dsimp only at hn ⊢
   rw [yGI (hA c hc p hp)] at hn ⊢
   obtain ⟨e1,e2⟩:=hx c hc p hp hn
   exact ⟨_,rfl,by rw [e1,e2]⟩
 obtain ⟨q,hq',ha⟩:=yLB e _ _ _ he hrun
 rw [hq'] at ha
 exact ha
end Go.Pf.Vc
namespace Go.Pf.Vc
def yst (a b:List RS):Bool:=a.any fun s=>b.any fun t=>decide (s.1<t.2)&&decide (t.1<s.2)
theorem yCU {a b:List RS} (ha:∀ s∈a,s.1<s.2) (hb:∀ s∈b,s.1<s.2):yst a b=true↔∃ p,memP a p∧memP b p:=by
 unfold yst
 simp only [List.any_eq_true,qAb,decide_eq_true_eq]
 constructor
 ·rintro ⟨s,hs,t,ht,h1,h2⟩
  have k1:=ha s hs
  have k2:=hb t ht
  by_cases h:s.1<t.1
  ·exact ⟨t.1,⟨s,hs,by grind,h2⟩,⟨t,ht,qAr,k2⟩⟩
  ·exact ⟨s.1,⟨s,hs,qAr,k1⟩,⟨t,ht,by grind,h1⟩⟩
 ·rintro ⟨p,⟨s,hs,h1,h2⟩,⟨t,ht,h3,h4⟩⟩
  exact ⟨s,hs,t,ht,by grind,by grind⟩
def gapS (len:Rat):List RS→Rat→Bool
 | [],at_=>decide (at_<len)
 | s::r,at_=>if at_<s.1 then true else gapS len r (if at_<s.2 then s.2 else at_)
theorem yH5 {len:Rat}:∀ (l:List RS) (at_:Rat),yn8 l→(∀ s∈l,s.1<s.2)→(∀ s∈l,s.2≤len)→(gapS len l at_=true↔∃ p,at_≤p∧p<len∧¬memP l p)
 | [],at_,_,_,_=>by
  unfold gapS
  rw [decide_eq_true_eq]
  exact ⟨fun h=>⟨at_,qAr,h,yjh⟩,fun ⟨p,h1,h2,_⟩=>by grind⟩
 | s::r,at_,hs,hv,hl=>by
  unfold gapS
  have s1:=hv s qAg
  have s2:=hl s qAg
  by_cases h:at_<s.1
  ·rw [if_pos h]
   refine ⟨fun _=>⟨at_,qAr,by grind,fun hm=>?_⟩,fun _=>rfl⟩
   rcases ybW.1 hm with hm | ⟨t,ht,hm,_⟩
   ·have:=hm.1;grind
   ·have:=hs.1 t ht;grind
  ·rw [if_neg h,yH5 r _ hs.2 (fun t ht=>hv t (qAf _ ht)) (fun t ht=>hl t (qAf _ ht))]
   constructor
   ·rintro ⟨p,h1,h2,h3⟩
    have h1':at_≤p∧s.2≤p:=by split at h1 <;> exact ⟨by grind,by grind⟩
    refine ⟨p,h1'.1,h2,fun hm=>?_⟩
    rcases ybW.1 hm with hm | hm
    ·have:=hm.2;grind
    ·exact h3 hm
   ·rintro ⟨p,h1,h2,h3⟩
    refine ⟨p,?_,h2,fun hm=>h3 (ybW.2 (.inr hm))⟩
    have hn:¬inS s p:=fun hm=>h3 (ybW.2 (.inl hm))
    have:s.2≤p:=qB8.1 fun hlt=>hn ⟨by grind,hlt⟩
    split <;> assumption
def unR:List (List RS)→List RS
 | []=>[]
 | a::r=>setR a (unR r) 0
theorem yJl:∀ (l:List (List RS)),(∀ a∈l,yfd a)→yfd (unR l)∧∀ p,memP (unR l) p↔∃ a∈l,memP a p
 | [],_=>⟨trivial,fun p=>⟨fun h=>(yjh h).elim,fun ⟨a,h,_⟩=>by cases h⟩⟩
 | a::r,h=>by
  obtain ⟨h1,h2⟩:=yJl r fun x hx=>h x (qAf _ hx)
  refine ⟨(yxu (c:=Or) (fun x=>yCP) (by simp)).1,fun p=>?_⟩
  show memP (setR a (unR r) 0) p↔_
  rw [yLy,h2]
  constructor
  ·rintro (h | ⟨b,hb,h⟩)
   ·exact ⟨a,qAg,h⟩
   ·exact ⟨b,qAf _ hb,h⟩
  ·rintro ⟨b,hb,hm⟩
   rcases qAk.1 hb with e | hb
   ·subst e;exact .inl hm
   ·exact .inr ⟨b,hb,hm⟩
def yGJ:List (List RS)→Prop
 | []=>True
 | a::r=>(∀ b∈r,∀ p,memP a p→¬memP b p)∧yGJ r
def sumL (V:Rat→Rat):List (List RS)→Rat
 | []=>0
 | a::r=>sumV (dV V) a+sumL V r
theorem yKr (V:Rat→Rat):∀ (l:List (List RS)),(∀ a∈l,yfd a)→yGJ l→sumV (dV V) (unR l)=sumL V l
 | [],_,_=>rfl
 | a::r,h,ha=>by
  have hr:∀ x∈r,yfd x:=fun x hx=>h x (qAf _ hx)
  obtain ⟨h1,h2⟩:=yJl r hr
  have hs:=yM3 V (h a qAg) h1
  have hm:setR a (unR r) 1=[]:=by
   refine ye4 _ _ (yxu (c:=And) (fun x=>yEZ) (by simp)).1 trivial fun p=>⟨fun hp=>?_,fun hp=>(yjh hp).elim⟩
   obtain ⟨p1,p2⟩:=yM2.1 hp
   obtain ⟨b,hb,p3⟩:=(h2 p).1 p2
   exact absurd p3 (ha.1 b hb p p1)
  rw [hm] at hs
  have h0:sumV (dV V) []=0:=rfl
  have ih:=yKr V r hr ha.2
  show sumV (dV V) (setR a (unR r) 0)=sumV (dV V) a+sumL V r
  rw [h0] at hs
  rw [← ih]
  grind
theorem yLC (V:Rat→Rat) {len:Rat} (hlen:0<len) {l:List (List RS)} (hc:∀ a∈l,yfd a) (hw:∀ a∈l,∀ s∈a,0≤s.1∧s.2≤len) (ha:yGJ l) (hg:∀ p,0≤p→p<len→∃ a∈l,memP a p):sumL V l=V len-V 0:=by
 obtain ⟨h1,h2⟩:=yJl l hc
 have hu:unR l=[(0,len)]:=by
  refine ye4 _ _ h1 ⟨hlen,(fun t ht=>by cases ht),trivial⟩ fun p=>?_
  rw [h2]
  constructor
  ·rintro ⟨a,hb,s,hs,q1,q2⟩
   have:=hw a hb s hs
   exact ⟨(0,len),qAg,by show (0:Rat)≤p;grind,by show p<len;grind⟩
  ·rintro ⟨s,hs,q⟩
   rcases qAk.1 hs with rfl | hs
   ·exact hg p q.1 q.2
   ·cases hs
 rw [← yKr V l hc ha,hu]
 show (V len-V 0)+0=_
 grind
theorem yNb {α:Type} (f:α→Rat) (m:Rat):∀ (l:List α),(∀ a∈l,f a≤m)→(l.map f).sum≤(l.length:Rat)*m
 | [],_=>by simp
 | a::r,h=>by
  have ih:=yNb f m r fun x hx=>h x (qAf _ hx)
  have h1:=h a qAg
  have e:(((a::r).length:Nat):Rat)=(r.length:Rat)+1:=by
   rw [qAo]
   push_cast
   rfl
  rw [qBs,List.sum_cons,e]
  grind
theorem yH6 (V:Rat→Rat):∀ (l:List (List RS)),sumL V l=(l.map fun a=>sumV (dV V) a).sum
 | []=>rfl
 | a::r=>by
  rw [qBs,List.sum_cons,← yH6 V r]
  rfl
end Go.Pf.Vc
namespace Go.Pf.Vc
open Go Go.Pf
theorem ykA {q r:Rat} (hq:small q) (hr:small r) (K:Bool→Prop):yap q.num q.den r.num r.den K=K (decide (q<r)):=by
 unfold yap ynK
 rw [yxq hq hr,yHY]
theorem ylo (n:Int) (K:Int→Int→Prop):yaP n K=K (n:Rat).num (n:Rat).den:=rfl
def meets (s t:RS):Bool:=decide (s.1<t.2)&&decide (t.1<s.2)
theorem yH7 {s:RS} (h:ycb s) {B:List RS} (hs:∀ t∈B,ycb t) (hl:B.length<4611686018427387904) {x0:Int→Int→Int→Int→List PV→Int→Int→Bool→Prop} {x1:Int→Int→Int→Int→Int→Prop} {K:Bool→Prop}
  (hx0:∀ a b c d l i k q,x0 a b c d l i k q=K false) (hx1:∀ a b c d i,0≤i→x1 a b c d i=K true) :
  ∀ (r i n:Nat),i+r=B.length→r<n→ydd yap x0 x1 n s.1.num s.1.den s.2.num s.2.den (rsp B) (B.length:Int) (i:Int)=K ((B.drop i).any (meets s)):=by
 intro r
 induction r with
 | zero =>
  intro i n hi hn
  obtain ⟨n,rfl⟩:∃ m,n=m+1:=⟨n-1,by omega⟩
  obtain rfl:i=B.length:=by omega
  rw [ydd,cbF (by omega),List.drop_length,hx0]
  rfl
 | succ r ih =>
  intro i n hi hn
  obtain ⟨n,rfl⟩:∃ m,n=m+1:=⟨n-1,by omega⟩
  have hil:i<B.length:=by omega
  have e1:=wib (n:=(i:Int)+1) (by omega) (by omega)
  have hd:B.drop i=B.getD i default::B.drop (i+1):=yde default hil
  have hx:=yp0 hs hil
  rw [ydd,cbT (by omega)]
  dsimp only [lt,Go.Pf.jn]
  rw [ybZ,asT (by omega),asT (by omega),qAe,ypZ hil,asR,yzI,yEY,yzJ,yzK,ykA h.1 hx.2,e1,ycP,hd,List.any_cons]
  unfold meets
  cases decide (s.1<(B.getD i default).2) with
  | false =>
   rw [yaf,yaf,qBb,Bool.false_or]
   exact ih (i+1) n (by omega) (by omega)
  | true =>
   rw [yau,qAz,ykA hx.1 h.2]
   cases decide ((B.getD i default).1<s.2) with
   | false =>
    rw [yaf,Bool.false_or]
    exact ih (i+1) n (by omega) (by omega)
   | true =>
    rw [yau,hx1 _ _ _ _ _ (by omega)]
    rfl
theorem yLD {s:RS} (h:ycb s) {B:List RS} (hs:∀ t∈B,ycb t) (hl:B.length<4611686018427387904) (K:Bool→Prop):ycv s.1.num s.1.den s.2.num s.2.den (rsp B) K=K (B.any (meets s)):=by
 refine yxc _ _ _ _ _ _ (fun K k=>?_) K
 unfold ycv yjU
 dsimp only [Go.Pf.jn]
 refine ⟨B.length+1,?_⟩
 rw [ybZ]
 exact (yH7 h hs hl (K:=K) (fun _ _ _ _ _ _ _ _=>rfl) (fun _ _ _ _ i hi=>by rw [decide_eq_true hi]) B.length 0 (B.length+1) (by omega) (by omega)).mpr (by rw [qBa];exact k)
theorem yJm {A B:List RS} (ha:∀ s∈A,ycb s) (hb:∀ t∈B,ycb t) (hla:A.length<4611686018427387904) (hlb:B.length<4611686018427387904) {x0:List PV→List PV→Int→Int→Bool→Prop} {x1:List PV→Int→Prop} {K:Bool→Prop}
  (hx0:∀ l m i k q,x0 l m i k q=K false) (hx1:∀ l i,0≤i→x1 l i=K true) :
  ∀ (r i n:Nat),i+r=A.length→r<n→ydU ycv x0 x1 n (rsp B) (rsp A) (A.length:Int) (i:Int)=K (yst (A.drop i) B):=by
 intro r
 induction r with
 | zero =>
  intro i n hi hn
  obtain ⟨n,rfl⟩:∃ m,n=m+1:=⟨n-1,by omega⟩
  obtain rfl:i=A.length:=by omega
  rw [ydU,cbF (by omega),List.drop_length,hx0]
  rfl
 | succ r ih =>
  intro i n hi hn
  obtain ⟨n,rfl⟩:∃ m,n=m+1:=⟨n-1,by omega⟩
  have hil:i<A.length:=by omega
  have e1:=wib (n:=(i:Int)+1) (by omega) (by omega)
  have hd:A.drop i=A.getD i default::A.drop (i+1):=yde default hil
  have hx:=yp0 ha hil
  rw [ydU,cbT (by omega)]
  dsimp only [lt,Go.Pf.jn]
  rw [ybZ,asT (by omega),asT (by omega),qAe,ypZ hil,asR,yzI,yEY,yzJ,yzK,yLD hx hb hlb,e1,ycP,hd]
  have e:yst (A.getD i default::A.drop (i+1)) B=(B.any (meets (A.getD i default))||yst (A.drop (i+1)) B):=rfl
  rw [e]
  cases B.any (meets (A.getD i default)) with
  | false =>
   rw [yaf,Bool.false_or]
   exact ih (i+1) n (by omega) (by omega)
  | true =>
   rw [yau,hx1 _ _ (by omega)]
   rfl
theorem yNc {A B:List RS} (ha:∀ s∈A,ycb s) (hb:∀ t∈B,ycb t) (hla:A.length<4611686018427387904) (hlb:B.length<4611686018427387904) (K:Bool→Prop):yay (rsp A) (rsp B) K=K (yst A B):=by
 refine yAt _ _ _ (fun K k=>?_) K
 unfold yay yl7
 dsimp only [Go.Pf.jn]
 refine ⟨A.length+1,?_⟩
 rw [ybZ]
 exact (yJm ha hb hla hlb (K:=K) (fun _ _ _ _ _=>rfl) (fun _ i hi=>by rw [decide_eq_true hi]) A.length 0 (A.length+1) (by omega) (by omega)).mpr (by rw [qBa];exact k)
section
variable {cs:List Ck} {ps:List (List Sp)}
theorem ycD {α:Type} {l:List α} {i:Nat} (d:α) (h:i<l.length):l.getD i d∈l:=by
 rw [qAa,qAc h]
 exact qB5 h
end
structure DV (cs:List Ck) (A:List (List RS)):Prop where
 d:DK cs
 l:A.length=cs.length
 p:∀ a∈A,Pc a
 m:∀ a∈A,a.length≤20
 w:∀ a∈A,yM4 (cs.getD 0 default).len a=true
theorem datD (l:List PV):yaY (PV.data l)=l:=rfl
def rspL (A:List (List RS)):List PV:=A.map fun a=>.data (rsp a)
theorem yga (A:List (List RS)):(rspL A).length=A.length:=qAq ..
theorem yni {A:List (List RS)} {i:Nat} (h:i<A.length):List.getD (rspL A) i .nils=.data (rsp (A.getD i [])):=by
 unfold rspL
 rw [qAa,qAa,qA9,qAc h]
 rfl
section
variable {cs:List Ck} {ps:List (List Sp)} {A:List (List RS)}
theorem DV.len0 (h:DV cs A):1≤(cs.getD 0 default).len∧(cs.getD 0 default).len≤1000:=(h.d.ok 0 (by have:=h.d.n0;omega)).len0
theorem DV.wi (h:DV cs A):∀ a∈A,Wi (cs.getD 0 default).len a:=fun a ha=>yM5 (h.w a ha)
theorem yCV (h:DV cs A) {WA WW WL} {x0:List PV→List PV→List PV→Int→Int→Bool→Prop} {x1:Int→Prop} :
  ∀ (r i n:Nat),i+r=A.length→r<n→ydT WA ybj WW WL x0 x1 n (cks cs) (rspL A) (rspL A) (A.length:Int) (i:Int)=x0 (cks cs) (rspL A) (rspL A) (A.length:Int) (A.length:Int) false
 | 0,i,n+1,hi,hn=>by
  rw [ydT,cbF (by omega),show (i:Int)=A.length by omega]
 | r+1,i,n+1,hi,hn=>by
  have h6:=h.d.n6;have hl:=h.l
  have e1:=wib (n:=(i:Int)+1) (by omega) (by omega)
  have hm:=ycD [] (show i<A.length by omega)
  rw [ydT]
  dsimp only [lt,Go.Pf.jn]
  rw [cbT (by omega),yga,asT (by omega),asT (by omega),qAe,yni (by omega),asD]
  show ybj (rsp (A.getD i [])) _=_
  rw [(h.p _ hm).check,e1,ycP]
  show cbr false _ _=_
  rw [yaf]
  exact yCV h r (i+1) n (by omega) (by omega)
theorem yCW (h:DV cs A) {WA WC} {x0:List PV→List PV→Int→Int→Bool→Prop} {x1:Int→Prop} :
  ∀ (r i n:Nat),i+r=A.length→r<n→yc5 WA WC yaP yap x0 x1 n (cks cs) (rspL A) (A.length:Int) (i:Int)=x0 (cks cs) (rspL A) (A.length:Int) (A.length:Int) false
 | 0,i,n+1,hi,hn=>by
  rw [yc5,cbF (by omega),show (i:Int)=A.length by omega]
 | r+1,i,n+1,hi,hn=>by
  have h6:=h.d.n6;have hl:=h.l;have h1:=h.d.n0;have l0:=h.len0
  have e1:=wib (n:=(i:Int)+1) (by omega) (by omega)
  have hm:=ycD [] (show i<A.length by omega)
  have p:=h.p _ hm
  have hw:=h.wi _ hm
  have pn:=p.n
  have ih:=yCW h (WA:=WA) (WC:=WC) (x0:=x0) (x1:=x1) r (i+1) n (by omega) (by omega)
  rw [yc5]
  dsimp only [lt,Go.Pf.jn]
  rw [cbT (by omega),yga,asT (by omega),asT (by omega),qAe,yni (by omega),asD,datD]
  generalize A.getD i []=a at p hw pn
  rw [ybZ,e1,ycP]
  by_cases ha:a.length=0
  ·rw [cbF (by omega),yaf]
   exact ih
  ·have h0:0<a.length:=by omega
   have m0:=ycD (default:RS) h0
   have m1:=ycD (default:RS) (show a.length-1<a.length by omega)
   have w0:=hw _ m0
   have w1:=hw _ m1
   have s1:=p.s _ m1
   have n0:0≤(a.getD 0 default).1.num:=Rat.num_nonneg.2 w0.1
   have e2:=wib (n:=(a.length:Int)-1) (by omega) (by omega)
   have et:((a.length:Int)-1).toNat=a.length-1:=by omega
   have sl:small ((cs.getD 0 default).len:Rat):=yj6 (by omega)
   rw [cbT (by omega),asT (by omega),ypZ h0,asR,yzI,cbF (by omega),ybC,asT (by omega),yfB (by omega),asCk,ck0,ylo,e2,asT (by omega),asT (by omega),et,ypZ (by omega),asR,yzJ,yzK,ykA sl s1.2,cbF (by grind)]
   exact ih
theorem yOl (h:DV cs A) (K:Int→Prop):ydD (cks cs) (rspL A) K=K 0:=by
 have h6:=h.d.n6;have hl:=h.l
 refine yAr _ _ _ (fun K k=>?_) K
 unfold ydD ylX
 rw [yln h.d.fin (by omega)]
 show cbr (yjv cs 0 != 0) _ _
 rw [cnF (h.d.err (by omega)),yga,ybC,cnF (by omega)]
 refine ⟨A.length+1,(yCV h A.length 0 (A.length+1) (by omega) (by omega)).mpr ?_⟩
 show ∃ n,yc5 _ _ _ _ _ _ n (cks cs) (rspL A) (((rspL A).length:Nat):Int) 0
 rw [yga]
 exact ⟨A.length+1,(yCW h A.length 0 (A.length+1) (by omega) (by omega)).mpr k⟩
end
def wV (c:Ck) (a:List RS):Rat:=sumV (dV (vX c.cuts c.dens)) a
def tabW (cs:List Ck) (A:List (List RS)):List PV:=cs.map fun c=>.data (rts (A.map (wV c)))
open Classical in
noncomputable def fW (c:Ck) (p:List PV):Int×Int×Int:=if h:∃ t:Int×Int×Int,∀ K:Int→Int→Int→Prop,ycd c.len (ints c.cuts) (ints c.dens) p K=K t.1 t.2.1 t.2.2 then Classical.choose h else (0,0,0)
theorem yQb {c:Ck} {p:List PV} {t:Int×Int×Int} (h:∀ K:Int→Int→Int→Prop,ycd c.len (ints c.cuts) (ints c.dens) p K=K t.1 t.2.1 t.2.2):fW c p=t:=by
 have hx:∃ t:Int×Int×Int,∀ K:Int→Int→Int→Prop,ycd c.len (ints c.cuts) (ints c.dens) p K=K t.1 t.2.1 t.2.2:=⟨t,h⟩
 unfold fW
 rw [dif_pos hx]
 have h2:=Classical.choose_spec hx (fun a b c=>(a,b,c)=t)
 rw [h] at h2
 exact h2.mp rfl
theorem ysu {α:Type} {l:List α} {x:α} (d:α) (h:x∈l):∃ i,i<l.length∧l.getD i d=x:=by
 obtain ⟨i,hi,e⟩:=List.getElem_of_mem h
 exact ⟨i,hi,by rw [qAa,qAc hi];exact e⟩
section
variable {cs:List Ck} {A:List (List RS)}
theorem DK.mem (h:DK cs) {c:Ck} (hc:c∈cs):c.ok∧c.len=(cs.getD 0 default).len:=by
 obtain ⟨i,hi,rfl⟩:=ysu default hc
 exact ⟨h.ok i hi,h.len i hi⟩
end
def tot (A:List (List RS)):Nat:=(A.map List.length).sum
theorem yxz (a:List RS) (A:List (List RS)):tot (a::A)=a.length+tot A:=by unfold tot;rw [qBs,List.sum_cons]
theorem yH8:∀ A:List (List RS),A.flatten.length=tot A
 | []=>rfl
 | a::r=>by rw [List.flatten_cons,qAi,yH8 r,yxz]
theorem yNd {m:Nat}:∀ {A:List (List RS)},(∀ a∈A,a.length≤m)→tot A≤A.length*m
 | [],_=>by simp [tot]
 | a::r,h=>by
  have h1:=h a qAg
  have h2:=yNd (m:=m) fun x hx=>h x (qAf a hx)
  rw [yxz,qAo,Nat.succ_mul]
  omega
section
variable {cs:List Ck} {A:List (List RS)}
theorem yE1 (hl:A.length≤6) (hm:∀ a∈A,a.length≤20) {WW WL} {x0:List PV→Int→List PV→Int→Int→Bool→Prop} {l0:List PV} :
  ∀ (r i n s:Nat),i+r=A.length→r<n→s≤20*i→ycH WW WL x0 n l0 (s:Int) (rspL A) (A.length:Int) (i:Int)=x0 l0 ((s+tot (A.drop i):Nat):Int) (rspL A) (A.length:Int) (A.length:Int) false
 | 0,i,n+1,s,hi,hn,hs=>by
  rw [ycH,cbF (by omega),qA3 (by omega),show (i:Int)=A.length by omega]
  rfl
 | r+1,i,n+1,s,hi,hn,hs=>by
  have e1:=wib (n:=(i:Int)+1) (by omega) (by omega)
  have hx:=ycD [] (show i<A.length by omega)
  have hx2:=hm _ hx
  have hd:A.drop i=A.getD i []::A.drop (i+1):=yde [] (by omega)
  have ih:=yE1 hl hm (WW:=WW) (WL:=WL) (x0:=x0) (l0:=l0) r (i+1) n (s+(A.getD i []).length) (by omega) (by omega) (by omega)
  rw [ycH]
  dsimp only [lt,Go.Pf.jn]
  rw [cbT (by omega),yga,asT (by omega),asT (by omega),qAe,yni (by omega),asD,datD,ybZ,hd,yxz,e1,ycP]
  generalize (A.getD i []).length=k at hx2 ih
  have e2:=wib (n:=(s:Int)+(k:Int)) (by omega) (by omega)
  rw [e2,cbF (by omega),← Int.natCast_add,ih]
  congr 2
  omega
def zSp:PV:=.agg [.int .i64 0,.int .i64 0,.int .i64 0,.int .i64 0]
theorem yE2 (hl:A.length≤6) {WW WL} {x1:List PV→Nat→List PV→Int→Int→Bool→Prop} :
  ∀ (r i n:Nat) (done:List RS),i+r=A.length→r<n→ybI WW WL x1 n (rsp done++List.replicate (tot (A.drop i)) zSp) done.length (rspL A) (A.length:Int) (i:Int)=x1 (rsp (done++(A.drop i).flatten)) (done++(A.drop i).flatten).length (rspL A) (A.length:Int) (A.length:Int) false
 | 0,i,n+1,done,hi,hn=>by
  rw [ybI,cbF (by omega),qA3 (by omega),show (i:Int)=A.length by omega]
  show x1 (rsp done++[]) _ _ _ _ _=x1 (rsp (done++[])) (done++[]).length _ _ _ _
  rw [qB3,qB3]
 | r+1,i,n+1,done,hi,hn=>by
  have e1:=wib (n:=(i:Int)+1) (by omega) (by omega)
  have hd:A.drop i=A.getD i []::A.drop (i+1):=yde [] (by omega)
  have ih:=yE2 hl (WW:=WW) (WL:=WL) (x1:=x1) r (i+1) n (done++A.getD i []) (by omega) (by omega)
  rw [ybI]
  dsimp only [lt,Go.Pf.jn]
  rw [cbT (by omega),yga,asT (by omega),asT (by omega),qAe,yni (by omega),asD,datD,yH1,yaR,hd,yxz,List.flatten_cons,e1,ycP,ybZ]
  generalize A.getD i []=a at ih
  have hlen:(rsp done++List.replicate (a.length+tot (A.drop (i+1))) zSp).length=done.length+(a.length+tot (A.drop (i+1))):=by
   rw [qAi,ybZ,qBg]
  rw [asT rfl,asT (by rw [hlen];omega)]
  rw [show done++(a++(A.drop (i+1)).flatten)=(done++a)++(A.drop (i+1)).flatten from (qBc ..).symm]
  cases ha:a with
  | nil =>
   rw [ha,qB3] at ih
   show cbr true _ _=_
   rw [yau,asT rfl,qB3,List.length_nil,qA4]
   exact ih
  | cons b t =>
   rw [← ha]
   have hemp:List.isEmpty (rsp a)=false:=by rw [ha];rfl
   have hnew:List.take (0+done.length) (rsp done++List.replicate (a.length+tot (A.drop (i+1))) zSp)++(rsp a++List.drop (0+done.length+a.length) (rsp done++List.replicate (a.length+tot (A.drop (i+1))) zSp))=rsp (done++a)++List.replicate (tot (A.drop (i+1))) zSp:=by
    rw [qA4,← yKi,List.take_append_of_le_length (by rw [ybZ];omega),qBo (by rw [ybZ];omega),List.drop_append,qA3 (by rw [ybZ];omega),qBv,ybZ,show done.length+a.length-done.length=a.length by omega,List.drop_replicate,show a.length+tot (A.drop (i+1))-a.length=tot (A.drop (i+1)) by omega,qBc]
   have hlen2:(rsp (done++a)++List.replicate (tot (A.drop (i+1))) zSp).length=done.length+(a.length+tot (A.drop (i+1))):=by
    rw [qAi,ybZ,qAi,qBg];omega
   rw [hemp,yaf,asT (by rw [hlen];omega),hnew,asT (by rw [hlen,hlen2])]
   rw [qAi] at ih
   exact ih
theorem yE3 {len:Int} {l:List RS} (hs:∀ s∈l,ycb s) (hl:l.length<1000) {l1 l2 l3 l4:List PV} {x0:List PV→List PV→List PV→List PV→List PV→Int→Int→Nat→Int→Int→Bool→Prop} {x1:List PV→Bool→Prop} {K:Bool→Prop}
  (h0:∀ q:Rat,small q→x0 (rsp l) l1 l2 l3 l4 q.num q.den l.length (l.length:Int) (l.length:Int) false=K (decide (q<(len:Rat)))) (h1:x1 (rsp l) true=K true) :
  ∀ (r i n:Nat) (q:Rat),i+r=l.length→r<n→small q→ycJ yaP yap x0 x1 n (rsp l) l1 l2 l3 l4 q.num q.den l.length (l.length:Int) (i:Int)=K (gapS (len:Rat) (l.drop i) q)
 | 0,i,n+1,q,hi,hn,hq=>by
  rw [ycJ,cbF (by omega),qA3 (by omega),show (i:Int)=l.length by omega,h0 q hq]
  rfl
 | r+1,i,n+1,q,hi,hn,hq=>by
  have e1:=wib (n:=(i:Int)+1) (by omega) (by omega)
  have hd:l.drop i=l.getD i default::l.drop (i+1):=yde default (by omega)
  have hx:=yp0 hs (show i<l.length by omega)
  have ih:=fun q hq=>yE3 hs hl h0 h1 r (i+1) n q (by omega) (by omega) hq
  rw [ycJ]
  dsimp only [lt,Go.Pf.jn]
  rw [cbT (by omega),asT (by omega),asT (by omega),ybZ,asT rfl,qAe,qA4,asT (by omega),ypZ (by omega),asR,yzI,yEY,yzJ,yzK,ykA hq hx.1,hd,e1,ycP]
  generalize l.getD i default=t at hx
  unfold gapS
  by_cases hlt:q<t.1
  ·rw [decide_eq_true hlt,yau,if_pos hlt]
   exact h1
  ·rw [decide_eq_false hlt,yaf,if_neg hlt,ykA hq hx.2]
   by_cases hlt2:q<t.2
   ·rw [decide_eq_true hlt2,yau,asT rfl,if_pos hlt2]
    exact ih t.2 hx.2
   ·rw [decide_eq_false hlt2,yaf,asT rfl,if_neg hlt2]
    exact ih q hq
theorem yCX (hl:A.length≤6) (hz:∀ a∈A,a=[]) {WW WL} {x0:List PV→Int→Int→Bool→Prop} {x1:List PV→Nat→List PV→Int→Int→Bool→Prop} :
  ∀ (r i n:Nat),i+r=A.length→r<n→ycI WW WL x0 x1 n (rspL A) (A.length:Int) (i:Int)=x0 (rspL A) (A.length:Int) (A.length:Int) false
 | 0,i,n+1,hi,hn=>by
  rw [ycI,cbF (by omega),show (i:Int)=A.length by omega]
 | r+1,i,n+1,hi,hn=>by
  have e1:=wib (n:=(i:Int)+1) (by omega) (by omega)
  have hx:=hz _ (ycD [] (show i<A.length by omega))
  rw [ycI]
  dsimp only [lt,Go.Pf.jn]
  rw [cbT (by omega),yga,asT (by omega),asT (by omega),qAe,yni (by omega),asD,datD,hx,yH1,yaR,e1,ycP]
  show cbr true _ _=_
  rw [yau]
  exact yCX hl hz r (i+1) n (by omega) (by omega)
theorem yNe (hl:A.length≤6) {WW WL} (x1:List PV→Nat→List PV→Int→Int→Bool→Prop):ybI WW WL x1 (A.length+1) (List.replicate (tot A) zSp) 0 (rspL A) (A.length:Int) 0=x1 (rsp A.flatten) A.flatten.length (rspL A) (A.length:Int) (A.length:Int) false:=by
 have hg:=yE2 (A:=A) hl (WW:=WW) (WL:=WL) (x1:=x1) A.length 0 (A.length+1) [] (by omega) (by omega)
 rw [qBa,qBv] at hg
 exact hg
theorem DV.tot120 (h:DV cs A):tot A≤120:=by
 have h1:=yNd h.m
 have h2:=h.l;have h3:=h.d.n6
 have:A.length*20≤6*20:=qAj _ (by omega)
 omega
theorem DV.flatS (h:DV cs A):∀ s∈A.flatten,ycb s:=fun s hs=>by
 obtain ⟨a,ha,hs⟩:=List.mem_flatten.1 hs
 exact (h.p a ha).s s hs
theorem DV.flatV (h:DV cs A):∀ s∈A.flatten,s.1<s.2:=fun s hs=>by
 obtain ⟨a,ha,hs⟩:=List.mem_flatten.1 hs
 exact ykz (h.p a ha).c s hs
theorem DV.gap (h:DV cs A) (W PT:List PV):∃ l:List RS,l.Perm A.flatten∧yn8 l∧∀ K,yaj (cks cs) (rspL A) W PT K=K (gapS ((cs.getD 0 default).len:Rat) l 0):=by
 have h6:=h.d.n6;have h1:=h.d.n0;have hl:=h.l;have l0:=h.len0;have ht:=h.tot120
 have hfS:=h.flatS
 have hfV:=h.flatV
 obtain ⟨m,p1,p2,p3⟩:=yEX ya1 yc9 (l:=A.flatten.map spOf) (fun s hs=>by
  obtain ⟨r,hr,rfl⟩:=qBl.1 hs
  exact yng (hfS r hr) (hfV r hr))
 have hm:∀ s∈m,s.ok:=fun s hs=>by
  obtain ⟨r,hr,rfl⟩:=qBl.1 (p1.mem_iff.1 hs)
  exact yng (hfS r hr) (hfV r hr)
 have hp:(rsL m).Perm A.flatten:=by
  have:=p1.map Sp.rs
  rw [List.map_map] at this
  have e:A.flatten.map (Sp.rs ∘ spOf)=A.flatten:=by
   conv=>rhs;rw [← List.map_id A.flatten]
   exact List.map_congr_left fun r hr=>yGF (hfS r hr)
  rw [e] at this
  exact this
 have hb:yn8 (rsL m):=yy4 (List.pairwise_map.2 p2)
 refine ⟨rsL m,hp,hb,fun K=>?_⟩
 refine ytk _ _ _ _ _ (fun K k=>?_) K
 have sl:small ((cs.getD 0 default).len:Rat):=yj6 (by omega)
 have hfl:=yH8 A
 have hend:∀ (q:Rat),small q→asr (decide ((0:Int)<(((cks cs).length:Nat):Int))) (asr (conf zK (List.getD (cks cs) 0 .nils)) (yaP (yaa (yab (List.getD (cks cs) 0 .nils) 0)) fun a b=>yap q.num q.den a b fun b=>K b))=K (decide (q<((cs.getD 0 default).len:Rat))):=fun q hq=>by
  rw [ybC,asT (by omega),yfB (by omega),asCk,ck0,ylo,ykA hq sl]
 unfold yaj yh6
 dsimp only [Go.Pf.jn,lt]
 refine ⟨A.length+1,?_⟩
 rw [yga]
 refine (yE1 (by omega) h.m A.length 0 (A.length+1) 0 (by omega) (by omega) (by omega)).mpr ?_
 rw [qBa,qA4,cbF (by omega)]
 have e2:=wib (n:=((tot A:Nat):Int)-0) (by omega) (by omega)
 rw [e2,show ((tot A:Nat):Int)-0=((tot A:Nat):Int) by omega]
 by_cases hz:tot A=0
 ·have hze:∀ a∈A,a=[]:=fun a ha=>by
   have hfe:=qAl (hfl.trans hz)
   exact List.flatten_eq_nil_iff.1 hfe a ha
  have hml:rsL m=[]:=qAl (by rw [hp.length_eq,hfl,hz])
  rw [hml] at k
  rw [cbF (by omega)]
  refine ⟨A.length+1,?_⟩
  rw [yga]
  refine (yCX (by omega) hze A.length 0 (A.length+1) (by omega) (by omega)).mpr ?_
  rw [ylo]
  refine ⟨1,?_⟩
  rw [ygk,cbF (by omega)]
  exact (hend 0 yCQ).mpr k
 ·rw [cbT (by omega),asT (by omega),qAe,cbF (by omega),qBg,asT (by unfold room;omega)]
  have hor:(decide ((0:Int)≤((tot A:Nat):Int))||decide ((0:Int)≤((tot A:Nat):Int)))=true:=by rw [decide_eq_true (by omega)];rfl
  rw [hor,yaR,asT rfl]
  refine ⟨A.length+1,?_⟩
  rw [yga]
  refine (yNe (by omega) _).mpr ?_
  have hcond:Srt.cond yqF.s (rsp A.flatten) 0 A.flatten.length (rsp A.flatten).length 4 false=true:=by
   obtain ⟨d,hd⟩:∃ d,(yqF).s.rows? (rsp A.flatten)=some d:=ysO fun y hy=>by
    obtain ⟨s,h4,rfl⟩:=qBl.1 hy
    obtain ⟨q,hq,rfl⟩:=qBl.1 h4
    exact yJj _ _ (yng (hfS q hq) (hfV q hq))
   unfold Srt.cond
   rw [qBa,show List.take A.flatten.length (rsp A.flatten)=rsp A.flatten by rw [← ybZ,qAw],hd,ybZ]
   simp only [decide_true,qAz,qB0,Option.isSome_some,Bool.and_true,qAb,decide_eq_true_eq,qA4,qAm]
   exact ⟨by omega,rfl,by omega⟩
  rw [hcond,yaR,ylo]
  have hsrt:Srt.sorted yqF.s yqF.srt (rsp A.flatten)=rsp (rsL m):=by
   rw [show rsp A.flatten=yfc (A.flatten.map spOf) from rfl,← yy3 hm]
   exact p3
  have hlm:(rsL m).length=A.flatten.length:=hp.length_eq
  have htk:List.take A.flatten.length (rsp A.flatten)=rsp A.flatten:=by rw [← ybZ,qAw]
  have hdp:List.drop A.flatten.length (rsp A.flatten)=[]:=by rw [← ybZ,List.drop_length]
  rw [List.take_zero,qBa,htk,hsrt,qBv,qA4,hdp,qB3,ybZ,ybZ,asT (by rw [hlm]),← hlm]
  refine ⟨(rsL m).length+1,?_⟩
  have hms:∀ s∈rsL m,ycb s:=fun s hs=>hfS s (hp.mem_iff.1 hs)
  have h2:=yE3 (len:=(cs.getD 0 default).len) (l:=rsL m) hms (by omega) (l1:=cks cs) (l2:=rspL A) (l3:=W) (l4:=PT) (K:=K)
   (x0:=fun _ l _ _ _ a b _ _ _ _=>asr (decide ((0:Int)<(((List.length l):Nat):Int))) (asr (conf zK (List.getD l 0 .nils)) (yaP (yaa (yab (List.getD l 0 .nils) 0)) fun c d=>yap a b c d fun b=>K b))) (x1:=fun _ b=>K b)
   (fun q hq=>hend q hq) rfl (rsL m).length 0 ((rsL m).length+1) 0 (by omega) (by omega) yCQ
  refine h2.mpr ?_
  rw [qBa]
  exact k
end
theorem yOm {x d:Int} (h0:0≤x) (h1:x≤1000000000000000000) (d0:1≤d) (d1:d≤1000000000000000000):small ((x:Rat) / (d:Rat)):=by
 have hd:(d:Rat)≠0:=by
  have:(0:Rat)<(d:Rat):=Rat.intCast_pos.2 (by omega)
  grind
 generalize hq:(x:Rat) / (d:Rat)=q
 have e1:(q.num:Rat)*(d:Rat)=(x:Rat)*(q.den:Rat):=by
  have h2:(q.den:Rat)≠0:=by
   have:(0:Rat)<(q.den:Rat):=Rat.natCast_pos.2 q.den_pos
   grind
  have h3:q=(q.num:Rat) / (q.den:Rat):=by rw [← Rat.mkRat_eq_div,Rat.mkRat_self]
  have h4:q*(q.den:Rat)=(q.num:Rat):=by
   have:(q.num:Rat) / (q.den:Rat)*(q.den:Rat)=(q.num:Rat):=Rat.div_mul_cancel h2
   rw [← h3] at this
   exact this
  have h5:q*(d:Rat)=(x:Rat):=by rw [← hq];exact Rat.div_mul_cancel hd
  grind
 have e2:q.num*d=x*(q.den:Int):=by
  rw [show (q.den:Rat)=(((q.den:Nat):Int):Rat) from (Rat.intCast_natCast _).symm,← qB9,← qB9] at e1
  exact Rat.intCast_inj.1 e1
 have hp:=q.den_pos
 have n0:0≤q.num:=by
  refine Int.not_lt.1 fun h=>?_
  have a1:q.num*d<0:=Int.mul_neg_of_neg_of_pos h (by omega)
  have a2:0≤x*(q.den:Int):=qBj h0 (by omega)
  omega
 have hdv:q.den∣d.natAbs:=by
  have hc:Nat.Coprime q.den q.num.natAbs:=q.reduced.symm
  refine hc.dvd_of_dvd_mul_left (m:=q.num.natAbs) ?_
  have:(q.num*d).natAbs=(x*(q.den:Int)).natAbs:=by rw [e2]
  rw [Int.natAbs_mul,Int.natAbs_mul,Int.natAbs_natCast] at this
  rw [this]
  exact Nat.dvd_mul_left ..
 obtain ⟨t,ht⟩:=hdv
 have hd2:d=(q.den:Int)*(t:Int):=by
  rw [← Int.natCast_mul,← ht];omega
 have t1:1≤t:=by
  rcases Nat.eq_zero_or_pos t with h | h
  ·rw [h] at hd2;omega
  ·exact h
 have e3:q.num*(t:Int)=x:=by
  have:(q.num*(t:Int))*(q.den:Int)=x*(q.den:Int):=by rw [← e2,hd2,Int.mul_assoc,Int.mul_comm (t:Int)]
  exact Int.eq_of_mul_eq_mul_right (by omega) this
 have e4:q.num≤q.num*(t:Int):=by
  have:=Int.mul_le_mul_of_nonneg_left (show (1:Int)≤(t:Int) by omega) n0
  omega
 have e5:(q.den:Int)≤(q.den:Int)*(t:Int):=by
  have:=Int.mul_le_mul_of_nonneg_left (show (1:Int)≤(t:Int) by omega) (show (0:Int)≤(q.den:Int) by omega)
  omega
 exact ⟨by omega,by omega,by omega⟩
def yqA (f:Nat→Bool):Nat→Nat→Option Nat
 | 0,_=>none
 | r+1,i=>if f i then some i else yqA f r (i+1)
def ycG (f:Nat→Nat→Bool) (n:Nat):Nat→Nat→Option (Nat×Nat)
 | 0,_=>none
 | r+1,i=>match yqA (f i) n 0 with
  | some j=>some (i,j)
  | none=>ycG f n r (i+1)
theorem yo1 (cs:List Ck) (A:List (List RS)):(tabW cs A).length=cs.length:=qAq ..
theorem yxA {cs:List Ck} {A:List (List RS)} {i:Nat} (h:i<cs.length):List.getD (tabW cs A) i .nils=.data (rts (A.map (wV (cs.getD i default)))):=by
 unfold tabW
 rw [qAa,qAa,qA9,qAc h]
 rfl
theorem yxB {c:Ck} {A:List (List RS)} {i:Nat} (h:i<A.length):(A.map (wV c)).getD i 0=wV c (A.getD i []):=by
 rw [qAa,qAa,qA9,qAc h]
 rfl
def wr0 (A:List (List RS)) (a b:Nat):Bool:=decide (a<b)&&yst (A.getD a []) (A.getD b [])
def yvK (cs:List Ck) (a:Nat):Rat:=((totC (cs.getD a default).cuts (cs.getD a default).dens:Int):Rat) / ((cs.length:Int):Rat)
def wr1 (cs:List Ck) (A:List (List RS)) (a b:Nat):Bool:=decide (a=b)&&decide (wV (cs.getD a default) (A.getD a [])<yvK cs a)
def wr2 (cs:List Ck) (A:List (List RS)) (a b:Nat):Bool:=decide (wV (cs.getD a default) (A.getD a [])<wV (cs.getD a default) (A.getD b []))
def wr3 (P:List Rat) (a b:Nat):Bool:=decide (b=0)&&!decide (P.getD a 0=P.getD 0 0)
def wr4 (A:List (List RS)) (a b:Nat):Bool:=decide (a=b)&&decide ((A.getD a []).length≠1)
section
variable {cs:List Ck} {A:List (List RS)}
theorem DV.small (h:DV cs A) (hw:∀ c∈cs,∀ a∈A,small (wV c a)) {i j:Nat} (hi:i<cs.length) (hj:j<cs.length):Go.Pf.Vc.small (wV (cs.getD i default) (A.getD j [])) :=
 hw _ (ycD _ hi) _ (ycD _ (by rw [h.l];exact hj))
theorem yGK (a b:Nat):(((a:Int)) ==(b:Int))=decide (a=b):=by
 rw [Bool.eq_iff_iff,beq_iff_eq,decide_eq_true_eq];omega
theorem yH9 {c:Ck} {n:Nat} (hc:c.ok) (h1:1≤n) (h6:n≤6):small (((totC c.cuts c.dens:Int):Rat) / ((n:Int):Rat)):=by
 have:=yj7 hc
 exact yOm (by omega) (by omega) (by omega) (by omega)
theorem yQc (h:DV cs A) {l2 l3 l4 l5 l6 l7:List PV} {i9 i10:Int} {x0:List PV→List PV→List PV→List PV→List PV→List PV→List PV→List PV→Int→Int→Int→Int→Int→Bool→Prop} {x1:List PV→List PV→List PV→List PV→Int→Int→Bool→Prop} {a j n:Nat} (ha:a<cs.length) (hj:j<cs.length) :
 ybl yay yaj yan yaA yap x0 x1 (n+1) (cks cs) (rspL A) l2 l3 l4 l5 l6 l7 (a:Int) i9 i10 (cs.length:Int) (j:Int)=cbr (wr0 A a j) (x1 (cks cs) (rspL A) l2 l3 (a:Int) (j:Int) true) (ybl yay yaj yan yaA yap x0 x1 n (cks cs) (rspL A) l2 l3 l4 l5 l6 l7 (a:Int) i9 i10 (cs.length:Int) ((j+1:Nat):Int)):=by
 have h6:=h.d.n6;have h1:=h.d.n0;have hl:=h.l
 have e1:=wib (n:=(j:Int)+1) (by omega) (by omega)
 rw [ybl,cbT (by omega)]
 dsimp only [lt,Go.Pf.jn]
 have ja:=h.p _ (ycD [] (show a<A.length by omega))
 have jb:=h.p _ (ycD [] (show j<A.length by omega))
 have na:=ja.n
 have nb:=jb.n
 unfold wr0
 by_cases hlt:a<j
 ·rw [decide_eq_true hlt,cbT (by omega),yga,asT (by omega),asT (by omega),qAe,yni (by omega),asD,asT (by omega),asT (by omega),qAe,yni (by omega),asD,datD,datD,yNc ja.s jb.s (by omega) (by omega),qAz,e1,ycP]
 ·rw [decide_eq_false hlt,cbF (by omega),qBb,e1,ycP]
theorem yQd (h:DV cs A) (hw:∀ c∈cs,∀ a∈A,small (wV c a)) {l3 l4 l5 l6 l7:List PV} {i9 i10:Int} {x0:List PV→List PV→List PV→List PV→List PV→List PV→List PV→List PV→Int→Int→Int→Int→Int→Bool→Prop} {x1:List PV→List PV→List PV→List PV→Int→Int→Bool→Prop} {a j n:Nat} (ha:a<cs.length) (hj:j<cs.length) :
 ybm yay yaj yan yaA yap x1 x0 (n+1) (cks cs) (rspL A) (tabW cs A) l3 l4 l5 l6 l7 (a:Int) i9 i10 (cs.length:Int) (j:Int)=cbr (wr1 cs A a j) (x1 (cks cs) (rspL A) (tabW cs A) l3 (a:Int) (j:Int) true) (ybm yay yaj yan yaA yap x1 x0 n (cks cs) (rspL A) (tabW cs A) l3 l4 l5 l6 l7 (a:Int) i9 i10 (cs.length:Int) ((j+1:Nat):Int)):=by
 have h6:=h.d.n6;have h1:=h.d.n0;have hl:=h.l
 have e1:=wib (n:=(j:Int)+1) (by omega) (by omega)
 rw [ybm,cbT (by omega)]
 dsimp only [lt,Go.Pf.jn]
 have hok:=(h.d.ok a ha)
 have l1:=hok.l1;have l2:=hok.l2
 have hto:=yj7 hok
 have hT:I64 (totC (cs.getD a default).cuts (cs.getD a default).dens):=by constructor <;> omega
 have hN:I64 (cs.length:Int):=by constructor <;> omega
 have hss:small (yvK cs a):=yH9 hok h1 h6
 rw [asT (by omega),ybC,asT (by omega),qAe,yfB ha,asCk,ck0,ck1,ck2,yyY (by omega) (by omega),if_pos hok.ck,yMI hT hN (by omega)]
 unfold yvK at hss
 unfold fitK
 rw [if_pos hss]
 dsimp only
 rw [yGK,e1,ycP]
 unfold wr1 yvK
 by_cases hab:a=j
 ·rw [decide_eq_true hab,yau,asT (by omega),yo1,asT (by omega),yxA ha,asD,asT (by omega),datD,yji,qAq,asT (by omega),ykP (by rw [qAq];omega),asW,yt5,yt6,yxB (by omega),qAz]
  rw [ykA (h.small hw ha ha) hss]
 ·rw [decide_eq_false hab,yaf,qBb]
theorem yQe (h:DV cs A) (hw:∀ c∈cs,∀ a∈A,small (wV c a)) {l3 l4 l5 l6 l7:List PV} {i9 i10:Int} {x0:List PV→List PV→List PV→List PV→List PV→List PV→List PV→List PV→Int→Int→Int→Int→Int→Bool→Prop} {x1:List PV→List PV→List PV→List PV→Int→Int→Bool→Prop} {a j n:Nat} (ha:a<cs.length) (hj:j<cs.length) :
 ybn yay yaj yan yaA yap x1 x0 (n+1) (cks cs) (rspL A) (tabW cs A) l3 l4 l5 l6 l7 (a:Int) i9 i10 (cs.length:Int) (j:Int)=cbr (wr2 cs A a j) (x1 (cks cs) (rspL A) (tabW cs A) l3 (a:Int) (j:Int) true) (ybn yay yaj yan yaA yap x1 x0 n (cks cs) (rspL A) (tabW cs A) l3 l4 l5 l6 l7 (a:Int) i9 i10 (cs.length:Int) ((j+1:Nat):Int)):=by
 have h6:=h.d.n6;have h1:=h.d.n0;have hl:=h.l
 have e1:=wib (n:=(j:Int)+1) (by omega) (by omega)
 rw [ybn,cbT (by omega)]
 dsimp only [lt,Go.Pf.jn]
 unfold wr2
 rw [asT (by omega),yo1,asT (by omega),qAe,yxA ha,asD,asT (by omega),datD,yji,qAq,asT (by omega),ykP (by rw [qAq];omega),asW,asT (by omega),asT (by omega),asT (by omega),asT (by omega),qAe,ykP (by rw [qAq];omega),asW,yt5,yt6,yt5,yt6,yxB (by omega),yxB (by omega),ykA (h.small hw ha ha) (h.small hw ha hj),e1,ycP,asD]
theorem yQf (h:DV cs A) {P:List Rat} (hP:P.length=cs.length) {l2 l4 l5 l6 l7:List PV} {i9 i10:Int} {x0:List PV→List PV→List PV→List PV→List PV→List PV→List PV→List PV→Int→Int→Int→Int→Int→Bool→Prop} {x1:List PV→List PV→List PV→List PV→Int→Int→Bool→Prop} {a j n:Nat} (ha:a<cs.length) (hj:j<cs.length) :
 ybo yay yaj yan yaA yap x1 x0 (n+1) (cks cs) (rspL A) l2 (rts P) l4 l5 l6 l7 (a:Int) i9 i10 (cs.length:Int) (j:Int)=cbr (wr3 P a j) (x1 (cks cs) (rspL A) l2 (rts P) (a:Int) (j:Int) true) (ybo yay yaj yan yaA yap x1 x0 n (cks cs) (rspL A) l2 (rts P) l4 l5 l6 l7 (a:Int) i9 i10 (cs.length:Int) ((j+1:Nat):Int)):=by
 have h6:=h.d.n6;have h1:=h.d.n0;have hl:=h.l
 have e1:=wib (n:=(j:Int)+1) (by omega) (by omega)
 rw [ybo,cbT (by omega)]
 dsimp only [lt,Go.Pf.jn]
 unfold wr3
 rw [show ((j:Int) ==(0:Int))=decide (j=0) from yGK j 0,e1,ycP]
 by_cases hab:j=0
 ·rw [decide_eq_true hab,yau,asT (by omega),yji,asT (by omega),qAe,ykP (by omega),asW,asT (by omega),ykP (by omega),asW,yt5,yt6,yt5,yt6,yP2,qAz]
 ·rw [decide_eq_false hab,yaf,qBb]
theorem yQg (h:DV cs A) {l2 l3 l4 l5 l6 l7:List PV} {i9 i10:Int} {x0:List PV→List PV→List PV→List PV→List PV→List PV→List PV→List PV→Int→Int→Int→Int→Int→Bool→Prop} {x1:List PV→List PV→List PV→List PV→Int→Int→Bool→Prop} {a j n:Nat} (_:a<cs.length) (hj:j<cs.length) :
 ybp yay yaj yan yaA yap x1 x0 (n+1) (cks cs) (rspL A) l2 l3 l4 l5 l6 l7 (a:Int) i9 i10 (cs.length:Int) (j:Int)=cbr (wr4 A a j) (x1 (cks cs) (rspL A) l2 l3 (a:Int) (j:Int) true) (ybp yay yaj yan yaA yap x1 x0 n (cks cs) (rspL A) l2 l3 l4 l5 l6 l7 (a:Int) i9 i10 (cs.length:Int) ((j+1:Nat):Int)):=by
 have h6:=h.d.n6;have h1:=h.d.n0;have hl:=h.l
 have e1:=wib (n:=(j:Int)+1) (by omega) (by omega)
 rw [ybp,cbT (by omega)]
 dsimp only [lt,Go.Pf.jn]
 unfold wr4
 rw [yGK,e1,ycP]
 by_cases hab:a=j
 ·have hne:((((A.getD a []).length:Nat):Int) !=(1:Int))=decide ((A.getD a []).length≠1):=by
   rw [Bool.eq_iff_iff,bne_iff_ne,decide_eq_true_eq];omega
  rw [decide_eq_true hab,yau,asT (by omega),yga,asT (by omega),qAe,yni (by omega),asD,datD,ybZ,hne,qAz]
 ·rw [decide_eq_false hab,yaf,qBb]
end
def onB (X:Nat→Prop) (Y:Prop):Option Nat→Prop
 | some j=>X j
 | none=>Y
def onA (X:Nat→Nat→Prop) (Y:Prop):Option (Nat×Nat)→Prop
 | some (a,b)=>X a b
 | none=>Y
theorem ysP {f:Nat→Bool} {N:Nat} {L:Nat→Nat→Prop} {X:Nat→Prop} {Y:Prop} (hs:∀ n j,j<N→L (n+1) j=cbr (f j) (X j) (L n (j+1))) (he:∀ n,L (n+1) N=Y) :
  ∀ (r j n:Nat),j+r=N→r<n→L n j=onB X Y (yqA f r j)
 | 0,j,n+1,hj,_=>by
  obtain rfl:j=N:=by omega
  rw [he];rfl
 | r+1,j,n+1,hj,hn=>by
  rw [hs n j (by omega),yqA]
  cases f j with
  | true=>rw [yau];rfl
  | false=>rw [yaf];exact ysP hs he r (j+1) n (by omega) (by omega)
theorem yo2 {f:Nat→Nat→Bool} {N:Nat} {L:Nat→Nat→Prop} {X:Nat→Nat→Prop} {Y:Prop} (hs:∀ n a,a<N→onB (X a) (L n (a+1)) (yqA (f a) N 0)→L (n+1) a) (he:∀ n,Y→L (n+1) N) :
  ∀ (r a n:Nat),a+r=N→r<n→onA X Y (ycG f N r a)→L n a
 | 0,a,n+1,ha,_,h=>by
  obtain rfl:a=N:=by omega
  exact he n h
 | r+1,a,n+1,ha,hn,h=>by
  refine hs n a (by omega) ?_
  rw [ycG] at h
  cases hb:yqA (f a) N 0 with
  | some j=>rw [hb] at h;exact h
  | none=>rw [hb] at h;exact yo2 hs he r (a+1) n (by omega) (by omega) h
section
variable {cs:List Ck} {A:List (List RS)}
theorem yQh (h:DV cs A) {l2 l3:List PV} {x0:List PV→List PV→List PV→List PV→List PV→List PV→List PV→List PV→Int→Int→Bool→Prop} {x1:List PV→List PV→List PV→List PV→Int→Int→Bool→Prop} :
  ∀ (r a n:Nat),a+r=cs.length→r<n→onA (fun a b=>x1 (cks cs) (rspL A) l2 l3 (a:Int) (b:Int) true) (x0 (cks cs) (rspL A) l2 l3 (cks cs) (rspL A) l2 l3 (cs.length:Int) (cs.length:Int) false) (ycG (wr0 A) cs.length r a)→ybq yay yaj yan yaA yap x0 x1 n (cks cs) (rspL A) l2 l3 (cks cs) (rspL A) l2 l3 (cs.length:Int) (a:Int):=by
 have h6:=h.d.n6
 refine yo2 (L:=fun n a=>ybq yay yaj yan yaA yap x0 x1 n (cks cs) (rspL A) l2 l3 (cks cs) (rspL A) l2 l3 (cs.length:Int) (a:Int)) (fun n a ha hb=>?_) (fun n hy=>?_)
 ·have e1:=wib (n:=(a:Int)+1) (by omega) (by omega)
  show ybq yay yaj yan yaA yap x0 x1 (n+1) (cks cs) (rspL A) l2 l3 (cks cs) (rspL A) l2 l3 (cs.length:Int) (a:Int)
  rw [ybq,cbT (by omega),ybC]
  dsimp only [lt,Go.Pf.jn]
  refine ⟨cs.length+1,?_⟩
  refine (ysP (f:=(wr0 A) a) (N:=cs.length) (L:=fun n j=>ybl yay yaj yan yaA yap _ _ n (cks cs) (rspL A) l2 l3 (cks cs) (rspL A) l2 l3 (a:Int) (cs.length:Int) (a:Int) (cs.length:Int) (j:Int)) (fun n j hj=>yQc h ha hj) (fun n=>?_) cs.length 0 (cs.length+1) (by omega) (by omega)).mpr hb
  show ybl yay yaj yan yaA yap _ _ (n+1) (cks cs) (rspL A) l2 l3 (cks cs) (rspL A) l2 l3 (a:Int) (cs.length:Int) (a:Int) (cs.length:Int) (cs.length:Int)=_
  rw [ybl,cbF (by omega),e1,ycP]
 ·show ybq yay yaj yan yaA yap x0 x1 (n+1) (cks cs) (rspL A) l2 l3 (cks cs) (rspL A) l2 l3 (cs.length:Int) (cs.length:Int)
  rw [ybq,cbF (by omega)]
  exact hy
theorem yQi (h:DV cs A) (hw:∀ c∈cs,∀ a∈A,small (wV c a)) {l3:List PV} {x0:List PV→List PV→List PV→List PV→List PV→List PV→List PV→List PV→Int→Int→Bool→Prop} {x1:List PV→List PV→List PV→List PV→Int→Int→Bool→Prop} :
  ∀ (r a n:Nat),a+r=cs.length→r<n→onA (fun a b=>x1 (cks cs) (rspL A) (tabW cs A) l3 (a:Int) (b:Int) true) (x0 (cks cs) (rspL A) (tabW cs A) l3 (cks cs) (rspL A) (tabW cs A) l3 (cs.length:Int) (cs.length:Int) false) (ycG (wr1 cs A) cs.length r a)→ybr yay yaj yan yaA yap x1 x0 n (cks cs) (rspL A) (tabW cs A) l3 (cks cs) (rspL A) (tabW cs A) l3 (cs.length:Int) (a:Int):=by
 have h6:=h.d.n6
 refine yo2 (L:=fun n a=>ybr yay yaj yan yaA yap x1 x0 n (cks cs) (rspL A) (tabW cs A) l3 (cks cs) (rspL A) (tabW cs A) l3 (cs.length:Int) (a:Int)) (fun n a ha hb=>?_) (fun n hy=>?_)
 ·have e1:=wib (n:=(a:Int)+1) (by omega) (by omega)
  show ybr yay yaj yan yaA yap x1 x0 (n+1) (cks cs) (rspL A) (tabW cs A) l3 (cks cs) (rspL A) (tabW cs A) l3 (cs.length:Int) (a:Int)
  rw [ybr,cbT (by omega),ybC]
  dsimp only [lt,Go.Pf.jn]
  refine ⟨cs.length+1,?_⟩
  refine (ysP (f:=(wr1 cs A) a) (N:=cs.length) (L:=fun n j=>ybm yay yaj yan yaA yap _ _ n (cks cs) (rspL A) (tabW cs A) l3 (cks cs) (rspL A) (tabW cs A) l3 (a:Int) (cs.length:Int) (a:Int) (cs.length:Int) (j:Int)) (fun n j hj=>yQd h hw ha hj) (fun n=>?_) cs.length 0 (cs.length+1) (by omega) (by omega)).mpr hb
  show ybm yay yaj yan yaA yap _ _ (n+1) (cks cs) (rspL A) (tabW cs A) l3 (cks cs) (rspL A) (tabW cs A) l3 (a:Int) (cs.length:Int) (a:Int) (cs.length:Int) (cs.length:Int)=_
  rw [ybm,cbF (by omega),e1,ycP]
 ·show ybr yay yaj yan yaA yap x1 x0 (n+1) (cks cs) (rspL A) (tabW cs A) l3 (cks cs) (rspL A) (tabW cs A) l3 (cs.length:Int) (cs.length:Int)
  rw [ybr,cbF (by omega)]
  exact hy
theorem yQj (h:DV cs A) (hw:∀ c∈cs,∀ a∈A,small (wV c a)) {l3:List PV} {x0:List PV→List PV→List PV→List PV→List PV→List PV→List PV→List PV→Int→Int→Bool→Prop} {x1:List PV→List PV→List PV→List PV→Int→Int→Bool→Prop} :
  ∀ (r a n:Nat),a+r=cs.length→r<n→onA (fun a b=>x1 (cks cs) (rspL A) (tabW cs A) l3 (a:Int) (b:Int) true) (x0 (cks cs) (rspL A) (tabW cs A) l3 (cks cs) (rspL A) (tabW cs A) l3 (cs.length:Int) (cs.length:Int) false) (ycG (wr2 cs A) cs.length r a)→ybs yay yaj yan yaA yap x1 x0 n (cks cs) (rspL A) (tabW cs A) l3 (cks cs) (rspL A) (tabW cs A) l3 (cs.length:Int) (a:Int):=by
 have h6:=h.d.n6
 refine yo2 (L:=fun n a=>ybs yay yaj yan yaA yap x1 x0 n (cks cs) (rspL A) (tabW cs A) l3 (cks cs) (rspL A) (tabW cs A) l3 (cs.length:Int) (a:Int)) (fun n a ha hb=>?_) (fun n hy=>?_)
 ·have e1:=wib (n:=(a:Int)+1) (by omega) (by omega)
  show ybs yay yaj yan yaA yap x1 x0 (n+1) (cks cs) (rspL A) (tabW cs A) l3 (cks cs) (rspL A) (tabW cs A) l3 (cs.length:Int) (a:Int)
  rw [ybs,cbT (by omega),ybC]
  dsimp only [lt,Go.Pf.jn]
  refine ⟨cs.length+1,?_⟩
  refine (ysP (f:=(wr2 cs A) a) (N:=cs.length) (L:=fun n j=>ybn yay yaj yan yaA yap _ _ n (cks cs) (rspL A) (tabW cs A) l3 (cks cs) (rspL A) (tabW cs A) l3 (a:Int) (cs.length:Int) (a:Int) (cs.length:Int) (j:Int)) (fun n j hj=>yQe h hw ha hj) (fun n=>?_) cs.length 0 (cs.length+1) (by omega) (by omega)).mpr hb
  show ybn yay yaj yan yaA yap _ _ (n+1) (cks cs) (rspL A) (tabW cs A) l3 (cks cs) (rspL A) (tabW cs A) l3 (a:Int) (cs.length:Int) (a:Int) (cs.length:Int) (cs.length:Int)=_
  rw [ybn,cbF (by omega),e1,ycP]
 ·show ybs yay yaj yan yaA yap x1 x0 (n+1) (cks cs) (rspL A) (tabW cs A) l3 (cks cs) (rspL A) (tabW cs A) l3 (cs.length:Int) (cs.length:Int)
  rw [ybs,cbF (by omega)]
  exact hy
theorem yQk (h:DV cs A) {P:List Rat} (hP:P.length=cs.length) {l2:List PV} {x0:List PV→List PV→List PV→List PV→List PV→List PV→List PV→List PV→Int→Int→Bool→Prop} {x1:List PV→List PV→List PV→List PV→Int→Int→Bool→Prop} :
  ∀ (r a n:Nat),a+r=cs.length→r<n→onA (fun a b=>x1 (cks cs) (rspL A) l2 (rts P) (a:Int) (b:Int) true) (x0 (cks cs) (rspL A) l2 (rts P) (cks cs) (rspL A) l2 (rts P) (cs.length:Int) (cs.length:Int) false) (ycG (wr3 P) cs.length r a)→ybt yay yaj yan yaA yap x1 x0 n (cks cs) (rspL A) l2 (rts P) (cks cs) (rspL A) l2 (rts P) (cs.length:Int) (a:Int):=by
 have h6:=h.d.n6
 refine yo2 (L:=fun n a=>ybt yay yaj yan yaA yap x1 x0 n (cks cs) (rspL A) l2 (rts P) (cks cs) (rspL A) l2 (rts P) (cs.length:Int) (a:Int)) (fun n a ha hb=>?_) (fun n hy=>?_)
 ·have e1:=wib (n:=(a:Int)+1) (by omega) (by omega)
  show ybt yay yaj yan yaA yap x1 x0 (n+1) (cks cs) (rspL A) l2 (rts P) (cks cs) (rspL A) l2 (rts P) (cs.length:Int) (a:Int)
  rw [ybt,cbT (by omega),ybC]
  dsimp only [lt,Go.Pf.jn]
  refine ⟨cs.length+1,?_⟩
  refine (ysP (f:=(wr3 P) a) (N:=cs.length) (L:=fun n j=>ybo yay yaj yan yaA yap _ _ n (cks cs) (rspL A) l2 (rts P) (cks cs) (rspL A) l2 (rts P) (a:Int) (cs.length:Int) (a:Int) (cs.length:Int) (j:Int)) (fun n j hj=>yQf h hP ha hj) (fun n=>?_) cs.length 0 (cs.length+1) (by omega) (by omega)).mpr hb
  show ybo yay yaj yan yaA yap _ _ (n+1) (cks cs) (rspL A) l2 (rts P) (cks cs) (rspL A) l2 (rts P) (a:Int) (cs.length:Int) (a:Int) (cs.length:Int) (cs.length:Int)=_
  rw [ybo,cbF (by omega),e1,ycP]
 ·show ybt yay yaj yan yaA yap x1 x0 (n+1) (cks cs) (rspL A) l2 (rts P) (cks cs) (rspL A) l2 (rts P) (cs.length:Int) (cs.length:Int)
  rw [ybt,cbF (by omega)]
  exact hy
theorem yQl (h:DV cs A) {l2 l3:List PV} {x0:List PV→List PV→List PV→List PV→List PV→List PV→List PV→List PV→Int→Int→Bool→Prop} {x1:List PV→List PV→List PV→List PV→Int→Int→Bool→Prop} :
  ∀ (r a n:Nat),a+r=cs.length→r<n→onA (fun a b=>x1 (cks cs) (rspL A) l2 l3 (a:Int) (b:Int) true) (x0 (cks cs) (rspL A) l2 l3 (cks cs) (rspL A) l2 l3 (cs.length:Int) (cs.length:Int) false) (ycG (wr4 A) cs.length r a)→ybu yay yaj yan yaA yap x1 x0 n (cks cs) (rspL A) l2 l3 (cks cs) (rspL A) l2 l3 (cs.length:Int) (a:Int):=by
 have h6:=h.d.n6
 refine yo2 (L:=fun n a=>ybu yay yaj yan yaA yap x1 x0 n (cks cs) (rspL A) l2 l3 (cks cs) (rspL A) l2 l3 (cs.length:Int) (a:Int)) (fun n a ha hb=>?_) (fun n hy=>?_)
 ·have e1:=wib (n:=(a:Int)+1) (by omega) (by omega)
  show ybu yay yaj yan yaA yap x1 x0 (n+1) (cks cs) (rspL A) l2 l3 (cks cs) (rspL A) l2 l3 (cs.length:Int) (a:Int)
  rw [ybu,cbT (by omega),ybC]
  dsimp only [lt,Go.Pf.jn]
  refine ⟨cs.length+1,?_⟩
  refine (ysP (f:=(wr4 A) a) (N:=cs.length) (L:=fun n j=>ybp yay yaj yan yaA yap _ _ n (cks cs) (rspL A) l2 l3 (cks cs) (rspL A) l2 l3 (a:Int) (cs.length:Int) (a:Int) (cs.length:Int) (j:Int)) (fun n j hj=>yQg h ha hj) (fun n=>?_) cs.length 0 (cs.length+1) (by omega) (by omega)).mpr hb
  show ybp yay yaj yan yaA yap _ _ (n+1) (cks cs) (rspL A) l2 l3 (cks cs) (rspL A) l2 l3 (a:Int) (cs.length:Int) (a:Int) (cs.length:Int) (cs.length:Int)=_
  rw [ybp,cbF (by omega),e1,ycP]
 ·show ybu yay yaj yan yaA yap x1 x0 (n+1) (cks cs) (rspL A) l2 l3 (cks cs) (rspL A) l2 l3 (cs.length:Int) (cs.length:Int)
  rw [ybu,cbF (by omega)]
  exact hy
end
def yjj:Option (Nat×Nat)→Int×Int×Bool
 | some (a,b)=>(a,b,true)
 | none=>(0,0,false)
def brk (cs:List Ck) (A:List (List RS)) (P:List Rat) (g:Bool) (c:Int):Int×Int×Bool :=
 if c=1 then (match ycG (wr0 A) cs.length cs.length 0 with
  | some (a,b)=>(a,b,true)
  | none=>if g then (-1,-1,true) else (0,0,false))
 else if c=2 then yjj (ycG (wr1 cs A) cs.length cs.length 0)
 else if c=4 then yjj (ycG (wr2 cs A) cs.length cs.length 0)
 else if c=8 then yjj (ycG (wr3 P) cs.length cs.length 0)
 else yjj (ycG (wr4 A) cs.length cs.length 0)
theorem yE4 {cs:List Ck} {A:List (List RS)} (h:DV cs A) (hw:∀ c∈cs,∀ a∈A,small (wV c a)) {P:List Rat} {c:Int} (hP:c=8→P.length=cs.length) (hc:c=1∨c=2∨c=4∨c=8∨c=16) {g:Bool}
  (hg:∀ K,yaj (cks cs) (rspL A) (tabW cs A) (rts P) K=K g) (K:Int→Int→Bool→Prop) :
  yaI (cks cs) (rspL A) (tabW cs A) (rts P) c K=K (brk cs A P g c).1 (brk cs A P g c).2.1 (brk cs A P g c).2.2:=by
 refine ypP _ _ _ _ _ _ _ _ (fun K k=>?_) K
 unfold yaI ygl
 dsimp only [Go.Pf.jn]
 rcases hc with rfl | rfl | rfl | rfl | rfl
 ·show cbr true _ _
  rw [yau]
  refine ⟨cs.length+1,?_⟩
  rw [ybC]
  refine yQh h cs.length 0 (cs.length+1) (by omega) (by omega) ?_
  have k:K (match ycG (wr0 A) cs.length cs.length 0 with | some (a,b)=>((a:Int),(b:Int),true) | none=>if g then (-1,-1,true) else (0,0,false)).1 (match ycG (wr0 A) cs.length cs.length 0 with | some (a,b)=>((a:Int),(b:Int),true) | none=>if g then (-1,-1,true) else (0,0,false)).2.1 (match ycG (wr0 A) cs.length cs.length 0 with | some (a,b)=>((a:Int),(b:Int),true) | none=>if g then (-1,-1,true) else (0,0,false)).2.2:=k
  cases hs:ycG (wr0 A) cs.length cs.length 0 with
  | some q =>
   rw [hs] at k
   exact k
  | none =>
   rw [hs] at k
   dsimp only [onA,qB0]
   rw [show (!false)=true from rfl,yau,hg]
   cases g with
   | true=>exact k
   | false=>exact k
 ·show cbr false _ (cbr true _ _)
  rw [yaf,yau]
  refine ⟨cs.length+1,?_⟩
  rw [ybC]
  refine yQi h hw cs.length 0 (cs.length+1) (by omega) (by omega) ?_
  have k:K (yjj (ycG (wr1 cs A) cs.length cs.length 0)).1 (yjj (ycG (wr1 cs A) cs.length cs.length 0)).2.1 (yjj (ycG (wr1 cs A) cs.length cs.length 0)).2.2:=k
  cases hs:ycG (wr1 cs A) cs.length cs.length 0 <;> (rw [hs] at k;exact k)
 ·show cbr false _ (cbr false _ (cbr true _ _))
  rw [yaf,yaf,yau]
  refine ⟨cs.length+1,?_⟩
  rw [ybC]
  refine yQj h hw cs.length 0 (cs.length+1) (by omega) (by omega) ?_
  have k:K (yjj (ycG (wr2 cs A) cs.length cs.length 0)).1 (yjj (ycG (wr2 cs A) cs.length cs.length 0)).2.1 (yjj (ycG (wr2 cs A) cs.length cs.length 0)).2.2:=k
  cases hs:ycG (wr2 cs A) cs.length cs.length 0 <;> (rw [hs] at k;exact k)
 ·show cbr false _ (cbr false _ (cbr false _ (cbr true _ _)))
  rw [yaf,yaf,yaf,yau]
  refine ⟨cs.length+1,?_⟩
  rw [ybC]
  refine yQk h (hP rfl) cs.length 0 (cs.length+1) (by omega) (by omega) ?_
  have k:K (yjj (ycG (wr3 P) cs.length cs.length 0)).1 (yjj (ycG (wr3 P) cs.length cs.length 0)).2.1 (yjj (ycG (wr3 P) cs.length cs.length 0)).2.2:=k
  cases hs:ycG (wr3 P) cs.length cs.length 0 <;> (rw [hs] at k;exact k)
 ·show cbr false _ (cbr false _ (cbr false _ (cbr false _ _)))
  rw [yaf,yaf,yaf,yaf]
  refine ⟨cs.length+1,?_⟩
  rw [ybC]
  refine yQl h cs.length 0 (cs.length+1) (by omega) (by omega) ?_
  have k:K (yjj (ycG (wr4 A) cs.length cs.length 0)).1 (yjj (ycG (wr4 A) cs.length cs.length 0)).2.1 (yjj (ycG (wr4 A) cs.length cs.length 0)).2.2:=k
  cases hs:ycG (wr4 A) cs.length cs.length 0 <;> (rw [hs] at k;exact k)
def prt (cs:List Ck) (A:List (List RS)) (i:Nat):Rat:=wV (cs.getD i default) (A.getD i []) / ((totC (cs.getD i default).cuts (cs.getD i default).dens:Int):Rat)
def prtL (cs:List Ck) (A:List (List RS)) (n:Nat):List Rat:=(List.range n).map (prt cs A)
theorem yIa (cs:List Ck) (A:List (List RS)) (n:Nat):(prtL cs A n).length=n:=by unfold prtL;rw [qAq,List.length_range]
theorem yLE (cs:List Ck) (A:List (List RS)) (n:Nat):prtL cs A (n+1)=prtL cs A n++[prt cs A n]:=by unfold prtL;rw [List.range_succ,List.map_append];rfl
def prtK (cs:List Ck) (A:List (List RS)) (X Y:Prop):Nat→Nat→Prop
 | 0,_=>X
 | r+1,i=>if small (prt cs A i) then prtK cs A X Y r (i+1) else Y
section
variable {cs:List Ck} {A:List (List RS)}
theorem DV.total (h:DV cs A) {i:Nat} (hi:i<cs.length) (K:Int→Int→Prop):yan (cs.getD i default).len (ints (cs.getD i default).cuts) (ints (cs.getD i default).dens) K=K (totC (cs.getD i default).cuts (cs.getD i default).dens) 0:=by
 have hok:=h.d.ok i hi
 have l1:=hok.l1;have l2:=hok.l2
 rw [yyY (by omega) (by omega),if_pos hok.ck]
theorem DV.div (h:DV cs A) (hw:∀ c∈cs,∀ a∈A,Go.Pf.Vc.small (wV c a)) {i:Nat} (hi:i<cs.length) (K:Int→Int→Int→Prop):ya8 (wV (cs.getD i default) (A.getD i [])).num (wV (cs.getD i default) (A.getD i [])).den ((totC (cs.getD i default).cuts (cs.getD i default).dens:Int):Rat).num ((totC (cs.getD i default).cuts (cs.getD i default).dens:Int):Rat).den K=fitK (prt cs A i) K:=by
 have hok:=h.d.ok i hi
 have tb:=yj7 hok
 have tp:=yCK hok
 have hs:Go.Pf.Vc.small ((totC (cs.getD i default).cuts (cs.getD i default).dens:Int):Rat):=yj6 (by omega)
 have h0:((totC (cs.getD i default).cuts (cs.getD i default).dens:Int):Rat)≠0:=fun e=>by
  have:(((totC (cs.getD i default).cuts (cs.getD i default).dens:Int):Rat))=((0:Int):Rat):=e
  have:=Rat.intCast_inj.1 this
  omega
 exact yJ2 (h.small hw hi hi) hs h0 K
theorem yqB (h:DV cs A) (hw:∀ c∈cs,∀ a∈A,small (wV c a)) (x2:List PV→List PV→List PV→List PV→Int→Int→Bool→Prop) (x3:List PV→List PV→List PV→List PV→Int→Prop) {YY:Prop} (hY:∀ L,x3 L (cks cs) (rspL A) (tabW cs A) 16=YY) :
  ∀ (r i n:Nat),i+r=cs.length→r<n→yeq ya3 yan yaP ya8 yaI x2 x3 n (rts (prtL cs A i)) (cks cs) (rspL A) (tabW cs A) (cs.length:Int) (i:Int)=prtK cs A (x2 (rts (prtL cs A cs.length)) (cks cs) (rspL A) (tabW cs A) (cs.length:Int) (cs.length:Int) false) YY r i
 | 0,i,n+1,hi,hn=>by
  obtain rfl:i=cs.length:=by omega
  rw [yeq,cbF (by omega)]
  rfl
 | r+1,i,n+1,hi,hn=>by
  have h6:=h.d.n6;have hl:=h.l
  have hi':i<cs.length:=by omega
  have e1:=wib (n:=(i:Int)+1) (by omega) (by omega)
  have ih:=yqB h hw x2 x3 hY r (i+1) n (by omega) (by omega)
  rw [yeq]
  dsimp only [lt,Go.Pf.jn]
  rw [cbT (by omega),asT (by omega),ybC,asT (by omega),qAe,yfB hi',asCk,ck0,ck1,ck2,h.total hi',asT (by omega),yo1,asT (by omega),yxA hi',asD,asT (by omega),datD,yji,qAq,asT (by omega),ykP (by rw [qAq];omega),asW,yt5,yt6,yxB (by omega),ylo,h.div hw hi']
  unfold prtK fitK
  by_cases hs:small (prt cs A i)
  ·rw [if_pos hs,if_pos hs]
   show cbr false _ _=_
   rw [yaf,asT rfl,yji,yIa]
   simp only [qA4,qAm,decide_true,yaR]
   rw [show (!decide (i+1≤i))=true by rw [decide_eq_false (by omega)];rfl,yaR,asT (by unfold room;omega),show (true&&true)=true from rfl,yaR,e1,ycP,yOe,yOf,← yLE]
   exact ih
  ·rw [if_neg hs,if_neg hs]
   show cbr true _ _=_
   rw [yau,hY]
theorem yy7 (h:DV cs A) (hw:∀ c∈cs,∀ a∈A,small (wV c a)) (x0:List PV→List PV→List PV→Int→Int→Bool→Prop) (x1:List PV→List PV→List PV→Int→Prop) (x2:List PV→List PV→List PV→List PV→Int→Int→Bool→Prop) (x3:List PV→List PV→List PV→List PV→Int→Prop) {YY:Prop} (hY1:x1 (cks cs) (rspL A) (tabW cs A) 16=YY) (hY:∀ L,x3 L (cks cs) (rspL A) (tabW cs A) 16=YY) :
 yhc ya3 yan yaP ya8 yaI x0 x1 x2 x3 (cs.length+1) (cks cs) (rspL A) (tabW cs A) (cs.length:Int) 0=prtK cs A (x2 (rts (prtL cs A cs.length)) (cks cs) (rspL A) (tabW cs A) (cs.length:Int) (cs.length:Int) false) YY cs.length 0:=by
 have h6:=h.d.n6;have h1:=h.d.n0;have hl:=h.l
 have hi':0<cs.length:=by omega
 have e1:=wib (n:=(0:Int)+1) (by omega) (by omega)
 obtain ⟨r,hr⟩:∃ r,cs.length=r+1:=⟨cs.length-1,by omega⟩
 have ih:=yqB h hw x2 x3 hY r 1 cs.length (by omega) (by omega)
 rw [yhc]
 dsimp only [lt,Go.Pf.jn]
 rw [cbT (by omega),asT (by omega),ybC,asT (by omega),show (0:Int).toNat=0 from rfl,yfB hi',asCk,ck0,ck1,ck2,h.total hi',asT (by omega),yo1,asT (by omega),yxA hi',asD,asT (by omega),datD,yji,qAq,asT (by omega),ykP (by rw [qAq];omega),asW,yt5,yt6,yxB (by omega),ylo,h.div hw hi']
 have eK:∀ X:Prop,prtK cs A X YY cs.length 0=if small (prt cs A 0) then prtK cs A X YY r 1 else YY:=fun X=>by rw [hr];rfl
 rw [eK]
 unfold fitK
 by_cases hs:small (prt cs A 0)
 ·rw [if_pos hs,if_pos hs]
  show cbr false _ _=_
  rw [yaf,e1]
  exact ih
 ·rw [if_neg hs,if_neg hs]
  show cbr true _ _=_
  rw [yau,hY1]
end
def orU8 (a b:Int):Int:=IntKind.u8.wrap (BitVec.ofInt IntKind.u8.bits a|||BitVec.ofInt IntKind.u8.bits b).toNat
def bitC:Nat→Int
 | 0=>1
 | 1=>2
 | 2=>4
 | 3=>8
 | _=>16
def addC (cs:List Ck) (A:List (List RS)) (P:List Rat) (g:Bool) (acc:Int) (i:Nat):Int:=if (brk cs A P g (bitC i)).2.2 then acc else orU8 acc (bitC i)
theorem yKs {i:Nat} (h:i<5):IntKind.u8.wrap ((1:Int)*2 ^ (min ((i:Int)).toNat IntKind.u8.bits))=bitC i:=by
 obtain rfl | rfl | rfl | rfl | rfl:i=0∨i=1∨i=2∨i=3∨i=4:=by omega
 all_goals decide
theorem yNf (i:Nat):bitC i=1∨bitC i=2∨bitC i=4∨bitC i=8∨bitC i=16:=by
 unfold bitC
 split <;> simp
section
variable {cs:List Ck} {A:List (List RS)}
theorem yLF (h:DV cs A) (hw:∀ c∈cs,∀ a∈A,small (wV c a)) {P:List Rat} (hP:P.length=cs.length) {g:Bool} (hg:∀ K,yaj (cks cs) (rspL A) (tabW cs A) (rts P) K=K g) (x1:List PV→List PV→List PV→List PV→Int→Int→List PV→Int→Bool→Prop) {n i:Nat} (hi:i<5) (e acc:Int) (l8:List PV) :
  ydx ya3 yan yaP ya8 yaI x1 (n+1) (rts P) (cks cs) (rspL A) (tabW cs A) e acc l8 (i:Int)=ydx ya3 yan yaP ya8 yaI x1 n (rts P) (cks cs) (rspL A) (tabW cs A) e (addC cs A P g acc i) l8 ((i+1:Nat):Int):=by
 have e1:=wib (n:=(i:Int)+1) (by omega) (by omega)
 have hn:(!decide ((i:Int)<0))=true:=by rw [decide_eq_false (by omega)];rfl
 rw [ydx]
 dsimp only [lt,Go.Pf.jn]
 rw [cbT (by omega),hn,yaR,yKs hi,asT rfl,asT (by omega),qAw,yE4 h hw (fun _=>hP) (yNf i) hg,e1,ycP]
 unfold addC
 cases (brk cs A P g (bitC i)).2.2 with
 | true =>
  show cbr false _ _=_
  rw [yaf,show (decide ((rts P).length=(rts P).length)&&decide ((rts P).length=(rts P).length))=true by simp,yaR]
  rfl
 | false =>
  show cbr true _ _=_
  rw [yau,yaR,show (decide ((rts P).length=(rts P).length)&&decide ((rts P).length=(rts P).length))=true by simp,yaR]
  rfl
def yKt (cs:List Ck) (A:List (List RS)) (P:List Rat) (g:Bool):Int:=addC cs A P g (addC cs A P g (addC cs A P g (addC cs A P g (addC cs A P g 0 0) 1) 2) 3) 4
theorem yCY {X Y:Prop}:∀ (r i:Nat),((∀ j,i≤j→j<i+r→small (prt cs A j))∧prtK cs A X Y r i=X)∨(¬(∀ j,i≤j→j<i+r→small (prt cs A j))∧prtK cs A X Y r i=Y)
 | 0,i=>.inl ⟨fun j h1 h2=>by omega,rfl⟩
 | r+1,i=>by
  rw [prtK]
  by_cases hs:small (prt cs A i)
  ·rw [if_pos hs]
   rcases yCY (X:=X) (Y:=Y) r (i+1) with ⟨h1,h2⟩ | ⟨h1,h2⟩
   ·refine .inl ⟨fun j k1 k2=>?_,h2⟩
    by_cases hj:j=i
    ·subst hj;exact hs
    ·exact h1 j (by omega) (by omega)
   ·exact .inr ⟨fun hh=>h1 fun j k1 k2=>hh j (by omega) (by omega),h2⟩
  ·rw [if_neg hs]
   exact .inr ⟨fun hh=>hs (hh i (by omega) (by omega)),rfl⟩
def Gap (cs:List Ck) (A:List (List RS)):Prop:=∃ p:Rat,0≤p∧p<((cs.getD 0 default).len:Rat)∧¬∃ a∈A,memP a p
open Classical in
noncomputable def gapD (cs:List Ck) (A:List (List RS)):Bool:=decide (Gap cs A)
theorem yCZ:gapD cs A=true↔Gap cs A:=by unfold gapD;exact @decide_eq_true_iff _ (Classical.propDecidable _)
theorem DV.gapD_eq (h:DV cs A) (W PT:List PV) (K:Bool→Prop):yaj (cks cs) (rspL A) W PT K=K (gapD cs A):=by
 obtain ⟨l,hp,hb,e⟩:=h.gap W PT
 rw [e]
 congr 1
 rw [Bool.eq_iff_iff,yCZ,yH5 l 0 hb (fun s hs=>h.flatV s (hp.mem_iff.1 hs)) (fun s hs=>by
  obtain ⟨a,ha,hs⟩:=List.mem_flatten.1 (hp.mem_iff.1 hs)
  exact (h.wi a ha s hs).2)]
 have hm:∀ p,memP l p↔∃ a∈A,memP a p:=fun p=>by
  constructor
  ·rintro ⟨s,hs,k⟩
   obtain ⟨a,ha,hs⟩:=List.mem_flatten.1 (hp.mem_iff.1 hs)
   exact ⟨a,ha,s,hs,k⟩
  ·rintro ⟨a,ha,s,hs,k⟩
   exact ⟨s,hp.mem_iff.2 (List.mem_flatten.2 ⟨a,ha,hs⟩),k⟩
 unfold Gap
 constructor
 ·rintro ⟨p,h1,h2,h3⟩
  exact ⟨p,h1,h2,fun k=>h3 ((hm p).2 k)⟩
 ·rintro ⟨p,h1,h2,h3⟩
  exact ⟨p,h1,h2,fun k=>h3 ((hm p).1 k)⟩
end
theorem yC0 {f:Nat→Bool}:∀ {r i:Nat},yqA f r i=none↔∀ j,i≤j→j<i+r→f j=false
 | 0,i=>⟨fun _ j h1 h2=>by omega,fun _=>rfl⟩
 | r+1,i=>by
  rw [yqA]
  cases hf:f i with
  | true=>exact ⟨fun h=>by simp at h,fun h=>by have:=h i (by omega) (by omega);rw [hf] at this;cases this⟩
  | false =>
   show yqA f r (i+1)=none↔_
   rw [yC0]
   constructor
   ·intro h j h1 h2
    by_cases hj:j=i
    ·subst hj;exact hf
    ·exact h j (by omega) (by omega)
   ·exact fun h j h1 h2=>h j (by omega) (by omega)
theorem yC1 {f:Nat→Bool}:∀ {r i j:Nat},yqA f r i=some j→i≤j∧j<i+r∧f j=true
 | 0,i,j,h=>by cases h
 | r+1,i,j,h=>by
  rw [yqA] at h
  cases hf:f i with
  | true =>
   rw [hf] at h
   have h:some i=some j:=h
   cases h
   exact ⟨by omega,by omega,hf⟩
  | false =>
   rw [hf] at h
   obtain ⟨h1,h2,h3⟩:=yC1 (r:=r) (i:=i+1) h
   exact ⟨by omega,by omega,h3⟩
theorem ymu {f:Nat→Nat→Bool} {n:Nat}:∀ {r i:Nat},ycG f n r i=none↔∀ a,i≤a→a<i+r→∀ b,b<n→f a b=false
 | 0,i=>⟨fun _ a h1 h2=>by omega,fun _=>rfl⟩
 | r+1,i=>by
  rw [ycG]
  cases hb:yqA (f i) n 0 with
  | some j =>
   obtain ⟨_,h2,h3⟩:=yC1 hb
   exact ⟨fun h=>by simp at h,fun h=>by have:=h i (by omega) (by omega) j (by omega);rw [h3] at this;cases this⟩
  | none =>
   show ycG f n r (i+1)=none↔_
   rw [ymu]
   constructor
   ·intro h a h1 h2 b h3
    by_cases ha:a=i
    ·subst ha;exact yC0.1 hb b (by omega) (by omega)
    ·exact h a (by omega) (by omega) b h3
   ·exact fun h a h1 h2 b h3=>h a (by omega) (by omega) b h3
def yNg (a b:Int):Int:=IntKind.u8.wrap (BitVec.ofInt IntKind.u8.bits a&&&BitVec.ofInt IntKind.u8.bits b).toNat
theorem yE5:∀ {A:List (List RS)},(∀ i j,i<j→j<A.length→∀ p,memP (A.getD i []) p→¬memP (A.getD j []) p)→yGJ A
 | [],_=>trivial
 | a::r,h=>by
  refine ⟨fun b hb p hp=>?_,yE5 fun i j h1 h2 p hp=>?_⟩
  ·obtain ⟨j,hj,rfl⟩:=ysu [] hb
   exact h 0 (j+1) (by omega) (by rw [qAo];omega) p hp
  ·exact h (i+1) (j+1) (by omega) (by rw [qAo];omega) p hp
section
variable {cs:List Ck} {A:List (List RS)}
theorem DV.whole (h:DV cs A) (hn:ycG (wr0 A) cs.length cs.length 0=none) (hg:gapD cs A=false) {i:Nat} (hi:i<cs.length) :
  sumL (vX (cs.getD i default).cuts (cs.getD i default).dens) A=((totC (cs.getD i default).cuts (cs.getD i default).dens:Int):Rat):=by
 have hl:=h.l
 have l0:=h.len0
 have hok:=h.d.ok i hi
 have hlen:=h.d.len i hi
 rw [← yCT hok,hlen]
 refine yLC _ ?_ (fun a ha=>(h.p a ha).c) (fun a ha=>h.wi a ha) ?_ ?_
 ·have:((0:Int):Rat)<((cs.getD 0 default).len:Rat):=Rat.intCast_lt_intCast.2 (by omega)
  simpa using this
 ·refine yE5 fun i j h1 h2 p p1 p2=>?_
  have hf:=ymu.1 hn i (by omega) (by omega) j (by omega)
  unfold wr0 at hf
  rw [decide_eq_true h1,qAz] at hf
  have mi:=ycD [] (show i<A.length by omega)
  have mj:=ycD [] h2
  have:=(yCU (ykz (h.p _ mi).c) (ykz (h.p _ mj).c)).2 ⟨p,p1,p2⟩
  rw [hf] at this
  cases this
 ·intro p h1 h2
  refine Classical.byContradiction fun hno=>?_
  have:=yCZ.2 ⟨p,h1,h2,hno⟩
  rw [hg] at this
  cases this
end
def InA (D:Int) (A:List (List RS)):Prop:=∀ a∈A,∀ s∈a,In D s.1∧In D s.2
section
variable {len:Int} {cuts dens:List Int}
theorem yC2 (h:VC len cuts dens) {s:RS} (hv:s.1<s.2) (hw:0≤s.1∧s.2≤(len:Rat)):0≤dV (vX cuts dens) s∧dV (vX cuts dens) s≤12000:=by
 have a:=yxy h hw.1
 have b:=yxy h hw.2
 have c:=yxy h (qBp hv)
 have t:=yCT h
 have tb:=qAu.2 (yj7 h).2
 have tb:((totC cuts dens:Int):Rat)≤12000:=tb
 show 0≤vX cuts dens s.2-vX cuts dens s.1∧vX cuts dens s.2-vX cuts dens s.1≤12000
 grind
theorem yOM {D:Int} (hD:1≤D) {s:RS} (hi:In D s.1∧In D s.2):In D (dV (vX cuts dens) s):=(yKm hD hi.2).sub (yKm hD hi.1)
theorem yIb (h:VC len cuts dens) {D:Int} (hD:1≤D∧D≤1000000000000) {s:RS} (hs:ycb s) (hv:s.1<s.2) (hw:0≤s.1∧s.2≤(len:Rat)) (hi:In D s.1∧In D s.2) (K:Int→Int→Int→Prop) :
  ybO len (ints cuts) (ints dens) s.1.num s.1.den s.2.num s.2.den K=K (dV (vX cuts dens) s).num (dV (vX cuts dens) s).den 0:=by
 have l1:=h.l1;have l2:=h.l2
 rw [yyZ (by omega) (by omega) hs.1.i1 hs.1.i2 hs.2.i1 hs.2.i2]
 unfold valR
 rw [if_pos h.ck,if_pos ⟨yzG hs.1 hw.1 (by grind),yzG hs.2 (by grind) hw.2,by rw [ye3,ye3];grind⟩,ye3,ye3,yE0 h ⟨hD.1,by omega⟩ hi.1 hi.2 hw.1 (qBp hv) hw.2]
 rfl
theorem yqC (h:VC len cuts dens) {D:Int} (hD:1≤D∧D≤1000000000000) {l:List RS} (hs:∀ s∈l,ycb s) (hv:∀ s∈l,s.1<s.2) (hw:Wi len l) (hi:∀ s∈l,In D s.1∧In D s.2) (hl:l.length≤60) (z z':Int) (K:Int→Int→Int→Prop) :
  ∀ (r i n:Nat) (q:Rat),i+r=l.length→r<n→In D q→0≤q→q≤12000*((i:Int):Rat) →
   small (q+sumV (dV (vX cuts dens)) (l.drop i))∧ycm yaU ybj ya6 ybO ybh (fun _ _ _ _ _ a b _ _ _ _=>K a b 0) (fun _ _ _ a b e=>K a b e) n len (ints cuts) (ints dens) z z' q.num q.den (rsp l) (l.length:Int) (i:Int)=K (q+sumV (dV (vX cuts dens)) (l.drop i)).num (q+sumV (dV (vX cuts dens)) (l.drop i)).den 0
 | 0,i,n+1,q,hir,hn,hq,q0,q1=>by
  obtain rfl:i=l.length:=by omega
  rw [List.drop_length]
  have e:q+sumV (dV (vX cuts dens)) []=q:=Rat.add_zero q
  have hb:((l.length:Int):Rat)≤60:=qAu.2 (show (l.length:Int)≤60 by omega)
  rw [e]
  refine ⟨hq.small (M:=720000) ⟨by omega,by omega⟩ (by omega) (by show -(720000:Rat)≤_;grind) (by show _≤(720000:Rat);grind),?_⟩
  rw [ycm,cbF (by omega)]
 | r+1,i,n+1,q,hir,hn,hq,q0,q1=>by
  have hil:i<l.length:=by omega
  have e1:=wib (n:=(i:Int)+1) (by omega) (by omega)
  have hd:l.drop i=l.getD i default::l.drop (i+1):=yde default hil
  have hm:l.getD i default∈l:=ycD default hil
  have hx:=hs _ hm
  have hx2:=hv _ hm
  have hx3:=hw _ hm
  have hx4:=hi _ hm
  rw [hd]
  have b1:=yC2 h hx2 hx3
  have b2:=yOM (cuts:=cuts) (dens:=dens) hD.1 hx4
  have hc:((i+1:Nat):Int)=(i:Int)+1:=by omega
  have hc2:(((i+1:Nat):Int):Rat)=((i:Int):Rat)+1:=by rw [hc,Rat.intCast_add];rfl
  have hb:((i:Int):Rat)≤60:=qAu.2 (show (i:Int)≤60 by omega)
  have hv1:=yIb h hD hx hx2 hx3 hx4
  have es:q+sumV (dV (vX cuts dens)) (l.getD i default::l.drop (i+1))=(q+dV (vX cuts dens) (l.getD i default))+sumV (dV (vX cuts dens)) (l.drop (i+1)):=by
   show q+(dV (vX cuts dens) (l.getD i default)+sumV (dV (vX cuts dens)) (l.drop (i+1)))=_
   grind
  have step:ycm yaU ybj ya6 ybO ybh (fun _ _ _ _ _ a b _ _ _ _=>K a b 0) (fun _ _ _ a b e=>K a b e) (n+1) len (ints cuts) (ints dens) z z' q.num q.den (rsp l) (l.length:Int) (i:Int) =
    ybO len (ints cuts) (ints dens) (l.getD i default).1.num (l.getD i default).1.den (l.getD i default).2.num (l.getD i default).2.den (fun a b e=>cbr (e != 0) (K 0 0 e) (ybh q.num q.den a b (fun a b e=>cbr (e != 0) (K 0 0 e) (ycm yaU ybj ya6 ybO ybh (fun _ _ _ _ _ a b _ _ _ _=>K a b 0) (fun _ _ _ a b e=>K a b e) n len (ints cuts) (ints dens) z z' a b (rsp l) (l.length:Int) ((i+1:Nat):Int))))):=by
   rw [ycm,cbT (by omega)]
   dsimp only [lt]
   rw [ybZ,asT (by omega),asT (by omega),qAe,ypZ hil,asR,yzI,yEY,yzJ,yzK,e1,ycP]
  rw [es,step,hv1,nz]
  generalize dV (vX cuts dens) (l.getD i default)=v at b1 b2
  have sq:small q:=hq.small (M:=720000) ⟨by omega,by omega⟩ (by omega) (by show -(720000:Rat)≤_;grind) (by show _≤(720000:Rat);grind)
  have sv:small v:=b2.small (M:=720000) ⟨by omega,by omega⟩ (by omega) (by show -(720000:Rat)≤_;grind) (by show _≤(720000:Rat);grind)
  have hb2:((i:Int):Rat)≤59:=qAu.2 (show (i:Int)≤59 by omega)
  have ss:small (q+v):=(hq.add b2).small (M:=720000) ⟨by omega,by omega⟩ (by omega) (by show -(720000:Rat)≤_;grind) (by show _≤(720000:Rat);grind)
  have ih:=yqC h hD hs hv hw hi hl z z' K r (i+1) n (q+v) (by omega) (by omega) (hq.add b2) (by grind) (by rw [hc2];grind)
  refine ⟨ih.1,?_⟩
  rw [yAJ sq sv]
  unfold fitK
  rw [if_pos ss]
  dsimp only
  rw [nz]
  exact ih.2
theorem Pc.Worth_good {l:List RS} (p:Pc l) (h:VC len cuts dens) (hw:Wi len l) {D:Int} (hD:1≤D∧D≤1000000000000) (hi:∀ s∈l,In D s.1∧In D s.2) :
  small (sumV (dV (vX cuts dens)) l)∧∀ K,ycd len (ints cuts) (ints dens) (rsp l) K=K (sumV (dV (vX cuts dens)) l).num (sumV (dV (vX cuts dens)) l).den 0:=by
 have l1:=h.l1;have l2:=h.l2;have l0:=h.len0;have hn:=p.n
 have g:=fun K=>yqC h hD p.s (ykz p.c) hw hi (by omega) 0 0 K l.length 0 (l.length+1) 0 (by omega) (by omega) (In.int hD.1 0) qAr (by show (0:Rat)≤12000*0;grind)
 have g0:=(g fun _ _ _=>True).1
 rw [qBa,Rat.zero_add] at g0
 refine ⟨g0,fun K=>yz8 _ _ _ _ _ _ _ (fun K k=>?_) K⟩
 have hl:=(g K).2
 rw [qBa,Rat.zero_add] at hl
 unfold ycd ylS
 rw [ylm (by omega) (by omega),h.ck,nz,p.check,nz]
 dsimp only [Go.Pf.jn,lt]
 rw [ybZ]
 have fin:∃ n,ycm yaU ybj ya6 ybO ybh (fun _ _ _ _ _ a b _ _ _ _=>K a b 0) (fun _ _ _ a b e=>K a b e) n len (ints cuts) (ints dens) 0 0 0 1 (rsp l) (l.length:Int) 0:=⟨l.length+1,hl.mpr k⟩
 by_cases hl0:l.length=0
 ·rw [cbF (by omega),yaf]
  exact fin
 ·have h0:0<l.length:=by omega
  have m0:=ycD (default:RS) h0
  have m1:=ycD (default:RS) (show l.length-1<l.length by omega)
  have w0:=hw _ m0
  have w1:=hw _ m1
  have s1:=p.s _ m1
  have n0:0≤(l.getD 0 default).1.num:=Rat.num_nonneg.2 w0.1
  have e1:=wib (n:=(l.length:Int)-1) (by omega) (by omega)
  have et:((l.length:Int)-1).toNat=l.length-1:=by omega
  rw [cbT (by omega),asT (by omega),ypZ h0,asR,yzI,cbF (by omega),e1,asT (by omega),asT (by omega),et,ypZ (by omega),asR,yzJ,yzK]
  have sl:small (len:Rat):=yj6 (by omega)
  show ya6 (l.getD (l.length-1) default).2.num (l.getD (l.length-1) default).2.den (len:Rat).num ((len:Rat).den:Int) _
  rw [yxv s1.2 sl,yOj,cbF (by grind)]
  exact fin
end
theorem DV.Worth_good {cs:List Ck} {A:List (List RS)} (h:DV cs A) {D:Int} (hD:1≤D∧D≤1000000000000) (hi:InA D A) :
  (∀ c∈cs,∀ a∈A,Go.Pf.Vc.small (wV c a))∧∀ K,ya3 (cks cs) (rspL A) K=K (tabW cs A) 0:=by
 have h6:=h.d.n6;have h1:=h.d.n0;have hl:=h.l
 have e:pcsD (A.map rsp)=rspL A:=by
  unfold pcsD rspL
  rw [List.map_map]
  rfl
 have hall:∀ c∈cs,∀ a∈A,Go.Pf.Vc.small (wV c a)∧∀ K,ycd c.len (ints c.cuts) (ints c.dens) (rsp a) K=K (wV c a).num (wV c a).den 0:=fun c hc a ha=>by
  obtain ⟨k1,k2⟩:=h.d.mem hc
  refine (h.p a ha).Worth_good k1 ?_ hD (hi a ha)
  rw [k2]
  exact h.wi a ha
 refine ⟨fun c hc a ha=>(hall c hc a ha).1,fun K=>?_⟩
 have hck:∀ K,ydD (cks cs) (pcsD (A.map rsp)) K=K 0:=fun K=>by rw [e];exact yOl h K
 have hf:∀ c∈cs,∀ a∈A,fW c (rsp a)=((wV c a).num,((wV c a).den:Int),0):=fun c hc a ha=>yQb (t:=((wV c a).num,((wV c a).den:Int),0)) (hall c hc a ha).2
 rw [← e]
 refine yNa (F:=fW) (by rw [qAq];exact hl) h1 h6 hck (fun c hc p hp K=>?_) (fun _=>⟨?_,rfl⟩) (fun c hc p hp hn=>?_) K
 ·obtain ⟨a,ha,rfl⟩:=qBl.1 hp
  rw [hf c hc a ha]
  exact (hall c hc a ha).2 K
 ·unfold tabW
  refine List.map_congr_left fun c hc=>?_
  unfold rts
  rw [List.map_map,List.map_map]
  congr 1
  refine List.map_congr_left fun a ha=>?_
  show encW (wV c a)=.agg [.int .i64 (fW c (rsp a)).1,.int .i64 (fW c (rsp a)).2.1]
  rw [hf c hc a ha]
  rfl
 ·obtain ⟨a,ha,rfl⟩:=qBl.1 hp
  rw [hf c hc a ha] at hn
  exact absurd rfl hn
section
variable {cs:List Ck} {A:List (List RS)}
theorem yKu {cuts dens:List Int} {D:Int} (hD:1≤D):∀ {l:List RS},(∀ s∈l,In D s.1∧In D s.2)→In D (sumV (dV (vX cuts dens)) l)
 | [],_=>In.int hD 0
 | s::_,h=>(yOM hD (h s qAg)).add (yKu hD fun t ht=>h t (qAf _ ht))
theorem yC3 {len:Int} {cuts dens:List Int} (hv:VC len cuts dens):∀ {l:List RS},(∀ s∈l,s.1<s.2)→Wi len l→0≤sumV (dV (vX cuts dens)) l∧sumV (dV (vX cuts dens)) l≤12000*((l.length:Int):Rat)
 | [],_,_=>⟨qAr,by show (0:Rat)≤12000*0;grind⟩
 | s::r,h,hw=>by
  have a:=yC2 hv (h s qAg) (hw s qAg)
  have b:=yC3 hv (l:=r) (fun t ht=>h t (qAf _ ht)) (fun t ht=>hw t (qAf _ ht))
  have hc:(((s::r).length:Int):Rat)=((r.length:Int):Rat)+1:=by
   rw [show ((s::r).length:Int)=(r.length:Int)+1 by rw [qAo];omega,Rat.intCast_add];rfl
  rw [hc]
  show 0≤dV (vX cuts dens) s+sumV (dV (vX cuts dens)) r∧dV (vX cuts dens) s+sumV (dV (vX cuts dens)) r≤_
  grind
theorem DV.wV_bound (h:DV cs A) {i j:Nat} (hi:i<cs.length) (hj:j<cs.length):0≤wV (cs.getD i default) (A.getD j [])∧wV (cs.getD i default) (A.getD j [])≤720000:=by
 have hl:=h.l
 have hm:=ycD [] (show j<A.length by omega)
 have hok:=h.d.ok i hi
 have hw:=h.wi _ hm
 rw [← h.d.len i hi] at hw
 have p:=h.p _ hm
 have b:=yC3 hok (ykz p.c) hw
 have hn:(((A.getD j []).length:Int):Rat)≤60:=qAu.2 (show ((A.getD j []).length:Int)≤60 by have:=p.n;omega)
 unfold wV
 grind
theorem yLG (h:DV cs A) {D:Int} (hD:1≤D∧D≤100000000) (hi:InA D A) {j:Nat} (hj:j<cs.length):small (prt cs A j):=by
 have hl:=h.l
 have hok:=h.d.ok j hj
 have tb:=yj7 hok
 have tp:=yCK hok
 have b:=h.wV_bound hj hj
 have hI:In D (wV (cs.getD j default) (A.getD j [])):=yKu hD.1 (hi _ (ycD [] (by omega)))
 unfold prt
 generalize totC (cs.getD j default).cuts (cs.getD j default).dens=t at tb tp
 generalize wV (cs.getD j default) (A.getD j [])=w at b hI
 have h1:(1:Rat)≤(t:Rat):=qAu.2 (show (1:Int)≤t by omega)
 have t0:(t:Rat)≠0:=by grind
 have e:w / (t:Rat)*(t:Rat)=w:=Rat.div_mul_cancel t0
 have tD:t*D≤12000*D:=qBh tb.2 (by omega)
 have tD1:1*1≤t*D:=qBk (by omega) hD.1 (by omega) (by omega)
 have p0:0≤w / (t:Rat):=qB8.1 fun k=>by
  have:=Rat.mul_lt_mul_of_pos_right k (show (0:Rat)<(t:Rat) by grind)
  grind
 have p1:w / (t:Rat)≤720000:=by
  have:=qBy h1 p0
  grind
 exact (hI.div hD.1 (d:=t) (by omega)).small (M:=720000) ⟨by omega,by omega⟩ (by omega) (by show -(720000:Rat)≤_;grind) (by show _≤(720000:Rat);grind)
theorem DV.Make_of (h:DV cs A) (hw:∀ c∈cs,∀ a∈A,Go.Pf.Vc.small (wV c a)) (he:∀ K,ya3 (cks cs) (rspL A) K=K (tabW cs A) 0) (hs:∀ j,j<cs.length→Go.Pf.Vc.small (prt cs A j)) (K:Int→List PV→Int→Prop) :
  yd7 (cks cs) (rspL A) K=K (yKt cs A (prtL cs A cs.length) (gapD cs A)) (tabW cs A) 0:=by
 refine yCt _ _ _ _ _ (fun K k=>?_) K
 unfold yd7 ynV
 rw [he]
 show cbr false _ _
 rw [yaf]
 dsimp only [Go.Pf.jn]
 rw [ybC]
 refine ⟨cs.length+1,(yy7 h hw _ _ _ _ (YY:=K 0 [] 16) rfl (fun _=>rfl)).mpr ?_⟩
 rcases yCY (cs:=cs) (A:=A) cs.length 0 with ⟨_,e⟩ | ⟨hn,_⟩
 ·refine e.mpr ?_
  show cbr false _ _
  rw [yaf,show (decide ((rts (prtL cs A cs.length)).length=(rts (prtL cs A cs.length)).length)&&decide ((rts (prtL cs A cs.length)).length=(rts (prtL cs A cs.length)).length))=true by simp,yaR]
  refine ⟨6,?_⟩
  have hP:=yIa cs A cs.length
  have hg:=h.gapD_eq (tabW cs A) (rts (prtL cs A cs.length))
  have s:=fun (n i:Nat) (hi:i<5) (acc:Int)=>yLF h hw hP hg (fun f g l m o b d p q=>K b d (0:Int)) (n:=n) hi 0 acc (tabW cs A)
  refine (s 5 0 (by omega) 0).mpr ((s 4 1 (by omega) _).mpr ((s 3 2 (by omega) _).mpr ((s 2 3 (by omega) _).mpr ((s 1 4 (by omega) _).mpr ?_))))
  rw [ydx,cbF (by omega)]
  exact k
 ·exact absurd (fun j h1 h2=>hs j (by omega)) hn
theorem DV.good (h:DV cs A) {D:Int} (hD:1≤D∧D≤100000000) (hi:InA D A) :
  (∀ c∈cs,∀ a∈A,Go.Pf.Vc.small (wV c a))∧(∀ K,ya3 (cks cs) (rspL A) K=K (tabW cs A) 0)∧(∀ j,j<cs.length→Go.Pf.Vc.small (prt cs A j)) ∧
  ∀ K,yd7 (cks cs) (rspL A) K=K (yKt cs A (prtL cs A cs.length) (gapD cs A)) (tabW cs A) 0:=by
 obtain ⟨h1,h2⟩:=h.Worth_good (D:=D) ⟨hD.1,by omega⟩ hi
 have h3:=fun j (hj:j<cs.length)=>yLG h hD hi hj
 exact ⟨h1,h2,h3,h.Make_of h1 h2 h3⟩
theorem yC4 {o:Option (Nat×Nat)}:(yjj o).2.2=false↔o=none:=by
 cases o with
 | none=>exact ⟨fun _=>rfl,fun _=>rfl⟩
 | some q=>obtain ⟨a,b⟩:=q;exact ⟨(fun h=>by cases h),(fun h=>by cases h)⟩
theorem yzL {P:List Rat} {g:Bool}:(brk cs A P g 1).2.2=false↔ycG (wr0 A) cs.length cs.length 0=none∧g=false:=by
 have e:brk cs A P g 1=(match ycG (wr0 A) cs.length cs.length 0 with | some (a,b)=>((a:Int),(b:Int),true) | none=>if g then (-1,-1,true) else (0,0,false)):=rfl
 rw [e]
 cases ycG (wr0 A) cs.length cs.length 0 with
 | some q=>obtain ⟨a,b⟩:=q;exact ⟨(fun h=>by cases h),(fun h=>by cases h.1)⟩
 | none=>cases g <;> simp
theorem yIc {P:List Rat} {g:Bool}:(brk cs A P g 2).2.2=false↔∀ a,a<cs.length→yvK cs a≤wV (cs.getD a default) (A.getD a []):=by
 have e:brk cs A P g 2=yjj (ycG (wr1 cs A) cs.length cs.length 0):=rfl
 rw [e,yC4,ymu]
 constructor
 ·intro h a ha
  have:=h a (by omega) (by omega) a ha
  unfold wr1 at this
  rw [decide_eq_true rfl,qAz,decide_eq_false_iff_not] at this
  exact qB8.1 this
 ·intro h a _ ha b hb
  unfold wr1
  by_cases hab:a=b
  ·have:=h a (by omega)
   rw [decide_eq_false (qB8.2 this),Bool.and_false]
  ·rw [decide_eq_false hab,qBb]
theorem yC5 {P:List Rat} {g:Bool}:(brk cs A P g 4).2.2=false↔∀ a b,a<cs.length→b<cs.length→wV (cs.getD a default) (A.getD b [])≤wV (cs.getD a default) (A.getD a []):=by
 have e:brk cs A P g 4=yjj (ycG (wr2 cs A) cs.length cs.length 0):=rfl
 rw [e,yC4,ymu]
 constructor
 ·intro h a b ha hb
  have:=h a (by omega) (by omega) b hb
  unfold wr2 at this
  rw [decide_eq_false_iff_not] at this
  exact qB8.1 this
 ·intro h a _ ha b hb
  unfold wr2
  exact decide_eq_false (qB8.2 (h a b (by omega) hb))
theorem yNh (h:DV cs A) {i:Nat} (hi:i<cs.length) (hn:ycG (wr0 A) cs.length cs.length 0=none) (hg:gapD cs A=false):(A.map (wV (cs.getD i default))).sum=((totC (cs.getD i default).cuts (cs.getD i default).dens:Int):Rat):=by
 rw [← h.whole hn hg hi,yH6]
 rfl
theorem yLH (cs:List Ck) (a:Nat) (h:1≤cs.length):((cs.length:Int):Rat)*yvK cs a=((totC (cs.getD a default).cuts (cs.getD a default).dens:Int):Rat):=by
 unfold yvK
 rw [Rat.mul_comm]
 exact Rat.div_mul_cancel (rne (by omega))
theorem yJn (h:DV cs A) {P:List Rat} (h1:(brk cs A P (gapD cs A) 1).2.2=false) (h4:(brk cs A P (gapD cs A) 4).2.2=false):(brk cs A P (gapD cs A) 2).2.2=false:=by
 rw [yzL] at h1
 rw [yC5] at h4
 rw [yIc]
 intro a ha
 have hl:=h.l
 have hs:=yNh h ha h1.1 h1.2
 have hm:=yLH cs a (by omega)
 have:=yNb (wV (cs.getD a default)) (wV (cs.getD a default) (A.getD a [])) A (fun x hx=>by
  obtain ⟨j,hj,rfl⟩:=ysu [] hx
  exact h4 a j ha (by omega))
 rw [hs,← hm,hl] at this
 have hn:(0:Rat)<((cs.length:Int):Rat):=Rat.intCast_pos.2 (by omega)
 have hc:((cs.length:Nat):Rat)=((cs.length:Int):Rat):=rfl
 rw [hc] at this
 refine qB8.1 fun k=>?_
 have:=Rat.mul_lt_mul_of_pos_left k hn
 grind
end
theorem yzM {l:List Rat} (hl:l.length<1000) {K:Bool→Prop} :
  ∀ (r i n:Nat),i+r=l.length→r<n→ybw (fun _ _ _ _ _=>K true) (fun b=>K b) n (rts l) (rts l) (l.length:Int) (i:Int)=K true
 | 0,i,n+1,hi,hn=>by
  rw [ybw,cbF (by omega)]
 | r+1,i,n+1,hi,hn=>by
  have e1:=wib (n:=(i:Int)+1) (by omega) (by omega)
  have ih:=yzM hl (K:=K) r (i+1) n (by omega) (by omega)
  rw [ybw]
  dsimp only [lt]
  rw [cbT (by omega),yji,asT (by omega),asT (by omega),qAe,ykP (by omega),asW,asT (by omega),asT (by omega),asW,yt5,yt6,e1,ycP,ih]
  have eb:∀ a b:Int,(!((a == a)&&((b == b)&&true)))=false:=fun a b=>by simp
  rw [eb,yaf]
theorem yId {l:List Rat} (hl:l.length<1000) (K:Bool→Prop):yaM (rts l) (rts l) K=K true:=by
 refine yjk _ _ _ (fun K k=>?_) K
 unfold yaM ydt
 rw [yji,cnF rfl]
 exact ⟨l.length+1,(yzM hl (K:=K) l.length 0 (l.length+1) (by omega) (by omega)).mpr k⟩
section
variable {cs:List Ck} {A:List (List RS)}
theorem yE6 (h:DV cs A) {a0 a2 a3 a4 a5} (x0:List PV→List PV→List PV→List PV→List PV→Int→Int→Bool→Prop) (x1:List PV→List PV→List PV→Bool→Prop) :
  ∀ (r i n:Nat),i+r=cs.length→r<n→ydy a0 yaM a2 a3 a4 a5 x0 x1 n (cks cs) (rspL A) (tabW cs A) (tabW cs A) (tabW cs A) (cs.length:Int) (i:Int)=x0 (cks cs) (rspL A) (tabW cs A) (tabW cs A) (tabW cs A) (cs.length:Int) (cs.length:Int) false
 | 0,i,n+1,hi,hn=>by
  obtain rfl:i=cs.length:=by omega
  rw [ydy,cbF (by omega)]
 | r+1,i,n+1,hi,hn=>by
  have h6:=h.d.n6;have hl:=h.l
  have e1:=wib (n:=(i:Int)+1) (by omega) (by omega)
  have ih:=yE6 h (a0:=a0) (a2:=a2) (a3:=a3) (a4:=a4) (a5:=a5) x0 x1 r (i+1) n (by omega) (by omega)
  rw [ydy]
  dsimp only [lt]
  rw [cbT (by omega),yo1,asT (by omega),asT (by omega),qAe,yxA (by omega),asD,asT (by omega),asT (by omega),asD,datD,yId (by rw [qAq];omega),e1,ycP,qBt,yaf,ih]
def hasC (c:Int) (i:Nat):Bool:=yNg (Int.fdiv c (2 ^ (min ((i:Int)).toNat IntKind.u8.bits))) 1 == 0
theorem yLI (h:DV cs A) (hw:∀ c∈cs,∀ a∈A,Go.Pf.Vc.small (wV c a)) {a0 a1 a2 a3 a4} (x0:List PV→List PV→List PV→Int→List PV→Int→Bool→Prop) (x1:List PV→List PV→List PV→Bool→Int→Prop) {c:Int} {l4:List PV} {n i:Nat} (hi:i<5)
  (hb:hasC c i=false→bitC i≠8∧(brk cs A [] (gapD cs A) (bitC i)).2.2=false) :
  ycV a0 a1 a2 a3 a4 yaI x0 x1 (n+1) (cks cs) (rspL A) (tabW cs A) c l4 (i:Int)=ycV a0 a1 a2 a3 a4 yaI x0 x1 n (cks cs) (rspL A) (tabW cs A) c l4 ((i+1:Nat):Int):=by
 have e1:=wib (n:=(i:Int)+1) (by omega) (by omega)
 have hn:(!decide ((i:Int)<0))=true:=by rw [decide_eq_false (by omega)];rfl
 rw [ycV]
 dsimp only [lt,Go.Pf.jn]
 rw [cbT (by omega),hn,yaR,yaR,yKs hi,e1,ycP]
 show cbr (hasC c i) _ _=_
 cases hc:hasC c i with
 | true=>rw [yau]
 | false =>
  obtain ⟨h8,hf⟩:=hb hc
  have hg:=yE4 h hw (P:=[]) (c:=bitC i) (fun e=>absurd e h8) (yNf i) (g:=gapD cs A) (fun K=>h.gapD_eq (tabW cs A) (rts []) K)
  have hg:∀ K,yaI (cks cs) (rspL A) (tabW cs A) [] (bitC i) K=_:=hg
  rw [yaf,hg,hf,yaf]
theorem DV.Accept (h:DV cs A) (hw:∀ c∈cs,∀ a∈A,Go.Pf.Vc.small (wV c a)) (hW:∀ K,ya3 (cks cs) (rspL A) K=K (tabW cs A) 0) {c:Int} (hc:c<32) (h8:yNg c 8=0)
  (hb:∀ i,i<5→hasC c i=false→bitC i≠8∧(brk cs A [] (gapD cs A) (bitC i)).2.2=false) (K:Bool→Int→Prop):yc6 (cks cs) (rspL A) c (tabW cs A) K=K true 0:=by
 refine yyP _ _ _ _ _ _ (fun K k=>?_) K
 have h6:=h.d.n6
 unfold yc6 ykN
 rw [hW,cnF rfl]
 dsimp only [Go.Pf.jn,lt]
 rw [cbF (by omega),yo1,cnF rfl]
 refine ⟨cs.length+1,(yE6 h _ _ cs.length 0 (cs.length+1) (by omega) (by omega)).mpr ?_⟩
 show cbr (yNg c 8 != 0) _ _
 rw [h8,cnF rfl]
 refine ⟨6,?_⟩
 have s:=fun (n i:Nat) (hi:i<5)=>yLI h hw (a0:=ya3) (a1:=yaM) (a2:=yan) (a3:=yaP) (a4:=ya8) (fun _ _ _ _ _ _ _=>K true 0) (fun _ _ _ b e=>K b e) (c:=c) (l4:=tabW cs A) (n:=n) hi (hb i hi)
 refine (s 5 0 (by omega)).mpr ((s 4 1 (by omega)).mpr ((s 3 2 (by omega)).mpr ((s 2 3 (by omega)).mpr ((s 1 4 (by omega)).mpr ?_))))
 rw [ycV,cbF (by omega)]
 exact k
end
theorem yQm (q:Qy):yaa (yab (encQ q) 0)=q.agent:=rfl
theorem yQn (q:Qy):yaa (yab (encQ q) 1)=q.kind:=rfl
theorem yQo (q:Qy):yaa (yab (encQ q) 2)=q.an:=rfl
theorem yQp (q:Qy):yaa (yab (encQ q) 3)=q.ad:=rfl
theorem yQq (q:Qy):yaa (yab (encQ q) 4)=q.bn:=rfl
theorem yQr (q:Qy):yaa (yab (encQ q) 5)=q.bd:=rfl
theorem yQs (q:Qy):yaa (yab (encQ q) 6)=q.cn:=rfl
theorem yQt (q:Qy):yaa (yab (encQ q) 7)=q.cd:=rfl
def QR (cs:List Ck) (q:Qy):Prop :=
 (0≤q.agent∧q.agent<cs.length)∧(I64 q.an∧I64 q.ad∧I64 q.bn∧I64 q.bd) ∧
  ∃ p:Rat,(q.cn=p.num∧q.cd=p.den) ∧
   ((q.kind=2∧mrkR (cs.getD q.agent.toNat default).len (cs.getD q.agent.toNat default).cuts (cs.getD q.agent.toNat default).dens q.an q.ad q.bn q.bd=.ok p) ∨
    (q.kind=1∧valR (cs.getD q.agent.toNat default).len (cs.getD q.agent.toNat default).cuts (cs.getD q.agent.toNat default).dens q.an q.ad q.bn q.bd=.ok p))
section
variable {cs:List Ck} {lg:List Qy}
theorem yzN (hd:DK cs) (hl:lg.length≤2000) (hq:∀ q∈lg,QR cs q) {a0} (x0:List PV→List PV→List PV→List PV→Int→Int→Bool→Prop) (x1:Int→Int→Prop) :
  ∀ (r i n:Nat),i+r=lg.length→r<n→yeo a0 ybS ycn ybY x0 x1 n (logs lg) (cks cs) (logs lg) (logs lg) (lg.length:Int) (i:Int)=x0 (logs lg) (cks cs) (logs lg) (logs lg) (lg.length:Int) (lg.length:Int) false
 | 0,i,n+1,hi,hn=>by
  obtain rfl:i=lg.length:=by omega
  rw [yeo,cbF (by omega)]
 | r+1,i,n+1,hi,hn=>by
  have h6:=hd.n6
  have e1:=wib (n:=(i:Int)+1) (by omega) (by omega)
  have ih:=yzN hd hl hq (a0:=a0) x0 x1 r (i+1) n (by omega) (by omega)
  have hm:=ycD (default:Qy) (show i<lg.length by omega)
  obtain ⟨⟨g0,g1⟩,⟨i1,i2,i3,i4⟩,p,⟨p1,p2⟩,hk⟩:=hq _ hm
  rw [yeo]
  dsimp only [lt,Go.Pf.jn]
  rw [cbT (by omega),yjg,asT (by omega),asT (by omega),qAe,yN8 (by omega),asQ,yQm,yQn,yQo,yQp,yQq,yQr,yQs,yQt,e1,ycP,ih]
  generalize lg.getD i default=q at *
  have hok:=hd.ok q.agent.toNat (by omega)
  have l1:=hok.l1;have l2:=hok.l2
  have em:∀ K,ycn (cks cs) (logs lg) q.agent q.an q.ad q.bn q.bd K=exK (mrkR (cs.getD q.agent.toNat default).len (cs.getD q.agent.toNat default).cuts (cs.getD q.agent.toNat default).dens q.an q.ad q.bn q.bd) K:=fun K=>by
   rw [ycn,yfW,ybC,yfB (by omega),asT (by omega),asT (by omega),asCk,ck0,ck1,ck2,yHU (by omega) (by omega) i1 i2 i3 i4]
  have ev:∀ K,ybY (cks cs) (logs lg) q.agent q.an q.ad q.bn q.bd K=exK (valR (cs.getD q.agent.toNat default).len (cs.getD q.agent.toNat default).cuts (cs.getD q.agent.toNat default).dens q.an q.ad q.bn q.bd) K:=fun K=>by
   rw [ybY,yfi,ybC,yfB (by omega),asT (by omega),asT (by omega),asCk,ck0,ck1,ck2,yyZ (by omega) (by omega) i1 i2 i3 i4]
  have hh:∀ K,ybS (cks cs) (logs lg) q.agent K=K true:=fun K=>by rw [yGA,decide_eq_true ⟨g0,g1⟩]
  have es:((p.num == q.cn)&&(((p.den:Int) == q.cd)&&true))=true:=by rw [p1,p2];simp
  rcases hk with ⟨k2,hr⟩ | ⟨k1,hr⟩
  ·rw [ceT k2,hh,qBt,yaf,cbF (by omega),decide_eq_false (by omega),yaf,em,hr]
   rw [yGz,cnF rfl,es,qBt,yaf]
  ·rw [ceF (by omega),hh,qBt,yaf,cbF (by omega),decide_eq_false (by omega),yaf,ev,hr]
   rw [yGz,cnF rfl,es,qBt,yaf]
theorem yLJ (hd:DK cs) (hl:lg.length≤2000) (hq:∀ q∈lg,QR cs q) (K:Int→Int→Prop):ye1 (cks cs) (logs lg) K=K (lg.length:Int) 0:=by
 refine yCi _ _ _ _ (fun K k=>?_) K
 have h6:=hd.n6
 unfold ye1 ynH
 rw [yln hd.fin (by omega),yjg,cnF (hd.err hl)]
 refine ⟨lg.length+1,(yzN hd hl hq _ _ lg.length 0 (lg.length+1) (by omega) (by omega)).mpr ?_⟩
 rw [yjg]
 exact k
end
theorem yNi {n g:Nat} (e:Es) (he:EG e) {x y:PV} (hx:(ykq n g).s.gd x=true) (hy:(ykq n g).s.gd y=true):Ans (E e) yc9 [x,y] (.int .i64 (yon x y)):=by
 obtain ⟨a,b,c,d,rfl,h1⟩:=yKj hx
 obtain ⟨a',b',c',d',rfl,h2⟩:=yKj hy
 obtain ⟨r,hr,ha⟩:=ysa e he [.agg [.int .i64 a,.int .i64 b,.int .i64 c,.int .i64 d],.agg [.int .i64 a',.int .i64 b',.int .i64 c',.int .i64 d']] (fun r=>r=.int .i64 (cmpI a b a' b')) (by
  show yhv a b c d a' b' c' d' (fun r=>PV.int .i64 r=.int .i64 (cmpI a b a' b'))
  unfold yhv ygR
  obtain ⟨k1,k2,k3⟩:=ymq h1
  obtain ⟨k4,k5,k6⟩:=ymq h2
  have:=yxq k1 k4 (fun x _=>PV.int .i64 x=.int .i64 (cmpI a b a' b'))
  rw [k2,k3,k5,k6] at this
  rw [this,yM0 h1 h2])
 rw [hr] at ha
 exact ha
section
variable {len:Int} {cuts dens:List Int}
theorem yxC (h:VC len cuts dens):∀ (r i:Nat) (p v:Rat),i+r=dens.length→((cuts.getD i 0:Int):Rat)≤p→p≤(len:Rat)→0<v→v≤vu cuts dens (len:Rat) r i-vu cuts dens p r i →
  ∀ D,1≤D→D≤1000000000000→In D p→In D v→v≤12000→∃ q d,mrkS cuts dens r i p v=.ok q∧(1≤d∧d≤12)∧In (d*D) q
 | 0,i,p,v,hi,_,_,v0,v1=>by
  unfold vu at v1
  grind
 | r+1,i,p,v,hi,hp,p1,v0,v1=>by
  intro D D1 D2 hpD hvD hv
  have l1:=h.l1
  have hl:=yKn h
  have hd:=yKo h (i:=i) (by omega)
  have hd2:=h.den (i:=i) (by omega)
  have hc0:(0:Rat)≤((cuts.getD i 0:Int):Rat):=Rat.intCast_nonneg.2 (h.lo (by omega))
  have hst:((cuts.getD i 0:Int):Rat)<((cuts.getD (i+1) 0:Int):Rat):=Rat.intCast_lt_intCast.2 (h.step (i:=i) (by omega))
  have hc1:((cuts.getD (i+1) 0:Int):Rat)≤(len:Rat):=by rw [← h.last];exact yAN h (by omega) (qAm _)
  have low:=yCS h r (i+1) (x:=p) (y:=((cuts.getD (i+1) 0:Int):Rat)) (by omega)
  have m1:=ygx p (cuts.getD i 0:Int)
  have m2:=ygx (len:Rat) (cuts.getD i 0:Int)
  have n1:=yhT (maxR p (cuts.getD i 0:Int)) (cuts.getD (i+1) 0:Int)
  have n2:=yhT (maxR (len:Rat) (cuts.getD i 0:Int)) (cuts.getD (i+1) 0:Int)
  have el:uC cuts i (len:Rat)=((cuts.getD (i+1) 0:Int):Rat):=by unfold uC;grind
  unfold vu at v1
  rw [el] at v1
  unfold mrkS
  by_cases c1:p<((cuts.getD (i+1) 0:Int):Rat)
  case neg =>
   rw [if_pos c1]
   have ep:uC cuts i p=((cuts.getD (i+1) 0:Int):Rat):=by unfold uC;grind
   rw [ep] at v1
   exact yxC h r (i+1) p v (by omega) (qB8.1 c1) p1 v0 (by grind) D D1 D2 hpD hvD hv
  rw [if_neg (fun k=>k c1)]
  have ep:uC cuts i p=p:=by unfold uC;grind
  rw [ep,low (qBp c1) qAr] at v1
  by_cases cz:dens.getD i 0=0
  ·rw [if_pos cz]
   rw [cz] at v1
   have e0:((0:Int):Rat)=0:=rfl
   exact yxC h r (i+1) ((cuts.getD (i+1) 0:Int):Rat) v (by omega) qAr hc1 v0 (by grind) D D1 D2 (In.int D1 _) hvD hv
  rw [if_neg cz]
  have hd1:0<dens.getD i 0:=by omega
  have dpos:(0:Rat)<((dens.getD i 0:Int):Rat):=Rat.intCast_pos.2 hd1
  have m:=yKp (x:=((cuts.getD (i+1) 0:Int):Rat)-p) (by grind) hd
  by_cases c3:(((cuts.getD (i+1) 0:Int):Rat)-p)*((dens.getD i 0:Int):Rat)<v
  ·have i1:=(In.int D1 (cuts.getD (i+1) 0)).sub hpD
   have i2:=i1.mulI (dens.getD i 0)
   have i3:=hvD.sub i2
   rw [yn7 (i1.small (M:=1000) ⟨by omega,by omega⟩ (by omega) (by show -(1000:Rat)≤_;grind) (by show _≤(1000:Rat);grind)),
    yn7 (i2.small (M:=12000) ⟨by omega,by omega⟩ (by omega) (by show -(12000:Rat)≤_;grind) (by show _≤(12000:Rat);grind)),if_pos c3,
    yn7 (i3.small (M:=12000) ⟨by omega,by omega⟩ (by omega) (by show -(12000:Rat)≤_;grind) (by show _≤(12000:Rat);grind))]
   exact yxC h r (i+1) ((cuts.getD (i+1) 0:Int):Rat) (v-(((cuts.getD (i+1) 0:Int):Rat)-p)*((dens.getD i 0:Int):Rat)) (by omega) qAr hc1 (by grind) (by grind) D D1 D2 (In.int D1 _) i3 (by grind)
  ·have i1:=(In.int D1 (cuts.getD (i+1) 0)).sub hpD
   have i2:=i1.mulI (dens.getD i 0)
   have i3:=hvD.div D1 (d:=dens.getD i 0) (by omega)
   have i4:=(hpD.up D1 (d:=dens.getD i 0) (by omega)).add i3
   have hDD:dens.getD i 0*D≤12*D:=qBh hd2.2 (by omega)
   have hDD1:1*1≤dens.getD i 0*D:=qBk (by omega) D1 (by omega) (by omega)
   generalize hs:v / ((dens.getD i 0:Int):Rat)=s at *
   have es:s*((dens.getD i 0:Int):Rat)=v:=by rw [← hs];exact Rat.div_mul_cancel (by grind)
   have s0:0≤s:=by
    refine qB8.1 fun k=>?_
    have:=Rat.mul_lt_mul_of_pos_right k dpos
    grind
   have s1:p+s≤((cuts.getD (i+1) 0:Int):Rat):=by
    refine qB8.1 fun k=>?_
    have:(((cuts.getD (i+1) 0:Int):Rat)-p)<s:=by grind
    have:=Rat.mul_lt_mul_of_pos_right this dpos
    grind
   rw [yn7 (i1.small (M:=1000) ⟨by omega,by omega⟩ (by omega) (by show -(1000:Rat)≤_;grind) (by show _≤(1000:Rat);grind)),
    yn7 (i2.small (M:=12000) ⟨by omega,by omega⟩ (by omega) (by show -(12000:Rat)≤_;grind) (by show _≤(12000:Rat);grind)),if_neg c3,
    yn7 (i3.small (M:=1000) ⟨by omega,by omega⟩ (by omega) (by show -(1000:Rat)≤_;grind) (by show _≤(1000:Rat);grind)),
    yn7 (i4.small (M:=1000) ⟨by omega,by omega⟩ (by omega) (by show -(1000:Rat)≤_;grind) (by show _≤(1000:Rat);grind))]
   exact ⟨_,dens.getD i 0,rfl,⟨by omega,hd2.2⟩,i4⟩
theorem yIe (h:VC len cuts dens) {p v:Rat} (p0:0≤p) (p1:p≤(len:Rat)) (v0:0<v) (hv:v≤vX cuts dens (len:Rat)-vX cuts dens p) {D:Int} (D1:1≤D) (D2:D≤1000000000000) (hp:In D p) (hvD:In D v) :
  ∃ q d,mrkC cuts dens p v=.ok q∧(1≤d∧d≤12)∧In (d*D) q∧vX cuts dens q=vX cuts dens p+v∧p<q∧q≤(len:Rat)∧∀ x,x<q→vX cuts dens x<vX cuts dens q:=by
 have c0:cuts.getD 0 0=0:=h.2.2.2.2.2.1
 have t:=yCT h
 have m0:=yxy h p0
 have tb:((totC cuts dens:Int):Rat)≤12000:=qAu.2 (yj7 h).2
 obtain ⟨q,d,e,hd,hq⟩:=yxC h dens.length 0 p v (by omega) (by rw [c0];exact p0) p1 v0 hv D D1 D2 hp hvD (by grind)
 have ec:mrkC cuts dens p v=.ok q:=by
  unfold mrkC
  rw [if_neg (by grind)]
  exact e
 obtain ⟨k1,k2,k3,_,k5⟩:=yOk h p0 p1 (qBp v0) ec
 refine ⟨q,d,ec,hd,hq,k1,?_,k3,k5 (by grind)⟩
 by_cases hlt:p<q
 ·exact hlt
 ·have:p=q:=by grind
  rw [← this] at k1
  grind
end
section
variable {l:List Ck}
def vXA (l:List Ck) (a:Nat) (p:Rat):Rat:=vX (l.getD a default).cuts (l.getD a default).dens p
def lenR (l:List Ck):Rat:=((l.getD 0 default).len:Rat)
def valQ (an ad:Int) (a:Nat) (p v:Rat):Qy:=⟨a,1,an,ad,p.num,p.den,v.num,v.den⟩
def valE (l:List Ck) (an ad:Int) (m a:Nat) (p:Rat):Except Int Rat:=qryR l m a (Ck.value an ad p.num p.den)
theorem yLK (hd:DK l) {a:Nat} (_:a<l.length) {an ad:Int} (ha:I64 an) (ha':I64 ad) (lg:List Qy) {p:Rat} (hp:small p) (K:List PV→List PV→Int→Int→Int→Prop) :
  yat (cks l) (logs lg) a an ad p.num p.den K =
   match valE l an ad lg.length a p with
   | .ok v=>K (cks l) (logs (lg++[valQ an ad a p v])) v.num v.den 0
   | .error e=>K [] [] 0 0 e:=by
 have n6:=hd.n6
 rw [yLq hd.fin (by omega) (yER lg) ha ha' hp.i1 hp.i2,yjg]
 have em:qryR l lg.length a (Ck.value an ad p.num p.den)=valE l an ad lg.length a p:=rfl
 rw [em]
 cases valE l an ad lg.length a p with
 | ok v =>
  show K (cks l) (logs lg++[_]) _ _ _=K (cks l) (logs (lg++[_])) _ _ _
  rw [yHW];rfl
 | error c=>rfl
theorem yNj {A r:List Nat} {i a:Nat} (h:A.drop i=a::r):i<A.length∧A.getD i 0=a∧A.drop (i+1)=r:=by
 have hlt:i<A.length:=by
  have:=congrArg List.length h
  rw [qA0,qAo] at this
  omega
 rw [List.drop_eq_getElem_cons hlt] at h
 rw [qAa,qAc hlt]
 exact ⟨hlt,(List.cons.inj h).1,(List.cons.inj h).2⟩
theorem yON {x:Int} {P:Prop}:asr (conf zI (.int .i64 x)) P=P:=rfl
theorem iov {k:IntKind} {x:Int}:yaa (.int k x)=x:=rfl
theorem yE7 (hd:DK l) {a:Nat} (h:a<l.length) {q p:Rat} (hs:small q) (hp:small p) (q0:0≤q) (qp:q≤p) (p1:p≤lenR l) {D:Int} (hD:1≤D∧D≤50000000000000) (hq:In D q) (hpD:In D p) {m:Nat} (hm:m<2000) :
  valE l q.num q.den m a p=.ok (vXA l a p-vXA l a q)∧QR l (valQ q.num q.den a p (vXA l a p-vXA l a q)):=by
 have hok:=hd.ok a h
 have hlen:=hd.len a h
 have p1':p≤((l.getD a default).len:Rat):=by rw [hlen];exact p1
 have e:valR (l.getD a default).len (l.getD a default).cuts (l.getD a default).dens q.num q.den p.num p.den=.ok (vXA l a p-vXA l a q):=by
  unfold valR
  rw [if_pos hok.ck,ye3,ye3,if_pos ⟨yzG hs q0 (qBm qp p1'),yzG hp (qBm q0 qp) p1',qB8.2 qp⟩]
  exact yE0 hok hD hq hpD q0 qp p1'
 refine ⟨?_,⟨by show (0:Int)≤a;omega,by show (a:Int)<_;omega⟩,⟨hs.i1,hs.i2,hp.i1,hp.i2⟩,vXA l a p-vXA l a q,⟨rfl,rfl⟩,.inr ⟨rfl,?_⟩⟩
 ·unfold valE qryR
  rw [if_pos (hd.err (by omega)),if_pos ⟨by omega,by omega⟩,qAe]
  have:Ck.value q.num q.den p.num p.den (l.getD a default)=.ok (vXA l a p-vXA l a q):=e
  rw [this]
  show (if m≥2000 then _ else _)=_
  rw [if_neg (by omega)]
 ·exact e
end
set_option maxRecDepth 100000
section
variable {l:List Ck}
theorem ygX (a b:Int) (K:Int→Int→Prop):yac a b 0 K=K a b:=rfl
theorem yKv (n:Int) (K:Int→Int→Prop):yaZ n K=K n 1:=rfl
def mkV (l:List Ck) (a:Nat) (q v:Rat):Rat:=getR (mrkC (l.getD a default).cuts (l.getD a default).dens q v)
def mkQ (a:Nat) (q v p:Rat):Qy:=⟨a,2,q.num,q.den,v.num,v.den,p.num,p.den⟩
def vlQ (l:List Ck) (a:Nat) (q p:Rat):Qy:=valQ q.num q.den a p (vXA l a p-vXA l a q)
structure MkV (l:List Ck) (a:Nat) (q v:Rat) (D:Int):Prop where
 e:mrkC (l.getD a default).cuts (l.getD a default).dens q v=.ok (mkV l a q v)
 d:∃ d:Int,(1≤d∧d≤12)∧In (d*D) (mkV l a q v)
 eqv:vXA l a (mkV l a q v)=vXA l a q+v
 ge:q≤mkV l a q v
 le:mkV l a q v≤lenR l
theorem yC6 (hd:DK l) {a:Nat} (ha:a<l.length) {q v:Rat} (q0:0≤q) (q1:q≤lenR l) (v0:0≤v) (hv:v≤vXA l a (lenR l)-vXA l a q) {D:Int} (D1:1≤D) (D2:D≤1000000000000) (hq:In D q) (hvD:In D v):MkV l a q v D:=by
 have hok:=hd.ok a ha
 have hlen:=hd.len a ha
 by_cases hz:v=0
 ·have e:mrkC (l.getD a default).cuts (l.getD a default).dens q v=.ok q:=by unfold mrkC;rw [if_pos hz]
  have g:mkV l a q v=q:=by unfold mkV;rw [e];rfl
  refine ⟨by rw [g];exact e,⟨1,by omega,by rw [g,Int.one_mul];exact hq⟩,by rw [g,hz];grind,by rw [g];exact qAr,by rw [g];exact q1⟩
 have v0:0<v:=by grind
 unfold vXA lenR at *
 rw [← hlen] at q1 hv
 obtain ⟨p,d,e,hd12,hp,k1,k2,k3,k4⟩:=yIe hok q0 q1 v0 hv D1 D2 hq hvD
 obtain ⟨_,g2⟩:=yKd e
 have g2:mkV l a q v=p:=g2
 refine ⟨?_,⟨d,hd12,?_⟩,?_,?_,?_⟩
 ·rw [g2];exact e
 ·rw [g2];exact hp
 ·rw [g2];exact k1
 ·rw [g2];exact qBp k2
 ·rw [g2];unfold lenR;rw [← hlen];exact k3
theorem yLL (hd:DK l) {a:Nat} (ha:a<l.length) {q v:Rat} (hs:small q) (q0:0≤q) (q1:q≤lenR l) (hv:small v) (v0:0≤v) {D:Int} (h:MkV l a q v D) {lg:List Qy} (hm:lg.length<2000) (K:List PV→List PV→Int→Int→Int→Prop) :
  ygN (cks l) (logs lg) a q.num q.den v.num v.den K=K (cks l) (logs (lg++[mkQ a q v (mkV l a q v)])) (mkV l a q v).num (mkV l a q v).den 0:=by
 have n6:=hd.n6
 have hok:=hd.ok a ha
 have e1:mrkR (l.getD a default).len (l.getD a default).cuts (l.getD a default).dens q.num q.den v.num v.den=.ok (mkV l a q v):=by
  unfold mrkR
  rw [if_pos hok.ck,if_pos ⟨yzG hs q0 (by rw [hd.len a ha];exact q1),hv.rv,Rat.num_nonneg.2 v0⟩,ye3,ye3]
  exact h.e
 have e2:qryR l lg.length (a:Int) (Ck.mark q.num q.den v.num v.den)=.ok (mkV l a q v):=by
  unfold qryR
  rw [if_pos (hd.err (by omega)),if_pos ⟨by omega,by omega⟩,qAe]
  have:Ck.mark q.num q.den v.num v.den (l.getD a default)=.ok (mkV l a q v):=e1
  rw [this]
  show (if lg.length≥2000 then _ else _)=_
  rw [if_neg (by omega)]
 rw [yMM hd.fin (by omega) (yER lg) hs.i1 hs.i2 hv.i1 hv.i2,yjg,e2]
 show K (cks l) (logs lg++[_]) _ _ _=K (cks l) (logs (lg++[_])) _ _ _
 rw [yHW];rfl
theorem yNk (hd:DK l) {a:Nat} (ha:a<l.length) {q v:Rat} (hs:small q) (q0:0≤q) (q1:q≤lenR l) (hv:small v) (v0:0≤v) {D:Int} (h:MkV l a q v D) {lg:List Qy} (hm:lg.length<2000) (K:Int→Int→List PV→List PV→Prop) :
  yaz (cks l) (logs lg) a q.num q.den v.num v.den K=K (mkV l a q v).num (mkV l a q v).den (cks l) (logs (lg++[mkQ a q v (mkV l a q v)])):=by
 unfold yaz ygS
 rw [yLL hd ha hs q0 q1 hv v0 h hm,ygX]
theorem yPv (hd:DK l) {a:Nat} (ha:a<l.length) {q p:Rat} (hs:small q) (hp:small p) (q0:0≤q) (qp:q≤p) (p1:p≤lenR l) {D:Int} (hD:1≤D∧D≤50000000000000) (hq:In D q) (hpD:In D p) {lg:List Qy} (hm:lg.length<2000) (K:List PV→List PV→Int→Int→Int→Prop) :
  yat (cks l) (logs lg) a q.num q.den p.num p.den K=K (cks l) (logs (lg++[vlQ l a q p])) (vXA l a p-vXA l a q).num (vXA l a p-vXA l a q).den 0:=by
 rw [yLK hd ha hs.i1 hs.i2 lg hp,(yE7 hd ha hs hp q0 qp p1 hD hq hpD (m:=lg.length) hm).1]
 rfl
def totR (l:List Ck) (a:Nat):Rat:=((totC (l.getD a default).cuts (l.getD a default).dens:Int):Rat)
theorem yNl (hd:DK l) {a:Nat} (h2:a<l.length) {lg:List PV} (hm:lg.length≤2000) (K:Int→Int→List PV→List PV→Prop):yaC (cks l) lg a K=K (totR l a).num (totR l a).den (cks l) lg:=by
 have hok:=hd.ok a h2
 have n6:=hd.n6
 have h1:=VC.l1 hok;have h3:=VC.l2 hok
 unfold yaC ygn ym6 ypB
 rw [yln hd.fin (by omega),hd.err hm,cnF rfl,yGA,decide_eq_true (by omega),qBt,yaf]
 simp only [lt]
 rw [ybC,qAe,yfB h2,asT (by omega),asT (by omega),asCk,ck0,ck1,ck2,yyY (by omega) (by omega),if_pos (VC.ck hok)]
 have e1:(totR l a).num=totC (l.getD a default).cuts (l.getD a default).dens:=Rat.num_intCast _
 have e2:(((totR l a).den:Nat):Int)=1:=by unfold totR;rw [Rat.den_intCast];rfl
 rw [e1,e2]
 rfl
def r13:Rat:=mkRat 1 3
def r23:Rat:=mkRat 2 3
theorem r13n:r13.num=1:=by decide +kernel
theorem r13d:r13.den=3:=by decide +kernel
theorem r23n:r23.num=2:=by decide +kernel
theorem r23d:r23.den=3:=by decide +kernel
theorem r13s:small r13:=by decide +kernel
theorem r23s:small r23:=by decide +kernel
theorem yKw (hd:DK l) {a:Nat} (ha:a<l.length) {q v:Rat} (hs:small q) (q0:0≤q) (q1:q≤lenR l) (hv:small v) (h1s:small (v*r13)) (h2s:small (v*r23)) (h10:0≤v*r13) (h20:0≤v*r23) {D D':Int} (h1:MkV l a q (v*r13) D) (h2:MkV l a q (v*r23) D') {lg:List Qy} (hm:lg.length+2<2000) (K:Int→Int→Int→Int→List PV→List PV→Prop) :
  yae (cks l) (logs lg) a q.num q.den v.num v.den K=K (mkV l a q (v*r13)).num (mkV l a q (v*r13)).den (mkV l a q (v*r23)).num (mkV l a q (v*r23)).den (cks l) (logs ((lg++[mkQ a q (v*r13) (mkV l a q (v*r13))])++[mkQ a q (v*r23) (mkV l a q (v*r23))])):=by
 unfold yae yfZ
 have m1:=fun K=>yxp hv r13s K
 have m2:=fun K=>yxp hv r23s K
 rw [r13n,r13d] at m1
 rw [r23n,r23d] at m2
 have m1:∀ K,ybJ v.num v.den 1 3 K=_:=m1
 have m2:∀ K,ybJ v.num v.den 2 3 K=_:=m2
 rw [m1,yfk,if_pos h1s,ygX,yNk hd ha hs q0 q1 h1s h10 h1 (by omega),m2,yfk,if_pos h2s,ygX,yNk hd ha hs q0 q1 h2s h20 h2 (by rw [qAi,qAt];omega)]
def pkL (v:Nat→Rat):Nat→List Nat→Nat
 | b,[]=>b
 | b,i::r=>pkL v (if v b<v i then i else b) r
theorem yPw {q r:Rat}:decide (cmpQ q r>0)=decide (r<q):=by
 unfold cmpQ
 by_cases h:q<r
 ·rw [if_pos h]
  have:¬r<q:=fun h'=>by grind
  simp [this]
 ·rw [if_neg h]
  by_cases h2:r<q
  ·simp [h2]
  ·simp [h2]
end
end Go.Pf.Vc
