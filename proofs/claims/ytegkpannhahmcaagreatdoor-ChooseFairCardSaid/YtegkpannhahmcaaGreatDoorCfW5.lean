/- Part 5 of what the statement rests on: a verified evaluator over pure values, the conditions of the program's functions, and their plain laws. -/
import Derived.Test.YtegkpannhahmcaaGreatDoorCfW4
namespace Go.Pf.Vc
open Go Go.Pf
section
variable {len:Int} {cuts dens:List Int}
theorem yCw (h:VC len cuts dens) (W:Int→List PV→List PV→(Int→Prop)→Prop) (x0:Int→List PV→List PV→Int→List PV→Int→Int→Bool→Prop) :
   ∀ (r i n:Nat) (s:Int),i+r=dens.length→r<n→0≤s→s≤12*cuts.getD i 0 →
     ydg W x0 n len (ints cuts) (ints dens) s (ints dens) dens.length i=x0 len (ints cuts) (ints dens) (totS cuts dens r i s) (ints dens) dens.length dens.length false
 | 0,i,n+1,s,hi,hn,h0,h1=>by
   unfold ydg totS
   rw [cbF (by omega)]
   have:(i:Int)=dens.length:=by omega
   rw [this]
 | r+1,i,n+1,s,hi,hn,h0,h1=>by
   unfold ydg
   have l1:=h.l1;have l2:=h.l2
   have h2:=h.step (i:=i) (by omega)
   have h3:=mul12 (h.den (i:=i) (by omega)) (x:=cuts.getD (i+1) 0-cuts.getD i 0) (by omega)
   have a1:=h.lo (i:=i) (by omega)
   have a2:=h.hi (i:=i+1) (by omega)
   have a3:=h.len0
   have e1:=wib (n:=(i:Int)+1) (by omega) (by omega)
   have e2:=wib (n:=cuts.getD (i+1) 0-cuts.getD i 0) (by omega) (by omega)
   have e3:=wib (n:=dens.getD i 0*(cuts.getD (i+1) 0-cuts.getD i 0)) (by omega) (by omega)
   have e4:=wib (n:=s+dens.getD i 0*(cuts.getD (i+1) 0-cuts.getD i 0)) (by omega) (by omega)
   rw [cbT (by omega),ybK,ybK,e1,cast1,Int.toNat_natCast,Int.toNat_natCast,asT (by omega),asT (by omega),asC (by omega),asT (by omega),asT (by omega),asC (by omega),asT (by omega),asT (by omega),asC (by omega),ydB (by omega),ydB (by omega),ydB (by omega),e2,e3,e4]
   exact yCw h W x0 r (i+1) n _ (by omega) (by omega) (by omega) (by omega)
theorem yzf (h1:cuts.length<4611686018427387904) (h2:dens.length<4611686018427387904) (K:Int→Int→Prop) :
   yad len (ints cuts) (ints dens) K=if ckC len cuts dens=0 then K (totC cuts dens) 0 else K 0 (ckC len cuts dens):=by
 by_cases h:ckC len cuts dens=0
 · rw [if_pos h]
   refine yBS _ _ _ _ _ (fun K k=>?_) K
   unfold yad ylr
   have hv:=yx5 h
   rw [ynr h1 h2,h,cnF rfl]
   refine ⟨dens.length+1,?_⟩
   have l1:=hv.l1
   have a1:=hv.lo (i:=0) (by omega)
   rw [ybK]
   have:=yCw hv yap (fun b c d a e f g j=>(K a (0:Int))) dens.length 0 (dens.length+1) 0 (by omega) (by omega) (by omega) (by omega)
   rw [show ((0:Nat):Int)=0 from rfl] at this
   rw [this]
   exact k
 · rw [if_neg h]
   unfold yad ylr
   rw [ynr h1 h2,cnT h]
def exK (e:Except Int Rat) (K:Int→Int→Int→Prop):Prop:=match e with | .ok q=>K q.num q.den 0 | .error c=>K 0 0 c
def fit {α:Type} (q:Rat) (k:Rat→Except Int α):Except Int α:=if small q then k q else .error 16
def valS (cuts dens:List Int) (b:Rat):Nat→Nat→Rat→Rat→Except Int Rat
 | 0,_,_,sum=>.ok sum
 | r+1,i,p,sum =>
   let en:Rat:=if b<(cuts.getD (i+1) 0:Int) then b else (cuts.getD (i+1) 0:Int)
   if dens.getD i 0=0∨¬p<en then valS cuts dens b r (i+1) (if p<en then en else p) sum
   else fit (en-p) fun l=>fit (l*(dens.getD i 0:Int)) fun w=>fit (sum+w) fun s=>valS cuts dens b r (i+1) en s
def valC (cuts dens:List Int) (a b:Rat):Except Int Rat:=valS cuts dens b dens.length 0 a 0
theorem yif {q:Rat} {K:Int→Int→Int→Prop}:fitK q K=if small q then K q.num q.den 0 else K 0 0 16:=rfl
theorem yCx (h:VC len cuts dens) {b:Rat} (hb:small b) (an ad:Int) (W1:Int→List PV→List PV→(Int→Prop)→Prop) (W2:Int→List PV→List PV→Int→Int→(Bool→Prop)→Prop) (K:Int→Int→Int→Prop) :
   ∀ (r i n:Nat) (p sum:Rat),i+r=dens.length→r<n→small p→small sum →
     ya1 W1 W2 ybM ybF ybE ybr yaD (fun a d e=>(K a d e)) (fun _ _ _ _ _ _ _ f g _ _ _ _ _ _=>(K f g (0:Int)))
       n len (ints cuts) (ints dens) b.num b.den an ad sum.num sum.den p.num p.den (ints dens) dens.length i=exK (valS cuts dens b r i p sum) K
 | 0,i,n+1,p,sum,hi,hn,hp,hs=>by
   unfold ya1 valS
   rw [cbF (by omega)];rfl
 | r+1,i,n+1,p,sum,hi,hn,hp,hs=>by
   unfold ya1
   have l1:=h.l1;have l2:=h.l2
   have sc:=h.sc (i:=i+1) (by omega)
   have sd:=h.sd (i:=i) (by omega)
   have e1:=wib (n:=(i:Int)+1) (by omega) (by omega)
   rw [cbT (by omega),ybK,ybK,e1,cast1,Int.toNat_natCast,Int.toNat_natCast,asT (by omega),asT (by omega),asC (by omega),asT (by omega),asT (by omega),asC (by omega),ydB (by omega),ydB (by omega),yko,yhY hb sc]
   have ih:=fun p sum hp hs=>yCx h hb an ad W1 W2 K r (i+1) n p sum (by omega) (by omega) hp hs
   unfold valS
   by_cases hbc:b<((cuts.getD (i+1) 0:Int):Rat)
   · rw [cbT hbc]
     simp only [if_pos hbc]
     by_cases hd:dens.getD i 0=0
     · rw [ceT hd,if_pos (.inl hd),yhY hp hb]
       by_cases hpb:p<b
       · rw [cbT hpb,if_pos hpb];exact ih b sum hb hs
       · rw [cbF hpb,if_neg hpb];exact ih p sum hp hs
     · rw [ceF hd,yhY hp hb]
       by_cases hpb:p<b
       · have hc:¬(dens.getD i 0=0∨¬p<b):=by simp [hpb];exact hd
         rw [if_neg hc,decide_eq_true hpb,Bool.not_true,yab,yAS hb hp,yif]
         by_cases s1:small (b-p)
         · rw [if_pos s1,cnF rfl,yko,yF8 s1 sd,yif,fit,if_pos s1]
           by_cases s2:small ((b-p)*(dens.getD i 0:Int))
           · rw [if_pos s2,cnF rfl,yAR hs s2,yif,fit,if_pos s2]
             by_cases s3:small (sum+(b-p)*(dens.getD i 0:Int))
             · rw [if_pos s3,cnF rfl,fit,if_pos s3];exact ih b _ hb s3
             · rw [if_neg s3,cnT (by decide),fit,if_neg s3];rfl
           · rw [if_neg s2,cnT (by decide),fit,if_neg s2];rfl
         · rw [if_neg s1,cnT (by decide),fit,if_neg s1];rfl
       · rw [if_pos (.inr hpb),decide_eq_false hpb,Bool.not_false,yah,yhY hp hb,cbF hpb,if_neg hpb];exact ih p sum hp hs
   · rw [cbF hbc]
     simp only [if_neg hbc]
     obtain ⟨c,hc⟩:∃ c:Rat,c=((cuts.getD (i+1) 0:Int):Rat):=⟨_,rfl⟩
     rw [← hc] at sc ⊢
     by_cases hd:dens.getD i 0=0
     · rw [ceT hd,if_pos (.inl hd),yhY hp sc]
       by_cases hpb:p<c
       · rw [cbT hpb,if_pos hpb];exact ih c sum sc hs
       · rw [cbF hpb,if_neg hpb];exact ih p sum hp hs
     · rw [ceF hd,yhY hp sc]
       by_cases hpb:p<c
       · have hcc:¬(dens.getD i 0=0∨¬p<c):=by simp [hpb];exact hd
         rw [if_neg hcc,decide_eq_true hpb,Bool.not_true,yab,yAS sc hp,yif]
         by_cases s1:small (c-p)
         · rw [if_pos s1,cnF rfl,yko,yF8 s1 sd,yif,fit,if_pos s1]
           by_cases s2:small ((c-p)*(dens.getD i 0:Int))
           · rw [if_pos s2,cnF rfl,yAR hs s2,yif,fit,if_pos s2]
             by_cases s3:small (sum+(c-p)*(dens.getD i 0:Int))
             · rw [if_pos s3,cnF rfl,fit,if_pos s3];exact ih c _ sc s3
             · rw [if_neg s3,cnT (by decide),fit,if_neg s3];rfl
           · rw [if_neg s2,cnT (by decide),fit,if_neg s2];rfl
         · rw [if_neg s1,cnT (by decide),fit,if_neg s1];rfl
       · rw [if_pos (.inr hpb),decide_eq_false hpb,Bool.not_false,yah,yhY hp sc,cbF hpb,if_neg hpb];exact ih p sum hp hs
end
end Go.Pf.Vc
namespace Go.Pf.Vc
open Go Go.Pf
def rt (n d:Int):Rat:=mkRat n d.toNat
theorem yf4 (q:Rat):rt q.num q.den=q:=by unfold rt;rw [Int.toNat_natCast,Rat.mkRat_self]
theorem rt_of {n d:Int} (h:RV n d):small (rt n d)∧(rt n d).num=n∧((rt n d).den:Int)=d:=by
 obtain ⟨q,h1,h2,h3⟩:=yJD h
 subst h2 h3
 rw [yf4];exact ⟨h1,rfl,rfl⟩
theorem PT.pt {len n d:Int} (h:PT len n d):small (rt n d)∧(rt n d).num=n∧((rt n d).den:Int)=d∧0≤rt n d∧rt n d≤(len:Rat):=by
 obtain ⟨q,h1,h2,h3,h4,h5⟩:=yPq h
 subst h2 h3
 rw [yf4];exact ⟨h1,rfl,rfl,h4,h5⟩
theorem PT_of {len:Int} {q:Rat} (h:small q) (h0:0≤q) (h1:q≤(len:Rat)):PT len q.num q.den:=by
 refine ⟨h.rv,Rat.num_nonneg.2 h0,?_⟩
 rw [Rat.le_iff,Rat.num_intCast,Rat.den_intCast] at h1
 simpa using h1
section
variable {len:Int} {cuts dens:List Int}
def valR (len:Int) (cuts dens:List Int) (an ad bn bd:Int):Except Int Rat :=
 if ckC len cuts dens=0 then (if PT len an ad∧PT len bn bd∧¬rt bn bd<rt an ad then valC cuts dens (rt an ad) (rt bn bd) else .error 2) else .error (ckC len cuts dens)
theorem yMW {w:(Int→Int→Int→Prop)→Prop} {e:Except Int Rat} (det:∀ r0 r1 r2,(∀ K:Int→Int→Int→Prop,K r0 r1 r2→w K)→∀ K,w K=K r0 r1 r2) (h:∀ K,exK e K→w K) (K:Int→Int→Int→Prop):w K=exK e K:=by
 cases e with
 | ok q=>exact det _ _ _ h K
 | error c=>exact det _ _ _ h K
theorem yzg (h1:cuts.length<4611686018427387904) (h2:dens.length<4611686018427387904) {an ad bn bd:Int} (ha:I64 an) (ha':I64 ad) (hb:I64 bn) (hb':I64 bd) (K:Int→Int→Int→Prop) :
   ybn len (ints cuts) (ints dens) an ad bn bd K=exK (valR len cuts dens an ad bn bd) K:=by
 refine yMW (fun r0 r1 r2 h K=>yBT _ _ _ _ _ _ _ r0 r1 r2 h K) (fun K k=>?_) K
 unfold ybn ypB
 rw [ynr h1 h2]
 unfold valR at k
 by_cases h:ckC len cuts dens=0
 case neg=>rw [cnT h];rw [if_neg h] at k;exact k
 have hv:=yx5 h
 have hl:=hv.len0
 rw [if_pos h] at k
 rw [cnF h,yCu (by omega) ha ha']
 by_cases p1:PT len an ad
 case neg=>rw [decide_eq_false p1,Bool.not_false,yah];rw [if_neg (fun x=>p1 x.1)] at k;exact k
 rw [decide_eq_true p1,Bool.not_true,yab,yCu (by omega) hb hb']
 by_cases p2:PT len bn bd
 case neg=>rw [decide_eq_false p2,Bool.not_false,yah];rw [if_neg (fun x=>p2 x.2.1)] at k;exact k
 rw [decide_eq_true p2,Bool.not_true,yab]
 obtain ⟨s1,e1,e2,_,_⟩:=p1.pt
 obtain ⟨s2,f1,f2,_,_⟩:=p2.pt
 have hless:=yhY s2 s1
 rw [e1,e2,f1,f2] at hless
 rw [hless]
 by_cases p3:rt bn bd<rt an ad
 · rw [cbT p3];rw [if_neg (fun x=>x.2.2 p3)] at k;exact k
 rw [cbF p3]
 rw [if_pos ⟨p1,p2,p3⟩] at k
 rw [yko,ybK]
 refine ⟨dens.length+1,?_⟩
 have:=yCx hv s2 0 0 yap ybR K dens.length 0 (dens.length+1) (rt an ad) 0 (by omega) (by omega) s1 (by decide)
 rw [e1,e2,f1,f2] at this
 exact this.mpr k
def mrkS (cuts dens:List Int):Nat→Nat→Rat→Rat→Except Int Rat
 | 0,_,_,_=>.error 6
 | r+1,i,p,v =>
   if ¬p<(cuts.getD (i+1) 0:Int) then mrkS cuts dens r (i+1) p v
   else if dens.getD i 0=0 then mrkS cuts dens r (i+1) (cuts.getD (i+1) 0:Int) v
   else fit ((cuts.getD (i+1) 0:Int)-p) fun l=>fit (l*(dens.getD i 0:Int)) fun w =>
     if w<v then fit (v-w) fun v'=>mrkS cuts dens r (i+1) (cuts.getD (i+1) 0:Int) v'
     else fit (v / (dens.getD i 0:Int)) fun s=>fit (p+s) .ok
def mrkC (cuts dens:List Int) (a v:Rat):Except Int Rat:=if v=0 then .ok a else mrkS cuts dens dens.length 0 a v
def mrkR (len:Int) (cuts dens:List Int) (an ad vn vd:Int):Except Int Rat :=
 if ckC len cuts dens=0 then (if PT len an ad∧RV vn vd∧0≤vn then mrkC cuts dens (rt an ad) (rt vn vd) else .error 2) else .error (ckC len cuts dens)
theorem yED (h:VC len cuts dens) (W1:Int→List PV→List PV→(Int→Prop)→Prop) (W2:Int→List PV→List PV→Int→Int→(Bool→Prop)→Prop) (W3:Int→Int→(Int→Prop)→Prop) (K:Int→Int→Int→Prop) :
   ∀ (r i n:Nat) (p v:Rat) (o1 o2:Int),i+r=dens.length→r<n→small p→small v →
     ybu W1 W2 W3 ybF ybM ybE ybr yav yaD
       (fun _ _ b d f a=>(cbr (a !=(0:Int)) (cbr (a !=(0:Int)) (K (0:Int) (0:Int) a) (K b d (0:Int))) (cbr (f !=(0:Int)) (K (0:Int) (0:Int) f) (K b d (0:Int)))))
       (fun _ _ j k g _ _ _ _ _ _ _ _ _=>(cbr (g !=(0:Int)) (K (0:Int) (0:Int) g) (K j k (0:Int))))
       n v.num v.den o1 o2 6 len (ints cuts) (ints dens) p.num p.den (ints dens) dens.length i=exK (mrkS cuts dens r i p v) K
 | 0,i,n+1,p,v,o1,o2,hi,hn,hp,hs=>by
   unfold ybu mrkS
   rw [cbF (by omega)];rfl
 | r+1,i,n+1,p,v,o1,o2,hi,hn,hp,hs=>by
   unfold ybu
   have l1:=h.l1;have l2:=h.l2
   have sc:=h.sc (i:=i+1) (by omega)
   have sd:=h.sd (i:=i) (by omega)
   have hd0:=h.den (i:=i) (by omega)
   have e1:=wib (n:=(i:Int)+1) (by omega) (by omega)
   rw [cbT (by omega),ybK,ybK,e1,cast1,Int.toNat_natCast,Int.toNat_natCast,asT (by omega),asT (by omega),asC (by omega),asT (by omega),asT (by omega),asC (by omega),ydB (by omega),ydB (by omega),yko,yhY hp sc]
   have ih:=fun p v o1 o2 hp hs=>yED h W1 W2 W3 K r (i+1) n p v o1 o2 (by omega) (by omega) hp hs
   unfold mrkS
   obtain ⟨c,hc⟩:∃ c:Rat,c=((cuts.getD (i+1) 0:Int):Rat):=⟨_,rfl⟩
   rw [← hc] at sc ⊢
   by_cases hpc:p<c
   case neg=>rw [decide_eq_false hpc,Bool.not_false,yah,if_pos hpc];exact ih p v o1 o2 hp hs
   rw [decide_eq_true hpc,Bool.not_true,yab,if_neg (fun x=>x hpc),yko]
   by_cases hd:dens.getD i 0=0
   · rw [cbF (by omega),ceT hd,if_pos hd];exact ih c v o1 o2 sc hs
   rw [cbT (by omega),if_neg hd,yAS sc hp,yif]
   by_cases s1:small (c-p)
   case neg=>rw [if_neg s1,cnT (by decide),cnT (by decide),cnT (by decide),fit,if_neg s1];rfl
   rw [if_pos s1,cnF rfl,yko,yF8 s1 sd,yif,fit,if_pos s1]
   by_cases s2:small ((c-p)*(dens.getD i 0:Int))
   case neg=>rw [if_neg s2,cnT (by decide),cnT (by decide),cnT (by decide),fit,if_neg s2];rfl
   rw [if_pos s2,cnF rfl,ceF hd,yhY s2 hs,fit,if_pos s2]
   by_cases hw:(c-p)*(dens.getD i 0:Int)<v
   · rw [cbT hw,if_pos hw,yAS hs s2,yif,fit]
     by_cases s3:small (v-(c-p)*(dens.getD i 0:Int))
     · rw [if_pos s3,if_pos s3,cnF rfl,cnF rfl];exact ih c _ o1 o2 sc s3
     · rw [if_neg s3,if_neg s3,cnT (by decide),cnT (by decide),cnF rfl,cnT (by decide)];rfl
   · have hdn:((dens.getD i 0:Int):Rat)≠0:=fun e=>hd (Rat.intCast_eq_zero_iff.1 e)
     rw [cbF hw,if_neg hw,yko,yKv hs sd hdn,yif,fit]
     by_cases s3:small (v / (dens.getD i 0:Int))
     · rw [if_pos s3,if_pos s3,ceT rfl,yAR hp s3,yif,fit]
       by_cases s4:small (p+v / (dens.getD i 0:Int))
       · rw [if_pos s4,if_pos s4,cnF rfl,cnF rfl];rfl
       · rw [if_neg s4,if_neg s4,cnF rfl,cnT (by decide)];rfl
     · rw [if_neg s3,if_neg s3,ceF (by decide),cnF rfl,cnT (by decide)];rfl
theorem yHP (h1:cuts.length<4611686018427387904) (h2:dens.length<4611686018427387904) {an ad vn vd:Int} (ha:I64 an) (ha':I64 ad) (hv:I64 vn) (hv':I64 vd) (K:Int→Int→Int→Prop) :
   yhH len (ints cuts) (ints dens) an ad vn vd K=exK (mrkR len cuts dens an ad vn vd) K:=by
 refine yMW (fun r0 r1 r2 h K=>yDC _ _ _ _ _ _ _ r0 r1 r2 h K) (fun K k=>?_) K
 unfold yhH yqM
 rw [ynr h1 h2]
 unfold mrkR at k
 by_cases h:ckC len cuts dens=0
 case neg=>rw [cnT h];rw [if_neg h] at k;exact k
 have hc:=yx5 h
 have hl:=hc.len0
 rw [if_pos h] at k
 rw [cnF h,yCu (by omega) ha ha']
 by_cases p1:PT len an ad
 case neg=>rw [decide_eq_false p1,Bool.not_false,yah];rw [if_neg (fun x=>p1 x.1)] at k;exact k
 rw [decide_eq_true p1,Bool.not_true,yab,yEB hv hv',chk]
 by_cases p2:RV vn vd
 case neg=>rw [if_neg p2,cnT (by decide)];rw [if_neg (fun x=>p2 x.2.1)] at k;exact k
 rw [if_pos p2,cnF rfl]
 by_cases p3:vn<0
 · rw [cbT p3];rw [if_neg (fun x=>by omega)] at k;exact k
 rw [cbF p3]
 rw [if_pos ⟨p1,p2,by omega⟩] at k
 obtain ⟨s1,e1,e2,_,_⟩:=p1.pt
 obtain ⟨s2,f1,f2⟩:=rt_of p2
 unfold mrkC at k
 by_cases p4:vn=0
 · rw [ceT p4]
   rw [if_pos (Rat.num_eq_zero.1 (f1.trans p4))] at k
   have k:K (rt an ad).num (rt an ad).den 0:=k
   rw [e1,e2] at k
   exact k
 rw [ceF p4]
 rw [if_neg (fun x=>p4 (by rw [← f1,x];rfl))] at k
 rw [ybK]
 refine ⟨dens.length+1,?_⟩
 have:=yED hc yap ybR ybp K dens.length 0 (dens.length+1) (rt an ad) (rt vn vd) 0 0 (by omega) (by omega) s1 s2
 rw [e1,e2,f1,f2] at this
 exact this.mpr k
end
end Go.Pf.Vc
namespace Go.Pf.Vc
open Go Go.Pf
section
variable {len:Int} {cuts dens:List Int}
def okD (cuts dens:List Int) (i:Nat):Prop:=∀ j,i≤j→j<dens.length→cuts.getD j 0<cuts.getD (j+1) 0∧0≤dens.getD j 0∧dens.getD j 0≤12
theorem ytt (l1:dens.length+1=cuts.length) (l2:dens.length<4611686018427387904) (x0:Int→Prop) (x1:Int→List PV→List PV→Bool→Int→Bool→Prop) (P:Prop)
   (hbad:¬okD cuts dens 0→x0 8=P) (hgood:∀ b:Bool,okD cuts dens 0→b=decide (∃ j,j<dens.length∧0<dens.getD j 0)→x1 len (ints cuts) (ints dens) b dens.length false=P) :
   ∀ (r i n:Nat) (b:Bool),i+r=dens.length→r<n→(∀ j,j<i→cuts.getD j 0<cuts.getD (j+1) 0∧0≤dens.getD j 0∧dens.getD j 0≤12)→b=decide (∃ j,j<i∧0<dens.getD j 0) →
     yc4 x0 x1 n len (ints cuts) (ints dens) b i=P
 | 0,i,n+1,b,hi,hn,hj,hb=>by
   unfold yc4
   rw [ybK,cbF (by omega),show (i:Int)=dens.length by omega]
   refine hgood b (fun j _ h=>hj j (by omega)) ?_
   rw [hb,decide_eq_decide]
   rw [show i=dens.length by omega]
 | r+1,i,n+1,b,hi,hn,hj,hb=>by
   unfold yc4
   have e1:=wib (n:=(i:Int)+1) (by omega) (by omega)
   rw [ybK,ybK,cbT (by omega),e1,cast1,Int.toNat_natCast,Int.toNat_natCast,asT (by omega),asT (by omega),asC (by omega),asT (by omega),asT (by omega),asC (by omega),ydB (by omega),ydB (by omega)]
   have bad:¬(cuts.getD i 0<cuts.getD (i+1) 0∧0≤dens.getD i 0∧dens.getD i 0≤12)→x0 8=P:=fun h=>hbad fun hk=>h (hk i (by omega) (by omega))
   by_cases a1:cuts.getD (i+1) 0≤cuts.getD i 0
   · rw [cbT a1];exact bad (by omega)
   rw [cbF a1,asT (by omega),asT (by omega),asC (by omega),ydB (by omega)]
   by_cases a2:dens.getD i 0<0
   · rw [cbT a2];exact bad (by omega)
   rw [cbF a2,asT (by omega),asT (by omega),asC (by omega)]
   by_cases a3:dens.getD i 0>12
   · rw [cbT a3];exact bad (by omega)
   rw [cbF a3]
   have hj2:∀ j,j<i+1→cuts.getD j 0<cuts.getD (j+1) 0∧0≤dens.getD j 0∧dens.getD j 0≤12:=by
     intro j hlt
     by_cases e:j=i
     · subst e;omega
     · exact hj j (by omega)
   have ex:∀ c:Bool,(c=true↔(b=true∨0<dens.getD i 0))→c=decide (∃ j,j<i+1∧0<dens.getD j 0):=by
     intro c hc
     rw [Bool.eq_iff_iff,hc,hb,decide_eq_true_iff,decide_eq_true_iff]
     constructor
     · rintro (⟨j,h1,h2⟩ | h)
       · exact ⟨j,by omega,h2⟩
       · exact ⟨i,by omega,h⟩
     · rintro ⟨j,h1,h2⟩
       by_cases e:j=i
       · subst e;exact .inr h2
       · exact .inl ⟨j,by omega,h2⟩
   cases b with
   | true =>
     rw [yah]
     exact ytt l1 l2 x0 x1 P hbad hgood r (i+1) n true (by omega) (by omega) hj2 (ex _ (by simp))
   | false =>
     rw [yab,asT (by omega),asT (by omega),asC (by omega)]
     exact ytt l1 l2 x0 x1 P hbad hgood r (i+1) n _ (by omega) (by omega) hj2 (ex _ (by simp))
theorem yEE (h1:cuts.length<4611686018427387904) (h2:dens.length<4611686018427387904) (K:Int→Prop) :
   ycm len (ints cuts) (ints dens) K=K (ckC len cuts dens):=by
 refine yDN _ _ _ _ (fun K k=>?_) K
 unfold ycm yq4
 simp only [ybK]
 have bad:¬(len>1000∨cuts.length>40)→¬VC len cuts dens→K 8:=fun h h2=>by
   rw [ckC,if_neg h,if_neg h2] at k;exact k
 by_cases a1:len>1000
 · rw [cbT a1];rw [ckC,if_pos (.inl a1)] at k;exact k
 rw [cbF a1]
 by_cases a2:cuts.length>40
 · rw [cbT (by omega)];rw [ckC,if_pos (.inr a2)] at k;exact k
 have a12:¬(len>1000∨cuts.length>40):=by omega
 rw [cbF (by omega)]
 by_cases a3:len<1
 · rw [cbT a3];exact bad a12 (fun h=>by have:=h.1;omega)
 rw [cbF a3]
 by_cases a4:cuts.length<2
 · rw [cbT (by omega)];exact bad a12 (fun h=>by have:=h.2.2.1;omega)
 rw [cbF (by omega),wib (n:=(cuts.length:Int)-1) (by omega) (by omega)]
 by_cases a5:dens.length+1=cuts.length
 case neg=>rw [cnT (by omega)];exact bad a12 (fun h=>a5 h.2.2.2.2.1)
 rw [cnF (by omega),asT (by omega),asC (by omega),ydB (by omega)]
 by_cases a6:cuts.getD 0 0=0
 case neg=>rw [cnT a6];exact bad a12 (fun h=>a6 h.2.2.2.2.2.1)
 rw [cnF a6,asT (by omega),asT (by omega),asC (by omega),ydB (by omega)]
 have en:((cuts.length:Int)-1).toNat=cuts.length-1:=by omega
 rw [en]
 by_cases a7:cuts.getD (cuts.length-1) 0=len
 case neg=>rw [cnT a7];exact bad a12 (fun h=>a7 h.2.2.2.2.2.2.1)
 rw [cnF a7]
 have mem:∀ d,d∈dens↔∃ j,j<dens.length∧dens.getD j 0=d:=by
   intro d
   rw [List.mem_iff_getElem]
   constructor
   · rintro ⟨j,hj,e⟩;exact ⟨j,hj,by rw [List.getD_eq_getElem?_getD,List.getElem?_eq_getElem hj];exact e⟩
   · rintro ⟨j,hj,e⟩;exact ⟨j,hj,by rw [List.getD_eq_getElem?_getD,List.getElem?_eq_getElem hj] at e;exact e⟩
 refine ⟨dens.length+1,?_⟩
 refine (ytt a5 h2 _ _ (K (ckC len cuts dens)) (fun hk=>?_) (fun b hk hb=>?_) dens.length 0 (dens.length+1) false (by omega) (by omega) (fun j h=>by omega) (by simp)).mpr k
 · have hv:¬VC len cuts dens:=fun h=>hk fun j _ hj=>⟨h.step (by omega),h.den hj⟩
   rw [ckC,if_neg a12,if_neg hv]
 · have hsome:someD dens↔∃ j,j<dens.length∧0<dens.getD j 0:=by
     constructor
     · rintro ⟨d,hd,h0⟩
       obtain ⟨j,hj,e⟩:=(mem d).1 hd
       exact ⟨j,hj,by rw [e];exact h0⟩
     · rintro ⟨j,hj,h0⟩;exact ⟨_,(mem _).2 ⟨j,hj,rfl⟩,h0⟩
   have hv:VC len cuts dens↔someD dens:=by
     refine ⟨fun h=>h.2.2.2.2.2.2.2.2.2,fun h=>⟨by omega,by omega,by omega,by omega,a5,a6,a7,fun j _ hj=>(hk j (by omega) (by omega)).1,fun d hd=>?_,h⟩⟩
     obtain ⟨j,hj,e⟩:=(mem d).1 hd
     rw [← e];exact (hk j (by omega) hj).2
   rw [ckC,if_neg a12]
   by_cases hs:someD dens
   · rw [if_pos (hv.2 hs),hb,decide_eq_true (hsome.1 hs)];rfl
   · rw [if_neg (fun x=>hs (hv.1 x)),hb,decide_eq_false (fun x=>hs (hsome.2 x))];rfl
theorem yCy (h:VC len cuts dens) (x0:Int→List PV→List PV→Int→Int→Bool→Prop) :
   ∀ (r i n:Nat) (s:Int),i+r=dens.length→r<n→0≤s→s≤12*cuts.getD i 0 →
     ydM x0 n len (ints cuts) (ints dens) s i=x0 len (ints cuts) (ints dens) (totS cuts dens r i s) dens.length false
 | 0,i,n+1,s,hi,hn,h0,h1=>by
   unfold ydM totS
   have:(i:Int)=dens.length:=by omega
   rw [ybK,cbF (by omega),this]
 | r+1,i,n+1,s,hi,hn,h0,h1=>by
   unfold ydM
   have l1:=h.l1;have l2:=h.l2
   have h2:=h.step (i:=i) (by omega)
   have h3:=mul12 (h.den (i:=i) (by omega)) (x:=cuts.getD (i+1) 0-cuts.getD i 0) (by omega)
   have a1:=h.lo (i:=i) (by omega)
   have a2:=h.hi (i:=i+1) (by omega)
   have a3:=h.len0
   have e1:=wib (n:=(i:Int)+1) (by omega) (by omega)
   have e2:=wib (n:=cuts.getD (i+1) 0-cuts.getD i 0) (by omega) (by omega)
   have e3:=wib (n:=dens.getD i 0*(cuts.getD (i+1) 0-cuts.getD i 0)) (by omega) (by omega)
   have e4:=wib (n:=s+dens.getD i 0*(cuts.getD (i+1) 0-cuts.getD i 0)) (by omega) (by omega)
   rw [ybK,ybK,cbT (by omega),e1,cast1,Int.toNat_natCast,Int.toNat_natCast,asT (by omega),asT (by omega),asC (by omega),asT (by omega),asT (by omega),asC (by omega),asT (by omega),asT (by omega),asC (by omega),ydB (by omega),ydB (by omega),ydB (by omega),e2,e3,e4]
   exact yCy h x0 r (i+1) n _ (by omega) (by omega) (by omega) (by omega)
theorem yLy (hv:VC len cuts dens) (K:Int→Prop):yhP len (ints cuts) (ints dens) K=K (totC cuts dens):=by
 refine yDO _ _ _ _ (fun K k=>?_) K
 unfold yhP yq7
 refine ⟨dens.length+1,?_⟩
 have l1:=hv.l1
 have a1:=hv.lo (i:=0) (by omega)
 have:=yCy hv (fun b c d a e f=>K a) dens.length 0 (dens.length+1) 0 (by omega) (by omega) (by omega) (by omega)
 rw [show ((0:Nat):Int)=0 from rfl] at this
 rw [this]
 exact k
end
end Go.Pf.Vc
namespace Go.Pf.Vc
open Go Go.Pf
section
variable {len:Int} {cuts dens:List Int}
theorem yoK {α:Type} {q:Rat} {k:Rat→Except Int α} (h:small q):fit q k=k q:=if_pos h
theorem yF9 {q:Rat} {K:Int→Int→Int→Prop}:exK (.ok q) K=K q.num q.den 0:=rfl
theorem yMX {c:Int} {K:Int→Int→Int→Prop}:exK (.error c) K=K 0 0 c:=rfl
end
end Go.Pf.Vc
namespace Go.Pf.Vc
open Go Go.Pf
structure Ck where
 len:Int
 cuts:List Int
 dens:List Int
instance:Inhabited Ck:=⟨⟨0,[],[]⟩⟩
def encC (c:Ck):PV:=.agg [.int .i64 c.len,.data (ints c.cuts),.data (ints c.dens)]
def cks (l:List Ck):List PV:=l.map encC
def Ck.fin (c:Ck):Prop:=c.cuts.length<4611686018427387904∧c.dens.length<4611686018427387904
def Ck.err (c:Ck):Int:=ckC c.len c.cuts c.dens
def Ck.ok (c:Ck):Prop:=VC c.len c.cuts c.dens
instance (c:Ck):Decidable c.ok:=by unfold Ck.ok;infer_instance
theorem ybc (l:List Ck):(cks l).length=l.length:=List.length_map ..
theorem yfd {l:List Ck} {i:Nat} (h:i<l.length):List.getD (cks l) i .nils=encC (l.getD i default):=by
 unfold cks
 rw [List.getD_eq_getElem?_getD,List.getD_eq_getElem?_getD,List.getElem?_map,List.getElem?_eq_getElem h]
 rfl
theorem ycV {α:Type} {l:List α} {i:Nat} (d:α) (h:i<l.length):l.drop i=l.getD i d::l.drop (i+1):=by
 rw [List.drop_eq_getElem_cons h,List.getD_eq_getElem?_getD,List.getElem?_eq_getElem h];rfl
theorem asCk {c:Ck} {P:Prop}:asr (conf (.agg [.i .i64,.d,.d]) (encC c)) P=P:=rfl
theorem ck0 (c:Ck):intOfV (cellAt (encC c) 0)=c.len:=rfl
theorem ck1 (c:Ck):datOfV (cellAt (encC c) 1)=ints c.cuts:=rfl
theorem ck2 (c:Ck):datOfV (cellAt (encC c) 2)=ints c.dens:=rfl
def firstE:List Ck→Int
 | []=>0
 | c::t=>if c.err=0 then firstE t else c.err
def lensOk (n:Int):List Ck→Bool
 | []=>true
 | c::t=>decide (c.len=n)&&lensOk n t
def deskE (l:List Ck) (m:Nat):Int :=
 if l.length>6 then 4 else if m>2000 then 4 else if l.length=0 then 8 else if firstE l=0 then (if lensOk (l.getD 0 default).len l then 0 else 8) else firstE l
section
variable {l:List Ck}
def finC (l:List Ck):Prop:=∀ i,i<l.length→(l.getD i default).fin
theorem aCheck0 (hf:finC l) (hl:l.length<4611686018427387904) (x0:Int→Prop) (x1:List PV→List PV→List PV→Int→Int→Bool→Prop) (lg:List PV) :
   ∀ (r i n:Nat),i+r=l.length→r<n→ydK yap x0 x1 n (cks l) lg (cks l) l.length i =
     if firstE (l.drop i)=0 then x1 (cks l) lg (cks l) l.length l.length false else x0 (firstE (l.drop i))
 | 0,i,n+1,hi,hn=>by
   unfold ydK
   rw [cbF (by omega),List.drop_of_length_le (by omega),show (i:Int)=l.length by omega];rfl
 | r+1,i,n+1,hi,hn=>by
   unfold ydK
   have e1:=wib (n:=(i:Int)+1) (by omega) (by omega)
   obtain ⟨f1,f2⟩:=hf i (by omega)
   rw [cbT (by omega),ybc,Int.toNat_natCast,yfd (by omega),asT (by omega),asT (by omega),asCk,ck0,ck1,ck2,ynr (by omega) (by omega),ycV default (by omega),firstE,e1,cast1]
   show cbr ((l.getD i default).err != 0) _ _=_
   by_cases h:(l.getD i default).err=0
   · rw [cnF h,if_pos h];exact aCheck0 hf hl x0 x1 lg r (i+1) n (by omega) (by omega)
   · rw [cnT h,if_neg h,if_neg h];rfl
theorem aCheck1 (hl:l.length<4611686018427387904) (x0:Int→Prop) (x1:List PV→List PV→List PV→Int→Int→Bool→Prop) (lg:List PV) (W) :
   ∀ (r i n:Nat),i+r=l.length→r<n→yc3 W x0 x1 n (cks l) lg (cks l) l.length i =
     if lensOk (l.getD 0 default).len (l.drop i) then x1 (cks l) lg (cks l) l.length l.length false else x0 8
 | 0,i,n+1,hi,hn=>by
   unfold yc3
   rw [cbF (by omega),List.drop_of_length_le (by omega),show (i:Int)=l.length by omega];rfl
 | r+1,i,n+1,hi,hn=>by
   unfold yc3
   have e1:=wib (n:=(i:Int)+1) (by omega) (by omega)
   rw [cbT (by omega),ybc,Int.toNat_natCast,yfd (by omega),yfd (by omega),asT (by omega),asT (by omega),asCk,asT (by omega),asCk,ck0,ck0,ycV default (by omega),lensOk,e1,cast1]
   by_cases h:(l.getD i default).len=(l.getD 0 default).len
   · rw [cnF h,decide_eq_true h,Bool.true_and];exact aCheck1 hl x0 x1 lg W r (i+1) n (by omega) (by omega)
   · rw [cnT h,decide_eq_false h,Bool.false_and,if_neg (by simp)]
theorem yns (hf:finC l) (hl:l.length<4611686018427387904) (lg:List PV) (K:Int→Prop):yaK (cks l) lg K=K (deskE l lg.length):=by
 refine yDI _ _ _ (fun K k=>?_) K
 unfold yaK yqR
 unfold deskE at k
 rw [ybc]
 by_cases a1:l.length>6
 · rw [cbT (by omega)];rw [if_pos a1] at k;exact k
 rw [cbF (by omega)];rw [if_neg a1] at k
 by_cases a2:lg.length>2000
 · rw [cbT (by omega)];rw [if_pos a2] at k;exact k
 rw [cbF (by omega)];rw [if_neg a2] at k
 by_cases a3:l.length=0
 · rw [ceT (by omega)];rw [if_pos a3] at k;exact k
 rw [ceF (by omega)];rw [if_neg a3] at k
 refine ⟨l.length+1,?_⟩
 have h0:=aCheck0 hf hl (fun c=>K c) (fun a d o p q r=>(∃ e:Nat,yc3 yap (fun b=>(K b)) (fun f g i j m n=>(K (0:Int))) e a d a (((List.length a):Nat):Int) (0:Int))) lg l.length 0 (l.length+1) (by omega) (by omega)
 rw [show ((0:Nat):Int)=0 from rfl,List.drop_zero] at h0
 rw [h0]
 by_cases a4:firstE l=0
 · rw [if_pos a4] at k ⊢
   refine ⟨l.length+1,?_⟩
   have h1:=aCheck1 hl (fun b=>(K b)) (fun f g i j m n=>(K (0:Int))) lg yap l.length 0 (l.length+1) (by omega) (by omega)
   rw [show ((0:Nat):Int)=0 from rfl,List.drop_zero] at h1
   rw [ybc,h1]
   split at k <;> rename_i h <;> simp only [h] <;> exact k
 · rw [if_neg a4] at k ⊢;exact k
theorem fCheck0 (hf:finC l) (hl:l.length<4611686018427387904) (x0:Int→Prop) (x1:List PV→List PV→Int→Bool→Prop) (lg:List PV) :
   ∀ (r i n:Nat),i+r=l.length→r<n→ydN ycm x0 x1 n (cks l) lg i =
     if firstE (l.drop i)=0 then x1 (cks l) lg l.length false else x0 (firstE (l.drop i))
 | 0,i,n+1,hi,hn=>by
   unfold ydN
   rw [ybc,cbF (by omega),List.drop_of_length_le (by omega),show (i:Int)=l.length by omega];rfl
 | r+1,i,n+1,hi,hn=>by
   unfold ydN
   have e1:=wib (n:=(i:Int)+1) (by omega) (by omega)
   obtain ⟨f1,f2⟩:=hf i (by omega)
   rw [ybc,cbT (by omega),Int.toNat_natCast,yfd (by omega),asT (by omega),asT (by omega),asCk,ck0,ck1,ck2,yEE (by omega) (by omega),ycV default (by omega),firstE,e1,cast1]
   show cbr ((l.getD i default).err != 0) _ _=_
   by_cases h:(l.getD i default).err=0
   · rw [cnF h,if_pos h];exact fCheck0 hf hl x0 x1 lg r (i+1) n (by omega) (by omega)
   · rw [cnT h,if_neg h,if_neg h,asT (by omega),asT (by omega),asCk,yEE (by omega) (by omega)];rfl
theorem fCheck1 (hl:l.length<4611686018427387904) (x0:Int→Prop) (x1:List PV→List PV→Int→Bool→Prop) (lg:List PV) (W) :
   ∀ (r i n:Nat),i+r=l.length→r<n→yc5 W x0 x1 n (cks l) lg i =
     if lensOk (l.getD 0 default).len (l.drop i) then x1 (cks l) lg l.length false else x0 8
 | 0,i,n+1,hi,hn=>by
   unfold yc5
   rw [ybc,cbF (by omega),List.drop_of_length_le (by omega),show (i:Int)=l.length by omega];rfl
 | r+1,i,n+1,hi,hn=>by
   unfold yc5
   have e1:=wib (n:=(i:Int)+1) (by omega) (by omega)
   rw [ybc,cbT (by omega),Int.toNat_natCast,yfd (by omega),yfd (by omega),asT (by omega),asT (by omega),asCk,asT (by omega),asCk,ck0,ck0,ycV default (by omega),lensOk,e1,cast1]
   by_cases h:(l.getD i default).len=(l.getD 0 default).len
   · rw [cnF h,decide_eq_true h,Bool.true_and];exact fCheck1 hl x0 x1 lg W r (i+1) n (by omega) (by omega)
   · rw [cnT h,decide_eq_false h,Bool.false_and,if_neg (by simp)]
theorem yLz (hf:finC l) (hl:l.length<4611686018427387904) (lg:List PV) (K:Int→Prop):yhS (cks l) lg K=K (deskE l lg.length):=by
 refine yDP _ _ _ (fun K k=>?_) K
 unfold yhS yra
 unfold deskE at k
 rw [ybc]
 by_cases a1:l.length>6
 · rw [cbT (by omega)];rw [if_pos a1] at k;exact k
 rw [cbF (by omega)];rw [if_neg a1] at k
 by_cases a2:lg.length>2000
 · rw [cbT (by omega)];rw [if_pos a2] at k;exact k
 rw [cbF (by omega)];rw [if_neg a2] at k
 by_cases a3:l.length=0
 · rw [ceT (by omega)];rw [if_pos a3] at k;exact k
 rw [ceF (by omega)];rw [if_neg a3] at k
 refine ⟨l.length+1,?_⟩
 have h0:=fCheck0 hf hl (fun b=>K b) (fun c d m n=>(∃ e:Nat,yc5 ycm (fun a=>(K a)) (fun f g i j=>(K (0:Int))) e c d (0:Int))) lg l.length 0 (l.length+1) (by omega) (by omega)
 rw [show ((0:Nat):Int)=0 from rfl,List.drop_zero] at h0
 rw [h0]
 by_cases a4:firstE l=0
 · rw [if_pos a4] at k ⊢
   refine ⟨l.length+1,?_⟩
   have h1:=fCheck1 hl (fun a=>(K a)) (fun f g i j=>(K (0:Int))) lg ycm l.length 0 (l.length+1) (by omega) (by omega)
   rw [show ((0:Nat):Int)=0 from rfl,List.drop_zero] at h1
   rw [h1]
   split at k <;> rename_i h <;> simp only [h] <;> exact k
 · rw [if_neg a4] at k ⊢;exact k
def Ck.low (c:Ck):Prop:=c.cuts.length≤1000∧c.dens.length≤1000
def lowC (l:List Ck):Prop:=∀ i,i<l.length→(l.getD i default).low
theorem yHQ (l:List Int):headOk 1 (ints l)=true:=by cases l <;> rfl
theorem yx6 {l:List Int} (h:l.length≤1000) (K:List PV→Prop):ydy (ints l) K=K (ints l):=by
 show asr (cloneOk 1 8 (ints l)) (K (ints l))=_
 have:cloneOk 1 8 (ints l)=true:=by
   unfold cloneOk
   rw [yHQ,ybK,Bool.true_and,decide_eq_true_iff]
   unfold room;omega
 rw [this,yaA]
theorem asTT {c:Bool} {P:Prop} (h:c=true):asr c P=P:=by rw [h,yaA]
theorem copied1 (hf:lowC l) (hl:l.length≤1000) (x0:List PV→List PV→Int→Int→Bool→Prop) (x1:List PV→Int→Int→Bool→Prop) :
   ∀ (r i n:Nat) (acc:List PV),i+r=l.length→r<n→acc.length≤i→ydh ydy x0 x1 n acc (cks l) l.length i=x0 (acc++cks (l.drop i)) (cks l) l.length l.length false
 | 0,i,n+1,acc,hi,hn,ha=>by
   unfold ydh
   rw [cbF (by omega),List.drop_of_length_le (by omega),show (i:Int)=l.length by omega]
   show _=x0 (acc++[]) _ _ _ _
   rw [List.append_nil]
 | r+1,i,n+1,acc,hi,hn,ha=>by
   unfold ydh
   have e1:=wib (n:=(i:Int)+1) (by omega) (by omega)
   obtain ⟨f1,f2⟩:=hf i (by omega)
   rw [cbT (by omega),ybc,Int.toNat_natCast,yfd (by omega),asT (by omega),asT (by omega),asCk,ck0,ck1,ck2,yx6 f1,yx6 f2,asT rfl,asT (by omega),asTT (by rw [decide_eq_false (by omega)];rfl),asT rfl,asT (by unfold room;omega),asTT (by simp),e1,cast1]
   rw [copied1 hf hl x0 x1 r (i+1) n _ (by omega) (by omega) (by simp;omega),ycV (i:=i) default (by omega),List.append_assoc];rfl
theorem yzh (hf:lowC l) (hl:l.length≤1000) (K:List PV→Prop):ydz (cks l) K=K (cks l):=by
 refine yB0 _ _ (fun K k=>?_) K
 unfold ydz ypE
 cases hc:l with
 | nil =>
   refine ⟨0+1,?_⟩
   rw [hc] at k
   rw [yeR,ybc,cbF (by simp)]
   exact k
 | cons c t =>
   rw [← hc]
   have h0:0<l.length:=by rw [hc];exact Nat.zero_lt_succ _
   refine ⟨(l.length+1)+1,?_⟩
   rw [yeR]
   obtain ⟨f1,f2⟩:=hf 0 (by omega)
   have e1:=wib (n:=(0:Int)+1) (by omega) (by omega)
   rw [ybc,cbT (by omega),show (0:Int).toNat=0 from rfl,yfd (by omega),asT (by omega),asT (by omega),asCk,ck0,ck1,ck2,yx6 f1,yx6 f2,asTT (by simp),e1,show (0:Int)+1=((0+1:Nat):Int) from rfl]
   rw [copied1 hf hl _ _ (l.length-1) (0+1) (l.length+1) _ (by omega) (by omega) (by simp)]
   have e:[PV.agg [PV.int IntKind.i64 (l.getD 0 default).len,PV.data (ints (l.getD 0 default).cuts),PV.data (ints (l.getD 0 default).dens)]]++cks (l.drop (0+1))=cks l:=by
     conv=>rhs;rw [← List.drop_zero (l:=l),ycV default h0]
     rfl
   rw [e,asT rfl,asT (by omega),List.take_length]
   exact k
end
end Go.Pf.Vc
namespace Go.Pf.Vc
open Go Go.Pf
section
variable {l:List Ck}
theorem yzZ:∀ (l:List Ck),firstE l=0→∀ i,i<l.length→(l.getD i default).ok
 | c::t,h,0,_=>by
   unfold firstE at h
   split at h
   · rename_i h1;exact yx5 h1
   · rename_i h1;exact absurd h h1
 | c::t,h,i+1,hi=>by
   unfold firstE at h
   split at h
   · exact yzZ t h i (by simpa using hi)
   · rename_i h1;exact absurd h h1
theorem yCz {n:Int}:∀ (l:List Ck),lensOk n l=true→∀ i,i<l.length→(l.getD i default).len=n
 | c::t,h,0,_=>by
   unfold lensOk at h
   simp only [Bool.and_eq_true,decide_eq_true_eq] at h
   exact h.1
 | c::t,h,i+1,hi=>by
   unfold lensOk at h
   simp only [Bool.and_eq_true,decide_eq_true_eq] at h
   exact yCz t h.2 i (by simpa using hi)
structure DK (l:List Ck):Prop where
 n6:l.length≤6
 n0:1≤l.length
 ok:∀ i,i<l.length→(l.getD i default).ok
 len:∀ i,i<l.length→(l.getD i default).len=(l.getD 0 default).len
theorem yrp {m:Nat} (h:deskE l m=0):DK l∧m≤2000:=by
 unfold deskE at h
 split at h
 · omega
 split at h
 · omega
 split at h
 · omega
 split at h
 · rename_i h0 h1 h2 h3
   split at h
   · rename_i h4
     exact ⟨⟨by omega,by omega,yzZ l h3,yCz l h4⟩,by omega⟩
   · omega
 · rename_i h3;exact absurd h h3
theorem DK.err {l:List Ck} (h:DK l) {m:Nat} (hm:m≤2000):deskE l m=0:=by
 have f:∀ l:List Ck,(∀ i,i<l.length→(l.getD i default).ok)→firstE l=0:=by
   intro l
   induction l with
   | nil=>intro _;rfl
   | cons c t ih =>
     intro h
     unfold firstE
     rw [if_pos (show c.err=0 from (h 0 (Nat.zero_lt_succ _)).ck)]
     exact ih fun i hi=>h (i+1) (by simpa using hi)
 have g:∀ (n:Int) (l:List Ck),(∀ i,i<l.length→(l.getD i default).len=n)→lensOk n l=true:=by
   intro n l
   induction l with
   | nil=>intro _;rfl
   | cons c t ih =>
     intro h
     unfold lensOk
     rw [Bool.and_eq_true,decide_eq_true_eq]
     exact ⟨h 0 (Nat.zero_lt_succ _),ih fun i hi=>h (i+1) (by simpa using hi)⟩
 have:=h.n6;have:=h.n0
 unfold deskE
 rw [if_neg (by omega),if_neg (by omega),if_neg (by omega),if_pos (f l h.ok),if_pos (g _ l h.len)]
theorem DK.low {l:List Ck} (h:DK l):lowC l:=fun i hi=>by
 have h1:=(h.ok i hi).l1;have h2:=(h.ok i hi).l2
 exact ⟨by omega,by omega⟩
theorem DK.fin {l:List Ck} (h:DK l):finC l:=fun i hi=>by
 have h1:=(h.ok i hi).l1;have h2:=(h.ok i hi).l2
 exact ⟨by omega,by omega⟩
theorem yMY (hf:finC l) (hl:l.length<4611686018427387904) (K:List PV→List PV→Int→Prop):yom (cks l) K=if deskE l 0=0 then K (cks l) [] 0 else K [] [] (deskE l 0):=by
 unfold yom ysO
 rw [yns hf hl]
 show cbr (deskE l 0 != 0) _ _=_
 by_cases h:deskE l 0=0
 · have hd:=(yrp h).1
   rw [cnF h,if_pos h,yzh hd.low (by have:=hd.n6;omega)]
 · rw [cnT h,if_neg h];rfl
def qrow (agent kind an ad bn bd cn cd:Int):PV:=.agg [.int .i64 agent,.int .u8 kind,.int .i64 an,.int .i64 ad,.int .i64 bn,.int .i64 bd,.int .i64 cn,.int .i64 cd]
def qryR (l:List Ck) (m:Nat) (agent:Int) (ans:Ck→Except Int Rat):Except Int Rat :=
 if deskE l m=0 then (if 0≤agent∧agent<l.length then (match ans (l.getD agent.toNat default) with
   | .ok p=>if m≥2000 then .error 4 else .ok p
   | .error e=>.error e) else .error 2) else .error (deskE l m)
def qryK (l:List Ck) (lg:List PV) (row:Rat→PV) (e:Except Int Rat) (K:List PV→List PV→Int→Int→Int→Prop):Prop :=
 match e with
 | .ok p=>K (cks l) (lg++[row p]) p.num p.den 0
 | .error c=>K [] [] 0 0 c
theorem det_q {w:(List PV→List PV→Int→Int→Int→Prop)→Prop} {l:List Ck} {lg:List PV} {row:Rat→PV} {e:Except Int Rat} (det:∀ r0 r1 r2 r3 r4,(∀ K:List PV→List PV→Int→Int→Int→Prop,K r0 r1 r2 r3 r4→w K)→∀ K,w K=K r0 r1 r2 r3 r4)
   (h:∀ K,qryK l lg row e K→w K) (K):w K=qryK l lg row e K:=by
 cases e with
 | ok q=>exact det _ _ _ _ _ h K
 | error c=>exact det _ _ _ _ _ h K
theorem mk1 {z q:PV} {lg:List PV} {m:Nat} (hm:m=lg.length) :
   List.take ((0+m)+1) ((List.take (0+(0+m)) (lg++(List.drop (0+m) (List.replicate (m+1) z))))++(([q]:List PV)++(List.drop ((0+(0+m))+1) (lg++(List.drop (0+m) (List.replicate (m+1) z))))))=lg++[q]:=by
 subst hm
 simp
 rw [List.take_of_length_le (by simp)]
theorem yJF (lg:List PV) (agent:Int) (K:Bool→Prop):ybg (cks l) lg agent K=K (decide (0≤agent∧agent<l.length)):=by
 unfold ybg yj2
 rw [ybc]
 by_cases h:agent≥0
 · rw [cbT h]
   congr 1
   rw [decide_eq_decide];omega
 · rw [cbF h,decide_eq_false (by omega)]
def Ck.mark (an ad vn vd:Int) (c:Ck):Except Int Rat:=mrkR c.len c.cuts c.dens an ad vn vd
def Ck.value (an ad bn bd:Int) (c:Ck):Except Int Rat:=valR c.len c.cuts c.dens an ad bn bd
theorem yMZ (hf:finC l) (hl:l.length<4611686018427387904) {lg:List PV} (hlg:headOk 8 lg=true) {agent an ad vn vd:Int} (ha:I64 an) (ha':I64 ad) (hv:I64 vn) (hv':I64 vd) (K) :
   yhM (cks l) lg agent an ad vn vd K=qryK l lg (fun p=>qrow agent 2 an ad vn vd p.num p.den) (qryR l lg.length agent (Ck.mark an ad vn vd)) K:=by
 refine det_q (fun r0 r1 r2 r3 r4 h K=>yFM _ _ _ _ _ _ _ r0 r1 r2 r3 r4 h K) (fun K k=>?_) K
 unfold yhM ysQ
 unfold qryR at k
 rw [yns hf hl]
 by_cases h:deskE l lg.length=0
 case neg=>rw [cnT h];rw [if_neg h] at k;exact k
 obtain ⟨hd,hm⟩:=yrp h
 rw [if_pos h] at k
 rw [cnF h,yJF]
 by_cases h2:0≤agent∧agent<l.length
 case neg=>rw [decide_eq_false h2,Bool.not_false,yah];rw [if_neg h2] at k;exact k
 rw [if_pos h2] at k
 obtain ⟨a,rfl⟩:∃ a:Nat,agent=a:=⟨agent.toNat,by omega⟩
 have ha2:a<l.length:=by omega
 rw [Int.toNat_natCast] at k
 obtain ⟨f1,f2⟩:=hf a ha2
 rw [decide_eq_true h2,Bool.not_true,yab,ybv,ygI,ybc,Int.toNat_natCast,yfd ha2,asT (by omega),asT (by omega),asCk,ck0,ck1,ck2,yHP (by omega) (by omega) ha ha' hv hv']
 have em:Ck.mark an ad vn vd (l.getD a default)=mrkR (l.getD a default).len (l.getD a default).cuts (l.getD a default).dens an ad vn vd:=rfl
 rw [em] at k
 cases hr:mrkR (l.getD a default).len (l.getD a default).cuts (l.getD a default).dens an ad vn vd with
 | error c =>
   rw [hr] at k
   have k:K [] [] 0 0 c:=k
   rw [yMX]
   have hc:c≠0:=by
     intro hc
     subst hc
     unfold mrkR at hr
     split at hr
     · split at hr
       · unfold mrkC at hr
         split at hr
         · cases hr
         · have no:∀ (r i:Nat) (p v:Rat),mrkS (l.getD a default).cuts (l.getD a default).dens r i p v≠.error 0:=by
             intro r
             induction r with
             | zero=>intro i p v e;unfold mrkS at e;cases e
             | succ r ih =>
               intro i p v e
               unfold mrkS fit at e
               repeat' (first | split at e | dsimp only at e)
               all_goals first | exact ih _ _ _ e | cases e
           exact no _ _ _ _ hr
       · cases hr
     · rename_i h5;exact h5 (Except.error.inj hr)
   rw [cnT hc];exact k
 | ok p =>
   rw [hr] at k
   rw [yF9,cnF rfl]
   by_cases h3:lg.length≥2000
   · rw [cbT (by omega)]
     have k:qryK l lg _ (if lg.length≥2000 then .error 4 else .ok p) K:=k
     rw [if_pos h3] at k;exact k
   · have k:qryK l lg _ (if lg.length≥2000 then .error 4 else .ok p) K:=k
     rw [if_neg h3] at k
     have k:K (cks l) (lg++[qrow a 2 an ad vn vd p.num p.den]) p.num p.den 0:=k
     have e1:=wib (n:=(lg.length:Int)+1) (by omega) (by omega)
     have e2:((lg.length:Int)+1).toNat=lg.length+1:=by omega
     rw [cbF (by omega),e1,e2,asT (by omega),asT (by unfold room;omega),yzh hd.low (by have:=hd.n6;omega),hlg,yaA]
     rw [asT (by simp),asT (by omega)]
     cases hlg2:lg with
     | nil =>
       rw [List.isEmpty_nil,yah,asT (by simp),asT (by simp),asT (by simp),asT (by simp),asT (by simp)]
       rw [hlg2] at k
       exact k
     | cons x t =>
       rw [← hlg2,show List.isEmpty lg=false by rw [hlg2];rfl,yab,asT (by omega),asT (by simp),asT (by omega),asT (by omega),asT (by simp),asT (by omega)]
       rw [mk1 rfl]
       exact k
end
end Go.Pf.Vc
namespace Go.Pf.Vc
open Go Go.Pf
section
variable {l:List Ck}
theorem yM0 (cuts dens:List Int) (b:Rat):∀ (r i:Nat) (p v:Rat),valS cuts dens b r i p v≠.error 0:=by
 intro r
 induction r with
 | zero=>intro i p v e;unfold valS at e;cases e
 | succ r ih =>
   intro i p v e
   unfold valS fit at e
   repeat' (first | split at e | dsimp only at e)
   all_goals first | exact ih _ _ _ e | cases e
theorem yM1 {len:Int} {cuts dens:List Int} {an ad vn vd:Int}:valR len cuts dens an ad vn vd≠.error 0:=by
 intro hr
 unfold valR at hr
 split at hr
 · split at hr
   · exact yM0 _ _ _ _ _ _ _ hr
   · cases hr
 · rename_i h5;exact h5 (Except.error.inj hr)
theorem yLA (hf:finC l) (hl:l.length<4611686018427387904) {lg:List PV} (hlg:headOk 8 lg=true) {agent an ad vn vd:Int} (ha:I64 an) (ha':I64 ad) (hv:I64 vn) (hv':I64 vd) (K) :
   yhN (cks l) lg agent an ad vn vd K=qryK l lg (fun p=>qrow agent 1 an ad vn vd p.num p.den) (qryR l lg.length agent (Ck.value an ad vn vd)) K:=by
 refine det_q (fun r0 r1 r2 r3 r4 h K=>yDJ _ _ _ _ _ _ _ r0 r1 r2 r3 r4 h K) (fun K k=>?_) K
 unfold yhN yqU
 unfold qryR at k
 rw [yns hf hl]
 by_cases h:deskE l lg.length=0
 case neg=>rw [cnT h];rw [if_neg h] at k;exact k
 obtain ⟨hd,hm⟩:=yrp h
 rw [if_pos h] at k
 rw [cnF h,yJF]
 by_cases h2:0≤agent∧agent<l.length
 case neg=>rw [decide_eq_false h2,Bool.not_false,yah];rw [if_neg h2] at k;exact k
 rw [if_pos h2] at k
 obtain ⟨a,rfl⟩:∃ a:Nat,agent=a:=⟨agent.toNat,by omega⟩
 have ha2:a<l.length:=by omega
 rw [Int.toNat_natCast] at k
 obtain ⟨f1,f2⟩:=hf a ha2
 rw [decide_eq_true h2,Bool.not_true,yab,ybj,yf1,ybc,Int.toNat_natCast,yfd ha2,asT (by omega),asT (by omega),asCk,ck0,ck1,ck2,yzg (by omega) (by omega) ha ha' hv hv']
 have em:Ck.value an ad vn vd (l.getD a default)=valR (l.getD a default).len (l.getD a default).cuts (l.getD a default).dens an ad vn vd:=rfl
 rw [em] at k
 cases hr:valR (l.getD a default).len (l.getD a default).cuts (l.getD a default).dens an ad vn vd with
 | error c =>
   rw [hr] at k
   have k:K [] [] 0 0 c:=k
   rw [yMX]
   have hc:c≠0:=fun hc=>yM1 (hc ▸ hr)
   rw [cnT hc];exact k
 | ok p =>
   rw [hr] at k
   rw [yF9,cnF rfl]
   by_cases h3:lg.length≥2000
   · rw [cbT (by omega)]
     have k:qryK l lg _ (if lg.length≥2000 then .error 4 else .ok p) K:=k
     rw [if_pos h3] at k;exact k
   · have k:qryK l lg _ (if lg.length≥2000 then .error 4 else .ok p) K:=k
     rw [if_neg h3] at k
     have k:K (cks l) (lg++[qrow a 1 an ad vn vd p.num p.den]) p.num p.den 0:=k
     have e1:=wib (n:=(lg.length:Int)+1) (by omega) (by omega)
     have e2:((lg.length:Int)+1).toNat=lg.length+1:=by omega
     rw [cbF (by omega),e1,e2,asT (by omega),asT (by unfold room;omega),yzh hd.low (by have:=hd.n6;omega),hlg,yaA]
     rw [asT (by simp),asT (by omega)]
     cases hlg2:lg with
     | nil =>
       rw [List.isEmpty_nil,yah,asT (by simp),asT (by simp),asT (by simp),asT (by simp),asT (by simp)]
       rw [hlg2] at k
       exact k
     | cons x t =>
       rw [← hlg2,show List.isEmpty lg=false by rw [hlg2];rfl,yab,asT (by omega),asT (by simp),asT (by omega),asT (by omega),asT (by simp),asT (by omega)]
       rw [mk1 rfl]
       exact k
def greatC (l:List Ck):Bool:=l.any (fun c=>decide (c.cuts.length>60)||decide (c.dens.length>60))||decide (l.length>10)
theorem yLB {len:Int} {cuts dens:List Int} (K:Bool→Prop):yfD len (ints cuts) (ints dens) K=K (decide (cuts.length>60)||decide (dens.length>60)):=by
 unfold yfD yq2
 rw [ybK,ybK]
 by_cases h:cuts.length>60
 · rw [cbT (by omega),decide_eq_true h];rfl
 · rw [cbF (by omega),decide_eq_false h,Bool.false_or]
   congr 1;rw [decide_eq_decide];omega
theorem yrM (hl:l.length≤9223372036854775807) (K:Bool→Prop) :
   ∀ (r i n:Nat),i+r=l.length→r<n→ybW yfD (fun a=>(K a)) (fun b _ _=>(K (decide ((((List.length b):Nat):Int)>(10:Int))))) n (cks l) i =
     K ((l.drop i).any (fun c=>decide (c.cuts.length>60)||decide (c.dens.length>60))||decide (l.length>10))
 | 0,i,n+1,hi,hn=>by
   unfold ybW
   rw [ybc,cbF (by omega),List.drop_of_length_le (by omega)]
   show K _=K (false||_)
   rw [Bool.false_or]
   congr 1;rw [decide_eq_decide];omega
 | r+1,i,n+1,hi,hn=>by
   unfold ybW
   have e1:=wib (n:=(i:Int)+1) (by omega) (by omega)
   rw [ybc,cbT (by omega),Int.toNat_natCast,yfd (by omega),asT (by omega),asT (by omega),asCk,ck0,ck1,ck2,yLB,ycV default (by omega),List.any_cons,e1,cast1]
   cases hb:(decide ((l.getD i default).cuts.length>60)||decide ((l.getD i default).dens.length>60)) with
   | true=>rw [yah];rfl
   | false=>rw [yab,Bool.false_or];exact yrM hl K r (i+1) n (by omega) (by omega)
theorem yDZ (hl:l.length≤9223372036854775807) (K:Bool→Prop):yd0 (cks l) K=K (greatC l):=by
 refine yv4 _ _ (fun K k=>?_) K
 unfold yd0 yj6
 refine ⟨l.length+1,?_⟩
 have:=yrM hl K l.length 0 (l.length+1) (by omega) (by omega)
 rw [show ((0:Nat):Int)=0 from rfl,List.drop_zero] at this
 rw [this];exact k
theorem yCA (h:greatC l=false):l.length≤10∧lowC l∧finC l:=by
 unfold greatC at h
 simp only [Bool.or_eq_false_iff,decide_eq_false_iff_not,List.any_eq_false,Bool.not_eq_true,Nat.not_lt] at h
 have hh:∀ i,i<l.length→(l.getD i default).cuts.length≤60∧(l.getD i default).dens.length≤60:=by
   intro i hi
   have hm:l.getD i default∈l:=by rw [List.getD_eq_getElem?_getD,List.getElem?_eq_getElem hi];exact List.getElem_mem hi
   have:=h.1 _ hm
   omega
 exact ⟨by omega,fun i hi=>⟨by have:=hh i hi;omega,by have:=hh i hi;omega⟩,fun i hi=>⟨by have:=hh i hi;omega,by have:=hh i hi;omega⟩⟩
def shr (c:Ck) (n:Int):Rat:=(totC c.cuts c.dens:Rat) / (n:Rat)
theorem ytQ {n d:Int} (hn:-1000000000000000000≤n∧n≤1000000000000000000) (hd:1≤d∧d≤1000000000000000000):small ((n:Rat) / (d:Rat)):=by
 have e:(n:Rat) / (d:Rat)=mkRat n d.toNat:=by
   rw [Rat.mkRat_eq_div]
   have h1:((d.toNat:Nat):Int)=d:=by omega
   have h2:((d.toNat:Nat):Rat)=(d:Rat):=by rw [← Rat.intCast_natCast,h1]
   rw [h2]
 rw [e]
 unfold small
 rw [Rat.num_mkRat,Rat.den_mkRat,if_neg (by omega),if_neg (by omega)]
 have g0:0<d.toNat.gcd n.natAbs:=Nat.gcd_pos_of_pos_left _ (by omega)
 have h1:(n / (d.toNat.gcd n.natAbs:Nat)).natAbs≤n.natAbs:=by
   rw [Int.natAbs_ediv_of_dvd,Int.natAbs_natCast]
   · exact Nat.div_le_self _ _
   · rw [← Int.dvd_natAbs,Int.ofNat_dvd];exact Nat.gcd_dvd_right _ _
 have h2:d.toNat / d.toNat.gcd n.natAbs≤d.toNat:=Nat.div_le_self _ _
 generalize n / (d.toNat.gcd n.natAbs:Nat)=x at *
 generalize d.toNat / d.toNat.gcd n.natAbs=y at *
 omega
theorem yLC {c:Ck} (h:c.ok) {n:Int} (hn:1≤n∧n≤1000):small (shr c n):=by
 have:=yhZ h
 exact ytQ (by omega) (by omega)
end
end Go.Pf.Vc
namespace Go.Pf.Vc
open Go Go.Pf
def Fr (D B:Int) (q:Rat):Prop:=∃ n:Int,-B≤n∧n≤B∧q=(n:Rat) / (D:Rat)
theorem Fr.small {D B:Int} {q:Rat} (h:Fr D B q) (hD:1≤D∧D≤1000000000000000000) (hB:B≤1000000000000000000):small q:=by
 obtain ⟨n,h1,h2,rfl⟩:=h
 exact ytQ ⟨by omega,by omega⟩ hD
theorem rne {D:Int} (h:1≤D):(D:Rat)≠0:=fun e=>by have:=Rat.intCast_eq_zero_iff.1 e;omega
theorem Fr.of_int {D:Int} (hD:1≤D) (c B:Int) (h:-B≤c∧c≤B):Fr D (B*D) (c:Rat):=by
 refine ⟨c*D,?_,?_,?_⟩
 · have:=Int.mul_le_mul_of_nonneg_right h.1 (show 0≤D by omega)
   rw [Int.neg_mul] at this;exact this
 · exact Int.mul_le_mul_of_nonneg_right h.2 (by omega)
 · rw [Rat.intCast_mul,Rat.mul_div_cancel (rne hD)]
theorem Fr.add {D B1 B2:Int} {q r:Rat} (h:Fr D B1 q) (k:Fr D B2 r):Fr D (B1+B2) (q+r):=by
 obtain ⟨n,h1,h2,rfl⟩:=h
 obtain ⟨m,k1,k2,rfl⟩:=k
 exact ⟨n+m,by omega,by omega,by rw [Rat.intCast_add];grind⟩
theorem Fr.sub {D B1 B2:Int} {q r:Rat} (h:Fr D B1 q) (k:Fr D B2 r):Fr D (B1+B2) (q-r):=by
 obtain ⟨n,h1,h2,rfl⟩:=h
 obtain ⟨m,k1,k2,rfl⟩:=k
 exact ⟨n-m,by omega,by omega,by rw [Rat.intCast_sub];grind⟩
theorem Fr.mono {D B1 B2:Int} {q:Rat} (h:Fr D B1 q) (hb:B1≤B2):Fr D B2 q:=by
 obtain ⟨n,h1,h2,e⟩:=h
 exact ⟨n,by omega,by omega,e⟩
theorem yOp {n d B:Int} (h:-B≤n∧n≤B) (hd:0≤d∧d≤12):-(12*B)≤n*d∧n*d≤12*B:=by
 have a1:=Int.mul_le_mul_of_nonneg_right h.1 hd.1
 have a2:=Int.mul_le_mul_of_nonneg_right h.2 hd.1
 have a3:=Int.mul_le_mul_of_nonneg_left hd.2 (show 0≤B by omega)
 rw [Int.neg_mul] at a1
 omega
theorem Fr.mulI {D B:Int} {q:Rat} (h:Fr D B q) {d:Int} (hd:0≤d∧d≤12):Fr D (12*B) (q*(d:Rat)):=by
 obtain ⟨n,h1,h2,rfl⟩:=h
 obtain ⟨a1,a2⟩:=yOp ⟨h1,h2⟩ hd
 exact ⟨n*d,a1,a2,by rw [Rat.intCast_mul];grind⟩
section
variable {len:Int} {cuts dens:List Int}
def rem (cuts dens:List Int):Nat→Nat→Int
 | 0,_=>0
 | r+1,i=>dens.getD i 0*(cuts.getD (i+1) 0-cuts.getD i 0)+rem cuts dens r (i+1)
theorem yx7 (cuts dens:List Int):∀ (r i:Nat) (s:Int),totS cuts dens r i s=s+rem cuts dens r i
 | 0,i,s=>by unfold totS rem;omega
 | r+1,i,s=>by unfold totS rem;rw [yx7 cuts dens r (i+1)];omega
theorem yzi (h:VC len cuts dens):∀ (r i:Nat),i+r=dens.length→0≤rem cuts dens r i∧rem cuts dens r i≤12*(len-cuts.getD i 0)
 | 0,i,hi=>by
   have:=h.l1
   have:=h.hi (i:=i) (by omega)
   unfold rem;omega
 | r+1,i,hi=>by
   unfold rem
   have l1:=h.l1
   have h2:=h.step (i:=i) (by omega)
   have h3:=mul12 (h.den (i:=i) (by omega)) (x:=cuts.getD (i+1) 0-cuts.getD i 0) (by omega)
   have:=yzi h r (i+1) (by omega)
   omega
theorem yKA (h:VC len cuts dens):∀ (r i:Nat),i+r=dens.length→(∃ j,i≤j∧j<dens.length∧0<dens.getD j 0)→0<rem cuts dens r i
 | 0,i,hi,⟨j,h1,h2,_⟩=>by omega
 | r+1,i,hi,⟨j,h1,h2,h3⟩=>by
   unfold rem
   have l1:=h.l1
   have s:=h.step (i:=i) (by omega)
   have m:=mul12 (h.den (i:=i) (by omega)) (x:=cuts.getD (i+1) 0-cuts.getD i 0) (by omega)
   have b:=yzi h r (i+1) (by omega)
   by_cases e:j=i
   · subst e
     have:=Int.mul_pos h3 (show 0<cuts.getD (j+1) 0-cuts.getD j 0 by omega)
     omega
   · have:=yKA h r (i+1) (by omega) ⟨j,by omega,h2,h3⟩
     omega
theorem yx8 (h:VC len cuts dens):0<totC cuts dens:=by
 unfold totC
 rw [yx7]
 obtain ⟨d,hd,h0⟩:=h.2.2.2.2.2.2.2.2.2
 obtain ⟨j,hj,e⟩:=List.mem_iff_getElem.1 hd
 have:=yKA h dens.length 0 (by omega) ⟨j,by omega,hj,by rw [List.getD_eq_getElem?_getD,List.getElem?_eq_getElem hj];simpa [e] using h0⟩
 omega
theorem yHR (h:VC len cuts dens):∀ (r i:Nat) (m:Int),i+r=dens.length→0<m→m≤2*rem cuts dens r i →
   ∃ p d,mrkS cuts dens r i (cuts.getD i 0:Int) ((m:Rat) / 2)=.ok p∧(1≤d∧d≤12)∧Fr (2*d) 100000 p∧((cuts.getD i 0:Int):Rat)≤p∧p≤(len:Rat)
 | 0,i,m,hi,h0,h1=>by unfold rem at h1;omega
 | r+1,i,m,hi,h0,h1=>by
   unfold rem at h1
   have l1:=h.l1
   have hs:=h.step (i:=i) (by omega)
   have c0:=h.lo (i:=i) (by omega)
   have c1:=h.hi (i:=i+1) (by omega)
   have hl:=h.len0
   have hd:=h.den (i:=i) (by omega)
   have hm:=mul12 hd (x:=cuts.getD (i+1) 0-cuts.getD i 0) (by omega)
   have hb:=yzi h r (i+1) (by omega)
   have ih:=yHR h r (i+1)
   have hcc:((cuts.getD i 0:Int):Rat)<((cuts.getD (i+1) 0:Int):Rat):=Rat.intCast_lt_intCast.2 hs
   unfold mrkS
   rw [if_neg (fun x=>x hcc)]
   by_cases d0:dens.getD i 0=0
   · rw [if_pos d0]
     rw [d0,Int.zero_mul,Int.zero_add] at h1
     obtain ⟨p,d,e1,e2,e3,e4,e5⟩:=ih m (by omega) h0 h1
     exact ⟨p,d,e1,e2,e3,by grind,e5⟩
   · rw [if_neg d0]
     generalize cuts.getD i 0=c at *
     generalize cuts.getD (i+1) 0=c' at *
     generalize dens.getD i 0=d at *
     have s1:small ((c':Rat)-(c:Rat)):=by rw [← Rat.intCast_sub];exact yhh (by omega)
     have s2:small (((c':Rat)-(c:Rat))*(d:Rat)):=by rw [← Rat.intCast_sub,← Rat.intCast_mul,Int.mul_comm];exact yhh (by omega)
     rw [yoK s1,yoK s2]
     have ew:((c':Rat)-(c:Rat))*(d:Rat)=((d*(c'-c):Int):Rat):=by rw [Rat.intCast_mul,Rat.intCast_sub];grind
     by_cases hw:((c':Rat)-(c:Rat))*(d:Rat)<(m:Rat) / 2
     · rw [if_pos hw]
       have hlt:2*(d*(c'-c))<m:=by
         rw [ew] at hw
         have:((2*(d*(c'-c)):Int):Rat)<(m:Rat):=by rw [Rat.intCast_mul];show (2:Rat)*_<_;grind
         exact Rat.intCast_lt_intCast.1 this
       have ev:(m:Rat) / 2-((c':Rat)-(c:Rat))*(d:Rat)=((m-2*(d*(c'-c)):Int):Rat) / 2:=by
         rw [ew,Rat.intCast_sub,Rat.intCast_mul 2];show _=((m:Rat)-(2:Rat)*_) / 2;grind
       have s3:small ((m:Rat) / 2-((c':Rat)-(c:Rat))*(d:Rat)):=by
         rw [ev];exact ytQ (d:=2) ⟨by omega,by omega⟩ ⟨by omega,by omega⟩
       rw [yoK s3,ev]
       obtain ⟨p,d',e1,e2,e3,e4,e5⟩:=ih (m-2*(d*(c'-c))) (by omega) (by omega) (by omega)
       exact ⟨p,d',e1,e2,e3,by grind,e5⟩
     · rw [if_neg hw]
       have hge:m≤2*(d*(c'-c)):=by
         rw [ew] at hw
         have:¬((2*(d*(c'-c)):Int):Rat)<(m:Rat):=by rw [Rat.intCast_mul];show ¬(2:Rat)*_<_;grind
         exact Int.not_lt.1 fun hlt=>this (Rat.intCast_lt_intCast.2 hlt)
       have hd1:1≤d:=by omega
       have ev:(m:Rat) / 2 / (d:Rat)=(m:Rat) / ((2*d:Int):Rat):=by
         rw [Rat.intCast_mul]
         show _=(m:Rat) / ((2:Rat)*(d:Rat))
         have:=rne hd1
         grind
       have f1:Fr (2*d) 24000 ((m:Rat) / 2 / (d:Rat)):=⟨m,by omega,by omega,ev⟩
       have f2:Fr (2*d) 48000 ((c:Rat)+(m:Rat) / 2 / (d:Rat)):=by
         have k:=(Fr.of_int (D:=2*d) (by omega) c 1000 ⟨by omega,by omega⟩)
         obtain ⟨n,n1,n2,n3⟩:=k
         exact Fr.add (B1:=24000) (B2:=24000) ⟨n,by omega,by omega,n3⟩ f1
       rw [yoK (f1.small ⟨by omega,by omega⟩ (by omega)),yoK (f2.small ⟨by omega,by omega⟩ (by omega))]
       have dp:(0:Rat)<(d:Rat):=Rat.intCast_pos.2 (by omega)
       have q0:0≤(m:Rat) / 2 / (d:Rat):=by
         have hm0:(0:Rat)<(m:Rat):=Rat.intCast_pos.2 h0
         have h2:(0:Rat)<(m:Rat) / 2:=by grind
         rw [Rat.div_def]
         exact Rat.mul_nonneg (Rat.le_of_lt h2) (Rat.le_of_lt (Rat.inv_pos.2 dp))
       have q1:(c:Rat)+(m:Rat) / 2 / (d:Rat)≤(c':Rat):=by
         have hle:(m:Rat) / 2≤((c':Rat)-(c:Rat))*(d:Rat):=Rat.not_lt.1 hw
         have:(m:Rat) / 2 / (d:Rat)≤(c':Rat)-(c:Rat):=by
           refine Rat.le_of_mul_le_mul_right (c:=(d:Rat)) ?_ dp
           rw [Rat.div_mul_cancel (rne hd1)]
           exact hle
         grind
       have q2:(c':Rat)≤(len:Rat):=Rat.intCast_le_intCast.2 c1
       exact ⟨_,d,rfl,⟨hd1,hd.2⟩,f2.mono (by omega),by grind,by grind⟩
theorem yJG (h:VC len cuts dens) {D:Int} (hD:1≤D∧D≤1000) {b:Rat} (hb:Fr D (100000*D) b) :
   ∀ (r i:Nat) (p sum:Rat) (B:Int),i+r=dens.length→Fr D (100000*D) p→Fr D B sum→0≤B→B+r*(2400000*D)≤1000000000000000000→∃ s,valS cuts dens b r i p sum=.ok s∧Fr D (B+r*(2400000*D)) s
 | 0,i,p,sum,B,hi,hp,hs,h0,hB=>by unfold valS;exact ⟨sum,rfl,hs.mono (by omega)⟩
 | r+1,i,p,sum,B,hi,hp,hs,h0,hB=>by
   unfold valS
   have l1:=h.l1
   have c0:=h.lo (i:=i+1) (by omega)
   have c1:=h.hi (i:=i+1) (by omega)
   have hl:=h.len0
   have hd:=h.den (i:=i) (by omega)
   have hc:Fr D (100000*D) ((cuts.getD (i+1) 0:Int):Rat):=Fr.of_int hD.1 _ 100000 ⟨by omega,by omega⟩
   have hen:Fr D (100000*D) (if b<(cuts.getD (i+1) 0:Int) then b else (cuts.getD (i+1) 0:Int)):=by split <;> assumption
   generalize (if b<((cuts.getD (i+1) 0:Int):Rat) then b else ((cuts.getD (i+1) 0:Int):Rat))=en at *
   have ed:((r+1:Nat):Int)*(2400000*D)=(r:Int)*(2400000*D)+2400000*D:=by
     rw [Int.natCast_add,Int.add_mul];omega
   have rp:0≤(r:Int)*(2400000*D):=Int.mul_nonneg (by omega) (by omega)
   rw [ed] at hB ⊢
   simp only
   split
   · have hnx:Fr D (100000*D) (if p<en then en else p):=by split <;> assumption
     obtain ⟨s,e1,e2⟩:=yJG h hD hb r (i+1) _ sum B (by omega) hnx hs h0 (by omega)
     exact ⟨s,e1,e2.mono (by omega)⟩
   · have f1:=hen.sub hp
     have f2:=f1.mulI hd
     have f3:=hs.add f2
     have e12:12*(100000*D+100000*D)=2400000*D:=by omega
     rw [e12] at f2 f3
     rw [yoK (f1.small ⟨by omega,by omega⟩ (by omega)),yoK (f2.small ⟨by omega,by omega⟩ (by omega)),yoK (f3.small ⟨by omega,by omega⟩ (by omega))]
     obtain ⟨s,e1,e2⟩:=yJG h hD hb r (i+1) en _ (B+2400000*D) (by omega) hen f3 (by omega) (by omega)
     exact ⟨s,e1,e2.mono (by omega)⟩
end
end Go.Pf.Vc
namespace Go.Pf.Vc
open Go Go.Pf
structure Qy where
 agent:Int
 kind:Int
 an:Int
 ad:Int
 bn:Int
 bd:Int
 cn:Int
 cd:Int
 deriving DecidableEq
instance:Inhabited Qy:=⟨⟨0,0,0,0,0,0,0,0⟩⟩
def encQ (q:Qy):PV:=qrow q.agent q.kind q.an q.ad q.bn q.bd q.cn q.cd
def logs (l:List Qy):List PV:=l.map encQ
theorem yh0 (l:List Qy):(logs l).length=l.length:=List.length_map ..
theorem yAT {l:List Qy} {i:Nat} (h:i<l.length):List.getD (logs l) i .nils=encQ (l.getD i default):=by
 unfold logs
 rw [List.getD_eq_getElem?_getD,List.getD_eq_getElem?_getD,List.getElem?_map,List.getElem?_eq_getElem h]
 rfl
theorem yEF (l:List Qy):headOk 8 (logs l)=true:=by cases l <;> rfl
theorem asQ {q:Qy} {P:Prop}:asr (conf (.agg [.i .i64,.i .u8,.i .i64,.i .i64,.i .i64,.i .i64,.i .i64,.i .i64]) (encQ q)) P=P:=rfl
theorem qeq (q r:Qy):((q.agent == r.agent)&&((q.kind == r.kind)&&((q.an == r.an)&&((q.ad == r.ad)&&((q.bn == r.bn)&&((q.bd == r.bd)&&((q.cn == r.cn)&&((q.cd == r.cd)&&true))))))))=decide (q=r):=by
 cases q;cases r
 rw [Bool.eq_iff_iff]
 simp
theorem yLD {α:Type} [DecidableEq α] (d:α) {a b:List α} {i:Nat} (ha:i<a.length) (hb:i<b.length):decide (a.drop i=b.drop i)=(decide (a.getD i d=b.getD i d)&&decide (a.drop (i+1)=b.drop (i+1))):=by
 rw [ycV d ha,ycV d hb,Bool.eq_iff_iff]
 simp
theorem yz0 {a b:List Qy} (hab:a.length=b.length) (hl:a.length<4611686018427387904) (K:Bool→Prop) :
   ∀ (r i n:Nat),i+r=a.length→r<n→yaC (fun d=>K d) (fun _ _ _ _ _=>K true) n (logs a) (logs b) a.length i=K (decide (a.drop i=b.drop i))
 | 0,i,n+1,hi,hn=>by
   unfold yaC
   rw [cbF (by omega),List.drop_of_length_le (by omega),List.drop_of_length_le (by omega)];rfl
 | r+1,i,n+1,hi,hn=>by
   unfold yaC
   have e1:=wib (n:=(i:Int)+1) (by omega) (by omega)
   rw [cbT (by omega),yh0,yh0,Int.toNat_natCast,yAT (by omega),yAT (by omega),asT (by omega),asT (by omega),asQ,asT (by omega),asT (by omega),asQ,yLD default (by omega) (by omega),e1,cast1]
   have q:=qeq (a.getD i default) (b.getD i default)
   show cbr (!((((a.getD i default).agent ==(b.getD i default).agent))&&_)) _ _=_
   have q2:((intOfV (cellAt (encQ (a.getD i default)) 0) == intOfV (cellAt (encQ (b.getD i default)) 0))&&((intOfV (cellAt (encQ (a.getD i default)) 1) == intOfV (cellAt (encQ (b.getD i default)) 1))&&((intOfV (cellAt (encQ (a.getD i default)) 2) == intOfV (cellAt (encQ (b.getD i default)) 2))&&((intOfV (cellAt (encQ (a.getD i default)) 3) == intOfV (cellAt (encQ (b.getD i default)) 3))&&((intOfV (cellAt (encQ (a.getD i default)) 4) == intOfV (cellAt (encQ (b.getD i default)) 4))&&((intOfV (cellAt (encQ (a.getD i default)) 5) == intOfV (cellAt (encQ (b.getD i default)) 5))&&((intOfV (cellAt (encQ (a.getD i default)) 6) == intOfV (cellAt (encQ (b.getD i default)) 6))&&((intOfV (cellAt (encQ (a.getD i default)) 7) == intOfV (cellAt (encQ (b.getD i default)) 7))&&true))))))))=decide (a.getD i default=b.getD i default):=q
   have ih:=yz0 hab hl K r (i+1) n (by omega) (by omega)
   refine (congrArg (fun c=>cbr (!c) (K false) (yaC (fun d=>K d) (fun e f g h j=>K true) n (logs a) (logs b) a.length ((i+1:Nat):Int))) q2).trans ?_
   cases decide (a.getD i default=b.getD i default) with
   | true=>rw [Bool.not_true,yab,Bool.true_and];exact ih
   | false=>rw [Bool.not_false,yah,Bool.false_and]
theorem yLE {a b:List Qy} (ha:a.length<4611686018427387904) (_:b.length<4611686018427387904) (K:Bool→Prop):yay (logs a) (logs b) K=K (decide (a=b)):=by
 refine ykr _ _ _ (fun K k=>?_) K
 unfold yay ydU
 rw [yh0,yh0]
 by_cases h:a.length=b.length
 · rw [cnF (by omega)]
   refine ⟨a.length+1,?_⟩
   have:=yz0 h ha K a.length 0 (a.length+1) (by omega) (by omega)
   rw [show ((0:Nat):Int)=0 from rfl,List.drop_zero,List.drop_zero] at this
   exact this.mpr k
 · rw [cnT (by omega)]
   rw [decide_eq_false (fun e=>h (by rw [e]))] at k;exact k
structure Sp where
 a:Int
 b:Int
 c:Int
 d:Int
 deriving DecidableEq
instance:Inhabited Sp:=⟨⟨0,0,0,0⟩⟩
def encS (s:Sp):PV:=.agg [.int .i64 s.a,.int .i64 s.b,.int .i64 s.c,.int .i64 s.d]
def spans (l:List Sp):List PV:=l.map encS
def pieces (l:List (List Sp)):List PV:=l.map fun s=>.data (spans s)
theorem yjw (l:List Sp):(spans l).length=l.length:=List.length_map ..
theorem ytu {l:List Sp} {i:Nat} (h:i<l.length):List.getD (spans l) i .nils=encS (l.getD i default):=by
 unfold spans
 rw [List.getD_eq_getElem?_getD,List.getD_eq_getElem?_getD,List.getElem?_map,List.getElem?_eq_getElem h]
 rfl
theorem yCB (l:List (List Sp)):(pieces l).length=l.length:=List.length_map ..
theorem yLF {l:List (List Sp)} {i:Nat} (h:i<l.length):List.getD (pieces l) i .nils=.data (spans (l.getD i [])):=by
 unfold pieces
 rw [List.getD_eq_getElem?_getD,List.getD_eq_getElem?_getD,List.getElem?_map,List.getElem?_eq_getElem h]
 rfl
theorem asS {s:Sp} {P:Prop}:asr (conf (.agg [.i .i64,.i .i64,.i .i64,.i .i64]) (encS s)) P=P:=rfl
theorem asD {r:List PV} {P:Prop}:asr (conf (.one .d) (.data r)) P=P:=rfl
theorem yCC {s:List Sp} (hl:s.length<4611686018427387904) (K:Bool→Prop) :
   ∀ (r i n:Nat),i+r=s.length→r<n→yei (fun a=>(K a)) (fun _ _ _ _=>(K true)) n (spans s) (spans s) i=K true
 | 0,i,n+1,hi,hn=>by
   unfold yei
   rw [yjw,cbF (by omega)]
 | r+1,i,n+1,hi,hn=>by
   unfold yei
   have e1:=wib (n:=(i:Int)+1) (by omega) (by omega)
   rw [yjw,cbT (by omega),Int.toNat_natCast,ytu (by omega),asT (by omega),asT (by omega),asS,asT (by omega),asT (by omega),asS,e1,cast1]
   simp only [beq_self_eq_true,Bool.and_self,Bool.not_true,yab]
   exact yCC hl K r (i+1) n (by omega) (by omega)
theorem yJH {s:List Sp} (hl:s.length<4611686018427387904) (K:Bool→Prop):yex (spans s) (spans s) K=K true:=by
 refine yFV _ _ _ (fun K k=>?_) K
 unfold yex ysZ
 rw [cnF rfl]
 refine ⟨s.length+1,?_⟩
 exact (yCC hl K s.length 0 (s.length+1) (by omega) (by omega)).mpr k
theorem yCD {l:List (List Sp)} (hf:∀ i,i<l.length→(l.getD i []).length<4611686018427387904) (hl:l.length<4611686018427387904) (K:Bool→Prop) :
   ∀ (r i n:Nat),i+r=l.length→r<n→yej yex (fun a=>(K a)) (fun _ _ _ _=>(K true)) n (pieces l) (pieces l) i=K true
 | 0,i,n+1,hi,hn=>by
   unfold yej
   rw [yCB,cbF (by omega)]
 | r+1,i,n+1,hi,hn=>by
   unfold yej
   have e1:=wib (n:=(i:Int)+1) (by omega) (by omega)
   rw [yCB,cbT (by omega),Int.toNat_natCast,yLF (by omega),asT (by omega),asT (by omega),asD,asT (by omega),asT (by omega),asD]
   show yex (spans (l.getD i [])) (spans (l.getD i [])) _=_
   rw [yJH (hf i (by omega)),Bool.not_true,yab,e1,cast1]
   exact yCD hf hl K r (i+1) n (by omega) (by omega)
theorem yJI {l:List (List Sp)} (hf:∀ i,i<l.length→(l.getD i []).length<4611686018427387904) (hl:l.length<4611686018427387904) (K:Bool→Prop):yey (pieces l) (pieces l) K=K true:=by
 refine yFW _ _ _ (fun K k=>?_) K
 unfold yey ys2
 rw [cnF rfl]
 refine ⟨l.length+1,?_⟩
 exact (yCD hf hl K l.length 0 (l.length+1) (by omega) (by omega)).mpr k
end Go.Pf.Vc
namespace Go.Pf.Vc
open Go Go.Pf
def hlf (c:Ck):Rat:=shr c 2
def getR (e:Except Int Rat):Rat:=match e with | .ok q=>q | .error _=>0
theorem yKB {e:Except Int Rat} {q:Rat} (h:e=.ok q):e=.ok (getR e)∧getR e=q:=by subst h;exact ⟨rfl,rfl⟩
def chP (l:List Ck) (c:Nat):Rat:=getR (mrkC (l.getD c default).cuts (l.getD c default).dens 0 (hlf (l.getD c default)))
def chV (l:List Ck) (c:Nat):Rat:=getR (valC (l.getD (1-c) default).cuts (l.getD (1-c) default).dens 0 (chP l c))
section
variable {l:List Ck}
theorem yJJ (c:Ck):hlf c=(totC c.cuts c.dens:Rat) / 2:=rfl
theorem ynt {c:Ck} (h:c.ok):small (hlf c):=yLC h ⟨by omega,by omega⟩
theorem yx9 {c:Ck} (h:c.ok):0<hlf c:=by
 have:=yx8 h
 have h2:(0:Rat)<(totC c.cuts c.dens:Rat):=Rat.intCast_pos.2 this
 rw [yJJ];grind
theorem yPr {c:Ck} (h:c.ok):((c.cuts.getD 0 0:Int):Rat)=0:=by rw [h.2.2.2.2.2.1];rfl
theorem yLG {c:Ck} (h:c.ok):∃ p d,mrkC c.cuts c.dens 0 (hlf c)=.ok p∧(1≤d∧d≤12)∧Fr (2*d) 100000 p∧0≤p∧p≤(c.len:Rat):=by
 have h0:=yx9 h
 unfold mrkC
 rw [if_neg (fun e=>by rw [e] at h0;exact Rat.lt_irrefl h0),yJJ,← yPr h]
 have tr:totC c.cuts c.dens=rem c.cuts c.dens c.dens.length 0:=by unfold totC;rw [yx7];omega
 have tp:=yx8 h
 exact yHR h c.dens.length 0 _ (by omega) tp (by omega)
theorem ywl (hd:DK l) {c:Nat} (hc:c<l.length):∃ d,mrkC (l.getD c default).cuts (l.getD c default).dens 0 (hlf (l.getD c default))=.ok (chP l c)∧(1≤d∧d≤12)∧Fr (2*d) 100000 (chP l c)∧0≤chP l c∧chP l c≤((l.getD 0 default).len:Rat):=by
 obtain ⟨p,d,e1,e2,e3,e4,e5⟩:=yLG (hd.ok c hc)
 obtain ⟨g1,g2⟩:=yKB e1
 refine ⟨d,g1,e2,?_,?_,?_⟩
 · show Fr _ _ (getR _);rw [g2];exact e3
 · show 0≤getR _;rw [g2];exact e4
 · show getR _≤_;rw [g2,← hd.len c hc];exact e5
theorem ytR (hd:DK l) {c:Nat} (hc:c<l.length):small (chP l c):=by
 obtain ⟨d,_,e2,e3,_⟩:=ywl hd hc
 exact e3.small ⟨by omega,by omega⟩ (by omega)
theorem yM2 {c:Ck} (h:c.ok) {d:Int} (hd:1≤d∧d≤12) {p:Rat} (hp:Fr (2*d) 100000 p):∃ v,valC c.cuts c.dens 0 p=.ok v∧small v:=by
 have l1:=VC.l1 h;have l2:=VC.l2 h
 have hb:(c.dens.length:Int)*(2400000*(2*d))≤40*57600000:=Int.mul_le_mul (by omega) (by omega) (by omega) (by omega)
 obtain ⟨s,e1,e2⟩:=yJG (D:=2*d) h ⟨by omega,by omega⟩ (b:=p) (hp.mono (by omega)) c.dens.length 0 0 0 0 (by omega) (Fr.of_int (D:=2*d) (by omega) 0 100000 ⟨by omega,by omega⟩) ⟨0,by omega,by omega,by grind⟩ (by omega) (by omega)
 exact ⟨s,e1,e2.small ⟨by omega,by omega⟩ (by omega)⟩
theorem yGa (hd:DK l) (h2:l.length=2) {c:Nat} (hc:c≤1):valC (l.getD (1-c) default).cuts (l.getD (1-c) default).dens 0 (chP l c)=.ok (chV l c)∧small (chV l c):=by
 obtain ⟨d,_,e2,e3,_⟩:=ywl hd (c:=c) (by omega)
 obtain ⟨v,k1,k2⟩:=yM2 (hd.ok (1-c) (by omega)) e2 e3
 obtain ⟨g1,g2⟩:=yKB k1
 exact ⟨g1,by show small (getR _);rw [g2];exact k2⟩
theorem rt01:rt 0 1=0:=yf4 0
theorem PT01 {len:Int} (h:1≤len):PT len 0 1:=⟨⟨by omega,by omega,by omega,by omega,rfl⟩,by omega,by omega⟩
theorem yM3 (hd:DK l) {c:Nat} (hc:c<l.length) (m:Nat) (hm:m<2000):qryR l m c (Ck.mark 0 1 (hlf (l.getD c default)).num (hlf (l.getD c default)).den)=.ok (chP l c):=by
 have ok:=hd.ok c hc
 have hs:=ynt ok
 have hp:=yx9 ok
 have hl:=VC.len0 ok
 have e:Ck.mark 0 1 (hlf (l.getD c default)).num (hlf (l.getD c default)).den (l.getD c default)=.ok (chP l c):=by
   unfold Ck.mark mrkR
   rw [if_pos (VC.ck ok),if_pos ⟨PT01 hl.1,hs.rv,Rat.num_nonneg.2 (Rat.le_of_lt hp)⟩,rt01,yf4]
   exact (ywl hd hc).choose_spec.1
 unfold qryR
 rw [if_pos (hd.err (by omega)),if_pos ⟨by omega,by omega⟩,Int.toNat_natCast,e]
 show (if m≥2000 then _ else _)=_
 rw [if_neg (by omega)]
theorem yLH (hd:DK l) (h2:l.length=2) {c:Nat} (hc:c≤1) (m:Nat) (hm:m<2000):qryR l m ((1-c:Nat):Int) (Ck.value 0 1 (chP l c).num (chP l c).den)=.ok (chV l c):=by
 have ok:=hd.ok (1-c) (by omega)
 have hl:=VC.len0 ok
 obtain ⟨d,e1,e2,e3,e4,e5⟩:=ywl hd (c:=c) (by omega)
 have hs:=ytR hd (c:=c) (by omega)
 have hpt:PT (l.getD (1-c) default).len (chP l c).num (chP l c).den:=PT_of hs e4 (by rw [hd.len (1-c) (by omega)];exact e5)
 have e:Ck.value 0 1 (chP l c).num (chP l c).den (l.getD (1-c) default)=.ok (chV l c):=by
   unfold Ck.value valR
   rw [if_pos (VC.ck ok),rt01,yf4,if_pos ⟨PT01 hl.1,hpt,fun h=>by grind⟩]
   exact (yGa hd h2 hc).1
 unfold qryR
 rw [if_pos (hd.err (by omega)),if_pos ⟨by omega,by omega⟩,Int.toNat_natCast,e]
 show (if m≥2000 then _ else _)=_
 rw [if_neg (by omega)]
def chQ1 (l:List Ck) (c:Nat):Qy:=⟨c,2,0,1,(hlf (l.getD c default)).num,(hlf (l.getD c default)).den,(chP l c).num,(chP l c).den⟩
def chQ2 (l:List Ck) (c:Nat):Qy:=⟨((1-c:Nat):Int),1,0,1,(chP l c).num,(chP l c).den,(chV l c).num,(chV l c).den⟩
def chLog (l:List Ck) (c:Nat):Nat→List Qy
 | 0=>[]
 | 1=>[chQ1 l c]
 | _=>[chQ1 l c,chQ2 l c]
def chAt (l:List Ck) (c:Nat):Nat→Rat
 | 0=>0
 | _=>chP l c
def chLeft (l:List Ck) (c:Nat):Nat→Bool
 | 2=>!decide (chV l c<hlf (l.getD (1-c) default))
 | _=>false
def stK (l:List Ck) (c k:Nat) (K:List PV→List PV→Int→Int→Int→Int→Bool→Prop):Prop:=K (cks l) (logs (chLog l c k)) c k (chAt l c k).num (chAt l c k).den (chLeft l c k)
theorem yKC {c:Ck} (hok:c.ok) (K:Int→Int→Prop):yiE c.len (ints c.cuts) (ints c.dens) K=K (hlf c).num (hlf c).den:=by
 unfold yiE yoD
 have tb:=yhZ hok
 have h1:=VC.l1 hok;have h2:=VC.l2 hok
 rw [yzf (by omega) (by omega),if_pos (VC.ck hok),yHO ⟨by omega,by omega⟩ ⟨by omega,by omega⟩ (by omega),yif]
 have:=ynt hok
 unfold hlf shr at this
 rw [if_pos this];rfl
theorem yM4 {c:Ck} (hok:c.ok) (K:Int→Int→Prop):yoH c.len (ints c.cuts) (ints c.dens) K=K (hlf c).num (hlf c).den:=by
 unfold yoH ytq
 have tb:=yhZ hok
 rw [yLy hok,yMU ⟨by omega,by omega⟩ ⟨by omega,by omega⟩ (by omega),yif]
 have:=ynt hok
 unfold hlf shr at this
 rw [if_pos this];rfl
theorem yKD {lg:List PV} {row:Rat→PV} {p:Rat} {K}:qryK l lg row (.ok p) K=K (cks l) (lg++[row p]) p.num p.den 0:=rfl
theorem yKE (x y:Rat):decide (cmpQ x y≥0)=!decide (x<y):=by
 unfold cmpQ
 by_cases h:x<y
 · simp [h]
 · by_cases h2:y<x <;> simp [h,h2]
theorem yM5 (hd:DK l) (h2:l.length=2) {c:Nat} (hc:c≤1) (K):stK l c 0 (fun a b x y z u w=>ybz a b x y z u w K)=stK l c 1 K:=by
 have ok:=hd.ok c (by omega)
 have hs:=ynt ok
 show ybz (cks l) (logs []) c ((0:Nat):Int) (0:Rat).num (0:Rat).den false K=_
 unfold ybz ykk
 rw [ceT (show ((0:Nat):Int)=0 from rfl),ybc,Int.toNat_natCast,yfd (by omega),asT (by omega),asT (by omega),asCk,ck0,ck1,ck2,yKC ok]
 show yhM (cks l) (logs []) c 0 1 _ _ _=_
 rw [
   yMZ hd.fin (by omega) (yEF _) ⟨by omega,by omega⟩ ⟨by omega,by omega⟩ hs.i1 hs.i2,show (logs []).length=0 from rfl,yM3 hd (by omega) 0 (by omega),yKD]
 rfl
theorem yM6 (hd:DK l) (h2:l.length=2) {c:Nat} (hc:c≤1) (K):stK l c 1 (fun a b x y z u w=>ybz a b x y z u w K)=stK l c 2 K:=by
 have ok:=hd.ok (1-c) (by omega)
 have hs:=ynt ok
 have ps:=ytR hd (c:=c) (by omega)
 have vs:=(yGa hd h2 hc).2
 show ybz (cks l) (logs [chQ1 l c]) c ((1:Nat):Int) (chP l c).num (chP l c).den false K=_
 unfold ybz ykk
 have e1:IntKind.i64.wrap (1-(c:Int))=((1-c:Nat):Int):=by rw [wib (by omega) (by omega)];omega
 rw [ceF (by decide),e1,yLA hd.fin (by omega) (yEF _) ⟨by omega,by omega⟩ ⟨by omega,by omega⟩ ps.i1 ps.i2,show (logs [chQ1 l c]).length=1 from rfl,yLH hd h2 hc 1 (by omega),yKD]
 rw [ybc,Int.toNat_natCast,yfd (by omega),asT (by omega),asT (by omega),asCk,ck0,ck1,ck2,yKC ok,yx3 vs hs]
 rw [yKE];rfl
end
end Go.Pf.Vc
namespace Go.Pf.Vc
open Go Go.Pf
section
variable {l:List Ck}
def cakE (l:List Ck) (cutter:Int):Int:=if deskE l 0=0 then (if l.length=2∧0≤cutter∧cutter≤1 then 0 else 2) else deskE l 0
theorem yzj {cutter:Int} (h:cakE l cutter=0):DK l∧l.length=2∧∃ c:Nat,c≤1∧cutter=c:=by
 unfold cakE at h
 split at h
 · rename_i h0
   split at h
   · rename_i h1
     exact ⟨(yrp h0).1,h1.1,cutter.toNat,by omega,by omega⟩
   · omega
 · rename_i h0;exact absurd h h0
theorem DK.cak (hd:DK l) (h2:l.length=2) {c:Nat} (hc:c≤1):cakE l c=0:=by
 unfold cakE
 rw [if_pos (hd.err (by omega)),if_pos ⟨h2,by omega,by omega⟩]
theorem yHS (hf:finC l) (hl:l.length<4611686018427387904) (cutter:Int) (K):yc1 (cks l) cutter K=if cakE l cutter=0 then K (cks l) [] cutter 0 0 1 false 0 else K [] [] 0 0 0 0 false (cakE l cutter):=by
 unfold yc1 ymI
 rw [yMY hf hl,ybc]
 by_cases h:deskE l 0=0
 · rw [if_pos h,cnF rfl]
   by_cases hc:l.length=2∧0≤cutter∧cutter≤1
   · have e:cakE l cutter=0:=by unfold cakE;rw [if_pos h,if_pos hc]
     rw [e,if_pos rfl,cnF (by omega),cbF (by omega),cbF (by omega)]
   · have e:cakE l cutter=2:=by unfold cakE;rw [if_pos h,if_neg hc]
     rw [e,if_neg (by decide)]
     by_cases h2:l.length=2
     · rw [cnF (by omega)]
       by_cases h3:cutter<0
       · rw [cbT h3]
       · rw [cbF h3,cbT (by omega)]
     · rw [cnT (by omega)]
 · have e:cakE l cutter=deskE l 0:=by unfold cakE;rw [if_neg h]
   rw [e,if_neg h,cnT h,if_neg h]
theorem yLI (hf:finC l) (hl:l.length<4611686018427387904) (cutter:Int) (K):yme (cks l) cutter K=K (cakE l cutter):=by
 unfold yme yrj cakE
 rw [yLz hf hl,ybc]
 show cbr (deskE l 0 != 0) _ _=_
 by_cases h:deskE l 0=0
 · rw [cnF h,if_pos h]
   by_cases h2:l.length=2
   · rw [cnF (by omega)]
     by_cases h3:cutter<0
     · rw [cbT h3,if_neg (fun x=>by omega)]
     · rw [cbF h3]
       by_cases h4:cutter>1
       · rw [cbT h4,if_neg (fun x=>by omega)]
       · rw [cbF h4,if_pos ⟨h2,by omega,by omega⟩]
   · rw [cnT (by omega),if_neg (fun x=>h2 x.1)]
 · rw [cnT h,if_neg h];rfl
theorem stepA (hd:DK l) (h2:l.length=2) {c:Nat} (hc:c≤1) (K):ybz (cks l) [] c 0 0 1 false K=K (cks l) (logs (chLog l c 1)) c 1 (chP l c).num (chP l c).den false:=yM5 hd h2 hc K
theorem stepB (hd:DK l) (h2:l.length=2) {c:Nat} (hc:c≤1) (K):ybz (cks l) (logs (chLog l c 1)) c 1 (chP l c).num (chP l c).den false K=K (cks l) (logs (chLog l c 2)) c 2 (chP l c).num (chP l c).den (chLeft l c 2):=yM6 hd h2 hc K
def chkE (l:List Ck) (lg:List Qy) (cutter step an ad:Int) (left:Bool):Int :=
 if deskE l lg.length=0 then (if cakE l cutter=0 then (if 0≤step∧step≤2∧lg=chLog l cutter.toNat step.toNat∧an=(chAt l cutter.toNat step.toNat).num∧ad=(chAt l cutter.toNat step.toNat).den∧left=chLeft l cutter.toNat step.toNat then 0 else 8) else cakE l cutter) else deskE l lg.length
theorem yzk (l:List Ck) (c k:Nat):(chLog l c k).length≤2:=by
 match k with
 | 0=>exact Nat.zero_le _
 | 1=>exact Nat.le_succ _
 | k+2=>exact Nat.le_refl _
theorem yGb {c k:Nat} {lg:List Qy} (hlg:lg.length<4611686018427387904) {step an ad:Int} {left:Bool} (hk:k≤2) (K:Int→Prop)
   (hmin:(k:Int)=step∨¬(0≤step∧step≤2)) :
   cbr ((k:Int) != step) (K 8) (cbr (!(((chAt l c k).num == an)&&((((chAt l c k).den:Nat):Int) == ad&&true))) (K 8) (cbr (chLeft l c k != left) (K 8) (yay (logs (chLog l c k)) (logs lg) (fun a=>(cbr (!a) (K 8) (K 0)))))) =
   K (if 0≤step∧step≤2∧lg=chLog l c step.toNat∧an=(chAt l c step.toNat).num∧ad=(chAt l c step.toNat).den∧left=chLeft l c step.toNat then 0 else 8):=by
 have hcl:=yzk l c k
 by_cases e:(k:Int)=step
 · subst e
   rw [cnF rfl,Int.toNat_natCast,yLE (by omega) hlg]
   by_cases e1:(chAt l c k).num=an
   · by_cases e2:((chAt l c k).den:Int)=ad
     · rw [beq_t e1,beq_t e2]
       show cbr (!(true&&(true&&true))) _ _=_
       simp only [Bool.and_self,Bool.not_true,yab]
       by_cases e3:chLeft l c k=left
       · have b3:(chLeft l c k != left)=false:=by simp [e3]
         rw [b3,yab]
         by_cases e4:chLog l c k=lg
         · rw [decide_eq_true e4,Bool.not_true,yab,if_pos ⟨by omega,by omega,e4.symm,e1.symm,e2.symm,e3.symm⟩]
         · rw [decide_eq_false e4,Bool.not_false,yah,if_neg (fun x=>e4 x.2.2.1.symm)]
       · have b3:(chLeft l c k != left)=true:=by simpa using e3
         rw [b3,yah,if_neg (fun x=>e3 x.2.2.2.2.2.symm)]
     · rw [beq_f e2,Bool.false_and,Bool.and_false,Bool.not_false,yah,if_neg (fun x=>e2 x.2.2.2.2.1.symm)]
   · rw [beq_f e1,Bool.false_and,Bool.not_false,yah,if_neg (fun x=>e1 x.2.2.2.1.symm)]
 · rw [cnT e,if_neg (fun x=>(hmin.resolve_left e) ⟨x.1,x.2.1⟩)]
theorem yLJ (hf:finC l) (hl:l.length<4611686018427387904) {lg:List Qy} (hlg:lg.length<4611686018427387904) (cutter step an ad:Int) (left:Bool) (K:Int→Prop) :
   yfc (cks l) (logs lg) cutter step an ad left K=K (chkE l lg cutter step an ad left):=by
 refine yzc _ _ _ _ _ _ _ _ (fun K kk=>?_) K
 unfold yfc ymJ
 unfold chkE at kk
 rw [yns hf hl,yh0]
 by_cases h:deskE l lg.length=0
 case neg=>rw [cnT h];rw [if_neg h] at kk;exact kk
 rw [if_pos h] at kk
 rw [cnF h,yHS hf hl]
 by_cases hc0:cakE l cutter=0
 case neg=>rw [if_neg hc0,cnT hc0];rw [if_neg hc0] at kk;exact kk
 rw [if_pos hc0] at kk
 rw [if_pos hc0,cnF rfl]
 obtain ⟨hd,h2,c,hc,rfl⟩:=yzj hc0
 rw [Int.toNat_natCast] at kk
 by_cases t0:step≤0
 · refine ⟨0+1,?_⟩
   rw [yc7,cbF (by split <;> omega)]
   refine (yGb (l:=l) (c:=c) (k:=0) hlg (by omega) K (by omega)).mpr kk
 by_cases t1:step=1
 · subst t1
   refine ⟨(0+1)+1,?_⟩
   rw [yc7,cbT (by decide),stepA hd h2 hc,ycz,cbF (by decide)]
   exact (yGb (l:=l) (c:=c) (k:=1) hlg (by omega) K (by omega)).mpr kk
 · refine ⟨((0+1)+1)+1,?_⟩
   rw [yc7,cbT (by split <;> omega),stepA hd h2 hc,ycz,cbT (by split <;> omega),stepB hd h2 hc,ycz,cbF (by split <;> omega)]
   exact (yGb (l:=l) (c:=c) (k:=2) hlg (by omega) K (by omega)).mpr kk
def spL (l:List Ck) (c:Nat):Sp:=⟨0,1,(chP l c).num,(chP l c).den⟩
def spR (l:List Ck) (c:Nat):Sp:=⟨(chP l c).num,(chP l c).den,(l.getD 0 default).len,1⟩
def chDiv (l:List Ck) (c:Nat):List (List Sp):=if chLeft l c 2=decide (c=1) then [[spL l c],[spR l c]] else [[spR l c],[spL l c]]
theorem yM7 (h2:l.length=2) {c:Nat} (hc:c≤1) (hchk:chkE l (chLog l c 2) c 2 (chP l c).num (chP l c).den (chLeft l c 2)=0) (hf:finC l) (K):yfF (cks l) (logs (chLog l c 2)) c 2 (chP l c).num (chP l c).den (chLeft l c 2) K=K (pieces (chDiv l c)) 0:=by
 unfold yfF yjg
 have hcl:=yzk l c 2
 rw [yLJ hf (by omega) (by omega),hchk,cnF rfl,cbF (by decide)]
 unfold chDiv
 rw [ybc,yfd (by omega),h2]
 rcases (show c=0∨c=1 by omega) with rfl | rfl
 · cases chLeft l 0 2 <;> rfl
 · cases chLeft l 1 2 <;> rfl
end
end Go.Pf.Vc
namespace Go.Pf.Vc
open Go Go.Pf
section
variable {l:List Ck}
theorem yLK (hd:DK l) (h2:l.length=2) {c k:Nat} (hc:c≤1) (hk:k≤2):chkE l (chLog l c k) c k (chAt l c k).num (chAt l c k).den (chLeft l c k)=0:=by
 have:=yzk l c k
 unfold chkE
 rw [if_pos (hd.err (by omega)),if_pos (hd.cak h2 hc),Int.toNat_natCast,Int.toNat_natCast,if_pos ⟨by omega,by omega,rfl,rfl,rfl,rfl⟩]
theorem yJK (hf:finC l) (hl:l.length<4611686018427387904) (cutter:Int) (K):yeI (cks l) cutter K=if cakE l cutter=0 then K (pieces (chDiv l cutter.toNat)) (logs (chLog l cutter.toNat 2)) 0 else K [] [] (cakE l cutter):=by
 unfold yeI ypU
 rw [yHS hf hl]
 by_cases h:cakE l cutter=0
 · obtain ⟨hd,h2,c,hc,rfl⟩:=yzj h
   rw [if_pos h,if_pos h,cnF rfl,Int.toNat_natCast,stepA hd h2 hc,stepB hd h2 hc,yM7 h2 hc (yLK hd h2 hc (k:=2) (by omega)) hf]
 · rw [if_neg h,if_neg h,cnT h]
theorem yHT (l:List Ck) (c:Nat):(chDiv l c).length=2∧∀ i,i<(chDiv l c).length→((chDiv l c).getD i []).length<4611686018427387904:=by
 unfold chDiv
 split <;> refine ⟨rfl,fun i hi=>?_⟩ <;> (have hi:i<2:=hi) <;> rcases (show i=0∨i=1 by omega) with rfl | rfl <;> exact (by decide:(1:Nat)<4611686018427387904)
theorem yCE (l:List Ck) (c:Nat) (K:Bool→Prop):yey (pieces (chDiv l c)) (pieces (chDiv l c)) K=K true:=by
 obtain ⟨h1,h2⟩:=yHT l c
 exact yJI h2 (by omega) K
end
end Go.Pf.Vc
namespace Go.Pf.Vc
open Go Go.Pf
def dsC:DS:=.a [.i .i64,.s (.i .i64),.s (.i .i64)]
theorem yKF {n:Int} (h:inK .i64 n):I64 n:=by
 have e1:IntKind.i64.min=-9223372036854775808:=by decide
 have e2:IntKind.i64.max=9223372036854775807:=by decide
 unfold inK at h
 rw [e1,e2] at h
 exact h
theorem F_i {c:List PV} (h:HasF (.i .i64) c):∃ n,c=[.int .i64 n]∧I64 n:=by
 simp only [HasF] at h
 obtain ⟨n,e,k⟩:=h
 exact ⟨n,e,yKF k⟩
theorem yGc:∀ (rows:List PV),(∀ x∈rows,x.isAgg=(DS.i .i64).isA∧HasF (.i .i64) x.cells)→∃ l:List Int,rows=ints l∧∀ n∈l,I64 n
 | [],_=>⟨[],rfl,by simp⟩
 | x::r,h=>by
   obtain ⟨l,e,hl⟩:=yGc r (fun y hy=>h y (List.mem_cons_of_mem _ hy))
   obtain ⟨h1,h2⟩:=h x (List.mem_cons_self ..)
   obtain ⟨n,e2,hn⟩:=F_i h2
   have ex:x=.int .i64 n:=by
     cases x <;> first | (simp only [PV.cells,List.cons.injEq,and_true] at e2;exact e2) | (cases h1)
   refine ⟨n::l,by rw [ex,e];rfl,?_⟩
   intro m hm
   rcases List.mem_cons.1 hm with rfl | hm
   · exact hn
   · exact hl m hm
def Ck.i64 (c:Ck):Prop:=I64 c.len∧(∀ n∈c.cuts,I64 n)∧∀ n∈c.dens,I64 n
theorem F_c {c:List PV} (h:HasF dsC c):∃ k:Ck,c=[.int .i64 k.len,.data (ints k.cuts),.data (ints k.dens)]∧k.i64∧k.cuts.length≤9223372036854775807∧k.dens.length≤9223372036854775807:=by
 simp only [dsC,HasF,HasL] at h
 obtain ⟨c1,c2,rfl,⟨n,rfl,hn⟩,c3,c4,rfl,⟨r1,rfl,l1,h1⟩,c5,c6,rfl,⟨r2,rfl,l2,h2⟩,rfl⟩:=h
 obtain ⟨a,rfl,ha⟩:=yGc r1 (fun x hx=>⟨(h1 x hx).1,by simp only [HasF];exact (h1 x hx).2⟩)
 obtain ⟨b,rfl,hb⟩:=yGc r2 (fun x hx=>⟨(h2 x hx).1,by simp only [HasF];exact (h2 x hx).2⟩)
 rw [ybK] at l1 l2
 exact ⟨⟨n,a,b⟩,rfl,⟨yKF hn,ha,hb⟩,l1,l2⟩
theorem yPs {x:PV} {l:List DS} (h:x.isAgg=(DS.a l).isA):x=.agg x.cells:=by
 cases x <;> first | rfl | cases h
theorem yM8:∀ (rows:List PV),(∀ x∈rows,x.isAgg=dsC.isA∧HasF dsC x.cells)→∃ l:List Ck,rows=cks l∧∀ c∈l,c.i64
 | [],_=>⟨[],rfl,by simp⟩
 | x::r,h=>by
   obtain ⟨l,e,hl⟩:=yM8 r (fun y hy=>h y (List.mem_cons_of_mem _ hy))
   obtain ⟨h1,h2⟩:=h x (List.mem_cons_self ..)
   obtain ⟨k,e2,hk,_⟩:=F_c h2
   have ex:x=encC k:=by rw [yPs h1,e2];rfl
   refine ⟨k::l,by rw [ex,e];rfl,?_⟩
   intro m hm
   rcases List.mem_cons.1 hm with rfl | hm
   · exact hk
   · exact hl m hm
theorem F_cks {c:List PV} (h:HasF (.s dsC) c):∃ l:List Ck,c=[.data (cks l)]∧l.length≤9223372036854775807∧∀ k∈l,k.i64:=by
 simp only [HasF] at h
 obtain ⟨rows,rfl,hl,hr⟩:=h
 obtain ⟨l,rfl,hi⟩:=yM8 rows hr
 rw [ybc] at hl
 exact ⟨l,rfl,hl,hi⟩
theorem yEG {x y:PV} (h:x.isAgg=false) (e:x.cells=[y]):x=y:=by
 cases x <;> first | (simp only [PV.cells,List.cons.injEq,and_true] at e;exact e) | cases h
theorem yOq {as:List PV} (h:HasAs [.s dsC,.i .i64] as):∃ (l:List Ck) (n:Int),as=[.data (cks l),.int .i64 n]∧l.length≤9223372036854775807∧I64 n∧∀ k∈l,k.i64:=by
 simp only [HasAs] at h
 obtain ⟨x,r,rfl,x1,x2,y,r2,rfl,y1,y2,rfl⟩:=h
 obtain ⟨l,e1,hl,hi⟩:=F_cks x2
 obtain ⟨n,e2,hn⟩:=F_i y2
 rw [yEG x1 e1,yEG y1 e2]
 exact ⟨l,n,rfl,hl,hn,hi⟩
end Go.Pf.Vc
namespace Go.Pf.Vc
open Go Go.Pf
section
variable {l:List Ck}
theorem yPt (hl:l.length≤9223372036854775807) (cutter:Int) (K:Bool→Prop):yqn (cks l) cutter K=K (!greatC l&&decide (cakE l cutter=0)):=by
 unfold yqn ywg
 rw [yDZ hl]
 cases hg:greatC l with
 | true=>rfl
 | false =>
   obtain ⟨g1,g2,g3⟩:=yCA hg
   rw [show (!false)=true from rfl,yah,yLI g3 (by omega)]
   rfl
end
def twoL:List Ck:=[⟨2,[0,2],[1]⟩,⟨2,[0,1,2],[3,1]⟩]
theorem yHU:finC twoL:=by
 intro i hi
 have h:i<2:=hi
 rcases i with _ | _ | i
 · exact ⟨by decide,by decide⟩
 · exact ⟨by decide,by decide⟩
 · omega
theorem two0:cakE twoL 0=0:=by decide +kernel
theorem two1:cakE twoL 1=0:=by decide +kernel
theorem div0:chDiv twoL 0=[[⟨1,1,2,1⟩],[⟨0,1,1,1⟩]]:=by decide +kernel
theorem div1:chDiv twoL 1=[[⟨2,3,2,1⟩],[⟨0,1,2,3⟩]]:=by decide +kernel
theorem yEH (K:Bool→Prop):yjv K=K true:=by
 unfold yjv yrn
 have h0:∀ K,yeI (cks twoL) 0 K=K (pieces [[⟨1,1,2,1⟩],[⟨0,1,1,1⟩]]) (logs (chLog twoL 0 2)) 0:=fun K=>by
   rw [yJK yHU (by decide),if_pos two0,show (0:Int).toNat=0 from rfl,div0]
 have h1:∀ K,yeI (cks twoL) 1 K=K (pieces [[⟨2,3,2,1⟩],[⟨0,1,2,3⟩]]) (logs (chLog twoL 1 2)) 0:=fun K=>by
   rw [yJK yHU (by decide),if_pos two1,show (1:Int).toNat=1 from rfl,div1]
 have s0:∀ K:Bool→Prop,yey (pieces [[⟨1,1,2,1⟩],[⟨0,1,1,1⟩]]) (pieces [[⟨1,1,2,1⟩],[⟨0,1,1,1⟩]]) K=K true:=fun K=>by
   rw [← div0];exact yCE twoL 0 K
 have s1:∀ K:Bool→Prop,yey (pieces [[⟨2,3,2,1⟩],[⟨0,1,2,3⟩]]) (pieces [[⟨2,3,2,1⟩],[⟨0,1,2,3⟩]]) K=K true:=fun K=>by
   rw [← div1];exact yCE twoL 1 K
 have o:∀ (n:Int) K,yxt n K=K n 1:=fun _ _=>rfl
 have t:∀ K,ytO K=K (cks twoL):=fun _=>rfl
 have p:∀ (a b c d:Int) K,ype a b c d K=K (spans [⟨a,b,c,d⟩]):=fun _ _ _ _ _=>rfl
 rw [o,o,o,t,h0,t,h1,ceT rfl,p,p]
 change yey (pieces [[⟨1,1,2,1⟩],[⟨0,1,1,1⟩]]) (pieces [[⟨1,1,2,1⟩],[⟨0,1,1,1⟩]]) _=K true
 rw [s0,yah,ceT rfl]
 change cbr ((2:Int) == 2) _ _=K true
 rw [ceT rfl,p,p]
 change yey (pieces [[⟨2,3,2,1⟩],[⟨0,1,2,3⟩]]) (pieces [[⟨2,3,2,1⟩],[⟨0,1,2,3⟩]]) _=K true
 exact s1 K
end Go.Pf.Vc
namespace Go.Pf.Vc
abbrev RS:Type:=Rat×Rat
def inS (s:RS) (p:Rat):Prop:=s.1≤p∧p<s.2
def memP (l:List RS) (p:Rat):Prop:=∃ s∈l,inS s p
def canon:List RS→Prop
 | []=>True
 | s::r=>s.1<s.2∧(∀ t∈r,s.2<t.1)∧canon r
theorem ykp {p:Rat}:¬memP [] p:=fun ⟨s,h,_⟩=>by cases h
theorem yd6 {s:RS} {r:List RS} {p:Rat}:memP (s::r) p↔inS s p∨memP r p:=by
 constructor
 · rintro ⟨t,h,hp⟩
   rcases List.mem_cons.1 h with rfl | h
   · exact .inl hp
   · exact .inr ⟨t,h,hp⟩
 · rintro (h | ⟨t,h,hp⟩)
   · exact ⟨s,List.mem_cons_self,h⟩
   · exact ⟨t,List.mem_cons_of_mem _ h,hp⟩
theorem yEI {s:RS} {r:List RS} (h:canon (s::r)) {p:Rat} (hp:memP (s::r) p):s.1≤p:=by
 obtain ⟨h1,h2,_⟩:=h
 rcases yd6.1 hp with h | ⟨t,h,hp,_⟩
 · exact h.1
 · have:=h2 t h
   grind
theorem ywm {s:RS} {r:List RS} (h:canon (s::r)) {p:Rat} (hp:memP r p):s.2<p:=by
 obtain ⟨t,ht,h1,_⟩:=hp
 have:=h.2.1 t ht
 grind
theorem yrq {s:RS} {r:List RS} (h:canon (s::r)):memP (s::r) s.1:=yd6.2 (.inl ⟨Rat.le_refl,h.1⟩)
theorem ynl:∀ (a b:List RS),canon a→canon b→(∀ p,memP a p↔memP b p)→a=b
 | [],[],_,_,_=>rfl
 | [],t::b,_,hb,h=>(ykp ((h t.1).2 (yrq hb))).elim
 | s::a,[],ha,_,h=>(ykp ((h s.1).1 (yrq ha))).elim
 | s::a,t::b,ha,hb,h=>by
   have e1:s.1=t.1:=by
     have h1:=yEI hb ((h s.1).1 (yrq ha))
     have h2:=yEI ha ((h t.1).2 (yrq hb))
     grind
   have key:∀ (s t:RS) (a b:List RS),canon (s::a)→canon (t::b)→s.1=t.1→(∀ p,memP (s::a) p↔memP (t::b) p)→¬s.2<t.2:=by
     intro s t a b ha hb e h hlt
     have h1:=(h s.2).2 (yd6.2 (.inl ⟨by have:=ha.1;grind,hlt⟩))
     rcases yd6.1 h1 with h2 | h2
     · have:=h2.2;grind
     · have:=ywm ha h2;grind
   have e2:s.2=t.2:=by
     have h1:=key s t a b ha hb e1 h
     have h2:=key t s b a hb ha e1.symm fun p=>(h p).symm
     grind
   have e:s=t:=Prod.ext e1 e2
   subst e
   have hab:a=b:=by
     refine ynl a b ha.2.2 hb.2.2 fun p=>⟨fun hp=>?_,fun hp=>?_⟩
     · have h1:=ywm ha hp
       rcases yd6.1 ((h p).1 (yd6.2 (.inr hp))) with h2 | h2
       · have:=h2.2;grind
       · exact h2
     · have h1:=ywm hb hp
       rcases yd6.1 ((h p).2 (yd6.2 (.inr hp))) with h2 | h2
       · have:=h2.2;grind
       · exact h2
   rw [hab]
end Go.Pf.Vc
namespace Go.Pf.Vc
def maxR (a b:Rat):Rat:=if a<b then b else a
def byFrom:List RS→Prop
 | []=>True
 | s::r=>(∀ t∈r,s.1≤t.1)∧byFrom r
end Go.Pf.Vc
namespace Go.Pf.Vc
def incrR:List Rat→Prop
 | []=>True
 | x::r=>(∀ y∈r,x<y)∧incrR r
def jn (f:Rat→Bool):List Rat→Option RS→List RS
 | x::y::r,none=>if f x then jn f (y::r) (some (x,y)) else jn f (y::r) none
 | x::y::r,some c=>if f x then (if c.2=x then jn f (y::r) (some (c.1,y)) else c::jn f (y::r) (some (x,y))) else jn f (y::r) (some c)
 | _,none=>[]
 | _,some c=>[c]
def segP (f:Rat→Bool):List Rat→Rat→Prop
 | x::y::r,p=>(f x=true∧x≤p∧p<y)∨segP f (y::r) p
 | _,_=>False
def curP:Option RS→Rat→Prop
 | none,_=>False
 | some c,p=>inS c p
def curOk (pts:List Rat):Option RS→Prop
 | none=>True
 | some c=>c.1<c.2∧∀ x∈pts,c.2≤x
def lowOk (pts:List Rat):Option RS→Rat→Prop
 | none,q=>∃ x∈pts,x≤q
 | some c,q=>c.1≤q
theorem jn_ok (f:Rat→Bool):∀ (pts:List Rat) (cur:Option RS),incrR pts→curOk pts cur →
   canon (jn f pts cur)∧(∀ t∈jn f pts cur,lowOk pts cur t.1)∧∀ p,memP (jn f pts cur) p↔(curP cur p∨segP f pts p)
 | [],none,_,_=>by
   unfold jn
   refine ⟨trivial,fun t h=>(by cases h),fun p=>?_⟩
   simp only [curP,segP]
   exact ⟨fun h=>(ykp h).elim,fun h=>h.elim (fun h=>h.elim) (fun h=>h.elim)⟩
 | [],some c,_,hc=>by
   unfold jn
   refine ⟨⟨hc.1,by simp,trivial⟩,fun t h=>?_,fun p=>?_⟩
   · rw [List.mem_singleton] at h;rw [h];exact Rat.le_refl
   · rw [yd6]
     simp only [curP,segP]
     exact ⟨fun h=>h.elim .inl (fun h=>(ykp h).elim),fun h=>h.elim .inl (fun h=>h.elim)⟩
 | [x],none,_,_=>by
   unfold jn
   refine ⟨trivial,fun t h=>(by cases h),fun p=>?_⟩
   simp only [curP,segP]
   exact ⟨fun h=>(ykp h).elim,fun h=>h.elim (fun h=>h.elim) (fun h=>h.elim)⟩
 | [x],some c,_,hc=>by
   unfold jn
   refine ⟨⟨hc.1,by simp,trivial⟩,fun t h=>?_,fun p=>?_⟩
   · rw [List.mem_singleton] at h;rw [h];exact Rat.le_refl
   · rw [yd6]
     simp only [curP,segP]
     exact ⟨fun h=>h.elim .inl (fun h=>(ykp h).elim),fun h=>h.elim .inl (fun h=>h.elim)⟩
 | x::y::r,none,hi,_=>by
   have hxy:=hi.1 y List.mem_cons_self
   unfold jn
   cases hf:f x with
   | true =>
     rw [if_pos rfl]
     obtain ⟨i1,i2,i3⟩:=jn_ok f (y::r) (some (x,y)) hi.2 ⟨hxy,fun z hz=>by
       rcases List.mem_cons.1 hz with rfl | hz
       · exact Rat.le_refl
       · have:=hi.2.1 z hz;show y≤z;grind⟩
     refine ⟨i1,fun t ht=>⟨x,List.mem_cons_self,i2 t ht⟩,fun p=>?_⟩
     rw [i3 p]
     simp only [curP,segP,inS,hf,true_and,false_or]
   | false =>
     rw [if_neg (by decide)]
     obtain ⟨i1,i2,i3⟩:=jn_ok f (y::r) none hi.2 trivial
     refine ⟨i1,fun t ht=>?_,fun p=>?_⟩
     · obtain ⟨z,hz,hzt⟩:=i2 t ht
       exact ⟨z,List.mem_cons_of_mem _ hz,hzt⟩
     · rw [i3 p]
       simp [curP,segP,hf]
 | x::y::r,some c,hi,hc=>by
   have hxy:=hi.1 y List.mem_cons_self
   have hcx:=hc.2 x List.mem_cons_self
   have hyr:∀ z∈y::r,y≤z:=fun z hz=>by
     rcases List.mem_cons.1 hz with rfl | hz
     · exact Rat.le_refl
     · have:=hi.2.1 z hz;grind
   unfold jn
   cases hf:f x with
   | true =>
     rw [if_pos rfl]
     by_cases he:c.2=x
     · rw [if_pos he]
       obtain ⟨i1,i2,i3⟩:=jn_ok f (y::r) (some (c.1,y)) hi.2 ⟨by have:=hc.1;show c.1<y;grind,hyr⟩
       refine ⟨i1,i2,fun p=>?_⟩
       rw [i3 p]
       simp only [curP,segP,inS,hf,true_and]
       have:=hc.1
       constructor
       · rintro (⟨h1,h2⟩ | h)
         · by_cases h3:p<c.2
           · exact .inl ⟨h1,h3⟩
           · exact .inr (.inl ⟨by grind,h2⟩)
         · exact .inr (.inr h)
       · rintro (⟨h1,h2⟩ | ⟨h1,h2⟩ | h)
         · exact .inl ⟨h1,by grind⟩
         · exact .inl ⟨by grind,h2⟩
         · exact .inr h
     · rw [if_neg he]
       obtain ⟨i1,i2,i3⟩:=jn_ok f (y::r) (some (x,y)) hi.2 ⟨hxy,hyr⟩
       refine ⟨⟨hc.1,fun t ht=>?_,i1⟩,fun t ht=>?_,fun p=>?_⟩
       · have:x≤t.1:=i2 t ht
         grind
       · rcases List.mem_cons.1 ht with rfl | ht
         · exact Rat.le_refl
         · have:x≤t.1:=i2 t ht
           have:=hc.1
           show c.1≤t.1
           grind
       · rw [yd6,i3 p]
         simp only [curP,segP,inS,hf,true_and]
   | false =>
     rw [if_neg (by decide)]
     obtain ⟨i1,i2,i3⟩:=jn_ok f (y::r) (some c) hi.2 ⟨hc.1,fun z hz=>by have:=hyr z hz;grind⟩
     refine ⟨i1,i2,fun p=>?_⟩
     rw [i3 p]
     simp [curP,segP,hf]
end Go.Pf.Vc
namespace Go.Pf.Vc
def minR (a b:Rat):Rat:=if a<b then a else b
theorem yiQ (a b:Rat):a≤maxR a b∧b≤maxR a b∧(maxR a b=a∨maxR a b=b):=by unfold maxR;split <;> grind
theorem ylL (a b:Rat):minR a b≤a∧minR a b≤b∧(minR a b=a∨minR a b=b):=by unfold minR;split <;> grind
end Go.Pf.Vc
namespace Go.Pf.Vc
def gapOk (full:List Rat):List Rat→Prop
 | x::y::r=>(∀ z∈full,z≤x∨y≤z)∧gapOk full (y::r)
 | _=>True
theorem yM9 (full:List Rat):∀ (pts:List Rat),incrR pts→(∀ z∈full,z∈pts∨∀ w∈pts,z<w)→gapOk full pts
 | [],_,_=>trivial
 | [_],_,_=>trivial
 | x::y::r,hi,h=>by
   refine ⟨fun z hz=>?_,yM9 full (y::r) hi.2 fun z hz=>?_⟩
   · rcases h z hz with k | k
     · rcases List.mem_cons.1 k with rfl | k
       · exact .inl Rat.le_refl
       · rcases List.mem_cons.1 k with rfl | k
         · exact .inr Rat.le_refl
         · have:=hi.2.1 z k
           exact .inr (by grind)
     · have:=k x List.mem_cons_self
       exact .inl (by grind)
   · rcases h z hz with k | k
     · rcases List.mem_cons.1 k with rfl | k
       · exact .inr fun w hw=>hi.1 w hw
       · exact .inl k
     · exact .inr fun w hw=>k w (List.mem_cons_of_mem _ hw)
def endsIn (pts:List Rat) (a:List RS):Prop:=∀ s∈a,s.1∈pts∧s.2∈pts
theorem yzl {full:List Rat} {a:List RS} (h:endsIn full a) {x y p:Rat} (hg:∀ z∈full,z≤x∨y≤z) (h1:x≤p) (h2:p<y):memP a p↔memP a x:=by
 constructor
 · rintro ⟨s,hs,k1,k2⟩
   obtain ⟨e1,e2⟩:=h s hs
   have:=hg _ e1
   exact ⟨s,hs,by grind,by grind⟩
 · rintro ⟨s,hs,k1,k2⟩
   obtain ⟨e1,e2⟩:=h s hs
   have:=hg _ e2
   exact ⟨s,hs,by grind,by grind⟩
def inHull (pts:List Rat) (p:Rat):Prop:=(∃ x∈pts,x≤p)∧∃ y∈pts,p<y
theorem yGd {pts:List Rat} {a:List RS} (h:endsIn pts a) {p:Rat} (hp:memP a p):inHull pts p:=by
 obtain ⟨s,hs,k1,k2⟩:=hp
 obtain ⟨e1,e2⟩:=h s hs
 exact ⟨⟨_,e1,k1⟩,⟨_,e2,k2⟩⟩
theorem yKG {full:List Rat} {f:Rat→Bool} {P:Rat→Prop} (hc:∀ x y p,(∀ z∈full,z≤x∨y≤z)→x≤p→p<y→(P p↔P x)):∀ (pts:List Rat),incrR pts→gapOk full pts→(∀ x∈pts,f x=true↔P x)→∀ p,segP f pts p↔(P p∧inHull pts p)
 | [],_,_,_,p=>by
   simp only [segP]
   exact ⟨fun h=>h.elim,fun h=>by obtain ⟨x,hx,_⟩:=h.2.1;cases hx⟩
 | [x],_,_,_,p=>by
   simp only [segP]
   refine ⟨fun h=>h.elim,fun h=>?_⟩
   obtain ⟨u,hu,k1⟩:=h.2.1
   obtain ⟨v,hv,k2⟩:=h.2.2
   rw [List.mem_singleton] at hu hv
   grind
 | x::y::r,hi,hg,hf,p=>by
   have ih:=yKG hc (y::r) hi.2 hg.2 (fun z hz=>hf z (List.mem_cons_of_mem _ hz)) p
   have hxy:=hi.1 y List.mem_cons_self
   simp only [segP]
   rw [ih,hf x List.mem_cons_self]
   constructor
   · rintro (⟨h1,h2,h3⟩ | ⟨h1,⟨u,hu,k1⟩,⟨v,hv,k2⟩⟩)
     · exact ⟨(hc x y p hg.1 h2 h3).2 h1,⟨x,List.mem_cons_self,h2⟩,⟨y,List.mem_cons_of_mem _ List.mem_cons_self,h3⟩⟩
     · exact ⟨h1,⟨u,List.mem_cons_of_mem _ hu,k1⟩,⟨v,List.mem_cons_of_mem _ hv,k2⟩⟩
   · rintro ⟨h1,⟨u,hu,k1⟩,⟨v,hv,k2⟩⟩
     have hxp:x≤p:=by
       rcases List.mem_cons.1 hu with rfl | hu
       · exact k1
       · have:=hi.1 u hu;grind
     by_cases hpy:p<y
     · exact .inl ⟨(hc x y p hg.1 hxp hpy).1 h1,hxp,hpy⟩
     · refine .inr ⟨h1,⟨y,List.mem_cons_self,by grind⟩,?_⟩
       rcases List.mem_cons.1 hv with rfl | hv
       · exact absurd k2 (by grind)
       · exact ⟨v,hv,k2⟩
theorem yNa {pts:List Rat} {f:Rat→Bool} {P:Rat→Prop} (hi:incrR pts) (hc:∀ x y p,(∀ z∈pts,z≤x∨y≤z)→x≤p→p<y→(P p↔P x)) (hf:∀ x∈pts,f x=true↔P x) (hh:∀ p,P p→inHull pts p) :
   canon (jn f pts none)∧∀ p,memP (jn f pts none) p↔P p:=by
 obtain ⟨i1,_,i3⟩:=jn_ok f pts none hi trivial
 refine ⟨i1,fun p=>?_⟩
 rw [i3 p,yKG hc pts hi (yM9 pts pts hi fun z hz=>.inl hz) hf p]
 simp only [curP,false_or]
 exact ⟨fun h=>h.1,fun h=>⟨h,hh p h⟩⟩
end Go.Pf.Vc
namespace Go.Pf.Vc
def insR (p:Rat):List Rat→List Rat
 | []=>[p]
 | x::r=>if p=x then x::r else if p<x then p::x::r else x::insR p r
theorem yoL {p z:Rat}:∀ (l:List Rat),z∈insR p l↔(z=p∨z∈l)
 | []=>by unfold insR;simp
 | x::r=>by
   unfold insR
   by_cases h:p=x
   · rw [if_pos h]
     subst h
     simp
   · rw [if_neg h]
     by_cases h2:p<x
     · rw [if_pos h2];simp
     · rw [if_neg h2,List.mem_cons,yoL r,List.mem_cons]
       constructor
       · rintro (h | h | h)
         · exact .inr (.inl h)
         · exact .inl h
         · exact .inr (.inr h)
       · rintro (h | h | h)
         · exact .inr (.inl h)
         · exact .inl h
         · exact .inr (.inr h)
theorem yzm {p:Rat}:∀ (l:List Rat),incrR l→incrR (insR p l)
 | [],_=>⟨by simp,trivial⟩
 | x::r,h=>by
   unfold insR
   by_cases h1:p=x
   · rw [if_pos h1];exact h
   · rw [if_neg h1]
     by_cases h2:p<x
     · rw [if_pos h2]
       refine ⟨fun y hy=>?_,h⟩
       rcases List.mem_cons.1 hy with rfl | hy
       · exact h2
       · have:=h.1 y hy;grind
     · rw [if_neg h2]
       refine ⟨fun y hy=>?_,yzm r h.2⟩
       rcases (yoL r).1 hy with rfl | hy
       · grind
       · exact h.1 y hy
def endsR:List RS→List Rat→List Rat
 | [],out=>out
 | s::a,out=>endsR a (insR s.2 (insR s.1 out))
theorem yoM:∀ (a:List RS) (out:List Rat),incrR out→incrR (endsR a out)
 | [],_,h=>h
 | _::a,_,h=>yoM a _ (yzm _ (yzm _ h))
theorem yji:∀ (a:List RS) (out:List Rat) (z:Rat),z∈out→z∈endsR a out
 | [],_,_,h=>h
 | _::a,_,z,h=>yji a _ z ((yoL _).2 (.inr ((yoL _).2 (.inr h))))
theorem yli:∀ (a:List RS) (out:List Rat),endsIn (endsR a out) a
 | [],_=>fun s h=>by cases h
 | t::a,out=>by
   intro s hs
   rcases List.mem_cons.1 hs with rfl | hs
   · exact ⟨yji a _ _ ((yoL _).2 (.inr ((yoL _).2 (.inl rfl)))),yji a _ _ ((yoL _).2 (.inl rfl))⟩
   · exact yli a _ s hs
def joinR (f:Rat→Bool) (a b:List RS):List RS:=jn f (endsR b (endsR a [])) none
theorem yya {a b:List RS} {f:Rat→Bool} {c:Prop→Prop→Prop} (hf:∀ x,f x=true↔c (memP a x) (memP b x)) (h0:¬c False False) :
   canon (joinR f a b)∧∀ p,memP (joinR f a b) p↔c (memP a p) (memP b p):=by
 have ea:endsIn (endsR b (endsR a [])) a:=fun s hs=>⟨yji b _ _ (yli a [] s hs).1,yji b _ _ (yli a [] s hs).2⟩
 have eb:endsIn (endsR b (endsR a [])) b:=yli b _
 refine yNa (yoM b _ (yoM a _ trivial)) (fun x y p hg h1 h2=>?_) (fun x _=>hf x) (fun p hp=>?_)
 · rw [yzl ea hg h1 h2,yzl eb hg h1 h2]
 · by_cases h1:memP a p
   · exact yGd ea h1
   · by_cases h2:memP b p
     · exact yGd eb h2
     · rw [eq_false h1,eq_false h2] at hp
       exact (h0 hp).elim
end Go.Pf.Vc
namespace Go.Pf.Vc
open Go Go.Pf
def Sp.rs (s:Sp):RS:=(rt s.a s.b,rt s.c s.d)
def Sp.ok (s:Sp):Prop:=RV s.a s.b∧RV s.c s.d∧rt s.a s.b<rt s.c s.d
instance (s:Sp):Decidable s.ok:=by unfold Sp.ok;infer_instance
def Sp.i64 (s:Sp):Prop:=I64 s.a∧I64 s.b∧I64 s.c∧I64 s.d
theorem yHV {q r:Rat} (hq:small q) (hr:small r) (K:Int→Prop):ya0 q.num q.den r.num r.den K=K (cmpQ q r):=by
 unfold ya0 yog
 rw [yx3 hq hr]
theorem yNb {a b c d:Int} (h:RV a b) (k:RV c d) (K:Int→Prop):ya0 a b c d K=K (cmpQ (rt a b) (rt c d)):=by
 obtain ⟨h1,h2,h3⟩:=rt_of h
 obtain ⟨k1,k2,k3⟩:=rt_of k
 have:=yHV h1 k1 K
 rw [h2,h3,k2,k3] at this
 exact this
theorem yHW (q r:Rat):decide (cmpQ q r<0)=decide (q<r):=by
 unfold cmpQ
 by_cases h:q<r
 · rw [if_pos h];simp [h]
 · rw [if_neg h]
   split <;> simp [h]
theorem yOr (q r:Rat):decide (cmpQ q r≤0)=!decide (r<q):=by
 unfold cmpQ
 by_cases h:q<r
 · have:¬r<q:=by grind
   rw [if_pos h];simp [this]
 · rw [if_neg h]
   by_cases h2:r<q
   · rw [if_pos h2];simp [h2]
   · rw [if_neg h2];simp [h2]
theorem yNc {s:Sp} (h:s.i64) (K:Bool→Prop):ycD s.a s.b s.c s.d K=K (decide s.ok):=by
 refine yAm _ _ _ _ _ (fun K k=>?_) K
 unfold ycD yoe
 refine yMI h.1 h.2.1 h.2.2.1 h.2.2.2 ?_
 by_cases h1:RV s.a s.b
 · by_cases h2:RV s.c s.d
   · have e:chk2 s.a s.b s.c s.d=0:=yfp.2 ⟨h1,h2⟩
     obtain ⟨_,n1,n2⟩:=rt_of h1
     obtain ⟨_,n3,n4⟩:=rt_of h2
     have e2:=yKx (rt s.a s.b) (rt s.c s.d)
     rw [n1,n2,n3,n4] at e2
     rw [e,if_pos rfl,ceT rfl,e2,yHW]
     have e3:decide s.ok=decide (rt s.a s.b<rt s.c s.d):=by rw [decide_eq_decide];exact ⟨fun k=>k.2.2,fun k=>⟨h1,h2,k⟩⟩
     rw [← e3];exact k
   · have e:chk2 s.a s.b s.c s.d≠0:=fun e=>h2 (yfp.1 e).2
     rw [ceF e]
     have e3:decide s.ok=false:=decide_eq_false fun k=>h2 k.2.1
     rw [← e3];exact k
 · have e:chk2 s.a s.b s.c s.d≠0:=fun e=>h1 (yfp.1 e).1
   rw [ceF e]
   have e3:decide s.ok=false:=decide_eq_false fun k=>h1 k.1
   rw [← e3];exact k
end Go.Pf.Vc
namespace Go.Pf.Vc
open Go Go.Pf
theorem asSp {s:Sp} {P:Prop}:asr (conf (.agg [.i .i64,.i .i64,.i .i64,.i .i64]) (encS s)) P=P:=rfl
def allOkB (l:List Sp):Bool:=l.all fun s=>decide s.ok
theorem yNd {l:List Sp} (h64:∀ s∈l,s.i64) (hl:l.length<4611686018427387904) :
   ∀ x0 x1,∀ (r i n:Nat),i+r=l.length→r<n→ydJ ycD x0 x1 n (spans l) l.length i=if allOkB (l.drop i) then x1 (spans l) l.length l.length false else x0 8:=by
 intro x0 x1 r
 induction r with
 | zero =>
   intro i n hi hn
   obtain ⟨n,rfl⟩:∃ m,n=m+1:=⟨n-1,by omega⟩
   obtain rfl:i=l.length:=by omega
   rw [ydJ,cbF (by omega),List.drop_length]
   rfl
 | succ r ih =>
   intro i n hi hn
   obtain ⟨n,rfl⟩:∃ m,n=m+1:=⟨n-1,by omega⟩
   have hil:i<l.length:=by omega
   have e1:=wib (n:=(i:Int)+1) (by omega) (by omega)
   have hm:l.getD i default∈l:=by
     rw [List.getD_eq_getElem?_getD,List.getElem?_eq_getElem hil]
     exact List.getElem_mem hil
   have hd:allOkB (l.drop i)=(decide (l.getD i default).ok&&allOkB (l.drop (i+1))):=by
     rw [ycV default hil];rfl
   rw [ydJ,cbT (by omega),asT (by omega),yjw,asT (by omega),Int.toNat_natCast,ytu hil,asSp,e1,cast1]
   change ycD (l.getD i default).a (l.getD i default).b (l.getD i default).c (l.getD i default).d _=_
   rw [yNc (h64 _ hm),hd]
   cases hv:decide (l.getD i default).ok with
   | true =>
     rw [show (!true)=false from rfl,yab,Bool.true_and]
     exact ih (i+1) n (by omega) (by omega)
   | false =>
     rw [show (!false)=true from rfl,yah,Bool.false_and]
     rfl
def allE (l:List Sp):Int:=if l.length>60 then 4 else if allOkB l then 0 else 8
theorem yPu {l:List Sp} (h64:∀ s∈l,s.i64) (hl:l.length<4611686018427387904) (K:Int→Prop):yeh (spans l) K=K (allE l):=by
 refine yDE _ _ (fun K k=>?_) K
 unfold yeh yqO
 unfold allE at k
 rw [yjw]
 by_cases h:l.length>60
 · rw [cbT (by omega)];rw [if_pos h] at k;exact k
 · rw [cbF (by omega)]
   rw [if_neg h] at k
   refine ⟨l.length+1,?_⟩
   refine (yNd h64 hl _ _ l.length 0 (l.length+1) (by omega) (by omega)).mpr ?_
   rw [List.drop_zero]
   split
   · rename_i h2;rw [if_pos h2] at k;exact k
   · rename_i h2;rw [if_neg h2] at k;exact k
end Go.Pf.Vc
namespace Go.Pf.Vc
open Go Go.Pf
def gapB:Sp→List Sp→Bool
 | _,[]=>true
 | s,t::r=>decide (s.rs.2<t.rs.1)&&gapB t r
theorem yJL {l:List Sp} (hok:∀ s∈l,s.ok) (hl:l.length<4611686018427387904) :
   ∀ x0 x1,∀ (r i n:Nat),i+1+r=l.length→r<n→ycp yeh ya0 x0 x1 n (spans l) ((i+1:Nat):Int)=if gapB (l.getD i default) (l.drop (i+1)) then x1 (spans l) l.length false else x0 8:=by
 intro x0 x1 r
 induction r with
 | zero =>
   intro i n hi hn
   obtain ⟨n,rfl⟩:∃ m,n=m+1:=⟨n-1,by omega⟩
   rw [ycp,yjw,cbF (by omega),List.drop_eq_nil_of_le (by omega),show i+1=l.length by omega]
   rfl
 | succ r ih =>
   intro i n hi hn
   obtain ⟨n,rfl⟩:∃ m,n=m+1:=⟨n-1,by omega⟩
   have e0:=wib (n:=((i+1:Nat):Int)-1) (by omega) (by omega)
   have e2:((i+1:Nat):Int)-1=(i:Int):=by omega
   have e1:=wib (n:=((i+1:Nat):Int)+1) (by omega) (by omega)
   have hm1:l.getD i default∈l:=by
     rw [List.getD_eq_getElem?_getD,List.getElem?_eq_getElem (by omega)]
     exact List.getElem_mem (by omega)
   have hm2:l.getD (i+1) default∈l:=by
     rw [List.getD_eq_getElem?_getD,List.getElem?_eq_getElem (by omega)]
     exact List.getElem_mem (by omega)
   rw [ycp,yjw,cbT (by omega),e0,e2,asT (by omega),asT (by omega),Int.toNat_natCast,ytu (by omega),asSp,asT (by omega),asT (by omega),Int.toNat_natCast,ytu (by omega),asSp]
   change ya0 (l.getD i default).c (l.getD i default).d (l.getD (i+1) default).a (l.getD (i+1) default).b _=_
   rw [yNb (hok _ hm1).2.1 (hok _ hm2).1,e1,cast1,ycV default (by omega)]
   unfold gapB
   have e3:decide (cmpQ (rt (l.getD i default).c (l.getD i default).d) (rt (l.getD (i+1) default).a (l.getD (i+1) default).b)≥0)=!decide ((l.getD i default).rs.2<(l.getD (i+1) default).rs.1):=yKE _ _
   rw [e3]
   cases decide ((l.getD i default).rs.2<(l.getD (i+1) default).rs.1) with
   | true =>
     rw [show (!true)=false from rfl,yab,Bool.true_and]
     exact ih (i+1) n (by omega) (by omega)
   | false =>
     rw [show (!false)=true from rfl,yah,Bool.false_and]
     rfl
def rsL (l:List Sp):List RS:=l.map Sp.rs
def pieceE (l:List Sp):Int:=if allE l=0 then (match l with | []=>0 | s::r=>if gapB s r then 0 else 8) else allE l
theorem yLL {l:List Sp} (h:allE l=0):l.length≤60∧∀ s∈l,s.ok:=by
 unfold allE at h
 split at h
 · cases h
 · split at h
   · rename_i h1 h2
     exact ⟨by omega,fun s hs=>by simpa using List.all_eq_true.1 h2 s hs⟩
   · cases h
theorem yLM {l:List Sp} (h64:∀ s∈l,s.i64) (hl:l.length<4611686018427387904) (K:Int→Prop):yaE (spans l) K=K (pieceE l):=by
 refine yAn _ _ (fun K k=>?_) K
 unfold yaE yoi
 unfold pieceE at k
 rw [yPu h64 hl]
 by_cases h:allE l=0
 · rw [if_pos h] at k
   rw [cnF h]
   obtain ⟨h1,h2⟩:=yLL h
   cases l with
   | nil =>
     refine ⟨1,?_⟩
     rw [ycp,yjw,cbF (by simp)]
     exact k
   | cons s r =>
     refine ⟨r.length+1,?_⟩
     refine (yJL h2 hl _ _ r.length 0 (r.length+1) (by simp;omega) (by omega)).mpr ?_
     dsimp only at k
     show if gapB s r then _ else _
     split
     · rename_i hg;rw [if_pos hg] at k;exact k
     · rename_i hg;rw [if_neg hg] at k;exact k
 · rw [if_neg h] at k
   rw [cnT h];exact k
end Go.Pf.Vc
namespace Go.Pf.Vc
open Go Go.Pf
theorem yEJ:∀ (r:List Sp) (s:Sp),s.ok→(∀ t∈r,t.ok)→(gapB s r=true↔canon (rsL (s::r)))
 | [],s,hs,_=>⟨fun _=>⟨hs.2.2,by simp,trivial⟩,fun _=>rfl⟩
 | t::r,s,hs,h=>by
   have ht:=h t List.mem_cons_self
   have ih:=yEJ r t ht fun u hu=>h u (List.mem_cons_of_mem _ hu)
   unfold gapB
   rw [Bool.and_eq_true,decide_eq_true_eq,ih]
   constructor
   · rintro ⟨h1,h2⟩
     refine ⟨hs.2.2,fun u hu=>?_,h2⟩
     rcases List.mem_cons.1 hu with rfl | hu
     · exact h1
     · have:=h2.2.1 u hu
       have:=h2.1
       show s.rs.2<u.1
       grind
   · rintro ⟨_,h2,h3⟩
     exact ⟨h2 _ List.mem_cons_self,h3⟩
end Go.Pf.Vc
namespace Go.Pf.Vc
open Go Go.Pf Go.Sort
theorem yAU {n d:Int}:rvB n d=true↔RV n d:=by
 unfold rvB RV
 simp only [Bool.and_eq_true,decide_eq_true_eq]
theorem yOs {a b c d:Int} (h:RV a b) (k:RV c d):cmpI a b c d<0↔rt a b<rt c d:=by
 obtain ⟨_,h2,h3⟩:=rt_of h
 obtain ⟨_,k2,k3⟩:=rt_of k
 rw [Rat.lt_iff,h2,h3,k2,k3]
 unfold cmpI
 by_cases h:a*d<c*b
 · rw [if_pos h];simp [h]
 · rw [if_neg h]
   split <;> simp [h]
def ratOf:PV→Rat
 | .agg (.int _ a::.int _ b::_)=>rt a b
 | _=>0
theorem yyb {x y:PV} (hx:spGood x=true) (hy:spGood y=true):spCmp x y<0↔ratOf x<ratOf y:=by
 unfold spGood at hx hy
 split at hx
 · split at hy
   · simp only [spCmp,ratOf]
     exact yOs (yAU.1 hx) (yAU.1 hy)
   · cases hy
 · cases hx
theorem ypj {n g:Nat} (x:(spSrt n g).s.El):spGood x.1=true:=by
 have:=x.2
 simp only [Srt.gd,Bool.and_eq_true] at this
 exact this.2
theorem yJM (n g:Nat):SWO (fun x y:(spSrt n g).s.El=>decide ((spSrt n g).cf x y<0)) where
 irrefl x:=by
   have:=yyb (ypj x) (ypj x)
   show decide (spCmp x.1 x.1<0)=false
   rw [decide_eq_false_iff_not,this]
   exact Rat.lt_irrefl
 trans x y z h1 h2:=by
   have h1:decide (spCmp x.1 y.1<0)=true:=h1
   have h2:decide (spCmp y.1 z.1<0)=true:=h2
   show decide (spCmp x.1 z.1<0)=true
   rw [decide_eq_true_eq,yyb (ypj _) (ypj _)] at *
   grind
 ntrans x y z h1 h2:=by
   have h1:decide (spCmp x.1 y.1<0)=false:=h1
   have h2:decide (spCmp y.1 z.1<0)=false:=h2
   show decide (spCmp x.1 z.1<0)=false
   rw [decide_eq_false_iff_not,yyb (ypj _) (ypj _)] at *
   grind
theorem yzn {s:Srt}:∀ {l:List PV},(∀ x∈l,s.gd x=true)→∃ d,s.rows? l=some d
 | [],_=>⟨[],rfl⟩
 | x::r,h=>by
   obtain ⟨d,hd⟩:=yzn (s:=s) (l:=r) fun y hy=>h y (List.mem_cons_of_mem _ hy)
   refine ⟨⟨x,h x List.mem_cons_self⟩::d,?_⟩
   simp only [Srt.rows?]
   rw [dif_pos (h x List.mem_cons_self),hd]
theorem RV.i1 {n d:Int} (h:RV n d):I64 n:=by obtain ⟨h1,h2,h3,h4,_⟩:=h;exact ⟨by omega,by omega⟩
theorem RV.i2 {n d:Int} (h:RV n d):I64 d:=by obtain ⟨h1,h2,h3,h4,_⟩:=h;exact ⟨by omega,by omega⟩
theorem Sp.ok.i64 {s:Sp} (h:s.ok):s.i64:=⟨h.1.i1,h.1.i2,h.2.1.i1,h.2.1.i2⟩
theorem yNe (n g:Nat) {s:Sp} (h:s.ok):(spSrt n g).s.gd (encS s)=true:=by
 obtain ⟨h1,h2,h3,h4⟩:=h.i64
 have e1:IntKind.i64.min=-9223372036854775808:=by decide
 have e2:IntKind.i64.max=9223372036854775807:=by decide
 simp only [Srt.gd,spSrt,okI,encS,okL,spGood,Bool.and_eq_true,decide_eq_true_eq,e1,e2]
 unfold I64 at h1 h2 h3 h4
 exact ⟨⟨trivial,h1.1,h1.2,trivial,h2.1,h2.2,trivial,h3.1,h3.2,trivial,h4.1,h4.2,trivial⟩,yAU.2 h.1⟩
def decS:PV→Sp
 | .agg [.int _ a,.int _ b,.int _ c,.int _ d]=>⟨a,b,c,d⟩
 | _=>default
theorem yHX (s:Sp):decS (encS s)=s:=rfl
theorem yLN (n g:Nat) {l:List Sp} (h:∀ s∈l,s.ok):∃ l':List Sp,l'.Perm l∧l'.Pairwise (fun s t=>¬t.rs.1<s.rs.1)∧Srt.sorted (spSrt n g).s (spSrt n g).srt (spans l)=spans l':=by
 obtain ⟨d,hd⟩:=yzn (s:=(spSrt n g).s) (l:=spans l) fun x hx=>by
   obtain ⟨s,hs,rfl⟩:=List.mem_map.1 hx
   exact yNe n g (h s hs)
 obtain ⟨d',h1,h2,h3⟩:=(spSrt n g).sorted_is (yJM n g) hd
 have hv:=Srt.rows?_val hd
 have hp:(d'.map (·.1)).Perm (spans l):=by rw [← hv];exact h1.map _
 have hm:∀ x∈d'.map (·.1),∃ s∈l,encS s=x:=fun x hx=>List.mem_map.1 (hp.mem_iff.1 hx)
 refine ⟨(d'.map (·.1)).map decS,?_,?_,?_⟩
 · have this:(List.map decS (d'.map (·.1))).Perm (List.map decS (l.map encS)):=hp.map decS
   have e:List.map decS (l.map encS)=l:=by rw [List.map_map,show decS ∘ encS=id from funext yHX,List.map_id]
   rw [e] at this
   exact this
 · rw [List.map_map,List.pairwise_map]
   refine h2.imp_of_mem fun {x y} hx hy hxy=>?_
   have hxy:¬spCmp y.1 x.1<0:=hxy
   rw [yyb (ypj _) (ypj _)] at hxy
   obtain ⟨s,_,es⟩:=hm x.1 (List.mem_map_of_mem hx)
   obtain ⟨t,_,et⟩:=hm y.1 (List.mem_map_of_mem hy)
   show ¬(decS y.1).rs.1<(decS x.1).rs.1
   rw [← es,← et] at hxy ⊢
   exact hxy
 · rw [h3]
   have key:∀ (xs:List PV),(∀ x∈xs,∃ s∈l,encS s=x)→(xs.map decS).map encS=xs:=by
     intro xs
     induction xs with
     | nil=>intro _;rfl
     | cons x r ih =>
       intro h
       obtain ⟨s,_,es⟩:=h x List.mem_cons_self
       rw [List.map_cons,List.map_cons,ih fun y hy=>h y (List.mem_cons_of_mem _ hy),← es,yHX]
   exact (key _ hm).symm
end Go.Pf.Vc
namespace Go.Pf.Vc
open Go Go.Pf
def spOf (r:RS):Sp:=⟨r.1.num,r.1.den,r.2.num,r.2.den⟩
def rsp (l:List RS):List PV:=spans (l.map spOf)
def smallS (r:RS):Prop:=small r.1∧small r.2
theorem ydC (l:List RS):(rsp l).length=l.length:=by unfold rsp;rw [yjw,List.length_map]
def encR (r:RS):PV:=encS (spOf r)
theorem ytv {l:List RS} {i:Nat} (h:i<l.length):List.getD (rsp l) i .nils=encR (l.getD i default):=by
 unfold rsp
 rw [ytu (by rw [List.length_map];exact h)]
 unfold encR
 congr 1
 rw [List.getD_eq_getElem?_getD,List.getD_eq_getElem?_getD,List.getElem?_map,List.getElem?_eq_getElem h]
 rfl
theorem encR0 (r:RS):intOfV (cellAt (encR r) 0)=r.1.num:=rfl
theorem encR1 (r:RS):intOfV (cellAt (encR r) 1)=r.1.den:=rfl
theorem encR2 (r:RS):intOfV (cellAt (encR r) 2)=r.2.num:=rfl
theorem encR3 (r:RS):intOfV (cellAt (encR r) 3)=r.2.den:=rfl
theorem asR (r:RS) (P:Prop):asr (conf (.agg [.i .i64,.i .i64,.i .i64,.i .i64]) (encR r)) P=P:=rfl
theorem yOt (a b:List RS):rsp a++rsp b=rsp (a++b):=by unfold rsp spans;rw [List.map_append,List.map_append]
theorem ywn {l:List RS} (h:∀ s∈l,smallS s) {i:Nat} (hi:i<l.length):smallS (l.getD i default):=by
 rw [List.getD_eq_getElem?_getD,List.getElem?_eq_getElem hi]
 exact h _ (List.getElem_mem hi)
theorem yOu {s:Sp} (h:s.ok):spOf s.rs=s:=by
 obtain ⟨_,h2,h3⟩:=rt_of h.1
 obtain ⟨_,k2,k3⟩:=rt_of h.2.1
 unfold spOf Sp.rs
 cases s
 simp only at h2 h3 k2 k3 ⊢
 rw [h2,h3,k2,k3]
theorem yKH {r:RS} (_:smallS r):(spOf r).rs=r:=by
 show (rt r.1.num r.1.den,rt r.2.num r.2.den)=r
 rw [yf4,yf4]
theorem yAV {r:RS} (h:smallS r) (hv:r.1<r.2):(spOf r).ok:=⟨h.1.rv,h.2.rv,by
 show rt r.1.num r.1.den<rt r.2.num r.2.den
 rw [yf4,yf4];exact hv⟩
theorem yLO {l:List Sp} (h:∀ s∈l,s.ok):spans l=rsp (rsL l):=by
 unfold rsp rsL
 rw [List.map_map]
 congr 1
 conv=>lhs;rw [← List.map_id l]
 exact List.map_congr_left fun s hs=>(yOu (h s hs)).symm
theorem yEK:∀ {l:List RS},l.Pairwise (fun s t=>¬t.1<s.1)→byFrom l
 | [],_=>trivial
 | s::r,h=>by
   rw [List.pairwise_cons] at h
   exact ⟨fun t ht=>by have:=h.1 t ht;grind,yEK h.2⟩
end Go.Pf.Vc
namespace Go.Pf.Vc
open Go Go.Pf
def inB (l:List RS) (p:Rat):Bool:=l.any fun s=>!decide (p<s.1)&&decide (p<s.2)
theorem yyc {l:List RS} {p:Rat}:inB l p=true↔memP l p:=by
 unfold inB memP inS
 rw [List.any_eq_true]
 constructor
 · rintro ⟨s,h1,h2⟩
   simp only [Bool.and_eq_true,Bool.not_eq_true',decide_eq_false_iff_not,decide_eq_true_eq] at h2
   exact ⟨s,h1,by grind,h2.2⟩
 · rintro ⟨s,h1,h2,h3⟩
   refine ⟨s,h1,?_⟩
   simp only [Bool.and_eq_true,Bool.not_eq_true',decide_eq_false_iff_not,decide_eq_true_eq]
   exact ⟨by grind,h3⟩
end Go.Pf.Vc
namespace Go.Pf.Vc
open Go Go.Pf
def encW (q:Rat):PV:=.agg [.int .i64 q.num,.int .i64 q.den]
def rts (l:List Rat):List PV:=l.map encW
theorem ynm (l:List Rat):(rts l).length=l.length:=List.length_map ..
theorem yrr {l:List Rat} {i:Nat} (h:i<l.length):List.getD (rts l) i .nils=encW (l.getD i 0):=by
 unfold rts
 rw [List.getD_eq_getElem?_getD,List.getD_eq_getElem?_getD,List.getElem?_map,List.getElem?_eq_getElem h]
 rfl
theorem encW0 (q:Rat):intOfV (cellAt (encW q) 0)=q.num:=rfl
theorem encW1 (q:Rat):intOfV (cellAt (encW q) 1)=q.den:=rfl
theorem asW (q:Rat) (P:Prop):asr (conf (.agg [.i .i64,.i .i64]) (encW q)) P=P:=rfl
theorem yOv (q:Rat):([.agg [.int .i64 q.num,.int .i64 q.den]]:List PV)=rts [q]:=rfl
theorem yOw (a b:List Rat):rts a++rts b=rts (a++b):=by unfold rts;rw [List.map_append]
theorem ratEq (a b:Rat):((a.num == b.num)&&(((a.den:Int) ==(b.den:Int))&&true))=decide (a=b):=by
 rw [Bool.and_true,Bool.eq_iff_iff]
 simp only [Bool.and_eq_true,beq_iff_eq,decide_eq_true_eq]
 constructor
 · rintro ⟨h1,h2⟩;exact Rat.ext h1 (by omega)
 · rintro rfl;exact ⟨rfl,rfl⟩
end Go.Pf.Vc
namespace Go.Pf.Vc
open Go Go.Pf
def selB (how:Int) (x y:Bool):Bool:=bif how == 2 then (x&&!y) else (bif how == 1 then (x&&y) else (x||y))
section
variable {a b:List RS} {pts:List Rat} {how:Int}
def selF (a b:List RS) (how:Int) (q:Rat):Bool:=selB how (inB a q) (inB b q)
end
end Go.Pf.Vc
namespace Go.Pf.Vc
open Go Go.Pf
theorem yHY (l:List RS):headOk 4 (rsp l)=true:=by cases l <;> rfl
theorem yCF {a b:List RS} {q:Rat}:selF a b 0 q=true↔(memP a q∨memP b q):=by
 show (inB a q||inB b q)=true↔_
 rw [Bool.or_eq_true,yyc,yyc]
theorem yEL {a b:List RS} {q:Rat}:selF a b 1 q=true↔(memP a q∧memP b q):=by
 show (inB a q&&inB b q)=true↔_
 rw [Bool.and_eq_true,yyc,yyc]
theorem ymf {l:List RS} (h:canon l):∀ s∈l,s.1<s.2:=by
 induction l with
 | nil=>intro s hs;cases hs
 | cons t r ih =>
   intro s hs
   rcases List.mem_cons.1 hs with rfl | hs
   · exact h.1
   · exact ih h.2.2 s hs
def setR (a b:List RS) (how:Int):List RS:=joinR (selF a b how) a b
end Go.Pf.Vc
namespace Go.Pf.Vc
open Go Go.Pf
theorem yPv {a b c d:Int} (h:RV a b) (k:RV c d):cmpI a b c d=cmpQ (rt a b) (rt c d):=by
 obtain ⟨_,h2,h3⟩:=rt_of h
 obtain ⟨_,k2,k3⟩:=rt_of k
 unfold cmpI cmpQ
 simp only [Rat.lt_iff,h2,h3,k2,k3]
theorem yNf:∀ {cs:List PV},okL [.i64,.i64,.i64,.i64] cs=true→∃ a b c d,cs=[.int .i64 a,.int .i64 b,.int .i64 c,.int .i64 d]
 | [],h=>by cases h
 | [x],h=>by cases x <;> simp [okL] at h
 | [x,y],h=>by cases x <;> cases y <;> simp [okL] at h
 | [x,y,z],h=>by cases x <;> cases y <;> cases z <;> simp [okL] at h
 | x::y::z::u::w,h=>by
   cases x <;> first | (simp [okL] at h;done) | skip
   cases y <;> first | (simp [okL] at h;done) | skip
   cases z <;> first | (simp [okL] at h;done) | skip
   cases u <;> first | (simp [okL] at h;done) | skip
   simp only [okL,Bool.and_eq_true,decide_eq_true_eq] at h
   obtain ⟨rfl,_,_,rfl,_,_,rfl,_,_,rfl,_,_,h⟩:=h
   cases w with
   | nil=>exact ⟨_,_,_,_,rfl⟩
   | cons p q=>simp [okL] at h
theorem gd_sp {n g:Nat} {x:PV} (h:(spSrt n g).s.gd x=true):∃ a b c d,x=.agg [.int .i64 a,.int .i64 b,.int .i64 c,.int .i64 d]∧RV a b:=by
 simp only [Srt.gd,Bool.and_eq_true] at h
 have h1:okI [.i64,.i64,.i64,.i64] x=true:=h.1
 have h2:spGood x=true:=h.2
 clear h
 cases x <;> first | (simp [okI] at h1;done) | skip
 obtain ⟨a,b,c,d,rfl⟩:=yNf (h1:okL _ _=true)
 exact ⟨a,b,c,d,rfl,yAU.1 h2⟩
end Go.Pf.Vc
namespace Go.Pf.Vc
open Go Go.Pf
structure Pc (l:List RS):Prop where
 c:canon l
 s:∀ s∈l,smallS s
 n:l.length≤60
theorem yLP {a b:List RS} {p:Rat}:memP (setR a b 0) p↔(memP a p∨memP b p):=(yya (c:=Or) (fun x=>yCF) (by simp)).2 p
theorem yNg {a b:List RS} {p:Rat}:memP (setR a b 1) p↔(memP a p∧memP b p):=(yya (c:=And) (fun x=>yEL) (by simp)).2 p
theorem yNh {l:List RS} (h:∀ s∈l,smallS s):rsL (l.map spOf)=l:=by
 induction l with
 | nil=>rfl
 | cons s r ih =>
   show (spOf s).rs::rsL (r.map spOf)=_
   rw [yKH (h s List.mem_cons_self),ih fun t ht=>h t (List.mem_cons_of_mem _ ht)]
theorem Pc.ok {l:List RS} (h:Pc l):∀ s∈l.map spOf,s.ok:=fun s hs=>by
 obtain ⟨t,ht,rfl⟩:=List.mem_map.1 hs
 exact yAV (h.s t ht) (ymf h.c t ht)
theorem Pc.i64 {l:List RS} (h:Pc l):∀ s∈l.map spOf,s.i64:=fun s hs=>by
 obtain ⟨t,ht,rfl⟩:=List.mem_map.1 hs
 have:=h.s t ht
 exact ⟨this.1.i1,this.1.i2,this.2.i1,this.2.i2⟩
theorem Pc.e {l:List RS} (h:Pc l):pieceE (l.map spOf)=0:=by
 have hl:=h.n
 have ho:=h.ok
 have hc:=h.c
 rw [← yNh h.s] at hc
 have h1:allOkB (l.map spOf)=true:=List.all_eq_true.2 fun s hs=>decide_eq_true (ho s hs)
 have h2:allE (l.map spOf)=0:=by
   unfold allE
   rw [if_neg (by rw [List.length_map];omega),h1,if_pos rfl]
 unfold pieceE
 rw [h2]
 cases l with
 | nil=>rfl
 | cons s r =>
   have hg:gapB (spOf s) (r.map spOf)=true:=(yEJ _ _ (ho _ (by simp)) (fun t ht=>ho t (List.mem_cons_of_mem _ ht))).2 hc
   show (if (0:Int)=0 then (if gapB (spOf s) (r.map spOf) then 0 else 8) else _)=_
   rw [if_pos rfl,hg,if_pos rfl]
theorem Pc.check {l:List RS} (h:Pc l) (K:Int→Prop):yaE (rsp l) K=K 0:=by
 unfold rsp
 rw [yLM h.i64 (by rw [List.length_map];have:=h.n;omega),h.e]
end Go.Pf.Vc
namespace Go.Pf.Vc
open Go Go.Pf
def sumV (v:RS→Rat):List RS→Rat
 | []=>0
 | s::r=>v s+sumV v r
theorem ywo:small 0:=by decide +kernel
end Go.Pf.Vc
namespace Go.Pf.Vc
open Go Go.Pf
theorem nz (P Q:Prop):cbr ((0:Int) != 0) P Q=Q:=rfl
end Go.Pf.Vc
namespace Go.Pf.Vc
open Go Go.Pf
section
variable (V:Rat→Rat)
def dV (s:RS):Rat:=V s.2-V s.1
def csum (f:Rat→Bool):List Rat→Rat
 | x::y::r=>(bif f x then V y-V x else 0)+csum f (y::r)
 | _=>0
theorem yCG (f:Rat→Bool):∀ (pts:List Rat),sumV (dV V) (jn f pts none)=csum V f pts∧∀ c,sumV (dV V) (jn f pts (some c))=dV V c+csum V f pts
 | []=>by
   unfold jn csum
   exact ⟨rfl,fun c=>rfl⟩
 | [x]=>by
   unfold jn csum
   exact ⟨rfl,fun c=>rfl⟩
 | x::y::r=>by
   obtain ⟨i1,i2⟩:=yCG f (y::r)
   unfold jn csum
   cases hf:f x with
   | true =>
     rw [if_pos rfl]
     refine ⟨?_,fun c=>?_⟩
     · rw [i2];rfl
     · rw [if_pos rfl]
       split
       · rename_i hc
         rw [i2]
         unfold dV
         rw [cond_true,hc]
         dsimp only
         grind
       · show dV V c+sumV (dV V) (jn f (y::r) (some (x,y)))=_
         rw [i2]
         unfold dV
         rw [cond_true]
   | false =>
     rw [if_neg (by decide)]
     refine ⟨?_,fun c=>?_⟩
     · rw [i1,cond_false];grind
     · rw [if_neg (by decide),i2,cond_false];grind
theorem yHZ (f g:Rat→Bool):∀ pts:List Rat,csum V f pts+csum V g pts=csum V (fun x=>f x||g x) pts+csum V (fun x=>f x&&g x) pts
 | []=>rfl
 | [x]=>rfl
 | x::y::r=>by
   have ih:=yHZ f g (y::r)
   unfold csum
   cases f x <;> cases g x <;> simp only [cond_true,cond_false,Bool.or_self,Bool.and_self,Bool.or_true,Bool.and_true,Bool.and_false,Bool.or_false] <;> grind
theorem yKI {pts:List Rat} {A:List RS} (hA:canon A) (hi:incrR pts) (he:endsIn pts A):jn (inB A) pts none=A:=by
 obtain ⟨h1,h2⟩:=yNa (P:=memP A) hi (fun x y p hg h1 h2=>yzl he hg h1 h2) (fun x _=>yyc) (fun p hp=>yGd he hp)
 exact ynl _ _ h1 hA h2
theorem yNi {A B:List RS} (hA:canon A) (hB:canon B):sumV (dV V) A+sumV (dV V) B=sumV (dV V) (setR A B 0)+sumV (dV V) (setR A B 1):=by
 have ea:endsIn (endsR B (endsR A [])) A:=fun s hs=>⟨yji B _ _ (yli A [] s hs).1,yji B _ _ (yli A [] s hs).2⟩
 have eb:endsIn (endsR B (endsR A [])) B:=yli B _
 have hi:incrR (endsR B (endsR A [])):=yoM B _ (yoM A _ trivial)
 have h1:=(yCG V (inB A) (endsR B (endsR A []))).1
 have h2:=(yCG V (inB B) (endsR B (endsR A []))).1
 have h3:=(yCG V (selF A B 0) (endsR B (endsR A []))).1
 have h4:=(yCG V (selF A B 1) (endsR B (endsR A []))).1
 rw [yKI hA hi ea] at h1
 rw [yKI hB hi eb] at h2
 show _=sumV (dV V) (jn (selF A B 0) (endsR B (endsR A [])) none)+sumV (dV V) (jn (selF A B 1) (endsR B (endsR A [])) none)
 rw [h1,h2,h3,h4,yHZ]
 rfl
end
end Go.Pf.Vc
namespace Go.Pf.Vc
open Go Go.Pf
section
variable {len:Int} {cuts dens:List Int}
def uC (cuts:List Int) (i:Nat) (x:Rat):Rat:=minR (maxR x (cuts.getD i 0:Int)) (cuts.getD (i+1) 0:Int)
def vu (cuts dens:List Int) (x:Rat):Nat→Nat→Rat
 | 0,_=>0
 | r+1,i=>(dens.getD i 0:Int)*uC cuts i x+vu cuts dens x r (i+1)
theorem yGe (h:VC len cuts dens):∀ (r i:Nat) {x y:Rat},i+r=dens.length→x≤(cuts.getD i 0:Int)→y≤(cuts.getD i 0:Int)→vu cuts dens x r i=vu cuts dens y r i
 | 0,_,_,_,_,_,_=>rfl
 | r+1,i,x,y,hi,hx,hy=>by
   have l1:=h.l1
   have hst:((cuts.getD i 0:Int):Rat)<((cuts.getD (i+1) 0:Int):Rat):=Rat.intCast_lt_intCast.2 (h.step (i:=i) (by omega))
   have ih:=yGe h r (i+1) (x:=x) (y:=y) (by omega) (by grind) (by grind)
   unfold vu
   rw [ih]
   have e:uC cuts i x=uC cuts i y:=by
     unfold uC
     have a1:=yiQ x (cuts.getD i 0:Int)
     have a2:=yiQ y (cuts.getD i 0:Int)
     have e1:maxR x (cuts.getD i 0:Int)=(cuts.getD i 0:Int):=by grind
     have e2:maxR y (cuts.getD i 0:Int)=(cuts.getD i 0:Int):=by grind
     rw [e1,e2]
   rw [e]
theorem ypk {α:Type} {q:Rat} {k:Rat→Except Int α} {v:α} (h:fit q k=.ok v):k q=.ok v:=by
 unfold fit at h
 split at h
 · exact h
 · cases h
theorem yAW (h:VC len cuts dens) {b:Rat}:∀ (r i:Nat) (p sum v:Rat),i+r=dens.length→p≤b→(p=b∨((cuts.getD i 0:Int):Rat)≤p)→valS cuts dens b r i p sum=.ok v→v=sum+(vu cuts dens b r i-vu cuts dens p r i)
 | 0,i,p,sum,v,hi,hp,hc,hv=>by
   unfold valS at hv
   cases hv
   unfold vu
   grind
 | r+1,i,p,sum,v,hi,hp,hc,hv=>by
   have l1:=h.l1
   have hst:((cuts.getD i 0:Int):Rat)<((cuts.getD (i+1) 0:Int):Rat):=Rat.intCast_lt_intCast.2 (h.step (i:=i) (by omega))
   unfold valS at hv
   dsimp only at hv
   have hen:∃ en:Rat,(if b<((cuts.getD (i+1) 0:Int):Rat) then b else ((cuts.getD (i+1) 0:Int):Rat))=en∧en≤b∧en≤((cuts.getD (i+1) 0:Int):Rat)∧(en=b∨en=((cuts.getD (i+1) 0:Int):Rat)):=by
     refine ⟨_,rfl,?_⟩
     split <;> grind
   obtain ⟨en,e0,he1,he2,he3⟩:=hen
   rw [e0] at hv
   have low:=yGe h r (i+1) (x:=en) (y:=p) (by omega)
   have m1:=yiQ b (cuts.getD i 0:Int)
   have m2:=yiQ p (cuts.getD i 0:Int)
   have n1:=ylL (maxR b (cuts.getD i 0:Int)) (cuts.getD (i+1) 0:Int)
   have n2:=ylL (maxR p (cuts.getD i 0:Int)) (cuts.getD (i+1) 0:Int)
   unfold vu uC
   generalize ((cuts.getD i 0:Int):Rat)=c0 at *
   generalize hc1:((cuts.getD (i+1) 0:Int):Rat)=c1 at *
   by_cases hlt:p<en
   · have hb:minR (maxR b c0) c1=en:=by grind
     have hq:minR (maxR p c0) c1=p:=by grind
     by_cases hd:dens.getD i 0=0
     · rw [if_pos (.inl hd),if_pos hlt] at hv
       have ih:=yAW h r (i+1) en sum v (by omega) he1 (by rw [hc1];grind) hv
       rw [ih,hd,low (by grind) (by grind)]
       grind
     · rw [if_neg (by intro k;rcases k with k | k;exact hd k;exact k hlt)] at hv
       have hv:=ypk (ypk (ypk hv))
       have ih:=yAW h r (i+1) en _ v (by omega) he1 (by rw [hc1];grind) hv
       rw [ih,low (by grind) (by grind),hb,hq]
       grind
   · rw [if_pos (.inr hlt),if_neg hlt] at hv
     have ih:=yAW h r (i+1) p sum v (by omega) hp (by rw [hc1];grind) hv
     have:minR (maxR b c0) c1=minR (maxR p c0) c1:=by grind
     rw [ih,this]
     grind
end
end Go.Pf.Vc
namespace Go.Pf.Vc
open Go Go.Pf
section
variable {len:Int} {cuts dens:List Int}
def vX (cuts dens:List Int) (x:Rat):Rat:=vu cuts dens x dens.length 0
theorem yKJ (h:VC len cuts dens) {a b v:Rat} (h0:0≤a) (hab:a≤b) (hv:valC cuts dens a b=.ok v):v=vX cuts dens b-vX cuts dens a:=by
 have c0:cuts.getD 0 0=0:=h.2.2.2.2.2.1
 have:=yAW h dens.length 0 a 0 v (by omega) hab (.inr (by rw [c0];exact h0)) hv
 unfold vX
 rw [this];grind
def Wi (len:Int) (l:List RS):Prop:=∀ s∈l,0≤s.1∧s.2≤(len:Rat)
theorem yOx (q r:Rat):decide (cmpQ q r>0)=decide (r<q):=by
 rw [← Bool.not_eq_not,← yOr,Bool.eq_iff_iff]
 simp only [decide_eq_true_eq]
 omega
end
end Go.Pf.Vc
namespace Go.Pf.Vc
open Go Go.Pf
def withB (len:Int) (l:List RS):Bool:=l.all fun s=>decide (PT len s.1.num s.1.den)&&decide (PT len s.2.num s.2.den)
theorem yNj {len:Int} {l:List RS} (h:withB len l=true):Wi len l:=fun s hs=>by
 have:=List.all_eq_true.1 h s hs
 simp only [Bool.and_eq_true,decide_eq_true_eq] at this
 obtain ⟨h1,h2⟩:=this
 have p1:=h1.pt
 have p2:=h2.pt
 rw [yf4] at p1 p2
 exact ⟨p1.2.2.2.1,p2.2.2.2.2⟩
end Go.Pf.Vc
namespace Go.Pf.Vc
open Go Go.Pf
theorem encQ0 (q:Qy):intOfV (cellAt (encQ q) 0)=q.agent:=rfl
theorem encQ1 (q:Qy):intOfV (cellAt (encQ q) 1)=q.kind:=rfl
theorem encQ2 (q:Qy):intOfV (cellAt (encQ q) 2)=q.an:=rfl
theorem encQ3 (q:Qy):intOfV (cellAt (encQ q) 3)=q.ad:=rfl
theorem encQ4 (q:Qy):intOfV (cellAt (encQ q) 4)=q.bn:=rfl
theorem encQ5 (q:Qy):intOfV (cellAt (encQ q) 5)=q.bd:=rfl
theorem encQ6 (q:Qy):intOfV (cellAt (encQ q) 6)=q.cn:=rfl
theorem encQ7 (q:Qy):intOfV (cellAt (encQ q) 7)=q.cd:=rfl
end Go.Pf.Vc
namespace Go.Pf.Vc
open Go Go.Pf Go.Sort
theorem yNk {α:Type} (f:α→Prop) (k:α):Go.Pf.jn f k=f k:=rfl
end Go.Pf.Vc
namespace Go.Pf.Vc
open Go Go.Pf Go.Sort
theorem smallF {x d:Int} (h0:0≤x) (h1:x≤1000000000000000000) (d0:1≤d) (d1:d≤1000000000000000000):small ((x:Rat) / (d:Rat)):=by
 have hd:(d:Rat)≠0:=by
   have:(0:Rat)<(d:Rat):=Rat.intCast_pos.2 (by omega)
   grind
 generalize hq:(x:Rat) / (d:Rat)=q
 have e1:(q.num:Rat)*(d:Rat)=(x:Rat)*(q.den:Rat):=by
   have h2:(q.den:Rat)≠0:=by
     have:(0:Rat)<(q.den:Rat):=Rat.natCast_pos.2 q.den_pos
     grind
   have h3:q=(q.num:Rat) / (q.den:Rat):=by rw [← Rat.mkRat_eq_div,Rat.mkRat_self]
   have h4:q*(q.den:Rat)=(q.num:Rat):=by
     have:(q.num:Rat) / (q.den:Rat)*(q.den:Rat)=(q.num:Rat):=Rat.div_mul_cancel h2
     rw [← h3] at this
     exact this
   have h5:q*(d:Rat)=(x:Rat):=by rw [← hq];exact Rat.div_mul_cancel hd
   grind
 have e2:q.num*d=x*(q.den:Int):=by
   rw [show (q.den:Rat)=(((q.den:Nat):Int):Rat) from (Rat.intCast_natCast _).symm,← Rat.intCast_mul,← Rat.intCast_mul] at e1
   exact Rat.intCast_inj.1 e1
 have hp:=q.den_pos
 have n0:0≤q.num:=by
   refine Int.not_lt.1 fun h=>?_
   have a1:q.num*d<0:=Int.mul_neg_of_neg_of_pos h (by omega)
   have a2:0≤x*(q.den:Int):=Int.mul_nonneg h0 (by omega)
   omega
 have hdv:q.den∣d.natAbs:=by
   have hc:Nat.Coprime q.den q.num.natAbs:=q.reduced.symm
   refine hc.dvd_of_dvd_mul_left (m:=q.num.natAbs) ?_
   have:(q.num*d).natAbs=(x*(q.den:Int)).natAbs:=by rw [e2]
   rw [Int.natAbs_mul,Int.natAbs_mul,Int.natAbs_natCast] at this
   rw [this]
   exact Nat.dvd_mul_left ..
 obtain ⟨t,ht⟩:=hdv
 have hd2:d=(q.den:Int)*(t:Int):=by
   rw [← Int.natCast_mul,← ht];omega
 have t1:1≤t:=by
   rcases Nat.eq_zero_or_pos t with h | h
   · rw [h] at hd2;omega
   · exact h
 have e3:q.num*(t:Int)=x:=by
   have:(q.num*(t:Int))*(q.den:Int)=x*(q.den:Int):=by rw [← e2,hd2,Int.mul_assoc,Int.mul_comm (t:Int)]
   exact Int.eq_of_mul_eq_mul_right (by omega) this
 have e4:q.num≤q.num*(t:Int):=by
   have:=Int.mul_le_mul_of_nonneg_left (show (1:Int)≤(t:Int) by omega) n0
   omega
 have e5:(q.den:Int)≤(q.den:Int)*(t:Int):=by
   have:=Int.mul_le_mul_of_nonneg_left (show (1:Int)≤(t:Int) by omega) (show (0:Int)≤(q.den:Int) by omega)
   omega
 exact ⟨by omega,by omega,by omega⟩
end Go.Pf.Vc
namespace Go.Pf.Vc
open Go Go.Pf
section
variable {len:Int} {cuts dens:List Int}
theorem yKK (h:VC len cuts dens) {i:Nat} (hi:i+1<cuts.length) {x y:Rat} (hxy:x≤y):uC cuts i x≤uC cuts i y:=by
 have hst:((cuts.getD i 0:Int):Rat)<((cuts.getD (i+1) 0:Int):Rat):=Rat.intCast_lt_intCast.2 (h.step (i:=i) hi)
 have m1:=yiQ x (cuts.getD i 0:Int)
 have m2:=yiQ y (cuts.getD i 0:Int)
 have n1:=ylL (maxR x (cuts.getD i 0:Int)) (cuts.getD (i+1) 0:Int)
 have n2:=ylL (maxR y (cuts.getD i 0:Int)) (cuts.getD (i+1) 0:Int)
 unfold uC
 grind
theorem yNl (h:VC len cuts dens) {i:Nat} (hi:i<dens.length):(0:Rat)≤((dens.getD i 0:Int):Rat):=Rat.intCast_nonneg.2 (h.den hi).1
theorem yGf (h:VC len cuts dens) {x y:Rat} (hxy:x≤y):∀ (r i:Nat),i+r=dens.length→vu cuts dens x r i≤vu cuts dens y r i
 | 0,_,_=>Rat.le_refl
 | r+1,i,hi=>by
   have l1:=h.l1
   have h1:=yKK h (i:=i) (by omega) hxy
   have h2:=yGf h hxy r (i+1) (by omega)
   have h3:=Rat.mul_le_mul_of_nonneg_left h1 (yNl h (i:=i) (by omega))
   unfold vu
   grind
theorem yyd (h:VC len cuts dens) {x y:Rat} (hxy:x≤y):vX cuts dens x≤vX cuts dens y:=yGf h hxy dens.length 0 (by omega)
theorem yAX (h:VC len cuts dens):∀ (r i:Nat) (p v q:Rat),i+r=dens.length→0<v→((cuts.getD i 0:Int):Rat)≤p→mrkS cuts dens r i p v=.ok q →
   vu cuts dens q r i-vu cuts dens p r i=v∧p<q∧q≤((cuts.getD dens.length 0:Int):Rat)∧∀ x,x<q→vu cuts dens x r i<vu cuts dens q r i
 | 0,_,_,_,_,_,_,_,e=>by cases e
 | r+1,i,p,v,q,hi,hv,hp,e=>by
   have l1:=h.l1
   have hst:((cuts.getD i 0:Int):Rat)<((cuts.getD (i+1) 0:Int):Rat):=Rat.intCast_lt_intCast.2 (h.step (i:=i) (by omega))
   have hd:=h.den (i:=i) (by omega)
   have hd0:=yNl h (i:=i) (by omega)
   have low:=fun {x y:Rat}=>yGe h r (i+1) (x:=x) (y:=y) (by omega)
   have hmon:=fun {x:Rat} (hx:x<q)=>yKK h (i:=i) (by omega) (Rat.le_of_lt hx)
   have hmon2:=fun {x:Rat} (hx:x<q)=>yGf h (Rat.le_of_lt hx) r (i+1) (by omega)
   have m1:=yiQ p (cuts.getD i 0:Int)
   have m2:=yiQ q (cuts.getD i 0:Int)
   have n1:=ylL (maxR p (cuts.getD i 0:Int)) (cuts.getD (i+1) 0:Int)
   have n2:=ylL (maxR q (cuts.getD i 0:Int)) (cuts.getD (i+1) 0:Int)
   unfold mrkS at e
   by_cases c1:p<((cuts.getD (i+1) 0:Int):Rat)
   case neg =>
     rw [if_pos c1] at e
     obtain ⟨a1,a2,a3,a4⟩:=yAX h r (i+1) p v q (by omega) hv (Rat.not_lt.1 c1) e
     have eq:uC cuts i q=uC cuts i p:=by unfold uC;grind
     refine ⟨by unfold vu;rw [eq];grind,a2,a3,fun x hx=>?_⟩
     have b1:=a4 x hx
     have b2:=Rat.mul_le_mul_of_nonneg_left (hmon hx) hd0
     unfold vu
     grind
   rw [if_neg (fun k=>k c1)] at e
   by_cases c2:dens.getD i 0=0
   · rw [if_pos c2] at e
     obtain ⟨a1,a2,a3,a4⟩:=yAX h r (i+1) _ v q (by omega) hv Rat.le_refl e
     have e2:=low (x:=p) (y:=((cuts.getD (i+1) 0:Int):Rat)) (Rat.le_of_lt c1) Rat.le_refl
     refine ⟨by unfold vu;rw [e2,c2];grind,by grind,a3,fun x hx=>?_⟩
     have b1:=a4 x hx
     have b2:=Rat.mul_le_mul_of_nonneg_left (hmon hx) hd0
     unfold vu
     grind
   rw [if_neg c2] at e
   have e:=ypk (ypk e)
   have dpos:(0:Rat)<((dens.getD i 0:Int):Rat):=Rat.intCast_pos.2 (by omega)
   have up:uC cuts i p=p:=by unfold uC;grind
   by_cases c3:(((cuts.getD (i+1) 0:Int):Rat)-p)*((dens.getD i 0:Int):Rat)<v
   · rw [if_pos c3] at e
     have e:=ypk e
     obtain ⟨a1,a2,a3,a4⟩:=yAX h r (i+1) _ _ q (by omega) (by grind) Rat.le_refl e
     have e2:=low (x:=p) (y:=((cuts.getD (i+1) 0:Int):Rat)) (Rat.le_of_lt c1) Rat.le_refl
     have uq:uC cuts i q=((cuts.getD (i+1) 0:Int):Rat):=by unfold uC;grind
     refine ⟨by unfold vu;rw [e2,up,uq];grind,by grind,a3,fun x hx=>?_⟩
     have b1:=a4 x hx
     have b2:=Rat.mul_le_mul_of_nonneg_left (hmon hx) hd0
     unfold vu
     grind
   · rw [if_neg c3] at e
     have e:=ypk (ypk e)
     cases e
     generalize hs:v / ((dens.getD i 0:Int):Rat)=s at *
     have es:s*((dens.getD i 0:Int):Rat)=v:=by rw [← hs];exact Rat.div_mul_cancel (by grind)
     have s0:0<s:=by
       refine Rat.not_le.1 fun k=>?_
       have:=Rat.mul_le_mul_of_nonneg_right k hd0
       grind
     have s1:p+s≤((cuts.getD (i+1) 0:Int):Rat):=by
       refine Rat.not_lt.1 fun k=>?_
       have:(((cuts.getD (i+1) 0:Int):Rat)-p)<s:=by grind
       have:=Rat.mul_lt_mul_of_pos_right this dpos
       grind
     have uq:uC cuts i (p+s)=p+s:=by unfold uC;grind
     have e2:=low (x:=p+s) (y:=p) s1 (Rat.le_of_lt c1)
     have hlast:cuts.getD (i+1) 0≤cuts.getD dens.length 0:=h.mono (by omega) (by omega)
     have hlast:((cuts.getD (i+1) 0:Int):Rat)≤((cuts.getD dens.length 0:Int):Rat):=Rat.intCast_le_intCast.2 hlast
     refine ⟨by unfold vu;rw [e2,up,uq];grind,by grind,by grind,fun x hx=>?_⟩
     have b1:=hmon2 hx
     have ux:uC cuts i x<p+s:=by
       have k1:=yiQ x (cuts.getD i 0:Int)
       have k2:=ylL (maxR x (cuts.getD i 0:Int)) (cuts.getD (i+1) 0:Int)
       unfold uC
       grind
     have b2:=Rat.mul_lt_mul_of_pos_left ux dpos
     unfold vu
     rw [uq]
     grind
theorem VC.last (h:VC len cuts dens):cuts.getD dens.length 0=len:=by
 have l1:=h.l1
 have:=h.2.2.2.2.2.2.1
 rw [show dens.length=cuts.length-1 by omega]
 exact this
theorem yOy (h:VC len cuts dens) {a v q:Rat} (h0:0≤a) (h1:a≤(len:Rat)) (hv:0≤v) (e:mrkC cuts dens a v=.ok q) :
   vX cuts dens q=vX cuts dens a+v∧a≤q∧q≤(len:Rat)∧(v=0→a=q)∧(v≠0→∀ x,x<q→vX cuts dens x<vX cuts dens q):=by
 unfold mrkC at e
 by_cases c:v=0
 · rw [if_pos c] at e
   cases e
   rw [c]
   exact ⟨by grind,Rat.le_refl,h1,fun _=>rfl,fun k=>absurd rfl k⟩
 · rw [if_neg c] at e
   have c0:cuts.getD 0 0=0:=h.2.2.2.2.2.1
   obtain ⟨a1,a2,a3,a4⟩:=yAX h dens.length 0 a v q (by omega) (by grind) (by rw [c0];exact h0) e
   rw [h.last] at a3
   exact ⟨by unfold vX;grind,Rat.le_of_lt a2,a3,fun k=>absurd k c,fun _=>a4⟩
end
end Go.Pf.Vc
namespace Go.Pf.Vc
open Go Go.Pf
def In (D:Int) (q:Rat):Prop:=∃ n:Int,q=(n:Rat) / (D:Rat)
theorem In.int {D:Int} (h:1≤D) (c:Int):In D (c:Rat):=⟨c*D,by rw [Rat.intCast_mul,Rat.mul_div_cancel (rne h)]⟩
theorem In.add {D:Int} {q r:Rat} (h:In D q) (k:In D r):In D (q+r):=by
 obtain ⟨n,rfl⟩:=h
 obtain ⟨m,rfl⟩:=k
 exact ⟨n+m,by rw [Rat.intCast_add];grind⟩
theorem In.sub {D:Int} {q r:Rat} (h:In D q) (k:In D r):In D (q-r):=by
 obtain ⟨n,rfl⟩:=h
 obtain ⟨m,rfl⟩:=k
 exact ⟨n-m,by rw [Rat.intCast_sub];grind⟩
theorem In.mulI {D:Int} {q:Rat} (h:In D q) (d:Int):In D (q*(d:Rat)):=by
 obtain ⟨n,rfl⟩:=h
 exact ⟨n*d,by rw [Rat.intCast_mul];grind⟩
theorem In.div {D d:Int} {q:Rat} (hD:1≤D) (hd:1≤d) (h:In D q):In (d*D) (q / (d:Rat)):=by
 obtain ⟨n,rfl⟩:=h
 have h1:=rne hD
 have h2:=rne hd
 refine ⟨n,?_⟩
 rw [Rat.intCast_mul]
 grind
theorem In.small {D M:Int} {q:Rat} (h:In D q) (hD:1≤D∧D≤1000000000000000000) (hM:M*D≤1000000000000000000) (h0:-(M:Rat)≤q) (h1:q≤(M:Rat)):small q:=by
 obtain ⟨n,rfl⟩:=h
 have hp:(0:Rat)<(D:Rat):=Rat.intCast_pos.2 (by omega)
 have e:(n:Rat) / (D:Rat)*(D:Rat)=(n:Rat):=Rat.div_mul_cancel (rne hD.1)
 have a:=Rat.mul_le_mul_of_nonneg_right h0 (Rat.le_of_lt hp)
 have b:=Rat.mul_le_mul_of_nonneg_right h1 (Rat.le_of_lt hp)
 rw [e] at a b
 have a':((-(M*D):Int):Rat)≤(n:Rat):=by rw [Rat.intCast_neg,Rat.intCast_mul];grind
 have b':(n:Rat)≤((M*D:Int):Rat):=by rw [Rat.intCast_mul];exact b
 have a2:=Rat.intCast_le_intCast.1 a'
 have b2:=Rat.intCast_le_intCast.1 b'
 exact ytQ (d:=D) ⟨by omega,by omega⟩ ⟨by omega,by omega⟩
section
variable {len:Int} {cuts dens:List Int}
theorem yGg (h:VC len cuts dens) {i j:Nat} (hij:i≤j) (hj:j≤dens.length):((cuts.getD i 0:Int):Rat)≤((cuts.getD j 0:Int):Rat):=Rat.intCast_le_intCast.2 (h.mono hij (by have:=h.l1;omega))
theorem uC_In {D:Int} (hD:1≤D) {x:Rat} (hx:In D x) (i:Nat):In D (uC cuts i x):=by
 have n1:=ylL (maxR x (cuts.getD i 0:Int)) (cuts.getD (i+1) 0:Int)
 have m1:=yiQ x (cuts.getD i 0:Int)
 unfold uC
 rcases n1.2.2 with e | e
 · rw [e]
   rcases m1.2.2 with e2 | e2
   · rw [e2];exact hx
   · rw [e2];exact In.int hD _
 · rw [e];exact In.int hD _
theorem vu_In {D:Int} (hD:1≤D) {x:Rat} (hx:In D x):∀ (r i:Nat),In D (vu cuts dens x r i)
 | 0,_=>In.int hD 0
 | r+1,i=>by
   unfold vu
   rw [Rat.mul_comm]
   exact ((uC_In hD hx i).mulI _).add (vu_In hD hx r (i+1))
theorem vX_In {D:Int} (hD:1≤D) {x:Rat} (hx:In D x):In D (vX cuts dens x):=vu_In hD hx _ _
theorem yNm (h:VC len cuts dens):∀ (r i:Nat),i+r=dens.length→vu cuts dens (len:Rat) r i-vu cuts dens ((cuts.getD i 0:Int):Rat) r i=((rem cuts dens r i:Int):Rat)
 | 0,_,_=>by unfold vu rem;show (0:Rat)-0=0;grind
 | r+1,i,hi=>by
   have ih:=yNm h r (i+1) (by omega)
   have hst:((cuts.getD i 0:Int):Rat)≤((cuts.getD (i+1) 0:Int):Rat):=yGg h (Nat.le_succ i) (by omega)
   have hl:((cuts.getD (i+1) 0:Int):Rat)≤(len:Rat):=by rw [← h.last];exact yGg h (by omega) (Nat.le_refl _)
   have low:=yGe h r (i+1) (x:=((cuts.getD i 0:Int):Rat)) (y:=((cuts.getD (i+1) 0:Int):Rat)) (by omega) hst Rat.le_refl
   have m1:=yiQ (len:Rat) (cuts.getD i 0:Int)
   have n1:=ylL (maxR (len:Rat) (cuts.getD i 0:Int)) (cuts.getD (i+1) 0:Int)
   have m2:=yiQ ((cuts.getD i 0:Int):Rat) (cuts.getD i 0:Int)
   have n2:=ylL (maxR ((cuts.getD i 0:Int):Rat) (cuts.getD i 0:Int)) (cuts.getD (i+1) 0:Int)
   have e1:uC cuts i (len:Rat)=((cuts.getD (i+1) 0:Int):Rat):=by unfold uC;grind
   have e2:uC cuts i ((cuts.getD i 0:Int):Rat)=((cuts.getD i 0:Int):Rat):=by unfold uC;grind
   unfold vu rem
   rw [e1,e2,low,Rat.intCast_add,Rat.intCast_mul,Rat.intCast_sub,← ih]
   grind
theorem yJN (h:VC len cuts dens):vX cuts dens (len:Rat)-vX cuts dens 0=((totC cuts dens:Int):Rat):=by
 have c0:cuts.getD 0 0=0:=h.2.2.2.2.2.1
 have:=yNm h dens.length 0 (by omega)
 rw [c0] at this
 unfold totC
 rw [yx7,show (0:Int)+rem cuts dens dens.length 0=rem cuts dens dens.length 0 by omega]
 exact this
end
end Go.Pf.Vc
namespace Go.Pf.Vc
open Go Go.Pf
section
variable {len:Int} {cuts dens:List Int}
theorem yKL (h:VC len cuts dens):(1:Rat)≤(len:Rat)∧(len:Rat)≤1000:=by
 have:=h.len0
 exact ⟨Rat.intCast_le_intCast.2 this.1,Rat.intCast_le_intCast.2 this.2⟩
theorem yOz (h:VC len cuts dens) {i:Nat} (hi:i<dens.length):(0:Rat)≤((dens.getD i 0:Int):Rat)∧((dens.getD i 0:Int):Rat)≤12:=by
 have:=h.den hi
 exact ⟨Rat.intCast_le_intCast.2 this.1,Rat.intCast_le_intCast.2 this.2⟩
theorem yOA {x d:Rat} (h0:0≤x) (hd:0≤d∧d≤12):0≤x*d∧x*d≤12*x:=by
 have a:=Rat.mul_nonneg h0 hd.1
 have b:=Rat.mul_le_mul_of_nonneg_left hd.2 h0
 exact ⟨a,by grind⟩
theorem yzo (h:VC len cuts dens) {D:Int} (hD:1≤D∧D≤50000000000000) {b:Rat} (hb:In D b) (b1:b≤(len:Rat)) :
   ∀ (r i:Nat) (p sum:Rat),i+r=dens.length→In D p→In D sum→0≤p→p≤(len:Rat)→0≤sum→sum≤12*p→∃ v,valS cuts dens b r i p sum=.ok v
 | 0,i,p,sum,_,_,_,_,_,_,_=>⟨sum,rfl⟩
 | r+1,i,p,sum,hi,hp,hs,p0,p1,s0,s1=>by
   have l1:=h.l1
   have hl:=yKL h
   have hd:=yOz h (i:=i) (by omega)
   have hc1:((cuts.getD (i+1) 0:Int):Rat)≤(len:Rat):=by rw [← h.last];exact yGg h (by omega) (Nat.le_refl _)
   unfold valS
   have hen:∃ en:Rat,(if b<((cuts.getD (i+1) 0:Int):Rat) then b else ((cuts.getD (i+1) 0:Int):Rat))=en∧In D en∧en≤(len:Rat):=by
     refine ⟨_,rfl,?_,?_⟩
     · split
       · exact hb
       · exact In.int hD.1 _
     · split <;> grind
   obtain ⟨en,e0,e1,e2⟩:=hen
   rw [e0]
   dsimp only
   split
   · refine yzo h hD hb b1 r (i+1) _ sum (by omega) ?_ hs ?_ ?_ s0 ?_
     · split
       · exact e1
       · exact hp
     · split <;> grind
     · split <;> grind
     · split <;> grind
   · rename_i hn
     have hlt:p<en:=by
       refine Classical.byContradiction fun k=>hn (.inr k)
     have m:=yOA (x:=en-p) (by grind) hd
     have i1:=e1.sub hp
     have i2:=i1.mulI (dens.getD i 0)
     have i3:=hs.add i2
     rw [yoK (i1.small (M:=1000) ⟨by omega,by omega⟩ (by omega) (by show -(1000:Rat)≤_;grind) (by show _≤(1000:Rat);grind)),
       yoK (i2.small (M:=12000) ⟨by omega,by omega⟩ (by omega) (by show -(12000:Rat)≤_;grind) (by show _≤(12000:Rat);grind)),
       yoK (i3.small (M:=12000) ⟨by omega,by omega⟩ (by omega) (by show -(12000:Rat)≤_;grind) (by show _≤(12000:Rat);grind))]
     exact yzo h hD hb b1 r (i+1) en _ (by omega) e1 i3 (by grind) e2 (by grind) (by grind)
theorem yLQ (h:VC len cuts dens) {D:Int} (hD:1≤D∧D≤50000000000000) {a b:Rat} (ha:In D a) (hb:In D b) (a0:0≤a) (hab:a≤b) (b1:b≤(len:Rat)):valC cuts dens a b=.ok (vX cuts dens b-vX cuts dens a):=by
 obtain ⟨v,e⟩:=yzo h hD hb b1 dens.length 0 a 0 (by omega) ha (In.int hD.1 0) a0 (by grind) (by grind) (by grind)
 have e:valC cuts dens a b=.ok v:=e
 rw [e,yKJ h a0 hab e]
end
end Go.Pf.Vc
namespace Go.Pf.Vc
open Go Go.Pf
set_option maxRecDepth 100000
def UL (E:Env) (callK:CK) (lp:LP) (b:TCode):Nat→Frm→Hp→(Ex→Frm→Hp→Prop)→Prop
 | 0,_,_,_=>False
 | n+1,F,H,Q=>WC E callK lp b F H fun x F' H'=>match x with | .norm=>UL E callK lp b n F' H' Q | .exit i=>Q (.exit i) F' H' | .ret=>Q .ret F' H'
theorem UL_ok {E:Env} {callK:CK} {lp:LP} {b:TCode} (hG:Good E callK) (hl:LpOk E lp b) {n:Nat} {F:Frm} {H:Hp} {Q:Ex→Frm→Hp→Prop} (h:UL E callK lp b n F H Q):LoopT E b F H Q :=
 LoopT.intro hG hl (fun n F H=>UL E callK lp b n F H Q) (fun _ _ h=>h) (fun _ _ _ h=>h) n F H h
section
variable (e:Es) (fa fb fe:PV→PV→Int)
def WG (c p:PV):Prop:=Ans (E e) ycB [c,p] (.tup [.agg [.int .i64 (fa c p),.int .i64 (fb c p)],.int .i64 (fe c p)])
def wpWr (as:List PV) (K:PV→Prop):Prop :=
 match as with
 | [c,p]=>WG e fa fb fe c p∧K (.tup [.agg [.int .i64 (fa c p),.int .i64 (fb c p)],.int .i64 (fe c p)])
 | _=>False
def wpCk (as:List PV) (K:PV→Prop):Prop:=Ans (E e) yeM as (.int .i64 0)∧K (.int .i64 0)
def sW0:SE:=⟨E e,lookS [(yeM,wpCk e),(ycB,wpWr e fa fb fe)],lookI [],fun _ _ _ _=>False⟩
def lpW1:LP:=fun id F H Q=>bif Nat.beq id 14283600 then UL (E e) (callW (sW0 e fa fb fe) 1) (fun _ _ _ _=>False) ykK 8 F H Q else False
def lpW:LP:=fun id F H Q=>bif Nat.beq id 14283600 then UL (E e) (callW (sW0 e fa fb fe) 1) (fun _ _ _ _=>False) ykK 8 F H Q else
 bif Nat.beq id 14283601 then UL (E e) (callW (sW0 e fa fb fe) 1) (lpW1 e fa fb fe) yqy 8 F H Q else False
def seqW (K:Option PV→Prop):List (PV×PV)→Prop→Prop
 | [],fin=>fin
 | q::r,fin=>WG e fa fb fe q.1 q.2∧cbr (fe q.1 q.2 != 0) (K (some (.tup [.data [],.int .i64 (fe q.1 q.2)]))) (seqW K r fin)
def prs (cs:List Ck) (ps:List (List PV)):List (PV×PV):=cs.flatMap fun c=>ps.map fun p=>(encC c,.data p)
def wtab (cs:List Ck) (ps:List (List PV)):List PV:=cs.map fun c=>.data (ps.map fun p=>.agg [.int .i64 (fa (encC c) (.data p)),.int .i64 (fb (encC c) (.data p))])
def pcsD (ps:List (List PV)):List PV:=ps.map fun p=>.data p
def wRun (cs:List Ck) (ps:List (List PV)) (K:Option PV→Prop):Prop :=
 WFn (E e) (callW (sW0 e fa fb fe) 1) (lpW e fa fb fe) yuK [.data (cks cs),.agg [.data (pcsD ps)]] [] fun r H=>K (purN true H r)
def wAns (cs:List Ck) (ps:List (List PV)) (K:Option PV→Prop):Prop :=
 Ans (E e) yeM [.data (cks cs),.agg [.data (pcsD ps)]] (.int .i64 0)∧seqW e fa fb fe K (prs cs ps) (K (some (.tup [.data (wtab fa fb cs ps),.int .i64 0])))
theorem wRun1 (c0:Ck) (p0:List PV) (K:Option PV→Prop):wRun e fa fb fe [c0] [p0] K=wAns e fa fb fe [c0] [p0] K:=by kernel_rfl
theorem wRun2 (c0 c1:Ck) (p0 p1:List PV) (K:Option PV→Prop):wRun e fa fb fe [c0,c1] [p0,p1] K=wAns e fa fb fe [c0,c1] [p0,p1] K:=by kernel_rfl
theorem wRun3 (c0 c1 c2:Ck) (p0 p1 p2:List PV) (K:Option PV→Prop):wRun e fa fb fe [c0,c1,c2] [p0,p1,p2] K=wAns e fa fb fe [c0,c1,c2] [p0,p1,p2] K:=by kernel_rfl
theorem wRun4 (c0 c1 c2 c3:Ck) (p0 p1 p2 p3:List PV) (K:Option PV→Prop):wRun e fa fb fe [c0,c1,c2,c3] [p0,p1,p2,p3] K=wAns e fa fb fe [c0,c1,c2,c3] [p0,p1,p2,p3] K:=by kernel_rfl
theorem wRun5 (c0 c1 c2 c3 c4:Ck) (p0 p1 p2 p3 p4:List PV) (K:Option PV→Prop):wRun e fa fb fe [c0,c1,c2,c3,c4] [p0,p1,p2,p3,p4] K=wAns e fa fb fe [c0,c1,c2,c3,c4] [p0,p1,p2,p3,p4] K:=by kernel_rfl
theorem wRun6 (c0 c1 c2 c3 c4 c5:Ck) (p0 p1 p2 p3 p4 p5:List PV) (K:Option PV→Prop):wRun e fa fb fe [c0,c1,c2,c3,c4,c5] [p0,p1,p2,p3,p4,p5] K=wAns e fa fb fe [c0,c1,c2,c3,c4,c5] [p0,p1,p2,p3,p4,p5] K:=by kernel_rfl
theorem sW_ok (he:EG e):SEOk (sW0 e fa fb fe) :=
 yao ⟨fun _ _ h=>⟨_,h.2,h.1⟩,fun as K h=>by
   unfold wpWr at h
   split at h
   · exact ⟨_,h.2,h.1⟩
   · exact h.elim,trivial⟩ trivial he.ok
theorem yPw (he:EG e):LpOk (E e) (lpW e fa fb fe) yuK.body:=by
 have hG:=yaF (sW_ok e fa fb fe he) 1
 have h0:LpOk (E e) (fun _ _ _ _=>False) ykK:=yag (by kernel_rfl)
 have h1:LpOk (E e) (lpW1 e fa fb fe) yqy:=ybe (l:=[(14283600,ykK)]) ⟨fun F H Q h=>UL_ok hG h0 h,trivial⟩ (by kernel_rfl)
 exact ybe (l:=[(14283600,ykK),(14283601,yqy)]) ⟨fun F H Q h=>UL_ok hG h0 h,fun F H Q h=>UL_ok hG h1 h,trivial⟩ (by kernel_rfl)
theorem yLR (he:EG e) {cs:List Ck} {ps:List (List PV)} {K:PV→Prop} (h:wRun e fa fb fe cs ps fun o=>∃ q,o=some q∧K q):∃ q,K q∧Ans (E e) ybh [.data (cks cs),.agg [.data (pcsD ps)]] q:=by
 have hf:(E e).fns ybh=some yuK.fn:=by kernel_rfl
 have hx:∀ as H,(E e).eff ybh as H=none:=he.num _ (by kernel_rfl)
 obtain ⟨r,H',⟨q,hp,hk⟩,m0,hm⟩:=yIZ (S:=⟨E e,fun _=>none,fun _=>none,lpW e fa fb fe⟩) (callK:=callW (sW0 e fa fb fe) 1) (yaF (sW_ok e fa fb fe he) 1) (fn:=yuK) (yPw e fa fb fe he) (n:=ybh) hf hx h
 refine ⟨q,hk,m0,fun m hle=>?_⟩
 have hs:(E e).sum ybh [.data (cks cs),.agg [.data (pcsD ps)]]=none:=yaa (by kernel_rfl) _
 have hq:(E e).qui ybh=true:=by kernel_rfl
 have hn:(E e).nl ybh=true:=by kernel_rfl
 have hm':inline (E e) m ybh [.data (cks cs),.agg [.data (pcsD ps)]] []=some (r,H'):=hm m hle
 unfold pureRes
 rw [hs,hq,hm',hn]
 exact hp
end
theorem yaM {α:Type} {l:List α} {n:Nat} (h:l.length=n+1):∃ a r,l=a::r∧r.length=n:=by
 cases l with
 | nil=>cases h
 | cons a r=>exact ⟨a,r,rfl,by simpa using h⟩
theorem yNn (e:Es) (fa fb fe:PV→PV→Int) {cs:List Ck} {ps:List (List PV)} (hl:ps.length=cs.length) (h1:1≤cs.length) (h6:cs.length≤6) (K:Option PV→Prop):wRun e fa fb fe cs ps K=wAns e fa fb fe cs ps K:=by
 obtain ⟨n,hn⟩:∃ n,cs.length=n:=⟨_,rfl⟩
 rw [hn] at hl h1 h6
 obtain rfl | rfl | rfl | rfl | rfl | rfl:n=1∨n=2∨n=3∨n=4∨n=5∨n=6:=by omega
 · obtain ⟨c0,cr0,hc0,hn0⟩:=yaM hn
   subst hc0
   have hzc:=List.eq_nil_of_length_eq_zero hn0
   subst hzc
   obtain ⟨p0,pr0,hp0,hl0⟩:=yaM hl
   subst hp0
   have hzp:=List.eq_nil_of_length_eq_zero hl0
   subst hzp
   exact wRun1 e fa fb fe c0 p0 K
 · obtain ⟨c0,cr0,hc0,hn0⟩:=yaM hn
   subst hc0
   obtain ⟨c1,cr1,hc1,hn1⟩:=yaM hn0
   subst hc1
   have hzc:=List.eq_nil_of_length_eq_zero hn1
   subst hzc
   obtain ⟨p0,pr0,hp0,hl0⟩:=yaM hl
   subst hp0
   obtain ⟨p1,pr1,hp1,hl1⟩:=yaM hl0
   subst hp1
   have hzp:=List.eq_nil_of_length_eq_zero hl1
   subst hzp
   exact wRun2 e fa fb fe c0 c1 p0 p1 K
 · obtain ⟨c0,cr0,hc0,hn0⟩:=yaM hn
   subst hc0
   obtain ⟨c1,cr1,hc1,hn1⟩:=yaM hn0
   subst hc1
   obtain ⟨c2,cr2,hc2,hn2⟩:=yaM hn1
   subst hc2
   have hzc:=List.eq_nil_of_length_eq_zero hn2
   subst hzc
   obtain ⟨p0,pr0,hp0,hl0⟩:=yaM hl
   subst hp0
   obtain ⟨p1,pr1,hp1,hl1⟩:=yaM hl0
   subst hp1
   obtain ⟨p2,pr2,hp2,hl2⟩:=yaM hl1
   subst hp2
   have hzp:=List.eq_nil_of_length_eq_zero hl2
   subst hzp
   exact wRun3 e fa fb fe c0 c1 c2 p0 p1 p2 K
 · obtain ⟨c0,cr0,hc0,hn0⟩:=yaM hn
   subst hc0
   obtain ⟨c1,cr1,hc1,hn1⟩:=yaM hn0
   subst hc1
   obtain ⟨c2,cr2,hc2,hn2⟩:=yaM hn1
   subst hc2
   obtain ⟨c3,cr3,hc3,hn3⟩:=yaM hn2
   subst hc3
   have hzc:=List.eq_nil_of_length_eq_zero hn3
   subst hzc
   obtain ⟨p0,pr0,hp0,hl0⟩:=yaM hl
   subst hp0
   obtain ⟨p1,pr1,hp1,hl1⟩:=yaM hl0
   subst hp1
   obtain ⟨p2,pr2,hp2,hl2⟩:=yaM hl1
   subst hp2
   obtain ⟨p3,pr3,hp3,hl3⟩:=yaM hl2
   subst hp3
   have hzp:=List.eq_nil_of_length_eq_zero hl3
   subst hzp
   exact wRun4 e fa fb fe c0 c1 c2 c3 p0 p1 p2 p3 K
 · obtain ⟨c0,cr0,hc0,hn0⟩:=yaM hn
   subst hc0
   obtain ⟨c1,cr1,hc1,hn1⟩:=yaM hn0
   subst hc1
   obtain ⟨c2,cr2,hc2,hn2⟩:=yaM hn1
   subst hc2
   obtain ⟨c3,cr3,hc3,hn3⟩:=yaM hn2
   subst hc3
   obtain ⟨c4,cr4,hc4,hn4⟩:=yaM hn3
   subst hc4
   have hzc:=List.eq_nil_of_length_eq_zero hn4
   subst hzc
   obtain ⟨p0,pr0,hp0,hl0⟩:=yaM hl
   subst hp0
   obtain ⟨p1,pr1,hp1,hl1⟩:=yaM hl0
   subst hp1
   obtain ⟨p2,pr2,hp2,hl2⟩:=yaM hl1
   subst hp2
   obtain ⟨p3,pr3,hp3,hl3⟩:=yaM hl2
   subst hp3
   obtain ⟨p4,pr4,hp4,hl4⟩:=yaM hl3
   subst hp4
   have hzp:=List.eq_nil_of_length_eq_zero hl4
   subst hzp
   exact wRun5 e fa fb fe c0 c1 c2 c3 c4 p0 p1 p2 p3 p4 K
 · obtain ⟨c0,cr0,hc0,hn0⟩:=yaM hn
   subst hc0
   obtain ⟨c1,cr1,hc1,hn1⟩:=yaM hn0
   subst hc1
   obtain ⟨c2,cr2,hc2,hn2⟩:=yaM hn1
   subst hc2
   obtain ⟨c3,cr3,hc3,hn3⟩:=yaM hn2
   subst hc3
   obtain ⟨c4,cr4,hc4,hn4⟩:=yaM hn3
   subst hc4
   obtain ⟨c5,cr5,hc5,hn5⟩:=yaM hn4
   subst hc5
   have hzc:=List.eq_nil_of_length_eq_zero hn5
   subst hzc
   obtain ⟨p0,pr0,hp0,hl0⟩:=yaM hl
   subst hp0
   obtain ⟨p1,pr1,hp1,hl1⟩:=yaM hl0
   subst hp1
   obtain ⟨p2,pr2,hp2,hl2⟩:=yaM hl1
   subst hp2
   obtain ⟨p3,pr3,hp3,hl3⟩:=yaM hl2
   subst hp3
   obtain ⟨p4,pr4,hp4,hl4⟩:=yaM hl3
   subst hp4
   obtain ⟨p5,pr5,hp5,hl5⟩:=yaM hl4
   subst hp5
   have hzp:=List.eq_nil_of_length_eq_zero hl5
   subst hzp
   exact wRun6 e fa fb fe c0 c1 c2 c3 c4 c5 p0 p1 p2 p3 p4 p5 K
def wPV (t:Int×Int×Int):PV:=.tup [.agg [.int .i64 t.1,.int .i64 t.2.1],.int .i64 t.2.2]
open Classical in
noncomputable def wOf (e:Es) (c p:PV):Int×Int×Int:=if h:∃ t,Ans (E e) ycB [c,p] (wPV t) then Classical.choose h else (0,0,0)
theorem yGh {e:Es} {c p:PV} {t:Int×Int×Int} (h:Ans (E e) ycB [c,p] (wPV t)):wOf e c p=t:=by
 have hx:∃ t,Ans (E e) ycB [c,p] (wPV t):=⟨t,h⟩
 unfold wOf
 rw [dif_pos hx]
 have h2:=Ans.unique (Classical.choose_spec hx) h
 generalize Classical.choose hx=u at h2
 obtain ⟨a,b,c⟩:=u
 obtain ⟨a',b',c'⟩:=t
 unfold wPV at h2
 cases h2
 rfl
theorem wG_of {e:Es} {c p:PV} {t:Int×Int×Int} (h:Ans (E e) ycB [c,p] (wPV t)):WG e (fun c p=>(wOf e c p).1) (fun c p=>(wOf e c p).2.1) (fun c p=>(wOf e c p).2.2) c p:=by
 unfold WG
 have:=yGh h
 dsimp only
 rw [this]
 exact h
theorem yKM {e:Es} {fa fb fe:PV→PV→Int} {K:Option PV→Prop} {fin:Prop}:∀ {l:List (PV×PV)},(∀ q∈l,WG e fa fb fe q.1 q.2)→((∀ q∈l,fe q.1 q.2=0)→fin)→(∀ q∈l,fe q.1 q.2≠0→K (some (.tup [.data [],.int .i64 (fe q.1 q.2)])))→seqW e fa fb fe K l fin
 | [],_,h,_=>h fun q hq=>by cases hq
 | q::r,hg,h,hk=>by
   refine ⟨hg q List.mem_cons_self,?_⟩
   by_cases h0:fe q.1 q.2=0
   · rw [h0]
     refine yKM (fun x hx=>hg x (List.mem_cons_of_mem _ hx)) (fun hr=>h fun x hx=>?_) fun x hx=>hk x (List.mem_cons_of_mem _ hx)
     rcases List.mem_cons.1 hx with rfl | hx
     · exact h0
     · exact hr x hx
   · have e1:(fe q.1 q.2 != 0)=true:=by simpa using h0
     rw [e1]
     exact hk q List.mem_cons_self h0
theorem yPx {e:Es} (he:EG e) {c:Ck} {p:List PV} {t:Int×Int×Int} (h:∀ K:Int→Int→Int→Prop,ycZ c.len (ints c.cuts) (ints c.dens) p K=K t.1 t.2.1 t.2.2):Ans (E e) ycB [encC c,.data p] (wPV t):=by
 have hw:yjZ [encC c,.data p] (fun q=>q=wPV t):=by
   unfold yjZ yol encC
   dsimp only
   rw [h]
   rfl
 obtain ⟨q,hq,ha⟩:=ysM e he [encC c,.data p] (fun q=>q=wPV t) hw
 rw [hq] at ha
 exact ha
theorem yNo {cs:List Ck} {ps:List (List PV)} (hl:ps.length=cs.length) (h1:1≤cs.length) (h6:cs.length≤6) (hc:∀ K,yfL (cks cs) (pcsD ps) K=K 0) {F:Ck→List PV→Int×Int×Int}
   (hW:∀ c∈cs,∀ p∈ps,∀ K,ycZ c.len (ints c.cuts) (ints c.dens) p K=K (F c p).1 (F c p).2.1 (F c p).2.2) {r0:List PV} {r1:Int}
   (h0:(∀ c∈cs,∀ p∈ps,(F c p).2.2=0)→r0=cs.map (fun c=>.data (ps.map fun p=>.agg [.int .i64 (F c p).1,.int .i64 (F c p).2.1]))∧r1=0)
   (hx:∀ c∈cs,∀ p∈ps,(F c p).2.2≠0→r0=[]∧r1=(F c p).2.2) (K:List PV→Int→Prop):yat (cks cs) (pcsD ps) K=K r0 r1:=by
 refine yAD _ _ _ _ (fun K k=>?_) K
 refine ⟨r0,r1,k,fun e he=>?_⟩
 have hA:∀ c∈cs,∀ p∈ps,Ans (E e) ycB [encC c,.data p] (wPV (F c p)):=fun c hc p hp=>yPx he (hW c hc p hp)
 have hq:∀ q∈prs cs ps,∃ c∈cs,∃ p∈ps,q=(encC c,PV.data p):=fun q hq=>by
   unfold prs at hq
   obtain ⟨c,hc,hq⟩:=List.mem_flatMap.1 hq
   obtain ⟨p,hp,rfl⟩:=List.mem_map.1 hq
   exact ⟨c,hc,p,hp,rfl⟩
 have hck:Ans (E e) yeM [.data (cks cs),.agg [.data (pcsD ps)]] (.int .i64 0):=by
   have hw:yj9 [.data (cks cs),.agg [.data (pcsD ps)]] (fun q=>q=.int .i64 0):=by
     unfold yj9 yoy
     dsimp only
     rw [hc]
   obtain ⟨q,hq,ha⟩:=yta e he [.data (cks cs),.agg [.data (pcsD ps)]] (fun q=>q=.int .i64 0) hw
   rw [hq] at ha
   exact ha
 have hrun:wRun e (fun c p=>(wOf e c p).1) (fun c p=>(wOf e c p).2.1) (fun c p=>(wOf e c p).2.2) cs ps fun o=>∃ q,o=some q∧q=.tup [.data r0,.int .i64 r1]:=by
   rw [yNn _ _ _ _ hl h1 h6]
   refine ⟨hck,yKM (fun q hq'=>?_) (fun hz=>?_) fun q hq' hn=>?_⟩
   · obtain ⟨c,hc,p,hp,rfl⟩:=hq q hq'
     exact wG_of (hA c hc p hp)
   · have hz':∀ c∈cs,∀ p∈ps,(F c p).2.2=0:=fun c hc p hp=>by
       have:=hz (encC c,.data p) (List.mem_flatMap.2 ⟨c,hc,List.mem_map.2 ⟨p,hp,rfl⟩⟩)
       dsimp only at this
       rw [yGh (hA c hc p hp)] at this
       exact this
     obtain ⟨e1,e2⟩:=h0 hz'
     refine ⟨_,rfl,?_⟩
     rw [e1,e2]
     unfold wtab
     congr 3
     refine List.map_congr_left fun c hc=>?_
     congr 1
     refine List.map_congr_left fun p hp=>?_
     dsimp only
     rw [yGh (hA c hc p hp)]
   · obtain ⟨c,hc,p,hp,rfl⟩:=hq q hq'
     dsimp only at hn ⊢
     rw [yGh (hA c hc p hp)] at hn ⊢
     obtain ⟨e1,e2⟩:=hx c hc p hp hn
     exact ⟨_,rfl,by rw [e1,e2]⟩
 obtain ⟨q,hq',ha⟩:=yLR e _ _ _ he hrun
 rw [hq'] at ha
 exact ha
end Go.Pf.Vc
namespace Go.Pf.Vc
def touchB (a b:List RS):Bool:=a.any fun s=>b.any fun t=>decide (s.1<t.2)&&decide (t.1<s.2)
theorem yCH {a b:List RS} (ha:∀ s∈a,s.1<s.2) (hb:∀ s∈b,s.1<s.2):touchB a b=true↔∃ p,memP a p∧memP b p:=by
 unfold touchB
 simp only [List.any_eq_true,Bool.and_eq_true,decide_eq_true_eq]
 constructor
 · rintro ⟨s,hs,t,ht,h1,h2⟩
   have k1:=ha s hs
   have k2:=hb t ht
   by_cases h:s.1<t.1
   · exact ⟨t.1,⟨s,hs,by grind,h2⟩,⟨t,ht,Rat.le_refl,k2⟩⟩
   · exact ⟨s.1,⟨s,hs,Rat.le_refl,k1⟩,⟨t,ht,by grind,h1⟩⟩
 · rintro ⟨p,⟨s,hs,h1,h2⟩,⟨t,ht,h3,h4⟩⟩
   exact ⟨s,hs,t,ht,by grind,by grind⟩
def gapS (len:Rat):List RS→Rat→Bool
 | [],at_=>decide (at_<len)
 | s::r,at_=>if at_<s.1 then true else gapS len r (if at_<s.2 then s.2 else at_)
theorem yH0 {len:Rat}:∀ (l:List RS) (at_:Rat),byFrom l→(∀ s∈l,s.1<s.2)→(∀ s∈l,s.2≤len)→(gapS len l at_=true↔∃ p,at_≤p∧p<len∧¬memP l p)
 | [],at_,_,_,_=>by
   unfold gapS
   rw [decide_eq_true_eq]
   exact ⟨fun h=>⟨at_,Rat.le_refl,h,ykp⟩,fun ⟨p,h1,h2,_⟩=>by grind⟩
 | s::r,at_,hs,hv,hl=>by
   unfold gapS
   have s1:=hv s List.mem_cons_self
   have s2:=hl s List.mem_cons_self
   by_cases h:at_<s.1
   · rw [if_pos h]
     refine ⟨fun _=>⟨at_,Rat.le_refl,by grind,fun hm=>?_⟩,fun _=>rfl⟩
     rcases yd6.1 hm with hm | ⟨t,ht,hm,_⟩
     · have:=hm.1;grind
     · have:=hs.1 t ht;grind
   · rw [if_neg h,yH0 r _ hs.2 (fun t ht=>hv t (List.mem_cons_of_mem _ ht)) (fun t ht=>hl t (List.mem_cons_of_mem _ ht))]
     constructor
     · rintro ⟨p,h1,h2,h3⟩
       have h1':at_≤p∧s.2≤p:=by split at h1 <;> exact ⟨by grind,by grind⟩
       refine ⟨p,h1'.1,h2,fun hm=>?_⟩
       rcases yd6.1 hm with hm | hm
       · have:=hm.2;grind
       · exact h3 hm
     · rintro ⟨p,h1,h2,h3⟩
       refine ⟨p,?_,h2,fun hm=>h3 (yd6.2 (.inr hm))⟩
       have hn:¬inS s p:=fun hm=>h3 (yd6.2 (.inl hm))
       have:s.2≤p:=Rat.not_lt.1 fun hlt=>hn ⟨by grind,hlt⟩
       split <;> assumption
def unR:List (List RS)→List RS
 | []=>[]
 | a::r=>setR a (unR r) 0
theorem yJO:∀ (l:List (List RS)),(∀ a∈l,canon a)→canon (unR l)∧∀ p,memP (unR l) p↔∃ a∈l,memP a p
 | [],_=>⟨trivial,fun p=>⟨fun h=>(ykp h).elim,fun ⟨a,h,_⟩=>by cases h⟩⟩
 | a::r,h=>by
   obtain ⟨h1,h2⟩:=yJO r fun x hx=>h x (List.mem_cons_of_mem _ hx)
   refine ⟨(yya (c:=Or) (fun x=>yCF) (by simp)).1,fun p=>?_⟩
   show memP (setR a (unR r) 0) p↔_
   rw [yLP,h2]
   constructor
   · rintro (h | ⟨b,hb,h⟩)
     · exact ⟨a,List.mem_cons_self,h⟩
     · exact ⟨b,List.mem_cons_of_mem _ hb,h⟩
   · rintro ⟨b,hb,hm⟩
     rcases List.mem_cons.1 hb with e | hb
     · subst e;exact .inl hm
     · exact .inr ⟨b,hb,hm⟩
def apartL:List (List RS)→Prop
 | []=>True
 | a::r=>(∀ b∈r,∀ p,memP a p→¬memP b p)∧apartL r
def sumL (V:Rat→Rat):List (List RS)→Rat
 | []=>0
 | a::r=>sumV (dV V) a+sumL V r
theorem yKN (V:Rat→Rat):∀ (l:List (List RS)),(∀ a∈l,canon a)→apartL l→sumV (dV V) (unR l)=sumL V l
 | [],_,_=>rfl
 | a::r,h,ha=>by
   have hr:∀ x∈r,canon x:=fun x hx=>h x (List.mem_cons_of_mem _ hx)
   obtain ⟨h1,h2⟩:=yJO r hr
   have hs:=yNi V (h a List.mem_cons_self) h1
   have hm:setR a (unR r) 1=[]:=by
     refine ynl _ _ (yya (c:=And) (fun x=>yEL) (by simp)).1 trivial fun p=>⟨fun hp=>?_,fun hp=>(ykp hp).elim⟩
     obtain ⟨p1,p2⟩:=yNg.1 hp
     obtain ⟨b,hb,p3⟩:=(h2 p).1 p2
     exact absurd p3 (ha.1 b hb p p1)
   rw [hm] at hs
   have h0:sumV (dV V) []=0:=rfl
   have ih:=yKN V r hr ha.2
   show sumV (dV V) (setR a (unR r) 0)=sumV (dV V) a+sumL V r
   rw [h0] at hs
   rw [← ih]
   grind
theorem yLS (V:Rat→Rat) {len:Rat} (hlen:0<len) {l:List (List RS)} (hc:∀ a∈l,canon a) (hw:∀ a∈l,∀ s∈a,0≤s.1∧s.2≤len) (ha:apartL l) (hg:∀ p,0≤p→p<len→∃ a∈l,memP a p):sumL V l=V len-V 0:=by
 obtain ⟨h1,h2⟩:=yJO l hc
 have hu:unR l=[(0,len)]:=by
   refine ynl _ _ h1 ⟨hlen,(fun t ht=>by cases ht),trivial⟩ fun p=>?_
   rw [h2]
   constructor
   · rintro ⟨a,hb,s,hs,q1,q2⟩
     have:=hw a hb s hs
     exact ⟨(0,len),List.mem_cons_self,by show (0:Rat)≤p;grind,by show p<len;grind⟩
   · rintro ⟨s,hs,q⟩
     rcases List.mem_cons.1 hs with rfl | hs
     · exact hg p q.1 q.2
     · cases hs
 rw [← yKN V l hc ha,hu]
 show (V len-V 0)+0=_
 grind
theorem yH1 (V:Rat→Rat):∀ (l:List (List RS)),sumL V l=(l.map fun a=>sumV (dV V) a).sum
 | []=>rfl
 | a::r=>by
   rw [List.map_cons,List.sum_cons,← yH1 V r]
   rfl
end Go.Pf.Vc
namespace Go.Pf.Vc
open Go Go.Pf
theorem ymg {q r:Rat} (hq:small q) (hr:small r) (K:Bool→Prop):yae q.num q.den r.num r.den K=K (decide (q<r)):=by
 unfold yae ypK
 rw [yx3 hq hr,yHW]
theorem ynu (n:Int) (K:Int→Int→Prop):yak n K=K (n:Rat).num (n:Rat).den:=rfl
def meets (s t:RS):Bool:=decide (s.1<t.2)&&decide (t.1<s.2)
theorem yH2 {s:RS} (h:smallS s) {B:List RS} (hs:∀ t∈B,smallS t) (hl:B.length<4611686018427387904) {x0:Int→Int→Int→Int→List PV→Int→Int→Bool→Prop} {x1:Int→Int→Int→Int→Int→Prop} {K:Bool→Prop}
   (hx0:∀ a b c d l i k q,x0 a b c d l i k q=K false) (hx1:∀ a b c d i,0≤i→x1 a b c d i=K true) :
   ∀ (r i n:Nat),i+r=B.length→r<n→ycn yae x0 x1 n s.1.num s.1.den s.2.num s.2.den (rsp B) (B.length:Int) (i:Int)=K ((B.drop i).any (meets s)):=by
 intro r
 induction r with
 | zero =>
   intro i n hi hn
   obtain ⟨n,rfl⟩:∃ m,n=m+1:=⟨n-1,by omega⟩
   obtain rfl:i=B.length:=by omega
   rw [ycn,cbF (by omega),List.drop_length,hx0]
   rfl
 | succ r ih =>
   intro i n hi hn
   obtain ⟨n,rfl⟩:∃ m,n=m+1:=⟨n-1,by omega⟩
   have hil:i<B.length:=by omega
   have e1:=wib (n:=(i:Int)+1) (by omega) (by omega)
   have hd:B.drop i=B.getD i default::B.drop (i+1):=ycV default hil
   have hx:=ywn hs hil
   rw [ycn,cbT (by omega)]
   dsimp only [lt,Go.Pf.jn]
   rw [ydC,asT (by omega),asT (by omega),Int.toNat_natCast,ytv hil,asR,encR0,encR1,encR2,encR3,ymg h.1 hx.2,e1,cast1,hd,List.any_cons]
   unfold meets
   cases decide (s.1<(B.getD i default).2) with
   | false =>
     rw [yab,yab,Bool.false_and,Bool.false_or]
     exact ih (i+1) n (by omega) (by omega)
   | true =>
     rw [yah,Bool.true_and,ymg hx.1 h.2]
     cases decide ((B.getD i default).1<s.2) with
     | false =>
       rw [yab,Bool.false_or]
       exact ih (i+1) n (by omega) (by omega)
     | true =>
       rw [yah,hx1 _ _ _ _ _ (by omega)]
       rfl
theorem yLT {s:RS} (h:smallS s) {B:List RS} (hs:∀ t∈B,smallS t) (hl:B.length<4611686018427387904) (K:Bool→Prop):ybS s.1.num s.1.den s.2.num s.2.den (rsp B) K=K (B.any (meets s)):=by
 refine yxO _ _ _ _ _ _ (fun K k=>?_) K
 unfold ybS yla
 dsimp only [Go.Pf.jn]
 refine ⟨B.length+1,?_⟩
 rw [ydC]
 exact (yH2 h hs hl (K:=K) (fun _ _ _ _ _ _ _ _=>rfl) (fun _ _ _ _ i hi=>by rw [decide_eq_true hi]) B.length 0 (B.length+1) (by omega) (by omega)).mpr (by rw [List.drop_zero];exact k)
theorem yJP {A B:List RS} (ha:∀ s∈A,smallS s) (hb:∀ t∈B,smallS t) (hla:A.length<4611686018427387904) (hlb:B.length<4611686018427387904) {x0:List PV→List PV→Int→Int→Bool→Prop} {x1:List PV→Int→Prop} {K:Bool→Prop}
   (hx0:∀ l m i k q,x0 l m i k q=K false) (hx1:∀ l i,0≤i→x1 l i=K true) :
   ∀ (r i n:Nat),i+r=A.length→r<n→ycS ybS x0 x1 n (rsp B) (rsp A) (A.length:Int) (i:Int)=K (touchB (A.drop i) B):=by
 intro r
 induction r with
 | zero =>
   intro i n hi hn
   obtain ⟨n,rfl⟩:∃ m,n=m+1:=⟨n-1,by omega⟩
   obtain rfl:i=A.length:=by omega
   rw [ycS,cbF (by omega),List.drop_length,hx0]
   rfl
 | succ r ih =>
   intro i n hi hn
   obtain ⟨n,rfl⟩:∃ m,n=m+1:=⟨n-1,by omega⟩
   have hil:i<A.length:=by omega
   have e1:=wib (n:=(i:Int)+1) (by omega) (by omega)
   have hd:A.drop i=A.getD i default::A.drop (i+1):=ycV default hil
   have hx:=ywn ha hil
   rw [ycS,cbT (by omega)]
   dsimp only [lt,Go.Pf.jn]
   rw [ydC,asT (by omega),asT (by omega),Int.toNat_natCast,ytv hil,asR,encR0,encR1,encR2,encR3,yLT hx hb hlb,e1,cast1,hd]
   have e:touchB (A.getD i default::A.drop (i+1)) B=(B.any (meets (A.getD i default))||touchB (A.drop (i+1)) B):=rfl
   rw [e]
   cases B.any (meets (A.getD i default)) with
   | false =>
     rw [yab,Bool.false_or]
     exact ih (i+1) n (by omega) (by omega)
   | true =>
     rw [yah,hx1 _ _ (by omega)]
     rfl
theorem yNp {A B:List RS} (ha:∀ s∈A,smallS s) (hb:∀ t∈B,smallS t) (hla:A.length<4611686018427387904) (hlb:B.length<4611686018427387904) (K:Bool→Prop):yaj (rsp A) (rsp B) K=K (touchB A B):=by
 refine yAE _ _ _ (fun K k=>?_) K
 unfold yaj yoz
 dsimp only [Go.Pf.jn]
 refine ⟨A.length+1,?_⟩
 rw [ydC]
 exact (yJP ha hb hla hlb (K:=K) (fun _ _ _ _ _=>rfl) (fun _ i hi=>by rw [decide_eq_true hi]) A.length 0 (A.length+1) (by omega) (by omega)).mpr (by rw [List.drop_zero];exact k)
end Go.Pf.Vc
namespace Go.Pf.Vc
open Go Go.Pf
section
variable {cs:List Ck} {ps:List (List Sp)}
theorem yci {α:Type} {l:List α} {i:Nat} (d:α) (h:i<l.length):l.getD i d∈l:=by
 rw [List.getD_eq_getElem?_getD,List.getElem?_eq_getElem h]
 exact List.getElem_mem h
end
end Go.Pf.Vc
namespace Go.Pf.Vc
open Go Go.Pf
structure DV (cs:List Ck) (A:List (List RS)):Prop where
 d:DK cs
 l:A.length=cs.length
 p:∀ a∈A,Pc a
 m:∀ a∈A,a.length≤20
 w:∀ a∈A,withB (cs.getD 0 default).len a=true
theorem datD (l:List PV):datOfV (PV.data l)=l:=rfl
def rspL (A:List (List RS)):List PV:=A.map fun a=>.data (rsp a)
theorem ygU (A:List (List RS)):(rspL A).length=A.length:=List.length_map ..
theorem ypl {A:List (List RS)} {i:Nat} (h:i<A.length):List.getD (rspL A) i .nils=.data (rsp (A.getD i [])):=by
 unfold rspL
 rw [List.getD_eq_getElem?_getD,List.getD_eq_getElem?_getD,List.getElem?_map,List.getElem?_eq_getElem h]
 rfl
section
variable {cs:List Ck} {ps:List (List Sp)} {A:List (List RS)}
theorem DV.len0 (h:DV cs A):1≤(cs.getD 0 default).len∧(cs.getD 0 default).len≤1000:=(h.d.ok 0 (by have:=h.d.n0;omega)).len0
theorem DV.wi (h:DV cs A):∀ a∈A,Wi (cs.getD 0 default).len a:=fun a ha=>yNj (h.w a ha)
theorem yCI (h:DV cs A) {WA WW WL} {x0:List PV→List PV→List PV→Int→Int→Bool→Prop} {x1:Int→Prop} :
   ∀ (r i n:Nat),i+r=A.length→r<n→ycR WA yaE WW WL x0 x1 n (cks cs) (rspL A) (rspL A) (A.length:Int) (i:Int)=x0 (cks cs) (rspL A) (rspL A) (A.length:Int) (A.length:Int) false
 | 0,i,n+1,hi,hn=>by
   rw [ycR,cbF (by omega),show (i:Int)=A.length by omega]
 | r+1,i,n+1,hi,hn=>by
   have h6:=h.d.n6;have hl:=h.l
   have e1:=wib (n:=(i:Int)+1) (by omega) (by omega)
   have hm:=yci [] (show i<A.length by omega)
   rw [ycR]
   dsimp only [lt,Go.Pf.jn]
   rw [cbT (by omega),ygU,asT (by omega),asT (by omega),Int.toNat_natCast,ypl (by omega),asD]
   show yaE (rsp (A.getD i [])) _=_
   rw [(h.p _ hm).check,e1,cast1]
   show cbr false _ _=_
   rw [yab]
   exact yCI h r (i+1) n (by omega) (by omega)
theorem yCJ (h:DV cs A) {WA WC} {x0:List PV→List PV→Int→Int→Bool→Prop} {x1:Int→Prop} :
   ∀ (r i n:Nat),i+r=A.length→r<n→ycr WA WC yak yae x0 x1 n (cks cs) (rspL A) (A.length:Int) (i:Int)=x0 (cks cs) (rspL A) (A.length:Int) (A.length:Int) false
 | 0,i,n+1,hi,hn=>by
   rw [ycr,cbF (by omega),show (i:Int)=A.length by omega]
 | r+1,i,n+1,hi,hn=>by
   have h6:=h.d.n6;have hl:=h.l;have h1:=h.d.n0;have l0:=h.len0
   have e1:=wib (n:=(i:Int)+1) (by omega) (by omega)
   have hm:=yci [] (show i<A.length by omega)
   have p:=h.p _ hm
   have hw:=h.wi _ hm
   have pn:=p.n
   have ih:=yCJ h (WA:=WA) (WC:=WC) (x0:=x0) (x1:=x1) r (i+1) n (by omega) (by omega)
   rw [ycr]
   dsimp only [lt,Go.Pf.jn]
   rw [cbT (by omega),ygU,asT (by omega),asT (by omega),Int.toNat_natCast,ypl (by omega),asD,datD]
   generalize A.getD i []=a at p hw pn
   rw [ydC,e1,cast1]
   by_cases ha:a.length=0
   · rw [cbF (by omega),yab]
     exact ih
   · have h0:0<a.length:=by omega
     have m0:=yci (default:RS) h0
     have m1:=yci (default:RS) (show a.length-1<a.length by omega)
     have w0:=hw _ m0
     have w1:=hw _ m1
     have s1:=p.s _ m1
     have n0:0≤(a.getD 0 default).1.num:=Rat.num_nonneg.2 w0.1
     have e2:=wib (n:=(a.length:Int)-1) (by omega) (by omega)
     have et:((a.length:Int)-1).toNat=a.length-1:=by omega
     have sl:small ((cs.getD 0 default).len:Rat):=yhh (by omega)
     rw [cbT (by omega),asT (by omega),ytv h0,asR,encR0,cbF (by omega),ybc,asT (by omega),yfd (by omega),asCk,ck0,ynu,e2,asT (by omega),asT (by omega),et,ytv (by omega),asR,encR2,encR3,ymg sl s1.2,cbF (by grind)]
     exact ih
theorem pCheckD (h:DV cs A) (K:Int→Prop):yfL (cks cs) (rspL A) K=K 0:=by
 have h6:=h.d.n6;have hl:=h.l
 refine yAC _ _ _ (fun K k=>?_) K
 unfold yfL yox
 rw [yns h.d.fin (by omega)]
 show cbr (deskE cs 0 != 0) _ _
 rw [cnF (h.d.err (by omega)),ygU,ybc,cnF (by omega)]
 refine ⟨A.length+1,(yCI h A.length 0 (A.length+1) (by omega) (by omega)).mpr ?_⟩
 show ∃ n,ycr _ _ _ _ _ _ n (cks cs) (rspL A) (((rspL A).length:Nat):Int) 0
 rw [ygU]
 exact ⟨A.length+1,(yCJ h A.length 0 (A.length+1) (by omega) (by omega)).mpr k⟩
end
end Go.Pf.Vc
namespace Go.Pf.Vc
open Go Go.Pf
def wV (c:Ck) (a:List RS):Rat:=sumV (dV (vX c.cuts c.dens)) a
def tabW (cs:List Ck) (A:List (List RS)):List PV:=cs.map fun c=>.data (rts (A.map (wV c)))
open Classical in
noncomputable def fW (c:Ck) (p:List PV):Int×Int×Int:=if h:∃ t:Int×Int×Int,∀ K:Int→Int→Int→Prop,ycZ c.len (ints c.cuts) (ints c.dens) p K=K t.1 t.2.1 t.2.2 then Classical.choose h else (0,0,0)
theorem fW_eq {c:Ck} {p:List PV} {t:Int×Int×Int} (h:∀ K:Int→Int→Int→Prop,ycZ c.len (ints c.cuts) (ints c.dens) p K=K t.1 t.2.1 t.2.2):fW c p=t:=by
 have hx:∃ t:Int×Int×Int,∀ K:Int→Int→Int→Prop,ycZ c.len (ints c.cuts) (ints c.dens) p K=K t.1 t.2.1 t.2.2:=⟨t,h⟩
 unfold fW
 rw [dif_pos hx]
 have h2:=Classical.choose_spec hx (fun a b c=>(a,b,c)=t)
 rw [h] at h2
 exact h2.mp rfl
theorem ypm {α:Type} {l:List α} {x:α} (d:α) (h:x∈l):∃ i,i<l.length∧l.getD i d=x:=by
 obtain ⟨i,hi,e⟩:=List.getElem_of_mem h
 exact ⟨i,hi,by rw [List.getD_eq_getElem?_getD,List.getElem?_eq_getElem hi];exact e⟩
section
variable {cs:List Ck} {A:List (List RS)}
theorem DK.mem (h:DK cs) {c:Ck} (hc:c∈cs):c.ok∧c.len=(cs.getD 0 default).len:=by
 obtain ⟨i,hi,rfl⟩:=ypm default hc
 exact ⟨h.ok i hi,h.len i hi⟩
end
end Go.Pf.Vc
namespace Go.Pf.Vc
open Go Go.Pf
def tot (A:List (List RS)):Nat:=(A.map List.length).sum
theorem yye (a:List RS) (A:List (List RS)):tot (a::A)=a.length+tot A:=by unfold tot;rw [List.map_cons,List.sum_cons]
theorem yH3:∀ A:List (List RS),A.flatten.length=tot A
 | []=>rfl
 | a::r=>by rw [List.flatten_cons,List.length_append,yH3 r,yye]
theorem yNq {m:Nat}:∀ {A:List (List RS)},(∀ a∈A,a.length≤m)→tot A≤A.length*m
 | [],_=>by simp [tot]
 | a::r,h=>by
   have h1:=h a List.mem_cons_self
   have h2:=yNq (m:=m) fun x hx=>h x (List.mem_cons_of_mem a hx)
   rw [yye,List.length_cons,Nat.succ_mul]
   omega
section
variable {cs:List Ck} {A:List (List RS)}
theorem yEM (hl:A.length≤6) (hm:∀ a∈A,a.length≤20) {WW WL} {x0:List PV→Int→List PV→Int→Int→Bool→Prop} {l0:List PV} :
   ∀ (r i n s:Nat),i+r=A.length→r<n→s≤20*i→ybN WW WL x0 n l0 (s:Int) (rspL A) (A.length:Int) (i:Int)=x0 l0 ((s+tot (A.drop i):Nat):Int) (rspL A) (A.length:Int) (A.length:Int) false
 | 0,i,n+1,s,hi,hn,hs=>by
   rw [ybN,cbF (by omega),List.drop_of_length_le (by omega),show (i:Int)=A.length by omega]
   rfl
 | r+1,i,n+1,s,hi,hn,hs=>by
   have e1:=wib (n:=(i:Int)+1) (by omega) (by omega)
   have hx:=yci [] (show i<A.length by omega)
   have hx2:=hm _ hx
   have hd:A.drop i=A.getD i []::A.drop (i+1):=ycV [] (by omega)
   have ih:=yEM hl hm (WW:=WW) (WL:=WL) (x0:=x0) (l0:=l0) r (i+1) n (s+(A.getD i []).length) (by omega) (by omega) (by omega)
   rw [ybN]
   dsimp only [lt,Go.Pf.jn]
   rw [cbT (by omega),ygU,asT (by omega),asT (by omega),Int.toNat_natCast,ypl (by omega),asD,datD,ydC,hd,yye,e1,cast1]
   generalize (A.getD i []).length=k at hx2 ih
   have e2:=wib (n:=(s:Int)+(k:Int)) (by omega) (by omega)
   rw [e2,cbF (by omega),← Int.natCast_add,ih]
   congr 2
   omega
def zSp:PV:=.agg [.int .i64 0,.int .i64 0,.int .i64 0,.int .i64 0]
theorem yEN (hl:A.length≤6) {WW WL} {x1:List PV→Nat→List PV→Int→Int→Bool→Prop} :
   ∀ (r i n:Nat) (done:List RS),i+r=A.length→r<n→ya3 WW WL x1 n (rsp done++List.replicate (tot (A.drop i)) zSp) done.length (rspL A) (A.length:Int) (i:Int)=x1 (rsp (done++(A.drop i).flatten)) (done++(A.drop i).flatten).length (rspL A) (A.length:Int) (A.length:Int) false
 | 0,i,n+1,done,hi,hn=>by
   rw [ya3,cbF (by omega),List.drop_of_length_le (by omega),show (i:Int)=A.length by omega]
   show x1 (rsp done++[]) _ _ _ _ _=x1 (rsp (done++[])) (done++[]).length _ _ _ _
   rw [List.append_nil,List.append_nil]
 | r+1,i,n+1,done,hi,hn=>by
   have e1:=wib (n:=(i:Int)+1) (by omega) (by omega)
   have hd:A.drop i=A.getD i []::A.drop (i+1):=ycV [] (by omega)
   have ih:=yEN hl (WW:=WW) (WL:=WL) (x1:=x1) r (i+1) n (done++A.getD i []) (by omega) (by omega)
   rw [ya3]
   dsimp only [lt,Go.Pf.jn]
   rw [cbT (by omega),ygU,asT (by omega),asT (by omega),Int.toNat_natCast,ypl (by omega),asD,datD,yHY,yaA,hd,yye,List.flatten_cons,e1,cast1,ydC]
   generalize A.getD i []=a at ih
   have hlen:(rsp done++List.replicate (a.length+tot (A.drop (i+1))) zSp).length=done.length+(a.length+tot (A.drop (i+1))):=by
     rw [List.length_append,ydC,List.length_replicate]
   rw [asT rfl,asT (by rw [hlen];omega)]
   rw [show done++(a++(A.drop (i+1)).flatten)=(done++a)++(A.drop (i+1)).flatten from (List.append_assoc ..).symm]
   cases ha:a with
   | nil =>
     rw [ha,List.append_nil] at ih
     show cbr true _ _=_
     rw [yah,asT rfl,List.append_nil,List.length_nil,Nat.zero_add]
     exact ih
   | cons b t =>
     rw [← ha]
     have hemp:List.isEmpty (rsp a)=false:=by rw [ha];rfl
     have hnew:List.take (0+done.length) (rsp done++List.replicate (a.length+tot (A.drop (i+1))) zSp)++(rsp a++List.drop (0+done.length+a.length) (rsp done++List.replicate (a.length+tot (A.drop (i+1))) zSp))=rsp (done++a)++List.replicate (tot (A.drop (i+1))) zSp:=by
       rw [Nat.zero_add,← yOt,List.take_append_of_le_length (by rw [ydC];omega),List.take_of_length_le (by rw [ydC];omega),List.drop_append,List.drop_of_length_le (by rw [ydC];omega),List.nil_append,ydC,show done.length+a.length-done.length=a.length by omega,List.drop_replicate,show a.length+tot (A.drop (i+1))-a.length=tot (A.drop (i+1)) by omega,List.append_assoc]
     have hlen2:(rsp (done++a)++List.replicate (tot (A.drop (i+1))) zSp).length=done.length+(a.length+tot (A.drop (i+1))):=by
       rw [List.length_append,ydC,List.length_append,List.length_replicate];omega
     rw [hemp,yab,asT (by rw [hlen];omega),hnew,asT (by rw [hlen,hlen2])]
     rw [List.length_append] at ih
     exact ih
theorem yEO {len:Int} {l:List RS} (hs:∀ s∈l,smallS s) (hl:l.length<1000) {l1 l2 l3 l4:List PV} {x0:List PV→List PV→List PV→List PV→List PV→Int→Int→Nat→Int→Int→Bool→Prop} {x1:List PV→Bool→Prop} {K:Bool→Prop}
   (h0:∀ q:Rat,small q→x0 (rsp l) l1 l2 l3 l4 q.num q.den l.length (l.length:Int) (l.length:Int) false=K (decide (q<(len:Rat)))) (h1:x1 (rsp l) true=K true) :
   ∀ (r i n:Nat) (q:Rat),i+r=l.length→r<n→small q→ybP yak yae x0 x1 n (rsp l) l1 l2 l3 l4 q.num q.den l.length (l.length:Int) (i:Int)=K (gapS (len:Rat) (l.drop i) q)
 | 0,i,n+1,q,hi,hn,hq=>by
   rw [ybP,cbF (by omega),List.drop_of_length_le (by omega),show (i:Int)=l.length by omega,h0 q hq]
   rfl
 | r+1,i,n+1,q,hi,hn,hq=>by
   have e1:=wib (n:=(i:Int)+1) (by omega) (by omega)
   have hd:l.drop i=l.getD i default::l.drop (i+1):=ycV default (by omega)
   have hx:=ywn hs (show i<l.length by omega)
   have ih:=fun q hq=>yEO hs hl h0 h1 r (i+1) n q (by omega) (by omega) hq
   rw [ybP]
   dsimp only [lt,Go.Pf.jn]
   rw [cbT (by omega),asT (by omega),asT (by omega),ydC,asT rfl,Int.toNat_natCast,Nat.zero_add,asT (by omega),ytv (by omega),asR,encR0,encR1,encR2,encR3,ymg hq hx.1,hd,e1,cast1]
   generalize l.getD i default=t at hx
   unfold gapS
   by_cases hlt:q<t.1
   · rw [decide_eq_true hlt,yah,if_pos hlt]
     exact h1
   · rw [decide_eq_false hlt,yab,if_neg hlt,ymg hq hx.2]
     by_cases hlt2:q<t.2
     · rw [decide_eq_true hlt2,yah,asT rfl,if_pos hlt2]
       exact ih t.2 hx.2
     · rw [decide_eq_false hlt2,yab,asT rfl,if_neg hlt2]
       exact ih q hq
end
end Go.Pf.Vc
namespace Go.Pf.Vc
open Go Go.Pf
section
variable {cs:List Ck} {A:List (List RS)}
theorem yCK (hl:A.length≤6) (hz:∀ a∈A,a=[]) {WW WL} {x0:List PV→Int→Int→Bool→Prop} {x1:List PV→Nat→List PV→Int→Int→Bool→Prop} :
   ∀ (r i n:Nat),i+r=A.length→r<n→ybO WW WL x0 x1 n (rspL A) (A.length:Int) (i:Int)=x0 (rspL A) (A.length:Int) (A.length:Int) false
 | 0,i,n+1,hi,hn=>by
   rw [ybO,cbF (by omega),show (i:Int)=A.length by omega]
 | r+1,i,n+1,hi,hn=>by
   have e1:=wib (n:=(i:Int)+1) (by omega) (by omega)
   have hx:=hz _ (yci [] (show i<A.length by omega))
   rw [ybO]
   dsimp only [lt,Go.Pf.jn]
   rw [cbT (by omega),ygU,asT (by omega),asT (by omega),Int.toNat_natCast,ypl (by omega),asD,datD,hx,yHY,yaA,e1,cast1]
   show cbr true _ _=_
   rw [yah]
   exact yCK hl hz r (i+1) n (by omega) (by omega)
theorem yNr (hl:A.length≤6) {WW WL} (x1:List PV→Nat→List PV→Int→Int→Bool→Prop):ya3 WW WL x1 (A.length+1) (List.replicate (tot A) zSp) 0 (rspL A) (A.length:Int) 0=x1 (rsp A.flatten) A.flatten.length (rspL A) (A.length:Int) (A.length:Int) false:=by
 have hg:=yEN (A:=A) hl (WW:=WW) (WL:=WL) (x1:=x1) A.length 0 (A.length+1) [] (by omega) (by omega)
 rw [List.drop_zero,List.nil_append] at hg
 exact hg
theorem DV.tot120 (h:DV cs A):tot A≤120:=by
 have h1:=yNq h.m
 have h2:=h.l;have h3:=h.d.n6
 have:A.length*20≤6*20:=Nat.mul_le_mul_right _ (by omega)
 omega
theorem DV.flatS (h:DV cs A):∀ s∈A.flatten,smallS s:=fun s hs=>by
 obtain ⟨a,ha,hs⟩:=List.mem_flatten.1 hs
 exact (h.p a ha).s s hs
theorem DV.flatV (h:DV cs A):∀ s∈A.flatten,s.1<s.2:=fun s hs=>by
 obtain ⟨a,ha,hs⟩:=List.mem_flatten.1 hs
 exact ymf (h.p a ha).c s hs
theorem DV.gap (h:DV cs A) (W PT:List PV):∃ l:List RS,l.Perm A.flatten∧byFrom l∧∀ K,yac (cks cs) (rspL A) W PT K=K (gapS ((cs.getD 0 default).len:Rat) l 0):=by
 have h6:=h.d.n6;have h1:=h.d.n0;have hl:=h.l;have l0:=h.len0;have ht:=h.tot120
 have hfS:=h.flatS
 have hfV:=h.flatV
 obtain ⟨m,p1,p2,p3⟩:=yLN ybt ycO (l:=A.flatten.map spOf) (fun s hs=>by
   obtain ⟨r,hr,rfl⟩:=List.mem_map.1 hs
   exact yAV (hfS r hr) (hfV r hr))
 have hm:∀ s∈m,s.ok:=fun s hs=>by
   obtain ⟨r,hr,rfl⟩:=List.mem_map.1 (p1.mem_iff.1 hs)
   exact yAV (hfS r hr) (hfV r hr)
 have hp:(rsL m).Perm A.flatten:=by
   have:=p1.map Sp.rs
   rw [List.map_map] at this
   have e:A.flatten.map (Sp.rs ∘ spOf)=A.flatten:=by
     conv=>rhs;rw [← List.map_id A.flatten]
     exact List.map_congr_left fun r hr=>yKH (hfS r hr)
   rw [e] at this
   exact this
 have hb:byFrom (rsL m):=yEK (List.pairwise_map.2 p2)
 refine ⟨rsL m,hp,hb,fun K=>?_⟩
 refine yut _ _ _ _ _ (fun K k=>?_) K
 have sl:small ((cs.getD 0 default).len:Rat):=yhh (by omega)
 have hfl:=yH3 A
 have hend:∀ (q:Rat),small q→asr (decide ((0:Int)<(((cks cs).length:Nat):Int))) (asr (conf (.agg [.i .i64,.d,.d]) (List.getD (cks cs) 0 .nils)) (yak (intOfV (cellAt (List.getD (cks cs) 0 .nils) 0)) fun a b=>yae q.num q.den a b fun b=>K b))=K (decide (q<((cs.getD 0 default).len:Rat))):=fun q hq=>by
   rw [ybc,asT (by omega),yfd (by omega),asCk,ck0,ynu,ymg hq sl]
 unfold yac yiW
 dsimp only [Go.Pf.jn,lt]
 refine ⟨A.length+1,?_⟩
 rw [ygU]
 refine (yEM (by omega) h.m A.length 0 (A.length+1) 0 (by omega) (by omega) (by omega)).mpr ?_
 rw [List.drop_zero,Nat.zero_add,cbF (by omega)]
 have e2:=wib (n:=((tot A:Nat):Int)-0) (by omega) (by omega)
 rw [e2,show ((tot A:Nat):Int)-0=((tot A:Nat):Int) by omega]
 by_cases hz:tot A=0
 · have hze:∀ a∈A,a=[]:=fun a ha=>by
     have hfe:=List.eq_nil_of_length_eq_zero (hfl.trans hz)
     exact List.flatten_eq_nil_iff.1 hfe a ha
   have hml:rsL m=[]:=List.eq_nil_of_length_eq_zero (by rw [hp.length_eq,hfl,hz])
   rw [hml] at k
   rw [cbF (by omega)]
   refine ⟨A.length+1,?_⟩
   rw [ygU]
   refine (yCK (by omega) hze A.length 0 (A.length+1) (by omega) (by omega)).mpr ?_
   rw [ynu]
   refine ⟨1,?_⟩
   rw [ydP,cbF (by omega)]
   exact (hend 0 ywo).mpr k
 · rw [cbT (by omega),asT (by omega),Int.toNat_natCast,cbF (by omega),List.length_replicate,asT (by unfold room;omega)]
   have hor:(decide ((0:Int)≤((tot A:Nat):Int))||decide ((0:Int)≤((tot A:Nat):Int)))=true:=by rw [decide_eq_true (by omega)];rfl
   rw [hor,yaA,asT rfl]
   refine ⟨A.length+1,?_⟩
   rw [ygU]
   refine (yNr (by omega) _).mpr ?_
   have hcond:Srt.cond yrP.s (rsp A.flatten) 0 A.flatten.length (rsp A.flatten).length 4 false=true:=by
     obtain ⟨d,hd⟩:∃ d,(yrP).s.rows? (rsp A.flatten)=some d:=yzn fun y hy=>by
       obtain ⟨s,h4,rfl⟩:=List.mem_map.1 hy
       obtain ⟨q,hq,rfl⟩:=List.mem_map.1 h4
       exact yNe _ _ (yAV (hfS q hq) (hfV q hq))
     unfold Srt.cond
     rw [List.drop_zero,show List.take A.flatten.length (rsp A.flatten)=rsp A.flatten by rw [← ydC,List.take_length],hd,ydC]
     simp only [decide_true,Bool.true_and,Bool.not_false,Option.isSome_some,Bool.and_true,Bool.and_eq_true,decide_eq_true_eq,Nat.zero_add,Nat.le_refl]
     exact ⟨by omega,rfl,by omega⟩
   rw [hcond,yaA,ynu]
   have hsrt:Srt.sorted yrP.s yrP.srt (rsp A.flatten)=rsp (rsL m):=by
     rw [show rsp A.flatten=spans (A.flatten.map spOf) from rfl,← yLO hm]
     exact p3
   have hlm:(rsL m).length=A.flatten.length:=hp.length_eq
   have htk:List.take A.flatten.length (rsp A.flatten)=rsp A.flatten:=by rw [← ydC,List.take_length]
   have hdp:List.drop A.flatten.length (rsp A.flatten)=[]:=by rw [← ydC,List.drop_length]
   rw [List.take_zero,List.drop_zero,htk,hsrt,List.nil_append,Nat.zero_add,hdp,List.append_nil,ydC,ydC,asT (by rw [hlm]),← hlm]
   refine ⟨(rsL m).length+1,?_⟩
   have hms:∀ s∈rsL m,smallS s:=fun s hs=>hfS s (hp.mem_iff.1 hs)
   have h2:=yEO (len:=(cs.getD 0 default).len) (l:=rsL m) hms (by omega) (l1:=cks cs) (l2:=rspL A) (l3:=W) (l4:=PT) (K:=K)
     (x0:=fun _ l _ _ _ a b _ _ _ _=>asr (decide ((0:Int)<(((List.length l):Nat):Int))) (asr (conf (.agg [.i .i64,.d,.d]) (List.getD l 0 .nils)) (yak (intOfV (cellAt (List.getD l 0 .nils) 0)) fun c d=>yae a b c d fun b=>K b))) (x1:=fun _ b=>K b)
     (fun q hq=>hend q hq) rfl (rsL m).length 0 ((rsL m).length+1) 0 (by omega) (by omega) ywo
   refine h2.mpr ?_
   rw [List.drop_zero]
   exact k
end
end Go.Pf.Vc
namespace Go.Pf.Vc
open Go Go.Pf
def scanB (f:Nat→Bool):Nat→Nat→Option Nat
 | 0,_=>none
 | r+1,i=>if f i then some i else scanB f r (i+1)
def scanA (f:Nat→Nat→Bool) (n:Nat):Nat→Nat→Option (Nat×Nat)
 | 0,_=>none
 | r+1,i=>match scanB (f i) n 0 with
   | some j=>some (i,j)
   | none=>scanA f n r (i+1)
theorem yoN (cs:List Ck) (A:List (List RS)):(tabW cs A).length=cs.length:=List.length_map ..
theorem ytS {cs:List Ck} {A:List (List RS)} {i:Nat} (h:i<cs.length):List.getD (tabW cs A) i .nils=.data (rts (A.map (wV (cs.getD i default)))):=by
 unfold tabW
 rw [List.getD_eq_getElem?_getD,List.getD_eq_getElem?_getD,List.getElem?_map,List.getElem?_eq_getElem h]
 rfl
theorem ytT {c:Ck} {A:List (List RS)} {i:Nat} (h:i<A.length):(A.map (wV c)).getD i 0=wV c (A.getD i []):=by
 rw [List.getD_eq_getElem?_getD,List.getD_eq_getElem?_getD,List.getElem?_map,List.getElem?_eq_getElem h]
 rfl
def wr0 (A:List (List RS)) (a b:Nat):Bool:=decide (a<b)&&touchB (A.getD a []) (A.getD b [])
def shareQ (cs:List Ck) (a:Nat):Rat:=((totC (cs.getD a default).cuts (cs.getD a default).dens:Int):Rat) / ((cs.length:Int):Rat)
def wr1 (cs:List Ck) (A:List (List RS)) (a b:Nat):Bool:=decide (a=b)&&decide (wV (cs.getD a default) (A.getD a [])<shareQ cs a)
def wr2 (cs:List Ck) (A:List (List RS)) (a b:Nat):Bool:=decide (wV (cs.getD a default) (A.getD a [])<wV (cs.getD a default) (A.getD b []))
def wr3 (P:List Rat) (a b:Nat):Bool:=decide (b=0)&&!decide (P.getD a 0=P.getD 0 0)
def wr4 (A:List (List RS)) (a b:Nat):Bool:=decide (a=b)&&decide ((A.getD a []).length≠1)
section
variable {cs:List Ck} {A:List (List RS)}
theorem DV.small (h:DV cs A) (hw:∀ c∈cs,∀ a∈A,small (wV c a)) {i j:Nat} (hi:i<cs.length) (hj:j<cs.length):Go.Pf.Vc.small (wV (cs.getD i default) (A.getD j [])) :=
 hw _ (yci _ hi) _ (yci _ (by rw [h.l];exact hj))
theorem yGi (a b:Nat):(((a:Int)) ==(b:Int))=decide (a=b):=by
 rw [Bool.eq_iff_iff,beq_iff_eq,decide_eq_true_eq];omega
theorem yH4 {c:Ck} {n:Nat} (hc:c.ok) (h1:1≤n) (h6:n≤6):small (((totC c.cuts c.dens:Int):Rat) / ((n:Int):Rat)):=by
 have:=yhZ hc
 exact smallF (by omega) (by omega) (by omega) (by omega)
theorem step0 (h:DV cs A) {l2 l3 l4 l5 l6 l7:List PV} {i9 i10:Int} {x0:List PV→List PV→List PV→List PV→List PV→List PV→List PV→List PV→Int→Int→Int→Int→Int→Bool→Prop} {x1:List PV→List PV→List PV→List PV→Int→Int→Bool→Prop} {a j n:Nat} (ha:a<cs.length) (hj:j<cs.length) :
   yaO yaj yac yad yal yae x0 x1 (n+1) (cks cs) (rspL A) l2 l3 l4 l5 l6 l7 (a:Int) i9 i10 (cs.length:Int) (j:Int)=cbr (wr0 A a j) (x1 (cks cs) (rspL A) l2 l3 (a:Int) (j:Int) true) (yaO yaj yac yad yal yae x0 x1 n (cks cs) (rspL A) l2 l3 l4 l5 l6 l7 (a:Int) i9 i10 (cs.length:Int) ((j+1:Nat):Int)):=by
   have h6:=h.d.n6;have h1:=h.d.n0;have hl:=h.l
   have e1:=wib (n:=(j:Int)+1) (by omega) (by omega)
   rw [yaO,cbT (by omega)]
   dsimp only [lt,Go.Pf.jn]
   have ja:=h.p _ (yci [] (show a<A.length by omega))
   have jb:=h.p _ (yci [] (show j<A.length by omega))
   have na:=ja.n
   have nb:=jb.n
   unfold wr0
   by_cases hlt:a<j
   · rw [decide_eq_true hlt,cbT (by omega),ygU,asT (by omega),asT (by omega),Int.toNat_natCast,ypl (by omega),asD,asT (by omega),asT (by omega),Int.toNat_natCast,ypl (by omega),asD,datD,datD,yNp ja.s jb.s (by omega) (by omega),Bool.true_and,e1,cast1]
   · rw [decide_eq_false hlt,cbF (by omega),Bool.false_and,e1,cast1]
theorem step1 (h:DV cs A) (hw:∀ c∈cs,∀ a∈A,small (wV c a)) {l3 l4 l5 l6 l7:List PV} {i9 i10:Int} {x0:List PV→List PV→List PV→List PV→List PV→List PV→List PV→List PV→Int→Int→Int→Int→Int→Bool→Prop} {x1:List PV→List PV→List PV→List PV→Int→Int→Bool→Prop} {a j n:Nat} (ha:a<cs.length) (hj:j<cs.length) :
   yaP yaj yac yad yal yae x1 x0 (n+1) (cks cs) (rspL A) (tabW cs A) l3 l4 l5 l6 l7 (a:Int) i9 i10 (cs.length:Int) (j:Int)=cbr (wr1 cs A a j) (x1 (cks cs) (rspL A) (tabW cs A) l3 (a:Int) (j:Int) true) (yaP yaj yac yad yal yae x1 x0 n (cks cs) (rspL A) (tabW cs A) l3 l4 l5 l6 l7 (a:Int) i9 i10 (cs.length:Int) ((j+1:Nat):Int)):=by
   have h6:=h.d.n6;have h1:=h.d.n0;have hl:=h.l
   have e1:=wib (n:=(j:Int)+1) (by omega) (by omega)
   rw [yaP,cbT (by omega)]
   dsimp only [lt,Go.Pf.jn]
   have hok:=(h.d.ok a ha)
   have l1:=hok.l1;have l2:=hok.l2
   have hto:=yhZ hok
   have hT:I64 (totC (cs.getD a default).cuts (cs.getD a default).dens):=by constructor <;> omega
   have hN:I64 (cs.length:Int):=by constructor <;> omega
   have hss:small (shareQ cs a):=yH4 hok h1 h6
   rw [asT (by omega),ybc,asT (by omega),Int.toNat_natCast,yfd ha,asCk,ck0,ck1,ck2,yzf (by omega) (by omega),if_pos hok.ck,yHO hT hN (by omega)]
   unfold shareQ at hss
   unfold fitK
   rw [if_pos hss]
   dsimp only
   rw [yGi,e1,cast1]
   unfold wr1 shareQ
   by_cases hab:a=j
   · rw [decide_eq_true hab,yah,asT (by omega),yoN,asT (by omega),ytS ha,asD,asT (by omega),datD,ynm,List.length_map,asT (by omega),yrr (by rw [List.length_map];omega),asW,encW0,encW1,ytT (by omega),Bool.true_and]
     rw [ymg (h.small hw ha ha) hss]
   · rw [decide_eq_false hab,yab,Bool.false_and]
theorem step2 (h:DV cs A) (hw:∀ c∈cs,∀ a∈A,small (wV c a)) {l3 l4 l5 l6 l7:List PV} {i9 i10:Int} {x0:List PV→List PV→List PV→List PV→List PV→List PV→List PV→List PV→Int→Int→Int→Int→Int→Bool→Prop} {x1:List PV→List PV→List PV→List PV→Int→Int→Bool→Prop} {a j n:Nat} (ha:a<cs.length) (hj:j<cs.length) :
   yaQ yaj yac yad yal yae x1 x0 (n+1) (cks cs) (rspL A) (tabW cs A) l3 l4 l5 l6 l7 (a:Int) i9 i10 (cs.length:Int) (j:Int)=cbr (wr2 cs A a j) (x1 (cks cs) (rspL A) (tabW cs A) l3 (a:Int) (j:Int) true) (yaQ yaj yac yad yal yae x1 x0 n (cks cs) (rspL A) (tabW cs A) l3 l4 l5 l6 l7 (a:Int) i9 i10 (cs.length:Int) ((j+1:Nat):Int)):=by
   have h6:=h.d.n6;have h1:=h.d.n0;have hl:=h.l
   have e1:=wib (n:=(j:Int)+1) (by omega) (by omega)
   rw [yaQ,cbT (by omega)]
   dsimp only [lt,Go.Pf.jn]
   unfold wr2
   rw [asT (by omega),yoN,asT (by omega),Int.toNat_natCast,ytS ha,asD,asT (by omega),datD,ynm,List.length_map,asT (by omega),yrr (by rw [List.length_map];omega),asW,asT (by omega),asT (by omega),asT (by omega),asT (by omega),Int.toNat_natCast,yrr (by rw [List.length_map];omega),asW,encW0,encW1,encW0,encW1,ytT (by omega),ytT (by omega),ymg (h.small hw ha ha) (h.small hw ha hj),e1,cast1,asD]
theorem step3 (h:DV cs A) {P:List Rat} (hP:P.length=cs.length) {l2 l4 l5 l6 l7:List PV} {i9 i10:Int} {x0:List PV→List PV→List PV→List PV→List PV→List PV→List PV→List PV→Int→Int→Int→Int→Int→Bool→Prop} {x1:List PV→List PV→List PV→List PV→Int→Int→Bool→Prop} {a j n:Nat} (ha:a<cs.length) (hj:j<cs.length) :
   yaR yaj yac yad yal yae x1 x0 (n+1) (cks cs) (rspL A) l2 (rts P) l4 l5 l6 l7 (a:Int) i9 i10 (cs.length:Int) (j:Int)=cbr (wr3 P a j) (x1 (cks cs) (rspL A) l2 (rts P) (a:Int) (j:Int) true) (yaR yaj yac yad yal yae x1 x0 n (cks cs) (rspL A) l2 (rts P) l4 l5 l6 l7 (a:Int) i9 i10 (cs.length:Int) ((j+1:Nat):Int)):=by
   have h6:=h.d.n6;have h1:=h.d.n0;have hl:=h.l
   have e1:=wib (n:=(j:Int)+1) (by omega) (by omega)
   rw [yaR,cbT (by omega)]
   dsimp only [lt,Go.Pf.jn]
   unfold wr3
   rw [show ((j:Int) ==(0:Int))=decide (j=0) from yGi j 0,e1,cast1]
   by_cases hab:j=0
   · rw [decide_eq_true hab,yah,asT (by omega),ynm,asT (by omega),Int.toNat_natCast,yrr (by omega),asW,asT (by omega),yrr (by omega),asW,encW0,encW1,encW0,encW1,ratEq,Bool.true_and]
   · rw [decide_eq_false hab,yab,Bool.false_and]
theorem step4 (h:DV cs A) {l2 l3 l4 l5 l6 l7:List PV} {i9 i10:Int} {x0:List PV→List PV→List PV→List PV→List PV→List PV→List PV→List PV→Int→Int→Int→Int→Int→Bool→Prop} {x1:List PV→List PV→List PV→List PV→Int→Int→Bool→Prop} {a j n:Nat} (_:a<cs.length) (hj:j<cs.length) :
   yaS yaj yac yad yal yae x1 x0 (n+1) (cks cs) (rspL A) l2 l3 l4 l5 l6 l7 (a:Int) i9 i10 (cs.length:Int) (j:Int)=cbr (wr4 A a j) (x1 (cks cs) (rspL A) l2 l3 (a:Int) (j:Int) true) (yaS yaj yac yad yal yae x1 x0 n (cks cs) (rspL A) l2 l3 l4 l5 l6 l7 (a:Int) i9 i10 (cs.length:Int) ((j+1:Nat):Int)):=by
   have h6:=h.d.n6;have h1:=h.d.n0;have hl:=h.l
   have e1:=wib (n:=(j:Int)+1) (by omega) (by omega)
   rw [yaS,cbT (by omega)]
   dsimp only [lt,Go.Pf.jn]
   unfold wr4
   rw [yGi,e1,cast1]
   by_cases hab:a=j
   · have hne:((((A.getD a []).length:Nat):Int) !=(1:Int))=decide ((A.getD a []).length≠1):=by
       rw [Bool.eq_iff_iff,bne_iff_ne,decide_eq_true_eq];omega
     rw [decide_eq_true hab,yah,asT (by omega),ygU,asT (by omega),Int.toNat_natCast,ypl (by omega),asD,datD,ydC,hne,Bool.true_and]
   · rw [decide_eq_false hab,yab,Bool.false_and]
end
end Go.Pf.Vc
namespace Go.Pf.Vc
open Go Go.Pf
def onB (X:Nat→Prop) (Y:Prop):Option Nat→Prop
 | some j=>X j
 | none=>Y
def onA (X:Nat→Nat→Prop) (Y:Prop):Option (Nat×Nat)→Prop
 | some (a,b)=>X a b
 | none=>Y
theorem ytU {f:Nat→Bool} {N:Nat} {L:Nat→Nat→Prop} {X:Nat→Prop} {Y:Prop} (hs:∀ n j,j<N→L (n+1) j=cbr (f j) (X j) (L n (j+1))) (he:∀ n,L (n+1) N=Y) :
   ∀ (r j n:Nat),j+r=N→r<n→L n j=onB X Y (scanB f r j)
 | 0,j,n+1,hj,_=>by
   obtain rfl:j=N:=by omega
   rw [he];rfl
 | r+1,j,n+1,hj,hn=>by
   rw [hs n j (by omega),scanB]
   cases f j with
   | true=>rw [yah];rfl
   | false=>rw [yab];exact ytU hs he r (j+1) n (by omega) (by omega)
theorem yqp {f:Nat→Nat→Bool} {N:Nat} {L:Nat→Nat→Prop} {X:Nat→Nat→Prop} {Y:Prop} (hs:∀ n a,a<N→onB (X a) (L n (a+1)) (scanB (f a) N 0)→L (n+1) a) (he:∀ n,Y→L (n+1) N) :
   ∀ (r a n:Nat),a+r=N→r<n→onA X Y (scanA f N r a)→L n a
 | 0,a,n+1,ha,_,h=>by
   obtain rfl:a=N:=by omega
   exact he n h
 | r+1,a,n+1,ha,hn,h=>by
   refine hs n a (by omega) ?_
   rw [scanA] at h
   cases hb:scanB (f a) N 0 with
   | some j=>rw [hb] at h;exact h
   | none=>rw [hb] at h;exact yqp hs he r (a+1) n (by omega) (by omega) h
section
variable {cs:List Ck} {A:List (List RS)}
theorem scan0 (h:DV cs A) {l2 l3:List PV} {x0:List PV→List PV→List PV→List PV→List PV→List PV→List PV→List PV→Int→Int→Bool→Prop} {x1:List PV→List PV→List PV→List PV→Int→Int→Bool→Prop} :
   ∀ (r a n:Nat),a+r=cs.length→r<n→onA (fun a b=>x1 (cks cs) (rspL A) l2 l3 (a:Int) (b:Int) true) (x0 (cks cs) (rspL A) l2 l3 (cks cs) (rspL A) l2 l3 (cs.length:Int) (cs.length:Int) false) (scanA (wr0 A) cs.length r a)→yaT yaj yac yad yal yae x0 x1 n (cks cs) (rspL A) l2 l3 (cks cs) (rspL A) l2 l3 (cs.length:Int) (a:Int):=by
 have h6:=h.d.n6
 refine yqp (L:=fun n a=>yaT yaj yac yad yal yae x0 x1 n (cks cs) (rspL A) l2 l3 (cks cs) (rspL A) l2 l3 (cs.length:Int) (a:Int)) (fun n a ha hb=>?_) (fun n hy=>?_)
 · have e1:=wib (n:=(a:Int)+1) (by omega) (by omega)
   show yaT yaj yac yad yal yae x0 x1 (n+1) (cks cs) (rspL A) l2 l3 (cks cs) (rspL A) l2 l3 (cs.length:Int) (a:Int)
   rw [yaT,cbT (by omega),ybc]
   dsimp only [lt,Go.Pf.jn]
   refine ⟨cs.length+1,?_⟩
   refine (ytU (f:=(wr0 A) a) (N:=cs.length) (L:=fun n j=>yaO yaj yac yad yal yae _ _ n (cks cs) (rspL A) l2 l3 (cks cs) (rspL A) l2 l3 (a:Int) (cs.length:Int) (a:Int) (cs.length:Int) (j:Int)) (fun n j hj=>step0 h ha hj) (fun n=>?_) cs.length 0 (cs.length+1) (by omega) (by omega)).mpr hb
   show yaO yaj yac yad yal yae _ _ (n+1) (cks cs) (rspL A) l2 l3 (cks cs) (rspL A) l2 l3 (a:Int) (cs.length:Int) (a:Int) (cs.length:Int) (cs.length:Int)=_
   rw [yaO,cbF (by omega),e1,cast1]
 · show yaT yaj yac yad yal yae x0 x1 (n+1) (cks cs) (rspL A) l2 l3 (cks cs) (rspL A) l2 l3 (cs.length:Int) (cs.length:Int)
   rw [yaT,cbF (by omega)]
   exact hy
theorem scan1 (h:DV cs A) (hw:∀ c∈cs,∀ a∈A,small (wV c a)) {l3:List PV} {x0:List PV→List PV→List PV→List PV→List PV→List PV→List PV→List PV→Int→Int→Bool→Prop} {x1:List PV→List PV→List PV→List PV→Int→Int→Bool→Prop} :
   ∀ (r a n:Nat),a+r=cs.length→r<n→onA (fun a b=>x1 (cks cs) (rspL A) (tabW cs A) l3 (a:Int) (b:Int) true) (x0 (cks cs) (rspL A) (tabW cs A) l3 (cks cs) (rspL A) (tabW cs A) l3 (cs.length:Int) (cs.length:Int) false) (scanA (wr1 cs A) cs.length r a)→yaU yaj yac yad yal yae x1 x0 n (cks cs) (rspL A) (tabW cs A) l3 (cks cs) (rspL A) (tabW cs A) l3 (cs.length:Int) (a:Int):=by
 have h6:=h.d.n6
 refine yqp (L:=fun n a=>yaU yaj yac yad yal yae x1 x0 n (cks cs) (rspL A) (tabW cs A) l3 (cks cs) (rspL A) (tabW cs A) l3 (cs.length:Int) (a:Int)) (fun n a ha hb=>?_) (fun n hy=>?_)
 · have e1:=wib (n:=(a:Int)+1) (by omega) (by omega)
   show yaU yaj yac yad yal yae x1 x0 (n+1) (cks cs) (rspL A) (tabW cs A) l3 (cks cs) (rspL A) (tabW cs A) l3 (cs.length:Int) (a:Int)
   rw [yaU,cbT (by omega),ybc]
   dsimp only [lt,Go.Pf.jn]
   refine ⟨cs.length+1,?_⟩
   refine (ytU (f:=(wr1 cs A) a) (N:=cs.length) (L:=fun n j=>yaP yaj yac yad yal yae _ _ n (cks cs) (rspL A) (tabW cs A) l3 (cks cs) (rspL A) (tabW cs A) l3 (a:Int) (cs.length:Int) (a:Int) (cs.length:Int) (j:Int)) (fun n j hj=>step1 h hw ha hj) (fun n=>?_) cs.length 0 (cs.length+1) (by omega) (by omega)).mpr hb
   show yaP yaj yac yad yal yae _ _ (n+1) (cks cs) (rspL A) (tabW cs A) l3 (cks cs) (rspL A) (tabW cs A) l3 (a:Int) (cs.length:Int) (a:Int) (cs.length:Int) (cs.length:Int)=_
   rw [yaP,cbF (by omega),e1,cast1]
 · show yaU yaj yac yad yal yae x1 x0 (n+1) (cks cs) (rspL A) (tabW cs A) l3 (cks cs) (rspL A) (tabW cs A) l3 (cs.length:Int) (cs.length:Int)
   rw [yaU,cbF (by omega)]
   exact hy
theorem scan2 (h:DV cs A) (hw:∀ c∈cs,∀ a∈A,small (wV c a)) {l3:List PV} {x0:List PV→List PV→List PV→List PV→List PV→List PV→List PV→List PV→Int→Int→Bool→Prop} {x1:List PV→List PV→List PV→List PV→Int→Int→Bool→Prop} :
   ∀ (r a n:Nat),a+r=cs.length→r<n→onA (fun a b=>x1 (cks cs) (rspL A) (tabW cs A) l3 (a:Int) (b:Int) true) (x0 (cks cs) (rspL A) (tabW cs A) l3 (cks cs) (rspL A) (tabW cs A) l3 (cs.length:Int) (cs.length:Int) false) (scanA (wr2 cs A) cs.length r a)→yaV yaj yac yad yal yae x1 x0 n (cks cs) (rspL A) (tabW cs A) l3 (cks cs) (rspL A) (tabW cs A) l3 (cs.length:Int) (a:Int):=by
 have h6:=h.d.n6
 refine yqp (L:=fun n a=>yaV yaj yac yad yal yae x1 x0 n (cks cs) (rspL A) (tabW cs A) l3 (cks cs) (rspL A) (tabW cs A) l3 (cs.length:Int) (a:Int)) (fun n a ha hb=>?_) (fun n hy=>?_)
 · have e1:=wib (n:=(a:Int)+1) (by omega) (by omega)
   show yaV yaj yac yad yal yae x1 x0 (n+1) (cks cs) (rspL A) (tabW cs A) l3 (cks cs) (rspL A) (tabW cs A) l3 (cs.length:Int) (a:Int)
   rw [yaV,cbT (by omega),ybc]
   dsimp only [lt,Go.Pf.jn]
   refine ⟨cs.length+1,?_⟩
   refine (ytU (f:=(wr2 cs A) a) (N:=cs.length) (L:=fun n j=>yaQ yaj yac yad yal yae _ _ n (cks cs) (rspL A) (tabW cs A) l3 (cks cs) (rspL A) (tabW cs A) l3 (a:Int) (cs.length:Int) (a:Int) (cs.length:Int) (j:Int)) (fun n j hj=>step2 h hw ha hj) (fun n=>?_) cs.length 0 (cs.length+1) (by omega) (by omega)).mpr hb
   show yaQ yaj yac yad yal yae _ _ (n+1) (cks cs) (rspL A) (tabW cs A) l3 (cks cs) (rspL A) (tabW cs A) l3 (a:Int) (cs.length:Int) (a:Int) (cs.length:Int) (cs.length:Int)=_
   rw [yaQ,cbF (by omega),e1,cast1]
 · show yaV yaj yac yad yal yae x1 x0 (n+1) (cks cs) (rspL A) (tabW cs A) l3 (cks cs) (rspL A) (tabW cs A) l3 (cs.length:Int) (cs.length:Int)
   rw [yaV,cbF (by omega)]
   exact hy
theorem scan3 (h:DV cs A) {P:List Rat} (hP:P.length=cs.length) {l2:List PV} {x0:List PV→List PV→List PV→List PV→List PV→List PV→List PV→List PV→Int→Int→Bool→Prop} {x1:List PV→List PV→List PV→List PV→Int→Int→Bool→Prop} :
   ∀ (r a n:Nat),a+r=cs.length→r<n→onA (fun a b=>x1 (cks cs) (rspL A) l2 (rts P) (a:Int) (b:Int) true) (x0 (cks cs) (rspL A) l2 (rts P) (cks cs) (rspL A) l2 (rts P) (cs.length:Int) (cs.length:Int) false) (scanA (wr3 P) cs.length r a)→yaW yaj yac yad yal yae x1 x0 n (cks cs) (rspL A) l2 (rts P) (cks cs) (rspL A) l2 (rts P) (cs.length:Int) (a:Int):=by
 have h6:=h.d.n6
 refine yqp (L:=fun n a=>yaW yaj yac yad yal yae x1 x0 n (cks cs) (rspL A) l2 (rts P) (cks cs) (rspL A) l2 (rts P) (cs.length:Int) (a:Int)) (fun n a ha hb=>?_) (fun n hy=>?_)
 · have e1:=wib (n:=(a:Int)+1) (by omega) (by omega)
   show yaW yaj yac yad yal yae x1 x0 (n+1) (cks cs) (rspL A) l2 (rts P) (cks cs) (rspL A) l2 (rts P) (cs.length:Int) (a:Int)
   rw [yaW,cbT (by omega),ybc]
   dsimp only [lt,Go.Pf.jn]
   refine ⟨cs.length+1,?_⟩
   refine (ytU (f:=(wr3 P) a) (N:=cs.length) (L:=fun n j=>yaR yaj yac yad yal yae _ _ n (cks cs) (rspL A) l2 (rts P) (cks cs) (rspL A) l2 (rts P) (a:Int) (cs.length:Int) (a:Int) (cs.length:Int) (j:Int)) (fun n j hj=>step3 h hP ha hj) (fun n=>?_) cs.length 0 (cs.length+1) (by omega) (by omega)).mpr hb
   show yaR yaj yac yad yal yae _ _ (n+1) (cks cs) (rspL A) l2 (rts P) (cks cs) (rspL A) l2 (rts P) (a:Int) (cs.length:Int) (a:Int) (cs.length:Int) (cs.length:Int)=_
   rw [yaR,cbF (by omega),e1,cast1]
 · show yaW yaj yac yad yal yae x1 x0 (n+1) (cks cs) (rspL A) l2 (rts P) (cks cs) (rspL A) l2 (rts P) (cs.length:Int) (cs.length:Int)
   rw [yaW,cbF (by omega)]
   exact hy
theorem scan4 (h:DV cs A) {l2 l3:List PV} {x0:List PV→List PV→List PV→List PV→List PV→List PV→List PV→List PV→Int→Int→Bool→Prop} {x1:List PV→List PV→List PV→List PV→Int→Int→Bool→Prop} :
   ∀ (r a n:Nat),a+r=cs.length→r<n→onA (fun a b=>x1 (cks cs) (rspL A) l2 l3 (a:Int) (b:Int) true) (x0 (cks cs) (rspL A) l2 l3 (cks cs) (rspL A) l2 l3 (cs.length:Int) (cs.length:Int) false) (scanA (wr4 A) cs.length r a)→yaX yaj yac yad yal yae x1 x0 n (cks cs) (rspL A) l2 l3 (cks cs) (rspL A) l2 l3 (cs.length:Int) (a:Int):=by
 have h6:=h.d.n6
 refine yqp (L:=fun n a=>yaX yaj yac yad yal yae x1 x0 n (cks cs) (rspL A) l2 l3 (cks cs) (rspL A) l2 l3 (cs.length:Int) (a:Int)) (fun n a ha hb=>?_) (fun n hy=>?_)
 · have e1:=wib (n:=(a:Int)+1) (by omega) (by omega)
   show yaX yaj yac yad yal yae x1 x0 (n+1) (cks cs) (rspL A) l2 l3 (cks cs) (rspL A) l2 l3 (cs.length:Int) (a:Int)
   rw [yaX,cbT (by omega),ybc]
   dsimp only [lt,Go.Pf.jn]
   refine ⟨cs.length+1,?_⟩
   refine (ytU (f:=(wr4 A) a) (N:=cs.length) (L:=fun n j=>yaS yaj yac yad yal yae _ _ n (cks cs) (rspL A) l2 l3 (cks cs) (rspL A) l2 l3 (a:Int) (cs.length:Int) (a:Int) (cs.length:Int) (j:Int)) (fun n j hj=>step4 h ha hj) (fun n=>?_) cs.length 0 (cs.length+1) (by omega) (by omega)).mpr hb
   show yaS yaj yac yad yal yae _ _ (n+1) (cks cs) (rspL A) l2 l3 (cks cs) (rspL A) l2 l3 (a:Int) (cs.length:Int) (a:Int) (cs.length:Int) (cs.length:Int)=_
   rw [yaS,cbF (by omega),e1,cast1]
 · show yaX yaj yac yad yal yae x1 x0 (n+1) (cks cs) (rspL A) l2 l3 (cks cs) (rspL A) l2 l3 (cs.length:Int) (cs.length:Int)
   rw [yaX,cbF (by omega)]
   exact hy
end
end Go.Pf.Vc
namespace Go.Pf.Vc
open Go Go.Pf
def outS3:Option (Nat×Nat)→Int×Int×Bool
 | some (a,b)=>(a,b,true)
 | none=>(0,0,false)
def brk (cs:List Ck) (A:List (List RS)) (P:List Rat) (g:Bool) (c:Int):Int×Int×Bool :=
 if c=1 then (match scanA (wr0 A) cs.length cs.length 0 with
   | some (a,b)=>(a,b,true)
   | none=>if g then (-1,-1,true) else (0,0,false))
 else if c=2 then outS3 (scanA (wr1 cs A) cs.length cs.length 0)
 else if c=4 then outS3 (scanA (wr2 cs A) cs.length cs.length 0)
 else if c=8 then outS3 (scanA (wr3 P) cs.length cs.length 0)
 else outS3 (scanA (wr4 A) cs.length cs.length 0)
theorem yEP {cs:List Ck} {A:List (List RS)} (h:DV cs A) (hw:∀ c∈cs,∀ a∈A,small (wV c a)) {P:List Rat} {c:Int} (hP:c=8→P.length=cs.length) (hc:c=1∨c=2∨c=4∨c=8∨c=16) {g:Bool}
   (hg:∀ K,yac (cks cs) (rspL A) (tabW cs A) (rts P) K=K g) (K:Int→Int→Bool→Prop) :
   yai (cks cs) (rspL A) (tabW cs A) (rts P) c K=K (brk cs A P g c).1 (brk cs A P g c).2.1 (brk cs A P g c).2.2:=by
 refine yri _ _ _ _ _ _ _ _ (fun K k=>?_) K
 unfold yai yhp
 dsimp only [Go.Pf.jn]
 rcases hc with rfl | rfl | rfl | rfl | rfl
 · show cbr true _ _
   rw [yah]
   refine ⟨cs.length+1,?_⟩
   rw [ybc]
   refine scan0 h cs.length 0 (cs.length+1) (by omega) (by omega) ?_
   have k:K (match scanA (wr0 A) cs.length cs.length 0 with | some (a,b)=>((a:Int),(b:Int),true) | none=>if g then (-1,-1,true) else (0,0,false)).1 (match scanA (wr0 A) cs.length cs.length 0 with | some (a,b)=>((a:Int),(b:Int),true) | none=>if g then (-1,-1,true) else (0,0,false)).2.1 (match scanA (wr0 A) cs.length cs.length 0 with | some (a,b)=>((a:Int),(b:Int),true) | none=>if g then (-1,-1,true) else (0,0,false)).2.2:=k
   cases hs:scanA (wr0 A) cs.length cs.length 0 with
   | some q =>
     rw [hs] at k
     exact k
   | none =>
     rw [hs] at k
     dsimp only [onA,Bool.not_false]
     rw [show (!false)=true from rfl,yah,hg]
     cases g with
     | true=>exact k
     | false=>exact k
 · show cbr false _ (cbr true _ _)
   rw [yab,yah]
   refine ⟨cs.length+1,?_⟩
   rw [ybc]
   refine scan1 h hw cs.length 0 (cs.length+1) (by omega) (by omega) ?_
   have k:K (outS3 (scanA (wr1 cs A) cs.length cs.length 0)).1 (outS3 (scanA (wr1 cs A) cs.length cs.length 0)).2.1 (outS3 (scanA (wr1 cs A) cs.length cs.length 0)).2.2:=k
   cases hs:scanA (wr1 cs A) cs.length cs.length 0 <;> (rw [hs] at k;exact k)
 · show cbr false _ (cbr false _ (cbr true _ _))
   rw [yab,yab,yah]
   refine ⟨cs.length+1,?_⟩
   rw [ybc]
   refine scan2 h hw cs.length 0 (cs.length+1) (by omega) (by omega) ?_
   have k:K (outS3 (scanA (wr2 cs A) cs.length cs.length 0)).1 (outS3 (scanA (wr2 cs A) cs.length cs.length 0)).2.1 (outS3 (scanA (wr2 cs A) cs.length cs.length 0)).2.2:=k
   cases hs:scanA (wr2 cs A) cs.length cs.length 0 <;> (rw [hs] at k;exact k)
 · show cbr false _ (cbr false _ (cbr false _ (cbr true _ _)))
   rw [yab,yab,yab,yah]
   refine ⟨cs.length+1,?_⟩
   rw [ybc]
   refine scan3 h (hP rfl) cs.length 0 (cs.length+1) (by omega) (by omega) ?_
   have k:K (outS3 (scanA (wr3 P) cs.length cs.length 0)).1 (outS3 (scanA (wr3 P) cs.length cs.length 0)).2.1 (outS3 (scanA (wr3 P) cs.length cs.length 0)).2.2:=k
   cases hs:scanA (wr3 P) cs.length cs.length 0 <;> (rw [hs] at k;exact k)
 · show cbr false _ (cbr false _ (cbr false _ (cbr false _ _)))
   rw [yab,yab,yab,yab]
   refine ⟨cs.length+1,?_⟩
   rw [ybc]
   refine scan4 h cs.length 0 (cs.length+1) (by omega) (by omega) ?_
   have k:K (outS3 (scanA (wr4 A) cs.length cs.length 0)).1 (outS3 (scanA (wr4 A) cs.length cs.length 0)).2.1 (outS3 (scanA (wr4 A) cs.length cs.length 0)).2.2:=k
   cases hs:scanA (wr4 A) cs.length cs.length 0 <;> (rw [hs] at k;exact k)
end Go.Pf.Vc
namespace Go.Pf.Vc
open Go Go.Pf
def prt (cs:List Ck) (A:List (List RS)) (i:Nat):Rat:=wV (cs.getD i default) (A.getD i []) / ((totC (cs.getD i default).cuts (cs.getD i default).dens:Int):Rat)
def prtL (cs:List Ck) (A:List (List RS)) (n:Nat):List Rat:=(List.range n).map (prt cs A)
theorem yH5 (cs:List Ck) (A:List (List RS)) (n:Nat):(prtL cs A n).length=n:=by unfold prtL;rw [List.length_map,List.length_range]
theorem yLU (cs:List Ck) (A:List (List RS)) (n:Nat):prtL cs A (n+1)=prtL cs A n++[prt cs A n]:=by unfold prtL;rw [List.range_succ,List.map_append];rfl
def prtK (cs:List Ck) (A:List (List RS)) (X Y:Prop):Nat→Nat→Prop
 | 0,_=>X
 | r+1,i=>if small (prt cs A i) then prtK cs A X Y r (i+1) else Y
section
variable {cs:List Ck} {A:List (List RS)}
theorem DV.total (h:DV cs A) {i:Nat} (hi:i<cs.length) (K:Int→Int→Prop):yad (cs.getD i default).len (ints (cs.getD i default).cuts) (ints (cs.getD i default).dens) K=K (totC (cs.getD i default).cuts (cs.getD i default).dens) 0:=by
 have hok:=h.d.ok i hi
 have l1:=hok.l1;have l2:=hok.l2
 rw [yzf (by omega) (by omega),if_pos hok.ck]
theorem DV.div (h:DV cs A) (hw:∀ c∈cs,∀ a∈A,Go.Pf.Vc.small (wV c a)) {i:Nat} (hi:i<cs.length) (K:Int→Int→Int→Prop):yav (wV (cs.getD i default) (A.getD i [])).num (wV (cs.getD i default) (A.getD i [])).den ((totC (cs.getD i default).cuts (cs.getD i default).dens:Int):Rat).num ((totC (cs.getD i default).cuts (cs.getD i default).dens:Int):Rat).den K=fitK (prt cs A i) K:=by
 have hok:=h.d.ok i hi
 have tb:=yhZ hok
 have tp:=yx8 hok
 have hs:Go.Pf.Vc.small ((totC (cs.getD i default).cuts (cs.getD i default).dens:Int):Rat):=yhh (by omega)
 have h0:((totC (cs.getD i default).cuts (cs.getD i default).dens:Int):Rat)≠0:=fun e=>by
   have:(((totC (cs.getD i default).cuts (cs.getD i default).dens:Int):Rat))=((0:Int):Rat):=e
   have:=Rat.intCast_inj.1 this
   omega
 exact yKv (h.small hw hi hi) hs h0 K
theorem yrN (h:DV cs A) (hw:∀ c∈cs,∀ a∈A,small (wV c a)) (x2:List PV→List PV→List PV→List PV→Int→Int→Bool→Prop) (x3:List PV→List PV→List PV→List PV→Int→Prop) {YY:Prop} (hY:∀ L,x3 L (cks cs) (rspL A) (tabW cs A) 16=YY) :
   ∀ (r i n:Nat),i+r=cs.length→r<n→ydj yat yad yak yav yai x2 x3 n (rts (prtL cs A i)) (cks cs) (rspL A) (tabW cs A) (cs.length:Int) (i:Int)=prtK cs A (x2 (rts (prtL cs A cs.length)) (cks cs) (rspL A) (tabW cs A) (cs.length:Int) (cs.length:Int) false) YY r i
 | 0,i,n+1,hi,hn=>by
   obtain rfl:i=cs.length:=by omega
   rw [ydj,cbF (by omega)]
   rfl
 | r+1,i,n+1,hi,hn=>by
   have h6:=h.d.n6;have hl:=h.l
   have hi':i<cs.length:=by omega
   have e1:=wib (n:=(i:Int)+1) (by omega) (by omega)
   have ih:=yrN h hw x2 x3 hY r (i+1) n (by omega) (by omega)
   rw [ydj]
   dsimp only [lt,Go.Pf.jn]
   rw [cbT (by omega),asT (by omega),ybc,asT (by omega),Int.toNat_natCast,yfd hi',asCk,ck0,ck1,ck2,h.total hi',asT (by omega),yoN,asT (by omega),ytS hi',asD,asT (by omega),datD,ynm,List.length_map,asT (by omega),yrr (by rw [List.length_map];omega),asW,encW0,encW1,ytT (by omega),ynu,h.div hw hi']
   unfold prtK fitK
   by_cases hs:small (prt cs A i)
   · rw [if_pos hs,if_pos hs]
     show cbr false _ _=_
     rw [yab,asT rfl,ynm,yH5]
     simp only [Nat.zero_add,Nat.le_refl,decide_true,yaA]
     rw [show (!decide (i+1≤i))=true by rw [decide_eq_false (by omega)];rfl,yaA,asT (by unfold room;omega),show (true&&true)=true from rfl,yaA,e1,cast1,yOv,yOw,← yLU]
     exact ih
   · rw [if_neg hs,if_neg hs]
     show cbr true _ _=_
     rw [yah,hY]
theorem yzp (h:DV cs A) (hw:∀ c∈cs,∀ a∈A,small (wV c a)) (x0:List PV→List PV→List PV→Int→Int→Bool→Prop) (x1:List PV→List PV→List PV→Int→Prop) (x2:List PV→List PV→List PV→List PV→Int→Int→Bool→Prop) (x3:List PV→List PV→List PV→List PV→Int→Prop) {YY:Prop} (hY1:x1 (cks cs) (rspL A) (tabW cs A) 16=YY) (hY:∀ L,x3 L (cks cs) (rspL A) (tabW cs A) 16=YY) :
   yeU yat yad yak yav yai x0 x1 x2 x3 (cs.length+1) (cks cs) (rspL A) (tabW cs A) (cs.length:Int) 0=prtK cs A (x2 (rts (prtL cs A cs.length)) (cks cs) (rspL A) (tabW cs A) (cs.length:Int) (cs.length:Int) false) YY cs.length 0:=by
   have h6:=h.d.n6;have h1:=h.d.n0;have hl:=h.l
   have hi':0<cs.length:=by omega
   have e1:=wib (n:=(0:Int)+1) (by omega) (by omega)
   obtain ⟨r,hr⟩:∃ r,cs.length=r+1:=⟨cs.length-1,by omega⟩
   have ih:=yrN h hw x2 x3 hY r 1 cs.length (by omega) (by omega)
   rw [yeU]
   dsimp only [lt,Go.Pf.jn]
   rw [cbT (by omega),asT (by omega),ybc,asT (by omega),show (0:Int).toNat=0 from rfl,yfd hi',asCk,ck0,ck1,ck2,h.total hi',asT (by omega),yoN,asT (by omega),ytS hi',asD,asT (by omega),datD,ynm,List.length_map,asT (by omega),yrr (by rw [List.length_map];omega),asW,encW0,encW1,ytT (by omega),ynu,h.div hw hi']
   have eK:∀ X:Prop,prtK cs A X YY cs.length 0=if small (prt cs A 0) then prtK cs A X YY r 1 else YY:=fun X=>by rw [hr];rfl
   rw [eK]
   unfold fitK
   by_cases hs:small (prt cs A 0)
   · rw [if_pos hs,if_pos hs]
     show cbr false _ _=_
     rw [yab,e1]
     exact ih
   · rw [if_neg hs,if_neg hs]
     show cbr true _ _=_
     rw [yah,hY1]
end
end Go.Pf.Vc
namespace Go.Pf.Vc
open Go Go.Pf
def orU8 (a b:Int):Int:=IntKind.u8.wrap (BitVec.ofInt IntKind.u8.bits a|||BitVec.ofInt IntKind.u8.bits b).toNat
def bitC:Nat→Int
 | 0=>1
 | 1=>2
 | 2=>4
 | 3=>8
 | _=>16
def addC (cs:List Ck) (A:List (List RS)) (P:List Rat) (g:Bool) (acc:Int) (i:Nat):Int:=if (brk cs A P g (bitC i)).2.2 then acc else orU8 acc (bitC i)
theorem yKO {i:Nat} (h:i<5):IntKind.u8.wrap ((1:Int)*2 ^ (min ((i:Int)).toNat IntKind.u8.bits))=bitC i:=by
 obtain rfl | rfl | rfl | rfl | rfl:i=0∨i=1∨i=2∨i=3∨i=4:=by omega
 all_goals decide
theorem yNs (i:Nat):bitC i=1∨bitC i=2∨bitC i=4∨bitC i=8∨bitC i=16:=by
 unfold bitC
 split <;> simp
section
variable {cs:List Ck} {A:List (List RS)}
theorem yLV (h:DV cs A) (hw:∀ c∈cs,∀ a∈A,small (wV c a)) {P:List Rat} (hP:P.length=cs.length) {g:Bool} (hg:∀ K,yac (cks cs) (rspL A) (tabW cs A) (rts P) K=K g) (x1:List PV→List PV→List PV→List PV→Int→Int→List PV→Int→Bool→Prop) {n i:Nat} (hi:i<5) (e acc:Int) (l8:List PV) :
   ycM yat yad yak yav yai x1 (n+1) (rts P) (cks cs) (rspL A) (tabW cs A) e acc l8 (i:Int)=ycM yat yad yak yav yai x1 n (rts P) (cks cs) (rspL A) (tabW cs A) e (addC cs A P g acc i) l8 ((i+1:Nat):Int):=by
 have e1:=wib (n:=(i:Int)+1) (by omega) (by omega)
 have hn:(!decide ((i:Int)<0))=true:=by rw [decide_eq_false (by omega)];rfl
 rw [ycM]
 dsimp only [lt,Go.Pf.jn]
 rw [cbT (by omega),hn,yaA,yKO hi,asT rfl,asT (by omega),List.take_length,yEP h hw (fun _=>hP) (yNs i) hg,e1,cast1]
 unfold addC
 cases (brk cs A P g (bitC i)).2.2 with
 | true =>
   show cbr false _ _=_
   rw [yab,show (decide ((rts P).length=(rts P).length)&&decide ((rts P).length=(rts P).length))=true by simp,yaA]
   rfl
 | false =>
   show cbr true _ _=_
   rw [yah,yaA,show (decide ((rts P).length=(rts P).length)&&decide ((rts P).length=(rts P).length))=true by simp,yaA]
   rfl
def claimsM (cs:List Ck) (A:List (List RS)) (P:List Rat) (g:Bool):Int:=addC cs A P g (addC cs A P g (addC cs A P g (addC cs A P g (addC cs A P g 0 0) 1) 2) 3) 4
theorem yCL {X Y:Prop}:∀ (r i:Nat),((∀ j,i≤j→j<i+r→small (prt cs A j))∧prtK cs A X Y r i=X)∨(¬(∀ j,i≤j→j<i+r→small (prt cs A j))∧prtK cs A X Y r i=Y)
 | 0,i=>.inl ⟨fun j h1 h2=>by omega,rfl⟩
 | r+1,i=>by
   rw [prtK]
   by_cases hs:small (prt cs A i)
   · rw [if_pos hs]
     rcases yCL (X:=X) (Y:=Y) r (i+1) with ⟨h1,h2⟩ | ⟨h1,h2⟩
     · refine .inl ⟨fun j k1 k2=>?_,h2⟩
       by_cases hj:j=i
       · subst hj;exact hs
       · exact h1 j (by omega) (by omega)
     · exact .inr ⟨fun hh=>h1 fun j k1 k2=>hh j (by omega) (by omega),h2⟩
   · rw [if_neg hs]
     exact .inr ⟨fun hh=>hs (hh i (by omega) (by omega)),rfl⟩
end
end Go.Pf.Vc
namespace Go.Pf.Vc
open Go Go.Pf
section
variable {cs:List Ck} {A:List (List RS)}
def Gap (cs:List Ck) (A:List (List RS)):Prop:=∃ p:Rat,0≤p∧p<((cs.getD 0 default).len:Rat)∧¬∃ a∈A,memP a p
open Classical in
noncomputable def gapD (cs:List Ck) (A:List (List RS)):Bool:=decide (Gap cs A)
theorem yCM:gapD cs A=true↔Gap cs A:=by unfold gapD;exact @decide_eq_true_iff _ (Classical.propDecidable _)
theorem DV.gapD_eq (h:DV cs A) (W PT:List PV) (K:Bool→Prop):yac (cks cs) (rspL A) W PT K=K (gapD cs A):=by
 obtain ⟨l,hp,hb,e⟩:=h.gap W PT
 rw [e]
 congr 1
 rw [Bool.eq_iff_iff,yCM,yH0 l 0 hb (fun s hs=>h.flatV s (hp.mem_iff.1 hs)) (fun s hs=>by
   obtain ⟨a,ha,hs⟩:=List.mem_flatten.1 (hp.mem_iff.1 hs)
   exact (h.wi a ha s hs).2)]
 have hm:∀ p,memP l p↔∃ a∈A,memP a p:=fun p=>by
   constructor
   · rintro ⟨s,hs,k⟩
     obtain ⟨a,ha,hs⟩:=List.mem_flatten.1 (hp.mem_iff.1 hs)
     exact ⟨a,ha,s,hs,k⟩
   · rintro ⟨a,ha,s,hs,k⟩
     exact ⟨s,hp.mem_iff.2 (List.mem_flatten.2 ⟨a,ha,hs⟩),k⟩
 unfold Gap
 constructor
 · rintro ⟨p,h1,h2,h3⟩
   exact ⟨p,h1,h2,fun k=>h3 ((hm p).2 k)⟩
 · rintro ⟨p,h1,h2,h3⟩
   exact ⟨p,h1,h2,fun k=>h3 ((hm p).1 k)⟩
end
end Go.Pf.Vc
namespace Go.Pf.Vc
open Go Go.Pf
theorem yCN {f:Nat→Bool}:∀ {r i:Nat},scanB f r i=none↔∀ j,i≤j→j<i+r→f j=false
 | 0,i=>⟨fun _ j h1 h2=>by omega,fun _=>rfl⟩
 | r+1,i=>by
   rw [scanB]
   cases hf:f i with
   | true=>exact ⟨fun h=>by simp at h,fun h=>by have:=h i (by omega) (by omega);rw [hf] at this;cases this⟩
   | false =>
     show scanB f r (i+1)=none↔_
     rw [yCN]
     constructor
     · intro h j h1 h2
       by_cases hj:j=i
       · subst hj;exact hf
       · exact h j (by omega) (by omega)
     · exact fun h j h1 h2=>h j (by omega) (by omega)
theorem yCO {f:Nat→Bool}:∀ {r i j:Nat},scanB f r i=some j→i≤j∧j<i+r∧f j=true
 | 0,i,j,h=>by cases h
 | r+1,i,j,h=>by
   rw [scanB] at h
   cases hf:f i with
   | true =>
     rw [hf] at h
     have h:some i=some j:=h
     cases h
     exact ⟨by omega,by omega,hf⟩
   | false =>
     rw [hf] at h
     obtain ⟨h1,h2,h3⟩:=yCO (r:=r) (i:=i+1) h
     exact ⟨by omega,by omega,h3⟩
theorem ylj {f:Nat→Nat→Bool} {n:Nat}:∀ {r i:Nat},scanA f n r i=none↔∀ a,i≤a→a<i+r→∀ b,b<n→f a b=false
 | 0,i=>⟨fun _ a h1 h2=>by omega,fun _=>rfl⟩
 | r+1,i=>by
   rw [scanA]
   cases hb:scanB (f i) n 0 with
   | some j =>
     obtain ⟨_,h2,h3⟩:=yCO hb
     exact ⟨fun h=>by simp at h,fun h=>by have:=h i (by omega) (by omega) j (by omega);rw [h3] at this;cases this⟩
   | none =>
     show scanA f n r (i+1)=none↔_
     rw [ylj]
     constructor
     · intro h a h1 h2 b h3
       by_cases ha:a=i
       · subst ha;exact yCN.1 hb b (by omega) (by omega)
       · exact h a (by omega) (by omega) b h3
     · exact fun h a h1 h2 b h3=>h a (by omega) (by omega) b h3
end Go.Pf.Vc
namespace Go.Pf.Vc
open Go Go.Pf
def bitsV (b0 b1 b2 b3 b4:Bool):Int :=
 let a0:Int:=if b0 then 0 else orU8 0 1
 let a1:Int:=if b1 then a0 else orU8 a0 2
 let a2:Int:=if b2 then a1 else orU8 a1 4
 let a3:Int:=if b3 then a2 else orU8 a2 8
 if b4 then a3 else orU8 a3 16
theorem yH6 (cs:List Ck) (A:List (List RS)) (P:List Rat) (g:Bool):claimsM cs A P g=bitsV (brk cs A P g 1).2.2 (brk cs A P g 2).2.2 (brk cs A P g 4).2.2 (brk cs A P g 8).2.2 (brk cs A P g 16).2.2:=rfl
def andU8 (a b:Int):Int:=IntKind.u8.wrap (BitVec.ofInt IntKind.u8.bits a&&&BitVec.ofInt IntKind.u8.bits b).toNat
end Go.Pf.Vc
namespace Go.Pf.Vc
open Go Go.Pf
theorem yEQ:∀ {A:List (List RS)},(∀ i j,i<j→j<A.length→∀ p,memP (A.getD i []) p→¬memP (A.getD j []) p)→apartL A
 | [],_=>trivial
 | a::r,h=>by
   refine ⟨fun b hb p hp=>?_,yEQ fun i j h1 h2 p hp=>?_⟩
   · obtain ⟨j,hj,rfl⟩:=ypm [] hb
     exact h 0 (j+1) (by omega) (by rw [List.length_cons];omega) p hp
   · exact h (i+1) (j+1) (by omega) (by rw [List.length_cons];omega) p hp
section
variable {cs:List Ck} {A:List (List RS)}
theorem DV.whole (h:DV cs A) (hn:scanA (wr0 A) cs.length cs.length 0=none) (hg:gapD cs A=false) {i:Nat} (hi:i<cs.length) :
   sumL (vX (cs.getD i default).cuts (cs.getD i default).dens) A=((totC (cs.getD i default).cuts (cs.getD i default).dens:Int):Rat):=by
 have hl:=h.l
 have l0:=h.len0
 have hok:=h.d.ok i hi
 have hlen:=h.d.len i hi
 rw [← yJN hok,hlen]
 refine yLS _ ?_ (fun a ha=>(h.p a ha).c) (fun a ha=>h.wi a ha) ?_ ?_
 · have:((0:Int):Rat)<((cs.getD 0 default).len:Rat):=Rat.intCast_lt_intCast.2 (by omega)
   simpa using this
 · refine yEQ fun i j h1 h2 p p1 p2=>?_
   have hf:=ylj.1 hn i (by omega) (by omega) j (by omega)
   unfold wr0 at hf
   rw [decide_eq_true h1,Bool.true_and] at hf
   have mi:=yci [] (show i<A.length by omega)
   have mj:=yci [] h2
   have:=(yCH (ymf (h.p _ mi).c) (ymf (h.p _ mj).c)).2 ⟨p,p1,p2⟩
   rw [hf] at this
   cases this
 · intro p h1 h2
   refine Classical.byContradiction fun hno=>?_
   have:=yCM.2 ⟨p,h1,h2,hno⟩
   rw [hg] at this
   cases this
end
end Go.Pf.Vc
namespace Go.Pf.Vc
open Go Go.Pf
def InA (D:Int) (A:List (List RS)):Prop:=∀ a∈A,∀ s∈a,In D s.1∧In D s.2
section
variable {len:Int} {cuts dens:List Int}
theorem yH7 (h:VC len cuts dens) {s:RS} (hv:s.1<s.2) (hw:0≤s.1∧s.2≤(len:Rat)):0≤dV (vX cuts dens) s∧dV (vX cuts dens) s≤12000:=by
 have a:=yyd h hw.1
 have b:=yyd h hw.2
 have c:=yyd h (Rat.le_of_lt hv)
 have t:=yJN h
 have tb:=Rat.intCast_le_intCast.2 (yhZ h).2
 have tb:((totC cuts dens:Int):Rat)≤12000:=tb
 show 0≤vX cuts dens s.2-vX cuts dens s.1∧vX cuts dens s.2-vX cuts dens s.1≤12000
 grind
theorem dV_In {D:Int} (hD:1≤D) {s:RS} (hi:In D s.1∧In D s.2):In D (dV (vX cuts dens) s):=(vX_In hD hi.2).sub (vX_In hD hi.1)
theorem yH8 (h:VC len cuts dens) {D:Int} (hD:1≤D∧D≤1000000000000) {s:RS} (hs:smallS s) (hv:s.1<s.2) (hw:0≤s.1∧s.2≤(len:Rat)) (hi:In D s.1∧In D s.2) (K:Int→Int→Int→Prop) :
   ybn len (ints cuts) (ints dens) s.1.num s.1.den s.2.num s.2.den K=K (dV (vX cuts dens) s).num (dV (vX cuts dens) s).den 0:=by
 have l1:=h.l1;have l2:=h.l2
 rw [yzg (by omega) (by omega) hs.1.i1 hs.1.i2 hs.2.i1 hs.2.i2]
 unfold valR
 rw [if_pos h.ck,if_pos ⟨PT_of hs.1 hw.1 (by grind),PT_of hs.2 (by grind) hw.2,by rw [yf4,yf4];grind⟩,yf4,yf4,yLQ h ⟨hD.1,by omega⟩ hi.1 hi.2 hw.1 (Rat.le_of_lt hv) hw.2]
 rfl
theorem yrO (h:VC len cuts dens) {D:Int} (hD:1≤D∧D≤1000000000000) {l:List RS} (hs:∀ s∈l,smallS s) (hv:∀ s∈l,s.1<s.2) (hw:Wi len l) (hi:∀ s∈l,In D s.1∧In D s.2) (hl:l.length≤60) (z z':Int) (K:Int→Int→Int→Prop) :
   ∀ (r i n:Nat) (q:Rat),i+r=l.length→r<n→In D q→0≤q→q≤12000*((i:Int):Rat) →
     small (q+sumV (dV (vX cuts dens)) (l.drop i))∧ybG yap yaE ya0 ybn yaD (fun _ _ _ _ _ a b _ _ _ _=>K a b 0) (fun _ _ _ a b e=>K a b e) n len (ints cuts) (ints dens) z z' q.num q.den (rsp l) (l.length:Int) (i:Int)=K (q+sumV (dV (vX cuts dens)) (l.drop i)).num (q+sumV (dV (vX cuts dens)) (l.drop i)).den 0
 | 0,i,n+1,q,hir,hn,hq,q0,q1=>by
   obtain rfl:i=l.length:=by omega
   rw [List.drop_length]
   have e:q+sumV (dV (vX cuts dens)) []=q:=Rat.add_zero q
   have hb:((l.length:Int):Rat)≤60:=Rat.intCast_le_intCast.2 (show (l.length:Int)≤60 by omega)
   rw [e]
   refine ⟨hq.small (M:=720000) ⟨by omega,by omega⟩ (by omega) (by show -(720000:Rat)≤_;grind) (by show _≤(720000:Rat);grind),?_⟩
   rw [ybG,cbF (by omega)]
 | r+1,i,n+1,q,hir,hn,hq,q0,q1=>by
   have hil:i<l.length:=by omega
   have e1:=wib (n:=(i:Int)+1) (by omega) (by omega)
   have hd:l.drop i=l.getD i default::l.drop (i+1):=ycV default hil
   have hm:l.getD i default∈l:=yci default hil
   have hx:=hs _ hm
   have hx2:=hv _ hm
   have hx3:=hw _ hm
   have hx4:=hi _ hm
   rw [hd]
   have b1:=yH7 h hx2 hx3
   have b2:=dV_In (cuts:=cuts) (dens:=dens) hD.1 hx4
   have hc:((i+1:Nat):Int)=(i:Int)+1:=by omega
   have hc2:(((i+1:Nat):Int):Rat)=((i:Int):Rat)+1:=by rw [hc,Rat.intCast_add];rfl
   have hb:((i:Int):Rat)≤60:=Rat.intCast_le_intCast.2 (show (i:Int)≤60 by omega)
   have hv1:=yH8 h hD hx hx2 hx3 hx4
   have es:q+sumV (dV (vX cuts dens)) (l.getD i default::l.drop (i+1))=(q+dV (vX cuts dens) (l.getD i default))+sumV (dV (vX cuts dens)) (l.drop (i+1)):=by
     show q+(dV (vX cuts dens) (l.getD i default)+sumV (dV (vX cuts dens)) (l.drop (i+1)))=_
     grind
   have step:ybG yap yaE ya0 ybn yaD (fun _ _ _ _ _ a b _ _ _ _=>K a b 0) (fun _ _ _ a b e=>K a b e) (n+1) len (ints cuts) (ints dens) z z' q.num q.den (rsp l) (l.length:Int) (i:Int) =
       ybn len (ints cuts) (ints dens) (l.getD i default).1.num (l.getD i default).1.den (l.getD i default).2.num (l.getD i default).2.den (fun a b e=>cbr (e != 0) (K 0 0 e) (yaD q.num q.den a b (fun a b e=>cbr (e != 0) (K 0 0 e) (ybG yap yaE ya0 ybn yaD (fun _ _ _ _ _ a b _ _ _ _=>K a b 0) (fun _ _ _ a b e=>K a b e) n len (ints cuts) (ints dens) z z' a b (rsp l) (l.length:Int) ((i+1:Nat):Int))))):=by
     rw [ybG,cbT (by omega)]
     dsimp only [lt]
     rw [ydC,asT (by omega),asT (by omega),Int.toNat_natCast,ytv hil,asR,encR0,encR1,encR2,encR3,e1,cast1]
   rw [es,step,hv1,nz]
   generalize dV (vX cuts dens) (l.getD i default)=v at b1 b2
   have sq:small q:=hq.small (M:=720000) ⟨by omega,by omega⟩ (by omega) (by show -(720000:Rat)≤_;grind) (by show _≤(720000:Rat);grind)
   have sv:small v:=b2.small (M:=720000) ⟨by omega,by omega⟩ (by omega) (by show -(720000:Rat)≤_;grind) (by show _≤(720000:Rat);grind)
   have hb2:((i:Int):Rat)≤59:=Rat.intCast_le_intCast.2 (show (i:Int)≤59 by omega)
   have ss:small (q+v):=(hq.add b2).small (M:=720000) ⟨by omega,by omega⟩ (by omega) (by show -(720000:Rat)≤_;grind) (by show _≤(720000:Rat);grind)
   have ih:=yrO h hD hs hv hw hi hl z z' K r (i+1) n (q+v) (by omega) (by omega) (hq.add b2) (by grind) (by rw [hc2];grind)
   refine ⟨ih.1,?_⟩
   rw [yAR sq sv]
   unfold fitK
   rw [if_pos ss]
   dsimp only
   rw [nz]
   exact ih.2
theorem Pc.Worth_good {l:List RS} (p:Pc l) (h:VC len cuts dens) (hw:Wi len l) {D:Int} (hD:1≤D∧D≤1000000000000) (hi:∀ s∈l,In D s.1∧In D s.2) :
   small (sumV (dV (vX cuts dens)) l)∧∀ K,ycZ len (ints cuts) (ints dens) (rsp l) K=K (sumV (dV (vX cuts dens)) l).num (sumV (dV (vX cuts dens)) l).den 0:=by
 have l1:=h.l1;have l2:=h.l2;have l0:=h.len0;have hn:=p.n
 have g:=fun K=>yrO h hD p.s (ymf p.c) hw hi (by omega) 0 0 K l.length 0 (l.length+1) 0 (by omega) (by omega) (In.int hD.1 0) Rat.le_refl (by show (0:Rat)≤12000*0;grind)
 have g0:=(g fun _ _ _=>True).1
 rw [List.drop_zero,Rat.zero_add] at g0
 refine ⟨g0,fun K=>yAo _ _ _ _ _ _ _ (fun K k=>?_) K⟩
 have hl:=(g K).2
 rw [List.drop_zero,Rat.zero_add] at hl
 unfold ycZ yok
 rw [ynr (by omega) (by omega),h.ck,nz,p.check,nz]
 dsimp only [Go.Pf.jn,lt]
 rw [ydC]
 have fin:∃ n,ybG yap yaE ya0 ybn yaD (fun _ _ _ _ _ a b _ _ _ _=>K a b 0) (fun _ _ _ a b e=>K a b e) n len (ints cuts) (ints dens) 0 0 0 1 (rsp l) (l.length:Int) 0:=⟨l.length+1,hl.mpr k⟩
 by_cases hl0:l.length=0
 · rw [cbF (by omega),yab]
   exact fin
 · have h0:0<l.length:=by omega
   have m0:=yci (default:RS) h0
   have m1:=yci (default:RS) (show l.length-1<l.length by omega)
   have w0:=hw _ m0
   have w1:=hw _ m1
   have s1:=p.s _ m1
   have n0:0≤(l.getD 0 default).1.num:=Rat.num_nonneg.2 w0.1
   have e1:=wib (n:=(l.length:Int)-1) (by omega) (by omega)
   have et:((l.length:Int)-1).toNat=l.length-1:=by omega
   rw [cbT (by omega),asT (by omega),ytv h0,asR,encR0,cbF (by omega),e1,asT (by omega),asT (by omega),et,ytv (by omega),asR,encR2,encR3]
   have sl:small (len:Rat):=yhh (by omega)
   show ya0 (l.getD (l.length-1) default).2.num (l.getD (l.length-1) default).2.den (len:Rat).num ((len:Rat).den:Int) _
   rw [yHV s1.2 sl,yOx,cbF (by grind)]
   exact fin
end
theorem DV.Worth_good {cs:List Ck} {A:List (List RS)} (h:DV cs A) {D:Int} (hD:1≤D∧D≤1000000000000) (hi:InA D A) :
   (∀ c∈cs,∀ a∈A,Go.Pf.Vc.small (wV c a))∧∀ K,yat (cks cs) (rspL A) K=K (tabW cs A) 0:=by
 have h6:=h.d.n6;have h1:=h.d.n0;have hl:=h.l
 have e:pcsD (A.map rsp)=rspL A:=by
   unfold pcsD rspL
   rw [List.map_map]
   rfl
 have hall:∀ c∈cs,∀ a∈A,Go.Pf.Vc.small (wV c a)∧∀ K,ycZ c.len (ints c.cuts) (ints c.dens) (rsp a) K=K (wV c a).num (wV c a).den 0:=fun c hc a ha=>by
   obtain ⟨k1,k2⟩:=h.d.mem hc
   refine (h.p a ha).Worth_good k1 ?_ hD (hi a ha)
   rw [k2]
   exact h.wi a ha
 refine ⟨fun c hc a ha=>(hall c hc a ha).1,fun K=>?_⟩
 have hck:∀ K,yfL (cks cs) (pcsD (A.map rsp)) K=K 0:=fun K=>by rw [e];exact pCheckD h K
 have hf:∀ c∈cs,∀ a∈A,fW c (rsp a)=((wV c a).num,((wV c a).den:Int),0):=fun c hc a ha=>fW_eq (t:=((wV c a).num,((wV c a).den:Int),0)) (hall c hc a ha).2
 rw [← e]
 refine yNo (F:=fW) (by rw [List.length_map];exact hl) h1 h6 hck (fun c hc p hp K=>?_) (fun _=>⟨?_,rfl⟩) (fun c hc p hp hn=>?_) K
 · obtain ⟨a,ha,rfl⟩:=List.mem_map.1 hp
   rw [hf c hc a ha]
   exact (hall c hc a ha).2 K
 · unfold tabW
   refine List.map_congr_left fun c hc=>?_
   unfold rts
   rw [List.map_map,List.map_map]
   congr 1
   refine List.map_congr_left fun a ha=>?_
   show encW (wV c a)=.agg [.int .i64 (fW c (rsp a)).1,.int .i64 (fW c (rsp a)).2.1]
   rw [hf c hc a ha]
   rfl
 · obtain ⟨a,ha,rfl⟩:=List.mem_map.1 hp
   rw [hf c hc a ha] at hn
   exact absurd rfl hn
end Go.Pf.Vc
namespace Go.Pf.Vc
open Go Go.Pf
section
variable {cs:List Ck} {A:List (List RS)}
theorem yKP {cuts dens:List Int} {D:Int} (hD:1≤D):∀ {l:List RS},(∀ s∈l,In D s.1∧In D s.2)→In D (sumV (dV (vX cuts dens)) l)
 | [],_=>In.int hD 0
 | s::_,h=>(dV_In hD (h s List.mem_cons_self)).add (yKP hD fun t ht=>h t (List.mem_cons_of_mem _ ht))
theorem yCP {len:Int} {cuts dens:List Int} (hv:VC len cuts dens):∀ {l:List RS},(∀ s∈l,s.1<s.2)→Wi len l→0≤sumV (dV (vX cuts dens)) l∧sumV (dV (vX cuts dens)) l≤12000*((l.length:Int):Rat)
 | [],_,_=>⟨Rat.le_refl,by show (0:Rat)≤12000*0;grind⟩
 | s::r,h,hw=>by
   have a:=yH7 hv (h s List.mem_cons_self) (hw s List.mem_cons_self)
   have b:=yCP hv (l:=r) (fun t ht=>h t (List.mem_cons_of_mem _ ht)) (fun t ht=>hw t (List.mem_cons_of_mem _ ht))
   have hc:(((s::r).length:Int):Rat)=((r.length:Int):Rat)+1:=by
     rw [show ((s::r).length:Int)=(r.length:Int)+1 by rw [List.length_cons];omega,Rat.intCast_add];rfl
   rw [hc]
   show 0≤dV (vX cuts dens) s+sumV (dV (vX cuts dens)) r∧dV (vX cuts dens) s+sumV (dV (vX cuts dens)) r≤_
   grind
theorem DV.wV_bound (h:DV cs A) {i j:Nat} (hi:i<cs.length) (hj:j<cs.length):0≤wV (cs.getD i default) (A.getD j [])∧wV (cs.getD i default) (A.getD j [])≤720000:=by
 have hl:=h.l
 have hm:=yci [] (show j<A.length by omega)
 have hok:=h.d.ok i hi
 have hw:=h.wi _ hm
 rw [← h.d.len i hi] at hw
 have p:=h.p _ hm
 have b:=yCP hok (ymf p.c) hw
 have hn:(((A.getD j []).length:Int):Rat)≤60:=Rat.intCast_le_intCast.2 (show ((A.getD j []).length:Int)≤60 by have:=p.n;omega)
 unfold wV
 grind
theorem yLW (h:DV cs A) {D:Int} (hD:1≤D∧D≤100000000) (hi:InA D A) {j:Nat} (hj:j<cs.length):small (prt cs A j):=by
 have hl:=h.l
 have hok:=h.d.ok j hj
 have tb:=yhZ hok
 have tp:=yx8 hok
 have b:=h.wV_bound hj hj
 have hI:In D (wV (cs.getD j default) (A.getD j [])):=yKP hD.1 (hi _ (yci [] (by omega)))
 unfold prt
 generalize totC (cs.getD j default).cuts (cs.getD j default).dens=t at tb tp
 generalize wV (cs.getD j default) (A.getD j [])=w at b hI
 have h1:(1:Rat)≤(t:Rat):=Rat.intCast_le_intCast.2 (show (1:Int)≤t by omega)
 have t0:(t:Rat)≠0:=by grind
 have e:w / (t:Rat)*(t:Rat)=w:=Rat.div_mul_cancel t0
 have tD:t*D≤12000*D:=Int.mul_le_mul_of_nonneg_right tb.2 (by omega)
 have tD1:1*1≤t*D:=Int.mul_le_mul (by omega) hD.1 (by omega) (by omega)
 have p0:0≤w / (t:Rat):=Rat.not_lt.1 fun k=>by
   have:=Rat.mul_lt_mul_of_pos_right k (show (0:Rat)<(t:Rat) by grind)
   grind
 have p1:w / (t:Rat)≤720000:=by
   have:=Rat.mul_le_mul_of_nonneg_left h1 p0
   grind
 exact (hI.div hD.1 (d:=t) (by omega)).small (M:=720000) ⟨by omega,by omega⟩ (by omega) (by show -(720000:Rat)≤_;grind) (by show _≤(720000:Rat);grind)
theorem DV.Make_of (h:DV cs A) (hw:∀ c∈cs,∀ a∈A,Go.Pf.Vc.small (wV c a)) (he:∀ K,yat (cks cs) (rspL A) K=K (tabW cs A) 0) (hs:∀ j,j<cs.length→Go.Pf.Vc.small (prt cs A j)) (K:Int→List PV→Int→Prop) :
   yfE (cks cs) (rspL A) K=K (claimsM cs A (prtL cs A cs.length) (gapD cs A)) (tabW cs A) 0:=by
 refine yCf _ _ _ _ _ (fun K k=>?_) K
 unfold yfE ypS
 rw [he]
 show cbr false _ _
 rw [yab]
 dsimp only [Go.Pf.jn]
 rw [ybc]
 refine ⟨cs.length+1,(yzp h hw _ _ _ _ (YY:=K 0 [] 16) rfl (fun _=>rfl)).mpr ?_⟩
 rcases yCL (cs:=cs) (A:=A) cs.length 0 with ⟨_,e⟩ | ⟨hn,_⟩
 · refine e.mpr ?_
   show cbr false _ _
   rw [yab,show (decide ((rts (prtL cs A cs.length)).length=(rts (prtL cs A cs.length)).length)&&decide ((rts (prtL cs A cs.length)).length=(rts (prtL cs A cs.length)).length))=true by simp,yaA]
   refine ⟨6,?_⟩
   have hP:=yH5 cs A cs.length
   have hg:=h.gapD_eq (tabW cs A) (rts (prtL cs A cs.length))
   have s:=fun (n i:Nat) (hi:i<5) (acc:Int)=>yLV h hw hP hg (fun f g l m o b d p q=>K b d (0:Int)) (n:=n) hi 0 acc (tabW cs A)
   refine (s 5 0 (by omega) 0).mpr ((s 4 1 (by omega) _).mpr ((s 3 2 (by omega) _).mpr ((s 2 3 (by omega) _).mpr ((s 1 4 (by omega) _).mpr ?_))))
   rw [ycM,cbF (by omega)]
   exact k
 · exact absurd (fun j h1 h2=>hs j (by omega)) hn
theorem DV.good (h:DV cs A) {D:Int} (hD:1≤D∧D≤100000000) (hi:InA D A) :
   (∀ c∈cs,∀ a∈A,Go.Pf.Vc.small (wV c a))∧(∀ K,yat (cks cs) (rspL A) K=K (tabW cs A) 0)∧(∀ j,j<cs.length→Go.Pf.Vc.small (prt cs A j)) ∧
   ∀ K,yfE (cks cs) (rspL A) K=K (claimsM cs A (prtL cs A cs.length) (gapD cs A)) (tabW cs A) 0:=by
 obtain ⟨h1,h2⟩:=h.Worth_good (D:=D) ⟨hD.1,by omega⟩ hi
 have h3:=fun j (hj:j<cs.length)=>yLW h hD hi hj
 exact ⟨h1,h2,h3,h.Make_of h1 h2 h3⟩
end
end Go.Pf.Vc
namespace Go.Pf.Vc
open Go Go.Pf
section
variable {cs:List Ck} {A:List (List RS)}
theorem ywp {o:Option (Nat×Nat)}:(outS3 o).2.2=false↔o=none:=by
 cases o with
 | none=>exact ⟨fun _=>rfl,fun _=>rfl⟩
 | some q=>obtain ⟨a,b⟩:=q;exact ⟨(fun h=>by cases h),(fun h=>by cases h)⟩
theorem ytw {P:List Rat} {g:Bool}:(brk cs A P g 1).2.2=false↔scanA (wr0 A) cs.length cs.length 0=none∧g=false:=by
 have e:brk cs A P g 1=(match scanA (wr0 A) cs.length cs.length 0 with | some (a,b)=>((a:Int),(b:Int),true) | none=>if g then (-1,-1,true) else (0,0,false)):=rfl
 rw [e]
 cases scanA (wr0 A) cs.length cs.length 0 with
 | some q=>obtain ⟨a,b⟩:=q;exact ⟨(fun h=>by cases h),(fun h=>by cases h.1)⟩
 | none=>cases g <;> simp
theorem ytx {P:List Rat} {g:Bool}:(brk cs A P g 2).2.2=false↔∀ a,a<cs.length→shareQ cs a≤wV (cs.getD a default) (A.getD a []):=by
 have e:brk cs A P g 2=outS3 (scanA (wr1 cs A) cs.length cs.length 0):=rfl
 rw [e,ywp,ylj]
 constructor
 · intro h a ha
   have:=h a (by omega) (by omega) a ha
   unfold wr1 at this
   rw [decide_eq_true rfl,Bool.true_and,decide_eq_false_iff_not] at this
   exact Rat.not_lt.1 this
 · intro h a _ ha b hb
   unfold wr1
   by_cases hab:a=b
   · have:=h a (by omega)
     rw [decide_eq_false (Rat.not_lt.2 this),Bool.and_false]
   · rw [decide_eq_false hab,Bool.false_and]
theorem ywq {P:List Rat} {g:Bool}:(brk cs A P g 4).2.2=false↔∀ a b,a<cs.length→b<cs.length→wV (cs.getD a default) (A.getD b [])≤wV (cs.getD a default) (A.getD a []):=by
 have e:brk cs A P g 4=outS3 (scanA (wr2 cs A) cs.length cs.length 0):=rfl
 rw [e,ywp,ylj]
 constructor
 · intro h a b ha hb
   have:=h a (by omega) (by omega) b hb
   unfold wr2 at this
   rw [decide_eq_false_iff_not] at this
   exact Rat.not_lt.1 this
 · intro h a _ ha b hb
   unfold wr2
   exact decide_eq_false (Rat.not_lt.2 (h a b (by omega) hb))
theorem yNt (h:DV cs A) {i:Nat} (hi:i<cs.length) (hn:scanA (wr0 A) cs.length cs.length 0=none) (hg:gapD cs A=false):(A.map (wV (cs.getD i default))).sum=((totC (cs.getD i default).cuts (cs.getD i default).dens:Int):Rat):=by
 rw [← h.whole hn hg hi,yH1]
 rfl
theorem yLX (cs:List Ck) (a:Nat) (h:1≤cs.length):((cs.length:Int):Rat)*shareQ cs a=((totC (cs.getD a default).cuts (cs.getD a default).dens:Int):Rat):=by
 unfold shareQ
 rw [Rat.mul_comm]
 exact Rat.div_mul_cancel (rne (by omega))
theorem yH9 (h:DV cs A) {P:List Rat} (h1:(brk cs A P (gapD cs A) 1).2.2=false) (h2:(brk cs A P (gapD cs A) 2).2.2=false) (hn:cs.length=2):(brk cs A P (gapD cs A) 4).2.2=false:=by
 rw [ytw] at h1
 rw [ytx] at h2
 rw [ywq]
 intro a b ha hb
 have hl:=h.l
 have hs:=yNt h ha h1.1 h1.2
 have hm:=yLX cs a (by omega)
 have hq:=h2 a ha
 obtain ⟨x,r,rfl,hr⟩:=yaM (show A.length=1+1 by omega)
 obtain ⟨y,r2,rfl,hr2⟩:=yaM hr
 obtain rfl:=List.eq_nil_of_length_eq_zero hr2
 have e2:((cs.length:Int):Rat)=2:=by rw [hn];rfl
 rw [e2] at hm
 have hs:wV (cs.getD a default) x+(wV (cs.getD a default) y+0)=_:=hs
 obtain rfl | rfl:a=0∨a=1:=by omega
 all_goals obtain rfl | rfl:b=0∨b=1:=by omega
 · exact Rat.le_refl
 · show wV (cs.getD 0 default) y≤wV (cs.getD 0 default) x
   have hq:shareQ cs 0≤wV (cs.getD 0 default) x:=hq
   grind
 · show wV (cs.getD 1 default) x≤wV (cs.getD 1 default) y
   have hq:shareQ cs 1≤wV (cs.getD 1 default) y:=hq
   grind
 · exact Rat.le_refl
end
end Go.Pf.Vc
namespace Go.Pf.Vc
open Go Go.Pf
theorem yz1 {l:List Rat} (hl:l.length<1000) {K:Bool→Prop} :
   ∀ (r i n:Nat),i+r=l.length→r<n→yaH (fun _ _ _ _ _=>K true) (fun b=>K b) n (rts l) (rts l) (l.length:Int) (i:Int)=K true
 | 0,i,n+1,hi,hn=>by
   rw [yaH,cbF (by omega)]
 | r+1,i,n+1,hi,hn=>by
   have e1:=wib (n:=(i:Int)+1) (by omega) (by omega)
   have ih:=yz1 hl (K:=K) r (i+1) n (by omega) (by omega)
   rw [yaH]
   dsimp only [lt]
   rw [cbT (by omega),ynm,asT (by omega),asT (by omega),Int.toNat_natCast,yrr (by omega),asW,asT (by omega),asT (by omega),asW,encW0,encW1,e1,cast1,ih]
   have eb:∀ a b:Int,(!((a == a)&&((b == b)&&true)))=false:=fun a b=>by simp
   rw [eb,yab]
theorem yIa {l:List Rat} (hl:l.length<1000) (K:Bool→Prop):yam (rts l) (rts l) K=K true:=by
 refine yks _ _ _ (fun K k=>?_) K
 unfold yam ydX
 rw [ynm,cnF rfl]
 exact ⟨l.length+1,(yz1 hl (K:=K) l.length 0 (l.length+1) (by omega) (by omega)).mpr k⟩
section
variable {cs:List Ck} {A:List (List RS)}
theorem yER (h:DV cs A) {a0 a2 a3 a4 a5} (x0:List PV→List PV→List PV→List PV→List PV→Int→Int→Bool→Prop) (x1:List PV→List PV→List PV→Bool→Prop) :
   ∀ (r i n:Nat),i+r=cs.length→r<n→ycy a0 yam a2 a3 a4 a5 x0 x1 n (cks cs) (rspL A) (tabW cs A) (tabW cs A) (tabW cs A) (cs.length:Int) (i:Int)=x0 (cks cs) (rspL A) (tabW cs A) (tabW cs A) (tabW cs A) (cs.length:Int) (cs.length:Int) false
 | 0,i,n+1,hi,hn=>by
   obtain rfl:i=cs.length:=by omega
   rw [ycy,cbF (by omega)]
 | r+1,i,n+1,hi,hn=>by
   have h6:=h.d.n6;have hl:=h.l
   have e1:=wib (n:=(i:Int)+1) (by omega) (by omega)
   have ih:=yER h (a0:=a0) (a2:=a2) (a3:=a3) (a4:=a4) (a5:=a5) x0 x1 r (i+1) n (by omega) (by omega)
   rw [ycy]
   dsimp only [lt]
   rw [cbT (by omega),yoN,asT (by omega),asT (by omega),Int.toNat_natCast,ytS (by omega),asD,asT (by omega),asT (by omega),asD,datD,yIa (by rw [List.length_map];omega),e1,cast1,Bool.not_true,yab,ih]
def hasC (c:Int) (i:Nat):Bool:=andU8 (Int.fdiv c (2 ^ (min ((i:Int)).toNat IntKind.u8.bits))) 1 == 0
theorem yLY (h:DV cs A) (hw:∀ c∈cs,∀ a∈A,Go.Pf.Vc.small (wV c a)) {a0 a1 a2 a3 a4} (x0:List PV→List PV→List PV→Int→List PV→Int→Bool→Prop) (x1:List PV→List PV→List PV→Bool→Int→Prop) {c:Int} {l4:List PV} {n i:Nat} (hi:i<5)
   (hb:hasC c i=false→bitC i≠8∧(brk cs A [] (gapD cs A) (bitC i)).2.2=false) :
   ycc a0 a1 a2 a3 a4 yai x0 x1 (n+1) (cks cs) (rspL A) (tabW cs A) c l4 (i:Int)=ycc a0 a1 a2 a3 a4 yai x0 x1 n (cks cs) (rspL A) (tabW cs A) c l4 ((i+1:Nat):Int):=by
 have e1:=wib (n:=(i:Int)+1) (by omega) (by omega)
 have hn:(!decide ((i:Int)<0))=true:=by rw [decide_eq_false (by omega)];rfl
 rw [ycc]
 dsimp only [lt,Go.Pf.jn]
 rw [cbT (by omega),hn,yaA,yaA,yKO hi,e1,cast1]
 show cbr (hasC c i) _ _=_
 cases hc:hasC c i with
 | true=>rw [yah]
 | false =>
   obtain ⟨h8,hf⟩:=hb hc
   have hg:=yEP h hw (P:=[]) (c:=bitC i) (fun e=>absurd e h8) (yNs i) (g:=gapD cs A) (fun K=>h.gapD_eq (tabW cs A) (rts []) K)
   have hg:∀ K,yai (cks cs) (rspL A) (tabW cs A) [] (bitC i) K=_:=hg
   rw [yab,hg,hf,yab]
end
end Go.Pf.Vc
