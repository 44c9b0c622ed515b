/- Part 5. -/
import Derived.Test.YtijdgcomldpncaaGreatTfW4
namespace Go.Pf.Vc
open Go Go.Pf
theorem yLu {q r:Rat} {Z:Int} {g:Nat} (e1:(q+r).num=Z / (Nat.gcd Z.natAbs g:Nat)) (e2:(q+r).den=(q.den / g)*r.den / Nat.gcd Z.natAbs g) (hgp:0<g) (hgd:g∣r.den) (K:Int→Int→Int→Prop) :
  outA (decide (Z<0)) (Z.natAbs:Int) q.den r.den g K=fitK (q+r) K:=by
 unfold outA
 by_cases h0:Z=0
 ·subst h0
  have:(q+r)=0:=by
   apply Rat.num_eq_zero.1
   rw [e1];simp
  rw [this,if_pos (by rfl)]
  unfold fitK
  rw [if_pos (by decide)];rfl
 ·have hne:¬((Z.natAbs:Nat):Int)=0:=by omega
  rw [if_neg hne]
  have hdv:((Nat.gcd Z.natAbs g:Nat):Int)∣Z:=ymC _ _
  have hhp:0<Nat.gcd Z.natAbs g:=qB4 _ hgp
  have hhg:Nat.gcd Z.natAbs g∣r.den:=Nat.dvd_trans (Nat.gcd_dvd_right _ _) hgd
  refine yzS ?_ ?_ ?_ K
  ·rw [e1,Int.natAbs_ediv_of_dvd hdv];simp
  ·rw [e2];simp only [qAe];rw [Nat.mul_div_assoc _ hhg]
  ·intro h
   rw [e1]
   obtain ⟨k,hk⟩:=hdv
   revert hhp hk
   generalize Nat.gcd Z.natAbs g=h
   intro hhp hk
   have e:Z / (h:Int)=k:=by rw [hk,Int.mul_ediv_cancel_left _ (by omega)]
   rw [e]
   have:Z<0↔k<0:=by
    rw [hk]
    constructor
    ·intro hk;refine Int.not_le.1 fun hk2=>?_
     have:=qBf (show 0≤(h:Int) by omega) hk2
     omega
    ·intro hk;exact Int.mul_neg_of_pos_of_neg (by omega) hk
   simp only [this]
theorem yIP (q r:Rat) (K:Int→Int→Int→Prop) :
  outA (decide (q.num*((r.den:Int) / (Nat.gcd (q.den:Int).natAbs (r.den:Int).natAbs:Nat))+r.num*((q.den:Int) / (Nat.gcd (q.den:Int).natAbs (r.den:Int).natAbs:Nat))<0))
   ((q.num*((r.den:Int) / (Nat.gcd (q.den:Int).natAbs (r.den:Int).natAbs:Nat))+r.num*((q.den:Int) / (Nat.gcd (q.den:Int).natAbs (r.den:Int).natAbs:Nat))).natAbs:Int) q.den r.den (Nat.gcd (q.den:Int).natAbs (r.den:Int).natAbs) K=fitK (q+r) K:=by
 obtain ⟨e1,e2⟩:=yJ3 q r
 rw [qBx,qBx] at e1 e2
 exact yLu e1 e2 (Nat.gcd_pos_of_pos_left _ q.den_pos) (Nat.gcd_dvd_right _ _) K
theorem yxW {q r:Rat} (hq:small q) (hr:small r) (K:Int→Int→Int→Prop):yaU q.num q.den r.num r.den K=fitK (q+r) K :=
 yuK (fun r0 r1 r2 h K=>yAJ _ _ _ _ r0 r1 r2 h K) (fun K k=>yLp hq.i1 hq.i2 hr.i1 hr.i2 (by rw [if_pos (ykD hq hr),yIP];exact k)) K
theorem yxX {q r:Rat} (hq:small q) (hr:small r) (K:Int→Int→Int→Prop):ybW q.num q.den r.num r.den K=fitK (q-r) K :=
 yuK (fun r0 r1 r2 h K=>yAK _ _ _ _ r0 r1 r2 h K) (fun K k=>yOq hq.i1 hq.i2 hr.i1 hr.i2 (by
  rw [if_pos (ykD hq hr)]
  rw [Rat.sub_eq_add_neg,← yIP] at k
  exact k)) K
theorem yLv {n d:Int} (hd:d≠0) (K:Int→Int→Int→Prop):outS (decide (n<0) != decide (d<0)) ((n.natAbs / Nat.gcd n.natAbs d.natAbs:Nat):Int) ((d.natAbs / Nat.gcd n.natAbs d.natAbs:Nat):Int) K=fitK ((n:Rat) / (d:Rat)) K:=by
 have e:(n:Rat) / (d:Rat)=mkRat (if d<0 then -n else n) d.natAbs:=by
  rw [Rat.mkRat_eq_div]
  split
  ·rename_i h
   have h1:((d.natAbs:Nat):Int)=-d:=by omega
   have h2:((d.natAbs:Nat):Rat)=-(d:Rat):=by rw [← Rat.intCast_natCast,h1,Rat.intCast_neg]
   rw [h2,Rat.intCast_neg]
   have h3:(d:Rat)≠0:=fun e=>hd (Rat.intCast_eq_zero_iff.1 e)
   grind
  ·rename_i h
   have h1:((d.natAbs:Nat):Int)=d:=by omega
   have h2:((d.natAbs:Nat):Rat)=(d:Rat):=by rw [← Rat.intCast_natCast,h1]
   rw [h2]
 have h0:d.natAbs≠0:=by omega
 have hab:(if d<0 then -n else n).natAbs=n.natAbs:=by split <;> omega
 rw [e]
 refine yzS ?_ ?_ ?_ K
 ·rw [Rat.num_mkRat,if_neg h0,hab,Int.natAbs_ediv_of_dvd,Int.natAbs_natCast,hab,Nat.gcd_comm]
  rw [← Int.dvd_natAbs,Int.ofNat_dvd,hab];exact Nat.gcd_dvd_right _ _
 ·rw [Rat.den_mkRat,if_neg h0,hab,Nat.gcd_comm]
 ·rw [Rat.num_mkRat,if_neg h0,hab]
  have hdv:((Nat.gcd d.natAbs n.natAbs:Nat):Int)∣(if d<0 then -n else n):=by
   rw [← Int.dvd_natAbs,Int.ofNat_dvd,hab];exact Nat.gcd_dvd_right _ _
  have hp:0<Nat.gcd d.natAbs n.natAbs:=Nat.gcd_pos_of_pos_left _ (by omega)
  obtain ⟨k,hk⟩:=hdv
  rw [hk,Int.mul_ediv_cancel_left _ (by omega)]
  intro hk0
  generalize Nat.gcd d.natAbs n.natAbs=g at *
  have h1:(g:Int)*k<0↔k<0:=by
   constructor
   ·intro hk;refine Int.not_le.1 fun hk2=>?_
    have:=qBf (show 0≤(g:Int) by omega) hk2
    omega
   ·intro hk;exact Int.mul_neg_of_pos_of_neg (by omega) hk
  have h2:(g:Int)*k≠0:=fun e=>by rcases Int.mul_eq_zero.1 e with e | e <;> omega
  by_cases hd2:d<0
  ·rw [if_pos hd2] at hk
   by_cases hn:n<0
   ·have:¬k<0:=by omega
    simp [hd2,hn,this]
   ·have:k<0:=by omega
    simp [hd2,this];omega
  ·rw [if_neg hd2] at hk
   by_cases hn:n<0
   ·have:k<0:=by omega
    simp [hd2,hn,this]
   ·have:¬k<0:=by omega
    simp [hd2,this];omega
theorem yFZ {n d:Int} (hn:I64 n) (hd:I64 d) (h0:d≠0) (K:Int→Int→Int→Prop):yao n d K=fitK ((n:Rat) / (d:Rat)) K :=
 yuK (fun r0 r1 r2 h K=>yzi _ _ r0 r1 r2 h K) (fun K k=>Make_of hn hd (by rw [if_neg h0,yLv h0];exact k)) K
def cmpQ (q r:Rat):Int:=if q<r then -1 else if r<q then 1 else 0
theorem yIQ (q r:Rat):cmpR q.num q.den r.num r.den=cmpQ q r:=by
 unfold cmpR cmp3 cmpQ
 simp only [Rat.lt_iff]
theorem yuL {q r:Rat} (hq:small q) (hr:small r) (K:Int→Int→Prop):yc0 q.num q.den r.num r.den K=K (cmpQ q r) 0 :=
 yAI _ _ _ _ _ _ (fun K k=>yLk hq.i1 hq.i2 hr.i1 hr.i2 (by rw [ykD hq hr,if_pos rfl,yIQ];exact k)) K
theorem yCb {n d:Int} (hn:I64 n) (hd:I64 d) (K:Int→Prop):ybM n d K=K (chk n d) :=
 yw5 _ _ _ (fun _ k=>yzO hn hd k) K
theorem yOW {a b:Int} (h:a=b):(a != b)=false:=by simp [h]
theorem yOX {a b:Int} (h:a≠b):(a != b)=true:=by simp [h]
theorem yLw {a b:Int} (h:a≠b):(a == b)=false:=by simp [h]
theorem yOY {a b:Int} (h:a=b):(a == b)=true:=by simp [h]
theorem cbT {c:Prop} [Decidable c] {P Q:Prop} (h:c):cbr (decide c) P Q=P:=by rw [decide_eq_true h,yam]
theorem cbF {c:Prop} [Decidable c] {P Q:Prop} (h:¬c):cbr (decide c) P Q=Q:=by rw [decide_eq_false h,yae]
theorem cnT {a b:Int} {P Q:Prop} (h:a≠b):cbr (a != b) P Q=P:=by rw [yOX h,yam]
theorem cnF {a b:Int} {P Q:Prop} (h:a=b):cbr (a != b) P Q=Q:=by rw [yOW h,yae]
theorem ceT {a b:Int} {P Q:Prop} (h:a=b):cbr (a == b) P Q=P:=by rw [yOY h,yam]
theorem ceF {a b:Int} {P Q:Prop} (h:a≠b):cbr (a == b) P Q=Q:=by rw [yLw h,yae]
theorem asT {c:Prop} [Decidable c] {P:Prop} (h:c):asr (decide c) P=P:=by rw [decide_eq_true h,yau]
theorem asC {l:List Int} {i:Nat} {P:Prop} (h:i<l.length):asr (conf zI (List.getD (ints l) i .nils)) P=P:=by rw [yie h,yau]
theorem wib {n:Int} (h1:-9223372036854775808≤n) (h2:n≤9223372036854775807):IntKind.i64.wrap n=n:=wi64 ⟨h1,h2⟩
theorem yc3 (i:Nat):(i:Int)+1=((i+1:Nat):Int):=by omega
theorem yfa {x:Int} (h:-1000000000000000000≤x∧x≤1000000000000000000):small (x:Rat):=by
 unfold small
 rw [Rat.num_intCast,Rat.den_intCast]
 omega
def allD (dens:List Int):Prop:=∀ d∈dens,0≤d∧d≤12
def yzT (dens:List Int):Prop:=∃ d∈dens,0<d
instance (l:List Int):Decidable (allD l):=by unfold allD;infer_instance
instance (l:List Int):Decidable (yzT l):=by unfold yzT;infer_instance
def VC (len:Int) (cuts dens:List Int):Prop :=
 1≤len∧len≤1000∧2≤cuts.length∧cuts.length≤40∧dens.length+1=cuts.length∧cuts.getD 0 0=0∧cuts.getD (cuts.length-1) 0=len∧incr cuts 0∧allD dens∧yzT dens
theorem yLx (l:List Int):incr l 0↔∀ j,j<l.length→j+1<l.length→l.getD j 0<l.getD (j+1) 0:=⟨fun h j _ h2=>h j (by omega) h2,fun h j _ h2=>h j (by omega) h2⟩
instance (l:List Int):Decidable (incr l 0):=decidable_of_iff _ (yLx l).symm
instance (len:Int) (cuts dens:List Int):Decidable (VC len cuts dens):=by unfold VC;infer_instance
def ckC (len:Int) (cuts dens:List Int):Int:=if len>1000∨cuts.length>40 then 4 else if VC len cuts dens then 0 else 8
theorem yIR (l:List Int) (x:Int):(l.foldl mnf x<0)↔¬(∀ d∈x::l,0≤d):=by
 induction l generalizing x with
 | nil=>simp
 | cons y t ih =>
  rw [List.foldl_cons,ih]
  unfold mnf
  simp only [List.forall_mem_cons]
  split
  ·constructor
   ·intro h h2;exact h ⟨h2.2.1,h2.2.2⟩
   ·intro h h2;exact h ⟨by omega,h2.1,h2.2⟩
  ·constructor
   ·intro h h2;exact h ⟨h2.1,h2.2.2⟩
   ·intro h h2;exact h ⟨h2.1,by omega,h2.2⟩
theorem yuM (l:List Int) (x k:Int):(l.foldl mxf x>k)↔¬(∀ d∈x::l,d≤k):=by
 induction l generalizing x with
 | nil=>simp
 | cons y t ih =>
  rw [List.foldl_cons,ih]
  unfold mxf
  simp only [List.forall_mem_cons]
  split
  ·constructor
   ·intro h h2;exact h ⟨h2.2.1,h2.2.2⟩
   ·intro h h2;exact h ⟨by omega,h2.1,h2.2⟩
  ·constructor
   ·intro h h2;exact h ⟨h2.1,h2.2.2⟩
   ·intro h h2;exact h ⟨h2.1,by omega,h2.2⟩
theorem yjI {len:Int} {cuts dens:List Int} (h1:cuts.length<4611686018427387904) (h2:dens.length<4611686018427387904) (K:Int→Prop) :
  yaC len (ints cuts) (ints dens) K=K (ckC len cuts dens):=by
 refine yzj _ _ _ _ (fun K k=>?_) K
 unfold yaC yll
 simp only [ybx]
 have bad:¬(len>1000∨cuts.length>40)→¬VC len cuts dens→K 8:=fun h h2=>by
  rw [ckC,if_neg h,if_neg h2] at k;exact k
 by_cases a1:len>1000
 ·rw [cbT a1];rw [ckC,if_pos (.inl a1)] at k;exact k
 rw [cbF a1]
 by_cases a2:cuts.length>40
 ·rw [cbT (by omega)];rw [ckC,if_pos (.inr a2)] at k;exact k
 have a12:¬(len>1000∨cuts.length>40):=by omega
 rw [cbF (by omega)]
 by_cases a3:len<1
 ·rw [cbT a3];exact bad a12 (fun h=>by have:=h.1;omega)
 rw [cbF a3]
 by_cases a4:cuts.length<2
 ·rw [cbT (by omega)];exact bad a12 (fun h=>by have:=h.2.2.1;omega)
 rw [cbF (by omega),wib (n:=(cuts.length:Int)-1) (by omega) (by omega)]
 by_cases a5:dens.length+1=cuts.length
 case neg=>rw [cnT (by omega)];exact bad a12 (fun h=>a5 h.2.2.2.2.1)
 rw [cnF (by omega),asT (by omega),asC (by omega),ydw (by omega)]
 by_cases a6:cuts.getD 0 0=0
 case neg=>rw [cnT a6];exact bad a12 (fun h=>a6 h.2.2.2.2.2.1)
 rw [cnF a6,asT (by omega),asT (by omega),asC (by omega),ydw (by omega)]
 have en:((cuts.length:Int)-1).toNat=cuts.length-1:=by omega
 rw [en]
 by_cases a7:cuts.getD (cuts.length-1) 0=len
 case neg=>rw [cnT a7];exact bad a12 (fun h=>a7 h.2.2.2.2.2.2.1)
 rw [cnF a7]
 refine ⟨cuts.length+1,?_⟩
 refine yHR (by omega) _ _ _ _ (cuts.length-1) 0 _ (by omega) (by omega) (fun hi=>?_) (fun hi=>bad a12 (fun h=>hi h.2.2.2.2.2.2.2.1))
 obtain ⟨x,t,e⟩:∃ x t,dens=x::t:=by
  cases dens with
  | nil=>exfalso;have:([]:List Int).length=0:=rfl;omega
  | cons x t=>exact ⟨x,t,rfl⟩
 refine yOr (by omega) e ?_
 by_cases b1:t.foldl mnf x<0
 ·rw [cbT b1]
  rw [yIR] at b1
  exact bad a12 (fun h=>b1 fun d hd=>(h.2.2.2.2.2.2.2.2.1 d (by rw [e];exact hd)).1)
 rw [cbF b1]
 refine yLs (by omega) e ?_
 by_cases b2:t.foldl mxf x>12
 ·rw [cbT b2]
  rw [yuM] at b2
  exact bad a12 (fun h=>b2 fun d hd=>(h.2.2.2.2.2.2.2.2.1 d (by rw [e];exact hd)).2)
 rw [cbF b2]
 refine yLs (by omega) e ?_
 have c1:∀ d∈dens,0≤d:=by rw [yIR,Classical.not_not,← e] at b1;exact b1
 have c2:∀ d∈dens,d≤12:=by rw [yuM,Classical.not_not,← e] at b2;exact b2
 by_cases b3:t.foldl mxf x=0
 ·rw [ceT b3]
  refine bad a12 (fun h=>?_)
  obtain ⟨d,hd,h0⟩:=h.2.2.2.2.2.2.2.2.2
  have:¬(t.foldl mxf x>0):=by omega
  rw [yuM,Classical.not_not,← e] at this
  have:=this d hd
  omega
 ·rw [ceF b3]
  have b4:t.foldl mxf x>0:=by
   refine Int.not_le.1 fun hle=>b3 ?_
   have:t.foldl mxf x>-1:=by
    rw [yuM]
    intro h
    have h1:=h x (qAi ..)
    have h2:=c1 x (by rw [e];exact qAi ..)
    omega
   omega
  rw [yuM,← e] at b4
  have b5:yzT dens:=by
   refine Classical.byContradiction fun hn=>b4 fun d hd=>?_
   exact Int.not_lt.1 fun hlt=>hn ⟨d,hd,hlt⟩
  rw [ckC,if_neg a12,if_pos ⟨by omega,by omega,by omega,by omega,a5,a6,a7,hi,fun d hd=>⟨c1 d hd,c2 d hd⟩,b5⟩] at k
  exact k
theorem yhI (n:Int) (K:Int→Int→Prop):ycv n K=K (n:Rat).num (n:Rat).den:=rfl
theorem ygb {q r:Rat} (hq:small q) (hr:small r) (K:Bool→Prop):ycF q.num q.den r.num r.den K=K (decide (q<r)):=by
 unfold ycF ynC
 rw [yuL hq hr]
 congr 1
 rw [decide_eq_decide,cmpQ]
 by_cases h:q<r
 ·simp [h]
 ·by_cases h2:r<q <;> simp [h,h2]
def PT (len:Int) (n d:Int):Prop:=RV n d∧0≤n∧n≤len*d
instance (len n d:Int):Decidable (PT len n d):=by unfold PT;infer_instance
theorem yOs {len n d:Int} (h:PT len n d):∃ q:Rat,small q∧q.num=n∧(q.den:Int)=d∧0≤q∧q≤(len:Rat):=by
 obtain ⟨h1,h2,h3⟩:=h
 obtain ⟨q,e1,e2,e3⟩:=yHS h1
 refine ⟨q,e1,e2,e3,?_,?_⟩
 ·rw [← Rat.num_nonneg,e2];exact h2
 ·rw [Rat.le_iff,e2,e3,Rat.num_intCast,Rat.den_intCast];simpa using h3
theorem yHT (x:Int) (q:Rat):((x:Rat)<q)↔x*(q.den:Int)<q.num:=by
 rw [Rat.lt_iff,Rat.num_intCast,Rat.den_intCast];simp
theorem yzU {len:Int} (hl:-1000000000000000000≤len∧len≤1000000000000000000) {n d:Int} (hn:I64 n) (hd:I64 d) (a b:List PV) (K:Bool→Prop) :
  ycx len a b n d K=K (decide (PT len n d)):=by
 unfold ycx ylo
 rw [yCb hn hd]
 by_cases h:RV n d
 ·obtain ⟨q,e1,e2,e3⟩:=yHS h
  rw [chk,if_pos h,ceT rfl]
  by_cases h0:n≥0
  ·rw [cbT h0,yhI,← e2,← e3,ygb (yfa hl) e1]
   congr 1
   have:((len:Rat)<q)↔len*(q.den:Int)<q.num:=yHT _ _
   by_cases h3:(len:Rat)<q
   ·have h4:=this.1 h3
    rw [decide_eq_true h3,decide_eq_false];rfl
    intro hp;have:=hp.2.2;omega
   ·have h4:¬_:=fun x=>h3 (this.2 x)
    rw [decide_eq_false h3,decide_eq_true];rfl
    exact ⟨e1.rv,by omega,by omega⟩
  ·rw [cbF h0,decide_eq_false]
   intro hp;have:=hp.2.1;omega
 ·rw [chk,if_neg h,ceF (by decide),decide_eq_false]
  intro hp;exact h hp.1
section
variable {len:Int} {cuts dens:List Int}
theorem VC.step (h:VC len cuts dens) {i:Nat} (hi:i+1<cuts.length):cuts.getD i 0<cuts.getD (i+1) 0:=h.2.2.2.2.2.2.2.1 i (qBg _) hi
theorem VC.mono (h:VC len cuts dens) {i:Nat}:∀ {j:Nat},i≤j→j<cuts.length→cuts.getD i 0≤cuts.getD j 0
 | 0,hij,_=>by
  have:i=0:=by omega
  subst this;exact Int.le_refl _
 | j+1,hij,hj=>by
  by_cases e:i=j+1
  ·subst e;exact Int.le_refl _
  ·have h1:=h.mono (i:=i) (j:=j) (by omega) (by omega)
   have h2:=h.step (i:=j) hj
   omega
theorem VC.lo (h:VC len cuts dens) {i:Nat} (hi:i<cuts.length):0≤cuts.getD i 0:=by
 have:=h.mono (qBg i) hi
 rw [h.2.2.2.2.2.1] at this;exact this
theorem VC.hi (h:VC len cuts dens) {i:Nat} (hi:i<cuts.length):cuts.getD i 0≤len:=by
 have:=h.mono (i:=i) (j:=cuts.length-1) (by omega) (by omega)
 rw [h.2.2.2.2.2.2.1] at this;exact this
theorem VC.den (h:VC len cuts dens) {i:Nat} (hi:i<dens.length):0≤dens.getD i 0∧dens.getD i 0≤12:=by
 rw [qAb,qAa hi]
 exact h.2.2.2.2.2.2.2.2.1 _ (qBw hi)
theorem VC.l1 (h:VC len cuts dens):dens.length+1=cuts.length:=h.2.2.2.2.1
theorem VC.l2 (h:VC len cuts dens):cuts.length≤40:=h.2.2.2.1
theorem VC.len0 (h:VC len cuts dens):1≤len∧len≤1000:=⟨h.1,h.2.1⟩
theorem VC.sc (h:VC len cuts dens) {i:Nat} (hi:i<cuts.length):small ((cuts.getD i 0:Int):Rat):=yfa (by have:=h.lo hi;have:=h.hi hi;have:=h.len0;omega)
theorem VC.sd (h:VC len cuts dens) {i:Nat} (hi:i<dens.length):small ((dens.getD i 0:Int):Rat):=yfa (by have:=h.den hi;omega)
theorem yuN (h:ckC len cuts dens=0):VC len cuts dens:=by
 unfold ckC at h
 split at h
 ·omega
 ·split at h
  ·assumption
  ·omega
theorem VC.ck (h:VC len cuts dens):ckC len cuts dens=0:=by
 rw [ckC,if_neg (by have:=h.l2;have:=h.len0;omega),if_pos h]
def totS (cuts dens:List Int):Nat→Nat→Int→Int
 | 0,_,s=>s
 | r+1,i,s=>totS cuts dens r (i+1) (s+dens.getD i 0*(cuts.getD (i+1) 0-cuts.getD i 0))
def totC (cuts dens:List Int):Int:=totS cuts dens dens.length 0 0
theorem yIS {d x:Int} (h:0≤d∧d≤12) (hx:0≤x):0≤d*x∧d*x≤12*x:=⟨qBf h.1 hx,qAy h.2 hx⟩
theorem yzV (h:VC len cuts dens):∀ (r i:Nat) (s:Int),i+r=dens.length→0≤s→s≤12*cuts.getD i 0→0≤totS cuts dens r i s∧totS cuts dens r i s≤12*len
 | 0,i,s,hi,h0,h1=>by
  have:=h.l1
  have:=h.hi (i:=i) (by omega)
  unfold totS
  omega
 | r+1,i,s,hi,h0,h1=>by
  unfold totS
  have l1:=h.l1
  have h2:=h.step (i:=i) (by omega)
  have h3:=yIS (h.den (i:=i) (by omega)) (x:=cuts.getD (i+1) 0-cuts.getD i 0) (by omega)
  exact yzV h r (i+1) _ (by omega) (by omega) (by omega)
theorem ygc (h:VC len cuts dens):0≤totC cuts dens∧totC cuts dens≤12000:=by
 have l1:=h.l1
 have h0:=h.lo (i:=0) (by omega)
 have:=yzV h dens.length 0 0 (by omega) (by omega) (by omega)
 have h2:=h.len0
 unfold totC;omega
theorem yzW (h:VC len cuts dens) (W:Int→List PV→List PV→(Int→Prop)→Prop) (x0:Int→List PV→List PV→Int→List PV→Int→Int→Bool→Prop) :
  ∀ (r i n:Nat) (s:Int),i+r=dens.length→r<n→0≤s→s≤12*cuts.getD i 0 →
   yd2 W x0 n len (ints cuts) (ints dens) s (ints dens) dens.length i=x0 len (ints cuts) (ints dens) (totS cuts dens r i s) (ints dens) dens.length dens.length false
 | 0,i,n+1,s,hi,hn,h0,h1=>by
  unfold yd2 totS
  rw [cbF (by omega)]
  have:(i:Int)=dens.length:=by omega
  rw [this]
 | r+1,i,n+1,s,hi,hn,h0,h1=>by
  unfold yd2
  have l1:=h.l1;have l2:=h.l2
  have h2:=h.step (i:=i) (by omega)
  have h3:=yIS (h.den (i:=i) (by omega)) (x:=cuts.getD (i+1) 0-cuts.getD i 0) (by omega)
  have a1:=h.lo (i:=i) (by omega)
  have a2:=h.hi (i:=i+1) (by omega)
  have a3:=h.len0
  have e1:=wib (n:=(i:Int)+1) (by omega) (by omega)
  have e2:=wib (n:=cuts.getD (i+1) 0-cuts.getD i 0) (by omega) (by omega)
  have e3:=wib (n:=dens.getD i 0*(cuts.getD (i+1) 0-cuts.getD i 0)) (by omega) (by omega)
  have e4:=wib (n:=s+dens.getD i 0*(cuts.getD (i+1) 0-cuts.getD i 0)) (by omega) (by omega)
  rw [cbT (by omega),ybx,ybx,e1,yc3,qAe,qAe,asT (by omega),asT (by omega),asC (by omega),asT (by omega),asT (by omega),asC (by omega),asT (by omega),asT (by omega),asC (by omega),ydw (by omega),ydw (by omega),ydw (by omega),e2,e3,e4]
  exact yzW h W x0 r (i+1) n _ (by omega) (by omega) (by omega) (by omega)
theorem ywc (h1:cuts.length<4611686018427387904) (h2:dens.length<4611686018427387904) (K:Int→Int→Prop) :
  yaf len (ints cuts) (ints dens) K=if ckC len cuts dens=0 then K (totC cuts dens) 0 else K 0 (ckC len cuts dens):=by
 by_cases h:ckC len cuts dens=0
 ·rw [if_pos h]
  refine yzk _ _ _ _ _ (fun K k=>?_) K
  unfold yaf yir
  have hv:=yuN h
  rw [yjI h1 h2,h,cnF rfl]
  refine ⟨dens.length+1,?_⟩
  have l1:=hv.l1
  have a1:=hv.lo (i:=0) (by omega)
  rw [ybx]
  have:=yzW hv yaC (fun b c d a e f g j=>(K a (0:Int))) dens.length 0 (dens.length+1) 0 (by omega) (by omega) (by omega) (by omega)
  rw [show ((0:Nat):Int)=0 from rfl] at this
  rw [this]
  exact k
 ·rw [if_neg h]
  unfold yaf yir
  rw [yjI h1 h2,cnT h]
def exK (e:Except Int Rat) (K:Int→Int→Int→Prop):Prop:=match e with | .ok q=>K q.num q.den 0 | .error c=>K 0 0 c
def fit {α:Type} (q:Rat) (k:Rat→Except Int α):Except Int α:=if small q then k q else .error 16
def valS (cuts dens:List Int) (b:Rat):Nat→Nat→Rat→Rat→Except Int Rat
 | 0,_,_,sum=>.ok sum
 | r+1,i,p,sum =>
  let en:Rat:=if b<(cuts.getD (i+1) 0:Int) then b else (cuts.getD (i+1) 0:Int)
  if dens.getD i 0=0∨¬p<en then valS cuts dens b r (i+1) (if p<en then en else p) sum
  else fit (en-p) fun l=>fit (l*(dens.getD i 0:Int)) fun w=>fit (sum+w) fun s=>valS cuts dens b r (i+1) en s
def valC (cuts dens:List Int) (a b:Rat):Except Int Rat:=valS cuts dens b dens.length 0 a 0
theorem ygL {q:Rat} {K:Int→Int→Int→Prop}:fitK q K=if small q then K q.num q.den 0 else K 0 0 16:=rfl
theorem yzX (h:VC len cuts dens) {b:Rat} (hb:small b) (an ad:Int) (W1:Int→List PV→List PV→(Int→Prop)→Prop) (W2:Int→List PV→List PV→Int→Int→(Bool→Prop)→Prop) (K:Int→Int→Int→Prop) :
  ∀ (r i n:Nat) (p sum:Rat),i+r=dens.length→r<n→small p→small sum →
   yaZ W1 W2 ycF ycv ybW ybO yaU (fun a d e=>(K a d e)) (fun _ _ _ _ _ _ _ f g _ _ _ _ _ _=>(K f g (0:Int)))
    n len (ints cuts) (ints dens) b.num b.den an ad sum.num sum.den p.num p.den (ints dens) dens.length i=exK (valS cuts dens b r i p sum) K
 | 0,i,n+1,p,sum,hi,hn,hp,hs=>by
  unfold yaZ valS
  rw [cbF (by omega)];rfl
 | r+1,i,n+1,p,sum,hi,hn,hp,hs=>by
  unfold yaZ
  have l1:=h.l1;have l2:=h.l2
  have sc:=h.sc (i:=i+1) (by omega)
  have sd:=h.sd (i:=i) (by omega)
  have e1:=wib (n:=(i:Int)+1) (by omega) (by omega)
  rw [cbT (by omega),ybx,ybx,e1,yc3,qAe,qAe,asT (by omega),asT (by omega),asC (by omega),asT (by omega),asT (by omega),asC (by omega),ydw (by omega),ydw (by omega),yhI,ygb hb sc]
  have ih:=fun p sum hp hs=>yzX h hb an ad W1 W2 K r (i+1) n p sum (by omega) (by omega) hp hs
  unfold valS
  by_cases hbc:b<((cuts.getD (i+1) 0:Int):Rat)
  ·rw [cbT hbc]
   simp only [if_pos hbc]
   by_cases hd:dens.getD i 0=0
   ·rw [ceT hd,if_pos (.inl hd),ygb hp hb]
    by_cases hpb:p<b
    ·rw [cbT hpb,if_pos hpb];exact ih b sum hb hs
    ·rw [cbF hpb,if_neg hpb];exact ih p sum hp hs
   ·rw [ceF hd,ygb hp hb]
    by_cases hpb:p<b
    ·have hc:¬(dens.getD i 0=0∨¬p<b):=by simp [hpb];exact hd
     rw [if_neg hc,decide_eq_true hpb,qBp,yae,yxX hb hp,ygL]
     by_cases s1:small (b-p)
     ·rw [if_pos s1,cnF rfl,yhI,yEc s1 sd,ygL,fit,if_pos s1]
      by_cases s2:small ((b-p)*(dens.getD i 0:Int))
      ·rw [if_pos s2,cnF rfl,yxW hs s2,ygL,fit,if_pos s2]
       by_cases s3:small (sum+(b-p)*(dens.getD i 0:Int))
       ·rw [if_pos s3,cnF rfl,fit,if_pos s3];exact ih b _ hb s3
       ·rw [if_neg s3,cnT (by decide),fit,if_neg s3];rfl
      ·rw [if_neg s2,cnT (by decide),fit,if_neg s2];rfl
     ·rw [if_neg s1,cnT (by decide),fit,if_neg s1];rfl
    ·rw [if_pos (.inr hpb),decide_eq_false hpb,qBt,yam,ygb hp hb,cbF hpb,if_neg hpb];exact ih p sum hp hs
  ·rw [cbF hbc]
   simp only [if_neg hbc]
   obtain ⟨c,hc⟩:∃ c:Rat,c=((cuts.getD (i+1) 0:Int):Rat):=⟨_,rfl⟩
   rw [← hc] at sc ⊢
   by_cases hd:dens.getD i 0=0
   ·rw [ceT hd,if_pos (.inl hd),ygb hp sc]
    by_cases hpb:p<c
    ·rw [cbT hpb,if_pos hpb];exact ih c sum sc hs
    ·rw [cbF hpb,if_neg hpb];exact ih p sum hp hs
   ·rw [ceF hd,ygb hp sc]
    by_cases hpb:p<c
    ·have hcc:¬(dens.getD i 0=0∨¬p<c):=by simp [hpb];exact hd
     rw [if_neg hcc,decide_eq_true hpb,qBp,yae,yxX sc hp,ygL]
     by_cases s1:small (c-p)
     ·rw [if_pos s1,cnF rfl,yhI,yEc s1 sd,ygL,fit,if_pos s1]
      by_cases s2:small ((c-p)*(dens.getD i 0:Int))
      ·rw [if_pos s2,cnF rfl,yxW hs s2,ygL,fit,if_pos s2]
       by_cases s3:small (sum+(c-p)*(dens.getD i 0:Int))
       ·rw [if_pos s3,cnF rfl,fit,if_pos s3];exact ih c _ sc s3
       ·rw [if_neg s3,cnT (by decide),fit,if_neg s3];rfl
      ·rw [if_neg s2,cnT (by decide),fit,if_neg s2];rfl
     ·rw [if_neg s1,cnT (by decide),fit,if_neg s1];rfl
    ·rw [if_pos (.inr hpb),decide_eq_false hpb,qBt,yam,ygb hp sc,cbF hpb,if_neg hpb];exact ih p sum hp hs
end
def rt (n d:Int):Rat:=mkRat n d.toNat
theorem yeP (q:Rat):rt q.num q.den=q:=by unfold rt;rw [qAe,Rat.mkRat_self]
theorem ymD {n d:Int} (h:RV n d):small (rt n d)∧(rt n d).num=n∧((rt n d).den:Int)=d:=by
 obtain ⟨q,h1,h2,h3⟩:=yHS h
 subst h2 h3
 rw [yeP];exact ⟨h1,rfl,rfl⟩
theorem PT.pt {len n d:Int} (h:PT len n d):small (rt n d)∧(rt n d).num=n∧((rt n d).den:Int)=d∧0≤rt n d∧rt n d≤(len:Rat):=by
 obtain ⟨q,h1,h2,h3,h4,h5⟩:=yOs h
 subst h2 h3
 rw [yeP];exact ⟨h1,rfl,rfl,h4,h5⟩
theorem yzY {len:Int} {q:Rat} (h:small q) (h0:0≤q) (h1:q≤(len:Rat)):PT len q.num q.den:=by
 refine ⟨h.rv,Rat.num_nonneg.2 h0,?_⟩
 rw [Rat.le_iff,Rat.num_intCast,Rat.den_intCast] at h1
 simpa using h1
section
variable {len:Int} {cuts dens:List Int}
def valR (len:Int) (cuts dens:List Int) (an ad bn bd:Int):Except Int Rat :=
 if ckC len cuts dens=0 then (if PT len an ad∧PT len bn bd∧¬rt bn bd<rt an ad then valC cuts dens (rt an ad) (rt bn bd) else .error 2) else .error (ckC len cuts dens)
theorem yLy {w:(Int→Int→Int→Prop)→Prop} {e:Except Int Rat} (det:∀ r0 r1 r2,(∀ K:Int→Int→Int→Prop,K r0 r1 r2→w K)→∀ K,w K=K r0 r1 r2) (h:∀ K,exK e K→w K) (K:Int→Int→Int→Prop):w K=exK e K:=by
 cases e with
 | ok q=>exact det _ _ _ h K
 | error c=>exact det _ _ _ h K
theorem ywd (h1:cuts.length<4611686018427387904) (h2:dens.length<4611686018427387904) {an ad bn bd:Int} (ha:I64 an) (ha':I64 ad) (hb:I64 bn) (hb':I64 bd) (K:Int→Int→Int→Prop) :
  ybt len (ints cuts) (ints dens) an ad bn bd K=exK (valR len cuts dens an ad bn bd) K:=by
 refine yLy (fun r0 r1 r2 h K=>yzl _ _ _ _ _ _ _ r0 r1 r2 h K) (fun K k=>?_) K
 unfold ybt ylq
 rw [yjI h1 h2]
 unfold valR at k
 by_cases h:ckC len cuts dens=0
 case neg=>rw [cnT h];rw [if_neg h] at k;exact k
 have hv:=yuN h
 have hl:=hv.len0
 rw [if_pos h] at k
 rw [cnF h,yzU (by omega) ha ha']
 by_cases p1:PT len an ad
 case neg=>rw [decide_eq_false p1,qBt,yam];rw [if_neg (fun x=>p1 x.1)] at k;exact k
 rw [decide_eq_true p1,qBp,yae,yzU (by omega) hb hb']
 by_cases p2:PT len bn bd
 case neg=>rw [decide_eq_false p2,qBt,yam];rw [if_neg (fun x=>p2 x.2.1)] at k;exact k
 rw [decide_eq_true p2,qBp,yae]
 obtain ⟨s1,e1,e2,_,_⟩:=p1.pt
 obtain ⟨s2,f1,f2,_,_⟩:=p2.pt
 have hless:=ygb s2 s1
 rw [e1,e2,f1,f2] at hless
 rw [hless]
 by_cases p3:rt bn bd<rt an ad
 ·rw [cbT p3];rw [if_neg (fun x=>x.2.2 p3)] at k;exact k
 rw [cbF p3]
 rw [if_pos ⟨p1,p2,p3⟩] at k
 rw [yhI,ybx]
 refine ⟨dens.length+1,?_⟩
 have:=yzX hv s2 0 0 yaC ycx K dens.length 0 (dens.length+1) (rt an ad) 0 (by omega) (by omega) s1 (by decide)
 rw [e1,e2,f1,f2] at this
 exact this.mpr k
def mrkS (cuts dens:List Int):Nat→Nat→Rat→Rat→Except Int Rat
 | 0,_,_,_=>.error 6
 | r+1,i,p,v =>
  if ¬p<(cuts.getD (i+1) 0:Int) then mrkS cuts dens r (i+1) p v
  else if dens.getD i 0=0 then mrkS cuts dens r (i+1) (cuts.getD (i+1) 0:Int) v
  else fit ((cuts.getD (i+1) 0:Int)-p) fun l=>fit (l*(dens.getD i 0:Int)) fun w =>
   if w<v then fit (v-w) fun v'=>mrkS cuts dens r (i+1) (cuts.getD (i+1) 0:Int) v'
   else fit (v / (dens.getD i 0:Int)) fun s=>fit (p+s) .ok
def mrkC (cuts dens:List Int) (a v:Rat):Except Int Rat:=if v=0 then .ok a else mrkS cuts dens dens.length 0 a v
def mrkR (len:Int) (cuts dens:List Int) (an ad vn vd:Int):Except Int Rat :=
 if ckC len cuts dens=0 then (if PT len an ad∧RV vn vd∧0≤vn then mrkC cuts dens (rt an ad) (rt vn vd) else .error 2) else .error (ckC len cuts dens)
theorem yCc (h:VC len cuts dens) (W1:Int→List PV→List PV→(Int→Prop)→Prop) (W2:Int→List PV→List PV→Int→Int→(Bool→Prop)→Prop) (W3:Int→Int→(Int→Prop)→Prop) (K:Int→Int→Int→Prop) :
  ∀ (r i n:Nat) (p v:Rat) (o1 o2:Int),i+r=dens.length→r<n→small p→small v →
   ybu W1 W2 W3 ycv ycF ybW ybO yaJ yaU
    (fun _ _ b d f a=>(cbr (a !=(0:Int)) (cbr (a !=(0:Int)) (K (0:Int) (0:Int) a) (K b d (0:Int))) (cbr (f !=(0:Int)) (K (0:Int) (0:Int) f) (K b d (0:Int)))))
    (fun _ _ j k g _ _ _ _ _ _ _ _ _=>(cbr (g !=(0:Int)) (K (0:Int) (0:Int) g) (K j k (0:Int))))
    n v.num v.den o1 o2 6 len (ints cuts) (ints dens) p.num p.den (ints dens) dens.length i=exK (mrkS cuts dens r i p v) K
 | 0,i,n+1,p,v,o1,o2,hi,hn,hp,hs=>by
  unfold ybu mrkS
  rw [cbF (by omega)];rfl
 | r+1,i,n+1,p,v,o1,o2,hi,hn,hp,hs=>by
  unfold ybu
  have l1:=h.l1;have l2:=h.l2
  have sc:=h.sc (i:=i+1) (by omega)
  have sd:=h.sd (i:=i) (by omega)
  have hd0:=h.den (i:=i) (by omega)
  have e1:=wib (n:=(i:Int)+1) (by omega) (by omega)
  rw [cbT (by omega),ybx,ybx,e1,yc3,qAe,qAe,asT (by omega),asT (by omega),asC (by omega),asT (by omega),asT (by omega),asC (by omega),ydw (by omega),ydw (by omega),yhI,ygb hp sc]
  have ih:=fun p v o1 o2 hp hs=>yCc h W1 W2 W3 K r (i+1) n p v o1 o2 (by omega) (by omega) hp hs
  unfold mrkS
  obtain ⟨c,hc⟩:∃ c:Rat,c=((cuts.getD (i+1) 0:Int):Rat):=⟨_,rfl⟩
  rw [← hc] at sc ⊢
  by_cases hpc:p<c
  case neg=>rw [decide_eq_false hpc,qBt,yam,if_pos hpc];exact ih p v o1 o2 hp hs
  rw [decide_eq_true hpc,qBp,yae,if_neg (fun x=>x hpc),yhI]
  by_cases hd:dens.getD i 0=0
  ·rw [cbF (by omega),ceT hd,if_pos hd];exact ih c v o1 o2 sc hs
  rw [cbT (by omega),if_neg hd,yxX sc hp,ygL]
  by_cases s1:small (c-p)
  case neg=>rw [if_neg s1,cnT (by decide),cnT (by decide),cnT (by decide),fit,if_neg s1];rfl
  rw [if_pos s1,cnF rfl,yhI,yEc s1 sd,ygL,fit,if_pos s1]
  by_cases s2:small ((c-p)*(dens.getD i 0:Int))
  case neg=>rw [if_neg s2,cnT (by decide),cnT (by decide),cnT (by decide),fit,if_neg s2];rfl
  rw [if_pos s2,cnF rfl,ceF hd,ygb s2 hs,fit,if_pos s2]
  by_cases hw:(c-p)*(dens.getD i 0:Int)<v
  ·rw [cbT hw,if_pos hw,yxX hs s2,ygL,fit]
   by_cases s3:small (v-(c-p)*(dens.getD i 0:Int))
   ·rw [if_pos s3,if_pos s3,cnF rfl,cnF rfl];exact ih c _ o1 o2 sc s3
   ·rw [if_neg s3,if_neg s3,cnT (by decide),cnT (by decide),cnF rfl,cnT (by decide)];rfl
  ·have hdn:((dens.getD i 0:Int):Rat)≠0:=fun e=>hd (Rat.intCast_eq_zero_iff.1 e)
   rw [cbF hw,if_neg hw,yhI,yIO hs sd hdn,ygL,fit]
   by_cases s3:small (v / (dens.getD i 0:Int))
   ·rw [if_pos s3,if_pos s3,ceT rfl,yxW hp s3,ygL,fit]
    by_cases s4:small (p+v / (dens.getD i 0:Int))
    ·rw [if_pos s4,if_pos s4,cnF rfl,cnF rfl];rfl
    ·rw [if_neg s4,if_neg s4,cnF rfl,cnT (by decide)];rfl
   ·rw [if_neg s3,if_neg s3,ceF (by decide),cnF rfl,cnT (by decide)];rfl
theorem yF0 (h1:cuts.length<4611686018427387904) (h2:dens.length<4611686018427387904) {an ad vn vd:Int} (ha:I64 an) (ha':I64 ad) (hv:I64 vn) (hv':I64 vd) (K:Int→Int→Int→Prop) :
  yg6 len (ints cuts) (ints dens) an ad vn vd K=exK (mrkR len cuts dens an ad vn vd) K:=by
 refine yLy (fun r0 r1 r2 h K=>yAY _ _ _ _ _ _ _ r0 r1 r2 h K) (fun K k=>?_) K
 unfold yg6 ynE
 rw [yjI h1 h2]
 unfold mrkR at k
 by_cases h:ckC len cuts dens=0
 case neg=>rw [cnT h];rw [if_neg h] at k;exact k
 have hc:=yuN h
 have hl:=hc.len0
 rw [if_pos h] at k
 rw [cnF h,yzU (by omega) ha ha']
 by_cases p1:PT len an ad
 case neg=>rw [decide_eq_false p1,qBt,yam];rw [if_neg (fun x=>p1 x.1)] at k;exact k
 rw [decide_eq_true p1,qBp,yae,yCb hv hv',chk]
 by_cases p2:RV vn vd
 case neg=>rw [if_neg p2,cnT (by decide)];rw [if_neg (fun x=>p2 x.2.1)] at k;exact k
 rw [if_pos p2,cnF rfl]
 by_cases p3:vn<0
 ·rw [cbT p3];rw [if_neg (fun x=>by omega)] at k;exact k
 rw [cbF p3]
 rw [if_pos ⟨p1,p2,by omega⟩] at k
 obtain ⟨s1,e1,e2,_,_⟩:=p1.pt
 obtain ⟨s2,f1,f2⟩:=ymD p2
 unfold mrkC at k
 by_cases p4:vn=0
 ·rw [ceT p4]
  rw [if_pos (Rat.num_eq_zero.1 (f1.trans p4))] at k
  have k:K (rt an ad).num (rt an ad).den 0:=k
  rw [e1,e2] at k
  exact k
 rw [ceF p4]
 rw [if_neg (fun x=>p4 (by rw [← f1,x];rfl))] at k
 rw [ybx]
 refine ⟨dens.length+1,?_⟩
 have:=yCc hc yaC ycx ybM K dens.length 0 (dens.length+1) (rt an ad) (rt vn vd) 0 0 (by omega) (by omega) s1 s2
 rw [e1,e2,f1,f2] at this
 exact this.mpr k
def okD (cuts dens:List Int) (i:Nat):Prop:=∀ j,i≤j→j<dens.length→cuts.getD j 0<cuts.getD (j+1) 0∧0≤dens.getD j 0∧dens.getD j 0≤12
theorem yqb (l1:dens.length+1=cuts.length) (l2:dens.length<4611686018427387904) (x0:Int→Prop) (x1:Int→List PV→List PV→Bool→Int→Bool→Prop) (P:Prop)
  (hbad:¬okD cuts dens 0→x0 8=P) (hgood:∀ b:Bool,okD cuts dens 0→b=decide (∃ j,j<dens.length∧0<dens.getD j 0)→x1 len (ints cuts) (ints dens) b dens.length false=P) :
  ∀ (r i n:Nat) (b:Bool),i+r=dens.length→r<n→(∀ j,j<i→cuts.getD j 0<cuts.getD (j+1) 0∧0≤dens.getD j 0∧dens.getD j 0≤12)→b=decide (∃ j,j<i∧0<dens.getD j 0) →
   ydB x0 x1 n len (ints cuts) (ints dens) b i=P
 | 0,i,n+1,b,hi,hn,hj,hb=>by
  unfold ydB
  rw [ybx,cbF (by omega),show (i:Int)=dens.length by omega]
  refine hgood b (fun j _ h=>hj j (by omega)) ?_
  rw [hb,decide_eq_decide]
  rw [show i=dens.length by omega]
 | r+1,i,n+1,b,hi,hn,hj,hb=>by
  unfold ydB
  have e1:=wib (n:=(i:Int)+1) (by omega) (by omega)
  rw [ybx,ybx,cbT (by omega),e1,yc3,qAe,qAe,asT (by omega),asT (by omega),asC (by omega),asT (by omega),asT (by omega),asC (by omega),ydw (by omega),ydw (by omega)]
  have bad:¬(cuts.getD i 0<cuts.getD (i+1) 0∧0≤dens.getD i 0∧dens.getD i 0≤12)→x0 8=P:=fun h=>hbad fun hk=>h (hk i (by omega) (by omega))
  by_cases a1:cuts.getD (i+1) 0≤cuts.getD i 0
  ·rw [cbT a1];exact bad (by omega)
  rw [cbF a1,asT (by omega),asT (by omega),asC (by omega),ydw (by omega)]
  by_cases a2:dens.getD i 0<0
  ·rw [cbT a2];exact bad (by omega)
  rw [cbF a2,asT (by omega),asT (by omega),asC (by omega)]
  by_cases a3:dens.getD i 0>12
  ·rw [cbT a3];exact bad (by omega)
  rw [cbF a3]
  have hj2:∀ j,j<i+1→cuts.getD j 0<cuts.getD (j+1) 0∧0≤dens.getD j 0∧dens.getD j 0≤12:=by
   intro j hlt
   by_cases e:j=i
   ·subst e;omega
   ·exact hj j (by omega)
  have ex:∀ c:Bool,(c=true↔(b=true∨0<dens.getD i 0))→c=decide (∃ j,j<i+1∧0<dens.getD j 0):=by
   intro c hc
   rw [Bool.eq_iff_iff,hc,hb,decide_eq_true_iff,decide_eq_true_iff]
   constructor
   ·rintro (⟨j,h1,h2⟩ | h)
    ·exact ⟨j,by omega,h2⟩
    ·exact ⟨i,by omega,h⟩
   ·rintro ⟨j,h1,h2⟩
    by_cases e:j=i
    ·subst e;exact .inr h2
    ·exact .inl ⟨j,by omega,h2⟩
  cases b with
  | true =>
   rw [yam]
   exact yqb l1 l2 x0 x1 P hbad hgood r (i+1) n true (by omega) (by omega) hj2 (ex _ (by simp))
  | false =>
   rw [yae,asT (by omega),asT (by omega),asC (by omega)]
   exact yqb l1 l2 x0 x1 P hbad hgood r (i+1) n _ (by omega) (by omega) hj2 (ex _ (by simp))
theorem yCd (h1:cuts.length<4611686018427387904) (h2:dens.length<4611686018427387904) (K:Int→Prop) :
  yc2 len (ints cuts) (ints dens) K=K (ckC len cuts dens):=by
 refine yA7 _ _ _ _ (fun K k=>?_) K
 unfold yc2 ynO
 simp only [ybx]
 have bad:¬(len>1000∨cuts.length>40)→¬VC len cuts dens→K 8:=fun h h2=>by
  rw [ckC,if_neg h,if_neg h2] at k;exact k
 by_cases a1:len>1000
 ·rw [cbT a1];rw [ckC,if_pos (.inl a1)] at k;exact k
 rw [cbF a1]
 by_cases a2:cuts.length>40
 ·rw [cbT (by omega)];rw [ckC,if_pos (.inr a2)] at k;exact k
 have a12:¬(len>1000∨cuts.length>40):=by omega
 rw [cbF (by omega)]
 by_cases a3:len<1
 ·rw [cbT a3];exact bad a12 (fun h=>by have:=h.1;omega)
 rw [cbF a3]
 by_cases a4:cuts.length<2
 ·rw [cbT (by omega)];exact bad a12 (fun h=>by have:=h.2.2.1;omega)
 rw [cbF (by omega),wib (n:=(cuts.length:Int)-1) (by omega) (by omega)]
 by_cases a5:dens.length+1=cuts.length
 case neg=>rw [cnT (by omega)];exact bad a12 (fun h=>a5 h.2.2.2.2.1)
 rw [cnF (by omega),asT (by omega),asC (by omega),ydw (by omega)]
 by_cases a6:cuts.getD 0 0=0
 case neg=>rw [cnT a6];exact bad a12 (fun h=>a6 h.2.2.2.2.2.1)
 rw [cnF a6,asT (by omega),asT (by omega),asC (by omega),ydw (by omega)]
 have en:((cuts.length:Int)-1).toNat=cuts.length-1:=by omega
 rw [en]
 by_cases a7:cuts.getD (cuts.length-1) 0=len
 case neg=>rw [cnT a7];exact bad a12 (fun h=>a7 h.2.2.2.2.2.2.1)
 rw [cnF a7]
 have mem:∀ d,d∈dens↔∃ j,j<dens.length∧dens.getD j 0=d:=by
  intro d
  rw [List.mem_iff_getElem]
  constructor
  ·rintro ⟨j,hj,e⟩;exact ⟨j,hj,by rw [qAb,qAa hj];exact e⟩
  ·rintro ⟨j,hj,e⟩;exact ⟨j,hj,by rw [qAb,qAa hj] at e;exact e⟩
 refine ⟨dens.length+1,?_⟩
 refine (yqb a5 h2 _ _ (K (ckC len cuts dens)) (fun hk=>?_) (fun b hk hb=>?_) dens.length 0 (dens.length+1) false (by omega) (by omega) (fun j h=>by omega) (by simp)).mpr k
 ·have hv:¬VC len cuts dens:=fun h=>hk fun j _ hj=>⟨h.step (by omega),h.den hj⟩
  rw [ckC,if_neg a12,if_neg hv]
 ·have hsome:yzT dens↔∃ j,j<dens.length∧0<dens.getD j 0:=by
   constructor
   ·rintro ⟨d,hd,h0⟩
    obtain ⟨j,hj,e⟩:=(mem d).1 hd
    exact ⟨j,hj,by rw [e];exact h0⟩
   ·rintro ⟨j,hj,h0⟩;exact ⟨_,(mem _).2 ⟨j,hj,rfl⟩,h0⟩
  have hv:VC len cuts dens↔yzT dens:=by
   refine ⟨fun h=>h.2.2.2.2.2.2.2.2.2,fun h=>⟨by omega,by omega,by omega,by omega,a5,a6,a7,fun j _ hj=>(hk j (by omega) (by omega)).1,fun d hd=>?_,h⟩⟩
   obtain ⟨j,hj,e⟩:=(mem d).1 hd
   rw [← e];exact (hk j (by omega) hj).2
  rw [ckC,if_neg a12]
  by_cases hs:yzT dens
  ·rw [if_pos (hv.2 hs),hb,decide_eq_true (hsome.1 hs)];rfl
  ·rw [if_neg (fun x=>hs (hv.1 x)),hb,decide_eq_false (fun x=>hs (hsome.2 x))];rfl
theorem ylR {α:Type} {q:Rat} {k:Rat→Except Int α} (h:small q):fit q k=k q:=if_pos h
theorem yEd {q:Rat} {K:Int→Int→Int→Prop}:exK (.ok q) K=K q.num q.den 0:=rfl
theorem yLz {c:Int} {K:Int→Int→Int→Prop}:exK (.error c) K=K 0 0 c:=rfl
end
structure Ck where
 len:Int
 cuts:List Int
 dens:List Int
instance:Inhabited Ck:=⟨⟨0,[],[]⟩⟩
def encC (c:Ck):PV:=.agg [.int .i64 c.len,.data (ints c.cuts),.data (ints c.dens)]
def cks (l:List Ck):List PV:=l.map encC
def Ck.fin (c:Ck):Prop:=c.cuts.length<4611686018427387904∧c.dens.length<4611686018427387904
def Ck.err (c:Ck):Int:=ckC c.len c.cuts c.dens
def Ck.ok (c:Ck):Prop:=VC c.len c.cuts c.dens
instance (c:Ck):Decidable c.ok:=by unfold Ck.ok;infer_instance
theorem yaX (l:List Ck):(cks l).length=l.length:=qAq ..
theorem yfb {l:List Ck} {i:Nat} (h:i<l.length):List.getD (cks l) i .nils=encC (l.getD i default):=by
 unfold cks
 rw [qAb,qAb,qA3,qAa h]
 rfl
theorem ydh {α:Type} {l:List α} {i:Nat} (d:α) (h:i<l.length):l.drop i=l.getD i d::l.drop (i+1):=by
 rw [List.drop_eq_getElem_cons h,qAb,qAa h];rfl
theorem asCk {c:Ck} {P:Prop}:asr (conf zK (encC c)) P=P:=rfl
theorem ck0 (c:Ck):yac (yaj (encC c) 0)=c.len:=rfl
theorem ck1 (c:Ck):yaE (yaj (encC c) 1)=ints c.cuts:=rfl
theorem ck2 (c:Ck):yaE (yaj (encC c) 2)=ints c.dens:=rfl
def ygA:List Ck→Int
 | []=>0
 | c::t=>if c.err=0 then ygA t else c.err
def ykE (n:Int):List Ck→Bool
 | []=>true
 | c::t=>decide (c.len=n)&&ykE n t
def yfW (l:List Ck) (m:Nat):Int :=
 if l.length>6 then 4 else if m>2000 then 4 else if l.length=0 then 8 else if ygA l=0 then (if ykE (l.getD 0 default).len l then 0 else 8) else ygA l
section
variable {l:List Ck}
def finC (l:List Ck):Prop:=∀ i,i<l.length→(l.getD i default).fin
theorem yIT (hf:finC l) (hl:l.length<4611686018427387904) (x0:Int→Prop) (x1:List PV→List PV→List PV→Int→Int→Bool→Prop) (lg:List PV) :
  ∀ (r i n:Nat),i+r=l.length→r<n→yev yaC x0 x1 n (cks l) lg (cks l) l.length i =
   if ygA (l.drop i)=0 then x1 (cks l) lg (cks l) l.length l.length false else x0 (ygA (l.drop i))
 | 0,i,n+1,hi,hn=>by
  unfold yev
  rw [cbF (by omega),qA0 (by omega),show (i:Int)=l.length by omega];rfl
 | r+1,i,n+1,hi,hn=>by
  unfold yev
  have e1:=wib (n:=(i:Int)+1) (by omega) (by omega)
  obtain ⟨f1,f2⟩:=hf i (by omega)
  rw [cbT (by omega),yaX,qAe,yfb (by omega),asT (by omega),asT (by omega),asCk,ck0,ck1,ck2,yjI (by omega) (by omega),ydh default (by omega),ygA,e1,yc3]
  show cbr ((l.getD i default).err != 0) _ _=_
  by_cases h:(l.getD i default).err=0
  ·rw [cnF h,if_pos h];exact yIT hf hl x0 x1 lg r (i+1) n (by omega) (by omega)
  ·rw [cnT h,if_neg h,if_neg h];rfl
theorem yIU (hl:l.length<4611686018427387904) (x0:Int→Prop) (x1:List PV→List PV→List PV→Int→Int→Bool→Prop) (lg:List PV) (W) :
  ∀ (r i n:Nat),i+r=l.length→r<n→ydz W x0 x1 n (cks l) lg (cks l) l.length i =
   if ykE (l.getD 0 default).len (l.drop i) then x1 (cks l) lg (cks l) l.length l.length false else x0 8
 | 0,i,n+1,hi,hn=>by
  unfold ydz
  rw [cbF (by omega),qA0 (by omega),show (i:Int)=l.length by omega];rfl
 | r+1,i,n+1,hi,hn=>by
  unfold ydz
  have e1:=wib (n:=(i:Int)+1) (by omega) (by omega)
  rw [cbT (by omega),yaX,qAe,yfb (by omega),yfb (by omega),asT (by omega),asT (by omega),asCk,asT (by omega),asCk,ck0,ck0,ydh default (by omega),ykE,e1,yc3]
  by_cases h:(l.getD i default).len=(l.getD 0 default).len
  ·rw [cnF h,decide_eq_true h,qA7];exact yIU hl x0 x1 lg W r (i+1) n (by omega) (by omega)
  ·rw [cnT h,decide_eq_false h,qBm,if_neg (by simp)]
theorem yjJ (hf:finC l) (hl:l.length<4611686018427387904) (lg:List PV) (K:Int→Prop):ybP (cks l) lg K=K (yfW l lg.length):=by
 refine yA5 _ _ _ (fun K k=>?_) K
 unfold ybP ynI
 unfold yfW at k
 rw [yaX]
 by_cases a1:l.length>6
 ·rw [cbT (by omega)];rw [if_pos a1] at k;exact k
 rw [cbF (by omega)];rw [if_neg a1] at k
 by_cases a2:lg.length>2000
 ·rw [cbT (by omega)];rw [if_pos a2] at k;exact k
 rw [cbF (by omega)];rw [if_neg a2] at k
 by_cases a3:l.length=0
 ·rw [ceT (by omega)];rw [if_pos a3] at k;exact k
 rw [ceF (by omega)];rw [if_neg a3] at k
 refine ⟨l.length+1,?_⟩
 have h0:=yIT hf hl (fun c=>K c) (fun a d o p q r=>(∃ e:Nat,ydz yaC (fun b=>(K b)) (fun f g i j m n=>(K (0:Int))) e a d a (((List.length a):Nat):Int) (0:Int))) lg l.length 0 (l.length+1) (by omega) (by omega)
 rw [show ((0:Nat):Int)=0 from rfl,qBd] at h0
 rw [h0]
 by_cases a4:ygA l=0
 ·rw [if_pos a4] at k ⊢
  refine ⟨l.length+1,?_⟩
  have h1:=yIU hl (fun b=>(K b)) (fun f g i j m n=>(K (0:Int))) lg yaC l.length 0 (l.length+1) (by omega) (by omega)
  rw [show ((0:Nat):Int)=0 from rfl,qBd] at h1
  rw [yaX,h1]
  split at k <;> rename_i h <;> simp only [h] <;> exact k
 ·rw [if_neg a4] at k ⊢;exact k
theorem yIV (hf:finC l) (hl:l.length<4611686018427387904) (x0:Int→Prop) (x1:List PV→List PV→Int→Bool→Prop) (lg:List PV) :
  ∀ (r i n:Nat),i+r=l.length→r<n→yew yc2 x0 x1 n (cks l) lg i =
   if ygA (l.drop i)=0 then x1 (cks l) lg l.length false else x0 (ygA (l.drop i))
 | 0,i,n+1,hi,hn=>by
  unfold yew
  rw [yaX,cbF (by omega),qA0 (by omega),show (i:Int)=l.length by omega];rfl
 | r+1,i,n+1,hi,hn=>by
  unfold yew
  have e1:=wib (n:=(i:Int)+1) (by omega) (by omega)
  obtain ⟨f1,f2⟩:=hf i (by omega)
  rw [yaX,cbT (by omega),qAe,yfb (by omega),asT (by omega),asT (by omega),asCk,ck0,ck1,ck2,yCd (by omega) (by omega),ydh default (by omega),ygA,e1,yc3]
  show cbr ((l.getD i default).err != 0) _ _=_
  by_cases h:(l.getD i default).err=0
  ·rw [cnF h,if_pos h];exact yIV hf hl x0 x1 lg r (i+1) n (by omega) (by omega)
  ·rw [cnT h,if_neg h,if_neg h,asT (by omega),asT (by omega),asCk,yCd (by omega) (by omega)];rfl
theorem yIW (hl:l.length<4611686018427387904) (x0:Int→Prop) (x1:List PV→List PV→Int→Bool→Prop) (lg:List PV) (W) :
  ∀ (r i n:Nat),i+r=l.length→r<n→ydC W x0 x1 n (cks l) lg i =
   if ykE (l.getD 0 default).len (l.drop i) then x1 (cks l) lg l.length false else x0 8
 | 0,i,n+1,hi,hn=>by
  unfold ydC
  rw [yaX,cbF (by omega),qA0 (by omega),show (i:Int)=l.length by omega];rfl
 | r+1,i,n+1,hi,hn=>by
  unfold ydC
  have e1:=wib (n:=(i:Int)+1) (by omega) (by omega)
  rw [yaX,cbT (by omega),qAe,yfb (by omega),yfb (by omega),asT (by omega),asT (by omega),asCk,asT (by omega),asCk,ck0,ck0,ydh default (by omega),ykE,e1,yc3]
  by_cases h:(l.getD i default).len=(l.getD 0 default).len
  ·rw [cnF h,decide_eq_true h,qA7];exact yIW hl x0 x1 lg W r (i+1) n (by omega) (by omega)
  ·rw [cnT h,decide_eq_false h,qBm,if_neg (by simp)]
theorem yJ4 (hf:finC l) (hl:l.length<4611686018427387904) (lg:List PV) (K:Int→Prop):yg8 (cks l) lg K=K (yfW l lg.length):=by
 refine yA8 _ _ _ (fun K k=>?_) K
 unfold yg8 ynQ
 unfold yfW at k
 rw [yaX]
 by_cases a1:l.length>6
 ·rw [cbT (by omega)];rw [if_pos a1] at k;exact k
 rw [cbF (by omega)];rw [if_neg a1] at k
 by_cases a2:lg.length>2000
 ·rw [cbT (by omega)];rw [if_pos a2] at k;exact k
 rw [cbF (by omega)];rw [if_neg a2] at k
 by_cases a3:l.length=0
 ·rw [ceT (by omega)];rw [if_pos a3] at k;exact k
 rw [ceF (by omega)];rw [if_neg a3] at k
 refine ⟨l.length+1,?_⟩
 have h0:=yIV hf hl (fun b=>K b) (fun c d m n=>(∃ e:Nat,ydC yc2 (fun a=>(K a)) (fun f g i j=>(K (0:Int))) e c d (0:Int))) lg l.length 0 (l.length+1) (by omega) (by omega)
 rw [show ((0:Nat):Int)=0 from rfl,qBd] at h0
 rw [h0]
 by_cases a4:ygA l=0
 ·rw [if_pos a4] at k ⊢
  refine ⟨l.length+1,?_⟩
  have h1:=yIW hl (fun a=>(K a)) (fun f g i j=>(K (0:Int))) lg yc2 l.length 0 (l.length+1) (by omega) (by omega)
  rw [show ((0:Nat):Int)=0 from rfl,qBd] at h1
  rw [h1]
  split at k <;> rename_i h <;> simp only [h] <;> exact k
 ·rw [if_neg a4] at k ⊢;exact k
def Ck.low (c:Ck):Prop:=c.cuts.length≤1000∧c.dens.length≤1000
def lowC (l:List Ck):Prop:=∀ i,i<l.length→(l.getD i default).low
theorem yF1 (l:List Int):yd7 1 (ints l)=true:=by cases l <;> rfl
theorem yuO {l:List Int} (h:l.length≤1000) (K:List PV→Prop):yeH (ints l) K=K (ints l):=by
 show asr (yjr 1 8 (ints l)) (K (ints l))=_
 have:yjr 1 8 (ints l)=true:=by
  unfold yjr
  rw [yF1,ybx,qA7,decide_eq_true_iff]
  unfold room;omega
 rw [this,yau]
theorem asTT {c:Bool} {P:Prop} (h:c=true):asr c P=P:=by rw [h,yau]
theorem yIX (hf:lowC l) (hl:l.length≤1000) (x0:List PV→List PV→Int→Int→Bool→Prop) (x1:List PV→Int→Int→Bool→Prop) :
  ∀ (r i n:Nat) (acc:List PV),i+r=l.length→r<n→acc.length≤i→yd3 yeH x0 x1 n acc (cks l) l.length i=x0 (acc++cks (l.drop i)) (cks l) l.length l.length false
 | 0,i,n+1,acc,hi,hn,ha=>by
  unfold yd3
  rw [cbF (by omega),qA0 (by omega),show (i:Int)=l.length by omega]
  show _=x0 (acc++[]) _ _ _ _
  rw [qBh]
 | r+1,i,n+1,acc,hi,hn,ha=>by
  unfold yd3
  have e1:=wib (n:=(i:Int)+1) (by omega) (by omega)
  obtain ⟨f1,f2⟩:=hf i (by omega)
  rw [cbT (by omega),yaX,qAe,yfb (by omega),asT (by omega),asT (by omega),asCk,ck0,ck1,ck2,yuO f1,yuO f2,asT rfl,asT (by omega),asTT (by rw [decide_eq_false (by omega)];rfl),asT rfl,asT (by unfold room;omega),asTT (by simp),e1,yc3]
  rw [yIX hf hl x0 x1 r (i+1) n _ (by omega) (by omega) (by simp;omega),ydh (i:=i) default (by omega),qAz];rfl
theorem ywe (hf:lowC l) (hl:l.length≤1000) (K:List PV→Prop):yeM (cks l) K=K (cks l):=by
 refine yzu _ _ (fun K k=>?_) K
 unfold yeM ylt
 cases hc:l with
 | nil =>
  refine ⟨0+1,?_⟩
  rw [hc] at k
  rw [ygm,yaX,cbF (by simp)]
  exact k
 | cons c t =>
  rw [← hc]
  have h0:0<l.length:=by rw [hc];exact Nat.zero_lt_succ _
  refine ⟨(l.length+1)+1,?_⟩
  rw [ygm]
  obtain ⟨f1,f2⟩:=hf 0 (by omega)
  have e1:=wib (n:=(0:Int)+1) (by omega) (by omega)
  rw [yaX,cbT (by omega),show (0:Int).toNat=0 from rfl,yfb (by omega),asT (by omega),asT (by omega),asCk,ck0,ck1,ck2,yuO f1,yuO f2,asTT (by simp),e1,show (0:Int)+1=((0+1:Nat):Int) from rfl]
  rw [yIX hf hl _ _ (l.length-1) (0+1) (l.length+1) _ (by omega) (by omega) (by simp)]
  have e:[PV.agg [PV.int IntKind.i64 (l.getD 0 default).len,PV.data (ints (l.getD 0 default).cuts),PV.data (ints (l.getD 0 default).dens)]]++cks (l.drop (0+1))=cks l:=by
   conv=>rhs;rw [← qBd (l:=l),ydh default h0]
   rfl
  rw [e,asT rfl,asT (by omega),List.take_length]
  exact k
theorem ywM:∀ (l:List Ck),ygA l=0→∀ i,i<l.length→(l.getD i default).ok
 | c::t,h,0,_=>by
  unfold ygA at h
  split at h
  ·rename_i h1;exact yuN h1
  ·rename_i h1;exact absurd h h1
 | c::t,h,i+1,hi=>by
  unfold ygA at h
  split at h
  ·exact ywM t h i (by simpa using hi)
  ·rename_i h1;exact absurd h h1
theorem yzZ {n:Int}:∀ (l:List Ck),ykE n l=true→∀ i,i<l.length→(l.getD i default).len=n
 | c::t,h,0,_=>by
  unfold ykE at h
  simp only [qAd,decide_eq_true_eq] at h
  exact h.1
 | c::t,h,i+1,hi=>by
  unfold ykE at h
  simp only [qAd,decide_eq_true_eq] at h
  exact yzZ t h.2 i (by simpa using hi)
structure DK (l:List Ck):Prop where
 n6:l.length≤6
 n0:1≤l.length
 ok:∀ i,i<l.length→(l.getD i default).ok
 len:∀ i,i<l.length→(l.getD i default).len=(l.getD 0 default).len
theorem ykF {m:Nat} (h:yfW l m=0):DK l∧m≤2000:=by
 unfold yfW at h
 split at h
 ·omega
 split at h
 ·omega
 split at h
 ·omega
 split at h
 ·rename_i h0 h1 h2 h3
  split at h
  ·rename_i h4
   exact ⟨⟨by omega,by omega,ywM l h3,yzZ l h4⟩,by omega⟩
  ·omega
 ·rename_i h3;exact absurd h h3
theorem DK.err {l:List Ck} (h:DK l) {m:Nat} (hm:m≤2000):yfW l m=0:=by
 have f:∀ l:List Ck,(∀ i,i<l.length→(l.getD i default).ok)→ygA l=0:=by
  intro l
  induction l with
  | nil=>intro _;rfl
  | cons c t ih =>
   intro h
   unfold ygA
   rw [if_pos (show c.err=0 from (h 0 (Nat.zero_lt_succ _)).ck)]
   exact ih fun i hi=>h (i+1) (by simpa using hi)
 have g:∀ (n:Int) (l:List Ck),(∀ i,i<l.length→(l.getD i default).len=n)→ykE n l=true:=by
  intro n l
  induction l with
  | nil=>intro _;rfl
  | cons c t ih =>
   intro h
   unfold ykE
   rw [qAd,decide_eq_true_eq]
   exact ⟨h 0 (Nat.zero_lt_succ _),ih fun i hi=>h (i+1) (by simpa using hi)⟩
 have:=h.n6;have:=h.n0
 unfold yfW
 rw [if_neg (by omega),if_neg (by omega),if_neg (by omega),if_pos (f l h.ok),if_pos (g _ l h.len)]
theorem DK.low {l:List Ck} (h:DK l):lowC l:=fun i hi=>by
 have h1:=(h.ok i hi).l1;have h2:=(h.ok i hi).l2
 exact ⟨by omega,by omega⟩
theorem DK.fin {l:List Ck} (h:DK l):finC l:=fun i hi=>by
 have h1:=(h.ok i hi).l1;have h2:=(h.ok i hi).l2
 exact ⟨by omega,by omega⟩
theorem yF2 (hf:finC l) (hl:l.length<4611686018427387904) (K:List PV→List PV→Int→Prop):ybG (cks l) K=if yfW l 0=0 then K (cks l) [] 0 else K [] [] (yfW l 0):=by
 unfold ybG ypF
 rw [yjJ hf hl]
 show cbr (yfW l 0 != 0) _ _=_
 by_cases h:yfW l 0=0
 ·have hd:=(ykF h).1
  rw [cnF h,if_pos h,ywe hd.low (by have:=hd.n6;omega)]
 ·rw [cnT h,if_neg h];rfl
def qrow (agent kind an ad bn bd cn cd:Int):PV:=.agg [.int .i64 agent,.int .u8 kind,.int .i64 an,.int .i64 ad,.int .i64 bn,.int .i64 bd,.int .i64 cn,.int .i64 cd]
def qryR (l:List Ck) (m:Nat) (agent:Int) (ans:Ck→Except Int Rat):Except Int Rat :=
 if yfW l m=0 then (if 0≤agent∧agent<l.length then (match ans (l.getD agent.toNat default) with
  | .ok p=>if m≥2000 then .error 4 else .ok p
  | .error e=>.error e) else .error 2) else .error (yfW l m)
def qryK (l:List Ck) (lg:List PV) (row:Rat→PV) (e:Except Int Rat) (K:List PV→List PV→Int→Int→Int→Prop):Prop :=
 match e with
 | .ok p=>K (cks l) (lg++[row p]) p.num p.den 0
 | .error c=>K [] [] 0 0 c
theorem yNP {w:(List PV→List PV→Int→Int→Int→Prop)→Prop} {l:List Ck} {lg:List PV} {row:Rat→PV} {e:Except Int Rat} (det:∀ r0 r1 r2 r3 r4,(∀ K:List PV→List PV→Int→Int→Int→Prop,K r0 r1 r2 r3 r4→w K)→∀ K,w K=K r0 r1 r2 r3 r4)
  (h:∀ K,qryK l lg row e K→w K) (K):w K=qryK l lg row e K:=by
 cases e with
 | ok q=>exact det _ _ _ _ _ h K
 | error c=>exact det _ _ _ _ _ h K
theorem mk1 {z q:PV} {lg:List PV} {m:Nat} (hm:m=lg.length) :
  List.take ((0+m)+1) ((List.take (0+(0+m)) (lg++(List.drop (0+m) (List.replicate (m+1) z))))++(([q]:List PV)++(List.drop ((0+(0+m))+1) (lg++(List.drop (0+m) (List.replicate (m+1) z))))))=lg++[q]:=by
 subst hm
 simp
 rw [qBe (by simp)]
theorem yEe (lg:List PV) (agent:Int) (K:Bool→Prop):ybv (cks l) lg agent K=K (decide (0≤agent∧agent<l.length)):=by
 unfold ybv yhA
 rw [yaX]
 by_cases h:agent≥0
 ·rw [cbT h]
  congr 1
  rw [decide_eq_decide];omega
 ·rw [cbF h,decide_eq_false (by omega)]
def Ck.mark (an ad vn vd:Int) (c:Ck):Except Int Rat:=mrkR c.len c.cuts c.dens an ad vn vd
def Ck.value (an ad bn bd:Int) (c:Ck):Except Int Rat:=valR c.len c.cuts c.dens an ad bn bd
theorem yLA (hf:finC l) (hl:l.length<4611686018427387904) {lg:List PV} (hlg:yd7 8 lg=true) {agent an ad vn vd:Int} (ha:I64 an) (ha':I64 ad) (hv:I64 vn) (hv':I64 vd) (K) :
  yed (cks l) lg agent an ad vn vd K=qryK l lg (fun p=>qrow agent 2 an ad vn vd p.num p.den) (qryR l lg.length agent (Ck.mark an ad vn vd)) K:=by
 refine yNP (fun r0 r1 r2 r3 r4 h K=>yDS _ _ _ _ _ _ _ r0 r1 r2 r3 r4 h K) (fun K k=>?_) K
 unfold yed ypH
 unfold qryR at k
 rw [yjJ hf hl]
 by_cases h:yfW l lg.length=0
 case neg=>rw [cnT h];rw [if_neg h] at k;exact k
 obtain ⟨hd,hm⟩:=ykF h
 rw [if_pos h] at k
 rw [cnF h,yEe]
 by_cases h2:0≤agent∧agent<l.length
 case neg=>rw [decide_eq_false h2,qBt,yam];rw [if_neg h2] at k;exact k
 rw [if_pos h2] at k
 obtain ⟨a,rfl⟩:∃ a:Nat,agent=a:=⟨agent.toNat,by omega⟩
 have ha2:a<l.length:=by omega
 rw [qAe] at k
 obtain ⟨f1,f2⟩:=hf a ha2
 rw [decide_eq_true h2,qBp,yae,ybS,yft,yaX,qAe,yfb ha2,asT (by omega),asT (by omega),asCk,ck0,ck1,ck2,yF0 (by omega) (by omega) ha ha' hv hv']
 have em:Ck.mark an ad vn vd (l.getD a default)=mrkR (l.getD a default).len (l.getD a default).cuts (l.getD a default).dens an ad vn vd:=rfl
 rw [em] at k
 cases hr:mrkR (l.getD a default).len (l.getD a default).cuts (l.getD a default).dens an ad vn vd with
 | error c =>
  rw [hr] at k
  have k:K [] [] 0 0 c:=k
  rw [yLz]
  have hc:c≠0:=by
   intro hc
   subst hc
   unfold mrkR at hr
   split at hr
   ·split at hr
    ·unfold mrkC at hr
     split at hr
     ·cases hr
     ·have no:∀ (r i:Nat) (p v:Rat),mrkS (l.getD a default).cuts (l.getD a default).dens r i p v≠.error 0:=by
       intro r
       induction r with
       | zero=>intro i p v e;unfold mrkS at e;cases e
       | succ r ih =>
        intro i p v e
        unfold mrkS fit at e
        repeat' (first | split at e | dsimp only at e)
        all_goals first | exact ih _ _ _ e | cases e
      exact no _ _ _ _ hr
    ·cases hr
   ·rename_i h5;exact h5 (Except.error.inj hr)
  rw [cnT hc];exact k
 | ok p =>
  rw [hr] at k
  rw [yEd,cnF rfl]
  by_cases h3:lg.length≥2000
  ·rw [cbT (by omega)]
   have k:qryK l lg _ (if lg.length≥2000 then .error 4 else .ok p) K:=k
   rw [if_pos h3] at k;exact k
  ·have k:qryK l lg _ (if lg.length≥2000 then .error 4 else .ok p) K:=k
   rw [if_neg h3] at k
   have k:K (cks l) (lg++[qrow a 2 an ad vn vd p.num p.den]) p.num p.den 0:=k
   have e1:=wib (n:=(lg.length:Int)+1) (by omega) (by omega)
   have e2:((lg.length:Int)+1).toNat=lg.length+1:=by omega
   rw [cbF (by omega),e1,e2,asT (by omega),asT (by unfold room;omega),ywe hd.low (by have:=hd.n6;omega),hlg,yau]
   rw [asT (by simp),asT (by omega)]
   cases hlg2:lg with
   | nil =>
    rw [List.isEmpty_nil,yam,asT (by simp),asT (by simp),asT (by simp),asT (by simp),asT (by simp)]
    rw [hlg2] at k
    exact k
   | cons x t =>
    rw [← hlg2,show List.isEmpty lg=false by rw [hlg2];rfl,yae,asT (by omega),asT (by simp),asT (by omega),asT (by omega),asT (by simp),asT (by omega)]
    rw [mk1 rfl]
    exact k
theorem yLB (cuts dens:List Int):∀ (r i:Nat) (p v:Rat),mrkS cuts dens r i p v≠.error 0:=by
 intro r
 induction r with
 | zero=>intro i p v e;unfold mrkS at e;cases e
 | succ r ih =>
  intro i p v e
  unfold mrkS fit at e
  repeat' (first | split at e | dsimp only at e)
  all_goals first | exact ih _ _ _ e | cases e
theorem yLC {len:Int} {cuts dens:List Int} {an ad vn vd:Int}:mrkR len cuts dens an ad vn vd≠.error 0:=by
 intro hr
 unfold mrkR at hr
 split at hr
 ·split at hr
  ·unfold mrkC at hr
   split at hr
   ·cases hr
   ·exact yLB _ _ _ _ _ _ hr
  ·cases hr
 ·rename_i h5;exact h5 (Except.error.inj hr)
theorem yLD (cuts dens:List Int) (b:Rat):∀ (r i:Nat) (p v:Rat),valS cuts dens b r i p v≠.error 0:=by
 intro r
 induction r with
 | zero=>intro i p v e;unfold valS at e;cases e
 | succ r ih =>
  intro i p v e
  unfold valS fit at e
  repeat' (first | split at e | dsimp only at e)
  all_goals first | exact ih _ _ _ e | cases e
theorem yF3 {len:Int} {cuts dens:List Int} {an ad vn vd:Int}:valR len cuts dens an ad vn vd≠.error 0:=by
 intro hr
 unfold valR at hr
 split at hr
 ·split at hr
  ·exact yLD _ _ _ _ _ _ _ hr
  ·cases hr
 ·rename_i h5;exact h5 (Except.error.inj hr)
theorem yJ5 (hf:finC l) (hl:l.length<4611686018427387904) {lg:List PV} (hlg:yd7 8 lg=true) {agent an ad vn vd:Int} (ha:I64 an) (ha':I64 ad) (hv:I64 vn) (hv':I64 vd) (K) :
  ydn (cks l) lg agent an ad vn vd K=qryK l lg (fun p=>qrow agent 1 an ad vn vd p.num p.den) (qryR l lg.length agent (Ck.value an ad vn vd)) K:=by
 refine yNP (fun r0 r1 r2 r3 r4 h K=>yA6 _ _ _ _ _ _ _ r0 r1 r2 r3 r4 h K) (fun K k=>?_) K
 unfold ydn ynL
 unfold qryR at k
 rw [yjJ hf hl]
 by_cases h:yfW l lg.length=0
 case neg=>rw [cnT h];rw [if_neg h] at k;exact k
 obtain ⟨hd,hm⟩:=ykF h
 rw [if_pos h] at k
 rw [cnF h,yEe]
 by_cases h2:0≤agent∧agent<l.length
 case neg=>rw [decide_eq_false h2,qBt,yam];rw [if_neg h2] at k;exact k
 rw [if_pos h2] at k
 obtain ⟨a,rfl⟩:∃ a:Nat,agent=a:=⟨agent.toNat,by omega⟩
 have ha2:a<l.length:=by omega
 rw [qAe] at k
 obtain ⟨f1,f2⟩:=hf a ha2
 rw [decide_eq_true h2,qBp,yae,ybH,yeY,yaX,qAe,yfb ha2,asT (by omega),asT (by omega),asCk,ck0,ck1,ck2,ywd (by omega) (by omega) ha ha' hv hv']
 have em:Ck.value an ad vn vd (l.getD a default)=valR (l.getD a default).len (l.getD a default).cuts (l.getD a default).dens an ad vn vd:=rfl
 rw [em] at k
 cases hr:valR (l.getD a default).len (l.getD a default).cuts (l.getD a default).dens an ad vn vd with
 | error c =>
  rw [hr] at k
  have k:K [] [] 0 0 c:=k
  rw [yLz]
  have hc:c≠0:=fun hc=>yF3 (hc ▸ hr)
  rw [cnT hc];exact k
 | ok p =>
  rw [hr] at k
  rw [yEd,cnF rfl]
  by_cases h3:lg.length≥2000
  ·rw [cbT (by omega)]
   have k:qryK l lg _ (if lg.length≥2000 then .error 4 else .ok p) K:=k
   rw [if_pos h3] at k;exact k
  ·have k:qryK l lg _ (if lg.length≥2000 then .error 4 else .ok p) K:=k
   rw [if_neg h3] at k
   have k:K (cks l) (lg++[qrow a 1 an ad vn vd p.num p.den]) p.num p.den 0:=k
   have e1:=wib (n:=(lg.length:Int)+1) (by omega) (by omega)
   have e2:((lg.length:Int)+1).toNat=lg.length+1:=by omega
   rw [cbF (by omega),e1,e2,asT (by omega),asT (by unfold room;omega),ywe hd.low (by have:=hd.n6;omega),hlg,yau]
   rw [asT (by simp),asT (by omega)]
   cases hlg2:lg with
   | nil =>
    rw [List.isEmpty_nil,yam,asT (by simp),asT (by simp),asT (by simp),asT (by simp),asT (by simp)]
    rw [hlg2] at k
    exact k
   | cons x t =>
    rw [← hlg2,show List.isEmpty lg=false by rw [hlg2];rfl,yae,asT (by omega),asT (by simp),asT (by omega),asT (by omega),asT (by simp),asT (by omega)]
    rw [mk1 rfl]
    exact k
def ytb (l:List Ck):Bool:=l.any (fun c=>decide (c.cuts.length>60)||decide (c.dens.length>60))||decide (l.length>10)
theorem yJ6 {len:Int} {cuts dens:List Int} (K:Bool→Prop):yf8 len (ints cuts) (ints dens) K=K (decide (cuts.length>60)||decide (dens.length>60)):=by
 unfold yf8 ynN
 rw [ybx,ybx]
 by_cases h:cuts.length>60
 ·rw [cbT (by omega),decide_eq_true h];rfl
 ·rw [cbF (by omega),decide_eq_false h,Bool.false_or]
  congr 1;rw [decide_eq_decide];omega
theorem yoB (hl:l.length≤9223372036854775807) (K:Bool→Prop) :
  ∀ (r i n:Nat),i+r=l.length→r<n→ycG yf8 (fun a=>(K a)) (fun b _ _=>(K (decide ((((List.length b):Nat):Int)>(10:Int))))) n (cks l) i =
   K ((l.drop i).any (fun c=>decide (c.cuts.length>60)||decide (c.dens.length>60))||decide (l.length>10))
 | 0,i,n+1,hi,hn=>by
  unfold ycG
  rw [yaX,cbF (by omega),qA0 (by omega)]
  show K _=K (false||_)
  rw [Bool.false_or]
  congr 1;rw [decide_eq_decide];omega
 | r+1,i,n+1,hi,hn=>by
  unfold ycG
  have e1:=wib (n:=(i:Int)+1) (by omega) (by omega)
  rw [yaX,cbT (by omega),qAe,yfb (by omega),asT (by omega),asT (by omega),asCk,ck0,ck1,ck2,yJ6,ydh default (by omega),List.any_cons,e1,yc3]
  cases hb:(decide ((l.getD i default).cuts.length>60)||decide ((l.getD i default).dens.length>60)) with
  | true=>rw [yam];rfl
  | false=>rw [yae,Bool.false_or];exact yoB hl K r (i+1) n (by omega) (by omega)
theorem yBn (hl:l.length≤9223372036854775807) (K:Bool→Prop):yd5 (cks l) K=K (ytb l):=by
 refine ysS _ _ (fun K k=>?_) K
 unfold yd5 yhB
 refine ⟨l.length+1,?_⟩
 have:=yoB hl K l.length 0 (l.length+1) (by omega) (by omega)
 rw [show ((0:Nat):Int)=0 from rfl,qBd] at this
 rw [this];exact k
theorem yz0 (h:ytb l=false):l.length≤10∧lowC l∧finC l:=by
 unfold ytb at h
 simp only [qB7,decide_eq_false_iff_not,List.any_eq_false,Bool.not_eq_true,Nat.not_lt] at h
 have hh:∀ i,i<l.length→(l.getD i default).cuts.length≤60∧(l.getD i default).dens.length≤60:=by
  intro i hi
  have hm:l.getD i default∈l:=by rw [qAb,qAa hi];exact qBw hi
  have:=h.1 _ hm
  omega
 exact ⟨by omega,fun i hi=>⟨by have:=hh i hi;omega,by have:=hh i hi;omega⟩,fun i hi=>⟨by have:=hh i hi;omega,by have:=hh i hi;omega⟩⟩
def shr (c:Ck) (n:Int):Rat:=(totC c.cuts c.dens:Rat) / (n:Rat)
theorem yCe {n d:Int} (hn:-1000000000000000000≤n∧n≤1000000000000000000) (hd:1≤d∧d≤1000000000000000000):small ((n:Rat) / (d:Rat)):=by
 have e:(n:Rat) / (d:Rat)=mkRat n d.toNat:=by
  rw [Rat.mkRat_eq_div]
  have h1:((d.toNat:Nat):Int)=d:=by omega
  have h2:((d.toNat:Nat):Rat)=(d:Rat):=by rw [← Rat.intCast_natCast,h1]
  rw [h2]
 rw [e]
 unfold small
 rw [Rat.num_mkRat,Rat.den_mkRat,if_neg (by omega),if_neg (by omega)]
 have g0:0<d.toNat.gcd n.natAbs:=Nat.gcd_pos_of_pos_left _ (by omega)
 have h1:(n / (d.toNat.gcd n.natAbs:Nat)).natAbs≤n.natAbs:=by
  rw [Int.natAbs_ediv_of_dvd,Int.natAbs_natCast]
  ·exact Nat.div_le_self _ _
  ·rw [← Int.dvd_natAbs,Int.ofNat_dvd];exact Nat.gcd_dvd_right _ _
 have h2:d.toNat / d.toNat.gcd n.natAbs≤d.toNat:=Nat.div_le_self _ _
 generalize n / (d.toNat.gcd n.natAbs:Nat)=x at *
 generalize d.toNat / d.toNat.gcd n.natAbs=y at *
 omega
theorem yJ7 {c:Ck} (h:c.ok) {n:Int} (hn:1≤n∧n≤1000):small (shr c n):=by
 have:=ygc h
 exact yCe (by omega) (by omega)
end
theorem rne {D:Int} (h:1≤D):(D:Rat)≠0:=fun e=>by have:=Rat.intCast_eq_zero_iff.1 e;omega
section
variable {len:Int} {cuts dens:List Int}
def rem (cuts dens:List Int):Nat→Nat→Int
 | 0,_=>0
 | r+1,i=>dens.getD i 0*(cuts.getD (i+1) 0-cuts.getD i 0)+rem cuts dens r (i+1)
theorem yz1 (cuts dens:List Int):∀ (r i:Nat) (s:Int),totS cuts dens r i s=s+rem cuts dens r i
 | 0,i,s=>by unfold totS rem;omega
 | r+1,i,s=>by unfold totS rem;rw [yz1 cuts dens r (i+1)];omega
theorem yCf (h:VC len cuts dens):∀ (r i:Nat),i+r=dens.length→0≤rem cuts dens r i∧rem cuts dens r i≤12*(len-cuts.getD i 0)
 | 0,i,hi=>by
  have:=h.l1
  have:=h.hi (i:=i) (by omega)
  unfold rem;omega
 | r+1,i,hi=>by
  unfold rem
  have l1:=h.l1
  have h2:=h.step (i:=i) (by omega)
  have h3:=yIS (h.den (i:=i) (by omega)) (x:=cuts.getD (i+1) 0-cuts.getD i 0) (by omega)
  have:=yCf h r (i+1) (by omega)
  omega
theorem yIY (h:VC len cuts dens):∀ (r i:Nat),i+r=dens.length→(∃ j,i≤j∧j<dens.length∧0<dens.getD j 0)→0<rem cuts dens r i
 | 0,i,hi,⟨j,h1,h2,_⟩=>by omega
 | r+1,i,hi,⟨j,h1,h2,h3⟩=>by
  unfold rem
  have l1:=h.l1
  have s:=h.step (i:=i) (by omega)
  have m:=yIS (h.den (i:=i) (by omega)) (x:=cuts.getD (i+1) 0-cuts.getD i 0) (by omega)
  have b:=yCf h r (i+1) (by omega)
  by_cases e:j=i
  ·subst e
   have:=Int.mul_pos h3 (show 0<cuts.getD (j+1) 0-cuts.getD j 0 by omega)
   omega
  ·have:=yIY h r (i+1) (by omega) ⟨j,by omega,h2,h3⟩
   omega
theorem yz2 (h:VC len cuts dens):0<totC cuts dens:=by
 unfold totC
 rw [yz1]
 obtain ⟨d,hd,h0⟩:=h.2.2.2.2.2.2.2.2.2
 obtain ⟨j,hj,e⟩:=List.mem_iff_getElem.1 hd
 have:=yIY h dens.length 0 (by omega) ⟨j,by omega,hj,by rw [qAb,qAa hj];simpa [e] using h0⟩
 omega
end
structure Qy where
 agent:Int
 kind:Int
 an:Int
 ad:Int
 bn:Int
 bd:Int
 cn:Int
 cd:Int
 deriving DecidableEq
instance:Inhabited Qy:=⟨⟨0,0,0,0,0,0,0,0⟩⟩
def encQ (q:Qy):PV:=qrow q.agent q.kind q.an q.ad q.bn q.bd q.cn q.cd
def logs (l:List Qy):List PV:=l.map encQ
theorem yeQ (l:List Qy):(logs l).length=l.length:=qAq ..
theorem yM7 {l:List Qy} {i:Nat} (h:i<l.length):List.getD (logs l) i .nils=encQ (l.getD i default):=by
 unfold logs
 rw [qAb,qAb,qA3,qAa h]
 rfl
theorem yCg (l:List Qy):yd7 8 (logs l)=true:=by cases l <;> rfl
theorem yF4 (l m:List Qy):logs (l++m)=logs l++logs m:=List.map_append ..
theorem asQ {q:Qy} {P:Prop}:asr (conf (.agg [.i .i64,.i .u8,.i .i64,.i .i64,.i .i64,.i .i64,.i .i64,.i .i64]) (encQ q)) P=P:=rfl
structure Sp where
 a:Int
 b:Int
 c:Int
 d:Int
 deriving DecidableEq
instance:Inhabited Sp:=⟨⟨0,0,0,0⟩⟩
def encS (s:Sp):PV:=.agg [.int .i64 s.a,.int .i64 s.b,.int .i64 s.c,.int .i64 s.d]
def yhJ (l:List Sp):List PV:=l.map encS
def pieces (l:List (List Sp)):List PV:=l.map fun s=>.data (yhJ s)
theorem yjK (l:List Sp):(yhJ l).length=l.length:=qAq ..
theorem yuP {l:List Sp} {i:Nat} (h:i<l.length):List.getD (yhJ l) i .nils=encS (l.getD i default):=by
 unfold yhJ
 rw [qAb,qAb,qA3,qAa h]
 rfl
theorem asD {r:List PV} {P:Prop}:asr (conf zD (.data r)) P=P:=rfl
def getR (e:Except Int Rat):Rat:=match e with | .ok q=>q | .error _=>0
theorem yM8 {e:Except Int Rat} {q:Rat} (h:e=.ok q):e=.ok (getR e)∧getR e=q:=by subst h;exact ⟨rfl,rfl⟩
section
variable {l:List Ck}
theorem yM9 (x y:Rat):decide (cmpQ x y≥0)=!decide (x<y):=by
 unfold cmpQ
 by_cases h:x<y
 ·simp [h]
 ·by_cases h2:y<x <;> simp [h,h2]
end
def dsC:DS:=.a [.i .i64,.s (.i .i64),.s (.i .i64)]
theorem yIZ {n:Int} (h:inK .i64 n):I64 n:=by
 have e1:IntKind.i64.min=-9223372036854775808:=by decide
 have e2:IntKind.i64.max=9223372036854775807:=by decide
 unfold inK at h
 rw [e1,e2] at h
 exact h
theorem F_i {c:List PV} (h:HasF (.i .i64) c):∃ n,c=[.int .i64 n]∧I64 n:=by
 simp only [HasF] at h
 obtain ⟨n,e,k⟩:=h
 exact ⟨n,e,yIZ k⟩
theorem yEf:∀ (rows:List PV),(∀ x∈rows,x.isAgg=(DS.i .i64).isA∧HasF (.i .i64) x.cells)→∃ l:List Int,rows=ints l∧∀ n∈l,I64 n
 | [],_=>⟨[],rfl,by simp⟩
 | x::r,h=>by
  obtain ⟨l,e,hl⟩:=yEf r (fun y hy=>h y (qAh _ hy))
  obtain ⟨h1,h2⟩:=h x (qAi ..)
  obtain ⟨n,e2,hn⟩:=F_i h2
  have ex:x=.int .i64 n:=by
   cases x <;> first | (simp only [PV.cells,qA1,and_true] at e2;exact e2) | (cases h1)
  refine ⟨n::l,by rw [ex,e];rfl,?_⟩
  intro m hm
  rcases qAr.1 hm with rfl | hm
  ·exact hn
  ·exact hl m hm
def Ck.i64 (c:Ck):Prop:=I64 c.len∧(∀ n∈c.cuts,I64 n)∧∀ n∈c.dens,I64 n
theorem F_c {c:List PV} (h:HasF dsC c):∃ k:Ck,c=[.int .i64 k.len,.data (ints k.cuts),.data (ints k.dens)]∧k.i64∧k.cuts.length≤9223372036854775807∧k.dens.length≤9223372036854775807:=by
 simp only [dsC,HasF,HasL] at h
 obtain ⟨c1,c2,rfl,⟨n,rfl,hn⟩,c3,c4,rfl,⟨r1,rfl,l1,h1⟩,c5,c6,rfl,⟨r2,rfl,l2,h2⟩,rfl⟩:=h
 obtain ⟨a,rfl,ha⟩:=yEf r1 (fun x hx=>⟨(h1 x hx).1,by simp only [HasF];exact (h1 x hx).2⟩)
 obtain ⟨b,rfl,hb⟩:=yEf r2 (fun x hx=>⟨(h2 x hx).1,by simp only [HasF];exact (h2 x hx).2⟩)
 rw [ybx] at l1 l2
 exact ⟨⟨n,a,b⟩,rfl,⟨yIZ hn,ha,hb⟩,l1,l2⟩
theorem yOt {x:PV} {l:List DS} (h:x.isAgg=(DS.a l).isA):x=.agg x.cells:=by
 cases x <;> first | rfl | cases h
theorem yLE:∀ (rows:List PV),(∀ x∈rows,x.isAgg=dsC.isA∧HasF dsC x.cells)→∃ l:List Ck,rows=cks l∧∀ c∈l,c.i64
 | [],_=>⟨[],rfl,by simp⟩
 | x::r,h=>by
  obtain ⟨l,e,hl⟩:=yLE r (fun y hy=>h y (qAh _ hy))
  obtain ⟨h1,h2⟩:=h x (qAi ..)
  obtain ⟨k,e2,hk,_⟩:=F_c h2
  have ex:x=encC k:=by rw [yOt h1,e2];rfl
  refine ⟨k::l,by rw [ex,e];rfl,?_⟩
  intro m hm
  rcases qAr.1 hm with rfl | hm
  ·exact hk
  ·exact hl m hm
theorem yOZ {c:List PV} (h:HasF (.s dsC) c):∃ l:List Ck,c=[.data (cks l)]∧l.length≤9223372036854775807∧∀ k∈l,k.i64:=by
 simp only [HasF] at h
 obtain ⟨rows,rfl,hl,hr⟩:=h
 obtain ⟨l,rfl,hi⟩:=yLE rows hr
 rw [yaX] at hl
 exact ⟨l,rfl,hl,hi⟩
theorem yJ8 {x y:PV} (h:x.isAgg=false) (e:x.cells=[y]):x=y:=by
 cases x <;> first | (simp only [PV.cells,qA1,and_true] at e;exact e) | cases h
theorem yO0 {as:List PV} (h:ytL [.s dsC] as):∃ (l:List Ck),as=[.data (cks l)]∧l.length≤9223372036854775807∧∀ k∈l,k.i64:=by
 simp only [ytL] at h
 obtain ⟨x,r,rfl,x1,x2,rfl⟩:=h
 obtain ⟨l,e1,hl,hi⟩:=yOZ x2
 rw [yJ8 x1 e1]
 exact ⟨l,rfl,hl,hi⟩
section
variable {l:List Ck}
theorem ymE {α:Type} {q:Rat} {k:Rat→Except Int α} {x:α} (h:fit q k=.ok x):small q∧k q=.ok x:=by
 unfold fit at h
 split at h
 ·rename_i hs;exact ⟨hs,h⟩
 ·cases h
theorem yn6 {cuts dens:List Int}:∀ (r i:Nat) (p v q:Rat),mrkS cuts dens r i p v=.ok q→small q
 | 0,_,_,_,_,h=>by unfold mrkS at h;cases h
 | r+1,i,p,v,q,h=>by
  unfold mrkS at h
  split at h
  ·exact yn6 r _ _ _ _ h
  ·split at h
   ·exact yn6 r _ _ _ _ h
   ·obtain ⟨_,h⟩:=ymE h
    obtain ⟨_,h⟩:=ymE h
    split at h
    ·obtain ⟨_,h⟩:=ymE h
     exact yn6 r _ _ _ _ h
    ·obtain ⟨_,h⟩:=ymE h
     obtain ⟨s,h⟩:=ymE h
     cases h
     exact s
theorem yHU {len:Int} {cuts dens:List Int} {an ad vn vd:Int} {q:Rat} (h:mrkR len cuts dens an ad vn vd=.ok q):small q:=by
 unfold mrkR at h
 split at h
 ·split at h
  ·rename_i hp
   unfold mrkC at h
   split at h
   ·cases h;exact hp.1.pt.1
   ·exact yn6 _ _ _ _ _ h
  ·cases h
 ·cases h
theorem yHV {m:Nat} {agent an ad vn vd:Int} {p:Rat} (h:qryR l m agent (Ck.mark an ad vn vd)=.ok p):small p:=by
 unfold qryR at h
 split at h
 ·split at h
  ·split at h
   ·rename_i q hq
    split at h
    ·cases h
    ·cases h;exact yHU hq
   ·cases h
  ·cases h
 ·cases h
def nts (r:List Nat):List PV:=ints (r.map fun n:Nat=>(n:Int))
theorem yk5 (r:List Nat):(nts r).length=r.length:=by unfold nts;rw [ybx,qAq]
theorem yOu {r:List Nat} {i:Nat} (h:i<r.length):List.getD (nts r) i .nils=.int .i64 (r.getD i 0):=by
 unfold nts
 rw [yEb (by rw [qAq];exact h)]
 rw [qAb,qA3,qAa h,qAb,qAa h]
 rfl
def shN (l:List Ck) (a:Nat):Rat:=shr (l.getD a default) l.length
def ykG (l:List Ck) (an ad:Int) (m a:Nat):Except Int Rat:=qryR l m a (Ck.mark an ad (shN l a).num (shN l a).den)
def yqc (l:List Ck) (an ad:Int) (a:Nat) (p:Rat):Qy:=⟨a,2,an,ad,(shN l a).num,(shN l a).den,p.num,p.den⟩
theorem yif (hd:DK l) {a:Nat} (h:a<l.length):small (shN l a):=yJ7 (hd.ok a h) ⟨by omega,by have:=hd.n6;omega⟩
theorem yLF {bk:List Nat} {i:Nat} (h:i<bk.length):bk.getD i 0∈bk:=by
 rw [qAb,qAa h]
 exact qBw h
theorem range_take (n i:Nat) (_:i≤n):(List.range i).length=i:=qBz ..
end
end Go.Pf.Vc
namespace Go.Pf.Vc
abbrev RS:Type:=Rat×Rat
def inS (s:RS) (p:Rat):Prop:=s.1≤p∧p<s.2
def memP (l:List RS) (p:Rat):Prop:=∃ s∈l,inS s p
def yI0:List RS→Prop
 | []=>True
 | s::r=>s.1<s.2∧(∀ t∈r,s.2<t.1)∧yI0 r
theorem yLG {p:Rat}:¬memP [] p:=fun ⟨s,h,_⟩=>by cases h
theorem yqI {s:RS} {r:List RS} {p:Rat}:memP (s::r) p↔inS s p∨memP r p:=by
 constructor
 ·rintro ⟨t,h,hp⟩
  rcases qAr.1 h with rfl | h
  ·exact .inl hp
  ·exact .inr ⟨t,h,hp⟩
 ·rintro (h | ⟨t,h,hp⟩)
  ·exact ⟨s,qAi,h⟩
  ·exact ⟨t,qAh _ h,hp⟩
def maxR (a b:Rat):Rat:=if a<b then b else a
def yz3:List RS→Prop
 | []=>True
 | s::r=>(∀ t∈r,s.1≤t.1)∧yz3 r
def jn (f:Rat→Bool):List Rat→Option RS→List RS
 | x::y::r,none=>if f x then jn f (y::r) (some (x,y)) else jn f (y::r) none
 | x::y::r,some c=>if f x then (if c.2=x then jn f (y::r) (some (c.1,y)) else c::jn f (y::r) (some (x,y))) else jn f (y::r) (some c)
 | _,none=>[]
 | _,some c=>[c]
def minR (a b:Rat):Rat:=if a<b then a else b
theorem yfX (a b:Rat):a≤maxR a b∧b≤maxR a b∧(maxR a b=a∨maxR a b=b):=by unfold maxR;split <;> grind
theorem ygM (a b:Rat):minR a b≤a∧minR a b≤b∧(minR a b=a∨minR a b=b):=by unfold minR;split <;> grind
end Go.Pf.Vc
namespace Go.Pf.Vc
open Go Go.Pf
def Sp.rs (s:Sp):RS:=(rt s.a s.b,rt s.c s.d)
def Sp.ok (s:Sp):Prop:=RV s.a s.b∧RV s.c s.d∧rt s.a s.b<rt s.c s.d
instance (s:Sp):Decidable s.ok:=by unfold Sp.ok;infer_instance
def Sp.i64 (s:Sp):Prop:=I64 s.a∧I64 s.b∧I64 s.c∧I64 s.d
theorem yF5 {q r:Rat} (hq:small q) (hr:small r) (K:Int→Prop):ybd q.num q.den r.num r.den K=K (cmpQ q r):=by
 unfold ybd ykg
 rw [yuL hq hr]
theorem yLH {a b c d:Int} (h:RV a b) (k:RV c d) (K:Int→Prop):ybd a b c d K=K (cmpQ (rt a b) (rt c d)):=by
 obtain ⟨h1,h2,h3⟩:=ymD h
 obtain ⟨k1,k2,k3⟩:=ymD k
 have:=yF5 h1 k1 K
 rw [h2,h3,k2,k3] at this
 exact this
theorem yF6 (q r:Rat):decide (cmpQ q r<0)=decide (q<r):=by
 unfold cmpQ
 by_cases h:q<r
 ·rw [if_pos h];simp [h]
 ·rw [if_neg h]
  split <;> simp [h]
theorem yNa (q r:Rat):decide (cmpQ q r≤0)=!decide (r<q):=by
 unfold cmpQ
 by_cases h:q<r
 ·have:¬r<q:=by grind
  rw [if_pos h];simp [this]
 ·rw [if_neg h]
  by_cases h2:r<q
  ·rw [if_pos h2];simp [h2]
  ·rw [if_neg h2];simp [h2]
theorem yLI {s:Sp} (h:s.i64) (K:Bool→Prop):ycK s.a s.b s.c s.d K=K (decide s.ok):=by
 refine yxc _ _ _ _ _ (fun K k=>?_) K
 unfold ycK ykf
 refine yLk h.1 h.2.1 h.2.2.1 h.2.2.2 ?_
 by_cases h1:RV s.a s.b
 ·by_cases h2:RV s.c s.d
  ·have e:chk2 s.a s.b s.c s.d=0:=yey.2 ⟨h1,h2⟩
   obtain ⟨_,n1,n2⟩:=ymD h1
   obtain ⟨_,n3,n4⟩:=ymD h2
   have e2:=yIQ (rt s.a s.b) (rt s.c s.d)
   rw [n1,n2,n3,n4] at e2
   rw [e,if_pos rfl,ceT rfl,e2,yF6]
   have e3:decide s.ok=decide (rt s.a s.b<rt s.c s.d):=by rw [decide_eq_decide];exact ⟨fun k=>k.2.2,fun k=>⟨h1,h2,k⟩⟩
   rw [← e3];exact k
  ·have e:chk2 s.a s.b s.c s.d≠0:=fun e=>h2 (yey.1 e).2
   rw [ceF e]
   have e3:decide s.ok=false:=decide_eq_false fun k=>h2 k.2.1
   rw [← e3];exact k
 ·have e:chk2 s.a s.b s.c s.d≠0:=fun e=>h1 (yey.1 e).1
  rw [ceF e]
  have e3:decide s.ok=false:=decide_eq_false fun k=>h1 k.1
  rw [← e3];exact k
theorem asSp {s:Sp} {P:Prop}:asr (conf z4 (encS s)) P=P:=rfl
def yz4 (l:List Sp):Bool:=l.all fun s=>decide s.ok
theorem yLJ {l:List Sp} (h64:∀ s∈l,s.i64) (hl:l.length<4611686018427387904) :
  ∀ x0 x1,∀ (r i n:Nat),i+r=l.length→r<n→yeu ycK x0 x1 n (yhJ l) l.length i=if yz4 (l.drop i) then x1 (yhJ l) l.length l.length false else x0 8:=by
 intro x0 x1 r
 induction r with
 | zero =>
  intro i n hi hn
  obtain ⟨n,rfl⟩:∃ m,n=m+1:=⟨n-1,by omega⟩
  obtain rfl:i=l.length:=by omega
  rw [yeu,cbF (by omega),List.drop_length]
  rfl
 | succ r ih =>
  intro i n hi hn
  obtain ⟨n,rfl⟩:∃ m,n=m+1:=⟨n-1,by omega⟩
  have hil:i<l.length:=by omega
  have e1:=wib (n:=(i:Int)+1) (by omega) (by omega)
  have hm:l.getD i default∈l:=by
   rw [qAb,qAa hil]
   exact qBw hil
  have hd:yz4 (l.drop i)=(decide (l.getD i default).ok&&yz4 (l.drop (i+1))):=by
   rw [ydh default hil];rfl
  rw [yeu,cbT (by omega),asT (by omega),yjK,asT (by omega),qAe,yuP hil,asSp,e1,yc3]
  change ycK (l.getD i default).a (l.getD i default).b (l.getD i default).c (l.getD i default).d _=_
  rw [yLI (h64 _ hm),hd]
  cases hv:decide (l.getD i default).ok with
  | true =>
   rw [show (!true)=false from rfl,yae,qA7]
   exact ih (i+1) n (by omega) (by omega)
  | false =>
   rw [show (!false)=true from rfl,yam,qBm]
   rfl
def allE (l:List Sp):Int:=if l.length>60 then 4 else if yz4 l then 0 else 8
theorem yOv {l:List Sp} (h64:∀ s∈l,s.i64) (hl:l.length<4611686018427387904) (K:Int→Prop):yeL (yhJ l) K=K (allE l):=by
 refine yA0 _ _ (fun K k=>?_) K
 unfold yeL ynG
 unfold allE at k
 rw [yjK]
 by_cases h:l.length>60
 ·rw [cbT (by omega)];rw [if_pos h] at k;exact k
 ·rw [cbF (by omega)]
  rw [if_neg h] at k
  refine ⟨l.length+1,?_⟩
  refine (yLJ h64 hl _ _ l.length 0 (l.length+1) (by omega) (by omega)).mpr ?_
  rw [qBd]
  split
  ·rename_i h2;rw [if_pos h2] at k;exact k
  ·rename_i h2;rw [if_neg h2] at k;exact k
def gapB:Sp→List Sp→Bool
 | _,[]=>true
 | s,t::r=>decide (s.rs.2<t.rs.1)&&gapB t r
theorem yHW {l:List Sp} (hok:∀ s∈l,s.ok) (hl:l.length<4611686018427387904) :
  ∀ x0 x1,∀ (r i n:Nat),i+1+r=l.length→r<n→ycR yeL ybd x0 x1 n (yhJ l) ((i+1:Nat):Int)=if gapB (l.getD i default) (l.drop (i+1)) then x1 (yhJ l) l.length false else x0 8:=by
 intro x0 x1 r
 induction r with
 | zero =>
  intro i n hi hn
  obtain ⟨n,rfl⟩:∃ m,n=m+1:=⟨n-1,by omega⟩
  rw [ycR,yjK,cbF (by omega),List.drop_eq_nil_of_le (by omega),show i+1=l.length by omega]
  rfl
 | succ r ih =>
  intro i n hi hn
  obtain ⟨n,rfl⟩:∃ m,n=m+1:=⟨n-1,by omega⟩
  have e0:=wib (n:=((i+1:Nat):Int)-1) (by omega) (by omega)
  have e2:((i+1:Nat):Int)-1=(i:Int):=by omega
  have e1:=wib (n:=((i+1:Nat):Int)+1) (by omega) (by omega)
  have hm1:l.getD i default∈l:=by
   rw [qAb,qAa (by omega)]
   exact qBw (by omega)
  have hm2:l.getD (i+1) default∈l:=by
   rw [qAb,qAa (by omega)]
   exact qBw (by omega)
  rw [ycR,yjK,cbT (by omega),e0,e2,asT (by omega),asT (by omega),qAe,yuP (by omega),asSp,asT (by omega),asT (by omega),qAe,yuP (by omega),asSp]
  change ybd (l.getD i default).c (l.getD i default).d (l.getD (i+1) default).a (l.getD (i+1) default).b _=_
  rw [yLH (hok _ hm1).2.1 (hok _ hm2).1,e1,yc3,ydh default (by omega)]
  unfold gapB
  have e3:decide (cmpQ (rt (l.getD i default).c (l.getD i default).d) (rt (l.getD (i+1) default).a (l.getD (i+1) default).b)≥0)=!decide ((l.getD i default).rs.2<(l.getD (i+1) default).rs.1):=yM9 _ _
  rw [e3]
  cases decide ((l.getD i default).rs.2<(l.getD (i+1) default).rs.1) with
  | true =>
   rw [show (!true)=false from rfl,yae,qA7]
   exact ih (i+1) n (by omega) (by omega)
  | false =>
   rw [show (!false)=true from rfl,yam,qBm]
   rfl
def rsL (l:List Sp):List RS:=l.map Sp.rs
def yEg (l:List Sp):Int:=if allE l=0 then (match l with | []=>0 | s::r=>if gapB s r then 0 else 8) else allE l
theorem yJ9 {l:List Sp} (h:allE l=0):l.length≤60∧∀ s∈l,s.ok:=by
 unfold allE at h
 split at h
 ·cases h
 ·split at h
  ·rename_i h1 h2
   exact ⟨by omega,fun s hs=>by simpa using qCa.1 h2 s hs⟩
  ·cases h
theorem yKa {l:List Sp} (h64:∀ s∈l,s.i64) (hl:l.length<4611686018427387904) (K:Int→Prop):yaW (yhJ l) K=K (yEg l):=by
 refine yxd _ _ (fun K k=>?_) K
 unfold yaW yki
 unfold yEg at k
 rw [yOv h64 hl]
 by_cases h:allE l=0
 ·rw [if_pos h] at k
  rw [cnF h]
  obtain ⟨h1,h2⟩:=yJ9 h
  cases l with
  | nil =>
   refine ⟨1,?_⟩
   rw [ycR,yjK,cbF (by simp)]
   exact k
  | cons s r =>
   refine ⟨r.length+1,?_⟩
   refine (yHW h2 hl _ _ r.length 0 (r.length+1) (by simp;omega) (by omega)).mpr ?_
   dsimp only at k
   show if gapB s r then _ else _
   split
   ·rename_i hg;rw [if_pos hg] at k;exact k
   ·rename_i hg;rw [if_neg hg] at k;exact k
 ·rw [if_neg h] at k
  rw [cnT h];exact k
theorem yCh:∀ (r:List Sp) (s:Sp),s.ok→(∀ t∈r,t.ok)→(gapB s r=true↔yI0 (rsL (s::r)))
 | [],s,hs,_=>⟨fun _=>⟨hs.2.2,by simp,trivial⟩,fun _=>rfl⟩
 | t::r,s,hs,h=>by
  have ht:=h t qAi
  have ih:=yCh r t ht fun u hu=>h u (qAh _ hu)
  unfold gapB
  rw [qAd,decide_eq_true_eq,ih]
  constructor
  ·rintro ⟨h1,h2⟩
   refine ⟨hs.2.2,fun u hu=>?_,h2⟩
   rcases qAr.1 hu with rfl | hu
   ·exact h1
   ·have:=h2.2.1 u hu
    have:=h2.1
    show s.rs.2<u.1
    grind
  ·rintro ⟨_,h2,h3⟩
   exact ⟨h2 _ qAi,h3⟩
end Go.Pf.Vc
namespace Go.Pf.Vc
open Go Go.Pf Go.Sort
theorem yxY {n d:Int}:rvB n d=true↔RV n d:=by
 unfold rvB RV
 simp only [qAd,decide_eq_true_eq]
theorem yNb {a b c d:Int} (h:RV a b) (k:RV c d):cmpI a b c d<0↔rt a b<rt c d:=by
 obtain ⟨_,h2,h3⟩:=ymD h
 obtain ⟨_,k2,k3⟩:=ymD k
 rw [Rat.lt_iff,h2,h3,k2,k3]
 unfold cmpI
 by_cases h:a*d<c*b
 ·rw [if_pos h];simp [h]
 ·rw [if_neg h]
  split <;> simp [h]
def yLK:PV→Rat
 | .agg (.int _ a::.int _ b::_)=>rt a b
 | _=>0
theorem yuQ {x y:PV} (hx:ysu x=true) (hy:ysu y=true):yon x y<0↔yLK x<yLK y:=by
 unfold ysu at hx hy
 split at hx
 ·split at hy
  ·simp only [yon,yLK]
   exact yNb (yxY.1 hx) (yxY.1 hy)
  ·cases hy
 ·cases hx
theorem yk6 {n g:Nat} (x:(ykS n g).s.El):ysu x.1=true:=by
 have:=x.2
 simp only [Srt.gd,qAd] at this
 exact this.2
theorem yHX (n g:Nat):SWO (fun x y:(ykS n g).s.El=>decide ((ykS n g).cf x y<0)) where
 irrefl x:=by
  have:=yuQ (yk6 x) (yk6 x)
  show decide (yon x.1 x.1<0)=false
  rw [decide_eq_false_iff_not,this]
  exact Rat.lt_irrefl
 trans x y z h1 h2:=by
  have h1:decide (yon x.1 y.1<0)=true:=h1
  have h2:decide (yon y.1 z.1<0)=true:=h2
  show decide (yon x.1 z.1<0)=true
  rw [decide_eq_true_eq,yuQ (yk6 _) (yk6 _)] at *
  grind
 ntrans x y z h1 h2:=by
  have h1:decide (yon x.1 y.1<0)=false:=h1
  have h2:decide (yon y.1 z.1<0)=false:=h2
  show decide (yon x.1 z.1<0)=false
  rw [decide_eq_false_iff_not,yuQ (yk6 _) (yk6 _)] at *
  grind
theorem ywf {s:Srt}:∀ {l:List PV},(∀ x∈l,s.gd x=true)→∃ d,s.rows? l=some d
 | [],_=>⟨[],rfl⟩
 | x::r,h=>by
  obtain ⟨d,hd⟩:=ywf (s:=s) (l:=r) fun y hy=>h y (qAh _ hy)
  refine ⟨⟨x,h x qAi⟩::d,?_⟩
  simp only [Srt.rows?]
  rw [dif_pos (h x qAi),hd]
theorem RV.i1 {n d:Int} (h:RV n d):I64 n:=by obtain ⟨h1,h2,h3,h4,_⟩:=h;exact ⟨by omega,by omega⟩
theorem RV.i2 {n d:Int} (h:RV n d):I64 d:=by obtain ⟨h1,h2,h3,h4,_⟩:=h;exact ⟨by omega,by omega⟩
theorem Sp.ok.i64 {s:Sp} (h:s.ok):s.i64:=⟨h.1.i1,h.1.i2,h.2.1.i1,h.2.1.i2⟩
theorem yLL (n g:Nat) {s:Sp} (h:s.ok):(ykS n g).s.gd (encS s)=true:=by
 obtain ⟨h1,h2,h3,h4⟩:=h.i64
 have e1:IntKind.i64.min=-9223372036854775808:=by decide
 have e2:IntKind.i64.max=9223372036854775807:=by decide
 simp only [Srt.gd,ykS,okI,encS,okL,ysu,qAd,decide_eq_true_eq,e1,e2]
 unfold I64 at h1 h2 h3 h4
 exact ⟨⟨trivial,h1.1,h1.2,trivial,h2.1,h2.2,trivial,h3.1,h3.2,trivial,h4.1,h4.2,trivial⟩,yxY.2 h.1⟩
def decS:PV→Sp
 | .agg [.int _ a,.int _ b,.int _ c,.int _ d]=>⟨a,b,c,d⟩
 | _=>default
theorem yF7 (s:Sp):decS (encS s)=s:=rfl
theorem yKb (n g:Nat) {l:List Sp} (h:∀ s∈l,s.ok):∃ l':List Sp,l'.Perm l∧l'.Pairwise (fun s t=>¬t.rs.1<s.rs.1)∧Srt.sorted (ykS n g).s (ykS n g).srt (yhJ l)=yhJ l':=by
 obtain ⟨d,hd⟩:=ywf (s:=(ykS n g).s) (l:=yhJ l) fun x hx=>by
  obtain ⟨s,hs,rfl⟩:=qB8.1 hx
  exact yLL n g (h s hs)
 obtain ⟨d',h1,h2,h3⟩:=(ykS n g).sorted_is (yHX n g) hd
 have hv:=Srt.rows?_val hd
 have hp:(d'.map (·.1)).Perm (yhJ l):=by rw [← hv];exact h1.map _
 have hm:∀ x∈d'.map (·.1),∃ s∈l,encS s=x:=fun x hx=>qB8.1 (hp.mem_iff.1 hx)
 refine ⟨(d'.map (·.1)).map decS,?_,?_,?_⟩
 ·have this:(List.map decS (d'.map (·.1))).Perm (List.map decS (l.map encS)):=hp.map decS
  have e:List.map decS (l.map encS)=l:=by rw [List.map_map,show decS ∘ encS=id from funext yF7,List.map_id]
  rw [e] at this
  exact this
 ·rw [List.map_map,List.pairwise_map]
  refine h2.imp_of_mem fun {x y} hx hy hxy=>?_
  have hxy:¬yon y.1 x.1<0:=hxy
  rw [yuQ (yk6 _) (yk6 _)] at hxy
  obtain ⟨s,_,es⟩:=hm x.1 (List.mem_map_of_mem hx)
  obtain ⟨t,_,et⟩:=hm y.1 (List.mem_map_of_mem hy)
  show ¬(decS y.1).rs.1<(decS x.1).rs.1
  rw [← es,← et] at hxy ⊢
  exact hxy
 ·rw [h3]
  have key:∀ (xs:List PV),(∀ x∈xs,∃ s∈l,encS s=x)→(xs.map decS).map encS=xs:=by
   intro xs
   induction xs with
   | nil=>intro _;rfl
   | cons x r ih =>
    intro h
    obtain ⟨s,_,es⟩:=h x qAi
    rw [qB3,qB3,ih fun y hy=>h y (qAh _ hy),← es,yF7]
  exact (key _ hm).symm
end Go.Pf.Vc
namespace Go.Pf.Vc
open Go Go.Pf
def spOf (r:RS):Sp:=⟨r.1.num,r.1.den,r.2.num,r.2.den⟩
def rsp (l:List RS):List PV:=yhJ (l.map spOf)
def yfx (r:RS):Prop:=small r.1∧small r.2
theorem ycT (l:List RS):(rsp l).length=l.length:=by unfold rsp;rw [yjK,qAq]
def encR (r:RS):PV:=encS (spOf r)
theorem yqd {l:List RS} {i:Nat} (h:i<l.length):List.getD (rsp l) i .nils=encR (l.getD i default):=by
 unfold rsp
 rw [yuP (by rw [qAq];exact h)]
 unfold encR
 congr 1
 rw [qAb,qAb,qA3,qAa h]
 rfl
theorem yCi (r:RS):yac (yaj (encR r) 0)=r.1.num:=rfl
theorem yI1 (r:RS):yac (yaj (encR r) 1)=r.1.den:=rfl
theorem yCj (r:RS):yac (yaj (encR r) 2)=r.2.num:=rfl
theorem yCk (r:RS):yac (yaj (encR r) 3)=r.2.den:=rfl
theorem asR (r:RS) (P:Prop):asr (conf z4 (encR r)) P=P:=rfl
theorem yNc (a b:List RS):rsp a++rsp b=rsp (a++b):=by unfold rsp yhJ;rw [List.map_append,List.map_append]
theorem ytc {l:List RS} (h:∀ s∈l,yfx s) {i:Nat} (hi:i<l.length):yfx (l.getD i default):=by
 rw [qAb,qAa hi]
 exact h _ (qBw hi)
theorem yNd {s:Sp} (h:s.ok):spOf s.rs=s:=by
 obtain ⟨_,h2,h3⟩:=ymD h.1
 obtain ⟨_,k2,k3⟩:=ymD h.2.1
 unfold spOf Sp.rs
 cases s
 simp only at h2 h3 k2 k3 ⊢
 rw [h2,h3,k2,k3]
theorem yI2 {r:RS} (_:yfx r):(spOf r).rs=r:=by
 show (rt r.1.num r.1.den,rt r.2.num r.2.den)=r
 rw [yeP,yeP]
theorem yxZ {r:RS} (h:yfx r) (hv:r.1<r.2):(spOf r).ok:=⟨h.1.rv,h.2.rv,by
 show rt r.1.num r.1.den<rt r.2.num r.2.den
 rw [yeP,yeP];exact hv⟩
theorem yKc {l:List Sp} (h:∀ s∈l,s.ok):yhJ l=rsp (rsL l):=by
 unfold rsp rsL
 rw [List.map_map]
 congr 1
 conv=>lhs;rw [← List.map_id l]
 exact List.map_congr_left fun s hs=>(yNd (h s hs)).symm
theorem yCl:∀ {l:List RS},l.Pairwise (fun s t=>¬t.1<s.1)→yz3 l
 | [],_=>trivial
 | s::r,h=>by
  rw [List.pairwise_cons] at h
  exact ⟨fun t ht=>by have:=h.1 t ht;grind,yCl h.2⟩
def encW (q:Rat):PV:=.agg [.int .i64 q.num,.int .i64 q.den]
def rts (l:List Rat):List PV:=l.map encW
theorem yk7 (l:List Rat):(rts l).length=l.length:=qAq ..
theorem yqe {l:List Rat} {i:Nat} (h:i<l.length):List.getD (rts l) i .nils=encW (l.getD i 0):=by
 unfold rts
 rw [qAb,qAb,qA3,qAa h]
 rfl
theorem ywN (q:Rat):yac (yaj (encW q) 0)=q.num:=rfl
theorem ywO (q:Rat):yac (yaj (encW q) 1)=q.den:=rfl
theorem asW (q:Rat) (P:Prop):asr (conf z2 (encW q)) P=P:=rfl
theorem yNe (q:Rat):([.agg [.int .i64 q.num,.int .i64 q.den]]:List PV)=rts [q]:=rfl
theorem yNf (a b:List Rat):rts a++rts b=rts (a++b):=by unfold rts;rw [List.map_append]
theorem yO1 (a b:Rat):((a.num == b.num)&&(((a.den:Int) ==(b.den:Int))&&true))=decide (a=b):=by
 rw [Bool.and_true,Bool.eq_iff_iff]
 simp only [qAd,beq_iff_eq,decide_eq_true_eq]
 constructor
 ·rintro ⟨h1,h2⟩;exact Rat.ext h1 (by omega)
 ·rintro rfl;exact ⟨rfl,rfl⟩
theorem yF8 (l:List RS):yd7 4 (rsp l)=true:=by cases l <;> rfl
theorem ymF {l:List RS} (h:yI0 l):∀ s∈l,s.1<s.2:=by
 induction l with
 | nil=>intro s hs;cases hs
 | cons t r ih =>
  intro s hs
  rcases qAr.1 hs with rfl | hs
  ·exact h.1
  ·exact ih h.2.2 s hs
theorem yOw {a b c d:Int} (h:RV a b) (k:RV c d):cmpI a b c d=cmpQ (rt a b) (rt c d):=by
 obtain ⟨_,h2,h3⟩:=ymD h
 obtain ⟨_,k2,k3⟩:=ymD k
 unfold cmpI cmpQ
 simp only [Rat.lt_iff,h2,h3,k2,k3]
theorem yLM:∀ {cs:List PV},okL [.i64,.i64,.i64,.i64] cs=true→∃ a b c d,cs=[.int .i64 a,.int .i64 b,.int .i64 c,.int .i64 d]
 | [],h=>by cases h
 | [x],h=>by cases x <;> simp [okL] at h
 | [x,y],h=>by cases x <;> cases y <;> simp [okL] at h
 | [x,y,z],h=>by cases x <;> cases y <;> cases z <;> simp [okL] at h
 | x::y::z::u::w,h=>by
  cases x <;> first | (simp [okL] at h;done) | skip
  cases y <;> first | (simp [okL] at h;done) | skip
  cases z <;> first | (simp [okL] at h;done) | skip
  cases u <;> first | (simp [okL] at h;done) | skip
  simp only [okL,qAd,decide_eq_true_eq] at h
  obtain ⟨rfl,_,_,rfl,_,_,rfl,_,_,rfl,_,_,h⟩:=h
  cases w with
  | nil=>exact ⟨_,_,_,_,rfl⟩
  | cons p q=>simp [okL] at h
theorem yNQ {n g:Nat} {x:PV} (h:(ykS n g).s.gd x=true):∃ a b c d,x=.agg [.int .i64 a,.int .i64 b,.int .i64 c,.int .i64 d]∧RV a b:=by
 simp only [Srt.gd,qAd] at h
 have h1:okI [.i64,.i64,.i64,.i64] x=true:=h.1
 have h2:ysu x=true:=h.2
 clear h
 cases x <;> first | (simp [okI] at h1;done) | skip
 obtain ⟨a,b,c,d,rfl⟩:=yLM (h1:okL _ _=true)
 exact ⟨a,b,c,d,rfl,yxY.1 h2⟩
structure Pc (l:List RS):Prop where
 c:yI0 l
 s:∀ s∈l,yfx s
 n:l.length≤60
theorem yLN {l:List RS} (h:∀ s∈l,yfx s):rsL (l.map spOf)=l:=by
 induction l with
 | nil=>rfl
 | cons s r ih =>
  show (spOf s).rs::rsL (r.map spOf)=_
  rw [yI2 (h s qAi),ih fun t ht=>h t (qAh _ ht)]
theorem Pc.ok {l:List RS} (h:Pc l):∀ s∈l.map spOf,s.ok:=fun s hs=>by
 obtain ⟨t,ht,rfl⟩:=qB8.1 hs
 exact yxZ (h.s t ht) (ymF h.c t ht)
theorem Pc.i64 {l:List RS} (h:Pc l):∀ s∈l.map spOf,s.i64:=fun s hs=>by
 obtain ⟨t,ht,rfl⟩:=qB8.1 hs
 have:=h.s t ht
 exact ⟨this.1.i1,this.1.i2,this.2.i1,this.2.i2⟩
theorem Pc.e {l:List RS} (h:Pc l):yEg (l.map spOf)=0:=by
 have hl:=h.n
 have ho:=h.ok
 have hc:=h.c
 rw [← yLN h.s] at hc
 have h1:yz4 (l.map spOf)=true:=qCa.2 fun s hs=>decide_eq_true (ho s hs)
 have h2:allE (l.map spOf)=0:=by
  unfold allE
  rw [if_neg (by rw [qAq];omega),h1,if_pos rfl]
 unfold yEg
 rw [h2]
 cases l with
 | nil=>rfl
 | cons s r =>
  have hg:gapB (spOf s) (r.map spOf)=true:=(yCh _ _ (ho _ (by simp)) (fun t ht=>ho t (qAh _ ht))).2 hc
  show (if (0:Int)=0 then (if gapB (spOf s) (r.map spOf) then 0 else 8) else _)=_
  rw [if_pos rfl,hg,if_pos rfl]
theorem Pc.check {l:List RS} (h:Pc l) (K:Int→Prop):yaW (rsp l) K=K 0:=by
 unfold rsp
 rw [yKa h.i64 (by rw [qAq];have:=h.n;omega),h.e]
def sumV (v:RS→Rat):List RS→Rat
 | []=>0
 | s::r=>v s+sumV v r
theorem ytd:small 0:=by decide +kernel
theorem nz (P Q:Prop):cbr ((0:Int) != 0) P Q=Q:=rfl
section
variable (V:Rat→Rat)
def dV (s:RS):Rat:=V s.2-V s.1
end
section
variable {len:Int} {cuts dens:List Int}
def uC (cuts:List Int) (i:Nat) (x:Rat):Rat:=minR (maxR x (cuts.getD i 0:Int)) (cuts.getD (i+1) 0:Int)
def vu (cuts dens:List Int) (x:Rat):Nat→Nat→Rat
 | 0,_=>0
 | r+1,i=>(dens.getD i 0:Int)*uC cuts i x+vu cuts dens x r (i+1)
theorem yz5 (h:VC len cuts dens):∀ (r i:Nat) {x y:Rat},i+r=dens.length→x≤(cuts.getD i 0:Int)→y≤(cuts.getD i 0:Int)→vu cuts dens x r i=vu cuts dens y r i
 | 0,_,_,_,_,_,_=>rfl
 | r+1,i,x,y,hi,hx,hy=>by
  have l1:=h.l1
  have hst:((cuts.getD i 0:Int):Rat)<((cuts.getD (i+1) 0:Int):Rat):=Rat.intCast_lt_intCast.2 (h.step (i:=i) (by omega))
  have ih:=yz5 h r (i+1) (x:=x) (y:=y) (by omega) (by grind) (by grind)
  unfold vu
  rw [ih]
  have e:uC cuts i x=uC cuts i y:=by
   unfold uC
   have a1:=yfX x (cuts.getD i 0:Int)
   have a2:=yfX y (cuts.getD i 0:Int)
   have e1:maxR x (cuts.getD i 0:Int)=(cuts.getD i 0:Int):=by grind
   have e2:maxR y (cuts.getD i 0:Int)=(cuts.getD i 0:Int):=by grind
   rw [e1,e2]
  rw [e]
theorem yk8 {α:Type} {q:Rat} {k:Rat→Except Int α} {v:α} (h:fit q k=.ok v):k q=.ok v:=by
 unfold fit at h
 split at h
 ·exact h
 ·cases h
theorem yx0 (h:VC len cuts dens) {b:Rat}:∀ (r i:Nat) (p sum v:Rat),i+r=dens.length→p≤b→(p=b∨((cuts.getD i 0:Int):Rat)≤p)→valS cuts dens b r i p sum=.ok v→v=sum+(vu cuts dens b r i-vu cuts dens p r i)
 | 0,i,p,sum,v,hi,hp,hc,hv=>by
  unfold valS at hv
  cases hv
  unfold vu
  grind
 | r+1,i,p,sum,v,hi,hp,hc,hv=>by
  have l1:=h.l1
  have hst:((cuts.getD i 0:Int):Rat)<((cuts.getD (i+1) 0:Int):Rat):=Rat.intCast_lt_intCast.2 (h.step (i:=i) (by omega))
  unfold valS at hv
  dsimp only at hv
  have hen:∃ en:Rat,(if b<((cuts.getD (i+1) 0:Int):Rat) then b else ((cuts.getD (i+1) 0:Int):Rat))=en∧en≤b∧en≤((cuts.getD (i+1) 0:Int):Rat)∧(en=b∨en=((cuts.getD (i+1) 0:Int):Rat)):=by
   refine ⟨_,rfl,?_⟩
   split <;> grind
  obtain ⟨en,e0,he1,he2,he3⟩:=hen
  rw [e0] at hv
  have low:=yz5 h r (i+1) (x:=en) (y:=p) (by omega)
  have m1:=yfX b (cuts.getD i 0:Int)
  have m2:=yfX p (cuts.getD i 0:Int)
  have n1:=ygM (maxR b (cuts.getD i 0:Int)) (cuts.getD (i+1) 0:Int)
  have n2:=ygM (maxR p (cuts.getD i 0:Int)) (cuts.getD (i+1) 0:Int)
  unfold vu uC
  generalize ((cuts.getD i 0:Int):Rat)=c0 at *
  generalize hc1:((cuts.getD (i+1) 0:Int):Rat)=c1 at *
  by_cases hlt:p<en
  ·have hb:minR (maxR b c0) c1=en:=by grind
   have hq:minR (maxR p c0) c1=p:=by grind
   by_cases hd:dens.getD i 0=0
   ·rw [if_pos (.inl hd),if_pos hlt] at hv
    have ih:=yx0 h r (i+1) en sum v (by omega) he1 (by rw [hc1];grind) hv
    rw [ih,hd,low (by grind) (by grind)]
    grind
   ·rw [if_neg (by intro k;rcases k with k | k;exact hd k;exact k hlt)] at hv
    have hv:=yk8 (yk8 (yk8 hv))
    have ih:=yx0 h r (i+1) en _ v (by omega) he1 (by rw [hc1];grind) hv
    rw [ih,low (by grind) (by grind),hb,hq]
    grind
  ·rw [if_pos (.inr hlt),if_neg hlt] at hv
   have ih:=yx0 h r (i+1) p sum v (by omega) hp (by rw [hc1];grind) hv
   have:minR (maxR b c0) c1=minR (maxR p c0) c1:=by grind
   rw [ih,this]
   grind
def vX (cuts dens:List Int) (x:Rat):Rat:=vu cuts dens x dens.length 0
theorem yNg (h:VC len cuts dens) {a b v:Rat} (h0:0≤a) (hab:a≤b) (hv:valC cuts dens a b=.ok v):v=vX cuts dens b-vX cuts dens a:=by
 have c0:cuts.getD 0 0=0:=h.2.2.2.2.2.1
 have:=yx0 h dens.length 0 a 0 v (by omega) hab (.inr (by rw [c0];exact h0)) hv
 unfold vX
 rw [this];grind
def Wi (len:Int) (l:List RS):Prop:=∀ s∈l,0≤s.1∧s.2≤(len:Rat)
theorem yNh (q r:Rat):decide (cmpQ q r>0)=decide (r<q):=by
 rw [← Bool.not_eq_not,← yNa,Bool.eq_iff_iff]
 simp only [decide_eq_true_eq]
 omega
end
def yLO (len:Int) (l:List RS):Bool:=l.all fun s=>decide (PT len s.1.num s.1.den)&&decide (PT len s.2.num s.2.den)
theorem yLP {len:Int} {l:List RS} (h:yLO len l=true):Wi len l:=fun s hs=>by
 have:=qCa.1 h s hs
 simp only [qAd,decide_eq_true_eq] at this
 obtain ⟨h1,h2⟩:=this
 have p1:=h1.pt
 have p2:=h2.pt
 rw [yeP] at p1 p2
 exact ⟨p1.2.2.2.1,p2.2.2.2.2⟩
section
variable {len:Int} {cuts dens:List Int}
theorem yI3 (h:VC len cuts dens) {i:Nat} (hi:i+1<cuts.length) {x y:Rat} (hxy:x≤y):uC cuts i x≤uC cuts i y:=by
 have hst:((cuts.getD i 0:Int):Rat)<((cuts.getD (i+1) 0:Int):Rat):=Rat.intCast_lt_intCast.2 (h.step (i:=i) hi)
 have m1:=yfX x (cuts.getD i 0:Int)
 have m2:=yfX y (cuts.getD i 0:Int)
 have n1:=ygM (maxR x (cuts.getD i 0:Int)) (cuts.getD (i+1) 0:Int)
 have n2:=ygM (maxR y (cuts.getD i 0:Int)) (cuts.getD (i+1) 0:Int)
 unfold uC
 grind
theorem yLQ (h:VC len cuts dens) {i:Nat} (hi:i<dens.length):(0:Rat)≤((dens.getD i 0:Int):Rat):=Rat.intCast_nonneg.2 (h.den hi).1
theorem yEh (h:VC len cuts dens) {x y:Rat} (hxy:x≤y):∀ (r i:Nat),i+r=dens.length→vu cuts dens x r i≤vu cuts dens y r i
 | 0,_,_=>qBu
 | r+1,i,hi=>by
  have l1:=h.l1
  have h1:=yI3 h (i:=i) (by omega) hxy
  have h2:=yEh h hxy r (i+1) (by omega)
  have h3:=qBy h1 (yLQ h (i:=i) (by omega))
  unfold vu
  grind
theorem yjB (h:VC len cuts dens) {x y:Rat} (hxy:x≤y):vX cuts dens x≤vX cuts dens y:=yEh h hxy dens.length 0 (by omega)
theorem yx1 (h:VC len cuts dens):∀ (r i:Nat) (p v q:Rat),i+r=dens.length→0<v→((cuts.getD i 0:Int):Rat)≤p→mrkS cuts dens r i p v=.ok q →
  vu cuts dens q r i-vu cuts dens p r i=v∧p<q∧q≤((cuts.getD dens.length 0:Int):Rat)∧∀ x,x<q→vu cuts dens x r i<vu cuts dens q r i
 | 0,_,_,_,_,_,_,_,e=>by cases e
 | r+1,i,p,v,q,hi,hv,hp,e=>by
  have l1:=h.l1
  have hst:((cuts.getD i 0:Int):Rat)<((cuts.getD (i+1) 0:Int):Rat):=Rat.intCast_lt_intCast.2 (h.step (i:=i) (by omega))
  have hd:=h.den (i:=i) (by omega)
  have hd0:=yLQ h (i:=i) (by omega)
  have low:=fun {x y:Rat}=>yz5 h r (i+1) (x:=x) (y:=y) (by omega)
  have hmon:=fun {x:Rat} (hx:x<q)=>yI3 h (i:=i) (by omega) (qBj hx)
  have hmon2:=fun {x:Rat} (hx:x<q)=>yEh h (qBj hx) r (i+1) (by omega)
  have m1:=yfX p (cuts.getD i 0:Int)
  have m2:=yfX q (cuts.getD i 0:Int)
  have n1:=ygM (maxR p (cuts.getD i 0:Int)) (cuts.getD (i+1) 0:Int)
  have n2:=ygM (maxR q (cuts.getD i 0:Int)) (cuts.getD (i+1) 0:Int)
  unfold mrkS at e
  by_cases c1:p<((cuts.getD (i+1) 0:Int):Rat)
  case neg =>
   rw [if_pos c1] at e
   obtain ⟨a1,a2,a3,a4⟩:=yx1 h r (i+1) p v q (by omega) hv (Rat.not_lt.1 c1) e
   have eq:uC cuts i q=uC cuts i p:=by unfold uC;grind
   refine ⟨by unfold vu;rw [eq];grind,a2,a3,fun x hx=>?_⟩
   have b1:=a4 x hx
   have b2:=qBy (hmon hx) hd0
   unfold vu
   grind
  rw [if_neg (fun k=>k c1)] at e
  by_cases c2:dens.getD i 0=0
  ·rw [if_pos c2] at e
   obtain ⟨a1,a2,a3,a4⟩:=yx1 h r (i+1) _ v q (by omega) hv qBu e
   have e2:=low (x:=p) (y:=((cuts.getD (i+1) 0:Int):Rat)) (qBj c1) qBu
   refine ⟨by unfold vu;rw [e2,c2];grind,by grind,a3,fun x hx=>?_⟩
   have b1:=a4 x hx
   have b2:=qBy (hmon hx) hd0
   unfold vu
   grind
  rw [if_neg c2] at e
  have e:=yk8 (yk8 e)
  have dpos:(0:Rat)<((dens.getD i 0:Int):Rat):=Rat.intCast_pos.2 (by omega)
  have up:uC cuts i p=p:=by unfold uC;grind
  by_cases c3:(((cuts.getD (i+1) 0:Int):Rat)-p)*((dens.getD i 0:Int):Rat)<v
  ·rw [if_pos c3] at e
   have e:=yk8 e
   obtain ⟨a1,a2,a3,a4⟩:=yx1 h r (i+1) _ _ q (by omega) (by grind) qBu e
   have e2:=low (x:=p) (y:=((cuts.getD (i+1) 0:Int):Rat)) (qBj c1) qBu
   have uq:uC cuts i q=((cuts.getD (i+1) 0:Int):Rat):=by unfold uC;grind
   refine ⟨by unfold vu;rw [e2,up,uq];grind,by grind,a3,fun x hx=>?_⟩
   have b1:=a4 x hx
   have b2:=qBy (hmon hx) hd0
   unfold vu
   grind
  ·rw [if_neg c3] at e
   have e:=yk8 (yk8 e)
   cases e
   generalize hs:v / ((dens.getD i 0:Int):Rat)=s at *
   have es:s*((dens.getD i 0:Int):Rat)=v:=by rw [← hs];exact Rat.div_mul_cancel (by grind)
   have s0:0<s:=by
    refine Rat.not_le.1 fun k=>?_
    have:=Rat.mul_le_mul_of_nonneg_right k hd0
    grind
   have s1:p+s≤((cuts.getD (i+1) 0:Int):Rat):=by
    refine Rat.not_lt.1 fun k=>?_
    have:(((cuts.getD (i+1) 0:Int):Rat)-p)<s:=by grind
    have:=Rat.mul_lt_mul_of_pos_right this dpos
    grind
   have uq:uC cuts i (p+s)=p+s:=by unfold uC;grind
   have e2:=low (x:=p+s) (y:=p) s1 (qBj c1)
   have hlast:cuts.getD (i+1) 0≤cuts.getD dens.length 0:=h.mono (by omega) (by omega)
   have hlast:((cuts.getD (i+1) 0:Int):Rat)≤((cuts.getD dens.length 0:Int):Rat):=qAv.2 hlast
   refine ⟨by unfold vu;rw [e2,up,uq];grind,by grind,by grind,fun x hx=>?_⟩
   have b1:=hmon2 hx
   have ux:uC cuts i x<p+s:=by
    have k1:=yfX x (cuts.getD i 0:Int)
    have k2:=ygM (maxR x (cuts.getD i 0:Int)) (cuts.getD (i+1) 0:Int)
    unfold uC
    grind
   have b2:=Rat.mul_lt_mul_of_pos_left ux dpos
   unfold vu
   rw [uq]
   grind
theorem VC.last (h:VC len cuts dens):cuts.getD dens.length 0=len:=by
 have l1:=h.l1
 have:=h.2.2.2.2.2.2.1
 rw [show dens.length=cuts.length-1 by omega]
 exact this
theorem yNi (h:VC len cuts dens) {a v q:Rat} (h0:0≤a) (h1:a≤(len:Rat)) (hv:0≤v) (e:mrkC cuts dens a v=.ok q) :
  vX cuts dens q=vX cuts dens a+v∧a≤q∧q≤(len:Rat)∧(v=0→a=q)∧(v≠0→∀ x,x<q→vX cuts dens x<vX cuts dens q):=by
 unfold mrkC at e
 by_cases c:v=0
 ·rw [if_pos c] at e
  cases e
  rw [c]
  exact ⟨by grind,qBu,h1,fun _=>rfl,fun k=>absurd rfl k⟩
 ·rw [if_neg c] at e
  have c0:cuts.getD 0 0=0:=h.2.2.2.2.2.1
  obtain ⟨a1,a2,a3,a4⟩:=yx1 h dens.length 0 a v q (by omega) (by grind) (by rw [c0];exact h0) e
  rw [h.last] at a3
  exact ⟨by unfold vX;grind,qBj a2,a3,fun k=>absurd k c,fun _=>a4⟩
end
def In (D:Int) (q:Rat):Prop:=∃ n:Int,q=(n:Rat) / (D:Rat)
theorem In.int {D:Int} (h:1≤D) (c:Int):In D (c:Rat):=⟨c*D,by rw [Rat.intCast_mul,Rat.mul_div_cancel (rne h)]⟩
theorem In.add {D:Int} {q r:Rat} (h:In D q) (k:In D r):In D (q+r):=by
 obtain ⟨n,rfl⟩:=h
 obtain ⟨m,rfl⟩:=k
 exact ⟨n+m,by rw [Rat.intCast_add];grind⟩
theorem In.sub {D:Int} {q r:Rat} (h:In D q) (k:In D r):In D (q-r):=by
 obtain ⟨n,rfl⟩:=h
 obtain ⟨m,rfl⟩:=k
 exact ⟨n-m,by rw [Rat.intCast_sub];grind⟩
theorem In.mulI {D:Int} {q:Rat} (h:In D q) (d:Int):In D (q*(d:Rat)):=by
 obtain ⟨n,rfl⟩:=h
 exact ⟨n*d,by rw [Rat.intCast_mul];grind⟩
theorem In.up {D d:Int} {q:Rat} (hD:1≤D) (hd:1≤d) (h:In D q):In (d*D) q:=by
 obtain ⟨n,rfl⟩:=h
 have h1:=rne hD
 have h2:=rne hd
 refine ⟨d*n,?_⟩
 rw [Rat.intCast_mul,Rat.intCast_mul]
 grind
theorem In.div {D d:Int} {q:Rat} (hD:1≤D) (hd:1≤d) (h:In D q):In (d*D) (q / (d:Rat)):=by
 obtain ⟨n,rfl⟩:=h
 have h1:=rne hD
 have h2:=rne hd
 refine ⟨n,?_⟩
 rw [Rat.intCast_mul]
 grind
theorem In.small {D M:Int} {q:Rat} (h:In D q) (hD:1≤D∧D≤1000000000000000000) (hM:M*D≤1000000000000000000) (h0:-(M:Rat)≤q) (h1:q≤(M:Rat)):small q:=by
 obtain ⟨n,rfl⟩:=h
 have hp:(0:Rat)<(D:Rat):=Rat.intCast_pos.2 (by omega)
 have e:(n:Rat) / (D:Rat)*(D:Rat)=(n:Rat):=Rat.div_mul_cancel (rne hD.1)
 have a:=Rat.mul_le_mul_of_nonneg_right h0 (qBj hp)
 have b:=Rat.mul_le_mul_of_nonneg_right h1 (qBj hp)
 rw [e] at a b
 have a':((-(M*D):Int):Rat)≤(n:Rat):=by rw [Rat.intCast_neg,Rat.intCast_mul];grind
 have b':(n:Rat)≤((M*D:Int):Rat):=by rw [Rat.intCast_mul];exact b
 have a2:=qAv.1 a'
 have b2:=qAv.1 b'
 exact yCe (d:=D) ⟨by omega,by omega⟩ ⟨by omega,by omega⟩
section
variable {len:Int} {cuts dens:List Int}
theorem yx2 (h:VC len cuts dens) {i j:Nat} (hij:i≤j) (hj:j≤dens.length):((cuts.getD i 0:Int):Rat)≤((cuts.getD j 0:Int):Rat):=qAv.2 (h.mono hij (by have:=h.l1;omega))
theorem yO2 {D:Int} (hD:1≤D) {x:Rat} (hx:In D x) (i:Nat):In D (uC cuts i x):=by
 have n1:=ygM (maxR x (cuts.getD i 0:Int)) (cuts.getD (i+1) 0:Int)
 have m1:=yfX x (cuts.getD i 0:Int)
 unfold uC
 rcases n1.2.2 with e | e
 ·rw [e]
  rcases m1.2.2 with e2 | e2
  ·rw [e2];exact hx
  ·rw [e2];exact In.int hD _
 ·rw [e];exact In.int hD _
theorem yNR {D:Int} (hD:1≤D) {x:Rat} (hx:In D x):∀ (r i:Nat),In D (vu cuts dens x r i)
 | 0,_=>In.int hD 0
 | r+1,i=>by
  unfold vu
  rw [Rat.mul_comm]
  exact ((yO2 hD hx i).mulI _).add (yNR hD hx r (i+1))
theorem yNS {D:Int} (hD:1≤D) {x:Rat} (hx:In D x):In D (vX cuts dens x):=yNR hD hx _ _
theorem yLR (h:VC len cuts dens):∀ (r i:Nat),i+r=dens.length→vu cuts dens (len:Rat) r i-vu cuts dens ((cuts.getD i 0:Int):Rat) r i=((rem cuts dens r i:Int):Rat)
 | 0,_,_=>by unfold vu rem;show (0:Rat)-0=0;grind
 | r+1,i,hi=>by
  have ih:=yLR h r (i+1) (by omega)
  have hst:((cuts.getD i 0:Int):Rat)≤((cuts.getD (i+1) 0:Int):Rat):=yx2 h (Nat.le_succ i) (by omega)
  have hl:((cuts.getD (i+1) 0:Int):Rat)≤(len:Rat):=by rw [← h.last];exact yx2 h (by omega) (qAk _)
  have low:=yz5 h r (i+1) (x:=((cuts.getD i 0:Int):Rat)) (y:=((cuts.getD (i+1) 0:Int):Rat)) (by omega) hst qBu
  have m1:=yfX (len:Rat) (cuts.getD i 0:Int)
  have n1:=ygM (maxR (len:Rat) (cuts.getD i 0:Int)) (cuts.getD (i+1) 0:Int)
  have m2:=yfX ((cuts.getD i 0:Int):Rat) (cuts.getD i 0:Int)
  have n2:=ygM (maxR ((cuts.getD i 0:Int):Rat) (cuts.getD i 0:Int)) (cuts.getD (i+1) 0:Int)
  have e1:uC cuts i (len:Rat)=((cuts.getD (i+1) 0:Int):Rat):=by unfold uC;grind
  have e2:uC cuts i ((cuts.getD i 0:Int):Rat)=((cuts.getD i 0:Int):Rat):=by unfold uC;grind
  unfold vu rem
  rw [e1,e2,low,Rat.intCast_add,Rat.intCast_mul,Rat.intCast_sub,← ih]
  grind
theorem yHY (h:VC len cuts dens):vX cuts dens (len:Rat)-vX cuts dens 0=((totC cuts dens:Int):Rat):=by
 have c0:cuts.getD 0 0=0:=h.2.2.2.2.2.1
 have:=yLR h dens.length 0 (by omega)
 rw [c0] at this
 unfold totC
 rw [yz1,show (0:Int)+rem cuts dens dens.length 0=rem cuts dens dens.length 0 by omega]
 exact this
theorem yI4 (h:VC len cuts dens):(1:Rat)≤(len:Rat)∧(len:Rat)≤1000:=by
 have:=h.len0
 exact ⟨qAv.2 this.1,qAv.2 this.2⟩
theorem yI5 (h:VC len cuts dens) {i:Nat} (hi:i<dens.length):(0:Rat)≤((dens.getD i 0:Int):Rat)∧((dens.getD i 0:Int):Rat)≤12:=by
 have:=h.den hi
 exact ⟨qAv.2 this.1,qAv.2 this.2⟩
theorem yI6 {x d:Rat} (h0:0≤x) (hd:0≤d∧d≤12):0≤x*d∧x*d≤12*x:=by
 have a:=Rat.mul_nonneg h0 hd.1
 have b:=qBy hd.2 h0
 exact ⟨a,by grind⟩
theorem ywg (h:VC len cuts dens) {D:Int} (hD:1≤D∧D≤50000000000000) {b:Rat} (hb:In D b) (b1:b≤(len:Rat)) :
  ∀ (r i:Nat) (p sum:Rat),i+r=dens.length→In D p→In D sum→0≤p→p≤(len:Rat)→0≤sum→sum≤12*p→∃ v,valS cuts dens b r i p sum=.ok v
 | 0,i,p,sum,_,_,_,_,_,_,_=>⟨sum,rfl⟩
 | r+1,i,p,sum,hi,hp,hs,p0,p1,s0,s1=>by
  have l1:=h.l1
  have hl:=yI4 h
  have hd:=yI5 h (i:=i) (by omega)
  have hc1:((cuts.getD (i+1) 0:Int):Rat)≤(len:Rat):=by rw [← h.last];exact yx2 h (by omega) (qAk _)
  unfold valS
  have hen:∃ en:Rat,(if b<((cuts.getD (i+1) 0:Int):Rat) then b else ((cuts.getD (i+1) 0:Int):Rat))=en∧In D en∧en≤(len:Rat):=by
   refine ⟨_,rfl,?_,?_⟩
   ·split
    ·exact hb
    ·exact In.int hD.1 _
   ·split <;> grind
  obtain ⟨en,e0,e1,e2⟩:=hen
  rw [e0]
  dsimp only
  split
  ·refine ywg h hD hb b1 r (i+1) _ sum (by omega) ?_ hs ?_ ?_ s0 ?_
   ·split
    ·exact e1
    ·exact hp
   ·split <;> grind
   ·split <;> grind
   ·split <;> grind
  ·rename_i hn
   have hlt:p<en:=by
    refine Classical.byContradiction fun k=>hn (.inr k)
   have m:=yI6 (x:=en-p) (by grind) hd
   have i1:=e1.sub hp
   have i2:=i1.mulI (dens.getD i 0)
   have i3:=hs.add i2
   rw [ylR (i1.small (M:=1000) ⟨by omega,by omega⟩ (by omega) (by show -(1000:Rat)≤_;grind) (by show _≤(1000:Rat);grind)),
    ylR (i2.small (M:=12000) ⟨by omega,by omega⟩ (by omega) (by show -(12000:Rat)≤_;grind) (by show _≤(12000:Rat);grind)),
    ylR (i3.small (M:=12000) ⟨by omega,by omega⟩ (by omega) (by show -(12000:Rat)≤_;grind) (by show _≤(12000:Rat);grind))]
   exact ywg h hD hb b1 r (i+1) en _ (by omega) e1 i3 (by grind) e2 (by grind) (by grind)
theorem yCm (h:VC len cuts dens) {D:Int} (hD:1≤D∧D≤50000000000000) {a b:Rat} (ha:In D a) (hb:In D b) (a0:0≤a) (hab:a≤b) (b1:b≤(len:Rat)):valC cuts dens a b=.ok (vX cuts dens b-vX cuts dens a):=by
 obtain ⟨v,e⟩:=ywg h hD hb b1 dens.length 0 a 0 (by omega) ha (In.int hD.1 0) a0 (by grind) (by grind) (by grind)
 have e:valC cuts dens a b=.ok v:=e
 rw [e,yNg h a0 hab e]
end
set_option maxRecDepth 100000
def UL (E:Env) (callK:CK) (lp:LP) (b:TC):Nat→Frm→Hp→(Ex→Frm→Hp→Prop)→Prop
 | 0,_,_,_=>False
 | n+1,F,H,Q=>WC E callK lp [] noYK b F H fun x F' H'=>match x with | .norm=>UL E callK lp b n F' H' Q | .exit i=>Q (.exit i) F' H' | .ret=>Q .ret F' H' | .brk k i=>Q (.brk k i) F' H'
theorem yLS {E:Env} {P:EP} {id:Nat} {callK:CK} {lp:LP} {b:TC} (hP:Sub P E) (hG:Good P callK) (hf:ycI b=true) (hl:LpOk P E lp [] b) {n:Nat} {F:Frm} {H:Hp} {Q:Ex→Frm→Hp→Prop} (h:UL E callK lp b n F H Q):yok P (.loop id b) F H Q :=
 yok.intro hP hG hf (YOk.no _ _) hl (fun n F H=>UL E callK lp b n F H Q) (fun _ _ h=>h) (fun _ _ _ h=>h) n F H h
section
variable (e:Es) (fa fb fe:PV→PV→Int)
def WG (c p:PV):Prop:=Ans (E e) ybY [c,p] (.tup [.agg [.int .i64 (fa c p),.int .i64 (fb c p)],.int .i64 (fe c p)])
def wpWr (as:List PV) (K:PV→Prop):Prop :=
 match as with
 | [c,p]=>WG e fa fb fe c p∧K (.tup [.agg [.int .i64 (fa c p),.int .i64 (fb c p)],.int .i64 (fe c p)])
 | _=>False
def wpCk (as:List PV) (K:PV→Prop):Prop:=Ans (E e) ydR as (.int .i64 0)∧K (.int .i64 0)
def sW0:SE:=⟨E e,yeB [(ydR,wpCk e),(ybY,wpWr e fa fb fe)],yeC [],fun _ _ _ _ _=>False,fun _=>none⟩
def lpW1:LP:=fun id _ F H Q=>bif Nat.beq id 14283600 then UL (E e) (yhO (sW0 e fa fb fe) 1) (fun _ _ _ _ _=>False) yhZ 8 F H Q else False
def lpW:LP:=fun id _ F H Q=>bif Nat.beq id 14283600 then UL (E e) (yhO (sW0 e fa fb fe) 1) (fun _ _ _ _ _=>False) yhZ 8 F H Q else
 bif Nat.beq id 14283601 then UL (E e) (yhO (sW0 e fa fb fe) 1) (lpW1 e fa fb fe) ynk 8 F H Q else False
def seqW (K:Option PV→Prop):List (PV×PV)→Prop→Prop
 | [],fin=>fin
 | q::r,fin=>WG e fa fb fe q.1 q.2∧cbr (fe q.1 q.2 != 0) (K (some (.tup [.data [],.int .i64 (fe q.1 q.2)]))) (seqW K r fin)
def prs (cs:List Ck) (ps:List (List PV)):List (PV×PV):=cs.flatMap fun c=>ps.map fun p=>(encC c,.data p)
def wtab (cs:List Ck) (ps:List (List PV)):List PV:=cs.map fun c=>.data (ps.map fun p=>.agg [.int .i64 (fa (encC c) (.data p)),.int .i64 (fb (encC c) (.data p))])
def pcsD (ps:List (List PV)):List PV:=ps.map fun p=>.data p
def wRun (cs:List Ck) (ps:List (List PV)) (K:Option PV→Prop):Prop :=
 WFn (E e) (yhO (sW0 e fa fb fe) 1) (lpW e fa fb fe) yrC [.data (cks cs),.agg [.data (pcsD ps)]] [] fun r H=>K (purN true H r)
def wAns (cs:List Ck) (ps:List (List PV)) (K:Option PV→Prop):Prop :=
 Ans (E e) ydR [.data (cks cs),.agg [.data (pcsD ps)]] (.int .i64 0)∧seqW e fa fb fe K (prs cs ps) (K (some (.tup [.data (wtab fa fb cs ps),.int .i64 0])))
theorem yO3 (c0:Ck) (p0:List PV) (K:Option PV→Prop):wRun e fa fb fe [c0] [p0] K=wAns e fa fb fe [c0] [p0] K:=by kernel_rfl
theorem yO4 (c0 c1:Ck) (p0 p1:List PV) (K:Option PV→Prop):wRun e fa fb fe [c0,c1] [p0,p1] K=wAns e fa fb fe [c0,c1] [p0,p1] K:=by kernel_rfl
theorem yO5 (c0 c1 c2:Ck) (p0 p1 p2:List PV) (K:Option PV→Prop):wRun e fa fb fe [c0,c1,c2] [p0,p1,p2] K=wAns e fa fb fe [c0,c1,c2] [p0,p1,p2] K:=by kernel_rfl
theorem yO6 (c0 c1 c2 c3:Ck) (p0 p1 p2 p3:List PV) (K:Option PV→Prop):wRun e fa fb fe [c0,c1,c2,c3] [p0,p1,p2,p3] K=wAns e fa fb fe [c0,c1,c2,c3] [p0,p1,p2,p3] K:=by kernel_rfl
theorem yO7 (c0 c1 c2 c3 c4:Ck) (p0 p1 p2 p3 p4:List PV) (K:Option PV→Prop):wRun e fa fb fe [c0,c1,c2,c3,c4] [p0,p1,p2,p3,p4] K=wAns e fa fb fe [c0,c1,c2,c3,c4] [p0,p1,p2,p3,p4] K:=by kernel_rfl
theorem yO8 (c0 c1 c2 c3 c4 c5:Ck) (p0 p1 p2 p3 p4 p5:List PV) (K:Option PV→Prop):wRun e fa fb fe [c0,c1,c2,c3,c4,c5] [p0,p1,p2,p3,p4,p5] K=wAns e fa fb fe [c0,c1,c2,c3,c4,c5] [p0,p1,p2,p3,p4,p5] K:=by kernel_rfl
theorem yNT (he:EG e):SEOk (Uni (E e)) (sW0 e fa fb fe) :=
 yaw (Sub.uni _) ⟨fun _ _ h=>⟨_,h.2,h.1⟩,fun as K h=>by
  unfold wpWr at h
  split at h
  ·exact ⟨_,h.2,h.1⟩
  ·exact h.elim,trivial⟩ trivial he.ok
theorem yOx (he:EG e):LpOk (Uni (E e)) (E e) (lpW e fa fb fe) [] yrC.body:=by
 have hG:=yaD (yNT e fa fb fe he) 1
 have h0:LpOk (Uni (E e)) (E e) (fun _ _ _ _ _=>False) [] yhZ:=yai (by kernel_rfl)
 have h1:LpOk (Uni (E e)) (E e) (lpW1 e fa fb fe) [] ynk:=ybe (l:=[(14283600,.loop 14283600 yhZ)]) ⟨fun F H Q h=>yLS (Sub.uni _) hG (by kernel_rfl) h0 h,trivial⟩ (by kernel_rfl)
 exact ybe (l:=[(14283600,.loop 14283600 yhZ),(14283601,.loop 14283601 ynk)]) ⟨fun F H Q h=>yLS (Sub.uni _) hG (by kernel_rfl) h0 h,fun F H Q h=>yLS (Sub.uni _) hG (by kernel_rfl) h1 h,trivial⟩ (by kernel_rfl)
theorem yKd (he:EG e) {cs:List Ck} {ps:List (List PV)} {K:PV→Prop} (h:wRun e fa fb fe cs ps fun o=>∃ q,o=some q∧K q):∃ q,K q∧Ans (E e) ybc [.data (cks cs),.agg [.data (pcsD ps)]] q:=by
 have hf:(E e).fns ybc=some yrC.fn:=by kernel_rfl
 have hx:∀ as H,(E e).eff ybc as H=none:=he.num _ (by kernel_rfl)
 obtain ⟨r,H',⟨q,hp,hk⟩,m0,hm⟩:=yDc (S:=⟨E e,fun _=>none,fun _=>none,lpW e fa fb fe,fun _=>none⟩) (callK:=yhO (sW0 e fa fb fe) 1) (Sub.uni _) (yaD (yNT e fa fb fe he) 1) (fn:=yrC) yj6.flat (yOx e fa fb fe he) (n:=ybc) hf hx h
 refine ⟨q,hk,m0,fun k x m hk1 hk2 hle=>?_⟩
 obtain ⟨_,l2,l3,_,_,l6,_⟩:=ygF hk2
 have hs:(E e).sum ybc [.data (cks cs),.agg [.data (pcsD ps)]]=none:=yax (by kernel_rfl) _
 have hq:(E e).qui ybc=true:=by kernel_rfl
 have hn:(E e).nl ybc=true:=by kernel_rfl
 have hm':yca x m ybc [.data (cks cs),.agg [.data (pcsD ps)]] []=some (r,H'):=hm k x m hk1 hk2 hle
 unfold yez
 rw [l2,hs,l3,hq,hm',l6,hn]
 exact hp
end
theorem yaI {α:Type} {l:List α} {n:Nat} (h:l.length=n+1):∃ a r,l=a::r∧r.length=n:=by
 cases l with
 | nil=>cases h
 | cons a r=>exact ⟨a,r,rfl,by simpa using h⟩
theorem yLT (e:Es) (fa fb fe:PV→PV→Int) {cs:List Ck} {ps:List (List PV)} (hl:ps.length=cs.length) (h1:1≤cs.length) (h6:cs.length≤6) (K:Option PV→Prop):wRun e fa fb fe cs ps K=wAns e fa fb fe cs ps K:=by
 obtain ⟨n,hn⟩:∃ n,cs.length=n:=⟨_,rfl⟩
 rw [hn] at hl h1 h6
 obtain rfl | rfl | rfl | rfl | rfl | rfl:n=1∨n=2∨n=3∨n=4∨n=5∨n=6:=by omega
 ·obtain ⟨c0,cr0,hc0,hn0⟩:=yaI hn
  subst hc0
  have hzc:=qAm hn0
  subst hzc
  obtain ⟨p0,pr0,hp0,hl0⟩:=yaI hl
  subst hp0
  have hzp:=qAm hl0
  subst hzp
  exact yO3 e fa fb fe c0 p0 K
 ·obtain ⟨c0,cr0,hc0,hn0⟩:=yaI hn
  subst hc0
  obtain ⟨c1,cr1,hc1,hn1⟩:=yaI hn0
  subst hc1
  have hzc:=qAm hn1
  subst hzc
  obtain ⟨p0,pr0,hp0,hl0⟩:=yaI hl
  subst hp0
  obtain ⟨p1,pr1,hp1,hl1⟩:=yaI hl0
  subst hp1
  have hzp:=qAm hl1
  subst hzp
  exact yO4 e fa fb fe c0 c1 p0 p1 K
 ·obtain ⟨c0,cr0,hc0,hn0⟩:=yaI hn
  subst hc0
  obtain ⟨c1,cr1,hc1,hn1⟩:=yaI hn0
  subst hc1
  obtain ⟨c2,cr2,hc2,hn2⟩:=yaI hn1
  subst hc2
  have hzc:=qAm hn2
  subst hzc
  obtain ⟨p0,pr0,hp0,hl0⟩:=yaI hl
  subst hp0
  obtain ⟨p1,pr1,hp1,hl1⟩:=yaI hl0
  subst hp1
  obtain ⟨p2,pr2,hp2,hl2⟩:=yaI hl1
  subst hp2
  have hzp:=qAm hl2
  subst hzp
  exact yO5 e fa fb fe c0 c1 c2 p0 p1 p2 K
 ·obtain ⟨c0,cr0,hc0,hn0⟩:=yaI hn
  subst hc0
  obtain ⟨c1,cr1,hc1,hn1⟩:=yaI hn0
  subst hc1
  obtain ⟨c2,cr2,hc2,hn2⟩:=yaI hn1
  subst hc2
  obtain ⟨c3,cr3,hc3,hn3⟩:=yaI hn2
  subst hc3
  have hzc:=qAm hn3
  subst hzc
  obtain ⟨p0,pr0,hp0,hl0⟩:=yaI hl
  subst hp0
  obtain ⟨p1,pr1,hp1,hl1⟩:=yaI hl0
  subst hp1
  obtain ⟨p2,pr2,hp2,hl2⟩:=yaI hl1
  subst hp2
  obtain ⟨p3,pr3,hp3,hl3⟩:=yaI hl2
  subst hp3
  have hzp:=qAm hl3
  subst hzp
  exact yO6 e fa fb fe c0 c1 c2 c3 p0 p1 p2 p3 K
 ·obtain ⟨c0,cr0,hc0,hn0⟩:=yaI hn
  subst hc0
  obtain ⟨c1,cr1,hc1,hn1⟩:=yaI hn0
  subst hc1
  obtain ⟨c2,cr2,hc2,hn2⟩:=yaI hn1
  subst hc2
  obtain ⟨c3,cr3,hc3,hn3⟩:=yaI hn2
  subst hc3
  obtain ⟨c4,cr4,hc4,hn4⟩:=yaI hn3
  subst hc4
  have hzc:=qAm hn4
  subst hzc
  obtain ⟨p0,pr0,hp0,hl0⟩:=yaI hl
  subst hp0
  obtain ⟨p1,pr1,hp1,hl1⟩:=yaI hl0
  subst hp1
  obtain ⟨p2,pr2,hp2,hl2⟩:=yaI hl1
  subst hp2
  obtain ⟨p3,pr3,hp3,hl3⟩:=yaI hl2
  subst hp3
  obtain ⟨p4,pr4,hp4,hl4⟩:=yaI hl3
  subst hp4
  have hzp:=qAm hl4
  subst hzp
  exact yO7 e fa fb fe c0 c1 c2 c3 c4 p0 p1 p2 p3 p4 K
 ·obtain ⟨c0,cr0,hc0,hn0⟩:=yaI hn
  subst hc0
  obtain ⟨c1,cr1,hc1,hn1⟩:=yaI hn0
  subst hc1
  obtain ⟨c2,cr2,hc2,hn2⟩:=yaI hn1
  subst hc2
  obtain ⟨c3,cr3,hc3,hn3⟩:=yaI hn2
  subst hc3
  obtain ⟨c4,cr4,hc4,hn4⟩:=yaI hn3
  subst hc4
  obtain ⟨c5,cr5,hc5,hn5⟩:=yaI hn4
  subst hc5
  have hzc:=qAm hn5
  subst hzc
  obtain ⟨p0,pr0,hp0,hl0⟩:=yaI hl
  subst hp0
  obtain ⟨p1,pr1,hp1,hl1⟩:=yaI hl0
  subst hp1
  obtain ⟨p2,pr2,hp2,hl2⟩:=yaI hl1
  subst hp2
  obtain ⟨p3,pr3,hp3,hl3⟩:=yaI hl2
  subst hp3
  obtain ⟨p4,pr4,hp4,hl4⟩:=yaI hl3
  subst hp4
  obtain ⟨p5,pr5,hp5,hl5⟩:=yaI hl4
  subst hp5
  have hzp:=qAm hl5
  subst hzp
  exact yO8 e fa fb fe c0 c1 c2 c3 c4 c5 p0 p1 p2 p3 p4 p5 K
def wPV (t:Int×Int×Int):PV:=.tup [.agg [.int .i64 t.1,.int .i64 t.2.1],.int .i64 t.2.2]
open Classical in
noncomputable def wOf (e:Es) (c p:PV):Int×Int×Int:=if h:∃ t,Ans (E e) ybY [c,p] (wPV t) then Classical.choose h else (0,0,0)
theorem yEi {e:Es} {c p:PV} {t:Int×Int×Int} (h:Ans (E e) ybY [c,p] (wPV t)):wOf e c p=t:=by
 have hx:∃ t,Ans (E e) ybY [c,p] (wPV t):=⟨t,h⟩
 unfold wOf
 rw [dif_pos hx]
 have h2:=Ans.unique (Classical.choose_spec hx) h
 generalize Classical.choose hx=u at h2
 obtain ⟨a,b,c⟩:=u
 obtain ⟨a',b',c'⟩:=t
 unfold wPV at h2
 cases h2
 rfl
theorem yO9 {e:Es} {c p:PV} {t:Int×Int×Int} (h:Ans (E e) ybY [c,p] (wPV t)):WG e (fun c p=>(wOf e c p).1) (fun c p=>(wOf e c p).2.1) (fun c p=>(wOf e c p).2.2) c p:=by
 unfold WG
 have:=yEi h
 dsimp only
 rw [this]
 exact h
theorem yI7 {e:Es} {fa fb fe:PV→PV→Int} {K:Option PV→Prop} {fin:Prop}:∀ {l:List (PV×PV)},(∀ q∈l,WG e fa fb fe q.1 q.2)→((∀ q∈l,fe q.1 q.2=0)→fin)→(∀ q∈l,fe q.1 q.2≠0→K (some (.tup [.data [],.int .i64 (fe q.1 q.2)])))→seqW e fa fb fe K l fin
 | [],_,h,_=>h fun q hq=>by cases hq
 | q::r,hg,h,hk=>by
  refine ⟨hg q qAi,?_⟩
  by_cases h0:fe q.1 q.2=0
  ·rw [h0]
   refine yI7 (fun x hx=>hg x (qAh _ hx)) (fun hr=>h fun x hx=>?_) fun x hx=>hk x (qAh _ hx)
   rcases qAr.1 hx with rfl | hx
   ·exact h0
   ·exact hr x hx
  ·have e1:(fe q.1 q.2 != 0)=true:=by simpa using h0
   rw [e1]
   exact hk q qAi h0
theorem yOy {e:Es} (he:EG e) {c:Ck} {p:List PV} {t:Int×Int×Int} (h:∀ K:Int→Int→Int→Prop,ybN c.len (ints c.cuts) (ints c.dens) p K=K t.1 t.2.1 t.2.2):Ans (E e) ybY [encC c,.data p] (wPV t):=by
 have hw:ypy [encC c,.data p] (fun q=>q=wPV t):=by
  have e0:ypy [encC c,.data p] (fun q=>q=wPV t)=ybN c.len (ints c.cuts) (ints c.dens) p (fun r0 r1 r2=>PV.tup [.agg [.int .i64 r0,.int .i64 r1],.int .i64 r2]=wPV t):=by kernel_rfl
  rw [e0,h]
  rfl
 obtain ⟨q,hq,ha⟩:=ypB e he [encC c,.data p] (fun q=>q=wPV t) hw
 rw [hq] at ha
 exact ha
theorem yLU {cs:List Ck} {ps:List (List PV)} (hl:ps.length=cs.length) (h1:1≤cs.length) (h6:cs.length≤6) (hc:∀ K,ydi (cks cs) (pcsD ps) K=K 0) {F:Ck→List PV→Int×Int×Int}
  (hW:∀ c∈cs,∀ p∈ps,∀ K,ybN c.len (ints c.cuts) (ints c.dens) p K=K (F c p).1 (F c p).2.1 (F c p).2.2) {r0:List PV} {r1:Int}
  (h0:(∀ c∈cs,∀ p∈ps,(F c p).2.2=0)→r0=cs.map (fun c=>.data (ps.map fun p=>.agg [.int .i64 (F c p).1,.int .i64 (F c p).2.1]))∧r1=0)
  (hx:∀ c∈cs,∀ p∈ps,(F c p).2.2≠0→r0=[]∧r1=(F c p).2.2) (K:List PV→Int→Prop):yaF (cks cs) (pcsD ps) K=K r0 r1:=by
 refine yxu _ _ _ _ (fun K k=>?_) K
 refine ⟨r0,r1,k,fun e he=>?_⟩
 have hA:∀ c∈cs,∀ p∈ps,Ans (E e) ybY [encC c,.data p] (wPV (F c p)):=fun c hc p hp=>yOy he (hW c hc p hp)
 have hq:∀ q∈prs cs ps,∃ c∈cs,∃ p∈ps,q=(encC c,PV.data p):=fun q hq=>by
  unfold prs at hq
  obtain ⟨c,hc,hq⟩:=List.mem_flatMap.1 hq
  obtain ⟨p,hp,rfl⟩:=qB8.1 hq
  exact ⟨c,hc,p,hp,rfl⟩
 have hck:Ans (E e) ydR [.data (cks cs),.agg [.data (pcsD ps)]] (.int .i64 0):=by
  have hw:ypR [.data (cks cs),.agg [.data (pcsD ps)]] (fun q=>q=.int .i64 0):=by
   have e0:ypR [.data (cks cs),.agg [.data (pcsD ps)]] (fun q=>q=.int .i64 0)=ydi (cks cs) (pcsD ps) (fun r0=>PV.int .i64 r0=.int .i64 0):=by kernel_rfl
   rw [e0,hc]
  obtain ⟨q,hq,ha⟩:=ypS e he [.data (cks cs),.agg [.data (pcsD ps)]] (fun q=>q=.int .i64 0) hw
  rw [hq] at ha
  exact ha
 have hrun:wRun e (fun c p=>(wOf e c p).1) (fun c p=>(wOf e c p).2.1) (fun c p=>(wOf e c p).2.2) cs ps fun o=>∃ q,o=some q∧q=.tup [.data r0,.int .i64 r1]:=by
  rw [yLT _ _ _ _ hl h1 h6]
  refine ⟨hck,yI7 (fun q hq'=>?_) (fun hz=>?_) fun q hq' hn=>?_⟩
  ·obtain ⟨c,hc,p,hp,rfl⟩:=hq q hq'
   exact yO9 (hA c hc p hp)
  ·have hz':∀ c∈cs,∀ p∈ps,(F c p).2.2=0:=fun c hc p hp=>by
    have:=hz (encC c,.data p) (List.mem_flatMap.2 ⟨c,hc,qB8.2 ⟨p,hp,rfl⟩⟩)
    dsimp only at this
    rw [yEi (hA c hc p hp)] at this
    exact this
   obtain ⟨e1,e2⟩:=h0 hz'
   refine ⟨_,rfl,?_⟩
   rw [e1,e2]
   unfold wtab
   congr 3
   refine List.map_congr_left fun c hc=>?_
   congr 1
   refine List.map_congr_left fun p hp=>?_
   dsimp only
   rw [yEi (hA c hc p hp)]
  ·obtain ⟨c,hc,p,hp,rfl⟩:=hq q hq'
   dsimp only at hn ⊢
   rw [yEi (hA c hc p hp)] at hn ⊢
   obtain ⟨e1,e2⟩:=hx c hc p hp hn
   exact ⟨_,rfl,by rw [e1,e2]⟩
 obtain ⟨q,hq',ha⟩:=yKd e _ _ _ he hrun
 rw [hq'] at ha
 exact ha
end Go.Pf.Vc
namespace Go.Pf.Vc
def yqf (a b:List RS):Bool:=a.any fun s=>b.any fun t=>decide (s.1<t.2)&&decide (t.1<s.2)
theorem yHZ {a b:List RS} (ha:∀ s∈a,s.1<s.2) (hb:∀ s∈b,s.1<s.2):yqf a b=true↔∃ p,memP a p∧memP b p:=by
 unfold yqf
 simp only [List.any_eq_true,qAd,decide_eq_true_eq]
 constructor
 ·rintro ⟨s,hs,t,ht,h1,h2⟩
  have k1:=ha s hs
  have k2:=hb t ht
  by_cases h:s.1<t.1
  ·exact ⟨t.1,⟨s,hs,by grind,h2⟩,⟨t,ht,qBu,k2⟩⟩
  ·exact ⟨s.1,⟨s,hs,qBu,k1⟩,⟨t,ht,by grind,h1⟩⟩
 ·rintro ⟨p,⟨s,hs,h1,h2⟩,⟨t,ht,h3,h4⟩⟩
  exact ⟨s,hs,t,ht,by grind,by grind⟩
def gapS (len:Rat):List RS→Rat→Bool
 | [],at_=>decide (at_<len)
 | s::r,at_=>if at_<s.1 then true else gapS len r (if at_<s.2 then s.2 else at_)
theorem yF9 {len:Rat}:∀ (l:List RS) (at_:Rat),yz3 l→(∀ s∈l,s.1<s.2)→(∀ s∈l,s.2≤len)→(gapS len l at_=true↔∃ p,at_≤p∧p<len∧¬memP l p)
 | [],at_,_,_,_=>by
  unfold gapS
  rw [decide_eq_true_eq]
  exact ⟨fun h=>⟨at_,qBu,h,yLG⟩,fun ⟨p,h1,h2,_⟩=>by grind⟩
 | s::r,at_,hs,hv,hl=>by
  unfold gapS
  have s1:=hv s qAi
  have s2:=hl s qAi
  by_cases h:at_<s.1
  ·rw [if_pos h]
   refine ⟨fun _=>⟨at_,qBu,by grind,fun hm=>?_⟩,fun _=>rfl⟩
   rcases yqI.1 hm with hm | ⟨t,ht,hm,_⟩
   ·have:=hm.1;grind
   ·have:=hs.1 t ht;grind
  ·rw [if_neg h,yF9 r _ hs.2 (fun t ht=>hv t (qAh _ ht)) (fun t ht=>hl t (qAh _ ht))]
   constructor
   ·rintro ⟨p,h1,h2,h3⟩
    have h1':at_≤p∧s.2≤p:=by split at h1 <;> exact ⟨by grind,by grind⟩
    refine ⟨p,h1'.1,h2,fun hm=>?_⟩
    rcases yqI.1 hm with hm | hm
    ·have:=hm.2;grind
    ·exact h3 hm
   ·rintro ⟨p,h1,h2,h3⟩
    refine ⟨p,?_,h2,fun hm=>h3 (yqI.2 (.inr hm))⟩
    have hn:¬inS s p:=fun hm=>h3 (yqI.2 (.inl hm))
    have:s.2≤p:=Rat.not_lt.1 fun hlt=>hn ⟨by grind,hlt⟩
    split <;> assumption
end Go.Pf.Vc
namespace Go.Pf.Vc
open Go Go.Pf
theorem yiV {q r:Rat} (hq:small q) (hr:small r) (K:Bool→Prop):yah q.num q.den r.num r.den K=K (decide (q<r)):=by
 unfold yah yly
 rw [yuL hq hr,yF6]
theorem yjL (n:Int) (K:Int→Int→Prop):yaA n K=K (n:Rat).num (n:Rat).den:=rfl
def meets (s t:RS):Bool:=decide (s.1<t.2)&&decide (t.1<s.2)
theorem yGa {s:RS} (h:yfx s) {B:List RS} (hs:∀ t∈B,yfx t) (hl:B.length<4611686018427387904) {x0:Int→Int→Int→Int→List PV→Int→Int→Bool→Prop} {x1:Int→Int→Int→Int→Int→Prop} {K:Bool→Prop}
  (hx0:∀ a b c d l i k q,x0 a b c d l i k q=K false) (hx1:∀ a b c d i,0≤i→x1 a b c d i=K true) :
  ∀ (r i n:Nat),i+r=B.length→r<n→ycY yah x0 x1 n s.1.num s.1.den s.2.num s.2.den (rsp B) (B.length:Int) (i:Int)=K ((B.drop i).any (meets s)):=by
 intro r
 induction r with
 | zero =>
  intro i n hi hn
  obtain ⟨n,rfl⟩:∃ m,n=m+1:=⟨n-1,by omega⟩
  obtain rfl:i=B.length:=by omega
  rw [ycY,cbF (by omega),List.drop_length,hx0]
  rfl
 | succ r ih =>
  intro i n hi hn
  obtain ⟨n,rfl⟩:∃ m,n=m+1:=⟨n-1,by omega⟩
  have hil:i<B.length:=by omega
  have e1:=wib (n:=(i:Int)+1) (by omega) (by omega)
  have hd:B.drop i=B.getD i default::B.drop (i+1):=ydh default hil
  have hx:=ytc hs hil
  rw [ycY,cbT (by omega)]
  dsimp only [lt,Go.Pf.jn]
  rw [ycT,asT (by omega),asT (by omega),qAe,yqd hil,asR,yCi,yI1,yCj,yCk,yiV h.1 hx.2,e1,yc3,hd,List.any_cons]
  unfold meets
  cases decide (s.1<(B.getD i default).2) with
  | false =>
   rw [yae,yae,qBm,Bool.false_or]
   exact ih (i+1) n (by omega) (by omega)
  | true =>
   rw [yam,qA7,yiV hx.1 h.2]
   cases decide ((B.getD i default).1<s.2) with
   | false =>
    rw [yae,Bool.false_or]
    exact ih (i+1) n (by omega) (by omega)
   | true =>
    rw [yam,hx1 _ _ _ _ _ (by omega)]
    rfl
theorem yKe {s:RS} (h:yfx s) {B:List RS} (hs:∀ t∈B,yfx t) (hl:B.length<4611686018427387904) (K:Bool→Prop):ybZ s.1.num s.1.den s.2.num s.2.den (rsp B) K=K (B.any (meets s)):=by
 refine yuD _ _ _ _ _ _ (fun K k=>?_) K
 unfold ybZ yh9
 dsimp only [Go.Pf.jn]
 refine ⟨B.length+1,?_⟩
 rw [ycT]
 exact (yGa h hs hl (K:=K) (fun _ _ _ _ _ _ _ _=>rfl) (fun _ _ _ _ i hi=>by rw [decide_eq_true hi]) B.length 0 (B.length+1) (by omega) (by omega)).mpr (by rw [qBd];exact k)
theorem yH0 {A B:List RS} (ha:∀ s∈A,yfx s) (hb:∀ t∈B,yfx t) (hla:A.length<4611686018427387904) (hlb:B.length<4611686018427387904) {x0:List PV→List PV→Int→Int→Bool→Prop} {x1:List PV→Int→Prop} {K:Bool→Prop}
  (hx0:∀ l m i k q,x0 l m i k q=K false) (hx1:∀ l i,0≤i→x1 l i=K true) :
  ∀ (r i n:Nat),i+r=A.length→r<n→ydv ybZ x0 x1 n (rsp B) (rsp A) (A.length:Int) (i:Int)=K (yqf (A.drop i) B):=by
 intro r
 induction r with
 | zero =>
  intro i n hi hn
  obtain ⟨n,rfl⟩:∃ m,n=m+1:=⟨n-1,by omega⟩
  obtain rfl:i=A.length:=by omega
  rw [ydv,cbF (by omega),List.drop_length,hx0]
  rfl
 | succ r ih =>
  intro i n hi hn
  obtain ⟨n,rfl⟩:∃ m,n=m+1:=⟨n-1,by omega⟩
  have hil:i<A.length:=by omega
  have e1:=wib (n:=(i:Int)+1) (by omega) (by omega)
  have hd:A.drop i=A.getD i default::A.drop (i+1):=ydh default hil
  have hx:=ytc ha hil
  rw [ydv,cbT (by omega)]
  dsimp only [lt,Go.Pf.jn]
  rw [ycT,asT (by omega),asT (by omega),qAe,yqd hil,asR,yCi,yI1,yCj,yCk,yKe hx hb hlb,e1,yc3,hd]
  have e:yqf (A.getD i default::A.drop (i+1)) B=(B.any (meets (A.getD i default))||yqf (A.drop (i+1)) B):=rfl
  rw [e]
  cases B.any (meets (A.getD i default)) with
  | false =>
   rw [yae,Bool.false_or]
   exact ih (i+1) n (by omega) (by omega)
  | true =>
   rw [yam,hx1 _ _ (by omega)]
   rfl
theorem yLV {A B:List RS} (ha:∀ s∈A,yfx s) (hb:∀ t∈B,yfx t) (hla:A.length<4611686018427387904) (hlb:B.length<4611686018427387904) (K:Bool→Prop):yan (rsp A) (rsp B) K=K (yqf A B):=by
 refine yxv _ _ _ (fun K k=>?_) K
 unfold yan ykt
 dsimp only [Go.Pf.jn]
 refine ⟨A.length+1,?_⟩
 rw [ycT]
 exact (yH0 ha hb hla hlb (K:=K) (fun _ _ _ _ _=>rfl) (fun _ i hi=>by rw [decide_eq_true hi]) A.length 0 (A.length+1) (by omega) (by omega)).mpr (by rw [qBd];exact k)
section
variable {cs:List Ck} {ps:List (List Sp)}
theorem ycd {α:Type} {l:List α} {i:Nat} (d:α) (h:i<l.length):l.getD i d∈l:=by
 rw [qAb,qAa h]
 exact qBw h
end
structure DV (cs:List Ck) (A:List (List RS)):Prop where
 d:DK cs
 l:A.length=cs.length
 p:∀ a∈A,Pc a
 m:∀ a∈A,a.length≤20
 w:∀ a∈A,yLO (cs.getD 0 default).len a=true
theorem datD (l:List PV):yaE (PV.data l)=l:=rfl
def rspL (A:List (List RS)):List PV:=A.map fun a=>.data (rsp a)
theorem yfE (A:List (List RS)):(rspL A).length=A.length:=qAq ..
theorem yk9 {A:List (List RS)} {i:Nat} (h:i<A.length):List.getD (rspL A) i .nils=.data (rsp (A.getD i [])):=by
 unfold rspL
 rw [qAb,qAb,qA3,qAa h]
 rfl
section
variable {cs:List Ck} {ps:List (List Sp)} {A:List (List RS)}
theorem DV.len0 (h:DV cs A):1≤(cs.getD 0 default).len∧(cs.getD 0 default).len≤1000:=(h.d.ok 0 (by have:=h.d.n0;omega)).len0
theorem DV.wi (h:DV cs A):∀ a∈A,Wi (cs.getD 0 default).len a:=fun a ha=>yLP (h.w a ha)
theorem yz6 (h:DV cs A) {WA WW WL} {x0:List PV→List PV→List PV→Int→Int→Bool→Prop} {x1:Int→Prop} :
  ∀ (r i n:Nat),i+r=A.length→r<n→ydu WA yaW WW WL x0 x1 n (cks cs) (rspL A) (rspL A) (A.length:Int) (i:Int)=x0 (cks cs) (rspL A) (rspL A) (A.length:Int) (A.length:Int) false
 | 0,i,n+1,hi,hn=>by
  rw [ydu,cbF (by omega),show (i:Int)=A.length by omega]
 | r+1,i,n+1,hi,hn=>by
  have h6:=h.d.n6;have hl:=h.l
  have e1:=wib (n:=(i:Int)+1) (by omega) (by omega)
  have hm:=ycd [] (show i<A.length by omega)
  rw [ydu]
  dsimp only [lt,Go.Pf.jn]
  rw [cbT (by omega),yfE,asT (by omega),asT (by omega),qAe,yk9 (by omega),asD]
  show yaW (rsp (A.getD i [])) _=_
  rw [(h.p _ hm).check,e1,yc3]
  show cbr false _ _=_
  rw [yae]
  exact yz6 h r (i+1) n (by omega) (by omega)
theorem yz7 (h:DV cs A) {WA WC} {x0:List PV→List PV→Int→Int→Bool→Prop} {x1:Int→Prop} :
  ∀ (r i n:Nat),i+r=A.length→r<n→ycS WA WC yaA yah x0 x1 n (cks cs) (rspL A) (A.length:Int) (i:Int)=x0 (cks cs) (rspL A) (A.length:Int) (A.length:Int) false
 | 0,i,n+1,hi,hn=>by
  rw [ycS,cbF (by omega),show (i:Int)=A.length by omega]
 | r+1,i,n+1,hi,hn=>by
  have h6:=h.d.n6;have hl:=h.l;have h1:=h.d.n0;have l0:=h.len0
  have e1:=wib (n:=(i:Int)+1) (by omega) (by omega)
  have hm:=ycd [] (show i<A.length by omega)
  have p:=h.p _ hm
  have hw:=h.wi _ hm
  have pn:=p.n
  have ih:=yz7 h (WA:=WA) (WC:=WC) (x0:=x0) (x1:=x1) r (i+1) n (by omega) (by omega)
  rw [ycS]
  dsimp only [lt,Go.Pf.jn]
  rw [cbT (by omega),yfE,asT (by omega),asT (by omega),qAe,yk9 (by omega),asD,datD]
  generalize A.getD i []=a at p hw pn
  rw [ycT,e1,yc3]
  by_cases ha:a.length=0
  ·rw [cbF (by omega),yae]
   exact ih
  ·have h0:0<a.length:=by omega
   have m0:=ycd (default:RS) h0
   have m1:=ycd (default:RS) (show a.length-1<a.length by omega)
   have w0:=hw _ m0
   have w1:=hw _ m1
   have s1:=p.s _ m1
   have n0:0≤(a.getD 0 default).1.num:=Rat.num_nonneg.2 w0.1
   have e2:=wib (n:=(a.length:Int)-1) (by omega) (by omega)
   have et:((a.length:Int)-1).toNat=a.length-1:=by omega
   have sl:small ((cs.getD 0 default).len:Rat):=yfa (by omega)
   rw [cbT (by omega),asT (by omega),yqd h0,asR,yCi,cbF (by omega),yaX,asT (by omega),yfb (by omega),asCk,ck0,yjL,e2,asT (by omega),asT (by omega),et,yqd (by omega),asR,yCj,yCk,yiV sl s1.2,cbF (by grind)]
   exact ih
theorem yNj (h:DV cs A) (K:Int→Prop):ydi (cks cs) (rspL A) K=K 0:=by
 have h6:=h.d.n6;have hl:=h.l
 refine yxt _ _ _ (fun K k=>?_) K
 unfold ydi ykq
 rw [yjJ h.d.fin (by omega)]
 show cbr (yfW cs 0 != 0) _ _
 rw [cnF (h.d.err (by omega)),yfE,yaX,cnF (by omega)]
 refine ⟨A.length+1,(yz6 h A.length 0 (A.length+1) (by omega) (by omega)).mpr ?_⟩
 show ∃ n,ycS _ _ _ _ _ _ n (cks cs) (rspL A) (((rspL A).length:Nat):Int) 0
 rw [yfE]
 exact ⟨A.length+1,(yz7 h A.length 0 (A.length+1) (by omega) (by omega)).mpr k⟩
end
def wV (c:Ck) (a:List RS):Rat:=sumV (dV (vX c.cuts c.dens)) a
def tabW (cs:List Ck) (A:List (List RS)):List PV:=cs.map fun c=>.data (rts (A.map (wV c)))
open Classical in
noncomputable def fW (c:Ck) (p:List PV):Int×Int×Int:=if h:∃ t:Int×Int×Int,∀ K:Int→Int→Int→Prop,ybN c.len (ints c.cuts) (ints c.dens) p K=K t.1 t.2.1 t.2.2 then Classical.choose h else (0,0,0)
theorem yPa {c:Ck} {p:List PV} {t:Int×Int×Int} (h:∀ K:Int→Int→Int→Prop,ybN c.len (ints c.cuts) (ints c.dens) p K=K t.1 t.2.1 t.2.2):fW c p=t:=by
 have hx:∃ t:Int×Int×Int,∀ K:Int→Int→Int→Prop,ybN c.len (ints c.cuts) (ints c.dens) p K=K t.1 t.2.1 t.2.2:=⟨t,h⟩
 unfold fW
 rw [dif_pos hx]
 have h2:=Classical.choose_spec hx (fun a b c=>(a,b,c)=t)
 rw [h] at h2
 exact h2.mp rfl
theorem yqg {α:Type} {l:List α} {x:α} (d:α) (h:x∈l):∃ i,i<l.length∧l.getD i d=x:=by
 obtain ⟨i,hi,e⟩:=List.getElem_of_mem h
 exact ⟨i,hi,by rw [qAb,qAa hi];exact e⟩
section
variable {cs:List Ck} {A:List (List RS)}
theorem DK.mem (h:DK cs) {c:Ck} (hc:c∈cs):c.ok∧c.len=(cs.getD 0 default).len:=by
 obtain ⟨i,hi,rfl⟩:=yqg default hc
 exact ⟨h.ok i hi,h.len i hi⟩
end
def tot (A:List (List RS)):Nat:=(A.map List.length).sum
theorem yuR (a:List RS) (A:List (List RS)):tot (a::A)=a.length+tot A:=by unfold tot;rw [qB3,List.sum_cons]
theorem yGb:∀ A:List (List RS),A.flatten.length=tot A
 | []=>rfl
 | a::r=>by rw [List.flatten_cons,qAf,yGb r,yuR]
theorem yLW {m:Nat}:∀ {A:List (List RS)},(∀ a∈A,a.length≤m)→tot A≤A.length*m
 | [],_=>by simp [tot]
 | a::r,h=>by
  have h1:=h a qAi
  have h2:=yLW (m:=m) fun x hx=>h x (qAh a hx)
  rw [yuR,qAc,Nat.succ_mul]
  omega
section
variable {cs:List Ck} {A:List (List RS)}
theorem yCn (hl:A.length≤6) (hm:∀ a∈A,a.length≤20) {WW WL} {x0:List PV→Int→List PV→Int→Int→Bool→Prop} {l0:List PV} :
  ∀ (r i n s:Nat),i+r=A.length→r<n→s≤20*i→ycl WW WL x0 n l0 (s:Int) (rspL A) (A.length:Int) (i:Int)=x0 l0 ((s+tot (A.drop i):Nat):Int) (rspL A) (A.length:Int) (A.length:Int) false
 | 0,i,n+1,s,hi,hn,hs=>by
  rw [ycl,cbF (by omega),qA0 (by omega),show (i:Int)=A.length by omega]
  rfl
 | r+1,i,n+1,s,hi,hn,hs=>by
  have e1:=wib (n:=(i:Int)+1) (by omega) (by omega)
  have hx:=ycd [] (show i<A.length by omega)
  have hx2:=hm _ hx
  have hd:A.drop i=A.getD i []::A.drop (i+1):=ydh [] (by omega)
  have ih:=yCn hl hm (WW:=WW) (WL:=WL) (x0:=x0) (l0:=l0) r (i+1) n (s+(A.getD i []).length) (by omega) (by omega) (by omega)
  rw [ycl]
  dsimp only [lt,Go.Pf.jn]
  rw [cbT (by omega),yfE,asT (by omega),asT (by omega),qAe,yk9 (by omega),asD,datD,ycT,hd,yuR,e1,yc3]
  generalize (A.getD i []).length=k at hx2 ih
  have e2:=wib (n:=(s:Int)+(k:Int)) (by omega) (by omega)
  rw [e2,cbF (by omega),← Int.natCast_add,ih]
  congr 2
  omega
def zSp:PV:=.agg [.int .i64 0,.int .i64 0,.int .i64 0,.int .i64 0]
theorem yCo (hl:A.length≤6) {WW WL} {x1:List PV→Nat→List PV→Int→Int→Bool→Prop} :
  ∀ (r i n:Nat) (done:List RS),i+r=A.length→r<n→ybp WW WL x1 n (rsp done++List.replicate (tot (A.drop i)) zSp) done.length (rspL A) (A.length:Int) (i:Int)=x1 (rsp (done++(A.drop i).flatten)) (done++(A.drop i).flatten).length (rspL A) (A.length:Int) (A.length:Int) false
 | 0,i,n+1,done,hi,hn=>by
  rw [ybp,cbF (by omega),qA0 (by omega),show (i:Int)=A.length by omega]
  show x1 (rsp done++[]) _ _ _ _ _=x1 (rsp (done++[])) (done++[]).length _ _ _ _
  rw [qBh,qBh]
 | r+1,i,n+1,done,hi,hn=>by
  have e1:=wib (n:=(i:Int)+1) (by omega) (by omega)
  have hd:A.drop i=A.getD i []::A.drop (i+1):=ydh [] (by omega)
  have ih:=yCo hl (WW:=WW) (WL:=WL) (x1:=x1) r (i+1) n (done++A.getD i []) (by omega) (by omega)
  rw [ybp]
  dsimp only [lt,Go.Pf.jn]
  rw [cbT (by omega),yfE,asT (by omega),asT (by omega),qAe,yk9 (by omega),asD,datD,yF8,yau,hd,yuR,List.flatten_cons,e1,yc3,ycT]
  generalize A.getD i []=a at ih
  have hlen:(rsp done++List.replicate (a.length+tot (A.drop (i+1))) zSp).length=done.length+(a.length+tot (A.drop (i+1))):=by
   rw [qAf,ycT,qAw]
  rw [asT rfl,asT (by rw [hlen];omega)]
  rw [show done++(a++(A.drop (i+1)).flatten)=(done++a)++(A.drop (i+1)).flatten from (qAz ..).symm]
  cases ha:a with
  | nil =>
   rw [ha,qBh] at ih
   show cbr true _ _=_
   rw [yam,asT rfl,qBh,qAo,qAt]
   exact ih
  | cons b t =>
   rw [← ha]
   have hemp:List.isEmpty (rsp a)=false:=by rw [ha];rfl
   have hnew:List.take (0+done.length) (rsp done++List.replicate (a.length+tot (A.drop (i+1))) zSp)++(rsp a++List.drop (0+done.length+a.length) (rsp done++List.replicate (a.length+tot (A.drop (i+1))) zSp))=rsp (done++a)++List.replicate (tot (A.drop (i+1))) zSp:=by
    rw [qAt,← yNc,List.take_append_of_le_length (by rw [ycT];omega),qBe (by rw [ycT];omega),List.drop_append,qA0 (by rw [ycT];omega),qBl,ycT,show done.length+a.length-done.length=a.length by omega,List.drop_replicate,show a.length+tot (A.drop (i+1))-a.length=tot (A.drop (i+1)) by omega,qAz]
   have hlen2:(rsp (done++a)++List.replicate (tot (A.drop (i+1))) zSp).length=done.length+(a.length+tot (A.drop (i+1))):=by
    rw [qAf,ycT,qAf,qAw];omega
   rw [hemp,yae,asT (by rw [hlen];omega),hnew,asT (by rw [hlen,hlen2])]
   rw [qAf] at ih
   exact ih
theorem yCp {len:Int} {l:List RS} (hs:∀ s∈l,yfx s) (hl:l.length<1000) {l1 l2 l3 l4:List PV} {x0:List PV→List PV→List PV→List PV→List PV→Int→Int→Nat→Int→Int→Bool→Prop} {x1:List PV→Bool→Prop} {K:Bool→Prop}
  (h0:∀ q:Rat,small q→x0 (rsp l) l1 l2 l3 l4 q.num q.den l.length (l.length:Int) (l.length:Int) false=K (decide (q<(len:Rat)))) (h1:x1 (rsp l) true=K true) :
  ∀ (r i n:Nat) (q:Rat),i+r=l.length→r<n→small q→ycn yaA yah x0 x1 n (rsp l) l1 l2 l3 l4 q.num q.den l.length (l.length:Int) (i:Int)=K (gapS (len:Rat) (l.drop i) q)
 | 0,i,n+1,q,hi,hn,hq=>by
  rw [ycn,cbF (by omega),qA0 (by omega),show (i:Int)=l.length by omega,h0 q hq]
  rfl
 | r+1,i,n+1,q,hi,hn,hq=>by
  have e1:=wib (n:=(i:Int)+1) (by omega) (by omega)
  have hd:l.drop i=l.getD i default::l.drop (i+1):=ydh default (by omega)
  have hx:=ytc hs (show i<l.length by omega)
  have ih:=fun q hq=>yCp hs hl h0 h1 r (i+1) n q (by omega) (by omega) hq
  rw [ycn]
  dsimp only [lt,Go.Pf.jn]
  rw [cbT (by omega),asT (by omega),asT (by omega),ycT,asT rfl,qAe,qAt,asT (by omega),yqd (by omega),asR,yCi,yI1,yCj,yCk,yiV hq hx.1,hd,e1,yc3]
  generalize l.getD i default=t at hx
  unfold gapS
  by_cases hlt:q<t.1
  ·rw [decide_eq_true hlt,yam,if_pos hlt]
   exact h1
  ·rw [decide_eq_false hlt,yae,if_neg hlt,yiV hq hx.2]
   by_cases hlt2:q<t.2
   ·rw [decide_eq_true hlt2,yam,asT rfl,if_pos hlt2]
    exact ih t.2 hx.2
   ·rw [decide_eq_false hlt2,yae,asT rfl,if_neg hlt2]
    exact ih q hq
theorem yz8 (hl:A.length≤6) (hz:∀ a∈A,a=[]) {WW WL} {x0:List PV→Int→Int→Bool→Prop} {x1:List PV→Nat→List PV→Int→Int→Bool→Prop} :
  ∀ (r i n:Nat),i+r=A.length→r<n→ycm WW WL x0 x1 n (rspL A) (A.length:Int) (i:Int)=x0 (rspL A) (A.length:Int) (A.length:Int) false
 | 0,i,n+1,hi,hn=>by
  rw [ycm,cbF (by omega),show (i:Int)=A.length by omega]
 | r+1,i,n+1,hi,hn=>by
  have e1:=wib (n:=(i:Int)+1) (by omega) (by omega)
  have hx:=hz _ (ycd [] (show i<A.length by omega))
  rw [ycm]
  dsimp only [lt,Go.Pf.jn]
  rw [cbT (by omega),yfE,asT (by omega),asT (by omega),qAe,yk9 (by omega),asD,datD,hx,yF8,yau,e1,yc3]
  show cbr true _ _=_
  rw [yam]
  exact yz8 hl hz r (i+1) n (by omega) (by omega)
theorem yLX (hl:A.length≤6) {WW WL} (x1:List PV→Nat→List PV→Int→Int→Bool→Prop):ybp WW WL x1 (A.length+1) (List.replicate (tot A) zSp) 0 (rspL A) (A.length:Int) 0=x1 (rsp A.flatten) A.flatten.length (rspL A) (A.length:Int) (A.length:Int) false:=by
 have hg:=yCo (A:=A) hl (WW:=WW) (WL:=WL) (x1:=x1) A.length 0 (A.length+1) [] (by omega) (by omega)
 rw [qBd,qBl] at hg
 exact hg
theorem DV.tot120 (h:DV cs A):tot A≤120:=by
 have h1:=yLW h.m
 have h2:=h.l;have h3:=h.d.n6
 have:A.length*20≤6*20:=qAl _ (by omega)
 omega
theorem DV.flatS (h:DV cs A):∀ s∈A.flatten,yfx s:=fun s hs=>by
 obtain ⟨a,ha,hs⟩:=List.mem_flatten.1 hs
 exact (h.p a ha).s s hs
theorem DV.flatV (h:DV cs A):∀ s∈A.flatten,s.1<s.2:=fun s hs=>by
 obtain ⟨a,ha,hs⟩:=List.mem_flatten.1 hs
 exact ymF (h.p a ha).c s hs
theorem DV.gap (h:DV cs A) (W PT:List PV):∃ l:List RS,l.Perm A.flatten∧yz3 l∧∀ K,yad (cks cs) (rspL A) W PT K=K (gapS ((cs.getD 0 default).len:Rat) l 0):=by
 have h6:=h.d.n6;have h1:=h.d.n0;have hl:=h.l;have l0:=h.len0;have ht:=h.tot120
 have hfS:=h.flatS
 have hfV:=h.flatV
 obtain ⟨m,p1,p2,p3⟩:=yKb ybj ycg (l:=A.flatten.map spOf) (fun s hs=>by
  obtain ⟨r,hr,rfl⟩:=qB8.1 hs
  exact yxZ (hfS r hr) (hfV r hr))
 have hm:∀ s∈m,s.ok:=fun s hs=>by
  obtain ⟨r,hr,rfl⟩:=qB8.1 (p1.mem_iff.1 hs)
  exact yxZ (hfS r hr) (hfV r hr)
 have hp:(rsL m).Perm A.flatten:=by
  have:=p1.map Sp.rs
  rw [List.map_map] at this
  have e:A.flatten.map (Sp.rs ∘ spOf)=A.flatten:=by
   conv=>rhs;rw [← List.map_id A.flatten]
   exact List.map_congr_left fun r hr=>yI2 (hfS r hr)
  rw [e] at this
  exact this
 have hb:yz3 (rsL m):=yCl (List.pairwise_map.2 p2)
 refine ⟨rsL m,hp,hb,fun K=>?_⟩
 refine yrh _ _ _ _ _ (fun K k=>?_) K
 have sl:small ((cs.getD 0 default).len:Rat):=yfa (by omega)
 have hfl:=yGb A
 have hend:∀ (q:Rat),small q→asr (decide ((0:Int)<(((cks cs).length:Nat):Int))) (asr (conf zK (List.getD (cks cs) 0 .nils)) (yaA (yac (yaj (List.getD (cks cs) 0 .nils) 0)) fun a b=>yah q.num q.den a b fun b=>K b))=K (decide (q<((cs.getD 0 default).len:Rat))):=fun q hq=>by
  rw [yaX,asT (by omega),yfb (by omega),asCk,ck0,yjL,yiV hq sl]
 unfold yad ygV
 dsimp only [Go.Pf.jn,lt]
 refine ⟨A.length+1,?_⟩
 rw [yfE]
 refine (yCn (by omega) h.m A.length 0 (A.length+1) 0 (by omega) (by omega) (by omega)).mpr ?_
 rw [qBd,qAt,cbF (by omega)]
 have e2:=wib (n:=((tot A:Nat):Int)-0) (by omega) (by omega)
 rw [e2,show ((tot A:Nat):Int)-0=((tot A:Nat):Int) by omega]
 by_cases hz:tot A=0
 ·have hze:∀ a∈A,a=[]:=fun a ha=>by
   have hfe:=qAm (hfl.trans hz)
   exact List.flatten_eq_nil_iff.1 hfe a ha
  have hml:rsL m=[]:=qAm (by rw [hp.length_eq,hfl,hz])
  rw [hml] at k
  rw [cbF (by omega)]
  refine ⟨A.length+1,?_⟩
  rw [yfE]
  refine (yz8 (by omega) hze A.length 0 (A.length+1) (by omega) (by omega)).mpr ?_
  rw [yjL]
  refine ⟨1,?_⟩
  rw [yfN,cbF (by omega)]
  exact (hend 0 ytd).mpr k
 ·rw [cbT (by omega),asT (by omega),qAe,cbF (by omega),qAw,asT (by unfold room;omega)]
  have hor:(decide ((0:Int)≤((tot A:Nat):Int))||decide ((0:Int)≤((tot A:Nat):Int)))=true:=by rw [decide_eq_true (by omega)];rfl
  rw [hor,yau,asT rfl]
  refine ⟨A.length+1,?_⟩
  rw [yfE]
  refine (yLX (by omega) _).mpr ?_
  have hcond:Srt.cond yoG.s (rsp A.flatten) 0 A.flatten.length (rsp A.flatten).length 4 false=true:=by
   obtain ⟨d,hd⟩:∃ d,(yoG).s.rows? (rsp A.flatten)=some d:=ywf fun y hy=>by
    obtain ⟨s,h4,rfl⟩:=qB8.1 hy
    obtain ⟨q,hq,rfl⟩:=qB8.1 h4
    exact yLL _ _ (yxZ (hfS q hq) (hfV q hq))
   unfold Srt.cond
   rw [qBd,show List.take A.flatten.length (rsp A.flatten)=rsp A.flatten by rw [← ycT,List.take_length],hd,ycT]
   simp only [decide_true,qA7,qBt,Option.isSome_some,Bool.and_true,qAd,decide_eq_true_eq,qAt,qAk]
   exact ⟨by omega,rfl,by omega⟩
  rw [hcond,yau,yjL]
  have hsrt:Srt.sorted yoG.s yoG.srt (rsp A.flatten)=rsp (rsL m):=by
   rw [show rsp A.flatten=yhJ (A.flatten.map spOf) from rfl,← yKc hm]
   exact p3
  have hlm:(rsL m).length=A.flatten.length:=hp.length_eq
  have htk:List.take A.flatten.length (rsp A.flatten)=rsp A.flatten:=by rw [← ycT,List.take_length]
  have hdp:List.drop A.flatten.length (rsp A.flatten)=[]:=by rw [← ycT,List.drop_length]
  rw [List.take_zero,qBd,htk,hsrt,qBl,qAt,hdp,qBh,ycT,ycT,asT (by rw [hlm]),← hlm]
  refine ⟨(rsL m).length+1,?_⟩
  have hms:∀ s∈rsL m,yfx s:=fun s hs=>hfS s (hp.mem_iff.1 hs)
  have h2:=yCp (len:=(cs.getD 0 default).len) (l:=rsL m) hms (by omega) (l1:=cks cs) (l2:=rspL A) (l3:=W) (l4:=PT) (K:=K)
   (x0:=fun _ l _ _ _ a b _ _ _ _=>asr (decide ((0:Int)<(((List.length l):Nat):Int))) (asr (conf zK (List.getD l 0 .nils)) (yaA (yac (yaj (List.getD l 0 .nils) 0)) fun c d=>yah a b c d fun b=>K b))) (x1:=fun _ b=>K b)
   (fun q hq=>hend q hq) rfl (rsL m).length 0 ((rsL m).length+1) 0 (by omega) (by omega) ytd
  refine h2.mpr ?_
  rw [qBd]
  exact k
end
theorem yNk {x d:Int} (h0:0≤x) (h1:x≤1000000000000000000) (d0:1≤d) (d1:d≤1000000000000000000):small ((x:Rat) / (d:Rat)):=by
 have hd:(d:Rat)≠0:=by
  have:(0:Rat)<(d:Rat):=Rat.intCast_pos.2 (by omega)
  grind
 generalize hq:(x:Rat) / (d:Rat)=q
 have e1:(q.num:Rat)*(d:Rat)=(x:Rat)*(q.den:Rat):=by
  have h2:(q.den:Rat)≠0:=by
   have:(0:Rat)<(q.den:Rat):=Rat.natCast_pos.2 q.den_pos
   grind
  have h3:q=(q.num:Rat) / (q.den:Rat):=by rw [← Rat.mkRat_eq_div,Rat.mkRat_self]
  have h4:q*(q.den:Rat)=(q.num:Rat):=by
   have:(q.num:Rat) / (q.den:Rat)*(q.den:Rat)=(q.num:Rat):=Rat.div_mul_cancel h2
   rw [← h3] at this
   exact this
  have h5:q*(d:Rat)=(x:Rat):=by rw [← hq];exact Rat.div_mul_cancel hd
  grind
 have e2:q.num*d=x*(q.den:Int):=by
  rw [show (q.den:Rat)=(((q.den:Nat):Int):Rat) from (Rat.intCast_natCast _).symm,← Rat.intCast_mul,← Rat.intCast_mul] at e1
  exact Rat.intCast_inj.1 e1
 have hp:=q.den_pos
 have n0:0≤q.num:=by
  refine Int.not_lt.1 fun h=>?_
  have a1:q.num*d<0:=Int.mul_neg_of_neg_of_pos h (by omega)
  have a2:0≤x*(q.den:Int):=qBf h0 (by omega)
  omega
 have hdv:q.den∣d.natAbs:=by
  have hc:Nat.Coprime q.den q.num.natAbs:=q.reduced.symm
  refine hc.dvd_of_dvd_mul_left (m:=q.num.natAbs) ?_
  have:(q.num*d).natAbs=(x*(q.den:Int)).natAbs:=by rw [e2]
  rw [Int.natAbs_mul,Int.natAbs_mul,Int.natAbs_natCast] at this
  rw [this]
  exact Nat.dvd_mul_left ..
 obtain ⟨t,ht⟩:=hdv
 have hd2:d=(q.den:Int)*(t:Int):=by
  rw [← Int.natCast_mul,← ht];omega
 have t1:1≤t:=by
  rcases Nat.eq_zero_or_pos t with h | h
  ·rw [h] at hd2;omega
  ·exact h
 have e3:q.num*(t:Int)=x:=by
  have:(q.num*(t:Int))*(q.den:Int)=x*(q.den:Int):=by rw [← e2,hd2,Int.mul_assoc,Int.mul_comm (t:Int)]
  exact Int.eq_of_mul_eq_mul_right (by omega) this
 have e4:q.num≤q.num*(t:Int):=by
  have:=Int.mul_le_mul_of_nonneg_left (show (1:Int)≤(t:Int) by omega) n0
  omega
 have e5:(q.den:Int)≤(q.den:Int)*(t:Int):=by
  have:=Int.mul_le_mul_of_nonneg_left (show (1:Int)≤(t:Int) by omega) (show (0:Int)≤(q.den:Int) by omega)
  omega
 exact ⟨by omega,by omega,by omega⟩
def yoC (f:Nat→Bool):Nat→Nat→Option Nat
 | 0,_=>none
 | r+1,i=>if f i then some i else yoC f r (i+1)
def yct (f:Nat→Nat→Bool) (n:Nat):Nat→Nat→Option (Nat×Nat)
 | 0,_=>none
 | r+1,i=>match yoC (f i) n 0 with
  | some j=>some (i,j)
  | none=>yct f n r (i+1)
theorem ymG (cs:List Ck) (A:List (List RS)):(tabW cs A).length=cs.length:=qAq ..
theorem yuS {cs:List Ck} {A:List (List RS)} {i:Nat} (h:i<cs.length):List.getD (tabW cs A) i .nils=.data (rts (A.map (wV (cs.getD i default)))):=by
 unfold tabW
 rw [qAb,qAb,qA3,qAa h]
 rfl
theorem yuT {c:Ck} {A:List (List RS)} {i:Nat} (h:i<A.length):(A.map (wV c)).getD i 0=wV c (A.getD i []):=by
 rw [qAb,qAb,qA3,qAa h]
 rfl
def wr0 (A:List (List RS)) (a b:Nat):Bool:=decide (a<b)&&yqf (A.getD a []) (A.getD b [])
def yte (cs:List Ck) (a:Nat):Rat:=((totC (cs.getD a default).cuts (cs.getD a default).dens:Int):Rat) / ((cs.length:Int):Rat)
def wr1 (cs:List Ck) (A:List (List RS)) (a b:Nat):Bool:=decide (a=b)&&decide (wV (cs.getD a default) (A.getD a [])<yte cs a)
def wr2 (cs:List Ck) (A:List (List RS)) (a b:Nat):Bool:=decide (wV (cs.getD a default) (A.getD a [])<wV (cs.getD a default) (A.getD b []))
def wr3 (P:List Rat) (a b:Nat):Bool:=decide (b=0)&&!decide (P.getD a 0=P.getD 0 0)
def wr4 (A:List (List RS)) (a b:Nat):Bool:=decide (a=b)&&decide ((A.getD a []).length≠1)
section
variable {cs:List Ck} {A:List (List RS)}
theorem DV.small (h:DV cs A) (hw:∀ c∈cs,∀ a∈A,small (wV c a)) {i j:Nat} (hi:i<cs.length) (hj:j<cs.length):Go.Pf.Vc.small (wV (cs.getD i default) (A.getD j [])) :=
 hw _ (ycd _ hi) _ (ycd _ (by rw [h.l];exact hj))
theorem yEj (a b:Nat):(((a:Int)) ==(b:Int))=decide (a=b):=by
 rw [Bool.eq_iff_iff,beq_iff_eq,decide_eq_true_eq];omega
theorem yGc {c:Ck} {n:Nat} (hc:c.ok) (h1:1≤n) (h6:n≤6):small (((totC c.cuts c.dens:Int):Rat) / ((n:Int):Rat)):=by
 have:=ygc hc
 exact yNk (by omega) (by omega) (by omega) (by omega)
theorem yPb (h:DV cs A) {l2 l3 l4 l5 l6 l7:List PV} {i9 i10:Int} {x0:List PV→List PV→List PV→List PV→List PV→List PV→List PV→List PV→Int→Int→Int→Int→Int→Bool→Prop} {x1:List PV→List PV→List PV→List PV→Int→Int→Bool→Prop} {a j n:Nat} (ha:a<cs.length) (hj:j<cs.length) :
 ya0 yan yad yaf yao yah x0 x1 (n+1) (cks cs) (rspL A) l2 l3 l4 l5 l6 l7 (a:Int) i9 i10 (cs.length:Int) (j:Int)=cbr (wr0 A a j) (x1 (cks cs) (rspL A) l2 l3 (a:Int) (j:Int) true) (ya0 yan yad yaf yao yah x0 x1 n (cks cs) (rspL A) l2 l3 l4 l5 l6 l7 (a:Int) i9 i10 (cs.length:Int) ((j+1:Nat):Int)):=by
 have h6:=h.d.n6;have h1:=h.d.n0;have hl:=h.l
 have e1:=wib (n:=(j:Int)+1) (by omega) (by omega)
 rw [ya0,cbT (by omega)]
 dsimp only [lt,Go.Pf.jn]
 have ja:=h.p _ (ycd [] (show a<A.length by omega))
 have jb:=h.p _ (ycd [] (show j<A.length by omega))
 have na:=ja.n
 have nb:=jb.n
 unfold wr0
 by_cases hlt:a<j
 ·rw [decide_eq_true hlt,cbT (by omega),yfE,asT (by omega),asT (by omega),qAe,yk9 (by omega),asD,asT (by omega),asT (by omega),qAe,yk9 (by omega),asD,datD,datD,yLV ja.s jb.s (by omega) (by omega),qA7,e1,yc3]
 ·rw [decide_eq_false hlt,cbF (by omega),qBm,e1,yc3]
theorem yPc (h:DV cs A) (hw:∀ c∈cs,∀ a∈A,small (wV c a)) {l3 l4 l5 l6 l7:List PV} {i9 i10:Int} {x0:List PV→List PV→List PV→List PV→List PV→List PV→List PV→List PV→Int→Int→Int→Int→Int→Bool→Prop} {x1:List PV→List PV→List PV→List PV→Int→Int→Bool→Prop} {a j n:Nat} (ha:a<cs.length) (hj:j<cs.length) :
 ya1 yan yad yaf yao yah x1 x0 (n+1) (cks cs) (rspL A) (tabW cs A) l3 l4 l5 l6 l7 (a:Int) i9 i10 (cs.length:Int) (j:Int)=cbr (wr1 cs A a j) (x1 (cks cs) (rspL A) (tabW cs A) l3 (a:Int) (j:Int) true) (ya1 yan yad yaf yao yah x1 x0 n (cks cs) (rspL A) (tabW cs A) l3 l4 l5 l6 l7 (a:Int) i9 i10 (cs.length:Int) ((j+1:Nat):Int)):=by
 have h6:=h.d.n6;have h1:=h.d.n0;have hl:=h.l
 have e1:=wib (n:=(j:Int)+1) (by omega) (by omega)
 rw [ya1,cbT (by omega)]
 dsimp only [lt,Go.Pf.jn]
 have hok:=(h.d.ok a ha)
 have l1:=hok.l1;have l2:=hok.l2
 have hto:=ygc hok
 have hT:I64 (totC (cs.getD a default).cuts (cs.getD a default).dens):=by constructor <;> omega
 have hN:I64 (cs.length:Int):=by constructor <;> omega
 have hss:small (yte cs a):=yGc hok h1 h6
 rw [asT (by omega),yaX,asT (by omega),qAe,yfb ha,asCk,ck0,ck1,ck2,ywc (by omega) (by omega),if_pos hok.ck,yFZ hT hN (by omega)]
 unfold yte at hss
 unfold fitK
 rw [if_pos hss]
 dsimp only
 rw [yEj,e1,yc3]
 unfold wr1 yte
 by_cases hab:a=j
 ·rw [decide_eq_true hab,yam,asT (by omega),ymG,asT (by omega),yuS ha,asD,asT (by omega),datD,yk7,qAq,asT (by omega),yqe (by rw [qAq];omega),asW,ywN,ywO,yuT (by omega),qA7]
  rw [yiV (h.small hw ha ha) hss]
 ·rw [decide_eq_false hab,yae,qBm]
theorem yPd (h:DV cs A) (hw:∀ c∈cs,∀ a∈A,small (wV c a)) {l3 l4 l5 l6 l7:List PV} {i9 i10:Int} {x0:List PV→List PV→List PV→List PV→List PV→List PV→List PV→List PV→Int→Int→Int→Int→Int→Bool→Prop} {x1:List PV→List PV→List PV→List PV→Int→Int→Bool→Prop} {a j n:Nat} (ha:a<cs.length) (hj:j<cs.length) :
 ya2 yan yad yaf yao yah x1 x0 (n+1) (cks cs) (rspL A) (tabW cs A) l3 l4 l5 l6 l7 (a:Int) i9 i10 (cs.length:Int) (j:Int)=cbr (wr2 cs A a j) (x1 (cks cs) (rspL A) (tabW cs A) l3 (a:Int) (j:Int) true) (ya2 yan yad yaf yao yah x1 x0 n (cks cs) (rspL A) (tabW cs A) l3 l4 l5 l6 l7 (a:Int) i9 i10 (cs.length:Int) ((j+1:Nat):Int)):=by
 have h6:=h.d.n6;have h1:=h.d.n0;have hl:=h.l
 have e1:=wib (n:=(j:Int)+1) (by omega) (by omega)
 rw [ya2,cbT (by omega)]
 dsimp only [lt,Go.Pf.jn]
 unfold wr2
 rw [asT (by omega),ymG,asT (by omega),qAe,yuS ha,asD,asT (by omega),datD,yk7,qAq,asT (by omega),yqe (by rw [qAq];omega),asW,asT (by omega),asT (by omega),asT (by omega),asT (by omega),qAe,yqe (by rw [qAq];omega),asW,ywN,ywO,ywN,ywO,yuT (by omega),yuT (by omega),yiV (h.small hw ha ha) (h.small hw ha hj),e1,yc3,asD]
theorem yPe (h:DV cs A) {P:List Rat} (hP:P.length=cs.length) {l2 l4 l5 l6 l7:List PV} {i9 i10:Int} {x0:List PV→List PV→List PV→List PV→List PV→List PV→List PV→List PV→Int→Int→Int→Int→Int→Bool→Prop} {x1:List PV→List PV→List PV→List PV→Int→Int→Bool→Prop} {a j n:Nat} (ha:a<cs.length) (hj:j<cs.length) :
 ya3 yan yad yaf yao yah x1 x0 (n+1) (cks cs) (rspL A) l2 (rts P) l4 l5 l6 l7 (a:Int) i9 i10 (cs.length:Int) (j:Int)=cbr (wr3 P a j) (x1 (cks cs) (rspL A) l2 (rts P) (a:Int) (j:Int) true) (ya3 yan yad yaf yao yah x1 x0 n (cks cs) (rspL A) l2 (rts P) l4 l5 l6 l7 (a:Int) i9 i10 (cs.length:Int) ((j+1:Nat):Int)):=by
 have h6:=h.d.n6;have h1:=h.d.n0;have hl:=h.l
 have e1:=wib (n:=(j:Int)+1) (by omega) (by omega)
 rw [ya3,cbT (by omega)]
 dsimp only [lt,Go.Pf.jn]
 unfold wr3
 rw [show ((j:Int) ==(0:Int))=decide (j=0) from yEj j 0,e1,yc3]
 by_cases hab:j=0
 ·rw [decide_eq_true hab,yam,asT (by omega),yk7,asT (by omega),qAe,yqe (by omega),asW,asT (by omega),yqe (by omega),asW,ywN,ywO,ywN,ywO,yO1,qA7]
 ·rw [decide_eq_false hab,yae,qBm]
theorem yPf (h:DV cs A) {l2 l3 l4 l5 l6 l7:List PV} {i9 i10:Int} {x0:List PV→List PV→List PV→List PV→List PV→List PV→List PV→List PV→Int→Int→Int→Int→Int→Bool→Prop} {x1:List PV→List PV→List PV→List PV→Int→Int→Bool→Prop} {a j n:Nat} (_:a<cs.length) (hj:j<cs.length) :
 ya4 yan yad yaf yao yah x1 x0 (n+1) (cks cs) (rspL A) l2 l3 l4 l5 l6 l7 (a:Int) i9 i10 (cs.length:Int) (j:Int)=cbr (wr4 A a j) (x1 (cks cs) (rspL A) l2 l3 (a:Int) (j:Int) true) (ya4 yan yad yaf yao yah x1 x0 n (cks cs) (rspL A) l2 l3 l4 l5 l6 l7 (a:Int) i9 i10 (cs.length:Int) ((j+1:Nat):Int)):=by
 have h6:=h.d.n6;have h1:=h.d.n0;have hl:=h.l
 have e1:=wib (n:=(j:Int)+1) (by omega) (by omega)
 rw [ya4,cbT (by omega)]
 dsimp only [lt,Go.Pf.jn]
 unfold wr4
 rw [yEj,e1,yc3]
 by_cases hab:a=j
 ·have hne:((((A.getD a []).length:Nat):Int) !=(1:Int))=decide ((A.getD a []).length≠1):=by
   rw [Bool.eq_iff_iff,bne_iff_ne,decide_eq_true_eq];omega
  rw [decide_eq_true hab,yam,asT (by omega),yfE,asT (by omega),qAe,yk9 (by omega),asD,datD,ycT,hne,qA7]
 ·rw [decide_eq_false hab,yae,qBm]
end
def onB (X:Nat→Prop) (Y:Prop):Option Nat→Prop
 | some j=>X j
 | none=>Y
def onA (X:Nat→Nat→Prop) (Y:Prop):Option (Nat×Nat)→Prop
 | some (a,b)=>X a b
 | none=>Y
theorem yqJ {f:Nat→Bool} {N:Nat} {L:Nat→Nat→Prop} {X:Nat→Prop} {Y:Prop} (hs:∀ n j,j<N→L (n+1) j=cbr (f j) (X j) (L n (j+1))) (he:∀ n,L (n+1) N=Y) :
  ∀ (r j n:Nat),j+r=N→r<n→L n j=onB X Y (yoC f r j)
 | 0,j,n+1,hj,_=>by
  obtain rfl:j=N:=by omega
  rw [he];rfl
 | r+1,j,n+1,hj,hn=>by
  rw [hs n j (by omega),yoC]
  cases f j with
  | true=>rw [yam];rfl
  | false=>rw [yae];exact yqJ hs he r (j+1) n (by omega) (by omega)
theorem ymH {f:Nat→Nat→Bool} {N:Nat} {L:Nat→Nat→Prop} {X:Nat→Nat→Prop} {Y:Prop} (hs:∀ n a,a<N→onB (X a) (L n (a+1)) (yoC (f a) N 0)→L (n+1) a) (he:∀ n,Y→L (n+1) N) :
  ∀ (r a n:Nat),a+r=N→r<n→onA X Y (yct f N r a)→L n a
 | 0,a,n+1,ha,_,h=>by
  obtain rfl:a=N:=by omega
  exact he n h
 | r+1,a,n+1,ha,hn,h=>by
  refine hs n a (by omega) ?_
  rw [yct] at h
  cases hb:yoC (f a) N 0 with
  | some j=>rw [hb] at h;exact h
  | none=>rw [hb] at h;exact ymH hs he r (a+1) n (by omega) (by omega) h
section
variable {cs:List Ck} {A:List (List RS)}
theorem yPg (h:DV cs A) {l2 l3:List PV} {x0:List PV→List PV→List PV→List PV→List PV→List PV→List PV→List PV→Int→Int→Bool→Prop} {x1:List PV→List PV→List PV→List PV→Int→Int→Bool→Prop} :
  ∀ (r a n:Nat),a+r=cs.length→r<n→onA (fun a b=>x1 (cks cs) (rspL A) l2 l3 (a:Int) (b:Int) true) (x0 (cks cs) (rspL A) l2 l3 (cks cs) (rspL A) l2 l3 (cs.length:Int) (cs.length:Int) false) (yct (wr0 A) cs.length r a)→ya5 yan yad yaf yao yah x0 x1 n (cks cs) (rspL A) l2 l3 (cks cs) (rspL A) l2 l3 (cs.length:Int) (a:Int):=by
 have h6:=h.d.n6
 refine ymH (L:=fun n a=>ya5 yan yad yaf yao yah x0 x1 n (cks cs) (rspL A) l2 l3 (cks cs) (rspL A) l2 l3 (cs.length:Int) (a:Int)) (fun n a ha hb=>?_) (fun n hy=>?_)
 ·have e1:=wib (n:=(a:Int)+1) (by omega) (by omega)
  show ya5 yan yad yaf yao yah x0 x1 (n+1) (cks cs) (rspL A) l2 l3 (cks cs) (rspL A) l2 l3 (cs.length:Int) (a:Int)
  rw [ya5,cbT (by omega),yaX]
  dsimp only [lt,Go.Pf.jn]
  refine ⟨cs.length+1,?_⟩
  refine (yqJ (f:=(wr0 A) a) (N:=cs.length) (L:=fun n j=>ya0 yan yad yaf yao yah _ _ n (cks cs) (rspL A) l2 l3 (cks cs) (rspL A) l2 l3 (a:Int) (cs.length:Int) (a:Int) (cs.length:Int) (j:Int)) (fun n j hj=>yPb h ha hj) (fun n=>?_) cs.length 0 (cs.length+1) (by omega) (by omega)).mpr hb
  show ya0 yan yad yaf yao yah _ _ (n+1) (cks cs) (rspL A) l2 l3 (cks cs) (rspL A) l2 l3 (a:Int) (cs.length:Int) (a:Int) (cs.length:Int) (cs.length:Int)=_
  rw [ya0,cbF (by omega),e1,yc3]
 ·show ya5 yan yad yaf yao yah x0 x1 (n+1) (cks cs) (rspL A) l2 l3 (cks cs) (rspL A) l2 l3 (cs.length:Int) (cs.length:Int)
  rw [ya5,cbF (by omega)]
  exact hy
theorem yPh (h:DV cs A) (hw:∀ c∈cs,∀ a∈A,small (wV c a)) {l3:List PV} {x0:List PV→List PV→List PV→List PV→List PV→List PV→List PV→List PV→Int→Int→Bool→Prop} {x1:List PV→List PV→List PV→List PV→Int→Int→Bool→Prop} :
  ∀ (r a n:Nat),a+r=cs.length→r<n→onA (fun a b=>x1 (cks cs) (rspL A) (tabW cs A) l3 (a:Int) (b:Int) true) (x0 (cks cs) (rspL A) (tabW cs A) l3 (cks cs) (rspL A) (tabW cs A) l3 (cs.length:Int) (cs.length:Int) false) (yct (wr1 cs A) cs.length r a)→ya6 yan yad yaf yao yah x1 x0 n (cks cs) (rspL A) (tabW cs A) l3 (cks cs) (rspL A) (tabW cs A) l3 (cs.length:Int) (a:Int):=by
 have h6:=h.d.n6
 refine ymH (L:=fun n a=>ya6 yan yad yaf yao yah x1 x0 n (cks cs) (rspL A) (tabW cs A) l3 (cks cs) (rspL A) (tabW cs A) l3 (cs.length:Int) (a:Int)) (fun n a ha hb=>?_) (fun n hy=>?_)
 ·have e1:=wib (n:=(a:Int)+1) (by omega) (by omega)
  show ya6 yan yad yaf yao yah x1 x0 (n+1) (cks cs) (rspL A) (tabW cs A) l3 (cks cs) (rspL A) (tabW cs A) l3 (cs.length:Int) (a:Int)
  rw [ya6,cbT (by omega),yaX]
  dsimp only [lt,Go.Pf.jn]
  refine ⟨cs.length+1,?_⟩
  refine (yqJ (f:=(wr1 cs A) a) (N:=cs.length) (L:=fun n j=>ya1 yan yad yaf yao yah _ _ n (cks cs) (rspL A) (tabW cs A) l3 (cks cs) (rspL A) (tabW cs A) l3 (a:Int) (cs.length:Int) (a:Int) (cs.length:Int) (j:Int)) (fun n j hj=>yPc h hw ha hj) (fun n=>?_) cs.length 0 (cs.length+1) (by omega) (by omega)).mpr hb
  show ya1 yan yad yaf yao yah _ _ (n+1) (cks cs) (rspL A) (tabW cs A) l3 (cks cs) (rspL A) (tabW cs A) l3 (a:Int) (cs.length:Int) (a:Int) (cs.length:Int) (cs.length:Int)=_
  rw [ya1,cbF (by omega),e1,yc3]
 ·show ya6 yan yad yaf yao yah x1 x0 (n+1) (cks cs) (rspL A) (tabW cs A) l3 (cks cs) (rspL A) (tabW cs A) l3 (cs.length:Int) (cs.length:Int)
  rw [ya6,cbF (by omega)]
  exact hy
theorem yPi (h:DV cs A) (hw:∀ c∈cs,∀ a∈A,small (wV c a)) {l3:List PV} {x0:List PV→List PV→List PV→List PV→List PV→List PV→List PV→List PV→Int→Int→Bool→Prop} {x1:List PV→List PV→List PV→List PV→Int→Int→Bool→Prop} :
  ∀ (r a n:Nat),a+r=cs.length→r<n→onA (fun a b=>x1 (cks cs) (rspL A) (tabW cs A) l3 (a:Int) (b:Int) true) (x0 (cks cs) (rspL A) (tabW cs A) l3 (cks cs) (rspL A) (tabW cs A) l3 (cs.length:Int) (cs.length:Int) false) (yct (wr2 cs A) cs.length r a)→ya7 yan yad yaf yao yah x1 x0 n (cks cs) (rspL A) (tabW cs A) l3 (cks cs) (rspL A) (tabW cs A) l3 (cs.length:Int) (a:Int):=by
 have h6:=h.d.n6
 refine ymH (L:=fun n a=>ya7 yan yad yaf yao yah x1 x0 n (cks cs) (rspL A) (tabW cs A) l3 (cks cs) (rspL A) (tabW cs A) l3 (cs.length:Int) (a:Int)) (fun n a ha hb=>?_) (fun n hy=>?_)
 ·have e1:=wib (n:=(a:Int)+1) (by omega) (by omega)
  show ya7 yan yad yaf yao yah x1 x0 (n+1) (cks cs) (rspL A) (tabW cs A) l3 (cks cs) (rspL A) (tabW cs A) l3 (cs.length:Int) (a:Int)
  rw [ya7,cbT (by omega),yaX]
  dsimp only [lt,Go.Pf.jn]
  refine ⟨cs.length+1,?_⟩
  refine (yqJ (f:=(wr2 cs A) a) (N:=cs.length) (L:=fun n j=>ya2 yan yad yaf yao yah _ _ n (cks cs) (rspL A) (tabW cs A) l3 (cks cs) (rspL A) (tabW cs A) l3 (a:Int) (cs.length:Int) (a:Int) (cs.length:Int) (j:Int)) (fun n j hj=>yPd h hw ha hj) (fun n=>?_) cs.length 0 (cs.length+1) (by omega) (by omega)).mpr hb
  show ya2 yan yad yaf yao yah _ _ (n+1) (cks cs) (rspL A) (tabW cs A) l3 (cks cs) (rspL A) (tabW cs A) l3 (a:Int) (cs.length:Int) (a:Int) (cs.length:Int) (cs.length:Int)=_
  rw [ya2,cbF (by omega),e1,yc3]
 ·show ya7 yan yad yaf yao yah x1 x0 (n+1) (cks cs) (rspL A) (tabW cs A) l3 (cks cs) (rspL A) (tabW cs A) l3 (cs.length:Int) (cs.length:Int)
  rw [ya7,cbF (by omega)]
  exact hy
theorem yPj (h:DV cs A) {P:List Rat} (hP:P.length=cs.length) {l2:List PV} {x0:List PV→List PV→List PV→List PV→List PV→List PV→List PV→List PV→Int→Int→Bool→Prop} {x1:List PV→List PV→List PV→List PV→Int→Int→Bool→Prop} :
  ∀ (r a n:Nat),a+r=cs.length→r<n→onA (fun a b=>x1 (cks cs) (rspL A) l2 (rts P) (a:Int) (b:Int) true) (x0 (cks cs) (rspL A) l2 (rts P) (cks cs) (rspL A) l2 (rts P) (cs.length:Int) (cs.length:Int) false) (yct (wr3 P) cs.length r a)→ya8 yan yad yaf yao yah x1 x0 n (cks cs) (rspL A) l2 (rts P) (cks cs) (rspL A) l2 (rts P) (cs.length:Int) (a:Int):=by
 have h6:=h.d.n6
 refine ymH (L:=fun n a=>ya8 yan yad yaf yao yah x1 x0 n (cks cs) (rspL A) l2 (rts P) (cks cs) (rspL A) l2 (rts P) (cs.length:Int) (a:Int)) (fun n a ha hb=>?_) (fun n hy=>?_)
 ·have e1:=wib (n:=(a:Int)+1) (by omega) (by omega)
  show ya8 yan yad yaf yao yah x1 x0 (n+1) (cks cs) (rspL A) l2 (rts P) (cks cs) (rspL A) l2 (rts P) (cs.length:Int) (a:Int)
  rw [ya8,cbT (by omega),yaX]
  dsimp only [lt,Go.Pf.jn]
  refine ⟨cs.length+1,?_⟩
  refine (yqJ (f:=(wr3 P) a) (N:=cs.length) (L:=fun n j=>ya3 yan yad yaf yao yah _ _ n (cks cs) (rspL A) l2 (rts P) (cks cs) (rspL A) l2 (rts P) (a:Int) (cs.length:Int) (a:Int) (cs.length:Int) (j:Int)) (fun n j hj=>yPe h hP ha hj) (fun n=>?_) cs.length 0 (cs.length+1) (by omega) (by omega)).mpr hb
  show ya3 yan yad yaf yao yah _ _ (n+1) (cks cs) (rspL A) l2 (rts P) (cks cs) (rspL A) l2 (rts P) (a:Int) (cs.length:Int) (a:Int) (cs.length:Int) (cs.length:Int)=_
  rw [ya3,cbF (by omega),e1,yc3]
 ·show ya8 yan yad yaf yao yah x1 x0 (n+1) (cks cs) (rspL A) l2 (rts P) (cks cs) (rspL A) l2 (rts P) (cs.length:Int) (cs.length:Int)
  rw [ya8,cbF (by omega)]
  exact hy
theorem yPk (h:DV cs A) {l2 l3:List PV} {x0:List PV→List PV→List PV→List PV→List PV→List PV→List PV→List PV→Int→Int→Bool→Prop} {x1:List PV→List PV→List PV→List PV→Int→Int→Bool→Prop} :
  ∀ (r a n:Nat),a+r=cs.length→r<n→onA (fun a b=>x1 (cks cs) (rspL A) l2 l3 (a:Int) (b:Int) true) (x0 (cks cs) (rspL A) l2 l3 (cks cs) (rspL A) l2 l3 (cs.length:Int) (cs.length:Int) false) (yct (wr4 A) cs.length r a)→ya9 yan yad yaf yao yah x1 x0 n (cks cs) (rspL A) l2 l3 (cks cs) (rspL A) l2 l3 (cs.length:Int) (a:Int):=by
 have h6:=h.d.n6
 refine ymH (L:=fun n a=>ya9 yan yad yaf yao yah x1 x0 n (cks cs) (rspL A) l2 l3 (cks cs) (rspL A) l2 l3 (cs.length:Int) (a:Int)) (fun n a ha hb=>?_) (fun n hy=>?_)
 ·have e1:=wib (n:=(a:Int)+1) (by omega) (by omega)
  show ya9 yan yad yaf yao yah x1 x0 (n+1) (cks cs) (rspL A) l2 l3 (cks cs) (rspL A) l2 l3 (cs.length:Int) (a:Int)
  rw [ya9,cbT (by omega),yaX]
  dsimp only [lt,Go.Pf.jn]
  refine ⟨cs.length+1,?_⟩
  refine (yqJ (f:=(wr4 A) a) (N:=cs.length) (L:=fun n j=>ya4 yan yad yaf yao yah _ _ n (cks cs) (rspL A) l2 l3 (cks cs) (rspL A) l2 l3 (a:Int) (cs.length:Int) (a:Int) (cs.length:Int) (j:Int)) (fun n j hj=>yPf h ha hj) (fun n=>?_) cs.length 0 (cs.length+1) (by omega) (by omega)).mpr hb
  show ya4 yan yad yaf yao yah _ _ (n+1) (cks cs) (rspL A) l2 l3 (cks cs) (rspL A) l2 l3 (a:Int) (cs.length:Int) (a:Int) (cs.length:Int) (cs.length:Int)=_
  rw [ya4,cbF (by omega),e1,yc3]
 ·show ya9 yan yad yaf yao yah x1 x0 (n+1) (cks cs) (rspL A) l2 l3 (cks cs) (rspL A) l2 l3 (cs.length:Int) (cs.length:Int)
  rw [ya9,cbF (by omega)]
  exact hy
end
def yhK:Option (Nat×Nat)→Int×Int×Bool
 | some (a,b)=>(a,b,true)
 | none=>(0,0,false)
def brk (cs:List Ck) (A:List (List RS)) (P:List Rat) (g:Bool) (c:Int):Int×Int×Bool :=
 if c=1 then (match yct (wr0 A) cs.length cs.length 0 with
  | some (a,b)=>(a,b,true)
  | none=>if g then (-1,-1,true) else (0,0,false))
 else if c=2 then yhK (yct (wr1 cs A) cs.length cs.length 0)
 else if c=4 then yhK (yct (wr2 cs A) cs.length cs.length 0)
 else if c=8 then yhK (yct (wr3 P) cs.length cs.length 0)
 else yhK (yct (wr4 A) cs.length cs.length 0)
theorem yCq {cs:List Ck} {A:List (List RS)} (h:DV cs A) (hw:∀ c∈cs,∀ a∈A,small (wV c a)) {P:List Rat} {c:Int} (hP:c=8→P.length=cs.length) (hc:c=1∨c=2∨c=4∨c=8∨c=16) {g:Bool}
  (hg:∀ K,yad (cks cs) (rspL A) (tabW cs A) (rts P) K=K g) (K:Int→Int→Bool→Prop) :
  yat (cks cs) (rspL A) (tabW cs A) (rts P) c K=K (brk cs A P g c).1 (brk cs A P g c).2.1 (brk cs A P g c).2.2:=by
 refine yn2 _ _ _ _ _ _ _ _ (fun K k=>?_) K
 unfold yat yfO
 dsimp only [Go.Pf.jn]
 rcases hc with rfl | rfl | rfl | rfl | rfl
 ·show cbr true _ _
  rw [yam]
  refine ⟨cs.length+1,?_⟩
  rw [yaX]
  refine yPg h cs.length 0 (cs.length+1) (by omega) (by omega) ?_
  have k:K (match yct (wr0 A) cs.length cs.length 0 with | some (a,b)=>((a:Int),(b:Int),true) | none=>if g then (-1,-1,true) else (0,0,false)).1 (match yct (wr0 A) cs.length cs.length 0 with | some (a,b)=>((a:Int),(b:Int),true) | none=>if g then (-1,-1,true) else (0,0,false)).2.1 (match yct (wr0 A) cs.length cs.length 0 with | some (a,b)=>((a:Int),(b:Int),true) | none=>if g then (-1,-1,true) else (0,0,false)).2.2:=k
  cases hs:yct (wr0 A) cs.length cs.length 0 with
  | some q =>
   rw [hs] at k
   exact k
  | none =>
   rw [hs] at k
   dsimp only [onA,qBt]
   rw [show (!false)=true from rfl,yam,hg]
   cases g with
   | true=>exact k
   | false=>exact k
 ·show cbr false _ (cbr true _ _)
  rw [yae,yam]
  refine ⟨cs.length+1,?_⟩
  rw [yaX]
  refine yPh h hw cs.length 0 (cs.length+1) (by omega) (by omega) ?_
  have k:K (yhK (yct (wr1 cs A) cs.length cs.length 0)).1 (yhK (yct (wr1 cs A) cs.length cs.length 0)).2.1 (yhK (yct (wr1 cs A) cs.length cs.length 0)).2.2:=k
  cases hs:yct (wr1 cs A) cs.length cs.length 0 <;> (rw [hs] at k;exact k)
 ·show cbr false _ (cbr false _ (cbr true _ _))
  rw [yae,yae,yam]
  refine ⟨cs.length+1,?_⟩
  rw [yaX]
  refine yPi h hw cs.length 0 (cs.length+1) (by omega) (by omega) ?_
  have k:K (yhK (yct (wr2 cs A) cs.length cs.length 0)).1 (yhK (yct (wr2 cs A) cs.length cs.length 0)).2.1 (yhK (yct (wr2 cs A) cs.length cs.length 0)).2.2:=k
  cases hs:yct (wr2 cs A) cs.length cs.length 0 <;> (rw [hs] at k;exact k)
 ·show cbr false _ (cbr false _ (cbr false _ (cbr true _ _)))
  rw [yae,yae,yae,yam]
  refine ⟨cs.length+1,?_⟩
  rw [yaX]
  refine yPj h (hP rfl) cs.length 0 (cs.length+1) (by omega) (by omega) ?_
  have k:K (yhK (yct (wr3 P) cs.length cs.length 0)).1 (yhK (yct (wr3 P) cs.length cs.length 0)).2.1 (yhK (yct (wr3 P) cs.length cs.length 0)).2.2:=k
  cases hs:yct (wr3 P) cs.length cs.length 0 <;> (rw [hs] at k;exact k)
 ·show cbr false _ (cbr false _ (cbr false _ (cbr false _ _)))
  rw [yae,yae,yae,yae]
  refine ⟨cs.length+1,?_⟩
  rw [yaX]
  refine yPk h cs.length 0 (cs.length+1) (by omega) (by omega) ?_
  have k:K (yhK (yct (wr4 A) cs.length cs.length 0)).1 (yhK (yct (wr4 A) cs.length cs.length 0)).2.1 (yhK (yct (wr4 A) cs.length cs.length 0)).2.2:=k
  cases hs:yct (wr4 A) cs.length cs.length 0 <;> (rw [hs] at k;exact k)
def prt (cs:List Ck) (A:List (List RS)) (i:Nat):Rat:=wV (cs.getD i default) (A.getD i []) / ((totC (cs.getD i default).cuts (cs.getD i default).dens:Int):Rat)
def prtL (cs:List Ck) (A:List (List RS)) (n:Nat):List Rat:=(List.range n).map (prt cs A)
theorem yGd (cs:List Ck) (A:List (List RS)) (n:Nat):(prtL cs A n).length=n:=by unfold prtL;rw [qAq,qBz]
theorem yKf (cs:List Ck) (A:List (List RS)) (n:Nat):prtL cs A (n+1)=prtL cs A n++[prt cs A n]:=by unfold prtL;rw [List.range_succ,List.map_append];rfl
def prtK (cs:List Ck) (A:List (List RS)) (X Y:Prop):Nat→Nat→Prop
 | 0,_=>X
 | r+1,i=>if small (prt cs A i) then prtK cs A X Y r (i+1) else Y
section
variable {cs:List Ck} {A:List (List RS)}
theorem DV.total (h:DV cs A) {i:Nat} (hi:i<cs.length) (K:Int→Int→Prop):yaf (cs.getD i default).len (ints (cs.getD i default).cuts) (ints (cs.getD i default).dens) K=K (totC (cs.getD i default).cuts (cs.getD i default).dens) 0:=by
 have hok:=h.d.ok i hi
 have l1:=hok.l1;have l2:=hok.l2
 rw [ywc (by omega) (by omega),if_pos hok.ck]
theorem DV.div (h:DV cs A) (hw:∀ c∈cs,∀ a∈A,Go.Pf.Vc.small (wV c a)) {i:Nat} (hi:i<cs.length) (K:Int→Int→Int→Prop):yaJ (wV (cs.getD i default) (A.getD i [])).num (wV (cs.getD i default) (A.getD i [])).den ((totC (cs.getD i default).cuts (cs.getD i default).dens:Int):Rat).num ((totC (cs.getD i default).cuts (cs.getD i default).dens:Int):Rat).den K=fitK (prt cs A i) K:=by
 have hok:=h.d.ok i hi
 have tb:=ygc hok
 have tp:=yz2 hok
 have hs:Go.Pf.Vc.small ((totC (cs.getD i default).cuts (cs.getD i default).dens:Int):Rat):=yfa (by omega)
 have h0:((totC (cs.getD i default).cuts (cs.getD i default).dens:Int):Rat)≠0:=fun e=>by
  have:(((totC (cs.getD i default).cuts (cs.getD i default).dens:Int):Rat))=((0:Int):Rat):=e
  have:=Rat.intCast_inj.1 this
  omega
 exact yIO (h.small hw hi hi) hs h0 K
theorem yoD (h:DV cs A) (hw:∀ c∈cs,∀ a∈A,small (wV c a)) (x2:List PV→List PV→List PV→List PV→Int→Int→Bool→Prop) (x3:List PV→List PV→List PV→List PV→Int→Prop) {YY:Prop} (hY:∀ L,x3 L (cks cs) (rspL A) (tabW cs A) 16=YY) :
  ∀ (r i n:Nat),i+r=cs.length→r<n→yd6 yaF yaf yaA yaJ yat x2 x3 n (rts (prtL cs A i)) (cks cs) (rspL A) (tabW cs A) (cs.length:Int) (i:Int)=prtK cs A (x2 (rts (prtL cs A cs.length)) (cks cs) (rspL A) (tabW cs A) (cs.length:Int) (cs.length:Int) false) YY r i
 | 0,i,n+1,hi,hn=>by
  obtain rfl:i=cs.length:=by omega
  rw [yd6,cbF (by omega)]
  rfl
 | r+1,i,n+1,hi,hn=>by
  have h6:=h.d.n6;have hl:=h.l
  have hi':i<cs.length:=by omega
  have e1:=wib (n:=(i:Int)+1) (by omega) (by omega)
  have ih:=yoD h hw x2 x3 hY r (i+1) n (by omega) (by omega)
  rw [yd6]
  dsimp only [lt,Go.Pf.jn]
  rw [cbT (by omega),asT (by omega),yaX,asT (by omega),qAe,yfb hi',asCk,ck0,ck1,ck2,h.total hi',asT (by omega),ymG,asT (by omega),yuS hi',asD,asT (by omega),datD,yk7,qAq,asT (by omega),yqe (by rw [qAq];omega),asW,ywN,ywO,yuT (by omega),yjL,h.div hw hi']
  unfold prtK fitK
  by_cases hs:small (prt cs A i)
  ·rw [if_pos hs,if_pos hs]
   show cbr false _ _=_
   rw [yae,asT rfl,yk7,yGd]
   simp only [qAt,qAk,decide_true,yau]
   rw [show (!decide (i+1≤i))=true by rw [decide_eq_false (by omega)];rfl,yau,asT (by unfold room;omega),show (true&&true)=true from rfl,yau,e1,yc3,yNe,yNf,← yKf]
   exact ih
  ·rw [if_neg hs,if_neg hs]
   show cbr true _ _=_
   rw [yam,hY]
theorem ywh (h:DV cs A) (hw:∀ c∈cs,∀ a∈A,small (wV c a)) (x0:List PV→List PV→List PV→Int→Int→Bool→Prop) (x1:List PV→List PV→List PV→Int→Prop) (x2:List PV→List PV→List PV→List PV→Int→Int→Bool→Prop) (x3:List PV→List PV→List PV→List PV→Int→Prop) {YY:Prop} (hY1:x1 (cks cs) (rspL A) (tabW cs A) 16=YY) (hY:∀ L,x3 L (cks cs) (rspL A) (tabW cs A) 16=YY) :
 ygo yaF yaf yaA yaJ yat x0 x1 x2 x3 (cs.length+1) (cks cs) (rspL A) (tabW cs A) (cs.length:Int) 0=prtK cs A (x2 (rts (prtL cs A cs.length)) (cks cs) (rspL A) (tabW cs A) (cs.length:Int) (cs.length:Int) false) YY cs.length 0:=by
 have h6:=h.d.n6;have h1:=h.d.n0;have hl:=h.l
 have hi':0<cs.length:=by omega
 have e1:=wib (n:=(0:Int)+1) (by omega) (by omega)
 obtain ⟨r,hr⟩:∃ r,cs.length=r+1:=⟨cs.length-1,by omega⟩
 have ih:=yoD h hw x2 x3 hY r 1 cs.length (by omega) (by omega)
 rw [ygo]
 dsimp only [lt,Go.Pf.jn]
 rw [cbT (by omega),asT (by omega),yaX,asT (by omega),show (0:Int).toNat=0 from rfl,yfb hi',asCk,ck0,ck1,ck2,h.total hi',asT (by omega),ymG,asT (by omega),yuS hi',asD,asT (by omega),datD,yk7,qAq,asT (by omega),yqe (by rw [qAq];omega),asW,ywN,ywO,yuT (by omega),yjL,h.div hw hi']
 have eK:∀ X:Prop,prtK cs A X YY cs.length 0=if small (prt cs A 0) then prtK cs A X YY r 1 else YY:=fun X=>by rw [hr];rfl
 rw [eK]
 unfold fitK
 by_cases hs:small (prt cs A 0)
 ·rw [if_pos hs,if_pos hs]
  show cbr false _ _=_
  rw [yae,e1]
  exact ih
 ·rw [if_neg hs,if_neg hs]
  show cbr true _ _=_
  rw [yam,hY1]
end
def orU8 (a b:Int):Int:=IntKind.u8.wrap (BitVec.ofInt IntKind.u8.bits a|||BitVec.ofInt IntKind.u8.bits b).toNat
def bitC:Nat→Int
 | 0=>1
 | 1=>2
 | 2=>4
 | 3=>8
 | _=>16
def addC (cs:List Ck) (A:List (List RS)) (P:List Rat) (g:Bool) (acc:Int) (i:Nat):Int:=if (brk cs A P g (bitC i)).2.2 then acc else orU8 acc (bitC i)
theorem yI8 {i:Nat} (h:i<5):IntKind.u8.wrap ((1:Int)*2 ^ (min ((i:Int)).toNat IntKind.u8.bits))=bitC i:=by
 obtain rfl | rfl | rfl | rfl | rfl:i=0∨i=1∨i=2∨i=3∨i=4:=by omega
 all_goals decide
theorem yLY (i:Nat):bitC i=1∨bitC i=2∨bitC i=4∨bitC i=8∨bitC i=16:=by
 unfold bitC
 split <;> simp
section
variable {cs:List Ck} {A:List (List RS)}
theorem yKg (h:DV cs A) (hw:∀ c∈cs,∀ a∈A,small (wV c a)) {P:List Rat} (hP:P.length=cs.length) {g:Bool} (hg:∀ K,yad (cks cs) (rspL A) (tabW cs A) (rts P) K=K g) (x1:List PV→List PV→List PV→List PV→Int→Int→List PV→Int→Bool→Prop) {n i:Nat} (hi:i<5) (e acc:Int) (l8:List PV) :
  ydf yaF yaf yaA yaJ yat x1 (n+1) (rts P) (cks cs) (rspL A) (tabW cs A) e acc l8 (i:Int)=ydf yaF yaf yaA yaJ yat x1 n (rts P) (cks cs) (rspL A) (tabW cs A) e (addC cs A P g acc i) l8 ((i+1:Nat):Int):=by
 have e1:=wib (n:=(i:Int)+1) (by omega) (by omega)
 have hn:(!decide ((i:Int)<0))=true:=by rw [decide_eq_false (by omega)];rfl
 rw [ydf]
 dsimp only [lt,Go.Pf.jn]
 rw [cbT (by omega),hn,yau,yI8 hi,asT rfl,asT (by omega),List.take_length,yCq h hw (fun _=>hP) (yLY i) hg,e1,yc3]
 unfold addC
 cases (brk cs A P g (bitC i)).2.2 with
 | true =>
  show cbr false _ _=_
  rw [yae,show (decide ((rts P).length=(rts P).length)&&decide ((rts P).length=(rts P).length))=true by simp,yau]
  rfl
 | false =>
  show cbr true _ _=_
  rw [yam,yau,show (decide ((rts P).length=(rts P).length)&&decide ((rts P).length=(rts P).length))=true by simp,yau]
  rfl
def yI9 (cs:List Ck) (A:List (List RS)) (P:List Rat) (g:Bool):Int:=addC cs A P g (addC cs A P g (addC cs A P g (addC cs A P g (addC cs A P g 0 0) 1) 2) 3) 4
theorem yz9 {X Y:Prop}:∀ (r i:Nat),((∀ j,i≤j→j<i+r→small (prt cs A j))∧prtK cs A X Y r i=X)∨(¬(∀ j,i≤j→j<i+r→small (prt cs A j))∧prtK cs A X Y r i=Y)
 | 0,i=>.inl ⟨fun j h1 h2=>by omega,rfl⟩
 | r+1,i=>by
  rw [prtK]
  by_cases hs:small (prt cs A i)
  ·rw [if_pos hs]
   rcases yz9 (X:=X) (Y:=Y) r (i+1) with ⟨h1,h2⟩ | ⟨h1,h2⟩
   ·refine .inl ⟨fun j k1 k2=>?_,h2⟩
    by_cases hj:j=i
    ·subst hj;exact hs
    ·exact h1 j (by omega) (by omega)
   ·exact .inr ⟨fun hh=>h1 fun j k1 k2=>hh j (by omega) (by omega),h2⟩
  ·rw [if_neg hs]
   exact .inr ⟨fun hh=>hs (hh i (by omega) (by omega)),rfl⟩
def Gap (cs:List Ck) (A:List (List RS)):Prop:=∃ p:Rat,0≤p∧p<((cs.getD 0 default).len:Rat)∧¬∃ a∈A,memP a p
open Classical in
noncomputable def gapD (cs:List Ck) (A:List (List RS)):Bool:=decide (Gap cs A)
theorem yGe:gapD cs A=true↔Gap cs A:=by unfold gapD;exact @decide_eq_true_iff _ (Classical.propDecidable _)
theorem DV.gapD_eq (h:DV cs A) (W PT:List PV) (K:Bool→Prop):yad (cks cs) (rspL A) W PT K=K (gapD cs A):=by
 obtain ⟨l,hp,hb,e⟩:=h.gap W PT
 rw [e]
 congr 1
 rw [Bool.eq_iff_iff,yGe,yF9 l 0 hb (fun s hs=>h.flatV s (hp.mem_iff.1 hs)) (fun s hs=>by
  obtain ⟨a,ha,hs⟩:=List.mem_flatten.1 (hp.mem_iff.1 hs)
  exact (h.wi a ha s hs).2)]
 have hm:∀ p,memP l p↔∃ a∈A,memP a p:=fun p=>by
  constructor
  ·rintro ⟨s,hs,k⟩
   obtain ⟨a,ha,hs⟩:=List.mem_flatten.1 (hp.mem_iff.1 hs)
   exact ⟨a,ha,s,hs,k⟩
  ·rintro ⟨a,ha,s,hs,k⟩
   exact ⟨s,hp.mem_iff.2 (List.mem_flatten.2 ⟨a,ha,hs⟩),k⟩
 unfold Gap
 constructor
 ·rintro ⟨p,h1,h2,h3⟩
  exact ⟨p,h1,h2,fun k=>h3 ((hm p).2 k)⟩
 ·rintro ⟨p,h1,h2,h3⟩
  exact ⟨p,h1,h2,fun k=>h3 ((hm p).1 k)⟩
end
theorem yAa {f:Nat→Bool}:∀ {r i:Nat},yoC f r i=none↔∀ j,i≤j→j<i+r→f j=false
 | 0,i=>⟨fun _ j h1 h2=>by omega,fun _=>rfl⟩
 | r+1,i=>by
  rw [yoC]
  cases hf:f i with
  | true=>exact ⟨fun h=>by simp at h,fun h=>by have:=h i (by omega) (by omega);rw [hf] at this;cases this⟩
  | false =>
   show yoC f r (i+1)=none↔_
   rw [yAa]
   constructor
   ·intro h j h1 h2
    by_cases hj:j=i
    ·subst hj;exact hf
    ·exact h j (by omega) (by omega)
   ·exact fun h j h1 h2=>h j (by omega) (by omega)
theorem yAb {f:Nat→Bool}:∀ {r i j:Nat},yoC f r i=some j→i≤j∧j<i+r∧f j=true
 | 0,i,j,h=>by cases h
 | r+1,i,j,h=>by
  rw [yoC] at h
  cases hf:f i with
  | true =>
   rw [hf] at h
   have h:some i=some j:=h
   cases h
   exact ⟨by omega,by omega,hf⟩
  | false =>
   rw [hf] at h
   obtain ⟨h1,h2,h3⟩:=yAb (r:=r) (i:=i+1) h
   exact ⟨by omega,by omega,h3⟩
theorem yn7 {f:Nat→Nat→Bool} {n:Nat}:∀ {r i:Nat},yct f n r i=none↔∀ a,i≤a→a<i+r→∀ b,b<n→f a b=false
 | 0,i=>⟨fun _ a h1 h2=>by omega,fun _=>rfl⟩
 | r+1,i=>by
  rw [yct]
  cases hb:yoC (f i) n 0 with
  | some j =>
   obtain ⟨_,h2,h3⟩:=yAb hb
   exact ⟨fun h=>by simp at h,fun h=>by have:=h i (by omega) (by omega) j (by omega);rw [h3] at this;cases this⟩
  | none =>
   show yct f n r (i+1)=none↔_
   rw [yn7]
   constructor
   ·intro h a h1 h2 b h3
    by_cases ha:a=i
    ·subst ha;exact yAa.1 hb b (by omega) (by omega)
    ·exact h a (by omega) (by omega) b h3
   ·exact fun h a h1 h2 b h3=>h a (by omega) (by omega) b h3
def yLZ (a b:Int):Int:=IntKind.u8.wrap (BitVec.ofInt IntKind.u8.bits a&&&BitVec.ofInt IntKind.u8.bits b).toNat
def InA (D:Int) (A:List (List RS)):Prop:=∀ a∈A,∀ s∈a,In D s.1∧In D s.2
section
variable {len:Int} {cuts dens:List Int}
theorem yGf (h:VC len cuts dens) {s:RS} (hv:s.1<s.2) (hw:0≤s.1∧s.2≤(len:Rat)):0≤dV (vX cuts dens) s∧dV (vX cuts dens) s≤12000:=by
 have a:=yjB h hw.1
 have b:=yjB h hw.2
 have c:=yjB h (qBj hv)
 have t:=yHY h
 have tb:=qAv.2 (ygc h).2
 have tb:((totC cuts dens:Int):Rat)≤12000:=tb
 show 0≤vX cuts dens s.2-vX cuts dens s.1∧vX cuts dens s.2-vX cuts dens s.1≤12000
 grind
theorem yNU {D:Int} (hD:1≤D) {s:RS} (hi:In D s.1∧In D s.2):In D (dV (vX cuts dens) s):=(yNS hD hi.2).sub (yNS hD hi.1)
theorem yGg (h:VC len cuts dens) {D:Int} (hD:1≤D∧D≤1000000000000) {s:RS} (hs:yfx s) (hv:s.1<s.2) (hw:0≤s.1∧s.2≤(len:Rat)) (hi:In D s.1∧In D s.2) (K:Int→Int→Int→Prop) :
  ybt len (ints cuts) (ints dens) s.1.num s.1.den s.2.num s.2.den K=K (dV (vX cuts dens) s).num (dV (vX cuts dens) s).den 0:=by
 have l1:=h.l1;have l2:=h.l2
 rw [ywd (by omega) (by omega) hs.1.i1 hs.1.i2 hs.2.i1 hs.2.i2]
 unfold valR
 rw [if_pos h.ck,if_pos ⟨yzY hs.1 hw.1 (by grind),yzY hs.2 (by grind) hw.2,by rw [yeP,yeP];grind⟩,yeP,yeP,yCm h ⟨hD.1,by omega⟩ hi.1 hi.2 hw.1 (qBj hv) hw.2]
 rfl
theorem yoE (h:VC len cuts dens) {D:Int} (hD:1≤D∧D≤1000000000000) {l:List RS} (hs:∀ s∈l,yfx s) (hv:∀ s∈l,s.1<s.2) (hw:Wi len l) (hi:∀ s∈l,In D s.1∧In D s.2) (hl:l.length≤60) (z z':Int) (K:Int→Int→Int→Prop) :
  ∀ (r i n:Nat) (q:Rat),i+r=l.length→r<n→In D q→0≤q→q≤12000*((i:Int):Rat) →
   small (q+sumV (dV (vX cuts dens)) (l.drop i))∧ybR yaC yaW ybd ybt yaU (fun _ _ _ _ _ a b _ _ _ _=>K a b 0) (fun _ _ _ a b e=>K a b e) n len (ints cuts) (ints dens) z z' q.num q.den (rsp l) (l.length:Int) (i:Int)=K (q+sumV (dV (vX cuts dens)) (l.drop i)).num (q+sumV (dV (vX cuts dens)) (l.drop i)).den 0
 | 0,i,n+1,q,hir,hn,hq,q0,q1=>by
  obtain rfl:i=l.length:=by omega
  rw [List.drop_length]
  have e:q+sumV (dV (vX cuts dens)) []=q:=Rat.add_zero q
  have hb:((l.length:Int):Rat)≤60:=qAv.2 (show (l.length:Int)≤60 by omega)
  rw [e]
  refine ⟨hq.small (M:=720000) ⟨by omega,by omega⟩ (by omega) (by show -(720000:Rat)≤_;grind) (by show _≤(720000:Rat);grind),?_⟩
  rw [ybR,cbF (by omega)]
 | r+1,i,n+1,q,hir,hn,hq,q0,q1=>by
  have hil:i<l.length:=by omega
  have e1:=wib (n:=(i:Int)+1) (by omega) (by omega)
  have hd:l.drop i=l.getD i default::l.drop (i+1):=ydh default hil
  have hm:l.getD i default∈l:=ycd default hil
  have hx:=hs _ hm
  have hx2:=hv _ hm
  have hx3:=hw _ hm
  have hx4:=hi _ hm
  rw [hd]
  have b1:=yGf h hx2 hx3
  have b2:=yNU (cuts:=cuts) (dens:=dens) hD.1 hx4
  have hc:((i+1:Nat):Int)=(i:Int)+1:=by omega
  have hc2:(((i+1:Nat):Int):Rat)=((i:Int):Rat)+1:=by rw [hc,Rat.intCast_add];rfl
  have hb:((i:Int):Rat)≤60:=qAv.2 (show (i:Int)≤60 by omega)
  have hv1:=yGg h hD hx hx2 hx3 hx4
  have es:q+sumV (dV (vX cuts dens)) (l.getD i default::l.drop (i+1))=(q+dV (vX cuts dens) (l.getD i default))+sumV (dV (vX cuts dens)) (l.drop (i+1)):=by
   show q+(dV (vX cuts dens) (l.getD i default)+sumV (dV (vX cuts dens)) (l.drop (i+1)))=_
   grind
  have step:ybR yaC yaW ybd ybt yaU (fun _ _ _ _ _ a b _ _ _ _=>K a b 0) (fun _ _ _ a b e=>K a b e) (n+1) len (ints cuts) (ints dens) z z' q.num q.den (rsp l) (l.length:Int) (i:Int) =
    ybt len (ints cuts) (ints dens) (l.getD i default).1.num (l.getD i default).1.den (l.getD i default).2.num (l.getD i default).2.den (fun a b e=>cbr (e != 0) (K 0 0 e) (yaU q.num q.den a b (fun a b e=>cbr (e != 0) (K 0 0 e) (ybR yaC yaW ybd ybt yaU (fun _ _ _ _ _ a b _ _ _ _=>K a b 0) (fun _ _ _ a b e=>K a b e) n len (ints cuts) (ints dens) z z' a b (rsp l) (l.length:Int) ((i+1:Nat):Int))))):=by
   rw [ybR,cbT (by omega)]
   dsimp only [lt]
   rw [ycT,asT (by omega),asT (by omega),qAe,yqd hil,asR,yCi,yI1,yCj,yCk,e1,yc3]
  rw [es,step,hv1,nz]
  generalize dV (vX cuts dens) (l.getD i default)=v at b1 b2
  have sq:small q:=hq.small (M:=720000) ⟨by omega,by omega⟩ (by omega) (by show -(720000:Rat)≤_;grind) (by show _≤(720000:Rat);grind)
  have sv:small v:=b2.small (M:=720000) ⟨by omega,by omega⟩ (by omega) (by show -(720000:Rat)≤_;grind) (by show _≤(720000:Rat);grind)
  have hb2:((i:Int):Rat)≤59:=qAv.2 (show (i:Int)≤59 by omega)
  have ss:small (q+v):=(hq.add b2).small (M:=720000) ⟨by omega,by omega⟩ (by omega) (by show -(720000:Rat)≤_;grind) (by show _≤(720000:Rat);grind)
  have ih:=yoE h hD hs hv hw hi hl z z' K r (i+1) n (q+v) (by omega) (by omega) (hq.add b2) (by grind) (by rw [hc2];grind)
  refine ⟨ih.1,?_⟩
  rw [yxW sq sv]
  unfold fitK
  rw [if_pos ss]
  dsimp only
  rw [nz]
  exact ih.2
theorem Pc.Worth_good {l:List RS} (p:Pc l) (h:VC len cuts dens) (hw:Wi len l) {D:Int} (hD:1≤D∧D≤1000000000000) (hi:∀ s∈l,In D s.1∧In D s.2) :
  small (sumV (dV (vX cuts dens)) l)∧∀ K,ybN len (ints cuts) (ints dens) (rsp l) K=K (sumV (dV (vX cuts dens)) l).num (sumV (dV (vX cuts dens)) l).den 0:=by
 have l1:=h.l1;have l2:=h.l2;have l0:=h.len0;have hn:=p.n
 have g:=fun K=>yoE h hD p.s (ymF p.c) hw hi (by omega) 0 0 K l.length 0 (l.length+1) 0 (by omega) (by omega) (In.int hD.1 0) qBu (by show (0:Rat)≤12000*0;grind)
 have g0:=(g fun _ _ _=>True).1
 rw [qBd,Rat.zero_add] at g0
 refine ⟨g0,fun K=>yxe _ _ _ _ _ _ _ (fun K k=>?_) K⟩
 have hl:=(g K).2
 rw [qBd,Rat.zero_add] at hl
 unfold ybN ykk
 rw [yjI (by omega) (by omega),h.ck,nz,p.check,nz]
 dsimp only [Go.Pf.jn,lt]
 rw [ycT]
 have fin:∃ n,ybR yaC yaW ybd ybt yaU (fun _ _ _ _ _ a b _ _ _ _=>K a b 0) (fun _ _ _ a b e=>K a b e) n len (ints cuts) (ints dens) 0 0 0 1 (rsp l) (l.length:Int) 0:=⟨l.length+1,hl.mpr k⟩
 by_cases hl0:l.length=0
 ·rw [cbF (by omega),yae]
  exact fin
 ·have h0:0<l.length:=by omega
  have m0:=ycd (default:RS) h0
  have m1:=ycd (default:RS) (show l.length-1<l.length by omega)
  have w0:=hw _ m0
  have w1:=hw _ m1
  have s1:=p.s _ m1
  have n0:0≤(l.getD 0 default).1.num:=Rat.num_nonneg.2 w0.1
  have e1:=wib (n:=(l.length:Int)-1) (by omega) (by omega)
  have et:((l.length:Int)-1).toNat=l.length-1:=by omega
  rw [cbT (by omega),asT (by omega),yqd h0,asR,yCi,cbF (by omega),e1,asT (by omega),asT (by omega),et,yqd (by omega),asR,yCj,yCk]
  have sl:small (len:Rat):=yfa (by omega)
  show ybd (l.getD (l.length-1) default).2.num (l.getD (l.length-1) default).2.den (len:Rat).num ((len:Rat).den:Int) _
  rw [yF5 s1.2 sl,yNh,cbF (by grind)]
  exact fin
end
theorem DV.Worth_good {cs:List Ck} {A:List (List RS)} (h:DV cs A) {D:Int} (hD:1≤D∧D≤1000000000000) (hi:InA D A) :
  (∀ c∈cs,∀ a∈A,Go.Pf.Vc.small (wV c a))∧∀ K,yaF (cks cs) (rspL A) K=K (tabW cs A) 0:=by
 have h6:=h.d.n6;have h1:=h.d.n0;have hl:=h.l
 have e:pcsD (A.map rsp)=rspL A:=by
  unfold pcsD rspL
  rw [List.map_map]
  rfl
 have hall:∀ c∈cs,∀ a∈A,Go.Pf.Vc.small (wV c a)∧∀ K,ybN c.len (ints c.cuts) (ints c.dens) (rsp a) K=K (wV c a).num (wV c a).den 0:=fun c hc a ha=>by
  obtain ⟨k1,k2⟩:=h.d.mem hc
  refine (h.p a ha).Worth_good k1 ?_ hD (hi a ha)
  rw [k2]
  exact h.wi a ha
 refine ⟨fun c hc a ha=>(hall c hc a ha).1,fun K=>?_⟩
 have hck:∀ K,ydi (cks cs) (pcsD (A.map rsp)) K=K 0:=fun K=>by rw [e];exact yNj h K
 have hf:∀ c∈cs,∀ a∈A,fW c (rsp a)=((wV c a).num,((wV c a).den:Int),0):=fun c hc a ha=>yPa (t:=((wV c a).num,((wV c a).den:Int),0)) (hall c hc a ha).2
 rw [← e]
 refine yLU (F:=fW) (by rw [qAq];exact hl) h1 h6 hck (fun c hc p hp K=>?_) (fun _=>⟨?_,rfl⟩) (fun c hc p hp hn=>?_) K
 ·obtain ⟨a,ha,rfl⟩:=qB8.1 hp
  rw [hf c hc a ha]
  exact (hall c hc a ha).2 K
 ·unfold tabW
  refine List.map_congr_left fun c hc=>?_
  unfold rts
  rw [List.map_map,List.map_map]
  congr 1
  refine List.map_congr_left fun a ha=>?_
  show encW (wV c a)=.agg [.int .i64 (fW c (rsp a)).1,.int .i64 (fW c (rsp a)).2.1]
  rw [hf c hc a ha]
  rfl
 ·obtain ⟨a,ha,rfl⟩:=qB8.1 hp
  rw [hf c hc a ha] at hn
  exact absurd rfl hn
section
variable {cs:List Ck} {A:List (List RS)}
theorem yJa {cuts dens:List Int} {D:Int} (hD:1≤D):∀ {l:List RS},(∀ s∈l,In D s.1∧In D s.2)→In D (sumV (dV (vX cuts dens)) l)
 | [],_=>In.int hD 0
 | s::_,h=>(yNU hD (h s qAi)).add (yJa hD fun t ht=>h t (qAh _ ht))
theorem yAc {len:Int} {cuts dens:List Int} (hv:VC len cuts dens):∀ {l:List RS},(∀ s∈l,s.1<s.2)→Wi len l→0≤sumV (dV (vX cuts dens)) l∧sumV (dV (vX cuts dens)) l≤12000*((l.length:Int):Rat)
 | [],_,_=>⟨qBu,by show (0:Rat)≤12000*0;grind⟩
 | s::r,h,hw=>by
  have a:=yGf hv (h s qAi) (hw s qAi)
  have b:=yAc hv (l:=r) (fun t ht=>h t (qAh _ ht)) (fun t ht=>hw t (qAh _ ht))
  have hc:(((s::r).length:Int):Rat)=((r.length:Int):Rat)+1:=by
   rw [show ((s::r).length:Int)=(r.length:Int)+1 by rw [qAc];omega,Rat.intCast_add];rfl
  rw [hc]
  show 0≤dV (vX cuts dens) s+sumV (dV (vX cuts dens)) r∧dV (vX cuts dens) s+sumV (dV (vX cuts dens)) r≤_
  grind
theorem DV.wV_bound (h:DV cs A) {i j:Nat} (hi:i<cs.length) (hj:j<cs.length):0≤wV (cs.getD i default) (A.getD j [])∧wV (cs.getD i default) (A.getD j [])≤720000:=by
 have hl:=h.l
 have hm:=ycd [] (show j<A.length by omega)
 have hok:=h.d.ok i hi
 have hw:=h.wi _ hm
 rw [← h.d.len i hi] at hw
 have p:=h.p _ hm
 have b:=yAc hok (ymF p.c) hw
 have hn:(((A.getD j []).length:Int):Rat)≤60:=qAv.2 (show ((A.getD j []).length:Int)≤60 by have:=p.n;omega)
 unfold wV
 grind
theorem yKh (h:DV cs A) {D:Int} (hD:1≤D∧D≤100000000) (hi:InA D A) {j:Nat} (hj:j<cs.length):small (prt cs A j):=by
 have hl:=h.l
 have hok:=h.d.ok j hj
 have tb:=ygc hok
 have tp:=yz2 hok
 have b:=h.wV_bound hj hj
 have hI:In D (wV (cs.getD j default) (A.getD j [])):=yJa hD.1 (hi _ (ycd [] (by omega)))
 unfold prt
 generalize totC (cs.getD j default).cuts (cs.getD j default).dens=t at tb tp
 generalize wV (cs.getD j default) (A.getD j [])=w at b hI
 have h1:(1:Rat)≤(t:Rat):=qAv.2 (show (1:Int)≤t by omega)
 have t0:(t:Rat)≠0:=by grind
 have e:w / (t:Rat)*(t:Rat)=w:=Rat.div_mul_cancel t0
 have tD:t*D≤12000*D:=qAy tb.2 (by omega)
 have tD1:1*1≤t*D:=qB9 (by omega) hD.1 (by omega) (by omega)
 have p0:0≤w / (t:Rat):=Rat.not_lt.1 fun k=>by
  have:=Rat.mul_lt_mul_of_pos_right k (show (0:Rat)<(t:Rat) by grind)
  grind
 have p1:w / (t:Rat)≤720000:=by
  have:=qBy h1 p0
  grind
 exact (hI.div hD.1 (d:=t) (by omega)).small (M:=720000) ⟨by omega,by omega⟩ (by omega) (by show -(720000:Rat)≤_;grind) (by show _≤(720000:Rat);grind)
theorem DV.Make_of (h:DV cs A) (hw:∀ c∈cs,∀ a∈A,Go.Pf.Vc.small (wV c a)) (he:∀ K,yaF (cks cs) (rspL A) K=K (tabW cs A) 0) (hs:∀ j,j<cs.length→Go.Pf.Vc.small (prt cs A j)) (K:Int→List PV→Int→Prop) :
  yfv (cks cs) (rspL A) K=K (yI9 cs A (prtL cs A cs.length) (gapD cs A)) (tabW cs A) 0:=by
 refine yzD _ _ _ _ _ (fun K k=>?_) K
 unfold yfv ylJ
 rw [he]
 show cbr false _ _
 rw [yae]
 dsimp only [Go.Pf.jn]
 rw [yaX]
 refine ⟨cs.length+1,(ywh h hw _ _ _ _ (YY:=K 0 [] 16) rfl (fun _=>rfl)).mpr ?_⟩
 rcases yz9 (cs:=cs) (A:=A) cs.length 0 with ⟨_,e⟩ | ⟨hn,_⟩
 ·refine e.mpr ?_
  show cbr false _ _
  rw [yae,show (decide ((rts (prtL cs A cs.length)).length=(rts (prtL cs A cs.length)).length)&&decide ((rts (prtL cs A cs.length)).length=(rts (prtL cs A cs.length)).length))=true by simp,yau]
  refine ⟨6,?_⟩
  have hP:=yGd cs A cs.length
  have hg:=h.gapD_eq (tabW cs A) (rts (prtL cs A cs.length))
  have s:=fun (n i:Nat) (hi:i<5) (acc:Int)=>yKg h hw hP hg (fun f g l m o b d p q=>K b d (0:Int)) (n:=n) hi 0 acc (tabW cs A)
  refine (s 5 0 (by omega) 0).mpr ((s 4 1 (by omega) _).mpr ((s 3 2 (by omega) _).mpr ((s 2 3 (by omega) _).mpr ((s 1 4 (by omega) _).mpr ?_))))
  rw [ydf,cbF (by omega)]
  exact k
 ·exact absurd (fun j h1 h2=>hs j (by omega)) hn
theorem DV.good (h:DV cs A) {D:Int} (hD:1≤D∧D≤100000000) (hi:InA D A) :
  (∀ c∈cs,∀ a∈A,Go.Pf.Vc.small (wV c a))∧(∀ K,yaF (cks cs) (rspL A) K=K (tabW cs A) 0)∧(∀ j,j<cs.length→Go.Pf.Vc.small (prt cs A j)) ∧
  ∀ K,yfv (cks cs) (rspL A) K=K (yI9 cs A (prtL cs A cs.length) (gapD cs A)) (tabW cs A) 0:=by
 obtain ⟨h1,h2⟩:=h.Worth_good (D:=D) ⟨hD.1,by omega⟩ hi
 have h3:=fun j (hj:j<cs.length)=>yKh h hD hi hj
 exact ⟨h1,h2,h3,h.Make_of h1 h2 h3⟩
end
theorem yNV {α:Type} (f:α→Prop) (k:α):Go.Pf.jn f k=f k:=rfl
section
variable {cs:List Ck} {A:List (List RS)}
theorem yAd {o:Option (Nat×Nat)}:(yhK o).2.2=false↔o=none:=by
 cases o with
 | none=>exact ⟨fun _=>rfl,fun _=>rfl⟩
 | some q=>obtain ⟨a,b⟩:=q;exact ⟨(fun h=>by cases h),(fun h=>by cases h)⟩
theorem yGh {P:List Rat} {g:Bool}:(brk cs A P g 1).2.2=false↔yct (wr0 A) cs.length cs.length 0=none∧g=false:=by
 have e:brk cs A P g 1=(match yct (wr0 A) cs.length cs.length 0 with | some (a,b)=>((a:Int),(b:Int),true) | none=>if g then (-1,-1,true) else (0,0,false)):=rfl
 rw [e]
 cases yct (wr0 A) cs.length cs.length 0 with
 | some q=>obtain ⟨a,b⟩:=q;exact ⟨(fun h=>by cases h),(fun h=>by cases h.1)⟩
 | none=>cases g <;> simp
theorem yGi {P:List Rat} {g:Bool}:(brk cs A P g 2).2.2=false↔∀ a,a<cs.length→yte cs a≤wV (cs.getD a default) (A.getD a []):=by
 have e:brk cs A P g 2=yhK (yct (wr1 cs A) cs.length cs.length 0):=rfl
 rw [e,yAd,yn7]
 constructor
 ·intro h a ha
  have:=h a (by omega) (by omega) a ha
  unfold wr1 at this
  rw [decide_eq_true rfl,qA7,decide_eq_false_iff_not] at this
  exact Rat.not_lt.1 this
 ·intro h a _ ha b hb
  unfold wr1
  by_cases hab:a=b
  ·have:=h a (by omega)
   rw [decide_eq_false (Rat.not_lt.2 this),Bool.and_false]
  ·rw [decide_eq_false hab,qBm]
end
theorem ywP {l:List Rat} (hl:l.length<1000) {K:Bool→Prop} :
  ∀ (r i n:Nat),i+r=l.length→r<n→yba (fun _ _ _ _ _=>K true) (fun b=>K b) n (rts l) (rts l) (l.length:Int) (i:Int)=K true
 | 0,i,n+1,hi,hn=>by
  rw [yba,cbF (by omega)]
 | r+1,i,n+1,hi,hn=>by
  have e1:=wib (n:=(i:Int)+1) (by omega) (by omega)
  have ih:=ywP hl (K:=K) r (i+1) n (by omega) (by omega)
  rw [yba]
  dsimp only [lt]
  rw [cbT (by omega),yk7,asT (by omega),asT (by omega),qAe,yqe (by omega),asW,asT (by omega),asT (by omega),asW,ywN,ywO,e1,yc3,ih]
  have eb:∀ a b:Int,(!((a == a)&&((b == b)&&true)))=false:=fun a b=>by simp
  rw [eb,yae]
theorem yGj {l:List Rat} (hl:l.length<1000) (K:Bool→Prop):yaz (rts l) (rts l) K=K true:=by
 refine yhM _ _ _ (fun K k=>?_) K
 unfold yaz yda
 rw [yk7,cnF rfl]
 exact ⟨l.length+1,(ywP hl (K:=K) l.length 0 (l.length+1) (by omega) (by omega)).mpr k⟩
section
variable {cs:List Ck} {A:List (List RS)}
theorem yCr (h:DV cs A) {a0 a2 a3 a4 a5} (x0:List PV→List PV→List PV→List PV→List PV→Int→Int→Bool→Prop) (x1:List PV→List PV→List PV→Bool→Prop) :
  ∀ (r i n:Nat),i+r=cs.length→r<n→ydg a0 yaz a2 a3 a4 a5 x0 x1 n (cks cs) (rspL A) (tabW cs A) (tabW cs A) (tabW cs A) (cs.length:Int) (i:Int)=x0 (cks cs) (rspL A) (tabW cs A) (tabW cs A) (tabW cs A) (cs.length:Int) (cs.length:Int) false
 | 0,i,n+1,hi,hn=>by
  obtain rfl:i=cs.length:=by omega
  rw [ydg,cbF (by omega)]
 | r+1,i,n+1,hi,hn=>by
  have h6:=h.d.n6;have hl:=h.l
  have e1:=wib (n:=(i:Int)+1) (by omega) (by omega)
  have ih:=yCr h (a0:=a0) (a2:=a2) (a3:=a3) (a4:=a4) (a5:=a5) x0 x1 r (i+1) n (by omega) (by omega)
  rw [ydg]
  dsimp only [lt]
  rw [cbT (by omega),ymG,asT (by omega),asT (by omega),qAe,yuS (by omega),asD,asT (by omega),asT (by omega),asD,datD,yGj (by rw [qAq];omega),e1,yc3,qBp,yae,ih]
def hasC (c:Int) (i:Nat):Bool:=yLZ (Int.fdiv c (2 ^ (min ((i:Int)).toNat IntKind.u8.bits))) 1 == 0
theorem yKi (h:DV cs A) (hw:∀ c∈cs,∀ a∈A,Go.Pf.Vc.small (wV c a)) {a0 a1 a2 a3 a4} (x0:List PV→List PV→List PV→Int→List PV→Int→Bool→Prop) (x1:List PV→List PV→List PV→Bool→Int→Prop) {c:Int} {l4:List PV} {n i:Nat} (hi:i<5)
  (hb:hasC c i=false→bitC i≠8∧(brk cs A [] (gapD cs A) (bitC i)).2.2=false) :
  ycA a0 a1 a2 a3 a4 yat x0 x1 (n+1) (cks cs) (rspL A) (tabW cs A) c l4 (i:Int)=ycA a0 a1 a2 a3 a4 yat x0 x1 n (cks cs) (rspL A) (tabW cs A) c l4 ((i+1:Nat):Int):=by
 have e1:=wib (n:=(i:Int)+1) (by omega) (by omega)
 have hn:(!decide ((i:Int)<0))=true:=by rw [decide_eq_false (by omega)];rfl
 rw [ycA]
 dsimp only [lt,Go.Pf.jn]
 rw [cbT (by omega),hn,yau,yau,yI8 hi,e1,yc3]
 show cbr (hasC c i) _ _=_
 cases hc:hasC c i with
 | true=>rw [yam]
 | false =>
  obtain ⟨h8,hf⟩:=hb hc
  have hg:=yCq h hw (P:=[]) (c:=bitC i) (fun e=>absurd e h8) (yLY i) (g:=gapD cs A) (fun K=>h.gapD_eq (tabW cs A) (rts []) K)
  have hg:∀ K,yat (cks cs) (rspL A) (tabW cs A) [] (bitC i) K=_:=hg
  rw [yae,hg,hf,yae]
theorem DV.Accept (h:DV cs A) (hw:∀ c∈cs,∀ a∈A,Go.Pf.Vc.small (wV c a)) (hW:∀ K,yaF (cks cs) (rspL A) K=K (tabW cs A) 0) {c:Int} (hc:c<32) (h8:yLZ c 8=0)
  (hb:∀ i,i<5→hasC c i=false→bitC i≠8∧(brk cs A [] (gapD cs A) (bitC i)).2.2=false) (K:Bool→Int→Prop):yeg (cks cs) (rspL A) c (tabW cs A) K=K true 0:=by
 refine yv7 _ _ _ _ _ _ (fun K k=>?_) K
 have h6:=h.d.n6
 unfold yeg yjd
 rw [hW,cnF rfl]
 dsimp only [Go.Pf.jn,lt]
 rw [cbF (by omega),ymG,cnF rfl]
 refine ⟨cs.length+1,(yCr h _ _ cs.length 0 (cs.length+1) (by omega) (by omega)).mpr ?_⟩
 show cbr (yLZ c 8 != 0) _ _
 rw [h8,cnF rfl]
 refine ⟨6,?_⟩
 have s:=fun (n i:Nat) (hi:i<5)=>yKi h hw (a0:=yaF) (a1:=yaz) (a2:=yaf) (a3:=yaA) (a4:=yaJ) (fun _ _ _ _ _ _ _=>K true 0) (fun _ _ _ b e=>K b e) (c:=c) (l4:=tabW cs A) (n:=n) hi (hb i hi)
 refine (s 5 0 (by omega)).mpr ((s 4 1 (by omega)).mpr ((s 3 2 (by omega)).mpr ((s 2 3 (by omega)).mpr ((s 1 4 (by omega)).mpr ?_))))
 rw [ycA,cbF (by omega)]
 exact k
theorem yKj {P:List Rat} {g:Bool}:(brk cs A P g 16).2.2=false↔∀ a,a<cs.length→(A.getD a []).length=1:=by
 have e:brk cs A P g 16=yhK (yct (wr4 A) cs.length cs.length 0):=rfl
 rw [e,yAd,yn7]
 constructor
 ·intro h a ha
  have:=h a (by omega) (by omega) a ha
  unfold wr4 at this
  rw [decide_eq_true rfl,qA7,decide_eq_false_iff_not] at this
  exact Classical.not_not.1 this
 ·intro h a _ ha b hb
  unfold wr4
  rw [decide_eq_false (not_not_intro (h a (by omega))),Bool.and_false]
theorem DV.Accept19 (h:DV cs A) (hw:∀ c∈cs,∀ a∈A,Go.Pf.Vc.small (wV c a)) (hW:∀ K,yaF (cks cs) (rspL A) K=K (tabW cs A) 0)
  (h0:yct (wr0 A) cs.length cs.length 0=none) (hg:gapD cs A=false) (h1:∀ a,a<cs.length→yte cs a≤wV (cs.getD a default) (A.getD a [])) (h4:∀ a,a<cs.length→(A.getD a []).length=1) (K:Bool→Int→Prop):yeg (cks cs) (rspL A) 19 (tabW cs A) K=K true 0:=by
 refine h.Accept hw hW (by omega) (by decide) (fun i hi hc=>?_) K
 obtain rfl | rfl | rfl | rfl | rfl:i=0∨i=1∨i=2∨i=3∨i=4:=by omega
 ·exact ⟨by decide,yGh.2 ⟨h0,hg⟩⟩
 ·exact ⟨by decide,yGi.2 h1⟩
 ·exact absurd hc (by decide)
 ·exact absurd hc (by decide)
 ·exact ⟨by decide,yKj.2 h4⟩
end
theorem yPl (q:Qy):yac (yaj (encQ q) 0)=q.agent:=rfl
theorem yPm (q:Qy):yac (yaj (encQ q) 1)=q.kind:=rfl
theorem yPn (q:Qy):yac (yaj (encQ q) 2)=q.an:=rfl
theorem yPo (q:Qy):yac (yaj (encQ q) 3)=q.ad:=rfl
theorem yPp (q:Qy):yac (yaj (encQ q) 4)=q.bn:=rfl
theorem yPq (q:Qy):yac (yaj (encQ q) 5)=q.bd:=rfl
theorem yPr (q:Qy):yac (yaj (encQ q) 6)=q.cn:=rfl
theorem yPs (q:Qy):yac (yaj (encQ q) 7)=q.cd:=rfl
def QR (cs:List Ck) (q:Qy):Prop :=
 (0≤q.agent∧q.agent<cs.length)∧(I64 q.an∧I64 q.ad∧I64 q.bn∧I64 q.bd) ∧
  ∃ p:Rat,(q.cn=p.num∧q.cd=p.den) ∧
   ((q.kind=2∧mrkR (cs.getD q.agent.toNat default).len (cs.getD q.agent.toNat default).cuts (cs.getD q.agent.toNat default).dens q.an q.ad q.bn q.bd=.ok p) ∨
    (q.kind=1∧valR (cs.getD q.agent.toNat default).len (cs.getD q.agent.toNat default).cuts (cs.getD q.agent.toNat default).dens q.an q.ad q.bn q.bd=.ok p))
section
variable {cs:List Ck} {lg:List Qy}
theorem ywQ (hd:DK cs) (hl:lg.length≤2000) (hq:∀ q∈lg,QR cs q) {a0} (x0:List PV→List PV→List PV→List PV→Int→Int→Bool→Prop) (x1:Int→Int→Prop) :
  ∀ (r i n:Nat),i+r=lg.length→r<n→yd4 a0 ybv ybS ybH x0 x1 n (logs lg) (cks cs) (logs lg) (logs lg) (lg.length:Int) (i:Int)=x0 (logs lg) (cks cs) (logs lg) (logs lg) (lg.length:Int) (lg.length:Int) false
 | 0,i,n+1,hi,hn=>by
  obtain rfl:i=lg.length:=by omega
  rw [yd4,cbF (by omega)]
 | r+1,i,n+1,hi,hn=>by
  have h6:=hd.n6
  have e1:=wib (n:=(i:Int)+1) (by omega) (by omega)
  have ih:=ywQ hd hl hq (a0:=a0) x0 x1 r (i+1) n (by omega) (by omega)
  have hm:=ycd (default:Qy) (show i<lg.length by omega)
  obtain ⟨⟨g0,g1⟩,⟨i1,i2,i3,i4⟩,p,⟨p1,p2⟩,hk⟩:=hq _ hm
  rw [yd4]
  dsimp only [lt,Go.Pf.jn]
  rw [cbT (by omega),yeQ,asT (by omega),asT (by omega),qAe,yM7 (by omega),asQ,yPl,yPm,yPn,yPo,yPp,yPq,yPr,yPs,e1,yc3,ih]
  generalize lg.getD i default=q at *
  have hok:=hd.ok q.agent.toNat (by omega)
  have l1:=hok.l1;have l2:=hok.l2
  have em:∀ K,ybS (cks cs) (logs lg) q.agent q.an q.ad q.bn q.bd K=exK (mrkR (cs.getD q.agent.toNat default).len (cs.getD q.agent.toNat default).cuts (cs.getD q.agent.toNat default).dens q.an q.ad q.bn q.bd) K:=fun K=>by
   rw [ybS,yft,yaX,yfb (by omega),asT (by omega),asT (by omega),asCk,ck0,ck1,ck2,yF0 (by omega) (by omega) i1 i2 i3 i4]
  have ev:∀ K,ybH (cks cs) (logs lg) q.agent q.an q.ad q.bn q.bd K=exK (valR (cs.getD q.agent.toNat default).len (cs.getD q.agent.toNat default).cuts (cs.getD q.agent.toNat default).dens q.an q.ad q.bn q.bd) K:=fun K=>by
   rw [ybH,yeY,yaX,yfb (by omega),asT (by omega),asT (by omega),asCk,ck0,ck1,ck2,ywd (by omega) (by omega) i1 i2 i3 i4]
  have hh:∀ K,ybv (cks cs) (logs lg) q.agent K=K true:=fun K=>by rw [yEe,decide_eq_true ⟨g0,g1⟩]
  have es:((p.num == q.cn)&&(((p.den:Int) == q.cd)&&true))=true:=by rw [p1,p2];simp
  rcases hk with ⟨k2,hr⟩ | ⟨k1,hr⟩
  ·rw [ceT k2,hh,qBp,yae,cbF (by omega),decide_eq_false (by omega),yae,em,hr]
   rw [yEd,cnF rfl,es,qBp,yae]
  ·rw [ceF (by omega),hh,qBp,yae,cbF (by omega),decide_eq_false (by omega),yae,ev,hr]
   rw [yEd,cnF rfl,es,qBp,yae]
theorem yKk (hd:DK cs) (hl:lg.length≤2000) (hq:∀ q∈lg,QR cs q) (K:Int→Int→Prop):ygn (cks cs) (logs lg) K=K (lg.length:Int) 0:=by
 refine yzv _ _ _ _ (fun K k=>?_) K
 have h6:=hd.n6
 unfold ygn ylv
 rw [yjJ hd.fin (by omega),yeQ,cnF (hd.err hl)]
 refine ⟨lg.length+1,(ywQ hd hl hq _ _ lg.length 0 (lg.length+1) (by omega) (by omega)).mpr ?_⟩
 rw [yeQ]
 exact k
end
theorem yL0 {n g:Nat} (e:Es) (he:EG e) {x y:PV} (hx:(ykS n g).s.gd x=true) (hy:(ykS n g).s.gd y=true):Ans (E e) ycg [x,y] (.int .i64 (yon x y)):=by
 obtain ⟨a,b,c,d,rfl,h1⟩:=yNQ hx
 obtain ⟨a',b',c',d',rfl,h2⟩:=yNQ hy
 obtain ⟨r,hr,ha⟩:=yp0 e he [.agg [.int .i64 a,.int .i64 b,.int .i64 c,.int .i64 d],.agg [.int .i64 a',.int .i64 b',.int .i64 c',.int .i64 d']] (fun r=>r=.int .i64 (cmpI a b a' b')) (by
  show ygy a b c d a' b' c' d' (fun r=>PV.int .i64 r=.int .i64 (cmpI a b a' b'))
  unfold ygy yga
  obtain ⟨k1,k2,k3⟩:=ymD h1
  obtain ⟨k4,k5,k6⟩:=ymD h2
  have:=yuL k1 k4 (fun x _=>PV.int .i64 x=.int .i64 (cmpI a b a' b'))
  rw [k2,k3,k5,k6] at this
  rw [this,yOw h1 h2])
 rw [hr] at ha
 exact ha
structure LD (cs:List Ck) (A:List (List RS)) (t:Nat→Rat) (τ:Nat→Nat):Prop where
 d:DK cs
 l:A.length=cs.length
 t0:t 0=0
 tn:t cs.length=((cs.getD 0 default).len:Rat)
 lt:∀ j,j<cs.length→t j<t (j+1)
 sm:∀ j,j≤cs.length→small (t j)
 at_:∀ a,a<cs.length→τ a<cs.length∧A.getD a []=[(t (τ a),t (τ a+1))]
 inj:∀ a b,a<cs.length→b<cs.length→τ a=τ b→a=b
 sur:∀ j,j<cs.length→∃ a,a<cs.length∧τ a=j
section
variable {cs:List Ck} {A:List (List RS)} {t:Nat→Rat} {τ:Nat→Nat}
theorem LD.mono (h:LD cs A t τ):∀ {j i:Nat},i≤j→j≤cs.length→t i≤t j
 | 0,i,hij,_=>by
  obtain rfl:i=0:=by omega
  exact qBu
 | j+1,i,hij,hj=>by
  by_cases e:i=j+1
  ·subst e;exact qBu
  ·have:=h.mono (j:=j) (i:=i) (by omega) (by omega)
   have:=h.lt j (by omega)
   grind
theorem LD.bound (h:LD cs A t τ) {j:Nat} (hj:j≤cs.length):0≤t j∧t j≤((cs.getD 0 default).len:Rat):=by
 have a:=h.mono (qBg j) hj
 have b:=h.mono hj (qAk _)
 rw [h.t0] at a
 rw [h.tn] at b
 exact ⟨a,b⟩
theorem LD.DV (h:LD cs A t τ):DV cs A:=by
 have hA:∀ a∈A,∃ j,j<cs.length∧a=[(t j,t (j+1))]:=fun a ha=>by
  obtain ⟨i,hi,rfl⟩:=yqg [] ha
  have hl:=h.l
  obtain ⟨k1,k2⟩:=h.at_ i (by omega)
  exact ⟨_,k1,k2⟩
 refine ⟨h.d,h.l,fun a ha=>?_,fun a ha=>?_,fun a ha=>?_⟩
 ·obtain ⟨j,hj,rfl⟩:=hA a ha
  refine ⟨⟨h.lt j hj,(fun t ht=>by cases ht),trivial⟩,fun s hs=>?_,by simp⟩
  rcases qAr.1 hs with rfl | hs
  ·exact ⟨h.sm j (by omega),h.sm (j+1) (by omega)⟩
  ·cases hs
 ·obtain ⟨j,hj,rfl⟩:=hA a ha
  simp
 ·obtain ⟨j,hj,rfl⟩:=hA a ha
  have b1:=h.bound (j:=j) (by omega)
  have b2:=h.bound (j:=j+1) (by omega)
  unfold yLO
  rw [qCa]
  intro s hs
  rcases qAr.1 hs with rfl | hs
  ·rw [decide_eq_true (yzY (h.sm j (by omega)) b1.1 b1.2),decide_eq_true (yzY (h.sm (j+1) (by omega)) b2.1 b2.2)]
   rfl
  ·cases hs
theorem LD.none (h:LD cs A t τ):yct (wr0 A) cs.length cs.length 0=none:=by
 refine yn7.2 fun a _ ha b hb=>?_
 have hv:=h.DV
 have hl:=h.l
 unfold wr0
 by_cases hab:a<b
 case neg=>rw [decide_eq_false hab,qBm]
 rw [decide_eq_true hab,qA7]
 cases ht:yqf (A.getD a []) (A.getD b []) with
 | false=>rfl
 | true =>
  have ma:=ycd [] (show a<A.length by omega)
  have mb:=ycd [] (show b<A.length by omega)
  obtain ⟨p,p1,p2⟩:=(yHZ (ymF (hv.p _ ma).c) (ymF (hv.p _ mb).c)).1 ht
  obtain ⟨k1,k2⟩:=h.at_ a (by omega)
  obtain ⟨m1,m2⟩:=h.at_ b hb
  rw [k2] at p1
  rw [m2] at p2
  have hne:τ a≠τ b:=fun e=>by
   have:=h.inj a b (by omega) hb e
   omega
  obtain ⟨s,hs,q1,q2⟩:=p1
  rcases qAr.1 hs with rfl | hs
  case inr=>cases hs
  obtain ⟨s,hs,r1,r2⟩:=p2
  rcases qAr.1 hs with rfl | hs
  case inr=>cases hs
  dsimp only at q1 q2 r1 r2
  by_cases hlt:τ a<τ b
  ·have:=h.mono (i:=τ a+1) (j:=τ b) (by omega) (by omega)
   grind
  ·have:=h.mono (i:=τ b+1) (j:=τ a) (by omega) (by omega)
   grind
theorem LD.nogap (h:LD cs A t τ):gapD cs A=false:=by
 cases hg:gapD cs A with
 | false=>rfl
 | true =>
  obtain ⟨p,p0,p1,hn⟩:=yGe.1 hg
  refine absurd ?_ hn
  have key:∀ n,n≤cs.length→p<t n→∃ j,j<n∧t j≤p∧p<t (j+1):=by
   intro n
   induction n with
   | zero =>
    intro _ hp
    rw [h.t0] at hp
    grind
   | succ n ih =>
    intro hn hp
    by_cases hc:p<t n
    ·obtain ⟨j,h1,h2,h3⟩:=ih (by omega) hc
     exact ⟨j,by omega,h2,h3⟩
    ·exact ⟨n,by omega,Rat.not_lt.1 hc,hp⟩
  obtain ⟨j,j1,j2,j3⟩:=key cs.length (qAk _) (by rw [h.tn];exact p1)
  obtain ⟨a,a1,rfl⟩:=h.sur j j1
  have hl:=h.l
  refine ⟨A.getD a [],ycd [] (by omega),(t (τ a),t (τ a+1)),?_,j2,j3⟩
  rw [(h.at_ a a1).2]
  exact qAi
theorem LD.one (h:LD cs A t τ):∀ a,a<cs.length→(A.getD a []).length=1:=fun a ha=>by rw [(h.at_ a ha).2];rfl
theorem LD.wV (h:LD cs A t τ) (c:Ck) {a:Nat} (ha:a<cs.length):wV c (A.getD a [])=vX c.cuts c.dens (t (τ a+1))-vX c.cuts c.dens (t (τ a)):=by
 rw [(h.at_ a ha).2]
 show (vX _ _ _-vX _ _ _)+0=_
 rw [Rat.add_zero]
theorem LD.InA (h:LD cs A t τ) {D:Int} (hi:∀ j,j≤cs.length→In D (t j)):InA D A:=fun a ha s hs=>by
 obtain ⟨i,hi',rfl⟩:=yqg [] ha
 have hl:=h.l
 obtain ⟨k1,k2⟩:=h.at_ i (by omega)
 rw [k2] at hs
 rcases qAr.1 hs with rfl | hs
 ·exact ⟨hi _ (by omega),hi _ (by omega)⟩
 ·cases hs
end
section
variable {len:Int} {cuts dens:List Int}
theorem yuU (h:VC len cuts dens):∀ (r i:Nat) (p v:Rat),i+r=dens.length→((cuts.getD i 0:Int):Rat)≤p→p≤(len:Rat)→0<v→v≤vu cuts dens (len:Rat) r i-vu cuts dens p r i →
  ∀ D,1≤D→D≤1000000000000→In D p→In D v→v≤12000→∃ q d,mrkS cuts dens r i p v=.ok q∧(1≤d∧d≤12)∧In (d*D) q
 | 0,i,p,v,hi,_,_,v0,v1=>by
  unfold vu at v1
  grind
 | r+1,i,p,v,hi,hp,p1,v0,v1=>by
  intro D D1 D2 hpD hvD hv
  have l1:=h.l1
  have hl:=yI4 h
  have hd:=yI5 h (i:=i) (by omega)
  have hd2:=h.den (i:=i) (by omega)
  have hc0:(0:Rat)≤((cuts.getD i 0:Int):Rat):=Rat.intCast_nonneg.2 (h.lo (by omega))
  have hst:((cuts.getD i 0:Int):Rat)<((cuts.getD (i+1) 0:Int):Rat):=Rat.intCast_lt_intCast.2 (h.step (i:=i) (by omega))
  have hc1:((cuts.getD (i+1) 0:Int):Rat)≤(len:Rat):=by rw [← h.last];exact yx2 h (by omega) (qAk _)
  have low:=yz5 h r (i+1) (x:=p) (y:=((cuts.getD (i+1) 0:Int):Rat)) (by omega)
  have m1:=yfX p (cuts.getD i 0:Int)
  have m2:=yfX (len:Rat) (cuts.getD i 0:Int)
  have n1:=ygM (maxR p (cuts.getD i 0:Int)) (cuts.getD (i+1) 0:Int)
  have n2:=ygM (maxR (len:Rat) (cuts.getD i 0:Int)) (cuts.getD (i+1) 0:Int)
  have el:uC cuts i (len:Rat)=((cuts.getD (i+1) 0:Int):Rat):=by unfold uC;grind
  unfold vu at v1
  rw [el] at v1
  unfold mrkS
  by_cases c1:p<((cuts.getD (i+1) 0:Int):Rat)
  case neg =>
   rw [if_pos c1]
   have ep:uC cuts i p=((cuts.getD (i+1) 0:Int):Rat):=by unfold uC;grind
   rw [ep] at v1
   exact yuU h r (i+1) p v (by omega) (Rat.not_lt.1 c1) p1 v0 (by grind) D D1 D2 hpD hvD hv
  rw [if_neg (fun k=>k c1)]
  have ep:uC cuts i p=p:=by unfold uC;grind
  rw [ep,low (qBj c1) qBu] at v1
  by_cases cz:dens.getD i 0=0
  ·rw [if_pos cz]
   rw [cz] at v1
   have e0:((0:Int):Rat)=0:=rfl
   exact yuU h r (i+1) ((cuts.getD (i+1) 0:Int):Rat) v (by omega) qBu hc1 v0 (by grind) D D1 D2 (In.int D1 _) hvD hv
  rw [if_neg cz]
  have hd1:0<dens.getD i 0:=by omega
  have dpos:(0:Rat)<((dens.getD i 0:Int):Rat):=Rat.intCast_pos.2 hd1
  have m:=yI6 (x:=((cuts.getD (i+1) 0:Int):Rat)-p) (by grind) hd
  by_cases c3:(((cuts.getD (i+1) 0:Int):Rat)-p)*((dens.getD i 0:Int):Rat)<v
  ·have i1:=(In.int D1 (cuts.getD (i+1) 0)).sub hpD
   have i2:=i1.mulI (dens.getD i 0)
   have i3:=hvD.sub i2
   rw [ylR (i1.small (M:=1000) ⟨by omega,by omega⟩ (by omega) (by show -(1000:Rat)≤_;grind) (by show _≤(1000:Rat);grind)),
    ylR (i2.small (M:=12000) ⟨by omega,by omega⟩ (by omega) (by show -(12000:Rat)≤_;grind) (by show _≤(12000:Rat);grind)),if_pos c3,
    ylR (i3.small (M:=12000) ⟨by omega,by omega⟩ (by omega) (by show -(12000:Rat)≤_;grind) (by show _≤(12000:Rat);grind))]
   exact yuU h r (i+1) ((cuts.getD (i+1) 0:Int):Rat) (v-(((cuts.getD (i+1) 0:Int):Rat)-p)*((dens.getD i 0:Int):Rat)) (by omega) qBu hc1 (by grind) (by grind) D D1 D2 (In.int D1 _) i3 (by grind)
  ·have i1:=(In.int D1 (cuts.getD (i+1) 0)).sub hpD
   have i2:=i1.mulI (dens.getD i 0)
   have i3:=hvD.div D1 (d:=dens.getD i 0) (by omega)
   have i4:=(hpD.up D1 (d:=dens.getD i 0) (by omega)).add i3
   have hDD:dens.getD i 0*D≤12*D:=qAy hd2.2 (by omega)
   have hDD1:1*1≤dens.getD i 0*D:=qB9 (by omega) D1 (by omega) (by omega)
   generalize hs:v / ((dens.getD i 0:Int):Rat)=s at *
   have es:s*((dens.getD i 0:Int):Rat)=v:=by rw [← hs];exact Rat.div_mul_cancel (by grind)
   have s0:0≤s:=by
    refine Rat.not_lt.1 fun k=>?_
    have:=Rat.mul_lt_mul_of_pos_right k dpos
    grind
   have s1:p+s≤((cuts.getD (i+1) 0:Int):Rat):=by
    refine Rat.not_lt.1 fun k=>?_
    have:(((cuts.getD (i+1) 0:Int):Rat)-p)<s:=by grind
    have:=Rat.mul_lt_mul_of_pos_right this dpos
    grind
   rw [ylR (i1.small (M:=1000) ⟨by omega,by omega⟩ (by omega) (by show -(1000:Rat)≤_;grind) (by show _≤(1000:Rat);grind)),
    ylR (i2.small (M:=12000) ⟨by omega,by omega⟩ (by omega) (by show -(12000:Rat)≤_;grind) (by show _≤(12000:Rat);grind)),if_neg c3,
    ylR (i3.small (M:=1000) ⟨by omega,by omega⟩ (by omega) (by show -(1000:Rat)≤_;grind) (by show _≤(1000:Rat);grind)),
    ylR (i4.small (M:=1000) ⟨by omega,by omega⟩ (by omega) (by show -(1000:Rat)≤_;grind) (by show _≤(1000:Rat);grind))]
   exact ⟨_,dens.getD i 0,rfl,⟨by omega,hd2.2⟩,i4⟩
theorem yL1 (h:VC len cuts dens) {p v:Rat} (p0:0≤p) (p1:p≤(len:Rat)) (v0:0<v) (hv:v≤vX cuts dens (len:Rat)-vX cuts dens p) {D:Int} (D1:1≤D) (D2:D≤1000000000000) (hp:In D p) (hvD:In D v) :
  ∃ q d,mrkC cuts dens p v=.ok q∧(1≤d∧d≤12)∧In (d*D) q∧vX cuts dens q=vX cuts dens p+v∧p<q∧q≤(len:Rat)∧∀ x,x<q→vX cuts dens x<vX cuts dens q:=by
 have c0:cuts.getD 0 0=0:=h.2.2.2.2.2.1
 have t:=yHY h
 have m0:=yjB h p0
 have tb:((totC cuts dens:Int):Rat)≤12000:=qAv.2 (ygc h).2
 obtain ⟨q,d,e,hd,hq⟩:=yuU h dens.length 0 p v (by omega) (by rw [c0];exact p0) p1 v0 hv D D1 D2 hp hvD (by grind)
 have ec:mrkC cuts dens p v=.ok q:=by
  unfold mrkC
  rw [if_neg (by grind)]
  exact e
 obtain ⟨k1,k2,k3,_,k5⟩:=yNi h p0 p1 (qBj v0) ec
 refine ⟨q,d,ec,hd,hq,k1,?_,k3,k5 (by grind)⟩
 by_cases hlt:p<q
 ·exact hlt
 ·have:p=q:=by grind
  rw [← this] at k1
  grind
end
section
variable {l:List Ck}
theorem yx3 (hd:DK l) {a:Nat} (h:a<l.length):0<shN l a:=by
 have t:=yz2 (hd.ok a h)
 have n0:=hd.n0
 have t2:(0:Rat)<((totC (l.getD a default).cuts (l.getD a default).dens:Int):Rat):=Rat.intCast_pos.2 t
 have hn:(0:Rat)<((l.length:Int):Rat):=Rat.intCast_pos.2 (by omega)
 have e:shN l a*((l.length:Int):Rat)=((totC (l.getD a default).cuts (l.getD a default).dens:Int):Rat):=Rat.div_mul_cancel (by grind)
 refine Rat.not_le.1 fun k=>?_
 have:=Rat.mul_le_mul_of_nonneg_right k (qBj hn)
 grind
theorem yNl (hd:DK l) {a:Nat} (_:a<l.length):((l.length:Int):Rat)*shN l a=((totC (l.getD a default).cuts (l.getD a default).dens:Int):Rat):=by
 have n0:=hd.n0
 have hn:(0:Rat)<((l.length:Int):Rat):=Rat.intCast_pos.2 (by omega)
 have e:shN l a*((l.length:Int):Rat)=((totC (l.getD a default).cuts (l.getD a default).dens:Int):Rat):=Rat.div_mul_cancel (by grind)
 grind
theorem yOz (l:List Ck) (a:Nat):In (l.length:Int) (shN l a):=⟨totC (l.getD a default).cuts (l.getD a default).dens,rfl⟩
def mkM (l:List Ck) (p:Rat) (a:Nat):Rat:=getR (mrkC (l.getD a default).cuts (l.getD a default).dens p (shN l a))
theorem yL2 (hd:DK l) {a:Nat} (h:a<l.length) {p:Rat} (p0:0≤p) (p1:p≤((l.getD 0 default).len:Rat)) (hv:shN l a≤vX (l.getD a default).cuts (l.getD a default).dens ((l.getD 0 default).len:Rat)-vX (l.getD a default).cuts (l.getD a default).dens p)
  {D:Int} (D1:1≤D) (D2:D≤1000000000000) (hp:In D p) (hs:In D (shN l a)) :
  mrkC (l.getD a default).cuts (l.getD a default).dens p (shN l a)=.ok (mkM l p a)∧(∃ d:Int,(1≤d∧d≤12)∧In (d*D) (mkM l p a))∧vX (l.getD a default).cuts (l.getD a default).dens (mkM l p a)=vX (l.getD a default).cuts (l.getD a default).dens p+shN l a∧p<mkM l p a∧mkM l p a≤((l.getD 0 default).len:Rat):=by
 have hok:=hd.ok a h
 have hlen:=hd.len a h
 rw [← hlen] at p1 hv ⊢
 obtain ⟨q,d,e,hd12,hq,k1,k2,k3,_⟩:=yL1 hok p0 p1 (yx3 hd h) hv D1 D2 hp hs
 obtain ⟨g1,g2⟩:=yM8 e
 have g2:mkM l p a=q:=g2
 rw [g2]
 exact ⟨e,⟨d,hd12,hq⟩,k1,k2,k3⟩
theorem yGk (hd:DK l) {a:Nat} (h:a<l.length) {p:Rat} (hs:small p) (p0:0≤p) (p1:p≤((l.getD 0 default).len:Rat)) (e:mrkC (l.getD a default).cuts (l.getD a default).dens p (shN l a)=.ok (mkM l p a)) :
  mrkR (l.getD a default).len (l.getD a default).cuts (l.getD a default).dens p.num p.den (shN l a).num (shN l a).den=.ok (mkM l p a):=by
 have hok:=hd.ok a h
 have hsh:=yif hd h
 have hp:=yx3 hd h
 unfold mrkR
 rw [if_pos hok.ck,if_pos ⟨yzY hs p0 (by rw [hd.len a h];exact p1),hsh.rv,Rat.num_nonneg.2 (qBj hp)⟩,yeP,yeP]
 exact e
theorem yCs (hd:DK l) {a:Nat} (h:a<l.length) {p:Rat} (hs:small p) (p0:0≤p) (p1:p≤((l.getD 0 default).len:Rat)) (e:mrkC (l.getD a default).cuts (l.getD a default).dens p (shN l a)=.ok (mkM l p a)) {m:Nat} (hm:m<2000) :
  ykG l p.num p.den m a=.ok (mkM l p a):=by
 unfold ykG qryR
 rw [if_pos (hd.err (by omega)),if_pos ⟨by omega,by omega⟩,qAe]
 have:Ck.mark p.num p.den (shN l a).num (shN l a).den (l.getD a default)=.ok (mkM l p a):=yGk hd h hs p0 p1 e
 rw [this]
 show (if m≥2000 then _ else _)=_
 rw [if_neg (by omega)]
theorem yL3 (hd:DK l) {a:Nat} (h:a<l.length) {p:Rat} (hs:small p) (p0:0≤p) (p1:p≤((l.getD 0 default).len:Rat)) (e:mrkC (l.getD a default).cuts (l.getD a default).dens p (shN l a)=.ok (mkM l p a)):QR l (yqc l p.num p.den a (mkM l p a)):=by
 have hsh:=yif hd h
 refine ⟨⟨by show (0:Int)≤a;omega,by show (a:Int)<_;omega⟩,⟨hs.i1,hs.i2,hsh.i1,hsh.i2⟩,mkM l p a,⟨rfl,rfl⟩,.inl ⟨rfl,?_⟩⟩
 show mrkR (l.getD a default).len (l.getD a default).cuts (l.getD a default).dens p.num p.den (shN l a).num (shN l a).den=_
 exact yGk hd h hs p0 p1 e
def vXA (l:List Ck) (a:Nat) (p:Rat):Rat:=vX (l.getD a default).cuts (l.getD a default).dens p
def lenR (l:List Ck):Rat:=((l.getD 0 default).len:Rat)
def spT (t:Nat→Rat) (j:Nat):Sp:=⟨(t j).num,(t j).den,(t (j+1)).num,(t (j+1)).den⟩
theorem yAe {q r:Rat} (hq:small q) (hr:small r) (K:Bool→Prop):yfi q.num q.den r.num r.den K=K (decide (r<q)):=by
 unfold yfi yn3
 rw [yuL hq hr]
 congr 1
 unfold cmpQ
 by_cases h:q<r
 ·rw [if_pos h]
  have:¬r<q:=fun h'=>by grind
  simp [this]
 ·rw [if_neg h]
  by_cases h2:r<q
  ·have:¬q=r:=fun e=>by grind
   simp [h2]
  ·have:q=r:=by grind
   simp [this]
theorem yig (hd:DK l) {a:Nat} (h2:a<l.length) {lg:List PV} (hm:lg.length≤2000) (K:Int→Int→Prop):yeO (cks l) lg a K=K (shN l a).num (shN l a).den:=by
 have hok:=hd.ok a h2
 have tb:=ygc hok
 have n6:=hd.n6
 have h1:=VC.l1 hok;have h3:=VC.l2 hok
 unfold yeO ylM ypG ynK
 rw [yjJ hd.fin (by omega),hd.err hm,cnF rfl,yEe,decide_eq_true (by omega),qBp,yae]
 simp only [lt]
 rw [yaX,qAe,yfb h2,asT (by omega),asT (by omega),asCk,ck0,ck1,ck2,ywc (by omega) (by omega),if_pos (VC.ck hok),yFZ ⟨by omega,by omega⟩ ⟨by omega,by omega⟩ (by omega),ygL]
 have:=yif hd h2
 unfold shN shr at this ⊢
 rw [if_pos this]
structure TSt where
 lg:List Qy
 p:Rat
 w:Nat
 k:Nat
def valQ (an ad:Int) (a:Nat) (p v:Rat):Qy:=⟨a,1,an,ad,p.num,p.den,v.num,v.den⟩
def valE (l:List Ck) (an ad:Int) (m a:Nat) (p:Rat):Except Int Rat:=qryR l m a (Ck.value an ad p.num p.den)
def tR (l:List Ck) (an ad:Int):List Nat→TSt→Except Int TSt
 | [],s=>.ok s
 | a::r,s=>match valE l an ad s.lg.length a s.p with
  | .error e=>.error e
  | .ok v=>if shN l a<v then
    (match ykG l an ad (s.lg.length+1) a with
     | .error e=>.error e
     | .ok q=>tR l an ad r ⟨(s.lg++[valQ an ad a s.p v])++[yqc l an ad a q],q,a,s.k+1⟩)
   else tR l an ad r ⟨s.lg++[valQ an ad a s.p v],s.p,s.w,s.k⟩
theorem yGl (cuts dens:List Int) (b:Rat):∀ (r i:Nat) (p sum v:Rat),small sum→valS cuts dens b r i p sum=.ok v→small v:=by
 intro r
 induction r with
 | zero=>intro i p sum v hs e;unfold valS at e;cases e;exact hs
 | succ r ih =>
  intro i p sum v hs e
  unfold valS fit at e
  repeat' (first | split at e | dsimp only at e)
  all_goals first | exact ih _ _ _ _ hs e | (rename_i h;exact ih _ _ _ _ h e) | cases e
theorem yGm {an ad:Int} {m a:Nat} {p v:Rat} (h:valE l an ad m a p=.ok v):small v:=by
 unfold valE qryR at h
 split at h
 ·split at h
  ·split at h
   ·rename_i q hq
    split at h
    ·cases h
    ·cases h
     have hq:valR (l.getD a default).len (l.getD a default).cuts (l.getD a default).dens an ad p.num p.den=.ok v:=hq
     unfold valR at hq
     split at hq
     ·split at hq
      ·unfold valC at hq
       exact yGl _ _ _ _ _ _ _ _ (by have:=yfa (x:=0) (by omega);simpa using this) hq
      ·cases hq
     ·cases hq
   ·cases h
  ·cases h
 ·cases h
theorem yla {an ad:Int} {m a:Nat} {q:Rat} (h:ykG l an ad m a=.ok q):small q:=yHV h
theorem yqK (hd:DK l) {a:Nat} (_:a<l.length) {an ad:Int} (ha:I64 an) (ha':I64 ad) (lg:List Qy) {p:Rat} (hp:small p) (K:List PV→List PV→Int→Int→Int→Prop) :
  ydn (cks l) (logs lg) a an ad p.num p.den K =
   match valE l an ad lg.length a p with
   | .ok v=>K (cks l) (logs (lg++[valQ an ad a p v])) v.num v.den 0
   | .error e=>K [] [] 0 0 e:=by
 have n6:=hd.n6
 rw [yJ5 hd.fin (by omega) (yCg lg) ha ha' hp.i1 hp.i2,yeQ]
 have em:qryR l lg.length a (Ck.value an ad p.num p.den)=valE l an ad lg.length a p:=rfl
 rw [em]
 cases valE l an ad lg.length a p with
 | ok v =>
  show K (cks l) (logs lg++[_]) _ _ _=K (cks l) (logs (lg++[_])) _ _ _
  rw [yF4];rfl
 | error c=>rfl
theorem yuV (hd:DK l) {a:Nat} (h:a<l.length) {an ad:Int} (ha:I64 an) (ha':I64 ad) (lg:List Qy) (K:List PV→List PV→Int→Int→Int→Prop) :
  yed (cks l) (logs lg) a an ad (shN l a).num (shN l a).den K =
   match ykG l an ad lg.length a with
   | .ok p=>K (cks l) (logs (lg++[yqc l an ad a p])) p.num p.den 0
   | .error e=>K [] [] 0 0 e:=by
 have hs:=yif hd h
 have n6:=hd.n6
 rw [yLA hd.fin (by omega) (yCg lg) ha ha' hs.i1 hs.i2,yeQ]
 have em:qryR l lg.length a (Ck.mark an ad (shN l a).num (shN l a).den)=ykG l an ad lg.length a:=rfl
 rw [em]
 cases ykG l an ad lg.length a with
 | ok p =>
  show K (cks l) (logs lg++[_]) _ _ _=K (cks l) (logs (lg++[_])) _ _ _
  rw [yF4];rfl
 | error c=>rfl
theorem yGn {m:Nat} {agent:Int} {k:Ck→Except Int Rat} (hk:∀ c,k c≠.error 0):qryR l m agent k≠.error 0:=by
 unfold qryR
 intro h
 split at h
 ·split at h
  ·split at h
   ·split at h
    ·cases h
    ·cases h
   ·rename_i c hc
    cases h
    exact hk _ hc
  ·cases h
 ·rename_i h0;exact h0 (Except.error.inj h)
theorem yGo {an ad:Int} {m a:Nat} {p:Rat}:valE l an ad m a p≠.error 0:=yGn fun _=>yF3
theorem yqL {an ad:Int} {m a:Nat}:ykG l an ad m a≠.error 0:=yGn fun _=>yLC
theorem yH1 {an ad:Int}:∀ (r:List Nat) (s:TSt),tR l an ad r s≠.error 0
 | [],s,h=>by cases h
 | a::r,s,h=>by
  unfold tR at h
  cases hv:valE l an ad s.lg.length a s.p with
  | error e=>rw [hv] at h;cases h;exact yGo hv
  | ok v =>
   rw [hv] at h
   dsimp only at h
   split at h
   ·cases hq:ykG l an ad (s.lg.length+1) a with
    | error e=>rw [hq] at h;cases h;exact yqL hq
    | ok q=>rw [hq] at h;exact yH1 r _ h
   ·exact yH1 r _ h
theorem ygB {A:List Nat} {Z:List PV} {i:Nat} (h:i<A.length):List.getD (nts A++Z) i .nils=.int .i64 (A.getD i 0):=by
 rw [qAb,List.getElem?_append_left (by rw [yk5];exact h),← qAb,yOu h]
theorem yek (A:List Nat) (Z:List PV):(nts A++Z).length=A.length+Z.length:=by rw [qAf,yk5]
theorem yL4 {A r:List Nat} {i a:Nat} (h:A.drop i=a::r):i<A.length∧A.getD i 0=a∧A.drop (i+1)=r:=by
 have hlt:i<A.length:=by
  have:=congrArg List.length h
  rw [qAx,qAc] at this
  omega
 rw [List.drop_eq_getElem_cons hlt] at h
 rw [qAb,qAa hlt]
 exact ⟨hlt,(List.cons.inj h).1,(List.cons.inj h).2⟩
theorem ag0 (hd:DK l) {an ad:Int} (ha:I64 an) (ha':I64 ad) {A:List Nat} (hA:∀ a∈A,a<l.length) (hA6:A.length≤1000) (h2:2≤A.length) (Z:List PV) (b:List PV→List PV→List PV→Int→Int→Int→Int→Int→Int→Int→Int→Nat→Nat→Nat→Int→Int→Int→Int→Int→Int→Nat→Nat→Nat→Int→Int→Bool→Prop) (d:List PV→List PV→List PV→Int→Int→Int→Int→Int→Int→Int→Int→Nat→Nat→Nat→Int→Int→Int→Int→Int→Int→Int→Int→Nat→Nat→Nat→Int→Int→Bool→Prop) (c:List PV→List PV→List PV→Int→Int→Int→Int→Int→Int→Int→Int→Int→Int→Int→Int→Int→Int→Int→Prop) (i6:Int) (i7:Int) (n12:Nat) (n13:Nat) (i14:Int) (i15:Int) (i16:Int) (i17:Int) (i18:Int) (i19:Int) (n22:Nat) :
  ∀ (r:List Nat) (i:Nat) (s:TSt),A.drop i=r→1≤i→i≤A.length→small s.p→s.lg.length+2*r.length≤1900→s.k≤i →
  (match tR l an ad r s with | .ok s'=>b (nts A++Z) (cks l) (logs s'.lg) an ad (s'.w:Int) i6 i7 s'.p.num s'.p.den (s'.k:Int) A.length n12 n13 i14 i15 i16 i17 i18 i19 A.length (A.length+Z.length) n22 ((A.length:Nat):Int) ((A.length:Nat):Int) false | .error e=>∀ (q1:List PV) (q2:List PV) (q5:Int) (q8:Int) (q9:Int) (q10:Int),c (nts A++Z) q1 q2 an ad q5 i6 i7 q8 q9 q10 (0:Int) (0:Int) (0:Int) (0:Int) (0:Int) (0:Int) e)→∃ n,ybk yaQ ydn yeO yfi yed b d c n (nts A++Z) (cks l) (logs s.lg) an ad (s.w:Int) i6 i7 s.p.num s.p.den (s.k:Int) A.length n12 n13 i14 i15 i16 i17 i18 i19 A.length (A.length+Z.length) n22 ((A.length:Nat):Int) ((i:Nat):Int)
 | [],i,s,hr,h1,hi,hs,hl,hk,h=>by
  have e:i=A.length:=by
   have:=congrArg List.length hr
   rw [qAx,qAo] at this
   omega
  subst e
  refine ⟨1,?_⟩
  unfold ybk
  rw [cbF (by omega)]
  exact h
 | a::r,i,s,hr,h1,hi,hs,hl,hk,h=>by
  obtain ⟨hlt,hg,hr'⟩:=yL4 hr
  have ham:a<l.length:=hA a (by rw [← hg,qAb,qAa hlt];exact qBw hlt)
  have IH:=ag0 hd ha ha' hA hA6 h2 Z b d c i6 i7 n12 n13 i14 i15 i16 i17 i18 i19 n22 r (i+1)
  have ew:IntKind.i64.wrap ((i:Int)+1)=((i+1:Nat):Int):=by rw [wib (by omega) (by omega)];omega
  have ek:IntKind.i64.wrap ((s.k:Int)+1)=((s.k+1:Nat):Int):=by rw [wib (by omega) (by omega)];omega
  have step:∀ s1:TSt,tR l an ad (a::r) s=tR l an ad r s1→small s1.p→s1.lg.length≤s.lg.length+2→s1.k≤i+1→∃ n,ybk yaQ ydn yeO yfi yed b d c n (nts A++Z) (cks l) (logs s1.lg) an ad (s1.w:Int) i6 i7 s1.p.num s1.p.den (s1.k:Int) A.length n12 n13 i14 i15 i16 i17 i18 i19 A.length (A.length+Z.length) n22 ((A.length:Nat):Int) ((i+1:Nat):Int):=by
   intro s1 he hs1 hl1 hk1
   refine IH s1 hr' (by omega) (by omega) hs1 (by rw [qAc] at hl;omega) hk1 ?_
   rw [he] at h
   exact h
  have hh:=h
  unfold tR at hh
  cases hv:valE l an ad s.lg.length a s.p with
  | error e =>
   rw [hv] at hh
   have he0:e≠0:=fun e0=>yGo (e0 ▸ hv)
   refine ⟨1,?_⟩
   unfold ybk
   simp only [Go.Pf.jn,lt]
   rw [cbT (by omega),asT (by omega),asT (by omega),yek,asT (by omega),asT (by omega),qAt,qAe,ygB hlt,hg]
   simp only [conf,yhl,decide_true,yau,yac]
   rw [ceF (by omega),cbT (by omega),yqK hd ham ha ha' s.lg hs,hv]
   dsimp only
   rw [cnT he0]
   exact hh ..
  | ok v =>
   rw [hv] at hh
   dsimp only at hh
   have sv:small v:=yGm hv
   by_cases hm:shN l a<v
   ·rw [if_pos hm] at hh
    cases hq:ykG l an ad (s.lg.length+1) a with
    | error e =>
     rw [hq] at hh
     have he0:e≠0:=fun e0=>yqL (e0 ▸ hq)
     refine ⟨1,?_⟩
     unfold ybk
     simp only [Go.Pf.jn,lt]
     rw [cbT (by omega),asT (by omega),asT (by omega),yek,asT (by omega),asT (by omega),qAt,qAe,ygB hlt,hg]
     simp only [conf,yhl,decide_true,yau,yac]
     rw [ceF (by omega),cbT (by omega),yqK hd ham ha ha' s.lg hs,hv]
     dsimp only
     rw [cnF rfl,yig hd ham (by rw [yeQ,qAf,qBo];rw [qAc] at hl;omega),yAe sv (yif hd ham),decide_eq_true hm,qBp,yae]
     rw [yig hd ham (by rw [yeQ,qAf,qBo];rw [qAc] at hl;omega),yuV hd ham ha ha' (s.lg++[valQ an ad a s.p v]),qAf,qBo,hq]
     dsimp only
     rw [ceF he0,cnT he0]
     exact hh ..
    | ok q =>
     rw [hq] at hh
     have sq:=yla hq
     have he:tR l an ad (a::r) s=tR l an ad r ⟨(s.lg++[valQ an ad a s.p v])++[yqc l an ad a q],q,a,s.k+1⟩:=by
      rw [tR,hv]
      dsimp only
      rw [if_pos hm,hq]
     obtain ⟨n,hn⟩:=step _ he sq (by simp) (by show s.k+1≤i+1;omega)
     refine ⟨n+1,?_⟩
     unfold ybk
     simp only [Go.Pf.jn,lt]
     rw [cbT (by omega),asT (by omega),asT (by omega),yek,asT (by omega),asT (by omega),qAt,qAe,ygB hlt,hg]
     simp only [conf,yhl,decide_true,yau,yac]
     rw [ceF (by omega),cbT (by omega),yqK hd ham ha ha' s.lg hs,hv]
     dsimp only
     rw [cnF rfl,yig hd ham (by rw [yeQ,qAf,qBo];rw [qAc] at hl;omega),yAe sv (yif hd ham),decide_eq_true hm,qBp,yae]
     rw [yig hd ham (by rw [yeQ,qAf,qBo];rw [qAc] at hl;omega),yuV hd ham ha ha' (s.lg++[valQ an ad a s.p v]),qAf,qBo,hq]
     dsimp only
     rw [ceT rfl,cnF rfl,ew,ek]
     try simp only [decide_true,qB1,qBc,yau]
     exact hn
   ·have he:tR l an ad (a::r) s=tR l an ad r ⟨s.lg++[valQ an ad a s.p v],s.p,s.w,s.k⟩:=by
     rw [tR,hv]
     dsimp only
     rw [if_neg hm]
    obtain ⟨n,hn⟩:=step _ he hs (by simp) (by show s.k≤i+1;omega)
    refine ⟨n+1,?_⟩
    unfold ybk
    simp only [Go.Pf.jn,lt]
    rw [cbT (by omega),asT (by omega),asT (by omega),yek,asT (by omega),asT (by omega),qAt,qAe,ygB hlt,hg]
    simp only [conf,yhl,decide_true,yau,yac]
    rw [ceF (by omega),cbT (by omega),yqK hd ham ha ha' s.lg hs,hv]
    dsimp only
    rw [cnF rfl,yig hd ham (by rw [yeQ,qAf,qBo];rw [qAc] at hl;omega),yAe sv (yif hd ham),decide_eq_false hm,qBt,yam,ew]
    try simp only [decide_true,qB1,qBc,yau]
    exact hn
theorem ysa {x:Int} {P:Prop}:asr (conf zI (.int .i64 x)) P=P:=rfl
theorem yCt (a:Int) (K:Int→Int→Prop):yaQ a K=K a 1:=rfl
theorem iov {k:IntKind} {x:Int}:yac (.int k x)=x:=rfl
def yfc (l:List Ck) (an ad:Int) (lg:List Qy):List Nat→Except Int TSt
 | []=>.error 2
 | [a]=>.ok ⟨lg,(((l.getD 0 default).len:Int):Rat),a,0⟩
 | a::b::r=>match ykG l an ad lg.length a with
  | .error e=>.error e
  | .ok p=>tR l an ad (b::r) ⟨lg++[yqc l an ad a p],p,a,0⟩
end
end Go.Pf.Vc
