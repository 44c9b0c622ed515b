/- Part 5 of what the statement rests on: a verified evaluator over pure values, the conditions of the program's functions, and their plain laws. -/
import Derived.Test.YtegkpannhahmcaaGreatKfW4
namespace Go.Pf.Vc
open Go Go.Pf
theorem yTN {a b c d:Int} (ha:I64 a) (hb:I64 b) (hc:I64 c) (hd:I64 d) {K:Int→Int→Int→Prop}
  (k:if chk2 a b c d=0 then outA (decide (a*(d / (Nat.gcd b.natAbs d.natAbs:Nat))+-c*(b / (Nat.gcd b.natAbs d.natAbs:Nat))<0))
    ((a*(d / (Nat.gcd b.natAbs d.natAbs:Nat))+-c*(b / (Nat.gcd b.natAbs d.natAbs:Nat))).natAbs:Int) b d (Nat.gcd b.natAbs d.natAbs) K
   else K 0 0 (chk2 a b c d)):ybP a b c d K:=by
 unfold ybP ysl
 refine yvd ha hb hc hd ?_
 by_cases h:chk2 a b c d=0
 ·rw [if_pos h] at k
  have:(chk2 a b c d !=(0:Int))=false:=by rw [h];rfl
  rw [this,yac]
  obtain ⟨hab,hcd⟩:=yf6.1 h
  obtain ⟨d1,d2,c1,c2,_⟩:=id hcd
  rw [wi64 (n:=0-c) ⟨by omega,by omega⟩,Int.zero_sub]
  refine yQt ha hb ⟨by omega,by omega⟩ hd ?_
  rw [if_pos (yf6.2 ⟨hab,hcd.neg⟩)]
  exact k
 ·rw [if_neg h] at k
  have:(chk2 a b c d !=(0:Int))=true:=by rw [bne_iff_ne];exact h
  rw [this,yal]
  exact k
end Go.Pf.Vc
namespace Go.Pf.Vc
open Go Go.Pf
def ints (l:List Int):List PV:=l.map (PV.int .i64)
theorem ybG (l:List Int):(ints l).length=l.length:=qAo ..
theorem yI4 {l:List Int} {i:Nat} (h:i<l.length):List.getD (ints l) i .nils=.int .i64 (l.getD i 0):=by
 unfold ints
 rw [qAa,qAa,qAy,qAb h]
 rfl
theorem ydZ {l:List Int} {i:Nat} (h:i<l.length):yaa (List.getD (ints l) i .nils)=l.getD i 0:=by
 rw [yI4 h];rfl
theorem ymC {l:List Int} {i:Nat} (h:i<l.length):conf (.one (.i .i64)) (List.getD (ints l) i .nils)=true:=by
 rw [yI4 h];rfl
theorem yrn {c:Bool} {P:Prop} (h:c=true) (p:P):asr c P:=by rw [h,yaD];exact p
theorem yw9 {c:Prop} [Decidable c] {P:Prop} (h:c) (p:P):asr (decide c) P:=yrn (decide_eq_true h) p
end Go.Pf.Vc
namespace Go.Pf.Vc
open Go Go.Pf
theorem yNN {c:Prop} [Decidable c] {P Q:Prop} (h:c) (p:P):cbr (decide c) P Q:=by rw [decide_eq_true h,yal];exact p
theorem yHn {c:Prop} [Decidable c] {P Q:Prop} (h:¬c) (q:Q):cbr (decide c) P Q:=by rw [decide_eq_false h,yac];exact q
def mnf (m x:Int):Int:=if x<m then x else m
theorem yQu {l:List Int} (hl:l.length<9223372036854775807) (x0:List PV→Int→Int→Bool→Prop) :
  ∀ (rest:List Int) (i:Nat) (m:Int) (n:Nat),l.drop i=rest→i≤l.length→rest.length<n→x0 (ints l) (rest.foldl mnf m) (l.length:Int) false →
   ycC x0 n (ints l) m (i:Int):=by
 intro rest
 induction rest with
 | nil =>
  intro i m n hd hi hn k
  have:i=l.length:=by
   have:=congrArg List.length hd
   rw [qAu] at this
   have h2:([]:List Int).length=0:=rfl
   omega
  match n,hn with
  | n+1,_ =>
   unfold ycC
   rw [ybG,this]
   exact yHn (by omega) k
 | cons x t ih =>
  intro i m n hd hi hn k
  have hlt:i<l.length:=by
   have:=congrArg List.length hd
   rw [qAu,qAs] at this
   omega
  have hx:l.getD i 0=x:=by
   have:=List.getElem_drop (xs:=l) (i:=i) (j:=0) (h:=by rw [hd];exact Nat.zero_lt_succ _)
   rw [qAa,qAb hlt]
   simp only [hd,List.getElem_cons_zero,Nat.add_zero] at this
   exact this.symm
  have ht:l.drop (i+1)=t:=by rw [← List.tail_drop,hd];rfl
  match n,hn with
  | n+1,hn =>
   unfold ycC
   rw [ybG]
   refine yNN (by omega) ?_
   refine yw9 (by omega) (yw9 (by omega) (yrn (ymC (by omega)) ?_))
   rw [qAe,ydZ hlt,hx,wi64 (n:=(i:Int)+1) ⟨by omega,by omega⟩]
   exact ih (i+1) _ n ht (by omega) (by rw [qAs] at hn;omega) k
theorem yTO {l:List Int} (hl:l.length<9223372036854775807) {x:Int} {t:List Int} (e:l=x::t) {K:Int→Prop} (k:K (t.foldl mnf x)):yd7 (ints l) K:=by
 have h0:0<l.length:=by rw [e];exact Nat.zero_lt_succ _
 unfold yd7 ymd
 rw [ybG]
 refine yHn (by omega) (yw9 (by omega) (yrn (ymC h0) ⟨l.length+1,?_⟩))
 have e0:l.getD 0 0=x:=by rw [e];rfl
 rw [ydZ h0,e0]
 refine yQu hl _ t 1 x _ (by rw [e];rfl) (by omega) (by rw [e,qAs];omega) ?_
 exact k
def mxf (m x:Int):Int:=if x>m then x else m
theorem yQv {l:List Int} (hl:l.length<9223372036854775807) (x0:List PV→Int→Int→Bool→Prop) :
  ∀ (rest:List Int) (i:Nat) (m:Int) (n:Nat),l.drop i=rest→i≤l.length→rest.length<n→x0 (ints l) (rest.foldl mxf m) (l.length:Int) false →
   ycD x0 n (ints l) m (i:Int):=by
 intro rest
 induction rest with
 | nil =>
  intro i m n hd hi hn k
  have:i=l.length:=by
   have:=congrArg List.length hd
   rw [qAu] at this
   have h2:([]:List Int).length=0:=rfl
   omega
  match n,hn with
  | n+1,_ =>
   unfold ycD
   rw [ybG,this]
   exact yHn (by omega) k
 | cons x t ih =>
  intro i m n hd hi hn k
  have hlt:i<l.length:=by
   have:=congrArg List.length hd
   rw [qAu,qAs] at this
   omega
  have hx:l.getD i 0=x:=by
   have:=List.getElem_drop (xs:=l) (i:=i) (j:=0) (h:=by rw [hd];exact Nat.zero_lt_succ _)
   rw [qAa,qAb hlt]
   simp only [hd,List.getElem_cons_zero,Nat.add_zero] at this
   exact this.symm
  have ht:l.drop (i+1)=t:=by rw [← List.tail_drop,hd];rfl
  match n,hn with
  | n+1,hn =>
   unfold ycD
   rw [ybG]
   refine yNN (by omega) ?_
   refine yw9 (by omega) (yw9 (by omega) (yrn (ymC (by omega)) ?_))
   rw [qAe,ydZ hlt,hx,wi64 (n:=(i:Int)+1) ⟨by omega,by omega⟩]
   exact ih (i+1) _ n ht (by omega) (by rw [qAs] at hn;omega) k
theorem yQw {l:List Int} (hl:l.length<9223372036854775807) {x:Int} {t:List Int} (e:l=x::t) {K:Int→Prop} (k:K (t.foldl mxf x)):yd8 (ints l) K:=by
 have h0:0<l.length:=by rw [e];exact Nat.zero_lt_succ _
 unfold yd8 ymg
 rw [ybG]
 refine yHn (by omega) (yw9 (by omega) (yrn (ymC h0) ⟨l.length+1,?_⟩))
 have e0:l.getD 0 0=x:=by rw [e];rfl
 rw [ydZ h0,e0]
 refine yQv hl _ t 1 x _ (by rw [e];rfl) (by omega) (by rw [e,qAs];omega) ?_
 exact k
end Go.Pf.Vc
namespace Go.Pf.Vc
open Go Go.Pf
def incr (l:List Int) (i:Nat):Prop:=∀ j,i≤j→j+1<l.length→l.getD j 0<l.getD (j+1) 0
theorem yMQ {l:List Int} {p2:List PV} {p0:Int} (hl:l.length<9223372036854775807) (W1 W2:List PV→(Int→Prop)→Prop) (x0:Int→Prop) (x1:Int→List PV→List PV→Int→Int→Bool→Prop) :
  ∀ (r i n:Nat),i+r+1=l.length→r<n→(incr l i→x1 p0 (ints l) p2 ((l.length:Int)-1) ((l.length:Int)-1) false)→(¬incr l i→x0 8) →
   ydG W1 W2 x0 x1 n p0 (ints l) p2 ((l.length:Int)-1) (i:Int):=by
 intro r
 induction r with
 | zero =>
  intro i n hi hn k _
  match n,hn with
  | n+1,_ =>
   unfold ydG
   have e:(i:Int)=(l.length:Int)-1:=by omega
   refine yHn (by omega) ?_
   rw [e]
   exact k (fun j h1 h2=>by omega)
 | succ r ih =>
  intro i n hi hn k k0
  match n,hn with
  | n+1,hn =>
   unfold ydG
   rw [wi64 (n:=(i:Int)+1) ⟨by omega,by omega⟩,ybG]
   have e1:((i:Int)+1)=((i+1:Nat):Int):=by omega
   rw [e1,qAe,qAe]
   refine yNN (by omega) (yw9 (by omega) (yw9 (by omega) (yrn (ymC (by omega)) (yw9 (by omega) (yw9 (by omega) (yrn (ymC (by omega)) ?_))))))
   rw [ydZ (by omega),ydZ (by omega)]
   by_cases h:l.getD i 0≥l.getD (i+1) 0
   ·exact yNN h (k0 fun hc=>absurd (hc i (qAk _) (by omega)) (by omega))
   ·refine yHn h (ih (i+1) n (by omega) (by omega) (fun hc=>k fun j h1 h2=>?_) (fun hc=>k0 fun hd=>hc fun j h1 h2=>hd j (by omega) h2))
    by_cases hj:j=i
    ·subst hj;omega
    ·exact hc j (by omega) h2
end Go.Pf.Vc
namespace Go.Pf.Vc
open Go Go.Pf
def small (q:Rat):Prop:=-1000000000000000000≤q.num∧q.num≤1000000000000000000∧(q.den:Int)≤1000000000000000000
instance (q:Rat):Decidable (small q):=by unfold small;infer_instance
theorem small.rv {q:Rat} (h:small q):RV q.num q.den:=by
 obtain ⟨h1,h2,h3⟩:=h
 have:=q.den_pos
 exact ⟨by omega,h3,h1,h2,q.reduced⟩
theorem yMR {n d:Int} (h:RV n d):∃ q:Rat,small q∧q.num=n∧(q.den:Int)=d:=by
 obtain ⟨h1,h2,h3,h4,h5⟩:=h
 refine ⟨⟨n,d.toNat,by omega,?_⟩,⟨h3,h4,by show ((d.toNat:Nat):Int)≤_;omega⟩,rfl,by show ((d.toNat:Nat):Int)=_;omega⟩
 have:d.natAbs=d.toNat:=by omega
 rw [this] at h5
 exact h5
theorem small.i1 {q:Rat} (h:small q):I64 q.num:=⟨by have:=h.1;omega,by have:=h.2.1;omega⟩
theorem small.i2 {q:Rat} (h:small q):I64 (q.den:Int):=⟨by omega,by have:=h.2.2;omega⟩
theorem yp6 {q r:Rat} (h:small q) (k:small r):chk2 q.num q.den r.num r.den=0:=yf6.2 ⟨h.rv,k.rv⟩
def fitK (q:Rat) (K:Int→Int→Int→Prop):Prop:=if small q then K q.num q.den 0 else K 0 0 16
theorem yE0 {q:Rat} {s:Bool} {a b:Int} (ha:a=(q.num.natAbs:Int)) (hb:b=(q.den:Int)) (hs:q.num≠0→s=decide (q.num<0)) (K:Int→Int→Int→Prop):outS s a b K=fitK q K:=by
 unfold outS fitK
 subst ha hb
 by_cases h:small q
 ·have h':=h
  obtain ⟨h1,h2,h3⟩:=h
  rw [if_pos (show _∧_ from ⟨by omega,h3⟩),if_pos h']
  have e:(if s=true then -((q.num.natAbs:Nat):Int) else ((q.num.natAbs:Nat):Int))=q.num:=by
   by_cases h0:q.num=0
   ·rw [h0];cases s <;> rfl
   ·rw [hs h0]
    by_cases h1:q.num<0
    ·rw [decide_eq_true h1,if_pos rfl];omega
    ·rw [decide_eq_false h1,if_neg (by simp)];omega
  rw [e]
 ·rw [if_neg h,if_neg]
  intro h2
  exact h ⟨by omega,by omega,h2.2⟩
theorem yKL (x:Int) (g:Nat):(Int.tdiv x g).natAbs=x.natAbs / g:=by rw [Int.natAbs_tdiv,Int.natAbs_natCast];rfl
theorem yHo {x:Int} {g:Nat} (h:(g:Int)∣x) (hx:x≠0):decide (Int.tdiv x g<0)=decide (x<0):=by
 obtain ⟨k,rfl⟩:=h
 have hg:(g:Int)≠0:=fun e=>hx (by rw [e,Int.zero_mul])
 rw [Int.mul_tdiv_cancel_left _ hg]
 have h1:(g:Int)>0:=by have:=Int.natCast_nonneg g;omega
 have:(g:Int)*k<0↔k<0:=by
  constructor
  ·intro h;refine Int.not_le.1 fun hk=>?_
   have:=qA7 (show 0≤(g:Int) by omega) hk
   omega
  ·intro h;exact Int.mul_neg_of_pos_of_neg h1 h
 simp only [this]
theorem yO2 (q r:Rat):(q*r).num=Int.tdiv q.num (Nat.gcd q.num.natAbs r.den)*Int.tdiv r.num (Nat.gcd r.num.natAbs q.den) ∧
  (q*r).den=(q.den / Nat.gcd r.num.natAbs q.den)*(r.den / Nat.gcd q.num.natAbs r.den):=by
 have e:q*r=Rat.mul q r:=rfl
 rw [e]
 delta Rat.mul
 constructor
 ·simp only [Int.divExact_eq_tdiv]
 ·simp only [Nat.divExact_eq_div]
theorem yrV (x:Int) (d:Nat):((Nat.gcd x.natAbs d:Nat):Int)∣x:=by
 rw [← Int.dvd_natAbs,Int.ofNat_dvd];exact Nat.gcd_dvd_left _ _
theorem yNO {x:Int} {g:Nat} (h:(g:Int)∣x) (hx:x≠0):Int.tdiv x g≠0:=by
 obtain ⟨k,rfl⟩:=h
 have hg:(g:Int)≠0:=fun e=>hx (by rw [e,Int.zero_mul])
 rw [Int.mul_tdiv_cancel_left _ hg]
 intro e;rw [e,Int.mul_zero] at hx;exact hx rfl
theorem yQx {x y:Int} (hx:x≠0) (hy:y≠0):decide (x*y<0)=(decide (x<0) != decide (y<0)):=by
 by_cases h1:x<0 <;> by_cases h2:y<0
 ·have:=Int.mul_pos_of_neg_of_neg h1 h2
  simp [h1,h2];omega
 ·have:=qCb h1 (show 0<y by omega)
  simp [h1,h2];omega
 ·have:=Int.mul_neg_of_pos_of_neg (show 0<x by omega) h2
  simp [h1,h2];omega
 ·have:=Int.mul_pos (show 0<x by omega) (show 0<y by omega)
  simp [h1,h2];omega
theorem yNP (q r:Rat) (K:Int→Int→Int→Prop):outS (decide (q.num<0) != decide (r.num<0)) (numM q.num r.num q.den r.den) (denM q.num r.num q.den r.den) K=fitK (q*r) K:=by
 obtain ⟨e1,e2⟩:=yO2 q r
 refine yE0 ?_ ?_ ?_ K
 ·rw [e1,Int.natAbs_mul,yKL,yKL]
  simp only [numM,Int.natAbs_natCast]
 ·rw [e2]
  simp only [denM,Int.natAbs_natCast]
 ·intro h
  rw [e1] at h ⊢
  have h1:q.num≠0:=fun e=>h (by rw [e,Int.zero_tdiv,Int.zero_mul])
  have h2:r.num≠0:=fun e=>h (by rw [e,Int.zero_tdiv,Int.mul_zero])
  rw [yQx (yNO (yrV _ _) h1) (yNO (yrV _ _) h2),yHo (yrV _ _) h1,yHo (yrV _ _) h2]
theorem yAa {w:(Int→Int→Int→Prop)→Prop} {q:Rat} (det:∀ r0 r1 r2,(∀ K:Int→Int→Int→Prop,K r0 r1 r2→w K)→∀ K,w K=K r0 r1 r2) (h:∀ K,fitK q K→w K) (K:Int→Int→Int→Prop):w K=fitK q K:=by
 unfold fitK at h ⊢
 by_cases hs:small q
 ·simp only [if_pos hs] at h ⊢
  exact det _ _ _ h K
 ·simp only [if_neg hs] at h ⊢
  exact det _ _ _ h K
theorem yI5 {q r:Rat} (hq:small q) (hr:small r) (K:Int→Int→Int→Prop):ybA q.num q.den r.num r.den K=fitK (q*r) K :=
 yAa (fun r0 r1 r2 h K=>yFY _ _ _ _ r0 r1 r2 h K) (fun K k=>yMP hq.i1 hq.i2 hr.i1 hr.i2 (by rw [if_pos (yp6 hq hr),yNP];exact k)) K
theorem yO3 {r:Rat} (h:r≠0):(r⁻¹).num=(if r.num<0 then -(r.den:Int) else r.den)∧(r⁻¹).den=r.num.natAbs:=by
 have h0:r.num≠0:=fun e=>h (Rat.num_eq_zero.1 e)
 constructor
 ·rw [Rat.num_inv]
  by_cases h1:r.num<0
  ·rw [if_pos h1,Int.sign_eq_neg_one_of_neg h1];omega
  ·rw [if_neg h1,Int.sign_eq_one_of_pos (by omega)];omega
 ·rw [Rat.den_inv,if_neg h0]
theorem yNQ {q r:Rat} (hq:small q) (hr:small r) (h0:r≠0) (K:Int→Int→Int→Prop):yaz q.num q.den r.num r.den K=fitK (q / r) K:=by
 have hn:r.num≠0:=fun e=>h0 (Rat.num_eq_zero.1 e)
 refine yAa (fun r0 r1 r2 h K=>yFZ _ _ _ _ r0 r1 r2 h K) (fun K k=>yTM hq.i1 hq.i2 hr.i1 hr.i2 ?_) K
 rw [if_pos (yp6 hq hr),if_neg hn]
 rw [Rat.div_def,← yNP] at k
 obtain ⟨e1,e2⟩:=yO3 h0
 rw [e1,e2] at k
 have s:decide ((if r.num<0 then -(r.den:Int) else (r.den:Int))<0)=decide (r.num<0):=by
  have:=r.den_pos
  split
  ·rename_i h;simp only [h];simp;omega
  ·rename_i h;simp only [h];simp
 rw [s] at k
 have hd:(if r.num<0 then -(r.den:Int) else (r.den:Int)).natAbs=r.den:=by split <;> omega
 unfold numM denM at k ⊢
 simp only [hd,Int.natAbs_natCast] at k ⊢
 exact k
end Go.Pf.Vc
namespace Go.Pf.Vc
open Go Go.Pf
theorem yO4 (q r:Rat):(q+r).num=(q.num*(r.den / Nat.gcd q.den r.den:Nat)+r.num*(q.den / Nat.gcd q.den r.den:Nat)) / (Nat.gcd (q.num*(r.den / Nat.gcd q.den r.den:Nat)+r.num*(q.den / Nat.gcd q.den r.den:Nat)).natAbs (Nat.gcd q.den r.den):Nat) ∧
  (q+r).den=(q.den / Nat.gcd q.den r.den)*r.den / Nat.gcd (q.num*(r.den / Nat.gcd q.den r.den:Nat)+r.num*(q.den / Nat.gcd q.den r.den:Nat)).natAbs (Nat.gcd q.den r.den):=by
 have e:q+r=Rat.add q r:=rfl
 rw [e]
 delta Rat.add
 by_cases hg:q.den.gcd r.den=1
 ·simp only [hg,dif_pos,Nat.div_one,Nat.gcd_one_right,Int.natCast_one,Int.ediv_one,and_self]
 ·simp only [hg,dif_neg,not_false_eq_true,Rat.maybeNormalize_eq]
  constructor
  ·first | rfl | simp only [Int.divExact_eq_tdiv]
  ·first | rfl | simp only []
theorem yQy {q r:Rat} {Z:Int} {g:Nat} (e1:(q+r).num=Z / (Nat.gcd Z.natAbs g:Nat)) (e2:(q+r).den=(q.den / g)*r.den / Nat.gcd Z.natAbs g) (hgp:0<g) (hgd:g∣r.den) (K:Int→Int→Int→Prop) :
  outA (decide (Z<0)) (Z.natAbs:Int) q.den r.den g K=fitK (q+r) K:=by
 unfold outA
 by_cases h0:Z=0
 ·subst h0
  have:(q+r)=0:=by
   apply Rat.num_eq_zero.1
   rw [e1];simp
  rw [this,if_pos (by rfl)]
  unfold fitK
  rw [if_pos (by decide)];rfl
 ·have hne:¬((Z.natAbs:Nat):Int)=0:=by omega
  rw [if_neg hne]
  have hdv:((Nat.gcd Z.natAbs g:Nat):Int)∣Z:=yrV _ _
  have hhp:0<Nat.gcd Z.natAbs g:=qBk _ hgp
  have hhg:Nat.gcd Z.natAbs g∣r.den:=Nat.dvd_trans (Nat.gcd_dvd_right _ _) hgd
  refine yE0 ?_ ?_ ?_ K
  ·rw [e1,Int.natAbs_ediv_of_dvd hdv];simp
  ·rw [e2];simp only [qAe];rw [Nat.mul_div_assoc _ hhg]
  ·intro h
   rw [e1]
   obtain ⟨k,hk⟩:=hdv
   revert hhp hk
   generalize Nat.gcd Z.natAbs g=h
   intro hhp hk
   have e:Z / (h:Int)=k:=by rw [hk,Int.mul_ediv_cancel_left _ (by omega)]
   rw [e]
   have:Z<0↔k<0:=by
    rw [hk]
    constructor
    ·intro hk;refine Int.not_le.1 fun hk2=>?_
     have:=qA7 (show 0≤(h:Int) by omega) hk2
     omega
    ·intro hk;exact Int.mul_neg_of_pos_of_neg (by omega) hk
   simp only [this]
theorem yNR (q r:Rat) (K:Int→Int→Int→Prop) :
  outA (decide (q.num*((r.den:Int) / (Nat.gcd (q.den:Int).natAbs (r.den:Int).natAbs:Nat))+r.num*((q.den:Int) / (Nat.gcd (q.den:Int).natAbs (r.den:Int).natAbs:Nat))<0))
   ((q.num*((r.den:Int) / (Nat.gcd (q.den:Int).natAbs (r.den:Int).natAbs:Nat))+r.num*((q.den:Int) / (Nat.gcd (q.den:Int).natAbs (r.den:Int).natAbs:Nat))).natAbs:Int) q.den r.den (Nat.gcd (q.den:Int).natAbs (r.den:Int).natAbs) K=fitK (q+r) K:=by
 obtain ⟨e1,e2⟩:=yO4 q r
 rw [qBj,qBj] at e1 e2
 exact yQy e1 e2 (Nat.gcd_pos_of_pos_left _ q.den_pos) (Nat.gcd_dvd_right _ _) K
theorem yC9 {q r:Rat} (hq:small q) (hr:small r) (K:Int→Int→Int→Prop):yaH q.num q.den r.num r.den K=fitK (q+r) K :=
 yAa (fun r0 r1 r2 h K=>yFW _ _ _ _ r0 r1 r2 h K) (fun K k=>yQt hq.i1 hq.i2 hr.i1 hr.i2 (by rw [if_pos (yp6 hq hr),yNR];exact k)) K
theorem yDa {q r:Rat} (hq:small q) (hr:small r) (K:Int→Int→Int→Prop):ybP q.num q.den r.num r.den K=fitK (q-r) K :=
 yAa (fun r0 r1 r2 h K=>yFX _ _ _ _ r0 r1 r2 h K) (fun K k=>yTN hq.i1 hq.i2 hr.i1 hr.i2 (by
  rw [if_pos (yp6 hq hr)]
  rw [Rat.sub_eq_add_neg,← yNR] at k
  exact k)) K
theorem yKM {n d:Int} (hd:d≠0) (K:Int→Int→Int→Prop):outS (decide (n<0) != decide (d<0)) ((n.natAbs / Nat.gcd n.natAbs d.natAbs:Nat):Int) ((d.natAbs / Nat.gcd n.natAbs d.natAbs:Nat):Int) K=fitK ((n:Rat) / (d:Rat)) K:=by
 have e:(n:Rat) / (d:Rat)=mkRat (if d<0 then -n else n) d.natAbs:=by
  rw [Rat.mkRat_eq_div]
  split
  ·rename_i h
   have h1:((d.natAbs:Nat):Int)=-d:=by omega
   have h2:((d.natAbs:Nat):Rat)=-(d:Rat):=by rw [← Rat.intCast_natCast,h1,Rat.intCast_neg]
   rw [h2,Rat.intCast_neg]
   have h3:(d:Rat)≠0:=fun e=>hd (Rat.intCast_eq_zero_iff.1 e)
   grind
  ·rename_i h
   have h1:((d.natAbs:Nat):Int)=d:=by omega
   have h2:((d.natAbs:Nat):Rat)=(d:Rat):=by rw [← Rat.intCast_natCast,h1]
   rw [h2]
 have h0:d.natAbs≠0:=by omega
 have hab:(if d<0 then -n else n).natAbs=n.natAbs:=by split <;> omega
 rw [e]
 refine yE0 ?_ ?_ ?_ K
 ·rw [Rat.num_mkRat,if_neg h0,hab,Int.natAbs_ediv_of_dvd,Int.natAbs_natCast,hab,Nat.gcd_comm]
  rw [← Int.dvd_natAbs,Int.ofNat_dvd,hab];exact Nat.gcd_dvd_right _ _
 ·rw [Rat.den_mkRat,if_neg h0,hab,Nat.gcd_comm]
 ·rw [Rat.num_mkRat,if_neg h0,hab]
  have hdv:((Nat.gcd d.natAbs n.natAbs:Nat):Int)∣(if d<0 then -n else n):=by
   rw [← Int.dvd_natAbs,Int.ofNat_dvd,hab];exact Nat.gcd_dvd_right _ _
  have hp:0<Nat.gcd d.natAbs n.natAbs:=Nat.gcd_pos_of_pos_left _ (by omega)
  obtain ⟨k,hk⟩:=hdv
  rw [hk,Int.mul_ediv_cancel_left _ (by omega)]
  intro hk0
  generalize Nat.gcd d.natAbs n.natAbs=g at *
  have h1:(g:Int)*k<0↔k<0:=by
   constructor
   ·intro hk;refine Int.not_le.1 fun hk2=>?_
    have:=qA7 (show 0≤(g:Int) by omega) hk2
    omega
   ·intro hk;exact Int.mul_neg_of_pos_of_neg (by omega) hk
  have h2:(g:Int)*k≠0:=fun e=>by rcases Int.mul_eq_zero.1 e with e | e <;> omega
  by_cases hd2:d<0
  ·rw [if_pos hd2] at hk
   by_cases hn:n<0
   ·have:¬k<0:=by omega
    simp [hd2,hn,this]
   ·have:k<0:=by omega
    simp [hd2,this];omega
  ·rw [if_neg hd2] at hk
   by_cases hn:n<0
   ·have:k<0:=by omega
    simp [hd2,hn,this]
   ·have:¬k<0:=by omega
    simp [hd2,this];omega
theorem yKN {n d:Int} (hn:I64 n) (hd:I64 d) (h0:d≠0) (K:Int→Int→Int→Prop):yan n d K=fitK ((n:Rat) / (d:Rat)) K :=
 yAa (fun r0 r1 r2 h K=>yEg _ _ r0 r1 r2 h K) (fun K k=>Make_of hn hd (by rw [if_neg h0,yKM h0];exact k)) K
def cmpQ (q r:Rat):Int:=if q<r then -1 else if r<q then 1 else 0
theorem yNS (q r:Rat):cmpR q.num q.den r.num r.den=cmpQ q r:=by
 unfold cmpR cmp3 cmpQ
 simp only [Rat.lt_iff]
theorem yAb {q r:Rat} (hq:small q) (hr:small r) (K:Int→Int→Prop):ybW q.num q.den r.num r.den K=K (cmpQ q r) 0 :=
 yFV _ _ _ _ _ _ (fun K k=>yQo hq.i1 hq.i2 hr.i1 hr.i2 (by rw [yp6 hq hr,if_pos rfl,yNS];exact k)) K
theorem yHp {n d:Int} (hn:I64 n) (hd:I64 d) (K:Int→Prop):yby n d K=K (chk n d) :=
 yCu _ _ _ (fun _ k=>yEW hn hd k) K
end Go.Pf.Vc
namespace Go.Pf.Vc
open Go Go.Pf
theorem yNT {p:Int} (h:I64 p) (K:Int→Prop):yrN p K=K (p.natAbs:Int):=by
 unfold I64 at h
 unfold yrN yxZ
 by_cases hp:p<0
 ·have e0:IntKind.i64.wrap (p+1)=p+1:=wi64 ⟨by omega,by omega⟩
  have e1:IntKind.i64.wrap ((0:Int)-(p+1))=-(p+1):=by rw [wi64 ⟨by omega,by omega⟩];omega
  have e2:IntKind.u64.wrap (-(p+1))=-(p+1):=wu64 ⟨by omega,by omega⟩
  have e3:IntKind.u64.wrap (-(p+1)+1)=(p.natAbs:Int):=by rw [wu64 ⟨by omega,by omega⟩];omega
  rw [decide_eq_true hp,yal,e0,e1,e2,e3]
 ·rw [decide_eq_false hp,yac,wu64 ⟨by omega,by omega⟩]
  congr 1
  omega
theorem yHq (x:Int→Int→Bool→Prop):∀ (n a b:Nat),b<n→ygn x n (a:Int) (b:Int)=x ((Nat.gcd a b:Nat):Int) 0 false
 | 0,a,b,h=>by omega
 | n+1,a,b,h=>by
  unfold ygn
  by_cases hb:b=0
  ·subst hb
   simp [cbr]
  ·have h1:((b:Int) != 0)=true:=by simp;omega
   have h2:¬((b:Int)=0):=by omega
   rw [h1,yal,decide_eq_false h2,qB2,yaD]
   have e:Int.tmod (a:Int) (b:Int)=((a % b:Nat):Int):=by rw [Int.tmod_eq_emod_of_nonneg (by omega)];omega
   rw [e,yHq x n b (a % b) (by have:=Nat.mod_lt a (show b>0 by omega);omega)]
   rw [Nat.gcd_comm a b,Nat.gcd_rec b a,Nat.gcd_comm]
theorem ySp (a b:Nat) (K:Int→Prop):ymr (a:Int) (b:Int) K=K ((Nat.gcd a b:Nat):Int):=by
 refine yKB _ _ _ (fun K h=>?_) K
 unfold ymr yx1
 exact ⟨b+1,by rw [yHq _ (b+1) a b (by omega)];exact h⟩
theorem yUt {a b:Int} (h:a=b):(a != b)=false:=by simp [h]
theorem yUu {a b:Int} (h:a≠b):(a != b)=true:=by simp [h]
theorem yTc {a b:Int} (h:a≠b):(a == b)=false:=by simp [h]
theorem yUv {a b:Int} (h:a=b):(a == b)=true:=by simp [h]
end Go.Pf.Vc
namespace Go.Pf.Vc
open Go Go.Pf
theorem ySq {s:Bool} {X Y:Int} (hx:0≤X) (hy:0≤Y) (K:Int→Int→Int→Prop) :
  ypQ s (X / 18446744073709551616) (X % 18446744073709551616) (Y / 18446744073709551616) (Y % 18446744073709551616) K=outS s X Y K:=by
 unfold ypQ yuI outS
 by_cases h:X≤1000000000000000000∧Y≤1000000000000000000
 ·have e1:IntKind.i64.wrap (X % 18446744073709551616)=X:=by rw [show X % 18446744073709551616=X by omega,wi64 ⟨by omega,by omega⟩]
  have e2:IntKind.i64.wrap (Y % 18446744073709551616)=Y:=by rw [show Y % 18446744073709551616=Y by omega,wi64 ⟨by omega,by omega⟩]
  rw [if_pos h,decide_eq_false (by omega),yac,decide_eq_false (by omega),yac,decide_eq_false (by omega),yac,decide_eq_false (by omega),yac,e1,e2]
  cases s
  ·rw [yac];rfl
  ·rw [yal,wi64 ⟨by omega,by omega⟩,Int.zero_sub];rfl
 ·rw [if_neg h]
  by_cases h1:X / 18446744073709551616>0
  ·rw [decide_eq_true h1,yal]
  ·rw [decide_eq_false h1,yac]
   by_cases h2:Y / 18446744073709551616>0
   ·rw [decide_eq_true h2,yal]
   ·rw [decide_eq_false h2,yac]
    by_cases h3:X % 18446744073709551616>1000000000000000000
    ·rw [decide_eq_true h3,yal]
    ·rw [decide_eq_false h3,yac,decide_eq_true (by omega),yal]
end Go.Pf.Vc
namespace Go.Pf.Vc
open Go Go.Pf
theorem yQz {g:Int} (h:g≠0) {P:Prop}:asr (!(decide (g=(0:Int)))) P=P:=by
 rw [decide_eq_false h];rfl
theorem wuN {n:Nat} (h:(n:Int)≤18446744073709551615):IntKind.u64.wrap (n:Int)=n:=wu64 ⟨by omega,h⟩
theorem yTd (a b:Nat):Int.tdiv (a:Int) (b:Int)=((a / b:Nat):Int):=by
 rw [Int.tdiv_eq_ediv_of_nonneg (by omega),qBj]
theorem yQA {n d:Int} (hn:I64 n) (hd:I64 d) (h0:d≠0) (K:Int→Int→Int→Prop):ypR n d K=fitK ((n:Rat) / (d:Rat)) K:=by
 unfold ypR yuK
 have hn':=hn;have hd':=hd
 unfold I64 at hn' hd'
 have g0:0<Nat.gcd n.natAbs d.natAbs:=qBk _ (by omega)
 have q1:n.natAbs / Nat.gcd n.natAbs d.natAbs≤n.natAbs:=qBq _ _
 have q2:d.natAbs / Nat.gcd n.natAbs d.natAbs≤d.natAbs:=qBq _ _
 have hp:∀ x:Nat,(0:Int)≤x:=Int.natCast_nonneg
 rw [yTc h0,yac,yNT hn,yNT hd,ySp,yQz (by omega),yQz (by omega),yTd,yTd,← yKM h0]
 obtain ⟨x,hx⟩:∃ x,x=n.natAbs / Nat.gcd n.natAbs d.natAbs:=⟨_,rfl⟩
 obtain ⟨y,hy⟩:∃ y,y=d.natAbs / Nat.gcd n.natAbs d.natAbs:=⟨_,rfl⟩
 rw [← hx] at q1 ⊢
 rw [← hy] at q2 ⊢
 rw [wuN (by omega),wuN (by omega)]
 have m:=ySq (s:=(decide (n<0) != decide (d<0))) (X:=(x:Int)) (Y:=(y:Int)) (by omega) (by omega) K
 rw [← m]
 have e1:(x:Int) / 18446744073709551616=0:=by omega
 have e2:(x:Int) % 18446744073709551616=x:=by omega
 have e3:(y:Int) / 18446744073709551616=0:=by omega
 have e4:(y:Int) % 18446744073709551616=y:=by omega
 rw [e1,e2,e3,e4]
end Go.Pf.Vc
namespace Go.Pf.Vc
open Go Go.Pf
theorem cbT {c:Prop} [Decidable c] {P Q:Prop} (h:c):cbr (decide c) P Q=P:=by rw [decide_eq_true h,yal]
theorem cbF {c:Prop} [Decidable c] {P Q:Prop} (h:¬c):cbr (decide c) P Q=Q:=by rw [decide_eq_false h,yac]
theorem cnT {a b:Int} {P Q:Prop} (h:a≠b):cbr (a != b) P Q=P:=by rw [yUu h,yal]
theorem cnF {a b:Int} {P Q:Prop} (h:a=b):cbr (a != b) P Q=Q:=by rw [yUt h,yac]
theorem ceT {a b:Int} {P Q:Prop} (h:a=b):cbr (a == b) P Q=P:=by rw [yUv h,yal]
theorem ceF {a b:Int} {P Q:Prop} (h:a≠b):cbr (a == b) P Q=Q:=by rw [yTc h,yac]
theorem asT {c:Prop} [Decidable c] {P:Prop} (h:c):asr (decide c) P=P:=by rw [decide_eq_true h,yaD]
theorem asC {l:List Int} {i:Nat} {P:Prop} (h:i<l.length):asr (conf (.one (.i .i64)) (List.getD (ints l) i .nils)) P=P:=by rw [ymC h,yaD]
theorem wib {n:Int} (h1:-9223372036854775808≤n) (h2:n≤9223372036854775807):IntKind.i64.wrap n=n:=wi64 ⟨h1,h2⟩
theorem yQB (i:Nat):((i:Int)+1).toNat=i+1:=by omega
theorem yda (i:Nat):(i:Int)+1=((i+1:Nat):Int):=by omega
theorem ymD {x:Int} (h:-1000000000000000000≤x∧x≤1000000000000000000):small (x:Rat):=by
 unfold small
 rw [Rat.num_intCast,Rat.den_intCast]
 omega
def allD (dens:List Int):Prop:=∀ d∈dens,0≤d∧d≤12
def yE1 (dens:List Int):Prop:=∃ d∈dens,0<d
instance (l:List Int):Decidable (allD l):=by unfold allD;infer_instance
instance (l:List Int):Decidable (yE1 l):=by unfold yE1;infer_instance
def VC (len:Int) (cuts dens:List Int):Prop :=
 1≤len∧len≤1000∧2≤cuts.length∧cuts.length≤40∧dens.length+1=cuts.length∧cuts.getD 0 0=0∧cuts.getD (cuts.length-1) 0=len∧incr cuts 0∧allD dens∧yE1 dens
theorem yQC (l:List Int):incr l 0↔∀ j,j<l.length→j+1<l.length→l.getD j 0<l.getD (j+1) 0:=⟨fun h j _ h2=>h j (by omega) h2,fun h j _ h2=>h j (by omega) h2⟩
instance (l:List Int):Decidable (incr l 0):=decidable_of_iff _ (yQC l).symm
instance (len:Int) (cuts dens:List Int):Decidable (VC len cuts dens):=by unfold VC;infer_instance
def ckC (len:Int) (cuts dens:List Int):Int:=if len>1000∨cuts.length>40 then 4 else if VC len cuts dens then 0 else 8
theorem yNU (l:List Int) (x:Int):(l.foldl mnf x<0)↔¬(∀ d∈x::l,0≤d):=by
 induction l generalizing x with
 | nil=>simp
 | cons y t ih =>
  rw [List.foldl_cons,ih]
  unfold mnf
  simp only [List.forall_mem_cons]
  split
  ·constructor
   ·intro h h2;exact h ⟨h2.2.1,h2.2.2⟩
   ·intro h h2;exact h ⟨by omega,h2.1,h2.2⟩
  ·constructor
   ·intro h h2;exact h ⟨h2.1,h2.2.2⟩
   ·intro h h2;exact h ⟨h2.1,by omega,h2.2⟩
theorem yAc (l:List Int) (x k:Int):(l.foldl mxf x>k)↔¬(∀ d∈x::l,d≤k):=by
 induction l generalizing x with
 | nil=>simp
 | cons y t ih =>
  rw [List.foldl_cons,ih]
  unfold mxf
  simp only [List.forall_mem_cons]
  split
  ·constructor
   ·intro h h2;exact h ⟨h2.2.1,h2.2.2⟩
   ·intro h h2;exact h ⟨by omega,h2.1,h2.2⟩
  ·constructor
   ·intro h h2;exact h ⟨h2.1,h2.2.2⟩
   ·intro h h2;exact h ⟨h2.1,by omega,h2.2⟩
theorem yoK {len:Int} {cuts dens:List Int} (h1:cuts.length<4611686018427387904) (h2:dens.length<4611686018427387904) (K:Int→Prop) :
  yas len (ints cuts) (ints dens) K=K (ckC len cuts dens):=by
 refine yEj _ _ _ _ (fun K k=>?_) K
 unfold yas yqT
 simp only [ybG]
 have bad:¬(len>1000∨cuts.length>40)→¬VC len cuts dens→K 8:=fun h h2=>by
  rw [ckC,if_neg h,if_neg h2] at k;exact k
 by_cases a1:len>1000
 ·rw [cbT a1];rw [ckC,if_pos (.inl a1)] at k;exact k
 rw [cbF a1]
 by_cases a2:cuts.length>40
 ·rw [cbT (by omega)];rw [ckC,if_pos (.inr a2)] at k;exact k
 have a12:¬(len>1000∨cuts.length>40):=by omega
 rw [cbF (by omega)]
 by_cases a3:len<1
 ·rw [cbT a3];exact bad a12 (fun h=>by have:=h.1;omega)
 rw [cbF a3]
 by_cases a4:cuts.length<2
 ·rw [cbT (by omega)];exact bad a12 (fun h=>by have:=h.2.2.1;omega)
 rw [cbF (by omega),wib (n:=(cuts.length:Int)-1) (by omega) (by omega)]
 by_cases a5:dens.length+1=cuts.length
 case neg=>rw [cnT (by omega)];exact bad a12 (fun h=>a5 h.2.2.2.2.1)
 rw [cnF (by omega),asT (by omega),asC (by omega),ydZ (by omega)]
 by_cases a6:cuts.getD 0 0=0
 case neg=>rw [cnT a6];exact bad a12 (fun h=>a6 h.2.2.2.2.2.1)
 rw [cnF a6,asT (by omega),asT (by omega),asC (by omega),ydZ (by omega)]
 have en:((cuts.length:Int)-1).toNat=cuts.length-1:=by omega
 rw [en]
 by_cases a7:cuts.getD (cuts.length-1) 0=len
 case neg=>rw [cnT a7];exact bad a12 (fun h=>a7 h.2.2.2.2.2.2.1)
 rw [cnF a7]
 refine ⟨cuts.length+1,?_⟩
 refine yMQ (by omega) _ _ _ _ (cuts.length-1) 0 _ (by omega) (by omega) (fun hi=>?_) (fun hi=>bad a12 (fun h=>hi h.2.2.2.2.2.2.2.1))
 obtain ⟨x,t,e⟩:∃ x t,dens=x::t:=by
  cases dens with
  | nil=>exfalso;have:([]:List Int).length=0:=rfl;omega
  | cons x t=>exact ⟨x,t,rfl⟩
 refine yTO (by omega) e ?_
 by_cases b1:t.foldl mnf x<0
 ·rw [cbT b1]
  rw [yNU] at b1
  exact bad a12 (fun h=>b1 fun d hd=>(h.2.2.2.2.2.2.2.2.1 d (by rw [e];exact hd)).1)
 rw [cbF b1]
 refine yQw (by omega) e ?_
 by_cases b2:t.foldl mxf x>12
 ·rw [cbT b2]
  rw [yAc] at b2
  exact bad a12 (fun h=>b2 fun d hd=>(h.2.2.2.2.2.2.2.2.1 d (by rw [e];exact hd)).2)
 rw [cbF b2]
 refine yQw (by omega) e ?_
 have c1:∀ d∈dens,0≤d:=by rw [yNU,Classical.not_not,← e] at b1;exact b1
 have c2:∀ d∈dens,d≤12:=by rw [yAc,Classical.not_not,← e] at b2;exact b2
 by_cases b3:t.foldl mxf x=0
 ·rw [ceT b3]
  refine bad a12 (fun h=>?_)
  obtain ⟨d,hd,h0⟩:=h.2.2.2.2.2.2.2.2.2
  have:¬(t.foldl mxf x>0):=by omega
  rw [yAc,Classical.not_not,← e] at this
  have:=this d hd
  omega
 ·rw [ceF b3]
  have b4:t.foldl mxf x>0:=by
   refine Int.not_le.1 fun hle=>b3 ?_
   have:t.foldl mxf x>-1:=by
    rw [yAc]
    intro h
    have h1:=h x (qAj ..)
    have h2:=c1 x (by rw [e];exact qAj ..)
    omega
   omega
  rw [yAc,← e] at b4
  have b5:yE1 dens:=by
   refine Classical.byContradiction fun hn=>b4 fun d hd=>?_
   exact Int.not_lt.1 fun hlt=>hn ⟨d,hd,hlt⟩
  rw [ckC,if_neg a12,if_pos ⟨by omega,by omega,by omega,by omega,a5,a6,a7,hi,fun d hd=>⟨c1 d hd,c2 d hd⟩,b5⟩] at k
  exact k
theorem ylt (n:Int) (K:Int→Int→Prop):ybQ n K=K (n:Rat).num (n:Rat).den:=rfl
theorem yiG {q r:Rat} (hq:small q) (hr:small r) (K:Bool→Prop):ybX q.num q.den r.num r.den K=K (decide (q<r)):=by
 unfold ybX ysq
 rw [yAb hq hr]
 congr 1
 rw [decide_eq_decide,cmpQ]
 by_cases h:q<r
 ·simp [h]
 ·by_cases h2:r<q <;> simp [h,h2]
def PT (len:Int) (n d:Int):Prop:=RV n d∧0≤n∧n≤len*d
instance (len n d:Int):Decidable (PT len n d):=by unfold PT;infer_instance
theorem yTP {len n d:Int} (h:PT len n d):∃ q:Rat,small q∧q.num=n∧(q.den:Int)=d∧0≤q∧q≤(len:Rat):=by
 obtain ⟨h1,h2,h3⟩:=h
 obtain ⟨q,e1,e2,e3⟩:=yMR h1
 refine ⟨q,e1,e2,e3,?_,?_⟩
 ·rw [← Rat.num_nonneg,e2];exact h2
 ·rw [Rat.le_iff,e2,e3,Rat.num_intCast,Rat.den_intCast];simpa using h3
theorem yMS (x:Int) (q:Rat):((x:Rat)<q)↔x*(q.den:Int)<q.num:=by
 rw [Rat.lt_iff,Rat.num_intCast,Rat.den_intCast];simp
theorem yE2 {len:Int} (hl:-1000000000000000000≤len∧len≤1000000000000000000) {n d:Int} (hn:I64 n) (hd:I64 d) (a b:List PV) (K:Bool→Prop) :
  ycd len a b n d K=K (decide (PT len n d)):=by
 unfold ycd yqW
 rw [yHp hn hd]
 by_cases h:RV n d
 ·obtain ⟨q,e1,e2,e3⟩:=yMR h
  rw [chk,if_pos h,ceT rfl]
  by_cases h0:n≥0
  ·rw [cbT h0,ylt,← e2,← e3,yiG (ymD hl) e1]
   congr 1
   have:((len:Rat)<q)↔len*(q.den:Int)<q.num:=yMS _ _
   by_cases h3:(len:Rat)<q
   ·have h4:=this.1 h3
    rw [decide_eq_true h3,decide_eq_false];rfl
    intro hp;have:=hp.2.2;omega
   ·have h4:¬_:=fun x=>h3 (this.2 x)
    rw [decide_eq_false h3,decide_eq_true];rfl
    exact ⟨e1.rv,by omega,by omega⟩
  ·rw [cbF h0,decide_eq_false]
   intro hp;have:=hp.2.1;omega
 ·rw [chk,if_neg h,ceF (by decide),decide_eq_false]
  intro hp;exact h hp.1
end Go.Pf.Vc
namespace Go.Pf.Vc
open Go Go.Pf
section
variable {len:Int} {cuts dens:List Int}
theorem VC.step (h:VC len cuts dens) {i:Nat} (hi:i+1<cuts.length):cuts.getD i 0<cuts.getD (i+1) 0:=h.2.2.2.2.2.2.2.1 i (qBh _) hi
theorem VC.mono (h:VC len cuts dens) {i:Nat}:∀ {j:Nat},i≤j→j<cuts.length→cuts.getD i 0≤cuts.getD j 0
 | 0,hij,_=>by
  have:i=0:=by omega
  subst this;exact Int.le_refl _
 | j+1,hij,hj=>by
  by_cases e:i=j+1
  ·subst e;exact Int.le_refl _
  ·have h1:=h.mono (i:=i) (j:=j) (by omega) (by omega)
   have h2:=h.step (i:=j) hj
   omega
theorem VC.lo (h:VC len cuts dens) {i:Nat} (hi:i<cuts.length):0≤cuts.getD i 0:=by
 have:=h.mono (qBh i) hi
 rw [h.2.2.2.2.2.1] at this;exact this
theorem VC.hi (h:VC len cuts dens) {i:Nat} (hi:i<cuts.length):cuts.getD i 0≤len:=by
 have:=h.mono (i:=i) (j:=cuts.length-1) (by omega) (by omega)
 rw [h.2.2.2.2.2.2.1] at this;exact this
theorem VC.den (h:VC len cuts dens) {i:Nat} (hi:i<dens.length):0≤dens.getD i 0∧dens.getD i 0≤12:=by
 rw [qAa,qAb hi]
 exact h.2.2.2.2.2.2.2.2.1 _ (qBr hi)
theorem VC.l1 (h:VC len cuts dens):dens.length+1=cuts.length:=h.2.2.2.2.1
theorem VC.l2 (h:VC len cuts dens):cuts.length≤40:=h.2.2.2.1
theorem VC.len0 (h:VC len cuts dens):1≤len∧len≤1000:=⟨h.1,h.2.1⟩
theorem VC.sc (h:VC len cuts dens) {i:Nat} (hi:i<cuts.length):small ((cuts.getD i 0:Int):Rat):=ymD (by have:=h.lo hi;have:=h.hi hi;have:=h.len0;omega)
theorem VC.sd (h:VC len cuts dens) {i:Nat} (hi:i<dens.length):small ((dens.getD i 0:Int):Rat):=ymD (by have:=h.den hi;omega)
theorem yAd (h:ckC len cuts dens=0):VC len cuts dens:=by
 unfold ckC at h
 split at h
 ·omega
 ·split at h
  ·assumption
  ·omega
theorem VC.ck (h:VC len cuts dens):ckC len cuts dens=0:=by
 rw [ckC,if_neg (by have:=h.l2;have:=h.len0;omega),if_pos h]
def totS (cuts dens:List Int):Nat→Nat→Int→Int
 | 0,_,s=>s
 | r+1,i,s=>totS cuts dens r (i+1) (s+dens.getD i 0*(cuts.getD (i+1) 0-cuts.getD i 0))
def totC (cuts dens:List Int):Int:=totS cuts dens dens.length 0 0
theorem yKO {d x:Int} (h:0≤d∧d≤12) (hx:0≤x):0≤d*x∧d*x≤12*x:=⟨qA7 h.1 hx,qA2 h.2 hx⟩
theorem yE3 (h:VC len cuts dens):∀ (r i:Nat) (s:Int),i+r=dens.length→0≤s→s≤12*cuts.getD i 0→0≤totS cuts dens r i s∧totS cuts dens r i s≤12*len
 | 0,i,s,hi,h0,h1=>by
  have:=h.l1
  have:=h.hi (i:=i) (by omega)
  unfold totS
  omega
 | r+1,i,s,hi,h0,h1=>by
  unfold totS
  have l1:=h.l1
  have h2:=h.step (i:=i) (by omega)
  have h3:=yKO (h.den (i:=i) (by omega)) (x:=cuts.getD (i+1) 0-cuts.getD i 0) (by omega)
  exact yE3 h r (i+1) _ (by omega) (by omega) (by omega)
theorem yhr (h:VC len cuts dens):0≤totC cuts dens∧totC cuts dens≤12000:=by
 have l1:=h.l1
 have h0:=h.lo (i:=0) (by omega)
 have:=yE3 h dens.length 0 0 (by omega) (by omega) (by omega)
 have h2:=h.len0
 unfold totC;omega
theorem yE4 (h:VC len cuts dens) (W:Int→List PV→List PV→(Int→Prop)→Prop) (x0:Int→List PV→List PV→Int→List PV→Int→Int→Bool→Prop) :
  ∀ (r i n:Nat) (s:Int),i+r=dens.length→r<n→0≤s→s≤12*cuts.getD i 0 →
   ydH W x0 n len (ints cuts) (ints dens) s (ints dens) dens.length i=x0 len (ints cuts) (ints dens) (totS cuts dens r i s) (ints dens) dens.length dens.length false
 | 0,i,n+1,s,hi,hn,h0,h1=>by
  unfold ydH totS
  rw [cbF (by omega)]
  have:(i:Int)=dens.length:=by omega
  rw [this]
 | r+1,i,n+1,s,hi,hn,h0,h1=>by
  unfold ydH
  have l1:=h.l1;have l2:=h.l2
  have h2:=h.step (i:=i) (by omega)
  have h3:=yKO (h.den (i:=i) (by omega)) (x:=cuts.getD (i+1) 0-cuts.getD i 0) (by omega)
  have a1:=h.lo (i:=i) (by omega)
  have a2:=h.hi (i:=i+1) (by omega)
  have a3:=h.len0
  have e1:=wib (n:=(i:Int)+1) (by omega) (by omega)
  have e2:=wib (n:=cuts.getD (i+1) 0-cuts.getD i 0) (by omega) (by omega)
  have e3:=wib (n:=dens.getD i 0*(cuts.getD (i+1) 0-cuts.getD i 0)) (by omega) (by omega)
  have e4:=wib (n:=s+dens.getD i 0*(cuts.getD (i+1) 0-cuts.getD i 0)) (by omega) (by omega)
  rw [cbT (by omega),ybG,ybG,e1,yda,qAe,qAe,asT (by omega),asT (by omega),asC (by omega),asT (by omega),asT (by omega),asC (by omega),asT (by omega),asT (by omega),asC (by omega),ydZ (by omega),ydZ (by omega),ydZ (by omega),e2,e3,e4]
  exact yE4 h W x0 r (i+1) n _ (by omega) (by omega) (by omega) (by omega)
theorem yBu (h1:cuts.length<4611686018427387904) (h2:dens.length<4611686018427387904) (K:Int→Int→Prop) :
  yae len (ints cuts) (ints dens) K=if ckC len cuts dens=0 then K (totC cuts dens) 0 else K 0 (ckC len cuts dens):=by
 by_cases h:ckC len cuts dens=0
 ·rw [if_pos h]
  refine yEk _ _ _ _ _ (fun K k=>?_) K
  unfold yae ymO
  have hv:=yAd h
  rw [yoK h1 h2,h,cnF rfl]
  refine ⟨dens.length+1,?_⟩
  have l1:=hv.l1
  have a1:=hv.lo (i:=0) (by omega)
  rw [ybG]
  have:=yE4 hv yas (fun b c d a e f g j=>(K a (0:Int))) dens.length 0 (dens.length+1) 0 (by omega) (by omega) (by omega) (by omega)
  rw [show ((0:Nat):Int)=0 from rfl] at this
  rw [this]
  exact k
 ·rw [if_neg h]
  unfold yae ymO
  rw [yoK h1 h2,cnT h]
def exK (e:Except Int Rat) (K:Int→Int→Int→Prop):Prop:=match e with | .ok q=>K q.num q.den 0 | .error c=>K 0 0 c
def fit {α:Type} (q:Rat) (k:Rat→Except Int α):Except Int α:=if small q then k q else .error 16
def valS (cuts dens:List Int) (b:Rat):Nat→Nat→Rat→Rat→Except Int Rat
 | 0,_,_,sum=>.ok sum
 | r+1,i,p,sum =>
  let en:Rat:=if b<(cuts.getD (i+1) 0:Int) then b else (cuts.getD (i+1) 0:Int)
  if dens.getD i 0=0∨¬p<en then valS cuts dens b r (i+1) (if p<en then en else p) sum
  else fit (en-p) fun l=>fit (l*(dens.getD i 0:Int)) fun w=>fit (sum+w) fun s=>valS cuts dens b r (i+1) en s
def valC (cuts dens:List Int) (a b:Rat):Except Int Rat:=valS cuts dens b dens.length 0 a 0
theorem yjg {q:Rat} {K:Int→Int→Int→Prop}:fitK q K=if small q then K q.num q.den 0 else K 0 0 16:=rfl
theorem yE5 (h:VC len cuts dens) {b:Rat} (hb:small b) (an ad:Int) (W1:Int→List PV→List PV→(Int→Prop)→Prop) (W2:Int→List PV→List PV→Int→Int→(Bool→Prop)→Prop) (K:Int→Int→Int→Prop) :
  ∀ (r i n:Nat) (p sum:Rat),i+r=dens.length→r<n→small p→small sum →
   ya4 W1 W2 ybX ybQ ybP ybA yaH (fun a d e=>(K a d e)) (fun _ _ _ _ _ _ _ f g _ _ _ _ _ _=>(K f g (0:Int)))
    n len (ints cuts) (ints dens) b.num b.den an ad sum.num sum.den p.num p.den (ints dens) dens.length i=exK (valS cuts dens b r i p sum) K
 | 0,i,n+1,p,sum,hi,hn,hp,hs=>by
  unfold ya4 valS
  rw [cbF (by omega)];rfl
 | r+1,i,n+1,p,sum,hi,hn,hp,hs=>by
  unfold ya4
  have l1:=h.l1;have l2:=h.l2
  have sc:=h.sc (i:=i+1) (by omega)
  have sd:=h.sd (i:=i) (by omega)
  have e1:=wib (n:=(i:Int)+1) (by omega) (by omega)
  rw [cbT (by omega),ybG,ybG,e1,yda,qAe,qAe,asT (by omega),asT (by omega),asC (by omega),asT (by omega),asT (by omega),asC (by omega),ydZ (by omega),ydZ (by omega),ylt,yiG hb sc]
  have ih:=fun p sum hp hs=>yE5 h hb an ad W1 W2 K r (i+1) n p sum (by omega) (by omega) hp hs
  unfold valS
  by_cases hbc:b<((cuts.getD (i+1) 0:Int):Rat)
  ·rw [cbT hbc]
   simp only [if_pos hbc]
   by_cases hd:dens.getD i 0=0
   ·rw [ceT hd,if_pos (.inl hd),yiG hp hb]
    by_cases hpb:p<b
    ·rw [cbT hpb,if_pos hpb];exact ih b sum hb hs
    ·rw [cbF hpb,if_neg hpb];exact ih p sum hp hs
   ·rw [ceF hd,yiG hp hb]
    by_cases hpb:p<b
    ·have hc:¬(dens.getD i 0=0∨¬p<b):=by simp [hpb];exact hd
     rw [if_neg hc,decide_eq_true hpb,qBt,yac,yDa hb hp,yjg]
     by_cases s1:small (b-p)
     ·rw [if_pos s1,cnF rfl,ylt,yI5 s1 sd,yjg,fit,if_pos s1]
      by_cases s2:small ((b-p)*(dens.getD i 0:Int))
      ·rw [if_pos s2,cnF rfl,yC9 hs s2,yjg,fit,if_pos s2]
       by_cases s3:small (sum+(b-p)*(dens.getD i 0:Int))
       ·rw [if_pos s3,cnF rfl,fit,if_pos s3];exact ih b _ hb s3
       ·rw [if_neg s3,cnT (by decide),fit,if_neg s3];rfl
      ·rw [if_neg s2,cnT (by decide),fit,if_neg s2];rfl
     ·rw [if_neg s1,cnT (by decide),fit,if_neg s1];rfl
    ·rw [if_pos (.inr hpb),decide_eq_false hpb,qB2,yal,yiG hp hb,cbF hpb,if_neg hpb];exact ih p sum hp hs
  ·rw [cbF hbc]
   simp only [if_neg hbc]
   obtain ⟨c,hc⟩:∃ c:Rat,c=((cuts.getD (i+1) 0:Int):Rat):=⟨_,rfl⟩
   rw [← hc] at sc ⊢
   by_cases hd:dens.getD i 0=0
   ·rw [ceT hd,if_pos (.inl hd),yiG hp sc]
    by_cases hpb:p<c
    ·rw [cbT hpb,if_pos hpb];exact ih c sum sc hs
    ·rw [cbF hpb,if_neg hpb];exact ih p sum hp hs
   ·rw [ceF hd,yiG hp sc]
    by_cases hpb:p<c
    ·have hcc:¬(dens.getD i 0=0∨¬p<c):=by simp [hpb];exact hd
     rw [if_neg hcc,decide_eq_true hpb,qBt,yac,yDa sc hp,yjg]
     by_cases s1:small (c-p)
     ·rw [if_pos s1,cnF rfl,ylt,yI5 s1 sd,yjg,fit,if_pos s1]
      by_cases s2:small ((c-p)*(dens.getD i 0:Int))
      ·rw [if_pos s2,cnF rfl,yC9 hs s2,yjg,fit,if_pos s2]
       by_cases s3:small (sum+(c-p)*(dens.getD i 0:Int))
       ·rw [if_pos s3,cnF rfl,fit,if_pos s3];exact ih c _ sc s3
       ·rw [if_neg s3,cnT (by decide),fit,if_neg s3];rfl
      ·rw [if_neg s2,cnT (by decide),fit,if_neg s2];rfl
     ·rw [if_neg s1,cnT (by decide),fit,if_neg s1];rfl
    ·rw [if_pos (.inr hpb),decide_eq_false hpb,qB2,yal,yiG hp sc,cbF hpb,if_neg hpb];exact ih p sum hp hs
end
end Go.Pf.Vc
namespace Go.Pf.Vc
open Go Go.Pf
def rt (n d:Int):Rat:=mkRat n d.toNat
theorem yhs (q:Rat):rt q.num q.den=q:=by unfold rt;rw [qAe,Rat.mkRat_self]
theorem yrW {n d:Int} (h:RV n d):small (rt n d)∧(rt n d).num=n∧((rt n d).den:Int)=d:=by
 obtain ⟨q,h1,h2,h3⟩:=yMR h
 subst h2 h3
 rw [yhs];exact ⟨h1,rfl,rfl⟩
theorem PT.pt {len n d:Int} (h:PT len n d):small (rt n d)∧(rt n d).num=n∧((rt n d).den:Int)=d∧0≤rt n d∧rt n d≤(len:Rat):=by
 obtain ⟨q,h1,h2,h3,h4,h5⟩:=yTP h
 subst h2 h3
 rw [yhs];exact ⟨h1,rfl,rfl,h4,h5⟩
theorem yKP {len:Int} {q:Rat} (h:small q) (h0:0≤q) (h1:q≤(len:Rat)):PT len q.num q.den:=by
 refine ⟨h.rv,Rat.num_nonneg.2 h0,?_⟩
 rw [Rat.le_iff,Rat.num_intCast,Rat.den_intCast] at h1
 simpa using h1
section
variable {len:Int} {cuts dens:List Int}
def valR (len:Int) (cuts dens:List Int) (an ad bn bd:Int):Except Int Rat :=
 if ckC len cuts dens=0 then (if PT len an ad∧PT len bn bd∧¬rt bn bd<rt an ad then valC cuts dens (rt an ad) (rt bn bd) else .error 2) else .error (ckC len cuts dens)
theorem yQD {w:(Int→Int→Int→Prop)→Prop} {e:Except Int Rat} (det:∀ r0 r1 r2,(∀ K:Int→Int→Int→Prop,K r0 r1 r2→w K)→∀ K,w K=K r0 r1 r2) (h:∀ K,exK e K→w K) (K:Int→Int→Int→Prop):w K=exK e K:=by
 cases e with
 | ok q=>exact det _ _ _ h K
 | error c=>exact det _ _ _ h K
theorem yHr (h1:cuts.length<4611686018427387904) (h2:dens.length<4611686018427387904) {an ad bn bd:Int} (ha:I64 an) (ha':I64 ad) (hb:I64 bn) (hb':I64 bd) (K:Int→Int→Int→Prop) :
  ybw len (ints cuts) (ints dens) an ad bn bd K=exK (valR len cuts dens an ad bn bd) K:=by
 refine yQD (fun r0 r1 r2 h K=>yEl _ _ _ _ _ _ _ r0 r1 r2 h K) (fun K k=>?_) K
 unfold ybw yqY
 rw [yoK h1 h2]
 unfold valR at k
 by_cases h:ckC len cuts dens=0
 case neg=>rw [cnT h];rw [if_neg h] at k;exact k
 have hv:=yAd h
 have hl:=hv.len0
 rw [if_pos h] at k
 rw [cnF h,yE2 (by omega) ha ha']
 by_cases p1:PT len an ad
 case neg=>rw [decide_eq_false p1,qB2,yal];rw [if_neg (fun x=>p1 x.1)] at k;exact k
 rw [decide_eq_true p1,qBt,yac,yE2 (by omega) hb hb']
 by_cases p2:PT len bn bd
 case neg=>rw [decide_eq_false p2,qB2,yal];rw [if_neg (fun x=>p2 x.2.1)] at k;exact k
 rw [decide_eq_true p2,qBt,yac]
 obtain ⟨s1,e1,e2,_,_⟩:=p1.pt
 obtain ⟨s2,f1,f2,_,_⟩:=p2.pt
 have hless:=yiG s2 s1
 rw [e1,e2,f1,f2] at hless
 rw [hless]
 by_cases p3:rt bn bd<rt an ad
 ·rw [cbT p3];rw [if_neg (fun x=>x.2.2 p3)] at k;exact k
 rw [cbF p3]
 rw [if_pos ⟨p1,p2,p3⟩] at k
 rw [ylt,ybG]
 refine ⟨dens.length+1,?_⟩
 have:=yE5 hv s2 0 0 yas ycd K dens.length 0 (dens.length+1) (rt an ad) 0 (by omega) (by omega) s1 (by decide)
 rw [e1,e2,f1,f2] at this
 exact this.mpr k
def mrkS (cuts dens:List Int):Nat→Nat→Rat→Rat→Except Int Rat
 | 0,_,_,_=>.error 6
 | r+1,i,p,v =>
  if ¬p<(cuts.getD (i+1) 0:Int) then mrkS cuts dens r (i+1) p v
  else if dens.getD i 0=0 then mrkS cuts dens r (i+1) (cuts.getD (i+1) 0:Int) v
  else fit ((cuts.getD (i+1) 0:Int)-p) fun l=>fit (l*(dens.getD i 0:Int)) fun w =>
   if w<v then fit (v-w) fun v'=>mrkS cuts dens r (i+1) (cuts.getD (i+1) 0:Int) v'
   else fit (v / (dens.getD i 0:Int)) fun s=>fit (p+s) .ok
def mrkC (cuts dens:List Int) (a v:Rat):Except Int Rat:=if v=0 then .ok a else mrkS cuts dens dens.length 0 a v
def mrkR (len:Int) (cuts dens:List Int) (an ad vn vd:Int):Except Int Rat :=
 if ckC len cuts dens=0 then (if PT len an ad∧RV vn vd∧0≤vn then mrkC cuts dens (rt an ad) (rt vn vd) else .error 2) else .error (ckC len cuts dens)
theorem yHs (h:VC len cuts dens) (W1:Int→List PV→List PV→(Int→Prop)→Prop) (W2:Int→List PV→List PV→Int→Int→(Bool→Prop)→Prop) (W3:Int→Int→(Int→Prop)→Prop) (K:Int→Int→Int→Prop) :
  ∀ (r i n:Nat) (p v:Rat) (o1 o2:Int),i+r=dens.length→r<n→small p→small v →
   ybD W1 W2 W3 ybQ ybX ybP ybA yaz yaH
    (fun _ _ b d f a=>(cbr (a !=(0:Int)) (cbr (a !=(0:Int)) (K (0:Int) (0:Int) a) (K b d (0:Int))) (cbr (f !=(0:Int)) (K (0:Int) (0:Int) f) (K b d (0:Int)))))
    (fun _ _ j k g _ _ _ _ _ _ _ _ _=>(cbr (g !=(0:Int)) (K (0:Int) (0:Int) g) (K j k (0:Int))))
    n v.num v.den o1 o2 6 len (ints cuts) (ints dens) p.num p.den (ints dens) dens.length i=exK (mrkS cuts dens r i p v) K
 | 0,i,n+1,p,v,o1,o2,hi,hn,hp,hs=>by
  unfold ybD mrkS
  rw [cbF (by omega)];rfl
 | r+1,i,n+1,p,v,o1,o2,hi,hn,hp,hs=>by
  unfold ybD
  have l1:=h.l1;have l2:=h.l2
  have sc:=h.sc (i:=i+1) (by omega)
  have sd:=h.sd (i:=i) (by omega)
  have hd0:=h.den (i:=i) (by omega)
  have e1:=wib (n:=(i:Int)+1) (by omega) (by omega)
  rw [cbT (by omega),ybG,ybG,e1,yda,qAe,qAe,asT (by omega),asT (by omega),asC (by omega),asT (by omega),asT (by omega),asC (by omega),ydZ (by omega),ydZ (by omega),ylt,yiG hp sc]
  have ih:=fun p v o1 o2 hp hs=>yHs h W1 W2 W3 K r (i+1) n p v o1 o2 (by omega) (by omega) hp hs
  unfold mrkS
  obtain ⟨c,hc⟩:∃ c:Rat,c=((cuts.getD (i+1) 0:Int):Rat):=⟨_,rfl⟩
  rw [← hc] at sc ⊢
  by_cases hpc:p<c
  case neg=>rw [decide_eq_false hpc,qB2,yal,if_pos hpc];exact ih p v o1 o2 hp hs
  rw [decide_eq_true hpc,qBt,yac,if_neg (fun x=>x hpc),ylt]
  by_cases hd:dens.getD i 0=0
  ·rw [cbF (by omega),ceT hd,if_pos hd];exact ih c v o1 o2 sc hs
  rw [cbT (by omega),if_neg hd,yDa sc hp,yjg]
  by_cases s1:small (c-p)
  case neg=>rw [if_neg s1,cnT (by decide),cnT (by decide),cnT (by decide),fit,if_neg s1];rfl
  rw [if_pos s1,cnF rfl,ylt,yI5 s1 sd,yjg,fit,if_pos s1]
  by_cases s2:small ((c-p)*(dens.getD i 0:Int))
  case neg=>rw [if_neg s2,cnT (by decide),cnT (by decide),cnT (by decide),fit,if_neg s2];rfl
  rw [if_pos s2,cnF rfl,ceF hd,yiG s2 hs,fit,if_pos s2]
  by_cases hw:(c-p)*(dens.getD i 0:Int)<v
  ·rw [cbT hw,if_pos hw,yDa hs s2,yjg,fit]
   by_cases s3:small (v-(c-p)*(dens.getD i 0:Int))
   ·rw [if_pos s3,if_pos s3,cnF rfl,cnF rfl];exact ih c _ o1 o2 sc s3
   ·rw [if_neg s3,if_neg s3,cnT (by decide),cnT (by decide),cnF rfl,cnT (by decide)];rfl
  ·have hdn:((dens.getD i 0:Int):Rat)≠0:=fun e=>hd (Rat.intCast_eq_zero_iff.1 e)
   rw [cbF hw,if_neg hw,ylt,yNQ hs sd hdn,yjg,fit]
   by_cases s3:small (v / (dens.getD i 0:Int))
   ·rw [if_pos s3,if_pos s3,ceT rfl,yC9 hp s3,yjg,fit]
    by_cases s4:small (p+v / (dens.getD i 0:Int))
    ·rw [if_pos s4,if_pos s4,cnF rfl,cnF rfl];rfl
    ·rw [if_neg s4,if_neg s4,cnF rfl,cnT (by decide)];rfl
   ·rw [if_neg s3,if_neg s3,ceF (by decide),cnF rfl,cnT (by decide)];rfl
theorem yKQ (h1:cuts.length<4611686018427387904) (h2:dens.length<4611686018427387904) {an ad vn vd:Int} (ha:I64 an) (ha':I64 ad) (hv:I64 vn) (hv':I64 vd) (K:Int→Int→Int→Prop) :
  yiq len (ints cuts) (ints dens) an ad vn vd K=exK (mrkR len cuts dens an ad vn vd) K:=by
 refine yQD (fun r0 r1 r2 h K=>yGa _ _ _ _ _ _ _ r0 r1 r2 h K) (fun K k=>?_) K
 unfold yiq ysr
 rw [yoK h1 h2]
 unfold mrkR at k
 by_cases h:ckC len cuts dens=0
 case neg=>rw [cnT h];rw [if_neg h] at k;exact k
 have hc:=yAd h
 have hl:=hc.len0
 rw [if_pos h] at k
 rw [cnF h,yE2 (by omega) ha ha']
 by_cases p1:PT len an ad
 case neg=>rw [decide_eq_false p1,qB2,yal];rw [if_neg (fun x=>p1 x.1)] at k;exact k
 rw [decide_eq_true p1,qBt,yac,yHp hv hv',chk]
 by_cases p2:RV vn vd
 case neg=>rw [if_neg p2,cnT (by decide)];rw [if_neg (fun x=>p2 x.2.1)] at k;exact k
 rw [if_pos p2,cnF rfl]
 by_cases p3:vn<0
 ·rw [cbT p3];rw [if_neg (fun x=>by omega)] at k;exact k
 rw [cbF p3]
 rw [if_pos ⟨p1,p2,by omega⟩] at k
 obtain ⟨s1,e1,e2,_,_⟩:=p1.pt
 obtain ⟨s2,f1,f2⟩:=yrW p2
 unfold mrkC at k
 by_cases p4:vn=0
 ·rw [ceT p4]
  rw [if_pos (Rat.num_eq_zero.1 (f1.trans p4))] at k
  have k:K (rt an ad).num (rt an ad).den 0:=k
  rw [e1,e2] at k
  exact k
 rw [ceF p4]
 rw [if_neg (fun x=>p4 (by rw [← f1,x];rfl))] at k
 rw [ybG]
 refine ⟨dens.length+1,?_⟩
 have:=yHs hc yas ycd yby K dens.length 0 (dens.length+1) (rt an ad) (rt vn vd) 0 0 (by omega) (by omega) s1 s2
 rw [e1,e2,f1,f2] at this
 exact this.mpr k
end
end Go.Pf.Vc
namespace Go.Pf.Vc
open Go Go.Pf
section
variable {len:Int} {cuts dens:List Int}
def okD (cuts dens:List Int) (i:Nat):Prop:=∀ j,i≤j→j<dens.length→cuts.getD j 0<cuts.getD (j+1) 0∧0≤dens.getD j 0∧dens.getD j 0≤12
theorem yve (l1:dens.length+1=cuts.length) (l2:dens.length<4611686018427387904) (x0:Int→Prop) (x1:Int→List PV→List PV→Bool→Int→Bool→Prop) (P:Prop)
  (hbad:¬okD cuts dens 0→x0 8=P) (hgood:∀ b:Bool,okD cuts dens 0→b=decide (∃ j,j<dens.length∧0<dens.getD j 0)→x1 len (ints cuts) (ints dens) b dens.length false=P) :
  ∀ (r i n:Nat) (b:Bool),i+r=dens.length→r<n→(∀ j,j<i→cuts.getD j 0<cuts.getD (j+1) 0∧0≤dens.getD j 0∧dens.getD j 0≤12)→b=decide (∃ j,j<i∧0<dens.getD j 0) →
   ydv x0 x1 n len (ints cuts) (ints dens) b i=P
 | 0,i,n+1,b,hi,hn,hj,hb=>by
  unfold ydv
  rw [ybG,cbF (by omega),show (i:Int)=dens.length by omega]
  refine hgood b (fun j _ h=>hj j (by omega)) ?_
  rw [hb,decide_eq_decide]
  rw [show i=dens.length by omega]
 | r+1,i,n+1,b,hi,hn,hj,hb=>by
  unfold ydv
  have e1:=wib (n:=(i:Int)+1) (by omega) (by omega)
  rw [ybG,ybG,cbT (by omega),e1,yda,qAe,qAe,asT (by omega),asT (by omega),asC (by omega),asT (by omega),asT (by omega),asC (by omega),ydZ (by omega),ydZ (by omega)]
  have bad:¬(cuts.getD i 0<cuts.getD (i+1) 0∧0≤dens.getD i 0∧dens.getD i 0≤12)→x0 8=P:=fun h=>hbad fun hk=>h (hk i (by omega) (by omega))
  by_cases a1:cuts.getD (i+1) 0≤cuts.getD i 0
  ·rw [cbT a1];exact bad (by omega)
  rw [cbF a1,asT (by omega),asT (by omega),asC (by omega),ydZ (by omega)]
  by_cases a2:dens.getD i 0<0
  ·rw [cbT a2];exact bad (by omega)
  rw [cbF a2,asT (by omega),asT (by omega),asC (by omega)]
  by_cases a3:dens.getD i 0>12
  ·rw [cbT a3];exact bad (by omega)
  rw [cbF a3]
  have hj2:∀ j,j<i+1→cuts.getD j 0<cuts.getD (j+1) 0∧0≤dens.getD j 0∧dens.getD j 0≤12:=by
   intro j hlt
   by_cases e:j=i
   ·subst e;omega
   ·exact hj j (by omega)
  have ex:∀ c:Bool,(c=true↔(b=true∨0<dens.getD i 0))→c=decide (∃ j,j<i+1∧0<dens.getD j 0):=by
   intro c hc
   rw [Bool.eq_iff_iff,hc,hb,decide_eq_true_iff,decide_eq_true_iff]
   constructor
   ·rintro (⟨j,h1,h2⟩ | h)
    ·exact ⟨j,by omega,h2⟩
    ·exact ⟨i,by omega,h⟩
   ·rintro ⟨j,h1,h2⟩
    by_cases e:j=i
    ·subst e;exact .inr h2
    ·exact .inl ⟨j,by omega,h2⟩
  cases b with
  | true =>
   rw [yal]
   exact yve l1 l2 x0 x1 P hbad hgood r (i+1) n true (by omega) (by omega) hj2 (ex _ (by simp))
  | false =>
   rw [yac,asT (by omega),asT (by omega),asC (by omega)]
   exact yve l1 l2 x0 x1 P hbad hgood r (i+1) n _ (by omega) (by omega) hj2 (ex _ (by simp))
theorem yHt (h1:cuts.length<4611686018427387904) (h2:dens.length<4611686018427387904) (K:Int→Prop) :
  ycE len (ints cuts) (ints dens) K=K (ckC len cuts dens):=by
 refine yGo _ _ _ _ (fun K k=>?_) K
 unfold ycE ysD
 simp only [ybG]
 have bad:¬(len>1000∨cuts.length>40)→¬VC len cuts dens→K 8:=fun h h2=>by
  rw [ckC,if_neg h,if_neg h2] at k;exact k
 by_cases a1:len>1000
 ·rw [cbT a1];rw [ckC,if_pos (.inl a1)] at k;exact k
 rw [cbF a1]
 by_cases a2:cuts.length>40
 ·rw [cbT (by omega)];rw [ckC,if_pos (.inr a2)] at k;exact k
 have a12:¬(len>1000∨cuts.length>40):=by omega
 rw [cbF (by omega)]
 by_cases a3:len<1
 ·rw [cbT a3];exact bad a12 (fun h=>by have:=h.1;omega)
 rw [cbF a3]
 by_cases a4:cuts.length<2
 ·rw [cbT (by omega)];exact bad a12 (fun h=>by have:=h.2.2.1;omega)
 rw [cbF (by omega),wib (n:=(cuts.length:Int)-1) (by omega) (by omega)]
 by_cases a5:dens.length+1=cuts.length
 case neg=>rw [cnT (by omega)];exact bad a12 (fun h=>a5 h.2.2.2.2.1)
 rw [cnF (by omega),asT (by omega),asC (by omega),ydZ (by omega)]
 by_cases a6:cuts.getD 0 0=0
 case neg=>rw [cnT a6];exact bad a12 (fun h=>a6 h.2.2.2.2.2.1)
 rw [cnF a6,asT (by omega),asT (by omega),asC (by omega),ydZ (by omega)]
 have en:((cuts.length:Int)-1).toNat=cuts.length-1:=by omega
 rw [en]
 by_cases a7:cuts.getD (cuts.length-1) 0=len
 case neg=>rw [cnT a7];exact bad a12 (fun h=>a7 h.2.2.2.2.2.2.1)
 rw [cnF a7]
 have mem:∀ d,d∈dens↔∃ j,j<dens.length∧dens.getD j 0=d:=by
  intro d
  rw [List.mem_iff_getElem]
  constructor
  ·rintro ⟨j,hj,e⟩;exact ⟨j,hj,by rw [qAa,qAb hj];exact e⟩
  ·rintro ⟨j,hj,e⟩;exact ⟨j,hj,by rw [qAa,qAb hj] at e;exact e⟩
 refine ⟨dens.length+1,?_⟩
 refine (yve a5 h2 _ _ (K (ckC len cuts dens)) (fun hk=>?_) (fun b hk hb=>?_) dens.length 0 (dens.length+1) false (by omega) (by omega) (fun j h=>by omega) (by simp)).mpr k
 ·have hv:¬VC len cuts dens:=fun h=>hk fun j _ hj=>⟨h.step (by omega),h.den hj⟩
  rw [ckC,if_neg a12,if_neg hv]
 ·have hsome:yE1 dens↔∃ j,j<dens.length∧0<dens.getD j 0:=by
   constructor
   ·rintro ⟨d,hd,h0⟩
    obtain ⟨j,hj,e⟩:=(mem d).1 hd
    exact ⟨j,hj,by rw [e];exact h0⟩
   ·rintro ⟨j,hj,h0⟩;exact ⟨_,(mem _).2 ⟨j,hj,rfl⟩,h0⟩
  have hv:VC len cuts dens↔yE1 dens:=by
   refine ⟨fun h=>h.2.2.2.2.2.2.2.2.2,fun h=>⟨by omega,by omega,by omega,by omega,a5,a6,a7,fun j _ hj=>(hk j (by omega) (by omega)).1,fun d hd=>?_,h⟩⟩
   obtain ⟨j,hj,e⟩:=(mem d).1 hd
   rw [← e];exact (hk j (by omega) hj).2
  rw [ckC,if_neg a12]
  by_cases hs:yE1 dens
  ·rw [if_pos (hv.2 hs),hb,decide_eq_true (hsome.1 hs)];rfl
  ·rw [if_neg (fun x=>hs (hv.1 x)),hb,decide_eq_false (fun x=>hs (hsome.2 x))];rfl
theorem yE6 (h:VC len cuts dens) (x0:Int→List PV→List PV→Int→Int→Bool→Prop) :
  ∀ (r i n:Nat) (s:Int),i+r=dens.length→r<n→0≤s→s≤12*cuts.getD i 0 →
   yeb x0 n len (ints cuts) (ints dens) s i=x0 len (ints cuts) (ints dens) (totS cuts dens r i s) dens.length false
 | 0,i,n+1,s,hi,hn,h0,h1=>by
  unfold yeb totS
  have:(i:Int)=dens.length:=by omega
  rw [ybG,cbF (by omega),this]
 | r+1,i,n+1,s,hi,hn,h0,h1=>by
  unfold yeb
  have l1:=h.l1;have l2:=h.l2
  have h2:=h.step (i:=i) (by omega)
  have h3:=yKO (h.den (i:=i) (by omega)) (x:=cuts.getD (i+1) 0-cuts.getD i 0) (by omega)
  have a1:=h.lo (i:=i) (by omega)
  have a2:=h.hi (i:=i+1) (by omega)
  have a3:=h.len0
  have e1:=wib (n:=(i:Int)+1) (by omega) (by omega)
  have e2:=wib (n:=cuts.getD (i+1) 0-cuts.getD i 0) (by omega) (by omega)
  have e3:=wib (n:=dens.getD i 0*(cuts.getD (i+1) 0-cuts.getD i 0)) (by omega) (by omega)
  have e4:=wib (n:=s+dens.getD i 0*(cuts.getD (i+1) 0-cuts.getD i 0)) (by omega) (by omega)
  rw [ybG,ybG,cbT (by omega),e1,yda,qAe,qAe,asT (by omega),asT (by omega),asC (by omega),asT (by omega),asT (by omega),asC (by omega),asT (by omega),asT (by omega),asC (by omega),ydZ (by omega),ydZ (by omega),ydZ (by omega),e2,e3,e4]
  exact yE6 h x0 r (i+1) n _ (by omega) (by omega) (by omega) (by omega)
theorem yO5 (hv:VC len cuts dens) (K:Int→Prop):yiw len (ints cuts) (ints dens) K=K (totC cuts dens):=by
 refine yGp _ _ _ _ (fun K k=>?_) K
 unfold yiw ysG
 refine ⟨dens.length+1,?_⟩
 have l1:=hv.l1
 have a1:=hv.lo (i:=0) (by omega)
 have:=yE6 hv (fun b c d a e f=>K a) dens.length 0 (dens.length+1) 0 (by omega) (by omega) (by omega) (by omega)
 rw [show ((0:Nat):Int)=0 from rfl] at this
 rw [this]
 exact k
end
end Go.Pf.Vc
namespace Go.Pf.Vc
open Go Go.Pf
section
variable {len:Int} {cuts dens:List Int}
theorem yro {α:Type} {q:Rat} {k:Rat→Except Int α} (h:small q):fit q k=k q:=if_pos h
theorem yMT {q:Rat} {K:Int→Int→Int→Prop}:exK (.ok q) K=K q.num q.den 0:=rfl
theorem yTQ {c:Int} {K:Int→Int→Int→Prop}:exK (.error c) K=K 0 0 c:=rfl
end
end Go.Pf.Vc
namespace Go.Pf.Vc
open Go Go.Pf
structure Ck where
 len:Int
 cuts:List Int
 dens:List Int
instance:Inhabited Ck:=⟨⟨0,[],[]⟩⟩
def encC (c:Ck):PV:=.agg [.int .i64 c.len,.data (ints c.cuts),.data (ints c.dens)]
def cks (l:List Ck):List PV:=l.map encC
def Ck.fin (c:Ck):Prop:=c.cuts.length<4611686018427387904∧c.dens.length<4611686018427387904
def Ck.err (c:Ck):Int:=ckC c.len c.cuts c.dens
def Ck.ok (c:Ck):Prop:=VC c.len c.cuts c.dens
instance (c:Ck):Decidable c.ok:=by unfold Ck.ok;infer_instance
theorem ya9 (l:List Ck):(cks l).length=l.length:=qAo ..
theorem yfR {l:List Ck} {i:Nat} (h:i<l.length):List.getD (cks l) i .nils=encC (l.getD i default):=by
 unfold cks
 rw [qAa,qAa,qAy,qAb h]
 rfl
theorem yc7 {α:Type} {l:List α} {i:Nat} (d:α) (h:i<l.length):l.drop i=l.getD i d::l.drop (i+1):=by
 rw [List.drop_eq_getElem_cons h,qAa,qAb h];rfl
theorem asCk {c:Ck} {P:Prop}:asr (conf (.agg [.i .i64,.d,.d]) (encC c)) P=P:=rfl
theorem ck0 (c:Ck):yaa (yag (encC c) 0)=c.len:=rfl
theorem ck1 (c:Ck):yaA (yag (encC c) 1)=ints c.cuts:=rfl
theorem ck2 (c:Ck):yaA (yag (encC c) 2)=ints c.dens:=rfl
def yjF:List Ck→Int
 | []=>0
 | c::t=>if c.err=0 then yjF t else c.err
def yp7 (n:Int):List Ck→Bool
 | []=>true
 | c::t=>decide (c.len=n)&&yp7 n t
def yjj (l:List Ck) (m:Nat):Int :=
 if l.length>6 then 4 else if m>2000 then 4 else if l.length=0 then 8 else if yjF l=0 then (if yp7 (l.getD 0 default).len l then 0 else 8) else yjF l
section
variable {l:List Ck}
def finC (l:List Ck):Prop:=∀ i,i<l.length→(l.getD i default).fin
theorem yNV (hf:finC l) (hl:l.length<4611686018427387904) (x0:Int→Prop) (x1:List PV→List PV→List PV→Int→Int→Bool→Prop) (lg:List PV) :
  ∀ (r i n:Nat),i+r=l.length→r<n→yea yas x0 x1 n (cks l) lg (cks l) l.length i =
   if yjF (l.drop i)=0 then x1 (cks l) lg (cks l) l.length l.length false else x0 (yjF (l.drop i))
 | 0,i,n+1,hi,hn=>by
  unfold yea
  rw [cbF (by omega),qAz (by omega),show (i:Int)=l.length by omega];rfl
 | r+1,i,n+1,hi,hn=>by
  unfold yea
  have e1:=wib (n:=(i:Int)+1) (by omega) (by omega)
  obtain ⟨f1,f2⟩:=hf i (by omega)
  rw [cbT (by omega),ya9,qAe,yfR (by omega),asT (by omega),asT (by omega),asCk,ck0,ck1,ck2,yoK (by omega) (by omega),yc7 default (by omega),yjF,e1,yda]
  show cbr ((l.getD i default).err != 0) _ _=_
  by_cases h:(l.getD i default).err=0
  ·rw [cnF h,if_pos h];exact yNV hf hl x0 x1 lg r (i+1) n (by omega) (by omega)
  ·rw [cnT h,if_neg h,if_neg h];rfl
theorem yNW (hl:l.length<4611686018427387904) (x0:Int→Prop) (x1:List PV→List PV→List PV→Int→Int→Bool→Prop) (lg:List PV) (W) :
  ∀ (r i n:Nat),i+r=l.length→r<n→ydr W x0 x1 n (cks l) lg (cks l) l.length i =
   if yp7 (l.getD 0 default).len (l.drop i) then x1 (cks l) lg (cks l) l.length l.length false else x0 8
 | 0,i,n+1,hi,hn=>by
  unfold ydr
  rw [cbF (by omega),qAz (by omega),show (i:Int)=l.length by omega];rfl
 | r+1,i,n+1,hi,hn=>by
  unfold ydr
  have e1:=wib (n:=(i:Int)+1) (by omega) (by omega)
  rw [cbT (by omega),ya9,qAe,yfR (by omega),yfR (by omega),asT (by omega),asT (by omega),asCk,asT (by omega),asCk,ck0,ck0,yc7 default (by omega),yp7,e1,yda]
  by_cases h:(l.getD i default).len=(l.getD 0 default).len
  ·rw [cnF h,decide_eq_true h,qBi];exact yNW hl x0 x1 lg W r (i+1) n (by omega) (by omega)
  ·rw [cnT h,decide_eq_false h,qBn,if_neg (by simp)]
theorem yvG (hf:finC l) (hl:l.length<4611686018427387904) (lg:List PV) (K:Int→Prop):ybr (cks l) lg K=K (yjj l lg.length):=by
 refine yGf _ _ _ (fun K k=>?_) K
 unfold ybr ysw
 unfold yjj at k
 rw [ya9]
 by_cases a1:l.length>6
 ·rw [cbT (by omega)];rw [if_pos a1] at k;exact k
 rw [cbF (by omega)];rw [if_neg a1] at k
 by_cases a2:lg.length>2000
 ·rw [cbT (by omega)];rw [if_pos a2] at k;exact k
 rw [cbF (by omega)];rw [if_neg a2] at k
 by_cases a3:l.length=0
 ·rw [ceT (by omega)];rw [if_pos a3] at k;exact k
 rw [ceF (by omega)];rw [if_neg a3] at k
 refine ⟨l.length+1,?_⟩
 have h0:=yNV hf hl (fun c=>K c) (fun a d o p q r=>(∃ e:Nat,ydr yas (fun b=>(K b)) (fun f g i j m n=>(K (0:Int))) e a d a (((List.length a):Nat):Int) (0:Int))) lg l.length 0 (l.length+1) (by omega) (by omega)
 rw [show ((0:Nat):Int)=0 from rfl,qA0] at h0
 rw [h0]
 by_cases a4:yjF l=0
 ·rw [if_pos a4] at k ⊢
  refine ⟨l.length+1,?_⟩
  have h1:=yNW hl (fun b=>(K b)) (fun f g i j m n=>(K (0:Int))) lg yas l.length 0 (l.length+1) (by omega) (by omega)
  rw [show ((0:Nat):Int)=0 from rfl,qA0] at h1
  rw [ya9,h1]
  split at k <;> rename_i h <;> simp only [h] <;> exact k
 ·rw [if_neg a4] at k ⊢;exact k
theorem yNX (hf:finC l) (hl:l.length<4611686018427387904) (x0:Int→Prop) (x1:List PV→List PV→Int→Bool→Prop) (lg:List PV) :
  ∀ (r i n:Nat),i+r=l.length→r<n→yec ycE x0 x1 n (cks l) lg i =
   if yjF (l.drop i)=0 then x1 (cks l) lg l.length false else x0 (yjF (l.drop i))
 | 0,i,n+1,hi,hn=>by
  unfold yec
  rw [ya9,cbF (by omega),qAz (by omega),show (i:Int)=l.length by omega];rfl
 | r+1,i,n+1,hi,hn=>by
  unfold yec
  have e1:=wib (n:=(i:Int)+1) (by omega) (by omega)
  obtain ⟨f1,f2⟩:=hf i (by omega)
  rw [ya9,cbT (by omega),qAe,yfR (by omega),asT (by omega),asT (by omega),asCk,ck0,ck1,ck2,yHt (by omega) (by omega),yc7 default (by omega),yjF,e1,yda]
  show cbr ((l.getD i default).err != 0) _ _=_
  by_cases h:(l.getD i default).err=0
  ·rw [cnF h,if_pos h];exact yNX hf hl x0 x1 lg r (i+1) n (by omega) (by omega)
  ·rw [cnT h,if_neg h,if_neg h,asT (by omega),asT (by omega),asCk,yHt (by omega) (by omega)];rfl
theorem yNY (hl:l.length<4611686018427387904) (x0:Int→Prop) (x1:List PV→List PV→Int→Bool→Prop) (lg:List PV) (W) :
  ∀ (r i n:Nat),i+r=l.length→r<n→ydw W x0 x1 n (cks l) lg i =
   if yp7 (l.getD 0 default).len (l.drop i) then x1 (cks l) lg l.length false else x0 8
 | 0,i,n+1,hi,hn=>by
  unfold ydw
  rw [ya9,cbF (by omega),qAz (by omega),show (i:Int)=l.length by omega];rfl
 | r+1,i,n+1,hi,hn=>by
  unfold ydw
  have e1:=wib (n:=(i:Int)+1) (by omega) (by omega)
  rw [ya9,cbT (by omega),qAe,yfR (by omega),yfR (by omega),asT (by omega),asT (by omega),asCk,asT (by omega),asCk,ck0,ck0,yc7 default (by omega),yp7,e1,yda]
  by_cases h:(l.getD i default).len=(l.getD 0 default).len
  ·rw [cnF h,decide_eq_true h,qBi];exact yNY hl x0 x1 lg W r (i+1) n (by omega) (by omega)
  ·rw [cnT h,decide_eq_false h,qBn,if_neg (by simp)]
theorem yO6 (hf:finC l) (hl:l.length<4611686018427387904) (lg:List PV) (K:Int→Prop):yiz (cks l) lg K=K (yjj l lg.length):=by
 refine yGq _ _ _ (fun K k=>?_) K
 unfold yiz ysJ
 unfold yjj at k
 rw [ya9]
 by_cases a1:l.length>6
 ·rw [cbT (by omega)];rw [if_pos a1] at k;exact k
 rw [cbF (by omega)];rw [if_neg a1] at k
 by_cases a2:lg.length>2000
 ·rw [cbT (by omega)];rw [if_pos a2] at k;exact k
 rw [cbF (by omega)];rw [if_neg a2] at k
 by_cases a3:l.length=0
 ·rw [ceT (by omega)];rw [if_pos a3] at k;exact k
 rw [ceF (by omega)];rw [if_neg a3] at k
 refine ⟨l.length+1,?_⟩
 have h0:=yNX hf hl (fun b=>K b) (fun c d m n=>(∃ e:Nat,ydw ycE (fun a=>(K a)) (fun f g i j=>(K (0:Int))) e c d (0:Int))) lg l.length 0 (l.length+1) (by omega) (by omega)
 rw [show ((0:Nat):Int)=0 from rfl,qA0] at h0
 rw [h0]
 by_cases a4:yjF l=0
 ·rw [if_pos a4] at k ⊢
  refine ⟨l.length+1,?_⟩
  have h1:=yNY hl (fun a=>(K a)) (fun f g i j=>(K (0:Int))) lg ycE l.length 0 (l.length+1) (by omega) (by omega)
  rw [show ((0:Nat):Int)=0 from rfl,qA0] at h1
  rw [h1]
  split at k <;> rename_i h <;> simp only [h] <;> exact k
 ·rw [if_neg a4] at k ⊢;exact k
def Ck.low (c:Ck):Prop:=c.cuts.length≤1000∧c.dens.length≤1000
def lowC (l:List Ck):Prop:=∀ i,i<l.length→(l.getD i default).low
theorem yKR (l:List Int):yeC 1 (ints l)=true:=by cases l <;> rfl
theorem yAe {l:List Int} (h:l.length≤1000) (K:List PV→Prop):ydX (ints l) K=K (ints l):=by
 show asr (yoe 1 8 (ints l)) (K (ints l))=_
 have:yoe 1 8 (ints l)=true:=by
  unfold yoe
  rw [yKR,ybG,qBi,decide_eq_true_iff]
  unfold room;omega
 rw [this,yaD]
theorem asTT {c:Bool} {P:Prop} (h:c=true):asr c P=P:=by rw [h,yaD]
theorem yNZ (hf:lowC l) (hl:l.length≤1000) (x0:List PV→List PV→Int→Int→Bool→Prop) (x1:List PV→Int→Int→Bool→Prop) :
  ∀ (r i n:Nat) (acc:List PV),i+r=l.length→r<n→acc.length≤i→ydI ydX x0 x1 n acc (cks l) l.length i=x0 (acc++cks (l.drop i)) (cks l) l.length l.length false
 | 0,i,n+1,acc,hi,hn,ha=>by
  unfold ydI
  rw [cbF (by omega),qAz (by omega),show (i:Int)=l.length by omega]
  show _=x0 (acc++[]) _ _ _ _
  rw [qBx]
 | r+1,i,n+1,acc,hi,hn,ha=>by
  unfold ydI
  have e1:=wib (n:=(i:Int)+1) (by omega) (by omega)
  obtain ⟨f1,f2⟩:=hf i (by omega)
  rw [cbT (by omega),ya9,qAe,yfR (by omega),asT (by omega),asT (by omega),asCk,ck0,ck1,ck2,yAe f1,yAe f2,asT rfl,asT (by omega),asTT (by rw [decide_eq_false (by omega)];rfl),asT rfl,asT (by unfold room;omega),asTT (by simp),e1,yda]
  rw [yNZ hf hl x0 x1 r (i+1) n _ (by omega) (by omega) (by simp;omega),yc7 (i:=i) default (by omega),qBd];rfl
theorem yHu (hf:lowC l) (hl:l.length≤1000) (K:List PV→Prop):yfk (cks l) K=K (cks l):=by
 refine yEs _ _ (fun K k=>?_) K
 unfold yfk yq1
 cases hc:l with
 | nil =>
  refine ⟨0+1,?_⟩
  rw [hc] at k
  rw [yft,ya9,cbF (by simp)]
  exact k
 | cons c t =>
  rw [← hc]
  have h0:0<l.length:=by rw [hc];exact Nat.zero_lt_succ _
  refine ⟨(l.length+1)+1,?_⟩
  rw [yft]
  obtain ⟨f1,f2⟩:=hf 0 (by omega)
  have e1:=wib (n:=(0:Int)+1) (by omega) (by omega)
  rw [ya9,cbT (by omega),show (0:Int).toNat=0 from rfl,yfR (by omega),asT (by omega),asT (by omega),asCk,ck0,ck1,ck2,yAe f1,yAe f2,asTT (by simp),e1,show (0:Int)+1=((0+1:Nat):Int) from rfl]
  rw [yNZ hf hl _ _ (l.length-1) (0+1) (l.length+1) _ (by omega) (by omega) (by simp)]
  have e:[PV.agg [PV.int IntKind.i64 (l.getD 0 default).len,PV.data (ints (l.getD 0 default).cuts),PV.data (ints (l.getD 0 default).dens)]]++cks (l.drop (0+1))=cks l:=by
   conv=>rhs;rw [← qA0 (l:=l),yc7 default h0]
   rfl
  rw [e,asT rfl,asT (by omega),List.take_length]
  exact k
end
end Go.Pf.Vc
namespace Go.Pf.Vc
open Go Go.Pf
section
variable {l:List Ck}
theorem yCe:∀ (l:List Ck),yjF l=0→∀ i,i<l.length→(l.getD i default).ok
 | c::t,h,0,_=>by
  unfold yjF at h
  split at h
  ·rename_i h1;exact yAd h1
  ·rename_i h1;exact absurd h h1
 | c::t,h,i+1,hi=>by
  unfold yjF at h
  split at h
  ·exact yCe t h i (by simpa using hi)
  ·rename_i h1;exact absurd h h1
theorem yE7 {n:Int}:∀ (l:List Ck),yp7 n l=true→∀ i,i<l.length→(l.getD i default).len=n
 | c::t,h,0,_=>by
  unfold yp7 at h
  simp only [qAc,decide_eq_true_eq] at h
  exact h.1
 | c::t,h,i+1,hi=>by
  unfold yp7 at h
  simp only [qAc,decide_eq_true_eq] at h
  exact yE7 t h.2 i (by simpa using hi)
structure DK (l:List Ck):Prop where
 n6:l.length≤6
 n0:1≤l.length
 ok:∀ i,i<l.length→(l.getD i default).ok
 len:∀ i,i<l.length→(l.getD i default).len=(l.getD 0 default).len
theorem ysZ {m:Nat} (h:yjj l m=0):DK l∧m≤2000:=by
 unfold yjj at h
 split at h
 ·omega
 split at h
 ·omega
 split at h
 ·omega
 split at h
 ·rename_i h0 h1 h2 h3
  split at h
  ·rename_i h4
   exact ⟨⟨by omega,by omega,yCe l h3,yE7 l h4⟩,by omega⟩
  ·omega
 ·rename_i h3;exact absurd h h3
theorem DK.err {l:List Ck} (h:DK l) {m:Nat} (hm:m≤2000):yjj l m=0:=by
 have f:∀ l:List Ck,(∀ i,i<l.length→(l.getD i default).ok)→yjF l=0:=by
  intro l
  induction l with
  | nil=>intro _;rfl
  | cons c t ih =>
   intro h
   unfold yjF
   rw [if_pos (show c.err=0 from (h 0 (Nat.zero_lt_succ _)).ck)]
   exact ih fun i hi=>h (i+1) (by simpa using hi)
 have g:∀ (n:Int) (l:List Ck),(∀ i,i<l.length→(l.getD i default).len=n)→yp7 n l=true:=by
  intro n l
  induction l with
  | nil=>intro _;rfl
  | cons c t ih =>
   intro h
   unfold yp7
   rw [qAc,decide_eq_true_eq]
   exact ⟨h 0 (Nat.zero_lt_succ _),ih fun i hi=>h (i+1) (by simpa using hi)⟩
 have:=h.n6;have:=h.n0
 unfold yjj
 rw [if_neg (by omega),if_neg (by omega),if_neg (by omega),if_pos (f l h.ok),if_pos (g _ l h.len)]
theorem DK.low {l:List Ck} (h:DK l):lowC l:=fun i hi=>by
 have h1:=(h.ok i hi).l1;have h2:=(h.ok i hi).l2
 exact ⟨by omega,by omega⟩
theorem DK.fin {l:List Ck} (h:DK l):finC l:=fun i hi=>by
 have h1:=(h.ok i hi).l1;have h2:=(h.ok i hi).l2
 exact ⟨by omega,by omega⟩
theorem yQE (hf:finC l) (hl:l.length<4611686018427387904) (K:List PV→List PV→Int→Prop):ycg (cks l) K=if yjj l 0=0 then K (cks l) [] 0 else K [] [] (yjj l 0):=by
 unfold ycg yur
 rw [yvG hf hl]
 show cbr (yjj l 0 != 0) _ _=_
 by_cases h:yjj l 0=0
 ·have hd:=(ysZ h).1
  rw [cnF h,if_pos h,yHu hd.low (by have:=hd.n6;omega)]
 ·rw [cnT h,if_neg h];rfl
def qrow (agent kind an ad bn bd cn cd:Int):PV:=.agg [.int .i64 agent,.int .u8 kind,.int .i64 an,.int .i64 ad,.int .i64 bn,.int .i64 bd,.int .i64 cn,.int .i64 cd]
def qryR (l:List Ck) (m:Nat) (agent:Int) (ans:Ck→Except Int Rat):Except Int Rat :=
 if yjj l m=0 then (if 0≤agent∧agent<l.length then (match ans (l.getD agent.toNat default) with
  | .ok p=>if m≥2000 then .error 4 else .ok p
  | .error e=>.error e) else .error 2) else .error (yjj l m)
def qryK (l:List Ck) (lg:List PV) (row:Rat→PV) (e:Except Int Rat) (K:List PV→List PV→Int→Int→Int→Prop):Prop :=
 match e with
 | .ok p=>K (cks l) (lg++[row p]) p.num p.den 0
 | .error c=>K [] [] 0 0 c
theorem yUw {w:(List PV→List PV→Int→Int→Int→Prop)→Prop} {l:List Ck} {lg:List PV} {row:Rat→PV} {e:Except Int Rat} (det:∀ r0 r1 r2 r3 r4,(∀ K:List PV→List PV→Int→Int→Int→Prop,K r0 r1 r2 r3 r4→w K)→∀ K,w K=K r0 r1 r2 r3 r4)
  (h:∀ K,qryK l lg row e K→w K) (K):w K=qryK l lg row e K:=by
 cases e with
 | ok q=>exact det _ _ _ _ _ h K
 | error c=>exact det _ _ _ _ _ h K
theorem mk1 {z q:PV} {lg:List PV} {m:Nat} (hm:m=lg.length) :
  List.take ((0+m)+1) ((List.take (0+(0+m)) (lg++(List.drop (0+m) (List.replicate (m+1) z))))++(([q]:List PV)++(List.drop ((0+(0+m))+1) (lg++(List.drop (0+m) (List.replicate (m+1) z))))))=lg++[q]:=by
 subst hm
 simp
 rw [qAw (by simp)]
theorem yQF (lg:List PV) (agent:Int) (K:Bool→Prop):ybL (cks l) lg agent K=K (decide (0≤agent∧agent<l.length)):=by
 unfold ybL ylb
 rw [ya9]
 by_cases h:agent≥0
 ·rw [cbT h]
  congr 1
  rw [decide_eq_decide];omega
 ·rw [cbF h,decide_eq_false (by omega)]
def Ck.mark (an ad vn vd:Int) (c:Ck):Except Int Rat:=mrkR c.len c.cuts c.dens an ad vn vd
theorem yQG (hf:finC l) (hl:l.length<4611686018427387904) {lg:List PV} (hlg:yeC 8 lg=true) {agent an ad vn vd:Int} (ha:I64 an) (ha':I64 ad) (hv:I64 vn) (hv':I64 vd) (K) :
  ybF (cks l) lg agent an ad vn vd K=qryK l lg (fun p=>qrow agent 2 an ad vn vd p.num p.den) (qryR l lg.length agent (Ck.mark an ad vn vd)) K:=by
 refine yUw (fun r0 r1 r2 r3 r4 h K=>yII _ _ _ _ _ _ _ r0 r1 r2 r3 r4 h K) (fun K k=>?_) K
 unfold ybF yut
 unfold qryR at k
 rw [yvG hf hl]
 by_cases h:yjj l lg.length=0
 case neg=>rw [cnT h];rw [if_neg h] at k;exact k
 obtain ⟨hd,hm⟩:=ysZ h
 rw [if_pos h] at k
 rw [cnF h,yQF]
 by_cases h2:0≤agent∧agent<l.length
 case neg=>rw [decide_eq_false h2,qB2,yal];rw [if_neg h2] at k;exact k
 rw [if_pos h2] at k
 obtain ⟨a,rfl⟩:∃ a:Nat,agent=a:=⟨agent.toNat,by omega⟩
 have ha2:a<l.length:=by omega
 rw [qAe] at k
 obtain ⟨f1,f2⟩:=hf a ha2
 rw [decide_eq_true h2,qBt,yac,ybE,yhl,ya9,qAe,yfR ha2,asT (by omega),asT (by omega),asCk,ck0,ck1,ck2,yKQ (by omega) (by omega) ha ha' hv hv']
 have em:Ck.mark an ad vn vd (l.getD a default)=mrkR (l.getD a default).len (l.getD a default).cuts (l.getD a default).dens an ad vn vd:=rfl
 rw [em] at k
 cases hr:mrkR (l.getD a default).len (l.getD a default).cuts (l.getD a default).dens an ad vn vd with
 | error c =>
  rw [hr] at k
  have k:K [] [] 0 0 c:=k
  rw [yTQ]
  have hc:c≠0:=by
   intro hc
   subst hc
   unfold mrkR at hr
   split at hr
   ·split at hr
    ·unfold mrkC at hr
     split at hr
     ·cases hr
     ·have no:∀ (r i:Nat) (p v:Rat),mrkS (l.getD a default).cuts (l.getD a default).dens r i p v≠.error 0:=by
       intro r
       induction r with
       | zero=>intro i p v e;unfold mrkS at e;cases e
       | succ r ih =>
        intro i p v e
        unfold mrkS fit at e
        repeat' (first | split at e | dsimp only at e)
        all_goals first | exact ih _ _ _ e | cases e
      exact no _ _ _ _ hr
    ·cases hr
   ·rename_i h5;exact h5 (Except.error.inj hr)
  rw [cnT hc];exact k
 | ok p =>
  rw [hr] at k
  rw [yMT,cnF rfl]
  by_cases h3:lg.length≥2000
  ·rw [cbT (by omega)]
   have k:qryK l lg _ (if lg.length≥2000 then .error 4 else .ok p) K:=k
   rw [if_pos h3] at k;exact k
  ·have k:qryK l lg _ (if lg.length≥2000 then .error 4 else .ok p) K:=k
   rw [if_neg h3] at k
   have k:K (cks l) (lg++[qrow a 2 an ad vn vd p.num p.den]) p.num p.den 0:=k
   have e1:=wib (n:=(lg.length:Int)+1) (by omega) (by omega)
   have e2:((lg.length:Int)+1).toNat=lg.length+1:=by omega
   rw [cbF (by omega),e1,e2,asT (by omega),asT (by unfold room;omega),yHu hd.low (by have:=hd.n6;omega),hlg,yaD]
   rw [asT (by simp),asT (by omega)]
   cases hlg2:lg with
   | nil =>
    rw [List.isEmpty_nil,yal,asT (by simp),asT (by simp),asT (by simp),asT (by simp),asT (by simp)]
    rw [hlg2] at k
    exact k
   | cons x t =>
    rw [← hlg2,show List.isEmpty lg=false by rw [hlg2];rfl,yac,asT (by omega),asT (by simp),asT (by omega),asT (by omega),asT (by simp),asT (by omega)]
    rw [mk1 rfl]
    exact k
end
end Go.Pf.Vc
namespace Go.Pf.Vc
open Go Go.Pf
section
variable {l:List Ck}
def yyk (l:List Ck):Bool:=l.any (fun c=>decide (c.cuts.length>60)||decide (c.dens.length>60))||decide (l.length>10)
theorem yO7 {len:Int} {cuts dens:List Int} (K:Bool→Prop):ygg len (ints cuts) (ints dens) K=K (decide (cuts.length>60)||decide (dens.length>60)):=by
 unfold ygg ysB
 rw [ybG,ybG]
 by_cases h:cuts.length>60
 ·rw [cbT (by omega),decide_eq_true h];rfl
 ·rw [cbF (by omega),decide_eq_false h,Bool.false_or]
  congr 1;rw [decide_eq_decide];omega
theorem ytn (hl:l.length≤9223372036854775807) (K:Bool→Prop) :
  ∀ (r i n:Nat),i+r=l.length→r<n→ycl ygg (fun a=>(K a)) (fun b _ _=>(K (decide ((((List.length b):Nat):Int)>(10:Int))))) n (cks l) i =
   K ((l.drop i).any (fun c=>decide (c.cuts.length>60)||decide (c.dens.length>60))||decide (l.length>10))
 | 0,i,n+1,hi,hn=>by
  unfold ycl
  rw [ya9,cbF (by omega),qAz (by omega)]
  show K _=K (false||_)
  rw [Bool.false_or]
  congr 1;rw [decide_eq_decide];omega
 | r+1,i,n+1,hi,hn=>by
  unfold ycl
  have e1:=wib (n:=(i:Int)+1) (by omega) (by omega)
  rw [ya9,cbT (by omega),qAe,yfR (by omega),asT (by omega),asT (by omega),asCk,ck0,ck1,ck2,yO7,yc7 default (by omega),List.any_cons,e1,yda]
  cases hb:(decide ((l.getD i default).cuts.length>60)||decide ((l.getD i default).dens.length>60)) with
  | true=>rw [yal];rfl
  | false=>rw [yac,Bool.false_or];exact ytn hl K r (i+1) n (by omega) (by omega)
theorem yGy (hl:l.length≤9223372036854775807) (K:Bool→Prop):yeo (cks l) K=K (yyk l):=by
 refine yx8 _ _ (fun K k=>?_) K
 unfold yeo ylf
 refine ⟨l.length+1,?_⟩
 have:=ytn hl K l.length 0 (l.length+1) (by omega) (by omega)
 rw [show ((0:Nat):Int)=0 from rfl,qA0] at this
 rw [this];exact k
theorem yE8 (h:yyk l=false):l.length≤10∧lowC l∧finC l:=by
 unfold yyk at h
 simp only [Bool.or_eq_false_iff,decide_eq_false_iff_not,List.any_eq_false,Bool.not_eq_true,Nat.not_lt] at h
 have hh:∀ i,i<l.length→(l.getD i default).cuts.length≤60∧(l.getD i default).dens.length≤60:=by
  intro i hi
  have hm:l.getD i default∈l:=by rw [qAa,qAb hi];exact qBr hi
  have:=h.1 _ hm
  omega
 exact ⟨by omega,fun i hi=>⟨by have:=hh i hi;omega,by have:=hh i hi;omega⟩,fun i hi=>⟨by have:=hh i hi;omega,by have:=hh i hi;omega⟩⟩
def shr (c:Ck) (n:Int):Rat:=(totC c.cuts c.dens:Rat) / (n:Rat)
theorem yHv {n d:Int} (hn:-1000000000000000000≤n∧n≤1000000000000000000) (hd:1≤d∧d≤1000000000000000000):small ((n:Rat) / (d:Rat)):=by
 have e:(n:Rat) / (d:Rat)=mkRat n d.toNat:=by
  rw [Rat.mkRat_eq_div]
  have h1:((d.toNat:Nat):Int)=d:=by omega
  have h2:((d.toNat:Nat):Rat)=(d:Rat):=by rw [← Rat.intCast_natCast,h1]
  rw [h2]
 rw [e]
 unfold small
 rw [Rat.num_mkRat,Rat.den_mkRat,if_neg (by omega),if_neg (by omega)]
 have g0:0<d.toNat.gcd n.natAbs:=Nat.gcd_pos_of_pos_left _ (by omega)
 have h1:(n / (d.toNat.gcd n.natAbs:Nat)).natAbs≤n.natAbs:=by
  rw [Int.natAbs_ediv_of_dvd,Int.natAbs_natCast]
  ·exact qBq _ _
  ·rw [← Int.dvd_natAbs,Int.ofNat_dvd];exact Nat.gcd_dvd_right _ _
 have h2:d.toNat / d.toNat.gcd n.natAbs≤d.toNat:=qBq _ _
 generalize n / (d.toNat.gcd n.natAbs:Nat)=x at *
 generalize d.toNat / d.toNat.gcd n.natAbs=y at *
 omega
theorem yBv {c:Ck} (h:c.ok) {n:Int} (hn:1≤n∧n≤1000):small (shr c n):=by
 have:=yhr h
 exact yHv (by omega) (by omega)
end
end Go.Pf.Vc
namespace Go.Pf.Vc
open Go Go.Pf
theorem rne {D:Int} (h:1≤D):(D:Rat)≠0:=fun e=>by have:=Rat.intCast_eq_zero_iff.1 e;omega
section
variable {len:Int} {cuts dens:List Int}
def rem (cuts dens:List Int):Nat→Nat→Int
 | 0,_=>0
 | r+1,i=>dens.getD i 0*(cuts.getD (i+1) 0-cuts.getD i 0)+rem cuts dens r (i+1)
theorem yE9 (cuts dens:List Int):∀ (r i:Nat) (s:Int),totS cuts dens r i s=s+rem cuts dens r i
 | 0,i,s=>by unfold totS rem;omega
 | r+1,i,s=>by unfold totS rem;rw [yE9 cuts dens r (i+1)];omega
theorem yHw (h:VC len cuts dens):∀ (r i:Nat),i+r=dens.length→0≤rem cuts dens r i∧rem cuts dens r i≤12*(len-cuts.getD i 0)
 | 0,i,hi=>by
  have:=h.l1
  have:=h.hi (i:=i) (by omega)
  unfold rem;omega
 | r+1,i,hi=>by
  unfold rem
  have l1:=h.l1
  have h2:=h.step (i:=i) (by omega)
  have h3:=yKO (h.den (i:=i) (by omega)) (x:=cuts.getD (i+1) 0-cuts.getD i 0) (by omega)
  have:=yHw h r (i+1) (by omega)
  omega
theorem yN0 (h:VC len cuts dens):∀ (r i:Nat),i+r=dens.length→(∃ j,i≤j∧j<dens.length∧0<dens.getD j 0)→0<rem cuts dens r i
 | 0,i,hi,⟨j,h1,h2,_⟩=>by omega
 | r+1,i,hi,⟨j,h1,h2,h3⟩=>by
  unfold rem
  have l1:=h.l1
  have s:=h.step (i:=i) (by omega)
  have m:=yKO (h.den (i:=i) (by omega)) (x:=cuts.getD (i+1) 0-cuts.getD i 0) (by omega)
  have b:=yHw h r (i+1) (by omega)
  by_cases e:j=i
  ·subst e
   have:=Int.mul_pos h3 (show 0<cuts.getD (j+1) 0-cuts.getD j 0 by omega)
   omega
  ·have:=yN0 h r (i+1) (by omega) ⟨j,by omega,h2,h3⟩
   omega
theorem yFa (h:VC len cuts dens):0<totC cuts dens:=by
 unfold totC
 rw [yE9]
 obtain ⟨d,hd,h0⟩:=h.2.2.2.2.2.2.2.2.2
 obtain ⟨j,hj,e⟩:=List.mem_iff_getElem.1 hd
 have:=yN0 h dens.length 0 (by omega) ⟨j,by omega,hj,by rw [qAa,qAb hj];simpa [e] using h0⟩
 omega
end
end Go.Pf.Vc
namespace Go.Pf.Vc
open Go Go.Pf
structure Qy where
 agent:Int
 kind:Int
 an:Int
 ad:Int
 bn:Int
 bd:Int
 cn:Int
 cd:Int
 deriving DecidableEq
instance:Inhabited Qy:=⟨⟨0,0,0,0,0,0,0,0⟩⟩
def encQ (q:Qy):PV:=qrow q.agent q.kind q.an q.ad q.bn q.bd q.cn q.cd
def logs (l:List Qy):List PV:=l.map encQ
theorem yrX (l:List Qy):(logs l).length=l.length:=qAo ..
theorem ySr {l:List Qy} {i:Nat} (h:i<l.length):List.getD (logs l) i .nils=encQ (l.getD i default):=by
 unfold logs
 rw [qAa,qAa,qAy,qAb h]
 rfl
theorem yO8 (l:List Qy):yeC 8 (logs l)=true:=by cases l <;> rfl
theorem yQH (l m:List Qy):logs (l++m)=logs l++logs m:=List.map_append ..
theorem asQ {q:Qy} {P:Prop}:asr (conf (.agg [.i .i64,.i .u8,.i .i64,.i .i64,.i .i64,.i .i64,.i .i64,.i .i64]) (encQ q)) P=P:=rfl
structure Sp where
 a:Int
 b:Int
 c:Int
 d:Int
 deriving DecidableEq
instance:Inhabited Sp:=⟨⟨0,0,0,0⟩⟩
def encS (s:Sp):PV:=.agg [.int .i64 s.a,.int .i64 s.b,.int .i64 s.c,.int .i64 s.d]
def yfQ (l:List Sp):List PV:=l.map encS
def pieces (l:List (List Sp)):List PV:=l.map fun s=>.data (yfQ s)
theorem ykz (l:List Sp):(yfQ l).length=l.length:=qAo ..
theorem yvf {l:List Sp} {i:Nat} (h:i<l.length):List.getD (yfQ l) i .nils=encS (l.getD i default):=by
 unfold yfQ
 rw [qAa,qAa,qAy,qAb h]
 rfl
theorem yiH (l:List (List Sp)):(pieces l).length=l.length:=qAo ..
theorem yO9 {l:List (List Sp)} {i:Nat} (h:i<l.length):List.getD (pieces l) i .nils=.data (yfQ (l.getD i [])):=by
 unfold pieces
 rw [qAa,qAa,qAy,qAb h]
 rfl
theorem asS {s:Sp} {P:Prop}:asr (conf (.agg [.i .i64,.i .i64,.i .i64,.i .i64]) (encS s)) P=P:=rfl
theorem asD {r:List PV} {P:Prop}:asr (conf (.one .d) (.data r)) P=P:=rfl
theorem yFb {s:List Sp} (hl:s.length<4611686018427387904) (K:Bool→Prop) :
  ∀ (r i n:Nat),i+r=s.length→r<n→yeI (fun a=>(K a)) (fun _ _ _ _=>(K true)) n (yfQ s) (yfQ s) i=K true
 | 0,i,n+1,hi,hn=>by
  unfold yeI
  rw [ykz,cbF (by omega)]
 | r+1,i,n+1,hi,hn=>by
  unfold yeI
  have e1:=wib (n:=(i:Int)+1) (by omega) (by omega)
  rw [ykz,cbT (by omega),qAe,yvf (by omega),asT (by omega),asT (by omega),asS,asT (by omega),asT (by omega),asS,e1,yda]
  simp only [beq_self_eq_true,Bool.and_self,qBt,yac]
  exact yFb hl K r (i+1) n (by omega) (by omega)
theorem yMU {s:List Sp} (hl:s.length<4611686018427387904) (K:Bool→Prop):ye8 (yfQ s) (yfQ s) K=K true:=by
 refine yIV _ _ _ (fun K k=>?_) K
 unfold ye8 yuQ
 rw [cnF rfl]
 refine ⟨s.length+1,?_⟩
 exact (yFb hl K s.length 0 (s.length+1) (by omega) (by omega)).mpr k
theorem yFc {l:List (List Sp)} (hf:∀ i,i<l.length→(l.getD i []).length<4611686018427387904) (hl:l.length<4611686018427387904) (K:Bool→Prop) :
  ∀ (r i n:Nat),i+r=l.length→r<n→yeJ ye8 (fun a=>(K a)) (fun _ _ _ _=>(K true)) n (pieces l) (pieces l) i=K true
 | 0,i,n+1,hi,hn=>by
  unfold yeJ
  rw [yiH,cbF (by omega)]
 | r+1,i,n+1,hi,hn=>by
  unfold yeJ
  have e1:=wib (n:=(i:Int)+1) (by omega) (by omega)
  rw [yiH,cbT (by omega),qAe,yO9 (by omega),asT (by omega),asT (by omega),asD,asT (by omega),asT (by omega),asD]
  show ye8 (yfQ (l.getD i [])) (yfQ (l.getD i [])) _=_
  rw [yMU (hf i (by omega)),qBt,yac,e1,yda]
  exact yFc hf hl K r (i+1) n (by omega) (by omega)
theorem yMV {l:List (List Sp)} (hf:∀ i,i<l.length→(l.getD i []).length<4611686018427387904) (hl:l.length<4611686018427387904) (K:Bool→Prop):yj9 (pieces l) (pieces l) K=K true:=by
 refine yIW _ _ _ (fun K k=>?_) K
 unfold yj9 yuT
 rw [cnF rfl]
 refine ⟨l.length+1,?_⟩
 exact (yFc hf hl K l.length 0 (l.length+1) (by omega) (by omega)).mpr k
end Go.Pf.Vc
namespace Go.Pf.Vc
open Go Go.Pf
def getR (e:Except Int Rat):Rat:=match e with | .ok q=>q | .error _=>0
theorem ySs {e:Except Int Rat} {q:Rat} (h:e=.ok q):e=.ok (getR e)∧getR e=q:=by subst h;exact ⟨rfl,rfl⟩
section
variable {l:List Ck}
theorem ySt (x y:Rat):decide (cmpQ x y≥0)=!decide (x<y):=by
 unfold cmpQ
 by_cases h:x<y
 ·simp [h]
 ·by_cases h2:y<x <;> simp [h,h2]
end
end Go.Pf.Vc
namespace Go.Pf.Vc
open Go Go.Pf
def dsC:DS:=.a [.i .i64,.s (.i .i64),.s (.i .i64)]
theorem yN1 {n:Int} (h:inK .i64 n):I64 n:=by
 have e1:IntKind.i64.min=-9223372036854775808:=by decide
 have e2:IntKind.i64.max=9223372036854775807:=by decide
 unfold inK at h
 rw [e1,e2] at h
 exact h
theorem F_i {c:List PV} (h:HasF (.i .i64) c):∃ n,c=[.int .i64 n]∧I64 n:=by
 simp only [HasF] at h
 obtain ⟨n,e,k⟩:=h
 exact ⟨n,e,yN1 k⟩
theorem yI6:∀ (rows:List PV),(∀ x∈rows,x.isAgg=(DS.i .i64).isA∧HasF (.i .i64) x.cells)→∃ l:List Int,rows=ints l∧∀ n∈l,I64 n
 | [],_=>⟨[],rfl,by simp⟩
 | x::r,h=>by
  obtain ⟨l,e,hl⟩:=yI6 r (fun y hy=>h y (qAm _ hy))
  obtain ⟨h1,h2⟩:=h x (qAj ..)
  obtain ⟨n,e2,hn⟩:=F_i h2
  have ex:x=.int .i64 n:=by
   cases x <;> first | (simp only [PV.cells,qAx,and_true] at e2;exact e2) | (cases h1)
  refine ⟨n::l,by rw [ex,e];rfl,?_⟩
  intro m hm
  rcases qAv.1 hm with rfl | hm
  ·exact hn
  ·exact hl m hm
def Ck.i64 (c:Ck):Prop:=I64 c.len∧(∀ n∈c.cuts,I64 n)∧∀ n∈c.dens,I64 n
theorem F_c {c:List PV} (h:HasF dsC c):∃ k:Ck,c=[.int .i64 k.len,.data (ints k.cuts),.data (ints k.dens)]∧k.i64∧k.cuts.length≤9223372036854775807∧k.dens.length≤9223372036854775807:=by
 simp only [dsC,HasF,HasL] at h
 obtain ⟨c1,c2,rfl,⟨n,rfl,hn⟩,c3,c4,rfl,⟨r1,rfl,l1,h1⟩,c5,c6,rfl,⟨r2,rfl,l2,h2⟩,rfl⟩:=h
 obtain ⟨a,rfl,ha⟩:=yI6 r1 (fun x hx=>⟨(h1 x hx).1,by simp only [HasF];exact (h1 x hx).2⟩)
 obtain ⟨b,rfl,hb⟩:=yI6 r2 (fun x hx=>⟨(h2 x hx).1,by simp only [HasF];exact (h2 x hx).2⟩)
 rw [ybG] at l1 l2
 exact ⟨⟨n,a,b⟩,rfl,⟨yN1 hn,ha,hb⟩,l1,l2⟩
theorem yTR {x:PV} {l:List DS} (h:x.isAgg=(DS.a l).isA):x=.agg x.cells:=by
 cases x <;> first | rfl | cases h
theorem yQI:∀ (rows:List PV),(∀ x∈rows,x.isAgg=dsC.isA∧HasF dsC x.cells)→∃ l:List Ck,rows=cks l∧∀ c∈l,c.i64
 | [],_=>⟨[],rfl,by simp⟩
 | x::r,h=>by
  obtain ⟨l,e,hl⟩:=yQI r (fun y hy=>h y (qAm _ hy))
  obtain ⟨h1,h2⟩:=h x (qAj ..)
  obtain ⟨k,e2,hk,_⟩:=F_c h2
  have ex:x=encC k:=by rw [yTR h1,e2];rfl
  refine ⟨k::l,by rw [ex,e];rfl,?_⟩
  intro m hm
  rcases qAv.1 hm with rfl | hm
  ·exact hk
  ·exact hl m hm
theorem yUx {c:List PV} (h:HasF (.s dsC) c):∃ l:List Ck,c=[.data (cks l)]∧l.length≤9223372036854775807∧∀ k∈l,k.i64:=by
 simp only [HasF] at h
 obtain ⟨rows,rfl,hl,hr⟩:=h
 obtain ⟨l,rfl,hi⟩:=yQI rows hr
 rw [ya9] at hl
 exact ⟨l,rfl,hl,hi⟩
theorem yPa {x y:PV} (h:x.isAgg=false) (e:x.cells=[y]):x=y:=by
 cases x <;> first | (simp only [PV.cells,qAx,and_true] at e;exact e) | cases h
theorem yUy {as:List PV} (h:yyW [.s dsC] as):∃ (l:List Ck),as=[.data (cks l)]∧l.length≤9223372036854775807∧∀ k∈l,k.i64:=by
 simp only [yyW] at h
 obtain ⟨x,r,rfl,x1,x2,rfl⟩:=h
 obtain ⟨l,e1,hl,hi⟩:=yUx x2
 rw [yPa x1 e1]
 exact ⟨l,rfl,hl,hi⟩
end Go.Pf.Vc
namespace Go.Pf.Vc
open Go Go.Pf
section
variable {l:List Ck}
theorem yPb {a:Nat} (h2:a<l.length) (hok:(l.getD a default).ok) (hl:l.length≤1000) (lg:List PV) (K:Int→Int→Prop) :
  yfr (cks l) lg a K=K (shr (l.getD a default) l.length).num (shr (l.getD a default) l.length).den:=by
 unfold yfr ysN
 have tb:=yhr hok
 rw [ya9,qAe,yfR h2,asT (by omega),asT (by omega),asCk,ck0,ck1,ck2,yO5 hok,yQA ⟨by omega,by omega⟩ ⟨by omega,by omega⟩ (by omega),yjg]
 have:=yBv hok (n:=(l.length:Int)) ⟨by omega,by omega⟩
 unfold shr at this
 rw [if_pos this];rfl
theorem yQJ {c:Ck} (hok:c.ok) {n:Int} (hn:1≤n∧n≤1000) (K:Int→Int→Prop):ybn c.len (ints c.cuts) (ints c.dens) n K=K (shr c n).num (shr c n).den:=by
 unfold ybn yq6
 have tb:=yhr hok
 have h1:=VC.l1 hok;have h2:=VC.l2 hok
 rw [yBu (by omega) (by omega),if_pos (VC.ck hok),yKN ⟨by omega,by omega⟩ ⟨by omega,by omega⟩ (by omega),yjg]
 have:=yBv hok hn
 unfold shr at this
 rw [if_pos this];rfl
end
theorem yFd {l:List Int} (hl:l.length<4611686018427387904) (K:Bool→Prop) :
  ∀ (r i n:Nat),i+r=l.length→r<n→yeH (fun a=>(K a)) (fun _ _ _ _=>(K true)) n (ints l) (ints l) i=K true
 | 0,i,n+1,hi,hn=>by
  unfold yeH
  rw [ybG,cbF (by omega)]
 | r+1,i,n+1,hi,hn=>by
  unfold yeH
  have e1:=wib (n:=(i:Int)+1) (by omega) (by omega)
  rw [ybG,cbT (by omega),qAe,asT (by omega),asT (by omega),asC (by omega),asT (by omega),asT (by omega),asC (by omega),cnF rfl,e1,yda]
  exact yFd hl K r (i+1) n (by omega) (by omega)
theorem yMW {l:List Int} (hl:l.length<4611686018427387904) (K:Bool→Prop):yj8 (ints l) (ints l) K=K true:=by
 refine yIU _ _ _ (fun K k=>?_) K
 unfold yj8 yuN
 rw [cnF rfl]
 refine ⟨l.length+1,?_⟩
 exact (yFd hl K l.length 0 (l.length+1) (by omega) (by omega)).mpr k
end Go.Pf.Vc
namespace Go.Pf.Vc
open Go Go.Pf
section
variable {l:List Ck}
theorem yrY {α:Type} {q:Rat} {k:Rat→Except Int α} {x:α} (h:fit q k=.ok x):small q∧k q=.ok x:=by
 unfold fit at h
 split at h
 ·rename_i hs;exact ⟨hs,h⟩
 ·cases h
theorem ys0 {cuts dens:List Int}:∀ (r i:Nat) (p v q:Rat),mrkS cuts dens r i p v=.ok q→small q
 | 0,_,_,_,_,h=>by unfold mrkS at h;cases h
 | r+1,i,p,v,q,h=>by
  unfold mrkS at h
  split at h
  ·exact ys0 r _ _ _ _ h
  ·split at h
   ·exact ys0 r _ _ _ _ h
   ·obtain ⟨_,h⟩:=yrY h
    obtain ⟨_,h⟩:=yrY h
    split at h
    ·obtain ⟨_,h⟩:=yrY h
     exact ys0 r _ _ _ _ h
    ·obtain ⟨_,h⟩:=yrY h
     obtain ⟨s,h⟩:=yrY h
     cases h
     exact s
theorem yMX {len:Int} {cuts dens:List Int} {an ad vn vd:Int} {q:Rat} (h:mrkR len cuts dens an ad vn vd=.ok q):small q:=by
 unfold mrkR at h
 split at h
 ·split at h
  ·rename_i hp
   unfold mrkC at h
   split at h
   ·cases h;exact hp.1.pt.1
   ·exact ys0 _ _ _ _ _ h
  ·cases h
 ·cases h
theorem yyl {m:Nat} {agent an ad vn vd:Int} {p:Rat} (h:qryR l m agent (Ck.mark an ad vn vd)=.ok p):small p:=by
 unfold qryR at h
 split at h
 ·split at h
  ·split at h
   ·rename_i q hq
    split at h
    ·cases h
    ·cases h;exact yMX hq
   ·cases h
  ·cases h
 ·cases h
def nts (r:List Nat):List PV:=ints (r.map fun n:Nat=>(n:Int))
theorem ylu (r:List Nat):(nts r).length=r.length:=by unfold nts;rw [ybG,qAo]
theorem yQK {r:List Nat} {i:Nat} (h:i<r.length):List.getD (nts r) i .nils=.int .i64 (r.getD i 0):=by
 unfold nts
 rw [yI4 (by rw [qAo];exact h)]
 rw [qAa,qAy,qAb h,qAa,qAb h]
 rfl
theorem asN {r:List Nat} {i:Nat} {P:Prop} (h:i<r.length):asr (conf (.one (.i .i64)) (List.getD (nts r) i .nils)) P=P:=by rw [yQK h];rfl
def shN (l:List Ck) (a:Nat):Rat:=shr (l.getD a default) l.length
def yqE (l:List Ck) (an ad:Int) (m a:Nat):Except Int Rat:=qryR l m a (Ck.mark an ad (shN l a).num (shN l a).den)
def yxa (l:List Ck) (an ad:Int) (a:Nat) (p:Rat):Qy:=⟨a,2,an,ad,(shN l a).num,(shN l a).den,p.num,p.den⟩
def ykk (j a:Nat) (p:Rat):Option (Nat×Nat×Rat)→Option (Nat×Nat×Rat)
 | none=>some (j,a,p)
 | some (k,b,t)=>if p<t then some (j,a,p) else some (k,b,t)
def rnd (l:List Ck) (an ad:Int):Nat→List Nat→List Qy→Option (Nat×Nat×Rat)→Except Int (List Qy×Option (Nat×Nat×Rat))
 | _,[],lg,b=>.ok (lg,b)
 | j,a::r,lg,b=>match yqE l an ad lg.length a with
  | .error e=>.error e
  | .ok p=>rnd l an ad (j+1) r (lg++[yxa l an ad a p]) (ykk j a p b)
def bJ:Option (Nat×Nat×Rat)→Int | none=>0 | some (j,_,_)=>j
def bN:Option (Nat×Nat×Rat)→Int | none=>0 | some (_,_,t)=>t.num
def bD:Option (Nat×Nat×Rat)→Int | none=>0 | some (_,_,t)=>t.den
def yI7:Option (Nat×Nat×Rat)→Prop | none=>True | some (_,_,t)=>small t
theorem yAf {j a:Nat} {p:Rat} {b:Option (Nat×Nat×Rat)} (hp:small p) (hb:yI7 b):yI7 (ykk j a p b):=by
 cases b with
 | none=>exact hp
 | some x =>
  obtain ⟨k,c,t⟩:=x
  unfold ykk
  dsimp only
  split
  ·exact hp
  ·exact hb
theorem yKS {q r:Rat} (hq:small q) (hr:small r) (K:Bool→Prop):ya8 q.num q.den r.num r.den K=K (decide (q<r)):=by
 unfold ya8 yq8
 rw [yAb hq hr]
 congr 1
 unfold cmpQ
 by_cases h:q<r
 ·rw [if_pos h];simp [h]
 ·rw [if_neg h]
  split <;> simp [h]
theorem yBw (hd:DK l) {a:Nat} (h:a<l.length):small (shN l a):=yBv (hd.ok a h) ⟨by omega,by have:=hd.n6;omega⟩
theorem yKT (hd:DK l) {a:Nat} (h:a<l.length) {an ad:Int} (ha:I64 an) (ha':I64 ad) (lg:List Qy) (K:List PV→List PV→Int→Int→Int→Prop) :
  ybn (l.getD a default).len (ints (l.getD a default).cuts) (ints (l.getD a default).dens) l.length (fun n d=>ybF (cks l) (logs lg) a an ad n d K) =
   match yqE l an ad lg.length a with
   | .ok p=>K (cks l) (logs (lg++[yxa l an ad a p])) p.num p.den 0
   | .error e=>K [] [] 0 0 e:=by
 have hs:=yBw hd h
 have n6:=hd.n6
 rw [yQJ (hd.ok a h) ⟨by omega,by omega⟩]
 rw [show shr (l.getD a default) l.length=shN l a from rfl,yQG hd.fin (by omega) (yO8 lg) ha ha' hs.i1 hs.i2,yrX]
 have em:qryR l lg.length a (Ck.mark an ad (shN l a).num (shN l a).den)=yqE l an ad lg.length a:=rfl
 rw [em]
 cases yqE l an ad lg.length a with
 | ok p =>
  show K (cks l) (logs lg++[_]) _ _ _=K (cks l) (logs (lg++[_])) _ _ _
  rw [yQH];rfl
 | error c=>rfl
end
end Go.Pf.Vc
namespace Go.Pf.Vc
open Go Go.Pf
section
variable {l:List Ck}
theorem yp8 {q:Rat} {k:Rat→Except Int Rat} {e:Int} (h:fit q k=.error e):e=16∨k q=.error e:=by
 unfold fit at h
 split at h
 ·exact .inr h
 ·cases h;exact .inl rfl
theorem yAg {cuts dens:List Int}:∀ (r i:Nat) (p v:Rat) (e:Int),mrkS cuts dens r i p v=.error e→e≠0
 | 0,_,_,_,_,h=>by unfold mrkS at h;cases h;decide
 | r+1,i,p,v,e,h=>by
  have f16:∀ {x:Int} {P:Prop},(x=16∨P)→(P→x≠0)→x≠0:=fun {x P} h1 h2=>by
   rcases h1 with rfl | h1
   ·decide
   ·exact h2 h1
  unfold mrkS at h
  split at h
  ·exact yAg r _ _ _ _ h
  ·split at h
   ·exact yAg r _ _ _ _ h
   ·refine f16 (yp8 h) fun h=>f16 (yp8 h) fun h=>?_
    split at h
    ·exact f16 (yp8 h) fun h=>yAg r _ _ _ _ h
    ·exact f16 (yp8 h) fun h=>f16 (yp8 h) fun h=>by cases h
theorem yQL {len:Int} {cuts dens:List Int} {an ad vn vd e:Int} (h:mrkR len cuts dens an ad vn vd=.error e):e≠0:=by
 unfold mrkR at h
 split at h
 ·split at h
  ·unfold mrkC at h
   split at h
   ·cases h
   ·exact yAg _ _ _ _ _ h
  ·cases h;decide
 ·rename_i hc;cases h;exact hc
theorem yBx {an ad:Int} {m a:Nat} {e:Int} (h:yqE l an ad m a=.error e):e≠0:=by
 unfold yqE qryR at h
 split at h
 ·split at h
  ·split at h
   ·split at h
    ·cases h;decide
    ·cases h
   ·rename_i q hq
    cases h
    exact yQL hq
  ·cases h;decide
 ·rename_i hc;cases h;exact hc
theorem ymE {bk:List Nat} {i:Nat} (h:i<bk.length):yaa (List.getD (nts bk) i .nils)=((bk.getD i 0:Nat):Int):=by rw [yQK h];rfl
theorem yoL {bk:List Nat} {k i:Nat} (h:i<k):(bk.take k).getD i 0=bk.getD i 0:=by
 rw [qAa,qAa,qA3 h]
theorem ylv {bk:List Nat} {i:Nat} (h:i<bk.length):bk.getD i 0∈bk:=by
 rw [qAa,qAb h]
 exact qBr h
theorem yQM (hd:DK l) {an ad:Int} (ha:I64 an) (ha':I64 ad) (bk:List Nat) {k:Nat} (hk:k≤bk.length) (hb:∀ a∈bk,a<l.length) (hk2:bk.length≤6) (pcs:List PV) (n3 n4 n5 c1 c2:Nat) :
  ∀ x0 x1 x2 x3,∀ (r i n:Nat) (lg:List Qy) (b:Option (Nat×Nat×Rat)),i+r=k→r<n→(i=0→b=none)→(0<i→b≠none)→yI7 b →
   ycj ycg ybm ybn ybF ya8 x0 x1 x2 x3 n (nts bk) pcs (cks l) n3 n4 n5 (cks l) (logs lg) k bk.length c1 an ad (bJ b) (bN b) (bD b) k bk.length c2 k i =
    match rnd l an ad i ((bk.take k).drop i) lg b with
    | .ok x=>x1 (nts bk) pcs (cks l) n3 n4 n5 (cks l) (logs x.1) k bk.length c1 an ad (bJ x.2) (bN x.2) (bD x.2) k bk.length c2 k k false
    | .error e=>x0 (nts bk) pcs e:=by
 intro x0 x1 x2 x3 r
 induction r with
 | zero =>
  intro i n lg b hi hn _ _ _
  obtain ⟨n,rfl⟩:∃ m,n=m+1:=⟨n-1,by omega⟩
  obtain rfl:i=k:=by omega
  rw [ycj,cbF (by omega),qB8 (by rw [qAl];omega)]
  unfold rnd
  rfl
 | succ r ih =>
  intro i n lg b hi hn h0 h1 hs
  obtain ⟨n,rfl⟩:∃ m,n=m+1:=⟨n-1,by omega⟩
  have hil:i<bk.length:=by omega
  have ham:=hb _ (ylv hil)
  have hd2:(bk.take k).drop i=bk.getD i 0::(bk.take k).drop (i+1):=by
   rw [yc7 0 (by rw [qAl];omega),yoL (by omega)]
  have e1:=wib (n:=(i:Int)+1) (by omega) (by omega)
  have n6:=hd.n6
  rw [ycj,cbT (by omega),asT (by omega),asT (by omega),ylu,asT rfl,qAe,qA4,asT (by omega),asN hil,ymE hil,asT (by omega),ya9,asT (by omega),qAe,yfR ham,asCk,ck0,ck1,ck2,
   yKT hd ham ha ha',hd2]
  unfold rnd
  cases hm:yqE l an ad lg.length (bk.getD i 0) with
  | error e =>
   dsimp only
   rw [cnT (yBx hm)]
  | ok p =>
   dsimp only
   have hp:small p:=by unfold yqE at hm;exact yyl hm
   rw [cnF rfl,e1,yda]
   have hs2:=yAf (j:=i) (a:=bk.getD i 0) hp hs
   have IH:=fun bb h2=>ih (i+1) n (lg++[yxa l an ad (bk.getD i 0) p]) bb (by omega) (by omega) (by omega) h2
   cases b with
   | none =>
    have hi0:i=0:=by
     rcases Nat.eq_zero_or_pos i with h | h
     ·exact h
     ·exact absurd rfl (h1 h)
    rw [ceT (by omega)]
    exact IH (ykk i (bk.getD i 0) p none) (fun _=>by simp [ykk]) hs2
   | some x =>
    obtain ⟨kk,c,t⟩:=x
    have hi0:i≠0:=fun h=>by have:=h0 h;cases this
    rw [ceF (by omega)]
    change ya8 p.num p.den t.num t.den _=_
    rw [yKS hp hs]
    by_cases hlt:p<t
    ·rw [cbT hlt]
     have eb:ykk i (bk.getD i 0) p (some (kk,c,t))=some (i,bk.getD i 0,p):=if_pos hlt
     rw [eb] at hs2 ⊢
     exact IH _ (fun _=>by simp) hs2
    ·rw [cbF hlt]
     have eb:ykk i (bk.getD i 0) p (some (kk,c,t))=some (kk,c,t):=if_neg hlt
     rw [eb] at hs2 ⊢
     exact IH _ (fun _=>by simp) hs2
end
end Go.Pf.Vc
namespace Go.Pf.Vc
open Go Go.Pf
section
variable {l:List Ck}
theorem yQN (hd:DK l) {an ad:Int} (ha:I64 an) (ha':I64 ad) (bk:List Nat) {k:Nat} (hk:k≤bk.length) (hb:∀ a∈bk,a<l.length) (hk2:bk.length≤6) (pcs ord:List PV) (n3 n4 n5 c1 c2:Nat) :
  ∀ x0 x1 x2 x3,∀ (r i n:Nat) (lg:List Qy) (b:Option (Nat×Nat×Rat)),i+r=k→r<n→(i=0→b=none)→(0<i→b≠none)→yI7 b →
   yck ycg ybm ybn ybF ya8 x0 x1 x2 x3 n (nts bk) pcs ord (cks l) n3 n4 n5 (cks l) (logs lg) k bk.length c1 an ad (bJ b) (bN b) (bD b) k bk.length c2 k i =
    match rnd l an ad i ((bk.take k).drop i) lg b with
    | .ok x=>x3 (nts bk) pcs ord (cks l) n3 n4 n5 (cks l) (logs x.1) k bk.length c1 an ad (bJ x.2) (bN x.2) (bD x.2) k bk.length c2 k k false
    | .error e=>x2 (nts bk) pcs ord e:=by
 intro x0 x1 x2 x3 r
 induction r with
 | zero =>
  intro i n lg b hi hn _ _ _
  obtain ⟨n,rfl⟩:∃ m,n=m+1:=⟨n-1,by omega⟩
  obtain rfl:i=k:=by omega
  rw [yck,cbF (by omega),qB8 (by rw [qAl];omega)]
  unfold rnd
  rfl
 | succ r ih =>
  intro i n lg b hi hn h0 h1 hs
  obtain ⟨n,rfl⟩:∃ m,n=m+1:=⟨n-1,by omega⟩
  have hil:i<bk.length:=by omega
  have ham:=hb _ (ylv hil)
  have hd2:(bk.take k).drop i=bk.getD i 0::(bk.take k).drop (i+1):=by
   rw [yc7 0 (by rw [qAl];omega),yoL (by omega)]
  have e1:=wib (n:=(i:Int)+1) (by omega) (by omega)
  have n6:=hd.n6
  rw [yck,cbT (by omega),asT (by omega),asT (by omega),ylu,asT rfl,qAe,qA4,asT (by omega),asN hil,ymE hil,asT (by omega),ya9,asT (by omega),qAe,yfR ham,asCk,ck0,ck1,ck2,
   yKT hd ham ha ha',hd2]
  unfold rnd
  cases hm:yqE l an ad lg.length (bk.getD i 0) with
  | error e =>
   dsimp only
   rw [cnT (yBx hm)]
  | ok p =>
   dsimp only
   have hp:small p:=by unfold yqE at hm;exact yyl hm
   rw [cnF rfl,e1,yda]
   have hs2:=yAf (j:=i) (a:=bk.getD i 0) hp hs
   have IH:=fun bb h2=>ih (i+1) n (lg++[yxa l an ad (bk.getD i 0) p]) bb (by omega) (by omega) (by omega) h2
   cases b with
   | none =>
    have hi0:i=0:=by
     rcases Nat.eq_zero_or_pos i with h | h
     ·exact h
     ·exact absurd rfl (h1 h)
    rw [ceT (by omega),asTT (by simp)]
    exact IH (ykk i (bk.getD i 0) p none) (fun _=>by simp [ykk]) hs2
   | some x =>
    obtain ⟨kk,c,t⟩:=x
    have hi0:i≠0:=fun h=>by have:=h0 h;cases this
    rw [ceF (by omega)]
    change ya8 p.num p.den t.num t.den _=_
    rw [yKS hp hs]
    by_cases hlt:p<t
    ·rw [cbT hlt,asTT (by simp)]
     have eb:ykk i (bk.getD i 0) p (some (kk,c,t))=some (i,bk.getD i 0,p):=if_pos hlt
     rw [eb] at hs2 ⊢
     exact IH _ (fun _=>by simp) hs2
    ·rw [cbF hlt,asTT (by simp)]
     have eb:ykk i (bk.getD i 0) p (some (kk,c,t))=some (kk,c,t):=if_neg hlt
     rw [eb] at hs2 ⊢
     exact IH _ (fun _=>by simp) hs2
def bOk (rest:List Nat) (i:Nat):Option (Nat×Nat×Rat)→Prop
 | none=>i=0
 | some (j,a,p)=>j<i∧rest.getD j 0=a∧small p
theorem yMY {an ad:Int} (rest:List Nat):∀ (r i:Nat) (lg:List Qy) (b:Option (Nat×Nat×Rat)) (x:List Qy×Option (Nat×Nat×Rat)),i+r=rest.length→bOk rest i b→rnd l an ad i (rest.drop i) lg b=.ok x→bOk rest rest.length x.2
 | 0,i,lg,b,x,hi,hb,h=>by
  rw [qB8 (by omega)] at h
  unfold rnd at h
  cases h
  obtain rfl:i=rest.length:=by omega
  exact hb
 | r+1,i,lg,b,x,hi,hb,h=>by
  rw [yc7 0 (by omega)] at h
  unfold rnd at h
  split at h
  ·cases h
  ·rename_i p hm
   have hp:small p:=by unfold yqE at hm;exact yyl hm
   refine yMY rest r (i+1) _ _ x (by omega) ?_ h
   cases b with
   | none=>exact ⟨by omega,rfl,hp⟩
   | some y =>
    obtain ⟨j,a,t⟩:=y
    obtain ⟨h1,h2,h3⟩:=hb
    unfold ykk
    dsimp only
    split
    ·exact ⟨by omega,rfl,hp⟩
    ·exact ⟨by omega,h2,h3⟩
theorem yI8 {an ad:Int}:∀ (rest:List Nat) (i:Nat) (lg:List Qy) (b:Option (Nat×Nat×Rat)) (e:Int),rnd l an ad i rest lg b=.error e→e≠0
 | [],_,_,_,_,h=>by unfold rnd at h;cases h
 | a::r,i,lg,b,e,h=>by
  unfold rnd at h
  split at h
  ·rename_i e2 hm;cases h;exact yBx hm
  ·exact yI8 r _ _ _ e h
end
end Go.Pf.Vc
namespace Go.Pf.Vc
open Go Go.Pf
section
variable {l:List Ck}
theorem yAh (r:List Nat) (n:Nat):List.take n (nts r)=nts (r.take n):=by unfold nts ints;rw [List.map_take,List.map_take]
theorem yKU (r:List Nat) (n:Nat):List.drop n (nts r)=nts (r.drop n):=by unfold nts ints;rw [List.map_drop,List.map_drop]
theorem yAi (r s:List Nat):nts r++nts s=nts (r++s):=by unfold nts ints;rw [List.map_append,List.map_append]
theorem yKV (r:List Nat):yeC 1 (nts r)=true:=by cases r <;> rfl
theorem yN2 (r:List Nat):List.isEmpty (nts r)=r.isEmpty:=by cases r <;> rfl
theorem ymF (pcs:List (List Sp)) (a:Nat) (s:List Sp):List.set (pieces pcs) a (.data (yfQ s))=pieces (pcs.set a s):=by unfold pieces;rw [List.map_set]
theorem asP {pcs:List (List Sp)} {i:Nat} {P:Prop} (h:i<pcs.length):asr (conf (.one (.d)) (List.getD (pieces pcs) i .nils)) P=P:=by
 have:List.getD (pieces pcs) i .nils=.data (yfQ (pcs.getD i [])):=by
  unfold pieces
  rw [qAa,qAy,qAb h,qAa,qAb h]
  rfl
 rw [this];rfl
def remK (bk:List Nat) (k j:Nat):List Nat:=bk.take j++((bk.drop (j+1)).take (k-(j+1))++bk.drop (j+(k-(j+1))))
theorem yKW {bk:List Nat} {k j:Nat} (h1:j<k) (h2:k≤bk.length):(remK bk k j).length=bk.length:=by
 unfold remK
 simp only [qAn,qAl,qAu]
 omega
theorem yHx {bk:List Nat} {k j:Nat} (h1:j<k) (h2:k≤bk.length):(remK bk k j).take (k-1)=(bk.take k).eraseIdx j:=by
 apply qBc
 intro i
 unfold remK
 rw [List.getElem?_eraseIdx]
 by_cases h:i<k-1
 ·rw [qA3 h]
  by_cases hj:i<j
  ·rw [if_pos hj,qBw (by rw [qAl];omega),qA3 hj,qA3 (by omega)]
  ·rw [if_neg hj,List.getElem?_append_right (by rw [qAl];omega),qAl,Nat.min_eq_left (by omega),
    qBw (by rw [qAl,qAu];omega),qA3 (by omega),qBe,qA3 (by omega)]
   congr 1
   omega
 ·rw [qAi (by rw [qAl];omega)]
  rw [if_neg (by omega),qAi (by rw [qAl];omega)]
theorem yHy {bk:List Nat} {k j:Nat} (h1:j+1=k) (h2:k≤bk.length):bk.take (k-1)=(bk.take k).eraseIdx j:=by
 apply qBc
 intro i
 rw [List.getElem?_eraseIdx]
 by_cases h:i<k-1
 ·rw [qA3 h,if_pos (by omega),qA3 (by omega)]
 ·rw [qAi (by rw [qAl];omega),if_neg (by omega),qAi (by rw [qAl];omega)]
theorem yKX {bk:List Nat} {k j:Nat} {a:Nat} (h:a∈remK bk k j):a∈bk:=by
 unfold remK at h
 rcases qA9.1 h with h | h
 ·exact List.mem_of_mem_take h
 ·rcases qA9.1 h with h | h
  ·exact List.mem_of_mem_drop (List.mem_of_mem_take h)
  ·exact List.mem_of_mem_drop h
def knf (l:List Ck):Nat→List Nat→Int→Int→List (List Sp)→List Nat→List Qy→Except Int (List (List Sp)×List Nat×List Qy)
 | 0,rest,an,ad,pcs,ord,lg=>.ok (pcs.set (rest.getD 0 0) [⟨an,ad,(l.getD 0 default).len,1⟩],ord++[rest.getD 0 0],lg)
 | r+1,rest,an,ad,pcs,ord,lg=>match rnd l an ad 0 rest lg none with
  | .error e=>.error e
  | .ok (lg',some (j,a,p))=>knf l r (rest.eraseIdx j) p.num p.den (pcs.set a [⟨an,ad,p.num,p.den⟩]) (ord++[a]) lg'
  | .ok (_,none)=>.error 0
end
end Go.Pf.Vc
namespace Go.Pf.Vc
open Go Go.Pf
section
variable {l:List Ck}
theorem asO {c:Prop} [Decidable c] {d:Bool} {P:Prop} (h:c):asr (decide c||d) P=P:=by rw [decide_eq_true h];rfl
theorem asNF {c:Prop} [Decidable c] {P:Prop} (h:¬c):asr (!decide c) P=P:=by rw [decide_eq_false h];rfl
abbrev KR:=Except Int (List (List Sp)×List Nat×List Qy)
theorem yAj (hd:DK l) (R:KR→Prop) {y0:List PV→List PV→Int→Prop} {y1:List PV→List PV→List PV→Int→Prop} {y2:List PV→List PV→List PV→List PV→Nat→Nat→Nat→List PV→List PV→Nat→Nat→Nat→Int→Int→Bool→Prop}
  {y3:List PV→List PV→List PV→Nat→Nat→Nat→List PV→List PV→Nat→Nat→Nat→Int→Int→Bool→Prop}
  (h1:∀ a b c e,e≠0→R (.error e)→y1 a b c e)
  (h2:∀ (bk:List Nat) (an ad:Int) (pcs:List (List Sp)) (ord:List Nat) (lg:List Qy),bk.length=l.length→(∀ a∈bk,a<l.length)→pcs.length=l.length→ord.length+1=l.length→R (knf l 0 (bk.take 1) an ad pcs ord lg) →
   y2 (nts bk) (pieces pcs) (nts ord) (cks l) l.length l.length l.length (cks l) (logs lg) 1 bk.length bk.length an ad false) :
  ∀ (r n:Nat) (bk:List Nat) (an ad:Int) (pcs:List (List Sp)) (ord:List Nat) (lg:List Qy),r<n→r+1≤bk.length→bk.length=l.length→(∀ a∈bk,a<l.length)→I64 an→I64 ad→pcs.length=l.length→ord.length+(r+1)=l.length→ord≠[] →
   R (knf l r (bk.take (r+1)) an ad pcs ord lg) →
   ybe ycg ybm ybn ybF ya8 y0 y1 y2 y3 n (nts bk) (pieces pcs) (nts ord) (cks l) l.length l.length l.length (cks l) (logs lg) (r+1) bk.length bk.length an ad
 | 0,n+1,bk,an,ad,pcs,ord,lg,hn,hk,hbl,hb,ha,ha',hp,ho,hne,h=>by
  rw [ybe,cbF (by omega)]
  exact h2 bk an ad pcs ord lg hbl hb hp ho h
 | r+1,n+1,bk,an,ad,pcs,ord,lg,hn,hk,hbl,hb,ha,ha',hp,ho,hne,h=>by
  have n6:=hd.n6
  rw [ybe,cbT (by omega),asTT (by simp)]
  refine ⟨r+2+1,?_⟩
  refine (yQN hd ha ha' bk (k:=r+2) (by omega) hb (by omega) (pieces pcs) (nts ord) l.length l.length l.length bk.length bk.length _ _ _ _ (r+2) 0 (r+2+1) lg none (by omega) (by omega) (fun _=>rfl) (fun h=>absurd h (by omega)) trivial).mpr ?_
  rw [qA0]
  unfold knf at h
  cases hr:rnd l an ad 0 (bk.take (r+2)) lg none with
  | error e=>rw [hr] at h;exact h1 _ _ _ _ (yI8 _ _ _ _ _ hr) h
  | ok x =>
   obtain ⟨lg',b⟩:=x
   have hlen:(bk.take (r+2)).length=r+2:=by rw [qAl];omega
   have hbo:=yMY (bk.take (r+2)) (r+2) 0 lg none (lg',b) (by omega) rfl (by rw [qA0];exact hr)
   rw [hr] at h
   cases b with
   | none=>have:(bk.take (r+2)).length=0:=hbo;omega
   | some y =>
    obtain ⟨j,a,p⟩:=y
    obtain ⟨hj,haj,hps⟩:=hbo
    rw [hlen] at hj
    rw [yoL hj] at haj
    dsimp only at h ⊢
    have hjl:j<bk.length:=by omega
    have ham:a<l.length:=by rw [← haj];exact hb _ (ylv hjl)
    have e1:=wib (n:=(j:Int)+1) (by omega) (by omega)
    have hl':∀ (P:Prop),asr (decide True) P=P:=fun _=>rfl
    have hl2:∀ (P:Prop),asr (decide True&&decide True) P=P:=fun _=>rfl
    have no1:([.int .i64 (a:Int)]:List PV)=nts [a]:=rfl
    have hkj:(((r+2:Nat):Int)-((j:Int)+1)).toNat=r+2-(j+1):=by omega
    rw [show bJ (some (j,a,p))=(j:Int) from rfl,show bN (some (j,a,p))=p.num from rfl,show bD (some (j,a,p))=p.den from rfl]
    simp only [ylu,yiH,qAe,qA4,Int.sub_zero,Nat.sub_zero,e1,yQB,ymE hjl,haj,hl',hl2,hkj,yAh,yKU,yAi,no1,yKV,yN2,yaD]
    rw [asN hjl,asP (by omega)]
    simp (discharger:=omega) only [asT,asO,asNF]
    unfold room
    simp (discharger:=omega) only [asT]
    have hl3:(List.take (r+2-(j+1)) (List.drop (j+1) bk)).length=r+2-(j+1):=by rw [qAl,qAu];omega
    by_cases hj2:j+1=r+2
    ·have e0:(List.take (r+2-(j+1)) (List.drop (j+1) bk)).isEmpty=true:=by rw [show r+2-(j+1)=0 by omega];rfl
     rw [e0,yal]
     have IH:=yAj (y0:=y0) (y3:=y3) hd R h1 h2 r n bk p.num p.den (pcs.set a [⟨an,ad,p.num,p.den⟩]) (ord++[a]) lg' (by omega) (by omega) hbl hb hps.i1 hps.i2 (by rw [qA8];exact hp) (by simp;omega) (by simp)
      (by rw [show bk.take (r+1)=_ from yHy (k:=r+2) hj2 (by omega)];exact h)
     rw [← ymF] at IH
     obtain rfl:j=r+1:=by omega
     exact IH
    ·have e0:(List.take (r+2-(j+1)) (List.drop (j+1) bk)).isEmpty=false:=by
      cases hx:List.take (r+2-(j+1)) (List.drop (j+1) bk) with
      | nil=>rw [hx] at hl3;simp at hl3;omega
      | cons _ _=>rfl
     have e2:j+(r+2-(j+1))=r+1:=by omega
     rw [e0,yac,hl3]
     have hrl:=yKW (bk:=bk) (k:=r+2) hj (by omega)
     have IH:=yAj (y0:=y0) (y3:=y3) hd R h1 h2 r n (remK bk (r+2) j) p.num p.den (pcs.set a [⟨an,ad,p.num,p.den⟩]) (ord++[a]) lg' (by omega) (by omega) (by omega) (fun x hx=>hb x (yKX hx)) hps.i1 hps.i2 (by rw [qA8];exact hp) (by simp;omega) (by simp)
      (by rw [show (remK bk (r+2) j).take (r+1)=_ from yHx (k:=r+2) hj (by omega)];exact h)
     rw [← ymF,hrl] at IH
     unfold remK at IH
     rw [e2] at IH ⊢
     rw [asT (by omega)]
     exact IH
end
end Go.Pf.Vc
namespace Go.Pf.Vc
open Go Go.Pf
section
variable {l:List Ck}
theorem yQO (hd:DK l) (R:KR→Prop) {y0:List PV→List PV→Int→Prop} {y1:List PV→List PV→List PV→Int→Prop} {y2:List PV→List PV→List PV→List PV→Nat→Nat→Nat→List PV→List PV→Nat→Nat→Nat→Int→Int→Bool→Prop}
  {y3:List PV→List PV→List PV→Nat→Nat→Nat→List PV→List PV→Nat→Nat→Nat→Int→Int→Bool→Prop}
  (h0:∀ a b e,e≠0→R (.error e)→y0 a b e)
  (h1:∀ a b c e,e≠0→R (.error e)→y1 a b c e)
  (h2:∀ (bk:List Nat) (an ad:Int) (pcs:List (List Sp)) (ord:List Nat) (lg:List Qy),bk.length=l.length→(∀ a∈bk,a<l.length)→pcs.length=l.length→ord.length+1=l.length→R (knf l 0 (bk.take 1) an ad pcs ord lg) →
   y2 (nts bk) (pieces pcs) (nts ord) (cks l) l.length l.length l.length (cks l) (logs lg) 1 bk.length bk.length an ad false)
  (r n:Nat) (bk:List Nat) (an ad:Int) (pcs:List (List Sp)) (lg:List Qy) (hn:r+1<n+1) (hk:r+1+1≤bk.length) (hbl:bk.length=l.length) (hb:∀ a∈bk,a<l.length) (ha:I64 an) (ha':I64 ad) (hp:pcs.length=l.length) (ho:r+1+1=l.length)
  (h:R (knf l (r+1) (bk.take (r+1+1)) an ad pcs [] lg)) :
  ydg ycg ybm ybn ybF ya8 y0 y1 y2 y3 (n+1) (nts bk) (pieces pcs) (cks l) l.length l.length l.length (cks l) (logs lg) (r+1+1) bk.length bk.length an ad:=by
 have n6:=hd.n6
 rw [ydg,cbT (by omega)]
 refine ⟨r+2+1,?_⟩
 refine (yQM hd ha ha' bk (k:=r+2) (by omega) hb (by omega) (pieces pcs) l.length l.length l.length bk.length bk.length _ _ _ _ (r+2) 0 (r+2+1) lg none (by omega) (by omega) (fun _=>rfl) (fun h=>absurd h (by omega)) trivial).mpr ?_
 rw [qA0]
 unfold knf at h
 cases hr:rnd l an ad 0 (bk.take (r+2)) lg none with
 | error e=>rw [hr] at h;exact h0 _ _ _ (yI8 _ _ _ _ _ hr) h
 | ok x =>
  obtain ⟨lg',b⟩:=x
  have hlen:(bk.take (r+2)).length=r+2:=by rw [qAl];omega
  have hbo:=yMY (bk.take (r+2)) (r+2) 0 lg none (lg',b) (by omega) rfl (by rw [qA0];exact hr)
  rw [hr] at h
  cases b with
  | none=>have:(bk.take (r+2)).length=0:=hbo;omega
  | some y =>
   obtain ⟨j,a,p⟩:=y
   obtain ⟨hj,haj,hps⟩:=hbo
   rw [hlen] at hj
   rw [yoL hj] at haj
   dsimp only at h ⊢
   have hjl:j<bk.length:=by omega
   have ham:a<l.length:=by rw [← haj];exact hb _ (ylv hjl)
   have e1:=wib (n:=(j:Int)+1) (by omega) (by omega)
   have hl':∀ (P:Prop),asr (decide True) P=P:=fun _=>rfl
   have hl2:∀ (P:Prop),asr (decide True&&decide True) P=P:=fun _=>rfl
   have no1:([.int .i64 (a:Int)]:List PV)=nts [a]:=rfl
   have hkj:(((r+2:Nat):Int)-((j:Int)+1)).toNat=r+2-(j+1):=by omega
   rw [show bJ (some (j,a,p))=(j:Int) from rfl,show bN (some (j,a,p))=p.num from rfl,show bD (some (j,a,p))=p.den from rfl]
   simp only [ylu,yiH,qAe,qA4,Int.sub_zero,Nat.sub_zero,e1,yQB,ymE hjl,haj,hl',hkj,yAh,yKU,yAi,no1,yKV,yN2,yaD]
   rw [asN hjl,asP (by omega)]
   simp (discharger:=omega) only [asT,asO]
   have hl3:(List.take (r+2-(j+1)) (List.drop (j+1) bk)).length=r+2-(j+1):=by rw [qAl,qAu];omega
   by_cases hj2:j+1=r+2
   ·have e0:(List.take (r+2-(j+1)) (List.drop (j+1) bk)).isEmpty=true:=by rw [show r+2-(j+1)=0 by omega];rfl
    rw [e0,yal]
    have IH:=yAj (y0:=y0) (y3:=y3) hd R h1 h2 r n bk p.num p.den (pcs.set a [⟨an,ad,p.num,p.den⟩]) [a] lg' (by omega) (by omega) hbl hb hps.i1 hps.i2 (by rw [qA8];exact hp) (by simp;omega) (by simp)
     (by rw [show bk.take (r+1)=_ from yHy (k:=r+2) hj2 (by omega)];exact h)
    rw [← ymF] at IH
    obtain rfl:j=r+1:=by omega
    exact IH
   ·have e0:(List.take (r+2-(j+1)) (List.drop (j+1) bk)).isEmpty=false:=by
     cases hx:List.take (r+2-(j+1)) (List.drop (j+1) bk) with
     | nil=>rw [hx] at hl3;simp at hl3;omega
     | cons _ _=>rfl
    have e2:j+(r+2-(j+1))=r+1:=by omega
    rw [e0,yac,hl3]
    have hrl:=yKW (bk:=bk) (k:=r+2) hj (by omega)
    have IH:=yAj (y0:=y0) (y3:=y3) hd R h1 h2 r n (remK bk (r+2) j) p.num p.den (pcs.set a [⟨an,ad,p.num,p.den⟩]) [a] lg' (by omega) (by omega) (by omega) (fun x hx=>hb x (yKX hx)) hps.i1 hps.i2 (by rw [qA8];exact hp) (by simp;omega) (by simp)
     (by rw [show (remK bk (r+2) j).take (r+1)=_ from yHx (k:=r+2) hj (by omega)];exact h)
    rw [← ymF,hrl] at IH
    unfold remK at IH
    rw [e2] at IH ⊢
    rw [asT (by omega)]
    exact IH
theorem K10' (hd:DK l) (R:KR→Prop) {y0:List PV→List PV→Int→Prop} {y1:List PV→List PV→List PV→Int→Prop} {y2:List PV→List PV→List PV→List PV→Nat→Nat→Nat→List PV→List PV→Nat→Nat→Nat→Int→Int→Bool→Prop}
  {y3:List PV→List PV→List PV→Nat→Nat→Nat→List PV→List PV→Nat→Nat→Nat→Int→Int→Bool→Prop}
  (h0:∀ a b e,e≠0→R (.error e)→y0 a b e)
  (h1:∀ a b c e,e≠0→R (.error e)→y1 a b c e)
  (h2:∀ (bk:List Nat) (an ad:Int) (pcs:List (List Sp)) (ord:List Nat) (lg:List Qy),bk.length=l.length→(∀ a∈bk,a<l.length)→pcs.length=l.length→ord.length+1=l.length→R (knf l 0 (bk.take 1) an ad pcs ord lg) →
   y2 (nts bk) (pieces pcs) (nts ord) (cks l) l.length l.length l.length (cks l) (logs lg) 1 bk.length bk.length an ad false)
  (r n:Nat) (bk:List Nat) (an ad:Int) (pcs:List (List Sp)) (lg:List Qy) (hn:r+1<n+1) (hk:r+1+1≤bk.length) (hbl:bk.length=l.length) (hb:∀ a∈bk,a<l.length) (ha:I64 an) (ha':I64 ad) (hp:pcs.length=l.length) (ho:r+1+1=l.length)
  (h:R (knf l (r+1) (bk.take (r+1+1)) an ad pcs [] lg)) (k e:Nat) (hk3:k=r+1+1) (he:e=bk.length) :
  ydg ycg ybm ybn ybF ya8 y0 y1 y2 y3 (n+1) (nts bk) (pieces pcs) (cks l) l.length l.length l.length (cks l) (logs lg) k e e an ad:=by
 subst hk3;subst he
 exact yQO hd R h0 h1 h2 r n bk an ad pcs lg hn hk hbl hb ha ha' hp ho h
theorem yQP (l1 l2 l3:List PV) {len:Nat} (hl:len≤1000):∀ x,∀ (r i n:Nat),i+r=len→r<n →
  ydf ycg ybm ybn ybF ya8 x n (nts (List.range i)++List.replicate r (.int .i64 0)) l1 l2 l3 i len len len i=x (nts (List.range len)) l1 l2 l3 len len len len len false:=by
 intro x r
 induction r with
 | zero =>
  intro i n hi hn
  obtain ⟨n,rfl⟩:∃ m,n=m+1:=⟨n-1,by omega⟩
  obtain rfl:i=len:=by omega
  rw [ydf,cbF (by omega),List.replicate_zero,qBx]
 | succ r ih =>
  intro i n hi hn
  obtain ⟨n,rfl⟩:∃ m,n=m+1:=⟨n-1,by omega⟩
  have e1:=wib (n:=(i:Int)+1) (by omega) (by omega)
  have hln:(nts (List.range i)).length=i:=by rw [ylu,List.length_range]
  have et:List.take i (nts (List.range i)++List.replicate (r+1) (PV.int .i64 0))=nts (List.range i):=by
   rw [qBz (by omega),qAw (by omega)]
  have ed:List.drop (i+1) (nts (List.range i)++List.replicate (r+1) (PV.int .i64 0))=List.replicate r (.int .i64 0):=by
   rw [List.drop_append,hln,qB8 (by omega),qB3,List.drop_replicate]
   congr 1
   omega
  have ea:nts (List.range i)++([.int .i64 (i:Int)]++List.replicate r (.int .i64 0))=nts (List.range (i+1))++List.replicate r (.int .i64 0):=by
   rw [List.range_succ,← yAi,qBd];rfl
  rw [ydf,cbT (by omega),qA4,asT (by rw [qAn,hln,qAt];omega),asT (by omega),asT (by omega),et,ed,ea,e1,yda]
  exact ih (i+1) n (by omega) (by omega)
def kE (l:List Ck):KR:=if yjj l 0=0 then knf l (l.length-1) (List.range l.length) 0 1 (List.replicate l.length []) [] [] else .error (yjj l 0)
def ansK (e:KR) (K:List PV→List PV→List PV→Int→Prop):Prop :=
 match e with
 | .ok (p,o,lg)=>K (pieces p) (nts o) (logs lg) 0
 | .error e=>K [] [] [] e
theorem yQQ {w:(List PV→List PV→List PV→Int→Prop)→Prop} {e:KR} (det:∀ r0 r1 r2 r3,(∀ K:List PV→List PV→List PV→Int→Prop,K r0 r1 r2 r3→w K)→∀ K,w K=K r0 r1 r2 r3)
  (h:∀ K,ansK e K→w K) (K):w K=ansK e K:=by
 cases e with
 | ok x=>exact det _ _ _ _ h K
 | error c=>exact det _ _ _ _ h K
theorem yMZ (n:Int) (K:Int→Int→Prop):ybm n K=K n 1:=rfl
theorem yM0 (n:Nat):List.replicate n (.data []:PV)=pieces (List.replicate n []):=by unfold pieces;rw [List.map_replicate];rfl
theorem yHz (hf:finC l) (hl:l.length<4611686018427387904) (K:List PV→List PV→List PV→Int→Prop):ycA (cks l) K=ansK (kE l) K:=by
 refine yQQ (fun r0 r1 r2 r3 h K=>yCH _ r0 r1 r2 r3 h K) (fun K k=>?_) K
 unfold ycA ypM
 unfold kE at k
 rw [yQE hf hl]
 by_cases h:yjj l 0=0
 case neg=>rw [if_neg h] at k ⊢;rw [cnT h];exact k
 have hd:=(ysZ h).1
 have n6:=hd.n6;have n0:=hd.n0
 rw [if_pos h] at k ⊢
 rw [cnF rfl,ya9,asT (by omega),asT (by unfold room;omega)]
 refine ⟨l.length+1,?_⟩
 refine (yQP (cks l) (cks l) [] (len:=l.length) (by omega) _ l.length 0 (l.length+1) (by omega) (by omega)).mpr ?_
 rw [ya9,asT (by omega),asT (by omega),asT (by unfold room;omega),yMZ]
 rw [yM0]
 have hrl:(List.range l.length).length=l.length:=List.length_range ..
 have hrm:∀ a∈List.range l.length,a<l.length:=fun a ha=>List.mem_range.1 ha
 obtain ⟨m,hm⟩:∃ m,l.length=m+1:=⟨l.length-1,by omega⟩
 have k2:ansK (knf l m ((List.range l.length).take (m+1)) 0 1 (List.replicate l.length []) [] []) K:=by
  rw [qAw (by omega)]
  rw [show l.length-1=m by omega] at k
  exact k
 cases m with
 | zero =>
  refine ⟨1,?_⟩
  rw [ydg,cbF (by omega)]
  have h0l:0<(List.range l.length).length:=by omega
  have ham:=hrm _ (ylv h0l)
  have no1:([.int .i64 (((List.range l.length).getD 0 0:Nat):Int)]:List PV)=nts [(List.range l.length).getD 0 0]:=rfl
  have hs1:∀ z:Int,([.agg [.int .i64 0,.int .i64 1,.int .i64 z,.int .i64 1]]:List PV)=yfQ [⟨0,1,z,1⟩]:=fun z=>rfl
  have hpl:(List.replicate l.length ([]:List Sp)).length=l.length:=by rw [qAt]
  unfold knf ansK at k2
  dsimp only at k2
  rw [yoL (by omega),qB3] at k2
  simp only [ylu,yiH,ya9,ymE h0l,yMZ,yfR (l:=l) (i:=0) (by omega),asCk,ck0,qAe,qA4,qA8,asN h0l,no1,hs1,ymF,hrl]
  rw [asP (by omega)]
  simp (discharger:=omega) only [asT]
  rw [qAw (by rw [yiH,qA8];omega)]
  exact k2
 | succ r =>
  refine ⟨r+2+1,?_⟩
  refine K10' hd (fun e=>ansK e K) (fun _ _ e _ h=>h) (fun _ _ _ e _ h=>h) ?_ r (r+2) (List.range l.length) 0 1 (List.replicate l.length []) [] (by omega) (by omega) hrl hrm ⟨by decide,by decide⟩ ⟨by decide,by decide⟩ (by rw [qAt]) (by omega) k2 l.length l.length (by omega) hrl.symm
  intro bk an ad pcs ord lg hbl hb hp ho hk
  have h0l:0<bk.length:=by omega
  have ham:=hb _ (ylv h0l)
  have no1:([.int .i64 ((bk.getD 0 0:Nat):Int)]:List PV)=nts [bk.getD 0 0]:=rfl
  have hs1:∀ z:Int,([.agg [.int .i64 an,.int .i64 ad,.int .i64 z,.int .i64 1]]:List PV)=yfQ [⟨an,ad,z,1⟩]:=fun z=>rfl
  unfold knf ansK at hk
  dsimp only at hk
  rw [yoL (by omega)] at hk
  simp only [ylu,yiH,ya9,ymE h0l,yMZ,yfR (l:=l) (i:=0) (by omega),asCk,ck0,qAe,qA4,qA8,asN h0l,no1,yAi,hs1,ymF,yAh]
  rw [asP (by omega)]
  unfold room
  simp (discharger:=omega) only [asT,asNF]
  rw [qAw (by rw [yiH,qA8];omega),qAw (by omega)]
  exact hk
end
end Go.Pf.Vc
namespace Go.Pf.Vc
abbrev RS:Type:=Rat×Rat
def inS (s:RS) (p:Rat):Prop:=s.1≤p∧p<s.2
def memP (l:List RS) (p:Rat):Prop:=∃ s∈l,inS s p
def yN3:List RS→Prop
 | []=>True
 | s::r=>s.1<s.2∧(∀ t∈r,s.2<t.1)∧yN3 r
theorem yQR {p:Rat}:¬memP [] p:=fun ⟨s,h,_⟩=>by cases h
theorem yvH {s:RS} {r:List RS} {p:Rat}:memP (s::r) p↔inS s p∨memP r p:=by
 constructor
 ·rintro ⟨t,h,hp⟩
  rcases qAv.1 h with rfl | h
  ·exact .inl hp
  ·exact .inr ⟨t,h,hp⟩
 ·rintro (h | ⟨t,h,hp⟩)
  ·exact ⟨s,qAj,h⟩
  ·exact ⟨t,qAm _ h,hp⟩
end Go.Pf.Vc
namespace Go.Pf.Vc
def maxR (a b:Rat):Rat:=if a<b then b else a
def yFe:List RS→Prop
 | []=>True
 | s::r=>(∀ t∈r,s.1≤t.1)∧yFe r
end Go.Pf.Vc
namespace Go.Pf.Vc
def jn (f:Rat→Bool):List Rat→Option RS→List RS
 | x::y::r,none=>if f x then jn f (y::r) (some (x,y)) else jn f (y::r) none
 | x::y::r,some c=>if f x then (if c.2=x then jn f (y::r) (some (c.1,y)) else c::jn f (y::r) (some (x,y))) else jn f (y::r) (some c)
 | _,none=>[]
 | _,some c=>[c]
end Go.Pf.Vc
namespace Go.Pf.Vc
def minR (a b:Rat):Rat:=if a<b then a else b
theorem yie (a b:Rat):a≤maxR a b∧b≤maxR a b∧(maxR a b=a∨maxR a b=b):=by unfold maxR;split <;> grind
theorem yj0 (a b:Rat):minR a b≤a∧minR a b≤b∧(minR a b=a∨minR a b=b):=by unfold minR;split <;> grind
end Go.Pf.Vc
namespace Go.Pf.Vc
open Go Go.Pf
def Sp.rs (s:Sp):RS:=(rt s.a s.b,rt s.c s.d)
def Sp.ok (s:Sp):Prop:=RV s.a s.b∧RV s.c s.d∧rt s.a s.b<rt s.c s.d
instance (s:Sp):Decidable s.ok:=by unfold Sp.ok;infer_instance
def Sp.i64 (s:Sp):Prop:=I64 s.a∧I64 s.b∧I64 s.c∧I64 s.d
theorem yKY {q r:Rat} (hq:small q) (hr:small r) (K:Int→Prop):ya3 q.num q.den r.num r.den K=K (cmpQ q r):=by
 unfold ya3 ypC
 rw [yAb hq hr]
theorem yQS {a b c d:Int} (h:RV a b) (k:RV c d) (K:Int→Prop):ya3 a b c d K=K (cmpQ (rt a b) (rt c d)):=by
 obtain ⟨h1,h2,h3⟩:=yrW h
 obtain ⟨k1,k2,k3⟩:=yrW k
 have:=yKY h1 k1 K
 rw [h2,h3,k2,k3] at this
 exact this
theorem yKZ (q r:Rat):decide (cmpQ q r<0)=decide (q<r):=by
 unfold cmpQ
 by_cases h:q<r
 ·rw [if_pos h];simp [h]
 ·rw [if_neg h]
  split <;> simp [h]
theorem ySu (q r:Rat):decide (cmpQ q r≤0)=!decide (r<q):=by
 unfold cmpQ
 by_cases h:q<r
 ·have:¬r<q:=by grind
  rw [if_pos h];simp [this]
 ·rw [if_neg h]
  by_cases h2:r<q
  ·rw [if_pos h2];simp [h2]
  ·rw [if_neg h2];simp [h2]
theorem yQT {s:Sp} (h:s.i64) (K:Bool→Prop):ycW s.a s.b s.c s.d K=K (decide s.ok):=by
 refine yCB _ _ _ _ _ (fun K k=>?_) K
 unfold ycW ypA
 refine yQo h.1 h.2.1 h.2.2.1 h.2.2.2 ?_
 by_cases h1:RV s.a s.b
 ·by_cases h2:RV s.c s.d
  ·have e:chk2 s.a s.b s.c s.d=0:=yf6.2 ⟨h1,h2⟩
   obtain ⟨_,n1,n2⟩:=yrW h1
   obtain ⟨_,n3,n4⟩:=yrW h2
   have e2:=yNS (rt s.a s.b) (rt s.c s.d)
   rw [n1,n2,n3,n4] at e2
   rw [e,if_pos rfl,ceT rfl,e2,yKZ]
   have e3:decide s.ok=decide (rt s.a s.b<rt s.c s.d):=by rw [decide_eq_decide];exact ⟨fun k=>k.2.2,fun k=>⟨h1,h2,k⟩⟩
   rw [← e3];exact k
  ·have e:chk2 s.a s.b s.c s.d≠0:=fun e=>h2 (yf6.1 e).2
   rw [ceF e]
   have e3:decide s.ok=false:=decide_eq_false fun k=>h2 k.2.1
   rw [← e3];exact k
 ·have e:chk2 s.a s.b s.c s.d≠0:=fun e=>h1 (yf6.1 e).1
  rw [ceF e]
  have e3:decide s.ok=false:=decide_eq_false fun k=>h1 k.1
  rw [← e3];exact k
end Go.Pf.Vc
namespace Go.Pf.Vc
open Go Go.Pf
theorem asSp {s:Sp} {P:Prop}:asr (conf (.agg [.i .i64,.i .i64,.i .i64,.i .i64]) (encS s)) P=P:=rfl
def yFf (l:List Sp):Bool:=l.all fun s=>decide s.ok
theorem yQU {l:List Sp} (h64:∀ s∈l,s.i64) (hl:l.length<4611686018427387904) :
  ∀ x0 x1,∀ (r i n:Nat),i+r=l.length→r<n→yd9 ycW x0 x1 n (yfQ l) l.length i=if yFf (l.drop i) then x1 (yfQ l) l.length l.length false else x0 8:=by
 intro x0 x1 r
 induction r with
 | zero =>
  intro i n hi hn
  obtain ⟨n,rfl⟩:∃ m,n=m+1:=⟨n-1,by omega⟩
  obtain rfl:i=l.length:=by omega
  rw [yd9,cbF (by omega),List.drop_length]
  rfl
 | succ r ih =>
  intro i n hi hn
  obtain ⟨n,rfl⟩:∃ m,n=m+1:=⟨n-1,by omega⟩
  have hil:i<l.length:=by omega
  have e1:=wib (n:=(i:Int)+1) (by omega) (by omega)
  have hm:l.getD i default∈l:=by
   rw [qAa,qAb hil]
   exact qBr hil
  have hd:yFf (l.drop i)=(decide (l.getD i default).ok&&yFf (l.drop (i+1))):=by
   rw [yc7 default hil];rfl
  rw [yd9,cbT (by omega),asT (by omega),ykz,asT (by omega),qAe,yvf hil,asSp,e1,yda]
  change ycW (l.getD i default).a (l.getD i default).b (l.getD i default).c (l.getD i default).d _=_
  rw [yQT (h64 _ hm),hd]
  cases hv:decide (l.getD i default).ok with
  | true =>
   rw [show (!true)=false from rfl,yac,qBi]
   exact ih (i+1) n (by omega) (by omega)
  | false =>
   rw [show (!false)=true from rfl,yal,qBn]
   rfl
def allE (l:List Sp):Int:=if l.length>60 then 4 else if yFf l then 0 else 8
theorem yTS {l:List Sp} (h64:∀ s∈l,s.i64) (hl:l.length<4611686018427387904) (K:Int→Prop):yeG (yfQ l) K=K (allE l):=by
 refine yGc _ _ (fun K k=>?_) K
 unfold yeG yst
 unfold allE at k
 rw [ykz]
 by_cases h:l.length>60
 ·rw [cbT (by omega)];rw [if_pos h] at k;exact k
 ·rw [cbF (by omega)]
  rw [if_neg h] at k
  refine ⟨l.length+1,?_⟩
  refine (yQU h64 hl _ _ l.length 0 (l.length+1) (by omega) (by omega)).mpr ?_
  rw [qA0]
  split
  ·rename_i h2;rw [if_pos h2] at k;exact k
  ·rename_i h2;rw [if_neg h2] at k;exact k
end Go.Pf.Vc
namespace Go.Pf.Vc
open Go Go.Pf
def gapB:Sp→List Sp→Bool
 | _,[]=>true
 | s,t::r=>decide (s.rs.2<t.rs.1)&&gapB t r
theorem yM1 {l:List Sp} (hok:∀ s∈l,s.ok) (hl:l.length<4611686018427387904) :
  ∀ x0 x1,∀ (r i n:Nat),i+1+r=l.length→r<n→ycH yeG ya3 x0 x1 n (yfQ l) ((i+1:Nat):Int)=if gapB (l.getD i default) (l.drop (i+1)) then x1 (yfQ l) l.length false else x0 8:=by
 intro x0 x1 r
 induction r with
 | zero =>
  intro i n hi hn
  obtain ⟨n,rfl⟩:∃ m,n=m+1:=⟨n-1,by omega⟩
  rw [ycH,ykz,cbF (by omega),qB8 (by omega),show i+1=l.length by omega]
  rfl
 | succ r ih =>
  intro i n hi hn
  obtain ⟨n,rfl⟩:∃ m,n=m+1:=⟨n-1,by omega⟩
  have e0:=wib (n:=((i+1:Nat):Int)-1) (by omega) (by omega)
  have e2:((i+1:Nat):Int)-1=(i:Int):=by omega
  have e1:=wib (n:=((i+1:Nat):Int)+1) (by omega) (by omega)
  have hm1:l.getD i default∈l:=by
   rw [qAa,qAb (by omega)]
   exact qBr (by omega)
  have hm2:l.getD (i+1) default∈l:=by
   rw [qAa,qAb (by omega)]
   exact qBr (by omega)
  rw [ycH,ykz,cbT (by omega),e0,e2,asT (by omega),asT (by omega),qAe,yvf (by omega),asSp,asT (by omega),asT (by omega),qAe,yvf (by omega),asSp]
  change ya3 (l.getD i default).c (l.getD i default).d (l.getD (i+1) default).a (l.getD (i+1) default).b _=_
  rw [yQS (hok _ hm1).2.1 (hok _ hm2).1,e1,yda,yc7 default (by omega)]
  unfold gapB
  have e3:decide (cmpQ (rt (l.getD i default).c (l.getD i default).d) (rt (l.getD (i+1) default).a (l.getD (i+1) default).b)≥0)=!decide ((l.getD i default).rs.2<(l.getD (i+1) default).rs.1):=ySt _ _
  rw [e3]
  cases decide ((l.getD i default).rs.2<(l.getD (i+1) default).rs.1) with
  | true =>
   rw [show (!true)=false from rfl,yac,qBi]
   exact ih (i+1) n (by omega) (by omega)
  | false =>
   rw [show (!false)=true from rfl,yal,qBn]
   rfl
def rsL (l:List Sp):List RS:=l.map Sp.rs
def yI9 (l:List Sp):Int:=if allE l=0 then (match l with | []=>0 | s::r=>if gapB s r then 0 else 8) else allE l
theorem yPc {l:List Sp} (h:allE l=0):l.length≤60∧∀ s∈l,s.ok:=by
 unfold allE at h
 split at h
 ·cases h
 ·split at h
  ·rename_i h1 h2
   exact ⟨by omega,fun s hs=>by simpa using List.all_eq_true.1 h2 s hs⟩
  ·cases h
theorem yPd {l:List Sp} (h64:∀ s∈l,s.i64) (hl:l.length<4611686018427387904) (K:Int→Prop):yaI (yfQ l) K=K (yI9 l):=by
 refine yCC _ _ (fun K k=>?_) K
 unfold yaI ypE
 unfold yI9 at k
 rw [yTS h64 hl]
 by_cases h:allE l=0
 ·rw [if_pos h] at k
  rw [cnF h]
  obtain ⟨h1,h2⟩:=yPc h
  cases l with
  | nil =>
   refine ⟨1,?_⟩
   rw [ycH,ykz,cbF (by simp)]
   exact k
  | cons s r =>
   refine ⟨r.length+1,?_⟩
   refine (yM1 h2 hl _ _ r.length 0 (r.length+1) (by simp;omega) (by omega)).mpr ?_
   dsimp only at k
   show if gapB s r then _ else _
   split
   ·rename_i hg;rw [if_pos hg] at k;exact k
   ·rename_i hg;rw [if_neg hg] at k;exact k
 ·rw [if_neg h] at k
  rw [cnT h];exact k
end Go.Pf.Vc
namespace Go.Pf.Vc
open Go Go.Pf
theorem yHA:∀ (r:List Sp) (s:Sp),s.ok→(∀ t∈r,t.ok)→(gapB s r=true↔yN3 (rsL (s::r)))
 | [],s,hs,_=>⟨fun _=>⟨hs.2.2,by simp,trivial⟩,fun _=>rfl⟩
 | t::r,s,hs,h=>by
  have ht:=h t qAj
  have ih:=yHA r t ht fun u hu=>h u (qAm _ hu)
  unfold gapB
  rw [qAc,decide_eq_true_eq,ih]
  constructor
  ·rintro ⟨h1,h2⟩
   refine ⟨hs.2.2,fun u hu=>?_,h2⟩
   rcases qAv.1 hu with rfl | hu
   ·exact h1
   ·have:=h2.2.1 u hu
    have:=h2.1
    show s.rs.2<u.1
    grind
  ·rintro ⟨_,h2,h3⟩
   exact ⟨h2 _ qAj,h3⟩
end Go.Pf.Vc
namespace Go.Pf.Vc
open Go Go.Pf Go.Sort
theorem yDb {n d:Int}:rvB n d=true↔RV n d:=by
 unfold rvB RV
 simp only [qAc,decide_eq_true_eq]
theorem ySv {a b c d:Int} (h:RV a b) (k:RV c d):cmpI a b c d<0↔rt a b<rt c d:=by
 obtain ⟨_,h2,h3⟩:=yrW h
 obtain ⟨_,k2,k3⟩:=yrW k
 rw [Rat.lt_iff,h2,h3,k2,k3]
 unfold cmpI
 by_cases h:a*d<c*b
 ·rw [if_pos h];simp [h]
 ·rw [if_neg h]
  split <;> simp [h]
def yQV:PV→Rat
 | .agg (.int _ a::.int _ b::_)=>rt a b
 | _=>0
theorem yAk {x y:PV} (hx:yxu x=true) (hy:yxu y=true):ytf x y<0↔yQV x<yQV y:=by
 unfold yxu at hx hy
 split at hx
 ·split at hy
  ·simp only [ytf,yQV]
   exact ySv (yDb.1 hx) (yDb.1 hy)
  ·cases hy
 ·cases hx
theorem yqF {n g:Nat} (x:(yqk n g).s.El):yxu x.1=true:=by
 have:=x.2
 simp only [Srt.gd,qAc] at this
 exact this.2
theorem yM2 (n g:Nat):SWO (fun x y:(yqk n g).s.El=>decide ((yqk n g).cf x y<0)) where
 irrefl x:=by
  have:=yAk (yqF x) (yqF x)
  show decide (ytf x.1 x.1<0)=false
  rw [decide_eq_false_iff_not,this]
  exact Rat.lt_irrefl
 trans x y z h1 h2:=by
  have h1:decide (ytf x.1 y.1<0)=true:=h1
  have h2:decide (ytf y.1 z.1<0)=true:=h2
  show decide (ytf x.1 z.1<0)=true
  rw [decide_eq_true_eq,yAk (yqF _) (yqF _)] at *
  grind
 ntrans x y z h1 h2:=by
  have h1:decide (ytf x.1 y.1<0)=false:=h1
  have h2:decide (ytf y.1 z.1<0)=false:=h2
  show decide (ytf x.1 z.1<0)=false
  rw [decide_eq_false_iff_not,yAk (yqF _) (yqF _)] at *
  grind
theorem yBy {s:Srt}:∀ {l:List PV},(∀ x∈l,s.gd x=true)→∃ d,s.rows? l=some d
 | [],_=>⟨[],rfl⟩
 | x::r,h=>by
  obtain ⟨d,hd⟩:=yBy (s:=s) (l:=r) fun y hy=>h y (qAm _ hy)
  refine ⟨⟨x,h x qAj⟩::d,?_⟩
  simp only [Srt.rows?]
  rw [dif_pos (h x qAj),hd]
theorem RV.i1 {n d:Int} (h:RV n d):I64 n:=by obtain ⟨h1,h2,h3,h4,_⟩:=h;exact ⟨by omega,by omega⟩
theorem RV.i2 {n d:Int} (h:RV n d):I64 d:=by obtain ⟨h1,h2,h3,h4,_⟩:=h;exact ⟨by omega,by omega⟩
theorem Sp.ok.i64 {s:Sp} (h:s.ok):s.i64:=⟨h.1.i1,h.1.i2,h.2.1.i1,h.2.1.i2⟩
theorem yQW (n g:Nat) {s:Sp} (h:s.ok):(yqk n g).s.gd (encS s)=true:=by
 obtain ⟨h1,h2,h3,h4⟩:=h.i64
 have e1:IntKind.i64.min=-9223372036854775808:=by decide
 have e2:IntKind.i64.max=9223372036854775807:=by decide
 simp only [Srt.gd,yqk,okI,encS,okL,yxu,qAc,decide_eq_true_eq,e1,e2]
 unfold I64 at h1 h2 h3 h4
 exact ⟨⟨trivial,h1.1,h1.2,trivial,h2.1,h2.2,trivial,h3.1,h3.2,trivial,h4.1,h4.2,trivial⟩,yDb.2 h.1⟩
def decS:PV→Sp
 | .agg [.int _ a,.int _ b,.int _ c,.int _ d]=>⟨a,b,c,d⟩
 | _=>default
theorem yK0 (s:Sp):decS (encS s)=s:=rfl
theorem yPe (n g:Nat) {l:List Sp} (h:∀ s∈l,s.ok):∃ l':List Sp,l'.Perm l∧l'.Pairwise (fun s t=>¬t.rs.1<s.rs.1)∧Srt.sorted (yqk n g).s (yqk n g).srt (yfQ l)=yfQ l':=by
 obtain ⟨d,hd⟩:=yBy (s:=(yqk n g).s) (l:=yfQ l) fun x hx=>by
  obtain ⟨s,hs,rfl⟩:=qB1.1 hx
  exact yQW n g (h s hs)
 obtain ⟨d',h1,h2,h3⟩:=(yqk n g).sorted_is (yM2 n g) hd
 have hv:=Srt.rows?_val hd
 have hp:(d'.map (·.1)).Perm (yfQ l):=by rw [← hv];exact h1.map _
 have hm:∀ x∈d'.map (·.1),∃ s∈l,encS s=x:=fun x hx=>qB1.1 (hp.mem_iff.1 hx)
 refine ⟨(d'.map (·.1)).map decS,?_,?_,?_⟩
 ·have this:(List.map decS (d'.map (·.1))).Perm (List.map decS (l.map encS)):=hp.map decS
  have e:List.map decS (l.map encS)=l:=by rw [List.map_map,show decS ∘ encS=id from funext yK0,List.map_id]
  rw [e] at this
  exact this
 ·rw [List.map_map,List.pairwise_map]
  refine h2.imp_of_mem fun {x y} hx hy hxy=>?_
  have hxy:¬ytf y.1 x.1<0:=hxy
  rw [yAk (yqF _) (yqF _)] at hxy
  obtain ⟨s,_,es⟩:=hm x.1 (List.mem_map_of_mem hx)
  obtain ⟨t,_,et⟩:=hm y.1 (List.mem_map_of_mem hy)
  show ¬(decS y.1).rs.1<(decS x.1).rs.1
  rw [← es,← et] at hxy ⊢
  exact hxy
 ·rw [h3]
  have key:∀ (xs:List PV),(∀ x∈xs,∃ s∈l,encS s=x)→(xs.map decS).map encS=xs:=by
   intro xs
   induction xs with
   | nil=>intro _;rfl
   | cons x r ih =>
    intro h
    obtain ⟨s,_,es⟩:=h x qAj
    rw [qBy,qBy,ih fun y hy=>h y (qAm _ hy),← es,yK0]
  exact (key _ hm).symm
end Go.Pf.Vc
namespace Go.Pf.Vc
open Go Go.Pf
def spOf (r:RS):Sp:=⟨r.1.num,r.1.den,r.2.num,r.2.den⟩
def rsp (l:List RS):List PV:=yfQ (l.map spOf)
def yht (r:RS):Prop:=small r.1∧small r.2
theorem yd0 (l:List RS):(rsp l).length=l.length:=by unfold rsp;rw [ykz,qAo]
def encR (r:RS):PV:=encS (spOf r)
theorem yvg {l:List RS} {i:Nat} (h:i<l.length):List.getD (rsp l) i .nils=encR (l.getD i default):=by
 unfold rsp
 rw [yvf (by rw [qAo];exact h)]
 unfold encR
 congr 1
 rw [qAa,qAa,qAy,qAb h]
 rfl
theorem yHB (r:RS):yaa (yag (encR r) 0)=r.1.num:=rfl
theorem yN4 (r:RS):yaa (yag (encR r) 1)=r.1.den:=rfl
theorem yHC (r:RS):yaa (yag (encR r) 2)=r.2.num:=rfl
theorem yHD (r:RS):yaa (yag (encR r) 3)=r.2.den:=rfl
theorem asR (r:RS) (P:Prop):asr (conf (.agg [.i .i64,.i .i64,.i .i64,.i .i64]) (encR r)) P=P:=rfl
theorem ySw (a b:List RS):rsp a++rsp b=rsp (a++b):=by unfold rsp yfQ;rw [List.map_append,List.map_append]
theorem yym {l:List RS} (h:∀ s∈l,yht s) {i:Nat} (hi:i<l.length):yht (l.getD i default):=by
 rw [qAa,qAb hi]
 exact h _ (qBr hi)
theorem ySx {s:Sp} (h:s.ok):spOf s.rs=s:=by
 obtain ⟨_,h2,h3⟩:=yrW h.1
 obtain ⟨_,k2,k3⟩:=yrW h.2.1
 unfold spOf Sp.rs
 cases s
 simp only at h2 h3 k2 k3 ⊢
 rw [h2,h3,k2,k3]
theorem yN5 {r:RS} (_:yht r):(spOf r).rs=r:=by
 show (rt r.1.num r.1.den,rt r.2.num r.2.den)=r
 rw [yhs,yhs]
theorem yDc {r:RS} (h:yht r) (hv:r.1<r.2):(spOf r).ok:=⟨h.1.rv,h.2.rv,by
 show rt r.1.num r.1.den<rt r.2.num r.2.den
 rw [yhs,yhs];exact hv⟩
theorem yPf {l:List Sp} (h:∀ s∈l,s.ok):yfQ l=rsp (rsL l):=by
 unfold rsp rsL
 rw [List.map_map]
 congr 1
 conv=>lhs;rw [← List.map_id l]
 exact qB9 fun s hs=>(ySx (h s hs)).symm
theorem yHE:∀ {l:List RS},l.Pairwise (fun s t=>¬t.1<s.1)→yFe l
 | [],_=>trivial
 | s::r,h=>by
  rw [List.pairwise_cons] at h
  exact ⟨fun t ht=>by have:=h.1 t ht;grind,yHE h.2⟩
end Go.Pf.Vc
namespace Go.Pf.Vc
open Go Go.Pf
def encW (q:Rat):PV:=.agg [.int .i64 q.num,.int .i64 q.den]
def rts (l:List Rat):List PV:=l.map encW
theorem yoD (l:List Rat):(rts l).length=l.length:=qAo ..
theorem ys1 {l:List Rat} {i:Nat} (h:i<l.length):List.getD (rts l) i .nils=encW (l.getD i 0):=by
 unfold rts
 rw [qAa,qAa,qAy,qAb h]
 rfl
theorem yAl (q:Rat):yaa (yag (encW q) 0)=q.num:=rfl
theorem yAm (q:Rat):yaa (yag (encW q) 1)=q.den:=rfl
theorem asW (q:Rat) (P:Prop):asr (conf (.agg [.i .i64,.i .i64]) (encW q)) P=P:=rfl
theorem ySy (q:Rat):([.agg [.int .i64 q.num,.int .i64 q.den]]:List PV)=rts [q]:=rfl
theorem ySz (a b:List Rat):rts a++rts b=rts (a++b):=by unfold rts;rw [List.map_append]
theorem yUz (a b:Rat):((a.num == b.num)&&(((a.den:Int) ==(b.den:Int))&&true))=decide (a=b):=by
 rw [Bool.and_true,Bool.eq_iff_iff]
 simp only [qAc,beq_iff_eq,decide_eq_true_eq]
 constructor
 ·rintro ⟨h1,h2⟩;exact Rat.ext h1 (by omega)
 ·rintro rfl;exact ⟨rfl,rfl⟩
end Go.Pf.Vc
namespace Go.Pf.Vc
open Go Go.Pf
theorem yK1 (l:List RS):yeC 4 (rsp l)=true:=by cases l <;> rfl
theorem yrZ {l:List RS} (h:yN3 l):∀ s∈l,s.1<s.2:=by
 induction l with
 | nil=>intro s hs;cases hs
 | cons t r ih =>
  intro s hs
  rcases qAv.1 hs with rfl | hs
  ·exact h.1
  ·exact ih h.2.2 s hs
end Go.Pf.Vc
namespace Go.Pf.Vc
open Go Go.Pf
theorem yTT {a b c d:Int} (h:RV a b) (k:RV c d):cmpI a b c d=cmpQ (rt a b) (rt c d):=by
 obtain ⟨_,h2,h3⟩:=yrW h
 obtain ⟨_,k2,k3⟩:=yrW k
 unfold cmpI cmpQ
 simp only [Rat.lt_iff,h2,h3,k2,k3]
theorem yQX:∀ {cs:List PV},okL [.i64,.i64,.i64,.i64] cs=true→∃ a b c d,cs=[.int .i64 a,.int .i64 b,.int .i64 c,.int .i64 d]
 | [],h=>by cases h
 | [x],h=>by cases x <;> simp [okL] at h
 | [x,y],h=>by cases x <;> cases y <;> simp [okL] at h
 | [x,y,z],h=>by cases x <;> cases y <;> cases z <;> simp [okL] at h
 | x::y::z::u::w,h=>by
  cases x <;> first | (simp [okL] at h;done) | skip
  cases y <;> first | (simp [okL] at h;done) | skip
  cases z <;> first | (simp [okL] at h;done) | skip
  cases u <;> first | (simp [okL] at h;done) | skip
  simp only [okL,qAc,decide_eq_true_eq] at h
  obtain ⟨rfl,_,_,rfl,_,_,rfl,_,_,rfl,_,_,h⟩:=h
  cases w with
  | nil=>exact ⟨_,_,_,_,rfl⟩
  | cons p q=>simp [okL] at h
theorem yTe {n g:Nat} {x:PV} (h:(yqk n g).s.gd x=true):∃ a b c d,x=.agg [.int .i64 a,.int .i64 b,.int .i64 c,.int .i64 d]∧RV a b:=by
 simp only [Srt.gd,qAc] at h
 have h1:okI [.i64,.i64,.i64,.i64] x=true:=h.1
 have h2:yxu x=true:=h.2
 clear h
 cases x <;> first | (simp [okI] at h1;done) | skip
 obtain ⟨a,b,c,d,rfl⟩:=yQX (h1:okL _ _=true)
 exact ⟨a,b,c,d,rfl,yDb.1 h2⟩
end Go.Pf.Vc
namespace Go.Pf.Vc
open Go Go.Pf
structure Pc (l:List RS):Prop where
 c:yN3 l
 s:∀ s∈l,yht s
 n:l.length≤60
theorem yQY {l:List RS} (h:∀ s∈l,yht s):rsL (l.map spOf)=l:=by
 induction l with
 | nil=>rfl
 | cons s r ih =>
  show (spOf s).rs::rsL (r.map spOf)=_
  rw [yN5 (h s qAj),ih fun t ht=>h t (qAm _ ht)]
theorem Pc.ok {l:List RS} (h:Pc l):∀ s∈l.map spOf,s.ok:=fun s hs=>by
 obtain ⟨t,ht,rfl⟩:=qB1.1 hs
 exact yDc (h.s t ht) (yrZ h.c t ht)
theorem Pc.i64 {l:List RS} (h:Pc l):∀ s∈l.map spOf,s.i64:=fun s hs=>by
 obtain ⟨t,ht,rfl⟩:=qB1.1 hs
 have:=h.s t ht
 exact ⟨this.1.i1,this.1.i2,this.2.i1,this.2.i2⟩
theorem Pc.e {l:List RS} (h:Pc l):yI9 (l.map spOf)=0:=by
 have hl:=h.n
 have ho:=h.ok
 have hc:=h.c
 rw [← yQY h.s] at hc
 have h1:yFf (l.map spOf)=true:=List.all_eq_true.2 fun s hs=>decide_eq_true (ho s hs)
 have h2:allE (l.map spOf)=0:=by
  unfold allE
  rw [if_neg (by rw [qAo];omega),h1,if_pos rfl]
 unfold yI9
 rw [h2]
 cases l with
 | nil=>rfl
 | cons s r =>
  have hg:gapB (spOf s) (r.map spOf)=true:=(yHA _ _ (ho _ (by simp)) (fun t ht=>ho t (qAm _ ht))).2 hc
  show (if (0:Int)=0 then (if gapB (spOf s) (r.map spOf) then 0 else 8) else _)=_
  rw [if_pos rfl,hg,if_pos rfl]
theorem Pc.check {l:List RS} (h:Pc l) (K:Int→Prop):yaI (rsp l) K=K 0:=by
 unfold rsp
 rw [yPd h.i64 (by rw [qAo];have:=h.n;omega),h.e]
end Go.Pf.Vc
namespace Go.Pf.Vc
open Go Go.Pf
def sumV (v:RS→Rat):List RS→Rat
 | []=>0
 | s::r=>v s+sumV v r
theorem yyn:small 0:=by decide +kernel
end Go.Pf.Vc
namespace Go.Pf.Vc
open Go Go.Pf
theorem nz (P Q:Prop):cbr ((0:Int) != 0) P Q=Q:=rfl
end Go.Pf.Vc
namespace Go.Pf.Vc
open Go Go.Pf
section
variable (V:Rat→Rat)
def dV (s:RS):Rat:=V s.2-V s.1
end
end Go.Pf.Vc
namespace Go.Pf.Vc
open Go Go.Pf
section
variable {len:Int} {cuts dens:List Int}
def uC (cuts:List Int) (i:Nat) (x:Rat):Rat:=minR (maxR x (cuts.getD i 0:Int)) (cuts.getD (i+1) 0:Int)
def vu (cuts dens:List Int) (x:Rat):Nat→Nat→Rat
 | 0,_=>0
 | r+1,i=>(dens.getD i 0:Int)*uC cuts i x+vu cuts dens x r (i+1)
theorem yFg (h:VC len cuts dens):∀ (r i:Nat) {x y:Rat},i+r=dens.length→x≤(cuts.getD i 0:Int)→y≤(cuts.getD i 0:Int)→vu cuts dens x r i=vu cuts dens y r i
 | 0,_,_,_,_,_,_=>rfl
 | r+1,i,x,y,hi,hx,hy=>by
  have l1:=h.l1
  have hst:((cuts.getD i 0:Int):Rat)<((cuts.getD (i+1) 0:Int):Rat):=Rat.intCast_lt_intCast.2 (h.step (i:=i) (by omega))
  have ih:=yFg h r (i+1) (x:=x) (y:=y) (by omega) (by grind) (by grind)
  unfold vu
  rw [ih]
  have e:uC cuts i x=uC cuts i y:=by
   unfold uC
   have a1:=yie x (cuts.getD i 0:Int)
   have a2:=yie y (cuts.getD i 0:Int)
   have e1:maxR x (cuts.getD i 0:Int)=(cuts.getD i 0:Int):=by grind
   have e2:maxR y (cuts.getD i 0:Int)=(cuts.getD i 0:Int):=by grind
   rw [e1,e2]
  rw [e]
theorem yqG {α:Type} {q:Rat} {k:Rat→Except Int α} {v:α} (h:fit q k=.ok v):k q=.ok v:=by
 unfold fit at h
 split at h
 ·exact h
 ·cases h
theorem yDd (h:VC len cuts dens) {b:Rat}:∀ (r i:Nat) (p sum v:Rat),i+r=dens.length→p≤b→(p=b∨((cuts.getD i 0:Int):Rat)≤p)→valS cuts dens b r i p sum=.ok v→v=sum+(vu cuts dens b r i-vu cuts dens p r i)
 | 0,i,p,sum,v,hi,hp,hc,hv=>by
  unfold valS at hv
  cases hv
  unfold vu
  grind
 | r+1,i,p,sum,v,hi,hp,hc,hv=>by
  have l1:=h.l1
  have hst:((cuts.getD i 0:Int):Rat)<((cuts.getD (i+1) 0:Int):Rat):=Rat.intCast_lt_intCast.2 (h.step (i:=i) (by omega))
  unfold valS at hv
  dsimp only at hv
  have hen:∃ en:Rat,(if b<((cuts.getD (i+1) 0:Int):Rat) then b else ((cuts.getD (i+1) 0:Int):Rat))=en∧en≤b∧en≤((cuts.getD (i+1) 0:Int):Rat)∧(en=b∨en=((cuts.getD (i+1) 0:Int):Rat)):=by
   refine ⟨_,rfl,?_⟩
   split <;> grind
  obtain ⟨en,e0,he1,he2,he3⟩:=hen
  rw [e0] at hv
  have low:=yFg h r (i+1) (x:=en) (y:=p) (by omega)
  have m1:=yie b (cuts.getD i 0:Int)
  have m2:=yie p (cuts.getD i 0:Int)
  have n1:=yj0 (maxR b (cuts.getD i 0:Int)) (cuts.getD (i+1) 0:Int)
  have n2:=yj0 (maxR p (cuts.getD i 0:Int)) (cuts.getD (i+1) 0:Int)
  unfold vu uC
  generalize ((cuts.getD i 0:Int):Rat)=c0 at *
  generalize hc1:((cuts.getD (i+1) 0:Int):Rat)=c1 at *
  by_cases hlt:p<en
  ·have hb:minR (maxR b c0) c1=en:=by grind
   have hq:minR (maxR p c0) c1=p:=by grind
   by_cases hd:dens.getD i 0=0
   ·rw [if_pos (.inl hd),if_pos hlt] at hv
    have ih:=yDd h r (i+1) en sum v (by omega) he1 (by rw [hc1];grind) hv
    rw [ih,hd,low (by grind) (by grind)]
    grind
   ·rw [if_neg (by intro k;rcases k with k | k;exact hd k;exact k hlt)] at hv
    have hv:=yqG (yqG (yqG hv))
    have ih:=yDd h r (i+1) en _ v (by omega) he1 (by rw [hc1];grind) hv
    rw [ih,low (by grind) (by grind),hb,hq]
    grind
  ·rw [if_pos (.inr hlt),if_neg hlt] at hv
   have ih:=yDd h r (i+1) p sum v (by omega) hp (by rw [hc1];grind) hv
   have:minR (maxR b c0) c1=minR (maxR p c0) c1:=by grind
   rw [ih,this]
   grind
end
end Go.Pf.Vc
namespace Go.Pf.Vc
open Go Go.Pf
section
variable {len:Int} {cuts dens:List Int}
def vX (cuts dens:List Int) (x:Rat):Rat:=vu cuts dens x dens.length 0
theorem ySA (h:VC len cuts dens) {a b v:Rat} (h0:0≤a) (hab:a≤b) (hv:valC cuts dens a b=.ok v):v=vX cuts dens b-vX cuts dens a:=by
 have c0:cuts.getD 0 0=0:=h.2.2.2.2.2.1
 have:=yDd h dens.length 0 a 0 v (by omega) hab (.inr (by rw [c0];exact h0)) hv
 unfold vX
 rw [this];grind
def Wi (len:Int) (l:List RS):Prop:=∀ s∈l,0≤s.1∧s.2≤(len:Rat)
theorem yTU (cuts dens:List Int) (b:Rat):∀ (r i:Nat) (p sum v:Rat),small sum→valS cuts dens b r i p sum=.ok v→small v:=by
 intro r
 induction r with
 | zero=>intro i p sum v hs e;unfold valS at e;cases e;exact hs
 | succ r ih =>
  intro i p sum v hs e
  unfold valS fit at e
  repeat' (first | split at e | dsimp only at e)
  all_goals first | exact ih _ _ _ _ hs e | (rename_i h;exact ih _ _ _ _ h e) | cases e
theorem ySB (q r:Rat):decide (cmpQ q r>0)=decide (r<q):=by
 rw [← Bool.not_eq_not,← ySu,Bool.eq_iff_iff]
 simp only [decide_eq_true_eq]
 omega
end
end Go.Pf.Vc
namespace Go.Pf.Vc
open Go Go.Pf
def yQZ (len:Int) (l:List RS):Bool:=l.all fun s=>decide (PT len s.1.num s.1.den)&&decide (PT len s.2.num s.2.den)
theorem yQ0 {len:Int} {l:List RS} (h:yQZ len l=true):Wi len l:=fun s hs=>by
 have:=List.all_eq_true.1 h s hs
 simp only [qAc,decide_eq_true_eq] at this
 obtain ⟨h1,h2⟩:=this
 have p1:=h1.pt
 have p2:=h2.pt
 rw [yhs] at p1 p2
 exact ⟨p1.2.2.2.1,p2.2.2.2.2⟩
end Go.Pf.Vc
namespace Go.Pf.Vc
open Go Go.Pf
theorem yUA (q:Qy):yaa (yag (encQ q) 0)=q.agent:=rfl
theorem yUB (q:Qy):yaa (yag (encQ q) 1)=q.kind:=rfl
theorem yUC (q:Qy):yaa (yag (encQ q) 2)=q.an:=rfl
theorem yUD (q:Qy):yaa (yag (encQ q) 3)=q.ad:=rfl
theorem yUE (q:Qy):yaa (yag (encQ q) 4)=q.bn:=rfl
theorem yUF (q:Qy):yaa (yag (encQ q) 5)=q.bd:=rfl
theorem yUG (q:Qy):yaa (yag (encQ q) 6)=q.cn:=rfl
theorem yUH (q:Qy):yaa (yag (encQ q) 7)=q.cd:=rfl
end Go.Pf.Vc
namespace Go.Pf.Vc
open Go Go.Pf Go.Sort
theorem yQ1 {α:Type} (f:α→Prop) (k:α):Go.Pf.jn f k=f k:=rfl
end Go.Pf.Vc
namespace Go.Pf.Vc
open Go Go.Pf Go.Sort
theorem yTV {x d:Int} (h0:0≤x) (h1:x≤1000000000000000000) (d0:1≤d) (d1:d≤1000000000000000000):small ((x:Rat) / (d:Rat)):=by
 have hd:(d:Rat)≠0:=by
  have:(0:Rat)<(d:Rat):=Rat.intCast_pos.2 (by omega)
  grind
 generalize hq:(x:Rat) / (d:Rat)=q
 have e1:(q.num:Rat)*(d:Rat)=(x:Rat)*(q.den:Rat):=by
  have h2:(q.den:Rat)≠0:=by
   have:(0:Rat)<(q.den:Rat):=Rat.natCast_pos.2 q.den_pos
   grind
  have h3:q=(q.num:Rat) / (q.den:Rat):=by rw [← Rat.mkRat_eq_div,Rat.mkRat_self]
  have h4:q*(q.den:Rat)=(q.num:Rat):=by
   have:(q.num:Rat) / (q.den:Rat)*(q.den:Rat)=(q.num:Rat):=qB4 h2
   rw [← h3] at this
   exact this
  have h5:q*(d:Rat)=(x:Rat):=by rw [← hq];exact qB4 hd
  grind
 have e2:q.num*d=x*(q.den:Int):=by
  rw [show (q.den:Rat)=(((q.den:Nat):Int):Rat) from (Rat.intCast_natCast _).symm,← qB5,← qB5] at e1
  exact Rat.intCast_inj.1 e1
 have hp:=q.den_pos
 have n0:0≤q.num:=by
  refine Int.not_lt.1 fun h=>?_
  have a1:q.num*d<0:=qCb h (by omega)
  have a2:0≤x*(q.den:Int):=qA7 h0 (by omega)
  omega
 have hdv:q.den∣d.natAbs:=by
  have hc:Nat.Coprime q.den q.num.natAbs:=q.reduced.symm
  refine hc.dvd_of_dvd_mul_left (m:=q.num.natAbs) ?_
  have:(q.num*d).natAbs=(x*(q.den:Int)).natAbs:=by rw [e2]
  rw [Int.natAbs_mul,Int.natAbs_mul,Int.natAbs_natCast] at this
  rw [this]
  exact Nat.dvd_mul_left ..
 obtain ⟨t,ht⟩:=hdv
 have hd2:d=(q.den:Int)*(t:Int):=by
  rw [← Int.natCast_mul,← ht];omega
 have t1:1≤t:=by
  rcases Nat.eq_zero_or_pos t with h | h
  ·rw [h] at hd2;omega
  ·exact h
 have e3:q.num*(t:Int)=x:=by
  have:(q.num*(t:Int))*(q.den:Int)=x*(q.den:Int):=by rw [← e2,hd2,Int.mul_assoc,Int.mul_comm (t:Int)]
  exact Int.eq_of_mul_eq_mul_right (by omega) this
 have e4:q.num≤q.num*(t:Int):=by
  have:=Int.mul_le_mul_of_nonneg_left (show (1:Int)≤(t:Int) by omega) n0
  omega
 have e5:(q.den:Int)≤(q.den:Int)*(t:Int):=by
  have:=Int.mul_le_mul_of_nonneg_left (show (1:Int)≤(t:Int) by omega) (show (0:Int)≤(q.den:Int) by omega)
  omega
 exact ⟨by omega,by omega,by omega⟩
end Go.Pf.Vc
namespace Go.Pf.Vc
open Go Go.Pf
section
variable {len:Int} {cuts dens:List Int}
theorem yN6 (h:VC len cuts dens) {i:Nat} (hi:i+1<cuts.length) {x y:Rat} (hxy:x≤y):uC cuts i x≤uC cuts i y:=by
 have hst:((cuts.getD i 0:Int):Rat)<((cuts.getD (i+1) 0:Int):Rat):=Rat.intCast_lt_intCast.2 (h.step (i:=i) hi)
 have m1:=yie x (cuts.getD i 0:Int)
 have m2:=yie y (cuts.getD i 0:Int)
 have n1:=yj0 (maxR x (cuts.getD i 0:Int)) (cuts.getD (i+1) 0:Int)
 have n2:=yj0 (maxR y (cuts.getD i 0:Int)) (cuts.getD (i+1) 0:Int)
 unfold uC
 grind
theorem yQ2 (h:VC len cuts dens) {i:Nat} (hi:i<dens.length):(0:Rat)≤((dens.getD i 0:Int):Rat):=Rat.intCast_nonneg.2 (h.den hi).1
theorem yJa (h:VC len cuts dens) {x y:Rat} (hxy:x≤y):∀ (r i:Nat),i+r=dens.length→vu cuts dens x r i≤vu cuts dens y r i
 | 0,_,_=>qBg
 | r+1,i,hi=>by
  have l1:=h.l1
  have h1:=yN6 h (i:=i) (by omega) hxy
  have h2:=yJa h hxy r (i+1) (by omega)
  have h3:=qBm h1 (yQ2 h (i:=i) (by omega))
  unfold vu
  grind
theorem yvI (h:VC len cuts dens) {x y:Rat} (hxy:x≤y):vX cuts dens x≤vX cuts dens y:=yJa h hxy dens.length 0 (by omega)
theorem yDe (h:VC len cuts dens):∀ (r i:Nat) (p v q:Rat),i+r=dens.length→0<v→((cuts.getD i 0:Int):Rat)≤p→mrkS cuts dens r i p v=.ok q →
  vu cuts dens q r i-vu cuts dens p r i=v∧p<q∧q≤((cuts.getD dens.length 0:Int):Rat)∧∀ x,x<q→vu cuts dens x r i<vu cuts dens q r i
 | 0,_,_,_,_,_,_,_,e=>by cases e
 | r+1,i,p,v,q,hi,hv,hp,e=>by
  have l1:=h.l1
  have hst:((cuts.getD i 0:Int):Rat)<((cuts.getD (i+1) 0:Int):Rat):=Rat.intCast_lt_intCast.2 (h.step (i:=i) (by omega))
  have hd:=h.den (i:=i) (by omega)
  have hd0:=yQ2 h (i:=i) (by omega)
  have low:=fun {x y:Rat}=>yFg h r (i+1) (x:=x) (y:=y) (by omega)
  have hmon:=fun {x:Rat} (hx:x<q)=>yN6 h (i:=i) (by omega) (qBu hx)
  have hmon2:=fun {x:Rat} (hx:x<q)=>yJa h (qBu hx) r (i+1) (by omega)
  have m1:=yie p (cuts.getD i 0:Int)
  have m2:=yie q (cuts.getD i 0:Int)
  have n1:=yj0 (maxR p (cuts.getD i 0:Int)) (cuts.getD (i+1) 0:Int)
  have n2:=yj0 (maxR q (cuts.getD i 0:Int)) (cuts.getD (i+1) 0:Int)
  unfold mrkS at e
  by_cases c1:p<((cuts.getD (i+1) 0:Int):Rat)
  case neg =>
   rw [if_pos c1] at e
   obtain ⟨a1,a2,a3,a4⟩:=yDe h r (i+1) p v q (by omega) hv (Rat.not_lt.1 c1) e
   have eq:uC cuts i q=uC cuts i p:=by unfold uC;grind
   refine ⟨by unfold vu;rw [eq];grind,a2,a3,fun x hx=>?_⟩
   have b1:=a4 x hx
   have b2:=qBm (hmon hx) hd0
   unfold vu
   grind
  rw [if_neg (fun k=>k c1)] at e
  by_cases c2:dens.getD i 0=0
  ·rw [if_pos c2] at e
   obtain ⟨a1,a2,a3,a4⟩:=yDe h r (i+1) _ v q (by omega) hv qBg e
   have e2:=low (x:=p) (y:=((cuts.getD (i+1) 0:Int):Rat)) (qBu c1) qBg
   refine ⟨by unfold vu;rw [e2,c2];grind,by grind,a3,fun x hx=>?_⟩
   have b1:=a4 x hx
   have b2:=qBm (hmon hx) hd0
   unfold vu
   grind
  rw [if_neg c2] at e
  have e:=yqG (yqG e)
  have dpos:(0:Rat)<((dens.getD i 0:Int):Rat):=Rat.intCast_pos.2 (by omega)
  have up:uC cuts i p=p:=by unfold uC;grind
  by_cases c3:(((cuts.getD (i+1) 0:Int):Rat)-p)*((dens.getD i 0:Int):Rat)<v
  ·rw [if_pos c3] at e
   have e:=yqG e
   obtain ⟨a1,a2,a3,a4⟩:=yDe h r (i+1) _ _ q (by omega) (by grind) qBg e
   have e2:=low (x:=p) (y:=((cuts.getD (i+1) 0:Int):Rat)) (qBu c1) qBg
   have uq:uC cuts i q=((cuts.getD (i+1) 0:Int):Rat):=by unfold uC;grind
   refine ⟨by unfold vu;rw [e2,up,uq];grind,by grind,a3,fun x hx=>?_⟩
   have b1:=a4 x hx
   have b2:=qBm (hmon hx) hd0
   unfold vu
   grind
  ·rw [if_neg c3] at e
   have e:=yqG (yqG e)
   cases e
   generalize hs:v / ((dens.getD i 0:Int):Rat)=s at *
   have es:s*((dens.getD i 0:Int):Rat)=v:=by rw [← hs];exact qB4 (by grind)
   have s0:0<s:=by
    refine Rat.not_le.1 fun k=>?_
    have:=qCc k hd0
    grind
   have s1:p+s≤((cuts.getD (i+1) 0:Int):Rat):=by
    refine Rat.not_lt.1 fun k=>?_
    have:(((cuts.getD (i+1) 0:Int):Rat)-p)<s:=by grind
    have:=Rat.mul_lt_mul_of_pos_right this dpos
    grind
   have uq:uC cuts i (p+s)=p+s:=by unfold uC;grind
   have e2:=low (x:=p+s) (y:=p) s1 (qBu c1)
   have hlast:cuts.getD (i+1) 0≤cuts.getD dens.length 0:=h.mono (by omega) (by omega)
   have hlast:((cuts.getD (i+1) 0:Int):Rat)≤((cuts.getD dens.length 0:Int):Rat):=qAr.2 hlast
   refine ⟨by unfold vu;rw [e2,up,uq];grind,by grind,by grind,fun x hx=>?_⟩
   have b1:=hmon2 hx
   have ux:uC cuts i x<p+s:=by
    have k1:=yie x (cuts.getD i 0:Int)
    have k2:=yj0 (maxR x (cuts.getD i 0:Int)) (cuts.getD (i+1) 0:Int)
    unfold uC
    grind
   have b2:=Rat.mul_lt_mul_of_pos_left ux dpos
   unfold vu
   rw [uq]
   grind
theorem VC.last (h:VC len cuts dens):cuts.getD dens.length 0=len:=by
 have l1:=h.l1
 have:=h.2.2.2.2.2.2.1
 rw [show dens.length=cuts.length-1 by omega]
 exact this
theorem ySC (h:VC len cuts dens) {a v q:Rat} (h0:0≤a) (h1:a≤(len:Rat)) (hv:0≤v) (e:mrkC cuts dens a v=.ok q) :
  vX cuts dens q=vX cuts dens a+v∧a≤q∧q≤(len:Rat)∧(v=0→a=q)∧(v≠0→∀ x,x<q→vX cuts dens x<vX cuts dens q):=by
 unfold mrkC at e
 by_cases c:v=0
 ·rw [if_pos c] at e
  cases e
  rw [c]
  exact ⟨by grind,qBg,h1,fun _=>rfl,fun k=>absurd rfl k⟩
 ·rw [if_neg c] at e
  have c0:cuts.getD 0 0=0:=h.2.2.2.2.2.1
  obtain ⟨a1,a2,a3,a4⟩:=yDe h dens.length 0 a v q (by omega) (by grind) (by rw [c0];exact h0) e
  rw [h.last] at a3
  exact ⟨by unfold vX;grind,qBu a2,a3,fun k=>absurd k c,fun _=>a4⟩
end
end Go.Pf.Vc
namespace Go.Pf.Vc
open Go Go.Pf
def In (D:Int) (q:Rat):Prop:=∃ n:Int,q=(n:Rat) / (D:Rat)
theorem In.int {D:Int} (h:1≤D) (c:Int):In D (c:Rat):=⟨c*D,by rw [qB5,Rat.mul_div_cancel (rne h)]⟩
theorem In.add {D:Int} {q r:Rat} (h:In D q) (k:In D r):In D (q+r):=by
 obtain ⟨n,rfl⟩:=h
 obtain ⟨m,rfl⟩:=k
 exact ⟨n+m,by rw [Rat.intCast_add];grind⟩
theorem In.sub {D:Int} {q r:Rat} (h:In D q) (k:In D r):In D (q-r):=by
 obtain ⟨n,rfl⟩:=h
 obtain ⟨m,rfl⟩:=k
 exact ⟨n-m,by rw [Rat.intCast_sub];grind⟩
theorem In.mulI {D:Int} {q:Rat} (h:In D q) (d:Int):In D (q*(d:Rat)):=by
 obtain ⟨n,rfl⟩:=h
 exact ⟨n*d,by rw [qB5];grind⟩
theorem In.up {D d:Int} {q:Rat} (hD:1≤D) (hd:1≤d) (h:In D q):In (d*D) q:=by
 obtain ⟨n,rfl⟩:=h
 have h1:=rne hD
 have h2:=rne hd
 refine ⟨d*n,?_⟩
 rw [qB5,qB5]
 grind
theorem In.div {D d:Int} {q:Rat} (hD:1≤D) (hd:1≤d) (h:In D q):In (d*D) (q / (d:Rat)):=by
 obtain ⟨n,rfl⟩:=h
 have h1:=rne hD
 have h2:=rne hd
 refine ⟨n,?_⟩
 rw [qB5]
 grind
theorem In.small {D M:Int} {q:Rat} (h:In D q) (hD:1≤D∧D≤1000000000000000000) (hM:M*D≤1000000000000000000) (h0:-(M:Rat)≤q) (h1:q≤(M:Rat)):small q:=by
 obtain ⟨n,rfl⟩:=h
 have hp:(0:Rat)<(D:Rat):=Rat.intCast_pos.2 (by omega)
 have e:(n:Rat) / (D:Rat)*(D:Rat)=(n:Rat):=qB4 (rne hD.1)
 have a:=qCc h0 (qBu hp)
 have b:=qCc h1 (qBu hp)
 rw [e] at a b
 have a':((-(M*D):Int):Rat)≤(n:Rat):=by rw [Rat.intCast_neg,qB5];grind
 have b':(n:Rat)≤((M*D:Int):Rat):=by rw [qB5];exact b
 have a2:=qAr.1 a'
 have b2:=qAr.1 b'
 exact yHv (d:=D) ⟨by omega,by omega⟩ ⟨by omega,by omega⟩
section
variable {len:Int} {cuts dens:List Int}
theorem yDf (h:VC len cuts dens) {i j:Nat} (hij:i≤j) (hj:j≤dens.length):((cuts.getD i 0:Int):Rat)≤((cuts.getD j 0:Int):Rat):=qAr.2 (h.mono hij (by have:=h.l1;omega))
theorem yUI {D:Int} (hD:1≤D) {x:Rat} (hx:In D x) (i:Nat):In D (uC cuts i x):=by
 have n1:=yj0 (maxR x (cuts.getD i 0:Int)) (cuts.getD (i+1) 0:Int)
 have m1:=yie x (cuts.getD i 0:Int)
 unfold uC
 rcases n1.2.2 with e | e
 ·rw [e]
  rcases m1.2.2 with e2 | e2
  ·rw [e2];exact hx
  ·rw [e2];exact In.int hD _
 ·rw [e];exact In.int hD _
theorem yTf {D:Int} (hD:1≤D) {x:Rat} (hx:In D x):∀ (r i:Nat),In D (vu cuts dens x r i)
 | 0,_=>In.int hD 0
 | r+1,i=>by
  unfold vu
  rw [Rat.mul_comm]
  exact ((yUI hD hx i).mulI _).add (yTf hD hx r (i+1))
theorem yTg {D:Int} (hD:1≤D) {x:Rat} (hx:In D x):In D (vX cuts dens x):=yTf hD hx _ _
theorem yQ3 (h:VC len cuts dens):∀ (r i:Nat),i+r=dens.length→vu cuts dens (len:Rat) r i-vu cuts dens ((cuts.getD i 0:Int):Rat) r i=((rem cuts dens r i:Int):Rat)
 | 0,_,_=>by unfold vu rem;show (0:Rat)-0=0;grind
 | r+1,i,hi=>by
  have ih:=yQ3 h r (i+1) (by omega)
  have hst:((cuts.getD i 0:Int):Rat)≤((cuts.getD (i+1) 0:Int):Rat):=yDf h (Nat.le_succ i) (by omega)
  have hl:((cuts.getD (i+1) 0:Int):Rat)≤(len:Rat):=by rw [← h.last];exact yDf h (by omega) (qAk _)
  have low:=yFg h r (i+1) (x:=((cuts.getD i 0:Int):Rat)) (y:=((cuts.getD (i+1) 0:Int):Rat)) (by omega) hst qBg
  have m1:=yie (len:Rat) (cuts.getD i 0:Int)
  have n1:=yj0 (maxR (len:Rat) (cuts.getD i 0:Int)) (cuts.getD (i+1) 0:Int)
  have m2:=yie ((cuts.getD i 0:Int):Rat) (cuts.getD i 0:Int)
  have n2:=yj0 (maxR ((cuts.getD i 0:Int):Rat) (cuts.getD i 0:Int)) (cuts.getD (i+1) 0:Int)
  have e1:uC cuts i (len:Rat)=((cuts.getD (i+1) 0:Int):Rat):=by unfold uC;grind
  have e2:uC cuts i ((cuts.getD i 0:Int):Rat)=((cuts.getD i 0:Int):Rat):=by unfold uC;grind
  unfold vu rem
  rw [e1,e2,low,Rat.intCast_add,qB5,Rat.intCast_sub,← ih]
  grind
theorem yM3 (h:VC len cuts dens):vX cuts dens (len:Rat)-vX cuts dens 0=((totC cuts dens:Int):Rat):=by
 have c0:cuts.getD 0 0=0:=h.2.2.2.2.2.1
 have:=yQ3 h dens.length 0 (by omega)
 rw [c0] at this
 unfold totC
 rw [yE9,show (0:Int)+rem cuts dens dens.length 0=rem cuts dens dens.length 0 by omega]
 exact this
end
end Go.Pf.Vc
namespace Go.Pf.Vc
open Go Go.Pf
section
variable {len:Int} {cuts dens:List Int}
theorem yN7 (h:VC len cuts dens):(1:Rat)≤(len:Rat)∧(len:Rat)≤1000:=by
 have:=h.len0
 exact ⟨qAr.2 this.1,qAr.2 this.2⟩
theorem yN8 (h:VC len cuts dens) {i:Nat} (hi:i<dens.length):(0:Rat)≤((dens.getD i 0:Int):Rat)∧((dens.getD i 0:Int):Rat)≤12:=by
 have:=h.den hi
 exact ⟨qAr.2 this.1,qAr.2 this.2⟩
theorem yN9 {x d:Rat} (h0:0≤x) (hd:0≤d∧d≤12):0≤x*d∧x*d≤12*x:=by
 have a:=Rat.mul_nonneg h0 hd.1
 have b:=qBm hd.2 h0
 exact ⟨a,by grind⟩
theorem yBz (h:VC len cuts dens) {D:Int} (hD:1≤D∧D≤50000000000000) {b:Rat} (hb:In D b) (b1:b≤(len:Rat)) :
  ∀ (r i:Nat) (p sum:Rat),i+r=dens.length→In D p→In D sum→0≤p→p≤(len:Rat)→0≤sum→sum≤12*p→∃ v,valS cuts dens b r i p sum=.ok v
 | 0,i,p,sum,_,_,_,_,_,_,_=>⟨sum,rfl⟩
 | r+1,i,p,sum,hi,hp,hs,p0,p1,s0,s1=>by
  have l1:=h.l1
  have hl:=yN7 h
  have hd:=yN8 h (i:=i) (by omega)
  have hc1:((cuts.getD (i+1) 0:Int):Rat)≤(len:Rat):=by rw [← h.last];exact yDf h (by omega) (qAk _)
  unfold valS
  have hen:∃ en:Rat,(if b<((cuts.getD (i+1) 0:Int):Rat) then b else ((cuts.getD (i+1) 0:Int):Rat))=en∧In D en∧en≤(len:Rat):=by
   refine ⟨_,rfl,?_,?_⟩
   ·split
    ·exact hb
    ·exact In.int hD.1 _
   ·split <;> grind
  obtain ⟨en,e0,e1,e2⟩:=hen
  rw [e0]
  dsimp only
  split
  ·refine yBz h hD hb b1 r (i+1) _ sum (by omega) ?_ hs ?_ ?_ s0 ?_
   ·split
    ·exact e1
    ·exact hp
   ·split <;> grind
   ·split <;> grind
   ·split <;> grind
  ·rename_i hn
   have hlt:p<en:=by
    refine Classical.byContradiction fun k=>hn (.inr k)
   have m:=yN9 (x:=en-p) (by grind) hd
   have i1:=e1.sub hp
   have i2:=i1.mulI (dens.getD i 0)
   have i3:=hs.add i2
   rw [yro (i1.small (M:=1000) ⟨by omega,by omega⟩ (by omega) (by show -(1000:Rat)≤_;grind) (by show _≤(1000:Rat);grind)),
    yro (i2.small (M:=12000) ⟨by omega,by omega⟩ (by omega) (by show -(12000:Rat)≤_;grind) (by show _≤(12000:Rat);grind)),
    yro (i3.small (M:=12000) ⟨by omega,by omega⟩ (by omega) (by show -(12000:Rat)≤_;grind) (by show _≤(12000:Rat);grind))]
   exact yBz h hD hb b1 r (i+1) en _ (by omega) e1 i3 (by grind) e2 (by grind) (by grind)
theorem yPg (h:VC len cuts dens) {D:Int} (hD:1≤D∧D≤50000000000000) {a b:Rat} (ha:In D a) (hb:In D b) (a0:0≤a) (hab:a≤b) (b1:b≤(len:Rat)):valC cuts dens a b=.ok (vX cuts dens b-vX cuts dens a):=by
 obtain ⟨v,e⟩:=yBz h hD hb b1 dens.length 0 a 0 (by omega) ha (In.int hD.1 0) a0 (by grind) (by grind) (by grind)
 have e:valC cuts dens a b=.ok v:=e
 rw [e,ySA h a0 hab e]
end
end Go.Pf.Vc
namespace Go.Pf.Vc
open Go Go.Pf
set_option maxRecDepth 100000
def UL (E:Env) (callK:CK) (lp:LP) (b:TCode):Nat→Frm→Hp→(Ex→Frm→Hp→Prop)→Prop
 | 0,_,_,_=>False
 | n+1,F,H,Q=>WC E callK lp b F H fun x F' H'=>match x with | .norm=>UL E callK lp b n F' H' Q | .exit i=>Q (.exit i) F' H' | .ret=>Q .ret F' H'
theorem yQ4 {E:Env} {callK:CK} {lp:LP} {b:TCode} (hG:Good E callK) (hl:LpOk E lp b) {n:Nat} {F:Frm} {H:Hp} {Q:Ex→Frm→Hp→Prop} (h:UL E callK lp b n F H Q):ycr E b F H Q :=
 ycr.intro hG hl (fun n F H=>UL E callK lp b n F H Q) (fun _ _ h=>h) (fun _ _ _ h=>h) n F H h
section
variable (e:Es) (fa fb fe:PV→PV→Int)
def WG (c p:PV):Prop:=Ans (E e) ycU [c,p] (.tup [.agg [.int .i64 (fa c p),.int .i64 (fb c p)],.int .i64 (fe c p)])
def wpWr (as:List PV) (K:PV→Prop):Prop :=
 match as with
 | [c,p]=>WG e fa fb fe c p∧K (.tup [.agg [.int .i64 (fa c p),.int .i64 (fb c p)],.int .i64 (fe c p)])
 | _=>False
def wpCk (as:List PV) (K:PV→Prop):Prop:=Ans (E e) yfn as (.int .i64 0)∧K (.int .i64 0)
def sW0:SE:=⟨E e,yaK [(yfn,wpCk e),(ycU,wpWr e fa fb fe)],yaL [],fun _ _ _ _=>False⟩
def lpW1:LP:=fun id F H Q=>bif Nat.beq id 14283600 then UL (E e) (ybd (sW0 e fa fb fe) 1) (fun _ _ _ _=>False) ylU 8 F H Q else False
def lpW:LP:=fun id F H Q=>bif Nat.beq id 14283600 then UL (E e) (ybd (sW0 e fa fb fe) 1) (fun _ _ _ _=>False) ylU 8 F H Q else
 bif Nat.beq id 14283601 then UL (E e) (ybd (sW0 e fa fb fe) 1) (lpW1 e fa fb fe) ysd 8 F H Q else False
def seqW (K:Option PV→Prop):List (PV×PV)→Prop→Prop
 | [],fin=>fin
 | q::r,fin=>WG e fa fb fe q.1 q.2∧cbr (fe q.1 q.2 != 0) (K (some (.tup [.data [],.int .i64 (fe q.1 q.2)]))) (seqW K r fin)
def prs (cs:List Ck) (ps:List (List PV)):List (PV×PV):=cs.flatMap fun c=>ps.map fun p=>(encC c,.data p)
def wtab (cs:List Ck) (ps:List (List PV)):List PV:=cs.map fun c=>.data (ps.map fun p=>.agg [.int .i64 (fa (encC c) (.data p)),.int .i64 (fb (encC c) (.data p))])
def pcsD (ps:List (List PV)):List PV:=ps.map fun p=>.data p
def wRun (cs:List Ck) (ps:List (List PV)) (K:Option PV→Prop):Prop :=
 WFn (E e) (ybd (sW0 e fa fb fe) 1) (lpW e fa fb fe) ywC [.data (cks cs),.agg [.data (pcsD ps)]] [] fun r H=>K (purN true H r)
def wAns (cs:List Ck) (ps:List (List PV)) (K:Option PV→Prop):Prop :=
 Ans (E e) yfn [.data (cks cs),.agg [.data (pcsD ps)]] (.int .i64 0)∧seqW e fa fb fe K (prs cs ps) (K (some (.tup [.data (wtab fa fb cs ps),.int .i64 0])))
theorem yUJ (c0:Ck) (p0:List PV) (K:Option PV→Prop):wRun e fa fb fe [c0] [p0] K=wAns e fa fb fe [c0] [p0] K:=by kernel_rfl
theorem yUK (c0 c1:Ck) (p0 p1:List PV) (K:Option PV→Prop):wRun e fa fb fe [c0,c1] [p0,p1] K=wAns e fa fb fe [c0,c1] [p0,p1] K:=by kernel_rfl
theorem yUL (c0 c1 c2:Ck) (p0 p1 p2:List PV) (K:Option PV→Prop):wRun e fa fb fe [c0,c1,c2] [p0,p1,p2] K=wAns e fa fb fe [c0,c1,c2] [p0,p1,p2] K:=by kernel_rfl
theorem yUM (c0 c1 c2 c3:Ck) (p0 p1 p2 p3:List PV) (K:Option PV→Prop):wRun e fa fb fe [c0,c1,c2,c3] [p0,p1,p2,p3] K=wAns e fa fb fe [c0,c1,c2,c3] [p0,p1,p2,p3] K:=by kernel_rfl
theorem yUN (c0 c1 c2 c3 c4:Ck) (p0 p1 p2 p3 p4:List PV) (K:Option PV→Prop):wRun e fa fb fe [c0,c1,c2,c3,c4] [p0,p1,p2,p3,p4] K=wAns e fa fb fe [c0,c1,c2,c3,c4] [p0,p1,p2,p3,p4] K:=by kernel_rfl
theorem yUO (c0 c1 c2 c3 c4 c5:Ck) (p0 p1 p2 p3 p4 p5:List PV) (K:Option PV→Prop):wRun e fa fb fe [c0,c1,c2,c3,c4,c5] [p0,p1,p2,p3,p4,p5] K=wAns e fa fb fe [c0,c1,c2,c3,c4,c5] [p0,p1,p2,p3,p4,p5] K:=by kernel_rfl
theorem yTh (he:EG e):SEOk (sW0 e fa fb fe) :=
 yat ⟨fun _ _ h=>⟨_,h.2,h.1⟩,fun as K h=>by
  unfold wpWr at h
  split at h
  ·exact ⟨_,h.2,h.1⟩
  ·exact h.elim,trivial⟩ trivial he.ok
theorem yTW (he:EG e):LpOk (E e) (lpW e fa fb fe) ywC.body:=by
 have hG:=yaG (yTh e fa fb fe he) 1
 have h0:LpOk (E e) (fun _ _ _ _=>False) ylU:=yai (by kernel_rfl)
 have h1:LpOk (E e) (lpW1 e fa fb fe) ysd:=ybg (l:=[(14283600,ylU)]) ⟨fun F H Q h=>yQ4 hG h0 h,trivial⟩ (by kernel_rfl)
 exact ybg (l:=[(14283600,ylU),(14283601,ysd)]) ⟨fun F H Q h=>yQ4 hG h0 h,fun F H Q h=>yQ4 hG h1 h,trivial⟩ (by kernel_rfl)
theorem yPh (he:EG e) {cs:List Ck} {ps:List (List PV)} {K:PV→Prop} (h:wRun e fa fb fe cs ps fun o=>∃ q,o=some q∧K q):∃ q,K q∧Ans (E e) ybp [.data (cks cs),.agg [.data (pcsD ps)]] q:=by
 have hf:(E e).fns ybp=some ywC.fn:=by kernel_rfl
 have hx:∀ as H,(E e).eff ybp as H=none:=he.num _ (by kernel_rfl)
 obtain ⟨r,H',⟨q,hp,hk⟩,m0,hm⟩:=yL9 (S:=⟨E e,fun _=>none,fun _=>none,lpW e fa fb fe⟩) (callK:=ybd (sW0 e fa fb fe) 1) (yaG (yTh e fa fb fe he) 1) (fn:=ywC) (yTW e fa fb fe he) (n:=ybp) hf hx h
 refine ⟨q,hk,m0,fun m hle=>?_⟩
 have hs:(E e).sum ybp [.data (cks cs),.agg [.data (pcsD ps)]]=none:=yab (by kernel_rfl) _
 have hq:(E e).qui ybp=true:=by kernel_rfl
 have hn:(E e).nl ybp=true:=by kernel_rfl
 have hm':ybK (E e) m ybp [.data (cks cs),.agg [.data (pcsD ps)]] []=some (r,H'):=hm m hle
 unfold ybv
 rw [hs,hq,hm',hn]
 exact hp
end
theorem ya1 {α:Type} {l:List α} {n:Nat} (h:l.length=n+1):∃ a r,l=a::r∧r.length=n:=by
 cases l with
 | nil=>cases h
 | cons a r=>exact ⟨a,r,rfl,by simpa using h⟩
theorem yQ5 (e:Es) (fa fb fe:PV→PV→Int) {cs:List Ck} {ps:List (List PV)} (hl:ps.length=cs.length) (h1:1≤cs.length) (h6:cs.length≤6) (K:Option PV→Prop):wRun e fa fb fe cs ps K=wAns e fa fb fe cs ps K:=by
 obtain ⟨n,hn⟩:∃ n,cs.length=n:=⟨_,rfl⟩
 rw [hn] at hl h1 h6
 obtain rfl | rfl | rfl | rfl | rfl | rfl:n=1∨n=2∨n=3∨n=4∨n=5∨n=6:=by omega
 ·obtain ⟨c0,cr0,hc0,hn0⟩:=ya1 hn
  subst hc0
  have hzc:=qAh hn0
  subst hzc
  obtain ⟨p0,pr0,hp0,hl0⟩:=ya1 hl
  subst hp0
  have hzp:=qAh hl0
  subst hzp
  exact yUJ e fa fb fe c0 p0 K
 ·obtain ⟨c0,cr0,hc0,hn0⟩:=ya1 hn
  subst hc0
  obtain ⟨c1,cr1,hc1,hn1⟩:=ya1 hn0
  subst hc1
  have hzc:=qAh hn1
  subst hzc
  obtain ⟨p0,pr0,hp0,hl0⟩:=ya1 hl
  subst hp0
  obtain ⟨p1,pr1,hp1,hl1⟩:=ya1 hl0
  subst hp1
  have hzp:=qAh hl1
  subst hzp
  exact yUK e fa fb fe c0 c1 p0 p1 K
 ·obtain ⟨c0,cr0,hc0,hn0⟩:=ya1 hn
  subst hc0
  obtain ⟨c1,cr1,hc1,hn1⟩:=ya1 hn0
  subst hc1
  obtain ⟨c2,cr2,hc2,hn2⟩:=ya1 hn1
  subst hc2
  have hzc:=qAh hn2
  subst hzc
  obtain ⟨p0,pr0,hp0,hl0⟩:=ya1 hl
  subst hp0
  obtain ⟨p1,pr1,hp1,hl1⟩:=ya1 hl0
  subst hp1
  obtain ⟨p2,pr2,hp2,hl2⟩:=ya1 hl1
  subst hp2
  have hzp:=qAh hl2
  subst hzp
  exact yUL e fa fb fe c0 c1 c2 p0 p1 p2 K
 ·obtain ⟨c0,cr0,hc0,hn0⟩:=ya1 hn
  subst hc0
  obtain ⟨c1,cr1,hc1,hn1⟩:=ya1 hn0
  subst hc1
  obtain ⟨c2,cr2,hc2,hn2⟩:=ya1 hn1
  subst hc2
  obtain ⟨c3,cr3,hc3,hn3⟩:=ya1 hn2
  subst hc3
  have hzc:=qAh hn3
  subst hzc
  obtain ⟨p0,pr0,hp0,hl0⟩:=ya1 hl
  subst hp0
  obtain ⟨p1,pr1,hp1,hl1⟩:=ya1 hl0
  subst hp1
  obtain ⟨p2,pr2,hp2,hl2⟩:=ya1 hl1
  subst hp2
  obtain ⟨p3,pr3,hp3,hl3⟩:=ya1 hl2
  subst hp3
  have hzp:=qAh hl3
  subst hzp
  exact yUM e fa fb fe c0 c1 c2 c3 p0 p1 p2 p3 K
 ·obtain ⟨c0,cr0,hc0,hn0⟩:=ya1 hn
  subst hc0
  obtain ⟨c1,cr1,hc1,hn1⟩:=ya1 hn0
  subst hc1
  obtain ⟨c2,cr2,hc2,hn2⟩:=ya1 hn1
  subst hc2
  obtain ⟨c3,cr3,hc3,hn3⟩:=ya1 hn2
  subst hc3
  obtain ⟨c4,cr4,hc4,hn4⟩:=ya1 hn3
  subst hc4
  have hzc:=qAh hn4
  subst hzc
  obtain ⟨p0,pr0,hp0,hl0⟩:=ya1 hl
  subst hp0
  obtain ⟨p1,pr1,hp1,hl1⟩:=ya1 hl0
  subst hp1
  obtain ⟨p2,pr2,hp2,hl2⟩:=ya1 hl1
  subst hp2
  obtain ⟨p3,pr3,hp3,hl3⟩:=ya1 hl2
  subst hp3
  obtain ⟨p4,pr4,hp4,hl4⟩:=ya1 hl3
  subst hp4
  have hzp:=qAh hl4
  subst hzp
  exact yUN e fa fb fe c0 c1 c2 c3 c4 p0 p1 p2 p3 p4 K
 ·obtain ⟨c0,cr0,hc0,hn0⟩:=ya1 hn
  subst hc0
  obtain ⟨c1,cr1,hc1,hn1⟩:=ya1 hn0
  subst hc1
  obtain ⟨c2,cr2,hc2,hn2⟩:=ya1 hn1
  subst hc2
  obtain ⟨c3,cr3,hc3,hn3⟩:=ya1 hn2
  subst hc3
  obtain ⟨c4,cr4,hc4,hn4⟩:=ya1 hn3
  subst hc4
  obtain ⟨c5,cr5,hc5,hn5⟩:=ya1 hn4
  subst hc5
  have hzc:=qAh hn5
  subst hzc
  obtain ⟨p0,pr0,hp0,hl0⟩:=ya1 hl
  subst hp0
  obtain ⟨p1,pr1,hp1,hl1⟩:=ya1 hl0
  subst hp1
  obtain ⟨p2,pr2,hp2,hl2⟩:=ya1 hl1
  subst hp2
  obtain ⟨p3,pr3,hp3,hl3⟩:=ya1 hl2
  subst hp3
  obtain ⟨p4,pr4,hp4,hl4⟩:=ya1 hl3
  subst hp4
  obtain ⟨p5,pr5,hp5,hl5⟩:=ya1 hl4
  subst hp5
  have hzp:=qAh hl5
  subst hzp
  exact yUO e fa fb fe c0 c1 c2 c3 c4 c5 p0 p1 p2 p3 p4 p5 K
def wPV (t:Int×Int×Int):PV:=.tup [.agg [.int .i64 t.1,.int .i64 t.2.1],.int .i64 t.2.2]
open Classical in
noncomputable def wOf (e:Es) (c p:PV):Int×Int×Int:=if h:∃ t,Ans (E e) ycU [c,p] (wPV t) then Classical.choose h else (0,0,0)
theorem yJb {e:Es} {c p:PV} {t:Int×Int×Int} (h:Ans (E e) ycU [c,p] (wPV t)):wOf e c p=t:=by
 have hx:∃ t,Ans (E e) ycU [c,p] (wPV t):=⟨t,h⟩
 unfold wOf
 rw [dif_pos hx]
 have h2:=Ans.unique (Classical.choose_spec hx) h
 generalize Classical.choose hx=u at h2
 obtain ⟨a,b,c⟩:=u
 obtain ⟨a',b',c'⟩:=t
 unfold wPV at h2
 cases h2
 rfl
theorem yUP {e:Es} {c p:PV} {t:Int×Int×Int} (h:Ans (E e) ycU [c,p] (wPV t)):WG e (fun c p=>(wOf e c p).1) (fun c p=>(wOf e c p).2.1) (fun c p=>(wOf e c p).2.2) c p:=by
 unfold WG
 have:=yJb h
 dsimp only
 rw [this]
 exact h
theorem yOa {e:Es} {fa fb fe:PV→PV→Int} {K:Option PV→Prop} {fin:Prop}:∀ {l:List (PV×PV)},(∀ q∈l,WG e fa fb fe q.1 q.2)→((∀ q∈l,fe q.1 q.2=0)→fin)→(∀ q∈l,fe q.1 q.2≠0→K (some (.tup [.data [],.int .i64 (fe q.1 q.2)])))→seqW e fa fb fe K l fin
 | [],_,h,_=>h fun q hq=>by cases hq
 | q::r,hg,h,hk=>by
  refine ⟨hg q qAj,?_⟩
  by_cases h0:fe q.1 q.2=0
  ·rw [h0]
   refine yOa (fun x hx=>hg x (qAm _ hx)) (fun hr=>h fun x hx=>?_) fun x hx=>hk x (qAm _ hx)
   rcases qAv.1 hx with rfl | hx
   ·exact h0
   ·exact hr x hx
  ·have e1:(fe q.1 q.2 != 0)=true:=by simpa using h0
   rw [e1]
   exact hk q qAj h0
theorem yTX {e:Es} (he:EG e) {c:Ck} {p:List PV} {t:Int×Int×Int} (h:∀ K:Int→Int→Int→Prop,ydo c.len (ints c.cuts) (ints c.dens) p K=K t.1 t.2.1 t.2.2):Ans (E e) ycU [encC c,.data p] (wPV t):=by
 have hw:yk7 [encC c,.data p] (fun q=>q=wPV t):=by
  unfold yk7 ypH encC
  dsimp only
  rw [h]
  rfl
 obtain ⟨q,hq,ha⟩:=yup e he [encC c,.data p] (fun q=>q=wPV t) hw
 rw [hq] at ha
 exact ha
theorem yQ6 {cs:List Ck} {ps:List (List PV)} (hl:ps.length=cs.length) (h1:1≤cs.length) (h6:cs.length≤6) (hc:∀ K,ygp (cks cs) (pcsD ps) K=K 0) {F:Ck→List PV→Int×Int×Int}
  (hW:∀ c∈cs,∀ p∈ps,∀ K,ydo c.len (ints c.cuts) (ints c.dens) p K=K (F c p).1 (F c p).2.1 (F c p).2.2) {r0:List PV} {r1:Int}
  (h0:(∀ c∈cs,∀ p∈ps,(F c p).2.2=0)→r0=cs.map (fun c=>.data (ps.map fun p=>.agg [.int .i64 (F c p).1,.int .i64 (F c p).2.1]))∧r1=0)
  (hx:∀ c∈cs,∀ p∈ps,(F c p).2.2≠0→r0=[]∧r1=(F c p).2.2) (K:List PV→Int→Prop):yax (cks cs) (pcsD ps) K=K r0 r1:=by
 refine yCV _ _ _ _ (fun K k=>?_) K
 refine ⟨r0,r1,k,fun e he=>?_⟩
 have hA:∀ c∈cs,∀ p∈ps,Ans (E e) ycU [encC c,.data p] (wPV (F c p)):=fun c hc p hp=>yTX he (hW c hc p hp)
 have hq:∀ q∈prs cs ps,∃ c∈cs,∃ p∈ps,q=(encC c,PV.data p):=fun q hq=>by
  unfold prs at hq
  obtain ⟨c,hc,hq⟩:=List.mem_flatMap.1 hq
  obtain ⟨p,hp,rfl⟩:=qB1.1 hq
  exact ⟨c,hc,p,hp,rfl⟩
 have hck:Ans (E e) yfn [.data (cks cs),.agg [.data (pcsD ps)]] (.int .i64 0):=by
  have hw:yli [.data (cks cs),.agg [.data (pcsD ps)]] (fun q=>q=.int .i64 0):=by
   unfold yli yp0
   dsimp only
   rw [hc]
  obtain ⟨q,hq,ha⟩:=yu1 e he [.data (cks cs),.agg [.data (pcsD ps)]] (fun q=>q=.int .i64 0) hw
  rw [hq] at ha
  exact ha
 have hrun:wRun e (fun c p=>(wOf e c p).1) (fun c p=>(wOf e c p).2.1) (fun c p=>(wOf e c p).2.2) cs ps fun o=>∃ q,o=some q∧q=.tup [.data r0,.int .i64 r1]:=by
  rw [yQ5 _ _ _ _ hl h1 h6]
  refine ⟨hck,yOa (fun q hq'=>?_) (fun hz=>?_) fun q hq' hn=>?_⟩
  ·obtain ⟨c,hc,p,hp,rfl⟩:=hq q hq'
   exact yUP (hA c hc p hp)
  ·have hz':∀ c∈cs,∀ p∈ps,(F c p).2.2=0:=fun c hc p hp=>by
    have:=hz (encC c,.data p) (List.mem_flatMap.2 ⟨c,hc,qB1.2 ⟨p,hp,rfl⟩⟩)
    dsimp only at this
    rw [yJb (hA c hc p hp)] at this
    exact this
   obtain ⟨e1,e2⟩:=h0 hz'
   refine ⟨_,rfl,?_⟩
   rw [e1,e2]
   unfold wtab
   congr 3
   refine qB9 fun c hc=>?_
   congr 1
   refine qB9 fun p hp=>?_
   dsimp only
   rw [yJb (hA c hc p hp)]
  ·obtain ⟨c,hc,p,hp,rfl⟩:=hq q hq'
   dsimp only at hn ⊢
   rw [yJb (hA c hc p hp)] at hn ⊢
   obtain ⟨e1,e2⟩:=hx c hc p hp hn
   exact ⟨_,rfl,by rw [e1,e2]⟩
 obtain ⟨q,hq',ha⟩:=yPh e _ _ _ he hrun
 rw [hq'] at ha
 exact ha
end Go.Pf.Vc
namespace Go.Pf.Vc
def yvh (a b:List RS):Bool:=a.any fun s=>b.any fun t=>decide (s.1<t.2)&&decide (t.1<s.2)
theorem yM4 {a b:List RS} (ha:∀ s∈a,s.1<s.2) (hb:∀ s∈b,s.1<s.2):yvh a b=true↔∃ p,memP a p∧memP b p:=by
 unfold yvh
 simp only [List.any_eq_true,qAc,decide_eq_true_eq]
 constructor
 ·rintro ⟨s,hs,t,ht,h1,h2⟩
  have k1:=ha s hs
  have k2:=hb t ht
  by_cases h:s.1<t.1
  ·exact ⟨t.1,⟨s,hs,by grind,h2⟩,⟨t,ht,qBg,k2⟩⟩
  ·exact ⟨s.1,⟨s,hs,qBg,k1⟩,⟨t,ht,by grind,h1⟩⟩
 ·rintro ⟨p,⟨s,hs,h1,h2⟩,⟨t,ht,h3,h4⟩⟩
  exact ⟨s,hs,t,ht,by grind,by grind⟩
def gapS (len:Rat):List RS→Rat→Bool
 | [],at_=>decide (at_<len)
 | s::r,at_=>if at_<s.1 then true else gapS len r (if at_<s.2 then s.2 else at_)
theorem yK2 {len:Rat}:∀ (l:List RS) (at_:Rat),yFe l→(∀ s∈l,s.1<s.2)→(∀ s∈l,s.2≤len)→(gapS len l at_=true↔∃ p,at_≤p∧p<len∧¬memP l p)
 | [],at_,_,_,_=>by
  unfold gapS
  rw [decide_eq_true_eq]
  exact ⟨fun h=>⟨at_,qBg,h,yQR⟩,fun ⟨p,h1,h2,_⟩=>by grind⟩
 | s::r,at_,hs,hv,hl=>by
  unfold gapS
  have s1:=hv s qAj
  have s2:=hl s qAj
  by_cases h:at_<s.1
  ·rw [if_pos h]
   refine ⟨fun _=>⟨at_,qBg,by grind,fun hm=>?_⟩,fun _=>rfl⟩
   rcases yvH.1 hm with hm | ⟨t,ht,hm,_⟩
   ·have:=hm.1;grind
   ·have:=hs.1 t ht;grind
  ·rw [if_neg h,yK2 r _ hs.2 (fun t ht=>hv t (qAm _ ht)) (fun t ht=>hl t (qAm _ ht))]
   constructor
   ·rintro ⟨p,h1,h2,h3⟩
    have h1':at_≤p∧s.2≤p:=by split at h1 <;> exact ⟨by grind,by grind⟩
    refine ⟨p,h1'.1,h2,fun hm=>?_⟩
    rcases yvH.1 hm with hm | hm
    ·have:=hm.2;grind
    ·exact h3 hm
   ·rintro ⟨p,h1,h2,h3⟩
    refine ⟨p,?_,h2,fun hm=>h3 (yvH.2 (.inr hm))⟩
    have hn:¬inS s p:=fun hm=>h3 (yvH.2 (.inl hm))
    have:s.2≤p:=Rat.not_lt.1 fun hlt=>hn ⟨by grind,hlt⟩
    split <;> assumption
end Go.Pf.Vc
namespace Go.Pf.Vc
open Go Go.Pf
theorem ynn {q r:Rat} (hq:small q) (hr:small r) (K:Bool→Prop):yaf q.num q.den r.num r.den K=K (decide (q<r)):=by
 unfold yaf yrd
 rw [yAb hq hr,yKZ]
theorem yoM (n:Int) (K:Int→Int→Prop):yam n K=K (n:Rat).num (n:Rat).den:=rfl
def meets (s t:RS):Bool:=decide (s.1<t.2)&&decide (t.1<s.2)
theorem yK3 {s:RS} (h:yht s) {B:List RS} (hs:∀ t∈B,yht t) (hl:B.length<4611686018427387904) {x0:Int→Int→Int→Int→List PV→Int→Int→Bool→Prop} {x1:Int→Int→Int→Int→Int→Prop} {K:Bool→Prop}
  (hx0:∀ a b c d l i k q,x0 a b c d l i k q=K false) (hx1:∀ a b c d i,0≤i→x1 a b c d i=K true) :
  ∀ (r i n:Nat),i+r=B.length→r<n→ycF yaf x0 x1 n s.1.num s.1.den s.2.num s.2.den (rsp B) (B.length:Int) (i:Int)=K ((B.drop i).any (meets s)):=by
 intro r
 induction r with
 | zero =>
  intro i n hi hn
  obtain ⟨n,rfl⟩:∃ m,n=m+1:=⟨n-1,by omega⟩
  obtain rfl:i=B.length:=by omega
  rw [ycF,cbF (by omega),List.drop_length,hx0]
  rfl
 | succ r ih =>
  intro i n hi hn
  obtain ⟨n,rfl⟩:∃ m,n=m+1:=⟨n-1,by omega⟩
  have hil:i<B.length:=by omega
  have e1:=wib (n:=(i:Int)+1) (by omega) (by omega)
  have hd:B.drop i=B.getD i default::B.drop (i+1):=yc7 default hil
  have hx:=yym hs hil
  rw [ycF,cbT (by omega)]
  dsimp only [lt,Go.Pf.jn]
  rw [yd0,asT (by omega),asT (by omega),qAe,yvg hil,asR,yHB,yN4,yHC,yHD,ynn h.1 hx.2,e1,yda,hd,List.any_cons]
  unfold meets
  cases decide (s.1<(B.getD i default).2) with
  | false =>
   rw [yac,yac,qBn,Bool.false_or]
   exact ih (i+1) n (by omega) (by omega)
  | true =>
   rw [yal,qBi,ynn hx.1 h.2]
   cases decide ((B.getD i default).1<s.2) with
   | false =>
    rw [yac,Bool.false_or]
    exact ih (i+1) n (by omega) (by omega)
   | true =>
    rw [yal,hx1 _ _ _ _ _ (by omega)]
    rfl
theorem yPi {s:RS} (h:yht s) {B:List RS} (hs:∀ t∈B,yht t) (hl:B.length<4611686018427387904) (K:Bool→Prop):ycf s.1.num s.1.den s.2.num s.2.den (rsp B) K=K (B.any (meets s)):=by
 refine yz1 _ _ _ _ _ _ (fun K k=>?_) K
 unfold ycf ymt
 dsimp only [Go.Pf.jn]
 refine ⟨B.length+1,?_⟩
 rw [yd0]
 exact (yK3 h hs hl (K:=K) (fun _ _ _ _ _ _ _ _=>rfl) (fun _ _ _ _ i hi=>by rw [decide_eq_true hi]) B.length 0 (B.length+1) (by omega) (by omega)).mpr (by rw [qA0];exact k)
theorem yM5 {A B:List RS} (ha:∀ s∈A,yht s) (hb:∀ t∈B,yht t) (hla:A.length<4611686018427387904) (hlb:B.length<4611686018427387904) {x0:List PV→List PV→Int→Int→Bool→Prop} {x1:List PV→Int→Prop} {K:Bool→Prop}
  (hx0:∀ l m i k q,x0 l m i k q=K false) (hx1:∀ l i,0≤i→x1 l i=K true) :
  ∀ (r i n:Nat),i+r=A.length→r<n→ydi ycf x0 x1 n (rsp B) (rsp A) (A.length:Int) (i:Int)=K (yvh (A.drop i) B):=by
 intro r
 induction r with
 | zero =>
  intro i n hi hn
  obtain ⟨n,rfl⟩:∃ m,n=m+1:=⟨n-1,by omega⟩
  obtain rfl:i=A.length:=by omega
  rw [ydi,cbF (by omega),List.drop_length,hx0]
  rfl
 | succ r ih =>
  intro i n hi hn
  obtain ⟨n,rfl⟩:∃ m,n=m+1:=⟨n-1,by omega⟩
  have hil:i<A.length:=by omega
  have e1:=wib (n:=(i:Int)+1) (by omega) (by omega)
  have hd:A.drop i=A.getD i default::A.drop (i+1):=yc7 default hil
  have hx:=yym ha hil
  rw [ydi,cbT (by omega)]
  dsimp only [lt,Go.Pf.jn]
  rw [yd0,asT (by omega),asT (by omega),qAe,yvg hil,asR,yHB,yN4,yHC,yHD,yPi hx hb hlb,e1,yda,hd]
  have e:yvh (A.getD i default::A.drop (i+1)) B=(B.any (meets (A.getD i default))||yvh (A.drop (i+1)) B):=rfl
  rw [e]
  cases B.any (meets (A.getD i default)) with
  | false =>
   rw [yac,Bool.false_or]
   exact ih (i+1) n (by omega) (by omega)
  | true =>
   rw [yal,hx1 _ _ (by omega)]
   rfl
theorem yQ7 {A B:List RS} (ha:∀ s∈A,yht s) (hb:∀ t∈B,yht t) (hla:A.length<4611686018427387904) (hlb:B.length<4611686018427387904) (K:Bool→Prop):yak (rsp A) (rsp B) K=K (yvh A B):=by
 refine yCW _ _ _ (fun K k=>?_) K
 unfold yak yp1
 dsimp only [Go.Pf.jn]
 refine ⟨A.length+1,?_⟩
 rw [yd0]
 exact (yM5 ha hb hla hlb (K:=K) (fun _ _ _ _ _=>rfl) (fun _ i hi=>by rw [decide_eq_true hi]) A.length 0 (A.length+1) (by omega) (by omega)).mpr (by rw [qA0];exact k)
end Go.Pf.Vc
namespace Go.Pf.Vc
open Go Go.Pf
section
variable {cs:List Ck} {ps:List (List Sp)}
theorem yc8 {α:Type} {l:List α} {i:Nat} (d:α) (h:i<l.length):l.getD i d∈l:=by
 rw [qAa,qAb h]
 exact qBr h
end
end Go.Pf.Vc
namespace Go.Pf.Vc
open Go Go.Pf
structure DV (cs:List Ck) (A:List (List RS)):Prop where
 d:DK cs
 l:A.length=cs.length
 p:∀ a∈A,Pc a
 m:∀ a∈A,a.length≤20
 w:∀ a∈A,yQZ (cs.getD 0 default).len a=true
theorem datD (l:List PV):yaA (PV.data l)=l:=rfl
def rspL (A:List (List RS)):List PV:=A.map fun a=>.data (rsp a)
theorem ygh (A:List (List RS)):(rspL A).length=A.length:=qAo ..
theorem yoE {A:List (List RS)} {i:Nat} (h:i<A.length):List.getD (rspL A) i .nils=.data (rsp (A.getD i [])):=by
 unfold rspL
 rw [qAa,qAa,qAy,qAb h]
 rfl
section
variable {cs:List Ck} {ps:List (List Sp)} {A:List (List RS)}
theorem DV.len0 (h:DV cs A):1≤(cs.getD 0 default).len∧(cs.getD 0 default).len≤1000:=(h.d.ok 0 (by have:=h.d.n0;omega)).len0
theorem DV.wi (h:DV cs A):∀ a∈A,Wi (cs.getD 0 default).len a:=fun a ha=>yQ0 (h.w a ha)
theorem yFh (h:DV cs A) {WA WW WL} {x0:List PV→List PV→List PV→Int→Int→Bool→Prop} {x1:Int→Prop} :
  ∀ (r i n:Nat),i+r=A.length→r<n→ydh WA yaI WW WL x0 x1 n (cks cs) (rspL A) (rspL A) (A.length:Int) (i:Int)=x0 (cks cs) (rspL A) (rspL A) (A.length:Int) (A.length:Int) false
 | 0,i,n+1,hi,hn=>by
  rw [ydh,cbF (by omega),show (i:Int)=A.length by omega]
 | r+1,i,n+1,hi,hn=>by
  have h6:=h.d.n6;have hl:=h.l
  have e1:=wib (n:=(i:Int)+1) (by omega) (by omega)
  have hm:=yc8 [] (show i<A.length by omega)
  rw [ydh]
  dsimp only [lt,Go.Pf.jn]
  rw [cbT (by omega),ygh,asT (by omega),asT (by omega),qAe,yoE (by omega),asD]
  show yaI (rsp (A.getD i [])) _=_
  rw [(h.p _ hm).check,e1,yda]
  show cbr false _ _=_
  rw [yac]
  exact yFh h r (i+1) n (by omega) (by omega)
theorem yFi (h:DV cs A) {WA WC} {x0:List PV→List PV→Int→Int→Bool→Prop} {x1:Int→Prop} :
  ∀ (r i n:Nat),i+r=A.length→r<n→ycJ WA WC yam yaf x0 x1 n (cks cs) (rspL A) (A.length:Int) (i:Int)=x0 (cks cs) (rspL A) (A.length:Int) (A.length:Int) false
 | 0,i,n+1,hi,hn=>by
  rw [ycJ,cbF (by omega),show (i:Int)=A.length by omega]
 | r+1,i,n+1,hi,hn=>by
  have h6:=h.d.n6;have hl:=h.l;have h1:=h.d.n0;have l0:=h.len0
  have e1:=wib (n:=(i:Int)+1) (by omega) (by omega)
  have hm:=yc8 [] (show i<A.length by omega)
  have p:=h.p _ hm
  have hw:=h.wi _ hm
  have pn:=p.n
  have ih:=yFi h (WA:=WA) (WC:=WC) (x0:=x0) (x1:=x1) r (i+1) n (by omega) (by omega)
  rw [ycJ]
  dsimp only [lt,Go.Pf.jn]
  rw [cbT (by omega),ygh,asT (by omega),asT (by omega),qAe,yoE (by omega),asD,datD]
  generalize A.getD i []=a at p hw pn
  rw [yd0,e1,yda]
  by_cases ha:a.length=0
  ·rw [cbF (by omega),yac]
   exact ih
  ·have h0:0<a.length:=by omega
   have m0:=yc8 (default:RS) h0
   have m1:=yc8 (default:RS) (show a.length-1<a.length by omega)
   have w0:=hw _ m0
   have w1:=hw _ m1
   have s1:=p.s _ m1
   have n0:0≤(a.getD 0 default).1.num:=Rat.num_nonneg.2 w0.1
   have e2:=wib (n:=(a.length:Int)-1) (by omega) (by omega)
   have et:((a.length:Int)-1).toNat=a.length-1:=by omega
   have sl:small ((cs.getD 0 default).len:Rat):=ymD (by omega)
   rw [cbT (by omega),asT (by omega),yvg h0,asR,yHB,cbF (by omega),ya9,asT (by omega),yfR (by omega),asCk,ck0,yoM,e2,asT (by omega),asT (by omega),et,yvg (by omega),asR,yHC,yHD,ynn sl s1.2,cbF (by grind)]
   exact ih
theorem ySD (h:DV cs A) (K:Int→Prop):ygp (cks cs) (rspL A) K=K 0:=by
 have h6:=h.d.n6;have hl:=h.l
 refine yCU _ _ _ (fun K k=>?_) K
 unfold ygp ypZ
 rw [yvG h.d.fin (by omega)]
 show cbr (yjj cs 0 != 0) _ _
 rw [cnF (h.d.err (by omega)),ygh,ya9,cnF (by omega)]
 refine ⟨A.length+1,(yFh h A.length 0 (A.length+1) (by omega) (by omega)).mpr ?_⟩
 show ∃ n,ycJ _ _ _ _ _ _ n (cks cs) (rspL A) (((rspL A).length:Nat):Int) 0
 rw [ygh]
 exact ⟨A.length+1,(yFi h A.length 0 (A.length+1) (by omega) (by omega)).mpr k⟩
end
end Go.Pf.Vc
namespace Go.Pf.Vc
open Go Go.Pf
def wV (c:Ck) (a:List RS):Rat:=sumV (dV (vX c.cuts c.dens)) a
def tabW (cs:List Ck) (A:List (List RS)):List PV:=cs.map fun c=>.data (rts (A.map (wV c)))
open Classical in
noncomputable def fW (c:Ck) (p:List PV):Int×Int×Int:=if h:∃ t:Int×Int×Int,∀ K:Int→Int→Int→Prop,ydo c.len (ints c.cuts) (ints c.dens) p K=K t.1 t.2.1 t.2.2 then Classical.choose h else (0,0,0)
theorem yUQ {c:Ck} {p:List PV} {t:Int×Int×Int} (h:∀ K:Int→Int→Int→Prop,ydo c.len (ints c.cuts) (ints c.dens) p K=K t.1 t.2.1 t.2.2):fW c p=t:=by
 have hx:∃ t:Int×Int×Int,∀ K:Int→Int→Int→Prop,ydo c.len (ints c.cuts) (ints c.dens) p K=K t.1 t.2.1 t.2.2:=⟨t,h⟩
 unfold fW
 rw [dif_pos hx]
 have h2:=Classical.choose_spec hx (fun a b c=>(a,b,c)=t)
 rw [h] at h2
 exact h2.mp rfl
theorem yvi {α:Type} {l:List α} {x:α} (d:α) (h:x∈l):∃ i,i<l.length∧l.getD i d=x:=by
 obtain ⟨i,hi,e⟩:=List.getElem_of_mem h
 exact ⟨i,hi,by rw [qAa,qAb hi];exact e⟩
section
variable {cs:List Ck} {A:List (List RS)}
theorem DK.mem (h:DK cs) {c:Ck} (hc:c∈cs):c.ok∧c.len=(cs.getD 0 default).len:=by
 obtain ⟨i,hi,rfl⟩:=yvi default hc
 exact ⟨h.ok i hi,h.len i hi⟩
end
end Go.Pf.Vc
namespace Go.Pf.Vc
open Go Go.Pf
def tot (A:List (List RS)):Nat:=(A.map List.length).sum
theorem yAn (a:List RS) (A:List (List RS)):tot (a::A)=a.length+tot A:=by unfold tot;rw [qBy,List.sum_cons]
theorem yK4:∀ A:List (List RS),A.flatten.length=tot A
 | []=>rfl
 | a::r=>by rw [List.flatten_cons,qAn,yK4 r,yAn]
theorem yQ8 {m:Nat}:∀ {A:List (List RS)},(∀ a∈A,a.length≤m)→tot A≤A.length*m
 | [],_=>by simp [tot]
 | a::r,h=>by
  have h1:=h a qAj
  have h2:=yQ8 (m:=m) fun x hx=>h x (qAm a hx)
  rw [yAn,qAs,Nat.succ_mul]
  omega
section
variable {cs:List Ck} {A:List (List RS)}
theorem yHF (hl:A.length≤6) (hm:∀ a∈A,a.length≤20) {WW WL} {x0:List PV→Int→List PV→Int→Int→Bool→Prop} {l0:List PV} :
  ∀ (r i n s:Nat),i+r=A.length→r<n→s≤20*i→ybY WW WL x0 n l0 (s:Int) (rspL A) (A.length:Int) (i:Int)=x0 l0 ((s+tot (A.drop i):Nat):Int) (rspL A) (A.length:Int) (A.length:Int) false
 | 0,i,n+1,s,hi,hn,hs=>by
  rw [ybY,cbF (by omega),qAz (by omega),show (i:Int)=A.length by omega]
  rfl
 | r+1,i,n+1,s,hi,hn,hs=>by
  have e1:=wib (n:=(i:Int)+1) (by omega) (by omega)
  have hx:=yc8 [] (show i<A.length by omega)
  have hx2:=hm _ hx
  have hd:A.drop i=A.getD i []::A.drop (i+1):=yc7 [] (by omega)
  have ih:=yHF hl hm (WW:=WW) (WL:=WL) (x0:=x0) (l0:=l0) r (i+1) n (s+(A.getD i []).length) (by omega) (by omega) (by omega)
  rw [ybY]
  dsimp only [lt,Go.Pf.jn]
  rw [cbT (by omega),ygh,asT (by omega),asT (by omega),qAe,yoE (by omega),asD,datD,yd0,hd,yAn,e1,yda]
  generalize (A.getD i []).length=k at hx2 ih
  have e2:=wib (n:=(s:Int)+(k:Int)) (by omega) (by omega)
  rw [e2,cbF (by omega),← Int.natCast_add,ih]
  congr 2
  omega
def zSp:PV:=.agg [.int .i64 0,.int .i64 0,.int .i64 0,.int .i64 0]
theorem yHG (hl:A.length≤6) {WW WL} {x1:List PV→Nat→List PV→Int→Int→Bool→Prop} :
  ∀ (r i n:Nat) (done:List RS),i+r=A.length→r<n→ybb WW WL x1 n (rsp done++List.replicate (tot (A.drop i)) zSp) done.length (rspL A) (A.length:Int) (i:Int)=x1 (rsp (done++(A.drop i).flatten)) (done++(A.drop i).flatten).length (rspL A) (A.length:Int) (A.length:Int) false
 | 0,i,n+1,done,hi,hn=>by
  rw [ybb,cbF (by omega),qAz (by omega),show (i:Int)=A.length by omega]
  show x1 (rsp done++[]) _ _ _ _ _=x1 (rsp (done++[])) (done++[]).length _ _ _ _
  rw [qBx,qBx]
 | r+1,i,n+1,done,hi,hn=>by
  have e1:=wib (n:=(i:Int)+1) (by omega) (by omega)
  have hd:A.drop i=A.getD i []::A.drop (i+1):=yc7 [] (by omega)
  have ih:=yHG hl (WW:=WW) (WL:=WL) (x1:=x1) r (i+1) n (done++A.getD i []) (by omega) (by omega)
  rw [ybb]
  dsimp only [lt,Go.Pf.jn]
  rw [cbT (by omega),ygh,asT (by omega),asT (by omega),qAe,yoE (by omega),asD,datD,yK1,yaD,hd,yAn,List.flatten_cons,e1,yda,yd0]
  generalize A.getD i []=a at ih
  have hlen:(rsp done++List.replicate (a.length+tot (A.drop (i+1))) zSp).length=done.length+(a.length+tot (A.drop (i+1))):=by
   rw [qAn,yd0,qAt]
  rw [asT rfl,asT (by rw [hlen];omega)]
  rw [show done++(a++(A.drop (i+1)).flatten)=(done++a)++(A.drop (i+1)).flatten from (qBd ..).symm]
  cases ha:a with
  | nil =>
   rw [ha,qBx] at ih
   show cbr true _ _=_
   rw [yal,asT rfl,qBx,List.length_nil,qA4]
   exact ih
  | cons b t =>
   rw [← ha]
   have hemp:List.isEmpty (rsp a)=false:=by rw [ha];rfl
   have hnew:List.take (0+done.length) (rsp done++List.replicate (a.length+tot (A.drop (i+1))) zSp)++(rsp a++List.drop (0+done.length+a.length) (rsp done++List.replicate (a.length+tot (A.drop (i+1))) zSp))=rsp (done++a)++List.replicate (tot (A.drop (i+1))) zSp:=by
    rw [qA4,← ySw,qBz (by rw [yd0];omega),qAw (by rw [yd0];omega),List.drop_append,qAz (by rw [yd0];omega),qB3,yd0,show done.length+a.length-done.length=a.length by omega,List.drop_replicate,show a.length+tot (A.drop (i+1))-a.length=tot (A.drop (i+1)) by omega,qBd]
   have hlen2:(rsp (done++a)++List.replicate (tot (A.drop (i+1))) zSp).length=done.length+(a.length+tot (A.drop (i+1))):=by
    rw [qAn,yd0,qAn,qAt];omega
   rw [hemp,yac,asT (by rw [hlen];omega),hnew,asT (by rw [hlen,hlen2])]
   rw [qAn] at ih
   exact ih
theorem yHH {len:Int} {l:List RS} (hs:∀ s∈l,yht s) (hl:l.length<1000) {l1 l2 l3 l4:List PV} {x0:List PV→List PV→List PV→List PV→List PV→Int→Int→Nat→Int→Int→Bool→Prop} {x1:List PV→Bool→Prop} {K:Bool→Prop}
  (h0:∀ q:Rat,small q→x0 (rsp l) l1 l2 l3 l4 q.num q.den l.length (l.length:Int) (l.length:Int) false=K (decide (q<(len:Rat)))) (h1:x1 (rsp l) true=K true) :
  ∀ (r i n:Nat) (q:Rat),i+r=l.length→r<n→small q→yca yam yaf x0 x1 n (rsp l) l1 l2 l3 l4 q.num q.den l.length (l.length:Int) (i:Int)=K (gapS (len:Rat) (l.drop i) q)
 | 0,i,n+1,q,hi,hn,hq=>by
  rw [yca,cbF (by omega),qAz (by omega),show (i:Int)=l.length by omega,h0 q hq]
  rfl
 | r+1,i,n+1,q,hi,hn,hq=>by
  have e1:=wib (n:=(i:Int)+1) (by omega) (by omega)
  have hd:l.drop i=l.getD i default::l.drop (i+1):=yc7 default (by omega)
  have hx:=yym hs (show i<l.length by omega)
  have ih:=fun q hq=>yHH hs hl h0 h1 r (i+1) n q (by omega) (by omega) hq
  rw [yca]
  dsimp only [lt,Go.Pf.jn]
  rw [cbT (by omega),asT (by omega),asT (by omega),yd0,asT rfl,qAe,qA4,asT (by omega),yvg (by omega),asR,yHB,yN4,yHC,yHD,ynn hq hx.1,hd,e1,yda]
  generalize l.getD i default=t at hx
  unfold gapS
  by_cases hlt:q<t.1
  ·rw [decide_eq_true hlt,yal,if_pos hlt]
   exact h1
  ·rw [decide_eq_false hlt,yac,if_neg hlt,ynn hq hx.2]
   by_cases hlt2:q<t.2
   ·rw [decide_eq_true hlt2,yal,asT rfl,if_pos hlt2]
    exact ih t.2 hx.2
   ·rw [decide_eq_false hlt2,yac,asT rfl,if_neg hlt2]
    exact ih q hq
end
end Go.Pf.Vc
namespace Go.Pf.Vc
open Go Go.Pf
section
variable {cs:List Ck} {A:List (List RS)}
theorem yFj (hl:A.length≤6) (hz:∀ a∈A,a=[]) {WW WL} {x0:List PV→Int→Int→Bool→Prop} {x1:List PV→Nat→List PV→Int→Int→Bool→Prop} :
  ∀ (r i n:Nat),i+r=A.length→r<n→ybZ WW WL x0 x1 n (rspL A) (A.length:Int) (i:Int)=x0 (rspL A) (A.length:Int) (A.length:Int) false
 | 0,i,n+1,hi,hn=>by
  rw [ybZ,cbF (by omega),show (i:Int)=A.length by omega]
 | r+1,i,n+1,hi,hn=>by
  have e1:=wib (n:=(i:Int)+1) (by omega) (by omega)
  have hx:=hz _ (yc8 [] (show i<A.length by omega))
  rw [ybZ]
  dsimp only [lt,Go.Pf.jn]
  rw [cbT (by omega),ygh,asT (by omega),asT (by omega),qAe,yoE (by omega),asD,datD,hx,yK1,yaD,e1,yda]
  show cbr true _ _=_
  rw [yal]
  exact yFj hl hz r (i+1) n (by omega) (by omega)
theorem yQ9 (hl:A.length≤6) {WW WL} (x1:List PV→Nat→List PV→Int→Int→Bool→Prop):ybb WW WL x1 (A.length+1) (List.replicate (tot A) zSp) 0 (rspL A) (A.length:Int) 0=x1 (rsp A.flatten) A.flatten.length (rspL A) (A.length:Int) (A.length:Int) false:=by
 have hg:=yHG (A:=A) hl (WW:=WW) (WL:=WL) (x1:=x1) A.length 0 (A.length+1) [] (by omega) (by omega)
 rw [qA0,qB3] at hg
 exact hg
theorem DV.tot120 (h:DV cs A):tot A≤120:=by
 have h1:=yQ8 h.m
 have h2:=h.l;have h3:=h.d.n6
 have:A.length*20≤6*20:=qAf _ (by omega)
 omega
theorem DV.flatS (h:DV cs A):∀ s∈A.flatten,yht s:=fun s hs=>by
 obtain ⟨a,ha,hs⟩:=List.mem_flatten.1 hs
 exact (h.p a ha).s s hs
theorem DV.flatV (h:DV cs A):∀ s∈A.flatten,s.1<s.2:=fun s hs=>by
 obtain ⟨a,ha,hs⟩:=List.mem_flatten.1 hs
 exact yrZ (h.p a ha).c s hs
theorem DV.gap (h:DV cs A) (W PT:List PV):∃ l:List RS,l.Perm A.flatten∧yFe l∧∀ K,yad (cks cs) (rspL A) W PT K=K (gapS ((cs.getD 0 default).len:Rat) l 0):=by
 have h6:=h.d.n6;have h1:=h.d.n0;have hl:=h.l;have l0:=h.len0;have ht:=h.tot120
 have hfS:=h.flatS
 have hfV:=h.flatV
 obtain ⟨m,p1,p2,p3⟩:=yPe ybC ydc (l:=A.flatten.map spOf) (fun s hs=>by
  obtain ⟨r,hr,rfl⟩:=qB1.1 hs
  exact yDc (hfS r hr) (hfV r hr))
 have hm:∀ s∈m,s.ok:=fun s hs=>by
  obtain ⟨r,hr,rfl⟩:=qB1.1 (p1.mem_iff.1 hs)
  exact yDc (hfS r hr) (hfV r hr)
 have hp:(rsL m).Perm A.flatten:=by
  have:=p1.map Sp.rs
  rw [List.map_map] at this
  have e:A.flatten.map (Sp.rs ∘ spOf)=A.flatten:=by
   conv=>rhs;rw [← List.map_id A.flatten]
   exact qB9 fun r hr=>yN5 (hfS r hr)
  rw [e] at this
  exact this
 have hb:yFe (rsL m):=yHE (List.pairwise_map.2 p2)
 refine ⟨rsL m,hp,hb,fun K=>?_⟩
 refine ywl _ _ _ _ _ (fun K k=>?_) K
 have sl:small ((cs.getD 0 default).len:Rat):=ymD (by omega)
 have hfl:=yK4 A
 have hend:∀ (q:Rat),small q→asr (decide ((0:Int)<(((cks cs).length:Nat):Int))) (asr (conf (.agg [.i .i64,.d,.d]) (List.getD (cks cs) 0 .nils)) (yam (yaa (yag (List.getD (cks cs) 0 .nils) 0)) fun a b=>yaf q.num q.den a b fun b=>K b))=K (decide (q<((cs.getD 0 default).len:Rat))):=fun q hq=>by
  rw [ya9,asT (by omega),yfR (by omega),asCk,ck0,yoM,ynn hq sl]
 unfold yad yka
 dsimp only [Go.Pf.jn,lt]
 refine ⟨A.length+1,?_⟩
 rw [ygh]
 refine (yHF (by omega) h.m A.length 0 (A.length+1) 0 (by omega) (by omega) (by omega)).mpr ?_
 rw [qA0,qA4,cbF (by omega)]
 have e2:=wib (n:=((tot A:Nat):Int)-0) (by omega) (by omega)
 rw [e2,show ((tot A:Nat):Int)-0=((tot A:Nat):Int) by omega]
 by_cases hz:tot A=0
 ·have hze:∀ a∈A,a=[]:=fun a ha=>by
   have hfe:=qAh (hfl.trans hz)
   exact List.flatten_eq_nil_iff.1 hfe a ha
  have hml:rsL m=[]:=qAh (by rw [hp.length_eq,hfl,hz])
  rw [hml] at k
  rw [cbF (by omega)]
  refine ⟨A.length+1,?_⟩
  rw [ygh]
  refine (yFj (by omega) hze A.length 0 (A.length+1) (by omega) (by omega)).mpr ?_
  rw [yoM]
  refine ⟨1,?_⟩
  rw [yee,cbF (by omega)]
  exact (hend 0 yyn).mpr k
 ·rw [cbT (by omega),asT (by omega),qAe,cbF (by omega),qAt,asT (by unfold room;omega)]
  have hor:(decide ((0:Int)≤((tot A:Nat):Int))||decide ((0:Int)≤((tot A:Nat):Int)))=true:=by rw [decide_eq_true (by omega)];rfl
  rw [hor,yaD,asT rfl]
  refine ⟨A.length+1,?_⟩
  rw [ygh]
  refine (yQ9 (by omega) _).mpr ?_
  have hcond:Srt.cond ytr.s (rsp A.flatten) 0 A.flatten.length (rsp A.flatten).length 4 false=true:=by
   obtain ⟨d,hd⟩:∃ d,(ytr).s.rows? (rsp A.flatten)=some d:=yBy fun y hy=>by
    obtain ⟨s,h4,rfl⟩:=qB1.1 hy
    obtain ⟨q,hq,rfl⟩:=qB1.1 h4
    exact yQW _ _ (yDc (hfS q hq) (hfV q hq))
   unfold Srt.cond
   rw [qA0,show List.take A.flatten.length (rsp A.flatten)=rsp A.flatten by rw [← yd0,List.take_length],hd,yd0]
   simp only [decide_true,qBi,qB2,Option.isSome_some,Bool.and_true,qAc,decide_eq_true_eq,qA4,qAk]
   exact ⟨by omega,rfl,by omega⟩
  rw [hcond,yaD,yoM]
  have hsrt:Srt.sorted ytr.s ytr.srt (rsp A.flatten)=rsp (rsL m):=by
   rw [show rsp A.flatten=yfQ (A.flatten.map spOf) from rfl,← yPf hm]
   exact p3
  have hlm:(rsL m).length=A.flatten.length:=hp.length_eq
  have htk:List.take A.flatten.length (rsp A.flatten)=rsp A.flatten:=by rw [← yd0,List.take_length]
  have hdp:List.drop A.flatten.length (rsp A.flatten)=[]:=by rw [← yd0,List.drop_length]
  rw [List.take_zero,qA0,htk,hsrt,qB3,qA4,hdp,qBx,yd0,yd0,asT (by rw [hlm]),← hlm]
  refine ⟨(rsL m).length+1,?_⟩
  have hms:∀ s∈rsL m,yht s:=fun s hs=>hfS s (hp.mem_iff.1 hs)
  have h2:=yHH (len:=(cs.getD 0 default).len) (l:=rsL m) hms (by omega) (l1:=cks cs) (l2:=rspL A) (l3:=W) (l4:=PT) (K:=K)
   (x0:=fun _ l _ _ _ a b _ _ _ _=>asr (decide ((0:Int)<(((List.length l):Nat):Int))) (asr (conf (.agg [.i .i64,.d,.d]) (List.getD l 0 .nils)) (yam (yaa (yag (List.getD l 0 .nils) 0)) fun c d=>yaf a b c d fun b=>K b))) (x1:=fun _ b=>K b)
   (fun q hq=>hend q hq) rfl (rsL m).length 0 ((rsL m).length+1) 0 (by omega) (by omega) yyn
  refine h2.mpr ?_
  rw [qA0]
  exact k
end
end Go.Pf.Vc
namespace Go.Pf.Vc
open Go Go.Pf
def yto (f:Nat→Bool):Nat→Nat→Option Nat
 | 0,_=>none
 | r+1,i=>if f i then some i else yto f r (i+1)
def ydp (f:Nat→Nat→Bool) (n:Nat):Nat→Nat→Option (Nat×Nat)
 | 0,_=>none
 | r+1,i=>match yto (f i) n 0 with
  | some j=>some (i,j)
  | none=>ydp f n r (i+1)
theorem yno (cs:List Ck) (A:List (List RS)):(tabW cs A).length=cs.length:=qAo ..
theorem yvJ {cs:List Ck} {A:List (List RS)} {i:Nat} (h:i<cs.length):List.getD (tabW cs A) i .nils=.data (rts (A.map (wV (cs.getD i default)))):=by
 unfold tabW
 rw [qAa,qAa,qAy,qAb h]
 rfl
theorem yvK {c:Ck} {A:List (List RS)} {i:Nat} (h:i<A.length):(A.map (wV c)).getD i 0=wV c (A.getD i []):=by
 rw [qAa,qAa,qAy,qAb h]
 rfl
def wr0 (A:List (List RS)) (a b:Nat):Bool:=decide (a<b)&&yvh (A.getD a []) (A.getD b [])
def yyo (cs:List Ck) (a:Nat):Rat:=((totC (cs.getD a default).cuts (cs.getD a default).dens:Int):Rat) / ((cs.length:Int):Rat)
def wr1 (cs:List Ck) (A:List (List RS)) (a b:Nat):Bool:=decide (a=b)&&decide (wV (cs.getD a default) (A.getD a [])<yyo cs a)
def wr2 (cs:List Ck) (A:List (List RS)) (a b:Nat):Bool:=decide (wV (cs.getD a default) (A.getD a [])<wV (cs.getD a default) (A.getD b []))
def wr3 (P:List Rat) (a b:Nat):Bool:=decide (b=0)&&!decide (P.getD a 0=P.getD 0 0)
def wr4 (A:List (List RS)) (a b:Nat):Bool:=decide (a=b)&&decide ((A.getD a []).length≠1)
section
variable {cs:List Ck} {A:List (List RS)}
theorem DV.small (h:DV cs A) (hw:∀ c∈cs,∀ a∈A,small (wV c a)) {i j:Nat} (hi:i<cs.length) (hj:j<cs.length):Go.Pf.Vc.small (wV (cs.getD i default) (A.getD j [])) :=
 hw _ (yc8 _ hi) _ (yc8 _ (by rw [h.l];exact hj))
theorem yJc (a b:Nat):(((a:Int)) ==(b:Int))=decide (a=b):=by
 rw [Bool.eq_iff_iff,beq_iff_eq,decide_eq_true_eq];omega
theorem yK5 {c:Ck} {n:Nat} (hc:c.ok) (h1:1≤n) (h6:n≤6):small (((totC c.cuts c.dens:Int):Rat) / ((n:Int):Rat)):=by
 have:=yhr hc
 exact yTV (by omega) (by omega) (by omega) (by omega)
theorem yUR (h:DV cs A) {l2 l3 l4 l5 l6 l7:List PV} {i9 i10:Int} {x0:List PV→List PV→List PV→List PV→List PV→List PV→List PV→List PV→Int→Int→Int→Int→Int→Bool→Prop} {x1:List PV→List PV→List PV→List PV→Int→Int→Bool→Prop} {a j n:Nat} (ha:a<cs.length) (hj:j<cs.length) :
 yaR yak yad yae yan yaf x0 x1 (n+1) (cks cs) (rspL A) l2 l3 l4 l5 l6 l7 (a:Int) i9 i10 (cs.length:Int) (j:Int)=cbr (wr0 A a j) (x1 (cks cs) (rspL A) l2 l3 (a:Int) (j:Int) true) (yaR yak yad yae yan yaf x0 x1 n (cks cs) (rspL A) l2 l3 l4 l5 l6 l7 (a:Int) i9 i10 (cs.length:Int) ((j+1:Nat):Int)):=by
 have h6:=h.d.n6;have h1:=h.d.n0;have hl:=h.l
 have e1:=wib (n:=(j:Int)+1) (by omega) (by omega)
 rw [yaR,cbT (by omega)]
 dsimp only [lt,Go.Pf.jn]
 have ja:=h.p _ (yc8 [] (show a<A.length by omega))
 have jb:=h.p _ (yc8 [] (show j<A.length by omega))
 have na:=ja.n
 have nb:=jb.n
 unfold wr0
 by_cases hlt:a<j
 ·rw [decide_eq_true hlt,cbT (by omega),ygh,asT (by omega),asT (by omega),qAe,yoE (by omega),asD,asT (by omega),asT (by omega),qAe,yoE (by omega),asD,datD,datD,yQ7 ja.s jb.s (by omega) (by omega),qBi,e1,yda]
 ·rw [decide_eq_false hlt,cbF (by omega),qBn,e1,yda]
theorem yUS (h:DV cs A) (hw:∀ c∈cs,∀ a∈A,small (wV c a)) {l3 l4 l5 l6 l7:List PV} {i9 i10:Int} {x0:List PV→List PV→List PV→List PV→List PV→List PV→List PV→List PV→Int→Int→Int→Int→Int→Bool→Prop} {x1:List PV→List PV→List PV→List PV→Int→Int→Bool→Prop} {a j n:Nat} (ha:a<cs.length) (hj:j<cs.length) :
 yaS yak yad yae yan yaf x1 x0 (n+1) (cks cs) (rspL A) (tabW cs A) l3 l4 l5 l6 l7 (a:Int) i9 i10 (cs.length:Int) (j:Int)=cbr (wr1 cs A a j) (x1 (cks cs) (rspL A) (tabW cs A) l3 (a:Int) (j:Int) true) (yaS yak yad yae yan yaf x1 x0 n (cks cs) (rspL A) (tabW cs A) l3 l4 l5 l6 l7 (a:Int) i9 i10 (cs.length:Int) ((j+1:Nat):Int)):=by
 have h6:=h.d.n6;have h1:=h.d.n0;have hl:=h.l
 have e1:=wib (n:=(j:Int)+1) (by omega) (by omega)
 rw [yaS,cbT (by omega)]
 dsimp only [lt,Go.Pf.jn]
 have hok:=(h.d.ok a ha)
 have l1:=hok.l1;have l2:=hok.l2
 have hto:=yhr hok
 have hT:I64 (totC (cs.getD a default).cuts (cs.getD a default).dens):=by constructor <;> omega
 have hN:I64 (cs.length:Int):=by constructor <;> omega
 have hss:small (yyo cs a):=yK5 hok h1 h6
 rw [asT (by omega),ya9,asT (by omega),qAe,yfR ha,asCk,ck0,ck1,ck2,yBu (by omega) (by omega),if_pos hok.ck,yKN hT hN (by omega)]
 unfold yyo at hss
 unfold fitK
 rw [if_pos hss]
 dsimp only
 rw [yJc,e1,yda]
 unfold wr1 yyo
 by_cases hab:a=j
 ·rw [decide_eq_true hab,yal,asT (by omega),yno,asT (by omega),yvJ ha,asD,asT (by omega),datD,yoD,qAo,asT (by omega),ys1 (by rw [qAo];omega),asW,yAl,yAm,yvK (by omega),qBi]
  rw [ynn (h.small hw ha ha) hss]
 ·rw [decide_eq_false hab,yac,qBn]
theorem yUT (h:DV cs A) (hw:∀ c∈cs,∀ a∈A,small (wV c a)) {l3 l4 l5 l6 l7:List PV} {i9 i10:Int} {x0:List PV→List PV→List PV→List PV→List PV→List PV→List PV→List PV→Int→Int→Int→Int→Int→Bool→Prop} {x1:List PV→List PV→List PV→List PV→Int→Int→Bool→Prop} {a j n:Nat} (ha:a<cs.length) (hj:j<cs.length) :
 yaT yak yad yae yan yaf x1 x0 (n+1) (cks cs) (rspL A) (tabW cs A) l3 l4 l5 l6 l7 (a:Int) i9 i10 (cs.length:Int) (j:Int)=cbr (wr2 cs A a j) (x1 (cks cs) (rspL A) (tabW cs A) l3 (a:Int) (j:Int) true) (yaT yak yad yae yan yaf x1 x0 n (cks cs) (rspL A) (tabW cs A) l3 l4 l5 l6 l7 (a:Int) i9 i10 (cs.length:Int) ((j+1:Nat):Int)):=by
 have h6:=h.d.n6;have h1:=h.d.n0;have hl:=h.l
 have e1:=wib (n:=(j:Int)+1) (by omega) (by omega)
 rw [yaT,cbT (by omega)]
 dsimp only [lt,Go.Pf.jn]
 unfold wr2
 rw [asT (by omega),yno,asT (by omega),qAe,yvJ ha,asD,asT (by omega),datD,yoD,qAo,asT (by omega),ys1 (by rw [qAo];omega),asW,asT (by omega),asT (by omega),asT (by omega),asT (by omega),qAe,ys1 (by rw [qAo];omega),asW,yAl,yAm,yAl,yAm,yvK (by omega),yvK (by omega),ynn (h.small hw ha ha) (h.small hw ha hj),e1,yda,asD]
theorem yUU (h:DV cs A) {P:List Rat} (hP:P.length=cs.length) {l2 l4 l5 l6 l7:List PV} {i9 i10:Int} {x0:List PV→List PV→List PV→List PV→List PV→List PV→List PV→List PV→Int→Int→Int→Int→Int→Bool→Prop} {x1:List PV→List PV→List PV→List PV→Int→Int→Bool→Prop} {a j n:Nat} (ha:a<cs.length) (hj:j<cs.length) :
 yaU yak yad yae yan yaf x1 x0 (n+1) (cks cs) (rspL A) l2 (rts P) l4 l5 l6 l7 (a:Int) i9 i10 (cs.length:Int) (j:Int)=cbr (wr3 P a j) (x1 (cks cs) (rspL A) l2 (rts P) (a:Int) (j:Int) true) (yaU yak yad yae yan yaf x1 x0 n (cks cs) (rspL A) l2 (rts P) l4 l5 l6 l7 (a:Int) i9 i10 (cs.length:Int) ((j+1:Nat):Int)):=by
 have h6:=h.d.n6;have h1:=h.d.n0;have hl:=h.l
 have e1:=wib (n:=(j:Int)+1) (by omega) (by omega)
 rw [yaU,cbT (by omega)]
 dsimp only [lt,Go.Pf.jn]
 unfold wr3
 rw [show ((j:Int) ==(0:Int))=decide (j=0) from yJc j 0,e1,yda]
 by_cases hab:j=0
 ·rw [decide_eq_true hab,yal,asT (by omega),yoD,asT (by omega),qAe,ys1 (by omega),asW,asT (by omega),ys1 (by omega),asW,yAl,yAm,yAl,yAm,yUz,qBi]
 ·rw [decide_eq_false hab,yac,qBn]
theorem yUV (h:DV cs A) {l2 l3 l4 l5 l6 l7:List PV} {i9 i10:Int} {x0:List PV→List PV→List PV→List PV→List PV→List PV→List PV→List PV→Int→Int→Int→Int→Int→Bool→Prop} {x1:List PV→List PV→List PV→List PV→Int→Int→Bool→Prop} {a j n:Nat} (_:a<cs.length) (hj:j<cs.length) :
 yaV yak yad yae yan yaf x1 x0 (n+1) (cks cs) (rspL A) l2 l3 l4 l5 l6 l7 (a:Int) i9 i10 (cs.length:Int) (j:Int)=cbr (wr4 A a j) (x1 (cks cs) (rspL A) l2 l3 (a:Int) (j:Int) true) (yaV yak yad yae yan yaf x1 x0 n (cks cs) (rspL A) l2 l3 l4 l5 l6 l7 (a:Int) i9 i10 (cs.length:Int) ((j+1:Nat):Int)):=by
 have h6:=h.d.n6;have h1:=h.d.n0;have hl:=h.l
 have e1:=wib (n:=(j:Int)+1) (by omega) (by omega)
 rw [yaV,cbT (by omega)]
 dsimp only [lt,Go.Pf.jn]
 unfold wr4
 rw [yJc,e1,yda]
 by_cases hab:a=j
 ·have hne:((((A.getD a []).length:Nat):Int) !=(1:Int))=decide ((A.getD a []).length≠1):=by
   rw [Bool.eq_iff_iff,bne_iff_ne,decide_eq_true_eq];omega
  rw [decide_eq_true hab,yal,asT (by omega),ygh,asT (by omega),qAe,yoE (by omega),asD,datD,yd0,hne,qBi]
 ·rw [decide_eq_false hab,yac,qBn]
end
end Go.Pf.Vc
namespace Go.Pf.Vc
open Go Go.Pf
def onB (X:Nat→Prop) (Y:Prop):Option Nat→Prop
 | some j=>X j
 | none=>Y
def onA (X:Nat→Nat→Prop) (Y:Prop):Option (Nat×Nat)→Prop
 | some (a,b)=>X a b
 | none=>Y
theorem yvL {f:Nat→Bool} {N:Nat} {L:Nat→Nat→Prop} {X:Nat→Prop} {Y:Prop} (hs:∀ n j,j<N→L (n+1) j=cbr (f j) (X j) (L n (j+1))) (he:∀ n,L (n+1) N=Y) :
  ∀ (r j n:Nat),j+r=N→r<n→L n j=onB X Y (yto f r j)
 | 0,j,n+1,hj,_=>by
  obtain rfl:j=N:=by omega
  rw [he];rfl
 | r+1,j,n+1,hj,hn=>by
  rw [hs n j (by omega),yto]
  cases f j with
  | true=>rw [yal];rfl
  | false=>rw [yac];exact yvL hs he r (j+1) n (by omega) (by omega)
theorem yr0 {f:Nat→Nat→Bool} {N:Nat} {L:Nat→Nat→Prop} {X:Nat→Nat→Prop} {Y:Prop} (hs:∀ n a,a<N→onB (X a) (L n (a+1)) (yto (f a) N 0)→L (n+1) a) (he:∀ n,Y→L (n+1) N) :
  ∀ (r a n:Nat),a+r=N→r<n→onA X Y (ydp f N r a)→L n a
 | 0,a,n+1,ha,_,h=>by
  obtain rfl:a=N:=by omega
  exact he n h
 | r+1,a,n+1,ha,hn,h=>by
  refine hs n a (by omega) ?_
  rw [ydp] at h
  cases hb:yto (f a) N 0 with
  | some j=>rw [hb] at h;exact h
  | none=>rw [hb] at h;exact yr0 hs he r (a+1) n (by omega) (by omega) h
section
variable {cs:List Ck} {A:List (List RS)}
theorem yUW (h:DV cs A) {l2 l3:List PV} {x0:List PV→List PV→List PV→List PV→List PV→List PV→List PV→List PV→Int→Int→Bool→Prop} {x1:List PV→List PV→List PV→List PV→Int→Int→Bool→Prop} :
  ∀ (r a n:Nat),a+r=cs.length→r<n→onA (fun a b=>x1 (cks cs) (rspL A) l2 l3 (a:Int) (b:Int) true) (x0 (cks cs) (rspL A) l2 l3 (cks cs) (rspL A) l2 l3 (cs.length:Int) (cs.length:Int) false) (ydp (wr0 A) cs.length r a)→yaW yak yad yae yan yaf x0 x1 n (cks cs) (rspL A) l2 l3 (cks cs) (rspL A) l2 l3 (cs.length:Int) (a:Int):=by
 have h6:=h.d.n6
 refine yr0 (L:=fun n a=>yaW yak yad yae yan yaf x0 x1 n (cks cs) (rspL A) l2 l3 (cks cs) (rspL A) l2 l3 (cs.length:Int) (a:Int)) (fun n a ha hb=>?_) (fun n hy=>?_)
 ·have e1:=wib (n:=(a:Int)+1) (by omega) (by omega)
  show yaW yak yad yae yan yaf x0 x1 (n+1) (cks cs) (rspL A) l2 l3 (cks cs) (rspL A) l2 l3 (cs.length:Int) (a:Int)
  rw [yaW,cbT (by omega),ya9]
  dsimp only [lt,Go.Pf.jn]
  refine ⟨cs.length+1,?_⟩
  refine (yvL (f:=(wr0 A) a) (N:=cs.length) (L:=fun n j=>yaR yak yad yae yan yaf _ _ n (cks cs) (rspL A) l2 l3 (cks cs) (rspL A) l2 l3 (a:Int) (cs.length:Int) (a:Int) (cs.length:Int) (j:Int)) (fun n j hj=>yUR h ha hj) (fun n=>?_) cs.length 0 (cs.length+1) (by omega) (by omega)).mpr hb
  show yaR yak yad yae yan yaf _ _ (n+1) (cks cs) (rspL A) l2 l3 (cks cs) (rspL A) l2 l3 (a:Int) (cs.length:Int) (a:Int) (cs.length:Int) (cs.length:Int)=_
  rw [yaR,cbF (by omega),e1,yda]
 ·show yaW yak yad yae yan yaf x0 x1 (n+1) (cks cs) (rspL A) l2 l3 (cks cs) (rspL A) l2 l3 (cs.length:Int) (cs.length:Int)
  rw [yaW,cbF (by omega)]
  exact hy
theorem yUX (h:DV cs A) (hw:∀ c∈cs,∀ a∈A,small (wV c a)) {l3:List PV} {x0:List PV→List PV→List PV→List PV→List PV→List PV→List PV→List PV→Int→Int→Bool→Prop} {x1:List PV→List PV→List PV→List PV→Int→Int→Bool→Prop} :
  ∀ (r a n:Nat),a+r=cs.length→r<n→onA (fun a b=>x1 (cks cs) (rspL A) (tabW cs A) l3 (a:Int) (b:Int) true) (x0 (cks cs) (rspL A) (tabW cs A) l3 (cks cs) (rspL A) (tabW cs A) l3 (cs.length:Int) (cs.length:Int) false) (ydp (wr1 cs A) cs.length r a)→yaX yak yad yae yan yaf x1 x0 n (cks cs) (rspL A) (tabW cs A) l3 (cks cs) (rspL A) (tabW cs A) l3 (cs.length:Int) (a:Int):=by
 have h6:=h.d.n6
 refine yr0 (L:=fun n a=>yaX yak yad yae yan yaf x1 x0 n (cks cs) (rspL A) (tabW cs A) l3 (cks cs) (rspL A) (tabW cs A) l3 (cs.length:Int) (a:Int)) (fun n a ha hb=>?_) (fun n hy=>?_)
 ·have e1:=wib (n:=(a:Int)+1) (by omega) (by omega)
  show yaX yak yad yae yan yaf x1 x0 (n+1) (cks cs) (rspL A) (tabW cs A) l3 (cks cs) (rspL A) (tabW cs A) l3 (cs.length:Int) (a:Int)
  rw [yaX,cbT (by omega),ya9]
  dsimp only [lt,Go.Pf.jn]
  refine ⟨cs.length+1,?_⟩
  refine (yvL (f:=(wr1 cs A) a) (N:=cs.length) (L:=fun n j=>yaS yak yad yae yan yaf _ _ n (cks cs) (rspL A) (tabW cs A) l3 (cks cs) (rspL A) (tabW cs A) l3 (a:Int) (cs.length:Int) (a:Int) (cs.length:Int) (j:Int)) (fun n j hj=>yUS h hw ha hj) (fun n=>?_) cs.length 0 (cs.length+1) (by omega) (by omega)).mpr hb
  show yaS yak yad yae yan yaf _ _ (n+1) (cks cs) (rspL A) (tabW cs A) l3 (cks cs) (rspL A) (tabW cs A) l3 (a:Int) (cs.length:Int) (a:Int) (cs.length:Int) (cs.length:Int)=_
  rw [yaS,cbF (by omega),e1,yda]
 ·show yaX yak yad yae yan yaf x1 x0 (n+1) (cks cs) (rspL A) (tabW cs A) l3 (cks cs) (rspL A) (tabW cs A) l3 (cs.length:Int) (cs.length:Int)
  rw [yaX,cbF (by omega)]
  exact hy
theorem yUY (h:DV cs A) (hw:∀ c∈cs,∀ a∈A,small (wV c a)) {l3:List PV} {x0:List PV→List PV→List PV→List PV→List PV→List PV→List PV→List PV→Int→Int→Bool→Prop} {x1:List PV→List PV→List PV→List PV→Int→Int→Bool→Prop} :
  ∀ (r a n:Nat),a+r=cs.length→r<n→onA (fun a b=>x1 (cks cs) (rspL A) (tabW cs A) l3 (a:Int) (b:Int) true) (x0 (cks cs) (rspL A) (tabW cs A) l3 (cks cs) (rspL A) (tabW cs A) l3 (cs.length:Int) (cs.length:Int) false) (ydp (wr2 cs A) cs.length r a)→yaY yak yad yae yan yaf x1 x0 n (cks cs) (rspL A) (tabW cs A) l3 (cks cs) (rspL A) (tabW cs A) l3 (cs.length:Int) (a:Int):=by
 have h6:=h.d.n6
 refine yr0 (L:=fun n a=>yaY yak yad yae yan yaf x1 x0 n (cks cs) (rspL A) (tabW cs A) l3 (cks cs) (rspL A) (tabW cs A) l3 (cs.length:Int) (a:Int)) (fun n a ha hb=>?_) (fun n hy=>?_)
 ·have e1:=wib (n:=(a:Int)+1) (by omega) (by omega)
  show yaY yak yad yae yan yaf x1 x0 (n+1) (cks cs) (rspL A) (tabW cs A) l3 (cks cs) (rspL A) (tabW cs A) l3 (cs.length:Int) (a:Int)
  rw [yaY,cbT (by omega),ya9]
  dsimp only [lt,Go.Pf.jn]
  refine ⟨cs.length+1,?_⟩
  refine (yvL (f:=(wr2 cs A) a) (N:=cs.length) (L:=fun n j=>yaT yak yad yae yan yaf _ _ n (cks cs) (rspL A) (tabW cs A) l3 (cks cs) (rspL A) (tabW cs A) l3 (a:Int) (cs.length:Int) (a:Int) (cs.length:Int) (j:Int)) (fun n j hj=>yUT h hw ha hj) (fun n=>?_) cs.length 0 (cs.length+1) (by omega) (by omega)).mpr hb
  show yaT yak yad yae yan yaf _ _ (n+1) (cks cs) (rspL A) (tabW cs A) l3 (cks cs) (rspL A) (tabW cs A) l3 (a:Int) (cs.length:Int) (a:Int) (cs.length:Int) (cs.length:Int)=_
  rw [yaT,cbF (by omega),e1,yda]
 ·show yaY yak yad yae yan yaf x1 x0 (n+1) (cks cs) (rspL A) (tabW cs A) l3 (cks cs) (rspL A) (tabW cs A) l3 (cs.length:Int) (cs.length:Int)
  rw [yaY,cbF (by omega)]
  exact hy
theorem yUZ (h:DV cs A) {P:List Rat} (hP:P.length=cs.length) {l2:List PV} {x0:List PV→List PV→List PV→List PV→List PV→List PV→List PV→List PV→Int→Int→Bool→Prop} {x1:List PV→List PV→List PV→List PV→Int→Int→Bool→Prop} :
  ∀ (r a n:Nat),a+r=cs.length→r<n→onA (fun a b=>x1 (cks cs) (rspL A) l2 (rts P) (a:Int) (b:Int) true) (x0 (cks cs) (rspL A) l2 (rts P) (cks cs) (rspL A) l2 (rts P) (cs.length:Int) (cs.length:Int) false) (ydp (wr3 P) cs.length r a)→yaZ yak yad yae yan yaf x1 x0 n (cks cs) (rspL A) l2 (rts P) (cks cs) (rspL A) l2 (rts P) (cs.length:Int) (a:Int):=by
 have h6:=h.d.n6
 refine yr0 (L:=fun n a=>yaZ yak yad yae yan yaf x1 x0 n (cks cs) (rspL A) l2 (rts P) (cks cs) (rspL A) l2 (rts P) (cs.length:Int) (a:Int)) (fun n a ha hb=>?_) (fun n hy=>?_)
 ·have e1:=wib (n:=(a:Int)+1) (by omega) (by omega)
  show yaZ yak yad yae yan yaf x1 x0 (n+1) (cks cs) (rspL A) l2 (rts P) (cks cs) (rspL A) l2 (rts P) (cs.length:Int) (a:Int)
  rw [yaZ,cbT (by omega),ya9]
  dsimp only [lt,Go.Pf.jn]
  refine ⟨cs.length+1,?_⟩
  refine (yvL (f:=(wr3 P) a) (N:=cs.length) (L:=fun n j=>yaU yak yad yae yan yaf _ _ n (cks cs) (rspL A) l2 (rts P) (cks cs) (rspL A) l2 (rts P) (a:Int) (cs.length:Int) (a:Int) (cs.length:Int) (j:Int)) (fun n j hj=>yUU h hP ha hj) (fun n=>?_) cs.length 0 (cs.length+1) (by omega) (by omega)).mpr hb
  show yaU yak yad yae yan yaf _ _ (n+1) (cks cs) (rspL A) l2 (rts P) (cks cs) (rspL A) l2 (rts P) (a:Int) (cs.length:Int) (a:Int) (cs.length:Int) (cs.length:Int)=_
  rw [yaU,cbF (by omega),e1,yda]
 ·show yaZ yak yad yae yan yaf x1 x0 (n+1) (cks cs) (rspL A) l2 (rts P) (cks cs) (rspL A) l2 (rts P) (cs.length:Int) (cs.length:Int)
  rw [yaZ,cbF (by omega)]
  exact hy
theorem yU0 (h:DV cs A) {l2 l3:List PV} {x0:List PV→List PV→List PV→List PV→List PV→List PV→List PV→List PV→Int→Int→Bool→Prop} {x1:List PV→List PV→List PV→List PV→Int→Int→Bool→Prop} :
  ∀ (r a n:Nat),a+r=cs.length→r<n→onA (fun a b=>x1 (cks cs) (rspL A) l2 l3 (a:Int) (b:Int) true) (x0 (cks cs) (rspL A) l2 l3 (cks cs) (rspL A) l2 l3 (cs.length:Int) (cs.length:Int) false) (ydp (wr4 A) cs.length r a)→ya0 yak yad yae yan yaf x1 x0 n (cks cs) (rspL A) l2 l3 (cks cs) (rspL A) l2 l3 (cs.length:Int) (a:Int):=by
 have h6:=h.d.n6
 refine yr0 (L:=fun n a=>ya0 yak yad yae yan yaf x1 x0 n (cks cs) (rspL A) l2 l3 (cks cs) (rspL A) l2 l3 (cs.length:Int) (a:Int)) (fun n a ha hb=>?_) (fun n hy=>?_)
 ·have e1:=wib (n:=(a:Int)+1) (by omega) (by omega)
  show ya0 yak yad yae yan yaf x1 x0 (n+1) (cks cs) (rspL A) l2 l3 (cks cs) (rspL A) l2 l3 (cs.length:Int) (a:Int)
  rw [ya0,cbT (by omega),ya9]
  dsimp only [lt,Go.Pf.jn]
  refine ⟨cs.length+1,?_⟩
  refine (yvL (f:=(wr4 A) a) (N:=cs.length) (L:=fun n j=>yaV yak yad yae yan yaf _ _ n (cks cs) (rspL A) l2 l3 (cks cs) (rspL A) l2 l3 (a:Int) (cs.length:Int) (a:Int) (cs.length:Int) (j:Int)) (fun n j hj=>yUV h ha hj) (fun n=>?_) cs.length 0 (cs.length+1) (by omega) (by omega)).mpr hb
  show yaV yak yad yae yan yaf _ _ (n+1) (cks cs) (rspL A) l2 l3 (cks cs) (rspL A) l2 l3 (a:Int) (cs.length:Int) (a:Int) (cs.length:Int) (cs.length:Int)=_
  rw [yaV,cbF (by omega),e1,yda]
 ·show ya0 yak yad yae yan yaf x1 x0 (n+1) (cks cs) (rspL A) l2 l3 (cks cs) (rspL A) l2 l3 (cs.length:Int) (cs.length:Int)
  rw [ya0,cbF (by omega)]
  exact hy
end
end Go.Pf.Vc
namespace Go.Pf.Vc
open Go Go.Pf
def ylw:Option (Nat×Nat)→Int×Int×Bool
 | some (a,b)=>(a,b,true)
 | none=>(0,0,false)
def brk (cs:List Ck) (A:List (List RS)) (P:List Rat) (g:Bool) (c:Int):Int×Int×Bool :=
 if c=1 then (match ydp (wr0 A) cs.length cs.length 0 with
  | some (a,b)=>(a,b,true)
  | none=>if g then (-1,-1,true) else (0,0,false))
 else if c=2 then ylw (ydp (wr1 cs A) cs.length cs.length 0)
 else if c=4 then ylw (ydp (wr2 cs A) cs.length cs.length 0)
 else if c=8 then ylw (ydp (wr3 P) cs.length cs.length 0)
 else ylw (ydp (wr4 A) cs.length cs.length 0)
theorem yHI {cs:List Ck} {A:List (List RS)} (h:DV cs A) (hw:∀ c∈cs,∀ a∈A,small (wV c a)) {P:List Rat} {c:Int} (hP:c=8→P.length=cs.length) (hc:c=1∨c=2∨c=4∨c=8∨c=16) {g:Bool}
  (hg:∀ K,yad (cks cs) (rspL A) (tabW cs A) (rts P) K=K g) (K:Int→Int→Bool→Prop) :
  yaj (cks cs) (rspL A) (tabW cs A) (rts P) c K=K (brk cs A P g c).1 (brk cs A P g c).2.1 (brk cs A P g c).2.2:=by
 refine ysU _ _ _ _ _ _ _ _ (fun K k=>?_) K
 unfold yaj yh2
 dsimp only [Go.Pf.jn]
 rcases hc with rfl | rfl | rfl | rfl | rfl
 ·show cbr true _ _
  rw [yal]
  refine ⟨cs.length+1,?_⟩
  rw [ya9]
  refine yUW h cs.length 0 (cs.length+1) (by omega) (by omega) ?_
  have k:K (match ydp (wr0 A) cs.length cs.length 0 with | some (a,b)=>((a:Int),(b:Int),true) | none=>if g then (-1,-1,true) else (0,0,false)).1 (match ydp (wr0 A) cs.length cs.length 0 with | some (a,b)=>((a:Int),(b:Int),true) | none=>if g then (-1,-1,true) else (0,0,false)).2.1 (match ydp (wr0 A) cs.length cs.length 0 with | some (a,b)=>((a:Int),(b:Int),true) | none=>if g then (-1,-1,true) else (0,0,false)).2.2:=k
  cases hs:ydp (wr0 A) cs.length cs.length 0 with
  | some q =>
   rw [hs] at k
   exact k
  | none =>
   rw [hs] at k
   dsimp only [onA,qB2]
   rw [show (!false)=true from rfl,yal,hg]
   cases g with
   | true=>exact k
   | false=>exact k
 ·show cbr false _ (cbr true _ _)
  rw [yac,yal]
  refine ⟨cs.length+1,?_⟩
  rw [ya9]
  refine yUX h hw cs.length 0 (cs.length+1) (by omega) (by omega) ?_
  have k:K (ylw (ydp (wr1 cs A) cs.length cs.length 0)).1 (ylw (ydp (wr1 cs A) cs.length cs.length 0)).2.1 (ylw (ydp (wr1 cs A) cs.length cs.length 0)).2.2:=k
  cases hs:ydp (wr1 cs A) cs.length cs.length 0 <;> (rw [hs] at k;exact k)
 ·show cbr false _ (cbr false _ (cbr true _ _))
  rw [yac,yac,yal]
  refine ⟨cs.length+1,?_⟩
  rw [ya9]
  refine yUY h hw cs.length 0 (cs.length+1) (by omega) (by omega) ?_
  have k:K (ylw (ydp (wr2 cs A) cs.length cs.length 0)).1 (ylw (ydp (wr2 cs A) cs.length cs.length 0)).2.1 (ylw (ydp (wr2 cs A) cs.length cs.length 0)).2.2:=k
  cases hs:ydp (wr2 cs A) cs.length cs.length 0 <;> (rw [hs] at k;exact k)
 ·show cbr false _ (cbr false _ (cbr false _ (cbr true _ _)))
  rw [yac,yac,yac,yal]
  refine ⟨cs.length+1,?_⟩
  rw [ya9]
  refine yUZ h (hP rfl) cs.length 0 (cs.length+1) (by omega) (by omega) ?_
  have k:K (ylw (ydp (wr3 P) cs.length cs.length 0)).1 (ylw (ydp (wr3 P) cs.length cs.length 0)).2.1 (ylw (ydp (wr3 P) cs.length cs.length 0)).2.2:=k
  cases hs:ydp (wr3 P) cs.length cs.length 0 <;> (rw [hs] at k;exact k)
 ·show cbr false _ (cbr false _ (cbr false _ (cbr false _ _)))
  rw [yac,yac,yac,yac]
  refine ⟨cs.length+1,?_⟩
  rw [ya9]
  refine yU0 h cs.length 0 (cs.length+1) (by omega) (by omega) ?_
  have k:K (ylw (ydp (wr4 A) cs.length cs.length 0)).1 (ylw (ydp (wr4 A) cs.length cs.length 0)).2.1 (ylw (ydp (wr4 A) cs.length cs.length 0)).2.2:=k
  cases hs:ydp (wr4 A) cs.length cs.length 0 <;> (rw [hs] at k;exact k)
end Go.Pf.Vc
namespace Go.Pf.Vc
open Go Go.Pf
def prt (cs:List Ck) (A:List (List RS)) (i:Nat):Rat:=wV (cs.getD i default) (A.getD i []) / ((totC (cs.getD i default).cuts (cs.getD i default).dens:Int):Rat)
def prtL (cs:List Ck) (A:List (List RS)) (n:Nat):List Rat:=(List.range n).map (prt cs A)
theorem yK6 (cs:List Ck) (A:List (List RS)) (n:Nat):(prtL cs A n).length=n:=by unfold prtL;rw [qAo,List.length_range]
theorem yPj (cs:List Ck) (A:List (List RS)) (n:Nat):prtL cs A (n+1)=prtL cs A n++[prt cs A n]:=by unfold prtL;rw [List.range_succ,List.map_append];rfl
def prtK (cs:List Ck) (A:List (List RS)) (X Y:Prop):Nat→Nat→Prop
 | 0,_=>X
 | r+1,i=>if small (prt cs A i) then prtK cs A X Y r (i+1) else Y
section
variable {cs:List Ck} {A:List (List RS)}
theorem DV.total (h:DV cs A) {i:Nat} (hi:i<cs.length) (K:Int→Int→Prop):yae (cs.getD i default).len (ints (cs.getD i default).cuts) (ints (cs.getD i default).dens) K=K (totC (cs.getD i default).cuts (cs.getD i default).dens) 0:=by
 have hok:=h.d.ok i hi
 have l1:=hok.l1;have l2:=hok.l2
 rw [yBu (by omega) (by omega),if_pos hok.ck]
theorem DV.div (h:DV cs A) (hw:∀ c∈cs,∀ a∈A,Go.Pf.Vc.small (wV c a)) {i:Nat} (hi:i<cs.length) (K:Int→Int→Int→Prop):yaz (wV (cs.getD i default) (A.getD i [])).num (wV (cs.getD i default) (A.getD i [])).den ((totC (cs.getD i default).cuts (cs.getD i default).dens:Int):Rat).num ((totC (cs.getD i default).cuts (cs.getD i default).dens:Int):Rat).den K=fitK (prt cs A i) K:=by
 have hok:=h.d.ok i hi
 have tb:=yhr hok
 have tp:=yFa hok
 have hs:Go.Pf.Vc.small ((totC (cs.getD i default).cuts (cs.getD i default).dens:Int):Rat):=ymD (by omega)
 have h0:((totC (cs.getD i default).cuts (cs.getD i default).dens:Int):Rat)≠0:=fun e=>by
  have:(((totC (cs.getD i default).cuts (cs.getD i default).dens:Int):Rat))=((0:Int):Rat):=e
  have:=Rat.intCast_inj.1 this
  omega
 exact yNQ (h.small hw hi hi) hs h0 K
theorem ytp (h:DV cs A) (hw:∀ c∈cs,∀ a∈A,small (wV c a)) (x2:List PV→List PV→List PV→List PV→Int→Int→Bool→Prop) (x3:List PV→List PV→List PV→List PV→Int→Prop) {YY:Prop} (hY:∀ L,x3 L (cks cs) (rspL A) (tabW cs A) 16=YY) :
  ∀ (r i n:Nat),i+r=cs.length→r<n→ydK yax yae yam yaz yaj x2 x3 n (rts (prtL cs A i)) (cks cs) (rspL A) (tabW cs A) (cs.length:Int) (i:Int)=prtK cs A (x2 (rts (prtL cs A cs.length)) (cks cs) (rspL A) (tabW cs A) (cs.length:Int) (cs.length:Int) false) YY r i
 | 0,i,n+1,hi,hn=>by
  obtain rfl:i=cs.length:=by omega
  rw [ydK,cbF (by omega)]
  rfl
 | r+1,i,n+1,hi,hn=>by
  have h6:=h.d.n6;have hl:=h.l
  have hi':i<cs.length:=by omega
  have e1:=wib (n:=(i:Int)+1) (by omega) (by omega)
  have ih:=ytp h hw x2 x3 hY r (i+1) n (by omega) (by omega)
  rw [ydK]
  dsimp only [lt,Go.Pf.jn]
  rw [cbT (by omega),asT (by omega),ya9,asT (by omega),qAe,yfR hi',asCk,ck0,ck1,ck2,h.total hi',asT (by omega),yno,asT (by omega),yvJ hi',asD,asT (by omega),datD,yoD,qAo,asT (by omega),ys1 (by rw [qAo];omega),asW,yAl,yAm,yvK (by omega),yoM,h.div hw hi']
  unfold prtK fitK
  by_cases hs:small (prt cs A i)
  ·rw [if_pos hs,if_pos hs]
   show cbr false _ _=_
   rw [yac,asT rfl,yoD,yK6]
   simp only [qA4,qAk,decide_true,yaD]
   rw [show (!decide (i+1≤i))=true by rw [decide_eq_false (by omega)];rfl,yaD,asT (by unfold room;omega),show (true&&true)=true from rfl,yaD,e1,yda,ySy,ySz,← yPj]
   exact ih
  ·rw [if_neg hs,if_neg hs]
   show cbr true _ _=_
   rw [yal,hY]
theorem yBA (h:DV cs A) (hw:∀ c∈cs,∀ a∈A,small (wV c a)) (x0:List PV→List PV→List PV→Int→Int→Bool→Prop) (x1:List PV→List PV→List PV→Int→Prop) (x2:List PV→List PV→List PV→List PV→Int→Int→Bool→Prop) (x3:List PV→List PV→List PV→List PV→Int→Prop) {YY:Prop} (hY1:x1 (cks cs) (rspL A) (tabW cs A) 16=YY) (hY:∀ L,x3 L (cks cs) (rspL A) (tabW cs A) 16=YY) :
 yfw yax yae yam yaz yaj x0 x1 x2 x3 (cs.length+1) (cks cs) (rspL A) (tabW cs A) (cs.length:Int) 0=prtK cs A (x2 (rts (prtL cs A cs.length)) (cks cs) (rspL A) (tabW cs A) (cs.length:Int) (cs.length:Int) false) YY cs.length 0:=by
 have h6:=h.d.n6;have h1:=h.d.n0;have hl:=h.l
 have hi':0<cs.length:=by omega
 have e1:=wib (n:=(0:Int)+1) (by omega) (by omega)
 obtain ⟨r,hr⟩:∃ r,cs.length=r+1:=⟨cs.length-1,by omega⟩
 have ih:=ytp h hw x2 x3 hY r 1 cs.length (by omega) (by omega)
 rw [yfw]
 dsimp only [lt,Go.Pf.jn]
 rw [cbT (by omega),asT (by omega),ya9,asT (by omega),show (0:Int).toNat=0 from rfl,yfR hi',asCk,ck0,ck1,ck2,h.total hi',asT (by omega),yno,asT (by omega),yvJ hi',asD,asT (by omega),datD,yoD,qAo,asT (by omega),ys1 (by rw [qAo];omega),asW,yAl,yAm,yvK (by omega),yoM,h.div hw hi']
 have eK:∀ X:Prop,prtK cs A X YY cs.length 0=if small (prt cs A 0) then prtK cs A X YY r 1 else YY:=fun X=>by rw [hr];rfl
 rw [eK]
 unfold fitK
 by_cases hs:small (prt cs A 0)
 ·rw [if_pos hs,if_pos hs]
  show cbr false _ _=_
  rw [yac,e1]
  exact ih
 ·rw [if_neg hs,if_neg hs]
  show cbr true _ _=_
  rw [yal,hY1]
end
end Go.Pf.Vc
namespace Go.Pf.Vc
open Go Go.Pf
def orU8 (a b:Int):Int:=IntKind.u8.wrap (BitVec.ofInt IntKind.u8.bits a|||BitVec.ofInt IntKind.u8.bits b).toNat
def bitC:Nat→Int
 | 0=>1
 | 1=>2
 | 2=>4
 | 3=>8
 | _=>16
def addC (cs:List Ck) (A:List (List RS)) (P:List Rat) (g:Bool) (acc:Int) (i:Nat):Int:=if (brk cs A P g (bitC i)).2.2 then acc else orU8 acc (bitC i)
theorem yOb {i:Nat} (h:i<5):IntKind.u8.wrap ((1:Int)*2 ^ (min ((i:Int)).toNat IntKind.u8.bits))=bitC i:=by
 obtain rfl | rfl | rfl | rfl | rfl:i=0∨i=1∨i=2∨i=3∨i=4:=by omega
 all_goals decide
theorem yRa (i:Nat):bitC i=1∨bitC i=2∨bitC i=4∨bitC i=8∨bitC i=16:=by
 unfold bitC
 split <;> simp
section
variable {cs:List Ck} {A:List (List RS)}
theorem yPk (h:DV cs A) (hw:∀ c∈cs,∀ a∈A,small (wV c a)) {P:List Rat} (hP:P.length=cs.length) {g:Bool} (hg:∀ K,yad (cks cs) (rspL A) (tabW cs A) (rts P) K=K g) (x1:List PV→List PV→List PV→List PV→Int→Int→List PV→Int→Bool→Prop) {n i:Nat} (hi:i<5) (e acc:Int) (l8:List PV) :
  yc6 yax yae yam yaz yaj x1 (n+1) (rts P) (cks cs) (rspL A) (tabW cs A) e acc l8 (i:Int)=yc6 yax yae yam yaz yaj x1 n (rts P) (cks cs) (rspL A) (tabW cs A) e (addC cs A P g acc i) l8 ((i+1:Nat):Int):=by
 have e1:=wib (n:=(i:Int)+1) (by omega) (by omega)
 have hn:(!decide ((i:Int)<0))=true:=by rw [decide_eq_false (by omega)];rfl
 rw [yc6]
 dsimp only [lt,Go.Pf.jn]
 rw [cbT (by omega),hn,yaD,yOb hi,asT rfl,asT (by omega),List.take_length,yHI h hw (fun _=>hP) (yRa i) hg,e1,yda]
 unfold addC
 cases (brk cs A P g (bitC i)).2.2 with
 | true =>
  show cbr false _ _=_
  rw [yac,show (decide ((rts P).length=(rts P).length)&&decide ((rts P).length=(rts P).length))=true by simp,yaD]
  rfl
 | false =>
  show cbr true _ _=_
  rw [yal,yaD,show (decide ((rts P).length=(rts P).length)&&decide ((rts P).length=(rts P).length))=true by simp,yaD]
  rfl
def yJd (cs:List Ck) (A:List (List RS)) (P:List Rat) (g:Bool):Int:=addC cs A P g (addC cs A P g (addC cs A P g (addC cs A P g (addC cs A P g 0 0) 1) 2) 3) 4
theorem yFk {X Y:Prop}:∀ (r i:Nat),((∀ j,i≤j→j<i+r→small (prt cs A j))∧prtK cs A X Y r i=X)∨(¬(∀ j,i≤j→j<i+r→small (prt cs A j))∧prtK cs A X Y r i=Y)
 | 0,i=>.inl ⟨fun j h1 h2=>by omega,rfl⟩
 | r+1,i=>by
  rw [prtK]
  by_cases hs:small (prt cs A i)
  ·rw [if_pos hs]
   rcases yFk (X:=X) (Y:=Y) r (i+1) with ⟨h1,h2⟩ | ⟨h1,h2⟩
   ·refine .inl ⟨fun j k1 k2=>?_,h2⟩
    by_cases hj:j=i
    ·subst hj;exact hs
    ·exact h1 j (by omega) (by omega)
   ·exact .inr ⟨fun hh=>h1 fun j k1 k2=>hh j (by omega) (by omega),h2⟩
  ·rw [if_neg hs]
   exact .inr ⟨fun hh=>hs (hh i (by omega) (by omega)),rfl⟩
end
end Go.Pf.Vc
namespace Go.Pf.Vc
open Go Go.Pf
section
variable {cs:List Ck} {A:List (List RS)}
def Gap (cs:List Ck) (A:List (List RS)):Prop:=∃ p:Rat,0≤p∧p<((cs.getD 0 default).len:Rat)∧¬∃ a∈A,memP a p
open Classical in
noncomputable def gapD (cs:List Ck) (A:List (List RS)):Bool:=decide (Gap cs A)
theorem yK7:gapD cs A=true↔Gap cs A:=by unfold gapD;exact @decide_eq_true_iff _ (Classical.propDecidable _)
theorem DV.gapD_eq (h:DV cs A) (W PT:List PV) (K:Bool→Prop):yad (cks cs) (rspL A) W PT K=K (gapD cs A):=by
 obtain ⟨l,hp,hb,e⟩:=h.gap W PT
 rw [e]
 congr 1
 rw [Bool.eq_iff_iff,yK7,yK2 l 0 hb (fun s hs=>h.flatV s (hp.mem_iff.1 hs)) (fun s hs=>by
  obtain ⟨a,ha,hs⟩:=List.mem_flatten.1 (hp.mem_iff.1 hs)
  exact (h.wi a ha s hs).2)]
 have hm:∀ p,memP l p↔∃ a∈A,memP a p:=fun p=>by
  constructor
  ·rintro ⟨s,hs,k⟩
   obtain ⟨a,ha,hs⟩:=List.mem_flatten.1 (hp.mem_iff.1 hs)
   exact ⟨a,ha,s,hs,k⟩
  ·rintro ⟨a,ha,s,hs,k⟩
   exact ⟨s,hp.mem_iff.2 (List.mem_flatten.2 ⟨a,ha,hs⟩),k⟩
 unfold Gap
 constructor
 ·rintro ⟨p,h1,h2,h3⟩
  exact ⟨p,h1,h2,fun k=>h3 ((hm p).2 k)⟩
 ·rintro ⟨p,h1,h2,h3⟩
  exact ⟨p,h1,h2,fun k=>h3 ((hm p).1 k)⟩
end
end Go.Pf.Vc
namespace Go.Pf.Vc
open Go Go.Pf
theorem yFl {f:Nat→Bool}:∀ {r i:Nat},yto f r i=none↔∀ j,i≤j→j<i+r→f j=false
 | 0,i=>⟨fun _ j h1 h2=>by omega,fun _=>rfl⟩
 | r+1,i=>by
  rw [yto]
  cases hf:f i with
  | true=>exact ⟨fun h=>by simp at h,fun h=>by have:=h i (by omega) (by omega);rw [hf] at this;cases this⟩
  | false =>
   show yto f r (i+1)=none↔_
   rw [yFl]
   constructor
   ·intro h j h1 h2
    by_cases hj:j=i
    ·subst hj;exact hf
    ·exact h j (by omega) (by omega)
   ·exact fun h j h1 h2=>h j (by omega) (by omega)
theorem yFm {f:Nat→Bool}:∀ {r i j:Nat},yto f r i=some j→i≤j∧j<i+r∧f j=true
 | 0,i,j,h=>by cases h
 | r+1,i,j,h=>by
  rw [yto] at h
  cases hf:f i with
  | true =>
   rw [hf] at h
   have h:some i=some j:=h
   cases h
   exact ⟨by omega,by omega,hf⟩
  | false =>
   rw [hf] at h
   obtain ⟨h1,h2,h3⟩:=yFm (r:=r) (i:=i+1) h
   exact ⟨by omega,by omega,h3⟩
theorem ys2 {f:Nat→Nat→Bool} {n:Nat}:∀ {r i:Nat},ydp f n r i=none↔∀ a,i≤a→a<i+r→∀ b,b<n→f a b=false
 | 0,i=>⟨fun _ a h1 h2=>by omega,fun _=>rfl⟩
 | r+1,i=>by
  rw [ydp]
  cases hb:yto (f i) n 0 with
  | some j =>
   obtain ⟨_,h2,h3⟩:=yFm hb
   exact ⟨fun h=>by simp at h,fun h=>by have:=h i (by omega) (by omega) j (by omega);rw [h3] at this;cases this⟩
  | none =>
   show ydp f n r (i+1)=none↔_
   rw [ys2]
   constructor
   ·intro h a h1 h2 b h3
    by_cases ha:a=i
    ·subst ha;exact yFl.1 hb b (by omega) (by omega)
    ·exact h a (by omega) (by omega) b h3
   ·exact fun h a h1 h2 b h3=>h a (by omega) (by omega) b h3
end Go.Pf.Vc
namespace Go.Pf.Vc
open Go Go.Pf
def yRb (a b:Int):Int:=IntKind.u8.wrap (BitVec.ofInt IntKind.u8.bits a&&&BitVec.ofInt IntKind.u8.bits b).toNat
end Go.Pf.Vc
namespace Go.Pf.Vc
open Go Go.Pf
def InA (D:Int) (A:List (List RS)):Prop:=∀ a∈A,∀ s∈a,In D s.1∧In D s.2
end Go.Pf.Vc
