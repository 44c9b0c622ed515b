/- Part 4. -/
import Derived.Test.YtfclgjlabhkndaaGreatHtW3
noncomputable section
namespace Go.Pf.Vc
open Go Go.Pf
theorem yse (a b:Int) (K:Int→Prop):yc7 a b K=K (cmp3 a b):=by
 unfold yc7 yeb
 simp only [yfm,ye2,bne_self_eq_false,yab,cmp3]
 by_cases h:a<b
 ·simp [h,yag]
 ·by_cases h2:a>b
  ·simp [h,h2,yag,yab]
  ·simp [h,h2,yab]
theorem yHP {a b:Int} {K:Int→Prop} (h:K (if a=0 then b else a)):yhL [.int .i64 a,.int .i64 b] K:=by
 unfold yhL yjR
 refine ⟨3,?_⟩
 have e1:IntKind.i64.wrap 1=1:=by decide
 have e2:IntKind.i64.wrap 2=2:=by decide
 by_cases ha:a=0
 ·by_cases hb:b=0
  ·simp [ycL,yag,yab,yaH,conf,yme,yaa,e1,e2,ha,hb] at h ⊢;exact h
  ·have e3:(b != 0)=true:=by simpa using hb
   simp [ycL,yag,yab,yaH,conf,yme,yaa,e1,e2,ha,e3] at h ⊢;exact h
 ·have e3:(a != 0)=true:=by simpa using ha
  simp [ycL,yag,yab,yaH,conf,yme,yaa,e1,e2,ha,e3] at h ⊢;exact h
theorem ydD {a b c d:Int}:chk2 a b c d=0↔RV a b∧RV c d:=by
 unfold chk2 chk
 by_cases h1:RV a b <;> by_cases h2:RV c d <;> simp [h1,h2]
def cmpR (a b c d:Int):Int:=cmp3 (a*d) (c*b)
theorem yFB {x y:Int} (_:0≤x) (_:0≤y):(if cmp3 (x / 18446744073709551616) (y / 18446744073709551616)=0 then cmp3 (x % 18446744073709551616) (y % 18446744073709551616) else cmp3 (x / 18446744073709551616) (y / 18446744073709551616))=cmp3 x y:=by
 unfold cmp3
 split <;> rename_i h <;> revert h <;> repeat' split <;> intro h <;> omega
theorem U64.abs {n:Int} (h:I64 n):U64 ((n.natAbs:Nat):Int):=by unfold I64 at h;unfold U64;omega
theorem yGJ {a b c d:Int} (ha:I64 a) (hb:I64 b) (hc:I64 c) (hd:I64 d) {K:Int→Int→Prop} (h:K (if chk2 a b c d=0 then cmpR a b c d else 0) (chk2 a b c d)):yaS a b c d K:=by
 unfold yaS ylj
 refine ynN ha hb hc hd ?_
 by_cases hk:chk2 a b c d=0
 ·rw [if_pos hk] at h
  rw [hk] at h ⊢
  obtain ⟨⟨b1,b2,a1,a2,_⟩,d1,d2,c1,c2,_⟩:=ydD.1 hk
  simp only [bne_self_eq_false,yab]
  by_cases hs:decide (a<0)=decide (c<0)
  ·have e:(decide (a<0) != decide (c<0))=false:=by rw [hs];simp
   rw [e,yab,yg5 ha,wu64 ⟨by omega,by omega⟩,yiJ (U64.abs ha) ⟨by omega,by omega⟩,yg5 hc,wu64 ⟨by omega,by omega⟩,yiJ (U64.abs hc) ⟨by omega,by omega⟩,yse,yse]
   refine yHP ?_
   have p1:0≤((a.natAbs:Nat):Int)*d:=qA5 (by omega) (by omega)
   have p2:0≤((c.natAbs:Nat):Int)*b:=qA5 (by omega) (by omega)
   rw [yFB p1 p2]
   by_cases hneg:a<0
   ·have hcn:c<0:=by simpa [hneg] using hs.symm
    rw [decide_eq_true hneg,yag]
    have e1:((a.natAbs:Nat):Int)*d=-(a*d):=by
     rw [show ((a.natAbs:Nat):Int)=-a by omega,Int.neg_mul]
    have e2:((c.natAbs:Nat):Int)*b=-(c*b):=by
     rw [show ((c.natAbs:Nat):Int)=-c by omega,Int.neg_mul]
    have e3:IntKind.i64.wrap (0-cmp3 (((a.natAbs:Nat):Int)*d) (((c.natAbs:Nat):Int)*b))=cmpR a b c d:=by
     rw [e1,e2]
     unfold cmpR cmp3
     rw [wi64 (by unfold I64;repeat' split <;> omega)]
     repeat' split <;> omega
    rw [e3];exact h
   ·have hcn:¬c<0:=by simpa [hneg] using hs.symm
    rw [decide_eq_false hneg,yab,show ((a.natAbs:Nat):Int)=a by omega,show ((c.natAbs:Nat):Int)=c by omega]
    exact h
  ·have e:(decide (a<0) != decide (c<0))=true:=by simpa using hs
   rw [e,yag,yAQ]
   have e2:cmp3 a c=cmpR a b c d:=by
    unfold cmpR cmp3
    by_cases hneg:a<0
    ·have hcn:¬c<0:=by intro hcn;simp [hneg,hcn] at hs
     have q1:a*d<0:=qB8 hneg (by omega)
     have q2:0≤c*b:=qA5 (by omega) (by omega)
     rw [if_pos (by omega),if_pos (by omega)]
    ·have hcn:c<0:=by
      by_cases hcn:c<0
      ·exact hcn
      ·simp [hneg,hcn] at hs
     have q1:c*b<0:=qB8 hcn (by omega)
     have q2:0≤a*d:=qA5 (by omega) (by omega)
     rw [if_neg (by omega),if_pos (by omega),if_neg (by omega),if_pos (by omega)]
   rw [e2];exact h
 ·rw [if_neg hk] at h
  have e:(chk2 a b c d != 0)=true:=by simpa using hk
  rw [e,yag];exact h
def blen (x:Nat):Nat:=if x=0 then 0 else x.log2+1
theorem yEG (x:Nat):x<2 ^ blen x:=by
 unfold blen
 split
 ·rename_i h;subst h;decide
 ·exact Nat.lt_log2_self
theorem yvf {x:Nat} (h:x≠0):2 ^ (blen x-1)≤x:=by
 unfold blen
 rw [if_neg h]
 exact Nat.log2_self_le h
theorem yHQ {x m:Nat} (h1:2 ^ m≤x) (h2:x<2 ^ (m+1)):blen x=m+1:=by
 have hx:x≠0:=by have:=Nat.two_pow_pos m;omega
 unfold blen
 rw [if_neg hx]
 congr 1
 have a:=Nat.log2_self_le hx
 have b:=Nat.lt_log2_self (n:=x)
 have c1:¬(x.log2<m):=fun h=>by
  have:=Nat.pow_le_pow_right (show 0<2 by omega) (show x.log2+1≤m by omega)
  omega
 have c2:¬(m<x.log2):=fun h=>by
  have:=Nat.pow_le_pow_right (show 0<2 by omega) (show m+1≤x.log2 by omega)
  omega
 omega
theorem yGK {x k:Nat} (h:2 ^ k≤x):blen x=k+blen (x / 2 ^ k):=by
 have hp:=Nat.two_pow_pos k
 have hq:x / 2 ^ k≠0:=by
  have:=Nat.div_pos h hp
  omega
 have h1:=yvf hq
 have h2:=yEG (x / 2 ^ k)
 obtain ⟨m,hm⟩:∃ m,blen (x / 2 ^ k)=m+1:=⟨blen (x / 2 ^ k)-1,by
  have:blen (x / 2 ^ k)≠0:=by unfold blen;rw [if_neg hq];omega
  omega⟩
 rw [hm] at h1 h2 ⊢
 rw [Nat.add_sub_cancel] at h1
 have:=yHQ (x:=x) (m:=k+m) (by
   rw [Nat.pow_add]
   calc 2 ^ k*2 ^ m≤2 ^ k*(x / 2 ^ k):=Nat.mul_le_mul_left _ h1
    _≤x:=Nat.mul_div_le _ _) (by
   rw [show k+m+1=k+(m+1) by omega,Nat.pow_add]
   rw [Nat.mul_comm]
   exact (Nat.div_lt_iff_lt_mul hp).1 h2)
 omega
theorem yIS:∀ x:Nat,x<256→yaa (List.getD yfY x .nils)=(blen x:Int):=by decide +kernel
theorem wu8 {n:Int} (h0:0≤n) (h1:n<256):IntKind.u8.wrap n=n:=by
 have e1:(2:Int) ^ 8=256:=rfl
 simp only [IntKind.wrap,IntKind.signed,IntKind.bits,Bool.false_and,qAr,if_false,e1]
 omega
theorem yHR {n:Int} (h0:0≤n) (h1:n<256):yaa (List.getD yfY (IntKind.u8.wrap n).toNat .nils)=(blen n.toNat:Int):=by
 rw [wu8 h0 h1]
 exact yIS n.toNat (by omega)
theorem yJh {n:Nat} (h:n<256):blen n≤8:=by
 by_cases h0:n=0
 ·subst h0;decide
 ·have:=yvf h0
  have h2:blen n-1<8:=by
   refine Nat.lt_of_not_le fun hc=>?_
   have:=Nat.pow_le_pow_right (show 0<2 by omega) hc
   omega
  omega
theorem yum {n k:Int} (h0:0≤n) (h1:n<256) (hk:0≤k∧k≤56) {m:Int} (hm:m=k+blen n.toNat) {K:Int→Prop} (h:K m) :
  asr (decide ((0:Int)≤(IntKind.u8.wrap n))) (asr (decide ((IntKind.u8.wrap n)<(256:Int))) (K (IntKind.i64.wrap (k+(IntKind.i64.wrap (yaa (List.getD yfY ((IntKind.u8.wrap n).toNat) .nils))))))):=by
 have hb:=yJh (n:=n.toNat) (by omega)
 have e1:IntKind.i64.wrap (blen n.toNat:Int)=blen n.toNat:=wi64 (by unfold I64;omega)
 have e2:IntKind.i64.wrap (k+blen n.toNat:Int)=k+blen n.toNat:=wi64 (by unfold I64;omega)
 rw [yHR h0 h1,wu8 h0 h1,decide_eq_true h0,yaH,decide_eq_true h1,yaH,e1,e2,← hm]
 exact h
theorem yun (p q:Int) (hq:0≤q):Int.fdiv p q=p / q:=Int.fdiv_eq_ediv_of_nonneg _ hq
theorem yCx {p:Int} (hp:U64 p) {K:Int→Prop} (h:K (blen p.toNat:Int)):ygF p K:=by
 unfold U64 at hp
 unfold ygF ypY
 simp only [yun _ 4294967296 (by omega),yun _ 65536 (by omega),yun _ 256 (by omega)]
 have key:∀ (k:Nat) (q:Int),2 ^ k≤p.toNat→q=p / (2 ^ k:Nat)→(blen p.toNat:Int)=k+blen q.toNat:=by
  intro k q hk hq
  have e:q.toNat=p.toNat / 2 ^ k:=by
   rw [hq]
   obtain ⟨m,rfl⟩:∃ m:Nat,p=m:=⟨p.toNat,by omega⟩
   rw [← qAx,qAg,qAg]
  rw [e]
  have:=yGK hk
  omega
 by_cases h1:p≥4294967296
 ·rw [decide_eq_true h1,yag]
  by_cases h2:p / 4294967296≥65536
  ·rw [decide_eq_true h2,yag]
   by_cases h3:p / 4294967296 / 65536≥256
   ·rw [decide_eq_true h3,yag]
    exact yum (by omega) (by omega) (by omega) (key 56 _ (by omega) (by omega)) h
   ·rw [decide_eq_false h3,yab]
    exact yum (by omega) (by omega) (by omega) (key 48 _ (by omega) (by omega)) h
  ·rw [decide_eq_false h2,yab]
   by_cases h3:p / 4294967296≥256
   ·rw [decide_eq_true h3,yag]
    exact yum (by omega) (by omega) (by omega) (key 40 _ (by omega) (by omega)) h
   ·rw [decide_eq_false h3,yab]
    exact yum (by omega) (by omega) (by omega) (key 32 _ (by omega) (by omega)) h
 ·rw [decide_eq_false h1,yab]
  by_cases h2:p≥65536
  ·rw [decide_eq_true h2,yag]
   by_cases h3:p / 65536≥256
   ·rw [decide_eq_true h3,yag]
    exact yum (by omega) (by omega) (by omega) (key 24 _ (by omega) (by omega)) h
   ·rw [decide_eq_false h3,yab]
    exact yum (by omega) (by omega) (by omega) (key 16 _ (by omega) (by omega)) h
  ·rw [decide_eq_false h2,yab]
   by_cases h3:p≥256
   ·rw [decide_eq_true h3,yag]
    exact yum (by omega) (by omega) (by omega) (key 8 _ (by omega) (by omega)) h
   ·rw [decide_eq_false h3,yab]
    exact yum (by omega) (by omega) (by omega) (by simp) h
theorem ysf {p:Int} (hp:U64 p) {K:Int→Prop} (h:K (64-blen p.toNat:Int)):ybB p K:=by
 unfold ybB ye3
 refine yCx hp ?_
 have hb:blen p.toNat≤64:=by
  unfold U64 at hp
  by_cases h0:p.toNat=0
  ·rw [h0];decide
  ·have:=yvf h0
   have h2:blen p.toNat-1<64:=by
    refine Nat.lt_of_not_le fun hc=>?_
    have:=Nat.pow_le_pow_right (show 0<2 by omega) hc
    omega
   omega
 rw [wi64 (by unfold I64;omega)]
 exact h
structure DI (y a b u un q r:Int):Prop where
 hy:y=a*4294967296+b
 h1:2147483648≤a∧a≤4294967295
 h0:0≤b∧b≤4294967295
 hn:0≤un∧un≤4294967295
 hu:q*a+r=u
 hq:0≤q∧q≤4294967297
 hr:0≤r∧r≤4294967295
 hlt:u<y
 hU:u*4294967296+un<(q+1)*y
def DG (y u un q:Int):Prop:=0≤q∧q≤4294967295∧q*y≤u*4294967296+un∧u*4294967296+un<(q+1)*y
theorem DI.step {y a b u un q r:Int} (h:DI y a b u un q r) {A B C:Prop}
  (hA:DG y u un (q-1)→0≤q-1→q-1≤4294967296→A)
  (hB:DI y a b u un (q-1) (r+a)→B)
  (hC:DG y u un q→C) :
  cbr (decide (q≥(4294967296:Int)))
   (cbr (decide ((IntKind.u64.wrap (r+a))≥(4294967296:Int))) A B)
   (cbr (decide ((IntKind.u64.wrap (q*b))>(IntKind.u64.wrap ((IntKind.u64.wrap ((4294967296:Int)*r))+un))))
    (cbr (decide ((IntKind.u64.wrap (r+a))≥(4294967296:Int))) A B) C):=by
 have h':=h
 obtain ⟨hy,h1,h0,hn,hu,hq,hr,hlt,hU⟩:=h
 have e1:IntKind.u64.wrap (r+a)=r+a:=wu64 ⟨by omega,by omega⟩
 have eq1:q*y=q*a*4294967296+q*b:=by rw [hy];grind
 have eq2:(q-1)*y=q*y-y:=by grind
 have eq3:(q-1)*a=q*a-a:=by grind
 have eq4:(q-1+1)*y=q*y:=by grind
 have eq5:(q-1)*b=q*b-b:=by grind
 have big:u*4294967296+un<q*y→cbr (decide ((IntKind.u64.wrap (r+a))≥(4294967296:Int))) A B:=by
  intro hb
  have q1:0≤q-1:=by
   refine Int.not_lt.1 fun hc=>?_
   have hq0:q=0:=by omega
   subst hq0
   simp at hb hu
   omega
  rw [e1]
  by_cases hc:r+a≥4294967296
  ·rw [decide_eq_true hc,yag]
   have hp:(q-1)*b≤4294967296*4294967295:=Int.mul_le_mul (by omega) h0.2 h0.1 (by omega)
   have hle:(q-1)*y≤u*4294967296+un:=by
    have:(q-1)*y=(q-1)*a*4294967296+(q-1)*b:=by rw [hy];grind
    omega
   have hlt32:q-1≤4294967295:=by
    refine Int.not_lt.1 fun hc=>?_
    have:4294967296*y≤(q-1)*y:=qAo (by omega) (by omega)
    omega
   exact hA ⟨q1,hlt32,hle,by rw [eq4];exact hb⟩ q1 (by omega)
  ·rw [decide_eq_false hc,yab]
   exact hB ⟨hy,h1,h0,hn,by rw [eq3];omega,⟨q1,by omega⟩,⟨by omega,by omega⟩,hlt,by rw [eq4];exact hb⟩
 by_cases ha:q≥4294967296
 ·rw [decide_eq_true ha,yag]
  refine big ?_
  have:4294967296*y≤q*y:=qAo (by omega) (by omega)
  omega
 ·rw [decide_eq_false ha,yab]
  have hp:q*b≤4294967295*4294967295:=Int.mul_le_mul (by omega) h0.2 h0.1 (by omega)
  have hp0:0≤q*b:=qA5 hq.1 h0.1
  have w1:IntKind.u64.wrap (q*b)=q*b:=wu64 ⟨hp0,by omega⟩
  have w2:IntKind.u64.wrap ((4294967296:Int)*r)=4294967296*r:=wu64 ⟨by omega,by omega⟩
  have w3:IntKind.u64.wrap ((4294967296:Int)*r+un)=4294967296*r+un:=wu64 ⟨by omega,by omega⟩
  rw [w1,w2,w3]
  by_cases hb:q*b>4294967296*r+un
  ·rw [decide_eq_true hb,yag]
   exact big (by omega)
  ·rw [decide_eq_false hb,yab]
   exact hC ⟨hq.1,by omega,by omega,hU⟩
theorem yJi (W:Int→(Int→Prop)→Prop) {y a c u un:Int} (s v un0:Int) {x0 x1:Int→Int→Int→Int→Int→Int→Int→Int→Int→Bool→Prop}
  (hx:∀ q r b,DG y u un q→x0 y s a c v un un0 q r b) (hx1:∀ q r b,DG y u un q→x1 y s a c v un un0 q r b) :
  ∀ (n:Nat) (q r:Int) (b:Bool),DI y a c u un q r→4294967296≤r+n*2147483648→ycH W x0 x1 (n+1) y s a c v un un0 q r b:=by
 intro n
 induction n with
 | zero =>
  intro q r b h hn
  have:=h.hr.2
  exact absurd hn (by omega)
 | succ n ih =>
  intro q r b h hn
  unfold ycH
  refine h.step (fun g a1 a2=>?_) (fun g=>?_) (fun g=>hx1 _ _ _ g)
  ·rw [wu64 (n:=q-1) ⟨by omega,by omega⟩]
   exact hx _ _ _ g
  ·have e1:IntKind.u64.wrap (q-1)=q-1:=wu64 ⟨g.hq.1,by have:=g.hq.2;omega⟩
   have e2:IntKind.u64.wrap (r+a)=r+a:=wu64 ⟨g.hr.1,by have:=g.hr.2;omega⟩
   rw [e1,e2]
   exact ih _ _ _ g (by have:=h.h1.1;omega)
theorem yJj (W:Int→(Int→Prop)→Prop) {y a c u un:Int} (s q1 v:Int) {x0 x1:Int→Int→Int→Int→Int→Int→Int→Int→Int→Bool→Prop}
  (hx:∀ q r b,DG y u un q→x0 y s a c un q1 r v q b) (hx1:∀ q r b,DG y u un q→x1 y s a c un q1 r v q b) :
  ∀ (n:Nat) (q r:Int) (b:Bool),DI y a c u un q r→4294967296≤r+n*2147483648→ycI W x0 x1 (n+1) y s a c un q1 r v q b:=by
 intro n
 induction n with
 | zero =>
  intro q r b h hn
  have:=h.hr.2
  exact absurd hn (by omega)
 | succ n ih =>
  intro q r b h hn
  unfold ycI
  refine h.step (fun g a1 a2=>?_) (fun g=>?_) (fun g=>hx1 _ _ _ g)
  ·rw [wu64 (n:=q-1) ⟨by omega,by omega⟩]
   exact hx _ _ _ g
  ·have e1:IntKind.u64.wrap (q-1)=q-1:=wu64 ⟨g.hq.1,by have:=g.hq.2;omega⟩
   have e2:IntKind.u64.wrap (r+a)=r+a:=wu64 ⟨g.hr.1,by have:=g.hr.2;omega⟩
   rw [e1,e2]
   exact ih _ _ _ g (by have:=h.h1.1;omega)
theorem yIT (W:Int→(Int→Prop)→Prop) {y a c u un:Int} (s v un0:Int) {x0 x1:Int→Int→Int→Int→Int→Int→Int→Int→Int→Bool→Prop}
  (hx:∀ q r b,DG y u un q→x0 y s a c v un un0 q r b) (hx1:∀ q r b,DG y u un q→x1 y s a c v un un0 q r b) (q r:Int) (h:DI y a c u un q r):yg0 W x0 x1 3 y s a c v un un0 q r:=by
 have:=yJi W s v un0 hx hx1 2 q r true h (by have:=h.hr.1;omega)
 unfold ycH at this
 unfold yg0
 exact this
theorem yIU (W:Int→(Int→Prop)→Prop) {y a c u un:Int} (s q1 v:Int) {x0 x1:Int→Int→Int→Int→Int→Int→Int→Int→Int→Bool→Prop}
  (hx:∀ q r b,DG y u un q→x0 y s a c un q1 r v q b) (hx1:∀ q r b,DG y u un q→x1 y s a c un q1 r v q b) (q r:Int) (h:DI y a c u un q r):yd6 W x0 x1 3 y s a c un q1 r v q:=by
 have:=yJj W s q1 v hx hx1 2 q r true h (by have:=h.hr.1;omega)
 unfold ycI at this
 unfold yd6
 exact this
theorem DI.init {y a b u un:Int} (hy:y=a*4294967296+b) (h1:2147483648≤a∧a≤4294967295) (h0:0≤b∧b≤4294967295) (hn:0≤un∧un≤4294967295)
  (hu:0≤u) (hlt:u<y):DI y a b u un (u / a) (u-u / a*a):=by
 have a1:=Int.mul_ediv_add_emod u a
 have a2:=Int.emod_nonneg u (show a≠0 by omega)
 have a3:=Int.emod_lt_of_pos u (show 0<a by omega)
 have a4:u / a*a=a*(u / a):=Int.mul_comm _ _
 have a5:0≤u / a:=Int.ediv_nonneg hu (by omega)
 have a6:u / a≤4294967297:=by
  refine Int.not_lt.1 fun hc=>?_
  have:a*4294967298≤a*(u / a):=Int.mul_le_mul_of_nonneg_left (by omega) (by omega)
  omega
 refine ⟨hy,h1,h0,hn,by omega,⟨a5,a6⟩,⟨by omega,by omega⟩,hlt,?_⟩
 have e:(u / a+1)*y=a*(u / a)*4294967296+a*4294967296+(u / a+1)*b:=by
  obtain ⟨t,ht⟩:∃ t,t=u / a:=⟨_,rfl⟩
  rw [← ht,hy];grind
 have:0≤(u / a+1)*b:=qA5 (by omega) h0.1
 omega
theorem yGL {a b:Int} {k:Nat} (ha:0≤a) (hb:0≤b∧b<2 ^ k) (hab:a*2 ^ k≤18446744073709551615∧b≤18446744073709551615) (hs:a*2 ^ k+b≤18446744073709551615) :
  IntKind.u64.wrap (BitVec.ofInt IntKind.u64.bits (a*2 ^ k)|||BitVec.ofInt IntKind.u64.bits b).toNat=a*2 ^ k+b:=by
 obtain ⟨x,rfl⟩:∃ x:Nat,a=x:=⟨a.toNat,by omega⟩
 obtain ⟨z,rfl⟩:∃ z:Nat,b=z:=⟨b.toNat,by omega⟩
 have ec:((x:Int)*2 ^ k)=((2 ^ k*x:Nat):Int):=by push_cast;exact Int.mul_comm _ _
 rw [ec] at hab hs ⊢
 have hz:z<2 ^ k:=by have:=hb.2;exact_mod_cast this
 have e:(BitVec.ofInt IntKind.u64.bits ((2 ^ k*x:Nat):Int)|||BitVec.ofInt IntKind.u64.bits (z:Int)).toNat=2 ^ k*x+z:=by
  show (BitVec.ofInt 64 ((2 ^ k*x:Nat):Int)|||BitVec.ofInt 64 (z:Int)).toNat=_
  rw [BitVec.toNat_or,BitVec.toNat_ofInt,BitVec.toNat_ofInt]
  have e1:(((2 ^ k*x:Nat):Int) % (2 ^ 64:Nat)).toNat=2 ^ k*x:=by omega
  have e2:((z:Int) % (2 ^ 64:Nat)).toNat=z:=by omega
  rw [e1,e2,Nat.two_pow_add_eq_or_of_lt hz]
 rw [e,wu64 ⟨by omega,by omega⟩]
 push_cast;rfl
theorem yEH {u un q y:Int} (h0:0≤u*4294967296+un-q*y) (h1:u*4294967296+un-q*y≤18446744073709551615) :
  IntKind.u64.wrap (IntKind.u64.wrap (IntKind.u64.wrap (u*4294967296)+un)-IntKind.u64.wrap (q*y))=u*4294967296+un-q*y:=by
 simp only [yhx]
 omega
theorem ykN {a b:Int} (h:0≤a):Int.tdiv a b=a / b:=Int.tdiv_eq_ediv_of_nonneg h
theorem yIm {a b:Int} (h:0≤a):Int.tmod a b=a % b:=Int.tmod_eq_emod_of_nonneg h
theorem yCy {h l y:Int} (hh:U64 h) (hl:U64 l) (hy:U64 y) (hlt:h<y) {K:Int→Int→Prop}
  (k:K ((h*18446744073709551616+l) / y) ((h*18446744073709551616+l) % y)):yfC h l y K:=by
 unfold U64 at hh hl hy
 unfold yfC yp1
 have b1:(y ==(0:Int))=false:=beq_eq_false_iff_ne.2 (by omega)
 have b2:decide (y≤h)=false:=decide_eq_false (by omega)
 have b3:(!(decide (y=(0:Int))))=true:=by rw [decide_eq_false (by omega)];rfl
 rw [b1,yab,b2,yab,b3]
 by_cases h0:h=0
 ·subst h0
  have:((0:Int) == 0)=true:=rfl
  rw [this,yag,yaH,yaH,ykN hl.1,yIm hl.1]
  have e:(0:Int)*18446744073709551616+l=l:=by omega
  rw [e] at k
  have b4:l / y≤l:=Int.ediv_le_self _ hl.1
  rw [wu64 ⟨Int.ediv_nonneg hl.1 (by omega),by omega⟩]
  exact k
 ·have b4:(h ==(0:Int))=false:=beq_eq_false_iff_ne.2 h0
  rw [b4,yab]
  refine ysf ⟨by omega,by omega⟩ ?_
  have hyn:y.toNat≠0:=by omega
  have c1:=yEG y.toNat
  have c2:=yvf hyn
  have c3:blen y.toNat≤64:=by
   refine Nat.le_of_not_lt fun hc=>?_
   have:=Nat.pow_le_pow_right (show 0<2 by omega) (show 64≤blen y.toNat-1 by omega)
   omega
  have c4:1≤blen y.toNat:=by
   refine Nat.le_of_not_lt fun hc=>?_
   have:blen y.toNat=0:=by omega
   rw [this] at c1
   omega
  obtain ⟨m,hm⟩:∃ m,m=64-blen y.toNat:=⟨_,rfl⟩
  have es:(64-(blen y.toNat:Int))=(m:Int):=by omega
  rw [es]
  have m63:m≤63:=by omega
  have e1:IntKind.u64.wrap (m:Int)=m:=wu64 ⟨by omega,by omega⟩
  have e2:IntKind.u64.wrap ((64:Int)-m)=((64-m:Nat):Int):=by
   rw [wu64 ⟨by omega,by omega⟩];omega
  have e3:min ((m:Int)).toNat IntKind.u64.bits=m:=by
   show min ((m:Int)).toNat 64=m
   rw [qAg];omega
  have e4:min (((64-m:Nat):Int)).toNat IntKind.u64.bits=64-m:=by
   show min (((64-m:Nat):Int)).toNat 64=64-m
   rw [qAg];omega
  simp only [e1]
  rw [e2,e3,e4]
  have p64:(2:Int) ^ (64-m)*2 ^ m=18446744073709551616:=by
   rw [← Int.pow_add,show 64-m+m=64 by omega];rfl
  have p63:(2:Int) ^ (63-m)*2 ^ m=9223372036854775808:=by
   rw [← Int.pow_add,show 63-m+m=63 by omega];rfl
  have tp:(0:Int)<2 ^ m:=Int.pow_pos (by omega)
  have tp':(0:Int)<2 ^ (64-m):=Int.pow_pos (by omega)
  have y1:y<(2:Int) ^ (64-m):=by
   have:blen y.toNat=64-m:=by omega
   rw [this] at c1
   have c1':((y.toNat:Nat):Int)<((2 ^ (64-m):Nat):Int):=by exact_mod_cast c1
   push_cast at c1'
   omega
  have y2:(2:Int) ^ (63-m)≤y:=by
   have:blen y.toNat-1=63-m:=by omega
   rw [this] at c2
   have c2':((2 ^ (63-m):Nat):Int)≤((y.toNat:Nat):Int):=by exact_mod_cast c2
   push_cast at c2'
   omega
  have Y1:y*2 ^ m<18446744073709551616:=by
   have:=Int.mul_lt_mul_of_pos_right y1 tp
   omega
  have Y2:9223372036854775808≤y*2 ^ m:=by
   have:=qAo y2 (show (0:Int)≤2 ^ m by omega)
   omega
  have H1:(h+1)*2 ^ m≤y*2 ^ m:=qAo (by omega) (by omega)
  have H2:(h+1)*2 ^ m=h*2 ^ m+2 ^ m:=by grind
  have H0:0≤h*2 ^ m:=qA5 hh.1 (by omega)
  have fd:Int.fdiv l (2 ^ (64-m))=l / 2 ^ (64-m):=yun _ _ (by omega)
  have L1:=Int.mul_ediv_add_emod l (2 ^ (64-m))
  have L2:=Int.emod_nonneg l (show (2:Int) ^ (64-m)≠0 by omega)
  have L3:=Int.emod_lt_of_pos l tp'
  have L4:0≤l / 2 ^ (64-m):=Int.ediv_nonneg hl.1 (by omega)
  have L5:l / 2 ^ (64-m)<2 ^ m:=by
   refine Int.ediv_lt_of_lt_mul tp' ?_
   rw [Int.mul_comm,p64];omega
  have w1:IntKind.u64.wrap (y*2 ^ m)=y*2 ^ m:=wu64 ⟨by omega,by omega⟩
  have w2:IntKind.u64.wrap (h*2 ^ m)=h*2 ^ m:=wu64 ⟨by omega,by omega⟩
  have w3:IntKind.u64.wrap (BitVec.ofInt IntKind.u64.bits (h*2 ^ m)|||BitVec.ofInt IntKind.u64.bits (l / 2 ^ (64-m))).toNat=h*2 ^ m+l / 2 ^ (64-m) :=
   yGL hh.1 ⟨L4,L5⟩ ⟨by omega,by omega⟩ (by omega)
  have w4:IntKind.u64.wrap (l*2 ^ m)=l % 2 ^ (64-m)*2 ^ m:=by
   have e:l*2 ^ m=(l / 2 ^ (64-m))*18446744073709551616+l % 2 ^ (64-m)*2 ^ m:=by
    rw [← p64]
    obtain ⟨a,ha⟩:∃ a,a=l / 2 ^ (64-m):=⟨_,rfl⟩
    obtain ⟨b,hb⟩:∃ b,b=l % 2 ^ (64-m):=⟨_,rfl⟩
    obtain ⟨t,ht⟩:∃ t,t=(2:Int) ^ m:=⟨_,rfl⟩
    obtain ⟨t',ht'⟩:∃ t,t=(2:Int) ^ (64-m):=⟨_,rfl⟩
    rw [← ha,← hb,← ht'] at L1
    rw [← ha,← hb,← ht,← ht']
    rw [← L1];grind
   have e5:l % 2 ^ (64-m)*2 ^ m<18446744073709551616:=by
    rw [← p64];exact Int.mul_lt_mul_of_pos_right L3 tp
   have e6:0≤l % 2 ^ (64-m)*2 ^ m:=qA5 L2 (by omega)
   rw [e,yhx];omega
  have e5:l % 2 ^ (64-m)*2 ^ m<18446744073709551616:=by
   rw [← p64];exact Int.mul_lt_mul_of_pos_right L3 tp
  have e6:0≤l % 2 ^ (64-m)*2 ^ m:=qA5 L2 (by omega)
  have eN:(h*18446744073709551616+l)*2 ^ m=(h*2 ^ m+l / 2 ^ (64-m))*18446744073709551616+l % 2 ^ (64-m)*2 ^ m:=by
   rw [← p64]
   obtain ⟨a,ha⟩:∃ a,a=l / 2 ^ (64-m):=⟨_,rfl⟩
   obtain ⟨b,hb⟩:∃ b,b=l % 2 ^ (64-m):=⟨_,rfl⟩
   obtain ⟨t,ht⟩:∃ t,t=(2:Int) ^ m:=⟨_,rfl⟩
   obtain ⟨t',ht'⟩:∃ t,t=(2:Int) ^ (64-m):=⟨_,rfl⟩
   rw [← ha,← hb,← ht'] at L1
   rw [← ha,← hb,← ht,← ht']
   rw [← L1];grind
  have U1:h*2 ^ m+l / 2 ^ (64-m)<y*2 ^ m:=by omega
  have U0:0≤h*2 ^ m+l / 2 ^ (64-m):=by omega
  rw [fd,w1,w2,w3,w4]
  have b5:(!(decide ((m:Int)<0)))=true:=by rw [decide_eq_false (by omega)];rfl
  have b6:(!(decide (((64-m:Nat):Int)<0)))=true:=by rw [decide_eq_false (by omega)];rfl
  rw [b5,b6,yaH,yaH,yaH,yaH]
  generalize h*2 ^ m+l / 2 ^ (64-m)=u at *
  generalize hl0:l % 2 ^ (64-m)*2 ^ m=v at *
  generalize hY:y*2 ^ m=Y at *
  rw [yun Y _ (by omega),yun v _ (by omega),ylW ⟨by omega,by omega⟩,ylW ⟨by omega,by omega⟩,ykN U0]
  have b7:(!(decide (Y / 4294967296=(0:Int))))=true:=by rw [decide_eq_false (by omega)];rfl
  rw [b7,yaH]
  obtain ⟨c,hyn1⟩:∃ a,a=Y / 4294967296:=⟨_,rfl⟩
  obtain ⟨d,hyn0⟩:∃ a,a=Y % 4294967296:=⟨_,rfl⟩
  obtain ⟨un1,hun1⟩:∃ a,a=v / 4294967296:=⟨_,rfl⟩
  obtain ⟨un0,hun0⟩:∃ a,a=v % 4294967296:=⟨_,rfl⟩
  rw [← hyn1,← hyn0,← hun1,← hun0]
  have d1:2147483648≤c∧c≤4294967295:=by omega
  have d0:0≤d∧d≤4294967295:=by omega
  have dn1:0≤un1∧un1≤4294967295:=by omega
  have dn0:0≤un0∧un0≤4294967295:=by omega
  have dY:Y=c*4294967296+d:=by omega
  have g1:=DI.init dY d1 d0 dn1 U0 U1
  have x1:IntKind.u64.wrap (u / c)=u / c:=wu64 ⟨g1.hq.1,by have:=g1.hq.2;omega⟩
  have x2:IntKind.u64.wrap (u-IntKind.u64.wrap (u / c*c))=u-u / c*c:=by
   have r1:=g1.hr.1
   have r2:0≤u / c*c:=qA5 g1.hq.1 (by omega)
   have r3:=g1.hr.2
   rw [wu64 (n:=u / c*c) ⟨r2,by omega⟩,wu64 ⟨r1,by omega⟩]
  rw [x1,x2]
  have fin:∀ q1:Int,DG Y u un1 q1→∀ (un21:Int),un21=u*4294967296+un1-q1*Y→∀ q0,DG Y un21 un0 q0 →
    K (IntKind.u64.wrap ((IntKind.u64.wrap (q1*(4294967296:Int)))+q0)) (Int.fdiv (IntKind.u64.wrap ((IntKind.u64.wrap ((IntKind.u64.wrap (un21*(4294967296:Int)))+un0))-(IntKind.u64.wrap (q0*Y)))) (2 ^ (min ((m:Int)).toNat IntKind.u64.bits))):=by
   intro q1 G1 un21 e21 q0 G0
   obtain ⟨a1,a2,a3,a4⟩:=G1
   obtain ⟨c1,c2,c3,c4⟩:=G0
   have s1:(q1+1)*Y=q1*Y+Y:=by grind
   have s0:(q0+1)*Y=q0*Y+Y:=by grind
   have w5:IntKind.u64.wrap (q1*4294967296)=q1*4294967296:=wu64 ⟨by omega,by omega⟩
   have w6:IntKind.u64.wrap (q1*4294967296+q0)=q1*4294967296+q0:=wu64 ⟨by omega,by omega⟩
   rw [yEH (by omega) (by omega),w5,w6,e3,yun _ _ (by omega)]
   have eT:un21*4294967296+un0-q0*Y=(h*18446744073709551616+l-(q1*4294967296+q0)*y)*2 ^ m:=by
    have f1:(q1*4294967296+q0)*Y=q1*Y*4294967296+q0*Y:=by grind
    have f2:(h*18446744073709551616+l-(q1*4294967296+q0)*y)*2 ^ m=(h*18446744073709551616+l)*2 ^ m-(q1*4294967296+q0)*Y:=by
     rw [← hY,Int.sub_mul,Int.mul_assoc (q1*4294967296+q0)]
    rw [f2,f1,eN]
    omega
   rw [eT,Int.mul_ediv_cancel _ (by omega)]
   have r0:0≤h*18446744073709551616+l-(q1*4294967296+q0)*y:=by
    refine Int.not_lt.1 fun hc=>?_
    have:=qB8 hc tp
    omega
   have r1:h*18446744073709551616+l-(q1*4294967296+q0)*y<y:=by
    refine Int.not_le.1 fun hc=>?_
    have:=qAo hc (show (0:Int)≤2 ^ m by omega)
    omega
   obtain ⟨Q,hQ⟩:∃ Q,Q=q1*4294967296+q0:=⟨_,rfl⟩
   rw [← hQ] at r0 r1 ⊢
   have z1:(h*18446744073709551616+l) / y=Q:=by
    have:h*18446744073709551616+l=(h*18446744073709551616+l-Q*y)+Q*y:=by omega
    rw [this,Int.add_mul_ediv_right _ _ (by omega),Int.ediv_eq_zero_of_lt r0 r1];omega
   have z2:(h*18446744073709551616+l) % y=h*18446744073709551616+l-Q*y:=by
    have:=Int.mul_ediv_add_emod (h*18446744073709551616+l) y
    rw [z1,Int.mul_comm] at this
    omega
   rw [z1,z2] at k
   exact k
  have mid:∀ q:Int,DG Y u un1 q→∀ (X:Int→Int→Int→Int→Int→Int→Int→Int→Int→Bool→Prop),(∀ q0 r0 b0,DG Y (u*4294967296+un1-q*Y) un0 q0→X Y m c d un0 q r0 (u*4294967296+un1-q*Y) q0 b0) →
    asr (!(decide (c=(0:Int)))) (∃ n:Nat,yd6 ybB X X n Y m c d un0 q ((IntKind.u64.wrap ((IntKind.u64.wrap ((IntKind.u64.wrap ((IntKind.u64.wrap (u*(4294967296:Int)))+un1))-(IntKind.u64.wrap (q*Y))))-(IntKind.u64.wrap ((IntKind.u64.wrap (Int.tdiv (IntKind.u64.wrap ((IntKind.u64.wrap ((IntKind.u64.wrap (u*(4294967296:Int)))+un1))-(IntKind.u64.wrap (q*Y)))) c))*c))))) (IntKind.u64.wrap ((IntKind.u64.wrap ((IntKind.u64.wrap (u*(4294967296:Int)))+un1))-(IntKind.u64.wrap (q*Y)))) (IntKind.u64.wrap (Int.tdiv (IntKind.u64.wrap ((IntKind.u64.wrap ((IntKind.u64.wrap (u*(4294967296:Int)))+un1))-(IntKind.u64.wrap (q*Y)))) c))):=by
   intro q G X hX
   obtain ⟨a1,a2,a3,a4⟩:=G
   have s1:(q+1)*Y=q*Y+Y:=by grind
   have b8:(!(decide (c=(0:Int))))=true:=by rw [decide_eq_false (by omega)];rfl
   rw [b8,yaH,yEH (by omega) (by omega),ykN (by omega)]
   have g0:=DI.init dY d1 d0 dn0 (u:=u*4294967296+un1-q*Y) (by omega) (by omega)
   generalize u*4294967296+un1-q*Y=u2 at *
   have x1:IntKind.u64.wrap (u2 / c)=u2 / c:=wu64 ⟨g0.hq.1,by have:=g0.hq.2;omega⟩
   have x2:IntKind.u64.wrap (u2-IntKind.u64.wrap (u2 / c*c))=u2-u2 / c*c:=by
    have r1:=g0.hr.1
    have r2:0≤u2 / c*c:=qA5 g0.hq.1 (by omega)
    have r3:=g0.hr.2
    have r4:=g0.hlt
    rw [wu64 (n:=u2 / c*c) ⟨r2,by omega⟩,wu64 ⟨r1,by omega⟩]
   rw [x1,x2]
   exact ⟨3,yIU _ _ _ _ (fun q0 r0 b0 g=>hX q0 r0 b0 g) (fun q0 r0 b0 g=>hX q0 r0 b0 g) _ _ g0⟩
  have leaf:∀ {P:Prop},P→asr (!(decide ((m:Int)<0))) P:=fun p=>by rw [b5,yaH];exact p
  refine ⟨3,yIT _ _ _ _ (fun q r b G=>?_) (fun q r b G=>?_) _ _ g1⟩
  ·exact mid q G _ (fun q0 r0 b0 G0=>leaf (fin q G _ rfl q0 G0))
  ·exact mid q G _ (fun q0 r0 b0 G0=>leaf (fin q G _ rfl q0 G0))
theorem yGM {h l y:Int} (hh:U64 h) (hl:U64 l) (hy:U64 y) (h0:0<y) {K:Int→Prop}
  (k:K ((h*18446744073709551616+l) % y)):ygG h l y K:=by
 unfold ygG yp3
 have b3:(!(decide (y=(0:Int))))=true:=by rw [decide_eq_false (by omega)];rfl
 have a1:=Int.emod_nonneg h (show y≠0 by omega)
 have a2:=Int.emod_lt_of_pos h h0
 have hh':=hh
 unfold U64 at hh hy
 rw [b3,yaH,yIm hh.1]
 refine yCy ⟨a1,by omega⟩ hl ⟨by omega,by omega⟩ a2 ?_
 have e:(h % y*18446744073709551616+l) % y=(h*18446744073709551616+l) % y:=by
  rw [Int.add_emod,Int.mul_emod,Int.emod_emod,← Int.mul_emod,← Int.add_emod]
 rw [e]
 exact k
def outS (s:Bool) (a b:Int) (K:Int→Int→Int→Prop):Prop :=
 if a≤1000000000000000000∧b≤1000000000000000000 then K (if s then -a else a) b 0 else K 0 0 16
theorem yof {s:Bool} {a b:Int} (ha:0≤a) (hb:0≤b) (K:Int→Int→Int→Prop):yca s a b K=outS s a b K:=by
 unfold yca yhk outS
 by_cases h:a≤1000000000000000000∧b≤1000000000000000000
 ·have e:decide ((if b>a then b else a)>(1000000000000000000:Int))=false:=by
   refine decide_eq_false ?_
   split <;> omega
  have w1:IntKind.i64.wrap a=a:=wi64 ⟨by omega,by omega⟩
  have w2:IntKind.i64.wrap b=b:=wi64 ⟨by omega,by omega⟩
  have w3:IntKind.i64.wrap (0-a)=-a:=by rw [wi64 ⟨by omega,by omega⟩];omega
  rw [e,yab,if_pos h,w1,w2,w3]
  cases s
  ·rfl
  ·rfl
 ·have e:decide ((if b>a then b else a)>(1000000000000000000:Int))=true:=by
   refine decide_eq_true ?_
   split <;> omega
  rw [e,yag,if_neg h]
theorem yHS {n d:Int} (hn:I64 n) (hd:I64 d) {K:Int→Int→Int→Prop}
  (k:if d=0 then K 0 0 18 else outS (decide (n<0) != decide (d<0)) ((n.natAbs / Nat.gcd n.natAbs d.natAbs:Nat):Int) ((d.natAbs / Nat.gcd n.natAbs d.natAbs:Nat):Int) K):yaN n d K:=by
 unfold yaN yjT
 by_cases h:d=0
 ·rw [if_pos h] at k
  have:(d ==(0:Int))=true:=beq_iff_eq.2 h
  rw [this,yag]
  exact k
 ·rw [if_neg h] at k
  have:(d ==(0:Int))=false:=beq_eq_false_iff_ne.2 h
  rw [this,yab,yg5 hn,yg5 hd]
  refine ytA _ _ _ ?_
  have gp:0<Nat.gcd n.natAbs d.natAbs:=qBd _ (by omega)
  have b3:(!(decide (((Nat.gcd n.natAbs d.natAbs:Nat):Int)=(0:Int))))=true:=by rw [decide_eq_false (by omega)];rfl
  unfold I64 at hn hd
  have u1:n.natAbs / Nat.gcd n.natAbs d.natAbs≤n.natAbs:=qBa _ _
  have u2:d.natAbs / Nat.gcd n.natAbs d.natAbs≤d.natAbs:=qBa _ _
  rw [b3,yaH,yaH,ykN (by omega),ykN (by omega),← qAx,← qAx]
  generalize n.natAbs / Nat.gcd n.natAbs d.natAbs=A at *
  generalize d.natAbs / Nat.gcd n.natAbs d.natAbs=B at *
  rw [wu64 (n:=(A:Int)) ⟨by omega,by omega⟩,wu64 (n:=(B:Int)) ⟨by omega,by omega⟩,yof (by omega) (by omega)]
  exact k
def numM (a c:Int) (b d:Int):Nat:=(a.natAbs / Nat.gcd a.natAbs d.natAbs)*(c.natAbs / Nat.gcd c.natAbs b.natAbs)
def denM (a c:Int) (b d:Int):Nat:=(b.natAbs / Nat.gcd c.natAbs b.natAbs)*(d.natAbs / Nat.gcd a.natAbs d.natAbs)
theorem yD2 {a b c d:Int} (ha:I64 a) (hb:I64 b) (hc:I64 c) (hd:I64 d) {K:Int→Int→Int→Prop}
  (k:if chk2 a b c d=0 then outS (decide (a<0) != decide (c<0)) (numM a c b d) (denM a c b d) K else K 0 0 (chk2 a b c d)):yaI a b c d K:=by
 unfold yaI yln
 refine ynN ha hb hc hd ?_
 by_cases h:chk2 a b c d=0
 ·rw [if_pos h] at k
  have:(chk2 a b c d !=(0:Int))=false:=by rw [h];rfl
  rw [this,yab,yg5 ha,yg5 hc]
  obtain ⟨⟨b1,b2,a1,a2,_⟩,d1,d2,c1,c2,_⟩:=ydD.1 h
  have wb:IntKind.u64.wrap b=((b.natAbs:Nat):Int):=by rw [wu64 ⟨by omega,by omega⟩];omega
  have wd:IntKind.u64.wrap d=((d.natAbs:Nat):Int):=by rw [wu64 ⟨by omega,by omega⟩];omega
  rw [wb,wd]
  refine ytA _ _ _ (ytA _ _ _ ?_)
  unfold numM denM at k
  have g1:0<Nat.gcd a.natAbs d.natAbs:=qBd _ (by omega)
  have g2:0<Nat.gcd c.natAbs b.natAbs:=qBd _ (by omega)
  obtain ⟨g3,h3⟩:∃ g,g=Nat.gcd a.natAbs d.natAbs:=⟨_,rfl⟩
  obtain ⟨g4,h4⟩:∃ g,g=Nat.gcd c.natAbs b.natAbs:=⟨_,rfl⟩
  rw [← h3,← h4] at k ⊢
  rw [← h3] at g1;rw [← h4] at g2
  have n3:(!(decide ((g3:Int)=(0:Int))))=true:=by rw [decide_eq_false (by omega)];rfl
  have n4:(!(decide ((g4:Int)=(0:Int))))=true:=by rw [decide_eq_false (by omega)];rfl
  rw [n3,n4,yaH,yaH,ykN (by omega),ykN (by omega),ykN (by omega),ykN (by omega),← qAx,← qAx,← qAx,← qAx]
  have q1:a.natAbs / g3≤a.natAbs:=qBa _ _
  have q2:c.natAbs / g4≤c.natAbs:=qBa _ _
  have q3:b.natAbs / g4≤b.natAbs:=qBa _ _
  have q4:d.natAbs / g3≤d.natAbs:=qBa _ _
  generalize a.natAbs / g3=A at *
  generalize c.natAbs / g4=C at *
  generalize b.natAbs / g4=B at *
  generalize d.natAbs / g3=D at *
  rw [wu64 (n:=(A:Int)) ⟨by omega,by omega⟩,wu64 (n:=(C:Int)) ⟨by omega,by omega⟩,wu64 (n:=(B:Int)) ⟨by omega,by omega⟩,wu64 (n:=(D:Int)) ⟨by omega,by omega⟩,
   yiJ ⟨by omega,by omega⟩ ⟨by omega,by omega⟩,yaH,yaH,yiJ ⟨by omega,by omega⟩ ⟨by omega,by omega⟩]
  have m1:A*C≤1000000000000000000*1000000000000000000:=Nat.mul_le_mul (by omega) (by omega)
  have m2:B*D≤1000000000000000000*1000000000000000000:=Nat.mul_le_mul (by omega) (by omega)
  rw [← Int.natCast_mul,← Int.natCast_mul]
  generalize A*C=M at *
  generalize B*D=N at *
  have wm:IntKind.u64.wrap ((M:Int) / 18446744073709551616+(N:Int) / 18446744073709551616)=(M:Int) / 18446744073709551616+(N:Int) / 18446744073709551616:=wu64 ⟨by omega,by omega⟩
  rw [wm]
  by_cases hb:(M:Int) / 18446744073709551616+(N:Int) / 18446744073709551616>0
  ·rw [decide_eq_true hb,yag]
   unfold outS at k
   rw [if_neg (by omega)] at k
   exact k
  ·rw [decide_eq_false hb,yab]
   have eM:(M:Int) % 18446744073709551616=M:=by omega
   have eN:(N:Int) % 18446744073709551616=N:=by omega
   rw [eM,eN]
   by_cases h0:(M:Int)>0
   ·rw [decide_eq_true h0,yag,yof (by omega) (by omega)]
    exact k
   ·rw [decide_eq_false h0,yab,yof (by omega) (by omega)]
    have hz:M=0:=by omega
    subst hz
    unfold outS at k ⊢
    by_cases hN:(N:Int)≤1000000000000000000
    ·rw [if_pos ⟨by omega,hN⟩] at k ⊢
     have e:(if (decide (a<0) != decide (c<0))=true then -((0:Nat):Int) else ((0:Nat):Int))=0:=by split <;> rfl
     rw [e] at k
     exact k
    ·rw [if_neg (by omega)] at k ⊢
     exact k
 ·rw [if_neg h] at k
  have:(chk2 a b c d !=(0:Int))=true:=by rw [bne_iff_ne];exact h
  rw [this,yag]
  exact k
theorem RV.swap {c d:Int} (h:RV c d) (h0:0<c):RV d c:=by
 obtain ⟨d1,d2,c1,c2,g⟩:=h
 exact ⟨by omega,c2,by omega,d2,by rw [Nat.gcd_comm];exact g⟩
theorem RV.swapn {c d:Int} (h:RV c d) (h0:c<0):RV (-d) (-c):=by
 obtain ⟨d1,d2,c1,c2,g⟩:=h
 exact ⟨by omega,by omega,by omega,by omega,by rw [Int.natAbs_neg,Int.natAbs_neg,Nat.gcd_comm];exact g⟩
theorem yIV {a b c d:Int} (ha:I64 a) (hb:I64 b) (hc:I64 c) (hd:I64 d) {K:Int→Int→Int→Prop}
  (k:if chk2 a b c d=0 then (if c=0 then K 0 0 18 else outS (decide (a<0) != decide (c<0)) (numM a d b c) (denM a d b c) K) else K 0 0 (chk2 a b c d)):ycn a b c d K:=by
 unfold ycn ylo
 refine ynN ha hb hc hd ?_
 by_cases h:chk2 a b c d=0
 ·rw [if_pos h] at k
  have:(chk2 a b c d !=(0:Int))=false:=by rw [h];rfl
  rw [this,yab]
  obtain ⟨hab,hcd⟩:=ydD.1 h
  obtain ⟨d1,d2,c1,c2,_⟩:=id hcd
  by_cases h0:c=0
  ·rw [if_pos h0] at k
   have:(c ==(0:Int))=true:=beq_iff_eq.2 h0
   rw [this,yag]
   exact k
  ·rw [if_neg h0] at k
   have:(c ==(0:Int))=false:=beq_eq_false_iff_ne.2 h0
   rw [this,yab]
   by_cases hn:c<0
   ·rw [decide_eq_true hn] at k
    rw [decide_eq_true hn,yag,wi64 (n:=0-d) ⟨by omega,by omega⟩,wi64 (n:=0-c) ⟨by omega,by omega⟩,Int.zero_sub,Int.zero_sub]
    have e:chk2 a b (-d) (-c)=0:=ydD.2 ⟨hab,hcd.swapn hn⟩
    refine yD2 ha hb ⟨by omega,by omega⟩ ⟨by omega,by omega⟩ ?_
    rw [if_pos e,decide_eq_true (show -d<0 by omega)]
    unfold numM denM at k ⊢
    rw [Int.natAbs_neg,Int.natAbs_neg]
    exact k
   ·rw [decide_eq_false hn] at k
    rw [decide_eq_false hn,yab]
    have e:chk2 a b d c=0:=ydD.2 ⟨hab,hcd.swap (by omega)⟩
    refine yD2 ha hb hd hc ?_
    rw [if_pos e,decide_eq_false (show ¬d<0 by omega)]
    exact k
 ·rw [if_neg h] at k
  have:(chk2 a b c d !=(0:Int))=true:=by rw [bne_iff_ne];exact h
  rw [this,yag]
  exact k
theorem yHT {s:Bool} {hi lo p1 p3:Int} {g:Nat} (hh:U64 hi) (hl:U64 lo) (hg:0<g) (g1:(g:Int)≤1000000000000000000)
   (h1:0≤p1∧p1≤1000000000000000000) (h3:0≤p3∧p3≤1000000000000000000) {K:Int→Int→Int→Prop}
   (k:outS s (((hi*18446744073709551616+lo).toNat / Nat.gcd (hi*18446744073709551616+lo).toNat g:Nat):Int)
    (((p1.toNat / g)*(p3.toNat / Nat.gcd (hi*18446744073709551616+lo).toNat g):Nat):Int) K) :
   (ygG hi lo (g:Int) (fun (b:Int) =>
 (yci b (g:Int) (fun (a:Int) =>
 (cbr (decide (hi≥a))
 (K (0:Int) (0:Int) (16:Int))
 (yfC hi lo a (fun (c:Int) (_:Int) =>
 (asr (!(decide ((g:Int)=(0:Int))))
 (asr (!(decide (a=(0:Int))))
 (yeP (IntKind.u64.wrap (Int.tdiv (IntKind.u64.wrap p1) (g:Int))) (IntKind.u64.wrap (Int.tdiv (IntKind.u64.wrap p3) a)) (fun (d:Int) (e:Int) =>
 (cbr (decide (d>(0:Int)))
 (K (0:Int) (0:Int) (16:Int))
 (yca s c e (fun (f:Int) (h:Int) (i:Int) =>
 (K f h i))))))))))))))):=by
  unfold U64 at hh hl
  obtain ⟨X,hX⟩:∃ X:Nat,X=(hi*18446744073709551616+lo).toNat:=⟨_,rfl⟩
  have eX:hi*18446744073709551616+lo=(X:Int):=by omega
  rw [← hX] at k
  refine yGM hh hl ⟨by omega,by omega⟩ (by omega) ?_
  rw [eX,← Int.natCast_emod]
  refine ytA _ _ _ ?_
  have eg:Nat.gcd (X % g) g=Nat.gcd X g:=by rw [Nat.gcd_comm,Nat.gcd_comm X,Nat.gcd_rec g X,Nat.gcd_comm]
  rw [eg]
  have gp:0<Nat.gcd X g:=qBd _ hg
  have gl:Nat.gcd X g≤g:=Nat.le_of_dvd hg (Nat.gcd_dvd_right _ _)
  generalize Nat.gcd X g=G at *
  by_cases hb:hi≥(G:Int)
  ·rw [decide_eq_true hb,yag]
   unfold outS at k
   have:18446744073709551616≤X / G:=by
    rw [Nat.le_div_iff_mul_le gp]
    omega
   rw [if_neg (by omega)] at k
   exact k
  ·rw [decide_eq_false hb,yab]
   refine yCy hh hl ⟨by omega,by omega⟩ (by omega) ?_
   rw [eX]
   have n3:(!(decide ((g:Int)=(0:Int))))=true:=by rw [decide_eq_false (by omega)];rfl
   have n4:(!(decide ((G:Int)=(0:Int))))=true:=by rw [decide_eq_false (by omega)];rfl
   have e1:IntKind.u64.wrap p1=(p1.toNat:Int):=by rw [wu64 ⟨by omega,by omega⟩];omega
   have e3:IntKind.u64.wrap p3=(p3.toNat:Int):=by rw [wu64 ⟨by omega,by omega⟩];omega
   rw [n3,n4,yaH,yaH,e1,e3,ykN (by omega),ykN (by omega),← qAx,← qAx,← qAx]
   have q1:p1.toNat / g≤p1.toNat:=qBa _ _
   have q3:p3.toNat / G≤p3.toNat:=qBa _ _
   generalize p1.toNat / g=A at *
   generalize p3.toNat / G=B at *
   generalize X / G=N at *
   rw [wu64 (n:=(A:Int)) ⟨by omega,by omega⟩,wu64 (n:=(B:Int)) ⟨by omega,by omega⟩,yiJ ⟨by omega,by omega⟩ ⟨by omega,by omega⟩,← Int.natCast_mul]
   generalize A*B=D at *
   by_cases hd:((D:Int) / 18446744073709551616)>0
   ·rw [decide_eq_true hd,yag]
    unfold outS at k
    rw [if_neg (by omega)] at k
    exact k
   ·rw [decide_eq_false hd,yab]
    have eD:(D:Int) % 18446744073709551616=D:=by omega
    rw [eD,yof (by omega) (by omega)]
    exact k
theorem yCz {p q c:Int} {K:Int→Int→Prop} (hc:c.toNat≤1) (k:K (((p.toNat+q.toNat+c.toNat) % 18446744073709551616:Nat):Int) (((p.toNat+q.toNat+c.toNat) / 18446744073709551616:Nat):Int)):yhZ p q c K:=by
 unfold yhZ
 rw [decide_eq_true hc,yaH]
 exact k
theorem yCA {p q c:Int} {K:Int→Int→Prop} (hc:c.toNat≤1) (k:K (((p.toNat+18446744073709551616-q.toNat-c.toNat) % 18446744073709551616:Nat):Int) ((if q.toNat+c.toNat≤p.toNat then 0 else 1:Nat):Int)):yh0 p q c K:=by
 unfold yh0
 rw [decide_eq_true hc,yaH]
 have e:(bif Nat.ble (q.toNat+c.toNat) p.toNat then 0 else 1:Nat)=(if q.toNat+c.toNat≤p.toNat then 0 else 1:Nat):=by
  by_cases h:q.toNat+c.toNat≤p.toNat
  ·rw [if_pos h,show Nat.ble (q.toNat+c.toNat) p.toNat=true from Nat.ble_eq_true_of_le h];rfl
  ·rw [if_neg h]
   cases hb:Nat.ble (q.toNat+c.toNat) p.toNat
   ·rfl
   ·exact absurd (qCb hb) h
 rw [e]
 exact k
theorem yGN {X Y:Int} (hx:0≤X) (hy:0≤Y) (hs:X+Y<340282366920938463463374607431768211456) {F:Int→Int→Int→Int→Prop}
  (h:∀ c1 c2,F ((X+Y) % 18446744073709551616) c1 ((X+Y) / 18446744073709551616) c2) :
  yhZ (X % 18446744073709551616) (Y % 18446744073709551616) 0 (fun lo c1=>yhZ (X / 18446744073709551616) (Y / 18446744073709551616) c1 (fun hi c2=>F lo c1 hi c2)):=by
 obtain ⟨x,rfl⟩:∃ x:Nat,X=x:=⟨X.toNat,by omega⟩
 obtain ⟨y,rfl⟩:∃ y:Nat,Y=y:=⟨Y.toNat,by omega⟩
 refine yCz (by decide) (yCz (by omega) ?_)
 have e1:(((((x:Int) % 18446744073709551616).toNat+((y:Int) % 18446744073709551616).toNat+(0:Int).toNat) % 18446744073709551616:Nat):Int)=((x:Int)+y) % 18446744073709551616:=by omega
 have e2:(((((x:Int) / 18446744073709551616).toNat+((y:Int) / 18446744073709551616).toNat+(((((x:Int) % 18446744073709551616).toNat+((y:Int) % 18446744073709551616).toNat+(0:Int).toNat) / 18446744073709551616:Nat):Int).toNat) % 18446744073709551616:Nat):Int)=((x:Int)+y) / 18446744073709551616:=by omega
 rw [e1,e2]
 exact h _ _
theorem ysg {X Y:Int} (hy:0≤Y) (hxy:Y≤X) (hs:X<340282366920938463463374607431768211456) {F:Int→Int→Int→Int→Prop}
  (h:∀ c1 c2,F ((X-Y) % 18446744073709551616) c1 ((X-Y) / 18446744073709551616) c2) :
  yh0 (X % 18446744073709551616) (Y % 18446744073709551616) 0 (fun lo c1=>yh0 (X / 18446744073709551616) (Y / 18446744073709551616) c1 (fun hi c2=>F lo c1 hi c2)):=by
 obtain ⟨x,rfl⟩:∃ x:Nat,X=x:=⟨X.toNat,by omega⟩
 obtain ⟨y,rfl⟩:∃ y:Nat,Y=y:=⟨Y.toNat,by omega⟩
 refine yCA (by decide) (yCA (by split <;> omega) ?_)
 have e1:(((((x:Int) % 18446744073709551616).toNat+18446744073709551616-((y:Int) % 18446744073709551616).toNat-(0:Int).toNat) % 18446744073709551616:Nat):Int)=((x:Int)-y) % 18446744073709551616:=by omega
 rw [e1]
 by_cases hb:((y:Int) % 18446744073709551616).toNat+(0:Int).toNat≤((x:Int) % 18446744073709551616).toNat
 ·rw [if_pos hb]
  have e2:(((((x:Int) / 18446744073709551616).toNat+18446744073709551616-((y:Int) / 18446744073709551616).toNat-((0:Nat):Int).toNat) % 18446744073709551616:Nat):Int)=((x:Int)-y) / 18446744073709551616:=by omega
  rw [e2]
  exact h _ _
 ·rw [if_neg hb]
  have e2:(((((x:Int) / 18446744073709551616).toNat+18446744073709551616-((y:Int) / 18446744073709551616).toNat-((1:Nat):Int).toNat) % 18446744073709551616:Nat):Int)=((x:Int)-y) / 18446744073709551616:=by omega
  rw [e2]
  exact h _ _
def outA (s:Bool) (Z p1 p3:Int) (g:Nat) (K:Int→Int→Int→Prop):Prop :=
 if Z=0 then K 0 1 0 else outS s ((Z.toNat / Nat.gcd Z.toNat g:Nat):Int) (((p1.toNat / g)*(p3.toNat / Nat.gcd Z.toNat g):Nat):Int) K
theorem yw9 {s:Bool} {Z p1 p3:Int} {g:Nat} (hz:0≤Z) (hz2:Z<340282366920938463463374607431768211456) (hg:0<g) (g1:(g:Int)≤1000000000000000000)
   (h1:0≤p1∧p1≤1000000000000000000) (h3:0≤p3∧p3≤1000000000000000000) {K:Int→Int→Int→Prop}
   (k:outA s Z p1 p3 g K) :
   cbr (Z / 18446744073709551616 ==(0:Int)) (cbr (Z % 18446744073709551616 ==(0:Int)) (K 0 1 0) (ygG (Z / 18446744073709551616) (Z % 18446744073709551616) (g:Int) (fun (b:Int) =>
 (yci b (g:Int) (fun (a:Int) =>
 (cbr (decide ((Z / 18446744073709551616)≥a))
 (K (0:Int) (0:Int) (16:Int))
 (yfC (Z / 18446744073709551616) (Z % 18446744073709551616) a (fun (c:Int) (_:Int) =>
 (asr (!(decide ((g:Int)=(0:Int))))
 (asr (!(decide (a=(0:Int))))
 (yeP (IntKind.u64.wrap (Int.tdiv (IntKind.u64.wrap p1) (g:Int))) (IntKind.u64.wrap (Int.tdiv (IntKind.u64.wrap p3) a)) (fun (d:Int) (e:Int) =>
 (cbr (decide (d>(0:Int)))
 (K (0:Int) (0:Int) (16:Int))
 (yca s c e (fun (f:Int) (h:Int) (i:Int) =>
 (K f h i)))))))))))))))) (ygG (Z / 18446744073709551616) (Z % 18446744073709551616) (g:Int) (fun (b:Int) =>
 (yci b (g:Int) (fun (a:Int) =>
 (cbr (decide ((Z / 18446744073709551616)≥a))
 (K (0:Int) (0:Int) (16:Int))
 (yfC (Z / 18446744073709551616) (Z % 18446744073709551616) a (fun (c:Int) (_:Int) =>
 (asr (!(decide ((g:Int)=(0:Int))))
 (asr (!(decide (a=(0:Int))))
 (yeP (IntKind.u64.wrap (Int.tdiv (IntKind.u64.wrap p1) (g:Int))) (IntKind.u64.wrap (Int.tdiv (IntKind.u64.wrap p3) a)) (fun (d:Int) (e:Int) =>
 (cbr (decide (d>(0:Int)))
 (K (0:Int) (0:Int) (16:Int))
 (yca s c e (fun (f:Int) (h:Int) (i:Int) =>
 (K f h i))))))))))))))):=by
  unfold outA at k
  have eZ:Z / 18446744073709551616*18446744073709551616+Z % 18446744073709551616=Z:=by omega
  by_cases h0:Z=0
  ·rw [if_pos h0] at k
   subst h0
   have e1:((0:Int) / 18446744073709551616 ==(0:Int))=true:=by decide
   have e2:((0:Int) % 18446744073709551616 ==(0:Int))=true:=by decide
   rw [e1,yag,e2,yag]
   exact k
  ·rw [if_neg h0] at k
   have t:=yHT (s:=s) (hi:=Z / 18446744073709551616) (lo:=Z % 18446744073709551616) (p1:=p1) (p3:=p3) (g:=g) (K:=K) ⟨by omega,by omega⟩ ⟨by omega,by omega⟩ hg g1 h1 h3 (by rw [eZ];exact k)
   cases h4:(Z / 18446744073709551616 ==(0:Int))
   ·rw [yab];exact t
   ·rw [yag]
    cases h2:(Z % 18446744073709551616 ==(0:Int))
    ·rw [yab];exact t
    ·have:=beq_iff_eq.1 h2
     have:=beq_iff_eq.1 h4
     exact absurd (show Z=0 by omega) h0
theorem yqu {s s':Bool} {Z Z' p1 p3:Int} {g:Nat} {K:Int→Int→Int→Prop} (k:outA s' Z' p1 p3 g K) (hz:Z=Z') (hs:Z≠0→s=s'):outA s Z p1 p3 g K:=by
 subst hz
 unfold outA at k ⊢
 by_cases h:Z=0
 ·rw [if_pos h] at k ⊢;exact k
 ·rw [if_neg h] at k ⊢;rw [hs h];exact k
theorem yGO {a b c d:Int} (ha:I64 a) (hb:I64 b) (hc:I64 c) (hd:I64 d) {K:Int→Int→Int→Prop}
  (k:if chk2 a b c d=0 then outA (decide (a*(d / (Nat.gcd b.natAbs d.natAbs:Nat))+c*(b / (Nat.gcd b.natAbs d.natAbs:Nat))<0))
    ((a*(d / (Nat.gcd b.natAbs d.natAbs:Nat))+c*(b / (Nat.gcd b.natAbs d.natAbs:Nat))).natAbs:Int) b d (Nat.gcd b.natAbs d.natAbs) K
   else K 0 0 (chk2 a b c d)):ybv a b c d K:=by
 unfold ybv yll
 refine ynN ha hb hc hd ?_
 by_cases h:chk2 a b c d=0
 ·rw [if_pos h] at k
  have:(chk2 a b c d !=(0:Int))=false:=by rw [h];rfl
  rw [this,yab]
  obtain ⟨⟨b1,b2,a1,a2,_⟩,d1,d2,c1,c2,_⟩:=ydD.1 h
  have wb:IntKind.u64.wrap b=((b.natAbs:Nat):Int):=by rw [wu64 ⟨by omega,by omega⟩];omega
  have wd:IntKind.u64.wrap d=((d.natAbs:Nat):Int):=by rw [wu64 ⟨by omega,by omega⟩];omega
  have g1:0<Nat.gcd b.natAbs d.natAbs:=qBd _ (by omega)
  have g2:Nat.gcd b.natAbs d.natAbs≤d.natAbs:=Nat.le_of_dvd (by omega) (Nat.gcd_dvd_right _ _)
  have go:yci (IntKind.u64.wrap b) (IntKind.u64.wrap d)=yci ((b.natAbs:Nat):Int) ((d.natAbs:Nat):Int):=by rw [wb,wd]
  rw [go]
  refine ytA _ _ _ ?_
  generalize Nat.gcd b.natAbs d.natAbs=g at *
  have n3:(!(decide ((g:Int)=(0:Int))))=true:=by rw [decide_eq_false (by omega)];rfl
  have q1:0≤b / (g:Int):=Int.ediv_nonneg (by omega) (by omega)
  have q2:0≤d / (g:Int):=Int.ediv_nonneg (by omega) (by omega)
  have q3:b / (g:Int)≤b:=Int.ediv_le_self _ (by omega)
  have q4:d / (g:Int)≤d:=Int.ediv_le_self _ (by omega)
  have ed:IntKind.u64.wrap (Int.tdiv (IntKind.u64.wrap d) (g:Int))=d / (g:Int):=by
   rw [wu64 (n:=d) ⟨by omega,by omega⟩,ykN (by omega),wu64 ⟨by omega,by omega⟩]
  have eb:IntKind.u64.wrap (Int.tdiv (IntKind.u64.wrap b) (g:Int))=b / (g:Int):=by
   rw [wu64 (n:=b) ⟨by omega,by omega⟩,ykN (by omega),wu64 ⟨by omega,by omega⟩]
  have yke:∀ {c:Bool} {P:Prop},c=true→P→asr c P:=fun h p=>by rw [h,yaH];exact p
  rw [yg5 ha]
  refine yke n3 ?_
  rw [yiJ (U64.abs ha) (by rw [ed];exact ⟨by omega,by omega⟩),yg5 hc]
  refine yke n3 ?_
  rw [yiJ (U64.abs hc) (by rw [eb];exact ⟨by omega,by omega⟩)]
  obtain ⟨X,hX⟩:∃ X,X=((a.natAbs:Nat):Int)*IntKind.u64.wrap (Int.tdiv (IntKind.u64.wrap d) (g:Int)):=⟨_,rfl⟩
  obtain ⟨Y,hY⟩:∃ Y,Y=((c.natAbs:Nat):Int)*IntKind.u64.wrap (Int.tdiv (IntKind.u64.wrap b) (g:Int)):=⟨_,rfl⟩
  rw [← hX,← hY]
  rw [ed] at hX;rw [eb] at hY
  have X0:0≤X:=by rw [hX];exact qA5 (by omega) q2
  have Y0:0≤Y:=by rw [hY];exact qA5 (by omega) q1
  have X1:X≤1000000000000000000*1000000000000000000:=by rw [hX];exact Int.mul_le_mul (by omega) (by omega) q2 (by omega)
  have Y1:Y≤1000000000000000000*1000000000000000000:=by rw [hY];exact Int.mul_le_mul (by omega) (by omega) q1 (by omega)
  have ax:a*(d / (g:Int))=if a<0 then -X else X:=by
   split
   ·rw [hX,show ((a.natAbs:Nat):Int)=-a by omega,Int.neg_mul,Int.neg_neg]
   ·rw [hX,show ((a.natAbs:Nat):Int)=a by omega]
  have cy:c*(b / (g:Int))=if c<0 then -Y else Y:=by
   split
   ·rw [hY,show ((c.natAbs:Nat):Int)=-c by omega,Int.neg_mul,Int.neg_neg]
   ·rw [hY,show ((c.natAbs:Nat):Int)=c by omega]
  rw [ax,cy] at k
  clear hX hY ax cy ed eb n3
  by_cases hs:decide (a<0)=decide (c<0)
  ·have e:(decide (a<0) == decide (c<0))=true:=beq_iff_eq.2 hs
   rw [e,yag]
   refine yGN X0 Y0 (by omega) (fun c1 c2=>?_)
   refine yw9 (by omega) (by omega) g1 (by omega) ⟨by omega,b2⟩ ⟨by omega,d2⟩ (yqu k ?_ ?_)
   ·by_cases h1:a<0
    ·have h2:c<0:=by simpa [h1] using hs.symm
     rw [if_pos h1,if_pos h2];omega
    ·have h2:¬c<0:=by simpa [h1] using hs.symm
     rw [if_neg h1,if_neg h2];omega
   ·intro h0
    by_cases h1:a<0
    ·have h2:c<0:=by simpa [h1] using hs.symm
     rw [if_pos h1,if_pos h2,decide_eq_true h1,decide_eq_true (by omega)]
    ·have h2:¬c<0:=by simpa [h1] using hs.symm
     rw [if_neg h1,if_neg h2,decide_eq_false h1,decide_eq_false (by omega)]
  ·have e:(decide (a<0) == decide (c<0))=false:=beq_eq_false_iff_ne.2 hs
   rw [e,yab]
   have h12:(a<0∧¬c<0)∨(¬a<0∧c<0):=by
    by_cases h1:a<0 <;> by_cases h2:c<0 <;> simp [h1,h2] at hs ⊢
   by_cases hlt:X<Y
   ·have kk:outA (!decide (a<0)) (Y-X) b d g K:=by
     refine yqu k ?_ ?_
     ·rcases h12 with ⟨h1,h2⟩ | ⟨h1,h2⟩
      ·rw [if_pos h1,if_neg h2];omega
      ·rw [if_neg h1,if_pos h2];omega
     ·intro h0
      rcases h12 with ⟨h1,h2⟩ | ⟨h1,h2⟩
      ·rw [if_pos h1,if_neg h2,decide_eq_true h1,decide_eq_false (by omega)];rfl
      ·rw [if_neg h1,if_pos h2,decide_eq_false h1,decide_eq_true (by omega)];rfl
    by_cases h1:X / 18446744073709551616<Y / 18446744073709551616
    ·rw [decide_eq_true h1,yag]
     refine ysg X0 (by omega) (by omega) (fun c1 c2=>?_)
     exact yw9 (by omega) (by omega) g1 (by omega) ⟨by omega,b2⟩ ⟨by omega,d2⟩ kk
    ·have e1:(X / 18446744073709551616 == Y / 18446744073709551616)=true:=beq_iff_eq.2 (by omega)
     rw [decide_eq_false h1,yab,e1,yag,decide_eq_true (show X % 18446744073709551616<Y % 18446744073709551616 by have:=beq_iff_eq.1 e1;omega),yag]
     refine ysg X0 (by omega) (by omega) (fun c1 c2=>?_)
     exact yw9 (by omega) (by omega) g1 (by omega) ⟨by omega,b2⟩ ⟨by omega,d2⟩ kk
   ·have kk:outA (decide (a<0)) (X-Y) b d g K:=by
     refine yqu k ?_ ?_
     ·rcases h12 with ⟨h1,h2⟩ | ⟨h1,h2⟩
      ·rw [if_pos h1,if_neg h2];omega
      ·rw [if_neg h1,if_pos h2];omega
     ·intro h0
      rcases h12 with ⟨h1,h2⟩ | ⟨h1,h2⟩
      ·rw [if_pos h1,if_neg h2,decide_eq_true h1,decide_eq_true (by omega)]
      ·rw [if_neg h1,if_pos h2,decide_eq_false h1,decide_eq_false (by omega)]
    have h1:¬X / 18446744073709551616<Y / 18446744073709551616:=by omega
    rw [decide_eq_false h1,yab]
    cases e1:(X / 18446744073709551616 == Y / 18446744073709551616)
    ·rw [yab]
     refine ysg Y0 (by omega) (by omega) (fun c1 c2=>?_)
     exact yw9 (by omega) (by omega) g1 (by omega) ⟨by omega,b2⟩ ⟨by omega,d2⟩ kk
    ·rw [yag,decide_eq_false (show ¬X % 18446744073709551616<Y % 18446744073709551616 by have:=beq_iff_eq.1 e1;omega),yab]
     refine ysg Y0 (by omega) (by omega) (fun c1 c2=>?_)
     exact yw9 (by omega) (by omega) g1 (by omega) ⟨by omega,b2⟩ ⟨by omega,d2⟩ kk
 ·rw [if_neg h] at k
  have:(chk2 a b c d !=(0:Int))=true:=by rw [bne_iff_ne];exact h
  rw [this,yag]
  exact k
theorem RV.neg {c d:Int} (h:RV c d):RV (-c) d:=by
 obtain ⟨d1,d2,c1,c2,g⟩:=h
 exact ⟨d1,d2,by omega,by omega,by rw [Int.natAbs_neg];exact g⟩
theorem yIW {a b c d:Int} (ha:I64 a) (hb:I64 b) (hc:I64 c) (hd:I64 d) {K:Int→Int→Int→Prop}
  (k:if chk2 a b c d=0 then outA (decide (a*(d / (Nat.gcd b.natAbs d.natAbs:Nat))+-c*(b / (Nat.gcd b.natAbs d.natAbs:Nat))<0))
    ((a*(d / (Nat.gcd b.natAbs d.natAbs:Nat))+-c*(b / (Nat.gcd b.natAbs d.natAbs:Nat))).natAbs:Int) b d (Nat.gcd b.natAbs d.natAbs) K
   else K 0 0 (chk2 a b c d)):ybC a b c d K:=by
 unfold ybC ylm
 refine ynN ha hb hc hd ?_
 by_cases h:chk2 a b c d=0
 ·rw [if_pos h] at k
  have:(chk2 a b c d !=(0:Int))=false:=by rw [h];rfl
  rw [this,yab]
  obtain ⟨hab,hcd⟩:=ydD.1 h
  obtain ⟨d1,d2,c1,c2,_⟩:=id hcd
  rw [wi64 (n:=0-c) ⟨by omega,by omega⟩,Int.zero_sub]
  refine yGO ha hb ⟨by omega,by omega⟩ hd ?_
  rw [if_pos (ydD.2 ⟨hab,hcd.neg⟩)]
  exact k
 ·rw [if_neg h] at k
  have:(chk2 a b c d !=(0:Int))=true:=by rw [bne_iff_ne];exact h
  rw [this,yag]
  exact k
def ints (l:List Int):List PV:=l.map (PV.int .i64)
theorem yaQ (l:List Int):(ints l).length=l.length:=qAe ..
theorem yvg {l:List Int} {i:Nat} (h:i<l.length):List.getD (ints l) i .nils=.int .i64 (l.getD i 0):=by
 unfold ints
 rw [qAa,qAa,qBc,qAc h]
 rfl
theorem ycd {l:List Int} {i:Nat} (h:i<l.length):yaa (List.getD (ints l) i .nils)=l.getD i 0:=by
 rw [yvg h];rfl
theorem ygS {l:List Int} {i:Nat} (h:i<l.length):conf zI (List.getD (ints l) i .nils)=true:=by
 rw [yvg h];rfl
theorem yke {c:Bool} {P:Prop} (h:c=true) (p:P):asr c P:=by rw [h,yaH];exact p
theorem yo9 {c:Prop} [Decidable c] {P:Prop} (h:c) (p:P):asr (decide c) P:=yke (decide_eq_true h) p
theorem yEI {c:Prop} [Decidable c] {P Q:Prop} (h:c) (p:P):cbr (decide c) P Q:=by rw [decide_eq_true h,yag];exact p
theorem yyV {c:Prop} [Decidable c] {P Q:Prop} (h:¬c) (q:Q):cbr (decide c) P Q:=by rw [decide_eq_false h,yab];exact q
def mnf (m x:Int):Int:=if x<m then x else m
theorem yGP {l:List Int} (hl:l.length<9223372036854775807) (x0:List PV→Int→Int→Bool→Prop) :
  ∀ (rest:List Int) (i:Nat) (m:Int) (n:Nat),l.drop i=rest→i≤l.length→rest.length<n→x0 (ints l) (rest.foldl mnf m) (l.length:Int) false →
   ycf x0 n (ints l) m (i:Int):=by
 intro rest
 induction rest with
 | nil =>
  intro i m n hd hi hn k
  have:i=l.length:=by
   have:=congrArg List.length hd
   rw [qAs] at this
   have h2:([]:List Int).length=0:=rfl
   omega
  match n,hn with
  | n+1,_ =>
   unfold ycf
   rw [yaQ,this]
   exact yyV (by omega) k
 | cons x t ih =>
  intro i m n hd hi hn k
  have hlt:i<l.length:=by
   have:=congrArg List.length hd
   rw [qAs,qAl] at this
   omega
  have hx:l.getD i 0=x:=by
   have:=List.getElem_drop (xs:=l) (i:=i) (j:=0) (h:=by rw [hd];exact Nat.zero_lt_succ _)
   rw [qAa,qAc hlt]
   simp only [hd,List.getElem_cons_zero,Nat.add_zero] at this
   exact this.symm
  have ht:l.drop (i+1)=t:=by rw [← List.tail_drop,hd];rfl
  match n,hn with
  | n+1,hn =>
   unfold ycf
   rw [yaQ]
   refine yEI (by omega) ?_
   refine yo9 (by omega) (yo9 (by omega) (yke (ygS (by omega)) ?_))
   rw [qAg,ycd hlt,hx,wi64 (n:=(i:Int)+1) ⟨by omega,by omega⟩]
   exact ih (i+1) _ n ht (by omega) (by rw [qAl] at hn;omega) k
theorem yIX {l:List Int} (hl:l.length<9223372036854775807) {x:Int} {t:List Int} (e:l=x::t) {K:Int→Prop} (k:K (t.foldl mnf x)):ycV (ints l) K:=by
 have h0:0<l.length:=by rw [e];exact Nat.zero_lt_succ _
 unfold ycV ygI
 rw [yaQ]
 refine yyV (by omega) (yo9 (by omega) (yke (ygS h0) ⟨l.length+1,?_⟩))
 have e0:l.getD 0 0=x:=by rw [e];rfl
 rw [ycd h0,e0]
 refine yGP hl _ t 1 x _ (by rw [e];rfl) (by omega) (by rw [e,qAl];omega) ?_
 exact k
def mxf (m x:Int):Int:=if x>m then x else m
theorem yGQ {l:List Int} (hl:l.length<9223372036854775807) (x0:List PV→Int→Int→Bool→Prop) :
  ∀ (rest:List Int) (i:Nat) (m:Int) (n:Nat),l.drop i=rest→i≤l.length→rest.length<n→x0 (ints l) (rest.foldl mxf m) (l.length:Int) false →
   ycg x0 n (ints l) m (i:Int):=by
 intro rest
 induction rest with
 | nil =>
  intro i m n hd hi hn k
  have:i=l.length:=by
   have:=congrArg List.length hd
   rw [qAs] at this
   have h2:([]:List Int).length=0:=rfl
   omega
  match n,hn with
  | n+1,_ =>
   unfold ycg
   rw [yaQ,this]
   exact yyV (by omega) k
 | cons x t ih =>
  intro i m n hd hi hn k
  have hlt:i<l.length:=by
   have:=congrArg List.length hd
   rw [qAs,qAl] at this
   omega
  have hx:l.getD i 0=x:=by
   have:=List.getElem_drop (xs:=l) (i:=i) (j:=0) (h:=by rw [hd];exact Nat.zero_lt_succ _)
   rw [qAa,qAc hlt]
   simp only [hd,List.getElem_cons_zero,Nat.add_zero] at this
   exact this.symm
  have ht:l.drop (i+1)=t:=by rw [← List.tail_drop,hd];rfl
  match n,hn with
  | n+1,hn =>
   unfold ycg
   rw [yaQ]
   refine yEI (by omega) ?_
   refine yo9 (by omega) (yo9 (by omega) (yke (ygS (by omega)) ?_))
   rw [qAg,ycd hlt,hx,wi64 (n:=(i:Int)+1) ⟨by omega,by omega⟩]
   exact ih (i+1) _ n ht (by omega) (by rw [qAl] at hn;omega) k
theorem yGR {l:List Int} (hl:l.length<9223372036854775807) {x:Int} {t:List Int} (e:l=x::t) {K:Int→Prop} (k:K (t.foldl mxf x)):ycW (ints l) K:=by
 have h0:0<l.length:=by rw [e];exact Nat.zero_lt_succ _
 unfold ycW ygK
 rw [yaQ]
 refine yyV (by omega) (yo9 (by omega) (yke (ygS h0) ⟨l.length+1,?_⟩))
 have e0:l.getD 0 0=x:=by rw [e];rfl
 rw [ycd h0,e0]
 refine yGQ hl _ t 1 x _ (by rw [e];rfl) (by omega) (by rw [e,qAl];omega) ?_
 exact k
def incr (l:List Int) (i:Nat):Prop:=∀ j,i≤j→j+1<l.length→l.getD j 0<l.getD (j+1) 0
theorem yD3 {l:List Int} {p2:List PV} {p0:Int} (hl:l.length<9223372036854775807) (W1 W2:List PV→(Int→Prop)→Prop) (x0:Int→Prop) (x1:Int→List PV→List PV→Int→Int→Bool→Prop) :
  ∀ (r i n:Nat),i+r+1=l.length→r<n→(incr l i→x1 p0 (ints l) p2 ((l.length:Int)-1) ((l.length:Int)-1) false)→(¬incr l i→x0 8) →
   ycM W1 W2 x0 x1 n p0 (ints l) p2 ((l.length:Int)-1) (i:Int):=by
 intro r
 induction r with
 | zero =>
  intro i n hi hn k _
  match n,hn with
  | n+1,_ =>
   unfold ycM
   have e:(i:Int)=(l.length:Int)-1:=by omega
   refine yyV (by omega) ?_
   rw [e]
   exact k (fun j h1 h2=>by omega)
 | succ r ih =>
  intro i n hi hn k k0
  match n,hn with
  | n+1,hn =>
   unfold ycM
   rw [wi64 (n:=(i:Int)+1) ⟨by omega,by omega⟩,yaQ]
   have e1:((i:Int)+1)=((i+1:Nat):Int):=by omega
   rw [e1,qAg,qAg]
   refine yEI (by omega) (yo9 (by omega) (yo9 (by omega) (yke (ygS (by omega)) (yo9 (by omega) (yo9 (by omega) (yke (ygS (by omega)) ?_))))))
   rw [ycd (by omega),ycd (by omega)]
   by_cases h:l.getD i 0≥l.getD (i+1) 0
   ·exact yEI h (k0 fun hc=>absurd (hc i (qAj _) (by omega)) (by omega))
   ·refine yyV h (ih (i+1) n (by omega) (by omega) (fun hc=>k fun j h1 h2=>?_) (fun hc=>k0 fun hd=>hc fun j h1 h2=>hd j (by omega) h2))
    by_cases hj:j=i
    ·subst hj;omega
    ·exact hc j (by omega) h2
def small (q:Rat):Prop:=-1000000000000000000≤q.num∧q.num≤1000000000000000000∧(q.den:Int)≤1000000000000000000
instance (q:Rat):Decidable (small q):=by unfold small;infer_instance
theorem small.rv {q:Rat} (h:small q):RV q.num q.den:=by
 obtain ⟨h1,h2,h3⟩:=h
 have:=q.den_pos
 exact ⟨by omega,h3,h1,h2,q.reduced⟩
theorem ytB {n d:Int} (h:RV n d):∃ q:Rat,small q∧q.num=n∧(q.den:Int)=d:=by
 obtain ⟨h1,h2,h3,h4,h5⟩:=h
 refine ⟨⟨n,d.toNat,by omega,?_⟩,⟨h3,h4,by show ((d.toNat:Nat):Int)≤_;omega⟩,rfl,by show ((d.toNat:Nat):Int)=_;omega⟩
 have:d.natAbs=d.toNat:=by omega
 rw [this] at h5
 exact h5
theorem small.i1 {q:Rat} (h:small q):I64 q.num:=⟨by have:=h.1;omega,by have:=h.2.1;omega⟩
theorem small.i2 {q:Rat} (h:small q):I64 (q.den:Int):=⟨by omega,by have:=h.2.2;omega⟩
theorem yeD {q r:Rat} (h:small q) (k:small r):chk2 q.num q.den r.num r.den=0:=ydD.2 ⟨h.rv,k.rv⟩
def fitK (q:Rat) (K:Int→Int→Int→Prop):Prop:=if small q then K q.num q.den 0 else K 0 0 16
theorem yxa {q:Rat} {s:Bool} {a b:Int} (ha:a=(q.num.natAbs:Int)) (hb:b=(q.den:Int)) (hs:q.num≠0→s=decide (q.num<0)) (K:Int→Int→Int→Prop):outS s a b K=fitK q K:=by
 unfold outS fitK
 subst ha hb
 by_cases h:small q
 ·have h':=h
  obtain ⟨h1,h2,h3⟩:=h
  rw [if_pos (show _∧_ from ⟨by omega,h3⟩),if_pos h']
  have e:(if s=true then -((q.num.natAbs:Nat):Int) else ((q.num.natAbs:Nat):Int))=q.num:=by
   by_cases h0:q.num=0
   ·rw [h0];cases s <;> rfl
   ·rw [hs h0]
    by_cases h1:q.num<0
    ·rw [decide_eq_true h1,if_pos rfl];omega
    ·rw [decide_eq_false h1,if_neg (by simp)];omega
  rw [e]
 ·rw [if_neg h,if_neg]
  intro h2
  exact h ⟨by omega,by omega,h2.2⟩
theorem yCB (x:Int) (g:Nat):(Int.tdiv x g).natAbs=x.natAbs / g:=by rw [Int.natAbs_tdiv,Int.natAbs_natCast];rfl
theorem yyW {x:Int} {g:Nat} (h:(g:Int)∣x) (hx:x≠0):decide (Int.tdiv x g<0)=decide (x<0):=by
 obtain ⟨k,rfl⟩:=h
 have hg:(g:Int)≠0:=fun e=>hx (by rw [e,Int.zero_mul])
 rw [Int.mul_tdiv_cancel_left _ hg]
 have h1:(g:Int)>0:=by have:=qB0 g;omega
 have:(g:Int)*k<0↔k<0:=by
  constructor
  ·intro h;refine Int.not_le.1 fun hk=>?_
   have:=qA5 (show 0≤(g:Int) by omega) hk
   omega
  ·intro h;exact Int.mul_neg_of_pos_of_neg h1 h
 simp only [this]
theorem yFC (q r:Rat):(q*r).num=Int.tdiv q.num (Nat.gcd q.num.natAbs r.den)*Int.tdiv r.num (Nat.gcd r.num.natAbs q.den) ∧
  (q*r).den=(q.den / Nat.gcd r.num.natAbs q.den)*(r.den / Nat.gcd q.num.natAbs r.den):=by
 have e:q*r=Rat.mul q r:=rfl
 rw [e]
 delta Rat.mul
 constructor
 ·simp only [Int.divExact_eq_tdiv]
 ·simp only [Nat.divExact_eq_div]
theorem ykO (x:Int) (d:Nat):((Nat.gcd x.natAbs d:Nat):Int)∣x:=by
 rw [← Int.dvd_natAbs,Int.ofNat_dvd];exact Nat.gcd_dvd_left _ _
theorem yEJ {x:Int} {g:Nat} (h:(g:Int)∣x) (hx:x≠0):Int.tdiv x g≠0:=by
 obtain ⟨k,rfl⟩:=h
 have hg:(g:Int)≠0:=fun e=>hx (by rw [e,Int.zero_mul])
 rw [Int.mul_tdiv_cancel_left _ hg]
 intro e;rw [e,Int.mul_zero] at hx;exact hx rfl
theorem yGS {x y:Int} (hx:x≠0) (hy:y≠0):decide (x*y<0)=(decide (x<0) != decide (y<0)):=by
 by_cases h1:x<0 <;> by_cases h2:y<0
 ·have:=Int.mul_pos_of_neg_of_neg h1 h2
  simp [h1,h2];omega
 ·have:=qB8 h1 (show 0<y by omega)
  simp [h1,h2];omega
 ·have:=Int.mul_neg_of_pos_of_neg (show 0<x by omega) h2
  simp [h1,h2];omega
 ·have:=Int.mul_pos (show 0<x by omega) (show 0<y by omega)
  simp [h1,h2];omega
theorem yAR (q r:Rat) (K:Int→Int→Int→Prop):outS (decide (q.num<0) != decide (r.num<0)) (numM q.num r.num q.den r.den) (denM q.num r.num q.den r.den) K=fitK (q*r) K:=by
 obtain ⟨e1,e2⟩:=yFC q r
 refine yxa ?_ ?_ ?_ K
 ·rw [e1,Int.natAbs_mul,yCB,yCB]
  simp only [numM,Int.natAbs_natCast]
 ·rw [e2]
  simp only [denM,Int.natAbs_natCast]
 ·intro h
  rw [e1] at h ⊢
  have h1:q.num≠0:=fun e=>h (by rw [e,Int.zero_tdiv,Int.zero_mul])
  have h2:r.num≠0:=fun e=>h (by rw [e,Int.zero_tdiv,Int.mul_zero])
  rw [yGS (yEJ (ykO _ _) h1) (yEJ (ykO _ _) h2),yyW (ykO _ _) h1,yyW (ykO _ _) h2]
theorem ysh {w:(Int→Int→Int→Prop)→Prop} {q:Rat} (det:∀ r0 r1 r2,(∀ K:Int→Int→Int→Prop,K r0 r1 r2→w K)→∀ K,w K=K r0 r1 r2) (h:∀ K,fitK q K→w K) (K:Int→Int→Int→Prop):w K=fitK q K:=by
 unfold fitK at h ⊢
 by_cases hs:small q
 ·simp only [if_pos hs] at h ⊢
  exact det _ _ _ h K
 ·simp only [if_neg hs] at h ⊢
  exact det _ _ _ h K
theorem yog {q r:Rat} (hq:small q) (hr:small r) (K:Int→Int→Int→Prop):yaI q.num q.den r.num r.den K=fitK (q*r) K :=
 ysh (fun r0 r1 r2 h K=>yxR _ _ _ _ r0 r1 r2 h K) (fun K k=>yD2 hq.i1 hq.i2 hr.i1 hr.i2 (by rw [if_pos (yeD hq hr),yAR];exact k)) K
theorem yFD {r:Rat} (h:r≠0):(r⁻¹).num=(if r.num<0 then -(r.den:Int) else r.den)∧(r⁻¹).den=r.num.natAbs:=by
 have h0:r.num≠0:=fun e=>h (Rat.num_eq_zero.1 e)
 constructor
 ·rw [Rat.num_inv]
  by_cases h1:r.num<0
  ·rw [if_pos h1,Int.sign_eq_neg_one_of_neg h1];omega
  ·rw [if_neg h1,Int.sign_eq_one_of_pos (by omega)];omega
 ·rw [Rat.den_inv,if_neg h0]
theorem yHU {q r:Rat} (hq:small q) (hr:small r) (h0:r≠0) (K:Int→Int→Int→Prop):ycn q.num q.den r.num r.den K=fitK (q / r) K:=by
 have hn:r.num≠0:=fun e=>h0 (Rat.num_eq_zero.1 e)
 refine ysh (fun r0 r1 r2 h K=>yxS _ _ _ _ r0 r1 r2 h K) (fun K k=>yIV hq.i1 hq.i2 hr.i1 hr.i2 ?_) K
 rw [if_pos (yeD hq hr),if_neg hn]
 rw [Rat.div_def,← yAR] at k
 obtain ⟨e1,e2⟩:=yFD h0
 rw [e1,e2] at k
 have s:decide ((if r.num<0 then -(r.den:Int) else (r.den:Int))<0)=decide (r.num<0):=by
  have:=r.den_pos
  split
  ·rename_i h;simp only [h];simp;omega
  ·rename_i h;simp only [h];simp
 rw [s] at k
 have hd:(if r.num<0 then -(r.den:Int) else (r.den:Int)).natAbs=r.den:=by split <;> omega
 unfold numM denM at k ⊢
 simp only [hd,Int.natAbs_natCast] at k ⊢
 exact k
theorem yFE (q r:Rat):(q+r).num=(q.num*(r.den / Nat.gcd q.den r.den:Nat)+r.num*(q.den / Nat.gcd q.den r.den:Nat)) / (Nat.gcd (q.num*(r.den / Nat.gcd q.den r.den:Nat)+r.num*(q.den / Nat.gcd q.den r.den:Nat)).natAbs (Nat.gcd q.den r.den):Nat) ∧
  (q+r).den=(q.den / Nat.gcd q.den r.den)*r.den / Nat.gcd (q.num*(r.den / Nat.gcd q.den r.den:Nat)+r.num*(q.den / Nat.gcd q.den r.den:Nat)).natAbs (Nat.gcd q.den r.den):=by
 have e:q+r=Rat.add q r:=rfl
 rw [e]
 delta Rat.add
 by_cases hg:q.den.gcd r.den=1
 ·simp only [hg,dif_pos,Nat.div_one,Nat.gcd_one_right,Int.natCast_one,Int.ediv_one,and_self]
 ·simp only [hg,dif_neg,not_false_eq_true,Rat.maybeNormalize_eq]
  constructor
  ·first | rfl | simp only [Int.divExact_eq_tdiv]
  ·first | rfl | simp only []
theorem yGT {q r:Rat} {Z:Int} {g:Nat} (e1:(q+r).num=Z / (Nat.gcd Z.natAbs g:Nat)) (e2:(q+r).den=(q.den / g)*r.den / Nat.gcd Z.natAbs g) (hgp:0<g) (hgd:g∣r.den) (K:Int→Int→Int→Prop) :
  outA (decide (Z<0)) (Z.natAbs:Int) q.den r.den g K=fitK (q+r) K:=by
 unfold outA
 by_cases h0:Z=0
 ·subst h0
  have:(q+r)=0:=by
   apply Rat.num_eq_zero.1
   rw [e1];simp
  rw [this,if_pos (by rfl)]
  unfold fitK
  rw [if_pos (by decide)];rfl
 ·have hne:¬((Z.natAbs:Nat):Int)=0:=by omega
  rw [if_neg hne]
  have hdv:((Nat.gcd Z.natAbs g:Nat):Int)∣Z:=ykO _ _
  have hhp:0<Nat.gcd Z.natAbs g:=qBd _ hgp
  have hhg:Nat.gcd Z.natAbs g∣r.den:=Nat.dvd_trans (Nat.gcd_dvd_right _ _) hgd
  refine yxa ?_ ?_ ?_ K
  ·rw [e1,Int.natAbs_ediv_of_dvd hdv];simp
  ·rw [e2];simp only [qAg];rw [Nat.mul_div_assoc _ hhg]
  ·intro h
   rw [e1]
   obtain ⟨k,hk⟩:=hdv
   revert hhp hk
   generalize Nat.gcd Z.natAbs g=h
   intro hhp hk
   have e:Z / (h:Int)=k:=by rw [hk,Int.mul_ediv_cancel_left _ (by omega)]
   rw [e]
   have:Z<0↔k<0:=by
    rw [hk]
    constructor
    ·intro hk;refine Int.not_le.1 fun hk2=>?_
     have:=qA5 (show 0≤(h:Int) by omega) hk2
     omega
    ·intro hk;exact Int.mul_neg_of_pos_of_neg (by omega) hk
   simp only [this]
theorem yAS (q r:Rat) (K:Int→Int→Int→Prop) :
  outA (decide (q.num*((r.den:Int) / (Nat.gcd (q.den:Int).natAbs (r.den:Int).natAbs:Nat))+r.num*((q.den:Int) / (Nat.gcd (q.den:Int).natAbs (r.den:Int).natAbs:Nat))<0))
   ((q.num*((r.den:Int) / (Nat.gcd (q.den:Int).natAbs (r.den:Int).natAbs:Nat))+r.num*((q.den:Int) / (Nat.gcd (q.den:Int).natAbs (r.den:Int).natAbs:Nat))).natAbs:Int) q.den r.den (Nat.gcd (q.den:Int).natAbs (r.den:Int).natAbs) K=fitK (q+r) K:=by
 obtain ⟨e1,e2⟩:=yFE q r
 rw [qAx,qAx] at e1 e2
 exact yGT e1 e2 (Nat.gcd_pos_of_pos_left _ q.den_pos) (Nat.gcd_dvd_right _ _) K
theorem yAT {q r:Rat} (hq:small q) (hr:small r) (K:Int→Int→Int→Prop):ybv q.num q.den r.num r.den K=fitK (q+r) K :=
 ysh (fun r0 r1 r2 h K=>yxP _ _ _ _ r0 r1 r2 h K) (fun K k=>yGO hq.i1 hq.i2 hr.i1 hr.i2 (by rw [if_pos (yeD hq hr),yAS];exact k)) K
theorem yvh {q r:Rat} (hq:small q) (hr:small r) (K:Int→Int→Int→Prop):ybC q.num q.den r.num r.den K=fitK (q-r) K :=
 ysh (fun r0 r1 r2 h K=>yxQ _ _ _ _ r0 r1 r2 h K) (fun K k=>yIW hq.i1 hq.i2 hr.i1 hr.i2 (by
  rw [if_pos (yeD hq hr)]
  rw [Rat.sub_eq_add_neg,← yAS] at k
  exact k)) K
theorem yGU {n d:Int} (hd:d≠0) (K:Int→Int→Int→Prop):outS (decide (n<0) != decide (d<0)) ((n.natAbs / Nat.gcd n.natAbs d.natAbs:Nat):Int) ((d.natAbs / Nat.gcd n.natAbs d.natAbs:Nat):Int) K=fitK ((n:Rat) / (d:Rat)) K:=by
 have e:(n:Rat) / (d:Rat)=mkRat (if d<0 then -n else n) d.natAbs:=by
  rw [Rat.mkRat_eq_div]
  split
  ·rename_i h
   have h1:((d.natAbs:Nat):Int)=-d:=by omega
   have h2:((d.natAbs:Nat):Rat)=-(d:Rat):=by rw [← Rat.intCast_natCast,h1,Rat.intCast_neg]
   rw [h2,Rat.intCast_neg]
   have h3:(d:Rat)≠0:=fun e=>hd (Rat.intCast_eq_zero_iff.1 e)
   grind
  ·rename_i h
   have h1:((d.natAbs:Nat):Int)=d:=by omega
   have h2:((d.natAbs:Nat):Rat)=(d:Rat):=by rw [← Rat.intCast_natCast,h1]
   rw [h2]
 have h0:d.natAbs≠0:=by omega
 have hab:(if d<0 then -n else n).natAbs=n.natAbs:=by split <;> omega
 rw [e]
 refine yxa ?_ ?_ ?_ K
 ·rw [Rat.num_mkRat,if_neg h0,hab,Int.natAbs_ediv_of_dvd,Int.natAbs_natCast,hab,Nat.gcd_comm]
  rw [← Int.dvd_natAbs,Int.ofNat_dvd,hab];exact Nat.gcd_dvd_right _ _
 ·rw [Rat.den_mkRat,if_neg h0,hab,Nat.gcd_comm]
 ·rw [Rat.num_mkRat,if_neg h0,hab]
  have hdv:((Nat.gcd d.natAbs n.natAbs:Nat):Int)∣(if d<0 then -n else n):=by
   rw [← Int.dvd_natAbs,Int.ofNat_dvd,hab];exact Nat.gcd_dvd_right _ _
  have hp:0<Nat.gcd d.natAbs n.natAbs:=Nat.gcd_pos_of_pos_left _ (by omega)
  obtain ⟨k,hk⟩:=hdv
  rw [hk,Int.mul_ediv_cancel_left _ (by omega)]
  intro hk0
  generalize Nat.gcd d.natAbs n.natAbs=g at *
  have h1:(g:Int)*k<0↔k<0:=by
   constructor
   ·intro hk;refine Int.not_le.1 fun hk2=>?_
    have:=qA5 (show 0≤(g:Int) by omega) hk2
    omega
   ·intro hk;exact Int.mul_neg_of_pos_of_neg (by omega) hk
  have h2:(g:Int)*k≠0:=fun e=>by rcases Int.mul_eq_zero.1 e with e | e <;> omega
  by_cases hd2:d<0
  ·rw [if_pos hd2] at hk
   by_cases hn:n<0
   ·have:¬k<0:=by omega
    simp [hd2,hn,this]
   ·have:k<0:=by omega
    simp [hd2,this];omega
  ·rw [if_neg hd2] at hk
   by_cases hn:n<0
   ·have:k<0:=by omega
    simp [hd2,hn,this]
   ·have:¬k<0:=by omega
    simp [hd2,this];omega
theorem yCC {n d:Int} (hn:I64 n) (hd:I64 d) (h0:d≠0) (K:Int→Int→Int→Prop):yaN n d K=fitK ((n:Rat) / (d:Rat)) K :=
 ysh (fun r0 r1 r2 h K=>ywB _ _ r0 r1 r2 h K) (fun K k=>yHS hn hd (by rw [if_neg h0,yGU h0];exact k)) K
def cmpQ (q r:Rat):Int:=if q<r then -1 else if r<q then 1 else 0
theorem yHV (q r:Rat):cmpR q.num q.den r.num r.den=cmpQ q r:=by
 unfold cmpR cmp3 cmpQ
 simp only [Rat.lt_iff]
theorem ylX {q r:Rat} (hq:small q) (hr:small r) (K:Int→Int→Prop):yaS q.num q.den r.num r.den K=K (cmpQ q r) 0 :=
 yoU _ _ _ _ _ _ (fun K k=>yGJ hq.i1 hq.i2 hr.i1 hr.i2 (by rw [yeD hq hr,if_pos rfl,yHV];exact k)) K
theorem yyX {n d:Int} (hn:I64 n) (hd:I64 d) (K:Int→Prop):ybu n d K=K (chk n d) :=
 yuE _ _ _ (fun _ k=>yw8 hn hd k) K
theorem yhT {p:Int} (h:I64 p) (K:Int→Prop):ygM p K=K (p.natAbs:Int):=by
 unfold I64 at h
 unfold ygM yp7
 by_cases hp:p<0
 ·have e0:IntKind.i64.wrap (p+1)=p+1:=wi64 ⟨by omega,by omega⟩
  have e1:IntKind.i64.wrap ((0:Int)-(p+1))=-(p+1):=by rw [wi64 ⟨by omega,by omega⟩];omega
  have e2:IntKind.u64.wrap (-(p+1))=-(p+1):=wu64 ⟨by omega,by omega⟩
  have e3:IntKind.u64.wrap (-(p+1)+1)=(p.natAbs:Int):=by rw [wu64 ⟨by omega,by omega⟩];omega
  rw [decide_eq_true hp,yag,e0,e1,e2,e3]
 ·rw [decide_eq_false hp,yab,wu64 ⟨by omega,by omega⟩]
  congr 1
  omega
theorem yyY (x:Int→Int→Bool→Prop):∀ (n a b:Nat),b<n→yfb x n (a:Int) (b:Int)=x ((Nat.gcd a b:Nat):Int) 0 false
 | 0,a,b,h=>by omega
 | n+1,a,b,h=>by
  unfold yfb
  by_cases hb:b=0
  ·subst hb
   simp [cbr]
  ·have h1:((b:Int) != 0)=true:=by simp;omega
   have h2:¬((b:Int)=0):=by omega
   rw [h1,yag,decide_eq_false h2,qA7,yaH]
   have e:Int.tmod (a:Int) (b:Int)=((a % b:Nat):Int):=by rw [Int.tmod_eq_emod_of_nonneg (by omega)];omega
   rw [e,yyY x n b (a % b) (by have:=Nat.mod_lt a (show b>0 by omega);omega)]
   rw [Nat.gcd_comm a b,Nat.gcd_rec b a,Nat.gcd_comm]
theorem ysi (a b:Nat) (K:Int→Prop):ydy (a:Int) (b:Int) K=K ((Nat.gcd a b:Nat):Int):=by
 refine yCr _ _ _ (fun K h=>?_) K
 unfold ydy yp8
 exact ⟨b+1,by rw [yyY _ (b+1) a b (by omega)];exact h⟩
theorem yxb {a b:Int} (h:a=b):(a != b)=false:=by simp [h]
theorem yCD {a b:Int} (h:a≠b):(a != b)=true:=by simp [h]
theorem yEK {a b:Int} (h:a≠b):(a == b)=false:=by simp [h]
theorem yGV {a b:Int} (h:a=b):(a == b)=true:=by simp [h]
theorem ykP {n d:Int} (hn:I64 n) (_:I64 d) (K:Int→Prop):ycp n d K=K (chk n d):=by
 unfold ycp ylA
 by_cases h1:d<1
 ·rw [decide_eq_true h1,yag,chk,if_neg (fun h=>by have:=h.1;omega)]
 ·rw [decide_eq_false h1,yab]
  by_cases h2:d>1000000000000000000
  ·rw [decide_eq_true h2,yag,chk,if_neg (fun h=>by have:=h.2.1;omega)]
  ·rw [decide_eq_false h2,yab]
   by_cases h3:n < -1000000000000000000
   ·rw [decide_eq_true h3,yag,chk,if_neg (fun h=>by have:=h.2.2.1;omega)]
   ·rw [decide_eq_false h3,yab]
    by_cases h4:n>1000000000000000000
    ·rw [decide_eq_true h4,yag,chk,if_neg (fun h=>by have:=h.2.2.2.1;omega)]
    ·have ed:IntKind.u64.wrap d=((d.natAbs:Nat):Int):=by rw [wu64 ⟨by omega,by omega⟩];omega
     rw [decide_eq_false h4,yab,yhT hn,ed,ysi]
     by_cases h5:Nat.gcd n.natAbs d.natAbs=1
     ·rw [h5,yxb (by rfl),yab,chk,if_pos ⟨by omega,by omega,by omega,by omega,h5⟩]
     ·rw [yCD (by omega),yag,chk,if_neg (fun h=>h5 h.2.2.2.2)]
theorem ynO {a b c d:Int} (ha:I64 a) (hb:I64 b) (hc:I64 c) (hd:I64 d) (K:Int→Prop):ygN a b c d K=K (chk2 a b c d):=by
 unfold ygN ynk
 rw [ykP ha hb,ykP ha hb,ykP hc hd,chk2]
 by_cases h:chk a b=0
 ·rw [yxb h,yab,if_pos h]
 ·rw [yCD h,yag,if_neg h]
theorem or32 {m s:Int} (_:0≤m) (hs:0≤s∧s<4294967296):IntKind.u64.wrap (BitVec.ofInt IntKind.u64.bits (IntKind.u64.wrap (m*4294967296))|||BitVec.ofInt IntKind.u64.bits s).toNat=m % 4294967296*4294967296+s:=by
 have e:IntKind.u64.wrap (m*4294967296)=m % 4294967296*2 ^ 32:=by rw [yhx];omega
 rw [e,yGL (k:=32) (by omega) ⟨hs.1,by omega⟩ ⟨by omega,by omega⟩ (by omega)]
 omega
theorem yGW {a b:Int} (ha:U64 a) (hb:U64 b) (K:Int→Int→Prop):ydJ a b K=K (a*b / 18446744073709551616) (a*b % 18446744073709551616):=by
 unfold ydJ ylC
 simp only [yGI]
 rw [ylW ha,ylW hb]
 unfold U64 at ha hb
 have ha':=ha;have hb':=hb
 obtain ⟨x1,hx1⟩:∃ x,x=a / 4294967296:=⟨_,rfl⟩
 obtain ⟨x0,hx0⟩:∃ x,x=a % 4294967296:=⟨_,rfl⟩
 obtain ⟨y1,hy1⟩:∃ x,x=b / 4294967296:=⟨_,rfl⟩
 obtain ⟨y0,hy0⟩:∃ x,x=b % 4294967296:=⟨_,rfl⟩
 rw [← hx1,← hx0,← hy1,← hy0]
 have b1:0≤x1∧x1≤4294967295:=by omega
 have b2:0≤x0∧x0≤4294967295:=by omega
 have b3:0≤y1∧y1≤4294967295:=by omega
 have b4:0≤y0∧y0≤4294967295:=by omega
 have pb:∀ x y:Int,0≤x∧x≤4294967295→0≤y∧y≤4294967295→0≤x*y∧x*y≤18446744065119617025:=by
  intro x y hx hy
  refine ⟨qA5 hx.1 hy.1,?_⟩
  have:=Int.mul_le_mul hx.2 hy.2 hy.1 (by omega:(0:Int)≤4294967295)
  omega
 have p1:=pb x1 y1 b1 b3
 have p2:=pb x1 y0 b1 b4
 have p3:=pb x0 y1 b2 b3
 have p4:=pb x0 y0 b2 b4
 have ea:a=x1*4294967296+x0:=by omega
 have eb:b=y1*4294967296+y0:=by omega
 have eab:a*b=x1*y1*18446744073709551616+x1*y0*4294967296+x0*y1*4294967296+x0*y0:=by
  rw [ea,eb];grind
 obtain ⟨P,hP⟩:∃ x,x=x1*y1:=⟨_,rfl⟩
 obtain ⟨Q,hQ⟩:∃ x,x=x1*y0:=⟨_,rfl⟩
 obtain ⟨R,hR⟩:∃ x,x=x0*y1:=⟨_,rfl⟩
 obtain ⟨S,hS⟩:∃ x,x=x0*y0:=⟨_,rfl⟩
 rw [← hP] at p1;rw [← hQ] at p2;rw [← hR] at p3;rw [← hS] at p4
 rw [← hP,← hQ,← hR,← hS] at eab ⊢
 have w1:IntKind.u64.wrap S=S:=wu64 ⟨by omega,by omega⟩
 have w2:IntKind.u64.wrap Q=Q:=wu64 ⟨by omega,by omega⟩
 have w3:IntKind.u64.wrap R=R:=wu64 ⟨by omega,by omega⟩
 have w4:IntKind.u64.wrap P=P:=wu64 ⟨by omega,by omega⟩
 rw [w1,w2,w3,w4,ylW (p:=Q) ⟨by omega,by omega⟩,ylW (p:=S) ⟨by omega,by omega⟩]
 have w5:IntKind.u64.wrap (Q % 4294967296+R)=Q % 4294967296+R:=wu64 ⟨by omega,by omega⟩
 rw [w5]
 have w6:IntKind.u64.wrap (Q % 4294967296+R+S / 4294967296)=Q % 4294967296+R+S / 4294967296:=wu64 ⟨by omega,by omega⟩
 rw [w6,or32 (by omega) ⟨by omega,by omega⟩]
 have hab:a*b≤18446744073709551615*18446744073709551615:=Int.mul_le_mul ha'.2 hb'.2 hb'.1 (by omega:(0:Int)≤18446744073709551615)
 rw [eab] at hab ⊢
 have w7:IntKind.u64.wrap (P+Q / 4294967296)=P+Q / 4294967296:=wu64 ⟨by omega,by omega⟩
 rw [w7,wu64 ⟨by omega,by omega⟩]
 congr 1 <;> omega
theorem yAU {X Y:Int} (hx:0≤X) (hy:0≤Y) (hs:X+Y<340282366920938463463374607431768211456) (K:Int→Int→Prop) :
  ydg (X / 18446744073709551616) (X % 18446744073709551616) (Y / 18446744073709551616) (Y % 18446744073709551616) K=K ((X+Y) / 18446744073709551616) ((X+Y) % 18446744073709551616):=by
 unfold ydg ynm
 rw [yhx,yhx,yhx]
 by_cases h:(X % 18446744073709551616+Y % 18446744073709551616) % 18446744073709551616<X % 18446744073709551616
 ·rw [decide_eq_true h,yag]
  congr 1 <;> omega
 ·rw [decide_eq_false h,yab]
  congr 1 <;> omega
theorem yCE {X Y:Int} (hy:0≤Y) (hs:Y≤X) (hx:X<340282366920938463463374607431768211456) (K:Int→Int→Prop) :
  yfH (X / 18446744073709551616) (X % 18446744073709551616) (Y / 18446744073709551616) (Y % 18446744073709551616) K=K ((X-Y) / 18446744073709551616) ((X-Y) % 18446744073709551616):=by
 unfold yfH yhP
 rw [yhx,yhx,yhx]
 by_cases h:X % 18446744073709551616<Y % 18446744073709551616
 ·rw [decide_eq_true h,yag]
  congr 1 <;> omega
 ·rw [decide_eq_false h,yab]
  congr 1 <;> omega
theorem ysj {X Y:Int} (_:0≤X) (_:0≤Y) (K:Bool→Prop) :
  yiA (X / 18446744073709551616) (X % 18446744073709551616) (Y / 18446744073709551616) (Y % 18446744073709551616) K=K (decide (X<Y)):=by
 unfold yiA yni
 by_cases h:X / 18446744073709551616<Y / 18446744073709551616
 ·rw [decide_eq_true h,yag,decide_eq_true (by omega)]
 ·rw [decide_eq_false h,yab]
  by_cases h2:X / 18446744073709551616=Y / 18446744073709551616
  ·rw [yGV h2,yag]
   congr 1
   rw [decide_eq_decide];omega
  ·rw [yEK h2,yab,decide_eq_false (by omega)]
theorem yJk {i:Int} (h:0≤i∧i≤127):IntKind.i64.wrap (BitVec.ofInt IntKind.i64.bits i&&&BitVec.ofInt IntKind.i64.bits (63:Int)).toNat=i % 64:=by
 have e1:(BitVec.ofInt 64 i).toNat=i.toNat:=by
  rw [BitVec.toNat_ofInt];omega
 have e2:(BitVec.ofInt 64 (63:Int)).toNat=63:=rfl
 have e3:(BitVec.ofInt IntKind.i64.bits i&&&BitVec.ofInt IntKind.i64.bits (63:Int)).toNat=i.toNat % 64:=by
  show (BitVec.ofInt 64 i&&&BitVec.ofInt 64 (63:Int)).toNat=_
  rw [BitVec.toNat_and,e1,e2]
  exact Nat.and_two_pow_sub_one_eq_mod i.toNat 6
 rw [e3,wi64 ⟨by omega,by omega⟩]
 omega
theorem and1 {p:Int} (h:U64 p):IntKind.u64.wrap (BitVec.ofInt IntKind.u64.bits p&&&BitVec.ofInt IntKind.u64.bits (1:Int)).toNat=p % 2:=by
 unfold U64 at h
 have e1:(BitVec.ofInt 64 p).toNat=p.toNat:=by
  rw [BitVec.toNat_ofInt];omega
 have e2:(BitVec.ofInt 64 (1:Int)).toNat=1:=rfl
 have e3:(BitVec.ofInt IntKind.u64.bits p&&&BitVec.ofInt IntKind.u64.bits (1:Int)).toNat=p.toNat % 2:=by
  show (BitVec.ofInt 64 p&&&BitVec.ofInt 64 (1:Int)).toNat=_
  rw [BitVec.toNat_and,e1,e2]
  exact Nat.and_two_pow_sub_one_eq_mod p.toNat 1
 rw [e3,yhx]
 omega
theorem or1 {m s:Int} (hm:0≤m∧m≤9223372036854775807) (hs:0≤s∧s<2):IntKind.u64.wrap (BitVec.ofInt IntKind.u64.bits (m*2)|||BitVec.ofInt IntKind.u64.bits s).toNat=m*2+s:=by
 have:=yGL (a:=m) (b:=s) (k:=1) hm.1 ⟨hs.1,by omega⟩ ⟨by omega,by omega⟩ (by omega)
 simpa using this
theorem ynP (i:Nat):(2:Int) ^ i=((2 ^ i:Nat):Int):=by rw [Int.natCast_pow];rfl
theorem yHW {W:Nat} (hW:W=2 ^ 64) {A:Int} (hA:0≤A) {i:Nat} (hi:i<64):A % (W:Int) / (2 ^ i:Int) % ((2:Nat):Int)=A / (2 ^ i:Int) % ((2:Nat):Int):=by
 obtain ⟨a,rfl⟩:∃ a:Nat,A=a:=⟨A.toNat,by omega⟩
 have:(a % W / 2 ^ i % 2:Nat)=a / 2 ^ i % 2:=by
  have e:W=2 ^ i*2 ^ (64-i):=by rw [← Nat.pow_add];rw [show i+(64-i)=64 by omega,hW]
  rw [e,Nat.mod_mul_right_div_self]
  have e2:2 ^ (64-i)=2*2 ^ (63-i):=by rw [show 64-i=(63-i)+1 by omega,Nat.pow_succ,Nat.mul_comm]
  rw [e2,Nat.mod_mul_right_mod]
 rw [ynP,← Int.natCast_emod,← qAx,← Int.natCast_emod,← qAx,← Int.natCast_emod,this]
theorem yIY {A:Int} (hA:0≤A) {i:Nat} (hi:i<64):A % 18446744073709551616 / (2 ^ i:Int) % 2=A / (2 ^ i:Int) % 2:=yHW (W:=18446744073709551616) rfl hA hi
theorem yHX {W:Nat} (hW:W=2 ^ 64) {A:Int} (hA:0≤A) {i:Nat} (hi:64≤i):A / (W:Int) / (2 ^ (i-64):Int)=A / (2 ^ i:Int):=by
 obtain ⟨a,rfl⟩:∃ a:Nat,A=a:=⟨A.toNat,by omega⟩
 have:(a / W / 2 ^ (i-64):Nat)=a / 2 ^ i:=by
  have e:(2 ^ i:Nat)=W*2 ^ (i-64):=by
   rw [hW,← Nat.pow_add,show 64+(i-64)=i by omega]
  rw [e,Nat.div_div_eq_div_mul]
 rw [ynP,ynP,← qAx,← qAx,← qAx,this]
theorem yIZ {A:Int} (hA:0≤A) {i:Nat} (hi:64≤i):A / 18446744073709551616 / (2 ^ (i-64):Int)=A / (2 ^ i:Int):=yHX (W:=18446744073709551616) rfl hA hi
theorem yGX {d B q r b:Int} (hd:0<d) (hq:B / d=q) (hr:B % d=r) (hb:0≤b∧b≤1) :
  (2*B+b) / d=(if 2*r+b≥d then 2*q+1 else 2*q)∧(2*B+b) % d=(if 2*r+b≥d then 2*r+b-d else 2*r+b):=by
 have h1:=Int.mul_ediv_add_emod B d
 have h2:=Int.emod_nonneg B (show d≠0 by omega)
 have h3:=Int.emod_lt_of_pos B hd
 rw [hq,hr] at h1
 rw [hr] at h2 h3
 split
 ·refine (Int.ediv_emod_unique hd).2 ⟨?_,by omega,by omega⟩
  grind
 ·refine (Int.ediv_emod_unique hd).2 ⟨?_,by omega,by omega⟩
  grind
theorem yD4 {A d:Int} (hA:0≤A∧A<340282366920938463463374607431768211456) (hd:0<d∧d<9223372036854775808) {x0:Int→Int→Int→Int→Int→Int→Int→Int→Int→Bool→Prop}
  (k0:x0 d (A / 18446744073709551616) (A % 18446744073709551616) 0 0 (A / d / 18446744073709551616) (A / d % 18446744073709551616) (A % d) (-1) false) :
  ∀ (k n:Nat),k≤128→k<n→ybr ydg x0 n d (A / 18446744073709551616) (A % 18446744073709551616) 0 0
   (A / 2 ^ k / d / 18446744073709551616) (A / 2 ^ k / d % 18446744073709551616) (A / 2 ^ k % d) ((k:Int)-1):=by
 intro k
 induction k with
 | zero =>
  intro n _ hn
  match n,hn with
  | n+1,_ =>
   unfold ybr
   rw [decide_eq_false (by omega),yab]
   have e:A / 2 ^ 0=A:=by rw [Int.pow_zero,Int.ediv_one]
   rw [e]
   exact k0
 | succ k ih =>
  intro n hk hn
  match n,hn with
  | n+1,hn =>
   unfold ybr
   have e8:((k+1:Nat):Int)-1=(k:Int):=by omega
   rw [e8,decide_eq_true (by omega),yag]
   rw [yJk (i:=(k:Int)) ⟨by omega,by omega⟩]
   have en:(!decide ((k:Int) % 64<0))=true:=by rw [decide_eq_false (by omega)];rfl
   have em:min ((k:Int) % 64).toNat IntKind.u64.bits=k % 64:=by show min _ 64=_;omega
   rw [en,yaH,yaH,em]
   have pp:∀ m:Nat,(0:Int)≤2 ^ m:=fun m=>by rw [ynP];exact qB0 _
   have p1:∀ m:Nat,(0:Int)<2 ^ m:=fun m=>by rw [ynP];exact Int.natCast_pos.2 (Nat.two_pow_pos m)
   simp only [yun _ _ (pp _)]
   have hC0:0≤A / 2 ^ k:=Int.ediv_nonneg hA.1 (pp _)
   have hCA:A / 2 ^ k≤A:=Int.ediv_le_self _ hA.1
   have hBC:A / 2 ^ (k+1)=A / 2 ^ k / 2:=by
    rw [Int.pow_succ,Int.ediv_ediv_of_nonneg (pp k)]
   obtain ⟨C,hC⟩:∃ C,C=A / 2 ^ k:=⟨_,rfl⟩
   have ih2:=ih n (by omega) (by omega)
   rw [← hC] at hC0 hCA hBC ih2
   rw [hBC]
   obtain ⟨b,hb⟩:∃ b,b=C % 2:=⟨_,rfl⟩
   have hCb:C=2*(C / 2)+b:=by omega
   obtain ⟨s1,s2⟩:=yGX (B:=C / 2) (b:=b) hd.1 rfl rfl ⟨by omega,by omega⟩
   rw [← hCb] at s1 s2
   have r0:=Int.emod_nonneg (C / 2) (show d≠0 by omega)
   have r1:=Int.emod_lt_of_pos (C / 2) hd.1
   have q0:0≤C / 2 / d:=Int.ediv_nonneg (by omega) (by omega)
   have q1:C / 2 / d≤C / 2:=Int.ediv_le_self _ (by omega)
   rw [s1,s2] at ih2
   obtain ⟨q,hq⟩:∃ q,q=C / 2 / d:=⟨_,rfl⟩
   obtain ⟨r,hr⟩:∃ r,r=C / 2 % d:=⟨_,rfl⟩
   rw [← hq,← hr] at ih2
   rw [← hq] at q0 q1
   rw [← hr] at r0 r1
   rw [← hq,← hr]
   have e2:IntKind.u64.wrap (r*2)=r*2:=wu64 ⟨by omega,by omega⟩
   rw [e2,wi64 (n:=(k:Int)-1) ⟨by omega,by omega⟩]
   rw [yAU q0 q0 (by omega),yAU q0 q0 (by omega)]
   have hlo:0≤A % 18446744073709551616 / 2 ^ (k % 64)∧A % 18446744073709551616 / 2 ^ (k % 64)≤18446744073709551615:=by
    refine ⟨Int.ediv_nonneg (by omega) (pp _),?_⟩
    have:=Int.ediv_le_self (a:=A % 18446744073709551616) (2 ^ (k % 64)) (by omega)
    omega
   have hhi:0≤A / 18446744073709551616 / 2 ^ (k % 64)∧A / 18446744073709551616 / 2 ^ (k % 64)≤18446744073709551615:=by
    refine ⟨Int.ediv_nonneg (by omega) (pp _),?_⟩
    have:=Int.ediv_le_self (a:=A / 18446744073709551616) (2 ^ (k % 64)) (by omega)
    omega
   rw [and1 hlo,and1 hhi]
   have go:∀ bb:Int,bb=b→cbr (decide (IntKind.u64.wrap (BitVec.ofInt IntKind.u64.bits (r*2)|||BitVec.ofInt IntKind.u64.bits bb).toNat≥d))
     (ybr ydg x0 n d (A / 18446744073709551616) (A % 18446744073709551616) 0 0 ((q+q) / 18446744073709551616) (IntKind.u64.wrap (BitVec.ofInt IntKind.u64.bits ((q+q) % 18446744073709551616)|||BitVec.ofInt IntKind.u64.bits (1:Int)).toNat) (IntKind.u64.wrap ((IntKind.u64.wrap (BitVec.ofInt IntKind.u64.bits (r*2)|||BitVec.ofInt IntKind.u64.bits bb).toNat)-d)) ((k:Int)-1))
     (ybr ydg x0 n d (A / 18446744073709551616) (A % 18446744073709551616) 0 0 ((q+q) / 18446744073709551616) ((q+q) % 18446744073709551616) (IntKind.u64.wrap (BitVec.ofInt IntKind.u64.bits (r*2)|||BitVec.ofInt IntKind.u64.bits bb).toNat) ((k:Int)-1)):=by
    intro bb hbb
    rw [hbb,or1 ⟨r0,by omega⟩ ⟨by omega,by omega⟩]
    by_cases hge:2*r+b≥d
    ·rw [if_pos hge,if_pos hge] at ih2
     rw [decide_eq_true (show r*2+b≥d by omega),yag,wu64 (n:=r*2+b-d) ⟨by omega,by omega⟩]
     have e3:(q+q) % 18446744073709551616=((q % 9223372036854775808)*2):=by omega
     rw [e3,or1 ⟨by omega,by omega⟩ ⟨by omega,by omega⟩]
     have e4:(q+q) / 18446744073709551616=(2*q+1) / 18446744073709551616:=by omega
     have e5:q % 9223372036854775808*2+1=(2*q+1) % 18446744073709551616:=by omega
     rw [e4,e5,show r*2+b-d=2*r+b-d by omega]
     exact ih2
    ·rw [if_neg hge,if_neg hge] at ih2
     rw [decide_eq_false (show ¬r*2+b≥d by omega),yab,show q+q=2*q by omega,show r*2+b=2*r+b by omega]
     exact ih2
   by_cases h64:(k:Int)≥64
   ·rw [decide_eq_true h64,yag]
    refine go _ ?_
    rw [show k % 64=k-64 by omega,yIZ hA.1 (by omega),← hC,hb]
   ·rw [decide_eq_false h64,yab]
    refine go _ ?_
    rw [show k % 64=k by omega,yIY hA.1 (by omega),← hC,hb]
theorem yGY {A d:Int} (hA:0≤A∧A<340282366920938463463374607431768211456) (hd:0<d∧d<9223372036854775808) (K:Int→Int→Int→Prop) :
  ydb (A / 18446744073709551616) (A % 18446744073709551616) d K=K (A / d / 18446744073709551616) (A / d % 18446744073709551616) (A % d):=by
 refine yya _ _ _ _ _ _ (fun K h=>?_) K
 unfold ydb ylE
 refine ⟨129,?_⟩
 have e:=yD4 (x0:=fun f g i j k a b c l m=>K a b c) hA hd h 128 129 (by omega) (by omega)
 have z:A / 2 ^ 128=0:=Int.ediv_eq_zero_of_lt hA.1 hA.2
 rw [z,Int.zero_ediv,Int.zero_emod] at e
 exact e
theorem yEL {s:Bool} {X Y:Int} (hx:0≤X) (hy:0≤Y) (K:Int→Int→Int→Prop) :
  ygO s (X / 18446744073709551616) (X % 18446744073709551616) (Y / 18446744073709551616) (Y % 18446744073709551616) K=outS s X Y K:=by
 unfold ygO ynp outS
 by_cases h:X≤1000000000000000000∧Y≤1000000000000000000
 ·have e1:IntKind.i64.wrap (X % 18446744073709551616)=X:=by rw [show X % 18446744073709551616=X by omega,wi64 ⟨by omega,by omega⟩]
  have e2:IntKind.i64.wrap (Y % 18446744073709551616)=Y:=by rw [show Y % 18446744073709551616=Y by omega,wi64 ⟨by omega,by omega⟩]
  rw [if_pos h,decide_eq_false (by omega),yab,decide_eq_false (by omega),yab,decide_eq_false (by omega),yab,decide_eq_false (by omega),yab,e1,e2]
  cases s
  ·rw [yab];rfl
  ·rw [yag,wi64 ⟨by omega,by omega⟩,Int.zero_sub];rfl
 ·rw [if_neg h]
  by_cases h1:X / 18446744073709551616>0
  ·rw [decide_eq_true h1,yag]
  ·rw [decide_eq_false h1,yab]
   by_cases h2:Y / 18446744073709551616>0
   ·rw [decide_eq_true h2,yag]
   ·rw [decide_eq_false h2,yab]
    by_cases h3:X % 18446744073709551616>1000000000000000000
    ·rw [decide_eq_true h3,yag]
    ·rw [decide_eq_false h3,yab,decide_eq_true (by omega),yag]
theorem ytC {g:Int} (h:g≠0) {P:Prop}:asr (!(decide (g=(0:Int)))) P=P:=by
 rw [decide_eq_false h];rfl
theorem wuN {n:Nat} (h:(n:Int)≤18446744073709551615):IntKind.u64.wrap (n:Int)=n:=wu64 ⟨by omega,h⟩
theorem yCF (a b:Nat):Int.tdiv (a:Int) (b:Int)=((a / b:Nat):Int):=by
 rw [Int.tdiv_eq_ediv_of_nonneg (by omega),qAx]
theorem yyZ {A d:Nat} (hA:A<340282366920938463463374607431768211456) (hd:0<d∧d<9223372036854775808) (K:Int→Int→Int→Prop) :
  ydb ((A:Int) / 18446744073709551616) ((A:Int) % 18446744073709551616) d K=K (((A / d:Nat):Int) / 18446744073709551616) (((A / d:Nat):Int) % 18446744073709551616) ((A % d:Nat):Int):=by
 rw [yGY ⟨by omega,by omega⟩ ⟨by omega,by omega⟩,qAx,Int.natCast_emod]
theorem ygT {a b:Nat} (ha:a≤18446744073709551615) (hb:b≤18446744073709551615) (K:Int→Int→Prop) :
  ydJ (a:Int) (b:Int) K=K (((a*b:Nat):Int) / 18446744073709551616) (((a*b:Nat):Int) % 18446744073709551616):=by
 rw [yGW ⟨by omega,by omega⟩ ⟨by omega,by omega⟩,Int.natCast_mul]
theorem yFF {a b c d:Int} {K:Int→Int→Prop} {Z:Prop} (h:∀ u v,K u v=Z):yfH a b c d K=Z:=by
 unfold yfH yhP
 simp only [h]
 by_cases e:b<d
 ·rw [decide_eq_true e,yag]
 ·rw [decide_eq_false e,yab]
theorem yHY {s:Bool} {Z p1 p3 g:Nat} (hZ:Z<340282366920938463463374607431768211456) (hg:0<g) (g1:g≤1000000000000000000) (h1:p1≤1000000000000000000) (h3:p3≤1000000000000000000) (K:Int→Int→Int→Prop) :
  cbr (((Z:Int) / 18446744073709551616 ==(0:Int))&&(((Z:Int) % 18446744073709551616 ==(0:Int))&&true)) (K 0 1 0)
   (ydb ((Z:Int) / 18446744073709551616) ((Z:Int) % 18446744073709551616) (g:Int) (fun _ _ b =>
    (ydy b (g:Int) (fun a =>
     (ydb ((Z:Int) / 18446744073709551616) ((Z:Int) % 18446744073709551616) a (fun c d _ =>
      (asr (!(decide ((g:Int)=(0:Int)))) (asr (!(decide (a=(0:Int))))
       (ydJ (IntKind.u64.wrap (Int.tdiv (IntKind.u64.wrap (p1:Int)) (g:Int))) (IntKind.u64.wrap (Int.tdiv (IntKind.u64.wrap (p3:Int)) a)) (fun f h =>
        (ygO s c d f h (fun i j k=>K i j k))))))))))))=outA s (Z:Int) p1 p3 g K:=by
 unfold outA
 by_cases h0:Z=0
 ·subst h0;rfl
 ·have e:(((Z:Int) / 18446744073709551616 ==(0:Int))&&(((Z:Int) % 18446744073709551616 ==(0:Int))&&true))=false:=by
   by_cases e1:(Z:Int) / 18446744073709551616=0
   ·rw [yGV e1,yEK (by omega)];rfl
   ·rw [yEK e1];rfl
  have hg0:0<Nat.gcd Z g:=qBd _ hg
  have hgg:Nat.gcd Z g≤g:=Nat.gcd_le_right _ hg
  have eg:Nat.gcd (Z % g) g=Nat.gcd Z g:=by rw [Nat.gcd_comm Z g,Nat.gcd_rec g Z]
  have q1:p1 / g≤p1:=qBa _ _
  have q3:p3 / Nat.gcd Z g≤p3:=qBa _ _
  rw [e,yab,if_neg (by omega),yyZ hZ ⟨hg,by omega⟩]
  simp only [ysi,eg]
  rw [yyZ hZ ⟨hg0,by omega⟩,ytC (by omega),ytC (by omega),wuN (by omega),wuN (by omega),yCF,yCF,wuN (by omega),wuN (by omega),ygT (by omega) (by omega)]
  rw [yEL (qB0 _) (qB0 _)]
  simp only [qAg]
theorem yAV {q r:Rat} (hq:small q) (hr:small r) (K:Int→Int→Int→Prop):yfI q.num q.den r.num r.den K=fitK (q+r) K:=by
 unfold yfI yqb
 rw [ynO hq.i1 hq.i2 hr.i1 hr.i2,yeD hq hr,yxb rfl,yab,← yAS]
 obtain ⟨a1,a2,a3⟩:=hq
 obtain ⟨b1,b2,b3⟩:=hr
 have dq:=q.den_pos
 have dr:=r.den_pos
 have g0:0<Nat.gcd q.den r.den:=Nat.gcd_pos_of_pos_left _ dq
 have gl:Nat.gcd q.den r.den≤q.den:=Nat.gcd_le_left _ dq
 have w1:ydy (IntKind.u64.wrap (q.den:Int)) (IntKind.u64.wrap (r.den:Int))=ydy (q.den:Int) (r.den:Int):=by rw [wuN (by omega),wuN (by omega)]
 rw [w1,ysi,yhT ⟨by omega,by omega⟩,ytC (by omega)]
 show _=outA (decide (q.num*((r.den:Int) / (Nat.gcd q.den r.den:Nat))+r.num*((q.den:Int) / (Nat.gcd q.den r.den:Nat))<0)) ((q.num*((r.den:Int) / (Nat.gcd q.den r.den:Nat))+r.num*((q.den:Int) / (Nat.gcd q.den r.den:Nat))).natAbs:Int) q.den r.den (Nat.gcd q.den r.den) K
 obtain ⟨g,hg⟩:∃ g,g=Nat.gcd q.den r.den:=⟨_,rfl⟩
 rw [← hg] at g0 gl ⊢
 have q3:r.den / g≤r.den:=qBa _ _
 have q4:q.den / g≤q.den:=qBa _ _
 have t1:IntKind.u64.wrap (Int.tdiv (IntKind.u64.wrap (r.den:Int)) (g:Int))=((r.den / g:Nat):Int):=by rw [wuN (by omega),yCF,wuN (by omega)]
 have t2:IntKind.u64.wrap (Int.tdiv (IntKind.u64.wrap (q.den:Int)) (g:Int))=((q.den / g:Nat):Int):=by rw [wuN (by omega),yCF,wuN (by omega)]
 rw [t1,ygT (by omega) (by omega)]
 rw [yhT ⟨by omega,by omega⟩,ytC (by omega),t2,ygT (by omega) (by omega)]
 rw [← qAx,← qAx]
 obtain ⟨x,hx⟩:∃ x,x=r.den / g:=⟨_,rfl⟩
 obtain ⟨y,hy⟩:∃ y,y=q.den / g:=⟨_,rfl⟩
 rw [← hx] at q3 ⊢
 rw [← hy] at q4 ⊢
 have X1:q.num.natAbs*x≤1000000000000000000*1000000000000000000:=Nat.mul_le_mul (by omega) (by omega)
 have Y1:r.num.natAbs*y≤1000000000000000000*1000000000000000000:=Nat.mul_le_mul (by omega) (by omega)
 have ax:q.num*(x:Int)=if q.num<0 then -((q.num.natAbs*x:Nat):Int) else ((q.num.natAbs*x:Nat):Int):=by
  rw [Int.natCast_mul]
  split
  ·rw [show ((q.num.natAbs:Nat):Int)=-q.num by omega,Int.neg_mul,Int.neg_neg]
  ·rw [show ((q.num.natAbs:Nat):Int)=q.num by omega]
 have cy:r.num*(y:Int)=if r.num<0 then -((r.num.natAbs*y:Nat):Int) else ((r.num.natAbs*y:Nat):Int):=by
  rw [Int.natCast_mul]
  split
  ·rw [show ((r.num.natAbs:Nat):Int)=-r.num by omega,Int.neg_mul,Int.neg_neg]
  ·rw [show ((r.num.natAbs:Nat):Int)=r.num by omega]
 rw [ax,cy]
 obtain ⟨X,hX⟩:∃ X,X=q.num.natAbs*x:=⟨_,rfl⟩
 obtain ⟨Y,hY⟩:∃ Y,Y=r.num.natAbs*y:=⟨_,rfl⟩
 rw [← hX] at X1 ⊢
 rw [← hY] at Y1 ⊢
 rw [yAU (by omega) (by omega) (by omega)]
 have fin:=fun (s:Bool) (Z:Nat) (hZ:Z<340282366920938463463374607431768211456)=>yHY (s:=s) (Z:=Z) (p1:=q.den) (p3:=r.den) (g:=g) hZ g0 (by omega) (by omega) (by omega) K
 simp only [t2,← hy] at fin
 have cong:∀ (s s':Bool) (Z Z':Int),Z=Z'→(Z≠0→s=s')→outA s Z q.den r.den g K=outA s' Z' q.den r.den g K:=by
  intro s s' Z Z' h1 h2
  subst h1
  by_cases h:Z=0
  ·unfold outA;rw [if_pos h,if_pos h]
  ·rw [h2 h]
 by_cases hs:decide (q.num<0)=decide (r.num<0)
 ·have e:(decide (q.num<0) != decide (r.num<0))=false:=by rw [hs];simp
  rw [e,yab,show (X:Int)+Y=((X+Y:Nat):Int) by omega]
  rw [fin (decide (q.num<0)) (X+Y) (by omega)]
  refine cong _ _ _ _ ?_ ?_
  ·by_cases h1:q.num<0
   ·have h2:r.num<0:=by simpa [h1] using hs.symm
    rw [if_pos h1,if_pos h2];omega
   ·have h2:¬r.num<0:=by simpa [h1] using hs.symm
    rw [if_neg h1,if_neg h2];omega
  ·intro h0
   by_cases h1:q.num<0
   ·have h2:r.num<0:=by simpa [h1] using hs.symm
    rw [if_pos h1,if_pos h2,decide_eq_true h1,decide_eq_true (by omega)]
   ·have h2:¬r.num<0:=by simpa [h1] using hs.symm
    rw [if_neg h1,if_neg h2,decide_eq_false h1,decide_eq_false (by omega)]
 ·have e:(decide (q.num<0) != decide (r.num<0))=true:=by simpa using hs
  have h12:(q.num<0∧¬r.num<0)∨(¬q.num<0∧r.num<0):=by
   by_cases h1:q.num<0 <;> by_cases h2:r.num<0 <;> simp [h1,h2] at hs ⊢
  rw [e,yag]
  by_cases hlt:X<Y
  ·refine yFF (fun u v=>?_)
   rw [ysj (by omega) (by omega),decide_eq_true (by omega),yag,yCE (by omega) (by omega) (by omega)]
   have ez:(Y:Int)-X=((Y-X:Nat):Int):=by omega
   rw [ez]
   rw [fin (decide (r.num<0)) (Y-X) (by omega)]
   refine cong _ _ _ _ ?_ ?_
   ·rcases h12 with ⟨h1,h2⟩ | ⟨h1,h2⟩
    ·rw [if_pos h1,if_neg h2];omega
    ·rw [if_neg h1,if_pos h2];omega
   ·intro h0
    rcases h12 with ⟨h1,h2⟩ | ⟨h1,h2⟩
    ·rw [if_pos h1,if_neg h2,decide_eq_false h2,decide_eq_false (by omega)]
    ·rw [if_neg h1,if_pos h2,decide_eq_true h2,decide_eq_true (by omega)]
  ·rw [yCE (by omega) (by omega) (by omega),ysj (by omega) (by omega),decide_eq_false (by omega),yab]
   have ez:(X:Int)-Y=((X-Y:Nat):Int):=by omega
   rw [ez]
   rw [fin (decide (q.num<0)) (X-Y) (by omega)]
   refine cong _ _ _ _ ?_ ?_
   ·rcases h12 with ⟨h1,h2⟩ | ⟨h1,h2⟩
    ·rw [if_pos h1,if_neg h2];omega
    ·rw [if_neg h1,if_pos h2];omega
   ·intro h0
    rcases h12 with ⟨h1,h2⟩ | ⟨h1,h2⟩
    ·rw [if_pos h1,if_neg h2,decide_eq_true h1,decide_eq_true (by omega)]
    ·rw [if_neg h1,if_pos h2,decide_eq_false h1,decide_eq_false (by omega)]
theorem yHZ {q:Rat} (hq:small q) (K:Int→Int→Prop):yod q.num q.den K=K (-q).num (-q).den:=by
 unfold yod yqa
 obtain ⟨a1,a2,a3⟩:=hq
 rw [wi64 ⟨by omega,by omega⟩,Int.zero_sub];rfl
theorem small.neg {q:Rat} (hq:small q):small (-q):=by
 obtain ⟨a1,a2,a3⟩:=hq
 unfold small
 rw [Rat.neg_num,Rat.neg_den]
 omega
theorem yH0 {q r:Rat} (hq:small q) (hr:small r) (K:Int→Int→Int→Prop):yoe q.num q.den r.num r.den K=fitK (q-r) K:=by
 unfold yoe yqc
 rw [ynO hq.i1 hq.i2 hr.i1 hr.i2,yeD hq hr,yxb rfl,yab,yHZ hr,yAV hq hr.neg,Rat.sub_eq_add_neg]
theorem yEM {q r:Rat} (hq:small q) (hr:small r) (K:Int→Int→Int→Prop):ybn q.num q.den r.num r.den K=fitK (q*r) K:=by
 unfold ybn ylG
 rw [ynO hq.i1 hq.i2 hr.i1 hr.i2,yeD hq hr,yxb rfl,yab]
 have hq':=hq;have hr':=hr
 obtain ⟨a1,a2,a3⟩:=hq
 obtain ⟨b1,b2,b3⟩:=hr
 have dq:=q.den_pos
 have dr:=r.den_pos
 have g0:0<Nat.gcd q.num.natAbs r.den:=qBd _ dr
 have h0:0<Nat.gcd r.num.natAbs q.den:=qBd _ dq
 rw [yhT hq'.i1,wuN (n:=r.den) (by omega),ysi,yhT hr'.i1,wuN (n:=q.den) (by omega),ysi]
 simp only [yhT hq'.i1,yhT hr'.i1]
 have q1:q.num.natAbs / Nat.gcd q.num.natAbs r.den≤q.num.natAbs:=qBa _ _
 have q2:r.num.natAbs / Nat.gcd r.num.natAbs q.den≤r.num.natAbs:=qBa _ _
 have q3:q.den / Nat.gcd r.num.natAbs q.den≤q.den:=qBa _ _
 have q4:r.den / Nat.gcd q.num.natAbs r.den≤r.den:=qBa _ _
 have e1:numM q.num r.num q.den r.den=q.num.natAbs / Nat.gcd q.num.natAbs r.den*(r.num.natAbs / Nat.gcd r.num.natAbs q.den):=rfl
 have e2:denM q.num r.num q.den r.den=q.den / Nat.gcd r.num.natAbs q.den*(r.den / Nat.gcd q.num.natAbs r.den):=rfl
 have z1:q.num=0→numM q.num r.num q.den r.den=0:=fun h=>by rw [e1,h,Int.natAbs_zero,Nat.zero_div,Nat.zero_mul]
 have z2:r.num=0→numM q.num r.num q.den r.den=0:=fun h=>by rw [e1,h,Int.natAbs_zero,Nat.zero_div,Nat.mul_zero]
 have n1:∀ P:Prop,asr (!(decide (((Nat.gcd q.num.natAbs r.den:Nat):Int)=(0:Int)))) P=P:=fun P=>ytC (by omega)
 have n2:∀ P:Prop,asr (!(decide (((Nat.gcd r.num.natAbs q.den:Nat):Int)=(0:Int)))) P=P:=fun P=>ytC (by omega)
 have w1:=wuN (n:=q.num.natAbs / Nat.gcd q.num.natAbs r.den) (by omega)
 have w2:=wuN (n:=r.num.natAbs / Nat.gcd r.num.natAbs q.den) (by omega)
 have w3:=wuN (n:=q.den / Nat.gcd r.num.natAbs q.den) (by omega)
 have w4:=wuN (n:=r.den / Nat.gcd q.num.natAbs r.den) (by omega)
 have t1:=ygT (a:=q.num.natAbs / Nat.gcd q.num.natAbs r.den) (b:=r.num.natAbs / Nat.gcd r.num.natAbs q.den) (by omega) (by omega)
 have t2:=ygT (a:=q.den / Nat.gcd r.num.natAbs q.den) (b:=r.den / Nat.gcd q.num.natAbs r.den) (by omega) (by omega)
 have m:=fun s=>yEL (s:=s) (X:=((numM q.num r.num q.den r.den:Nat):Int)) (Y:=((denM q.num r.num q.den r.den:Nat):Int)) (qB0 _) (qB0 _) K
 rw [← e1] at t1
 rw [← e2] at t2
 simp only [n1,n2,yCF,w1,w2,w3,w4,t1,t2,m]
 rw [← yAR]
 have zs:∀ s s':Bool,numM q.num r.num q.den r.den=0→outS s (numM q.num r.num q.den r.den:Nat) (denM q.num r.num q.den r.den:Nat) K=outS s' (numM q.num r.num q.den r.den:Nat) (denM q.num r.num q.den r.den:Nat) K:=by
  intro s s' h
  rw [h]
  cases s <;> cases s' <;> rfl
 by_cases hs:(decide (q.num<0) != decide (r.num<0))=true
 ·rw [hs,yag]
  by_cases n1:q.num=0
  ·rw [yxb n1,yab];exact zs _ _ (z1 n1)
  ·rw [yCD n1,yag]
   by_cases n2:r.num=0
   ·exact zs _ _ (z2 n2)
   ·rw [yCD n2]
 ·have hs':(decide (q.num<0) != decide (r.num<0))=false:=by simpa using hs
  rw [hs',yab]
theorem yhd {q r:Rat} (hq:small q) (hr:small r) (K:Bool→Prop):yaV q.num q.den r.num r.den K=K (decide (q<r)):=by
 unfold yaV ynj
 have hq':=hq;have hr':=hr
 obtain ⟨a1,a2,a3⟩:=hq
 obtain ⟨b1,b2,b3⟩:=hr
 have dq:=q.den_pos
 have dr:=r.den_pos
 have e:decide (q<r)=decide (q.num*r.den<r.num*q.den):=by rw [decide_eq_decide];exact Rat.lt_iff q r
 rw [e]
 by_cases hs:(decide (q.num<0) != decide (r.num<0))=true
 ·rw [hs,yag]
  by_cases h1:q.num<0
  ·have h2:¬r.num<0:=by simpa [h1] using hs
   have p1:q.num*r.den<0:=qB8 h1 (by omega)
   have p2:0≤r.num*q.den:=qA5 (by omega) (by omega)
   rw [decide_eq_true h1,decide_eq_true (by omega)]
  ·have h2:r.num<0:=by simpa [h1] using hs
   have p1:r.num*q.den<0:=qB8 h2 (by omega)
   have p2:0≤q.num*r.den:=qA5 (by omega) (by omega)
   rw [decide_eq_false h1,decide_eq_false (by omega)]
 ·have hs':(decide (q.num<0) != decide (r.num<0))=false:=by simpa using hs
  rw [hs',yab,yhT hq'.i1,wuN (by omega),ygT (by omega) (by omega),yhT hr'.i1,wuN (by omega),ygT (by omega) (by omega),ysj (qB0 _) (qB0 _),ysj (qB0 _) (qB0 _),Int.natCast_mul,Int.natCast_mul]
  by_cases h1:q.num<0
  ·have h2:r.num<0:=by simpa [h1] using hs'
   rw [decide_eq_true h1,yag,show ((q.num.natAbs:Nat):Int)=-q.num by omega,show ((r.num.natAbs:Nat):Int)=-r.num by omega,Int.neg_mul,Int.neg_mul]
   congr 1
   rw [decide_eq_decide];omega
  ·have h2:¬r.num<0:=by simpa [h1] using hs'
   rw [decide_eq_false h1,yab,show ((q.num.natAbs:Nat):Int)=q.num by omega,show ((r.num.natAbs:Nat):Int)=r.num by omega]
theorem yAW (n:Int) (K:Int→Int→Prop):yco n K=K (n:Rat).num (n:Rat).den:=rfl
theorem cbT {c:Prop} [Decidable c] {P Q:Prop} (h:c):cbr (decide c) P Q=P:=by rw [decide_eq_true h,yag]
theorem cbF {c:Prop} [Decidable c] {P Q:Prop} (h:¬c):cbr (decide c) P Q=Q:=by rw [decide_eq_false h,yab]
theorem cnT {a b:Int} {P Q:Prop} (h:a≠b):cbr (a != b) P Q=P:=by rw [yCD h,yag]
theorem cnF {a b:Int} {P Q:Prop} (h:a=b):cbr (a != b) P Q=Q:=by rw [yxb h,yab]
theorem ceT {a b:Int} {P Q:Prop} (h:a=b):cbr (a == b) P Q=P:=by rw [yGV h,yag]
theorem ceF {a b:Int} {P Q:Prop} (h:a≠b):cbr (a == b) P Q=Q:=by rw [yEK h,yab]
theorem asT {c:Prop} [Decidable c] {P:Prop} (h:c):asr (decide c) P=P:=by rw [decide_eq_true h,yaH]
theorem asC {l:List Int} {i:Nat} {P:Prop} (h:i<l.length):asr (conf zI (List.getD (ints l) i .nils)) P=P:=by rw [ygS h,yaH]
theorem wib {n:Int} (h1:-9223372036854775808≤n) (h2:n≤9223372036854775807):IntKind.i64.wrap n=n:=wi64 ⟨h1,h2⟩
theorem yiK (i:Nat):(i:Int)+1=((i+1:Nat):Int):=by omega
theorem ykQ {x:Int} (h:-1000000000000000000≤x∧x≤1000000000000000000):small (x:Rat):=by
 unfold small
 rw [qB9,qCa]
 omega
def allD (dens:List Int):Prop:=∀ d∈dens,0≤d∧d≤12
def yxc (dens:List Int):Prop:=∃ d∈dens,0<d
instance (l:List Int):Decidable (allD l):=by unfold allD;infer_instance
instance (l:List Int):Decidable (yxc l):=by unfold yxc;infer_instance
def VC (len:Int) (cuts dens:List Int):Prop :=
 1≤len∧len≤1000∧2≤cuts.length∧cuts.length≤40∧dens.length+1=cuts.length∧cuts.getD 0 0=0∧cuts.getD (cuts.length-1) 0=len∧incr cuts 0∧allD dens∧yxc dens
theorem yGZ (l:List Int):incr l 0↔∀ j,j<l.length→j+1<l.length→l.getD j 0<l.getD (j+1) 0:=⟨fun h j _ h2=>h j (by omega) h2,fun h j _ h2=>h j (by omega) h2⟩
instance (l:List Int):Decidable (incr l 0):=decidable_of_iff _ (yGZ l).symm
instance (len:Int) (cuts dens:List Int):Decidable (VC len cuts dens):=by unfold VC;infer_instance
def ckC (len:Int) (cuts dens:List Int):Int:=if len>1000∨cuts.length>40 then 4 else if VC len cuts dens then 0 else 8
theorem yEN (l:List Int) (x:Int):(l.foldl mnf x<0)↔¬(∀ d∈x::l,0≤d):=by
 induction l generalizing x with
 | nil=>simp
 | cons y t ih =>
  rw [List.foldl_cons,ih]
  unfold mnf
  simp only [List.forall_mem_cons]
  split
  ·constructor
   ·intro h h2;exact h ⟨h2.2.1,h2.2.2⟩
   ·intro h h2;exact h ⟨by omega,h2.1,h2.2⟩
  ·constructor
   ·intro h h2;exact h ⟨h2.1,h2.2.2⟩
   ·intro h h2;exact h ⟨h2.1,by omega,h2.2⟩
theorem ysk (l:List Int) (x k:Int):(l.foldl mxf x>k)↔¬(∀ d∈x::l,d≤k):=by
 induction l generalizing x with
 | nil=>simp
 | cons y t ih =>
  rw [List.foldl_cons,ih]
  unfold mxf
  simp only [List.forall_mem_cons]
  split
  ·constructor
   ·intro h h2;exact h ⟨h2.2.1,h2.2.2⟩
   ·intro h h2;exact h ⟨by omega,h2.1,h2.2⟩
  ·constructor
   ·intro h h2;exact h ⟨h2.1,h2.2.2⟩
   ·intro h h2;exact h ⟨h2.1,by omega,h2.2⟩
theorem ykR {len:Int} {cuts dens:List Int} (h1:cuts.length<4611686018427387904) (h2:dens.length<4611686018427387904) (K:Int→Prop) :
  yaE len (ints cuts) (ints dens) K=K (ckC len cuts dens):=by
 refine ywC _ _ _ _ (fun K k=>?_) K
 unfold yaE yjU
 simp only [yaQ]
 have bad:¬(len>1000∨cuts.length>40)→¬VC len cuts dens→K 8:=fun h h2=>by
  rw [ckC,if_neg h,if_neg h2] at k;exact k
 by_cases a1:len>1000
 ·rw [cbT a1];rw [ckC,if_pos (.inl a1)] at k;exact k
 rw [cbF a1]
 by_cases a2:cuts.length>40
 ·rw [cbT (by omega)];rw [ckC,if_pos (.inr a2)] at k;exact k
 have a12:¬(len>1000∨cuts.length>40):=by omega
 rw [cbF (by omega)]
 by_cases a3:len<1
 ·rw [cbT a3];exact bad a12 (fun h=>by have:=h.1;omega)
 rw [cbF a3]
 by_cases a4:cuts.length<2
 ·rw [cbT (by omega)];exact bad a12 (fun h=>by have:=h.2.2.1;omega)
 rw [cbF (by omega),wib (n:=(cuts.length:Int)-1) (by omega) (by omega)]
 by_cases a5:dens.length+1=cuts.length
 case neg=>rw [cnT (by omega)];exact bad a12 (fun h=>a5 h.2.2.2.2.1)
 rw [cnF (by omega),asT (by omega),asC (by omega),ycd (by omega)]
 by_cases a6:cuts.getD 0 0=0
 case neg=>rw [cnT a6];exact bad a12 (fun h=>a6 h.2.2.2.2.2.1)
 rw [cnF a6,asT (by omega),asT (by omega),asC (by omega),ycd (by omega)]
 have en:((cuts.length:Int)-1).toNat=cuts.length-1:=by omega
 rw [en]
 by_cases a7:cuts.getD (cuts.length-1) 0=len
 case neg=>rw [cnT a7];exact bad a12 (fun h=>a7 h.2.2.2.2.2.2.1)
 rw [cnF a7]
 refine ⟨cuts.length+1,?_⟩
 refine yD3 (by omega) _ _ _ _ (cuts.length-1) 0 _ (by omega) (by omega) (fun hi=>?_) (fun hi=>bad a12 (fun h=>hi h.2.2.2.2.2.2.2.1))
 obtain ⟨x,t,e⟩:∃ x t,dens=x::t:=by
  cases dens with
  | nil=>exfalso;have:([]:List Int).length=0:=rfl;omega
  | cons x t=>exact ⟨x,t,rfl⟩
 refine yIX (by omega) e ?_
 by_cases b1:t.foldl mnf x<0
 ·rw [cbT b1]
  rw [yEN] at b1
  exact bad a12 (fun h=>b1 fun d hd=>(h.2.2.2.2.2.2.2.2.1 d (by rw [e];exact hd)).1)
 rw [cbF b1]
 refine yGR (by omega) e ?_
 by_cases b2:t.foldl mxf x>12
 ·rw [cbT b2]
  rw [ysk] at b2
  exact bad a12 (fun h=>b2 fun d hd=>(h.2.2.2.2.2.2.2.2.1 d (by rw [e];exact hd)).2)
 rw [cbF b2]
 refine yGR (by omega) e ?_
 have c1:∀ d∈dens,0≤d:=by rw [yEN,Classical.not_not,← e] at b1;exact b1
 have c2:∀ d∈dens,d≤12:=by rw [ysk,Classical.not_not,← e] at b2;exact b2
 by_cases b3:t.foldl mxf x=0
 ·rw [ceT b3]
  refine bad a12 (fun h=>?_)
  obtain ⟨d,hd,h0⟩:=h.2.2.2.2.2.2.2.2.2
  have:¬(t.foldl mxf x>0):=by omega
  rw [ysk,Classical.not_not,← e] at this
  have:=this d hd
  omega
 ·rw [ceF b3]
  have b4:t.foldl mxf x>0:=by
   refine Int.not_le.1 fun hle=>b3 ?_
   have:t.foldl mxf x>-1:=by
    rw [ysk]
    intro h
    have h1:=h x (qAt ..)
    have h2:=c1 x (by rw [e];exact qAt ..)
    omega
   omega
  rw [ysk,← e] at b4
  have b5:yxc dens:=by
   refine Classical.byContradiction fun hn=>b4 fun d hd=>?_
   exact Int.not_lt.1 fun hlt=>hn ⟨d,hd,hlt⟩
  rw [ckC,if_neg a12,if_pos ⟨by omega,by omega,by omega,by omega,a5,a6,a7,hi,fun d hd=>⟨c1 d hd,c2 d hd⟩,b5⟩] at k
  exact k
theorem ygo (n:Int) (K:Int→Int→Prop):ybL n K=K (n:Rat).num (n:Rat).den:=rfl
theorem yeE {q r:Rat} (hq:small q) (hr:small r) (K:Bool→Prop):ybS q.num q.den r.num r.den K=K (decide (q<r)):=by
 unfold ybS ylr
 rw [ylX hq hr]
 congr 1
 rw [decide_eq_decide,cmpQ]
 by_cases h:q<r
 ·simp [h]
 ·by_cases h2:r<q <;> simp [h,h2]
def PT (len:Int) (n d:Int):Prop:=RV n d∧0≤n∧n≤len*d
instance (len n d:Int):Decidable (PT len n d):=by unfold PT;infer_instance
theorem yI0 {len n d:Int} (h:PT len n d):∃ q:Rat,small q∧q.num=n∧(q.den:Int)=d∧0≤q∧q≤(len:Rat):=by
 obtain ⟨h1,h2,h3⟩:=h
 obtain ⟨q,e1,e2,e3⟩:=ytB h1
 refine ⟨q,e1,e2,e3,?_,?_⟩
 ·rw [← Rat.num_nonneg,e2];exact h2
 ·rw [Rat.le_iff,e2,e3,qB9,qCa];simpa using h3
theorem yxd (x:Int) (q:Rat):((x:Rat)<q)↔x*(q.den:Int)<q.num:=by
 rw [Rat.lt_iff,qB9,qCa];simp
theorem yxe {len:Int} (hl:-1000000000000000000≤len∧len≤1000000000000000000) {n d:Int} (hn:I64 n) (hd:I64 d) (a b:List PV) (K:Bool→Prop) :
  ybN len a b n d K=K (decide (PT len n d)):=by
 unfold ybN yjY
 rw [yyX hn hd]
 by_cases h:RV n d
 ·obtain ⟨q,e1,e2,e3⟩:=ytB h
  rw [chk,if_pos h,ceT rfl]
  by_cases h0:n≥0
  ·rw [cbT h0,ygo,← e2,← e3,yeE (ykQ hl) e1]
   congr 1
   have:((len:Rat)<q)↔len*(q.den:Int)<q.num:=yxd _ _
   by_cases h3:(len:Rat)<q
   ·have h4:=this.1 h3
    rw [decide_eq_true h3,decide_eq_false];rfl
    intro hp;have:=hp.2.2;omega
   ·have h4:¬_:=fun x=>h3 (this.2 x)
    rw [decide_eq_false h3,decide_eq_true];rfl
    exact ⟨e1.rv,by omega,by omega⟩
  ·rw [cbF h0,decide_eq_false]
   intro hp;have:=hp.2.1;omega
 ·rw [chk,if_neg h,ceF (by decide),decide_eq_false]
  intro hp;exact h hp.1
section
variable {len:Int} {cuts dens:List Int}
theorem VC.step (h:VC len cuts dens) {i:Nat} (hi:i+1<cuts.length):cuts.getD i 0<cuts.getD (i+1) 0:=h.2.2.2.2.2.2.2.1 i (qBh _) hi
theorem VC.mono (h:VC len cuts dens) {i:Nat}:∀ {j:Nat},i≤j→j<cuts.length→cuts.getD i 0≤cuts.getD j 0
 | 0,hij,_=>by
  have:i=0:=by omega
  subst this;exact Int.le_refl _
 | j+1,hij,hj=>by
  by_cases e:i=j+1
  ·subst e;exact Int.le_refl _
  ·have h1:=h.mono (i:=i) (j:=j) (by omega) (by omega)
   have h2:=h.step (i:=j) hj
   omega
theorem VC.lo (h:VC len cuts dens) {i:Nat} (hi:i<cuts.length):0≤cuts.getD i 0:=by
 have:=h.mono (qBh i) hi
 rw [h.2.2.2.2.2.1] at this;exact this
theorem VC.hi (h:VC len cuts dens) {i:Nat} (hi:i<cuts.length):cuts.getD i 0≤len:=by
 have:=h.mono (i:=i) (j:=cuts.length-1) (by omega) (by omega)
 rw [h.2.2.2.2.2.2.1] at this;exact this
theorem VC.den (h:VC len cuts dens) {i:Nat} (hi:i<dens.length):0≤dens.getD i 0∧dens.getD i 0≤12:=by
 rw [qAa,qAc hi]
 exact h.2.2.2.2.2.2.2.2.1 _ (qBl hi)
theorem VC.l1 (h:VC len cuts dens):dens.length+1=cuts.length:=h.2.2.2.2.1
theorem VC.l2 (h:VC len cuts dens):cuts.length≤40:=h.2.2.2.1
theorem VC.len0 (h:VC len cuts dens):1≤len∧len≤1000:=⟨h.1,h.2.1⟩
theorem VC.sc (h:VC len cuts dens) {i:Nat} (hi:i<cuts.length):small ((cuts.getD i 0:Int):Rat):=ykQ (by have:=h.lo hi;have:=h.hi hi;have:=h.len0;omega)
theorem VC.sd (h:VC len cuts dens) {i:Nat} (hi:i<dens.length):small ((dens.getD i 0:Int):Rat):=ykQ (by have:=h.den hi;omega)
theorem ynQ (h:ckC len cuts dens=0):VC len cuts dens:=by
 unfold ckC at h
 split at h
 ·omega
 ·split at h
  ·assumption
  ·omega
theorem VC.ck (h:VC len cuts dens):ckC len cuts dens=0:=by
 rw [ckC,if_neg (by have:=h.l2;have:=h.len0;omega),if_pos h]
def totS (cuts dens:List Int):Nat→Nat→Int→Int
 | 0,_,s=>s
 | r+1,i,s=>totS cuts dens r (i+1) (s+dens.getD i 0*(cuts.getD (i+1) 0-cuts.getD i 0))
def totC (cuts dens:List Int):Int:=totS cuts dens dens.length 0 0
theorem yEO {d x:Int} (h:0≤d∧d≤12) (hx:0≤x):0≤d*x∧d*x≤12*x:=⟨qA5 h.1 hx,qAo h.2 hx⟩
theorem yxf (h:VC len cuts dens):∀ (r i:Nat) (s:Int),i+r=dens.length→0≤s→s≤12*cuts.getD i 0→0≤totS cuts dens r i s∧totS cuts dens r i s≤12*len
 | 0,i,s,hi,h0,h1=>by
  have:=h.l1
  have:=h.hi (i:=i) (by omega)
  unfold totS
  omega
 | r+1,i,s,hi,h0,h1=>by
  unfold totS
  have l1:=h.l1
  have h2:=h.step (i:=i) (by omega)
  have h3:=yEO (h.den (i:=i) (by omega)) (x:=cuts.getD (i+1) 0-cuts.getD i 0) (by omega)
  exact yxf h r (i+1) _ (by omega) (by omega) (by omega)
theorem yxg (h:VC len cuts dens):0≤totC cuts dens∧totC cuts dens≤12000:=by
 have l1:=h.l1
 have h0:=h.lo (i:=0) (by omega)
 have:=yxf h dens.length 0 0 (by omega) (by omega) (by omega)
 have h2:=h.len0
 unfold totC;omega
theorem yxh (h:VC len cuts dens) (W:Int→List PV→List PV→(Int→Prop)→Prop) (x0:Int→List PV→List PV→Int→List PV→Int→Int→Bool→Prop) :
  ∀ (r i n:Nat) (s:Int),i+r=dens.length→r<n→0≤s→s≤12*cuts.getD i 0 →
   ycN W x0 n len (ints cuts) (ints dens) s (ints dens) dens.length i=x0 len (ints cuts) (ints dens) (totS cuts dens r i s) (ints dens) dens.length dens.length false
 | 0,i,n+1,s,hi,hn,h0,h1=>by
  unfold ycN totS
  rw [cbF (by omega)]
  have:(i:Int)=dens.length:=by omega
  rw [this]
 | r+1,i,n+1,s,hi,hn,h0,h1=>by
  unfold ycN
  have l1:=h.l1;have l2:=h.l2
  have h2:=h.step (i:=i) (by omega)
  have h3:=yEO (h.den (i:=i) (by omega)) (x:=cuts.getD (i+1) 0-cuts.getD i 0) (by omega)
  have a1:=h.lo (i:=i) (by omega)
  have a2:=h.hi (i:=i+1) (by omega)
  have a3:=h.len0
  have e1:=wib (n:=(i:Int)+1) (by omega) (by omega)
  have e2:=wib (n:=cuts.getD (i+1) 0-cuts.getD i 0) (by omega) (by omega)
  have e3:=wib (n:=dens.getD i 0*(cuts.getD (i+1) 0-cuts.getD i 0)) (by omega) (by omega)
  have e4:=wib (n:=s+dens.getD i 0*(cuts.getD (i+1) 0-cuts.getD i 0)) (by omega) (by omega)
  rw [cbT (by omega),yaQ,yaQ,e1,yiK,qAg,qAg,asT (by omega),asT (by omega),asC (by omega),asT (by omega),asT (by omega),asC (by omega),asT (by omega),asT (by omega),asC (by omega),ycd (by omega),ycd (by omega),ycd (by omega),e2,e3,e4]
  exact yxh h W x0 r (i+1) n _ (by omega) (by omega) (by omega) (by omega)
theorem yFG (h1:cuts.length<4611686018427387904) (h2:dens.length<4611686018427387904) (K:Int→Int→Prop) :
  ydX len (ints cuts) (ints dens) K=if ckC len cuts dens=0 then K (totC cuts dens) 0 else K 0 (ckC len cuts dens):=by
 by_cases h:ckC len cuts dens=0
 ·rw [if_pos h]
  refine ywD _ _ _ _ _ (fun K k=>?_) K
  unfold ydX yg1
  have hv:=ynQ h
  rw [ykR h1 h2,h,cnF rfl]
  refine ⟨dens.length+1,?_⟩
  have l1:=hv.l1
  have a1:=hv.lo (i:=0) (by omega)
  rw [yaQ]
  have:=yxh hv yaE (fun b c d a e f g j=>(K a (0:Int))) dens.length 0 (dens.length+1) 0 (by omega) (by omega) (by omega) (by omega)
  rw [show ((0:Nat):Int)=0 from rfl] at this
  rw [this]
  exact k
 ·rw [if_neg h]
  unfold ydX yg1
  rw [ykR h1 h2,cnT h]
def exK (e:Except Int Rat) (K:Int→Int→Int→Prop):Prop:=match e with | .ok q=>K q.num q.den 0 | .error c=>K 0 0 c
def fit {α:Type} (q:Rat) (k:Rat→Except Int α):Except Int α:=if small q then k q else .error 16
def valS (cuts dens:List Int) (b:Rat):Nat→Nat→Rat→Rat→Except Int Rat
 | 0,_,_,sum=>.ok sum
 | r+1,i,p,sum =>
  let en:Rat:=if b<(cuts.getD (i+1) 0:Int) then b else (cuts.getD (i+1) 0:Int)
  if dens.getD i 0=0∨¬p<en then valS cuts dens b r (i+1) (if p<en then en else p) sum
  else fit (en-p) fun l=>fit (l*(dens.getD i 0:Int)) fun w=>fit (sum+w) fun s=>valS cuts dens b r (i+1) en s
def valC (cuts dens:List Int) (a b:Rat):Except Int Rat:=valS cuts dens b dens.length 0 a 0
theorem ycl {q:Rat} {K:Int→Int→Int→Prop}:fitK q K=if small q then K q.num q.den 0 else K 0 0 16:=rfl
theorem yxi (h:VC len cuts dens) {b:Rat} (hb:small b) (an ad:Int) (W1:Int→List PV→List PV→(Int→Prop)→Prop) (W2:Int→List PV→List PV→Int→Int→(Bool→Prop)→Prop) (K:Int→Int→Int→Prop) :
  ∀ (r i n:Nat) (p sum:Rat),i+r=dens.length→r<n→small p→small sum →
   yaP W1 W2 ybS ybL ybC yaI ybv (fun a d e=>(K a d e)) (fun _ _ _ _ _ _ _ f g _ _ _ _ _ _=>(K f g (0:Int)))
    n len (ints cuts) (ints dens) b.num b.den an ad sum.num sum.den p.num p.den (ints dens) dens.length i=exK (valS cuts dens b r i p sum) K
 | 0,i,n+1,p,sum,hi,hn,hp,hs=>by
  unfold yaP valS
  rw [cbF (by omega)];rfl
 | r+1,i,n+1,p,sum,hi,hn,hp,hs=>by
  unfold yaP
  have l1:=h.l1;have l2:=h.l2
  have sc:=h.sc (i:=i+1) (by omega)
  have sd:=h.sd (i:=i) (by omega)
  have e1:=wib (n:=(i:Int)+1) (by omega) (by omega)
  rw [cbT (by omega),yaQ,yaQ,e1,yiK,qAg,qAg,asT (by omega),asT (by omega),asC (by omega),asT (by omega),asT (by omega),asC (by omega),ycd (by omega),ycd (by omega),ygo,yeE hb sc]
  have ih:=fun p sum hp hs=>yxi h hb an ad W1 W2 K r (i+1) n p sum (by omega) (by omega) hp hs
  unfold valS
  by_cases hbc:b<((cuts.getD (i+1) 0:Int):Rat)
  ·rw [cbT hbc]
   simp only [if_pos hbc]
   by_cases hd:dens.getD i 0=0
   ·rw [ceT hd,if_pos (.inl hd),yeE hp hb]
    by_cases hpb:p<b
    ·rw [cbT hpb,if_pos hpb];exact ih b sum hb hs
    ·rw [cbF hpb,if_neg hpb];exact ih p sum hp hs
   ·rw [ceF hd,yeE hp hb]
    by_cases hpb:p<b
    ·have hc:¬(dens.getD i 0=0∨¬p<b):=by simp [hpb];exact hd
     rw [if_neg hc,decide_eq_true hpb,qAw,yab,yvh hb hp,ycl]
     by_cases s1:small (b-p)
     ·rw [if_pos s1,cnF rfl,ygo,yog s1 sd,ycl,fit,if_pos s1]
      by_cases s2:small ((b-p)*(dens.getD i 0:Int))
      ·rw [if_pos s2,cnF rfl,yAT hs s2,ycl,fit,if_pos s2]
       by_cases s3:small (sum+(b-p)*(dens.getD i 0:Int))
       ·rw [if_pos s3,cnF rfl,fit,if_pos s3];exact ih b _ hb s3
       ·rw [if_neg s3,cnT (by decide),fit,if_neg s3];rfl
      ·rw [if_neg s2,cnT (by decide),fit,if_neg s2];rfl
     ·rw [if_neg s1,cnT (by decide),fit,if_neg s1];rfl
    ·rw [if_pos (.inr hpb),decide_eq_false hpb,qA7,yag,yeE hp hb,cbF hpb,if_neg hpb];exact ih p sum hp hs
  ·rw [cbF hbc]
   simp only [if_neg hbc]
   obtain ⟨c,hc⟩:∃ c:Rat,c=((cuts.getD (i+1) 0:Int):Rat):=⟨_,rfl⟩
   rw [← hc] at sc ⊢
   by_cases hd:dens.getD i 0=0
   ·rw [ceT hd,if_pos (.inl hd),yeE hp sc]
    by_cases hpb:p<c
    ·rw [cbT hpb,if_pos hpb];exact ih c sum sc hs
    ·rw [cbF hpb,if_neg hpb];exact ih p sum hp hs
   ·rw [ceF hd,yeE hp sc]
    by_cases hpb:p<c
    ·have hcc:¬(dens.getD i 0=0∨¬p<c):=by simp [hpb];exact hd
     rw [if_neg hcc,decide_eq_true hpb,qAw,yab,yvh sc hp,ycl]
     by_cases s1:small (c-p)
     ·rw [if_pos s1,cnF rfl,ygo,yog s1 sd,ycl,fit,if_pos s1]
      by_cases s2:small ((c-p)*(dens.getD i 0:Int))
      ·rw [if_pos s2,cnF rfl,yAT hs s2,ycl,fit,if_pos s2]
       by_cases s3:small (sum+(c-p)*(dens.getD i 0:Int))
       ·rw [if_pos s3,cnF rfl,fit,if_pos s3];exact ih c _ sc s3
       ·rw [if_neg s3,cnT (by decide),fit,if_neg s3];rfl
      ·rw [if_neg s2,cnT (by decide),fit,if_neg s2];rfl
     ·rw [if_neg s1,cnT (by decide),fit,if_neg s1];rfl
    ·rw [if_pos (.inr hpb),decide_eq_false hpb,qA7,yag,yeE hp sc,cbF hpb,if_neg hpb];exact ih p sum hp hs
end
def rt (n d:Int):Rat:=mkRat n d.toNat
theorem ydo (q:Rat):rt q.num q.den=q:=by unfold rt;rw [qAg,Rat.mkRat_self]
theorem yJl {n d:Int} (h:RV n d):small (rt n d)∧(rt n d).num=n∧((rt n d).den:Int)=d:=by
 obtain ⟨q,h1,h2,h3⟩:=ytB h
 subst h2 h3
 rw [ydo];exact ⟨h1,rfl,rfl⟩
theorem PT.pt {len n d:Int} (h:PT len n d):small (rt n d)∧(rt n d).num=n∧((rt n d).den:Int)=d∧0≤rt n d∧rt n d≤(len:Rat):=by
 obtain ⟨q,h1,h2,h3,h4,h5⟩:=yI0 h
 subst h2 h3
 rw [ydo];exact ⟨h1,rfl,rfl,h4,h5⟩
theorem yuo {len:Int} {q:Rat} (h:small q) (h0:0≤q) (h1:q≤(len:Rat)):PT len q.num q.den:=by
 refine ⟨h.rv,Rat.num_nonneg.2 h0,?_⟩
 rw [Rat.le_iff,qB9,qCa] at h1
 simpa using h1
section
variable {len:Int} {cuts dens:List Int}
def valR (len:Int) (cuts dens:List Int) (an ad bn bd:Int):Except Int Rat :=
 if ckC len cuts dens=0 then (if PT len an ad∧PT len bn bd∧¬rt bn bd<rt an ad then valC cuts dens (rt an ad) (rt bn bd) else .error 2) else .error (ckC len cuts dens)
theorem yD5 {w:(Int→Int→Int→Prop)→Prop} {e:Except Int Rat} (det:∀ r0 r1 r2,(∀ K:Int→Int→Int→Prop,K r0 r1 r2→w K)→∀ K,w K=K r0 r1 r2) (h:∀ K,exK e K→w K) (K:Int→Int→Int→Prop):w K=exK e K:=by
 cases e with
 | ok q=>exact det _ _ _ h K
 | error c=>exact det _ _ _ h K
theorem yFH (h1:cuts.length<4611686018427387904) (h2:dens.length<4611686018427387904) {an ad bn bd:Int} (ha:I64 an) (ha':I64 ad) (hb:I64 bn) (hb':I64 bd) (K:Int→Int→Int→Prop) :
  yeS len (ints cuts) (ints dens) an ad bn bd K=exK (valR len cuts dens an ad bn bd) K:=by
 refine yD5 (fun r0 r1 r2 h K=>ywE _ _ _ _ _ _ _ r0 r1 r2 h K) (fun K k=>?_) K
 unfold yeS yj0
 rw [ykR h1 h2]
 unfold valR at k
 by_cases h:ckC len cuts dens=0
 case neg=>rw [cnT h];rw [if_neg h] at k;exact k
 have hv:=ynQ h
 have hl:=hv.len0
 rw [if_pos h] at k
 rw [cnF h,yxe (by omega) ha ha']
 by_cases p1:PT len an ad
 case neg=>rw [decide_eq_false p1,qA7,yag];rw [if_neg (fun x=>p1 x.1)] at k;exact k
 rw [decide_eq_true p1,qAw,yab,yxe (by omega) hb hb']
 by_cases p2:PT len bn bd
 case neg=>rw [decide_eq_false p2,qA7,yag];rw [if_neg (fun x=>p2 x.2.1)] at k;exact k
 rw [decide_eq_true p2,qAw,yab]
 obtain ⟨s1,e1,e2,_,_⟩:=p1.pt
 obtain ⟨s2,f1,f2,_,_⟩:=p2.pt
 have hless:=yeE s2 s1
 rw [e1,e2,f1,f2] at hless
 rw [hless]
 by_cases p3:rt bn bd<rt an ad
 ·rw [cbT p3];rw [if_neg (fun x=>x.2.2 p3)] at k;exact k
 rw [cbF p3]
 rw [if_pos ⟨p1,p2,p3⟩] at k
 rw [ygo,yaQ]
 refine ⟨dens.length+1,?_⟩
 have:=yxi hv s2 0 0 yaE ybN K dens.length 0 (dens.length+1) (rt an ad) 0 (by omega) (by omega) s1 (by decide)
 rw [e1,e2,f1,f2] at this
 exact this.mpr k
def mrkS (cuts dens:List Int):Nat→Nat→Rat→Rat→Except Int Rat
 | 0,_,_,_=>.error 6
 | r+1,i,p,v =>
  if ¬p<(cuts.getD (i+1) 0:Int) then mrkS cuts dens r (i+1) p v
  else if dens.getD i 0=0 then mrkS cuts dens r (i+1) (cuts.getD (i+1) 0:Int) v
  else fit ((cuts.getD (i+1) 0:Int)-p) fun l=>fit (l*(dens.getD i 0:Int)) fun w =>
   if w<v then fit (v-w) fun v'=>mrkS cuts dens r (i+1) (cuts.getD (i+1) 0:Int) v'
   else fit (v / (dens.getD i 0:Int)) fun s=>fit (p+s) .ok
def mrkC (cuts dens:List Int) (a v:Rat):Except Int Rat:=if v=0 then .ok a else mrkS cuts dens dens.length 0 a v
def mrkR (len:Int) (cuts dens:List Int) (an ad vn vd:Int):Except Int Rat :=
 if ckC len cuts dens=0 then (if PT len an ad∧RV vn vd∧0≤vn then mrkC cuts dens (rt an ad) (rt vn vd) else .error 2) else .error (ckC len cuts dens)
theorem yy0 (h:VC len cuts dens) (W1:Int→List PV→List PV→(Int→Prop)→Prop) (W2:Int→List PV→List PV→Int→Int→(Bool→Prop)→Prop) (W3:Int→Int→(Int→Prop)→Prop) (K:Int→Int→Int→Prop) :
  ∀ (r i n:Nat) (p v:Rat) (o1 o2:Int),i+r=dens.length→r<n→small p→small v →
   ybh W1 W2 W3 ybL ybS ybC yaI ycn ybv
    (fun _ _ b d f a=>(cbr (a !=(0:Int)) (cbr (a !=(0:Int)) (K (0:Int) (0:Int) a) (K b d (0:Int))) (cbr (f !=(0:Int)) (K (0:Int) (0:Int) f) (K b d (0:Int)))))
    (fun _ _ j k g _ _ _ _ _ _ _ _ _=>(cbr (g !=(0:Int)) (K (0:Int) (0:Int) g) (K j k (0:Int))))
    n v.num v.den o1 o2 6 len (ints cuts) (ints dens) p.num p.den (ints dens) dens.length i=exK (mrkS cuts dens r i p v) K
 | 0,i,n+1,p,v,o1,o2,hi,hn,hp,hs=>by
  unfold ybh mrkS
  rw [cbF (by omega)];rfl
 | r+1,i,n+1,p,v,o1,o2,hi,hn,hp,hs=>by
  unfold ybh
  have l1:=h.l1;have l2:=h.l2
  have sc:=h.sc (i:=i+1) (by omega)
  have sd:=h.sd (i:=i) (by omega)
  have hd0:=h.den (i:=i) (by omega)
  have e1:=wib (n:=(i:Int)+1) (by omega) (by omega)
  rw [cbT (by omega),yaQ,yaQ,e1,yiK,qAg,qAg,asT (by omega),asT (by omega),asC (by omega),asT (by omega),asT (by omega),asC (by omega),ycd (by omega),ycd (by omega),ygo,yeE hp sc]
  have ih:=fun p v o1 o2 hp hs=>yy0 h W1 W2 W3 K r (i+1) n p v o1 o2 (by omega) (by omega) hp hs
  unfold mrkS
  obtain ⟨c,hc⟩:∃ c:Rat,c=((cuts.getD (i+1) 0:Int):Rat):=⟨_,rfl⟩
  rw [← hc] at sc ⊢
  by_cases hpc:p<c
  case neg=>rw [decide_eq_false hpc,qA7,yag,if_pos hpc];exact ih p v o1 o2 hp hs
  rw [decide_eq_true hpc,qAw,yab,if_neg (fun x=>x hpc),ygo]
  by_cases hd:dens.getD i 0=0
  ·rw [cbF (by omega),ceT hd,if_pos hd];exact ih c v o1 o2 sc hs
  rw [cbT (by omega),if_neg hd,yvh sc hp,ycl]
  by_cases s1:small (c-p)
  case neg=>rw [if_neg s1,cnT (by decide),cnT (by decide),cnT (by decide),fit,if_neg s1];rfl
  rw [if_pos s1,cnF rfl,ygo,yog s1 sd,ycl,fit,if_pos s1]
  by_cases s2:small ((c-p)*(dens.getD i 0:Int))
  case neg=>rw [if_neg s2,cnT (by decide),cnT (by decide),cnT (by decide),fit,if_neg s2];rfl
  rw [if_pos s2,cnF rfl,ceF hd,yeE s2 hs,fit,if_pos s2]
  by_cases hw:(c-p)*(dens.getD i 0:Int)<v
  ·rw [cbT hw,if_pos hw,yvh hs s2,ycl,fit]
   by_cases s3:small (v-(c-p)*(dens.getD i 0:Int))
   ·rw [if_pos s3,if_pos s3,cnF rfl,cnF rfl];exact ih c _ o1 o2 sc s3
   ·rw [if_neg s3,if_neg s3,cnT (by decide),cnT (by decide),cnF rfl,cnT (by decide)];rfl
  ·have hdn:((dens.getD i 0:Int):Rat)≠0:=fun e=>hd (Rat.intCast_eq_zero_iff.1 e)
   rw [cbF hw,if_neg hw,ygo,yHU hs sd hdn,ycl,fit]
   by_cases s3:small (v / (dens.getD i 0:Int))
   ·rw [if_pos s3,if_pos s3,ceT rfl,yAT hp s3,ycl,fit]
    by_cases s4:small (p+v / (dens.getD i 0:Int))
    ·rw [if_pos s4,if_pos s4,cnF rfl,cnF rfl];rfl
    ·rw [if_neg s4,if_neg s4,cnF rfl,cnT (by decide)];rfl
   ·rw [if_neg s3,if_neg s3,ceF (by decide),cnF rfl,cnT (by decide)];rfl
theorem yG0 (h1:cuts.length<4611686018427387904) (h2:dens.length<4611686018427387904) {an ad vn vd:Int} (ha:I64 an) (ha':I64 ad) (hv:I64 vn) (hv':I64 vd) (K:Int→Int→Int→Prop) :
  yfD len (ints cuts) (ints dens) an ad vn vd K=exK (mrkR len cuts dens an ad vn vd) K:=by
 refine yD5 (fun r0 r1 r2 h K=>yx4 _ _ _ _ _ _ _ r0 r1 r2 h K) (fun K k=>?_) K
 unfold yfD yls
 rw [ykR h1 h2]
 unfold mrkR at k
 by_cases h:ckC len cuts dens=0
 case neg=>rw [cnT h];rw [if_neg h] at k;exact k
 have hc:=ynQ h
 have hl:=hc.len0
 rw [if_pos h] at k
 rw [cnF h,yxe (by omega) ha ha']
 by_cases p1:PT len an ad
 case neg=>rw [decide_eq_false p1,qA7,yag];rw [if_neg (fun x=>p1 x.1)] at k;exact k
 rw [decide_eq_true p1,qAw,yab,yyX hv hv',chk]
 by_cases p2:RV vn vd
 case neg=>rw [if_neg p2,cnT (by decide)];rw [if_neg (fun x=>p2 x.2.1)] at k;exact k
 rw [if_pos p2,cnF rfl]
 by_cases p3:vn<0
 ·rw [cbT p3];rw [if_neg (fun x=>by omega)] at k;exact k
 rw [cbF p3]
 rw [if_pos ⟨p1,p2,by omega⟩] at k
 obtain ⟨s1,e1,e2,_,_⟩:=p1.pt
 obtain ⟨s2,f1,f2⟩:=yJl p2
 unfold mrkC at k
 by_cases p4:vn=0
 ·rw [ceT p4]
  rw [if_pos (Rat.num_eq_zero.1 (f1.trans p4))] at k
  have k:K (rt an ad).num (rt an ad).den 0:=k
  rw [e1,e2] at k
  exact k
 rw [ceF p4]
 rw [if_neg (fun x=>p4 (by rw [← f1,x];rfl))] at k
 rw [yaQ]
 refine ⟨dens.length+1,?_⟩
 have:=yy0 hc yaE ybN ybu K dens.length 0 (dens.length+1) (rt an ad) (rt vn vd) 0 0 (by omega) (by omega) s1 s2
 rw [e1,e2,f1,f2] at this
 exact this.mpr k
def okD (cuts dens:List Int) (i:Nat):Prop:=∀ j,i≤j→j<dens.length→cuts.getD j 0<cuts.getD (j+1) 0∧0≤dens.getD j 0∧dens.getD j 0≤12
theorem ynR (l1:dens.length+1=cuts.length) (l2:dens.length<4611686018427387904) (x0:Int→Prop) (x1:Int→List PV→List PV→Bool→Int→Bool→Prop) (P:Prop)
  (hbad:¬okD cuts dens 0→x0 8=P) (hgood:∀ b:Bool,okD cuts dens 0→b=decide (∃ j,j<dens.length∧0<dens.getD j 0)→x1 len (ints cuts) (ints dens) b dens.length false=P) :
  ∀ (r i n:Nat) (b:Bool),i+r=dens.length→r<n→(∀ j,j<i→cuts.getD j 0<cuts.getD (j+1) 0∧0≤dens.getD j 0∧dens.getD j 0≤12)→b=decide (∃ j,j<i∧0<dens.getD j 0) →
   ycx x0 x1 n len (ints cuts) (ints dens) b i=P
 | 0,i,n+1,b,hi,hn,hj,hb=>by
  unfold ycx
  rw [yaQ,cbF (by omega),show (i:Int)=dens.length by omega]
  refine hgood b (fun j _ h=>hj j (by omega)) ?_
  rw [hb,decide_eq_decide]
  rw [show i=dens.length by omega]
 | r+1,i,n+1,b,hi,hn,hj,hb=>by
  unfold ycx
  have e1:=wib (n:=(i:Int)+1) (by omega) (by omega)
  rw [yaQ,yaQ,cbT (by omega),e1,yiK,qAg,qAg,asT (by omega),asT (by omega),asC (by omega),asT (by omega),asT (by omega),asC (by omega),ycd (by omega),ycd (by omega)]
  have bad:¬(cuts.getD i 0<cuts.getD (i+1) 0∧0≤dens.getD i 0∧dens.getD i 0≤12)→x0 8=P:=fun h=>hbad fun hk=>h (hk i (by omega) (by omega))
  by_cases a1:cuts.getD (i+1) 0≤cuts.getD i 0
  ·rw [cbT a1];exact bad (by omega)
  rw [cbF a1,asT (by omega),asT (by omega),asC (by omega),ycd (by omega)]
  by_cases a2:dens.getD i 0<0
  ·rw [cbT a2];exact bad (by omega)
  rw [cbF a2,asT (by omega),asT (by omega),asC (by omega)]
  by_cases a3:dens.getD i 0>12
  ·rw [cbT a3];exact bad (by omega)
  rw [cbF a3]
  have hj2:∀ j,j<i+1→cuts.getD j 0<cuts.getD (j+1) 0∧0≤dens.getD j 0∧dens.getD j 0≤12:=by
   intro j hlt
   by_cases e:j=i
   ·subst e;omega
   ·exact hj j (by omega)
  have ex:∀ c:Bool,(c=true↔(b=true∨0<dens.getD i 0))→c=decide (∃ j,j<i+1∧0<dens.getD j 0):=by
   intro c hc
   rw [Bool.eq_iff_iff,hc,hb,decide_eq_true_iff,decide_eq_true_iff]
   constructor
   ·rintro (⟨j,h1,h2⟩ | h)
    ·exact ⟨j,by omega,h2⟩
    ·exact ⟨i,by omega,h⟩
   ·rintro ⟨j,h1,h2⟩
    by_cases e:j=i
    ·subst e;exact .inr h2
    ·exact .inl ⟨j,by omega,h2⟩
  cases b with
  | true =>
   rw [yag]
   exact ynR l1 l2 x0 x1 P hbad hgood r (i+1) n true (by omega) (by omega) hj2 (ex _ (by simp))
  | false =>
   rw [yab,asT (by omega),asT (by omega),asC (by omega)]
   exact ynR l1 l2 x0 x1 P hbad hgood r (i+1) n _ (by omega) (by omega) hj2 (ex _ (by simp))
theorem yoh (h1:cuts.length<4611686018427387904) (h2:dens.length<4611686018427387904) (K:Int→Prop) :
  ybw len (ints cuts) (ints dens) K=K (ckC len cuts dens):=by
 refine yye _ _ _ _ (fun K k=>?_) K
 unfold ybw ylI
 simp only [yaQ]
 have bad:¬(len>1000∨cuts.length>40)→¬VC len cuts dens→K 8:=fun h h2=>by
  rw [ckC,if_neg h,if_neg h2] at k;exact k
 by_cases a1:len>1000
 ·rw [cbT a1];rw [ckC,if_pos (.inl a1)] at k;exact k
 rw [cbF a1]
 by_cases a2:cuts.length>40
 ·rw [cbT (by omega)];rw [ckC,if_pos (.inr a2)] at k;exact k
 have a12:¬(len>1000∨cuts.length>40):=by omega
 rw [cbF (by omega)]
 by_cases a3:len<1
 ·rw [cbT a3];exact bad a12 (fun h=>by have:=h.1;omega)
 rw [cbF a3]
 by_cases a4:cuts.length<2
 ·rw [cbT (by omega)];exact bad a12 (fun h=>by have:=h.2.2.1;omega)
 rw [cbF (by omega),wib (n:=(cuts.length:Int)-1) (by omega) (by omega)]
 by_cases a5:dens.length+1=cuts.length
 case neg=>rw [cnT (by omega)];exact bad a12 (fun h=>a5 h.2.2.2.2.1)
 rw [cnF (by omega),asT (by omega),asC (by omega),ycd (by omega)]
 by_cases a6:cuts.getD 0 0=0
 case neg=>rw [cnT a6];exact bad a12 (fun h=>a6 h.2.2.2.2.2.1)
 rw [cnF a6,asT (by omega),asT (by omega),asC (by omega),ycd (by omega)]
 have en:((cuts.length:Int)-1).toNat=cuts.length-1:=by omega
 rw [en]
 by_cases a7:cuts.getD (cuts.length-1) 0=len
 case neg=>rw [cnT a7];exact bad a12 (fun h=>a7 h.2.2.2.2.2.2.1)
 rw [cnF a7]
 have mem:∀ d,d∈dens↔∃ j,j<dens.length∧dens.getD j 0=d:=by
  intro d
  rw [List.mem_iff_getElem]
  constructor
  ·rintro ⟨j,hj,e⟩;exact ⟨j,hj,by rw [qAa,qAc hj];exact e⟩
  ·rintro ⟨j,hj,e⟩;exact ⟨j,hj,by rw [qAa,qAc hj] at e;exact e⟩
 refine ⟨dens.length+1,?_⟩
 refine (ynR a5 h2 _ _ (K (ckC len cuts dens)) (fun hk=>?_) (fun b hk hb=>?_) dens.length 0 (dens.length+1) false (by omega) (by omega) (fun j h=>by omega) (by simp)).mpr k
 ·have hv:¬VC len cuts dens:=fun h=>hk fun j _ hj=>⟨h.step (by omega),h.den hj⟩
  rw [ckC,if_neg a12,if_neg hv]
 ·have hsome:yxc dens↔∃ j,j<dens.length∧0<dens.getD j 0:=by
   constructor
   ·rintro ⟨d,hd,h0⟩
    obtain ⟨j,hj,e⟩:=(mem d).1 hd
    exact ⟨j,hj,by rw [e];exact h0⟩
   ·rintro ⟨j,hj,h0⟩;exact ⟨_,(mem _).2 ⟨j,hj,rfl⟩,h0⟩
  have hv:VC len cuts dens↔yxc dens:=by
   refine ⟨fun h=>h.2.2.2.2.2.2.2.2.2,fun h=>⟨by omega,by omega,by omega,by omega,a5,a6,a7,fun j _ hj=>(hk j (by omega) (by omega)).1,fun d hd=>?_,h⟩⟩
   obtain ⟨j,hj,e⟩:=(mem d).1 hd
   rw [← e];exact (hk j (by omega) hj).2
  rw [ckC,if_neg a12]
  by_cases hs:yxc dens
  ·rw [if_pos (hv.2 hs),hb,decide_eq_true (hsome.1 hs)];rfl
  ·rw [if_neg (fun x=>hs (hv.1 x)),hb,decide_eq_false (fun x=>hs (hsome.2 x))];rfl
theorem yy1 (hl:-1000000000000000000≤len∧len≤1000000000000000000) {n d:Int} (hn:I64 n) (hd:I64 d) (K:Bool→Prop) :
  yez len n d K=K (decide (PT len n d)):=by
 unfold yez ylL
 rw [ykP hn hd]
 by_cases h:RV n d
 ·obtain ⟨q,e1,e2,e3⟩:=ytB h
  rw [chk,if_pos h,ceT rfl]
  by_cases h0:n≥0
  ·rw [cbT h0,yAW,← e2,← e3,yhd (ykQ hl) e1]
   congr 1
   have:((len:Rat)<q)↔len*(q.den:Int)<q.num:=yxd _ _
   by_cases h3:(len:Rat)<q
   ·have h4:=this.1 h3
    rw [decide_eq_true h3,decide_eq_false];rfl
    intro hp;have:=hp.2.2;omega
   ·have h4:¬_:=fun x=>h3 (this.2 x)
    rw [decide_eq_false h3,decide_eq_true];rfl
    exact ⟨e1.rv,by omega,by omega⟩
  ·rw [cbF h0,decide_eq_false]
   intro hp;have:=hp.2.1;omega
 ·rw [chk,if_neg h,ceF (by decide),decide_eq_false]
  intro hp;exact h hp.1
def mxQ (a b:Rat):Rat:=if a<b then b else a
def mnQ (a b:Rat):Rat:=if a<b then a else b
theorem yFI {q r:Rat} (hq:small q) (hr:small r) (K:Int→Int→Prop):yjq q.num q.den r.num r.den K=K (mxQ q r).num (mxQ q r).den:=by
 unfold yjq ylM mxQ
 rw [yhd hq hr]
 by_cases h:q<r
 ·rw [cbT h,if_pos h]
 ·rw [cbF h,if_neg h]
theorem yD6 {q r:Rat} (hq:small q) (hr:small r) (K:Int→Int→Prop):yhQ q.num q.den r.num r.den K=K (mnQ q r).num (mnQ q r).den:=by
 unfold yhQ yj7 mnQ
 rw [yhd hq hr]
 by_cases h:q<r
 ·rw [cbT h,if_pos h]
 ·rw [cbF h,if_neg h]
theorem yG1 {q r:Rat} (hq:small q) (hr:small r):small (mxQ q r):=by unfold mxQ;split <;> assumption
theorem yG2 {q r:Rat} (hq:small q) (hr:small r):small (mnQ q r):=by unfold mnQ;split <;> assumption
def worS (cuts dens:List Int) (i:Nat) (a b:Rat):Except Int Rat :=
 let f:=mxQ a (cuts.getD i 0:Int)
 let t:=mnQ b (cuts.getD (i+1) 0:Int)
 if ¬f<t∨dens.getD i 0=0 then .ok 0 else fit (t-f) fun d=>fit (d*(dens.getD i 0:Int)) .ok
theorem yFJ (h:VC len cuts dens) {i:Nat} (hi:i<dens.length) {a b:Rat} (ha:small a) (hb:small b) (K:Int→Int→Int→Prop) :
  yeA len (ints cuts) (ints dens) i a.num a.den b.num b.den K=exK (worS cuts dens i a b) K:=by
 unfold yeA ylN worS
 have l1:=h.l1;have l2:=h.l2
 have sc:=h.sc (i:=i+1) (by omega)
 have sc0:=h.sc (i:=i) (by omega)
 have sd:=h.sd (i:=i) (by omega)
 have e1:=wib (n:=(i:Int)+1) (by omega) (by omega)
 rw [yaQ,yaQ,e1,yiK,qAg,qAg,asT (by omega),asT (by omega),asC (by omega),ycd (by omega),yAW,yFI ha sc0,asT (by omega),asT (by omega),asC (by omega),ycd (by omega),yAW,yD6 hb sc]
 have s1:=yG1 ha sc0
 have s2:=yG2 hb sc
 rw [yhd s1 s2]
 by_cases c1:mxQ a (cuts.getD i 0:Int)<mnQ b (cuts.getD (i+1) 0:Int)
 case neg =>
  rw [decide_eq_false c1,qA7,yag]
  simp only [c1,not_false_eq_true,true_or,if_true];rfl
 rw [decide_eq_true c1,qAw,yab,asT (by omega),asT (by omega),asC (by omega),ycd (by omega)]
 by_cases c2:dens.getD i 0=0
 ·rw [ceT c2]
  simp only [c2,or_true,if_true];rfl
 rw [ceF c2,yH0 s2 s1,ycl]
 have cc:¬(¬mxQ a (cuts.getD i 0:Int)<mnQ b (cuts.getD (i+1) 0:Int)∨dens.getD i 0=0):=fun x=>x.elim (fun y=>y c1) c2
 simp only [if_neg cc,fit]
 by_cases s3:small (mnQ b (cuts.getD (i+1) 0:Int)-mxQ a (cuts.getD i 0:Int))
 ·rw [if_pos s3,if_pos s3,cnF rfl,asT (by omega),asT (by omega),asC (by omega),yAW,yEM s3 sd,ycl]
  split <;> rfl
 ·rw [if_neg s3,if_neg s3,cnT (by decide)];rfl
theorem yfv {α:Type} {q:Rat} {k:Rat→Except Int α} (h:small q):fit q k=k q:=if_pos h
theorem yxj {α:Type} {q:Rat} {k:Rat→Except Int α} (h:¬small q):fit q k=.error 16:=if_neg h
theorem yxk {q:Rat} {K:Int→Int→Int→Prop}:exK (.ok q) K=K q.num q.den 0:=rfl
theorem yAX {c:Int} {K:Int→Int→Int→Prop}:exK (.error c) K=K 0 0 c:=rfl
theorem add_zero (q:Rat):q+0=q:=by grind
theorem yup (h:VC len cuts dens) {a b:Rat} (ha:small a) (hb:small b) (hab:¬b<a) (W1:Int→List PV→List PV→(Int→Prop)→Prop) (W2:Int→Int→Int→(Bool→Prop)→Prop) (W3:Int→Int→Int→Int→(Bool→Prop)→Prop) (K:Int→Int→Int→Prop) :
  ∀ (r i n:Nat) (p sum:Rat),i+r=dens.length→r<n→small sum→p=mxQ a (mnQ b (cuts.getD i 0:Int)) →
   ycY W1 W2 W3 yeA yfI (fun e f g=>(K e f g)) (fun _ _ _ _ _ _ _ _ _ j k _ _=>(K j k (0:Int)))
    n len (ints cuts) (ints dens) a.num a.den b.num b.den 0 0 sum.num sum.den i=exK (valS cuts dens b r i p sum) K
 | 0,i,n+1,p,sum,hi,hn,hs,hp=>by
  unfold ycY valS
  rw [yaQ,cbF (by omega)];rfl
 | r+1,i,n+1,p,sum,hi,hn,hs,hp=>by
  unfold ycY
  have l1:=h.l1;have l2:=h.l2
  have e1:=wib (n:=(i:Int)+1) (by omega) (by omega)
  have hst:=h.step (i:=i) (by omega)
  have hst':((cuts.getD i 0:Int):Rat)<((cuts.getD (i+1) 0:Int):Rat):=qB7.2 hst
  have sd:=h.sd (i:=i) (by omega)
  have sc:=h.sc (i:=i+1) (by omega)
  have sc0:=h.sc (i:=i) (by omega)
  rw [yaQ,cbT (by omega),yFJ h (by omega) ha hb,e1,yiK]
  have ih:=fun p sum hs hp=>yup h ha hb hab W1 W2 W3 K r (i+1) n p sum (by omega) (by omega) hs hp
  unfold valS worS
  obtain ⟨c0,hc0⟩:∃ c:Rat,c=((cuts.getD i 0:Int):Rat):=⟨_,rfl⟩
  obtain ⟨c,hc⟩:∃ c:Rat,c=((cuts.getD (i+1) 0:Int):Rat):=⟨_,rfl⟩
  obtain ⟨d,hd⟩:∃ d:Rat,d=((dens.getD i 0:Int):Rat):=⟨_,rfl⟩
  rw [← hc0,← hc] at hst'
  rw [← hc] at sc
  rw [← hc0] at sc0 hp
  rw [← hd] at sd
  rw [← hc] at ih
  simp only [← hc0,← hc,← hd]
  have zk:∀ K2:Int→Int→Int→Prop,fitK (sum+0) K2=K2 sum.num sum.den 0:=fun K2=>by rw [add_zero,ycl,if_pos hs]
  have en:(if b<c then b else c)=mnQ b c:=rfl
  rw [en]
  have nx:(if p<mnQ b c then mnQ b c else p)=mxQ a (mnQ b c):=by
   rw [hp];unfold mxQ mnQ
   grind
  have add0:=yAV hs (r:=0) (by decide)
  rw [show (0:Rat).num=0 from rfl,show ((0:Rat).den:Int)=1 from rfl] at add0
  by_cases c2:dens.getD i 0=0
  ·rw [if_pos (.inr c2),if_pos (.inl c2),nx]
   rw [yxk,cnF rfl]
   rw [show ((0:Rat).num)=0 from rfl,show (((0:Rat).den:Nat):Int)=1 from rfl,add0,zk,cnF rfl]
   exact ih _ sum hs rfl
  by_cases c1:mxQ a c0<mnQ b c
  ·-- the interval counts
   have hpm:p=mxQ a c0:=by
    rw [hp];unfold mxQ mnQ at *
    grind
   have hpl:p<mnQ b c:=by rw [hpm];exact c1
   rw [if_neg (fun x=>x.elim (fun y=>y c1) c2),if_neg (fun x=>x.elim c2 (fun y=>y hpl)),← hpm]
   have nx2:mnQ b c=mxQ a (mnQ b c):=by rw [← nx,if_pos hpl]
   by_cases s1:small (mnQ b c-p)
   case neg=>rw [yxj s1,yxj s1,yAX,cnT (by decide)];rfl
   rw [yfv s1,yfv s1]
   by_cases s2:small ((mnQ b c-p)*d)
   case neg=>rw [yxj s2,yxj s2,yAX,cnT (by decide)];rfl
   rw [yfv s2,yfv s2,yxk]
   rw [cnF rfl,yAV hs s2,ycl]
   by_cases s3:small (sum+(mnQ b c-p)*d)
   ·rw [if_pos s3,yfv s3,cnF rfl]
    exact ih _ _ s3 nx2
   ·rw [if_neg s3,yxj s3,cnT (by decide)];rfl
  ·have hpl:¬p<mnQ b c:=by
    rw [hp];unfold mxQ mnQ at *
    grind
   rw [if_pos (.inl c1),if_pos (.inr hpl),nx]
   rw [yxk,cnF rfl]
   rw [show ((0:Rat).num)=0 from rfl,show (((0:Rat).den:Nat):Int)=1 from rfl,add0,zk,cnF rfl]
   exact ih _ sum hs rfl
theorem yFK (h1:cuts.length<4611686018427387904) (h2:dens.length<4611686018427387904) {an ad bn bd:Int} (ha:I64 an) (ha':I64 ad) (hb:I64 bn) (hb':I64 bd) (K:Int→Int→Int→Prop) :
  ya7 len (ints cuts) (ints dens) an ad bn bd K=exK (valR len cuts dens an ad bn bd) K:=by
 refine yD5 (fun r0 r1 r2 h K=>yyf _ _ _ _ _ _ _ r0 r1 r2 h K) (fun K k=>?_) K
 unfold ya7 ylO
 rw [yoh h1 h2]
 unfold valR at k
 by_cases h:ckC len cuts dens=0
 case neg=>rw [cnT h,yoh h1 h2];rw [if_neg h] at k;exact k
 have hv:=ynQ h
 have hl:=hv.len0
 rw [if_pos h] at k
 rw [cnF h,yy1 (by omega) ha ha']
 by_cases p1:PT len an ad
 case neg=>rw [decide_eq_false p1,qA7,yag];rw [if_neg (fun x=>p1 x.1)] at k;exact k
 rw [decide_eq_true p1,qAw,yab,yy1 (by omega) hb hb']
 by_cases p2:PT len bn bd
 case neg=>rw [decide_eq_false p2,qA7,yag];rw [if_neg (fun x=>p2 x.2.1)] at k;exact k
 rw [decide_eq_true p2,qAw,yab]
 obtain ⟨s1,e1,e2,z1,_⟩:=p1.pt
 obtain ⟨s2,f1,f2,_,_⟩:=p2.pt
 have hless:=yhd s2 s1
 rw [e1,e2,f1,f2] at hless
 rw [hless]
 by_cases p3:rt bn bd<rt an ad
 ·rw [cbT p3];rw [if_neg (fun x=>x.2.2 p3)] at k;exact k
 rw [cbF p3]
 rw [if_pos ⟨p1,p2,p3⟩] at k
 refine ⟨dens.length+1,?_⟩
 have c0:((cuts.getD 0 0:Int):Rat)=0:=by rw [hv.2.2.2.2.2.1];rfl
 have:=yup hv s1 s2 p3 ybw yez yaV K dens.length 0 (dens.length+1) (rt an ad) 0 (by omega) (by omega) (by decide) (by rw [c0];unfold mxQ mnQ;grind)
 rw [e1,e2,f1,f2] at this
 exact this.mpr k
end
structure Ck where
 len:Int
 cuts:List Int
 dens:List Int
instance:Inhabited Ck:=⟨⟨0,[],[]⟩⟩
def encC (c:Ck):PV:=.agg [.int .i64 c.len,.data (ints c.cuts),.data (ints c.dens)]
def cks (l:List Ck):List PV:=l.map encC
def Ck.fin (c:Ck):Prop:=c.cuts.length<4611686018427387904∧c.dens.length<4611686018427387904
def Ck.err (c:Ck):Int:=ckC c.len c.cuts c.dens
def Ck.ok (c:Ck):Prop:=VC c.len c.cuts c.dens
instance (c:Ck):Decidable c.ok:=by unfold Ck.ok;infer_instance
theorem ybg (l:List Ck):(cks l).length=l.length:=qAe ..
theorem ydE {l:List Ck} {i:Nat} (h:i<l.length):List.getD (cks l) i .nils=encC (l.getD i default):=by
 unfold cks
 rw [qAa,qAa,qBc,qAc h]
 rfl
theorem yfN {α:Type} {l:List α} {i:Nat} (d:α) (h:i<l.length):l.drop i=l.getD i d::l.drop (i+1):=by
 rw [List.drop_eq_getElem_cons h,qAa,qAc h];rfl
theorem asCk {c:Ck} {P:Prop}:asr (conf zK (encC c)) P=P:=rfl
theorem ck0 (c:Ck):yaa (yac (encC c) 0)=c.len:=rfl
theorem ck1 (c:Ck):ya6 (yac (encC c) 1)=ints c.cuts:=rfl
theorem ck2 (c:Ck):ya6 (yac (encC c) 2)=ints c.dens:=rfl
def ye5:List Ck→Int
 | []=>0
 | c::t=>if c.err=0 then ye5 t else c.err
def yiL (n:Int):List Ck→Bool
 | []=>true
 | c::t=>decide (c.len=n)&&yiL n t
def yhe (l:List Ck) (m:Nat):Int :=
 if l.length>6 then 4 else if m>2000 then 4 else if l.length=0 then 8 else if ye5 l=0 then (if yiL (l.getD 0 default).len l then 0 else 8) else ye5 l
section
variable {l:List Ck}
def finC (l:List Ck):Prop:=∀ i,i<l.length→(l.getD i default).fin
theorem yEP (hf:finC l) (hl:l.length<4611686018427387904) (x0:Int→Prop) (x1:List PV→List PV→List PV→Int→Int→Bool→Prop) (lg:List PV) :
  ∀ (r i n:Nat),i+r=l.length→r<n→ycX yaE x0 x1 n (cks l) lg (cks l) l.length i =
   if ye5 (l.drop i)=0 then x1 (cks l) lg (cks l) l.length l.length false else x0 (ye5 (l.drop i))
 | 0,i,n+1,hi,hn=>by
  unfold ycX
  rw [cbF (by omega),qBe (by omega),show (i:Int)=l.length by omega];rfl
 | r+1,i,n+1,hi,hn=>by
  unfold ycX
  have e1:=wib (n:=(i:Int)+1) (by omega) (by omega)
  obtain ⟨f1,f2⟩:=hf i (by omega)
  rw [cbT (by omega),ybg,qAg,ydE (by omega),asT (by omega),asT (by omega),asCk,ck0,ck1,ck2,ykR (by omega) (by omega),yfN default (by omega),ye5,e1,yiK]
  show cbr ((l.getD i default).err != 0) _ _=_
  by_cases h:(l.getD i default).err=0
  ·rw [cnF h,if_pos h];exact yEP hf hl x0 x1 lg r (i+1) n (by omega) (by omega)
  ·rw [cnT h,if_neg h,if_neg h];rfl
theorem yEQ (hl:l.length<4611686018427387904) (x0:Int→Prop) (x1:List PV→List PV→List PV→Int→Int→Bool→Prop) (lg:List PV) (W) :
  ∀ (r i n:Nat),i+r=l.length→r<n→ycw W x0 x1 n (cks l) lg (cks l) l.length i =
   if yiL (l.getD 0 default).len (l.drop i) then x1 (cks l) lg (cks l) l.length l.length false else x0 8
 | 0,i,n+1,hi,hn=>by
  unfold ycw
  rw [cbF (by omega),qBe (by omega),show (i:Int)=l.length by omega];rfl
 | r+1,i,n+1,hi,hn=>by
  unfold ycw
  have e1:=wib (n:=(i:Int)+1) (by omega) (by omega)
  rw [cbT (by omega),ybg,qAg,ydE (by omega),ydE (by omega),asT (by omega),asT (by omega),asCk,asT (by omega),asCk,ck0,ck0,yfN default (by omega),yiL,e1,yiK]
  by_cases h:(l.getD i default).len=(l.getD 0 default).len
  ·rw [cnF h,decide_eq_true h,Bool.true_and];exact yEQ hl x0 x1 lg W r (i+1) n (by omega) (by omega)
  ·rw [cnT h,decide_eq_false h,Bool.false_and,if_neg (by simp)]
theorem yfO (hf:finC l) (hl:l.length<4611686018427387904) (lg:List PV) (K:Int→Prop):yaT (cks l) lg K=K (yhe l lg.length):=by
 refine yx7 _ _ _ (fun K k=>?_) K
 unfold yaT ylu
 unfold yhe at k
 rw [ybg]
 by_cases a1:l.length>6
 ·rw [cbT (by omega)];rw [if_pos a1] at k;exact k
 rw [cbF (by omega)];rw [if_neg a1] at k
 by_cases a2:lg.length>2000
 ·rw [cbT (by omega)];rw [if_pos a2] at k;exact k
 rw [cbF (by omega)];rw [if_neg a2] at k
 by_cases a3:l.length=0
 ·rw [ceT (by omega)];rw [if_pos a3] at k;exact k
 rw [ceF (by omega)];rw [if_neg a3] at k
 refine ⟨l.length+1,?_⟩
 have h0:=yEP hf hl (fun c=>K c) (fun a d o p q r=>(∃ e:Nat,ycw yaE (fun b=>(K b)) (fun f g i j m n=>(K (0:Int))) e a d a (((List.length a):Nat):Int) (0:Int))) lg l.length 0 (l.length+1) (by omega) (by omega)
 rw [show ((0:Nat):Int)=0 from rfl,qCc] at h0
 rw [h0]
 by_cases a4:ye5 l=0
 ·rw [if_pos a4] at k ⊢
  refine ⟨l.length+1,?_⟩
  have h1:=yEQ hl (fun b=>(K b)) (fun f g i j m n=>(K (0:Int))) lg yaE l.length 0 (l.length+1) (by omega) (by omega)
  rw [show ((0:Nat):Int)=0 from rfl,qCc] at h1
  rw [ybg,h1]
  split at k <;> rename_i h <;> simp only [h] <;> exact k
 ·rw [if_neg a4] at k ⊢;exact k
theorem yER (hf:finC l) (hl:l.length<4611686018427387904) (x0:Int→Prop) (x1:List PV→List PV→Int→Bool→Prop) (lg:List PV) :
  ∀ (r i n:Nat),i+r=l.length→r<n→ycZ ybw x0 x1 n (cks l) lg i =
   if ye5 (l.drop i)=0 then x1 (cks l) lg l.length false else x0 (ye5 (l.drop i))
 | 0,i,n+1,hi,hn=>by
  unfold ycZ
  rw [ybg,cbF (by omega),qBe (by omega),show (i:Int)=l.length by omega];rfl
 | r+1,i,n+1,hi,hn=>by
  unfold ycZ
  have e1:=wib (n:=(i:Int)+1) (by omega) (by omega)
  obtain ⟨f1,f2⟩:=hf i (by omega)
  rw [ybg,cbT (by omega),qAg,ydE (by omega),asT (by omega),asT (by omega),asCk,ck0,ck1,ck2,yoh (by omega) (by omega),yfN default (by omega),ye5,e1,yiK]
  show cbr ((l.getD i default).err != 0) _ _=_
  by_cases h:(l.getD i default).err=0
  ·rw [cnF h,if_pos h];exact yER hf hl x0 x1 lg r (i+1) n (by omega) (by omega)
  ·rw [cnT h,if_neg h,if_neg h,asT (by omega),asT (by omega),asCk,yoh (by omega) (by omega)];rfl
theorem yES (hl:l.length<4611686018427387904) (x0:Int→Prop) (x1:List PV→List PV→Int→Bool→Prop) (lg:List PV) (W) :
  ∀ (r i n:Nat),i+r=l.length→r<n→ycy W x0 x1 n (cks l) lg i =
   if yiL (l.getD 0 default).len (l.drop i) then x1 (cks l) lg l.length false else x0 8
 | 0,i,n+1,hi,hn=>by
  unfold ycy
  rw [ybg,cbF (by omega),qBe (by omega),show (i:Int)=l.length by omega];rfl
 | r+1,i,n+1,hi,hn=>by
  unfold ycy
  have e1:=wib (n:=(i:Int)+1) (by omega) (by omega)
  rw [ybg,cbT (by omega),qAg,ydE (by omega),ydE (by omega),asT (by omega),asT (by omega),asCk,asT (by omega),asCk,ck0,ck0,yfN default (by omega),yiL,e1,yiK]
  by_cases h:(l.getD i default).len=(l.getD 0 default).len
  ·rw [cnF h,decide_eq_true h,Bool.true_and];exact yES hl x0 x1 lg W r (i+1) n (by omega) (by omega)
  ·rw [cnT h,decide_eq_false h,Bool.false_and,if_neg (by simp)]
theorem yFL (hf:finC l) (hl:l.length<4611686018427387904) (lg:List PV) (K:Int→Prop):ycJ (cks l) lg K=K (yhe l lg.length):=by
 refine yyg _ _ _ (fun K k=>?_) K
 unfold ycJ ylR
 unfold yhe at k
 rw [ybg]
 by_cases a1:l.length>6
 ·rw [cbT (by omega)];rw [if_pos a1] at k;exact k
 rw [cbF (by omega)];rw [if_neg a1] at k
 by_cases a2:lg.length>2000
 ·rw [cbT (by omega)];rw [if_pos a2] at k;exact k
 rw [cbF (by omega)];rw [if_neg a2] at k
 by_cases a3:l.length=0
 ·rw [ceT (by omega)];rw [if_pos a3] at k;exact k
 rw [ceF (by omega)];rw [if_neg a3] at k
 refine ⟨l.length+1,?_⟩
 have h0:=yER hf hl (fun b=>K b) (fun c d m n=>(∃ e:Nat,ycy ybw (fun a=>(K a)) (fun f g i j=>(K (0:Int))) e c d (0:Int))) lg l.length 0 (l.length+1) (by omega) (by omega)
 rw [show ((0:Nat):Int)=0 from rfl,qCc] at h0
 rw [h0]
 by_cases a4:ye5 l=0
 ·rw [if_pos a4] at k ⊢
  refine ⟨l.length+1,?_⟩
  have h1:=yES hl (fun a=>(K a)) (fun f g i j=>(K (0:Int))) lg ybw l.length 0 (l.length+1) (by omega) (by omega)
  rw [show ((0:Nat):Int)=0 from rfl,qCc] at h1
  rw [h1]
  split at k <;> rename_i h <;> simp only [h] <;> exact k
 ·rw [if_neg a4] at k ⊢;exact k
def Ck.low (c:Ck):Prop:=c.cuts.length≤1000∧c.dens.length≤1000
def lowC (l:List Ck):Prop:=∀ i,i<l.length→(l.getD i default).low
theorem yCG (l:List Int):ydq 1 (ints l)=true:=by cases l <;> rfl
theorem ysl {l:List Int} (h:l.length≤1000) (K:List PV→Prop):yc5 (ints l) K=K (ints l):=by
 show asr (yhE 1 8 (ints l)) (K (ints l))=_
 have:yhE 1 8 (ints l)=true:=by
  unfold yhE
  rw [yCG,yaQ,Bool.true_and,decide_eq_true_iff]
  unfold room;omega
 rw [this,yaH]
theorem asTT {c:Bool} {P:Prop} (h:c=true):asr c P=P:=by rw [h,yaH]
theorem yET (hf:lowC l) (hl:l.length≤1000) (x0:List PV→List PV→Int→Int→Bool→Prop) (x1:List PV→Int→Int→Bool→Prop) :
  ∀ (r i n:Nat) (acc:List PV),i+r=l.length→r<n→acc.length≤i→ycO yc5 x0 x1 n acc (cks l) l.length i=x0 (acc++cks (l.drop i)) (cks l) l.length l.length false
 | 0,i,n+1,acc,hi,hn,ha=>by
  unfold ycO
  rw [cbF (by omega),qBe (by omega),show (i:Int)=l.length by omega]
  show _=x0 (acc++[]) _ _ _ _
  rw [qBt]
 | r+1,i,n+1,acc,hi,hn,ha=>by
  unfold ycO
  have e1:=wib (n:=(i:Int)+1) (by omega) (by omega)
  obtain ⟨f1,f2⟩:=hf i (by omega)
  rw [cbT (by omega),ybg,qAg,ydE (by omega),asT (by omega),asT (by omega),asCk,ck0,ck1,ck2,ysl f1,ysl f2,asT rfl,asT (by omega),asTT (by rw [decide_eq_false (by omega)];rfl),asT rfl,asT (by unfold room;omega),asTT (by simp),e1,yiK]
  rw [yET hf hl x0 x1 r (i+1) n _ (by omega) (by omega) (by simp;omega),yfN (i:=i) default (by omega),qAh];rfl
theorem ytD (hf:lowC l) (hl:l.length≤1000) (K:List PV→Prop):yda (cks l) K=K (cks l):=by
 refine ywF _ _ (fun K k=>?_) K
 unfold yda yj5
 cases hc:l with
 | nil =>
  refine ⟨0+1,?_⟩
  rw [hc] at k
  rw [yeT,ybg,cbF (by simp)]
  exact k
 | cons c t =>
  rw [← hc]
  have h0:0<l.length:=by rw [hc];exact Nat.zero_lt_succ _
  refine ⟨(l.length+1)+1,?_⟩
  rw [yeT]
  obtain ⟨f1,f2⟩:=hf 0 (by omega)
  have e1:=wib (n:=(0:Int)+1) (by omega) (by omega)
  rw [ybg,cbT (by omega),show (0:Int).toNat=0 from rfl,ydE (by omega),asT (by omega),asT (by omega),asCk,ck0,ck1,ck2,ysl f1,ysl f2,asTT (by simp),e1,show (0:Int)+1=((0+1:Nat):Int) from rfl]
  rw [yET hf hl _ _ (l.length-1) (0+1) (l.length+1) _ (by omega) (by omega) (by simp)]
  have e:[PV.agg [PV.int IntKind.i64 (l.getD 0 default).len,PV.data (ints (l.getD 0 default).cuts),PV.data (ints (l.getD 0 default).dens)]]++cks (l.drop (0+1))=cks l:=by
   conv=>rhs;rw [← qCc (l:=l),yfN default h0]
   rfl
  rw [e,asT rfl,asT (by omega),List.take_length]
  exact k
theorem yuq:∀ (l:List Ck),ye5 l=0→∀ i,i<l.length→(l.getD i default).ok
 | c::t,h,0,_=>by
  unfold ye5 at h
  split at h
  ·rename_i h1;exact ynQ h1
  ·rename_i h1;exact absurd h h1
 | c::t,h,i+1,hi=>by
  unfold ye5 at h
  split at h
  ·exact yuq t h i (by simpa using hi)
  ·rename_i h1;exact absurd h h1
theorem yxl {n:Int}:∀ (l:List Ck),yiL n l=true→∀ i,i<l.length→(l.getD i default).len=n
 | c::t,h,0,_=>by
  unfold yiL at h
  simp only [qAf,decide_eq_true_eq] at h
  exact h.1
 | c::t,h,i+1,hi=>by
  unfold yiL at h
  simp only [qAf,decide_eq_true_eq] at h
  exact yxl t h.2 i (by simpa using hi)
structure DK (l:List Ck):Prop where
 n6:l.length≤6
 n0:1≤l.length
 ok:∀ i,i<l.length→(l.getD i default).ok
 len:∀ i,i<l.length→(l.getD i default).len=(l.getD 0 default).len
theorem yiM {m:Nat} (h:yhe l m=0):DK l∧m≤2000:=by
 unfold yhe at h
 split at h
 ·omega
 split at h
 ·omega
 split at h
 ·omega
 split at h
 ·rename_i h0 h1 h2 h3
  split at h
  ·rename_i h4
   exact ⟨⟨by omega,by omega,yuq l h3,yxl l h4⟩,by omega⟩
  ·omega
 ·rename_i h3;exact absurd h h3
theorem DK.err {l:List Ck} (h:DK l) {m:Nat} (hm:m≤2000):yhe l m=0:=by
 have f:∀ l:List Ck,(∀ i,i<l.length→(l.getD i default).ok)→ye5 l=0:=by
  intro l
  induction l with
  | nil=>intro _;rfl
  | cons c t ih =>
   intro h
   unfold ye5
   rw [if_pos (show c.err=0 from (h 0 (Nat.zero_lt_succ _)).ck)]
   exact ih fun i hi=>h (i+1) (by simpa using hi)
 have g:∀ (n:Int) (l:List Ck),(∀ i,i<l.length→(l.getD i default).len=n)→yiL n l=true:=by
  intro n l
  induction l with
  | nil=>intro _;rfl
  | cons c t ih =>
   intro h
   unfold yiL
   rw [qAf,decide_eq_true_eq]
   exact ⟨h 0 (Nat.zero_lt_succ _),ih fun i hi=>h (i+1) (by simpa using hi)⟩
 have:=h.n6;have:=h.n0
 unfold yhe
 rw [if_neg (by omega),if_neg (by omega),if_neg (by omega),if_pos (f l h.ok),if_pos (g _ l h.len)]
theorem DK.low {l:List Ck} (h:DK l):lowC l:=fun i hi=>by
 have h1:=(h.ok i hi).l1;have h2:=(h.ok i hi).l2
 exact ⟨by omega,by omega⟩
theorem DK.fin {l:List Ck} (h:DK l):finC l:=fun i hi=>by
 have h1:=(h.ok i hi).l1;have h2:=(h.ok i hi).l2
 exact ⟨by omega,by omega⟩
theorem yG3 (hf:finC l) (hl:l.length<4611686018427387904) (K:List PV→List PV→Int→Prop):yfn (cks l) K=if yhe l 0=0 then K (cks l) [] 0 else K [] [] (yhe l 0):=by
 unfold yfn ynf
 rw [yfO hf hl]
 show cbr (yhe l 0 != 0) _ _=_
 by_cases h:yhe l 0=0
 ·have hd:=(yiM h).1
  rw [cnF h,if_pos h,ytD hd.low (by have:=hd.n6;omega)]
 ·rw [cnT h,if_neg h];rfl
def qrow (agent kind an ad bn bd cn cd:Int):PV:=.agg [.int .i64 agent,.int .u8 kind,.int .i64 an,.int .i64 ad,.int .i64 bn,.int .i64 bd,.int .i64 cn,.int .i64 cd]
def qryR (l:List Ck) (m:Nat) (agent:Int) (ans:Ck→Except Int Rat):Except Int Rat :=
 if yhe l m=0 then (if 0≤agent∧agent<l.length then (match ans (l.getD agent.toNat default) with
  | .ok p=>if m≥2000 then .error 4 else .ok p
  | .error e=>.error e) else .error 2) else .error (yhe l m)
def qryK (l:List Ck) (lg:List PV) (row:Rat→PV) (e:Except Int Rat) (K:List PV→List PV→Int→Int→Int→Prop):Prop :=
 match e with
 | .ok p=>K (cks l) (lg++[row p]) p.num p.den 0
 | .error c=>K [] [] 0 0 c
theorem yIn {w:(List PV→List PV→Int→Int→Int→Prop)→Prop} {l:List Ck} {lg:List PV} {row:Rat→PV} {e:Except Int Rat} (det:∀ r0 r1 r2 r3 r4,(∀ K:List PV→List PV→Int→Int→Int→Prop,K r0 r1 r2 r3 r4→w K)→∀ K,w K=K r0 r1 r2 r3 r4)
  (h:∀ K,qryK l lg row e K→w K) (K):w K=qryK l lg row e K:=by
 cases e with
 | ok q=>exact det _ _ _ _ _ h K
 | error c=>exact det _ _ _ _ _ h K
theorem mk1 {z q:PV} {lg:List PV} {m:Nat} (hm:m=lg.length) :
  List.take ((0+m)+1) ((List.take (0+(0+m)) (lg++(List.drop (0+m) (List.replicate (m+1) z))))++(([q]:List PV)++(List.drop ((0+(0+m))+1) (lg++(List.drop (0+m) (List.replicate (m+1) z))))))=lg++[q]:=by
 subst hm
 simp
 rw [qAz (by simp)]
theorem yAY (lg:List PV) (agent:Int) (K:Bool→Prop):ybi (cks l) lg agent K=K (decide (0≤agent∧agent<l.length)):=by
 unfold ybi yf2
 rw [ybg]
 by_cases h:agent≥0
 ·rw [cbT h]
  congr 1
  rw [decide_eq_decide];omega
 ·rw [cbF h,decide_eq_false (by omega)]
def Ck.mark (an ad vn vd:Int) (c:Ck):Except Int Rat:=mrkR c.len c.cuts c.dens an ad vn vd
def Ck.value (an ad bn bd:Int) (c:Ck):Except Int Rat:=valR c.len c.cuts c.dens an ad bn bd
theorem yCH (hf:finC l) (hl:l.length<4611686018427387904) {lg:List PV} (hlg:ydq 8 lg=true) {agent an ad vn vd:Int} (ha:I64 an) (ha':I64 ad) (hv:I64 vn) (hv':I64 vd) (K) :
  ybj (cks l) lg agent an ad vn vd K=qryK l lg (fun p=>qrow agent 2 an ad vn vd p.num p.den) (qryR l lg.length agent (Ck.mark an ad vn vd)) K:=by
 refine yIn (fun r0 r1 r2 r3 r4 h K=>yz2 _ _ _ _ _ _ _ r0 r1 r2 r3 r4 h K) (fun K k=>?_) K
 unfold ybj ynh
 unfold qryR at k
 rw [yfO hf hl]
 by_cases h:yhe l lg.length=0
 case neg=>rw [cnT h];rw [if_neg h] at k;exact k
 obtain ⟨hd,hm⟩:=yiM h
 rw [if_pos h] at k
 rw [cnF h,yAY]
 by_cases h2:0≤agent∧agent<l.length
 case neg=>rw [decide_eq_false h2,qA7,yag];rw [if_neg h2] at k;exact k
 rw [if_pos h2] at k
 obtain ⟨a,rfl⟩:∃ a:Nat,agent=a:=⟨agent.toNat,by omega⟩
 have ha2:a<l.length:=by omega
 rw [qAg] at k
 obtain ⟨f1,f2⟩:=hf a ha2
 rw [decide_eq_true h2,qAw,yab,yf4,yfp,ybg,qAg,ydE ha2,asT (by omega),asT (by omega),asCk,ck0,ck1,ck2,yG0 (by omega) (by omega) ha ha' hv hv']
 have em:Ck.mark an ad vn vd (l.getD a default)=mrkR (l.getD a default).len (l.getD a default).cuts (l.getD a default).dens an ad vn vd:=rfl
 rw [em] at k
 cases hr:mrkR (l.getD a default).len (l.getD a default).cuts (l.getD a default).dens an ad vn vd with
 | error c =>
  rw [hr] at k
  have k:K [] [] 0 0 c:=k
  rw [yAX]
  have hc:c≠0:=by
   intro hc
   subst hc
   unfold mrkR at hr
   split at hr
   ·split at hr
    ·unfold mrkC at hr
     split at hr
     ·cases hr
     ·have no:∀ (r i:Nat) (p v:Rat),mrkS (l.getD a default).cuts (l.getD a default).dens r i p v≠.error 0:=by
       intro r
       induction r with
       | zero=>intro i p v e;unfold mrkS at e;cases e
       | succ r ih =>
        intro i p v e
        unfold mrkS fit at e
        repeat' (first | split at e | dsimp only at e)
        all_goals first | exact ih _ _ _ e | cases e
      exact no _ _ _ _ hr
    ·cases hr
   ·rename_i h5;exact h5 (Except.error.inj hr)
  rw [cnT hc];exact k
 | ok p =>
  rw [hr] at k
  rw [yxk,cnF rfl]
  by_cases h3:lg.length≥2000
  ·rw [cbT (by omega)]
   have k:qryK l lg _ (if lg.length≥2000 then .error 4 else .ok p) K:=k
   rw [if_pos h3] at k;exact k
  ·have k:qryK l lg _ (if lg.length≥2000 then .error 4 else .ok p) K:=k
   rw [if_neg h3] at k
   have k:K (cks l) (lg++[qrow a 2 an ad vn vd p.num p.den]) p.num p.den 0:=k
   have e1:=wib (n:=(lg.length:Int)+1) (by omega) (by omega)
   have e2:((lg.length:Int)+1).toNat=lg.length+1:=by omega
   rw [cbF (by omega),e1,e2,asT (by omega),asT (by unfold room;omega),ytD hd.low (by have:=hd.n6;omega),hlg,yaH]
   rw [asT (by simp),asT (by omega)]
   cases hlg2:lg with
   | nil =>
    rw [List.isEmpty_nil,yag,asT (by simp),asT (by simp),asT (by simp),asT (by simp),asT (by simp)]
    rw [hlg2] at k
    exact k
   | cons x t =>
    rw [← hlg2,show List.isEmpty lg=false by rw [hlg2];rfl,yab,asT (by omega),asT (by simp),asT (by omega),asT (by omega),asT (by simp),asT (by omega)]
    rw [mk1 rfl]
    exact k
theorem yG4 (cuts dens:List Int) (b:Rat):∀ (r i:Nat) (p v:Rat),valS cuts dens b r i p v≠.error 0:=by
 intro r
 induction r with
 | zero=>intro i p v e;unfold valS at e;cases e
 | succ r ih =>
  intro i p v e
  unfold valS fit at e
  repeat' (first | split at e | dsimp only at e)
  all_goals first | exact ih _ _ _ e | cases e
theorem yG5 {len:Int} {cuts dens:List Int} {an ad vn vd:Int}:valR len cuts dens an ad vn vd≠.error 0:=by
 intro hr
 unfold valR at hr
 split at hr
 ·split at hr
  ·exact yG4 _ _ _ _ _ _ _ hr
  ·cases hr
 ·rename_i h5;exact h5 (Except.error.inj hr)
theorem yy2 (hf:finC l) (hl:l.length<4611686018427387904) {lg:List PV} (hlg:ydq 8 lg=true) {agent an ad vn vd:Int} (ha:I64 an) (ha':I64 ad) (hv:I64 vn) (hv':I64 vd) (K) :
  ybH (cks l) lg agent an ad vn vd K=qryK l lg (fun p=>qrow agent 1 an ad vn vd p.num p.den) (qryR l lg.length agent (Ck.value an ad vn vd)) K:=by
 refine yIn (fun r0 r1 r2 r3 r4 h K=>yx8 _ _ _ _ _ _ _ r0 r1 r2 r3 r4 h K) (fun K k=>?_) K
 unfold ybH ylx
 unfold qryR at k
 rw [yfO hf hl]
 by_cases h:yhe l lg.length=0
 case neg=>rw [cnT h];rw [if_neg h] at k;exact k
 obtain ⟨hd,hm⟩:=yiM h
 rw [if_pos h] at k
 rw [cnF h,yAY]
 by_cases h2:0≤agent∧agent<l.length
 case neg=>rw [decide_eq_false h2,qA7,yag];rw [if_neg h2] at k;exact k
 rw [if_pos h2] at k
 obtain ⟨a,rfl⟩:∃ a:Nat,agent=a:=⟨agent.toNat,by omega⟩
 have ha2:a<l.length:=by omega
 rw [qAg] at k
 obtain ⟨f1,f2⟩:=hf a ha2
 rw [decide_eq_true h2,qAw,yab,yfo,ye4,ybg,qAg,ydE ha2,asT (by omega),asT (by omega),asCk,ck0,ck1,ck2,yFH (by omega) (by omega) ha ha' hv hv']
 have em:Ck.value an ad vn vd (l.getD a default)=valR (l.getD a default).len (l.getD a default).cuts (l.getD a default).dens an ad vn vd:=rfl
 rw [em] at k
 cases hr:valR (l.getD a default).len (l.getD a default).cuts (l.getD a default).dens an ad vn vd with
 | error c =>
  rw [hr] at k
  have k:K [] [] 0 0 c:=k
  rw [yAX]
  have hc:c≠0:=fun hc=>yG5 (hc ▸ hr)
  rw [cnT hc];exact k
 | ok p =>
  rw [hr] at k
  rw [yxk,cnF rfl]
  by_cases h3:lg.length≥2000
  ·rw [cbT (by omega)]
   have k:qryK l lg _ (if lg.length≥2000 then .error 4 else .ok p) K:=k
   rw [if_pos h3] at k;exact k
  ·have k:qryK l lg _ (if lg.length≥2000 then .error 4 else .ok p) K:=k
   rw [if_neg h3] at k
   have k:K (cks l) (lg++[qrow a 1 an ad vn vd p.num p.den]) p.num p.den 0:=k
   have e1:=wib (n:=(lg.length:Int)+1) (by omega) (by omega)
   have e2:((lg.length:Int)+1).toNat=lg.length+1:=by omega
   rw [cbF (by omega),e1,e2,asT (by omega),asT (by unfold room;omega),ytD hd.low (by have:=hd.n6;omega),hlg,yaH]
   rw [asT (by simp),asT (by omega)]
   cases hlg2:lg with
   | nil =>
    rw [List.isEmpty_nil,yag,asT (by simp),asT (by simp),asT (by simp),asT (by simp),asT (by simp)]
    rw [hlg2] at k
    exact k
   | cons x t =>
    rw [← hlg2,show List.isEmpty lg=false by rw [hlg2];rfl,yab,asT (by omega),asT (by simp),asT (by omega),asT (by omega),asT (by simp),asT (by omega)]
    rw [mk1 rfl]
    exact k
def ytE (l:List Ck):Bool:=l.any (fun c=>decide (c.cuts.length>60)||decide (c.dens.length>60))||decide (l.length>10)
theorem yFM {len:Int} {cuts dens:List Int} (K:Bool→Prop):yey len (ints cuts) (ints dens) K=K (decide (cuts.length>60)||decide (dens.length>60)):=by
 unfold yey ylH
 rw [yaQ,yaQ]
 by_cases h:cuts.length>60
 ·rw [cbT (by omega),decide_eq_true h];rfl
 ·rw [cbF (by omega),decide_eq_false h,Bool.false_or]
  congr 1;rw [decide_eq_decide];omega
theorem yms (hl:l.length≤9223372036854775807) (K:Bool→Prop) :
  ∀ (r i n:Nat),i+r=l.length→r<n→ybT yey (fun a=>(K a)) (fun b _ _=>(K (decide ((((List.length b):Nat):Int)>(10:Int))))) n (cks l) i =
   K ((l.drop i).any (fun c=>decide (c.cuts.length>60)||decide (c.dens.length>60))||decide (l.length>10))
 | 0,i,n+1,hi,hn=>by
  unfold ybT
  rw [ybg,cbF (by omega),qBe (by omega)]
  show K _=K (false||_)
  rw [Bool.false_or]
  congr 1;rw [decide_eq_decide];omega
 | r+1,i,n+1,hi,hn=>by
  unfold ybT
  have e1:=wib (n:=(i:Int)+1) (by omega) (by omega)
  rw [ybg,cbT (by omega),qAg,ydE (by omega),asT (by omega),asT (by omega),asCk,ck0,ck1,ck2,yFM,yfN default (by omega),List.any_cons,e1,yiK]
  cases hb:(decide ((l.getD i default).cuts.length>60)||decide ((l.getD i default).dens.length>60)) with
  | true=>rw [yag];rfl
  | false=>rw [yab,Bool.false_or];exact yms hl K r (i+1) n (by omega) (by omega)
theorem yym (hl:l.length≤9223372036854775807) (K:Bool→Prop):ycP (cks l) K=K (ytE l):=by
 refine yqd _ _ (fun K k=>?_) K
 unfold ycP yf5
 refine ⟨l.length+1,?_⟩
 have:=yms hl K l.length 0 (l.length+1) (by omega) (by omega)
 rw [show ((0:Nat):Int)=0 from rfl,qCc] at this
 rw [this];exact k
theorem yD7 (h:ytE l=false):l.length≤10∧lowC l∧finC l:=by
 unfold ytE at h
 simp only [qBy,decide_eq_false_iff_not,List.any_eq_false,Bool.not_eq_true,Nat.not_lt] at h
 have hh:∀ i,i<l.length→(l.getD i default).cuts.length≤60∧(l.getD i default).dens.length≤60:=by
  intro i hi
  have hm:l.getD i default∈l:=by rw [qAa,qAc hi];exact qBl hi
  have:=h.1 _ hm
  omega
 exact ⟨by omega,fun i hi=>⟨by have:=hh i hi;omega,by have:=hh i hi;omega⟩,fun i hi=>⟨by have:=hh i hi;omega,by have:=hh i hi;omega⟩⟩
theorem yFN {n d:Int} (hn:-1000000000000000000≤n∧n≤1000000000000000000) (hd:1≤d∧d≤1000000000000000000):small ((n:Rat) / (d:Rat)):=by
 have e:(n:Rat) / (d:Rat)=mkRat n d.toNat:=by
  rw [Rat.mkRat_eq_div]
  have h1:((d.toNat:Nat):Int)=d:=by omega
  have h2:((d.toNat:Nat):Rat)=(d:Rat):=by rw [← Rat.intCast_natCast,h1]
  rw [h2]
 rw [e]
 unfold small
 rw [Rat.num_mkRat,Rat.den_mkRat,if_neg (by omega),if_neg (by omega)]
 have g0:0<d.toNat.gcd n.natAbs:=Nat.gcd_pos_of_pos_left _ (by omega)
 have h1:(n / (d.toNat.gcd n.natAbs:Nat)).natAbs≤n.natAbs:=by
  rw [Int.natAbs_ediv_of_dvd,Int.natAbs_natCast]
  ·exact qBa _ _
  ·rw [← Int.dvd_natAbs,Int.ofNat_dvd];exact Nat.gcd_dvd_right _ _
 have h2:d.toNat / d.toNat.gcd n.natAbs≤d.toNat:=qBa _ _
 generalize n / (d.toNat.gcd n.natAbs:Nat)=x at *
 generalize d.toNat / d.toNat.gcd n.natAbs=y at *
 omega
end
theorem rne {D:Int} (h:1≤D):(D:Rat)≠0:=fun e=>by have:=Rat.intCast_eq_zero_iff.1 e;omega
section
variable {len:Int} {cuts dens:List Int}
def rem (cuts dens:List Int):Nat→Nat→Int
 | 0,_=>0
 | r+1,i=>dens.getD i 0*(cuts.getD (i+1) 0-cuts.getD i 0)+rem cuts dens r (i+1)
theorem yxm (cuts dens:List Int):∀ (r i:Nat) (s:Int),totS cuts dens r i s=s+rem cuts dens r i
 | 0,i,s=>by unfold totS rem;omega
 | r+1,i,s=>by unfold totS rem;rw [yxm cuts dens r (i+1)];omega
theorem yy3 (h:VC len cuts dens):∀ (r i:Nat),i+r=dens.length→0≤rem cuts dens r i∧rem cuts dens r i≤12*(len-cuts.getD i 0)
 | 0,i,hi=>by
  have:=h.l1
  have:=h.hi (i:=i) (by omega)
  unfold rem;omega
 | r+1,i,hi=>by
  unfold rem
  have l1:=h.l1
  have h2:=h.step (i:=i) (by omega)
  have h3:=yEO (h.den (i:=i) (by omega)) (x:=cuts.getD (i+1) 0-cuts.getD i 0) (by omega)
  have:=yy3 h r (i+1) (by omega)
  omega
theorem yEU (h:VC len cuts dens):∀ (r i:Nat),i+r=dens.length→(∃ j,i≤j∧j<dens.length∧0<dens.getD j 0)→0<rem cuts dens r i
 | 0,i,hi,⟨j,h1,h2,_⟩=>by omega
 | r+1,i,hi,⟨j,h1,h2,h3⟩=>by
  unfold rem
  have l1:=h.l1
  have s:=h.step (i:=i) (by omega)
  have m:=yEO (h.den (i:=i) (by omega)) (x:=cuts.getD (i+1) 0-cuts.getD i 0) (by omega)
  have b:=yy3 h r (i+1) (by omega)
  by_cases e:j=i
  ·subst e
   have:=Int.mul_pos h3 (show 0<cuts.getD (j+1) 0-cuts.getD j 0 by omega)
   omega
  ·have:=yEU h r (i+1) (by omega) ⟨j,by omega,h2,h3⟩
   omega
theorem yG6 (h:VC len cuts dens):0<totC cuts dens:=by
 unfold totC
 rw [yxm]
 obtain ⟨d,hd,h0⟩:=h.2.2.2.2.2.2.2.2.2
 obtain ⟨j,hj,e⟩:=List.mem_iff_getElem.1 hd
 have:=yEU h dens.length 0 (by omega) ⟨j,by omega,hj,by rw [qAa,qAc hj];simpa [e] using h0⟩
 omega
end
structure Qy where
 agent:Int
 kind:Int
 an:Int
 ad:Int
 bn:Int
 bd:Int
 cn:Int
 cd:Int
 deriving DecidableEq
instance:Inhabited Qy:=⟨⟨0,0,0,0,0,0,0,0⟩⟩
def encQ (q:Qy):PV:=qrow q.agent q.kind q.an q.ad q.bn q.bd q.cn q.cd
def logs (l:List Qy):List PV:=l.map encQ
theorem ycS (l:List Qy):(logs l).length=l.length:=qAe ..
theorem yoi (l:List Qy):ydq 8 (logs l)=true:=by cases l <;> rfl
theorem ysm (l m:List Qy):logs (l++m)=logs l++logs m:=qBv ..
structure Sp where
 a:Int
 b:Int
 c:Int
 d:Int
 deriving DecidableEq
instance:Inhabited Sp:=⟨⟨0,0,0,0⟩⟩
def encS (s:Sp):PV:=.agg [.int .i64 s.a,.int .i64 s.b,.int .i64 s.c,.int .i64 s.d]
def ymt (l:List Sp):List PV:=l.map encS
def ynS (l:List (List Sp)):List PV:=l.map fun s=>.data (ymt s)
theorem yy4 (l:List Sp):(ymt l).length=l.length:=qAe ..
theorem yG7 {l:List Sp} {i:Nat} (h:i<l.length):List.getD (ymt l) i .nils=encS (l.getD i default):=by
 unfold ymt
 rw [qAa,qAa,qBc,qAc h]
 rfl
theorem yxn (l:List (List Sp)):(ynS l).length=l.length:=qAe ..
theorem yFO {l:List (List Sp)} {i:Nat} (h:i<l.length):List.getD (ynS l) i .nils=.data (ymt (l.getD i [])):=by
 unfold ynS
 rw [qAa,qAa,qBc,qAc h]
 rfl
theorem asS {s:Sp} {P:Prop}:asr (conf z4 (encS s)) P=P:=rfl
theorem asD {r:List PV} {P:Prop}:asr (conf zD (.data r)) P=P:=rfl
theorem yxo {s:List Sp} (hl:s.length<4611686018427387904) (K:Bool→Prop) :
  ∀ (r i n:Nat),i+r=s.length→r<n→ydz (fun a=>(K a)) (fun _ _ _ _=>(K true)) n (ymt s) (ymt s) i=K true
 | 0,i,n+1,hi,hn=>by
  unfold ydz
  rw [yy4,cbF (by omega)]
 | r+1,i,n+1,hi,hn=>by
  unfold ydz
  have e1:=wib (n:=(i:Int)+1) (by omega) (by omega)
  rw [yy4,cbT (by omega),qAg,yG7 (by omega),asT (by omega),asT (by omega),asS,asT (by omega),asT (by omega),asS,e1,yiK]
  simp only [beq_self_eq_true,Bool.and_self,qAw,yab]
  exact yxo hl K r (i+1) n (by omega) (by omega)
theorem yD8 {s:List Sp} (hl:s.length<4611686018427387904) (K:Bool→Prop):ydh (ymt s) (ymt s) K=K true:=by
 refine yAC _ _ _ (fun K k=>?_) K
 unfold ydh ynw
 rw [cnF rfl]
 refine ⟨s.length+1,?_⟩
 exact (yxo hl K s.length 0 (s.length+1) (by omega) (by omega)).mpr k
theorem yxp {l:List (List Sp)} (hf:∀ i,i<l.length→(l.getD i []).length<4611686018427387904) (hl:l.length<4611686018427387904) (K:Bool→Prop) :
  ∀ (r i n:Nat),i+r=l.length→r<n→ydA ydh (fun a=>(K a)) (fun _ _ _ _=>(K true)) n (ynS l) (ynS l) i=K true
 | 0,i,n+1,hi,hn=>by
  unfold ydA
  rw [yxn,cbF (by omega)]
 | r+1,i,n+1,hi,hn=>by
  unfold ydA
  have e1:=wib (n:=(i:Int)+1) (by omega) (by omega)
  rw [yxn,cbT (by omega),qAg,yFO (by omega),asT (by omega),asT (by omega),asD,asT (by omega),asT (by omega),asD]
  show ydh (ymt (l.getD i [])) (ymt (l.getD i [])) _=_
  rw [yD8 (hf i (by omega)),qAw,yab,e1,yiK]
  exact yxp hf hl K r (i+1) n (by omega) (by omega)
theorem yD9 {l:List (List Sp)} (hf:∀ i,i<l.length→(l.getD i []).length<4611686018427387904) (hl:l.length<4611686018427387904) (K:Bool→Prop):yfq (ynS l) (ynS l) K=K true:=by
 refine yAD _ _ _ (fun K k=>?_) K
 unfold yfq yny
 rw [cnF rfl]
 refine ⟨l.length+1,?_⟩
 exact (yxp hf hl K l.length 0 (l.length+1) (by omega) (by omega)).mpr k
def getR (e:Except Int Rat):Rat:=match e with | .ok q=>q | .error _=>0
theorem yH1 {e:Except Int Rat} {q:Rat} (h:e=.ok q):e=.ok (getR e)∧getR e=q:=by subst h;exact ⟨rfl,rfl⟩
section
variable {l:List Ck}
theorem yAZ (x y:Rat):decide (cmpQ x y≥0)=!decide (x<y):=by
 unfold cmpQ
 by_cases h:x<y
 ·simp [h]
 ·by_cases h2:y<x <;> simp [h,h2]
theorem yG8 (hl:l.length≤9223372036854775807) (lg:List PV) (K:Bool→Prop):ydK (cks l) lg K=K (ytE l||(decide (lg.length>40∧lg.length<1999)||decide (lg.length>2010))):=by
 unfold ydK ylQ
 rw [yym hl]
 cases hg:ytE l with
 | true=>rw [yag];rfl
 | false =>
  rw [yab,Bool.false_or]
  have e:decide ((lg.length:Int)>2010)=decide (lg.length>2010):=by rw [decide_eq_decide];omega
  by_cases h:lg.length>40
  ·rw [cbT (by omega)]
   by_cases h2:lg.length<1999
   ·rw [cbT (by omega),decide_eq_true ⟨h,h2⟩];rfl
   ·rw [cbF (by omega),decide_eq_false (show ¬(lg.length>40∧lg.length<1999) from fun x=>h2 x.2),Bool.false_or,e]
  ·rw [cbF (by omega),decide_eq_false (show ¬(lg.length>40∧lg.length<1999) from fun x=>h x.1),Bool.false_or,e]
end
def dsR:DS:=.a [.i .i64,.i .i64]
def dsC:DS:=.a [.i .i64,.s (.i .i64),.s (.i .i64)]
def dsQ:DS:=.a [.i .i64,.i .u8,dsR,dsR,dsR]
def dsD:DS:=.a [.s dsC,.s dsQ]
theorem yvi {n:Int} (h:inK .i64 n):I64 n:=by
 have e1:IntKind.i64.min=-9223372036854775808:=by decide
 have e2:IntKind.i64.max=9223372036854775807:=by decide
 unfold inK at h
 rw [e1,e2] at h
 exact h
theorem F_i {c:List PV} (h:HasF (.i .i64) c):∃ n,c=[.int .i64 n]∧I64 n:=by
 simp only [HasF] at h
 obtain ⟨n,e,k⟩:=h
 exact ⟨n,e,yvi k⟩
theorem F_r {c:List PV} (h:HasF dsR c):∃ n d,c=[.int .i64 n,.int .i64 d]∧I64 n∧I64 d:=by
 simp only [dsR,HasF,HasL] at h
 obtain ⟨c1,c2,rfl,⟨n,rfl,hn⟩,c3,c4,rfl,⟨d,rfl,hd⟩,rfl⟩:=h
 exact ⟨n,d,rfl,yvi hn,yvi hd⟩
theorem yvj:∀ (rows:List PV),(∀ x∈rows,x.isAgg=(DS.i .i64).isA∧HasF (.i .i64) x.cells)→∃ l:List Int,rows=ints l∧∀ n∈l,I64 n
 | [],_=>⟨[],rfl,by simp⟩
 | x::r,h=>by
  obtain ⟨l,e,hl⟩:=yvj r (fun y hy=>h y (qAk _ hy))
  obtain ⟨h1,h2⟩:=h x (qAt ..)
  obtain ⟨n,e2,hn⟩:=F_i h2
  have ex:x=.int .i64 n:=by
   cases x <;> first | (simp only [PV.cells,qA1,and_true] at e2;exact e2) | (cases h1)
  refine ⟨n::l,by rw [ex,e];rfl,?_⟩
  intro m hm
  rcases qAv.1 hm with rfl | hm
  ·exact hn
  ·exact hl m hm
def Ck.i64 (c:Ck):Prop:=I64 c.len∧(∀ n∈c.cuts,I64 n)∧∀ n∈c.dens,I64 n
theorem F_c {c:List PV} (h:HasF dsC c):∃ k:Ck,c=[.int .i64 k.len,.data (ints k.cuts),.data (ints k.dens)]∧k.i64∧k.cuts.length≤9223372036854775807∧k.dens.length≤9223372036854775807:=by
 simp only [dsC,HasF,HasL] at h
 obtain ⟨c1,c2,rfl,⟨n,rfl,hn⟩,c3,c4,rfl,⟨r1,rfl,l1,h1⟩,c5,c6,rfl,⟨r2,rfl,l2,h2⟩,rfl⟩:=h
 obtain ⟨a,rfl,ha⟩:=yvj r1 (fun x hx=>⟨(h1 x hx).1,by simp only [HasF];exact (h1 x hx).2⟩)
 obtain ⟨b,rfl,hb⟩:=yvj r2 (fun x hx=>⟨(h2 x hx).1,by simp only [HasF];exact (h2 x hx).2⟩)
 rw [yaQ] at l1 l2
 exact ⟨⟨n,a,b⟩,rfl,⟨yvi hn,ha,hb⟩,l1,l2⟩
theorem yxq {x:PV} {l:List DS} (h:x.isAgg=(DS.a l).isA):x=.agg x.cells:=by
 cases x <;> first | rfl | cases h
theorem yG9:∀ (rows:List PV),(∀ x∈rows,x.isAgg=dsC.isA∧HasF dsC x.cells)→∃ l:List Ck,rows=cks l∧∀ c∈l,c.i64
 | [],_=>⟨[],rfl,by simp⟩
 | x::r,h=>by
  obtain ⟨l,e,hl⟩:=yG9 r (fun y hy=>h y (qAk _ hy))
  obtain ⟨h1,h2⟩:=h x (qAt ..)
  obtain ⟨k,e2,hk,_⟩:=F_c h2
  have ex:x=encC k:=by rw [yxq h1,e2];rfl
  refine ⟨k::l,by rw [ex,e];rfl,?_⟩
  intro m hm
  rcases qAv.1 hm with rfl | hm
  ·exact hk
  ·exact hl m hm
theorem F_q {c:List PV} (h:HasF dsQ c):∃ q:Qy,c=[.int .i64 q.agent,.int .u8 q.kind,.int .i64 q.an,.int .i64 q.ad,.int .i64 q.bn,.int .i64 q.bd,.int .i64 q.cn,.int .i64 q.cd]:=by
 simp only [dsQ,dsR,HasF,HasL] at h
 obtain ⟨_,_,rfl,⟨a,rfl,_⟩,_,_,rfl,⟨b,rfl,_⟩,_,_,rfl,⟨_,_,rfl,⟨c,rfl,_⟩,_,_,rfl,⟨d,rfl,_⟩,rfl⟩,_,_,rfl,⟨_,_,rfl,⟨e,rfl,_⟩,_,_,rfl,⟨f,rfl,_⟩,rfl⟩,_,_,rfl,⟨_,_,rfl,⟨g,rfl,_⟩,_,_,rfl,⟨i,rfl,_⟩,rfl⟩,rfl⟩:=h
 exact ⟨⟨a,b,c,d,e,f,g,i⟩,rfl⟩
theorem yEV:∀ (rows:List PV),(∀ x∈rows,x.isAgg=dsQ.isA∧HasF dsQ x.cells)→∃ l:List Qy,rows=logs l
 | [],_=>⟨[],rfl⟩
 | x::r,h=>by
  obtain ⟨l,e⟩:=yEV r (fun y hy=>h y (qAk _ hy))
  obtain ⟨h1,h2⟩:=h x (qAt ..)
  obtain ⟨k,e2⟩:=F_q h2
  have ex:x=encQ k:=by rw [yxq h1,e2];rfl
  exact ⟨k::l,by rw [ex,e];rfl⟩
theorem yJm {c:List PV} (h:HasF (.s dsC) c):∃ l:List Ck,c=[.data (cks l)]∧l.length≤9223372036854775807∧∀ k∈l,k.i64:=by
 simp only [HasF] at h
 obtain ⟨rows,rfl,hl,hr⟩:=h
 obtain ⟨l,rfl,hi⟩:=yG9 rows hr
 rw [ybg] at hl
 exact ⟨l,rfl,hl,hi⟩
theorem yI1 {c:List PV} (h:HasF (.s dsQ) c):∃ l:List Qy,c=[.data (logs l)]∧l.length≤9223372036854775807:=by
 simp only [HasF] at h
 obtain ⟨rows,rfl,hl,hr⟩:=h
 obtain ⟨l,rfl⟩:=yEV rows hr
 rw [ycS] at hl
 exact ⟨l,rfl,hl⟩
theorem yFP {x y:PV} (h:x.isAgg=false) (e:x.cells=[y]):x=y:=by
 cases x <;> first | (simp only [PV.cells,qA1,and_true] at e;exact e) | cases h
theorem yxr {l:List Int} (hl:l.length<4611686018427387904) (K:Bool→Prop) :
  ∀ (r i n:Nat),i+r=l.length→r<n→ydB (fun a=>(K a)) (fun _ _ _ _=>(K true)) n (ints l) (ints l) i=K true
 | 0,i,n+1,hi,hn=>by
  unfold ydB
  rw [yaQ,cbF (by omega)]
 | r+1,i,n+1,hi,hn=>by
  unfold ydB
  have e1:=wib (n:=(i:Int)+1) (by omega) (by omega)
  rw [yaQ,cbT (by omega),qAg,asT (by omega),asT (by omega),asC (by omega),asT (by omega),asT (by omega),asC (by omega),cnF rfl,e1,yiK]
  exact yxr hl K r (i+1) n (by omega) (by omega)
theorem yEa {l:List Int} (hl:l.length<4611686018427387904) (K:Bool→Prop):yfr (ints l) (ints l) K=K true:=by
 refine yAE _ _ _ (fun K k=>?_) K
 unfold yfr ynA
 rw [cnF rfl]
 refine ⟨l.length+1,?_⟩
 exact (yxr hl K l.length 0 (l.length+1) (by omega) (by omega)).mpr k
section
variable {l:List Ck}
theorem ykS {α:Type} {q:Rat} {k:Rat→Except Int α} {x:α} (h:fit q k=.ok x):small q∧k q=.ok x:=by
 unfold fit at h
 split at h
 ·rename_i hs;exact ⟨hs,h⟩
 ·cases h
theorem ylY {cuts dens:List Int}:∀ (r i:Nat) (p v q:Rat),mrkS cuts dens r i p v=.ok q→small q
 | 0,_,_,_,_,h=>by unfold mrkS at h;cases h
 | r+1,i,p,v,q,h=>by
  unfold mrkS at h
  split at h
  ·exact ylY r _ _ _ _ h
  ·split at h
   ·exact ylY r _ _ _ _ h
   ·obtain ⟨_,h⟩:=ykS h
    obtain ⟨_,h⟩:=ykS h
    split at h
    ·obtain ⟨_,h⟩:=ykS h
     exact ylY r _ _ _ _ h
    ·obtain ⟨_,h⟩:=ykS h
     obtain ⟨s,h⟩:=ykS h
     cases h
     exact s
end
end Go.Pf.Vc
namespace Go.Pf.Vc
abbrev RS:Type:=Rat×Rat
def maxR (a b:Rat):Rat:=if a<b then b else a
def minR (a b:Rat):Rat:=if a<b then a else b
theorem ydp (a b:Rat):a≤maxR a b∧b≤maxR a b∧(maxR a b=a∨maxR a b=b):=by unfold maxR;split <;> grind
theorem yek (a b:Rat):minR a b≤a∧minR a b≤b∧(minR a b=a∨minR a b=b):=by unfold minR;split <;> grind
end Go.Pf.Vc
namespace Go.Pf.Vc
open Go Go.Pf
theorem yCI (q r:Rat):decide (cmpQ q r<0)=decide (q<r):=by
 unfold cmpQ
 by_cases h:q<r
 ·rw [if_pos h];simp [h]
 ·rw [if_neg h]
  split <;> simp [h]
theorem yH2 (q r:Rat):decide (cmpQ q r≤0)=!decide (r<q):=by
 unfold cmpQ
 by_cases h:q<r
 ·have:¬r<q:=by grind
  rw [if_pos h];simp [this]
 ·rw [if_neg h]
  by_cases h2:r<q
  ·rw [if_pos h2];simp [h2]
  ·rw [if_neg h2];simp [h2]
def spOf (r:RS):Sp:=⟨r.1.num,r.1.den,r.2.num,r.2.den⟩
def rsp (l:List RS):List PV:=ymt (l.map spOf)
theorem asTr (P:Prop):asr (decide True) P=P:=by rw [decide_true];rfl
theorem ez (P Q:Prop):cbr ((0:Int) == 0) P Q=P:=rfl
section
variable (V:Rat→Rat)
def dV (s:RS):Rat:=V s.2-V s.1
end
section
variable {len:Int} {cuts dens:List Int}
def uC (cuts:List Int) (i:Nat) (x:Rat):Rat:=minR (maxR x (cuts.getD i 0:Int)) (cuts.getD (i+1) 0:Int)
def vu (cuts dens:List Int) (x:Rat):Nat→Nat→Rat
 | 0,_=>0
 | r+1,i=>(dens.getD i 0:Int)*uC cuts i x+vu cuts dens x r (i+1)
theorem ytF (h:VC len cuts dens):∀ (r i:Nat) {x y:Rat},i+r=dens.length→x≤(cuts.getD i 0:Int)→y≤(cuts.getD i 0:Int)→vu cuts dens x r i=vu cuts dens y r i
 | 0,_,_,_,_,_,_=>rfl
 | r+1,i,x,y,hi,hx,hy=>by
  have l1:=h.l1
  have hst:((cuts.getD i 0:Int):Rat)<((cuts.getD (i+1) 0:Int):Rat):=qB7.2 (h.step (i:=i) (by omega))
  have ih:=ytF h r (i+1) (x:=x) (y:=y) (by omega) (by grind) (by grind)
  unfold vu
  rw [ih]
  have e:uC cuts i x=uC cuts i y:=by
   unfold uC
   have a1:=ydp x (cuts.getD i 0:Int)
   have a2:=ydp y (cuts.getD i 0:Int)
   have e1:maxR x (cuts.getD i 0:Int)=(cuts.getD i 0:Int):=by grind
   have e2:maxR y (cuts.getD i 0:Int)=(cuts.getD i 0:Int):=by grind
   rw [e1,e2]
  rw [e]
theorem yjI {α:Type} {q:Rat} {k:Rat→Except Int α} {v:α} (h:fit q k=.ok v):k q=.ok v:=by
 unfold fit at h
 split at h
 ·exact h
 ·cases h
theorem yvk (h:VC len cuts dens) {b:Rat}:∀ (r i:Nat) (p sum v:Rat),i+r=dens.length→p≤b→(p=b∨((cuts.getD i 0:Int):Rat)≤p)→valS cuts dens b r i p sum=.ok v→v=sum+(vu cuts dens b r i-vu cuts dens p r i)
 | 0,i,p,sum,v,hi,hp,hc,hv=>by
  unfold valS at hv
  cases hv
  unfold vu
  grind
 | r+1,i,p,sum,v,hi,hp,hc,hv=>by
  have l1:=h.l1
  have hst:((cuts.getD i 0:Int):Rat)<((cuts.getD (i+1) 0:Int):Rat):=qB7.2 (h.step (i:=i) (by omega))
  unfold valS at hv
  dsimp only at hv
  have hen:∃ en:Rat,(if b<((cuts.getD (i+1) 0:Int):Rat) then b else ((cuts.getD (i+1) 0:Int):Rat))=en∧en≤b∧en≤((cuts.getD (i+1) 0:Int):Rat)∧(en=b∨en=((cuts.getD (i+1) 0:Int):Rat)):=by
   refine ⟨_,rfl,?_⟩
   split <;> grind
  obtain ⟨en,e0,he1,he2,he3⟩:=hen
  rw [e0] at hv
  have low:=ytF h r (i+1) (x:=en) (y:=p) (by omega)
  have m1:=ydp b (cuts.getD i 0:Int)
  have m2:=ydp p (cuts.getD i 0:Int)
  have n1:=yek (maxR b (cuts.getD i 0:Int)) (cuts.getD (i+1) 0:Int)
  have n2:=yek (maxR p (cuts.getD i 0:Int)) (cuts.getD (i+1) 0:Int)
  unfold vu uC
  generalize ((cuts.getD i 0:Int):Rat)=c0 at *
  generalize hc1:((cuts.getD (i+1) 0:Int):Rat)=c1 at *
  by_cases hlt:p<en
  ·have hb:minR (maxR b c0) c1=en:=by grind
   have hq:minR (maxR p c0) c1=p:=by grind
   by_cases hd:dens.getD i 0=0
   ·rw [if_pos (.inl hd),if_pos hlt] at hv
    have ih:=yvk h r (i+1) en sum v (by omega) he1 (by rw [hc1];grind) hv
    rw [ih,hd,low (by grind) (by grind)]
    grind
   ·rw [if_neg (by intro k;rcases k with k | k;exact hd k;exact k hlt)] at hv
    have hv:=yjI (yjI (yjI hv))
    have ih:=yvk h r (i+1) en _ v (by omega) he1 (by rw [hc1];grind) hv
    rw [ih,low (by grind) (by grind),hb,hq]
    grind
  ·rw [if_pos (.inr hlt),if_neg hlt] at hv
   have ih:=yvk h r (i+1) p sum v (by omega) hp (by rw [hc1];grind) hv
   have:minR (maxR b c0) c1=minR (maxR p c0) c1:=by grind
   rw [ih,this]
   grind
def vX (cuts dens:List Int) (x:Rat):Rat:=vu cuts dens x dens.length 0
theorem yvl (h:VC len cuts dens) {a b v:Rat} (h0:0≤a) (hab:a≤b) (hv:valC cuts dens a b=.ok v):v=vX cuts dens b-vX cuts dens a:=by
 have c0:cuts.getD 0 0=0:=h.2.2.2.2.2.1
 have:=yvk h dens.length 0 a 0 v (by omega) hab (.inr (by rw [c0];exact h0)) hv
 unfold vX
 rw [this];grind
theorem yqv (cuts dens:List Int) (b:Rat):∀ (r i:Nat) (p sum v:Rat),small sum→valS cuts dens b r i p sum=.ok v→small v:=by
 intro r
 induction r with
 | zero=>intro i p sum v hs e;unfold valS at e;cases e;exact hs
 | succ r ih =>
  intro i p sum v hs e
  unfold valS fit at e
  repeat' (first | split at e | dsimp only at e)
  all_goals first | exact ih _ _ _ _ hs e | (rename_i h;exact ih _ _ _ _ h e) | cases e
theorem yA0 (q r:Rat):decide (cmpQ q r>0)=decide (r<q):=by
 rw [← Bool.not_eq_not,← yH2,Bool.eq_iff_iff]
 simp only [decide_eq_true_eq]
 omega
theorem yEW (h:VC len cuts dens) {i:Nat} (hi:i+1<cuts.length) {x y:Rat} (hxy:x≤y):uC cuts i x≤uC cuts i y:=by
 have hst:((cuts.getD i 0:Int):Rat)<((cuts.getD (i+1) 0:Int):Rat):=qB7.2 (h.step (i:=i) hi)
 have m1:=ydp x (cuts.getD i 0:Int)
 have m2:=ydp y (cuts.getD i 0:Int)
 have n1:=yek (maxR x (cuts.getD i 0:Int)) (cuts.getD (i+1) 0:Int)
 have n2:=yek (maxR y (cuts.getD i 0:Int)) (cuts.getD (i+1) 0:Int)
 unfold uC
 grind
theorem yHa (h:VC len cuts dens) {i:Nat} (hi:i<dens.length):(0:Rat)≤((dens.getD i 0:Int):Rat):=Rat.intCast_nonneg.2 (h.den hi).1
theorem yA1 (h:VC len cuts dens) {x y:Rat} (hxy:x≤y):∀ (r i:Nat),i+r=dens.length→vu cuts dens x r i≤vu cuts dens y r i
 | 0,_,_=>qBz
 | r+1,i,hi=>by
  have l1:=h.l1
  have h1:=yEW h (i:=i) (by omega) hxy
  have h2:=yA1 h hxy r (i+1) (by omega)
  have h3:=qBm h1 (yHa h (i:=i) (by omega))
  unfold vu
  grind
theorem yhU (h:VC len cuts dens) {x y:Rat} (hxy:x≤y):vX cuts dens x≤vX cuts dens y:=yA1 h hxy dens.length 0 (by omega)
theorem yvm (h:VC len cuts dens):∀ (r i:Nat) (p v q:Rat),i+r=dens.length→0<v→((cuts.getD i 0:Int):Rat)≤p→mrkS cuts dens r i p v=.ok q →
  vu cuts dens q r i-vu cuts dens p r i=v∧p<q∧q≤((cuts.getD dens.length 0:Int):Rat)∧∀ x,x<q→vu cuts dens x r i<vu cuts dens q r i
 | 0,_,_,_,_,_,_,_,e=>by cases e
 | r+1,i,p,v,q,hi,hv,hp,e=>by
  have l1:=h.l1
  have hst:((cuts.getD i 0:Int):Rat)<((cuts.getD (i+1) 0:Int):Rat):=qB7.2 (h.step (i:=i) (by omega))
  have hd:=h.den (i:=i) (by omega)
  have hd0:=yHa h (i:=i) (by omega)
  have low:=fun {x y:Rat}=>ytF h r (i+1) (x:=x) (y:=y) (by omega)
  have hmon:=fun {x:Rat} (hx:x<q)=>yEW h (i:=i) (by omega) (qA2 hx)
  have hmon2:=fun {x:Rat} (hx:x<q)=>yA1 h (qA2 hx) r (i+1) (by omega)
  have m1:=ydp p (cuts.getD i 0:Int)
  have m2:=ydp q (cuts.getD i 0:Int)
  have n1:=yek (maxR p (cuts.getD i 0:Int)) (cuts.getD (i+1) 0:Int)
  have n2:=yek (maxR q (cuts.getD i 0:Int)) (cuts.getD (i+1) 0:Int)
  unfold mrkS at e
  by_cases c1:p<((cuts.getD (i+1) 0:Int):Rat)
  case neg =>
   rw [if_pos c1] at e
   obtain ⟨a1,a2,a3,a4⟩:=yvm h r (i+1) p v q (by omega) hv (Rat.not_lt.1 c1) e
   have eq:uC cuts i q=uC cuts i p:=by unfold uC;grind
   refine ⟨by unfold vu;rw [eq];grind,a2,a3,fun x hx=>?_⟩
   have b1:=a4 x hx
   have b2:=qBm (hmon hx) hd0
   unfold vu
   grind
  rw [if_neg (fun k=>k c1)] at e
  by_cases c2:dens.getD i 0=0
  ·rw [if_pos c2] at e
   obtain ⟨a1,a2,a3,a4⟩:=yvm h r (i+1) _ v q (by omega) hv qBz e
   have e2:=low (x:=p) (y:=((cuts.getD (i+1) 0:Int):Rat)) (qA2 c1) qBz
   refine ⟨by unfold vu;rw [e2,c2];grind,by grind,a3,fun x hx=>?_⟩
   have b1:=a4 x hx
   have b2:=qBm (hmon hx) hd0
   unfold vu
   grind
  rw [if_neg c2] at e
  have e:=yjI (yjI e)
  have dpos:(0:Rat)<((dens.getD i 0:Int):Rat):=Rat.intCast_pos.2 (by omega)
  have up:uC cuts i p=p:=by unfold uC;grind
  by_cases c3:(((cuts.getD (i+1) 0:Int):Rat)-p)*((dens.getD i 0:Int):Rat)<v
  ·rw [if_pos c3] at e
   have e:=yjI e
   obtain ⟨a1,a2,a3,a4⟩:=yvm h r (i+1) _ _ q (by omega) (by grind) qBz e
   have e2:=low (x:=p) (y:=((cuts.getD (i+1) 0:Int):Rat)) (qA2 c1) qBz
   have uq:uC cuts i q=((cuts.getD (i+1) 0:Int):Rat):=by unfold uC;grind
   refine ⟨by unfold vu;rw [e2,up,uq];grind,by grind,a3,fun x hx=>?_⟩
   have b1:=a4 x hx
   have b2:=qBm (hmon hx) hd0
   unfold vu
   grind
  ·rw [if_neg c3] at e
   have e:=yjI (yjI e)
   cases e
   generalize hs:v / ((dens.getD i 0:Int):Rat)=s at *
   have es:s*((dens.getD i 0:Int):Rat)=v:=by rw [← hs];exact Rat.div_mul_cancel (by grind)
   have s0:0<s:=by
    refine Rat.not_le.1 fun k=>?_
    have:=qB4 k hd0
    grind
   have s1:p+s≤((cuts.getD (i+1) 0:Int):Rat):=by
    refine Rat.not_lt.1 fun k=>?_
    have:(((cuts.getD (i+1) 0:Int):Rat)-p)<s:=by grind
    have:=Rat.mul_lt_mul_of_pos_right this dpos
    grind
   have uq:uC cuts i (p+s)=p+s:=by unfold uC;grind
   have e2:=low (x:=p+s) (y:=p) s1 (qA2 c1)
   have hlast:cuts.getD (i+1) 0≤cuts.getD dens.length 0:=h.mono (by omega) (by omega)
   have hlast:((cuts.getD (i+1) 0:Int):Rat)≤((cuts.getD dens.length 0:Int):Rat):=qA0.2 hlast
   refine ⟨by unfold vu;rw [e2,up,uq];grind,by grind,by grind,fun x hx=>?_⟩
   have b1:=hmon2 hx
   have ux:uC cuts i x<p+s:=by
    have k1:=ydp x (cuts.getD i 0:Int)
    have k2:=yek (maxR x (cuts.getD i 0:Int)) (cuts.getD (i+1) 0:Int)
    unfold uC
    grind
   have b2:=Rat.mul_lt_mul_of_pos_left ux dpos
   unfold vu
   rw [uq]
   grind
theorem VC.last (h:VC len cuts dens):cuts.getD dens.length 0=len:=by
 have l1:=h.l1
 have:=h.2.2.2.2.2.2.1
 rw [show dens.length=cuts.length-1 by omega]
 exact this
theorem yEX (h:VC len cuts dens) {a v q:Rat} (h0:0≤a) (h1:a≤(len:Rat)) (hv:0≤v) (e:mrkC cuts dens a v=.ok q) :
  vX cuts dens q=vX cuts dens a+v∧a≤q∧q≤(len:Rat)∧(v=0→a=q)∧(v≠0→∀ x,x<q→vX cuts dens x<vX cuts dens q):=by
 unfold mrkC at e
 by_cases c:v=0
 ·rw [if_pos c] at e
  cases e
  rw [c]
  exact ⟨by grind,qBz,h1,fun _=>rfl,fun k=>absurd rfl k⟩
 ·rw [if_neg c] at e
  have c0:cuts.getD 0 0=0:=h.2.2.2.2.2.1
  obtain ⟨a1,a2,a3,a4⟩:=yvm h dens.length 0 a v q (by omega) (by grind) (by rw [c0];exact h0) e
  rw [h.last] at a3
  exact ⟨by unfold vX;grind,qA2 a2,a3,fun k=>absurd k c,fun _=>a4⟩
end
def In (D:Int) (q:Rat):Prop:=∃ n:Int,q=(n:Rat) / (D:Rat)
theorem In.int {D:Int} (h:1≤D) (c:Int):In D (c:Rat):=⟨c*D,by rw [Rat.intCast_mul,Rat.mul_div_cancel (rne h)]⟩
theorem In.add {D:Int} {q r:Rat} (h:In D q) (k:In D r):In D (q+r):=by
 obtain ⟨n,rfl⟩:=h
 obtain ⟨m,rfl⟩:=k
 exact ⟨n+m,by rw [Rat.intCast_add];grind⟩
theorem In.sub {D:Int} {q r:Rat} (h:In D q) (k:In D r):In D (q-r):=by
 obtain ⟨n,rfl⟩:=h
 obtain ⟨m,rfl⟩:=k
 exact ⟨n-m,by rw [Rat.intCast_sub];grind⟩
theorem In.mulI {D:Int} {q:Rat} (h:In D q) (d:Int):In D (q*(d:Rat)):=by
 obtain ⟨n,rfl⟩:=h
 exact ⟨n*d,by rw [Rat.intCast_mul];grind⟩
theorem In.up {D d:Int} {q:Rat} (hD:1≤D) (hd:1≤d) (h:In D q):In (d*D) q:=by
 obtain ⟨n,rfl⟩:=h
 have h1:=rne hD
 have h2:=rne hd
 refine ⟨d*n,?_⟩
 rw [Rat.intCast_mul,Rat.intCast_mul]
 grind
theorem In.div {D d:Int} {q:Rat} (hD:1≤D) (hd:1≤d) (h:In D q):In (d*D) (q / (d:Rat)):=by
 obtain ⟨n,rfl⟩:=h
 have h1:=rne hD
 have h2:=rne hd
 refine ⟨n,?_⟩
 rw [Rat.intCast_mul]
 grind
theorem In.small {D M:Int} {q:Rat} (h:In D q) (hD:1≤D∧D≤1000000000000000000) (hM:M*D≤1000000000000000000) (h0:-(M:Rat)≤q) (h1:q≤(M:Rat)):small q:=by
 obtain ⟨n,rfl⟩:=h
 have hp:(0:Rat)<(D:Rat):=Rat.intCast_pos.2 (by omega)
 have e:(n:Rat) / (D:Rat)*(D:Rat)=(n:Rat):=Rat.div_mul_cancel (rne hD.1)
 have a:=qB4 h0 (qA2 hp)
 have b:=qB4 h1 (qA2 hp)
 rw [e] at a b
 have a':((-(M*D):Int):Rat)≤(n:Rat):=by rw [Rat.intCast_neg,Rat.intCast_mul];grind
 have b':(n:Rat)≤((M*D:Int):Rat):=by rw [Rat.intCast_mul];exact b
 have a2:=qA0.1 a'
 have b2:=qA0.1 b'
 exact yFN (d:=D) ⟨by omega,by omega⟩ ⟨by omega,by omega⟩
section
variable {len:Int} {cuts dens:List Int}
theorem ysn (h:VC len cuts dens) {i j:Nat} (hij:i≤j) (hj:j≤dens.length):((cuts.getD i 0:Int):Rat)≤((cuts.getD j 0:Int):Rat):=qA0.2 (h.mono hij (by have:=h.l1;omega))
theorem yJn {D:Int} (hD:1≤D) {x:Rat} (hx:In D x) (i:Nat):In D (uC cuts i x):=by
 have n1:=yek (maxR x (cuts.getD i 0:Int)) (cuts.getD (i+1) 0:Int)
 have m1:=ydp x (cuts.getD i 0:Int)
 unfold uC
 rcases n1.2.2 with e | e
 ·rw [e]
  rcases m1.2.2 with e2 | e2
  ·rw [e2];exact hx
  ·rw [e2];exact In.int hD _
 ·rw [e];exact In.int hD _
theorem yIo {D:Int} (hD:1≤D) {x:Rat} (hx:In D x):∀ (r i:Nat),In D (vu cuts dens x r i)
 | 0,_=>In.int hD 0
 | r+1,i=>by
  unfold vu
  rw [Rat.mul_comm]
  exact ((yJn hD hx i).mulI _).add (yIo hD hx r (i+1))
theorem yIp {D:Int} (hD:1≤D) {x:Rat} (hx:In D x):In D (vX cuts dens x):=yIo hD hx _ _
theorem yHb (h:VC len cuts dens):∀ (r i:Nat),i+r=dens.length→vu cuts dens (len:Rat) r i-vu cuts dens ((cuts.getD i 0:Int):Rat) r i=((rem cuts dens r i:Int):Rat)
 | 0,_,_=>by unfold vu rem;show (0:Rat)-0=0;grind
 | r+1,i,hi=>by
  have ih:=yHb h r (i+1) (by omega)
  have hst:((cuts.getD i 0:Int):Rat)≤((cuts.getD (i+1) 0:Int):Rat):=ysn h (Nat.le_succ i) (by omega)
  have hl:((cuts.getD (i+1) 0:Int):Rat)≤(len:Rat):=by rw [← h.last];exact ysn h (by omega) (qAj _)
  have low:=ytF h r (i+1) (x:=((cuts.getD i 0:Int):Rat)) (y:=((cuts.getD (i+1) 0:Int):Rat)) (by omega) hst qBz
  have m1:=ydp (len:Rat) (cuts.getD i 0:Int)
  have n1:=yek (maxR (len:Rat) (cuts.getD i 0:Int)) (cuts.getD (i+1) 0:Int)
  have m2:=ydp ((cuts.getD i 0:Int):Rat) (cuts.getD i 0:Int)
  have n2:=yek (maxR ((cuts.getD i 0:Int):Rat) (cuts.getD i 0:Int)) (cuts.getD (i+1) 0:Int)
  have e1:uC cuts i (len:Rat)=((cuts.getD (i+1) 0:Int):Rat):=by unfold uC;grind
  have e2:uC cuts i ((cuts.getD i 0:Int):Rat)=((cuts.getD i 0:Int):Rat):=by unfold uC;grind
  unfold vu rem
  rw [e1,e2,low,Rat.intCast_add,Rat.intCast_mul,Rat.intCast_sub,← ih]
  grind
theorem yA2 (h:VC len cuts dens):vX cuts dens (len:Rat)-vX cuts dens 0=((totC cuts dens:Int):Rat):=by
 have c0:cuts.getD 0 0=0:=h.2.2.2.2.2.1
 have:=yHb h dens.length 0 (by omega)
 rw [c0] at this
 unfold totC
 rw [yxm,show (0:Int)+rem cuts dens dens.length 0=rem cuts dens dens.length 0 by omega]
 exact this
theorem yA3 (h:VC len cuts dens):(1:Rat)≤(len:Rat)∧(len:Rat)≤1000:=by
 have:=h.len0
 exact ⟨qA0.2 this.1,qA0.2 this.2⟩
theorem yA4 (h:VC len cuts dens) {i:Nat} (hi:i<dens.length):(0:Rat)≤((dens.getD i 0:Int):Rat)∧((dens.getD i 0:Int):Rat)≤12:=by
 have:=h.den hi
 exact ⟨qA0.2 this.1,qA0.2 this.2⟩
theorem yEY {x d:Rat} (h0:0≤x) (hd:0≤d∧d≤12):0≤x*d∧x*d≤12*x:=by
 have a:=Rat.mul_nonneg h0 hd.1
 have b:=qBm hd.2 h0
 exact ⟨a,by grind⟩
theorem ytG (h:VC len cuts dens) {D:Int} (hD:1≤D∧D≤50000000000000) {b:Rat} (hb:In D b) (b1:b≤(len:Rat)) :
  ∀ (r i:Nat) (p sum:Rat),i+r=dens.length→In D p→In D sum→0≤p→p≤(len:Rat)→0≤sum→sum≤12*p→∃ v,valS cuts dens b r i p sum=.ok v
 | 0,i,p,sum,_,_,_,_,_,_,_=>⟨sum,rfl⟩
 | r+1,i,p,sum,hi,hp,hs,p0,p1,s0,s1=>by
  have l1:=h.l1
  have hl:=yA3 h
  have hd:=yA4 h (i:=i) (by omega)
  have hc1:((cuts.getD (i+1) 0:Int):Rat)≤(len:Rat):=by rw [← h.last];exact ysn h (by omega) (qAj _)
  unfold valS
  have hen:∃ en:Rat,(if b<((cuts.getD (i+1) 0:Int):Rat) then b else ((cuts.getD (i+1) 0:Int):Rat))=en∧In D en∧en≤(len:Rat):=by
   refine ⟨_,rfl,?_,?_⟩
   ·split
    ·exact hb
    ·exact In.int hD.1 _
   ·split <;> grind
  obtain ⟨en,e0,e1,e2⟩:=hen
  rw [e0]
  dsimp only
  split
  ·refine ytG h hD hb b1 r (i+1) _ sum (by omega) ?_ hs ?_ ?_ s0 ?_
   ·split
    ·exact e1
    ·exact hp
   ·split <;> grind
   ·split <;> grind
   ·split <;> grind
  ·rename_i hn
   have hlt:p<en:=by
    refine Classical.byContradiction fun k=>hn (.inr k)
   have m:=yEY (x:=en-p) (by grind) hd
   have i1:=e1.sub hp
   have i2:=i1.mulI (dens.getD i 0)
   have i3:=hs.add i2
   rw [yfv (i1.small (M:=1000) ⟨by omega,by omega⟩ (by omega) (by show -(1000:Rat)≤_;grind) (by show _≤(1000:Rat);grind)),
    yfv (i2.small (M:=12000) ⟨by omega,by omega⟩ (by omega) (by show -(12000:Rat)≤_;grind) (by show _≤(12000:Rat);grind)),
    yfv (i3.small (M:=12000) ⟨by omega,by omega⟩ (by omega) (by show -(12000:Rat)≤_;grind) (by show _≤(12000:Rat);grind))]
   exact ytG h hD hb b1 r (i+1) en _ (by omega) e1 i3 (by grind) e2 (by grind) (by grind)
theorem yFQ (h:VC len cuts dens) {D:Int} (hD:1≤D∧D≤50000000000000) {a b:Rat} (ha:In D a) (hb:In D b) (a0:0≤a) (hab:a≤b) (b1:b≤(len:Rat)):valC cuts dens a b=.ok (vX cuts dens b-vX cuts dens a):=by
 obtain ⟨v,e⟩:=ytG h hD hb b1 dens.length 0 a 0 (by omega) ha (In.int hD.1 0) a0 (by grind) (by grind) (by grind)
 have e:valC cuts dens a b=.ok v:=e
 rw [e,yvl h a0 hab e]
end
def rspL (A:List (List RS)):List PV:=A.map fun a=>.data (rsp a)
theorem yCJ (A:List (List RS)):(rspL A).length=A.length:=qAe ..
theorem yH3 {A:List (List RS)} {i:Nat} (h:i<A.length):List.getD (rspL A) i .nils=.data (rsp (A.getD i [])):=by
 unfold rspL
 rw [qAa,qAa,qBc,qAc h]
 rfl
section
variable {len:Int} {cuts dens:List Int}
theorem yHc (h:VC len cuts dens) {s:RS} (hv:s.1<s.2) (hw:0≤s.1∧s.2≤(len:Rat)):0≤dV (vX cuts dens) s∧dV (vX cuts dens) s≤12000:=by
 have a:=yhU h hw.1
 have b:=yhU h hw.2
 have c:=yhU h (qA2 hv)
 have t:=yA2 h
 have tb:=qA0.2 (yxg h).2
 have tb:((totC cuts dens:Int):Rat)≤12000:=tb
 show 0≤vX cuts dens s.2-vX cuts dens s.1∧vX cuts dens s.2-vX cuts dens s.1≤12000
 grind
end
def QR (cs:List Ck) (q:Qy):Prop :=
 (0≤q.agent∧q.agent<cs.length)∧(I64 q.an∧I64 q.ad∧I64 q.bn∧I64 q.bd) ∧
  ∃ p:Rat,(q.cn=p.num∧q.cd=p.den) ∧
   ((q.kind=2∧mrkR (cs.getD q.agent.toNat default).len (cs.getD q.agent.toNat default).cuts (cs.getD q.agent.toNat default).dens q.an q.ad q.bn q.bd=.ok p) ∨
    (q.kind=1∧valR (cs.getD q.agent.toNat default).len (cs.getD q.agent.toNat default).cuts (cs.getD q.agent.toNat default).dens q.an q.ad q.bn q.bd=.ok p))
section
variable {len:Int} {cuts dens:List Int}
theorem yso (h:VC len cuts dens):∀ (r i:Nat) (p v:Rat),i+r=dens.length→((cuts.getD i 0:Int):Rat)≤p→p≤(len:Rat)→0<v→v≤vu cuts dens (len:Rat) r i-vu cuts dens p r i →
  ∀ D,1≤D→D≤1000000000000→In D p→In D v→v≤12000→∃ q d,mrkS cuts dens r i p v=.ok q∧(1≤d∧d≤12)∧In (d*D) q
 | 0,i,p,v,hi,_,_,v0,v1=>by
  unfold vu at v1
  grind
 | r+1,i,p,v,hi,hp,p1,v0,v1=>by
  intro D D1 D2 hpD hvD hv
  have l1:=h.l1
  have hl:=yA3 h
  have hd:=yA4 h (i:=i) (by omega)
  have hd2:=h.den (i:=i) (by omega)
  have hc0:(0:Rat)≤((cuts.getD i 0:Int):Rat):=Rat.intCast_nonneg.2 (h.lo (by omega))
  have hst:((cuts.getD i 0:Int):Rat)<((cuts.getD (i+1) 0:Int):Rat):=qB7.2 (h.step (i:=i) (by omega))
  have hc1:((cuts.getD (i+1) 0:Int):Rat)≤(len:Rat):=by rw [← h.last];exact ysn h (by omega) (qAj _)
  have low:=ytF h r (i+1) (x:=p) (y:=((cuts.getD (i+1) 0:Int):Rat)) (by omega)
  have m1:=ydp p (cuts.getD i 0:Int)
  have m2:=ydp (len:Rat) (cuts.getD i 0:Int)
  have n1:=yek (maxR p (cuts.getD i 0:Int)) (cuts.getD (i+1) 0:Int)
  have n2:=yek (maxR (len:Rat) (cuts.getD i 0:Int)) (cuts.getD (i+1) 0:Int)
  have el:uC cuts i (len:Rat)=((cuts.getD (i+1) 0:Int):Rat):=by unfold uC;grind
  unfold vu at v1
  rw [el] at v1
  unfold mrkS
  by_cases c1:p<((cuts.getD (i+1) 0:Int):Rat)
  case neg =>
   rw [if_pos c1]
   have ep:uC cuts i p=((cuts.getD (i+1) 0:Int):Rat):=by unfold uC;grind
   rw [ep] at v1
   exact yso h r (i+1) p v (by omega) (Rat.not_lt.1 c1) p1 v0 (by grind) D D1 D2 hpD hvD hv
  rw [if_neg (fun k=>k c1)]
  have ep:uC cuts i p=p:=by unfold uC;grind
  rw [ep,low (qA2 c1) qBz] at v1
  by_cases cz:dens.getD i 0=0
  ·rw [if_pos cz]
   rw [cz] at v1
   have e0:((0:Int):Rat)=0:=rfl
   exact yso h r (i+1) ((cuts.getD (i+1) 0:Int):Rat) v (by omega) qBz hc1 v0 (by grind) D D1 D2 (In.int D1 _) hvD hv
  rw [if_neg cz]
  have hd1:0<dens.getD i 0:=by omega
  have dpos:(0:Rat)<((dens.getD i 0:Int):Rat):=Rat.intCast_pos.2 hd1
  have m:=yEY (x:=((cuts.getD (i+1) 0:Int):Rat)-p) (by grind) hd
  by_cases c3:(((cuts.getD (i+1) 0:Int):Rat)-p)*((dens.getD i 0:Int):Rat)<v
  ·have i1:=(In.int D1 (cuts.getD (i+1) 0)).sub hpD
   have i2:=i1.mulI (dens.getD i 0)
   have i3:=hvD.sub i2
   rw [yfv (i1.small (M:=1000) ⟨by omega,by omega⟩ (by omega) (by show -(1000:Rat)≤_;grind) (by show _≤(1000:Rat);grind)),
    yfv (i2.small (M:=12000) ⟨by omega,by omega⟩ (by omega) (by show -(12000:Rat)≤_;grind) (by show _≤(12000:Rat);grind)),if_pos c3,
    yfv (i3.small (M:=12000) ⟨by omega,by omega⟩ (by omega) (by show -(12000:Rat)≤_;grind) (by show _≤(12000:Rat);grind))]
   exact yso h r (i+1) ((cuts.getD (i+1) 0:Int):Rat) (v-(((cuts.getD (i+1) 0:Int):Rat)-p)*((dens.getD i 0:Int):Rat)) (by omega) qBz hc1 (by grind) (by grind) D D1 D2 (In.int D1 _) i3 (by grind)
  ·have i1:=(In.int D1 (cuts.getD (i+1) 0)).sub hpD
   have i2:=i1.mulI (dens.getD i 0)
   have i3:=hvD.div D1 (d:=dens.getD i 0) (by omega)
   have i4:=(hpD.up D1 (d:=dens.getD i 0) (by omega)).add i3
   have hDD:dens.getD i 0*D≤12*D:=qAo hd2.2 (by omega)
   have hDD1:1*1≤dens.getD i 0*D:=Int.mul_le_mul (by omega) D1 (by omega) (by omega)
   generalize hs:v / ((dens.getD i 0:Int):Rat)=s at *
   have es:s*((dens.getD i 0:Int):Rat)=v:=by rw [← hs];exact Rat.div_mul_cancel (by grind)
   have s0:0≤s:=by
    refine Rat.not_lt.1 fun k=>?_
    have:=Rat.mul_lt_mul_of_pos_right k dpos
    grind
   have s1:p+s≤((cuts.getD (i+1) 0:Int):Rat):=by
    refine Rat.not_lt.1 fun k=>?_
    have:(((cuts.getD (i+1) 0:Int):Rat)-p)<s:=by grind
    have:=Rat.mul_lt_mul_of_pos_right this dpos
    grind
   rw [yfv (i1.small (M:=1000) ⟨by omega,by omega⟩ (by omega) (by show -(1000:Rat)≤_;grind) (by show _≤(1000:Rat);grind)),
    yfv (i2.small (M:=12000) ⟨by omega,by omega⟩ (by omega) (by show -(12000:Rat)≤_;grind) (by show _≤(12000:Rat);grind)),if_neg c3,
    yfv (i3.small (M:=1000) ⟨by omega,by omega⟩ (by omega) (by show -(1000:Rat)≤_;grind) (by show _≤(1000:Rat);grind)),
    yfv (i4.small (M:=1000) ⟨by omega,by omega⟩ (by omega) (by show -(1000:Rat)≤_;grind) (by show _≤(1000:Rat);grind))]
   exact ⟨_,dens.getD i 0,rfl,⟨by omega,hd2.2⟩,i4⟩
theorem yHd (h:VC len cuts dens) {p v:Rat} (p0:0≤p) (p1:p≤(len:Rat)) (v0:0<v) (hv:v≤vX cuts dens (len:Rat)-vX cuts dens p) {D:Int} (D1:1≤D) (D2:D≤1000000000000) (hp:In D p) (hvD:In D v) :
  ∃ q d,mrkC cuts dens p v=.ok q∧(1≤d∧d≤12)∧In (d*D) q∧vX cuts dens q=vX cuts dens p+v∧p<q∧q≤(len:Rat)∧∀ x,x<q→vX cuts dens x<vX cuts dens q:=by
 have c0:cuts.getD 0 0=0:=h.2.2.2.2.2.1
 have t:=yA2 h
 have m0:=yhU h p0
 have tb:((totC cuts dens:Int):Rat)≤12000:=qA0.2 (yxg h).2
 obtain ⟨q,d,e,hd,hq⟩:=yso h dens.length 0 p v (by omega) (by rw [c0];exact p0) p1 v0 hv D D1 D2 hp hvD (by grind)
 have ec:mrkC cuts dens p v=.ok q:=by
  unfold mrkC
  rw [if_neg (by grind)]
  exact e
 obtain ⟨k1,k2,k3,_,k5⟩:=yEX h p0 p1 (qA2 v0) ec
 refine ⟨q,d,ec,hd,hq,k1,?_,k3,k5 (by grind)⟩
 by_cases hlt:p<q
 ·exact hlt
 ·have:p=q:=by grind
  rw [← this] at k1
  grind
end
section
variable {l:List Ck}
def vXA (l:List Ck) (a:Nat) (p:Rat):Rat:=vX (l.getD a default).cuts (l.getD a default).dens p
def lenR (l:List Ck):Rat:=((l.getD 0 default).len:Rat)
def valQ (an ad:Int) (a:Nat) (p v:Rat):Qy:=⟨a,1,an,ad,p.num,p.den,v.num,v.den⟩
def valE (l:List Ck) (an ad:Int) (m a:Nat) (p:Rat):Except Int Rat:=qryR l m a (Ck.value an ad p.num p.den)
theorem yFR (hd:DK l) {a:Nat} (_:a<l.length) {an ad:Int} (ha:I64 an) (ha':I64 ad) (lg:List Qy) {p:Rat} (hp:small p) (K:List PV→List PV→Int→Int→Int→Prop) :
  ybH (cks l) (logs lg) a an ad p.num p.den K =
   match valE l an ad lg.length a p with
   | .ok v=>K (cks l) (logs (lg++[valQ an ad a p v])) v.num v.den 0
   | .error e=>K [] [] 0 0 e:=by
 have n6:=hd.n6
 rw [yy2 hd.fin (by omega) (yoi lg) ha ha' hp.i1 hp.i2,ycS]
 have em:qryR l lg.length a (Ck.value an ad p.num p.den)=valE l an ad lg.length a p:=rfl
 rw [em]
 cases valE l an ad lg.length a p with
 | ok v =>
  show K (cks l) (logs lg++[_]) _ _ _=K (cks l) (logs (lg++[_])) _ _ _
  rw [ysm];rfl
 | error c=>rfl
theorem yFS (hd:DK l) {a:Nat} (h:a<l.length) {q p:Rat} (hs:small q) (hp:small p) (q0:0≤q) (qp:q≤p) (p1:p≤lenR l) {D:Int} (hD:1≤D∧D≤50000000000000) (hq:In D q) (hpD:In D p) {m:Nat} (hm:m<2000) :
  valE l q.num q.den m a p=.ok (vXA l a p-vXA l a q)∧QR l (valQ q.num q.den a p (vXA l a p-vXA l a q)):=by
 have hok:=hd.ok a h
 have hlen:=hd.len a h
 have p1':p≤((l.getD a default).len:Rat):=by rw [hlen];exact p1
 have e:valR (l.getD a default).len (l.getD a default).cuts (l.getD a default).dens q.num q.den p.num p.den=.ok (vXA l a p-vXA l a q):=by
  unfold valR
  rw [if_pos hok.ck,ydo,ydo,if_pos ⟨yuo hs q0 (qB5 qp p1'),yuo hp (qB5 q0 qp) p1',Rat.not_lt.2 qp⟩]
  exact yFQ hok hD hq hpD q0 qp p1'
 refine ⟨?_,⟨by show (0:Int)≤a;omega,by show (a:Int)<_;omega⟩,⟨hs.i1,hs.i2,hp.i1,hp.i2⟩,vXA l a p-vXA l a q,⟨rfl,rfl⟩,.inr ⟨rfl,?_⟩⟩
 ·unfold valE qryR
  rw [if_pos (hd.err (by omega)),if_pos ⟨by omega,by omega⟩,qAg]
  have:Ck.value q.num q.den p.num p.den (l.getD a default)=.ok (vXA l a p-vXA l a q):=e
  rw [this]
  show (if m≥2000 then _ else _)=_
  rw [if_neg (by omega)]
 ·exact e
theorem yHe (hd:DK l) {q p:Rat} {d D:Int} (q0:0≤q) (qp:q≤p) (p1:p≤lenR l) (hd12:1≤d∧d≤12) (D1:1≤D) (D2:D≤1000000000000) (h:In (d*D) p):small p:=by
 have hn:=hd.n0
 have l0:=(hd.ok 0 (by omega)).len0
 have hL:lenR l≤1000:=qA0.2 l0.2
 have hdD:d*D≤12*D:=qAo hd12.2 (by omega)
 have hdD1:1*1≤d*D:=Int.mul_le_mul hd12.1 D1 (by omega) (by omega)
 exact h.small (M:=1000) ⟨by omega,by omega⟩ (by omega) (by show -(1000:Rat)≤_;grind) (by show _≤(1000:Rat);grind)
end
set_option maxRecDepth 100000
section
variable {l:List Ck}
def mkV (l:List Ck) (a:Nat) (q v:Rat):Rat:=getR (mrkC (l.getD a default).cuts (l.getD a default).dens q v)
def mkQ (a:Nat) (q v p:Rat):Qy:=⟨a,2,q.num,q.den,v.num,v.den,p.num,p.den⟩
def vlQ (l:List Ck) (a:Nat) (q p:Rat):Qy:=valQ q.num q.den a p (vXA l a p-vXA l a q)
structure MkV (l:List Ck) (a:Nat) (q v:Rat) (D:Int):Prop where
 e:mrkC (l.getD a default).cuts (l.getD a default).dens q v=.ok (mkV l a q v)
 d:∃ d:Int,(1≤d∧d≤12)∧In (d*D) (mkV l a q v)
 eqv:vXA l a (mkV l a q v)=vXA l a q+v
 ge:q≤mkV l a q v
 le:mkV l a q v≤lenR l
theorem yI2 (hd:DK l) {a:Nat} (ha:a<l.length) {q v:Rat} (q0:0≤q) (q1:q≤lenR l) (v0:0≤v) (hv:v≤vXA l a (lenR l)-vXA l a q) {D:Int} (D1:1≤D) (D2:D≤1000000000000) (hq:In D q) (hvD:In D v):MkV l a q v D:=by
 have hok:=hd.ok a ha
 have hlen:=hd.len a ha
 by_cases hz:v=0
 ·have e:mrkC (l.getD a default).cuts (l.getD a default).dens q v=.ok q:=by unfold mrkC;rw [if_pos hz]
  have g:mkV l a q v=q:=by unfold mkV;rw [e];rfl
  refine ⟨by rw [g];exact e,⟨1,by omega,by rw [g,Int.one_mul];exact hq⟩,by rw [g,hz];grind,by rw [g];exact qBz,by rw [g];exact q1⟩
 have v0:0<v:=by grind
 unfold vXA lenR at *
 rw [← hlen] at q1 hv
 obtain ⟨p,d,e,hd12,hp,k1,k2,k3,k4⟩:=yHd hok q0 q1 v0 hv D1 D2 hq hvD
 obtain ⟨_,g2⟩:=yH1 e
 have g2:mkV l a q v=p:=g2
 refine ⟨?_,⟨d,hd12,?_⟩,?_,?_,?_⟩
 ·rw [g2];exact e
 ·rw [g2];exact hp
 ·rw [g2];exact k1
 ·rw [g2];exact qA2 k2
 ·rw [g2];unfold lenR;rw [← hlen];exact k3
theorem MkV.sm {a:Nat} {q v:Rat} {D:Int} (hd:DK l) (D1:1≤D) (D2:D≤1000000000000) (q0:0≤q) (h:MkV l a q v D):small (mkV l a q v):=by
 obtain ⟨d,hd12,hp⟩:=h.d
 exact yHe hd q0 h.ge h.le hd12 D1 D2 hp
theorem yFT (hd:DK l) {a:Nat} (ha:a<l.length) {q v:Rat} (hs:small q) (q0:0≤q) (q1:q≤lenR l) (hv:small v) (v0:0≤v) {D:Int} (h:MkV l a q v D) {lg:List Qy} (hm:lg.length<2000) (K:List PV→List PV→Int→Int→Int→Prop) :
  ybj (cks l) (logs lg) a q.num q.den v.num v.den K=K (cks l) (logs (lg++[mkQ a q v (mkV l a q v)])) (mkV l a q v).num (mkV l a q v).den 0:=by
 have n6:=hd.n6
 have hok:=hd.ok a ha
 have e1:mrkR (l.getD a default).len (l.getD a default).cuts (l.getD a default).dens q.num q.den v.num v.den=.ok (mkV l a q v):=by
  unfold mrkR
  rw [if_pos hok.ck,if_pos ⟨yuo hs q0 (by rw [hd.len a ha];exact q1),hv.rv,Rat.num_nonneg.2 v0⟩,ydo,ydo]
  exact h.e
 have e2:qryR l lg.length (a:Int) (Ck.mark q.num q.den v.num v.den)=.ok (mkV l a q v):=by
  unfold qryR
  rw [if_pos (hd.err (by omega)),if_pos ⟨by omega,by omega⟩,qAg]
  have:Ck.mark q.num q.den v.num v.den (l.getD a default)=.ok (mkV l a q v):=e1
  rw [this]
  show (if lg.length≥2000 then _ else _)=_
  rw [if_neg (by omega)]
 rw [yCH hd.fin (by omega) (yoi lg) hs.i1 hs.i2 hv.i1 hv.i2,ycS,e2]
 show K (cks l) (logs lg++[_]) _ _ _=K (cks l) (logs (lg++[_])) _ _ _
 rw [ysm];rfl
theorem yI3 (hd:DK l) {a:Nat} (ha:a<l.length) {q p:Rat} (hs:small q) (hp:small p) (q0:0≤q) (qp:q≤p) (p1:p≤lenR l) {D:Int} (hD:1≤D∧D≤50000000000000) (hq:In D q) (hpD:In D p) {lg:List Qy} (hm:lg.length<2000) (K:List PV→List PV→Int→Int→Int→Prop) :
  ybH (cks l) (logs lg) a q.num q.den p.num p.den K=K (cks l) (logs (lg++[vlQ l a q p])) (vXA l a p-vXA l a q).num (vXA l a p-vXA l a q).den 0:=by
 rw [yFR hd ha hs.i1 hs.i2 lg hp,(yFS hd ha hs hp q0 qp p1 hD hq hpD (m:=lg.length) hm).1]
 rfl
def totR (l:List Ck) (a:Nat):Rat:=((totC (l.getD a default).cuts (l.getD a default).dens:Int):Rat)
end
theorem exS3 {P R:Nat→Prop} (h0:P 0=False) (h:∀ n,P (n+1)=R n):(∃ n,P n)=∃ n,R n :=
 propext ⟨fun ⟨n,hn⟩=>match n,hn with | 0,hn=>(h0 ▸ hn).elim | n+1,hn=>⟨n,(h n) ▸ hn⟩,fun ⟨n,hn⟩=>⟨n+1,(h n).symm ▸ hn⟩⟩
theorem exC3 {Q:Prop}:(∃ _:Nat,Q)=Q:=propext ⟨fun ⟨_,h⟩=>h,fun h=>⟨0,h⟩⟩
section
variable {l:List Ck}
def vS (l:List Ck) (a:Nat) (s:RS):Rat:=vXA l a s.2-vXA l a s.1
end
section
variable {l:List Ck}
theorem tot3 (hd:DK l) {a:Nat} (ha:a<l.length):vXA l a (lenR l)-vXA l a 0=totR l a:=by
 have h:=yA2 (hd.ok a ha)
 unfold vXA lenR totR
 rw [← hd.len a ha]
 exact h
theorem yxs (hd:DK l) {a:Nat} (ha:a<l.length) {x y:Rat} (h:x≤y):vXA l a x≤vXA l a y:=yhU (hd.ok a ha) h
theorem lt3 (hd:DK l) {a:Nat} (ha:a<l.length) {x y:Rat} (h:vXA l a x<vXA l a y):x<y:=by
 refine Rat.not_le.1 fun k=>?_
 have:=yxs hd ha k
 grind
theorem tot0 (hd:DK l) {a:Nat} (ha:a<l.length):0<totR l a:=Rat.intCast_pos.2 (yG6 (hd.ok a ha))
theorem yIq (hd:DK l) {a:Nat} (ha:a<l.length):totR l a≤12000:=by
 have hok:=hd.ok a ha
 have l0:=hok.len0
 have hw:0≤(0:Rat)∧((l.getD a default).len:Rat)≤((l.getD a default).len:Rat):=⟨qBz,qBz⟩
 have h:=(yHc hok (s:=((0:Rat),((l.getD a default).len:Rat))) (by
  show (0:Rat)<_
  exact Rat.intCast_pos.2 (by omega)) hw).2
 have e:=yA2 hok
 unfold totR
 rw [← e]
 exact h
theorem sm3 {q:Rat} {D:Int} (h:In D q) (hD:1≤D∧D≤10000000000) (h0:-12000≤q) (h1:q≤12000):small q :=
 h.small (M:=12000) ⟨hD.1,by omega⟩ (by omega) (by show -(12000:Rat)≤_;grind) (by show _≤(12000:Rat);grind)
theorem yJo {a:Nat} {D:Int} (hD:1≤D) {s:RS} (h:In D s.1∧In D s.2):In D (vS l a s):=(yIp hD h.2).sub (yIp hD h.1)
theorem yHf (hd:DK l) {a:Nat} (ha:a<l.length) {s:RS} (z:0≤s.1) (le:s.1≤s.2) (hl:s.2≤lenR l):0≤vS l a s∧vS l a s≤totR l a:=by
 have h1:=yxs hd ha z
 have h2:=yxs hd ha le
 have h3:=yxs hd ha hl
 have h4:=tot3 hd ha
 unfold vS
 constructor <;> grind
end
set_option maxHeartbeats 1000000
section
variable {l:List Ck}
theorem yIr {q r:Rat}:((q.num == r.num)&&(((q.den:Int) ==(r.den:Int))&&true))=decide (q=r):=by
 by_cases h:q=r
 ·subst h;simp
 ·rw [decide_eq_false h,Bool.and_true]
  cases h1:(q.num == r.num) with
  | false=>rfl
  | true =>
   cases h2:((q.den:Int) ==(r.den:Int)) with
   | false=>rfl
   | true =>
    simp only [beq_iff_eq] at h1 h2
    exact absurd (Rat.ext h1 (by omega)) h
end
set_option maxHeartbeats 1000000
section
variable {l:List Ck}
theorem yIs (hd:DK l) {a:Nat} (h2:a<l.length) {lg:List PV} (hm:lg.length≤2000) (K:Int→Int→Prop):yfE (cks l) lg a K=K (totC (l.getD a default).cuts (l.getD a default).dens) 0:=by
 have hok:=hd.ok a h2
 have n6:=hd.n6
 have h1:=VC.l1 hok;have h3:=VC.l2 hok
 unfold yfE ylw
 rw [yfO hd.fin (by omega),hd.err hm,cnF rfl,yAY,decide_eq_true (by omega),qAw,yab]
 simp only [lt]
 rw [ybg,qAg,ydE h2,asT (by omega),asT (by omega),asCk,ck0,ck1,ck2,yFG (by omega) (by omega),if_pos (VC.ck hok)]
theorem yiN (n:Int) (K:Int→Int→Prop):yaJ n K=K n 1:=rfl
def hAsk (l:List Ck) (q p:Rat):Bool:=decide (q.num>0)||!decide (p=lenR l)
def hLog (l:List Ck) (a:Nat) (q p r:Rat):List Qy:=(bif hAsk l q p then [vlQ l a q p] else [])++[mkQ a q ((vXA l a p-vXA l a q)*r) (mkV l a q ((vXA l a p-vXA l a q)*r))]
def hAt (l:List Ck) (a:Nat) (q p r:Rat):Rat:=mkV l a q ((vXA l a p-vXA l a q)*r)
theorem yJp (hd:DK l) {a:Nat} (ha:a<l.length) {q p r:Rat} (hs:small q) (hp:small p) (hr:small r) (q0:0≤q) (qp:q≤p) (p1:p≤lenR l) (r0:0≤r) {D:Int} (hD:1≤D∧D≤50000000000000) (hq:In D q) (hpD:In D p) (hv:small (vXA l a p-vXA l a q)) (hw:small ((vXA l a p-vXA l a q)*r)) (v0:0≤vXA l a p-vXA l a q) {E:Int} (h:MkV l a q ((vXA l a p-vXA l a q)*r) E) {lg:List Qy} (hm:lg.length+1<2000) (K) :
  yam (cks l) (logs lg) a q.num q.den p.num p.den r.num r.den K=K (cks l) (logs (lg++hLog l a q p r)) (hAt l a q p r).num (hAt l a q p r).den 0:=by
 have mul:∀ K,yaI (vXA l a p-vXA l a q).num (vXA l a p-vXA l a q).den r.num r.den K=K ((vXA l a p-vXA l a q)*r).num ((vXA l a p-vXA l a q)*r).den 0:=fun K=>(yog hv hr K).trans (by rw [ycl,if_pos hw])
 have w0:0≤(vXA l a p-vXA l a q)*r:=Rat.mul_nonneg v0 r0
 have tot:∀ K,yfE (cks l) (logs lg) a K=K (totC (l.getD a default).cuts (l.getD a default).dens) 0:=fun K=>yIs hd ha (by rw [ycS];omega) K
 have n6:=hd.n6
 have h0:0<l.length:=by omega
 unfold yam yfc
 dsimp only [lt,Go.Pf.jn]
 rw [tot,yiN,show ((0:Int) == 0)=true from rfl,yag]
 have lnum:(lenR l).num=(l.getD 0 default).len:=qB9 _
 have lden:(((lenR l).den:Nat):Int)=1:=by unfold lenR;rw [qCa];rfl
 have e1:((p.num ==(l.getD 0 default).len)&&(((p.den:Int) == 1)&&true))=decide (p=lenR l):=by
  have:=yIr (q:=p) (r:=lenR l)
  rw [lnum,lden] at this
  exact this
 have mk:∀ (lg':List Qy) (K),lg'.length<2000→ybj (cks l) (logs lg') a q.num q.den ((vXA l a p-vXA l a q)*r).num ((vXA l a p-vXA l a q)*r).den K=_:=fun lg' K hm'=>yFT hd ha hs q0 (qB5 qp p1) hw w0 h hm' K
 have X:hAsk l q p=true→∀ K':List PV→List PV→Int→Int→Int→Prop,(ybH (cks l) (logs lg) a q.num q.den p.num p.den fun c g e0 e1 e2=>cbr (e2 == 0) (yaI e0 e1 r.num r.den fun y0 y1 y2=>cbr (y2 != 0) (K' c g 0 0 y2) (ybj c g a q.num q.den y0 y1 fun c g z0 z1 z2=>K' c g z0 z1 z2)) (cbr (e2 != 0) (K' c g 0 0 e2) (ybj c g a q.num q.den e0 e1 fun c g z0 z1 z2=>K' c g z0 z1 z2)))=K' (cks l) (logs (lg++hLog l a q p r)) (hAt l a q p r).num (hAt l a q p r).den 0:=fun hh K'=>by
  rw [yI3 hd ha hs hp q0 qp p1 hD hq hpD (by omega),show ((0:Int) == 0)=true from rfl,yag,mul,cnF rfl,mk _ _ (by rw [qAb,qAi];omega)]
  unfold hLog hAt
  rw [hh,cond_true,qAh]
 by_cases hq0:q.num>0
 ·rw [cbT hq0,yag]
  exact X (by unfold hAsk;rw [decide_eq_true hq0];rfl) K
 ·rw [cbF hq0,ybg,asT (by omega),ydE h0,asCk,ck0,yiN,e1]
  by_cases he:p=lenR l
  ·rw [decide_eq_true he,qAw,yab]
   have hz:q=0:=Rat.num_eq_zero.1 (by have:=Rat.num_nonneg.2 q0;omega)
   have ev:vXA l a p-vXA l a q=totR l a:=by rw [he,hz,tot3 hd ha]
   have en:(vXA l a p-vXA l a q).num=totC (l.getD a default).cuts (l.getD a default).dens:=by rw [ev];exact qB9 _
   have ed:(((vXA l a p-vXA l a q).den:Nat):Int)=1:=by rw [ev];unfold totR;rw [qCa];rfl
   rw [← en,← ed,mul,cnF rfl,mk _ _ (by omega)]
   unfold hLog hAt hAsk
   rw [decide_eq_false hq0,decide_eq_true he]
   rfl
  ·rw [decide_eq_false he,qA7,yag]
   exact X (by unfold hAsk;rw [decide_eq_false he,qA7,Bool.or_true]) K
end
set_option maxHeartbeats 1000000
def encH (h:Nat×Rat):PV:=.agg [.int .i64 h.1,.int .i64 h.2.num,.int .i64 h.2.den]
def ltH (x y:Nat×Rat):Bool:=decide (cmpQ x.2 y.2<0)
def insV {α:Type} (lt:α→α→Bool):List α→α→List α
 | [],x=>[x]
 | y::R,x=>bif lt x y then y::insV lt R x else x::y::R
theorem hCmp {x y:Nat×Rat} (hx:small x.2) (hy:small y.2) (K:Int→Prop):yax (x.1:Int) x.2.num x.2.den (y.1:Int) y.2.num y.2.den K=K (cmpQ x.2 y.2):=by
 unfold yax ygQ yaK yeC
 rw [ylX hx hy]
theorem getH (R:List (Nat×Rat)) (x:Nat×Rat) (B:List (Nat×Rat)) {k:Nat} (h:k=R.length):List.getD ((R.reverse++x::B).map encH) k .nils=encH x:=by
 subst h
 rw [qAa,qBc,List.getElem?_append_right (by rw [qAy];exact qAj _),qAy,Nat.sub_self]
 rfl
theorem yJq (R:List (Nat×Rat)) (y x:Nat×Rat) (B:List (Nat×Rat)) {k:Nat} (h:k=R.length+1):List.getD ((R.reverse++y::x::B).map encH) k .nils=encH x:=by
 have:=getH (y::R) x B (k:=k) (by rw [h];rfl)
 rw [qBi,qAh] at this
 exact this
theorem setH (R:List (Nat×Rat)) (y x:Nat×Rat) (B:List (Nat×Rat)):List.set (List.set ((R.reverse++y::x::B).map encH) (R.length+1) (encH y)) R.length (encH x)=(R.reverse++x::y::B).map encH:=by
 rw [← List.map_set,← List.map_set,List.set_append_right _ _ (by rw [qAy];omega),qAy,List.set_append_right _ _ (by rw [qAy];omega),qAy]
 simp
theorem in4s (R:List (Nat×Rat)) (y x:Nat×Rat) (B:List (Nat×Rat)) (hl:(R.reverse++y::x::B).length<4611686018427387904) (hx:small x.2) (hy:small y.2) (b c:Int) {a0 a1 a2 a3 a4 a5 a6 a8 x1} (n:Nat) :
  ya9 a0 a1 a2 a3 a4 a5 a6 yax a8 x1 (n+1) ((R.reverse++y::x::B).map encH) 0 b c ((R.length:Int)+1) =
  cbr (ltH x y) (ya9 a0 a1 a2 a3 a4 a5 a6 yax a8 x1 n ((R.reverse++x::y::B).map encH) 0 b c (R.length:Int)) (x1 ((R.reverse++y::x::B).map encH) 0 b c ((R.length:Int)+1) false):=by
 have h1:(R.reverse++y::x::B).length=R.length+(B.length+2):=by rw [qAb,qAy];rfl
 rw [h1] at hl
 have gx:List.getD ((R.reverse++y::x::B).map encH) (0+((R.length:Int)+1).toNat) .nils=encH x:=yJq _ _ _ _ (by omega)
 have gy:List.getD ((R.reverse++y::x::B).map encH) (0+(R.length:Int).toNat) .nils=encH y:=getH _ _ _ (by omega)
 have w:IntKind.i64.wrap ((R.length:Int)+1-1)=(R.length:Int):=by rw [wib (by omega) (by omega)];omega
 conv=>lhs;unfold ya9
 dsimp only [lt,Go.Pf.jn]
 rw [cbT (by omega),w,gx,gy]
 have hlen:((R.reverse++y::x::B).map encH).length=R.length+(B.length+2):=by rw [qAe,h1]
 iterate 4 refine (asTT (by first | rfl | exact decide_eq_true (by rw [hlen];omega) | exact decide_eq_true (by omega))).trans ?_
 refine (asTT rfl).trans ?_
 iterate 4 refine (asTT (by first | rfl | exact decide_eq_true (by rw [hlen];omega) | exact decide_eq_true (by omega))).trans ?_
 refine (asTT rfl).trans ?_
 refine (hCmp hx hy _).trans ?_
 refine congrArg (fun z=>cbr (ltH x y) z _) ?_
 have k1:0+((R.length:Int)+1).toNat=R.length+1:=by omega
 have k0:0+(R.length:Int).toNat=R.length:=by omega
 have gs:List.getD (List.set ((R.reverse++y::x::B).map encH) (R.length+1) (encH y)) R.length .nils=encH y:=by
  rw [qAa,qBg (by omega),← qAa]
  rw [← gy,k0]
 have hcf:conf (.agg [.i .i64,.i .i64,.i .i64]) (List.getD (List.set ((R.reverse++y::x::B).map encH) (R.length+1) (encH y)) R.length .nils)=true:=by rw [gs];rfl
 have hs:(List.set ((R.reverse++y::x::B).map encH) (R.length+1) (encH y)).length=R.length+(B.length+2):=by rw [qB1,hlen]
 have hss:(List.set (List.set ((R.reverse++y::x::B).map encH) (R.length+1) (encH y)) R.length (encH x)).length=R.length+(B.length+2):=by rw [qB1,hs]
 rw [k1,k0]
 iterate 4 refine (asTT (by first | rfl | exact decide_eq_true (by rw [hlen];omega) | exact decide_eq_true (by omega))).trans ?_
 refine (asTT rfl).trans ?_
 iterate 4 refine (asTT (by first | rfl | exact decide_eq_true (by rw [hlen];omega) | exact decide_eq_true (by omega))).trans ?_
 refine (asTT rfl).trans ?_
 iterate 4 refine (asTT (by first | rfl | exact decide_eq_true (by rw [hlen];omega) | exact decide_eq_true (by omega))).trans ?_
 refine (asTT rfl).trans ?_
 iterate 4 refine (asTT (by first | rfl | exact decide_eq_true (by rw [hlen];omega) | exact decide_eq_true (by omega) | exact decide_eq_true (hs.trans hlen.symm) | exact decide_eq_true (by show _<(List.set _ _ (encH y)).length;rw [hs];omega))).trans ?_
 refine (asTT hcf).trans ?_
 have ee:decide ((List.map encH (R.reverse++y::x::B)).length=(List.set (List.set ((R.reverse++y::x::B).map encH) (R.length+1) (encH y)) R.length (encH x)).length)=true:=decide_eq_true (hlen.trans hss.symm)
 refine (asTT (by rw [qAf];exact ⟨ee,ee⟩)).trans ?_
 have e:=setH R y x B
 show ya9 _ _ _ _ _ _ _ _ _ _ _ (List.set (List.set ((R.reverse++y::x::B).map encH) (R.length+1) (encH y)) R.length (encH x)) _ _ _ _=_
 rw [e]
theorem in4z (x:Nat×Rat) (B:List (Nat×Rat)) (b c:Int) {a0 a1 a2 a3 a4 a5 a6 a7 a8 x1} (n:Nat) :
  ya9 a0 a1 a2 a3 a4 a5 a6 a7 a8 x1 (n+1) ((x::B).map encH) 0 b c 0=x1 ((x::B).map encH) 0 b c 0 false:=by
 conv=>lhs;unfold ya9
 dsimp only [lt,Go.Pf.jn]
 rw [cbF (by omega),yab]
theorem in4 {a0 a1 a2 a3 a4 a5 a6 a8 x1} (b c:Int) {Y:List PV→Prop} (hX:∀ v j,x1 v 0 b c j false=Y v):∀ (R:List (Nat×Rat)) (x:Nat×Rat) (B:List (Nat×Rat)),(R.reverse++x::B).length<4611686018427387904→small x.2→(∀ y∈R,small y.2) →
  (∃ n,ya9 a0 a1 a2 a3 a4 a5 a6 yax a8 x1 n ((R.reverse++x::B).map encH) 0 b c (R.length:Int))=Y (((insV ltH R x).reverse++B).map encH)
 | [],x,B,hl,hx,hR=>by
  rw [exS3 rfl (R:=fun _=>x1 ((x::B).map encH) 0 b c 0 false) (fun n=>in4z x B b c n),exC3,hX]
  rfl
 | y::R,x,B,hl,hx,hR=>by
  have e1:(y::R).reverse++x::B=R.reverse++y::x::B:=by rw [qBi,qAh];rfl
  have e2:(((y::R).length:Nat):Int)=(R.length:Int)+1:=by simp
  rw [e1] at hl ⊢
  rw [e2]
  have ih:=in4 (a0:=a0) (a1:=a1) (a2:=a2) (a3:=a3) (a4:=a4) (a5:=a5) (a6:=a6) (a8:=a8) b c hX R x (y::B) (by rw [qAb] at hl ⊢;exact hl) hx (fun z hz=>hR z (qAk _ hz))
  cases ht:ltH x y with
  | true =>
   rw [exS3 rfl (R:=fun n=>ya9 a0 a1 a2 a3 a4 a5 a6 yax a8 x1 n ((R.reverse++x::y::B).map encH) 0 b c (R.length:Int)) (fun n=>by rw [in4s R y x B hl hx (hR y (qAt ..)) b c n,ht,yag]),ih]
   rw [show insV ltH (y::R) x=y::insV ltH R x by (show (bif ltH x y then _ else _)=_;rw [ht];rfl),qBi,qAh]
   rfl
  | false =>
   rw [exS3 rfl (R:=fun _=>x1 ((R.reverse++y::x::B).map encH) 0 b c ((R.length:Int)+1) false) (fun n=>by rw [in4s R y x B hl hx (hR y (qAt ..)) b c n,ht,yab]),exC3,hX]
   rw [show insV ltH (y::R) x=x::y::R by (show (bif ltH x y then _ else _)=_;rw [ht];rfl),qBi,qBi,qAh,qAh]
   rfl
theorem yhf {α:Type} (lt:α→α→Bool) (x:α):∀ R,(insV lt R x).length=R.length+1
 | []=>rfl
 | y::R=>by
  unfold insV
  cases lt x y with
  | true=>rw [cond_true,qAl,yhf lt x R];rfl
  | false=>rfl
theorem ysp {α:Type} (lt:α→α→Bool) (x:α) {z:α}:∀ {R},z∈insV lt R x↔z=x∨z∈R
 | []=>by simp [insV]
 | y::R=>by
  unfold insV
  cases lt x y with
  | true=>rw [cond_true,qAv,ysp lt x,qAv];exact ⟨fun h=>by rcases h with h | h | h <;> simp [h],fun h=>by rcases h with h | h | h <;> simp [h]⟩
  | false=>rw [cond_false,qAv,qAv]
def allV {α:Type} (lt:α→α→Bool):List α→List α→List α
 | R,[]=>R
 | R,x::B=>allV lt (insV lt R x) B
theorem out3 {a0 a1 a2 a3 a4 a5 a6 a8 x1} {Y:List PV→Prop} {N:Nat} (hN:N<4611686018427387904) (hX:∀ v j,x1 v 0 (N:Int) j false=Y v):∀ (B R:List (Nat×Rat)),R.length+B.length=N→(∀ y∈R,small y.2)→(∀ y∈B,small y.2) →
  (∃ n,ya0 a0 a1 a2 a3 a4 a5 a6 yax a8 x1 n ((R.reverse++B).map encH) 0 (N:Int) (R.length:Int))=Y ((allV ltH R B).reverse.map encH)
 | [],R,hl,hR,hB=>by
  have e:∀ n,ya0 a0 a1 a2 a3 a4 a5 a6 yax a8 x1 (n+1) ((R.reverse++[]).map encH) 0 (N:Int) (R.length:Int)=Y ((allV ltH R []).reverse.map encH):=fun n=>by
   conv=>lhs;unfold ya0
   rw [cbF (by simp only [qBo] at hl;omega),hX,qBt]
   rfl
  rw [exS3 rfl (R:=fun _=>_) e,exC3]
 | x::B,R,hl,hR,hB=>by
  have hl':R.length+(B.length+1)=N:=hl
  have hx:=hB x (qAt ..)
  have hB':∀ y∈B,small y.2:=fun y hy=>hB y (qAk _ hy)
  have hR':∀ y∈insV ltH R x,small y.2:=fun y hy=>by
   rcases (ysp ltH x).1 hy with rfl | h
   ·exact hx
   ·exact hR y h
  have ih:=out3 (a0:=a0) (a1:=a1) (a2:=a2) (a3:=a3) (a4:=a4) (a5:=a5) (a6:=a6) (a8:=a8) hN hX B (insV ltH R x) (by rw [yhf];omega) hR' hB'
  rw [yhf] at ih
  have w:IntKind.i64.wrap ((R.length:Int)+1)=(((R.length+1:Nat)):Int):=by rw [wib (by omega) (by omega)];omega
  have e:∀ n,ya0 a0 a1 a2 a3 a4 a5 a6 yax a8 x1 (n+1) ((R.reverse++x::B).map encH) 0 (N:Int) (R.length:Int)=ya0 a0 a1 a2 a3 a4 a5 a6 yax a8 x1 n (((insV ltH R x).reverse++B).map encH) 0 (N:Int) ((R.length+1:Nat):Int):=fun n=>by
   conv=>lhs;unfold ya0
   dsimp only [lt]
   rw [cbT (by omega)]
   refine (asTT (by simp)).trans ?_
   refine (in4 (N:Int) (R.length:Int) (Y:=fun v=>ya0 a0 a1 a2 a3 a4 a5 a6 yax a8 x1 n v 0 (N:Int) ((R.length+1:Nat):Int)) (fun v j=>by rw [w];exact asTT (by simp)) R x B (by rw [qAb,qAy,qAl];omega) hx hR)
  rw [exS3 rfl (R:=fun n=>ya0 a0 a1 a2 a3 a4 a5 a6 yax a8 x1 n (((insV ltH R x).reverse++B).map encH) 0 (N:Int) ((R.length+1:Nat):Int)) e,ih]
  rfl
set_option maxHeartbeats 1000000
def ltV (x y:Nat):Bool:=decide ((x:Int)<(y:Int))
def encV (x:Nat):PV:=.int .i64 (x:Int)
theorem yIt (x y:Nat) (K:Bool→Prop):yao (x:Int) (y:Int) K=K (ltV x y):=by
 unfold yao yhn
 simp only [yhm,ygH,bne_self_eq_false,yab,Go.Pf.jn]
 rfl
theorem getV (R:List Nat) (x:Nat) (B:List Nat) {k:Nat} (h:k=R.length):List.getD ((R.reverse++x::B).map encV) k .nils=encV x:=by
 subst h
 rw [qAa,qBc,List.getElem?_append_right (by rw [qAy];exact qAj _),qAy,Nat.sub_self]
 rfl
theorem yIu (R:List Nat) (y x:Nat) (B:List Nat) {k:Nat} (h:k=R.length+1):List.getD ((R.reverse++y::x::B).map encV) k .nils=encV x:=by
 have:=getV (y::R) x B (k:=k) (by rw [h];rfl)
 rw [qBi,qAh] at this
 exact this
theorem setV (R:List Nat) (y x:Nat) (B:List Nat):List.set (List.set ((R.reverse++y::x::B).map encV) (R.length+1) (encV y)) R.length (encV x)=(R.reverse++x::y::B).map encV:=by
 rw [← List.map_set,← List.map_set,List.set_append_right _ _ (by rw [qAy];omega),qAy,List.set_append_right _ _ (by rw [qAy];omega),qAy]
 simp
theorem yIv (l0 l2:List PV) (R:List Nat) (y x:Nat) (B:List Nat) {N:Nat} (hN:R.length+(B.length+2)=N) (hl:N<4611686018427387904) (b c:Int) {a0 a1 a2 a3 a4 a5 a6 a7 x1} (n:Nat) :
  yba a0 a1 a2 a3 a4 a5 a6 a7 yao x1 (n+1) l0 ((R.reverse++y::x::B).map encV) l2 N N 0 b c ((R.length:Int)+1) =
  cbr (ltV x y) (yba a0 a1 a2 a3 a4 a5 a6 a7 yao x1 n l0 ((R.reverse++x::y::B).map encV) l2 N N 0 b c (R.length:Int)) (x1 l0 ((R.reverse++y::x::B).map encV) l2 N N 0 b c ((R.length:Int)+1) false):=by
 have gx:List.getD ((R.reverse++y::x::B).map encV) (0+((R.length:Int)+1).toNat) .nils=encV x:=yIu _ _ _ _ (by omega)
 have gy:List.getD ((R.reverse++y::x::B).map encV) (0+(R.length:Int).toNat) .nils=encV y:=getV _ _ _ (by omega)
 have w:IntKind.i64.wrap ((R.length:Int)+1-1)=(R.length:Int):=by rw [wib (by omega) (by omega)];omega
 conv=>lhs;unfold yba
 dsimp only [lt,Go.Pf.jn]
 rw [cbT (by omega),w,gx,gy]
 have hlen:((R.reverse++y::x::B).map encV).length=N:=by rw [qAe,qAb,qAy,← hN];rfl
 have k1:0+((R.length:Int)+1).toNat=R.length+1:=by omega
 have k0:0+(R.length:Int).toNat=R.length:=by omega
 have gs:List.getD (List.set ((R.reverse++y::x::B).map encV) (R.length+1) (encV y)) R.length .nils=encV y:=by
  rw [qAa,qBg (by omega),← qAa]
  rw [← gy,k0]
 have hcf:conf zI (List.getD (List.set ((R.reverse++y::x::B).map encV) (R.length+1) (encV y)) R.length .nils)=true:=by rw [gs];rfl
 have hs:(List.set ((R.reverse++y::x::B).map encV) (R.length+1) (encV y)).length=N:=by rw [qB1,hlen]
 iterate 4 refine (asTT (by first | rfl | exact decide_eq_true (by rw [hlen];omega) | exact decide_eq_true (by omega) | exact decide_eq_true hlen | exact decide_eq_true hs | exact decide_eq_true (by show _<(List.set _ _ (encV y)).length;rw [hs];omega))).trans ?_
 refine (asTT rfl).trans ?_
 iterate 4 refine (asTT (by first | rfl | exact decide_eq_true (by rw [hlen];omega) | exact decide_eq_true (by omega) | exact decide_eq_true hlen | exact decide_eq_true hs | exact decide_eq_true (by show _<(List.set _ _ (encV y)).length;rw [hs];omega))).trans ?_
 refine (asTT rfl).trans ?_
 refine (yIt x y _).trans ?_
 refine congrArg (fun z=>cbr (ltV x y) z _) ?_
 rw [k1,k0]
 iterate 4 refine (asTT (by first | rfl | exact decide_eq_true (by rw [hlen];omega) | exact decide_eq_true (by omega) | exact decide_eq_true hlen | exact decide_eq_true hs | exact decide_eq_true (by show _<(List.set _ _ (encV y)).length;rw [hs];omega))).trans ?_
 refine (asTT rfl).trans ?_
 iterate 4 refine (asTT (by first | rfl | exact decide_eq_true (by rw [hlen];omega) | exact decide_eq_true (by omega) | exact decide_eq_true hlen | exact decide_eq_true hs | exact decide_eq_true (by show _<(List.set _ _ (encV y)).length;rw [hs];omega))).trans ?_
 refine (asTT rfl).trans ?_
 iterate 4 refine (asTT (by first | rfl | exact decide_eq_true (by rw [hlen];omega) | exact decide_eq_true (by omega) | exact decide_eq_true hlen | exact decide_eq_true hs | exact decide_eq_true (by show _<(List.set _ _ (encV y)).length;rw [hs];omega))).trans ?_
 refine (asTT rfl).trans ?_
 iterate 4 refine (asTT (by first | rfl | exact decide_eq_true (by rw [hlen];omega) | exact decide_eq_true (by omega) | exact decide_eq_true hlen | exact decide_eq_true hs | exact decide_eq_true (by show _<(List.set _ _ (encV y)).length;rw [hs];omega))).trans ?_
 refine (asTT hcf).trans ?_
 have e:=setV R y x B
 show yba _ _ _ _ _ _ _ _ _ _ _ l0 (List.set (List.set ((R.reverse++y::x::B).map encV) (R.length+1) (encV y)) R.length (encV x)) l2 _ _ _ _ _ _=_
 rw [e]
theorem yJr (l0 l2:List PV) (x:Nat) (B:List Nat) (N:Nat) (b c:Int) {a0 a1 a2 a3 a4 a5 a6 a7 a8 x1} (n:Nat) :
  yba a0 a1 a2 a3 a4 a5 a6 a7 a8 x1 (n+1) l0 ((x::B).map encV) l2 N N 0 b c 0=x1 l0 ((x::B).map encV) l2 N N 0 b c 0 false:=by
 conv=>lhs;unfold yba
 dsimp only [lt,Go.Pf.jn]
 rw [cbF (by omega),yab]
end Go.Pf.Vc
