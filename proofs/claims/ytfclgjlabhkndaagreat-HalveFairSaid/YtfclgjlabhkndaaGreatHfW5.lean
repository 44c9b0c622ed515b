/- Part 5. -/
import Derived.Test.YtfclgjlabhkndaaGreatHfW4
noncomputable section
namespace Go.Pf.Vc
open Go Go.Pf
theorem yqU {l:List Rat} {i:Nat} (h:i<l.length):List.getD (rts l) i .nils=encW (l.getD i 0):=by
 unfold rts
 rw [qAa,qAa,qAz,qAb h]
 rfl
theorem yyw (q:Rat):yaa (yab (encW q) 0)=q.num:=rfl
theorem yyx (q:Rat):yaa (yab (encW q) 1)=q.den:=rfl
theorem asW (q:Rat) (P:Prop):asr (conf z2 (encW q)) P=P:=rfl
theorem yMz (q:Rat):([.agg [.int .i64 q.num,.int .i64 q.den]]:List PV)=rts [q]:=rfl
theorem yMA (a b:List Rat):rts a++rts b=rts (a++b):=by unfold rts;rw [qBl]
theorem yN8 (a b:Rat):((a.num == b.num)&&(((a.den:Int) ==(b.den:Int))&&true))=decide (a=b):=by
 rw [Bool.and_true,Bool.eq_iff_iff]
 simp only [qAe,beq_iff_eq,decide_eq_true_eq]
 constructor
 ·rintro ⟨h1,h2⟩;exact Rat.ext h1 (by omega)
 ·rintro rfl;exact ⟨rfl,rfl⟩
theorem yGI (l:List RS):yd9 4 (rsp l)=true:=by cases l <;> rfl
theorem ynF {l:List RS} (h:yIZ l):∀ s∈l,s.1<s.2:=by
 induction l with
 | nil=>intro s hs;cases hs
 | cons t r ih =>
  intro s hs
  rcases qAt.1 hs with rfl | hs
  ·exact h.1
  ·exact ih h.2.2 s hs
theorem yNF {a b c d:Int} (h:RV a b) (k:RV c d):cmpI a b c d=cmpQ (rt a b) (rt c d):=by
 obtain ⟨_,h2,h3⟩:=ynE h
 obtain ⟨_,k2,k3⟩:=ynE k
 unfold cmpI cmpQ
 simp only [Rat.lt_iff,h2,h3,k2,k3]
theorem yLv:∀ {cs:List PV},okL [.i64,.i64,.i64,.i64] cs=true→∃ a b c d,cs=[.int .i64 a,.int .i64 b,.int .i64 c,.int .i64 d]
 | [],h=>by cases h
 | [x],h=>by cases x <;> simp [okL] at h
 | [x,y],h=>by cases x <;> cases y <;> simp [okL] at h
 | [x,y,z],h=>by cases x <;> cases y <;> cases z <;> simp [okL] at h
 | x::y::z::u::w,h=>by
  cases x <;> first | (simp [okL] at h;done) | skip
  cases y <;> first | (simp [okL] at h;done) | skip
  cases z <;> first | (simp [okL] at h;done) | skip
  cases u <;> first | (simp [okL] at h;done) | skip
  simp only [okL,qAe,decide_eq_true_eq] at h
  obtain ⟨rfl,_,_,rfl,_,_,rfl,_,_,rfl,_,_,h⟩:=h
  cases w with
  | nil=>exact ⟨_,_,_,_,rfl⟩
  | cons p q=>simp [okL] at h
theorem yMZ {n g:Nat} {x:PV} (h:(ylx n g).s.gd x=true):∃ a b c d,x=.agg [.int .i64 a,.int .i64 b,.int .i64 c,.int .i64 d]∧RV a b:=by
 simp only [Srt.gd,qAe] at h
 have h1:okI [.i64,.i64,.i64,.i64] x=true:=h.1
 have h2:ysF x=true:=h.2
 clear h
 cases x <;> first | (simp [okI] at h1;done) | skip
 obtain ⟨a,b,c,d,rfl⟩:=yLv (h1:okL _ _=true)
 exact ⟨a,b,c,d,rfl,yzD.1 h2⟩
structure Pc (l:List RS):Prop where
 c:yIZ l
 s:∀ s∈l,yfz s
 n:l.length≤60
theorem yLw {l:List RS} (h:∀ s∈l,yfz s):rsL (l.map spOf)=l:=by
 induction l with
 | nil=>rfl
 | cons s r ih =>
  show (spOf s).rs::rsL (r.map spOf)=_
  rw [yI1 (h s qAo),ih fun t ht=>h t (qAi _ ht)]
theorem Pc.ok {l:List RS} (h:Pc l):∀ s∈l.map spOf,s.ok:=fun s hs=>by
 obtain ⟨t,ht,rfl⟩:=qBx.1 hs
 exact yzE (h.s t ht) (ynF h.c t ht)
theorem Pc.i64 {l:List RS} (h:Pc l):∀ s∈l.map spOf,s.i64:=fun s hs=>by
 obtain ⟨t,ht,rfl⟩:=qBx.1 hs
 have:=h.s t ht
 exact ⟨this.1.i1,this.1.i2,this.2.i1,this.2.i2⟩
theorem Pc.e {l:List RS} (h:Pc l):yFl (l.map spOf)=0:=by
 have hl:=h.n
 have ho:=h.ok
 have hc:=h.c
 rw [← yLw h.s] at hc
 have h1:yBS (l.map spOf)=true:=List.all_eq_true.2 fun s hs=>decide_eq_true (ho s hs)
 have h2:allE (l.map spOf)=0:=by
  unfold allE
  rw [if_neg (by rw [qAf];omega),h1,if_pos rfl]
 unfold yFl
 rw [h2]
 cases l with
 | nil=>rfl
 | cons s r =>
  have hg:gapB (spOf s) (r.map spOf)=true:=(yDK _ _ (ho _ (by simp)) (fun t ht=>ho t (qAi _ ht))).2 hc
  show (if (0:Int)=0 then (if gapB (spOf s) (r.map spOf) then 0 else 8) else _)=_
  rw [if_pos rfl,hg,if_pos rfl]
theorem Pc.check {l:List RS} (h:Pc l) (K:Int→Prop):ya6 (rsp l) K=K 0:=by
 unfold rsp
 rw [yJ6 h.i64 (by rw [qAf];have:=h.n;omega),h.e]
def sumV (v:RS→Rat):List RS→Rat
 | []=>0
 | s::r=>v s+sumV v r
theorem yBT:small 0:=by decide +kernel
theorem nz (P Q:Prop):cbr ((0:Int) != 0) P Q=Q:=rfl
section
variable (V:Rat→Rat)
def dV (s:RS):Rat:=V s.2-V s.1
end
section
variable {len:Int} {cuts dens:List Int}
def uC (cuts:List Int) (i:Nat) (x:Rat):Rat:=minR (maxR x (cuts.getD i 0:Int)) (cuts.getD (i+1) 0:Int)
def vu (cuts dens:List Int) (x:Rat):Nat→Nat→Rat
 | 0,_=>0
 | r+1,i=>(dens.getD i 0:Int)*uC cuts i x+vu cuts dens x r (i+1)
theorem yBU (h:VC len cuts dens):∀ (r i:Nat) {x y:Rat},i+r=dens.length→x≤(cuts.getD i 0:Int)→y≤(cuts.getD i 0:Int)→vu cuts dens x r i=vu cuts dens y r i
 | 0,_,_,_,_,_,_=>rfl
 | r+1,i,x,y,hi,hx,hy=>by
  have l1:=h.l1
  have hst:((cuts.getD i 0:Int):Rat)<((cuts.getD (i+1) 0:Int):Rat):=Rat.intCast_lt_intCast.2 (h.step (i:=i) (by omega))
  have ih:=yBU h r (i+1) (x:=x) (y:=y) (by omega) (by grind) (by grind)
  unfold vu
  rw [ih]
  have e:uC cuts i x=uC cuts i y:=by
   unfold uC
   have a1:=yf1 x (cuts.getD i 0:Int)
   have a2:=yf1 y (cuts.getD i 0:Int)
   have e1:maxR x (cuts.getD i 0:Int)=(cuts.getD i 0:Int):=by grind
   have e2:maxR y (cuts.getD i 0:Int)=(cuts.getD i 0:Int):=by grind
   rw [e1,e2]
  rw [e]
theorem ymd {α:Type} {q:Rat} {k:Rat→Except Int α} {v:α} (h:fit q k=.ok v):k q=.ok v:=by
 unfold fit at h
 split at h
 ·exact h
 ·cases h
theorem yzF (h:VC len cuts dens) {b:Rat}:∀ (r i:Nat) (p sum v:Rat),i+r=dens.length→p≤b→(p=b∨((cuts.getD i 0:Int):Rat)≤p)→valS cuts dens b r i p sum=.ok v→v=sum+(vu cuts dens b r i-vu cuts dens p r i)
 | 0,i,p,sum,v,hi,hp,hc,hv=>by
  unfold valS at hv
  cases hv
  unfold vu
  grind
 | r+1,i,p,sum,v,hi,hp,hc,hv=>by
  have l1:=h.l1
  have hst:((cuts.getD i 0:Int):Rat)<((cuts.getD (i+1) 0:Int):Rat):=Rat.intCast_lt_intCast.2 (h.step (i:=i) (by omega))
  unfold valS at hv
  dsimp only at hv
  have hen:∃ en:Rat,(if b<((cuts.getD (i+1) 0:Int):Rat) then b else ((cuts.getD (i+1) 0:Int):Rat))=en∧en≤b∧en≤((cuts.getD (i+1) 0:Int):Rat)∧(en=b∨en=((cuts.getD (i+1) 0:Int):Rat)):=by
   refine ⟨_,rfl,?_⟩
   split <;> grind
  obtain ⟨en,e0,he1,he2,he3⟩:=hen
  rw [e0] at hv
  have low:=yBU h r (i+1) (x:=en) (y:=p) (by omega)
  have m1:=yf1 b (cuts.getD i 0:Int)
  have m2:=yf1 p (cuts.getD i 0:Int)
  have n1:=yg8 (maxR b (cuts.getD i 0:Int)) (cuts.getD (i+1) 0:Int)
  have n2:=yg8 (maxR p (cuts.getD i 0:Int)) (cuts.getD (i+1) 0:Int)
  unfold vu uC
  generalize ((cuts.getD i 0:Int):Rat)=c0 at *
  generalize hc1:((cuts.getD (i+1) 0:Int):Rat)=c1 at *
  by_cases hlt:p<en
  ·have hb:minR (maxR b c0) c1=en:=by grind
   have hq:minR (maxR p c0) c1=p:=by grind
   by_cases hd:dens.getD i 0=0
   ·rw [if_pos (.inl hd),if_pos hlt] at hv
    have ih:=yzF h r (i+1) en sum v (by omega) he1 (by rw [hc1];grind) hv
    rw [ih,hd,low (by grind) (by grind)]
    grind
   ·rw [if_neg (by intro k;rcases k with k | k;exact hd k;exact k hlt)] at hv
    have hv:=ymd (ymd (ymd hv))
    have ih:=yzF h r (i+1) en _ v (by omega) he1 (by rw [hc1];grind) hv
    rw [ih,low (by grind) (by grind),hb,hq]
    grind
  ·rw [if_pos (.inr hlt),if_neg hlt] at hv
   have ih:=yzF h r (i+1) p sum v (by omega) hp (by rw [hc1];grind) hv
   have:minR (maxR b c0) c1=minR (maxR p c0) c1:=by grind
   rw [ih,this]
   grind
def vX (cuts dens:List Int) (x:Rat):Rat:=vu cuts dens x dens.length 0
theorem yMB (h:VC len cuts dens) {a b v:Rat} (h0:0≤a) (hab:a≤b) (hv:valC cuts dens a b=.ok v):v=vX cuts dens b-vX cuts dens a:=by
 have c0:cuts.getD 0 0=0:=h.2.2.2.2.2.1
 have:=yzF h dens.length 0 a 0 v (by omega) hab (.inr (by rw [c0];exact h0)) hv
 unfold vX
 rw [this];grind
def Wi (len:Int) (l:List RS):Prop:=∀ s∈l,0≤s.1∧s.2≤(len:Rat)
theorem yI2 (q r:Rat):decide (cmpQ q r>0)=decide (r<q):=by
 rw [← Bool.not_eq_not,← yMv,Bool.eq_iff_iff]
 simp only [decide_eq_true_eq]
 omega
end
def yLx (len:Int) (l:List RS):Bool:=l.all fun s=>decide (PT len s.1.num s.1.den)&&decide (PT len s.2.num s.2.den)
theorem yLy {len:Int} {l:List RS} (h:yLx len l=true):Wi len l:=fun s hs=>by
 have:=List.all_eq_true.1 h s hs
 simp only [qAe,decide_eq_true_eq] at this
 obtain ⟨h1,h2⟩:=this
 have p1:=h1.pt
 have p2:=h2.pt
 rw [yeN] at p1 p2
 exact ⟨p1.2.2.2.1,p2.2.2.2.2⟩
section
variable {len:Int} {cuts dens:List Int}
theorem yI3 (h:VC len cuts dens) {i:Nat} (hi:i+1<cuts.length) {x y:Rat} (hxy:x≤y):uC cuts i x≤uC cuts i y:=by
 have hst:((cuts.getD i 0:Int):Rat)<((cuts.getD (i+1) 0:Int):Rat):=Rat.intCast_lt_intCast.2 (h.step (i:=i) hi)
 have m1:=yf1 x (cuts.getD i 0:Int)
 have m2:=yf1 y (cuts.getD i 0:Int)
 have n1:=yg8 (maxR x (cuts.getD i 0:Int)) (cuts.getD (i+1) 0:Int)
 have n2:=yg8 (maxR y (cuts.getD i 0:Int)) (cuts.getD (i+1) 0:Int)
 unfold uC
 grind
theorem yLz (h:VC len cuts dens) {i:Nat} (hi:i<dens.length):(0:Rat)≤((dens.getD i 0:Int):Rat):=Rat.intCast_nonneg.2 (h.den hi).1
theorem yFm (h:VC len cuts dens) {x y:Rat} (hxy:x≤y):∀ (r i:Nat),i+r=dens.length→vu cuts dens x r i≤vu cuts dens y r i
 | 0,_,_=>qA6
 | r+1,i,hi=>by
  have l1:=h.l1
  have h1:=yI3 h (i:=i) (by omega) hxy
  have h2:=yFm h hxy r (i+1) (by omega)
  have h3:=qBt h1 (yLz h (i:=i) (by omega))
  unfold vu
  grind
theorem ywh (h:VC len cuts dens) {x y:Rat} (hxy:x≤y):vX cuts dens x≤vX cuts dens y:=yFm h hxy dens.length 0 (by omega)
theorem yzG (h:VC len cuts dens):∀ (r i:Nat) (p v q:Rat),i+r=dens.length→0<v→((cuts.getD i 0:Int):Rat)≤p→mrkS cuts dens r i p v=.ok q →
  vu cuts dens q r i-vu cuts dens p r i=v∧p<q∧q≤((cuts.getD dens.length 0:Int):Rat)∧∀ x,x<q→vu cuts dens x r i<vu cuts dens q r i
 | 0,_,_,_,_,_,_,_,e=>by cases e
 | r+1,i,p,v,q,hi,hv,hp,e=>by
  have l1:=h.l1
  have hst:((cuts.getD i 0:Int):Rat)<((cuts.getD (i+1) 0:Int):Rat):=Rat.intCast_lt_intCast.2 (h.step (i:=i) (by omega))
  have hd:=h.den (i:=i) (by omega)
  have hd0:=yLz h (i:=i) (by omega)
  have low:=fun {x y:Rat}=>yBU h r (i+1) (x:=x) (y:=y) (by omega)
  have hmon:=fun {x:Rat} (hx:x<q)=>yI3 h (i:=i) (by omega) (qAy hx)
  have hmon2:=fun {x:Rat} (hx:x<q)=>yFm h (qAy hx) r (i+1) (by omega)
  have m1:=yf1 p (cuts.getD i 0:Int)
  have m2:=yf1 q (cuts.getD i 0:Int)
  have n1:=yg8 (maxR p (cuts.getD i 0:Int)) (cuts.getD (i+1) 0:Int)
  have n2:=yg8 (maxR q (cuts.getD i 0:Int)) (cuts.getD (i+1) 0:Int)
  unfold mrkS at e
  by_cases c1:p<((cuts.getD (i+1) 0:Int):Rat)
  case neg =>
   rw [if_pos c1] at e
   obtain ⟨a1,a2,a3,a4⟩:=yzG h r (i+1) p v q (by omega) hv (Rat.not_lt.1 c1) e
   have eq:uC cuts i q=uC cuts i p:=by unfold uC;grind
   refine ⟨by unfold vu;rw [eq];grind,a2,a3,fun x hx=>?_⟩
   have b1:=a4 x hx
   have b2:=qBt (hmon hx) hd0
   unfold vu
   grind
  rw [if_neg (fun k=>k c1)] at e
  by_cases c2:dens.getD i 0=0
  ·rw [if_pos c2] at e
   obtain ⟨a1,a2,a3,a4⟩:=yzG h r (i+1) _ v q (by omega) hv qA6 e
   have e2:=low (x:=p) (y:=((cuts.getD (i+1) 0:Int):Rat)) (qAy c1) qA6
   refine ⟨by unfold vu;rw [e2,c2];grind,by grind,a3,fun x hx=>?_⟩
   have b1:=a4 x hx
   have b2:=qBt (hmon hx) hd0
   unfold vu
   grind
  rw [if_neg c2] at e
  have e:=ymd (ymd e)
  have dpos:(0:Rat)<((dens.getD i 0:Int):Rat):=qB0.2 (by omega)
  have up:uC cuts i p=p:=by unfold uC;grind
  by_cases c3:(((cuts.getD (i+1) 0:Int):Rat)-p)*((dens.getD i 0:Int):Rat)<v
  ·rw [if_pos c3] at e
   have e:=ymd e
   obtain ⟨a1,a2,a3,a4⟩:=yzG h r (i+1) _ _ q (by omega) (by grind) qA6 e
   have e2:=low (x:=p) (y:=((cuts.getD (i+1) 0:Int):Rat)) (qAy c1) qA6
   have uq:uC cuts i q=((cuts.getD (i+1) 0:Int):Rat):=by unfold uC;grind
   refine ⟨by unfold vu;rw [e2,up,uq];grind,by grind,a3,fun x hx=>?_⟩
   have b1:=a4 x hx
   have b2:=qBt (hmon hx) hd0
   unfold vu
   grind
  ·rw [if_neg c3] at e
   have e:=ymd (ymd e)
   cases e
   generalize hs:v / ((dens.getD i 0:Int):Rat)=s at *
   have es:s*((dens.getD i 0:Int):Rat)=v:=by rw [← hs];exact Rat.div_mul_cancel (by grind)
   have s0:0<s:=by
    refine Rat.not_le.1 fun k=>?_
    have:=qB2 k hd0
    grind
   have s1:p+s≤((cuts.getD (i+1) 0:Int):Rat):=by
    refine Rat.not_lt.1 fun k=>?_
    have:(((cuts.getD (i+1) 0:Int):Rat)-p)<s:=by grind
    have:=Rat.mul_lt_mul_of_pos_right this dpos
    grind
   have uq:uC cuts i (p+s)=p+s:=by unfold uC;grind
   have e2:=low (x:=p+s) (y:=p) s1 (qAy c1)
   have hlast:cuts.getD (i+1) 0≤cuts.getD dens.length 0:=h.mono (by omega) (by omega)
   have hlast:((cuts.getD (i+1) 0:Int):Rat)≤((cuts.getD dens.length 0:Int):Rat):=qAw.2 hlast
   refine ⟨by unfold vu;rw [e2,up,uq];grind,by grind,by grind,fun x hx=>?_⟩
   have b1:=hmon2 hx
   have ux:uC cuts i x<p+s:=by
    have k1:=yf1 x (cuts.getD i 0:Int)
    have k2:=yg8 (maxR x (cuts.getD i 0:Int)) (cuts.getD (i+1) 0:Int)
    unfold uC
    grind
   have b2:=Rat.mul_lt_mul_of_pos_left ux dpos
   unfold vu
   rw [uq]
   grind
theorem VC.last (h:VC len cuts dens):cuts.getD dens.length 0=len:=by
 have l1:=h.l1
 have:=h.2.2.2.2.2.2.1
 rw [show dens.length=cuts.length-1 by omega]
 exact this
theorem yMC (h:VC len cuts dens) {a v q:Rat} (h0:0≤a) (h1:a≤(len:Rat)) (hv:0≤v) (e:mrkC cuts dens a v=.ok q) :
  vX cuts dens q=vX cuts dens a+v∧a≤q∧q≤(len:Rat)∧(v=0→a=q)∧(v≠0→∀ x,x<q→vX cuts dens x<vX cuts dens q):=by
 unfold mrkC at e
 by_cases c:v=0
 ·rw [if_pos c] at e
  cases e
  rw [c]
  exact ⟨by grind,qA6,h1,fun _=>rfl,fun k=>absurd rfl k⟩
 ·rw [if_neg c] at e
  have c0:cuts.getD 0 0=0:=h.2.2.2.2.2.1
  obtain ⟨a1,a2,a3,a4⟩:=yzG h dens.length 0 a v q (by omega) (by grind) (by rw [c0];exact h0) e
  rw [h.last] at a3
  exact ⟨by unfold vX;grind,qAy a2,a3,fun k=>absurd k c,fun _=>a4⟩
end
def In (D:Int) (q:Rat):Prop:=∃ n:Int,q=(n:Rat) / (D:Rat)
theorem In.int {D:Int} (h:1≤D) (c:Int):In D (c:Rat):=⟨c*D,by rw [Rat.intCast_mul,Rat.mul_div_cancel (rne h)]⟩
theorem In.add {D:Int} {q r:Rat} (h:In D q) (k:In D r):In D (q+r):=by
 obtain ⟨n,rfl⟩:=h
 obtain ⟨m,rfl⟩:=k
 exact ⟨n+m,by rw [Rat.intCast_add];grind⟩
theorem In.sub {D:Int} {q r:Rat} (h:In D q) (k:In D r):In D (q-r):=by
 obtain ⟨n,rfl⟩:=h
 obtain ⟨m,rfl⟩:=k
 exact ⟨n-m,by rw [Rat.intCast_sub];grind⟩
theorem In.mulI {D:Int} {q:Rat} (h:In D q) (d:Int):In D (q*(d:Rat)):=by
 obtain ⟨n,rfl⟩:=h
 exact ⟨n*d,by rw [Rat.intCast_mul];grind⟩
theorem In.up {D d:Int} {q:Rat} (hD:1≤D) (hd:1≤d) (h:In D q):In (d*D) q:=by
 obtain ⟨n,rfl⟩:=h
 have h1:=rne hD
 have h2:=rne hd
 refine ⟨d*n,?_⟩
 rw [Rat.intCast_mul,Rat.intCast_mul]
 grind
theorem In.div {D d:Int} {q:Rat} (hD:1≤D) (hd:1≤d) (h:In D q):In (d*D) (q / (d:Rat)):=by
 obtain ⟨n,rfl⟩:=h
 have h1:=rne hD
 have h2:=rne hd
 refine ⟨n,?_⟩
 rw [Rat.intCast_mul]
 grind
theorem In.small {D M:Int} {q:Rat} (h:In D q) (hD:1≤D∧D≤1000000000000000000) (hM:M*D≤1000000000000000000) (h0:-(M:Rat)≤q) (h1:q≤(M:Rat)):small q:=by
 obtain ⟨n,rfl⟩:=h
 have hp:(0:Rat)<(D:Rat):=qB0.2 (by omega)
 have e:(n:Rat) / (D:Rat)*(D:Rat)=(n:Rat):=Rat.div_mul_cancel (rne hD.1)
 have a:=qB2 h0 (qAy hp)
 have b:=qB2 h1 (qAy hp)
 rw [e] at a b
 have a':((-(M*D):Int):Rat)≤(n:Rat):=by rw [Rat.intCast_neg,Rat.intCast_mul];grind
 have b':(n:Rat)≤((M*D:Int):Rat):=by rw [Rat.intCast_mul];exact b
 have a2:=qAw.1 a'
 have b2:=qAw.1 b'
 exact yJ2 (d:=D) ⟨by omega,by omega⟩ ⟨by omega,by omega⟩
section
variable {len:Int} {cuts dens:List Int}
theorem yzH (h:VC len cuts dens) {i j:Nat} (hij:i≤j) (hj:j≤dens.length):((cuts.getD i 0:Int):Rat)≤((cuts.getD j 0:Int):Rat):=qAw.2 (h.mono hij (by have:=h.l1;omega))
theorem yN9 {D:Int} (hD:1≤D) {x:Rat} (hx:In D x) (i:Nat):In D (uC cuts i x):=by
 have n1:=yg8 (maxR x (cuts.getD i 0:Int)) (cuts.getD (i+1) 0:Int)
 have m1:=yf1 x (cuts.getD i 0:Int)
 unfold uC
 rcases n1.2.2 with e | e
 ·rw [e]
  rcases m1.2.2 with e2 | e2
  ·rw [e2];exact hx
  ·rw [e2];exact In.int hD _
 ·rw [e];exact In.int hD _
theorem yM0 {D:Int} (hD:1≤D) {x:Rat} (hx:In D x):∀ (r i:Nat),In D (vu cuts dens x r i)
 | 0,_=>In.int hD 0
 | r+1,i=>by
  unfold vu
  rw [Rat.mul_comm]
  exact ((yN9 hD hx i).mulI _).add (yM0 hD hx r (i+1))
theorem yI4 {D:Int} (hD:1≤D) {x:Rat} (hx:In D x):In D (vX cuts dens x):=yM0 hD hx _ _
theorem yLA (h:VC len cuts dens):∀ (r i:Nat),i+r=dens.length→vu cuts dens (len:Rat) r i-vu cuts dens ((cuts.getD i 0:Int):Rat) r i=((rem cuts dens r i:Int):Rat)
 | 0,_,_=>by unfold vu rem;show (0:Rat)-0=0;grind
 | r+1,i,hi=>by
  have ih:=yLA h r (i+1) (by omega)
  have hst:((cuts.getD i 0:Int):Rat)≤((cuts.getD (i+1) 0:Int):Rat):=yzH h (Nat.le_succ i) (by omega)
  have hl:((cuts.getD (i+1) 0:Int):Rat)≤(len:Rat):=by rw [← h.last];exact yzH h (by omega) (qAk _)
  have low:=yBU h r (i+1) (x:=((cuts.getD i 0:Int):Rat)) (y:=((cuts.getD (i+1) 0:Int):Rat)) (by omega) hst qA6
  have m1:=yf1 (len:Rat) (cuts.getD i 0:Int)
  have n1:=yg8 (maxR (len:Rat) (cuts.getD i 0:Int)) (cuts.getD (i+1) 0:Int)
  have m2:=yf1 ((cuts.getD i 0:Int):Rat) (cuts.getD i 0:Int)
  have n2:=yg8 (maxR ((cuts.getD i 0:Int):Rat) (cuts.getD i 0:Int)) (cuts.getD (i+1) 0:Int)
  have e1:uC cuts i (len:Rat)=((cuts.getD (i+1) 0:Int):Rat):=by unfold uC;grind
  have e2:uC cuts i ((cuts.getD i 0:Int):Rat)=((cuts.getD i 0:Int):Rat):=by unfold uC;grind
  unfold vu rem
  rw [e1,e2,low,Rat.intCast_add,Rat.intCast_mul,Rat.intCast_sub,← ih]
  grind
theorem yFn (h:VC len cuts dens):vX cuts dens (len:Rat)-vX cuts dens 0=((totC cuts dens:Int):Rat):=by
 have c0:cuts.getD 0 0=0:=h.2.2.2.2.2.1
 have:=yLA h dens.length 0 (by omega)
 rw [c0] at this
 unfold totC
 rw [yBL,show (0:Int)+rem cuts dens dens.length 0=rem cuts dens dens.length 0 by omega]
 exact this
theorem yI5 (h:VC len cuts dens):(1:Rat)≤(len:Rat)∧(len:Rat)≤1000:=by
 have:=h.len0
 exact ⟨qAw.2 this.1,qAw.2 this.2⟩
theorem yI6 (h:VC len cuts dens) {i:Nat} (hi:i<dens.length):(0:Rat)≤((dens.getD i 0:Int):Rat)∧((dens.getD i 0:Int):Rat)≤12:=by
 have:=h.den hi
 exact ⟨qAw.2 this.1,qAw.2 this.2⟩
theorem yI7 {x d:Rat} (h0:0≤x) (hd:0≤d∧d≤12):0≤x*d∧x*d≤12*x:=by
 have a:=Rat.mul_nonneg h0 hd.1
 have b:=qBt hd.2 h0
 exact ⟨a,by grind⟩
theorem yxU (h:VC len cuts dens) {D:Int} (hD:1≤D∧D≤50000000000000) {b:Rat} (hb:In D b) (b1:b≤(len:Rat)) :
  ∀ (r i:Nat) (p sum:Rat),i+r=dens.length→In D p→In D sum→0≤p→p≤(len:Rat)→0≤sum→sum≤12*p→∃ v,valS cuts dens b r i p sum=.ok v
 | 0,i,p,sum,_,_,_,_,_,_,_=>⟨sum,rfl⟩
 | r+1,i,p,sum,hi,hp,hs,p0,p1,s0,s1=>by
  have l1:=h.l1
  have hl:=yI5 h
  have hd:=yI6 h (i:=i) (by omega)
  have hc1:((cuts.getD (i+1) 0:Int):Rat)≤(len:Rat):=by rw [← h.last];exact yzH h (by omega) (qAk _)
  unfold valS
  have hen:∃ en:Rat,(if b<((cuts.getD (i+1) 0:Int):Rat) then b else ((cuts.getD (i+1) 0:Int):Rat))=en∧In D en∧en≤(len:Rat):=by
   refine ⟨_,rfl,?_,?_⟩
   ·split
    ·exact hb
    ·exact In.int hD.1 _
   ·split <;> grind
  obtain ⟨en,e0,e1,e2⟩:=hen
  rw [e0]
  dsimp only
  split
  ·refine yxU h hD hb b1 r (i+1) _ sum (by omega) ?_ hs ?_ ?_ s0 ?_
   ·split
    ·exact e1
    ·exact hp
   ·split <;> grind
   ·split <;> grind
   ·split <;> grind
  ·rename_i hn
   have hlt:p<en:=by
    refine Classical.byContradiction fun k=>hn (.inr k)
   have m:=yI7 (x:=en-p) (by grind) hd
   have i1:=e1.sub hp
   have i2:=i1.mulI (dens.getD i 0)
   have i3:=hs.add i2
   rw [ymW (i1.small (M:=1000) ⟨by omega,by omega⟩ (by omega) (by show -(1000:Rat)≤_;grind) (by show _≤(1000:Rat);grind)),
    ymW (i2.small (M:=12000) ⟨by omega,by omega⟩ (by omega) (by show -(12000:Rat)≤_;grind) (by show _≤(12000:Rat);grind)),
    ymW (i3.small (M:=12000) ⟨by omega,by omega⟩ (by omega) (by show -(12000:Rat)≤_;grind) (by show _≤(12000:Rat);grind))]
   exact yxU h hD hb b1 r (i+1) en _ (by omega) e1 i3 (by grind) e2 (by grind) (by grind)
theorem yDP (h:VC len cuts dens) {D:Int} (hD:1≤D∧D≤50000000000000) {a b:Rat} (ha:In D a) (hb:In D b) (a0:0≤a) (hab:a≤b) (b1:b≤(len:Rat)):valC cuts dens a b=.ok (vX cuts dens b-vX cuts dens a):=by
 obtain ⟨v,e⟩:=yxU h hD hb b1 dens.length 0 a 0 (by omega) ha (In.int hD.1 0) a0 (by grind) (by grind) (by grind)
 have e:valC cuts dens a b=.ok v:=e
 rw [e,yMB h a0 hab e]
end
set_option maxRecDepth 100000
def UL (E:Env) (callK:CK) (lp:LP) (b:TC):Nat→Frm→Hp→(Ex→Frm→Hp→Prop)→Prop
 | 0,_,_,_=>False
 | n+1,F,H,Q=>WC E callK lp [] noYK b F H fun x F' H'=>match x with | .norm=>UL E callK lp b n F' H' Q | .exit i=>Q (.exit i) F' H' | .ret=>Q .ret F' H' | .brk k i=>Q (.brk k i) F' H'
theorem yLB {E:Env} {P:EP} {id:Nat} {callK:CK} {lp:LP} {b:TC} (hP:Sub P E) (hG:Good P callK) (hf:yeV b=true) (hl:LpOk P E lp [] b) {n:Nat} {F:Frm} {H:Hp} {Q:Ex→Frm→Hp→Prop} (h:UL E callK lp b n F H Q):yrX P (.loop id b) F H Q :=
 yrX.intro hP hG hf (YOk.no _ _) hl (fun n F H=>UL E callK lp b n F H Q) (fun _ _ h=>h) (fun _ _ _ h=>h) n F H h
section
variable (e:Es) (fa fb fe:PV→PV→Int)
def WG (c p:PV):Prop:=Ans (E e) ycC [c,p] (.tup [.agg [.int .i64 (fa c p),.int .i64 (fb c p)],.int .i64 (fe c p)])
def wpWr (az:List PV) (K:PV→Prop):Prop :=
 match az with
 | [c,p]=>WG e fa fb fe c p∧K (.tup [.agg [.int .i64 (fa c p),.int .i64 (fb c p)],.int .i64 (fe c p)])
 | _=>False
def wpCk (az:List PV) (K:PV→Prop):Prop:=Ans (E e) yeR az (.int .i64 0)∧K (.int .i64 0)
def sW0:SE:=⟨E e,yeW [(yeR,wpCk e),(ycC,wpWr e fa fb fe)],yeX [],fun _ _ _ _ _=>False,fun _=>none⟩
def lpW1:LP:=fun id _ F H Q=>bif Nat.beq id 14283600 then UL (E e) (ym7 (sW0 e fa fb fe) 1) (fun _ _ _ _ _=>False) ykJ 8 F H Q else False
def lpW:LP:=fun id _ F H Q=>bif Nat.beq id 14283600 then UL (E e) (ym7 (sW0 e fa fb fe) 1) (fun _ _ _ _ _=>False) ykJ 8 F H Q else
 bif Nat.beq id 14283601 then UL (E e) (ym7 (sW0 e fa fb fe) 1) (lpW1 e fa fb fe) ys8 8 F H Q else False
def seqW (K:Option PV→Prop):List (PV×PV)→Prop→Prop
 | [],fin=>fin
 | q::r,fin=>WG e fa fb fe q.1 q.2∧cbr (fe q.1 q.2 != 0) (K (some (.tup [.data [],.int .i64 (fe q.1 q.2)]))) (seqW K r fin)
def prs (cs:List Ck) (ps:List (List PV)):List (PV×PV):=cs.flatMap fun c=>ps.map fun p=>(encC c,.data p)
def wtab (cs:List Ck) (ps:List (List PV)):List PV:=cs.map fun c=>.data (ps.map fun p=>.agg [.int .i64 (fa (encC c) (.data p)),.int .i64 (fb (encC c) (.data p))])
def pcsD (ps:List (List PV)):List PV:=ps.map fun p=>.data p
def wRun (cs:List Ck) (ps:List (List PV)) (K:Option PV→Prop):Prop :=
 WFn (E e) (ym7 (sW0 e fa fb fe) 1) (lpW e fa fb fe) yja [.data (cks cs),.agg [.data (pcsD ps)]] [] fun r H=>K (purN true H r)
def wAns (cs:List Ck) (ps:List (List PV)) (K:Option PV→Prop):Prop :=
 Ans (E e) yeR [.data (cks cs),.agg [.data (pcsD ps)]] (.int .i64 0)∧seqW e fa fb fe K (prs cs ps) (K (some (.tup [.data (wtab fa fb cs ps),.int .i64 0])))
theorem yOa (c0:Ck) (p0:List PV) (K:Option PV→Prop):wRun e fa fb fe [c0] [p0] K=wAns e fa fb fe [c0] [p0] K:=by kernel_rfl
theorem yOb (c0 c1:Ck) (p0 p1:List PV) (K:Option PV→Prop):wRun e fa fb fe [c0,c1] [p0,p1] K=wAns e fa fb fe [c0,c1] [p0,p1] K:=by kernel_rfl
theorem yOc (c0 c1 c2:Ck) (p0 p1 p2:List PV) (K:Option PV→Prop):wRun e fa fb fe [c0,c1,c2] [p0,p1,p2] K=wAns e fa fb fe [c0,c1,c2] [p0,p1,p2] K:=by kernel_rfl
theorem yOd (c0 c1 c2 c3:Ck) (p0 p1 p2 p3:List PV) (K:Option PV→Prop):wRun e fa fb fe [c0,c1,c2,c3] [p0,p1,p2,p3] K=wAns e fa fb fe [c0,c1,c2,c3] [p0,p1,p2,p3] K:=by kernel_rfl
theorem yOe (c0 c1 c2 c3 c4:Ck) (p0 p1 p2 p3 p4:List PV) (K:Option PV→Prop):wRun e fa fb fe [c0,c1,c2,c3,c4] [p0,p1,p2,p3,p4] K=wAns e fa fb fe [c0,c1,c2,c3,c4] [p0,p1,p2,p3,p4] K:=by kernel_rfl
theorem yOf (c0 c1 c2 c3 c4 c5:Ck) (p0 p1 p2 p3 p4 p5:List PV) (K:Option PV→Prop):wRun e fa fb fe [c0,c1,c2,c3,c4,c5] [p0,p1,p2,p3,p4,p5] K=wAns e fa fb fe [c0,c1,c2,c3,c4,c5] [p0,p1,p2,p3,p4,p5] K:=by kernel_rfl
theorem yM1 (he:EG e):SEOk (Uni (E e)) (sW0 e fa fb fe) :=
 yaz (Sub.uni _) ⟨fun _ _ h=>⟨_,h.2,h.1⟩,fun az K h=>by
  unfold wpWr at h
  split at h
  ·exact ⟨_,h.2,h.1⟩
  ·exact h.elim,trivial⟩ trivial he.ok
theorem yNG (he:EG e):LpOk (Uni (E e)) (E e) (lpW e fa fb fe) [] yja.body:=by
 have hG:=yaK (yM1 e fa fb fe he) 1
 have h0:LpOk (Uni (E e)) (E e) (fun _ _ _ _ _=>False) [] ykJ:=yak (by kernel_rfl)
 have h1:LpOk (Uni (E e)) (E e) (lpW1 e fa fb fe) [] ys8:=ya1 (l:=[(14283600,.loop 14283600 ykJ)]) ⟨fun F H Q h=>yLB (Sub.uni _) hG (by kernel_rfl) h0 h,trivial⟩ (by kernel_rfl)
 exact ya1 (l:=[(14283600,.loop 14283600 ykJ),(14283601,.loop 14283601 ys8)]) ⟨fun F H Q h=>yLB (Sub.uni _) hG (by kernel_rfl) h0 h,fun F H Q h=>yLB (Sub.uni _) hG (by kernel_rfl) h1 h,trivial⟩ (by kernel_rfl)
theorem yJ9 (he:EG e) {cs:List Ck} {ps:List (List PV)} {K:PV→Prop} (h:wRun e fa fb fe cs ps fun o=>∃ q,o=some q∧K q):∃ q,K q∧Ans (E e) ybr [.data (cks cs),.agg [.data (pcsD ps)]] q:=by
 have hf:(E e).fns ybr=some yja.fn:=by kernel_rfl
 have hx:∀ az H,(E e).eff ybr az H=none:=he.num _ (by kernel_rfl)
 obtain ⟨r,H',⟨q,hp,hk⟩,m0,hm⟩:=yHw (S:=⟨E e,fun _=>none,fun _=>none,lpW e fa fb fe,fun _=>none⟩) (callK:=ym7 (sW0 e fa fb fe) 1) (Sub.uni _) (yaK (yM1 e fa fb fe he) 1) (fn:=yja) ypG.flat (yNG e fa fb fe he) (n:=ybr) hf hx h
 refine ⟨q,hk,m0,fun k x m hk1 hk2 hle=>?_⟩
 obtain ⟨_,l2,l3,_,_,l6,_⟩:=ygR hk2
 have hs:(E e).sum ybr [.data (cks cs),.agg [.data (pcsD ps)]]=none:=yaB (by kernel_rfl) _
 have hq:(E e).qui ybr=true:=by kernel_rfl
 have hn:(E e).nl ybr=true:=by kernel_rfl
 have hm':ycN x m ybr [.data (cks cs),.agg [.data (pcsD ps)]] []=some (r,H'):=hm k x m hk1 hk2 hle
 unfold yet
 rw [l2,hs,l3,hq,hm',l6,hn]
 exact hp
end
theorem yaX {α:Type} {l:List α} {n:Nat} (h:l.length=n+1):∃ a r,l=a::r∧r.length=n:=by
 cases l with
 | nil=>cases h
 | cons a r=>exact ⟨a,r,rfl,by simpa using h⟩
theorem yLC (e:Es) (fa fb fe:PV→PV→Int) {cs:List Ck} {ps:List (List PV)} (hl:ps.length=cs.length) (h1:1≤cs.length) (h6:cs.length≤6) (K:Option PV→Prop):wRun e fa fb fe cs ps K=wAns e fa fb fe cs ps K:=by
 obtain ⟨n,hn⟩:∃ n,cs.length=n:=⟨_,rfl⟩
 rw [hn] at hl h1 h6
 obtain rfl | rfl | rfl | rfl | rfl | rfl:n=1∨n=2∨n=3∨n=4∨n=5∨n=6:=by omega
 ·obtain ⟨c0,cr0,hc0,hn0⟩:=yaX hn
  subst hc0
  have hzc:=qAp hn0
  subst hzc
  obtain ⟨p0,pr0,hp0,hl0⟩:=yaX hl
  subst hp0
  have hzp:=qAp hl0
  subst hzp
  exact yOa e fa fb fe c0 p0 K
 ·obtain ⟨c0,cr0,hc0,hn0⟩:=yaX hn
  subst hc0
  obtain ⟨c1,cr1,hc1,hn1⟩:=yaX hn0
  subst hc1
  have hzc:=qAp hn1
  subst hzc
  obtain ⟨p0,pr0,hp0,hl0⟩:=yaX hl
  subst hp0
  obtain ⟨p1,pr1,hp1,hl1⟩:=yaX hl0
  subst hp1
  have hzp:=qAp hl1
  subst hzp
  exact yOb e fa fb fe c0 c1 p0 p1 K
 ·obtain ⟨c0,cr0,hc0,hn0⟩:=yaX hn
  subst hc0
  obtain ⟨c1,cr1,hc1,hn1⟩:=yaX hn0
  subst hc1
  obtain ⟨c2,cr2,hc2,hn2⟩:=yaX hn1
  subst hc2
  have hzc:=qAp hn2
  subst hzc
  obtain ⟨p0,pr0,hp0,hl0⟩:=yaX hl
  subst hp0
  obtain ⟨p1,pr1,hp1,hl1⟩:=yaX hl0
  subst hp1
  obtain ⟨p2,pr2,hp2,hl2⟩:=yaX hl1
  subst hp2
  have hzp:=qAp hl2
  subst hzp
  exact yOc e fa fb fe c0 c1 c2 p0 p1 p2 K
 ·obtain ⟨c0,cr0,hc0,hn0⟩:=yaX hn
  subst hc0
  obtain ⟨c1,cr1,hc1,hn1⟩:=yaX hn0
  subst hc1
  obtain ⟨c2,cr2,hc2,hn2⟩:=yaX hn1
  subst hc2
  obtain ⟨c3,cr3,hc3,hn3⟩:=yaX hn2
  subst hc3
  have hzc:=qAp hn3
  subst hzc
  obtain ⟨p0,pr0,hp0,hl0⟩:=yaX hl
  subst hp0
  obtain ⟨p1,pr1,hp1,hl1⟩:=yaX hl0
  subst hp1
  obtain ⟨p2,pr2,hp2,hl2⟩:=yaX hl1
  subst hp2
  obtain ⟨p3,pr3,hp3,hl3⟩:=yaX hl2
  subst hp3
  have hzp:=qAp hl3
  subst hzp
  exact yOd e fa fb fe c0 c1 c2 c3 p0 p1 p2 p3 K
 ·obtain ⟨c0,cr0,hc0,hn0⟩:=yaX hn
  subst hc0
  obtain ⟨c1,cr1,hc1,hn1⟩:=yaX hn0
  subst hc1
  obtain ⟨c2,cr2,hc2,hn2⟩:=yaX hn1
  subst hc2
  obtain ⟨c3,cr3,hc3,hn3⟩:=yaX hn2
  subst hc3
  obtain ⟨c4,cr4,hc4,hn4⟩:=yaX hn3
  subst hc4
  have hzc:=qAp hn4
  subst hzc
  obtain ⟨p0,pr0,hp0,hl0⟩:=yaX hl
  subst hp0
  obtain ⟨p1,pr1,hp1,hl1⟩:=yaX hl0
  subst hp1
  obtain ⟨p2,pr2,hp2,hl2⟩:=yaX hl1
  subst hp2
  obtain ⟨p3,pr3,hp3,hl3⟩:=yaX hl2
  subst hp3
  obtain ⟨p4,pr4,hp4,hl4⟩:=yaX hl3
  subst hp4
  have hzp:=qAp hl4
  subst hzp
  exact yOe e fa fb fe c0 c1 c2 c3 c4 p0 p1 p2 p3 p4 K
 ·obtain ⟨c0,cr0,hc0,hn0⟩:=yaX hn
  subst hc0
  obtain ⟨c1,cr1,hc1,hn1⟩:=yaX hn0
  subst hc1
  obtain ⟨c2,cr2,hc2,hn2⟩:=yaX hn1
  subst hc2
  obtain ⟨c3,cr3,hc3,hn3⟩:=yaX hn2
  subst hc3
  obtain ⟨c4,cr4,hc4,hn4⟩:=yaX hn3
  subst hc4
  obtain ⟨c5,cr5,hc5,hn5⟩:=yaX hn4
  subst hc5
  have hzc:=qAp hn5
  subst hzc
  obtain ⟨p0,pr0,hp0,hl0⟩:=yaX hl
  subst hp0
  obtain ⟨p1,pr1,hp1,hl1⟩:=yaX hl0
  subst hp1
  obtain ⟨p2,pr2,hp2,hl2⟩:=yaX hl1
  subst hp2
  obtain ⟨p3,pr3,hp3,hl3⟩:=yaX hl2
  subst hp3
  obtain ⟨p4,pr4,hp4,hl4⟩:=yaX hl3
  subst hp4
  obtain ⟨p5,pr5,hp5,hl5⟩:=yaX hl4
  subst hp5
  have hzp:=qAp hl5
  subst hzp
  exact yOf e fa fb fe c0 c1 c2 c3 c4 c5 p0 p1 p2 p3 p4 p5 K
def wPV (t:Int×Int×Int):PV:=.tup [.agg [.int .i64 t.1,.int .i64 t.2.1],.int .i64 t.2.2]
open Classical in
noncomputable def wOf (e:Es) (c p:PV):Int×Int×Int:=if h:∃ t,Ans (E e) ycC [c,p] (wPV t) then Classical.choose h else (0,0,0)
theorem yFo {e:Es} {c p:PV} {t:Int×Int×Int} (h:Ans (E e) ycC [c,p] (wPV t)):wOf e c p=t:=by
 have hx:∃ t,Ans (E e) ycC [c,p] (wPV t):=⟨t,h⟩
 unfold wOf
 rw [dif_pos hx]
 have h2:=Ans.unique (Classical.choose_spec hx) h
 generalize Classical.choose hx=u at h2
 obtain ⟨a,b,c⟩:=u
 obtain ⟨a',b',c'⟩:=t
 unfold wPV at h2
 cases h2
 rfl
theorem yOg {e:Es} {c p:PV} {t:Int×Int×Int} (h:Ans (E e) ycC [c,p] (wPV t)):WG e (fun c p=>(wOf e c p).1) (fun c p=>(wOf e c p).2.1) (fun c p=>(wOf e c p).2.2) c p:=by
 unfold WG
 have:=yFo h
 dsimp only
 rw [this]
 exact h
theorem yI8 {e:Es} {fa fb fe:PV→PV→Int} {K:Option PV→Prop} {fin:Prop}:∀ {l:List (PV×PV)},(∀ q∈l,WG e fa fb fe q.1 q.2)→((∀ q∈l,fe q.1 q.2=0)→fin)→(∀ q∈l,fe q.1 q.2≠0→K (some (.tup [.data [],.int .i64 (fe q.1 q.2)])))→seqW e fa fb fe K l fin
 | [],_,h,_=>h fun q hq=>by cases hq
 | q::r,hg,h,hk=>by
  refine ⟨hg q qAo,?_⟩
  by_cases h0:fe q.1 q.2=0
  ·rw [h0]
   refine yI8 (fun x hx=>hg x (qAi _ hx)) (fun hr=>h fun x hx=>?_) fun x hx=>hk x (qAi _ hx)
   rcases qAt.1 hx with rfl | hx
   ·exact h0
   ·exact hr x hx
  ·have e1:(fe q.1 q.2 != 0)=true:=by simpa using h0
   rw [e1]
   exact hk q qAo h0
theorem yNH {e:Es} (he:EG e) {c:Ck} {p:List PV} {t:Int×Int×Int} (h:∀ K:Int→Int→Int→Prop,ycb c.len (ints c.cuts) (ints c.dens) p K=K t.1 t.2.1 t.2.2):Ans (E e) ycC [encC c,.data p] (wPV t):=by
 have hw:yp6 [encC c,.data p] (fun q=>q=wPV t):=by
  have e0:yp6 [encC c,.data p] (fun q=>q=wPV t)=ycb c.len (ints c.cuts) (ints c.dens) p (fun r0 r1 r2=>PV.tup [.agg [.int .i64 r0,.int .i64 r1],.int .i64 r2]=wPV t):=by kernel_rfl
  rw [e0,h]
  rfl
 obtain ⟨q,hq,ha⟩:=yp9 e he [encC c,.data p] (fun q=>q=wPV t) hw
 rw [hq] at ha
 exact ha
theorem yLD {cs:List Ck} {ps:List (List PV)} (hl:ps.length=cs.length) (h1:1≤cs.length) (h6:cs.length≤6) (hc:∀ K,ydy (cks cs) (pcsD ps) K=K 0) {F:Ck→List PV→Int×Int×Int}
  (hW:∀ c∈cs,∀ p∈ps,∀ K,ycb c.len (ints c.cuts) (ints c.dens) p K=K (F c p).1 (F c p).2.1 (F c p).2.2) {r0:List PV} {r1:Int}
  (h0:(∀ c∈cs,∀ p∈ps,(F c p).2.2=0)→r0=cs.map (fun c=>.data (ps.map fun p=>.agg [.int .i64 (F c p).1,.int .i64 (F c p).2.1]))∧r1=0)
  (hx:∀ c∈cs,∀ p∈ps,(F c p).2.2≠0→r0=[]∧r1=(F c p).2.2) (K:List PV→Int→Prop):yaR (cks cs) (pcsD ps) K=K r0 r1:=by
 refine yzj _ _ _ _ (fun K k=>?_) K
 refine ⟨r0,r1,k,fun e he=>?_⟩
 have hA:∀ c∈cs,∀ p∈ps,Ans (E e) ycC [encC c,.data p] (wPV (F c p)):=fun c hc p hp=>yNH he (hW c hc p hp)
 have hq:∀ q∈prs cs ps,∃ c∈cs,∃ p∈ps,q=(encC c,PV.data p):=fun q hq=>by
  unfold prs at hq
  obtain ⟨c,hc,hq⟩:=List.mem_flatMap.1 hq
  obtain ⟨p,hp,rfl⟩:=qBx.1 hq
  exact ⟨c,hc,p,hp,rfl⟩
 have hck:Ans (E e) yeR [.data (cks cs),.agg [.data (pcsD ps)]] (.int .i64 0):=by
  have hw:yqt [.data (cks cs),.agg [.data (pcsD ps)]] (fun q=>q=.int .i64 0):=by
   have e0:yqt [.data (cks cs),.agg [.data (pcsD ps)]] (fun q=>q=.int .i64 0)=ydy (cks cs) (pcsD ps) (fun r0=>PV.int .i64 r0=.int .i64 0):=by kernel_rfl
   rw [e0,hc]
  obtain ⟨q,hq,ha⟩:=yqu e he [.data (cks cs),.agg [.data (pcsD ps)]] (fun q=>q=.int .i64 0) hw
  rw [hq] at ha
  exact ha
 have hrun:wRun e (fun c p=>(wOf e c p).1) (fun c p=>(wOf e c p).2.1) (fun c p=>(wOf e c p).2.2) cs ps fun o=>∃ q,o=some q∧q=.tup [.data r0,.int .i64 r1]:=by
  rw [yLC _ _ _ _ hl h1 h6]
  refine ⟨hck,yI8 (fun q hq'=>?_) (fun hz=>?_) fun q hq' hn=>?_⟩
  ·obtain ⟨c,hc,p,hp,rfl⟩:=hq q hq'
   exact yOg (hA c hc p hp)
  ·have hz':∀ c∈cs,∀ p∈ps,(F c p).2.2=0:=fun c hc p hp=>by
    have:=hz (encC c,.data p) (List.mem_flatMap.2 ⟨c,hc,qBx.2 ⟨p,hp,rfl⟩⟩)
    dsimp only at this
    rw [yFo (hA c hc p hp)] at this
    exact this
   obtain ⟨e1,e2⟩:=h0 hz'
   refine ⟨_,rfl,?_⟩
   rw [e1,e2]
   unfold wtab
   congr 3
   refine List.map_congr_left fun c hc=>?_
   congr 1
   refine List.map_congr_left fun p hp=>?_
   dsimp only
   rw [yFo (hA c hc p hp)]
  ·obtain ⟨c,hc,p,hp,rfl⟩:=hq q hq'
   dsimp only at hn ⊢
   rw [yFo (hA c hc p hp)] at hn ⊢
   obtain ⟨e1,e2⟩:=hx c hc p hp hn
   exact ⟨_,rfl,by rw [e1,e2]⟩
 obtain ⟨q,hq',ha⟩:=yJ9 e _ _ _ he hrun
 rw [hq'] at ha
 exact ha
end Go.Pf.Vc
namespace Go.Pf.Vc
def yqV (a b:List RS):Bool:=a.any fun s=>b.any fun t=>decide (s.1<t.2)&&decide (t.1<s.2)
theorem yH4 {a b:List RS} (ha:∀ s∈a,s.1<s.2) (hb:∀ s∈b,s.1<s.2):yqV a b=true↔∃ p,memP a p∧memP b p:=by
 unfold yqV
 simp only [List.any_eq_true,qAe,decide_eq_true_eq]
 constructor
 ·rintro ⟨s,hs,t,ht,h1,h2⟩
  have k1:=ha s hs
  have k2:=hb t ht
  by_cases h:s.1<t.1
  ·exact ⟨t.1,⟨s,hs,by grind,h2⟩,⟨t,ht,qA6,k2⟩⟩
  ·exact ⟨s.1,⟨s,hs,qA6,k1⟩,⟨t,ht,by grind,h1⟩⟩
 ·rintro ⟨p,⟨s,hs,h1,h2⟩,⟨t,ht,h3,h4⟩⟩
  exact ⟨s,hs,t,ht,by grind,by grind⟩
def gapS (len:Rat):List RS→Rat→Bool
 | [],at_=>decide (at_<len)
 | s::r,at_=>if at_<s.1 then true else gapS len r (if at_<s.2 then s.2 else at_)
theorem yGJ {len:Rat}:∀ (l:List RS) (at_:Rat),yBR l→(∀ s∈l,s.1<s.2)→(∀ s∈l,s.2≤len)→(gapS len l at_=true↔∃ p,at_≤p∧p<len∧¬memP l p)
 | [],at_,_,_,_=>by
  unfold gapS
  rw [decide_eq_true_eq]
  exact ⟨fun h=>⟨at_,qA6,h,yLp⟩,fun ⟨p,h1,h2,_⟩=>by grind⟩
 | s::r,at_,hs,hv,hl=>by
  unfold gapS
  have s1:=hv s qAo
  have s2:=hl s qAo
  by_cases h:at_<s.1
  ·rw [if_pos h]
   refine ⟨fun _=>⟨at_,qA6,by grind,fun hm=>?_⟩,fun _=>rfl⟩
   rcases yrh.1 hm with hm | ⟨t,ht,hm,_⟩
   ·have:=hm.1;grind
   ·have:=hs.1 t ht;grind
  ·rw [if_neg h,yGJ r _ hs.2 (fun t ht=>hv t (qAi _ ht)) (fun t ht=>hl t (qAi _ ht))]
   constructor
   ·rintro ⟨p,h1,h2,h3⟩
    have h1':at_≤p∧s.2≤p:=by split at h1 <;> exact ⟨by grind,by grind⟩
    refine ⟨p,h1'.1,h2,fun hm=>?_⟩
    rcases yrh.1 hm with hm | hm
    ·have:=hm.2;grind
    ·exact h3 hm
   ·rintro ⟨p,h1,h2,h3⟩
    refine ⟨p,?_,h2,fun hm=>h3 (yrh.2 (.inr hm))⟩
    have hn:¬inS s p:=fun hm=>h3 (yrh.2 (.inl hm))
    have:s.2≤p:=Rat.not_lt.1 fun hlt=>hn ⟨by grind,hlt⟩
    split <;> assumption
end Go.Pf.Vc
namespace Go.Pf.Vc
open Go Go.Pf
theorem yjv {q r:Rat} (hq:small q) (hr:small r) (K:Bool→Prop):yan q.num q.den r.num r.den K=K (decide (q<r)):=by
 unfold yan ymD
 rw [yoF hq hr,ywf]
theorem ykl (n:Int) (K:Int→Int→Prop):yaJ n K=K (n:Rat).num (n:Rat).den:=rfl
def meets (s t:RS):Bool:=decide (s.1<t.2)&&decide (t.1<s.2)
theorem yGK {s:RS} (h:yfz s) {B:List RS} (hs:∀ t∈B,yfz t) (hl:B.length<4611686018427387904) {x0:Int→Int→Int→Int→List PV→Int→Int→Bool→Prop} {x1:Int→Int→Int→Int→Int→Prop} {K:Bool→Prop}
  (hx0:∀ a b c d l i k q,x0 a b c d l i k q=K false) (hx1:∀ a b c d i,0≤i→x1 a b c d i=K true) :
  ∀ (r i n:Nat),i+r=B.length→r<n→yc9 yan x0 x1 n s.1.num s.1.den s.2.num s.2.den (rsp B) (B.length:Int) (i:Int)=K ((B.drop i).any (meets s)):=by
 intro r
 induction r with
 | zero =>
  intro i n hi hn
  obtain ⟨n,rfl⟩:∃ m,n=m+1:=⟨n-1,by omega⟩
  obtain rfl:i=B.length:=by omega
  rw [yc9,cbF (by omega),List.drop_length,hx0]
  rfl
 | succ r ih =>
  intro i n hi hn
  obtain ⟨n,rfl⟩:∃ m,n=m+1:=⟨n-1,by omega⟩
  have hil:i<B.length:=by omega
  have e1:=wib (n:=(i:Int)+1) (by omega) (by omega)
  have hd:B.drop i=B.getD i default::B.drop (i+1):=ydr default hil
  have hx:=yt8 hs hil
  rw [yc9,cbT (by omega)]
  dsimp only [lt,Go.Pf.jn]
  rw [yc3,asT (by omega),asT (by omega),qAg,yqT hil,asR,yDL,yI0,yDM,yDN,yjv h.1 hx.2,e1,ycR,hd,List.any_cons]
  unfold meets
  cases decide (s.1<(B.getD i default).2) with
  | false =>
   rw [yae,yae,qBs,Bool.false_or]
   exact ih (i+1) n (by omega) (by omega)
  | true =>
   rw [yas,qBm,yjv hx.1 h.2]
   cases decide ((B.getD i default).1<s.2) with
   | false =>
    rw [yae,Bool.false_or]
    exact ih (i+1) n (by omega) (by omega)
   | true =>
    rw [yas,hx1 _ _ _ _ _ (by omega)]
    rfl
theorem yKa {s:RS} (h:yfz s) {B:List RS} (hs:∀ t∈B,yfz t) (hl:B.length<4611686018427387904) (K:Bool→Prop):ycm s.1.num s.1.den s.2.num s.2.den (rsp B) K=K (B.any (meets s)):=by
 refine yvE _ _ _ _ _ _ (fun K k=>?_) K
 unfold ycm yiJ
 dsimp only [Go.Pf.jn]
 refine ⟨B.length+1,?_⟩
 rw [yc3]
 exact (yGK h hs hl (K:=K) (fun _ _ _ _ _ _ _ _=>rfl) (fun _ _ _ _ i hi=>by rw [decide_eq_true hi]) B.length 0 (B.length+1) (by omega) (by omega)).mpr (by rw [qBi];exact k)
theorem yH5 {A B:List RS} (ha:∀ s∈A,yfz s) (hb:∀ t∈B,yfz t) (hla:A.length<4611686018427387904) (hlb:B.length<4611686018427387904) {x0:List PV→List PV→Int→Int→Bool→Prop} {x1:List PV→Int→Prop} {K:Bool→Prop}
  (hx0:∀ l m i k q,x0 l m i k q=K false) (hx1:∀ l i,0≤i→x1 l i=K true) :
  ∀ (r i n:Nat),i+r=A.length→r<n→ydH ycm x0 x1 n (rsp B) (rsp A) (A.length:Int) (i:Int)=K (yqV (A.drop i) B):=by
 intro r
 induction r with
 | zero =>
  intro i n hi hn
  obtain ⟨n,rfl⟩:∃ m,n=m+1:=⟨n-1,by omega⟩
  obtain rfl:i=A.length:=by omega
  rw [ydH,cbF (by omega),List.drop_length,hx0]
  rfl
 | succ r ih =>
  intro i n hi hn
  obtain ⟨n,rfl⟩:∃ m,n=m+1:=⟨n-1,by omega⟩
  have hil:i<A.length:=by omega
  have e1:=wib (n:=(i:Int)+1) (by omega) (by omega)
  have hd:A.drop i=A.getD i default::A.drop (i+1):=ydr default hil
  have hx:=yt8 ha hil
  rw [ydH,cbT (by omega)]
  dsimp only [lt,Go.Pf.jn]
  rw [yc3,asT (by omega),asT (by omega),qAg,yqT hil,asR,yDL,yI0,yDM,yDN,yKa hx hb hlb,e1,ycR,hd]
  have e:yqV (A.getD i default::A.drop (i+1)) B=(B.any (meets (A.getD i default))||yqV (A.drop (i+1)) B):=rfl
  rw [e]
  cases B.any (meets (A.getD i default)) with
  | false =>
   rw [yae,Bool.false_or]
   exact ih (i+1) n (by omega) (by omega)
  | true =>
   rw [yas,hx1 _ _ (by omega)]
   rfl
theorem yLE {A B:List RS} (ha:∀ s∈A,yfz s) (hb:∀ t∈B,yfz t) (hla:A.length<4611686018427387904) (hlb:B.length<4611686018427387904) (K:Bool→Prop):yav (rsp A) (rsp B) K=K (yqV A B):=by
 refine yzk _ _ _ (fun K k=>?_) K
 unfold yav yk3
 dsimp only [Go.Pf.jn]
 refine ⟨A.length+1,?_⟩
 rw [yc3]
 exact (yH5 ha hb hla hlb (K:=K) (fun _ _ _ _ _=>rfl) (fun _ i hi=>by rw [decide_eq_true hi]) A.length 0 (A.length+1) (by omega) (by omega)).mpr (by rw [qBi];exact k)
section
variable {cs:List Ck} {ps:List (List Sp)}
theorem ycv {α:Type} {l:List α} {i:Nat} (d:α) (h:i<l.length):l.getD i d∈l:=by
 rw [qAa,qAb h]
 exact qBb h
end
structure DV (cs:List Ck) (A:List (List RS)):Prop where
 d:DK cs
 l:A.length=cs.length
 p:∀ a∈A,Pc a
 m:∀ a∈A,a.length≤20
 w:∀ a∈A,yLx (cs.getD 0 default).len a=true
theorem datD (l:List PV):yaI (PV.data l)=l:=rfl
def rspL (A:List (List RS)):List PV:=A.map fun a=>.data (rsp a)
theorem yeO (A:List (List RS)):(rspL A).length=A.length:=qAf ..
theorem ykc {A:List (List RS)} {i:Nat} (h:i<A.length):List.getD (rspL A) i .nils=.data (rsp (A.getD i [])):=by
 unfold rspL
 rw [qAa,qAa,qAz,qAb h]
 rfl
section
variable {cs:List Ck} {ps:List (List Sp)} {A:List (List RS)}
theorem DV.len0 (h:DV cs A):1≤(cs.getD 0 default).len∧(cs.getD 0 default).len≤1000:=(h.d.ok 0 (by have:=h.d.n0;omega)).len0
theorem DV.wi (h:DV cs A):∀ a∈A,Wi (cs.getD 0 default).len a:=fun a ha=>yLy (h.w a ha)
theorem yBV (h:DV cs A) {WA WW WL} {x0:List PV→List PV→List PV→Int→Int→Bool→Prop} {x1:Int→Prop} :
  ∀ (r i n:Nat),i+r=A.length→r<n→ydG WA ya6 WW WL x0 x1 n (cks cs) (rspL A) (rspL A) (A.length:Int) (i:Int)=x0 (cks cs) (rspL A) (rspL A) (A.length:Int) (A.length:Int) false
 | 0,i,n+1,hi,hn=>by
  rw [ydG,cbF (by omega),show (i:Int)=A.length by omega]
 | r+1,i,n+1,hi,hn=>by
  have h6:=h.d.n6;have hl:=h.l
  have e1:=wib (n:=(i:Int)+1) (by omega) (by omega)
  have hm:=ycv [] (show i<A.length by omega)
  rw [ydG]
  dsimp only [lt,Go.Pf.jn]
  rw [cbT (by omega),yeO,asT (by omega),asT (by omega),qAg,ykc (by omega),asD]
  show ya6 (rsp (A.getD i [])) _=_
  rw [(h.p _ hm).check,e1,ycR]
  show cbr false _ _=_
  rw [yae]
  exact yBV h r (i+1) n (by omega) (by omega)
theorem yBW (h:DV cs A) {WA WC} {x0:List PV→List PV→Int→Int→Bool→Prop} {x1:Int→Prop} :
  ∀ (r i n:Nat),i+r=A.length→r<n→yc0 WA WC yaJ yan x0 x1 n (cks cs) (rspL A) (A.length:Int) (i:Int)=x0 (cks cs) (rspL A) (A.length:Int) (A.length:Int) false
 | 0,i,n+1,hi,hn=>by
  rw [yc0,cbF (by omega),show (i:Int)=A.length by omega]
 | r+1,i,n+1,hi,hn=>by
  have h6:=h.d.n6;have hl:=h.l;have h1:=h.d.n0;have l0:=h.len0
  have e1:=wib (n:=(i:Int)+1) (by omega) (by omega)
  have hm:=ycv [] (show i<A.length by omega)
  have p:=h.p _ hm
  have hw:=h.wi _ hm
  have pn:=p.n
  have ih:=yBW h (WA:=WA) (WC:=WC) (x0:=x0) (x1:=x1) r (i+1) n (by omega) (by omega)
  rw [yc0]
  dsimp only [lt,Go.Pf.jn]
  rw [cbT (by omega),yeO,asT (by omega),asT (by omega),qAg,ykc (by omega),asD,datD]
  generalize A.getD i []=a at p hw pn
  rw [yc3,e1,ycR]
  by_cases ha:a.length=0
  ·rw [cbF (by omega),yae]
   exact ih
  ·have h0:0<a.length:=by omega
   have m0:=ycv (default:RS) h0
   have m1:=ycv (default:RS) (show a.length-1<a.length by omega)
   have w0:=hw _ m0
   have w1:=hw _ m1
   have s1:=p.s _ m1
   have n0:0≤(a.getD 0 default).1.num:=Rat.num_nonneg.2 w0.1
   have e2:=wib (n:=(a.length:Int)-1) (by omega) (by omega)
   have et:((a.length:Int)-1).toNat=a.length-1:=by omega
   have sl:small ((cs.getD 0 default).len:Rat):=yiS (by omega)
   rw [cbT (by omega),asT (by omega),yqT h0,asR,yDL,cbF (by omega),ya8,asT (by omega),yej (by omega),asCk,ck0,ykl,e2,asT (by omega),asT (by omega),et,yqT (by omega),asR,yDM,yDN,yjv sl s1.2,cbF (by grind)]
   exact ih
theorem yMD (h:DV cs A) (K:Int→Prop):ydy (cks cs) (rspL A) K=K 0:=by
 have h6:=h.d.n6;have hl:=h.l
 refine yzi _ _ _ (fun K k=>?_) K
 unfold ydy ykZ
 rw [yiU h.d.fin (by omega)]
 show cbr (ygY cs 0 != 0) _ _
 rw [cnF (h.d.err (by omega)),yeO,ya8,cnF (by omega)]
 refine ⟨A.length+1,(yBV h A.length 0 (A.length+1) (by omega) (by omega)).mpr ?_⟩
 show ∃ n,yc0 _ _ _ _ _ _ n (cks cs) (rspL A) (((rspL A).length:Nat):Int) 0
 rw [yeO]
 exact ⟨A.length+1,(yBW h A.length 0 (A.length+1) (by omega) (by omega)).mpr k⟩
end
def wV (c:Ck) (a:List RS):Rat:=sumV (dV (vX c.cuts c.dens)) a
def tabW (cs:List Ck) (A:List (List RS)):List PV:=cs.map fun c=>.data (rts (A.map (wV c)))
open Classical in
noncomputable def fW (c:Ck) (p:List PV):Int×Int×Int:=if h:∃ t:Int×Int×Int,∀ K:Int→Int→Int→Prop,ycb c.len (ints c.cuts) (ints c.dens) p K=K t.1 t.2.1 t.2.2 then Classical.choose h else (0,0,0)
theorem yOh {c:Ck} {p:List PV} {t:Int×Int×Int} (h:∀ K:Int→Int→Int→Prop,ycb c.len (ints c.cuts) (ints c.dens) p K=K t.1 t.2.1 t.2.2):fW c p=t:=by
 have hx:∃ t:Int×Int×Int,∀ K:Int→Int→Int→Prop,ycb c.len (ints c.cuts) (ints c.dens) p K=K t.1 t.2.1 t.2.2:=⟨t,h⟩
 unfold fW
 rw [dif_pos hx]
 have h2:=Classical.choose_spec hx (fun a b c=>(a,b,c)=t)
 rw [h] at h2
 exact h2.mp rfl
theorem yqW {α:Type} {l:List α} {x:α} (d:α) (h:x∈l):∃ i,i<l.length∧l.getD i d=x:=by
 obtain ⟨i,hi,e⟩:=List.getElem_of_mem h
 exact ⟨i,hi,by rw [qAa,qAb hi];exact e⟩
section
variable {cs:List Ck} {A:List (List RS)}
theorem DK.mem (h:DK cs) {c:Ck} (hc:c∈cs):c.ok∧c.len=(cs.getD 0 default).len:=by
 obtain ⟨i,hi,rfl⟩:=yqW default hc
 exact ⟨h.ok i hi,h.len i hi⟩
end
def tot (A:List (List RS)):Nat:=(A.map List.length).sum
theorem ywi (a:List RS) (A:List (List RS)):tot (a::A)=a.length+tot A:=by unfold tot;rw [qBy,List.sum_cons]
theorem yGL:∀ A:List (List RS),A.flatten.length=tot A
 | []=>rfl
 | a::r=>by rw [List.flatten_cons,qAd,yGL r,ywi]
theorem yLF {m:Nat}:∀ {A:List (List RS)},(∀ a∈A,a.length≤m)→tot A≤A.length*m
 | [],_=>by simp [tot]
 | a::r,h=>by
  have h1:=h a qAo
  have h2:=yLF (m:=m) fun x hx=>h x (qAi a hx)
  rw [ywi,qAn,Nat.succ_mul]
  omega
section
variable {cs:List Ck} {A:List (List RS)}
theorem yDQ (hl:A.length≤6) (hm:∀ a∈A,a.length≤20) {WW WL} {x0:List PV→Int→List PV→Int→Int→Bool→Prop} {l0:List PV} :
  ∀ (r i n s:Nat),i+r=A.length→r<n→s≤20*i→ycx WW WL x0 n l0 (s:Int) (rspL A) (A.length:Int) (i:Int)=x0 l0 ((s+tot (A.drop i):Nat):Int) (rspL A) (A.length:Int) (A.length:Int) false
 | 0,i,n+1,s,hi,hn,hs=>by
  rw [ycx,cbF (by omega),qA5 (by omega),show (i:Int)=A.length by omega]
  rfl
 | r+1,i,n+1,s,hi,hn,hs=>by
  have e1:=wib (n:=(i:Int)+1) (by omega) (by omega)
  have hx:=ycv [] (show i<A.length by omega)
  have hx2:=hm _ hx
  have hd:A.drop i=A.getD i []::A.drop (i+1):=ydr [] (by omega)
  have ih:=yDQ hl hm (WW:=WW) (WL:=WL) (x0:=x0) (l0:=l0) r (i+1) n (s+(A.getD i []).length) (by omega) (by omega) (by omega)
  rw [ycx]
  dsimp only [lt,Go.Pf.jn]
  rw [cbT (by omega),yeO,asT (by omega),asT (by omega),qAg,ykc (by omega),asD,datD,yc3,hd,ywi,e1,ycR]
  generalize (A.getD i []).length=k at hx2 ih
  have e2:=wib (n:=(s:Int)+(k:Int)) (by omega) (by omega)
  rw [e2,cbF (by omega),← Int.natCast_add,ih]
  congr 2
  omega
def zSp:PV:=.agg [.int .i64 0,.int .i64 0,.int .i64 0,.int .i64 0]
theorem yDR (hl:A.length≤6) {WW WL} {x1:List PV→Nat→List PV→Int→Int→Bool→Prop} :
  ∀ (r i n:Nat) (done:List RS),i+r=A.length→r<n→ybA WW WL x1 n (rsp done++List.replicate (tot (A.drop i)) zSp) done.length (rspL A) (A.length:Int) (i:Int)=x1 (rsp (done++(A.drop i).flatten)) (done++(A.drop i).flatten).length (rspL A) (A.length:Int) (A.length:Int) false
 | 0,i,n+1,done,hi,hn=>by
  rw [ybA,cbF (by omega),qA5 (by omega),show (i:Int)=A.length by omega]
  show x1 (rsp done++[]) _ _ _ _ _=x1 (rsp (done++[])) (done++[]).length _ _ _ _
  rw [qBk,qBk]
 | r+1,i,n+1,done,hi,hn=>by
  have e1:=wib (n:=(i:Int)+1) (by omega) (by omega)
  have hd:A.drop i=A.getD i []::A.drop (i+1):=ydr [] (by omega)
  have ih:=yDR hl (WW:=WW) (WL:=WL) (x1:=x1) r (i+1) n (done++A.getD i []) (by omega) (by omega)
  rw [ybA]
  dsimp only [lt,Go.Pf.jn]
  rw [cbT (by omega),yeO,asT (by omega),asT (by omega),qAg,ykc (by omega),asD,datD,yGI,yaO,hd,ywi,List.flatten_cons,e1,ycR,yc3]
  generalize A.getD i []=a at ih
  have hlen:(rsp done++List.replicate (a.length+tot (A.drop (i+1))) zSp).length=done.length+(a.length+tot (A.drop (i+1))):=by
   rw [qAd,yc3,qA0]
  rw [asT rfl,asT (by rw [hlen];omega)]
  rw [show done++(a++(A.drop (i+1)).flatten)=(done++a)++(A.drop (i+1)).flatten from (qAj ..).symm]
  cases ha:a with
  | nil =>
   rw [ha,qBk] at ih
   show cbr true _ _=_
   rw [yas,asT rfl,qBk,qBp,qBd]
   exact ih
  | cons b t =>
   rw [← ha]
   have hemp:List.isEmpty (rsp a)=false:=by rw [ha];rfl
   have hnew:List.take (0+done.length) (rsp done++List.replicate (a.length+tot (A.drop (i+1))) zSp)++(rsp a++List.drop (0+done.length+a.length) (rsp done++List.replicate (a.length+tot (A.drop (i+1))) zSp))=rsp (done++a)++List.replicate (tot (A.drop (i+1))) zSp:=by
    rw [qBd,← yMx,List.take_append_of_le_length (by rw [yc3];omega),qA2 (by rw [yc3];omega),List.drop_append,qA5 (by rw [yc3];omega),qCb,yc3,show done.length+a.length-done.length=a.length by omega,List.drop_replicate,show a.length+tot (A.drop (i+1))-a.length=tot (A.drop (i+1)) by omega,qAj]
   have hlen2:(rsp (done++a)++List.replicate (tot (A.drop (i+1))) zSp).length=done.length+(a.length+tot (A.drop (i+1))):=by
    rw [qAd,yc3,qAd,qA0];omega
   rw [hemp,yae,asT (by rw [hlen];omega),hnew,asT (by rw [hlen,hlen2])]
   rw [qAd] at ih
   exact ih
theorem yDS {len:Int} {l:List RS} (hs:∀ s∈l,yfz s) (hl:l.length<1000) {l1 l2 l3 l4:List PV} {x0:List PV→List PV→List PV→List PV→List PV→Int→Int→Nat→Int→Int→Bool→Prop} {x1:List PV→Bool→Prop} {K:Bool→Prop}
  (h0:∀ q:Rat,small q→x0 (rsp l) l1 l2 l3 l4 q.num q.den l.length (l.length:Int) (l.length:Int) false=K (decide (q<(len:Rat)))) (h1:x1 (rsp l) true=K true) :
  ∀ (r i n:Nat) (q:Rat),i+r=l.length→r<n→small q→ycz yaJ yan x0 x1 n (rsp l) l1 l2 l3 l4 q.num q.den l.length (l.length:Int) (i:Int)=K (gapS (len:Rat) (l.drop i) q)
 | 0,i,n+1,q,hi,hn,hq=>by
  rw [ycz,cbF (by omega),qA5 (by omega),show (i:Int)=l.length by omega,h0 q hq]
  rfl
 | r+1,i,n+1,q,hi,hn,hq=>by
  have e1:=wib (n:=(i:Int)+1) (by omega) (by omega)
  have hd:l.drop i=l.getD i default::l.drop (i+1):=ydr default (by omega)
  have hx:=yt8 hs (show i<l.length by omega)
  have ih:=fun q hq=>yDS hs hl h0 h1 r (i+1) n q (by omega) (by omega) hq
  rw [ycz]
  dsimp only [lt,Go.Pf.jn]
  rw [cbT (by omega),asT (by omega),asT (by omega),yc3,asT rfl,qAg,qBd,asT (by omega),yqT (by omega),asR,yDL,yI0,yDM,yDN,yjv hq hx.1,hd,e1,ycR]
  generalize l.getD i default=t at hx
  unfold gapS
  by_cases hlt:q<t.1
  ·rw [decide_eq_true hlt,yas,if_pos hlt]
   exact h1
  ·rw [decide_eq_false hlt,yae,if_neg hlt,yjv hq hx.2]
   by_cases hlt2:q<t.2
   ·rw [decide_eq_true hlt2,yas,asT rfl,if_pos hlt2]
    exact ih t.2 hx.2
   ·rw [decide_eq_false hlt2,yae,asT rfl,if_neg hlt2]
    exact ih q hq
theorem yBX (hl:A.length≤6) (hz:∀ a∈A,a=[]) {WW WL} {x0:List PV→Int→Int→Bool→Prop} {x1:List PV→Nat→List PV→Int→Int→Bool→Prop} :
  ∀ (r i n:Nat),i+r=A.length→r<n→ycy WW WL x0 x1 n (rspL A) (A.length:Int) (i:Int)=x0 (rspL A) (A.length:Int) (A.length:Int) false
 | 0,i,n+1,hi,hn=>by
  rw [ycy,cbF (by omega),show (i:Int)=A.length by omega]
 | r+1,i,n+1,hi,hn=>by
  have e1:=wib (n:=(i:Int)+1) (by omega) (by omega)
  have hx:=hz _ (ycv [] (show i<A.length by omega))
  rw [ycy]
  dsimp only [lt,Go.Pf.jn]
  rw [cbT (by omega),yeO,asT (by omega),asT (by omega),qAg,ykc (by omega),asD,datD,hx,yGI,yaO,e1,ycR]
  show cbr true _ _=_
  rw [yas]
  exact yBX hl hz r (i+1) n (by omega) (by omega)
theorem yLG (hl:A.length≤6) {WW WL} (x1:List PV→Nat→List PV→Int→Int→Bool→Prop):ybA WW WL x1 (A.length+1) (List.replicate (tot A) zSp) 0 (rspL A) (A.length:Int) 0=x1 (rsp A.flatten) A.flatten.length (rspL A) (A.length:Int) (A.length:Int) false:=by
 have hg:=yDR (A:=A) hl (WW:=WW) (WL:=WL) (x1:=x1) A.length 0 (A.length+1) [] (by omega) (by omega)
 rw [qBi,qCb] at hg
 exact hg
theorem DV.tot120 (h:DV cs A):tot A≤120:=by
 have h1:=yLF h.m
 have h2:=h.l;have h3:=h.d.n6
 have:A.length*20≤6*20:=qAl _ (by omega)
 omega
theorem DV.flatS (h:DV cs A):∀ s∈A.flatten,yfz s:=fun s hs=>by
 obtain ⟨a,ha,hs⟩:=List.mem_flatten.1 hs
 exact (h.p a ha).s s hs
theorem DV.flatV (h:DV cs A):∀ s∈A.flatten,s.1<s.2:=fun s hs=>by
 obtain ⟨a,ha,hs⟩:=List.mem_flatten.1 hs
 exact ynF (h.p a ha).c s hs
theorem DV.gap (h:DV cs A) (W PT:List PV):∃ l:List RS,l.Perm A.flatten∧yBR l∧∀ K,yag (cks cs) (rspL A) W PT K=K (gapS ((cs.getD 0 default).len:Rat) l 0):=by
 have h6:=h.d.n6;have h1:=h.d.n0;have hl:=h.l;have l0:=h.len0;have ht:=h.tot120
 have hfS:=h.flatS
 have hfV:=h.flatV
 obtain ⟨m,p1,p2,p3⟩:=yJ7 ybM yc5 (l:=A.flatten.map spOf) (fun s hs=>by
  obtain ⟨r,hr,rfl⟩:=qBx.1 hs
  exact yzE (hfS r hr) (hfV r hr))
 have hm:∀ s∈m,s.ok:=fun s hs=>by
  obtain ⟨r,hr,rfl⟩:=qBx.1 (p1.mem_iff.1 hs)
  exact yzE (hfS r hr) (hfV r hr)
 have hp:(rsL m).Perm A.flatten:=by
  have:=p1.map Sp.rs
  rw [List.map_map] at this
  have e:A.flatten.map (Sp.rs ∘ spOf)=A.flatten:=by
   conv=>rhs;rw [← List.map_id A.flatten]
   exact List.map_congr_left fun r hr=>yI1 (hfS r hr)
  rw [e] at this
  exact this
 have hb:yBR (rsL m):=yDO (List.pairwise_map.2 p2)
 refine ⟨rsL m,hp,hb,fun K=>?_⟩
 refine yrI _ _ _ _ _ (fun K k=>?_) K
 have sl:small ((cs.getD 0 default).len:Rat):=yiS (by omega)
 have hfl:=yGL A
 have hend:∀ (q:Rat),small q→asr (decide ((0:Int)<(((cks cs).length:Nat):Int))) (asr (conf zK (List.getD (cks cs) 0 .nils)) (yaJ (yaa (yab (List.getD (cks cs) 0 .nils) 0)) fun a b=>yan q.num q.den a b fun b=>K b))=K (decide (q<((cs.getD 0 default).len:Rat))):=fun q hq=>by
  rw [ya8,asT (by omega),yej (by omega),asCk,ck0,ykl,yjv hq sl]
 unfold yag yhj
 dsimp only [Go.Pf.jn,lt]
 refine ⟨A.length+1,?_⟩
 rw [yeO]
 refine (yDQ (by omega) h.m A.length 0 (A.length+1) 0 (by omega) (by omega) (by omega)).mpr ?_
 rw [qBi,qBd,cbF (by omega)]
 have e2:=wib (n:=((tot A:Nat):Int)-0) (by omega) (by omega)
 rw [e2,show ((tot A:Nat):Int)-0=((tot A:Nat):Int) by omega]
 by_cases hz:tot A=0
 ·have hze:∀ a∈A,a=[]:=fun a ha=>by
   have hfe:=qAp (hfl.trans hz)
   exact List.flatten_eq_nil_iff.1 hfe a ha
  have hml:rsL m=[]:=qAp (by rw [hp.length_eq,hfl,hz])
  rw [hml] at k
  rw [cbF (by omega)]
  refine ⟨A.length+1,?_⟩
  rw [yeO]
  refine (yBX (by omega) hze A.length 0 (A.length+1) (by omega) (by omega)).mpr ?_
  rw [ykl]
  refine ⟨1,?_⟩
  rw [yfR,cbF (by omega)]
  exact (hend 0 yBT).mpr k
 ·rw [cbT (by omega),asT (by omega),qAg,cbF (by omega),qA0,asT (by unfold room;omega)]
  have hor:(decide ((0:Int)≤((tot A:Nat):Int))||decide ((0:Int)≤((tot A:Nat):Int)))=true:=by rw [decide_eq_true (by omega)];rfl
  rw [hor,yaO,asT rfl]
  refine ⟨A.length+1,?_⟩
  rw [yeO]
  refine (yLG (by omega) _).mpr ?_
  have hcond:Srt.cond ypg.s (rsp A.flatten) 0 A.flatten.length (rsp A.flatten).length 4 false=true:=by
   obtain ⟨d,hd⟩:∃ d,(ypg).s.rows? (rsp A.flatten)=some d:=yxT fun y hy=>by
    obtain ⟨s,h4,rfl⟩:=qBx.1 hy
    obtain ⟨q,hq,rfl⟩:=qBx.1 h4
    exact yLu _ _ (yzE (hfS q hq) (hfV q hq))
   unfold Srt.cond
   rw [qBi,show List.take A.flatten.length (rsp A.flatten)=rsp A.flatten by rw [← yc3,List.take_length],hd,yc3]
   simp only [decide_true,qBm,qB8,Option.isSome_some,Bool.and_true,qAe,decide_eq_true_eq,qBd,qAk]
   exact ⟨by omega,rfl,by omega⟩
  rw [hcond,yaO,ykl]
  have hsrt:Srt.sorted ypg.s ypg.srt (rsp A.flatten)=rsp (rsL m):=by
   rw [show rsp A.flatten=yfG (A.flatten.map spOf) from rfl,← yJ8 hm]
   exact p3
  have hlm:(rsL m).length=A.flatten.length:=hp.length_eq
  have htk:List.take A.flatten.length (rsp A.flatten)=rsp A.flatten:=by rw [← yc3,List.take_length]
  have hdp:List.drop A.flatten.length (rsp A.flatten)=[]:=by rw [← yc3,List.drop_length]
  rw [List.take_zero,qBi,htk,hsrt,qCb,qBd,hdp,qBk,yc3,yc3,asT (by rw [hlm]),← hlm]
  refine ⟨(rsL m).length+1,?_⟩
  have hms:∀ s∈rsL m,yfz s:=fun s hs=>hfS s (hp.mem_iff.1 hs)
  have h2:=yDS (len:=(cs.getD 0 default).len) (l:=rsL m) hms (by omega) (l1:=cks cs) (l2:=rspL A) (l3:=W) (l4:=PT) (K:=K)
   (x0:=fun _ l _ _ _ a b _ _ _ _=>asr (decide ((0:Int)<(((List.length l):Nat):Int))) (asr (conf zK (List.getD l 0 .nils)) (yaJ (yaa (yab (List.getD l 0 .nils) 0)) fun c d=>yan a b c d fun b=>K b))) (x1:=fun _ b=>K b)
   (fun q hq=>hend q hq) rfl (rsL m).length 0 ((rsL m).length+1) 0 (by omega) (by omega) yBT
  refine h2.mpr ?_
  rw [qBi]
  exact k
end
theorem yME {x d:Int} (h0:0≤x) (h1:x≤1000000000000000000) (d0:1≤d) (d1:d≤1000000000000000000):small ((x:Rat) / (d:Rat)):=by
 have hd:(d:Rat)≠0:=by
  have:(0:Rat)<(d:Rat):=qB0.2 (by omega)
  grind
 generalize hq:(x:Rat) / (d:Rat)=q
 have e1:(q.num:Rat)*(d:Rat)=(x:Rat)*(q.den:Rat):=by
  have h2:(q.den:Rat)≠0:=by
   have:(0:Rat)<(q.den:Rat):=Rat.natCast_pos.2 q.den_pos
   grind
  have h3:q=(q.num:Rat) / (q.den:Rat):=by rw [← Rat.mkRat_eq_div,Rat.mkRat_self]
  have h4:q*(q.den:Rat)=(q.num:Rat):=by
   have:(q.num:Rat) / (q.den:Rat)*(q.den:Rat)=(q.num:Rat):=Rat.div_mul_cancel h2
   rw [← h3] at this
   exact this
  have h5:q*(d:Rat)=(x:Rat):=by rw [← hq];exact Rat.div_mul_cancel hd
  grind
 have e2:q.num*d=x*(q.den:Int):=by
  rw [show (q.den:Rat)=(((q.den:Nat):Int):Rat) from (Rat.intCast_natCast _).symm,← Rat.intCast_mul,← Rat.intCast_mul] at e1
  exact Rat.intCast_inj.1 e1
 have hp:=q.den_pos
 have n0:0≤q.num:=by
  refine Int.not_lt.1 fun h=>?_
  have a1:q.num*d<0:=Int.mul_neg_of_neg_of_pos h (by omega)
  have a2:0≤x*(q.den:Int):=qBc h0 (by omega)
  omega
 have hdv:q.den∣d.natAbs:=by
  have hc:Nat.Coprime q.den q.num.natAbs:=q.reduced.symm
  refine hc.dvd_of_dvd_mul_left (m:=q.num.natAbs) ?_
  have:(q.num*d).natAbs=(x*(q.den:Int)).natAbs:=by rw [e2]
  rw [Int.natAbs_mul,Int.natAbs_mul,Int.natAbs_natCast] at this
  rw [this]
  exact Nat.dvd_mul_left ..
 obtain ⟨t,ht⟩:=hdv
 have hd2:d=(q.den:Int)*(t:Int):=by
  rw [← Int.natCast_mul,← ht];omega
 have t1:1≤t:=by
  rcases Nat.eq_zero_or_pos t with h | h
  ·rw [h] at hd2;omega
  ·exact h
 have e3:q.num*(t:Int)=x:=by
  have:(q.num*(t:Int))*(q.den:Int)=x*(q.den:Int):=by rw [← e2,hd2,Int.mul_assoc,Int.mul_comm (t:Int)]
  exact Int.eq_of_mul_eq_mul_right (by omega) this
 have e4:q.num≤q.num*(t:Int):=by
  have:=qB6 (show (1:Int)≤(t:Int) by omega) n0
  omega
 have e5:(q.den:Int)≤(q.den:Int)*(t:Int):=by
  have:=qB6 (show (1:Int)≤(t:Int) by omega) (show (0:Int)≤(q.den:Int) by omega)
  omega
 exact ⟨by omega,by omega,by omega⟩
def ypd (f:Nat→Bool):Nat→Nat→Option Nat
 | 0,_=>none
 | r+1,i=>if f i then some i else ypd f r (i+1)
def ycG (f:Nat→Nat→Bool) (n:Nat):Nat→Nat→Option (Nat×Nat)
 | 0,_=>none
 | r+1,i=>match ypd (f i) n 0 with
  | some j=>some (i,j)
  | none=>ycG f n r (i+1)
theorem ynG (cs:List Ck) (A:List (List RS)):(tabW cs A).length=cs.length:=qAf ..
theorem ywj {cs:List Ck} {A:List (List RS)} {i:Nat} (h:i<cs.length):List.getD (tabW cs A) i .nils=.data (rts (A.map (wV (cs.getD i default)))):=by
 unfold tabW
 rw [qAa,qAa,qAz,qAb h]
 rfl
theorem ywk {c:Ck} {A:List (List RS)} {i:Nat} (h:i<A.length):(A.map (wV c)).getD i 0=wV c (A.getD i []):=by
 rw [qAa,qAa,qAz,qAb h]
 rfl
def wr0 (A:List (List RS)) (a b:Nat):Bool:=decide (a<b)&&yqV (A.getD a []) (A.getD b [])
def yt9 (cs:List Ck) (a:Nat):Rat:=((totC (cs.getD a default).cuts (cs.getD a default).dens:Int):Rat) / ((cs.length:Int):Rat)
def wr1 (cs:List Ck) (A:List (List RS)) (a b:Nat):Bool:=decide (a=b)&&decide (wV (cs.getD a default) (A.getD a [])<yt9 cs a)
def wr2 (cs:List Ck) (A:List (List RS)) (a b:Nat):Bool:=decide (wV (cs.getD a default) (A.getD a [])<wV (cs.getD a default) (A.getD b []))
def wr3 (P:List Rat) (a b:Nat):Bool:=decide (b=0)&&!decide (P.getD a 0=P.getD 0 0)
def wr4 (A:List (List RS)) (a b:Nat):Bool:=decide (a=b)&&decide ((A.getD a []).length≠1)
section
variable {cs:List Ck} {A:List (List RS)}
theorem DV.small (h:DV cs A) (hw:∀ c∈cs,∀ a∈A,small (wV c a)) {i j:Nat} (hi:i<cs.length) (hj:j<cs.length):Go.Pf.Vc.small (wV (cs.getD i default) (A.getD j [])) :=
 hw _ (ycv _ hi) _ (ycv _ (by rw [h.l];exact hj))
theorem yFp (a b:Nat):(((a:Int)) ==(b:Int))=decide (a=b):=by
 rw [Bool.eq_iff_iff,beq_iff_eq,decide_eq_true_eq];omega
theorem yGM {c:Ck} {n:Nat} (hc:c.ok) (h1:1≤n) (h6:n≤6):small (((totC c.cuts c.dens:Int):Rat) / ((n:Int):Rat)):=by
 have:=yiT hc
 exact yME (by omega) (by omega) (by omega) (by omega)
theorem yOi (h:DV cs A) {l2 l3 l4 l5 l6 l7:List PV} {i9 i10:Int} {x0:List PV→List PV→List PV→List PV→List PV→List PV→List PV→List PV→Int→Int→Int→Int→Int→Bool→Prop} {x1:List PV→List PV→List PV→List PV→Int→Int→Bool→Prop} {a j n:Nat} (ha:a<cs.length) (hj:j<cs.length) :
 yba yav yag yaj yap yan x0 x1 (n+1) (cks cs) (rspL A) l2 l3 l4 l5 l6 l7 (a:Int) i9 i10 (cs.length:Int) (j:Int)=cbr (wr0 A a j) (x1 (cks cs) (rspL A) l2 l3 (a:Int) (j:Int) true) (yba yav yag yaj yap yan x0 x1 n (cks cs) (rspL A) l2 l3 l4 l5 l6 l7 (a:Int) i9 i10 (cs.length:Int) ((j+1:Nat):Int)):=by
 have h6:=h.d.n6;have h1:=h.d.n0;have hl:=h.l
 have e1:=wib (n:=(j:Int)+1) (by omega) (by omega)
 rw [yba,cbT (by omega)]
 dsimp only [lt,Go.Pf.jn]
 have ja:=h.p _ (ycv [] (show a<A.length by omega))
 have jb:=h.p _ (ycv [] (show j<A.length by omega))
 have na:=ja.n
 have nb:=jb.n
 unfold wr0
 by_cases hlt:a<j
 ·rw [decide_eq_true hlt,cbT (by omega),yeO,asT (by omega),asT (by omega),qAg,ykc (by omega),asD,asT (by omega),asT (by omega),qAg,ykc (by omega),asD,datD,datD,yLE ja.s jb.s (by omega) (by omega),qBm,e1,ycR]
 ·rw [decide_eq_false hlt,cbF (by omega),qBs,e1,ycR]
theorem yOj (h:DV cs A) (hw:∀ c∈cs,∀ a∈A,small (wV c a)) {l3 l4 l5 l6 l7:List PV} {i9 i10:Int} {x0:List PV→List PV→List PV→List PV→List PV→List PV→List PV→List PV→Int→Int→Int→Int→Int→Bool→Prop} {x1:List PV→List PV→List PV→List PV→Int→Int→Bool→Prop} {a j n:Nat} (ha:a<cs.length) (hj:j<cs.length) :
 ybb yav yag yaj yap yan x1 x0 (n+1) (cks cs) (rspL A) (tabW cs A) l3 l4 l5 l6 l7 (a:Int) i9 i10 (cs.length:Int) (j:Int)=cbr (wr1 cs A a j) (x1 (cks cs) (rspL A) (tabW cs A) l3 (a:Int) (j:Int) true) (ybb yav yag yaj yap yan x1 x0 n (cks cs) (rspL A) (tabW cs A) l3 l4 l5 l6 l7 (a:Int) i9 i10 (cs.length:Int) ((j+1:Nat):Int)):=by
 have h6:=h.d.n6;have h1:=h.d.n0;have hl:=h.l
 have e1:=wib (n:=(j:Int)+1) (by omega) (by omega)
 rw [ybb,cbT (by omega)]
 dsimp only [lt,Go.Pf.jn]
 have hok:=(h.d.ok a ha)
 have l1:=hok.l1;have l2:=hok.l2
 have hto:=yiT hok
 have hT:I64 (totC (cs.getD a default).cuts (cs.getD a default).dens):=by constructor <;> omega
 have hN:I64 (cs.length:Int):=by constructor <;> omega
 have hss:small (yt9 cs a):=yGM hok h1 h6
 rw [asT (by omega),ya8,asT (by omega),qAg,yej ha,asCk,ck0,ck1,ck2,yxQ (by omega) (by omega),if_pos hok.ck,yGC hT hN (by omega)]
 unfold yt9 at hss
 unfold fitK
 rw [if_pos hss]
 dsimp only
 rw [yFp,e1,ycR]
 unfold wr1 yt9
 by_cases hab:a=j
 ·rw [decide_eq_true hab,yas,asT (by omega),ynG,asT (by omega),ywj ha,asD,asT (by omega),datD,ymc,qAf,asT (by omega),yqU (by rw [qAf];omega),asW,yyw,yyx,ywk (by omega),qBm]
  rw [yjv (h.small hw ha ha) hss]
 ·rw [decide_eq_false hab,yae,qBs]
theorem yOk (h:DV cs A) (hw:∀ c∈cs,∀ a∈A,small (wV c a)) {l3 l4 l5 l6 l7:List PV} {i9 i10:Int} {x0:List PV→List PV→List PV→List PV→List PV→List PV→List PV→List PV→Int→Int→Int→Int→Int→Bool→Prop} {x1:List PV→List PV→List PV→List PV→Int→Int→Bool→Prop} {a j n:Nat} (ha:a<cs.length) (hj:j<cs.length) :
 ybc yav yag yaj yap yan x1 x0 (n+1) (cks cs) (rspL A) (tabW cs A) l3 l4 l5 l6 l7 (a:Int) i9 i10 (cs.length:Int) (j:Int)=cbr (wr2 cs A a j) (x1 (cks cs) (rspL A) (tabW cs A) l3 (a:Int) (j:Int) true) (ybc yav yag yaj yap yan x1 x0 n (cks cs) (rspL A) (tabW cs A) l3 l4 l5 l6 l7 (a:Int) i9 i10 (cs.length:Int) ((j+1:Nat):Int)):=by
 have h6:=h.d.n6;have h1:=h.d.n0;have hl:=h.l
 have e1:=wib (n:=(j:Int)+1) (by omega) (by omega)
 rw [ybc,cbT (by omega)]
 dsimp only [lt,Go.Pf.jn]
 unfold wr2
 rw [asT (by omega),ynG,asT (by omega),qAg,ywj ha,asD,asT (by omega),datD,ymc,qAf,asT (by omega),yqU (by rw [qAf];omega),asW,asT (by omega),asT (by omega),asT (by omega),asT (by omega),qAg,yqU (by rw [qAf];omega),asW,yyw,yyx,yyw,yyx,ywk (by omega),ywk (by omega),yjv (h.small hw ha ha) (h.small hw ha hj),e1,ycR,asD]
theorem yOl (h:DV cs A) {P:List Rat} (hP:P.length=cs.length) {l2 l4 l5 l6 l7:List PV} {i9 i10:Int} {x0:List PV→List PV→List PV→List PV→List PV→List PV→List PV→List PV→Int→Int→Int→Int→Int→Bool→Prop} {x1:List PV→List PV→List PV→List PV→Int→Int→Bool→Prop} {a j n:Nat} (ha:a<cs.length) (hj:j<cs.length) :
 ybd yav yag yaj yap yan x1 x0 (n+1) (cks cs) (rspL A) l2 (rts P) l4 l5 l6 l7 (a:Int) i9 i10 (cs.length:Int) (j:Int)=cbr (wr3 P a j) (x1 (cks cs) (rspL A) l2 (rts P) (a:Int) (j:Int) true) (ybd yav yag yaj yap yan x1 x0 n (cks cs) (rspL A) l2 (rts P) l4 l5 l6 l7 (a:Int) i9 i10 (cs.length:Int) ((j+1:Nat):Int)):=by
 have h6:=h.d.n6;have h1:=h.d.n0;have hl:=h.l
 have e1:=wib (n:=(j:Int)+1) (by omega) (by omega)
 rw [ybd,cbT (by omega)]
 dsimp only [lt,Go.Pf.jn]
 unfold wr3
 rw [show ((j:Int) ==(0:Int))=decide (j=0) from yFp j 0,e1,ycR]
 by_cases hab:j=0
 ·rw [decide_eq_true hab,yas,asT (by omega),ymc,asT (by omega),qAg,yqU (by omega),asW,asT (by omega),yqU (by omega),asW,yyw,yyx,yyw,yyx,yN8,qBm]
 ·rw [decide_eq_false hab,yae,qBs]
theorem yOm (h:DV cs A) {l2 l3 l4 l5 l6 l7:List PV} {i9 i10:Int} {x0:List PV→List PV→List PV→List PV→List PV→List PV→List PV→List PV→Int→Int→Int→Int→Int→Bool→Prop} {x1:List PV→List PV→List PV→List PV→Int→Int→Bool→Prop} {a j n:Nat} (_:a<cs.length) (hj:j<cs.length) :
 ybe yav yag yaj yap yan x1 x0 (n+1) (cks cs) (rspL A) l2 l3 l4 l5 l6 l7 (a:Int) i9 i10 (cs.length:Int) (j:Int)=cbr (wr4 A a j) (x1 (cks cs) (rspL A) l2 l3 (a:Int) (j:Int) true) (ybe yav yag yaj yap yan x1 x0 n (cks cs) (rspL A) l2 l3 l4 l5 l6 l7 (a:Int) i9 i10 (cs.length:Int) ((j+1:Nat):Int)):=by
 have h6:=h.d.n6;have h1:=h.d.n0;have hl:=h.l
 have e1:=wib (n:=(j:Int)+1) (by omega) (by omega)
 rw [ybe,cbT (by omega)]
 dsimp only [lt,Go.Pf.jn]
 unfold wr4
 rw [yFp,e1,ycR]
 by_cases hab:a=j
 ·have hne:((((A.getD a []).length:Nat):Int) !=(1:Int))=decide ((A.getD a []).length≠1):=by
   rw [Bool.eq_iff_iff,bne_iff_ne,decide_eq_true_eq];omega
  rw [decide_eq_true hab,yas,asT (by omega),yeO,asT (by omega),qAg,ykc (by omega),asD,datD,yc3,hne,qBm]
 ·rw [decide_eq_false hab,yae,qBs]
end
def onB (X:Nat→Prop) (Y:Prop):Option Nat→Prop
 | some j=>X j
 | none=>Y
def onA (X:Nat→Nat→Prop) (Y:Prop):Option (Nat×Nat)→Prop
 | some (a,b)=>X a b
 | none=>Y
theorem yri {f:Nat→Bool} {N:Nat} {L:Nat→Nat→Prop} {X:Nat→Prop} {Y:Prop} (hs:∀ n j,j<N→L (n+1) j=cbr (f j) (X j) (L n (j+1))) (he:∀ n,L (n+1) N=Y) :
  ∀ (r j n:Nat),j+r=N→r<n→L n j=onB X Y (ypd f r j)
 | 0,j,n+1,hj,_=>by
  obtain rfl:j=N:=by omega
  rw [he];rfl
 | r+1,j,n+1,hj,hn=>by
  rw [hs n j (by omega),ypd]
  cases f j with
  | true=>rw [yas];rfl
  | false=>rw [yae];exact yri hs he r (j+1) n (by omega) (by omega)
theorem ynH {f:Nat→Nat→Bool} {N:Nat} {L:Nat→Nat→Prop} {X:Nat→Nat→Prop} {Y:Prop} (hs:∀ n a,a<N→onB (X a) (L n (a+1)) (ypd (f a) N 0)→L (n+1) a) (he:∀ n,Y→L (n+1) N) :
  ∀ (r a n:Nat),a+r=N→r<n→onA X Y (ycG f N r a)→L n a
 | 0,a,n+1,ha,_,h=>by
  obtain rfl:a=N:=by omega
  exact he n h
 | r+1,a,n+1,ha,hn,h=>by
  refine hs n a (by omega) ?_
  rw [ycG] at h
  cases hb:ypd (f a) N 0 with
  | some j=>rw [hb] at h;exact h
  | none=>rw [hb] at h;exact ynH hs he r (a+1) n (by omega) (by omega) h
section
variable {cs:List Ck} {A:List (List RS)}
theorem yOn (h:DV cs A) {l2 l3:List PV} {x0:List PV→List PV→List PV→List PV→List PV→List PV→List PV→List PV→Int→Int→Bool→Prop} {x1:List PV→List PV→List PV→List PV→Int→Int→Bool→Prop} :
  ∀ (r a n:Nat),a+r=cs.length→r<n→onA (fun a b=>x1 (cks cs) (rspL A) l2 l3 (a:Int) (b:Int) true) (x0 (cks cs) (rspL A) l2 l3 (cks cs) (rspL A) l2 l3 (cs.length:Int) (cs.length:Int) false) (ycG (wr0 A) cs.length r a)→ybf yav yag yaj yap yan x0 x1 n (cks cs) (rspL A) l2 l3 (cks cs) (rspL A) l2 l3 (cs.length:Int) (a:Int):=by
 have h6:=h.d.n6
 refine ynH (L:=fun n a=>ybf yav yag yaj yap yan x0 x1 n (cks cs) (rspL A) l2 l3 (cks cs) (rspL A) l2 l3 (cs.length:Int) (a:Int)) (fun n a ha hb=>?_) (fun n hy=>?_)
 ·have e1:=wib (n:=(a:Int)+1) (by omega) (by omega)
  show ybf yav yag yaj yap yan x0 x1 (n+1) (cks cs) (rspL A) l2 l3 (cks cs) (rspL A) l2 l3 (cs.length:Int) (a:Int)
  rw [ybf,cbT (by omega),ya8]
  dsimp only [lt,Go.Pf.jn]
  refine ⟨cs.length+1,?_⟩
  refine (yri (f:=(wr0 A) a) (N:=cs.length) (L:=fun n j=>yba yav yag yaj yap yan _ _ n (cks cs) (rspL A) l2 l3 (cks cs) (rspL A) l2 l3 (a:Int) (cs.length:Int) (a:Int) (cs.length:Int) (j:Int)) (fun n j hj=>yOi h ha hj) (fun n=>?_) cs.length 0 (cs.length+1) (by omega) (by omega)).mpr hb
  show yba yav yag yaj yap yan _ _ (n+1) (cks cs) (rspL A) l2 l3 (cks cs) (rspL A) l2 l3 (a:Int) (cs.length:Int) (a:Int) (cs.length:Int) (cs.length:Int)=_
  rw [yba,cbF (by omega),e1,ycR]
 ·show ybf yav yag yaj yap yan x0 x1 (n+1) (cks cs) (rspL A) l2 l3 (cks cs) (rspL A) l2 l3 (cs.length:Int) (cs.length:Int)
  rw [ybf,cbF (by omega)]
  exact hy
theorem yOo (h:DV cs A) (hw:∀ c∈cs,∀ a∈A,small (wV c a)) {l3:List PV} {x0:List PV→List PV→List PV→List PV→List PV→List PV→List PV→List PV→Int→Int→Bool→Prop} {x1:List PV→List PV→List PV→List PV→Int→Int→Bool→Prop} :
  ∀ (r a n:Nat),a+r=cs.length→r<n→onA (fun a b=>x1 (cks cs) (rspL A) (tabW cs A) l3 (a:Int) (b:Int) true) (x0 (cks cs) (rspL A) (tabW cs A) l3 (cks cs) (rspL A) (tabW cs A) l3 (cs.length:Int) (cs.length:Int) false) (ycG (wr1 cs A) cs.length r a)→ybg yav yag yaj yap yan x1 x0 n (cks cs) (rspL A) (tabW cs A) l3 (cks cs) (rspL A) (tabW cs A) l3 (cs.length:Int) (a:Int):=by
 have h6:=h.d.n6
 refine ynH (L:=fun n a=>ybg yav yag yaj yap yan x1 x0 n (cks cs) (rspL A) (tabW cs A) l3 (cks cs) (rspL A) (tabW cs A) l3 (cs.length:Int) (a:Int)) (fun n a ha hb=>?_) (fun n hy=>?_)
 ·have e1:=wib (n:=(a:Int)+1) (by omega) (by omega)
  show ybg yav yag yaj yap yan x1 x0 (n+1) (cks cs) (rspL A) (tabW cs A) l3 (cks cs) (rspL A) (tabW cs A) l3 (cs.length:Int) (a:Int)
  rw [ybg,cbT (by omega),ya8]
  dsimp only [lt,Go.Pf.jn]
  refine ⟨cs.length+1,?_⟩
  refine (yri (f:=(wr1 cs A) a) (N:=cs.length) (L:=fun n j=>ybb yav yag yaj yap yan _ _ n (cks cs) (rspL A) (tabW cs A) l3 (cks cs) (rspL A) (tabW cs A) l3 (a:Int) (cs.length:Int) (a:Int) (cs.length:Int) (j:Int)) (fun n j hj=>yOj h hw ha hj) (fun n=>?_) cs.length 0 (cs.length+1) (by omega) (by omega)).mpr hb
  show ybb yav yag yaj yap yan _ _ (n+1) (cks cs) (rspL A) (tabW cs A) l3 (cks cs) (rspL A) (tabW cs A) l3 (a:Int) (cs.length:Int) (a:Int) (cs.length:Int) (cs.length:Int)=_
  rw [ybb,cbF (by omega),e1,ycR]
 ·show ybg yav yag yaj yap yan x1 x0 (n+1) (cks cs) (rspL A) (tabW cs A) l3 (cks cs) (rspL A) (tabW cs A) l3 (cs.length:Int) (cs.length:Int)
  rw [ybg,cbF (by omega)]
  exact hy
theorem yOp (h:DV cs A) (hw:∀ c∈cs,∀ a∈A,small (wV c a)) {l3:List PV} {x0:List PV→List PV→List PV→List PV→List PV→List PV→List PV→List PV→Int→Int→Bool→Prop} {x1:List PV→List PV→List PV→List PV→Int→Int→Bool→Prop} :
  ∀ (r a n:Nat),a+r=cs.length→r<n→onA (fun a b=>x1 (cks cs) (rspL A) (tabW cs A) l3 (a:Int) (b:Int) true) (x0 (cks cs) (rspL A) (tabW cs A) l3 (cks cs) (rspL A) (tabW cs A) l3 (cs.length:Int) (cs.length:Int) false) (ycG (wr2 cs A) cs.length r a)→ybh yav yag yaj yap yan x1 x0 n (cks cs) (rspL A) (tabW cs A) l3 (cks cs) (rspL A) (tabW cs A) l3 (cs.length:Int) (a:Int):=by
 have h6:=h.d.n6
 refine ynH (L:=fun n a=>ybh yav yag yaj yap yan x1 x0 n (cks cs) (rspL A) (tabW cs A) l3 (cks cs) (rspL A) (tabW cs A) l3 (cs.length:Int) (a:Int)) (fun n a ha hb=>?_) (fun n hy=>?_)
 ·have e1:=wib (n:=(a:Int)+1) (by omega) (by omega)
  show ybh yav yag yaj yap yan x1 x0 (n+1) (cks cs) (rspL A) (tabW cs A) l3 (cks cs) (rspL A) (tabW cs A) l3 (cs.length:Int) (a:Int)
  rw [ybh,cbT (by omega),ya8]
  dsimp only [lt,Go.Pf.jn]
  refine ⟨cs.length+1,?_⟩
  refine (yri (f:=(wr2 cs A) a) (N:=cs.length) (L:=fun n j=>ybc yav yag yaj yap yan _ _ n (cks cs) (rspL A) (tabW cs A) l3 (cks cs) (rspL A) (tabW cs A) l3 (a:Int) (cs.length:Int) (a:Int) (cs.length:Int) (j:Int)) (fun n j hj=>yOk h hw ha hj) (fun n=>?_) cs.length 0 (cs.length+1) (by omega) (by omega)).mpr hb
  show ybc yav yag yaj yap yan _ _ (n+1) (cks cs) (rspL A) (tabW cs A) l3 (cks cs) (rspL A) (tabW cs A) l3 (a:Int) (cs.length:Int) (a:Int) (cs.length:Int) (cs.length:Int)=_
  rw [ybc,cbF (by omega),e1,ycR]
 ·show ybh yav yag yaj yap yan x1 x0 (n+1) (cks cs) (rspL A) (tabW cs A) l3 (cks cs) (rspL A) (tabW cs A) l3 (cs.length:Int) (cs.length:Int)
  rw [ybh,cbF (by omega)]
  exact hy
theorem yOq (h:DV cs A) {P:List Rat} (hP:P.length=cs.length) {l2:List PV} {x0:List PV→List PV→List PV→List PV→List PV→List PV→List PV→List PV→Int→Int→Bool→Prop} {x1:List PV→List PV→List PV→List PV→Int→Int→Bool→Prop} :
  ∀ (r a n:Nat),a+r=cs.length→r<n→onA (fun a b=>x1 (cks cs) (rspL A) l2 (rts P) (a:Int) (b:Int) true) (x0 (cks cs) (rspL A) l2 (rts P) (cks cs) (rspL A) l2 (rts P) (cs.length:Int) (cs.length:Int) false) (ycG (wr3 P) cs.length r a)→ybi yav yag yaj yap yan x1 x0 n (cks cs) (rspL A) l2 (rts P) (cks cs) (rspL A) l2 (rts P) (cs.length:Int) (a:Int):=by
 have h6:=h.d.n6
 refine ynH (L:=fun n a=>ybi yav yag yaj yap yan x1 x0 n (cks cs) (rspL A) l2 (rts P) (cks cs) (rspL A) l2 (rts P) (cs.length:Int) (a:Int)) (fun n a ha hb=>?_) (fun n hy=>?_)
 ·have e1:=wib (n:=(a:Int)+1) (by omega) (by omega)
  show ybi yav yag yaj yap yan x1 x0 (n+1) (cks cs) (rspL A) l2 (rts P) (cks cs) (rspL A) l2 (rts P) (cs.length:Int) (a:Int)
  rw [ybi,cbT (by omega),ya8]
  dsimp only [lt,Go.Pf.jn]
  refine ⟨cs.length+1,?_⟩
  refine (yri (f:=(wr3 P) a) (N:=cs.length) (L:=fun n j=>ybd yav yag yaj yap yan _ _ n (cks cs) (rspL A) l2 (rts P) (cks cs) (rspL A) l2 (rts P) (a:Int) (cs.length:Int) (a:Int) (cs.length:Int) (j:Int)) (fun n j hj=>yOl h hP ha hj) (fun n=>?_) cs.length 0 (cs.length+1) (by omega) (by omega)).mpr hb
  show ybd yav yag yaj yap yan _ _ (n+1) (cks cs) (rspL A) l2 (rts P) (cks cs) (rspL A) l2 (rts P) (a:Int) (cs.length:Int) (a:Int) (cs.length:Int) (cs.length:Int)=_
  rw [ybd,cbF (by omega),e1,ycR]
 ·show ybi yav yag yaj yap yan x1 x0 (n+1) (cks cs) (rspL A) l2 (rts P) (cks cs) (rspL A) l2 (rts P) (cs.length:Int) (cs.length:Int)
  rw [ybi,cbF (by omega)]
  exact hy
theorem yOr (h:DV cs A) {l2 l3:List PV} {x0:List PV→List PV→List PV→List PV→List PV→List PV→List PV→List PV→Int→Int→Bool→Prop} {x1:List PV→List PV→List PV→List PV→Int→Int→Bool→Prop} :
  ∀ (r a n:Nat),a+r=cs.length→r<n→onA (fun a b=>x1 (cks cs) (rspL A) l2 l3 (a:Int) (b:Int) true) (x0 (cks cs) (rspL A) l2 l3 (cks cs) (rspL A) l2 l3 (cs.length:Int) (cs.length:Int) false) (ycG (wr4 A) cs.length r a)→ybj yav yag yaj yap yan x1 x0 n (cks cs) (rspL A) l2 l3 (cks cs) (rspL A) l2 l3 (cs.length:Int) (a:Int):=by
 have h6:=h.d.n6
 refine ynH (L:=fun n a=>ybj yav yag yaj yap yan x1 x0 n (cks cs) (rspL A) l2 l3 (cks cs) (rspL A) l2 l3 (cs.length:Int) (a:Int)) (fun n a ha hb=>?_) (fun n hy=>?_)
 ·have e1:=wib (n:=(a:Int)+1) (by omega) (by omega)
  show ybj yav yag yaj yap yan x1 x0 (n+1) (cks cs) (rspL A) l2 l3 (cks cs) (rspL A) l2 l3 (cs.length:Int) (a:Int)
  rw [ybj,cbT (by omega),ya8]
  dsimp only [lt,Go.Pf.jn]
  refine ⟨cs.length+1,?_⟩
  refine (yri (f:=(wr4 A) a) (N:=cs.length) (L:=fun n j=>ybe yav yag yaj yap yan _ _ n (cks cs) (rspL A) l2 l3 (cks cs) (rspL A) l2 l3 (a:Int) (cs.length:Int) (a:Int) (cs.length:Int) (j:Int)) (fun n j hj=>yOm h ha hj) (fun n=>?_) cs.length 0 (cs.length+1) (by omega) (by omega)).mpr hb
  show ybe yav yag yaj yap yan _ _ (n+1) (cks cs) (rspL A) l2 l3 (cks cs) (rspL A) l2 l3 (a:Int) (cs.length:Int) (a:Int) (cs.length:Int) (cs.length:Int)=_
  rw [ybe,cbF (by omega),e1,ycR]
 ·show ybj yav yag yaj yap yan x1 x0 (n+1) (cks cs) (rspL A) l2 l3 (cks cs) (rspL A) l2 l3 (cs.length:Int) (cs.length:Int)
  rw [ybj,cbF (by omega)]
  exact hy
end
def yij:Option (Nat×Nat)→Int×Int×Bool
 | some (a,b)=>(a,b,true)
 | none=>(0,0,false)
def brk (cs:List Ck) (A:List (List RS)) (P:List Rat) (g:Bool) (c:Int):Int×Int×Bool :=
 if c=1 then (match ycG (wr0 A) cs.length cs.length 0 with
  | some (a,b)=>(a,b,true)
  | none=>if g then (-1,-1,true) else (0,0,false))
 else if c=2 then yij (ycG (wr1 cs A) cs.length cs.length 0)
 else if c=4 then yij (ycG (wr2 cs A) cs.length cs.length 0)
 else if c=8 then yij (ycG (wr3 P) cs.length cs.length 0)
 else yij (ycG (wr4 A) cs.length cs.length 0)
theorem yDT {cs:List Ck} {A:List (List RS)} (h:DV cs A) (hw:∀ c∈cs,∀ a∈A,small (wV c a)) {P:List Rat} {c:Int} (hP:c=8→P.length=cs.length) (hc:c=1∨c=2∨c=4∨c=8∨c=16) {g:Bool}
  (hg:∀ K,yag (cks cs) (rspL A) (tabW cs A) (rts P) K=K g) (K:Int→Int→Bool→Prop) :
  yaD (cks cs) (rspL A) (tabW cs A) (rts P) c K=K (brk cs A P g c).1 (brk cs A P g c).2.1 (brk cs A P g c).2.2:=by
 refine yoB _ _ _ _ _ _ _ _ (fun K k=>?_) K
 unfold yaD yfS
 dsimp only [Go.Pf.jn]
 rcases hc with rfl | rfl | rfl | rfl | rfl
 ·show cbr true _ _
  rw [yas]
  refine ⟨cs.length+1,?_⟩
  rw [ya8]
  refine yOn h cs.length 0 (cs.length+1) (by omega) (by omega) ?_
  have k:K (match ycG (wr0 A) cs.length cs.length 0 with | some (a,b)=>((a:Int),(b:Int),true) | none=>if g then (-1,-1,true) else (0,0,false)).1 (match ycG (wr0 A) cs.length cs.length 0 with | some (a,b)=>((a:Int),(b:Int),true) | none=>if g then (-1,-1,true) else (0,0,false)).2.1 (match ycG (wr0 A) cs.length cs.length 0 with | some (a,b)=>((a:Int),(b:Int),true) | none=>if g then (-1,-1,true) else (0,0,false)).2.2:=k
  cases hs:ycG (wr0 A) cs.length cs.length 0 with
  | some q =>
   rw [hs] at k
   exact k
  | none =>
   rw [hs] at k
   dsimp only [onA,qB8]
   rw [show (!false)=true from rfl,yas,hg]
   cases g with
   | true=>exact k
   | false=>exact k
 ·show cbr false _ (cbr true _ _)
  rw [yae,yas]
  refine ⟨cs.length+1,?_⟩
  rw [ya8]
  refine yOo h hw cs.length 0 (cs.length+1) (by omega) (by omega) ?_
  have k:K (yij (ycG (wr1 cs A) cs.length cs.length 0)).1 (yij (ycG (wr1 cs A) cs.length cs.length 0)).2.1 (yij (ycG (wr1 cs A) cs.length cs.length 0)).2.2:=k
  cases hs:ycG (wr1 cs A) cs.length cs.length 0 <;> (rw [hs] at k;exact k)
 ·show cbr false _ (cbr false _ (cbr true _ _))
  rw [yae,yae,yas]
  refine ⟨cs.length+1,?_⟩
  rw [ya8]
  refine yOp h hw cs.length 0 (cs.length+1) (by omega) (by omega) ?_
  have k:K (yij (ycG (wr2 cs A) cs.length cs.length 0)).1 (yij (ycG (wr2 cs A) cs.length cs.length 0)).2.1 (yij (ycG (wr2 cs A) cs.length cs.length 0)).2.2:=k
  cases hs:ycG (wr2 cs A) cs.length cs.length 0 <;> (rw [hs] at k;exact k)
 ·show cbr false _ (cbr false _ (cbr false _ (cbr true _ _)))
  rw [yae,yae,yae,yas]
  refine ⟨cs.length+1,?_⟩
  rw [ya8]
  refine yOq h (hP rfl) cs.length 0 (cs.length+1) (by omega) (by omega) ?_
  have k:K (yij (ycG (wr3 P) cs.length cs.length 0)).1 (yij (ycG (wr3 P) cs.length cs.length 0)).2.1 (yij (ycG (wr3 P) cs.length cs.length 0)).2.2:=k
  cases hs:ycG (wr3 P) cs.length cs.length 0 <;> (rw [hs] at k;exact k)
 ·show cbr false _ (cbr false _ (cbr false _ (cbr false _ _)))
  rw [yae,yae,yae,yae]
  refine ⟨cs.length+1,?_⟩
  rw [ya8]
  refine yOr h cs.length 0 (cs.length+1) (by omega) (by omega) ?_
  have k:K (yij (ycG (wr4 A) cs.length cs.length 0)).1 (yij (ycG (wr4 A) cs.length cs.length 0)).2.1 (yij (ycG (wr4 A) cs.length cs.length 0)).2.2:=k
  cases hs:ycG (wr4 A) cs.length cs.length 0 <;> (rw [hs] at k;exact k)
def prt (cs:List Ck) (A:List (List RS)) (i:Nat):Rat:=wV (cs.getD i default) (A.getD i []) / ((totC (cs.getD i default).cuts (cs.getD i default).dens:Int):Rat)
def prtL (cs:List Ck) (A:List (List RS)) (n:Nat):List Rat:=(List.range n).map (prt cs A)
theorem yGN (cs:List Ck) (A:List (List RS)) (n:Nat):(prtL cs A n).length=n:=by unfold prtL;rw [qAf,qA8]
theorem yKb (cs:List Ck) (A:List (List RS)) (n:Nat):prtL cs A (n+1)=prtL cs A n++[prt cs A n]:=by unfold prtL;rw [List.range_succ,qBl];rfl
def prtK (cs:List Ck) (A:List (List RS)) (X Y:Prop):Nat→Nat→Prop
 | 0,_=>X
 | r+1,i=>if small (prt cs A i) then prtK cs A X Y r (i+1) else Y
section
variable {cs:List Ck} {A:List (List RS)}
theorem DV.total (h:DV cs A) {i:Nat} (hi:i<cs.length) (K:Int→Int→Prop):yaj (cs.getD i default).len (ints (cs.getD i default).cuts) (ints (cs.getD i default).dens) K=K (totC (cs.getD i default).cuts (cs.getD i default).dens) 0:=by
 have hok:=h.d.ok i hi
 have l1:=hok.l1;have l2:=hok.l2
 rw [yxQ (by omega) (by omega),if_pos hok.ck]
theorem DV.div (h:DV cs A) (hw:∀ c∈cs,∀ a∈A,Go.Pf.Vc.small (wV c a)) {i:Nat} (hi:i<cs.length) (K:Int→Int→Int→Prop):yaW (wV (cs.getD i default) (A.getD i [])).num (wV (cs.getD i default) (A.getD i [])).den ((totC (cs.getD i default).cuts (cs.getD i default).dens:Int):Rat).num ((totC (cs.getD i default).cuts (cs.getD i default).dens:Int):Rat).den K=fitK (prt cs A i) K:=by
 have hok:=h.d.ok i hi
 have tb:=yiT hok
 have tp:=yBM hok
 have hs:Go.Pf.Vc.small ((totC (cs.getD i default).cuts (cs.getD i default).dens:Int):Rat):=yiS (by omega)
 have h0:((totC (cs.getD i default).cuts (cs.getD i default).dens:Int):Rat)≠0:=fun e=>by
  have:(((totC (cs.getD i default).cuts (cs.getD i default).dens:Int):Rat))=((0:Int):Rat):=e
  have:=Rat.intCast_inj.1 this
  omega
 exact yIM (h.small hw hi hi) hs h0 K
theorem ype (h:DV cs A) (hw:∀ c∈cs,∀ a∈A,small (wV c a)) (x2:List PV→List PV→List PV→List PV→Int→Int→Bool→Prop) (x3:List PV→List PV→List PV→List PV→Int→Prop) {YY:Prop} (hY:∀ L,x3 L (cks cs) (rspL A) (tabW cs A) 16=YY) :
  ∀ (r i n:Nat),i+r=cs.length→r<n→yd8 yaR yaj yaJ yaW yaD x2 x3 n (rts (prtL cs A i)) (cks cs) (rspL A) (tabW cs A) (cs.length:Int) (i:Int)=prtK cs A (x2 (rts (prtL cs A cs.length)) (cks cs) (rspL A) (tabW cs A) (cs.length:Int) (cs.length:Int) false) YY r i
 | 0,i,n+1,hi,hn=>by
  obtain rfl:i=cs.length:=by omega
  rw [yd8,cbF (by omega)]
  rfl
 | r+1,i,n+1,hi,hn=>by
  have h6:=h.d.n6;have hl:=h.l
  have hi':i<cs.length:=by omega
  have e1:=wib (n:=(i:Int)+1) (by omega) (by omega)
  have ih:=ype h hw x2 x3 hY r (i+1) n (by omega) (by omega)
  rw [yd8]
  dsimp only [lt,Go.Pf.jn]
  rw [cbT (by omega),asT (by omega),ya8,asT (by omega),qAg,yej hi',asCk,ck0,ck1,ck2,h.total hi',asT (by omega),ynG,asT (by omega),ywj hi',asD,asT (by omega),datD,ymc,qAf,asT (by omega),yqU (by rw [qAf];omega),asW,yyw,yyx,ywk (by omega),ykl,h.div hw hi']
  unfold prtK fitK
  by_cases hs:small (prt cs A i)
  ·rw [if_pos hs,if_pos hs]
   show cbr false _ _=_
   rw [yae,asT rfl,ymc,yGN]
   simp only [qBd,qAk,decide_true,yaO]
   rw [show (!decide (i+1≤i))=true by rw [decide_eq_false (by omega)];rfl,yaO,asT (by unfold room;omega),show (true&&true)=true from rfl,yaO,e1,ycR,yMz,yMA,← yKb]
   exact ih
  ·rw [if_neg hs,if_neg hs]
   show cbr true _ _=_
   rw [yas,hY]
theorem yxV (h:DV cs A) (hw:∀ c∈cs,∀ a∈A,small (wV c a)) (x0:List PV→List PV→List PV→Int→Int→Bool→Prop) (x1:List PV→List PV→List PV→Int→Prop) (x2:List PV→List PV→List PV→List PV→Int→Int→Bool→Prop) (x3:List PV→List PV→List PV→List PV→Int→Prop) {YY:Prop} (hY1:x1 (cks cs) (rspL A) (tabW cs A) 16=YY) (hY:∀ L,x3 L (cks cs) (rspL A) (tabW cs A) 16=YY) :
 ygy yaR yaj yaJ yaW yaD x0 x1 x2 x3 (cs.length+1) (cks cs) (rspL A) (tabW cs A) (cs.length:Int) 0=prtK cs A (x2 (rts (prtL cs A cs.length)) (cks cs) (rspL A) (tabW cs A) (cs.length:Int) (cs.length:Int) false) YY cs.length 0:=by
 have h6:=h.d.n6;have h1:=h.d.n0;have hl:=h.l
 have hi':0<cs.length:=by omega
 have e1:=wib (n:=(0:Int)+1) (by omega) (by omega)
 obtain ⟨r,hr⟩:∃ r,cs.length=r+1:=⟨cs.length-1,by omega⟩
 have ih:=ype h hw x2 x3 hY r 1 cs.length (by omega) (by omega)
 rw [ygy]
 dsimp only [lt,Go.Pf.jn]
 rw [cbT (by omega),asT (by omega),ya8,asT (by omega),show (0:Int).toNat=0 from rfl,yej hi',asCk,ck0,ck1,ck2,h.total hi',asT (by omega),ynG,asT (by omega),ywj hi',asD,asT (by omega),datD,ymc,qAf,asT (by omega),yqU (by rw [qAf];omega),asW,yyw,yyx,ywk (by omega),ykl,h.div hw hi']
 have eK:∀ X:Prop,prtK cs A X YY cs.length 0=if small (prt cs A 0) then prtK cs A X YY r 1 else YY:=fun X=>by rw [hr];rfl
 rw [eK]
 unfold fitK
 by_cases hs:small (prt cs A 0)
 ·rw [if_pos hs,if_pos hs]
  show cbr false _ _=_
  rw [yae,e1]
  exact ih
 ·rw [if_neg hs,if_neg hs]
  show cbr true _ _=_
  rw [yas,hY1]
end
def orU8 (a b:Int):Int:=IntKind.u8.wrap (BitVec.ofInt IntKind.u8.bits a|||BitVec.ofInt IntKind.u8.bits b).toNat
def bitC:Nat→Int
 | 0=>1
 | 1=>2
 | 2=>4
 | 3=>8
 | _=>16
def addC (cs:List Ck) (A:List (List RS)) (P:List Rat) (g:Bool) (acc:Int) (i:Nat):Int:=if (brk cs A P g (bitC i)).2.2 then acc else orU8 acc (bitC i)
theorem yI9 {i:Nat} (h:i<5):IntKind.u8.wrap ((1:Int)*2 ^ (min ((i:Int)).toNat IntKind.u8.bits))=bitC i:=by
 obtain rfl | rfl | rfl | rfl | rfl:i=0∨i=1∨i=2∨i=3∨i=4:=by omega
 all_goals decide
theorem yLH (i:Nat):bitC i=1∨bitC i=2∨bitC i=4∨bitC i=8∨bitC i=16:=by
 unfold bitC
 split <;> simp
section
variable {cs:List Ck} {A:List (List RS)}
theorem yKc (h:DV cs A) (hw:∀ c∈cs,∀ a∈A,small (wV c a)) {P:List Rat} (hP:P.length=cs.length) {g:Bool} (hg:∀ K,yag (cks cs) (rspL A) (tabW cs A) (rts P) K=K g) (x1:List PV→List PV→List PV→List PV→Int→Int→List PV→Int→Bool→Prop) {n i:Nat} (hi:i<5) (e acc:Int) (l8:List PV) :
  ydp yaR yaj yaJ yaW yaD x1 (n+1) (rts P) (cks cs) (rspL A) (tabW cs A) e acc l8 (i:Int)=ydp yaR yaj yaJ yaW yaD x1 n (rts P) (cks cs) (rspL A) (tabW cs A) e (addC cs A P g acc i) l8 ((i+1:Nat):Int):=by
 have e1:=wib (n:=(i:Int)+1) (by omega) (by omega)
 have hn:(!decide ((i:Int)<0))=true:=by rw [decide_eq_false (by omega)];rfl
 rw [ydp]
 dsimp only [lt,Go.Pf.jn]
 rw [cbT (by omega),hn,yaO,yI9 hi,asT rfl,asT (by omega),List.take_length,yDT h hw (fun _=>hP) (yLH i) hg,e1,ycR]
 unfold addC
 cases (brk cs A P g (bitC i)).2.2 with
 | true =>
  show cbr false _ _=_
  rw [yae,show (decide ((rts P).length=(rts P).length)&&decide ((rts P).length=(rts P).length))=true by simp,yaO]
  rfl
 | false =>
  show cbr true _ _=_
  rw [yas,yaO,show (decide ((rts P).length=(rts P).length)&&decide ((rts P).length=(rts P).length))=true by simp,yaO]
  rfl
def yJa (cs:List Ck) (A:List (List RS)) (P:List Rat) (g:Bool):Int:=addC cs A P g (addC cs A P g (addC cs A P g (addC cs A P g (addC cs A P g 0 0) 1) 2) 3) 4
theorem yBY {X Y:Prop}:∀ (r i:Nat),((∀ j,i≤j→j<i+r→small (prt cs A j))∧prtK cs A X Y r i=X)∨(¬(∀ j,i≤j→j<i+r→small (prt cs A j))∧prtK cs A X Y r i=Y)
 | 0,i=>.inl ⟨fun j h1 h2=>by omega,rfl⟩
 | r+1,i=>by
  rw [prtK]
  by_cases hs:small (prt cs A i)
  ·rw [if_pos hs]
   rcases yBY (X:=X) (Y:=Y) r (i+1) with ⟨h1,h2⟩ | ⟨h1,h2⟩
   ·refine .inl ⟨fun j k1 k2=>?_,h2⟩
    by_cases hj:j=i
    ·subst hj;exact hs
    ·exact h1 j (by omega) (by omega)
   ·exact .inr ⟨fun hh=>h1 fun j k1 k2=>hh j (by omega) (by omega),h2⟩
  ·rw [if_neg hs]
   exact .inr ⟨fun hh=>hs (hh i (by omega) (by omega)),rfl⟩
def Gap (cs:List Ck) (A:List (List RS)):Prop:=∃ p:Rat,0≤p∧p<((cs.getD 0 default).len:Rat)∧¬∃ a∈A,memP a p
open Classical in
noncomputable def gapD (cs:List Ck) (A:List (List RS)):Bool:=decide (Gap cs A)
theorem yGO:gapD cs A=true↔Gap cs A:=by unfold gapD;exact @decide_eq_true_iff _ (Classical.propDecidable _)
theorem DV.gapD_eq (h:DV cs A) (W PT:List PV) (K:Bool→Prop):yag (cks cs) (rspL A) W PT K=K (gapD cs A):=by
 obtain ⟨l,hp,hb,e⟩:=h.gap W PT
 rw [e]
 congr 1
 rw [Bool.eq_iff_iff,yGO,yGJ l 0 hb (fun s hs=>h.flatV s (hp.mem_iff.1 hs)) (fun s hs=>by
  obtain ⟨a,ha,hs⟩:=List.mem_flatten.1 (hp.mem_iff.1 hs)
  exact (h.wi a ha s hs).2)]
 have hm:∀ p,memP l p↔∃ a∈A,memP a p:=fun p=>by
  constructor
  ·rintro ⟨s,hs,k⟩
   obtain ⟨a,ha,hs⟩:=List.mem_flatten.1 (hp.mem_iff.1 hs)
   exact ⟨a,ha,s,hs,k⟩
  ·rintro ⟨a,ha,s,hs,k⟩
   exact ⟨s,hp.mem_iff.2 (List.mem_flatten.2 ⟨a,ha,hs⟩),k⟩
 unfold Gap
 constructor
 ·rintro ⟨p,h1,h2,h3⟩
  exact ⟨p,h1,h2,fun k=>h3 ((hm p).2 k)⟩
 ·rintro ⟨p,h1,h2,h3⟩
  exact ⟨p,h1,h2,fun k=>h3 ((hm p).1 k)⟩
end
theorem yBZ {f:Nat→Bool}:∀ {r i:Nat},ypd f r i=none↔∀ j,i≤j→j<i+r→f j=false
 | 0,i=>⟨fun _ j h1 h2=>by omega,fun _=>rfl⟩
 | r+1,i=>by
  rw [ypd]
  cases hf:f i with
  | true=>exact ⟨fun h=>by simp at h,fun h=>by have:=h i (by omega) (by omega);rw [hf] at this;cases this⟩
  | false =>
   show ypd f r (i+1)=none↔_
   rw [yBZ]
   constructor
   ·intro h j h1 h2
    by_cases hj:j=i
    ·subst hj;exact hf
    ·exact h j (by omega) (by omega)
   ·exact fun h j h1 h2=>h j (by omega) (by omega)
theorem yB0 {f:Nat→Bool}:∀ {r i j:Nat},ypd f r i=some j→i≤j∧j<i+r∧f j=true
 | 0,i,j,h=>by cases h
 | r+1,i,j,h=>by
  rw [ypd] at h
  cases hf:f i with
  | true =>
   rw [hf] at h
   have h:some i=some j:=h
   cases h
   exact ⟨by omega,by omega,hf⟩
  | false =>
   rw [hf] at h
   obtain ⟨h1,h2,h3⟩:=yB0 (r:=r) (i:=i+1) h
   exact ⟨by omega,by omega,h3⟩
theorem yoG {f:Nat→Nat→Bool} {n:Nat}:∀ {r i:Nat},ycG f n r i=none↔∀ a,i≤a→a<i+r→∀ b,b<n→f a b=false
 | 0,i=>⟨fun _ a h1 h2=>by omega,fun _=>rfl⟩
 | r+1,i=>by
  rw [ycG]
  cases hb:ypd (f i) n 0 with
  | some j =>
   obtain ⟨_,h2,h3⟩:=yB0 hb
   exact ⟨fun h=>by simp at h,fun h=>by have:=h i (by omega) (by omega) j (by omega);rw [h3] at this;cases this⟩
  | none =>
   show ycG f n r (i+1)=none↔_
   rw [yoG]
   constructor
   ·intro h a h1 h2 b h3
    by_cases ha:a=i
    ·subst ha;exact yBZ.1 hb b (by omega) (by omega)
    ·exact h a (by omega) (by omega) b h3
   ·exact fun h a h1 h2 b h3=>h a (by omega) (by omega) b h3
def yLI (a b:Int):Int:=IntKind.u8.wrap (BitVec.ofInt IntKind.u8.bits a&&&BitVec.ofInt IntKind.u8.bits b).toNat
def InA (D:Int) (A:List (List RS)):Prop:=∀ a∈A,∀ s∈a,In D s.1∧In D s.2
section
variable {len:Int} {cuts dens:List Int}
theorem yB1 (h:VC len cuts dens) {s:RS} (hv:s.1<s.2) (hw:0≤s.1∧s.2≤(len:Rat)):0≤dV (vX cuts dens) s∧dV (vX cuts dens) s≤12000:=by
 have a:=ywh h hw.1
 have b:=ywh h hw.2
 have c:=ywh h (qAy hv)
 have t:=yFn h
 have tb:=qAw.2 (yiT h).2
 have tb:((totC cuts dens:Int):Rat)≤12000:=tb
 show 0≤vX cuts dens s.2-vX cuts dens s.1∧vX cuts dens s.2-vX cuts dens s.1≤12000
 grind
theorem yM2 {D:Int} (hD:1≤D) {s:RS} (hi:In D s.1∧In D s.2):In D (dV (vX cuts dens) s):=(yI4 hD hi.2).sub (yI4 hD hi.1)
theorem yGP (h:VC len cuts dens) {D:Int} (hD:1≤D∧D≤1000000000000) {s:RS} (hs:yfz s) (hv:s.1<s.2) (hw:0≤s.1∧s.2≤(len:Rat)) (hi:In D s.1∧In D s.2) (K:Int→Int→Int→Prop) :
  ybJ len (ints cuts) (ints dens) s.1.num s.1.den s.2.num s.2.den K=K (dV (vX cuts dens) s).num (dV (vX cuts dens) s).den 0:=by
 have l1:=h.l1;have l2:=h.l2
 rw [yxR (by omega) (by omega) hs.1.i1 hs.1.i2 hs.2.i1 hs.2.i2]
 unfold valR
 rw [if_pos h.ck,if_pos ⟨yyu hs.1 hw.1 (by grind),yyu hs.2 (by grind) hw.2,by rw [yeN,yeN];grind⟩,yeN,yeN,yDP h ⟨hD.1,by omega⟩ hi.1 hi.2 hw.1 (qAy hv) hw.2]
 rfl
theorem ypf (h:VC len cuts dens) {D:Int} (hD:1≤D∧D≤1000000000000) {l:List RS} (hs:∀ s∈l,yfz s) (hv:∀ s∈l,s.1<s.2) (hw:Wi len l) (hi:∀ s∈l,In D s.1∧In D s.2) (hl:l.length≤60) (z z':Int) (K:Int→Int→Int→Prop) :
  ∀ (r i n:Nat) (q:Rat),i+r=l.length→r<n→In D q→0≤q→q≤12000*((i:Int):Rat) →
   small (q+sumV (dV (vX cuts dens)) (l.drop i))∧ycg yaL ya6 ybo ybJ ya5 (fun _ _ _ _ _ a b _ _ _ _=>K a b 0) (fun _ _ _ a b e=>K a b e) n len (ints cuts) (ints dens) z z' q.num q.den (rsp l) (l.length:Int) (i:Int)=K (q+sumV (dV (vX cuts dens)) (l.drop i)).num (q+sumV (dV (vX cuts dens)) (l.drop i)).den 0
 | 0,i,n+1,q,hir,hn,hq,q0,q1=>by
  obtain rfl:i=l.length:=by omega
  rw [List.drop_length]
  have e:q+sumV (dV (vX cuts dens)) []=q:=Rat.add_zero q
  have hb:((l.length:Int):Rat)≤60:=qAw.2 (show (l.length:Int)≤60 by omega)
  rw [e]
  refine ⟨hq.small (M:=720000) ⟨by omega,by omega⟩ (by omega) (by show -(720000:Rat)≤_;grind) (by show _≤(720000:Rat);grind),?_⟩
  rw [ycg,cbF (by omega)]
 | r+1,i,n+1,q,hir,hn,hq,q0,q1=>by
  have hil:i<l.length:=by omega
  have e1:=wib (n:=(i:Int)+1) (by omega) (by omega)
  have hd:l.drop i=l.getD i default::l.drop (i+1):=ydr default hil
  have hm:l.getD i default∈l:=ycv default hil
  have hx:=hs _ hm
  have hx2:=hv _ hm
  have hx3:=hw _ hm
  have hx4:=hi _ hm
  rw [hd]
  have b1:=yB1 h hx2 hx3
  have b2:=yM2 (cuts:=cuts) (dens:=dens) hD.1 hx4
  have hc:((i+1:Nat):Int)=(i:Int)+1:=by omega
  have hc2:(((i+1:Nat):Int):Rat)=((i:Int):Rat)+1:=by rw [hc,Rat.intCast_add];rfl
  have hb:((i:Int):Rat)≤60:=qAw.2 (show (i:Int)≤60 by omega)
  have hv1:=yGP h hD hx hx2 hx3 hx4
  have es:q+sumV (dV (vX cuts dens)) (l.getD i default::l.drop (i+1))=(q+dV (vX cuts dens) (l.getD i default))+sumV (dV (vX cuts dens)) (l.drop (i+1)):=by
   show q+(dV (vX cuts dens) (l.getD i default)+sumV (dV (vX cuts dens)) (l.drop (i+1)))=_
   grind
  have step:ycg yaL ya6 ybo ybJ ya5 (fun _ _ _ _ _ a b _ _ _ _=>K a b 0) (fun _ _ _ a b e=>K a b e) (n+1) len (ints cuts) (ints dens) z z' q.num q.den (rsp l) (l.length:Int) (i:Int) =
    ybJ len (ints cuts) (ints dens) (l.getD i default).1.num (l.getD i default).1.den (l.getD i default).2.num (l.getD i default).2.den (fun a b e=>cbr (e != 0) (K 0 0 e) (ya5 q.num q.den a b (fun a b e=>cbr (e != 0) (K 0 0 e) (ycg yaL ya6 ybo ybJ ya5 (fun _ _ _ _ _ a b _ _ _ _=>K a b 0) (fun _ _ _ a b e=>K a b e) n len (ints cuts) (ints dens) z z' a b (rsp l) (l.length:Int) ((i+1:Nat):Int))))):=by
   rw [ycg,cbT (by omega)]
   dsimp only [lt]
   rw [yc3,asT (by omega),asT (by omega),qAg,yqT hil,asR,yDL,yI0,yDM,yDN,e1,ycR]
  rw [es,step,hv1,nz]
  generalize dV (vX cuts dens) (l.getD i default)=v at b1 b2
  have sq:small q:=hq.small (M:=720000) ⟨by omega,by omega⟩ (by omega) (by show -(720000:Rat)≤_;grind) (by show _≤(720000:Rat);grind)
  have sv:small v:=b2.small (M:=720000) ⟨by omega,by omega⟩ (by omega) (by show -(720000:Rat)≤_;grind) (by show _≤(720000:Rat);grind)
  have hb2:((i:Int):Rat)≤59:=qAw.2 (show (i:Int)≤59 by omega)
  have ss:small (q+v):=(hq.add b2).small (M:=720000) ⟨by omega,by omega⟩ (by omega) (by show -(720000:Rat)≤_;grind) (by show _≤(720000:Rat);grind)
  have ih:=ypf h hD hs hv hw hi hl z z' K r (i+1) n (q+v) (by omega) (by omega) (hq.add b2) (by grind) (by rw [hc2];grind)
  refine ⟨ih.1,?_⟩
  rw [yzB sq sv]
  unfold fitK
  rw [if_pos ss]
  dsimp only
  rw [nz]
  exact ih.2
theorem Pc.Worth_good {l:List RS} (p:Pc l) (h:VC len cuts dens) (hw:Wi len l) {D:Int} (hD:1≤D∧D≤1000000000000) (hi:∀ s∈l,In D s.1∧In D s.2) :
  small (sumV (dV (vX cuts dens)) l)∧∀ K,ycb len (ints cuts) (ints dens) (rsp l) K=K (sumV (dV (vX cuts dens)) l).num (sumV (dV (vX cuts dens)) l).den 0:=by
 have l1:=h.l1;have l2:=h.l2;have l0:=h.len0;have hn:=p.n
 have g:=fun K=>ypf h hD p.s (ynF p.c) hw hi (by omega) 0 0 K l.length 0 (l.length+1) 0 (by omega) (by omega) (In.int hD.1 0) qA6 (by show (0:Rat)≤12000*0;grind)
 have g0:=(g fun _ _ _=>True).1
 rw [qBi,Rat.zero_add] at g0
 refine ⟨g0,fun K=>yyX _ _ _ _ _ _ _ (fun K k=>?_) K⟩
 have hl:=(g K).2
 rw [qBi,Rat.zero_add] at hl
 unfold ycb ykV
 rw [ykk (by omega) (by omega),h.ck,nz,p.check,nz]
 dsimp only [Go.Pf.jn,lt]
 rw [yc3]
 have fin:∃ n,ycg yaL ya6 ybo ybJ ya5 (fun _ _ _ _ _ a b _ _ _ _=>K a b 0) (fun _ _ _ a b e=>K a b e) n len (ints cuts) (ints dens) 0 0 0 1 (rsp l) (l.length:Int) 0:=⟨l.length+1,hl.mpr k⟩
 by_cases hl0:l.length=0
 ·rw [cbF (by omega),yae]
  exact fin
 ·have h0:0<l.length:=by omega
  have m0:=ycv (default:RS) h0
  have m1:=ycv (default:RS) (show l.length-1<l.length by omega)
  have w0:=hw _ m0
  have w1:=hw _ m1
  have s1:=p.s _ m1
  have n0:0≤(l.getD 0 default).1.num:=Rat.num_nonneg.2 w0.1
  have e1:=wib (n:=(l.length:Int)-1) (by omega) (by omega)
  have et:((l.length:Int)-1).toNat=l.length-1:=by omega
  rw [cbT (by omega),asT (by omega),yqT h0,asR,yDL,cbF (by omega),e1,asT (by omega),asT (by omega),et,yqT (by omega),asR,yDM,yDN]
  have sl:small (len:Rat):=yiS (by omega)
  show ybo (l.getD (l.length-1) default).2.num (l.getD (l.length-1) default).2.den (len:Rat).num ((len:Rat).den:Int) _
  rw [yGG s1.2 sl,yI2,cbF (by grind)]
  exact fin
end
theorem DV.Worth_good {cs:List Ck} {A:List (List RS)} (h:DV cs A) {D:Int} (hD:1≤D∧D≤1000000000000) (hi:InA D A) :
  (∀ c∈cs,∀ a∈A,Go.Pf.Vc.small (wV c a))∧∀ K,yaR (cks cs) (rspL A) K=K (tabW cs A) 0:=by
 have h6:=h.d.n6;have h1:=h.d.n0;have hl:=h.l
 have e:pcsD (A.map rsp)=rspL A:=by
  unfold pcsD rspL
  rw [List.map_map]
  rfl
 have hall:∀ c∈cs,∀ a∈A,Go.Pf.Vc.small (wV c a)∧∀ K,ycb c.len (ints c.cuts) (ints c.dens) (rsp a) K=K (wV c a).num (wV c a).den 0:=fun c hc a ha=>by
  obtain ⟨k1,k2⟩:=h.d.mem hc
  refine (h.p a ha).Worth_good k1 ?_ hD (hi a ha)
  rw [k2]
  exact h.wi a ha
 refine ⟨fun c hc a ha=>(hall c hc a ha).1,fun K=>?_⟩
 have hck:∀ K,ydy (cks cs) (pcsD (A.map rsp)) K=K 0:=fun K=>by rw [e];exact yMD h K
 have hf:∀ c∈cs,∀ a∈A,fW c (rsp a)=((wV c a).num,((wV c a).den:Int),0):=fun c hc a ha=>yOh (t:=((wV c a).num,((wV c a).den:Int),0)) (hall c hc a ha).2
 rw [← e]
 refine yLD (F:=fW) (by rw [qAf];exact hl) h1 h6 hck (fun c hc p hp K=>?_) (fun _=>⟨?_,rfl⟩) (fun c hc p hp hn=>?_) K
 ·obtain ⟨a,ha,rfl⟩:=qBx.1 hp
  rw [hf c hc a ha]
  exact (hall c hc a ha).2 K
 ·unfold tabW
  refine List.map_congr_left fun c hc=>?_
  unfold rts
  rw [List.map_map,List.map_map]
  congr 1
  refine List.map_congr_left fun a ha=>?_
  show encW (wV c a)=.agg [.int .i64 (fW c (rsp a)).1,.int .i64 (fW c (rsp a)).2.1]
  rw [hf c hc a ha]
  rfl
 ·obtain ⟨a,ha,rfl⟩:=qBx.1 hp
  rw [hf c hc a ha] at hn
  exact absurd rfl hn
section
variable {cs:List Ck} {A:List (List RS)}
theorem yJb {cuts dens:List Int} {D:Int} (hD:1≤D):∀ {l:List RS},(∀ s∈l,In D s.1∧In D s.2)→In D (sumV (dV (vX cuts dens)) l)
 | [],_=>In.int hD 0
 | s::_,h=>(yM2 hD (h s qAo)).add (yJb hD fun t ht=>h t (qAi _ ht))
theorem yB2 {len:Int} {cuts dens:List Int} (hv:VC len cuts dens):∀ {l:List RS},(∀ s∈l,s.1<s.2)→Wi len l→0≤sumV (dV (vX cuts dens)) l∧sumV (dV (vX cuts dens)) l≤12000*((l.length:Int):Rat)
 | [],_,_=>⟨qA6,by show (0:Rat)≤12000*0;grind⟩
 | s::r,h,hw=>by
  have a:=yB1 hv (h s qAo) (hw s qAo)
  have b:=yB2 hv (l:=r) (fun t ht=>h t (qAi _ ht)) (fun t ht=>hw t (qAi _ ht))
  have hc:(((s::r).length:Int):Rat)=((r.length:Int):Rat)+1:=by
   rw [show ((s::r).length:Int)=(r.length:Int)+1 by rw [qAn];omega,Rat.intCast_add];rfl
  rw [hc]
  show 0≤dV (vX cuts dens) s+sumV (dV (vX cuts dens)) r∧dV (vX cuts dens) s+sumV (dV (vX cuts dens)) r≤_
  grind
theorem DV.wV_bound (h:DV cs A) {i j:Nat} (hi:i<cs.length) (hj:j<cs.length):0≤wV (cs.getD i default) (A.getD j [])∧wV (cs.getD i default) (A.getD j [])≤720000:=by
 have hl:=h.l
 have hm:=ycv [] (show j<A.length by omega)
 have hok:=h.d.ok i hi
 have hw:=h.wi _ hm
 rw [← h.d.len i hi] at hw
 have p:=h.p _ hm
 have b:=yB2 hok (ynF p.c) hw
 have hn:(((A.getD j []).length:Int):Rat)≤60:=qAw.2 (show ((A.getD j []).length:Int)≤60 by have:=p.n;omega)
 unfold wV
 grind
theorem yKd (h:DV cs A) {D:Int} (hD:1≤D∧D≤100000000) (hi:InA D A) {j:Nat} (hj:j<cs.length):small (prt cs A j):=by
 have hl:=h.l
 have hok:=h.d.ok j hj
 have tb:=yiT hok
 have tp:=yBM hok
 have b:=h.wV_bound hj hj
 have hI:In D (wV (cs.getD j default) (A.getD j [])):=yJb hD.1 (hi _ (ycv [] (by omega)))
 unfold prt
 generalize totC (cs.getD j default).cuts (cs.getD j default).dens=t at tb tp
 generalize wV (cs.getD j default) (A.getD j [])=w at b hI
 have h1:(1:Rat)≤(t:Rat):=qAw.2 (show (1:Int)≤t by omega)
 have t0:(t:Rat)≠0:=by grind
 have e:w / (t:Rat)*(t:Rat)=w:=Rat.div_mul_cancel t0
 have tD:t*D≤12000*D:=qAh tb.2 (by omega)
 have tD1:1*1≤t*D:=qB1 (by omega) hD.1 (by omega) (by omega)
 have p0:0≤w / (t:Rat):=Rat.not_lt.1 fun k=>by
  have:=Rat.mul_lt_mul_of_pos_right k (show (0:Rat)<(t:Rat) by grind)
  grind
 have p1:w / (t:Rat)≤720000:=by
  have:=qBt h1 p0
  grind
 exact (hI.div hD.1 (d:=t) (by omega)).small (M:=720000) ⟨by omega,by omega⟩ (by omega) (by show -(720000:Rat)≤_;grind) (by show _≤(720000:Rat);grind)
theorem DV.Make_of (h:DV cs A) (hw:∀ c∈cs,∀ a∈A,Go.Pf.Vc.small (wV c a)) (he:∀ K,yaR (cks cs) (rspL A) K=K (tabW cs A) 0) (hs:∀ j,j<cs.length→Go.Pf.Vc.small (prt cs A j)) (K:Int→List PV→Int→Prop) :
  yfy (cks cs) (rspL A) K=K (yJa cs A (prtL cs A cs.length) (gapD cs A)) (tabW cs A) 0:=by
 refine yBm _ _ _ _ _ (fun K k=>?_) K
 unfold yfy ymO
 rw [he]
 show cbr false _ _
 rw [yae]
 dsimp only [Go.Pf.jn]
 rw [ya8]
 refine ⟨cs.length+1,(yxV h hw _ _ _ _ (YY:=K 0 [] 16) rfl (fun _=>rfl)).mpr ?_⟩
 rcases yBY (cs:=cs) (A:=A) cs.length 0 with ⟨_,e⟩ | ⟨hn,_⟩
 ·refine e.mpr ?_
  show cbr false _ _
  rw [yae,show (decide ((rts (prtL cs A cs.length)).length=(rts (prtL cs A cs.length)).length)&&decide ((rts (prtL cs A cs.length)).length=(rts (prtL cs A cs.length)).length))=true by simp,yaO]
  refine ⟨6,?_⟩
  have hP:=yGN cs A cs.length
  have hg:=h.gapD_eq (tabW cs A) (rts (prtL cs A cs.length))
  have s:=fun (n i:Nat) (hi:i<5) (acc:Int)=>yKc h hw hP hg (fun f g l m o b d p q=>K b d (0:Int)) (n:=n) hi 0 acc (tabW cs A)
  refine (s 5 0 (by omega) 0).mpr ((s 4 1 (by omega) _).mpr ((s 3 2 (by omega) _).mpr ((s 2 3 (by omega) _).mpr ((s 1 4 (by omega) _).mpr ?_))))
  rw [ydp,cbF (by omega)]
  exact k
 ·exact absurd (fun j h1 h2=>hs j (by omega)) hn
theorem DV.good (h:DV cs A) {D:Int} (hD:1≤D∧D≤100000000) (hi:InA D A) :
  (∀ c∈cs,∀ a∈A,Go.Pf.Vc.small (wV c a))∧(∀ K,yaR (cks cs) (rspL A) K=K (tabW cs A) 0)∧(∀ j,j<cs.length→Go.Pf.Vc.small (prt cs A j)) ∧
  ∀ K,yfy (cks cs) (rspL A) K=K (yJa cs A (prtL cs A cs.length) (gapD cs A)) (tabW cs A) 0:=by
 obtain ⟨h1,h2⟩:=h.Worth_good (D:=D) ⟨hD.1,by omega⟩ hi
 have h3:=fun j (hj:j<cs.length)=>yKd h hD hi hj
 exact ⟨h1,h2,h3,h.Make_of h1 h2 h3⟩
theorem yB3 {o:Option (Nat×Nat)}:(yij o).2.2=false↔o=none:=by
 cases o with
 | none=>exact ⟨fun _=>rfl,fun _=>rfl⟩
 | some q=>obtain ⟨a,b⟩:=q;exact ⟨(fun h=>by cases h),(fun h=>by cases h)⟩
theorem yGQ {P:List Rat} {g:Bool}:(brk cs A P g 1).2.2=false↔ycG (wr0 A) cs.length cs.length 0=none∧g=false:=by
 have e:brk cs A P g 1=(match ycG (wr0 A) cs.length cs.length 0 with | some (a,b)=>((a:Int),(b:Int),true) | none=>if g then (-1,-1,true) else (0,0,false)):=rfl
 rw [e]
 cases ycG (wr0 A) cs.length cs.length 0 with
 | some q=>obtain ⟨a,b⟩:=q;exact ⟨(fun h=>by cases h),(fun h=>by cases h.1)⟩
 | none=>cases g <;> simp
theorem yGR {P:List Rat} {g:Bool}:(brk cs A P g 2).2.2=false↔∀ a,a<cs.length→yt9 cs a≤wV (cs.getD a default) (A.getD a []):=by
 have e:brk cs A P g 2=yij (ycG (wr1 cs A) cs.length cs.length 0):=rfl
 rw [e,yB3,yoG]
 constructor
 ·intro h a ha
  have:=h a (by omega) (by omega) a ha
  unfold wr1 at this
  rw [decide_eq_true rfl,qBm,decide_eq_false_iff_not] at this
  exact Rat.not_lt.1 this
 ·intro h a _ ha b hb
  unfold wr1
  by_cases hab:a=b
  ·have:=h a (by omega)
   rw [decide_eq_false (Rat.not_lt.2 this),Bool.and_false]
  ·rw [decide_eq_false hab,qBs]
end
theorem yyy {l:List Rat} (hl:l.length<1000) {K:Bool→Prop} :
  ∀ (r i n:Nat),i+r=l.length→r<n→ybm (fun _ _ _ _ _=>K true) (fun b=>K b) n (rts l) (rts l) (l.length:Int) (i:Int)=K true
 | 0,i,n+1,hi,hn=>by
  rw [ybm,cbF (by omega)]
 | r+1,i,n+1,hi,hn=>by
  have e1:=wib (n:=(i:Int)+1) (by omega) (by omega)
  have ih:=yyy hl (K:=K) r (i+1) n (by omega) (by omega)
  rw [ybm]
  dsimp only [lt]
  rw [cbT (by omega),ymc,asT (by omega),asT (by omega),qAg,yqU (by omega),asW,asT (by omega),asT (by omega),asW,yyw,yyx,e1,ycR,ih]
  have eb:∀ a b:Int,(!((a == a)&&((b == b)&&true)))=false:=fun a b=>by simp
  rw [eb,yae]
theorem yGS {l:List Rat} (hl:l.length<1000) (K:Bool→Prop):yaG (rts l) (rts l) K=K true:=by
 refine yik _ _ _ (fun K k=>?_) K
 unfold yaG ydl
 rw [ymc,cnF rfl]
 exact ⟨l.length+1,(yyy hl (K:=K) l.length 0 (l.length+1) (by omega) (by omega)).mpr k⟩
section
variable {cs:List Ck} {A:List (List RS)}
theorem yDU (h:DV cs A) {a0 a2 a3 a4 a5} (x0:List PV→List PV→List PV→List PV→List PV→Int→Int→Bool→Prop) (x1:List PV→List PV→List PV→Bool→Prop) :
  ∀ (r i n:Nat),i+r=cs.length→r<n→ydq a0 yaG a2 a3 a4 a5 x0 x1 n (cks cs) (rspL A) (tabW cs A) (tabW cs A) (tabW cs A) (cs.length:Int) (i:Int)=x0 (cks cs) (rspL A) (tabW cs A) (tabW cs A) (tabW cs A) (cs.length:Int) (cs.length:Int) false
 | 0,i,n+1,hi,hn=>by
  obtain rfl:i=cs.length:=by omega
  rw [ydq,cbF (by omega)]
 | r+1,i,n+1,hi,hn=>by
  have h6:=h.d.n6;have hl:=h.l
  have e1:=wib (n:=(i:Int)+1) (by omega) (by omega)
  have ih:=yDU h (a0:=a0) (a2:=a2) (a3:=a3) (a4:=a4) (a5:=a5) x0 x1 r (i+1) n (by omega) (by omega)
  rw [ydq]
  dsimp only [lt]
  rw [cbT (by omega),ynG,asT (by omega),asT (by omega),qAg,ywj (by omega),asD,asT (by omega),asT (by omega),asD,datD,yGS (by rw [qAf];omega),e1,ycR,qBq,yae,ih]
def hasC (c:Int) (i:Nat):Bool:=yLI (Int.fdiv c (2 ^ (min ((i:Int)).toNat IntKind.u8.bits))) 1 == 0
theorem yKe (h:DV cs A) (hw:∀ c∈cs,∀ a∈A,Go.Pf.Vc.small (wV c a)) {a0 a1 a2 a3 a4} (x0:List PV→List PV→List PV→Int→List PV→Int→Bool→Prop) (x1:List PV→List PV→List PV→Bool→Int→Prop) {c:Int} {l4:List PV} {n i:Nat} (hi:i<5)
  (hb:hasC c i=false→bitC i≠8∧(brk cs A [] (gapD cs A) (bitC i)).2.2=false) :
  ycO a0 a1 a2 a3 a4 yaD x0 x1 (n+1) (cks cs) (rspL A) (tabW cs A) c l4 (i:Int)=ycO a0 a1 a2 a3 a4 yaD x0 x1 n (cks cs) (rspL A) (tabW cs A) c l4 ((i+1:Nat):Int):=by
 have e1:=wib (n:=(i:Int)+1) (by omega) (by omega)
 have hn:(!decide ((i:Int)<0))=true:=by rw [decide_eq_false (by omega)];rfl
 rw [ycO]
 dsimp only [lt,Go.Pf.jn]
 rw [cbT (by omega),hn,yaO,yaO,yI9 hi,e1,ycR]
 show cbr (hasC c i) _ _=_
 cases hc:hasC c i with
 | true=>rw [yas]
 | false =>
  obtain ⟨h8,hf⟩:=hb hc
  have hg:=yDT h hw (P:=[]) (c:=bitC i) (fun e=>absurd e h8) (yLH i) (g:=gapD cs A) (fun K=>h.gapD_eq (tabW cs A) (rts []) K)
  have hg:∀ K,yaD (cks cs) (rspL A) (tabW cs A) [] (bitC i) K=_:=hg
  rw [yae,hg,hf,yae]
theorem DV.Accept (h:DV cs A) (hw:∀ c∈cs,∀ a∈A,Go.Pf.Vc.small (wV c a)) (hW:∀ K,yaR (cks cs) (rspL A) K=K (tabW cs A) 0) {c:Int} (hc:c<32) (h8:yLI c 8=0)
  (hb:∀ i,i<5→hasC c i=false→bitC i≠8∧(brk cs A [] (gapD cs A) (bitC i)).2.2=false) (K:Bool→Int→Prop):yeg (cks cs) (rspL A) c (tabW cs A) K=K true 0:=by
 refine yxE _ _ _ _ _ _ (fun K k=>?_) K
 have h6:=h.d.n6
 unfold yeg yjI
 rw [hW,cnF rfl]
 dsimp only [Go.Pf.jn,lt]
 rw [cbF (by omega),ynG,cnF rfl]
 refine ⟨cs.length+1,(yDU h _ _ cs.length 0 (cs.length+1) (by omega) (by omega)).mpr ?_⟩
 show cbr (yLI c 8 != 0) _ _
 rw [h8,cnF rfl]
 refine ⟨6,?_⟩
 have s:=fun (n i:Nat) (hi:i<5)=>yKe h hw (a0:=yaR) (a1:=yaG) (a2:=yaj) (a3:=yaJ) (a4:=yaW) (fun _ _ _ _ _ _ _=>K true 0) (fun _ _ _ b e=>K b e) (c:=c) (l4:=tabW cs A) (n:=n) hi (hb i hi)
 refine (s 5 0 (by omega)).mpr ((s 4 1 (by omega)).mpr ((s 3 2 (by omega)).mpr ((s 2 3 (by omega)).mpr ((s 1 4 (by omega)).mpr ?_))))
 rw [ycO,cbF (by omega)]
 exact k
theorem yKf {P:List Rat} {g:Bool}:(brk cs A P g 16).2.2=false↔∀ a,a<cs.length→(A.getD a []).length=1:=by
 have e:brk cs A P g 16=yij (ycG (wr4 A) cs.length cs.length 0):=rfl
 rw [e,yB3,yoG]
 constructor
 ·intro h a ha
  have:=h a (by omega) (by omega) a ha
  unfold wr4 at this
  rw [decide_eq_true rfl,qBm,decide_eq_false_iff_not] at this
  exact Classical.not_not.1 this
 ·intro h a _ ha b hb
  unfold wr4
  rw [decide_eq_false (not_not_intro (h a (by omega))),Bool.and_false]
theorem DV.Accept19 (h:DV cs A) (hw:∀ c∈cs,∀ a∈A,Go.Pf.Vc.small (wV c a)) (hW:∀ K,yaR (cks cs) (rspL A) K=K (tabW cs A) 0)
  (h0:ycG (wr0 A) cs.length cs.length 0=none) (hg:gapD cs A=false) (h1:∀ a,a<cs.length→yt9 cs a≤wV (cs.getD a default) (A.getD a [])) (h4:∀ a,a<cs.length→(A.getD a []).length=1) (K:Bool→Int→Prop):yeg (cks cs) (rspL A) 19 (tabW cs A) K=K true 0:=by
 refine h.Accept hw hW (by omega) (by decide) (fun i hi hc=>?_) K
 obtain rfl | rfl | rfl | rfl | rfl:i=0∨i=1∨i=2∨i=3∨i=4:=by omega
 ·exact ⟨by decide,yGQ.2 ⟨h0,hg⟩⟩
 ·exact ⟨by decide,yGR.2 h1⟩
 ·exact absurd hc (by decide)
 ·exact absurd hc (by decide)
 ·exact ⟨by decide,yKf.2 h4⟩
end
theorem yOs (q:Qy):yaa (yab (encQ q) 0)=q.agent:=rfl
theorem yOt (q:Qy):yaa (yab (encQ q) 1)=q.kind:=rfl
theorem yOu (q:Qy):yaa (yab (encQ q) 2)=q.an:=rfl
theorem yOv (q:Qy):yaa (yab (encQ q) 3)=q.ad:=rfl
theorem yOw (q:Qy):yaa (yab (encQ q) 4)=q.bn:=rfl
theorem yOx (q:Qy):yaa (yab (encQ q) 5)=q.bd:=rfl
theorem yOy (q:Qy):yaa (yab (encQ q) 6)=q.cn:=rfl
theorem yOz (q:Qy):yaa (yab (encQ q) 7)=q.cd:=rfl
def QR (cs:List Ck) (q:Qy):Prop :=
 (0≤q.agent∧q.agent<cs.length)∧(I64 q.an∧I64 q.ad∧I64 q.bn∧I64 q.bd) ∧
  ∃ p:Rat,(q.cn=p.num∧q.cd=p.den) ∧
   ((q.kind=2∧mrkR (cs.getD q.agent.toNat default).len (cs.getD q.agent.toNat default).cuts (cs.getD q.agent.toNat default).dens q.an q.ad q.bn q.bd=.ok p) ∨
    (q.kind=1∧valR (cs.getD q.agent.toNat default).len (cs.getD q.agent.toNat default).cuts (cs.getD q.agent.toNat default).dens q.an q.ad q.bn q.bd=.ok p))
section
variable {cs:List Ck} {lg:List Qy}
theorem yyz (hd:DK cs) (hl:lg.length≤2000) (hq:∀ q∈lg,QR cs q) {a0} (x0:List PV→List PV→List PV→List PV→Int→Int→Bool→Prop) (x1:Int→Int→Prop) :
  ∀ (r i n:Nat),i+r=lg.length→r<n→yd6 a0 ybN ych ybU x0 x1 n (logs lg) (cks cs) (logs lg) (logs lg) (lg.length:Int) (i:Int)=x0 (logs lg) (cks cs) (logs lg) (logs lg) (lg.length:Int) (lg.length:Int) false
 | 0,i,n+1,hi,hn=>by
  obtain rfl:i=lg.length:=by omega
  rw [yd6,cbF (by omega)]
 | r+1,i,n+1,hi,hn=>by
  have h6:=hd.n6
  have e1:=wib (n:=(i:Int)+1) (by omega) (by omega)
  have ih:=yyz hd hl hq (a0:=a0) x0 x1 r (i+1) n (by omega) (by omega)
  have hm:=ycv (default:Qy) (show i<lg.length by omega)
  obtain ⟨⟨g0,g1⟩,⟨i1,i2,i3,i4⟩,p,⟨p1,p2⟩,hk⟩:=hq _ hm
  rw [yd6]
  dsimp only [lt,Go.Pf.jn]
  rw [cbT (by omega),yii,asT (by omega),asT (by omega),qAg,yMt (by omega),asQ,yOs,yOt,yOu,yOv,yOw,yOx,yOy,yOz,e1,ycR,ih]
  generalize lg.getD i default=q at *
  have hok:=hd.ok q.agent.toNat (by omega)
  have l1:=hok.l1;have l2:=hok.l2
  have em:∀ K,ych (cks cs) (logs lg) q.agent q.an q.ad q.bn q.bd K=exK (mrkR (cs.getD q.agent.toNat default).len (cs.getD q.agent.toNat default).cuts (cs.getD q.agent.toNat default).dens q.an q.ad q.bn q.bd) K:=fun K=>by
   rw [ych,yfw,ya8,yej (by omega),asT (by omega),asT (by omega),asCk,ck0,ck1,ck2,yGD (by omega) (by omega) i1 i2 i3 i4]
  have ev:∀ K,ybU (cks cs) (logs lg) q.agent q.an q.ad q.bn q.bd K=exK (valR (cs.getD q.agent.toNat default).len (cs.getD q.agent.toNat default).cuts (cs.getD q.agent.toNat default).dens q.an q.ad q.bn q.bd) K:=fun K=>by
   rw [ybU,ye3,ya8,yej (by omega),asT (by omega),asT (by omega),asCk,ck0,ck1,ck2,yxR (by omega) (by omega) i1 i2 i3 i4]
  have hh:∀ K,ybN (cks cs) (logs lg) q.agent K=K true:=fun K=>by rw [yFj,decide_eq_true ⟨g0,g1⟩]
  have es:((p.num == q.cn)&&(((p.den:Int) == q.cd)&&true))=true:=by rw [p1,p2];simp
  rcases hk with ⟨k2,hr⟩ | ⟨k1,hr⟩
  ·rw [ceT k2,hh,qBq,yae,cbF (by omega),decide_eq_false (by omega),yae,em,hr]
   rw [yFi,cnF rfl,es,qBq,yae]
  ·rw [ceF (by omega),hh,qBq,yae,cbF (by omega),decide_eq_false (by omega),yae,ev,hr]
   rw [yFi,cnF rfl,es,qBq,yae]
theorem yKg (hd:DK cs) (hl:lg.length≤2000) (hq:∀ q∈lg,QR cs q) (K:Int→Int→Prop):ygx (cks cs) (logs lg) K=K (lg.length:Int) 0:=by
 refine yA8 _ _ _ _ (fun K k=>?_) K
 have h6:=hd.n6
 unfold ygx ymA
 rw [yiU hd.fin (by omega),yii,cnF (hd.err hl)]
 refine ⟨lg.length+1,(yyz hd hl hq _ _ lg.length 0 (lg.length+1) (by omega) (by omega)).mpr ?_⟩
 rw [yii]
 exact k
end
theorem yLJ {n g:Nat} (e:Es) (he:EG e) {x y:PV} (hx:(ylx n g).s.gd x=true) (hy:(ylx n g).s.gd y=true):Ans (E e) yc5 [x,y] (.int .i64 (yoS x y)):=by
 obtain ⟨a,b,c,d,rfl,h1⟩:=yMZ hx
 obtain ⟨a',b',c',d',rfl,h2⟩:=yMZ hy
 obtain ⟨r,hr,ha⟩:=yqC e he [.agg [.int .i64 a,.int .i64 b,.int .i64 c,.int .i64 d],.agg [.int .i64 a',.int .i64 b',.int .i64 c',.int .i64 d']] (fun r=>r=.int .i64 (cmpI a b a' b')) (by
  show ygL a b c d a' b' c' d' (fun r=>PV.int .i64 r=.int .i64 (cmpI a b a' b'))
  unfold ygL ygg
  obtain ⟨k1,k2,k3⟩:=ynE h1
  obtain ⟨k4,k5,k6⟩:=ynE h2
  have:=yoF k1 k4 (fun x _=>PV.int .i64 x=.int .i64 (cmpI a b a' b'))
  rw [k2,k3,k5,k6] at this
  rw [this,yNF h1 h2])
 rw [hr] at ha
 exact ha
structure LD (cs:List Ck) (A:List (List RS)) (t:Nat→Rat) (τ:Nat→Nat):Prop where
 d:DK cs
 l:A.length=cs.length
 t0:t 0=0
 tn:t cs.length=((cs.getD 0 default).len:Rat)
 lt:∀ j,j<cs.length→t j<t (j+1)
 sm:∀ j,j≤cs.length→small (t j)
 at_:∀ a,a<cs.length→τ a<cs.length∧A.getD a []=[(t (τ a),t (τ a+1))]
 inj:∀ a b,a<cs.length→b<cs.length→τ a=τ b→a=b
 sur:∀ j,j<cs.length→∃ a,a<cs.length∧τ a=j
section
variable {cs:List Ck} {A:List (List RS)} {t:Nat→Rat} {τ:Nat→Nat}
theorem LD.mono (h:LD cs A t τ):∀ {j i:Nat},i≤j→j≤cs.length→t i≤t j
 | 0,i,hij,_=>by
  obtain rfl:i=0:=by omega
  exact qA6
 | j+1,i,hij,hj=>by
  by_cases e:i=j+1
  ·subst e;exact qA6
  ·have:=h.mono (j:=j) (i:=i) (by omega) (by omega)
   have:=h.lt j (by omega)
   grind
theorem LD.bound (h:LD cs A t τ) {j:Nat} (hj:j≤cs.length):0≤t j∧t j≤((cs.getD 0 default).len:Rat):=by
 have a:=h.mono (qBj j) hj
 have b:=h.mono hj (qAk _)
 rw [h.t0] at a
 rw [h.tn] at b
 exact ⟨a,b⟩
theorem LD.DV (h:LD cs A t τ):DV cs A:=by
 have hA:∀ a∈A,∃ j,j<cs.length∧a=[(t j,t (j+1))]:=fun a ha=>by
  obtain ⟨i,hi,rfl⟩:=yqW [] ha
  have hl:=h.l
  obtain ⟨k1,k2⟩:=h.at_ i (by omega)
  exact ⟨_,k1,k2⟩
 refine ⟨h.d,h.l,fun a ha=>?_,fun a ha=>?_,fun a ha=>?_⟩
 ·obtain ⟨j,hj,rfl⟩:=hA a ha
  refine ⟨⟨h.lt j hj,(fun t ht=>by cases ht),trivial⟩,fun s hs=>?_,by simp⟩
  rcases qAt.1 hs with rfl | hs
  ·exact ⟨h.sm j (by omega),h.sm (j+1) (by omega)⟩
  ·cases hs
 ·obtain ⟨j,hj,rfl⟩:=hA a ha
  simp
 ·obtain ⟨j,hj,rfl⟩:=hA a ha
  have b1:=h.bound (j:=j) (by omega)
  have b2:=h.bound (j:=j+1) (by omega)
  unfold yLx
  rw [List.all_eq_true]
  intro s hs
  rcases qAt.1 hs with rfl | hs
  ·rw [decide_eq_true (yyu (h.sm j (by omega)) b1.1 b1.2),decide_eq_true (yyu (h.sm (j+1) (by omega)) b2.1 b2.2)]
   rfl
  ·cases hs
theorem LD.none (h:LD cs A t τ):ycG (wr0 A) cs.length cs.length 0=none:=by
 refine yoG.2 fun a _ ha b hb=>?_
 have hv:=h.DV
 have hl:=h.l
 unfold wr0
 by_cases hab:a<b
 case neg=>rw [decide_eq_false hab,qBs]
 rw [decide_eq_true hab,qBm]
 cases ht:yqV (A.getD a []) (A.getD b []) with
 | false=>rfl
 | true =>
  have ma:=ycv [] (show a<A.length by omega)
  have mb:=ycv [] (show b<A.length by omega)
  obtain ⟨p,p1,p2⟩:=(yH4 (ynF (hv.p _ ma).c) (ynF (hv.p _ mb).c)).1 ht
  obtain ⟨k1,k2⟩:=h.at_ a (by omega)
  obtain ⟨m1,m2⟩:=h.at_ b hb
  rw [k2] at p1
  rw [m2] at p2
  have hne:τ a≠τ b:=fun e=>by
   have:=h.inj a b (by omega) hb e
   omega
  obtain ⟨s,hs,q1,q2⟩:=p1
  rcases qAt.1 hs with rfl | hs
  case inr=>cases hs
  obtain ⟨s,hs,r1,r2⟩:=p2
  rcases qAt.1 hs with rfl | hs
  case inr=>cases hs
  dsimp only at q1 q2 r1 r2
  by_cases hlt:τ a<τ b
  ·have:=h.mono (i:=τ a+1) (j:=τ b) (by omega) (by omega)
   grind
  ·have:=h.mono (i:=τ b+1) (j:=τ a) (by omega) (by omega)
   grind
theorem LD.nogap (h:LD cs A t τ):gapD cs A=false:=by
 cases hg:gapD cs A with
 | false=>rfl
 | true =>
  obtain ⟨p,p0,p1,hn⟩:=yGO.1 hg
  refine absurd ?_ hn
  have key:∀ n,n≤cs.length→p<t n→∃ j,j<n∧t j≤p∧p<t (j+1):=by
   intro n
   induction n with
   | zero =>
    intro _ hp
    rw [h.t0] at hp
    grind
   | succ n ih =>
    intro hn hp
    by_cases hc:p<t n
    ·obtain ⟨j,h1,h2,h3⟩:=ih (by omega) hc
     exact ⟨j,by omega,h2,h3⟩
    ·exact ⟨n,by omega,Rat.not_lt.1 hc,hp⟩
  obtain ⟨j,j1,j2,j3⟩:=key cs.length (qAk _) (by rw [h.tn];exact p1)
  obtain ⟨a,a1,rfl⟩:=h.sur j j1
  have hl:=h.l
  refine ⟨A.getD a [],ycv [] (by omega),(t (τ a),t (τ a+1)),?_,j2,j3⟩
  rw [(h.at_ a a1).2]
  exact qAo
theorem LD.one (h:LD cs A t τ):∀ a,a<cs.length→(A.getD a []).length=1:=fun a ha=>by rw [(h.at_ a ha).2];rfl
theorem LD.wV (h:LD cs A t τ) (c:Ck) {a:Nat} (ha:a<cs.length):wV c (A.getD a [])=vX c.cuts c.dens (t (τ a+1))-vX c.cuts c.dens (t (τ a)):=by
 rw [(h.at_ a ha).2]
 show (vX _ _ _-vX _ _ _)+0=_
 rw [Rat.add_zero]
theorem LD.InA (h:LD cs A t τ) {D:Int} (hi:∀ j,j≤cs.length→In D (t j)):InA D A:=fun a ha s hs=>by
 obtain ⟨i,hi',rfl⟩:=yqW [] ha
 have hl:=h.l
 obtain ⟨k1,k2⟩:=h.at_ i (by omega)
 rw [k2] at hs
 rcases qAt.1 hs with rfl | hs
 ·exact ⟨hi _ (by omega),hi _ (by omega)⟩
 ·cases hs
end
section
variable {len:Int} {cuts dens:List Int}
theorem ywl (h:VC len cuts dens):∀ (r i:Nat) (p v:Rat),i+r=dens.length→((cuts.getD i 0:Int):Rat)≤p→p≤(len:Rat)→0<v→v≤vu cuts dens (len:Rat) r i-vu cuts dens p r i →
  ∀ D,1≤D→D≤1000000000000→In D p→In D v→v≤12000→∃ q d,mrkS cuts dens r i p v=.ok q∧(1≤d∧d≤12)∧In (d*D) q
 | 0,i,p,v,hi,_,_,v0,v1=>by
  unfold vu at v1
  grind
 | r+1,i,p,v,hi,hp,p1,v0,v1=>by
  intro D D1 D2 hpD hvD hv
  have l1:=h.l1
  have hl:=yI5 h
  have hd:=yI6 h (i:=i) (by omega)
  have hd2:=h.den (i:=i) (by omega)
  have hc0:(0:Rat)≤((cuts.getD i 0:Int):Rat):=Rat.intCast_nonneg.2 (h.lo (by omega))
  have hst:((cuts.getD i 0:Int):Rat)<((cuts.getD (i+1) 0:Int):Rat):=Rat.intCast_lt_intCast.2 (h.step (i:=i) (by omega))
  have hc1:((cuts.getD (i+1) 0:Int):Rat)≤(len:Rat):=by rw [← h.last];exact yzH h (by omega) (qAk _)
  have low:=yBU h r (i+1) (x:=p) (y:=((cuts.getD (i+1) 0:Int):Rat)) (by omega)
  have m1:=yf1 p (cuts.getD i 0:Int)
  have m2:=yf1 (len:Rat) (cuts.getD i 0:Int)
  have n1:=yg8 (maxR p (cuts.getD i 0:Int)) (cuts.getD (i+1) 0:Int)
  have n2:=yg8 (maxR (len:Rat) (cuts.getD i 0:Int)) (cuts.getD (i+1) 0:Int)
  have el:uC cuts i (len:Rat)=((cuts.getD (i+1) 0:Int):Rat):=by unfold uC;grind
  unfold vu at v1
  rw [el] at v1
  unfold mrkS
  by_cases c1:p<((cuts.getD (i+1) 0:Int):Rat)
  case neg =>
   rw [if_pos c1]
   have ep:uC cuts i p=((cuts.getD (i+1) 0:Int):Rat):=by unfold uC;grind
   rw [ep] at v1
   exact ywl h r (i+1) p v (by omega) (Rat.not_lt.1 c1) p1 v0 (by grind) D D1 D2 hpD hvD hv
  rw [if_neg (fun k=>k c1)]
  have ep:uC cuts i p=p:=by unfold uC;grind
  rw [ep,low (qAy c1) qA6] at v1
  by_cases cz:dens.getD i 0=0
  ·rw [if_pos cz]
   rw [cz] at v1
   have e0:((0:Int):Rat)=0:=rfl
   exact ywl h r (i+1) ((cuts.getD (i+1) 0:Int):Rat) v (by omega) qA6 hc1 v0 (by grind) D D1 D2 (In.int D1 _) hvD hv
  rw [if_neg cz]
  have hd1:0<dens.getD i 0:=by omega
  have dpos:(0:Rat)<((dens.getD i 0:Int):Rat):=qB0.2 hd1
  have m:=yI7 (x:=((cuts.getD (i+1) 0:Int):Rat)-p) (by grind) hd
  by_cases c3:(((cuts.getD (i+1) 0:Int):Rat)-p)*((dens.getD i 0:Int):Rat)<v
  ·have i1:=(In.int D1 (cuts.getD (i+1) 0)).sub hpD
   have i2:=i1.mulI (dens.getD i 0)
   have i3:=hvD.sub i2
   rw [ymW (i1.small (M:=1000) ⟨by omega,by omega⟩ (by omega) (by show -(1000:Rat)≤_;grind) (by show _≤(1000:Rat);grind)),
    ymW (i2.small (M:=12000) ⟨by omega,by omega⟩ (by omega) (by show -(12000:Rat)≤_;grind) (by show _≤(12000:Rat);grind)),if_pos c3,
    ymW (i3.small (M:=12000) ⟨by omega,by omega⟩ (by omega) (by show -(12000:Rat)≤_;grind) (by show _≤(12000:Rat);grind))]
   exact ywl h r (i+1) ((cuts.getD (i+1) 0:Int):Rat) (v-(((cuts.getD (i+1) 0:Int):Rat)-p)*((dens.getD i 0:Int):Rat)) (by omega) qA6 hc1 (by grind) (by grind) D D1 D2 (In.int D1 _) i3 (by grind)
  ·have i1:=(In.int D1 (cuts.getD (i+1) 0)).sub hpD
   have i2:=i1.mulI (dens.getD i 0)
   have i3:=hvD.div D1 (d:=dens.getD i 0) (by omega)
   have i4:=(hpD.up D1 (d:=dens.getD i 0) (by omega)).add i3
   have hDD:dens.getD i 0*D≤12*D:=qAh hd2.2 (by omega)
   have hDD1:1*1≤dens.getD i 0*D:=qB1 (by omega) D1 (by omega) (by omega)
   generalize hs:v / ((dens.getD i 0:Int):Rat)=s at *
   have es:s*((dens.getD i 0:Int):Rat)=v:=by rw [← hs];exact Rat.div_mul_cancel (by grind)
   have s0:0≤s:=by
    refine Rat.not_lt.1 fun k=>?_
    have:=Rat.mul_lt_mul_of_pos_right k dpos
    grind
   have s1:p+s≤((cuts.getD (i+1) 0:Int):Rat):=by
    refine Rat.not_lt.1 fun k=>?_
    have:(((cuts.getD (i+1) 0:Int):Rat)-p)<s:=by grind
    have:=Rat.mul_lt_mul_of_pos_right this dpos
    grind
   rw [ymW (i1.small (M:=1000) ⟨by omega,by omega⟩ (by omega) (by show -(1000:Rat)≤_;grind) (by show _≤(1000:Rat);grind)),
    ymW (i2.small (M:=12000) ⟨by omega,by omega⟩ (by omega) (by show -(12000:Rat)≤_;grind) (by show _≤(12000:Rat);grind)),if_neg c3,
    ymW (i3.small (M:=1000) ⟨by omega,by omega⟩ (by omega) (by show -(1000:Rat)≤_;grind) (by show _≤(1000:Rat);grind)),
    ymW (i4.small (M:=1000) ⟨by omega,by omega⟩ (by omega) (by show -(1000:Rat)≤_;grind) (by show _≤(1000:Rat);grind))]
   exact ⟨_,dens.getD i 0,rfl,⟨by omega,hd2.2⟩,i4⟩
theorem yLK (h:VC len cuts dens) {p v:Rat} (p0:0≤p) (p1:p≤(len:Rat)) (v0:0<v) (hv:v≤vX cuts dens (len:Rat)-vX cuts dens p) {D:Int} (D1:1≤D) (D2:D≤1000000000000) (hp:In D p) (hvD:In D v) :
  ∃ q d,mrkC cuts dens p v=.ok q∧(1≤d∧d≤12)∧In (d*D) q∧vX cuts dens q=vX cuts dens p+v∧p<q∧q≤(len:Rat)∧∀ x,x<q→vX cuts dens x<vX cuts dens q:=by
 have c0:cuts.getD 0 0=0:=h.2.2.2.2.2.1
 have t:=yFn h
 have m0:=ywh h p0
 have tb:((totC cuts dens:Int):Rat)≤12000:=qAw.2 (yiT h).2
 obtain ⟨q,d,e,hd,hq⟩:=ywl h dens.length 0 p v (by omega) (by rw [c0];exact p0) p1 v0 hv D D1 D2 hp hvD (by grind)
 have ec:mrkC cuts dens p v=.ok q:=by
  unfold mrkC
  rw [if_neg (by grind)]
  exact e
 obtain ⟨k1,k2,k3,_,k5⟩:=yMC h p0 p1 (qAy v0) ec
 refine ⟨q,d,ec,hd,hq,k1,?_,k3,k5 (by grind)⟩
 by_cases hlt:p<q
 ·exact hlt
 ·have:p=q:=by grind
  rw [← this] at k1
  grind
end
section
variable {l:List Ck}
def vXA (l:List Ck) (a:Nat) (p:Rat):Rat:=vX (l.getD a default).cuts (l.getD a default).dens p
def lenR (l:List Ck):Rat:=((l.getD 0 default).len:Rat)
def valQ (an ad:Int) (a:Nat) (p v:Rat):Qy:=⟨a,1,an,ad,p.num,p.den,v.num,v.den⟩
def valE (l:List Ck) (an ad:Int) (m a:Nat) (p:Rat):Except Int Rat:=qryR l m a (Ck.value an ad p.num p.den)
theorem yKh (hd:DK l) {a:Nat} (_:a<l.length) {an ad:Int} (ha:I64 an) (ha':I64 ad) (lg:List Qy) {p:Rat} (hp:small p) (K:List PV→List PV→Int→Int→Int→Prop) :
  yeK (cks l) (logs lg) a an ad p.num p.den K =
   match valE l an ad lg.length a p with
   | .ok v=>K (cks l) (logs (lg++[valQ an ad a p v])) v.num v.den 0
   | .error e=>K [] [] 0 0 e:=by
 have n6:=hd.n6
 rw [yJ0 hd.fin (by omega) (yDJ lg) ha ha' hp.i1 hp.i2,yii]
 have em:qryR l lg.length a (Ck.value an ad p.num p.den)=valE l an ad lg.length a p:=rfl
 rw [em]
 cases valE l an ad lg.length a p with
 | ok v =>
  show K (cks l) (logs lg++[_]) _ _ _=K (cks l) (logs (lg++[_])) _ _ _
  rw [yGF];rfl
 | error c=>rfl
theorem yDV (hd:DK l) {a:Nat} (h:a<l.length) {q p:Rat} (hs:small q) (hp:small p) (q0:0≤q) (qp:q≤p) (p1:p≤lenR l) {D:Int} (hD:1≤D∧D≤50000000000000) (hq:In D q) (hpD:In D p) {m:Nat} (hm:m<2000) :
  valE l q.num q.den m a p=.ok (vXA l a p-vXA l a q)∧QR l (valQ q.num q.den a p (vXA l a p-vXA l a q)):=by
 have hok:=hd.ok a h
 have hlen:=hd.len a h
 have p1':p≤((l.getD a default).len:Rat):=by rw [hlen];exact p1
 have e:valR (l.getD a default).len (l.getD a default).cuts (l.getD a default).dens q.num q.den p.num p.den=.ok (vXA l a p-vXA l a q):=by
  unfold valR
  rw [if_pos hok.ck,yeN,yeN,if_pos ⟨yyu hs q0 (Rat.le_trans qp p1'),yyu hp (Rat.le_trans q0 qp) p1',Rat.not_lt.2 qp⟩]
  exact yDP hok hD hq hpD q0 qp p1'
 refine ⟨?_,⟨by show (0:Int)≤a;omega,by show (a:Int)<_;omega⟩,⟨hs.i1,hs.i2,hp.i1,hp.i2⟩,vXA l a p-vXA l a q,⟨rfl,rfl⟩,.inr ⟨rfl,?_⟩⟩
 ·unfold valE qryR
  rw [if_pos (hd.err (by omega)),if_pos ⟨by omega,by omega⟩,qAg]
  have:Ck.value q.num q.den p.num p.den (l.getD a default)=.ok (vXA l a p-vXA l a q):=e
  rw [this]
  show (if m≥2000 then _ else _)=_
  rw [if_neg (by omega)]
 ·exact e
theorem yLL (hd:DK l) {q p:Rat} {d D:Int} (q0:0≤q) (qp:q≤p) (p1:p≤lenR l) (hd12:1≤d∧d≤12) (D1:1≤D) (D2:D≤1000000000000) (h:In (d*D) p):small p:=by
 have hn:=hd.n0
 have l0:=(hd.ok 0 (by omega)).len0
 have hL:lenR l≤1000:=qAw.2 l0.2
 have hdD:d*D≤12*D:=qAh hd12.2 (by omega)
 have hdD1:1*1≤d*D:=qB1 hd12.1 D1 (by omega) (by omega)
 exact h.small (M:=1000) ⟨by omega,by omega⟩ (by omega) (by show -(1000:Rat)≤_;grind) (by show _≤(1000:Rat);grind)
end
set_option maxRecDepth 100000
section
variable {l:List Ck}
def mkV (l:List Ck) (a:Nat) (q v:Rat):Rat:=getR (mrkC (l.getD a default).cuts (l.getD a default).dens q v)
def mkQ (a:Nat) (q v p:Rat):Qy:=⟨a,2,q.num,q.den,v.num,v.den,p.num,p.den⟩
def vlQ (l:List Ck) (a:Nat) (q p:Rat):Qy:=valQ q.num q.den a p (vXA l a p-vXA l a q)
structure MkV (l:List Ck) (a:Nat) (q v:Rat) (D:Int):Prop where
 e:mrkC (l.getD a default).cuts (l.getD a default).dens q v=.ok (mkV l a q v)
 d:∃ d:Int,(1≤d∧d≤12)∧In (d*D) (mkV l a q v)
 eqv:vXA l a (mkV l a q v)=vXA l a q+v
 ge:q≤mkV l a q v
 le:mkV l a q v≤lenR l
theorem yNI (hd:DK l) {a:Nat} (ha:a<l.length) {q v:Rat} (q0:0≤q) (q1:q≤lenR l) (v0:0≤v) (hv:v≤vXA l a (lenR l)-vXA l a q) {D:Int} (D1:1≤D) (D2:D≤1000000000000) (hq:In D q) (hvD:In D v):MkV l a q v D:=by
 have hok:=hd.ok a ha
 have hlen:=hd.len a ha
 by_cases hz:v=0
 ·have e:mrkC (l.getD a default).cuts (l.getD a default).dens q v=.ok q:=by unfold mrkC;rw [if_pos hz]
  have g:mkV l a q v=q:=by unfold mkV;rw [e];rfl
  refine ⟨by rw [g];exact e,⟨1,by omega,by rw [g,Int.one_mul];exact hq⟩,by rw [g,hz];grind,by rw [g];exact qA6,by rw [g];exact q1⟩
 have v0:0<v:=by grind
 unfold vXA lenR at *
 rw [← hlen] at q1 hv
 obtain ⟨p,d,e,hd12,hp,k1,k2,k3,k4⟩:=yLK hok q0 q1 v0 hv D1 D2 hq hvD
 obtain ⟨_,g2⟩:=yMu e
 have g2:mkV l a q v=p:=g2
 refine ⟨?_,⟨d,hd12,?_⟩,?_,?_,?_⟩
 ·rw [g2];exact e
 ·rw [g2];exact hp
 ·rw [g2];exact k1
 ·rw [g2];exact qAy k2
 ·rw [g2];unfold lenR;rw [← hlen];exact k3
theorem MkV.sm {a:Nat} {q v:Rat} {D:Int} (hd:DK l) (D1:1≤D) (D2:D≤1000000000000) (q0:0≤q) (h:MkV l a q v D):small (mkV l a q v):=by
 obtain ⟨d,hd12,hp⟩:=h.d
 exact yLL hd q0 h.ge h.le hd12 D1 D2 hp
theorem yKi (hd:DK l) {a:Nat} (ha:a<l.length) {q v:Rat} (hs:small q) (q0:0≤q) (q1:q≤lenR l) (hv:small v) (v0:0≤v) {D:Int} (h:MkV l a q v D) {lg:List Qy} (hm:lg.length<2000) (K:List PV→List PV→Int→Int→Int→Prop) :
  yeS (cks l) (logs lg) a q.num q.den v.num v.den K=K (cks l) (logs (lg++[mkQ a q v (mkV l a q v)])) (mkV l a q v).num (mkV l a q v).den 0:=by
 have n6:=hd.n6
 have hok:=hd.ok a ha
 have e1:mrkR (l.getD a default).len (l.getD a default).cuts (l.getD a default).dens q.num q.den v.num v.den=.ok (mkV l a q v):=by
  unfold mrkR
  rw [if_pos hok.ck,if_pos ⟨yyu hs q0 (by rw [hd.len a ha];exact q1),hv.rv,Rat.num_nonneg.2 v0⟩,yeN,yeN]
  exact h.e
 have e2:qryR l lg.length (a:Int) (Ck.mark q.num q.den v.num v.den)=.ok (mkV l a q v):=by
  unfold qryR
  rw [if_pos (hd.err (by omega)),if_pos ⟨by omega,by omega⟩,qAg]
  have:Ck.mark q.num q.den v.num v.den (l.getD a default)=.ok (mkV l a q v):=e1
  rw [this]
  show (if lg.length≥2000 then _ else _)=_
  rw [if_neg (by omega)]
 rw [yLl hd.fin (by omega) (yDJ lg) hs.i1 hs.i2 hv.i1 hv.i2,yii,e2]
 show K (cks l) (logs lg++[_]) _ _ _=K (cks l) (logs (lg++[_])) _ _ _
 rw [yGF];rfl
theorem yNJ (hd:DK l) {a:Nat} (ha:a<l.length) {q p:Rat} (hs:small q) (hp:small p) (q0:0≤q) (qp:q≤p) (p1:p≤lenR l) {D:Int} (hD:1≤D∧D≤50000000000000) (hq:In D q) (hpD:In D p) {lg:List Qy} (hm:lg.length<2000) (K:List PV→List PV→Int→Int→Int→Prop) :
  yeK (cks l) (logs lg) a q.num q.den p.num p.den K=K (cks l) (logs (lg++[vlQ l a q p])) (vXA l a p-vXA l a q).num (vXA l a p-vXA l a q).den 0:=by
 rw [yKh hd ha hs.i1 hs.i2 lg hp,(yDV hd ha hs hp q0 qp p1 hD hq hpD (m:=lg.length) hm).1]
 rfl
def totR (l:List Ck) (a:Nat):Rat:=((totC (l.getD a default).cuts (l.getD a default).dens:Int):Rat)
end
theorem exS3 {P R:Nat→Prop} (h0:P 0=False) (h:∀ n,P (n+1)=R n):(∃ n,P n)=∃ n,R n :=
 propext ⟨fun ⟨n,hn⟩=>match n,hn with | 0,hn=>(h0 ▸ hn).elim | n+1,hn=>⟨n,(h n) ▸ hn⟩,fun ⟨n,hn⟩=>⟨n+1,(h n).symm ▸ hn⟩⟩
theorem exC3 {Q:Prop}:(∃ _:Nat,Q)=Q:=propext ⟨fun ⟨_,h⟩=>h,fun h=>⟨0,h⟩⟩
section
variable {l:List Ck}
def vS (l:List Ck) (a:Nat) (s:RS):Rat:=vXA l a s.2-vXA l a s.1
end
section
variable {l:List Ck}
theorem tot3 (hd:DK l) {a:Nat} (ha:a<l.length):vXA l a (lenR l)-vXA l a 0=totR l a:=by
 have h:=yFn (hd.ok a ha)
 unfold vXA lenR totR
 rw [← hd.len a ha]
 exact h
theorem yqX (hd:DK l) {a:Nat} (ha:a<l.length) {x y:Rat} (h:x≤y):vXA l a x≤vXA l a y:=ywh (hd.ok a ha) h
theorem lt3 (hd:DK l) {a:Nat} (ha:a<l.length) {x y:Rat} (h:vXA l a x<vXA l a y):x<y:=by
 refine Rat.not_le.1 fun k=>?_
 have:=yqX hd ha k
 grind
theorem tot0 (hd:DK l) {a:Nat} (ha:a<l.length):0<totR l a:=qB0.2 (yBM (hd.ok a ha))
theorem yOA (hd:DK l) {a:Nat} (ha:a<l.length):totR l a≤12000:=by
 have hok:=hd.ok a ha
 have l0:=hok.len0
 have hw:0≤(0:Rat)∧((l.getD a default).len:Rat)≤((l.getD a default).len:Rat):=⟨qA6,qA6⟩
 have h:=(yB1 hok (s:=((0:Rat),((l.getD a default).len:Rat))) (by
  show (0:Rat)<_
  exact qB0.2 (by omega)) hw).2
 have e:=yFn hok
 unfold totR
 rw [← e]
 exact h
theorem sm3 {q:Rat} {D:Int} (h:In D q) (hD:1≤D∧D≤10000000000) (h0:-12000≤q) (h1:q≤12000):small q :=
 h.small (M:=12000) ⟨hD.1,by omega⟩ (by omega) (by show -(12000:Rat)≤_;grind) (by show _≤(12000:Rat);grind)
theorem yOB {a:Nat} {D:Int} (hD:1≤D) {s:RS} (h:In D s.1∧In D s.2):In D (vS l a s):=(yI4 hD h.2).sub (yI4 hD h.1)
theorem yLM (hd:DK l) {a:Nat} (ha:a<l.length) {s:RS} (z:0≤s.1) (le:s.1≤s.2) (hl:s.2≤lenR l):0≤vS l a s∧vS l a s≤totR l a:=by
 have h1:=yqX hd ha z
 have h2:=yqX hd ha le
 have h3:=yqX hd ha hl
 have h4:=tot3 hd ha
 unfold vS
 constructor <;> grind
end
set_option maxHeartbeats 1000000
section
variable {l:List Ck}
theorem yOC {q r:Rat}:((q.num == r.num)&&(((q.den:Int) ==(r.den:Int))&&true))=decide (q=r):=by
 by_cases h:q=r
 ·subst h;simp
 ·rw [decide_eq_false h,Bool.and_true]
  cases h1:(q.num == r.num) with
  | false=>rfl
  | true =>
   cases h2:((q.den:Int) ==(r.den:Int)) with
   | false=>rfl
   | true =>
    simp only [beq_iff_eq] at h1 h2
    exact absurd (Rat.ext h1 (by omega)) h
end
section
variable {l:List Ck} {M:Nat→List RS}
theorem MkV.QR (hd:DK l) {a:Nat} (ha:a<l.length) {q v:Rat} (hs:small q) (q0:0≤q) (q1:q≤lenR l) (hv:small v) (v0:0≤v) {D:Int} (h:MkV l a q v D):QR l (mkQ a q v (mkV l a q v)):=by
 have hok:=hd.ok a ha
 have e1:mrkR (l.getD a default).len (l.getD a default).cuts (l.getD a default).dens q.num q.den v.num v.den=.ok (mkV l a q v):=by
  unfold mrkR
  rw [if_pos hok.ck,if_pos ⟨yyu hs q0 (by rw [hd.len a ha];exact q1),hv.rv,Rat.num_nonneg.2 v0⟩,yeN,yeN]
  exact h.e
 exact ⟨⟨by show (0:Int)≤a;omega,by show (a:Int)<_;omega⟩,⟨hs.i1,hs.i2,hv.i1,hv.i2⟩,mkV l a q v,⟨rfl,rfl⟩,.inl ⟨rfl,e1⟩⟩
end
set_option maxHeartbeats 1000000
section
variable {l:List Ck}
theorem yOD (hd:DK l) {a:Nat} (h2:a<l.length) {lg:List PV} (hm:lg.length≤2000) (K:Int→Int→Prop):yjp (cks l) lg a K=K (totC (l.getD a default).cuts (l.getD a default).dens) 0:=by
 have hok:=hd.ok a h2
 have n6:=hd.n6
 have h1:=VC.l1 hok;have h3:=VC.l2 hok
 unfold yjp yol
 rw [yiU hd.fin (by omega),hd.err hm,cnF rfl,yFj,decide_eq_true (by omega),qBq,yae]
 simp only [lt]
 rw [ya8,qAg,yej h2,asT (by omega),asT (by omega),asCk,ck0,ck1,ck2,yxQ (by omega) (by omega),if_pos (VC.ck hok)]
theorem yB4 (n:Int) (K:Int→Int→Prop):ya4 n K=K n 1:=rfl
def hAsk (l:List Ck) (q p:Rat):Bool:=decide (q.num>0)||!decide (p=lenR l)
def hLog (l:List Ck) (a:Nat) (q p r:Rat):List Qy:=(bif hAsk l q p then [vlQ l a q p] else [])++[mkQ a q ((vXA l a p-vXA l a q)*r) (mkV l a q ((vXA l a p-vXA l a q)*r))]
def hAt (l:List Ck) (a:Nat) (q p r:Rat):Rat:=mkV l a q ((vXA l a p-vXA l a q)*r)
theorem yOE (hd:DK l) {a:Nat} (ha:a<l.length) {q p r:Rat} (hs:small q) (hp:small p) (hr:small r) (q0:0≤q) (qp:q≤p) (p1:p≤lenR l) (r0:0≤r) {D:Int} (hD:1≤D∧D≤50000000000000) (hq:In D q) (hpD:In D p) (hv:small (vXA l a p-vXA l a q)) (hw:small ((vXA l a p-vXA l a q)*r)) (v0:0≤vXA l a p-vXA l a q) {E:Int} (h:MkV l a q ((vXA l a p-vXA l a q)*r) E) {lg:List Qy} (hm:lg.length+1<2000) (K) :
  yaP (cks l) (logs lg) a q.num q.den p.num p.den r.num r.den K=K (cks l) (logs (lg++hLog l a q p r)) (hAt l a q p r).num (hAt l a q p r).den 0:=by
 have mul:∀ K,ybC (vXA l a p-vXA l a q).num (vXA l a p-vXA l a q).den r.num r.den K=K ((vXA l a p-vXA l a q)*r).num ((vXA l a p-vXA l a q)*r).den 0:=fun K=>(yzA hv hr K).trans (by rw [ygz,if_pos hw])
 have w0:0≤(vXA l a p-vXA l a q)*r:=Rat.mul_nonneg v0 r0
 have tot:∀ K,yjp (cks l) (logs lg) a K=K (totC (l.getD a default).cuts (l.getD a default).dens) 0:=fun K=>yOD hd ha (by rw [yii];omega) K
 have n6:=hd.n6
 have h0:0<l.length:=by omega
 unfold yaP ymQ
 dsimp only [lt,Go.Pf.jn]
 rw [tot,yB4,show ((0:Int) == 0)=true from rfl,yas]
 have lnum:(lenR l).num=(l.getD 0 default).len:=Rat.num_intCast _
 have lden:(((lenR l).den:Nat):Int)=1:=by unfold lenR;rw [Rat.den_intCast];rfl
 have e1:((p.num ==(l.getD 0 default).len)&&(((p.den:Int) == 1)&&true))=decide (p=lenR l):=by
  have:=yOC (q:=p) (r:=lenR l)
  rw [lnum,lden] at this
  exact this
 have mk:∀ (lg':List Qy) (K),lg'.length<2000→yeS (cks l) (logs lg') a q.num q.den ((vXA l a p-vXA l a q)*r).num ((vXA l a p-vXA l a q)*r).den K=_:=fun lg' K hm'=>yKi hd ha hs q0 (Rat.le_trans qp p1) hw w0 h hm' K
 have X:hAsk l q p=true→∀ K':List PV→List PV→Int→Int→Int→Prop,(yeK (cks l) (logs lg) a q.num q.den p.num p.den fun c g e0 e1 e2=>cbr (e2 == 0) (ybC e0 e1 r.num r.den fun y0 y1 y2=>cbr (y2 != 0) (K' c g 0 0 y2) (yeS c g a q.num q.den y0 y1 fun c g z0 z1 z2=>K' c g z0 z1 z2)) (cbr (e2 != 0) (K' c g 0 0 e2) (yeS c g a q.num q.den e0 e1 fun c g z0 z1 z2=>K' c g z0 z1 z2)))=K' (cks l) (logs (lg++hLog l a q p r)) (hAt l a q p r).num (hAt l a q p r).den 0:=fun hh K'=>by
  rw [yNJ hd ha hs hp q0 qp p1 hD hq hpD (by omega),show ((0:Int) == 0)=true from rfl,yas,mul,cnF rfl,mk _ _ (by rw [qAd,qAr];omega)]
  unfold hLog hAt
  rw [hh,cond_true,qAj]
 by_cases hq0:q.num>0
 ·rw [cbT hq0,yas]
  exact X (by unfold hAsk;rw [decide_eq_true hq0];rfl) K
 ·rw [cbF hq0,ya8,asT (by omega),yej h0,asCk,ck0,yB4,e1]
  by_cases he:p=lenR l
  ·rw [decide_eq_true he,qBq,yae]
   have hz:q=0:=Rat.num_eq_zero.1 (by have:=Rat.num_nonneg.2 q0;omega)
   have ev:vXA l a p-vXA l a q=totR l a:=by rw [he,hz,tot3 hd ha]
   have en:(vXA l a p-vXA l a q).num=totC (l.getD a default).cuts (l.getD a default).dens:=by rw [ev];exact Rat.num_intCast _
   have ed:(((vXA l a p-vXA l a q).den:Nat):Int)=1:=by rw [ev];unfold totR;rw [Rat.den_intCast];rfl
   rw [← en,← ed,mul,cnF rfl,mk _ _ (by omega)]
   unfold hLog hAt hAsk
   rw [decide_eq_false hq0,decide_eq_true he]
   rfl
  ·rw [decide_eq_false he,qB8,yas]
   exact X (by unfold hAsk;rw [decide_eq_false he,qB8,Bool.or_true]) K
end
set_option maxHeartbeats 1000000
def encH (h:Nat×Rat):PV:=.agg [.int .i64 h.1,.int .i64 h.2.num,.int .i64 h.2.den]
def ltH (x y:Nat×Rat):Bool:=decide (cmpQ x.2 y.2<0)
def insV {α:Type} (lt:α→α→Bool):List α→α→List α
 | [],x=>[x]
 | y::R,x=>bif lt x y then y::insV lt R x else x::y::R
theorem hCmp {x y:Nat×Rat} (hx:small x.2) (hy:small y.2) (K:Int→Prop):yaH (x.1:Int) x.2.num x.2.den (y.1:Int) y.2.num y.2.den K=K (cmpQ x.2 y.2):=by
 unfold yaH yiO ybk yh1
 rw [yoF hx hy]
theorem getH (R:List (Nat×Rat)) (x:Nat×Rat) (B:List (Nat×Rat)) {k:Nat} (h:k=R.length):List.getD ((R.reverse++x::B).map encH) k .nils=encH x:=by
 subst h
 rw [qAa,qAz,List.getElem?_append_right (by rw [qA4];exact qAk _),qA4,Nat.sub_self]
 rfl
theorem yOF (R:List (Nat×Rat)) (y x:Nat×Rat) (B:List (Nat×Rat)) {k:Nat} (h:k=R.length+1):List.getD ((R.reverse++y::x::B).map encH) k .nils=encH x:=by
 have:=getH (y::R) x B (k:=k) (by rw [h];rfl)
 rw [qBn,qAj] at this
 exact this
theorem setH (R:List (Nat×Rat)) (y x:Nat×Rat) (B:List (Nat×Rat)):List.set (List.set ((R.reverse++y::x::B).map encH) (R.length+1) (encH y)) R.length (encH x)=(R.reverse++x::y::B).map encH:=by
 rw [← List.map_set,← List.map_set,List.set_append_right _ _ (by rw [qA4];omega),qA4,List.set_append_right _ _ (by rw [qA4];omega),qA4]
 simp
theorem in4s (R:List (Nat×Rat)) (y x:Nat×Rat) (B:List (Nat×Rat)) (hl:(R.reverse++y::x::B).length<4611686018427387904) (hx:small x.2) (hy:small y.2) (b c:Int) {a0 a1 a2 a3 a4 a5 a6 a8 x1} (n:Nat) :
  ybD a0 a1 a2 a3 a4 a5 a6 yaH a8 x1 (n+1) ((R.reverse++y::x::B).map encH) 0 b c ((R.length:Int)+1) =
  cbr (ltH x y) (ybD a0 a1 a2 a3 a4 a5 a6 yaH a8 x1 n ((R.reverse++x::y::B).map encH) 0 b c (R.length:Int)) (x1 ((R.reverse++y::x::B).map encH) 0 b c ((R.length:Int)+1) false):=by
 have h1:(R.reverse++y::x::B).length=R.length+(B.length+2):=by rw [qAd,qA4];rfl
 rw [h1] at hl
 have gx:List.getD ((R.reverse++y::x::B).map encH) (0+((R.length:Int)+1).toNat) .nils=encH x:=yOF _ _ _ _ (by omega)
 have gy:List.getD ((R.reverse++y::x::B).map encH) (0+(R.length:Int).toNat) .nils=encH y:=getH _ _ _ (by omega)
 have w:IntKind.i64.wrap ((R.length:Int)+1-1)=(R.length:Int):=by rw [wib (by omega) (by omega)];omega
 conv=>lhs;unfold ybD
 dsimp only [lt,Go.Pf.jn]
 rw [cbT (by omega),w,gx,gy]
 have hlen:((R.reverse++y::x::B).map encH).length=R.length+(B.length+2):=by rw [qAf,h1]
 iterate 4 refine (asTT (by first | rfl | exact decide_eq_true (by rw [hlen];omega) | exact decide_eq_true (by omega))).trans ?_
 refine (asTT rfl).trans ?_
 iterate 4 refine (asTT (by first | rfl | exact decide_eq_true (by rw [hlen];omega) | exact decide_eq_true (by omega))).trans ?_
 refine (asTT rfl).trans ?_
 refine (hCmp hx hy _).trans ?_
 refine congrArg (fun z=>cbr (ltH x y) z _) ?_
 have k1:0+((R.length:Int)+1).toNat=R.length+1:=by omega
 have k0:0+(R.length:Int).toNat=R.length:=by omega
 have gs:List.getD (List.set ((R.reverse++y::x::B).map encH) (R.length+1) (encH y)) R.length .nils=encH y:=by
  rw [qAa,qBh (by omega),← qAa]
  rw [← gy,k0]
 have hcf:conf (.agg [.i .i64,.i .i64,.i .i64]) (List.getD (List.set ((R.reverse++y::x::B).map encH) (R.length+1) (encH y)) R.length .nils)=true:=by rw [gs];rfl
 have hs:(List.set ((R.reverse++y::x::B).map encH) (R.length+1) (encH y)).length=R.length+(B.length+2):=by rw [qB3,hlen]
 have hss:(List.set (List.set ((R.reverse++y::x::B).map encH) (R.length+1) (encH y)) R.length (encH x)).length=R.length+(B.length+2):=by rw [qB3,hs]
 rw [k1,k0]
 iterate 4 refine (asTT (by first | rfl | exact decide_eq_true (by rw [hlen];omega) | exact decide_eq_true (by omega))).trans ?_
 refine (asTT rfl).trans ?_
 iterate 4 refine (asTT (by first | rfl | exact decide_eq_true (by rw [hlen];omega) | exact decide_eq_true (by omega))).trans ?_
 refine (asTT rfl).trans ?_
 iterate 4 refine (asTT (by first | rfl | exact decide_eq_true (by rw [hlen];omega) | exact decide_eq_true (by omega))).trans ?_
 refine (asTT rfl).trans ?_
 iterate 4 refine (asTT (by first | rfl | exact decide_eq_true (by rw [hlen];omega) | exact decide_eq_true (by omega) | exact decide_eq_true (hs.trans hlen.symm) | exact decide_eq_true (by show _<(List.set _ _ (encH y)).length;rw [hs];omega))).trans ?_
 refine (asTT hcf).trans ?_
 have ee:decide ((List.map encH (R.reverse++y::x::B)).length=(List.set (List.set ((R.reverse++y::x::B).map encH) (R.length+1) (encH y)) R.length (encH x)).length)=true:=decide_eq_true (hlen.trans hss.symm)
 refine (asTT (by rw [qAe];exact ⟨ee,ee⟩)).trans ?_
 have e:=setH R y x B
 show ybD _ _ _ _ _ _ _ _ _ _ _ (List.set (List.set ((R.reverse++y::x::B).map encH) (R.length+1) (encH y)) R.length (encH x)) _ _ _ _=_
 rw [e]
theorem in4z (x:Nat×Rat) (B:List (Nat×Rat)) (b c:Int) {a0 a1 a2 a3 a4 a5 a6 a7 a8 x1} (n:Nat) :
  ybD a0 a1 a2 a3 a4 a5 a6 a7 a8 x1 (n+1) ((x::B).map encH) 0 b c 0=x1 ((x::B).map encH) 0 b c 0 false:=by
 conv=>lhs;unfold ybD
 dsimp only [lt,Go.Pf.jn]
 rw [cbF (by omega),yae]
theorem in4 {a0 a1 a2 a3 a4 a5 a6 a8 x1} (b c:Int) {Y:List PV→Prop} (hX:∀ v j,x1 v 0 b c j false=Y v):∀ (R:List (Nat×Rat)) (x:Nat×Rat) (B:List (Nat×Rat)),(R.reverse++x::B).length<4611686018427387904→small x.2→(∀ y∈R,small y.2) →
  (∃ n,ybD a0 a1 a2 a3 a4 a5 a6 yaH a8 x1 n ((R.reverse++x::B).map encH) 0 b c (R.length:Int))=Y (((insV ltH R x).reverse++B).map encH)
 | [],x,B,hl,hx,hR=>by
  rw [exS3 rfl (R:=fun _=>x1 ((x::B).map encH) 0 b c 0 false) (fun n=>in4z x B b c n),exC3,hX]
  rfl
 | y::R,x,B,hl,hx,hR=>by
  have e1:(y::R).reverse++x::B=R.reverse++y::x::B:=by rw [qBn,qAj];rfl
  have e2:(((y::R).length:Nat):Int)=(R.length:Int)+1:=by simp
  rw [e1] at hl ⊢
  rw [e2]
  have ih:=in4 (a0:=a0) (a1:=a1) (a2:=a2) (a3:=a3) (a4:=a4) (a5:=a5) (a6:=a6) (a8:=a8) b c hX R x (y::B) (by rw [qAd] at hl ⊢;exact hl) hx (fun z hz=>hR z (qAi _ hz))
  cases ht:ltH x y with
  | true =>
   rw [exS3 rfl (R:=fun n=>ybD a0 a1 a2 a3 a4 a5 a6 yaH a8 x1 n ((R.reverse++x::y::B).map encH) 0 b c (R.length:Int)) (fun n=>by rw [in4s R y x B hl hx (hR y (qAo ..)) b c n,ht,yas]),ih]
   rw [show insV ltH (y::R) x=y::insV ltH R x by (show (bif ltH x y then _ else _)=_;rw [ht];rfl),qBn,qAj]
   rfl
  | false =>
   rw [exS3 rfl (R:=fun _=>x1 ((R.reverse++y::x::B).map encH) 0 b c ((R.length:Int)+1) false) (fun n=>by rw [in4s R y x B hl hx (hR y (qAo ..)) b c n,ht,yae]),exC3,hX]
   rw [show insV ltH (y::R) x=x::y::R by (show (bif ltH x y then _ else _)=_;rw [ht];rfl),qBn,qBn,qAj,qAj]
   rfl
theorem yjw {α:Type} (lt:α→α→Bool) (x:α):∀ R,(insV lt R x).length=R.length+1
 | []=>rfl
 | y::R=>by
  unfold insV
  cases lt x y with
  | true=>rw [cond_true,qAn,yjw lt x R];rfl
  | false=>rfl
theorem ywm {α:Type} (lt:α→α→Bool) (x:α) {z:α}:∀ {R},z∈insV lt R x↔z=x∨z∈R
 | []=>by simp [insV]
 | y::R=>by
  unfold insV
  cases lt x y with
  | true=>rw [cond_true,qAt,ywm lt x,qAt];exact ⟨fun h=>by rcases h with h | h | h <;> simp [h],fun h=>by rcases h with h | h | h <;> simp [h]⟩
  | false=>rw [cond_false,qAt,qAt]
def allV {α:Type} (lt:α→α→Bool):List α→List α→List α
 | R,[]=>R
 | R,x::B=>allV lt (insV lt R x) B
theorem out3 {a0 a1 a2 a3 a4 a5 a6 a8 x1} {Y:List PV→Prop} {N:Nat} (hN:N<4611686018427387904) (hX:∀ v j,x1 v 0 (N:Int) j false=Y v):∀ (B R:List (Nat×Rat)),R.length+B.length=N→(∀ y∈R,small y.2)→(∀ y∈B,small y.2) →
  (∃ n,ybv a0 a1 a2 a3 a4 a5 a6 yaH a8 x1 n ((R.reverse++B).map encH) 0 (N:Int) (R.length:Int))=Y ((allV ltH R B).reverse.map encH)
 | [],R,hl,hR,hB=>by
  have e:∀ n,ybv a0 a1 a2 a3 a4 a5 a6 yaH a8 x1 (n+1) ((R.reverse++[]).map encH) 0 (N:Int) (R.length:Int)=Y ((allV ltH R []).reverse.map encH):=fun n=>by
   conv=>lhs;unfold ybv
   rw [cbF (by simp only [qBp] at hl;omega),hX,qBk]
   rfl
  rw [exS3 rfl (R:=fun _=>_) e,exC3]
 | x::B,R,hl,hR,hB=>by
  have hl':R.length+(B.length+1)=N:=hl
  have hx:=hB x (qAo ..)
  have hB':∀ y∈B,small y.2:=fun y hy=>hB y (qAi _ hy)
  have hR':∀ y∈insV ltH R x,small y.2:=fun y hy=>by
   rcases (ywm ltH x).1 hy with rfl | h
   ·exact hx
   ·exact hR y h
  have ih:=out3 (a0:=a0) (a1:=a1) (a2:=a2) (a3:=a3) (a4:=a4) (a5:=a5) (a6:=a6) (a8:=a8) hN hX B (insV ltH R x) (by rw [yjw];omega) hR' hB'
  rw [yjw] at ih
  have w:IntKind.i64.wrap ((R.length:Int)+1)=(((R.length+1:Nat)):Int):=by rw [wib (by omega) (by omega)];omega
  have e:∀ n,ybv a0 a1 a2 a3 a4 a5 a6 yaH a8 x1 (n+1) ((R.reverse++x::B).map encH) 0 (N:Int) (R.length:Int)=ybv a0 a1 a2 a3 a4 a5 a6 yaH a8 x1 n (((insV ltH R x).reverse++B).map encH) 0 (N:Int) ((R.length+1:Nat):Int):=fun n=>by
   conv=>lhs;unfold ybv
   dsimp only [lt]
   rw [cbT (by omega)]
   refine (asTT (by simp)).trans ?_
   refine (in4 (N:Int) (R.length:Int) (Y:=fun v=>ybv a0 a1 a2 a3 a4 a5 a6 yaH a8 x1 n v 0 (N:Int) ((R.length+1:Nat):Int)) (fun v j=>by rw [w];exact asTT (by simp)) R x B (by rw [qAd,qA4,qAn];omega) hx hR)
  rw [exS3 rfl (R:=fun n=>ybv a0 a1 a2 a3 a4 a5 a6 yaH a8 x1 n (((insV ltH R x).reverse++B).map encH) 0 (N:Int) ((R.length+1:Nat):Int)) e,ih]
  rfl
set_option maxHeartbeats 1000000
def ltV (x y:Nat):Bool:=decide ((x:Int)<(y:Int))
def encV (x:Nat):PV:=.int .i64 (x:Int)
theorem yM3 (x y:Nat) (K:Bool→Prop):yaw (x:Int) (y:Int) K=K (ltV x y):=by
 unfold yaw yjF
 simp only [yjE,yiD,bne_self_eq_false,yae,Go.Pf.jn]
 rfl
theorem getV (R:List Nat) (x:Nat) (B:List Nat) {k:Nat} (h:k=R.length):List.getD ((R.reverse++x::B).map encV) k .nils=encV x:=by
 subst h
 rw [qAa,qAz,List.getElem?_append_right (by rw [qA4];exact qAk _),qA4,Nat.sub_self]
 rfl
theorem yM4 (R:List Nat) (y x:Nat) (B:List Nat) {k:Nat} (h:k=R.length+1):List.getD ((R.reverse++y::x::B).map encV) k .nils=encV x:=by
 have:=getV (y::R) x B (k:=k) (by rw [h];rfl)
 rw [qBn,qAj] at this
 exact this
theorem setV (R:List Nat) (y x:Nat) (B:List Nat):List.set (List.set ((R.reverse++y::x::B).map encV) (R.length+1) (encV y)) R.length (encV x)=(R.reverse++x::y::B).map encV:=by
 rw [← List.map_set,← List.map_set,List.set_append_right _ _ (by rw [qA4];omega),qA4,List.set_append_right _ _ (by rw [qA4];omega),qA4]
 simp
theorem yM5 (l0 l2:List PV) (R:List Nat) (y x:Nat) (B:List Nat) {N:Nat} (hN:R.length+(B.length+2)=N) (hl:N<4611686018427387904) (b c:Int) {a0 a1 a2 a3 a4 a5 a6 a7 x1} (n:Nat) :
  ybE a0 a1 a2 a3 a4 a5 a6 a7 yaw x1 (n+1) l0 ((R.reverse++y::x::B).map encV) l2 N N 0 b c ((R.length:Int)+1) =
  cbr (ltV x y) (ybE a0 a1 a2 a3 a4 a5 a6 a7 yaw x1 n l0 ((R.reverse++x::y::B).map encV) l2 N N 0 b c (R.length:Int)) (x1 l0 ((R.reverse++y::x::B).map encV) l2 N N 0 b c ((R.length:Int)+1) false):=by
 have gx:List.getD ((R.reverse++y::x::B).map encV) (0+((R.length:Int)+1).toNat) .nils=encV x:=yM4 _ _ _ _ (by omega)
 have gy:List.getD ((R.reverse++y::x::B).map encV) (0+(R.length:Int).toNat) .nils=encV y:=getV _ _ _ (by omega)
 have w:IntKind.i64.wrap ((R.length:Int)+1-1)=(R.length:Int):=by rw [wib (by omega) (by omega)];omega
 conv=>lhs;unfold ybE
 dsimp only [lt,Go.Pf.jn]
 rw [cbT (by omega),w,gx,gy]
 have hlen:((R.reverse++y::x::B).map encV).length=N:=by rw [qAf,qAd,qA4,← hN];rfl
 have k1:0+((R.length:Int)+1).toNat=R.length+1:=by omega
 have k0:0+(R.length:Int).toNat=R.length:=by omega
 have gs:List.getD (List.set ((R.reverse++y::x::B).map encV) (R.length+1) (encV y)) R.length .nils=encV y:=by
  rw [qAa,qBh (by omega),← qAa]
  rw [← gy,k0]
 have hcf:conf zI (List.getD (List.set ((R.reverse++y::x::B).map encV) (R.length+1) (encV y)) R.length .nils)=true:=by rw [gs];rfl
 have hs:(List.set ((R.reverse++y::x::B).map encV) (R.length+1) (encV y)).length=N:=by rw [qB3,hlen]
 iterate 4 refine (asTT (by first | rfl | exact decide_eq_true (by rw [hlen];omega) | exact decide_eq_true (by omega) | exact decide_eq_true hlen | exact decide_eq_true hs | exact decide_eq_true (by show _<(List.set _ _ (encV y)).length;rw [hs];omega))).trans ?_
 refine (asTT rfl).trans ?_
 iterate 4 refine (asTT (by first | rfl | exact decide_eq_true (by rw [hlen];omega) | exact decide_eq_true (by omega) | exact decide_eq_true hlen | exact decide_eq_true hs | exact decide_eq_true (by show _<(List.set _ _ (encV y)).length;rw [hs];omega))).trans ?_
 refine (asTT rfl).trans ?_
 refine (yM3 x y _).trans ?_
 refine congrArg (fun z=>cbr (ltV x y) z _) ?_
 rw [k1,k0]
 iterate 4 refine (asTT (by first | rfl | exact decide_eq_true (by rw [hlen];omega) | exact decide_eq_true (by omega) | exact decide_eq_true hlen | exact decide_eq_true hs | exact decide_eq_true (by show _<(List.set _ _ (encV y)).length;rw [hs];omega))).trans ?_
 refine (asTT rfl).trans ?_
 iterate 4 refine (asTT (by first | rfl | exact decide_eq_true (by rw [hlen];omega) | exact decide_eq_true (by omega) | exact decide_eq_true hlen | exact decide_eq_true hs | exact decide_eq_true (by show _<(List.set _ _ (encV y)).length;rw [hs];omega))).trans ?_
 refine (asTT rfl).trans ?_
 iterate 4 refine (asTT (by first | rfl | exact decide_eq_true (by rw [hlen];omega) | exact decide_eq_true (by omega) | exact decide_eq_true hlen | exact decide_eq_true hs | exact decide_eq_true (by show _<(List.set _ _ (encV y)).length;rw [hs];omega))).trans ?_
 refine (asTT rfl).trans ?_
 iterate 4 refine (asTT (by first | rfl | exact decide_eq_true (by rw [hlen];omega) | exact decide_eq_true (by omega) | exact decide_eq_true hlen | exact decide_eq_true hs | exact decide_eq_true (by show _<(List.set _ _ (encV y)).length;rw [hs];omega))).trans ?_
 refine (asTT hcf).trans ?_
 have e:=setV R y x B
 show ybE _ _ _ _ _ _ _ _ _ _ _ l0 (List.set (List.set ((R.reverse++y::x::B).map encV) (R.length+1) (encV y)) R.length (encV x)) l2 _ _ _ _ _ _=_
 rw [e]
theorem yOG (l0 l2:List PV) (x:Nat) (B:List Nat) (N:Nat) (b c:Int) {a0 a1 a2 a3 a4 a5 a6 a7 a8 x1} (n:Nat) :
  ybE a0 a1 a2 a3 a4 a5 a6 a7 a8 x1 (n+1) l0 ((x::B).map encV) l2 N N 0 b c 0=x1 l0 ((x::B).map encV) l2 N N 0 b c 0 false:=by
 conv=>lhs;unfold ybE
 dsimp only [lt,Go.Pf.jn]
 rw [cbF (by omega),yae]
theorem in94 (l0 l2:List PV) {a0 a1 a2 a3 a4 a5 a6 a7 x1} (b c:Int) {N:Nat} (hl:N<4611686018427387904) {Y:List PV→Prop} (hX:∀ v j,x1 l0 v l2 N N 0 b c j false=Y v):∀ (R:List Nat) (x:Nat) (B:List Nat),R.length+(B.length+1)=N →
  (∃ n,ybE a0 a1 a2 a3 a4 a5 a6 a7 yaw x1 n l0 ((R.reverse++x::B).map encV) l2 N N 0 b c (R.length:Int))=Y (((insV ltV R x).reverse++B).map encV)
 | [],x,B,hN=>by
  rw [exS3 rfl (R:=fun _=>x1 l0 ((x::B).map encV) l2 N N 0 b c 0 false) (fun n=>yOG l0 l2 x B N b c n),exC3,hX]
  rfl
 | y::R,x,B,hN=>by
  have e1:(y::R).reverse++x::B=R.reverse++y::x::B:=by rw [qBn,qAj];rfl
  have e2:(((y::R).length:Nat):Int)=(R.length:Int)+1:=by simp
  rw [qAn] at hN
  rw [e1,e2]
  have ih:=in94 (a0:=a0) (a1:=a1) (a2:=a2) (a3:=a3) (a4:=a4) (a5:=a5) (a6:=a6) (a7:=a7) l0 l2 b c hl hX R x (y::B) (by rw [qAn];omega)
  cases ht:ltV x y with
  | true =>
   rw [exS3 rfl (R:=fun n=>ybE a0 a1 a2 a3 a4 a5 a6 a7 yaw x1 n l0 ((R.reverse++x::y::B).map encV) l2 N N 0 b c (R.length:Int)) (fun n=>by rw [yM5 l0 l2 R y x B (by omega) hl b c n,ht,yas]),ih]
   rw [show insV ltV (y::R) x=y::insV ltV R x by (show (bif ltV x y then _ else _)=_;rw [ht];rfl),qBn,qAj]
   rfl
  | false =>
   rw [exS3 rfl (R:=fun _=>x1 l0 ((R.reverse++y::x::B).map encV) l2 N N 0 b c ((R.length:Int)+1) false) (fun n=>by rw [yM5 l0 l2 R y x B (by omega) hl b c n,ht,yae]),exC3,hX]
   rw [show insV ltV (y::R) x=x::y::R by (show (bif ltV x y then _ else _)=_;rw [ht];rfl),qBn,qBn,qAj,qAj]
   rfl
theorem yM6 (l0 l2:List PV) {a0 a1 a2 a3 a4 a5 a6 a7 x1} {Y:List PV→Prop} {N:Nat} (hN:N<4611686018427387904) (hX:∀ v j,x1 l0 v l2 N N 0 (N:Int) j false=Y v):∀ (B R:List Nat),R.length+B.length=N →
  (∃ n,ybG a0 a1 a2 a3 a4 a5 a6 a7 yaw x1 n l0 ((R.reverse++B).map encV) l2 N N 0 (N:Int) (R.length:Int))=Y ((allV ltV R B).reverse.map encV)
 | [],R,hl=>by
  have e:∀ n,ybG a0 a1 a2 a3 a4 a5 a6 a7 yaw x1 (n+1) l0 ((R.reverse++[]).map encV) l2 N N 0 (N:Int) (R.length:Int)=Y ((allV ltV R []).reverse.map encV):=fun n=>by
   conv=>lhs;unfold ybG
   rw [cbF (by simp only [qBp] at hl;omega),hX,qBk]
   rfl
  rw [exS3 rfl (R:=fun _=>_) e,exC3]
 | x::B,R,hl=>by
  have hl':R.length+(B.length+1)=N:=hl
  have ih:=yM6 (a0:=a0) (a1:=a1) (a2:=a2) (a3:=a3) (a4:=a4) (a5:=a5) (a6:=a6) (a7:=a7) l0 l2 hN hX B (insV ltV R x) (by rw [yjw];omega)
  rw [yjw] at ih
  have w:IntKind.i64.wrap ((R.length:Int)+1)=(((R.length+1:Nat)):Int):=by rw [wib (by omega) (by omega)];omega
  have e:∀ n,ybG a0 a1 a2 a3 a4 a5 a6 a7 yaw x1 (n+1) l0 ((R.reverse++x::B).map encV) l2 N N 0 (N:Int) (R.length:Int)=ybG a0 a1 a2 a3 a4 a5 a6 a7 yaw x1 n l0 (((insV ltV R x).reverse++B).map encV) l2 N N 0 (N:Int) ((R.length+1:Nat):Int):=fun n=>by
   conv=>lhs;unfold ybG
   dsimp only [lt]
   rw [cbT (by omega)]
   refine (in94 l0 l2 (N:Int) (R.length:Int) hN (Y:=fun v=>ybG a0 a1 a2 a3 a4 a5 a6 a7 yaw x1 n l0 v l2 N N 0 (N:Int) ((R.length+1:Nat):Int)) (fun v j=>by rw [w]) R x B hl')
  rw [exS3 rfl (R:=fun n=>ybG a0 a1 a2 a3 a4 a5 a6 a7 yaw x1 n l0 (((insV ltV R x).reverse++B).map encV) l2 N N 0 (N:Int) ((R.length+1:Nat):Int)) e,ih]
  rfl
theorem yMF (l0 l2:List PV) {a0 a1 a2 a3 a4 a5 a6 a7 X} (x:Nat) (B:List Nat) (hN:B.length+1≤12) (h:Int) (b b':Bool) :
  (∃ n,yc1 a0 a1 a2 a3 a4 a5 a6 a7 yaw X n l0 ((x::B).map encV) l2 (B.length+1) (B.length+1) 0 ((B.length+1:Nat):Int) h b b')=X l0 ((allV ltV [x] B).reverse.map encV) l2:=by
 have e:∀ n,yc1 a0 a1 a2 a3 a4 a5 a6 a7 yaw X (n+1) l0 ((x::B).map encV) l2 (B.length+1) (B.length+1) 0 ((B.length+1:Nat):Int) h b b'=X l0 ((allV ltV [x] B).reverse.map encV) l2:=fun n=>by
  conv=>lhs;unfold yc1
  dsimp only [lt]
  rw [wib (by omega) (by omega),cbT (by omega),wib (by omega) (by omega)]
  exact yM6 l0 l2 (Y:=fun v=>X l0 v l2) (N:=B.length+1) (by omega) (fun v j=>rfl) B [x] (by simp only [qAn,qBp];omega)
 rw [exS3 rfl (R:=fun _=>_) e,exC3]
theorem yM7 (l0 l1:List PV) (R:List Nat) (y x:Nat) (B:List Nat) {N:Nat} (hN:R.length+(B.length+2)=N) (hl:N<4611686018427387904) (b c:Int) {a0 a1 a2 a3 a4 a5 a6 a7 x1} (n:Nat) :
  ybF a0 a1 a2 a3 a4 a5 a6 a7 yaw x1 (n+1) l0 l1 ((R.reverse++y::x::B).map encV) N N 0 b c ((R.length:Int)+1) =
  cbr (ltV x y) (ybF a0 a1 a2 a3 a4 a5 a6 a7 yaw x1 n l0 l1 ((R.reverse++x::y::B).map encV) N N 0 b c (R.length:Int)) (x1 l0 l1 ((R.reverse++y::x::B).map encV) N N 0 b c ((R.length:Int)+1) false):=by
 have gx:List.getD ((R.reverse++y::x::B).map encV) (0+((R.length:Int)+1).toNat) .nils=encV x:=yM4 _ _ _ _ (by omega)
 have gy:List.getD ((R.reverse++y::x::B).map encV) (0+(R.length:Int).toNat) .nils=encV y:=getV _ _ _ (by omega)
 have w:IntKind.i64.wrap ((R.length:Int)+1-1)=(R.length:Int):=by rw [wib (by omega) (by omega)];omega
 conv=>lhs;unfold ybF
 dsimp only [lt,Go.Pf.jn]
 rw [cbT (by omega),w,gx,gy]
 have hlen:((R.reverse++y::x::B).map encV).length=N:=by rw [qAf,qAd,qA4,← hN];rfl
 have k1:0+((R.length:Int)+1).toNat=R.length+1:=by omega
 have k0:0+(R.length:Int).toNat=R.length:=by omega
 have gs:List.getD (List.set ((R.reverse++y::x::B).map encV) (R.length+1) (encV y)) R.length .nils=encV y:=by
  rw [qAa,qBh (by omega),← qAa]
  rw [← gy,k0]
 have hcf:conf zI (List.getD (List.set ((R.reverse++y::x::B).map encV) (R.length+1) (encV y)) R.length .nils)=true:=by rw [gs];rfl
 have hs:(List.set ((R.reverse++y::x::B).map encV) (R.length+1) (encV y)).length=N:=by rw [qB3,hlen]
 iterate 4 refine (asTT (by first | rfl | exact decide_eq_true (by rw [hlen];omega) | exact decide_eq_true (by omega) | exact decide_eq_true hlen | exact decide_eq_true hs | exact decide_eq_true (by show _<(List.set _ _ (encV y)).length;rw [hs];omega))).trans ?_
 refine (asTT rfl).trans ?_
 iterate 4 refine (asTT (by first | rfl | exact decide_eq_true (by rw [hlen];omega) | exact decide_eq_true (by omega) | exact decide_eq_true hlen | exact decide_eq_true hs | exact decide_eq_true (by show _<(List.set _ _ (encV y)).length;rw [hs];omega))).trans ?_
 refine (asTT rfl).trans ?_
 refine (yM3 x y _).trans ?_
 refine congrArg (fun z=>cbr (ltV x y) z _) ?_
 rw [k1,k0]
 iterate 4 refine (asTT (by first | rfl | exact decide_eq_true (by rw [hlen];omega) | exact decide_eq_true (by omega) | exact decide_eq_true hlen | exact decide_eq_true hs | exact decide_eq_true (by show _<(List.set _ _ (encV y)).length;rw [hs];omega))).trans ?_
 refine (asTT rfl).trans ?_
 iterate 4 refine (asTT (by first | rfl | exact decide_eq_true (by rw [hlen];omega) | exact decide_eq_true (by omega) | exact decide_eq_true hlen | exact decide_eq_true hs | exact decide_eq_true (by show _<(List.set _ _ (encV y)).length;rw [hs];omega))).trans ?_
 refine (asTT rfl).trans ?_
 iterate 4 refine (asTT (by first | rfl | exact decide_eq_true (by rw [hlen];omega) | exact decide_eq_true (by omega) | exact decide_eq_true hlen | exact decide_eq_true hs | exact decide_eq_true (by show _<(List.set _ _ (encV y)).length;rw [hs];omega))).trans ?_
 refine (asTT rfl).trans ?_
 iterate 4 refine (asTT (by first | rfl | exact decide_eq_true (by rw [hlen];omega) | exact decide_eq_true (by omega) | exact decide_eq_true hlen | exact decide_eq_true hs | exact decide_eq_true (by show _<(List.set _ _ (encV y)).length;rw [hs];omega))).trans ?_
 refine (asTT hcf).trans ?_
 have e:=setV R y x B
 show ybF _ _ _ _ _ _ _ _ _ _ _ l0 l1 (List.set (List.set ((R.reverse++y::x::B).map encV) (R.length+1) (encV y)) R.length (encV x)) _ _ _ _ _ _=_
 rw [e]
theorem yOH (l0 l1:List PV) (x:Nat) (B:List Nat) (N:Nat) (b c:Int) {a0 a1 a2 a3 a4 a5 a6 a7 a8 x1} (n:Nat) :
  ybF a0 a1 a2 a3 a4 a5 a6 a7 a8 x1 (n+1) l0 l1 ((x::B).map encV) N N 0 b c 0=x1 l0 l1 ((x::B).map encV) N N 0 b c 0 false:=by
 conv=>lhs;unfold ybF
 dsimp only [lt,Go.Pf.jn]
 rw [cbF (by omega),yae]
theorem in95 (l0 l1:List PV) {a0 a1 a2 a3 a4 a5 a6 a7 x1} (b c:Int) {N:Nat} (hl:N<4611686018427387904) {Y:List PV→Prop} (hX:∀ v j,x1 l0 l1 v N N 0 b c j false=Y v):∀ (R:List Nat) (x:Nat) (B:List Nat),R.length+(B.length+1)=N →
  (∃ n,ybF a0 a1 a2 a3 a4 a5 a6 a7 yaw x1 n l0 l1 ((R.reverse++x::B).map encV) N N 0 b c (R.length:Int))=Y (((insV ltV R x).reverse++B).map encV)
 | [],x,B,hN=>by
  rw [exS3 rfl (R:=fun _=>x1 l0 l1 ((x::B).map encV) N N 0 b c 0 false) (fun n=>yOH l0 l1 x B N b c n),exC3,hX]
  rfl
 | y::R,x,B,hN=>by
  have e1:(y::R).reverse++x::B=R.reverse++y::x::B:=by rw [qBn,qAj];rfl
  have e2:(((y::R).length:Nat):Int)=(R.length:Int)+1:=by simp
  rw [qAn] at hN
  rw [e1,e2]
  have ih:=in95 (a0:=a0) (a1:=a1) (a2:=a2) (a3:=a3) (a4:=a4) (a5:=a5) (a6:=a6) (a7:=a7) l0 l1 b c hl hX R x (y::B) (by rw [qAn];omega)
  cases ht:ltV x y with
  | true =>
   rw [exS3 rfl (R:=fun n=>ybF a0 a1 a2 a3 a4 a5 a6 a7 yaw x1 n l0 l1 ((R.reverse++x::y::B).map encV) N N 0 b c (R.length:Int)) (fun n=>by rw [yM7 l0 l1 R y x B (by omega) hl b c n,ht,yas]),ih]
   rw [show insV ltV (y::R) x=y::insV ltV R x by (show (bif ltV x y then _ else _)=_;rw [ht];rfl),qBn,qAj]
   rfl
  | false =>
   rw [exS3 rfl (R:=fun _=>x1 l0 l1 ((R.reverse++y::x::B).map encV) N N 0 b c ((R.length:Int)+1) false) (fun n=>by rw [yM7 l0 l1 R y x B (by omega) hl b c n,ht,yae]),exC3,hX]
   rw [show insV ltV (y::R) x=x::y::R by (show (bif ltV x y then _ else _)=_;rw [ht];rfl),qBn,qBn,qAj,qAj]
   rfl
theorem yM8 (l0 l1:List PV) {a0 a1 a2 a3 a4 a5 a6 a7 x1} {Y:List PV→Prop} {N:Nat} (hN:N<4611686018427387904) (hX:∀ v j,x1 l0 l1 v N N 0 (N:Int) j false=Y v):∀ (B R:List Nat),R.length+B.length=N →
  (∃ n,ybH a0 a1 a2 a3 a4 a5 a6 a7 yaw x1 n l0 l1 ((R.reverse++B).map encV) N N 0 (N:Int) (R.length:Int))=Y ((allV ltV R B).reverse.map encV)
 | [],R,hl=>by
  have e:∀ n,ybH a0 a1 a2 a3 a4 a5 a6 a7 yaw x1 (n+1) l0 l1 ((R.reverse++[]).map encV) N N 0 (N:Int) (R.length:Int)=Y ((allV ltV R []).reverse.map encV):=fun n=>by
   conv=>lhs;unfold ybH
   rw [cbF (by simp only [qBp] at hl;omega),hX,qBk]
   rfl
  rw [exS3 rfl (R:=fun _=>_) e,exC3]
 | x::B,R,hl=>by
  have hl':R.length+(B.length+1)=N:=hl
  have ih:=yM8 (a0:=a0) (a1:=a1) (a2:=a2) (a3:=a3) (a4:=a4) (a5:=a5) (a6:=a6) (a7:=a7) l0 l1 hN hX B (insV ltV R x) (by rw [yjw];omega)
  rw [yjw] at ih
  have w:IntKind.i64.wrap ((R.length:Int)+1)=(((R.length+1:Nat)):Int):=by rw [wib (by omega) (by omega)];omega
  have e:∀ n,ybH a0 a1 a2 a3 a4 a5 a6 a7 yaw x1 (n+1) l0 l1 ((R.reverse++x::B).map encV) N N 0 (N:Int) (R.length:Int)=ybH a0 a1 a2 a3 a4 a5 a6 a7 yaw x1 n l0 l1 (((insV ltV R x).reverse++B).map encV) N N 0 (N:Int) ((R.length+1:Nat):Int):=fun n=>by
   conv=>lhs;unfold ybH
   dsimp only [lt]
   rw [cbT (by omega)]
   refine (in95 l0 l1 (N:Int) (R.length:Int) hN (Y:=fun v=>ybH a0 a1 a2 a3 a4 a5 a6 a7 yaw x1 n l0 l1 v N N 0 (N:Int) ((R.length+1:Nat):Int)) (fun v j=>by rw [w]) R x B hl')
  rw [exS3 rfl (R:=fun n=>ybH a0 a1 a2 a3 a4 a5 a6 a7 yaw x1 n l0 l1 (((insV ltV R x).reverse++B).map encV) N N 0 (N:Int) ((R.length+1:Nat):Int)) e,ih]
  rfl
theorem yMG (l0 l1:List PV) {a0 a1 a2 a3 a4 a5 a6 a7 X} (x:Nat) (B:List Nat) (hN:B.length+1≤12) (h:Int) (b b':Bool) :
  (∃ n,yc2 a0 a1 a2 a3 a4 a5 a6 a7 yaw X n l0 l1 ((x::B).map encV) (B.length+1) (B.length+1) 0 ((B.length+1:Nat):Int) h b b')=X l0 l1 ((allV ltV [x] B).reverse.map encV):=by
 have e:∀ n,yc2 a0 a1 a2 a3 a4 a5 a6 a7 yaw X (n+1) l0 l1 ((x::B).map encV) (B.length+1) (B.length+1) 0 ((B.length+1:Nat):Int) h b b'=X l0 l1 ((allV ltV [x] B).reverse.map encV):=fun n=>by
  conv=>lhs;unfold yc2
  dsimp only [lt]
  rw [wib (by omega) (by omega),cbT (by omega),wib (by omega) (by omega)]
  exact yM8 l0 l1 (Y:=fun v=>X l0 l1 v) (N:=B.length+1) (by omega) (fun v j=>rfl) B [x] (by simp only [qAn,qBp];omega)
 rw [exS3 rfl (R:=fun _=>_) e,exC3]
set_option maxHeartbeats 1000000
theorem getP {α:Type} (f:α→PV) (P:List α) (x:α) (B:List α) {k:Nat} (h:k=P.length):List.getD ((P++x::B).map f) k .nils=f x:=by
 subst h
 rw [qAa,qAz,List.getElem?_append_right (qAk _),Nat.sub_self]
 rfl
theorem lr3 {a0 a1 a2 a3 a4 a5 a6 a7 a8} (C G:List PV) (i3 i4:Int) {m N:Nat} (hN:N≤100) {x3} (L:List Nat):∀ (Q P:List (Nat×Rat)) (R:List Nat),P.length+Q.length=N→m≤P.length→R.length≤P.length→L.length≤100 →
  (∃ n,ybt a0 a1 a2 a3 a4 a5 a6 a7 a8 x3 n ((P++Q).map encH) (L.map encV) (R.map encV) C G i3 i4 (m:Int) N N N N (N:Int) (P.length:Int)) =
  x3 ((P++Q).map encH) (L.map encV) ((R++Q.map Prod.fst).map encV) C G i3 i4 (m:Int) N N N N (N:Int) (N:Int) false
 | [],P,R,h,hm,hR,hL=>by
  rw [qBp] at h
  have e:∀ n,ybt a0 a1 a2 a3 a4 a5 a6 a7 a8 x3 (n+1) ((P++[]).map encH) (L.map encV) (R.map encV) C G i3 i4 (m:Int) N N N N (N:Int) (P.length:Int)=x3 ((P++[]).map encH) (L.map encV) ((R++([]:List (Nat×Rat)).map Prod.fst).map encV) C G i3 i4 (m:Int) N N N N (N:Int) (N:Int) false:=fun n=>by
   conv=>lhs;unfold ybt
   rw [cbF (by omega),show (P.length:Int)=(N:Int) by omega]
   simp only [List.map_nil,qBk]
  rw [exS3 rfl (R:=fun _=>_) e,exC3]
 | h::Q,P,R,hl,hm,hR,hL=>by
  rw [qAn] at hl
  have ih:=lr3 (a0:=a0) (a1:=a1) (a2:=a2) (a3:=a3) (a4:=a4) (a5:=a5) (a6:=a6) (a7:=a7) (a8:=a8) C G i3 i4 (m:=m) hN (x3:=x3) L Q (P++[h]) (R++[h.1]) (by rw [qAd,qAr];omega) (by rw [qAd,qAr];omega) (by rw [qAd,qAd,qAr,qAr];omega) hL
  rw [qAj,qAj,qAd,qAr] at ih
  have hlen:((P++h::Q).map encH).length=N:=by rw [qAf,qAd,qAn];omega
  have g:List.getD ((P++h::Q).map encH) (0+(P.length:Int).toNat) .nils=encH h:=getP encH P h Q (by omega)
  have w:IntKind.i64.wrap ((P.length:Int)+1)=(((P.length+1:Nat)):Int):=by rw [wib (by omega) (by omega)];omega
  have rl:(R.map encV).length=R.length:=qAf ..
  have e:∀ n,ybt a0 a1 a2 a3 a4 a5 a6 a7 a8 x3 (n+1) ((P++h::Q).map encH) (L.map encV) (R.map encV) C G i3 i4 (m:Int) N N N N (N:Int) (P.length:Int)=ybt a0 a1 a2 a3 a4 a5 a6 a7 a8 x3 n ((P++h::Q).map encH) (L.map encV) ((R++[h.1]).map encV) C G i3 i4 (m:Int) N N N N (N:Int) ((P.length+1:Nat):Int):=fun n=>by
   conv=>lhs;unfold ybt
   dsimp only [lt,Go.Pf.jn]
   rw [cbT (by omega),asT (by omega),asT (by omega),asT hlen,asT (by rw [hlen];omega),g]
   refine (asTT rfl).trans ?_
   rw [cbF (by omega),rl]
   refine (asTT (by simp)).trans ?_
   refine (asTT (by simp)).trans ?_
   refine (asTT (by simp)).trans ?_
   refine (asTT (by simp)).trans ?_
   refine (asTT (decide_eq_true (by unfold room;omega))).trans ?_
   rw [w]
   refine (asTT (by simp)).trans ?_
   rw [show (R++[h.1]).map encV=R.map encV++[encV h.1] from qBl ..]
   rfl
  rw [exS3 rfl (R:=fun n=>ybt a0 a1 a2 a3 a4 a5 a6 a7 a8 x3 n ((P++h::Q).map encH) (L.map encV) ((R++[h.1]).map encV) C G i3 i4 (m:Int) N N N N (N:Int) ((P.length+1:Nat):Int)) e]
  exact ih
theorem lr2 {a0 a1 a2 a3 a4 a5 a6 a7 a8} (C G:List PV) (i3 i4:Int) {m N:Nat} (hN:N≤100) (hmN:m<N) {x2 x3}:∀ (Q P:List (Nat×Rat)) (L:List Nat),P.length+Q.length=N→P.length≤m→L.length=P.length →
  (∃ n,ybu a0 a1 a2 a3 a4 a5 a6 a7 a8 x2 x3 n ((P++Q).map encH) (L.map encV) C G i3 i4 (m:Int) N N N N (N:Int) (P.length:Int)) =
  x3 ((P++Q).map encH) ((L++(Q.take (m-P.length)).map Prod.fst).map encV) (((Q.drop (m-P.length)).map Prod.fst).map encV) C G i3 i4 (m:Int) N N N N (N:Int) (N:Int) false
 | [],P,L,h,hm,hL=>by
  rw [qBp] at h
  omega
 | h::Q,P,L,hl,hm,hL=>by
  rw [qAn] at hl
  have hlen:((P++h::Q).map encH).length=N:=by rw [qAf,qAd,qAn];omega
  have g:List.getD ((P++h::Q).map encH) (0+(P.length:Int).toNat) .nils=encH h:=getP encH P h Q (by omega)
  have w:IntKind.i64.wrap ((P.length:Int)+1)=(((P.length+1:Nat)):Int):=by rw [wib (by omega) (by omega)];omega
  have ll:(L.map encV).length=L.length:=qAf ..
  by_cases hlt:P.length<m
  ·have ih:=lr2 (a0:=a0) (a1:=a1) (a2:=a2) (a3:=a3) (a4:=a4) (a5:=a5) (a6:=a6) (a7:=a7) (a8:=a8) C G i3 i4 (m:=m) hN hmN (x2:=x2) (x3:=x3) Q (P++[h]) (L++[h.1]) (by rw [qAd,qAr];omega) (by rw [qAd,qAr];omega) (by rw [qAd,qAd,qAr,qAr];omega)
   rw [qAj,qAj,qAd,qAr] at ih
   have e:∀ n,ybu a0 a1 a2 a3 a4 a5 a6 a7 a8 x2 x3 (n+1) ((P++h::Q).map encH) (L.map encV) C G i3 i4 (m:Int) N N N N (N:Int) (P.length:Int)=ybu a0 a1 a2 a3 a4 a5 a6 a7 a8 x2 x3 n ((P++h::Q).map encH) ((L++[h.1]).map encV) C G i3 i4 (m:Int) N N N N (N:Int) ((P.length+1:Nat):Int):=fun n=>by
    conv=>lhs;unfold ybu
    dsimp only [lt,Go.Pf.jn]
    rw [cbT (by omega),asT (by omega),asT (by omega),asT hlen,asT (by rw [hlen];omega),g]
    refine (asTT rfl).trans ?_
    rw [cbT (by omega),ll]
    refine (asTT (by simp)).trans ?_
    refine (asTT (by simp)).trans ?_
    refine (asTT (by simp)).trans ?_
    refine (asTT (by simp)).trans ?_
    refine (asTT (decide_eq_true (by unfold room;omega))).trans ?_
    rw [w]
    refine (asTT (by simp)).trans ?_
    rw [show (L++[h.1]).map encV=L.map encV++[encV h.1] from qBl ..]
    rfl
   rw [exS3 rfl (R:=fun n=>ybu a0 a1 a2 a3 a4 a5 a6 a7 a8 x2 x3 n ((P++h::Q).map encH) ((L++[h.1]).map encV) C G i3 i4 (m:Int) N N N N (N:Int) ((P.length+1:Nat):Int)) e]
   refine Eq.trans ih ?_
   rw [show m-P.length=(m-(P.length+1))+1 by omega,List.take_succ_cons,List.drop_succ_cons]
   rfl
  ·have em:m=P.length:=by omega
   have e:∀ n,ybu a0 a1 a2 a3 a4 a5 a6 a7 a8 x2 x3 (n+1) ((P++h::Q).map encH) (L.map encV) C G i3 i4 (m:Int) N N N N (N:Int) (P.length:Int)=ybt a0 a1 a2 a3 a4 a5 a6 a7 a8 x3 n (((P++[h])++Q).map encH) (L.map encV) ([h.1].map encV) C G i3 i4 (m:Int) N N N N (N:Int) (((P++[h]).length:Nat):Int):=fun n=>by
    conv=>lhs;unfold ybu
    dsimp only [lt,Go.Pf.jn]
    rw [cbT (by omega),asT (by omega),asT (by omega),asT hlen,asT (by rw [hlen];omega),g]
    refine (asTT rfl).trans ?_
    rw [cbF (by omega),w]
    refine (asTT (by simp)).trans ?_
    rw [qAj,qAd]
    rfl
   rw [exS3 rfl (R:=fun n=>ybt a0 a1 a2 a3 a4 a5 a6 a7 a8 x3 n (((P++[h])++Q).map encH) (L.map encV) ([h.1].map encV) C G i3 i4 (m:Int) N N N N (N:Int) (((P++[h]).length:Nat):Int)) e]
   rw [lr3 C G i3 i4 (m:=m) hN L Q (P++[h]) [h.1] (by rw [qAd,qAr];omega) (by rw [qAd];omega) (by rw [qAd,qAr];exact Nat.le_add_left _ _) (by omega),qAj,show m-P.length=0 by omega,List.take_zero,qBi,List.map_nil,qBk]
   rfl
theorem lr1 {a0 a1 a2 a3 a4 a5 a6 a7 a8} (C G:List PV) (i3 i4:Int) {m N:Nat} (hN:N≤100) (hm:1≤m) (hmN:m<N) {x1 x2 x3 x4 x5} (H:List (Nat×Rat)) (hH:H.length=N) :
  (∃ n,yeM a0 a1 a2 a3 a4 a5 a6 a7 a8 x1 x2 x3 x4 x5 n (H.map encH) C G i3 i4 (m:Int) N N N N (N:Int) 0) =
  x3 (H.map encH) (((H.take m).map Prod.fst).map encV) (((H.drop m).map Prod.fst).map encV) C G i3 i4 (m:Int) N N N N (N:Int) (N:Int) false:=by
 obtain ⟨h,Q,rfl⟩:∃ h Q,H=h::Q:=by
  cases H with
  | nil=>simp at hH;omega
  | cons h Q=>exact ⟨h,Q,rfl⟩
 have hl:Q.length+1=N:=hH
 have hlen:((h::Q).map encH).length=N:=by rw [qAf];exact hH
 have e:∀ n,yeM a0 a1 a2 a3 a4 a5 a6 a7 a8 x1 x2 x3 x4 x5 (n+1) ((h::Q).map encH) C G i3 i4 (m:Int) N N N N (N:Int) 0=ybu a0 a1 a2 a3 a4 a5 a6 a7 a8 x2 x3 n (([h]++Q).map encH) ([h.1].map encV) C G i3 i4 (m:Int) N N N N (N:Int) (([h].length:Nat):Int):=fun n=>by
  conv=>lhs;unfold yeM
  dsimp only [lt,Go.Pf.jn]
  rw [cbT (by omega),asT (by omega),asT (by omega),asT hlen,asT (by rw [hlen];omega)]
  refine (asTT rfl).trans ?_
  rw [cbT (by omega)]
  refine (asTT (by simp)).trans ?_
  rfl
 rw [exS3 rfl (R:=fun n=>ybu a0 a1 a2 a3 a4 a5 a6 a7 a8 x2 x3 n (([h]++Q).map encH) ([h.1].map encV) C G i3 i4 (m:Int) N N N N (N:Int) (([h].length:Nat):Int)) e]
 rw [lr2 C G i3 i4 (m:=m) hN hmN Q [h] [h.1] (by rw [qAr];omega) (by rw [qAr];omega) rfl]
 rw [show m=(m-1)+1 by omega,List.take_succ_cons,List.drop_succ_cons]
 rfl
set_option maxHeartbeats 1000000
theorem mk11 {l:List Ck} {a0 a1 a2 a3 a4 a6 a7 a8} {q0 q1 p0 p1 r0 r1 z1 z2 m:Int} {M N:Nat} (hN:N≤100) (f:Nat→Rat) (g:Nat→List Qy) (g2:∀ a,(g a).length≤2) {x2 x3}:∀ (Q P:List Nat) (H:List (Nat×Rat)) (lg:List Qy),P.length+Q.length=N→H.length=P.length→lg.length+2*Q.length≤M→(∀ a∈Q,a<1000) →
  (∀ a∈Q,∀ lg:List Qy,lg.length+2≤M→∀ K,yaP (cks l) (logs lg) a q0 q1 p0 p1 r0 r1 K=K (cks l) (logs (lg++g a)) (f a).num (f a).den 0) →
  (∃ n,ybs a0 a1 a2 a3 a4 yaP a6 a7 a8 x2 x3 n (H.map encH) (cks l) (logs lg) q0 q1 p0 p1 z1 z2 m r0 r1 ((P++Q).map encV) (N:Int) (P.length:Int)) =
  x2 ((H++Q.map fun a=>(a,f a)).map encH) (cks l) (logs (lg++Q.flatMap g)) q0 q1 p0 p1 z1 z2 m r0 r1 ((P++Q).map encV) (N:Int) (N:Int) false
 | [],P,H,lg,h,hH,hL,hA,hM=>by
  rw [qBp] at h
  have e:∀ n,ybs a0 a1 a2 a3 a4 yaP a6 a7 a8 x2 x3 (n+1) (H.map encH) (cks l) (logs lg) q0 q1 p0 p1 z1 z2 m r0 r1 ((P++[]).map encV) (N:Int) (P.length:Int)=x2 ((H++([]:List Nat).map fun a=>(a,f a)).map encH) (cks l) (logs (lg++([]:List Nat).flatMap g)) q0 q1 p0 p1 z1 z2 m r0 r1 ((P++[]).map encV) (N:Int) (N:Int) false:=fun n=>by
   conv=>lhs;unfold ybs
   rw [cbF (by omega),show (P.length:Int)=(N:Int) by omega]
   simp only [List.map_nil,qBk,List.flatMap_nil]
  rw [exS3 rfl (R:=fun _=>_) e,exC3]
 | a::Q,P,H,lg,hl,hH,hL,hA,hM=>by
  rw [qAn] at hl hL
  have ga:=g2 a
  have ih:=mk11 (a0:=a0) (a1:=a1) (a2:=a2) (a3:=a3) (a4:=a4) (a6:=a6) (a7:=a7) (a8:=a8) (q0:=q0) (q1:=q1) (p0:=p0) (p1:=p1) (r0:=r0) (r1:=r1) (z1:=z1) (z2:=z2) (m:=m) (M:=M) hN f g g2 (x2:=x2) (x3:=x3) Q (P++[a]) (H++[(a,f a)]) (lg++g a) (by rw [qAd,qAr];omega) (by rw [qAd,qAd,qAr,qAr];omega) (by rw [qAd];omega) (fun b hb=>hA b (qAi _ hb)) (fun b hb=>hM b (qAi _ hb))
  rw [qAj,qAj,qAj,qAd,qAr] at ih
  have gt:List.getD ((P++a::Q).map encV) (P.length:Int).toNat .nils=encV a:=getP encV P a Q (by omega)
  have w:IntKind.i64.wrap ((P.length:Int)+1)=(((P.length+1:Nat)):Int):=by rw [wib (by omega) (by omega)];omega
  have hlen:((P++a::Q).map encV).length=N:=by rw [qAf,qAd,qAn];omega
  have lh:(H.map encH).length=H.length:=qAf ..
  have e:∀ n,ybs a0 a1 a2 a3 a4 yaP a6 a7 a8 x2 x3 (n+1) (H.map encH) (cks l) (logs lg) q0 q1 p0 p1 z1 z2 m r0 r1 ((P++a::Q).map encV) (N:Int) (P.length:Int)=ybs a0 a1 a2 a3 a4 yaP a6 a7 a8 x2 x3 n ((H++[(a,f a)]).map encH) (cks l) (logs (lg++g a)) q0 q1 p0 p1 z1 z2 m r0 r1 ((P++a::Q).map encV) (N:Int) ((P.length+1:Nat):Int):=fun n=>by
   conv=>lhs;unfold ybs
   dsimp only [lt,Go.Pf.jn]
   rw [cbT (by omega),asT (by omega),asT (by rw [hlen];omega),gt]
   refine (asTT rfl).trans ?_
   refine (hM a (qAo ..) lg (by omega) _).trans ?_
   rw [cnF rfl,lh]
   refine (asTT (by simp)).trans ?_
   refine (asTT (by simp)).trans ?_
   refine (asTT (by simp)).trans ?_
   refine (asTT (by simp)).trans ?_
   refine (asTT (decide_eq_true (by unfold room;omega))).trans ?_
   rw [w]
   refine (asTT (by simp)).trans ?_
   rw [show (H++[(a,f a)]).map encH=H.map encH++[encH (a,f a)] from qBl ..]
   rfl
  rw [exS3 rfl (R:=fun n=>ybs a0 a1 a2 a3 a4 yaP a6 a7 a8 x2 x3 n ((H++[(a,f a)]).map encH) (cks l) (logs (lg++g a)) q0 q1 p0 p1 z1 z2 m r0 r1 ((P++a::Q).map encV) (N:Int) ((P.length+1:Nat):Int)) e]
  exact ih
theorem mk10 {l:List Ck} {a0 a1 a2 a3 a4 a6 a7 a8} {q0 q1 p0 p1 r0 r1 z1 z2 m:Int} {M N:Nat} (hN:N≤100) (f:Nat→Rat) (g:Nat→List Qy) (g2:∀ a,(g a).length≤2) {x0 x1 x2 x3} (A:List Nat) (lg:List Qy) (hA:A.length=N) (h1:1≤N) (hL:lg.length+2*N≤M) (hs:∀ a∈A,a<1000)
  (hM:∀ a∈A,∀ lg:List Qy,lg.length+2≤M→∀ K,yaP (cks l) (logs lg) a q0 q1 p0 p1 r0 r1 K=K (cks l) (logs (lg++g a)) (f a).num (f a).den 0) :
  (∃ n,yeL a0 a1 a2 a3 a4 yaP a6 a7 a8 x0 x1 x2 x3 n (cks l) (logs lg) q0 q1 p0 p1 z1 z2 m r0 r1 (A.map encV) (N:Int) 0) =
  x2 ((A.map fun a=>(a,f a)).map encH) (cks l) (logs (lg++A.flatMap g)) q0 q1 p0 p1 z1 z2 m r0 r1 (A.map encV) (N:Int) (N:Int) false:=by
 obtain ⟨a,Q,rfl⟩:∃ a Q,A=a::Q:=by
  cases A with
  | nil=>simp at hA;omega
  | cons a Q=>exact ⟨a,Q,rfl⟩
 have ga:=g2 a
 rw [qAn] at hA
 have ih:=mk11 (a0:=a0) (a1:=a1) (a2:=a2) (a3:=a3) (a4:=a4) (a6:=a6) (a7:=a7) (a8:=a8) (q0:=q0) (q1:=q1) (p0:=p0) (p1:=p1) (r0:=r0) (r1:=r1) (z1:=z1) (z2:=z2) (m:=m) (M:=M) hN f g g2 (x2:=x2) (x3:=x3) Q [a] [(a,f a)] (lg++g a) (by rw [qAr];omega) rfl (by rw [qAd];omega) (fun b hb=>hs b (qAi _ hb)) (fun b hb=>hM b (qAi _ hb))
 rw [qAj] at ih
 have hlen:((a::Q).map encV).length=N:=by rw [qAf,qAn];omega
 have e:∀ n,yeL a0 a1 a2 a3 a4 yaP a6 a7 a8 x0 x1 x2 x3 (n+1) (cks l) (logs lg) q0 q1 p0 p1 z1 z2 m r0 r1 ((a::Q).map encV) (N:Int) 0=ybs a0 a1 a2 a3 a4 yaP a6 a7 a8 x2 x3 n ([(a,f a)].map encH) (cks l) (logs (lg++g a)) q0 q1 p0 p1 z1 z2 m r0 r1 (([a]++Q).map encV) (N:Int) (([a].length:Nat):Int):=fun n=>by
  conv=>lhs;unfold yeL
  dsimp only [lt,Go.Pf.jn]
  rw [cbT (by omega),asT (by omega),asT (by rw [hlen];omega)]
  refine (asTT rfl).trans ?_
  refine (hM a (qAo ..) lg (by omega) _).trans ?_
  rw [cnF rfl]
  refine (asTT (by simp)).trans ?_
  rfl
 rw [exS3 rfl (R:=fun n=>ybs a0 a1 a2 a3 a4 yaP a6 a7 a8 x2 x3 n ([(a,f a)].map encH) (cks l) (logs (lg++g a)) q0 q1 p0 p1 z1 z2 m r0 r1 (([a]++Q).map encV) (N:Int) (([a].length:Nat):Int)) e]
 exact ih
set_option maxHeartbeats 1000000
def yme {α:Type} (lt:α→α→Bool):List α→List α
 | []=>[]
 | x::B=>(allV lt [x] B).reverse
theorem yGT {α:Type} (lt:α→α→Bool):∀ B R:List α,(allV lt R B).length=R.length+B.length
 | [],R=>rfl
 | x::B,R=>by
  show (allV lt (insV lt R x) B).length=_
  rw [yGT lt B,yjw,qAn]
  omega
theorem yGU {α:Type} (lt:α→α→Bool) {z:α}:∀ B R:List α,z∈allV lt R B↔z∈R∨z∈B
 | [],R=>by simp [allV]
 | x::B,R=>by
  show z∈allV lt (insV lt R x) B↔_
  rw [yGU lt B,ywm,qAt]
  exact ⟨fun h=>by rcases h with (h | h) | h <;> simp [h],fun h=>by rcases h with h | h | h <;> simp [h]⟩
theorem ykm {α:Type} (lt:α→α→Bool) (l:List α):(yme lt l).length=l.length:=by
 cases l with
 | nil=>rfl
 | cons x B=>show (allV lt [x] B).reverse.length=_;rw [qA4,yGT];simp only [qAn,qBp];omega
theorem yxW {α:Type} (lt:α→α→Bool) {z:α} (l:List α):z∈yme lt l↔z∈l:=by
 cases l with
 | nil=>exact Iff.rfl
 | cons x B=>show z∈(allV lt [x] B).reverse↔_;rw [List.mem_reverse,yGU,qBe,qAt]
theorem lenH {p:Int} (hp:U64 p) (K:Int→Prop):yeG p K=K (blen p.toNat:Int):=yGl _ _ (fun _ h=>yGx hp h) K
theorem getE {A:List Nat} {k:Nat} (h:k<A.length):List.getD (A.map encV) k .nils=encV (A.getD k 0):=by
 rw [qAa,qAz,qAa,qAb h]
 rfl
theorem chk0 {a0 a1 a2 a3 a4 a5 a6 a7 a8 x0} (C G:List PV) {q0 q1 p0 p1 z1 z2:Int} (A:List Nat) (hN:A.length≤100) (hs:∀ i,i+1<A.length→A.getD i 0<A.getD (i+1) 0):∀ (d i:Nat),i+d=A.length→1≤i →
  (∃ n,ybR a0 a1 a2 a3 a4 a5 a6 a7 a8 x0 n (A.map encV) C G q0 q1 p0 p1 z1 z2 true (i:Int))=x0 (A.map encV) C G q0 q1 p0 p1 z1 z2 true (A.length:Int) false
 | 0,i,h,h1=>by
  have e:∀ n,ybR a0 a1 a2 a3 a4 a5 a6 a7 a8 x0 (n+1) (A.map encV) C G q0 q1 p0 p1 z1 z2 true (i:Int)=x0 (A.map encV) C G q0 q1 p0 p1 z1 z2 true (A.length:Int) false:=fun n=>by
   conv=>lhs;unfold ybR
   rw [cbF (by rw [qAf];omega),show (i:Int)=(A.length:Int) by omega]
  rw [exS3 rfl (R:=fun _=>_) e,exC3]
 | d+1,i,h,h1=>by
  have ih:=chk0 (a0:=a0) (a1:=a1) (a2:=a2) (a3:=a3) (a4:=a4) (a5:=a5) (a6:=a6) (a7:=a7) (a8:=a8) (x0:=x0) C G (q0:=q0) (q1:=q1) (p0:=p0) (p1:=p1) (z1:=z1) (z2:=z2) A hN hs d (i+1) (by omega) (by omega)
  have w1:IntKind.i64.wrap ((i:Int)-1)=((i-1:Nat):Int):=by rw [wib (by omega) (by omega)];omega
  have w2:IntKind.i64.wrap ((i:Int)+1)=((i+1:Nat):Int):=by rw [wib (by omega) (by omega)];omega
  have hlt:=hs (i-1) (by omega)
  rw [show i-1+1=i by omega] at hlt
  have e:∀ n,ybR a0 a1 a2 a3 a4 a5 a6 a7 a8 x0 (n+1) (A.map encV) C G q0 q1 p0 p1 z1 z2 true (i:Int)=ybR a0 a1 a2 a3 a4 a5 a6 a7 a8 x0 n (A.map encV) C G q0 q1 p0 p1 z1 z2 true ((i+1:Nat):Int):=fun n=>by
   conv=>lhs;unfold ybR
   dsimp only [lt,Go.Pf.jn]
   rw [cbT (by rw [qAf];omega),yas,w1,asT (by omega),asT (by rw [qAf];omega),qAg,getE (by omega)]
   refine (asTT rfl).trans ?_
   rw [asT (by omega),asT (by rw [qAf];omega),qAg,getE (by omega)]
   refine (asTT rfl).trans ?_
   rw [w2,show decide (yaa (encV (A.getD (i-1) 0))<yaa (encV (A.getD i 0)))=true from decide_eq_true (by show ((A.getD (i-1) 0:Nat):Int)<((A.getD i 0:Nat):Int);omega)]
  rw [exS3 rfl (R:=fun n=>ybR a0 a1 a2 a3 a4 a5 a6 a7 a8 x0 n (A.map encV) C G q0 q1 p0 p1 z1 z2 true ((i+1:Nat):Int)) e]
  exact ih
set_option maxHeartbeats 1000000
theorem l21H {a0 a1 a2 a3 a4 a5 a6 a7 a8 x1} (v:List PV) {N:Nat} (h:N<20):(∃ n,yfZ a0 a1 a2 a3 a4 a5 a6 a7 a8 x1 n v (N:Int) 20 0 20)=x1 v (N:Int) 20 0 20 false:=by
 rw [exS3 rfl (R:=fun _=>x1 v (N:Int) 20 0 20 false) (fun n=>by unfold yfZ;exact cbF (by omega)),exC3]
theorem l51H {a0 a1 a2 a3 a4 a5 a6 a7 a8 x1} (v:List PV) {N:Nat} (h:N<20):(∃ n,yf0 a0 a1 a2 a3 a4 a5 a6 a7 a8 x1 n v N N (N:Int) 20)=x1 v N N (N:Int) 20 false:=by
 rw [exS3 rfl (R:=fun _=>x1 v N N (N:Int) 20 false) (fun n=>by unfold yf0;exact cbF (by omega)),exC3]
theorem yOI {a0 a1 a2 a3 a4 a5 a6 a8 x1} {Y:List PV→Prop} (H:List (Nat×Rat)) {N:Nat} (hN:N=H.length) (h1:1≤N) (h2:N≤100) (hX:∀ v j,x1 v 0 (N:Int) j false=Y v) (hs:∀ y∈H,small y.2) :
  (∃ n,ybv a0 a1 a2 a3 a4 a5 a6 yaH a8 x1 n (H.map encH) 0 (N:Int) 1)=Y ((yme ltH H).map encH):=by
 subst hN
 obtain ⟨x,B,rfl⟩:∃ x B,H=x::B:=by
  cases H with
  | nil=>simp at h1
  | cons x B=>exact ⟨x,B,rfl⟩
 exact out3 (N:=(x::B).length) (by omega) hX B [x] (by simp only [qAn,qBp];omega) (fun y hy=>hs y (by simp only [qBe] at hy;rw [hy];exact qAo ..)) (fun y hy=>hs y (qAi _ hy))
theorem yNK (l0 l2:List PV) {a0 a1 a2 a3 a4 a5 a6 a7 X} (L:List Nat) (h1:1≤L.length) (h2:L.length≤12) (h:Int) (b b':Bool) {M:Nat} (hM:M=L.length) :
  (∃ n,yc1 a0 a1 a2 a3 a4 a5 a6 a7 yaw X n l0 (L.map encV) l2 M M 0 (M:Int) h b b')=X l0 ((yme ltV L).map encV) l2:=by
 subst hM
 obtain ⟨x,B,rfl⟩:∃ x B,L=x::B:=by
  cases L with
  | nil=>simp at h1
  | cons x B=>exact ⟨x,B,rfl⟩
 exact yMF l0 l2 x B h2 h b b'
theorem yNL (l0 l1:List PV) {a0 a1 a2 a3 a4 a5 a6 a7 X} (L:List Nat) (h1:1≤L.length) (h2:L.length≤12) (h:Int) (b b':Bool) {M:Nat} (hM:M=L.length) :
  (∃ n,yc2 a0 a1 a2 a3 a4 a5 a6 a7 yaw X n l0 l1 (L.map encV) M M 0 (M:Int) h b b')=X l0 l1 ((yme ltV L).map encV):=by
 subst hM
 obtain ⟨x,B,rfl⟩:∃ x B,L=x::B:=by
  cases L with
  | nil=>simp at h1
  | cons x B=>exact ⟨x,B,rfl⟩
 exact yMG l0 l1 x B h2 h b b'
def yds (A:List Nat):Rat:=(((A.length / 2:Nat):Int):Rat) / ((A.length:Int):Rat)
def hsS (A:List Nat) (f:Nat→Rat):List (Nat×Rat):=yme ltH (A.map fun a=>(a,f a))
def lftS (A:List Nat) (f:Nat→Rat):List Nat:=yme ltV (((hsS A f).take (A.length / 2)).map Prod.fst)
def rgtS (A:List Nat) (f:Nat→Rat):List Nat:=yme ltV (((hsS A f).drop (A.length / 2)).map Prod.fst)
def cutH (A:List Nat) (f:Nat→Rat):Rat:=((hsS A f).getD (A.length / 2-1) (0,0)).2
theorem yLN {l:List Ck} (hd:DK l) (A:List Nat) (h2:2≤A.length) (h12:A.length≤12) (hs:∀ i,i+1<A.length→A.getD i 0<A.getD (i+1) 0) (hA:∀ a∈A,a<l.length) {q p:Rat} (sq:small q) (sp:small p) (q0:0≤q) (qp:q<p) (p1:p≤lenR l) (sr:small (yds A))
  (f:Nat→Rat) (g:Nat→List Qy) (g2:∀ a,(g a).length≤2) (sf:∀ a∈A,small (f a)) {lg:List Qy} {M:Nat} (hm:lg.length+2*A.length≤M) (hM2:M≤2000)
  (hM:∀ a∈A,∀ lg:List Qy,lg.length+2≤M→∀ K,yaP (cks l) (logs lg) a q.num q.den p.num p.den (yds A).num (yds A).den K=K (cks l) (logs (lg++g a)) (f a).num (f a).den 0) (K) :
  yaN (cks l) (logs lg) (A.map encV) q.num q.den p.num p.den K=K (cks l) (logs (lg++A.flatMap g)) (cutH A f).num (cutH A f).den ((lftS A f).map encV) ((rgtS A f).map encV) 0:=by
 have n6:=hd.n6
 have la:(A.map encV).length=A.length:=qAf ..
 have hl0:0<l.length:=Nat.lt_of_le_of_lt (qBj _) (hA (A.getD 0 0) (by rw [qAa,qAb (show 0<A.length by omega)];exact qBb ..))
 have hlast:A.getD (A.length-1) 0<l.length:=hA _ (by rw [qAa,qAb (show A.length-1<A.length by omega)];exact qBb ..)
 have hlen:=(hd.ok 0 hl0).len0
 have hL:lenR l≤1000:=qAw.2 hlen.2
 have hL0:0≤lenR l:=Rat.le_trans q0 (Rat.le_trans (qAy qp) p1)
 have sL:small (lenR l):=sm3 (D:=1) (In.int (by decide) _) ⟨by decide,by decide⟩ (by grind) (by grind)
 have lnum:(lenR l).num=(l.getD 0 default).len:=Rat.num_intCast _
 have lden:(((lenR l).den:Nat):Int)=1:=by unfold lenR;rw [Rat.den_intCast];rfl
 have ord:∀ K,ybk p.num p.den (l.getD 0 default).len 1 K=K (cmpQ p (lenR l)):=fun K=>by
  rw [← lnum,← lden]
  unfold ybk yh1
  rw [yoF sp sL]
 unfold yaN ylb
 dsimp only [lt,Go.Pf.jn]
 rw [yiU hd.fin (by omega),hd.err (by rw [yii];omega),cnF rfl,la,cbT (by omega),asT (by omega),getE (A:=A) (k:=0) (by omega)]
 refine (asTT rfl).trans ?_
 rw [cbT (show yaa (encV (A.getD 0 0))≥0 by show ((A.getD 0 0:Nat):Int)≥0;omega)]
 rw [show IntKind.i64.wrap ((A.length:Int)-1)=((A.length-1:Nat):Int) by rw [wib (by omega) (by omega)];omega]
 refine (asTT (decide_eq_true (by omega))).trans ?_
 refine (asTT (decide_eq_true (by omega))).trans ?_
 rw [qAg,getE (by omega)]
 refine (asTT rfl).trans ?_
 rw [ya8,show decide (yaa (encV (A.getD (A.length-1) 0))<(l.length:Int))=true from decide_eq_true (by show ((A.getD (A.length-1) 0:Nat):Int)<_;omega)]
 refine (chk0 (cks l) (logs lg) A (by omega) hs (A.length-1) 1 (by omega) (by omega)).trans ?_
 rw [yoF sq sp,qBq,yae,cnF rfl,yIX,decide_eq_true qp,qBq,yae,cbF (by have:=Rat.num_nonneg.2 q0;omega),ya8]
 refine (asTT (decide_eq_true (by omega))).trans ?_
 rw [yej hl0,asCk,ck0,yB4,ord,yI2,decide_eq_false (by grind),yae,la]
 rw [show IntKind.i64.wrap (Int.tdiv (A.length:Int) 2)=((A.length / 2:Nat):Int) by rw [Int.tdiv_eq_ediv_of_nonneg (by omega),wib (by omega) (by omega)];omega]
 have mkR:∀ K,yap ((A.length / 2:Nat):Int) (A.length:Int) K=K (yds A).num (yds A).den 0:=fun K=>by
  rw [yGC ⟨by omega,by omega⟩ ⟨by omega,by omega⟩ (by omega)]
  show fitK (yds A) K=_
  rw [ygz,if_pos sr]
 rw [mkR]
 refine (mk10 (M:=M) (N:=A.length) (by omega) f g g2 A lg rfl (by omega) hm (fun a ha=>by have:=hA a ha;omega) hM).trans ?_
 have lH:((A.map fun a=>(a,f a)).map encH).length=A.length:=by simp
 have lS:(hsS A f).length=A.length:=by unfold hsS;rw [ykm,qAf]
 have lL:((((hsS A f).take (A.length / 2)).map Prod.fst).map encV).length=A.length / 2:=by simp only [qAf,qAv];omega
 have lR:((((hsS A f).drop (A.length / 2)).map Prod.fst).map encV).length=A.length-A.length / 2:=by simp only [qAf,qAu];omega
 refine (asTT (by simp)).trans ?_
 rw [lH]
 refine (l21H _ (by omega)).trans ?_
 refine (asTT (by simp)).trans ?_
 refine (yOI (A.map fun a=>(a,f a)) (N:=A.length) (by simp) (by omega) (by omega) (fun v j=>rfl) (fun y hy=>by
  obtain ⟨a,ha,rfl⟩:=qBx.1 hy
  exact sf a ha)).trans ?_
 rw [lH]
 refine (l51H _ (by omega)).trans ?_
 refine (lr1 (cks l) _ 0 0 (m:=A.length / 2) (N:=A.length) (by omega) (by omega) (by omega) (hsS A f) lS).trans ?_
 have lLs:((lftS A f).map encV).length=A.length / 2:=by unfold lftS;rw [qAf,ykm];simp only [qAf,qAv];omega
 have lRs:((rgtS A f).map encV).length=A.length-A.length / 2:=by unfold rgtS;rw [qAf,ykm];simp only [qAf,qAu];omega
 have lHS:((hsS A f).map encH).length=A.length:=by rw [qAf,lS]
 have gH:List.getD ((hsS A f).map encH) (A.length / 2-1) .nils=encH ((hsS A f).getD (A.length / 2-1) (0,0)):=by
  have hk:A.length / 2-1<(hsS A f).length:=by omega
  rw [qAa,qAz,qAa,qAb hk]
  rfl
 rw [lL,wu64 ⟨by omega,by omega⟩,lenH ⟨by omega,by omega⟩]
 refine (yNK _ _ (((hsS A f).take (A.length / 2)).map Prod.fst) (by simp only [qAf,qAv];omega) (by simp only [qAf,qAv];omega) _ _ _ (M:=A.length / 2) (by simp only [qAf,qAv];omega)).trans ?_
 rw [lR,wu64 ⟨by omega,by omega⟩,lenH ⟨by omega,by omega⟩]
 refine (yNL _ _ (((hsS A f).drop (A.length / 2)).map Prod.fst) (by simp only [qAf,qAu];omega) (by simp only [qAf,qAu];omega) _ _ _ (M:=A.length-A.length / 2) (by simp only [qAf,qAu];omega)).trans ?_
 rw [show IntKind.i64.wrap (((A.length / 2:Nat):Int)-1)=((A.length / 2-1:Nat):Int) by rw [wib (by omega) (by omega)];omega]
 refine (asTT (decide_eq_true (by omega))).trans ?_
 refine (asTT (decide_eq_true (by omega))).trans ?_
 refine (asTT (decide_eq_true lHS)).trans ?_
 refine (asTT (decide_eq_true (by rw [lHS];omega))).trans ?_
 rw [qAg,qBd,gH]
 refine (asTT rfl).trans ?_
 refine (asTT (decide_eq_true lLs)).trans ?_
 refine (asTT (decide_eq_true (by omega))).trans ?_
 refine (asTT (decide_eq_true lRs)).trans ?_
 refine (asTT (decide_eq_true (by omega))).trans ?_
 have t1:List.take (A.length / 2) ((lftS A f).map encV)=(lftS A f).map encV:=qA2 (by omega)
 have t2:List.take (A.length-A.length / 2) ((rgtS A f).map encV)=(rgtS A f).map encV:=qA2 (by omega)
 show K _ _ _ _ (List.take (A.length / 2) ((lftS A f).map encV)) (List.take (A.length-A.length / 2) ((rgtS A f).map encV)) 0=_
 rw [t1,t2]
 rfl
set_option maxHeartbeats 1000000
theorem yoH {A:List Nat} (h2:2≤A.length) (h6:A.length≤6):small (yds A)∧0<yds A∧yds A<1:=by
 unfold yds
 obtain h | h | h | h | h:A.length=2∨A.length=3∨A.length=4∨A.length=5∨A.length=6:=by omega
 all_goals
  rw [h]
  decide +kernel
theorem yMH {A:List Nat} (h2:2≤A.length) {D:Int} (hD:1≤D) {v:Rat} (h:In D v):In ((A.length:Int)*D) (v*yds A):=by
 have:=(h.mulI ((A.length / 2:Nat):Int)).div hD (d:=(A.length:Int)) (by omega)
 unfold yds
 rw [Rat.div_def,← Rat.mul_assoc,← Rat.div_def]
 exact this
structure HV (l:List Ck) (A:List Nat) (q p:Rat) (D:Int):Prop where
 len:1≤A.length∧A.length≤6
 srt:A.Pairwise (fun a b=>a<b)
 mem:∀ a∈A,a<l.length
 q0:0≤q
 p1:p≤lenR l
 D1:1≤D∧D≤100000000
 iq:In D q
 ip:In D p
 qp:q<p
 pos:∀ a∈A,0<vXA l a p-vXA l a q
def fA (l:List Ck) (A:List Nat) (q p:Rat) (a:Nat):Rat:=hAt l a q p (yds A)
def gA (l:List Ck) (A:List Nat) (q p:Rat) (a:Nat):List Qy:=hLog l a q p (yds A)
section
variable {l:List Ck} {A:List Nat} {q p:Rat} {D:Int}
theorem HV.sm (hd:DK l) (h:HV l A q p D) (h2:2≤A.length) {a:Nat} (ha:a∈A):small q∧small p∧small (vXA l a p-vXA l a q)∧small ((vXA l a p-vXA l a q)*yds A)∧MkV l a q ((vXA l a p-vXA l a q)*yds A) ((A.length:Int)*D):=by
 have D1:=h.D1
 have l6:=h.len.2
 have hal:=h.mem a ha
 have h0:0<l.length:=by omega
 have hL:lenR l≤1000:=qAw.2 (hd.ok 0 h0).len0.2
 have k:=yoH h2 h.len.2
 have q0:=h.q0
 have p1:=h.p1
 have qp:=qAy h.qp
 have b:0≤vXA l a p-vXA l a q∧vXA l a p-vXA l a q≤totR l a:=yLM hd hal (s:=(q,p)) h.q0 (qAy h.qp) h.p1
 have t:=yOA hd hal
 have iv:In D (vXA l a p-vXA l a q):=yOB D1.1 (s:=(q,p)) ⟨h.iq,h.ip⟩
 have iw:=yMH h2 D1.1 iv
 have w0:0≤(vXA l a p-vXA l a q)*yds A:=Rat.mul_nonneg b.1 (qAy k.2.1)
 have w1:(vXA l a p-vXA l a q)*yds A≤vXA l a p-vXA l a q:=by
  have:=qBt (qAy k.2.2) b.1
  rwa [Rat.mul_one] at this
 have k6:(A.length:Int)*D≤6*D:=qAh (by omega) (by omega)
 have k1:2*D≤(A.length:Int)*D:=qAh (by omega) (by omega)
 have mp:=yqX hd hal p1
 exact ⟨sm3 h.iq ⟨D1.1,by omega⟩ (by grind) (by grind),sm3 h.ip ⟨D1.1,by omega⟩ (by grind) (by grind),sm3 iv ⟨D1.1,by omega⟩ (by grind) (by grind),sm3 iw ⟨by omega,by omega⟩ (by grind) (by grind),yNI hd hal q0 (Rat.le_trans qp p1) w0 (by grind) (by omega) (by omega) (h.iq.up D1.1 (by omega)) iw⟩
theorem HV.mark (hd:DK l) (h:HV l A q p D) (h2:2≤A.length):∀ a∈A,∀ lg:List Qy,lg.length+2≤2000→∀ K,yaP (cks l) (logs lg) a q.num q.den p.num p.den (yds A).num (yds A).den K=K (cks l) (logs (lg++gA l A q p a)) (fA l A q p a).num (fA l A q p a).den 0:=fun a ha lg hm K=>by
 obtain ⟨s1,s2,s3,s4,m⟩:=h.sm hd h2 ha
 have k:=yoH h2 h.len.2
 have:=h.D1
 exact yOE hd (h.mem a ha) s1 s2 k.1 h.q0 (qAy h.qp) h.p1 (qAy k.2.1) ⟨h.D1.1,by omega⟩ h.iq h.ip s3 s4 (qAy (h.pos a ha)) m (by omega) K
end
section
variable {α:Type} {lt:α→α→Bool}
theorem yDW (x:α):∀ R:List α,(insV lt R x).Perm (x::R)
 | []=>List.Perm.refl _
 | y::R=>by
  unfold insV
  cases lt x y with
  | true=>rw [cond_true];exact ((yDW x R).cons y).trans (List.Perm.swap x y R)
  | false=>exact List.Perm.refl _
theorem yDX:∀ B R:List α,(allV lt R B).Perm (R++B)
 | [],R=>by rw [qBk];exact List.Perm.refl _
 | x::B,R=>by
  refine (yDX B (insV lt R x)).trans ?_
  refine ((yDW x R).append_right B).trans ?_
  exact List.perm_middle.symm
theorem yoI (l:List α):(yme lt l).Perm l:=by
 cases l with
 | nil=>exact List.Perm.refl _
 | cons x B=>exact (List.reverse_perm _).trans (yDX B [x])
theorem yGV (h1:∀ a b,lt a b=true→lt b a=false) (h2:∀ a b c,lt a b=false→lt b c=false→lt a c=false) (x:α):∀ R:List α,R.Pairwise (fun a b=>lt a b=false)→(insV lt R x).Pairwise (fun a b=>lt a b=false)
 | [],_=>by unfold insV;exact List.pairwise_singleton _ _
 | y::R,h=>by
  obtain ⟨k1,k2⟩:=List.pairwise_cons.1 h
  unfold insV
  cases hx:lt x y with
  | true =>
   rw [cond_true]
   refine List.pairwise_cons.2 ⟨fun z hz=>?_,yGV h1 h2 x R k2⟩
   rcases (ywm lt x).1 hz with rfl | hz
   ·exact h1 _ _ hx
   ·exact k1 z hz
  | false =>
   rw [cond_false]
   refine List.pairwise_cons.2 ⟨fun z hz=>?_,h⟩
   rcases qAt.1 hz with rfl | hz
   ·exact hx
   ·exact h2 _ _ _ hx (k1 z hz)
theorem yGW (h1:∀ a b,lt a b=true→lt b a=false) (h2:∀ a b c,lt a b=false→lt b c=false→lt a c=false):∀ B R:List α,R.Pairwise (fun a b=>lt a b=false)→(allV lt R B).Pairwise (fun a b=>lt a b=false)
 | [],_,h=>h
 | x::B,R,h=>yGW h1 h2 B (insV lt R x) (yGV h1 h2 x R h)
theorem yDY (h1:∀ a b,lt a b=true→lt b a=false) (h2:∀ a b c,lt a b=false→lt b c=false→lt a c=false) (l:List α):(yme lt l).Pairwise (fun a b=>lt b a=false):=by
 cases l with
 | nil=>exact List.Pairwise.nil
 | cons x B=>exact List.pairwise_reverse.2 (yGW h1 h2 B [x] (List.pairwise_singleton _ _))
end
theorem yMI {x y:Nat}:ltV x y=true↔x<y:=by unfold ltV;rw [decide_eq_true_eq];omega
theorem ywn {x y:Nat}:ltV x y=false↔y≤x:=by unfold ltV;rw [decide_eq_false_iff_not];omega
theorem yMJ {x y:Nat×Rat}:ltH x y=true↔x.2<y.2:=by unfold ltH;rw [ywf,decide_eq_true_eq]
theorem ywo {x y:Nat×Rat}:ltH x y=false↔y.2≤x.2:=by unfold ltH;rw [ywf,decide_eq_false_iff_not];exact Rat.not_lt
theorem yLO (l:List Nat):(yme ltV l).Pairwise (fun a b=>a≤b):=by
 have:=yDY (lt:=ltV) (fun a b h=>ywn.2 (Nat.le_of_lt (yMI.1 h))) (fun a b c h k=>ywn.2 (qBr (ywn.1 k) (ywn.1 h))) l
 exact this.imp (S:=fun a b=>a≤b) fun h=>ywn.1 h
theorem yGX (l:List (Nat×Rat)):(yme ltH l).Pairwise (fun a b=>a.2≤b.2):=by
 have:=yDY (lt:=ltH) (fun a b h=>ywo.2 (qAy (yMJ.1 h))) (fun a b c h k=>ywo.2 (Rat.le_trans (ywo.1 k) (ywo.1 h))) l
 exact this.imp (S:=fun a b=>a.2≤b.2) fun h=>ywo.1 h
theorem yGY {l:List Nat} (h:l.Nodup):(yme ltV l).Pairwise (fun a b=>a<b):=by
 have hn:(yme ltV l).Nodup:=(yoI l).nodup_iff.2 h
 exact ((yLO l).and hn).imp (S:=fun a b=>a<b) fun h=>Nat.lt_of_le_of_ne h.1 h.2
theorem yMK {l:List Nat} (h:l.Pairwise (fun a b=>a<b)) (i:Nat) (hi:i+1<l.length):l.getD i 0<l.getD (i+1) 0:=by
 rw [qAa,qAa,qAb (by omega),qAb hi]
 exact List.pairwise_iff_getElem.1 h i (i+1) (by omega) hi (by omega)
set_option maxHeartbeats 1000000
section
variable {l:List Ck} {A:List Nat} {q p:Rat} {D:Int}
theorem yH6 {f:Nat→Rat} {h:Nat×Rat} (hh:h∈hsS A f):h.1∈A∧h.2=f h.1:=by
 unfold hsS at hh
 rw [yxW] at hh
 obtain ⟨a,ha,rfl⟩:=qBx.1 hh
 exact ⟨ha,rfl⟩
theorem yJc (f:Nat→Rat):((hsS A f).map Prod.fst).Perm A:=by
 have:=(yoI (lt:=ltH) (A.map fun a=>(a,f a))).map Prod.fst
 rw [List.map_map] at this
 exact this.trans (by rw [show (Prod.fst ∘ fun a=>(a,f a))=id from rfl,List.map_id])
theorem yoJ (f:Nat→Rat):(hsS A f).length=A.length:=by unfold hsS;rw [ykm,qAf]
theorem HV.nodup (h:HV l A q p D) (f:Nat→Rat):((hsS A f).map Prod.fst).Nodup:=(yJc f).nodup_iff.2 (h.srt.imp fun k=>Nat.ne_of_lt k)
theorem yML {f:Nat→Rat} {a:Nat}:a∈lftS A f↔a∈((hsS A f).take (A.length / 2)).map Prod.fst:=yxW ltV _
theorem yMM {f:Nat→Rat} {a:Nat}:a∈rgtS A f↔a∈((hsS A f).drop (A.length / 2)).map Prod.fst:=yxW ltV _
theorem ydJ (f:Nat→Rat):(lftS A f).length=A.length / 2:=by unfold lftS;rw [ykm,qAf,qAv,yoJ];omega
theorem ydK (f:Nat→Rat):(rgtS A f).length=A.length-A.length / 2:=by unfold rgtS;rw [ykm,qAf,qAu,yoJ]
theorem HV.lsrt (h:HV l A q p D) (f:Nat→Rat):(lftS A f).Pairwise (fun a b=>a<b):=by
 unfold lftS
 refine yGY ?_
 rw [List.map_take]
 exact (h.nodup f).sublist (List.take_sublist _ _)
theorem HV.rsrt (h:HV l A q p D) (f:Nat→Rat):(rgtS A f).Pairwise (fun a b=>a<b):=by
 unfold rgtS
 refine yGY ?_
 rw [List.map_drop]
 exact (h.nodup f).sublist (List.drop_sublist _ _)
theorem yJd {f:Nat→Rat} (h2:2≤A.length):∃ b∈A,cutH A f=f b:=by
 have hk:A.length / 2-1<(hsS A f).length:=by rw [yoJ];omega
 have e:(hsS A f).getD (A.length / 2-1) (0,0)=(hsS A f)[A.length / 2-1]:=by rw [qAa,qAb hk];rfl
 have:=yH6 (qBb hk)
 refine ⟨_,this.1,?_⟩
 unfold cutH
 rw [e]
 exact this.2
theorem yqY {f:Nat→Rat} (h2:2≤A.length) {a:Nat} (ha:a∈lftS A f):a∈A∧f a≤cutH A f:=by
 obtain ⟨h,hh,rfl⟩:=qBx.1 (yML.1 ha)
 obtain ⟨i,hi,rfl⟩:=List.getElem_of_mem hh
 rw [qAv,yoJ] at hi
 have hi':i<(hsS A f).length:=by rw [yoJ];omega
 rw [List.getElem_take]
 have k:=yH6 (qBb hi')
 have hk:A.length / 2-1<(hsS A f).length:=by rw [yoJ];omega
 refine ⟨k.1,?_⟩
 rw [← k.2]
 unfold cutH
 rw [qAa,qAb hk]
 show _≤((hsS A f)[A.length / 2-1]).2
 by_cases e:i=A.length / 2-1
 ·subst e;exact qA6
 ·exact List.pairwise_iff_getElem.1 (yGX _) i (A.length / 2-1) hi' hk (by omega)
theorem yqZ {f:Nat→Rat} (h2:2≤A.length) {a:Nat} (ha:a∈rgtS A f):a∈A∧cutH A f≤f a:=by
 obtain ⟨h,hh,rfl⟩:=qBx.1 (yMM.1 ha)
 obtain ⟨i,hi,rfl⟩:=List.getElem_of_mem hh
 rw [qAu,yoJ] at hi
 have hi':A.length / 2+i<(hsS A f).length:=by rw [yoJ];omega
 rw [List.getElem_drop]
 have k:=yH6 (qBb hi')
 have hk:A.length / 2-1<(hsS A f).length:=by rw [yoJ];omega
 refine ⟨k.1,?_⟩
 rw [← k.2]
 unfold cutH
 rw [qAa,qAb hk]
 exact List.pairwise_iff_getElem.1 (yGX _) (A.length / 2-1) (A.length / 2+i) hk hi' (by omega)
end
set_option maxHeartbeats 1000000
section
variable {l:List Ck} {A:List Nat} {q p:Rat} {D:Int}
theorem HV.split (hd:DK l) (h:HV l A q p D) (h2:2≤A.length) (hD:72*D≤100000000):∃ D',D'≤72*D∧HV l (lftS A (fA l A q p)) q (cutH A (fA l A q p)) D'∧HV l (rgtS A (fA l A q p)) (cutH A (fA l A q p)) p D':=by
 have D1:=h.D1
 have l6:=h.len.2
 obtain ⟨b,hb,eb⟩:=yJd (f:=fA l A q p) h2
 have k:=yoH h2 l6
 have M:∀ a∈A,MkV l a q ((vXA l a p-vXA l a q)*yds A) ((A.length:Int)*D):=fun a ha=>(h.sm hd h2 ha).2.2.2.2
 have ef:∀ a,fA l A q p a=mkV l a q ((vXA l a p-vXA l a q)*yds A):=fun a=>rfl
 have w0:∀ a∈A,0<(vXA l a p-vXA l a q)*yds A:=fun a ha=>Rat.mul_pos (h.pos a ha) k.2.1
 have w1:∀ a∈A,(vXA l a p-vXA l a q)*yds A<vXA l a p-vXA l a q:=fun a ha=>by
  have:=Rat.mul_lt_mul_of_pos_left k.2.2 (h.pos a ha)
  rwa [Rat.mul_one] at this
 obtain ⟨d,hd12,hc⟩:=(M b hb).d
 rw [← ef,← eb] at hc
 have k6:(A.length:Int)*D≤6*D:=qAh (by omega) (by omega)
 have k1:2*D≤(A.length:Int)*D:=qAh (by omega) (by omega)
 have d6:d*((A.length:Int)*D)≤12*((A.length:Int)*D):=qAh (by omega) (by omega)
 have d1:1*((A.length:Int)*D)≤d*((A.length:Int)*D):=qAh (by omega) (by omega)
 have iq:=(h.iq.up D1.1 (d:=(A.length:Int)) (by omega)).up (by omega) hd12.1
 have ip:=(h.ip.up D1.1 (d:=(A.length:Int)) (by omega)).up (by omega) hd12.1
 have cl:cutH A (fA l A q p)≤lenR l:=by rw [eb,ef];exact (M b hb).le
 have cq:q≤cutH A (fA l A q p):=by rw [eb,ef];exact (M b hb).ge
 have posL:∀ a∈lftS A (fA l A q p),0<vXA l a (cutH A (fA l A q p))-vXA l a q:=fun a ha=>by
  obtain ⟨m,hle⟩:=yqY h2 ha
  have:=yqX hd (h.mem a m) hle
  rw [ef,(M a m).eqv] at this
  have:=w0 a m
  grind
 have posR:∀ a∈rgtS A (fA l A q p),0<vXA l a p-vXA l a (cutH A (fA l A q p)):=fun a ha=>by
  obtain ⟨m,hle⟩:=yqZ h2 ha
  have:=yqX hd (h.mem a m) hle
  rw [ef a,(M a m).eqv] at this
  have:=w1 a m
  grind
 have exL:∃ a,a∈lftS A (fA l A q p):=List.exists_mem_of_length_pos (by rw [ydJ];omega)
 have exR:∃ a,a∈rgtS A (fA l A q p):=List.exists_mem_of_length_pos (by rw [ydK];omega)
 have qc:q<cutH A (fA l A q p):=by
  obtain ⟨a,ha⟩:=exL
  have:=posL a ha
  exact lt3 hd (h.mem a (yqY h2 ha).1) (by grind)
 have cp:cutH A (fA l A q p)<p:=by
  obtain ⟨a,ha⟩:=exR
  have:=posR a ha
  exact lt3 hd (h.mem a (yqZ h2 ha).1) (by grind)
 refine ⟨d*((A.length:Int)*D),by omega,?_,?_⟩
 ·exact ⟨by rw [ydJ];omega,h.lsrt _,fun a ha=>h.mem a (yqY h2 ha).1,h.q0,cl,⟨by omega,by omega⟩,iq,hc,qc,posL⟩
 ·exact ⟨by rw [ydK];omega,h.rsrt _,fun a ha=>h.mem a (yqZ h2 ha).1,Rat.le_trans h.q0 cq,h.p1,⟨by omega,by omega⟩,hc,ip,cp,posR⟩
theorem yOJ (hd:DK l) (h:HV l A q p D) (h2:2≤A.length):∀ a∈A,small (fA l A q p a):=fun a ha=>by
 have m:=(h.sm hd h2 ha).2.2.2.2
 have D1:=h.D1
 have l6:=h.len.2
 have k6:(A.length:Int)*D≤6*D:=qAh (by omega) (by omega)
 have k1:2*D≤(A.length:Int)*D:=qAh (by omega) (by omega)
 exact m.sm hd (by omega) (by omega) h.q0
theorem yFq (a:Nat):(gA l A q p a).length≤2:=by
 unfold gA hLog
 cases hAsk l q p <;> simp
theorem HV.run (hd:DK l) (h:HV l A q p D) (h2:2≤A.length) {lg:List Qy} (hm:lg.length+2*A.length≤2000) (K) :
  yaN (cks l) (logs lg) (A.map encV) q.num q.den p.num p.den K=K (cks l) (logs (lg++A.flatMap (gA l A q p))) (cutH A (fA l A q p)).num (cutH A (fA l A q p)).den ((lftS A (fA l A q p)).map encV) ((rgtS A (fA l A q p)).map encV) 0:=by
 obtain ⟨a,ha⟩:=List.exists_mem_of_length_pos (l:=A) (by omega)
 obtain ⟨s1,s2,_⟩:=h.sm hd h2 ha
 exact yLN hd A h2 (by have:=h.len.2;omega) (yMK h.srt) h.mem s1 s2 h.q0 h.qp h.p1 (yoH h2 h.len.2).1 _ _ yFq (yOJ hd h h2) hm (qAk _) (h.mark hd h2) K
end
set_option maxHeartbeats 1000000
def dvM (l:List Ck):Nat→List Nat→Rat→Rat→List (Nat×RS)×List Qy
 | 0,_,_,_=>([],[])
 | n+1,A,q,p =>
  if A.length≤1 then ([(A.getD 0 0,(q,p))],[])
  else
   let L:=dvM l n (lftS A (fA l A q p)) q (cutH A (fA l A q p))
   let R:=dvM l n (rgtS A (fA l A q p)) (cutH A (fA l A q p)) p
   (L.1++R.1,A.flatMap (gA l A q p)++(L.2++R.2))
section
variable {l:List Ck}
theorem ye4 {n:Nat} {A:List Nat} {q p:Rat} (h:A.length≤1):dvM l (n+1) A q p=([(A.getD 0 0,(q,p))],[]):=by
 unfold dvM
 rw [if_pos h]
theorem yg9 {n:Nat} {A:List Nat} {q p:Rat} (h:2≤A.length):dvM l (n+1) A q p=((dvM l n (lftS A (fA l A q p)) q (cutH A (fA l A q p))).1++(dvM l n (rgtS A (fA l A q p)) (cutH A (fA l A q p)) p).1,A.flatMap (gA l A q p)++((dvM l n (lftS A (fA l A q p)) q (cutH A (fA l A q p))).2++(dvM l n (rgtS A (fA l A q p)) (cutH A (fA l A q p)) p).2)):=by
 conv=>lhs;unfold dvM
 rw [if_neg (by omega)]
theorem yMN {A:List Nat} (f:Nat→Rat):(lftS A f++rgtS A f).Perm A:=by
 have h1:(lftS A f).Perm (((hsS A f).take (A.length / 2)).map Prod.fst):=yoI _
 have h2:(rgtS A f).Perm (((hsS A f).drop (A.length / 2)).map Prod.fst):=yoI _
 refine (h1.append h2).trans ?_
 rw [← qBl,List.take_append_drop]
 exact yJc f
end
set_option maxHeartbeats 1000000
section
variable {l:List Ck} {A:List Nat} {q p:Rat} {D:Int}
theorem yJe (h2:2≤A.length):yds A*(((A.length:Nat):Int):Rat)=(((A.length / 2:Nat):Int):Rat):=by
 unfold yds
 exact Rat.div_mul_cancel (by
  have:(0:Rat)<(((A.length:Nat):Int):Rat):=qB0.2 (by omega)
  grind)
theorem HV.left (hd:DK l) (h:HV l A q p D) (h2:2≤A.length) {a:Nat} (ha:a∈lftS A (fA l A q p)):(vXA l a p-vXA l a q)*(((A.length / 2:Nat):Int):Rat)≤(vXA l a (cutH A (fA l A q p))-vXA l a q)*(((A.length:Nat):Int):Rat):=by
 obtain ⟨m,hle⟩:=yqY h2 ha
 have k:=yqX hd (h.mem a m) hle
 have M:=(h.sm hd h2 m).2.2.2.2
 rw [show fA l A q p a=mkV l a q ((vXA l a p-vXA l a q)*yds A) from rfl,M.eqv] at k
 have kp:(0:Rat)≤(((A.length:Nat):Int):Rat):=qAy (qB0.2 (by omega))
 have k2:(vXA l a p-vXA l a q)*yds A≤vXA l a (cutH A (fA l A q p))-vXA l a q:=by grind
 have k3:=qB2 k2 kp
 rw [Rat.mul_assoc,yJe h2] at k3
 exact k3
theorem HV.right (hd:DK l) (h:HV l A q p D) (h2:2≤A.length) {a:Nat} (ha:a∈rgtS A (fA l A q p)):(vXA l a p-vXA l a q)*(((A.length-A.length / 2:Nat):Int):Rat)≤(vXA l a p-vXA l a (cutH A (fA l A q p)))*(((A.length:Nat):Int):Rat):=by
 obtain ⟨m,hle⟩:=yqZ h2 ha
 have k:=yqX hd (h.mem a m) hle
 have M:=(h.sm hd h2 m).2.2.2.2
 rw [show fA l A q p a=mkV l a q ((vXA l a p-vXA l a q)*yds A) from rfl,M.eqv] at k
 have kp:(0:Rat)≤(((A.length:Nat):Int):Rat):=qAy (qB0.2 (by omega))
 have k2:(vXA l a p-vXA l a q)-(vXA l a p-vXA l a q)*yds A≤vXA l a p-vXA l a (cutH A (fA l A q p)):=by grind
 have k3:=qB2 k2 kp
 have e:(((A.length-A.length / 2:Nat):Int):Rat)=(((A.length:Nat):Int):Rat)-(((A.length / 2:Nat):Int):Rat):=by
  rw [← Rat.intCast_sub]
  congr 1
  omega
 have e2:(vXA l a p-vXA l a q)*yds A*(((A.length:Nat):Int):Rat)=(vXA l a p-vXA l a q)*(((A.length / 2:Nat):Int):Rat):=by rw [Rat.mul_assoc,yJe h2]
 rw [e]
 generalize vXA l a p-vXA l a q=V at *
 generalize vXA l a p-vXA l a (cutH A (fA l A q p))=W at *
 grind
end
set_option maxHeartbeats 1000000
theorem cutK {V W X m k:Rat} (hm:0<m) (hk:0≤k) (h1:W≤X*m) (h2:V*m≤W*k):V≤X*k:=by
 have h3:=qB2 h1 hk
 have h4:V*m≤(X*k)*m:=by grind
 exact Rat.le_of_mul_le_mul_right h4 hm
section
variable {l:List Ck}
theorem yKj (hd:DK l):∀ (n:Nat) (A:List Nat) (q p:Rat) (D:Int),HV l A q p D→A.length≤2 ^ n→(72:Int) ^ n*D≤100000000→∀ x∈(dvM l (n+1) A q p).1,(q≤x.2.1∧x.2.1<x.2.2∧x.2.2≤p)∧x.1∈A∧vXA l x.1 p-vXA l x.1 q≤(vXA l x.1 x.2.2-vXA l x.1 x.2.1)*(((A.length:Nat):Int):Rat):=by
 intro n
 induction n with
 | zero =>
  intro A q p D h hA _ x hx
  have hA:A.length≤1:=hA
  have h1:=h.len.1
  rw [ye4 hA,qBe] at hx
  subst hx
  match A,hA,h1,h with
  | [a],_,_,h=>exact ⟨⟨qA6,h.qp,qA6⟩,qBe.2 rfl,by
    show _≤(vXA l a p-vXA l a q)*(((1:Nat):Int):Rat)
    rw [show ((((1:Nat):Int)):Rat)=1 from rfl,Rat.mul_one]
    exact qA6⟩
 | succ n ih =>
  intro A q p D h hA hD x hx
  have h1:=h.len.1
  by_cases h2:A.length≤1
  ·rw [ye4 h2,qBe] at hx
   subst hx
   match A,h2,h1,h with
   | [a],_,_,h=>exact ⟨⟨qA6,h.qp,qA6⟩,qBe.2 rfl,by
     show _≤(vXA l a p-vXA l a q)*(((1:Nat):Int):Rat)
     rw [show ((((1:Nat):Int)):Rat)=1 from rfl,Rat.mul_one]
     exact qA6⟩
  ·have h2:2≤A.length:=by omega
   have D1:=h.D1
   have pw:(1:Int)≤72 ^ n:=Int.pow_pos (by decide)
   have e72:(72:Int) ^ (n+1)*D=72 ^ n*(72*D):=by rw [Int.pow_succ];rw [Int.mul_assoc]
   rw [e72] at hD
   have hD2:1*(72*D)≤72 ^ n*(72*D):=qAh pw (by omega)
   obtain ⟨D',hD',hL,hR⟩:=h.split hd h2 (by omega)
   have hD3:(72:Int) ^ n*D'≤72 ^ n*(72*D):=qB6 hD' (by omega)
   have e2:2 ^ (n+1)=2*2 ^ n:=by rw [Nat.pow_succ,Nat.mul_comm]
   have kk:(0:Rat)≤(((A.length:Nat):Int):Rat):=qAy (qB0.2 (by omega))
   rw [yg9 h2,qA1] at hx
   rcases hx with hx | hx
   ·obtain ⟨⟨a1,a2,a3⟩,a4,a5⟩:=ih _ _ _ D' hL (by rw [ydJ];omega) (by omega) x hx
    refine ⟨⟨a1,a2,Rat.le_trans a3 (qAy hR.qp)⟩,(yqY h2 a4).1,?_⟩
    rw [ydJ] at a5
    exact cutK (qB0.2 (by omega)) kk a5 (h.left hd h2 a4)
   ·obtain ⟨⟨a1,a2,a3⟩,a4,a5⟩:=ih _ _ _ D' hR (by rw [ydK];omega) (by omega) x hx
    refine ⟨⟨Rat.le_trans (qAy hL.qp) a1,a2,a3⟩,(yqZ h2 a4).1,?_⟩
    rw [ydK] at a5
    exact cutK (qB0.2 (by omega)) kk a5 (h.right hd h2 a4)
end
theorem ywp {α β:Type} (g:α→List β) (c:Nat):∀ A:List α,(∀ a∈A,(g a).length≤c)→(A.flatMap g).length≤c*A.length
 | [],_=>by simp
 | a::A,h=>by
  have ih:=ywp g c A fun b hb=>h b (qAi _ hb)
  have:=h a (qAo ..)
  rw [List.flatMap_cons,qAd,qAn,Nat.mul_add,Nat.mul_one]
  omega
section
variable {l:List Ck}
theorem yoK:∀ (n:Nat) (A:List Nat) (q p:Rat),A.length≤2 ^ n→1≤A.length→(dvM l (n+1) A q p).2.length≤2*A.length*n
 | 0,A,q,p,h,h1=>by
  have h:A.length≤1:=h
  rw [ye4 h]
  simp
 | n+1,A,q,p,h,h1=>by
  by_cases h2:A.length≤1
  ·rw [ye4 h2];exact qBj _
  ·have e2:2 ^ (n+1)=2*2 ^ n:=by rw [Nat.pow_succ,Nat.mul_comm]
   have f1:=ywp (gA l A q p) 2 A fun a _=>yFq a
   have k1:=yoK n (lftS A (fA l A q p)) q (cutH A (fA l A q p)) (by rw [ydJ];omega) (by rw [ydJ];omega)
   have k2:=yoK n (rgtS A (fA l A q p)) (cutH A (fA l A q p)) p (by rw [ydK];omega) (by rw [ydK];omega)
   rw [ydJ] at k1
   rw [ydK] at k2
   rw [yg9 (by omega)]
   simp only [qAd]
   have e:2*A.length*(n+1)=2*(A.length / 2)*n+2*(A.length-A.length / 2)*n+2*A.length:=by
    rw [← qAs,Nat.mul_add,Nat.mul_one]
    congr 2
    omega
   omega
theorem yB5 (n:Nat) (A:List Nat) (h:A.length≤2 ^ (n+1)) (h2:2≤A.length):(dvM l (n+2) A 0 (lenR l)).2.length≤A.length*(2*(n+1)-1):=by
 have e2:2 ^ (n+1)=2*2 ^ n:=by rw [Nat.pow_succ,Nat.mul_comm]
 have f1:=ywp (gA l A 0 (lenR l)) 1 A fun a _=>by
  unfold gA hLog hAsk
  rw [decide_eq_true rfl]
  exact qAk _
 have k1:=yoK (l:=l) n (lftS A (fA l A 0 (lenR l))) 0 (cutH A (fA l A 0 (lenR l))) (by rw [ydJ];omega) (by rw [ydJ];omega)
 have k2:=yoK (l:=l) n (rgtS A (fA l A 0 (lenR l))) (cutH A (fA l A 0 (lenR l))) (lenR l) (by rw [ydK];omega) (by rw [ydK];omega)
 rw [ydJ] at k1
 rw [ydK] at k2
 rw [yg9 h2]
 simp only [qAd]
 have e:A.length*(2*(n+1)-1)=2*(A.length / 2)*n+2*(A.length-A.length / 2)*n+1*A.length:=by
  rw [← qAs,show 2*(n+1)-1=2*n+1 by omega,Nat.mul_add,Nat.mul_one,qBf]
  congr 1
  rw [show 2*(A.length / 2)+2*(A.length-A.length / 2)=A.length*2 by omega,Nat.mul_assoc]
 omega
end
set_option maxHeartbeats 1000000
theorem cbYY {c:Bool} {P Q:Prop} (h:c=true):cbr c P Q=P:=by rw [h,yas]
theorem cbNN {c:Bool} {P Q:Prop} (h:c=false):cbr c P Q=Q:=by rw [h,yae]
def encT (t:List Nat×RS):PV:=.agg [.data (t.1.map encV),.int .i64 t.2.1.num,.int .i64 (t.2.1.den:Int),.int .i64 t.2.2.num,.int .i64 (t.2.2.den:Int)]
def setP:List (List RS)→List (Nat×RS)→List (List RS)
 | X,[]=>X
 | X,x::r=>setP (X.set x.1 [x.2]) r
theorem yB6:∀ (a b:List (Nat×RS)) (X:List (List RS)),setP X (a++b)=setP (setP X a) b
 | [],_,_=>rfl
 | x::a,b,X=>yB6 a b (X.set x.1 [x.2])
theorem ywq:∀ (a:List (Nat×RS)) (X:List (List RS)),(setP X a).length=X.length
 | [],_=>rfl
 | x::a,X=>by
  show (setP (X.set x.1 [x.2]) a).length=_
  rw [ywq a,qB3]
theorem yLP (X:List (List RS)) (a:Nat) (s:RS):List.set (rspL X) a (.data (rsp [s]))=rspL (X.set a [s]):=by
 unfold rspL
 rw [List.map_set]
theorem topT (S:List (List Nat×RS)) (t:List Nat×RS) (J:List PV) {k:Nat} (h:k=S.length):List.getD ((S++[t]).map encT++J) k .nils=encT t:=by
 subst h
 rw [qAa,qBl,qAj,List.getElem?_append_right (by rw [qAf];exact qAk _),qAf,Nat.sub_self]
 rfl
theorem h13o {a0 a1 a2 x6 x7} (l0 l2 C G:List PV) (S:List (List Nat×RS)) (a:Nat) (s:RS) (J:List PV) (X:List (List RS)) {N M:Nat} (hX:X.length=N) (ha:a<N) (hN:N≤100) (hS:S.length≤100) (hM:((S++[([a],s)]).map encT++J).length=M) (n:Nat) :
  yaT a0 a1 a2 x6 x7 (n+1) l0 (rspL X) l2 ((S++[([a],s)]).map encT++J) N N N C G (S.length+1) M=yaT a0 a1 a2 x6 x7 n l0 (rspL (X.set a [s])) l2 (S.map encT++(encT ([a],s)::J)) N N N C G S.length M:=by
 have gt:List.getD ((S++[([a],s)]).map encT++J) (0+(S.length:Int).toNat) .nils=encT ([a],s):=topT S _ J (by omega)
 have w:IntKind.i64.wrap (((S.length+1:Nat):Int)-1)=(S.length:Int):=by rw [wib (by omega) (by omega)];omega
 have hl:S.length+(J.length+1)=M:=by rw [← hM,qAd,qAf,qAd,qAr];omega
 have lX:(rspL X).length=N:=by rw [yeO,hX]
 have gx:List.getD (rspL X) (0+(a:Int).toNat) .nils=.data (rsp (X.getD a [])):=by rw [show 0+(a:Int).toNat=a by omega];exact ykc (by omega)
 conv=>lhs;unfold yaT
 dsimp only [lt,Go.Pf.jn]
 rw [cbT (by omega),w,gt]
 refine (asTT (decide_eq_true (by omega))).trans ?_
 refine (asTT (decide_eq_true (by omega))).trans ?_
 refine (asTT (decide_eq_true hM)).trans ?_
 refine (asTT (decide_eq_true (by rw [hM];omega))).trans ?_
 refine (asTT rfl).trans ?_
 refine (asTT (decide_eq_true (by omega))).trans ?_
 refine (asTT (by rw [decide_eq_true (by omega)];rfl)).trans ?_
 refine (cbYY rfl).trans ?_
 refine (asTT rfl).trans ?_
 refine (asTT rfl).trans ?_
 refine (asTT (decide_eq_true (show (0:Int)≤(a:Int) by omega))).trans ?_
 refine (asTT (decide_eq_true (show (a:Int)<(N:Int) by omega))).trans ?_
 refine (asTT (decide_eq_true lX)).trans ?_
 refine (asTT (decide_eq_true (show 0+(a:Int).toNat<_ by rw [lX];omega))).trans ?_
 refine (asTT (show conf zD (List.getD (rspL X) (0+(a:Int).toNat) .nils)=true by rw [gx];rfl)).trans ?_
 show yaT a0 a1 a2 x6 x7 n l0 (List.set (rspL X) (0+(a:Int).toNat) (.data (rsp [s]))) l2 ((S++[([a],s)]).map encT++J) N N N C G (((S.length:Int)-0).toNat) M=_
 rw [show 0+(a:Int).toNat=a by omega,yLP,show ((S.length:Int)-0).toNat=S.length by omega,qBl,qAj]
 rfl
theorem h13t {a0 a1 x6 x7} (l0 l1 l2 C G C' G':List PV) (S:List (List Nat×RS)) (A L R:List Nat) (q p c:Rat) (J:List PV) {N M:Nat} (hS:S.length≤100) (hM:((S++[(A,(q,p))]).map encT++J).length=M) (h2:2≤A.length)
  (hs:∀ K,yaN C G (A.map encV) q.num q.den p.num p.den K=K C' G' c.num c.den (L.map encV) (R.map encV) 0) :
  ∃ J' M',((S++[(R,(c,p)),(L,(q,c))]).map encT++J').length=M'∧∀ n,yaT a0 a1 yaN x6 x7 (n+1) l0 l1 l2 ((S++[(A,(q,p))]).map encT++J) N N N C G (S.length+1) M=yaT a0 a1 yaN x6 x7 n l0 l1 l2 ((S++[(R,(c,p)),(L,(q,c))]).map encT++J') N N N C' G' (S.length+2) M':=by
 have gt:List.getD ((S++[(A,(q,p))]).map encT++J) (0+(S.length:Int).toNat) .nils=encT (A,(q,p)):=topT S _ J (by omega)
 have w:IntKind.i64.wrap (((S.length+1:Nat):Int)-1)=(S.length:Int):=by rw [wib (by omega) (by omega)];omega
 have hl:S.length+(J.length+1)=M:=by rw [← hM,qAd,qAf,qAd,qAr];omega
 have z:((S.length:Int)-0).toNat=S.length:=by omega
 have tk:List.take S.length ((S++[(A,(q,p))]).map encT++J)=S.map encT:=by
  rw [qBl,qAj,List.take_append_of_le_length (by rw [qAf];exact qAk _),qA2 (by rw [qAf];exact qAk _)]
 have e2:(S++[(R,(c,p)),(L,(q,c))]).map encT=S.map encT++[encT (R,(c,p)),encT (L,(q,c))]:=by rw [qBl];rfl
 have red:∀ n,yaT a0 a1 yaN x6 x7 (n+1) l0 l1 l2 ((S++[(A,(q,p))]).map encT++J) N N N C G (S.length+1) M =
   cbr (decide (0+S.length+2≤M))
    (yaT a0 a1 yaN x6 x7 n l0 l1 l2 (List.take (0+S.length) ((S++[(A,(q,p))]).map encT++J)++([encT (R,(c,p)),encT (L,(q,c))]++List.drop (0+S.length+2) ((S++[(A,(q,p))]).map encT++J))) N N N C' G' (S.length+2) M)
    (yaT a0 a1 yaN x6 x7 n l0 l1 l2 (List.take S.length ((S++[(A,(q,p))]).map encT++J)++[encT (R,(c,p)),encT (L,(q,c))]) N N N C' G' (S.length+2) (S.length+2)):=fun n=>by
  conv=>lhs;unfold yaT
  dsimp only [lt,Go.Pf.jn]
  rw [cbT (by omega),w,gt,z]
  refine (asTT (decide_eq_true (by omega))).trans ?_
  refine (asTT (decide_eq_true (by omega))).trans ?_
  refine (asTT (decide_eq_true hM)).trans ?_
  refine (asTT (decide_eq_true (by rw [hM];omega))).trans ?_
  refine (asTT rfl).trans ?_
  refine (asTT (decide_eq_true (by omega))).trans ?_
  refine (asTT (by rw [decide_eq_true (by omega)];rfl)).trans ?_
  refine (cbNN (show ((((A.map encV).length:Nat):Int) == 1)=false from beq_eq_false_iff_ne.2 (by rw [qAf];omega))).trans ?_
  refine (hs _).trans ?_
  rw [cnF rfl]
  refine (asTT (decide_eq_true hM)).trans ?_
  refine (asTT (decide_eq_true (by omega))).trans ?_
  refine congrArg (fun z=>cbr (decide (0+S.length+2≤M)) _ z) ?_
  refine (asTT (decide_eq_true (by omega))).trans ?_
  exact (asTT (decide_eq_true (by unfold room;omega)))
 by_cases hf:0+S.length+2≤M
 ·refine ⟨List.drop (0+S.length+2) ((S++[(A,(q,p))]).map encT++J),M,?_,fun n=>?_⟩
  ·rw [e2,qAd,qAd,qAu,hM,qAf]
   simp only [qAn,qBp]
   omega
  ·rw [red n,cbT hf,qBd,tk,e2,qAj]
 ·refine ⟨[],S.length+2,?_,fun n=>?_⟩
  ·rw [e2,qBk,qAd,qAf]
   rfl
  ·rw [red n,cbF hf,tk,e2,qBk]
set_option maxHeartbeats 1000000
theorem h13 {a0 a1 x6 x7} {l:List Ck} (hd:DK l) (l0 l2:List PV):∀ (n:Nat) (A:List Nat) (q p:Rat) (D:Int),HV l A q p D→A.length≤2 ^ n→(72:Int) ^ n*D≤100000000→∀ (S:List (List Nat×RS)) (J:List PV) (X:List (List RS)) (lg:List Qy) (M:Nat),X.length=l.length→S.length+n≤100→lg.length+2*A.length*n≤2000→((S++[(A,(q,p))]).map encT++J).length=M →
  ∃ J' M',(S.map encT++J').length=M' ∧
  (∃ k,yaT a0 a1 yaN x6 x7 k l0 (rspL X) l2 ((S++[(A,(q,p))]).map encT++J) l.length l.length l.length (cks l) (logs lg) (S.length+1) M) =
  (∃ k,yaT a0 a1 yaN x6 x7 k l0 (rspL (setP X (dvM l (n+1) A q p).1)) l2 (S.map encT++J') l.length l.length l.length (cks l) (logs (lg++(dvM l (n+1) A q p).2)) S.length M')
 | n,A,q,p,D,hv,hA,hD,S,J,X,lg,M,hX,hS,hlg,hM=>by
  have n6:=hd.n6
  have h1:=hv.len.1
  by_cases h2:A.length≤1
  ·obtain ⟨a,rfl⟩:∃ a,A=[a]:=by
    match A,h1,h2 with
    | [a],_,_=>exact ⟨a,rfl⟩
   rw [ye4 h2]
   refine ⟨encT ([a],(q,p))::J,M,?_,?_⟩
   ·rw [← hM,qBl,qAj]
    rfl
   ·rw [exS3 rfl (R:=fun k=>_) (h13o l0 l2 (cks l) (logs lg) S a (q,p) J X hX (hv.mem a qAo) (by omega) (by omega) hM),qBk]
    rfl
  ·match n,hA,hD,hS,hlg with
   | 0,hA,_,_,_=>exact absurd hA (by rw [Nat.pow_zero];omega)
   | n+1,hA,hD,hS,hlg =>
   have e2:2 ^ (n+1)=2*2 ^ n:=by rw [Nat.pow_succ,Nat.mul_comm]
   have e72:(72:Int) ^ (n+1)*D=72 ^ n*(72*D):=by rw [Int.pow_succ,Int.mul_assoc]
   have p72:(1:Int)≤72 ^ n:=by
    have:(0:Int)<72 ^ n:=Int.pow_pos (by omega)
    omega
   have D1:=hv.D1.1
   have d72:1*(72*D)≤72 ^ n*(72*D):=qAh p72 (by omega)
   obtain ⟨D',hD',hl,hr⟩:=hv.split hd (by omega) (by omega)
   have d':(72:Int) ^ n*D'≤72 ^ n*(72*D):=qB6 hD' (by omega)
   have eL:=ydJ (A:=A) (fA l A q p)
   have eR:=ydK (A:=A) (fA l A q p)
   have hg:(A.flatMap (gA l A q p)).length≤2*A.length:=ywp _ 2 A fun a _=>yFq a
   have eA:2*A.length*(n+1)=2*A.length*n+2*A.length:=Nat.mul_succ ..
   have eS:2*A.length*n=2*(lftS A (fA l A q p)).length*n+2*(rgtS A (fA l A q p)).length*n:=by rw [← qAs,eL,eR];congr 1;omega
   have run:=fun K=>hv.run hd (by omega) (lg:=lg) (by omega) K
   obtain ⟨J1,M1,hM1,st⟩:=h13t (a0:=a0) (a1:=a1) (x6:=x6) (x7:=x7) l0 (rspL X) l2 _ _ _ _ S A _ _ q p _ J (N:=l.length) (by omega) hM (by omega) run
   obtain ⟨J2,M2,hM2,i1⟩:=h13 (a0:=a0) (a1:=a1) (x6:=x6) (x7:=x7) hd l0 l2 n (lftS A (fA l A q p)) q (cutH A (fA l A q p)) D' hl (by rw [eL];omega) (by omega) (S++[(rgtS A (fA l A q p),(cutH A (fA l A q p),p))]) J1 X (lg++A.flatMap (gA l A q p)) M1 hX (by rw [qAd,qAr];omega) (by rw [qAd];omega) (by rw [qAj];exact hM1)
   have hlL:(dvM l (n+1) (lftS A (fA l A q p)) q (cutH A (fA l A q p))).2.length≤2*(lftS A (fA l A q p)).length*n:=yoK n _ _ _ (by rw [eL];omega) (by rw [eL];omega)
   obtain ⟨J3,M3,hM3,i2⟩:=h13 (a0:=a0) (a1:=a1) (x6:=x6) (x7:=x7) hd l0 l2 n (rgtS A (fA l A q p)) (cutH A (fA l A q p)) p D' hr (by rw [eR];omega) (by omega) S J2 (setP X (dvM l (n+1) (lftS A (fA l A q p)) q (cutH A (fA l A q p))).1) (lg++A.flatMap (gA l A q p)++(dvM l (n+1) (lftS A (fA l A q p)) q (cutH A (fA l A q p))).2) M2 (by rw [ywq];exact hX) (by omega) (by rw [qAd,qAd];omega) hM2
   refine ⟨J3,M3,hM3,?_⟩
   rw [exS3 rfl (R:=fun k=>_) st,yg9 (by omega),yB6,← qAj,← qAj]
   rw [qAd,qAr,qAj] at i1
   exact i1.trans i2
set_option maxHeartbeats 1000000
theorem hr01 {a0 a1 a2 x1} {N:Nat} (hN:N≤100) (l1 l2 l3:List PV) (i6 i7 i8 i9:Int):∀ (d i:Nat),i+d=N→1≤i →
  (∃ n,ycn a0 a1 a2 x1 n ((List.range i).map encV) l1 l2 l3 i6 i7 i8 i9 (N:Int) (i:Int))=x1 ((List.range N).map encV) l1 l2 l3 i6 i7 i8 i9 (N:Int) (N:Int) false
 | 0,i,h,h1=>by
  have h:i=N:=h
  subst h
  have e:∀ n,ycn a0 a1 a2 x1 (n+1) ((List.range i).map encV) l1 l2 l3 i6 i7 i8 i9 (i:Int) (i:Int)=x1 ((List.range i).map encV) l1 l2 l3 i6 i7 i8 i9 (i:Int) (i:Int) false:=fun n=>by
   conv=>lhs;unfold ycn
   rw [cbF (by omega)]
  rw [exS3 rfl (R:=fun _=>_) e,exC3]
 | d+1,i,h,h1=>by
  have ih:=hr01 (a0:=a0) (a1:=a1) (a2:=a2) (x1:=x1) hN l1 l2 l3 i6 i7 i8 i9 d (i+1) (by omega) (by omega)
  have w:IntKind.i64.wrap ((i:Int)+1)=((i+1:Nat):Int):=by rw [wib (by omega) (by omega)];omega
  have lr:((List.range i).map encV).length=i:=by rw [qAf,qA8]
  have e:∀ n,ycn a0 a1 a2 x1 (n+1) ((List.range i).map encV) l1 l2 l3 i6 i7 i8 i9 (N:Int) (i:Int)=ycn a0 a1 a2 x1 n ((List.range (i+1)).map encV) l1 l2 l3 i6 i7 i8 i9 (N:Int) ((i+1:Nat):Int):=fun n=>by
   conv=>lhs;unfold ycn
   dsimp only [lt,Go.Pf.jn]
   rw [cbT (by omega),w,lr]
   refine (asTT (by simp)).trans ?_
   refine (asTT (by simp)).trans ?_
   refine (asTT (by simp)).trans ?_
   refine (asTT (by simp)).trans ?_
   refine (asTT (decide_eq_true (by unfold room;omega))).trans ?_
   refine (asTT (by simp)).trans ?_
   rw [List.range_succ,qBl]
   rfl
  rw [exS3 rfl (R:=fun _=>_) e,ih]
theorem hr00 {a0 a1 a2 x0 x1} {N:Nat} (h0:1≤N) (hN:N≤100) (l1 l2 l3:List PV) (i6 i7 i8 i9:Int) :
  (∃ n,yfF a0 a1 a2 x0 x1 n l1 l2 l3 i6 i7 i8 i9 (N:Int) 0)=x1 ((List.range N).map encV) l1 l2 l3 i6 i7 i8 i9 (N:Int) (N:Int) false:=by
 have e:∀ n,yfF a0 a1 a2 x0 x1 (n+1) l1 l2 l3 i6 i7 i8 i9 (N:Int) 0=ycn a0 a1 a2 x1 n ((List.range 1).map encV) l1 l2 l3 i6 i7 i8 i9 (N:Int) ((1:Nat):Int):=fun n=>by
  conv=>lhs;unfold yfF
  dsimp only [lt,Go.Pf.jn]
  rw [cbT (by omega)]
  exact (asTT (by simp)).trans rfl
 rw [exS3 rfl (R:=fun _=>_) e,hr01 hN l1 l2 l3 i6 i7 i8 i9 (N-1) 1 (by omega) (by omega)]
theorem HV.top {l:List Ck} (hd:DK l):HV l (List.range l.length) 0 (lenR l) 1:=by
 have n0:=hd.n0
 have n6:=hd.n6
 have c0:=(hd.ok 0 (by omega)).len0
 refine ⟨by rw [qA8];omega,List.pairwise_lt_range,fun a ha=>List.mem_range.1 ha,qA6,qA6,by decide,In.int (Int.le_refl 1) 0,In.int (Int.le_refl 1) _,?_,fun a ha=>?_⟩
 ·exact qB0.2 (by omega)
 ·rw [tot3 hd (List.mem_range.1 ha)]
  exact tot0 hd (List.mem_range.1 ha)
def dvX (l:List Ck):List (List RS):=setP (List.replicate l.length []) (dvM l 4 (List.range l.length) 0 (lenR l)).1
def dvL (l:List Ck):List Qy:=(dvM l 4 (List.range l.length) 0 (lenR l)).2
theorem yJf (l:List Ck):(dvX l).length=l.length:=by unfold dvX;rw [ywq,qA0]
theorem yLQ (n:Nat):List.replicate n (.data []:PV)=rspL (List.replicate n []):=by unfold rspL;rw [List.map_replicate];rfl
section
variable {l:List Ck}
abbrev t0T (l:List Ck):List Nat×RS:=(List.range l.length,((0:Rat),lenR l))
theorem x12a {a0 a1 x6 x7 x8 x9} (h1:l.length=1) (l0:List PV) :
  (∃ k,ybw a0 a1 yaN x6 x7 x8 x9 k l0 (rspL (List.replicate l.length [])) [encT (t0T l)] l.length l.length l.length (cks l) [] 1 1) =
  x6 l0 (rspL (dvX l)) [encT (t0T l)] l.length l.length l.length (cks l) (logs (dvL l)) 0 1 false:=by
 have er:List.range l.length=[0]:=by rw [h1];rfl
 have eX:dvX l=[[(0,lenR l)]]:=by unfold dvX;rw [ye4 (by rw [qA8];omega),er,h1];rfl
 have eL:dvL l=[]:=by unfold dvL;rw [ye4 (by rw [qA8];omega)]
 rw [eX,eL,t0T,er,h1]
 have e:∀ n,ybw a0 a1 yaN x6 x7 x8 x9 (n+1) l0 (rspL (List.replicate 1 [])) [encT ([0],((0:Rat),lenR l))] 1 1 1 (cks l) [] 1 1=ybw a0 a1 yaN x6 x7 x8 x9 n l0 (rspL [[(0,lenR l)]]) [encT ([0],((0:Rat),lenR l))] 1 1 1 (cks l) [] 0 1:=fun n=>by
  conv=>lhs;unfold ybw
  rfl
 have e':∀ n,ybw a0 a1 yaN x6 x7 x8 x9 (n+1) l0 (rspL [[(0,lenR l)]]) [encT ([0],((0:Rat),lenR l))] 1 1 1 (cks l) [] 0 1=x6 l0 (rspL [[(0,lenR l)]]) [encT ([0],((0:Rat),lenR l))] 1 1 1 (cks l) [] 0 1 false:=fun n=>by
  conv=>lhs;unfold ybw
  rfl
 rw [exS3 rfl (R:=fun _=>_) e,exS3 rfl (R:=fun _=>_) e',exC3]
 rfl
theorem x12s {a0 a1 x6 x7 x8 x9} (l0 l1 C G C' G':List PV) (A L R:List Nat) (q p c:Rat) (N:Nat) (h2:2≤A.length)
  (hs:∀ K,yaN C G (A.map encV) q.num q.den p.num p.den K=K C' G' c.num c.den (L.map encV) (R.map encV) 0) (n:Nat) :
  ybw a0 a1 yaN x6 x7 x8 x9 (n+1) l0 l1 [encT (A,(q,p))] N N N C G 1 1=yaT a0 a1 yaN x8 x9 n l0 l1 [encT (A,(q,p))] ((([]++[(R,(c,p))])++[(L,(q,c))]).map encT++[]) N N N C' G' ((([]:List (List Nat×RS))++[(R,(c,p))]).length+1) 2:=by
 conv=>lhs;unfold ybw
 dsimp only [lt,Go.Pf.jn]
 have w:IntKind.i64.wrap (((1:Nat):Int)-1)=0:=by decide
 rw [cbT (by omega),w]
 refine (asTT rfl).trans ?_
 refine (asTT rfl).trans ?_
 refine (asTT rfl).trans ?_
 refine (asTT rfl).trans ?_
 refine (asTT rfl).trans ?_
 refine (asTT rfl).trans ?_
 refine (asTT rfl).trans ?_
 refine (cbNN (show ((((A.map encV).length:Nat):Int) == 1)=false from beq_eq_false_iff_ne.2 (by rw [qAf];omega))).trans ?_
 refine (hs _).trans ?_
 rw [cnF rfl]
 refine (asTT rfl).trans ?_
 refine (asTT rfl).trans ?_
 refine (cbNN rfl).trans ?_
 refine (asTT rfl).trans ?_
 rfl
end
end Go.Pf.Vc
