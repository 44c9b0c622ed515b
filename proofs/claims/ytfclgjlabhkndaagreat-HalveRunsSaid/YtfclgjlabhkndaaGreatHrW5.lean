/- Part 5. -/
import Derived.Test.YtfclgjlabhkndaaGreatHrW4
noncomputable section
namespace Go.Pf.Vc
open Go Go.Pf
section
variable {len:Int} {cuts dens:List Int}
theorem yBf (h:VC len cuts dens):∀ (r i:Nat),i+r=dens.length→0≤rem cuts dens r i∧rem cuts dens r i≤12*(len-cuts.getD i 0)
 | 0,i,hi=>by
  have:=h.l1
  have:=h.hi (i:=i) (by omega)
  unfold rem;omega
 | r+1,i,hi=>by
  unfold rem
  have l1:=h.l1
  have h2:=h.step (i:=i) (by omega)
  have h3:=yE9 (h.den (i:=i) (by omega)) (x:=cuts.getD (i+1) 0-cuts.getD i 0) (by omega)
  have:=yBf h r (i+1) (by omega)
  omega
theorem yHy (h:VC len cuts dens):∀ (r i:Nat),i+r=dens.length→(∃ j,i≤j∧j<dens.length∧0<dens.getD j 0)→0<rem cuts dens r i
 | 0,i,hi,⟨j,h1,h2,_⟩=>by omega
 | r+1,i,hi,⟨j,h1,h2,h3⟩=>by
  unfold rem
  have l1:=h.l1
  have s:=h.step (i:=i) (by omega)
  have m:=yE9 (h.den (i:=i) (by omega)) (x:=cuts.getD (i+1) 0-cuts.getD i 0) (by omega)
  have b:=yBf h r (i+1) (by omega)
  by_cases e:j=i
  ·subst e
   have:=Int.mul_pos h3 (show 0<cuts.getD (j+1) 0-cuts.getD j 0 by omega)
   omega
  ·have:=yHy h r (i+1) (by omega) ⟨j,by omega,h2,h3⟩
   omega
theorem yJR (h:VC len cuts dens):0<totC cuts dens:=by
 unfold totC
 rw [yzq]
 obtain ⟨d,hd,h0⟩:=h.2.2.2.2.2.2.2.2.2
 obtain ⟨j,hj,e⟩:=List.mem_iff_getElem.1 hd
 have:=yHy h dens.length 0 (by omega) ⟨j,by omega,hj,by rw [qAb,qAd hj];simpa [e] using h0⟩
 omega
end
structure Qy where
 agent:Int
 kind:Int
 an:Int
 ad:Int
 bn:Int
 bd:Int
 cn:Int
 cd:Int
 deriving DecidableEq
instance:Inhabited Qy:=⟨⟨0,0,0,0,0,0,0,0⟩⟩
def encQ (q:Qy):PV:=qrow q.agent q.kind q.an q.ad q.bn q.bd q.cn q.cd
def logs (l:List Qy):List PV:=l.map encQ
theorem yft (l:List Qy):(logs l).length=l.length:=qAe ..
theorem yHz {l:List Qy} {i:Nat} (h:i<l.length):List.getD (logs l) i .nils=encQ (l.getD i default):=by
 unfold logs
 rw [qAb,qAb,qA4,qAd h]
 rfl
theorem ylK (l:List Qy):ycj 8 (logs l)=true:=by cases l <;> rfl
theorem yzr (l m:List Qy):logs (l++m)=logs l++logs m:=qBq ..
theorem asQ {q:Qy} {P:Prop}:asr (conf (.agg [.i .i64,.i .u8,.i .i64,.i .i64,.i .i64,.i .i64,.i .i64,.i .i64]) (encQ q)) P=P:=rfl
theorem qeq (q r:Qy):((q.agent == r.agent)&&((q.kind == r.kind)&&((q.an == r.an)&&((q.ad == r.ad)&&((q.bn == r.bn)&&((q.bd == r.bd)&&((q.cn == r.cn)&&((q.cd == r.cd)&&true))))))))=decide (q=r):=by
 cases q;cases r
 rw [Bool.eq_iff_iff]
 simp
theorem yIx {α:Type} [DecidableEq α] (d:α) {a b:List α} {i:Nat} (ha:i<a.length) (hb:i<b.length):decide (a.drop i=b.drop i)=(decide (a.getD i d=b.getD i d)&&decide (a.drop (i+1)=b.drop (i+1))):=by
 rw [ydW d ha,ydW d hb,Bool.eq_iff_iff]
 simp
theorem yqE {a b:List Qy} (hab:a.length=b.length) (hl:a.length<4611686018427387904) (K:Bool→Prop) :
  ∀ (r i n:Nat),i+r=a.length→r<n→yca (fun d=>K d) (fun _ _ _ _=>K true) n (logs a) (logs b) i=K (decide (a.drop i=b.drop i))
 | 0,i,n+1,hi,hn=>by
  unfold yca
  rw [yft,cbF (by omega),qA6 (by omega),qA6 (by omega)];rfl
 | r+1,i,n+1,hi,hn=>by
  unfold yca
  have e1:=wib (n:=(i:Int)+1) (by omega) (by omega)
  rw [yft,cbT (by omega),yft,qAh,yHz (by omega),yHz (by omega),asT (by omega),asT (by omega),asQ,asT (by omega),asT (by omega),asQ,yIx default (by omega) (by omega),e1,ygN]
  have q2:((yaa (yab (encQ (a.getD i default)) 0) == yaa (yab (encQ (b.getD i default)) 0))&&((yaa (yab (encQ (a.getD i default)) 1) == yaa (yab (encQ (b.getD i default)) 1))&&((yaa (yab (encQ (a.getD i default)) 2) == yaa (yab (encQ (b.getD i default)) 2))&&((yaa (yab (encQ (a.getD i default)) 3) == yaa (yab (encQ (b.getD i default)) 3))&&((yaa (yab (encQ (a.getD i default)) 4) == yaa (yab (encQ (b.getD i default)) 4))&&((yaa (yab (encQ (a.getD i default)) 5) == yaa (yab (encQ (b.getD i default)) 5))&&((yaa (yab (encQ (a.getD i default)) 6) == yaa (yab (encQ (b.getD i default)) 6))&&((yaa (yab (encQ (a.getD i default)) 7) == yaa (yab (encQ (b.getD i default)) 7))&&true))))))))=decide (a.getD i default=b.getD i default):=qeq (a.getD i default) (b.getD i default)
  have ih:=yqE hab hl K r (i+1) n (by omega) (by omega)
  refine (congrArg (fun c=>cbr (!c) (K false) (yca (fun d=>K d) (fun e f g h=>K true) n (logs a) (logs b) ((i+1:Nat):Int))) q2).trans ?_
  cases decide (a.getD i default=b.getD i default) with
  | true=>rw [qBh,yad,Bool.true_and];exact ih
  | false=>rw [qA3,yag,Bool.false_and]
theorem yFh {a b:List Qy} (ha:a.length<4611686018427387904) (_:b.length<4611686018427387904) (K:Bool→Prop):ycC (logs a) (logs b) K=K (decide (a=b)):=by
 refine yvh _ _ _ (fun K k=>?_) K
 unfold ycC yhV
 rw [yft,yft]
 by_cases h:a.length=b.length
 ·rw [cnF (by omega)]
  refine ⟨a.length+1,?_⟩
  have:=yqE h ha K a.length 0 (a.length+1) (by omega) (by omega)
  rw [show ((0:Nat):Int)=0 from rfl,qBz,qBz] at this
  exact this.mpr k
 ·rw [cnT (by omega)]
  rw [decide_eq_false (fun e=>h (by rw [e]))] at k;exact k
structure Sp where
 a:Int
 b:Int
 c:Int
 d:Int
 deriving DecidableEq
instance:Inhabited Sp:=⟨⟨0,0,0,0⟩⟩
def encS (s:Sp):PV:=.agg [.int .i64 s.a,.int .i64 s.b,.int .i64 s.c,.int .i64 s.d]
def ynK (l:List Sp):List PV:=l.map encS
def yne (l:List (List Sp)):List PV:=l.map fun s=>.data (ynK s)
theorem yBg (l:List Sp):(ynK l).length=l.length:=qAe ..
theorem yJS {l:List Sp} {i:Nat} (h:i<l.length):List.getD (ynK l) i .nils=encS (l.getD i default):=by
 unfold ynK
 rw [qAb,qAb,qA4,qAd h]
 rfl
theorem yzs (l:List (List Sp)):(yne l).length=l.length:=qAe ..
theorem yIy {l:List (List Sp)} {i:Nat} (h:i<l.length):List.getD (yne l) i .nils=.data (ynK (l.getD i [])):=by
 unfold yne
 rw [qAb,qAb,qA4,qAd h]
 rfl
theorem asS {s:Sp} {P:Prop}:asr (conf z4 (encS s)) P=P:=rfl
theorem asD {r:List PV} {P:Prop}:asr (conf zD (.data r)) P=P:=rfl
theorem yzt {s:List Sp} (hl:s.length<4611686018427387904) (K:Bool→Prop) :
  ∀ (r i n:Nat),i+r=s.length→r<n→ydU (fun a=>(K a)) (fun _ _ _ _=>(K true)) n (ynK s) (ynK s) i=K true
 | 0,i,n+1,hi,hn=>by
  unfold ydU
  rw [yBg,cbF (by omega)]
 | r+1,i,n+1,hi,hn=>by
  unfold ydU
  have e1:=wib (n:=(i:Int)+1) (by omega) (by omega)
  rw [yBg,cbT (by omega),qAh,yJS (by omega),asT (by omega),asT (by omega),asS,asT (by omega),asT (by omega),asS,e1,ygN]
  simp only [beq_self_eq_true,Bool.and_self,qBh,yad]
  exact yzt hl K r (i+1) n (by omega) (by omega)
theorem yGM {s:List Sp} (hl:s.length<4611686018427387904) (K:Bool→Prop):ydF (ynK s) (ynK s) K=K true:=by
 refine yC4 _ _ _ (fun K k=>?_) K
 unfold ydF yo0
 rw [cnF rfl]
 refine ⟨s.length+1,?_⟩
 exact (yzt hl K s.length 0 (s.length+1) (by omega) (by omega)).mpr k
theorem yzu {l:List (List Sp)} (hf:∀ i,i<l.length→(l.getD i []).length<4611686018427387904) (hl:l.length<4611686018427387904) (K:Bool→Prop) :
  ∀ (r i n:Nat),i+r=l.length→r<n→ydV ydF (fun a=>(K a)) (fun _ _ _ _=>(K true)) n (yne l) (yne l) i=K true
 | 0,i,n+1,hi,hn=>by
  unfold ydV
  rw [yzs,cbF (by omega)]
 | r+1,i,n+1,hi,hn=>by
  unfold ydV
  have e1:=wib (n:=(i:Int)+1) (by omega) (by omega)
  rw [yzs,cbT (by omega),qAh,yIy (by omega),asT (by omega),asT (by omega),asD,asT (by omega),asT (by omega),asD]
  show ydF (ynK (l.getD i [])) (ynK (l.getD i [])) _=_
  rw [yGM (hf i (by omega)),qBh,yad,e1,ygN]
  exact yzu hf hl K r (i+1) n (by omega) (by omega)
theorem yzv {l:List (List Sp)} (hf:∀ i,i<l.length→(l.getD i []).length<4611686018427387904) (hl:l.length<4611686018427387904) (K:Bool→Prop):yeR (yne l) (yne l) K=K true:=by
 refine yC5 _ _ _ (fun K k=>?_) K
 unfold yeR yo2
 rw [cnF rfl]
 refine ⟨l.length+1,?_⟩
 exact (yzu hf hl K l.length 0 (l.length+1) (by omega) (by omega)).mpr k
def getR (e:Except Int Rat):Rat:=match e with | .ok q=>q | .error _=>0
theorem yKL {e:Except Int Rat} {q:Rat} (h:e=.ok q):e=.ok (getR e)∧getR e=q:=by subst h;exact ⟨rfl,rfl⟩
section
variable {l:List Ck}
theorem yKM (x y:Rat):decide (cmpQ x y≥0)=!decide (x<y):=by
 unfold cmpQ
 by_cases h:x<y
 ·simp [h]
 ·by_cases h2:y<x <;> simp [h,h2]
theorem yIz (K:Bool→Prop):yeR [] [] K=K true:=yzv (l:=[]) (fun i hi=>absurd hi (Nat.not_lt_zero i)) (by decide) K
theorem yqF {a:List Qy} (ha:a.length<4611686018427387904) (K:Bool→Prop):ycC (logs a) (logs a) K=K true:=by
 rw [yFh ha ha,decide_eq_true rfl]
theorem yDi (K:Bool→Prop):ycC [] [] K=K true:=yqF (a:=[]) (by decide) K
end
def dsC:DS:=.a [.i .i64,.s (.i .i64),.s (.i .i64)]
theorem yHA {n:Int} (h:inK .i64 n):I64 n:=by
 have e1:IntKind.i64.min=-9223372036854775808:=by decide
 have e2:IntKind.i64.max=9223372036854775807:=by decide
 unfold inK at h
 rw [e1,e2] at h
 exact h
theorem F_i {c:List PV} (h:HasF (.i .i64) c):∃ n,c=[.int .i64 n]∧I64 n:=by
 simp only [HasF] at h
 obtain ⟨n,e,k⟩:=h
 exact ⟨n,e,yHA k⟩
theorem yDj:∀ (rows:List PV),(∀ x∈rows,x.isAgg=(DS.i .i64).isA∧HasF (.i .i64) x.cells)→∃ l:List Int,rows=ints l∧∀ n∈l,I64 n
 | [],_=>⟨[],rfl,by simp⟩
 | x::r,h=>by
  obtain ⟨l,e,hl⟩:=yDj r (fun y hy=>h y (qAo _ hy))
  obtain ⟨h1,h2⟩:=h x (qAx ..)
  obtain ⟨n,e2,hn⟩:=F_i h2
  have ex:x=.int .i64 n:=by
   cases x <;> first | (simp only [PV.cells,qA2,and_true] at e2;exact e2) | (cases h1)
  refine ⟨n::l,by rw [ex,e];rfl,?_⟩
  intro m hm
  rcases qAz.1 hm with rfl | hm
  ·exact hn
  ·exact hl m hm
def Ck.i64 (c:Ck):Prop:=I64 c.len∧(∀ n∈c.cuts,I64 n)∧∀ n∈c.dens,I64 n
theorem F_c {c:List PV} (h:HasF dsC c):∃ k:Ck,c=[.int .i64 k.len,.data (ints k.cuts),.data (ints k.dens)]∧k.i64∧k.cuts.length≤9223372036854775807∧k.dens.length≤9223372036854775807:=by
 simp only [dsC,HasF,HasL] at h
 obtain ⟨c1,c2,rfl,⟨n,rfl,hn⟩,c3,c4,rfl,⟨r1,rfl,l1,h1⟩,c5,c6,rfl,⟨r2,rfl,l2,h2⟩,rfl⟩:=h
 obtain ⟨a,rfl,ha⟩:=yDj r1 (fun x hx=>⟨(h1 x hx).1,by simp only [HasF];exact (h1 x hx).2⟩)
 obtain ⟨b,rfl,hb⟩:=yDj r2 (fun x hx=>⟨(h2 x hx).1,by simp only [HasF];exact (h2 x hx).2⟩)
 rw [yaI] at l1 l2
 exact ⟨⟨n,a,b⟩,rfl,⟨yHA hn,ha,hb⟩,l1,l2⟩
theorem yLS {x:PV} {l:List DS} (h:x.isAgg=(DS.a l).isA):x=.agg x.cells:=by
 cases x <;> first | rfl | cases h
theorem yJT:∀ (rows:List PV),(∀ x∈rows,x.isAgg=dsC.isA∧HasF dsC x.cells)→∃ l:List Ck,rows=cks l∧∀ c∈l,c.i64
 | [],_=>⟨[],rfl,by simp⟩
 | x::r,h=>by
  obtain ⟨l,e,hl⟩:=yJT r (fun y hy=>h y (qAo _ hy))
  obtain ⟨h1,h2⟩:=h x (qAx ..)
  obtain ⟨k,e2,hk,_⟩:=F_c h2
  have ex:x=encC k:=by rw [yLS h1,e2];rfl
  refine ⟨k::l,by rw [ex,e];rfl,?_⟩
  intro m hm
  rcases qAz.1 hm with rfl | hm
  ·exact hk
  ·exact hl m hm
theorem yMd {c:List PV} (h:HasF (.s dsC) c):∃ l:List Ck,c=[.data (cks l)]∧l.length≤9223372036854775807∧∀ k∈l,k.i64:=by
 simp only [HasF] at h
 obtain ⟨rows,rfl,hl,hr⟩:=h
 obtain ⟨l,rfl,hi⟩:=yJT rows hr
 rw [ybb] at hl
 exact ⟨l,rfl,hl,hi⟩
theorem yBh {x y:PV} (h:x.isAgg=false) (e:x.cells=[y]):x=y:=by
 cases x <;> first | (simp only [PV.cells,qA2,and_true] at e;exact e) | cases h
theorem yKN {az:List PV} (h:ysF [.s dsC,.i .i64] az):∃ (l:List Ck) (n:Int),az=[.data (cks l),.int .i64 n]∧l.length≤9223372036854775807∧I64 n∧∀ k∈l,k.i64:=by
 simp only [ysF] at h
 obtain ⟨x,r,rfl,x1,x2,y,r2,rfl,y1,y2,rfl⟩:=h
 obtain ⟨l,e1,hl,hi⟩:=yMd x2
 obtain ⟨n,e2,hn⟩:=F_i y2
 rw [yBh x1 e1,yBh y1 e2]
 exact ⟨l,n,rfl,hl,hn,hi⟩
end Go.Pf.Vc
namespace Go.Pf.Vc
abbrev RS:Type:=Rat×Rat
def maxR (a b:Rat):Rat:=if a<b then b else a
def minR (a b:Rat):Rat:=if a<b then a else b
theorem yez (a b:Rat):a≤maxR a b∧b≤maxR a b∧(maxR a b=a∨maxR a b=b):=by unfold maxR;split <;> grind
theorem yfF (a b:Rat):minR a b≤a∧minR a b≤b∧(minR a b=a∨minR a b=b):=by unfold minR;split <;> grind
end Go.Pf.Vc
namespace Go.Pf.Vc
open Go Go.Pf
theorem yzw (q r:Rat):decide (cmpQ q r<0)=decide (q<r):=by
 unfold cmpQ
 by_cases h:q<r
 ·rw [if_pos h];simp [h]
 ·rw [if_neg h]
  split <;> simp [h]
theorem yKO (q r:Rat):decide (cmpQ q r≤0)=!decide (r<q):=by
 unfold cmpQ
 by_cases h:q<r
 ·have:¬r<q:=by grind
  rw [if_pos h];simp [this]
 ·rw [if_neg h]
  by_cases h2:r<q
  ·rw [if_pos h2];simp [h2]
  ·rw [if_neg h2];simp [h2]
def spOf (r:RS):Sp:=⟨r.1.num,r.1.den,r.2.num,r.2.den⟩
def rsp (l:List RS):List PV:=ynK (l.map spOf)
theorem asTr (P:Prop):asr (decide True) P=P:=by rw [decide_true];rfl
theorem ez (P Q:Prop):cbr ((0:Int) == 0) P Q=P:=rfl
section
variable (V:Rat→Rat)
def dV (s:RS):Rat:=V s.2-V s.1
end
section
variable {len:Int} {cuts dens:List Int}
def uC (cuts:List Int) (i:Nat) (x:Rat):Rat:=minR (maxR x (cuts.getD i 0:Int)) (cuts.getD (i+1) 0:Int)
def vu (cuts dens:List Int) (x:Rat):Nat→Nat→Rat
 | 0,_=>0
 | r+1,i=>(dens.getD i 0:Int)*uC cuts i x+vu cuts dens x r (i+1)
theorem yzx (h:VC len cuts dens):∀ (r i:Nat) {x y:Rat},i+r=dens.length→x≤(cuts.getD i 0:Int)→y≤(cuts.getD i 0:Int)→vu cuts dens x r i=vu cuts dens y r i
 | 0,_,_,_,_,_,_=>rfl
 | r+1,i,x,y,hi,hx,hy=>by
  have l1:=h.l1
  have hst:((cuts.getD i 0:Int):Rat)<((cuts.getD (i+1) 0:Int):Rat):=Rat.intCast_lt_intCast.2 (h.step (i:=i) (by omega))
  have ih:=yzx h r (i+1) (x:=x) (y:=y) (by omega) (by grind) (by grind)
  unfold vu
  rw [ih]
  have e:uC cuts i x=uC cuts i y:=by
   unfold uC
   have a1:=yez x (cuts.getD i 0:Int)
   have a2:=yez y (cuts.getD i 0:Int)
   have e1:maxR x (cuts.getD i 0:Int)=(cuts.getD i 0:Int):=by grind
   have e2:maxR y (cuts.getD i 0:Int)=(cuts.getD i 0:Int):=by grind
   rw [e1,e2]
  rw [e]
theorem yks {α:Type} {q:Rat} {k:Rat→Except Int α} {v:α} (h:fit q k=.ok v):k q=.ok v:=by
 unfold fit at h
 split at h
 ·exact h
 ·cases h
theorem yxt (h:VC len cuts dens) {b:Rat}:∀ (r i:Nat) (p sum v:Rat),i+r=dens.length→p≤b→(p=b∨((cuts.getD i 0:Int):Rat)≤p)→valS cuts dens b r i p sum=.ok v→v=sum+(vu cuts dens b r i-vu cuts dens p r i)
 | 0,i,p,sum,v,hi,hp,hc,hv=>by
  unfold valS at hv
  cases hv
  unfold vu
  grind
 | r+1,i,p,sum,v,hi,hp,hc,hv=>by
  have l1:=h.l1
  have hst:((cuts.getD i 0:Int):Rat)<((cuts.getD (i+1) 0:Int):Rat):=Rat.intCast_lt_intCast.2 (h.step (i:=i) (by omega))
  unfold valS at hv
  dsimp only at hv
  have hen:∃ en:Rat,(if b<((cuts.getD (i+1) 0:Int):Rat) then b else ((cuts.getD (i+1) 0:Int):Rat))=en∧en≤b∧en≤((cuts.getD (i+1) 0:Int):Rat)∧(en=b∨en=((cuts.getD (i+1) 0:Int):Rat)):=by
   refine ⟨_,rfl,?_⟩
   split <;> grind
  obtain ⟨en,e0,he1,he2,he3⟩:=hen
  rw [e0] at hv
  have low:=yzx h r (i+1) (x:=en) (y:=p) (by omega)
  have m1:=yez b (cuts.getD i 0:Int)
  have m2:=yez p (cuts.getD i 0:Int)
  have n1:=yfF (maxR b (cuts.getD i 0:Int)) (cuts.getD (i+1) 0:Int)
  have n2:=yfF (maxR p (cuts.getD i 0:Int)) (cuts.getD (i+1) 0:Int)
  unfold vu uC
  generalize ((cuts.getD i 0:Int):Rat)=c0 at *
  generalize hc1:((cuts.getD (i+1) 0:Int):Rat)=c1 at *
  by_cases hlt:p<en
  ·have hb:minR (maxR b c0) c1=en:=by grind
   have hq:minR (maxR p c0) c1=p:=by grind
   by_cases hd:dens.getD i 0=0
   ·rw [if_pos (.inl hd),if_pos hlt] at hv
    have ih:=yxt h r (i+1) en sum v (by omega) he1 (by rw [hc1];grind) hv
    rw [ih,hd,low (by grind) (by grind)]
    grind
   ·rw [if_neg (by intro k;rcases k with k | k;exact hd k;exact k hlt)] at hv
    have hv:=yks (yks (yks hv))
    have ih:=yxt h r (i+1) en _ v (by omega) he1 (by rw [hc1];grind) hv
    rw [ih,low (by grind) (by grind),hb,hq]
    grind
  ·rw [if_pos (.inr hlt),if_neg hlt] at hv
   have ih:=yxt h r (i+1) p sum v (by omega) hp (by rw [hc1];grind) hv
   have:minR (maxR b c0) c1=minR (maxR p c0) c1:=by grind
   rw [ih,this]
   grind
def vX (cuts dens:List Int) (x:Rat):Rat:=vu cuts dens x dens.length 0
theorem yKP (h:VC len cuts dens) {a b v:Rat} (h0:0≤a) (hab:a≤b) (hv:valC cuts dens a b=.ok v):v=vX cuts dens b-vX cuts dens a:=by
 have c0:cuts.getD 0 0=0:=h.2.2.2.2.2.1
 have:=yxt h dens.length 0 a 0 v (by omega) hab (.inr (by rw [c0];exact h0)) hv
 unfold vX
 rw [this];grind
theorem yKQ (q r:Rat):decide (cmpQ q r>0)=decide (r<q):=by
 rw [← Bool.not_eq_not,← yKO,Bool.eq_iff_iff]
 simp only [decide_eq_true_eq]
 omega
theorem yHB (h:VC len cuts dens) {i:Nat} (hi:i+1<cuts.length) {x y:Rat} (hxy:x≤y):uC cuts i x≤uC cuts i y:=by
 have hst:((cuts.getD i 0:Int):Rat)<((cuts.getD (i+1) 0:Int):Rat):=Rat.intCast_lt_intCast.2 (h.step (i:=i) hi)
 have m1:=yez x (cuts.getD i 0:Int)
 have m2:=yez y (cuts.getD i 0:Int)
 have n1:=yfF (maxR x (cuts.getD i 0:Int)) (cuts.getD (i+1) 0:Int)
 have n2:=yfF (maxR y (cuts.getD i 0:Int)) (cuts.getD (i+1) 0:Int)
 unfold uC
 grind
theorem yJU (h:VC len cuts dens) {i:Nat} (hi:i<dens.length):(0:Rat)≤((dens.getD i 0:Int):Rat):=Rat.intCast_nonneg.2 (h.den hi).1
theorem yDk (h:VC len cuts dens) {x y:Rat} (hxy:x≤y):∀ (r i:Nat),i+r=dens.length→vu cuts dens x r i≤vu cuts dens y r i
 | 0,_,_=>qB9
 | r+1,i,hi=>by
  have l1:=h.l1
  have h1:=yHB h (i:=i) (by omega) hxy
  have h2:=yDk h hxy r (i+1) (by omega)
  have h3:=qBv h1 (yJU h (i:=i) (by omega))
  unfold vu
  grind
theorem yt9 (h:VC len cuts dens) {x y:Rat} (hxy:x≤y):vX cuts dens x≤vX cuts dens y:=yDk h hxy dens.length 0 (by omega)
theorem yxu (h:VC len cuts dens):∀ (r i:Nat) (p v q:Rat),i+r=dens.length→0<v→((cuts.getD i 0:Int):Rat)≤p→mrkS cuts dens r i p v=.ok q →
  vu cuts dens q r i-vu cuts dens p r i=v∧p<q∧q≤((cuts.getD dens.length 0:Int):Rat)∧∀ x,x<q→vu cuts dens x r i<vu cuts dens q r i
 | 0,_,_,_,_,_,_,_,e=>by cases e
 | r+1,i,p,v,q,hi,hv,hp,e=>by
  have l1:=h.l1
  have hst:((cuts.getD i 0:Int):Rat)<((cuts.getD (i+1) 0:Int):Rat):=Rat.intCast_lt_intCast.2 (h.step (i:=i) (by omega))
  have hd:=h.den (i:=i) (by omega)
  have hd0:=yJU h (i:=i) (by omega)
  have low:=fun {x y:Rat}=>yzx h r (i+1) (x:=x) (y:=y) (by omega)
  have hmon:=fun {x:Rat} (hx:x<q)=>yHB h (i:=i) (by omega) (qA1 hx)
  have hmon2:=fun {x:Rat} (hx:x<q)=>yDk h (qA1 hx) r (i+1) (by omega)
  have m1:=yez p (cuts.getD i 0:Int)
  have m2:=yez q (cuts.getD i 0:Int)
  have n1:=yfF (maxR p (cuts.getD i 0:Int)) (cuts.getD (i+1) 0:Int)
  have n2:=yfF (maxR q (cuts.getD i 0:Int)) (cuts.getD (i+1) 0:Int)
  unfold mrkS at e
  by_cases c1:p<((cuts.getD (i+1) 0:Int):Rat)
  case neg =>
   rw [if_pos c1] at e
   obtain ⟨a1,a2,a3,a4⟩:=yxu h r (i+1) p v q (by omega) hv (Rat.not_lt.1 c1) e
   have eq:uC cuts i q=uC cuts i p:=by unfold uC;grind
   refine ⟨by unfold vu;rw [eq];grind,a2,a3,fun x hx=>?_⟩
   have b1:=a4 x hx
   have b2:=qBv (hmon hx) hd0
   unfold vu
   grind
  rw [if_neg (fun k=>k c1)] at e
  by_cases c2:dens.getD i 0=0
  ·rw [if_pos c2] at e
   obtain ⟨a1,a2,a3,a4⟩:=yxu h r (i+1) _ v q (by omega) hv qB9 e
   have e2:=low (x:=p) (y:=((cuts.getD (i+1) 0:Int):Rat)) (qA1 c1) qB9
   refine ⟨by unfold vu;rw [e2,c2];grind,by grind,a3,fun x hx=>?_⟩
   have b1:=a4 x hx
   have b2:=qBv (hmon hx) hd0
   unfold vu
   grind
  rw [if_neg c2] at e
  have e:=yks (yks e)
  have dpos:(0:Rat)<((dens.getD i 0:Int):Rat):=Rat.intCast_pos.2 (by omega)
  have up:uC cuts i p=p:=by unfold uC;grind
  by_cases c3:(((cuts.getD (i+1) 0:Int):Rat)-p)*((dens.getD i 0:Int):Rat)<v
  ·rw [if_pos c3] at e
   have e:=yks e
   obtain ⟨a1,a2,a3,a4⟩:=yxu h r (i+1) _ _ q (by omega) (by grind) qB9 e
   have e2:=low (x:=p) (y:=((cuts.getD (i+1) 0:Int):Rat)) (qA1 c1) qB9
   have uq:uC cuts i q=((cuts.getD (i+1) 0:Int):Rat):=by unfold uC;grind
   refine ⟨by unfold vu;rw [e2,up,uq];grind,by grind,a3,fun x hx=>?_⟩
   have b1:=a4 x hx
   have b2:=qBv (hmon hx) hd0
   unfold vu
   grind
  ·rw [if_neg c3] at e
   have e:=yks (yks e)
   cases e
   generalize hs:v / ((dens.getD i 0:Int):Rat)=s at *
   have es:s*((dens.getD i 0:Int):Rat)=v:=by rw [← hs];exact Rat.div_mul_cancel (by grind)
   have s0:0<s:=by
    refine Rat.not_le.1 fun k=>?_
    have:=Rat.mul_le_mul_of_nonneg_right k hd0
    grind
   have s1:p+s≤((cuts.getD (i+1) 0:Int):Rat):=by
    refine Rat.not_lt.1 fun k=>?_
    have:(((cuts.getD (i+1) 0:Int):Rat)-p)<s:=by grind
    have:=Rat.mul_lt_mul_of_pos_right this dpos
    grind
   have uq:uC cuts i (p+s)=p+s:=by unfold uC;grind
   have e2:=low (x:=p+s) (y:=p) s1 (qA1 c1)
   have hlast:cuts.getD (i+1) 0≤cuts.getD dens.length 0:=h.mono (by omega) (by omega)
   have hlast:((cuts.getD (i+1) 0:Int):Rat)≤((cuts.getD dens.length 0:Int):Rat):=qA7.2 hlast
   refine ⟨by unfold vu;rw [e2,up,uq];grind,by grind,by grind,fun x hx=>?_⟩
   have b1:=hmon2 hx
   have ux:uC cuts i x<p+s:=by
    have k1:=yez x (cuts.getD i 0:Int)
    have k2:=yfF (maxR x (cuts.getD i 0:Int)) (cuts.getD (i+1) 0:Int)
    unfold uC
    grind
   have b2:=Rat.mul_lt_mul_of_pos_left ux dpos
   unfold vu
   rw [uq]
   grind
theorem VC.last (h:VC len cuts dens):cuts.getD dens.length 0=len:=by
 have l1:=h.l1
 have:=h.2.2.2.2.2.2.1
 rw [show dens.length=cuts.length-1 by omega]
 exact this
theorem yKR (h:VC len cuts dens) {a v q:Rat} (h0:0≤a) (h1:a≤(len:Rat)) (hv:0≤v) (e:mrkC cuts dens a v=.ok q) :
  vX cuts dens q=vX cuts dens a+v∧a≤q∧q≤(len:Rat)∧(v=0→a=q)∧(v≠0→∀ x,x<q→vX cuts dens x<vX cuts dens q):=by
 unfold mrkC at e
 by_cases c:v=0
 ·rw [if_pos c] at e
  cases e
  rw [c]
  exact ⟨by grind,qB9,h1,fun _=>rfl,fun k=>absurd rfl k⟩
 ·rw [if_neg c] at e
  have c0:cuts.getD 0 0=0:=h.2.2.2.2.2.1
  obtain ⟨a1,a2,a3,a4⟩:=yxu h dens.length 0 a v q (by omega) (by grind) (by rw [c0];exact h0) e
  rw [h.last] at a3
  exact ⟨by unfold vX;grind,qA1 a2,a3,fun k=>absurd k c,fun _=>a4⟩
end
def In (D:Int) (q:Rat):Prop:=∃ n:Int,q=(n:Rat) / (D:Rat)
theorem In.int {D:Int} (h:1≤D) (c:Int):In D (c:Rat):=⟨c*D,by rw [Rat.intCast_mul,Rat.mul_div_cancel (rne h)]⟩
theorem In.add {D:Int} {q r:Rat} (h:In D q) (k:In D r):In D (q+r):=by
 obtain ⟨n,rfl⟩:=h
 obtain ⟨m,rfl⟩:=k
 exact ⟨n+m,by rw [Rat.intCast_add];grind⟩
theorem In.sub {D:Int} {q r:Rat} (h:In D q) (k:In D r):In D (q-r):=by
 obtain ⟨n,rfl⟩:=h
 obtain ⟨m,rfl⟩:=k
 exact ⟨n-m,by rw [Rat.intCast_sub];grind⟩
theorem In.mulI {D:Int} {q:Rat} (h:In D q) (d:Int):In D (q*(d:Rat)):=by
 obtain ⟨n,rfl⟩:=h
 exact ⟨n*d,by rw [Rat.intCast_mul];grind⟩
theorem In.up {D d:Int} {q:Rat} (hD:1≤D) (hd:1≤d) (h:In D q):In (d*D) q:=by
 obtain ⟨n,rfl⟩:=h
 have h1:=rne hD
 have h2:=rne hd
 refine ⟨d*n,?_⟩
 rw [Rat.intCast_mul,Rat.intCast_mul]
 grind
theorem In.div {D d:Int} {q:Rat} (hD:1≤D) (hd:1≤d) (h:In D q):In (d*D) (q / (d:Rat)):=by
 obtain ⟨n,rfl⟩:=h
 have h1:=rne hD
 have h2:=rne hd
 refine ⟨n,?_⟩
 rw [Rat.intCast_mul]
 grind
theorem In.small {D M:Int} {q:Rat} (h:In D q) (hD:1≤D∧D≤1000000000000000000) (hM:M*D≤1000000000000000000) (h0:-(M:Rat)≤q) (h1:q≤(M:Rat)):small q:=by
 obtain ⟨n,rfl⟩:=h
 have hp:(0:Rat)<(D:Rat):=Rat.intCast_pos.2 (by omega)
 have e:(n:Rat) / (D:Rat)*(D:Rat)=(n:Rat):=Rat.div_mul_cancel (rne hD.1)
 have a:=Rat.mul_le_mul_of_nonneg_right h0 (qA1 hp)
 have b:=Rat.mul_le_mul_of_nonneg_right h1 (qA1 hp)
 rw [e] at a b
 have a':((-(M*D):Int):Rat)≤(n:Rat):=by rw [Rat.intCast_neg,Rat.intCast_mul];grind
 have b':(n:Rat)≤((M*D:Int):Rat):=by rw [Rat.intCast_mul];exact b
 have a2:=qA7.1 a'
 have b2:=qA7.1 b'
 exact yIw (d:=D) ⟨by omega,by omega⟩ ⟨by omega,by omega⟩
section
variable {len:Int} {cuts dens:List Int}
theorem yxv (h:VC len cuts dens) {i j:Nat} (hij:i≤j) (hj:j≤dens.length):((cuts.getD i 0:Int):Rat)≤((cuts.getD j 0:Int):Rat):=qA7.2 (h.mono hij (by have:=h.l1;omega))
theorem yMe {D:Int} (hD:1≤D) {x:Rat} (hx:In D x) (i:Nat):In D (uC cuts i x):=by
 have n1:=yfF (maxR x (cuts.getD i 0:Int)) (cuts.getD (i+1) 0:Int)
 have m1:=yez x (cuts.getD i 0:Int)
 unfold uC
 rcases n1.2.2 with e | e
 ·rw [e]
  rcases m1.2.2 with e2 | e2
  ·rw [e2];exact hx
  ·rw [e2];exact In.int hD _
 ·rw [e];exact In.int hD _
theorem yLf {D:Int} (hD:1≤D) {x:Rat} (hx:In D x):∀ (r i:Nat),In D (vu cuts dens x r i)
 | 0,_=>In.int hD 0
 | r+1,i=>by
  unfold vu
  rw [Rat.mul_comm]
  exact ((yMe hD hx i).mulI _).add (yLf hD hx r (i+1))
theorem yLg {D:Int} (hD:1≤D) {x:Rat} (hx:In D x):In D (vX cuts dens x):=yLf hD hx _ _
theorem yJV (h:VC len cuts dens):∀ (r i:Nat),i+r=dens.length→vu cuts dens (len:Rat) r i-vu cuts dens ((cuts.getD i 0:Int):Rat) r i=((rem cuts dens r i:Int):Rat)
 | 0,_,_=>by unfold vu rem;show (0:Rat)-0=0;grind
 | r+1,i,hi=>by
  have ih:=yJV h r (i+1) (by omega)
  have hst:((cuts.getD i 0:Int):Rat)≤((cuts.getD (i+1) 0:Int):Rat):=yxv h (Nat.le_succ i) (by omega)
  have hl:((cuts.getD (i+1) 0:Int):Rat)≤(len:Rat):=by rw [← h.last];exact yxv h (by omega) (qAj _)
  have low:=yzx h r (i+1) (x:=((cuts.getD i 0:Int):Rat)) (y:=((cuts.getD (i+1) 0:Int):Rat)) (by omega) hst qB9
  have m1:=yez (len:Rat) (cuts.getD i 0:Int)
  have n1:=yfF (maxR (len:Rat) (cuts.getD i 0:Int)) (cuts.getD (i+1) 0:Int)
  have m2:=yez ((cuts.getD i 0:Int):Rat) (cuts.getD i 0:Int)
  have n2:=yfF (maxR ((cuts.getD i 0:Int):Rat) (cuts.getD i 0:Int)) (cuts.getD (i+1) 0:Int)
  have e1:uC cuts i (len:Rat)=((cuts.getD (i+1) 0:Int):Rat):=by unfold uC;grind
  have e2:uC cuts i ((cuts.getD i 0:Int):Rat)=((cuts.getD i 0:Int):Rat):=by unfold uC;grind
  unfold vu rem
  rw [e1,e2,low,Rat.intCast_add,Rat.intCast_mul,Rat.intCast_sub,← ih]
  grind
theorem yDl (h:VC len cuts dens):vX cuts dens (len:Rat)-vX cuts dens 0=((totC cuts dens:Int):Rat):=by
 have c0:cuts.getD 0 0=0:=h.2.2.2.2.2.1
 have:=yJV h dens.length 0 (by omega)
 rw [c0] at this
 unfold totC
 rw [yzq,show (0:Int)+rem cuts dens dens.length 0=rem cuts dens dens.length 0 by omega]
 exact this
theorem yHC (h:VC len cuts dens):(1:Rat)≤(len:Rat)∧(len:Rat)≤1000:=by
 have:=h.len0
 exact ⟨qA7.2 this.1,qA7.2 this.2⟩
theorem yHD (h:VC len cuts dens) {i:Nat} (hi:i<dens.length):(0:Rat)≤((dens.getD i 0:Int):Rat)∧((dens.getD i 0:Int):Rat)≤12:=by
 have:=h.den hi
 exact ⟨qA7.2 this.1,qA7.2 this.2⟩
theorem yHE {x d:Rat} (h0:0≤x) (hd:0≤d∧d≤12):0≤x*d∧x*d≤12*x:=by
 have a:=Rat.mul_nonneg h0 hd.1
 have b:=qBv hd.2 h0
 exact ⟨a,by grind⟩
theorem yvG (h:VC len cuts dens) {D:Int} (hD:1≤D∧D≤50000000000000) {b:Rat} (hb:In D b) (b1:b≤(len:Rat)) :
  ∀ (r i:Nat) (p sum:Rat),i+r=dens.length→In D p→In D sum→0≤p→p≤(len:Rat)→0≤sum→sum≤12*p→∃ v,valS cuts dens b r i p sum=.ok v
 | 0,i,p,sum,_,_,_,_,_,_,_=>⟨sum,rfl⟩
 | r+1,i,p,sum,hi,hp,hs,p0,p1,s0,s1=>by
  have l1:=h.l1
  have hl:=yHC h
  have hd:=yHD h (i:=i) (by omega)
  have hc1:((cuts.getD (i+1) 0:Int):Rat)≤(len:Rat):=by rw [← h.last];exact yxv h (by omega) (qAj _)
  unfold valS
  have hen:∃ en:Rat,(if b<((cuts.getD (i+1) 0:Int):Rat) then b else ((cuts.getD (i+1) 0:Int):Rat))=en∧In D en∧en≤(len:Rat):=by
   refine ⟨_,rfl,?_,?_⟩
   ·split
    ·exact hb
    ·exact In.int hD.1 _
   ·split <;> grind
  obtain ⟨en,e0,e1,e2⟩:=hen
  rw [e0]
  dsimp only
  split
  ·refine yvG h hD hb b1 r (i+1) _ sum (by omega) ?_ hs ?_ ?_ s0 ?_
   ·split
    ·exact e1
    ·exact hp
   ·split <;> grind
   ·split <;> grind
   ·split <;> grind
  ·rename_i hn
   have hlt:p<en:=by
    refine Classical.byContradiction fun k=>hn (.inr k)
   have m:=yHE (x:=en-p) (by grind) hd
   have i1:=e1.sub hp
   have i2:=i1.mulI (dens.getD i 0)
   have i3:=hs.add i2
   rw [ydG (i1.small (M:=1000) ⟨by omega,by omega⟩ (by omega) (by show -(1000:Rat)≤_;grind) (by show _≤(1000:Rat);grind)),
    ydG (i2.small (M:=12000) ⟨by omega,by omega⟩ (by omega) (by show -(12000:Rat)≤_;grind) (by show _≤(12000:Rat);grind)),
    ydG (i3.small (M:=12000) ⟨by omega,by omega⟩ (by omega) (by show -(12000:Rat)≤_;grind) (by show _≤(12000:Rat);grind))]
   exact yvG h hD hb b1 r (i+1) en _ (by omega) e1 i3 (by grind) e2 (by grind) (by grind)
theorem yIA (h:VC len cuts dens) {D:Int} (hD:1≤D∧D≤50000000000000) {a b:Rat} (ha:In D a) (hb:In D b) (a0:0≤a) (hab:a≤b) (b1:b≤(len:Rat)):valC cuts dens a b=.ok (vX cuts dens b-vX cuts dens a):=by
 obtain ⟨v,e⟩:=yvG h hD hb b1 dens.length 0 a 0 (by omega) ha (In.int hD.1 0) a0 (by grind) (by grind) (by grind)
 have e:valC cuts dens a b=.ok v:=e
 rw [e,yKP h a0 hab e]
end
def rspL (A:List (List RS)):List PV:=A.map fun a=>.data (rsp a)
theorem ylL (A:List (List RS)):(rspL A).length=A.length:=qAe ..
theorem yHF {A:List (List RS)} {i:Nat} (h:i<A.length):List.getD (rspL A) i .nils=.data (rsp (A.getD i [])):=by
 unfold rspL
 rw [qAb,qAb,qA4,qAd h]
 rfl
section
variable {len:Int} {cuts dens:List Int}
theorem yJW (h:VC len cuts dens) {s:RS} (hv:s.1<s.2) (hw:0≤s.1∧s.2≤(len:Rat)):0≤dV (vX cuts dens) s∧dV (vX cuts dens) s≤12000:=by
 have a:=yt9 h hw.1
 have b:=yt9 h hw.2
 have c:=yt9 h (qA1 hv)
 have t:=yDl h
 have tb:=qA7.2 (yzk h).2
 have tb:((totC cuts dens:Int):Rat)≤12000:=tb
 show 0≤vX cuts dens s.2-vX cuts dens s.1∧vX cuts dens s.2-vX cuts dens s.1≤12000
 grind
end
def QR (cs:List Ck) (q:Qy):Prop :=
 (0≤q.agent∧q.agent<cs.length)∧(I64 q.an∧I64 q.ad∧I64 q.bn∧I64 q.bd) ∧
  ∃ p:Rat,(q.cn=p.num∧q.cd=p.den) ∧
   ((q.kind=2∧mrkR (cs.getD q.agent.toNat default).len (cs.getD q.agent.toNat default).cuts (cs.getD q.agent.toNat default).dens q.an q.ad q.bn q.bd=.ok p) ∨
    (q.kind=1∧valR (cs.getD q.agent.toNat default).len (cs.getD q.agent.toNat default).cuts (cs.getD q.agent.toNat default).dens q.an q.ad q.bn q.bd=.ok p))
section
variable {len:Int} {cuts dens:List Int}
theorem yua (h:VC len cuts dens):∀ (r i:Nat) (p v:Rat),i+r=dens.length→((cuts.getD i 0:Int):Rat)≤p→p≤(len:Rat)→0<v→v≤vu cuts dens (len:Rat) r i-vu cuts dens p r i →
  ∀ D,1≤D→D≤1000000000000→In D p→In D v→v≤12000→∃ q d,mrkS cuts dens r i p v=.ok q∧(1≤d∧d≤12)∧In (d*D) q
 | 0,i,p,v,hi,_,_,v0,v1=>by
  unfold vu at v1
  grind
 | r+1,i,p,v,hi,hp,p1,v0,v1=>by
  intro D D1 D2 hpD hvD hv
  have l1:=h.l1
  have hl:=yHC h
  have hd:=yHD h (i:=i) (by omega)
  have hd2:=h.den (i:=i) (by omega)
  have hc0:(0:Rat)≤((cuts.getD i 0:Int):Rat):=Rat.intCast_nonneg.2 (h.lo (by omega))
  have hst:((cuts.getD i 0:Int):Rat)<((cuts.getD (i+1) 0:Int):Rat):=Rat.intCast_lt_intCast.2 (h.step (i:=i) (by omega))
  have hc1:((cuts.getD (i+1) 0:Int):Rat)≤(len:Rat):=by rw [← h.last];exact yxv h (by omega) (qAj _)
  have low:=yzx h r (i+1) (x:=p) (y:=((cuts.getD (i+1) 0:Int):Rat)) (by omega)
  have m1:=yez p (cuts.getD i 0:Int)
  have m2:=yez (len:Rat) (cuts.getD i 0:Int)
  have n1:=yfF (maxR p (cuts.getD i 0:Int)) (cuts.getD (i+1) 0:Int)
  have n2:=yfF (maxR (len:Rat) (cuts.getD i 0:Int)) (cuts.getD (i+1) 0:Int)
  have el:uC cuts i (len:Rat)=((cuts.getD (i+1) 0:Int):Rat):=by unfold uC;grind
  unfold vu at v1
  rw [el] at v1
  unfold mrkS
  by_cases c1:p<((cuts.getD (i+1) 0:Int):Rat)
  case neg =>
   rw [if_pos c1]
   have ep:uC cuts i p=((cuts.getD (i+1) 0:Int):Rat):=by unfold uC;grind
   rw [ep] at v1
   exact yua h r (i+1) p v (by omega) (Rat.not_lt.1 c1) p1 v0 (by grind) D D1 D2 hpD hvD hv
  rw [if_neg (fun k=>k c1)]
  have ep:uC cuts i p=p:=by unfold uC;grind
  rw [ep,low (qA1 c1) qB9] at v1
  by_cases cz:dens.getD i 0=0
  ·rw [if_pos cz]
   rw [cz] at v1
   have e0:((0:Int):Rat)=0:=rfl
   exact yua h r (i+1) ((cuts.getD (i+1) 0:Int):Rat) v (by omega) qB9 hc1 v0 (by grind) D D1 D2 (In.int D1 _) hvD hv
  rw [if_neg cz]
  have hd1:0<dens.getD i 0:=by omega
  have dpos:(0:Rat)<((dens.getD i 0:Int):Rat):=Rat.intCast_pos.2 hd1
  have m:=yHE (x:=((cuts.getD (i+1) 0:Int):Rat)-p) (by grind) hd
  by_cases c3:(((cuts.getD (i+1) 0:Int):Rat)-p)*((dens.getD i 0:Int):Rat)<v
  ·have i1:=(In.int D1 (cuts.getD (i+1) 0)).sub hpD
   have i2:=i1.mulI (dens.getD i 0)
   have i3:=hvD.sub i2
   rw [ydG (i1.small (M:=1000) ⟨by omega,by omega⟩ (by omega) (by show -(1000:Rat)≤_;grind) (by show _≤(1000:Rat);grind)),
    ydG (i2.small (M:=12000) ⟨by omega,by omega⟩ (by omega) (by show -(12000:Rat)≤_;grind) (by show _≤(12000:Rat);grind)),if_pos c3,
    ydG (i3.small (M:=12000) ⟨by omega,by omega⟩ (by omega) (by show -(12000:Rat)≤_;grind) (by show _≤(12000:Rat);grind))]
   exact yua h r (i+1) ((cuts.getD (i+1) 0:Int):Rat) (v-(((cuts.getD (i+1) 0:Int):Rat)-p)*((dens.getD i 0:Int):Rat)) (by omega) qB9 hc1 (by grind) (by grind) D D1 D2 (In.int D1 _) i3 (by grind)
  ·have i1:=(In.int D1 (cuts.getD (i+1) 0)).sub hpD
   have i2:=i1.mulI (dens.getD i 0)
   have i3:=hvD.div D1 (d:=dens.getD i 0) (by omega)
   have i4:=(hpD.up D1 (d:=dens.getD i 0) (by omega)).add i3
   have hDD:dens.getD i 0*D≤12*D:=qAn hd2.2 (by omega)
   have hDD1:1*1≤dens.getD i 0*D:=qCb (by omega) D1 (by omega) (by omega)
   generalize hs:v / ((dens.getD i 0:Int):Rat)=s at *
   have es:s*((dens.getD i 0:Int):Rat)=v:=by rw [← hs];exact Rat.div_mul_cancel (by grind)
   have s0:0≤s:=by
    refine Rat.not_lt.1 fun k=>?_
    have:=Rat.mul_lt_mul_of_pos_right k dpos
    grind
   have s1:p+s≤((cuts.getD (i+1) 0:Int):Rat):=by
    refine Rat.not_lt.1 fun k=>?_
    have:(((cuts.getD (i+1) 0:Int):Rat)-p)<s:=by grind
    have:=Rat.mul_lt_mul_of_pos_right this dpos
    grind
   rw [ydG (i1.small (M:=1000) ⟨by omega,by omega⟩ (by omega) (by show -(1000:Rat)≤_;grind) (by show _≤(1000:Rat);grind)),
    ydG (i2.small (M:=12000) ⟨by omega,by omega⟩ (by omega) (by show -(12000:Rat)≤_;grind) (by show _≤(12000:Rat);grind)),if_neg c3,
    ydG (i3.small (M:=1000) ⟨by omega,by omega⟩ (by omega) (by show -(1000:Rat)≤_;grind) (by show _≤(1000:Rat);grind)),
    ydG (i4.small (M:=1000) ⟨by omega,by omega⟩ (by omega) (by show -(1000:Rat)≤_;grind) (by show _≤(1000:Rat);grind))]
   exact ⟨_,dens.getD i 0,rfl,⟨by omega,hd2.2⟩,i4⟩
theorem yJX (h:VC len cuts dens) {p v:Rat} (p0:0≤p) (p1:p≤(len:Rat)) (v0:0<v) (hv:v≤vX cuts dens (len:Rat)-vX cuts dens p) {D:Int} (D1:1≤D) (D2:D≤1000000000000) (hp:In D p) (hvD:In D v) :
  ∃ q d,mrkC cuts dens p v=.ok q∧(1≤d∧d≤12)∧In (d*D) q∧vX cuts dens q=vX cuts dens p+v∧p<q∧q≤(len:Rat)∧∀ x,x<q→vX cuts dens x<vX cuts dens q:=by
 have c0:cuts.getD 0 0=0:=h.2.2.2.2.2.1
 have t:=yDl h
 have m0:=yt9 h p0
 have tb:((totC cuts dens:Int):Rat)≤12000:=qA7.2 (yzk h).2
 obtain ⟨q,d,e,hd,hq⟩:=yua h dens.length 0 p v (by omega) (by rw [c0];exact p0) p1 v0 hv D D1 D2 hp hvD (by grind)
 have ec:mrkC cuts dens p v=.ok q:=by
  unfold mrkC
  rw [if_neg (by grind)]
  exact e
 obtain ⟨k1,k2,k3,_,k5⟩:=yKR h p0 p1 (qA1 v0) ec
 refine ⟨q,d,ec,hd,hq,k1,?_,k3,k5 (by grind)⟩
 by_cases hlt:p<q
 ·exact hlt
 ·have:p=q:=by grind
  rw [← this] at k1
  grind
end
section
variable {l:List Ck}
def vXA (l:List Ck) (a:Nat) (p:Rat):Rat:=vX (l.getD a default).cuts (l.getD a default).dens p
def lenR (l:List Ck):Rat:=((l.getD 0 default).len:Rat)
def valQ (an ad:Int) (a:Nat) (p v:Rat):Qy:=⟨a,1,an,ad,p.num,p.den,v.num,v.den⟩
def valE (l:List Ck) (an ad:Int) (m a:Nat) (p:Rat):Except Int Rat:=qryR l m a (Ck.value an ad p.num p.den)
theorem yIB (hd:DK l) {a:Nat} (_:a<l.length) {an ad:Int} (ha:I64 an) (ha':I64 ad) (lg:List Qy) {p:Rat} (hp:small p) (K:List PV→List PV→Int→Int→Int→Prop) :
  ydv (cks l) (logs lg) a an ad p.num p.den K =
   match valE l an ad lg.length a p with
   | .ok v=>K (cks l) (logs (lg++[valQ an ad a p v])) v.num v.den 0
   | .error e=>K [] [] 0 0 e:=by
 have n6:=hd.n6
 rw [yIs hd.fin (by omega) (ylK lg) ha ha' hp.i1 hp.i2,yft]
 have em:qryR l lg.length a (Ck.value an ad p.num p.den)=valE l an ad lg.length a p:=rfl
 rw [em]
 cases valE l an ad lg.length a p with
 | ok v =>
  show K (cks l) (logs lg++[_]) _ _ _=K (cks l) (logs (lg++[_])) _ _ _
  rw [yzr];rfl
 | error c=>rfl
theorem yIC (hd:DK l) {a:Nat} {an ad:Int} (ha:I64 an) (ha':I64 ad) (lg:List Qy) {p:Rat} (hp:small p) (K:List PV→List PV→Int→Int→Int→Prop) :
  yaV (cks l) (logs lg) a an ad p.num p.den K =
   match valE l an ad lg.length a p with
   | .ok v=>K (cks l) (logs (lg++[valQ an ad a p v])) v.num v.den 0
   | .error e=>K [] [] 0 0 e:=by
 have n6:=hd.n6
 rw [yIu hd.fin (by omega) (ylK lg) ha ha' hp.i1 hp.i2,yft]
 have em:qryR l lg.length a (Ck.value an ad p.num p.den)=valE l an ad lg.length a p:=rfl
 rw [em]
 cases valE l an ad lg.length a p with
 | ok v =>
  show K (cks l) (logs lg++[_]) _ _ _=K (cks l) (logs (lg++[_])) _ _ _
  rw [yzr];rfl
 | error c=>rfl
theorem yBi (hd:DK l) {a:Nat} (h:a<l.length) {q p:Rat} (hs:small q) (hp:small p) (q0:0≤q) (qp:q≤p) (p1:p≤lenR l) {D:Int} (hD:1≤D∧D≤50000000000000) (hq:In D q) (hpD:In D p) {m:Nat} (hm:m<2000) :
  valE l q.num q.den m a p=.ok (vXA l a p-vXA l a q)∧QR l (valQ q.num q.den a p (vXA l a p-vXA l a q)):=by
 have hok:=hd.ok a h
 have hlen:=hd.len a h
 have p1':p≤((l.getD a default).len:Rat):=by rw [hlen];exact p1
 have e:valR (l.getD a default).len (l.getD a default).cuts (l.getD a default).dens q.num q.den p.num p.den=.ok (vXA l a p-vXA l a q):=by
  unfold valR
  rw [if_pos hok.ck,ypA,ypA,if_pos ⟨yJE hs q0 (Rat.le_trans qp p1'),yJE hp (Rat.le_trans q0 qp) p1',Rat.not_lt.2 qp⟩]
  exact yIA hok hD hq hpD q0 qp p1'
 refine ⟨?_,⟨by show (0:Int)≤a;omega,by show (a:Int)<_;omega⟩,⟨hs.i1,hs.i2,hp.i1,hp.i2⟩,vXA l a p-vXA l a q,⟨rfl,rfl⟩,.inr ⟨rfl,?_⟩⟩
 ·unfold valE qryR
  rw [if_pos (hd.err (by omega)),if_pos ⟨by omega,by omega⟩,qAh]
  have:Ck.value q.num q.den p.num p.den (l.getD a default)=.ok (vXA l a p-vXA l a q):=e
  rw [this]
  show (if m≥2000 then _ else _)=_
  rw [if_neg (by omega)]
 ·exact e
theorem yJY (hd:DK l) {q p:Rat} {d D:Int} (q0:0≤q) (qp:q≤p) (p1:p≤lenR l) (hd12:1≤d∧d≤12) (D1:1≤D) (D2:D≤1000000000000) (h:In (d*D) p):small p:=by
 have hn:=hd.n0
 have l0:=(hd.ok 0 (by omega)).len0
 have hL:lenR l≤1000:=qA7.2 l0.2
 have hdD:d*D≤12*D:=qAn hd12.2 (by omega)
 have hdD1:1*1≤d*D:=qCb hd12.1 D1 (by omega) (by omega)
 exact h.small (M:=1000) ⟨by omega,by omega⟩ (by omega) (by show -(1000:Rat)≤_;grind) (by show _≤(1000:Rat);grind)
end
set_option maxRecDepth 100000
section
variable {l:List Ck}
def mkV (l:List Ck) (a:Nat) (q v:Rat):Rat:=getR (mrkC (l.getD a default).cuts (l.getD a default).dens q v)
def mkQ (a:Nat) (q v p:Rat):Qy:=⟨a,2,q.num,q.den,v.num,v.den,p.num,p.den⟩
def vlQ (l:List Ck) (a:Nat) (q p:Rat):Qy:=valQ q.num q.den a p (vXA l a p-vXA l a q)
structure MkV (l:List Ck) (a:Nat) (q v:Rat) (D:Int):Prop where
 e:mrkC (l.getD a default).cuts (l.getD a default).dens q v=.ok (mkV l a q v)
 d:∃ d:Int,(1≤d∧d≤12)∧In (d*D) (mkV l a q v)
 eqv:vXA l a (mkV l a q v)=vXA l a q+v
 ge:q≤mkV l a q v
 le:mkV l a q v≤lenR l
theorem yLT (hd:DK l) {a:Nat} (ha:a<l.length) {q v:Rat} (q0:0≤q) (q1:q≤lenR l) (v0:0≤v) (hv:v≤vXA l a (lenR l)-vXA l a q) {D:Int} (D1:1≤D) (D2:D≤1000000000000) (hq:In D q) (hvD:In D v):MkV l a q v D:=by
 have hok:=hd.ok a ha
 have hlen:=hd.len a ha
 by_cases hz:v=0
 ·have e:mrkC (l.getD a default).cuts (l.getD a default).dens q v=.ok q:=by unfold mrkC;rw [if_pos hz]
  have g:mkV l a q v=q:=by unfold mkV;rw [e];rfl
  refine ⟨by rw [g];exact e,⟨1,by omega,by rw [g,Int.one_mul];exact hq⟩,by rw [g,hz];grind,by rw [g];exact qB9,by rw [g];exact q1⟩
 have v0:0<v:=by grind
 unfold vXA lenR at *
 rw [← hlen] at q1 hv
 obtain ⟨p,d,e,hd12,hp,k1,k2,k3,k4⟩:=yJX hok q0 q1 v0 hv D1 D2 hq hvD
 obtain ⟨_,g2⟩:=yKL e
 have g2:mkV l a q v=p:=g2
 refine ⟨?_,⟨d,hd12,?_⟩,?_,?_,?_⟩
 ·rw [g2];exact e
 ·rw [g2];exact hp
 ·rw [g2];exact k1
 ·rw [g2];exact qA1 k2
 ·rw [g2];unfold lenR;rw [← hlen];exact k3
theorem MkV.sm {a:Nat} {q v:Rat} {D:Int} (hd:DK l) (D1:1≤D) (D2:D≤1000000000000) (q0:0≤q) (h:MkV l a q v D):small (mkV l a q v):=by
 obtain ⟨d,hd12,hp⟩:=h.d
 exact yJY hd q0 h.ge h.le hd12 D1 D2 hp
theorem yBj (hd:DK l) {a:Nat} (ha:a<l.length) {q v:Rat} (hs:small q) (q0:0≤q) (q1:q≤lenR l) (hv:small v) (v0:0≤v) {D:Int} (h:MkV l a q v D) {lg:List Qy} (hm:lg.length<2000) (K:List PV→List PV→Int→Int→Int→Prop) :
  ydD (cks l) (logs lg) a q.num q.den v.num v.den K=K (cks l) (logs (lg++[mkQ a q v (mkV l a q v)])) (mkV l a q v).num (mkV l a q v).den 0:=by
 have n6:=hd.n6
 have hok:=hd.ok a ha
 have e1:mrkR (l.getD a default).len (l.getD a default).cuts (l.getD a default).dens q.num q.den v.num v.den=.ok (mkV l a q v):=by
  unfold mrkR
  rw [if_pos hok.ck,if_pos ⟨yJE hs q0 (by rw [hd.len a ha];exact q1),hv.rv,Rat.num_nonneg.2 v0⟩,ypA,ypA]
  exact h.e
 have e2:qryR l lg.length (a:Int) (Ck.mark q.num q.den v.num v.den)=.ok (mkV l a q v):=by
  unfold qryR
  rw [if_pos (hd.err (by omega)),if_pos ⟨by omega,by omega⟩,qAh]
  have:Ck.mark q.num q.den v.num v.den (l.getD a default)=.ok (mkV l a q v):=e1
  rw [this]
  show (if lg.length≥2000 then _ else _)=_
  rw [if_neg (by omega)]
 rw [yFe hd.fin (by omega) (ylK lg) hs.i1 hs.i2 hv.i1 hv.i2,yft,e2]
 show K (cks l) (logs lg++[_]) _ _ _=K (cks l) (logs (lg++[_])) _ _ _
 rw [yzr];rfl
theorem yLU (hd:DK l) {a:Nat} (ha:a<l.length) {q p:Rat} (hs:small q) (hp:small p) (q0:0≤q) (qp:q≤p) (p1:p≤lenR l) {D:Int} (hD:1≤D∧D≤50000000000000) (hq:In D q) (hpD:In D p) {lg:List Qy} (hm:lg.length<2000) (K:List PV→List PV→Int→Int→Int→Prop) :
  ydv (cks l) (logs lg) a q.num q.den p.num p.den K=K (cks l) (logs (lg++[vlQ l a q p])) (vXA l a p-vXA l a q).num (vXA l a p-vXA l a q).den 0:=by
 rw [yIB hd ha hs.i1 hs.i2 lg hp,(yBi hd ha hs hp q0 qp p1 hD hq hpD (m:=lg.length) hm).1]
 rfl
def totR (l:List Ck) (a:Nat):Rat:=((totC (l.getD a default).cuts (l.getD a default).dens:Int):Rat)
end
theorem exS3 {P R:Nat→Prop} (h0:P 0=False) (h:∀ n,P (n+1)=R n):(∃ n,P n)=∃ n,R n :=
 propext ⟨fun ⟨n,hn⟩=>match n,hn with | 0,hn=>(h0 ▸ hn).elim | n+1,hn=>⟨n,(h n) ▸ hn⟩,fun ⟨n,hn⟩=>⟨n+1,(h n).symm ▸ hn⟩⟩
theorem exC3 {Q:Prop}:(∃ _:Nat,Q)=Q:=propext ⟨fun ⟨_,h⟩=>h,fun h=>⟨0,h⟩⟩
section
variable {l:List Ck}
def vS (l:List Ck) (a:Nat) (s:RS):Rat:=vXA l a s.2-vXA l a s.1
end
section
variable {l:List Ck}
theorem tot3 (hd:DK l) {a:Nat} (ha:a<l.length):vXA l a (lenR l)-vXA l a 0=totR l a:=by
 have h:=yDl (hd.ok a ha)
 unfold vXA lenR totR
 rw [← hd.len a ha]
 exact h
theorem yzy (hd:DK l) {a:Nat} (ha:a<l.length) {x y:Rat} (h:x≤y):vXA l a x≤vXA l a y:=yt9 (hd.ok a ha) h
theorem lt3 (hd:DK l) {a:Nat} (ha:a<l.length) {x y:Rat} (h:vXA l a x<vXA l a y):x<y:=by
 refine Rat.not_le.1 fun k=>?_
 have:=yzy hd ha k
 grind
theorem tot0 (hd:DK l) {a:Nat} (ha:a<l.length):0<totR l a:=Rat.intCast_pos.2 (yJR (hd.ok a ha))
theorem yMf (hd:DK l) {a:Nat} (ha:a<l.length):totR l a≤12000:=by
 have hok:=hd.ok a ha
 have l0:=hok.len0
 have hw:0≤(0:Rat)∧((l.getD a default).len:Rat)≤((l.getD a default).len:Rat):=⟨qB9,qB9⟩
 have h:=(yJW hok (s:=((0:Rat),((l.getD a default).len:Rat))) (by
  show (0:Rat)<_
  exact Rat.intCast_pos.2 (by omega)) hw).2
 have e:=yDl hok
 unfold totR
 rw [← e]
 exact h
theorem sm3 {q:Rat} {D:Int} (h:In D q) (hD:1≤D∧D≤10000000000) (h0:-12000≤q) (h1:q≤12000):small q :=
 h.small (M:=12000) ⟨hD.1,by omega⟩ (by omega) (by show -(12000:Rat)≤_;grind) (by show _≤(12000:Rat);grind)
theorem yMg {a:Nat} {D:Int} (hD:1≤D) {s:RS} (h:In D s.1∧In D s.2):In D (vS l a s):=(yLg hD h.2).sub (yLg hD h.1)
theorem yJZ (hd:DK l) {a:Nat} (ha:a<l.length) {s:RS} (z:0≤s.1) (le:s.1≤s.2) (hl:s.2≤lenR l):0≤vS l a s∧vS l a s≤totR l a:=by
 have h1:=yzy hd ha z
 have h2:=yzy hd ha le
 have h3:=yzy hd ha hl
 have h4:=tot3 hd ha
 unfold vS
 constructor <;> grind
end
set_option maxHeartbeats 1000000
section
variable {l:List Ck}
theorem yJ0 {q r:Rat}:((q.num == r.num)&&(((q.den:Int) ==(r.den:Int))&&true))=decide (q=r):=by
 by_cases h:q=r
 ·subst h;simp
 ·rw [decide_eq_false h,Bool.and_true]
  cases h1:(q.num == r.num) with
  | false=>rfl
  | true =>
   cases h2:((q.den:Int) ==(r.den:Int)) with
   | false=>rfl
   | true =>
    simp only [beq_iff_eq] at h1 h2
    exact absurd (Rat.ext h1 (by omega)) h
end
set_option maxHeartbeats 1000000
section
variable {l:List Ck}
theorem yMh (hd:DK l) {a:Nat} (h2:a<l.length) {lg:List PV} (hm:lg.length≤2000) (K:Int→Int→Prop):yhI (cks l) lg a K=K (totC (l.getD a default).cuts (l.getD a default).dens) 0:=by
 have hok:=hd.ok a h2
 have n6:=hd.n6
 have h1:=VC.l1 hok;have h3:=VC.l2 hok
 unfold yhI ymD
 rw [ylJ hd.fin (by omega),hd.err hm,cnF rfl,yGK,decide_eq_true (by omega),qBh,yad]
 simp only [lt]
 rw [ybb,qAh,yc8 h2,asT (by omega),asT (by omega),asCk,ck0,ck1,ck2,yIp (by omega) (by omega),if_pos (VC.ck hok)]
theorem yzz (n:Int) (K:Int→Int→Prop):yaL n K=K n 1:=rfl
def hAsk (l:List Ck) (q p:Rat):Bool:=decide (q.num>0)||!decide (p=lenR l)
def hLog (l:List Ck) (a:Nat) (q p r:Rat):List Qy:=(bif hAsk l q p then [vlQ l a q p] else [])++[mkQ a q ((vXA l a p-vXA l a q)*r) (mkV l a q ((vXA l a p-vXA l a q)*r))]
def hAt (l:List Ck) (a:Nat) (q p r:Rat):Rat:=mkV l a q ((vXA l a p-vXA l a q)*r)
theorem yMi (hd:DK l) {a:Nat} (ha:a<l.length) {q p r:Rat} (hs:small q) (hp:small p) (hr:small r) (q0:0≤q) (qp:q≤p) (p1:p≤lenR l) (r0:0≤r) {D:Int} (hD:1≤D∧D≤50000000000000) (hq:In D q) (hpD:In D p) (hv:small (vXA l a p-vXA l a q)) (hw:small ((vXA l a p-vXA l a q)*r)) (v0:0≤vXA l a p-vXA l a q) {E:Int} (h:MkV l a q ((vXA l a p-vXA l a q)*r) E) {lg:List Qy} (hm:lg.length+1<2000) (K) :
  yay (cks l) (logs lg) a q.num q.den p.num p.den r.num r.den K=K (cks l) (logs (lg++hLog l a q p r)) (hAt l a q p r).num (hAt l a q p r).den 0:=by
 have mul:∀ K,ybg (vXA l a p-vXA l a q).num (vXA l a p-vXA l a q).den r.num r.den K=K ((vXA l a p-vXA l a q)*r).num ((vXA l a p-vXA l a q)*r).den 0:=fun K=>(yxo hv hr K).trans (by rw [ycp,if_pos hw])
 have w0:0≤(vXA l a p-vXA l a q)*r:=Rat.mul_nonneg v0 r0
 have tot:∀ K,yhI (cks l) (logs lg) a K=K (totC (l.getD a default).cuts (l.getD a default).dens) 0:=fun K=>yMh hd ha (by rw [yft];omega) K
 have n6:=hd.n6
 have h0:0<l.length:=by omega
 unfold yay ykY
 dsimp only [lt,Go.Pf.jn]
 rw [tot,yzz,show ((0:Int) == 0)=true from rfl,yag]
 have lnum:(lenR l).num=(l.getD 0 default).len:=qB7 _
 have lden:(((lenR l).den:Nat):Int)=1:=by unfold lenR;rw [qB8];rfl
 have e1:((p.num ==(l.getD 0 default).len)&&(((p.den:Int) == 1)&&true))=decide (p=lenR l):=by
  have:=yJ0 (q:=p) (r:=lenR l)
  rw [lnum,lden] at this
  exact this
 have mk:∀ (lg':List Qy) (K),lg'.length<2000→ydD (cks l) (logs lg') a q.num q.den ((vXA l a p-vXA l a q)*r).num ((vXA l a p-vXA l a q)*r).den K=_:=fun lg' K hm'=>yBj hd ha hs q0 (Rat.le_trans qp p1) hw w0 h hm' K
 have X:hAsk l q p=true→∀ K':List PV→List PV→Int→Int→Int→Prop,(ydv (cks l) (logs lg) a q.num q.den p.num p.den fun c g e0 e1 e2=>cbr (e2 == 0) (ybg e0 e1 r.num r.den fun y0 y1 y2=>cbr (y2 != 0) (K' c g 0 0 y2) (ydD c g a q.num q.den y0 y1 fun c g z0 z1 z2=>K' c g z0 z1 z2)) (cbr (e2 != 0) (K' c g 0 0 e2) (ydD c g a q.num q.den e0 e1 fun c g z0 z1 z2=>K' c g z0 z1 z2)))=K' (cks l) (logs (lg++hLog l a q p r)) (hAt l a q p r).num (hAt l a q p r).den 0:=fun hh K'=>by
  rw [yLU hd ha hs hp q0 qp p1 hD hq hpD (by omega),show ((0:Int) == 0)=true from rfl,yag,mul,cnF rfl,mk _ _ (by rw [qAa,qAi];omega)]
  unfold hLog hAt
  rw [hh,cond_true,qAf]
 by_cases hq0:q.num>0
 ·rw [cbT hq0,yag]
  exact X (by unfold hAsk;rw [decide_eq_true hq0];rfl) K
 ·rw [cbF hq0,ybb,asT (by omega),yc8 h0,asCk,ck0,yzz,e1]
  by_cases he:p=lenR l
  ·rw [decide_eq_true he,qBh,yad]
   have hz:q=0:=Rat.num_eq_zero.1 (by have:=Rat.num_nonneg.2 q0;omega)
   have ev:vXA l a p-vXA l a q=totR l a:=by rw [he,hz,tot3 hd ha]
   have en:(vXA l a p-vXA l a q).num=totC (l.getD a default).cuts (l.getD a default).dens:=by rw [ev];exact qB7 _
   have ed:(((vXA l a p-vXA l a q).den:Nat):Int)=1:=by rw [ev];unfold totR;rw [qB8];rfl
   rw [← en,← ed,mul,cnF rfl,mk _ _ (by omega)]
   unfold hLog hAt hAsk
   rw [decide_eq_false hq0,decide_eq_true he]
   rfl
  ·rw [decide_eq_false he,qA3,yag]
   exact X (by unfold hAsk;rw [decide_eq_false he,qA3,Bool.or_true]) K
end
set_option maxHeartbeats 1000000
def encH (h:Nat×Rat):PV:=.agg [.int .i64 h.1,.int .i64 h.2.num,.int .i64 h.2.den]
def ltH (x y:Nat×Rat):Bool:=decide (cmpQ x.2 y.2<0)
def insV {α:Type} (lt:α→α→Bool):List α→α→List α
 | [],x=>[x]
 | y::R,x=>bif lt x y then y::insV lt R x else x::y::R
theorem hCmp {x y:Nat×Rat} (hx:small x.2) (hy:small y.2) (K:Int→Prop):yaw (x.1:Int) x.2.num x.2.den (y.1:Int) y.2.num y.2.den K=K (cmpQ x.2 y.2):=by
 unfold yaw yhb yaS ygu
 rw [yxq hx hy]
theorem getH (R:List (Nat×Rat)) (x:Nat×Rat) (B:List (Nat×Rat)) {k:Nat} (h:k=R.length):List.getD ((R.reverse++x::B).map encH) k .nils=encH x:=by
 subst h
 rw [qAb,qA4,List.getElem?_append_right (by rw [qAp];exact qAj _),qAp,Nat.sub_self]
 rfl
theorem yMj (R:List (Nat×Rat)) (y x:Nat×Rat) (B:List (Nat×Rat)) {k:Nat} (h:k=R.length+1):List.getD ((R.reverse++y::x::B).map encH) k .nils=encH x:=by
 have:=getH (y::R) x B (k:=k) (by rw [h];rfl)
 rw [qAw,qAf] at this
 exact this
theorem setH (R:List (Nat×Rat)) (y x:Nat×Rat) (B:List (Nat×Rat)):List.set (List.set ((R.reverse++y::x::B).map encH) (R.length+1) (encH y)) R.length (encH x)=(R.reverse++x::y::B).map encH:=by
 rw [← List.map_set,← List.map_set,List.set_append_right _ _ (by rw [qAp];omega),qAp,List.set_append_right _ _ (by rw [qAp];omega),qAp]
 simp
theorem in4s (R:List (Nat×Rat)) (y x:Nat×Rat) (B:List (Nat×Rat)) (hl:(R.reverse++y::x::B).length<4611686018427387904) (hx:small x.2) (hy:small y.2) (b c:Int) {a0 a1 a2 a3 a4 a5 a6 a8 x1} (n:Nat) :
  ybh a0 a1 a2 a3 a4 a5 a6 yaw a8 x1 (n+1) ((R.reverse++y::x::B).map encH) 0 b c ((R.length:Int)+1) =
  cbr (ltH x y) (ybh a0 a1 a2 a3 a4 a5 a6 yaw a8 x1 n ((R.reverse++x::y::B).map encH) 0 b c (R.length:Int)) (x1 ((R.reverse++y::x::B).map encH) 0 b c ((R.length:Int)+1) false):=by
 have h1:(R.reverse++y::x::B).length=R.length+(B.length+2):=by rw [qAa,qAp];rfl
 rw [h1] at hl
 have gx:List.getD ((R.reverse++y::x::B).map encH) (0+((R.length:Int)+1).toNat) .nils=encH x:=yMj _ _ _ _ (by omega)
 have gy:List.getD ((R.reverse++y::x::B).map encH) (0+(R.length:Int).toNat) .nils=encH y:=getH _ _ _ (by omega)
 have w:IntKind.i64.wrap ((R.length:Int)+1-1)=(R.length:Int):=by rw [wib (by omega) (by omega)];omega
 conv=>lhs;unfold ybh
 dsimp only [lt,Go.Pf.jn]
 rw [cbT (by omega),w,gx,gy]
 have hlen:((R.reverse++y::x::B).map encH).length=R.length+(B.length+2):=by rw [qAe,h1]
 iterate 4 refine (asTT (by first | rfl | exact decide_eq_true (by rw [hlen];omega) | exact decide_eq_true (by omega))).trans ?_
 refine (asTT rfl).trans ?_
 iterate 4 refine (asTT (by first | rfl | exact decide_eq_true (by rw [hlen];omega) | exact decide_eq_true (by omega))).trans ?_
 refine (asTT rfl).trans ?_
 refine (hCmp hx hy _).trans ?_
 refine congrArg (fun z=>cbr (ltH x y) z _) ?_
 have k1:0+((R.length:Int)+1).toNat=R.length+1:=by omega
 have k0:0+(R.length:Int).toNat=R.length:=by omega
 have gs:List.getD (List.set ((R.reverse++y::x::B).map encH) (R.length+1) (encH y)) R.length .nils=encH y:=by
  rw [qAb,qA9 (by omega),← qAb]
  rw [← gy,k0]
 have hcf:conf (.agg [.i .i64,.i .i64,.i .i64]) (List.getD (List.set ((R.reverse++y::x::B).map encH) (R.length+1) (encH y)) R.length .nils)=true:=by rw [gs];rfl
 have hs:(List.set ((R.reverse++y::x::B).map encH) (R.length+1) (encH y)).length=R.length+(B.length+2):=by rw [qBj,hlen]
 have hss:(List.set (List.set ((R.reverse++y::x::B).map encH) (R.length+1) (encH y)) R.length (encH x)).length=R.length+(B.length+2):=by rw [qBj,hs]
 rw [k1,k0]
 iterate 4 refine (asTT (by first | rfl | exact decide_eq_true (by rw [hlen];omega) | exact decide_eq_true (by omega))).trans ?_
 refine (asTT rfl).trans ?_
 iterate 4 refine (asTT (by first | rfl | exact decide_eq_true (by rw [hlen];omega) | exact decide_eq_true (by omega))).trans ?_
 refine (asTT rfl).trans ?_
 iterate 4 refine (asTT (by first | rfl | exact decide_eq_true (by rw [hlen];omega) | exact decide_eq_true (by omega))).trans ?_
 refine (asTT rfl).trans ?_
 iterate 4 refine (asTT (by first | rfl | exact decide_eq_true (by rw [hlen];omega) | exact decide_eq_true (by omega) | exact decide_eq_true (hs.trans hlen.symm) | exact decide_eq_true (by show _<(List.set _ _ (encH y)).length;rw [hs];omega))).trans ?_
 refine (asTT hcf).trans ?_
 have ee:decide ((List.map encH (R.reverse++y::x::B)).length=(List.set (List.set ((R.reverse++y::x::B).map encH) (R.length+1) (encH y)) R.length (encH x)).length)=true:=decide_eq_true (hlen.trans hss.symm)
 refine (asTT (by rw [qAg];exact ⟨ee,ee⟩)).trans ?_
 have e:=setH R y x B
 show ybh _ _ _ _ _ _ _ _ _ _ _ (List.set (List.set ((R.reverse++y::x::B).map encH) (R.length+1) (encH y)) R.length (encH x)) _ _ _ _=_
 rw [e]
theorem in4z (x:Nat×Rat) (B:List (Nat×Rat)) (b c:Int) {a0 a1 a2 a3 a4 a5 a6 a7 a8 x1} (n:Nat) :
  ybh a0 a1 a2 a3 a4 a5 a6 a7 a8 x1 (n+1) ((x::B).map encH) 0 b c 0=x1 ((x::B).map encH) 0 b c 0 false:=by
 conv=>lhs;unfold ybh
 dsimp only [lt,Go.Pf.jn]
 rw [cbF (by omega),yad]
theorem in4 {a0 a1 a2 a3 a4 a5 a6 a8 x1} (b c:Int) {Y:List PV→Prop} (hX:∀ v j,x1 v 0 b c j false=Y v):∀ (R:List (Nat×Rat)) (x:Nat×Rat) (B:List (Nat×Rat)),(R.reverse++x::B).length<4611686018427387904→small x.2→(∀ y∈R,small y.2) →
  (∃ n,ybh a0 a1 a2 a3 a4 a5 a6 yaw a8 x1 n ((R.reverse++x::B).map encH) 0 b c (R.length:Int))=Y (((insV ltH R x).reverse++B).map encH)
 | [],x,B,hl,hx,hR=>by
  rw [exS3 rfl (R:=fun _=>x1 ((x::B).map encH) 0 b c 0 false) (fun n=>in4z x B b c n),exC3,hX]
  rfl
 | y::R,x,B,hl,hx,hR=>by
  have e1:(y::R).reverse++x::B=R.reverse++y::x::B:=by rw [qAw,qAf];rfl
  have e2:(((y::R).length:Nat):Int)=(R.length:Int)+1:=by simp
  rw [e1] at hl ⊢
  rw [e2]
  have ih:=in4 (a0:=a0) (a1:=a1) (a2:=a2) (a3:=a3) (a4:=a4) (a5:=a5) (a6:=a6) (a8:=a8) b c hX R x (y::B) (by rw [qAa] at hl ⊢;exact hl) hx (fun z hz=>hR z (qAo _ hz))
  cases ht:ltH x y with
  | true =>
   rw [exS3 rfl (R:=fun n=>ybh a0 a1 a2 a3 a4 a5 a6 yaw a8 x1 n ((R.reverse++x::y::B).map encH) 0 b c (R.length:Int)) (fun n=>by rw [in4s R y x B hl hx (hR y (qAx ..)) b c n,ht,yag]),ih]
   rw [show insV ltH (y::R) x=y::insV ltH R x by (show (bif ltH x y then _ else _)=_;rw [ht];rfl),qAw,qAf]
   rfl
  | false =>
   rw [exS3 rfl (R:=fun _=>x1 ((R.reverse++y::x::B).map encH) 0 b c ((R.length:Int)+1) false) (fun n=>by rw [in4s R y x B hl hx (hR y (qAx ..)) b c n,ht,yad]),exC3,hX]
   rw [show insV ltH (y::R) x=x::y::R by (show (bif ltH x y then _ else _)=_;rw [ht];rfl),qAw,qAw,qAf,qAf]
   rfl
theorem yfu {α:Type} (lt:α→α→Bool) (x:α):∀ R,(insV lt R x).length=R.length+1
 | []=>rfl
 | y::R=>by
  unfold insV
  cases lt x y with
  | true=>rw [cond_true,qAk,yfu lt x R];rfl
  | false=>rfl
theorem ype {α:Type} (lt:α→α→Bool) (x:α) {z:α}:∀ {R},z∈insV lt R x↔z=x∨z∈R
 | []=>by simp [insV]
 | y::R=>by
  unfold insV
  cases lt x y with
  | true=>rw [cond_true,qAz,ype lt x,qAz];exact ⟨fun h=>by rcases h with h | h | h <;> simp [h],fun h=>by rcases h with h | h | h <;> simp [h]⟩
  | false=>rw [cond_false,qAz,qAz]
def allV {α:Type} (lt:α→α→Bool):List α→List α→List α
 | R,[]=>R
 | R,x::B=>allV lt (insV lt R x) B
theorem out3 {a0 a1 a2 a3 a4 a5 a6 a8 x1} {Y:List PV→Prop} {N:Nat} (hN:N<4611686018427387904) (hX:∀ v j,x1 v 0 (N:Int) j false=Y v):∀ (B R:List (Nat×Rat)),R.length+B.length=N→(∀ y∈R,small y.2)→(∀ y∈B,small y.2) →
  (∃ n,ya7 a0 a1 a2 a3 a4 a5 a6 yaw a8 x1 n ((R.reverse++B).map encH) 0 (N:Int) (R.length:Int))=Y ((allV ltH R B).reverse.map encH)
 | [],R,hl,hR,hB=>by
  have e:∀ n,ya7 a0 a1 a2 a3 a4 a5 a6 yaw a8 x1 (n+1) ((R.reverse++[]).map encH) 0 (N:Int) (R.length:Int)=Y ((allV ltH R []).reverse.map encH):=fun n=>by
   conv=>lhs;unfold ya7
   rw [cbF (by simp only [qBd] at hl;omega),hX,qAy]
   rfl
  rw [exS3 rfl (R:=fun _=>_) e,exC3]
 | x::B,R,hl,hR,hB=>by
  have hl':R.length+(B.length+1)=N:=hl
  have hx:=hB x (qAx ..)
  have hB':∀ y∈B,small y.2:=fun y hy=>hB y (qAo _ hy)
  have hR':∀ y∈insV ltH R x,small y.2:=fun y hy=>by
   rcases (ype ltH x).1 hy with rfl | h
   ·exact hx
   ·exact hR y h
  have ih:=out3 (a0:=a0) (a1:=a1) (a2:=a2) (a3:=a3) (a4:=a4) (a5:=a5) (a6:=a6) (a8:=a8) hN hX B (insV ltH R x) (by rw [yfu];omega) hR' hB'
  rw [yfu] at ih
  have w:IntKind.i64.wrap ((R.length:Int)+1)=(((R.length+1:Nat)):Int):=by rw [wib (by omega) (by omega)];omega
  have e:∀ n,ya7 a0 a1 a2 a3 a4 a5 a6 yaw a8 x1 (n+1) ((R.reverse++x::B).map encH) 0 (N:Int) (R.length:Int)=ya7 a0 a1 a2 a3 a4 a5 a6 yaw a8 x1 n (((insV ltH R x).reverse++B).map encH) 0 (N:Int) ((R.length+1:Nat):Int):=fun n=>by
   conv=>lhs;unfold ya7
   dsimp only [lt]
   rw [cbT (by omega)]
   refine (asTT (by simp)).trans ?_
   refine (in4 (N:Int) (R.length:Int) (Y:=fun v=>ya7 a0 a1 a2 a3 a4 a5 a6 yaw a8 x1 n v 0 (N:Int) ((R.length+1:Nat):Int)) (fun v j=>by rw [w];exact asTT (by simp)) R x B (by rw [qAa,qAp,qAk];omega) hx hR)
  rw [exS3 rfl (R:=fun n=>ya7 a0 a1 a2 a3 a4 a5 a6 yaw a8 x1 n (((insV ltH R x).reverse++B).map encH) 0 (N:Int) ((R.length+1:Nat):Int)) e,ih]
  rfl
set_option maxHeartbeats 1000000
def ltV (x y:Nat):Bool:=decide ((x:Int)<(y:Int))
def encV (x:Nat):PV:=.int .i64 (x:Int)
theorem yLh (x y:Nat) (K:Bool→Prop):yao (x:Int) (y:Int) K=K (ltV x y):=by
 unfold yao yhT
 simp only [yhS,yg2,bne_self_eq_false,yad,Go.Pf.jn]
 rfl
theorem getV (R:List Nat) (x:Nat) (B:List Nat) {k:Nat} (h:k=R.length):List.getD ((R.reverse++x::B).map encV) k .nils=encV x:=by
 subst h
 rw [qAb,qA4,List.getElem?_append_right (by rw [qAp];exact qAj _),qAp,Nat.sub_self]
 rfl
theorem yLi (R:List Nat) (y x:Nat) (B:List Nat) {k:Nat} (h:k=R.length+1):List.getD ((R.reverse++y::x::B).map encV) k .nils=encV x:=by
 have:=getV (y::R) x B (k:=k) (by rw [h];rfl)
 rw [qAw,qAf] at this
 exact this
theorem setV (R:List Nat) (y x:Nat) (B:List Nat):List.set (List.set ((R.reverse++y::x::B).map encV) (R.length+1) (encV y)) R.length (encV x)=(R.reverse++x::y::B).map encV:=by
 rw [← List.map_set,← List.map_set,List.set_append_right _ _ (by rw [qAp];omega),qAp,List.set_append_right _ _ (by rw [qAp];omega),qAp]
 simp
theorem yLj (l0 l2:List PV) (R:List Nat) (y x:Nat) (B:List Nat) {N:Nat} (hN:R.length+(B.length+2)=N) (hl:N<4611686018427387904) (b c:Int) {a0 a1 a2 a3 a4 a5 a6 a7 x1} (n:Nat) :
  ybi a0 a1 a2 a3 a4 a5 a6 a7 yao x1 (n+1) l0 ((R.reverse++y::x::B).map encV) l2 N N 0 b c ((R.length:Int)+1) =
  cbr (ltV x y) (ybi a0 a1 a2 a3 a4 a5 a6 a7 yao x1 n l0 ((R.reverse++x::y::B).map encV) l2 N N 0 b c (R.length:Int)) (x1 l0 ((R.reverse++y::x::B).map encV) l2 N N 0 b c ((R.length:Int)+1) false):=by
 have gx:List.getD ((R.reverse++y::x::B).map encV) (0+((R.length:Int)+1).toNat) .nils=encV x:=yLi _ _ _ _ (by omega)
 have gy:List.getD ((R.reverse++y::x::B).map encV) (0+(R.length:Int).toNat) .nils=encV y:=getV _ _ _ (by omega)
 have w:IntKind.i64.wrap ((R.length:Int)+1-1)=(R.length:Int):=by rw [wib (by omega) (by omega)];omega
 conv=>lhs;unfold ybi
 dsimp only [lt,Go.Pf.jn]
 rw [cbT (by omega),w,gx,gy]
 have hlen:((R.reverse++y::x::B).map encV).length=N:=by rw [qAe,qAa,qAp,← hN];rfl
 have k1:0+((R.length:Int)+1).toNat=R.length+1:=by omega
 have k0:0+(R.length:Int).toNat=R.length:=by omega
 have gs:List.getD (List.set ((R.reverse++y::x::B).map encV) (R.length+1) (encV y)) R.length .nils=encV y:=by
  rw [qAb,qA9 (by omega),← qAb]
  rw [← gy,k0]
 have hcf:conf zI (List.getD (List.set ((R.reverse++y::x::B).map encV) (R.length+1) (encV y)) R.length .nils)=true:=by rw [gs];rfl
 have hs:(List.set ((R.reverse++y::x::B).map encV) (R.length+1) (encV y)).length=N:=by rw [qBj,hlen]
 iterate 4 refine (asTT (by first | rfl | exact decide_eq_true (by rw [hlen];omega) | exact decide_eq_true (by omega) | exact decide_eq_true hlen | exact decide_eq_true hs | exact decide_eq_true (by show _<(List.set _ _ (encV y)).length;rw [hs];omega))).trans ?_
 refine (asTT rfl).trans ?_
 iterate 4 refine (asTT (by first | rfl | exact decide_eq_true (by rw [hlen];omega) | exact decide_eq_true (by omega) | exact decide_eq_true hlen | exact decide_eq_true hs | exact decide_eq_true (by show _<(List.set _ _ (encV y)).length;rw [hs];omega))).trans ?_
 refine (asTT rfl).trans ?_
 refine (yLh x y _).trans ?_
 refine congrArg (fun z=>cbr (ltV x y) z _) ?_
 rw [k1,k0]
 iterate 4 refine (asTT (by first | rfl | exact decide_eq_true (by rw [hlen];omega) | exact decide_eq_true (by omega) | exact decide_eq_true hlen | exact decide_eq_true hs | exact decide_eq_true (by show _<(List.set _ _ (encV y)).length;rw [hs];omega))).trans ?_
 refine (asTT rfl).trans ?_
 iterate 4 refine (asTT (by first | rfl | exact decide_eq_true (by rw [hlen];omega) | exact decide_eq_true (by omega) | exact decide_eq_true hlen | exact decide_eq_true hs | exact decide_eq_true (by show _<(List.set _ _ (encV y)).length;rw [hs];omega))).trans ?_
 refine (asTT rfl).trans ?_
 iterate 4 refine (asTT (by first | rfl | exact decide_eq_true (by rw [hlen];omega) | exact decide_eq_true (by omega) | exact decide_eq_true hlen | exact decide_eq_true hs | exact decide_eq_true (by show _<(List.set _ _ (encV y)).length;rw [hs];omega))).trans ?_
 refine (asTT rfl).trans ?_
 iterate 4 refine (asTT (by first | rfl | exact decide_eq_true (by rw [hlen];omega) | exact decide_eq_true (by omega) | exact decide_eq_true hlen | exact decide_eq_true hs | exact decide_eq_true (by show _<(List.set _ _ (encV y)).length;rw [hs];omega))).trans ?_
 refine (asTT hcf).trans ?_
 have e:=setV R y x B
 show ybi _ _ _ _ _ _ _ _ _ _ _ l0 (List.set (List.set ((R.reverse++y::x::B).map encV) (R.length+1) (encV y)) R.length (encV x)) l2 _ _ _ _ _ _=_
 rw [e]
theorem yMk (l0 l2:List PV) (x:Nat) (B:List Nat) (N:Nat) (b c:Int) {a0 a1 a2 a3 a4 a5 a6 a7 a8 x1} (n:Nat) :
  ybi a0 a1 a2 a3 a4 a5 a6 a7 a8 x1 (n+1) l0 ((x::B).map encV) l2 N N 0 b c 0=x1 l0 ((x::B).map encV) l2 N N 0 b c 0 false:=by
 conv=>lhs;unfold ybi
 dsimp only [lt,Go.Pf.jn]
 rw [cbF (by omega),yad]
theorem in94 (l0 l2:List PV) {a0 a1 a2 a3 a4 a5 a6 a7 x1} (b c:Int) {N:Nat} (hl:N<4611686018427387904) {Y:List PV→Prop} (hX:∀ v j,x1 l0 v l2 N N 0 b c j false=Y v):∀ (R:List Nat) (x:Nat) (B:List Nat),R.length+(B.length+1)=N →
  (∃ n,ybi a0 a1 a2 a3 a4 a5 a6 a7 yao x1 n l0 ((R.reverse++x::B).map encV) l2 N N 0 b c (R.length:Int))=Y (((insV ltV R x).reverse++B).map encV)
 | [],x,B,hN=>by
  rw [exS3 rfl (R:=fun _=>x1 l0 ((x::B).map encV) l2 N N 0 b c 0 false) (fun n=>yMk l0 l2 x B N b c n),exC3,hX]
  rfl
 | y::R,x,B,hN=>by
  have e1:(y::R).reverse++x::B=R.reverse++y::x::B:=by rw [qAw,qAf];rfl
  have e2:(((y::R).length:Nat):Int)=(R.length:Int)+1:=by simp
  rw [qAk] at hN
  rw [e1,e2]
  have ih:=in94 (a0:=a0) (a1:=a1) (a2:=a2) (a3:=a3) (a4:=a4) (a5:=a5) (a6:=a6) (a7:=a7) l0 l2 b c hl hX R x (y::B) (by rw [qAk];omega)
  cases ht:ltV x y with
  | true =>
   rw [exS3 rfl (R:=fun n=>ybi a0 a1 a2 a3 a4 a5 a6 a7 yao x1 n l0 ((R.reverse++x::y::B).map encV) l2 N N 0 b c (R.length:Int)) (fun n=>by rw [yLj l0 l2 R y x B (by omega) hl b c n,ht,yag]),ih]
   rw [show insV ltV (y::R) x=y::insV ltV R x by (show (bif ltV x y then _ else _)=_;rw [ht];rfl),qAw,qAf]
   rfl
  | false =>
   rw [exS3 rfl (R:=fun _=>x1 l0 ((R.reverse++y::x::B).map encV) l2 N N 0 b c ((R.length:Int)+1) false) (fun n=>by rw [yLj l0 l2 R y x B (by omega) hl b c n,ht,yad]),exC3,hX]
   rw [show insV ltV (y::R) x=x::y::R by (show (bif ltV x y then _ else _)=_;rw [ht];rfl),qAw,qAw,qAf,qAf]
   rfl
theorem yLk (l0 l2:List PV) {a0 a1 a2 a3 a4 a5 a6 a7 x1} {Y:List PV→Prop} {N:Nat} (hN:N<4611686018427387904) (hX:∀ v j,x1 l0 v l2 N N 0 (N:Int) j false=Y v):∀ (B R:List Nat),R.length+B.length=N →
  (∃ n,ybk a0 a1 a2 a3 a4 a5 a6 a7 yao x1 n l0 ((R.reverse++B).map encV) l2 N N 0 (N:Int) (R.length:Int))=Y ((allV ltV R B).reverse.map encV)
 | [],R,hl=>by
  have e:∀ n,ybk a0 a1 a2 a3 a4 a5 a6 a7 yao x1 (n+1) l0 ((R.reverse++[]).map encV) l2 N N 0 (N:Int) (R.length:Int)=Y ((allV ltV R []).reverse.map encV):=fun n=>by
   conv=>lhs;unfold ybk
   rw [cbF (by simp only [qBd] at hl;omega),hX,qAy]
   rfl
  rw [exS3 rfl (R:=fun _=>_) e,exC3]
 | x::B,R,hl=>by
  have hl':R.length+(B.length+1)=N:=hl
  have ih:=yLk (a0:=a0) (a1:=a1) (a2:=a2) (a3:=a3) (a4:=a4) (a5:=a5) (a6:=a6) (a7:=a7) l0 l2 hN hX B (insV ltV R x) (by rw [yfu];omega)
  rw [yfu] at ih
  have w:IntKind.i64.wrap ((R.length:Int)+1)=(((R.length+1:Nat)):Int):=by rw [wib (by omega) (by omega)];omega
  have e:∀ n,ybk a0 a1 a2 a3 a4 a5 a6 a7 yao x1 (n+1) l0 ((R.reverse++x::B).map encV) l2 N N 0 (N:Int) (R.length:Int)=ybk a0 a1 a2 a3 a4 a5 a6 a7 yao x1 n l0 (((insV ltV R x).reverse++B).map encV) l2 N N 0 (N:Int) ((R.length+1:Nat):Int):=fun n=>by
   conv=>lhs;unfold ybk
   dsimp only [lt]
   rw [cbT (by omega)]
   refine (in94 l0 l2 (N:Int) (R.length:Int) hN (Y:=fun v=>ybk a0 a1 a2 a3 a4 a5 a6 a7 yao x1 n l0 v l2 N N 0 (N:Int) ((R.length+1:Nat):Int)) (fun v j=>by rw [w]) R x B hl')
  rw [exS3 rfl (R:=fun n=>ybk a0 a1 a2 a3 a4 a5 a6 a7 yao x1 n l0 (((insV ltV R x).reverse++B).map encV) l2 N N 0 (N:Int) ((R.length+1:Nat):Int)) e,ih]
  rfl
theorem yKS (l0 l2:List PV) {a0 a1 a2 a3 a4 a5 a6 a7 X} (x:Nat) (B:List Nat) (hN:B.length+1≤12) (h:Int) (b b':Bool) :
  (∃ n,ycn a0 a1 a2 a3 a4 a5 a6 a7 yao X n l0 ((x::B).map encV) l2 (B.length+1) (B.length+1) 0 ((B.length+1:Nat):Int) h b b')=X l0 ((allV ltV [x] B).reverse.map encV) l2:=by
 have e:∀ n,ycn a0 a1 a2 a3 a4 a5 a6 a7 yao X (n+1) l0 ((x::B).map encV) l2 (B.length+1) (B.length+1) 0 ((B.length+1:Nat):Int) h b b'=X l0 ((allV ltV [x] B).reverse.map encV) l2:=fun n=>by
  conv=>lhs;unfold ycn
  dsimp only [lt]
  rw [wib (by omega) (by omega),cbT (by omega),wib (by omega) (by omega)]
  exact yLk l0 l2 (Y:=fun v=>X l0 v l2) (N:=B.length+1) (by omega) (fun v j=>rfl) B [x] (by simp only [qAk,qBd];omega)
 rw [exS3 rfl (R:=fun _=>_) e,exC3]
theorem yLl (l0 l1:List PV) (R:List Nat) (y x:Nat) (B:List Nat) {N:Nat} (hN:R.length+(B.length+2)=N) (hl:N<4611686018427387904) (b c:Int) {a0 a1 a2 a3 a4 a5 a6 a7 x1} (n:Nat) :
  ybj a0 a1 a2 a3 a4 a5 a6 a7 yao x1 (n+1) l0 l1 ((R.reverse++y::x::B).map encV) N N 0 b c ((R.length:Int)+1) =
  cbr (ltV x y) (ybj a0 a1 a2 a3 a4 a5 a6 a7 yao x1 n l0 l1 ((R.reverse++x::y::B).map encV) N N 0 b c (R.length:Int)) (x1 l0 l1 ((R.reverse++y::x::B).map encV) N N 0 b c ((R.length:Int)+1) false):=by
 have gx:List.getD ((R.reverse++y::x::B).map encV) (0+((R.length:Int)+1).toNat) .nils=encV x:=yLi _ _ _ _ (by omega)
 have gy:List.getD ((R.reverse++y::x::B).map encV) (0+(R.length:Int).toNat) .nils=encV y:=getV _ _ _ (by omega)
 have w:IntKind.i64.wrap ((R.length:Int)+1-1)=(R.length:Int):=by rw [wib (by omega) (by omega)];omega
 conv=>lhs;unfold ybj
 dsimp only [lt,Go.Pf.jn]
 rw [cbT (by omega),w,gx,gy]
 have hlen:((R.reverse++y::x::B).map encV).length=N:=by rw [qAe,qAa,qAp,← hN];rfl
 have k1:0+((R.length:Int)+1).toNat=R.length+1:=by omega
 have k0:0+(R.length:Int).toNat=R.length:=by omega
 have gs:List.getD (List.set ((R.reverse++y::x::B).map encV) (R.length+1) (encV y)) R.length .nils=encV y:=by
  rw [qAb,qA9 (by omega),← qAb]
  rw [← gy,k0]
 have hcf:conf zI (List.getD (List.set ((R.reverse++y::x::B).map encV) (R.length+1) (encV y)) R.length .nils)=true:=by rw [gs];rfl
 have hs:(List.set ((R.reverse++y::x::B).map encV) (R.length+1) (encV y)).length=N:=by rw [qBj,hlen]
 iterate 4 refine (asTT (by first | rfl | exact decide_eq_true (by rw [hlen];omega) | exact decide_eq_true (by omega) | exact decide_eq_true hlen | exact decide_eq_true hs | exact decide_eq_true (by show _<(List.set _ _ (encV y)).length;rw [hs];omega))).trans ?_
 refine (asTT rfl).trans ?_
 iterate 4 refine (asTT (by first | rfl | exact decide_eq_true (by rw [hlen];omega) | exact decide_eq_true (by omega) | exact decide_eq_true hlen | exact decide_eq_true hs | exact decide_eq_true (by show _<(List.set _ _ (encV y)).length;rw [hs];omega))).trans ?_
 refine (asTT rfl).trans ?_
 refine (yLh x y _).trans ?_
 refine congrArg (fun z=>cbr (ltV x y) z _) ?_
 rw [k1,k0]
 iterate 4 refine (asTT (by first | rfl | exact decide_eq_true (by rw [hlen];omega) | exact decide_eq_true (by omega) | exact decide_eq_true hlen | exact decide_eq_true hs | exact decide_eq_true (by show _<(List.set _ _ (encV y)).length;rw [hs];omega))).trans ?_
 refine (asTT rfl).trans ?_
 iterate 4 refine (asTT (by first | rfl | exact decide_eq_true (by rw [hlen];omega) | exact decide_eq_true (by omega) | exact decide_eq_true hlen | exact decide_eq_true hs | exact decide_eq_true (by show _<(List.set _ _ (encV y)).length;rw [hs];omega))).trans ?_
 refine (asTT rfl).trans ?_
 iterate 4 refine (asTT (by first | rfl | exact decide_eq_true (by rw [hlen];omega) | exact decide_eq_true (by omega) | exact decide_eq_true hlen | exact decide_eq_true hs | exact decide_eq_true (by show _<(List.set _ _ (encV y)).length;rw [hs];omega))).trans ?_
 refine (asTT rfl).trans ?_
 iterate 4 refine (asTT (by first | rfl | exact decide_eq_true (by rw [hlen];omega) | exact decide_eq_true (by omega) | exact decide_eq_true hlen | exact decide_eq_true hs | exact decide_eq_true (by show _<(List.set _ _ (encV y)).length;rw [hs];omega))).trans ?_
 refine (asTT hcf).trans ?_
 have e:=setV R y x B
 show ybj _ _ _ _ _ _ _ _ _ _ _ l0 l1 (List.set (List.set ((R.reverse++y::x::B).map encV) (R.length+1) (encV y)) R.length (encV x)) _ _ _ _ _ _=_
 rw [e]
theorem yMl (l0 l1:List PV) (x:Nat) (B:List Nat) (N:Nat) (b c:Int) {a0 a1 a2 a3 a4 a5 a6 a7 a8 x1} (n:Nat) :
  ybj a0 a1 a2 a3 a4 a5 a6 a7 a8 x1 (n+1) l0 l1 ((x::B).map encV) N N 0 b c 0=x1 l0 l1 ((x::B).map encV) N N 0 b c 0 false:=by
 conv=>lhs;unfold ybj
 dsimp only [lt,Go.Pf.jn]
 rw [cbF (by omega),yad]
theorem in95 (l0 l1:List PV) {a0 a1 a2 a3 a4 a5 a6 a7 x1} (b c:Int) {N:Nat} (hl:N<4611686018427387904) {Y:List PV→Prop} (hX:∀ v j,x1 l0 l1 v N N 0 b c j false=Y v):∀ (R:List Nat) (x:Nat) (B:List Nat),R.length+(B.length+1)=N →
  (∃ n,ybj a0 a1 a2 a3 a4 a5 a6 a7 yao x1 n l0 l1 ((R.reverse++x::B).map encV) N N 0 b c (R.length:Int))=Y (((insV ltV R x).reverse++B).map encV)
 | [],x,B,hN=>by
  rw [exS3 rfl (R:=fun _=>x1 l0 l1 ((x::B).map encV) N N 0 b c 0 false) (fun n=>yMl l0 l1 x B N b c n),exC3,hX]
  rfl
 | y::R,x,B,hN=>by
  have e1:(y::R).reverse++x::B=R.reverse++y::x::B:=by rw [qAw,qAf];rfl
  have e2:(((y::R).length:Nat):Int)=(R.length:Int)+1:=by simp
  rw [qAk] at hN
  rw [e1,e2]
  have ih:=in95 (a0:=a0) (a1:=a1) (a2:=a2) (a3:=a3) (a4:=a4) (a5:=a5) (a6:=a6) (a7:=a7) l0 l1 b c hl hX R x (y::B) (by rw [qAk];omega)
  cases ht:ltV x y with
  | true =>
   rw [exS3 rfl (R:=fun n=>ybj a0 a1 a2 a3 a4 a5 a6 a7 yao x1 n l0 l1 ((R.reverse++x::y::B).map encV) N N 0 b c (R.length:Int)) (fun n=>by rw [yLl l0 l1 R y x B (by omega) hl b c n,ht,yag]),ih]
   rw [show insV ltV (y::R) x=y::insV ltV R x by (show (bif ltV x y then _ else _)=_;rw [ht];rfl),qAw,qAf]
   rfl
  | false =>
   rw [exS3 rfl (R:=fun _=>x1 l0 l1 ((R.reverse++y::x::B).map encV) N N 0 b c ((R.length:Int)+1) false) (fun n=>by rw [yLl l0 l1 R y x B (by omega) hl b c n,ht,yad]),exC3,hX]
   rw [show insV ltV (y::R) x=x::y::R by (show (bif ltV x y then _ else _)=_;rw [ht];rfl),qAw,qAw,qAf,qAf]
   rfl
theorem yLm (l0 l1:List PV) {a0 a1 a2 a3 a4 a5 a6 a7 x1} {Y:List PV→Prop} {N:Nat} (hN:N<4611686018427387904) (hX:∀ v j,x1 l0 l1 v N N 0 (N:Int) j false=Y v):∀ (B R:List Nat),R.length+B.length=N →
  (∃ n,ybl a0 a1 a2 a3 a4 a5 a6 a7 yao x1 n l0 l1 ((R.reverse++B).map encV) N N 0 (N:Int) (R.length:Int))=Y ((allV ltV R B).reverse.map encV)
 | [],R,hl=>by
  have e:∀ n,ybl a0 a1 a2 a3 a4 a5 a6 a7 yao x1 (n+1) l0 l1 ((R.reverse++[]).map encV) N N 0 (N:Int) (R.length:Int)=Y ((allV ltV R []).reverse.map encV):=fun n=>by
   conv=>lhs;unfold ybl
   rw [cbF (by simp only [qBd] at hl;omega),hX,qAy]
   rfl
  rw [exS3 rfl (R:=fun _=>_) e,exC3]
 | x::B,R,hl=>by
  have hl':R.length+(B.length+1)=N:=hl
  have ih:=yLm (a0:=a0) (a1:=a1) (a2:=a2) (a3:=a3) (a4:=a4) (a5:=a5) (a6:=a6) (a7:=a7) l0 l1 hN hX B (insV ltV R x) (by rw [yfu];omega)
  rw [yfu] at ih
  have w:IntKind.i64.wrap ((R.length:Int)+1)=(((R.length+1:Nat)):Int):=by rw [wib (by omega) (by omega)];omega
  have e:∀ n,ybl a0 a1 a2 a3 a4 a5 a6 a7 yao x1 (n+1) l0 l1 ((R.reverse++x::B).map encV) N N 0 (N:Int) (R.length:Int)=ybl a0 a1 a2 a3 a4 a5 a6 a7 yao x1 n l0 l1 (((insV ltV R x).reverse++B).map encV) N N 0 (N:Int) ((R.length+1:Nat):Int):=fun n=>by
   conv=>lhs;unfold ybl
   dsimp only [lt]
   rw [cbT (by omega)]
   refine (in95 l0 l1 (N:Int) (R.length:Int) hN (Y:=fun v=>ybl a0 a1 a2 a3 a4 a5 a6 a7 yao x1 n l0 l1 v N N 0 (N:Int) ((R.length+1:Nat):Int)) (fun v j=>by rw [w]) R x B hl')
  rw [exS3 rfl (R:=fun n=>ybl a0 a1 a2 a3 a4 a5 a6 a7 yao x1 n l0 l1 (((insV ltV R x).reverse++B).map encV) N N 0 (N:Int) ((R.length+1:Nat):Int)) e,ih]
  rfl
theorem yKT (l0 l1:List PV) {a0 a1 a2 a3 a4 a5 a6 a7 X} (x:Nat) (B:List Nat) (hN:B.length+1≤12) (h:Int) (b b':Bool) :
  (∃ n,yco a0 a1 a2 a3 a4 a5 a6 a7 yao X n l0 l1 ((x::B).map encV) (B.length+1) (B.length+1) 0 ((B.length+1:Nat):Int) h b b')=X l0 l1 ((allV ltV [x] B).reverse.map encV):=by
 have e:∀ n,yco a0 a1 a2 a3 a4 a5 a6 a7 yao X (n+1) l0 l1 ((x::B).map encV) (B.length+1) (B.length+1) 0 ((B.length+1:Nat):Int) h b b'=X l0 l1 ((allV ltV [x] B).reverse.map encV):=fun n=>by
  conv=>lhs;unfold yco
  dsimp only [lt]
  rw [wib (by omega) (by omega),cbT (by omega),wib (by omega) (by omega)]
  exact yLm l0 l1 (Y:=fun v=>X l0 l1 v) (N:=B.length+1) (by omega) (fun v j=>rfl) B [x] (by simp only [qAk,qBd];omega)
 rw [exS3 rfl (R:=fun _=>_) e,exC3]
set_option maxHeartbeats 1000000
theorem getP {α:Type} (f:α→PV) (P:List α) (x:α) (B:List α) {k:Nat} (h:k=P.length):List.getD ((P++x::B).map f) k .nils=f x:=by
 subst h
 rw [qAb,qA4,List.getElem?_append_right (qAj _),Nat.sub_self]
 rfl
theorem lr3 {a0 a1 a2 a3 a4 a5 a6 a7 a8} (C G:List PV) (i3 i4:Int) {m N:Nat} (hN:N≤100) {x3} (L:List Nat):∀ (Q P:List (Nat×Rat)) (R:List Nat),P.length+Q.length=N→m≤P.length→R.length≤P.length→L.length≤100 →
  (∃ n,ya5 a0 a1 a2 a3 a4 a5 a6 a7 a8 x3 n ((P++Q).map encH) (L.map encV) (R.map encV) C G i3 i4 (m:Int) N N N N (N:Int) (P.length:Int)) =
  x3 ((P++Q).map encH) (L.map encV) ((R++Q.map Prod.fst).map encV) C G i3 i4 (m:Int) N N N N (N:Int) (N:Int) false
 | [],P,R,h,hm,hR,hL=>by
  rw [qBd] at h
  have e:∀ n,ya5 a0 a1 a2 a3 a4 a5 a6 a7 a8 x3 (n+1) ((P++[]).map encH) (L.map encV) (R.map encV) C G i3 i4 (m:Int) N N N N (N:Int) (P.length:Int)=x3 ((P++[]).map encH) (L.map encV) ((R++([]:List (Nat×Rat)).map Prod.fst).map encV) C G i3 i4 (m:Int) N N N N (N:Int) (N:Int) false:=fun n=>by
   conv=>lhs;unfold ya5
   rw [cbF (by omega),show (P.length:Int)=(N:Int) by omega]
   simp only [List.map_nil,qAy]
  rw [exS3 rfl (R:=fun _=>_) e,exC3]
 | h::Q,P,R,hl,hm,hR,hL=>by
  rw [qAk] at hl
  have ih:=lr3 (a0:=a0) (a1:=a1) (a2:=a2) (a3:=a3) (a4:=a4) (a5:=a5) (a6:=a6) (a7:=a7) (a8:=a8) C G i3 i4 (m:=m) hN (x3:=x3) L Q (P++[h]) (R++[h.1]) (by rw [qAa,qAi];omega) (by rw [qAa,qAi];omega) (by rw [qAa,qAa,qAi,qAi];omega) hL
  rw [qAf,qAf,qAa,qAi] at ih
  have hlen:((P++h::Q).map encH).length=N:=by rw [qAe,qAa,qAk];omega
  have g:List.getD ((P++h::Q).map encH) (0+(P.length:Int).toNat) .nils=encH h:=getP encH P h Q (by omega)
  have w:IntKind.i64.wrap ((P.length:Int)+1)=(((P.length+1:Nat)):Int):=by rw [wib (by omega) (by omega)];omega
  have rl:(R.map encV).length=R.length:=qAe ..
  have e:∀ n,ya5 a0 a1 a2 a3 a4 a5 a6 a7 a8 x3 (n+1) ((P++h::Q).map encH) (L.map encV) (R.map encV) C G i3 i4 (m:Int) N N N N (N:Int) (P.length:Int)=ya5 a0 a1 a2 a3 a4 a5 a6 a7 a8 x3 n ((P++h::Q).map encH) (L.map encV) ((R++[h.1]).map encV) C G i3 i4 (m:Int) N N N N (N:Int) ((P.length+1:Nat):Int):=fun n=>by
   conv=>lhs;unfold ya5
   dsimp only [lt,Go.Pf.jn]
   rw [cbT (by omega),asT (by omega),asT (by omega),asT hlen,asT (by rw [hlen];omega),g]
   refine (asTT rfl).trans ?_
   rw [cbF (by omega),rl]
   refine (asTT (by simp)).trans ?_
   refine (asTT (by simp)).trans ?_
   refine (asTT (by simp)).trans ?_
   refine (asTT (by simp)).trans ?_
   refine (asTT (decide_eq_true (by unfold room;omega))).trans ?_
   rw [w]
   refine (asTT (by simp)).trans ?_
   rw [show (R++[h.1]).map encV=R.map encV++[encV h.1] from qBq ..]
   rfl
  rw [exS3 rfl (R:=fun n=>ya5 a0 a1 a2 a3 a4 a5 a6 a7 a8 x3 n ((P++h::Q).map encH) (L.map encV) ((R++[h.1]).map encV) C G i3 i4 (m:Int) N N N N (N:Int) ((P.length+1:Nat):Int)) e]
  exact ih
theorem lr2 {a0 a1 a2 a3 a4 a5 a6 a7 a8} (C G:List PV) (i3 i4:Int) {m N:Nat} (hN:N≤100) (hmN:m<N) {x2 x3}:∀ (Q P:List (Nat×Rat)) (L:List Nat),P.length+Q.length=N→P.length≤m→L.length=P.length →
  (∃ n,ya6 a0 a1 a2 a3 a4 a5 a6 a7 a8 x2 x3 n ((P++Q).map encH) (L.map encV) C G i3 i4 (m:Int) N N N N (N:Int) (P.length:Int)) =
  x3 ((P++Q).map encH) ((L++(Q.take (m-P.length)).map Prod.fst).map encV) (((Q.drop (m-P.length)).map Prod.fst).map encV) C G i3 i4 (m:Int) N N N N (N:Int) (N:Int) false
 | [],P,L,h,hm,hL=>by
  rw [qBd] at h
  omega
 | h::Q,P,L,hl,hm,hL=>by
  rw [qAk] at hl
  have hlen:((P++h::Q).map encH).length=N:=by rw [qAe,qAa,qAk];omega
  have g:List.getD ((P++h::Q).map encH) (0+(P.length:Int).toNat) .nils=encH h:=getP encH P h Q (by omega)
  have w:IntKind.i64.wrap ((P.length:Int)+1)=(((P.length+1:Nat)):Int):=by rw [wib (by omega) (by omega)];omega
  have ll:(L.map encV).length=L.length:=qAe ..
  by_cases hlt:P.length<m
  ·have ih:=lr2 (a0:=a0) (a1:=a1) (a2:=a2) (a3:=a3) (a4:=a4) (a5:=a5) (a6:=a6) (a7:=a7) (a8:=a8) C G i3 i4 (m:=m) hN hmN (x2:=x2) (x3:=x3) Q (P++[h]) (L++[h.1]) (by rw [qAa,qAi];omega) (by rw [qAa,qAi];omega) (by rw [qAa,qAa,qAi,qAi];omega)
   rw [qAf,qAf,qAa,qAi] at ih
   have e:∀ n,ya6 a0 a1 a2 a3 a4 a5 a6 a7 a8 x2 x3 (n+1) ((P++h::Q).map encH) (L.map encV) C G i3 i4 (m:Int) N N N N (N:Int) (P.length:Int)=ya6 a0 a1 a2 a3 a4 a5 a6 a7 a8 x2 x3 n ((P++h::Q).map encH) ((L++[h.1]).map encV) C G i3 i4 (m:Int) N N N N (N:Int) ((P.length+1:Nat):Int):=fun n=>by
    conv=>lhs;unfold ya6
    dsimp only [lt,Go.Pf.jn]
    rw [cbT (by omega),asT (by omega),asT (by omega),asT hlen,asT (by rw [hlen];omega),g]
    refine (asTT rfl).trans ?_
    rw [cbT (by omega),ll]
    refine (asTT (by simp)).trans ?_
    refine (asTT (by simp)).trans ?_
    refine (asTT (by simp)).trans ?_
    refine (asTT (by simp)).trans ?_
    refine (asTT (decide_eq_true (by unfold room;omega))).trans ?_
    rw [w]
    refine (asTT (by simp)).trans ?_
    rw [show (L++[h.1]).map encV=L.map encV++[encV h.1] from qBq ..]
    rfl
   rw [exS3 rfl (R:=fun n=>ya6 a0 a1 a2 a3 a4 a5 a6 a7 a8 x2 x3 n ((P++h::Q).map encH) ((L++[h.1]).map encV) C G i3 i4 (m:Int) N N N N (N:Int) ((P.length+1:Nat):Int)) e]
   refine Eq.trans ih ?_
   rw [show m-P.length=(m-(P.length+1))+1 by omega,List.take_succ_cons,List.drop_succ_cons]
   rfl
  ·have em:m=P.length:=by omega
   have e:∀ n,ya6 a0 a1 a2 a3 a4 a5 a6 a7 a8 x2 x3 (n+1) ((P++h::Q).map encH) (L.map encV) C G i3 i4 (m:Int) N N N N (N:Int) (P.length:Int)=ya5 a0 a1 a2 a3 a4 a5 a6 a7 a8 x3 n (((P++[h])++Q).map encH) (L.map encV) ([h.1].map encV) C G i3 i4 (m:Int) N N N N (N:Int) (((P++[h]).length:Nat):Int):=fun n=>by
    conv=>lhs;unfold ya6
    dsimp only [lt,Go.Pf.jn]
    rw [cbT (by omega),asT (by omega),asT (by omega),asT hlen,asT (by rw [hlen];omega),g]
    refine (asTT rfl).trans ?_
    rw [cbF (by omega),w]
    refine (asTT (by simp)).trans ?_
    rw [qAf,qAa]
    rfl
   rw [exS3 rfl (R:=fun n=>ya5 a0 a1 a2 a3 a4 a5 a6 a7 a8 x3 n (((P++[h])++Q).map encH) (L.map encV) ([h.1].map encV) C G i3 i4 (m:Int) N N N N (N:Int) (((P++[h]).length:Nat):Int)) e]
   rw [lr3 C G i3 i4 (m:=m) hN L Q (P++[h]) [h.1] (by rw [qAa,qAi];omega) (by rw [qAa];omega) (by rw [qAa,qAi];exact Nat.le_add_left _ _) (by omega),qAf,show m-P.length=0 by omega,List.take_zero,qBz,List.map_nil,qAy]
   rfl
theorem lr1 {a0 a1 a2 a3 a4 a5 a6 a7 a8} (C G:List PV) (i3 i4:Int) {m N:Nat} (hN:N≤100) (hm:1≤m) (hmN:m<N) {x1 x2 x3 x4 x5} (H:List (Nat×Rat)) (hH:H.length=N) :
  (∃ n,ydz a0 a1 a2 a3 a4 a5 a6 a7 a8 x1 x2 x3 x4 x5 n (H.map encH) C G i3 i4 (m:Int) N N N N (N:Int) 0) =
  x3 (H.map encH) (((H.take m).map Prod.fst).map encV) (((H.drop m).map Prod.fst).map encV) C G i3 i4 (m:Int) N N N N (N:Int) (N:Int) false:=by
 obtain ⟨h,Q,rfl⟩:∃ h Q,H=h::Q:=by
  cases H with
  | nil=>simp at hH;omega
  | cons h Q=>exact ⟨h,Q,rfl⟩
 have hl:Q.length+1=N:=hH
 have hlen:((h::Q).map encH).length=N:=by rw [qAe];exact hH
 have e:∀ n,ydz a0 a1 a2 a3 a4 a5 a6 a7 a8 x1 x2 x3 x4 x5 (n+1) ((h::Q).map encH) C G i3 i4 (m:Int) N N N N (N:Int) 0=ya6 a0 a1 a2 a3 a4 a5 a6 a7 a8 x2 x3 n (([h]++Q).map encH) ([h.1].map encV) C G i3 i4 (m:Int) N N N N (N:Int) (([h].length:Nat):Int):=fun n=>by
  conv=>lhs;unfold ydz
  dsimp only [lt,Go.Pf.jn]
  rw [cbT (by omega),asT (by omega),asT (by omega),asT hlen,asT (by rw [hlen];omega)]
  refine (asTT rfl).trans ?_
  rw [cbT (by omega)]
  refine (asTT (by simp)).trans ?_
  rfl
 rw [exS3 rfl (R:=fun n=>ya6 a0 a1 a2 a3 a4 a5 a6 a7 a8 x2 x3 n (([h]++Q).map encH) ([h.1].map encV) C G i3 i4 (m:Int) N N N N (N:Int) (([h].length:Nat):Int)) e]
 rw [lr2 C G i3 i4 (m:=m) hN hmN Q [h] [h.1] (by rw [qAi];omega) (by rw [qAi];omega) rfl]
 rw [show m=(m-1)+1 by omega,List.take_succ_cons,List.drop_succ_cons]
 rfl
set_option maxHeartbeats 1000000
theorem mk11 {l:List Ck} {a0 a1 a2 a3 a4 a6 a7 a8} {q0 q1 p0 p1 r0 r1 z1 z2 m:Int} {M N:Nat} (hN:N≤100) (f:Nat→Rat) (g:Nat→List Qy) (g2:∀ a,(g a).length≤2) {x2 x3}:∀ (Q P:List Nat) (H:List (Nat×Rat)) (lg:List Qy),P.length+Q.length=N→H.length=P.length→lg.length+2*Q.length≤M→(∀ a∈Q,a<1000) →
  (∀ a∈Q,∀ lg:List Qy,lg.length+2≤M→∀ K,yay (cks l) (logs lg) a q0 q1 p0 p1 r0 r1 K=K (cks l) (logs (lg++g a)) (f a).num (f a).den 0) →
  (∃ n,ya4 a0 a1 a2 a3 a4 yay a6 a7 a8 x2 x3 n (H.map encH) (cks l) (logs lg) q0 q1 p0 p1 z1 z2 m r0 r1 ((P++Q).map encV) (N:Int) (P.length:Int)) =
  x2 ((H++Q.map fun a=>(a,f a)).map encH) (cks l) (logs (lg++Q.flatMap g)) q0 q1 p0 p1 z1 z2 m r0 r1 ((P++Q).map encV) (N:Int) (N:Int) false
 | [],P,H,lg,h,hH,hL,hA,hM=>by
  rw [qBd] at h
  have e:∀ n,ya4 a0 a1 a2 a3 a4 yay a6 a7 a8 x2 x3 (n+1) (H.map encH) (cks l) (logs lg) q0 q1 p0 p1 z1 z2 m r0 r1 ((P++[]).map encV) (N:Int) (P.length:Int)=x2 ((H++([]:List Nat).map fun a=>(a,f a)).map encH) (cks l) (logs (lg++([]:List Nat).flatMap g)) q0 q1 p0 p1 z1 z2 m r0 r1 ((P++[]).map encV) (N:Int) (N:Int) false:=fun n=>by
   conv=>lhs;unfold ya4
   rw [cbF (by omega),show (P.length:Int)=(N:Int) by omega]
   simp only [List.map_nil,qAy,List.flatMap_nil]
  rw [exS3 rfl (R:=fun _=>_) e,exC3]
 | a::Q,P,H,lg,hl,hH,hL,hA,hM=>by
  rw [qAk] at hl hL
  have ga:=g2 a
  have ih:=mk11 (a0:=a0) (a1:=a1) (a2:=a2) (a3:=a3) (a4:=a4) (a6:=a6) (a7:=a7) (a8:=a8) (q0:=q0) (q1:=q1) (p0:=p0) (p1:=p1) (r0:=r0) (r1:=r1) (z1:=z1) (z2:=z2) (m:=m) (M:=M) hN f g g2 (x2:=x2) (x3:=x3) Q (P++[a]) (H++[(a,f a)]) (lg++g a) (by rw [qAa,qAi];omega) (by rw [qAa,qAa,qAi,qAi];omega) (by rw [qAa];omega) (fun b hb=>hA b (qAo _ hb)) (fun b hb=>hM b (qAo _ hb))
  rw [qAf,qAf,qAf,qAa,qAi] at ih
  have gt:List.getD ((P++a::Q).map encV) (P.length:Int).toNat .nils=encV a:=getP encV P a Q (by omega)
  have w:IntKind.i64.wrap ((P.length:Int)+1)=(((P.length+1:Nat)):Int):=by rw [wib (by omega) (by omega)];omega
  have hlen:((P++a::Q).map encV).length=N:=by rw [qAe,qAa,qAk];omega
  have lh:(H.map encH).length=H.length:=qAe ..
  have e:∀ n,ya4 a0 a1 a2 a3 a4 yay a6 a7 a8 x2 x3 (n+1) (H.map encH) (cks l) (logs lg) q0 q1 p0 p1 z1 z2 m r0 r1 ((P++a::Q).map encV) (N:Int) (P.length:Int)=ya4 a0 a1 a2 a3 a4 yay a6 a7 a8 x2 x3 n ((H++[(a,f a)]).map encH) (cks l) (logs (lg++g a)) q0 q1 p0 p1 z1 z2 m r0 r1 ((P++a::Q).map encV) (N:Int) ((P.length+1:Nat):Int):=fun n=>by
   conv=>lhs;unfold ya4
   dsimp only [lt,Go.Pf.jn]
   rw [cbT (by omega),asT (by omega),asT (by rw [hlen];omega),gt]
   refine (asTT rfl).trans ?_
   refine (hM a (qAx ..) lg (by omega) _).trans ?_
   rw [cnF rfl,lh]
   refine (asTT (by simp)).trans ?_
   refine (asTT (by simp)).trans ?_
   refine (asTT (by simp)).trans ?_
   refine (asTT (by simp)).trans ?_
   refine (asTT (decide_eq_true (by unfold room;omega))).trans ?_
   rw [w]
   refine (asTT (by simp)).trans ?_
   rw [show (H++[(a,f a)]).map encH=H.map encH++[encH (a,f a)] from qBq ..]
   rfl
  rw [exS3 rfl (R:=fun n=>ya4 a0 a1 a2 a3 a4 yay a6 a7 a8 x2 x3 n ((H++[(a,f a)]).map encH) (cks l) (logs (lg++g a)) q0 q1 p0 p1 z1 z2 m r0 r1 ((P++a::Q).map encV) (N:Int) ((P.length+1:Nat):Int)) e]
  exact ih
theorem mk10 {l:List Ck} {a0 a1 a2 a3 a4 a6 a7 a8} {q0 q1 p0 p1 r0 r1 z1 z2 m:Int} {M N:Nat} (hN:N≤100) (f:Nat→Rat) (g:Nat→List Qy) (g2:∀ a,(g a).length≤2) {x0 x1 x2 x3} (A:List Nat) (lg:List Qy) (hA:A.length=N) (h1:1≤N) (hL:lg.length+2*N≤M) (hs:∀ a∈A,a<1000)
  (hM:∀ a∈A,∀ lg:List Qy,lg.length+2≤M→∀ K,yay (cks l) (logs lg) a q0 q1 p0 p1 r0 r1 K=K (cks l) (logs (lg++g a)) (f a).num (f a).den 0) :
  (∃ n,ydy a0 a1 a2 a3 a4 yay a6 a7 a8 x0 x1 x2 x3 n (cks l) (logs lg) q0 q1 p0 p1 z1 z2 m r0 r1 (A.map encV) (N:Int) 0) =
  x2 ((A.map fun a=>(a,f a)).map encH) (cks l) (logs (lg++A.flatMap g)) q0 q1 p0 p1 z1 z2 m r0 r1 (A.map encV) (N:Int) (N:Int) false:=by
 obtain ⟨a,Q,rfl⟩:∃ a Q,A=a::Q:=by
  cases A with
  | nil=>simp at hA;omega
  | cons a Q=>exact ⟨a,Q,rfl⟩
 have ga:=g2 a
 rw [qAk] at hA
 have ih:=mk11 (a0:=a0) (a1:=a1) (a2:=a2) (a3:=a3) (a4:=a4) (a6:=a6) (a7:=a7) (a8:=a8) (q0:=q0) (q1:=q1) (p0:=p0) (p1:=p1) (r0:=r0) (r1:=r1) (z1:=z1) (z2:=z2) (m:=m) (M:=M) hN f g g2 (x2:=x2) (x3:=x3) Q [a] [(a,f a)] (lg++g a) (by rw [qAi];omega) rfl (by rw [qAa];omega) (fun b hb=>hs b (qAo _ hb)) (fun b hb=>hM b (qAo _ hb))
 rw [qAf] at ih
 have hlen:((a::Q).map encV).length=N:=by rw [qAe,qAk];omega
 have e:∀ n,ydy a0 a1 a2 a3 a4 yay a6 a7 a8 x0 x1 x2 x3 (n+1) (cks l) (logs lg) q0 q1 p0 p1 z1 z2 m r0 r1 ((a::Q).map encV) (N:Int) 0=ya4 a0 a1 a2 a3 a4 yay a6 a7 a8 x2 x3 n ([(a,f a)].map encH) (cks l) (logs (lg++g a)) q0 q1 p0 p1 z1 z2 m r0 r1 (([a]++Q).map encV) (N:Int) (([a].length:Nat):Int):=fun n=>by
  conv=>lhs;unfold ydy
  dsimp only [lt,Go.Pf.jn]
  rw [cbT (by omega),asT (by omega),asT (by rw [hlen];omega)]
  refine (asTT rfl).trans ?_
  refine (hM a (qAx ..) lg (by omega) _).trans ?_
  rw [cnF rfl]
  refine (asTT (by simp)).trans ?_
  rfl
 rw [exS3 rfl (R:=fun n=>ya4 a0 a1 a2 a3 a4 yay a6 a7 a8 x2 x3 n ([(a,f a)].map encH) (cks l) (logs (lg++g a)) q0 q1 p0 p1 z1 z2 m r0 r1 (([a]++Q).map encV) (N:Int) (([a].length:Nat):Int)) e]
 exact ih
set_option maxHeartbeats 1000000
def yjE {α:Type} (lt:α→α→Bool):List α→List α
 | []=>[]
 | x::B=>(allV lt [x] B).reverse
theorem yFi {α:Type} (lt:α→α→Bool):∀ B R:List α,(allV lt R B).length=R.length+B.length
 | [],R=>rfl
 | x::B,R=>by
  show (allV lt (insV lt R x) B).length=_
  rw [yFi lt B,yfu,qAk]
  omega
theorem yFj {α:Type} (lt:α→α→Bool) {z:α}:∀ B R:List α,z∈allV lt R B↔z∈R∨z∈B
 | [],R=>by simp [allV]
 | x::B,R=>by
  show z∈allV lt (insV lt R x) B↔_
  rw [yFj lt B,ype,qAz]
  exact ⟨fun h=>by rcases h with (h | h) | h <;> simp [h],fun h=>by rcases h with h | h | h <;> simp [h]⟩
theorem yiL {α:Type} (lt:α→α→Bool) (l:List α):(yjE lt l).length=l.length:=by
 cases l with
 | nil=>rfl
 | cons x B=>show (allV lt [x] B).reverse.length=_;rw [qAp,yFi];simp only [qAk,qBd];omega
theorem yvH {α:Type} (lt:α→α→Bool) {z:α} (l:List α):z∈yjE lt l↔z∈l:=by
 cases l with
 | nil=>exact Iff.rfl
 | cons x B=>show z∈(allV lt [x] B).reverse↔_;rw [List.mem_reverse,yFj,List.mem_singleton,qAz]
theorem lenH {p:Int} (hp:U64 p) (K:Int→Prop):ydp p K=K (blen p.toNat:Int):=yEp _ _ (fun _ h=>yE1 hp h) K
theorem getE {A:List Nat} {k:Nat} (h:k<A.length):List.getD (A.map encV) k .nils=encV (A.getD k 0):=by
 rw [qAb,qA4,qAb,qAd h]
 rfl
theorem chk0 {a0 a1 a2 a3 a4 a5 a6 a7 a8 x0} (C G:List PV) {q0 q1 p0 p1 z1 z2:Int} (A:List Nat) (hN:A.length≤100) (hs:∀ i,i+1<A.length→A.getD i 0<A.getD (i+1) 0):∀ (d i:Nat),i+d=A.length→1≤i →
  (∃ n,ybr a0 a1 a2 a3 a4 a5 a6 a7 a8 x0 n (A.map encV) C G q0 q1 p0 p1 z1 z2 true (i:Int))=x0 (A.map encV) C G q0 q1 p0 p1 z1 z2 true (A.length:Int) false
 | 0,i,h,h1=>by
  have e:∀ n,ybr a0 a1 a2 a3 a4 a5 a6 a7 a8 x0 (n+1) (A.map encV) C G q0 q1 p0 p1 z1 z2 true (i:Int)=x0 (A.map encV) C G q0 q1 p0 p1 z1 z2 true (A.length:Int) false:=fun n=>by
   conv=>lhs;unfold ybr
   rw [cbF (by rw [qAe];omega),show (i:Int)=(A.length:Int) by omega]
  rw [exS3 rfl (R:=fun _=>_) e,exC3]
 | d+1,i,h,h1=>by
  have ih:=chk0 (a0:=a0) (a1:=a1) (a2:=a2) (a3:=a3) (a4:=a4) (a5:=a5) (a6:=a6) (a7:=a7) (a8:=a8) (x0:=x0) C G (q0:=q0) (q1:=q1) (p0:=p0) (p1:=p1) (z1:=z1) (z2:=z2) A hN hs d (i+1) (by omega) (by omega)
  have w1:IntKind.i64.wrap ((i:Int)-1)=((i-1:Nat):Int):=by rw [wib (by omega) (by omega)];omega
  have w2:IntKind.i64.wrap ((i:Int)+1)=((i+1:Nat):Int):=by rw [wib (by omega) (by omega)];omega
  have hlt:=hs (i-1) (by omega)
  rw [show i-1+1=i by omega] at hlt
  have e:∀ n,ybr a0 a1 a2 a3 a4 a5 a6 a7 a8 x0 (n+1) (A.map encV) C G q0 q1 p0 p1 z1 z2 true (i:Int)=ybr a0 a1 a2 a3 a4 a5 a6 a7 a8 x0 n (A.map encV) C G q0 q1 p0 p1 z1 z2 true ((i+1:Nat):Int):=fun n=>by
   conv=>lhs;unfold ybr
   dsimp only [lt,Go.Pf.jn]
   rw [cbT (by rw [qAe];omega),yag,w1,asT (by omega),asT (by rw [qAe];omega),qAh,getE (by omega)]
   refine (asTT rfl).trans ?_
   rw [asT (by omega),asT (by rw [qAe];omega),qAh,getE (by omega)]
   refine (asTT rfl).trans ?_
   rw [w2,show decide (yaa (encV (A.getD (i-1) 0))<yaa (encV (A.getD i 0)))=true from decide_eq_true (by show ((A.getD (i-1) 0:Nat):Int)<((A.getD i 0:Nat):Int);omega)]
  rw [exS3 rfl (R:=fun n=>ybr a0 a1 a2 a3 a4 a5 a6 a7 a8 x0 n (A.map encV) C G q0 q1 p0 p1 z1 z2 true ((i+1:Nat):Int)) e]
  exact ih
set_option maxHeartbeats 1000000
theorem l21H {a0 a1 a2 a3 a4 a5 a6 a7 a8 x1} (v:List PV) {N:Nat} (h:N<20):(∃ n,yex a0 a1 a2 a3 a4 a5 a6 a7 a8 x1 n v (N:Int) 20 0 20)=x1 v (N:Int) 20 0 20 false:=by
 rw [exS3 rfl (R:=fun _=>x1 v (N:Int) 20 0 20 false) (fun n=>by unfold yex;exact cbF (by omega)),exC3]
theorem l51H {a0 a1 a2 a3 a4 a5 a6 a7 a8 x1} (v:List PV) {N:Nat} (h:N<20):(∃ n,yey a0 a1 a2 a3 a4 a5 a6 a7 a8 x1 n v N N (N:Int) 20)=x1 v N N (N:Int) 20 false:=by
 rw [exS3 rfl (R:=fun _=>x1 v N N (N:Int) 20 false) (fun n=>by unfold yey;exact cbF (by omega)),exC3]
theorem yMm {a0 a1 a2 a3 a4 a5 a6 a8 x1} {Y:List PV→Prop} (H:List (Nat×Rat)) {N:Nat} (hN:N=H.length) (h1:1≤N) (h2:N≤100) (hX:∀ v j,x1 v 0 (N:Int) j false=Y v) (hs:∀ y∈H,small y.2) :
  (∃ n,ya7 a0 a1 a2 a3 a4 a5 a6 yaw a8 x1 n (H.map encH) 0 (N:Int) 1)=Y ((yjE ltH H).map encH):=by
 subst hN
 obtain ⟨x,B,rfl⟩:∃ x B,H=x::B:=by
  cases H with
  | nil=>simp at h1
  | cons x B=>exact ⟨x,B,rfl⟩
 exact out3 (N:=(x::B).length) (by omega) hX B [x] (by simp only [qAk,qBd];omega) (fun y hy=>hs y (by simp only [List.mem_singleton] at hy;rw [hy];exact qAx ..)) (fun y hy=>hs y (qAo _ hy))
theorem yLV (l0 l2:List PV) {a0 a1 a2 a3 a4 a5 a6 a7 X} (L:List Nat) (h1:1≤L.length) (h2:L.length≤12) (h:Int) (b b':Bool) {M:Nat} (hM:M=L.length) :
  (∃ n,ycn a0 a1 a2 a3 a4 a5 a6 a7 yao X n l0 (L.map encV) l2 M M 0 (M:Int) h b b')=X l0 ((yjE ltV L).map encV) l2:=by
 subst hM
 obtain ⟨x,B,rfl⟩:∃ x B,L=x::B:=by
  cases L with
  | nil=>simp at h1
  | cons x B=>exact ⟨x,B,rfl⟩
 exact yKS l0 l2 x B h2 h b b'
theorem yLW (l0 l1:List PV) {a0 a1 a2 a3 a4 a5 a6 a7 X} (L:List Nat) (h1:1≤L.length) (h2:L.length≤12) (h:Int) (b b':Bool) {M:Nat} (hM:M=L.length) :
  (∃ n,yco a0 a1 a2 a3 a4 a5 a6 a7 yao X n l0 l1 (L.map encV) M M 0 (M:Int) h b b')=X l0 l1 ((yjE ltV L).map encV):=by
 subst hM
 obtain ⟨x,B,rfl⟩:∃ x B,L=x::B:=by
  cases L with
  | nil=>simp at h1
  | cons x B=>exact ⟨x,B,rfl⟩
 exact yKT l0 l1 x B h2 h b b'
def yaH (A:List Nat):Rat:=(((A.length / 2:Nat):Int):Rat) / ((A.length:Int):Rat)
def hsS (A:List Nat) (f:Nat→Rat):List (Nat×Rat):=yjE ltH (A.map fun a=>(a,f a))
def lftS (A:List Nat) (f:Nat→Rat):List Nat:=yjE ltV (((hsS A f).take (A.length / 2)).map Prod.fst)
def rgtS (A:List Nat) (f:Nat→Rat):List Nat:=yjE ltV (((hsS A f).drop (A.length / 2)).map Prod.fst)
def cutH (A:List Nat) (f:Nat→Rat):Rat:=((hsS A f).getD (A.length / 2-1) (0,0)).2
theorem yJ1 {l:List Ck} (hd:DK l) (A:List Nat) (h2:2≤A.length) (h12:A.length≤12) (hs:∀ i,i+1<A.length→A.getD i 0<A.getD (i+1) 0) (hA:∀ a∈A,a<l.length) {q p:Rat} (sq:small q) (sp:small p) (q0:0≤q) (qp:q<p) (p1:p≤lenR l) (sr:small (yaH A))
  (f:Nat→Rat) (g:Nat→List Qy) (g2:∀ a,(g a).length≤2) (sf:∀ a∈A,small (f a)) {lg:List Qy} {M:Nat} (hm:lg.length+2*A.length≤M) (hM2:M≤2000)
  (hM:∀ a∈A,∀ lg:List Qy,lg.length+2≤M→∀ K,yay (cks l) (logs lg) a q.num q.den p.num p.den (yaH A).num (yaH A).den K=K (cks l) (logs (lg++g a)) (f a).num (f a).den 0) (K) :
  yaz (cks l) (logs lg) (A.map encV) q.num q.den p.num p.den K=K (cks l) (logs (lg++A.flatMap g)) (cutH A f).num (cutH A f).den ((lftS A f).map encV) ((rgtS A f).map encV) 0:=by
 have n6:=hd.n6
 have la:(A.map encV).length=A.length:=qAe ..
 have hl0:0<l.length:=Nat.lt_of_le_of_lt (qBn _) (hA (A.getD 0 0) (by rw [qAb,qAd (show 0<A.length by omega)];exact qB0 ..))
 have hlast:A.getD (A.length-1) 0<l.length:=hA _ (by rw [qAb,qAd (show A.length-1<A.length by omega)];exact qB0 ..)
 have hlen:=(hd.ok 0 hl0).len0
 have hL:lenR l≤1000:=qA7.2 hlen.2
 have hL0:0≤lenR l:=Rat.le_trans q0 (Rat.le_trans (qA1 qp) p1)
 have sL:small (lenR l):=sm3 (D:=1) (In.int (by decide) _) ⟨by decide,by decide⟩ (by grind) (by grind)
 have lnum:(lenR l).num=(l.getD 0 default).len:=qB7 _
 have lden:(((lenR l).den:Nat):Int)=1:=by unfold lenR;rw [qB8];rfl
 have ord:∀ K,yaS p.num p.den (l.getD 0 default).len 1 K=K (cmpQ p (lenR l)):=fun K=>by
  rw [← lnum,← lden]
  unfold yaS ygu
  rw [yxq sp sL]
 unfold yaz yjw
 dsimp only [lt,Go.Pf.jn]
 rw [ylJ hd.fin (by omega),hd.err (by rw [yft];omega),cnF rfl,la,cbT (by omega),asT (by omega),getE (A:=A) (k:=0) (by omega)]
 refine (asTT rfl).trans ?_
 rw [cbT (show yaa (encV (A.getD 0 0))≥0 by show ((A.getD 0 0:Nat):Int)≥0;omega)]
 rw [show IntKind.i64.wrap ((A.length:Int)-1)=((A.length-1:Nat):Int) by rw [wib (by omega) (by omega)];omega]
 refine (asTT (decide_eq_true (by omega))).trans ?_
 refine (asTT (decide_eq_true (by omega))).trans ?_
 rw [qAh,getE (by omega)]
 refine (asTT rfl).trans ?_
 rw [ybb,show decide (yaa (encV (A.getD (A.length-1) 0))<(l.length:Int))=true from decide_eq_true (by show ((A.getD (A.length-1) 0:Nat):Int)<_;omega)]
 refine (chk0 (cks l) (logs lg) A (by omega) hs (A.length-1) 1 (by omega) (by omega)).trans ?_
 rw [yxq sq sp,qBh,yad,cnF rfl,yKM,decide_eq_true qp,qBh,yad,cbF (by have:=Rat.num_nonneg.2 q0;omega),ybb]
 refine (asTT (decide_eq_true (by omega))).trans ?_
 rw [yc8 hl0,asCk,ck0,yzz,ord,yKQ,decide_eq_false (by grind),yad,la]
 rw [show IntKind.i64.wrap (Int.tdiv (A.length:Int) 2)=((A.length / 2:Nat):Int) by rw [Int.tdiv_eq_ediv_of_nonneg (by omega),wib (by omega) (by omega)];omega]
 have mkR:∀ K,yaR ((A.length / 2:Nat):Int) (A.length:Int) K=K (yaH A).num (yaH A).den 0:=fun K=>by
  rw [yJx ⟨by omega,by omega⟩ ⟨by omega,by omega⟩ (by omega)]
  show fitK (yaH A) K=_
  rw [ycp,if_pos sr]
 rw [mkR]
 refine (mk10 (M:=M) (N:=A.length) (by omega) f g g2 A lg rfl (by omega) hm (fun a ha=>by have:=hA a ha;omega) hM).trans ?_
 have lH:((A.map fun a=>(a,f a)).map encH).length=A.length:=by simp
 have lS:(hsS A f).length=A.length:=by unfold hsS;rw [yiL,qAe]
 have lL:((((hsS A f).take (A.length / 2)).map Prod.fst).map encV).length=A.length / 2:=by simp only [qAe,qAv];omega
 have lR:((((hsS A f).drop (A.length / 2)).map Prod.fst).map encV).length=A.length-A.length / 2:=by simp only [qAe,qAs];omega
 refine (asTT (by simp)).trans ?_
 rw [lH]
 refine (l21H _ (by omega)).trans ?_
 refine (asTT (by simp)).trans ?_
 refine (yMm (A.map fun a=>(a,f a)) (N:=A.length) (by simp) (by omega) (by omega) (fun v j=>rfl) (fun y hy=>by
  obtain ⟨a,ha,rfl⟩:=List.mem_map.1 hy
  exact sf a ha)).trans ?_
 rw [lH]
 refine (l51H _ (by omega)).trans ?_
 refine (lr1 (cks l) _ 0 0 (m:=A.length / 2) (N:=A.length) (by omega) (by omega) (by omega) (hsS A f) lS).trans ?_
 have lLs:((lftS A f).map encV).length=A.length / 2:=by unfold lftS;rw [qAe,yiL];simp only [qAe,qAv];omega
 have lRs:((rgtS A f).map encV).length=A.length-A.length / 2:=by unfold rgtS;rw [qAe,yiL];simp only [qAe,qAs];omega
 have lHS:((hsS A f).map encH).length=A.length:=by rw [qAe,lS]
 have gH:List.getD ((hsS A f).map encH) (A.length / 2-1) .nils=encH ((hsS A f).getD (A.length / 2-1) (0,0)):=by
  have hk:A.length / 2-1<(hsS A f).length:=by omega
  rw [qAb,qA4,qAb,qAd hk]
  rfl
 rw [lL,wu64 ⟨by omega,by omega⟩,lenH ⟨by omega,by omega⟩]
 refine (yLV _ _ (((hsS A f).take (A.length / 2)).map Prod.fst) (by simp only [qAe,qAv];omega) (by simp only [qAe,qAv];omega) _ _ _ (M:=A.length / 2) (by simp only [qAe,qAv];omega)).trans ?_
 rw [lR,wu64 ⟨by omega,by omega⟩,lenH ⟨by omega,by omega⟩]
 refine (yLW _ _ (((hsS A f).drop (A.length / 2)).map Prod.fst) (by simp only [qAe,qAs];omega) (by simp only [qAe,qAs];omega) _ _ _ (M:=A.length-A.length / 2) (by simp only [qAe,qAs];omega)).trans ?_
 rw [show IntKind.i64.wrap (((A.length / 2:Nat):Int)-1)=((A.length / 2-1:Nat):Int) by rw [wib (by omega) (by omega)];omega]
 refine (asTT (decide_eq_true (by omega))).trans ?_
 refine (asTT (decide_eq_true (by omega))).trans ?_
 refine (asTT (decide_eq_true lHS)).trans ?_
 refine (asTT (decide_eq_true (by rw [lHS];omega))).trans ?_
 rw [qAh,qBy,gH]
 refine (asTT rfl).trans ?_
 refine (asTT (decide_eq_true lLs)).trans ?_
 refine (asTT (decide_eq_true (by omega))).trans ?_
 refine (asTT (decide_eq_true lRs)).trans ?_
 refine (asTT (decide_eq_true (by omega))).trans ?_
 have t1:List.take (A.length / 2) ((lftS A f).map encV)=(lftS A f).map encV:=qAt (by omega)
 have t2:List.take (A.length-A.length / 2) ((rgtS A f).map encV)=(rgtS A f).map encV:=qAt (by omega)
 show K _ _ _ _ (List.take (A.length / 2) ((lftS A f).map encV)) (List.take (A.length-A.length / 2) ((rgtS A f).map encV)) 0=_
 rw [t1,t2]
 rfl
set_option maxHeartbeats 1000000
theorem ynf {A:List Nat} (h2:2≤A.length) (h6:A.length≤6):small (yaH A)∧0<yaH A∧yaH A<1:=by
 unfold yaH
 obtain h | h | h | h | h:A.length=2∨A.length=3∨A.length=4∨A.length=5∨A.length=6:=by omega
 all_goals
  rw [h]
  decide +kernel
theorem yKU {A:List Nat} (h2:2≤A.length) {D:Int} (hD:1≤D) {v:Rat} (h:In D v):In ((A.length:Int)*D) (v*yaH A):=by
 have:=(h.mulI ((A.length / 2:Nat):Int)).div hD (d:=(A.length:Int)) (by omega)
 unfold yaH
 rw [Rat.div_def,← Rat.mul_assoc,← Rat.div_def]
 exact this
structure HV (l:List Ck) (A:List Nat) (q p:Rat) (D:Int):Prop where
 len:1≤A.length∧A.length≤6
 srt:A.Pairwise (fun a b=>a<b)
 mem:∀ a∈A,a<l.length
 q0:0≤q
 p1:p≤lenR l
 D1:1≤D∧D≤100000000
 iq:In D q
 ip:In D p
 qp:q<p
 pos:∀ a∈A,0<vXA l a p-vXA l a q
def fA (l:List Ck) (A:List Nat) (q p:Rat) (a:Nat):Rat:=hAt l a q p (yaH A)
def gA (l:List Ck) (A:List Nat) (q p:Rat) (a:Nat):List Qy:=hLog l a q p (yaH A)
section
variable {l:List Ck} {A:List Nat} {q p:Rat} {D:Int}
theorem HV.sm (hd:DK l) (h:HV l A q p D) (h2:2≤A.length) {a:Nat} (ha:a∈A):small q∧small p∧small (vXA l a p-vXA l a q)∧small ((vXA l a p-vXA l a q)*yaH A)∧MkV l a q ((vXA l a p-vXA l a q)*yaH A) ((A.length:Int)*D):=by
 have D1:=h.D1
 have l6:=h.len.2
 have hal:=h.mem a ha
 have h0:0<l.length:=by omega
 have hL:lenR l≤1000:=qA7.2 (hd.ok 0 h0).len0.2
 have k:=ynf h2 h.len.2
 have q0:=h.q0
 have p1:=h.p1
 have qp:=qA1 h.qp
 have b:0≤vXA l a p-vXA l a q∧vXA l a p-vXA l a q≤totR l a:=yJZ hd hal (s:=(q,p)) h.q0 (qA1 h.qp) h.p1
 have t:=yMf hd hal
 have iv:In D (vXA l a p-vXA l a q):=yMg D1.1 (s:=(q,p)) ⟨h.iq,h.ip⟩
 have iw:=yKU h2 D1.1 iv
 have w0:0≤(vXA l a p-vXA l a q)*yaH A:=Rat.mul_nonneg b.1 (qA1 k.2.1)
 have w1:(vXA l a p-vXA l a q)*yaH A≤vXA l a p-vXA l a q:=by
  have:=qBv (qA1 k.2.2) b.1
  rwa [Rat.mul_one] at this
 have k6:(A.length:Int)*D≤6*D:=qAn (by omega) (by omega)
 have k1:2*D≤(A.length:Int)*D:=qAn (by omega) (by omega)
 have mp:=yzy hd hal p1
 exact ⟨sm3 h.iq ⟨D1.1,by omega⟩ (by grind) (by grind),sm3 h.ip ⟨D1.1,by omega⟩ (by grind) (by grind),sm3 iv ⟨D1.1,by omega⟩ (by grind) (by grind),sm3 iw ⟨by omega,by omega⟩ (by grind) (by grind),yLT hd hal q0 (Rat.le_trans qp p1) w0 (by grind) (by omega) (by omega) (h.iq.up D1.1 (by omega)) iw⟩
theorem HV.mark (hd:DK l) (h:HV l A q p D) (h2:2≤A.length):∀ a∈A,∀ lg:List Qy,lg.length+2≤2000→∀ K,yay (cks l) (logs lg) a q.num q.den p.num p.den (yaH A).num (yaH A).den K=K (cks l) (logs (lg++gA l A q p a)) (fA l A q p a).num (fA l A q p a).den 0:=fun a ha lg hm K=>by
 obtain ⟨s1,s2,s3,s4,m⟩:=h.sm hd h2 ha
 have k:=ynf h2 h.len.2
 have:=h.D1
 exact yMi hd (h.mem a ha) s1 s2 k.1 h.q0 (qA1 h.qp) h.p1 (qA1 k.2.1) ⟨h.D1.1,by omega⟩ h.iq h.ip s3 s4 (qA1 (h.pos a ha)) m (by omega) K
end
section
variable {α:Type} {lt:α→α→Bool}
theorem yBk (x:α):∀ R:List α,(insV lt R x).Perm (x::R)
 | []=>List.Perm.refl _
 | y::R=>by
  unfold insV
  cases lt x y with
  | true=>rw [cond_true];exact ((yBk x R).cons y).trans (List.Perm.swap x y R)
  | false=>exact List.Perm.refl _
theorem yBl:∀ B R:List α,(allV lt R B).Perm (R++B)
 | [],R=>by rw [qAy];exact List.Perm.refl _
 | x::B,R=>by
  refine (yBl B (insV lt R x)).trans ?_
  refine ((yBk x R).append_right B).trans ?_
  exact List.perm_middle.symm
theorem yzA (l:List α):(yjE lt l).Perm l:=by
 cases l with
 | nil=>exact List.Perm.refl _
 | cons x B=>exact (List.reverse_perm _).trans (yBl B [x])
theorem yFk (h1:∀ a b,lt a b=true→lt b a=false) (h2:∀ a b c,lt a b=false→lt b c=false→lt a c=false) (x:α):∀ R:List α,R.Pairwise (fun a b=>lt a b=false)→(insV lt R x).Pairwise (fun a b=>lt a b=false)
 | [],_=>by unfold insV;exact List.pairwise_singleton _ _
 | y::R,h=>by
  obtain ⟨k1,k2⟩:=List.pairwise_cons.1 h
  unfold insV
  cases hx:lt x y with
  | true =>
   rw [cond_true]
   refine List.pairwise_cons.2 ⟨fun z hz=>?_,yFk h1 h2 x R k2⟩
   rcases (ype lt x).1 hz with rfl | hz
   ·exact h1 _ _ hx
   ·exact k1 z hz
  | false =>
   rw [cond_false]
   refine List.pairwise_cons.2 ⟨fun z hz=>?_,h⟩
   rcases qAz.1 hz with rfl | hz
   ·exact hx
   ·exact h2 _ _ _ hx (k1 z hz)
theorem yFl (h1:∀ a b,lt a b=true→lt b a=false) (h2:∀ a b c,lt a b=false→lt b c=false→lt a c=false):∀ B R:List α,R.Pairwise (fun a b=>lt a b=false)→(allV lt R B).Pairwise (fun a b=>lt a b=false)
 | [],_,h=>h
 | x::B,R,h=>yFl h1 h2 B (insV lt R x) (yFk h1 h2 x R h)
theorem yBm (h1:∀ a b,lt a b=true→lt b a=false) (h2:∀ a b c,lt a b=false→lt b c=false→lt a c=false) (l:List α):(yjE lt l).Pairwise (fun a b=>lt b a=false):=by
 cases l with
 | nil=>exact List.Pairwise.nil
 | cons x B=>exact List.pairwise_reverse.2 (yFl h1 h2 B [x] (List.pairwise_singleton _ _))
end
theorem yKV {x y:Nat}:ltV x y=true↔x<y:=by unfold ltV;rw [decide_eq_true_eq];omega
theorem yub {x y:Nat}:ltV x y=false↔y≤x:=by unfold ltV;rw [decide_eq_false_iff_not];omega
theorem yKW {x y:Nat×Rat}:ltH x y=true↔x.2<y.2:=by unfold ltH;rw [yzw,decide_eq_true_eq]
theorem yuc {x y:Nat×Rat}:ltH x y=false↔y.2≤x.2:=by unfold ltH;rw [yzw,decide_eq_false_iff_not];exact Rat.not_lt
theorem yJ2 (l:List Nat):(yjE ltV l).Pairwise (fun a b=>a≤b):=by
 have:=yBm (lt:=ltV) (fun a b h=>yub.2 (Nat.le_of_lt (yKV.1 h))) (fun a b c h k=>yub.2 (qBl (yub.1 k) (yub.1 h))) l
 exact this.imp (S:=fun a b=>a≤b) fun h=>yub.1 h
theorem yFm (l:List (Nat×Rat)):(yjE ltH l).Pairwise (fun a b=>a.2≤b.2):=by
 have:=yBm (lt:=ltH) (fun a b h=>yuc.2 (qA1 (yKW.1 h))) (fun a b c h k=>yuc.2 (Rat.le_trans (yuc.1 k) (yuc.1 h))) l
 exact this.imp (S:=fun a b=>a.2≤b.2) fun h=>yuc.1 h
theorem yFn {l:List Nat} (h:l.Nodup):(yjE ltV l).Pairwise (fun a b=>a<b):=by
 have hn:(yjE ltV l).Nodup:=(yzA l).nodup_iff.2 h
 exact ((yJ2 l).and hn).imp (S:=fun a b=>a<b) fun h=>Nat.lt_of_le_of_ne h.1 h.2
theorem yKX {l:List Nat} (h:l.Pairwise (fun a b=>a<b)) (i:Nat) (hi:i+1<l.length):l.getD i 0<l.getD (i+1) 0:=by
 rw [qAb,qAb,qAd (by omega),qAd hi]
 exact List.pairwise_iff_getElem.1 h i (i+1) (by omega) hi (by omega)
set_option maxHeartbeats 1000000
section
variable {l:List Ck} {A:List Nat} {q p:Rat} {D:Int}
theorem yGN {f:Nat→Rat} {h:Nat×Rat} (hh:h∈hsS A f):h.1∈A∧h.2=f h.1:=by
 unfold hsS at hh
 rw [yvH] at hh
 obtain ⟨a,ha,rfl⟩:=List.mem_map.1 hh
 exact ⟨ha,rfl⟩
theorem yKY (f:Nat→Rat):((hsS A f).map Prod.fst).Perm A:=by
 have:=(yzA (lt:=ltH) (A.map fun a=>(a,f a))).map Prod.fst
 rw [List.map_map] at this
 exact this.trans (by rw [show (Prod.fst ∘ fun a=>(a,f a))=id from rfl,List.map_id])
theorem yk3 (f:Nat→Rat):(hsS A f).length=A.length:=by unfold hsS;rw [yiL,qAe]
theorem HV.nodup (h:HV l A q p D) (f:Nat→Rat):((hsS A f).map Prod.fst).Nodup:=(yKY f).nodup_iff.2 (h.srt.imp fun k=>Nat.ne_of_lt k)
theorem yKZ {f:Nat→Rat} {a:Nat}:a∈lftS A f↔a∈((hsS A f).take (A.length / 2)).map Prod.fst:=yvH ltV _
theorem yK0 {f:Nat→Rat} {a:Nat}:a∈rgtS A f↔a∈((hsS A f).drop (A.length / 2)).map Prod.fst:=yvH ltV _
theorem ykt (f:Nat→Rat):(lftS A f).length=A.length / 2:=by unfold lftS;rw [yiL,qAe,qAv,yk3];omega
theorem yku (f:Nat→Rat):(rgtS A f).length=A.length-A.length / 2:=by unfold rgtS;rw [yiL,qAe,qAs,yk3]
theorem HV.lsrt (h:HV l A q p D) (f:Nat→Rat):(lftS A f).Pairwise (fun a b=>a<b):=by
 unfold lftS
 refine yFn ?_
 rw [List.map_take]
 exact (h.nodup f).sublist (List.take_sublist _ _)
theorem HV.rsrt (h:HV l A q p D) (f:Nat→Rat):(rgtS A f).Pairwise (fun a b=>a<b):=by
 unfold rgtS
 refine yFn ?_
 rw [List.map_drop]
 exact (h.nodup f).sublist (List.drop_sublist _ _)
theorem yK1 {f:Nat→Rat} (h2:2≤A.length):∃ b∈A,cutH A f=f b:=by
 have hk:A.length / 2-1<(hsS A f).length:=by rw [yk3];omega
 have e:(hsS A f).getD (A.length / 2-1) (0,0)=(hsS A f)[A.length / 2-1]:=by rw [qAb,qAd hk];rfl
 have:=yGN (qB0 hk)
 refine ⟨_,this.1,?_⟩
 unfold cutH
 rw [e]
 exact this.2
theorem yGO {f:Nat→Rat} (h2:2≤A.length) {a:Nat} (ha:a∈lftS A f):a∈A∧f a≤cutH A f:=by
 obtain ⟨h,hh,rfl⟩:=List.mem_map.1 (yKZ.1 ha)
 obtain ⟨i,hi,rfl⟩:=List.getElem_of_mem hh
 rw [qAv,yk3] at hi
 have hi':i<(hsS A f).length:=by rw [yk3];omega
 rw [List.getElem_take]
 have k:=yGN (qB0 hi')
 have hk:A.length / 2-1<(hsS A f).length:=by rw [yk3];omega
 refine ⟨k.1,?_⟩
 rw [← k.2]
 unfold cutH
 rw [qAb,qAd hk]
 show _≤((hsS A f)[A.length / 2-1]).2
 by_cases e:i=A.length / 2-1
 ·subst e;exact qB9
 ·exact List.pairwise_iff_getElem.1 (yFm _) i (A.length / 2-1) hi' hk (by omega)
theorem yGP {f:Nat→Rat} (h2:2≤A.length) {a:Nat} (ha:a∈rgtS A f):a∈A∧cutH A f≤f a:=by
 obtain ⟨h,hh,rfl⟩:=List.mem_map.1 (yK0.1 ha)
 obtain ⟨i,hi,rfl⟩:=List.getElem_of_mem hh
 rw [qAs,yk3] at hi
 have hi':A.length / 2+i<(hsS A f).length:=by rw [yk3];omega
 rw [List.getElem_drop]
 have k:=yGN (qB0 hi')
 have hk:A.length / 2-1<(hsS A f).length:=by rw [yk3];omega
 refine ⟨k.1,?_⟩
 rw [← k.2]
 unfold cutH
 rw [qAb,qAd hk]
 exact List.pairwise_iff_getElem.1 (yFm _) (A.length / 2-1) (A.length / 2+i) hk hi' (by omega)
end
set_option maxHeartbeats 1000000
section
variable {l:List Ck} {A:List Nat} {q p:Rat} {D:Int}
theorem HV.split (hd:DK l) (h:HV l A q p D) (h2:2≤A.length) (hD:72*D≤100000000):∃ D',D'≤72*D∧HV l (lftS A (fA l A q p)) q (cutH A (fA l A q p)) D'∧HV l (rgtS A (fA l A q p)) (cutH A (fA l A q p)) p D':=by
 have D1:=h.D1
 have l6:=h.len.2
 obtain ⟨b,hb,eb⟩:=yK1 (f:=fA l A q p) h2
 have k:=ynf h2 l6
 have M:∀ a∈A,MkV l a q ((vXA l a p-vXA l a q)*yaH A) ((A.length:Int)*D):=fun a ha=>(h.sm hd h2 ha).2.2.2.2
 have ef:∀ a,fA l A q p a=mkV l a q ((vXA l a p-vXA l a q)*yaH A):=fun a=>rfl
 have w0:∀ a∈A,0<(vXA l a p-vXA l a q)*yaH A:=fun a ha=>Rat.mul_pos (h.pos a ha) k.2.1
 have w1:∀ a∈A,(vXA l a p-vXA l a q)*yaH A<vXA l a p-vXA l a q:=fun a ha=>by
  have:=Rat.mul_lt_mul_of_pos_left k.2.2 (h.pos a ha)
  rwa [Rat.mul_one] at this
 obtain ⟨d,hd12,hc⟩:=(M b hb).d
 rw [← ef,← eb] at hc
 have k6:(A.length:Int)*D≤6*D:=qAn (by omega) (by omega)
 have k1:2*D≤(A.length:Int)*D:=qAn (by omega) (by omega)
 have d6:d*((A.length:Int)*D)≤12*((A.length:Int)*D):=qAn (by omega) (by omega)
 have d1:1*((A.length:Int)*D)≤d*((A.length:Int)*D):=qAn (by omega) (by omega)
 have iq:=(h.iq.up D1.1 (d:=(A.length:Int)) (by omega)).up (by omega) hd12.1
 have ip:=(h.ip.up D1.1 (d:=(A.length:Int)) (by omega)).up (by omega) hd12.1
 have cl:cutH A (fA l A q p)≤lenR l:=by rw [eb,ef];exact (M b hb).le
 have cq:q≤cutH A (fA l A q p):=by rw [eb,ef];exact (M b hb).ge
 have posL:∀ a∈lftS A (fA l A q p),0<vXA l a (cutH A (fA l A q p))-vXA l a q:=fun a ha=>by
  obtain ⟨m,hle⟩:=yGO h2 ha
  have:=yzy hd (h.mem a m) hle
  rw [ef,(M a m).eqv] at this
  have:=w0 a m
  grind
 have posR:∀ a∈rgtS A (fA l A q p),0<vXA l a p-vXA l a (cutH A (fA l A q p)):=fun a ha=>by
  obtain ⟨m,hle⟩:=yGP h2 ha
  have:=yzy hd (h.mem a m) hle
  rw [ef a,(M a m).eqv] at this
  have:=w1 a m
  grind
 have exL:∃ a,a∈lftS A (fA l A q p):=List.exists_mem_of_length_pos (by rw [ykt];omega)
 have exR:∃ a,a∈rgtS A (fA l A q p):=List.exists_mem_of_length_pos (by rw [yku];omega)
 have qc:q<cutH A (fA l A q p):=by
  obtain ⟨a,ha⟩:=exL
  have:=posL a ha
  exact lt3 hd (h.mem a (yGO h2 ha).1) (by grind)
 have cp:cutH A (fA l A q p)<p:=by
  obtain ⟨a,ha⟩:=exR
  have:=posR a ha
  exact lt3 hd (h.mem a (yGP h2 ha).1) (by grind)
 refine ⟨d*((A.length:Int)*D),by omega,?_,?_⟩
 ·exact ⟨by rw [ykt];omega,h.lsrt _,fun a ha=>h.mem a (yGO h2 ha).1,h.q0,cl,⟨by omega,by omega⟩,iq,hc,qc,posL⟩
 ·exact ⟨by rw [yku];omega,h.rsrt _,fun a ha=>h.mem a (yGP h2 ha).1,Rat.le_trans h.q0 cq,h.p1,⟨by omega,by omega⟩,hc,ip,cp,posR⟩
theorem yFo (hd:DK l) (h:HV l A q p D) (h2:2≤A.length):∀ a∈A,small (fA l A q p a):=fun a ha=>by
 have m:=(h.sm hd h2 ha).2.2.2.2
 have D1:=h.D1
 have l6:=h.len.2
 have k6:(A.length:Int)*D≤6*D:=qAn (by omega) (by omega)
 have k1:2*D≤(A.length:Int)*D:=qAn (by omega) (by omega)
 exact m.sm hd (by omega) (by omega) h.q0
theorem yse (a:Nat):(gA l A q p a).length≤2:=by
 unfold gA hLog
 cases hAsk l q p <;> simp
theorem HV.run (hd:DK l) (h:HV l A q p D) (h2:2≤A.length) {lg:List Qy} (hm:lg.length+2*A.length≤2000) (K) :
  yaz (cks l) (logs lg) (A.map encV) q.num q.den p.num p.den K=K (cks l) (logs (lg++A.flatMap (gA l A q p))) (cutH A (fA l A q p)).num (cutH A (fA l A q p)).den ((lftS A (fA l A q p)).map encV) ((rgtS A (fA l A q p)).map encV) 0:=by
 obtain ⟨a,ha⟩:=List.exists_mem_of_length_pos (l:=A) (by omega)
 obtain ⟨s1,s2,_⟩:=h.sm hd h2 ha
 exact yJ1 hd A h2 (by have:=h.len.2;omega) (yKX h.srt) h.mem s1 s2 h.q0 h.qp h.p1 (ynf h2 h.len.2).1 _ _ yse (yFo hd h h2) hm (qAj _) (h.mark hd h2) K
end
set_option maxHeartbeats 1000000
def dvM (l:List Ck):Nat→List Nat→Rat→Rat→List (Nat×RS)×List Qy
 | 0,_,_,_=>([],[])
 | n+1,A,q,p =>
  if A.length≤1 then ([(A.getD 0 0,(q,p))],[])
  else
   let L:=dvM l n (lftS A (fA l A q p)) q (cutH A (fA l A q p))
   let R:=dvM l n (rgtS A (fA l A q p)) (cutH A (fA l A q p)) p
   (L.1++R.1,A.flatMap (gA l A q p)++(L.2++R.2))
section
variable {l:List Ck}
theorem ypC {n:Nat} {A:List Nat} {q p:Rat} (h:A.length≤1):dvM l (n+1) A q p=([(A.getD 0 0,(q,p))],[]):=by
 unfold dvM
 rw [if_pos h]
theorem yud {n:Nat} {A:List Nat} {q p:Rat} (h:2≤A.length):dvM l (n+1) A q p=((dvM l n (lftS A (fA l A q p)) q (cutH A (fA l A q p))).1++(dvM l n (rgtS A (fA l A q p)) (cutH A (fA l A q p)) p).1,A.flatMap (gA l A q p)++((dvM l n (lftS A (fA l A q p)) q (cutH A (fA l A q p))).2++(dvM l n (rgtS A (fA l A q p)) (cutH A (fA l A q p)) p).2)):=by
 conv=>lhs;unfold dvM
 rw [if_neg (by omega)]
end
theorem yue {α β:Type} (g:α→List β) (c:Nat):∀ A:List α,(∀ a∈A,(g a).length≤c)→(A.flatMap g).length≤c*A.length
 | [],_=>by simp
 | a::A,h=>by
  have ih:=yue g c A fun b hb=>h b (qAo _ hb)
  have:=h a (qAx ..)
  rw [List.flatMap_cons,qAa,qAk,Nat.mul_add,Nat.mul_one]
  omega
section
variable {l:List Ck}
theorem ypD:∀ (n:Nat) (A:List Nat) (q p:Rat),A.length≤2 ^ n→1≤A.length→(dvM l (n+1) A q p).2.length≤2*A.length*n
 | 0,A,q,p,h,h1=>by
  have h:A.length≤1:=h
  rw [ypC h]
  simp
 | n+1,A,q,p,h,h1=>by
  by_cases h2:A.length≤1
  ·rw [ypC h2];exact qBn _
  ·have e2:2 ^ (n+1)=2*2 ^ n:=by rw [Nat.pow_succ,Nat.mul_comm]
   have f1:=yue (gA l A q p) 2 A fun a _=>yse a
   have k1:=ypD n (lftS A (fA l A q p)) q (cutH A (fA l A q p)) (by rw [ykt];omega) (by rw [ykt];omega)
   have k2:=ypD n (rgtS A (fA l A q p)) (cutH A (fA l A q p)) p (by rw [yku];omega) (by rw [yku];omega)
   rw [ykt] at k1
   rw [yku] at k2
   rw [yud (by omega)]
   simp only [qAa]
   have e:2*A.length*(n+1)=2*(A.length / 2)*n+2*(A.length-A.length / 2)*n+2*A.length:=by
    rw [← qAr,Nat.mul_add,Nat.mul_one]
    congr 2
    omega
   omega
end
set_option maxHeartbeats 1000000
theorem cbYY {c:Bool} {P Q:Prop} (h:c=true):cbr c P Q=P:=by rw [h,yag]
theorem cbNN {c:Bool} {P Q:Prop} (h:c=false):cbr c P Q=Q:=by rw [h,yad]
def encT (t:List Nat×RS):PV:=.agg [.data (t.1.map encV),.int .i64 t.2.1.num,.int .i64 (t.2.1.den:Int),.int .i64 t.2.2.num,.int .i64 (t.2.2.den:Int)]
def setP:List (List RS)→List (Nat×RS)→List (List RS)
 | X,[]=>X
 | X,x::r=>setP (X.set x.1 [x.2]) r
theorem yuf:∀ (a b:List (Nat×RS)) (X:List (List RS)),setP X (a++b)=setP (setP X a) b
 | [],_,_=>rfl
 | x::a,b,X=>yuf a b (X.set x.1 [x.2])
theorem yjF:∀ (a:List (Nat×RS)) (X:List (List RS)),(setP X a).length=X.length
 | [],_=>rfl
 | x::a,X=>by
  show (setP (X.set x.1 [x.2]) a).length=_
  rw [yjF a,qBj]
theorem yFp (X:List (List RS)) (a:Nat) (s:RS):List.set (rspL X) a (.data (rsp [s]))=rspL (X.set a [s]):=by
 unfold rspL
 rw [List.map_set]
theorem topT (S:List (List Nat×RS)) (t:List Nat×RS) (J:List PV) {k:Nat} (h:k=S.length):List.getD ((S++[t]).map encT++J) k .nils=encT t:=by
 subst h
 rw [qAb,qBq,qAf,List.getElem?_append_right (by rw [qAe];exact qAj _),qAe,Nat.sub_self]
 rfl
theorem h13o {a0 a1 a2 x6 x7} (l0 l2 C G:List PV) (S:List (List Nat×RS)) (a:Nat) (s:RS) (J:List PV) (X:List (List RS)) {N M:Nat} (hX:X.length=N) (ha:a<N) (hN:N≤100) (hS:S.length≤100) (hM:((S++[([a],s)]).map encT++J).length=M) (n:Nat) :
  yaE a0 a1 a2 x6 x7 (n+1) l0 (rspL X) l2 ((S++[([a],s)]).map encT++J) N N N C G (S.length+1) M=yaE a0 a1 a2 x6 x7 n l0 (rspL (X.set a [s])) l2 (S.map encT++(encT ([a],s)::J)) N N N C G S.length M:=by
 have gt:List.getD ((S++[([a],s)]).map encT++J) (0+(S.length:Int).toNat) .nils=encT ([a],s):=topT S _ J (by omega)
 have w:IntKind.i64.wrap (((S.length+1:Nat):Int)-1)=(S.length:Int):=by rw [wib (by omega) (by omega)];omega
 have hl:S.length+(J.length+1)=M:=by rw [← hM,qAa,qAe,qAa,qAi];omega
 have lX:(rspL X).length=N:=by rw [ylL,hX]
 have gx:List.getD (rspL X) (0+(a:Int).toNat) .nils=.data (rsp (X.getD a [])):=by rw [show 0+(a:Int).toNat=a by omega];exact yHF (by omega)
 conv=>lhs;unfold yaE
 dsimp only [lt,Go.Pf.jn]
 rw [cbT (by omega),w,gt]
 refine (asTT (decide_eq_true (by omega))).trans ?_
 refine (asTT (decide_eq_true (by omega))).trans ?_
 refine (asTT (decide_eq_true hM)).trans ?_
 refine (asTT (decide_eq_true (by rw [hM];omega))).trans ?_
 refine (asTT rfl).trans ?_
 refine (asTT (decide_eq_true (by omega))).trans ?_
 refine (asTT (by rw [decide_eq_true (by omega)];rfl)).trans ?_
 refine (cbYY rfl).trans ?_
 refine (asTT rfl).trans ?_
 refine (asTT rfl).trans ?_
 refine (asTT (decide_eq_true (show (0:Int)≤(a:Int) by omega))).trans ?_
 refine (asTT (decide_eq_true (show (a:Int)<(N:Int) by omega))).trans ?_
 refine (asTT (decide_eq_true lX)).trans ?_
 refine (asTT (decide_eq_true (show 0+(a:Int).toNat<_ by rw [lX];omega))).trans ?_
 refine (asTT (show conf zD (List.getD (rspL X) (0+(a:Int).toNat) .nils)=true by rw [gx];rfl)).trans ?_
 show yaE a0 a1 a2 x6 x7 n l0 (List.set (rspL X) (0+(a:Int).toNat) (.data (rsp [s]))) l2 ((S++[([a],s)]).map encT++J) N N N C G (((S.length:Int)-0).toNat) M=_
 rw [show 0+(a:Int).toNat=a by omega,yFp,show ((S.length:Int)-0).toNat=S.length by omega,qBq,qAf]
 rfl
theorem h13t {a0 a1 x6 x7} (l0 l1 l2 C G C' G':List PV) (S:List (List Nat×RS)) (A L R:List Nat) (q p c:Rat) (J:List PV) {N M:Nat} (hS:S.length≤100) (hM:((S++[(A,(q,p))]).map encT++J).length=M) (h2:2≤A.length)
  (hs:∀ K,yaz C G (A.map encV) q.num q.den p.num p.den K=K C' G' c.num c.den (L.map encV) (R.map encV) 0) :
  ∃ J' M',((S++[(R,(c,p)),(L,(q,c))]).map encT++J').length=M'∧∀ n,yaE a0 a1 yaz x6 x7 (n+1) l0 l1 l2 ((S++[(A,(q,p))]).map encT++J) N N N C G (S.length+1) M=yaE a0 a1 yaz x6 x7 n l0 l1 l2 ((S++[(R,(c,p)),(L,(q,c))]).map encT++J') N N N C' G' (S.length+2) M':=by
 have gt:List.getD ((S++[(A,(q,p))]).map encT++J) (0+(S.length:Int).toNat) .nils=encT (A,(q,p)):=topT S _ J (by omega)
 have w:IntKind.i64.wrap (((S.length+1:Nat):Int)-1)=(S.length:Int):=by rw [wib (by omega) (by omega)];omega
 have hl:S.length+(J.length+1)=M:=by rw [← hM,qAa,qAe,qAa,qAi];omega
 have z:((S.length:Int)-0).toNat=S.length:=by omega
 have tk:List.take S.length ((S++[(A,(q,p))]).map encT++J)=S.map encT:=by
  rw [qBq,qAf,List.take_append_of_le_length (by rw [qAe];exact qAj _),qAt (by rw [qAe];exact qAj _)]
 have e2:(S++[(R,(c,p)),(L,(q,c))]).map encT=S.map encT++[encT (R,(c,p)),encT (L,(q,c))]:=by rw [qBq];rfl
 have red:∀ n,yaE a0 a1 yaz x6 x7 (n+1) l0 l1 l2 ((S++[(A,(q,p))]).map encT++J) N N N C G (S.length+1) M =
   cbr (decide (0+S.length+2≤M))
    (yaE a0 a1 yaz x6 x7 n l0 l1 l2 (List.take (0+S.length) ((S++[(A,(q,p))]).map encT++J)++([encT (R,(c,p)),encT (L,(q,c))]++List.drop (0+S.length+2) ((S++[(A,(q,p))]).map encT++J))) N N N C' G' (S.length+2) M)
    (yaE a0 a1 yaz x6 x7 n l0 l1 l2 (List.take S.length ((S++[(A,(q,p))]).map encT++J)++[encT (R,(c,p)),encT (L,(q,c))]) N N N C' G' (S.length+2) (S.length+2)):=fun n=>by
  conv=>lhs;unfold yaE
  dsimp only [lt,Go.Pf.jn]
  rw [cbT (by omega),w,gt,z]
  refine (asTT (decide_eq_true (by omega))).trans ?_
  refine (asTT (decide_eq_true (by omega))).trans ?_
  refine (asTT (decide_eq_true hM)).trans ?_
  refine (asTT (decide_eq_true (by rw [hM];omega))).trans ?_
  refine (asTT rfl).trans ?_
  refine (asTT (decide_eq_true (by omega))).trans ?_
  refine (asTT (by rw [decide_eq_true (by omega)];rfl)).trans ?_
  refine (cbNN (show ((((A.map encV).length:Nat):Int) == 1)=false from beq_eq_false_iff_ne.2 (by rw [qAe];omega))).trans ?_
  refine (hs _).trans ?_
  rw [cnF rfl]
  refine (asTT (decide_eq_true hM)).trans ?_
  refine (asTT (decide_eq_true (by omega))).trans ?_
  refine congrArg (fun z=>cbr (decide (0+S.length+2≤M)) _ z) ?_
  refine (asTT (decide_eq_true (by omega))).trans ?_
  exact (asTT (decide_eq_true (by unfold room;omega)))
 by_cases hf:0+S.length+2≤M
 ·refine ⟨List.drop (0+S.length+2) ((S++[(A,(q,p))]).map encT++J),M,?_,fun n=>?_⟩
  ·rw [e2,qAa,qAa,qAs,hM,qAe]
   simp only [qAk,qBd]
   omega
  ·rw [red n,cbT hf,qBy,tk,e2,qAf]
 ·refine ⟨[],S.length+2,?_,fun n=>?_⟩
  ·rw [e2,qAy,qAa,qAe]
   rfl
  ·rw [red n,cbF hf,tk,e2,qAy]
set_option maxHeartbeats 1000000
theorem h13 {a0 a1 x6 x7} {l:List Ck} (hd:DK l) (l0 l2:List PV):∀ (n:Nat) (A:List Nat) (q p:Rat) (D:Int),HV l A q p D→A.length≤2 ^ n→(72:Int) ^ n*D≤100000000→∀ (S:List (List Nat×RS)) (J:List PV) (X:List (List RS)) (lg:List Qy) (M:Nat),X.length=l.length→S.length+n≤100→lg.length+2*A.length*n≤2000→((S++[(A,(q,p))]).map encT++J).length=M →
  ∃ J' M',(S.map encT++J').length=M' ∧
  (∃ k,yaE a0 a1 yaz x6 x7 k l0 (rspL X) l2 ((S++[(A,(q,p))]).map encT++J) l.length l.length l.length (cks l) (logs lg) (S.length+1) M) =
  (∃ k,yaE a0 a1 yaz x6 x7 k l0 (rspL (setP X (dvM l (n+1) A q p).1)) l2 (S.map encT++J') l.length l.length l.length (cks l) (logs (lg++(dvM l (n+1) A q p).2)) S.length M')
 | n,A,q,p,D,hv,hA,hD,S,J,X,lg,M,hX,hS,hlg,hM=>by
  have n6:=hd.n6
  have h1:=hv.len.1
  by_cases h2:A.length≤1
  ·obtain ⟨a,rfl⟩:∃ a,A=[a]:=by
    match A,h1,h2 with
    | [a],_,_=>exact ⟨a,rfl⟩
   rw [ypC h2]
   refine ⟨encT ([a],(q,p))::J,M,?_,?_⟩
   ·rw [← hM,qBq,qAf]
    rfl
   ·rw [exS3 rfl (R:=fun k=>_) (h13o l0 l2 (cks l) (logs lg) S a (q,p) J X hX (hv.mem a qAx) (by omega) (by omega) hM),qAy]
    rfl
  ·match n,hA,hD,hS,hlg with
   | 0,hA,_,_,_=>exact absurd hA (by rw [Nat.pow_zero];omega)
   | n+1,hA,hD,hS,hlg =>
   have e2:2 ^ (n+1)=2*2 ^ n:=by rw [Nat.pow_succ,Nat.mul_comm]
   have e72:(72:Int) ^ (n+1)*D=72 ^ n*(72*D):=by rw [Int.pow_succ,Int.mul_assoc]
   have p72:(1:Int)≤72 ^ n:=by
    have:(0:Int)<72 ^ n:=Int.pow_pos (by omega)
    omega
   have D1:=hv.D1.1
   have d72:1*(72*D)≤72 ^ n*(72*D):=qAn p72 (by omega)
   obtain ⟨D',hD',hl,hr⟩:=hv.split hd (by omega) (by omega)
   have d':(72:Int) ^ n*D'≤72 ^ n*(72*D):=Int.mul_le_mul_of_nonneg_left hD' (by omega)
   have eL:=ykt (A:=A) (fA l A q p)
   have eR:=yku (A:=A) (fA l A q p)
   have hg:(A.flatMap (gA l A q p)).length≤2*A.length:=yue _ 2 A fun a _=>yse a
   have eA:2*A.length*(n+1)=2*A.length*n+2*A.length:=Nat.mul_succ ..
   have eS:2*A.length*n=2*(lftS A (fA l A q p)).length*n+2*(rgtS A (fA l A q p)).length*n:=by rw [← qAr,eL,eR];congr 1;omega
   have run:=fun K=>hv.run hd (by omega) (lg:=lg) (by omega) K
   obtain ⟨J1,M1,hM1,st⟩:=h13t (a0:=a0) (a1:=a1) (x6:=x6) (x7:=x7) l0 (rspL X) l2 _ _ _ _ S A _ _ q p _ J (N:=l.length) (by omega) hM (by omega) run
   obtain ⟨J2,M2,hM2,i1⟩:=h13 (a0:=a0) (a1:=a1) (x6:=x6) (x7:=x7) hd l0 l2 n (lftS A (fA l A q p)) q (cutH A (fA l A q p)) D' hl (by rw [eL];omega) (by omega) (S++[(rgtS A (fA l A q p),(cutH A (fA l A q p),p))]) J1 X (lg++A.flatMap (gA l A q p)) M1 hX (by rw [qAa,qAi];omega) (by rw [qAa];omega) (by rw [qAf];exact hM1)
   have hlL:(dvM l (n+1) (lftS A (fA l A q p)) q (cutH A (fA l A q p))).2.length≤2*(lftS A (fA l A q p)).length*n:=ypD n _ _ _ (by rw [eL];omega) (by rw [eL];omega)
   obtain ⟨J3,M3,hM3,i2⟩:=h13 (a0:=a0) (a1:=a1) (x6:=x6) (x7:=x7) hd l0 l2 n (rgtS A (fA l A q p)) (cutH A (fA l A q p)) p D' hr (by rw [eR];omega) (by omega) S J2 (setP X (dvM l (n+1) (lftS A (fA l A q p)) q (cutH A (fA l A q p))).1) (lg++A.flatMap (gA l A q p)++(dvM l (n+1) (lftS A (fA l A q p)) q (cutH A (fA l A q p))).2) M2 (by rw [yjF];exact hX) (by omega) (by rw [qAa,qAa];omega) hM2
   refine ⟨J3,M3,hM3,?_⟩
   rw [exS3 rfl (R:=fun k=>_) st,yud (by omega),yuf,← qAf,← qAf]
   rw [qAa,qAi,qAf] at i1
   exact i1.trans i2
set_option maxHeartbeats 1000000
theorem hr01 {a0 a1 a2 x1} {N:Nat} (hN:N≤100) (l1 l2 l3:List PV) (i6 i7 i8 i9:Int):∀ (d i:Nat),i+d=N→1≤i →
  (∃ n,ybK a0 a1 a2 x1 n ((List.range i).map encV) l1 l2 l3 i6 i7 i8 i9 (N:Int) (i:Int))=x1 ((List.range N).map encV) l1 l2 l3 i6 i7 i8 i9 (N:Int) (N:Int) false
 | 0,i,h,h1=>by
  have h:i=N:=h
  subst h
  have e:∀ n,ybK a0 a1 a2 x1 (n+1) ((List.range i).map encV) l1 l2 l3 i6 i7 i8 i9 (i:Int) (i:Int)=x1 ((List.range i).map encV) l1 l2 l3 i6 i7 i8 i9 (i:Int) (i:Int) false:=fun n=>by
   conv=>lhs;unfold ybK
   rw [cbF (by omega)]
  rw [exS3 rfl (R:=fun _=>_) e,exC3]
 | d+1,i,h,h1=>by
  have ih:=hr01 (a0:=a0) (a1:=a1) (a2:=a2) (x1:=x1) hN l1 l2 l3 i6 i7 i8 i9 d (i+1) (by omega) (by omega)
  have w:IntKind.i64.wrap ((i:Int)+1)=((i+1:Nat):Int):=by rw [wib (by omega) (by omega)];omega
  have lr:((List.range i).map encV).length=i:=by rw [qAe,qBo]
  have e:∀ n,ybK a0 a1 a2 x1 (n+1) ((List.range i).map encV) l1 l2 l3 i6 i7 i8 i9 (N:Int) (i:Int)=ybK a0 a1 a2 x1 n ((List.range (i+1)).map encV) l1 l2 l3 i6 i7 i8 i9 (N:Int) ((i+1:Nat):Int):=fun n=>by
   conv=>lhs;unfold ybK
   dsimp only [lt,Go.Pf.jn]
   rw [cbT (by omega),w,lr]
   refine (asTT (by simp)).trans ?_
   refine (asTT (by simp)).trans ?_
   refine (asTT (by simp)).trans ?_
   refine (asTT (by simp)).trans ?_
   refine (asTT (decide_eq_true (by unfold room;omega))).trans ?_
   refine (asTT (by simp)).trans ?_
   rw [List.range_succ,qBq]
   rfl
  rw [exS3 rfl (R:=fun _=>_) e,ih]
theorem hr00 {a0 a1 a2 x0 x1} {N:Nat} (h0:1≤N) (hN:N≤100) (l1 l2 l3:List PV) (i6 i7 i8 i9:Int) :
  (∃ n,yei a0 a1 a2 x0 x1 n l1 l2 l3 i6 i7 i8 i9 (N:Int) 0)=x1 ((List.range N).map encV) l1 l2 l3 i6 i7 i8 i9 (N:Int) (N:Int) false:=by
 have e:∀ n,yei a0 a1 a2 x0 x1 (n+1) l1 l2 l3 i6 i7 i8 i9 (N:Int) 0=ybK a0 a1 a2 x1 n ((List.range 1).map encV) l1 l2 l3 i6 i7 i8 i9 (N:Int) ((1:Nat):Int):=fun n=>by
  conv=>lhs;unfold yei
  dsimp only [lt,Go.Pf.jn]
  rw [cbT (by omega)]
  exact (asTT (by simp)).trans rfl
 rw [exS3 rfl (R:=fun _=>_) e,hr01 hN l1 l2 l3 i6 i7 i8 i9 (N-1) 1 (by omega) (by omega)]
theorem HV.top {l:List Ck} (hd:DK l):HV l (List.range l.length) 0 (lenR l) 1:=by
 have n0:=hd.n0
 have n6:=hd.n6
 have c0:=(hd.ok 0 (by omega)).len0
 refine ⟨by rw [qBo];omega,List.pairwise_lt_range,fun a ha=>List.mem_range.1 ha,qB9,qB9,by decide,In.int (Int.le_refl 1) 0,In.int (Int.le_refl 1) _,?_,fun a ha=>?_⟩
 ·exact Rat.intCast_pos.2 (by omega)
 ·rw [tot3 hd (List.mem_range.1 ha)]
  exact tot0 hd (List.mem_range.1 ha)
def dvX (l:List Ck):List (List RS):=setP (List.replicate l.length []) (dvM l 4 (List.range l.length) 0 (lenR l)).1
def dvL (l:List Ck):List Qy:=(dvM l 4 (List.range l.length) 0 (lenR l)).2
theorem yDm (l:List Ck):(dvX l).length=l.length:=by unfold dvX;rw [yjF,qBa]
theorem yFq (n:Nat):List.replicate n (.data []:PV)=rspL (List.replicate n []):=by unfold rspL;rw [List.map_replicate];rfl
section
variable {l:List Ck}
abbrev t0T (l:List Ck):List Nat×RS:=(List.range l.length,((0:Rat),lenR l))
theorem x12a {a0 a1 x6 x7 x8 x9} (h1:l.length=1) (l0:List PV) :
  (∃ k,ya8 a0 a1 yaz x6 x7 x8 x9 k l0 (rspL (List.replicate l.length [])) [encT (t0T l)] l.length l.length l.length (cks l) [] 1 1) =
  x6 l0 (rspL (dvX l)) [encT (t0T l)] l.length l.length l.length (cks l) (logs (dvL l)) 0 1 false:=by
 have er:List.range l.length=[0]:=by rw [h1];rfl
 have eX:dvX l=[[(0,lenR l)]]:=by unfold dvX;rw [ypC (by rw [qBo];omega),er,h1];rfl
 have eL:dvL l=[]:=by unfold dvL;rw [ypC (by rw [qBo];omega)]
 rw [eX,eL,t0T,er,h1]
 have e:∀ n,ya8 a0 a1 yaz x6 x7 x8 x9 (n+1) l0 (rspL (List.replicate 1 [])) [encT ([0],((0:Rat),lenR l))] 1 1 1 (cks l) [] 1 1=ya8 a0 a1 yaz x6 x7 x8 x9 n l0 (rspL [[(0,lenR l)]]) [encT ([0],((0:Rat),lenR l))] 1 1 1 (cks l) [] 0 1:=fun n=>by
  conv=>lhs;unfold ya8
  rfl
 have e':∀ n,ya8 a0 a1 yaz x6 x7 x8 x9 (n+1) l0 (rspL [[(0,lenR l)]]) [encT ([0],((0:Rat),lenR l))] 1 1 1 (cks l) [] 0 1=x6 l0 (rspL [[(0,lenR l)]]) [encT ([0],((0:Rat),lenR l))] 1 1 1 (cks l) [] 0 1 false:=fun n=>by
  conv=>lhs;unfold ya8
  rfl
 rw [exS3 rfl (R:=fun _=>_) e,exS3 rfl (R:=fun _=>_) e',exC3]
 rfl
theorem x12s {a0 a1 x6 x7 x8 x9} (l0 l1 C G C' G':List PV) (A L R:List Nat) (q p c:Rat) (N:Nat) (h2:2≤A.length)
  (hs:∀ K,yaz C G (A.map encV) q.num q.den p.num p.den K=K C' G' c.num c.den (L.map encV) (R.map encV) 0) (n:Nat) :
  ya8 a0 a1 yaz x6 x7 x8 x9 (n+1) l0 l1 [encT (A,(q,p))] N N N C G 1 1=yaE a0 a1 yaz x8 x9 n l0 l1 [encT (A,(q,p))] ((([]++[(R,(c,p))])++[(L,(q,c))]).map encT++[]) N N N C' G' ((([]:List (List Nat×RS))++[(R,(c,p))]).length+1) 2:=by
 conv=>lhs;unfold ya8
 dsimp only [lt,Go.Pf.jn]
 have w:IntKind.i64.wrap (((1:Nat):Int)-1)=0:=by decide
 rw [cbT (by omega),w]
 refine (asTT rfl).trans ?_
 refine (asTT rfl).trans ?_
 refine (asTT rfl).trans ?_
 refine (asTT rfl).trans ?_
 refine (asTT rfl).trans ?_
 refine (asTT rfl).trans ?_
 refine (asTT rfl).trans ?_
 refine (cbNN (show ((((A.map encV).length:Nat):Int) == 1)=false from beq_eq_false_iff_ne.2 (by rw [qAe];omega))).trans ?_
 refine (hs _).trans ?_
 rw [cnF rfl]
 refine (asTT rfl).trans ?_
 refine (asTT rfl).trans ?_
 refine (cbNN rfl).trans ?_
 refine (asTT rfl).trans ?_
 rfl
theorem x12b {a0 a1 x6 x7 x8 x9} (hd:DK l) (h2:2≤l.length) (l0:List PV):∃ J M,J.length=M ∧
  (∃ k,ya8 a0 a1 yaz x6 x7 x8 x9 k l0 (rspL (List.replicate l.length [])) [encT (t0T l)] l.length l.length l.length (cks l) [] 1 1) =
  x8 l0 (rspL (dvX l)) [encT (t0T l)] J l.length l.length l.length (cks l) (logs (dvL l)) 0 M false:=by
 have n6:=hd.n6
 have hv:=HV.top hd
 have hA:(List.range l.length).length=l.length:=qBo
 obtain ⟨D',hD',hl,hr⟩:=hv.split hd (by omega) (by decide)
 generalize hAe:List.range l.length=A at *
 have eL:=ykt (A:=A) (fA l A 0 (lenR l))
 have eR:=yku (A:=A) (fA l A 0 (lenR l))
 have hg:(A.flatMap (gA l A 0 (lenR l))).length≤2*A.length:=yue _ 2 A fun a _=>yse a
 have run:=fun K=>hv.run hd (by omega) (lg:=[]) (by rw [qBd];omega) K
 obtain ⟨J2,M2,hM2,i1⟩:=h13 (a0:=a0) (a1:=a1) (x6:=x8) (x7:=x9) hd l0 [encT (A,((0:Rat),lenR l))] 2 (lftS A (fA l A 0 (lenR l))) 0 (cutH A (fA l A 0 (lenR l))) D' hl (by rw [eL];omega) (by omega) ([]++[(rgtS A (fA l A 0 (lenR l)),(cutH A (fA l A 0 (lenR l)),lenR l))]) [] (List.replicate l.length []) ([]++A.flatMap (gA l A 0 (lenR l))) 2 qBa (by simp) (by rw [qB4];omega) rfl
 have hlL:(dvM l 3 (lftS A (fA l A 0 (lenR l))) 0 (cutH A (fA l A 0 (lenR l)))).2.length≤2*(lftS A (fA l A 0 (lenR l))).length*2:=ypD 2 _ _ _ (by rw [eL];omega) (by rw [eL];omega)
 obtain ⟨J3,M3,hM3,i2⟩:=h13 (a0:=a0) (a1:=a1) (x6:=x8) (x7:=x9) hd l0 [encT (A,((0:Rat),lenR l))] 2 (rgtS A (fA l A 0 (lenR l))) (cutH A (fA l A 0 (lenR l))) (lenR l) D' hr (by rw [eR];omega) (by omega) [] J2 (setP (List.replicate l.length []) (dvM l 3 (lftS A (fA l A 0 (lenR l))) 0 (cutH A (fA l A 0 (lenR l)))).1) ([]++A.flatMap (gA l A 0 (lenR l))++(dvM l 3 (lftS A (fA l A 0 (lenR l))) 0 (cutH A (fA l A 0 (lenR l)))).2) M2 (by rw [yjF];exact qBa) (by decide) (by rw [qAa,qB4];omega) hM2
 have hM3:J3.length=M3:=hM3
 refine ⟨J3,M3,hM3,?_⟩
 have e':∀ n,yaE a0 a1 yaz x8 x9 (n+1) l0 (rspL (dvX l)) [encT (A,((0:Rat),lenR l))] J3 l.length l.length l.length (cks l) (logs (dvL l)) 0 M3=x8 l0 (rspL (dvX l)) [encT (A,((0:Rat),lenR l))] J3 l.length l.length l.length (cks l) (logs (dvL l)) 0 M3 false:=fun n=>by
  conv=>lhs;unfold yaE
  rfl
 have eX:dvX l=setP (setP (List.replicate l.length []) (dvM l 3 (lftS A (fA l A 0 (lenR l))) 0 (cutH A (fA l A 0 (lenR l)))).1) (dvM l 3 (rgtS A (fA l A 0 (lenR l))) (cutH A (fA l A 0 (lenR l))) (lenR l)).1:=by
  unfold dvX
  rw [hAe,yud (by omega),yuf]
 have eG:dvL l=[]++A.flatMap (gA l A 0 (lenR l))++(dvM l 3 (lftS A (fA l A 0 (lenR l))) 0 (cutH A (fA l A 0 (lenR l)))).2++(dvM l 3 (rgtS A (fA l A 0 (lenR l))) (cutH A (fA l A 0 (lenR l))) (lenR l)).2:=by
  unfold dvL
  rw [hAe,yud (by omega),qB4,qAf]
 have z:=(exS3 (P:=fun k=>yaE a0 a1 yaz x8 x9 k l0 (rspL (dvX l)) [encT (A,((0:Rat),lenR l))] J3 l.length l.length l.length (cks l) (logs (dvL l)) 0 M3) rfl (R:=fun _=>_) e').trans exC3
 unfold t0T
 rw [hAe]
 refine Eq.trans ?_ z
 rw [← eX,← eG] at i2
 refine (exS3 (P:=fun k=>ya8 a0 a1 yaz x6 x7 x8 x9 k l0 (rspL (List.replicate l.length [])) [encT (A,((0:Rat),lenR l))] l.length l.length l.length (cks l) [] 1 1) rfl (x12s l0 (rspL (List.replicate l.length [])) (cks l) [] (cks l) _ A _ _ 0 (lenR l) _ l.length (by omega) run)).trans ?_
 exact i1.trans i2
theorem yK2 (hd:DK l) (K:List PV→List PV→Int→Prop):yga (cks l) K=K (rspL (dvX l)) (logs (dvL l)) 0:=by
 have n0:=hd.n0
 have n6:=hd.n6
 unfold yga yiy
 rw [yFc hd.fin (by omega),if_pos (hd.err (by omega))]
 dsimp only [lt,Go.Pf.jn]
 rw [cnF rfl,ybb]
 refine (asTT (decide_eq_true (by omega))).trans ?_
 rw [yc8 n0]
 refine (asTT rfl).trans ?_
 rw [yzz,yzz]
 refine (hr00 n0 (by omega) (cks l) (cks l) [] 0 1 _ 1).trans ?_
 have lr:((List.range l.length).map encV).length=l.length:=by rw [qAe,qBo]
 rw [ybb,lr,qAt (by rw [lr];exact qAj _),yFq]
 refine (asTT (decide_eq_true (by omega))).trans ?_
 refine (asTT (decide_eq_true (by omega))).trans ?_
 refine (asTT (decide_eq_true (by unfold room;omega))).trans ?_
 refine (asTT (by simp)).trans ?_
 refine (asTT (by simp)).trans ?_
 refine (asTT rfl).trans ?_
 have lX:(rspL (dvX l)).length=l.length:=by rw [ylL,yDm]
 by_cases h1:l.length=1
 ·refine (x12a h1 ((List.range l.length).map encV)).trans ?_
  refine (asTT (decide_eq_true lX)).trans ?_
  refine (asTT (by simp)).trans ?_
  rw [qAt (by omega)]
 ·obtain ⟨J,M,hJ,e⟩:=x12b hd (by omega) ((List.range l.length).map encV)
  refine e.trans ?_
  refine (asTT (decide_eq_true lX)).trans ?_
  refine (asTT (by simp)).trans ?_
  rw [qAt (by omega)]
end
set_option maxHeartbeats 1000000
section
variable {α:Type} (f:α→PV)
theorem getG (R:List α) (x:α) (B:List α) {k:Nat} (h:k=R.length):List.getD ((R.reverse++x::B).map f) k .nils=f x:=by
 subst h
 rw [qAb,qA4,List.getElem?_append_right (by rw [qAp];exact qAj _),qAp,Nat.sub_self]
 rfl
theorem yLn (R:List α) (y x:α) (B:List α) {k:Nat} (h:k=R.length+1):List.getD ((R.reverse++y::x::B).map f) k .nils=f x:=by
 have:=getG f (y::R) x B (k:=k) (by rw [h];rfl)
 rw [qAw,qAf] at this
 exact this
theorem setG (R:List α) (y x:α) (B:List α):List.set (List.set ((R.reverse++y::x::B).map f) R.length (f x)) (R.length+1) (f y)=(R.reverse++x::y::B).map f:=by
 rw [← List.map_set,← List.map_set,List.set_append_right _ _ (by rw [qAp];exact qAj _),qAp,List.set_append_right _ _ (by rw [qAp];omega),qAp]
 simp
theorem lenG (R:List α) (y x:α) (B:List α):((R.reverse++y::x::B).map f).length=R.length+(B.length+2):=by rw [qAe,qAa,qAp];rfl
end
def encM (h:Nat×Rat):PV:=.agg [.int .i64 h.2.num,.int .i64 (h.2.den:Int),.int .i64 h.1]
theorem sV1 (R:List Nat) (y x:Nat) (B:List Nat) {x0} (l1:List PV) (b:Int) (hl:R.length+(B.length+2)<4611686018427387904) (n:Nat) :
  ya3 x0 (n+1) ((R.reverse++y::x::B).map encV) l1 b ((R.length:Int)+1) =
  cbr (ltV x y) (ya3 x0 n ((R.reverse++x::y::B).map encV) l1 b (R.length:Int)) (x0 ((R.reverse++y::x::B).map encV) l1 b ((R.length:Int)+1) false):=by
 have gx:List.getD ((R.reverse++y::x::B).map encV) (0+((R.length:Int)+1).toNat) .nils=encV x:=yLn encV _ _ _ _ (by omega)
 have gy:List.getD ((R.reverse++y::x::B).map encV) (0+(R.length:Int).toNat) .nils=encV y:=getG encV _ _ _ (by omega)
 have w:IntKind.i64.wrap ((R.length:Int)+1-1)=(R.length:Int):=by rw [wib (by omega) (by omega)];omega
 have hlen:=lenG encV R y x B
 conv=>lhs;unfold ya3
 dsimp only [lt,Go.Pf.jn]
 rw [cbT (by omega),w,gx,gy]
 iterate 4 refine (asTT (by first | rfl | exact decide_eq_true (by rw [hlen];omega) | exact decide_eq_true (by omega))).trans ?_
 refine (asTT rfl).trans ?_
 iterate 4 refine (asTT (by first | rfl | exact decide_eq_true (by rw [hlen];omega) | exact decide_eq_true (by omega))).trans ?_
 refine (asTT rfl).trans ?_
 show cbr (ltV x y) _ _=_
 refine congrArg (fun z=>cbr (ltV x y) z _) ?_
 have k1:0+((R.length:Int)+1).toNat=R.length+1:=by omega
 have k0:0+(R.length:Int).toNat=R.length:=by omega
 have gs:List.getD (List.set ((R.reverse++y::x::B).map encV) R.length (encV x)) (R.length+1) .nils=encV x:=by
  rw [qAb,qA9 (by omega),← qAb]
  rw [← gx,k1]
 have hcf:conf zI (List.getD (List.set ((R.reverse++y::x::B).map encV) R.length (encV x)) (R.length+1) .nils)=true:=by rw [gs];rfl
 have hs:(List.set ((R.reverse++y::x::B).map encV) R.length (encV x)).length=R.length+(B.length+2):=by rw [qBj,hlen]
 have hss:(List.set (List.set ((R.reverse++y::x::B).map encV) R.length (encV x)) (R.length+1) (encV y)).length=R.length+(B.length+2):=by rw [qBj,hs]
 rw [k1,k0]
 iterate 4 refine (asTT (by first | rfl | exact decide_eq_true (by rw [hlen];omega) | exact decide_eq_true (by omega))).trans ?_
 refine (asTT rfl).trans ?_
 iterate 4 refine (asTT (by first | rfl | exact decide_eq_true (by rw [hlen];omega) | exact decide_eq_true (by omega))).trans ?_
 refine (asTT rfl).trans ?_
 iterate 4 refine (asTT (by first | rfl | exact decide_eq_true (by rw [hlen];omega) | exact decide_eq_true (by omega))).trans ?_
 refine (asTT rfl).trans ?_
 iterate 4 refine (asTT (by first | rfl | exact decide_eq_true (by rw [hlen];omega) | exact decide_eq_true (by omega) | exact decide_eq_true (hs.trans hlen.symm) | exact decide_eq_true (by show _<(List.set _ _ (encV x)).length;rw [hs];omega))).trans ?_
 refine (asTT hcf).trans ?_
 have ee:decide ((List.map encV (R.reverse++y::x::B)).length=(List.set (List.set ((R.reverse++y::x::B).map encV) R.length (encV x)) (R.length+1) (encV y)).length)=true:=decide_eq_true (hlen.trans hss.symm)
 refine (asTT (by rw [qAg];exact ⟨ee,ee⟩)).trans ?_
 have e:=setG encV R y x B
 show ya3 _ _ (List.set (List.set ((R.reverse++y::x::B).map encV) R.length (encV x)) (R.length+1) (encV y)) _ _ _=_
 rw [e]
theorem sVz (x:Nat) (B:List Nat) {x0} (l1:List PV) (b:Int) (n:Nat):ya3 x0 (n+1) ((x::B).map encV) l1 b 0=x0 ((x::B).map encV) l1 b 0 false:=by
 conv=>lhs;unfold ya3
 dsimp only [lt,Go.Pf.jn]
 rw [cbF (by omega),yad]
theorem sV {x0} (l1:List PV) (b:Int) {Y:List PV→Prop} (hX:∀ v j,x0 v l1 b j false=Y v):∀ (R:List Nat) (x:Nat) (B:List Nat),R.length+(B.length+1)<4611686018427387904 →
  (∃ n,ya3 x0 n ((R.reverse++x::B).map encV) l1 b (R.length:Int))=Y (((insV ltV R x).reverse++B).map encV)
 | [],x,B,hl=>by
  rw [exS3 rfl (R:=fun _=>x0 ((x::B).map encV) l1 b 0 false) (fun n=>sVz x B l1 b n),exC3,hX]
  rfl
 | y::R,x,B,hl=>by
  have e1:(y::R).reverse++x::B=R.reverse++y::x::B:=by rw [qAw,qAf];rfl
  have e2:(((y::R).length:Nat):Int)=(R.length:Int)+1:=by simp
  rw [qAk] at hl
  rw [e1,e2]
  have ih:=sV l1 b hX R x (y::B) (by rw [qAk];omega)
  cases ht:ltV x y with
  | true =>
   rw [exS3 rfl (R:=fun n=>ya3 x0 n ((R.reverse++x::y::B).map encV) l1 b (R.length:Int)) (fun n=>by rw [sV1 R y x B l1 b (by omega) n,ht,yag]),ih]
   rw [show insV ltV (y::R) x=y::insV ltV R x by (show (bif ltV x y then _ else _)=_;rw [ht];rfl),qAw,qAf]
   rfl
  | false =>
   rw [exS3 rfl (R:=fun _=>x0 ((R.reverse++y::x::B).map encV) l1 b ((R.length:Int)+1) false) (fun n=>by rw [sV1 R y x B l1 b (by omega) n,ht,yad]),exC3,hX]
   rw [show insV ltV (y::R) x=x::y::R by (show (bif ltV x y then _ else _)=_;rw [ht];rfl),qAw,qAw,qAf,qAf]
   rfl
theorem sV01 {x1} {N:Nat} (hN:N≤100):∀ (Q P:List (Nat×Rat)) (R:List Nat),P.length+Q.length=N→R.length=P.length →
  (∃ n,ybf x1 n (R.reverse.map encV) ((P++Q).map encM) (P.length:Int))=x1 ((allV ltV R (Q.map Prod.fst)).reverse.map encV) ((P++Q).map encM) (N:Int) false
 | [],P,R,h,hR=>by
  rw [qBd] at h
  have e:∀ n,ybf x1 (n+1) (R.reverse.map encV) ((P++[]).map encM) (P.length:Int)=x1 ((allV ltV R (([]:List (Nat×Rat)).map Prod.fst)).reverse.map encV) ((P++[]).map encM) (N:Int) false:=fun n=>by
   conv=>lhs;unfold ybf
   rw [cbF (by rw [qAe,qAy];omega),show (P.length:Int)=(N:Int) by omega]
   rfl
  rw [exS3 rfl (R:=fun _=>_) e,exC3]
 | c::Q,P,R,h,hR=>by
  rw [qAk] at h
  have hr:=yfu ltV c.1 R
  have ih:=sV01 (x1:=x1) hN Q (P++[c]) (insV ltV R c.1) (by rw [qAa,qAi];omega) (by rw [qAa,qAi];omega)
  rw [qAf,qAa,qAi] at ih
  have gt:List.getD ((P++c::Q).map encM) (P.length:Int).toNat .nils=encM c:=getP encM P c Q (by omega)
  have hlen:((P++c::Q).map encM).length=N:=by rw [qAe,qAa,qAk];omega
  have lR:(R.reverse.map encV).length=R.length:=by rw [qAe,qAp]
  have w:IntKind.i64.wrap ((P.length:Int)+1)=((P.length+1:Nat):Int):=by rw [wib (by omega) (by omega)];omega
  have lR1:(R.reverse.map encV++[encV c.1]).length=R.length+1:=by rw [qAa,lR];rfl
  have w2:IntKind.i64.wrap ((((R.reverse.map encV++[encV c.1]).length:Nat):Int)-1)=(R.length:Int):=by rw [lR1,wib (by omega) (by omega)];omega
  have eR:R.reverse.map encV++[encV c.1]=(R.reverse++c.1::[]).map encV:=by rw [qBq];rfl
  have e:∀ n,ybf x1 (n+1) (R.reverse.map encV) ((P++c::Q).map encM) (P.length:Int)=ybf x1 n ((insV ltV R c.1).reverse.map encV) ((P++c::Q).map encM) ((P.length+1:Nat):Int):=fun n=>by
   conv=>lhs;unfold ybf
   dsimp only [lt,Go.Pf.jn]
   rw [gt]
   refine (cbYY (decide_eq_true (by rw [hlen];omega))).trans ?_
   refine (asTT (decide_eq_true (by omega))).trans ?_
   refine (asTT (decide_eq_true (by rw [hlen];omega))).trans ?_
   refine (asTT rfl).trans ?_
   refine (asTT (by simp)).trans ?_
   refine (asTT (by simp)).trans ?_
   refine (asTT (by simp)).trans ?_
   refine (asTT (by simp)).trans ?_
   refine (asTT (decide_eq_true (by rw [lR];unfold room;omega))).trans ?_
   refine (asTT (by simp)).trans ?_
   show (∃ k,ya3 _ k (R.reverse.map encV++[encV c.1]) _ _ (IntKind.i64.wrap ((((R.reverse.map encV++[encV c.1]).length:Nat):Int)-1)))=_
   rw [w2,eR]
   refine (sV (Y:=fun v=>ybf x1 n v ((P++c::Q).map encM) ((P.length+1:Nat):Int)) ((P++c::Q).map encM) (P.length:Int) (fun v j=>?_) R c.1 [] (by rw [qBd];omega)).trans ?_
   ·rw [w]
    exact asTT (by simp)
   ·rw [qAy]
  rw [exS3 rfl (R:=fun _=>_) e]
  exact ih
theorem yHG (H:List (Nat×Rat)) (h:H.length≤100) (K:List PV→Prop):yix (H.map encM) K=K ((yjE ltV (H.map Prod.fst)).map encV):=by
 unfold yix ykW
 match H,h with
 | [],_ =>
  have e:∀ {x0 x1},∀ n,yc4 x0 x1 (n+1) (([]:List (Nat×Rat)).map encM) 0=x0 [] 0 false:=fun n=>by
   conv=>lhs;unfold yc4
   rfl
  rw [exS3 rfl (R:=fun _=>_) e,exC3]
  rfl
 | c::Q,h =>
  rw [qAk] at h
  have ih:=fun {x1}=>sV01 (x1:=x1) (N:=Q.length+1) (by omega) Q [c] [c.1] (by rw [qAi];omega) rfl
  have e:∀ {x0 x1},∀ n,yc4 x0 x1 (n+1) ((c::Q).map encM) 0=ybf x1 n ([c.1].reverse.map encV) (([c]++Q).map encM) ((([c]:List (Nat×Rat)).length:Nat):Int):=fun {x0 x1} n=>by
   conv=>lhs;unfold yc4
   dsimp only [lt,Go.Pf.jn]
   refine (cbYY (decide_eq_true (by rw [qAe,qAk];omega))).trans ?_
   refine (asTT rfl).trans ?_
   refine (asTT (decide_eq_true (by rw [qAe,qAk];omega))).trans ?_
   refine (asTT rfl).trans ?_
   refine (asTT rfl).trans ?_
   refine (sV (Y:=fun v=>ybf x1 n v (([c]++Q).map encM) ((1:Nat):Int)) ((c::Q).map encM) 0 (fun v j=>?_) [] c.1 [] (by decide)).trans ?_
   ·exact asTT (by simp)
   ·rfl
  rw [exS3 rfl (R:=fun _=>_) e,ih]
  refine (asTT (by simp)).trans ?_
  refine (asTT (by simp)).trans ?_
  rw [qAt (qAj _)]
  rfl
set_option maxHeartbeats 1000000
section
variable {l:List Ck}
theorem yJ3 (hd:DK l) {a:Nat} (ha:a<l.length) {q v:Rat} (hs:small q) (q0:0≤q) (q1:q≤lenR l) (hv:small v) (v0:0≤v) {D:Int} (h:MkV l a q v D) {lg:List Qy} (hm:lg.length<2000) (K:List PV→List PV→Int→Int→Int→Prop) :
  ybd (cks l) (logs lg) a q.num q.den v.num v.den K=K (cks l) (logs (lg++[mkQ a q v (mkV l a q v)])) (mkV l a q v).num (mkV l a q v).den 0:=by
 have n6:=hd.n6
 rw [yJQ hd.fin (by omega) (ylK lg) hs.i1 hs.i2 hv.i1 hv.i2]
 have k:=yBj hd ha hs q0 q1 hv v0 h hm K
 rw [yFe hd.fin (by omega) (ylK lg) hs.i1 hs.i2 hv.i1 hv.i2] at k
 exact k
theorem yHH (hd:DK l) {a:Nat} (ha:a<l.length) {q p:Rat} (hs:small q) (hp:small p) (q0:0≤q) (qp:q≤p) (p1:p≤lenR l) {D:Int} (hD:1≤D∧D≤50000000000000) (hq:In D q) (hpD:In D p) {lg:List Qy} (hm:lg.length<2000) (K:List PV→List PV→Int→Int→Int→Prop) :
  yaV (cks l) (logs lg) a q.num q.den p.num p.den K=K (cks l) (logs (lg++[vlQ l a q p])) (vXA l a p-vXA l a q).num (vXA l a p-vXA l a q).den 0:=by
 rw [yIC hd hs.i1 hs.i2 lg hp,(yBi hd ha hs hp q0 qp p1 hD hq hpD (m:=lg.length) hm).1]
 rfl
end
theorem yLX {x y:Nat×Rat} (hx:small x.2) (hy:small y.2) (K:Bool→Prop):yaC x.2.num x.2.den y.2.num y.2.den K=K (ltH x y):=by
 rw [yhK hx hy]
 exact congrArg K (yzw _ _).symm
section
variable {b0:Int→Int→(Int→Int→Int→Prop)→Prop} {b1:Int→(Int→Int→Prop)→Prop} {b2:Int→List PV→List PV→(Int→Prop)→Prop} {b3 b5:List PV→List PV→Int→Int→Int→Int→Int→(List PV→List PV→Int→Int→Int→Prop)→Prop} {b4:Int→Int→Int→Int→(Int→Int→Int→Prop)→Prop}
theorem mM1 (R:List (Nat×Rat)) (y x:Nat×Rat) (B:List (Nat×Rat)) {x0} (l1 l2 l3:List PV) (i4 i5 i6 i7 i8 i9 i10 i11 b:Int) (hl:R.length+(B.length+2)<4611686018427387904) (hx:small x.2) (hy:small y.2) (n:Nat) :
  yaK b0 b1 b2 b3 b4 b5 yaC x0 (n+1) ((R.reverse++y::x::B).map encM) l1 l2 l3 i4 i5 i6 i7 i8 i9 i10 i11 b ((R.length:Int)+1) =
  cbr (ltH x y) (yaK b0 b1 b2 b3 b4 b5 yaC x0 n ((R.reverse++x::y::B).map encM) l1 l2 l3 i4 i5 i6 i7 i8 i9 i10 i11 b (R.length:Int)) (x0 ((R.reverse++y::x::B).map encM) l1 l2 l3 i4 i5 i6 i7 i8 i9 i10 i11 b ((R.length:Int)+1) false):=by
 have gx:List.getD ((R.reverse++y::x::B).map encM) (0+((R.length:Int)+1).toNat) .nils=encM x:=yLn encM _ _ _ _ (by omega)
 have gy:List.getD ((R.reverse++y::x::B).map encM) (0+(R.length:Int).toNat) .nils=encM y:=getG encM _ _ _ (by omega)
 have w:IntKind.i64.wrap ((R.length:Int)+1-1)=(R.length:Int):=by rw [wib (by omega) (by omega)];omega
 have hlen:=lenG encM R y x B
 conv=>lhs;unfold yaK
 dsimp only [lt,Go.Pf.jn]
 rw [cbT (by omega),w,gx,gy]
 iterate 4 refine (asTT (by first | rfl | exact decide_eq_true (by rw [hlen];omega) | exact decide_eq_true (by omega))).trans ?_
 refine (asTT rfl).trans ?_
 iterate 4 refine (asTT (by first | rfl | exact decide_eq_true (by rw [hlen];omega) | exact decide_eq_true (by omega))).trans ?_
 refine (asTT rfl).trans ?_
 refine (yLX hx hy _).trans ?_
 refine congrArg (fun z=>cbr (ltH x y) z _) ?_
 have k1:0+((R.length:Int)+1).toNat=R.length+1:=by omega
 have k0:0+(R.length:Int).toNat=R.length:=by omega
 have gs:List.getD (List.set ((R.reverse++y::x::B).map encM) R.length (encM x)) (R.length+1) .nils=encM x:=by
  rw [qAb,qA9 (by omega),← qAb]
  rw [← gx,k1]
 have hcf:conf (.agg [.i .i64,.i .i64,.i .i64]) (List.getD (List.set ((R.reverse++y::x::B).map encM) R.length (encM x)) (R.length+1) .nils)=true:=by rw [gs];rfl
 have hs:(List.set ((R.reverse++y::x::B).map encM) R.length (encM x)).length=R.length+(B.length+2):=by rw [qBj,hlen]
 have hss:(List.set (List.set ((R.reverse++y::x::B).map encM) R.length (encM x)) (R.length+1) (encM y)).length=R.length+(B.length+2):=by rw [qBj,hs]
 rw [k1,k0]
 iterate 4 refine (asTT (by first | rfl | exact decide_eq_true (by rw [hlen];omega) | exact decide_eq_true (by omega))).trans ?_
 refine (asTT rfl).trans ?_
 iterate 4 refine (asTT (by first | rfl | exact decide_eq_true (by rw [hlen];omega) | exact decide_eq_true (by omega))).trans ?_
 refine (asTT rfl).trans ?_
 iterate 4 refine (asTT (by first | rfl | exact decide_eq_true (by rw [hlen];omega) | exact decide_eq_true (by omega))).trans ?_
 refine (asTT rfl).trans ?_
 iterate 4 refine (asTT (by first | rfl | exact decide_eq_true (by rw [hlen];omega) | exact decide_eq_true (by omega) | exact decide_eq_true (hs.trans hlen.symm) | exact decide_eq_true (by show _<(List.set _ _ (encM x)).length;rw [hs];omega))).trans ?_
 refine (asTT hcf).trans ?_
 have ee:decide ((List.map encM (R.reverse++y::x::B)).length=(List.set (List.set ((R.reverse++y::x::B).map encM) R.length (encM x)) (R.length+1) (encM y)).length)=true:=decide_eq_true (hlen.trans hss.symm)
 refine (asTT (by rw [qAg];exact ⟨ee,ee⟩)).trans ?_
 have e:=setG encM R y x B
 show yaK _ _ _ _ _ _ _ _ _ (List.set (List.set ((R.reverse++y::x::B).map encM) R.length (encM x)) (R.length+1) (encM y)) _ _ _ _ _ _ _ _ _ _ _ _ _=_
 rw [e]
theorem mMz (x:Nat×Rat) (B:List (Nat×Rat)) {b6 x0} (l1 l2 l3:List PV) (i4 i5 i6 i7 i8 i9 i10 i11 b:Int) (n:Nat):yaK b0 b1 b2 b3 b4 b5 b6 x0 (n+1) ((x::B).map encM) l1 l2 l3 i4 i5 i6 i7 i8 i9 i10 i11 b 0=x0 ((x::B).map encM) l1 l2 l3 i4 i5 i6 i7 i8 i9 i10 i11 b 0 false:=by
 conv=>lhs;unfold yaK
 dsimp only [lt,Go.Pf.jn]
 rw [cbF (by omega),yad]
theorem mM {x0} (l1 l2 l3:List PV) (i4 i5 i6 i7 i8 i9 i10 i11 b:Int) {Y:List PV→Prop} (hX:∀ v j,x0 v l1 l2 l3 i4 i5 i6 i7 i8 i9 i10 i11 b j false=Y v):∀ (R:List (Nat×Rat)) (x:Nat×Rat) (B:List (Nat×Rat)),R.length+(B.length+1)<4611686018427387904→small x.2→(∀ y∈R,small y.2) →
  (∃ n,yaK b0 b1 b2 b3 b4 b5 yaC x0 n ((R.reverse++x::B).map encM) l1 l2 l3 i4 i5 i6 i7 i8 i9 i10 i11 b (R.length:Int))=Y (((insV ltH R x).reverse++B).map encM)
 | [],x,B,hl,_,_=>by
  rw [exS3 rfl (R:=fun _=>x0 ((x::B).map encM) l1 l2 l3 i4 i5 i6 i7 i8 i9 i10 i11 b 0 false) (fun n=>mMz x B l1 l2 l3 i4 i5 i6 i7 i8 i9 i10 i11 b n),exC3,hX]
  rfl
 | y::R,x,B,hl,hx,hR=>by
  have e1:(y::R).reverse++x::B=R.reverse++y::x::B:=by rw [qAw,qAf];rfl
  have e2:(((y::R).length:Nat):Int)=(R.length:Int)+1:=by simp
  rw [qAk] at hl
  rw [e1,e2]
  have hy:=hR y qAx
  have ih:=mM l1 l2 l3 i4 i5 i6 i7 i8 i9 i10 i11 b hX R x (y::B) (by rw [qAk];omega) hx (fun z hz=>hR z (qAo _ hz))
  cases ht:ltH x y with
  | true =>
   rw [exS3 rfl (R:=fun n=>yaK b0 b1 b2 b3 b4 b5 yaC x0 n ((R.reverse++x::y::B).map encM) l1 l2 l3 i4 i5 i6 i7 i8 i9 i10 i11 b (R.length:Int)) (fun n=>by rw [mM1 R y x B l1 l2 l3 i4 i5 i6 i7 i8 i9 i10 i11 b (by omega) hx hy n,ht,yag]),ih]
   rw [show insV ltH (y::R) x=y::insV ltH R x by (show (bif ltH x y then _ else _)=_;rw [ht];rfl),qAw,qAf]
   rfl
  | false =>
   rw [exS3 rfl (R:=fun _=>x0 ((R.reverse++y::x::B).map encM) l1 l2 l3 i4 i5 i6 i7 i8 i9 i10 i11 b ((R.length:Int)+1) false) (fun n=>by rw [mM1 R y x B l1 l2 l3 i4 i5 i6 i7 i8 i9 i10 i11 b (by omega) hx hy n,ht,yad]),exC3,hX]
   rw [show insV ltH (y::R) x=x::y::R by (show (bif ltH x y then _ else _)=_;rw [ht];rfl),qAw,qAw,qAf,qAf]
   rfl
end
set_option maxHeartbeats 1000000
section
variable {l:List Ck} {A:List Nat} {q p:Rat} {D:Int}
theorem rOf9 (n:Int) (K:Int→Int→Prop):ybn n K=K n 1:=rfl
theorem yDn {a:Nat} (h:hAsk l q p=true) (lg:List Qy):logs (lg++[vlQ l a q p]++[mkQ a q ((vXA l a p-vXA l a q)*yaH A) (mkV l a q ((vXA l a p-vXA l a q)*yaH A))])=logs (lg++gA l A q p a):=by
 unfold gA hLog
 rw [h,cond_true,qAf]
theorem yLo {a:Nat} (h:hAsk l q p=false) (lg:List Qy):logs (lg++[mkQ a q ((vXA l a p-vXA l a q)*yaH A) (mkV l a q ((vXA l a p-vXA l a q)*yaH A))])=logs (lg++gA l A q p a):=by
 unfold gA hLog
 rw [h,cond_false,qB4]
theorem mk9z (hd:DK l) (h:HV l A q p D) (h2:2≤A.length) {Q:List Nat} {a:Nat} (hA:A=a::Q) (lg:List Qy) (hm:lg.length+2≤2000) {x0 x1 x2 x3} (n:Nat) :
  yfB ybp ybn ya2 yaV ybe ybd yaC x0 x1 x2 x3 (n+1) (A.map encV) (cks l) (logs lg) q.num q.den p.num p.den (yaH A).num (yaH A).den (l.getD 0 default).len 1 0=yaQ ybp ybn ya2 yaV ybe ybd yaC x2 x3 n ((insV ltH [] (a,fA l A q p a)).reverse.map encM) (A.map encV) (cks l) (logs (lg++gA l A q p a)) q.num q.den p.num p.den (yaH A).num (yaH A).den (l.getD 0 default).len 1 ((1:Nat):Int):=by
 have n6:=hd.n6
 have l6:=h.len.2
 have ha:a∈A:=by rw [hA];simp
 have hal:=h.mem a ha
 have h0:0<l.length:=by omega
 obtain ⟨s1,s2,s3,s4,m⟩:=h.sm hd h2 ha
 have k:=ynf h2 l6
 have D1:=h.D1
 have w0:0≤(vXA l a p-vXA l a q)*yaH A:=Rat.mul_nonneg (qA1 (h.pos a ha)) (qA1 k.2.1)
 have sf:small (fA l A q p a):=yFo hd h h2 a ha
 have mul:∀ K,ybe (vXA l a p-vXA l a q).num (vXA l a p-vXA l a q).den (yaH A).num (yaH A).den K=K ((vXA l a p-vXA l a q)*yaH A).num ((vXA l a p-vXA l a q)*yaH A).den 0:=fun K=>(yxs s3 k.1 K).trans (by rw [ycp,if_pos s4])
 have mk:∀ (lg':List Qy) (K),lg'.length<2000→ybd (cks l) (logs lg') a q.num q.den ((vXA l a p-vXA l a q)*yaH A).num ((vXA l a p-vXA l a q)*yaH A).den K=K (cks l) (logs (lg'++[mkQ a q ((vXA l a p-vXA l a q)*yaH A) (mkV l a q ((vXA l a p-vXA l a q)*yaH A))])) (fA l A q p a).num (fA l A q p a).den 0:=fun lg' K hm'=>yJ3 hd hal s1 h.q0 (Rat.le_trans (qA1 h.qp) h.p1) s4 w0 m hm' K
 have va:∀ K,yaV (cks l) (logs lg) a q.num q.den p.num p.den K=_:=fun K=>yHH hd hal s1 s2 h.q0 (qA1 h.qp) h.p1 ⟨D1.1,by omega⟩ h.iq h.ip (by omega) K
 have hlen:(A.map encV).length=Q.length+1:=by rw [qAe,hA];rfl
 have gt:List.getD (A.map encV) ((0:Int)).toNat .nils=encV a:=by rw [hA];rfl
 have gc:List.getD (cks l) ((yaa (encV a)).toNat) .nils=encC (l.getD a default):=yc8 (i:=(yaa (encV a)).toNat) (show (a:Int).toNat<l.length by omega)
 conv=>lhs;unfold yfB
 dsimp only [lt,Go.Pf.jn]
 rw [gt]
 refine (cbYY (decide_eq_true (by rw [hlen];omega))).trans ?_
 refine (asTT (decide_eq_true (by omega))).trans ?_
 refine (asTT (decide_eq_true (by rw [hlen];omega))).trans ?_
 refine (asTT rfl).trans ?_
 refine (asTT (decide_eq_true (show (0:Int)≤(a:Int) by omega))).trans ?_
 refine (asTT (decide_eq_true (show (a:Int)<(((cks l).length:Nat):Int) by rw [ybb];omega))).trans ?_
 rw [gc]
 refine (asTT rfl).trans ?_
 refine (yBd (hd.ok a hal) _).trans ?_
 refine (rOf9 _ _).trans ?_
 by_cases hq0:q.num=0
 ·refine (cnF hq0).trans ?_
  have lnum:(lenR l).num=(l.getD 0 default).len:=qB7 _
  have lden:(((lenR l).den:Nat):Int)=1:=by unfold lenR;rw [qB8];rfl
  have e1:((p.num ==(l.getD 0 default).len)&&(((p.den:Int) == 1)&&true))=decide (p=lenR l):=by
   have:=yJ0 (q:=p) (r:=lenR l)
   rw [lnum,lden] at this
   exact this
  by_cases he:p=lenR l
  ·have hz:q=0:=Rat.num_eq_zero.1 hq0
   have ev:vXA l a p-vXA l a q=totR l a:=by rw [he,hz,tot3 hd hal]
   have en:(vXA l a p-vXA l a q).num=totC (l.getD a default).cuts (l.getD a default).dens:=by rw [ev];exact qB7 _
   have ed:(((vXA l a p-vXA l a q).den:Nat):Int)=1:=by rw [ev];unfold totR;rw [qB8];rfl
   have mul0:∀ K,ybe (totC (l.getD a default).cuts (l.getD a default).dens) 1 (yaH A).num (yaH A).den K=K ((vXA l a p-vXA l a q)*yaH A).num ((vXA l a p-vXA l a q)*yaH A).den 0:=fun K=>by
    have:=mul K
    rw [en,ed] at this
    exact this
   have hh:hAsk l q p=false:=by unfold hAsk;rw [decide_eq_false (by omega),decide_eq_true he];rfl
   refine (cbNN (by rw [e1,decide_eq_true he];rfl)).trans ?_
   refine (cbYY rfl).trans ?_
   refine (mul0 _).trans ?_
   refine (asTT (decide_eq_true (by omega))).trans ?_
   refine (asTT (decide_eq_true (by rw [hlen];omega))).trans ?_
   refine (asTT rfl).trans ?_
   refine (cbYY rfl).trans ?_
   refine (asTT (decide_eq_true (by omega))).trans ?_
   refine (asTT (decide_eq_true (by rw [hlen];omega))).trans ?_
   refine (asTT rfl).trans ?_
   refine (mk lg _ (by first | omega | (rw [qAa,qAi];omega))).trans ?_
   refine (cnF rfl).trans ?_
   rw [yLo hh]
   refine (asTT (by simp)).trans ?_
   show (∃ k,yaK _ _ _ _ _ _ _ _ k ((([]:List (Nat×Rat)).reverse++(a,fA l A q p a)::[]).map encM) _ _ _ _ _ _ _ _ _ _ _ _ (((([]:List (Nat×Rat)).length:Nat)):Int))=_
   refine (mM (Y:=fun v=>yaQ ybp ybn ya2 yaV ybe ybd yaC x2 x3 n v (A.map encV) (cks l) (logs (lg++gA l A q p a)) q.num q.den p.num p.den (yaH A).num (yaH A).den (l.getD 0 default).len 1 ((1:Nat):Int)) _ _ _ _ _ _ _ _ _ _ _ _ (fun v j=>?_) [] (a,fA l A q p a) [] (by decide) sf (fun y hy=>by cases hy)).trans ?_
   ·exact asTT (by simp)
   ·rw [qAy]
  ·have hh:hAsk l q p=true:=by unfold hAsk;rw [decide_eq_false he,qA3,Bool.or_true]
   refine (cbYY (by rw [e1,decide_eq_false he];rfl)).trans ?_
   refine (asTT (decide_eq_true (by omega))).trans ?_
   refine (asTT (decide_eq_true (by rw [hlen];omega))).trans ?_
   refine (asTT rfl).trans ?_
   refine (va _).trans ?_
   refine (cbYY rfl).trans ?_
   refine (mul _).trans ?_
   refine (asTT (decide_eq_true (by omega))).trans ?_
   refine (asTT (decide_eq_true (by rw [hlen];omega))).trans ?_
   refine (asTT rfl).trans ?_
   refine (cbYY rfl).trans ?_
   refine (asTT (decide_eq_true (by omega))).trans ?_
   refine (asTT (decide_eq_true (by rw [hlen];omega))).trans ?_
   refine (asTT rfl).trans ?_
   refine (mk (lg++[vlQ l a q p]) _ (by first | omega | (rw [qAa,qAi];omega))).trans ?_
   refine (cnF rfl).trans ?_
   rw [yDn hh]
   refine (asTT (by simp)).trans ?_
   show (∃ k,yaK _ _ _ _ _ _ _ _ k ((([]:List (Nat×Rat)).reverse++(a,fA l A q p a)::[]).map encM) _ _ _ _ _ _ _ _ _ _ _ _ (((([]:List (Nat×Rat)).length:Nat)):Int))=_
   refine (mM (Y:=fun v=>yaQ ybp ybn ya2 yaV ybe ybd yaC x2 x3 n v (A.map encV) (cks l) (logs (lg++gA l A q p a)) q.num q.den p.num p.den (yaH A).num (yaH A).den (l.getD 0 default).len 1 ((1:Nat):Int)) _ _ _ _ _ _ _ _ _ _ _ _ (fun v j=>?_) [] (a,fA l A q p a) [] (by decide) sf (fun y hy=>by cases hy)).trans ?_
   ·exact asTT (by simp)
   ·rw [qAy]
 ·have hq1:q.num>0:=by have:=Rat.num_nonneg.2 h.q0;omega
  have hh:hAsk l q p=true:=by unfold hAsk;rw [decide_eq_true hq1];rfl
  refine (cnT hq0).trans ?_
  refine (cbYY rfl).trans ?_
  refine (asTT (decide_eq_true (by omega))).trans ?_
  refine (asTT (decide_eq_true (by rw [hlen];omega))).trans ?_
  refine (asTT rfl).trans ?_
  refine (va _).trans ?_
  refine (cbYY rfl).trans ?_
  refine (mul _).trans ?_
  refine (asTT (decide_eq_true (by omega))).trans ?_
  refine (asTT (decide_eq_true (by rw [hlen];omega))).trans ?_
  refine (asTT rfl).trans ?_
  refine (cbYY rfl).trans ?_
  refine (asTT (decide_eq_true (by omega))).trans ?_
  refine (asTT (decide_eq_true (by rw [hlen];omega))).trans ?_
  refine (asTT rfl).trans ?_
  refine (mk (lg++[vlQ l a q p]) _ (by first | omega | (rw [qAa,qAi];omega))).trans ?_
  refine (cnF rfl).trans ?_
  rw [yDn hh]
  refine (asTT (by simp)).trans ?_
  show (∃ k,yaK _ _ _ _ _ _ _ _ k ((([]:List (Nat×Rat)).reverse++(a,fA l A q p a)::[]).map encM) _ _ _ _ _ _ _ _ _ _ _ _ (((([]:List (Nat×Rat)).length:Nat)):Int))=_
  refine (mM (Y:=fun v=>yaQ ybp ybn ya2 yaV ybe ybd yaC x2 x3 n v (A.map encV) (cks l) (logs (lg++gA l A q p a)) q.num q.den p.num p.den (yaH A).num (yaH A).den (l.getD 0 default).len 1 ((1:Nat):Int)) _ _ _ _ _ _ _ _ _ _ _ _ (fun v j=>?_) [] (a,fA l A q p a) [] (by decide) sf (fun y hy=>by cases hy)).trans ?_
  ·exact asTT (by simp)
  ·rw [qAy]
theorem mk9s (hd:DK l) (h:HV l A q p D) (h2:2≤A.length) {P Q:List Nat} {a:Nat} {R:List (Nat×Rat)} (hA:A=P++a::Q) (hR:∀ y∈R,small y.2) (hRl:R.length≤100) (lg:List Qy) (hm:lg.length+2≤2000) {x2 x3} (n:Nat) :
  yaQ ybp ybn ya2 yaV ybe ybd yaC x2 x3 (n+1) (R.reverse.map encM) (A.map encV) (cks l) (logs lg) q.num q.den p.num p.den (yaH A).num (yaH A).den (l.getD 0 default).len 1 (P.length:Int)=yaQ ybp ybn ya2 yaV ybe ybd yaC x2 x3 n ((insV ltH R (a,fA l A q p a)).reverse.map encM) (A.map encV) (cks l) (logs (lg++gA l A q p a)) q.num q.den p.num p.den (yaH A).num (yaH A).den (l.getD 0 default).len 1 ((P.length+1:Nat):Int):=by
 have n6:=hd.n6
 have l6:=h.len.2
 have ha:a∈A:=by rw [hA];simp
 have hal:=h.mem a ha
 have h0:0<l.length:=by omega
 obtain ⟨s1,s2,s3,s4,m⟩:=h.sm hd h2 ha
 have k:=ynf h2 l6
 have D1:=h.D1
 have w0:0≤(vXA l a p-vXA l a q)*yaH A:=Rat.mul_nonneg (qA1 (h.pos a ha)) (qA1 k.2.1)
 have sf:small (fA l A q p a):=yFo hd h h2 a ha
 have mul:∀ K,ybe (vXA l a p-vXA l a q).num (vXA l a p-vXA l a q).den (yaH A).num (yaH A).den K=K ((vXA l a p-vXA l a q)*yaH A).num ((vXA l a p-vXA l a q)*yaH A).den 0:=fun K=>(yxs s3 k.1 K).trans (by rw [ycp,if_pos s4])
 have mk:∀ (lg':List Qy) (K),lg'.length<2000→ybd (cks l) (logs lg') a q.num q.den ((vXA l a p-vXA l a q)*yaH A).num ((vXA l a p-vXA l a q)*yaH A).den K=K (cks l) (logs (lg'++[mkQ a q ((vXA l a p-vXA l a q)*yaH A) (mkV l a q ((vXA l a p-vXA l a q)*yaH A))])) (fA l A q p a).num (fA l A q p a).den 0:=fun lg' K hm'=>yJ3 hd hal s1 h.q0 (Rat.le_trans (qA1 h.qp) h.p1) s4 w0 m hm' K
 have va:∀ K,yaV (cks l) (logs lg) a q.num q.den p.num p.den K=_:=fun K=>yHH hd hal s1 s2 h.q0 (qA1 h.qp) h.p1 ⟨D1.1,by omega⟩ h.iq h.ip (by omega) K
 have hlA:A.length=P.length+(Q.length+1):=by rw [hA,qAa];rfl
 have hlen:(A.map encV).length=P.length+(Q.length+1):=by rw [qAe,hlA]
 have gt:List.getD (A.map encV) (P.length:Int).toNat .nils=encV a:=by rw [hA];exact getP encV P a Q (by omega)
 have lR:(R.reverse.map encM).length=R.length:=by rw [qAe,qAp]
 have lR1:(R.reverse.map encM++[encM (a,fA l A q p a)]).length=R.length+1:=by rw [qAa,lR];rfl
 have w2:IntKind.i64.wrap ((((R.reverse.map encM++[encM (a,fA l A q p a)]).length:Nat):Int)-1)=(R.length:Int):=by rw [lR1,wib (by omega) (by omega)];omega
 have eR:R.reverse.map encM++[encM (a,fA l A q p a)]=(R.reverse++(a,fA l A q p a)::[]).map encM:=by rw [qBq];rfl
 have w:IntKind.i64.wrap ((P.length:Int)+1)=((P.length+1:Nat):Int):=by rw [wib (by omega) (by omega)];omega
 have gc:List.getD (cks l) ((yaa (encV a)).toNat) .nils=encC (l.getD a default):=yc8 (i:=(yaa (encV a)).toNat) (show (a:Int).toNat<l.length by omega)
 conv=>lhs;unfold yaQ
 dsimp only [lt,Go.Pf.jn]
 rw [gt]
 refine (cbYY (decide_eq_true (by rw [hlen];omega))).trans ?_
 refine (asTT (decide_eq_true (by omega))).trans ?_
 refine (asTT (decide_eq_true (by rw [hlen];omega))).trans ?_
 refine (asTT rfl).trans ?_
 refine (asTT (decide_eq_true (show (0:Int)≤(a:Int) by omega))).trans ?_
 refine (asTT (decide_eq_true (show (a:Int)<(((cks l).length:Nat):Int) by rw [ybb];omega))).trans ?_
 rw [gc]
 refine (asTT rfl).trans ?_
 refine (yBd (hd.ok a hal) _).trans ?_
 refine (rOf9 _ _).trans ?_
 by_cases hq0:q.num=0
 ·refine (cnF hq0).trans ?_
  have lnum:(lenR l).num=(l.getD 0 default).len:=qB7 _
  have lden:(((lenR l).den:Nat):Int)=1:=by unfold lenR;rw [qB8];rfl
  have e1:((p.num ==(l.getD 0 default).len)&&(((p.den:Int) == 1)&&true))=decide (p=lenR l):=by
   have:=yJ0 (q:=p) (r:=lenR l)
   rw [lnum,lden] at this
   exact this
  by_cases he:p=lenR l
  ·have hz:q=0:=Rat.num_eq_zero.1 hq0
   have ev:vXA l a p-vXA l a q=totR l a:=by rw [he,hz,tot3 hd hal]
   have en:(vXA l a p-vXA l a q).num=totC (l.getD a default).cuts (l.getD a default).dens:=by rw [ev];exact qB7 _
   have ed:(((vXA l a p-vXA l a q).den:Nat):Int)=1:=by rw [ev];unfold totR;rw [qB8];rfl
   have mul0:∀ K,ybe (totC (l.getD a default).cuts (l.getD a default).dens) 1 (yaH A).num (yaH A).den K=K ((vXA l a p-vXA l a q)*yaH A).num ((vXA l a p-vXA l a q)*yaH A).den 0:=fun K=>by
    have:=mul K
    rw [en,ed] at this
    exact this
   have hh:hAsk l q p=false:=by unfold hAsk;rw [decide_eq_false (by omega),decide_eq_true he];rfl
   refine (cbNN (by rw [e1,decide_eq_true he];rfl)).trans ?_
   refine (cbYY rfl).trans ?_
   refine (mul0 _).trans ?_
   refine (asTT (decide_eq_true (by omega))).trans ?_
   refine (asTT (decide_eq_true (by rw [hlen];omega))).trans ?_
   refine (asTT rfl).trans ?_
   refine (cbYY rfl).trans ?_
   refine (asTT (decide_eq_true (by omega))).trans ?_
   refine (asTT (decide_eq_true (by rw [hlen];omega))).trans ?_
   refine (asTT rfl).trans ?_
   refine (mk lg _ (by first | omega | (rw [qAa,qAi];omega))).trans ?_
   refine (cnF rfl).trans ?_
   rw [yLo hh]
   refine (asTT (by simp)).trans ?_
   refine (asTT (by simp)).trans ?_
   refine (asTT (by simp)).trans ?_
   refine (asTT (by simp)).trans ?_
   refine (asTT (decide_eq_true (by rw [lR];unfold room;omega))).trans ?_
   refine (asTT (by simp)).trans ?_
   show (∃ k,yaK _ _ _ _ _ _ _ _ k (R.reverse.map encM++[encM (a,fA l A q p a)]) _ _ _ _ _ _ _ _ _ _ _ _ (IntKind.i64.wrap ((((R.reverse.map encM++[encM (a,fA l A q p a)]).length:Nat):Int)-1)))=_
   rw [w2,eR]
   refine (mM (Y:=fun v=>yaQ ybp ybn ya2 yaV ybe ybd yaC x2 x3 n v (A.map encV) (cks l) (logs (lg++gA l A q p a)) q.num q.den p.num p.den (yaH A).num (yaH A).den (l.getD 0 default).len 1 ((P.length+1:Nat):Int)) _ _ _ _ _ _ _ _ _ _ _ _ (fun v j=>?_) R (a,fA l A q p a) [] (by rw [qBd];omega) sf hR).trans ?_
   ·rw [w]
    exact asTT (by simp)
   ·rw [qAy]
  ·have hh:hAsk l q p=true:=by unfold hAsk;rw [decide_eq_false he,qA3,Bool.or_true]
   refine (cbYY (by rw [e1,decide_eq_false he];rfl)).trans ?_
   refine (asTT (decide_eq_true (by omega))).trans ?_
   refine (asTT (decide_eq_true (by rw [hlen];omega))).trans ?_
   refine (asTT rfl).trans ?_
   refine (va _).trans ?_
   refine (cbYY rfl).trans ?_
   refine (mul _).trans ?_
   refine (asTT (decide_eq_true (by omega))).trans ?_
   refine (asTT (decide_eq_true (by rw [hlen];omega))).trans ?_
   refine (asTT rfl).trans ?_
   refine (cbYY rfl).trans ?_
   refine (asTT (decide_eq_true (by omega))).trans ?_
   refine (asTT (decide_eq_true (by rw [hlen];omega))).trans ?_
   refine (asTT rfl).trans ?_
   refine (mk (lg++[vlQ l a q p]) _ (by first | omega | (rw [qAa,qAi];omega))).trans ?_
   refine (cnF rfl).trans ?_
   rw [yDn hh]
   refine (asTT (by simp)).trans ?_
   refine (asTT (by simp)).trans ?_
   refine (asTT (by simp)).trans ?_
   refine (asTT (by simp)).trans ?_
   refine (asTT (decide_eq_true (by rw [lR];unfold room;omega))).trans ?_
   refine (asTT (by simp)).trans ?_
   show (∃ k,yaK _ _ _ _ _ _ _ _ k (R.reverse.map encM++[encM (a,fA l A q p a)]) _ _ _ _ _ _ _ _ _ _ _ _ (IntKind.i64.wrap ((((R.reverse.map encM++[encM (a,fA l A q p a)]).length:Nat):Int)-1)))=_
   rw [w2,eR]
   refine (mM (Y:=fun v=>yaQ ybp ybn ya2 yaV ybe ybd yaC x2 x3 n v (A.map encV) (cks l) (logs (lg++gA l A q p a)) q.num q.den p.num p.den (yaH A).num (yaH A).den (l.getD 0 default).len 1 ((P.length+1:Nat):Int)) _ _ _ _ _ _ _ _ _ _ _ _ (fun v j=>?_) R (a,fA l A q p a) [] (by rw [qBd];omega) sf hR).trans ?_
   ·rw [w]
    exact asTT (by simp)
   ·rw [qAy]
 ·have hq1:q.num>0:=by have:=Rat.num_nonneg.2 h.q0;omega
  have hh:hAsk l q p=true:=by unfold hAsk;rw [decide_eq_true hq1];rfl
  refine (cnT hq0).trans ?_
  refine (cbYY rfl).trans ?_
  refine (asTT (decide_eq_true (by omega))).trans ?_
  refine (asTT (decide_eq_true (by rw [hlen];omega))).trans ?_
  refine (asTT rfl).trans ?_
  refine (va _).trans ?_
  refine (cbYY rfl).trans ?_
  refine (mul _).trans ?_
  refine (asTT (decide_eq_true (by omega))).trans ?_
  refine (asTT (decide_eq_true (by rw [hlen];omega))).trans ?_
  refine (asTT rfl).trans ?_
  refine (cbYY rfl).trans ?_
  refine (asTT (decide_eq_true (by omega))).trans ?_
  refine (asTT (decide_eq_true (by rw [hlen];omega))).trans ?_
  refine (asTT rfl).trans ?_
  refine (mk (lg++[vlQ l a q p]) _ (by first | omega | (rw [qAa,qAi];omega))).trans ?_
  refine (cnF rfl).trans ?_
  rw [yDn hh]
  refine (asTT (by simp)).trans ?_
  refine (asTT (by simp)).trans ?_
  refine (asTT (by simp)).trans ?_
  refine (asTT (by simp)).trans ?_
  refine (asTT (decide_eq_true (by rw [lR];unfold room;omega))).trans ?_
  refine (asTT (by simp)).trans ?_
  show (∃ k,yaK _ _ _ _ _ _ _ _ k (R.reverse.map encM++[encM (a,fA l A q p a)]) _ _ _ _ _ _ _ _ _ _ _ _ (IntKind.i64.wrap ((((R.reverse.map encM++[encM (a,fA l A q p a)]).length:Nat):Int)-1)))=_
  rw [w2,eR]
  refine (mM (Y:=fun v=>yaQ ybp ybn ya2 yaV ybe ybd yaC x2 x3 n v (A.map encV) (cks l) (logs (lg++gA l A q p a)) q.num q.den p.num p.den (yaH A).num (yaH A).den (l.getD 0 default).len 1 ((P.length+1:Nat):Int)) _ _ _ _ _ _ _ _ _ _ _ _ (fun v j=>?_) R (a,fA l A q p a) [] (by rw [qBd];omega) sf hR).trans ?_
  ·rw [w]
   exact asTT (by simp)
  ·rw [qAy]
theorem mk91 (hd:DK l) (h:HV l A q p D) (h2:2≤A.length) {x2 x3}:∀ (Q P:List Nat) (R:List (Nat×Rat)) (lg:List Qy),A=P++Q→R.length=P.length→(∀ y∈R,small y.2)→lg.length+2*Q.length≤2000 →
  (∃ n,yaQ ybp ybn ya2 yaV ybe ybd yaC x2 x3 n (R.reverse.map encM) (A.map encV) (cks l) (logs lg) q.num q.den p.num p.den (yaH A).num (yaH A).den (l.getD 0 default).len 1 (P.length:Int))=x2 ((allV ltH R (Q.map fun a=>(a,fA l A q p a))).reverse.map encM) (A.map encV) (cks l) (logs (lg++Q.flatMap (gA l A q p))) q.num q.den p.num p.den (yaH A).num (yaH A).den (l.getD 0 default).len 1 (A.length:Int) false
 | [],P,R,lg,hA,hR,hs,hm=>by
  rw [qAy] at hA
  have e:∀ n,yaQ ybp ybn ya2 yaV ybe ybd yaC x2 x3 (n+1) (R.reverse.map encM) (A.map encV) (cks l) (logs lg) q.num q.den p.num p.den (yaH A).num (yaH A).den (l.getD 0 default).len 1 (P.length:Int)=x2 (R.reverse.map encM) (A.map encV) (cks l) (logs lg) q.num q.den p.num p.den (yaH A).num (yaH A).den (l.getD 0 default).len 1 (A.length:Int) false:=fun n=>by
   conv=>lhs;unfold yaQ
   refine (cbNN (decide_eq_false (by rw [qAe,hA];omega))).trans ?_
   rw [hA]
  rw [exS3 rfl (R:=fun _=>_) e,exC3,List.flatMap_nil,qAy]
  rfl
 | a::Q,P,R,lg,hA,hR,hs,hm=>by
  rw [qAk] at hm
  have l6:=h.len.2
  have hl:P.length+(Q.length+1)=A.length:=by rw [hA,qAa];rfl
  have ha:a∈A:=by rw [hA];simp
  have hg:(gA l A q p a).length≤2:=yse a
  have ih:=mk91 hd h h2 (x2:=x2) (x3:=x3) Q (P++[a]) (insV ltH R (a,fA l A q p a)) (lg++gA l A q p a) (by rw [hA,qAf];rfl) (by rw [yfu,qAa,qAi];omega) (fun y hy=>by
   rcases (ype ltH _).1 hy with rfl | k
   ·exact yFo hd h h2 a ha
   ·exact hs y k) (by rw [qAa];omega)
  rw [qAa,qAi,qAf] at ih
  rw [exS3 rfl (R:=fun _=>_) (fun n=>mk9s hd h h2 hA hs (by omega) lg (by omega) n)]
  exact ih
theorem yLY (hd:DK l) (h:HV l A q p D) (h2:2≤A.length) (lg:List Qy) (hm:lg.length+2*A.length≤2000) (K) :
  ykd (cks l) (logs lg) (A.map encV) q.num q.den p.num p.den K=K (cks l) (logs (lg++A.flatMap (gA l A q p))) ((hsS A (fA l A q p)).map encM) 0:=by
 have n6:=hd.n6
 have l6:=h.len.2
 obtain ⟨a,Q,hA⟩:∃ a Q,A=a::Q:=by
  cases hx:A with
  | nil=>rw [hx] at h2;simp at h2
  | cons a Q=>exact ⟨a,Q,rfl⟩
 have ha:a∈A:=by rw [hA];simp
 have hal:=h.mem a ha
 have h0:0<l.length:=by omega
 have hlA:A.length=Q.length+1:=by rw [hA];rfl
 have hlen:(A.map encV).length=A.length:=qAe ..
 have hg:(gA l A q p a).length≤2:=yse a
 have wt:IntKind.i64.wrap (Int.tdiv ((A.length:Nat):Int) 2)=((A.length / 2:Nat):Int):=by rw [show Int.tdiv ((A.length:Nat):Int) 2=((A.length / 2:Nat):Int) from rfl,wib (by omega) (by omega)]
 have mk:∀ K,ybp ((A.length / 2:Nat):Int) (A.length:Int) K=K (yaH A).num (yaH A).den 0:=fun K=>by
  rw [yJC ⟨by omega,by omega⟩ ⟨by omega,by omega⟩ (by omega),ycp]
  exact if_pos (ynf h2 l6).1
 have ih:=fun {x2 x3}=>mk91 hd h h2 (x2:=x2) (x3:=x3) Q [a] [(a,fA l A q p a)] (lg++gA l A q p a) (by rw [hA];rfl) rfl (fun y hy=>by rw [List.mem_singleton.1 hy];exact yFo hd h h2 a ha) (by rw [qAa];omega)
 unfold ykd ym8
 dsimp only [lt,Go.Pf.jn]
 rw [hlen,wt]
 refine (mk _).trans ?_
 rw [ybb]
 refine (asTT (decide_eq_true (by omega))).trans ?_
 rw [yc8 h0]
 refine (asTT rfl).trans ?_
 refine (rOf9 _ _).trans ?_
 refine (exS3 rfl (R:=fun _=>_) (fun n=>mk9z hd h h2 hA lg (by omega) n)).trans ?_
 refine ih.trans ?_
 refine (asTT (by simp)).trans ?_
 refine (asTT (by simp)).trans ?_
 rw [qAt (qAj _),qAf]
 have e1:gA l A q p a++Q.flatMap (gA l A q p)=A.flatMap (gA l A q p):=by
  conv=>rhs;arg 2;rw [hA]
  rfl
 have e2:(allV ltH [(a,fA l A q p a)] (Q.map fun a=>(a,fA l A q p a))).reverse=hsS A (fA l A q p):=by
  unfold hsS
  conv=>rhs;arg 2;arg 2;rw [hA]
  rfl
 rw [e1,e2]
end
set_option maxHeartbeats 1000000
section
variable {l:List Ck} {A:List Nat} {q p:Rat} {D:Int}
theorem yMn (H:List (Nat×Rat)):ycj 3 (H.map encM)=true:=by cases H <;> rfl
theorem yLZ (hd:DK l) (h:HV l A q p D) (h2:2≤A.length) {lg:List Qy} (hm:lg.length+2*A.length≤2000) (K) :
  yce (cks l) (logs lg) (A.map encV) q.num q.den p.num p.den K=K (cks l) (logs (lg++A.flatMap (gA l A q p))) (cutH A (fA l A q p)).num (cutH A (fA l A q p)).den ((lftS A (fA l A q p)).map encV) ((rgtS A (fA l A q p)).map encV) 0:=by
 have l6:=h.len.2
 have hlen:(A.map encV).length=A.length:=qAe ..
 have hH:=yk3 (A:=A) (fA l A q p)
 have hHl:((hsS A (fA l A q p)).map encM).length=A.length:=by rw [qAe,hH]
 have wt:IntKind.i64.wrap (Int.tdiv ((A.length:Nat):Int) 2)=((A.length / 2:Nat):Int):=by rw [show Int.tdiv ((A.length:Nat):Int) 2=((A.length / 2:Nat):Int) from rfl,wib (by omega) (by omega)]
 have w1:IntKind.i64.wrap (((A.length / 2:Nat):Int)-1)=((A.length / 2-1:Nat):Int):=by rw [wib (by omega) (by omega)];omega
 have gt:List.getD ((hsS A (fA l A q p)).map encM) (((A.length / 2-1:Nat):Int)).toNat .nils=encM ((hsS A (fA l A q p)).getD (A.length / 2-1) (0,0)):=by
  rw [qAh,qAb,qA4,qAb,qAd (by omega)]
  rfl
 unfold yce yna
 rw [yLY hd h h2 lg hm,cnF rfl]
 dsimp only [lt,Go.Pf.jn]
 rw [hlen,wt,w1,gt,hHl]
 refine (asTT (decide_eq_true (by omega))).trans ?_
 refine (asTT (decide_eq_true (by omega))).trans ?_
 refine (asTT rfl).trans ?_
 refine (asTT (decide_eq_true (by omega))).trans ?_
 refine (asTT (decide_eq_true (by omega))).trans ?_
 rw [qAh,← List.map_take]
 refine (yHG _ (by rw [qAv];omega) _).trans ?_
 refine (asTT (decide_eq_true (by omega))).trans ?_
 refine (asTT (decide_eq_true (by omega))).trans ?_
 refine (asTT (decide_eq_true (by omega))).trans ?_
 refine (asTT (by rw [yMn,Bool.or_true])).trans ?_
 rw [qAt (by omega),← List.map_drop]
 exact yHG _ (by rw [qAs];omega) _
end
section
variable {l:List Ck}
theorem yDo (hd:DK l):∀ (n:Nat) (A:List Nat) (q p:Rat) (D:Int),HV l A q p D→A.length≤2 ^ n→(72:Int) ^ n*D≤100000000→∀ (X:List (List RS)) (lg:List Qy),X.length=l.length→lg.length+2*A.length*n≤2000→∀ K,
  yfr (n+1) (cks l) (logs lg) (A.map encV) q.num q.den p.num p.den (rspL X) l.length l.length l.length K=K (cks l) (logs (lg++(dvM l (n+1) A q p).2)) 0 (rspL (setP X (dvM l (n+1) A q p).1))
 | n,A,q,p,D,hv,hA,hD,X,lg,hX,hlg,K=>by
  have n6:=hd.n6
  have h1:=hv.len.1
  have hlen:(A.map encV).length=A.length:=qAe ..
  have lX:(rspL X).length=l.length:=by rw [ylL,hX]
  show yht yce (yfr n) _ _ _ _ _ _ _ _ _ _ _ K=_
  unfold yht
  dsimp only [lt,Go.Pf.jn]
  by_cases h2:A.length≤1
  ·obtain ⟨a,rfl⟩:∃ a,A=[a]:=by
    match A,h1,h2 with
    | [a],_,_=>exact ⟨a,rfl⟩
   have ha:=hv.mem a qAx
   have gx:List.getD (rspL X) (0+(a:Int).toNat) .nils=.data (rsp (X.getD a [])):=by rw [show 0+(a:Int).toNat=a by omega];exact yHF (by omega)
   rw [ypC h2,qAy]
   refine (cbYY rfl).trans ?_
   refine (asTT rfl).trans ?_
   refine (asTT rfl).trans ?_
   refine (asTT (decide_eq_true (show (0:Int)≤(a:Int) by omega))).trans ?_
   refine (asTT (decide_eq_true (show (a:Int)<(l.length:Int) by omega))).trans ?_
   refine (asTT (decide_eq_true lX)).trans ?_
   refine (asTT (decide_eq_true (show 0+(a:Int).toNat<_ by rw [lX];omega))).trans ?_
   refine (asTT (show conf zD (List.getD (rspL X) (0+(a:Int).toNat) .nils)=true by rw [gx];rfl)).trans ?_
   refine (asTT (by rw [qBj];exact decide_eq_true rfl)).trans ?_
   show K (cks l) (logs lg) 0 (List.set (rspL X) (0+(a:Int).toNat) (.data (rsp [(q,p)])))=_
   rw [show 0+(a:Int).toNat=a by omega,yFp]
   rfl
  ·match n,hA,hD,hlg with
   | 0,hA,_,_=>exact absurd hA (by rw [Nat.pow_zero];omega)
   | n+1,hA,hD,hlg =>
   have e2:2 ^ (n+1)=2*2 ^ n:=by rw [Nat.pow_succ,Nat.mul_comm]
   have e72:(72:Int) ^ (n+1)*D=72 ^ n*(72*D):=by rw [Int.pow_succ,Int.mul_assoc]
   have p72:(1:Int)≤72 ^ n:=by
    have:(0:Int)<72 ^ n:=Int.pow_pos (by omega)
    omega
   have D1:=hv.D1.1
   have d72:1*(72*D)≤72 ^ n*(72*D):=qAn p72 (by omega)
   obtain ⟨D',hD',hl,hr⟩:=hv.split hd (by omega) (by omega)
   have d':(72:Int) ^ n*D'≤72 ^ n*(72*D):=Int.mul_le_mul_of_nonneg_left hD' (by omega)
   have eL:=ykt (A:=A) (fA l A q p)
   have eR:=yku (A:=A) (fA l A q p)
   have hg:(A.flatMap (gA l A q p)).length≤2*A.length:=yue _ 2 A fun a _=>yse a
   have eA:2*A.length*(n+1)=2*A.length*n+2*A.length:=Nat.mul_succ ..
   have eS:2*A.length*n=2*(lftS A (fA l A q p)).length*n+2*(rgtS A (fA l A q p)).length*n:=by rw [← qAr,eL,eR];congr 1;omega
   have hlL:(dvM l (n+1) (lftS A (fA l A q p)) q (cutH A (fA l A q p))).2.length≤2*(lftS A (fA l A q p)).length*n:=ypD n _ _ _ (by rw [eL];omega) (by rw [eL];omega)
   have run:=fun K=>yLZ hd hv (by omega) (lg:=lg) (by omega) K
   have i1:=fun K=>yDo hd n (lftS A (fA l A q p)) q (cutH A (fA l A q p)) D' hl (by rw [eL];omega) (by omega) X (lg++A.flatMap (gA l A q p)) hX (by rw [qAa];omega) K
   have i2:=fun K=>yDo hd n (rgtS A (fA l A q p)) (cutH A (fA l A q p)) p D' hr (by rw [eR];omega) (by omega) (setP X (dvM l (n+1) (lftS A (fA l A q p)) q (cutH A (fA l A q p))).1) (lg++A.flatMap (gA l A q p)++(dvM l (n+1) (lftS A (fA l A q p)) q (cutH A (fA l A q p))).2) (by rw [yjF];exact hX) (by rw [qAa,qAa];omega) K
   refine (cbNN (show ((((A.map encV).length:Nat):Int) == 1)=false from beq_eq_false_iff_ne.2 (by rw [hlen];omega))).trans ?_
   refine (run _).trans ?_
   refine (cnF rfl).trans ?_
   refine (i1 _).trans ?_
   refine (cnF rfl).trans ?_
   refine (i2 _).trans ?_
   refine (asTT (decide_eq_true (by rw [ylL,ylL,yjF,yjF]))).trans ?_
   rw [yud (A:=A) (by omega),yuf,← qAf,← qAf]
theorem rr01 {a0 a1 a2 x1} (l2 l3:List PV) (h:l.length≤100):∀ (d i:Nat),i+d=l.length→1≤i →
  (∃ n,yci a0 a1 a2 x1 n ((List.range i).map encV) (cks l) l2 l3 (i:Int))=x1 ((List.range l.length).map encV) (cks l) l2 l3 (l.length:Int) false
 | 0,i,hi,h1=>by
  have hi:i=l.length:=hi
  subst hi
  have e:∀ n,yci a0 a1 a2 x1 (n+1) ((List.range l.length).map encV) (cks l) l2 l3 (l.length:Int)=x1 ((List.range l.length).map encV) (cks l) l2 l3 (l.length:Int) false:=fun n=>by
   conv=>lhs;unfold yci
   rw [ybb]
   exact cbF (by omega)
  rw [exS3 rfl (R:=fun _=>_) e,exC3]
 | d+1,i,hi,h1=>by
  have ih:=rr01 (a0:=a0) (a1:=a1) (a2:=a2) (x1:=x1) l2 l3 h d (i+1) (by omega) (by omega)
  have w:IntKind.i64.wrap ((i:Int)+1)=((i+1:Nat):Int):=by rw [wib (by omega) (by omega)];omega
  have lr:((List.range i).map encV).length=i:=by rw [qAe,qBo]
  have e:∀ n,yci a0 a1 a2 x1 (n+1) ((List.range i).map encV) (cks l) l2 l3 (i:Int)=yci a0 a1 a2 x1 n ((List.range (i+1)).map encV) (cks l) l2 l3 ((i+1:Nat):Int):=fun n=>by
   conv=>lhs;unfold yci
   dsimp only [lt,Go.Pf.jn]
   rw [ybb,cbT (by omega),w,lr]
   refine (asTT (by simp)).trans ?_
   refine (asTT (by simp)).trans ?_
   refine (asTT (by simp)).trans ?_
   refine (asTT (by simp)).trans ?_
   refine (asTT (decide_eq_true (by unfold room;omega))).trans ?_
   refine (asTT (by simp)).trans ?_
   rw [List.range_succ,qBq]
   rfl
  rw [exS3 rfl (R:=fun _=>_) e,ih]
theorem rr00 {a0 a1 a2 x0 x1} (l2 l3:List PV) (h0:1≤l.length) (h:l.length≤100) :
  (∃ n,yfs a0 a1 a2 x0 x1 n (cks l) l2 l3 0)=x1 ((List.range l.length).map encV) (cks l) l2 l3 (l.length:Int) false:=by
 have e:∀ n,yfs a0 a1 a2 x0 x1 (n+1) (cks l) l2 l3 0=yci a0 a1 a2 x1 n ((List.range 1).map encV) (cks l) l2 l3 ((1:Nat):Int):=fun n=>by
  conv=>lhs;unfold yfs
  dsimp only [lt,Go.Pf.jn]
  rw [ybb,cbT (by omega)]
  exact (asTT (by simp)).trans rfl
 rw [exS3 rfl (R:=fun _=>_) e,rr01 l2 l3 h (l.length-1) 1 (by omega) (by omega)]
theorem yK3 (hd:DK l) (K:List PV→List PV→Int→Prop):yf9 (cks l) K=K (rspL (dvX l)) (logs (dvL l)) 0:=by
 have n0:=hd.n0
 have n6:=hd.n6
 refine yEZ _ _ _ _ (fun K k=>?_) K
 unfold yf9 ynb
 rw [yFd hd.fin (by omega),if_pos (hd.err (by omega)),cnF rfl,rr00 _ _ n0 (by omega)]
 dsimp only [lt,Go.Pf.jn]
 have lr:((List.range l.length).map encV).length=l.length:=by rw [qAe,qBo]
 rw [ybb,lr,qAt (by rw [lr];exact qAj _),yFq,asT (by omega),asT (by omega),asT (by unfold room;omega),rOf9,asT (by omega),yc8 n0,asCk,ck0,rOf9,asT (by omega),asT (by omega)]
 refine ⟨4,?_⟩
 refine Eq.mpr (yDo hd 3 (List.range l.length) 0 (lenR l) 1 (HV.top hd) (by rw [qBo];omega) (by decide) (List.replicate l.length []) [] qBa (by rw [qBo];show 0+2*l.length*3≤2000;omega) _) ?_
 rw [cnF rfl]
 have lX:(rspL (dvX l)).length=l.length:=by rw [ylL,yDm]
 show asr (decide ((rspL (dvX l)).length=l.length)) (asr (decide (0+l.length≤l.length)) (K (List.take l.length (rspL (dvX l))) (logs ([]++dvL l)) 0))
 rw [asT lX,asT (by omega),qAt (by omega),qB4]
 exact k
end
set_option maxHeartbeats 1000000
def bnd9 (n:Int):Int×Int:=if n<1∨n>6 then (0,2) else (bif n == 1 then 0 else bif n == 2 then 2 else bif n == 3 then 9 else bif n == 4 then 12 else bif n == 5 then 25 else 30,0)
theorem in6 {n:Int} (h:¬(n<1∨n>6)):n=1∨n=2∨n=3∨n=4∨n=5∨n=6:=by omega
theorem yK4 (n:Int) (K:Int→Int→Prop):yhu n K=K (bnd9 n).1 (bnd9 n).2:=by
 unfold yhu yjv bnd9
 dsimp only [lt,Go.Pf.jn]
 by_cases h:n<1∨n>6
 ·rw [if_pos h]
  by_cases h1:n<1
  ·rw [cbT h1,yag]
  ·rw [cbF h1,decide_eq_true (by omega),yag]
 ·rw [if_neg h,cbF (by omega),decide_eq_false (by omega),yad]
  rcases in6 h with rfl | rfl | rfl | rfl | rfl | rfl
  ·rfl
  all_goals
   refine (cbNN rfl).trans ?_
   refine (lenH ⟨by decide,by decide⟩ _).trans ?_
   rfl
theorem yK5 (n:Int) (K:Int→Int→Prop):yf8 n K=K (bnd9 n).1 (bnd9 n).2:=by
 refine yAu _ _ _ (fun K k=>?_) K
 unfold yf8 ym6
 unfold bnd9 at k
 dsimp only [lt,Go.Pf.jn]
 by_cases h:n<1∨n>6
 ·rw [if_pos h] at k
  by_cases h1:n<1
  ·rw [cbT h1,yag]
   exact k
  ·rw [cbF h1,decide_eq_true (by omega),yag]
   exact k
 ·rw [if_neg h] at k
  rw [cbF (by omega),decide_eq_false (by omega),yad]
  rcases in6 h with rfl | rfl | rfl | rfl | rfl | rfl
  all_goals exact ⟨4,k⟩
section
variable {l:List Ck}
theorem yJ4 (hf:finC l) (hl:l.length<4611686018427387904) (h:yd3 l 0≠0) (K:List PV→List PV→Int→Prop):yga (cks l) K=K [] [] (yd3 l 0):=by
 unfold yga yiy
 rw [yFc hf hl,if_neg h,cnT h]
theorem yJ5 (hf:finC l) (hl:l.length<4611686018427387904) (h:yd3 l 0≠0) (K:List PV→List PV→Int→Prop):yf9 (cks l) K=K [] [] (yd3 l 0):=by
 unfold yf9 ynb
 rw [yFd hf hl,if_neg h,cnT h]
theorem yMo (A:List (List RS)) (h1:A.length≤1000) (h2:∀ a∈A,a.length≤1000) (K:Bool→Prop):yeR (rspL A) (rspL A) K=K true:=by
 have e:rspL A=yne (A.map fun a=>a.map spOf):=by unfold rspL yne;rw [List.map_map];rfl
 rw [e]
 refine yzv (fun i hi=>?_) (by rw [qAe];omega) K
 rw [qAe] at hi
 rw [qAb,qA4,qAd hi]
 show ((A[i]).map spOf).length<_
 have:=h2 _ (qB0 hi)
 rw [qAe]
 omega
theorem yFr:∀ (ps:List (Nat×RS)) (X:List (List RS)),(∀ a∈X,a.length≤1)→∀ a∈setP X ps,a.length≤1
 | [],X,h=>h
 | x::r,X,h=>yFr r (X.set x.1 [x.2]) fun a ha=>by
  rcases List.mem_or_eq_of_mem_set ha with k | rfl
  ·exact h a k
  ·exact qAj 1
theorem yK6:∀ a∈dvX l,a.length≤1:=yFr _ _ fun a ha=>by
 rw [(List.mem_replicate.1 ha).2]
 exact qBn 1
theorem yK7 (hd:DK l):(dvL l).length≤2*l.length*3:=by
 have n6:=hd.n6
 have:(dvM l 4 (List.range l.length) 0 (lenR l)).2.length≤2*(List.range l.length).length*3:=ypD (l:=l) 3 (List.range l.length) 0 (lenR l) (by rw [qBo];omega) (by rw [qBo];exact hd.n0)
 rw [qBo] at this
 exact this
theorem yDp (hl:l.length≤9223372036854775807) (n:Int):yfE (cks l) n (fun b=>b=true):=by
 unfold yfE yhd
 rw [yAy hl]
 cases hg:yDh l with
 | true=>rw [yag]
 | false =>
  obtain ⟨g1,g2,g3⟩:=yGL hg
  rw [yad,yK4,yK5]
  by_cases h:yd3 l 0=0
  ·have hd:=(yhg h).1
   have n6:=hd.n6
   rw [yK2 hd,yK3 hd]
   dsimp only [Go.Pf.jn]
   have hL:=yK7 hd
   rw [ceT rfl,ceT rfl,yMo (dvX l) (by rw [yDm];omega) (fun a ha=>qBl (yK6 a ha) (by omega)),yag,yqF (by omega),yag]
   rfl
  ·rw [yJ4 g3 (by omega) h,yJ5 g3 (by omega) h]
   dsimp only [Go.Pf.jn]
   rw [ceT rfl,ceT rfl,yIz,yag,yDi,yag]
   exact beq_self_eq_true _
end
end Go.Pf.Vc
