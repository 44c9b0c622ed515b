/- Part 6. -/
import Derived.Test.YtbdihlcdenhcbaaGreatTxW5
open Go.IntKind (i64 u8 u64)
open List (length getD take drop replicate set map isEmpty)
noncomputable section
namespace Go.Pf.Vc
open Go Go.Pf
section
variable {l:List Ck}
theorem eh (hf:qQ l) (hl:l.length≤1000) (K:List PV→Prop):uA (aN l) K=K (aN l):=by
 refine yBl _ _ (fun K k=>?_) K;unfold uA UD
 cases hc:l with
 | nil =>refine ⟨0+1,?_⟩;rw [hc] at k;rw [LW,gB,aZ (by simp)];exact k
 | cons c t=>
  rw [← hc];have h0:0<l.length:=by rw [hc];exact yY _
  refine ⟨(l.length+1)+1,?_⟩;rw [LW];obtain ⟨f1,f2⟩:=hf 0 (by omega);have e1:=gD (n:=(0:Int)+1) (by omega) (by omega);rw [gB,aW (by omega),show (0:Int).toNat=0 from rfl,kG (by omega),aO (by omega),aO (by omega),cP,kB,mG,mH,dz f1 f2,jG (by simp),e1,show (0:Int)+1=((0+1:Nat):Int) from rfl];rw [ee hf hl _ _ (l.length-1) (0+1) (l.length+1) _ (by omega) (by omega) (by simp)];have e:[PV.agg [PV.int i64 (l.getD 0 default).len,PV.data (aG (l.getD 0 default).cuts),PV.data (aG (l.getD 0 default).dens)]]++aN (l.drop (0+1))=aN l:=by
   conv=>rhs;rw [← qX (l:=l),uL default h0]
   rfl
  rw [e,aO rfl,aO (by omega),FL];exact k
theorem er:∀ (l:List Ck),nN l=0→∀ i,i<l.length→(l.getD i default).ok
 | c::t,h,0,_=>by
  unfold nN at h;split at h
  ·rename_i h1;exact FJ h1
  ·rename_i h1;exact absurd h h1
 | c::t,h,i+1,hi=>by
  unfold nN at h;split at h
  ·exact er t h i (by simpa using hi)
  ·rename_i h1;exact absurd h h1
theorem et {n:Int}:∀ (l:List Ck),uM n l=true→∀ i,i<l.length→(l.getD i default).len=n
 | c::t,h,0,_=>by unfold uM at h;simp only [bO,decide_eq_true_eq] at h;exact h.1
 | c::t,h,i+1,hi=>by unfold uM at h;simp only [bO,decide_eq_true_eq] at h;exact et t h.2 i (by simpa using hi)
structure DK (l:List Ck):Prop where
 n6:l.length≤6
 n0:1≤l.length
 ok:∀ i,i<l.length→(l.getD i default).ok
 len:∀ i,i<l.length→(l.getD i default).len=(l.getD 0 default).len
theorem MN {m:Nat} (h:kH l m=0):DK l∧m≤2000:=by
 unfold kH at h;split at h
 ·omega
 split at h
 ·omega
 split at h
 ·omega
 split at h
 ·rename_i h0 h1 h2 h3;split at h
  ·rename_i h4;exact ⟨⟨by omega,by omega,er l h3,et l h4⟩,by omega⟩
  ·omega
 ·rename_i h3;exact absurd h h3
theorem DK.err {l:List Ck} (h:DK l) {m:Nat} (hm:m≤2000):kH l m=0:=by
 have f:∀ l:List Ck,(∀ i,i<l.length→(l.getD i default).ok)→nN l=0:=by
  intro l;induction l with
  | nil=>intro _;rfl
  | cons c t ih =>intro h;unfold nN;rw [WM (show c.err=0 from (h 0 (yY _)).ck)];exact ih fun i hi=>h (i+1) (by simpa using hi)
 have g:∀ (n:Int) (l:List Ck),(∀ i,i<l.length→(l.getD i default).len=n)→uM n l=true:=by
  intro n l;induction l with
  | nil=>intro _;rfl
  | cons c t ih =>intro h;unfold uM;rw [bO,decide_eq_true_eq];exact ⟨h 0 (yY _),ih fun i hi=>h (i+1) (by simpa using hi)⟩
 have:=h.n6;have:=h.n0;unfold kH;rw [WN (by omega),WN (by omega),WN (by omega),WM (f l h.ok),WM (g _ l h.len)]
theorem DK.low {l:List Ck} (h:DK l):qQ l:=fun i hi=>by have h1:=(h.ok i hi).l1;have h2:=(h.ok i hi).l2;exact ⟨by omega,by omega⟩
theorem DK.fin {l:List Ck} (h:DK l):eF l:=fun i hi=>by have h1:=(h.ok i hi).l1;have h2:=(h.ok i hi).l2;exact ⟨by omega,by omega⟩
def lU (agent kind an ad bn bd cn cd:Int):PV:=.agg [.int .i64 agent,.int .u8 kind,.int .i64 an,.int .i64 ad,.int .i64 bn,.int .i64 bd,.int .i64 cn,.int .i64 cd]
def fF (l:List Ck) (m:Nat) (agent:Int) (ans:Ck→Except Int Rat):Except Int Rat:=
 if kH l m=0 then (if 0≤agent∧agent<l.length then (match ans (l.getD agent.toNat default) with
  | .ok p=>if m≥2000 then .error 4 else .ok p
  | .error e=>.error e) else .error 2) else .error (kH l m)
def qryK (l:List Ck) (lg:List PV) (row:Rat→PV) (e:Except Int Rat) (K:List PV→List PV→Int→Int→Int→Prop):Prop:=
 match e with
 | .ok p=>K (aN l) (lg++[row p]) p.num p.den 0
 | .error c=>K [] [] 0 0 c
theorem VU {w:(List PV→List PV→Int→Int→Int→Prop)→Prop} {l:List Ck} {lg:List PV} {row:Rat→PV} {e:Except Int Rat} (det:∀ r0 r1 r2 r3 r4,(∀ K:List PV→List PV→Int→Int→Int→Prop,K r0 r1 r2 r3 r4→w K)→∀ K,w K=K r0 r1 r2 r3 r4)
  (h:∀ K,qryK l lg row e K→w K) (K):w K=qryK l lg row e K:=by
 cases e with
 | ok q=>exact det _ _ _ _ _ h K
 | error c=>exact det _ _ _ _ _ h K
theorem eu {z q:PV} {lg:List PV} {m:Nat} (hm:m=lg.length) :
  take ((0+m)+1) ((take (0+(0+m)) (lg++(drop (0+m) (replicate (m+1) z))))++(([q]:List PV)++(drop ((0+(0+m))+1) (lg++(drop (0+m) (replicate (m+1) z))))))=lg++[q]:=by
 subst hm;simp;rw [wJ (by simp)]
theorem MO (lg:List PV) (agent:Int) (K:Bool→Prop):EY (aN l) lg agent K=K (decide (0≤agent∧agent<l.length)):=by
 unfold EY Tq;rw [gB]
 by_cases h:agent≥0
 ·rw [aW h];congr 1;rw [Aaa];omega
 ·rw [aZ h,Tx (by omega)]
theorem yK2 (lg:List PV) (agent:Int) (K:Bool→Prop):LZ (aN l) lg agent K=K (decide (0≤agent∧agent<l.length)):=by
 unfold LZ UJ;rw [gB]
 by_cases h:agent≥0
 ·rw [aW h];congr 1;rw [Aaa];omega
 ·rw [aZ h,Tx (by omega)]
def Ck.mark (an ad vn vd:Int) (c:Ck):Except Int Rat:=fP c.len c.cuts c.dens an ad vn vd
def Ck.value (an ad bn bd:Int) (c:Ck):Except Int Rat:=jF c.len c.cuts c.dens an ad bn bd
theorem VV (hf:eF l) (hl:l.length<4611686018427387904) {lg:List PV} (hlg:hO 8 lg=true) {agent an ad vn vd:Int} (ha:bG an) (ha':bG ad) (hv:bG vn) (hv':bG vd) (K) :
  ybY (aN l) lg agent an ad vn vd K=qryK l lg (fun p=>lU agent 2 an ad vn vd p.num p.den) (fF l lg.length agent (Ck.mark an ad vn vd)) K:=by
 refine VU (fun r0 r1 r2 r3 r4 h K=>yDe _ _ _ _ _ _ _ r0 r1 r2 r3 r4 h K) (fun K k=>?_) K;unfold ybY Ty;unfold fF at k;rw [IQ hf hl]
 by_cases h:kH l lg.length=0
 case neg=>rw [cL h];rw [WN h] at k;exact k
 obtain ⟨hd,hm⟩:=MN h;rw [WM h] at k;rw [cD h,MO]
 by_cases h2:0≤agent∧agent<l.length
 case neg=>rw [Tx h2,jS,bB];rw [WN h2] at k;exact k
 rw [WM h2] at k;obtain ⟨a,rfl⟩:∃ a:Nat,agent=a:=⟨agent.toNat,by omega⟩;have ha2:a<l.length:=by omega
 rw [cM] at k;obtain ⟨f1,f2⟩:=hf a ha2;rw [Os h2,jJ,aS,Tt,Ts,gB,cM,kG ha2,aO (by omega),aO (by omega),cP,kB,mG,mH,yKW (by omega) (by omega) ha ha' hv hv'];have em:Ck.mark an ad vn vd (l.getD a default)=fP (l.getD a default).len (l.getD a default).cuts (l.getD a default).dens an ad vn vd:=rfl;rw [em] at k
 cases hr:fP (l.getD a default).len (l.getD a default).cuts (l.getD a default).dens an ad vn vd with
 | error c=>
  rw [hr] at k;have k:K [] [] 0 0 c:=k;rw [CI];have hc:c≠0:=by
   intro hc;subst hc;unfold fP at hr;split at hr
   ·split at hr
    ·unfold mrkC at hr;split at hr
     ·cases hr
     ·have no:∀ (r i:Nat) (p v:Rat),mrkS (l.getD a default).cuts (l.getD a default).dens r i p v≠.error 0:=by
       intro r;induction r with
       | zero=>intro i p v e;unfold mrkS at e;cases e
       | succ r ih=>
        intro i p v e;unfold mrkS eO at e
        repeat' (first | split at e | dsimp only at e)
        all_goals first | exact ih _ _ _ e | cases e
      exact no _ _ _ _ hr
    ·cases hr
   ·rename_i h5;exact h5 (Except.error.inj hr)
  rw [cL hc];exact k
 | ok p=>
  rw [hr] at k;rw [CH,cD rfl]
  by_cases h3:lg.length≥2000
  ·rw [aW (by omega)];have k:qryK l lg _ (if lg.length≥2000 then .error 4 else .ok p) K:=k;rw [WM h3] at k;exact k
  ·have k:qryK l lg _ (if lg.length≥2000 then .error 4 else .ok p) K:=k;rw [WN h3] at k;have k:K (aN l) (lg++[lU a 2 an ad vn vd p.num p.den]) p.num p.den 0:=k;have e1:=gD (n:=(lg.length:Int)+1) (by omega) (by omega);have e2:((lg.length:Int)+1).toNat=lg.length+1:=by omega
   rw [aZ (by omega),e1,e2,aO (by omega),aO (by unfold room;omega),dy hd.low (by have:=hd.n6;omega),hlg,dX];rw [aO (by simp),aO (by omega)]
   cases hlg2:lg with
   | nil =>rw [Df,bB,aO (by simp),aO (by simp),aO (by simp),aO (by simp),aO (by simp)];rw [hlg2] at k;exact k
   | cons x t =>rw [← hlg2,show isEmpty lg=false by rw [hlg2];rfl,aS,aO (by omega),aO (by simp),aO (by omega),aO (by omega),aO (by simp),aO (by omega)];rw [eu rfl];exact k
theorem yK3 (cuts dens:List Int):∀ (r i:Nat) (p v:Rat),mrkS cuts dens r i p v≠.error 0:=by
 intro r;induction r with
 | zero=>intro i p v e;unfold mrkS at e;cases e
 | succ r ih=>
  intro i p v e;unfold mrkS eO at e
  repeat' (first | split at e | dsimp only at e)
  all_goals first | exact ih _ _ _ e | cases e
theorem yK4 {len:Int} {cuts dens:List Int} {an ad vn vd:Int}:fP len cuts dens an ad vn vd≠.error 0:=by
 intro hr;unfold fP at hr;split at hr
 ·split at hr
  ·unfold mrkC at hr;split at hr
   ·cases hr
   ·exact yK3 _ _ _ _ _ _ hr
  ·cases hr
 ·rename_i h5;exact h5 (Except.error.inj hr)
theorem yK5 (cuts dens:List Int) (b:Rat):∀ (r i:Nat) (p v:Rat),valS cuts dens b r i p v≠.error 0:=by
 intro r;induction r with
 | zero=>intro i p v e;unfold valS at e;cases e
 | succ r ih=>
  intro i p v e;unfold valS eO at e
  repeat' (first | split at e | dsimp only at e)
  all_goals first | exact ih _ _ _ e | cases e
theorem ey {len:Int} {cuts dens:List Int} {an ad vn vd:Int}:jF len cuts dens an ad vn vd≠.error 0:=by
 intro hr;unfold jF at hr;split at hr
 ·split at hr
  ·exact yK5 _ _ _ _ _ _ _ hr
  ·cases hr
 ·rename_i h5;exact h5 (Except.error.inj hr)
def qR (kind an ad bn bd:Int) (c:Ck):Except Int Rat:=if kind=1 then c.value an ad bn bd else c.mark an ad bn bd
theorem yK6 {kind an ad bn bd:Int} {c:Ck}:qR kind an ad bn bd c≠.error 0:=by
 unfold qR;split
 ·exact ey
 ·exact yK4
theorem yJB (hf:eF l) (hl:l.length<4611686018427387904) {lg:List PV} (hlg:hO 8 lg=true) {agent an ad vn vd:Int} (ha:bG an) (ha':bG ad) (hv:bG vn) (hv':bG vd) (K) :
  yaL (aN l) lg agent an ad vn vd K=qryK l lg (fun p=>lU agent 1 an ad vn vd p.num p.den) (fF l lg.length agent (Ck.value an ad vn vd)) K:=by
 refine VU (fun r0 r1 r2 r3 r4 h K=>yA8 _ _ _ _ _ _ _ r0 r1 r2 r3 r4 h K) (fun K k=>?_) K;unfold yaL TD;unfold fF at k;rw [IQ hf hl]
 by_cases h:kH l lg.length=0
 case neg=>rw [cL h];rw [WN h] at k;exact k
 obtain ⟨hd,hm⟩:=MN h;rw [WM h] at k;rw [cD h,MO]
 by_cases h2:0≤agent∧agent<l.length
 case neg=>rw [Tx h2,jS,bB];rw [WN h2] at k;exact k
 rw [WM h2] at k;obtain ⟨a,rfl⟩:∃ a:Nat,agent=a:=⟨agent.toNat,by omega⟩;have ha2:a<l.length:=by omega
 rw [cM] at k;obtain ⟨f1,f2⟩:=hf a ha2;rw [Os h2,jJ,aS,TB,TA,gB,cM,kG ha2,aO (by omega),aO (by omega),cP,kB,mG,mH,yJz (by omega) (by omega) ha ha' hv hv'];have em:Ck.value an ad vn vd (l.getD a default)=jF (l.getD a default).len (l.getD a default).cuts (l.getD a default).dens an ad vn vd:=rfl;rw [em] at k
 cases hr:jF (l.getD a default).len (l.getD a default).cuts (l.getD a default).dens an ad vn vd with
 | error c=>
  rw [hr] at k;have k:K [] [] 0 0 c:=k;rw [CI];have hc:c≠0:=fun hc=>ey (hc ▸ hr)
  rw [cL hc];exact k
 | ok p=>
  rw [hr] at k;rw [CH,cD rfl]
  by_cases h3:lg.length≥2000
  ·rw [aW (by omega)];have k:qryK l lg _ (if lg.length≥2000 then .error 4 else .ok p) K:=k;rw [WM h3] at k;exact k
  ·have k:qryK l lg _ (if lg.length≥2000 then .error 4 else .ok p) K:=k;rw [WN h3] at k;have k:K (aN l) (lg++[lU a 1 an ad vn vd p.num p.den]) p.num p.den 0:=k;have e1:=gD (n:=(lg.length:Int)+1) (by omega) (by omega);have e2:((lg.length:Int)+1).toNat=lg.length+1:=by omega
   rw [aZ (by omega),e1,e2,aO (by omega),aO (by unfold room;omega),dy hd.low (by have:=hd.n6;omega),hlg,dX];rw [aO (by simp),aO (by omega)]
   cases hlg2:lg with
   | nil =>rw [Df,bB,aO (by simp),aO (by simp),aO (by simp),aO (by simp),aO (by simp)];rw [hlg2] at k;exact k
   | cons x t =>rw [← hlg2,show isEmpty lg=false by rw [hlg2];rfl,aS,aO (by omega),aO (by simp),aO (by omega),aO (by omega),aO (by simp),aO (by omega)];rw [eu rfl];exact k
theorem yJC {a:Nat} (ha2:a<l.length) (hf:eF l) (kind:Int) {an ad bn bd:Int} (cn cd:Int) (ha:bG an) (ha':bG ad) (hb:bG bn) (hb':bG bd) (K:Int→Int→Int→Prop) :
  Ma (aN l) a kind an ad bn bd cn cd K=exK (qR kind an ad bn bd (l.getD a default)) K:=by
 unfold Ma UL qR;obtain ⟨f1,f2⟩:=hf a ha2;rw [gB,cM,kG ha2]
 by_cases h:kind=1
 ·rw [mF h,WM h,aO (by omega),aO (by omega),cP,kB,mG,mH,yJA (by omega) (by omega) ha ha' hb hb'];rfl
 ·rw [oZ h,WN h,aO (by omega),aO (by omega),cP,kB,mG,mH,yKZ (by omega) (by omega) ha ha' hb hb'];rfl
theorem fa (hf:eF l) (hl:l.length<4611686018427387904) {lg:List PV} (hlg:hO 8 lg=true) {agent:Int} (kind:Int) {an ad bn bd:Int} (cn cd:Int) (ha:bG an) (ha':bG ad) (hb:bG bn) (hb':bG bd) (K) :
  Cm (aN l) lg agent kind an ad bn bd cn cd K=qryK l lg (fun p=>lU agent kind an ad bn bd p.num p.den) (fF l lg.length agent (qR kind an ad bn bd)) K:=by
 refine VU (fun r0 r1 r2 r3 r4 h K=>yBn _ _ _ _ _ _ _ _ _ _ r0 r1 r2 r3 r4 h K) (fun K k=>?_) K;unfold Cm UN;unfold fF at k;rw [VS hf hl]
 by_cases h:kH l lg.length=0
 case neg=>rw [cL h,VS hf hl];rw [WN h] at k;exact k
 obtain ⟨hd,hm⟩:=MN h;rw [WM h] at k;rw [cD h,yK2]
 by_cases h2:0≤agent∧agent<l.length
 case neg=>rw [Tx h2,jS,bB];rw [WN h2] at k;exact k
 rw [WM h2] at k;obtain ⟨a,rfl⟩:∃ a:Nat,agent=a:=⟨agent.toNat,by omega⟩;have ha2:a<l.length:=by omega
 rw [cM] at k;rw [Os h2,jJ,aS,yJC ha2 hf kind cn cd ha ha' hb hb']
 cases hr:qR kind an ad bn bd (l.getD a default) with
 | error c=>
  rw [hr] at k;have k:K [] [] 0 0 c:=k;rw [CI];have hc:c≠0:=fun hc=>yK6 (hc ▸ hr)
  rw [cL hc];exact k
 | ok p=>
  rw [hr] at k;rw [CH,cD rfl]
  by_cases h3:lg.length≥2000
  ·rw [mF (by omega)];have k:qryK l lg _ (if lg.length≥2000 then .error 4 else .ok p) K:=k;rw [WM h3] at k;exact k
  ·have k:qryK l lg _ (if lg.length≥2000 then .error 4 else .ok p) K:=k;rw [WN h3] at k;have k:K (aN l) (lg++[lU a kind an ad bn bd p.num p.den]) p.num p.den 0:=k;rw [oZ (by omega),eh hd.low (by have:=hd.n6;omega),hlg,dX]
   cases hlg2:lg with
   | nil =>rw [Df,bB];rw [hlg2] at k;exact k
   | cons x t =>rw [← hlg2,show isEmpty lg=false by rw [hlg2];rfl,aS,aO (by unfold room;omega),aO rfl,aO (by omega),jG (by rw [Tx (by omega)];rfl),aO rfl,aO (by unfold room;omega),aO rfl,aO (by omega),FL];exact k
theorem fb (hf:eF l) (hl:l.length<4611686018427387904) {lg:List PV} (hlg:hO 8 lg=true) {agent an ad vn vd:Int} (ha:bG an) (ha':bG ad) (hv:bG vn) (hv':bG vd) (K) :
  Fu (aN l) lg agent an ad vn vd K=qryK l lg (fun p=>lU agent 2 an ad vn vd p.num p.den) (fF l lg.length agent (Ck.mark an ad vn vd)) K:=by
 unfold Fu UP;rw [fa hf hl hlg 2 0 0 ha ha' hv hv'];rfl
theorem yJD (hf:eF l) (hl:l.length<4611686018427387904) {lg:List PV} (hlg:hO 8 lg=true) {agent an ad vn vd:Int} (ha:bG an) (ha':bG ad) (hv:bG vn) (hv':bG vd) (K) :
  Cn (aN l) lg agent an ad vn vd K=qryK l lg (fun p=>lU agent 1 an ad vn vd p.num p.den) (fF l lg.length agent (Ck.value an ad vn vd)) K:=by
 unfold Cn UQ;rw [fa hf hl hlg 1 0 0 ha ha' hv hv'];rfl
def wG (l:List Ck):Bool:=l.any (fun c=>decide (c.cuts.length>60)||decide (c.dens.length>60))||decide (l.length>10)
theorem yJE {len:Int} {cuts dens:List Int} (K:Bool→Prop):Cd len (aG cuts) (aG dens) K=K (decide (cuts.length>60)||decide (dens.length>60)):=by
 unfold Cd Ue;rw [dI,dI]
 by_cases h:cuts.length>60
 ·rw [aW (by omega),Os h];rfl
 ·rw [aZ (by omega),Tx h,zG];congr 1;rw [Aaa];omega
theorem fc (hl:l.length≤9223372036854775807) (K:Bool→Prop) :
  ∀ (r i n:Nat),i+r=l.length→r<n→Fq Cd (fun a=>(K a)) (fun b _ _=>(K (decide ((((length b):Nat):Int)>(10:Int))))) n (aN l) i =
   K ((l.drop i).any (fun c=>decide (c.cuts.length>60)||decide (c.dens.length>60))||decide (l.length>10))
 | 0,i,n+1,hi,hn=>by unfold Fq;rw [gB,aZ (by omega),pD (by omega)];show K _=K (false||_);rw [zG];congr 1;rw [Aaa];omega
 | r+1,i,n+1,hi,hn=>by
  unfold Fq;have e1:=gD (n:=(i:Int)+1) (by omega) (by omega);rw [gB,aW (by omega),cM,kG (by omega),aO (by omega),aO (by omega),cP,kB,mG,mH,yJE,uL default (by omega),List.any_cons,e1,lT]
  cases hb:(decide ((l.getD i default).cuts.length>60)||decide ((l.getD i default).dens.length>60)) with
  | true=>rw [bB];rfl
  | false=>rw [aS,zG];exact fc hl K r (i+1) n (by omega) (by omega)
theorem yBo (hl:l.length≤9223372036854775807) (K:Bool→Prop):Fr (aN l) K=K (wG l):=by refine yt3 _ _ (fun K k=>?_) K;unfold Fr Uz;refine ⟨l.length+1,?_⟩;have:=fc hl K l.length 0 (l.length+1) (by omega) (by omega);rw [show ((0:Nat):Int)=0 from rfl,qX] at this;rw [this];exact k
theorem VW (h:wG l=false):l.length≤10∧qQ l∧eF l:=by
 unfold wG at h;simp only [wL,decide_eq_false_iff_not,List.any_eq_false,Bool.not_eq_true,Nat.not_lt] at h;have hh:∀ i,i<l.length→(l.getD i default).cuts.length≤60∧(l.getD i default).dens.length≤60:=by
  intro i hi;have hm:l.getD i default∈l:=by rw [eQ,dU hi];exact De hi
  have:=h.1 _ hm;omega
 exact ⟨by omega,fun i hi=>⟨by have:=hh i hi;omega,by have:=hh i hi;omega⟩,fun i hi=>⟨by have:=hh i hi;omega,by have:=hh i hi;omega⟩⟩
theorem yJF {n d:Int} (hn:-1000000000000000000≤n∧n≤1000000000000000000) (hd:1≤d∧d≤1000000000000000000):small ((n:Rat)/(d:Rat)):=by
 have e:(n:Rat)/(d:Rat)=mkRat n d.toNat:=by
  rw [Rat.mkRat_eq_div];have h1:((d.toNat:Nat):Int)=d:=by omega
  have h2:((d.toNat:Nat):Rat)=(d:Rat):=by rw [← Rat.intCast_natCast,h1]
  rw [h2]
 rw [e];unfold small;rw [Rat.num_mkRat,Rat.den_mkRat,WN (by omega),WN (by omega)];have g0:0<d.toNat.gcd n.natAbs:=Nat.gcd_pos_of_pos_left _ (by omega);have h1:(n/(d.toNat.gcd n.natAbs:Nat)).natAbs≤n.natAbs:=by
  rw [Int.natAbs_ediv_of_dvd,Gb]
  ·exact nB _ _
  ·rw [← Int.dvd_natAbs,Int.ofNat_dvd];exact Gd _ _
 have h2:d.toNat/d.toNat.gcd n.natAbs≤d.toNat:=nB _ _;generalize n/(d.toNat.gcd n.natAbs:Nat)=x at *
 generalize d.toNat/d.toNat.gcd n.natAbs=y at *
 omega
end
theorem FM {D:Int} (h:1≤D):(D:Rat)≠0:=fun e=>by have:=Rat.intCast_eq_zero_iff.1 e;omega
section
variable {len:Int} {cuts dens:List Int}
def rem (cuts dens:List Int):Nat→Nat→Int
 | 0,_=>0
 | r+1,i=>dens.getD i 0*(cuts.getD (i+1) 0-cuts.getD i 0)+rem cuts dens r (i+1)
theorem VX (cuts dens:List Int):∀ (r i:Nat) (s:Int),iW cuts dens r i s=s+rem cuts dens r i
 | 0,i,s=>by unfold iW rem;omega
 | r+1,i,s=>by unfold iW rem;rw [VX cuts dens r (i+1)];omega
theorem fe (h:VC len cuts dens):∀ (r i:Nat),i+r=dens.length→0≤rem cuts dens r i∧rem cuts dens r i≤12*(len-cuts.getD i 0)
 | 0,i,hi=>by have:=h.l1;have:=h.hi (i:=i) (by omega);unfold rem;omega
 | r+1,i,hi=>by unfold rem;have l1:=h.l1;have h2:=h.step (i:=i) (by omega);have h3:=IN (h.den (i:=i) (by omega)) (x:=cuts.getD (i+1) 0-cuts.getD i 0) (by omega);have:=fe h r (i+1) (by omega);omega
theorem ff (h:VC len cuts dens):∀ (r i:Nat),i+r=dens.length→(∃ j,i≤j∧j<dens.length∧0<dens.getD j 0)→0<rem cuts dens r i
 | 0,i,hi,⟨j,h1,h2,_⟩=>by omega
 | r+1,i,hi,⟨j,h1,h2,h3⟩=>by
  unfold rem;have l1:=h.l1;have s:=h.step (i:=i) (by omega);have m:=IN (h.den (i:=i) (by omega)) (x:=cuts.getD (i+1) 0-cuts.getD i 0) (by omega);have b:=fe h r (i+1) (by omega)
  by_cases e:j=i
  ·subst e;have:=Int.mul_pos h3 (show 0<cuts.getD (j+1) 0-cuts.getD j 0 by omega);omega
  ·have:=ff h r (i+1) (by omega) ⟨j,by omega,h2,h3⟩;omega
theorem yK7 (h:VC len cuts dens):0<totC cuts dens:=by unfold totC;rw [VX];obtain ⟨d,hd,h0⟩:=h.2.2.2.2.2.2.2.2.2;obtain ⟨j,hj,e⟩:=List.mem_iff_getElem.1 hd;have:=ff h dens.length 0 (by omega) ⟨j,by omega,hj,by rw [eQ,dU hj];simpa [e] using h0⟩;omega
end
structure Qy where
 agent:Int
 kind:Int
 an:Int
 ad:Int
 bn:Int
 bd:Int
 cn:Int
 cd:Int
 deriving DecidableEq
instance:Inhabited Qy:=⟨⟨0,0,0,0,0,0,0,0⟩⟩
def dZ (q:Qy):PV:=lU q.agent q.kind q.an q.ad q.bn q.bd q.cn q.cd
def aC (l:List Qy):List PV:=l.map dZ
theorem lV (l:List Qy):(aC l).length=l.length:=yZ ..
theorem fh {l:List Qy} {i:Nat} (h:i<l.length):getD (aC l) i .nils=dZ (l.getD i default):=by unfold aC;rw [eQ,eQ,wN,dU h];rfl
theorem AI (l:List Qy):hO 8 (aC l)=true:=by cases l<;>rfl
theorem VY (l m:List Qy):aC (l++m)=aC l++aC m:=List.map_append ..
theorem fi {q:Qy} {P:Prop}:aA (aI (.agg [.i .i64,.i .u8,.i .i64,.i .i64,.i .i64,.i .i64,.i .i64,.i .i64]) (dZ q)) P=P:=rfl
theorem qeq (q r:Qy):((q.agent==r.agent)&&((q.kind==r.kind)&&((q.an==r.an)&&((q.ad==r.ad)&&((q.bn==r.bn)&&((q.bd==r.bd)&&((q.cn==r.cn)&&((q.cd==r.cd)&&true))))))))=decide (q=r):=by
 cases q;cases r
 rw [Bool.eq_iff_iff];simp
theorem yJG {α:Type} [DecidableEq α] (d:α) {a b:List α} {i:Nat} (ha:i<a.length) (hb:i<b.length):decide (a.drop i=b.drop i)=(decide (a.getD i d=b.getD i d)&&decide (a.drop (i+1)=b.drop (i+1))):=by rw [uL d ha,uL d hb,Bool.eq_iff_iff];simp
theorem fj {a b:List Qy} (hab:a.length=b.length) (hl:a.length<4611686018427387904) (K:Bool→Prop) :
  ∀ (r i n:Nat),i+r=a.length→r<n→Co (fun d=>K d) (fun _ _ _ _=>K true) n (aC a) (aC b) i=K (decide (a.drop i=b.drop i))
 | 0,i,n+1,hi,hn=>by unfold Co;rw [lV,aZ (by omega),pD (by omega),pD (by omega)];rfl
 | r+1,i,n+1,hi,hn=>by
  unfold Co;have e1:=gD (n:=(i:Int)+1) (by omega) (by omega);rw [lV,aW (by omega),lV,cM,fh (by omega),fh (by omega),aO (by omega),aO (by omega),fi,aO (by omega),aO (by omega),fi,yJG default (by omega) (by omega),e1,lT];have q2:((aJ (aQ (dZ (a.getD i default)) 0)==aJ (aQ (dZ (b.getD i default)) 0))&&((aJ (aQ (dZ (a.getD i default)) 1)==aJ (aQ (dZ (b.getD i default)) 1))&&((aJ (aQ (dZ (a.getD i default)) 2)==aJ (aQ (dZ (b.getD i default)) 2))&&((aJ (aQ (dZ (a.getD i default)) 3)==aJ (aQ (dZ (b.getD i default)) 3))&&((aJ (aQ (dZ (a.getD i default)) 4)==aJ (aQ (dZ (b.getD i default)) 4))&&((aJ (aQ (dZ (a.getD i default)) 5)==aJ (aQ (dZ (b.getD i default)) 5))&&((aJ (aQ (dZ (a.getD i default)) 6)==aJ (aQ (dZ (b.getD i default)) 6))&&((aJ (aQ (dZ (a.getD i default)) 7)==aJ (aQ (dZ (b.getD i default)) 7))&&true))))))))=decide (a.getD i default=b.getD i default):=qeq (a.getD i default) (b.getD i default);have ih:=fj hab hl K r (i+1) n (by omega) (by omega);refine (WO (fun c=>aB (!c) (K false) (Co (fun d=>K d) (fun e f g h=>K true) n (aC a) (aC b) ((i+1:Nat):Int))) q2).trans ?_
  cases decide (a.getD i default=b.getD i default) with
  | true=>rw [jJ,aS,pI];exact ih
  | false=>rw [jS,bB,mJ]
theorem yGf {a b:List Qy} (ha:a.length<4611686018427387904) (_:b.length<4611686018427387904) (K:Bool→Prop):Fy (aC a) (aC b) K=K (decide (a=b)):=by
 refine ywP _ _ _ (fun K k=>?_) K;unfold Fy UT;rw [lV,lV]
 by_cases h:a.length=b.length
 ·rw [cD (by omega)];refine ⟨a.length+1,?_⟩;have:=fj h ha K a.length 0 (a.length+1) (by omega) (by omega);rw [show ((0:Nat):Int)=0 from rfl,qX,qX] at this;exact this.mpr k
 ·rw [cL (by omega)];rw [Tx (fun e=>h (by rw [e]))] at k;exact k
theorem fk {len len':Int} {cuts dens cuts' dens':List Int} (h:cuts=cuts') (hl:cuts.length<4611686018427387904) (x0:Bool→Prop) (x1:Int→List PV→List PV→Int→List PV→List PV→Int→Bool→Prop) :
  ∀ (r i n:Nat),i+r=cuts.length→r<n→Fo x0 x1 n len (aG cuts) (aG dens) len' (aG cuts') (aG dens') i=x1 len (aG cuts) (aG dens) len' (aG cuts') (aG dens') cuts.length false
 | 0,i,n+1,hi,hn=>by unfold Fo;rw [dI,aZ (by omega),show (i:Int)=cuts.length by omega]
 | r+1,i,n+1,hi,hn=>by subst h;unfold Fo;have e1:=gD (n:=(i:Int)+1) (by omega) (by omega);rw [dI,aW (by omega),cM,aO (by omega),aO (by omega),gM (by omega),aO (by omega),aO (by omega),gM (by omega),cD rfl,e1,lT];exact fk rfl hl x0 x1 r (i+1) n (by omega) (by omega)
theorem fm {len len':Int} {cuts dens cuts' dens':List Int} (h:dens=dens') (hl:dens.length<4611686018427387904) (x0:Bool→Prop) (x1:Int→List PV→List PV→Int→List PV→List PV→Int→Bool→Prop) :
  ∀ (r i n:Nat),i+r=dens.length→r<n→Fp x0 x1 n len (aG cuts) (aG dens) len' (aG cuts') (aG dens') i=x1 len (aG cuts) (aG dens) len' (aG cuts') (aG dens') dens.length false
 | 0,i,n+1,hi,hn=>by unfold Fp;rw [dI,aZ (by omega),show (i:Int)=dens.length by omega]
 | r+1,i,n+1,hi,hn=>by subst h;unfold Fp;have e1:=gD (n:=(i:Int)+1) (by omega) (by omega);rw [dI,aW (by omega),cM,aO (by omega),aO (by omega),gM (by omega),aO (by omega),aO (by omega),gM (by omega),cD rfl,e1,lT];exact fm rfl hl x0 x1 r (i+1) n (by omega) (by omega)
theorem yHA {len:Int} {cuts dens:List Int} (h1:cuts.length<4611686018427387904) (h2:dens.length<4611686018427387904) (K:Bool→Prop):xX len (aG cuts) (aG dens) len (aG cuts) (aG dens) K=K true:=by refine yDF _ _ _ _ _ _ _ (fun K k=>?_) K;unfold xX Uu;rw [cD rfl,cD rfl,cD rfl];refine ⟨cuts.length+1,?_⟩;refine (fk rfl h1 _ _ cuts.length 0 (cuts.length+1) (by omega) (by omega)).mpr ?_;refine ⟨dens.length+1,?_⟩;exact (fm rfl h2 _ _ dens.length 0 (dens.length+1) (by omega) (by omega)).mpr k
theorem fp {l:List Ck} (hf:eF l) (hl:l.length<4611686018427387904) (K:Bool→Prop) :
  ∀ (r i n:Nat),i+r=l.length→r<n→Fv xX (fun a=>(K a)) (fun _ _ _ _=>(K true)) n (aN l) (aN l) i=K true
 | 0,i,n+1,hi,hn=>by unfold Fv;rw [gB,aZ (by omega)]
 | r+1,i,n+1,hi,hn=>by unfold Fv;have e1:=gD (n:=(i:Int)+1) (by omega) (by omega);obtain ⟨f1,f2⟩:=hf i (by omega);rw [gB,aW (by omega),cM,kG (by omega),aO (by omega),aO (by omega),cP,aO (by omega),aO (by omega),cP,kB,mG,mH,yHA (by omega) (by omega),jJ,aS,e1,lT];exact fp hf hl K r (i+1) n (by omega) (by omega)
theorem yAx {l:List Ck} (hf:eF l) (hl:l.length<4611686018427387904) (K:Bool→Prop):Fw (aN l) (aN l) K=K true:=by refine yvw _ _ _ (fun K k=>?_) K;unfold Fw UR;rw [cD rfl];refine ⟨l.length+1,?_⟩;exact (fp hf hl K l.length 0 (l.length+1) (by omega) (by omega)).mpr k
theorem VZ {l:List Ck} (hf:eF l) (hl:l.length<4611686018427387904) {a b:List Qy} (ha:a.length<4611686018427387904) (hb:b.length<4611686018427387904) (K:Bool→Prop) :
  uB (aN l) (aC a) (aN l) (aC b) K=K (decide (a=b)):=by
 unfold uB UV;rw [yAx hf hl,bB,yGf ha hb]
structure Sp where
 a:Int
 b:Int
 c:Int
 d:Int
 deriving DecidableEq
instance:Inhabited Sp:=⟨⟨0,0,0,0⟩⟩
def Wa (s:Sp):PV:=.agg [.int .i64 s.a,.int .i64 s.b,.int .i64 s.c,.int .i64 s.d]
def CJ (e:Except Int Rat):Rat:=match e with | .ok q=>q | .error _=>0
theorem fq {e:Except Int Rat} {q:Rat} (h:e=.ok q):e=.ok (CJ e)∧CJ e=q:=by subst h;exact ⟨rfl,rfl⟩
section
variable {l:List Ck}
theorem ft (hl:l.length≤9223372036854775807) (lg:List PV) (K:Bool→Prop):yeg (aN l) lg K=K (wG l||(decide (lg.length>40∧lg.length<1999)||decide (lg.length>2010))):=by
 unfold yeg UC;rw [yBo hl]
 cases hg:wG l with
 | true=>rw [bB];rfl
 | false=>
  rw [aS,zG];have e:decide ((lg.length:Int)>2010)=decide (lg.length>2010):=by rw [Aaa];omega
  by_cases h:lg.length>40
  ·rw [aW (by omega)]
   by_cases h2:lg.length<1999
   ·rw [aW (by omega),Os ⟨h,h2⟩];rfl
   ·rw [aZ (by omega),Tx (show ¬(lg.length>40∧lg.length<1999) from fun x=>h2 x.2),zG,e]
  ·rw [aZ (by omega),Tx (show ¬(lg.length>40∧lg.length<1999) from fun x=>h x.1),zG,e]
end
def MP:DS:=.a [.i .i64,.i .i64]
def FN:DS:=.a [.i .i64,.s (.i .i64),.s (.i .i64)]
def FO:DS:=.a [.i .i64,.i .u8,MP,MP,MP]
def MQ:DS:=.a [.s FN,.s FO]
theorem fx {n:Int} (h:inK .i64 n):bG n:=by
 have e1:i64.min=-9223372036854775808:=by decide
 have e2:i64.max=9223372036854775807:=by decide
 unfold inK at h;rw [e1,e2] at h;exact h
theorem F_i {c:List PV} (h:HasF (.i .i64) c):∃ n,c=[.int .i64 n]∧bG n:=by simp only [HasF] at h;obtain ⟨n,e,k⟩:=h;exact ⟨n,e,fx k⟩
theorem Wb:∀ (rows:List PV),(∀ x∈rows,x.isAgg=(DS.i .i64).isA∧HasF (.i .i64) x.cells)→∃ l:List Int,rows=aG l∧∀ n∈l,bG n
 | [],_=>⟨[],rfl,by simp⟩
 | x::r,h=>by
  obtain ⟨l,e,hl⟩:=Wb r (fun y hy=>h y (gO _ hy));obtain ⟨h1,h2⟩:=h x (kC ..);obtain ⟨n,e2,hn⟩:=F_i h2;have ex:x=.int .i64 n:=by
   cases x<;>first | (simp only [PV.cells,kJ,and_true] at e2;exact e2) | (cases h1)
  refine ⟨n::l,by rw [ex,e];rfl,?_⟩;intro m hm;rcases qAo.1 hm with rfl | hm
  ·exact hn
  ·exact hl m hm
def Ck.i64 (c:Ck):Prop:=bG c.len∧(∀ n∈c.cuts,bG n)∧∀ n∈c.dens,bG n
theorem F_c {c:List PV} (h:HasF FN c):∃ k:Ck,c=[.int .i64 k.len,.data (aG k.cuts),.data (aG k.dens)]∧k.i64∧k.cuts.length≤9223372036854775807∧k.dens.length≤9223372036854775807:=by simp only [FN,HasF,HasL] at h;obtain ⟨c1,c2,rfl,⟨n,rfl,hn⟩,c3,c4,rfl,⟨r1,rfl,l1,h1⟩,c5,c6,rfl,⟨r2,rfl,l2,h2⟩,rfl⟩:=h;obtain ⟨a,rfl,ha⟩:=Wb r1 (fun x hx=>⟨(h1 x hx).1,by simp only [HasF];exact (h1 x hx).2⟩);obtain ⟨b,rfl,hb⟩:=Wb r2 (fun x hx=>⟨(h2 x hx).1,by simp only [HasF];exact (h2 x hx).2⟩);rw [dI] at l1 l2;exact ⟨⟨n,a,b⟩,rfl,⟨fx hn,ha,hb⟩,l1,l2⟩
theorem Wc {x:PV} {l:List DS} (h:x.isAgg=(DS.a l).isA):x=.agg x.cells:=by
 cases x<;>first | rfl | cases h
theorem fy:∀ (rows:List PV),(∀ x∈rows,x.isAgg=FN.isA∧HasF FN x.cells)→∃ l:List Ck,rows=aN l∧∀ c∈l,c.i64
 | [],_=>⟨[],rfl,by simp⟩
 | x::r,h=>by
  obtain ⟨l,e,hl⟩:=fy r (fun y hy=>h y (gO _ hy));obtain ⟨h1,h2⟩:=h x (kC ..);obtain ⟨k,e2,hk,_⟩:=F_c h2;have ex:x=kA k:=by rw [Wc h1,e2];rfl
  refine ⟨k::l,by rw [ex,e];rfl,?_⟩;intro m hm;rcases qAo.1 hm with rfl | hm
  ·exact hk
  ·exact hl m hm
theorem F_q {c:List PV} (h:HasF FO c):∃ q:Qy,c=[.int .i64 q.agent,.int .u8 q.kind,.int .i64 q.an,.int .i64 q.ad,.int .i64 q.bn,.int .i64 q.bd,.int .i64 q.cn,.int .i64 q.cd]:=by simp only [FO,MP,HasF,HasL] at h;obtain ⟨_,_,rfl,⟨a,rfl,_⟩,_,_,rfl,⟨b,rfl,_⟩,_,_,rfl,⟨_,_,rfl,⟨c,rfl,_⟩,_,_,rfl,⟨d,rfl,_⟩,rfl⟩,_,_,rfl,⟨_,_,rfl,⟨e,rfl,_⟩,_,_,rfl,⟨f,rfl,_⟩,rfl⟩,_,_,rfl,⟨_,_,rfl,⟨g,rfl,_⟩,_,_,rfl,⟨i,rfl,_⟩,rfl⟩,rfl⟩:=h;exact ⟨⟨a,b,c,d,e,f,g,i⟩,rfl⟩
theorem gf:∀ (rows:List PV),(∀ x∈rows,x.isAgg=FO.isA∧HasF FO x.cells)→∃ l:List Qy,rows=aC l
 | [],_=>⟨[],rfl⟩
 | x::r,h=>by
  obtain ⟨l,e⟩:=gf r (fun y hy=>h y (gO _ hy));obtain ⟨h1,h2⟩:=h x (kC ..);obtain ⟨k,e2⟩:=F_q h2;have ex:x=dZ k:=by rw [Wc h1,e2];rfl
  exact ⟨k::l,by rw [ex,e];rfl⟩
theorem yNG {c:List PV} (h:HasF (.s FN) c):∃ l:List Ck,c=[.data (aN l)]∧l.length≤9223372036854775807∧∀ k∈l,k.i64:=by simp only [HasF] at h;obtain ⟨rows,rfl,hl,hr⟩:=h;obtain ⟨l,rfl,hi⟩:=fy rows hr;rw [gB] at hl;exact ⟨l,rfl,hl,hi⟩
theorem yNd {c:List PV} (h:HasF (.s FO) c):∃ l:List Qy,c=[.data (aC l)]∧l.length≤9223372036854775807:=by simp only [HasF] at h;obtain ⟨rows,rfl,hl,hr⟩:=h;obtain ⟨l,rfl⟩:=gf rows hr;rw [lV] at hl;exact ⟨l,rfl,hl⟩
section
variable {l:List Ck}
def fU (r:List Nat):List PV:=aG (r.map fun n:Nat=>(n:Int))
theorem gh (r:List Nat):(fU r).length=r.length:=by unfold fU;rw [dI,yZ]
theorem yNe {r:List Nat} {i:Nat} (h:i<r.length):getD (fU r) i .nils=.int .i64 (r.getD i 0):=by unfold fU;rw [VB (by rw [yZ];exact h)];rw [eQ,wN,dU h,eQ,dU h];rfl
end
end Go.Pf.Vc
namespace Go.Pf.Vc
abbrev RS:Type:=Rat×Rat
def dA (a b:Rat):Rat:=if a<b then b else a
def kV (a b:Rat):Rat:=if a<b then a else b
theorem pB (a b:Rat):a≤dA a b∧b≤dA a b∧(dA a b=a∨dA a b=b):=by unfold dA;split<;>grind
theorem sH (a b:Rat):kV a b≤a∧kV a b≤b∧(kV a b=a∨kV a b=b):=by unfold kV;split<;>grind
end Go.Pf.Vc
namespace Go.Pf.Vc
open Go Go.Pf
def Wd (r:RS):Sp:=⟨r.1.num,r.1.den,r.2.num,r.2.den⟩
def fG (r:RS):PV:=Wa (Wd r)
theorem asTr (P:Prop):aA (decide True) P=P:=by rw [decide_true];rfl
def dR (q:Rat):PV:=.agg [.int .i64 q.num,.int .i64 q.den]
def dG (l:List Rat):List PV:=l.map dR
theorem We (l:List Rat):(dG l).length=l.length:=yZ ..
theorem MR {l:List Rat} {i:Nat} (h:i<l.length):getD (dG l) i .nils=dR (l.getD i 0):=by unfold dG;rw [eQ,eQ,wN,dU h];rfl
theorem gi (q:Rat):aJ (aQ (dR q) 0)=q.num:=rfl
theorem gj (q:Rat):aJ (aQ (dR q) 1)=q.den:=rfl
theorem gk (q:Rat) (P:Prop):aA (aI z2 (dR q)) P=P:=rfl
theorem ez (P Q:Prop):aB ((0:Int)==0) P Q=P:=rfl
section
variable (V:Rat→Rat)
def dV (s:RS):Rat:=V s.2-V s.1
end
section
variable {len:Int} {cuts dens:List Int}
def uC (cuts:List Int) (i:Nat) (x:Rat):Rat:=kV (dA x (cuts.getD i 0:Int)) (cuts.getD (i+1) 0:Int)
def vu (cuts dens:List Int) (x:Rat):Nat→Nat→Rat
 | 0,_=>0
 | r+1,i=>(dens.getD i 0:Int)*uC cuts i x+vu cuts dens x r (i+1)
theorem IR (h:VC len cuts dens):∀ (r i:Nat) {x y:Rat},i+r=dens.length→x≤(cuts.getD i 0:Int)→y≤(cuts.getD i 0:Int)→vu cuts dens x r i=vu cuts dens y r i
 | 0,_,_,_,_,_,_=>rfl
 | r+1,i,x,y,hi,hx,hy=>by
  have l1:=h.l1;have hst:((cuts.getD i 0:Int):Rat)<((cuts.getD (i+1) 0:Int):Rat):=CX.2 (h.step (i:=i) (by omega));have ih:=IR h r (i+1) (x:=x) (y:=y) (by omega) (by grind) (by grind);unfold vu;rw [ih];have e:uC cuts i x=uC cuts i y:=by
   unfold uC;have a1:=pB x (cuts.getD i 0:Int);have a2:=pB y (cuts.getD i 0:Int);have e1:dA x (cuts.getD i 0:Int)=(cuts.getD i 0:Int):=by grind
   have e2:dA y (cuts.getD i 0:Int)=(cuts.getD i 0:Int):=by grind
   rw [e1,e2]
  rw [e]
theorem AJ {α:Type} {q:Rat} {k:Rat→Except Int α} {v:α} (h:eO q k=.ok v):k q=.ok v:=by
 unfold eO at h;split at h
 ·exact h
 ·cases h
theorem MS (h:VC len cuts dens) {b:Rat}:∀ (r i:Nat) (p sum v:Rat),i+r=dens.length→p≤b→(p=b∨((cuts.getD i 0:Int):Rat)≤p)→valS cuts dens b r i p sum=.ok v→v=sum+(vu cuts dens b r i-vu cuts dens p r i)
 | 0,i,p,sum,v,hi,hp,hc,hv=>by
  unfold valS at hv
  cases hv
  unfold vu;grind
 | r+1,i,p,sum,v,hi,hp,hc,hv=>by
  have l1:=h.l1;have hst:((cuts.getD i 0:Int):Rat)<((cuts.getD (i+1) 0:Int):Rat):=CX.2 (h.step (i:=i) (by omega));unfold valS at hv;dsimp only at hv;have hen:∃ en:Rat,(if b<((cuts.getD (i+1) 0:Int):Rat) then b else ((cuts.getD (i+1) 0:Int):Rat))=en∧en≤b∧en≤((cuts.getD (i+1) 0:Int):Rat)∧(en=b∨en=((cuts.getD (i+1) 0:Int):Rat)):=by refine ⟨_,rfl,?_⟩;split<;>grind
  obtain ⟨en,e0,he1,he2,he3⟩:=hen;rw [e0] at hv;have low:=IR h r (i+1) (x:=en) (y:=p) (by omega);have m1:=pB b (cuts.getD i 0:Int);have m2:=pB p (cuts.getD i 0:Int);have n1:=sH (dA b (cuts.getD i 0:Int)) (cuts.getD (i+1) 0:Int);have n2:=sH (dA p (cuts.getD i 0:Int)) (cuts.getD (i+1) 0:Int);unfold vu uC;generalize ((cuts.getD i 0:Int):Rat)=c0 at *
  generalize hc1:((cuts.getD (i+1) 0:Int):Rat)=c1 at *
  by_cases hlt:p<en
  ·have hb:kV (dA b c0) c1=en:=by grind
   have hq:kV (dA p c0) c1=p:=by grind
   by_cases hd:dens.getD i 0=0
   ·rw [WM (.inl hd),WM hlt] at hv;have ih:=MS h r (i+1) en sum v (by omega) he1 (by rw [hc1];grind) hv;rw [ih,hd,low (by grind) (by grind)];grind
   ·rw [WN (by intro k;rcases k with k | k;exact hd k;exact k hlt)] at hv;have hv:=AJ (AJ (AJ hv));have ih:=MS h r (i+1) en _ v (by omega) he1 (by rw [hc1];grind) hv;rw [ih,low (by grind) (by grind),hb,hq];grind
  ·rw [WM (.inr hlt),WN hlt] at hv;have ih:=MS h r (i+1) p sum v (by omega) hp (by rw [hc1];grind) hv;have:kV (dA b c0) c1=kV (dA p c0) c1:=by grind
   rw [ih,this];grind
def vX (cuts dens:List Int) (x:Rat):Rat:=vu cuts dens x dens.length 0
theorem yMc (h:VC len cuts dens) {a b v:Rat} (h0:0≤a) (hab:a≤b) (hv:yL cuts dens a b=.ok v):v=vX cuts dens b-vX cuts dens a:=by have c0:cuts.getD 0 0=0:=h.2.2.2.2.2.1;have:=MS h dens.length 0 a 0 v (by omega) hab (.inr (by rw [c0];exact h0)) hv;unfold vX;rw [this];grind
theorem gm (h:VC len cuts dens) {i:Nat} (hi:i+1<cuts.length) {x y:Rat} (hxy:x≤y):uC cuts i x≤uC cuts i y:=by have hst:((cuts.getD i 0:Int):Rat)<((cuts.getD (i+1) 0:Int):Rat):=CX.2 (h.step (i:=i) hi);have m1:=pB x (cuts.getD i 0:Int);have m2:=pB y (cuts.getD i 0:Int);have n1:=sH (dA x (cuts.getD i 0:Int)) (cuts.getD (i+1) 0:Int);have n2:=sH (dA y (cuts.getD i 0:Int)) (cuts.getD (i+1) 0:Int);unfold uC;grind
theorem gn (h:VC len cuts dens) {i:Nat} (hi:i<dens.length):(0:Rat)≤((dens.getD i 0:Int):Rat):=Rat.intCast_nonneg.2 (h.den hi).1
theorem Wf (h:VC len cuts dens) {x y:Rat} (hxy:x≤y):∀ (r i:Nat),i+r=dens.length→vu cuts dens x r i≤vu cuts dens y r i
 | 0,_,_=>iM
 | r+1,i,hi=>by have l1:=h.l1;have h1:=gm h (i:=i) (by omega) hxy;have h2:=Wf h hxy r (i+1) (by omega);have h3:=FT h1 (gn h (i:=i) (by omega));unfold vu;grind
theorem IS (h:VC len cuts dens) {x y:Rat} (hxy:x≤y):vX cuts dens x≤vX cuts dens y:=Wf h hxy dens.length 0 (by omega)
theorem MT (h:VC len cuts dens):∀ (r i:Nat) (p v q:Rat),i+r=dens.length→0<v→((cuts.getD i 0:Int):Rat)≤p→mrkS cuts dens r i p v=.ok q →
  vu cuts dens q r i-vu cuts dens p r i=v∧p<q∧q≤((cuts.getD dens.length 0:Int):Rat)∧∀ x,x<q→vu cuts dens x r i<vu cuts dens q r i
 | 0,_,_,_,_,_,_,_,e=>by cases e
 | r+1,i,p,v,q,hi,hv,hp,e=>by
  have l1:=h.l1;have hst:((cuts.getD i 0:Int):Rat)<((cuts.getD (i+1) 0:Int):Rat):=CX.2 (h.step (i:=i) (by omega));have hd:=h.den (i:=i) (by omega);have hd0:=gn h (i:=i) (by omega);have low:=fun {x y:Rat}=>IR h r (i+1) (x:=x) (y:=y) (by omega)
  have hmon:=fun {x:Rat} (hx:x<q)=>gm h (i:=i) (by omega) (lY hx)
  have hmon2:=fun {x:Rat} (hx:x<q)=>Wf h (lY hx) r (i+1) (by omega)
  have m1:=pB p (cuts.getD i 0:Int);have m2:=pB q (cuts.getD i 0:Int);have n1:=sH (dA p (cuts.getD i 0:Int)) (cuts.getD (i+1) 0:Int);have n2:=sH (dA q (cuts.getD i 0:Int)) (cuts.getD (i+1) 0:Int);unfold mrkS at e
  by_cases c1:p<((cuts.getD (i+1) 0:Int):Rat)
  case neg=>
   rw [WM c1] at e;obtain ⟨a1,a2,a3,a4⟩:=MT h r (i+1) p v q (by omega) hv (Rat.not_lt.1 c1) e;have eq:uC cuts i q=uC cuts i p:=by unfold uC;grind
   refine ⟨by unfold vu;rw [eq];grind,a2,a3,fun x hx=>?_⟩;have b1:=a4 x hx;have b2:=FT (hmon hx) hd0;unfold vu;grind
  rw [WN (fun k=>k c1)] at e
  by_cases c2:dens.getD i 0=0
  ·rw [WM c2] at e;obtain ⟨a1,a2,a3,a4⟩:=MT h r (i+1) _ v q (by omega) hv iM e;have e2:=low (x:=p) (y:=((cuts.getD (i+1) 0:Int):Rat)) (lY c1) iM;refine ⟨by unfold vu;rw [e2,c2];grind,by grind,a3,fun x hx=>?_⟩;have b1:=a4 x hx;have b2:=FT (hmon hx) hd0;unfold vu;grind
  rw [WN c2] at e;have e:=AJ (AJ e);have dpos:(0:Rat)<((dens.getD i 0:Int):Rat):=Rat.intCast_pos.2 (by omega);have up:uC cuts i p=p:=by unfold uC;grind
  by_cases c3:(((cuts.getD (i+1) 0:Int):Rat)-p)*((dens.getD i 0:Int):Rat)<v
  ·rw [WM c3] at e;have e:=AJ e;obtain ⟨a1,a2,a3,a4⟩:=MT h r (i+1) _ _ q (by omega) (by grind) iM e;have e2:=low (x:=p) (y:=((cuts.getD (i+1) 0:Int):Rat)) (lY c1) iM;have uq:uC cuts i q=((cuts.getD (i+1) 0:Int):Rat):=by unfold uC;grind
   refine ⟨by unfold vu;rw [e2,up,uq];grind,by grind,a3,fun x hx=>?_⟩;have b1:=a4 x hx;have b2:=FT (hmon hx) hd0;unfold vu;grind
  ·rw [WN c3] at e;have e:=AJ (AJ e)
   cases e
   generalize hs:v/((dens.getD i 0:Int):Rat)=s at *
   have es:s*((dens.getD i 0:Int):Rat)=v:=by rw [← hs];exact Rat.div_mul_cancel (by grind)
   have s0:0<s:=by
    refine Rat.not_le.1 fun k=>?_
    have:=Rat.mul_le_mul_of_nonneg_right k hd0;grind
   have s1:p+s≤((cuts.getD (i+1) 0:Int):Rat):=by
    refine Rat.not_lt.1 fun k=>?_
    have:(((cuts.getD (i+1) 0:Int):Rat)-p)<s:=by grind
    have:=Rat.mul_lt_mul_of_pos_right this dpos;grind
   have uq:uC cuts i (p+s)=p+s:=by unfold uC;grind
   have e2:=low (x:=p+s) (y:=p) s1 (lY c1);have hlast:cuts.getD (i+1) 0≤cuts.getD dens.length 0:=h.mono (by omega) (by omega);have hlast:((cuts.getD (i+1) 0:Int):Rat)≤((cuts.getD dens.length 0:Int):Rat):=qT.2 hlast;refine ⟨by unfold vu;rw [e2,up,uq];grind,by grind,by grind,fun x hx=>?_⟩;have b1:=hmon2 hx;have ux:uC cuts i x<p+s:=by have k1:=pB x (cuts.getD i 0:Int);have k2:=sH (dA x (cuts.getD i 0:Int)) (cuts.getD (i+1) 0:Int);unfold uC;grind
   have b2:=Rat.mul_lt_mul_of_pos_left ux dpos;unfold vu;rw [uq];grind
theorem VC.last (h:VC len cuts dens):cuts.getD dens.length 0=len:=by have l1:=h.l1;have:=h.2.2.2.2.2.2.1;rw [show dens.length=cuts.length-1 by omega];exact this
theorem yMd (h:VC len cuts dens) {a v q:Rat} (h0:0≤a) (h1:a≤(len:Rat)) (hv:0≤v) (e:mrkC cuts dens a v=.ok q) :
  vX cuts dens q=vX cuts dens a+v∧a≤q∧q≤(len:Rat)∧(v=0→a=q)∧(v≠0→∀ x,x<q→vX cuts dens x<vX cuts dens q):=by
 unfold mrkC at e
 by_cases c:v=0
 ·rw [WM c] at e
  cases e
  rw [c];exact ⟨by grind,iM,h1,fun _=>rfl,fun k=>absurd rfl k⟩
 ·rw [WN c] at e;have c0:cuts.getD 0 0=0:=h.2.2.2.2.2.1;obtain ⟨a1,a2,a3,a4⟩:=MT h dens.length 0 a v q (by omega) (by grind) (by rw [c0];exact h0) e;rw [h.last] at a3;exact ⟨by unfold vX;grind,lY a2,a3,fun k=>absurd k c,fun _=>a4⟩
end
def In (D:Int) (q:Rat):Prop:=∃ n:Int,q=(n:Rat)/(D:Rat)
theorem In.int {D:Int} (h:1≤D) (c:Int):In D (c:Rat):=⟨c*D,by rw [wQ,Rat.mul_div_cancel (FM h)]⟩
theorem In.add {D:Int} {q r:Rat} (h:In D q) (k:In D r):In D (q+r):=by obtain ⟨n,rfl⟩:=h;obtain ⟨m,rfl⟩:=k;exact ⟨n+m,by rw [Rat.intCast_add];grind⟩
theorem In.sub {D:Int} {q r:Rat} (h:In D q) (k:In D r):In D (q-r):=by obtain ⟨n,rfl⟩:=h;obtain ⟨m,rfl⟩:=k;exact ⟨n-m,by rw [Rat.intCast_sub];grind⟩
theorem In.mulI {D:Int} {q:Rat} (h:In D q) (d:Int):In D (q*(d:Rat)):=by obtain ⟨n,rfl⟩:=h;exact ⟨n*d,by rw [wQ];grind⟩
theorem In.up {D d:Int} {q:Rat} (hD:1≤D) (hd:1≤d) (h:In D q):In (d*D) q:=by obtain ⟨n,rfl⟩:=h;have h1:=FM hD;have h2:=FM hd;refine ⟨d*n,?_⟩;rw [wQ,wQ];grind
theorem In.div {D d:Int} {q:Rat} (hD:1≤D) (hd:1≤d) (h:In D q):In (d*D) (q/(d:Rat)):=by obtain ⟨n,rfl⟩:=h;have h1:=FM hD;have h2:=FM hd;refine ⟨n,?_⟩;rw [wQ];grind
theorem In.small {D M:Int} {q:Rat} (h:In D q) (hD:1≤D∧D≤1000000000000000000) (hM:M*D≤1000000000000000000) (h0:-(M:Rat)≤q) (h1:q≤(M:Rat)):small q:=by
 obtain ⟨n,rfl⟩:=h;have hp:(0:Rat)<(D:Rat):=Rat.intCast_pos.2 (by omega);have e:(n:Rat)/(D:Rat)*(D:Rat)=(n:Rat):=Rat.div_mul_cancel (FM hD.1);have a:=Rat.mul_le_mul_of_nonneg_right h0 (lY hp);have b:=Rat.mul_le_mul_of_nonneg_right h1 (lY hp);rw [e] at a b;have a':((-(M*D):Int):Rat)≤(n:Rat):=by rw [Rat.intCast_neg,wQ];grind
 have b':(n:Rat)≤((M*D:Int):Rat):=by rw [wQ];exact b
 have a2:=qT.1 a';have b2:=qT.1 b';exact yJF (d:=D) ⟨by omega,by omega⟩ ⟨by omega,by omega⟩
section
variable {len:Int} {cuts dens:List Int}
theorem MU (h:VC len cuts dens) {i j:Nat} (hij:i≤j) (hj:j≤dens.length):((cuts.getD i 0:Int):Rat)≤((cuts.getD j 0:Int):Rat):=qT.2 (h.mono hij (by have:=h.l1;omega))
theorem yNH {D:Int} (hD:1≤D) {x:Rat} (hx:In D x) (i:Nat):In D (uC cuts i x):=by
 have n1:=sH (dA x (cuts.getD i 0:Int)) (cuts.getD (i+1) 0:Int);have m1:=pB x (cuts.getD i 0:Int);unfold uC;rcases n1.2.2 with e | e
 ·rw [e];rcases m1.2.2 with e2 | e2
  ·rw [e2];exact hx
  ·rw [e2];exact In.int hD _
 ·rw [e];exact In.int hD _
theorem gr {D:Int} (hD:1≤D) {x:Rat} (hx:In D x):∀ (r i:Nat),In D (vu cuts dens x r i)
 | 0,_=>In.int hD 0
 | r+1,i=>by unfold vu;rw [Rat.mul_comm];exact ((yNH hD hx i).mulI _).add (gr hD hx r (i+1))
theorem gu {D:Int} (hD:1≤D) {x:Rat} (hx:In D x):In D (vX cuts dens x):=gr hD hx _ _
theorem gv (h:VC len cuts dens):∀ (r i:Nat),i+r=dens.length→vu cuts dens (len:Rat) r i-vu cuts dens ((cuts.getD i 0:Int):Rat) r i=((rem cuts dens r i:Int):Rat)
 | 0,_,_=>by unfold vu rem;show (0:Rat)-0=0;grind
 | r+1,i,hi=>by
  have ih:=gv h r (i+1) (by omega);have hst:((cuts.getD i 0:Int):Rat)≤((cuts.getD (i+1) 0:Int):Rat):=MU h (Nat.le_succ i) (by omega);have hl:((cuts.getD (i+1) 0:Int):Rat)≤(len:Rat):=by rw [← h.last];exact MU h (by omega) (bW _)
  have low:=IR h r (i+1) (x:=((cuts.getD i 0:Int):Rat)) (y:=((cuts.getD (i+1) 0:Int):Rat)) (by omega) hst iM;have m1:=pB (len:Rat) (cuts.getD i 0:Int);have n1:=sH (dA (len:Rat) (cuts.getD i 0:Int)) (cuts.getD (i+1) 0:Int);have m2:=pB ((cuts.getD i 0:Int):Rat) (cuts.getD i 0:Int);have n2:=sH (dA ((cuts.getD i 0:Int):Rat) (cuts.getD i 0:Int)) (cuts.getD (i+1) 0:Int);have e1:uC cuts i (len:Rat)=((cuts.getD (i+1) 0:Int):Rat):=by unfold uC;grind
  have e2:uC cuts i ((cuts.getD i 0:Int):Rat)=((cuts.getD i 0:Int):Rat):=by unfold uC;grind
  unfold vu rem;rw [e1,e2,low,Rat.intCast_add,wQ,Rat.intCast_sub,← ih];grind
theorem MV (h:VC len cuts dens):vX cuts dens (len:Rat)-vX cuts dens 0=((totC cuts dens:Int):Rat):=by have c0:cuts.getD 0 0=0:=h.2.2.2.2.2.1;have:=gv h dens.length 0 (by omega);rw [c0] at this;unfold totC;rw [VX,show (0:Int)+rem cuts dens dens.length 0=rem cuts dens dens.length 0 by omega];exact this
theorem gw (h:VC len cuts dens):(1:Rat)≤(len:Rat)∧(len:Rat)≤1000:=by have:=h.len0;exact ⟨qT.2 this.1,qT.2 this.2⟩
theorem gx (h:VC len cuts dens) {i:Nat} (hi:i<dens.length):(0:Rat)≤((dens.getD i 0:Int):Rat)∧((dens.getD i 0:Int):Rat)≤12:=by have:=h.den hi;exact ⟨qT.2 this.1,qT.2 this.2⟩
theorem gy {x d:Rat} (h0:0≤x) (hd:0≤d∧d≤12):0≤x*d∧x*d≤12*x:=by have a:=Rat.mul_nonneg h0 hd.1;have b:=FT hd.2 h0;exact ⟨a,by grind⟩
theorem Wg (h:VC len cuts dens) {D:Int} (hD:1≤D∧D≤50000000000000) {b:Rat} (hb:In D b) (b1:b≤(len:Rat)) :
  ∀ (r i:Nat) (p sum:Rat),i+r=dens.length→In D p→In D sum→0≤p→p≤(len:Rat)→0≤sum→sum≤12*p→∃ v,valS cuts dens b r i p sum=.ok v
 | 0,i,p,sum,_,_,_,_,_,_,_=>⟨sum,rfl⟩
 | r+1,i,p,sum,hi,hp,hs,p0,p1,s0,s1=>by
  have l1:=h.l1;have hl:=gw h;have hd:=gx h (i:=i) (by omega);have hc1:((cuts.getD (i+1) 0:Int):Rat)≤(len:Rat):=by rw [← h.last];exact MU h (by omega) (bW _)
  unfold valS;have hen:∃ en:Rat,(if b<((cuts.getD (i+1) 0:Int):Rat) then b else ((cuts.getD (i+1) 0:Int):Rat))=en∧In D en∧en≤(len:Rat):=by
   refine ⟨_,rfl,?_,?_⟩
   ·split
    ·exact hb
    ·exact In.int hD.1 _
   ·split<;>grind
  obtain ⟨en,e0,e1,e2⟩:=hen;rw [e0];dsimp only;split
  ·refine Wg h hD hb b1 r (i+1) _ sum (by omega) ?_ hs ?_ ?_ s0 ?_
   ·split
    ·exact e1
    ·exact hp
   ·split<;>grind
   ·split<;>grind
   ·split<;>grind
  ·rename_i hn;have hlt:p<en:=by
    refine Classical.byContradiction fun k=>hn (.inr k)
   have m:=gy (x:=en-p) (by grind) hd;have i1:=e1.sub hp;have i2:=i1.mulI (dens.getD i 0);have i3:=hs.add i2;rw [kU (i1.small (M:=1000) ⟨by omega,by omega⟩ (by omega) (by show -(1000:Rat)≤_;grind) (by show _≤(1000:Rat);grind)),
    kU (i2.small (M:=12000) ⟨by omega,by omega⟩ (by omega) (by show -(12000:Rat)≤_;grind) (by show _≤(12000:Rat);grind)),
    kU (i3.small (M:=12000) ⟨by omega,by omega⟩ (by omega) (by show -(12000:Rat)≤_;grind) (by show _≤(12000:Rat);grind))]
   exact Wg h hD hb b1 r (i+1) en _ (by omega) e1 i3 (by grind) e2 (by grind) (by grind)
theorem yJH (h:VC len cuts dens) {D:Int} (hD:1≤D∧D≤50000000000000) {a b:Rat} (ha:In D a) (hb:In D b) (a0:0≤a) (hab:a≤b) (b1:b≤(len:Rat)):yL cuts dens a b=.ok (vX cuts dens b-vX cuts dens a):=by obtain ⟨v,e⟩:=Wg h hD hb b1 dens.length 0 a 0 (by omega) ha (In.int hD.1 0) a0 (by grind) (by grind) (by grind);have e:yL cuts dens a b=.ok v:=e;rw [e,yMc h a0 hab e]
theorem yLd (h:VC len cuts dens) {s:RS} (hv:s.1<s.2) (hw:0≤s.1∧s.2≤(len:Rat)):0≤dV (vX cuts dens) s∧dV (vX cuts dens) s≤12000:=by have a:=IS h hw.1;have b:=IS h hw.2;have c:=IS h (lY hv);have t:=MV h;have tb:=qT.2 (da h).2;have tb:((totC cuts dens:Int):Rat)≤12000:=tb;show 0≤vX cuts dens s.2-vX cuts dens s.1∧vX cuts dens s.2-vX cuts dens s.1≤12000;grind
end
def QR (cs:List Ck) (q:Qy):Prop:=
 (0≤q.agent∧q.agent<cs.length)∧(bG q.an∧bG q.ad∧bG q.bn∧bG q.bd) ∧
  ∃ p:Rat,(q.cn=p.num∧q.cd=p.den) ∧
   ((q.kind=2∧fP (cs.getD q.agent.toNat default).len (cs.getD q.agent.toNat default).cuts (cs.getD q.agent.toNat default).dens q.an q.ad q.bn q.bd=.ok p) ∨
    (q.kind=1∧jF (cs.getD q.agent.toNat default).len (cs.getD q.agent.toNat default).cuts (cs.getD q.agent.toNat default).dens q.an q.ad q.bn q.bd=.ok p))
section
variable {len:Int} {cuts dens:List Int}
theorem MW (h:VC len cuts dens):∀ (r i:Nat) (p v:Rat),i+r=dens.length→((cuts.getD i 0:Int):Rat)≤p→p≤(len:Rat)→0<v→v≤vu cuts dens (len:Rat) r i-vu cuts dens p r i →
  ∀ D,1≤D→D≤1000000000000→In D p→In D v→v≤12000→∃ q d,mrkS cuts dens r i p v=.ok q∧(1≤d∧d≤12)∧In (d*D) q
 | 0,i,p,v,hi,_,_,v0,v1=>by unfold vu at v1;grind
 | r+1,i,p,v,hi,hp,p1,v0,v1=>by
  intro D D1 D2 hpD hvD hv;have l1:=h.l1;have hl:=gw h;have hd:=gx h (i:=i) (by omega);have hd2:=h.den (i:=i) (by omega);have hc0:(0:Rat)≤((cuts.getD i 0:Int):Rat):=Rat.intCast_nonneg.2 (h.lo (by omega));have hst:((cuts.getD i 0:Int):Rat)<((cuts.getD (i+1) 0:Int):Rat):=CX.2 (h.step (i:=i) (by omega));have hc1:((cuts.getD (i+1) 0:Int):Rat)≤(len:Rat):=by rw [← h.last];exact MU h (by omega) (bW _)
  have low:=IR h r (i+1) (x:=p) (y:=((cuts.getD (i+1) 0:Int):Rat)) (by omega);have m1:=pB p (cuts.getD i 0:Int);have m2:=pB (len:Rat) (cuts.getD i 0:Int);have n1:=sH (dA p (cuts.getD i 0:Int)) (cuts.getD (i+1) 0:Int);have n2:=sH (dA (len:Rat) (cuts.getD i 0:Int)) (cuts.getD (i+1) 0:Int);have el:uC cuts i (len:Rat)=((cuts.getD (i+1) 0:Int):Rat):=by unfold uC;grind
  unfold vu at v1;rw [el] at v1;unfold mrkS
  by_cases c1:p<((cuts.getD (i+1) 0:Int):Rat)
  case neg=>
   rw [WM c1];have ep:uC cuts i p=((cuts.getD (i+1) 0:Int):Rat):=by unfold uC;grind
   rw [ep] at v1;exact MW h r (i+1) p v (by omega) (Rat.not_lt.1 c1) p1 v0 (by grind) D D1 D2 hpD hvD hv
  rw [WN (fun k=>k c1)];have ep:uC cuts i p=p:=by unfold uC;grind
  rw [ep,low (lY c1) iM] at v1
  by_cases cz:dens.getD i 0=0
  ·rw [WM cz];rw [cz] at v1;have e0:((0:Int):Rat)=0:=rfl;exact MW h r (i+1) ((cuts.getD (i+1) 0:Int):Rat) v (by omega) iM hc1 v0 (by grind) D D1 D2 (In.int D1 _) hvD hv
  rw [WN cz];have hd1:0<dens.getD i 0:=by omega
  have dpos:(0:Rat)<((dens.getD i 0:Int):Rat):=Rat.intCast_pos.2 hd1;have m:=gy (x:=((cuts.getD (i+1) 0:Int):Rat)-p) (by grind) hd
  by_cases c3:(((cuts.getD (i+1) 0:Int):Rat)-p)*((dens.getD i 0:Int):Rat)<v
  ·have i1:=(In.int D1 (cuts.getD (i+1) 0)).sub hpD;have i2:=i1.mulI (dens.getD i 0);have i3:=hvD.sub i2;rw [kU (i1.small (M:=1000) ⟨by omega,by omega⟩ (by omega) (by show -(1000:Rat)≤_;grind) (by show _≤(1000:Rat);grind)),
    kU (i2.small (M:=12000) ⟨by omega,by omega⟩ (by omega) (by show -(12000:Rat)≤_;grind) (by show _≤(12000:Rat);grind)),WM c3,
    kU (i3.small (M:=12000) ⟨by omega,by omega⟩ (by omega) (by show -(12000:Rat)≤_;grind) (by show _≤(12000:Rat);grind))]
   exact MW h r (i+1) ((cuts.getD (i+1) 0:Int):Rat) (v-(((cuts.getD (i+1) 0:Int):Rat)-p)*((dens.getD i 0:Int):Rat)) (by omega) iM hc1 (by grind) (by grind) D D1 D2 (In.int D1 _) i3 (by grind)
  ·have i1:=(In.int D1 (cuts.getD (i+1) 0)).sub hpD;have i2:=i1.mulI (dens.getD i 0);have i3:=hvD.div D1 (d:=dens.getD i 0) (by omega);have i4:=(hpD.up D1 (d:=dens.getD i 0) (by omega)).add i3;have hDD:dens.getD i 0*D≤12*D:=AL hd2.2 (by omega);have hDD1:1*1≤dens.getD i 0*D:=oN (by omega) D1 (by omega) (by omega);generalize hs:v/((dens.getD i 0:Int):Rat)=s at *
   have es:s*((dens.getD i 0:Int):Rat)=v:=by rw [← hs];exact Rat.div_mul_cancel (by grind)
   have s0:0≤s:=by
    refine Rat.not_lt.1 fun k=>?_
    have:=Rat.mul_lt_mul_of_pos_right k dpos;grind
   have s1:p+s≤((cuts.getD (i+1) 0:Int):Rat):=by
    refine Rat.not_lt.1 fun k=>?_
    have:(((cuts.getD (i+1) 0:Int):Rat)-p)<s:=by grind
    have:=Rat.mul_lt_mul_of_pos_right this dpos;grind
   rw [kU (i1.small (M:=1000) ⟨by omega,by omega⟩ (by omega) (by show -(1000:Rat)≤_;grind) (by show _≤(1000:Rat);grind)),
    kU (i2.small (M:=12000) ⟨by omega,by omega⟩ (by omega) (by show -(12000:Rat)≤_;grind) (by show _≤(12000:Rat);grind)),WN c3,
    kU (i3.small (M:=1000) ⟨by omega,by omega⟩ (by omega) (by show -(1000:Rat)≤_;grind) (by show _≤(1000:Rat);grind)),
    kU (i4.small (M:=1000) ⟨by omega,by omega⟩ (by omega) (by show -(1000:Rat)≤_;grind) (by show _≤(1000:Rat);grind))]
   exact ⟨_,dens.getD i 0,rfl,⟨by omega,hd2.2⟩,i4⟩
theorem ia (h:VC len cuts dens) {p v:Rat} (p0:0≤p) (p1:p≤(len:Rat)) (v0:0<v) (hv:v≤vX cuts dens (len:Rat)-vX cuts dens p) {D:Int} (D1:1≤D) (D2:D≤1000000000000) (hp:In D p) (hvD:In D v) :
  ∃ q d,mrkC cuts dens p v=.ok q∧(1≤d∧d≤12)∧In (d*D) q∧vX cuts dens q=vX cuts dens p+v∧p<q∧q≤(len:Rat)∧∀ x,x<q→vX cuts dens x<vX cuts dens q:=by
 have c0:cuts.getD 0 0=0:=h.2.2.2.2.2.1;have t:=MV h;have m0:=IS h p0;have tb:((totC cuts dens:Int):Rat)≤12000:=qT.2 (da h).2;obtain ⟨q,d,e,hd,hq⟩:=MW h dens.length 0 p v (by omega) (by rw [c0];exact p0) p1 v0 hv D D1 D2 hp hvD (by grind);have ec:mrkC cuts dens p v=.ok q:=by unfold mrkC;rw [WN (by grind)];exact e
 obtain ⟨k1,k2,k3,_,k5⟩:=yMd h p0 p1 (lY v0) ec;refine ⟨q,d,ec,hd,hq,k1,?_,k3,k5 (by grind)⟩
 by_cases hlt:p<q
 ·exact hlt
 ·have:p=q:=by grind
  rw [← this] at k1;grind
end
section
variable {l:List Ck}
def cJ (l:List Ck) (a:Nat) (p:Rat):Rat:=vX (l.getD a default).cuts (l.getD a default).dens p
def aP (l:List Ck):Rat:=((l.getD 0 default).len:Rat)
def yN (an ad:Int) (a:Nat) (p v:Rat):Qy:=⟨a,1,an,ad,p.num,p.den,v.num,v.den⟩
def valE (l:List Ck) (an ad:Int) (m a:Nat) (p:Rat):Except Int Rat:=fF l m a (Ck.value an ad p.num p.den)
theorem yJI (hd:DK l) {a:Nat} (_:a<l.length) {an ad:Int} (ha:bG an) (ha':bG ad) (lg:List Qy) {p:Rat} (hp:small p) (K:List PV→List PV→Int→Int→Int→Prop) :
  yaL (aN l) (aC lg) a an ad p.num p.den K =
   match valE l an ad lg.length a p with
   | .ok v=>K (aN l) (aC (lg++[yN an ad a p v])) v.num v.den 0
   | .error e=>K [] [] 0 0 e:=by
 have n6:=hd.n6;rw [yJB hd.fin (by omega) (AI lg) ha ha' hp.i1 hp.i2,lV];have em:fF l lg.length a (Ck.value an ad p.num p.den)=valE l an ad lg.length a p:=rfl;rw [em]
 cases valE l an ad lg.length a p with
 | ok v =>show K (aN l) (aC lg++[_]) _ _ _=K (aN l) (aC (lg++[_])) _ _ _;rw [VY];rfl
 | error c=>rfl
theorem yLe {A r:List Nat} {i a:Nat} (h:A.drop i=a::r):i<A.length∧A.getD i 0=a∧A.drop (i+1)=r:=by
 have hlt:i<A.length:=by have:=WO length h;rw [kD,kI] at this;omega
 rw [Jg hlt] at h;rw [eQ,dU hlt];exact ⟨hlt,(List.cons.inj h).1,(List.cons.inj h).2⟩
theorem ie {x:Int} {P:Prop}:aA (aI zI (.int .i64 x)) P=P:=rfl
theorem ig {k:IntKind} {x:Int}:aJ (.int k x)=x:=rfl
theorem yJJ (hd:DK l) {a:Nat} {an ad:Int} (ha:bG an) (ha':bG ad) (lg:List Qy) {p:Rat} (hp:small p) (K:List PV→List PV→Int→Int→Int→Prop) :
  Cn (aN l) (aC lg) a an ad p.num p.den K =
   match valE l an ad lg.length a p with
   | .ok v=>K (aN l) (aC (lg++[yN an ad a p v])) v.num v.den 0
   | .error e=>K [] [] 0 0 e:=by
 have n6:=hd.n6;rw [yJD hd.fin (by omega) (AI lg) ha ha' hp.i1 hp.i2,lV];have em:fF l lg.length a (Ck.value an ad p.num p.den)=valE l an ad lg.length a p:=rfl;rw [em]
 cases valE l an ad lg.length a p with
 | ok v =>show K (aN l) (aC lg++[_]) _ _ _=K (aN l) (aC (lg++[_])) _ _ _;rw [VY];rfl
 | error c=>rfl
theorem ii (hd:DK l) {a:Nat} (h:a<l.length) {q p:Rat} (hs:small q) (hp:small p) (q0:0≤q) (qp:q≤p) (p1:p≤aP l) {D:Int} (hD:1≤D∧D≤50000000000000) (hq:In D q) (hpD:In D p) {m:Nat} (hm:m<2000) :
  valE l q.num q.den m a p=.ok (cJ l a p-cJ l a q)∧QR l (yN q.num q.den a p (cJ l a p-cJ l a q)):=by
 have hok:=hd.ok a h;have hlen:=hd.len a h;have p1':p≤((l.getD a default).len:Rat):=by rw [hlen];exact p1
 have e:jF (l.getD a default).len (l.getD a default).cuts (l.getD a default).dens q.num q.den p.num p.den=.ok (cJ l a p-cJ l a q):=by unfold jF;rw [WM hok.ck,wF,wF,WM ⟨IP hs q0 (Rat.le_trans qp p1'),IP hp (Rat.le_trans q0 qp) p1',Rat.not_lt.2 qp⟩];exact yJH hok hD hq hpD q0 qp p1'
 refine ⟨?_,⟨by show (0:Int)≤a;omega,by show (a:Int)<_;omega⟩,⟨hs.i1,hs.i2,hp.i1,hp.i2⟩,cJ l a p-cJ l a q,⟨rfl,rfl⟩,.inr ⟨rfl,?_⟩⟩
 ·unfold valE fF;rw [WM (hd.err (by omega)),WM ⟨by omega,by omega⟩,cM];have:Ck.value q.num q.den p.num p.den (l.getD a default)=.ok (cJ l a p-cJ l a q):=e;rw [this];show (if m≥2000 then _ else _)=_;rw [WN (by omega)]
 ·exact e
end
set_option maxRecDepth 100000
section
variable {l:List Ck}
theorem oK (a b:Int) (K:Int→Int→Prop):yab a b 0 K=K a b:=rfl
theorem ij (n:Int) (K:Int→Int→Prop):yaI n K=K n 1:=rfl
def dJ (l:List Ck) (a:Nat) (q v:Rat):Rat:=CJ (mrkC (l.getD a default).cuts (l.getD a default).dens q v)
def iI (a:Nat) (q v p:Rat):Qy:=⟨a,2,q.num,q.den,v.num,v.den,p.num,p.den⟩
def cR (l:List Ck) (a:Nat) (q p:Rat):Qy:=yN q.num q.den a p (cJ l a p-cJ l a q)
structure MkV (l:List Ck) (a:Nat) (q v:Rat) (D:Int):Prop where
 e:mrkC (l.getD a default).cuts (l.getD a default).dens q v=.ok (dJ l a q v)
 d:∃ d:Int,(1≤d∧d≤12)∧In (d*D) (dJ l a q v)
 eqv:cJ l a (dJ l a q v)=cJ l a q+v
 ge:q≤dJ l a q v
 le:dJ l a q v≤aP l
theorem Wh (hd:DK l) {a:Nat} (ha:a<l.length) {q v:Rat} (q0:0≤q) (q1:q≤aP l) (v0:0≤v) (hv:v≤cJ l a (aP l)-cJ l a q) {D:Int} (D1:1≤D) (D2:D≤1000000000000) (hq:In D q) (hvD:In D v):MkV l a q v D:=by
 have hok:=hd.ok a ha;have hlen:=hd.len a ha
 by_cases hz:v=0
 ·have e:mrkC (l.getD a default).cuts (l.getD a default).dens q v=.ok q:=by unfold mrkC;rw [WM hz]
  have g:dJ l a q v=q:=by unfold dJ;rw [e];rfl
  refine ⟨by rw [g];exact e,⟨1,by omega,by rw [g,Int.one_mul];exact hq⟩,by rw [g,hz];grind,by rw [g];exact iM,by rw [g];exact q1⟩
 have v0:0<v:=by grind
 unfold cJ aP at *
 rw [← hlen] at q1 hv;obtain ⟨p,d,e,hd12,hp,k1,k2,k3,k4⟩:=ia hok q0 q1 v0 hv D1 D2 hq hvD;obtain ⟨_,g2⟩:=fq e;have g2:dJ l a q v=p:=g2;refine ⟨?_,⟨d,hd12,?_⟩,?_,?_,?_⟩
 ·rw [g2];exact e
 ·rw [g2];exact hp
 ·rw [g2];exact k1
 ·rw [g2];exact lY k2
 ·rw [g2];unfold aP;rw [← hlen];exact k3
theorem Wi (hd:DK l) {a:Nat} (ha:a<l.length) {q v:Rat} (hs:small q) (q0:0≤q) (q1:q≤aP l) (hv:small v) (v0:0≤v) {D:Int} (h:MkV l a q v D) {lg:List Qy} (hm:lg.length<2000) (K:List PV→List PV→Int→Int→Int→Prop) :
  ybY (aN l) (aC lg) a q.num q.den v.num v.den K=K (aN l) (aC (lg++[iI a q v (dJ l a q v)])) (dJ l a q v).num (dJ l a q v).den 0:=by
 have n6:=hd.n6;have hok:=hd.ok a ha;have e1:fP (l.getD a default).len (l.getD a default).cuts (l.getD a default).dens q.num q.den v.num v.den=.ok (dJ l a q v):=by unfold fP;rw [WM hok.ck,WM ⟨IP hs q0 (by rw [hd.len a ha];exact q1),hv.rv,AQ.2 v0⟩,wF,wF];exact h.e
 have e2:fF l lg.length (a:Int) (Ck.mark q.num q.den v.num v.den)=.ok (dJ l a q v):=by unfold fF;rw [WM (hd.err (by omega)),WM ⟨by omega,by omega⟩,cM];have:Ck.mark q.num q.den v.num v.den (l.getD a default)=.ok (dJ l a q v):=e1;rw [this];show (if lg.length≥2000 then _ else _)=_;rw [WN (by omega)]
 rw [VV hd.fin (by omega) (AI lg) hs.i1 hs.i2 hv.i1 hv.i2,lV,e2];show K (aN l) (aC lg++[_]) _ _ _=K (aN l) (aC (lg++[_])) _ _ _;rw [VY];rfl
theorem Wj (hd:DK l) {a:Nat} (ha:a<l.length) {q v:Rat} (hs:small q) (q0:0≤q) (q1:q≤aP l) (hv:small v) (v0:0≤v) {D:Int} (h:MkV l a q v D) {lg:List Qy} (hm:lg.length<2000) (K:Int→Int→List PV→List PV→Prop) :
  yat (aN l) (aC lg) a q.num q.den v.num v.den K=K (dJ l a q v).num (dJ l a q v).den (aN l) (aC (lg++[iI a q v (dJ l a q v)])):=by
 unfold yat UY;rw [Wi hd ha hs q0 q1 hv v0 h hm,oK]
theorem yNf (hd:DK l) {a:Nat} (ha:a<l.length) {q p:Rat} (hs:small q) (hp:small p) (q0:0≤q) (qp:q≤p) (p1:p≤aP l) {D:Int} (hD:1≤D∧D≤50000000000000) (hq:In D q) (hpD:In D p) {lg:List Qy} (hm:lg.length<2000) (K:List PV→List PV→Int→Int→Int→Prop) :
  yaL (aN l) (aC lg) a q.num q.den p.num p.den K=K (aN l) (aC (lg++[cR l a q p])) (cJ l a p-cJ l a q).num (cJ l a p-cJ l a q).den 0:=by
 rw [yJI hd ha hs.i1 hs.i2 lg hp,(ii hd ha hs hp q0 qp p1 hD hq hpD (m:=lg.length) hm).1];rfl
def aE (l:List Ck) (a:Nat):Rat:=((totC (l.getD a default).cuts (l.getD a default).dens:Int):Rat)
theorem ik (hd:DK l) {a:Nat} (h2:a<l.length) {lg:List PV} (hm:lg.length≤2000) (K:Int→Int→List PV→List PV→Prop):yay (aN l) lg a K=K (aE l a).num (aE l a).den (aN l) lg:=by
 have hok:=hd.ok a h2;have n6:=hd.n6;have h1:=VC.l1 hok;have h3:=VC.l2 hok;unfold yay UX yed LE;rw [IQ hd.fin (by omega),hd.err hm,cD rfl,MO,Os (by omega),jJ,aS];simp only [lt];rw [gB,cM,kG h2,aO (by omega),aO (by omega),cP,kB,mG,mH,dc (by omega) (by omega),WM (VC.ck hok)];have e1:(aE l a).num=totC (l.getD a default).cuts (l.getD a default).dens:=Dj _;have e2:(((aE l a).den:Nat):Int)=1:=by unfold aE;rw [Dk];rfl
 rw [e1,e2];rfl
def r13:Rat:=mkRat 1 3
def dB:Rat:=mkRat 2 3
theorem CL:r13.num=1:=by decide +kernel
theorem CM:r13.den=3:=by decide +kernel
theorem CN:dB.num=2:=by decide +kernel
theorem CO:dB.den=3:=by decide +kernel
theorem CP:small r13:=by decide +kernel
theorem CQ:small dB:=by decide +kernel
theorem yMe (hd:DK l) {a:Nat} (ha:a<l.length) {q v:Rat} (hs:small q) (q0:0≤q) (q1:q≤aP l) (hv:small v) (h1s:small (v*r13)) (h2s:small (v*dB)) (h10:0≤v*r13) (h20:0≤v*dB) {D D':Int} (h1:MkV l a q (v*r13) D) (h2:MkV l a q (v*dB) D') {lg:List Qy} (hm:lg.length+2<2000) (K:Int→Int→Int→Int→List PV→List PV→Prop) :
  yax (aN l) (aC lg) a q.num q.den v.num v.den K=K (dJ l a q (v*r13)).num (dJ l a q (v*r13)).den (dJ l a q (v*dB)).num (dJ l a q (v*dB)).den (aN l) (aC ((lg++[iI a q (v*r13) (dJ l a q (v*r13))])++[iI a q (v*dB) (dJ l a q (v*dB))])):=by
 unfold yax Va;have m1:=fun K=>CC hv CP K
 have m2:=fun K=>CC hv CQ K
 rw [CL,CM] at m1;rw [CN,CO] at m2;have m1:∀ K,ya7 v.num v.den 1 3 K=_:=m1;have m2:∀ K,ya7 v.num v.den 2 3 K=_:=m2;rw [m1,iG,WM h1s,oK,Wj hd ha hs q0 q1 h1s h10 h1 (by omega),m2,iG,WM h2s,oK,Wj hd ha hs q0 q1 h2s h20 h2 (by rw [dM,lD];omega)]
def nO (v:Nat→Rat):Nat→List Nat→Nat
 | b,[]=>b
 | b,i::r=>nO v (if v b<v i then i else b) r
theorem yNg {q r:Rat}:decide (qO q r>0)=decide (r<q):=by
 unfold qO
 by_cases h:q<r
 ·rw [WM h];have:¬r<q:=fun h'=>by grind
  simp [this]
 ·rw [WN h]
  by_cases h2:r<q
  ·simp [h2]
  ·simp [h2]
theorem il {vs:List Rat} (hs:∀ i,i<vs.length→small (vs.getD i 0)) {J:List Nat} (hJ:∀ i∈J,i<vs.length) (h6:J.length≤100) {x:List PV→Int→List PV→Int→Int→Bool→Prop} :
  ∀ (r:List Nat) (i n b:Nat),J.drop i=r→i≤J.length→r.length<n→b<vs.length→x (dG vs) (nO (fun i=>vs.getD i 0) b r:Nat) (fU J) (J.length:Int) (J.length:Int) false→Fz tQ x n (dG vs) (b:Int) (fU J) (J.length:Int) (i:Int)
 | [],i,n,b,hr,hi,hn,hb,h=>by
  obtain ⟨n,rfl⟩:∃ k,n=k+1:=⟨n-1,by omega⟩;have e:i=J.length:=by
   have:=WO length hr;rw [kD,Di] at this;omega
  subst e;unfold Fz;rw [aZ (by omega)];exact h
 | a::r,i,n,b,hr,hi,hn,hb,h=>by
  obtain ⟨n,rfl⟩:∃ k,n=k+1:=⟨n-1,by omega⟩;simp only [kI] at hn;obtain ⟨hlt,hg,hr'⟩:=yLe hr;have ha:a<vs.length:=hJ a (by rw [← hg,eQ,dU hlt];exact De hlt);have ew:i64.wrap ((i:Int)+1)=((i+1:Nat):Int):=by rw [gD (by omega) (by omega)];omega
  have IH:=fun b hb h=>il hs hJ h6 (x:=x) r (i+1) n b hr' (by omega) (by omega) hb h
  unfold Fz;simp only [Go.Pf.jn,lt];rw [aW (by omega),gh,aO (by omega),aO (by omega),cM,yNe hlt,hg,ie,ig,We,aO (by omega),aO (by omega),cM,MR ha,gk,aO (by omega),aO (by omega),cM,MR hb,gk,gi,gj,gi,gj,cj (hs a ha) (hs b hb),yNg,ew];unfold nO at h
  by_cases hc:vs.getD b 0<vs.getD a 0
  ·rw [WM hc] at h;rw [Os hc,bB];exact IH a ha h
  ·rw [WN hc] at h;rw [Tx hc,aS];exact IH b hb h
theorem im {vs:List Rat} (hs:∀ i,i<vs.length→small (vs.getD i 0)) {i0:Nat} {J:List Nat} (hJ:∀ i∈i0::J,i<vs.length) (h6:J.length≤90) (K:Int→Prop) :
  yaE (dG vs) (fU (i0::J)) K=K (nO (fun i=>vs.getD i 0) i0 (i0::J):Nat):=by
 refine yyq _ _ _ (fun K k=>?_) K;unfold yaE Vb;have e:getD (fU (i0::J)) 0 .nils=.int .i64 i0:=rfl;simp only [lt];rw [gh,aO (by simp only [kI];omega),e,ie,ig];exact ⟨(i0::J).length+1,il hs hJ (by simp only [kI];omega) (i0::J) 0 _ i0 rfl (by omega) (by omega) (hJ i0 kC) k⟩
theorem IT {v:Nat→Rat}:∀ (J:List Nat) (b:Nat),(nO v b J=b∨nO v b J∈J)∧v b≤v (nO v b J)∧∀ i∈J,v i≤v (nO v b J)
 | [],b=>⟨.inl rfl,iM,fun i h=>by cases h⟩
 | a::r,b=>by
  unfold nO
  by_cases hc:v b<v a
  ·rw [WM hc];obtain ⟨h1,h2,h3⟩:=IT (v:=v) r a;refine ⟨.inr ?_,by grind,fun i hi=>?_⟩
   ·rcases h1 with h1 | h1
    ·rw [h1];exact kC
    ·exact gO _ h1
   ·rcases qAo.1 hi with rfl | hi
    ·exact h2
    ·exact h3 i hi
  ·rw [WN hc];obtain ⟨h1,h2,h3⟩:=IT (v:=v) r b;have hc:=Rat.not_lt.1 hc;refine ⟨?_,h2,fun i hi=>?_⟩
   ·rcases h1 with h1 | h1
    ·exact .inl h1
    ·exact .inr (gO _ h1)
   ·rcases qAo.1 hi with rfl | hi
    ·grind
    ·exact h3 i hi
def pC (p:Nat):List Nat:=if p=0 then [1,2] else if p=1 then [0,2] else [0,1]
theorem Wk (K:List PV→Prop):yaz (fU [0]) K=K (fU [1,2]):=by refine yA _ _ (fun K k=>?_) K;refine @Exists.intro Nat _ 4 ?_;refine @Exists.intro Nat _ 2 ?_;refine @Exists.intro Nat _ 2 ?_;refine @Exists.intro Nat _ 2 ?_;exact k
theorem Wl (K:List PV→Prop):yaz (fU [1]) K=K (fU [0,2]):=by refine yA _ _ (fun K k=>?_) K;refine @Exists.intro Nat _ 4 ?_;refine @Exists.intro Nat _ 2 ?_;refine @Exists.intro Nat _ 2 ?_;refine @Exists.intro Nat _ 2 ?_;exact k
theorem Wm (K:List PV→Prop):yaz (fU [2]) K=K (fU [0,1]):=by refine yA _ _ (fun K k=>?_) K;refine @Exists.intro Nat _ 4 ?_;refine @Exists.intro Nat _ 2 ?_;refine @Exists.intro Nat _ 2 ?_;refine @Exists.intro Nat _ 2 ?_;exact k
theorem yNI (K:List PV→Prop):yaz (fU [0,1]) K=K (fU [2]):=by refine yA _ _ (fun K k=>?_) K;refine @Exists.intro Nat _ 4 ?_;refine @Exists.intro Nat _ 3 ?_;refine @Exists.intro Nat _ 3 ?_;refine @Exists.intro Nat _ 3 ?_;exact k
theorem yNJ (K:List PV→Prop):yaz (fU [1,0]) K=K (fU [2]):=by refine yA _ _ (fun K k=>?_) K;refine @Exists.intro Nat _ 4 ?_;refine @Exists.intro Nat _ 3 ?_;refine @Exists.intro Nat _ 3 ?_;refine @Exists.intro Nat _ 3 ?_;exact k
theorem yNK (K:List PV→Prop):yaz (fU [0,2]) K=K (fU [1]):=by refine yA _ _ (fun K k=>?_) K;refine @Exists.intro Nat _ 4 ?_;refine @Exists.intro Nat _ 3 ?_;refine @Exists.intro Nat _ 3 ?_;refine @Exists.intro Nat _ 3 ?_;exact k
theorem yNL (K:List PV→Prop):yaz (fU [2,0]) K=K (fU [1]):=by refine yA _ _ (fun K k=>?_) K;refine @Exists.intro Nat _ 4 ?_;refine @Exists.intro Nat _ 3 ?_;refine @Exists.intro Nat _ 3 ?_;refine @Exists.intro Nat _ 3 ?_;exact k
theorem yNM (K:List PV→Prop):yaz (fU [1,2]) K=K (fU [0]):=by refine yA _ _ (fun K k=>?_) K;refine @Exists.intro Nat _ 4 ?_;refine @Exists.intro Nat _ 3 ?_;refine @Exists.intro Nat _ 3 ?_;refine @Exists.intro Nat _ 3 ?_;exact k
theorem yNN (K:List PV→Prop):yaz (fU [2,1]) K=K (fU [0]):=by refine yA _ _ (fun K k=>?_) K;refine @Exists.intro Nat _ 4 ?_;refine @Exists.intro Nat _ 3 ?_;refine @Exists.intro Nat _ 3 ?_;refine @Exists.intro Nat _ 3 ?_;exact k
theorem Wn {p:Nat} (hp:p<3) (K:List PV→Prop):yaz [.int .i64 (p:Int)] K=K (fU (pC p)):=by
 obtain rfl|rfl|rfl:p=0∨p=1∨p=2:=by omega
 ·exact Wk K
 ·exact Wl K
 ·exact Wm K
theorem Wo {a b:Nat} (ha:a<3) (hb:b<3) (hab:a≠b) (K:List PV→Prop):yaz [.int .i64 (a:Int),.int .i64 (b:Int)] K=K (fU [3-a-b]):=by
 obtain rfl|rfl|rfl:a=0∨a=1∨a=2:=by omega
 ·obtain rfl | rfl:b=1∨b=2:=by omega
  ·exact yNI K
  ·exact yNK K
 ·obtain rfl | rfl:b=0∨b=2:=by omega
  ·exact yNJ K
  ·exact yNM K
 ·obtain rfl | rfl:b=0∨b=1:=by omega
  ·exact yNL K
  ·exact yNN K
def pk (v:List Rat):Nat:=nO (fun i=>v.getD i 0) 0 [0,1,2]
def pkO (v:List Rat) (p:Nat):Nat:=nO (fun i=>v.getD i 0) ((pC p).getD 0 0) (pC p)
theorem ip (v:List Rat):pk v<3:=by
 obtain ⟨h,_⟩:=IT (v:=fun i=>v.getD i 0) [0,1,2] 0;unfold pk;rcases h with h | h
 ·rw [h];decide
 ·simp only [qAo,AN,or_false] at h;omega
theorem yNh (v:List Rat) {i:Nat} (hi:i<3):v.getD i 0≤v.getD (pk v) 0:=(IT (v:=fun i=>v.getD i 0) [0,1,2] 0).2.2 i (by simp;omega)
theorem yMf {p i:Nat} (hp:p<3):i∈pC p↔i<3∧i≠p:=by
 obtain rfl|rfl|rfl:p=0∨p=1∨p=2:=by omega
 all_goals (simp [pC];omega)
theorem Wp (v:List Rat) {p:Nat} (hp:p<3):pkO v p<3∧pkO v p≠p:=by
 obtain ⟨h,_⟩:=IT (v:=fun i=>v.getD i 0) (pC p) ((pC p).getD 0 0);have h:pkO v p∈pC p:=by
  unfold pkO;rcases h with h | h
  ·rw [h];obtain rfl | rfl | rfl:p=0∨p=1∨p=2:=by omega
   all_goals simp [pC]
  ·exact h
 exact (yMf hp).1 h
theorem iq {v:List Rat} (h3:v.length=3) (hs:∀ i,i<3→small (v.getD i 0)) (K:Int→Prop):yaE (dG v) [.int .i64 0,.int .i64 1,.int .i64 2] K=K (pk v:Nat):=
 im (i0:=0) (J:=[1,2]) (by rw [h3];exact hs) (by rw [h3];intro i hi;simp at hi;omega) (by decide) K
theorem ir {v:List Rat} (h3:v.length=3) (hs:∀ i,i<3→small (v.getD i 0)) {p:Nat} (hp:p<3) (K:Int→Prop):yaE (dG v) (fU (pC p)) K=K (pkO v p:Nat):=by
 have key:∀ a b:Nat,pC p=[a,b]→a<3→b<3→yaE (dG v) (fU (pC p)) K=K (pkO v p:Nat):=fun a b e ha hb=>by
  unfold pkO;rw [e];exact im (i0:=a) (J:=[b]) (by rw [h3];exact hs) (by rw [h3];intro i hi;simp at hi;omega) (by rw [lD];omega) K
 obtain rfl|rfl|rfl:p=0∨p=1∨p=2:=by omega
 ·exact key 1 2 rfl (by omega) (by omega)
 ·exact key 0 2 rfl (by omega) (by omega)
 ·exact key 0 1 rfl (by omega) (by omega)
end
theorem oL {P R:Nat→Prop} (h0:P 0=False) (h:∀ n,P (n+1)=R n):(∃ n,P n)=∃ n,R n:=
 Aab ⟨fun ⟨n,hn⟩=>match n,hn with | 0,hn=>(h0 ▸ hn).elim | n+1,hn=>⟨n,(h n) ▸ hn⟩,fun ⟨n,hn⟩=>⟨n+1,(h n).symm ▸ hn⟩⟩
theorem dS {Q:Prop}:(∃ _:Nat,Q)=Q:=Aab ⟨fun ⟨_,h⟩=>h,fun h=>⟨0,h⟩⟩
section
variable {l:List Ck}
structure VQ (l:List Ck) (s:RS):Prop where
 s1:small s.1
 s2:small s.2
 z:0≤s.1
 le:s.1≤s.2
 len:s.2≤aP l
 D:∃ D:Int,(1≤D∧D≤50000000000000)∧In D s.1∧In D s.2
def vS (l:List Ck) (a:Nat) (s:RS):Rat:=cJ l a s.2-cJ l a s.1
theorem VQ.val (hd:DK l) {a:Nat} (ha:a<l.length) {s:RS} (h:VQ l s) {lg:List Qy} (hm:lg.length<2000) (K:List PV→List PV→Int→Int→Int→Prop) :
  yaL (aN l) (aC lg) a s.1.num s.1.den s.2.num s.2.den K=K (aN l) (aC (lg++[cR l a s.1 s.2])) (vS l a s).num (vS l a s).den 0:=by
 obtain ⟨D,hD,k1,k2⟩:=h.D;exact yNf hd ha h.s1 h.s2 h.z h.le h.len hD k1 k2 hm K
theorem yNO (hd:DK l) {a:Nat} (ha:a<l.length) {s t:RS} (hs:VQ l s) (ht:VQ l t) {lg:List Qy} (hm:lg.length+2<2000) {x0 x1} (i0 i1 i2 i3 i4 i5 i6 i7 i8 i9 i10 i11 i12 i13 i14 i15 i16 i17 i18 i19:Int) :
  (∃ n,ycN yaI yay yax yaL yab yaF yaE yaz yat x0 x1 n (aN l) (aC lg) i0 i1 i2 i3 i4 i5 i6 i7 i8 i9 i10 i11 i12 i13 i14 i15 i16 i17 i18 i19 (a:Int) [fG s,fG t] 2 0) =
  x1 (dG [vS l a s,vS l a t]) (aN l) (aC ((lg++[cR l a s.1 s.2])++[cR l a t.1 t.2])) i0 i1 i2 i3 i4 i5 i6 i7 i8 i9 i10 i11 i12 i13 i14 i15 i16 i17 i18 i19 (a:Int) [fG s,fG t] 2 2 false:=by
 rw [oL rfl (R:=fun n=>AD yaI yay yax yaL yab yaF yaE yaz yat x1 n (dG [vS l a s]) (aN l) (aC (lg++[cR l a s.1 s.2])) i0 i1 i2 i3 i4 i5 i6 i7 i8 i9 i10 i11 i12 i13 i14 i15 i16 i17 i18 i19 (a:Int) [fG s,fG t] 2 1) (fun n=>?_),
  oL rfl (R:=fun n=>AD yaI yay yax yaL yab yaF yaE yaz yat x1 n (dG [vS l a s,vS l a t]) (aN l) (aC ((lg++[cR l a s.1 s.2])++[cR l a t.1 t.2])) i0 i1 i2 i3 i4 i5 i6 i7 i8 i9 i10 i11 i12 i13 i14 i15 i16 i17 i18 i19 (a:Int) [fG s,fG t] 2 2) (fun n=>?_),
  oL rfl (R:=fun _=>x1 (dG [vS l a s,vS l a t]) (aN l) (aC ((lg++[cR l a s.1 s.2])++[cR l a t.1 t.2])) i0 i1 i2 i3 i4 i5 i6 i7 i8 i9 i10 i11 i12 i13 i14 i15 i16 i17 i18 i19 (a:Int) [fG s,fG t] 2 2 false) (fun n=>by kernel_rfl),dS]
 ·have e:AD yaI yay yax yaL yab yaF yaE yaz yat x1 (n+1) (dG [vS l a s]) (aN l) (aC (lg++[cR l a s.1 s.2])) i0 i1 i2 i3 i4 i5 i6 i7 i8 i9 i10 i11 i12 i13 i14 i15 i16 i17 i18 i19 (a:Int) [fG s,fG t] 2 1=yaL (aN l) (aC (lg++[cR l a s.1 s.2])) a t.1.num t.1.den t.2.num t.2.den (fun c g y0 y1 y2=>yab y0 y1 y2 fun r0 r1=>AD yaI yay yax yaL yab yaF yaE yaz yat x1 n [dR (vS l a s),.agg [.int .i64 r0,.int .i64 r1]] c g i0 i1 i2 i3 i4 i5 i6 i7 i8 i9 i10 i11 i12 i13 i14 i15 i16 i17 i18 i19 (a:Int) [fG s,fG t] 2 2):=by kernel_rfl
  rw [e,ht.val hd ha (by rw [dM,lD];omega),oK];rfl
 ·have e:ycN yaI yay yax yaL yab yaF yaE yaz yat x0 x1 (n+1) (aN l) (aC lg) i0 i1 i2 i3 i4 i5 i6 i7 i8 i9 i10 i11 i12 i13 i14 i15 i16 i17 i18 i19 (a:Int) [fG s,fG t] 2 0=yaL (aN l) (aC lg) a s.1.num s.1.den s.2.num s.2.den (fun c g y0 y1 y2=>yab y0 y1 y2 fun r0 r1=>AD yaI yay yax yaL yab yaF yaE yaz yat x1 n [.agg [.int .i64 r0,.int .i64 r1]] c g i0 i1 i2 i3 i4 i5 i6 i7 i8 i9 i10 i11 i12 i13 i14 i15 i16 i17 i18 i19 (a:Int) [fG s,fG t] 2 1):=by kernel_rfl
  rw [e,hs.val hd ha (by omega),oK];rfl
theorem it (hd:DK l) {a:Nat} (ha:a<l.length) {s t u:RS} (hs:VQ l s) (ht:VQ l t) (hu:VQ l u) {lg:List Qy} (hm:lg.length+3<2000) {x2 x3} (v:List PV) (i12 i13 i14 i15 i16 i17 i18 i19:Int) :
  (∃ n,ycd yaI yay yax yaL yab yaF yaE yaz yat x2 x3 n v (aN l) (aC lg) s.1.num s.1.den s.2.num s.2.den t.1.num t.1.den t.2.num t.2.den u.1.num u.1.den u.2.num u.2.den i12 i13 i14 i15 i16 i17 i18 i19 (a:Int) 3 0) =
  x3 v (dG [vS l a s,vS l a t,vS l a u]) (aN l) (aC (((lg++[cR l a s.1 s.2])++[cR l a t.1 t.2])++[cR l a u.1 u.2])) s.1.num s.1.den s.2.num s.2.den t.1.num t.1.den t.2.num t.2.den u.1.num u.1.den u.2.num u.2.den i12 i13 i14 i15 i16 i17 i18 i19 (a:Int) 3 3 false:=by
 rw [oL rfl (R:=fun n=>uF yaI yay yax yaL yab yaF yaE yaz yat x3 n v (dG [vS l a s]) (aN l) (aC (lg++[cR l a s.1 s.2])) s.1.num s.1.den s.2.num s.2.den t.1.num t.1.den t.2.num t.2.den u.1.num u.1.den u.2.num u.2.den i12 i13 i14 i15 i16 i17 i18 i19 (a:Int) 3 1) (fun n=>?_),
  oL rfl (R:=fun n=>uF yaI yay yax yaL yab yaF yaE yaz yat x3 n v (dG [vS l a s,vS l a t]) (aN l) (aC ((lg++[cR l a s.1 s.2])++[cR l a t.1 t.2])) s.1.num s.1.den s.2.num s.2.den t.1.num t.1.den t.2.num t.2.den u.1.num u.1.den u.2.num u.2.den i12 i13 i14 i15 i16 i17 i18 i19 (a:Int) 3 2) (fun n=>?_),
  oL rfl (R:=fun n=>uF yaI yay yax yaL yab yaF yaE yaz yat x3 n v (dG [vS l a s,vS l a t,vS l a u]) (aN l) (aC (((lg++[cR l a s.1 s.2])++[cR l a t.1 t.2])++[cR l a u.1 u.2])) s.1.num s.1.den s.2.num s.2.den t.1.num t.1.den t.2.num t.2.den u.1.num u.1.den u.2.num u.2.den i12 i13 i14 i15 i16 i17 i18 i19 (a:Int) 3 3) (fun n=>?_),
  oL rfl (R:=fun _=>x3 v (dG [vS l a s,vS l a t,vS l a u]) (aN l) (aC (((lg++[cR l a s.1 s.2])++[cR l a t.1 t.2])++[cR l a u.1 u.2])) s.1.num s.1.den s.2.num s.2.den t.1.num t.1.den t.2.num t.2.den u.1.num u.1.den u.2.num u.2.den i12 i13 i14 i15 i16 i17 i18 i19 (a:Int) 3 3 false) (fun n=>by kernel_rfl),dS]
 ·have e:uF yaI yay yax yaL yab yaF yaE yaz yat x3 (n+1) v (dG [vS l a s,vS l a t]) (aN l) (aC ((lg++[cR l a s.1 s.2])++[cR l a t.1 t.2])) s.1.num s.1.den s.2.num s.2.den t.1.num t.1.den t.2.num t.2.den u.1.num u.1.den u.2.num u.2.den i12 i13 i14 i15 i16 i17 i18 i19 (a:Int) 3 2=yaL (aN l) (aC ((lg++[cR l a s.1 s.2])++[cR l a t.1 t.2])) a u.1.num u.1.den u.2.num u.2.den (fun c g y0 y1 y2=>yab y0 y1 y2 fun r0 r1=>uF yaI yay yax yaL yab yaF yaE yaz yat x3 n v [dR (vS l a s),dR (vS l a t),.agg [.int .i64 r0,.int .i64 r1]] c g s.1.num s.1.den s.2.num s.2.den t.1.num t.1.den t.2.num t.2.den u.1.num u.1.den u.2.num u.2.den i12 i13 i14 i15 i16 i17 i18 i19 (a:Int) 3 3):=by kernel_rfl
  rw [e,hu.val hd ha (by simp only [dM,lD];omega),oK];rfl
 ·have e:uF yaI yay yax yaL yab yaF yaE yaz yat x3 (n+1) v (dG [vS l a s]) (aN l) (aC (lg++[cR l a s.1 s.2])) s.1.num s.1.den s.2.num s.2.den t.1.num t.1.den t.2.num t.2.den u.1.num u.1.den u.2.num u.2.den i12 i13 i14 i15 i16 i17 i18 i19 (a:Int) 3 1=yaL (aN l) (aC (lg++[cR l a s.1 s.2])) a t.1.num t.1.den t.2.num t.2.den (fun c g y0 y1 y2=>yab y0 y1 y2 fun r0 r1=>uF yaI yay yax yaL yab yaF yaE yaz yat x3 n v [dR (vS l a s),.agg [.int .i64 r0,.int .i64 r1]] c g s.1.num s.1.den s.2.num s.2.den t.1.num t.1.den t.2.num t.2.den u.1.num u.1.den u.2.num u.2.den i12 i13 i14 i15 i16 i17 i18 i19 (a:Int) 3 2):=by kernel_rfl
  rw [e,ht.val hd ha (by rw [dM,lD];omega),oK];rfl
 ·have e:ycd yaI yay yax yaL yab yaF yaE yaz yat x2 x3 (n+1) v (aN l) (aC lg) s.1.num s.1.den s.2.num s.2.den t.1.num t.1.den t.2.num t.2.den u.1.num u.1.den u.2.num u.2.den i12 i13 i14 i15 i16 i17 i18 i19 (a:Int) 3 0=yaL (aN l) (aC lg) a s.1.num s.1.den s.2.num s.2.den (fun c g y0 y1 y2=>yab y0 y1 y2 fun r0 r1=>uF yaI yay yax yaL yab yaF yaE yaz yat x3 n v [.agg [.int .i64 r0,.int .i64 r1]] c g s.1.num s.1.den s.2.num s.2.den t.1.num t.1.den t.2.num t.2.den u.1.num u.1.den u.2.num u.2.den i12 i13 i14 i15 i16 i17 i18 i19 (a:Int) 3 1):=by kernel_rfl
  rw [e,hs.val hd ha (by omega),oK];rfl
end
section
variable {l:List Ck}
theorem yO (hd:DK l) {a:Nat} (ha:a<l.length):cJ l a (aP l)-cJ l a 0=aE l a:=by have h:=MV (hd.ok a ha);unfold cJ aP aE;rw [← hd.len a ha];exact h
theorem IU (hd:DK l) {a:Nat} (ha:a<l.length) {x y:Rat} (h:x≤y):cJ l a x≤cJ l a y:=IS (hd.ok a ha) h
theorem Wq (hd:DK l) {a:Nat} (ha:a<l.length) {x y:Rat} (h:cJ l a x<cJ l a y):x<y:=by
 refine Rat.not_le.1 fun k=>?_
 have:=IU hd ha k;grind
theorem oM (hd:DK l) {a:Nat} (ha:a<l.length):0<aE l a:=Rat.intCast_pos.2 (yK7 (hd.ok a ha))
theorem uN (hd:DK l) {a:Nat} (ha:a<l.length):aE l a≤12000:=by
 have hok:=hd.ok a ha;have l0:=hok.len0;have hw:0≤(0:Rat)∧((l.getD a default).len:Rat)≤((l.getD a default).len:Rat):=⟨iM,iM⟩;have h:=(yLd hok (s:=((0:Rat),((l.getD a default).len:Rat))) (by
  show (0:Rat)<_;exact Rat.intCast_pos.2 (by omega)) hw).2
 have e:=MV hok;unfold aE;rw [← e];exact h
theorem In.D {a b:Int} (h:a=b) {q:Rat} (k:In a q):In b q:=h ▸ k
theorem jH {q:Rat} {D:Int} (h:In D q) (hD:1≤D∧D≤10000000000) (h0:-12000≤q) (h1:q≤12000):small q:=
 h.small (M:=12000) ⟨hD.1,by omega⟩ (by omega) (by show -(12000:Rat)≤_;grind) (by show _≤(12000:Rat);grind)
theorem CR {a:Nat} {D:Int} (hD:1≤D) {s:RS} (h:In D s.1∧In D s.2):In D (vS l a s):=(gu hD h.2).sub (gu hD h.1)
theorem Wr (hd:DK l) {a:Nat} (ha:a<l.length) {s:RS} (z:0≤s.1) (le:s.1≤s.2) (hl:s.2≤aP l):0≤vS l a s∧vS l a s≤aE l a:=by have h1:=IU hd ha z;have h2:=IU hd ha le;have h3:=IU hd ha hl;have h4:=yO hd ha;unfold vS;constructor<;>grind
@[irreducible] def A3 (l:List Ck):Rat:=dJ l 0 0 (aE l 0*r13)
@[irreducible] def B3 (l:List Ck):Rat:=dJ l 0 0 (aE l 0*dB)
structure G3 (l:List Ck) (D:Int):Prop where
 D1:1≤D∧D≤432
 mA:MkV l 0 0 (aE l 0*r13) 3
 mB:MkV l 0 0 (aE l 0*dB) 3
 a0:0<A3 l
 ab:A3 l<B3 l
 bl:B3 l<aP l
 iA:In D (A3 l)
 iB:In D (B3 l)
theorem fH:r13=1/3:=by decide +kernel
theorem fQ:dB=2/3:=by decide +kernel
theorem In.r3 (c:Int):In 3 ((c:Rat)*r13)∧In 3 ((c:Rat)*dB):=by
 constructor
 ·exact ⟨c,by rw [fH];show (c:Rat)*(1/3)=(c:Rat)/3;grind⟩
 ·exact ⟨2*c,by rw [fQ,wQ];show (c:Rat)*(2/3)=((2:Int):Rat)*(c:Rat)/3;have:((2:Int):Rat)=2:=rfl;rw [this];grind⟩
theorem g3 (hd:DK l) (h3:l.length=3):∃ D,G3 l D:=by
 have h0:0<l.length:=by omega
 have t0:=oM hd h0;have tt:=yO hd h0;have i3:=In.r3 (totC (l.getD 0 default).cuts (l.getD 0 default).dens);have hl0:0≤aP l:=Rat.intCast_nonneg.2 (by have:=(hd.ok 0 h0).len0;omega);have mA:=Wh hd h0 (q:=0) (v:=aE l 0*r13) iM hl0 (by rw [fH];grind) (by rw [tt,fH];grind) (D:=3) (by decide) (by decide) (In.int (by decide) 0) i3.1;have mB:=Wh hd h0 (q:=0) (v:=aE l 0*dB) iM hl0 (by rw [fQ];grind) (by rw [tt,fQ];grind) (D:=3) (by decide) (by decide) (In.int (by decide) 0) i3.2;obtain ⟨d,hd1,k1⟩:=mA.d;obtain ⟨e,he1,k2⟩:=mB.d;have a1:=mA.eqv;have b1:=mB.eqv;rw [fH] at a1;rw [fQ] at b1;have de:1*1≤d*e:=oN hd1.1 he1.1 (by omega) (by omega);have de2:d*e≤12*12:=oN hd1.2 he1.2 (by omega) (by omega);have eA:A3 l=dJ l 0 0 (aE l 0*r13):=by unfold A3;rfl
 have eB:B3 l=dJ l 0 0 (aE l 0*dB):=by unfold B3;rfl
 refine ⟨d*e*3,⟨by omega,by omega⟩,mA,mB,Wq hd h0 (a:=0) ?_,Wq hd h0 (a:=0) ?_,Wq hd h0 (a:=0) ?_,?_,?_⟩
 ·rw [eA];rw [fH] at *
  rw [a1];grind
 ·rw [eA,eB];rw [fH,fQ] at *
  rw [a1,b1];grind
 ·rw [eB];rw [fQ] at *
  rw [b1];grind
 ·rw [eA];exact In.D (by rw [Int.mul_comm d e,Int.mul_assoc]) ((k1.up (by omega) he1.1):In (e*(d*3)) _)
 ·rw [eB];exact In.D (by rw [Int.mul_assoc]) ((k2.up (by omega) hd1.1):In (d*(e*3)) _)
def P3 (l:List Ck):List RS:=[(0,A3 l),(A3 l,B3 l),(B3 l,aP l)]
theorem G3.VQ {D:Int} (hd:DK l) (h3:l.length=3) (g:G3 l D) {i:Nat} (hi:i<3):VQ l ((P3 l).getD i (0,0))∧(In D ((P3 l).getD i (0,0)).1∧In D ((P3 l).getD i (0,0)).2):=by
 have D1:=g.D1;have hl:=(hd.ok 0 (by omega)).len0;have hL:aP l≤1000:=qT.2 hl.2;have a0:=g.a0;have ab:=g.ab;have bl:=g.bl;have i0:In D 0:=In.int D1.1 0;have iL:In D (aP l):=In.int D1.1 _;have sA:small (A3 l):=jH g.iA ⟨D1.1,by omega⟩ (by grind) (by grind);have sB:small (B3 l):=jH g.iB ⟨D1.1,by omega⟩ (by grind) (by grind);have s0:small (0:Rat):=jH i0 ⟨D1.1,by omega⟩ (by grind) (by grind);have sL:small (aP l):=jH iL ⟨D1.1,by omega⟩ (by grind) (by grind);obtain rfl | rfl | rfl:i=0∨i=1∨i=2:=by omega
 ·exact ⟨⟨s0,sA,iM,lY a0,by show A3 l≤_;grind,D,⟨D1.1,by omega⟩,i0,g.iA⟩,i0,g.iA⟩
 ·exact ⟨⟨sA,sB,lY a0,lY ab,lY bl,D,⟨D1.1,by omega⟩,g.iA,g.iB⟩,g.iA,g.iB⟩
 ·exact ⟨⟨sB,sL,by show 0≤B3 l;grind,lY bl,iM,D,⟨D1.1,by omega⟩,g.iB,iL⟩,g.iB,iL⟩
def cE (l:List Ck):List Rat:=(P3 l).map (vS l 1)
@[irreducible] def p3 (l:List Ck):Nat:=pk (cE l)
@[irreducible] def q3 (l:List Ck):Nat:=pkO (cE l) (p3 l)
@[irreducible] def bV (l:List Ck):Rat:=(cE l).getD (p3 l) 0-(cE l).getD (q3 l) 0
@[irreducible] def tr3 (l:List Ck):Bool:=!decide ((cE l).getD (p3 l) 0=(cE l).getD (q3 l) 0)
@[irreducible] def eH (l:List Ck):Rat:=((P3 l).getD (p3 l) (0,0)).1
@[irreducible] def c3 (l:List Ck):Rat:=dJ l 1 (eH l) (bV l)
def S3 (l:List Ck):List RS:=bif tr3 l then (P3 l).set (p3 l) (c3 l,((P3 l).getD (p3 l) (0,0)).2) else P3 l
def dH (l:List Ck):List Rat:=bif tr3 l then (cE l).set (p3 l) ((cE l).getD (q3 l) 0) else cE l
def sI (l:List Ck):List Rat:=(S3 l).map (vS l 2)
@[irreducible] def o2 (l:List Ck):Nat:=pk (sI l)
@[irreducible] def o1 (l:List Ck):Nat:=bif tr3 l&&!decide (p3 l=o2 l) then p3 l else pkO (dH l) (o2 l)
@[irreducible] def o0 (l:List Ck):Nat:=3-o1 l-o2 l
theorem AK (l:List Ck):p3 l<3:=by unfold p3;exact ip _
theorem IV (l:List Ck):q3 l<3∧q3 l≠p3 l:=by unfold q3;exact Wp _ (AK l)
theorem iu (l:List Ck) {i:Nat} (hi:i<3):(cE l).getD i 0≤(cE l).getD (p3 l) 0:=by unfold p3;exact yNh _ hi
theorem CS (l:List Ck):bV l=(cE l).getD (p3 l) 0-(cE l).getD (q3 l) 0:=by unfold bV;rfl
theorem ix (l:List Ck):tr3 l=!decide ((cE l).getD (p3 l) 0=(cE l).getD (q3 l) 0):=by unfold tr3;rfl
theorem nP (l:List Ck):eH l=((P3 l).getD (p3 l) (0,0)).1:=by unfold eH;rfl
theorem FQ (l:List Ck):c3 l=dJ l 1 (eH l) (bV l):=by unfold c3;rfl
theorem MX (l:List Ck):o2 l<3:=by unfold o2;exact ip _
theorem IW (l:List Ck):o1 l=bif tr3 l&&!decide (p3 l=o2 l) then p3 l else pkO (dH l) (o2 l):=by unfold o1;rfl
theorem iy (l:List Ck):o1 l<3∧o1 l≠o2 l:=by
 rw [IW]
 cases hb:(tr3 l&&!decide (p3 l=o2 l)) with
 | false=>rw [cond_false];exact Wp (dH l) (MX l)
 | true =>rw [cond_true];simp only [bO,jR,decide_eq_false_iff_not] at hb;exact ⟨AK l,hb.2⟩
theorem MY {i:Nat} (hi:i<3):(cE l).getD i 0=vS l 1 ((P3 l).getD i (0,0)):=by
 obtain rfl|rfl|rfl:i=0∨i=1∨i=2:=by omega
 all_goals rfl
structure C3 (l:List Ck) (D:Int):Prop where
 D1:1≤D∧D≤5184
 m:∃ E:Int,1≤E∧MkV l 1 (eH l) (bV l) E
 so:small (bV l)
 o0:0≤bV l
 lo:eH l≤c3 l
 hi:c3 l≤((P3 l).getD (p3 l) (0,0)).2
 iP:∀ i,i<3→In D ((P3 l).getD i (0,0)).1∧In D ((P3 l).getD i (0,0)).2
 iC:In D (c3 l)
theorem nQ (hd:DK l) (h3:l.length=3) {i:Nat} (hi:i<3):small ((cE l).getD i 0)∧0≤(cE l).getD i 0∧(cE l).getD i 0≤12000:=by
 obtain ⟨D,g⟩:=g3 hd h3;obtain ⟨v,iv⟩:=g.VQ hd h3 hi;have h1:1<l.length:=by omega
 rw [MY hi];obtain ⟨b1,b2⟩:=Wr hd h1 v.z v.le v.len;have b3:=uN hd h1;have D1:=g.D1;exact ⟨jH (CR D1.1 iv) ⟨D1.1,by omega⟩ (by grind) (by grind),b1,by grind⟩
theorem CT (hd:DK l) (h3:l.length=3):∃ D,C3 l D:=by
 obtain ⟨D,g⟩:=g3 hd h3;have h1:1<l.length:=by omega
 have hp:p3 l<3:=AK l;have hq:q3 l<3∧q3 l≠p3 l:=IV l;obtain ⟨v,iv⟩:=g.VQ hd h3 hp;obtain ⟨w,iw⟩:=g.VQ hd h3 hq.1;have D1:=g.D1;have sp:=nQ hd h3 hp;have sq:=nQ hd h3 hq.1;have mx:(cE l).getD (q3 l) 0≤(cE l).getD (p3 l) 0:=iu l hq.1;have io:In D (bV l):=by rw [CS];rw [MY hp,MY hq.1];exact (CR D1.1 iv).sub (CR D1.1 iw)
 have o0:0≤bV l:=by rw [CS];grind
 have ov:bV l≤vS l 1 ((P3 l).getD (p3 l) (0,0)):=by rw [← MY hp];rw [CS];grind
 have ov2:bV l≤cJ l 1 ((P3 l).getD (p3 l) (0,0)).2-cJ l 1 (eH l):=by rw [nP];exact ov
 have ml:=IU hd h1 v.len;have hv:bV l≤cJ l 1 (aP l)-cJ l 1 (eH l):=by have:cJ l 1 ((P3 l).getD (p3 l) (0,0)).2≤cJ l 1 (aP l):=ml;grind
 have fz:0≤eH l:=by rw [nP];exact v.z
 have fle:eH l≤((P3 l).getD (p3 l) (0,0)).2:=by rw [nP];exact v.le
 have fI:In D (eH l):=by rw [nP];exact iv.1
 have m:=Wh hd h1 (q:=eH l) (v:=bV l) fz (Rat.le_trans fle v.len) o0 hv D1.1 (by omega) fI io;obtain ⟨d,hd1,k⟩:=m.d;have dD:1*1≤d*D:=oN hd1.1 D1.1 (by omega) (by omega);have dD2:d*D≤12*432:=oN hd1.2 D1.2 (by omega) (by omega);have hi:c3 l≤((P3 l).getD (p3 l) (0,0)).2:=by
  by_cases hz:bV l=0
  ·have e:c3 l=eH l:=by
    rw [FQ];unfold dJ mrkC;rw [WM hz];rfl
   rw [e];exact fle
  refine Rat.not_lt.1 fun k2=>?_
  have e:=m.eqv;have h1':0<bV l:=by grind
  obtain ⟨p,d,e',_,_,k1,_,_,k4⟩:=ia (hd.ok 1 h1) (p:=eH l) (v:=bV l) fz (by rw [hd.len 1 h1];exact Rat.le_trans fle v.len) h1' (by
   have:=hv;unfold cJ aP at this;rw [hd.len 1 h1];exact this) D1.1 (by omega) fI io
  obtain ⟨_,g2⟩:=fq e';have g2:c3 l=p:=by rw [FQ];exact g2
  rw [g2] at k2;have:=k4 _ k2;have k1:cJ l 1 p=cJ l 1 (eH l)+bV l:=k1;have this:cJ l 1 ((P3 l).getD (p3 l) (0,0)).2<cJ l 1 p:=this;grind
 refine ⟨d*D,⟨by omega,by omega⟩,⟨D,D1.1,m⟩,jH io ⟨D1.1,by omega⟩ (by grind) (by have:=sp.2.2;have:=sq.2.1;rw [CS];grind),o0,by rw [FQ];exact m.ge,hi,fun i hi=>?_,by rw [FQ];exact k⟩;obtain ⟨_,j1,j2⟩:=g.VQ hd h3 hi;exact ⟨j1.up D1.1 hd1.1,j2.up D1.1 hd1.1⟩
end
set_option maxHeartbeats 1000000
section
variable {l:List Ck}
def s3 (l:List Ck) (i:Nat):RS:=(S3 l).getD i (0,0)
theorem MZ:S3 l=[s3 l 0,s3 l 1,s3 l 2]:=by
 have h:(S3 l).length=3:=by
  unfold S3
  cases tr3 l with
  | true=>rw [cond_true,sN];rfl
  | false=>rfl
 unfold s3
 match h2:S3 l,h with
 | [a,b,c],_=>rfl
theorem uO {i:Nat} (hi:i<3):s3 l i=bif tr3 l&&decide (i=p3 l) then (c3 l,((P3 l).getD (p3 l) (0,0)).2) else (P3 l).getD i (0,0):=by
 unfold s3 S3;have hl:(P3 l).length=3:=rfl
 cases tr3 l with
 | true=>
  rw [cond_true,pI]
  by_cases e:i=p3 l
  ·subst e;rw [Os rfl,cond_true,eQ,sK (by omega)];rfl
  ·rw [Tx e,cond_false,eQ,pG (fun h=>e h.symm),← eQ]
 | false=>rw [cond_false,mJ,cond_false]
theorem yP (hd:DK l) (h3:l.length=3):∃ D:Int,(1≤D∧D≤5184)∧∀ i,i<3→VQ l (s3 l i)∧In D (s3 l i).1∧In D (s3 l i).2:=by
 obtain ⟨D,c⟩:=CT hd h3;obtain ⟨D0,g⟩:=g3 hd h3;have hl:=(hd.ok 0 (by omega)).len0;have hL:aP l≤1000:=qT.2 hl.2;have hp:p3 l<3:=AK l;refine ⟨D,c.D1,fun i hi=>?_⟩;rw [uO hi];obtain ⟨v,_⟩:=g.VQ hd h3 hi;obtain ⟨w,_⟩:=g.VQ hd h3 hp;have D1:=c.D1
 cases hc:(tr3 l&&decide (i=p3 l)) with
 | false=>exact ⟨v,c.iP i hi⟩
 | true =>have z:0≤c3 l:=Rat.le_trans (by rw [nP];exact w.z) c.lo;have wl:=w.len;have ch:=c.hi;refine ⟨⟨jH c.iC ⟨D1.1,by omega⟩ (by show -12000≤c3 l;grind) (by show c3 l≤12000;grind),w.s2,z,c.hi,w.len,D,⟨D1.1,by omega⟩,c.iC,(c.iP _ hp).2⟩,c.iC,(c.iP _ hp).2⟩
def lW (l:List Ck):Int:=bif tr3 l then (p3 l:Int) else -1
def gY (l:List Ck):List Qy:=[iI 0 0 (aE l 0*r13) (A3 l)]++[iI 0 0 (aE l 0*dB) (B3 l)]++[cR l 1 0 (A3 l)]++[cR l 1 (A3 l) (B3 l)]
def FR (l:List Ck):List Qy:=[cR l 2 (s3 l 0).1 (s3 l 0).2]++[cR l 2 (s3 l 1).1 (s3 l 1).2]++[cR l 2 (s3 l 2).1 (s3 l 2).2]
def gZ (l:List Ck):List Qy:=gY l++((bif tr3 l then [iI 1 (eH l) (bV l) (c3 l)] else [])++FR l)
theorem yNP {q r:Rat}:((q.num==r.num)&&(((q.den:Int) ==(r.den:Int))&&true))=decide (q=r):=by
 by_cases h:q=r
 ·subst h;simp
 ·rw [Tx h,Bool.and_true]
  cases h1:(q.num==r.num) with
  | false=>rfl
  | true=>
   cases h2:((q.den:Int) ==(r.den:Int)) with
   | false=>rfl
   | true =>simp only [beq_iff_eq] at h1 h2;exact absurd (Rat.ext h1 (by omega)) h
theorem Ws {a b:Nat} (h:a=b):(((a:Nat):Int) !=((b:Nat):Int))=false:=by rw [h];simp
theorem Wt {a b:Nat} (h:¬a=b):(((a:Nat):Int) !=((b:Nat):Int))=true:=by simp only [bne_iff_ne,ne_eq];omega
theorem yNi (hd:DK l) (h3:l.length=3) {lg:List Qy} (hm:lg.length+10<2000) (K) :
  yc1 (aN l) (aC lg) K=K (s3 l 0).1.num (s3 l 0).1.den (s3 l 0).2.num (s3 l 0).2.den (s3 l 1).1.num (s3 l 1).1.den (s3 l 1).2.num (s3 l 1).2.den (s3 l 2).1.num (s3 l 2).1.den (s3 l 2).2.num (s3 l 2).2.den
   (lW l) (bif tr3 l then (eH l).num else 0) (bif tr3 l then ((eH l).den:Int) else 0) (bif tr3 l then (c3 l).num else 0) (bif tr3 l then ((c3 l).den:Int) else 0) (o0 l:Int) (o1 l:Int) (o2 l:Int) (aN l) (aC (lg++gZ l)):=by
 obtain ⟨D,g⟩:=g3 hd h3;have h0:0<l.length:=by omega
 have h1:1<l.length:=by omega
 have h2:2<l.length:=by omega
 have D1:=g.D1;have v0:=(g.VQ hd h3 (i:=0) (by decide)).1;have v1:=(g.VQ hd h3 (i:=1) (by decide)).1;have i3:=In.r3 (totC (l.getD 0 default).cuts (l.getD 0 default).dens);have t0:=oM hd h0;have t12:=uN hd h0;have st:small (aE l 0):=jH (D:=1) (In.int (by decide) _) ⟨by decide,by decide⟩ (by grind) (by grind);have st1:small (aE l 1):=jH (D:=1) (In.int (by decide) _) ⟨by decide,by decide⟩ (by have:=oM hd h1;grind) (uN hd h1);have sa:small (aE l 0*r13):=jH i3.1 ⟨by decide,by decide⟩ (by rw [fH];show -12000≤aE l 0*(1/3);grind) (by rw [fH];show aE l 0*(1/3)≤12000;grind);have sb:small (aE l 0*dB):=jH i3.2 ⟨by decide,by decide⟩ (by rw [fQ];show -12000≤aE l 0*(2/3);grind) (by rw [fQ];show aE l 0*(2/3)≤12000;grind);have th0:=fun K=>yMe hd h0 (q:=0) (v:=aE l 0) v0.s1 iM (by have:=g.a0;have:=g.ab;have:=g.bl;grind) st sa sb (by rw [fH];grind) (by rw [fQ];grind) g.mA g.mB (lg:=lg) (by omega) K
 have eA:A3 l=dJ l 0 0 (aE l 0*r13):=by unfold A3;rfl
 have eB:B3 l=dJ l 0 0 (aE l 0*dB):=by unfold B3;rfl
 rw [← eA,← eB] at th0;have th:∀ K,yax (aN l) (aC lg) 0 0 1 (aE l 0).num (aE l 0).den K=K (A3 l).num (A3 l).den (B3 l).num (B3 l).den (aN l) (aC ((lg++[iI 0 0 (aE l 0*r13) (A3 l)])++[iI 0 0 (aE l 0*dB) (B3 l)])):=th0;have tt0:=fun K=>ik hd h0 (lg:=aC lg) (by rw [lV];omega) K
 have tt0:∀ K,yay (aN l) (aC lg) 0 K=K (aE l 0).num (aE l 0).den (aN l) (aC lg):=tt0;unfold yc1 Vk;dsimp only [lt,Go.Pf.jn];rw [ij,gB,aO (by omega),kG h0,cP,kB,ij,tt0,th];refine (yNO hd h1 (s:=(0,A3 l)) (t:=(A3 l,B3 l)) v0 v1 (lg:=(lg++[iI 0 0 (aE l 0*r13) (A3 l)])++[iI 0 0 (aE l 0*dB) (B3 l)]) (by simp only [dM,lD];omega) _ _ _ _ _ _ _ _ _ _ _ _ _ _ _ _ _ _ _ _ ).trans ?_;have v2:=(g.VQ hd h3 (i:=2) (by decide)).1;have w0:small (vS l 1 (0,A3 l))∧0≤vS l 1 (0,A3 l)∧vS l 1 (0,A3 l)≤12000:=nQ hd h3 (i:=0) (by decide);have w1:small (vS l 1 (A3 l,B3 l))∧0≤vS l 1 (A3 l,B3 l)∧vS l 1 (A3 l,B3 l)≤12000:=nQ hd h3 (i:=1) (by decide);have w2:small (vS l 1 (B3 l,aP l))∧0≤vS l 1 (B3 l,aP l)∧vS l 1 (B3 l,aP l)≤12000:=nQ hd h3 (i:=2) (by decide);have tt1:=fun K=>ik hd h1 (lg:=aC (lg++gY l)) (by rw [lV,dM];show lg.length+4≤2000;omega) K
 have eT:aE l 1-vS l 1 (0,A3 l)-vS l 1 (A3 l,B3 l)=vS l 1 (B3 l,aP l):=by rw [← yO hd h1];show cJ l 1 (aP l)-cJ l 1 0-(cJ l 1 (A3 l)-cJ l 1 0)-(cJ l 1 (B3 l)-cJ l 1 (A3 l))=cJ l 1 (aP l)-cJ l 1 (B3 l);grind
 have e1:aE l 1-vS l 1 (0,A3 l)=vS l 1 (A3 l,B3 l)+vS l 1 (B3 l,aP l):=by grind
 have i1:In D (aE l 1-vS l 1 (0,A3 l)):=(In.int D1.1 _).sub (CR D1.1 (g.VQ hd h3 (i:=0) (by decide)).2);have s1:small (aE l 1-vS l 1 (0,A3 l)):=jH i1 ⟨D1.1,by omega⟩ (by grind) (by have:=uN hd h1;grind);have sub0:∀ K,yaF (aE l 1).num (aE l 1).den (aJ (aQ ((dG [vS l 1 (0,A3 l),vS l 1 (A3 l,B3 l)]).getD 0 .nils) 0)) (aJ (aQ ((dG [vS l 1 (0,A3 l),vS l 1 (A3 l,B3 l)]).getD 0 .nils) 1)) K=K (aE l 1-vS l 1 (0,A3 l)).num (aE l 1-vS l 1 (0,A3 l)).den 0:=fun K=>
  (CD st1 w0.1 K).trans (by rw [iG,WM s1])
 have sub1:∀ K,yaF (aE l 1-vS l 1 (0,A3 l)).num (aE l 1-vS l 1 (0,A3 l)).den (aJ (aQ ((dG [vS l 1 (0,A3 l),vS l 1 (A3 l,B3 l)]).getD 1 .nils) 0)) (aJ (aQ ((dG [vS l 1 (0,A3 l),vS l 1 (A3 l,B3 l)]).getD 1 .nils) 1)) K=K (vS l 1 (B3 l,aP l)).num (vS l 1 (B3 l,aP l)).den 0:=fun K=>
  (CD s1 w1.1 K).trans (by rw [eT,iG,WM w2.1])
 have eV:dG [vS l 1 (0,A3 l),vS l 1 (A3 l,B3 l)]++[.agg [.int .i64 (vS l 1 (B3 l,aP l)).num,.int .i64 (vS l 1 (B3 l,aP l)).den]]=dG (cE l):=rfl;have vs:∀ i,i<3→small ((cE l).getD i 0):=fun i hi=>(nQ hd h3 hi).1
 have hp:p3 l<3:=AK l;have hq:q3 l<3∧q3 l≠p3 l:=IV l;have pA:∀ K,yaE (dG (cE l)) [.int .i64 0,.int .i64 1,.int .i64 2] K=K (p3 l:Nat):=fun K=>by unfold p3;exact iq rfl vs K
 have pO:∀ K,yaE (dG (cE l)) (fU (pC (p3 l))) K=K (q3 l:Nat):=fun K=>by unfold q3;exact ir rfl vs hp K
 have eL:lg++[iI 0 0 (aE l 0*r13) (A3 l)]++[iI 0 0 (aE l 0*dB) (B3 l)]++[cR l 1 (0,A3 l).fst (0,A3 l).snd]++[cR l 1 (A3 l,B3 l).fst (A3 l,B3 l).snd]=lg++gY l:=by unfold gY;simp only [lX]
 have tt1:∀ K,yay (aN l) (aC (lg++gY l)) 1 K=K (aE l 1).num (aE l 1).den (aN l) (aC (lg++gY l)):=tt1;rw [eL,tt1,sub0,oK,sub1,oK,eV,yV,pA,Wn hp,pO];have hl:(cE l).length=3:=rfl;have gp:getD (dG (cE l)) (0+(((p3 l:Nat):Int)).toNat) .nils=dR ((cE l).getD (p3 l) 0):=by rw [cM,iK,MR (by omega)]
 have gq:getD (dG (cE l)) (0+(((q3 l:Nat):Int)).toNat) .nils=dR ((cE l).getD (q3 l) 0):=by rw [cM,iK,MR (by omega)]
 rw [gp,gq];have hlp:(dG (cE l)).length=3:=rfl;have hlp':∀ x:PV,(set (dG (cE l)) (0+(((p3 l:Nat):Int)).toNat) x).length=3:=fun x=>by rw [sN];rfl
 have hc:(!((aJ (aQ (dR ((cE l).getD (p3 l) 0)) 0)==aJ (aQ (dR ((cE l).getD (q3 l) 0)) 0))&&((aJ (aQ (dR ((cE l).getD (p3 l) 0)) 1)==aJ (aQ (dR ((cE l).getD (q3 l) 0)) 1))&&true)))=tr3 l:=by rw [ix,← yNP];rfl
 rw [hlp,hc];have V:=fun i hi=>((yP hd h3).choose_spec.2 i hi:VQ l (s3 l i)∧_).1
 have u0:=V 0 (by decide);have u1:=V 1 (by decide);have u2:=V 2 (by decide);have hw:∀ i,i<3→small ((sI l).getD i 0):=fun i hi=>by
  have h:=V i hi;obtain ⟨D,D1,iD⟩:=h.D;have e:(sI l).getD i 0=vS l 2 (s3 l i):=by
   unfold sI;rw [MZ];obtain rfl | rfl | rfl:i=0∨i=1∨i=2:=by omega
   all_goals rfl
  obtain ⟨b1,b2⟩:=Wr hd h2 h.z h.le h.len;have b3:=uN hd h2;obtain ⟨D',D1',iD'⟩:=yP hd h3;rw [e];exact jH (CR D1'.1 (iD' i hi).2) ⟨D1'.1,by omega⟩ (by grind) (by grind)
 have ho2:o2 l<3:=MX l;have hvs:∀ i,i<3→small ((dH l).getD i 0):=fun i hi=>by
  unfold dH
  cases tr3 l with
  | false=>exact vs i hi
  | true=>
   rw [cond_true]
   by_cases e:i=p3 l
   ·rw [e,eQ,sK (by omega)];exact vs _ hq.1
   ·rw [eQ,pG (fun h=>e h.symm),← eQ];exact vs i hi
 have hvl:(dH l).length=3:=by
  unfold dH
  cases tr3 l with
  | false=>rfl
  | true=>rw [cond_true,sN];rfl
 have ho1:=iy l;have hwl:(sI l).length=3:=by unfold sI;rw [MZ];rfl
 have pW:∀ K,yaE (dG (sI l)) [.int .i64 0,.int .i64 1,.int .i64 2] K=K (o2 l:Nat):=fun K=>by unfold o2;exact iq hwl hw K
 have pS:∀ K,yaE (dG (dH l)) (fU (pC (o2 l))) K=K (pkO (dH l) (o2 l):Nat):=fun K=>ir hvl hvs ho2 K
 cases htr:tr3 l with
 | false=>
  rw [aS]
  repeat (refine (jG (by first | exact Os (by omega) | rfl)).trans ?_)
  have z:S3 l=P3 l:=by unfold S3;rw [htr];rfl
  have z0:s3 l 0=(0,A3 l):=by unfold s3;rw [z];rfl
  have z1:s3 l 1=(A3 l,B3 l):=by unfold s3;rw [z];rfl
  have z2:s3 l 2=(B3 l,aP l):=by unfold s3;rw [z];rfl
  refine (it hd h2 (s:=(0,A3 l)) (t:=(A3 l,B3 l)) (u:=(B3 l,aP l)) v0 v1 v2 (lg:=lg++gY l) (by rw [dM];show lg.length+4+3<2000;omega) _ _ _ _ _ _ _ _ _).trans ?_;have eW:dG [vS l 2 (0,A3 l),vS l 2 (A3 l,B3 l),vS l 2 (B3 l,aP l)]=dG (sI l):=by unfold sI;rw [z];rfl
  have e1':o1 l=pkO (dH l) (o2 l):=by rw [IW,htr];rfl
  have eT3:take 3 (dG (cE l))=dG (dH l):=by unfold dH;rw [htr];rfl
  rw [eW];rw [yV];rw [pW];rw [Wn ho2];rw [eT3];rw [pS];rw [aZ (by decide)];rw [aS];rw [← e1'];rw [Wo ho1.1 ho2 ho1.2]
  iterate 6 refine (jG (by first | rfl | exact Os (by omega))).trans ?_
  have eG:lg++gY l++[cR l 2 (0,A3 l).fst (0,A3 l).snd]++[cR l 2 (A3 l,B3 l).fst (A3 l,B3 l).snd]++[cR l 2 (B3 l,aP l).fst (B3 l,aP l).snd]=lg++gZ l:=by unfold gZ FR;rw [htr,z0,z1,z2,cond_false,pH];simp only [lX]
  have e5:∀ x:Nat,aJ (getD (fU [x]) 0 .nils)=(x:Int):=fun _=>rfl
  have e6:lW l=-1:=by unfold lW;rw [htr];rfl
  have e7:o0 l=3-o1 l-o2 l:=by unfold o0;rfl
  rw [eG,e5,e6,z0,z1,z2,e7];rfl
 | true=>
  rw [bB];obtain ⟨D',C⟩:=CT hd h3;have sp:=nQ hd h3 hp;have sq:=nQ hd h3 hq.1;have subO:∀ K,yaF (aJ (aQ (dR ((cE l).getD (p3 l) 0)) 0)) (aJ (aQ (dR ((cE l).getD (p3 l) 0)) 1)) (aJ (aQ (dR ((cE l).getD (q3 l) 0)) 0)) (aJ (aQ (dR ((cE l).getD (q3 l) 0)) 1)) K=K (bV l).num (bV l).den 0:=fun K=>(CD sp.1 sq.1 K).trans (by rw [← CS,iG,WM C.so])
  have mk:∀ K,yat (aN l) (aC (lg++gY l)) 1 (eH l).num (eH l).den (bV l).num (bV l).den K=K (c3 l).num (c3 l).den (aN l) (aC (lg++gY l++[iI 1 (eH l) (bV l) (c3 l)])):=fun K=>by
   obtain ⟨E,_,m⟩:=C.m;rw [FQ];have w:=(g.VQ hd h3 hp).1;exact Wj hd h1 (by rw [nP];exact w.s1) (by rw [nP];exact w.z) (by rw [nP];exact Rat.le_trans w.le w.len) C.so C.o0 m (by rw [dM];show lg.length+4<2000;omega) K
  have eS:set (dG (cE l)) (0+(((p3 l:Nat):Int)).toNat) (.agg [.int .i64 (aJ (aQ (dR ((cE l).getD (q3 l) 0)) 0)),.int .i64 (aJ (aQ (dR ((cE l).getD (q3 l) 0)) 1))])=dG (dH l):=by unfold dH;rw [htr,cond_true,cM,iK];unfold dG;rw [List.map_set];rfl
  rw [subO,oK,eS];rcases (show p3 l=0∨p3 l=1∨p3 l=2 by omega) with hpe | hpe | hpe
  case' inl=>
   have hfr:eH l=0:=by rw [nP,hpe];rfl
   have z0:s3 l 0=(c3 l,A3 l):=by rw [uO (by decide),htr,hpe];rfl
   have z1:s3 l 1=(A3 l,B3 l):=by rw [uO (by decide),htr,hpe];rfl
   have z2:s3 l 2=(B3 l,aP l):=by rw [uO (by decide),htr,hpe];rfl
   have mkp:∀ K,yat (aN l) (aC (lg++gY l)) 1 0 1 (bV l).num (bV l).den K=K (c3 l).num (c3 l).den (aN l) (aC (lg++gY l++[iI 1 (eH l) (bV l) (c3 l)])):=fun K=>by
    have h:=mk K;rw [hfr] at h ⊢;exact h
   rw [hpe,aW (show ((0:Nat):Int)=0 from rfl),aW (show ((0:Nat):Int)=0 from rfl),mkp,aW (show ((0:Nat):Int)=0 from rfl)]
  case' inr.inl=>
   have hfr:eH l=A3 l:=by rw [nP,hpe];rfl
   have z0:s3 l 0=(0,A3 l):=by rw [uO (by decide),htr,hpe];rfl
   have z1:s3 l 1=(c3 l,B3 l):=by rw [uO (by decide),htr,hpe];rfl
   have z2:s3 l 2=(B3 l,aP l):=by rw [uO (by decide),htr,hpe];rfl
   have mkp:∀ K,yat (aN l) (aC (lg++gY l)) 1 (A3 l).num (A3 l).den (bV l).num (bV l).den K=K (c3 l).num (c3 l).den (aN l) (aC (lg++gY l++[iI 1 (eH l) (bV l) (c3 l)])):=fun K=>by
    have h:=mk K;rw [hfr] at h ⊢;exact h
   rw [hpe,aZ (show ¬((1:Nat):Int)=0 by decide),aW (show ((1:Nat):Int)=1 from rfl),aZ (show ¬((1:Nat):Int)=0 by decide),aW (show ((1:Nat):Int)=1 from rfl),mkp,aZ (show ¬((1:Nat):Int)=0 by decide),aW (show ((1:Nat):Int)=1 from rfl)]
  case' inr.inr=>
   have hfr:eH l=B3 l:=by rw [nP,hpe];rfl
   have z0:s3 l 0=(0,A3 l):=by rw [uO (by decide),htr,hpe];rfl
   have z1:s3 l 1=(A3 l,B3 l):=by rw [uO (by decide),htr,hpe];rfl
   have z2:s3 l 2=(c3 l,aP l):=by rw [uO (by decide),htr,hpe];rfl
   have mkp:∀ K,yat (aN l) (aC (lg++gY l)) 1 (B3 l).num (B3 l).den (bV l).num (bV l).den K=K (c3 l).num (c3 l).den (aN l) (aC (lg++gY l++[iI 1 (eH l) (bV l) (c3 l)])):=fun K=>by
    have h:=mk K;rw [hfr] at h ⊢;exact h
   rw [hpe,aZ (show ¬((2:Nat):Int)=0 by decide),aZ (show ¬((2:Nat):Int)=1 by decide),aW (show ((2:Nat):Int)=2 from rfl),aZ (show ¬((2:Nat):Int)=0 by decide),aZ (show ¬((2:Nat):Int)=1 by decide),aW (show ((2:Nat):Int)=2 from rfl),mkp,aZ (show ¬((2:Nat):Int)=0 by decide),aZ (show ¬((2:Nat):Int)=1 by decide),aW (show ((2:Nat):Int)=2 from rfl)]
  all_goals
   rw [z0] at u0;rw [z1] at u1;rw [z2] at u2
   iterate 47 refine (jG (by first | exact Os (by omega) | rfl)).trans ?_
   refine (it hd h2 u0 u1 u2 (lg:=lg++gY l++[iI 1 (eH l) (bV l) (c3 l)]) (by simp only [dM,lD];show lg.length+4+1+3<2000;omega) _ _ _ _ _ _ _ _ _).trans ?_;have eW:dG [vS l 2 (s3 l 0),vS l 2 (s3 l 1),vS l 2 (s3 l 2)]=dG (sI l):=by unfold sI;rw [MZ];rfl
   have eT3:take 3 (dG (dH l))=dG (dH l):=wJ (by rw [We];omega);have eG:lg++gY l++[iI 1 (eH l) (bV l) (c3 l)]++[cR l 2 (s3 l 0).fst (s3 l 0).snd]++[cR l 2 (s3 l 1).fst (s3 l 1).snd]++[cR l 2 (s3 l 2).fst (s3 l 2).snd]=lg++gZ l:=by unfold gZ FR;rw [htr,cond_true];simp only [lX]
   rw [z0,z1,z2] at eW eG;have e5:∀ x:Nat,aJ (getD (fU [x]) 0 .nils)=(x:Int):=fun _=>rfl
   have e6:lW l=((p3 l:Nat):Int):=by unfold lW;rw [htr];rfl
   have e7:o0 l=3-o1 l-o2 l:=by unfold o0;rfl
   have hlv:(dG (dH l)).length=3:=by rw [We];exact hvl
   rw [eW,yV,pW,Wn ho2,eT3,pS,aW (by decide)];rw [hpe] at e6
   by_cases hn:p3 l=o2 l
   ·have e1':o1 l=pkO (dH l) (o2 l):=by
     rw [IW,htr,Os hn];rfl
    rw [hpe] at hn;rw [Ws hn,aS,← e1',Wo ho1.1 ho2 ho1.2]
    iterate 6 refine (jG (by first | rfl | exact Os (by omega))).trans ?_
    rw [eG,e5,e6,z0,z1,z2,e7];rw [hfr];rfl
   ·have e1':o1 l=p3 l:=by
     rw [IW,htr,Tx hn];rfl
    rw [hpe] at hn e1';rw [Wt hn,bB];have ot:=fun K=>Wo ho1.1 ho2 ho1.2 K
    rw [e1'] at ot;rw [ot]
    iterate 6 refine (jG (by first | rfl | exact Os (by omega))).trans ?_
    rw [eG,e5,e6,z0,z1,z2,e7,e1'];rw [hfr];rfl
end
set_option maxHeartbeats 1000000
section
variable {l:List Ck}
theorem yNQ (l:List Ck):o0 l=3-o1 l-o2 l:=by unfold o0;rfl
end
theorem IX {c:Bool} {P Q:Prop} (h:c=true):aB c P Q=P:=by rw [h,bB]
variable {l:List Ck}
set_option maxHeartbeats 1000000
section
variable {l:List Ck}
theorem yNR (hd:DK l) {a:Nat} (h2:a<l.length) {lg:List PV} (hm:lg.length≤2000) (K:Int→Int→Prop):yed (aN l) lg a K=K (totC (l.getD a default).cuts (l.getD a default).dens) 0:=by have hok:=hd.ok a h2;have n6:=hd.n6;have h1:=VC.l1 hok;have h3:=VC.l2 hok;unfold yed LE;rw [IQ hd.fin (by omega),hd.err hm,cD rfl,MO,Os (by omega),jJ,aS];simp only [lt];rw [gB,cM,kG h2,aO (by omega),aO (by omega),cP,kB,mG,mH,dc (by omega) (by omega),WM (VC.ck hok)]
end
set_option maxHeartbeats 1000000
section
variable {l:List Ck}
theorem yNj (hd:DK l) {a:Nat} (ha:a<l.length) {q v:Rat} (hs:small q) (q0:0≤q) (q1:q≤aP l) (hv:small v) (v0:0≤v) {D:Int} (h:MkV l a q v D) {lg:List Qy} (hm:lg.length<2000) (K:List PV→List PV→Int→Int→Int→Prop) :
  Fu (aN l) (aC lg) a q.num q.den v.num v.den K=K (aN l) (aC (lg++[iI a q v (dJ l a q v)])) (dJ l a q v).num (dJ l a q v).den 0:=by
 have n6:=hd.n6;rw [fb hd.fin (by omega) (AI lg) hs.i1 hs.i2 hv.i1 hv.i2];have k:=Wi hd ha hs q0 q1 hv v0 h hm K;rw [VV hd.fin (by omega) (AI lg) hs.i1 hs.i2 hv.i1 hv.i2] at k;exact k
theorem yMg (hd:DK l) {a:Nat} (ha:a<l.length) {q p:Rat} (hs:small q) (hp:small p) (q0:0≤q) (qp:q≤p) (p1:p≤aP l) {D:Int} (hD:1≤D∧D≤50000000000000) (hq:In D q) (hpD:In D p) {lg:List Qy} (hm:lg.length<2000) (K:List PV→List PV→Int→Int→Int→Prop) :
  Cn (aN l) (aC lg) a q.num q.den p.num p.den K=K (aN l) (aC (lg++[cR l a q p])) (cJ l a p-cJ l a q).num (cJ l a p-cJ l a q).den 0:=by
 rw [yJJ hd hs.i1 hs.i2 lg hp,(ii hd ha hs hp q0 qp p1 hD hq hpD (m:=lg.length) hm).1];rfl
end
set_option maxHeartbeats 1000000
section
variable {l:List Ck} {A:List Nat} {q p:Rat} {D:Int}
theorem mY (n:Int) (K:Int→Int→Prop):fK n K=K n 1:=rfl
end
section
variable {l:List Ck}
theorem uP (hd:DK l) {a:Nat} (ha:a<l.length) {s:RS} (h:VQ l s) {lg:List Qy} (hm:lg.length<2000) (K:Int→Int→List PV→List PV→Int→Prop) :
  yai (aN l) (aC lg) 0 a s.1.num s.1.den s.2.num s.2.den K=K (vS l a s).num (vS l a s).den (aN l) (aC (lg++[cR l a s.1 s.2])) 0:=by
 obtain ⟨D,hD,k1,k2⟩:=h.D;unfold yai Mq;rw [qP rfl,aS,yMg hd ha h.s1 h.s2 h.z h.le h.len hD k1 k2 hm];rfl
theorem Na (hd:DK l) {a:Nat} (ha:a<l.length) {q v:Rat} (hs:small q) (q0:0≤q) (q1:q≤aP l) (hv:small v) (v0:0≤v) {D:Int} (h:MkV l a q v D) {lg:List Qy} (hm:lg.length<2000) (K:Int→Int→List PV→List PV→Int→Prop) :
  yaj (aN l) (aC lg) 0 a q.num q.den v.num v.den K=K (dJ l a q v).num (dJ l a q v).den (aN l) (aC (lg++[iI a q v (dJ l a q v)])) 0:=by
 unfold yaj Il;rw [qP rfl,aS,yNj hd ha hs q0 q1 hv v0 h hm]
theorem iz {v:Rat} (hv:small v) (h:small (v*r13)) (c g:List PV) (K:Int→Int→List PV→List PV→Int→Prop) :
  fB c g 0 v.num v.den 1 K=K (v*r13).num (v*r13).den c g 0:=by
 unfold fB Ik;have m1:=fun K=>MJ hv CP K
 rw [CL,CM] at m1;have m1:∀ K,ygs v.num v.den 1 3 K=_:=m1;rw [qP rfl,aS,m1,iG,WM h]
theorem ja {v:Rat} (hv:small v) (h:small (v*dB)) (c g:List PV) (K:Int→Int→List PV→List PV→Int→Prop) :
  fB c g 0 v.num v.den 2 K=K (v*dB).num (v*dB).den c g 0:=by
 unfold fB Ik;have m1:=fun K=>MJ hv CQ K
 rw [CN,CO] at m1;have m1:∀ K,ygs v.num v.den 2 3 K=_:=m1;rw [qP rfl,aS,m1,iG,WM h]
theorem Wu {a b:Rat} (ha:small a) (hb:small b) (h:small (a-b)) (c g:List PV) (K:Int→Int→List PV→List PV→Int→Prop) :
  yap c g 0 a.num a.den b.num b.den K=K (a-b).num (a-b).den c g 0:=by
 unfold yap Mr;rw [qP rfl,aS,VK ha hb,iG,WM h]
end
section
variable (A:Int→Int→Int→Int→(Bool→Prop)→Prop) (x:Int→Int→Int→Int→Int→Int→Bool→Bool→Bool→Int→Int→Bool→Prop) (a0 b0 a1 b1 a2 b2:Int) (t0 t1 t2:Bool)
def eP (a b c:Int) (k:Nat):Int:=if k=0 then a else if k=1 then b else c
theorem Wv:mC A x 4 a0 b0 a1 b1 a2 b2 false t1 t2 (-1) 0=mC A x 3 a0 b0 a1 b1 a2 b2 false t1 t2 0 1:=by kernel_rfl
theorem Ww:mC A x 4 a0 b0 a1 b1 a2 b2 true t1 t2 (-1) 0=mC A x 3 a0 b0 a1 b1 a2 b2 true t1 t2 (-1) 1:=by kernel_rfl
theorem Wx:mC A x 3 a0 b0 a1 b1 a2 b2 t0 false t2 (-1) 1=mC A x 2 a0 b0 a1 b1 a2 b2 t0 false t2 1 2:=by kernel_rfl
theorem jb:mC A x 3 a0 b0 a1 b1 a2 b2 t0 false t2 0 1=A a0 b0 a1 b1 (fun b=>aB b (mC A x 2 a0 b0 a1 b1 a2 b2 t0 false t2 1 2) (mC A x 2 a0 b0 a1 b1 a2 b2 t0 false t2 0 2)):=by kernel_rfl
theorem Wy:mC A x 3 a0 b0 a1 b1 a2 b2 t0 true t2 0 1=mC A x 2 a0 b0 a1 b1 a2 b2 t0 true t2 0 2:=by kernel_rfl
theorem IY:mC A x 2 a0 b0 a1 b1 a2 b2 t0 t1 false 0 2=A a0 b0 a2 b2 (fun b=>aB b (x a0 b0 a1 b1 a2 b2 t0 t1 false 2 3 false) (x a0 b0 a1 b1 a2 b2 t0 t1 false 0 3 false)):=by kernel_rfl
theorem IZ:mC A x 2 a0 b0 a1 b1 a2 b2 t0 t1 false 1 2=A a1 b1 a2 b2 (fun b=>aB b (x a0 b0 a1 b1 a2 b2 t0 t1 false 2 3 false) (x a0 b0 a1 b1 a2 b2 t0 t1 false 1 3 false)):=by kernel_rfl
theorem yNS:mC A x 2 a0 b0 a1 b1 a2 b2 t0 t1 true 0 2=x a0 b0 a1 b1 a2 b2 t0 t1 true 0 3 false:=by kernel_rfl
theorem yNT:mC A x 2 a0 b0 a1 b1 a2 b2 t0 t1 true 1 2=x a0 b0 a1 b1 a2 b2 t0 t1 true 1 3 false:=by kernel_rfl
end
section
variable {a b c:Rat} (ha:small a) (hb:small b) (hc:small c)
include ha hb hc
theorem Wz (K:Int→Prop):yaA a.num a.den b.num b.den c.num c.den false false false K=K (pk [a,b,c]:Nat):=by
 refine Mz _ _ _ _ _ _ _ _ _ _ (fun K k=>?_) K;unfold yaA FC;refine ⟨4,?_⟩;rw [Wv,jb,oJ ha hb];have e:pk [a,b,c]=if a<b then (if b<c then 2 else 1) else (if a<c then 2 else 0):=by
  have n:∀ q:Rat,¬q<q:=fun q h=>zH h
  show nO (fun i=>[a,b,c].getD i 0) (if a<a then 0 else 0) [1,2]=_;rw [WN (n a)];show nO (fun i=>[a,b,c].getD i 0) (if a<b then 1 else 0) [2]=_
  by_cases h:a<b
  ·rw [WM h,WM h];rfl
  ·rw [WN h,WN h];rfl
 rw [e] at k
 by_cases h:a<b
 ·rw [Os h,bB,IZ,oJ hb hc];rw [WM h] at k
  by_cases h2:b<c
  ·rw [Os h2,bB];rw [WM h2] at k;exact k
  ·rw [Tx h2,aS];rw [WN h2] at k;exact k
 ·rw [Tx h,aS,IY,oJ ha hc];rw [WN h] at k
  by_cases h2:a<c
  ·rw [Os h2,bB];rw [WM h2] at k;exact k
  ·rw [Tx h2,aS];rw [WN h2] at k;exact k
omit ha in
theorem yNU (K:Int→Prop):yaA a.num a.den b.num b.den c.num c.den true false false K=K (pkO [a,b,c] 0:Nat):=by
 refine Mz _ _ _ _ _ _ _ _ _ _ (fun K k=>?_) K;unfold yaA FC;refine ⟨4,?_⟩;rw [Ww,Wx,IZ,oJ hb hc];have e:pkO [a,b,c] 0=if b<c then 2 else 1:=by
  have n:∀ q:Rat,¬q<q:=fun q h=>zH h
  show nO (fun i=>[a,b,c].getD i 0) (if b<b then 1 else 1) [2]=_;rw [WN (n b)];rfl
 rw [e] at k
 by_cases h:b<c
 ·rw [Os h,bB];rw [WM h] at k;exact k
 ·rw [Tx h,aS];rw [WN h] at k;exact k
omit hb in
theorem yNV (K:Int→Prop):yaA a.num a.den b.num b.den c.num c.den false true false K=K (pkO [a,b,c] 1:Nat):=by
 refine Mz _ _ _ _ _ _ _ _ _ _ (fun K k=>?_) K;unfold yaA FC;refine ⟨4,?_⟩;rw [Wv,Wy,IY,oJ ha hc];have e:pkO [a,b,c] 1=if a<c then 2 else 0:=by
  have n:∀ q:Rat,¬q<q:=fun q h=>zH h
  show nO (fun i=>[a,b,c].getD i 0) (if a<a then 0 else 0) [2]=_;rw [WN (n a)];rfl
 rw [e] at k
 by_cases h:a<c
 ·rw [Os h,bB];rw [WM h] at k;exact k
 ·rw [Tx h,aS];rw [WN h] at k;exact k
omit hc in
theorem yNW (K:Int→Prop):yaA a.num a.den b.num b.den c.num c.den false false true K=K (pkO [a,b,c] 2:Nat):=by
 refine Mz _ _ _ _ _ _ _ _ _ _ (fun K k=>?_) K;unfold yaA FC;refine ⟨4,?_⟩;rw [Wv,jb,oJ ha hb];have e:pkO [a,b,c] 2=if a<b then 1 else 0:=by
  have n:∀ q:Rat,¬q<q:=fun q h=>zH h
  show nO (fun i=>[a,b,c].getD i 0) (if a<a then 0 else 0) [1]=_;rw [WN (n a)];rfl
 rw [e] at k
 by_cases h:a<b
 ·rw [Os h,bB,yNT];rw [WM h] at k;exact k
 ·rw [Tx h,aS,yNS];rw [WN h] at k;exact k
theorem WA {p:Nat} (hp:p<3) (K:Int→Prop):yaA a.num a.den b.num b.den c.num c.den (decide (p=0)) (decide (p=1)) (decide (p=2)) K=K (pkO [a,b,c] p:Nat):=by
 obtain rfl|rfl|rfl:p=0∨p=1∨p=2:=by omega
 ·exact yNU hb hc K
 ·exact yNV ha hc K
 ·exact yNW ha hb K
end
set_option maxHeartbeats 4000000
theorem qS {f:Nat→Prop} {R:Prop} (h:∀ n,f n=R):(∃ n,f n)=R:=Aab ⟨fun ⟨n,k⟩=>h n ▸ k,fun k=>⟨0,(h 0).symm ▸ k⟩⟩
def FS (pc:Int) (o b:Nat):Int:=if 0≤pc∧pc≠o then pc else b
def gN (p k:Nat) (c i:Int):Int:=if p=k then c else i
section
variable {x:List PV→List PV→Int→Int→Int→Int→Int→Int→Int→Int→Int→Int→Int→Int→Int→Int→Int→Int→Int→Int→Int→Int→Int→Prop} {l0 l1:List PV} {i2 i3 i4 i5 i6 i7 i8 i9 j0 j1 j2 j3 j4 j5 j6 j7 j8 j9 r0 r1 r2 r3 r4 r5 r6 r7 r8 r9 s0 s1 s2 s3 s4 s5 s6 s7 s8 s9 q0 q1 q2 q3 q4 q5 q6 q7 q8:Int}
theorem f70 {o b:Nat} (ho:o<3) (hb:b<3) {pc:Int} (hp:pc=-1∨pc=0∨pc=1∨pc=2) {c1 g1 c2 g2 c3 g3:List PV} {u0 d0 u1 d1 u2 d2 e1 e2 e3:Int}
  (h1:∀ K,yai l0 l1 i2 2 r3 r4 r5 r6 K=K u0 d0 c1 g1 e1)
  (h2:∀ K,yai c1 g1 e1 2 r7 r8 r9 s0 K=K u1 d1 c2 g2 e2)
  (h3:∀ K,yai c2 g2 e2 2 s1 s2 s3 s4 K=K u2 d2 c3 g3 e3)
  (hw:∀ K,yaA u0 d0 u1 d1 u2 d2 false false false K=K (o:Nat))
  (hv:∀ K,yaA q3 q4 q5 q6 q7 q8 (decide (o=0)) (decide (o=1)) (decide (o=2)) K=K (b:Nat)) {b49 b50 b51:Bool} :
  (∃ n:Nat,qM fK yaM fB yaj yai yap yaA yaC x n l0 l1 i2 i3 i4 i5 i6 i7 i8 i9 j0 j1 j2 j3 j4 j5 j6 j7 j8 j9 r0 r1 r2 r3 r4 r5 r6 r7 r8 r9 s0 s1 s2 s3 s4 pc s6 s7 s8 s9 q0 q1 q2 q3 q4 q5 q6 q7 q8 b49 b50 b51)=x c3 g3 e3 r3 r4 r5 r6 r7 r8 r9 s0 s1 s2 s3 s4 pc s6 s7 s8 s9 (3-FS pc o b-o) (FS pc o b) o:=by
 refine qS fun n=>?_
 unfold qM;dsimp only;rw [h1,h2,h3];unfold Ip;dsimp only;rw [dS,hw];unfold Mu;dsimp only;rw [dS];obtain rfl | rfl | rfl:o=0∨o=1∨o=2:=by omega
 case' inl=>rw [aW (by decide)]
 case' inr.inl=>rw [aZ (by decide),aW (by decide)]
 case' inr.inr=>rw [aZ (by decide),aZ (by decide),aW (by decide)]
 all_goals
  unfold FD;dsimp only;rw [dS];refine (hv _).trans ?_;unfold Mt;dsimp only;rw [dS];obtain rfl | rfl | rfl | rfl:=hp
  all_goals
   first
    | rw [aW (by decide),aW (by decide)]
    | rw [aW (by decide),aZ (by decide),aW (by decide)]
    | rw [aW (by decide),aZ (by decide),aZ (by decide),aW (by decide)]
    | rw [aZ (by decide)]
  all_goals
   unfold Cu;dsimp only;rw [dS]
   first
    | rw [jJ,aS]
    | rw [jS,bB]
    | rw [aS]
   first | (unfold Cv;dsimp only;rw [dS]) | (unfold Cw;dsimp only;rw [dS])
   obtain rfl|rfl|rfl:b=0∨b=1∨b=2:=by omega
   all_goals kernel_rfl
theorem jc {o b:Nat} (ho:o<3) (hb:b<3) {pc:Int} (hp:pc=-1∨pc=0∨pc=1∨pc=2) {c1 g1 c2 g2 c3 g3:List PV} {u0 d0 u1 d1 u2 d2 e1 e2 e3:Int}
  (h1:∀ K,yai l0 l1 i2 2 r3 r4 r5 r6 K=K u0 d0 c1 g1 e1)
  (h2:∀ K,yai c1 g1 e1 2 r7 r8 r9 s0 K=K u1 d1 c2 g2 e2)
  (h3:∀ K,yai c2 g2 e2 2 s1 s2 s3 s4 K=K u2 d2 c3 g3 e3)
  (hw:∀ K,yaA u0 d0 u1 d1 u2 d2 false false false K=K (o:Nat))
  (hv:∀ K,yaA q3 q4 q5 q6 q7 q8 (decide (o=0)) (decide (o=1)) (decide (o=2)) K=K (b:Nat)) {q9:Int} {b50 b51 b52:Bool} {z3:Int} {b54:Bool} :
  (∃ n:Nat,qN fK yaM fB yaj yai yap yaA yaC x n l0 l1 i2 i3 i4 i5 i6 i7 i8 i9 j0 j1 j2 j3 j4 j5 j6 j7 j8 j9 r0 r1 r2 r3 r4 r5 r6 r7 r8 r9 s0 s1 s2 s3 s4 pc s6 s7 s8 s9 q0 q1 q2 q3 q4 q5 q6 q7 q8 q9 b50 b51 b52 z3 b54)=x c3 g3 e3 r3 r4 r5 r6 r7 r8 r9 s0 s1 s2 s3 s4 pc s6 s7 s8 s9 (3-FS pc o b-o) (FS pc o b) o:=by
 refine qS fun n=>?_
 unfold qN;dsimp only;rw [h1,h2,h3];unfold Ip;dsimp only;rw [dS,hw];unfold Mu;dsimp only;rw [dS];obtain rfl | rfl | rfl:o=0∨o=1∨o=2:=by omega
 case' inl=>rw [aW (by decide)]
 case' inr.inl=>rw [aZ (by decide),aW (by decide)]
 case' inr.inr=>rw [aZ (by decide),aZ (by decide),aW (by decide)]
 all_goals
  unfold FD;dsimp only;rw [dS];refine (hv _).trans ?_;unfold Mt;dsimp only;rw [dS];obtain rfl | rfl | rfl | rfl:=hp
  all_goals
   first
    | rw [aW (by decide),aW (by decide)]
    | rw [aW (by decide),aZ (by decide),aW (by decide)]
    | rw [aW (by decide),aZ (by decide),aZ (by decide),aW (by decide)]
    | rw [aZ (by decide)]
  all_goals
   unfold Cu;dsimp only;rw [dS]
   first
    | rw [jJ,aS]
    | rw [jS,bB]
    | rw [aS]
   first | (unfold Cv;dsimp only;rw [dS]) | (unfold Cw;dsimp only;rw [dS])
   obtain rfl|rfl|rfl:b=0∨b=1∨b=2:=by omega
   all_goals kernel_rfl
theorem Ja {p q:Nat} (hp:p<3) (hq:q<3) (hne:q≠p)
  (hb:∀ K,yaA q3 q4 q5 q6 q7 q8 (decide (p=0)) (decide (p=1)) (decide (p=2)) K=K (q:Nat))
  (hl:∀ K,yaC (eP q3 q5 q7 q) (eP q4 q6 q8 q) (eP q3 q5 q7 p) (eP q4 q6 q8 p) K=K false) :
  (∃ n:Nat,yB fK yaM fB yaj yai yap yaA yaC x n l0 l1 i2 i3 i4 i5 i6 i7 i8 i9 j0 j1 j2 j3 j4 j5 j6 j7 j8 j9 r0 r1 r2 r3 r4 r5 r6 r7 r8 r9 s0 s1 s2 s3 s4 s5 s6 s7 s8 s9 q0 q1 q2 q3 q4 q5 q6 q7 q8 (p:Nat) (decide (p=0)) (decide (p=1)) (decide (p=2)))=∃ n:Nat,qN fK yaM fB yaj yai yap yaA yaC x n l0 l1 i2 i3 i4 i5 i6 i7 i8 i9 j0 j1 j2 j3 j4 j5 j6 j7 j8 j9 r0 r1 r2 r3 r4 r5 r6 r7 r8 r9 s0 s1 s2 s3 s4 s5 s6 s7 s8 s9 q0 q1 q2 q3 q4 q5 q6 q7 q8 (p:Nat) (decide (p=0)) (decide (p=1)) (decide (p=2)) (q:Nat) false:=by
 refine qS fun n=>?_
 have key:(p=0∧q=1)∨(p=0∧q=2)∨(p=1∧q=0)∨(p=1∧q=2)∨(p=2∧q=0)∨(p=2∧q=1):=by omega
 obtain ⟨rfl,rfl⟩|⟨rfl,rfl⟩|⟨rfl,rfl⟩|⟨rfl,rfl⟩|⟨rfl,rfl⟩|⟨rfl,rfl⟩:=key
 all_goals
  unfold yB;dsimp only;refine (hb _).trans ?_
  first
   | rw [aW (by decide)]
   | rw [aZ (by decide),aW (by decide)]
   | rw [aZ (by decide),aZ (by decide),aW (by decide)]
  first
   | rw [aW (by decide)]
   | rw [aZ (by decide),aW (by decide)]
   | rw [aZ (by decide),aZ (by decide),aW (by decide)]
  refine (hl _).trans ?_;unfold sG;dsimp only;rw [dS];rw [aS]
theorem WB {p q:Nat} (hp:p<3) (hq:q<3) (hne:q≠p)
  (hb:∀ K,yaA q3 q4 q5 q6 q7 q8 (decide (p=0)) (decide (p=1)) (decide (p=2)) K=K (q:Nat))
  (hl:∀ K,yaC (eP q3 q5 q7 q) (eP q4 q6 q8 q) (eP q3 q5 q7 p) (eP q4 q6 q8 p) K=K true)
  {on od cn cd e0 e1:Int} {c0 g0 c1 g1:List PV} (hs:∀ K,yap l0 l1 i2 (eP q3 q5 q7 p) (eP q4 q6 q8 p) (eP q3 q5 q7 q) (eP q4 q6 q8 q) K=K on od c0 g0 e0)
  (hm:∀ K,yaj c0 g0 e0 1 (eP r3 r7 s1 p) (eP r4 r8 s2 p) on od K=K cn cd c1 g1 e1) :
  (∃ n:Nat,yB fK yaM fB yaj yai yap yaA yaC x n l0 l1 i2 i3 i4 i5 i6 i7 i8 i9 j0 j1 j2 j3 j4 j5 j6 j7 j8 j9 r0 r1 r2 r3 r4 r5 r6 r7 r8 r9 s0 s1 s2 s3 s4 s5 s6 s7 s8 s9 q0 q1 q2 q3 q4 q5 q6 q7 q8 (p:Nat) (decide (p=0)) (decide (p=1)) (decide (p=2)))=∃ n:Nat,qM fK yaM fB yaj yai yap yaA yaC x n c1 g1 e1 i3 i4 i5 i6 i7 i8 i9 j0 j1 j2 j3 j4 j5 j6 j7 j8 j9 r0 r1 r2 (gN p 0 cn r3) (gN p 0 cd r4) r5 r6 (gN p 1 cn r7) (gN p 1 cd r8) r9 s0 (gN p 2 cn s1) (gN p 2 cd s2) s3 s4 (p:Nat) (eP r3 r7 s1 p) (eP r4 r8 s2 p) cn cd q0 q1 q2 (gN p 0 (eP q3 q5 q7 q) q3) (gN p 0 (eP q4 q6 q8 q) q4) (gN p 1 (eP q3 q5 q7 q) q5) (gN p 1 (eP q4 q6 q8 q) q6) (gN p 2 (eP q3 q5 q7 q) q7) (gN p 2 (eP q4 q6 q8 q) q8) (decide (p=0)) (decide (p=1)) (decide (p=2)):=by
 refine qS fun n=>?_
 have key:(p=0∧q=1)∨(p=0∧q=2)∨(p=1∧q=0)∨(p=1∧q=2)∨(p=2∧q=0)∨(p=2∧q=1):=by omega
 obtain ⟨rfl,rfl⟩|⟨rfl,rfl⟩|⟨rfl,rfl⟩|⟨rfl,rfl⟩|⟨rfl,rfl⟩|⟨rfl,rfl⟩:=key
 all_goals
  unfold yB;dsimp only;refine (hb _).trans ?_
  first
   | rw [aW (by decide)]
   | rw [aZ (by decide),aW (by decide)]
   | rw [aZ (by decide),aZ (by decide),aW (by decide)]
  first
   | rw [aW (by decide)]
   | rw [aZ (by decide),aW (by decide)]
   | rw [aZ (by decide),aZ (by decide),aW (by decide)]
  refine (hl _).trans ?_;unfold sG;dsimp only;rw [dS];rw [bB]
  first
   | rw [aW (by decide),aW (by decide)]
   | rw [aW (by decide),aZ (by decide),aW (by decide)]
   | rw [aW (by decide),aZ (by decide),aZ (by decide),aW (by decide)]
   | rw [aZ (by decide),aW (by decide),aZ (by decide),aW (by decide)]
   | rw [aZ (by decide),aZ (by decide),aW (by decide),aZ (by decide),aZ (by decide),aW (by decide)]
  first
   | rw [aW (by decide)]
   | rw [aZ (by decide),aW (by decide)]
   | rw [aZ (by decide),aZ (by decide),aW (by decide)]
  refine (hs _).trans ?_;refine (hm _).trans ?_;unfold gW;dsimp only;rw [dS]
  first
   | rw [aW (by decide)]
   | rw [aZ (by decide),aW (by decide)]
   | rw [aZ (by decide),aZ (by decide),aW (by decide)]
  unfold Io;dsimp only;rw [dS]
  first
   | rw [aW (by decide)]
   | rw [aZ (by decide),aW (by decide)]
   | rw [aZ (by decide),aZ (by decide),aW (by decide)]
  unfold Im;dsimp only;rw [dS]
  first
   | rw [aW (by decide)]
   | rw [aZ (by decide),aW (by decide)]
   | rw [aZ (by decide),aZ (by decide),aW (by decide)]
  first
   | rw [aW (by decide)]
   | rw [aZ (by decide),aW (by decide)]
   | rw [aZ (by decide),aZ (by decide),aW (by decide)]
  rfl
theorem f10 {p:Nat} (hp:p<3) (ha:∀ K,yaA q3 q4 q5 q6 q7 q8 false false false K=K (p:Nat)) :
  (∃ n:Nat,Iq fK yaM fB yaj yai yap yaA yaC x n l0 l1 i2 i3 i4 i5 i6 i7 i8 i9 j0 j1 j2 j3 j4 j5 j6 j7 j8 j9 r0 r1 r2 r3 r4 r5 r6 r7 r8 r9 s0 s1 s2 s3 s4 s5 s6 s7 s8 s9 q0 q1 q2 q3 q4 q5 q6 q7 q8)=∃ n:Nat,yB fK yaM fB yaj yai yap yaA yaC x n l0 l1 i2 i3 i4 i5 i6 i7 i8 i9 j0 j1 j2 j3 j4 j5 j6 j7 j8 j9 r0 r1 r2 r3 r4 r5 r6 r7 r8 r9 s0 s1 s2 s3 s4 s5 s6 s7 s8 s9 q0 q1 q2 q3 q4 q5 q6 q7 q8 (p:Nat) (decide (p=0)) (decide (p=1)) (decide (p=2)):=by
 refine qS fun n=>?_
 unfold Iq;dsimp only;refine (ha _).trans ?_;obtain rfl | rfl | rfl:p=0∨p=1∨p=2:=by omega
 case' inl=>rw [aW (by decide)]
 case' inr.inl=>rw [aZ (by decide),aW (by decide)]
 case' inr.inr=>rw [aZ (by decide),aZ (by decide),aW (by decide)]
 all_goals rfl
theorem jd {c1 g1 c2 g2:List PV} {un ud vn vd e1 e2 q9 z0:Int}
  (h1:∀ K,yap l0 l1 i2 r3 r4 q5 q6 K=K un ud c1 g1 e1) (h2:∀ K,yap c1 g1 e1 un ud q7 q8 K=K vn vd c2 g2 e2) :
  (∃ n:Nat,Mv fK yaM fB yaj yai yap yaA yaC x n l0 l1 i2 i3 i4 i5 i6 i7 i8 i9 j0 j1 j2 j3 j4 j5 j6 j7 j8 j9 r0 r1 r2 r3 r4 r5 r6 r7 r8 r9 s0 s1 s2 s3 s4 s5 s6 s7 s8 s9 q0 q1 q2 q3 q4 q5 q6 q7 q8 q9 z0)=∃ n:Nat,Iq fK yaM fB yaj yai yap yaA yaC x n c2 g2 e2 i3 i4 i5 i6 i7 i8 i9 j0 j1 j2 j3 j4 j5 j6 j7 j8 j9 r0 r1 r2 r5 r6 r7 r8 r9 s0 s1 s2 s3 s4 s5 s6 s7 s8 s9 q0 q1 q2 q3 q4 q5 q6 q7 q8 vn vd:=by
 refine qS fun n=>?_
 unfold Mv;dsimp only;refine (h1 _).trans ?_;exact h2 _
end
set_option maxHeartbeats 1000000
section
variable {l:List Ck}
theorem slN {a b c:Rat} {q:Nat} (hq:q<3):eP a.num b.num c.num q=([a,b,c].getD q 0).num:=by
 obtain rfl|rfl|rfl:q=0∨q=1∨q=2:=by omega
 all_goals rfl
theorem slD {a b c:Rat} {q:Nat} (hq:q<3):eP a.den b.den c.den q=(([a,b,c].getD q 0).den:Int):=by
 obtain rfl|rfl|rfl:q=0∨q=1∨q=2:=by omega
 all_goals rfl
theorem WD (hd:DK l) (h3:l.length=3) {i:Nat} (hi:i<3):small (vS l 2 (s3 l i)):=by
 have h2:2<l.length:=by omega
 obtain ⟨D',D1',iD'⟩:=yP hd h3;have h:=(iD' i hi).1;obtain ⟨b1,b2⟩:=Wr hd h2 h.z h.le h.len;have b3:=uN hd h2;exact jH (CR D1'.1 (iD' i hi).2) ⟨D1'.1,by omega⟩ (by grind) (by grind)
theorem WE (hd:DK l) (h3:l.length=3) {i:Nat} (hi:i<3):small ((dH l).getD i 0):=by
 have hq:q3 l<3∧q3 l≠p3 l:=IV l;have hl:(cE l).length=3:=rfl;have hp:p3 l<3:=AK l;unfold dH
 cases tr3 l with
 | false=>exact (nQ hd h3 hi).1
 | true=>
  rw [cond_true]
  by_cases e:i=p3 l
  ·rw [e,eQ,sK (by omega)];exact (nQ hd h3 hq.1).1
  ·rw [eQ,pG (fun h=>e h.symm),← eQ];exact (nQ hd h3 hi).1
theorem yLp (l:List Ck):dH l=[(dH l).getD 0 0,(dH l).getD 1 0,(dH l).getD 2 0]:=by
 have h:(dH l).length=3:=by
  unfold dH
  cases tr3 l with
  | false=>rfl
  | true=>rw [cond_true,sN];rfl
 match h2:dH l,h with
 | [a,b,c],_=>rfl
theorem je (l:List Ck):(o0 l:Int)=3-(o1 l:Int)-(o2 l:Int):=by have h1:=iy l;have h2:=MX l;rw [yNQ];omega
theorem jf (l:List Ck):FS (lW l) (o2 l) (pkO (dH l) (o2 l))=(o1 l:Int):=by
 rw [IW];unfold FS lW
 cases tr3 l with
 | false=>rw [cond_false,WN (by omega)];rfl
 | true=>
  rw [cond_true,pI]
  by_cases h:p3 l=o2 l
  ·rw [WN (by omega),Os h];rfl
  ·rw [WM (by omega),Tx h];rfl
theorem jg (l:List Ck):lW l=-1∨lW l=0∨lW l=1∨lW l=2:=by
 have:=AK l;unfold lW
 cases tr3 l with
 | false=>exact .inl rfl
 | true=>rw [cond_true];omega
theorem WF {k:Nat} (hk:k<3) (ht:tr3 l=true):gN (p3 l) k (c3 l).num ((P3 l).getD k (0,0)).1.num=(s3 l k).1.num∧gN (p3 l) k (c3 l).den ((P3 l).getD k (0,0)).1.den=((s3 l k).1.den:Int)∧(s3 l k).2=((P3 l).getD k (0,0)).2:=by
 rw [uO hk,ht,pI];unfold gN
 by_cases h:p3 l=k
 ·rw [WM h,WM h,Os h.symm,h];exact ⟨rfl,rfl,rfl⟩
 ·rw [WN h,WN h,Tx (fun e=>h e.symm)];exact ⟨rfl,rfl,rfl⟩
theorem WG {k:Nat} (hk:k<3) (ht:tr3 l=true):gN (p3 l) k ((cE l).getD (q3 l) 0).num ((cE l).getD k 0).num=((dH l).getD k 0).num∧gN (p3 l) k ((cE l).getD (q3 l) 0).den ((cE l).getD k 0).den=(((dH l).getD k 0).den:Int):=by
 have hl:(cE l).length=3:=rfl;unfold dH gN;rw [ht,cond_true]
 by_cases h:p3 l=k
 ·rw [WM h,WM h,h,eQ (l:=(cE l).set _ _),sK (by omega)];exact ⟨rfl,rfl⟩
 ·rw [WN h,WN h,eQ (l:=(cE l).set _ _),pG h,← eQ];exact ⟨rfl,rfl⟩
theorem yNk (l:List Ck):decide ((cE l).getD (q3 l) 0<(cE l).getD (p3 l) 0)=tr3 l:=by
 have mx:(cE l).getD (q3 l) 0≤(cE l).getD (p3 l) 0:=iu l (IV l).1;rw [ix]
 by_cases h:(cE l).getD (p3 l) 0=(cE l).getD (q3 l) 0
 ·rw [Os h,Tx (by rw [h];exact zH)];rfl
 ·rw [Tx h,Os (by grind)];rfl
theorem yMh (hd:DK l) (h3:l.length=3) {lg:List Qy} (hm:lg.length+10<2000) (K) :
  ycj (aN l) (aC lg) 0 K=K (s3 l 0).1.num (s3 l 0).1.den (s3 l 0).2.num (s3 l 0).2.den (s3 l 1).1.num (s3 l 1).1.den (s3 l 1).2.num (s3 l 1).2.den (s3 l 2).1.num (s3 l 2).1.den (s3 l 2).2.num (s3 l 2).2.den
   (lW l) (bif tr3 l then (eH l).num else 0) (bif tr3 l then ((eH l).den:Int) else 0) (bif tr3 l then (c3 l).num else 0) (bif tr3 l then ((c3 l).den:Int) else 0) (o0 l:Int) (o1 l:Int) (o2 l:Int) (aN l) (aC (lg++gZ l)) 0:=by
 obtain ⟨D,g⟩:=g3 hd h3;have h0:0<l.length:=by omega
 have h1:1<l.length:=by omega
 have h2:2<l.length:=by omega
 have D1:=g.D1;have v0:=(g.VQ hd h3 (i:=0) (by decide)).1;have v1:=(g.VQ hd h3 (i:=1) (by decide)).1;have v2:=(g.VQ hd h3 (i:=2) (by decide)).1;have i3:=In.r3 (totC (l.getD 0 default).cuts (l.getD 0 default).dens);have t0:=oM hd h0;have t12:=uN hd h0;have st:small (aE l 0):=jH (D:=1) (In.int (by decide) _) ⟨by decide,by decide⟩ (by grind) (by grind);have st1:small (aE l 1):=jH (D:=1) (In.int (by decide) _) ⟨by decide,by decide⟩ (by have:=oM hd h1;grind) (uN hd h1);have sa:small (aE l 0*r13):=jH i3.1 ⟨by decide,by decide⟩ (by rw [fH];show -12000≤aE l 0*(1/3);grind) (by rw [fH];show aE l 0*(1/3)≤12000;grind);have sb:small (aE l 0*dB):=jH i3.2 ⟨by decide,by decide⟩ (by rw [fQ];show -12000≤aE l 0*(2/3);grind) (by rw [fQ];show aE l 0*(2/3)≤12000;grind);have eA:A3 l=dJ l 0 0 (aE l 0*r13):=by unfold A3;rfl
 have eB:B3 l=dJ l 0 0 (aE l 0*dB):=by unfold B3;rfl
 have hle:0≤aP l:=by have:=g.a0;have:=g.ab;have:=g.bl;grind
 have whole:∀ a,a<l.length→∀ K,yaM (l.getD a default).len (aG (l.getD a default).cuts) (aG (l.getD a default).dens) K=K (totC (l.getD a default).cuts (l.getD a default).dens):=fun a ha K=>dj (hd.ok a ha) K
 have pt1:∀ {c g:List PV} K,fB c g 0 (totC (l.getD 0 default).cuts (l.getD 0 default).dens) 1 1 K=K (aE l 0*r13).num (aE l 0*r13).den c g 0:=fun {c g} K=>iz st sa c g K
 have pt2:∀ {c g:List PV} K,fB c g 0 (totC (l.getD 0 default).cuts (l.getD 0 default).dens) 1 2 K=K (aE l 0*dB).num (aE l 0*dB).den c g 0:=fun {c g} K=>ja st sb c g K
 have mA:∀ {lg:List Qy},lg.length<2000→∀ K,yaj (aN l) (aC lg) 0 0 0 1 (aE l 0*r13).num (aE l 0*r13).den K=K (A3 l).num (A3 l).den (aN l) (aC (lg++[iI 0 0 (aE l 0*r13) (A3 l)])) 0:=fun {lg} hm K=>by
  have:=Na hd h0 (q:=0) v0.s1 iM hle sa (by rw [fH];grind) g.mA hm K;rw [← eA] at this;exact this
 have mB:∀ {lg:List Qy},lg.length<2000→∀ K,yaj (aN l) (aC lg) 0 0 0 1 (aE l 0*dB).num (aE l 0*dB).den K=K (B3 l).num (B3 l).den (aN l) (aC (lg++[iI 0 0 (aE l 0*dB) (B3 l)])) 0:=fun {lg} hm K=>by
  have:=Na hd h0 (q:=0) v0.s1 iM hle sb (by rw [fQ];grind) g.mB hm K;rw [← eB] at this;exact this
 have val0:∀ {lg:List Qy},lg.length<2000→∀ K,yai (aN l) (aC lg) 0 1 0 1 (A3 l).num (A3 l).den K=K (vS l 1 (0,A3 l)).num (vS l 1 (0,A3 l)).den (aN l) (aC (lg++[cR l 1 0 (A3 l)])) 0:=fun {lg} hm K=>uP hd h1 (s:=(0,A3 l)) v0 hm K
 have val1:∀ {lg:List Qy},lg.length<2000→∀ K,yai (aN l) (aC lg) 0 1 (A3 l).num (A3 l).den (B3 l).num (B3 l).den K=K (vS l 1 (A3 l,B3 l)).num (vS l 1 (A3 l,B3 l)).den (aN l) (aC (lg++[cR l 1 (A3 l) (B3 l)])) 0:=fun {lg} hm K=>uP hd h1 (s:=(A3 l,B3 l)) v1 hm K
 have w0:small (vS l 1 (0,A3 l))∧0≤vS l 1 (0,A3 l)∧vS l 1 (0,A3 l)≤12000:=nQ hd h3 (i:=0) (by decide);have w1:small (vS l 1 (A3 l,B3 l))∧0≤vS l 1 (A3 l,B3 l)∧vS l 1 (A3 l,B3 l)≤12000:=nQ hd h3 (i:=1) (by decide);have w2:small (vS l 1 (B3 l,aP l))∧0≤vS l 1 (B3 l,aP l)∧vS l 1 (B3 l,aP l)≤12000:=nQ hd h3 (i:=2) (by decide);have eT:aE l 1-vS l 1 (0,A3 l)-vS l 1 (A3 l,B3 l)=vS l 1 (B3 l,aP l):=by rw [← yO hd h1];show cJ l 1 (aP l)-cJ l 1 0-(cJ l 1 (A3 l)-cJ l 1 0)-(cJ l 1 (B3 l)-cJ l 1 (A3 l))=cJ l 1 (aP l)-cJ l 1 (B3 l);grind
 have e1:aE l 1-vS l 1 (0,A3 l)=vS l 1 (A3 l,B3 l)+vS l 1 (B3 l,aP l):=by grind
 have i1:In D (aE l 1-vS l 1 (0,A3 l)):=(In.int D1.1 _).sub (CR D1.1 (g.VQ hd h3 (i:=0) (by decide)).2);have s1:small (aE l 1-vS l 1 (0,A3 l)):=jH i1 ⟨D1.1,by omega⟩ (by grind) (by have:=uN hd h1;grind);have sub0:∀ {c g:List PV} K,yap c g 0 (totC (l.getD 1 default).cuts (l.getD 1 default).dens) 1 (vS l 1 (0,A3 l)).num (vS l 1 (0,A3 l)).den K=K (aE l 1-vS l 1 (0,A3 l)).num (aE l 1-vS l 1 (0,A3 l)).den c g 0:=fun {c g} K=>Wu st1 w0.1 s1 c g K
 have sub1:∀ {c g:List PV} K,yap c g 0 (aE l 1-vS l 1 (0,A3 l)).num (aE l 1-vS l 1 (0,A3 l)).den (vS l 1 (A3 l,B3 l)).num (vS l 1 (A3 l,B3 l)).den K=K (vS l 1 (B3 l,aP l)).num (vS l 1 (B3 l,aP l)).den c g 0:=fun {c g} K=>by
  have:=Wu s1 w1.1 (by rw [eT];exact w2.1) c g K;rw [eT] at this;exact this
 have hp:p3 l<3:=AK l;have hq:q3 l<3∧q3 l≠p3 l:=IV l;have pA:∀ K,yaA (vS l 1 (0,A3 l)).num (vS l 1 (0,A3 l)).den (vS l 1 (A3 l,B3 l)).num (vS l 1 (A3 l,B3 l)).den (vS l 1 (B3 l,aP l)).num (vS l 1 (B3 l,aP l)).den false false false K=K (p3 l:Nat):=fun K=>by unfold p3;exact Wz w0.1 w1.1 w2.1 K
 have pO:∀ K,yaA (vS l 1 (0,A3 l)).num (vS l 1 (0,A3 l)).den (vS l 1 (A3 l,B3 l)).num (vS l 1 (A3 l,B3 l)).den (vS l 1 (B3 l,aP l)).num (vS l 1 (B3 l,aP l)).den (decide (p3 l=0)) (decide (p3 l=1)) (decide (p3 l=2)) K=K (q3 l:Nat):=fun K=>by unfold q3;exact WA w0.1 w1.1 w2.1 hp K
 have vN:∀ {k:Nat},k<3→eP (vS l 1 (0,A3 l)).num (vS l 1 (A3 l,B3 l)).num (vS l 1 (B3 l,aP l)).num k=((cE l).getD k 0).num:=fun hk=>slN hk
 have vD:∀ {k:Nat},k<3→eP (vS l 1 (0,A3 l)).den (vS l 1 (A3 l,B3 l)).den (vS l 1 (B3 l,aP l)).den k=(((cE l).getD k 0).den:Int):=fun hk=>slD hk
 have fN:eP 0 (A3 l).num (B3 l).num (p3 l)=(eH l).num:=by
  rw [nP];obtain e | e | e:p3 l=0∨p3 l=1∨p3 l=2:=by omega
  all_goals (rw [e];rfl)
 have fD:eP 1 (A3 l).den (B3 l).den (p3 l)=((eH l).den:Int):=by
  rw [nP];obtain e | e | e:p3 l=0∨p3 l=1∨p3 l=2:=by omega
  all_goals (rw [e];rfl)
 have sp:=nQ hd h3 hp;have sq:=nQ hd h3 hq.1;have hl:∀ K,yaC (eP (vS l 1 (0,A3 l)).num (vS l 1 (A3 l,B3 l)).num (vS l 1 (B3 l,aP l)).num (q3 l)) (eP (vS l 1 (0,A3 l)).den (vS l 1 (A3 l,B3 l)).den (vS l 1 (B3 l,aP l)).den (q3 l)) (eP (vS l 1 (0,A3 l)).num (vS l 1 (A3 l,B3 l)).num (vS l 1 (B3 l,aP l)).num (p3 l)) (eP (vS l 1 (0,A3 l)).den (vS l 1 (A3 l,B3 l)).den (vS l 1 (B3 l,aP l)).den (p3 l)) K=K (tr3 l):=fun K=>by
  rw [vN hp,vD hp,vN hq.1,vD hq.1,oJ sq.1 sp.1,yNk]
 have V:=fun i hi=>((yP hd h3).choose_spec.2 i hi:VQ l (s3 l i)∧_).1
 have ho2:o2 l<3:=MX l;have hb2:=Wp (dH l) ho2;have pW:∀ K,yaA (vS l 2 (s3 l 0)).num (vS l 2 (s3 l 0)).den (vS l 2 (s3 l 1)).num (vS l 2 (s3 l 1)).den (vS l 2 (s3 l 2)).num (vS l 2 (s3 l 2)).den false false false K=K (o2 l:Nat):=fun K=>by
  have e:o2 l=pk [vS l 2 (s3 l 0),vS l 2 (s3 l 1),vS l 2 (s3 l 2)]:=by unfold o2 sI;rw [MZ];rfl
  rw [e];exact Wz (WD hd h3 (by decide)) (WD hd h3 (by decide)) (WD hd h3 (by decide)) K
 have pS:∀ K,yaA ((dH l).getD 0 0).num ((dH l).getD 0 0).den ((dH l).getD 1 0).num ((dH l).getD 1 0).den ((dH l).getD 2 0).num ((dH l).getD 2 0).den (decide (o2 l=0)) (decide (o2 l=1)) (decide (o2 l=2)) K=K (pkO (dH l) (o2 l):Nat):=fun K=>by
  rw [WA (WE hd h3 (by decide)) (WE hd h3 (by decide)) (WE hd h3 (by decide)) ho2,← yLp]
 have u0:∀ {lg:List Qy},lg.length<2000→∀ K,yai (aN l) (aC lg) 0 2 (s3 l 0).1.num (s3 l 0).1.den (s3 l 0).2.num (s3 l 0).2.den K=K (vS l 2 (s3 l 0)).num (vS l 2 (s3 l 0)).den (aN l) (aC (lg++[cR l 2 (s3 l 0).1 (s3 l 0).2])) 0:=fun {lg} hm K=>uP hd h2 (V 0 (by decide)) hm K
 have u1:∀ {lg:List Qy},lg.length<2000→∀ K,yai (aN l) (aC lg) 0 2 (s3 l 1).1.num (s3 l 1).1.den (s3 l 1).2.num (s3 l 1).2.den K=K (vS l 2 (s3 l 1)).num (vS l 2 (s3 l 1)).den (aN l) (aC (lg++[cR l 2 (s3 l 1).1 (s3 l 1).2])) 0:=fun {lg} hm K=>uP hd h2 (V 1 (by decide)) hm K
 have u2:∀ {lg:List Qy},lg.length<2000→∀ K,yai (aN l) (aC lg) 0 2 (s3 l 2).1.num (s3 l 2).1.den (s3 l 2).2.num (s3 l 2).2.den K=K (vS l 2 (s3 l 2)).num (vS l 2 (s3 l 2)).den (aN l) (aC (lg++[cR l 2 (s3 l 2).1 (s3 l 2).2])) 0:=fun {lg} hm K=>uP hd h2 (V 2 (by decide)) hm K
 have eL:lg++[iI 0 0 (aE l 0*r13) (A3 l)]++[iI 0 0 (aE l 0*dB) (B3 l)]++[cR l 1 0 (A3 l)]++[cR l 1 (A3 l) (B3 l)]=lg++gY l:=by unfold gY;simp only [lX]
 have hmA:(lg++gY l).length=lg.length+4:=by rw [dM];rfl
 unfold ycj Mw;dsimp only [lt];rw [mY,gB,aO (by omega),kG h0,cP,kB,mG,mH,mY,aO (by omega),cP,whole 0 h0,mY,aO (by omega),kG h1,cP,kB,mG,mH,whole 1 h1,mY,pt1,mA (by omega),pt2,mB (by simp only [dM,lD];omega),val0 (by simp only [dM,lD];omega),val1 (by simp only [dM,lD];omega),eL];refine (jd sub0 sub1).trans ?_;refine (f10 hp pA).trans ?_;have tail:∀ {lg':List Qy},lg'.length+3<2000→lg'++FR l=lg++gZ l→aC ((lg'++[cR l 2 (s3 l 0).1 (s3 l 0).2])++[cR l 2 (s3 l 1).1 (s3 l 1).2]++[cR l 2 (s3 l 2).1 (s3 l 2).2])=aC (lg++gZ l):=fun {lg'} _ e=>by
  rw [← e];unfold FR;simp only [lX]
 cases htr:tr3 l with
 | false=>
  rw [htr] at hl;have z:S3 l=P3 l:=by unfold S3;rw [htr];rfl
  have z0:s3 l 0=(0,A3 l):=by unfold s3;rw [z];rfl
  have z1:s3 l 1=(A3 l,B3 l):=by unfold s3;rw [z];rfl
  have z2:s3 l 2=(B3 l,aP l):=by unfold s3;rw [z];rfl
  have zv:dH l=[vS l 1 (0,A3 l),vS l 1 (A3 l,B3 l),vS l 1 (B3 l,aP l)]:=by unfold dH;rw [htr];rfl
  have e6:lW l=-1:=by unfold lW;rw [htr];rfl
  have eo:=jf l;have em:=jg l;have ei:=je l;have tl:=tail (lg':=lg++gY l) (by omega) (by unfold gZ;rw [htr,cond_false,pH,lX]);rw [e6] at eo em;rw [zv] at pS eo hb2;rw [z0] at u0 pW;rw [z1] at u1 pW;rw [z2] at u2 pW;refine (Ja hp hq.1 hq.2 pO hl).trans ?_;refine (jc ho2 hb2.1 em (u0 (by omega)) (u1 (by simp only [dM,lD] at hmA ⊢;omega)) (u2 (by simp only [dM,lD] at hmA ⊢;omega)) pW pS).trans ?_;rw [eo,← ei,e6,z0,z1,z2];rw [z0,z1,z2] at tl;rw [tl];rfl
 | true=>
  rw [htr] at hl;obtain ⟨D',C⟩:=CT hd h3;have subO:∀ K,yap (aN l) (aC (lg++gY l)) 0 (eP (vS l 1 (0,A3 l)).num (vS l 1 (A3 l,B3 l)).num (vS l 1 (B3 l,aP l)).num (p3 l)) (eP (vS l 1 (0,A3 l)).den (vS l 1 (A3 l,B3 l)).den (vS l 1 (B3 l,aP l)).den (p3 l)) (eP (vS l 1 (0,A3 l)).num (vS l 1 (A3 l,B3 l)).num (vS l 1 (B3 l,aP l)).num (q3 l)) (eP (vS l 1 (0,A3 l)).den (vS l 1 (A3 l,B3 l)).den (vS l 1 (B3 l,aP l)).den (q3 l)) K=K (bV l).num (bV l).den (aN l) (aC (lg++gY l)) 0:=fun K=>by
   have so:=C.so;rw [CS] at so;rw [vN hp,vD hp,vN hq.1,vD hq.1,Wu sp.1 sq.1 so,← CS]
  have mk:∀ K,yaj (aN l) (aC (lg++gY l)) 0 1 (eP 0 (A3 l).num (B3 l).num (p3 l)) (eP 1 (A3 l).den (B3 l).den (p3 l)) (bV l).num (bV l).den K=K (c3 l).num (c3 l).den (aN l) (aC (lg++gY l++[iI 1 (eH l) (bV l) (c3 l)])) 0:=fun K=>by
   obtain ⟨E,_,m⟩:=C.m;have w:=(g.VQ hd h3 hp).1;rw [fN,fD];have:=Na hd h1 (by rw [nP];exact w.s1) (by rw [nP];exact w.z) (by rw [nP];exact Rat.le_trans w.le w.len) C.so C.o0 m (lg:=lg++gY l) (by omega) K;rw [← FQ] at this;exact this
  have a0:gN (p3 l) 0 (c3 l).num 0=(s3 l 0).1.num∧gN (p3 l) 0 (c3 l).den 1=((s3 l 0).1.den:Int)∧(s3 l 0).2=A3 l:=WF (by decide) htr;have a1:gN (p3 l) 1 (c3 l).num (A3 l).num=(s3 l 1).1.num∧gN (p3 l) 1 (c3 l).den (A3 l).den=((s3 l 1).1.den:Int)∧(s3 l 1).2=B3 l:=WF (by decide) htr;have a2:gN (p3 l) 2 (c3 l).num (B3 l).num=(s3 l 2).1.num∧gN (p3 l) 2 (c3 l).den (B3 l).den=((s3 l 2).1.den:Int)∧(s3 l 2).2=aP l:=WF (by decide) htr;have b0:gN (p3 l) 0 ((cE l).getD (q3 l) 0).num (vS l 1 (0,A3 l)).num=((dH l).getD 0 0).num∧gN (p3 l) 0 ((cE l).getD (q3 l) 0).den (vS l 1 (0,A3 l)).den=(((dH l).getD 0 0).den:Int):=WG (by decide) htr;have b1:gN (p3 l) 1 ((cE l).getD (q3 l) 0).num (vS l 1 (A3 l,B3 l)).num=((dH l).getD 1 0).num∧gN (p3 l) 1 ((cE l).getD (q3 l) 0).den (vS l 1 (A3 l,B3 l)).den=(((dH l).getD 1 0).den:Int):=WG (by decide) htr;have b2:gN (p3 l) 2 ((cE l).getD (q3 l) 0).num (vS l 1 (B3 l,aP l)).num=((dH l).getD 2 0).num∧gN (p3 l) 2 ((cE l).getD (q3 l) 0).den (vS l 1 (B3 l,aP l)).den=(((dH l).getD 2 0).den:Int):=WG (by decide) htr;have tl:=tail (lg':=lg++gY l++[iI 1 (eH l) (bV l) (c3 l)]) (by rw [dM,hmA,lD];omega) (by unfold gZ;rw [htr,cond_true];simp only [lX]);have eo:=jf l;have em:=jg l;have ei:=je l;have e6:lW l=((p3 l:Nat):Int):=by unfold lW;rw [htr];rfl
  rw [e6] at eo em;refine (WB hp hq.1 hq.2 pO hl subO mk).trans ?_;rw [vN hq.1,vD hq.1,b0.1,b0.2,b1.1,b1.2,b2.1,b2.2,a0.1,a0.2.1,a1.1,a1.2.1,a2.1,a2.2.1,fN,fD];rw [a0.2.2] at u0;rw [a1.2.2] at u1;rw [a2.2.2] at u2;refine (f70 ho2 hb2.1 em (u0 (by rw [dM,hmA,lD];omega)) (u1 (by simp only [dM,lD] at hmA ⊢;omega)) (u2 (by simp only [dM,lD] at hmA ⊢;omega)) pW pS).trans ?_;rw [eo,← ei,e6];rw [a0.2.2,a1.2.2,a2.2.2] at tl ⊢;rw [tl];rfl
end
def CU:List Nat:=[rR,mU,yaW,Ak,vT,BB,EB]
theorem WH {n:Nat} (h:memN CU n=true) (az:List PV):(E []).sum n az=none:=by
 have hn:n∈CU:=by
  have key:∀ l:List Nat,memN l n=true→n∈l:=by
   intro l;induction l with
   | nil=>intro h;cases h
   | cons a l ih=>
    intro h;simp only [memN] at h
    cases hb:Nat.beq a n with
    | true=>exact qAo.2 (.inl (dK hb).symm)
    | false=>rw [hb] at h;exact gO _ (ih h)
  exact key _ h
 simp only [CU,qAo,AN,or_false] at hn;rcases hn with rfl | rfl | rfl | rfl | rfl | rfl | rfl
 all_goals exact vO (by kernel_rfl) az
noncomputable def EZ:Env:=(E []).star CU []
def rlZ:List Nat:=[yaW,Ak,vT,vR]
section
variable (aT:Fa) (aM:kR) (aX:(Int→Int→Int→Int→(Int→Int→Int→Prop)→Prop)) (aU:kP)
noncomputable def SZ:SE:=⟨EZ,yhr [(Ah,yC9.pw aT),(Hc,BS.pw Mf),(BA,lZ.pw yaI),(Hm,oY.pw aM),(vR,Cp.pw aU),(rQ,yeb.pw aX)],yhs [(BB,Pw),(vT,HD)],bX,fun _=>none⟩
def tZ (p:Pth):List (Nat×TFn×Pth):=[(yaW,Lh,.r (.r (.l (.op 4)))),(Ak,Lg,p),(vT,HD,.r (.r (.l (.op 2)))),(vR,Le,.r (.l (.r (.l .pat))))]
def Jb:PV:=.agg [.int .i64 0,.int .i64 0,.int .i64 0,.int .i64 0,.int .i64 0,.int .i64 0,.int .i64 0,.int .i64 0,.int .i64 0,.int .i64 0,.int .i64 0,.int .i64 0,.int .i64 0,.int .i64 0,.int .i64 0,.int .i64 0,.int .i64 0,.int .i64 0,.int .i64 0,.int .i64 0]
def iJ (e:Int) (C G:List PV):Hp:=[⟨false,true,20,[Jb]⟩,⟨false,true,1,[.int .i64 e]⟩,⟨false,true,2,[.agg [.data C,.data G]]⟩]
def wZ (p:Pth) (C G:List PV) (K:Int→Hp→Prop):Prop:=rzT EZ (pX (SZ aT aM aX aU) 6) bX rlZ (tZ p) 6 yaW [.ptr 2 1 0 0] (iJ 0 C G) K
end
def Nb (C G:List PV) (t:Int):Fa:=fun p0 p1 a K=>(p0=C∧p1=G∧a=0)∧K t 0
def Nc (t:Int) (mx my:Int→Int):(Int→Int→Int→Int→(Int→Int→Int→Prop)→Prop):=fun a b c d K=>(a=t∧b=1∧(c=1∨c=2)∧d=3)∧K (mx c) (my c) 0
abbrev uQ (L0:Int) (u0 v0:List PV) (x1 x2:PV):List PV:=[.agg [.int .i64 L0,.data u0,.data v0],x1,x2]
section
variable (aM:kR) (aU:kP) (L0:Int) (u0 v0:List PV) (x1 x2:PV) (G:List PV) (t:Int) (mx my:Int→Int) (K:Int→Hp→Prop)
theorem zw1:wZ (Nb (uQ L0 u0 v0 x1 x2) G t) aM (Nc t mx my) aU (.r (.l (.op 9))) (uQ L0 u0 v0 x1 x2) G K =
 (((uQ L0 u0 v0 x1 x2)=(uQ L0 u0 v0 x1 x2)∧G=G∧(0:Int)=0)∧((t=t∧(1:Int)=1∧((1:Int)=1∨(1:Int)=2)∧(3:Int)=3)∧aU (mx 1) (my 1) 0 fun m1 m2=>aM (uQ L0 u0 v0 x1 x2) G 0 0 1 m1 m2 fun _ _ _ _ e'=>aA (e' !=0) (K e' (iJ 0 (uQ L0 u0 v0 x1 x2) G)))):=by kernel_rfl
theorem zw2:wZ (Nb (uQ L0 u0 v0 x1 x2) G t) aM (Nc t mx my) aU (.r (.r (.l (.op 10)))) (uQ L0 u0 v0 x1 x2) G K =
 (((uQ L0 u0 v0 x1 x2)=(uQ L0 u0 v0 x1 x2)∧G=G∧(0:Int)=0)∧((t=t∧(1:Int)=1∧((1:Int)=1∨(1:Int)=2)∧(3:Int)=3)∧aU (mx 1) (my 1) 0 fun m1 m2=>aM (uQ L0 u0 v0 x1 x2) G 0 0 1 m1 m2 fun p0 p1 q0 q1 e=>aU q0 q1 e fun _ _=>((t=t∧(1:Int)=1∧((2:Int)=1∨(2:Int)=2)∧(3:Int)=3)∧aU (mx 2) (my 2) 0 fun m1 m2=>aM p0 p1 0 0 1 m1 m2 fun _ _ _ _ e'=>aA (e' !=0) (K e' (iJ 0 p0 p1))))):=by kernel_rfl
end
section
variable {aT:Fa} {aX:(Int→Int→Int→Int→(Int→Int→Int→Prop)→Prop)}
theorem jh {n:Nat} {t:TFn} (hx:memN CU n=true) (hf:(E []).fns n=some t.fn) (hq:(E []).qui n=false) (hl:dE t.body=true) (ho:kO t.body=[]):EZ.fns n=some t.fn∧EZ.qui n=false∧EZ.frz n=false∧(∀ az,EZ.sum n az=none)∧(∀ az H,EZ.eff n az H=none)∧dE t.body=true∧LpOk (Uni EZ) EZ bX [] t.body:=
 ⟨hf,hq,rfl,fun az=>Pc hx (WH hx) az,fun _ _=>rfl,hl,bC ho hl⟩
theorem yNX (hT:∀ az K,yC9.pw aT az K→∃ r,K r∧cX (Uni EZ) Ah az r) (hX:∀ az K,yeb.pw aX az K→∃ r,K r∧cX (Uni EZ) rQ az r):SEOk (Uni EZ) (SZ aT ybY aX yab):=
 bK (aK.uni _) ⟨hT,Ej (V2 [] dQ) (by kernel_rfl),Ej (Me [] dQ) (by kernel_rfl),Ej (Tz [] dQ) (by kernel_rfl),Ej (Ie [] dQ) (by kernel_rfl),hX,trivial⟩
  ⟨jh (by kernel_rfl) (by kernel_rfl) (by kernel_rfl) (by kernel_rfl) (by kernel_rfl),jh (by kernel_rfl) (by kernel_rfl) (by kernel_rfl) (by kernel_rfl) (by kernel_rfl),trivial⟩ (fun n az H x hx=>by have hx:(none:Option (Bool×Bool×(PV×Hp)×(PV×Hp)))=some x:=hx;cases hx)
theorem yNY {cK:CK} {n:Nat} {t:TFn} (hf:(E []).fns n=some t.fn) (hl:dE t.body=true):(∀ k e,Uni EZ k e→e.fns n=some t.fn)∧aY (Uni EZ) EZ cK t.body∧LpOk (Uni EZ) EZ bX [] t.body:=
 ⟨fun _ _ he=>by rw [(tF he).1];exact hf,aY.flat hl,vM _ hl fun _ _ _ _ _ h=>h.elim⟩
theorem ji (hT:∀ az K,yC9.pw aT az K→∃ r,K r∧cX (Uni EZ) Ah az r) (hX:∀ az K,yeb.pw aX az K→∃ r,K r∧cX (Uni EZ) rQ az r) {p:Pth} {C G C' G':List PV}
  (h:wZ aT ybY aX yab p C G fun k H=>k=4∧H=iJ 0 C' G'):∃ m,RzF EZ rlZ m yaW [.ptr 2 1 0 0] (iJ 0 C G) 4 (iJ 0 C' G'):=by
 refine qC.at (ZR (aK.uni _) (cU (S:=SZ aT ybY aX yab) (yNX hT hX) 6) (T:=tZ p) (fun x hx=>?_) 6 _ _ _ _ h);simp only [tZ,qAo,AN,or_false] at hx;rcases hx with rfl | rfl | rfl | rfl
 all_goals exact yNY (by kernel_rfl) (by kernel_rfl)
end
section
variable {l:List Ck}
theorem jj (hd:DK l) {a:Nat} (ha:a<l.length) {q v:Rat} (hs:small q) (q0:0≤q) (q1:q≤aP l) (hv:small v) (v0:0≤v) {D:Int} (h:MkV l a q v D) {lg:List Qy} (hm:lg.length=2000) (K:List PV→List PV→Int→Int→Int→Prop) :
  ybY (aN l) (aC lg) a q.num q.den v.num v.den K=K [] [] 0 0 4:=by
 have n6:=hd.n6;have hok:=hd.ok a ha;have e1:fP (l.getD a default).len (l.getD a default).cuts (l.getD a default).dens q.num q.den v.num v.den=.ok (dJ l a q v):=by unfold fP;rw [WM hok.ck,WM ⟨IP hs q0 (by rw [hd.len a ha];exact q1),hv.rv,AQ.2 v0⟩,wF,wF];exact h.e
 have e2:fF l lg.length (a:Int) (Ck.mark q.num q.den v.num v.den)=.error 4:=by unfold fF;rw [WM (hd.err (by omega)),WM ⟨by omega,by omega⟩,cM];have:Ck.mark q.num q.den v.num v.den (l.getD a default)=.ok (dJ l a q v):=e1;rw [this];show (if lg.length≥2000 then _ else _)=_;rw [WM (by omega)]
 rw [VV hd.fin (by omega) (AI lg) hs.i1 hs.i2 hv.i1 hv.i2,lV,e2];rfl
end
section
variable {l:List Ck}
theorem yNl {C G:List PV} {t:Int} (h:∀ K:Int→Int→Prop,yed C G 0 K=K t 0):∀ az K,yC9.pw (Nb C G t) az K→∃ r,K r∧cX (Uni EZ) Ah az r:=
 Pd (O2 [] dQ) (by kernel_rfl) fun a K hk=>by have hk:Nb C G t a.1.1 a.1.2.1 a.2.1 K:=hk;obtain ⟨⟨h1,h2,h3⟩,hk⟩:=hk;show yed a.1.1 a.1.2.1 a.2.1 K;rw [h1,h2,h3];exact (h K).mpr hk
theorem yNm {t:Int} {mx my:Int→Int} (h1:∀ K:Int→Int→Int→Prop,ya7 t 1 1 3 K=K (mx 1) (my 1) 0) (h2:∀ K:Int→Int→Int→Prop,ya7 t 1 2 3 K=K (mx 2) (my 2) 0):∀ az K,yeb.pw (Nc t mx my) az K→∃ r,K r∧cX (Uni EZ) rQ az r:=
 Pd (BR [] dQ) (by kernel_rfl) fun a K hk=>by
  have hk:Nc t mx my a.1.1 a.1.2.1 a.2.1.1 a.2.1.2.1 K:=hk;obtain ⟨⟨e1,e2,e3,e4⟩,hk⟩:=hk;show ya7 a.1.1 a.1.2.1 a.2.1.1 a.2.1.2.1 K;rcases e3 with e3 | e3
  ·rw [e3] at hk ⊢;rw [e1,e2,e4];exact (h1 K).mpr hk
  ·rw [e3] at hk ⊢;rw [e1,e2,e4];exact (h2 K).mpr hk
theorem yNn (hd:DK l) (h3:l.length=3) {lg:List Qy} (hm:lg.length=1999∨lg.length=2000):∃ C' G' m,RzF EZ rlZ m yaW [.ptr 2 1 0 0] (iJ 0 (aN l) (aC lg)) 4 (iJ 0 C' G'):=by
 have h0:0<l.length:=by omega
 obtain ⟨D,g⟩:=g3 hd h3;have hl0:0≤aP l:=Rat.intCast_nonneg.2 (by have:=(hd.ok 0 h0).len0;omega);have t0:=oM hd h0;have tt:=uN hd h0;have i3:=In.r3 (totC (l.getD 0 default).cuts (l.getD 0 default).dens);have sT:small (aE l 0):=jH (In.int (by decide) _:In 1 _) ⟨by decide,by decide⟩ (by grind) (by grind);have a0:0≤aE l 0*r13:=by rw [fH];grind
 have b0:0≤aE l 0*dB:=by rw [fQ];grind
 have sA:small (aE l 0*r13):=jH i3.1 ⟨by decide,by decide⟩ (by grind) (by rw [fH];grind);have sB:small (aE l 0*dB):=jH i3.2 ⟨by decide,by decide⟩ (by grind) (by rw [fQ];grind);have e1:(aE l 0).num=totC (l.getD 0 default).cuts (l.getD 0 default).dens:=Dj _;have e2:(((aE l 0).den:Nat):Int)=1:=by unfold aE;rw [Dk];rfl
 have m1:=fun K=>CC sT CP K
 have m2:=fun K=>CC sT CQ K
 rw [CL,CM,e1,e2] at m1;rw [CN,CO,e1,e2] at m2;generalize hx:totC (l.getD 0 default).cuts (l.getD 0 default).dens=t at m1 m2;have m1:∀ K,ya7 t 1 1 3 K=K (aE l 0*r13).num (aE l 0*r13).den 0:=fun K=>by
  refine (m1 K).trans ?_;rw [iG,WM sA]
 have m2:∀ K,ya7 t 1 2 3 K=K (aE l 0*dB).num (aE l 0*dB).den 0:=fun K=>by
  refine (m2 K).trans ?_;rw [iG,WM sB]
 have tot:∀ K,yed (aN l) (aC lg) 0 K=K t 0:=fun K=>by
  rw [← hx];exact yNR hd h0 (by rw [lV];omega) K
 obtain ⟨mx,my,x1,y1,x2,y2⟩:∃ mx my:Int→Int,mx 1=(aE l 0*r13).num∧my 1=((aE l 0*r13).den:Int)∧mx 2=(aE l 0*dB).num∧my 2=((aE l 0*dB).den:Int):=
  ⟨fun c=>bif c==1 then (aE l 0*r13).num else (aE l 0*dB).num,fun c=>bif c==1 then ((aE l 0*r13).den:Int) else ((aE l 0*dB).den:Int),rfl,rfl,rfl,rfl⟩
 have hX:=yNm (t:=t) (mx:=mx) (my:=my) (fun K=>by rw [x1,y1];exact m1 K) (fun K=>by rw [x2,y2];exact m2 K);have A1:∀ {lg:List Qy},lg.length<2000→∀ K,ybY (aN l) (aC lg) 0 0 1 (aE l 0*r13).num (aE l 0*r13).den K=_:=fun {lg} h K=>Wi hd h0 (q:=0) (by decide) iM hl0 sA a0 g.mA (lg:=lg) h K
 have A2:∀ {lg:List Qy},lg.length=2000→∀ K,ybY (aN l) (aC lg) 0 0 1 (aE l 0*r13).num (aE l 0*r13).den K=K [] [] 0 0 4:=fun {lg} h K=>jj hd h0 (q:=0) (by decide) iM hl0 sA a0 g.mA (lg:=lg) h K
 have B2:∀ {lg:List Qy},lg.length=2000→∀ K,ybY (aN l) (aC lg) 0 0 1 (aE l 0*dB).num (aE l 0*dB).den K=K [] [] 0 0 4:=fun {lg} h K=>jj hd h0 (q:=0) (by decide) iM hl0 sB b0 g.mB (lg:=lg) h K
 have hT:=yNl tot
 match hl:l,h3 with
 | [a,b,c],_=>
  rcases hm with hm|hm
  ·refine ⟨aN [a,b,c],aC (lg++[iI 0 0 (aE [a,b,c] 0*r13) (dJ [a,b,c] 0 0 (aE [a,b,c] 0*r13))]),ji hT hX (p:=.r (.r (.l (.op 10)))) ((zw2 ybY yab a.len (aG a.cuts) (aG a.dens) (kA b) (kA c) (aC lg) t mx my _).mpr ⟨⟨rfl,rfl,rfl⟩,⟨rfl,rfl,.inl rfl,rfl⟩,?_⟩)⟩;rw [oK,x1,y1];refine (A1 (lg:=lg) (by omega) _).mpr ?_;rw [oK];refine ⟨⟨rfl,rfl,.inr rfl,rfl⟩,?_⟩;rw [oK,x2,y2];refine (B2 (by rw [dM,hm];rfl) _).mpr ?_;exact bJ.2 ⟨rfl,rfl,rfl⟩
  ·refine ⟨aN [a,b,c],aC lg,ji hT hX (p:=.r (.l (.op 9))) ((zw1 ybY yab a.len (aG a.cuts) (aG a.dens) (kA b) (kA c) (aC lg) t mx my _).mpr ⟨⟨rfl,rfl,rfl⟩,⟨rfl,rfl,.inl rfl,rfl⟩,?_⟩)⟩;rw [oK,x1,y1];refine (A2 hm _).mpr ?_;exact bJ.2 ⟨rfl,rfl,rfl⟩
end
def yQ:List PV:=[.ptr 1 1 0 0,.ptr 2 1 0 0,.ptr 0 1 0 0]
noncomputable def Jc (C G C' G':List PV):Es:=[(mU,lR mU yQ (iJ 0 C G) (iJ 4 C' G'))]
noncomputable def EF (C G C' G':List PV):Env:=(E []).star CU (Jc C G C' G')
def jk (C G:List PV):gI:=fun p0 p1 K=>(p0=C∧p1=G)∧K 0
def rF:PV:=.tup [.agg [.data [],.data []],Jb,.int .i64 4]
section
variable (C G C' G':List PV)
noncomputable def SF:SE:=⟨EF C G C' G',yhr [(Hb,mX.pw (jk C G))],yhs [],bX,fun _=>none⟩
noncomputable def cF:CK:=Pb (pX (SF C G C' G') 6) mU yQ (iJ 0 C G) (iJ 4 C' G')
theorem fw (K:PV→Prop):GJ (EF C G C' G') (cF C G C' G') bX Li [.agg [.data C,.data G]] [] (fun r H=>GF H r K)=((C=C∧G=G)∧((yQ=yQ∧iJ 0 C G=iJ 0 C G)∧K rF)):=by kernel_rfl
theorem Jd {ex:List Nat} {ef:Es} {wp:List PV→(PV→Prop)→Prop} {n:Nat} (h:bL (E []) wp n) (hx:memN ex n=false:=by kernel_rfl):∀ az K,wp az K→∃ r,K r∧cX (jY ((E []).star ex ef)) n az r:=fun az K k=>by obtain ⟨r,a,b⟩:=Ej (ef:=ef) h hx az K k;exact ⟨r,a,b.sub fun _ _ h=>by cases h;exact cN.refl _⟩
theorem jl:Eb (EF C G C' G'):=ur (by kernel_rfl) fun _ h az=>WH h az
theorem Nd {n:Nat} (hx:memN CU n=true) (az:List PV):(EF C G C' G').sum n az=none:=Pc hx (WH hx) az
theorem jm {n:Nat} (h:Nat.beq mU n=false) (az:List PV) (H:Hp):(EF C G C' G').eff n az H=none:=ZF (l:=Jc C G C' G') (by simp only [Jc,sO,List.map_nil,memN,h,cond_false])
theorem yNZ:(EF C G C' G').eff mU yQ (iJ 0 C G)=some (true,true,(.tup [],iJ 4 C' G'),(.nils,[])):=by show rP (Jc C G C' G') mU yQ (iJ 0 C G)=_;have e:Nat.beq mU mU=true:=Nat.beq_refl _;simp only [Jc,rP,e,cond_true,uk]
theorem yJK (hs:∀ K:Int→Prop,xZ C G K=K 0):cX (jY (EF C G C' G')) rR [.agg [.data C,.data G]] rF:=by
 have hS:SEOk (Uni (EF C G C' G')) (SF C G C' G'):=bK (aK.uni _) ⟨Pd (U9 [] dQ) (by kernel_rfl) fun a K hk=>by
  have hk:jk C G a.1.1 a.1.2.1 K:=hk;obtain ⟨⟨h1,h2⟩,hk⟩:=hk;show xZ a.1.1 a.1.2.1 K;rw [h1,h2];exact (hs K).mpr hk,trivial⟩ trivial (jl C G C' G')
 have hg:Good (jY (EF C G C' G')) (cF C G C' G'):=ut (cU (S:=SF C G C' G') (SEOk.solo (S:=SF C G C' G') hS) 6) (yNZ C G C' G') rfl (Nd C G C' G' (by kernel_rfl)) (by kernel_rfl) rfl (by kernel_rfl);have hw:=(fw C G C' G' fun x=>x=rF).mpr ⟨⟨rfl,rfl⟩,⟨rfl,rfl⟩,rfl⟩;obtain ⟨r,H',hk,m0,hm⟩:=Kk (S:=SF C G C' G') (P:=jY (EF C G C' G')) (aK.solo _) hg (fn:=Li) aY.flat (bC (by kernel_rfl)) (n:=rR) (by kernel_rfl) (fun az H=>jm C G C' G' (by kernel_rfl) az H) hw;obtain ⟨q,rfl,hq⟩:=Zm hk;refine ⟨m0,fun k e m h1 h2 h3=>?_⟩;have hmm:=hm k e m h1 h2 h3;have h2:e=EF C G C' G':=h2;subst h2;simp only [ycH,Nd C G C' G' (n:=rR) (by kernel_rfl),show (EF C G C' G').qui rR=true from by kernel_rfl,hmm,show (EF C G C' G').nl rR=false from by kernel_rfl,kK,cond_false,hq,if_true]
def Je (C G:List PV):Cr:=fun p0 p1 K=>(p0=C∧p1=G)∧K [] [] 0 0 0 0 0 0 0 0 0 0 0 0 0 0 0 0 0 0 0 0 4
theorem yNo (hs:∀ K:Int→Prop,xZ C G K=K 0):∀ az K,ypD.pw (Je C G) az K→∃ r,K r∧cX (jY (EF C G C' G')) rR az r:=fun az K h=>by
 obtain ⟨a,e,k⟩:=Sg.inv h;have k:Je C G a.1.1 a.1.2.1 (ypD.k K):=k;obtain ⟨⟨h1,h2⟩,k⟩:=k;have e2:az=[.agg [.data C,.data G]]:=by rw [e,← h1,← h2];rfl
 rw [e2];exact ⟨rF,k,yJK C G C' G' hs⟩
noncomputable def SL (a0:(List PV→List PV→(Bool→Prop)→Prop)) (a1:kQ) (a2 a3:Cr) (a4:Mn) (a5:Mc):SE:=sE (EF C G C' G') [(Ha,Ci.pw a0),(Ek,qK.pw a1),(rR,ypD.pw a2),(Hz,ypD.pw a3),(HA,Mo.pw a4),(HC,Md.pw a5)] bX
theorem lw (a0 a1 a2 a3 a4 a5):bN (SL C G C' G' a0 a1 a2 a3 a4 a5) 6 Sb Ci (yE a0 a1 a2 a3 a4 a5):=fun _ _=>by kernel_rfl
theorem yMi (hs:∀ K:Int→Prop,xZ C G K=K 0) (hw:yE yeg uA (Je C G) uG Ct uB C G (fun b=>b=true)):oA (EF C G C' G') EB [.agg [.data C,.data G]] (.bool true):=by
 obtain ⟨r,hr,ha⟩:=ZG (P:=jY (EF C G C' G')) (lw C G C' G' _ _ _ _ _ _) (bK (aK.solo _) ⟨Jd (S8 [] dQ),Jd (LX [] dQ),yNo C G C' G' hs,Jd (bf [] dQ),Jd (Y7 [] dQ),Jd (U8 [] dQ),trivial⟩ trivial (jl C G C' G')) aY.flat (bC (by kernel_rfl)) (Nd C G C' G' (by kernel_rfl)) (fun az H=>jm C G C' G' (by kernel_rfl) az H) (by kernel_rfl) (by kernel_rfl) (by kernel_rfl)
  [.agg [.data C,.data G]] (fun r=>r=.bool true) (show yE yeg uA (Je C G) uG Ct uB C G (fun b=>PV.bool b=.bool true) by simpa using hw)
 subst hr;exact ha
end
set_option maxHeartbeats 1000000
section
variable {l:List Ck} {lg:List Qy}
def mZ (l:List Ck) (m:Nat):Int:=if kH l m=0 then (if l.length=3 then 0 else 2) else kH l m
theorem WI (hf:eF l) (hl:l.length<4611686018427387904) (K:Int→Prop):xZ (aN l) (aC lg) K=K (mZ l lg.length):=by
 unfold xZ UW mZ;have h:∀ K,ydB (aN l) (aC lg) K=K (kH l (aC lg).length):=fun K=>IQ (lg:=aC lg) hf hl K
 rw [h,gB,lV]
 by_cases e:kH l lg.length=0
 ·rw [cD e,WM e]
  by_cases e2:l.length=3
  ·rw [cD (by omega),WM e2]
  ·rw [cL (by omega),WN e2]
 ·rw [cL e,WN e]
theorem Nf (hf:eF l) (hl:l.length<4611686018427387904) (K:Int→Prop):Mp (aN l) (aC lg) K=K (mZ l lg.length):=by
 unfold Mp Vn mZ;have h:∀ K,yeV (aN l) (aC lg) K=K (kH l (aC lg).length):=fun K=>VS hf hl (aC lg) K
 rw [h,gB,lV]
 by_cases e:kH l lg.length=0
 ·rw [cD e,WM e]
  by_cases e2:l.length=3
  ·rw [cD (by omega),WM e2]
  ·rw [cL (by omega),WN e2]
 ·rw [cL e,WN e]
theorem yJL (hf:eF l) (hl:l.length<4611686018427387904) (h:mZ l lg.length≠0) (K):FA (aN l) (aC lg) K=K [] [] 0 0 0 0 0 0 0 0 0 0 0 0 0 0 0 0 0 0 0 0 (mZ l lg.length):=by unfold FA Mm;rw [WI hf hl,cL h]
theorem yGk (hf:eF l) (hl:l.length<4611686018427387904) (h:mZ l lg.length≠0) (K):uG (aN l) (aC lg) K=K [] [] 0 0 0 0 0 0 0 0 0 0 0 0 0 0 0 0 0 0 0 0 (mZ l lg.length):=by unfold uG Ix;rw [Nf hf hl,cL h,Nf hf hl]
theorem yNp (hd:DK l) (h3:l.length=3) (hs:mZ l lg.length=0) (hm:lg.length+10<2000) (K):FA (aN l) (aC lg) K=K (aN l) (aC (lg++gZ l)) (s3 l 0).1.num (s3 l 0).1.den (s3 l 0).2.num (s3 l 0).2.den (s3 l 1).1.num (s3 l 1).1.den (s3 l 1).2.num (s3 l 1).2.den (s3 l 2).1.num (s3 l 2).1.den (s3 l 2).2.num (s3 l 2).2.den
  (lW l) (bif tr3 l then (eH l).num else 0) (bif tr3 l then ((eH l).den:Int) else 0) (bif tr3 l then (c3 l).num else 0) (bif tr3 l then ((c3 l).den:Int) else 0) (o0 l:Int) (o1 l:Int) (o2 l:Int) 0:=by
 have f:∀ K,yc1 (aN l) (aC lg) K=_:=fun K=>yNi hd h3 hm K
 unfold FA Mm;rw [WI hd.fin (by omega),hs,cD rfl,f]
theorem yLt (hd:DK l) (h3:l.length=3) (hs:mZ l lg.length=0) (hm:lg.length+10<2000) (K):uG (aN l) (aC lg) K=K (aN l) (aC (lg++gZ l)) (s3 l 0).1.num (s3 l 0).1.den (s3 l 0).2.num (s3 l 0).2.den (s3 l 1).1.num (s3 l 1).1.den (s3 l 1).2.num (s3 l 1).2.den (s3 l 2).1.num (s3 l 2).1.den (s3 l 2).2.num (s3 l 2).2.den
  (lW l) (bif tr3 l then (eH l).num else 0) (bif tr3 l then ((eH l).den:Int) else 0) (bif tr3 l then (c3 l).num else 0) (bif tr3 l then ((c3 l).den:Int) else 0) (o0 l:Int) (o1 l:Int) (o2 l:Int) 0:=by
 have f:∀ K,ycj (aN l) (aC lg) 0 K=_:=fun K=>yMh hd h3 hm K
 unfold uG Ix;rw [Nf hd.fin (by omega),hs,cD rfl,f,cD rfl]
theorem vE (a i j k m:Int) (K):yai [] [] 4 a i j k m K=K 0 1 [] [] 4:=by unfold yai Mq;rw [cL (by decide)]
theorem mE (a i j k m:Int) (K):yaj [] [] 4 a i j k m K=K 0 1 [] [] 4:=by unfold yaj Il;rw [cL (by decide)]
theorem pE (a b c:Int) (K):fB [] [] 4 a b c K=K 0 1 [] [] 4:=by unfold fB Ik;rw [cL (by decide)]
theorem lE (a b c d:Int) (K):yap [] [] 4 a b c d K=K 0 1 [] [] 4:=by unfold yap Mr;rw [cL (by decide)]
theorem jo (hd:DK l) {a:Nat} (ha:a<l.length) {q v:Rat} (hs:small q) (q0:0≤q) (q1:q≤aP l) (hv:small v) (v0:0≤v) {D:Int} (h:MkV l a q v D) (hm:lg.length=2000) (K) :
  yaj (aN l) (aC lg) 0 a q.num q.den v.num v.den K=K 0 0 [] [] 4:=by
 have n6:=hd.n6;have hok:=hd.ok a ha;have e1:fP (l.getD a default).len (l.getD a default).cuts (l.getD a default).dens q.num q.den v.num v.den=.ok (dJ l a q v):=by unfold fP;rw [WM hok.ck,WM ⟨IP hs q0 (by rw [hd.len a ha];exact q1),hv.rv,AQ.2 v0⟩,wF,wF];exact h.e
 have e2:fF l lg.length (a:Int) (Ck.mark q.num q.den v.num v.den)=.error 4:=by unfold fF;rw [WM (hd.err (by omega)),WM ⟨by omega,by omega⟩,cM];have:Ck.mark q.num q.den v.num v.den (l.getD a default)=.ok (dJ l a q v):=e1;rw [this];show (if lg.length≥2000 then _ else _)=_;rw [WM (by omega)]
 unfold yaj Il;rw [cD rfl,fb hd.fin (by omega) (AI lg) hs.i1 hs.i2 hv.i1 hv.i2,lV,e2];rfl
theorem jp (K:Int→Prop):yaA 0 1 0 1 0 1 false false false K=K ((0:Nat):Int):=Wz (a:=0) (b:=0) (c:=0) (by decide) (by decide) (by decide) K
theorem jq (K:Int→Prop):yaA 0 1 0 1 0 1 (decide (0=0)) (decide (0=1)) (decide (0=2)) K=K ((1:Nat):Int):=WA (a:=0) (b:=0) (c:=0) (by decide) (by decide) (by decide) (p:=0) (by decide) K
theorem yLu (hd:DK l) (h3:l.length=3) (hm:lg.length=1999∨lg.length=2000) (K)
  (hK:∀ i0 i1 i2 i3 i4 i5 i6 i7 i8 i9 j0 j1 j2 j3 j4 j5 j6 j7 j8 j9:Int,K i0 i1 i2 i3 i4 i5 i6 i7 i8 i9 j0 j1 j2 j3 j4 j5 j6 j7 j8 j9 [] [] 4):ycj (aN l) (aC lg) 0 K:=by
 obtain ⟨D,g⟩:=g3 hd h3;have h0:0<l.length:=by omega
 have h1:1<l.length:=by omega
 have D1:=g.D1;have v0:=(g.VQ hd h3 (i:=0) (by decide)).1;have i3:=In.r3 (totC (l.getD 0 default).cuts (l.getD 0 default).dens);have t0:=oM hd h0;have t12:=uN hd h0;have st:small (aE l 0):=jH (D:=1) (In.int (by decide) _) ⟨by decide,by decide⟩ (by grind) (by grind);have sa:small (aE l 0*r13):=jH i3.1 ⟨by decide,by decide⟩ (by rw [fH];show -12000≤aE l 0*(1/3);grind) (by rw [fH];show aE l 0*(1/3)≤12000;grind);have sb:small (aE l 0*dB):=jH i3.2 ⟨by decide,by decide⟩ (by rw [fQ];show -12000≤aE l 0*(2/3);grind) (by rw [fQ];show aE l 0*(2/3)≤12000;grind);have hle:0≤aP l:=by have:=g.a0;have:=g.ab;have:=g.bl;grind
 have whole:∀ a,a<l.length→∀ K,yaM (l.getD a default).len (aG (l.getD a default).cuts) (aG (l.getD a default).dens) K=K (totC (l.getD a default).cuts (l.getD a default).dens):=fun a ha K=>dj (hd.ok a ha) K
 have pt1:∀ {c g:List PV} K,fB c g 0 (totC (l.getD 0 default).cuts (l.getD 0 default).dens) 1 1 K=K (aE l 0*r13).num (aE l 0*r13).den c g 0:=fun {c g} K=>iz st sa c g K
 have pt2:∀ {c g:List PV} K,fB c g 0 (totC (l.getD 0 default).cuts (l.getD 0 default).dens) 1 2 K=K (aE l 0*dB).num (aE l 0*dB).den c g 0:=fun {c g} K=>ja st sb c g K
 have mA:∀ {lg:List Qy},lg.length<2000→∀ K,yaj (aN l) (aC lg) 0 0 0 1 (aE l 0*r13).num (aE l 0*r13).den K=_:=fun {lg} hm K=>Na hd h0 (q:=0) v0.s1 iM hle sa (by rw [fH];grind) g.mA hm K
 have mA':∀ {lg:List Qy},lg.length=2000→∀ K,yaj (aN l) (aC lg) 0 0 0 1 (aE l 0*r13).num (aE l 0*r13).den K=K 0 0 [] [] 4:=fun {lg} hm K=>jo hd h0 (q:=0) v0.s1 iM hle sa (by rw [fH];grind) g.mA hm K
 have mB':∀ {lg:List Qy},lg.length=2000→∀ K,yaj (aN l) (aC lg) 0 0 0 1 (aE l 0*dB).num (aE l 0*dB).den K=K 0 0 [] [] 4:=fun {lg} hm K=>jo hd h0 (q:=0) v0.s1 iM hle sb (by rw [fQ];grind) g.mB hm K
 unfold ycj Mw;dsimp only [lt];rw [mY,gB,aO (by omega),kG h0,cP,kB,mG,mH,mY,aO (by omega),cP,whole 0 h0,mY,aO (by omega),kG h1,cP,kB,mG,mH,whole 1 h1,mY,pt1];have hl:∀ K:Bool→Prop,yaC 0 1 0 1 K=K false:=fun K=>oJ (q:=0) (r:=0) (by decide) (by decide) K
 rcases hm with hm|hm
 case' inl=>rw [mA (by omega),pt2,mB' (by rw [dM,hm];rfl)]
 case' inr=>rw [mA' hm,pE,mE]
 all_goals
  rw [vE,vE];refine (jd (lE _ _ _ _) (lE _ _ _ _)).mpr ?_;refine (f10 (p:=0) (by decide) jp).mpr ?_;refine (Ja (p:=0) (q:=1) (by decide) (by decide) (by decide) jq hl).mpr ?_;refine (jc (o:=0) (b:=1) (by decide) (by decide) (.inl rfl) (vE _ _ _ _ _) (vE _ _ _ _ _) (vE _ _ _ _ _) jp jq).mpr ?_;exact hK ..
theorem yLv (hd:DK l) (h3:l.length=3) (hs:mZ l lg.length=0) (hm:lg.length=1999∨lg.length=2000) (K) (hK:K [] [] 0 0 0 0 0 0 0 0 0 0 0 0 0 0 0 0 0 0 0 0 4):uG (aN l) (aC lg) K:=by
 unfold uG Ix;rw [Nf hd.fin (by omega),hs,cD rfl];refine yLu hd h3 hm _ fun i0 i1 i2 i3 i4 i5 i6 i7 i8 i9 j0 j1 j2 j3 j4 j5 j6 j7 j8 j9=>?_
 rw [cL (by decide)];exact hK
end
set_option maxHeartbeats 1000000
section
variable {l:List Ck} {lg:List Qy}
theorem WJ (hl:l.length≤9223372036854775807) {a2 a3:Cr} {c g:List PV} {i0 i1 i2 i3 i4 i5 i6 i7 i8 i9 j0 j1 j2 j3 j4 j5 j6 j7 j8 j9 z:Int}
  (hg:(wG l||(decide (lg.length>40∧lg.length<1999)||decide (lg.length>2010)))=false)
  (h2:∀ K,K c g i0 i1 i2 i3 i4 i5 i6 i7 i8 i9 j0 j1 j2 j3 j4 j5 j6 j7 j8 j9 z→a2 (aN l) (aC lg) K) (h3:∀ K,K c g i0 i1 i2 i3 i4 i5 i6 i7 i8 i9 j0 j1 j2 j3 j4 j5 j6 j7 j8 j9 z→a3 (aN l) (aC lg) K)
  (hs:∀ K:Bool→Prop,uB c g c g K=K true):yE yeg uA a2 a3 Ct uB (aN l) (aC lg) (fun b=>b=true):=by
 have hg2:=hg;simp only [wL,decide_eq_false_iff_not] at hg2;obtain ⟨hgc,_,hlg⟩:=hg2;obtain ⟨g1,g2,g3⟩:=VW hgc;have hgr:∀ K,yeg (aN l) (aC lg) K=K false:=fun K=>by rw [ft hl,lV,hg]
 have bd:∀ K:Int→Prop,Ct K=K 16:=fun _=>rfl
 have self:∀ K:Bool→Prop,uB (aN l) (aC lg) (aN l) (aC lg) K=K true:=fun K=>by rw [VZ g3 (by omega) (by omega) (by omega),Os rfl]
 unfold yE
 dsimp only [Go.Pf.jn];rw [hgr,aS,eh g2 (by omega),AI lg,dX];have e20:((i0==i0)&&((i1==i1)&&((i2==i2)&&((i3==i3)&&((i4==i4)&&((i5==i5)&&((i6==i6)&&((i7==i7)&&((i8==i8)&&((i9==i9)&&((j0==j0)&&((j1==j1)&&((j2==j2)&&((j3==j3)&&((j4==j4)&&((j5==j5)&&((j6==j6)&&((j7==j7)&&((j8==j8)&&((j9==j9)&&true))))))))))))))))))))=true:=by simp only [beq_self_eq_true,Bool.and_true]
 cases he:(aC lg).isEmpty with
 | true =>have hn:aC lg=[]:=yX.1 he;rw [hn] at self h2 h3;rw [bB,hn];refine h2 _ ?_;refine h3 _ ?_;rw [bd,mF rfl,hs,bB,IX e20,mF rfl,self]
 | false =>rw [aS,aO (by rw [lV];unfold room;omega)];refine h2 _ ?_;refine h3 _ ?_;rw [bd,mF rfl,hs,bB,IX e20,mF rfl,aO rfl,aO (by omega),yV,self]
theorem jr (K:Bool→Prop):uB [] [] [] [] K=K true:=VZ (l:=[]) (fun _ h=>by cases h) (by decide) (a:=[]) (b:=[]) (by decide) (by decide) K
theorem WK (h:mZ l lg.length=0):DK l∧l.length=3∧kH l lg.length=0:=by
 unfold mZ at h
 by_cases e:kH l lg.length=0
 ·rw [WM e] at h
  by_cases e2:l.length=3
  ·exact ⟨(MN e).1,e2,e⟩
  ·rw [WN e2] at h;omega
 ·rw [WN e] at h;exact absurd h e
theorem yyt (hl:l.length≤9223372036854775807) (hn:¬(wG l=false∧mZ l lg.length=0∧(lg.length=1999∨lg.length=2000))):MA (aN l) (aC lg) (fun b=>b=true):=by
 unfold MA
 cases hg:(wG l||(decide (lg.length>40∧lg.length<1999)||decide (lg.length>2010))) with
 | true=>
  unfold yE
  rw [ft hl,lV,hg,bB]
 | false=>
  have hg2:=hg;simp only [wL,decide_eq_false_iff_not] at hg2;obtain ⟨hgc,h40,hlg⟩:=hg2;obtain ⟨g1,g2,g3⟩:=VW hgc
  by_cases hs:mZ l lg.length=0
  ·obtain ⟨hd,h3,hde⟩:=WK hs;have hl2:lg.length≤2000:=by
    refine Classical.byContradiction fun hc=>?_
    unfold kH at hde;rw [WM (by omega)] at hde
    cases hde
   have hm:lg.length+10<2000:=by
    have:¬(lg.length=1999∨lg.length=2000):=fun h=>hn ⟨hgc,hs,h⟩
    omega
   refine WJ hl hg (fun K k=>(yNp hd h3 hs hm K).mpr k) (fun K k=>(yLt hd h3 hs hm K).mpr k) fun K=>?_
   have hlog:(gZ l).length≤8:=by
    unfold gZ gY FR
    cases tr3 l<;>simp
   rw [VZ g3 (by omega) (by rw [dM];omega) (by rw [dM];omega),Os rfl]
  ·exact WJ hl hg (fun K k=>(yJL g3 (by omega) hs K).mpr k) (fun K k=>(yGk g3 (by omega) hs K).mpr k) jr
theorem yuj (hl:l.length≤9223372036854775807) (hgc:wG l=false) (hs:mZ l lg.length=0) (hm:lg.length=1999∨lg.length=2000):yE yeg uA (Je (aN l) (aC lg)) uG Ct uB (aN l) (aC lg) (fun b=>b=true):=by obtain ⟨hd,h3,hde⟩:=WK hs;refine WJ hl (by rw [hgc,Tx (by omega),Tx (by omega)];rfl) (fun K k=>⟨⟨rfl,rfl⟩,k⟩) (fun K k=>yLv hd h3 hs hm K k) jr
theorem yMj {az:List PV} (h:yuG [MQ] az):∃ (l:List Ck) (lg:List Qy),az=[.agg [.data (aN l),.data (aC lg)]]∧l.length≤9223372036854775807:=by simp only [yuG] at h;obtain ⟨x,r,rfl,x1,x2,rfl⟩:=h;rw [Wc x1];generalize x.cells=cs at x2;simp only [MQ,HasF,HasL] at x2;obtain ⟨k1,_,rfl,g1,k2,_,rfl,g2,rfl⟩:=x2;obtain ⟨l,rfl,hl,_⟩:=yNG (by simp only [HasF];exact g1);obtain ⟨lg,rfl,_⟩:=yNd (by simp only [HasF];exact g2);exact ⟨l,lg,rfl,hl⟩
abbrev WL (P:Program):Prop:=∀ (C G C' G':List PV) (m:Nat),RzF EZ rlZ m yaW [.ptr 2 1 0 0] (iJ 0 C G) 4 (iJ 0 C' G')→∀ y,yba P ((E []).ats y) (fun n xs H=>pJ (lR mU yQ (iJ 0 C G) (iJ 4 C' G') n xs H))
theorem yNq:HE.fn.body=.seq (.ops [⟨none,.dfr Ky,none⟩] [] [0]) (.ops [⟨some 3,.call (.f yaW) [.t 1],none⟩,⟨none,.store 20 (.t 2) (.t 3),none⟩] [] [1,2,3]):=by kernel_rfl
theorem yJM {P:Program} (kE:EO P (E [])) (hm:P.follows .mixedOrders=true) {T:TypeId} (hrl:lL P EZ T rlZ) (hT:∀ (v:Value) (w:World),(Instr.makeInterface T v).run P w=.ok (.iface T v) w)
  {c i0 i1:Nat} {fu:Func} {loc:List Nat} {fg:Nat→List Nat} {od:Oper} {ops:Array Oper} {cl:Call} {eT:TypeId}
  (hfu:P.funcs[mU]?=some fu) (hcomp:mM P loc fg fu=some HE.fn) (hb:fu.body=some (.seq (.region i0 #[od] false) (.region i1 ops false))) (hres:fu.results=#[])
  (ho:OpIs od none (.defer cl)) (hcl:cl.callee=.value (.func c)) (hca:cl.args=#[.tmp 0])
  (hi:((P.info? eT).map fun i=>i.size)=some 1)
  (hcg:∀ (ad:Addr) (k:Int) (w w2:World),(Instr.storeAt eT (.pointer (some ad)) (.int .i64 k)).run P w=.ok () w2 →
   (callFunc c #[.pointer (some ad)]).run P w=.ok (.enter c #[.pointer (some ad)]) w ∧
   CallsDIn (Fc none) 0 P c #[.pointer (some ad)] (.panicking (vQ T k)) w fun e u w'=>u=.panicking [{ v:=.iface T (.int .i64 k),recovered:=true }]∧w'=w2∧∃ v,e=.returned v):WL P:=by
 intro C G C' G' m hr y;have kZ:EO P EZ:=ZS kE hm fun e h=>by cases h
 have key:(yas EZ (fun _ _ _=>none) [(0,.v (.ptr 1 1 0 0)),(1,.v (.int .i64 4))] (iJ 0 C' G') (.store 1 (.t 0) (.t 1))).map (fun out=>oO [] (iJ 0 C G).length out.h)=some (iJ 4 C' G'):=by kernel_rfl
 obtain ⟨out,ho1,ho2⟩:=mI.1 key;have h:=uj kZ hm (fun _=>rfl) hrl hT hfu (show EZ.fns mU=some HE.fn by kernel_rfl) hcomp hb hres ho hcl hca hi hcg (id:=1) (ext:=1) (i:=0) (off:=0) (r0:=[.ptr 2 1 0 0,.ptr 0 1 0 0]) (n:=m) (k:=4) (H:=iJ 0 C G) (H1:=iJ 0 C' G') yNq (by kernel_rfl)
  ⟨0,some 3,.f yaW,[.t 1],yaW,[.ptr 2 1 0 0],_,_,rfl,rfl,rfl,rfl,hr⟩ ho1
 rw [ho2] at h;exact yba.env (E:=EZ.ats y) (E':=(E []).ats y) rfl rfl rfl (ul (f:=mU) (xs0:=yQ) h (by kernel_rfl) y)
theorem yw3 {P:Program} (hE:EO P (E [])) (hm:P.follows .mixedOrders=true) (hz:WL P) (hl:l.length≤9223372036854775807):oV P (E []).glob EB [.agg [.data (aN l),.data (aC lg)]] (.bool true):=by
 by_cases hn:wG l=false∧mZ l lg.length=0∧(lg.length=1999∨lg.length=2000)
 ·obtain ⟨hgc,hs,h9⟩:=hn;obtain ⟨g1,g2,g3⟩:=VW hgc;obtain ⟨hd,h3,hde⟩:=WK hs;obtain ⟨C',G',m,hr⟩:=yNn hd h3 h9;have hseat:∀ K:Int→Prop,xZ (aN l) (aC lg) K=K 0:=fun K=>by rw [WI g3 (by omega),hs]
  have ha:=yMi (aN l) (aC lg) C' G' hseat (yuj hl hgc hs h9);have hEF:EO P (EF (aN l) (aC lg) C' G'):=ZS hE hm fun e he y=>by
   have he:e=(mU,lR mU yQ (iJ 0 (aN l) (aC lg)) (iJ 4 C' G')):=wM.1 he;subst he;exact hz _ _ _ _ m hr y
  exact OQ hEF hm (Nd _ _ _ _ (by kernel_rfl) _) (by kernel_rfl) ha
 ·obtain ⟨r,hr',ha⟩:=yr3 [] dQ [.agg [.data (aN l),.data (aC lg)]] (fun r=>r=.bool true) (show MA (aN l) (aC lg) (fun b=>PV.bool b=.bool true) by
   have h2:=yyt (l:=l) (lg:=lg) hl hn;simpa using h2)
  subst hr';exact OQ hE hm (by kernel_rfl) (by kernel_rfl) ha.solo
end
end Go.Pf.Vc
