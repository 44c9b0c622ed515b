/- Part 5. -/
import Derived.Test.YtfljciocndelnaaGreatEfW4
open Go.IntKind (i64 u8 u64)
open List (length getD take drop replicate set map isEmpty)
noncomputable section
namespace Go.Pf.Vc
open Go Go.Pf
theorem Oi:∀ (rows:List PV),(∀ x∈rows,x.isAgg=(DS.i .i64).isA∧HasF (.i .i64) x.cells)→∃ l:List Int,rows=aA l∧∀ n∈l,cB n
 | [],_=>⟨[],rfl,by simp⟩
 | x::r,h=>by
  obtain ⟨l,e,hl⟩:=Oi r (fun y hy=>h y (eF _ hy));obtain ⟨h1,h2⟩:=h x (eU ..);obtain ⟨n,e2,hn⟩:=F_i h2;have ex:x=.int .i64 n:=by
   cases x<;>first | (simp only [PV.cells,kW,and_true] at e2;exact e2) | (cases h1)
  refine ⟨n::l,by rw [ex,e];rfl,?_⟩;intro m hm;rcases qAn.1 hm with rfl | hm
  ·exact hn
  ·exact hl m hm
def Ck.i64 (c:Ck):Prop:=cB c.len∧(∀ n∈c.cuts,cB n)∧∀ n∈c.dens,cB n
theorem F_c {c:List PV} (h:HasF BL c):∃ k:Ck,c=[.int .i64 k.len,.data (aA k.cuts),.data (aA k.dens)]∧k.i64∧k.cuts.length≤9223372036854775807∧k.dens.length≤9223372036854775807:=by simp only [BL,HasF,HasL] at h;obtain ⟨c1,c2,rfl,⟨n,rfl,hn⟩,c3,c4,rfl,⟨r1,rfl,l1,h1⟩,c5,c6,rfl,⟨r2,rfl,l2,h2⟩,rfl⟩:=h;obtain ⟨a,rfl,ha⟩:=Oi r1 (fun x hx=>⟨(h1 x hx).1,by simp only [HasF];exact (h1 x hx).2⟩);obtain ⟨b,rfl,hb⟩:=Oi r2 (fun x hx=>⟨(h2 x hx).1,by simp only [HasF];exact (h2 x hx).2⟩);rw [dD] at l1 l2;exact ⟨⟨n,a,b⟩,rfl,⟨oq hn,ha,hb⟩,l1,l2⟩
theorem yQH {x:PV} {l:List DS} (h:x.isAgg=(DS.a l).isA):x=.agg x.cells:=by
 cases x<;>first | rfl | cases h
theorem ot:∀ (rows:List PV),(∀ x∈rows,x.isAgg=BL.isA∧HasF BL x.cells)→∃ l:List Ck,rows=cks l∧∀ c∈l,c.i64
 | [],_=>⟨[],rfl,by simp⟩
 | x::r,h=>by
  obtain ⟨l,e,hl⟩:=ot r (fun y hy=>h y (eF _ hy));obtain ⟨h1,h2⟩:=h x (eU ..);obtain ⟨k,e2,hk,_⟩:=F_c h2;have ex:x=fT k:=by rw [yQH h1,e2];rfl
  refine ⟨k::l,by rw [ex,e];rfl,?_⟩;intro m hm;rcases qAn.1 hm with rfl | hm
  ·exact hk
  ·exact hl m hm
theorem yRW {c:List PV} (h:HasF (.s BL) c):∃ l:List Ck,c=[.data (cks l)]∧l.length≤9223372036854775807∧∀ k∈l,k.i64:=by simp only [HasF] at h;obtain ⟨rows,rfl,hl,hr⟩:=h;obtain ⟨l,rfl,hi⟩:=ot rows hr;rw [dW] at hl;exact ⟨l,rfl,hl,hi⟩
theorem ou {x y:PV} (h:x.isAgg=false) (e:x.cells=[y]):x=y:=by
 cases x<;>first | (simp only [PV.cells,kW,and_true] at e;exact e) | cases h
end Go.Pf.Vc
namespace Go.Pf.Vc
abbrev RS:Type:=Rat×Rat
def Xo (s:RS) (p:Rat):Prop:=s.1≤p∧p<s.2
def memP (l:List RS) (p:Rat):Prop:=∃ s∈l,Xo s p
def Oj:List RS→Prop
 | []=>True
 | s::r=>s.1<s.2∧(∀ t∈r,s.2<t.1)∧Oj r
theorem yNb {p:Rat}:¬memP [] p:=fun ⟨s,h,_⟩=>by cases h
theorem yrv {s:RS} {r:List RS} {p:Rat}:memP (s::r) p↔Xo s p∨memP r p:=by
 constructor
 ·rintro ⟨t,h,hp⟩;rcases qAn.1 h with rfl | h
  ·exact .inl hp
  ·exact .inr ⟨t,h,hp⟩
 ·rintro (h | ⟨t,h,hp⟩)
  ·exact ⟨s,eU,h⟩
  ·exact ⟨t,eF _ h,hp⟩
def dF (a b:Rat):Rat:=if a<b then b else a
def Kn:List RS→Prop
 | []=>True
 | s::r=>(∀ t∈r,s.1≤t.1)∧Kn r
def mC (a b:Rat):Rat:=if a<b then a else b
theorem oS (a b:Rat):a≤dF a b∧b≤dF a b∧(dF a b=a∨dF a b=b):=by unfold dF;split<;>grind
theorem qW (a b:Rat):mC a b≤a∧mC a b≤b∧(mC a b=a∨mC a b=b):=by unfold mC;split<;>grind
end Go.Pf.Vc
namespace Go.Pf.Vc
open Go Go.Pf
def Sp.rs (s:Sp):RS:=(rt s.a s.b,rt s.c s.d)
def Sp.ok (s:Sp):Prop:=RV s.a s.b∧RV s.c s.d∧rt s.a s.b<rt s.c s.d
instance (s:Sp):Decidable s.ok:=by unfold Sp.ok;infer_instance
def Sp.i64 (s:Sp):Prop:=cB s.a∧cB s.b∧cB s.c∧cB s.d
theorem ov {q r:Rat} (hq:small q) (hr:small r) (K:Int→Prop):ybl q.num q.den r.num r.den K=K (gP q r):=by unfold ybl UQ;rw [Kg hq hr]
theorem yNc {a b c d:Int} (h:RV a b) (k:RV c d) (K:Int→Prop):ybl a b c d K=K (gP (rt a b) (rt c d)):=by obtain ⟨h1,h2,h3⟩:=rY h;obtain ⟨k1,k2,k3⟩:=rY k;have:=ov h1 k1 K;rw [h2,h3,k2,k3] at this;exact this
theorem ow (q r:Rat):decide (gP q r<0)=decide (q<r):=by
 unfold gP
 by_cases h:q<r
 ·rw [YQ h];simp [h]
 ·rw [YR h];split<;>simp [h]
theorem yOW (q r:Rat):decide (gP q r≤0)=!decide (r<q):=by
 unfold gP
 by_cases h:q<r
 ·have:¬r<q:=by grind
  rw [YQ h];simp [this]
 ·rw [YR h]
  by_cases h2:r<q
  ·rw [YQ h2];simp [h2]
  ·rw [YR h2];simp [h2]
theorem yNd {s:Sp} (h:s.i64) (K:Bool→Prop):xM s.a s.b s.c s.d K=K (decide s.ok):=by
 refine yze _ _ _ _ _ (fun K k=>?_) K;unfold xM UM;refine lu h.1 h.2.1 h.2.2.1 h.2.2.2 ?_
 by_cases h1:RV s.a s.b
 ·by_cases h2:RV s.c s.d
  ·have e:cJ s.a s.b s.c s.d=0:=tO.2 ⟨h1,h2⟩;obtain ⟨_,n1,n2⟩:=rY h1;obtain ⟨_,n3,n4⟩:=rY h2;have e2:=ms (rt s.a s.b) (rt s.c s.d);rw [n1,n2,n3,n4] at e2;rw [e,YQ rfl,nI rfl,e2,ow];have e3:decide s.ok=decide (rt s.a s.b<rt s.c s.d):=by rw [Aaa];exact ⟨fun k=>k.2.2,fun k=>⟨h1,h2,k⟩⟩
   rw [← e3];exact k
  ·have e:cJ s.a s.b s.c s.d≠0:=fun e=>h2 (tO.1 e).2
   rw [pP e];have e3:decide s.ok=false:=Os fun k=>h2 k.2.1
   rw [← e3];exact k
 ·have e:cJ s.a s.b s.c s.d≠0:=fun e=>h1 (tO.1 e).1
  rw [pP e];have e3:decide s.ok=false:=Os fun k=>h1 k.1
  rw [← e3];exact k
theorem DN {s:Sp} {P:Prop}:asr (aG z4 (jU s)) P=P:=rfl
def Ko (l:List Sp):Bool:=l.all fun s=>decide s.ok
theorem yNe {l:List Sp} (h64:∀ s∈l,s.i64) (hl:l.length<4611686018427387904) :
  ∀ x0 x1,∀ (r i n:Nat),i+r=l.length→r<n→Gl xM x0 x1 n (oD l) l.length i=if Ko (l.drop i) then x1 (oD l) l.length l.length false else x0 8:=by
 intro x0 x1 r;induction r with
 | zero=>
  intro i n hi hn;obtain ⟨n,rfl⟩:∃ m,n=m+1:=⟨n-1,by omega⟩;obtain rfl:i=l.length:=by omega
  rw [Gl,bG (by omega),List.drop_length];rfl
 | succ r ih=>
  intro i n hi hn;obtain ⟨n,rfl⟩:∃ m,n=m+1:=⟨n-1,by omega⟩;have hil:i<l.length:=by omega
  have e1:=cL (n:=(i:Int)+1) (by omega) (by omega);have hm:l.getD i default∈l:=by rw [cN,bY hil];exact kQ hil
  have hd:Ko (l.drop i)=(decide (l.getD i default).ok&&Ko (l.drop (i+1))):=by rw [mZ default hil];rfl
  rw [Gl,bS (by omega),aI (by omega),GY,aI (by omega),cH,Oh hil,DN,e1,dN];change xM (l.getD i default).a (l.getD i default).b (l.getD i default).c (l.getD i default).d _=_;rw [yNd (h64 _ hm),hd]
  cases hv:decide (l.getD i default).ok with
  | true =>rw [show (!true)=false from rfl,aU,jK];exact ih (i+1) n (by omega) (by omega)
  | false =>rw [show (!false)=true from rfl,aX,kU];rfl
def nA (l:List Sp):Int:=if l.length>60 then 4 else if Ko l then 0 else 8
theorem yQI {l:List Sp} (h64:∀ s∈l,s.i64) (hl:l.length<4611686018427387904) (K:Int→Prop):zV (oD l) K=K (nA l):=by
 refine yC3 _ _ (fun K k=>?_) K;unfold zV UO;unfold nA at k;rw [GY]
 by_cases h:l.length>60
 ·rw [bS (by omega)];rw [YQ h] at k;exact k
 ·rw [bG (by omega)];rw [YR h] at k;refine ⟨l.length+1,?_⟩;refine (yNe h64 hl _ _ l.length 0 (l.length+1) (by omega) (by omega)).mpr ?_;rw [kT];split
  ·rename_i h2;rw [YQ h2] at k;exact k
  ·rename_i h2;rw [YR h2] at k;exact k
def nB:Sp→List Sp→Bool
 | _,[]=>true
 | s,t::r=>decide (s.rs.2<t.rs.1)&&nB t r
theorem yI3 {l:List Sp} (hok:∀ s∈l,s.ok) (hl:l.length<4611686018427387904) :
  ∀ x0 x1,∀ (r i n:Nat),i+1+r=l.length→r<n→Dk zV ybl x0 x1 n (oD l) ((i+1:Nat):Int)=if nB (l.getD i default) (l.drop (i+1)) then x1 (oD l) l.length false else x0 8:=by
 intro x0 x1 r;induction r with
 | zero =>intro i n hi hn;obtain ⟨n,rfl⟩:∃ m,n=m+1:=⟨n-1,by omega⟩;rw [Dk,GY,bG (by omega),List.drop_eq_nil_of_le (by omega),show i+1=l.length by omega];rfl
 | succ r ih=>
  intro i n hi hn;obtain ⟨n,rfl⟩:∃ m,n=m+1:=⟨n-1,by omega⟩;have e0:=cL (n:=((i+1:Nat):Int)-1) (by omega) (by omega);have e2:((i+1:Nat):Int)-1=(i:Int):=by omega
  have e1:=cL (n:=((i+1:Nat):Int)+1) (by omega) (by omega);have hm1:l.getD i default∈l:=by rw [cN,bY (by omega)];exact kQ (by omega)
  have hm2:l.getD (i+1) default∈l:=by rw [cN,bY (by omega)];exact kQ (by omega)
  rw [Dk,GY,bS (by omega),e0,e2,aI (by omega),aI (by omega),cH,Oh (by omega),DN,aI (by omega),aI (by omega),cH,Oh (by omega),DN];change ybl (l.getD i default).c (l.getD i default).d (l.getD (i+1) default).a (l.getD (i+1) default).b _=_;rw [yNc (hok _ hm1).2.1 (hok _ hm2).1,e1,dN,mZ default (by omega)];unfold nB;have e3:decide (gP (rt (l.getD i default).c (l.getD i default).d) (rt (l.getD (i+1) default).a (l.getD (i+1) default).b)≥0)=!decide ((l.getD i default).rs.2<(l.getD (i+1) default).rs.1):=yOV _ _;rw [e3]
  cases decide ((l.getD i default).rs.2<(l.getD (i+1) default).rs.1) with
  | true =>rw [show (!true)=false from rfl,aU,jK];exact ih (i+1) n (by omega) (by omega)
  | false =>rw [show (!false)=true from rfl,aX,kU];rfl
def oU (l:List Sp):List RS:=l.map Sp.rs
def Ok (l:List Sp):Int:=if nA l=0 then (match l with | []=>0 | s::r=>if nB s r then 0 else 8) else nA l
theorem yLw {l:List Sp} (h:nA l=0):l.length≤60∧∀ s∈l,s.ok:=by
 unfold nA at h;split at h
 ·cases h
 ·split at h
  ·rename_i h1 h2;exact ⟨by omega,fun s hs=>by simpa using sL.1 h2 s hs⟩
  ·cases h
theorem yLx {l:List Sp} (h64:∀ s∈l,s.i64) (hl:l.length<4611686018427387904) (K:Int→Prop):ya3 (oD l) K=K (Ok l):=by
 refine yzf _ _ (fun K k=>?_) K;unfold ya3 US;unfold Ok at k;rw [yQI h64 hl]
 by_cases h:nA l=0
 ·rw [YQ h] at k;rw [cV h];obtain ⟨h1,h2⟩:=yLw h
  cases l with
  | nil =>refine ⟨1,?_⟩;rw [Dk,GY,bG (by simp)];exact k
  | cons s r=>
   refine ⟨r.length+1,?_⟩;refine (yI3 h2 hl _ _ r.length 0 (r.length+1) (by simp;omega) (by omega)).mpr ?_;dsimp only at k;show if nB s r then _ else _
   split
   ·rename_i hg;rw [YQ hg] at k;exact k
   ·rename_i hg;rw [YR hg] at k;exact k
 ·rw [YR h] at k;rw [fR h];exact k
theorem oz:∀ (r:List Sp) (s:Sp),s.ok→(∀ t∈r,t.ok)→(nB s r=true↔Oj (oU (s::r)))
 | [],s,hs,_=>⟨fun _=>⟨hs.2.2,by simp,trivial⟩,fun _=>rfl⟩
 | t::r,s,hs,h=>by
  have ht:=h t eU;have ih:=oz r t ht fun u hu=>h u (eF _ hu)
  unfold nB;rw [bO,decide_eq_true_eq,ih];constructor
  ·rintro ⟨h1,h2⟩;refine ⟨hs.2.2,fun u hu=>?_,h2⟩;rcases qAn.1 hu with rfl | hu
   ·exact h1
   ·have:=h2.2.1 u hu;have:=h2.1;show s.rs.2<u.1;grind
  ·rintro ⟨_,h2,h3⟩;exact ⟨h2 _ eU,h3⟩
end Go.Pf.Vc
namespace Go.Pf.Vc
open Go Go.Pf Go.Sort
theorem Ol {n d:Int}:LY n d=true↔RV n d:=by unfold LY RV;simp only [bO,decide_eq_true_eq]
theorem yOX {a b c d:Int} (h:RV a b) (k:RV c d):mV a b c d<0↔rt a b<rt c d:=by
 obtain ⟨_,h2,h3⟩:=rY h;obtain ⟨_,k2,k3⟩:=rY k;rw [Rat.lt_iff,h2,h3,k2,k3];unfold mV
 by_cases h:a*d<c*b
 ·rw [YQ h];simp [h]
 ·rw [YR h];split<;>simp [h]
def Xp:PV→Rat
 | .agg (.int _ a::.int _ b::_)=>rt a b
 | _=>0
theorem Om {x y:PV} (hx:CL x=true) (hy:CL y=true):tA x y<0↔Xp x<Xp y:=by
 unfold CL at hx hy;split at hx
 ·split at hy
  ·simp only [tA,Xp];exact yOX (Ol.1 hx) (Ol.1 hy)
  ·cases hy
 ·cases hx
theorem BM {n g:Nat} (x:(qN n g).s.El):CL x.1=true:=by have:=x.2;simp only [Srt.gd,bO] at this;exact this.2
theorem Xq (n g:Nat):SWO (fun x y:(qN n g).s.El=>decide ((qN n g).cf x y<0)) where
 irrefl x:=by
  have:=Om (BM x) (BM x);show decide (tA x.1 x.1<0)=false;rw [decide_eq_false_iff_not,this];exact Rat.lt_irrefl
 trans x y z h1 h2:=by
  have h1:decide (tA x.1 y.1<0)=true:=h1;have h2:decide (tA y.1 z.1<0)=true:=h2;show decide (tA x.1 z.1<0)=true;rw [decide_eq_true_eq,Om (BM _) (BM _)] at *
  grind
 ntrans x y z h1 h2:=by
  have h1:decide (tA x.1 y.1<0)=false:=h1;have h2:decide (tA y.1 z.1<0)=false:=h2;show decide (tA x.1 z.1<0)=false;rw [decide_eq_false_iff_not,Om (BM _) (BM _)] at *
  grind
theorem Xr {s:Srt}:∀ {l:List PV},(∀ x∈l,s.gd x=true)→∃ d,s.rows? l=some d
 | [],_=>⟨[],rfl⟩
 | x::r,h=>by
  obtain ⟨d,hd⟩:=Xr (s:=s) (l:=r) fun y hy=>h y (eF _ hy)
  refine ⟨⟨x,h x eU⟩::d,?_⟩;simp only [Srt.rows?];rw [dif_pos (h x eU),hd]
theorem RV.i1 {n d:Int} (h:RV n d):cB n:=by obtain ⟨h1,h2,h3,h4,_⟩:=h;exact ⟨by omega,by omega⟩
theorem RV.i2 {n d:Int} (h:RV n d):cB d:=by obtain ⟨h1,h2,h3,h4,_⟩:=h;exact ⟨by omega,by omega⟩
theorem Sp.ok.i64 {s:Sp} (h:s.ok):s.i64:=⟨h.1.i1,h.1.i2,h.2.1.i1,h.2.1.i2⟩
theorem pd (n g:Nat) {s:Sp} (h:s.ok):(qN n g).s.gd (jU s)=true:=by
 obtain ⟨h1,h2,h3,h4⟩:=h.i64;have e1:i64.min=-9223372036854775808:=by decide
 have e2:i64.max=9223372036854775807:=by decide
 simp only [Srt.gd,qN,Fd,jU,gO,CL,bO,decide_eq_true_eq,e1,e2];unfold cB at h1 h2 h3 h4;exact ⟨⟨trivial,h1.1,h1.2,trivial,h2.1,h2.2,trivial,h3.1,h3.2,trivial,h4.1,h4.2,trivial⟩,Ol.2 h.1⟩
def mD:PV→Sp
 | .agg [.int _ a,.int _ b,.int _ c,.int _ d]=>⟨a,b,c,d⟩
 | _=>default
theorem pf (s:Sp):mD (jU s)=s:=rfl
theorem yLy (n g:Nat) {l:List Sp} (h:∀ s∈l,s.ok):∃ l':List Sp,l'.Perm l∧l'.Pairwise (fun s t=>¬t.rs.1<s.rs.1)∧Srt.sorted (qN n g).s (qN n g).srt (oD l)=oD l':=by
 obtain ⟨d,hd⟩:=Xr (s:=(qN n g).s) (l:=oD l) fun x hx=>by
  obtain ⟨s,hs,rfl⟩:=oI.1 hx;exact pd n g (h s hs)
 obtain ⟨d',h1,h2,h3⟩:=(qN n g).sorted_is (Xq n g) hd;have hv:=Srt.rows?_val hd;have hp:(d'.map (·.1)).Perm (oD l):=by rw [← hv];exact h1.map _
 have hm:∀ x∈d'.map (·.1),∃ s∈l,jU s=x:=fun x hx=>oI.1 (hp.mem_iff.1 hx)
 refine ⟨(d'.map (·.1)).map mD,?_,?_,?_⟩
 ·have this:(map mD (d'.map (·.1))).Perm (map mD (l.map jU)):=hp.map mD;have e:map mD (l.map jU)=l:=by rw [wP,show mD ∘ jU=id from funext pf,List.map_id]
  rw [e] at this;exact this
 ·rw [wP,List.pairwise_map];refine h2.imp_of_mem fun {x y} hx hy hxy=>?_
  have hxy:¬tA y.1 x.1<0:=hxy;rw [Om (BM _) (BM _)] at hxy;obtain ⟨s,_,es⟩:=hm x.1 (List.mem_map_of_mem hx);obtain ⟨t,_,et⟩:=hm y.1 (List.mem_map_of_mem hy);show ¬(mD y.1).rs.1<(mD x.1).rs.1;rw [← es,← et] at hxy ⊢;exact hxy
 ·rw [h3];have key:∀ (xs:List PV),(∀ x∈xs,∃ s∈l,jU s=x)→(xs.map mD).map jU=xs:=by
   intro xs;induction xs with
   | nil=>intro _;rfl
   | cons x r ih =>intro h;obtain ⟨s,_,es⟩:=h x eU;rw [nM,nM,ih fun y hy=>h y (eF _ hy),← es,pf]
  exact (key _ hm).symm
end Go.Pf.Vc
namespace Go.Pf.Vc
open Go Go.Pf
def eQ (r:RS):Sp:=⟨r.1.num,r.1.den,r.2.num,r.2.den⟩
def cW (l:List RS):List PV:=oD (l.map eQ)
def nC (r:RS):Prop:=small r.1∧small r.2
theorem lI (l:List RS):(cW l).length=l.length:=by unfold cW;rw [GY,dS]
def pQ (r:RS):PV:=jU (eQ r)
theorem BN {l:List RS} {i:Nat} (h:i<l.length):getD (cW l) i .nils=pQ (l.getD i default):=by unfold cW;rw [Oh (by rw [dS];exact h)];unfold pQ;congr 1;rw [cN,cN,lK,bY h];rfl
theorem GZ (r:RS):aK (aP (pQ r) 0)=r.1.num:=rfl
theorem Oo (r:RS):aK (aP (pQ r) 1)=r.1.den:=rfl
theorem Ha (r:RS):aK (aP (pQ r) 2)=r.2.num:=rfl
theorem Hb (r:RS):aK (aP (pQ r) 3)=r.2.den:=rfl
theorem BO (r:RS) (P:Prop):asr (aG z4 (pQ r)) P=P:=rfl
theorem yOY (a b:List RS):cW a++cW b=cW (a++b):=by unfold cW oD;rw [yJ,yJ]
theorem asTr (P:Prop):asr (decide True) P=P:=by rw [decide_true];rfl
theorem Xs {l:List RS} (h:∀ s∈l,nC s) {i:Nat} (hi:i<l.length):nC (l.getD i default):=by rw [cN,bY hi];exact h _ (kQ hi)
theorem yOZ {s:Sp} (h:s.ok):eQ s.rs=s:=by
 obtain ⟨_,h2,h3⟩:=rY h.1;obtain ⟨_,k2,k3⟩:=rY h.2.1;unfold eQ Sp.rs
 cases s
 simp only at h2 h3 k2 k3 ⊢;rw [h2,h3,k2,k3]
theorem pg {r:RS} (_:nC r):(eQ r).rs=r:=by show (rt r.1.num r.1.den,rt r.2.num r.2.den)=r;rw [rX,rX]
theorem Oq {r:RS} (h:nC r) (hv:r.1<r.2):(eQ r).ok:=⟨h.1.rv,h.2.rv,by
 show rt r.1.num r.1.den<rt r.2.num r.2.den;rw [rX,rX];exact hv⟩
theorem yLz {l:List Sp} (h:∀ s∈l,s.ok):oD l=cW (oU l):=by
 unfold cW oU;rw [wP];congr 1
 conv=>lhs;rw [← List.map_id l]
 exact Cc fun s hs=>(yOZ (h s hs)).symm
theorem ph:∀ {l:List RS},l.Pairwise (fun s t=>¬t.1<s.1)→Kn l
 | [],_=>trivial
 | s::r,h=>by rw [List.pairwise_cons] at h;exact ⟨fun t ht=>by have:=h.1 t ht;grind,ph h.2⟩
def pR (q:Rat):PV:=.agg [.int .i64 q.num,.int .i64 q.den]
def cO (l:List Rat):List PV:=l.map pR
theorem tP (l:List Rat):(cO l).length=l.length:=dS ..
theorem vS {l:List Rat} {i:Nat} (h:i<l.length):getD (cO l) i .nils=pR (l.getD i 0):=by unfold cO;rw [cN,cN,lK,bY h];rfl
theorem xU (q:Rat):aK (aP (pR q) 0)=q.num:=rfl
theorem xV (q:Rat):aK (aP (pR q) 1)=q.den:=rfl
theorem vT (q:Rat) (P:Prop):asr (aG z2 (pR q)) P=P:=rfl
theorem pi (q:Rat):([.agg [.int .i64 q.num,.int .i64 q.den]]:List PV)=cO [q]:=rfl
theorem pj (a b:List Rat):cO a++cO b=cO (a++b):=by unfold cO;rw [yJ]
theorem yRX (a b:Rat):((a.num==b.num)&&(((a.den:Int) ==(b.den:Int))&&true))=decide (a=b):=by
 rw [Bool.and_true,Cg];simp only [bO,beq_iff_eq,decide_eq_true_eq];constructor
 ·rintro ⟨h1,h2⟩;exact Rat.ext h1 (by omega)
 ·rintro rfl;exact ⟨rfl,rfl⟩
theorem pk (l:List RS):nN 4 (cW l)=true:=by cases l<;>rfl
theorem Kp {l:List RS} (h:Oj l):∀ s∈l,s.1<s.2:=by
 induction l with
 | nil=>intro s hs;cases hs
 | cons t r ih=>
  intro s hs;rcases qAn.1 hs with rfl | hs
  ·exact h.1
  ·exact ih h.2.2 s hs
theorem yQJ {a b c d:Int} (h:RV a b) (k:RV c d):mV a b c d=gP (rt a b) (rt c d):=by obtain ⟨_,h2,h3⟩:=rY h;obtain ⟨_,k2,k3⟩:=rY k;unfold mV gP;simp only [Rat.lt_iff,h2,h3,k2,k3]
theorem yNh:∀ {cs:List PV},gO [.i64,.i64,.i64,.i64] cs=true→∃ a b c d,cs=[.int .i64 a,.int .i64 b,.int .i64 c,.int .i64 d]
 | [],h=>by cases h
 | [x],h=>by cases x<;>simp [gO] at h
 | [x,y],h=>by cases x<;>cases y<;>simp [gO] at h
 | [x,y,z],h=>by cases x<;>cases y<;>cases z<;>simp [gO] at h
 | x::y::z::u::w,h=>by
  cases x<;>first | (simp [gO] at h;done) | skip
  cases y<;>first | (simp [gO] at h;done) | skip
  cases z<;>first | (simp [gO] at h;done) | skip
  cases u<;>first | (simp [gO] at h;done) | skip
  simp only [gO,bO,decide_eq_true_eq] at h;obtain ⟨rfl,_,_,rfl,_,_,rfl,_,_,rfl,_,_,h⟩:=h
  cases w with
  | nil=>exact ⟨_,_,_,_,rfl⟩
  | cons p q=>simp [gO] at h
theorem pl {n g:Nat} {x:PV} (h:(qN n g).s.gd x=true):∃ a b c d,x=.agg [.int .i64 a,.int .i64 b,.int .i64 c,.int .i64 d]∧RV a b:=by
 simp only [Srt.gd,bO] at h;have h1:Fd [.i64,.i64,.i64,.i64] x=true:=h.1;have h2:CL x=true:=h.2;clear h
 cases x<;>first | (simp [Fd] at h1;done) | skip
 obtain ⟨a,b,c,d,rfl⟩:=yNh (h1:gO _ _=true);exact ⟨a,b,c,d,rfl,Ol.1 h2⟩
structure Pc (l:List RS):Prop where
 c:Oj l
 s:∀ s∈l,nC s
 n:l.length≤60
theorem yNi {l:List RS} (h:∀ s∈l,nC s):oU (l.map eQ)=l:=by
 induction l with
 | nil=>rfl
 | cons s r ih =>show (eQ s).rs::oU (r.map eQ)=_;rw [pg (h s eU),ih fun t ht=>h t (eF _ ht)]
theorem Pc.ok {l:List RS} (h:Pc l):∀ s∈l.map eQ,s.ok:=fun s hs=>by obtain ⟨t,ht,rfl⟩:=oI.1 hs;exact Oq (h.s t ht) (Kp h.c t ht)
theorem Pc.i64 {l:List RS} (h:Pc l):∀ s∈l.map eQ,s.i64:=fun s hs=>by obtain ⟨t,ht,rfl⟩:=oI.1 hs;have:=h.s t ht;exact ⟨this.1.i1,this.1.i2,this.2.i1,this.2.i2⟩
theorem Pc.e {l:List RS} (h:Pc l):Ok (l.map eQ)=0:=by
 have hl:=h.n;have ho:=h.ok;have hc:=h.c;rw [← yNi h.s] at hc;have h1:Ko (l.map eQ)=true:=sL.2 fun s hs=>Ef (ho s hs)
 have h2:nA (l.map eQ)=0:=by unfold nA;rw [YR (by rw [dS];omega),h1,YQ rfl]
 unfold Ok;rw [h2]
 cases l with
 | nil=>rfl
 | cons s r =>have hg:nB (eQ s) (r.map eQ)=true:=(oz _ _ (ho _ (by simp)) (fun t ht=>ho t (eF _ ht))).2 hc;show (if (0:Int)=0 then (if nB (eQ s) (r.map eQ) then 0 else 8) else _)=_;rw [YQ rfl,hg,YQ rfl]
theorem Pc.check {l:List RS} (h:Pc l) (K:Int→Prop):ya3 (cW l) K=K 0:=by unfold cW;rw [yLx h.i64 (by rw [dS];have:=h.n;omega),h.e]
def kL (v:RS→Rat):List RS→Rat
 | []=>0
 | s::r=>v s+kL v r
theorem pm:small 0:=by decide +kernel
theorem nz (P Q:Prop):aB ((0:Int) !=0) P Q=Q:=rfl
theorem ez (P Q:Prop):aB ((0:Int)==0) P Q=P:=rfl
section
variable (V:Rat→Rat)
def dV (s:RS):Rat:=V s.2-V s.1
end
section
variable {len:Int} {cuts dens:List Int}
def uC (cuts:List Int) (i:Nat) (x:Rat):Rat:=mC (dF x (cuts.getD i 0:Int)) (cuts.getD (i+1) 0:Int)
def vu (cuts dens:List Int) (x:Rat):Nat→Nat→Rat
 | 0,_=>0
 | r+1,i=>(dens.getD i 0:Int)*uC cuts i x+vu cuts dens x r (i+1)
theorem Hc (h:VC len cuts dens):∀ (r i:Nat) {x y:Rat},i+r=dens.length→x≤(cuts.getD i 0:Int)→y≤(cuts.getD i 0:Int)→vu cuts dens x r i=vu cuts dens y r i
 | 0,_,_,_,_,_,_=>rfl
 | r+1,i,x,y,hi,hx,hy=>by
  have l1:=h.l1;have hst:((cuts.getD i 0:Int):Rat)<((cuts.getD (i+1) 0:Int):Rat):=Eg.2 (h.step (i:=i) (by omega));have ih:=Hc h r (i+1) (x:=x) (y:=y) (by omega) (by grind) (by grind);unfold vu;rw [ih];have e:uC cuts i x=uC cuts i y:=by
   unfold uC;have a1:=oS x (cuts.getD i 0:Int);have a2:=oS y (cuts.getD i 0:Int);have e1:dF x (cuts.getD i 0:Int)=(cuts.getD i 0:Int):=by grind
   have e2:dF y (cuts.getD i 0:Int)=(cuts.getD i 0:Int):=by grind
   rw [e1,e2]
  rw [e]
theorem BP {α:Type} {q:Rat} {k:Rat→Except Int α} {v:α} (h:gT q k=.ok v):k q=.ok v:=by
 unfold gT at h;split at h
 ·exact h
 ·cases h
theorem Ot (h:VC len cuts dens) {b:Rat}:∀ (r i:Nat) (p sum v:Rat),i+r=dens.length→p≤b→(p=b∨((cuts.getD i 0:Int):Rat)≤p)→valS cuts dens b r i p sum=.ok v→v=sum+(vu cuts dens b r i-vu cuts dens p r i)
 | 0,i,p,sum,v,hi,hp,hc,hv=>by
  unfold valS at hv
  cases hv
  unfold vu;grind
 | r+1,i,p,sum,v,hi,hp,hc,hv=>by
  have l1:=h.l1;have hst:((cuts.getD i 0:Int):Rat)<((cuts.getD (i+1) 0:Int):Rat):=Eg.2 (h.step (i:=i) (by omega));unfold valS at hv;dsimp only at hv;have hen:∃ en:Rat,(if b<((cuts.getD (i+1) 0:Int):Rat) then b else ((cuts.getD (i+1) 0:Int):Rat))=en∧en≤b∧en≤((cuts.getD (i+1) 0:Int):Rat)∧(en=b∨en=((cuts.getD (i+1) 0:Int):Rat)):=by refine ⟨_,rfl,?_⟩;split<;>grind
  obtain ⟨en,e0,he1,he2,he3⟩:=hen;rw [e0] at hv;have low:=Hc h r (i+1) (x:=en) (y:=p) (by omega);have m1:=oS b (cuts.getD i 0:Int);have m2:=oS p (cuts.getD i 0:Int);have n1:=qW (dF b (cuts.getD i 0:Int)) (cuts.getD (i+1) 0:Int);have n2:=qW (dF p (cuts.getD i 0:Int)) (cuts.getD (i+1) 0:Int);unfold vu uC;generalize ((cuts.getD i 0:Int):Rat)=c0 at *
  generalize hc1:((cuts.getD (i+1) 0:Int):Rat)=c1 at *
  by_cases hlt:p<en
  ·have hb:mC (dF b c0) c1=en:=by grind
   have hq:mC (dF p c0) c1=p:=by grind
   by_cases hd:dens.getD i 0=0
   ·rw [YQ (.inl hd),YQ hlt] at hv;have ih:=Ot h r (i+1) en sum v (by omega) he1 (by rw [hc1];grind) hv;rw [ih,hd,low (by grind) (by grind)];grind
   ·rw [YR (by intro k;rcases k with k | k;exact hd k;exact k hlt)] at hv;have hv:=BP (BP (BP hv));have ih:=Ot h r (i+1) en _ v (by omega) he1 (by rw [hc1];grind) hv;rw [ih,low (by grind) (by grind),hb,hq];grind
  ·rw [YQ (.inr hlt),YR hlt] at hv;have ih:=Ot h r (i+1) p sum v (by omega) hp (by rw [hc1];grind) hv;have:mC (dF b c0) c1=mC (dF p c0) c1:=by grind
   rw [ih,this];grind
def vX (cuts dens:List Int) (x:Rat):Rat:=vu cuts dens x dens.length 0
theorem yO0 (h:VC len cuts dens) {a b v:Rat} (h0:0≤a) (hab:a≤b) (hv:Ay cuts dens a b=.ok v):v=vX cuts dens b-vX cuts dens a:=by have c0:cuts.getD 0 0=0:=h.2.2.2.2.2.1;have:=Ot h dens.length 0 a 0 v (by omega) hab (.inr (by rw [c0];exact h0)) hv;unfold vX;rw [this];grind
def Wi (len:Int) (l:List RS):Prop:=∀ s∈l,0≤s.1∧s.2≤(len:Rat)
theorem yO1 (q r:Rat):decide (gP q r>0)=decide (r<q):=by rw [← Bool.not_eq_not,← yOW,Cg];simp only [decide_eq_true_eq];omega
end
def Xt (len:Int) (l:List RS):Bool:=l.all fun s=>decide (PT len s.1.num s.1.den)&&decide (PT len s.2.num s.2.den)
theorem yNk {len:Int} {l:List RS} (h:Xt len l=true):Wi len l:=fun s hs=>by have:=sL.1 h s hs;simp only [bO,decide_eq_true_eq] at this;obtain ⟨h1,h2⟩:=this;have p1:=h1.pt;have p2:=h2.pt;rw [rX] at p1 p2;exact ⟨p1.2.2.2.1,p2.2.2.2.2⟩
section
variable {len:Int} {cuts dens:List Int}
theorem po (h:VC len cuts dens) {i:Nat} (hi:i+1<cuts.length) {x y:Rat} (hxy:x≤y):uC cuts i x≤uC cuts i y:=by have hst:((cuts.getD i 0:Int):Rat)<((cuts.getD (i+1) 0:Int):Rat):=Eg.2 (h.step (i:=i) hi);have m1:=oS x (cuts.getD i 0:Int);have m2:=oS y (cuts.getD i 0:Int);have n1:=qW (dF x (cuts.getD i 0:Int)) (cuts.getD (i+1) 0:Int);have n2:=qW (dF y (cuts.getD i 0:Int)) (cuts.getD (i+1) 0:Int);unfold uC;grind
theorem pq (h:VC len cuts dens) {i:Nat} (hi:i<dens.length):(0:Rat)≤((dens.getD i 0:Int):Rat):=AR.2 (h.den hi).1
theorem Xu (h:VC len cuts dens) {x y:Rat} (hxy:x≤y):∀ (r i:Nat),i+r=dens.length→vu cuts dens x r i≤vu cuts dens y r i
 | 0,_,_=>eI
 | r+1,i,hi=>by have l1:=h.l1;have h1:=po h (i:=i) (by omega) hxy;have h2:=Xu h hxy r (i+1) (by omega);have h3:=xZ h1 (pq h (i:=i) (by omega));unfold vu;grind
theorem Hd (h:VC len cuts dens) {x y:Rat} (hxy:x≤y):vX cuts dens x≤vX cuts dens y:=Xu h hxy dens.length 0 (by omega)
theorem Ou (h:VC len cuts dens):∀ (r i:Nat) (p v q:Rat),i+r=dens.length→0<v→((cuts.getD i 0:Int):Rat)≤p→mrkS cuts dens r i p v=.ok q →
  vu cuts dens q r i-vu cuts dens p r i=v∧p<q∧q≤((cuts.getD dens.length 0:Int):Rat)∧∀ x,x<q→vu cuts dens x r i<vu cuts dens q r i
 | 0,_,_,_,_,_,_,_,e=>by cases e
 | r+1,i,p,v,q,hi,hv,hp,e=>by
  have l1:=h.l1;have hst:((cuts.getD i 0:Int):Rat)<((cuts.getD (i+1) 0:Int):Rat):=Eg.2 (h.step (i:=i) (by omega));have hd:=h.den (i:=i) (by omega);have hd0:=pq h (i:=i) (by omega);have low:=fun {x y:Rat}=>Hc h r (i+1) (x:=x) (y:=y) (by omega)
  have hmon:=fun {x:Rat} (hx:x<q)=>po h (i:=i) (by omega) (eV hx)
  have hmon2:=fun {x:Rat} (hx:x<q)=>Xu h (eV hx) r (i+1) (by omega)
  have m1:=oS p (cuts.getD i 0:Int);have m2:=oS q (cuts.getD i 0:Int);have n1:=qW (dF p (cuts.getD i 0:Int)) (cuts.getD (i+1) 0:Int);have n2:=qW (dF q (cuts.getD i 0:Int)) (cuts.getD (i+1) 0:Int);unfold mrkS at e
  by_cases c1:p<((cuts.getD (i+1) 0:Int):Rat)
  case neg=>
   rw [YQ c1] at e;obtain ⟨a1,a2,a3,a4⟩:=Ou h r (i+1) p v q (by omega) hv (tZ.1 c1) e;have eq:uC cuts i q=uC cuts i p:=by unfold uC;grind
   refine ⟨by unfold vu;rw [eq];grind,a2,a3,fun x hx=>?_⟩;have b1:=a4 x hx;have b2:=xZ (hmon hx) hd0;unfold vu;grind
  rw [YR (fun k=>k c1)] at e
  by_cases c2:dens.getD i 0=0
  ·rw [YQ c2] at e;obtain ⟨a1,a2,a3,a4⟩:=Ou h r (i+1) _ v q (by omega) hv eI e;have e2:=low (x:=p) (y:=((cuts.getD (i+1) 0:Int):Rat)) (eV c1) eI;refine ⟨by unfold vu;rw [e2,c2];grind,by grind,a3,fun x hx=>?_⟩;have b1:=a4 x hx;have b2:=xZ (hmon hx) hd0;unfold vu;grind
  rw [YR c2] at e;have e:=BP (BP e);have dpos:(0:Rat)<((dens.getD i 0:Int):Rat):=En.2 (by omega);have up:uC cuts i p=p:=by unfold uC;grind
  by_cases c3:(((cuts.getD (i+1) 0:Int):Rat)-p)*((dens.getD i 0:Int):Rat)<v
  ·rw [YQ c3] at e;have e:=BP e;obtain ⟨a1,a2,a3,a4⟩:=Ou h r (i+1) _ _ q (by omega) (by grind) eI e;have e2:=low (x:=p) (y:=((cuts.getD (i+1) 0:Int):Rat)) (eV c1) eI;have uq:uC cuts i q=((cuts.getD (i+1) 0:Int):Rat):=by unfold uC;grind
   refine ⟨by unfold vu;rw [e2,up,uq];grind,by grind,a3,fun x hx=>?_⟩;have b1:=a4 x hx;have b2:=xZ (hmon hx) hd0;unfold vu;grind
  ·rw [YR c3] at e;have e:=BP (BP e)
   cases e
   generalize hs:v/((dens.getD i 0:Int):Rat)=s at *
   have es:s*((dens.getD i 0:Int):Rat)=v:=by rw [← hs];exact HF (by grind)
   have s0:0<s:=by
    refine Rat.not_le.1 fun k=>?_
    have:=Ca k hd0;grind
   have s1:p+s≤((cuts.getD (i+1) 0:Int):Rat):=by
    refine tZ.1 fun k=>?_
    have:(((cuts.getD (i+1) 0:Int):Rat)-p)<s:=by grind
    have:=Ee this dpos;grind
   have uq:uC cuts i (p+s)=p+s:=by unfold uC;grind
   have e2:=low (x:=p+s) (y:=p) s1 (eV c1);have hlast:cuts.getD (i+1) 0≤cuts.getD dens.length 0:=h.mono (by omega) (by omega);have hlast:((cuts.getD (i+1) 0:Int):Rat)≤((cuts.getD dens.length 0:Int):Rat):=iM.2 hlast;refine ⟨by unfold vu;rw [e2,up,uq];grind,by grind,by grind,fun x hx=>?_⟩;have b1:=hmon2 hx;have ux:uC cuts i x<p+s:=by have k1:=oS x (cuts.getD i 0:Int);have k2:=qW (dF x (cuts.getD i 0:Int)) (cuts.getD (i+1) 0:Int);unfold uC;grind
   have b2:=KJ ux dpos;unfold vu;rw [uq];grind
theorem VC.last (h:VC len cuts dens):cuts.getD dens.length 0=len:=by have l1:=h.l1;have:=h.2.2.2.2.2.2.1;rw [show dens.length=cuts.length-1 by omega];exact this
theorem Xv (h:VC len cuts dens) {a v q:Rat} (h0:0≤a) (h1:a≤(len:Rat)) (hv:0≤v) (e:mrkC cuts dens a v=.ok q) :
  vX cuts dens q=vX cuts dens a+v∧a≤q∧q≤(len:Rat)∧(v=0→a=q)∧(v≠0→∀ x,x<q→vX cuts dens x<vX cuts dens q):=by
 unfold mrkC at e
 by_cases c:v=0
 ·rw [YQ c] at e
  cases e
  rw [c];exact ⟨by grind,eI,h1,fun _=>rfl,fun k=>absurd rfl k⟩
 ·rw [YR c] at e;have c0:cuts.getD 0 0=0:=h.2.2.2.2.2.1;obtain ⟨a1,a2,a3,a4⟩:=Ou h dens.length 0 a v q (by omega) (by grind) (by rw [c0];exact h0) e;rw [h.last] at a3;exact ⟨by unfold vX;grind,eV a2,a3,fun k=>absurd k c,fun _=>a4⟩
end
def In (D:Int) (q:Rat):Prop:=∃ n:Int,q=(n:Rat)/(D:Rat)
theorem In.int {D:Int} (h:1≤D) (c:Int):In D (c:Rat):=⟨c*D,by rw [kR,Rat.mul_div_cancel (oR h)]⟩
theorem In.add {D:Int} {q r:Rat} (h:In D q) (k:In D r):In D (q+r):=by obtain ⟨n,rfl⟩:=h;obtain ⟨m,rfl⟩:=k;exact ⟨n+m,by rw [Cj];grind⟩
theorem In.sub {D:Int} {q r:Rat} (h:In D q) (k:In D r):In D (q-r):=by obtain ⟨n,rfl⟩:=h;obtain ⟨m,rfl⟩:=k;exact ⟨n-m,by rw [Cl];grind⟩
theorem In.mulI {D:Int} {q:Rat} (h:In D q) (d:Int):In D (q*(d:Rat)):=by obtain ⟨n,rfl⟩:=h;exact ⟨n*d,by rw [kR];grind⟩
theorem In.up {D d:Int} {q:Rat} (hD:1≤D) (hd:1≤d) (h:In D q):In (d*D) q:=by obtain ⟨n,rfl⟩:=h;have h1:=oR hD;have h2:=oR hd;refine ⟨d*n,?_⟩;rw [kR,kR];grind
theorem In.div {D d:Int} {q:Rat} (hD:1≤D) (hd:1≤d) (h:In D q):In (d*D) (q/(d:Rat)):=by obtain ⟨n,rfl⟩:=h;have h1:=oR hD;have h2:=oR hd;refine ⟨n,?_⟩;rw [kR];grind
theorem In.small {D M:Int} {q:Rat} (h:In D q) (hD:1≤D∧D≤1000000000000000000) (hM:M*D≤1000000000000000000) (h0:-(M:Rat)≤q) (h1:q≤(M:Rat)):small q:=by
 obtain ⟨n,rfl⟩:=h;have hp:(0:Rat)<(D:Rat):=En.2 (by omega);have e:(n:Rat)/(D:Rat)*(D:Rat)=(n:Rat):=HF (oR hD.1);have a:=Ca h0 (eV hp);have b:=Ca h1 (eV hp);rw [e] at a b;have a':((-(M*D):Int):Rat)≤(n:Rat):=by rw [Rat.intCast_neg,kR];grind
 have b':(n:Rat)≤((M*D:Int):Rat):=by rw [kR];exact b
 have a2:=iM.1 a';have b2:=iM.1 b';exact yLv (d:=D) ⟨by omega,by omega⟩ ⟨by omega,by omega⟩
section
variable {len:Int} {cuts dens:List Int}
theorem py (h:VC len cuts dens) {u:Rat} (h0:0≤u) (h1:u<(len:Rat)):∃ i,i<dens.length∧((cuts.getD i 0:Int):Rat)≤u∧u<((cuts.getD (i+1) 0:Int):Rat):=by
 have key:∀ n,n≤dens.length→u<((cuts.getD n 0:Int):Rat)→∃ i,i<n∧((cuts.getD i 0:Int):Rat)≤u∧u<((cuts.getD (i+1) 0:Int):Rat):=by
  intro n;induction n with
  | zero =>intro _ hu;have c0:cuts.getD 0 0=0:=h.2.2.2.2.2.1;rw [c0] at hu;have:u<0:=hu;grind
  | succ n ih=>
   intro hn hu
   by_cases hc:u<((cuts.getD n 0:Int):Rat)
   ·obtain ⟨i,h1,h2,h3⟩:=ih (by omega) hc;exact ⟨i,by omega,h2,h3⟩
   ·exact ⟨n,by omega,tZ.1 hc,hu⟩
 obtain ⟨i,h1,h2,h3⟩:=key dens.length (bX _) (by rw [h.last];exact h1);exact ⟨i,h1,h2,h3⟩
theorem BQ (h:VC len cuts dens) {i j:Nat} (hij:i≤j) (hj:j≤dens.length):((cuts.getD i 0:Int):Rat)≤((cuts.getD j 0:Int):Rat):=iM.2 (h.mono hij (by have:=h.l1;omega))
theorem pz (h:VC len cuts dens) {i:Nat} (hi:i<dens.length) {u p:Rat} (h0:((cuts.getD i 0:Int):Rat)≤u) (h1:u≤p) (h2:p≤((cuts.getD (i+1) 0:Int):Rat)) :
  ∀ (r j:Nat),j+r=dens.length→j≤i→vu cuts dens p r j=vu cuts dens u r j+((dens.getD i 0:Int):Rat)*(p-u)
 | 0,j,hj,hji=>by omega
 | r+1,j,hj,hji=>by
  have hst:((cuts.getD j 0:Int):Rat)≤((cuts.getD (j+1) 0:Int):Rat):=BQ h (Nat.le_succ j) (by omega);have m1:=oS p (cuts.getD j 0:Int);have m2:=oS u (cuts.getD j 0:Int);have n1:=qW (dF p (cuts.getD j 0:Int)) (cuts.getD (j+1) 0:Int);have n2:=qW (dF u (cuts.getD j 0:Int)) (cuts.getD (j+1) 0:Int)
  by_cases e:j=i
  ·subst e;have low:=Hc h r (j+1) (x:=p) (y:=u) (by omega) h2 (by grind);have ep:uC cuts j p=p:=by unfold uC;grind
   have eu:uC cuts j u=u:=by unfold uC;grind
   unfold vu;rw [low,ep,eu];grind
  ·have hc:((cuts.getD (j+1) 0:Int):Rat)≤((cuts.getD i 0:Int):Rat):=BQ h (by omega) (by omega);have ih:=pz h hi h0 h1 h2 r (j+1) (by omega) (by omega);have ep:uC cuts j p=uC cuts j u:=by unfold uC;grind
   unfold vu;rw [ih,ep];grind
theorem Ov (h:VC len cuts dens) {i:Nat} (hi:i<dens.length) {u p:Rat} (h0:((cuts.getD i 0:Int):Rat)≤u) (h1:u≤p) (h2:p≤((cuts.getD (i+1) 0:Int):Rat)) :
 vX cuts dens p=vX cuts dens u+((dens.getD i 0:Int):Rat)*(p-u):=pz h hi h0 h1 h2 dens.length 0 (by omega) (iL _)
def He (dens:List Int):Prop:=∀ i,i<dens.length→0<dens.getD i 0
theorem Ow (h:VC len cuts dens) (hh:He dens) {u w:Rat} (h0:0≤u) (h1:u<w) (h2:w≤(len:Rat)):vX cuts dens u<vX cuts dens w:=by
 obtain ⟨i,i1,i2,i3⟩:=py h h0 (by grind);have hd:(0:Rat)<((dens.getD i 0:Int):Rat):=En.2 (hh i i1)
 by_cases hw:w≤((cuts.getD (i+1) 0:Int):Rat)
 ·have e:=Ov h i1 i2 (eV h1) hw;have:=KJ (show (0:Rat)<w-u by grind) hd;grind
 ·have e:=Ov h i1 i2 (eV i3) eI;have:=KJ (show (0:Rat)<((cuts.getD (i+1) 0:Int):Rat)-u by grind) hd;have m:=Hd h (x:=((cuts.getD (i+1) 0:Int):Rat)) (y:=w) (eV (Rat.not_le.1 hw));grind
theorem yQK (h:VC len cuts dens) (hh:He dens) {u w:Rat} (h0:0≤u) (h1:u≤(len:Rat)) (k0:0≤w) (k1:w≤(len:Rat)) (e:vX cuts dens u=vX cuts dens w):u=w:=by
 by_cases h3:u<w
 ·have:=Ow h hh h0 h3 k1;grind
 ·by_cases h4:w<u
  ·have:=Ow h hh k0 h4 h1;grind
  ·grind
theorem qa (h:VC len cuts dens) (hh:He dens) {u w:Rat} (_:0≤u) (h1:u≤(len:Rat)) (k0:0≤w) (_:w≤(len:Rat)):vX cuts dens u≤vX cuts dens w↔u≤w:=by
 constructor
 ·intro hle;refine tZ.1 fun hlt=>?_
  have:=Ow h hh k0 hlt h1;grind
 ·exact Hd h
theorem yRY {D:Int} (hD:1≤D) {x:Rat} (hx:In D x) (i:Nat):In D (uC cuts i x):=by
 have n1:=qW (dF x (cuts.getD i 0:Int)) (cuts.getD (i+1) 0:Int);have m1:=oS x (cuts.getD i 0:Int);unfold uC;rcases n1.2.2 with e | e
 ·rw [e];rcases m1.2.2 with e2 | e2
  ·rw [e2];exact hx
  ·rw [e2];exact In.int hD _
 ·rw [e];exact In.int hD _
theorem qb {D:Int} (hD:1≤D) {x:Rat} (hx:In D x):∀ (r i:Nat),In D (vu cuts dens x r i)
 | 0,_=>In.int hD 0
 | r+1,i=>by unfold vu;rw [Rat.mul_comm];exact ((yRY hD hx i).mulI _).add (qb hD hx r (i+1))
theorem qc {D:Int} (hD:1≤D) {x:Rat} (hx:In D x):In D (vX cuts dens x):=qb hD hx _ _
theorem qd (h:VC len cuts dens):∀ (r i:Nat),i+r=dens.length→vu cuts dens (len:Rat) r i-vu cuts dens ((cuts.getD i 0:Int):Rat) r i=((rem cuts dens r i:Int):Rat)
 | 0,_,_=>by unfold vu rem;show (0:Rat)-0=0;grind
 | r+1,i,hi=>by
  have ih:=qd h r (i+1) (by omega);have hst:((cuts.getD i 0:Int):Rat)≤((cuts.getD (i+1) 0:Int):Rat):=BQ h (Nat.le_succ i) (by omega);have hl:((cuts.getD (i+1) 0:Int):Rat)≤(len:Rat):=by rw [← h.last];exact BQ h (by omega) (bX _)
  have low:=Hc h r (i+1) (x:=((cuts.getD i 0:Int):Rat)) (y:=((cuts.getD (i+1) 0:Int):Rat)) (by omega) hst eI;have m1:=oS (len:Rat) (cuts.getD i 0:Int);have n1:=qW (dF (len:Rat) (cuts.getD i 0:Int)) (cuts.getD (i+1) 0:Int);have m2:=oS ((cuts.getD i 0:Int):Rat) (cuts.getD i 0:Int);have n2:=qW (dF ((cuts.getD i 0:Int):Rat) (cuts.getD i 0:Int)) (cuts.getD (i+1) 0:Int);have e1:uC cuts i (len:Rat)=((cuts.getD (i+1) 0:Int):Rat):=by unfold uC;grind
  have e2:uC cuts i ((cuts.getD i 0:Int):Rat)=((cuts.getD i 0:Int):Rat):=by unfold uC;grind
  unfold vu rem;rw [e1,e2,low,Cj,kR,Cl,← ih];grind
theorem Xw (h:VC len cuts dens):vX cuts dens (len:Rat)-vX cuts dens 0=((totC cuts dens:Int):Rat):=by have c0:cuts.getD 0 0=0:=h.2.2.2.2.2.1;have:=qd h dens.length 0 (by omega);rw [c0] at this;unfold totC;rw [Xn,show (0:Int)+rem cuts dens dens.length 0=rem cuts dens dens.length 0 by omega];exact this
theorem tQ (h:VC len cuts dens):(1:Rat)≤(len:Rat)∧(len:Rat)≤1000:=by have:=h.len0;exact ⟨iM.2 this.1,iM.2 this.2⟩
theorem BR (h:VC len cuts dens) {i:Nat} (hi:i<dens.length):(0:Rat)≤((dens.getD i 0:Int):Rat)∧((dens.getD i 0:Int):Rat)≤12:=by have:=h.den hi;exact ⟨iM.2 this.1,iM.2 this.2⟩
theorem Xx {x d:Rat} (h0:0≤x) (hd:0≤d∧d≤12):0≤x*d∧x*d≤12*x:=by have a:=AT h0 hd.1;have b:=xZ hd.2 h0;exact ⟨a,by grind⟩
theorem Xy (h:VC len cuts dens) {D:Int} (hD:1≤D∧D≤50000000000000) {b:Rat} (hb:In D b) (b1:b≤(len:Rat)) :
  ∀ (r i:Nat) (p sum:Rat),i+r=dens.length→In D p→In D sum→0≤p→p≤(len:Rat)→0≤sum→sum≤12*p→∃ v,valS cuts dens b r i p sum=.ok v
 | 0,i,p,sum,_,_,_,_,_,_,_=>⟨sum,rfl⟩
 | r+1,i,p,sum,hi,hp,hs,p0,p1,s0,s1=>by
  have l1:=h.l1;have hl:=tQ h;have hd:=BR h (i:=i) (by omega);have hc1:((cuts.getD (i+1) 0:Int):Rat)≤(len:Rat):=by rw [← h.last];exact BQ h (by omega) (bX _)
  unfold valS;have hen:∃ en:Rat,(if b<((cuts.getD (i+1) 0:Int):Rat) then b else ((cuts.getD (i+1) 0:Int):Rat))=en∧In D en∧en≤(len:Rat):=by
   refine ⟨_,rfl,?_,?_⟩
   ·split
    ·exact hb
    ·exact In.int hD.1 _
   ·split<;>grind
  obtain ⟨en,e0,e1,e2⟩:=hen;rw [e0];dsimp only;split
  ·refine Xy h hD hb b1 r (i+1) _ sum (by omega) ?_ hs ?_ ?_ s0 ?_
   ·split
    ·exact e1
    ·exact hp
   ·split<;>grind
   ·split<;>grind
   ·split<;>grind
  ·rename_i hn;have hlt:p<en:=by
    refine Classical.byContradiction fun k=>hn (.inr k)
   have m:=Xx (x:=en-p) (by grind) hd;have i1:=e1.sub hp;have i2:=i1.mulI (dens.getD i 0);have i3:=hs.add i2;rw [xT (i1.small (M:=1000) ⟨by omega,by omega⟩ (by omega) (by show -(1000:Rat)≤_;grind) (by show _≤(1000:Rat);grind)),
    xT (i2.small (M:=12000) ⟨by omega,by omega⟩ (by omega) (by show -(12000:Rat)≤_;grind) (by show _≤(12000:Rat);grind)),
    xT (i3.small (M:=12000) ⟨by omega,by omega⟩ (by omega) (by show -(12000:Rat)≤_;grind) (by show _≤(12000:Rat);grind))]
   exact Xy h hD hb b1 r (i+1) en _ (by omega) e1 i3 (by grind) e2 (by grind) (by grind)
theorem yLA (h:VC len cuts dens) {D:Int} (hD:1≤D∧D≤50000000000000) {a b:Rat} (ha:In D a) (hb:In D b) (a0:0≤a) (hab:a≤b) (b1:b≤(len:Rat)):Ay cuts dens a b=.ok (vX cuts dens b-vX cuts dens a):=by obtain ⟨v,e⟩:=Xy h hD hb b1 dens.length 0 a 0 (by omega) ha (In.int hD.1 0) a0 (by grind) (by grind) (by grind);have e:Ay cuts dens a b=.ok v:=e;rw [e,yO0 h a0 hab e]
end
set_option maxRecDepth 100000
def UL (E:Env) (callK:CK) (lp:LP) (b:TC):Nat→aF→Hp→(Ex→aF→Hp→Prop)→Prop
 | 0,_,_,_=>False
 | n+1,F,H,Q=>WC E callK lp [] dB b F H fun x F' H'=>match x with | .norm=>UL E callK lp b n F' H' Q | .exit i=>Q (.exit i) F' H' | .ret=>Q .ret F' H' | .brk k i=>Q (.brk k i) F' H'
theorem Xz {E:Env} {P:EP} {id:Nat} {callK:CK} {lp:LP} {b:TC} (hP:aM P E) (hG:Good P callK) (hf:gE b=true) (hl:LpOk P E lp [] b) {n:Nat} {F:aF} {H:Hp} {Q:Ex→aF→Hp→Prop} (h:UL E callK lp b n F H Q):bV P (.loop id b) F H Q:=
 bV.intro hP hG hf (cS.no _ _) hl (fun n F H=>UL E callK lp b n F H Q) (fun _ _ h=>h) (fun _ _ _ h=>h) n F H h
section
variable (e:Es) (fa fb fe:PV→PV→Int)
def WG (c p:PV):Prop:=Ans (E e) uY [c,p] (.tup [.agg [.int .i64 (fa c p),.int .i64 (fb c p)],.int .i64 (fe c p)])
def Kq (az:List PV) (K:PV→Prop):Prop:=
 match az with
 | [c,p]=>WG e fa fb fe c p∧K (.tup [.agg [.int .i64 (fa c p),.int .i64 (fb c p)],.int .i64 (fe c p)])
 | _=>False
def XA (az:List PV) (K:PV→Prop):Prop:=Ans (E e) CV az (.int .i64 0)∧K (.int .i64 0)
def Hf:SE:=⟨E e,ye7 [(CV,XA e),(uY,Kq e fa fb fe)],yeh [],fun _ _ _ _ _=>False,fun _=>none⟩
def Kr:LP:=fun id _ F H Q=>bif Nat.beq id 14283600 then UL (E e) (jO (Hf e fa fb fe) 1) (fun _ _ _ _ _=>False) Jm 8 F H Q else False
def XB:LP:=fun id _ F H Q=>bif Nat.beq id 14283600 then UL (E e) (jO (Hf e fa fb fe) 1) (fun _ _ _ _ _=>False) Jm 8 F H Q else
 bif Nat.beq id 14283601 then UL (E e) (jO (Hf e fa fb fe) 1) (Kr e fa fb fe) ST 8 F H Q else False
def DO (K:Option PV→Prop):List (PV×PV)→Prop→Prop
 | [],fin=>fin
 | q::r,fin=>WG e fa fb fe q.1 q.2∧aB (fe q.1 q.2 !=0) (K (some (.tup [.data [],.int .i64 (fe q.1 q.2)]))) (DO K r fin)
def Ox (cs:List Ck) (ps:List (List PV)):List (PV×PV):=cs.flatMap fun c=>ps.map fun p=>(fT c,.data p)
def Ks (cs:List Ck) (ps:List (List PV)):List PV:=cs.map fun c=>.data (ps.map fun p=>.agg [.int .i64 (fa (fT c) (.data p)),.int .i64 (fb (fT c) (.data p))])
def iI (ps:List (List PV)):List PV:=ps.map fun p=>.data p
def nD (cs:List Ck) (ps:List (List PV)) (K:Option PV→Prop):Prop:=
 Io (E e) (jO (Hf e fa fb fe) 1) (XB e fa fb fe) Da [.data (cks cs),.agg [.data (iI ps)]] [] fun r H=>K (kA true H r)
def pT (cs:List Ck) (ps:List (List PV)) (K:Option PV→Prop):Prop:=
 Ans (E e) CV [.data (cks cs),.agg [.data (iI ps)]] (.int .i64 0)∧DO e fa fb fe K (Ox cs ps) (K (some (.tup [.data (Ks fa fb cs ps),.int .i64 0])))
theorem yRZ (c0:Ck) (p0:List PV) (K:Option PV→Prop):nD e fa fb fe [c0] [p0] K=pT e fa fb fe [c0] [p0] K:=by kernel_rfl
theorem yR0 (c0 c1:Ck) (p0 p1:List PV) (K:Option PV→Prop):nD e fa fb fe [c0,c1] [p0,p1] K=pT e fa fb fe [c0,c1] [p0,p1] K:=by kernel_rfl
theorem yR1 (c0 c1 c2:Ck) (p0 p1 p2:List PV) (K:Option PV→Prop):nD e fa fb fe [c0,c1,c2] [p0,p1,p2] K=pT e fa fb fe [c0,c1,c2] [p0,p1,p2] K:=by kernel_rfl
theorem yR2 (c0 c1 c2 c3:Ck) (p0 p1 p2 p3:List PV) (K:Option PV→Prop):nD e fa fb fe [c0,c1,c2,c3] [p0,p1,p2,p3] K=pT e fa fb fe [c0,c1,c2,c3] [p0,p1,p2,p3] K:=by kernel_rfl
theorem yR3 (c0 c1 c2 c3 c4:Ck) (p0 p1 p2 p3 p4:List PV) (K:Option PV→Prop):nD e fa fb fe [c0,c1,c2,c3,c4] [p0,p1,p2,p3,p4] K=pT e fa fb fe [c0,c1,c2,c3,c4] [p0,p1,p2,p3,p4] K:=by kernel_rfl
theorem yR4 (c0 c1 c2 c3 c4 c5:Ck) (p0 p1 p2 p3 p4 p5:List PV) (K:Option PV→Prop):nD e fa fb fe [c0,c1,c2,c3,c4,c5] [p0,p1,p2,p3,p4,p5] K=pT e fa fb fe [c0,c1,c2,c3,c4,c5] [p0,p1,p2,p3,p4,p5] K:=by kernel_rfl
theorem qe (he:EG e):SEOk (aZ (E e)) (Hf e fa fb fe):=
 bF (aM.uni _) ⟨fun _ _ h=>⟨_,h.2,h.1⟩,fun az K h=>by
  unfold Kq at h;split at h
  ·exact ⟨_,h.2,h.1⟩
  ·exact h.elim,trivial⟩ trivial he.ok
theorem yQL (he:EG e):LpOk (aZ (E e)) (E e) (XB e fa fb fe) [] Da.body:=by have hG:=cY (qe e fa fb fe he) 1;have h0:LpOk (aZ (E e)) (E e) (fun _ _ _ _ _=>False) [] Jm:=aR (by kernel_rfl);have h1:LpOk (aZ (E e)) (E e) (Kr e fa fb fe) [] ST:=dI (l:=[(14283600,.loop 14283600 Jm)]) ⟨fun F H Q h=>Xz (aM.uni _) hG (by kernel_rfl) h0 h,trivial⟩ (by kernel_rfl);exact dI (l:=[(14283600,.loop 14283600 Jm),(14283601,.loop 14283601 ST)]) ⟨fun F H Q h=>Xz (aM.uni _) hG (by kernel_rfl) h0 h,fun F H Q h=>Xz (aM.uni _) hG (by kernel_rfl) h1 h,trivial⟩ (by kernel_rfl)
theorem yLB (he:EG e) {cs:List Ck} {ps:List (List PV)} {K:PV→Prop} (h:nD e fa fb fe cs ps fun o=>∃ q,o=some q∧K q):∃ q,K q∧Ans (E e) nU [.data (cks cs),.agg [.data (iI ps)]] q:=by
 have hf:(E e).fns nU=some Da.fn:=by kernel_rfl
 have hx:∀ az H,(E e).eff nU az H=none:=he.num _ (by kernel_rfl);obtain ⟨r,H',⟨q,hp,hk⟩,m0,hm⟩:=LU (S:=⟨E e,fun _=>none,fun _=>none,XB e fa fb fe,fun _=>none⟩) (callK:=jO (Hf e fa fb fe) 1) (aM.uni _) (cY (qe e fa fb fe he) 1) (fn:=Da) bE.flat (yQL e fa fb fe he) (n:=nU) hf hx h;refine ⟨q,hk,m0,fun k x m hk1 hk2 hle=>?_⟩;obtain ⟨_,l2,l3,_,_,l6,_⟩:=xA hk2;have hs:(E e).sum nU [.data (cks cs),.agg [.data (iI ps)]]=none:=dC (by kernel_rfl) _;have hq:(E e).qui nU=true:=by kernel_rfl
 have hn:(E e).nl nU=true:=by kernel_rfl
 have hm':yaD x m nU [.data (cks cs),.agg [.data (iI ps)]] []=some (r,H'):=hm k x m hk1 hk2 hle;unfold ybu;rw [l2,hs,l3,hq,hm',l6,hn];exact hp
end
theorem eY {α:Type} {l:List α} {n:Nat} (h:l.length=n+1):∃ a r,l=a::r∧r.length=n:=by
 cases l with
 | nil=>cases h
 | cons a r=>exact ⟨a,r,rfl,by simpa using h⟩
theorem yNq (e:Es) (fa fb fe:PV→PV→Int) {cs:List Ck} {ps:List (List PV)} (hl:ps.length=cs.length) (h1:1≤cs.length) (h6:cs.length≤6) (K:Option PV→Prop):nD e fa fb fe cs ps K=pT e fa fb fe cs ps K:=by
 obtain ⟨n,hn⟩:∃ n,cs.length=n:=⟨_,rfl⟩;rw [hn] at hl h1 h6;obtain rfl | rfl | rfl | rfl | rfl | rfl:n=1∨n=2∨n=3∨n=4∨n=5∨n=6:=by omega
 ·obtain ⟨c0,cr0,hc0,hn0⟩:=eY hn;subst hc0;have hzc:=lU hn0;subst hzc;obtain ⟨p0,pr0,hp0,hl0⟩:=eY hl;subst hp0;have hzp:=lU hl0;subst hzp;exact yRZ e fa fb fe c0 p0 K
 ·obtain ⟨c0,cr0,hc0,hn0⟩:=eY hn;subst hc0;obtain ⟨c1,cr1,hc1,hn1⟩:=eY hn0;subst hc1;have hzc:=lU hn1;subst hzc;obtain ⟨p0,pr0,hp0,hl0⟩:=eY hl;subst hp0;obtain ⟨p1,pr1,hp1,hl1⟩:=eY hl0;subst hp1;have hzp:=lU hl1;subst hzp;exact yR0 e fa fb fe c0 c1 p0 p1 K
 ·obtain ⟨c0,cr0,hc0,hn0⟩:=eY hn;subst hc0;obtain ⟨c1,cr1,hc1,hn1⟩:=eY hn0;subst hc1;obtain ⟨c2,cr2,hc2,hn2⟩:=eY hn1;subst hc2;have hzc:=lU hn2;subst hzc;obtain ⟨p0,pr0,hp0,hl0⟩:=eY hl;subst hp0;obtain ⟨p1,pr1,hp1,hl1⟩:=eY hl0;subst hp1;obtain ⟨p2,pr2,hp2,hl2⟩:=eY hl1;subst hp2;have hzp:=lU hl2;subst hzp;exact yR1 e fa fb fe c0 c1 c2 p0 p1 p2 K
 ·obtain ⟨c0,cr0,hc0,hn0⟩:=eY hn;subst hc0;obtain ⟨c1,cr1,hc1,hn1⟩:=eY hn0;subst hc1;obtain ⟨c2,cr2,hc2,hn2⟩:=eY hn1;subst hc2;obtain ⟨c3,cr3,hc3,hn3⟩:=eY hn2;subst hc3;have hzc:=lU hn3;subst hzc;obtain ⟨p0,pr0,hp0,hl0⟩:=eY hl;subst hp0;obtain ⟨p1,pr1,hp1,hl1⟩:=eY hl0;subst hp1;obtain ⟨p2,pr2,hp2,hl2⟩:=eY hl1;subst hp2;obtain ⟨p3,pr3,hp3,hl3⟩:=eY hl2;subst hp3;have hzp:=lU hl3;subst hzp;exact yR2 e fa fb fe c0 c1 c2 c3 p0 p1 p2 p3 K
 ·obtain ⟨c0,cr0,hc0,hn0⟩:=eY hn;subst hc0;obtain ⟨c1,cr1,hc1,hn1⟩:=eY hn0;subst hc1;obtain ⟨c2,cr2,hc2,hn2⟩:=eY hn1;subst hc2;obtain ⟨c3,cr3,hc3,hn3⟩:=eY hn2;subst hc3;obtain ⟨c4,cr4,hc4,hn4⟩:=eY hn3;subst hc4;have hzc:=lU hn4;subst hzc;obtain ⟨p0,pr0,hp0,hl0⟩:=eY hl;subst hp0;obtain ⟨p1,pr1,hp1,hl1⟩:=eY hl0;subst hp1;obtain ⟨p2,pr2,hp2,hl2⟩:=eY hl1;subst hp2;obtain ⟨p3,pr3,hp3,hl3⟩:=eY hl2;subst hp3;obtain ⟨p4,pr4,hp4,hl4⟩:=eY hl3;subst hp4;have hzp:=lU hl4;subst hzp;exact yR3 e fa fb fe c0 c1 c2 c3 c4 p0 p1 p2 p3 p4 K
 ·obtain ⟨c0,cr0,hc0,hn0⟩:=eY hn;subst hc0;obtain ⟨c1,cr1,hc1,hn1⟩:=eY hn0;subst hc1;obtain ⟨c2,cr2,hc2,hn2⟩:=eY hn1;subst hc2;obtain ⟨c3,cr3,hc3,hn3⟩:=eY hn2;subst hc3;obtain ⟨c4,cr4,hc4,hn4⟩:=eY hn3;subst hc4;obtain ⟨c5,cr5,hc5,hn5⟩:=eY hn4;subst hc5;have hzc:=lU hn5;subst hzc;obtain ⟨p0,pr0,hp0,hl0⟩:=eY hl;subst hp0;obtain ⟨p1,pr1,hp1,hl1⟩:=eY hl0;subst hp1;obtain ⟨p2,pr2,hp2,hl2⟩:=eY hl1;subst hp2;obtain ⟨p3,pr3,hp3,hl3⟩:=eY hl2;subst hp3;obtain ⟨p4,pr4,hp4,hl4⟩:=eY hl3;subst hp4;obtain ⟨p5,pr5,hp5,hl5⟩:=eY hl4;subst hp5;have hzp:=lU hl5;subst hzp;exact yR4 e fa fb fe c0 c1 c2 c3 c4 c5 p0 p1 p2 p3 p4 p5 K
def vU (t:Int×Int×Int):PV:=.tup [.agg [.int .i64 t.1,.int .i64 t.2.1],.int .i64 t.2.2]
open Classical in
noncomputable def BS (e:Es) (c p:PV):Int×Int×Int:=if h:∃ t,Ans (E e) uY [c,p] (vU t) then Classical.choose h else (0,0,0)
theorem Oy {e:Es} {c p:PV} {t:Int×Int×Int} (h:Ans (E e) uY [c,p] (vU t)):BS e c p=t:=by
 have hx:∃ t,Ans (E e) uY [c,p] (vU t):=⟨t,h⟩;unfold BS;rw [dif_pos hx];have h2:=Ans.unique (Classical.choose_spec hx) h;generalize Classical.choose hx=u at h2;obtain ⟨a,b,c⟩:=u;obtain ⟨a',b',c'⟩:=t;unfold vU at h2
 cases h2
 rfl
theorem yR5 {e:Es} {c p:PV} {t:Int×Int×Int} (h:Ans (E e) uY [c,p] (vU t)):WG e (fun c p=>(BS e c p).1) (fun c p=>(BS e c p).2.1) (fun c p=>(BS e c p).2.2) c p:=by unfold WG;have:=Oy h;dsimp only;rw [this];exact h
theorem qf {e:Es} {fa fb fe:PV→PV→Int} {K:Option PV→Prop} {fin:Prop}:∀ {l:List (PV×PV)},(∀ q∈l,WG e fa fb fe q.1 q.2)→((∀ q∈l,fe q.1 q.2=0)→fin)→(∀ q∈l,fe q.1 q.2≠0→K (some (.tup [.data [],.int .i64 (fe q.1 q.2)])))→DO e fa fb fe K l fin
 | [],_,h,_=>h fun q hq=>by cases hq
 | q::r,hg,h,hk=>by
  refine ⟨hg q eU,?_⟩
  by_cases h0:fe q.1 q.2=0
  ·rw [h0];refine qf (fun x hx=>hg x (eF _ hx)) (fun hr=>h fun x hx=>?_) fun x hx=>hk x (eF _ hx)
   rcases qAn.1 hx with rfl|hx
   ·exact h0
   ·exact hr x hx
  ·have e1:(fe q.1 q.2 !=0)=true:=by simpa using h0
   rw [e1];exact hk q eU h0
theorem yQM {e:Es} (he:EG e) {c:Ck} {p:List PV} {t:Int×Int×Int} (h:∀ K:Int→Int→Int→Prop,ybK c.len (aA c.cuts) (aA c.dens) p K=K t.1 t.2.1 t.2.2):Ans (E e) uY [fT c,.data p] (vU t):=by
 have hw:dc [fT c,.data p] (fun q=>q=vU t):=by
  have e0:dc [fT c,.data p] (fun q=>q=vU t)=ybK c.len (aA c.cuts) (aA c.dens) p (fun r0 r1 r2=>PV.tup [.agg [.int .i64 r0,.int .i64 r1],.int .i64 r2]=vU t):=by kernel_rfl
  rw [e0,h];rfl
 obtain ⟨q,hq,ha⟩:=dh e he [fT c,.data p] (fun q=>q=vU t) hw;rw [hq] at ha;exact ha
theorem yNr {cs:List Ck} {ps:List (List PV)} (hl:ps.length=cs.length) (h1:1≤cs.length) (h6:cs.length≤6) (hc:∀ K,ydh (cks cs) (iI ps) K=K 0) {F:Ck→List PV→Int×Int×Int}
  (hW:∀ c∈cs,∀ p∈ps,∀ K,ybK c.len (aA c.cuts) (aA c.dens) p K=K (F c p).1 (F c p).2.1 (F c p).2.2) {r0:List PV} {r1:Int}
  (h0:(∀ c∈cs,∀ p∈ps,(F c p).2.2=0)→r0=cs.map (fun c=>.data (ps.map fun p=>.agg [.int .i64 (F c p).1,.int .i64 (F c p).2.1]))∧r1=0)
  (hx:∀ c∈cs,∀ p∈ps,(F c p).2.2≠0→r0=[]∧r1=(F c p).2.2) (K:List PV→Int→Prop):yaP (cks cs) (iI ps) K=K r0 r1:=by
 refine yzz _ _ _ _ (fun K k=>?_) K;refine ⟨r0,r1,k,fun e he=>?_⟩;have hA:∀ c∈cs,∀ p∈ps,Ans (E e) uY [fT c,.data p] (vU (F c p)):=fun c hc p hp=>yQM he (hW c hc p hp)
 have hq:∀ q∈Ox cs ps,∃ c∈cs,∃ p∈ps,q=(fT c,PV.data p):=fun q hq=>by
  unfold Ox at hq;obtain ⟨c,hc,hq⟩:=List.mem_flatMap.1 hq;obtain ⟨p,hp,rfl⟩:=oI.1 hq;exact ⟨c,hc,p,hp,rfl⟩
 have hck:Ans (E e) CV [.data (cks cs),.agg [.data (iI ps)]] (.int .i64 0):=by
  have hw:gm [.data (cks cs),.agg [.data (iI ps)]] (fun q=>q=.int .i64 0):=by
   have e0:gm [.data (cks cs),.agg [.data (iI ps)]] (fun q=>q=.int .i64 0)=ydh (cks cs) (iI ps) (fun r0=>PV.int .i64 r0=.int .i64 0):=by kernel_rfl
   rw [e0,hc]
  obtain ⟨q,hq,ha⟩:=gr e he [.data (cks cs),.agg [.data (iI ps)]] (fun q=>q=.int .i64 0) hw;rw [hq] at ha;exact ha
 have hrun:nD e (fun c p=>(BS e c p).1) (fun c p=>(BS e c p).2.1) (fun c p=>(BS e c p).2.2) cs ps fun o=>∃ q,o=some q∧q=.tup [.data r0,.int .i64 r1]:=by
  rw [yNq _ _ _ _ hl h1 h6];refine ⟨hck,qf (fun q hq'=>?_) (fun hz=>?_) fun q hq' hn=>?_⟩
  ·obtain ⟨c,hc,p,hp,rfl⟩:=hq q hq';exact yR5 (hA c hc p hp)
  ·have hz':∀ c∈cs,∀ p∈ps,(F c p).2.2=0:=fun c hc p hp=>by
    have:=hz (fT c,.data p) (List.mem_flatMap.2 ⟨c,hc,oI.2 ⟨p,hp,rfl⟩⟩);dsimp only at this;rw [Oy (hA c hc p hp)] at this;exact this
   obtain ⟨e1,e2⟩:=h0 hz';refine ⟨_,rfl,?_⟩;rw [e1,e2];unfold Ks;congr 3;refine Cc fun c hc=>?_
   congr 1;refine Cc fun p hp=>?_
   dsimp only;rw [Oy (hA c hc p hp)]
  ·obtain ⟨c,hc,p,hp,rfl⟩:=hq q hq';dsimp only at hn ⊢;rw [Oy (hA c hc p hp)] at hn ⊢;obtain ⟨e1,e2⟩:=hx c hc p hp hn;exact ⟨_,rfl,by rw [e1,e2]⟩
 obtain ⟨q,hq',ha⟩:=yLB e _ _ _ he hrun;rw [hq'] at ha;exact ha
end Go.Pf.Vc
namespace Go.Pf.Vc
def BT (a b:List RS):Bool:=a.any fun s=>b.any fun t=>decide (s.1<t.2)&&decide (t.1<s.2)
theorem yI6 {a b:List RS} (ha:∀ s∈a,s.1<s.2) (hb:∀ s∈b,s.1<s.2):BT a b=true↔∃ p,memP a p∧memP b p:=by
 unfold BT;simp only [List.any_eq_true,bO,decide_eq_true_eq];constructor
 ·rintro ⟨s,hs,t,ht,h1,h2⟩;have k1:=ha s hs;have k2:=hb t ht
  by_cases h:s.1<t.1
  ·exact ⟨t.1,⟨s,hs,by grind,h2⟩,⟨t,ht,eI,k2⟩⟩
  ·exact ⟨s.1,⟨s,hs,eI,k1⟩,⟨t,ht,by grind,h1⟩⟩
 ·rintro ⟨p,⟨s,hs,h1,h2⟩,⟨t,ht,h3,h4⟩⟩;exact ⟨s,hs,t,ht,by grind,by grind⟩
def pU (len:Rat):List RS→Rat→Bool
 | [],at_=>decide (at_<len)
 | s::r,at_=>if at_<s.1 then true else pU len r (if at_<s.2 then s.2 else at_)
theorem qg {len:Rat}:∀ (l:List RS) (at_:Rat),Kn l→(∀ s∈l,s.1<s.2)→(∀ s∈l,s.2≤len)→(pU len l at_=true↔∃ p,at_≤p∧p<len∧¬memP l p)
 | [],at_,_,_,_=>by unfold pU;rw [decide_eq_true_eq];exact ⟨fun h=>⟨at_,eI,h,yNb⟩,fun ⟨p,h1,h2,_⟩=>by grind⟩
 | s::r,at_,hs,hv,hl=>by
  unfold pU;have s1:=hv s eU;have s2:=hl s eU
  by_cases h:at_<s.1
  ·rw [YQ h];refine ⟨fun _=>⟨at_,eI,by grind,fun hm=>?_⟩,fun _=>rfl⟩;rcases yrv.1 hm with hm | ⟨t,ht,hm,_⟩
   ·have:=hm.1;grind
   ·have:=hs.1 t ht;grind
  ·rw [YR h,qg r _ hs.2 (fun t ht=>hv t (eF _ ht)) (fun t ht=>hl t (eF _ ht))];constructor
   ·rintro ⟨p,h1,h2,h3⟩;have h1':at_≤p∧s.2≤p:=by split at h1<;>exact ⟨by grind,by grind⟩
    refine ⟨p,h1'.1,h2,fun hm=>?_⟩;rcases yrv.1 hm with hm | hm
    ·have:=hm.2;grind
    ·exact h3 hm
   ·rintro ⟨p,h1,h2,h3⟩;refine ⟨p,?_,h2,fun hm=>h3 (yrv.2 (.inr hm))⟩;have hn:¬Xo s p:=fun hm=>h3 (yrv.2 (.inl hm))
    have:s.2≤p:=tZ.1 fun hlt=>hn ⟨by grind,hlt⟩
    split<;>assumption
end Go.Pf.Vc
namespace Go.Pf.Vc
open Go Go.Pf
theorem BU {q r:Rat} (hq:small q) (hr:small r) (K:Bool→Prop):cQ q.num q.den r.num r.den K=K (decide (q<r)):=by unfold cQ VD;rw [Kg hq hr,ow]
theorem BV (n:Int) (K:Int→Int→Prop):gX n K=K (n:Rat).num (n:Rat).den:=rfl
def meets (s t:RS):Bool:=decide (s.1<t.2)&&decide (t.1<s.2)
theorem yHu {s:RS} (h:nC s) {B:List RS} (hs:∀ t∈B,nC t) (hl:B.length<4611686018427387904) {x0:Int→Int→Int→Int→List PV→Int→Int→Bool→Prop} {x1:Int→Int→Int→Int→Int→Prop} {K:Bool→Prop}
  (hx0:∀ a b c d l i k q,x0 a b c d l i k q=K false) (hx1:∀ a b c d i,0≤i→x1 a b c d i=K true) :
  ∀ (r i n:Nat),i+r=B.length→r<n→Gv cQ x0 x1 n s.1.num s.1.den s.2.num s.2.den (cW B) (B.length:Int) (i:Int)=K ((B.drop i).any (meets s)):=by
 intro r;induction r with
 | zero=>
  intro i n hi hn;obtain ⟨n,rfl⟩:∃ m,n=m+1:=⟨n-1,by omega⟩;obtain rfl:i=B.length:=by omega
  rw [Gv,bG (by omega),List.drop_length,hx0];rfl
 | succ r ih=>
  intro i n hi hn;obtain ⟨n,rfl⟩:∃ m,n=m+1:=⟨n-1,by omega⟩;have hil:i<B.length:=by omega
  have e1:=cL (n:=(i:Int)+1) (by omega) (by omega);have hd:B.drop i=B.getD i default::B.drop (i+1):=mZ default hil;have hx:=Xs hs hil;rw [Gv,bS (by omega)];dsimp only [lt,Go.Pf.jn];rw [lI,aI (by omega),aI (by omega),cH,BN hil,BO,GZ,Oo,Ha,Hb,BU h.1 hx.2,e1,dN,hd,List.any_cons];unfold meets
  cases decide (s.1<(B.getD i default).2) with
  | false =>rw [aU,aU,kU,tX];exact ih (i+1) n (by omega) (by omega)
  | true=>
   rw [aX,jK,BU hx.1 h.2]
   cases decide ((B.getD i default).1<s.2) with
   | false =>rw [aU,tX];exact ih (i+1) n (by omega) (by omega)
   | true =>rw [aX,hx1 _ _ _ _ _ (by omega)];rfl
theorem yLC {s:RS} (h:nC s) {B:List RS} (hs:∀ t∈B,nC t) (hl:B.length<4611686018427387904) (K:Bool→Prop):xO s.1.num s.1.den s.2.num s.2.den (cW B) K=K (B.any (meets s)):=by refine yv5 _ _ _ _ _ _ (fun K k=>?_) K;unfold xO VI;dsimp only [Go.Pf.jn];refine ⟨B.length+1,?_⟩;rw [lI];exact (yHu h hs hl (K:=K) (fun _ _ _ _ _ _ _ _=>rfl) (fun _ _ _ _ i hi=>by rw [Ef hi]) B.length 0 (B.length+1) (by omega) (by omega)).mpr (by rw [kT];exact k)
theorem yI7 {A B:List RS} (ha:∀ s∈A,nC s) (hb:∀ t∈B,nC t) (hla:A.length<4611686018427387904) (hlb:B.length<4611686018427387904) {x0:List PV→List PV→Int→Int→Bool→Prop} {x1:List PV→Int→Prop} {K:Bool→Prop}
  (hx0:∀ l m i k q,x0 l m i k q=K false) (hx1:∀ l i,0≤i→x1 l i=K true) :
  ∀ (r i n:Nat),i+r=A.length→r<n→Gw xO x0 x1 n (cW B) (cW A) (A.length:Int) (i:Int)=K (BT (A.drop i) B):=by
 intro r;induction r with
 | zero=>
  intro i n hi hn;obtain ⟨n,rfl⟩:∃ m,n=m+1:=⟨n-1,by omega⟩;obtain rfl:i=A.length:=by omega
  rw [Gw,bG (by omega),List.drop_length,hx0];rfl
 | succ r ih=>
  intro i n hi hn;obtain ⟨n,rfl⟩:∃ m,n=m+1:=⟨n-1,by omega⟩;have hil:i<A.length:=by omega
  have e1:=cL (n:=(i:Int)+1) (by omega) (by omega);have hd:A.drop i=A.getD i default::A.drop (i+1):=mZ default hil;have hx:=Xs ha hil;rw [Gw,bS (by omega)];dsimp only [lt,Go.Pf.jn];rw [lI,aI (by omega),aI (by omega),cH,BN hil,BO,GZ,Oo,Ha,Hb,yLC hx hb hlb,e1,dN,hd];have e:BT (A.getD i default::A.drop (i+1)) B=(B.any (meets (A.getD i default))||BT (A.drop (i+1)) B):=rfl;rw [e]
  cases B.any (meets (A.getD i default)) with
  | false =>rw [aU,tX];exact ih (i+1) n (by omega) (by omega)
  | true =>rw [aX,hx1 _ _ (by omega)];rfl
theorem yNs {A B:List RS} (ha:∀ s∈A,nC s) (hb:∀ t∈B,nC t) (hla:A.length<4611686018427387904) (hlb:B.length<4611686018427387904) (K:Bool→Prop):dP (cW A) (cW B) K=K (BT A B):=by refine yzA _ _ _ (fun K k=>?_) K;unfold dP VL;dsimp only [Go.Pf.jn];refine ⟨A.length+1,?_⟩;rw [lI];exact (yI7 ha hb hla hlb (K:=K) (fun _ _ _ _ _=>rfl) (fun _ i hi=>by rw [Ef hi]) A.length 0 (A.length+1) (by omega) (by omega)).mpr (by rw [kT];exact k)
section
variable {cs:List Ck} {ps:List (List Sp)}
theorem oV {α:Type} {l:List α} {i:Nat} (d:α) (h:i<l.length):l.getD i d∈l:=by rw [cN,bY h];exact kQ h
end
structure DV (cs:List Ck) (A:List (List RS)):Prop where
 d:DK cs
 l:A.length=cs.length
 p:∀ a∈A,Pc a
 m:∀ a∈A,a.length≤20
 w:∀ a∈A,Xt (cs.getD 0 default).len a=true
theorem iZ (l:List PV):bQ (PV.data l)=l:=rfl
def aD (A:List (List RS)):List PV:=A.map fun a=>.data (cW a)
theorem oW (A:List (List RS)):(aD A).length=A.length:=dS ..
theorem Az {A:List (List RS)} {i:Nat} (h:i<A.length):getD (aD A) i .nils=.data (cW (A.getD i [])):=by unfold aD;rw [cN,cN,lK,bY h];rfl
section
variable {cs:List Ck} {ps:List (List Sp)} {A:List (List RS)}
theorem DV.len0 (h:DV cs A):1≤(cs.getD 0 default).len∧(cs.getD 0 default).len≤1000:=(h.d.ok 0 (by have:=h.d.n0;omega)).len0
theorem DV.wi (h:DV cs A):∀ a∈A,Wi (cs.getD 0 default).len a:=fun a ha=>yNk (h.w a ha)
theorem qh (h:DV cs A) {WA WW WL} {x0:List PV→List PV→List PV→Int→Int→Bool→Prop} {x1:Int→Prop} :
  ∀ (r i n:Nat),i+r=A.length→r<n→Gu WA ya3 WW WL x0 x1 n (cks cs) (aD A) (aD A) (A.length:Int) (i:Int)=x0 (cks cs) (aD A) (aD A) (A.length:Int) (A.length:Int) false
 | 0,i,n+1,hi,hn=>by rw [Gu,bG (by omega),show (i:Int)=A.length by omega]
 | r+1,i,n+1,hi,hn=>by have h6:=h.d.n6;have hl:=h.l;have e1:=cL (n:=(i:Int)+1) (by omega) (by omega);have hm:=oV [] (show i<A.length by omega);rw [Gu];dsimp only [lt,Go.Pf.jn];rw [bS (by omega),oW,aI (by omega),aI (by omega),cH,Az (by omega),oE];show ya3 (cW (A.getD i [])) _=_;rw [(h.p _ hm).check,e1,dN];show aB false _ _=_;rw [aU];exact qh h r (i+1) n (by omega) (by omega)
theorem qi (h:DV cs A) {WA WC} {x0:List PV→List PV→Int→Int→Bool→Prop} {x1:Int→Prop} :
  ∀ (r i n:Nat),i+r=A.length→r<n→ycJ WA WC gX cQ x0 x1 n (cks cs) (aD A) (A.length:Int) (i:Int)=x0 (cks cs) (aD A) (A.length:Int) (A.length:Int) false
 | 0,i,n+1,hi,hn=>by rw [ycJ,bG (by omega),show (i:Int)=A.length by omega]
 | r+1,i,n+1,hi,hn=>by
  have h6:=h.d.n6;have hl:=h.l;have h1:=h.d.n0;have l0:=h.len0;have e1:=cL (n:=(i:Int)+1) (by omega) (by omega);have hm:=oV [] (show i<A.length by omega);have p:=h.p _ hm;have hw:=h.wi _ hm;have pn:=p.n;have ih:=qi h (WA:=WA) (WC:=WC) (x0:=x0) (x1:=x1) r (i+1) n (by omega) (by omega);rw [ycJ];dsimp only [lt,Go.Pf.jn];rw [bS (by omega),oW,aI (by omega),aI (by omega),cH,Az (by omega),oE,iZ];generalize A.getD i []=a at p hw pn;rw [lI,e1,dN]
  by_cases ha:a.length=0
  ·rw [bG (by omega),aU];exact ih
  ·have h0:0<a.length:=by omega
   have m0:=oV (default:RS) h0;have m1:=oV (default:RS) (show a.length-1<a.length by omega);have w0:=hw _ m0;have w1:=hw _ m1;have s1:=p.s _ m1;have n0:0≤(a.getD 0 default).1.num:=Rat.num_nonneg.2 w0.1;have e2:=cL (n:=(a.length:Int)-1) (by omega) (by omega);have et:((a.length:Int)-1).toNat=a.length-1:=by omega
   have sl:small ((cs.getD 0 default).len:Rat):=rV (by omega);rw [bS (by omega),aI (by omega),BN h0,BO,GZ,bG (by omega),dW,aI (by omega),lR (by omega),dE,mQ,BV,e2,aI (by omega),aI (by omega),et,BN (by omega),BO,Ha,Hb,BU sl s1.2,bG (by grind)];exact ih
theorem yO2 (h:DV cs A) (K:Int→Prop):ydh (cks cs) (aD A) K=K 0:=by have h6:=h.d.n6;have hl:=h.l;refine yzy _ _ _ (fun K k=>?_) K;unfold ydh VE;rw [nw h.d.fin (by omega)];show aB (qV cs 0 !=0) _ _;rw [cV (h.d.err (by omega)),oW,dW,cV (by omega)];refine ⟨A.length+1,(qh h A.length 0 (A.length+1) (by omega) (by omega)).mpr ?_⟩;show ∃ n,ycJ _ _ _ _ _ _ n (cks cs) (aD A) (((aD A).length:Nat):Int) 0;rw [oW];exact ⟨A.length+1,(qi h A.length 0 (A.length+1) (by omega) (by omega)).mpr k⟩
end
def wV (c:Ck) (a:List RS):Rat:=kL (dV (vX c.cuts c.dens)) a
def aO (cs:List Ck) (A:List (List RS)):List PV:=cs.map fun c=>.data (cO (A.map (wV c)))
open Classical in
noncomputable def fW (c:Ck) (p:List PV):Int×Int×Int:=if h:∃ t:Int×Int×Int,∀ K:Int→Int→Int→Prop,ybK c.len (aA c.cuts) (aA c.dens) p K=K t.1 t.2.1 t.2.2 then Classical.choose h else (0,0,0)
theorem yR6 {c:Ck} {p:List PV} {t:Int×Int×Int} (h:∀ K:Int→Int→Int→Prop,ybK c.len (aA c.cuts) (aA c.dens) p K=K t.1 t.2.1 t.2.2):fW c p=t:=by have hx:∃ t:Int×Int×Int,∀ K:Int→Int→Int→Prop,ybK c.len (aA c.cuts) (aA c.dens) p K=K t.1 t.2.1 t.2.2:=⟨t,h⟩;unfold fW;rw [dif_pos hx];have h2:=Classical.choose_spec hx (fun a b c=>(a,b,c)=t);rw [h] at h2;exact h2.mp rfl
theorem XC {α:Type} {l:List α} {x:α} (d:α) (h:x∈l):∃ i,i<l.length∧l.getD i d=x:=by obtain ⟨i,hi,e⟩:=HC h;exact ⟨i,hi,by rw [cN,bY hi];exact e⟩
section
variable {cs:List Ck} {A:List (List RS)}
theorem DK.mem (h:DK cs) {c:Ck} (hc:c∈cs):c.ok∧c.len=(cs.getD 0 default).len:=by obtain ⟨i,hi,rfl⟩:=XC default hc;exact ⟨h.ok i hi,h.len i hi⟩
end
def tot (A:List (List RS)):Nat:=(A.map length).sum
theorem Oz (a:List RS) (A:List (List RS)):tot (a::A)=a.length+tot A:=by unfold tot;rw [nM,List.sum_cons]
theorem qj:∀ A:List (List RS),A.flatten.length=tot A
 | []=>rfl
 | a::r=>by rw [List.flatten_cons,kP,qj r,Oz]
theorem qk {m:Nat}:∀ {A:List (List RS)},(∀ a∈A,a.length≤m)→tot A≤A.length*m
 | [],_=>by simp [tot]
 | a::r,h=>by
  have h1:=h a eU;have h2:=qk (m:=m) fun x hx=>h x (eF a hx)
  rw [Oz,iE,Nat.succ_mul];omega
section
variable {cs:List Ck} {A:List (List RS)}
theorem ql (hl:A.length≤6) (hm:∀ a∈A,a.length≤20) {WW WL} {x0:List PV→Int→List PV→Int→Int→Bool→Prop} {l0:List PV} :
  ∀ (r i n s:Nat),i+r=A.length→r<n→s≤20*i→Gx WW WL x0 n l0 (s:Int) (aD A) (A.length:Int) (i:Int)=x0 l0 ((s+tot (A.drop i):Nat):Int) (aD A) (A.length:Int) (A.length:Int) false
 | 0,i,n+1,s,hi,hn,hs=>by rw [Gx,bG (by omega),nF (by omega),show (i:Int)=A.length by omega];rfl
 | r+1,i,n+1,s,hi,hn,hs=>by have e1:=cL (n:=(i:Int)+1) (by omega) (by omega);have hx:=oV [] (show i<A.length by omega);have hx2:=hm _ hx;have hd:A.drop i=A.getD i []::A.drop (i+1):=mZ [] (by omega);have ih:=ql hl hm (WW:=WW) (WL:=WL) (x0:=x0) (l0:=l0) r (i+1) n (s+(A.getD i []).length) (by omega) (by omega) (by omega);rw [Gx];dsimp only [lt,Go.Pf.jn];rw [bS (by omega),oW,aI (by omega),aI (by omega),cH,Az (by omega),oE,iZ,lI,hd,Oz,e1,dN];generalize (A.getD i []).length=k at hx2 ih;have e2:=cL (n:=(s:Int)+(k:Int)) (by omega) (by omega);rw [e2,bG (by omega),← Int.natCast_add,ih];congr 2;omega
def DP:PV:=.agg [.int .i64 0,.int .i64 0,.int .i64 0,.int .i64 0]
theorem qm (hl:A.length≤6) {WW WL} {x1:List PV→Nat→List PV→Int→Int→Bool→Prop} :
  ∀ (r i n:Nat) (done:List RS),i+r=A.length→r<n→Ab WW WL x1 n (cW done++replicate (tot (A.drop i)) DP) done.length (aD A) (A.length:Int) (i:Int)=x1 (cW (done++(A.drop i).flatten)) (done++(A.drop i).flatten).length (aD A) (A.length:Int) (A.length:Int) false
 | 0,i,n+1,done,hi,hn=>by rw [Ab,bG (by omega),nF (by omega),show (i:Int)=A.length by omega];show x1 (cW done++[]) _ _ _ _ _=x1 (cW (done++[])) (done++[]).length _ _ _ _;rw [yI,yI]
 | r+1,i,n+1,done,hi,hn=>by
  have e1:=cL (n:=(i:Int)+1) (by omega) (by omega);have hd:A.drop i=A.getD i []::A.drop (i+1):=mZ [] (by omega);have ih:=qm hl (WW:=WW) (WL:=WL) (x1:=x1) r (i+1) n (done++A.getD i []) (by omega) (by omega);rw [Ab];dsimp only [lt,Go.Pf.jn];rw [bS (by omega),oW,aI (by omega),aI (by omega),cH,Az (by omega),oE,iZ,pk,cZ,hd,Oz,List.flatten_cons,e1,dN,lI];generalize A.getD i []=a at ih;have hlen:(cW done++replicate (a.length+tot (A.drop (i+1))) DP).length=done.length+(a.length+tot (A.drop (i+1))):=by rw [kP,lI,qE]
  rw [aI rfl,aI (by rw [hlen];omega)];rw [show done++(a++(A.drop (i+1)).flatten)=(done++a)++(A.drop (i+1)).flatten from (tU ..).symm]
  cases ha:a with
  | nil =>rw [ha,yI] at ih;show aB true _ _=_;rw [aX,aI rfl,yI,Em,jH];exact ih
  | cons b t=>
   rw [← ha];have hemp:isEmpty (cW a)=false:=by rw [ha];rfl
   have hnew:take (0+done.length) (cW done++replicate (a.length+tot (A.drop (i+1))) DP)++(cW a++drop (0+done.length+a.length) (cW done++replicate (a.length+tot (A.drop (i+1))) DP))=cW (done++a)++replicate (tot (A.drop (i+1))) DP:=by rw [jH,← yOY,KH (by rw [lI];omega),yC (by rw [lI];omega),List.drop_append,nF (by rw [lI];omega),wK,lI,show done.length+a.length-done.length=a.length by omega,List.drop_replicate,show a.length+tot (A.drop (i+1))-a.length=tot (A.drop (i+1)) by omega,tU]
   have hlen2:(cW (done++a)++replicate (tot (A.drop (i+1))) DP).length=done.length+(a.length+tot (A.drop (i+1))):=by rw [kP,lI,kP,qE];omega
   rw [hemp,aU,aI (by rw [hlen];omega),hnew,aI (by rw [hlen,hlen2])];rw [kP] at ih;exact ih
theorem qn {len:Int} {l:List RS} (hs:∀ s∈l,nC s) (hl:l.length<1000) {l1 l2 l3 l4:List PV} {x0:List PV→List PV→List PV→List PV→List PV→Int→Int→Nat→Int→Int→Bool→Prop} {x1:List PV→Bool→Prop} {K:Bool→Prop}
  (h0:∀ q:Rat,small q→x0 (cW l) l1 l2 l3 l4 q.num q.den l.length (l.length:Int) (l.length:Int) false=K (decide (q<(len:Rat)))) (h1:x1 (cW l) true=K true) :
  ∀ (r i n:Nat) (q:Rat),i+r=l.length→r<n→small q→Gz gX cQ x0 x1 n (cW l) l1 l2 l3 l4 q.num q.den l.length (l.length:Int) (i:Int)=K (pU (len:Rat) (l.drop i) q)
 | 0,i,n+1,q,hi,hn,hq=>by rw [Gz,bG (by omega),nF (by omega),show (i:Int)=l.length by omega,h0 q hq];rfl
 | r+1,i,n+1,q,hi,hn,hq=>by
  have e1:=cL (n:=(i:Int)+1) (by omega) (by omega);have hd:l.drop i=l.getD i default::l.drop (i+1):=mZ default (by omega);have hx:=Xs hs (show i<l.length by omega);have ih:=fun q hq=>qn hs hl h0 h1 r (i+1) n q (by omega) (by omega) hq
  rw [Gz];dsimp only [lt,Go.Pf.jn];rw [bS (by omega),aI (by omega),aI (by omega),lI,aI rfl,cH,jH,aI (by omega),BN (by omega),BO,GZ,Oo,Ha,Hb,BU hq hx.1,hd,e1,dN];generalize l.getD i default=t at hx;unfold pU
  by_cases hlt:q<t.1
  ·rw [Ef hlt,aX,YQ hlt];exact h1
  ·rw [Os hlt,aU,YR hlt,BU hq hx.2]
   by_cases hlt2:q<t.2
   ·rw [Ef hlt2,aX,aI rfl,YQ hlt2];exact ih t.2 hx.2
   ·rw [Os hlt2,aU,aI rfl,YR hlt2];exact ih q hq
theorem qo (hl:A.length≤6) (hz:∀ a∈A,a=[]) {WW WL} {x0:List PV→Int→Int→Bool→Prop} {x1:List PV→Nat→List PV→Int→Int→Bool→Prop} :
  ∀ (r i n:Nat),i+r=A.length→r<n→Gy WW WL x0 x1 n (aD A) (A.length:Int) (i:Int)=x0 (aD A) (A.length:Int) (A.length:Int) false
 | 0,i,n+1,hi,hn=>by rw [Gy,bG (by omega),show (i:Int)=A.length by omega]
 | r+1,i,n+1,hi,hn=>by have e1:=cL (n:=(i:Int)+1) (by omega) (by omega);have hx:=hz _ (oV [] (show i<A.length by omega));rw [Gy];dsimp only [lt,Go.Pf.jn];rw [bS (by omega),oW,aI (by omega),aI (by omega),cH,Az (by omega),oE,iZ,hx,pk,cZ,e1,dN];show aB true _ _=_;rw [aX];exact qo hl hz r (i+1) n (by omega) (by omega)
theorem yNu (hl:A.length≤6) {WW WL} (x1:List PV→Nat→List PV→Int→Int→Bool→Prop):Ab WW WL x1 (A.length+1) (replicate (tot A) DP) 0 (aD A) (A.length:Int) 0=x1 (cW A.flatten) A.flatten.length (aD A) (A.length:Int) (A.length:Int) false:=by have hg:=qm (A:=A) hl (WW:=WW) (WL:=WL) (x1:=x1) A.length 0 (A.length+1) [] (by omega) (by omega);rw [kT,wK] at hg;exact hg
theorem DV.tot120 (h:DV cs A):tot A≤120:=by have h1:=qk h.m;have h2:=h.l;have h3:=h.d.n6;have:A.length*20≤6*20:=gK _ (by omega);omega
theorem DV.flatS (h:DV cs A):∀ s∈A.flatten,nC s:=fun s hs=>by obtain ⟨a,ha,hs⟩:=List.mem_flatten.1 hs;exact (h.p a ha).s s hs
theorem DV.flatV (h:DV cs A):∀ s∈A.flatten,s.1<s.2:=fun s hs=>by obtain ⟨a,ha,hs⟩:=List.mem_flatten.1 hs;exact Kp (h.p a ha).c s hs
theorem DV.gap (h:DV cs A) (W PT:List PV):∃ l:List RS,l.Perm A.flatten∧Kn l∧∀ K,yae (cks cs) (aD A) W PT K=K (pU ((cs.getD 0 default).len:Rat) l 0):=by
 have h6:=h.d.n6;have h1:=h.d.n0;have hl:=h.l;have l0:=h.len0;have ht:=h.tot120;have hfS:=h.flatS;have hfV:=h.flatV;obtain ⟨m,p1,p2,p3⟩:=yLy IL Fy (l:=A.flatten.map eQ) (fun s hs=>by
  obtain ⟨r,hr,rfl⟩:=oI.1 hs;exact Oq (hfS r hr) (hfV r hr))
 have hm:∀ s∈m,s.ok:=fun s hs=>by
  obtain ⟨r,hr,rfl⟩:=oI.1 (p1.mem_iff.1 hs);exact Oq (hfS r hr) (hfV r hr)
 have hp:(oU m).Perm A.flatten:=by
  have:=p1.map Sp.rs;rw [wP] at this;have e:A.flatten.map (Sp.rs ∘ eQ)=A.flatten:=by
   conv=>rhs;rw [← List.map_id A.flatten]
   exact Cc fun r hr=>pg (hfS r hr)
  rw [e] at this;exact this
 have hb:Kn (oU m):=ph (List.pairwise_map.2 p2);refine ⟨oU m,hp,hb,fun K=>?_⟩;refine yrY _ _ _ _ _ (fun K k=>?_) K;have sl:small ((cs.getD 0 default).len:Rat):=rV (by omega);have hfl:=qj A;have hend:∀ (q:Rat),small q→asr (decide ((0:Int)<(((cks cs).length:Nat):Int))) (asr (aG zK (getD (cks cs) 0 .nils)) (gX (aK (aP (getD (cks cs) 0 .nils) 0)) fun a b=>cQ q.num q.den a b fun b=>K b))=K (decide (q<((cs.getD 0 default).len:Rat))):=fun q hq=>by
  rw [dW,aI (by omega),lR (by omega),dE,mQ,BV,BU hq sl]
 unfold yae VT;dsimp only [Go.Pf.jn,lt];refine ⟨A.length+1,?_⟩;rw [oW];refine (ql (by omega) h.m A.length 0 (A.length+1) 0 (by omega) (by omega) (by omega)).mpr ?_;rw [kT,jH,bG (by omega)];have e2:=cL (n:=((tot A:Nat):Int)-0) (by omega) (by omega);rw [e2,show ((tot A:Nat):Int)-0=((tot A:Nat):Int) by omega]
 by_cases hz:tot A=0
 ·have hze:∀ a∈A,a=[]:=fun a ha=>by
   have hfe:=lU (hfl.trans hz);exact List.flatten_eq_nil_iff.1 hfe a ha
  have hml:oU m=[]:=lU (by rw [hp.length_eq,hfl,hz]);rw [hml] at k;rw [bG (by omega)];refine ⟨A.length+1,?_⟩;rw [oW];refine (qo (by omega) hze A.length 0 (A.length+1) (by omega) (by omega)).mpr ?_;rw [BV];refine ⟨1,?_⟩;rw [VS,bG (by omega)];exact (hend 0 pm).mpr k
 ·rw [bS (by omega),aI (by omega),cH,bG (by omega),qE,aI (by unfold room;omega)];have hor:(decide ((0:Int)≤((tot A:Nat):Int))||decide ((0:Int)≤((tot A:Nat):Int)))=true:=by rw [Ef (by omega)];rfl
  rw [hor,cZ,aI rfl];refine ⟨A.length+1,?_⟩;rw [oW];refine (yNu (by omega) _).mpr ?_;have hcond:Srt.cond nW.s (cW A.flatten) 0 A.flatten.length (cW A.flatten).length 4 false=true:=by
   obtain ⟨d,hd⟩:∃ d,(nW).s.rows? (cW A.flatten)=some d:=Xr fun y hy=>by
    obtain ⟨s,h4,rfl⟩:=oI.1 hy;obtain ⟨q,hq,rfl⟩:=oI.1 h4;exact pd _ _ (Oq (hfS q hq) (hfV q hq))
   unfold Srt.cond;rw [kT,show take A.flatten.length (cW A.flatten)=cW A.flatten by rw [← lI,yF],hd,lI];simp only [decide_true,jK,qI,Option.isSome_some,Bool.and_true,bO,decide_eq_true_eq,jH,bX];exact ⟨by omega,rfl,by omega⟩
  rw [hcond,cZ,BV];have hsrt:Srt.sorted nW.s nW.srt (cW A.flatten)=cW (oU m):=by
   rw [show cW A.flatten=oD (A.flatten.map eQ) from rfl,← yLz hm];exact p3
  have hlm:(oU m).length=A.flatten.length:=hp.length_eq;have htk:take A.flatten.length (cW A.flatten)=cW A.flatten:=by rw [← lI,yF]
  have hdp:drop A.flatten.length (cW A.flatten)=[]:=by rw [← lI,List.drop_length]
  rw [List.take_zero,kT,htk,hsrt,wK,jH,hdp,yI,lI,lI,aI (by rw [hlm]),← hlm];refine ⟨(oU m).length+1,?_⟩;have hms:∀ s∈oU m,nC s:=fun s hs=>hfS s (hp.mem_iff.1 hs)
  have h2:=qn (len:=(cs.getD 0 default).len) (l:=oU m) hms (by omega) (l1:=cks cs) (l2:=aD A) (l3:=W) (l4:=PT) (K:=K)
   (x0:=fun _ l _ _ _ a b _ _ _ _=>asr (decide ((0:Int)<(((length l):Nat):Int))) (asr (aG zK (getD l 0 .nils)) (gX (aK (aP (getD l 0 .nils) 0)) fun c d=>cQ a b c d fun b=>K b))) (x1:=fun _ b=>K b)
   (fun q hq=>hend q hq) rfl (oU m).length 0 ((oU m).length+1) 0 (by omega) (by omega) pm
  refine h2.mpr ?_;rw [kT];exact k
end
theorem yO3 {x d:Int} (h0:0≤x) (h1:x≤1000000000000000000) (d0:1≤d) (d1:d≤1000000000000000000):small ((x:Rat)/(d:Rat)):=by
 have hd:(d:Rat)≠0:=by have:(0:Rat)<(d:Rat):=En.2 (by omega);grind
 generalize hq:(x:Rat)/(d:Rat)=q;have e1:(q.num:Rat)*(d:Rat)=(x:Rat)*(q.den:Rat):=by
  have h2:(q.den:Rat)≠0:=by have:(0:Rat)<(q.den:Rat):=Rat.natCast_pos.2 q.den_pos;grind
  have h3:q=(q.num:Rat)/(q.den:Rat):=by rw [← Rat.mkRat_eq_div,Rat.mkRat_self]
  have h4:q*(q.den:Rat)=(q.num:Rat):=by have:(q.num:Rat)/(q.den:Rat)*(q.den:Rat)=(q.num:Rat):=HF h2;rw [← h3] at this;exact this
  have h5:q*(d:Rat)=(x:Rat):=by rw [← hq];exact HF hd
  grind
 have e2:q.num*d=x*(q.den:Int):=by rw [show (q.den:Rat)=(((q.den:Nat):Int):Rat) from (HA _).symm,← kR,← kR] at e1;exact Rat.intCast_inj.1 e1
 have hp:=q.den_pos;have n0:0≤q.num:=by
  refine Int.not_lt.1 fun h=>?_
  have a1:q.num*d<0:=Hw h (by omega);have a2:0≤x*(q.den:Int):=lO h0 (by omega);omega
 have hdv:q.den∣d.natAbs:=by
  have hc:Nat.Coprime q.den q.num.natAbs:=q.reduced.symm;refine hc.dvd_of_dvd_mul_left (m:=q.num.natAbs) ?_;have:(q.num*d).natAbs=(x*(q.den:Int)).natAbs:=by rw [e2]
  rw [Int.natAbs_mul,Int.natAbs_mul,Cd] at this;rw [this];exact Nat.dvd_mul_left ..
 obtain ⟨t,ht⟩:=hdv;have hd2:d=(q.den:Int)*(t:Int):=by
  rw [← Ci,← ht];omega
 have t1:1≤t:=by
  rcases Nat.eq_zero_or_pos t with h|h
  ·rw [h] at hd2;omega
  ·exact h
 have e3:q.num*(t:Int)=x:=by
  have:(q.num*(t:Int))*(q.den:Int)=x*(q.den:Int):=by rw [← e2,hd2,Int.mul_assoc,yK (t:Int)]
  exact Int.eq_of_mul_eq_mul_right (by omega) this
 have e4:q.num≤q.num*(t:Int):=by have:=Ed (show (1:Int)≤(t:Int) by omega) n0;omega
 have e5:(q.den:Int)≤(q.den:Int)*(t:Int):=by have:=Ed (show (1:Int)≤(t:Int) by omega) (show (0:Int)≤(q.den:Int) by omega);omega
 exact ⟨by omega,by omega,by omega⟩
def yo6 (f:Nat→Bool):Nat→Nat→Option Nat
 | 0,_=>none
 | r+1,i=>if f i then some i else yo6 f r (i+1)
def ycu (f:Nat→Nat→Bool) (n:Nat):Nat→Nat→Option (Nat×Nat)
 | 0,_=>none
 | r+1,i=>match yo6 (f i) n 0 with
  | some j=>some (i,j)
  | none=>ycu f n r (i+1)
theorem xW (cs:List Ck) (A:List (List RS)):(aO cs A).length=cs.length:=dS ..
theorem BW {cs:List Ck} {A:List (List RS)} {i:Nat} (h:i<cs.length):getD (aO cs A) i .nils=.data (cO (A.map (wV (cs.getD i default)))):=by unfold aO;rw [cN,cN,lK,bY h];rfl
theorem DQ {c:Ck} {A:List (List RS)} {i:Nat} (h:i<A.length):(A.map (wV c)).getD i 0=wV c (A.getD i []):=by rw [cN,cN,lK,bY h];rfl
def qX (A:List (List RS)) (a b:Nat):Bool:=decide (a<b)&&BT (A.getD a []) (A.getD b [])
def OA (cs:List Ck) (a:Nat):Rat:=((totC (cs.getD a default).cuts (cs.getD a default).dens:Int):Rat)/((cs.length:Int):Rat)
def AA (cs:List Ck) (A:List (List RS)) (a b:Nat):Bool:=decide (a=b)&&decide (wV (cs.getD a default) (A.getD a [])<OA cs a)
def AB (cs:List Ck) (A:List (List RS)) (a b:Nat):Bool:=decide (wV (cs.getD a default) (A.getD a [])<wV (cs.getD a default) (A.getD b []))
def vV (P:List Rat) (a b:Nat):Bool:=decide (b=0)&&!decide (P.getD a 0=P.getD 0 0)
def tR (A:List (List RS)) (a b:Nat):Bool:=decide (a=b)&&decide ((A.getD a []).length≠1)
section
variable {cs:List Ck} {A:List (List RS)}
theorem DV.small (h:DV cs A) (hw:∀ c∈cs,∀ a∈A,small (wV c a)) {i j:Nat} (hi:i<cs.length) (hj:j<cs.length):Go.Pf.Vc.small (wV (cs.getD i default) (A.getD j [])):=
 hw _ (oV _ hi) _ (oV _ (by rw [h.l];exact hj))
theorem XD (a b:Nat):(((a:Int)) ==(b:Int))=decide (a=b):=by rw [Cg,beq_iff_eq,decide_eq_true_eq];omega
theorem yHw {c:Ck} {n:Nat} (hc:c.ok) (h1:1≤n) (h6:n≤6):small (((totC c.cuts c.dens:Int):Rat)/((n:Int):Rat)):=by have:=Ax hc;exact yO3 (by omega) (by omega) (by omega) (by omega)
theorem yR7 (h:DV cs A) {l2 l3 l4 l5 l6 l7:List PV} {i9 i10:Int} {x0:List PV→List PV→List PV→List PV→List PV→List PV→List PV→List PV→Int→Int→Int→Int→Int→Bool→Prop} {x1:List PV→List PV→List PV→List PV→Int→Int→Bool→Prop} {a j n:Nat} (ha:a<cs.length) (hj:j<cs.length) :
 Ac dP yae cE dM cQ x0 x1 (n+1) (cks cs) (aD A) l2 l3 l4 l5 l6 l7 (a:Int) i9 i10 (cs.length:Int) (j:Int)=aB (qX A a j) (x1 (cks cs) (aD A) l2 l3 (a:Int) (j:Int) true) (Ac dP yae cE dM cQ x0 x1 n (cks cs) (aD A) l2 l3 l4 l5 l6 l7 (a:Int) i9 i10 (cs.length:Int) ((j+1:Nat):Int)):=by
 have h6:=h.d.n6;have h1:=h.d.n0;have hl:=h.l;have e1:=cL (n:=(j:Int)+1) (by omega) (by omega);rw [Ac,bS (by omega)];dsimp only [lt,Go.Pf.jn];have ja:=h.p _ (oV [] (show a<A.length by omega));have jb:=h.p _ (oV [] (show j<A.length by omega));have na:=ja.n;have nb:=jb.n;unfold qX
 by_cases hlt:a<j
 ·rw [Ef hlt,bS (by omega),oW,aI (by omega),aI (by omega),cH,Az (by omega),oE,aI (by omega),aI (by omega),cH,Az (by omega),oE,iZ,iZ,yNs ja.s jb.s (by omega) (by omega),jK,e1,dN]
 ·rw [Os hlt,bG (by omega),kU,e1,dN]
theorem yR8 (h:DV cs A) (hw:∀ c∈cs,∀ a∈A,small (wV c a)) {l3 l4 l5 l6 l7:List PV} {i9 i10:Int} {x0:List PV→List PV→List PV→List PV→List PV→List PV→List PV→List PV→Int→Int→Int→Int→Int→Bool→Prop} {x1:List PV→List PV→List PV→List PV→Int→Int→Bool→Prop} {a j n:Nat} (ha:a<cs.length) (hj:j<cs.length) :
 Ad dP yae cE dM cQ x1 x0 (n+1) (cks cs) (aD A) (aO cs A) l3 l4 l5 l6 l7 (a:Int) i9 i10 (cs.length:Int) (j:Int)=aB (AA cs A a j) (x1 (cks cs) (aD A) (aO cs A) l3 (a:Int) (j:Int) true) (Ad dP yae cE dM cQ x1 x0 n (cks cs) (aD A) (aO cs A) l3 l4 l5 l6 l7 (a:Int) i9 i10 (cs.length:Int) ((j+1:Nat):Int)):=by
 have h6:=h.d.n6;have h1:=h.d.n0;have hl:=h.l;have e1:=cL (n:=(j:Int)+1) (by omega) (by omega);rw [Ad,bS (by omega)];dsimp only [lt,Go.Pf.jn];have hok:=(h.d.ok a ha);have l1:=hok.l1;have l2:=hok.l2;have hto:=Ax hok;have hT:cB (totC (cs.getD a default).cuts (cs.getD a default).dens):=by constructor<;>omega
 have hN:cB (cs.length:Int):=by constructor<;>omega
 have hss:small (OA cs a):=yHw hok h1 h6;rw [aI (by omega),dW,aI (by omega),cH,lR ha,dE,mQ,qU,rZ,Xk (by omega) (by omega),YQ hok.ck,yM0 hT hN (by omega)];unfold OA at hss;unfold fitK;rw [YQ hss];dsimp only;rw [XD,e1,dN];unfold AA OA
 by_cases hab:a=j
 ·rw [Ef hab,aX,aI (by omega),xW,aI (by omega),BW ha,oE,aI (by omega),iZ,tP,dS,aI (by omega),vS (by rw [dS];omega),vT,xU,xV,DQ (by omega),jK];rw [BU (h.small hw ha ha) hss]
 ·rw [Os hab,aU,kU]
theorem yR9 (h:DV cs A) (hw:∀ c∈cs,∀ a∈A,small (wV c a)) {l3 l4 l5 l6 l7:List PV} {i9 i10:Int} {x0:List PV→List PV→List PV→List PV→List PV→List PV→List PV→List PV→Int→Int→Int→Int→Int→Bool→Prop} {x1:List PV→List PV→List PV→List PV→Int→Int→Bool→Prop} {a j n:Nat} (ha:a<cs.length) (hj:j<cs.length) :
 Ae dP yae cE dM cQ x1 x0 (n+1) (cks cs) (aD A) (aO cs A) l3 l4 l5 l6 l7 (a:Int) i9 i10 (cs.length:Int) (j:Int)=aB (AB cs A a j) (x1 (cks cs) (aD A) (aO cs A) l3 (a:Int) (j:Int) true) (Ae dP yae cE dM cQ x1 x0 n (cks cs) (aD A) (aO cs A) l3 l4 l5 l6 l7 (a:Int) i9 i10 (cs.length:Int) ((j+1:Nat):Int)):=by
 have h6:=h.d.n6;have h1:=h.d.n0;have hl:=h.l;have e1:=cL (n:=(j:Int)+1) (by omega) (by omega);rw [Ae,bS (by omega)];dsimp only [lt,Go.Pf.jn];unfold AB;rw [aI (by omega),xW,aI (by omega),cH,BW ha,oE,aI (by omega),iZ,tP,dS,aI (by omega),vS (by rw [dS];omega),vT,aI (by omega),aI (by omega),aI (by omega),aI (by omega),cH,vS (by rw [dS];omega),vT,xU,xV,xU,xV,DQ (by omega),DQ (by omega),BU (h.small hw ha ha) (h.small hw ha hj),e1,dN,oE]
theorem ySa (h:DV cs A) {P:List Rat} (hP:P.length=cs.length) {l2 l4 l5 l6 l7:List PV} {i9 i10:Int} {x0:List PV→List PV→List PV→List PV→List PV→List PV→List PV→List PV→Int→Int→Int→Int→Int→Bool→Prop} {x1:List PV→List PV→List PV→List PV→Int→Int→Bool→Prop} {a j n:Nat} (ha:a<cs.length) (hj:j<cs.length) :
 Af dP yae cE dM cQ x1 x0 (n+1) (cks cs) (aD A) l2 (cO P) l4 l5 l6 l7 (a:Int) i9 i10 (cs.length:Int) (j:Int)=aB (vV P a j) (x1 (cks cs) (aD A) l2 (cO P) (a:Int) (j:Int) true) (Af dP yae cE dM cQ x1 x0 n (cks cs) (aD A) l2 (cO P) l4 l5 l6 l7 (a:Int) i9 i10 (cs.length:Int) ((j+1:Nat):Int)):=by
 have h6:=h.d.n6;have h1:=h.d.n0;have hl:=h.l;have e1:=cL (n:=(j:Int)+1) (by omega) (by omega);rw [Af,bS (by omega)];dsimp only [lt,Go.Pf.jn];unfold vV;rw [show ((j:Int) ==(0:Int))=decide (j=0) from XD j 0,e1,dN]
 by_cases hab:j=0
 ·rw [Ef hab,aX,aI (by omega),tP,aI (by omega),cH,vS (by omega),vT,aI (by omega),vS (by omega),vT,xU,xV,xU,xV,yRX,jK]
 ·rw [Os hab,aU,kU]
theorem ySb (h:DV cs A) {l2 l3 l4 l5 l6 l7:List PV} {i9 i10:Int} {x0:List PV→List PV→List PV→List PV→List PV→List PV→List PV→List PV→Int→Int→Int→Int→Int→Bool→Prop} {x1:List PV→List PV→List PV→List PV→Int→Int→Bool→Prop} {a j n:Nat} (_:a<cs.length) (hj:j<cs.length) :
 Ag dP yae cE dM cQ x1 x0 (n+1) (cks cs) (aD A) l2 l3 l4 l5 l6 l7 (a:Int) i9 i10 (cs.length:Int) (j:Int)=aB (tR A a j) (x1 (cks cs) (aD A) l2 l3 (a:Int) (j:Int) true) (Ag dP yae cE dM cQ x1 x0 n (cks cs) (aD A) l2 l3 l4 l5 l6 l7 (a:Int) i9 i10 (cs.length:Int) ((j+1:Nat):Int)):=by
 have h6:=h.d.n6;have h1:=h.d.n0;have hl:=h.l;have e1:=cL (n:=(j:Int)+1) (by omega) (by omega);rw [Ag,bS (by omega)];dsimp only [lt,Go.Pf.jn];unfold tR;rw [XD,e1,dN]
 by_cases hab:a=j
 ·have hne:((((A.getD a []).length:Nat):Int) !=(1:Int))=decide ((A.getD a []).length≠1):=by
   rw [Cg,bne_iff_ne,decide_eq_true_eq];omega
  rw [Ef hab,aX,aI (by omega),oW,aI (by omega),cH,Az (by omega),oE,iZ,lI,hne,jK]
 ·rw [Os hab,aU,kU]
end
def qp (X:Nat→Prop) (Y:Prop):Option Nat→Prop
 | some j=>X j
 | none=>Y
def DR (X:Nat→Nat→Prop) (Y:Prop):Option (Nat×Nat)→Prop
 | some (a,b)=>X a b
 | none=>Y
theorem Hg {f:Nat→Bool} {N:Nat} {L:Nat→Nat→Prop} {X:Nat→Prop} {Y:Prop} (hs:∀ n j,j<N→L (n+1) j=aB (f j) (X j) (L n (j+1))) (he:∀ n,L (n+1) N=Y) :
  ∀ (r j n:Nat),j+r=N→r<n→L n j=qp X Y (yo6 f r j)
 | 0,j,n+1,hj,_=>by
  obtain rfl:j=N:=by omega
  rw [he];rfl
 | r+1,j,n+1,hj,hn=>by
  rw [hs n j (by omega),yo6]
  cases f j with
  | true=>rw [aX];rfl
  | false=>rw [aU];exact Hg hs he r (j+1) n (by omega) (by omega)
theorem Hj {f:Nat→Nat→Bool} {N:Nat} {L:Nat→Nat→Prop} {X:Nat→Nat→Prop} {Y:Prop} (hs:∀ n a,a<N→qp (X a) (L n (a+1)) (yo6 (f a) N 0)→L (n+1) a) (he:∀ n,Y→L (n+1) N) :
  ∀ (r a n:Nat),a+r=N→r<n→DR X Y (ycu f N r a)→L n a
 | 0,a,n+1,ha,_,h=>by
  obtain rfl:a=N:=by omega
  exact he n h
 | r+1,a,n+1,ha,hn,h=>by
  refine hs n a (by omega) ?_;rw [ycu] at h
  cases hb:yo6 (f a) N 0 with
  | some j=>rw [hb] at h;exact h
  | none=>rw [hb] at h;exact Hj hs he r (a+1) n (by omega) (by omega) h
section
variable {cs:List Ck} {A:List (List RS)}
theorem ySc (h:DV cs A) {l2 l3:List PV} {x0:List PV→List PV→List PV→List PV→List PV→List PV→List PV→List PV→Int→Int→Bool→Prop} {x1:List PV→List PV→List PV→List PV→Int→Int→Bool→Prop} :
  ∀ (r a n:Nat),a+r=cs.length→r<n→DR (fun a b=>x1 (cks cs) (aD A) l2 l3 (a:Int) (b:Int) true) (x0 (cks cs) (aD A) l2 l3 (cks cs) (aD A) l2 l3 (cs.length:Int) (cs.length:Int) false) (ycu (qX A) cs.length r a)→Ah dP yae cE dM cQ x0 x1 n (cks cs) (aD A) l2 l3 (cks cs) (aD A) l2 l3 (cs.length:Int) (a:Int):=by
 have h6:=h.d.n6;refine Hj (L:=fun n a=>Ah dP yae cE dM cQ x0 x1 n (cks cs) (aD A) l2 l3 (cks cs) (aD A) l2 l3 (cs.length:Int) (a:Int)) (fun n a ha hb=>?_) (fun n hy=>?_)
 ·have e1:=cL (n:=(a:Int)+1) (by omega) (by omega);show Ah dP yae cE dM cQ x0 x1 (n+1) (cks cs) (aD A) l2 l3 (cks cs) (aD A) l2 l3 (cs.length:Int) (a:Int);rw [Ah,bS (by omega),dW];dsimp only [lt,Go.Pf.jn];refine ⟨cs.length+1,?_⟩;refine (Hg (f:=(qX A) a) (N:=cs.length) (L:=fun n j=>Ac dP yae cE dM cQ _ _ n (cks cs) (aD A) l2 l3 (cks cs) (aD A) l2 l3 (a:Int) (cs.length:Int) (a:Int) (cs.length:Int) (j:Int)) (fun n j hj=>yR7 h ha hj) (fun n=>?_) cs.length 0 (cs.length+1) (by omega) (by omega)).mpr hb;show Ac dP yae cE dM cQ _ _ (n+1) (cks cs) (aD A) l2 l3 (cks cs) (aD A) l2 l3 (a:Int) (cs.length:Int) (a:Int) (cs.length:Int) (cs.length:Int)=_;rw [Ac,bG (by omega),e1,dN]
 ·show Ah dP yae cE dM cQ x0 x1 (n+1) (cks cs) (aD A) l2 l3 (cks cs) (aD A) l2 l3 (cs.length:Int) (cs.length:Int);rw [Ah,bG (by omega)];exact hy
theorem ySd (h:DV cs A) (hw:∀ c∈cs,∀ a∈A,small (wV c a)) {l3:List PV} {x0:List PV→List PV→List PV→List PV→List PV→List PV→List PV→List PV→Int→Int→Bool→Prop} {x1:List PV→List PV→List PV→List PV→Int→Int→Bool→Prop} :
  ∀ (r a n:Nat),a+r=cs.length→r<n→DR (fun a b=>x1 (cks cs) (aD A) (aO cs A) l3 (a:Int) (b:Int) true) (x0 (cks cs) (aD A) (aO cs A) l3 (cks cs) (aD A) (aO cs A) l3 (cs.length:Int) (cs.length:Int) false) (ycu (AA cs A) cs.length r a)→Ai dP yae cE dM cQ x1 x0 n (cks cs) (aD A) (aO cs A) l3 (cks cs) (aD A) (aO cs A) l3 (cs.length:Int) (a:Int):=by
 have h6:=h.d.n6;refine Hj (L:=fun n a=>Ai dP yae cE dM cQ x1 x0 n (cks cs) (aD A) (aO cs A) l3 (cks cs) (aD A) (aO cs A) l3 (cs.length:Int) (a:Int)) (fun n a ha hb=>?_) (fun n hy=>?_)
 ·have e1:=cL (n:=(a:Int)+1) (by omega) (by omega);show Ai dP yae cE dM cQ x1 x0 (n+1) (cks cs) (aD A) (aO cs A) l3 (cks cs) (aD A) (aO cs A) l3 (cs.length:Int) (a:Int);rw [Ai,bS (by omega),dW];dsimp only [lt,Go.Pf.jn];refine ⟨cs.length+1,?_⟩;refine (Hg (f:=(AA cs A) a) (N:=cs.length) (L:=fun n j=>Ad dP yae cE dM cQ _ _ n (cks cs) (aD A) (aO cs A) l3 (cks cs) (aD A) (aO cs A) l3 (a:Int) (cs.length:Int) (a:Int) (cs.length:Int) (j:Int)) (fun n j hj=>yR8 h hw ha hj) (fun n=>?_) cs.length 0 (cs.length+1) (by omega) (by omega)).mpr hb;show Ad dP yae cE dM cQ _ _ (n+1) (cks cs) (aD A) (aO cs A) l3 (cks cs) (aD A) (aO cs A) l3 (a:Int) (cs.length:Int) (a:Int) (cs.length:Int) (cs.length:Int)=_;rw [Ad,bG (by omega),e1,dN]
 ·show Ai dP yae cE dM cQ x1 x0 (n+1) (cks cs) (aD A) (aO cs A) l3 (cks cs) (aD A) (aO cs A) l3 (cs.length:Int) (cs.length:Int);rw [Ai,bG (by omega)];exact hy
theorem ySe (h:DV cs A) (hw:∀ c∈cs,∀ a∈A,small (wV c a)) {l3:List PV} {x0:List PV→List PV→List PV→List PV→List PV→List PV→List PV→List PV→Int→Int→Bool→Prop} {x1:List PV→List PV→List PV→List PV→Int→Int→Bool→Prop} :
  ∀ (r a n:Nat),a+r=cs.length→r<n→DR (fun a b=>x1 (cks cs) (aD A) (aO cs A) l3 (a:Int) (b:Int) true) (x0 (cks cs) (aD A) (aO cs A) l3 (cks cs) (aD A) (aO cs A) l3 (cs.length:Int) (cs.length:Int) false) (ycu (AB cs A) cs.length r a)→Aj dP yae cE dM cQ x1 x0 n (cks cs) (aD A) (aO cs A) l3 (cks cs) (aD A) (aO cs A) l3 (cs.length:Int) (a:Int):=by
 have h6:=h.d.n6;refine Hj (L:=fun n a=>Aj dP yae cE dM cQ x1 x0 n (cks cs) (aD A) (aO cs A) l3 (cks cs) (aD A) (aO cs A) l3 (cs.length:Int) (a:Int)) (fun n a ha hb=>?_) (fun n hy=>?_)
 ·have e1:=cL (n:=(a:Int)+1) (by omega) (by omega);show Aj dP yae cE dM cQ x1 x0 (n+1) (cks cs) (aD A) (aO cs A) l3 (cks cs) (aD A) (aO cs A) l3 (cs.length:Int) (a:Int);rw [Aj,bS (by omega),dW];dsimp only [lt,Go.Pf.jn];refine ⟨cs.length+1,?_⟩;refine (Hg (f:=(AB cs A) a) (N:=cs.length) (L:=fun n j=>Ae dP yae cE dM cQ _ _ n (cks cs) (aD A) (aO cs A) l3 (cks cs) (aD A) (aO cs A) l3 (a:Int) (cs.length:Int) (a:Int) (cs.length:Int) (j:Int)) (fun n j hj=>yR9 h hw ha hj) (fun n=>?_) cs.length 0 (cs.length+1) (by omega) (by omega)).mpr hb;show Ae dP yae cE dM cQ _ _ (n+1) (cks cs) (aD A) (aO cs A) l3 (cks cs) (aD A) (aO cs A) l3 (a:Int) (cs.length:Int) (a:Int) (cs.length:Int) (cs.length:Int)=_;rw [Ae,bG (by omega),e1,dN]
 ·show Aj dP yae cE dM cQ x1 x0 (n+1) (cks cs) (aD A) (aO cs A) l3 (cks cs) (aD A) (aO cs A) l3 (cs.length:Int) (cs.length:Int);rw [Aj,bG (by omega)];exact hy
theorem ySf (h:DV cs A) {P:List Rat} (hP:P.length=cs.length) {l2:List PV} {x0:List PV→List PV→List PV→List PV→List PV→List PV→List PV→List PV→Int→Int→Bool→Prop} {x1:List PV→List PV→List PV→List PV→Int→Int→Bool→Prop} :
  ∀ (r a n:Nat),a+r=cs.length→r<n→DR (fun a b=>x1 (cks cs) (aD A) l2 (cO P) (a:Int) (b:Int) true) (x0 (cks cs) (aD A) l2 (cO P) (cks cs) (aD A) l2 (cO P) (cs.length:Int) (cs.length:Int) false) (ycu (vV P) cs.length r a)→Ak dP yae cE dM cQ x1 x0 n (cks cs) (aD A) l2 (cO P) (cks cs) (aD A) l2 (cO P) (cs.length:Int) (a:Int):=by
 have h6:=h.d.n6;refine Hj (L:=fun n a=>Ak dP yae cE dM cQ x1 x0 n (cks cs) (aD A) l2 (cO P) (cks cs) (aD A) l2 (cO P) (cs.length:Int) (a:Int)) (fun n a ha hb=>?_) (fun n hy=>?_)
 ·have e1:=cL (n:=(a:Int)+1) (by omega) (by omega);show Ak dP yae cE dM cQ x1 x0 (n+1) (cks cs) (aD A) l2 (cO P) (cks cs) (aD A) l2 (cO P) (cs.length:Int) (a:Int);rw [Ak,bS (by omega),dW];dsimp only [lt,Go.Pf.jn];refine ⟨cs.length+1,?_⟩;refine (Hg (f:=(vV P) a) (N:=cs.length) (L:=fun n j=>Af dP yae cE dM cQ _ _ n (cks cs) (aD A) l2 (cO P) (cks cs) (aD A) l2 (cO P) (a:Int) (cs.length:Int) (a:Int) (cs.length:Int) (j:Int)) (fun n j hj=>ySa h hP ha hj) (fun n=>?_) cs.length 0 (cs.length+1) (by omega) (by omega)).mpr hb;show Af dP yae cE dM cQ _ _ (n+1) (cks cs) (aD A) l2 (cO P) (cks cs) (aD A) l2 (cO P) (a:Int) (cs.length:Int) (a:Int) (cs.length:Int) (cs.length:Int)=_;rw [Af,bG (by omega),e1,dN]
 ·show Ak dP yae cE dM cQ x1 x0 (n+1) (cks cs) (aD A) l2 (cO P) (cks cs) (aD A) l2 (cO P) (cs.length:Int) (cs.length:Int);rw [Ak,bG (by omega)];exact hy
theorem ySg (h:DV cs A) {l2 l3:List PV} {x0:List PV→List PV→List PV→List PV→List PV→List PV→List PV→List PV→Int→Int→Bool→Prop} {x1:List PV→List PV→List PV→List PV→Int→Int→Bool→Prop} :
  ∀ (r a n:Nat),a+r=cs.length→r<n→DR (fun a b=>x1 (cks cs) (aD A) l2 l3 (a:Int) (b:Int) true) (x0 (cks cs) (aD A) l2 l3 (cks cs) (aD A) l2 l3 (cs.length:Int) (cs.length:Int) false) (ycu (tR A) cs.length r a)→Al dP yae cE dM cQ x1 x0 n (cks cs) (aD A) l2 l3 (cks cs) (aD A) l2 l3 (cs.length:Int) (a:Int):=by
 have h6:=h.d.n6;refine Hj (L:=fun n a=>Al dP yae cE dM cQ x1 x0 n (cks cs) (aD A) l2 l3 (cks cs) (aD A) l2 l3 (cs.length:Int) (a:Int)) (fun n a ha hb=>?_) (fun n hy=>?_)
 ·have e1:=cL (n:=(a:Int)+1) (by omega) (by omega);show Al dP yae cE dM cQ x1 x0 (n+1) (cks cs) (aD A) l2 l3 (cks cs) (aD A) l2 l3 (cs.length:Int) (a:Int);rw [Al,bS (by omega),dW];dsimp only [lt,Go.Pf.jn];refine ⟨cs.length+1,?_⟩;refine (Hg (f:=(tR A) a) (N:=cs.length) (L:=fun n j=>Ag dP yae cE dM cQ _ _ n (cks cs) (aD A) l2 l3 (cks cs) (aD A) l2 l3 (a:Int) (cs.length:Int) (a:Int) (cs.length:Int) (j:Int)) (fun n j hj=>ySb h ha hj) (fun n=>?_) cs.length 0 (cs.length+1) (by omega) (by omega)).mpr hb;show Ag dP yae cE dM cQ _ _ (n+1) (cks cs) (aD A) l2 l3 (cks cs) (aD A) l2 l3 (a:Int) (cs.length:Int) (a:Int) (cs.length:Int) (cs.length:Int)=_;rw [Ag,bG (by omega),e1,dN]
 ·show Al dP yae cE dM cQ x1 x0 (n+1) (cks cs) (aD A) l2 l3 (cks cs) (aD A) l2 l3 (cs.length:Int) (cs.length:Int);rw [Al,bG (by omega)];exact hy
end
def nE:Option (Nat×Nat)→Int×Int×Bool
 | some (a,b)=>(a,b,true)
 | none=>(0,0,false)
def brk (cs:List Ck) (A:List (List RS)) (P:List Rat) (g:Bool) (c:Int):Int×Int×Bool:=
 if c=1 then (match ycu (qX A) cs.length cs.length 0 with
  | some (a,b)=>(a,b,true)
  | none=>if g then (-1,-1,true) else (0,0,false))
 else if c=2 then nE (ycu (AA cs A) cs.length cs.length 0)
 else if c=4 then nE (ycu (AB cs A) cs.length cs.length 0)
 else if c=8 then nE (ycu (vV P) cs.length cs.length 0)
 else nE (ycu (tR A) cs.length cs.length 0)
theorem XE {cs:List Ck} {A:List (List RS)} (h:DV cs A) (hw:∀ c∈cs,∀ a∈A,small (wV c a)) {P:List Rat} {c:Int} (hP:c=8→P.length=cs.length) (hc:c=1∨c=2∨c=4∨c=8∨c=16) {g:Bool}
  (hg:∀ K,yae (cks cs) (aD A) (aO cs A) (cO P) K=K g) (K:Int→Int→Bool→Prop) :
  yat (cks cs) (aD A) (aO cs A) (cO P) c K=K (brk cs A P g c).1 (brk cs A P g c).2.1 (brk cs A P g c).2.2:=by
 refine yoo _ _ _ _ _ _ _ _ (fun K k=>?_) K;unfold yat VW;dsimp only [Go.Pf.jn];rcases hc with rfl | rfl | rfl | rfl | rfl
 ·show aB true _ _;rw [aX];refine ⟨cs.length+1,?_⟩;rw [dW];refine ySc h cs.length 0 (cs.length+1) (by omega) (by omega) ?_;have k:K (match ycu (qX A) cs.length cs.length 0 with | some (a,b)=>((a:Int),(b:Int),true) | none=>if g then (-1,-1,true) else (0,0,false)).1 (match ycu (qX A) cs.length cs.length 0 with | some (a,b)=>((a:Int),(b:Int),true) | none=>if g then (-1,-1,true) else (0,0,false)).2.1 (match ycu (qX A) cs.length cs.length 0 with | some (a,b)=>((a:Int),(b:Int),true) | none=>if g then (-1,-1,true) else (0,0,false)).2.2:=k
  cases hs:ycu (qX A) cs.length cs.length 0 with
  | some q =>rw [hs] at k;exact k
  | none=>
   rw [hs] at k;dsimp only [DR,qI];rw [show (!false)=true from rfl,aX,hg]
   cases g with
   | true=>exact k
   | false=>exact k
 ·show aB false _ (aB true _ _);rw [aU,aX];refine ⟨cs.length+1,?_⟩;rw [dW];refine ySd h hw cs.length 0 (cs.length+1) (by omega) (by omega) ?_;have k:K (nE (ycu (AA cs A) cs.length cs.length 0)).1 (nE (ycu (AA cs A) cs.length cs.length 0)).2.1 (nE (ycu (AA cs A) cs.length cs.length 0)).2.2:=k
  cases hs:ycu (AA cs A) cs.length cs.length 0<;>(rw [hs] at k;exact k)
 ·show aB false _ (aB false _ (aB true _ _));rw [aU,aU,aX];refine ⟨cs.length+1,?_⟩;rw [dW];refine ySe h hw cs.length 0 (cs.length+1) (by omega) (by omega) ?_;have k:K (nE (ycu (AB cs A) cs.length cs.length 0)).1 (nE (ycu (AB cs A) cs.length cs.length 0)).2.1 (nE (ycu (AB cs A) cs.length cs.length 0)).2.2:=k
  cases hs:ycu (AB cs A) cs.length cs.length 0<;>(rw [hs] at k;exact k)
 ·show aB false _ (aB false _ (aB false _ (aB true _ _)));rw [aU,aU,aU,aX];refine ⟨cs.length+1,?_⟩;rw [dW];refine ySf h (hP rfl) cs.length 0 (cs.length+1) (by omega) (by omega) ?_;have k:K (nE (ycu (vV P) cs.length cs.length 0)).1 (nE (ycu (vV P) cs.length cs.length 0)).2.1 (nE (ycu (vV P) cs.length cs.length 0)).2.2:=k
  cases hs:ycu (vV P) cs.length cs.length 0<;>(rw [hs] at k;exact k)
 ·show aB false _ (aB false _ (aB false _ (aB false _ _)));rw [aU,aU,aU,aU];refine ⟨cs.length+1,?_⟩;rw [dW];refine ySg h cs.length 0 (cs.length+1) (by omega) (by omega) ?_;have k:K (nE (ycu (tR A) cs.length cs.length 0)).1 (nE (ycu (tR A) cs.length cs.length 0)).2.1 (nE (ycu (tR A) cs.length cs.length 0)).2.2:=k
  cases hs:ycu (tR A) cs.length cs.length 0<;>(rw [hs] at k;exact k)
def prt (cs:List Ck) (A:List (List RS)) (i:Nat):Rat:=wV (cs.getD i default) (A.getD i [])/((totC (cs.getD i default).cuts (cs.getD i default).dens:Int):Rat)
def cD (cs:List Ck) (A:List (List RS)) (n:Nat):List Rat:=(List.range n).map (prt cs A)
theorem OB (cs:List Ck) (A:List (List RS)) (n:Nat):(cD cs A n).length=n:=by unfold cD;rw [dS,List.length_range]
theorem qq (cs:List Ck) (A:List (List RS)) (n:Nat):cD cs A (n+1)=cD cs A n++[prt cs A n]:=by unfold cD;rw [List.range_succ,yJ];rfl
def jA (cs:List Ck) (A:List (List RS)) (X Y:Prop):Nat→Nat→Prop
 | 0,_=>X
 | r+1,i=>if small (prt cs A i) then jA cs A X Y r (i+1) else Y
section
variable {cs:List Ck} {A:List (List RS)}
theorem DV.total (h:DV cs A) {i:Nat} (hi:i<cs.length) (K:Int→Int→Prop):cE (cs.getD i default).len (aA (cs.getD i default).cuts) (aA (cs.getD i default).dens) K=K (totC (cs.getD i default).cuts (cs.getD i default).dens) 0:=by have hok:=h.d.ok i hi;have l1:=hok.l1;have l2:=hok.l2;rw [Xk (by omega) (by omega),YQ hok.ck]
theorem DV.div (h:DV cs A) (hw:∀ c∈cs,∀ a∈A,Go.Pf.Vc.small (wV c a)) {i:Nat} (hi:i<cs.length) (K:Int→Int→Int→Prop):iF (wV (cs.getD i default) (A.getD i [])).num (wV (cs.getD i default) (A.getD i [])).den ((totC (cs.getD i default).cuts (cs.getD i default).dens:Int):Rat).num ((totC (cs.getD i default).cuts (cs.getD i default).dens:Int):Rat).den K=fitK (prt cs A i) K:=by
 have hok:=h.d.ok i hi;have tb:=Ax hok;have tp:=yM9 hok;have hs:Go.Pf.Vc.small ((totC (cs.getD i default).cuts (cs.getD i default).dens:Int):Rat):=rV (by omega);have h0:((totC (cs.getD i default).cuts (cs.getD i default).dens:Int):Rat)≠0:=fun e=>by
  have:(((totC (cs.getD i default).cuts (cs.getD i default).dens:Int):Rat))=((0:Int):Rat):=e;have:=Rat.intCast_inj.1 this;omega
 exact Kf (h.small hw hi hi) hs h0 K
theorem qr (h:DV cs A) (hw:∀ c∈cs,∀ a∈A,small (wV c a)) (x2:List PV→List PV→List PV→List PV→Int→Int→Bool→Prop) (x3:List PV→List PV→List PV→List PV→Int→Prop) {YY:Prop} (hY:∀ L,x3 L (cks cs) (aD A) (aO cs A) 16=YY) :
  ∀ (r i n:Nat),i+r=cs.length→r<n→GC yaP cE gX iF yat x2 x3 n (cO (cD cs A i)) (cks cs) (aD A) (aO cs A) (cs.length:Int) (i:Int)=jA cs A (x2 (cO (cD cs A cs.length)) (cks cs) (aD A) (aO cs A) (cs.length:Int) (cs.length:Int) false) YY r i
 | 0,i,n+1,hi,hn=>by
  obtain rfl:i=cs.length:=by omega
  rw [GC,bG (by omega)];rfl
 | r+1,i,n+1,hi,hn=>by
  have h6:=h.d.n6;have hl:=h.l;have hi':i<cs.length:=by omega
  have e1:=cL (n:=(i:Int)+1) (by omega) (by omega);have ih:=qr h hw x2 x3 hY r (i+1) n (by omega) (by omega);rw [GC];dsimp only [lt,Go.Pf.jn];rw [bS (by omega),aI (by omega),dW,aI (by omega),cH,lR hi',dE,mQ,qU,rZ,h.total hi',aI (by omega),xW,aI (by omega),BW hi',oE,aI (by omega),iZ,tP,dS,aI (by omega),vS (by rw [dS];omega),vT,xU,xV,DQ (by omega),BV,h.div hw hi'];unfold jA fitK
  by_cases hs:small (prt cs A i)
  ·rw [YQ hs,YQ hs];show aB false _ _=_;rw [aU,aI rfl,tP,OB];simp only [jH,bX,decide_true,cZ];rw [show (!decide (i+1≤i))=true by rw [Os (by omega)];rfl,cZ,aI (by unfold room;omega),show (true&&true)=true from rfl,cZ,e1,dN,pi,pj,← qq];exact ih
  ·rw [YR hs,YR hs];show aB true _ _=_;rw [aX,hY]
theorem qu (h:DV cs A) (hw:∀ c∈cs,∀ a∈A,small (wV c a)) (x2:List PV→List PV→List PV→List PV→Int→Int→Bool→Prop) (x3:List PV→List PV→List PV→List PV→Int→Prop) {YY:Prop} (hY:∀ L,x3 L (cks cs) (aD A) (aO cs A) 16=YY) :
  ∀ (r i n:Nat),i+r=cs.length→r<n→GF yaP qQ cE gX iF yat x2 x3 n (cO (cD cs A i)) (cks cs) (aD A) (aO cs A) (cs.length:Int) (i:Int)=jA cs A (x2 (cO (cD cs A cs.length)) (cks cs) (aD A) (aO cs A) (cs.length:Int) (cs.length:Int) false) YY r i
 | 0,i,n+1,hi,hn=>by
  obtain rfl:i=cs.length:=by omega
  rw [GF,bG (by omega)];rfl
 | r+1,i,n+1,hi,hn=>by
  have h6:=h.d.n6;have hl:=h.l;have hi':i<cs.length:=by omega
  have e1:=cL (n:=(i:Int)+1) (by omega) (by omega);have ih:=qu h hw x2 x3 hY r (i+1) n (by omega) (by omega);rw [GF];dsimp only [lt,Go.Pf.jn];rw [bS (by omega),aI (by omega),dW,aI (by omega),cH,lR hi',dE,mQ,qU,rZ,h.total hi',aI (by omega),xW,aI (by omega),BW hi',oE,aI (by omega),iZ,tP,dS,aI (by omega),vS (by rw [dS];omega),vT,xU,xV,DQ (by omega),BV,h.div hw hi'];unfold jA fitK
  by_cases hs:small (prt cs A i)
  ·rw [YQ hs,YQ hs];show aB false _ _=_;rw [aU,aI rfl,tP,OB];simp only [jH,bX,decide_true,cZ];rw [show (!decide (i+1≤i))=true by rw [Os (by omega)];rfl,cZ,aI (by unfold room;omega),show (true&&true)=true from rfl,cZ,e1,dN,pi,pj,← qq];exact ih
  ·rw [YR hs,YR hs];show aB true _ _=_;rw [aX,hY]
theorem yyj (h:DV cs A) (hw:∀ c∈cs,∀ a∈A,small (wV c a)) (x0:List PV→List PV→List PV→Int→Int→Bool→Prop) (x1:List PV→List PV→List PV→Int→Prop) (x2:List PV→List PV→List PV→List PV→Int→Int→Bool→Prop) (x3:List PV→List PV→List PV→List PV→Int→Prop) {YY:Prop} (hY1:x1 (cks cs) (aD A) (aO cs A) 16=YY) (hY:∀ L,x3 L (cks cs) (aD A) (aO cs A) 16=YY) :
 NR yaP cE gX iF yat x0 x1 x2 x3 (cs.length+1) (cks cs) (aD A) (aO cs A) (cs.length:Int) 0=jA cs A (x2 (cO (cD cs A cs.length)) (cks cs) (aD A) (aO cs A) (cs.length:Int) (cs.length:Int) false) YY cs.length 0:=by
 have h6:=h.d.n6;have h1:=h.d.n0;have hl:=h.l;have hi':0<cs.length:=by omega
 have e1:=cL (n:=(0:Int)+1) (by omega) (by omega);obtain ⟨r,hr⟩:∃ r,cs.length=r+1:=⟨cs.length-1,by omega⟩;have ih:=qr h hw x2 x3 hY r 1 cs.length (by omega) (by omega);rw [NR];dsimp only [lt,Go.Pf.jn];rw [bS (by omega),aI (by omega),dW,aI (by omega),show (0:Int).toNat=0 from rfl,lR hi',dE,mQ,qU,rZ,h.total hi',aI (by omega),xW,aI (by omega),BW hi',oE,aI (by omega),iZ,tP,dS,aI (by omega),vS (by rw [dS];omega),vT,xU,xV,DQ (by omega),BV,h.div hw hi'];have eK:∀ X:Prop,jA cs A X YY cs.length 0=if small (prt cs A 0) then jA cs A X YY r 1 else YY:=fun X=>by rw [hr];rfl
 rw [eK];unfold fitK
 by_cases hs:small (prt cs A 0)
 ·rw [YQ hs,YQ hs];show aB false _ _=_;rw [aU,e1];exact ih
 ·rw [YR hs,YR hs];show aB true _ _=_;rw [aX,hY1]
theorem yuD (h:DV cs A) (hw:∀ c∈cs,∀ a∈A,small (wV c a)) (x0:List PV→List PV→List PV→Int→Int→Bool→Prop) (x1:List PV→List PV→List PV→Int→Prop) (x2:List PV→List PV→List PV→List PV→Int→Int→Bool→Prop) (x3:List PV→List PV→List PV→List PV→Int→Prop) {YY:Prop} (hY1:x1 (cks cs) (aD A) (aO cs A) 16=YY) (hY:∀ L,x3 L (cks cs) (aD A) (aO cs A) 16=YY) :
 NT yaP qQ cE gX iF yat x0 x1 x2 x3 (cs.length+1) (cks cs) (aD A) (aO cs A) (cs.length:Int) 0=jA cs A (x2 (cO (cD cs A cs.length)) (cks cs) (aD A) (aO cs A) (cs.length:Int) (cs.length:Int) false) YY cs.length 0:=by
 have h6:=h.d.n6;have h1:=h.d.n0;have hl:=h.l;have hi':0<cs.length:=by omega
 have e1:=cL (n:=(0:Int)+1) (by omega) (by omega);obtain ⟨r,hr⟩:∃ r,cs.length=r+1:=⟨cs.length-1,by omega⟩;have ih:=qu h hw x2 x3 hY r 1 cs.length (by omega) (by omega);rw [NT];dsimp only [lt,Go.Pf.jn];rw [bS (by omega),aI (by omega),dW,aI (by omega),show (0:Int).toNat=0 from rfl,lR hi',dE,mQ,qU,rZ,h.total hi',aI (by omega),xW,aI (by omega),BW hi',oE,aI (by omega),iZ,tP,dS,aI (by omega),vS (by rw [dS];omega),vT,xU,xV,DQ (by omega),BV,h.div hw hi'];have eK:∀ X:Prop,jA cs A X YY cs.length 0=if small (prt cs A 0) then jA cs A X YY r 1 else YY:=fun X=>by rw [hr];rfl
 rw [eK];unfold fitK
 by_cases hs:small (prt cs A 0)
 ·rw [YQ hs,YQ hs];show aB false _ _=_;rw [aU,e1];exact ih
 ·rw [YR hs,YR hs];show aB true _ _=_;rw [aX,hY1]
end
def XF (a b:Int):Int:=u8.wrap (BitVec.ofInt u8.bits a|||BitVec.ofInt u8.bits b).toNat
def fE:Nat→Int
 | 0=>1
 | 1=>2
 | 2=>4
 | 3=>8
 | _=>16
def pV (cs:List Ck) (A:List (List RS)) (P:List Rat) (g:Bool) (acc:Int) (i:Nat):Int:=if (brk cs A P g (fE i)).2.2 then acc else XF acc (fE i)
theorem XG {i:Nat} (h:i<5):u8.wrap ((1:Int)*2 ^ (min ((i:Int)).toNat u8.bits))=fE i:=by
 obtain rfl|rfl|rfl|rfl|rfl:i=0∨i=1∨i=2∨i=3∨i=4:=by omega
 all_goals decide
theorem XH (i:Nat):fE i=1∨fE i=2∨fE i=4∨fE i=8∨fE i=16:=by unfold fE;split<;>simp
section
variable {cs:List Ck} {A:List (List RS)}
theorem yLD (h:DV cs A) (hw:∀ c∈cs,∀ a∈A,small (wV c a)) {P:List Rat} (hP:P.length=cs.length) {g:Bool} (hg:∀ K,yae (cks cs) (aD A) (aO cs A) (cO P) K=K g) (x1:List PV→List PV→List PV→List PV→Int→Int→List PV→Int→Bool→Prop) {n i:Nat} (hi:i<5) (e acc:Int) (l8:List PV) :
  Dy yaP cE gX iF yat x1 (n+1) (cO P) (cks cs) (aD A) (aO cs A) e acc l8 (i:Int)=Dy yaP cE gX iF yat x1 n (cO P) (cks cs) (aD A) (aO cs A) e (pV cs A P g acc i) l8 ((i+1:Nat):Int):=by
 have e1:=cL (n:=(i:Int)+1) (by omega) (by omega);have hn:(!decide ((i:Int)<0))=true:=by rw [Os (by omega)];rfl
 rw [Dy];dsimp only [lt,Go.Pf.jn];rw [bS (by omega),hn,cZ,XG hi,aI rfl,aI (by omega),yF,XE h hw (fun _=>hP) (XH i) hg,e1,dN];unfold pV
 cases (brk cs A P g (fE i)).2.2 with
 | true =>show aB false _ _=_;rw [aU,show (decide ((cO P).length=(cO P).length)&&decide ((cO P).length=(cO P).length))=true by simp,cZ];rfl
 | false =>show aB true _ _=_;rw [aX,cZ,show (decide ((cO P).length=(cO P).length)&&decide ((cO P).length=(cO P).length))=true by simp,cZ];rfl
def qv (cs:List Ck) (A:List (List RS)) (P:List Rat) (g:Bool):Int:=pV cs A P g (pV cs A P g (pV cs A P g (pV cs A P g (pV cs A P g 0 0) 1) 2) 3) 4
theorem yuE {X Y:Prop}:∀ (r i:Nat),((∀ j,i≤j→j<i+r→small (prt cs A j))∧jA cs A X Y r i=X)∨(¬(∀ j,i≤j→j<i+r→small (prt cs A j))∧jA cs A X Y r i=Y)
 | 0,i=>.inl ⟨fun j h1 h2=>by omega,rfl⟩
 | r+1,i=>by
  rw [jA]
  by_cases hs:small (prt cs A i)
  ·rw [YQ hs];rcases yuE (X:=X) (Y:=Y) r (i+1) with ⟨h1,h2⟩ | ⟨h1,h2⟩
   ·refine .inl ⟨fun j k1 k2=>?_,h2⟩
    by_cases hj:j=i
    ·subst hj;exact hs
    ·exact h1 j (by omega) (by omega)
   ·exact .inr ⟨fun hh=>h1 fun j k1 k2=>hh j (by omega) (by omega),h2⟩
  ·rw [YR hs];exact .inr ⟨fun hh=>hs (hh i (by omega) (by omega)),rfl⟩
def XI (cs:List Ck) (A:List (List RS)):Prop:=∃ p:Rat,0≤p∧p<((cs.getD 0 default).len:Rat)∧¬∃ a∈A,memP a p
open Classical in
noncomputable def iJ (cs:List Ck) (A:List (List RS)):Bool:=decide (XI cs A)
theorem qw:iJ cs A=true↔XI cs A:=by unfold iJ;exact @decide_eq_true_iff _ (Classical.propDecidable _)
theorem DV.gapD_eq (h:DV cs A) (W PT:List PV) (K:Bool→Prop):yae (cks cs) (aD A) W PT K=K (iJ cs A):=by
 obtain ⟨l,hp,hb,e⟩:=h.gap W PT;rw [e];congr 1;rw [Cg,qw,qg l 0 hb (fun s hs=>h.flatV s (hp.mem_iff.1 hs)) (fun s hs=>by
  obtain ⟨a,ha,hs⟩:=List.mem_flatten.1 (hp.mem_iff.1 hs);exact (h.wi a ha s hs).2)]
 have hm:∀ p,memP l p↔∃ a∈A,memP a p:=fun p=>by
  constructor
  ·rintro ⟨s,hs,k⟩;obtain ⟨a,ha,hs⟩:=List.mem_flatten.1 (hp.mem_iff.1 hs);exact ⟨a,ha,s,hs,k⟩
  ·rintro ⟨a,ha,s,hs,k⟩;exact ⟨s,hp.mem_iff.2 (List.mem_flatten.2 ⟨a,ha,hs⟩),k⟩
 unfold XI;constructor
 ·rintro ⟨p,h1,h2,h3⟩;exact ⟨p,h1,h2,fun k=>h3 ((hm p).2 k)⟩
 ·rintro ⟨p,h1,h2,h3⟩;exact ⟨p,h1,h2,fun k=>h3 ((hm p).1 k)⟩
end
theorem qx {f:Nat→Bool}:∀ {r i:Nat},yo6 f r i=none↔∀ j,i≤j→j<i+r→f j=false
 | 0,i=>⟨fun _ j h1 h2=>by omega,fun _=>rfl⟩
 | r+1,i=>by
  rw [yo6]
  cases hf:f i with
  | true=>exact ⟨fun h=>by simp at h,fun h=>by have:=h i (by omega) (by omega);rw [hf] at this;cases this⟩
  | false=>
   show yo6 f r (i+1)=none↔_;rw [qx];constructor
   ·intro h j h1 h2
    by_cases hj:j=i
    ·subst hj;exact hf
    ·exact h j (by omega) (by omega)
   ·exact fun h j h1 h2=>h j (by omega) (by omega)
theorem qy {f:Nat→Bool}:∀ {r i j:Nat},yo6 f r i=some j→i≤j∧j<i+r∧f j=true
 | 0,i,j,h=>by cases h
 | r+1,i,j,h=>by
  rw [yo6] at h
  cases hf:f i with
  | true=>
   rw [hf] at h;have h:some i=some j:=h
   cases h
   exact ⟨by omega,by omega,hf⟩
  | false =>rw [hf] at h;obtain ⟨h1,h2,h3⟩:=qy (r:=r) (i:=i+1) h;exact ⟨by omega,by omega,h3⟩
theorem OC {f:Nat→Nat→Bool} {n:Nat}:∀ {r i:Nat},ycu f n r i=none↔∀ a,i≤a→a<i+r→∀ b,b<n→f a b=false
 | 0,i=>⟨fun _ a h1 h2=>by omega,fun _=>rfl⟩
 | r+1,i=>by
  rw [ycu]
  cases hb:yo6 (f i) n 0 with
  | some j =>obtain ⟨_,h2,h3⟩:=qy hb;exact ⟨fun h=>by simp at h,fun h=>by have:=h i (by omega) (by omega) j (by omega);rw [h3] at this;cases this⟩
  | none=>
   show ycu f n r (i+1)=none↔_;rw [OC];constructor
   ·intro h a h1 h2 b h3
    by_cases ha:a=i
    ·subst ha;exact qx.1 hb b (by omega) (by omega)
    ·exact h a (by omega) (by omega) b h3
   ·exact fun h a h1 h2 b h3=>h a (by omega) (by omega) b h3
def Hk (a b:Int):Int:=u8.wrap (BitVec.ofInt u8.bits a&&&BitVec.ofInt u8.bits b).toNat
section
variable {cs:List Ck} {A:List (List RS)}
theorem yO4 {P Q:List Rat} {g:Bool} {c:Int} (h:c≠8):brk cs A P g c=brk cs A Q g c:=by
 unfold brk;split
 ·rfl
 split
 ·rfl
 split
 ·rfl
 first | rfl | (rw [YR h,YR h])
end
def InA (D:Int) (A:List (List RS)):Prop:=∀ a∈A,∀ s∈a,In D s.1∧In D s.2
section
variable {len:Int} {cuts dens:List Int}
theorem yNv (h:VC len cuts dens) {s:RS} (hv:s.1<s.2) (hw:0≤s.1∧s.2≤(len:Rat)):0≤dV (vX cuts dens) s∧dV (vX cuts dens) s≤12000:=by have a:=Hd h hw.1;have b:=Hd h hw.2;have c:=Hd h (eV hv);have t:=Xw h;have tb:=iM.2 (Ax h).2;have tb:((totC cuts dens:Int):Rat)≤12000:=tb;show 0≤vX cuts dens s.2-vX cuts dens s.1∧vX cuts dens s.2-vX cuts dens s.1≤12000;grind
theorem ySh {D:Int} (hD:1≤D) {s:RS} (hi:In D s.1∧In D s.2):In D (dV (vX cuts dens) s):=(qc hD hi.2).sub (qc hD hi.1)
theorem yHy (h:VC len cuts dens) {D:Int} (hD:1≤D∧D≤1000000000000) {s:RS} (hs:nC s) (hv:s.1<s.2) (hw:0≤s.1∧s.2≤(len:Rat)) (hi:In D s.1∧In D s.2) (K:Int→Int→Int→Prop) :
  ybG len (aA cuts) (aA dens) s.1.num s.1.den s.2.num s.2.den K=K (dV (vX cuts dens) s).num (dV (vX cuts dens) s).den 0:=by
 have l1:=h.l1;have l2:=h.l2;rw [yLr (by omega) (by omega) hs.1.i1 hs.1.i2 hs.2.i1 hs.2.i2];unfold DL;rw [YQ h.ck,YQ ⟨Km hs.1 hw.1 (by grind),Km hs.2 (by grind) hw.2,by rw [rX,rX];grind⟩,rX,rX,yLA h ⟨hD.1,by omega⟩ hi.1 hi.2 hw.1 (eV hv) hw.2];rfl
theorem qz (h:VC len cuts dens) {D:Int} (hD:1≤D∧D≤1000000000000) {l:List RS} (hs:∀ s∈l,nC s) (hv:∀ s∈l,s.1<s.2) (hw:Wi len l) (hi:∀ s∈l,In D s.1∧In D s.2) (hl:l.length≤60) (z z':Int) (K:Int→Int→Int→Prop) :
  ∀ (r i n:Nat) (q:Rat),i+r=l.length→r<n→In D q→0≤q→q≤12000*((i:Int):Rat) →
   small (q+kL (dV (vX cuts dens)) (l.drop i))∧ybP yaI ya3 ybl ybG ya1 (fun _ _ _ _ _ a b _ _ _ _=>K a b 0) (fun _ _ _ a b e=>K a b e) n len (aA cuts) (aA dens) z z' q.num q.den (cW l) (l.length:Int) (i:Int)=K (q+kL (dV (vX cuts dens)) (l.drop i)).num (q+kL (dV (vX cuts dens)) (l.drop i)).den 0
 | 0,i,n+1,q,hir,hn,hq,q0,q1=>by
  obtain rfl:i=l.length:=by omega
  rw [List.drop_length];have e:q+kL (dV (vX cuts dens)) []=q:=Rat.add_zero q;have hb:((l.length:Int):Rat)≤60:=iM.2 (show (l.length:Int)≤60 by omega);rw [e];refine ⟨hq.small (M:=720000) ⟨by omega,by omega⟩ (by omega) (by show -(720000:Rat)≤_;grind) (by show _≤(720000:Rat);grind),?_⟩;rw [ybP,bG (by omega)]
 | r+1,i,n+1,q,hir,hn,hq,q0,q1=>by
  have hil:i<l.length:=by omega
  have e1:=cL (n:=(i:Int)+1) (by omega) (by omega);have hd:l.drop i=l.getD i default::l.drop (i+1):=mZ default hil;have hm:l.getD i default∈l:=oV default hil;have hx:=hs _ hm;have hx2:=hv _ hm;have hx3:=hw _ hm;have hx4:=hi _ hm;rw [hd];have b1:=yNv h hx2 hx3;have b2:=ySh (cuts:=cuts) (dens:=dens) hD.1 hx4;have hc:((i+1:Nat):Int)=(i:Int)+1:=by omega
  have hc2:(((i+1:Nat):Int):Rat)=((i:Int):Rat)+1:=by rw [hc,Cj];rfl
  have hb:((i:Int):Rat)≤60:=iM.2 (show (i:Int)≤60 by omega);have hv1:=yHy h hD hx hx2 hx3 hx4;have es:q+kL (dV (vX cuts dens)) (l.getD i default::l.drop (i+1))=(q+dV (vX cuts dens) (l.getD i default))+kL (dV (vX cuts dens)) (l.drop (i+1)):=by show q+(dV (vX cuts dens) (l.getD i default)+kL (dV (vX cuts dens)) (l.drop (i+1)))=_;grind
  have step:ybP yaI ya3 ybl ybG ya1 (fun _ _ _ _ _ a b _ _ _ _=>K a b 0) (fun _ _ _ a b e=>K a b e) (n+1) len (aA cuts) (aA dens) z z' q.num q.den (cW l) (l.length:Int) (i:Int) =
    ybG len (aA cuts) (aA dens) (l.getD i default).1.num (l.getD i default).1.den (l.getD i default).2.num (l.getD i default).2.den (fun a b e=>aB (e !=0) (K 0 0 e) (ya1 q.num q.den a b (fun a b e=>aB (e !=0) (K 0 0 e) (ybP yaI ya3 ybl ybG ya1 (fun _ _ _ _ _ a b _ _ _ _=>K a b 0) (fun _ _ _ a b e=>K a b e) n len (aA cuts) (aA dens) z z' a b (cW l) (l.length:Int) ((i+1:Nat):Int))))):=by
   rw [ybP,bS (by omega)];dsimp only [lt];rw [lI,aI (by omega),aI (by omega),cH,BN hil,BO,GZ,Oo,Ha,Hb,e1,dN]
  rw [es,step,hv1,nz];generalize dV (vX cuts dens) (l.getD i default)=v at b1 b2;have sq:small q:=hq.small (M:=720000) ⟨by omega,by omega⟩ (by omega) (by show -(720000:Rat)≤_;grind) (by show _≤(720000:Rat);grind);have sv:small v:=b2.small (M:=720000) ⟨by omega,by omega⟩ (by omega) (by show -(720000:Rat)≤_;grind) (by show _≤(720000:Rat);grind);have hb2:((i:Int):Rat)≤59:=iM.2 (show (i:Int)≤59 by omega);have ss:small (q+v):=(hq.add b2).small (M:=720000) ⟨by omega,by omega⟩ (by omega) (by show -(720000:Rat)≤_;grind) (by show _≤(720000:Rat);grind);have ih:=qz h hD hs hv hw hi hl z z' K r (i+1) n (q+v) (by omega) (by omega) (hq.add b2) (by grind) (by rw [hc2];grind);refine ⟨ih.1,?_⟩;rw [DF sq sv];unfold fitK;rw [YQ ss];dsimp only;rw [nz];exact ih.2
theorem Pc.Worth_good {l:List RS} (p:Pc l) (h:VC len cuts dens) (hw:Wi len l) {D:Int} (hD:1≤D∧D≤1000000000000) (hi:∀ s∈l,In D s.1∧In D s.2) :
  small (kL (dV (vX cuts dens)) l)∧∀ K,ybK len (aA cuts) (aA dens) (cW l) K=K (kL (dV (vX cuts dens)) l).num (kL (dV (vX cuts dens)) l).den 0:=by
 have l1:=h.l1;have l2:=h.l2;have l0:=h.len0;have hn:=p.n;have g:=fun K=>qz h hD p.s (Kp p.c) hw hi (by omega) 0 0 K l.length 0 (l.length+1) 0 (by omega) (by omega) (In.int hD.1 0) eI (by show (0:Rat)≤12000*0;grind)
 have g0:=(g fun _ _ _=>True).1;rw [kT,Rat.zero_add] at g0;refine ⟨g0,fun K=>yzg _ _ _ _ _ _ _ (fun K k=>?_) K⟩;have hl:=(g K).2;rw [kT,Rat.zero_add] at hl;unfold ybK UU;rw [GX (by omega) (by omega),h.ck,nz,p.check,nz];dsimp only [Go.Pf.jn,lt];rw [lI];have fin:∃ n,ybP yaI ya3 ybl ybG ya1 (fun _ _ _ _ _ a b _ _ _ _=>K a b 0) (fun _ _ _ a b e=>K a b e) n len (aA cuts) (aA dens) 0 0 0 1 (cW l) (l.length:Int) 0:=⟨l.length+1,hl.mpr k⟩
 by_cases hl0:l.length=0
 ·rw [bG (by omega),aU];exact fin
 ·have h0:0<l.length:=by omega
  have m0:=oV (default:RS) h0;have m1:=oV (default:RS) (show l.length-1<l.length by omega);have w0:=hw _ m0;have w1:=hw _ m1;have s1:=p.s _ m1;have n0:0≤(l.getD 0 default).1.num:=Rat.num_nonneg.2 w0.1;have e1:=cL (n:=(l.length:Int)-1) (by omega) (by omega);have et:((l.length:Int)-1).toNat=l.length-1:=by omega
  rw [bS (by omega),aI (by omega),BN h0,BO,GZ,bG (by omega),e1,aI (by omega),aI (by omega),et,BN (by omega),BO,Ha,Hb];have sl:small (len:Rat):=rV (by omega);show ybl (l.getD (l.length-1) default).2.num (l.getD (l.length-1) default).2.den (len:Rat).num ((len:Rat).den:Int) _;rw [ov s1.2 sl,yO1,bG (by grind)];exact fin
end
theorem DV.Worth_good {cs:List Ck} {A:List (List RS)} (h:DV cs A) {D:Int} (hD:1≤D∧D≤1000000000000) (hi:InA D A) :
  (∀ c∈cs,∀ a∈A,Go.Pf.Vc.small (wV c a))∧∀ K,yaP (cks cs) (aD A) K=K (aO cs A) 0:=by
 have h6:=h.d.n6;have h1:=h.d.n0;have hl:=h.l;have e:iI (A.map cW)=aD A:=by unfold iI aD;rw [wP];rfl
 have hall:∀ c∈cs,∀ a∈A,Go.Pf.Vc.small (wV c a)∧∀ K,ybK c.len (aA c.cuts) (aA c.dens) (cW a) K=K (wV c a).num (wV c a).den 0:=fun c hc a ha=>by
  obtain ⟨k1,k2⟩:=h.d.mem hc;refine (h.p a ha).Worth_good k1 ?_ hD (hi a ha);rw [k2];exact h.wi a ha
 refine ⟨fun c hc a ha=>(hall c hc a ha).1,fun K=>?_⟩;have hck:∀ K,ydh (cks cs) (iI (A.map cW)) K=K 0:=fun K=>by rw [e];exact yO2 h K
 have hf:∀ c∈cs,∀ a∈A,fW c (cW a)=((wV c a).num,((wV c a).den:Int),0):=fun c hc a ha=>yR6 (t:=((wV c a).num,((wV c a).den:Int),0)) (hall c hc a ha).2
 rw [← e];refine yNr (F:=fW) (by rw [dS];exact hl) h1 h6 hck (fun c hc p hp K=>?_) (fun _=>⟨?_,rfl⟩) (fun c hc p hp hn=>?_) K
 ·obtain ⟨a,ha,rfl⟩:=oI.1 hp;rw [hf c hc a ha];exact (hall c hc a ha).2 K
 ·unfold aO;refine Cc fun c hc=>?_
  unfold cO;rw [wP,wP];congr 1;refine Cc fun a ha=>?_
  show pR (wV c a)=.agg [.int .i64 (fW c (cW a)).1,.int .i64 (fW c (cW a)).2.1];rw [hf c hc a ha];rfl
 ·obtain ⟨a,ha,rfl⟩:=oI.1 hp;rw [hf c hc a ha] at hn;exact absurd rfl hn
section
variable {cs:List Ck} {A:List (List RS)}
theorem DV.Make_of (h:DV cs A) (hw:∀ c∈cs,∀ a∈A,Go.Pf.Vc.small (wV c a)) (he:∀ K,yaP (cks cs) (aD A) K=K (aO cs A) 0) (hs:∀ j,j<cs.length→Go.Pf.Vc.small (prt cs A j)) (K:Int→List PV→Int→Prop) :
  ydM (cks cs) (aD A) K=K (qv cs A (cD cs A cs.length) (iJ cs A)) (aO cs A) 0:=by
 refine yBE _ _ _ _ _ (fun K k=>?_) K;unfold ydM VZ;rw [he];show aB false _ _;rw [aU];dsimp only [Go.Pf.jn];rw [dW];refine ⟨cs.length+1,(yyj h hw _ _ _ _ (YY:=K 0 [] 16) rfl (fun _=>rfl)).mpr ?_⟩;rcases yuE (cs:=cs) (A:=A) cs.length 0 with ⟨_,e⟩ | ⟨hn,_⟩
 ·refine e.mpr ?_;show aB false _ _;rw [aU,show (decide ((cO (cD cs A cs.length)).length=(cO (cD cs A cs.length)).length)&&decide ((cO (cD cs A cs.length)).length=(cO (cD cs A cs.length)).length))=true by simp,cZ];refine ⟨6,?_⟩;have hP:=OB cs A cs.length;have hg:=h.gapD_eq (aO cs A) (cO (cD cs A cs.length));have s:=fun (n i:Nat) (hi:i<5) (acc:Int)=>yLD h hw hP hg (fun f g l m o b d p q=>K b d (0:Int)) (n:=n) hi 0 acc (aO cs A)
  refine (s 5 0 (by omega) 0).mpr ((s 4 1 (by omega) _).mpr ((s 3 2 (by omega) _).mpr ((s 2 3 (by omega) _).mpr ((s 1 4 (by omega) _).mpr ?_))));rw [Dy,bG (by omega)];exact k
 ·exact absurd (fun j h1 h2=>hs j (by omega)) hn
theorem ra {o:Option (Nat×Nat)}:(nE o).2.2=false↔o=none:=by
 cases o with
 | none=>exact ⟨fun _=>rfl,fun _=>rfl⟩
 | some q=>obtain ⟨a,b⟩:=q;exact ⟨(fun h=>by cases h),(fun h=>by cases h)⟩
theorem yHz {P:List Rat} {g:Bool}:(brk cs A P g 1).2.2=false↔ycu (qX A) cs.length cs.length 0=none∧g=false:=by
 have e:brk cs A P g 1=(match ycu (qX A) cs.length cs.length 0 with | some (a,b)=>((a:Int),(b:Int),true) | none=>if g then (-1,-1,true) else (0,0,false)):=rfl;rw [e]
 cases ycu (qX A) cs.length cs.length 0 with
 | some q=>obtain ⟨a,b⟩:=q;exact ⟨(fun h=>by cases h),(fun h=>by cases h.1)⟩
 | none=>cases g<;>simp
end
theorem re {l:List Rat} (hl:l.length<1000) {K:Bool→Prop} :
  ∀ (r i n:Nat),i+r=l.length→r<n→Gk (fun _ _ _ _ _=>K true) (fun b=>K b) n (cO l) (cO l) (l.length:Int) (i:Int)=K true
 | 0,i,n+1,hi,hn=>by rw [Gk,bG (by omega)]
 | r+1,i,n+1,hi,hn=>by
  have e1:=cL (n:=(i:Int)+1) (by omega) (by omega);have ih:=re hl (K:=K) r (i+1) n (by omega) (by omega);rw [Gk];dsimp only [lt];rw [bS (by omega),tP,aI (by omega),aI (by omega),cH,vS (by omega),vT,aI (by omega),aI (by omega),vT,xU,xV,e1,dN,ih];have eb:∀ a b:Int,(!((a==a)&&((b==b)&&true)))=false:=fun a b=>by simp
  rw [eb,aU]
theorem yHA {l:List Rat} (hl:l.length<1000) (K:Bool→Prop):qQ (cO l) (cO l) K=K true:=by refine yip _ _ _ (fun K k=>?_) K;unfold qQ UI;rw [tP,cV rfl];exact ⟨l.length+1,(re hl (K:=K) l.length 0 (l.length+1) (by omega) (by omega)).mpr k⟩
section
variable {cs:List Ck} {A:List (List RS)}
theorem rf (h:DV cs A) {a0 a2 a3 a4 a5} (x0:List PV→List PV→List PV→List PV→List PV→Int→Int→Bool→Prop) (x1:List PV→List PV→List PV→Bool→Prop) :
  ∀ (r i n:Nat),i+r=cs.length→r<n→GE a0 qQ a2 a3 a4 a5 x0 x1 n (cks cs) (aD A) (aO cs A) (aO cs A) (aO cs A) (cs.length:Int) (i:Int)=x0 (cks cs) (aD A) (aO cs A) (aO cs A) (aO cs A) (cs.length:Int) (cs.length:Int) false
 | 0,i,n+1,hi,hn=>by
  obtain rfl:i=cs.length:=by omega
  rw [GE,bG (by omega)]
 | r+1,i,n+1,hi,hn=>by have h6:=h.d.n6;have hl:=h.l;have e1:=cL (n:=(i:Int)+1) (by omega) (by omega);have ih:=rf h (a0:=a0) (a2:=a2) (a3:=a3) (a4:=a4) (a5:=a5) x0 x1 r (i+1) n (by omega) (by omega);rw [GE];dsimp only [lt];rw [bS (by omega),xW,aI (by omega),aI (by omega),cH,BW (by omega),oE,aI (by omega),aI (by omega),oE,iZ,yHA (by rw [dS];omega),e1,dN,tW,aU,ih]
def mE (c:Int) (i:Nat):Bool:=Hk (Int.fdiv c (2 ^ (min ((i:Int)).toNat u8.bits))) 1==0
theorem yLE {P:List Rat} {g:Bool}:(brk cs A P g 16).2.2=false↔∀ a,a<cs.length→(A.getD a []).length=1:=by
 have e:brk cs A P g 16=nE (ycu (tR A) cs.length cs.length 0):=rfl;rw [e,ra,OC];constructor
 ·intro h a ha;have:=h a (by omega) (by omega) a ha;unfold tR at this;rw [Ef rfl,jK,decide_eq_false_iff_not] at this;exact Classical.not_not.1 this
 ·intro h a _ ha b hb;unfold tR;rw [Os (not_not_intro (h a (by omega))),Bool.and_false]
end
theorem yNw {n g:Nat} (e:Es) (he:EG e) {x y:PV} (hx:(qN n g).s.gd x=true) (hy:(qN n g).s.gd y=true):Ans (E e) Fy [x,y] (.int .i64 (tA x y)):=by
 obtain ⟨a,b,c,d,rfl,h1⟩:=pl hx;obtain ⟨a',b',c',d',rfl,h2⟩:=pl hy;obtain ⟨r,hr,ha⟩:=yqH e he [.agg [.int .i64 a,.int .i64 b,.int .i64 c,.int .i64 d],.agg [.int .i64 a',.int .i64 b',.int .i64 c',.int .i64 d']] (fun r=>r=.int .i64 (mV a b a' b')) (by
  show VQ a b c d a' b' c' d' (fun r=>PV.int .i64 r=.int .i64 (mV a b a' b'));unfold VQ VO;obtain ⟨k1,k2,k3⟩:=rY h1;obtain ⟨k4,k5,k6⟩:=rY h2;have:=Kg k1 k4 (fun x _=>PV.int .i64 x=.int .i64 (mV a b a' b'));rw [k2,k3,k5,k6] at this;rw [this,yQJ h1 h2])
 rw [hr] at ha;exact ha
structure LD (cs:List Ck) (A:List (List RS)) (t:Nat→Rat) (τ:Nat→Nat):Prop where
 d:DK cs
 l:A.length=cs.length
 t0:t 0=0
 tn:t cs.length=((cs.getD 0 default).len:Rat)
 lt:∀ j,j<cs.length→t j<t (j+1)
 sm:∀ j,j≤cs.length→small (t j)
 at_:∀ a,a<cs.length→τ a<cs.length∧A.getD a []=[(t (τ a),t (τ a+1))]
 inj:∀ a b,a<cs.length→b<cs.length→τ a=τ b→a=b
 sur:∀ j,j<cs.length→∃ a,a<cs.length∧τ a=j
section
variable {cs:List Ck} {A:List (List RS)} {t:Nat→Rat} {τ:Nat→Nat}
theorem LD.mono (h:LD cs A t τ):∀ {j i:Nat},i≤j→j≤cs.length→t i≤t j
 | 0,i,hij,_=>by
  obtain rfl:i=0:=by omega
  exact eI
 | j+1,i,hij,hj=>by
  by_cases e:i=j+1
  ·subst e;exact eI
  ·have:=h.mono (j:=j) (i:=i) (by omega) (by omega);have:=h.lt j (by omega);grind
theorem LD.bound (h:LD cs A t τ) {j:Nat} (hj:j≤cs.length):0≤t j∧t j≤((cs.getD 0 default).len:Rat):=by have a:=h.mono (iL j) hj;have b:=h.mono hj (bX _);rw [h.t0] at a;rw [h.tn] at b;exact ⟨a,b⟩
theorem LD.DV (h:LD cs A t τ):DV cs A:=by
 have hA:∀ a∈A,∃ j,j<cs.length∧a=[(t j,t (j+1))]:=fun a ha=>by
  obtain ⟨i,hi,rfl⟩:=XC [] ha;have hl:=h.l;obtain ⟨k1,k2⟩:=h.at_ i (by omega);exact ⟨_,k1,k2⟩
 refine ⟨h.d,h.l,fun a ha=>?_,fun a ha=>?_,fun a ha=>?_⟩
 ·obtain ⟨j,hj,rfl⟩:=hA a ha;refine ⟨⟨h.lt j hj,(fun t ht=>by cases ht),trivial⟩,fun s hs=>?_,by simp⟩;rcases qAn.1 hs with rfl | hs
  ·exact ⟨h.sm j (by omega),h.sm (j+1) (by omega)⟩
  ·cases hs
 ·obtain ⟨j,hj,rfl⟩:=hA a ha;simp
 ·obtain ⟨j,hj,rfl⟩:=hA a ha;have b1:=h.bound (j:=j) (by omega);have b2:=h.bound (j:=j+1) (by omega);unfold Xt;rw [sL];intro s hs;rcases qAn.1 hs with rfl | hs
  ·rw [Ef (Km (h.sm j (by omega)) b1.1 b1.2),Ef (Km (h.sm (j+1) (by omega)) b2.1 b2.2)];rfl
  ·cases hs
theorem LD.none (h:LD cs A t τ):ycu (qX A) cs.length cs.length 0=none:=by
 refine OC.2 fun a _ ha b hb=>?_
 have hv:=h.DV;have hl:=h.l;unfold qX
 by_cases hab:a<b
 case neg=>rw [Os hab,kU]
 rw [Ef hab,jK]
 cases ht:BT (A.getD a []) (A.getD b []) with
 | false=>rfl
 | true=>
  have ma:=oV [] (show a<A.length by omega);have mb:=oV [] (show b<A.length by omega);obtain ⟨p,p1,p2⟩:=(yI6 (Kp (hv.p _ ma).c) (Kp (hv.p _ mb).c)).1 ht;obtain ⟨k1,k2⟩:=h.at_ a (by omega);obtain ⟨m1,m2⟩:=h.at_ b hb;rw [k2] at p1;rw [m2] at p2;have hne:τ a≠τ b:=fun e=>by
   have:=h.inj a b (by omega) hb e;omega
  obtain ⟨s,hs,q1,q2⟩:=p1;rcases qAn.1 hs with rfl | hs
  case inr=>cases hs
  obtain ⟨s,hs,r1,r2⟩:=p2;rcases qAn.1 hs with rfl | hs
  case inr=>cases hs
  dsimp only at q1 q2 r1 r2
  by_cases hlt:τ a<τ b
  ·have:=h.mono (i:=τ a+1) (j:=τ b) (by omega) (by omega);grind
  ·have:=h.mono (i:=τ b+1) (j:=τ a) (by omega) (by omega);grind
theorem LD.nogap (h:LD cs A t τ):iJ cs A=false:=by
 cases hg:iJ cs A with
 | false=>rfl
 | true=>
  obtain ⟨p,p0,p1,hn⟩:=qw.1 hg;refine absurd ?_ hn;have key:∀ n,n≤cs.length→p<t n→∃ j,j<n∧t j≤p∧p<t (j+1):=by
   intro n;induction n with
   | zero =>intro _ hp;rw [h.t0] at hp;grind
   | succ n ih=>
    intro hn hp
    by_cases hc:p<t n
    ·obtain ⟨j,h1,h2,h3⟩:=ih (by omega) hc;exact ⟨j,by omega,h2,h3⟩
    ·exact ⟨n,by omega,tZ.1 hc,hp⟩
  obtain ⟨j,j1,j2,j3⟩:=key cs.length (bX _) (by rw [h.tn];exact p1);obtain ⟨a,a1,rfl⟩:=h.sur j j1;have hl:=h.l;refine ⟨A.getD a [],oV [] (by omega),(t (τ a),t (τ a+1)),?_,j2,j3⟩;rw [(h.at_ a a1).2];exact eU
theorem LD.one (h:LD cs A t τ):∀ a,a<cs.length→(A.getD a []).length=1:=fun a ha=>by rw [(h.at_ a ha).2];rfl
theorem LD.wV (h:LD cs A t τ) (c:Ck) {a:Nat} (ha:a<cs.length):wV c (A.getD a [])=vX c.cuts c.dens (t (τ a+1))-vX c.cuts c.dens (t (τ a)):=by rw [(h.at_ a ha).2];show (vX _ _ _-vX _ _ _)+0=_;rw [Rat.add_zero]
theorem LD.InA (h:LD cs A t τ) {D:Int} (hi:∀ j,j≤cs.length→In D (t j)):InA D A:=fun a ha s hs=>by
 obtain ⟨i,hi',rfl⟩:=XC [] ha;have hl:=h.l;obtain ⟨k1,k2⟩:=h.at_ i (by omega);rw [k2] at hs;rcases qAn.1 hs with rfl | hs
 ·exact ⟨hi _ (by omega),hi _ (by omega)⟩
 ·cases hs
end
section
variable {len:Int} {cuts dens:List Int}
theorem OD (h:VC len cuts dens):∀ (r i:Nat) (p v:Rat),i+r=dens.length→((cuts.getD i 0:Int):Rat)≤p→p≤(len:Rat)→0<v→v≤vu cuts dens (len:Rat) r i-vu cuts dens p r i →
  ∀ D,1≤D→D≤1000000000000→In D p→In D v→v≤12000→∃ q d,mrkS cuts dens r i p v=.ok q∧(1≤d∧d≤12)∧In (d*D) q
 | 0,i,p,v,hi,_,_,v0,v1=>by unfold vu at v1;grind
 | r+1,i,p,v,hi,hp,p1,v0,v1=>by
  intro D D1 D2 hpD hvD hv;have l1:=h.l1;have hl:=tQ h;have hd:=BR h (i:=i) (by omega);have hd2:=h.den (i:=i) (by omega);have hc0:(0:Rat)≤((cuts.getD i 0:Int):Rat):=AR.2 (h.lo (by omega));have hst:((cuts.getD i 0:Int):Rat)<((cuts.getD (i+1) 0:Int):Rat):=Eg.2 (h.step (i:=i) (by omega));have hc1:((cuts.getD (i+1) 0:Int):Rat)≤(len:Rat):=by rw [← h.last];exact BQ h (by omega) (bX _)
  have low:=Hc h r (i+1) (x:=p) (y:=((cuts.getD (i+1) 0:Int):Rat)) (by omega);have m1:=oS p (cuts.getD i 0:Int);have m2:=oS (len:Rat) (cuts.getD i 0:Int);have n1:=qW (dF p (cuts.getD i 0:Int)) (cuts.getD (i+1) 0:Int);have n2:=qW (dF (len:Rat) (cuts.getD i 0:Int)) (cuts.getD (i+1) 0:Int);have el:uC cuts i (len:Rat)=((cuts.getD (i+1) 0:Int):Rat):=by unfold uC;grind
  unfold vu at v1;rw [el] at v1;unfold mrkS
  by_cases c1:p<((cuts.getD (i+1) 0:Int):Rat)
  case neg=>
   rw [YQ c1];have ep:uC cuts i p=((cuts.getD (i+1) 0:Int):Rat):=by unfold uC;grind
   rw [ep] at v1;exact OD h r (i+1) p v (by omega) (tZ.1 c1) p1 v0 (by grind) D D1 D2 hpD hvD hv
  rw [YR (fun k=>k c1)];have ep:uC cuts i p=p:=by unfold uC;grind
  rw [ep,low (eV c1) eI] at v1
  by_cases cz:dens.getD i 0=0
  ·rw [YQ cz];rw [cz] at v1;have e0:((0:Int):Rat)=0:=rfl;exact OD h r (i+1) ((cuts.getD (i+1) 0:Int):Rat) v (by omega) eI hc1 v0 (by grind) D D1 D2 (In.int D1 _) hvD hv
  rw [YR cz];have hd1:0<dens.getD i 0:=by omega
  have dpos:(0:Rat)<((dens.getD i 0:Int):Rat):=En.2 hd1;have m:=Xx (x:=((cuts.getD (i+1) 0:Int):Rat)-p) (by grind) hd
  by_cases c3:(((cuts.getD (i+1) 0:Int):Rat)-p)*((dens.getD i 0:Int):Rat)<v
  ·have i1:=(In.int D1 (cuts.getD (i+1) 0)).sub hpD;have i2:=i1.mulI (dens.getD i 0);have i3:=hvD.sub i2;rw [xT (i1.small (M:=1000) ⟨by omega,by omega⟩ (by omega) (by show -(1000:Rat)≤_;grind) (by show _≤(1000:Rat);grind)),
    xT (i2.small (M:=12000) ⟨by omega,by omega⟩ (by omega) (by show -(12000:Rat)≤_;grind) (by show _≤(12000:Rat);grind)),YQ c3,
    xT (i3.small (M:=12000) ⟨by omega,by omega⟩ (by omega) (by show -(12000:Rat)≤_;grind) (by show _≤(12000:Rat);grind))]
   exact OD h r (i+1) ((cuts.getD (i+1) 0:Int):Rat) (v-(((cuts.getD (i+1) 0:Int):Rat)-p)*((dens.getD i 0:Int):Rat)) (by omega) eI hc1 (by grind) (by grind) D D1 D2 (In.int D1 _) i3 (by grind)
  ·have i1:=(In.int D1 (cuts.getD (i+1) 0)).sub hpD;have i2:=i1.mulI (dens.getD i 0);have i3:=hvD.div D1 (d:=dens.getD i 0) (by omega);have i4:=(hpD.up D1 (d:=dens.getD i 0) (by omega)).add i3;have hDD:dens.getD i 0*D≤12*D:=BZ hd2.2 (by omega);have hDD1:1*1≤dens.getD i 0*D:=jZ (by omega) D1 (by omega) (by omega);generalize hs:v/((dens.getD i 0:Int):Rat)=s at *
   have es:s*((dens.getD i 0:Int):Rat)=v:=by rw [← hs];exact HF (by grind)
   have s0:0≤s:=by
    refine tZ.1 fun k=>?_
    have:=Ee k dpos;grind
   have s1:p+s≤((cuts.getD (i+1) 0:Int):Rat):=by
    refine tZ.1 fun k=>?_
    have:(((cuts.getD (i+1) 0:Int):Rat)-p)<s:=by grind
    have:=Ee this dpos;grind
   rw [xT (i1.small (M:=1000) ⟨by omega,by omega⟩ (by omega) (by show -(1000:Rat)≤_;grind) (by show _≤(1000:Rat);grind)),
    xT (i2.small (M:=12000) ⟨by omega,by omega⟩ (by omega) (by show -(12000:Rat)≤_;grind) (by show _≤(12000:Rat);grind)),YR c3,
    xT (i3.small (M:=1000) ⟨by omega,by omega⟩ (by omega) (by show -(1000:Rat)≤_;grind) (by show _≤(1000:Rat);grind)),
    xT (i4.small (M:=1000) ⟨by omega,by omega⟩ (by omega) (by show -(1000:Rat)≤_;grind) (by show _≤(1000:Rat);grind))]
   exact ⟨_,dens.getD i 0,rfl,⟨by omega,hd2.2⟩,i4⟩
theorem yNx (h:VC len cuts dens) {p v:Rat} (p0:0≤p) (p1:p≤(len:Rat)) (v0:0<v) (hv:v≤vX cuts dens (len:Rat)-vX cuts dens p) {D:Int} (D1:1≤D) (D2:D≤1000000000000) (hp:In D p) (hvD:In D v) :
  ∃ q d,mrkC cuts dens p v=.ok q∧(1≤d∧d≤12)∧In (d*D) q∧vX cuts dens q=vX cuts dens p+v∧p<q∧q≤(len:Rat)∧∀ x,x<q→vX cuts dens x<vX cuts dens q:=by
 have c0:cuts.getD 0 0=0:=h.2.2.2.2.2.1;have t:=Xw h;have m0:=Hd h p0;have tb:((totC cuts dens:Int):Rat)≤12000:=iM.2 (Ax h).2;obtain ⟨q,d,e,hd,hq⟩:=OD h dens.length 0 p v (by omega) (by rw [c0];exact p0) p1 v0 hv D D1 D2 hp hvD (by grind);have ec:mrkC cuts dens p v=.ok q:=by unfold mrkC;rw [YR (by grind)];exact e
 obtain ⟨k1,k2,k3,_,k5⟩:=Xv h p0 p1 (eV v0) ec;refine ⟨q,d,ec,hd,hq,k1,?_,k3,k5 (by grind)⟩
 by_cases hlt:p<q
 ·exact hlt
 ·have:p=q:=by grind
  rw [← this] at k1;grind
end
section
variable {cs:List Ck} {A:List (List RS)}
noncomputable def iK (cs:List Ck) (A:List (List RS)) (c:Int):Nat→Nat→Bool
 | 0,_=>true
 | r+1,i=>(mE c i||!(brk cs A (cD cs A cs.length) (iJ cs A) (fE i)).2.2)&&iK cs A c r (i+1)
theorem XJ {c:Int} (h0:0≤c) (hc:c<32) (h8:Hk c 8=0):mE c 3=true:=by
 obtain ⟨n,rfl⟩:=Int.eq_ofNat_of_zero_le h0;have key:∀ m:Fin 32,Hk (m.1:Int) 8=0→mE (m.1:Int) 3=true:=by decide +kernel
 exact key ⟨n,by omega⟩ h8
theorem rh (h:DV cs A) (hw:∀ c∈cs,∀ a∈A,Go.Pf.Vc.small (wV c a)) {a0 a1 a2 a3 a4} {K:Bool→Int→Prop} {c:Int} {l4:List PV} (h3:mE c 3=true) :
  ∀ (r i:Nat),i+r=5→K (iK cs A c r i) 0→GG a0 a1 a2 a3 a4 yat (fun _ _ _ _ _ _ _=>K true 0) (fun _ _ _ b e=>K b e) (r+1) (cks cs) (aD A) (aO cs A) c l4 (i:Int)
 | 0,i,hi,k=>by
  obtain rfl:i=5:=by omega
  rw [GG,bG (by omega)];exact k
 | r+1,i,hi,k=>by
  have e1:=cL (n:=(i:Int)+1) (by omega) (by omega);have hn:(!decide ((i:Int)<0))=true:=by rw [Os (by omega)];rfl
  have ih:=rh h hw (a0:=a0) (a1:=a1) (a2:=a2) (a3:=a3) (a4:=a4) (K:=K) (l4:=l4) h3 r (i+1) (by omega);rw [GG];dsimp only [lt,Go.Pf.jn];rw [bS (by omega),hn,cZ,cZ,XG (by omega),e1,dN];show aB (mE c i) _ _
  cases hc:mE c i with
  | true =>rw [aX];simp only [iK,hc,Bool.true_or,jK] at k;exact ih k
  | false=>
   have hi3:i≠3:=fun e=>by rw [e,h3] at hc;cases hc
   have h8:fE i≠8:=by
    obtain rfl|rfl|rfl|rfl:i=0∨i=1∨i=2∨i=4:=by omega
    all_goals decide
   have hg:=XE h hw (P:=[]) (c:=fE i) (fun e=>absurd e h8) (XH i) (g:=iJ cs A) (fun K=>h.gapD_eq (aO cs A) (cO []) K);have hg:∀ K,yat (cks cs) (aD A) (aO cs A) [] (fE i) K=_:=hg;rw [aU,hg,yO4 (Q:=cD cs A cs.length) h8];simp only [iK,hc,tX] at k
   cases hb:(brk cs A (cD cs A cs.length) (iJ cs A) (fE i)).2.2 with
   | true =>rw [hb] at k;exact k
   | false =>rw [hb] at k;exact ih k
theorem ri (h:DV cs A) (hw:∀ c∈cs,∀ a∈A,Go.Pf.Vc.small (wV c a)) {a0 a1 a2 a3 a4} {K:Bool→Int→Prop} {c:Int} {l4:List PV} :
  ∀ (r i:Nat),i+r=5→K (iK cs A c r i) 0→GH a0 a1 a2 a3 a4 yat (fun _ _ _ _ _ _ _ _=>K true 0) (fun _ _ _ _ b e=>K b e) (r+1) (cO (cD cs A cs.length)) (cks cs) (aD A) (aO cs A) c l4 (i:Int)
 | 0,i,hi,k=>by
  obtain rfl:i=5:=by omega
  rw [GH,bG (by omega)];exact k
 | r+1,i,hi,k=>by
  have e1:=cL (n:=(i:Int)+1) (by omega) (by omega);have hn:(!decide ((i:Int)<0))=true:=by rw [Os (by omega)];rfl
  have ih:=ri h hw (a0:=a0) (a1:=a1) (a2:=a2) (a3:=a3) (a4:=a4) (K:=K) (c:=c) (l4:=l4) r (i+1) (by omega);rw [GH];dsimp only [lt,Go.Pf.jn];rw [bS (by omega),hn,cZ,cZ,XG (by omega),e1,dN,show (decide ((cO (cD cs A cs.length)).length=(cO (cD cs A cs.length)).length)&&decide ((cO (cD cs A cs.length)).length=(cO (cD cs A cs.length)).length))=true by simp,cZ,aI rfl,aI (by omega),yF];show aB (mE c i) _ _
  cases hc:mE c i with
  | true =>rw [aX];simp only [iK,hc,Bool.true_or,jK] at k;exact ih k
  | false=>
   have hg:=XE h hw (P:=cD cs A cs.length) (c:=fE i) (fun _=>OB cs A cs.length) (XH i) (g:=iJ cs A) (fun K=>h.gapD_eq (aO cs A) (cO (cD cs A cs.length)) K);rw [aU,hg];simp only [iK,hc,tX] at k
   cases hb:(brk cs A (cD cs A cs.length) (iJ cs A) (fE i)).2.2 with
   | true =>rw [hb] at k;exact k
   | false =>rw [hb] at k;exact ih k
theorem DV.AcceptAny (h:DV cs A) (hw:∀ c∈cs,∀ a∈A,Go.Pf.Vc.small (wV c a)) (hW:∀ K,yaP (cks cs) (aD A) K=K (aO cs A) 0) (hs:∀ j,j<cs.length→Go.Pf.Vc.small (prt cs A j)) {c:Int} (h0:0≤c) (K:Bool→Int→Prop) :
  Aq (cks cs) (aD A) c (aO cs A) K=K (decide (c≤31)&&iK cs A c 5 0) 0:=by
 refine yxT _ _ _ _ _ _ (fun K k=>?_) K;have h6:=h.d.n6;unfold Aq Wc;rw [hW,cV rfl];dsimp only [Go.Pf.jn,lt]
 by_cases hc:c≤31
 ·rw [Ef hc,jK] at k;rw [bG (by omega),xW,cV rfl];refine ⟨cs.length+1,(rf h _ _ cs.length 0 (cs.length+1) (by omega) (by omega)).mpr ?_⟩;show aB (Hk c 8 !=0) _ _
  by_cases h8:Hk c 8=0
  ·rw [h8,cV rfl];exact ⟨6,rh h hw (XJ h0 (by omega) h8) 5 0 rfl k⟩
  ·have e8:(Hk c 8 !=0)=true:=by simpa using h8
   rw [e8,aX,dW];refine ⟨cs.length+1,(yuD h hw _ _ _ _ (YY:=K false 16) rfl (fun _=>rfl)).mpr ?_⟩;rcases yuE (cs:=cs) (A:=A) cs.length 0 with ⟨_,e⟩ | ⟨hn,_⟩
   ·refine e.mpr ?_;show aB false _ _;rw [aU,show (decide ((cO (cD cs A cs.length)).length=(cO (cD cs A cs.length)).length)&&decide ((cO (cD cs A cs.length)).length=(cO (cD cs A cs.length)).length))=true by simp,cZ];exact ⟨6,ri h hw 5 0 rfl k⟩
   ·exact absurd (fun j h1 h2=>hs j (by omega)) hn
 ·rw [Os hc,kU] at k;rw [bS (by omega)];exact k
end
def upC (c:Ck):Nat→Int
 | 0=>0
 | i+1=>upC c i+c.dens.getD i 0*(c.cuts.getD (i+1) 0-c.cuts.getD i 0)
def aJ (c:Ck) (i:Nat):Rat:=((c.cuts.getD i 0:Int):Rat)
def aS (c:Ck) (i:Nat):Rat:=((c.dens.getD i 0:Int):Rat)
def eL (c:Ck) (i:Nat):Rat:=((upC c i:Int):Rat)
def iD (c:Ck) (x:Rat):Rat:=vX c.cuts c.dens x
def aY (c:Ck):Rat:=((totC c.cuts c.dens:Int):Rat)
def eE (L:Int) (c:Ck):Prop:=VC L c.cuts c.dens∧He c.dens
theorem OE (c:Ck) (i:Nat):eL c (i+1)=eL c i+aS c i*(aJ c (i+1)-aJ c i):=by unfold eL aJ aS;rw [upC,Cj,kR,Cl]
theorem Hl {L:Int} {c:Ck} (h:eE L c) {i:Nat} (hi:i<c.dens.length):aJ c i<aJ c (i+1):=by have:=h.1.l1;exact Eg.2 (h.1.step (i:=i) (by omega))
theorem DT {L:Int} {c:Ck} (h:eE L c):aJ c 0=0:=by unfold aJ;rw [h.1.2.2.2.2.2.1];rfl
theorem OF {L:Int} {c:Ck} (h:eE L c):aJ c c.dens.length=(L:Rat):=by unfold aJ;rw [h.1.last]
theorem BX {L:Int} {c:Ck} (h:eE L c) {i:Nat} (hi:i≤c.dens.length):0≤aJ c i:=by have:=BQ h.1 (iL i) hi;have h0:=DT h;unfold aJ at h0 ⊢;rw [h0] at this;exact this
theorem xX {L:Int} {c:Ck} (h:eE L c) {i:Nat} (hi:i≤c.dens.length):aJ c i≤(L:Rat):=by have:=BQ h.1 hi (bX _);have h0:=OF h;unfold aJ at h0 ⊢;rw [h0] at this;exact this
theorem den_pos {L:Int} {c:Ck} (h:eE L c) {i:Nat} (hi:i<c.dens.length):0<aS c i:=En.2 (h.2 i hi)
theorem XK {L:Int} {c:Ck} (h:eE L c):∀ i,i≤c.dens.length→iD c (aJ c i)=iD c 0+eL c i
 | 0,_=>by rw [DT h];show _=_+((0:Int):Rat);grind
 | i+1,hi=>by have ih:=XK h i (by omega);have e:=Ov h.1 (i:=i) (by omega) (u:=aJ c i) (p:=aJ c (i+1)) eI (eV (Hl h (by omega))) eI;have e':iD c (aJ c (i+1))=iD c (aJ c i)+aS c i*(aJ c (i+1)-aJ c i):=e;rw [e',ih,OE];grind
theorem OG {L:Int} {c:Ck} (h:eE L c) {i:Nat} (hi:i<c.dens.length) {y:Rat} (h0:aJ c i≤y) (h1:y≤aJ c (i+1)):iD c y=iD c 0+eL c i+aS c i*(y-aJ c i):=by have e:iD c y=iD c (aJ c i)+aS c i*(y-aJ c i):=Ov h.1 hi eI h0 h1;rw [e,XK h i (by omega)]
theorem XL {L:Int} {c:Ck} (h:eE L c):iD c (L:Rat)=iD c 0+aY c:=by have:=Xw h.1;unfold iD aY;grind
theorem pW {L:Int} {c:Ck} (h:eE L c):0<aY c:=by have h1:=(tQ h.1).1;have e:iD c 0<iD c (L:Rat):=Ow h.1 h.2 eI (by grind) eI;have:=XL h;grind
structure Ln where
 A:Rat
 B:Rat
def Ln.p (x:Ln) (q:Rat):Rat:=x.A+x.B*q
def cU (c:Ck) (f t:Nat) (x:Ln):Ln:=⟨((x.A-aJ c f)*aS c f+(eL c f-eL c t))/aS c t+aJ c t,(x.B*aS c f+aY c)/aS c t⟩
def wh (x:Ln) (n:Rat):Rat:=(n-x.A)/x.B
theorem rtri (a b:Rat):a<b∨a=b∨b<a:=by
 by_cases h:a<b
 ·exact .inl h
 ·by_cases k:b<a
  ·exact .inr (.inr k)
  ·exact .inr (.inl (by grind))
theorem gY {a b:Rat} (h:b≠0):a/b*b=a:=by rw [Rat.div_def,Rat.mul_assoc,Rat.inv_mul_cancel b h,Rat.mul_one]
theorem Kt {c:Ck} {f t:Nat} {x:Ln} (h:0<aS c t) (q:Rat):aS c t*((cU c f t x).p q-aJ c t)+eL c t=aS c f*(x.p q-aJ c f)+eL c f+q*aY c:=by
 have h0:aS c t≠0:=by grind
 have e1:=gY (a:=(x.A-aJ c f)*aS c f+(eL c f-eL c t)) h0;have e2:=gY (a:=x.B*aS c f+aY c) h0;unfold Ln.p cU;simp only;generalize ((x.A-aJ c f)*aS c f+(eL c f-eL c t))/aS c t=u at *
 generalize (x.B*aS c f+aY c)/aS c t=v at *
 grind
theorem yNz {a b:Rat} (h:0<b) (ha:0<a):0<a/b:=by rw [Rat.div_def];exact Rat.mul_pos ha (Rat.inv_pos.2 h)
theorem Hm {c:Ck} {f t:Nat} {x:Ln} (h:0<aS c t) (hf:0<aS c f) (hT:0<aY c) (hB:0≤x.B):0<(cU c f t x).B:=by have:=AT hB (eV hf);exact yNz h (by grind)
theorem oG {x:Ln} (h:0<x.B) (n:Rat):x.p (wh x n)=n:=by
 have e:=gY (a:=n-x.A) (b:=x.B) (by grind);unfold Ln.p wh;generalize (n-x.A)/x.B=u at *
 grind
theorem DU {x:Ln} (h:0≤x.B) {q r:Rat} (hq:q≤r):x.p q≤x.p r:=by have:=xZ hq h;unfold Ln.p;grind
theorem AD {x:Ln} (h:0<x.B) {q r:Rat} (hq:q<r):x.p q<x.p r:=by have:=KJ hq h;unfold Ln.p;grind
theorem rj {x:Ln} (h:0<x.B) {q n:Rat} (hq:q≤wh x n):x.p q≤n:=by have:=DU (eV h) hq;rw [oG h] at this;exact this
theorem Ku {x:Ln} (h:0<x.B) {q n:Rat}:wh x n=q↔x.p q=n:=by
 constructor
 ·intro e;rw [← e,oG h]
 ·intro e;rcases rtri (wh x n) q with k | k | k
  ·have:=AD h k;rw [oG h] at this;grind
  ·exact k
  ·have:=AD h k;rw [oG h] at this;grind
theorem XM {x:Ln} (h:0<x.B) {q n:Rat} (hq:x.p q<n):q<wh x n:=by
 rcases rtri (wh x n) q with k|k|k
 ·have:=AD h k;rw [oG h] at this;grind
 ·have:=oG h n;rw [k] at this;grind
 ·exact k
abbrev Sq:=Ck×Nat×Nat
def bB (s:Sq) (x:Ln):Ln:=cU s.1 s.2.1 s.2.2 x
def lJ:List Sq→Ln→Ln
 | [],x=>x
 | s::S,x=>lJ S (bB s x)
def jV (L:Int):List Sq→Ln→Rat→Prop
 | [],_,_=>True
 | s::S,x,q=>eE L s.1∧s.2.1<s.1.dens.length∧s.2.2<s.1.dens.length∧aJ s.1 s.2.1≤x.p q∧x.p q<aJ s.1 (s.2.1+1)∧aJ s.1 s.2.2≤(bB s x).p q∧(bB s x).p q<aJ s.1 (s.2.2+1)∧jV L S (bB s x) q
def tS (L:Int):List Sq→Ln→Rat→Prop
 | [],_,_=>True
 | s::S,x,q=>eE L s.1∧s.2.1<s.1.dens.length∧s.2.2<s.1.dens.length∧aJ s.1 s.2.1≤x.p q∧x.p q≤aJ s.1 (s.2.1+1)∧aJ s.1 s.2.2≤(bB s x).p q∧(bB s x).p q≤aJ s.1 (s.2.2+1)∧tS L S (bB s x) q
def mF:List Sq→Ln→Bool→List Rat
 | [],_,_=>[]
 | s::S,x,b=>(if b then [wh x (aJ s.1 (s.2.1+1))] else [])++wh (bB s x) (aJ s.1 (s.2.2+1))::mF S (bB s x) true
def mG (q:Rat):List Sq→Ln→Bool→List Sq
 | [],_,_=>[]
 | s::S,x,b=>(s.1,s.2.1+(if b=true∧wh x (aJ s.1 (s.2.1+1))=q then 1 else 0),s.2.2+(if wh (bB s x) (aJ s.1 (s.2.2+1))=q then 1 else 0))::mG q S (bB s x) true
def Ch (L:Int):List Ck→Rat→Rat→List Rat→Prop
 | [],_,_,ys=>ys=[]
 | c::cs,p,q,ys=>∃ y r,ys=y::r∧p≤y∧y≤(L:Rat)∧iD c y=iD c p+q*aY c∧Ch L cs y q r
def pX:List Sq→Ln→Rat→List Rat
 | [],_,_=>[]
 | s::S,x,q=>(bB s x).p q::pX S (bB s x) q
theorem rk {L:Int} {s:Sq} {x:Ln} {q:Rat} (h:eE L s.1) (h1:s.2.1<s.1.dens.length) (h2:s.2.2<s.1.dens.length) (a:aJ s.1 s.2.1≤x.p q) (b:x.p q≤aJ s.1 (s.2.1+1)) (c:aJ s.1 s.2.2≤(bB s x).p q) (d:(bB s x).p q≤aJ s.1 (s.2.2+1)) :
  iD s.1 ((bB s x).p q)=iD s.1 (x.p q)+q*aY s.1:=by
 rw [OG h h2 c d,OG h h1 a b];have:=Kt (x:=x) (c:=s.1) (f:=s.2.1) (t:=s.2.2) (den_pos h h2) q;unfold bB;grind
theorem rl {L:Int} {c:Ck} (h:eE L c) {p y q:Rat} (p0:0≤p) (p1:p≤(L:Rat)) (y0:0≤y) (y1:y≤(L:Rat)) (hq:0≤q) (e:iD c y=iD c p+q*aY c):p≤y:=by have:=AT hq (eV (pW h));exact (qa h.1 h.2 p0 p1 y0 y1).1 (by unfold iD at e;grind)
theorem tS.ch {L:Int} {q:Rat} (hq:0≤q):∀ {S:List Sq} {x:Ln},tS L S x q→Ch L (S.map (·.1)) (x.p q) q (pX S x q)
 | [],_,_=>rfl
 | s::S,x,⟨h,h1,h2,a,b,c,d,hr⟩=>by have e:=rk h h1 h2 a b c d;have k1:=BX h (i:=s.2.1) (by omega);have k2:=BX h (i:=s.2.2) (by omega);have k3:=xX h (i:=s.2.1+1) (by omega);have k4:=xX h (i:=s.2.2+1) (by omega);exact ⟨_,_,rfl,rl h (fG k1 a) (fG b k3) (fG k2 c) (fG d k4) hq e,fG d k4,e,tS.ch hq hr⟩
theorem tS.le_last {L:Int} {q:Rat} (hq:0≤q):∀ {S:List Sq} {x:Ln},tS L S x q→x.p q≤(lJ S x).p q
 | [],_,_=>eI
 | s::S,x,⟨h,h1,h2,a,b,c,d,hr⟩=>by have e:=rk h h1 h2 a b c d;have k1:=BX h (i:=s.2.1) (by omega);have k2:=BX h (i:=s.2.2) (by omega);have k3:=xX h (i:=s.2.1+1) (by omega);have k4:=xX h (i:=s.2.2+1) (by omega);exact fG (rl h (fG k1 a) (fG b k3) (fG k2 c) (fG d k4) hq e) (tS.le_last hq hr)
theorem rm {L:Int} {q0 q:Rat} (hq:q0≤q):∀ {S:List Sq} {x:Ln} {b:Bool},jV L S x q0→(∀ w∈mF S x b,q≤w)→(b=true→0<x.B)→(b=false→x.B=0)→tS L S x q
 | [],_,_,_,_,_,_=>trivial
 | s::S,x,b,⟨h,h1,h2,a1,a2,a3,a4,hr⟩,hw,hb,hn=>by
  have hB:0≤x.B:=by cases b<;>grind
  have hB':0<(bB s x).B:=Hm (den_pos h h2) (den_pos h h1) (pW h) hB;refine ⟨h,h1,h2,fG a1 (DU hB hq),?_,fG a3 (DU (eV hB') hq),rj hB' (hw _ (by simp [mF])),rm hq hr (fun w k=>hw w (by simp only [mF,qA3,qAn];exact Or.inr (Or.inr k))) (fun _=>hB') (fun k=>by cases k)⟩
  cases b with
  | true=>exact rj (hb rfl) (hw _ (by simp [mF]))
  | false=>
   have:=hn rfl;have e:x.p q=x.p q0:=by unfold Ln.p;rw [this];grind
   rw [e];exact eV a2
theorem yQN {L:Int} {c:Ck} {f t f' t':Nat} {x x':Ln} {q:Rat} (h:eE L c) (ht:t<c.dens.length) (ht':t'<c.dens.length) (hx:x'.p q=x.p q)
  (hf:f'=f∨(f'=f+1∧x.p q=aJ c (f+1))) (hg:t'=t∨(t'=t+1∧(cU c f t x).p q=aJ c (t+1))):(cU c f' t' x').p q=(cU c f t x).p q:=by
 have e1:=Kt (x:=x) (c:=c) (f:=f) (t:=t) (den_pos h ht) q;have e2:=Kt (x:=x') (c:=c) (f:=f') (t:=t') (den_pos h ht') q;have hd:=den_pos h ht';have u1:=OE c f;have u2:=OE c t;have ef:aS c f'*(x'.p q-aJ c f')+eL c f'=aS c f*(x.p q-aJ c f)+eL c f:=by
  rcases hf with rfl|⟨rfl,k⟩
  ·rw [hx]
  ·rw [hx,k,u1];grind
 have et:aS c t'*((cU c f t x).p q-aJ c t')+eL c t'=aS c t*((cU c f t x).p q-aJ c t)+eL c t:=by
  rcases hg with rfl|⟨rfl,k⟩
  ·rfl
  ·rw [k,u2];grind
 have e3:aS c t'*((cU c f' t' x').p q-(cU c f t x).p q)=0:=by grind
 rcases qCr.1 e3 with k|k
 ·grind
 ·grind
theorem rn {L:Int} {q:Rat} (hq:0≤q):∀ {S:List Sq} {x x':Ln} {b:Bool},tS L S x q→x'.p q=x.p q→(b=true→0<x.B)→(b=false→x.B=0∧∀ s r,S=s::r→x.p q<aJ s.1 (s.2.1+1))→(lJ S x).p q<(L:Rat)→jV L (mG q S x b) x' q∧(lJ (mG q S x b) x').p q=(lJ S x).p q
 | [],_,_,_,_,hx,_,_,_=>⟨trivial,hx⟩
 | s::S,x,x',b,⟨h,h1,h2,a1,a2,a3,a4,hr⟩,hx,hb,hn,hl=>by
  have hB:0≤x.B:=by cases b<;>grind
  have hB':0<(bB s x).B:=Hm (den_pos h h2) (den_pos h h1) (pW h) hB;have m1:=tS.le_last hq (S:=s::S) ⟨h,h1,h2,a1,a2,a3,a4,hr⟩;have m2:=tS.le_last hq hr;have kl:=OF h;have hl':(lJ S (bB s x)).p q<(L:Rat):=hl;have m1':x.p q≤(lJ S (bB s x)).p q:=m1;have hf:∃ f',f'=s.2.1+(if b=true∧wh x (aJ s.1 (s.2.1+1))=q then 1 else 0)∧f'<s.1.dens.length∧aJ s.1 f'≤x.p q∧x.p q<aJ s.1 (f'+1)∧(f'=s.2.1∨(f'=s.2.1+1∧x.p q=aJ s.1 (s.2.1+1))):=by
   by_cases k:b=true∧wh x (aJ s.1 (s.2.1+1))=q
   ·have e:=(Ku (hb k.1)).1 k.2;have hne:s.2.1+1≠s.1.dens.length:=fun k'=>by rw [k',kl] at e;grind
    refine ⟨_,rfl,?_⟩;rw [YQ k];have st:=Hl h (i:=s.2.1+1) (by omega);exact ⟨by omega,by grind,by grind,Or.inr ⟨rfl,e⟩⟩
   ·refine ⟨_,rfl,?_⟩;rw [YR k];refine ⟨h1,a1,?_,Or.inl rfl⟩
    cases b with
    | true=>
     have:¬x.p q=aJ s.1 (s.2.1+1):=fun k'=>k ⟨rfl,(Ku (hb rfl)).2 k'⟩
     show x.p q<aJ s.1 (s.2.1+1);grind
    | false=>exact (hn rfl).2 _ _ rfl
  have ht:∃ t',t'=s.2.2+(if wh (bB s x) (aJ s.1 (s.2.2+1))=q then 1 else 0)∧t'<s.1.dens.length∧aJ s.1 t'≤(bB s x).p q∧(bB s x).p q<aJ s.1 (t'+1)∧(t'=s.2.2∨(t'=s.2.2+1∧(bB s x).p q=aJ s.1 (s.2.2+1))):=by
   by_cases k:wh (bB s x) (aJ s.1 (s.2.2+1))=q
   ·have e:=(Ku hB').1 k;have hne:s.2.2+1≠s.1.dens.length:=fun k'=>by rw [k',kl] at e;grind
    refine ⟨_,rfl,?_⟩;rw [YQ k];have st:=Hl h (i:=s.2.2+1) (by omega);exact ⟨by omega,by grind,by grind,Or.inr ⟨rfl,e⟩⟩
   ·refine ⟨_,rfl,?_⟩;rw [YR k];have:¬(bB s x).p q=aJ s.1 (s.2.2+1):=fun k'=>k ((Ku hB').2 k')
    exact ⟨h2,a3,by show _<aJ s.1 (s.2.2+1);grind,Or.inl rfl⟩
  obtain ⟨f',ef,f1,f2,f3,f4⟩:=hf;obtain ⟨t',et,t1,t2,t3,t4⟩:=ht;have ee:(cU s.1 f' t' x').p q=(bB s x).p q:=yQN h h2 t1 hx f4 t4;obtain ⟨r1,r2⟩:=rn hq (S:=S) (x:=bB s x) (x':=cU s.1 f' t' x') (b:=true) hr ee (fun _=>hB') (fun k=>by cases k) hl';simp only [mG,← ef,← et];refine ⟨⟨h,f1,t1,by rw [hx];exact f2,by rw [hx];exact f3,?_,?_,r1⟩,r2⟩
  ·show aJ s.1 t'≤(cU s.1 f' t' x').p q;rw [ee];exact t2
  ·show (cU s.1 f' t' x').p q<aJ s.1 (t'+1);rw [ee];exact t3
def mnS (q:Rat):List Rat→Rat
 | []=>q
 | r::l=>mnS (if r<q then r else q) l
theorem rp:∀ (l:List Rat) (q:Rat),mnS q l≤q∧∀ w∈l,mnS q l≤w
 | [],_=>⟨eI,fun _ h=>by cases h⟩
 | r::l,q=>by
  obtain ⟨h1,h2⟩:=rp l (if r<q then r else q);have e:(if r<q then r else q)≤q∧(if r<q then r else q)≤r:=by split<;>grind
  refine ⟨fG h1 e.1,fun w hw=>?_⟩;rcases qAn.1 hw with rfl | hw
  ·exact fG h1 e.2
  ·exact h2 w hw
theorem yKj:∀ (l:List Rat) (q:Rat),mnS q l=q∨mnS q l∈l
 | [],_=>Or.inl rfl
 | r::l,q=>by
  rcases yKj l (if r<q then r else q) with h|h
  ·by_cases c:r<q
   ·exact Or.inr (by rw [mnS,h,YQ c];exact eU ..)
   ·exact Or.inl (by rw [mnS,h,YR c])
  ·exact Or.inr (eF _ h)
theorem rq {a:Rat}:∀ {l:List Rat} {q:Rat},a<q→(∀ w∈l,a<w)→a<mnS q l
 | [],_,h,_=>h
 | r::l,q,h,k=>rq (l:=l) (by have:=k r (eU ..);split<;>assumption) (fun w hw=>k w (eF _ hw))
def jB:List Sq→Nat
 | []=>0
 | s::S=>s.2.1+s.2.2+jB S
def mH:List Sq→Nat
 | []=>0
 | s::S=>s.1.dens.length+s.1.dens.length+mH S
theorem jV.pos {L:Int} {q:Rat}:∀ {S:List Sq} {x:Ln},jV L S x q→jB S≤mH S
 | [],_,_=>bX _
 | _::_,_,⟨_,b,c,_,_,_,_,h⟩=>by have:=jV.pos h;show _+_+jB _≤_+_+mH _;omega
theorem rr (q:Rat):∀ (S:List Sq) (x:Ln) (b:Bool),mH (mG q S x b)=mH S
 | [],_,_=>rfl
 | s::S,x,b=>by show _+_+mH (mG q S _ true)=_+_+mH S;rw [rr q S]
theorem Kv (q:Rat):∀ (S:List Sq) (x:Ln) (b:Bool),(mG q S x b).map (·.1)=S.map (·.1)
 | [],_,_=>rfl
 | s::S,x,b=>by show s.1::(mG q S _ true).map (·.1)=s.1::S.map (·.1);rw [Kv q S]
theorem ru (q:Rat):∀ (S:List Sq) (x:Ln) (b:Bool),jB S≤jB (mG q S x b)∧(q∈mF S x b→jB S<jB (mG q S x b))
 | [],_,_=>⟨bX _,fun h=>by cases h⟩
 | s::S,x,b=>by
  obtain ⟨h1,h2⟩:=ru q S (bB s x) true;have e:jB (mG q (s::S) x b)=(s.2.1+(if b=true∧wh x (aJ s.1 (s.2.1+1))=q then 1 else 0))+(s.2.2+(if wh (bB s x) (aJ s.1 (s.2.2+1))=q then 1 else 0))+jB (mG q S (bB s x) true):=rfl;have e2:jB (s::S)=s.2.1+s.2.2+jB S:=rfl;rw [e,e2];refine ⟨by omega,fun h=>?_⟩;simp only [mF,qA3,qAn] at h;rcases h with h | h | h
  ·cases b with
   | false=>cases h
   | true=>
    have h':q=wh x (aJ s.1 (s.2.1+1)):=by simpa using h
    rw [YQ (⟨rfl,h'.symm⟩:true=true∧_)];omega
  ·rw [YQ h.symm];omega
  ·have:=h2 h;omega
theorem rz {L:Int} {q:Rat}:∀ {S:List Sq} {x:Ln} {b:Bool},jV L S x q→(b=true→0<x.B)→(b=false→x.B=0)→∀ w∈mF S x b,q<w
 | [],_,_,_,_,_,_,hw=>by cases hw
 | s::S,x,b,⟨h,h1,h2,a1,a2,a3,a4,hr⟩,hb,hn,w,hw=>by
  have hB:0≤x.B:=by cases b<;>grind
  have hB':0<(bB s x).B:=Hm (den_pos h h2) (den_pos h h1) (pW h) hB;simp only [mF,qA3,qAn] at hw;rcases hw with hw | hw | hw
  ·cases b with
   | false=>cases hw
   | true=>
    have h':w=wh x (aJ s.1 (s.2.1+1)):=by simpa using hw
    rw [h'];exact XM (hb rfl) a2
  ·rw [hw];exact XM hB' a4
  ·exact rz hr (fun _=>hB') (fun k=>by cases k) w hw
theorem sa {L:Int} {q:Rat}:∀ {S:List Sq} {x:Ln},jV L S x q→S≠[]→0≤x.B→(lJ S x).p q<(L:Rat)∧0<(lJ S x).B
 | [],_,_,h,_=>absurd rfl h
 | [s],x,⟨h,h1,h2,a1,a2,a3,a4,hr⟩,_,hB=>⟨by have:=xX h (i:=s.2.2+1) (by omega);show (bB s x).p q<_;grind,Hm (den_pos h h2) (den_pos h h1) (pW h) hB⟩
 | s::s'::S,x,⟨h,h1,h2,a1,a2,a3,a4,hr⟩,_,hB=>sa (S:=s'::S) hr (by simp) (eV (Hm (den_pos h h2) (den_pos h h1) (pW h) hB))
def gG:Ln:=⟨0,0⟩
theorem sA (q:Rat):gG.p q=0:=by unfold gG Ln.p;grind
def RI (L:Int) (S:List Sq) (q:Rat):Prop:=jV L S gG q∧0≤q∧S≠[]
def FinS (L:Int) (cs:List Ck) (q:Rat):Prop:=0<q∧∃ ys,Ch L cs 0 q ys∧ys.getLast?=some (L:Rat)
theorem XN {q:Rat}:∀ {S:List Sq} {x:Ln},S≠[]→(pX S x q).getLast?=some ((lJ S x).p q)
 | [],_,h=>absurd rfl h
 | [_],_,_=>rfl
 | s::s'::S,x,_=>by have:=XN (q:=q) (S:=s'::S) (x:=bB s x) (by simp);show ((bB s x).p q::pX (s'::S) (bB s x) q).getLast?=_;rw [show pX (s'::S) (bB s x) q=(bB s' (bB s x)).p q::pX S (bB s' (bB s x)) q from rfl] at this ⊢;rw [List.getLast?_cons_cons,this];rfl
def mI (L:Int) (S:List Sq):Rat:=wh (lJ S gG) (L:Rat)
def gU (L:Int) (S:List Sq):Rat:=mnS (mI L S) (mF S gG false)
theorem round {L:Int} {S:List Sq} {q0:Rat} (h:RI L S q0):(gU L S=mI L S→FinS L (S.map (·.1)) (gU L S)) ∧
  (gU L S≠mI L S→RI L (mG (gU L S) S gG false) (gU L S)∧jB S<jB (mG (gU L S) S gG false)):=by
 obtain ⟨hi,h0,hn⟩:=h;have hz:gG.B=0:=rfl;obtain ⟨l1,l2⟩:=sa hi hn (by rw [hz];exact eI);have k1:q0<gU L S:=rq (XM l2 l1) (rz hi (fun k=>by cases k) (fun _=>hz));obtain ⟨m1,m2⟩:=rp (mF S gG false) (mI L S);have k2:tS L S gG (gU L S):=rm (eV k1) hi m2 (fun k=>by cases k) (fun _=>hz);have kp:0<gU L S:=by grind
 refine ⟨fun e=>⟨kp,pX S gG (gU L S),?_,?_⟩,fun e=>?_⟩
 ·have:=k2.ch (eV kp);rw [sA] at this;exact this
 ·rw [XN hn,e];exact YS some (oG l2 _)
 ·have k3:gU L S<mI L S:=by have:gU L S≤mI L S:=m1;grind
  have k4:(lJ S gG).p (gU L S)<(L:Rat):=by have:=AD l2 k3;rw [mI,oG l2] at this;exact this
  obtain ⟨r1,_⟩:=rn (eV kp) (x':=gG) (b:=false) k2 rfl (fun k=>by cases k) (fun _=>⟨rfl,fun s r e=>by
   subst e;obtain ⟨h,h1,_,_,a2,_⟩:=hi;rw [sA] at a2 ⊢;exact a2⟩) k4
  refine ⟨⟨r1,eV kp,?_⟩,(ru _ S gG false).2 ?_⟩
  ·cases S with
   | nil=>exact absurd rfl hn
   | cons s S=>intro k;cases k
  ·rcases yKj (mF S gG false) (mI L S) with k | k
   ·exact absurd k e
   ·exact k
theorem XO {u M d:Rat} (h0:-M≤u) (h1:u≤M) (d0:0≤d) (d1:d≤12) (hM:0≤M):-(12*M)≤u*d∧u*d≤12*M:=by have a:=Ca h1 d0;have b:=Ca h0 d0;have c:=xZ d1 hM;constructor<;>grind
theorem yO5 {u M d E:Rat} (h0:-M≤u) (h1:u≤M) (d0:0≤d) (d1:d≤E) (hM:0≤M):-(E*M)≤u*d∧u*d≤E*M:=by have a:=Ca h1 d0;have b:=Ca h0 d0;have c:=xZ d1 hM;constructor<;>grind
theorem OH {u M d:Rat} (h0:-M≤u) (h1:u≤M) (hd:1≤d) (hM:0≤M):-M≤u/d∧u/d≤M:=by
 have e:=gY (a:=u) (b:=d) (by grind);have c:=xZ hd hM;generalize u/d=v at *
 constructor
 ·refine tZ.1 fun k=>?_
  have:=Ee k (show (0:Rat)<d by grind);grind
 ·refine tZ.1 fun k=>?_
  have:=Ee k (show (0:Rat)<d by grind);grind
theorem se {L:Int} {c:Ck} (h:eE L c):∀ i,i≤c.dens.length→0≤eL c i∧eL c i≤12*aJ c i
 | 0,_=>by have:eL c 0=0:=rfl;rw [this,DT h];constructor<;>grind
 | i+1,hi=>by obtain ⟨a,b⟩:=se h i (by omega);have s:=Hl h (i:=i) (by omega);have d:=BR h.1 (i:=i) (by omega);have d1:aS c i≤12:=d.2;have d0:0≤aS c i:=d.1;have m:=Xx (x:=aJ c (i+1)-aJ c i) (by grind) ⟨d0,d1⟩;rw [OE,Rat.mul_comm (aS c i)];constructor<;>grind
theorem Kw {L:Int} {c:Ck} (h:eE L c) {i:Nat} (hi:i≤c.dens.length):0≤eL c i∧eL c i≤12000:=by have a:=se h i hi;have b:=xX h hi;have e:=(tQ h.1).2;exact ⟨a.1,by grind⟩
def Bk:Nat→Int
 | 0=>0
 | k+1=>12*Bk k+12000*12 ^ k
def Mk:Nat→Int
 | 0=>0
 | k+1=>12*Mk k+25000
theorem sf:∀ k,0≤Mk k
 | 0=>Int.le_refl _
 | k+1=>by have:=sf k;show 0≤12*Mk k+25000;omega
def LB (k:Nat) (x:Ln):Prop:=∃ F b:Int,1≤F∧F≤12 ^ k∧In F x.A∧x.B=(b:Rat)/(F:Rat)∧0≤b∧b≤Bk k∧-((Mk k:Int):Rat)≤x.A∧x.A≤((Mk k:Int):Rat)
theorem XP:LB 0 gG:=⟨1,0,by decide,by decide,⟨0,by decide +kernel⟩,by decide +kernel,by decide,by decide,by decide +kernel,by decide +kernel⟩
theorem Hn {L:Int} {c:Ck} (h:eE L c) {i:Nat} (hi:i<c.dens.length):1≤c.dens.getD i 0∧c.dens.getD i 0≤12:=⟨h.2 i hi,(h.1.den hi).2⟩
theorem XQ {L:Int} {c:Ck} (h:eE L c):0≤totC c.cuts c.dens∧totC c.cuts c.dens≤12000:=by have:=Ax h.1;omega
theorem XS {a b c d:Rat} (hb:b≠0) (hd:d≠0) (e:a*d=c*b):a/b=c/d:=by
 have e1:=gY (a:=a) hb;have e2:=gY (a:=c) hd;generalize a/b=u at *
 generalize c/d=v at *
 have:(u-v)*(b*d)=0:=by grind
 rcases qCr.1 this with k|k
 ·grind
 ·rcases qCr.1 k with k | k
  ·exact absurd k hb
  ·exact absurd k hd
theorem Kx {L:Int} {c:Ck} (h:eE L c) {f t k:Nat} (hf:f<c.dens.length) (ht:t<c.dens.length) {x:Ln} (hx:LB k x):LB (k+1) (cU c f t x):=by
 obtain ⟨F,b,F1,F2,hA,hB,b0,b1,m0,m1⟩:=hx;have d1:=Hn h hf;have e1:=Hn h ht;have T:=XQ h;have hM:(0:Rat)≤((Mk k:Int):Rat):=AR.2 (sf k);refine ⟨c.dens.getD t 0*F,b*c.dens.getD f 0+totC c.cuts c.dens*F,?_,?_,?_,?_,?_,?_,?_⟩
 ·have:=jZ e1.1 F1 (by omega) (by omega);omega
 ·have:=jZ e1.2 F2 (by omega) (by omega);rw [Int.pow_succ,yK (12 ^ k)];exact this
 ·have D1:1≤c.dens.getD t 0*F:=by have:=jZ e1.1 F1 (by omega) (by omega);omega
  refine In.add ?_ (In.int D1 _);refine In.div F1 e1.1 ?_;refine In.add ((hA.sub (In.int F1 _)).mulI _) ?_;have:eL c f-eL c t=((upC c f-upC c t:Int):Rat):=by rw [Cl];rfl
  rw [this];exact In.int F1 _
 ·show (x.B*aS c f+aY c)/aS c t=_;rw [hB,Cj,kR,kR,kR];have r1:(F:Rat)≠0:=oR F1;have r2:((c.dens.getD t 0:Int):Rat)≠0:=oR e1.1;have e:=gY (a:=(b:Rat)) r1;refine XS r2 (fun k=>by rcases qCr.1 k with k | k<;>contradiction) ?_;unfold aS aY;generalize (b:Rat)/(F:Rat)=w at *
  grind
 ·have:=lO b0 (show 0≤c.dens.getD f 0 by omega);have:=lO T.1 (show 0≤F by omega);omega
 ·have a1:=jZ b1 d1.2 (by omega) (by omega);have a2:=jZ T.2 F2 (by omega) (by omega);show _≤12*Bk k+12000*12 ^ k;omega
 ·have u1:=Kw h (i:=f) (by omega);have u2:=Kw h (i:=t) (by omega);have c1:=xX h (i:=f) (by omega);have c2:=xX h (i:=t) (by omega);have c3:=BX h (i:=f) (by omega);have c4:=BX h (i:=t) (by omega);have l:=(tQ h.1).2;have q1:(1:Rat)≤aS c t:=by have:=(iM (a:=1)).2 e1.1;exact this
  have q2:aS c f≤12:=(BR h.1 hf).2;have q3:0≤aS c f:=(BR h.1 hf).1;have eM:((Mk (k+1):Int):Rat)=12*((Mk k:Int):Rat)+25000:=by show ((12*Mk k+25000:Int):Rat)=_;rw [Cj,kR];rfl
  have v:=XO (u:=x.A-aJ c f) (M:=((Mk k:Int):Rat)+1000) (d:=aS c f) (by grind) (by grind) q3 q2 (by grind);have w:=OH (u:=(x.A-aJ c f)*aS c f+(eL c f-eL c t)) (M:=12*((Mk k:Int):Rat)+24000) (by grind) (by grind) q1 (by grind);rw [eM];show -(12*((Mk k:Int):Rat)+25000)≤_/_+aJ c t∧_/_+aJ c t≤12*((Mk k:Int):Rat)+25000;constructor<;>grind
set_option maxRecDepth 100000
def XT:List An→List An
 | []=>[]
 | a::r=>⟨a.at_,.raw,a.md⟩::XT r
def tT:TC→TC
 | .ops l an ps fg=>.ops l (XT an) ps fg
 | .seq a b=>.seq (tT a) (tT b)
 | .cond c a b=>.cond c (tT a) (tT b)
 | .block i b=>.block i (tT b)
 | c=>c
def sg:List An→List An
 | []=>[]
 | a::r=>(match a.sh with | .one .d=>⟨a.at_,.raw,a.md⟩ | _=>a)::sg r
def cR:TC→TC
 | .ops l an ps fg=>.ops l (sg an) ps fg
 | .seq a b=>.seq (cR a) (cR b)
 | .cond c a b=>.cond c (cR a) (cR b)
 | .block i b=>.block i (cR b)
 | .loop i b=>.loop i (cR b)
 | .lG i b=>.lG i (bif Nat.beq i 5508403 then tT b else cR b)
 | c=>c
def oY (t:TFn):TFn:=⟨t.nparams,t.results,cR t.body⟩
def UE (E:Env) (callK:CK) (lp:LP) (b:TC):Nat→aF→Hp→(Ex→aF→Hp→Prop)→Prop
 | 0,_,_,_=>False
 | n+1,F,H,Q=>WC E callK lp [] dB b F H fun x F' H'=>match x with | .norm=>UE E callK lp b n F' H' Q | .exit i=>Q (.exit i) F' H' | .ret=>Q .ret F' H' | .brk k i=>Q (.brk k i) F' H'
def Ky (E:Env) (callK:CK) (lp:LP) (b:TC):Nat→aF→Hp→(Ex→aF→Hp→Prop)→Prop
 | 0,_,_,_=>False
 | n+1,F,H,Q=>WC E callK lp [] dB b F H fun x F' H'=>match x with | .norm=>Ky E callK lp b n F' (uI F' H.length H') Q | .exit i=>Q (.exit i) F' H' | .ret=>Q .ret F' H' | .brk k i=>Q (.brk k i) F' H'
def unB:TC→TC
 | .block _ c=>c
 | c=>c
def fZ:Nat→TC→TC
 | 0,c=>c
 | n+1,.seq _ b=>fZ n b
 | _+1,c=>c
def jW:Nat→TC→TC
 | n+1,.seq a b=>.seq a (jW n b)
 | _,_=>.skip
structure Se where
 len:Int
 cuts:List PV
 dens:List PV
 up:List PV
 tot:Int
 f:Int
 t:Int
structure L4 where
 a:Int
 b:Int
 c:Int
 d:Int
def L4.v (l:L4):PV:=.agg [.int .i64 l.a,.int .i64 l.b,.int .i64 l.c,.int .i64 l.d]
def OI (s:Se):HB:=⟨false,true,1,s.up⟩
def OJ (k:Nat) (s:Se):HB:=⟨false,false,7,[.agg [.int .i64 s.len,.data s.cuts,.data s.dens,.own k 0 s.up.length s.up.length none,.int .i64 s.tot,.int .i64 s.f,.int .i64 s.t]]⟩
def XU:Nat→List Se→Hp
 | _,[]=>[]
 | k,s::r=>OI s::OJ k s::XU (k+2) r
def XV:Nat→Nat→List PV
 | _,0=>[]
 | k,n+1=>.ptr k 1 0 0::XV (k+2) n
def dX (S:List Se):Hp:=
 match S with
 | []=>[]
 | s::r=>[⟨false,false,1,[.own 4 0 S.length S.length none]⟩,OI s,OJ 1 s,⟨false,false,1,[]⟩,⟨false,false,1,.ptr 2 1 0 0::XV 6 r.length⟩]++XU 5 r++[⟨false,false,1,[.int .i64 r.length]⟩]
def mR (a b:Int):PV:=.agg [.int .i64 a,.int .i64 b]
def kM (L:List PV) (n:Nat):aF:=[(0,.v (.data L)),(4,.box (mR 0 0)),(5,.v (.ptr 0 1 0 0)),(11,.v (.ptr (3+2*n) 1 0 0))]
def DW (L:List PV) (n:Nat) (a b:Int):aF:=[(0,.v (.data L)),(4,.box (mR 0 0)),(5,.v (.ptr 0 1 0 0)),(11,.v (.ptr (3+2*n) 1 0 0)),(16,.box (mR a b)),(17,.v (.ptr (6+2*n) 1 0 0)),(18,.v (.fn (.func Fm) [] [.ptr 0 1 0 0,.ptr (5+2*n) 1 0 0,.ptr (3+2*n) 1 0 0]))]
def sB (S:List Se) (ls:List L4) (a b:Int):Hp:=dX S++[⟨false,true,4,ls.map L4.v⟩,⟨false,false,1,[.own (4+2*S.length) 0 S.length S.length (some S.length)]⟩,⟨false,false,2,[mR a b]⟩]
def vY (aE:xQ):List Se→L4→(List L4→Prop)→Prop
 | [],_,K=>K []
 | s::S,x,K=>asr (decide (s.up.length=s.up.length)) (asr (decide (0+s.up.length≤s.up.length)) (aE s.len s.cuts s.dens ((s.up.drop 0).take s.up.length) s.tot s.f s.t x.a x.b x.c x.d fun a b c d=>vY aE S ⟨a,b,c,d⟩ fun l=>K (⟨a,b,c,d⟩::l)))
def Kz (cuts:List PV) (i:Int) (K:Int→Prop):Prop:=asr (decide (0≤i)) (asr (decide (i<((cuts.length:Nat):Int))) (asr (aG zI (cuts.getD i.toNat .nils)) (K (aK (cuts.getD i.toNat .nils)))))
def jC (aN:tN) (l:L4) (cuts:List PV) (i:Int) (K:Int→Int→Prop):Prop:=Kz cuts (i64.wrap (i+1)) fun n=>aN l.a l.b l.c l.d n K
def pY (aN:tN) (aL:cI):List Se→List L4→L4→Bool→Int→Int→(Int→Int→Prop)→Prop
 | s::S,l::ls,x,b,q0,q1,K=>
  let k2:=fun q0 q1=>jC aN l s.cuts s.t fun r0 r1=>aL r0 r1 q0 q1 fun t=>aB t (pY aN aL S ls l true r0 r1 K) (pY aN aL S ls l true q0 q1 K)
  match b with
  | true=>jC aN x s.cuts s.f fun r0 r1=>aL r0 r1 q0 q1 fun t=>aB t (k2 r0 r1) (k2 q0 q1)
  | false=>k2 q0 q1
 | _,_,_,_,q0,q1,K=>K q0 q1
def vZ (a b q0 q1:Int):Bool:=(a==q0)&&((b==q1)&&true)
def mJ (aN:tN) (q0 q1:Int):List Se→List L4→L4→Bool→(List Bool→Prop)→Prop
 | s::S,l::ls,x,b,K=>
  let k2:=fun K=>jC aN l s.cuts s.t fun r0 r1=>aB (vZ r0 r1 q0 q1) (mJ aN q0 q1 S ls l true fun m=>K (true::m)) (mJ aN q0 q1 S ls l true fun m=>K (false::m))
  match b with
  | true=>jC aN x s.cuts s.f fun r0 r1=>aB (vZ r0 r1 q0 q1) (k2 fun m=>K (true::m)) (k2 fun m=>K (false::m))
  | false=>k2 K
 | _,_,_,_,K=>K []
def oZ:Nat→Nat→Bool→List Bool→List PV
 | k,n+1,true,bf::bt::m=>(bif bf then [.ptr k 1 0 5] else [])++(bif bt then [.ptr k 1 0 6] else [])++oZ (k+2) n true m
 | _,n+1,false,bt::m=>(bif bt then [.ptr 2 1 0 6] else [])++oZ 6 n true m
 | _,_,_,_=>[]
def jD:List Se→Bool→List Bool→List Se
 | s::S,true,bf::bt::m=>⟨s.len,s.cuts,s.dens,s.up,s.tot,bif bf then i64.wrap (s.f+1) else s.f,bif bt then i64.wrap (s.t+1) else s.t⟩::jD S true m
 | s::S,false,bt::m=>⟨s.len,s.cuts,s.dens,s.up,s.tot,s.f,bif bt then i64.wrap (s.t+1) else s.t⟩::jD S true m
 | _,_,_=>[]
def gbS:List PV→Hp
 | []=>[]
 | p::r=>⟨false,false,1,[p]⟩::⟨false,false,1,p::r⟩::r.map fun x=>⟨false,false,1,[x]⟩
def qY (S:List Se) (ls:List L4) (a b:Int) (m:List PV):Hp:=sB S ls a b++[⟨false,false,1,[match m with | []=>.nils | _::_=>.own (9+2*S.length) 0 m.length m.length none]⟩]++gbS m
def qZ (L:List PV) (n:Nat):aF:=[(0,.v (.data L)),(4,.box (mR 0 0)),(5,.v (.ptr 0 1 0 0)),(11,.v (.ptr (3+2*n) 1 0 0)),(19,.v (.ptr (7+2*n) 1 0 0))]
def DX:L4:=⟨0,1,0,1⟩
def mK:List L4→L4
 | []=>DX
 | [l]=>l
 | _::r=>mK r
section
variable (e:Es) (aW:bN) (aE:xQ) (aN:tN) (aL:cI)
def OL:Nat→Option (List PV→(PV→Prop)→Prop):=ye7 [(xD,iX.pw aW),(Fl,Wm.pw aE),(CS,Wp.pw aN),(Fo,nH.pw aL)]
def KA:SE:=⟨E e,OL aW aE aN aL,yeh [(Fp,oY FO),(Fq,oY FQ)],fun _ _ _ _ _=>False,fun _=>none⟩
def si:LP:=fun id _ F H Q=>bif Nat.beq id 31735400 then UE (E e) (jO (KA e aW aE aN aL) 2) (fun _ _ _ _ _=>False) (cR Nh) 5 F H Q else False
def sC:SE:=⟨E e,OL aW aE aN aL,yeh [(Fm,oY FN),(Fp,oY FO),(Fq,oY FQ)],si e aW aE aN aL,fun _=>none⟩
def XW:LP:=fun id _ F H Q=>
 bif Nat.beq id 5508402 then Ky (E e) (jO (sC e aW aE aN aL) 4) (fun _ _ _ _ _=>False) (cR Ni) 5 F H Q else
 bif Nat.beq id 5508403 then Ky (E e) (jO (sC e aW aE aN aL) 4) (fun _ _ _ _ _=>False) (tT Nj) 8 F H Q else False
def wR (c:TC) (F:aF) (H:Hp) (Q:Ex→aF→Hp→Prop):Prop:=WC (E e) (jO (sC e aW aE aN aL) 4) (XW e aW aE aN aL) [] dB c F H Q
def bR:TC:=unB (cR iV)
def Ho (L0:Int) (Lr:List PV) (S:List Se) (Q:List L4→Int→Int→Int→Int→Prop):Prop:=
 aW 0 fun w0 w1=>aW 0 fun w2 w3=>vY aE S ⟨w0,w1,w2,w3⟩ fun ls=>asr (decide ((0:Int)<(((Lr.length+1:Nat)):Int))) (aN (mK ls).a (mK ls).b (mK ls).c (mK ls).d L0 fun s0 s1=>pY aN aL S ls ⟨w0,w1,w2,w3⟩ false s0 s1 fun q0 q1=>Q ls s0 s1 q0 q1)
def L1 (L0:Int) (c0 d0 Lr:List PV):List PV:=.agg [.int .i64 L0,.data c0,.data d0]::Lr
def QA (L:List PV) (S:List Se) (Q:Ex→aF→Hp→Prop):List L4→Int→Int→Int→Int→Prop:=fun ls s0 s1 q0 q1=>Q .norm (DW L S.length s0 s1) (sB S ls q0 q1)
def QG (b:TC) (k:Nat) (Rn:aF→Hp→Prop) (Q:Ex→aF→Hp→Prop):Ex→aF→Hp→Prop:=fun x F' H'=>match x with
 | .norm=>Rn (fdels F' (gM (bI b))) (uI (fdels F' (gM (bI b))) k H')
 | .exit i=>Q (.exit i) F' H'
 | .ret=>Q .ret F' H'
 | .brk k i=>Q (.brk k i) F' H'
def QB (b:TC) (id k:Nat) (Rn:aF→Hp→Prop) (Q:Ex→aF→Hp→Prop):Ex→aF→Hp→Prop:=fun x F' H'=>match x with
 | .norm=>QG b k Rn Q .norm F' H'
 | .exit i=>(bif Nat.beq i id then QG b k Rn Q .norm F' H' else QG b k Rn Q (.exit i) F' H')
 | .ret=>QG b k Rn Q .ret F' H'
 | .brk k' i=>QG b k Rn Q (.brk k' i) F' H'
def AF (q0 q1:Int):aF:=[(4,.box (mR q0 q1))]
end
def fA (S:List Se):Hp:=
 match S with
 | []=>[⟨false,false,1,[.nils]⟩]
 | s::r=>[⟨false,false,1,[.own 4 0 S.length S.length none]⟩,OI s,OJ 1 s,⟨false,false,1,[]⟩,⟨false,false,1,.ptr 2 1 0 0::XV 6 r.length⟩]++XU 5 r
def sj:Nat→Nat
 | 0=>1
 | j+1=>5+2*j
def lS (L ord:List PV) (j:Nat) (dens:List PV) (m i:Int):aF:=[(0,.v (.data L)),(4,.box (mR 0 0)),(5,.v (.ptr 0 1 0 0)),(8,.v (.ptr (sj j+1) 1 0 0)),(22,.v (.data ord)),(23,.v (.int .i64 ord.length)),(24,.v (.int .i64 j)),(39,.v (.data dens)),(40,.v (.int .i64 m)),(41,.v (.int .i64 i))]
def jE (L ord:List PV) (j:Nat) (dens:List PV) (m i:Int):aF:=lS L ord j dens m i++[(42,.v (.bool false))]
def hpD (S:List Se) (s:Se):Hp:=fA S++[OI s,OJ (sj S.length) s]
def lT (L ord:List PV) (j:Nat):aF:=[(0,.v (.data L)),(4,.box (mR 0 0)),(5,.v (.ptr 0 1 0 0)),(22,.v (.data ord)),(23,.v (.int .i64 ord.length)),(24,.v (.int .i64 j))]
def jF (L ord:List PV) (j:Nat):aF:=lT L ord j++[(25,.v (.bool false))]
def sF (dens cuts:List PV) (tot i:Int):Int:=i64.wrap (tot+i64.wrap (aK (dens.getD i.toNat .nils)*i64.wrap (aK (cuts.getD (i64.wrap (i+1)).toNat .nils)-aK (cuts.getD i.toNat .nils))))
def pZ (dens:List PV) (s:Se) (i:Int) (K:Se→Prop):Prop:=
 asr (decide (0≤i)) (asr (decide (i<((dens.length:Nat):Int))) (asr (aG zI (dens.getD i.toNat .nils)) (asr (decide (0≤i64.wrap (i+1))) (asr (decide (i64.wrap (i+1)<((s.cuts.length:Nat):Int)))
 (asr (aG zI (s.cuts.getD (i64.wrap (i+1)).toNat .nils)) (asr (decide (0≤i)) (asr (decide (i<((s.cuts.length:Nat):Int))) (asr (aG zI (s.cuts.getD i.toNat .nils))
 (asr (decide (s.up.length=s.up.length)) (asr (decide (0+s.up.length≤s.up.length)) (asr (!decide (0+s.up.length+1≤s.up.length)) (asr (decide (s.up.length=s.up.length)) (asr (decide ((s.up.length+1+64)*(8+1)≤room))
  (K ⟨s.len,s.cuts,s.dens,s.up++[.int .i64 (sF dens s.cuts s.tot i)],sF dens s.cuts s.tot i,s.f,s.t⟩))))))))))))))
def sk (PP:aF→Hp→Prop→Prop) (F1:aF) (H1:Hp):LP:=fun id _ F H Q=>bif Nat.beq id 5508400 then PP F H (Q (.exit 2) F1 H1) else False
def OM (PP PQ:aF→Hp→Prop→Prop) (F1:aF) (H1:Hp) (q0 q1:Int):LP:=fun id _ F H Q=>bif Nat.beq id 5508401 then PP F H (Q (.exit 0) F1 H1) else bif Nat.beq id 5508404 then PQ F H (∀ H',Q .ret (AF q0 q1) H') else False
def DY (ord:List PV) (j:Nat):Int:=aK (ord.getD ((j:Int)).toNat .nils)
def mL (L ord:List PV) (j:Nat):PV:=L.getD (DY ord j).toNat .nils
def gH (c:PV):Se:=⟨aK (aP c 0),bQ (aP c 1),bQ (aP c 2),[.int .i64 0],0,0,0⟩
def DZ (L ord:List PV) (j:Nat) (X Y:Prop):Prop:=
 aB (decide ((j:Int)<((ord.length:Nat):Int))) (asr (decide ((j:Int)<((ord.length:Nat):Int))) (asr (aG zI (ord.getD ((j:Int)).toNat .nils)) (asr (decide (0≤DY ord j)) (asr (decide (DY ord j<((L.length:Nat):Int))) (asr (aG zK (mL L ord j)) X))))) Y
section
variable (e:Es) (aW:bN) (aE:xQ) (aN:tN) (aL:cI)
variable (L ord:List PV) (Rn:aF→Hp→Prop) (Q:Ex→aF→Hp→Prop) (PP PQ:aF→Hp→Prop→Prop)
def wD (F:aF) (H:Hp) (Q:Ex→aF→Hp→Prop):Prop:=WC (E e) (jO (sC e aW aE aN aL) 4) (XW e aW aE aN aL) [] dB (cR rP) F H Q
def wO (F1:aF) (H1:Hp) (F:aF) (H:Hp) (Q:Ex→aF→Hp→Prop):Prop:=WC (E e) (jO (sC e aW aE aN aL) 4) (sk PP F1 H1) [] dB (cR qO) F H Q
def wT (F1:aF) (H1:Hp) (q0 q1:Int) (K:PV→Prop):Prop:=WP ⟨E e,OL aW aE aN aL,yeh [(Fm,oY FN),(Fp,oY FO),(Fq,oY FQ)],OM PP PQ F1 H1 q0 q1,fun _=>none⟩ 4 (oY Jl) [.data L,.data ord] K
theorem XX (dens:List PV) (m i:Int) (s:Se):wD e aW aE aN aL (lS L ord 0 dens m i) (hpD [] s) (QG (cR rP) (hpD [] s).length Rn Q)=aB (decide (i<m)) (pZ dens s i fun s'=>Rn (lS L ord 0 dens m (i64.wrap (i+1))) (hpD [] s')) (Q (.exit 2) (jE L ord 0 dens m i) (hpD [] s)):=by kernel_rfl
theorem XY (dens:List PV) (m i:Int) (s:Se) (s0:Se):wD e aW aE aN aL (lS L ord 1 dens m i) (hpD [s0] s) (QG (cR rP) (hpD [s0] s).length Rn Q)=aB (decide (i<m)) (pZ dens s i fun s'=>Rn (lS L ord 1 dens m (i64.wrap (i+1))) (hpD [s0] s')) (Q (.exit 2) (jE L ord 1 dens m i) (hpD [s0] s)):=by kernel_rfl
theorem XZ (dens:List PV) (m i:Int) (s:Se) (s0 s1:Se):wD e aW aE aN aL (lS L ord 2 dens m i) (hpD [s0,s1] s) (QG (cR rP) (hpD [s0,s1] s).length Rn Q)=aB (decide (i<m)) (pZ dens s i fun s'=>Rn (lS L ord 2 dens m (i64.wrap (i+1))) (hpD [s0,s1] s')) (Q (.exit 2) (jE L ord 2 dens m i) (hpD [s0,s1] s)):=by kernel_rfl
theorem Ya (dens:List PV) (m i:Int) (s:Se) (s0 s1 s2:Se):wD e aW aE aN aL (lS L ord 3 dens m i) (hpD [s0,s1,s2] s) (QG (cR rP) (hpD [s0,s1,s2] s).length Rn Q)=aB (decide (i<m)) (pZ dens s i fun s'=>Rn (lS L ord 3 dens m (i64.wrap (i+1))) (hpD [s0,s1,s2] s')) (Q (.exit 2) (jE L ord 3 dens m i) (hpD [s0,s1,s2] s)):=by kernel_rfl
theorem Yb (dens:List PV) (m i:Int) (s:Se):wO e aW aE aN aL PP (jE L ord 0 dens m i) (hpD [] s) (lT L ord 0) (fA []) (QG (cR qO) (fA []).length Rn Q)=DZ L ord 0 (PP (lS L ord 0 (gH (mL L ord 0)).dens (gH (mL L ord 0)).dens.length 0) (hpD [] (gH (mL L ord 0))) (Rn (lT L ord 1) (fA [s]))) (Q (.exit 0) (jF L ord 0) (fA [])):=by kernel_rfl
theorem Yc (dens:List PV) (m i:Int) (s:Se) (s0:Se):wO e aW aE aN aL PP (jE L ord 1 dens m i) (hpD [s0] s) (lT L ord 1) (fA [s0]) (QG (cR qO) (fA [s0]).length Rn Q)=DZ L ord 1 (PP (lS L ord 1 (gH (mL L ord 1)).dens (gH (mL L ord 1)).dens.length 0) (hpD [s0] (gH (mL L ord 1))) (Rn (lT L ord 2) (fA [s0,s]))) (Q (.exit 0) (jF L ord 1) (fA [s0])):=by kernel_rfl
theorem Yd (q0 q1:Int) (K:PV→Prop) (s0:Se):wT e aW aE aN aL L ord PP PQ (jF L ord 1) (fA [s0]) q0 q1 K=PP (lT L ord 0) (fA []) (PQ (kM L 1) (dX [s0]) (∀ _:Hp,K (mR q0 q1))):=by kernel_rfl
theorem Ye (dens:List PV) (m i:Int) (s:Se) (s0 s1:Se):wO e aW aE aN aL PP (jE L ord 2 dens m i) (hpD [s0,s1] s) (lT L ord 2) (fA [s0,s1]) (QG (cR qO) (fA [s0,s1]).length Rn Q)=DZ L ord 2 (PP (lS L ord 2 (gH (mL L ord 2)).dens (gH (mL L ord 2)).dens.length 0) (hpD [s0,s1] (gH (mL L ord 2))) (Rn (lT L ord 3) (fA [s0,s1,s]))) (Q (.exit 0) (jF L ord 2) (fA [s0,s1])):=by kernel_rfl
theorem Yf (q0 q1:Int) (K:PV→Prop) (s0 s1:Se):wT e aW aE aN aL L ord PP PQ (jF L ord 2) (fA [s0,s1]) q0 q1 K=PP (lT L ord 0) (fA []) (PQ (kM L 2) (dX [s0,s1]) (∀ _:Hp,K (mR q0 q1))):=by kernel_rfl
theorem Yg (dens:List PV) (m i:Int) (s:Se) (s0 s1 s2:Se):wO e aW aE aN aL PP (jE L ord 3 dens m i) (hpD [s0,s1,s2] s) (lT L ord 3) (fA [s0,s1,s2]) (QG (cR qO) (fA [s0,s1,s2]).length Rn Q)=DZ L ord 3 (PP (lS L ord 3 (gH (mL L ord 3)).dens (gH (mL L ord 3)).dens.length 0) (hpD [s0,s1,s2] (gH (mL L ord 3))) (Rn (lT L ord 4) (fA [s0,s1,s2,s]))) (Q (.exit 0) (jF L ord 3) (fA [s0,s1,s2])):=by kernel_rfl
theorem Yh (q0 q1:Int) (K:PV→Prop) (s0 s1 s2:Se):wT e aW aE aN aL L ord PP PQ (jF L ord 3) (fA [s0,s1,s2]) q0 q1 K=PP (lT L ord 0) (fA []) (PQ (kM L 3) (dX [s0,s1,s2]) (∀ _:Hp,K (mR q0 q1))):=by kernel_rfl
theorem Yi (dens:List PV) (m i:Int) (s:Se) (s0 s1 s2 s3:Se):wO e aW aE aN aL PP (jE L ord 4 dens m i) (hpD [s0,s1,s2,s3] s) (lT L ord 4) (fA [s0,s1,s2,s3]) (QG (cR qO) (fA [s0,s1,s2,s3]).length Rn Q)=DZ L ord 4 (PP (lS L ord 4 (gH (mL L ord 4)).dens (gH (mL L ord 4)).dens.length 0) (hpD [s0,s1,s2,s3] (gH (mL L ord 4))) (Rn (lT L ord 5) (fA [s0,s1,s2,s3,s]))) (Q (.exit 0) (jF L ord 4) (fA [s0,s1,s2,s3])):=by kernel_rfl
theorem Yj (q0 q1:Int) (K:PV→Prop) (s0 s1 s2 s3:Se):wT e aW aE aN aL L ord PP PQ (jF L ord 4) (fA [s0,s1,s2,s3]) q0 q1 K=PP (lT L ord 0) (fA []) (PQ (kM L 4) (dX [s0,s1,s2,s3]) (∀ _:Hp,K (mR q0 q1))):=by kernel_rfl
end
theorem wA (n:Int) (K:Int→Int→Prop):lF n K=K (n:Rat).num (n:Rat).den:=rfl
theorem sn {q r:Rat} (hq:small q) (hr:small r) (K:Bool→Prop):mB q.num q.den r.num r.den K=K (decide (q<r)):=by
 unfold mB Wr;rw [Kg hq hr];congr 1;rw [Aaa,gP]
 by_cases h:q<r
 ·simp [h]
 ·by_cases h2:r<q<;>simp [h,h2]
def Bd (q:Rat):Prop:=∃ D:Int,1≤D∧D≤20736∧In D q∧-100000000≤q∧q≤100000000
theorem Bd.sm {q:Rat}:Bd q→small q
 | ⟨_,h1,h2,h,a,b⟩=>In.small (M:=100000000) h ⟨h1,by omega⟩ (by omega) a b
theorem wC {q:Rat} (h:small q) (K:Int→Int→Int→Prop):fitK q K=K q.num q.den 0:=YQ h
def qA (c:Ck):List Int:=(List.range (c.dens.length+1)).map (upC c)
theorem KB (c:Ck):(qA c).length=c.dens.length+1:=by unfold qA;rw [dS,List.length_range]
theorem so {c:Ck} {i:Nat} (h:i≤c.dens.length):(qA c).getD i 0=upC c i:=by unfold qA;rw [cN,lK,List.getElem?_range (by omega)];rfl
theorem LB.num {k:Nat} {x:Ln} (hk:k≤3) (h:LB k x):∃ F b:Int,1≤F∧F≤1728∧In F x.A∧x.B=(b:Rat)/(F:Rat)∧0≤b∧b≤5184000∧-3925000≤x.A∧x.A≤3925000:=by
 obtain ⟨F,b,h1,h2,h3,h4,h5,h6,h7,h8⟩:=h;obtain rfl | rfl | rfl | rfl:k=0∨k=1∨k=2∨k=3:=by omega
 ·exact ⟨F,b,h1,oJ h2 (by decide),h3,h4,h5,oJ h6 (by decide),fG (by decide +kernel) h7,fG h8 (by decide +kernel)⟩
 ·exact ⟨F,b,h1,oJ h2 (by decide),h3,h4,h5,oJ h6 (by decide),fG (by decide +kernel) h7,fG h8 (by decide +kernel)⟩
 ·exact ⟨F,b,h1,oJ h2 (by decide),h3,h4,h5,oJ h6 (by decide),fG (by decide +kernel) h7,fG h8 (by decide +kernel)⟩
 ·exact ⟨F,b,h1,oJ h2 (by decide),h3,h4,h5,oJ h6 (by decide),fG (by decide +kernel) h7,fG h8 (by decide +kernel)⟩
theorem LB.numB {k:Nat} {x:Ln} (hk:k≤4) (h:LB k x):∃ F b:Int,1≤F∧F≤20736∧In F x.A∧x.B=(b:Rat)/(F:Rat)∧0≤b∧b≤82944000∧-47125000≤x.A∧x.A≤47125000:=by
 obtain ⟨F,b,h1,h2,h3,h4,h5,h6,h7,h8⟩:=h;obtain rfl | rfl | rfl | rfl | rfl:k=0∨k=1∨k=2∨k=3∨k=4:=by omega
 all_goals exact ⟨F,b,h1,oJ h2 (by decide),h3,h4,h5,oJ h6 (by decide),fG (by decide +kernel) h7,fG h8 (by decide +kernel)⟩
theorem sr {F b M:Int} (hF:1≤F) (b0:0≤b) (b1:b≤M):0≤(b:Rat)/(F:Rat)∧(b:Rat)/(F:Rat)≤(M:Rat):=by have f1:(1:Rat)≤(F:Rat):=(iM (a:=1)).2 hF;have c0:(0:Rat)≤(b:Rat):=AR.2 b0;have c1:(b:Rat)≤(M:Rat):=iM.2 b1;have:=OH (u:=(b:Rat)) (M:=(M:Rat)) (d:=(F:Rat)) (by grind) c1 f1 (by grind);refine ⟨?_,this.2⟩;rw [Rat.div_def];exact AT c0 (eV (Rat.inv_pos.2 (by grind)))
theorem yJb {L:Int} {c:Ck} (h:eE L c) {f t k:Nat} (hf:f<c.dens.length) (ht:t<c.dens.length) {x:Ln} (hx:LB k x) (hk:k≤3) (K:Int→Int→Int→Int→Prop) :
  mY L (aA c.cuts) (aA c.dens) (aA (qA c)) (totC c.cuts c.dens) f t x.A.num x.A.den x.B.num x.B.den K =
   K (cU c f t x).A.num (cU c f t x).A.den (cU c f t x).B.num (cU c f t x).B.den:=by
 obtain ⟨F,b,F1,F2,hA,hB,b0,b1,m0,m1⟩:=hx.num hk;have l1:=h.1.l1;have df:=Hn h hf;have dt:=Hn h ht;have T:=XQ h;have u1:=Kw h (i:=f) (by omega);have u2:=Kw h (i:=t) (by omega);have c1:=xX h (i:=f) (by omega);have c2:=xX h (i:=t) (by omega);have c3:=BX h (i:=f) (by omega);have c4:=BX h (i:=t) (by omega);have l:=(tQ h.1).2;have q1:(1:Rat)≤aS c t:=(iM (a:=1)).2 dt.1;have q2:aS c f≤12:=(BR h.1 hf).2;have q3:0≤aS c f:=(BR h.1 hf).1;have q4:aS c t≤12:=(BR h.1 ht).2;have T0:0≤aY c:=AR.2 T.1;have T1:aY c≤12000:=(iM (b:=12000)).2 T.2;have hBb:=sr F1 b0 b1;rw [← hB] at hBb;have D1:1≤c.dens.getD t 0*F:=by have:=jZ dt.1 F1 (by omega) (by omega);omega
 have D2:c.dens.getD t 0*F≤20736:=by have:=jZ dt.2 F2 (by omega) (by omega);omega
 have iU:eL c f-eL c t=((upC c f-upC c t:Int):Rat):=by rw [Cl];rfl
 have iB:In F x.B:=⟨b,hB⟩;have v:=XO (u:=x.A-aJ c f) (M:=3926000) (d:=aS c f) (by grind) (by grind) q3 q2 (by grind);have vB:=XO (u:=x.B) (M:=5184000) (d:=aS c f) (by grind) (by grind) q3 q2 (by grind);have w:=OH (u:=(x.A-aJ c f)*aS c f+(eL c f-eL c t)) (M:=48000000) (by grind) (by grind) q1 (by grind);have wB:=OH (u:=x.B*aS c f+aY c) (M:=63000000) (by grind) (by grind) q1 (by grind);have i1:In F (x.A-aJ c f):=hA.sub (In.int F1 _);have i2:In F ((x.A-aJ c f)*aS c f):=i1.mulI _;have i3:In F ((x.A-aJ c f)*aS c f+(eL c f-eL c t)):=i2.add (by rw [iU];exact In.int F1 _);have i4:In F (x.B*aS c f):=iB.mulI _;have i5:In F (x.B*aS c f+aY c):=i4.add (In.int F1 _);have s0:small x.A:=Bd.sm ⟨F,F1,by omega,hA,by grind,by grind⟩;have s0':small x.B:=Bd.sm ⟨F,F1,by omega,iB,by grind,by grind⟩;have s1:small (x.A-aJ c f):=Bd.sm ⟨F,F1,by omega,i1,by grind,by grind⟩;have s2:small ((x.A-aJ c f)*aS c f):=Bd.sm ⟨F,F1,by omega,i2,by grind,by grind⟩;have s3:small ((x.A-aJ c f)*aS c f+(eL c f-eL c t)):=Bd.sm ⟨F,F1,by omega,i3,by grind,by grind⟩;have s4:small (x.B*aS c f):=Bd.sm ⟨F,F1,by omega,i4,by grind,by grind⟩;have s5:small (x.B*aS c f+aY c):=Bd.sm ⟨F,F1,by omega,i5,by grind,by grind⟩;have s6:small (((x.A-aJ c f)*aS c f+(eL c f-eL c t))/aS c t):=Bd.sm ⟨_,D1,D2,In.div F1 dt.1 i3,by grind,by grind⟩;have s7:small (((x.A-aJ c f)*aS c f+(eL c f-eL c t))/aS c t+aJ c t):=Bd.sm ⟨_,D1,D2,(In.div F1 dt.1 i3).add (In.int D1 _),by grind,by grind⟩;have s8:small ((x.B*aS c f+aY c)/aS c t):=Bd.sm ⟨_,D1,D2,In.div F1 dt.1 i5,by grind,by grind⟩;have sc:small (aJ c f):=h.1.sc (by omega);have sc':small (aJ c t):=h.1.sc (by omega);have sd:small (aS c f):=h.1.sd hf;have sd':small (aS c t):=h.1.sd ht;have sT:small (aY c):=rV (by omega);have bu:-100000000≤upC c f-upC c t∧upC c f-upC c t≤100000000:=by
  have a1:upC c f-upC c t≤12000:=by refine iM.1 ?_;rw [← iU];show _≤(12000:Rat);grind
  have a2:-12000≤upC c f-upC c t:=by refine iM.1 ?_;rw [← iU];show (-12000:Rat)≤_;grind
  omega
 have sU:small (eL c f-eL c t):=by rw [iU];exact rV (by omega)
 have hd0:aS c t≠0:=by grind
 unfold mY Wl;simp only [lt];rw [dD,aI (by omega),aI (by omega),cH,cH,fS hf,fD hf,wA,aI (by omega),aI (by omega),fS ht,fD ht,wA,dD,aI (by omega),aI (by omega),fS (by omega),fD (by omega),wA];refine (GV s0 sc _).trans ?_;rw [wC s1];refine (DE s1 sd _).trans ?_;rw [wC s2,dD,KB,aI (by omega),aI (by omega),fS (by rw [KB];omega),fD (by rw [KB];omega),aI (by omega),aI (by omega),fS (by rw [KB];omega),fD (by rw [KB];omega),so (by omega),so (by omega),cL (by omega) (by omega),wA,← iU];refine (DF s2 sU _).trans ?_;rw [wC s3];refine (DE s0' sd _).trans ?_;rw [wC s4,wA];refine (DF s4 sT _).trans ?_;rw [wC s5];refine (Kf s3 sd' hd0 _).trans ?_;rw [wC s6,aI (by omega),aI (by omega),fS (by omega),fD (by omega),wA];refine (DF s6 sc' _).trans ?_;rw [wC s7];refine (Kf s5 sd' hd0 _).trans ?_;rw [wC s8];rfl
theorem yJc {n d:Int} (h1:1≤d) (h2:d≤1000000000000000000) (h3:-1000000000000000000≤n) (h4:n≤1000000000000000000):small ((n:Rat)/(d:Rat)):=by
 have e:=gY (a:=(n:Rat)) (b:=(d:Rat)) (oR h1);generalize (n:Rat)/(d:Rat)=q at *
 have hn:q.num*d=n*q.den:=by
  have e2:q*(q.den:Rat)=(q.num:Rat):=by
   have a:(q.num:Rat)/(q.den:Rat)=q:=by have h:=Rat.num_divInt_den q;rw [Rat.divInt_eq_div] at h;exact h
   have b:=gY (a:=(q.num:Rat)) (b:=(q.den:Rat)) (by have:=q.den_nz;exact fun k=>this (by have:((q.den:Nat):Rat)=((0:Nat):Rat):=k;exact Rat.natCast_inj.1 this));rw [a] at b;exact b
  have:((q.num*d:Int):Rat)=((n*q.den:Int):Rat):=by rw [kR,kR,← e,← e2,HA];grind
  exact Rat.intCast_inj.1 this
 have hp:(0:Int)<q.den:=by have:=q.den_pos;omega
 have hdv:(q.den:Int)∣d:=by
  have h:(q.den:Int)∣q.num*d:=⟨n,by rw [hn,yK]⟩;have h2:q.den∣q.num.natAbs*d.natAbs:=by rw [← Int.natAbs_mul];exact Int.ofNat_dvd_left.1 h
  exact Int.ofNat_dvd_left.2 (Nat.Coprime.dvd_of_dvd_mul_left q.reduced.symm h2)
 obtain ⟨m,hm⟩:=hdv;have hm1:1≤m:=by
  refine Int.not_lt.1 fun k=>?_
  have:=Ed (show m≤0 by omega) (Int.le_of_lt hp);omega
 have hnm:n=q.num*m:=by
  have:q.den*(q.num*m)=q.den*n:=by rw [hm] at hn;grind
  exact (Int.eq_of_mul_eq_mul_left (by omega) this).symm
 have hd:(q.den:Int)≤d:=by have:=Ed hm1 (Int.le_of_lt hp);rw [← hm] at this;omega
 refine ⟨?_,?_,by omega⟩
 ·by_cases k:0≤q.num
  ·omega
  ·have:=Int.mul_le_mul_of_nonpos_left (show q.num≤0 by omega) hm1;rw [← hnm] at this;omega
 ·by_cases k:0≤q.num
  ·have:=Ed hm1 k;rw [← hnm] at this;omega
  ·omega
theorem Yk {k:Nat} {x:Ln} (hk:k≤4) (hx:LB k x) (hp:0<x.B) {n:Int} (n0:0≤n) (n1:n≤1000):∃ a b:Int,1≤b∧b≤82944000∧-1000000000000≤a∧a≤1000000000000∧wh x (n:Rat)=(a:Rat)/(b:Rat)∧small ((n:Rat)-x.A)∧small x.A∧small x.B:=by
 obtain ⟨F,b,F1,F2,⟨a,hA⟩,hB,b0,b1,m0,m1⟩:=hx.numB hk;have hF:=oR F1;have iA:In F x.A:=⟨a,hA⟩;have f0:(0:Rat)<(F:Rat):=by have:=(iM (a:=1)).2 F1;have:(1:Rat)≤(F:Rat):=this;grind
 have f1:(F:Rat)≤20736:=(iM (b:=20736)).2 F2;have r0:(0:Rat)≤(n:Rat):=AR.2 n0;have r1:(n:Rat)≤1000:=(iM (b:=1000)).2 n1;have hb1:1≤b:=by
  refine Int.not_lt.1 fun k=>?_
  have:b=0:=by omega
  rw [this] at hB;have:x.B=0:=by rw [hB];show (0:Rat)/_=0;rw [Rat.div_def,Rat.zero_mul]
  grind
 have eA:=gY (a:=(a:Rat)) hF;have eB:=gY (a:=(b:Rat)) hF;rw [← hA] at eA;rw [← hB] at eB;have ea:((n*F-a:Int):Rat)=((n:Rat)-x.A)*(F:Rat):=by rw [Cl,kR,← eA];grind
 have v:=yO5 (u:=(n:Rat)-x.A) (M:=48000000) (d:=(F:Rat)) (E:=20736) (by grind) (by grind) (eV f0) f1 (by grind);refine ⟨n*F-a,b,hb1,b1,?_,?_,?_,?_,?_,?_⟩
 ·refine iM.1 ?_;rw [ea];show (-1000000000000:Rat)≤_;grind
 ·refine iM.1 ?_;rw [ea];show _≤(1000000000000:Rat);grind
 ·unfold wh;exact XS (by grind) (oR hb1) (by rw [ea,← eB];grind)
 ·exact Bd.sm ⟨F,F1,F2,(In.int F1 n).sub iA,by grind,by grind⟩
 ·exact Bd.sm ⟨F,F1,F2,iA,by grind,by grind⟩
 ·have:=sr F1 b0 b1;rw [← hB] at this;exact Bd.sm ⟨F,F1,F2,⟨b,hB⟩,by grind,by have:x.B≤82944000:=this.2;grind⟩
theorem Yl {k:Nat} {x:Ln} (hk:k≤4) (hx:LB k x) (hp:0<x.B) {n:Int} (n0:0≤n) (n1:n≤1000):small (wh x (n:Rat)):=by obtain ⟨a,b,h1,h2,h3,h4,h5,_⟩:=Yk hk hx hp n0 n1;rw [h5];exact yJc h1 (by omega) (by omega) (by omega)
theorem su {k:Nat} {x:Ln} (hk:k≤4) (hx:LB k x) (hp:0<x.B) {n:Int} (n0:0≤n) (n1:n≤1000) (K:Int→Int→Prop) :
  hZ x.A.num x.A.den x.B.num x.B.den n K=K (wh x (n:Rat)).num (wh x (n:Rat)).den:=by
 obtain ⟨_,_,_,_,_,_,_,s1,s2,s3⟩:=Yk hk hx hp n0 n1;unfold hZ Wo;rw [wA];refine (GV (rV (by omega)) s2 _).trans ?_;rw [wC s1];refine (Kf s1 s3 (by grind) _).trans ?_;exact wC (Yl hk hx hp n0 n1) _
section
variable (e:Es) (aW:bN) (aE:xQ) (aN:tN) (aL:cI)
variable (L0:Int) (c0 d0 Lr:List PV) (Rn:aF→Hp→Prop) (Q:Ex→aF→Hp→Prop) (q0 q1 t0 t1:Int)
theorem Ym (s0:Se):wR e aW aE aN aL (jW 7 bR) (kM (L1 L0 c0 d0 Lr) 1) (dX [s0]) Q=Ho aW aE aN aL L0 Lr [s0] (QA (L1 L0 c0 d0 Lr) [s0] Q):=by kernel_rfl
theorem Yn (s0 s1:Se):wR e aW aE aN aL (jW 7 bR) (kM (L1 L0 c0 d0 Lr) 2) (dX [s0,s1]) Q=Ho aW aE aN aL L0 Lr [s0,s1] (QA (L1 L0 c0 d0 Lr) [s0,s1] Q):=by kernel_rfl
theorem Yo (s0 s1 s2:Se):wR e aW aE aN aL (jW 7 bR) (kM (L1 L0 c0 d0 Lr) 3) (dX [s0,s1,s2]) Q=Ho aW aE aN aL L0 Lr [s0,s1,s2] (QA (L1 L0 c0 d0 Lr) [s0,s1,s2] Q):=by kernel_rfl
theorem Yp (s0:Se) (l0:L4):wR e aW aE aN aL (jW 3 (fZ 7 bR)) (DW (L1 L0 c0 d0 Lr) 1 t0 t1) (sB [s0] [l0] q0 q1) Q=aB (vZ q0 q1 t0 t1) (Q .ret (AF q0 q1) (sB [s0] [l0] q0 q1)) (mJ aN q0 q1 [s0] [l0] DX false fun m=>Q .norm (qZ (L1 L0 c0 d0 Lr) 1) (qY [s0] [l0] q0 q1 (oZ 2 1 false m))):=by kernel_rfl
theorem Yq (s0 s1:Se) (l0 l1:L4):wR e aW aE aN aL (jW 3 (fZ 7 bR)) (DW (L1 L0 c0 d0 Lr) 2 t0 t1) (sB [s0,s1] [l0,l1] q0 q1) Q=aB (vZ q0 q1 t0 t1) (Q .ret (AF q0 q1) (sB [s0,s1] [l0,l1] q0 q1)) (mJ aN q0 q1 [s0,s1] [l0,l1] DX false fun m=>Q .norm (qZ (L1 L0 c0 d0 Lr) 2) (qY [s0,s1] [l0,l1] q0 q1 (oZ 2 2 false m))):=by kernel_rfl
theorem Yr (s0 s1 s2:Se) (l0 l1 l2:L4):wR e aW aE aN aL (jW 3 (fZ 7 bR)) (DW (L1 L0 c0 d0 Lr) 3 t0 t1) (sB [s0,s1,s2] [l0,l1,l2] q0 q1) Q=aB (vZ q0 q1 t0 t1) (Q .ret (AF q0 q1) (sB [s0,s1,s2] [l0,l1,l2] q0 q1)) (mJ aN q0 q1 [s0,s1,s2] [l0,l1,l2] DX false fun m=>Q .norm (qZ (L1 L0 c0 d0 Lr) 3) (qY [s0,s1,s2] [l0,l1,l2] q0 q1 (oZ 2 3 false m))):=by kernel_rfl
theorem Ys (s0:Se) (l0:L4) (b0:Bool):wR e aW aE aN aL (fZ 10 bR) (qZ (L1 L0 c0 d0 Lr) 1) (qY [s0] [l0] q0 q1 (oZ 2 1 false [b0])) (QB (cR iV) 5 (dX [s0]).length Rn Q)=Rn (kM (L1 L0 c0 d0 Lr) 1) (dX (jD [s0] false [b0])):=by cases b0<;>kernel_rfl
theorem Yt (s0 s1:Se) (l0 l1:L4) (b0 b1 b2:Bool):wR e aW aE aN aL (fZ 10 bR) (qZ (L1 L0 c0 d0 Lr) 2) (qY [s0,s1] [l0,l1] q0 q1 (oZ 2 2 false [b0,b1,b2])) (QB (cR iV) 5 (dX [s0,s1]).length Rn Q)=Rn (kM (L1 L0 c0 d0 Lr) 2) (dX (jD [s0,s1] false [b0,b1,b2])):=by cases b0<;>cases b1<;>cases b2<;>kernel_rfl
theorem Yu (s0 s1 s2:Se) (l0 l1 l2:L4) (b0 b1 b2 b3 b4:Bool):wR e aW aE aN aL (fZ 10 bR) (qZ (L1 L0 c0 d0 Lr) 3) (qY [s0,s1,s2] [l0,l1,l2] q0 q1 (oZ 2 3 false [b0,b1,b2,b3,b4])) (QB (cR iV) 5 (dX [s0,s1,s2]).length Rn Q)=Rn (kM (L1 L0 c0 d0 Lr) 3) (dX (jD [s0,s1,s2] false [b0,b1,b2,b3,b4])):=by cases b0<;>cases b1<;>cases b2<;>cases b3<;>cases b4<;>kernel_rfl
end
section
variable (e:Es) (aW:bN) (aE:xQ) (aN:tN) (aL:cI)
variable (L0:Int) (c0 d0 Lr:List PV) (Rn:aF→Hp→Prop) (Q:Ex→aF→Hp→Prop) (q0 q1 t0 t1:Int)
theorem Yv (s0 s1 s2 s3:Se):wR e aW aE aN aL (jW 7 bR) (kM (L1 L0 c0 d0 Lr) 4) (dX [s0,s1,s2,s3]) Q=Ho aW aE aN aL L0 Lr [s0,s1,s2,s3] (QA (L1 L0 c0 d0 Lr) [s0,s1,s2,s3] Q):=by kernel_rfl
end
section
variable (e:Es) (aW:bN) (aE:xQ) (aN:tN) (aL:cI)
variable (L0:Int) (c0 d0 Lr:List PV) (Rn:aF→Hp→Prop) (Q:Ex→aF→Hp→Prop) (q0 q1 t0 t1:Int)
theorem Yw (s0 s1 s2 s3:Se) (l0 l1 l2 l3:L4):wR e aW aE aN aL (jW 3 (fZ 7 bR)) (DW (L1 L0 c0 d0 Lr) 4 t0 t1) (sB [s0,s1,s2,s3] [l0,l1,l2,l3] q0 q1) Q=aB (vZ q0 q1 t0 t1) (Q .ret (AF q0 q1) (sB [s0,s1,s2,s3] [l0,l1,l2,l3] q0 q1)) (mJ aN q0 q1 [s0,s1,s2,s3] [l0,l1,l2,l3] DX false fun m=>Q .norm (qZ (L1 L0 c0 d0 Lr) 4) (qY [s0,s1,s2,s3] [l0,l1,l2,l3] q0 q1 (oZ 2 4 false m))):=by kernel_rfl
end
section
variable (e:Es) (aW:bN) (aE:xQ) (aN:tN) (aL:cI)
variable (L0:Int) (c0 d0 Lr:List PV) (Rn:aF→Hp→Prop) (Q:Ex→aF→Hp→Prop) (q0 q1 t0 t1:Int)
theorem yQO (s0 s1 s2 s3:Se) (l0 l1 l2 l3:L4) (b2 b3 b4 b5 b6:Bool):wR e aW aE aN aL (fZ 10 bR) (qZ (L1 L0 c0 d0 Lr) 4) (qY [s0,s1,s2,s3] [l0,l1,l2,l3] q0 q1 (oZ 2 4 false [false,false,b2,b3,b4,b5,b6])) (QB (cR iV) 5 (dX [s0,s1,s2,s3]).length Rn Q)=Rn (kM (L1 L0 c0 d0 Lr) 4) (dX (jD [s0,s1,s2,s3] false [false,false,b2,b3,b4,b5,b6])):=by cases b2<;>cases b3<;>cases b4<;>cases b5<;>cases b6<;>kernel_rfl
theorem yQP (s0 s1 s2 s3:Se) (l0 l1 l2 l3:L4) (b2 b3 b4 b5 b6:Bool):wR e aW aE aN aL (fZ 10 bR) (qZ (L1 L0 c0 d0 Lr) 4) (qY [s0,s1,s2,s3] [l0,l1,l2,l3] q0 q1 (oZ 2 4 false [false,true,b2,b3,b4,b5,b6])) (QB (cR iV) 5 (dX [s0,s1,s2,s3]).length Rn Q)=Rn (kM (L1 L0 c0 d0 Lr) 4) (dX (jD [s0,s1,s2,s3] false [false,true,b2,b3,b4,b5,b6])):=by cases b2<;>cases b3<;>cases b4<;>cases b5<;>cases b6<;>kernel_rfl
theorem yQQ (s0 s1 s2 s3:Se) (l0 l1 l2 l3:L4) (b2 b3 b4 b5 b6:Bool):wR e aW aE aN aL (fZ 10 bR) (qZ (L1 L0 c0 d0 Lr) 4) (qY [s0,s1,s2,s3] [l0,l1,l2,l3] q0 q1 (oZ 2 4 false [true,false,b2,b3,b4,b5,b6])) (QB (cR iV) 5 (dX [s0,s1,s2,s3]).length Rn Q)=Rn (kM (L1 L0 c0 d0 Lr) 4) (dX (jD [s0,s1,s2,s3] false [true,false,b2,b3,b4,b5,b6])):=by cases b2<;>cases b3<;>cases b4<;>cases b5<;>cases b6<;>kernel_rfl
theorem yQR (s0 s1 s2 s3:Se) (l0 l1 l2 l3:L4) (b2 b3 b4 b5 b6:Bool):wR e aW aE aN aL (fZ 10 bR) (qZ (L1 L0 c0 d0 Lr) 4) (qY [s0,s1,s2,s3] [l0,l1,l2,l3] q0 q1 (oZ 2 4 false [true,true,b2,b3,b4,b5,b6])) (QB (cR iV) 5 (dX [s0,s1,s2,s3]).length Rn Q)=Rn (kM (L1 L0 c0 d0 Lr) 4) (dX (jD [s0,s1,s2,s3] false [true,true,b2,b3,b4,b5,b6])):=by cases b2<;>cases b3<;>cases b4<;>cases b5<;>cases b6<;>kernel_rfl
end
def l4 (x:Ln):L4:=⟨x.A.num,x.A.den,x.B.num,x.B.den⟩
def dZ (s:Sq):Se:=⟨s.1.len,aA s.1.cuts,aA s.1.dens,aA (qA s.1),totC s.1.cuts s.1.dens,(s.2.1:Int),(s.2.2:Int)⟩
def jX (L:Int) (s:Sq):Prop:=eE L s.1∧s.1.len=L∧s.2.1<s.1.dens.length∧s.2.2<s.1.dens.length
def qB:List Sq→Ln→List Ln
 | [],_=>[]
 | s::S,x=>bB s x::qB S (bB s x)
def wE (q:Rat):List Sq→Ln→Bool→List Bool
 | [],_,_=>[]
 | s::S,x,b=>(if b then [decide (wh x (aJ s.1 (s.2.1+1))=q)] else [])++decide (wh (bB s x) (aJ s.1 (s.2.2+1))=q)::wE q S (bB s x) true
theorem sw {L:Int}:∀ {S:List Sq} {x:Ln} {k:Nat} (K:List L4→Prop),(∀ s∈S,jX L s)→LB k x→k+S.length≤4→vY mY (S.map dZ) (l4 x) K=K ((qB S x).map l4)
 | [],_,_,_,_,_,_=>rfl
 | s::S,x,k,K,h,hx,hk=>by obtain ⟨h1,h2,h3,h4⟩:=h s (eU ..);have hk':k+(S.length+1)≤4:=hk;show asr (decide ((dZ s).up.length=(dZ s).up.length)) (asr (decide (0+(dZ s).up.length≤(dZ s).up.length)) (mY s.1.len (aA s.1.cuts) (aA s.1.dens) (((dZ s).up.drop 0).take (dZ s).up.length) (totC s.1.cuts s.1.dens) (s.2.1:Int) (s.2.2:Int) x.A.num x.A.den x.B.num x.B.den fun a b c d=>vY mY (S.map dZ) ⟨a,b,c,d⟩ fun l=>K (⟨a,b,c,d⟩::l)))=K (l4 (bB s x)::(qB S (bB s x)).map l4);rw [aI rfl,aI (by omega),kT,yF,h2];refine (yJb h1 h3 h4 hx (by omega) _).trans ?_;exact sw (S:=S) (x:=bB s x) (k:=k+1) _ (fun t ht=>h t (eF _ ht)) (Kx h1 h3 h4 hx) (by omega)
theorem ta:∀ {S:List Sq} {x:Ln},S≠[]→mK ((qB S x).map l4)=l4 (lJ S x)
 | [],_,h=>absurd rfl h
 | [_],_,_=>rfl
 | s::t::S,x,_=>ta (S:=t::S) (x:=bB s x) (by simp)
theorem ON {L:Int} {c:Ck} {i k:Nat} {x:Ln} (h:eE L c) (hi:i<c.dens.length) (hk:k≤4) (hx:LB k x) (hp:0<x.B) (K:Int→Int→Prop) :
  jC hZ (l4 x) (aA c.cuts) (i:Int) K=K (wh x (aJ c (i+1))).num (wh x (aJ c (i+1))).den:=by
 have l1:=h.1.l1;have l2:=h.1.l2;have e1:=cL (n:=(i:Int)+1) (by omega) (by omega);have lo:=h.1.lo (i:=i+1) (by omega);have hi':=h.1.hi (i:=i+1) (by omega);have ll:=h.1.len0;unfold jC Kz;rw [e1,dN,dD,aI (by omega),aI (by omega),cH,fS (by omega),fD (by omega)];exact su hk hx hp (by omega) (by omega) K
theorem OO {L:Int} {s:Sq} {x:Ln} (h:jX L s) (hB:0≤x.B):0<(bB s x).B:=Hm (den_pos h.1 h.2.2.2) (den_pos h.1 h.2.2.1) (pW h.1) hB
theorem tc {L:Int} {c:Ck} {i k:Nat} {x:Ln} (h:eE L c) (hi:i<c.dens.length) (hk:k≤4) (hx:LB k x) (hp:0<x.B):small (wh x (aJ c (i+1))):=by have l1:=h.1.l1;have lo:=h.1.lo (i:=i+1) (by omega);have hi':=h.1.hi (i:=i+1) (by omega);have ll:=h.1.len0;exact Yl hk hx hp (by omega) (by omega)
theorem td {L:Int}:∀ {S:List Sq} {x:Ln} {k:Nat} {b:Bool} {q:Rat} (K:Int→Int→Prop),(∀ s∈S,jX L s)→LB k x→k+S.length≤4→0≤x.B→(b=true→0<x.B)→small q →
  pY hZ mB (S.map dZ) ((qB S x).map l4) (l4 x) b q.num q.den K=K (mnS q (mF S x b)).num (mnS q (mF S x b)).den∧small (mnS q (mF S x b))
 | [],_,_,_,_,_,_,_,_,_,_,hq=>⟨rfl,hq⟩
 | s::S,x,k,b,q,K,h,hx,hk,hB,hb,hq=>by
  have hs:=h s (eU ..);obtain ⟨h1,h2,h3,h4⟩:=hs;have hs:=h s (eU ..);have hk':k+(S.length+1)≤4:=hk;have hy:LB (k+1) (bB s x):=Kx h1 h3 h4 hx;have yB:=OO hs hB;have ih:=fun {q:Rat} (hq:small q)=>td (S:=S) (x:=bB s x) (k:=k+1) (b:=true) (q:=q) K (fun t ht=>h t (eF _ ht)) hy (by omega) (eV yB) (fun _=>yB) hq
  have sy:=tc h1 h4 (k:=k+1) (by omega) hy yB;have key:∀ {q:Rat},small q→(jC hZ (l4 (bB s x)) (aA s.1.cuts) (s.2.2:Int) fun r0 r1=>mB r0 r1 q.num q.den fun t=>aB t (pY hZ mB (S.map dZ) ((qB S (bB s x)).map l4) (l4 (bB s x)) true r0 r1 K) (pY hZ mB (S.map dZ) ((qB S (bB s x)).map l4) (l4 (bB s x)) true q.num q.den K)) =
    K (mnS q (wh (bB s x) (aJ s.1 (s.2.2+1))::mF S (bB s x) true)).num (mnS q (wh (bB s x) (aJ s.1 (s.2.2+1))::mF S (bB s x) true)).den∧small (mnS q (wh (bB s x) (aJ s.1 (s.2.2+1))::mF S (bB s x) true)):=fun {q} hq=>by
   rw [ON h1 h4 (by omega) hy yB,sn sy hq,(ih sy).1,(ih hq).1];rw [show ∀ l,mnS q (wh (bB s x) (aJ s.1 (s.2.2+1))::l)=mnS (if wh (bB s x) (aJ s.1 (s.2.2+1))<q then wh (bB s x) (aJ s.1 (s.2.2+1)) else q) l from fun _=>rfl]
   by_cases c:wh (bB s x) (aJ s.1 (s.2.2+1))<q
   ·rw [Ef c,aX,YQ c];exact ⟨rfl,(ih sy).2⟩
   ·rw [Os c,aU,YR c];exact ⟨rfl,(ih hq).2⟩
  cases b with
  | false=>exact key hq
  | true=>
   have hp:=hb rfl;have sx:=tc h1 h3 (by omega) hx hp;show (jC hZ (l4 x) (aA s.1.cuts) (s.2.1:Int) fun r0 r1=>mB r0 r1 q.num q.den fun t=>aB t _ _)=_∧_;rw [ON h1 h3 (by omega) hx hp,sn sx hq];have kx:=key sx;have kq:=key hq;show aB (decide (wh x (aJ s.1 (s.2.1+1))<q)) (jC hZ (l4 (bB s x)) (aA s.1.cuts) (s.2.2:Int) _) (jC hZ (l4 (bB s x)) (aA s.1.cuts) (s.2.2:Int) _)=K (mnS q (wh x (aJ s.1 (s.2.1+1))::wh (bB s x) (aJ s.1 (s.2.2+1))::mF S (bB s x) true)).num (mnS q (wh x (aJ s.1 (s.2.1+1))::wh (bB s x) (aJ s.1 (s.2.2+1))::mF S (bB s x) true)).den∧small (mnS q (wh x (aJ s.1 (s.2.1+1))::wh (bB s x) (aJ s.1 (s.2.2+1))::mF S (bB s x) true));rw [show ∀ l,mnS q (wh x (aJ s.1 (s.2.1+1))::l)=mnS (if wh x (aJ s.1 (s.2.1+1))<q then wh x (aJ s.1 (s.2.1+1)) else q) l from fun _=>rfl]
   by_cases c:wh x (aJ s.1 (s.2.1+1))<q
   ·rw [Ef c,aX,YQ c];exact kx
   ·rw [Os c,aU,YR c];exact kq
theorem Yx (r q:Rat):vZ r.num r.den q.num q.den=decide (r=q):=by
 unfold vZ
 by_cases c:r=q
 ·subst c;simp
 ·rw [Os c,Bool.and_true];refine HH.2 fun h=>c ?_
  rw [bO,beq_iff_eq,beq_iff_eq] at h;exact Rat.ext h.1 (by omega)
theorem te {L:Int} {q:Rat}:∀ {S:List Sq} {x:Ln} {k:Nat} {b:Bool} (K:List Bool→Prop),(∀ s∈S,jX L s)→LB k x→k+S.length≤4→0≤x.B→(b=true→0<x.B) →
  mJ hZ q.num q.den (S.map dZ) ((qB S x).map l4) (l4 x) b K=K (wE q S x b)
 | [],_,_,_,_,_,_,_,_,_=>rfl
 | s::S,x,k,b,K,h,hx,hk,hB,hb=>by
  have hs:=h s (eU ..);obtain ⟨h1,h2,h3,h4⟩:=hs;have hs:=h s (eU ..);have hk':k+(S.length+1)≤4:=hk;have hy:LB (k+1) (bB s x):=Kx h1 h3 h4 hx;have yB:=OO hs hB;have ih:=fun (K:List Bool→Prop)=>te (q:=q) (S:=S) (x:=bB s x) (k:=k+1) (b:=true) K (fun t ht=>h t (eF _ ht)) hy (by omega) (eV yB) (fun _=>yB)
  have key:∀ K:List Bool→Prop,(jC hZ (l4 (bB s x)) (aA s.1.cuts) (s.2.2:Int) fun r0 r1=>aB (vZ r0 r1 q.num q.den) (mJ hZ q.num q.den (S.map dZ) ((qB S (bB s x)).map l4) (l4 (bB s x)) true fun m=>K (true::m)) (mJ hZ q.num q.den (S.map dZ) ((qB S (bB s x)).map l4) (l4 (bB s x)) true fun m=>K (false::m))) =
    K (decide (wh (bB s x) (aJ s.1 (s.2.2+1))=q)::wE q S (bB s x) true):=fun K=>by
   rw [ON h1 h4 (by omega) hy yB,Yx,ih,ih]
   cases decide (wh (bB s x) (aJ s.1 (s.2.2+1))=q)<;>rfl
  cases b with
  | false=>exact key K
  | true=>
   have hp:=hb rfl;show (jC hZ (l4 x) (aA s.1.cuts) (s.2.1:Int) fun r0 r1=>aB (vZ r0 r1 q.num q.den) (jC hZ (l4 (bB s x)) (aA s.1.cuts) (s.2.2:Int) _) (jC hZ (l4 (bB s x)) (aA s.1.cuts) (s.2.2:Int) _))=K (decide (wh x (aJ s.1 (s.2.1+1))=q)::decide (wh (bB s x) (aJ s.1 (s.2.2+1))=q)::wE q S (bB s x) true);rw [ON h1 h3 (by omega) hx hp,Yx];have kt:=key fun m=>K (true::m)
   have kf:=key fun m=>K (false::m)
   cases decide (wh x (aJ s.1 (s.2.1+1))=q)
   ·exact kf
   ·exact kt
theorem tf {b:Bool} {n m:Nat} (h:n<m) (hm:m<1000000):(bif b then i64.wrap ((n:Int)+1) else (n:Int))=((n+(if b=true then 1 else 0):Nat):Int):=by
 have e1:=cL (n:=(n:Int)+1) (by omega) (by omega)
 cases b
 ·rfl
 ·show i64.wrap ((n:Int)+1)=_;rw [e1];rfl
theorem tg {L:Int} {q:Rat}:∀ {S:List Sq} {x:Ln} {b:Bool},(∀ s∈S,jX L s)→jD (S.map dZ) b (wE q S x b)=(mG q S x b).map dZ
 | [],_,b,_=>by cases b<;>rfl
 | s::S,x,b,h=>by
  obtain ⟨h1,h2,h3,h4⟩:=h s (eU ..);have l1:=h1.1.l1;have l2:=h1.1.l2;have ih:=tg (q:=q) (S:=S) (x:=bB s x) (b:=true) (fun t ht=>h t (eF _ ht));have w1:=tf (b:=decide (wh x (aJ s.1 (s.2.1+1))=q)) h3 (by omega);have w2:=tf (b:=decide (wh (bB s x) (aJ s.1 (s.2.2+1))=q)) h4 (by omega)
  cases b with
  | true =>show Se.mk _ _ _ _ _ (bif decide (wh x (aJ s.1 (s.2.1+1))=q) then i64.wrap ((s.2.1:Int)+1) else (s.2.1:Int)) (bif decide (wh (bB s x) (aJ s.1 (s.2.2+1))=q) then i64.wrap ((s.2.2:Int)+1) else (s.2.2:Int))::jD (S.map dZ) true (wE q S (bB s x) true)=_;rw [ih,w1,w2];simp only [mG,nM,dZ,decide_eq_true_eq,true_and]
  | false =>show Se.mk _ _ _ _ _ (s.2.1:Int) (bif decide (wh (bB s x) (aJ s.1 (s.2.2+1))=q) then i64.wrap ((s.2.2:Int)+1) else (s.2.2:Int))::jD (S.map dZ) true (wE q S (bB s x) true)=_;rw [ih,w2];simp [mG,dZ]
theorem jV.all {L:Int} {q:Rat}:∀ {S:List Sq} {x:Ln},jV L S x q→∀ s∈S,eE L s.1∧s.2.1<s.1.dens.length∧s.2.2<s.1.dens.length
 | [],_,_,s,h=>by cases h
 | t::S,x,⟨a,b,c,_,_,_,_,h⟩,s,hs=>by
  rcases qAn.1 hs with rfl|hs
  ·exact ⟨a,b,c⟩
  ·exact jV.all h s hs
theorem th {L:Int} {Lr:List PV} {S:List Sq} (h:∀ s∈S,jX L s) (hn:S≠[]) (h4:S.length≤4) (hL:0≤L∧L≤1000) (Q:List L4→Int→Int→Int→Int→Prop) :
  Ho lF mY hZ mB L Lr (S.map dZ) Q=Q ((qB S gG).map l4) (mI L S).num (mI L S).den (gU L S).num (gU L S).den∧small (mI L S)∧small (gU L S):=by
 have hx:=XP;have hz:(0:Rat)≤gG.B:=eI;obtain ⟨lb,lB⟩:LB S.length (lJ S gG)∧0<(lJ S gG).B:=by
  have key:∀ {S:List Sq} {x:Ln} {k:Nat},(∀ s∈S,jX L s)→LB k x→0≤x.B→LB (k+S.length) (lJ S x)∧(S≠[]→0<(lJ S x).B):=by
   intro S;induction S with
   | nil=>intro x k _ hx _;exact ⟨hx,fun k=>absurd rfl k⟩
   | cons s S ih=>
    intro x k h hx hB;have hs:=h s (eU ..);have yB:=OO hs hB;obtain ⟨i1,i2⟩:=ih (x:=bB s x) (k:=k+1) (fun t ht=>h t (eF _ ht)) (Kx hs.1 hs.2.2.1 hs.2.2.2 hx) (eV yB);refine ⟨by rw [iE,show k+(S.length+1)=k+1+S.length by omega];exact i1,fun _=>?_⟩
    cases S with
    | nil=>exact yB
    | cons t S=>exact i2 (by simp)
  have:=key h hx hz;rw [jH] at this;exact ⟨this.1,this.2 hn⟩
 have ss:small (mI L S):=Yl h4 lb lB hL.1 hL.2;have v:=fun K=>td (b:=false) (q:=mI L S) K h hx (by omega) hz (fun k=>by cases k) ss
 refine ⟨?_,ss,(v fun _ _=>True).2⟩;show vY mY (S.map dZ) (l4 gG) (fun ls=>asr (decide ((0:Int)<((Lr.length+1:Nat):Int))) (hZ (mK ls).a (mK ls).b (mK ls).c (mK ls).d L fun s0 s1=>pY hZ mB (S.map dZ) ls (l4 gG) false s0 s1 fun q0 q1=>Q ls s0 s1 q0 q1))=_;rw [sw _ h hx (by omega),aI (by omega),ta hn];refine (su h4 lb lB hL.1 hL.2 _).trans ?_;exact (v _).1
theorem Yy {E:Env} {cK:CK} {lp:LP} {G:aF} {yk:YK}:∀ (n:Nat) (c:TC) (F:aF) (H:Hp) (Q:Ex→aF→Hp→Prop),WC E cK lp G yk c F H Q =
  WC E cK lp G yk (jW n c) F H fun x F' H'=>match x with
   | .norm=>WC E cK lp G yk (fZ n c) F' H' Q
   | .exit i=>Q (.exit i) F' H'
   | .ret=>Q .ret F' H'
   | .brk k i=>Q (.brk k i) F' H'
 | 0,c,F,H,Q=>by
  simp only [fZ]
  cases c<;>simp only [jW,WC]
 | n+1,.seq a b,F,H,Q=>by
  simp only [fZ,jW,WC];congr 1
  funext x F' H'
  cases x with
  | norm=>exact Yy n b F' H' Q
  | _=>rfl
 | n+1,.skip,F,H,Q=>by simp only [fZ,jW,WC]
 | n+1,.ops _ _ _ _,F,H,Q=>by simp only [fZ,jW,WC]
 | n+1,.cond _ _ _,F,H,Q=>by simp only [fZ,jW,WC]
 | n+1,.block _ _,F,H,Q=>by simp only [fZ,jW,WC]
 | n+1,.loop _ _,F,H,Q=>by simp only [fZ,jW,WC]
 | n+1,.lG _ _,F,H,Q=>by simp only [fZ,jW,WC]
 | n+1,.exit _,F,H,Q=>by simp only [fZ,jW,WC]
 | n+1,.ret,F,H,Q=>by simp only [fZ,jW,WC]
 | n+1,.bad,F,H,Q=>by simp only [fZ,jW,WC]
 | n+1,.rangeF _ _ _ _ _ _ _,F,H,Q=>by simp only [fZ,jW,WC]
 | n+1,.yret _ _ _ _ _ _ _,F,H,Q=>by simp only [fZ,jW,WC]
 | n+1,.cut _,F,H,Q=>by simp only [fZ,jW,WC]
 | n+1,.join _ _,F,H,Q=>by simp only [fZ,jW,WC]
theorem ti {E:Env} {P:EP} {id:Nat} {callK:CK} {lp:LP} {b:TC} (hP:aM P E) (hG:Good P callK) (hf:gE b=true) (hl:LpOk P E lp [] b) {n:Nat} {F:aF} {H:Hp} {Q:Ex→aF→Hp→Prop} (h:UE E callK lp b n F H Q):bV P (.loop id b) F H Q:=
 bV.intro hP hG hf (cS.no _ _) hl (fun n F H=>UE E callK lp b n F H Q) (fun _ _ h=>h) (fun _ _ _ h=>h) n F H h
theorem tj {E:Env} {P:EP} {id:Nat} {callK:CK} {lp:LP} {b:TC} (hP:aM P E) (hG:Good P callK) (hf:gE b=true) (hh:gM (bI b)=[]) (hl:LpOk P E lp [] b) {n:Nat} {F:aF} {H:Hp} {Q:Ex→aF→Hp→Prop} (h:Ky E callK lp b n F H Q):bV P (.lG id b) F H Q:=
 bV.introG hP hG hf (cS.no _ _) hl (fun n F H=>Ky E callK lp b n F H Q) (fun _ _ h=>h) (fun n F H h=>by
  have e:∀ F',fdels F' (gM (bI b))=F':=fun F'=>by rw [hh];rfl
  simp only [e];exact h) n F H h
theorem bV.introQ {E:Env} {P:EP} {id:Nat} {callK:CK} {lp:LP} {b:TC} (hP:aM P E) (hG:Good P callK) (hf:gE b=true) (hl:LpOk P E lp [] b) {Q:Ex→aF→Hp→Prop} (R:Nat→aF→Hp→Prop) (h0:∀ F H,¬R 0 F H)
  (hs:∀ n F H,R (n+1) F H→WC E callK lp [] dB b F H (QG b H.length (R n) Q)):∀ n F H,R n F H→bV P (.lG id b) F H Q:=
 bV.introG hP hG hf (cS.no _ _) hl R h0 hs
theorem bV.introP {id:Nat} {P:EP} {b:TC} {Q:Ex→aF→Hp→Prop} (R:Nat→aF→Hp→Prop) (h0:∀ F H,¬R 0 F H)
  (hs:∀ n F H,R (n+1) F H→eP P (bI b) F H (QG b H.length (R n) Q)):∀ n F H,R n F H→bV P (.lG id b) F H Q:=
 bV.introC R h0 hs
section
variable (e:Es) (he:EG e)
abbrev re0:SE:=KA e lF mY hZ mB
abbrev BY:SE:=sC e lF mY hZ mB
abbrev AG:LP:=XW e lF mY hZ mB
theorem yQS (he:EG e):SEOk (aZ (E e)) (re0 e):=bF (aM.uni _) ⟨DA e he,Wn e he,Wq e he,Ws e he,trivial⟩
 ⟨⟨by kernel_rfl,by kernel_rfl,by kernel_rfl,fun az=>dC (by kernel_rfl) _,he.num _ (by kernel_rfl),by kernel_rfl,aR (by kernel_rfl)⟩,
  ⟨by kernel_rfl,by kernel_rfl,by kernel_rfl,fun az=>dC (by kernel_rfl) _,he.num _ (by kernel_rfl),by kernel_rfl,aR (by kernel_rfl)⟩,trivial⟩ he.ok
theorem yQT (he:EG e):LpOk (aZ (E e)) (E e) (si e lF mY hZ mB) [] (oY FN).body:=
 dI (l:=[(31735400,.loop 31735400 (cR Nh))]) ⟨fun F H Q h=>ti (aM.uni _) (cY (yQS e he) 2) (by kernel_rfl) (aR (by kernel_rfl)) h,trivial⟩ (by kernel_rfl)
theorem KC (he:EG e):SEOk (aZ (E e)) (BY e):=bF (aM.uni _) ⟨DA e he,Wn e he,Wq e he,Ws e he,trivial⟩
 ⟨⟨by kernel_rfl,by kernel_rfl,by kernel_rfl,fun az=>dC (by kernel_rfl) _,he.num _ (by kernel_rfl),by kernel_rfl,yQT e he⟩,
  ⟨by kernel_rfl,by kernel_rfl,by kernel_rfl,fun az=>dC (by kernel_rfl) _,he.num _ (by kernel_rfl),by kernel_rfl,aR (by kernel_rfl)⟩,
  ⟨by kernel_rfl,by kernel_rfl,by kernel_rfl,fun az=>dC (by kernel_rfl) _,he.num _ (by kernel_rfl),by kernel_rfl,aR (by kernel_rfl)⟩,trivial⟩ he.ok
theorem yQU (he:EG e):LpOk (aZ (E e)) (E e) (AG e) [] (cR iV):=
 dI (l:=[(5508402,.lG 5508402 (cR Ni)),(5508403,.lG 5508403 (tT Nj))])
  ⟨fun F H Q h=>tj (aM.uni _) (cY (KC e he) 4) (by kernel_rfl) (by kernel_rfl) (aR (by kernel_rfl)) h,
   fun F H Q h=>tj (aM.uni _) (cY (KC e he) 4) (by kernel_rfl) (by kernel_rfl) (aR (by kernel_rfl)) h,trivial⟩ (by kernel_rfl)
end
theorem ySi:cR iV=.block 5 bR:=by kernel_rfl
section
variable (e:Es) (aW:bN) (aE:xQ) (aN:tN) (aL:cI)
variable (L0:Int) (c0 d0 Lr:List PV) (Rn:aF→Hp→Prop) (Q:Ex→aF→Hp→Prop) (q0 q1 t0 t1:Int)
theorem yQV {S:List Se} (hn:S≠[]) (h4:S.length≤4):wR e aW aE aN aL (jW 7 bR) (kM (L1 L0 c0 d0 Lr) S.length) (dX S) Q=Ho aW aE aN aL L0 Lr S (QA (L1 L0 c0 d0 Lr) S Q):=
 match S,hn,h4 with
 | [],hn,_=>absurd rfl hn
 | [s0],_,_=>Ym ..
 | [s0,s1],_,_=>Yn ..
 | [s0,s1,s2],_,_=>Yo ..
 | [s0,s1,s2,s3],_,_=>Yv ..
 | _::_::_::_::_::_,_,h=>by simp only [iE] at h;omega
theorem yQW {S:List Se} {ls:List L4} (hl:ls.length=S.length) (hn:S≠[]) (h4:S.length≤4):wR e aW aE aN aL (jW 3 (fZ 7 bR)) (DW (L1 L0 c0 d0 Lr) S.length t0 t1) (sB S ls q0 q1) Q =
  aB (vZ q0 q1 t0 t1) (Q .ret (AF q0 q1) (sB S ls q0 q1)) (mJ aN q0 q1 S ls DX false fun m=>Q .norm (qZ (L1 L0 c0 d0 Lr) S.length) (qY S ls q0 q1 (oZ 2 S.length false m))):=
 match S,ls,hl,hn,h4 with
 | [],_,_,hn,_=>absurd rfl hn
 | [s0],[l0],_,_,_=>Yp ..
 | [s0,s1],[l0,l1],_,_,_=>Yq ..
 | [s0,s1,s2],[l0,l1,l2],_,_,_=>Yr ..
 | [s0,s1,s2,s3],[l0,l1,l2,l3],_,_,_=>Yw ..
 | _::_::_::_::_::_,_,_,_,h=>by simp only [iE] at h;omega
theorem Yz (s0 s1 s2 s3:Se) (l0 l1 l2 l3:L4):∀ (b0 b1 b2 b3 b4 b5 b6:Bool),wR e aW aE aN aL (fZ 10 bR) (qZ (L1 L0 c0 d0 Lr) 4) (qY [s0,s1,s2,s3] [l0,l1,l2,l3] q0 q1 (oZ 2 4 false [b0,b1,b2,b3,b4,b5,b6])) (QB (cR iV) 5 (dX [s0,s1,s2,s3]).length Rn Q)=Rn (kM (L1 L0 c0 d0 Lr) 4) (dX (jD [s0,s1,s2,s3] false [b0,b1,b2,b3,b4,b5,b6]))
 | false,false,_,_,_,_,_=>yQO ..
 | false,true,_,_,_,_,_=>yQP ..
 | true,false,_,_,_,_,_=>yQQ ..
 | true,true,_,_,_,_,_=>yQR ..
theorem yQX {S:List Se} {ls:List L4} {m:List Bool} (hl:ls.length=S.length) (hm:m.length+1=2*S.length) (h4:S.length≤4):wR e aW aE aN aL (fZ 10 bR) (qZ (L1 L0 c0 d0 Lr) S.length) (qY S ls q0 q1 (oZ 2 S.length false m)) (QB (cR iV) 5 (dX S).length Rn Q)=Rn (kM (L1 L0 c0 d0 Lr) S.length) (dX (jD S false m)):=
 match S,ls,m,hl,hm,h4 with
 | [],_,_,_,h,_=>by simp only [Em] at h;omega
 | [s0],[l0],[b0],_,_,_=>Ys ..
 | [s0,s1],[l0,l1],[b0,b1,b2],_,_,_=>Yt ..
 | [s0,s1,s2],[l0,l1,l2],[b0,b1,b2,b3,b4],_,_,_=>Yu ..
 | [s0,s1,s2,s3],[l0,l1,l2,l3],[b0,b1,b2,b3,b4,b5,b6],_,_,_=>Yz ..
 | _::_::_::_::_::_,_,_,_,_,h=>by simp only [iE] at h;omega
end
theorem ySj:fZ 3 (fZ 7 bR)=fZ 10 bR:=by kernel_rfl
theorem yNK:DX=l4 gG:=by kernel_rfl
theorem tk:∀ (S:List Sq) (x:Ln),(qB S x).length=S.length
 | [],_=>rfl
 | s::S,x=>by show (qB S _).length+1=S.length+1;rw [tk S]
theorem tq (q:Rat):∀ (S:List Sq) (x:Ln) (b:Bool),(wE q S x b).length+(if b=true∨S=[] then 0 else 1)=2*S.length
 | [],_,b=>by simp [wE]
 | s::S,x,b=>by
  have ih:=tq q S (bB s x) true;simp only [true_or,if_true] at ih
  cases b<;>simp [wE]<;>omega
theorem yO6 (q:Rat) (S:List Sq) (x:Ln) (b:Bool):(mG q S x b).length=S.length:=by have:=YS length (Kv q S x b);simpa using this
def runN (L:Int):Nat→List Sq→Option Rat
 | 0,_=>none
 | n+1,S=>if gU L S=mI L S then some (gU L S) else runN L n (mG (gU L S) S gG false)
theorem tt {L:Int}:∀ {n:Nat} {S:List Sq} {q0:Rat},RI L S q0→mH S<n+jB S→∃ q,runN L n S=some q∧FinS L (S.map (·.1)) q
 | 0,S,q0,h,hn=>by have:=h.1.pos;omega
 | n+1,S,q0,h,hn=>by
  obtain ⟨r1,r2⟩:=round h
  by_cases c:gU L S=mI L S
  ·exact ⟨_,YQ c,r1 c⟩
  ·obtain ⟨k1,k2⟩:=r2 c;obtain ⟨q,e1,e2⟩:=tt (n:=n) k1 (by rw [rr];omega);refine ⟨q,(YR c).trans e1,?_⟩;rw [Kv] at e2;exact e2
theorem yQY {E:Env} {cK:CK} {lp:LP} {id:Nat} {b c:TC} {k:Nat} {Rn:aF→Hp→Prop} {F:aF} {H:Hp} {Q:Ex→aF→Hp→Prop}:WC E cK lp [] dB (.block id c) F H (QG b k Rn Q)=WC E cK lp [] dB c F H (QB b id k Rn Q):=by simp only [WC];rfl
section
variable {e:Es} {L:Int} {S:List Sq} {c0 d0 Lr:List PV}
theorem yNL (h:∀ s∈S,jX L s) (hn:S≠[]) (h4:S.length≤4) (hL:0≤L∧L≤1000) {Rn:aF→Hp→Prop} {Q:Ex→aF→Hp→Prop}
  (h1:gU L S=mI L S→∀ H,Q .ret (AF (gU L S).num (gU L S).den) H)
  (h2:gU L S≠mI L S→Rn (kM (L1 L c0 d0 Lr) S.length) (dX ((mG (gU L S) S gG false).map dZ))) :
  WC (E e) (jO (BY e) 4) (AG e) [] dB (cR iV) (kM (L1 L c0 d0 Lr) S.length) (dX (S.map dZ)) (QG (cR iV) (dX (S.map dZ)).length Rn Q):=by
 have hn':S.map dZ≠[]:=fun k=>hn (List.map_eq_nil_iff.1 k)
 have hl:(S.map dZ).length=S.length:=dS ..;have e0:=YS (fun c=>WC (E e) (jO (BY e) 4) (AG e) [] dB c (kM (L1 L c0 d0 Lr) S.length) (dX (S.map dZ)) (QG (cR iV) (dX (S.map dZ)).length Rn Q)) ySi;refine (e0.trans yQY).mpr ?_;refine (Yy 7 bR _ _ _).mpr ?_;have eA:=yQV e lF mY hZ mB L c0 d0 Lr (fun x F' H'=>match x with
   | .norm=>WC (E e) (jO (BY e) 4) (AG e) [] dB (fZ 7 bR) F' H' (QB (cR iV) 5 (dX (S.map dZ)).length Rn Q)
   | .exit i=>QB (cR iV) 5 (dX (S.map dZ)).length Rn Q (.exit i) F' H'
   | .ret=>QB (cR iV) 5 (dX (S.map dZ)).length Rn Q .ret F' H'
   | .brk k i=>QB (cR iV) 5 (dX (S.map dZ)).length Rn Q (.brk k i) F' H') hn' (by rw [hl];exact h4)
 rw [hl] at eA;refine eA.mpr ?_;obtain ⟨eR,s1,s2⟩:=th h hn h4 hL (Lr:=Lr) (QA (L1 L c0 d0 Lr) (S.map dZ) (fun x F' H'=>match x with
   | .norm=>WC (E e) (jO (BY e) 4) (AG e) [] dB (fZ 7 bR) F' H' (QB (cR iV) 5 (dX (S.map dZ)).length Rn Q)
   | .exit i=>QB (cR iV) 5 (dX (S.map dZ)).length Rn Q (.exit i) F' H'
   | .ret=>QB (cR iV) 5 (dX (S.map dZ)).length Rn Q .ret F' H'
   | .brk k i=>QB (cR iV) 5 (dX (S.map dZ)).length Rn Q (.brk k i) F' H'))
 refine eR.mpr ?_;show WC (E e) (jO (BY e) 4) (AG e) [] dB (fZ 7 bR) (DW (L1 L c0 d0 Lr) (S.map dZ).length (mI L S).num (mI L S).den) (sB (S.map dZ) ((qB S gG).map l4) (gU L S).num (gU L S).den) (QB (cR iV) 5 (dX (S.map dZ)).length Rn Q);refine (Yy 3 (fZ 7 bR) _ _ _).mpr ?_;have hll:((qB S gG).map l4).length=(S.map dZ).length:=by rw [dS,tk,hl]
 refine (yQW e lF mY hZ mB L c0 d0 Lr _ _ _ _ _ hll hn' (by rw [hl];exact h4)).mpr ?_;rw [Yx]
 by_cases c:gU L S=mI L S
 ·rw [Ef c,aX];exact h1 c _
 ·rw [Os c,aU,yNK,te _ h XP (by omega) eI (fun k=>by cases k)];rw [ySj];have hm:(wE (gU L S) S gG false).length+1=2*(S.map dZ).length:=by
   have:=tq (gU L S) S gG false;rw [hl,← this,YR (by simp [hn])]
  refine (yQX e lF mY hZ mB L c0 d0 Lr _ _ _ _ hll hm (by rw [hl];exact h4)).mpr ?_;rw [tg h,hl];exact h2 c
def OP (L:Int) (c0 d0 Lr:List PV) (cs:List Ck) (q:Rat) (n:Nat) (F:aF) (H:Hp):Prop:=
 ∃ S q0,S.map (·.1)=cs∧F=kM (L1 L c0 d0 Lr) S.length∧H=dX (S.map dZ)∧RI L S q0∧runN L n S=some q
theorem yNM {cs:List Ck} (hcs:∀ c∈cs,c.len=L) (h4:cs.length≤4) (hL:0≤L∧L≤1000) {q:Rat} {Q:Ex→aF→Hp→Prop} (hQ:∀ H,Q .ret (AF q.num q.den) H) (n:Nat) (F:aF) (H:Hp) (h:OP L c0 d0 Lr cs q (n+1) F H) :
  WC (E e) (jO (BY e) 4) (AG e) [] dB (cR iV) F H (QG (cR iV) H.length (OP L c0 d0 Lr cs q n) Q):=by
 obtain ⟨S,q0,e1,e2,e3,hi,hr⟩:=h;rw [e2,e3];have hl:S.length=cs.length:=by rw [← e1,dS]
 have hS:∀ s∈S,jX L s:=fun s hs=>by
  obtain ⟨a,b,c⟩:=hi.1.all s hs;exact ⟨a,hcs _ (by rw [← e1];exact List.mem_map_of_mem hs),b,c⟩
 obtain ⟨_,r2⟩:=round hi;refine yNL hS hi.2.2 (by omega) hL (fun c H=>?_) (fun c=>?_)
 ·have:gU L S=q:=by rw [runN,YQ c] at hr;exact AS hr
  rw [this];exact hQ H
 ·rw [runN,YR c] at hr;exact ⟨mG (gU L S) S gG false,_,by rw [Kv];exact e1,by rw [yO6],rfl,(r2 c).1,hr⟩
theorem yQZ (he:EG e) {cs:List Ck} (hcs:∀ c∈cs,c.len=L) (h4:cs.length≤4) (hL:0≤L∧L≤1000) {q:Rat} {Q:Ex→aF→Hp→Prop} (hQ:∀ H,Q .ret (AF q.num q.den) H) {n:Nat} {F:aF} {H:Hp} (h:OP L c0 d0 Lr cs q n F H):bV (aZ (E e)) (.lG 5508404 (cR iV)) F H Q:=
 bV.introQ (aM.uni _) (cY (KC e he) 4) (by kernel_rfl) (yQU e he) (OP L c0 d0 Lr cs q) (fun F H h=>by obtain ⟨S,q0,_,_,_,_,h⟩:=h;cases h) (yNM hcs h4 hL hQ) n F H h
end
def sD (c:Ck) (i:Nat):Se:=⟨c.len,aA c.cuts,aA c.dens,aA ((List.range (i+1)).map (upC c)),upC c i,0,0⟩
theorem tu {L:Int} {c:Ck} (h:eE L c) {i:Nat} (hi:i≤c.dens.length):0≤upC c i∧upC c i≤12000:=by obtain ⟨a,b⟩:=Kw h hi;exact ⟨AR.1 a,iM.1 (by show _≤(12000:Rat);exact b)⟩
theorem yQ0 {L:Int} {c:Ck} (h:eE L c):upC c c.dens.length=totC c.cuts c.dens:=by
 have a:=XK h c.dens.length (bX _);have b:=XL h;rw [OF h] at a;have:eL c c.dens.length=aY c:=by grind
 exact Rat.intCast_inj.1 this
theorem yQ1 {L:Int} {c:Ck} (h:eE L c):sD c c.dens.length=dZ (c,0,0):=by unfold sD dZ qA;rw [yQ0 h];rfl
theorem yO7 {L:Int} {c:Ck} (h:eE L c) {i:Nat} (hi:i<c.dens.length) (K:Se→Prop):pZ (aA c.dens) (sD c i) (i:Int) K=K (sD c (i+1)):=by
 have l1:=h.1.l1;have l2:=h.1.l2;have e1:=cL (n:=(i:Int)+1) (by omega) (by omega);have u0:=tu h (i:=i) (by omega);have u1:=tu h (i:=i+1) (by omega);have es:upC c (i+1)=upC c i+c.dens.getD i 0*(c.cuts.getD (i+1) 0-c.cuts.getD i 0):=rfl;have ll:=h.1.len0;have lo:=h.1.lo (i:=i) (by omega);have hi0:=h.1.hi (i:=i) (by omega);have lo1:=h.1.lo (i:=i+1) (by omega);have hi1:=h.1.hi (i:=i+1) (by omega);have eT:sF (aA c.dens) (aA c.cuts) (upC c i) (i:Int)=upC c (i+1):=by unfold sF;rw [e1,dN,cH,cH,fD hi,fD (by omega),fD (by omega),cL (n:=c.cuts.getD (i+1) 0-c.cuts.getD i 0) (by omega) (by omega),cL (n:=c.dens.getD i 0*_) (by omega) (by omega),cL (by omega) (by omega),es]
 have eu:(sD c i).up.length=i+1:=by show (aA _).length=_;rw [dD,dS,List.length_range]
 unfold pZ;rw [dD,aI (by omega),aI (by omega),cH,fS hi,e1,dN,cH];show asr (decide (0≤((i+1:Nat):Int))) (asr (decide (((i+1:Nat):Int)<(((aA c.cuts).length:Nat):Int))) (asr (aG zI ((aA c.cuts).getD (i+1) .nils)) (asr (decide (0≤(i:Int))) (asr (decide ((i:Int)<(((aA c.cuts).length:Nat):Int))) (asr (aG zI ((aA c.cuts).getD i .nils)) _)))))=_;rw [dD,aI (by omega),aI (by omega),fS (by omega),aI (by omega),aI (by omega),fS (by omega),eu,aI rfl,aI (by omega),vR (by simp),aI rfl,aI (by unfold room;omega)];show K ⟨c.len,aA c.cuts,aA c.dens,aA ((List.range (i+1)).map (upC c))++[.int .i64 (sF (aA c.dens) (aA c.cuts) (upC c i) (i:Int))],sF (aA c.dens) (aA c.cuts) (upC c i) (i:Int),0,0⟩=_;rw [eT];congr 1;unfold sD;congr 1;rw [List.range_succ (n:=i+1),yJ];unfold aA;rw [yJ];rfl
section
variable (e:Es) (aW:bN) (aE:xQ) (aN:tN) (aL:cI)
variable (L ord:List PV) (Rn:aF→Hp→Prop) (Q:Ex→aF→Hp→Prop) (PP PQ:aF→Hp→Prop→Prop)
theorem yQ2 {S:List Se} (h:S.length≤3) (dens:List PV) (m i:Int) (s:Se):wD e aW aE aN aL (lS L ord S.length dens m i) (hpD S s) (QG (cR rP) (hpD S s).length Rn Q) =
  aB (decide (i<m)) (pZ dens s i fun s'=>Rn (lS L ord S.length dens m (i64.wrap (i+1))) (hpD S s')) (Q (.exit 2) (jE L ord S.length dens m i) (hpD S s)):=
 match S,h with
 | [],_=>XX ..
 | [s0],_=>XY ..
 | [s0,s1],_=>XZ ..
 | [s0,s1,s2],_=>Ya ..
 | _::_::_::_::_,h=>by simp only [iE] at h;omega
theorem yQ3 {S:List Se} (h:S.length≤4) (dens:List PV) (m i:Int) (s:Se):wO e aW aE aN aL PP (jE L ord S.length dens m i) (hpD S s) (lT L ord S.length) (fA S) (QG (cR qO) (fA S).length Rn Q) =
  DZ L ord S.length (PP (lS L ord S.length (gH (mL L ord S.length)).dens (gH (mL L ord S.length)).dens.length 0) (hpD S (gH (mL L ord S.length))) (Rn (lT L ord (S.length+1)) (fA (S++[s])))) (Q (.exit 0) (jF L ord S.length) (fA S)):=
 match S,h with
 | [],_=>Yb ..
 | [s0],_=>Yc ..
 | [s0,s1],_=>Ye ..
 | [s0,s1,s2],_=>Yg ..
 | [s0,s1,s2,s3],_=>Yi ..
 | _::_::_::_::_::_,h=>by simp only [iE] at h;omega
theorem yQ4 {S:List Se} (hn:S≠[]) (h:S.length≤4) (q0 q1:Int) (K:PV→Prop):wT e aW aE aN aL L ord PP PQ (jF L ord S.length) (fA S) q0 q1 K=PP (lT L ord 0) (fA []) (PQ (kM L S.length) (dX S) (∀ _:Hp,K (mR q0 q1))):=
 match S,hn,h with
 | [],hn,_=>absurd rfl hn
 | [s0],_,_=>Yd ..
 | [s0,s1],_,_=>Yf ..
 | [s0,s1,s2],_,_=>Yh ..
 | [s0,s1,s2,s3],_,_=>Yj ..
 | _::_::_::_::_::_,_,h=>by simp only [iE] at h;omega
end
section
variable {e:Es} {L:Int} {Lc ord:List PV}
theorem yQ5 (_:EG e):LpOk (aZ (E e)) (E e) (AG e) [] (cR rP):=aR (by kernel_rfl)
def YA (Lc ord:List PV) (S:List Se) (c:Ck) (k:Nat) (F:aF) (H:Hp):Prop:=∃ i,i≤c.dens.length∧c.dens.length<i+k∧F=lS Lc ord S.length (aA c.dens) c.dens.length (i:Int)∧H=hpD S (sD c i)
theorem yQ6 {S:List Se} (hS:S.length≤3) {c:Ck} (h:eE L c) {Q:Ex→aF→Hp→Prop} (hQ:Q (.exit 2) (jE Lc ord S.length (aA c.dens) c.dens.length c.dens.length) (hpD S (sD c c.dens.length))) (n:Nat) (F:aF) (H:Hp) (hs:YA Lc ord S c (n+1) F H) :
  WC (E e) (jO (BY e) 4) (AG e) [] dB (cR rP) F H (QG (cR rP) H.length (YA Lc ord S c n) Q):=by
 obtain ⟨i,h1,h2,e1,e2⟩:=hs;have l2:=h.1.l2;have l1:=h.1.l1;rw [e1,e2];refine (yQ2 e lF mY hZ mB Lc ord _ Q hS _ _ _ _).mpr ?_
 by_cases c':i<c.dens.length
 ·rw [bS (by omega),yO7 h c'];exact ⟨i+1,c',by omega,by rw [cL (by omega) (by omega)];rfl,rfl⟩
 ·have:i=c.dens.length:=by omega
  subst this;rw [bG (by omega)];exact hQ
theorem yNO (he:EG e) {S:List Se} (hS:S.length≤3) {c:Ck} (h:eE L c) {Q:Ex→aF→Hp→Prop} (hQ:Q (.exit 2) (jE Lc ord S.length (aA c.dens) c.dens.length c.dens.length) (hpD S (sD c c.dens.length))) :
  bV (aZ (E e)) (.lG 5508400 (cR rP)) (lS Lc ord S.length (aA c.dens) c.dens.length 0) (hpD S (sD c 0)) Q:=
 bV.introQ (aM.uni _) (cY (KC e he) 4) (by kernel_rfl) (yQ5 he) (YA Lc ord S c) (fun F H h=>by obtain ⟨i,h1,h2,_⟩:=h;omega) (yQ6 hS h hQ) (c.dens.length+1) _ _ ⟨0,iL _,by omega,rfl,rfl⟩
def OQ (L:Int) (Lc ord:List PV) (cs:List Ck):Prop:=ord.length=cs.length∧∀ j,j<cs.length→aG zI (ord.getD j .nils)=true∧0≤DY ord j∧DY ord j<Lc.length∧mL Lc ord j=fT (cs.getD j default)∧eE L (cs.getD j default)
def nJ (cs:List Ck):List Se:=cs.map fun c=>sD c c.dens.length
end
end Go.Pf.Vc
