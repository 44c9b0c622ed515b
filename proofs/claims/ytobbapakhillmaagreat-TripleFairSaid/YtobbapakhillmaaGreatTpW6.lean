/- Part 6. -/
import Derived.Test.YtobbapakhillmaaGreatTpW5
noncomputable section
namespace Go.Pf.Vc
open Go Go.Pf
set_option maxRecDepth 100000
section
variable {l:List Ck}
theorem yE8 {vs:List Rat} (hs:∀ i,i<vs.length→small (vs.getD i 0)) {J:List Nat} (hJ:∀ i∈J,i<vs.length) (h6:J.length≤100) {x:List PV→Int→List PV→Int→Int→Bool→Prop} :
  ∀ (r:List Nat) (i n b:Nat),J.drop i=r→i≤J.length→r.length<n→b<vs.length→x (rts vs) (pkL (fun i=>vs.getD i 0) b r:Nat) (nts J) (J.length:Int) (J.length:Int) false→ydV ycs x n (rts vs) (b:Int) (nts J) (J.length:Int) (i:Int)
 | [],i,n,b,hr,hi,hn,hb,h=>by
  obtain ⟨n,rfl⟩:∃ k,n=k+1:=⟨n-1,by omega⟩
  have e:i=J.length:=by
   have:=congrArg List.length hr
   rw [qA0,List.length_nil] at this
   omega
  subst e
  unfold ydV
  rw [cbF (by omega)]
  exact h
 | a::r,i,n,b,hr,hi,hn,hb,h=>by
  obtain ⟨n,rfl⟩:∃ k,n=k+1:=⟨n-1,by omega⟩
  simp only [qAo] at hn
  obtain ⟨hlt,hg,hr'⟩:=yNj hr
  have ha:a<vs.length:=hJ a (by rw [← hg,qAa,qAc hlt];exact qB5 hlt)
  have ew:IntKind.i64.wrap ((i:Int)+1)=((i+1:Nat):Int):=by rw [wib (by omega) (by omega)];omega
  have IH:=fun b hb h=>yE8 hs hJ h6 (x:=x) r (i+1) n b hr' (by omega) (by omega) hb h
  unfold ydV
  simp only [Go.Pf.jn,lt]
  rw [cbT (by omega),yKf,asT (by omega),asT (by omega),qAe,yPs hlt,hg,yON,iov,yji,asT (by omega),asT (by omega),qAe,ykP ha,asW,asT (by omega),asT (by omega),qAe,ykP hb,asW,yt5,yt6,yt5,yt6,yxq (hs a ha) (hs b hb),yPw,ew]
  unfold pkL at h
  by_cases hc:vs.getD b 0<vs.getD a 0
  ·rw [if_pos hc] at h
   rw [decide_eq_true hc,yau]
   exact IH a ha h
  ·rw [if_neg hc] at h
   rw [decide_eq_false hc,yaf]
   exact IH b hb h
theorem yNm {vs:List Rat} (hs:∀ i,i<vs.length→small (vs.getD i 0)) {i0:Nat} {J:List Nat} (hJ:∀ i∈i0::J,i<vs.length) (h6:J.length≤90) (K:Int→Prop) :
  yaq (rts vs) (nts (i0::J)) K=K (pkL (fun i=>vs.getD i 0) i0 (i0::J):Nat):=by
 refine yAA _ _ _ (fun K k=>?_) K
 unfold yaq ymh
 have e:List.getD (nts (i0::J)) 0 .nils=.int .i64 i0:=rfl
 simp only [lt]
 rw [yKf,asT (by simp only [qAo];omega),e,yON,iov]
 exact ⟨(i0::J).length+1,yE8 hs hJ (by simp only [qAo];omega) (i0::J) 0 _ i0 rfl (by omega) (by omega) (hJ i0 qAg) k⟩
theorem ynj {v:Nat→Rat}:∀ (J:List Nat) (b:Nat),(pkL v b J=b∨pkL v b J∈J)∧v b≤v (pkL v b J)∧∀ i∈J,v i≤v (pkL v b J)
 | [],b=>⟨.inl rfl,qAr,fun i h=>by cases h⟩
 | a::r,b=>by
  unfold pkL
  by_cases hc:v b<v a
  ·rw [if_pos hc]
   obtain ⟨h1,h2,h3⟩:=ynj (v:=v) r a
   refine ⟨.inr ?_,by grind,fun i hi=>?_⟩
   ·rcases h1 with h1 | h1
    ·rw [h1];exact qAg
    ·exact qAf _ h1
   ·rcases qAk.1 hi with rfl | hi
    ·exact h2
    ·exact h3 i hi
  ·rw [if_neg hc]
   obtain ⟨h1,h2,h3⟩:=ynj (v:=v) r b
   have hc:=qB8.1 hc
   refine ⟨?_,h2,fun i hi=>?_⟩
   ·rcases h1 with h1 | h1
    ·exact .inl h1
    ·exact .inr (qAf _ h1)
   ·rcases qAk.1 hi with rfl | hi
    ·grind
    ·exact h3 i hi
def oth (p:Nat):List Nat:=if p=0 then [1,2] else if p=1 then [0,2] else [0,1]
theorem oth0 (K:List PV→Prop):yai (nts [0]) K=K (nts [1,2]):=by
 refine yco _ _ (fun K k=>?_) K
 refine @Exists.intro Nat _ 4 ?_
 refine @Exists.intro Nat _ 2 ?_
 refine @Exists.intro Nat _ 2 ?_
 refine @Exists.intro Nat _ 2 ?_
 exact k
theorem oth1 (K:List PV→Prop):yai (nts [1]) K=K (nts [0,2]):=by
 refine yco _ _ (fun K k=>?_) K
 refine @Exists.intro Nat _ 4 ?_
 refine @Exists.intro Nat _ 2 ?_
 refine @Exists.intro Nat _ 2 ?_
 refine @Exists.intro Nat _ 2 ?_
 exact k
theorem oth2 (K:List PV→Prop):yai (nts [2]) K=K (nts [0,1]):=by
 refine yco _ _ (fun K k=>?_) K
 refine @Exists.intro Nat _ 4 ?_
 refine @Exists.intro Nat _ 2 ?_
 refine @Exists.intro Nat _ 2 ?_
 refine @Exists.intro Nat _ 2 ?_
 exact k
theorem yQu (K:List PV→Prop):yai (nts [0,1]) K=K (nts [2]):=by
 refine yco _ _ (fun K k=>?_) K
 refine @Exists.intro Nat _ 4 ?_
 refine @Exists.intro Nat _ 3 ?_
 refine @Exists.intro Nat _ 3 ?_
 refine @Exists.intro Nat _ 3 ?_
 exact k
theorem yQv (K:List PV→Prop):yai (nts [1,0]) K=K (nts [2]):=by
 refine yco _ _ (fun K k=>?_) K
 refine @Exists.intro Nat _ 4 ?_
 refine @Exists.intro Nat _ 3 ?_
 refine @Exists.intro Nat _ 3 ?_
 refine @Exists.intro Nat _ 3 ?_
 exact k
theorem yQw (K:List PV→Prop):yai (nts [0,2]) K=K (nts [1]):=by
 refine yco _ _ (fun K k=>?_) K
 refine @Exists.intro Nat _ 4 ?_
 refine @Exists.intro Nat _ 3 ?_
 refine @Exists.intro Nat _ 3 ?_
 refine @Exists.intro Nat _ 3 ?_
 exact k
theorem yQx (K:List PV→Prop):yai (nts [2,0]) K=K (nts [1]):=by
 refine yco _ _ (fun K k=>?_) K
 refine @Exists.intro Nat _ 4 ?_
 refine @Exists.intro Nat _ 3 ?_
 refine @Exists.intro Nat _ 3 ?_
 refine @Exists.intro Nat _ 3 ?_
 exact k
theorem yQy (K:List PV→Prop):yai (nts [1,2]) K=K (nts [0]):=by
 refine yco _ _ (fun K k=>?_) K
 refine @Exists.intro Nat _ 4 ?_
 refine @Exists.intro Nat _ 3 ?_
 refine @Exists.intro Nat _ 3 ?_
 refine @Exists.intro Nat _ 3 ?_
 exact k
theorem yQz (K:List PV→Prop):yai (nts [2,1]) K=K (nts [0]):=by
 refine yco _ _ (fun K k=>?_) K
 refine @Exists.intro Nat _ 4 ?_
 refine @Exists.intro Nat _ 3 ?_
 refine @Exists.intro Nat _ 3 ?_
 refine @Exists.intro Nat _ 3 ?_
 exact k
theorem ysQ {p:Nat} (hp:p<3) (K:List PV→Prop):yai [.int .i64 (p:Int)] K=K (nts (oth p)):=by
 obtain rfl | rfl | rfl:p=0∨p=1∨p=2:=by omega
 ·exact oth0 K
 ·exact oth1 K
 ·exact oth2 K
theorem yGL {a b:Nat} (ha:a<3) (hb:b<3) (hab:a≠b) (K:List PV→Prop):yai [.int .i64 (a:Int),.int .i64 (b:Int)] K=K (nts [3-a-b]):=by
 obtain rfl | rfl | rfl:a=0∨a=1∨a=2:=by omega
 ·obtain rfl | rfl:b=1∨b=2:=by omega
  ·exact yQu K
  ·exact yQw K
 ·obtain rfl | rfl:b=0∨b=2:=by omega
  ·exact yQv K
  ·exact yQy K
 ·obtain rfl | rfl:b=0∨b=1:=by omega
  ·exact yQx K
  ·exact yQz K
def pk (v:List Rat):Nat:=pkL (fun i=>v.getD i 0) 0 [0,1,2]
def pkO (v:List Rat) (p:Nat):Nat:=pkL (fun i=>v.getD i 0) ((oth p).getD 0 0) (oth p)
theorem yNn (v:List Rat):pk v<3:=by
 obtain ⟨h,_⟩:=ynj (v:=fun i=>v.getD i 0) [0,1,2] 0
 unfold pk
 rcases h with h | h
 ·rw [h];decide
 ·simp only [qAk,qCb,or_false] at h;omega
theorem yJo (v:List Rat) {i:Nat} (hi:i<3):v.getD i 0≤v.getD (pk v) 0:=(ynj (v:=fun i=>v.getD i 0) [0,1,2] 0).2.2 i (by simp;omega)
theorem yKx {p i:Nat} (hp:p<3):i∈oth p↔i<3∧i≠p:=by
 obtain rfl | rfl | rfl:p=0∨p=1∨p=2:=by omega
 all_goals (simp [oth];omega)
theorem yKy (v:List Rat) {p:Nat} (hp:p<3):pkO v p<3∧pkO v p≠p:=by
 obtain ⟨h,_⟩:=ynj (v:=fun i=>v.getD i 0) (oth p) ((oth p).getD 0 0)
 have h:pkO v p∈oth p:=by
  unfold pkO
  rcases h with h | h
  ·rw [h]
   obtain rfl | rfl | rfl:p=0∨p=1∨p=2:=by omega
   all_goals simp [oth]
  ·exact h
 exact (yKx hp).1 h
theorem yKz (v:List Rat) {p i:Nat} (hp:p<3) (hi:i<3) (hne:i≠p):v.getD i 0≤v.getD (pkO v p) 0:=(ynj (v:=fun i=>v.getD i 0) (oth p) ((oth p).getD 0 0)).2.2 i ((yKx hp).2 ⟨hi,hne⟩)
theorem yGM {v:List Rat} (h3:v.length=3) (hs:∀ i,i<3→small (v.getD i 0)) (K:Int→Prop):yaq (rts v) [.int .i64 0,.int .i64 1,.int .i64 2] K=K (pk v:Nat) :=
 yNm (i0:=0) (J:=[1,2]) (by rw [h3];exact hs) (by rw [h3];intro i hi;simp at hi;omega) (by decide) K
theorem yKA {v:List Rat} (h3:v.length=3) (hs:∀ i,i<3→small (v.getD i 0)) {p:Nat} (hp:p<3) (K:Int→Prop):yaq (rts v) (nts (oth p)) K=K (pkO v p:Nat):=by
 have key:∀ a b:Nat,oth p=[a,b]→a<3→b<3→yaq (rts v) (nts (oth p)) K=K (pkO v p:Nat):=fun a b e ha hb=>by
  unfold pkO
  rw [e]
  exact yNm (i0:=a) (J:=[b]) (by rw [h3];exact hs) (by rw [h3];intro i hi;simp at hi;omega) (by rw [qAt];omega) K
 obtain rfl | rfl | rfl:p=0∨p=1∨p=2:=by omega
 ·exact key 1 2 rfl (by omega) (by omega)
 ·exact key 0 2 rfl (by omega) (by omega)
 ·exact key 0 1 rfl (by omega) (by omega)
end
theorem exS3 {P R:Nat→Prop} (h0:P 0=False) (h:∀ n,P (n+1)=R n):(∃ n,P n)=∃ n,R n :=
 propext ⟨fun ⟨n,hn⟩=>match n,hn with | 0,hn=>(h0 ▸ hn).elim | n+1,hn=>⟨n,(h n) ▸ hn⟩,fun ⟨n,hn⟩=>⟨n+1,(h n).symm ▸ hn⟩⟩
theorem exC3 {Q:Prop}:(∃ _:Nat,Q)=Q:=propext ⟨fun ⟨_,h⟩=>h,fun h=>⟨0,h⟩⟩
section
variable {l:List Ck}
structure VQ (l:List Ck) (s:RS):Prop where
 s1:small s.1
 s2:small s.2
 z:0≤s.1
 le:s.1≤s.2
 len:s.2≤lenR l
 D:∃ D:Int,(1≤D∧D≤50000000000000)∧In D s.1∧In D s.2
def vS (l:List Ck) (a:Nat) (s:RS):Rat:=vXA l a s.2-vXA l a s.1
theorem VQ.val (hd:DK l) {a:Nat} (ha:a<l.length) {s:RS} (h:VQ l s) {lg:List Qy} (hm:lg.length<2000) (K:List PV→List PV→Int→Int→Int→Prop) :
  yat (cks l) (logs lg) a s.1.num s.1.den s.2.num s.2.den K=K (cks l) (logs (lg++[vlQ l a s.1 s.2])) (vS l a s).num (vS l a s).den 0:=by
 obtain ⟨D,hD,k1,k2⟩:=h.D
 exact yPv hd ha h.s1 h.s2 h.z h.le h.len hD k1 k2 hm K
theorem yQA (hd:DK l) {a:Nat} (ha:a<l.length) {s t:RS} (hs:VQ l s) (ht:VQ l t) {lg:List Qy} (hm:lg.length+2<2000) {x0 x1} (i0 i1 i2 i3 i4 i5 i6 i7 i8 i9 i10 i11 i12 i13 i14 i15 i16 i17 i18 i19:Int) :
  (∃ n,ydE yaZ yaC yae yat yac yaQ yaq yai yaz x0 x1 n (cks l) (logs lg) i0 i1 i2 i3 i4 i5 i6 i7 i8 i9 i10 i11 i12 i13 i14 i15 i16 i17 i18 i19 (a:Int) [encR s,encR t] 2 0) =
  x1 (rts [vS l a s,vS l a t]) (cks l) (logs ((lg++[vlQ l a s.1 s.2])++[vlQ l a t.1 t.2])) i0 i1 i2 i3 i4 i5 i6 i7 i8 i9 i10 i11 i12 i13 i14 i15 i16 i17 i18 i19 (a:Int) [encR s,encR t] 2 2 false:=by
 rw [exS3 rfl (R:=fun n=>ybF yaZ yaC yae yat yac yaQ yaq yai yaz x1 n (rts [vS l a s]) (cks l) (logs (lg++[vlQ l a s.1 s.2])) i0 i1 i2 i3 i4 i5 i6 i7 i8 i9 i10 i11 i12 i13 i14 i15 i16 i17 i18 i19 (a:Int) [encR s,encR t] 2 1) (fun n=>?_),
  exS3 rfl (R:=fun n=>ybF yaZ yaC yae yat yac yaQ yaq yai yaz x1 n (rts [vS l a s,vS l a t]) (cks l) (logs ((lg++[vlQ l a s.1 s.2])++[vlQ l a t.1 t.2])) i0 i1 i2 i3 i4 i5 i6 i7 i8 i9 i10 i11 i12 i13 i14 i15 i16 i17 i18 i19 (a:Int) [encR s,encR t] 2 2) (fun n=>?_),
  exS3 rfl (R:=fun _=>x1 (rts [vS l a s,vS l a t]) (cks l) (logs ((lg++[vlQ l a s.1 s.2])++[vlQ l a t.1 t.2])) i0 i1 i2 i3 i4 i5 i6 i7 i8 i9 i10 i11 i12 i13 i14 i15 i16 i17 i18 i19 (a:Int) [encR s,encR t] 2 2 false) (fun n=>by kernel_rfl),exC3]
 ·have e:ybF yaZ yaC yae yat yac yaQ yaq yai yaz x1 (n+1) (rts [vS l a s]) (cks l) (logs (lg++[vlQ l a s.1 s.2])) i0 i1 i2 i3 i4 i5 i6 i7 i8 i9 i10 i11 i12 i13 i14 i15 i16 i17 i18 i19 (a:Int) [encR s,encR t] 2 1=yat (cks l) (logs (lg++[vlQ l a s.1 s.2])) a t.1.num t.1.den t.2.num t.2.den (fun c g y0 y1 y2=>yac y0 y1 y2 fun r0 r1=>ybF yaZ yaC yae yat yac yaQ yaq yai yaz x1 n [encW (vS l a s),.agg [.int .i64 r0,.int .i64 r1]] c g i0 i1 i2 i3 i4 i5 i6 i7 i8 i9 i10 i11 i12 i13 i14 i15 i16 i17 i18 i19 (a:Int) [encR s,encR t] 2 2):=by kernel_rfl
  rw [e,ht.val hd ha (by rw [qAi,qAt];omega),ygX]
  rfl
 ·have e:ydE yaZ yaC yae yat yac yaQ yaq yai yaz x0 x1 (n+1) (cks l) (logs lg) i0 i1 i2 i3 i4 i5 i6 i7 i8 i9 i10 i11 i12 i13 i14 i15 i16 i17 i18 i19 (a:Int) [encR s,encR t] 2 0=yat (cks l) (logs lg) a s.1.num s.1.den s.2.num s.2.den (fun c g y0 y1 y2=>yac y0 y1 y2 fun r0 r1=>ybF yaZ yaC yae yat yac yaQ yaq yai yaz x1 n [.agg [.int .i64 r0,.int .i64 r1]] c g i0 i1 i2 i3 i4 i5 i6 i7 i8 i9 i10 i11 i12 i13 i14 i15 i16 i17 i18 i19 (a:Int) [encR s,encR t] 2 1):=by kernel_rfl
  rw [e,hs.val hd ha (by omega),ygX]
  rfl
theorem yOO (hd:DK l) {a:Nat} (ha:a<l.length) {s t u:RS} (hs:VQ l s) (ht:VQ l t) (hu:VQ l u) {lg:List Qy} (hm:lg.length+3<2000) {x2 x3} (v:List PV) (i12 i13 i14 i15 i16 i17 i18 i19:Int) :
  (∃ n,ycO yaZ yaC yae yat yac yaQ yaq yai yaz x2 x3 n v (cks l) (logs lg) s.1.num s.1.den s.2.num s.2.den t.1.num t.1.den t.2.num t.2.den u.1.num u.1.den u.2.num u.2.den i12 i13 i14 i15 i16 i17 i18 i19 (a:Int) 3 0) =
  x3 v (rts [vS l a s,vS l a t,vS l a u]) (cks l) (logs (((lg++[vlQ l a s.1 s.2])++[vlQ l a t.1 t.2])++[vlQ l a u.1 u.2])) s.1.num s.1.den s.2.num s.2.den t.1.num t.1.den t.2.num t.2.den u.1.num u.1.den u.2.num u.2.den i12 i13 i14 i15 i16 i17 i18 i19 (a:Int) 3 3 false:=by
 rw [exS3 rfl (R:=fun n=>ya7 yaZ yaC yae yat yac yaQ yaq yai yaz x3 n v (rts [vS l a s]) (cks l) (logs (lg++[vlQ l a s.1 s.2])) s.1.num s.1.den s.2.num s.2.den t.1.num t.1.den t.2.num t.2.den u.1.num u.1.den u.2.num u.2.den i12 i13 i14 i15 i16 i17 i18 i19 (a:Int) 3 1) (fun n=>?_),
  exS3 rfl (R:=fun n=>ya7 yaZ yaC yae yat yac yaQ yaq yai yaz x3 n v (rts [vS l a s,vS l a t]) (cks l) (logs ((lg++[vlQ l a s.1 s.2])++[vlQ l a t.1 t.2])) s.1.num s.1.den s.2.num s.2.den t.1.num t.1.den t.2.num t.2.den u.1.num u.1.den u.2.num u.2.den i12 i13 i14 i15 i16 i17 i18 i19 (a:Int) 3 2) (fun n=>?_),
  exS3 rfl (R:=fun n=>ya7 yaZ yaC yae yat yac yaQ yaq yai yaz x3 n v (rts [vS l a s,vS l a t,vS l a u]) (cks l) (logs (((lg++[vlQ l a s.1 s.2])++[vlQ l a t.1 t.2])++[vlQ l a u.1 u.2])) s.1.num s.1.den s.2.num s.2.den t.1.num t.1.den t.2.num t.2.den u.1.num u.1.den u.2.num u.2.den i12 i13 i14 i15 i16 i17 i18 i19 (a:Int) 3 3) (fun n=>?_),
  exS3 rfl (R:=fun _=>x3 v (rts [vS l a s,vS l a t,vS l a u]) (cks l) (logs (((lg++[vlQ l a s.1 s.2])++[vlQ l a t.1 t.2])++[vlQ l a u.1 u.2])) s.1.num s.1.den s.2.num s.2.den t.1.num t.1.den t.2.num t.2.den u.1.num u.1.den u.2.num u.2.den i12 i13 i14 i15 i16 i17 i18 i19 (a:Int) 3 3 false) (fun n=>by kernel_rfl),exC3]
 ·have e:ya7 yaZ yaC yae yat yac yaQ yaq yai yaz x3 (n+1) v (rts [vS l a s,vS l a t]) (cks l) (logs ((lg++[vlQ l a s.1 s.2])++[vlQ l a t.1 t.2])) s.1.num s.1.den s.2.num s.2.den t.1.num t.1.den t.2.num t.2.den u.1.num u.1.den u.2.num u.2.den i12 i13 i14 i15 i16 i17 i18 i19 (a:Int) 3 2=yat (cks l) (logs ((lg++[vlQ l a s.1 s.2])++[vlQ l a t.1 t.2])) a u.1.num u.1.den u.2.num u.2.den (fun c g y0 y1 y2=>yac y0 y1 y2 fun r0 r1=>ya7 yaZ yaC yae yat yac yaQ yaq yai yaz x3 n v [encW (vS l a s),encW (vS l a t),.agg [.int .i64 r0,.int .i64 r1]] c g s.1.num s.1.den s.2.num s.2.den t.1.num t.1.den t.2.num t.2.den u.1.num u.1.den u.2.num u.2.den i12 i13 i14 i15 i16 i17 i18 i19 (a:Int) 3 3):=by kernel_rfl
  rw [e,hu.val hd ha (by simp only [qAi,qAt];omega),ygX]
  rfl
 ·have e:ya7 yaZ yaC yae yat yac yaQ yaq yai yaz x3 (n+1) v (rts [vS l a s]) (cks l) (logs (lg++[vlQ l a s.1 s.2])) s.1.num s.1.den s.2.num s.2.den t.1.num t.1.den t.2.num t.2.den u.1.num u.1.den u.2.num u.2.den i12 i13 i14 i15 i16 i17 i18 i19 (a:Int) 3 1=yat (cks l) (logs (lg++[vlQ l a s.1 s.2])) a t.1.num t.1.den t.2.num t.2.den (fun c g y0 y1 y2=>yac y0 y1 y2 fun r0 r1=>ya7 yaZ yaC yae yat yac yaQ yaq yai yaz x3 n v [encW (vS l a s),.agg [.int .i64 r0,.int .i64 r1]] c g s.1.num s.1.den s.2.num s.2.den t.1.num t.1.den t.2.num t.2.den u.1.num u.1.den u.2.num u.2.den i12 i13 i14 i15 i16 i17 i18 i19 (a:Int) 3 2):=by kernel_rfl
  rw [e,ht.val hd ha (by rw [qAi,qAt];omega),ygX]
  rfl
 ·have e:ycO yaZ yaC yae yat yac yaQ yaq yai yaz x2 x3 (n+1) v (cks l) (logs lg) s.1.num s.1.den s.2.num s.2.den t.1.num t.1.den t.2.num t.2.den u.1.num u.1.den u.2.num u.2.den i12 i13 i14 i15 i16 i17 i18 i19 (a:Int) 3 0=yat (cks l) (logs lg) a s.1.num s.1.den s.2.num s.2.den (fun c g y0 y1 y2=>yac y0 y1 y2 fun r0 r1=>ya7 yaZ yaC yae yat yac yaQ yaq yai yaz x3 n v [.agg [.int .i64 r0,.int .i64 r1]] c g s.1.num s.1.den s.2.num s.2.den t.1.num t.1.den t.2.num t.2.den u.1.num u.1.den u.2.num u.2.den i12 i13 i14 i15 i16 i17 i18 i19 (a:Int) 3 1):=by kernel_rfl
  rw [e,hs.val hd ha (by omega),ygX]
  rfl
end
section
variable {l:List Ck}
theorem tot3 (hd:DK l) {a:Nat} (ha:a<l.length):vXA l a (lenR l)-vXA l a 0=totR l a:=by
 have h:=yCT (hd.ok a ha)
 unfold vXA lenR totR
 rw [← hd.len a ha]
 exact h
theorem yE9 (hd:DK l) {a:Nat} (ha:a<l.length) {x y:Rat} (h:x≤y):vXA l a x≤vXA l a y:=yxy (hd.ok a ha) h
theorem lt3 (hd:DK l) {a:Nat} (ha:a<l.length) {x y:Rat} (h:vXA l a x<vXA l a y):x<y:=by
 refine Rat.not_le.1 fun k=>?_
 have:=yE9 hd ha k
 grind
theorem tot0 (hd:DK l) {a:Nat} (ha:a<l.length):0<totR l a:=Rat.intCast_pos.2 (yCK (hd.ok a ha))
theorem yzO (hd:DK l) {a:Nat} (ha:a<l.length):totR l a≤12000:=by
 have hok:=hd.ok a ha
 have l0:=hok.len0
 have hw:0≤(0:Rat)∧((l.getD a default).len:Rat)≤((l.getD a default).len:Rat):=⟨qAr,qAr⟩
 have h:=(yC2 hok (s:=((0:Rat),((l.getD a default).len:Rat))) (by
  show (0:Rat)<_
  exact Rat.intCast_pos.2 (by omega)) hw).2
 have e:=yCT hok
 unfold totR
 rw [← e]
 exact h
theorem In.D {a b:Int} (h:a=b) {q:Rat} (k:In a q):In b q:=h ▸ k
theorem sm3 {q:Rat} {D:Int} (h:In D q) (hD:1≤D∧D≤10000000000) (h0:-12000≤q) (h1:q≤12000):small q :=
 h.small (M:=12000) ⟨hD.1,by omega⟩ (by omega) (by show -(12000:Rat)≤_;grind) (by show _≤(12000:Rat);grind)
theorem yC7 {a:Nat} {D:Int} (hD:1≤D) {s:RS} (h:In D s.1∧In D s.2):In D (vS l a s):=(yKm hD h.2).sub (yKm hD h.1)
theorem ysv (hd:DK l) {a:Nat} (ha:a<l.length) {s:RS} (z:0≤s.1) (le:s.1≤s.2) (hl:s.2≤lenR l):0≤vS l a s∧vS l a s≤totR l a:=by
 have h1:=yE9 hd ha z
 have h2:=yE9 hd ha le
 have h3:=yE9 hd ha hl
 have h4:=tot3 hd ha
 unfold vS
 constructor <;> grind
@[irreducible] def A3 (l:List Ck):Rat:=mkV l 0 0 (totR l 0*r13)
@[irreducible] def B3 (l:List Ck):Rat:=mkV l 0 0 (totR l 0*r23)
structure G3 (l:List Ck) (D:Int):Prop where
 D1:1≤D∧D≤432
 mA:MkV l 0 0 (totR l 0*r13) 3
 mB:MkV l 0 0 (totR l 0*r23) 3
 a0:0<A3 l
 ab:A3 l<B3 l
 bl:B3 l<lenR l
 iA:In D (A3 l)
 iB:In D (B3 l)
theorem r13e:r13=1 / 3:=by decide +kernel
theorem r23e:r23=2 / 3:=by decide +kernel
theorem In.r3 (c:Int):In 3 ((c:Rat)*r13)∧In 3 ((c:Rat)*r23):=by
 constructor
 ·exact ⟨c,by rw [r13e];show (c:Rat)*(1 / 3)=(c:Rat) / 3;grind⟩
 ·exact ⟨2*c,by rw [r23e,qB9];show (c:Rat)*(2 / 3)=((2:Int):Rat)*(c:Rat) / 3;have:((2:Int):Rat)=2:=rfl;rw [this];grind⟩
theorem g3 (hd:DK l) (h3:l.length=3):∃ D,G3 l D:=by
 have h0:0<l.length:=by omega
 have t0:=tot0 hd h0
 have tt:=tot3 hd h0
 have i3:=In.r3 (totC (l.getD 0 default).cuts (l.getD 0 default).dens)
 have hl0:0≤lenR l:=Rat.intCast_nonneg.2 (by have:=(hd.ok 0 h0).len0;omega)
 have mA:=yC6 hd h0 (q:=0) (v:=totR l 0*r13) qAr hl0 (by rw [r13e];grind) (by rw [tt,r13e];grind) (D:=3) (by decide) (by decide) (In.int (by decide) 0) i3.1
 have mB:=yC6 hd h0 (q:=0) (v:=totR l 0*r23) qAr hl0 (by rw [r23e];grind) (by rw [tt,r23e];grind) (D:=3) (by decide) (by decide) (In.int (by decide) 0) i3.2
 obtain ⟨d,hd1,k1⟩:=mA.d
 obtain ⟨e,he1,k2⟩:=mB.d
 have a1:=mA.eqv
 have b1:=mB.eqv
 rw [r13e] at a1
 rw [r23e] at b1
 have de:1*1≤d*e:=qBk hd1.1 he1.1 (by omega) (by omega)
 have de2:d*e≤12*12:=qBk hd1.2 he1.2 (by omega) (by omega)
 have eA:A3 l=mkV l 0 0 (totR l 0*r13):=by unfold A3;rfl
 have eB:B3 l=mkV l 0 0 (totR l 0*r23):=by unfold B3;rfl
 refine ⟨d*e*3,⟨by omega,by omega⟩,mA,mB,lt3 hd h0 (a:=0) ?_,lt3 hd h0 (a:=0) ?_,lt3 hd h0 (a:=0) ?_,?_,?_⟩
 ·rw [eA]
  rw [r13e] at *
  rw [a1];grind
 ·rw [eA,eB]
  rw [r13e,r23e] at *
  rw [a1,b1];grind
 ·rw [eB]
  rw [r23e] at *
  rw [b1];grind
 ·rw [eA];exact In.D (by rw [Int.mul_comm d e,Int.mul_assoc]) ((k1.up (by omega) he1.1):In (e*(d*3)) _)
 ·rw [eB];exact In.D (by rw [Int.mul_assoc]) ((k2.up (by omega) hd1.1):In (d*(e*3)) _)
def P3 (l:List Ck):List RS:=[(0,A3 l),(A3 l,B3 l),(B3 l,lenR l)]
theorem G3.VQ {D:Int} (hd:DK l) (h3:l.length=3) (g:G3 l D) {i:Nat} (hi:i<3):VQ l ((P3 l).getD i (0,0))∧(In D ((P3 l).getD i (0,0)).1∧In D ((P3 l).getD i (0,0)).2):=by
 have D1:=g.D1
 have hl:=(hd.ok 0 (by omega)).len0
 have hL:lenR l≤1000:=qAu.2 hl.2
 have a0:=g.a0;have ab:=g.ab;have bl:=g.bl
 have i0:In D 0:=In.int D1.1 0
 have iL:In D (lenR l):=In.int D1.1 _
 have sA:small (A3 l):=sm3 g.iA ⟨D1.1,by omega⟩ (by grind) (by grind)
 have sB:small (B3 l):=sm3 g.iB ⟨D1.1,by omega⟩ (by grind) (by grind)
 have s0:small (0:Rat):=sm3 i0 ⟨D1.1,by omega⟩ (by grind) (by grind)
 have sL:small (lenR l):=sm3 iL ⟨D1.1,by omega⟩ (by grind) (by grind)
 obtain rfl | rfl | rfl:i=0∨i=1∨i=2:=by omega
 ·exact ⟨⟨s0,sA,qAr,qBp a0,by show A3 l≤_;grind,D,⟨D1.1,by omega⟩,i0,g.iA⟩,i0,g.iA⟩
 ·exact ⟨⟨sA,sB,qBp a0,qBp ab,qBp bl,D,⟨D1.1,by omega⟩,g.iA,g.iB⟩,g.iA,g.iB⟩
 ·exact ⟨⟨sB,sL,by show 0≤B3 l;grind,qBp bl,qAr,D,⟨D1.1,by omega⟩,g.iB,iL⟩,g.iB,iL⟩
def vv3 (l:List Ck):List Rat:=(P3 l).map (vS l 1)
@[irreducible] def p3 (l:List Ck):Nat:=pk (vv3 l)
@[irreducible] def q3 (l:List Ck):Nat:=pkO (vv3 l) (p3 l)
@[irreducible] def off3 (l:List Ck):Rat:=(vv3 l).getD (p3 l) 0-(vv3 l).getD (q3 l) 0
@[irreducible] def tr3 (l:List Ck):Bool:=!decide ((vv3 l).getD (p3 l) 0=(vv3 l).getD (q3 l) 0)
@[irreducible] def fr3 (l:List Ck):Rat:=((P3 l).getD (p3 l) (0,0)).1
@[irreducible] def c3 (l:List Ck):Rat:=mkV l 1 (fr3 l) (off3 l)
def S3 (l:List Ck):List RS:=bif tr3 l then (P3 l).set (p3 l) (c3 l,((P3 l).getD (p3 l) (0,0)).2) else P3 l
def vs3 (l:List Ck):List Rat:=bif tr3 l then (vv3 l).set (p3 l) ((vv3 l).getD (q3 l) 0) else vv3 l
def ww3 (l:List Ck):List Rat:=(S3 l).map (vS l 2)
@[irreducible] def o2 (l:List Ck):Nat:=pk (ww3 l)
@[irreducible] def o1 (l:List Ck):Nat:=bif tr3 l&&!decide (p3 l=o2 l) then p3 l else pkO (vs3 l) (o2 l)
@[irreducible] def o0 (l:List Ck):Nat:=3-o1 l-o2 l
theorem ymv (l:List Ck):p3 l<3:=by unfold p3;exact yNn _
theorem yGN (l:List Ck):q3 l<3∧q3 l≠p3 l:=by unfold q3;exact yKy _ (ymv l)
theorem yPx (l:List Ck) {i:Nat} (hi:i<3):(vv3 l).getD i 0≤(vv3 l).getD (p3 l) 0:=by unfold p3;exact yJo _ hi
theorem yPy (l:List Ck) {i:Nat} (hi:i<3) (hne:i≠p3 l):(vv3 l).getD i 0≤(vv3 l).getD (q3 l) 0:=by unfold q3;exact yKz _ (ymv l) hi hne
theorem ysR (l:List Ck):off3 l=(vv3 l).getD (p3 l) 0-(vv3 l).getD (q3 l) 0:=by unfold off3;rfl
theorem yNo (l:List Ck):tr3 l=!decide ((vv3 l).getD (p3 l) 0=(vv3 l).getD (q3 l) 0):=by unfold tr3;rfl
theorem yfa (l:List Ck):fr3 l=((P3 l).getD (p3 l) (0,0)).1:=by unfold fr3;rfl
theorem yC8 (l:List Ck):c3 l=mkV l 1 (fr3 l) (off3 l):=by unfold c3;rfl
theorem yxD (l:List Ck):o2 l<3:=by unfold o2;exact yNn _
theorem yFa (l:List Ck):o1 l=bif tr3 l&&!decide (p3 l=o2 l) then p3 l else pkO (vs3 l) (o2 l):=by unfold o1;rfl
theorem yp1 (l:List Ck):o1 l<3∧o1 l≠o2 l:=by
 rw [yFa]
 cases hb:(tr3 l&&!decide (p3 l=o2 l)) with
 | false=>rw [cond_false];exact yKy (vs3 l) (yxD l)
 | true =>
  rw [cond_true]
  simp only [qAb,qAx,decide_eq_false_iff_not] at hb
  exact ⟨ymv l,hb.2⟩
theorem yC9 {i:Nat} (hi:i<3):(vv3 l).getD i 0=vS l 1 ((P3 l).getD i (0,0)):=by
 obtain rfl | rfl | rfl:i=0∨i=1∨i=2:=by omega
 all_goals rfl
structure C3 (l:List Ck) (D:Int):Prop where
 D1:1≤D∧D≤5184
 m:∃ E:Int,1≤E∧MkV l 1 (fr3 l) (off3 l) E
 so:small (off3 l)
 o0:0≤off3 l
 lo:fr3 l≤c3 l
 hi:c3 l≤((P3 l).getD (p3 l) (0,0)).2
 iP:∀ i,i<3→In D ((P3 l).getD i (0,0)).1∧In D ((P3 l).getD i (0,0)).2
 iC:In D (c3 l)
theorem vvs (hd:DK l) (h3:l.length=3) {i:Nat} (hi:i<3):small ((vv3 l).getD i 0)∧0≤(vv3 l).getD i 0∧(vv3 l).getD i 0≤12000:=by
 obtain ⟨D,g⟩:=g3 hd h3
 obtain ⟨v,iv⟩:=g.VQ hd h3 hi
 have h1:1<l.length:=by omega
 rw [yC9 hi]
 obtain ⟨b1,b2⟩:=ysv hd h1 v.z v.le v.len
 have b3:=yzO hd h1
 have D1:=g.D1
 exact ⟨sm3 (yC7 D1.1 iv) ⟨D1.1,by omega⟩ (by grind) (by grind),b1,by grind⟩
theorem cut3 (hd:DK l) (h3:l.length=3):∃ D,C3 l D:=by
 obtain ⟨D,g⟩:=g3 hd h3
 have h1:1<l.length:=by omega
 have hp:p3 l<3:=ymv l
 have hq:q3 l<3∧q3 l≠p3 l:=yGN l
 obtain ⟨v,iv⟩:=g.VQ hd h3 hp
 obtain ⟨w,iw⟩:=g.VQ hd h3 hq.1
 have D1:=g.D1
 have sp:=vvs hd h3 hp
 have sq:=vvs hd h3 hq.1
 have mx:(vv3 l).getD (q3 l) 0≤(vv3 l).getD (p3 l) 0:=yPx l hq.1
 have io:In D (off3 l):=by
  rw [ysR]
  rw [yC9 hp,yC9 hq.1]
  exact (yC7 D1.1 iv).sub (yC7 D1.1 iw)
 have o0:0≤off3 l:=by rw [ysR];grind
 have ov:off3 l≤vS l 1 ((P3 l).getD (p3 l) (0,0)):=by
  rw [← yC9 hp];rw [ysR];grind
 have ov2:off3 l≤vXA l 1 ((P3 l).getD (p3 l) (0,0)).2-vXA l 1 (fr3 l):=by rw [yfa];exact ov
 have ml:=yE9 hd h1 v.len
 have hv:off3 l≤vXA l 1 (lenR l)-vXA l 1 (fr3 l):=by
  have:vXA l 1 ((P3 l).getD (p3 l) (0,0)).2≤vXA l 1 (lenR l):=ml
  grind
 have fz:0≤fr3 l:=by rw [yfa];exact v.z
 have fle:fr3 l≤((P3 l).getD (p3 l) (0,0)).2:=by rw [yfa];exact v.le
 have fI:In D (fr3 l):=by rw [yfa];exact iv.1
 have m:=yC6 hd h1 (q:=fr3 l) (v:=off3 l) fz (qBm fle v.len) o0 hv D1.1 (by omega) fI io
 obtain ⟨d,hd1,k⟩:=m.d
 have dD:1*1≤d*D:=qBk hd1.1 D1.1 (by omega) (by omega)
 have dD2:d*D≤12*432:=qBk hd1.2 D1.2 (by omega) (by omega)
 have hi:c3 l≤((P3 l).getD (p3 l) (0,0)).2:=by
  by_cases hz:off3 l=0
  ·have e:c3 l=fr3 l:=by
    rw [yC8]
    unfold mkV mrkC
    rw [if_pos hz];rfl
   rw [e];exact fle
  refine qB8.1 fun k2=>?_
  have e:=m.eqv
  have h1':0<off3 l:=by grind
  obtain ⟨p,d,e',_,_,k1,_,_,k4⟩:=yIe (hd.ok 1 h1) (p:=fr3 l) (v:=off3 l) fz (by rw [hd.len 1 h1];exact qBm fle v.len) h1' (by
   have:=hv
   unfold vXA lenR at this
   rw [hd.len 1 h1];exact this) D1.1 (by omega) fI io
  obtain ⟨_,g2⟩:=yKd e'
  have g2:c3 l=p:=by rw [yC8];exact g2
  rw [g2] at k2
  have:=k4 _ k2
  have k1:vXA l 1 p=vXA l 1 (fr3 l)+off3 l:=k1
  have this:vXA l 1 ((P3 l).getD (p3 l) (0,0)).2<vXA l 1 p:=this
  grind
 refine ⟨d*D,⟨by omega,by omega⟩,⟨D,D1.1,m⟩,sm3 io ⟨D1.1,by omega⟩ (by grind) (by have:=sp.2.2;have:=sq.2.1;rw [ysR];grind),o0,by rw [yC8];exact m.ge,hi,fun i hi=>?_,by rw [yC8];exact k⟩
 obtain ⟨_,j1,j2⟩:=g.VQ hd h3 hi
 exact ⟨j1.up D1.1 hd1.1,j2.up D1.1 hd1.1⟩
end
set_option maxHeartbeats 1000000
section
variable {l:List Ck}
def s3 (l:List Ck) (i:Nat):RS:=(S3 l).getD i (0,0)
theorem yAO:S3 l=[s3 l 0,s3 l 1,s3 l 2]:=by
 have h:(S3 l).length=3:=by
  unfold S3
  cases tr3 l with
  | true=>rw [cond_true,List.length_set];rfl
  | false=>rfl
 unfold s3
 match h2:S3 l,h with
 | [a,b,c],_=>rfl
theorem yjw {i:Nat} (hi:i<3):s3 l i=bif tr3 l&&decide (i=p3 l) then (c3 l,((P3 l).getD (p3 l) (0,0)).2) else (P3 l).getD i (0,0):=by
 unfold s3 S3
 have hl:(P3 l).length=3:=rfl
 cases tr3 l with
 | true =>
  rw [cond_true,qAz]
  by_cases e:i=p3 l
  ·subst e
   rw [decide_eq_true rfl,cond_true,qAa,qBi (by omega)]
   rfl
  ·rw [decide_eq_false e,cond_false,qAa,qA8 (fun h=>e h.symm),← qAa]
 | false=>rw [cond_false,qBb,cond_false]
theorem S3VQ (hd:DK l) (h3:l.length=3):∃ D:Int,(1≤D∧D≤5184)∧∀ i,i<3→VQ l (s3 l i)∧In D (s3 l i).1∧In D (s3 l i).2:=by
 obtain ⟨D,c⟩:=cut3 hd h3
 obtain ⟨D0,g⟩:=g3 hd h3
 have hl:=(hd.ok 0 (by omega)).len0
 have hL:lenR l≤1000:=qAu.2 hl.2
 have hp:p3 l<3:=ymv l
 refine ⟨D,c.D1,fun i hi=>?_⟩
 rw [yjw hi]
 obtain ⟨v,_⟩:=g.VQ hd h3 hi
 obtain ⟨w,_⟩:=g.VQ hd h3 hp
 have D1:=c.D1
 cases hc:(tr3 l&&decide (i=p3 l)) with
 | false=>exact ⟨v,c.iP i hi⟩
 | true =>
  have z:0≤c3 l:=qBm (by rw [yfa];exact w.z) c.lo
  have wl:=w.len
  have ch:=c.hi
  refine ⟨⟨sm3 c.iC ⟨D1.1,by omega⟩ (by show -12000≤c3 l;grind) (by show c3 l≤12000;grind),w.s2,z,c.hi,w.len,D,⟨D1.1,by omega⟩,c.iC,(c.iP _ hp).2⟩,c.iC,(c.iP _ hp).2⟩
def pc3 (l:List Ck):Int:=bif tr3 l then (p3 l:Int) else -1
def yhN (l:List Ck):List Qy:=[mkQ 0 0 (totR l 0*r13) (A3 l)]++[mkQ 0 0 (totR l 0*r23) (B3 l)]++[vlQ l 1 0 (A3 l)]++[vlQ l 1 (A3 l) (B3 l)]
def yFb (l:List Ck):List Qy:=[vlQ l 2 (s3 l 0).1 (s3 l 0).2]++[vlQ l 2 (s3 l 1).1 (s3 l 1).2]++[vlQ l 2 (s3 l 2).1 (s3 l 2).2]
def log3 (l:List Ck):List Qy:=yhN l++((bif tr3 l then [mkQ 1 (fr3 l) (off3 l) (c3 l)] else [])++yFb l)
theorem yOP {q r:Rat}:((q.num == r.num)&&(((q.den:Int) ==(r.den:Int))&&true))=decide (q=r):=by
 by_cases h:q=r
 ·subst h;simp
 ·rw [decide_eq_false h,Bool.and_true]
  cases h1:(q.num == r.num) with
  | false=>rfl
  | true =>
   cases h2:((q.den:Int) ==(r.den:Int)) with
   | false=>rfl
   | true =>
    simp only [beq_iff_eq] at h1 h2
    exact absurd (Rat.ext h1 (by omega)) h
theorem neF3 {a b:Nat} (h:a=b):(((a:Nat):Int) !=((b:Nat):Int))=false:=by rw [h];simp
theorem neT3 {a b:Nat} (h:¬a=b):(((a:Nat):Int) !=((b:Nat):Int))=true:=by simp only [bne_iff_ne,ne_eq];omega
theorem yPz (hd:DK l) (h3:l.length=3) {lg:List Qy} (hm:lg.length+10<2000) (K) :
  yak (cks l) (logs lg) K=K (s3 l 0).1.num (s3 l 0).1.den (s3 l 0).2.num (s3 l 0).2.den (s3 l 1).1.num (s3 l 1).1.den (s3 l 1).2.num (s3 l 1).2.den (s3 l 2).1.num (s3 l 2).1.den (s3 l 2).2.num (s3 l 2).2.den
   (pc3 l) (bif tr3 l then (fr3 l).num else 0) (bif tr3 l then ((fr3 l).den:Int) else 0) (bif tr3 l then (c3 l).num else 0) (bif tr3 l then ((c3 l).den:Int) else 0) (o0 l:Int) (o1 l:Int) (o2 l:Int) (cks l) (logs (lg++log3 l)):=by
 obtain ⟨D,g⟩:=g3 hd h3
 have h0:0<l.length:=by omega
 have h1:1<l.length:=by omega
 have h2:2<l.length:=by omega
 have D1:=g.D1
 have v0:=(g.VQ hd h3 (i:=0) (by decide)).1
 have v1:=(g.VQ hd h3 (i:=1) (by decide)).1
 have i3:=In.r3 (totC (l.getD 0 default).cuts (l.getD 0 default).dens)
 have t0:=tot0 hd h0
 have t12:=yzO hd h0
 have st:small (totR l 0):=sm3 (D:=1) (In.int (by decide) _) ⟨by decide,by decide⟩ (by grind) (by grind)
 have st1:small (totR l 1):=sm3 (D:=1) (In.int (by decide) _) ⟨by decide,by decide⟩ (by have:=tot0 hd h1;grind) (yzO hd h1)
 have sa:small (totR l 0*r13):=sm3 i3.1 ⟨by decide,by decide⟩ (by rw [r13e];show -12000≤totR l 0*(1 / 3);grind) (by rw [r13e];show totR l 0*(1 / 3)≤12000;grind)
 have sb:small (totR l 0*r23):=sm3 i3.2 ⟨by decide,by decide⟩ (by rw [r23e];show -12000≤totR l 0*(2 / 3);grind) (by rw [r23e];show totR l 0*(2 / 3)≤12000;grind)
 have th0:=fun K=>yKw hd h0 (q:=0) (v:=totR l 0) v0.s1 qAr (by have:=g.a0;have:=g.ab;have:=g.bl;grind) st sa sb (by rw [r13e];grind) (by rw [r23e];grind) g.mA g.mB (lg:=lg) (by omega) K
 have eA:A3 l=mkV l 0 0 (totR l 0*r13):=by unfold A3;rfl
 have eB:B3 l=mkV l 0 0 (totR l 0*r23):=by unfold B3;rfl
 rw [← eA,← eB] at th0
 have th:∀ K,yae (cks l) (logs lg) 0 0 1 (totR l 0).num (totR l 0).den K=K (A3 l).num (A3 l).den (B3 l).num (B3 l).den (cks l) (logs ((lg++[mkQ 0 0 (totR l 0*r13) (A3 l)])++[mkQ 0 0 (totR l 0*r23) (B3 l)])):=th0
 have tt0:=fun K=>yNl hd h0 (lg:=logs lg) (by rw [yjg];omega) K
 have tt0:∀ K,yaC (cks l) (logs lg) 0 K=K (totR l 0).num (totR l 0).den (cks l) (logs lg):=tt0
 unfold yak ygo
 dsimp only [lt,Go.Pf.jn]
 rw [yKv,ybC,asT (by omega),yfB h0,asCk,ck0,yKv,tt0,th]
 refine (yQA hd h1 (s:=(0,A3 l)) (t:=(A3 l,B3 l)) v0 v1 (lg:=(lg++[mkQ 0 0 (totR l 0*r13) (A3 l)])++[mkQ 0 0 (totR l 0*r23) (B3 l)]) (by simp only [qAi,qAt];omega) _ _ _ _ _ _ _ _ _ _ _ _ _ _ _ _ _ _ _ _ ).trans ?_
 have v2:=(g.VQ hd h3 (i:=2) (by decide)).1
 have w0:small (vS l 1 (0,A3 l))∧0≤vS l 1 (0,A3 l)∧vS l 1 (0,A3 l)≤12000:=vvs hd h3 (i:=0) (by decide)
 have w1:small (vS l 1 (A3 l,B3 l))∧0≤vS l 1 (A3 l,B3 l)∧vS l 1 (A3 l,B3 l)≤12000:=vvs hd h3 (i:=1) (by decide)
 have w2:small (vS l 1 (B3 l,lenR l))∧0≤vS l 1 (B3 l,lenR l)∧vS l 1 (B3 l,lenR l)≤12000:=vvs hd h3 (i:=2) (by decide)
 have tt1:=fun K=>yNl hd h1 (lg:=logs (lg++yhN l)) (by rw [yjg,qAi];show lg.length+4≤2000;omega) K
 have eT:totR l 1-vS l 1 (0,A3 l)-vS l 1 (A3 l,B3 l)=vS l 1 (B3 l,lenR l):=by
  rw [← tot3 hd h1]
  show vXA l 1 (lenR l)-vXA l 1 0-(vXA l 1 (A3 l)-vXA l 1 0)-(vXA l 1 (B3 l)-vXA l 1 (A3 l))=vXA l 1 (lenR l)-vXA l 1 (B3 l)
  grind
 have e1:totR l 1-vS l 1 (0,A3 l)=vS l 1 (A3 l,B3 l)+vS l 1 (B3 l,lenR l):=by grind
 have i1:In D (totR l 1-vS l 1 (0,A3 l)):=(In.int D1.1 _).sub (yC7 D1.1 (g.VQ hd h3 (i:=0) (by decide)).2)
 have s1:small (totR l 1-vS l 1 (0,A3 l)):=sm3 i1 ⟨D1.1,by omega⟩ (by grind) (by have:=yzO hd h1;grind)
 have sub0:∀ K,yaQ (totR l 1).num (totR l 1).den (yaa (yab ((rts [vS l 1 (0,A3 l),vS l 1 (A3 l,B3 l)]).getD 0 .nils) 0)) (yaa (yab ((rts [vS l 1 (0,A3 l),vS l 1 (A3 l,B3 l)]).getD 0 .nils) 1)) K=K (totR l 1-vS l 1 (0,A3 l)).num (totR l 1-vS l 1 (0,A3 l)).den 0:=fun K =>
  (ypW st1 w0.1 K).trans (by rw [yfk,if_pos s1])
 have sub1:∀ K,yaQ (totR l 1-vS l 1 (0,A3 l)).num (totR l 1-vS l 1 (0,A3 l)).den (yaa (yab ((rts [vS l 1 (0,A3 l),vS l 1 (A3 l,B3 l)]).getD 1 .nils) 0)) (yaa (yab ((rts [vS l 1 (0,A3 l),vS l 1 (A3 l,B3 l)]).getD 1 .nils) 1)) K=K (vS l 1 (B3 l,lenR l)).num (vS l 1 (B3 l,lenR l)).den 0:=fun K =>
  (ypW s1 w1.1 K).trans (by rw [eT,yfk,if_pos w2.1])
 have eV:rts [vS l 1 (0,A3 l),vS l 1 (A3 l,B3 l)]++[.agg [.int .i64 (vS l 1 (B3 l,lenR l)).num,.int .i64 (vS l 1 (B3 l,lenR l)).den]]=rts (vv3 l):=rfl
 have vs:∀ i,i<3→small ((vv3 l).getD i 0):=fun i hi=>(vvs hd h3 hi).1
 have hp:p3 l<3:=ymv l
 have hq:q3 l<3∧q3 l≠p3 l:=yGN l
 have pA:∀ K,yaq (rts (vv3 l)) [.int .i64 0,.int .i64 1,.int .i64 2] K=K (p3 l:Nat):=fun K=>by unfold p3;exact yGM rfl vs K
 have pO:∀ K,yaq (rts (vv3 l)) (nts (oth (p3 l))) K=K (q3 l:Nat):=fun K=>by unfold q3;exact yKA rfl vs hp K
 have eL:lg++[mkQ 0 0 (totR l 0*r13) (A3 l)]++[mkQ 0 0 (totR l 0*r23) (B3 l)]++[vlQ l 1 (0,A3 l).fst (0,A3 l).snd]++[vlQ l 1 (A3 l,B3 l).fst (A3 l,B3 l).snd]=lg++yhN l:=by
  unfold yhN;simp only [qBc]
 have tt1:∀ K,yaC (cks l) (logs (lg++yhN l)) 1 K=K (totR l 1).num (totR l 1).den (cks l) (logs (lg++yhN l)):=tt1
 rw [eL,tt1,sub0,ygX,sub1,ygX,eV,qAw,pA,ysQ hp,pO]
 have hl:(vv3 l).length=3:=rfl
 have gp:List.getD (rts (vv3 l)) (0+(((p3 l:Nat):Int)).toNat) .nils=encW ((vv3 l).getD (p3 l) 0):=by rw [qAe,qA4,ykP (by omega)]
 have gq:List.getD (rts (vv3 l)) (0+(((q3 l:Nat):Int)).toNat) .nils=encW ((vv3 l).getD (q3 l) 0):=by rw [qAe,qA4,ykP (by omega)]
 rw [gp,gq]
 have hlp:(rts (vv3 l)).length=3:=rfl
 have hlp':∀ x:PV,(List.set (rts (vv3 l)) (0+(((p3 l:Nat):Int)).toNat) x).length=3:=fun x=>by rw [List.length_set];rfl
 have hc:(!((yaa (yab (encW ((vv3 l).getD (p3 l) 0)) 0) == yaa (yab (encW ((vv3 l).getD (q3 l) 0)) 0))&&((yaa (yab (encW ((vv3 l).getD (p3 l) 0)) 1) == yaa (yab (encW ((vv3 l).getD (q3 l) 0)) 1))&&true)))=tr3 l:=by
  rw [yNo,← yOP];rfl
 rw [hlp,hc]
 have V:=fun i hi=>((S3VQ hd h3).choose_spec.2 i hi:VQ l (s3 l i)∧_).1
 have u0:=V 0 (by decide)
 have u1:=V 1 (by decide)
 have u2:=V 2 (by decide)
 have hw:∀ i,i<3→small ((ww3 l).getD i 0):=fun i hi=>by
  have h:=V i hi
  obtain ⟨D,D1,iD⟩:=h.D
  have e:(ww3 l).getD i 0=vS l 2 (s3 l i):=by
   unfold ww3
   rw [yAO]
   obtain rfl | rfl | rfl:i=0∨i=1∨i=2:=by omega
   all_goals rfl
  obtain ⟨b1,b2⟩:=ysv hd h2 h.z h.le h.len
  have b3:=yzO hd h2
  obtain ⟨D',D1',iD'⟩:=S3VQ hd h3
  rw [e]
  exact sm3 (yC7 D1'.1 (iD' i hi).2) ⟨D1'.1,by omega⟩ (by grind) (by grind)
 have ho2:o2 l<3:=yxD l
 have hvs:∀ i,i<3→small ((vs3 l).getD i 0):=fun i hi=>by
  unfold vs3
  cases tr3 l with
  | false=>exact vs i hi
  | true =>
   rw [cond_true]
   by_cases e:i=p3 l
   ·rw [e,qAa,qBi (by omega)]
    exact vs _ hq.1
   ·rw [qAa,qA8 (fun h=>e h.symm),← qAa]
    exact vs i hi
 have hvl:(vs3 l).length=3:=by
  unfold vs3
  cases tr3 l with
  | false=>rfl
  | true=>rw [cond_true,List.length_set];rfl
 have ho1:=yp1 l
 have hwl:(ww3 l).length=3:=by unfold ww3;rw [yAO];rfl
 have pW:∀ K,yaq (rts (ww3 l)) [.int .i64 0,.int .i64 1,.int .i64 2] K=K (o2 l:Nat):=fun K=>by unfold o2;exact yGM hwl hw K
 have pS:∀ K,yaq (rts (vs3 l)) (nts (oth (o2 l))) K=K (pkO (vs3 l) (o2 l):Nat):=fun K=>yKA hvl hvs ho2 K
 cases htr:tr3 l with
 | false =>
  rw [yaf]
  repeat (refine (asTT (by first | exact decide_eq_true (by omega) | rfl)).trans ?_)
  have z:S3 l=P3 l:=by unfold S3;rw [htr];rfl
  have z0:s3 l 0=(0,A3 l):=by unfold s3;rw [z];rfl
  have z1:s3 l 1=(A3 l,B3 l):=by unfold s3;rw [z];rfl
  have z2:s3 l 2=(B3 l,lenR l):=by unfold s3;rw [z];rfl
  refine (yOO hd h2 (s:=(0,A3 l)) (t:=(A3 l,B3 l)) (u:=(B3 l,lenR l)) v0 v1 v2 (lg:=lg++yhN l) (by rw [qAi];show lg.length+4+3<2000;omega) _ _ _ _ _ _ _ _ _).trans ?_
  have eW:rts [vS l 2 (0,A3 l),vS l 2 (A3 l,B3 l),vS l 2 (B3 l,lenR l)]=rts (ww3 l):=by unfold ww3;rw [z];rfl
  have e1':o1 l=pkO (vs3 l) (o2 l):=by rw [yFa,htr];rfl
  have eT3:List.take 3 (rts (vv3 l))=rts (vs3 l):=by unfold vs3;rw [htr];rfl
  rw [eW]
  rw [qAw]
  rw [pW]
  rw [ysQ ho2]
  rw [eT3]
  rw [pS]
  rw [cbF (by decide)]
  rw [yaf]
  rw [← e1']
  rw [yGL ho1.1 ho2 ho1.2]
  iterate 6 refine (asTT (by first | rfl | exact decide_eq_true (by omega))).trans ?_
  have eG:lg++yhN l++[vlQ l 2 (0,A3 l).fst (0,A3 l).snd]++[vlQ l 2 (A3 l,B3 l).fst (A3 l,B3 l).snd]++[vlQ l 2 (B3 l,lenR l).fst (B3 l,lenR l).snd]=lg++log3 l:=by
   unfold log3 yFb
   rw [htr,z0,z1,z2,cond_false,qBv]
   simp only [qBc]
  have e5:∀ x:Nat,yaa (List.getD (nts [x]) 0 .nils)=(x:Int):=fun _=>rfl
  have e6:pc3 l=-1:=by unfold pc3;rw [htr];rfl
  have e7:o0 l=3-o1 l-o2 l:=by unfold o0;rfl
  rw [eG,e5,e6,z0,z1,z2,e7]
  rfl
 | true =>
  rw [yau]
  obtain ⟨D',C⟩:=cut3 hd h3
  have sp:=vvs hd h3 hp
  have sq:=vvs hd h3 hq.1
  have subO:∀ K,yaQ (yaa (yab (encW ((vv3 l).getD (p3 l) 0)) 0)) (yaa (yab (encW ((vv3 l).getD (p3 l) 0)) 1)) (yaa (yab (encW ((vv3 l).getD (q3 l) 0)) 0)) (yaa (yab (encW ((vv3 l).getD (q3 l) 0)) 1)) K=K (off3 l).num (off3 l).den 0:=fun K=>(ypW sp.1 sq.1 K).trans (by rw [← ysR,yfk,if_pos C.so])
  have mk:∀ K,yaz (cks l) (logs (lg++yhN l)) 1 (fr3 l).num (fr3 l).den (off3 l).num (off3 l).den K=K (c3 l).num (c3 l).den (cks l) (logs (lg++yhN l++[mkQ 1 (fr3 l) (off3 l) (c3 l)])):=fun K=>by
   obtain ⟨E,_,m⟩:=C.m
   rw [yC8]
   have w:=(g.VQ hd h3 hp).1
   exact yNk hd h1 (by rw [yfa];exact w.s1) (by rw [yfa];exact w.z) (by rw [yfa];exact qBm w.le w.len) C.so C.o0 m (by rw [qAi];show lg.length+4<2000;omega) K
  have eS:List.set (rts (vv3 l)) (0+(((p3 l:Nat):Int)).toNat) (.agg [.int .i64 (yaa (yab (encW ((vv3 l).getD (q3 l) 0)) 0)),.int .i64 (yaa (yab (encW ((vv3 l).getD (q3 l) 0)) 1))])=rts (vs3 l):=by
   unfold vs3
   rw [htr,cond_true,qAe,qA4]
   unfold rts
   rw [List.map_set]
   rfl
  rw [subO,ygX,eS]
  rcases (show p3 l=0∨p3 l=1∨p3 l=2 by omega) with hpe | hpe | hpe
  case' inl =>
   have hfr:fr3 l=0:=by rw [yfa,hpe];rfl
   have z0:s3 l 0=(c3 l,A3 l):=by rw [yjw (by decide),htr,hpe];rfl
   have z1:s3 l 1=(A3 l,B3 l):=by rw [yjw (by decide),htr,hpe];rfl
   have z2:s3 l 2=(B3 l,lenR l):=by rw [yjw (by decide),htr,hpe];rfl
   have mkp:∀ K,yaz (cks l) (logs (lg++yhN l)) 1 0 1 (off3 l).num (off3 l).den K=K (c3 l).num (c3 l).den (cks l) (logs (lg++yhN l++[mkQ 1 (fr3 l) (off3 l) (c3 l)])):=fun K=>by
    have h:=mk K
    rw [hfr] at h ⊢
    exact h
   rw [hpe,cbT (show ((0:Nat):Int)=0 from rfl),cbT (show ((0:Nat):Int)=0 from rfl),mkp,cbT (show ((0:Nat):Int)=0 from rfl)]
  case' inr.inl =>
   have hfr:fr3 l=A3 l:=by rw [yfa,hpe];rfl
   have z0:s3 l 0=(0,A3 l):=by rw [yjw (by decide),htr,hpe];rfl
   have z1:s3 l 1=(c3 l,B3 l):=by rw [yjw (by decide),htr,hpe];rfl
   have z2:s3 l 2=(B3 l,lenR l):=by rw [yjw (by decide),htr,hpe];rfl
   have mkp:∀ K,yaz (cks l) (logs (lg++yhN l)) 1 (A3 l).num (A3 l).den (off3 l).num (off3 l).den K=K (c3 l).num (c3 l).den (cks l) (logs (lg++yhN l++[mkQ 1 (fr3 l) (off3 l) (c3 l)])):=fun K=>by
    have h:=mk K
    rw [hfr] at h ⊢
    exact h
   rw [hpe,cbF (show ¬((1:Nat):Int)=0 by decide),cbT (show ((1:Nat):Int)=1 from rfl),cbF (show ¬((1:Nat):Int)=0 by decide),cbT (show ((1:Nat):Int)=1 from rfl),mkp,cbF (show ¬((1:Nat):Int)=0 by decide),cbT (show ((1:Nat):Int)=1 from rfl)]
  case' inr.inr =>
   have hfr:fr3 l=B3 l:=by rw [yfa,hpe];rfl
   have z0:s3 l 0=(0,A3 l):=by rw [yjw (by decide),htr,hpe];rfl
   have z1:s3 l 1=(A3 l,B3 l):=by rw [yjw (by decide),htr,hpe];rfl
   have z2:s3 l 2=(c3 l,lenR l):=by rw [yjw (by decide),htr,hpe];rfl
   have mkp:∀ K,yaz (cks l) (logs (lg++yhN l)) 1 (B3 l).num (B3 l).den (off3 l).num (off3 l).den K=K (c3 l).num (c3 l).den (cks l) (logs (lg++yhN l++[mkQ 1 (fr3 l) (off3 l) (c3 l)])):=fun K=>by
    have h:=mk K
    rw [hfr] at h ⊢
    exact h
   rw [hpe,cbF (show ¬((2:Nat):Int)=0 by decide),cbF (show ¬((2:Nat):Int)=1 by decide),cbT (show ((2:Nat):Int)=2 from rfl),cbF (show ¬((2:Nat):Int)=0 by decide),cbF (show ¬((2:Nat):Int)=1 by decide),cbT (show ((2:Nat):Int)=2 from rfl),mkp,cbF (show ¬((2:Nat):Int)=0 by decide),cbF (show ¬((2:Nat):Int)=1 by decide),cbT (show ((2:Nat):Int)=2 from rfl)]
  all_goals
   rw [z0] at u0
   rw [z1] at u1
   rw [z2] at u2
   iterate 47 refine (asTT (by first | exact decide_eq_true (by omega) | rfl)).trans ?_
   refine (yOO hd h2 u0 u1 u2 (lg:=lg++yhN l++[mkQ 1 (fr3 l) (off3 l) (c3 l)]) (by simp only [qAi,qAt];show lg.length+4+1+3<2000;omega) _ _ _ _ _ _ _ _ _).trans ?_
   have eW:rts [vS l 2 (s3 l 0),vS l 2 (s3 l 1),vS l 2 (s3 l 2)]=rts (ww3 l):=by unfold ww3;rw [yAO];rfl
   have eT3:List.take 3 (rts (vs3 l))=rts (vs3 l):=qBo (by rw [yji];omega)
   have eG:lg++yhN l++[mkQ 1 (fr3 l) (off3 l) (c3 l)]++[vlQ l 2 (s3 l 0).fst (s3 l 0).snd]++[vlQ l 2 (s3 l 1).fst (s3 l 1).snd]++[vlQ l 2 (s3 l 2).fst (s3 l 2).snd]=lg++log3 l:=by
    unfold log3 yFb
    rw [htr,cond_true]
    simp only [qBc]
   rw [z0,z1,z2] at eW eG
   have e5:∀ x:Nat,yaa (List.getD (nts [x]) 0 .nils)=(x:Int):=fun _=>rfl
   have e6:pc3 l=((p3 l:Nat):Int):=by unfold pc3;rw [htr];rfl
   have e7:o0 l=3-o1 l-o2 l:=by unfold o0;rfl
   have hlv:(rts (vs3 l)).length=3:=by rw [yji];exact hvl
   rw [eW,qAw,pW,ysQ ho2,eT3,pS,cbT (by decide)]
   rw [hpe] at e6
   by_cases hn:p3 l=o2 l
   ·have e1':o1 l=pkO (vs3 l) (o2 l):=by
     rw [yFa,htr,decide_eq_true hn];rfl
    rw [hpe] at hn
    rw [neF3 hn,yaf,← e1',yGL ho1.1 ho2 ho1.2]
    iterate 6 refine (asTT (by first | rfl | exact decide_eq_true (by omega))).trans ?_
    rw [eG,e5,e6,z0,z1,z2,e7]
    rw [hfr]
    rfl
   ·have e1':o1 l=p3 l:=by
     rw [yFa,htr,decide_eq_false hn];rfl
    rw [hpe] at hn e1'
    rw [neT3 hn,yau]
    have ot:=fun K=>yGL ho1.1 ho2 ho1.2 K
    rw [e1'] at ot
    rw [ot]
    iterate 6 refine (asTT (by first | rfl | exact decide_eq_true (by omega))).trans ?_
    rw [eG,e5,e6,z0,z1,z2,e7,e1']
    rw [hfr]
    rfl
end
section
variable {l:List Ck}
theorem yOQ (hd:DK l) {a:Nat} (ha:a<l.length) {s:RS} (hs:VQ l s) {lg:List Qy} (hm:lg.length+1<2000) {x0 x1} :
  (∃ n,ydm yat yac yae yaq yai x0 x1 n (cks l) (logs lg) (a:Int) [encR s] 1 0) =
  x1 (rts [vS l a s]) (cks l) (logs ((lg)++[vlQ l a s.1 s.2])) (a:Int) [encR s] 1 1 false:=by
 rw [exS3 rfl (R:=fun n=>ycE yat yac yae yaq yai x1 n (rts [vS l a s]) (cks l) (logs ((lg)++[vlQ l a s.1 s.2])) (a:Int) [encR s] 1 1) (fun n=>?_),
  exS3 rfl (R:=fun _=>x1 (rts [vS l a s]) (cks l) (logs ((lg)++[vlQ l a s.1 s.2])) (a:Int) [encR s] 1 1 false) (fun n=>by kernel_rfl),exC3]
 have e:ydm yat yac yae yaq yai x0 x1 (n+1) (cks l) (logs lg) (a:Int) [encR s] 1 0=yat (cks l) (logs (lg)) a s.1.num s.1.den s.2.num s.2.den (fun c g y0 y1 y2=>yac y0 y1 y2 fun r0 r1=>ycE yat yac yae yaq yai x1 n [.agg [.int .i64 r0,.int .i64 r1]] c g (a:Int) [encR s] 1 1):=by kernel_rfl
 rw [e,hs.val hd ha (by omega),ygX]
 rfl
theorem yOR (hd:DK l) {a:Nat} (ha:a<l.length) {s t u:RS} (hs:VQ l s) (ht:VQ l t) (hu:VQ l u) {lg:List Qy} (hm:lg.length+3<2000) {x2 x3} (v:List PV) :
  (∃ n,ydn yat yac yae yaq yai x2 x3 n v [encR s,encR t,encR u] (cks l) (logs lg) (a:Int) 3 0) =
  x3 v [encR s,encR t,encR u] (rts [vS l a s,vS l a t,vS l a u]) (cks l) (logs ((((lg)++[vlQ l a s.1 s.2])++[vlQ l a t.1 t.2])++[vlQ l a u.1 u.2])) (a:Int) 3 3 false:=by
 rw [exS3 rfl (R:=fun n=>ya2 yat yac yae yaq yai x3 n v [encR s,encR t,encR u] (rts [vS l a s]) (cks l) (logs ((lg)++[vlQ l a s.1 s.2])) (a:Int) 3 1) (fun n=>?_),
  exS3 rfl (R:=fun n=>ya2 yat yac yae yaq yai x3 n v [encR s,encR t,encR u] (rts [vS l a s,vS l a t]) (cks l) (logs (((lg)++[vlQ l a s.1 s.2])++[vlQ l a t.1 t.2])) (a:Int) 3 2) (fun n=>?_),
  exS3 rfl (R:=fun n=>ya2 yat yac yae yaq yai x3 n v [encR s,encR t,encR u] (rts [vS l a s,vS l a t,vS l a u]) (cks l) (logs ((((lg)++[vlQ l a s.1 s.2])++[vlQ l a t.1 t.2])++[vlQ l a u.1 u.2])) (a:Int) 3 3) (fun n=>?_),
  exS3 rfl (R:=fun _=>x3 v [encR s,encR t,encR u] (rts [vS l a s,vS l a t,vS l a u]) (cks l) (logs ((((lg)++[vlQ l a s.1 s.2])++[vlQ l a t.1 t.2])++[vlQ l a u.1 u.2])) (a:Int) 3 3 false) (fun n=>by kernel_rfl),exC3]
 ·have e:ya2 yat yac yae yaq yai x3 (n+1) v [encR s,encR t,encR u] (rts [vS l a s,vS l a t]) (cks l) (logs (((lg)++[vlQ l a s.1 s.2])++[vlQ l a t.1 t.2])) (a:Int) 3 2=yat (cks l) (logs (((lg)++[vlQ l a s.1 s.2])++[vlQ l a t.1 t.2])) a u.1.num u.1.den u.2.num u.2.den (fun c g y0 y1 y2=>yac y0 y1 y2 fun r0 r1=>ya2 yat yac yae yaq yai x3 n v [encR s,encR t,encR u] [encW (vS l a s),encW (vS l a t),.agg [.int .i64 r0,.int .i64 r1]] c g (a:Int) 3 3):=by kernel_rfl
  rw [e,hu.val hd ha (by simp only [qAi,qAt];omega),ygX]
  rfl
 ·have e:ya2 yat yac yae yaq yai x3 (n+1) v [encR s,encR t,encR u] (rts [vS l a s]) (cks l) (logs ((lg)++[vlQ l a s.1 s.2])) (a:Int) 3 1=yat (cks l) (logs ((lg)++[vlQ l a s.1 s.2])) a t.1.num t.1.den t.2.num t.2.den (fun c g y0 y1 y2=>yac y0 y1 y2 fun r0 r1=>ya2 yat yac yae yaq yai x3 n v [encR s,encR t,encR u] [encW (vS l a s),.agg [.int .i64 r0,.int .i64 r1]] c g (a:Int) 3 2):=by kernel_rfl
  rw [e,ht.val hd ha (by rw [qAi,qAt];omega),ygX]
  rfl
 ·have e:ydn yat yac yae yaq yai x2 x3 (n+1) v [encR s,encR t,encR u] (cks l) (logs lg) (a:Int) 3 0=yat (cks l) (logs (lg)) a s.1.num s.1.den s.2.num s.2.den (fun c g y0 y1 y2=>yac y0 y1 y2 fun r0 r1=>ya2 yat yac yae yaq yai x3 n v [encR s,encR t,encR u] [.agg [.int .i64 r0,.int .i64 r1]] c g (a:Int) 3 1):=by kernel_rfl
  rw [e,hs.val hd ha (by omega),ygX]
  rfl
theorem yQB (hd:DK l) {a:Nat} (ha:a<l.length) {s t:RS} (hs:VQ l s) (ht:VQ l t) {lg:List Qy} (hm:lg.length+2<2000) {x6 x7} (v c1 c2:List PV) :
  (∃ n,ydo yat yac yae yaq yai x6 x7 n v c1 c2 (cks l) (logs lg) (a:Int) [encR s,encR t] 2 0) =
  x7 v c1 c2 (rts [vS l a s,vS l a t]) (cks l) (logs (((lg)++[vlQ l a s.1 s.2])++[vlQ l a t.1 t.2])) (a:Int) [encR s,encR t] 2 2 false:=by
 rw [exS3 rfl (R:=fun n=>ybD yat yac yae yaq yai x7 n v c1 c2 (rts [vS l a s]) (cks l) (logs ((lg)++[vlQ l a s.1 s.2])) (a:Int) [encR s,encR t] 2 1) (fun n=>?_),
  exS3 rfl (R:=fun n=>ybD yat yac yae yaq yai x7 n v c1 c2 (rts [vS l a s,vS l a t]) (cks l) (logs (((lg)++[vlQ l a s.1 s.2])++[vlQ l a t.1 t.2])) (a:Int) [encR s,encR t] 2 2) (fun n=>?_),
  exS3 rfl (R:=fun _=>x7 v c1 c2 (rts [vS l a s,vS l a t]) (cks l) (logs (((lg)++[vlQ l a s.1 s.2])++[vlQ l a t.1 t.2])) (a:Int) [encR s,encR t] 2 2 false) (fun n=>by kernel_rfl),exC3]
 ·have e:ybD yat yac yae yaq yai x7 (n+1) v c1 c2 (rts [vS l a s]) (cks l) (logs ((lg)++[vlQ l a s.1 s.2])) (a:Int) [encR s,encR t] 2 1=yat (cks l) (logs ((lg)++[vlQ l a s.1 s.2])) a t.1.num t.1.den t.2.num t.2.den (fun c g y0 y1 y2=>yac y0 y1 y2 fun r0 r1=>ybD yat yac yae yaq yai x7 n v c1 c2 [encW (vS l a s),.agg [.int .i64 r0,.int .i64 r1]] c g (a:Int) [encR s,encR t] 2 2):=by kernel_rfl
  rw [e,ht.val hd ha (by rw [qAi,qAt];omega),ygX]
  rfl
 ·have e:ydo yat yac yae yaq yai x6 x7 (n+1) v c1 c2 (cks l) (logs lg) (a:Int) [encR s,encR t] 2 0=yat (cks l) (logs (lg)) a s.1.num s.1.den s.2.num s.2.den (fun c g y0 y1 y2=>yac y0 y1 y2 fun r0 r1=>ybD yat yac yae yaq yai x7 n v c1 c2 [.agg [.int .i64 r0,.int .i64 r1]] c g (a:Int) [encR s,encR t] 2 1):=by kernel_rfl
  rw [e,hs.val hd ha (by omega),ygX]
  rfl
@[irreducible] def had3 (l:List Ck):Nat:=if o2 l=p3 l then 2 else 1
@[irreducible] def not3 (l:List Ck):Nat:=if o2 l=p3 l then 1 else 2
def w3 (l:List Ck):Rat:=vS l (not3 l) (fr3 l,c3 l)
@[irreducible] def x3 (l:List Ck):Rat:=mkV l (not3 l) (fr3 l) (w3 l*r13)
@[irreducible] def y3 (l:List Ck):Rat:=mkV l (not3 l) (fr3 l) (w3 l*r23)
def K3 (l:List Ck):List RS:=[(fr3 l,x3 l),(x3 l,y3 l),(y3 l,c3 l)]
def u3 (l:List Ck):List Rat:=(K3 l).map (vS l (had3 l))
@[irreducible] def one3 (l:List Ck):Nat:=pk (u3 l)
def k3 (l:List Ck) (i:Nat):RS:=(K3 l).getD i (0,0)
def lf3 (l:List Ck) (i:Nat):Nat:=(oth (one3 l)).getD i 0
def z3 (l:List Ck):List Rat:=[vS l 0 (k3 l (lf3 l 0)),vS l 0 (k3 l (lf3 l 1))]
@[irreducible] def kk3 (l:List Ck):Nat:=pkL (fun i=>(z3 l).getD i 0) 0 [0,1]
def cr3 (l:List Ck) (a:Nat):RS:=if a=had3 l then k3 l (one3 l) else if a=0 then k3 l (lf3 l (kk3 l)) else k3 l (lf3 l (1-kk3 l))
theorem ykl (l:List Ck):(had3 l=1∧not3 l=2)∨(had3 l=2∧not3 l=1):=by
 unfold had3 not3
 by_cases h:o2 l=p3 l
 ·rw [if_pos h,if_pos h];exact .inr ⟨rfl,rfl⟩
 ·rw [if_neg h,if_neg h];exact .inl ⟨rfl,rfl⟩
theorem yxE (l:List Ck):one3 l<3:=by unfold one3;exact yNn _
theorem yNp (l:List Ck) {i:Nat} (hi:i<3):(u3 l).getD i 0≤(u3 l).getD (one3 l) 0:=by unfold one3;exact yJo _ hi
theorem yxF (l:List Ck):lf3 l 0<3∧lf3 l 1<3∧lf3 l 0≠one3 l∧lf3 l 1≠one3 l∧lf3 l 0≠lf3 l 1:=by
 have h:=yxE l
 unfold lf3
 obtain e | e | e:one3 l=0∨one3 l=1∨one3 l=2:=by omega
 all_goals (rw [e];decide)
theorem yAP (l:List Ck):kk3 l<2:=by
 obtain ⟨h,_⟩:=ynj (v:=fun i=>(z3 l).getD i 0) [0,1] 0
 unfold kk3
 rcases h with h | h
 ·rw [h];decide
 ·simp only [qAk,qCb,or_false] at h;omega
theorem yOn (l:List Ck):vS l 0 (k3 l (lf3 l (1-kk3 l)))≤vS l 0 (k3 l (lf3 l (kk3 l))):=by
 have hm:=(ynj (v:=fun i=>(z3 l).getD i 0) [0,1] 0).2.2
 have e:kk3 l=pkL (fun i=>(z3 l).getD i 0) 0 [0,1]:=by unfold kk3;rfl
 rw [← e] at hm
 have h0:=hm 0 (by simp)
 have h1:=hm 1 (by simp)
 have hk:=yAP l
 obtain e | e:kk3 l=0∨kk3 l=1:=by omega
 ·rw [e] at h1 ⊢
  exact h1
 ·rw [e] at h0 ⊢
  exact h0
structure X3 (l:List Ck) (D:Int):Prop where
 D1:1≤D∧D≤3000000
 w0:0≤w3 l
 ws:small (w3 l)
 w1:small (w3 l*r13)
 w2:small (w3 l*r23)
 m1:∃ E:Int,MkV l (not3 l) (fr3 l) (w3 l*r13) E
 m2:∃ E:Int,MkV l (not3 l) (fr3 l) (w3 l*r23) E
 fx:fr3 l≤x3 l
 xy:x3 l≤y3 l
 yc:y3 l≤c3 l
 v1:vXA l (not3 l) (x3 l)=vXA l (not3 l) (fr3 l)+w3 l*r13
 v2:vXA l (not3 l) (y3 l)=vXA l (not3 l) (fr3 l)+w3 l*r23
 vq:∀ i,i<3→VQ l (k3 l i)∧In D (k3 l i).1∧In D (k3 l i).2
 iP:∀ i,i<3→In D ((P3 l).getD i (0,0)).1∧In D ((P3 l).getD i (0,0)).2
end
section
variable {l:List Ck}
theorem yDa {a:Nat} {q v:Rat} (h:v=0):mkV l a q v=q:=by
 unfold mkV mrkC
 rw [if_pos h]
 rfl
theorem In.t13 {D:Int} (hD:1≤D) {q:Rat} (h:In D q):In (3*D) (q*r13)∧In (3*D) (q*r23):=by
 have h1:=h.div hD (d:=3) (by decide)
 have h2:=(h.mulI 2).div hD (d:=3) (by decide)
 constructor
 ·have e:q*r13=q / ((3:Int):Rat):=by rw [r13e];have:((3:Int):Rat)=3:=rfl;rw [this];grind
  rw [e];exact h1
 ·have e:q*r23=q*((2:Int):Rat) / ((3:Int):Rat):=by rw [r23e];have h3:((3:Int):Rat)=3:=rfl;have h2:((2:Int):Rat)=2:=rfl;rw [h3,h2];grind
  rw [e];exact h2
theorem yt7 (hd:DK l) (h3:l.length=3):∃ D,X3 l D:=by
 obtain ⟨D,C⟩:=cut3 hd h3
 obtain ⟨D0,g⟩:=g3 hd h3
 have hp:=ymv l
 obtain ⟨vp,_⟩:=g.VQ hd h3 hp
 have hn:not3 l<l.length:=by rcases ykl l with h | h <;> omega
 have D1:=C.D1
 have hl:=(hd.ok 0 (by omega)).len0
 have hL:lenR l≤1000:=qAu.2 hl.2
 have fz:0≤fr3 l:=by rw [yfa];exact vp.z
 have cl:c3 l≤lenR l:=qBm C.hi vp.len
 have fc:=C.lo
 have iF:In D (fr3 l):=by rw [yfa];exact (C.iP _ hp).1
 have iC:=C.iC
 have iw:In D (w3 l):=yC7 D1.1 (s:=(fr3 l,c3 l)) ⟨iF,iC⟩
 have wb:=ysv hd hn (s:=(fr3 l,c3 l)) fz fc cl
 have w0:0≤w3 l:=wb.1
 have w12:w3 l≤12000:=qBm wb.2 (yzO hd hn)
 have t:=iw.t13 D1.1
 have e3:∀ q:Rat,q*r13=q / 3∧q*r23=2*q / 3:=fun q=>by rw [r13e,r23e];constructor <;> grind
 have wv:vXA l (not3 l) (c3 l)=vXA l (not3 l) (fr3 l)+w3 l:=by
  unfold w3 vS
  show _=vXA l (not3 l) (fr3 l)+(vXA l (not3 l) (c3 l)-vXA l (not3 l) (fr3 l))
  grind
 have ml:=yE9 hd hn cl
 have m1:=yC6 hd hn (q:=fr3 l) (v:=w3 l*r13) fz (qBm fc cl) (by rw [(e3 _).1];grind) (by rw [(e3 _).1];grind) (D:=3*D) (by omega) (by omega) (iF.up D1.1 (by decide)) t.1
 have m2:=yC6 hd hn (q:=fr3 l) (v:=w3 l*r23) fz (qBm fc cl) (by rw [(e3 _).2];grind) (by rw [(e3 _).2];grind) (D:=3*D) (by omega) (by omega) (iF.up D1.1 (by decide)) t.2
 have ex:x3 l=mkV l (not3 l) (fr3 l) (w3 l*r13):=by unfold x3;rfl
 have ey:y3 l=mkV l (not3 l) (fr3 l) (w3 l*r23):=by unfold y3;rfl
 obtain ⟨d,hd1,k1⟩:=m1.d
 obtain ⟨e,he1,k2⟩:=m2.d
 have v1:=m1.eqv
 have v2:=m2.eqv
 have fx:=m1.ge
 rw [← ex] at k1 v1 fx
 rw [← ey] at k2 v2
 have xy:x3 l≤y3 l:=by
  by_cases hz:w3 l=0
  ·rw [ex,ey,hz,yDa (by rw [r13e];grind),yDa (by rw [r23e];grind)];exact qAr
  ·refine qBp (lt3 hd hn ?_)
   rw [v1,v2,(e3 _).1,(e3 _).2];grind
 have yc:y3 l≤c3 l:=by
  by_cases hz:w3 l=0
  ·rw [ey,hz,yDa (by rw [r23e];grind)];exact fc
  ·refine qBp (lt3 hd hn ?_)
   rw [v2,wv,(e3 _).2];grind
 have de:1*1≤d*e:=qBk hd1.1 he1.1 (by omega) (by omega)
 have de2:d*e≤12*12:=qBk hd1.2 he1.2 (by omega) (by omega)
 have E1:1*1≤d*e*(3*D):=qBk (by omega) (by omega) (by omega) (by omega)
 have E2:d*e*(3*D)≤144*(3*5184):=qBk (by omega) (by omega) (by omega) (by omega)
 have jx:In (d*e*(3*D)) (x3 l):=In.D (by rw [Int.mul_comm d e,Int.mul_assoc]) ((k1.up (by
  have:1*1≤d*(3*D):=qBk hd1.1 (by omega) (by omega) (by omega)
  omega) he1.1):In (e*(d*(3*D))) _)
 have jy:In (d*e*(3*D)) (y3 l):=In.D (by rw [Int.mul_assoc]) ((k2.up (by
  have:1*1≤e*(3*D):=qBk he1.1 (by omega) (by omega) (by omega)
  omega) hd1.1):In (d*(e*(3*D))) _)
 have up:∀ {q:Rat},In D q→In (d*e*(3*D)) q:=fun h=>(h.up D1.1 (d:=3) (by decide)).up (by omega) (by omega)
 have sm:∀ {q:Rat},In (d*e*(3*D)) q→0≤q→q≤1000→small q:=fun h h0 h1=>sm3 h ⟨by omega,by omega⟩ (by grind) (by grind)
 have x0:0≤x3 l:=qBm fz fx
 have y0:0≤y3 l:=qBm x0 xy
 have yl:y3 l≤lenR l:=qBm yc cl
 have xl:x3 l≤lenR l:=qBm xy yl
 have sF:=sm (up iF) fz (by grind)
 have sX:=sm jx x0 (by grind)
 have sY:=sm jy y0 (by grind)
 have sC:=sm (up iC) (by grind) (by grind)
 refine ⟨d*e*(3*D),⟨by omega,by omega⟩,w0,sm3 iw ⟨D1.1,by omega⟩ (by grind) w12,sm3 t.1 ⟨by omega,by omega⟩ (by rw [(e3 _).1];grind) (by rw [(e3 _).1];grind),sm3 t.2 ⟨by omega,by omega⟩ (by rw [(e3 _).2];grind) (by rw [(e3 _).2];grind),⟨_,m1⟩,⟨_,m2⟩,fx,xy,yc,v1,v2,fun i hi=>?_,fun i hi=>⟨up (C.iP i hi).1,up (C.iP i hi).2⟩⟩
 obtain rfl | rfl | rfl:i=0∨i=1∨i=2:=by omega
 ·exact ⟨⟨sF,sX,fz,fx,xl,_,⟨by omega,by omega⟩,up iF,jx⟩,up iF,jx⟩
 ·exact ⟨⟨sX,sY,x0,xy,yl,_,⟨by omega,by omega⟩,jx,jy⟩,jx,jy⟩
 ·exact ⟨⟨sY,sC,y0,yc,cl,_,⟨by omega,by omega⟩,jy,up iC⟩,jy,up iC⟩
end
set_option maxHeartbeats 1000000
section
variable {l:List Ck}
def yDb (l:List Ck):List Qy:=[vlQ l (not3 l) (fr3 l) (c3 l)]++[mkQ (not3 l) (fr3 l) (w3 l*r13) (x3 l)]++[mkQ (not3 l) (fr3 l) (w3 l*r23) (y3 l)]++[vlQ l (had3 l) (fr3 l) (x3 l)]++[vlQ l (had3 l) (x3 l) (y3 l)]++[vlQ l (had3 l) (y3 l) (c3 l)]++[vlQ l 0 (k3 l (lf3 l 0)).1 (k3 l (lf3 l 0)).2]++[vlQ l 0 (k3 l (lf3 l 1)).1 (k3 l (lf3 l 1)).2]
theorem yOo (hd:DK l) (h3:l.length=3) {lg:List Qy} (hm:lg.length+10<2000) (i0 i1 i2 i3 i4 i5 i6 i7 i8 i9 i10 i11 b0 b1:Int) (K) :
  yah (cks l) (logs lg) i0 i1 i2 i3 i4 i5 i6 i7 i8 i9 i10 i11 (p3 l:Int) (fr3 l).num (fr3 l).den (c3 l).num (c3 l).den b0 b1 (o2 l:Int) K =
  K (cr3 l 0).1.num (cr3 l 0).1.den (cr3 l 0).2.num (cr3 l 0).2.den (cr3 l 1).1.num (cr3 l 1).1.den (cr3 l 1).2.num (cr3 l 1).2.den (cr3 l 2).1.num (cr3 l 2).1.den (cr3 l 2).2.num (cr3 l 2).2.den (cks l) (logs (lg++yDb l)):=by
 obtain ⟨D,X⟩:=yt7 hd h3
 obtain ⟨D',C⟩:=cut3 hd h3
 obtain ⟨D0,g⟩:=g3 hd h3
 have h0:0<l.length:=by omega
 have h1:1<l.length:=by omega
 have h2:2<l.length:=by omega
 have D1:=X.D1
 have v0:VQ l (fr3 l,x3 l)∧_:=X.vq 0 (by decide)
 have v1:VQ l (x3 l,y3 l)∧_:=X.vq 1 (by decide)
 have v2:VQ l (y3 l,c3 l)∧_:=X.vq 2 (by decide)
 have vO:VQ l (fr3 l,c3 l):=⟨v0.1.s1,v2.1.s2,v0.1.z,C.lo,v2.1.len,D,⟨D1.1,by omega⟩,v0.2.1,v2.2.2⟩
 have sz:∀ {a:Nat} {s:RS},a<l.length→VQ l s∧In D s.1∧In D s.2→small (vS l a s):=fun {a s} ha h=>by
  obtain ⟨k1,k2⟩:=ysv hd ha h.1.z h.1.le h.1.len
  have k3:=yzO hd ha
  exact sm3 (yC7 D1.1 h.2) ⟨D1.1,by omega⟩ (by grind) (by grind)
 have hk:=yAP l
 have hone:=yxE l
 have ex:x3 l=mkV l (not3 l) (fr3 l) (w3 l*r13):=by unfold x3;rfl
 have ey:y3 l=mkV l (not3 l) (fr3 l) (w3 l*r23):=by unfold y3;rfl
 have th0:∀ {lg':List Qy},lg'.length+2<2000→∀ K,yae (cks l) (logs lg') (not3 l:Nat) (fr3 l).num (fr3 l).den (w3 l).num (w3 l).den K=K (x3 l).num (x3 l).den (y3 l).num (y3 l).den (cks l) (logs ((lg'++[mkQ (not3 l) (fr3 l) (w3 l*r13) (x3 l)])++[mkQ (not3 l) (fr3 l) (w3 l*r23) (y3 l)])):=fun {lg'} hm' K=>by
  obtain ⟨E1,m1⟩:=X.m1
  obtain ⟨E2,m2⟩:=X.m2
  have hn:not3 l<l.length:=by rcases ykl l with h | h <;> omega
  have r1:0≤w3 l*r13:=by have:=X.w0;rw [r13e];grind
  have r2:0≤w3 l*r23:=by have:=X.w0;rw [r23e];grind
  have:=yKw hd hn (q:=fr3 l) (v:=w3 l) v0.1.s1 v0.1.z (qBm vO.le vO.len) X.ws X.w1 X.w2 r1 r2 m1 m2 (lg:=lg') hm' K
  rw [← ex,← ey] at this
  exact this
 have pU:∀ K,yaq (rts (u3 l)) [.int .i64 0,.int .i64 1,.int .i64 2] K=K (one3 l:Nat):=fun K=>by
  have hh:had3 l<l.length:=by rcases ykl l with h | h <;> omega
  unfold one3
  refine yGM rfl (fun i hi=>?_) K
  obtain rfl | rfl | rfl:i=0∨i=1∨i=2:=by omega
  ·exact sz hh v0
  ·exact sz hh v1
  ·exact sz hh v2
 have pK:∀ K,yaq (rts (z3 l)) [.int .i64 0,.int .i64 1] K=K (kk3 l:Nat):=fun K=>by
  obtain ⟨j0,j1,_⟩:=yxF l
  unfold kk3
  refine yNm (vs:=z3 l) (i0:=0) (J:=[1]) (fun i hi=>?_) (fun i hi=>?_) (by decide) K
  ·have hi:i<2:=hi
   obtain rfl | rfl:i=0∨i=1:=by omega
   ·exact sz h0 (X.vq _ j0)
   ·exact sz h0 (X.vq _ j1)
  ·show i<2
   simp only [qAk,qCb,or_false] at hi
   omega
 have eG:lg++yDb l=lg++[vlQ l (not3 l) (fr3 l) (c3 l)]++[mkQ (not3 l) (fr3 l) (w3 l*r13) (x3 l)]++[mkQ (not3 l) (fr3 l) (w3 l*r23) (y3 l)]++[vlQ l (had3 l) (fr3 l) (x3 l)]++[vlQ l (had3 l) (x3 l) (y3 l)]++[vlQ l (had3 l) (y3 l) (c3 l)]++[vlQ l 0 (k3 l (lf3 l 0)).1 (k3 l (lf3 l 0)).2]++[vlQ l 0 (k3 l (lf3 l 1)).1 (k3 l (lf3 l 1)).2]:=by
  unfold yDb
  simp only [qBc]
 obtain ⟨j0,j1,_⟩:=yxF l
 unfold yah yf0
 dsimp only [lt,Go.Pf.jn]
 rcases ykl l with ⟨eh,en⟩ | ⟨eh,en⟩
 case' inl =>
  have hb:(((o2 l:Nat):Int) ==((p3 l:Nat):Int))=false:=by
   unfold had3 at eh
   by_cases h:o2 l=p3 l
   ·rw [if_pos h] at eh;omega
   ·simp;omega
  have ew:w3 l=vS l 2 (fr3 l,c3 l):=by unfold w3;rw [en]
  have eu:u3 l=[vS l 1 (fr3 l,x3 l),vS l 1 (x3 l,y3 l),vS l 1 (y3 l,c3 l)]:=by unfold u3;rw [eh];rfl
  rw [hb,yaf]
  refine (yOQ hd h2 (s:=(fr3 l,c3 l)) vO (lg:=lg) (by omega)).trans ?_
  have th:∀ K,yae (cks l) (logs (lg++[vlQ l 2 (fr3 l,c3 l).1 (fr3 l,c3 l).2])) 2 (fr3 l).num (fr3 l).den (yaa (yab (List.getD (rts [vS l 2 (fr3 l,c3 l)]) 0 .nils) 0)) (yaa (yab (List.getD (rts [vS l 2 (fr3 l,c3 l)]) 0 .nils) 1)) K=K (x3 l).num (x3 l).den (y3 l).num (y3 l).den (cks l) (logs (((lg++[vlQ l 2 (fr3 l,c3 l).1 (fr3 l,c3 l).2])++[mkQ 2 (fr3 l) (w3 l*r13) (x3 l)])++[mkQ 2 (fr3 l) (w3 l*r23) (y3 l)])):=fun K=>by
   have h:=th0 (lg':=lg++[vlQ l 2 (fr3 l,c3 l).1 (fr3 l,c3 l).2]) (by rw [qAi,qAt];omega) K
   rw [en] at h
   rw [← ew]
   exact h
  rw [th]
  iterate 5 refine (asTT (by first | rfl | exact decide_eq_true (by omega))).trans ?_
  refine (yOR hd h1 (s:=(fr3 l,x3 l)) (t:=(x3 l,y3 l)) (u:=(y3 l,c3 l)) v0.1 v1.1 v2.1 (lg:=((lg++[vlQ l 2 (fr3 l,c3 l).1 (fr3 l,c3 l).2])++[mkQ 2 (fr3 l) (w3 l*r13) (x3 l)])++[mkQ 2 (fr3 l) (w3 l*r23) (y3 l)]) (by simp only [qAi,qAt];omega) _).trans ?_
  rw [← eu,qAw,pU]
 case' inr =>
  have hb:(((o2 l:Nat):Int) ==((p3 l:Nat):Int))=true:=by
   unfold had3 at eh
   by_cases h:o2 l=p3 l
   ·rw [h];simp
   ·rw [if_neg h] at eh;omega
  have ew:w3 l=vS l 1 (fr3 l,c3 l):=by unfold w3;rw [en]
  have eu:u3 l=[vS l 2 (fr3 l,x3 l),vS l 2 (x3 l,y3 l),vS l 2 (y3 l,c3 l)]:=by unfold u3;rw [eh];rfl
  rw [hb,yau]
  refine (yOQ hd h1 (s:=(fr3 l,c3 l)) vO (lg:=lg) (by omega)).trans ?_
  have th:∀ K,yae (cks l) (logs (lg++[vlQ l 1 (fr3 l,c3 l).1 (fr3 l,c3 l).2])) 1 (fr3 l).num (fr3 l).den (yaa (yab (List.getD (rts [vS l 1 (fr3 l,c3 l)]) 0 .nils) 0)) (yaa (yab (List.getD (rts [vS l 1 (fr3 l,c3 l)]) 0 .nils) 1)) K=K (x3 l).num (x3 l).den (y3 l).num (y3 l).den (cks l) (logs (((lg++[vlQ l 1 (fr3 l,c3 l).1 (fr3 l,c3 l).2])++[mkQ 1 (fr3 l) (w3 l*r13) (x3 l)])++[mkQ 1 (fr3 l) (w3 l*r23) (y3 l)])):=fun K=>by
   have h:=th0 (lg':=lg++[vlQ l 1 (fr3 l,c3 l).1 (fr3 l,c3 l).2]) (by rw [qAi,qAt];omega) K
   rw [en] at h
   rw [← ew]
   exact h
  rw [th]
  iterate 5 refine (asTT (by first | rfl | exact decide_eq_true (by omega))).trans ?_
  refine (yOR hd h2 (s:=(fr3 l,x3 l)) (t:=(x3 l,y3 l)) (u:=(y3 l,c3 l)) v0.1 v1.1 v2.1 (lg:=((lg++[vlQ l 1 (fr3 l,c3 l).1 (fr3 l,c3 l).2])++[mkQ 1 (fr3 l) (w3 l*r13) (x3 l)])++[mkQ 1 (fr3 l) (w3 l*r23) (y3 l)]) (by simp only [qAi,qAt];omega) _).trans ?_
  rw [← eu,qAw,pU]
 all_goals
  rcases (show one3 l=0∨one3 l=1∨one3 l=2 by omega) with eo | eo | eo
 all_goals
  have ez:z3 l=[vS l 0 (k3 l (lf3 l 0)),vS l 0 (k3 l (lf3 l 1))]:=by unfold z3;rfl
  have sv:=fun {lg:List Qy} {x6 x7} hm a b c=>yQB (x6:=x6) (x7:=x7) hd h0 (s:=k3 l (lf3 l 0)) (t:=k3 l (lf3 l 1)) (X.vq _ j0).1 (X.vq _ j1).1 (lg:=lg) hm a b c
  have c0:cr3 l 0=k3 l (lf3 l (kk3 l)):=by unfold cr3;rw [eh];rfl
  first
  | (rw [eo,show ∀ K,yai [.int .i64 ((0:Nat):Int)] K=K (nts [1,2]) from fun K=>ysQ (by decide) K]; have k0:k3 l (lf3 l 0)=(x3 l,y3 l):=(by unfold lf3;rw [eo];rfl); have k1:k3 l (lf3 l 1)=(y3 l,c3 l):=(by unfold lf3;rw [eo];rfl); rw [k0,k1] at sv ez eG)
  | (rw [eo,show ∀ K,yai [.int .i64 ((1:Nat):Int)] K=K (nts [0,2]) from fun K=>ysQ (by decide) K]; have k0:k3 l (lf3 l 0)=(fr3 l,x3 l):=(by unfold lf3;rw [eo];rfl); have k1:k3 l (lf3 l 1)=(y3 l,c3 l):=(by unfold lf3;rw [eo];rfl); rw [k0,k1] at sv ez eG)
  | (rw [eo,show ∀ K,yai [.int .i64 ((2:Nat):Int)] K=K (nts [0,1]) from fun K=>ysQ (by decide) K]; have k0:k3 l (lf3 l 0)=(fr3 l,x3 l):=(by unfold lf3;rw [eo];rfl); have k1:k3 l (lf3 l 1)=(x3 l,y3 l):=(by unfold lf3;rw [eo];rfl); rw [k0,k1] at sv ez eG)
  iterate 16 refine (asTT (by first | rfl | exact decide_eq_true (by omega))).trans ?_
  refine (sv (lg:=_) (by simp only [qAi,qAt];omega) _ _ _).trans ?_
  rw [en,eh] at eG
  rw [← ez,qAw,pK,eG,c0]
  rcases (show kk3 l=0∨kk3 l=1 by omega) with ek | ek
  all_goals
   first
   | rw [show cr3 l 1=k3 l (one3 l) by unfold cr3;rw [eh];rfl,show cr3 l 2=k3 l (lf3 l (1-kk3 l)) by unfold cr3;rw [eh];rfl]
   | rw [show cr3 l 1=k3 l (lf3 l (1-kk3 l)) by unfold cr3;rw [eh];rfl,show cr3 l 2=k3 l (one3 l) by unfold cr3;rw [eh];rfl]
   rw [ek,eo]
   first
   | rw [show k3 l (lf3 l (1-1))=_ from k0,k1];rfl
   | rw [show k3 l (lf3 l (1-0))=_ from k1,k0];rfl
end
set_option maxHeartbeats 1000000
def neS (s:Sp):Bool:=!((s.a == s.c)&&((s.b == s.d)&&true))
def fl2 (s t:Sp):List Sp:=(bif neS s then [s] else [])++(bif neS t then [t] else [])
theorem in0G {s t:Sp} {A P:Nat→Prop} {B:List PV→Nat→Int→Prop} {X:List PV→Prop} (hs:neS s=true) (z:A 0=False) (zB:∀ v j,B v 0 j=False) (a0:∀ n,A (n+1)=cbr (neS s) (B [encS s] n 1) (P n)) (a1:∀ n,B [encS s] (n+1) 1=cbr (neS t) (B [encS s,encS t] n 2) (B [encS s] n 2)) (a2:∀ v n,B v (n+1) 2=X v):(∃ n,A n)=X ((fl2 s t).map encS):=by
 rw [exS3 z (R:=fun n=>B [encS s] n 1) (fun n=>by rw [a0,hs,yau])]
 unfold fl2
 rw [hs]
 cases ht:neS t with
 | true =>
  rw [exS3 (zB _ _) (R:=fun n=>B [encS s,encS t] n 2) (fun n=>by rw [a1,ht,yau]),exS3 (zB _ _) (R:=fun _=>X [encS s,encS t]) (fun n=>a2 _ n),exC3]
  rfl
 | false =>
  rw [exS3 (zB _ _) (R:=fun n=>B [encS s] n 2) (fun n=>by rw [a1,ht,yaf]),exS3 (zB _ _) (R:=fun _=>X [encS s]) (fun n=>a2 _ n),exC3]
  rfl
theorem in4G {s t:Sp} {A:Nat→Int→Prop} {B:List PV→Nat→Int→Prop} {X:List PV→Prop} {Y:Prop} (z:∀ j,A 0 j=False) (zB:∀ v j,B v 0 j=False) (a0:∀ n,A (n+1) 0=cbr (neS s) (B [encS s] n 1) (A n 1)) (b0:∀ n,A (n+1) 1=cbr (neS t) (B [encS t] n 2) (A n 2)) (b1:∀ n,A (n+1) 2=Y) (a1:∀ n,B [encS s] (n+1) 1=cbr (neS t) (B [encS s,encS t] n 2) (B [encS s] n 2)) (a2:∀ v n,B v (n+1) 2=X v):(∃ n,A n 0)=bif neS s||neS t then X ((fl2 s t).map encS) else Y:=by
 cases hs:neS s with
 | true=>exact in0G hs (z 0) zB a0 a1 a2
 | false =>
  unfold fl2
  rw [hs,exS3 (z _) (R:=fun n=>A n 1) (fun n=>by rw [a0,hs,yaf])]
  cases ht:neS t with
  | true =>
   rw [exS3 (z _) (R:=fun n=>B [encS t] n 2) (fun n=>by rw [b0,ht,yau]),exS3 (zB _ _) (R:=fun _=>X [encS t]) (fun n=>a2 _ n),exC3]
   rfl
  | false =>
   rw [exS3 (z _) (R:=fun n=>A n 2) (fun n=>by rw [b0,ht,yaf]),exS3 (z _) (R:=fun _=>Y) (fun n=>b1 n),exC3]
   rfl
section
variable (s t:Sp) (c g:List PV) (s00 s01 s02 s03 s10 s11 s12 s13 s20 s21 s22 s23 c00 c01 c02 c03 c10 c11 c12 c13 c20 c21 c22 c23 m0 m1 m2 m3 m4 o0 o1 o2 i:Int)
theorem in0 (hs:neS s=true) {x0 x1}:(∃ n,yfy yaw yak yah yao yag x0 x1 n s00 s01 s02 s03 s10 s11 s12 s13 s20 s21 s22 s23 m0 m1 m2 m3 m4 o0 o1 o2 0 c g c00 c01 c02 c03 c10 c11 c12 c13 c20 c21 c22 c23 i [encS s,encS t] 2 0)=x1 ((fl2 s t).map encS) s00 s01 s02 s03 s10 s11 s12 s13 s20 s21 s22 s23 m0 m1 m2 m3 m4 o0 o1 o2 0 c g c00 c01 c02 c03 c10 c11 c12 c13 c20 c21 c22 c23 i [encS s,encS t] 2 2 false :=
 in0G (P:=fun n=>yfy yaw yak yah yao yag x0 x1 n s00 s01 s02 s03 s10 s11 s12 s13 s20 s21 s22 s23 m0 m1 m2 m3 m4 o0 o1 o2 0 c g c00 c01 c02 c03 c10 c11 c12 c13 c20 c21 c22 c23 i [encS s,encS t] 2 1) (B:=fun v n j=>yhe yaw yak yah yao yag x1 n v s00 s01 s02 s03 s10 s11 s12 s13 s20 s21 s22 s23 m0 m1 m2 m3 m4 o0 o1 o2 0 c g c00 c01 c02 c03 c10 c11 c12 c13 c20 c21 c22 c23 i [encS s,encS t] 2 j) (X:=fun v=>x1 v s00 s01 s02 s03 s10 s11 s12 s13 s20 s21 s22 s23 m0 m1 m2 m3 m4 o0 o1 o2 0 c g c00 c01 c02 c03 c10 c11 c12 c13 c20 c21 c22 c23 i [encS s,encS t] 2 2 false) hs rfl (fun _ _=>rfl) (fun n=>by kernel_rfl) (fun n=>by kernel_rfl) (fun v n=>by kernel_rfl)
theorem in4a (q1:PV) {x4 x5}:(∃ n,ydz yaw yak yah yao yag x4 x5 n [q1] s00 s01 s02 s03 s10 s11 s12 s13 s20 s21 s22 s23 m0 m1 m2 m3 m4 o0 o1 o2 0 c g c00 c01 c02 c03 c10 c11 c12 c13 c20 c21 c22 c23 i [encS s,encS t] 2 0)=bif neS s||neS t then x5 [q1] ((fl2 s t).map encS) s00 s01 s02 s03 s10 s11 s12 s13 s20 s21 s22 s23 m0 m1 m2 m3 m4 o0 o1 o2 0 c g c00 c01 c02 c03 c10 c11 c12 c13 c20 c21 c22 c23 i [encS s,encS t] 2 2 false else x4 [q1] s00 s01 s02 s03 s10 s11 s12 s13 s20 s21 s22 s23 m0 m1 m2 m3 m4 o0 o1 o2 0 c g c00 c01 c02 c03 c10 c11 c12 c13 c20 c21 c22 c23 i [encS s,encS t] 2 2 false :=
 in4G (A:=fun n j=>ydz yaw yak yah yao yag x4 x5 n [q1] s00 s01 s02 s03 s10 s11 s12 s13 s20 s21 s22 s23 m0 m1 m2 m3 m4 o0 o1 o2 0 c g c00 c01 c02 c03 c10 c11 c12 c13 c20 c21 c22 c23 i [encS s,encS t] 2 j) (B:=fun v n j=>yfz yaw yak yah yao yag x5 n [q1] v s00 s01 s02 s03 s10 s11 s12 s13 s20 s21 s22 s23 m0 m1 m2 m3 m4 o0 o1 o2 0 c g c00 c01 c02 c03 c10 c11 c12 c13 c20 c21 c22 c23 i [encS s,encS t] 2 j) (X:=fun v=>x5 [q1] v s00 s01 s02 s03 s10 s11 s12 s13 s20 s21 s22 s23 m0 m1 m2 m3 m4 o0 o1 o2 0 c g c00 c01 c02 c03 c10 c11 c12 c13 c20 c21 c22 c23 i [encS s,encS t] 2 2 false) (fun _=>rfl) (fun _ _=>rfl) (fun n=>by kernel_rfl) (fun n=>by kernel_rfl) (fun n=>by kernel_rfl) (fun n=>by kernel_rfl) (fun v n=>by kernel_rfl)
theorem in4b (q1 q2:PV) {x4 x5}:(∃ n,ydz yaw yak yah yao yag x4 x5 n [q1,q2] s00 s01 s02 s03 s10 s11 s12 s13 s20 s21 s22 s23 m0 m1 m2 m3 m4 o0 o1 o2 0 c g c00 c01 c02 c03 c10 c11 c12 c13 c20 c21 c22 c23 i [encS s,encS t] 2 0)=bif neS s||neS t then x5 [q1,q2] ((fl2 s t).map encS) s00 s01 s02 s03 s10 s11 s12 s13 s20 s21 s22 s23 m0 m1 m2 m3 m4 o0 o1 o2 0 c g c00 c01 c02 c03 c10 c11 c12 c13 c20 c21 c22 c23 i [encS s,encS t] 2 2 false else x4 [q1,q2] s00 s01 s02 s03 s10 s11 s12 s13 s20 s21 s22 s23 m0 m1 m2 m3 m4 o0 o1 o2 0 c g c00 c01 c02 c03 c10 c11 c12 c13 c20 c21 c22 c23 i [encS s,encS t] 2 2 false :=
 in4G (A:=fun n j=>ydz yaw yak yah yao yag x4 x5 n [q1,q2] s00 s01 s02 s03 s10 s11 s12 s13 s20 s21 s22 s23 m0 m1 m2 m3 m4 o0 o1 o2 0 c g c00 c01 c02 c03 c10 c11 c12 c13 c20 c21 c22 c23 i [encS s,encS t] 2 j) (B:=fun v n j=>yfz yaw yak yah yao yag x5 n [q1,q2] v s00 s01 s02 s03 s10 s11 s12 s13 s20 s21 s22 s23 m0 m1 m2 m3 m4 o0 o1 o2 0 c g c00 c01 c02 c03 c10 c11 c12 c13 c20 c21 c22 c23 i [encS s,encS t] 2 j) (X:=fun v=>x5 [q1,q2] v s00 s01 s02 s03 s10 s11 s12 s13 s20 s21 s22 s23 m0 m1 m2 m3 m4 o0 o1 o2 0 c g c00 c01 c02 c03 c10 c11 c12 c13 c20 c21 c22 c23 i [encS s,encS t] 2 2 false) (fun _=>rfl) (fun _ _=>rfl) (fun n=>by kernel_rfl) (fun n=>by kernel_rfl) (fun n=>by kernel_rfl) (fun n=>by kernel_rfl) (fun v n=>by kernel_rfl)
theorem yf3 (m:List PV) (K:List PV→Prop):yag m 0 K=K m:=rfl
theorem ysS {s t:Sp} (h:(neS s||neS t)=false):fl2 s t=[]:=by
 simp only [qB7] at h
 unfold fl2
 rw [h.1,h.2]
 rfl
theorem yQC (hs:neS ⟨s00,s01,s02,s03⟩=true) {m:List PV} (hM:∀ K,yao ((fl2 ⟨s00,s01,s02,s03⟩ ⟨c00,c01,c02,c03⟩).map encS) K=K m 0) {x0 x1 x2} (n:Nat) :
  ycg yaw yak yah yao yag x0 x1 x2 (n+1) s00 s01 s02 s03 s10 s11 s12 s13 s20 s21 s22 s23 m0 m1 m2 m3 m4 0 o1 o2 0 c g c00 c01 c02 c03 c10 c11 c12 c13 c20 c21 c22 c23 0=yaF yaw yak yah yao yag x2 n [.data m] s00 s01 s02 s03 s10 s11 s12 s13 s20 s21 s22 s23 m0 m1 m2 m3 m4 0 o1 o2 0 c g c00 c01 c02 c03 c10 c11 c12 c13 c20 c21 c22 c23 1:=by
 unfold ycg
 dsimp only [lt,Go.Pf.jn]
 rw [cbT (by decide),cbT (show (0:Int)=0 from rfl),cbT (show (0:Int)=0 from rfl),cbT (show (0:Int)=0 from rfl)]
 refine (in0 ⟨s00,s01,s02,s03⟩ ⟨c00,c01,c02,c03⟩ c g _ _ _ _ _ _ _ _ _ _ _ _ _ _ _ _ _ _ _ _ _ _ _ _ _ _ _ _ _ _ _ _ _  hs).trans ?_
 iterate 2 refine (asTT (by first | exact decide_eq_true (by omega) | rfl)).trans ?_
 rw [qAw,hM,yf3]
 rfl
theorem yQD (hs:neS ⟨s10,s11,s12,s13⟩=true) {m:List PV} (hM:∀ K,yao ((fl2 ⟨s10,s11,s12,s13⟩ ⟨c00,c01,c02,c03⟩).map encS) K=K m 0) {x0 x1 x2} (n:Nat) :
  ycg yaw yak yah yao yag x0 x1 x2 (n+1) s00 s01 s02 s03 s10 s11 s12 s13 s20 s21 s22 s23 m0 m1 m2 m3 m4 1 o1 o2 0 c g c00 c01 c02 c03 c10 c11 c12 c13 c20 c21 c22 c23 0=yaF yaw yak yah yao yag x2 n [.data m] s00 s01 s02 s03 s10 s11 s12 s13 s20 s21 s22 s23 m0 m1 m2 m3 m4 1 o1 o2 0 c g c00 c01 c02 c03 c10 c11 c12 c13 c20 c21 c22 c23 1:=by
 unfold ycg
 dsimp only [lt,Go.Pf.jn]
 rw [cbT (by decide),cbT (show (0:Int)=0 from rfl),cbF (by decide),cbT (show (1:Int)=1 from rfl),cbT (show (0:Int)=0 from rfl)]
 refine (in0 ⟨s10,s11,s12,s13⟩ ⟨c00,c01,c02,c03⟩ c g _ _ _ _ _ _ _ _ _ _ _ _ _ _ _ _ _ _ _ _ _ _ _ _ _ _ _ _ _ _ _ _ _  hs).trans ?_
 iterate 2 refine (asTT (by first | exact decide_eq_true (by omega) | rfl)).trans ?_
 rw [qAw,hM,yf3]
 rfl
theorem yQE (hs:neS ⟨s20,s21,s22,s23⟩=true) {m:List PV} (hM:∀ K,yao ((fl2 ⟨s20,s21,s22,s23⟩ ⟨c00,c01,c02,c03⟩).map encS) K=K m 0) {x0 x1 x2} (n:Nat) :
  ycg yaw yak yah yao yag x0 x1 x2 (n+1) s00 s01 s02 s03 s10 s11 s12 s13 s20 s21 s22 s23 m0 m1 m2 m3 m4 2 o1 o2 0 c g c00 c01 c02 c03 c10 c11 c12 c13 c20 c21 c22 c23 0=yaF yaw yak yah yao yag x2 n [.data m] s00 s01 s02 s03 s10 s11 s12 s13 s20 s21 s22 s23 m0 m1 m2 m3 m4 2 o1 o2 0 c g c00 c01 c02 c03 c10 c11 c12 c13 c20 c21 c22 c23 1:=by
 unfold ycg
 dsimp only [lt,Go.Pf.jn]
 rw [cbT (by decide),cbT (show (0:Int)=0 from rfl),cbF (by decide),cbF (by decide),cbT (show (2:Int)=2 from rfl),cbT (show (0:Int)=0 from rfl)]
 refine (in0 ⟨s20,s21,s22,s23⟩ ⟨c00,c01,c02,c03⟩ c g _ _ _ _ _ _ _ _ _ _ _ _ _ _ _ _ _ _ _ _ _ _ _ _ _ _ _ _ _ _ _ _ _  hs).trans ?_
 iterate 2 refine (asTT (by first | exact decide_eq_true (by omega) | rfl)).trans ?_
 rw [qAw,hM,yf3]
 rfl
theorem yQF (q1:PV) {m:List PV} (hM:∀ K,yao ((fl2 ⟨s00,s01,s02,s03⟩ ⟨c10,c11,c12,c13⟩).map encS) K=K m 0) {x2} (n:Nat) :
  yaF yaw yak yah yao yag x2 (n+1) [q1] s00 s01 s02 s03 s10 s11 s12 s13 s20 s21 s22 s23 m0 m1 m2 m3 m4 o0 0 o2 0 c g c00 c01 c02 c03 c10 c11 c12 c13 c20 c21 c22 c23 1=yaF yaw yak yah yao yag x2 n [q1,.data m] s00 s01 s02 s03 s10 s11 s12 s13 s20 s21 s22 s23 m0 m1 m2 m3 m4 o0 0 o2 0 c g c00 c01 c02 c03 c10 c11 c12 c13 c20 c21 c22 c23 2:=by
 conv=>lhs;unfold yaF
 dsimp only [lt,Go.Pf.jn]
 rw [cbT (by decide),cbF (by decide),cbT (show (1:Int)=1 from rfl),cbT (show (0:Int)=0 from rfl),cbF (by decide),cbT (show (1:Int)=1 from rfl)]
 refine (asTT rfl).trans ?_
 refine (in4a ⟨s00,s01,s02,s03⟩ ⟨c10,c11,c12,c13⟩ c g _ _ _ _ _ _ _ _ _ _ _ _ _ _ _ _ _ _ _ _ _ _ _ _ _ _ _ _ _ _ _ _ _  q1).trans ?_
 cases hne:(neS ⟨s00,s01,s02,s03⟩||neS ⟨c10,c11,c12,c13⟩) with
 | true =>
  rw [cond_true]
  iterate 2 refine (asTT (by first | exact decide_eq_true (by omega) | rfl)).trans ?_
  rw [qAw,hM,yf3]
  rfl
 | false =>
  rw [ysS hne] at hM
  have hM:∀ K,yao [] K=K m 0:=hM
  rw [cond_false,hM,yf3]
  rfl
theorem yQG (q1:PV) {m:List PV} (hM:∀ K,yao ((fl2 ⟨s10,s11,s12,s13⟩ ⟨c10,c11,c12,c13⟩).map encS) K=K m 0) {x2} (n:Nat) :
  yaF yaw yak yah yao yag x2 (n+1) [q1] s00 s01 s02 s03 s10 s11 s12 s13 s20 s21 s22 s23 m0 m1 m2 m3 m4 o0 1 o2 0 c g c00 c01 c02 c03 c10 c11 c12 c13 c20 c21 c22 c23 1=yaF yaw yak yah yao yag x2 n [q1,.data m] s00 s01 s02 s03 s10 s11 s12 s13 s20 s21 s22 s23 m0 m1 m2 m3 m4 o0 1 o2 0 c g c00 c01 c02 c03 c10 c11 c12 c13 c20 c21 c22 c23 2:=by
 conv=>lhs;unfold yaF
 dsimp only [lt,Go.Pf.jn]
 rw [cbT (by decide),cbF (by decide),cbT (show (1:Int)=1 from rfl),cbF (by decide),cbT (show (1:Int)=1 from rfl),cbF (by decide),cbT (show (1:Int)=1 from rfl)]
 refine (asTT rfl).trans ?_
 refine (in4a ⟨s10,s11,s12,s13⟩ ⟨c10,c11,c12,c13⟩ c g _ _ _ _ _ _ _ _ _ _ _ _ _ _ _ _ _ _ _ _ _ _ _ _ _ _ _ _ _ _ _ _ _  q1).trans ?_
 cases hne:(neS ⟨s10,s11,s12,s13⟩||neS ⟨c10,c11,c12,c13⟩) with
 | true =>
  rw [cond_true]
  iterate 2 refine (asTT (by first | exact decide_eq_true (by omega) | rfl)).trans ?_
  rw [qAw,hM,yf3]
  rfl
 | false =>
  rw [ysS hne] at hM
  have hM:∀ K,yao [] K=K m 0:=hM
  rw [cond_false,hM,yf3]
  rfl
theorem yQH (q1:PV) {m:List PV} (hM:∀ K,yao ((fl2 ⟨s20,s21,s22,s23⟩ ⟨c10,c11,c12,c13⟩).map encS) K=K m 0) {x2} (n:Nat) :
  yaF yaw yak yah yao yag x2 (n+1) [q1] s00 s01 s02 s03 s10 s11 s12 s13 s20 s21 s22 s23 m0 m1 m2 m3 m4 o0 2 o2 0 c g c00 c01 c02 c03 c10 c11 c12 c13 c20 c21 c22 c23 1=yaF yaw yak yah yao yag x2 n [q1,.data m] s00 s01 s02 s03 s10 s11 s12 s13 s20 s21 s22 s23 m0 m1 m2 m3 m4 o0 2 o2 0 c g c00 c01 c02 c03 c10 c11 c12 c13 c20 c21 c22 c23 2:=by
 conv=>lhs;unfold yaF
 dsimp only [lt,Go.Pf.jn]
 rw [cbT (by decide),cbF (by decide),cbT (show (1:Int)=1 from rfl),cbF (by decide),cbF (by decide),cbT (show (2:Int)=2 from rfl),cbF (by decide),cbT (show (1:Int)=1 from rfl)]
 refine (asTT rfl).trans ?_
 refine (in4a ⟨s20,s21,s22,s23⟩ ⟨c10,c11,c12,c13⟩ c g _ _ _ _ _ _ _ _ _ _ _ _ _ _ _ _ _ _ _ _ _ _ _ _ _ _ _ _ _ _ _ _ _  q1).trans ?_
 cases hne:(neS ⟨s20,s21,s22,s23⟩||neS ⟨c10,c11,c12,c13⟩) with
 | true =>
  rw [cond_true]
  iterate 2 refine (asTT (by first | exact decide_eq_true (by omega) | rfl)).trans ?_
  rw [qAw,hM,yf3]
  rfl
 | false =>
  rw [ysS hne] at hM
  have hM:∀ K,yao [] K=K m 0:=hM
  rw [cond_false,hM,yf3]
  rfl
theorem yQI (q1 q2:PV) {m:List PV} (hM:∀ K,yao ((fl2 ⟨s00,s01,s02,s03⟩ ⟨c20,c21,c22,c23⟩).map encS) K=K m 0) {x2} (n:Nat) :
  yaF yaw yak yah yao yag x2 (n+1) [q1,q2] s00 s01 s02 s03 s10 s11 s12 s13 s20 s21 s22 s23 m0 m1 m2 m3 m4 o0 o1 0 0 c g c00 c01 c02 c03 c10 c11 c12 c13 c20 c21 c22 c23 2=yaF yaw yak yah yao yag x2 n [q1,q2,.data m] s00 s01 s02 s03 s10 s11 s12 s13 s20 s21 s22 s23 m0 m1 m2 m3 m4 o0 o1 0 0 c g c00 c01 c02 c03 c10 c11 c12 c13 c20 c21 c22 c23 3:=by
 conv=>lhs;unfold yaF
 dsimp only [lt,Go.Pf.jn]
 rw [cbT (by decide),cbF (by decide),cbF (by decide),cbT (show (2:Int)=2 from rfl),cbT (show (0:Int)=0 from rfl),cbF (by decide),cbF (by decide),cbT (show (2:Int)=2 from rfl)]
 refine (asTT rfl).trans ?_
 refine (in4b ⟨s00,s01,s02,s03⟩ ⟨c20,c21,c22,c23⟩ c g _ _ _ _ _ _ _ _ _ _ _ _ _ _ _ _ _ _ _ _ _ _ _ _ _ _ _ _ _ _ _ _ _  q1 q2).trans ?_
 cases hne:(neS ⟨s00,s01,s02,s03⟩||neS ⟨c20,c21,c22,c23⟩) with
 | true =>
  rw [cond_true]
  iterate 2 refine (asTT (by first | exact decide_eq_true (by omega) | rfl)).trans ?_
  rw [qAw,hM,yf3]
  rfl
 | false =>
  rw [ysS hne] at hM
  have hM:∀ K,yao [] K=K m 0:=hM
  rw [cond_false,hM,yf3]
  rfl
theorem yQJ (q1 q2:PV) {m:List PV} (hM:∀ K,yao ((fl2 ⟨s10,s11,s12,s13⟩ ⟨c20,c21,c22,c23⟩).map encS) K=K m 0) {x2} (n:Nat) :
  yaF yaw yak yah yao yag x2 (n+1) [q1,q2] s00 s01 s02 s03 s10 s11 s12 s13 s20 s21 s22 s23 m0 m1 m2 m3 m4 o0 o1 1 0 c g c00 c01 c02 c03 c10 c11 c12 c13 c20 c21 c22 c23 2=yaF yaw yak yah yao yag x2 n [q1,q2,.data m] s00 s01 s02 s03 s10 s11 s12 s13 s20 s21 s22 s23 m0 m1 m2 m3 m4 o0 o1 1 0 c g c00 c01 c02 c03 c10 c11 c12 c13 c20 c21 c22 c23 3:=by
 conv=>lhs;unfold yaF
 dsimp only [lt,Go.Pf.jn]
 rw [cbT (by decide),cbF (by decide),cbF (by decide),cbT (show (2:Int)=2 from rfl),cbF (by decide),cbT (show (1:Int)=1 from rfl),cbF (by decide),cbF (by decide),cbT (show (2:Int)=2 from rfl)]
 refine (asTT rfl).trans ?_
 refine (in4b ⟨s10,s11,s12,s13⟩ ⟨c20,c21,c22,c23⟩ c g _ _ _ _ _ _ _ _ _ _ _ _ _ _ _ _ _ _ _ _ _ _ _ _ _ _ _ _ _ _ _ _ _  q1 q2).trans ?_
 cases hne:(neS ⟨s10,s11,s12,s13⟩||neS ⟨c20,c21,c22,c23⟩) with
 | true =>
  rw [cond_true]
  iterate 2 refine (asTT (by first | exact decide_eq_true (by omega) | rfl)).trans ?_
  rw [qAw,hM,yf3]
  rfl
 | false =>
  rw [ysS hne] at hM
  have hM:∀ K,yao [] K=K m 0:=hM
  rw [cond_false,hM,yf3]
  rfl
theorem yQK (q1 q2:PV) {m:List PV} (hM:∀ K,yao ((fl2 ⟨s20,s21,s22,s23⟩ ⟨c20,c21,c22,c23⟩).map encS) K=K m 0) {x2} (n:Nat) :
  yaF yaw yak yah yao yag x2 (n+1) [q1,q2] s00 s01 s02 s03 s10 s11 s12 s13 s20 s21 s22 s23 m0 m1 m2 m3 m4 o0 o1 2 0 c g c00 c01 c02 c03 c10 c11 c12 c13 c20 c21 c22 c23 2=yaF yaw yak yah yao yag x2 n [q1,q2,.data m] s00 s01 s02 s03 s10 s11 s12 s13 s20 s21 s22 s23 m0 m1 m2 m3 m4 o0 o1 2 0 c g c00 c01 c02 c03 c10 c11 c12 c13 c20 c21 c22 c23 3:=by
 conv=>lhs;unfold yaF
 dsimp only [lt,Go.Pf.jn]
 rw [cbT (by decide),cbF (by decide),cbF (by decide),cbT (show (2:Int)=2 from rfl),cbF (by decide),cbF (by decide),cbT (show (2:Int)=2 from rfl),cbF (by decide),cbF (by decide),cbT (show (2:Int)=2 from rfl)]
 refine (asTT rfl).trans ?_
 refine (in4b ⟨s20,s21,s22,s23⟩ ⟨c20,c21,c22,c23⟩ c g _ _ _ _ _ _ _ _ _ _ _ _ _ _ _ _ _ _ _ _ _ _ _ _ _ _ _ _ _ _ _ _ _  q1 q2).trans ?_
 cases hne:(neS ⟨s20,s21,s22,s23⟩||neS ⟨c20,c21,c22,c23⟩) with
 | true =>
  rw [cond_true]
  iterate 2 refine (asTT (by first | exact decide_eq_true (by omega) | rfl)).trans ?_
  rw [qAw,hM,yf3]
  rfl
 | false =>
  rw [ysS hne] at hM
  have hM:∀ K,yao [] K=K m 0:=hM
  rw [cond_false,hM,yf3]
  rfl
end
set_option maxHeartbeats 1000000
def selS (a b c:Sp) (k:Nat):Sp:=if k=0 then a else if k=1 then b else c
section
variable (c g:List PV) (s00 s01 s02 s03 s10 s11 s12 s13 s20 s21 s22 s23 c00 c01 c02 c03 c10 c11 c12 c13 c20 c21 c22 c23 m0 m1 m2 m3 m4 o0 o1 o2:Int)
theorem rnd0 {k:Nat} (hk:k<3) (hs:neS (selS ⟨s00,s01,s02,s03⟩ ⟨s10,s11,s12,s13⟩ ⟨s20,s21,s22,s23⟩ k)=true) {m:List PV} (hM:∀ K,yao ((fl2 (selS ⟨s00,s01,s02,s03⟩ ⟨s10,s11,s12,s13⟩ ⟨s20,s21,s22,s23⟩ k) ⟨c00,c01,c02,c03⟩).map encS) K=K m 0) {x0 x1 x2} (n:Nat) :
  ycg yaw yak yah yao yag x0 x1 x2 (n+1) s00 s01 s02 s03 s10 s11 s12 s13 s20 s21 s22 s23 m0 m1 m2 m3 m4 (k:Int) o1 o2 0 c g c00 c01 c02 c03 c10 c11 c12 c13 c20 c21 c22 c23 0=yaF yaw yak yah yao yag x2 n [.data m] s00 s01 s02 s03 s10 s11 s12 s13 s20 s21 s22 s23 m0 m1 m2 m3 m4 (k:Int) o1 o2 0 c g c00 c01 c02 c03 c10 c11 c12 c13 c20 c21 c22 c23 1:=by
 obtain rfl | rfl | rfl:k=0∨k=1∨k=2:=by omega
 ·exact yQC (hs:=hs) (hM:=hM) ..
 ·exact yQD (hs:=hs) (hM:=hM) ..
 ·exact yQE (hs:=hs) (hM:=hM) ..
theorem rnd1 (q1:PV) {k:Nat} (hk:k<3) {m:List PV} (hM:∀ K,yao ((fl2 (selS ⟨s00,s01,s02,s03⟩ ⟨s10,s11,s12,s13⟩ ⟨s20,s21,s22,s23⟩ k) ⟨c10,c11,c12,c13⟩).map encS) K=K m 0) {x2} (n:Nat) :
  yaF yaw yak yah yao yag x2 (n+1) [q1] s00 s01 s02 s03 s10 s11 s12 s13 s20 s21 s22 s23 m0 m1 m2 m3 m4 o0 (k:Int) o2 0 c g c00 c01 c02 c03 c10 c11 c12 c13 c20 c21 c22 c23 1=yaF yaw yak yah yao yag x2 n [q1,.data m] s00 s01 s02 s03 s10 s11 s12 s13 s20 s21 s22 s23 m0 m1 m2 m3 m4 o0 (k:Int) o2 0 c g c00 c01 c02 c03 c10 c11 c12 c13 c20 c21 c22 c23 2:=by
 obtain rfl | rfl | rfl:k=0∨k=1∨k=2:=by omega
 ·exact yQF (hM:=hM) ..
 ·exact yQG (hM:=hM) ..
 ·exact yQH (hM:=hM) ..
theorem rnd2 (q1 q2:PV) {k:Nat} (hk:k<3) {m:List PV} (hM:∀ K,yao ((fl2 (selS ⟨s00,s01,s02,s03⟩ ⟨s10,s11,s12,s13⟩ ⟨s20,s21,s22,s23⟩ k) ⟨c20,c21,c22,c23⟩).map encS) K=K m 0) {x2} (n:Nat) :
  yaF yaw yak yah yao yag x2 (n+1) [q1,q2] s00 s01 s02 s03 s10 s11 s12 s13 s20 s21 s22 s23 m0 m1 m2 m3 m4 o0 o1 (k:Int) 0 c g c00 c01 c02 c03 c10 c11 c12 c13 c20 c21 c22 c23 2=yaF yaw yak yah yao yag x2 n [q1,q2,.data m] s00 s01 s02 s03 s10 s11 s12 s13 s20 s21 s22 s23 m0 m1 m2 m3 m4 o0 o1 (k:Int) 0 c g c00 c01 c02 c03 c10 c11 c12 c13 c20 c21 c22 c23 3:=by
 obtain rfl | rfl | rfl:k=0∨k=1∨k=2:=by omega
 ·exact yQI (hM:=hM) ..
 ·exact yQJ (hM:=hM) ..
 ·exact yQK (hM:=hM) ..
theorem rnd3 (q1 q2 q3:PV) {x2} (n:Nat):yaF yaw yak yah yao yag x2 (n+1) [q1,q2,q3] s00 s01 s02 s03 s10 s11 s12 s13 s20 s21 s22 s23 m0 m1 m2 m3 m4 o0 o1 o2 0 c g c00 c01 c02 c03 c10 c11 c12 c13 c20 c21 c22 c23 3=x2 [q1,q2,q3] s00 s01 s02 s03 s10 s11 s12 s13 s20 s21 s22 s23 m0 m1 m2 m3 m4 o0 o1 o2 0 c g c00 c01 c02 c03 c10 c11 c12 c13 c20 c21 c22 c23 3 false:=by kernel_rfl
theorem rnds {a b d:Nat} (ha:a<3) (hb:b<3) (hd:d<3) (hs:neS (selS ⟨s00,s01,s02,s03⟩ ⟨s10,s11,s12,s13⟩ ⟨s20,s21,s22,s23⟩ a)=true) {u v w:List PV} (hu:∀ K,yao ((fl2 (selS ⟨s00,s01,s02,s03⟩ ⟨s10,s11,s12,s13⟩ ⟨s20,s21,s22,s23⟩ a) ⟨c00,c01,c02,c03⟩).map encS) K=K u 0) (hv:∀ K,yao ((fl2 (selS ⟨s00,s01,s02,s03⟩ ⟨s10,s11,s12,s13⟩ ⟨s20,s21,s22,s23⟩ b) ⟨c10,c11,c12,c13⟩).map encS) K=K v 0) (hw:∀ K,yao ((fl2 (selS ⟨s00,s01,s02,s03⟩ ⟨s10,s11,s12,s13⟩ ⟨s20,s21,s22,s23⟩ d) ⟨c20,c21,c22,c23⟩).map encS) K=K w 0) {x0 x1 x2} :
  (∃ n,ycg yaw yak yah yao yag x0 x1 x2 n s00 s01 s02 s03 s10 s11 s12 s13 s20 s21 s22 s23 m0 m1 m2 m3 m4 (a:Int) (b:Int) (d:Int) 0 c g c00 c01 c02 c03 c10 c11 c12 c13 c20 c21 c22 c23 0)=x2 [.data u,.data v,.data w] s00 s01 s02 s03 s10 s11 s12 s13 s20 s21 s22 s23 m0 m1 m2 m3 m4 (a:Int) (b:Int) (d:Int) 0 c g c00 c01 c02 c03 c10 c11 c12 c13 c20 c21 c22 c23 3 false:=by
 rw [exS3 rfl (fun n=>rnd0 (hk:=ha) (hs:=hs) (hM:=hu) (n:=n) ..),exS3 rfl (fun n=>rnd1 (hk:=hb) (hM:=hv) (n:=n) ..),exS3 rfl (fun n=>rnd2 (hk:=hd) (hM:=hw) (n:=n) ..),exS3 rfl (fun n=>rnd3 (n:=n) ..),exC3]
end
section
variable {l:List Ck}
theorem yOp (hd:DK l) (h3:l.length=3) (K:Int→Prop):yaw (cks l) [] K=K 0:=by
 unfold yaw yjZ
 have h:∀ K,ybU (cks l) [] K=K (yjv l 0):=fun K=>yln (lg:=[]) hd.fin (by omega) K
 rw [h,hd.err (by decide),cnF rfl,ybC,h3]
 rfl
def ag3 (l:List Ck) (i:Nat):Nat:=if i=0 then o0 l else if i=1 then o1 l else o2 l
def neR (s:RS):Bool:=!decide (s.1=s.2)
def L3 (l:List Ck) (i:Nat):List RS:=(bif neR (s3 l (ag3 l i)) then [s3 l (ag3 l i)] else [])++(bif tr3 l&&neR (cr3 l i) then [cr3 l i] else [])
theorem yGO (s:RS):neS (spOf s)=neR s:=by
 unfold neS neR
 rw [← yOP]
 rfl
theorem yPA (s t:RS):(fl2 (spOf s) (spOf t)).map encS=rsp ((bif neR s then [s] else [])++(bif neR t then [t] else [])):=by
 unfold fl2
 rw [yGO,yGO]
 cases neR s <;> cases neR t <;> rfl
theorem yQL (s:RS):(fl2 (spOf s) ⟨0,0,0,0⟩).map encS=rsp ((bif neR s then [s] else [])++[]):=by
 unfold fl2
 rw [yGO]
 cases neR s <;> rfl
end
set_option maxHeartbeats 1000000
section
variable {l:List Ck}
theorem yQM (l:List Ck):o0 l=3-o1 l-o2 l:=by unfold o0;rfl
theorem yn9 (l:List Ck):o0 l<3∧o0 l≠o1 l∧o0 l≠o2 l:=by
 have h1:=yp1 l
 have h2:=yxD l
 have e:=yQM l
 omega
theorem o1_p {l:List Ck} (h:tr3 l=true):o1 l=p3 l∨o2 l=p3 l:=by
 by_cases e:p3 l=o2 l
 ·exact .inr e.symm
 ·left
  rw [yFa,h,decide_eq_false e]
  rfl
theorem yOS (l:List Ck):s3 l (o0 l)=(P3 l).getD (o0 l) (0,0):=by
 have h0:=yn9 l
 rw [yjw h0.1]
 cases h:tr3 l with
 | false=>rfl
 | true =>
  have:o0 l≠p3 l:=by
   rcases o1_p h with e | e
   ·rw [← e];exact h0.2.1
   ·rw [← e];exact h0.2.2
  rw [decide_eq_false this]
  rfl
theorem yQN (hd:DK l) (h3:l.length=3) {i:Nat} (hi:i<3):((P3 l).getD i (0,0)).1<((P3 l).getD i (0,0)).2:=by
 obtain ⟨D,g⟩:=g3 hd h3
 obtain rfl | rfl | rfl:i=0∨i=1∨i=2:=by omega
 ·exact g.a0
 ·exact g.ab
 ·exact g.bl
theorem yQO (l:List Ck) (a:Nat):∃ j,j<3∧cr3 l a=k3 l j:=by
 obtain ⟨j0,j1,_⟩:=yxF l
 have hk:=yAP l
 have hl:∀ i,i<2→lf3 l i<3:=fun i hi=>by
  obtain rfl | rfl:i=0∨i=1:=by omega
  ·exact j0
  ·exact j1
 unfold cr3
 split
 ·exact ⟨_,yxE l,rfl⟩
 ·split
  ·exact ⟨_,hl _ hk,rfl⟩
  ·exact ⟨_,hl _ (by omega),rfl⟩
theorem ymw (l:List Ck) (i:Nat):ag3 l i<3:=by
 unfold ag3
 split
 ·exact (yn9 l).1
 ·split
  ·exact (yp1 l).1
  ·exact yxD l
theorem yKB (hd:DK l) (h3:l.length=3) (i:Nat):(∀ s∈L3 l i,ycb s∧s.1<s.2)∧(L3 l i).length≤60:=by
 obtain ⟨D,_,hV⟩:=S3VQ hd h3
 obtain ⟨D',X⟩:=yt7 hd h3
 obtain ⟨j,hj,ej⟩:=yQO l i
 have a:=(hV _ (ymw l i)).1
 have b:=(X.vq j hj).1
 rw [← ej] at b
 have lt:∀ {s:RS},VQ l s→neR s=true→s.1<s.2:=fun {s} h k=>by
  unfold neR at k
  have:s.1≠s.2:=by simpa using k
  have:=h.le
  grind
 have hA:∀ s∈(bif neR (s3 l (ag3 l i)) then [s3 l (ag3 l i)] else []),ycb s∧s.1<s.2:=fun s hs=>by
  cases e:neR (s3 l (ag3 l i)) with
  | true =>
   rw [e,cond_true,qAv] at hs
   subst hs
   exact ⟨⟨a.s1,a.s2⟩,lt a e⟩
  | false=>rw [e] at hs;cases hs
 have hB:∀ s∈(bif tr3 l&&neR (cr3 l i) then [cr3 l i] else []),ycb s∧s.1<s.2:=fun s hs=>by
  cases e:(tr3 l&&neR (cr3 l i)) with
  | true =>
   rw [e,cond_true,qAv] at hs
   subst hs
   simp only [qAb] at e
   exact ⟨⟨b.s1,b.s2⟩,lt b e.2⟩
  | false=>rw [e] at hs;cases hs
 refine ⟨fun s hs=>?_,?_⟩
 ·unfold L3 at hs
  rcases qAy.1 hs with h | h
  ·exact hA s h
  ·exact hB s h
 ·unfold L3
  rw [qAi]
  have h1:(bif neR (s3 l (ag3 l i)) then [s3 l (ag3 l i)] else []).length≤1:=by cases neR (s3 l (ag3 l i)) <;> simp
  have h2:(bif tr3 l&&neR (cr3 l i) then [cr3 l i] else []).length≤1:=by cases (tr3 l&&neR (cr3 l i)) <;> simp
  omega
def logR (l:List Ck):List Qy:=log3 l++(bif tr3 l then yDb l else [])
structure M3 (l:List Ck) (M:Nat→List RS):Prop where
 pc:∀ i,Pc (M i)
 mem:∀ i p,memP (M i) p↔memP (L3 l i) p
theorem run3 (hd:DK l) (h3:l.length=3):∃ M,M3 l M∧∀ K,yf2 (cks l) K=K (rspL [M 0,M 1,M 2]) (s3 l 0).1.num (s3 l 0).1.den (s3 l 0).2.num (s3 l 0).2.den (s3 l 1).1.num (s3 l 1).1.den (s3 l 1).2.num (s3 l 1).2.den (s3 l 2).1.num (s3 l 2).1.den (s3 l 2).2.num (s3 l 2).2.den (pc3 l) (bif tr3 l then (fr3 l).num else 0) (bif tr3 l then ((fr3 l).den:Int) else 0) (bif tr3 l then (c3 l).num else 0) (bif tr3 l then ((c3 l).den:Int) else 0) (o0 l:Int) (o1 l:Int) (o2 l:Int) (logs (logR l)) 0:=by
 have hM0:=fun i=>yOh (fun s hs=>((yKB hd h3 i).1 s hs).1) (fun s hs=>((yKB hd h3 i).1 s hs).2) (yKB hd h3 i).2
 obtain ⟨M,hM⟩:∃ M:Nat→List RS,∀ i,Pc (M i)∧(∀ p,memP (M i) p↔memP (L3 l i) p)∧∀ K,yao (rsp (L3 l i)) K=K (rsp (M i)) 0:=⟨fun i=>(hM0 i).choose,fun i=>(hM0 i).choose_spec⟩
 refine ⟨M,⟨fun i=>(hM i).1,fun i=>(hM i).2.1⟩,fun K=>?_⟩
 have mk:=fun i=>(hM i).2.2
 have sel:∀ k,k<3→selS ⟨(s3 l 0).1.num,(s3 l 0).1.den,(s3 l 0).2.num,(s3 l 0).2.den⟩ ⟨(s3 l 1).1.num,(s3 l 1).1.den,(s3 l 1).2.num,(s3 l 1).2.den⟩ ⟨(s3 l 2).1.num,(s3 l 2).1.den,(s3 l 2).2.num,(s3 l 2).2.den⟩ k=spOf (s3 l k):=fun k hk=>by
  obtain rfl | rfl | rfl:k=0∨k=1∨k=2:=by omega
  all_goals rfl
 have hne:neS (selS ⟨(s3 l 0).1.num,(s3 l 0).1.den,(s3 l 0).2.num,(s3 l 0).2.den⟩ ⟨(s3 l 1).1.num,(s3 l 1).1.den,(s3 l 1).2.num,(s3 l 1).2.den⟩ ⟨(s3 l 2).1.num,(s3 l 2).1.den,(s3 l 2).2.num,(s3 l 2).2.den⟩ (o0 l))=true:=by
  rw [sel _ (yn9 l).1,yGO,yOS]
  have:=yQN hd h3 (yn9 l).1
  unfold neR
  rw [decide_eq_false (by grind)]
  rfl
 have f:∀ K,yak (cks l) [] K=_:=fun K=>yPz hd h3 (lg:=[]) (by decide) K
 unfold yf2 yn4
 dsimp only [lt,Go.Pf.jn]
 rw [yOp hd h3,cnF rfl,f]
 cases htr:tr3 l with
 | true =>
  have hpc:pc3 l=(p3 l:Int):=by unfold pc3;rw [htr];rfl
  have mk':∀ i K,yao ((fl2 (selS ⟨(s3 l 0).1.num,(s3 l 0).1.den,(s3 l 0).2.num,(s3 l 0).2.den⟩ ⟨(s3 l 1).1.num,(s3 l 1).1.den,(s3 l 1).2.num,(s3 l 1).2.den⟩ ⟨(s3 l 2).1.num,(s3 l 2).1.den,(s3 l 2).2.num,(s3 l 2).2.den⟩ (ag3 l i)) (spOf (cr3 l i))).map encS) K=K (rsp (M i)) 0:=fun i K=>by
   rw [sel _ (ymw l i),yPA]
   have:=mk i K
   unfold L3 at this
   rw [htr,qAz] at this
   exact this
  rw [hpc]
  simp only [cond_true]
  rw [cbT (by omega)]
  rw [yOo hd h3 (lg:=[]++log3 l) (by unfold log3 yhN yFb;rw [htr];simp only [qAi,qAt,List.length_nil,cond_true];omega)]
  rw [rnds (ha:=(yn9 l).1) (hb:=(yp1 l).1) (hd:=yxD l) (hs:=hne) (hu:=mk' 0) (hv:=mk' 1) (hw:=mk' 2)]
  have eG:[]++log3 l++yDb l=logR l:=by unfold logR;rw [htr];rfl
  rw [eG]
  rfl
 | false =>
  have hpc:pc3 l=-1:=by unfold pc3;rw [htr];rfl
  have mk':∀ i K,yao ((fl2 (selS ⟨(s3 l 0).1.num,(s3 l 0).1.den,(s3 l 0).2.num,(s3 l 0).2.den⟩ ⟨(s3 l 1).1.num,(s3 l 1).1.den,(s3 l 1).2.num,(s3 l 1).2.den⟩ ⟨(s3 l 2).1.num,(s3 l 2).1.den,(s3 l 2).2.num,(s3 l 2).2.den⟩ (ag3 l i)) ⟨0,0,0,0⟩).map encS) K=K (rsp (M i)) 0:=fun i K=>by
   rw [sel _ (ymw l i),yQL]
   have:=mk i K
   unfold L3 at this
   rw [htr,qBb] at this
   exact this
  rw [hpc]
  simp only [cond_false]
  rw [cbF (by decide)]
  rw [rnds (ha:=(yn9 l).1) (hb:=(yp1 l).1) (hd:=yxD l) (hs:=hne) (hu:=mk' 0) (hv:=mk' 1) (hw:=mk' 2)]
  have eG:[]++log3 l=logR l:=by unfold logR;rw [htr];exact (qB3 _).symm
  rw [eG]
  rfl
end
section
variable {l:List Ck}
theorem yDc (hd:DK l) (h3:l.length=3) {i:Nat} (hi:i<3):vS l 0 ((P3 l).getD i (0,0))=totR l 0 / 3:=by
 obtain ⟨D,g⟩:=g3 hd h3
 have a:=g.mA.eqv
 have b:=g.mB.eqv
 have eA:A3 l=mkV l 0 0 (totR l 0*r13):=by unfold A3;rfl
 have eB:B3 l=mkV l 0 0 (totR l 0*r23):=by unfold B3;rfl
 have t:=tot3 hd (show 0<l.length by omega)
 rw [← eA,r13e] at a
 rw [← eB,r23e] at b
 obtain rfl | rfl | rfl:i=0∨i=1∨i=2:=by omega
 ·show vXA l 0 (A3 l)-vXA l 0 0=_
  rw [a];grind
 ·show vXA l 0 (B3 l)-vXA l 0 (A3 l)=_
  rw [a,b];grind
 ·show vXA l 0 (lenR l)-vXA l 0 (B3 l)=_
  rw [b];grind
theorem yPB (hd:DK l) (h3:l.length=3):vXA l 1 (c3 l)=vXA l 1 (fr3 l)+off3 l:=by
 obtain ⟨D,C⟩:=cut3 hd h3
 obtain ⟨E,_,m⟩:=C.m
 rw [yC8]
 exact m.eqv
theorem yNq (hd:DK l) (h3:l.length=3) {i:Nat} (hi:i<3):(vs3 l).getD i 0=vS l 1 (s3 l i):=by
 have hp:=ymv l
 have hl:(vv3 l).length=3:=rfl
 rw [yjw hi]
 unfold vs3
 cases tr3 l with
 | false=>rw [cond_false,qBb,cond_false];exact yC9 hi
 | true =>
  rw [cond_true,qAz]
  by_cases e:i=p3 l
  ·subst e
   rw [decide_eq_true rfl,cond_true,qAa,qBi (by omega)]
   have c:=yPB hd h3
   have o:=ysR l
   have f:=yfa l
   have v:=yC9 (l:=l) hp
   show (vv3 l).getD (q3 l) 0=vXA l 1 ((P3 l).getD (p3 l) (0,0)).2-vXA l 1 (c3 l)
   have v:(vv3 l).getD (p3 l) 0=vXA l 1 ((P3 l).getD (p3 l) (0,0)).2-vXA l 1 ((P3 l).getD (p3 l) (0,0)).1:=v
   rw [← f] at v
   grind
  ·rw [decide_eq_false e,cond_false,qAa,qA8 (fun h=>e h.symm),← qAa]
   exact yC9 hi
theorem yOq (l:List Ck):tr3 l=true↔(vv3 l).getD (p3 l) 0≠(vv3 l).getD (q3 l) 0:=by
 rw [yNo];simp
theorem yKC (l:List Ck):(vs3 l).getD (q3 l) 0=(vv3 l).getD (q3 l) 0∧(vs3 l).getD (p3 l) 0=(vv3 l).getD (q3 l) 0:=by
 have hp:=ymv l
 have hq:=yGN l
 have hl:(vv3 l).length=3:=rfl
 unfold vs3
 cases h:tr3 l with
 | false =>
  have:¬(vv3 l).getD (p3 l) 0≠(vv3 l).getD (q3 l) 0:=fun k=>by rw [(yOq l).2 k] at h;cases h
  rw [cond_false]
  exact ⟨rfl,by simpa using this⟩
 | true =>
  rw [cond_true]
  refine ⟨?_,?_⟩
  ·rw [qAa,qA8 (fun h=>hq.2 h.symm),← qAa]
  ·rw [qAa,qBi (by omega)];rfl
theorem yOr (l:List Ck) {i:Nat} (hi:i<3):(vs3 l).getD i 0≤(vv3 l).getD (q3 l) 0:=by
 have hl:(vv3 l).length=3:=rfl
 by_cases e:i=p3 l
 ·rw [e,(yKC l).2];exact qAr
 ·have h:(vs3 l).getD i 0=(vv3 l).getD i 0:=by
   unfold vs3
   cases tr3 l with
   | false=>rfl
   | true=>rw [cond_true,qAa,qA8 (fun h=>e h.symm),← qAa]
  rw [h]
  exact yPy l hi e
theorem yOs (hd:DK l) (h3:l.length=3) {i:Nat} (hi:i<3):vS l 1 (s3 l i)≤vS l 1 (s3 l (o1 l)):=by
 have h1:=yp1 l
 have h2:=yxD l
 have hp:=ymv l
 have hq:=yGN l
 rw [← yNq hd h3 hi,← yNq hd h3 h1.1]
 refine qBm (yOr l hi) ?_
 rw [yFa]
 cases hb:(tr3 l&&!decide (p3 l=o2 l)) with
 | true=>rw [cond_true,(yKC l).2];exact qAr
 | false =>
  rw [cond_false]
  have mx:∀ j,j<3→j≠o2 l→(vs3 l).getD j 0≤(vs3 l).getD (pkO (vs3 l) (o2 l)) 0:=fun j hj hne=>yKz _ h2 hj hne
  by_cases e:p3 l=o2 l
  ·rw [← (yKC l).1]
   exact mx _ hq.1 (by rw [← e];exact hq.2)
  ·rw [← (yKC l).2]
   exact mx _ hp e
theorem yOT {i:Nat} (hi:i<3):(ww3 l).getD i 0=vS l 2 (s3 l i):=by
 unfold ww3
 rw [yAO]
 obtain rfl | rfl | rfl:i=0∨i=1∨i=2:=by omega
 all_goals rfl
theorem yOt {i:Nat} (hi:i<3):vS l 2 (s3 l i)≤vS l 2 (s3 l (o2 l)):=by
 rw [← yOT hi,← yOT (yxD l)]
 unfold o2
 exact yJo _ hi
theorem yNr (hd:DK l) (h3:l.length=3):vS l 0 (s3 l (o0 l))=totR l 0 / 3:=by
 rw [yOS]
 exact yDc hd h3 (yn9 l).1
theorem yDd (hd:DK l) (h3:l.length=3) {i:Nat} (hi:i<3):vS l 0 (s3 l i)+(bif tr3 l&&decide (i=p3 l) then vS l 0 (fr3 l,c3 l) else 0)=totR l 0 / 3:=by
 rw [yjw hi]
 cases hb:(tr3 l&&decide (i=p3 l)) with
 | false=>rw [cond_false,cond_false,yDc hd h3 hi];grind
 | true =>
  rw [cond_true,cond_true]
  have t:=yDc hd h3 (ymv l)
  have f:=yfa l
  have t:vXA l 0 ((P3 l).getD (p3 l) (0,0)).2-vXA l 0 ((P3 l).getD (p3 l) (0,0)).1=totR l 0 / 3:=t
  rw [← f] at t
  show vXA l 0 ((P3 l).getD (p3 l) (0,0)).2-vXA l 0 (c3 l)+(vXA l 0 (c3 l)-vXA l 0 (fr3 l))=_
  grind
end
theorem yQP {s c:RS} (hs:s.1<s.2) (hc:c.1<c.2) (hd:s.2≤c.1∨c.2≤s.1):∃ m:List RS,yfd m∧(∀ p,memP m p↔memP [s,c] p)∧m.length≤2∧(∀ P:Rat→Prop,P s.1→P s.2→P c.1→P c.2→∀ x∈m,P x.1∧P x.2)∧∀ V:Rat→Rat,sumV (dV V) m=dV V s+dV V c:=by
 have key:∀ {s c:RS},s.1<s.2→c.1<c.2→s.2≤c.1→∃ m:List RS,yfd m∧(∀ p,memP m p↔memP [s,c] p)∧m.length≤2∧(∀ P:Rat→Prop,P s.1→P s.2→P c.1→P c.2→∀ x∈m,P x.1∧P x.2)∧∀ V:Rat→Rat,sumV (dV V) m=dV V s+dV V c:=by
  intro s c hs hc h
  by_cases e:s.2=c.1
  ·refine ⟨[(s.1,c.2)],⟨by show s.1<c.2;grind,fun t ht=>(by cases ht),trivial⟩,fun p=>?_,by simp,fun P p1 p2 p3 p4 x hx=>?_,fun V=>?_⟩
   ·unfold memP inS
    simp only [qAk,qCb,or_false,exists_eq_or_imp,exists_eq_left]
    grind
   ·rw [qAv] at hx
    subst hx
    exact ⟨p1,p4⟩
   ·show (V c.2-V s.1)+0=(V s.2-V s.1)+(V c.2-V c.1)
    rw [e];grind
  ·refine ⟨[s,c],⟨hs,fun t ht=>?_,hc,fun t ht=>(by cases ht),trivial⟩,fun p=>Iff.rfl,by simp,fun P p1 p2 p3 p4 x hx=>?_,fun V=>?_⟩
   ·rw [qAv] at ht
    subst ht
    grind
   ·simp only [qAk,qCb,or_false] at hx
    rcases hx with rfl | rfl
    ·exact ⟨p1,p2⟩
    ·exact ⟨p3,p4⟩
   ·show dV V s+(dV V c+0)=_
    grind
 rcases hd with h | h
 ·exact key hs hc h
 ·obtain ⟨m,h1,h2,h3,h4,h5⟩:=key hc hs h
  refine ⟨m,h1,fun p=>(h2 p).trans ?_,h3,fun P p1 p2 p3 p4=>h4 P p3 p4 p1 p2,fun V=>by rw [h5];grind⟩
  unfold memP inS
  simp only [qAk,qCb,or_false,exists_eq_or_imp,exists_eq_left]
  grind
section
variable {l:List Ck}
def ci3 (l:List Ck) (a:Nat):Nat:=if a=had3 l then one3 l else if a=0 then lf3 l (kk3 l) else lf3 l (1-kk3 l)
theorem yoa (l:List Ck) (a:Nat):cr3 l a=k3 l (ci3 l a):=by
 unfold cr3 ci3
 split
 ·rfl
 ·split
  ·rfl
  ·rfl
theorem yNs (l:List Ck):lf3 l (kk3 l)<3∧lf3 l (1-kk3 l)<3∧lf3 l (kk3 l)≠one3 l∧lf3 l (1-kk3 l)≠one3 l∧lf3 l (kk3 l)≠lf3 l (1-kk3 l):=by
 obtain ⟨a,b,c,d,e⟩:=yxF l
 have h:=yAP l
 obtain k | k:kk3 l=0∨kk3 l=1:=by omega
 ·rw [k];exact ⟨a,b,c,d,e⟩
 ·rw [k];exact ⟨b,a,d,c,fun h=>e h.symm⟩
theorem ymx (l:List Ck) (a:Nat):ci3 l a<3:=by
 have h:=yNs l
 unfold ci3
 split
 ·exact yxE l
 ·split
  ·exact h.1
  ·exact h.2.1
theorem yAQ (l:List Ck) {a b:Nat} (ha:a<3) (hb:b<3) (h:a≠b):ci3 l a≠ci3 l b:=by
 obtain ⟨_,_,h1,h2,h3⟩:=yNs l
 have hh:had3 l=1∨had3 l=2:=by rcases ykl l with h | h <;> omega
 unfold ci3
 generalize one3 l=x at *
 generalize lf3 l (kk3 l)=y at *
 generalize lf3 l (1-kk3 l)=z at *
 generalize had3 l=u at *
 repeat' split
 all_goals omega
theorem yPC (l:List Ck) (a:Nat):vS l a (k3 l 0)+vS l a (k3 l 1)+vS l a (k3 l 2)=vS l a (fr3 l,c3 l):=by
 show vXA l a (x3 l)-vXA l a (fr3 l)+(vXA l a (y3 l)-vXA l a (x3 l))+(vXA l a (c3 l)-vXA l a (y3 l))=vXA l a (c3 l)-vXA l a (fr3 l)
 grind
theorem yNt (hd:DK l) (h3:l.length=3) {a j:Nat} (ha:a<3) (hj:j<3):0≤vS l a (k3 l j)∧vS l a (k3 l j)≤vS l a (fr3 l,c3 l):=by
 obtain ⟨D,X⟩:=yt7 hd h3
 have p:∀ j,j<3→0≤vS l a (k3 l j):=fun j hj=>by
  have v:=(X.vq j hj).1
  exact (ysv hd (by omega) v.z v.le v.len).1
 have h0:=p 0 (by decide)
 have h1:=p 1 (by decide)
 have h2:=p 2 (by decide)
 have s:=yPC l a
 refine ⟨p j hj,?_⟩
 obtain rfl | rfl | rfl:j=0∨j=1∨j=2:=by omega
 all_goals grind
theorem yNu (hd:DK l) (h3:l.length=3) {j:Nat} (hj:j<3):vS l (not3 l) (k3 l j)=w3 l / 3:=by
 obtain ⟨D,X⟩:=yt7 hd h3
 have v1:=X.v1
 have v2:=X.v2
 rw [r13e] at v1
 rw [r23e] at v2
 have w:w3 l=vXA l (not3 l) (c3 l)-vXA l (not3 l) (fr3 l):=rfl
 obtain rfl | rfl | rfl:j=0∨j=1∨j=2:=by omega
 ·show vXA l (not3 l) (x3 l)-vXA l (not3 l) (fr3 l)=_
  grind
 ·show vXA l (not3 l) (y3 l)-vXA l (not3 l) (x3 l)=_
  grind
 ·show vXA l (not3 l) (c3 l)-vXA l (not3 l) (y3 l)=_
  grind
theorem yPD (l:List Ck) {j:Nat} (hj:j<3):vS l (had3 l) (k3 l j)≤vS l (had3 l) (k3 l (one3 l)):=by
 have at_:∀ i,i<3→(u3 l).getD i 0=vS l (had3 l) (k3 l i):=fun i hi=>by
  obtain rfl | rfl | rfl:i=0∨i=1∨i=2:=by omega
  all_goals rfl
 rw [← at_ j hj,← at_ _ (yxE l)]
 exact yNp l hj
theorem yQQ {l:List Ck} (h:tr3 l=true):ag3 l (had3 l)=p3 l∧ag3 l (not3 l)≠p3 l∧ag3 l 0≠p3 l:=by
 have h0:=yn9 l
 have h1:=yp1 l
 have hp:=o1_p h
 have e:(had3 l=2∧not3 l=1∧o2 l=p3 l)∨(had3 l=1∧not3 l=2∧o2 l≠p3 l):=by
  unfold had3 not3
  by_cases e:o2 l=p3 l
  ·exact .inl ⟨if_pos e,if_pos e,e⟩
  ·exact .inr ⟨if_neg e,if_neg e,e⟩
 rcases e with ⟨e1,e2,e3⟩ | ⟨e1,e2,e3⟩
 ·rw [e1,e2]
  show o2 l=p3 l∧o1 l≠p3 l∧o0 l≠p3 l
  omega
 ·rw [e1,e2]
  show o1 l=p3 l∧o2 l≠p3 l∧o0 l≠p3 l
  omega
def T3 (l:List Ck) (a j:Nat):Rat:=vS l a (s3 l (ag3 l j))+(bif tr3 l then vS l a (cr3 l j) else 0)
theorem yOu (hd:DK l) (h3:l.length=3) {a j:Nat} (ha:a<3) (hj:j<3):T3 l a j≤T3 l a a:=by
 have hag:=ymw l j
 unfold T3
 have best:a≠0→vS l a (s3 l (ag3 l j))≤vS l a (s3 l (ag3 l a)):=fun h=>by
  obtain rfl | rfl:a=1∨a=2:=by omega
  ·exact yOs hd h3 hag
  ·exact yOt hag
 have own0:=yNr hd h3
 have own0:vS l 0 (s3 l (ag3 l 0))=totR l 0 / 3:=own0
 cases ht:tr3 l with
 | false =>
  rw [cond_false,cond_false]
  by_cases h:a=0
  ·subst h
   have s:=yDd hd h3 hag
   rw [ht] at s
   have s:vS l 0 (s3 l (ag3 l j))+0=totR l 0 / 3:=s
   grind
  ·have:=best h
   grind
 | true =>
  rw [cond_true,cond_true]
  obtain ⟨q1,q2,q3⟩:=yQQ ht
  have hc:=ymx l
  by_cases h:a=0
  ·subst h
   have c0:cr3 l 0=k3 l (lf3 l (kk3 l)):=by
    unfold cr3
    rw [if_neg (by rcases ykl l with h | h <;> omega),if_pos rfl]
   have pos:=yNt hd h3 (a:=0) (by decide) (yNs l).1
   by_cases h1:j=had3 l
   ·subst h1
    have s:=yDd hd h3 hag
    rw [ht,q1,decide_eq_true rfl] at s
    have s:vS l 0 (s3 l (p3 l))+vS l 0 (fr3 l,c3 l)=totR l 0 / 3:=s
    have b:=(yNt hd h3 (a:=0) (by decide) (hc (had3 l))).2
    rw [← yoa] at b
    rw [q1,own0,c0]
    grind
   ·have hne:ag3 l j≠p3 l:=by
     by_cases h2:j=0
     ·subst h2;exact q3
     ·have:j=not3 l:=by rcases ykl l with h | h <;> omega
      rw [this];exact q2
    have s:=yDd hd h3 hag
    rw [decide_eq_false hne,Bool.and_false,cond_false] at s
    have b:vS l 0 (cr3 l j)≤vS l 0 (cr3 l 0):=by
     by_cases h2:j=0
     ·subst h2;exact qAr
     ·have cj:cr3 l j=k3 l (lf3 l (1-kk3 l)):=by
       unfold cr3
       rw [if_neg h1,if_neg h2]
      rw [c0,cj]
      exact yOn l
    rw [own0]
    grind
  ·have b1:=best h
   have b2:vS l a (cr3 l j)≤vS l a (cr3 l a):=by
    rw [yoa,yoa]
    by_cases h1:a=had3 l
    ·have:ci3 l a=one3 l:=by unfold ci3;rw [if_pos h1]
     rw [this,h1]
     exact yPD l (hc j)
    ·have:a=not3 l:=by rcases ykl l with h | h <;> omega
     rw [this,yNu hd h3 (hc _),yNu hd h3 (hc _)]
     exact qAr
   grind
end
section
variable {l:List Ck} {M:Nat→List RS}
theorem yGP (hd:DK l) (h3:l.length=3) {i j:Nat} (hij:i<j) (hj:j<3):((P3 l).getD i (0,0)).2≤((P3 l).getD j (0,0)).1:=by
 obtain ⟨D,g⟩:=g3 hd h3
 have h:(i=0∧j=1)∨(i=0∧j=2)∨(i=1∧j=2):=by omega
 rcases h with ⟨rfl,rfl⟩ | ⟨rfl,rfl⟩ | ⟨rfl,rfl⟩
 ·exact qAr
 ·exact qBp g.ab
 ·exact qAr
theorem yNv (hd:DK l) (h3:l.length=3) {i:Nat} (hi:i<3):((P3 l).getD i (0,0)).1≤(s3 l i).1∧(s3 l i).2=((P3 l).getD i (0,0)).2:=by
 obtain ⟨D,C⟩:=cut3 hd h3
 rw [yjw hi]
 cases hb:(tr3 l&&decide (i=p3 l)) with
 | false=>rw [cond_false];exact ⟨qAr,rfl⟩
 | true =>
  rw [cond_true]
  simp only [qAb,decide_eq_true_eq] at hb
  rw [hb.2]
  have:=C.lo
  rw [yfa] at this
  exact ⟨this,rfl⟩
theorem yQR (hd:DK l) (h3:l.length=3) {j:Nat} (hj:j<3):fr3 l≤(k3 l j).1∧(k3 l j).1≤(k3 l j).2∧(k3 l j).2≤c3 l:=by
 obtain ⟨D,X⟩:=yt7 hd h3
 have a:=X.fx;have b:=X.xy;have c:=X.yc
 obtain rfl | rfl | rfl:j=0∨j=1∨j=2:=by omega
 ·exact ⟨qAr,a,qBm b c⟩
 ·exact ⟨a,b,c⟩
 ·exact ⟨qBm a b,c,qAr⟩
theorem yNw (hd:DK l) (h3:l.length=3) {i j:Nat} (hij:i<j) (hj:j<3):(k3 l i).2≤(k3 l j).1:=by
 obtain ⟨D,X⟩:=yt7 hd h3
 have h:(i=0∧j=1)∨(i=0∧j=2)∨(i=1∧j=2):=by omega
 rcases h with ⟨rfl,rfl⟩ | ⟨rfl,rfl⟩ | ⟨rfl,rfl⟩
 ·exact qAr
 ·exact X.xy
 ·exact qAr
theorem yNx (hd:DK l) (h3:l.length=3) (ht:tr3 l=true) {i j:Nat} (hi:i<3) (hj:j<3):(s3 l i).2≤(k3 l j).1∨(k3 l j).2≤(s3 l i).1:=by
 obtain ⟨D,C⟩:=cut3 hd h3
 have k:=yQR hd h3 hj
 have s:=yNv hd h3 hi
 have hp:=ymv l
 have f:=yfa l
 by_cases e:i=p3 l
 ·right
  have:(s3 l i).1=c3 l:=by rw [yjw hi,ht,decide_eq_true e];rfl
  rw [this];exact k.2.2
 ·by_cases h:i<p3 l
  ·left
   have:=yGP hd h3 h hp
   rw [s.2]
   grind
  ·right
   have:=yGP hd h3 (show p3 l<i by omega) hi
   have:=C.hi
   grind
theorem yIf (hd:DK l) (h3:l.length=3) (h:M3 l M) {i:Nat}:(M i).length≤2∧(∀ P:Rat→Prop,P (s3 l (ag3 l i)).1→P (s3 l (ag3 l i)).2→P (cr3 l i).1→P (cr3 l i).2→∀ x∈M i,P x.1∧P x.2)∧∀ V:Rat→Rat,sumV (dV V) (M i)=dV V (s3 l (ag3 l i))+(bif tr3 l then dV V (cr3 l i) else 0):=by
 have ok:=(yKB hd h3 i).1
 have hm:=h.mem i
 have hc:=(h.pc i).c
 have hag:=ymw l i
 have ap:tr3 l=true→(s3 l (ag3 l i)).2≤(cr3 l i).1∨(cr3 l i).2≤(s3 l (ag3 l i)).1:=fun ht=>by
  rw [yoa];exact yNx hd h3 ht hag (ymx l i)
 have un:∀ m:List RS,yfd m→(∀ p,memP m p↔memP (L3 l i) p)→M i=m:=fun m k1 k2=>ye4 _ _ hc k1 fun p=>(hm p).trans (k2 p).symm
 have ez:∀ {s:RS} {V:Rat→Rat},neR s=false→dV V s=0:=fun {s V} k=>by
  unfold neR at k
  have:s.1=s.2:=by simpa using k
  unfold dV
  rw [this];grind
 unfold L3 at ok un
 generalize s3 l (ag3 l i)=s at *
 generalize cr3 l i=c at *
 cases e1:neR s with
 | true =>
  rw [e1,cond_true] at ok un
  have hs:=(ok s (by simp)).2
  cases e2:(tr3 l&&neR c) with
  | true =>
   rw [e2,cond_true] at ok un
   have hcc:=(ok c (by simp)).2
   simp only [qAb] at e2
   obtain ⟨m,k1,k2,k3,k4,k5⟩:=yQP hs hcc (ap e2.1)
   rw [un m k1 k2,e2.1]
   exact ⟨k3,k4,k5⟩
  | false =>
   rw [e2,cond_false,qB3] at un
   rw [un [s] ⟨hs,fun t ht=>(by cases ht),trivial⟩ fun p=>Iff.rfl]
   refine ⟨by simp,fun P p1 p2 _ _ x hx=>?_,fun V=>?_⟩
   ·rw [qAv] at hx
    subst hx
    exact ⟨p1,p2⟩
   ·show dV V s+0=_
    cases ht:tr3 l with
    | false=>rfl
    | true =>
     rw [ht,qAz] at e2
     rw [cond_true,ez e2]
 | false =>
  rw [e1,cond_false,qBv] at ok un
  cases e2:(tr3 l&&neR c) with
  | true =>
   rw [e2,cond_true] at ok un
   have hcc:=(ok c (by simp)).2
   simp only [qAb] at e2
   rw [un [c] ⟨hcc,fun t ht=>(by cases ht),trivial⟩ fun p=>Iff.rfl,e2.1]
   refine ⟨by simp,fun P _ _ p1 p2 x hx=>?_,fun V=>?_⟩
   ·rw [qAv] at hx
    subst hx
    exact ⟨p1,p2⟩
   ·show dV V c+0=_
    rw [cond_true,ez e1];grind
  | false =>
   rw [e2,cond_false] at un
   rw [un [] trivial fun p=>Iff.rfl]
   refine ⟨by simp,fun P _ _ _ _ x hx=>(by cases hx),fun V=>?_⟩
   show (0:Rat)=_
   rw [ez e1]
   cases ht:tr3 l with
   | false=>rw [cond_false];grind
   | true =>
    rw [ht,qAz] at e2
    rw [cond_true,ez e2];grind
theorem yDe (h:M3 l M) {i:Nat} {x:Rat}:memP (M i) x↔inS (s3 l (ag3 l i)) x∨(tr3 l=true∧inS (cr3 l i) x):=by
 have ne:∀ {s:RS} {x:Rat},inS s x→neR s=true:=fun {s x} k=>by
  unfold inS at k
  unfold neR
  rw [decide_eq_false (by grind)]
  rfl
 rw [h.mem i]
 unfold L3
 constructor
 ·rintro ⟨t,ht,hx⟩
  rcases qAy.1 ht with k | k
  ·cases e:neR (s3 l (ag3 l i)) with
   | true=>rw [e,cond_true,qAv] at k;subst k;exact .inl hx
   | false=>rw [e] at k;cases k
  ·cases e:(tr3 l&&neR (cr3 l i)) with
   | true =>
    rw [e,cond_true,qAv] at k
    simp only [qAb] at e
    subst k
    exact .inr ⟨e.1,hx⟩
   | false=>rw [e] at k;cases k
 ·rintro (k | ⟨k1,k2⟩)
  ·exact ⟨_,qAy.2 (.inl (by rw [ne k,cond_true];exact qAv.2 rfl)),k⟩
  ·exact ⟨_,qAy.2 (.inr (by rw [k1,ne k2];exact qAv.2 rfl)),k2⟩
theorem yOv (l:List Ck) {a b:Nat} (ha:a<3) (hb:b<3) (h:a≠b):ag3 l a≠ag3 l b:=by
 have h0:=yn9 l
 have h1:=yp1 l
 unfold ag3
 generalize o0 l=x at *
 generalize o1 l=y at *
 generalize o2 l=z at *
 repeat' split
 all_goals omega
theorem yOw (l:List Ck) {j:Nat} (hj:j<3):∃ a,a<3∧ag3 l a=j:=by
 have h0:=yn9 l
 have h1:=yp1 l
 have h2:=yxD l
 have:o0 l=j∨o1 l=j∨o2 l=j:=by omega
 rcases this with e | e | e
 ·exact ⟨0,by decide,e⟩
 ·exact ⟨1,by decide,e⟩
 ·exact ⟨2,by decide,e⟩
theorem yOx (l:List Ck) {j:Nat} (hj:j<3):∃ a,a<3∧ci3 l a=j:=by
 have i01:=yAQ l (a:=0) (b:=1) (by decide) (by decide) (by decide)
 have i02:=yAQ l (a:=0) (b:=2) (by decide) (by decide) (by decide)
 have i12:=yAQ l (a:=1) (b:=2) (by decide) (by decide) (by decide)
 have c0:=ymx l 0
 have c1:=ymx l 1
 have c2:=ymx l 2
 have:ci3 l 0=j∨ci3 l 1=j∨ci3 l 2=j:=by omega
 rcases this with e | e | e
 ·exact ⟨0,by decide,e⟩
 ·exact ⟨1,by decide,e⟩
 ·exact ⟨2,by decide,e⟩
theorem yNy (hd:DK l) (h3:l.length=3) (h:M3 l M) {i j:Nat} (hi:i<3) (hj:j<3) (hij:i≠j) {x:Rat} (h1:memP (M i) x) (h2:memP (M j) x):False:=by
 have ss:∀ {a b:Nat},a<3→b<3→a≠b→inS (s3 l a) x→inS (s3 l b) x→False:=fun {a b} ha hb hab k1 k2=>by
  have sa:=yNv hd h3 ha
  have sb:=yNv hd h3 hb
  unfold inS at k1 k2
  rcases Nat.lt_or_gt_of_ne hab with k | k
  ·have:=yGP hd h3 k hb;grind
  ·have:=yGP hd h3 k ha;grind
 have kk:∀ {a b:Nat},a<3→b<3→a≠b→inS (k3 l a) x→inS (k3 l b) x→False:=fun {a b} ha hb hab k1 k2=>by
  unfold inS at k1 k2
  rcases Nat.lt_or_gt_of_ne hab with k | k
  ·have:=yNw hd h3 k hb;grind
  ·have:=yNw hd h3 k ha;grind
 have sk:∀ {a b:Nat},tr3 l=true→a<3→b<3→inS (s3 l a) x→inS (k3 l b) x→False:=fun {a b} ht ha hb k1 k2=>by
  have:=yNx hd h3 ht ha hb
  unfold inS at k1 k2
  rcases this with k | k <;> grind
 rcases yDe h |>.1 h1 with a | ⟨t1,a⟩
 ·rcases yDe h |>.1 h2 with b | ⟨t2,b⟩
  ·exact ss (ymw l i) (ymw l j) (yOv l hi hj hij) a b
  ·rw [yoa] at b
   exact sk t2 (ymw l i) (ymx l j) a b
 ·rw [yoa] at a
  rcases yDe h |>.1 h2 with b | ⟨t2,b⟩
  ·exact sk t1 (ymw l j) (ymx l i) b a
  ·rw [yoa] at b
   exact kk (ymx l i) (ymx l j) (yAQ l hi hj hij) a b
theorem yNz (hd:DK l) (h3:l.length=3) (h:M3 l M) {x:Rat} (x0:0≤x) (x1:x<lenR l):∃ i,i<3∧memP (M i) x:=by
 obtain ⟨D,X⟩:=yt7 hd h3
 have hp:=ymv l
 obtain ⟨j,hj,jx⟩:∃ j,j<3∧inS ((P3 l).getD j (0,0)) x:=by
  by_cases h1:x<A3 l
  ·exact ⟨0,by decide,x0,h1⟩
  ·by_cases h2:x<B3 l
   ·exact ⟨1,by decide,qB8.1 h1,h2⟩
   ·exact ⟨2,by decide,qB8.1 h2,x1⟩
 obtain ⟨a,ha,ea⟩:=yOw l hj
 by_cases hs:inS (s3 l j) x
 ·exact ⟨a,ha,(yDe h).2 (.inl (by rw [ea];exact hs))⟩
 ·have hb:(tr3 l&&decide (j=p3 l))=true:=by
   cases hb:(tr3 l&&decide (j=p3 l)) with
   | true=>rfl
   | false =>
    have e:=yjw (l:=l) hj
    rw [hb,cond_false] at e
    rw [e] at hs
    exact absurd jx hs
  have e:=yjw (l:=l) hj
  rw [hb,cond_true] at e
  rw [e] at hs
  simp only [qAb,decide_eq_true_eq] at hb
  obtain ⟨ht,ejp⟩:=hb
  subst ejp
  have f:=yfa l
  unfold inS at hs jx
  have hx:fr3 l≤x∧x<c3 l:=by
   have:¬(c3 l≤x∧x<((P3 l).getD (p3 l) (0,0)).2):=hs
   grind
  obtain ⟨k,hk,kx⟩:∃ k,k<3∧inS (k3 l k) x:=by
   by_cases h1:x<x3 l
   ·exact ⟨0,by decide,hx.1,h1⟩
   ·by_cases h2:x<y3 l
    ·exact ⟨1,by decide,qB8.1 h1,h2⟩
    ·exact ⟨2,by decide,qB8.1 h2,hx.2⟩
  obtain ⟨b,hb,eb⟩:=yOx l hk
  exact ⟨b,hb,(yDe h).2 (.inr ⟨ht,by rw [yoa,eb];exact kx⟩)⟩
end
section
variable {l:List Ck} {M:Nat→List RS}
def A3M (M:Nat→List RS):List (List RS):=[M 0,M 1,M 2]
theorem yAR {a:List RS} (h:a∈A3M M):∃ i,i<3∧a=M i:=by
 simp only [A3M,qAk,qCb,or_false] at h
 rcases h with rfl | rfl | rfl
 ·exact ⟨0,by decide,rfl⟩
 ·exact ⟨1,by decide,rfl⟩
 ·exact ⟨2,by decide,rfl⟩
theorem yDf {i:Nat} (hi:i<3):(A3M M).getD i []=M i:=by
 obtain rfl | rfl | rfl:i=0∨i=1∨i=2:=by omega
 all_goals rfl
theorem yOy (hd:DK l) (h3:l.length=3) (h:M3 l M) {i:Nat}:∀ x∈M i,(small x.1∧0≤x.1∧x.1≤lenR l)∧(small x.2∧0≤x.2∧x.2≤lenR l):=by
 obtain ⟨D,_,V⟩:=S3VQ hd h3
 obtain ⟨D',X⟩:=yt7 hd h3
 have v:=(V _ (ymw l i)).1
 have w:=(X.vq _ (ymx l i)).1
 rw [← yoa] at w
 exact (yIf hd h3 h (i:=i)).2.1 (fun q=>small q∧0≤q∧q≤lenR l) ⟨v.s1,v.z,qBm v.le v.len⟩ ⟨v.s2,qBm v.z v.le,v.len⟩ ⟨w.s1,w.z,qBm w.le w.len⟩ ⟨w.s2,qBm w.z w.le,w.len⟩
theorem yOU (hd:DK l) (h3:l.length=3) (h:M3 l M):∃ D:Int,(1≤D∧D≤100000000)∧InA D (A3M M):=by
 obtain ⟨D,X⟩:=yt7 hd h3
 have D1:=X.D1
 refine ⟨D,⟨by omega,by omega⟩,fun a ha s hs=>?_⟩
 obtain ⟨i,hi,rfl⟩:=yAR ha
 have w:=(X.vq _ (ymx l i)).2
 rw [← yoa] at w
 have iC:In D (c3 l):=(X.vq 2 (by decide)).2.2
 have v:In D (s3 l (ag3 l i)).1∧In D (s3 l (ag3 l i)).2:=by
  have hag:=ymw l i
  rw [yjw hag]
  cases (tr3 l&&decide (ag3 l i=p3 l)) with
  | false=>exact X.iP _ hag
  | true=>exact ⟨iC,(X.iP _ (ymv l)).2⟩
 exact (yIf hd h3 h (i:=i)).2.1 (fun q=>In D q) v.1 v.2 w.1 w.2 s hs
theorem yOV (hd:DK l) (h3:l.length=3) (h:M3 l M):DV l (A3M M):=by
 refine ⟨hd,by rw [h3];rfl,fun a ha=>?_,fun a ha=>?_,fun a ha=>?_⟩
 ·obtain ⟨i,_,rfl⟩:=yAR ha
  exact h.pc i
 ·obtain ⟨i,_,rfl⟩:=yAR ha
  have:=(yIf hd h3 h (i:=i)).1
  omega
 ·obtain ⟨i,_,rfl⟩:=yAR ha
  unfold yM4
  rw [qCa]
  intro s hs
  obtain ⟨⟨a1,a2,a3⟩,b1,b2,b3⟩:=yOy hd h3 h s hs
  rw [decide_eq_true (yzG a1 a2 a3),decide_eq_true (yzG b1 b2 b3)]
  rfl
theorem yOz (hd:DK l) (h3:l.length=3) (h:M3 l M):ycG (wr0 (A3M M)) l.length l.length 0=none:=by
 refine ymu.2 fun a _ ha b hb=>?_
 rw [h3] at ha hb
 unfold wr0
 by_cases hab:a<b
 case neg=>rw [decide_eq_false hab,qBb]
 rw [decide_eq_true hab,qAz,yDf (by omega),yDf hb]
 cases ht:yst (M a) (M b) with
 | false=>rfl
 | true =>
  obtain ⟨p,p1,p2⟩:=(yCU (ykz (h.pc a).c) (ykz (h.pc b).c)).1 ht
  exact (yNy hd h3 h (by omega) hb (by omega) p1 p2).elim
theorem yNA (hd:DK l) (h3:l.length=3) (h:M3 l M):gapD l (A3M M)=false:=by
 cases hg:gapD l (A3M M) with
 | false=>rfl
 | true =>
  obtain ⟨p,p0,p1,hn⟩:=yCZ.1 hg
  refine absurd ?_ hn
  obtain ⟨i,hi,hm⟩:=yNz hd h3 h p0 p1
  exact ⟨M i,by rw [← yDf (M:=M) hi];exact ycD [] hi,hm⟩
theorem yOW (hd:DK l) (h3:l.length=3) (h:M3 l M) (a i:Nat):wV (l.getD a default) (M i)=T3 l a i:=(yIf hd h3 h (i:=i)).2.2 _
theorem yLM (hd:DK l) (h3:l.length=3) (h:M3 l M) (K:Bool→Int→Prop):yc6 (cks l) (rspL (A3M M)) 7 (tabW l (A3M M)) K=K true 0:=by
 have dv:=yOV hd h3 h
 obtain ⟨D,hD,hI⟩:=yOU hd h3 h
 obtain ⟨k1,k2,_,_⟩:=dv.good hD hI
 have e1:∀ P:List Rat,(brk l (A3M M) P (gapD l (A3M M)) 1).2.2=false:=fun P=>yzL.2 ⟨yOz hd h3 h,yNA hd h3 h⟩
 have e4:∀ P:List Rat,(brk l (A3M M) P (gapD l (A3M M)) 4).2.2=false:=fun P=>yC5.2 fun a b ha hb=>by
  rw [h3] at ha hb
  rw [yDf ha,yDf hb,yOW hd h3 h,yOW hd h3 h]
  exact yOu hd h3 ha hb
 refine dv.Accept k1 k2 (by omega) (by decide) (fun i hi hc=>?_) K
 obtain rfl | rfl | rfl | rfl | rfl:i=0∨i=1∨i=2∨i=3∨i=4:=by omega
 ·exact ⟨by decide,e1 _⟩
 ·exact ⟨by decide,yJn dv (e1 _) (e4 _)⟩
 ·exact ⟨by decide,e4 _⟩
 ·exact absurd hc (by decide)
 ·exact absurd hc (by decide)
theorem VQ.QR (hd:DK l) {a:Nat} (ha:a<l.length) {s:RS} (h:VQ l s):QR l (vlQ l a s.1 s.2):=by
 obtain ⟨D,hD,k1,k2⟩:=h.D
 exact (yE7 hd ha h.s1 h.s2 h.z h.le h.len hD k1 k2 (m:=0) (by decide)).2
theorem MkV.QR (hd:DK l) {a:Nat} (ha:a<l.length) {q v:Rat} (hs:small q) (q0:0≤q) (q1:q≤lenR l) (hv:small v) (v0:0≤v) {D:Int} (h:MkV l a q v D):QR l (mkQ a q v (mkV l a q v)):=by
 have hok:=hd.ok a ha
 have e1:mrkR (l.getD a default).len (l.getD a default).cuts (l.getD a default).dens q.num q.den v.num v.den=.ok (mkV l a q v):=by
  unfold mrkR
  rw [if_pos hok.ck,if_pos ⟨yzG hs q0 (by rw [hd.len a ha];exact q1),hv.rv,Rat.num_nonneg.2 v0⟩,ye3,ye3]
  exact h.e
 exact ⟨⟨by show (0:Int)≤a;omega,by show (a:Int)<_;omega⟩,⟨hs.i1,hs.i2,hv.i1,hv.i2⟩,mkV l a q v,⟨rfl,rfl⟩,.inl ⟨rfl,e1⟩⟩
theorem yOA (hd:DK l) (h3:l.length=3):∀ q∈logR l,QR l q:=by
 obtain ⟨D,g⟩:=g3 hd h3
 obtain ⟨D1,C⟩:=cut3 hd h3
 obtain ⟨D2,X⟩:=yt7 hd h3
 obtain ⟨D3,_,V⟩:=S3VQ hd h3
 have h0:0<l.length:=by omega
 have h1:1<l.length:=by omega
 have h2:2<l.length:=by omega
 have hn:not3 l<l.length:=by rcases ykl l with h | h <;> omega
 have hh:had3 l<l.length:=by rcases ykl l with h | h <;> omega
 have v0:=(g.VQ hd h3 (i:=0) (by decide)).1
 have v1:=(g.VQ hd h3 (i:=1) (by decide)).1
 have vp:=(g.VQ hd h3 (ymv l)).1
 have t0:=tot0 hd h0
 have t12:=yzO hd h0
 have i3:=In.r3 (totC (l.getD 0 default).cuts (l.getD 0 default).dens)
 have sa:small (totR l 0*r13):=sm3 i3.1 ⟨by decide,by decide⟩ (by rw [r13e];show -12000≤totR l 0*(1 / 3);grind) (by rw [r13e];show totR l 0*(1 / 3)≤12000;grind)
 have sb:small (totR l 0*r23):=sm3 i3.2 ⟨by decide,by decide⟩ (by rw [r23e];show -12000≤totR l 0*(2 / 3);grind) (by rw [r23e];show totR l 0*(2 / 3)≤12000;grind)
 have l0:0≤lenR l:=by have:=g.a0;have:=g.ab;have:=g.bl;grind
 have eA:A3 l=mkV l 0 0 (totR l 0*r13):=by unfold A3;rfl
 have eB:B3 l=mkV l 0 0 (totR l 0*r23):=by unfold B3;rfl
 have ex:x3 l=mkV l (not3 l) (fr3 l) (w3 l*r13):=by unfold x3;rfl
 have ey:y3 l=mkV l (not3 l) (fr3 l) (w3 l*r23):=by unfold y3;rfl
 have fz:0≤fr3 l:=by rw [yfa];exact vp.z
 have fs:small (fr3 l):=by rw [yfa];exact vp.s1
 have fl:fr3 l≤lenR l:=by rw [yfa];exact qBm vp.le vp.len
 have r1:0≤w3 l*r13:=by have:=X.w0;rw [r13e];grind
 have r2:0≤w3 l*r23:=by have:=X.w0;rw [r23e];grind
 have k0:=(X.vq 0 (by decide)).1
 have k1:=(X.vq 1 (by decide)).1
 have k2:=(X.vq 2 (by decide)).1
 obtain ⟨DX,hDX,jf,_⟩:=k0.D
 have kO:VQ l (fr3 l,c3 l):=⟨k0.s1,k2.s2,k0.z,C.lo,k2.len,D2,⟨X.D1.1,by have:=X.D1.2;omega⟩,(X.vq 0 (by decide)).2.1,(X.vq 2 (by decide)).2.2⟩
 obtain ⟨j0,j1,_⟩:=yxF l
 obtain ⟨E,_,m⟩:=C.m
 obtain ⟨E1,m1⟩:=X.m1
 obtain ⟨E2,m2⟩:=X.m2
 have q1:QR l (mkQ 0 0 (totR l 0*r13) (A3 l)):=by rw [eA];exact MkV.QR hd h0 v0.s1 qAr l0 sa (by rw [r13e];grind) g.mA
 have q2:QR l (mkQ 0 0 (totR l 0*r23) (B3 l)):=by rw [eB];exact MkV.QR hd h0 v0.s1 qAr l0 sb (by rw [r23e];grind) g.mB
 have q3:QR l (vlQ l 1 0 (A3 l)):=VQ.QR hd h1 v0
 have q4:QR l (vlQ l 1 (A3 l) (B3 l)):=VQ.QR hd h1 v1
 have q5:QR l (mkQ 1 (fr3 l) (off3 l) (c3 l)):=by rw [yC8];exact MkV.QR hd h1 fs fz fl C.so C.o0 m
 have q6:QR l (mkQ (not3 l) (fr3 l) (w3 l*r13) (x3 l)):=by rw [ex];exact MkV.QR hd hn fs fz fl X.w1 r1 m1
 have q7:QR l (mkQ (not3 l) (fr3 l) (w3 l*r23) (y3 l)):=by rw [ey];exact MkV.QR hd hn fs fz fl X.w2 r2 m2
 intro q hq
 unfold logR log3 yhN yFb yDb at hq
 have hs:∀ i,i<3→QR l (vlQ l 2 (s3 l i).1 (s3 l i).2):=fun i hi=>VQ.QR hd h2 (V i hi).1
 cases ht:tr3 l with
 | false =>
  rw [ht] at hq
  simp only [cond_false,qB3,qBv,qAy,qAv] at hq
  rcases hq with (((rfl | rfl) | rfl) | rfl) | ((rfl | rfl) | rfl)
  ·exact q1
  ·exact q2
  ·exact q3
  ·exact q4
  ·exact hs 0 (by decide)
  ·exact hs 1 (by decide)
  ·exact hs 2 (by decide)
 | true =>
  rw [ht] at hq
  simp only [cond_true,qAy,qAv] at hq
  rcases hq with ((((rfl | rfl) | rfl) | rfl) | (rfl | ((rfl | rfl) | rfl))) | (((((((rfl | rfl) | rfl) | rfl) | rfl) | rfl) | rfl) | rfl)
  ·exact q1
  ·exact q2
  ·exact q3
  ·exact q4
  ·exact q5
  ·exact hs 0 (by decide)
  ·exact hs 1 (by decide)
  ·exact hs 2 (by decide)
  ·exact VQ.QR hd hn kO
  ·exact q6
  ·exact q7
  ·exact VQ.QR hd hh k0
  ·exact VQ.QR hd hh k1
  ·exact VQ.QR hd hh k2
  ·exact VQ.QR hd h0 (X.vq _ j0).1
  ·exact VQ.QR hd h0 (X.vq _ j1).1
theorem yIg (l:List Ck):(logR l).length=bif tr3 l then 16 else 7:=by
 unfold logR log3 yhN yFb yDb
 cases tr3 l <;> rfl
end
def yDg:List Ck:=[⟨6,[0,6],[1]⟩,⟨6,[0,4,6],[1,4]⟩,⟨6,[0,2,6],[2,0]⟩]
theorem cbTT {c:Bool} {P Q:Prop} (h:c=true):cbr c P Q=P:=by rw [h,yau]
theorem yOB (K:List PV→Prop):ysk K=K (cks yDg):=rfl
theorem of10 (n:Int) (K:Int→Int→Prop):yCx n K=K n 1:=rfl
theorem dk10:DK yDg:=(ypX (l:=yDg) (m:=0) (by decide +kernel)).1
theorem L310:L3 yDg 0=[(2,4)]∧L3 yDg 1=[(mkRat 11 2,6),(4,mkRat 11 2)]∧L3 yDg 2=[(0,2)]:=by decide +kernel
theorem tr10:tr3 yDg=true:=by decide +kernel
theorem yPE (K:Bool→Prop):yh5 (rspL [[(2,4)],[(4,6)],[(0,2)]]) [(.data [(.agg [(.int .i64 (2:Int)),(.int .i64 (1:Int)),(.int .i64 (4:Int)),(.int .i64 (1:Int))])]),(.data [(.agg [(.int .i64 (4:Int)),(.int .i64 (1:Int)),(.int .i64 (6:Int)),(.int .i64 (1:Int))])]),(.data [(.agg [(.int .i64 (0:Int)),(.int .i64 (1:Int)),(.int .i64 (2:Int)),(.int .i64 (1:Int))])])] K=K true:=by
 have h:=yJf (l:=[[⟨2,1,4,1⟩],[⟨4,1,6,1⟩],[⟨0,1,2,1⟩]]) (fun i hi=>by
  have hi:i<3:=hi
  obtain rfl | rfl | rfl:i=0∨i=1∨i=2:=by omega
  all_goals decide) (by decide) K
 have e:rspL [[((2:Rat),(4:Rat))],[((4:Rat),(6:Rat))],[((0:Rat),(2:Rat))]]=ysp [[⟨2,1,4,1⟩],[⟨4,1,6,1⟩],[⟨0,1,2,1⟩]]:=by kernel_rfl
 rw [e]
 exact h
theorem yDh (K:Bool→Prop):yfI K=K true:=by
 obtain ⟨M,h,run⟩:=run3 dk10 rfl
 have c1:∀ {a b:Rat},a<b→yfd [(a,b)]:=fun h=>⟨h,fun t ht=>(by cases ht),trivial⟩
 have m0:M 0=[(2,4)]:=ye4 _ _ (h.pc 0).c (c1 (by decide +kernel)) fun p=>by rw [h.mem,L310.1]
 have m2:M 2=[(0,2)]:=ye4 _ _ (h.pc 2).c (c1 (by decide +kernel)) fun p=>by rw [h.mem,L310.2.2]
 have m1:M 1=[(4,6)]:=ye4 _ _ (h.pc 1).c (c1 (by decide +kernel)) fun p=>by
  have e:mkRat 11 2=11 / 2:=by decide +kernel
  rw [h.mem,L310.2.1,e]
  unfold memP inS
  simp only [qAk,qCb,or_false,exists_eq_or_imp,exists_eq_left]
  grind
 unfold yfI ypV
 dsimp only [Go.Pf.jn]
 rw [yOB,run]
 simp only [of10]
 refine (cbTT rfl).trans ?_
 refine (cbTT (by decide +kernel)).trans ?_
 rw [yjg,yIg,tr10,cond_true]
 refine (cbTT rfl).trans ?_
 rw [m0,m1,m2,yPE]
variable {l:List Ck}
theorem yNB (hl:l.length≤9223372036854775807) (K:Bool→Prop):yll (cks l) K=K (!yvH l&&(decide (l.length=3)&&decide (yjv l 0=0))):=by
 unfold yll yvF
 dsimp only [Go.Pf.jn]
 rw [yEa hl]
 cases hg:yvH l with
 | true=>rfl
 | false =>
  obtain ⟨g1,g2,g3⟩:=yJd hg
  rw [show (!false)=true from rfl,yau,ybC]
  by_cases h3:l.length=3
  ·rw [ceT (by omega)]
   have h:∀ K,ygP (cks l) [] K=K (yjv l 0):=fun K=>yLp (lg:=[]) g3 (by omega) K
   rw [h,decide_eq_true h3]
   rfl
  ·rw [show ((((l.length:Nat):Int)) == 3)=false by simp;omega,yaf,decide_eq_false h3]
   rfl
set_option maxHeartbeats 1000000
theorem yOC (K:Int→Prop):ygV K=K 16:=rfl
theorem yEb {l:List Ck} (hl:l.length≤9223372036854775807):yhg (cks l) (fun b=>b=true):=by
 unfold yhg yjd
 rw [yNB hl]
 by_cases hf:(!yvH l&&(decide (l.length=3)&&decide (yjv l 0=0)))=true
 case neg =>
  rw [show (!yvH l&&(decide (l.length=3)&&decide (yjv l 0=0)))=false by simpa using hf]
  show yfI _
  rw [yDh]
 rw [hf,show (!true)=false from rfl,yaf]
 simp only [qAb,qAx,decide_eq_true_eq] at hf
 obtain ⟨hg,h3,hz⟩:=hf
 have hd:=(ypX hz).1
 obtain ⟨M,h,run⟩:=run3 hd h3
 have dv:=yOV hd h3 h
 obtain ⟨D,hD,hI⟩:=yOU hd h3 h
 obtain ⟨k1,k2,k3,k4⟩:=dv.good hD hI
 have hlen:=yIg l
 have h2000:(logR l).length≤2000:=by rw [hlen];cases tr3 l <;> decide
 have h16:¬(((logR l).length:Nat):Int)>16:=by rw [hlen];cases tr3 l <;> decide
 have eM:[M 0,M 1,M 2]=A3M M:=rfl
 rw [run,yLJ hd h2000 (yOA hd h3),eM,k4]
 dsimp only [Go.Pf.jn]
 simp only [yOC]
 rw [yjg,cnF rfl,cnF rfl,cnF rfl,cnF rfl,cbF h16,cbF (by decide)]
 have e7:∀ P Q:Prop,cbr (pc3 l == -1) (cbr ((((logR l).length:Nat):Int) != 7) P Q) (cbr false P Q)=Q:=fun P Q=>by
  unfold pc3
  rw [hlen]
  cases tr3 l with
  | false=>rfl
  | true =>
   have hn:(((p3 l:Nat):Int) == -1)=false:=beq_eq_false_iff_ne.2 (by omega)
   rw [cond_true,hn]
   rfl
 rw [e7,yLM hd h3 h]
 rw [cnF rfl,show (!true)=false from rfl,yaf,show ((((rspL (A3M M)).length:Nat):Int) != 3)=false from rfl,yaf]
 have len2:∀ i,(rsp (M i)).length≤2:=fun i=>by rw [ybZ];exact (yIf hd h3 h (i:=i)).1
 have e:rspL (A3M M)=[.data (rsp (M 0)),.data (rsp (M 1)),.data (rsp (M 2))]:=rfl
 rw [e]
 refine ⟨4,?_⟩
 have st:∀ i:Nat,¬(((rsp (M i)).length:Nat):Int)>2:=fun i=>by have:=len2 i;omega
 unfold ybG
 refine ((cbT (by decide)).trans ((asTT rfl).trans ((asTT rfl).trans ((asTT rfl).trans (cbF (st 0)))))).mpr ?_
 show ybG _ _ _ _ _ _ _ _ _ 3 _ 1
 unfold ybG
 refine ((cbT (by decide)).trans ((asTT rfl).trans ((asTT rfl).trans ((asTT rfl).trans (cbF (st 1)))))).mpr ?_
 show ybG _ _ _ _ _ _ _ _ _ 2 _ 2
 unfold ybG
 refine ((cbT (by decide)).trans ((asTT rfl).trans ((asTT rfl).trans ((asTT rfl).trans (cbF (st 2)))))).mpr ?_
 show ybG _ _ _ _ _ _ _ _ _ 1 _ 3
 unfold ybG
 refine (cbF (by decide)).mpr ?_
 show yfI _
 rw [yDh]
end Go.Pf.Vc
