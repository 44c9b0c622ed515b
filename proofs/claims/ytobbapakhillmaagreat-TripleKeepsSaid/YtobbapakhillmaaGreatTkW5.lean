/- Part 5. -/
import Derived.Test.YtobbapakhillmaaGreatTkW4
noncomputable section
namespace Go.Pf.Vc
theorem yFL:∀ (r:List RS) (c:RS),c.1<c.2→(∀ s∈r,s.1<s.2)→(∀ s∈r,c.1≤s.1)→yso r→ygE (mrg r c)∧(∀ t∈mrg r c,c.1≤t.1)∧∀ p,memP (mrg r c) p↔memP (c::r) p
 | [],c,hc,_,_,_=>by
  unfold mrg
  refine ⟨⟨hc,by simp,trivial⟩,fun t h=>?_,fun p=>Iff.rfl⟩
  rw [qBb] at h
  rw [h];exact qA4
 | s::r,c,hc,hv,hl,hs=>by
  unfold mrg
  have hsv:=hv s qAh
  have hsl:=hl s qAh
  by_cases h:c.2<s.1
  ·rw [if_pos h]
   obtain ⟨i1,i2,i3⟩:=yFL r s hsv (fun t ht=>hv t (qAf _ ht)) hs.1 hs.2
   refine ⟨⟨hc,fun t ht=>by have:=i2 t ht;grind,i1⟩,fun t ht=>?_,fun p=>?_⟩
   ·rcases qAn.1 ht with rfl | ht
    ·exact qA4
    ·have:=i2 t ht;grind
   ·rw [ybA,i3 p,ybA,ybA,ybA]
  ·rw [if_neg h]
   have hm:c.2≤maxR c.2 s.2∧s.2≤maxR c.2 s.2∧(maxR c.2 s.2=c.2∨maxR c.2 s.2=s.2):=by unfold maxR;split <;> grind
   obtain ⟨i1,i2,i3⟩:=yFL r (c.1,maxR c.2 s.2) (by show c.1<maxR c.2 s.2;grind) (fun t ht=>hv t (qAf _ ht)) (fun t ht=>hl t (qAf _ ht)) hs.2
   refine ⟨i1,i2,fun p=>?_⟩
   rw [i3 p,ybA,ybA,ybA]
   have hin:inS (c.1,maxR c.2 s.2) p↔inS c p∨inS s p:=by
    unfold inS
    constructor
    ·rintro ⟨h1,h2⟩
     have h2:p<maxR c.2 s.2:=h2
     have h1:c.1≤p:=h1
     by_cases h3:p<c.2
     ·exact .inl ⟨h1,h3⟩
     ·exact .inr ⟨by grind,by grind⟩
    ·rintro (⟨h1,h2⟩ | ⟨h1,h2⟩)
     ·exact ⟨h1,by show p<maxR c.2 s.2;grind⟩
     ·exact ⟨by show c.1≤p;grind,by show p<maxR c.2 s.2;grind⟩
   rw [hin,or_assoc]
theorem yAO {l:List RS} (hv:∀ s∈l,s.1<s.2) (hs:yso l):ygE (ysn l)∧∀ p,memP (ysn l) p↔memP l p:=by
 cases l with
 | nil=>exact ⟨trivial,fun p=>Iff.rfl⟩
 | cons s r =>
  obtain ⟨i1,_,i3⟩:=yFL r s (hv s qAh) (fun t ht=>hv t (qAf _ ht)) hs.1 hs.2
  exact ⟨i1,i3⟩
def ygF:List Rat→Prop
 | []=>True
 | x::r=>(∀ y∈r,x<y)∧ygF r
def jn (f:Rat→Bool):List Rat→Option RS→List RS
 | x::y::r,none=>if f x then jn f (y::r) (some (x,y)) else jn f (y::r) none
 | x::y::r,some c=>if f x then (if c.2=x then jn f (y::r) (some (c.1,y)) else c::jn f (y::r) (some (x,y))) else jn f (y::r) (some c)
 | _,none=>[]
 | _,some c=>[c]
def segP (f:Rat→Bool):List Rat→Rat→Prop
 | x::y::r,p=>(f x=true∧x≤p∧p<y)∨segP f (y::r) p
 | _,_=>False
def curP:Option RS→Rat→Prop
 | none,_=>False
 | some c,p=>inS c p
def yLZ (pts:List Rat):Option RS→Prop
 | none=>True
 | some c=>c.1<c.2∧∀ x∈pts,c.2≤x
def yL0 (pts:List Rat):Option RS→Rat→Prop
 | none,q=>∃ x∈pts,x≤q
 | some c,q=>c.1≤q
theorem yAP (f:Rat→Bool):∀ (pts:List Rat) (cur:Option RS),ygF pts→yLZ pts cur →
  ygE (jn f pts cur)∧(∀ t∈jn f pts cur,yL0 pts cur t.1)∧∀ p,memP (jn f pts cur) p↔(curP cur p∨segP f pts p)
 | [],none,_,_=>by
  unfold jn
  refine ⟨trivial,fun t h=>(by cases h),fun p=>?_⟩
  simp only [curP,segP]
  exact ⟨fun h=>(yjO h).elim,fun h=>h.elim (fun h=>h.elim) (fun h=>h.elim)⟩
 | [],some c,_,hc=>by
  unfold jn
  refine ⟨⟨hc.1,by simp,trivial⟩,fun t h=>?_,fun p=>?_⟩
  ·rw [qBb] at h;rw [h];exact qA4
  ·rw [ybA]
   simp only [curP,segP]
   exact ⟨fun h=>h.elim .inl (fun h=>(yjO h).elim),fun h=>h.elim .inl (fun h=>h.elim)⟩
 | [x],none,_,_=>by
  unfold jn
  refine ⟨trivial,fun t h=>(by cases h),fun p=>?_⟩
  simp only [curP,segP]
  exact ⟨fun h=>(yjO h).elim,fun h=>h.elim (fun h=>h.elim) (fun h=>h.elim)⟩
 | [x],some c,_,hc=>by
  unfold jn
  refine ⟨⟨hc.1,by simp,trivial⟩,fun t h=>?_,fun p=>?_⟩
  ·rw [qBb] at h;rw [h];exact qA4
  ·rw [ybA]
   simp only [curP,segP]
   exact ⟨fun h=>h.elim .inl (fun h=>(yjO h).elim),fun h=>h.elim .inl (fun h=>h.elim)⟩
 | x::y::r,none,hi,_=>by
  have hxy:=hi.1 y qAh
  unfold jn
  cases hf:f x with
  | true =>
   rw [if_pos rfl]
   obtain ⟨i1,i2,i3⟩:=yAP f (y::r) (some (x,y)) hi.2 ⟨hxy,fun z hz=>by
    rcases qAn.1 hz with rfl | hz
    ·exact qA4
    ·have:=hi.2.1 z hz;show y≤z;grind⟩
   refine ⟨i1,fun t ht=>⟨x,qAh,i2 t ht⟩,fun p=>?_⟩
   rw [i3 p]
   simp only [curP,segP,inS,hf,true_and,false_or]
  | false =>
   rw [if_neg (by decide)]
   obtain ⟨i1,i2,i3⟩:=yAP f (y::r) none hi.2 trivial
   refine ⟨i1,fun t ht=>?_,fun p=>?_⟩
   ·obtain ⟨z,hz,hzt⟩:=i2 t ht
    exact ⟨z,qAf _ hz,hzt⟩
   ·rw [i3 p]
    simp [curP,segP,hf]
 | x::y::r,some c,hi,hc=>by
  have hxy:=hi.1 y qAh
  have hcx:=hc.2 x qAh
  have hyr:∀ z∈y::r,y≤z:=fun z hz=>by
   rcases qAn.1 hz with rfl | hz
   ·exact qA4
   ·have:=hi.2.1 z hz;grind
  unfold jn
  cases hf:f x with
  | true =>
   rw [if_pos rfl]
   by_cases he:c.2=x
   ·rw [if_pos he]
    obtain ⟨i1,i2,i3⟩:=yAP f (y::r) (some (c.1,y)) hi.2 ⟨by have:=hc.1;show c.1<y;grind,hyr⟩
    refine ⟨i1,i2,fun p=>?_⟩
    rw [i3 p]
    simp only [curP,segP,inS,hf,true_and]
    have:=hc.1
    constructor
    ·rintro (⟨h1,h2⟩ | h)
     ·by_cases h3:p<c.2
      ·exact .inl ⟨h1,h3⟩
      ·exact .inr (.inl ⟨by grind,h2⟩)
     ·exact .inr (.inr h)
    ·rintro (⟨h1,h2⟩ | ⟨h1,h2⟩ | h)
     ·exact .inl ⟨h1,by grind⟩
     ·exact .inl ⟨by grind,h2⟩
     ·exact .inr h
   ·rw [if_neg he]
    obtain ⟨i1,i2,i3⟩:=yAP f (y::r) (some (x,y)) hi.2 ⟨hxy,hyr⟩
    refine ⟨⟨hc.1,fun t ht=>?_,i1⟩,fun t ht=>?_,fun p=>?_⟩
    ·have:x≤t.1:=i2 t ht
     grind
    ·rcases qAn.1 ht with rfl | ht
     ·exact qA4
     ·have:x≤t.1:=i2 t ht
      have:=hc.1
      show c.1≤t.1
      grind
    ·rw [ybA,i3 p]
     simp only [curP,segP,inS,hf,true_and]
  | false =>
   rw [if_neg (by decide)]
   obtain ⟨i1,i2,i3⟩:=yAP f (y::r) (some c) hi.2 ⟨hc.1,fun z hz=>by have:=hyr z hz;grind⟩
   refine ⟨i1,i2,fun p=>?_⟩
   rw [i3 p]
   simp [curP,segP,hf]
def minR (a b:Rat):Rat:=if a<b then a else b
theorem yeM (a b:Rat):a≤maxR a b∧b≤maxR a b∧(maxR a b=a∨maxR a b=b):=by unfold maxR;split <;> grind
theorem yga (a b:Rat):minR a b≤a∧minR a b≤b∧(minR a b=a∨minR a b=b):=by unfold minR;split <;> grind
def yJs (full:List Rat):List Rat→Prop
 | x::y::r=>(∀ z∈full,z≤x∨y≤z)∧yJs full (y::r)
 | _=>True
theorem yJt (full:List Rat):∀ (pts:List Rat),ygF pts→(∀ z∈full,z∈pts∨∀ w∈pts,z<w)→yJs full pts
 | [],_,_=>trivial
 | [_],_,_=>trivial
 | x::y::r,hi,h=>by
  refine ⟨fun z hz=>?_,yJt full (y::r) hi.2 fun z hz=>?_⟩
  ·rcases h z hz with k | k
   ·rcases qAn.1 k with rfl | k
    ·exact .inl qA4
    ·rcases qAn.1 k with rfl | k
     ·exact .inr qA4
     ·have:=hi.2.1 z k
      exact .inr (by grind)
   ·have:=k x qAh
    exact .inl (by grind)
  ·rcases h z hz with k | k
   ·rcases qAn.1 k with rfl | k
    ·exact .inr fun w hw=>hi.1 w hw
    ·exact .inl k
   ·exact .inr fun w hw=>k w (qAf _ hw)
def yy1 (pts:List Rat) (a:List RS):Prop:=∀ s∈a,s.1∈pts∧s.2∈pts
theorem yAQ {full:List Rat} {a:List RS} (h:yy1 full a) {x y p:Rat} (hg:∀ z∈full,z≤x∨y≤z) (h1:x≤p) (h2:p<y):memP a p↔memP a x:=by
 constructor
 ·rintro ⟨s,hs,k1,k2⟩
  obtain ⟨e1,e2⟩:=h s hs
  have:=hg _ e1
  exact ⟨s,hs,by grind,by grind⟩
 ·rintro ⟨s,hs,k1,k2⟩
  obtain ⟨e1,e2⟩:=h s hs
  have:=hg _ e2
  exact ⟨s,hs,by grind,by grind⟩
def yFM (pts:List Rat) (p:Rat):Prop:=(∃ x∈pts,x≤p)∧∃ y∈pts,p<y
theorem yGK {pts:List Rat} {a:List RS} (h:yy1 pts a) {p:Rat} (hp:memP a p):yFM pts p:=by
 obtain ⟨s,hs,k1,k2⟩:=hp
 obtain ⟨e1,e2⟩:=h s hs
 exact ⟨⟨_,e1,k1⟩,⟨_,e2,k2⟩⟩
theorem yGL {full:List Rat} {f:Rat→Bool} {P:Rat→Prop} (hc:∀ x y p,(∀ z∈full,z≤x∨y≤z)→x≤p→p<y→(P p↔P x)):∀ (pts:List Rat),ygF pts→yJs full pts→(∀ x∈pts,f x=true↔P x)→∀ p,segP f pts p↔(P p∧yFM pts p)
 | [],_,_,_,p=>by
  simp only [segP]
  exact ⟨fun h=>h.elim,fun h=>by obtain ⟨x,hx,_⟩:=h.2.1;cases hx⟩
 | [x],_,_,_,p=>by
  simp only [segP]
  refine ⟨fun h=>h.elim,fun h=>?_⟩
  obtain ⟨u,hu,k1⟩:=h.2.1
  obtain ⟨v,hv,k2⟩:=h.2.2
  rw [qBb] at hu hv
  grind
 | x::y::r,hi,hg,hf,p=>by
  have ih:=yGL hc (y::r) hi.2 hg.2 (fun z hz=>hf z (qAf _ hz)) p
  have hxy:=hi.1 y qAh
  simp only [segP]
  rw [ih,hf x qAh]
  constructor
  ·rintro (⟨h1,h2,h3⟩ | ⟨h1,⟨u,hu,k1⟩,⟨v,hv,k2⟩⟩)
   ·exact ⟨(hc x y p hg.1 h2 h3).2 h1,⟨x,qAh,h2⟩,⟨y,qAf _ qAh,h3⟩⟩
   ·exact ⟨h1,⟨u,qAf _ hu,k1⟩,⟨v,qAf _ hv,k2⟩⟩
  ·rintro ⟨h1,⟨u,hu,k1⟩,⟨v,hv,k2⟩⟩
   have hxp:x≤p:=by
    rcases qAn.1 hu with rfl | hu
    ·exact k1
    ·have:=hi.1 u hu;grind
   by_cases hpy:p<y
   ·exact .inl ⟨(hc x y p hg.1 hxp hpy).1 h1,hxp,hpy⟩
   ·refine .inr ⟨h1,⟨y,qAh,by grind⟩,?_⟩
    rcases qAn.1 hv with rfl | hv
    ·exact absurd k2 (by grind)
    ·exact ⟨v,hv,k2⟩
theorem yLy {pts:List Rat} {f:Rat→Bool} {P:Rat→Prop} (hi:ygF pts) (hc:∀ x y p,(∀ z∈pts,z≤x∨y≤z)→x≤p→p<y→(P p↔P x)) (hf:∀ x∈pts,f x=true↔P x) (hh:∀ p,P p→yFM pts p) :
  ygE (jn f pts none)∧∀ p,memP (jn f pts none) p↔P p:=by
 obtain ⟨i1,_,i3⟩:=yAP f pts none hi trivial
 refine ⟨i1,fun p=>?_⟩
 rw [i3 p,yGL hc pts hi (yJt pts pts hi fun z hz=>.inl hz) hf p]
 simp only [curP,false_or]
 exact ⟨fun h=>h.1,fun h=>⟨h,hh p h⟩⟩
def insR (p:Rat):List Rat→List Rat
 | []=>[p]
 | x::r=>if p=x then x::r else if p<x then p::x::r else x::insR p r
theorem yig {p z:Rat}:∀ (l:List Rat),z∈insR p l↔(z=p∨z∈l)
 | []=>by unfold insR;simp
 | x::r=>by
  unfold insR
  by_cases h:p=x
  ·rw [if_pos h]
   subst h
   simp
  ·rw [if_neg h]
   by_cases h2:p<x
   ·rw [if_pos h2];simp
   ·rw [if_neg h2,qAn,yig r,qAn]
    constructor
    ·rintro (h | h | h)
     ·exact .inr (.inl h)
     ·exact .inl h
     ·exact .inr (.inr h)
    ·rintro (h | h | h)
     ·exact .inr (.inl h)
     ·exact .inl h
     ·exact .inr (.inr h)
theorem ydW {p:Rat}:∀ (l:List Rat),ygF l→ygF (insR p l)
 | [],_=>⟨by simp,trivial⟩
 | x::r,h=>by
  unfold insR
  by_cases h1:p=x
  ·rw [if_pos h1];exact h
  ·rw [if_neg h1]
   by_cases h2:p<x
   ·rw [if_pos h2]
    refine ⟨fun y hy=>?_,h⟩
    rcases qAn.1 hy with rfl | hy
    ·exact h2
    ·have:=h.1 y hy;grind
   ·rw [if_neg h2]
    refine ⟨fun y hy=>?_,ydW r h.2⟩
    rcases (yig r).1 hy with rfl | hy
    ·grind
    ·exact h.1 y hy
def yd3:List RS→List Rat→List Rat
 | [],out=>out
 | s::a,out=>yd3 a (insR s.2 (insR s.1 out))
theorem ynb:∀ (a:List RS) (out:List Rat),ygF out→ygF (yd3 a out)
 | [],_,h=>h
 | _::a,_,h=>ynb a _ (ydW _ (ydW _ h))
theorem yjP:∀ (a:List RS) (out:List Rat) (z:Rat),z∈out→z∈yd3 a out
 | [],_,_,h=>h
 | _::a,_,z,h=>yjP a _ z ((yig _).2 (.inr ((yig _).2 (.inr h))))
theorem ypE:∀ (a:List RS) (out:List Rat),yy1 (yd3 a out) a
 | [],_=>fun s h=>by cases h
 | t::a,out=>by
  intro s hs
  rcases qAn.1 hs with rfl | hs
  ·exact ⟨yjP a _ _ ((yig _).2 (.inr ((yig _).2 (.inl rfl)))),yjP a _ _ ((yig _).2 (.inl rfl))⟩
  ·exact ypE a _ s hs
def yGM (f:Rat→Bool) (a b:List RS):List RS:=jn f (yd3 b (yd3 a [])) none
theorem yEj {a b:List RS} {f:Rat→Bool} {c:Prop→Prop→Prop} (hf:∀ x,f x=true↔c (memP a x) (memP b x)) (h0:¬c False False) :
  ygE (yGM f a b)∧∀ p,memP (yGM f a b) p↔c (memP a p) (memP b p):=by
 have ea:yy1 (yd3 b (yd3 a [])) a:=fun s hs=>⟨yjP b _ _ (ypE a [] s hs).1,yjP b _ _ (ypE a [] s hs).2⟩
 have eb:yy1 (yd3 b (yd3 a [])) b:=ypE b _
 refine yLy (ynb b _ (ynb a _ trivial)) (fun x y p hg h1 h2=>?_) (fun x _=>hf x) (fun p hp=>?_)
 ·rw [yAQ ea hg h1 h2,yAQ eb hg h1 h2]
 ·by_cases h1:memP a p
  ·exact yGK ea h1
  ·by_cases h2:memP b p
   ·exact yGK eb h2
   ·rw [eq_false h1,eq_false h2] at hp
    exact (h0 hp).elim
end Go.Pf.Vc
namespace Go.Pf.Vc
open Go Go.Pf
def Sp.rs (s:Sp):RS:=(rt s.a s.b,rt s.c s.d)
def Sp.ok (s:Sp):Prop:=RV s.a s.b∧RV s.c s.d∧rt s.a s.b<rt s.c s.d
instance (s:Sp):Decidable s.ok:=by unfold Sp.ok;infer_instance
def Sp.i64 (s:Sp):Prop:=I64 s.a∧I64 s.b∧I64 s.c∧I64 s.d
theorem yy2 {q r:Rat} (hq:small q) (hr:small r) (K:Int→Prop):yco q.num q.den r.num r.den K=K (cmpQ q r):=by
 unfold yco yjx
 rw [yCC hq hr]
theorem yJu {a b c d:Int} (h:RV a b) (k:RV c d) (K:Int→Prop):yco a b c d K=K (cmpQ (rt a b) (rt c d)):=by
 obtain ⟨h1,h2,h3⟩:=yjM h
 obtain ⟨k1,k2,k3⟩:=yjM k
 have:=yy2 h1 k1 K
 rw [h2,h3,k2,k3] at this
 exact this
theorem yJv (q r:Rat):decide (cmpQ q r<0)=decide (q<r):=by
 unfold cmpQ
 by_cases h:q<r
 ·rw [if_pos h];simp [h]
 ·rw [if_neg h]
  split <;> simp [h]
theorem yGN (q r:Rat):decide (cmpQ q r≤0)=!decide (r<q):=by
 unfold cmpQ
 by_cases h:q<r
 ·have:¬r<q:=by grind
  rw [if_pos h];simp [this]
 ·rw [if_neg h]
  by_cases h2:r<q
  ·rw [if_pos h2];simp [h2]
  ·rw [if_neg h2];simp [h2]
theorem yJw {s:Sp} (h:s.i64) (K:Bool→Prop):ybQ s.a s.b s.c s.d K=K (decide s.ok):=by
 refine ywp _ _ _ _ _ (fun K k=>?_) K
 unfold ybQ yjw
 refine yI2 h.1 h.2.1 h.2.2.1 h.2.2.2 ?_
 by_cases h1:RV s.a s.b
 ·by_cases h2:RV s.c s.d
  ·have e:chk2 s.a s.b s.c s.d=0:=ycH.2 ⟨h1,h2⟩
   obtain ⟨_,n1,n2⟩:=yjM h1
   obtain ⟨_,n3,n4⟩:=yjM h2
   have e2:=yGx (rt s.a s.b) (rt s.c s.d)
   rw [n1,n2,n3,n4] at e2
   rw [e,if_pos rfl,ceT rfl,e2,yJv]
   have e3:decide s.ok=decide (rt s.a s.b<rt s.c s.d):=by rw [decide_eq_decide];exact ⟨fun k=>k.2.2,fun k=>⟨h1,h2,k⟩⟩
   rw [← e3];exact k
  ·have e:chk2 s.a s.b s.c s.d≠0:=fun e=>h2 (ycH.1 e).2
   rw [ceF e]
   have e3:decide s.ok=false:=decide_eq_false fun k=>h2 k.2.1
   rw [← e3];exact k
 ·have e:chk2 s.a s.b s.c s.d≠0:=fun e=>h1 (ycH.1 e).1
  rw [ceF e]
  have e3:decide s.ok=false:=decide_eq_false fun k=>h1 k.1
  rw [← e3];exact k
theorem asSp {s:Sp} {P:Prop}:asr (conf z4 (encS s)) P=P:=rfl
def yiv (l:List Sp):Bool:=l.all fun s=>decide s.ok
theorem yJx {l:List Sp} (h64:∀ s∈l,s.i64) (hl:l.length<4611686018427387904) :
  ∀ x0 x1,∀ (r i n:Nat),i+r=l.length→r<n→ydk ybQ x0 x1 n (ycS l) l.length i=if yiv (l.drop i) then x1 (ycS l) l.length l.length false else x0 8:=by
 intro x0 x1 r
 induction r with
 | zero =>
  intro i n hi hn
  obtain ⟨n,rfl⟩:∃ m,n=m+1:=⟨n-1,by omega⟩
  obtain rfl:i=l.length:=by omega
  rw [ydk,cbF (by omega),List.drop_length]
  rfl
 | succ r ih =>
  intro i n hi hn
  obtain ⟨n,rfl⟩:∃ m,n=m+1:=⟨n-1,by omega⟩
  have hil:i<l.length:=by omega
  have e1:=wib (n:=(i:Int)+1) (by omega) (by omega)
  have hm:l.getD i default∈l:=by
   rw [qAd,qAb hil]
   exact qB6 hil
  have hd:yiv (l.drop i)=(decide (l.getD i default).ok&&yiv (l.drop (i+1))):=by
   rw [ybc default hil];rfl
  rw [ydk,cbT (by omega),asT (by omega),ygD,asT (by omega),qAe,yph hil,asSp,e1,ydC]
  change ybQ (l.getD i default).a (l.getD i default).b (l.getD i default).c (l.getD i default).d _=_
  rw [yJw (h64 _ hm),hd]
  cases hv:decide (l.getD i default).ok with
  | true =>
   rw [show (!true)=false from rfl,yai,qAy]
   exact ih (i+1) n (by omega) (by omega)
  | false =>
   rw [show (!false)=true from rfl,yan,qBj]
   rfl
def allE (l:List Sp):Int:=if l.length>60 then 4 else if yiv l then 0 else 8
theorem yLz {l:List Sp} (h64:∀ s∈l,s.i64) (hl:l.length<4611686018427387904) (K:Int→Prop):ygu (ycS l) K=K (allE l):=by
 refine yzM _ _ (fun K k=>?_) K
 unfold ygu ymC
 unfold allE at k
 rw [ygD]
 by_cases h:l.length>60
 ·rw [cbT (by omega)];rw [if_pos h] at k;exact k
 ·rw [cbF (by omega)]
  rw [if_neg h] at k
  refine ⟨l.length+1,?_⟩
  refine (yJx h64 hl _ _ l.length 0 (l.length+1) (by omega) (by omega)).mpr ?_
  rw [qBe]
  split
  ·rename_i h2;rw [if_pos h2] at k;exact k
  ·rename_i h2;rw [if_neg h2] at k;exact k
def gapB:Sp→List Sp→Bool
 | _,[]=>true
 | s,t::r=>decide (s.rs.2<t.rs.1)&&gapB t r
def rsL (l:List Sp):List RS:=l.map Sp.rs
def yla (l:List Sp):Int:=if allE l=0 then (match l with | []=>0 | s::r=>if gapB s r then 0 else 8) else allE l
theorem yAR {l:List Sp} (h:allE l=0):l.length≤60∧∀ s∈l,s.ok:=by
 unfold allE at h
 split at h
 ·cases h
 ·split at h
  ·rename_i h1 h2
   exact ⟨by omega,fun s hs=>by simpa using List.all_eq_true.1 h2 s hs⟩
  ·cases h
theorem yvm:∀ (r:List Sp) (s:Sp),s.ok→(∀ t∈r,t.ok)→(gapB s r=true↔ygE (rsL (s::r)))
 | [],s,hs,_=>⟨fun _=>⟨hs.2.2,by simp,trivial⟩,fun _=>rfl⟩
 | t::r,s,hs,h=>by
  have ht:=h t qAh
  have ih:=yvm r t ht fun u hu=>h u (qAf _ hu)
  unfold gapB
  rw [qAa,decide_eq_true_eq,ih]
  constructor
  ·rintro ⟨h1,h2⟩
   refine ⟨hs.2.2,fun u hu=>?_,h2⟩
   rcases qAn.1 hu with rfl | hu
   ·exact h1
   ·have:=h2.2.1 u hu
    have:=h2.1
    show s.rs.2<u.1
    grind
  ·rintro ⟨_,h2,h3⟩
   exact ⟨h2 _ qAh,h3⟩
theorem yv3 {l:List Sp} (h:yla l=0):l.length≤60∧(∀ s∈l,s.ok)∧ygE (rsL l):=by
 unfold yla at h
 split at h
 ·rename_i h0
  obtain ⟨h1,h2⟩:=yAR h0
  refine ⟨h1,h2,?_⟩
  cases l with
  | nil=>trivial
  | cons s r =>
   dsimp only at h
   split at h
   ·rename_i hg
    exact (yvm r s (h2 s qAh) fun t ht=>h2 t (qAf _ ht)).1 hg
   ·cases h
 ·rename_i h0;exact absurd h h0
theorem yH5 {q r:Rat} (hq:small q) (hr:small r):small (maxR q r):=by unfold maxR;split <;> assumption
def yv4 (a b:List Sp):Int:=if yla a=0 then yla b else yla a
end Go.Pf.Vc
namespace Go.Pf.Vc
open Go Go.Pf Go.Sort
theorem yw5 {n d:Int}:rvB n d=true↔RV n d:=by
 unfold rvB RV
 simp only [qAa,decide_eq_true_eq]
theorem yKs {a b c d:Int} (h:RV a b) (k:RV c d):cmpI a b c d<0↔rt a b<rt c d:=by
 obtain ⟨_,h2,h3⟩:=yjM h
 obtain ⟨_,k2,k3⟩:=yjM k
 rw [Rat.lt_iff,h2,h3,k2,k3]
 unfold cmpI
 by_cases h:a*d<c*b
 ·rw [if_pos h];simp [h]
 ·rw [if_neg h]
  split <;> simp [h]
def yJy:PV→Rat
 | .agg (.int _ a::.int _ b::_)=>rt a b
 | _=>0
theorem ytZ {x y:PV} (hx:yra x=true) (hy:yra y=true):ynm x y<0↔yJy x<yJy y:=by
 unfold yra at hx hy
 split at hx
 ·split at hy
  ·simp only [ynm,yJy]
   exact yKs (yw5.1 hx) (yw5.1 hy)
  ·cases hy
 ·cases hx
theorem ykA {n g:Nat} (x:(yj8 n g).s.El):yra x.1=true:=by
 have:=x.2
 simp only [Srt.gd,qAa] at this
 exact this.2
theorem yFN (n g:Nat):SWO (fun x y:(yj8 n g).s.El=>decide ((yj8 n g).cf x y<0)) where
 irrefl x:=by
  have:=ytZ (ykA x) (ykA x)
  show decide (ynm x.1 x.1<0)=false
  rw [decide_eq_false_iff_not,this]
  exact Rat.lt_irrefl
 trans x y z h1 h2:=by
  have h1:decide (ynm x.1 y.1<0)=true:=h1
  have h2:decide (ynm y.1 z.1<0)=true:=h2
  show decide (ynm x.1 z.1<0)=true
  rw [decide_eq_true_eq,ytZ (ykA _) (ykA _)] at *
  grind
 ntrans x y z h1 h2:=by
  have h1:decide (ynm x.1 y.1<0)=false:=h1
  have h2:decide (ynm y.1 z.1<0)=false:=h2
  show decide (ynm x.1 z.1<0)=false
  rw [decide_eq_false_iff_not,ytZ (ykA _) (ykA _)] at *
  grind
theorem yvn {s:Srt}:∀ {l:List PV},(∀ x∈l,s.gd x=true)→∃ d,s.rows? l=some d
 | [],_=>⟨[],rfl⟩
 | x::r,h=>by
  obtain ⟨d,hd⟩:=yvn (s:=s) (l:=r) fun y hy=>h y (qAf _ hy)
  refine ⟨⟨x,h x qAh⟩::d,?_⟩
  simp only [Srt.rows?]
  rw [dif_pos (h x qAh),hd]
theorem RV.i1 {n d:Int} (h:RV n d):I64 n:=by obtain ⟨h1,h2,h3,h4,_⟩:=h;exact ⟨by omega,by omega⟩
theorem RV.i2 {n d:Int} (h:RV n d):I64 d:=by obtain ⟨h1,h2,h3,h4,_⟩:=h;exact ⟨by omega,by omega⟩
theorem Sp.ok.i64 {s:Sp} (h:s.ok):s.i64:=⟨h.1.i1,h.1.i2,h.2.1.i1,h.2.1.i2⟩
theorem yJz (n g:Nat) {s:Sp} (h:s.ok):(yj8 n g).s.gd (encS s)=true:=by
 obtain ⟨h1,h2,h3,h4⟩:=h.i64
 have e1:IntKind.i64.min=-9223372036854775808:=by decide
 have e2:IntKind.i64.max=9223372036854775807:=by decide
 simp only [Srt.gd,yj8,okI,encS,okL,yra,qAa,decide_eq_true_eq,e1,e2]
 unfold I64 at h1 h2 h3 h4
 exact ⟨⟨trivial,h1.1,h1.2,trivial,h2.1,h2.2,trivial,h3.1,h3.2,trivial,h4.1,h4.2,trivial⟩,yw5.2 h.1⟩
def decS:PV→Sp
 | .agg [.int _ a,.int _ b,.int _ c,.int _ d]=>⟨a,b,c,d⟩
 | _=>default
theorem yEk (s:Sp):decS (encS s)=s:=rfl
theorem yH6 (n g:Nat) {l:List Sp} (h:∀ s∈l,s.ok):∃ l':List Sp,l'.Perm l∧l'.Pairwise (fun s t=>¬t.rs.1<s.rs.1)∧Srt.sorted (yj8 n g).s (yj8 n g).srt (ycS l)=ycS l':=by
 obtain ⟨d,hd⟩:=yvn (s:=(yj8 n g).s) (l:=ycS l) fun x hx=>by
  obtain ⟨s,hs,rfl⟩:=qBw.1 hx
  exact yJz n g (h s hs)
 obtain ⟨d',h1,h2,h3⟩:=(yj8 n g).sorted_is (yFN n g) hd
 have hv:=Srt.rows?_val hd
 have hp:(d'.map (·.1)).Perm (ycS l):=by rw [← hv];exact h1.map _
 have hm:∀ x∈d'.map (·.1),∃ s∈l,encS s=x:=fun x hx=>qBw.1 (hp.mem_iff.1 hx)
 refine ⟨(d'.map (·.1)).map decS,?_,?_,?_⟩
 ·have this:(List.map decS (d'.map (·.1))).Perm (List.map decS (l.map encS)):=hp.map decS
  have e:List.map decS (l.map encS)=l:=by rw [List.map_map,show decS ∘ encS=id from funext yEk,List.map_id]
  rw [e] at this
  exact this
 ·rw [List.map_map,List.pairwise_map]
  refine h2.imp_of_mem fun {x y} hx hy hxy=>?_
  have hxy:¬ynm y.1 x.1<0:=hxy
  rw [ytZ (ykA _) (ykA _)] at hxy
  obtain ⟨s,_,es⟩:=hm x.1 (List.mem_map_of_mem hx)
  obtain ⟨t,_,et⟩:=hm y.1 (List.mem_map_of_mem hy)
  show ¬(decS y.1).rs.1<(decS x.1).rs.1
  rw [← es,← et] at hxy ⊢
  exact hxy
 ·rw [h3]
  have key:∀ (xs:List PV),(∀ x∈xs,∃ s∈l,encS s=x)→(xs.map decS).map encS=xs:=by
   intro xs
   induction xs with
   | nil=>intro _;rfl
   | cons x r ih =>
    intro h
    obtain ⟨s,_,es⟩:=h x qAh
    rw [qBx,qBx,ih fun y hy=>h y (qAf _ hy),← es,yEk]
  exact (key _ hm).symm
end Go.Pf.Vc
namespace Go.Pf.Vc
open Go Go.Pf
def spOf (r:RS):Sp:=⟨r.1.num,r.1.den,r.2.num,r.2.den⟩
def rsp (l:List RS):List PV:=ycS (l.map spOf)
def ybb (r:RS):Prop:=small r.1∧small r.2
theorem ycJ (l:List RS):(rsp l).length=l.length:=by unfold rsp;rw [ygD,qAx]
def encR (r:RS):PV:=encS (spOf r)
theorem yy3 {l:List RS} {i:Nat} (h:i<l.length):List.getD (rsp l) i .nils=encR (l.getD i default):=by
 unfold rsp
 rw [yph (by rw [qAx];exact h)]
 unfold encR
 congr 1
 rw [qAd,qAd,qBf,qAb h]
 rfl
theorem yv5 (r:RS):yaa (yab (encR r) 0)=r.1.num:=rfl
theorem yv6 (r:RS):yaa (yab (encR r) 1)=r.1.den:=rfl
theorem yv7 (r:RS):yaa (yab (encR r) 2)=r.2.num:=rfl
theorem yv8 (r:RS):yaa (yab (encR r) 3)=r.2.den:=rfl
theorem asR (r:RS) (P:Prop):asr (conf z4 (encR r)) P=P:=rfl
theorem yw6 (r:RS):([.agg [.int .i64 r.1.num,.int .i64 r.1.den,.int .i64 r.2.num,.int .i64 r.2.den]]:List PV)=rsp [r]:=rfl
theorem yGO (a b:List RS):rsp a++rsp b=rsp (a++b):=by unfold rsp ycS;rw [List.map_append,List.map_append]
theorem yGP (l:List RS) (i:Nat) (r:RS):List.set (rsp l) i (.agg [.int .i64 r.1.num,.int .i64 r.1.den,.int .i64 r.2.num,.int .i64 r.2.den])=rsp (l.set i r):=by
 unfold rsp ycS
 rw [List.map_set,List.map_set]
 rfl
theorem asE {α:Type} [DecidableEq α] (a:α) (P:Prop):asr (decide (a=a)) P=P:=by rw [decide_eq_true rfl,yaM]
theorem asEE {α:Type} [DecidableEq α] (a:α) (b:Bool) (P:Prop):asr (decide (a=a)&&b) P=asr b P:=by rw [decide_eq_true rfl,qAy]
theorem asNo {c:Prop} [Decidable c] {P:Prop} (h:¬c):asr (!decide c) P=P:=by rw [decide_eq_false h];rfl
theorem asTr (P:Prop):asr (decide True) P=P:=by rw [decide_true];rfl
theorem asTd {c:Prop} [Decidable c] {b:Bool} {P:Prop} (h:c):asr (decide c&&b) P=asr b P:=by rw [decide_eq_true h,qAy]
theorem yGQ {α:Type} {acc:List α} {c d:α} {i:Nat} (h:i=acc.length):(acc++[c]).getD i d=c:=by
 subst h
 rw [qAd,qBz (qAl _),Nat.sub_self]
 rfl
theorem yEl {α:Type} {acc:List α} {c d:α} {i:Nat} (h:i=acc.length):(acc++[c]).set i d=acc++[d]:=by
 subst h
 rw [List.set_append_right _ _ (qAl _),Nat.sub_self]
 rfl
theorem ync {l:List RS} (h:∀ s∈l,ybb s) {i:Nat} (hi:i<l.length):ybb (l.getD i default):=by
 rw [qAd,qAb hi]
 exact h _ (qB6 hi)
theorem yEm {l:List RS} (hs:∀ s∈l,ybb s) (hl:l.length<1000000) {x0:Int→Int→Bool→Prop} {x1:List PV→Int→Int→Bool→Prop} {x2:List PV→List PV→Int→Int→Bool→Prop} :
  ∀ (r i n:Nat) (acc:List RS) (c:RS),i+r=l.length→r<n→acc.length<i→ybb c →
   ybH yco x0 x1 x2 n (rsp l) (rsp (acc++[c])) (l.length:Int) (i:Int)=x2 (rsp l) (rsp (acc++mrg (l.drop i) c)) (l.length:Int) (l.length:Int) false:=by
 intro r
 induction r with
 | zero =>
  intro i n acc c hi hn ha hc
  obtain ⟨n,rfl⟩:∃ m,n=m+1:=⟨n-1,by omega⟩
  obtain rfl:i=l.length:=by omega
  rw [ybH,cbF (by omega),List.drop_length]
  rfl
 | succ r ih =>
  intro i n acc c hi hn ha hc
  obtain ⟨n,rfl⟩:∃ m,n=m+1:=⟨n-1,by omega⟩
  have hil:i<l.length:=by omega
  have e1:=wib (n:=(i:Int)+1) (by omega) (by omega)
  have hal:(acc++[c]).length=acc.length+1:=by simp
  have e2:=wib (n:=((acc.length+1:Nat):Int)-1) (by omega) (by omega)
  have e3:((acc.length+1:Nat):Int)-1=(acc.length:Int):=by omega
  rw [e3] at e2
  have hsi:=ync hs hil
  have hd:l.drop i=l.getD i default::l.drop (i+1):=ybc default hil
  generalize hx:l.getD i default=x at hd hsi
  rw [ybH,cbT (by omega)]
  dsimp only [lt,Go.Pf.jn]
  simp (discharger:=omega) only [ycJ,hal,qAe,qBa,asT,yy3,hx,asR,yv5,yv6,yv7,yv8,cbT,e3,e2,e1,yGQ,asNo,decide_true,qAy,yaM]
  rw [yy2 hsi.1 hc.2,yGN,hd]
  unfold mrg
  by_cases h:c.2<x.1
  ·rw [decide_eq_true h,if_pos h,qBq,yai,asT (by show _≤35184372088832;omega),yw6 x,yGO,ydC]
   have:=ih (i+1) n (acc++[c]) x (by omega) (by omega) (by simp;omega) hsi
   rw [this,qAu]
   rfl
  ·rw [decide_eq_false h,if_neg h,qBk,yan,yy2 hsi.2 hc.2]
   have e4:decide (cmpQ x.2 c.2>0)=decide (c.2<x.2):=by
    have:=yGN x.2 c.2
    rw [show decide (cmpQ x.2 c.2>0)=!decide (cmpQ x.2 c.2≤0) by rw [← decide_not];simp,this,Bool.not_not]
   rw [e4]
   unfold maxR
   by_cases h2:c.2<x.2
   ·have e5:List.set (rsp (acc++[c])) acc.length (.agg [.int .i64 c.1.num,.int .i64 c.1.den,.int .i64 x.2.num,.int .i64 x.2.den])=rsp (acc++[(c.1,x.2)]):=by
     rw [yGP _ _ (c.1,x.2),yEl rfl]
    rw [decide_eq_true h2,if_pos h2,yan,e5,ycJ,show (acc++[(c.1,x.2)]).length=acc.length+1 by simp]
    simp only [decide_true,qAy,yaM,ydC]
    exact ih (i+1) n acc (c.1,x.2) (by omega) (by omega) (by omega) ⟨hc.1,hsi.2⟩
   ·rw [decide_eq_false h2,if_neg h2,yai,ydC]
    exact ih (i+1) n acc c (by omega) (by omega) (by omega) hc
theorem yKt {s:Sp} (h:s.ok):spOf s.rs=s:=by
 obtain ⟨_,h2,h3⟩:=yjM h.1
 obtain ⟨_,k2,k3⟩:=yjM h.2.1
 unfold spOf Sp.rs
 cases s
 simp only at h2 h3 k2 k3 ⊢
 rw [h2,h3,k2,k3]
theorem yGR {r:RS} (_:ybb r):(spOf r).rs=r:=by
 show (rt r.1.num r.1.den,rt r.2.num r.2.den)=r
 rw [yf9,yf9]
theorem yt0 {r:RS} (h:ybb r) (hv:r.1<r.2):(spOf r).ok:=⟨h.1.rv,h.2.rv,by
 show rt r.1.num r.1.den<rt r.2.num r.2.den
 rw [yf9,yf9];exact hv⟩
theorem yy4 {s:Sp} (h:s.ok):ybb s.rs:=⟨(yjM h.1).1,(yjM h.2.1).1⟩
theorem ypF {l:List Sp} (h:∀ s∈l,s.ok):ycS l=rsp (rsL l):=by
 unfold rsp rsL
 rw [List.map_map]
 congr 1
 conv=>lhs;rw [← List.map_id l]
 exact List.map_congr_left fun s hs=>(yKt (h s hs)).symm
theorem yAS:∀ {l:List RS},l.Pairwise (fun s t=>¬t.1<s.1)→yso l
 | [],_=>trivial
 | s::r,h=>by
  rw [List.pairwise_cons] at h
  exact ⟨fun t ht=>by have:=h.1 t ht;grind,yAS h.2⟩
theorem yH7 {l:List RS} (hs:∀ s∈l,ybb s) (hv:∀ s∈l,s.1<s.2) (hl:l.length<100000):∃ l':List RS,l'.Perm l∧yso l'∧∀ K,ydO (rsp l) K=K (rsp (ysn l')):=by
 obtain ⟨m,h1,h2,h3⟩:=yH6 ybg yc4 (l:=l.map spOf) (fun s h=>by
  obtain ⟨r,hr,rfl⟩:=qBw.1 h
  exact yt0 (hs r hr) (hv r hr))
 have hm:∀ s∈m,s.ok:=fun s h=>by
  obtain ⟨r,hr,rfl⟩:=qBw.1 (h1.mem_iff.1 h)
  exact yt0 (hs r hr) (hv r hr)
 have hp:(rsL m).Perm l:=by
  have:=h1.map Sp.rs
  rw [List.map_map] at this
  have e:l.map (Sp.rs ∘ spOf)=l:=by
   conv=>rhs;rw [← List.map_id l]
   exact List.map_congr_left fun r hr=>yGR (hs r hr)
  rw [e] at this
  exact this
 have hb:yso (rsL m):=yAS (List.pairwise_map.2 h2)
 refine ⟨rsL m,hp,hb,fun K=>?_⟩
 refine yuV _ _ (fun K k=>?_) K
 unfold ydO yio
 have hlen:(rsL m).length=l.length:=hp.length_eq
 have hc:yd7 4 32 (rsp l)=true:=by
  unfold yd7
  rw [qAa,decide_eq_true_eq,ycJ]
  refine ⟨?_,by show _≤35184372088832;omega⟩
  cases l <;> rfl
 rw [hc,yaM]
 cases l with
 | nil =>
  have e:rsL m=[]:=qBc (by rw [hlen];rfl)
  rw [e] at k
  exact ⟨1,k⟩
 | cons x r =>
  rw [show List.isEmpty (rsp (x::r))=false from rfl,yai]
  have hsm:ybb x:=hs x qAh
  have hd:∃ d,(yrL).s.rows? (rsp (x::r))=some d:=yvn fun y hy=>by
   obtain ⟨s,h4,rfl⟩:=qBw.1 hy
   obtain ⟨q,hq,rfl⟩:=qBw.1 h4
   exact yJz _ _ (yt0 (hs q hq) (hv q hq))
  obtain ⟨d,hd⟩:=hd
  have hcond:Srt.cond yrL.s (rsp (x::r)) 0 (rsp (x::r)).length (rsp (x::r)).length 4 false=true:=by
   unfold Srt.cond
   rw [qBe,qAr,hd,ycJ]
   simp only [decide_true,qAy,qBk,Option.isSome_some,Bool.and_true,qAa,decide_eq_true_eq,qBa,qAl]
   exact ⟨by simp,rfl,by omega⟩
  rw [hcond,yaM]
  have hsrt:Srt.sorted yrL.s yrL.srt (rsp (x::r))=rsp (rsL m):=by
   rw [show rsp (x::r)=ycS ((x::r).map spOf) from rfl,← ypF hm]
   exact h3
  rw [List.take_zero,qBe,qAr,hsrt,List.nil_append,qBa,List.drop_length,List.append_nil,ycJ,ycJ,hlen]
  simp only [decide_true,qAy,yaM]
  have hms:∀ s∈rsL m,ybb s:=fun s h=>hs s (hp.mem_iff.1 h)
  cases hq:rsL m with
  | nil=>rw [hq] at hlen;cases hlen
  | cons y t =>
   rw [hq] at k hms hlen
   refine ⟨(y::t).length+2,?_⟩
   have hy:ybb y:=hms y qAh
   rw [yge,cbT (by simp only [qAk];omega)]
   dsimp only [lt,Go.Pf.jn]
   have e1:IntKind.i64.wrap ((0:Int)+1)=((1:Nat):Int):=by decide
   have e2:(rsp (y::t)).length=(x::r).length:=by rw [ycJ,hlen]
   have e3:List.getD (rsp (y::t)) (0+(0:Int).toNat) .nils=encR y:=rfl
   rw [asT (by omega),asT (by rw [e2];simp only [qAk];omega),asE,asT (by rw [e2];simp),e3,asR,yv5,yv6,yv7,yv8,e1,yw6,← hlen]
   rw [show (rsp [y]).length=1 from rfl]
   simp only [decide_true,qAy,yaM]
   have:=yEm hms (by rw [hlen];omega) (x0:=fun b c f=>K ([]:List PV)) (x1:=fun g i j n=>K ([]:List PV))
    (x2:=fun o a p u v=>asr (decide ((0+(List.length a))≤(List.length a))) (K (List.take (List.length a) a)))
    t.length 1 ((y::t).length+1) [] y (by simp only [qAk];omega) (by simp only [qAk];omega) (by simp) hy
   rw [List.nil_append] at this
   refine this.mpr ?_
   rw [asT (by omega),qAr]
   exact k
theorem yEn {a b c d:Int} (h:RV a b) (k:RV c d) (K:Bool→Prop):yaN a b c d K=K (decide (rt a b<rt c d)):=by
 obtain ⟨h1,h2,h3⟩:=yjM h
 obtain ⟨k1,k2,k3⟩:=yjM k
 have:=ytV h1 k1 K
 rw [h2,h3,k2,k3] at this
 exact this
theorem yAT {s:Sp} (h:s.i64) (K:Bool→Prop):ybp s.a s.b s.c s.d K=K (decide s.ok):=by
 unfold ybp ymS
 dsimp only [Go.Pf.jn]
 rw [yJf h.1 h.2.1 h.2.2.1 h.2.2.2]
 by_cases h1:RV s.a s.b∧RV s.c s.d
 ·rw [ceT (ycH.2 h1),yEn h1.1 h1.2]
  have e3:decide s.ok=decide (rt s.a s.b<rt s.c s.d):=by rw [decide_eq_decide];exact ⟨fun k=>k.2.2,fun k=>⟨h1.1,h1.2,k⟩⟩
  rw [e3]
 ·rw [ceF fun e=>h1 (ycH.1 e)]
  have e3:decide s.ok=false:=decide_eq_false fun k=>h1 ⟨k.1,k.2.1⟩
  rw [e3]
theorem Sp.getD_mem {l:List Sp} {i:Nat} (h:i<l.length):l.getD i default∈l:=by
 rw [qAd,qAb h]
 exact qB6 h
def chkB:Option Sp→List Sp→Bool
 | _,[]=>true
 | none,t::r=>decide t.ok&&chkB (some t) r
 | some s,t::r=>decide t.ok&&(decide (s.rs.2<t.rs.1)&&chkB (some t) r)
theorem yAU (t:Sp) (r:List Sp):chkB none (t::r)=(decide t.ok&&chkB (some t) r):=rfl
theorem yvo (s t:Sp) (r:List Sp):chkB (some s) (t::r)=(decide t.ok&&(decide (s.rs.2<t.rs.1)&&chkB (some t) r)):=rfl
theorem yEo {l:List Sp} (h64:∀ s∈l,s.i64) (hl:l.length<4611686018427387904) {x0:List PV→Int→Bool→Prop} {x1:Int→Prop} :
  ∀ (r i n:Nat) (p:Option Sp),i+r=l.length→r<n→(p=if i=0 then none else some (l.getD (i-1) default))→(∀ s,p=some s→s.ok) →
   ydn ybp yaN x0 x1 n (ycS l) (i:Int)=if chkB p (l.drop i) then x0 (ycS l) (l.length:Int) false else x1 8:=by
 intro r
 induction r with
 | zero =>
  intro i n p hi hn _ _
  obtain ⟨n,rfl⟩:∃ m,n=m+1:=⟨n-1,by omega⟩
  obtain rfl:i=l.length:=by omega
  rw [ydn,ygD,cbF (by omega),List.drop_length]
  unfold chkB
  rfl
 | succ r ih =>
  intro i n p hi hn hp hpo
  obtain ⟨n,rfl⟩:∃ m,n=m+1:=⟨n-1,by omega⟩
  have hil:i<l.length:=by omega
  have e1:=wib (n:=(i:Int)+1) (by omega) (by omega)
  have hd:l.drop i=l.getD i default::l.drop (i+1):=ybc default hil
  have hx:=h64 _ (Sp.getD_mem hil)
  have IH:=fun (ho:(l.getD i default).ok)=>ih (i+1) n (some (l.getD i default)) (by omega) (by omega) (by rw [if_neg (by omega)];rfl) (fun s hs=>by cases hs;exact ho)
  rw [ydn,ygD,cbT (by omega)]
  dsimp only [lt,Go.Pf.jn]
  rw [asT (by omega),asT (by omega),qAe,yph hil,asSp,e1,hd]
  change ybp (l.getD i default).a (l.getD i default).b (l.getD i default).c (l.getD i default).d _=_
  rw [yAT hx]
  by_cases ho:(l.getD i default).ok
  ·rw [decide_eq_true ho,show (!true)=false from rfl,yai]
   by_cases h0:i=0
   ·subst h0
    rw [if_pos rfl] at hp
    subst hp
    rw [cbF (by omega),yai,ydC]
    have:=IH ho
    rw [this,yAU,decide_eq_true ho,qAy]
   ·rw [if_neg h0] at hp
    have e2:=wib (n:=(i:Int)-1) (by omega) (by omega)
    have e3:((i:Int)-1).toNat=i-1:=by omega
    rw [cbT (by omega),e2,asT (by omega),asT (by omega),e3,yph (by omega),asSp,asT (by omega),asT (by omega),asSp]
    subst hp
    have hpo:=hpo _ rfl
    change yaN (l.getD (i-1) default).c (l.getD (i-1) default).d (l.getD i default).a (l.getD i default).b _=_
    rw [yEn hpo.2.1 ho.1]
    rw [yvo,decide_eq_true ho,qAy]
    show cbr (!decide ((l.getD (i-1) default).rs.2<(l.getD i default).rs.1)) _ _=_
    cases decide ((l.getD (i-1) default).rs.2<(l.getD i default).rs.1) with
    | true =>
     rw [show (!true)=false from rfl,yai,ydC,qAy]
     exact IH ho
    | false =>
     rw [show (!false)=true from rfl,yan,qBj]
     rfl
  ·rw [decide_eq_false ho,show (!false)=true from rfl,yan,yan]
   cases p with
   | none=>rw [yAU,decide_eq_false ho,qBj];rfl
   | some s=>rw [yvo,decide_eq_false ho,qBj];rfl
theorem yEp:∀ (r:List Sp) (s:Sp),chkB (some s) r=(yiv r&&gapB s r)
 | [],s=>rfl
 | t::r,s=>by
  rw [yvo,yEp r t]
  rw [show gapB s (t::r)=(decide (s.rs.2<t.rs.1)&&gapB t r) from rfl]
  show _=((decide t.ok&&yiv r)&&_)
  cases decide t.ok <;> cases decide (s.rs.2<t.rs.1) <;> cases yiv r <;> cases gapB t r <;> rfl
theorem ysp {l:List Sp} (h64:∀ s∈l,s.i64) (hl:l.length<4611686018427387904) (K:Int→Prop):ygw (ycS l) K=K (yla l):=by
 refine yzX _ _ (fun K k=>?_) K
 unfold ygw ymT
 rw [ygD]
 unfold yla allE at k
 by_cases h:l.length>60
 ·rw [cbT (by omega)]
  rw [if_pos h,if_neg (by omega)] at k
  exact k
 ·rw [cbF (by omega)]
  rw [if_neg h] at k
  refine ⟨l.length+1,?_⟩
  refine (yEo h64 hl l.length 0 (l.length+1) none (by omega) (by omega) rfl (fun s h=>by cases h)).mpr ?_
  rw [qBe]
  cases l with
  | nil=>exact k
  | cons s r =>
   have e:chkB none (s::r)=(yiv (s::r)&&gapB s r):=by
    show (decide s.ok&&chkB (some s) r)=_
    rw [yEp]
    show _=((decide s.ok&&yiv r)&&_)
    rw [Bool.and_assoc]
   rw [e]
   dsimp only at k
   cases h1:yiv (s::r) with
   | true =>
    rw [h1,if_pos rfl,if_pos rfl] at k
    rw [qAy]
    split
    ·rename_i h2;rw [if_pos h2] at k;exact k
    ·rename_i h2;rw [if_neg h2] at k;exact k
   | false =>
    rw [h1,if_neg (by simp)] at k
    rw [qBj,if_neg (by simp)]
    rw [if_neg (by decide)] at k
    exact k
theorem yAV {a b:List Sp} (ha:∀ s∈a,s.i64) (hb:∀ s∈b,s.i64) (hla:a.length<4611686018427387904) (hlb:b.length<4611686018427387904) (K:Int→Prop):ymV (ycS a) (ycS b) K=K (yv4 a b):=by
 unfold ymV yoT yv4
 rw [ysp ha hla]
 by_cases h:yla a=0
 ·rw [cnF h,if_pos h,ysp hb hlb]
 ·rw [cnT h,if_neg h,ysp ha hla]
def inB (l:List RS) (p:Rat):Bool:=l.any fun s=>!decide (p<s.1)&&decide (p<s.2)
theorem yGS {l:List RS} {p:Rat}:inB l p=true↔memP l p:=by
 unfold inB memP inS
 rw [List.any_eq_true]
 constructor
 ·rintro ⟨s,h1,h2⟩
  simp only [qAa,qAs,decide_eq_false_iff_not,decide_eq_true_eq] at h2
  exact ⟨s,h1,by grind,h2.2⟩
 ·rintro ⟨s,h1,h2,h3⟩
  refine ⟨s,h1,?_⟩
  simp only [qAa,qAs,decide_eq_false_iff_not,decide_eq_true_eq]
  exact ⟨by grind,h3⟩
theorem yKu {l:List RS} (hs:∀ s∈l,ybb s) (hl:l.length<4611686018427387904) {p:Rat} (hp:small p) {x0:List PV→Int→Int→Int→Bool→Prop} {x1:Bool→Prop} :
  ∀ (r i n:Nat),i+r=l.length→r<n→yfu yaN x0 x1 n (rsp l) p.num p.den (i:Int)=if inB (l.drop i) p then x1 true else x0 (rsp l) p.num p.den (l.length:Int) false:=by
 intro r
 induction r with
 | zero =>
  intro i n hi hn
  obtain ⟨n,rfl⟩:∃ m,n=m+1:=⟨n-1,by omega⟩
  obtain rfl:i=l.length:=by omega
  rw [yfu,ycJ,cbF (by omega),List.drop_length]
  rfl
 | succ r ih =>
  intro i n hi hn
  obtain ⟨n,rfl⟩:∃ m,n=m+1:=⟨n-1,by omega⟩
  have hil:i<l.length:=by omega
  have e1:=wib (n:=(i:Int)+1) (by omega) (by omega)
  have hd:l.drop i=l.getD i default::l.drop (i+1):=ybc default hil
  have hx:=ync hs hil
  rw [yfu,ycJ,cbT (by omega)]
  dsimp only [lt,Go.Pf.jn]
  rw [asT (by omega),asT (by omega),qAe,yy3 hil,asR,yv5,yv6,yv7,yv8,ytV hp hx.1,e1,ydC,asT (by omega),asT (by omega),asR,ytV hp hx.2,hd]
  have e:inB (l.getD i default::l.drop (i+1)) p=((!decide (p<(l.getD i default).1)&&decide (p<(l.getD i default).2))||inB (l.drop (i+1)) p):=rfl
  rw [e]
  cases decide (p<(l.getD i default).1) with
  | true =>
   rw [show (!true)=false from rfl,yai,yai,qBj,Bool.false_or]
   exact ih (i+1) n (by omega) (by omega)
  | false =>
   rw [show (!false)=true from rfl,yan,qAy]
   cases decide (p<(l.getD i default).2) with
   | true=>rfl
   | false =>
    rw [yai,Bool.false_or]
    exact ih (i+1) n (by omega) (by omega)
theorem yCF {l:List RS} (hs:∀ s∈l,ybb s) (hl:l.length<4611686018427387904) {p:Rat} (hp:small p) (K:Bool→Prop):yfZ (rsp l) p.num p.den K=K (inB l p):=by
 refine yFz _ _ _ _ (fun K k=>?_) K
 unfold yfZ yu9
 refine ⟨l.length+1,?_⟩
 refine (yKu hs hl hp l.length 0 (l.length+1) (by omega) (by omega)).mpr ?_
 rw [qBe]
 cases h:inB l p with
 | true=>rw [h] at k;exact k
 | false=>rw [h] at k;exact k
def encW (q:Rat):PV:=.agg [.int .i64 q.num,.int .i64 q.den]
def rts (l:List Rat):List PV:=l.map encW
theorem yfz (l:List Rat):(rts l).length=l.length:=qAx ..
theorem ylb {l:List Rat} {i:Nat} (h:i<l.length):List.getD (rts l) i .nils=encW (l.getD i 0):=by
 unfold rts
 rw [qAd,qAd,qBf,qAb h]
 rfl
theorem yv9 (q:Rat):yaa (yab (encW q) 0)=q.num:=rfl
theorem ywa (q:Rat):yaa (yab (encW q) 1)=q.den:=rfl
theorem asW (q:Rat) (P:Prop):asr (conf z2 (encW q)) P=P:=rfl
theorem yKv (q:Rat):([.agg [.int .i64 q.num,.int .i64 q.den]]:List PV)=rts [q]:=rfl
theorem yKw (q:Rat):(.agg [.int .i64 q.num,.int .i64 q.den]:PV)=encW q:=rfl
theorem yKx (a b:List Rat):rts a++rts b=rts (a++b):=by unfold rts;rw [List.map_append]
theorem yKy (l:List Rat) (i:Nat) (q:Rat):List.set (rts l) i (encW q)=rts (l.set i q):=by unfold rts;rw [List.map_set]
theorem yKS (a b:Rat):((a.num == b.num)&&(((a.den:Int) ==(b.den:Int))&&true))=decide (a=b):=by
 rw [Bool.and_true,Bool.eq_iff_iff]
 simp only [qAa,beq_iff_eq,decide_eq_true_eq]
 constructor
 ·rintro ⟨h1,h2⟩;exact Rat.ext h1 (by omega)
 ·rintro rfl;exact ⟨rfl,rfl⟩
theorem yEq {l:List Rat} {i:Nat} (h:i<l.length):l.getD i 0∈l:=by
 rw [qAd,qAb h]
 exact qB6 h
theorem yJA {out:List Rat} (hl:out.length<4611686018427387904) {q:Rat} {x0:Int→Int→Int→Bool→Prop} {x1:List PV→Int→Int→Int→Bool→Prop} {x2:List PV→Prop} :
  ∀ (r i n:Nat),i+r=out.length→r<n→ybj yaN x0 x1 x2 n (rts out) q.num q.den (i:Int)=if q∈out.drop i then x2 (rts out) else x1 (rts out) q.num q.den (out.length:Int) false:=by
 intro r
 induction r with
 | zero =>
  intro i n hi hn
  obtain ⟨n,rfl⟩:∃ m,n=m+1:=⟨n-1,by omega⟩
  obtain rfl:i=out.length:=by omega
  rw [ybj,yfz,cbF (by omega),List.drop_length,if_neg (by simp)]
 | succ r ih =>
  intro i n hi hn
  obtain ⟨n,rfl⟩:∃ m,n=m+1:=⟨n-1,by omega⟩
  have hil:i<out.length:=by omega
  have e1:=wib (n:=(i:Int)+1) (by omega) (by omega)
  have hd:out.drop i=out.getD i 0::out.drop (i+1):=ybc 0 hil
  rw [ybj,yfz,cbT (by omega)]
  dsimp only [lt,Go.Pf.jn]
  rw [asT (by omega),asT (by omega),asE,qAe,qBa,asT (by omega),ylb hil,asW,yv9,ywa,yKS,e1,ydC,asEE,asE,ih (i+1) n (by omega) (by omega),hd]
  by_cases h:out.getD i 0=q
  ·rw [cbT h,if_pos (by rw [h];exact qAh)]
  ·rw [cbF h]
   by_cases h2:q∈out.drop (i+1)
   ·rw [if_pos h2,if_pos (qAf _ h2)]
   ·rw [if_neg h2,if_neg (by rw [qAn];rintro (h3 | h3);exact h h3.symm;exact h2 h3)]
theorem yAW {q x:Rat}:∀ {pre:List Rat},ygF (pre++[x])→q∉pre++[x]→insR q (pre++[x])=if q<x then insR q pre++[x] else pre++[x,q]
 | [],h,hn=>by
  have hne:q≠x:=fun e=>hn (by simp [e])
  show insR q [x]=_
  unfold insR
  rw [if_neg hne]
  split <;> rfl
 | y::pre,h,hn=>by
  have h2:ygF (pre++[x]):=h.2
  have hy:q≠y:=fun e=>hn (by simp [e])
  have hx:y<x:=h.1 x (by simp)
  have ih:=yAW (q:=q) h2 (fun hm=>hn (qAf _ hm))
  show insR q (y::(pre++[x]))=_
  unfold insR
  rw [if_neg hy,if_neg hy]
  by_cases h3:q<y
  ·rw [if_pos h3,if_pos h3,if_pos (by grind)]
   rfl
  ·rw [if_neg h3,if_neg h3,ih]
   split <;> rfl
theorem yy5:∀ {a b:List Rat},ygF (a++b)→ygF a
 | [],_,_=>trivial
 | _::_,_,h=>⟨fun z hz=>h.1 z (List.mem_append_left _ hz),yy5 h.2⟩
theorem yEr {x0:List PV→Int→Bool→Prop} {K:List PV→Prop} (hx:∀ L i b,x0 L i b=K L) {q:Rat} (hq:small q) :
  ∀ (j n:Nat) (pre suf:List Rat),pre.length=j→j<n→pre.length+suf.length<1000000→(∀ z∈pre,small z)→ygF pre→q∉pre →
   yaO yaN x0 n (rts (pre++q::suf)) (j:Int)=K (rts (insR q pre++suf)):=by
 intro j
 induction j with
 | zero =>
  intro n pre suf hj hn hl hs hi hm
  obtain ⟨n,rfl⟩:∃ m,n=m+1:=⟨n-1,by omega⟩
  have:pre=[]:=qBc hj
  subst this
  rw [yaO]
  dsimp only [lt,Go.Pf.jn]
  rw [cbF (by omega),yai,hx]
  rfl
 | succ j ih =>
  intro n pre suf hj hn hl hs hi hm
  obtain ⟨n,rfl⟩:∃ m,n=m+1:=⟨n-1,by omega⟩
  obtain ⟨pre,x,rfl⟩:∃ p x,pre=p++[x]:=⟨pre.dropLast,pre.getLast (by intro h;rw [h] at hj;cases hj),(List.dropLast_concat_getLast _).symm⟩
  have hj2:pre.length=j:=by simpa using hj
  have hl2:(pre++[x]++q::suf).length=j+2+suf.length:=by simp;omega
  have e1:=wib (n:=((j+1:Nat):Int)-1) (by omega) (by omega)
  have e2:((j+1:Nat):Int)-1=(j:Int):=by omega
  rw [e2] at e1
  have g1:(pre++[x]++q::suf).getD (j+1) 0=q:=by
   rw [qAd,qBz (by simp;omega)]
   simp [hj2]
  have g2:(pre++[x]++q::suf).getD j 0=x:=by
   rw [qAu,qAd,qBz (by omega)]
   simp [hj2]
  have s1:(pre++[x]++q::suf).set j q=pre++[q]++q::suf:=by
   rw [qAu,List.set_append_right _ _ (by omega),hj2,Nat.sub_self,qAu]
   rfl
  have s2:(pre++[q]++q::suf).set (j+1) x=pre++q::(x::suf):=by
   rw [List.set_append_right _ _ (by simp;omega)]
   simp [hj2]
  have g3:(pre++[q]++q::suf).getD (j+1) 0=q:=by
   rw [qAd,qBz (by simp;omega)]
   simp [hj2]
  have hl3:(pre++[q]++q::suf).length=j+2+suf.length:=by simp;omega
  have hxs:small x:=hs x (by simp)
  rw [yaO]
  dsimp only [lt,Go.Pf.jn]
  rw [cbT (by omega)]
  simp (discharger:=omega) only [e2,e1,yfz,hl2,asT,qAe,qBa,ylb,g1,g2,asW,yv9,ywa,yKw,yKy,s1,g3,hl3,s2,ytV hq hxs]
  rw [yAW hi hm]
  by_cases h:q<x
  ·rw [cbT h,if_pos h]
   rw [show (pre++q::x::suf).length=j+2+suf.length by simp;omega,asTd rfl,asT rfl]
   have:=ih n pre (x::suf) hj2 (by omega) (by simp at hl ⊢;omega) (fun z hz=>hs z (by simp [hz])) (yy5 hi) (fun hm2=>hm (by simp [hm2]))
   rw [this,qAu]
   rfl
  ·rw [cbF h,if_neg h,hx,qAu,qAu]
   rfl
theorem ydB {q:Rat} (hq:small q) {out:List Rat} (hs:∀ z∈out,small z):∀ z∈insR q out,small z:=fun z hz=>by
 rcases (yig out).1 hz with rfl | h
 ·exact hq
 ·exact hs z h
theorem yfh {q:Rat}:∀ (out:List Rat),(insR q out).length≤out.length+1
 | []=>qAl _
 | x::r=>by
  unfold insR
  split
  ·simp
  ·split
   ·simp
   ·have:=yfh (q:=q) r
    simp only [qAk];omega
theorem yGT {q:Rat}:∀ {out:List Rat},ygF out→q∈out→insR q out=out
 | [],_,h=>by cases h
 | x::r,hi,h=>by
  unfold insR
  by_cases h1:q=x
  ·rw [if_pos h1]
  ·rw [if_neg h1]
   have h2:q∈r:=by
    rcases qAn.1 h with h3 | h3
    ·exact absurd h3 h1
    ·exact h3
   have:=hi.1 q h2
   rw [if_neg (by grind),yGT hi.2 h2]
theorem ypG {out:List Rat} {q:Rat} (hs:∀ z∈out,small z) (hi:ygF out) (hq:small q) (hl:out.length<100000) {x0:Int→Int→Int→Bool→Prop} {K:List PV→Prop} (k:K (rts (insR q out))) :
  ∃ n:Nat,ybj yaN x0
   (fun yl i1 i2 _ _=>(asr (decide ((List.length yl)=(List.length yl)))
   (asr (decide ((0+(List.length yl))≤(List.length yl)))
   (asr (!(decide (((0+(List.length yl))+1)≤(List.length yl))))
   (asr (decide ((List.length yl)=(List.length yl)))
   (asr (decide ((((List.length yl)+1)+64)*(16+1)≤room))
   (lt (IntKind.i64.wrap ((((List.length (yl++([(.agg [(.int .i64 i1),(.int .i64 i2)])]:List PV))):Nat):Int)-(1:Int))) (fun yi =>
   (asr (decide ((List.length (yl++([(.agg [(.int .i64 i1),(.int .i64 i2)])]:List PV)))=List.length (yl++([(.agg [(.int .i64 i1),(.int .i64 i2)])]:List PV)))&&decide ((List.length (yl++([(.agg [(.int .i64 i1),(.int .i64 i2)])]:List PV)))=List.length (yl++([(.agg [(.int .i64 i1),(.int .i64 i2)])]:List PV))))
   (∃ n:Nat,yaO yaN (fun yl _ _=>K yl) n (yl++([(.agg [(.int .i64 i1),(.int .i64 i2)])]:List PV)) yi))))))))))
   (fun yl=>K yl) n (rts out) q.num q.den (0:Int):=by
 refine ⟨out.length+1,?_⟩
 refine (yJA (by omega) out.length 0 (out.length+1) (by omega) (by omega)).mpr ?_
 rw [qBe]
 by_cases h:q∈out
 ·rw [if_pos h]
  rw [yGT hi h] at k
  exact k
 ·rw [if_neg h]
  have e1:=wib (n:=((out.length+1:Nat):Int)-1) (by omega) (by omega)
  have e2:((out.length+1:Nat):Int)-1=(out.length:Int):=by omega
  rw [e2] at e1
  have e3:(rts out++([(.agg [(.int .i64 q.num),(.int .i64 q.den)])]:List PV))=rts (out++[q]):=by rw [yKv,yKx]
  have e4:(rts (out++[q])).length=out.length+1:=by rw [yfz];simp
  dsimp only [lt]
  rw [e3,e4,e2,e1,yfz,asE,asT (by omega),asNo (by omega),asE,asT (by show _≤35184372088832;omega),asEE,asE]
  refine ⟨out.length+1,?_⟩
  refine (yEr (x0:=fun yl _ _=>K yl) (K:=K) (fun _ _ _=>rfl) hq out.length (out.length+1) out [] rfl (by omega) (by simp;omega) hs hi h).mpr ?_
  rw [List.append_nil]
  exact k
theorem yGU {q:Rat} (hq:small q) {x1:List PV→Int→Int→Int→Bool→Prop} {x2:List PV→Prop} {K:List PV→Prop} (k:K (rts [q])) :
  ∃ n:Nat,yfa yaN
   (fun i1 i2 _ _=>(asr (decide (1=List.length ([(.agg [(.int .i64 i1),(.int .i64 i2)])]:List PV))&&decide (1=List.length ([(.agg [(.int .i64 i1),(.int .i64 i2)])]:List PV)))
   (∃ n:Nat,yaO yaN (fun yl _ _=>K yl) n ([(.agg [(.int .i64 i1),(.int .i64 i2)])]:List PV) (0:Int))))
   x1 x2 n q.num q.den (0:Int):=by
 refine ⟨1,?_⟩
 rw [yfa,cbF (by omega)]
 refine yax.2 ⟨rfl,1,?_⟩
 exact (yEr (x0:=fun yl _ _=>K yl) (K:=K) (fun _ _ _=>rfl) hq 0 1 [] [] rfl (by omega) (by simp) (by simp) trivial (by simp)).mpr k
theorem ykB:∀ {l:List RS} {out:List Rat},(∀ s∈l,ybb s)→(∀ z∈out,small z)→∀ z∈yd3 l out,small z
 | [],_,_,h=>h
 | s::a,_,hl,h=>ykB (l:=a) (fun t ht=>hl t (qAf _ ht)) (ydB (hl s qAh).2 (ydB (hl s qAh).1 h))
theorem ypH:∀ (l:List RS) (out:List Rat),(yd3 l out).length≤out.length+2*l.length
 | [],_=>qAl _
 | s::a,out=>by
  have h1:=ypH a (insR s.2 (insR s.1 out))
  have h2:=yfh (q:=s.2) (insR s.1 out)
  have h3:=yfh (q:=s.1) out
  show (yd3 a _).length≤_
  simp only [qAk];omega
theorem yy6 {l:List RS} (hs:∀ s∈l,ybb s) (hl:l.length<10000) {x0:List PV→Int→Bool→Prop} {x1:List PV→List PV→Int→Bool→Prop} :
  ∀ (r i n:Nat) (out:List Rat),i+r=l.length→r<n→(∀ z∈out,small z)→ygF out→out.length≤40000+2*i →
   x1 (rts (yd3 (l.drop i) out)) (rsp l) (l.length:Int) false→ybU yaN x0 x1 n (rts out) (rsp l) (i:Int):=by
 intro r
 induction r with
 | zero =>
  intro i n out hi hn ho hc hb k
  obtain ⟨n,rfl⟩:∃ m,n=m+1:=⟨n-1,by omega⟩
  obtain rfl:i=l.length:=by omega
  rw [ybU,ycJ,cbF (by omega)]
  rw [List.drop_length] at k
  exact k
 | succ r ih =>
  intro i n out hi hn ho hc hb k
  obtain ⟨n,rfl⟩:∃ m,n=m+1:=⟨n-1,by omega⟩
  have hil:i<l.length:=by omega
  have e1:=wib (n:=(i:Int)+1) (by omega) (by omega)
  have hd:l.drop i=l.getD i default::l.drop (i+1):=ybc default hil
  have hx:=ync hs hil
  rw [hd] at k
  have h1:=yfh (q:=(l.getD i default).1) out
  have h2:=yfh (q:=(l.getD i default).2) (insR (l.getD i default).1 out)
  rw [ybU,ycJ,cbT (by omega)]
  dsimp only [Go.Pf.jn]
  rw [asT (by omega),asT (by omega),qAe,yy3 hil]
  show asr (conf z4 (encR (l.getD i default))) _
  rw [asR,yv5,yv6,asEE,asE]
  refine ypG ho hc hx.1 (by omega) ?_
  rw [asT (by omega),asT (by omega)]
  show asr (conf z4 (encR (l.getD i default))) _
  rw [asR,yv7,yv8,asEE,asE]
  refine ypG (ydB hx.1 ho) (ydW _ hc) hx.2 (by omega) ?_
  show asr _ (ybU yaN x0 x1 n _ _ (IntKind.i64.wrap ((i:Int)+1)))
  rw [asEE,asE,e1,ydC]
  exact ih (i+1) n _ (by omega) (by omega) (ydB hx.2 (ydB hx.1 ho)) (ydW _ (ydW _ hc)) (by omega) k
theorem yH8 {l:List RS} (hs:∀ s∈l,ybb s) (hl:l.length<10000) {x0:List PV→Int→Bool→Prop} {x1:List PV→List PV→Int→Bool→Prop} (h0:l=[]→x0 (rsp l) 0 false)
  (h1:l≠[]→x1 (rts (yd3 l [])) (rsp l) (l.length:Int) false):yfb yaN x0 x1 (l.length+2) (rsp l) (0:Int):=by
 cases l with
 | nil =>
  rw [yfb,cbF (by rw [ycJ];simp)]
  exact h0 rfl
 | cons s r =>
  have hx:=hs s qAh
  have e3:List.getD (rsp (s::r)) (0:Int).toNat .nils=encR s:=rfl
  rw [yfb,ycJ,cbT (by simp only [qAk];omega)]
  dsimp only [Go.Pf.jn]
  rw [asT (by omega),asT (by simp only [qAk];omega),e3]
  show asr (conf z4 (encR s)) _
  rw [asR,yv5,yv6]
  refine yGU hx.1 ?_
  rw [asT (by omega),asT (by simp only [qAk];omega)]
  show asr (conf z4 (encR s)) _
  rw [asR,yv7,yv8,asEE,asE]
  have hs1:∀ z∈[s.1],small z:=fun z hz=>by rw [qBb] at hz;rw [hz];exact hx.1
  have hi1:ygF [s.1]:=⟨by simp,trivial⟩
  refine ypG (out:=[s.1]) hs1 hi1 hx.2 (by simp) ?_
  show asr _ (ybU yaN x0 x1 _ _ _ ((1:Nat):Int))
  rw [asEE,asE]
  refine yy6 hs hl r.length 1 _ _ (by simp only [qAk];omega) (by simp only [qAk];omega) (ydB hx.2 hs1) (ydW _ hi1) ?_ (h1 (by simp))
  have h2:=yfh (q:=s.2) (insR s.1 [])
  have h3:=yfh (q:=s.1) []
  simp only [qB4] at h3
  show (insR s.2 [s.1]).length≤_
  have:insR s.1 []=[s.1]:=rfl
  rw [this] at h2
  simp only [qAk,qB4] at h2
  omega
theorem yFO {l:List RS} (hs:∀ s∈l,ybb s) (hl:l.length<10000) {b:List PV} {x0:List PV→List PV→Int→Bool→Prop} {x1:List PV→List PV→List PV→Int→Bool→Prop} :
  ∀ (r i n:Nat) (out:List Rat),i+r=l.length→r<n→(∀ z∈out,small z)→ygF out→out.length≤40000+2*i →
   x1 (rts (yd3 (l.drop i) out)) (rsp l) b (l.length:Int) false→ycy yaN x0 x1 n (rts out) (rsp l) b (i:Int):=by
 intro r
 induction r with
 | zero =>
  intro i n out hi hn ho hc hb k
  obtain ⟨n,rfl⟩:∃ m,n=m+1:=⟨n-1,by omega⟩
  obtain rfl:i=l.length:=by omega
  rw [ycy,ycJ,cbF (by omega)]
  rw [List.drop_length] at k
  exact k
 | succ r ih =>
  intro i n out hi hn ho hc hb k
  obtain ⟨n,rfl⟩:∃ m,n=m+1:=⟨n-1,by omega⟩
  have hil:i<l.length:=by omega
  have e1:=wib (n:=(i:Int)+1) (by omega) (by omega)
  have hd:l.drop i=l.getD i default::l.drop (i+1):=ybc default hil
  have hx:=ync hs hil
  rw [hd] at k
  have h1:=yfh (q:=(l.getD i default).1) out
  have h2:=yfh (q:=(l.getD i default).2) (insR (l.getD i default).1 out)
  rw [ycy,ycJ,cbT (by omega)]
  dsimp only [Go.Pf.jn]
  rw [asT (by omega),asT (by omega),qAe,yy3 hil]
  show asr (conf z4 (encR (l.getD i default))) _
  rw [asR,yv5,yv6,asEE,asE]
  refine ypG ho hc hx.1 (by omega) ?_
  rw [asT (by omega),asT (by omega)]
  show asr (conf z4 (encR (l.getD i default))) _
  rw [asR,yv7,yv8,asEE,asE]
  refine ypG (ydB hx.1 ho) (ydW _ hc) hx.2 (by omega) ?_
  show asr _ (ycy yaN x0 x1 n _ _ _ (IntKind.i64.wrap ((i:Int)+1)))
  rw [asEE,asE,e1,ydC]
  exact ih (i+1) n _ (by omega) (by omega) (ydB hx.2 (ydB hx.1 ho)) (ydW _ (ydW _ hc)) (by omega) k
theorem yH9 {l:List RS} (hs:∀ s∈l,ybb s) (hl:l.length<10000) {b:List PV} {x0:List PV→List PV→Int→Bool→Prop} {x1:List PV→List PV→List PV→Int→Bool→Prop} (h0:l=[]→x0 (rsp l) b 0 false)
  (h1:l≠[]→x1 (rts (yd3 l [])) (rsp l) b (l.length:Int) false):yfc yaN x0 x1 (l.length+2) (rsp l) b (0:Int):=by
 cases l with
 | nil =>
  rw [yfc,cbF (by rw [ycJ];simp)]
  exact h0 rfl
 | cons s r =>
  have hx:=hs s qAh
  have e3:List.getD (rsp (s::r)) (0:Int).toNat .nils=encR s:=rfl
  rw [yfc,ycJ,cbT (by simp only [qAk];omega)]
  dsimp only [Go.Pf.jn]
  rw [asT (by omega),asT (by simp only [qAk];omega),e3]
  show asr (conf z4 (encR s)) _
  rw [asR,yv5,yv6]
  refine yGU hx.1 ?_
  rw [asT (by omega),asT (by simp only [qAk];omega)]
  show asr (conf z4 (encR s)) _
  rw [asR,yv7,yv8,asEE,asE]
  have hs1:∀ z∈[s.1],small z:=fun z hz=>by rw [qBb] at hz;rw [hz];exact hx.1
  have hi1:ygF [s.1]:=⟨by simp,trivial⟩
  refine ypG (out:=[s.1]) hs1 hi1 hx.2 (by simp) ?_
  show asr _ (ycy yaN x0 x1 _ _ _ _ ((1:Nat):Int))
  rw [asEE,asE]
  refine yFO hs hl r.length 1 _ _ (by simp only [qAk];omega) (by simp only [qAk];omega) (ydB hx.2 hs1) (ydW _ hi1) ?_ (h1 (by simp))
  have h2:=yfh (q:=s.2) (insR s.1 [])
  have h3:=yfh (q:=s.1) []
  simp only [qB4] at h3
  show (insR s.2 [s.1]).length≤_
  have:insR s.1 []=[s.1]:=rfl
  rw [this] at h2
  simp only [qAk,qB4] at h2
  omega
theorem yJB {a b:List RS} (ha:∀ s∈a,ybb s) (hb:∀ s∈b,ybb s) (hla:a.length<10000) (hlb:b.length<10000) (K:List PV→Prop):ydA (rsp a) (rsp b) K=K (rts (yd3 b (yd3 a []))):=by
 refine yCq _ _ _ (fun K k=>?_) K
 unfold ydA yoU
 refine ⟨a.length+2,?_⟩
 have hea:=ykB ha (out:=[]) (fun z hz=>by cases hz)
 refine yH9 ha hla (fun h=>?_) (fun h=>?_)
 ·subst h
  refine ⟨b.length+2,?_⟩
  refine yH8 hb hlb (fun h=>?_) (fun h=>?_)
  ·subst h;exact k
  ·rw [asE,asT (by omega),qAr]
   exact k
 ·rw [asEE,asE]
  refine ⟨b.length+1,?_⟩
  have:=ypH a []
  refine yy6 hb hlb b.length 0 (b.length+1) _ (by omega) (by omega) hea (ynb a _ trivial) (by simp only [qB4] at this;omega) ?_
  rw [asE,asT (by omega),qAr]
  exact k
theorem yKT {b c:Bool} {k:Bool→Prop}:Go.Pf.jn (fun j=>cbr b (j true) (j c)) k=k (b||c):=by cases b <;> rfl
theorem yJC {d b c t:Bool} {k:Bool→Prop}:Go.Pf.jn (fun j=>cbr d (cbr b (j c) (j false)) (j t)) k=k (bif d then (b&&c) else t):=by cases d <;> cases b <;> rfl
def selB (how:Int) (x y:Bool):Bool:=bif how == 2 then (x&&!y) else (bif how == 1 then (x&&y) else (x||y))
section
variable {a b:List RS} {pts:List Rat} {how:Int}
def selF (a b:List RS) (how:Int) (q:Rat):Bool:=selB how (inB a q) (inB b q)
theorem yt1 {i:Nat} (hs:∀ z∈pts,small z) (h:i<pts.length):small (pts.getD i 0):=hs _ (yEq h)
theorem yEs (ha:∀ s∈a,ybb s) (hb:∀ s∈b,ybb s) (hla:a.length<10000) (hlb:b.length<10000) (hp:∀ z∈pts,small z) (hl:pts.length<100000)
  {x0:List PV→List PV→Int→List PV→Int→Bool→Prop} {x1:List PV→List PV→List PV→Int→List PV→Int→Bool→Prop} {K:List PV→Prop} (hx:∀ L i q,x1 L (rsp a) (rsp b) how (rts pts) i q=K L) :
  ∀ (r i n:Nat) (acc:List RS) (c:RS),i+r+1=pts.length→r<n→acc.length≤i→ybb c →
   ycm ydA yfZ x0 x1 n (rsp (acc++[c])) (rsp a) (rsp b) how (rts pts) (i:Int)=K (rsp (acc++jn (selF a b how) (pts.drop i) (some c))):=by
 intro r
 induction r with
 | zero =>
  intro i n acc c hi hn hac hc
  obtain ⟨n,rfl⟩:∃ m,n=m+1:=⟨n-1,by omega⟩
  have e1:=wib (n:=(i:Int)+1) (by omega) (by omega)
  have hd:pts.drop i=[pts.getD i 0]:=by
   rw [ybc 0 (by omega),List.drop_eq_nil_of_le (by omega)]
  rw [ycm]
  dsimp only [lt]
  rw [e1,yfz,cbF (by omega),hx,hd]
  rfl
 | succ r ih =>
  intro i n acc c hi hn hac hc
  obtain ⟨n,rfl⟩:∃ m,n=m+1:=⟨n-1,by omega⟩
  have e1:=wib (n:=(i:Int)+1) (by omega) (by omega)
  have e5:((i:Int)+1).toNat=i+1:=by omega
  have hd:pts.drop i=pts.getD i 0::pts.getD (i+1) 0::pts.drop (i+2):=by
   rw [ybc 0 (by omega),ybc 0 (by omega)]
  have hd1:pts.drop (i+1)=pts.getD (i+1) 0::pts.drop (i+2):=ybc 0 (by omega)
  have hx1:=yt1 hp (i:=i) (by omega)
  have hx2:=yt1 hp (i:=i+1) (by omega)
  have hal:(acc++[c]).length=acc.length+1:=by simp
  have e2:=wib (n:=((acc.length+1:Nat):Int)-1) (by omega) (by omega)
  have e3:((acc.length+1:Nat):Int)-1=(acc.length:Int):=by omega
  rw [e3] at e2
  have IH:=fun acc c h1 h2=>ih (i+1) n acc c (by omega) (by omega) h1 h2
  rw [hd1] at IH
  rw [hd]
  generalize hq1:pts.getD i 0=x at hx1
  generalize hq2:pts.getD (i+1) 0=y at hx2 IH
  rw [ycm]
  dsimp only [lt]
  simp (discharger:=omega) only [yKT,yJC,e1,yfz,cbT,asT,qAe,ylb,hq1,asW,yv9,ywa,yCF ha _ hx1,yCF hb _ hx1,decide_true,yaM]
  rw [show (bif how == 2 then (inB a x&&!inB b x) else (bif how == 1 then (inB a x&&inB b x) else (inB a x||inB b x)))=selF a b how x from rfl]
  dsimp only [Go.Pf.jn]
  unfold jn
  cases hs:selF a b how x with
  | false =>
   rw [qBk,yan,if_neg (by simp),qAy,yaM,ydC]
   exact IH acc c (by omega) hc
  | true =>
   rw [qBq,yai,if_pos rfl]
   simp (discharger:=omega) only [ycJ,hal,e3,e2,e5,qAe,qBa,asT,yy3,hq2,yGQ,asR,yv5,yv6,yv7,yv8,yKS,cbT,asNo]
   by_cases h2:c.2=x
   ·have e6:List.set (rsp (acc++[c])) acc.length (.agg [.int .i64 c.1.num,.int .i64 c.1.den,.int .i64 y.num,.int .i64 y.den])=rsp (acc++[(c.1,y)]):=by
     rw [yGP _ _ (c.1,y),yEl rfl]
    rw [cbT h2,if_pos h2,e6,ycJ,show (acc++[(c.1,y)]).length=acc.length+1 by simp,asEE,asE,ydC]
    exact IH acc (c.1,y) (by omega) ⟨hc.1,hx2⟩
   ·rw [cbF h2,if_neg h2,asT (by show _≤35184372088832;omega),yw6 (x,y),yGO,qAy,yaM,ydC]
    have:=IH (acc++[c]) (x,y) (by simp;omega) ⟨hx1,hx2⟩
    rw [this,qAu]
    rfl
theorem yFP (ha:∀ s∈a,ybb s) (hb:∀ s∈b,ybb s) (hla:a.length<10000) (hlb:b.length<10000) (hp:∀ z∈pts,small z) (hl:pts.length<100000)
  {x0:List PV→List PV→Int→List PV→Int→Bool→Prop} {x1:List PV→List PV→List PV→Int→List PV→Int→Bool→Prop} {K:List PV→Prop} (hx0:∀ i q,x0 (rsp a) (rsp b) how (rts pts) i q=K []) (hx:∀ L i q,x1 L (rsp a) (rsp b) how (rts pts) i q=K L) :
  ∀ (r i n:Nat),i+r=pts.length→r<n →
   ycl ydA yfZ x0 x1 n (rsp a) (rsp b) how (rts pts) (i:Int)=K (rsp (jn (selF a b how) (pts.drop i) none)):=by
 intro r
 induction r with
 | zero =>
  intro i n hi hn
  obtain ⟨n,rfl⟩:∃ m,n=m+1:=⟨n-1,by omega⟩
  have e1:=wib (n:=(i:Int)+1) (by omega) (by omega)
  have hd:pts.drop i=[]:=List.drop_eq_nil_of_le (by omega)
  rw [ycl]
  dsimp only [lt]
  rw [e1,yfz,cbF (by omega),hx0,hd]
  rfl
 | succ r ih =>
  intro i n hi hn
  obtain ⟨n,rfl⟩:∃ m,n=m+1:=⟨n-1,by omega⟩
  have e1:=wib (n:=(i:Int)+1) (by omega) (by omega)
  by_cases h1:i+1=pts.length
  ·have hd:pts.drop i=[pts.getD i 0]:=by
    rw [ybc 0 (by omega),List.drop_eq_nil_of_le (by omega)]
   rw [ycl]
   dsimp only [lt]
   rw [e1,yfz,cbF (by omega),hx0,hd]
   rfl
  ·have e5:((i:Int)+1).toNat=i+1:=by omega
   have hd:pts.drop i=pts.getD i 0::pts.getD (i+1) 0::pts.drop (i+2):=by
    rw [ybc 0 (by omega),ybc 0 (by omega)]
   have hd1:pts.drop (i+1)=pts.getD (i+1) 0::pts.drop (i+2):=ybc 0 (by omega)
   have hx1:=yt1 hp (i:=i) (by omega)
   have hx2:=yt1 hp (i:=i+1) (by omega)
   have IH:=ih (i+1) n (by omega) (by omega)
   have IH2:=yEs ha hb hla hlb hp hl (x0:=x0) hx (r-1) (i+1) n []
   rw [hd1] at IH
   simp only [hd1] at IH2
   rw [hd]
   generalize hq1:pts.getD i 0=x at hx1
   generalize hq2:pts.getD (i+1) 0=y at hx2 IH IH2
   rw [ycl]
   dsimp only [lt]
   simp (discharger:=omega) only [yKT,yJC,e1,yfz,cbT,asT,qAe,ylb,hq1,asW,yv9,ywa,yCF ha _ hx1,yCF hb _ hx1]
   rw [show (bif how == 2 then (inB a x&&!inB b x) else (bif how == 1 then (inB a x&&inB b x) else (inB a x||inB b x)))=selF a b how x from rfl]
   unfold jn
   cases hs:selF a b how x with
   | false =>
    rw [qBk,yan,if_neg (by simp),ydC]
    exact IH
   | true =>
    rw [qBq,yai,if_pos rfl]
    simp (discharger:=omega) only [e5,hq2]
    rw [yw6 (x,y),show (rsp [(x,y)]).length=1 from rfl,asEE,asE,ydC]
    have:=IH2 (x,y) (by omega) (by omega) (by simp) ⟨hx1,hx2⟩
    exact this
end
theorem yFQ {a b:List RS} (ha:∀ s∈a,ybb s) (hb:∀ s∈b,ybb s) (hla:a.length<10000) (hlb:b.length<10000) (how:Int) (K:List PV→Prop):yfv (rsp a) (rsp b) how K=K (rsp (yGM (selF a b how) a b)):=by
 refine yyI _ _ _ _ (fun K k=>?_) K
 unfold yfv ykY
 rw [yJB ha hb hla hlb]
 have h1:=ykB hb (ykB ha (out:=[]) (fun z hz=>by cases hz))
 have h2:=ypH a []
 have h3:=ypH b (yd3 a [])
 simp only [qB4] at h2
 refine ⟨(yd3 b (yd3 a [])).length+1,?_⟩
 refine (yFP ha hb hla hlb h1 (by omega) (K:=K) (fun _ _=>rfl) (fun L i q=>?_) (yd3 b (yd3 a [])).length 0 ((yd3 b (yd3 a [])).length+1) (by omega) (by omega)).mpr ?_
 ·rw [asE,asT (by omega),qAr]
 ·rw [qBe]
  exact k
def fewR (e:Int) (l:List RS) (K:List PV→Int→Prop):Prop:=if e=0 then (if l.length>60 then K [] 4 else K (rsp l) 0) else K [] e
theorem yIa {a b:List Sp} (h:yv4 a b=0):a.length≤60∧b.length≤60∧(∀ s∈a,s.ok)∧(∀ s∈b,s.ok)∧ygE (rsL a)∧ygE (rsL b)∧(∀ s∈rsL a,ybb s)∧(∀ s∈rsL b,ybb s)∧ycS a=rsp (rsL a)∧ycS b=rsp (rsL b)∧(rsL a).length=a.length∧(rsL b).length=b.length:=by
 unfold yv4 at h
 split at h
 ·rename_i h3
  obtain ⟨l1,o1,c1⟩:=yv3 h3
  obtain ⟨l2,o2,c2⟩:=yv3 h
  exact ⟨l1,l2,o1,o2,c1,c2,fun s hs=>by obtain ⟨t,ht,rfl⟩:=qBw.1 hs;exact yy4 (o1 t ht),fun s hs=>by obtain ⟨t,ht,rfl⟩:=qBw.1 hs;exact yy4 (o2 t ht),ypF o1,ypF o2,qAx ..,qAx ..⟩
 ·rename_i h3;exact absurd h h3
theorem yAX {a b:List RS} {q:Rat}:selF a b 2 q=true↔(memP a q∧¬memP b q):=by
 show (inB a q&&!inB b q)=true↔_
 rw [qAa,yGS,qAs,← Bool.not_eq_true,yGS]
theorem yJD {l:List RS} (h:ygE l):∀ s∈l,s.1<s.2:=by
 induction l with
 | nil=>intro s hs;cases hs
 | cons t r ih =>
  intro s hs
  rcases qAn.1 hs with rfl | hs
  ·exact h.1
  ·exact ih h.2.2 s hs
def setR (a b:List RS) (how:Int):List RS:=yGM (selF a b how) a b
theorem yKz {a b:List Sp} (ha:∀ s∈a,s.i64) (hb:∀ s∈b,s.i64) (hla:a.length<4611686018427387904) (hlb:b.length<4611686018427387904) (how:Int) (K:List PV→Int→Prop) :
  ypC (ycS a) (ycS b) how K=fewR (yv4 a b) (setR (rsL a) (rsL b) how) K:=by
 unfold ypC ysb fewR
 rw [yAV ha hb hla hlb]
 by_cases h:yv4 a b=0
 ·obtain ⟨l1,l2,_,_,c1,c2,s1,s2,e1,e2,n1,n2⟩:=yIa h
  rw [cnF h,if_pos h,e1,e2,yFQ s1 s2 (by omega) (by omega),ycJ]
  show cbr (decide ((((setR (rsL a) (rsL b) how).length:Nat):Int)>60)) (K [] 4) (K (rsp (setR (rsL a) (rsL b) how)) 0)=_
  by_cases h2:(setR (rsL a) (rsL b) how).length>60
  ·rw [cbT (by omega),if_pos h2]
  ·rw [cbF (by omega),if_neg h2]
 ·rw [cnT h,if_neg h,yAV ha hb hla hlb]
theorem yLA {a b c d:Int} (h:RV a b) (k:RV c d):cmpI a b c d=cmpQ (rt a b) (rt c d):=by
 obtain ⟨_,h2,h3⟩:=yjM h
 obtain ⟨_,k2,k3⟩:=yjM k
 unfold cmpI cmpQ
 simp only [Rat.lt_iff,h2,h3,k2,k3]
theorem yJE:∀ {cs:List PV},okL [.i64,.i64,.i64,.i64] cs=true→∃ a b c d,cs=[.int .i64 a,.int .i64 b,.int .i64 c,.int .i64 d]
 | [],h=>by cases h
 | [x],h=>by cases x <;> simp [okL] at h
 | [x,y],h=>by cases x <;> cases y <;> simp [okL] at h
 | [x,y,z],h=>by cases x <;> cases y <;> cases z <;> simp [okL] at h
 | x::y::z::u::w,h=>by
  cases x <;> first | (simp [okL] at h;done) | skip
  cases y <;> first | (simp [okL] at h;done) | skip
  cases z <;> first | (simp [okL] at h;done) | skip
  cases u <;> first | (simp [okL] at h;done) | skip
  simp only [okL,qAa,decide_eq_true_eq] at h
  obtain ⟨rfl,_,_,rfl,_,_,rfl,_,_,rfl,_,_,h⟩:=h
  cases w with
  | nil=>exact ⟨_,_,_,_,rfl⟩
  | cons p q=>simp [okL] at h
theorem yKU {n g:Nat} {x:PV} (h:(yj8 n g).s.gd x=true):∃ a b c d,x=.agg [.int .i64 a,.int .i64 b,.int .i64 c,.int .i64 d]∧RV a b:=by
 simp only [Srt.gd,qAa] at h
 have h1:okI [.i64,.i64,.i64,.i64] x=true:=h.1
 have h2:yra x=true:=h.2
 clear h
 cases x <;> first | (simp [okI] at h1;done) | skip
 obtain ⟨a,b,c,d,rfl⟩:=yJE (h1:okL _ _=true)
 exact ⟨a,b,c,d,rfl,yw5.1 h2⟩
theorem yEt {n g:Nat} (e:Es) (he:EG e) {x y:PV} (hx:(yj8 n g).s.gd x=true) (hy:(yj8 n g).s.gd y=true):Ans (E e) yc4 [x,y] (.int .i64 (ynm x y)):=by
 obtain ⟨a,b,c,d,rfl,h1⟩:=yKU hx
 obtain ⟨a',b',c',d',rfl,h2⟩:=yKU hy
 obtain ⟨r,hr,ha⟩:=ytr e he [.agg [.int .i64 a,.int .i64 b,.int .i64 c,.int .i64 d],.agg [.int .i64 a',.int .i64 b',.int .i64 c',.int .i64 d']] (fun r=>r=.int .i64 (cmpI a b a' b')) (by
  show yhI a b c d a' b' c' d' (fun r=>PV.int .i64 r=.int .i64 (cmpI a b a' b'))
  unfold yhI yg2
  rw [yJu h1 h2,yLA h1 h2])
 rw [hr] at ha
 exact ha
structure Pc (l:List RS):Prop where
 c:ygE l
 s:∀ s∈l,ybb s
 n:l.length≤60
theorem yIb {a b:List RS} {p:Rat}:memP (setR a b 2) p↔(memP a p∧¬memP b p):=(yEj (c:=fun x y=>x∧¬y) (fun x=>yAX) (by simp)).2 p
theorem yt2 {l:List RS} (h:∀ s∈l,ybb s):rsL (l.map spOf)=l:=by
 induction l with
 | nil=>rfl
 | cons s r ih =>
  show (spOf s).rs::rsL (r.map spOf)=_
  rw [yGR (h s qAh),ih fun t ht=>h t (qAf _ ht)]
theorem Pc.ok {l:List RS} (h:Pc l):∀ s∈l.map spOf,s.ok:=fun s hs=>by
 obtain ⟨t,ht,rfl⟩:=qBw.1 hs
 exact yt0 (h.s t ht) (yJD h.c t ht)
theorem Pc.i64 {l:List RS} (h:Pc l):∀ s∈l.map spOf,s.i64:=fun s hs=>by
 obtain ⟨t,ht,rfl⟩:=qBw.1 hs
 have:=h.s t ht
 exact ⟨this.1.i1,this.1.i2,this.2.i1,this.2.i2⟩
theorem Pc.e {l:List RS} (h:Pc l):yla (l.map spOf)=0:=by
 have hl:=h.n
 have ho:=h.ok
 have hc:=h.c
 rw [← yt2 h.s] at hc
 have h1:yiv (l.map spOf)=true:=List.all_eq_true.2 fun s hs=>decide_eq_true (ho s hs)
 have h2:allE (l.map spOf)=0:=by
  unfold allE
  rw [if_neg (by rw [qAx];omega),h1,if_pos rfl]
 unfold yla
 rw [h2]
 cases l with
 | nil=>rfl
 | cons s r =>
  have hg:gapB (spOf s) (r.map spOf)=true:=(yvm _ _ (ho _ (by simp)) (fun t ht=>ho t (qAf _ ht))).2 hc
  show (if (0:Int)=0 then (if gapB (spOf s) (r.map spOf) then 0 else 8) else _)=_
  rw [if_pos rfl,hg,if_pos rfl]
theorem Pc.both {a b:List RS} (ha:Pc a) (hb:Pc b):yv4 (a.map spOf) (b.map spOf)=0:=by
 unfold yv4
 rw [ha.e,if_pos rfl,hb.e]
theorem yKA {l:List RS} (h:l.length≤60) (K:List PV→Int→Prop):fewR 0 l K=K (rsp l) 0:=by
 unfold fewR
 rw [if_pos rfl,if_neg (by omega)]
theorem yCG:∀ (r:List RS) (c:RS),(mrg r c).length≤r.length+1
 | [],c=>by simp [mrg]
 | s::r,c=>by
  unfold mrg
  split
  ·have:=yCG r s
   simp only [qAk];omega
  ·have:=yCG r (c.1,maxR c.2 s.2)
   simp only [qAk];omega
theorem yvp:∀ (r:List RS) (c:RS),ybb c→(∀ s∈r,ybb s)→∀ s∈mrg r c,ybb s
 | [],c,hc,_=>by simpa [mrg] using hc
 | t::r,c,hc,h=>by
  have ht:=h t qAh
  have hr:∀ s∈r,ybb s:=fun s hs=>h s (qAf _ hs)
  intro s hs
  unfold mrg at hs
  split at hs
  ·rcases qAn.1 hs with rfl | hs
   ·exact hc
   ·exact yvp r t ht hr s hs
  ·exact yvp r (c.1,maxR c.2 t.2) ⟨hc.1,yH5 hc.2 ht.2⟩ hr s hs
theorem yIc {l:List RS} (hs:∀ s∈l,ybb s) (hv:∀ s∈l,s.1<s.2) (hb:yso l) (hl:l.length≤60):Pc (ysn l):=by
 refine ⟨(yAO hv hb).1,?_,?_⟩
 ·cases l with
  | nil=>simp [ysn]
  | cons s r=>exact yvp r s (hs s qAh) fun t ht=>hs t (qAf _ ht)
 ·cases l with
  | nil=>simp [ysn]
  | cons s r =>
   have:=yCG r s
   show (mrg r s).length≤60
   simp only [qAk] at hl;omega
theorem yFR {a b:List RS} (h:∀ s,s∈a↔s∈b) (p:Rat):memP a p↔memP b p :=
 ⟨fun ⟨s,hs,hp⟩=>⟨s,(h s).1 hs,hp⟩,fun ⟨s,hs,hp⟩=>⟨s,(h s).2 hs,hp⟩⟩
theorem yId {l:List Sp} (h64:∀ s∈l,s.i64) (h0:allE l=0):∃ m,Pc m∧(∀ p,memP m p↔memP (rsL l) p)∧∀ K,yak (ycS l) K=K (rsp m) 0:=by
 obtain ⟨h1,h2⟩:=yAR h0
 have hs:∀ s∈rsL l,ybb s:=fun s hs=>by obtain ⟨t,ht,rfl⟩:=qBw.1 hs;exact yy4 (h2 t ht)
 have hv:∀ s∈rsL l,s.1<s.2:=fun s hs=>by obtain ⟨t,ht,rfl⟩:=qBw.1 hs;exact (h2 t ht).2.2
 have hn:(rsL l).length=l.length:=qAx ..
 obtain ⟨l',hp,hb,hm⟩:=yH7 hs hv (by omega)
 have hs':∀ s∈l',ybb s:=fun s h=>hs s (hp.mem_iff.1 h)
 have hv':∀ s∈l',s.1<s.2:=fun s h=>hv s (hp.mem_iff.1 h)
 refine ⟨ysn l',yIc hs' hv' hb (by rw [hp.length_eq];omega),fun p=>?_,fun K=>?_⟩
 ·rw [(yAO hv' hb).2 p]
  exact yFR (fun s=>hp.mem_iff) p
 ·unfold yak ykS
  rw [yLz h64 (by omega),h0,ypF h2]
  show cbr false _ _=_
  rw [yai,hm]
theorem ez (P Q:Prop):cbr ((0:Int) == 0) P Q=P:=rfl
theorem yKB {L:List RS} (hs:∀ s∈L,ybb s) (hv:∀ s∈L,s.1<s.2) (hl:L.length≤60):allE (L.map spOf)=0:=by
 have h1:yiv (L.map spOf)=true:=List.all_eq_true.2 fun s h=>by
  obtain ⟨t,ht,rfl⟩:=qBw.1 h
  exact decide_eq_true (yt0 (hs t ht) (hv t ht))
 unfold allE
 rw [if_neg (by rw [qAx];omega),h1,if_pos rfl]
theorem yKC {L:List RS} (hs:∀ s∈L,ybb s) (hv:∀ s∈L,s.1<s.2) (hl:L.length≤60):∃ m,Pc m∧(∀ p,memP m p↔memP L p)∧∀ K,yak (rsp L) K=K (rsp m) 0:=by
 obtain ⟨m,h1,h2,h3⟩:=yId (l:=L.map spOf) (fun s h=>by
  obtain ⟨t,ht,rfl⟩:=qBw.1 h
  have:=hs t ht
  exact ⟨this.1.i1,this.1.i2,this.2.i1,this.2.i2⟩) (yKB hs hv hl)
 rw [yt2 hs] at h2
 exact ⟨m,h1,h2,h3⟩
section
variable (V:Rat→Rat)
def dV (s:RS):Rat:=V s.2-V s.1
end
section
variable {len:Int} {cuts dens:List Int}
def uC (cuts:List Int) (i:Nat) (x:Rat):Rat:=minR (maxR x (cuts.getD i 0:Int)) (cuts.getD (i+1) 0:Int)
def vu (cuts dens:List Int) (x:Rat):Nat→Nat→Rat
 | 0,_=>0
 | r+1,i=>(dens.getD i 0:Int)*uC cuts i x+vu cuts dens x r (i+1)
theorem yy7 (h:VC len cuts dens):∀ (r i:Nat) {x y:Rat},i+r=dens.length→x≤(cuts.getD i 0:Int)→y≤(cuts.getD i 0:Int)→vu cuts dens x r i=vu cuts dens y r i
 | 0,_,_,_,_,_,_=>rfl
 | r+1,i,x,y,hi,hx,hy=>by
  have l1:=h.l1
  have hst:((cuts.getD i 0:Int):Rat)<((cuts.getD (i+1) 0:Int):Rat):=Rat.intCast_lt_intCast.2 (h.step (i:=i) (by omega))
  have ih:=yy7 h r (i+1) (x:=x) (y:=y) (by omega) (by grind) (by grind)
  unfold vu
  rw [ih]
  have e:uC cuts i x=uC cuts i y:=by
   unfold uC
   have a1:=yeM x (cuts.getD i 0:Int)
   have a2:=yeM y (cuts.getD i 0:Int)
   have e1:maxR x (cuts.getD i 0:Int)=(cuts.getD i 0:Int):=by grind
   have e2:maxR y (cuts.getD i 0:Int)=(cuts.getD i 0:Int):=by grind
   rw [e1,e2]
  rw [e]
theorem ykC {α:Type} {q:Rat} {k:Rat→Except Int α} {v:α} (h:fit q k=.ok v):k q=.ok v:=by
 unfold fit at h
 split at h
 ·exact h
 ·cases h
theorem yw7 (h:VC len cuts dens) {b:Rat}:∀ (r i:Nat) (p sum v:Rat),i+r=dens.length→p≤b→(p=b∨((cuts.getD i 0:Int):Rat)≤p)→valS cuts dens b r i p sum=.ok v→v=sum+(vu cuts dens b r i-vu cuts dens p r i)
 | 0,i,p,sum,v,hi,hp,hc,hv=>by
  unfold valS at hv
  cases hv
  unfold vu
  grind
 | r+1,i,p,sum,v,hi,hp,hc,hv=>by
  have l1:=h.l1
  have hst:((cuts.getD i 0:Int):Rat)<((cuts.getD (i+1) 0:Int):Rat):=Rat.intCast_lt_intCast.2 (h.step (i:=i) (by omega))
  unfold valS at hv
  dsimp only at hv
  have hen:∃ en:Rat,(if b<((cuts.getD (i+1) 0:Int):Rat) then b else ((cuts.getD (i+1) 0:Int):Rat))=en∧en≤b∧en≤((cuts.getD (i+1) 0:Int):Rat)∧(en=b∨en=((cuts.getD (i+1) 0:Int):Rat)):=by
   refine ⟨_,rfl,?_⟩
   split <;> grind
  obtain ⟨en,e0,he1,he2,he3⟩:=hen
  rw [e0] at hv
  have low:=yy7 h r (i+1) (x:=en) (y:=p) (by omega)
  have m1:=yeM b (cuts.getD i 0:Int)
  have m2:=yeM p (cuts.getD i 0:Int)
  have n1:=yga (maxR b (cuts.getD i 0:Int)) (cuts.getD (i+1) 0:Int)
  have n2:=yga (maxR p (cuts.getD i 0:Int)) (cuts.getD (i+1) 0:Int)
  unfold vu uC
  generalize ((cuts.getD i 0:Int):Rat)=c0 at *
  generalize hc1:((cuts.getD (i+1) 0:Int):Rat)=c1 at *
  by_cases hlt:p<en
  ·have hb:minR (maxR b c0) c1=en:=by grind
   have hq:minR (maxR p c0) c1=p:=by grind
   by_cases hd:dens.getD i 0=0
   ·rw [if_pos (.inl hd),if_pos hlt] at hv
    have ih:=yw7 h r (i+1) en sum v (by omega) he1 (by rw [hc1];grind) hv
    rw [ih,hd,low (by grind) (by grind)]
    grind
   ·rw [if_neg (by intro k;rcases k with k | k;exact hd k;exact k hlt)] at hv
    have hv:=ykC (ykC (ykC hv))
    have ih:=yw7 h r (i+1) en _ v (by omega) he1 (by rw [hc1];grind) hv
    rw [ih,low (by grind) (by grind),hb,hq]
    grind
  ·rw [if_pos (.inr hlt),if_neg hlt] at hv
   have ih:=yw7 h r (i+1) p sum v (by omega) hp (by rw [hc1];grind) hv
   have:minR (maxR b c0) c1=minR (maxR p c0) c1:=by grind
   rw [ih,this]
   grind
def vX (cuts dens:List Int) (x:Rat):Rat:=vu cuts dens x dens.length 0
theorem yKD (h:VC len cuts dens) {a b v:Rat} (h0:0≤a) (hab:a≤b) (hv:valC cuts dens a b=.ok v):v=vX cuts dens b-vX cuts dens a:=by
 have c0:cuts.getD 0 0=0:=h.2.2.2.2.2.1
 have:=yw7 h dens.length 0 a 0 v (by omega) hab (.inr (by rw [c0];exact h0)) hv
 unfold vX
 rw [this];grind
theorem yGV (h:VC len cuts dens) {i:Nat} (hi:i+1<cuts.length) {x y:Rat} (hxy:x≤y):uC cuts i x≤uC cuts i y:=by
 have hst:((cuts.getD i 0:Int):Rat)<((cuts.getD (i+1) 0:Int):Rat):=Rat.intCast_lt_intCast.2 (h.step (i:=i) hi)
 have m1:=yeM x (cuts.getD i 0:Int)
 have m2:=yeM y (cuts.getD i 0:Int)
 have n1:=yga (maxR x (cuts.getD i 0:Int)) (cuts.getD (i+1) 0:Int)
 have n2:=yga (maxR y (cuts.getD i 0:Int)) (cuts.getD (i+1) 0:Int)
 unfold uC
 grind
theorem yJF (h:VC len cuts dens) {i:Nat} (hi:i<dens.length):(0:Rat)≤((dens.getD i 0:Int):Rat):=Rat.intCast_nonneg.2 (h.den hi).1
theorem yCH (h:VC len cuts dens) {x y:Rat} (hxy:x≤y):∀ (r i:Nat),i+r=dens.length→vu cuts dens x r i≤vu cuts dens y r i
 | 0,_,_=>qA4
 | r+1,i,hi=>by
  have l1:=h.l1
  have h1:=yGV h (i:=i) (by omega) hxy
  have h2:=yCH h hxy r (i+1) (by omega)
  have h3:=qB8 h1 (yJF h (i:=i) (by omega))
  unfold vu
  grind
theorem yt3 (h:VC len cuts dens) {x y:Rat} (hxy:x≤y):vX cuts dens x≤vX cuts dens y:=yCH h hxy dens.length 0 (by omega)
theorem yw8 (h:VC len cuts dens):∀ (r i:Nat) (p v q:Rat),i+r=dens.length→0<v→((cuts.getD i 0:Int):Rat)≤p→mrkS cuts dens r i p v=.ok q →
  vu cuts dens q r i-vu cuts dens p r i=v∧p<q∧q≤((cuts.getD dens.length 0:Int):Rat)∧∀ x,x<q→vu cuts dens x r i<vu cuts dens q r i
 | 0,_,_,_,_,_,_,_,e=>by cases e
 | r+1,i,p,v,q,hi,hv,hp,e=>by
  have l1:=h.l1
  have hst:((cuts.getD i 0:Int):Rat)<((cuts.getD (i+1) 0:Int):Rat):=Rat.intCast_lt_intCast.2 (h.step (i:=i) (by omega))
  have hd:=h.den (i:=i) (by omega)
  have hd0:=yJF h (i:=i) (by omega)
  have low:=fun {x y:Rat}=>yy7 h r (i+1) (x:=x) (y:=y) (by omega)
  have hmon:=fun {x:Rat} (hx:x<q)=>yGV h (i:=i) (by omega) (qBp hx)
  have hmon2:=fun {x:Rat} (hx:x<q)=>yCH h (qBp hx) r (i+1) (by omega)
  have m1:=yeM p (cuts.getD i 0:Int)
  have m2:=yeM q (cuts.getD i 0:Int)
  have n1:=yga (maxR p (cuts.getD i 0:Int)) (cuts.getD (i+1) 0:Int)
  have n2:=yga (maxR q (cuts.getD i 0:Int)) (cuts.getD (i+1) 0:Int)
  unfold mrkS at e
  by_cases c1:p<((cuts.getD (i+1) 0:Int):Rat)
  case neg =>
   rw [if_pos c1] at e
   obtain ⟨a1,a2,a3,a4⟩:=yw8 h r (i+1) p v q (by omega) hv (Rat.not_lt.1 c1) e
   have eq:uC cuts i q=uC cuts i p:=by unfold uC;grind
   refine ⟨by unfold vu;rw [eq];grind,a2,a3,fun x hx=>?_⟩
   have b1:=a4 x hx
   have b2:=qB8 (hmon hx) hd0
   unfold vu
   grind
  rw [if_neg (fun k=>k c1)] at e
  by_cases c2:dens.getD i 0=0
  ·rw [if_pos c2] at e
   obtain ⟨a1,a2,a3,a4⟩:=yw8 h r (i+1) _ v q (by omega) hv qA4 e
   have e2:=low (x:=p) (y:=((cuts.getD (i+1) 0:Int):Rat)) (qBp c1) qA4
   refine ⟨by unfold vu;rw [e2,c2];grind,by grind,a3,fun x hx=>?_⟩
   have b1:=a4 x hx
   have b2:=qB8 (hmon hx) hd0
   unfold vu
   grind
  rw [if_neg c2] at e
  have e:=ykC (ykC e)
  have dpos:(0:Rat)<((dens.getD i 0:Int):Rat):=Rat.intCast_pos.2 (by omega)
  have up:uC cuts i p=p:=by unfold uC;grind
  by_cases c3:(((cuts.getD (i+1) 0:Int):Rat)-p)*((dens.getD i 0:Int):Rat)<v
  ·rw [if_pos c3] at e
   have e:=ykC e
   obtain ⟨a1,a2,a3,a4⟩:=yw8 h r (i+1) _ _ q (by omega) (by grind) qA4 e
   have e2:=low (x:=p) (y:=((cuts.getD (i+1) 0:Int):Rat)) (qBp c1) qA4
   have uq:uC cuts i q=((cuts.getD (i+1) 0:Int):Rat):=by unfold uC;grind
   refine ⟨by unfold vu;rw [e2,up,uq];grind,by grind,a3,fun x hx=>?_⟩
   have b1:=a4 x hx
   have b2:=qB8 (hmon hx) hd0
   unfold vu
   grind
  ·rw [if_neg c3] at e
   have e:=ykC (ykC e)
   cases e
   generalize hs:v / ((dens.getD i 0:Int):Rat)=s at *
   have es:s*((dens.getD i 0:Int):Rat)=v:=by rw [← hs];exact Rat.div_mul_cancel (by grind)
   have s0:0<s:=by
    refine Rat.not_le.1 fun k=>?_
    have:=Rat.mul_le_mul_of_nonneg_right k hd0
    grind
   have s1:p+s≤((cuts.getD (i+1) 0:Int):Rat):=by
    refine Rat.not_lt.1 fun k=>?_
    have:(((cuts.getD (i+1) 0:Int):Rat)-p)<s:=by grind
    have:=Rat.mul_lt_mul_of_pos_right this dpos
    grind
   have uq:uC cuts i (p+s)=p+s:=by unfold uC;grind
   have e2:=low (x:=p+s) (y:=p) s1 (qBp c1)
   have hlast:cuts.getD (i+1) 0≤cuts.getD dens.length 0:=h.mono (by omega) (by omega)
   have hlast:((cuts.getD (i+1) 0:Int):Rat)≤((cuts.getD dens.length 0:Int):Rat):=qA1.2 hlast
   refine ⟨by unfold vu;rw [e2,up,uq];grind,by grind,by grind,fun x hx=>?_⟩
   have b1:=hmon2 hx
   have ux:uC cuts i x<p+s:=by
    have k1:=yeM x (cuts.getD i 0:Int)
    have k2:=yga (maxR x (cuts.getD i 0:Int)) (cuts.getD (i+1) 0:Int)
    unfold uC
    grind
   have b2:=Rat.mul_lt_mul_of_pos_left ux dpos
   unfold vu
   rw [uq]
   grind
theorem VC.last (h:VC len cuts dens):cuts.getD dens.length 0=len:=by
 have l1:=h.l1
 have:=h.2.2.2.2.2.2.1
 rw [show dens.length=cuts.length-1 by omega]
 exact this
theorem yKE (h:VC len cuts dens) {a v q:Rat} (h0:0≤a) (h1:a≤(len:Rat)) (hv:0≤v) (e:mrkC cuts dens a v=.ok q) :
  vX cuts dens q=vX cuts dens a+v∧a≤q∧q≤(len:Rat)∧(v=0→a=q)∧(v≠0→∀ x,x<q→vX cuts dens x<vX cuts dens q):=by
 unfold mrkC at e
 by_cases c:v=0
 ·rw [if_pos c] at e
  cases e
  rw [c]
  exact ⟨by grind,qA4,h1,fun _=>rfl,fun k=>absurd rfl k⟩
 ·rw [if_neg c] at e
  have c0:cuts.getD 0 0=0:=h.2.2.2.2.2.1
  obtain ⟨a1,a2,a3,a4⟩:=yw8 h dens.length 0 a v q (by omega) (by grind) (by rw [c0];exact h0) e
  rw [h.last] at a3
  exact ⟨by unfold vX;grind,qBp a2,a3,fun k=>absurd k c,fun _=>a4⟩
end
def In (D:Int) (q:Rat):Prop:=∃ n:Int,q=(n:Rat) / (D:Rat)
theorem In.int {D:Int} (h:1≤D) (c:Int):In D (c:Rat):=⟨c*D,by rw [Rat.intCast_mul,Rat.mul_div_cancel (rne h)]⟩
theorem In.add {D:Int} {q r:Rat} (h:In D q) (k:In D r):In D (q+r):=by
 obtain ⟨n,rfl⟩:=h
 obtain ⟨m,rfl⟩:=k
 exact ⟨n+m,by rw [Rat.intCast_add];grind⟩
theorem In.sub {D:Int} {q r:Rat} (h:In D q) (k:In D r):In D (q-r):=by
 obtain ⟨n,rfl⟩:=h
 obtain ⟨m,rfl⟩:=k
 exact ⟨n-m,by rw [Rat.intCast_sub];grind⟩
theorem In.mulI {D:Int} {q:Rat} (h:In D q) (d:Int):In D (q*(d:Rat)):=by
 obtain ⟨n,rfl⟩:=h
 exact ⟨n*d,by rw [Rat.intCast_mul];grind⟩
theorem In.up {D d:Int} {q:Rat} (hD:1≤D) (hd:1≤d) (h:In D q):In (d*D) q:=by
 obtain ⟨n,rfl⟩:=h
 have h1:=rne hD
 have h2:=rne hd
 refine ⟨d*n,?_⟩
 rw [Rat.intCast_mul,Rat.intCast_mul]
 grind
theorem In.div {D d:Int} {q:Rat} (hD:1≤D) (hd:1≤d) (h:In D q):In (d*D) (q / (d:Rat)):=by
 obtain ⟨n,rfl⟩:=h
 have h1:=rne hD
 have h2:=rne hd
 refine ⟨n,?_⟩
 rw [Rat.intCast_mul]
 grind
theorem In.small {D M:Int} {q:Rat} (h:In D q) (hD:1≤D∧D≤1000000000000000000) (hM:M*D≤1000000000000000000) (h0:-(M:Rat)≤q) (h1:q≤(M:Rat)):small q:=by
 obtain ⟨n,rfl⟩:=h
 have hp:(0:Rat)<(D:Rat):=Rat.intCast_pos.2 (by omega)
 have e:(n:Rat) / (D:Rat)*(D:Rat)=(n:Rat):=Rat.div_mul_cancel (rne hD.1)
 have a:=Rat.mul_le_mul_of_nonneg_right h0 (qBp hp)
 have b:=Rat.mul_le_mul_of_nonneg_right h1 (qBp hp)
 rw [e] at a b
 have a':((-(M*D):Int):Rat)≤(n:Rat):=by rw [Rat.intCast_neg,Rat.intCast_mul];grind
 have b':(n:Rat)≤((M*D:Int):Rat):=by rw [Rat.intCast_mul];exact b
 have a2:=qA1.1 a'
 have b2:=qA1.1 b'
 exact yH1 (d:=D) ⟨by omega,by omega⟩ ⟨by omega,by omega⟩
section
variable {len:Int} {cuts dens:List Int}
theorem yw9 (h:VC len cuts dens) {i j:Nat} (hij:i≤j) (hj:j≤dens.length):((cuts.getD i 0:Int):Rat)≤((cuts.getD j 0:Int):Rat):=qA1.2 (h.mono hij (by have:=h.l1;omega))
theorem yL1 {D:Int} (hD:1≤D) {x:Rat} (hx:In D x) (i:Nat):In D (uC cuts i x):=by
 have n1:=yga (maxR x (cuts.getD i 0:Int)) (cuts.getD (i+1) 0:Int)
 have m1:=yeM x (cuts.getD i 0:Int)
 unfold uC
 rcases n1.2.2 with e | e
 ·rw [e]
  rcases m1.2.2 with e2 | e2
  ·rw [e2];exact hx
  ·rw [e2];exact In.int hD _
 ·rw [e];exact In.int hD _
theorem yKV {D:Int} (hD:1≤D) {x:Rat} (hx:In D x):∀ (r i:Nat),In D (vu cuts dens x r i)
 | 0,_=>In.int hD 0
 | r+1,i=>by
  unfold vu
  rw [Rat.mul_comm]
  exact ((yL1 hD hx i).mulI _).add (yKV hD hx r (i+1))
theorem yKW {D:Int} (hD:1≤D) {x:Rat} (hx:In D x):In D (vX cuts dens x):=yKV hD hx _ _
theorem yJG (h:VC len cuts dens):∀ (r i:Nat),i+r=dens.length→vu cuts dens (len:Rat) r i-vu cuts dens ((cuts.getD i 0:Int):Rat) r i=((rem cuts dens r i:Int):Rat)
 | 0,_,_=>by unfold vu rem;show (0:Rat)-0=0;grind
 | r+1,i,hi=>by
  have ih:=yJG h r (i+1) (by omega)
  have hst:((cuts.getD i 0:Int):Rat)≤((cuts.getD (i+1) 0:Int):Rat):=yw9 h (Nat.le_succ i) (by omega)
  have hl:((cuts.getD (i+1) 0:Int):Rat)≤(len:Rat):=by rw [← h.last];exact yw9 h (by omega) (qAl _)
  have low:=yy7 h r (i+1) (x:=((cuts.getD i 0:Int):Rat)) (y:=((cuts.getD (i+1) 0:Int):Rat)) (by omega) hst qA4
  have m1:=yeM (len:Rat) (cuts.getD i 0:Int)
  have n1:=yga (maxR (len:Rat) (cuts.getD i 0:Int)) (cuts.getD (i+1) 0:Int)
  have m2:=yeM ((cuts.getD i 0:Int):Rat) (cuts.getD i 0:Int)
  have n2:=yga (maxR ((cuts.getD i 0:Int):Rat) (cuts.getD i 0:Int)) (cuts.getD (i+1) 0:Int)
  have e1:uC cuts i (len:Rat)=((cuts.getD (i+1) 0:Int):Rat):=by unfold uC;grind
  have e2:uC cuts i ((cuts.getD i 0:Int):Rat)=((cuts.getD i 0:Int):Rat):=by unfold uC;grind
  unfold vu rem
  rw [e1,e2,low,Rat.intCast_add,Rat.intCast_mul,Rat.intCast_sub,← ih]
  grind
theorem yCI (h:VC len cuts dens):vX cuts dens (len:Rat)-vX cuts dens 0=((totC cuts dens:Int):Rat):=by
 have c0:cuts.getD 0 0=0:=h.2.2.2.2.2.1
 have:=yJG h dens.length 0 (by omega)
 rw [c0] at this
 unfold totC
 rw [yyX,show (0:Int)+rem cuts dens dens.length 0=rem cuts dens dens.length 0 by omega]
 exact this
theorem yGW (h:VC len cuts dens):(1:Rat)≤(len:Rat)∧(len:Rat)≤1000:=by
 have:=h.len0
 exact ⟨qA1.2 this.1,qA1.2 this.2⟩
theorem yGX (h:VC len cuts dens) {i:Nat} (hi:i<dens.length):(0:Rat)≤((dens.getD i 0:Int):Rat)∧((dens.getD i 0:Int):Rat)≤12:=by
 have:=h.den hi
 exact ⟨qA1.2 this.1,qA1.2 this.2⟩
theorem yGY {x d:Rat} (h0:0≤x) (hd:0≤d∧d≤12):0≤x*d∧x*d≤12*x:=by
 have a:=Rat.mul_nonneg h0 hd.1
 have b:=qB8 hd.2 h0
 exact ⟨a,by grind⟩
theorem yvq (h:VC len cuts dens) {D:Int} (hD:1≤D∧D≤50000000000000) {b:Rat} (hb:In D b) (b1:b≤(len:Rat)) :
  ∀ (r i:Nat) (p sum:Rat),i+r=dens.length→In D p→In D sum→0≤p→p≤(len:Rat)→0≤sum→sum≤12*p→∃ v,valS cuts dens b r i p sum=.ok v
 | 0,i,p,sum,_,_,_,_,_,_,_=>⟨sum,rfl⟩
 | r+1,i,p,sum,hi,hp,hs,p0,p1,s0,s1=>by
  have l1:=h.l1
  have hl:=yGW h
  have hd:=yGX h (i:=i) (by omega)
  have hc1:((cuts.getD (i+1) 0:Int):Rat)≤(len:Rat):=by rw [← h.last];exact yw9 h (by omega) (qAl _)
  unfold valS
  have hen:∃ en:Rat,(if b<((cuts.getD (i+1) 0:Int):Rat) then b else ((cuts.getD (i+1) 0:Int):Rat))=en∧In D en∧en≤(len:Rat):=by
   refine ⟨_,rfl,?_,?_⟩
   ·split
    ·exact hb
    ·exact In.int hD.1 _
   ·split <;> grind
  obtain ⟨en,e0,e1,e2⟩:=hen
  rw [e0]
  dsimp only
  split
  ·refine yvq h hD hb b1 r (i+1) _ sum (by omega) ?_ hs ?_ ?_ s0 ?_
   ·split
    ·exact e1
    ·exact hp
   ·split <;> grind
   ·split <;> grind
   ·split <;> grind
  ·rename_i hn
   have hlt:p<en:=by
    refine Classical.byContradiction fun k=>hn (.inr k)
   have m:=yGY (x:=en-p) (by grind) hd
   have i1:=e1.sub hp
   have i2:=i1.mulI (dens.getD i 0)
   have i3:=hs.add i2
   rw [yk9 (i1.small (M:=1000) ⟨by omega,by omega⟩ (by omega) (by show -(1000:Rat)≤_;grind) (by show _≤(1000:Rat);grind)),
    yk9 (i2.small (M:=12000) ⟨by omega,by omega⟩ (by omega) (by show -(12000:Rat)≤_;grind) (by show _≤(12000:Rat);grind)),
    yk9 (i3.small (M:=12000) ⟨by omega,by omega⟩ (by omega) (by show -(12000:Rat)≤_;grind) (by show _≤(12000:Rat);grind))]
   exact yvq h hD hb b1 r (i+1) en _ (by omega) e1 i3 (by grind) e2 (by grind) (by grind)
theorem yIe (h:VC len cuts dens) {D:Int} (hD:1≤D∧D≤50000000000000) {a b:Rat} (ha:In D a) (hb:In D b) (a0:0≤a) (hab:a≤b) (b1:b≤(len:Rat)):valC cuts dens a b=.ok (vX cuts dens b-vX cuts dens a):=by
 obtain ⟨v,e⟩:=yvq h hD hb b1 dens.length 0 a 0 (by omega) ha (In.int hD.1 0) a0 (by grind) (by grind) (by grind)
 have e:valC cuts dens a b=.ok v:=e
 rw [e,yKD h a0 hab e]
end
def rspL (A:List (List RS)):List PV:=A.map fun a=>.data (rsp a)
section
variable {len:Int} {cuts dens:List Int}
theorem yJH (h:VC len cuts dens) {s:RS} (hv:s.1<s.2) (hw:0≤s.1∧s.2≤(len:Rat)):0≤dV (vX cuts dens) s∧dV (vX cuts dens) s≤12000:=by
 have a:=yt3 h hw.1
 have b:=yt3 h hw.2
 have c:=yt3 h (qBp hv)
 have t:=yCI h
 have tb:=qA1.2 (yyT h).2
 have tb:((totC cuts dens:Int):Rat)≤12000:=tb
 show 0≤vX cuts dens s.2-vX cuts dens s.1∧vX cuts dens s.2-vX cuts dens s.1≤12000
 grind
end
def QR (cs:List Ck) (q:Qy):Prop :=
 (0≤q.agent∧q.agent<cs.length)∧(I64 q.an∧I64 q.ad∧I64 q.bn∧I64 q.bd) ∧
  ∃ p:Rat,(q.cn=p.num∧q.cd=p.den) ∧
   ((q.kind=2∧mrkR (cs.getD q.agent.toNat default).len (cs.getD q.agent.toNat default).cuts (cs.getD q.agent.toNat default).dens q.an q.ad q.bn q.bd=.ok p) ∨
    (q.kind=1∧valR (cs.getD q.agent.toNat default).len (cs.getD q.agent.toNat default).cuts (cs.getD q.agent.toNat default).dens q.an q.ad q.bn q.bd=.ok p))
section
variable {len:Int} {cuts dens:List Int}
theorem yt4 (h:VC len cuts dens):∀ (r i:Nat) (p v:Rat),i+r=dens.length→((cuts.getD i 0:Int):Rat)≤p→p≤(len:Rat)→0<v→v≤vu cuts dens (len:Rat) r i-vu cuts dens p r i →
  ∀ D,1≤D→D≤1000000000000→In D p→In D v→v≤12000→∃ q d,mrkS cuts dens r i p v=.ok q∧(1≤d∧d≤12)∧In (d*D) q
 | 0,i,p,v,hi,_,_,v0,v1=>by
  unfold vu at v1
  grind
 | r+1,i,p,v,hi,hp,p1,v0,v1=>by
  intro D D1 D2 hpD hvD hv
  have l1:=h.l1
  have hl:=yGW h
  have hd:=yGX h (i:=i) (by omega)
  have hd2:=h.den (i:=i) (by omega)
  have hc0:(0:Rat)≤((cuts.getD i 0:Int):Rat):=Rat.intCast_nonneg.2 (h.lo (by omega))
  have hst:((cuts.getD i 0:Int):Rat)<((cuts.getD (i+1) 0:Int):Rat):=Rat.intCast_lt_intCast.2 (h.step (i:=i) (by omega))
  have hc1:((cuts.getD (i+1) 0:Int):Rat)≤(len:Rat):=by rw [← h.last];exact yw9 h (by omega) (qAl _)
  have low:=yy7 h r (i+1) (x:=p) (y:=((cuts.getD (i+1) 0:Int):Rat)) (by omega)
  have m1:=yeM p (cuts.getD i 0:Int)
  have m2:=yeM (len:Rat) (cuts.getD i 0:Int)
  have n1:=yga (maxR p (cuts.getD i 0:Int)) (cuts.getD (i+1) 0:Int)
  have n2:=yga (maxR (len:Rat) (cuts.getD i 0:Int)) (cuts.getD (i+1) 0:Int)
  have el:uC cuts i (len:Rat)=((cuts.getD (i+1) 0:Int):Rat):=by unfold uC;grind
  unfold vu at v1
  rw [el] at v1
  unfold mrkS
  by_cases c1:p<((cuts.getD (i+1) 0:Int):Rat)
  case neg =>
   rw [if_pos c1]
   have ep:uC cuts i p=((cuts.getD (i+1) 0:Int):Rat):=by unfold uC;grind
   rw [ep] at v1
   exact yt4 h r (i+1) p v (by omega) (Rat.not_lt.1 c1) p1 v0 (by grind) D D1 D2 hpD hvD hv
  rw [if_neg (fun k=>k c1)]
  have ep:uC cuts i p=p:=by unfold uC;grind
  rw [ep,low (qBp c1) qA4] at v1
  by_cases cz:dens.getD i 0=0
  ·rw [if_pos cz]
   rw [cz] at v1
   have e0:((0:Int):Rat)=0:=rfl
   exact yt4 h r (i+1) ((cuts.getD (i+1) 0:Int):Rat) v (by omega) qA4 hc1 v0 (by grind) D D1 D2 (In.int D1 _) hvD hv
  rw [if_neg cz]
  have hd1:0<dens.getD i 0:=by omega
  have dpos:(0:Rat)<((dens.getD i 0:Int):Rat):=Rat.intCast_pos.2 hd1
  have m:=yGY (x:=((cuts.getD (i+1) 0:Int):Rat)-p) (by grind) hd
  by_cases c3:(((cuts.getD (i+1) 0:Int):Rat)-p)*((dens.getD i 0:Int):Rat)<v
  ·have i1:=(In.int D1 (cuts.getD (i+1) 0)).sub hpD
   have i2:=i1.mulI (dens.getD i 0)
   have i3:=hvD.sub i2
   rw [yk9 (i1.small (M:=1000) ⟨by omega,by omega⟩ (by omega) (by show -(1000:Rat)≤_;grind) (by show _≤(1000:Rat);grind)),
    yk9 (i2.small (M:=12000) ⟨by omega,by omega⟩ (by omega) (by show -(12000:Rat)≤_;grind) (by show _≤(12000:Rat);grind)),if_pos c3,
    yk9 (i3.small (M:=12000) ⟨by omega,by omega⟩ (by omega) (by show -(12000:Rat)≤_;grind) (by show _≤(12000:Rat);grind))]
   exact yt4 h r (i+1) ((cuts.getD (i+1) 0:Int):Rat) (v-(((cuts.getD (i+1) 0:Int):Rat)-p)*((dens.getD i 0:Int):Rat)) (by omega) qA4 hc1 (by grind) (by grind) D D1 D2 (In.int D1 _) i3 (by grind)
  ·have i1:=(In.int D1 (cuts.getD (i+1) 0)).sub hpD
   have i2:=i1.mulI (dens.getD i 0)
   have i3:=hvD.div D1 (d:=dens.getD i 0) (by omega)
   have i4:=(hpD.up D1 (d:=dens.getD i 0) (by omega)).add i3
   have hDD:dens.getD i 0*D≤12*D:=qBh hd2.2 (by omega)
   have hDD1:1*1≤dens.getD i 0*D:=qA8 (by omega) D1 (by omega) (by omega)
   generalize hs:v / ((dens.getD i 0:Int):Rat)=s at *
   have es:s*((dens.getD i 0:Int):Rat)=v:=by rw [← hs];exact Rat.div_mul_cancel (by grind)
   have s0:0≤s:=by
    refine Rat.not_lt.1 fun k=>?_
    have:=Rat.mul_lt_mul_of_pos_right k dpos
    grind
   have s1:p+s≤((cuts.getD (i+1) 0:Int):Rat):=by
    refine Rat.not_lt.1 fun k=>?_
    have:(((cuts.getD (i+1) 0:Int):Rat)-p)<s:=by grind
    have:=Rat.mul_lt_mul_of_pos_right this dpos
    grind
   rw [yk9 (i1.small (M:=1000) ⟨by omega,by omega⟩ (by omega) (by show -(1000:Rat)≤_;grind) (by show _≤(1000:Rat);grind)),
    yk9 (i2.small (M:=12000) ⟨by omega,by omega⟩ (by omega) (by show -(12000:Rat)≤_;grind) (by show _≤(12000:Rat);grind)),if_neg c3,
    yk9 (i3.small (M:=1000) ⟨by omega,by omega⟩ (by omega) (by show -(1000:Rat)≤_;grind) (by show _≤(1000:Rat);grind)),
    yk9 (i4.small (M:=1000) ⟨by omega,by omega⟩ (by omega) (by show -(1000:Rat)≤_;grind) (by show _≤(1000:Rat);grind))]
   exact ⟨_,dens.getD i 0,rfl,⟨by omega,hd2.2⟩,i4⟩
theorem yEu (h:VC len cuts dens) {p v:Rat} (p0:0≤p) (p1:p≤(len:Rat)) (v0:0<v) (hv:v≤vX cuts dens (len:Rat)-vX cuts dens p) {D:Int} (D1:1≤D) (D2:D≤1000000000000) (hp:In D p) (hvD:In D v) :
  ∃ q d,mrkC cuts dens p v=.ok q∧(1≤d∧d≤12)∧In (d*D) q∧vX cuts dens q=vX cuts dens p+v∧p<q∧q≤(len:Rat)∧∀ x,x<q→vX cuts dens x<vX cuts dens q:=by
 have c0:cuts.getD 0 0=0:=h.2.2.2.2.2.1
 have t:=yCI h
 have m0:=yt3 h p0
 have tb:((totC cuts dens:Int):Rat)≤12000:=qA1.2 (yyT h).2
 obtain ⟨q,d,e,hd,hq⟩:=yt4 h dens.length 0 p v (by omega) (by rw [c0];exact p0) p1 v0 hv D D1 D2 hp hvD (by grind)
 have ec:mrkC cuts dens p v=.ok q:=by
  unfold mrkC
  rw [if_neg (by grind)]
  exact e
 obtain ⟨k1,k2,k3,_,k5⟩:=yKE h p0 p1 (qBp v0) ec
 refine ⟨q,d,ec,hd,hq,k1,?_,k3,k5 (by grind)⟩
 by_cases hlt:p<q
 ·exact hlt
 ·have:p=q:=by grind
  rw [← this] at k1
  grind
end
section
variable {l:List Ck}
def vXA (l:List Ck) (a:Nat) (p:Rat):Rat:=vX (l.getD a default).cuts (l.getD a default).dens p
def lenR (l:List Ck):Rat:=((l.getD 0 default).len:Rat)
def valQ (an ad:Int) (a:Nat) (p v:Rat):Qy:=⟨a,1,an,ad,p.num,p.den,v.num,v.den⟩
def valE (l:List Ck) (an ad:Int) (m a:Nat) (p:Rat):Except Int Rat:=qryR l m a (Ck.value an ad p.num p.den)
theorem yIf (hd:DK l) {a:Nat} (_:a<l.length) {an ad:Int} (ha:I64 an) (ha':I64 ad) (lg:List Qy) {p:Rat} (hp:small p) (K:List PV→List PV→Int→Int→Int→Prop) :
  yam (cks l) (logs lg) a an ad p.num p.den K =
   match valE l an ad lg.length a p with
   | .ok v=>K (cks l) (logs (lg++[valQ an ad a p v])) v.num v.den 0
   | .error e=>K [] [] 0 0 e:=by
 have n6:=hd.n6
 rw [yHZ hd.fin (by omega) (yAM lg) ha ha' hp.i1 hp.i2,ycR]
 have em:qryR l lg.length a (Ck.value an ad p.num p.den)=valE l an ad lg.length a p:=rfl
 rw [em]
 cases valE l an ad lg.length a p with
 | ok v =>
  show K (cks l) (logs lg++[_]) _ _ _=K (cks l) (logs (lg++[_])) _ _ _
  rw [yEh];rfl
 | error c=>rfl
theorem yJI {A r:List Nat} {i a:Nat} (h:A.drop i=a::r):i<A.length∧A.getD i 0=a∧A.drop (i+1)=r:=by
 have hlt:i<A.length:=by
  have:=congrArg List.length h
  rw [qAt,qAk] at this
  omega
 rw [List.drop_eq_getElem_cons hlt] at h
 rw [qAd,qAb hlt]
 exact ⟨hlt,(List.cons.inj h).1,(List.cons.inj h).2⟩
theorem yKX {x:Int} {P:Prop}:asr (conf zI (.int .i64 x)) P=P:=rfl
theorem iov {k:IntKind} {x:Int}:yaa (.int k x)=x:=rfl
theorem yIg (hd:DK l) {a:Nat} (h:a<l.length) {q p:Rat} (hs:small q) (hp:small p) (q0:0≤q) (qp:q≤p) (p1:p≤lenR l) {D:Int} (hD:1≤D∧D≤50000000000000) (hq:In D q) (hpD:In D p) {m:Nat} (hm:m<2000) :
  valE l q.num q.den m a p=.ok (vXA l a p-vXA l a q)∧QR l (valQ q.num q.den a p (vXA l a p-vXA l a q)):=by
 have hok:=hd.ok a h
 have hlen:=hd.len a h
 have p1':p≤((l.getD a default).len:Rat):=by rw [hlen];exact p1
 have e:valR (l.getD a default).len (l.getD a default).cuts (l.getD a default).dens q.num q.den p.num p.den=.ok (vXA l a p-vXA l a q):=by
  unfold valR
  rw [if_pos hok.ck,yf9,yf9,if_pos ⟨yJi hs q0 (qB1 qp p1'),yJi hp (qB1 q0 qp) p1',Rat.not_lt.2 qp⟩]
  exact yIe hok hD hq hpD q0 qp p1'
 refine ⟨?_,⟨by show (0:Int)≤a;omega,by show (a:Int)<_;omega⟩,⟨hs.i1,hs.i2,hp.i1,hp.i2⟩,vXA l a p-vXA l a q,⟨rfl,rfl⟩,.inr ⟨rfl,?_⟩⟩
 ·unfold valE qryR
  rw [if_pos (hd.err (by omega)),if_pos ⟨by omega,by omega⟩,qAe]
  have:Ck.value q.num q.den p.num p.den (l.getD a default)=.ok (vXA l a p-vXA l a q):=e
  rw [this]
  show (if m≥2000 then _ else _)=_
  rw [if_neg (by omega)]
 ·exact e
end
set_option maxRecDepth 100000
section
variable {l:List Ck}
theorem yfi (a b:Int) (K:Int→Int→Prop):yac a b 0 K=K a b:=rfl
theorem yGZ (n:Int) (K:Int→Int→Prop):yaI n K=K n 1:=rfl
def mkV (l:List Ck) (a:Nat) (q v:Rat):Rat:=getR (mrkC (l.getD a default).cuts (l.getD a default).dens q v)
def mkQ (a:Nat) (q v p:Rat):Qy:=⟨a,2,q.num,q.den,v.num,v.den,p.num,p.den⟩
def vlQ (l:List Ck) (a:Nat) (q p:Rat):Qy:=valQ q.num q.den a p (vXA l a p-vXA l a q)
structure MkV (l:List Ck) (a:Nat) (q v:Rat) (D:Int):Prop where
 e:mrkC (l.getD a default).cuts (l.getD a default).dens q v=.ok (mkV l a q v)
 d:∃ d:Int,(1≤d∧d≤12)∧In (d*D) (mkV l a q v)
 eqv:vXA l a (mkV l a q v)=vXA l a q+v
 ge:q≤mkV l a q v
 le:mkV l a q v≤lenR l
theorem yy8 (hd:DK l) {a:Nat} (ha:a<l.length) {q v:Rat} (q0:0≤q) (q1:q≤lenR l) (v0:0≤v) (hv:v≤vXA l a (lenR l)-vXA l a q) {D:Int} (D1:1≤D) (D2:D≤1000000000000) (hq:In D q) (hvD:In D v):MkV l a q v D:=by
 have hok:=hd.ok a ha
 have hlen:=hd.len a ha
 by_cases hz:v=0
 ·have e:mrkC (l.getD a default).cuts (l.getD a default).dens q v=.ok q:=by unfold mrkC;rw [if_pos hz]
  have g:mkV l a q v=q:=by unfold mkV;rw [e];rfl
  refine ⟨by rw [g];exact e,⟨1,by omega,by rw [g,Int.one_mul];exact hq⟩,by rw [g,hz];grind,by rw [g];exact qA4,by rw [g];exact q1⟩
 have v0:0<v:=by grind
 unfold vXA lenR at *
 rw [← hlen] at q1 hv
 obtain ⟨p,d,e,hd12,hp,k1,k2,k3,k4⟩:=yEu hok q0 q1 v0 hv D1 D2 hq hvD
 obtain ⟨_,g2⟩:=yGH e
 have g2:mkV l a q v=p:=g2
 refine ⟨?_,⟨d,hd12,?_⟩,?_,?_,?_⟩
 ·rw [g2];exact e
 ·rw [g2];exact hp
 ·rw [g2];exact k1
 ·rw [g2];exact qBp k2
 ·rw [g2];unfold lenR;rw [← hlen];exact k3
theorem yIh (hd:DK l) {a:Nat} (ha:a<l.length) {q v:Rat} (hs:small q) (q0:0≤q) (q1:q≤lenR l) (hv:small v) (v0:0≤v) {D:Int} (h:MkV l a q v D) {lg:List Qy} (hm:lg.length<2000) (K:List PV→List PV→Int→Int→Int→Prop) :
  ye7 (cks l) (logs lg) a q.num q.den v.num v.den K=K (cks l) (logs (lg++[mkQ a q v (mkV l a q v)])) (mkV l a q v).num (mkV l a q v).den 0:=by
 have n6:=hd.n6
 have hok:=hd.ok a ha
 have e1:mrkR (l.getD a default).len (l.getD a default).cuts (l.getD a default).dens q.num q.den v.num v.den=.ok (mkV l a q v):=by
  unfold mrkR
  rw [if_pos hok.ck,if_pos ⟨yJi hs q0 (by rw [hd.len a ha];exact q1),hv.rv,Rat.num_nonneg.2 v0⟩,yf9,yf9]
  exact h.e
 have e2:qryR l lg.length (a:Int) (Ck.mark q.num q.den v.num v.den)=.ok (mkV l a q v):=by
  unfold qryR
  rw [if_pos (hd.err (by omega)),if_pos ⟨by omega,by omega⟩,qAe]
  have:Ck.mark q.num q.den v.num v.den (l.getD a default)=.ok (mkV l a q v):=e1
  rw [this]
  show (if lg.length≥2000 then _ else _)=_
  rw [if_neg (by omega)]
 rw [yJn hd.fin (by omega) (yAM lg) hs.i1 hs.i2 hv.i1 hv.i2,ycR,e2]
 show K (cks l) (logs lg++[_]) _ _ _=K (cks l) (logs (lg++[_])) _ _ _
 rw [yEh];rfl
theorem yJJ (hd:DK l) {a:Nat} (ha:a<l.length) {q v:Rat} (hs:small q) (q0:0≤q) (q1:q≤lenR l) (hv:small v) (v0:0≤v) {D:Int} (h:MkV l a q v D) {lg:List Qy} (hm:lg.length<2000) (K:Int→Int→List PV→List PV→Prop) :
  yar (cks l) (logs lg) a q.num q.den v.num v.den K=K (mkV l a q v).num (mkV l a q v).den (cks l) (logs (lg++[mkQ a q v (mkV l a q v)])):=by
 unfold yar yfd
 rw [yIh hd ha hs q0 q1 hv v0 h hm,yfi]
theorem yLB (hd:DK l) {a:Nat} (ha:a<l.length) {q p:Rat} (hs:small q) (hp:small p) (q0:0≤q) (qp:q≤p) (p1:p≤lenR l) {D:Int} (hD:1≤D∧D≤50000000000000) (hq:In D q) (hpD:In D p) {lg:List Qy} (hm:lg.length<2000) (K:List PV→List PV→Int→Int→Int→Prop) :
  yam (cks l) (logs lg) a q.num q.den p.num p.den K=K (cks l) (logs (lg++[vlQ l a q p])) (vXA l a p-vXA l a q).num (vXA l a p-vXA l a q).den 0:=by
 rw [yIf hd ha hs.i1 hs.i2 lg hp,(yIg hd ha hs hp q0 qp p1 hD hq hpD (m:=lg.length) hm).1]
 rfl
def totR (l:List Ck) (a:Nat):Rat:=((totC (l.getD a default).cuts (l.getD a default).dens:Int):Rat)
theorem yJK (hd:DK l) {a:Nat} (h2:a<l.length) {lg:List PV} (hm:lg.length≤2000) (K:Int→Int→List PV→List PV→Prop):yav (cks l) lg a K=K (totR l a).num (totR l a).den (cks l) lg:=by
 have hok:=hd.ok a h2
 have n6:=hd.n6
 have h1:=VC.l1 hok;have h3:=VC.l2 hok
 unfold yav yeA ykr ymH
 rw [ypD hd.fin (by omega),hd.err hm,cnF rfl,yFH,decide_eq_true (by omega),qBq,yai]
 simp only [lt]
 rw [ycg,qAe,yhP h2,asT (by omega),asT (by omega),asCk,ck0,ck1,ck2,yHW (by omega) (by omega),if_pos (VC.ck hok)]
 have e1:(totR l a).num=totC (l.getD a default).cuts (l.getD a default).dens:=Rat.num_intCast _
 have e2:(((totR l a).den:Nat):Int)=1:=by unfold totR;rw [Rat.den_intCast];rfl
 rw [e1,e2]
 rfl
def r13:Rat:=mkRat 1 3
def r23:Rat:=mkRat 2 3
theorem r13n:r13.num=1:=by decide +kernel
theorem r13d:r13.den=3:=by decide +kernel
theorem r23n:r23.num=2:=by decide +kernel
theorem r23d:r23.den=3:=by decide +kernel
theorem r13s:small r13:=by decide +kernel
theorem r23s:small r23:=by decide +kernel
theorem yG0 (hd:DK l) {a:Nat} (ha:a<l.length) {q v:Rat} (hs:small q) (q0:0≤q) (q1:q≤lenR l) (hv:small v) (h1s:small (v*r13)) (h2s:small (v*r23)) (h10:0≤v*r13) (h20:0≤v*r23) {D D':Int} (h1:MkV l a q (v*r13) D) (h2:MkV l a q (v*r23) D') {lg:List Qy} (hm:lg.length+2<2000) (K:Int→Int→Int→Int→List PV→List PV→Prop) :
  yad (cks l) (logs lg) a q.num q.den v.num v.den K=K (mkV l a q (v*r13)).num (mkV l a q (v*r13)).den (mkV l a q (v*r23)).num (mkV l a q (v*r23)).den (cks l) (logs ((lg++[mkQ a q (v*r13) (mkV l a q (v*r13))])++[mkQ a q (v*r23) (mkV l a q (v*r23))])):=by
 unfold yad yei
 have m1:=fun K=>ytU hv r13s K
 have m2:=fun K=>ytU hv r23s K
 rw [r13n,r13d] at m1
 rw [r23n,r23d] at m2
 have m1:∀ K,ya7 v.num v.den 1 3 K=_:=m1
 have m2:∀ K,ya7 v.num v.den 2 3 K=_:=m2
 rw [m1,ydI,if_pos h1s,yfi,yJJ hd ha hs q0 q1 h1s h10 h1 (by omega),m2,ydI,if_pos h2s,yfi,yJJ hd ha hs q0 q1 h2s h20 h2 (by rw [qAj,qAq];omega)]
def pkL (v:Nat→Rat):Nat→List Nat→Nat
 | b,[]=>b
 | b,i::r=>pkL v (if v b<v i then i else b) r
theorem yLC {q r:Rat}:decide (cmpQ q r>0)=decide (r<q):=by
 unfold cmpQ
 by_cases h:q<r
 ·rw [if_pos h]
  have:¬r<q:=fun h'=>by grind
  simp [this]
 ·rw [if_neg h]
  by_cases h2:r<q
  ·simp [h2]
  ·simp [h2]
theorem yAY {vs:List Rat} (hs:∀ i,i<vs.length→small (vs.getD i 0)) {J:List Nat} (hJ:∀ i∈J,i<vs.length) (h6:J.length≤100) {x:List PV→Int→List PV→Int→Int→Bool→Prop} :
  ∀ (r:List Nat) (i n b:Nat),J.drop i=r→i≤J.length→r.length<n→b<vs.length→x (rts vs) (pkL (fun i=>vs.getD i 0) b r:Nat) (nts J) (J.length:Int) (J.length:Int) false→ycG ybL x n (rts vs) (b:Int) (nts J) (J.length:Int) (i:Int)
 | [],i,n,b,hr,hi,hn,hb,h=>by
  obtain ⟨n,rfl⟩:∃ k,n=k+1:=⟨n-1,by omega⟩
  have e:i=J.length:=by
   have:=congrArg List.length hr
   rw [qAt,qB4] at this
   omega
  subst e
  unfold ycG
  rw [cbF (by omega)]
  exact h
 | a::r,i,n,b,hr,hi,hn,hb,h=>by
  obtain ⟨n,rfl⟩:∃ k,n=k+1:=⟨n-1,by omega⟩
  simp only [qAk] at hn
  obtain ⟨hlt,hg,hr'⟩:=yJI hr
  have ha:a<vs.length:=hJ a (by rw [← hg,qAd,qAb hlt];exact qB6 hlt)
  have ew:IntKind.i64.wrap ((i:Int)+1)=((i+1:Nat):Int):=by rw [wib (by omega) (by omega)];omega
  have IH:=fun b hb h=>yAY hs hJ h6 (x:=x) r (i+1) n b hr' (by omega) (by omega) hb h
  unfold ycG
  simp only [Go.Pf.jn,lt]
  rw [cbT (by omega),yGJ,asT (by omega),asT (by omega),qAe,yLx hlt,hg,yKX,iov,yfz,asT (by omega),asT (by omega),qAe,ylb ha,asW,asT (by omega),asT (by omega),qAe,ylb hb,asW,yv9,ywa,yv9,ywa,yCC (hs a ha) (hs b hb),yLC,ew]
  unfold pkL at h
  by_cases hc:vs.getD b 0<vs.getD a 0
  ·rw [if_pos hc] at h
   rw [decide_eq_true hc,yan]
   exact IH a ha h
  ·rw [if_neg hc] at h
   rw [decide_eq_false hc,yai]
   exact IH b hb h
theorem yJL {vs:List Rat} (hs:∀ i,i<vs.length→small (vs.getD i 0)) {i0:Nat} {J:List Nat} (hJ:∀ i∈i0::J,i<vs.length) (h6:J.length≤90) (K:Int→Prop) :
  yal (rts vs) (nts (i0::J)) K=K (pkL (fun i=>vs.getD i 0) i0 (i0::J):Nat):=by
 refine ywV _ _ _ (fun K k=>?_) K
 unfold yal yjD
 have e:List.getD (nts (i0::J)) 0 .nils=.int .i64 i0:=rfl
 simp only [lt]
 rw [yGJ,asT (by simp only [qAk];omega),e,yKX,iov]
 exact ⟨(i0::J).length+1,yAY hs hJ (by simp only [qAk];omega) (i0::J) 0 _ i0 rfl (by omega) (by omega) (hJ i0 qAh) k⟩
theorem ypI {v:Nat→Rat}:∀ (J:List Nat) (b:Nat),(pkL v b J=b∨pkL v b J∈J)∧v b≤v (pkL v b J)∧∀ i∈J,v i≤v (pkL v b J)
 | [],b=>⟨.inl rfl,qA4,fun i h=>by cases h⟩
 | a::r,b=>by
  unfold pkL
  by_cases hc:v b<v a
  ·rw [if_pos hc]
   obtain ⟨h1,h2,h3⟩:=ypI (v:=v) r a
   refine ⟨.inr ?_,by grind,fun i hi=>?_⟩
   ·rcases h1 with h1 | h1
    ·rw [h1];exact qAh
    ·exact qAf _ h1
   ·rcases qAn.1 hi with rfl | hi
    ·exact h2
    ·exact h3 i hi
  ·rw [if_neg hc]
   obtain ⟨h1,h2,h3⟩:=ypI (v:=v) r b
   have hc:=Rat.not_lt.1 hc
   refine ⟨?_,h2,fun i hi=>?_⟩
   ·rcases h1 with h1 | h1
    ·exact .inl h1
    ·exact .inr (qAf _ h1)
   ·rcases qAn.1 hi with rfl | hi
    ·grind
    ·exact h3 i hi
def oth (p:Nat):List Nat:=if p=0 then [1,2] else if p=1 then [0,2] else [0,1]
theorem oth0 (K:List PV→Prop):yah (nts [0]) K=K (nts [1,2]):=by
 refine ybr _ _ (fun K k=>?_) K
 refine @Exists.intro Nat _ 4 ?_
 refine @Exists.intro Nat _ 2 ?_
 refine @Exists.intro Nat _ 2 ?_
 refine @Exists.intro Nat _ 2 ?_
 exact k
theorem oth1 (K:List PV→Prop):yah (nts [1]) K=K (nts [0,2]):=by
 refine ybr _ _ (fun K k=>?_) K
 refine @Exists.intro Nat _ 4 ?_
 refine @Exists.intro Nat _ 2 ?_
 refine @Exists.intro Nat _ 2 ?_
 refine @Exists.intro Nat _ 2 ?_
 exact k
theorem oth2 (K:List PV→Prop):yah (nts [2]) K=K (nts [0,1]):=by
 refine ybr _ _ (fun K k=>?_) K
 refine @Exists.intro Nat _ 4 ?_
 refine @Exists.intro Nat _ 2 ?_
 refine @Exists.intro Nat _ 2 ?_
 refine @Exists.intro Nat _ 2 ?_
 exact k
theorem yL2 (K:List PV→Prop):yah (nts [0,1]) K=K (nts [2]):=by
 refine ybr _ _ (fun K k=>?_) K
 refine @Exists.intro Nat _ 4 ?_
 refine @Exists.intro Nat _ 3 ?_
 refine @Exists.intro Nat _ 3 ?_
 refine @Exists.intro Nat _ 3 ?_
 exact k
theorem yL3 (K:List PV→Prop):yah (nts [1,0]) K=K (nts [2]):=by
 refine ybr _ _ (fun K k=>?_) K
 refine @Exists.intro Nat _ 4 ?_
 refine @Exists.intro Nat _ 3 ?_
 refine @Exists.intro Nat _ 3 ?_
 refine @Exists.intro Nat _ 3 ?_
 exact k
theorem yL4 (K:List PV→Prop):yah (nts [0,2]) K=K (nts [1]):=by
 refine ybr _ _ (fun K k=>?_) K
 refine @Exists.intro Nat _ 4 ?_
 refine @Exists.intro Nat _ 3 ?_
 refine @Exists.intro Nat _ 3 ?_
 refine @Exists.intro Nat _ 3 ?_
 exact k
theorem yL5 (K:List PV→Prop):yah (nts [2,0]) K=K (nts [1]):=by
 refine ybr _ _ (fun K k=>?_) K
 refine @Exists.intro Nat _ 4 ?_
 refine @Exists.intro Nat _ 3 ?_
 refine @Exists.intro Nat _ 3 ?_
 refine @Exists.intro Nat _ 3 ?_
 exact k
theorem yL6 (K:List PV→Prop):yah (nts [1,2]) K=K (nts [0]):=by
 refine ybr _ _ (fun K k=>?_) K
 refine @Exists.intro Nat _ 4 ?_
 refine @Exists.intro Nat _ 3 ?_
 refine @Exists.intro Nat _ 3 ?_
 refine @Exists.intro Nat _ 3 ?_
 exact k
theorem yL7 (K:List PV→Prop):yah (nts [2,1]) K=K (nts [0]):=by
 refine ybr _ _ (fun K k=>?_) K
 refine @Exists.intro Nat _ 4 ?_
 refine @Exists.intro Nat _ 3 ?_
 refine @Exists.intro Nat _ 3 ?_
 refine @Exists.intro Nat _ 3 ?_
 exact k
theorem ypJ {p:Nat} (hp:p<3) (K:List PV→Prop):yah [.int .i64 (p:Int)] K=K (nts (oth p)):=by
 obtain rfl | rfl | rfl:p=0∨p=1∨p=2:=by omega
 ·exact oth0 K
 ·exact oth1 K
 ·exact oth2 K
theorem yCJ {a b:Nat} (ha:a<3) (hb:b<3) (hab:a≠b) (K:List PV→Prop):yah [.int .i64 (a:Int),.int .i64 (b:Int)] K=K (nts [3-a-b]):=by
 obtain rfl | rfl | rfl:a=0∨a=1∨a=2:=by omega
 ·obtain rfl | rfl:b=1∨b=2:=by omega
  ·exact yL2 K
  ·exact yL4 K
 ·obtain rfl | rfl:b=0∨b=2:=by omega
  ·exact yL3 K
  ·exact yL6 K
 ·obtain rfl | rfl:b=0∨b=1:=by omega
  ·exact yL5 K
  ·exact yL7 K
def pk (v:List Rat):Nat:=pkL (fun i=>v.getD i 0) 0 [0,1,2]
def pkO (v:List Rat) (p:Nat):Nat:=pkL (fun i=>v.getD i 0) ((oth p).getD 0 0) (oth p)
theorem yJM (v:List Rat):pk v<3:=by
 obtain ⟨h,_⟩:=ypI (v:=fun i=>v.getD i 0) [0,1,2] 0
 unfold pk
 rcases h with h | h
 ·rw [h];decide
 ·simp only [qAn,List.not_mem_nil,or_false] at h;omega
theorem yLD (v:List Rat) {i:Nat} (hi:i<3):v.getD i 0≤v.getD (pk v) 0:=(ypI (v:=fun i=>v.getD i 0) [0,1,2] 0).2.2 i (by simp;omega)
theorem yKF {p i:Nat} (hp:p<3):i∈oth p↔i<3∧i≠p:=by
 obtain rfl | rfl | rfl:p=0∨p=1∨p=2:=by omega
 all_goals (simp [oth];omega)
theorem yG1 (v:List Rat) {p:Nat} (hp:p<3):pkO v p<3∧pkO v p≠p:=by
 obtain ⟨h,_⟩:=ypI (v:=fun i=>v.getD i 0) (oth p) ((oth p).getD 0 0)
 have h:pkO v p∈oth p:=by
  unfold pkO
  rcases h with h | h
  ·rw [h]
   obtain rfl | rfl | rfl:p=0∨p=1∨p=2:=by omega
   all_goals simp [oth]
  ·exact h
 exact (yKF hp).1 h
theorem yCK {v:List Rat} (h3:v.length=3) (hs:∀ i,i<3→small (v.getD i 0)) (K:Int→Prop):yal (rts v) [.int .i64 0,.int .i64 1,.int .i64 2] K=K (pk v:Nat) :=
 yJL (i0:=0) (J:=[1,2]) (by rw [h3];exact hs) (by rw [h3];intro i hi;simp at hi;omega) (by decide) K
theorem yG2 {v:List Rat} (h3:v.length=3) (hs:∀ i,i<3→small (v.getD i 0)) {p:Nat} (hp:p<3) (K:Int→Prop):yal (rts v) (nts (oth p)) K=K (pkO v p:Nat):=by
 have key:∀ a b:Nat,oth p=[a,b]→a<3→b<3→yal (rts v) (nts (oth p)) K=K (pkO v p:Nat):=fun a b e ha hb=>by
  unfold pkO
  rw [e]
  exact yJL (i0:=a) (J:=[b]) (by rw [h3];exact hs) (by rw [h3];intro i hi;simp at hi;omega) (by rw [qAq];omega) K
 obtain rfl | rfl | rfl:p=0∨p=1∨p=2:=by omega
 ·exact key 1 2 rfl (by omega) (by omega)
 ·exact key 0 2 rfl (by omega) (by omega)
 ·exact key 0 1 rfl (by omega) (by omega)
end
theorem exS3 {P R:Nat→Prop} (h0:P 0=False) (h:∀ n,P (n+1)=R n):(∃ n,P n)=∃ n,R n :=
 propext ⟨fun ⟨n,hn⟩=>match n,hn with | 0,hn=>(h0 ▸ hn).elim | n+1,hn=>⟨n,(h n) ▸ hn⟩,fun ⟨n,hn⟩=>⟨n+1,(h n).symm ▸ hn⟩⟩
theorem exC3 {Q:Prop}:(∃ _:Nat,Q)=Q:=propext ⟨fun ⟨_,h⟩=>h,fun h=>⟨0,h⟩⟩
section
variable {l:List Ck}
structure VQ (l:List Ck) (s:RS):Prop where
 s1:small s.1
 s2:small s.2
 z:0≤s.1
 le:s.1≤s.2
 len:s.2≤lenR l
 D:∃ D:Int,(1≤D∧D≤50000000000000)∧In D s.1∧In D s.2
def vS (l:List Ck) (a:Nat) (s:RS):Rat:=vXA l a s.2-vXA l a s.1
theorem VQ.val (hd:DK l) {a:Nat} (ha:a<l.length) {s:RS} (h:VQ l s) {lg:List Qy} (hm:lg.length<2000) (K:List PV→List PV→Int→Int→Int→Prop) :
  yam (cks l) (logs lg) a s.1.num s.1.den s.2.num s.2.den K=K (cks l) (logs (lg++[vlQ l a s.1 s.2])) (vS l a s).num (vS l a s).den 0:=by
 obtain ⟨D,hD,k1,k2⟩:=h.D
 exact yLB hd ha h.s1 h.s2 h.z h.le h.len hD k1 k2 hm K
theorem yL8 (hd:DK l) {a:Nat} (ha:a<l.length) {s t:RS} (hs:VQ l s) (ht:VQ l t) {lg:List Qy} (hm:lg.length+2<2000) {x0 x1} (i0 i1 i2 i3 i4 i5 i6 i7 i8 i9 i10 i11 i12 i13 i14 i15 i16 i17 i18 i19:Int) :
  (∃ n,ycp yaI yav yad yam yac yaC yal yah yar x0 x1 n (cks l) (logs lg) i0 i1 i2 i3 i4 i5 i6 i7 i8 i9 i10 i11 i12 i13 i14 i15 i16 i17 i18 i19 (a:Int) [encR s,encR t] 2 0) =
  x1 (rts [vS l a s,vS l a t]) (cks l) (logs ((lg++[vlQ l a s.1 s.2])++[vlQ l a t.1 t.2])) i0 i1 i2 i3 i4 i5 i6 i7 i8 i9 i10 i11 i12 i13 i14 i15 i16 i17 i18 i19 (a:Int) [encR s,encR t] 2 2 false:=by
 rw [exS3 rfl (R:=fun n=>ya5 yaI yav yad yam yac yaC yal yah yar x1 n (rts [vS l a s]) (cks l) (logs (lg++[vlQ l a s.1 s.2])) i0 i1 i2 i3 i4 i5 i6 i7 i8 i9 i10 i11 i12 i13 i14 i15 i16 i17 i18 i19 (a:Int) [encR s,encR t] 2 1) (fun n=>?_),
  exS3 rfl (R:=fun n=>ya5 yaI yav yad yam yac yaC yal yah yar x1 n (rts [vS l a s,vS l a t]) (cks l) (logs ((lg++[vlQ l a s.1 s.2])++[vlQ l a t.1 t.2])) i0 i1 i2 i3 i4 i5 i6 i7 i8 i9 i10 i11 i12 i13 i14 i15 i16 i17 i18 i19 (a:Int) [encR s,encR t] 2 2) (fun n=>?_),
  exS3 rfl (R:=fun _=>x1 (rts [vS l a s,vS l a t]) (cks l) (logs ((lg++[vlQ l a s.1 s.2])++[vlQ l a t.1 t.2])) i0 i1 i2 i3 i4 i5 i6 i7 i8 i9 i10 i11 i12 i13 i14 i15 i16 i17 i18 i19 (a:Int) [encR s,encR t] 2 2 false) (fun n=>by kernel_rfl),exC3]
 ·have e:ya5 yaI yav yad yam yac yaC yal yah yar x1 (n+1) (rts [vS l a s]) (cks l) (logs (lg++[vlQ l a s.1 s.2])) i0 i1 i2 i3 i4 i5 i6 i7 i8 i9 i10 i11 i12 i13 i14 i15 i16 i17 i18 i19 (a:Int) [encR s,encR t] 2 1=yam (cks l) (logs (lg++[vlQ l a s.1 s.2])) a t.1.num t.1.den t.2.num t.2.den (fun c g y0 y1 y2=>yac y0 y1 y2 fun r0 r1=>ya5 yaI yav yad yam yac yaC yal yah yar x1 n [encW (vS l a s),.agg [.int .i64 r0,.int .i64 r1]] c g i0 i1 i2 i3 i4 i5 i6 i7 i8 i9 i10 i11 i12 i13 i14 i15 i16 i17 i18 i19 (a:Int) [encR s,encR t] 2 2):=by kernel_rfl
  rw [e,ht.val hd ha (by rw [qAj,qAq];omega),yfi]
  rfl
 ·have e:ycp yaI yav yad yam yac yaC yal yah yar x0 x1 (n+1) (cks l) (logs lg) i0 i1 i2 i3 i4 i5 i6 i7 i8 i9 i10 i11 i12 i13 i14 i15 i16 i17 i18 i19 (a:Int) [encR s,encR t] 2 0=yam (cks l) (logs lg) a s.1.num s.1.den s.2.num s.2.den (fun c g y0 y1 y2=>yac y0 y1 y2 fun r0 r1=>ya5 yaI yav yad yam yac yaC yal yah yar x1 n [.agg [.int .i64 r0,.int .i64 r1]] c g i0 i1 i2 i3 i4 i5 i6 i7 i8 i9 i10 i11 i12 i13 i14 i15 i16 i17 i18 i19 (a:Int) [encR s,encR t] 2 1):=by kernel_rfl
  rw [e,hs.val hd ha (by omega),yfi]
  rfl
theorem yKY (hd:DK l) {a:Nat} (ha:a<l.length) {s t u:RS} (hs:VQ l s) (ht:VQ l t) (hu:VQ l u) {lg:List Qy} (hm:lg.length+3<2000) {x2 x3} (v:List PV) (i12 i13 i14 i15 i16 i17 i18 i19:Int) :
  (∃ n,ybC yaI yav yad yam yac yaC yal yah yar x2 x3 n v (cks l) (logs lg) s.1.num s.1.den s.2.num s.2.den t.1.num t.1.den t.2.num t.2.den u.1.num u.1.den u.2.num u.2.den i12 i13 i14 i15 i16 i17 i18 i19 (a:Int) 3 0) =
  x3 v (rts [vS l a s,vS l a t,vS l a u]) (cks l) (logs (((lg++[vlQ l a s.1 s.2])++[vlQ l a t.1 t.2])++[vlQ l a u.1 u.2])) s.1.num s.1.den s.2.num s.2.den t.1.num t.1.den t.2.num t.2.den u.1.num u.1.den u.2.num u.2.den i12 i13 i14 i15 i16 i17 i18 i19 (a:Int) 3 3 false:=by
 rw [exS3 rfl (R:=fun n=>yaS yaI yav yad yam yac yaC yal yah yar x3 n v (rts [vS l a s]) (cks l) (logs (lg++[vlQ l a s.1 s.2])) s.1.num s.1.den s.2.num s.2.den t.1.num t.1.den t.2.num t.2.den u.1.num u.1.den u.2.num u.2.den i12 i13 i14 i15 i16 i17 i18 i19 (a:Int) 3 1) (fun n=>?_),
  exS3 rfl (R:=fun n=>yaS yaI yav yad yam yac yaC yal yah yar x3 n v (rts [vS l a s,vS l a t]) (cks l) (logs ((lg++[vlQ l a s.1 s.2])++[vlQ l a t.1 t.2])) s.1.num s.1.den s.2.num s.2.den t.1.num t.1.den t.2.num t.2.den u.1.num u.1.den u.2.num u.2.den i12 i13 i14 i15 i16 i17 i18 i19 (a:Int) 3 2) (fun n=>?_),
  exS3 rfl (R:=fun n=>yaS yaI yav yad yam yac yaC yal yah yar x3 n v (rts [vS l a s,vS l a t,vS l a u]) (cks l) (logs (((lg++[vlQ l a s.1 s.2])++[vlQ l a t.1 t.2])++[vlQ l a u.1 u.2])) s.1.num s.1.den s.2.num s.2.den t.1.num t.1.den t.2.num t.2.den u.1.num u.1.den u.2.num u.2.den i12 i13 i14 i15 i16 i17 i18 i19 (a:Int) 3 3) (fun n=>?_),
  exS3 rfl (R:=fun _=>x3 v (rts [vS l a s,vS l a t,vS l a u]) (cks l) (logs (((lg++[vlQ l a s.1 s.2])++[vlQ l a t.1 t.2])++[vlQ l a u.1 u.2])) s.1.num s.1.den s.2.num s.2.den t.1.num t.1.den t.2.num t.2.den u.1.num u.1.den u.2.num u.2.den i12 i13 i14 i15 i16 i17 i18 i19 (a:Int) 3 3 false) (fun n=>by kernel_rfl),exC3]
 ·have e:yaS yaI yav yad yam yac yaC yal yah yar x3 (n+1) v (rts [vS l a s,vS l a t]) (cks l) (logs ((lg++[vlQ l a s.1 s.2])++[vlQ l a t.1 t.2])) s.1.num s.1.den s.2.num s.2.den t.1.num t.1.den t.2.num t.2.den u.1.num u.1.den u.2.num u.2.den i12 i13 i14 i15 i16 i17 i18 i19 (a:Int) 3 2=yam (cks l) (logs ((lg++[vlQ l a s.1 s.2])++[vlQ l a t.1 t.2])) a u.1.num u.1.den u.2.num u.2.den (fun c g y0 y1 y2=>yac y0 y1 y2 fun r0 r1=>yaS yaI yav yad yam yac yaC yal yah yar x3 n v [encW (vS l a s),encW (vS l a t),.agg [.int .i64 r0,.int .i64 r1]] c g s.1.num s.1.den s.2.num s.2.den t.1.num t.1.den t.2.num t.2.den u.1.num u.1.den u.2.num u.2.den i12 i13 i14 i15 i16 i17 i18 i19 (a:Int) 3 3):=by kernel_rfl
  rw [e,hu.val hd ha (by simp only [qAj,qAq];omega),yfi]
  rfl
 ·have e:yaS yaI yav yad yam yac yaC yal yah yar x3 (n+1) v (rts [vS l a s]) (cks l) (logs (lg++[vlQ l a s.1 s.2])) s.1.num s.1.den s.2.num s.2.den t.1.num t.1.den t.2.num t.2.den u.1.num u.1.den u.2.num u.2.den i12 i13 i14 i15 i16 i17 i18 i19 (a:Int) 3 1=yam (cks l) (logs (lg++[vlQ l a s.1 s.2])) a t.1.num t.1.den t.2.num t.2.den (fun c g y0 y1 y2=>yac y0 y1 y2 fun r0 r1=>yaS yaI yav yad yam yac yaC yal yah yar x3 n v [encW (vS l a s),.agg [.int .i64 r0,.int .i64 r1]] c g s.1.num s.1.den s.2.num s.2.den t.1.num t.1.den t.2.num t.2.den u.1.num u.1.den u.2.num u.2.den i12 i13 i14 i15 i16 i17 i18 i19 (a:Int) 3 2):=by kernel_rfl
  rw [e,ht.val hd ha (by rw [qAj,qAq];omega),yfi]
  rfl
 ·have e:ybC yaI yav yad yam yac yaC yal yah yar x2 x3 (n+1) v (cks l) (logs lg) s.1.num s.1.den s.2.num s.2.den t.1.num t.1.den t.2.num t.2.den u.1.num u.1.den u.2.num u.2.den i12 i13 i14 i15 i16 i17 i18 i19 (a:Int) 3 0=yam (cks l) (logs lg) a s.1.num s.1.den s.2.num s.2.den (fun c g y0 y1 y2=>yac y0 y1 y2 fun r0 r1=>yaS yaI yav yad yam yac yaC yal yah yar x3 n v [.agg [.int .i64 r0,.int .i64 r1]] c g s.1.num s.1.den s.2.num s.2.den t.1.num t.1.den t.2.num t.2.den u.1.num u.1.den u.2.num u.2.den i12 i13 i14 i15 i16 i17 i18 i19 (a:Int) 3 1):=by kernel_rfl
  rw [e,hs.val hd ha (by omega),yfi]
  rfl
end
section
variable {l:List Ck}
theorem tot3 (hd:DK l) {a:Nat} (ha:a<l.length):vXA l a (lenR l)-vXA l a 0=totR l a:=by
 have h:=yCI (hd.ok a ha)
 unfold vXA lenR totR
 rw [← hd.len a ha]
 exact h
theorem yAZ (hd:DK l) {a:Nat} (ha:a<l.length) {x y:Rat} (h:x≤y):vXA l a x≤vXA l a y:=yt3 (hd.ok a ha) h
theorem lt3 (hd:DK l) {a:Nat} (ha:a<l.length) {x y:Rat} (h:vXA l a x<vXA l a y):x<y:=by
 refine Rat.not_le.1 fun k=>?_
 have:=yAZ hd ha k
 grind
theorem tot0 (hd:DK l) {a:Nat} (ha:a<l.length):0<totR l a:=Rat.intCast_pos.2 (yJq (hd.ok a ha))
theorem yy9 (hd:DK l) {a:Nat} (ha:a<l.length):totR l a≤12000:=by
 have hok:=hd.ok a ha
 have l0:=hok.len0
 have hw:0≤(0:Rat)∧((l.getD a default).len:Rat)≤((l.getD a default).len:Rat):=⟨qA4,qA4⟩
 have h:=(yJH hok (s:=((0:Rat),((l.getD a default).len:Rat))) (by
  show (0:Rat)<_
  exact Rat.intCast_pos.2 (by omega)) hw).2
 have e:=yCI hok
 unfold totR
 rw [← e]
 exact h
theorem In.D {a b:Int} (h:a=b) {q:Rat} (k:In a q):In b q:=h ▸ k
theorem sm3 {q:Rat} {D:Int} (h:In D q) (hD:1≤D∧D≤10000000000) (h0:-12000≤q) (h1:q≤12000):small q :=
 h.small (M:=12000) ⟨hD.1,by omega⟩ (by omega) (by show -(12000:Rat)≤_;grind) (by show _≤(12000:Rat);grind)
theorem yza {a:Nat} {D:Int} (hD:1≤D) {s:RS} (h:In D s.1∧In D s.2):In D (vS l a s):=(yKW hD h.2).sub (yKW hD h.1)
theorem yt5 (hd:DK l) {a:Nat} (ha:a<l.length) {s:RS} (z:0≤s.1) (le:s.1≤s.2) (hl:s.2≤lenR l):0≤vS l a s∧vS l a s≤totR l a:=by
 have h1:=yAZ hd ha z
 have h2:=yAZ hd ha le
 have h3:=yAZ hd ha hl
 have h4:=tot3 hd ha
 unfold vS
 constructor <;> grind
@[irreducible] def A3 (l:List Ck):Rat:=mkV l 0 0 (totR l 0*r13)
@[irreducible] def B3 (l:List Ck):Rat:=mkV l 0 0 (totR l 0*r23)
structure G3 (l:List Ck) (D:Int):Prop where
 D1:1≤D∧D≤432
 mA:MkV l 0 0 (totR l 0*r13) 3
 mB:MkV l 0 0 (totR l 0*r23) 3
 a0:0<A3 l
 ab:A3 l<B3 l
 bl:B3 l<lenR l
 iA:In D (A3 l)
 iB:In D (B3 l)
theorem r13e:r13=1 / 3:=by decide +kernel
theorem r23e:r23=2 / 3:=by decide +kernel
theorem In.r3 (c:Int):In 3 ((c:Rat)*r13)∧In 3 ((c:Rat)*r23):=by
 constructor
 ·exact ⟨c,by rw [r13e];show (c:Rat)*(1 / 3)=(c:Rat) / 3;grind⟩
 ·exact ⟨2*c,by rw [r23e,Rat.intCast_mul];show (c:Rat)*(2 / 3)=((2:Int):Rat)*(c:Rat) / 3;have:((2:Int):Rat)=2:=rfl;rw [this];grind⟩
theorem g3 (hd:DK l) (h3:l.length=3):∃ D,G3 l D:=by
 have h0:0<l.length:=by omega
 have t0:=tot0 hd h0
 have tt:=tot3 hd h0
 have i3:=In.r3 (totC (l.getD 0 default).cuts (l.getD 0 default).dens)
 have hl0:0≤lenR l:=Rat.intCast_nonneg.2 (by have:=(hd.ok 0 h0).len0;omega)
 have mA:=yy8 hd h0 (q:=0) (v:=totR l 0*r13) qA4 hl0 (by rw [r13e];grind) (by rw [tt,r13e];grind) (D:=3) (by decide) (by decide) (In.int (by decide) 0) i3.1
 have mB:=yy8 hd h0 (q:=0) (v:=totR l 0*r23) qA4 hl0 (by rw [r23e];grind) (by rw [tt,r23e];grind) (D:=3) (by decide) (by decide) (In.int (by decide) 0) i3.2
 obtain ⟨d,hd1,k1⟩:=mA.d
 obtain ⟨e,he1,k2⟩:=mB.d
 have a1:=mA.eqv
 have b1:=mB.eqv
 rw [r13e] at a1
 rw [r23e] at b1
 have de:1*1≤d*e:=qA8 hd1.1 he1.1 (by omega) (by omega)
 have de2:d*e≤12*12:=qA8 hd1.2 he1.2 (by omega) (by omega)
 have eA:A3 l=mkV l 0 0 (totR l 0*r13):=by unfold A3;rfl
 have eB:B3 l=mkV l 0 0 (totR l 0*r23):=by unfold B3;rfl
 refine ⟨d*e*3,⟨by omega,by omega⟩,mA,mB,lt3 hd h0 (a:=0) ?_,lt3 hd h0 (a:=0) ?_,lt3 hd h0 (a:=0) ?_,?_,?_⟩
 ·rw [eA]
  rw [r13e] at *
  rw [a1];grind
 ·rw [eA,eB]
  rw [r13e,r23e] at *
  rw [a1,b1];grind
 ·rw [eB]
  rw [r23e] at *
  rw [b1];grind
 ·rw [eA];exact In.D (by rw [Int.mul_comm d e,Int.mul_assoc]) ((k1.up (by omega) he1.1):In (e*(d*3)) _)
 ·rw [eB];exact In.D (by rw [Int.mul_assoc]) ((k2.up (by omega) hd1.1):In (d*(e*3)) _)
def P3 (l:List Ck):List RS:=[(0,A3 l),(A3 l,B3 l),(B3 l,lenR l)]
theorem G3.VQ {D:Int} (hd:DK l) (h3:l.length=3) (g:G3 l D) {i:Nat} (hi:i<3):VQ l ((P3 l).getD i (0,0))∧(In D ((P3 l).getD i (0,0)).1∧In D ((P3 l).getD i (0,0)).2):=by
 have D1:=g.D1
 have hl:=(hd.ok 0 (by omega)).len0
 have hL:lenR l≤1000:=qA1.2 hl.2
 have a0:=g.a0;have ab:=g.ab;have bl:=g.bl
 have i0:In D 0:=In.int D1.1 0
 have iL:In D (lenR l):=In.int D1.1 _
 have sA:small (A3 l):=sm3 g.iA ⟨D1.1,by omega⟩ (by grind) (by grind)
 have sB:small (B3 l):=sm3 g.iB ⟨D1.1,by omega⟩ (by grind) (by grind)
 have s0:small (0:Rat):=sm3 i0 ⟨D1.1,by omega⟩ (by grind) (by grind)
 have sL:small (lenR l):=sm3 iL ⟨D1.1,by omega⟩ (by grind) (by grind)
 obtain rfl | rfl | rfl:i=0∨i=1∨i=2:=by omega
 ·exact ⟨⟨s0,sA,qA4,qBp a0,by show A3 l≤_;grind,D,⟨D1.1,by omega⟩,i0,g.iA⟩,i0,g.iA⟩
 ·exact ⟨⟨sA,sB,qBp a0,qBp ab,qBp bl,D,⟨D1.1,by omega⟩,g.iA,g.iB⟩,g.iA,g.iB⟩
 ·exact ⟨⟨sB,sL,by show 0≤B3 l;grind,qBp bl,qA4,D,⟨D1.1,by omega⟩,g.iB,iL⟩,g.iB,iL⟩
def vv3 (l:List Ck):List Rat:=(P3 l).map (vS l 1)
@[irreducible] def p3 (l:List Ck):Nat:=pk (vv3 l)
@[irreducible] def q3 (l:List Ck):Nat:=pkO (vv3 l) (p3 l)
@[irreducible] def off3 (l:List Ck):Rat:=(vv3 l).getD (p3 l) 0-(vv3 l).getD (q3 l) 0
@[irreducible] def tr3 (l:List Ck):Bool:=!decide ((vv3 l).getD (p3 l) 0=(vv3 l).getD (q3 l) 0)
@[irreducible] def fr3 (l:List Ck):Rat:=((P3 l).getD (p3 l) (0,0)).1
@[irreducible] def c3 (l:List Ck):Rat:=mkV l 1 (fr3 l) (off3 l)
def S3 (l:List Ck):List RS:=bif tr3 l then (P3 l).set (p3 l) (c3 l,((P3 l).getD (p3 l) (0,0)).2) else P3 l
def vs3 (l:List Ck):List Rat:=bif tr3 l then (vv3 l).set (p3 l) ((vv3 l).getD (q3 l) 0) else vv3 l
def ww3 (l:List Ck):List Rat:=(S3 l).map (vS l 2)
@[irreducible] def o2 (l:List Ck):Nat:=pk (ww3 l)
@[irreducible] def o1 (l:List Ck):Nat:=bif tr3 l&&!decide (p3 l=o2 l) then p3 l else pkO (vs3 l) (o2 l)
@[irreducible] def o0 (l:List Ck):Nat:=3-o1 l-o2 l
theorem yA0 (l:List Ck):p3 l<3:=by unfold p3;exact yJM _
theorem yJN (l:List Ck):q3 l<3∧q3 l≠p3 l:=by unfold q3;exact yG1 _ (yA0 l)
theorem yLE (l:List Ck) {i:Nat} (hi:i<3):(vv3 l).getD i 0≤(vv3 l).getD (p3 l) 0:=by unfold p3;exact yLD _ hi
theorem yt6 (l:List Ck):off3 l=(vv3 l).getD (p3 l) 0-(vv3 l).getD (q3 l) 0:=by unfold off3;rfl
theorem yLF (l:List Ck):tr3 l=!decide ((vv3 l).getD (p3 l) 0=(vv3 l).getD (q3 l) 0):=by unfold tr3;rfl
theorem yhQ (l:List Ck):fr3 l=((P3 l).getD (p3 l) (0,0)).1:=by unfold fr3;rfl
theorem yEv (l:List Ck):c3 l=mkV l 1 (fr3 l) (off3 l):=by unfold c3;rfl
theorem yzb (l:List Ck):o2 l<3:=by unfold o2;exact yJM _
theorem yEw (l:List Ck):o1 l=bif tr3 l&&!decide (p3 l=o2 l) then p3 l else pkO (vs3 l) (o2 l):=by unfold o1;rfl
theorem yvr (l:List Ck):o1 l<3∧o1 l≠o2 l:=by
 rw [yEw]
 cases hb:(tr3 l&&!decide (p3 l=o2 l)) with
 | false=>rw [cond_false];exact yG1 (vs3 l) (yzb l)
 | true =>
  rw [cond_true]
  simp only [qAa,qAs,decide_eq_false_iff_not] at hb
  exact ⟨yA0 l,hb.2⟩
theorem yG3 {i:Nat} (hi:i<3):(vv3 l).getD i 0=vS l 1 ((P3 l).getD i (0,0)):=by
 obtain rfl | rfl | rfl:i=0∨i=1∨i=2:=by omega
 all_goals rfl
structure C3 (l:List Ck) (D:Int):Prop where
 D1:1≤D∧D≤5184
 m:∃ E:Int,1≤E∧MkV l 1 (fr3 l) (off3 l) E
 so:small (off3 l)
 o0:0≤off3 l
 lo:fr3 l≤c3 l
 hi:c3 l≤((P3 l).getD (p3 l) (0,0)).2
 iP:∀ i,i<3→In D ((P3 l).getD i (0,0)).1∧In D ((P3 l).getD i (0,0)).2
 iC:In D (c3 l)
theorem vvs (hd:DK l) (h3:l.length=3) {i:Nat} (hi:i<3):small ((vv3 l).getD i 0)∧0≤(vv3 l).getD i 0∧(vv3 l).getD i 0≤12000:=by
 obtain ⟨D,g⟩:=g3 hd h3
 obtain ⟨v,iv⟩:=g.VQ hd h3 hi
 have h1:1<l.length:=by omega
 rw [yG3 hi]
 obtain ⟨b1,b2⟩:=yt5 hd h1 v.z v.le v.len
 have b3:=yy9 hd h1
 have D1:=g.D1
 exact ⟨sm3 (yza D1.1 iv) ⟨D1.1,by omega⟩ (by grind) (by grind),b1,by grind⟩
theorem cut3 (hd:DK l) (h3:l.length=3):∃ D,C3 l D:=by
 obtain ⟨D,g⟩:=g3 hd h3
 have h1:1<l.length:=by omega
 have hp:p3 l<3:=yA0 l
 have hq:q3 l<3∧q3 l≠p3 l:=yJN l
 obtain ⟨v,iv⟩:=g.VQ hd h3 hp
 obtain ⟨w,iw⟩:=g.VQ hd h3 hq.1
 have D1:=g.D1
 have sp:=vvs hd h3 hp
 have sq:=vvs hd h3 hq.1
 have mx:(vv3 l).getD (q3 l) 0≤(vv3 l).getD (p3 l) 0:=yLE l hq.1
 have io:In D (off3 l):=by
  rw [yt6]
  rw [yG3 hp,yG3 hq.1]
  exact (yza D1.1 iv).sub (yza D1.1 iw)
 have o0:0≤off3 l:=by rw [yt6];grind
 have ov:off3 l≤vS l 1 ((P3 l).getD (p3 l) (0,0)):=by
  rw [← yG3 hp];rw [yt6];grind
 have ov2:off3 l≤vXA l 1 ((P3 l).getD (p3 l) (0,0)).2-vXA l 1 (fr3 l):=by rw [yhQ];exact ov
 have ml:=yAZ hd h1 v.len
 have hv:off3 l≤vXA l 1 (lenR l)-vXA l 1 (fr3 l):=by
  have:vXA l 1 ((P3 l).getD (p3 l) (0,0)).2≤vXA l 1 (lenR l):=ml
  grind
 have fz:0≤fr3 l:=by rw [yhQ];exact v.z
 have fle:fr3 l≤((P3 l).getD (p3 l) (0,0)).2:=by rw [yhQ];exact v.le
 have fI:In D (fr3 l):=by rw [yhQ];exact iv.1
 have m:=yy8 hd h1 (q:=fr3 l) (v:=off3 l) fz (qB1 fle v.len) o0 hv D1.1 (by omega) fI io
 obtain ⟨d,hd1,k⟩:=m.d
 have dD:1*1≤d*D:=qA8 hd1.1 D1.1 (by omega) (by omega)
 have dD2:d*D≤12*432:=qA8 hd1.2 D1.2 (by omega) (by omega)
 have hi:c3 l≤((P3 l).getD (p3 l) (0,0)).2:=by
  by_cases hz:off3 l=0
  ·have e:c3 l=fr3 l:=by
    rw [yEv]
    unfold mkV mrkC
    rw [if_pos hz];rfl
   rw [e];exact fle
  refine Rat.not_lt.1 fun k2=>?_
  have e:=m.eqv
  have h1':0<off3 l:=by grind
  obtain ⟨p,d,e',_,_,k1,_,_,k4⟩:=yEu (hd.ok 1 h1) (p:=fr3 l) (v:=off3 l) fz (by rw [hd.len 1 h1];exact qB1 fle v.len) h1' (by
   have:=hv
   unfold vXA lenR at this
   rw [hd.len 1 h1];exact this) D1.1 (by omega) fI io
  obtain ⟨_,g2⟩:=yGH e'
  have g2:c3 l=p:=by rw [yEv];exact g2
  rw [g2] at k2
  have:=k4 _ k2
  have k1:vXA l 1 p=vXA l 1 (fr3 l)+off3 l:=k1
  have this:vXA l 1 ((P3 l).getD (p3 l) (0,0)).2<vXA l 1 p:=this
  grind
 refine ⟨d*D,⟨by omega,by omega⟩,⟨D,D1.1,m⟩,sm3 io ⟨D1.1,by omega⟩ (by grind) (by have:=sp.2.2;have:=sq.2.1;rw [yt6];grind),o0,by rw [yEv];exact m.ge,hi,fun i hi=>?_,by rw [yEv];exact k⟩
 obtain ⟨_,j1,j2⟩:=g.VQ hd h3 hi
 exact ⟨j1.up D1.1 hd1.1,j2.up D1.1 hd1.1⟩
end
set_option maxHeartbeats 1000000
section
variable {l:List Ck}
def s3 (l:List Ck) (i:Nat):RS:=(S3 l).getD i (0,0)
theorem yCL:S3 l=[s3 l 0,s3 l 1,s3 l 2]:=by
 have h:(S3 l).length=3:=by
  unfold S3
  cases tr3 l with
  | true=>rw [cond_true,qB2];rfl
  | false=>rfl
 unfold s3
 match h2:S3 l,h with
 | [a,b,c],_=>rfl
theorem ypi {i:Nat} (hi:i<3):s3 l i=bif tr3 l&&decide (i=p3 l) then (c3 l,((P3 l).getD (p3 l) (0,0)).2) else (P3 l).getD i (0,0):=by
 unfold s3 S3
 have hl:(P3 l).length=3:=rfl
 cases tr3 l with
 | true =>
  rw [cond_true,qAy]
  by_cases e:i=p3 l
  ·subst e
   rw [decide_eq_true rfl,cond_true,qAd,qBn (by omega)]
   rfl
  ·rw [decide_eq_false e,cond_false,qAd,qBi (fun h=>e h.symm),← qAd]
 | false=>rw [cond_false,qBj,cond_false]
theorem S3VQ (hd:DK l) (h3:l.length=3):∃ D:Int,(1≤D∧D≤5184)∧∀ i,i<3→VQ l (s3 l i)∧In D (s3 l i).1∧In D (s3 l i).2:=by
 obtain ⟨D,c⟩:=cut3 hd h3
 obtain ⟨D0,g⟩:=g3 hd h3
 have hl:=(hd.ok 0 (by omega)).len0
 have hL:lenR l≤1000:=qA1.2 hl.2
 have hp:p3 l<3:=yA0 l
 refine ⟨D,c.D1,fun i hi=>?_⟩
 rw [ypi hi]
 obtain ⟨v,_⟩:=g.VQ hd h3 hi
 obtain ⟨w,_⟩:=g.VQ hd h3 hp
 have D1:=c.D1
 cases hc:(tr3 l&&decide (i=p3 l)) with
 | false=>exact ⟨v,c.iP i hi⟩
 | true =>
  have z:0≤c3 l:=qB1 (by rw [yhQ];exact w.z) c.lo
  have wl:=w.len
  have ch:=c.hi
  refine ⟨⟨sm3 c.iC ⟨D1.1,by omega⟩ (by show -12000≤c3 l;grind) (by show c3 l≤12000;grind),w.s2,z,c.hi,w.len,D,⟨D1.1,by omega⟩,c.iC,(c.iP _ hp).2⟩,c.iC,(c.iP _ hp).2⟩
def pc3 (l:List Ck):Int:=bif tr3 l then (p3 l:Int) else -1
def yf4 (l:List Ck):List Qy:=[mkQ 0 0 (totR l 0*r13) (A3 l)]++[mkQ 0 0 (totR l 0*r23) (B3 l)]++[vlQ l 1 0 (A3 l)]++[vlQ l 1 (A3 l) (B3 l)]
def yA1 (l:List Ck):List Qy:=[vlQ l 2 (s3 l 0).1 (s3 l 0).2]++[vlQ l 2 (s3 l 1).1 (s3 l 1).2]++[vlQ l 2 (s3 l 2).1 (s3 l 2).2]
def log3 (l:List Ck):List Qy:=yf4 l++((bif tr3 l then [mkQ 1 (fr3 l) (off3 l) (c3 l)] else [])++yA1 l)
theorem yKZ {q r:Rat}:((q.num == r.num)&&(((q.den:Int) ==(r.den:Int))&&true))=decide (q=r):=by
 by_cases h:q=r
 ·subst h;simp
 ·rw [decide_eq_false h,Bool.and_true]
  cases h1:(q.num == r.num) with
  | false=>rfl
  | true =>
   cases h2:((q.den:Int) ==(r.den:Int)) with
   | false=>rfl
   | true =>
    simp only [beq_iff_eq] at h1 h2
    exact absurd (Rat.ext h1 (by omega)) h
theorem neF3 {a b:Nat} (h:a=b):(((a:Nat):Int) !=((b:Nat):Int))=false:=by rw [h];simp
theorem neT3 {a b:Nat} (h:¬a=b):(((a:Nat):Int) !=((b:Nat):Int))=true:=by simp only [bne_iff_ne,ne_eq];omega
theorem yJO (hd:DK l) (h3:l.length=3) {lg:List Qy} (hm:lg.length+10<2000) (K) :
  yaf (cks l) (logs lg) K=K (s3 l 0).1.num (s3 l 0).1.den (s3 l 0).2.num (s3 l 0).2.den (s3 l 1).1.num (s3 l 1).1.den (s3 l 1).2.num (s3 l 1).2.den (s3 l 2).1.num (s3 l 2).1.den (s3 l 2).2.num (s3 l 2).2.den
   (pc3 l) (bif tr3 l then (fr3 l).num else 0) (bif tr3 l then ((fr3 l).den:Int) else 0) (bif tr3 l then (c3 l).num else 0) (bif tr3 l then ((c3 l).den:Int) else 0) (o0 l:Int) (o1 l:Int) (o2 l:Int) (cks l) (logs (lg++log3 l)):=by
 obtain ⟨D,g⟩:=g3 hd h3
 have h0:0<l.length:=by omega
 have h1:1<l.length:=by omega
 have h2:2<l.length:=by omega
 have D1:=g.D1
 have v0:=(g.VQ hd h3 (i:=0) (by decide)).1
 have v1:=(g.VQ hd h3 (i:=1) (by decide)).1
 have i3:=In.r3 (totC (l.getD 0 default).cuts (l.getD 0 default).dens)
 have t0:=tot0 hd h0
 have t12:=yy9 hd h0
 have st:small (totR l 0):=sm3 (D:=1) (In.int (by decide) _) ⟨by decide,by decide⟩ (by grind) (by grind)
 have st1:small (totR l 1):=sm3 (D:=1) (In.int (by decide) _) ⟨by decide,by decide⟩ (by have:=tot0 hd h1;grind) (yy9 hd h1)
 have sa:small (totR l 0*r13):=sm3 i3.1 ⟨by decide,by decide⟩ (by rw [r13e];show -12000≤totR l 0*(1 / 3);grind) (by rw [r13e];show totR l 0*(1 / 3)≤12000;grind)
 have sb:small (totR l 0*r23):=sm3 i3.2 ⟨by decide,by decide⟩ (by rw [r23e];show -12000≤totR l 0*(2 / 3);grind) (by rw [r23e];show totR l 0*(2 / 3)≤12000;grind)
 have th0:=fun K=>yG0 hd h0 (q:=0) (v:=totR l 0) v0.s1 qA4 (by have:=g.a0;have:=g.ab;have:=g.bl;grind) st sa sb (by rw [r13e];grind) (by rw [r23e];grind) g.mA g.mB (lg:=lg) (by omega) K
 have eA:A3 l=mkV l 0 0 (totR l 0*r13):=by unfold A3;rfl
 have eB:B3 l=mkV l 0 0 (totR l 0*r23):=by unfold B3;rfl
 rw [← eA,← eB] at th0
 have th:∀ K,yad (cks l) (logs lg) 0 0 1 (totR l 0).num (totR l 0).den K=K (A3 l).num (A3 l).den (B3 l).num (B3 l).den (cks l) (logs ((lg++[mkQ 0 0 (totR l 0*r13) (A3 l)])++[mkQ 0 0 (totR l 0*r23) (B3 l)])):=th0
 have tt0:=fun K=>yJK hd h0 (lg:=logs lg) (by rw [ycR];omega) K
 have tt0:∀ K,yav (cks l) (logs lg) 0 K=K (totR l 0).num (totR l 0).den (cks l) (logs lg):=tt0
 unfold yaf yeB
 dsimp only [lt,Go.Pf.jn]
 rw [yGZ,ycg,asT (by omega),yhP h0,asCk,ck0,yGZ,tt0,th]
 refine (yL8 hd h1 (s:=(0,A3 l)) (t:=(A3 l,B3 l)) v0 v1 (lg:=(lg++[mkQ 0 0 (totR l 0*r13) (A3 l)])++[mkQ 0 0 (totR l 0*r23) (B3 l)]) (by simp only [qAj,qAq];omega) _ _ _ _ _ _ _ _ _ _ _ _ _ _ _ _ _ _ _ _ ).trans ?_
 have v2:=(g.VQ hd h3 (i:=2) (by decide)).1
 have w0:small (vS l 1 (0,A3 l))∧0≤vS l 1 (0,A3 l)∧vS l 1 (0,A3 l)≤12000:=vvs hd h3 (i:=0) (by decide)
 have w1:small (vS l 1 (A3 l,B3 l))∧0≤vS l 1 (A3 l,B3 l)∧vS l 1 (A3 l,B3 l)≤12000:=vvs hd h3 (i:=1) (by decide)
 have w2:small (vS l 1 (B3 l,lenR l))∧0≤vS l 1 (B3 l,lenR l)∧vS l 1 (B3 l,lenR l)≤12000:=vvs hd h3 (i:=2) (by decide)
 have tt1:=fun K=>yJK hd h1 (lg:=logs (lg++yf4 l)) (by rw [ycR,qAj];show lg.length+4≤2000;omega) K
 have eT:totR l 1-vS l 1 (0,A3 l)-vS l 1 (A3 l,B3 l)=vS l 1 (B3 l,lenR l):=by
  rw [← tot3 hd h1]
  show vXA l 1 (lenR l)-vXA l 1 0-(vXA l 1 (A3 l)-vXA l 1 0)-(vXA l 1 (B3 l)-vXA l 1 (A3 l))=vXA l 1 (lenR l)-vXA l 1 (B3 l)
  grind
 have e1:totR l 1-vS l 1 (0,A3 l)=vS l 1 (A3 l,B3 l)+vS l 1 (B3 l,lenR l):=by grind
 have i1:In D (totR l 1-vS l 1 (0,A3 l)):=(In.int D1.1 _).sub (yza D1.1 (g.VQ hd h3 (i:=0) (by decide)).2)
 have s1:small (totR l 1-vS l 1 (0,A3 l)):=sm3 i1 ⟨D1.1,by omega⟩ (by grind) (by have:=yy9 hd h1;grind)
 have sub0:∀ K,yaC (totR l 1).num (totR l 1).den (yaa (yab ((rts [vS l 1 (0,A3 l),vS l 1 (A3 l,B3 l)]).getD 0 .nils) 0)) (yaa (yab ((rts [vS l 1 (0,A3 l),vS l 1 (A3 l,B3 l)]).getD 0 .nils) 1)) K=K (totR l 1-vS l 1 (0,A3 l)).num (totR l 1-vS l 1 (0,A3 l)).den 0:=fun K =>
  (ym8 st1 w0.1 K).trans (by rw [ydI,if_pos s1])
 have sub1:∀ K,yaC (totR l 1-vS l 1 (0,A3 l)).num (totR l 1-vS l 1 (0,A3 l)).den (yaa (yab ((rts [vS l 1 (0,A3 l),vS l 1 (A3 l,B3 l)]).getD 1 .nils) 0)) (yaa (yab ((rts [vS l 1 (0,A3 l),vS l 1 (A3 l,B3 l)]).getD 1 .nils) 1)) K=K (vS l 1 (B3 l,lenR l)).num (vS l 1 (B3 l,lenR l)).den 0:=fun K =>
  (ym8 s1 w1.1 K).trans (by rw [eT,ydI,if_pos w2.1])
 have eV:rts [vS l 1 (0,A3 l),vS l 1 (A3 l,B3 l)]++[.agg [.int .i64 (vS l 1 (B3 l,lenR l)).num,.int .i64 (vS l 1 (B3 l,lenR l)).den]]=rts (vv3 l):=rfl
 have vs:∀ i,i<3→small ((vv3 l).getD i 0):=fun i hi=>(vvs hd h3 hi).1
 have hp:p3 l<3:=yA0 l
 have hq:q3 l<3∧q3 l≠p3 l:=yJN l
 have pA:∀ K,yal (rts (vv3 l)) [.int .i64 0,.int .i64 1,.int .i64 2] K=K (p3 l:Nat):=fun K=>by unfold p3;exact yCK rfl vs K
 have pO:∀ K,yal (rts (vv3 l)) (nts (oth (p3 l))) K=K (q3 l:Nat):=fun K=>by unfold q3;exact yG2 rfl vs hp K
 have eL:lg++[mkQ 0 0 (totR l 0*r13) (A3 l)]++[mkQ 0 0 (totR l 0*r23) (B3 l)]++[vlQ l 1 (0,A3 l).fst (0,A3 l).snd]++[vlQ l 1 (A3 l,B3 l).fst (A3 l,B3 l).snd]=lg++yf4 l:=by
  unfold yf4;simp only [qAu]
 have tt1:∀ K,yav (cks l) (logs (lg++yf4 l)) 1 K=K (totR l 1).num (totR l 1).den (cks l) (logs (lg++yf4 l)):=tt1
 rw [eL,tt1,sub0,yfi,sub1,yfi,eV,qAr,pA,ypJ hp,pO]
 have hl:(vv3 l).length=3:=rfl
 have gp:List.getD (rts (vv3 l)) (0+(((p3 l:Nat):Int)).toNat) .nils=encW ((vv3 l).getD (p3 l) 0):=by rw [qAe,qBa,ylb (by omega)]
 have gq:List.getD (rts (vv3 l)) (0+(((q3 l:Nat):Int)).toNat) .nils=encW ((vv3 l).getD (q3 l) 0):=by rw [qAe,qBa,ylb (by omega)]
 rw [gp,gq]
 have hlp:(rts (vv3 l)).length=3:=rfl
 have hlp':∀ x:PV,(List.set (rts (vv3 l)) (0+(((p3 l:Nat):Int)).toNat) x).length=3:=fun x=>by rw [qB2];rfl
 have hc:(!((yaa (yab (encW ((vv3 l).getD (p3 l) 0)) 0) == yaa (yab (encW ((vv3 l).getD (q3 l) 0)) 0))&&((yaa (yab (encW ((vv3 l).getD (p3 l) 0)) 1) == yaa (yab (encW ((vv3 l).getD (q3 l) 0)) 1))&&true)))=tr3 l:=by
  rw [yLF,← yKZ];rfl
 rw [hlp,hc]
 have V:=fun i hi=>((S3VQ hd h3).choose_spec.2 i hi:VQ l (s3 l i)∧_).1
 have u0:=V 0 (by decide)
 have u1:=V 1 (by decide)
 have u2:=V 2 (by decide)
 have hw:∀ i,i<3→small ((ww3 l).getD i 0):=fun i hi=>by
  have h:=V i hi
  obtain ⟨D,D1,iD⟩:=h.D
  have e:(ww3 l).getD i 0=vS l 2 (s3 l i):=by
   unfold ww3
   rw [yCL]
   obtain rfl | rfl | rfl:i=0∨i=1∨i=2:=by omega
   all_goals rfl
  obtain ⟨b1,b2⟩:=yt5 hd h2 h.z h.le h.len
  have b3:=yy9 hd h2
  obtain ⟨D',D1',iD'⟩:=S3VQ hd h3
  rw [e]
  exact sm3 (yza D1'.1 (iD' i hi).2) ⟨D1'.1,by omega⟩ (by grind) (by grind)
 have ho2:o2 l<3:=yzb l
 have hvs:∀ i,i<3→small ((vs3 l).getD i 0):=fun i hi=>by
  unfold vs3
  cases tr3 l with
  | false=>exact vs i hi
  | true =>
   rw [cond_true]
   by_cases e:i=p3 l
   ·rw [e,qAd,qBn (by omega)]
    exact vs _ hq.1
   ·rw [qAd,qBi (fun h=>e h.symm),← qAd]
    exact vs i hi
 have hvl:(vs3 l).length=3:=by
  unfold vs3
  cases tr3 l with
  | false=>rfl
  | true=>rw [cond_true,qB2];rfl
 have ho1:=yvr l
 have hwl:(ww3 l).length=3:=by unfold ww3;rw [yCL];rfl
 have pW:∀ K,yal (rts (ww3 l)) [.int .i64 0,.int .i64 1,.int .i64 2] K=K (o2 l:Nat):=fun K=>by unfold o2;exact yCK hwl hw K
 have pS:∀ K,yal (rts (vs3 l)) (nts (oth (o2 l))) K=K (pkO (vs3 l) (o2 l):Nat):=fun K=>yG2 hvl hvs ho2 K
 cases htr:tr3 l with
 | false =>
  rw [yai]
  repeat (refine (asTT (by first | exact decide_eq_true (by omega) | rfl)).trans ?_)
  have z:S3 l=P3 l:=by unfold S3;rw [htr];rfl
  have z0:s3 l 0=(0,A3 l):=by unfold s3;rw [z];rfl
  have z1:s3 l 1=(A3 l,B3 l):=by unfold s3;rw [z];rfl
  have z2:s3 l 2=(B3 l,lenR l):=by unfold s3;rw [z];rfl
  refine (yKY hd h2 (s:=(0,A3 l)) (t:=(A3 l,B3 l)) (u:=(B3 l,lenR l)) v0 v1 v2 (lg:=lg++yf4 l) (by rw [qAj];show lg.length+4+3<2000;omega) _ _ _ _ _ _ _ _ _).trans ?_
  have eW:rts [vS l 2 (0,A3 l),vS l 2 (A3 l,B3 l),vS l 2 (B3 l,lenR l)]=rts (ww3 l):=by unfold ww3;rw [z];rfl
  have e1':o1 l=pkO (vs3 l) (o2 l):=by rw [yEw,htr];rfl
  have eT3:List.take 3 (rts (vv3 l))=rts (vs3 l):=by unfold vs3;rw [htr];rfl
  rw [eW]
  rw [qAr]
  rw [pW]
  rw [ypJ ho2]
  rw [eT3]
  rw [pS]
  rw [cbF (by decide)]
  rw [yai]
  rw [← e1']
  rw [yCJ ho1.1 ho2 ho1.2]
  iterate 6 refine (asTT (by first | rfl | exact decide_eq_true (by omega))).trans ?_
  have eG:lg++yf4 l++[vlQ l 2 (0,A3 l).fst (0,A3 l).snd]++[vlQ l 2 (A3 l,B3 l).fst (A3 l,B3 l).snd]++[vlQ l 2 (B3 l,lenR l).fst (B3 l,lenR l).snd]=lg++log3 l:=by
   unfold log3 yA1
   rw [htr,z0,z1,z2,cond_false,List.nil_append]
   simp only [qAu]
  have e5:∀ x:Nat,yaa (List.getD (nts [x]) 0 .nils)=(x:Int):=fun _=>rfl
  have e6:pc3 l=-1:=by unfold pc3;rw [htr];rfl
  have e7:o0 l=3-o1 l-o2 l:=by unfold o0;rfl
  rw [eG,e5,e6,z0,z1,z2,e7]
  rfl
 | true =>
  rw [yan]
  obtain ⟨D',C⟩:=cut3 hd h3
  have sp:=vvs hd h3 hp
  have sq:=vvs hd h3 hq.1
  have subO:∀ K,yaC (yaa (yab (encW ((vv3 l).getD (p3 l) 0)) 0)) (yaa (yab (encW ((vv3 l).getD (p3 l) 0)) 1)) (yaa (yab (encW ((vv3 l).getD (q3 l) 0)) 0)) (yaa (yab (encW ((vv3 l).getD (q3 l) 0)) 1)) K=K (off3 l).num (off3 l).den 0:=fun K=>(ym8 sp.1 sq.1 K).trans (by rw [← yt6,ydI,if_pos C.so])
  have mk:∀ K,yar (cks l) (logs (lg++yf4 l)) 1 (fr3 l).num (fr3 l).den (off3 l).num (off3 l).den K=K (c3 l).num (c3 l).den (cks l) (logs (lg++yf4 l++[mkQ 1 (fr3 l) (off3 l) (c3 l)])):=fun K=>by
   obtain ⟨E,_,m⟩:=C.m
   rw [yEv]
   have w:=(g.VQ hd h3 hp).1
   exact yJJ hd h1 (by rw [yhQ];exact w.s1) (by rw [yhQ];exact w.z) (by rw [yhQ];exact qB1 w.le w.len) C.so C.o0 m (by rw [qAj];show lg.length+4<2000;omega) K
  have eS:List.set (rts (vv3 l)) (0+(((p3 l:Nat):Int)).toNat) (.agg [.int .i64 (yaa (yab (encW ((vv3 l).getD (q3 l) 0)) 0)),.int .i64 (yaa (yab (encW ((vv3 l).getD (q3 l) 0)) 1))])=rts (vs3 l):=by
   unfold vs3
   rw [htr,cond_true,qAe,qBa]
   unfold rts
   rw [List.map_set]
   rfl
  rw [subO,yfi,eS]
  rcases (show p3 l=0∨p3 l=1∨p3 l=2 by omega) with hpe | hpe | hpe
  case' inl =>
   have hfr:fr3 l=0:=by rw [yhQ,hpe];rfl
   have z0:s3 l 0=(c3 l,A3 l):=by rw [ypi (by decide),htr,hpe];rfl
   have z1:s3 l 1=(A3 l,B3 l):=by rw [ypi (by decide),htr,hpe];rfl
   have z2:s3 l 2=(B3 l,lenR l):=by rw [ypi (by decide),htr,hpe];rfl
   have mkp:∀ K,yar (cks l) (logs (lg++yf4 l)) 1 0 1 (off3 l).num (off3 l).den K=K (c3 l).num (c3 l).den (cks l) (logs (lg++yf4 l++[mkQ 1 (fr3 l) (off3 l) (c3 l)])):=fun K=>by
    have h:=mk K
    rw [hfr] at h ⊢
    exact h
   rw [hpe,cbT (show ((0:Nat):Int)=0 from rfl),cbT (show ((0:Nat):Int)=0 from rfl),mkp,cbT (show ((0:Nat):Int)=0 from rfl)]
  case' inr.inl =>
   have hfr:fr3 l=A3 l:=by rw [yhQ,hpe];rfl
   have z0:s3 l 0=(0,A3 l):=by rw [ypi (by decide),htr,hpe];rfl
   have z1:s3 l 1=(c3 l,B3 l):=by rw [ypi (by decide),htr,hpe];rfl
   have z2:s3 l 2=(B3 l,lenR l):=by rw [ypi (by decide),htr,hpe];rfl
   have mkp:∀ K,yar (cks l) (logs (lg++yf4 l)) 1 (A3 l).num (A3 l).den (off3 l).num (off3 l).den K=K (c3 l).num (c3 l).den (cks l) (logs (lg++yf4 l++[mkQ 1 (fr3 l) (off3 l) (c3 l)])):=fun K=>by
    have h:=mk K
    rw [hfr] at h ⊢
    exact h
   rw [hpe,cbF (show ¬((1:Nat):Int)=0 by decide),cbT (show ((1:Nat):Int)=1 from rfl),cbF (show ¬((1:Nat):Int)=0 by decide),cbT (show ((1:Nat):Int)=1 from rfl),mkp,cbF (show ¬((1:Nat):Int)=0 by decide),cbT (show ((1:Nat):Int)=1 from rfl)]
  case' inr.inr =>
   have hfr:fr3 l=B3 l:=by rw [yhQ,hpe];rfl
   have z0:s3 l 0=(0,A3 l):=by rw [ypi (by decide),htr,hpe];rfl
   have z1:s3 l 1=(A3 l,B3 l):=by rw [ypi (by decide),htr,hpe];rfl
   have z2:s3 l 2=(c3 l,lenR l):=by rw [ypi (by decide),htr,hpe];rfl
   have mkp:∀ K,yar (cks l) (logs (lg++yf4 l)) 1 (B3 l).num (B3 l).den (off3 l).num (off3 l).den K=K (c3 l).num (c3 l).den (cks l) (logs (lg++yf4 l++[mkQ 1 (fr3 l) (off3 l) (c3 l)])):=fun K=>by
    have h:=mk K
    rw [hfr] at h ⊢
    exact h
   rw [hpe,cbF (show ¬((2:Nat):Int)=0 by decide),cbF (show ¬((2:Nat):Int)=1 by decide),cbT (show ((2:Nat):Int)=2 from rfl),cbF (show ¬((2:Nat):Int)=0 by decide),cbF (show ¬((2:Nat):Int)=1 by decide),cbT (show ((2:Nat):Int)=2 from rfl),mkp,cbF (show ¬((2:Nat):Int)=0 by decide),cbF (show ¬((2:Nat):Int)=1 by decide),cbT (show ((2:Nat):Int)=2 from rfl)]
  all_goals
   rw [z0] at u0
   rw [z1] at u1
   rw [z2] at u2
   iterate 47 refine (asTT (by first | exact decide_eq_true (by omega) | rfl)).trans ?_
   refine (yKY hd h2 u0 u1 u2 (lg:=lg++yf4 l++[mkQ 1 (fr3 l) (off3 l) (c3 l)]) (by simp only [qAj,qAq];show lg.length+4+1+3<2000;omega) _ _ _ _ _ _ _ _ _).trans ?_
   have eW:rts [vS l 2 (s3 l 0),vS l 2 (s3 l 1),vS l 2 (s3 l 2)]=rts (ww3 l):=by unfold ww3;rw [yCL];rfl
   have eT3:List.take 3 (rts (vs3 l))=rts (vs3 l):=qBo (by rw [yfz];omega)
   have eG:lg++yf4 l++[mkQ 1 (fr3 l) (off3 l) (c3 l)]++[vlQ l 2 (s3 l 0).fst (s3 l 0).snd]++[vlQ l 2 (s3 l 1).fst (s3 l 1).snd]++[vlQ l 2 (s3 l 2).fst (s3 l 2).snd]=lg++log3 l:=by
    unfold log3 yA1
    rw [htr,cond_true]
    simp only [qAu]
   rw [z0,z1,z2] at eW eG
   have e5:∀ x:Nat,yaa (List.getD (nts [x]) 0 .nils)=(x:Int):=fun _=>rfl
   have e6:pc3 l=((p3 l:Nat):Int):=by unfold pc3;rw [htr];rfl
   have e7:o0 l=3-o1 l-o2 l:=by unfold o0;rfl
   have hlv:(rts (vs3 l)).length=3:=by rw [yfz];exact hvl
   rw [eW,qAr,pW,ypJ ho2,eT3,pS,cbT (by decide)]
   rw [hpe] at e6
   by_cases hn:p3 l=o2 l
   ·have e1':o1 l=pkO (vs3 l) (o2 l):=by
     rw [yEw,htr,decide_eq_true hn];rfl
    rw [hpe] at hn
    rw [neF3 hn,yai,← e1',yCJ ho1.1 ho2 ho1.2]
    iterate 6 refine (asTT (by first | rfl | exact decide_eq_true (by omega))).trans ?_
    rw [eG,e5,e6,z0,z1,z2,e7]
    rw [hfr]
    rfl
   ·have e1':o1 l=p3 l:=by
     rw [yEw,htr,decide_eq_false hn];rfl
    rw [hpe] at hn e1'
    rw [neT3 hn,yan]
    have ot:=fun K=>yCJ ho1.1 ho2 ho1.2 K
    rw [e1'] at ot
    rw [ot]
    iterate 6 refine (asTT (by first | rfl | exact decide_eq_true (by omega))).trans ?_
    rw [eG,e5,e6,z0,z1,z2,e7,e1']
    rw [hfr]
    rfl
end
section
variable {l:List Ck}
theorem yK0 (hd:DK l) {a:Nat} (ha:a<l.length) {s:RS} (hs:VQ l s) {lg:List Qy} (hm:lg.length+1<2000) {x0 x1} :
  (∃ n,ycd yam yac yad yal yah x0 x1 n (cks l) (logs lg) (a:Int) [encR s] 1 0) =
  x1 (rts [vS l a s]) (cks l) (logs ((lg)++[vlQ l a s.1 s.2])) (a:Int) [encR s] 1 1 false:=by
 rw [exS3 rfl (R:=fun n=>yby yam yac yad yal yah x1 n (rts [vS l a s]) (cks l) (logs ((lg)++[vlQ l a s.1 s.2])) (a:Int) [encR s] 1 1) (fun n=>?_),
  exS3 rfl (R:=fun _=>x1 (rts [vS l a s]) (cks l) (logs ((lg)++[vlQ l a s.1 s.2])) (a:Int) [encR s] 1 1 false) (fun n=>by kernel_rfl),exC3]
 have e:ycd yam yac yad yal yah x0 x1 (n+1) (cks l) (logs lg) (a:Int) [encR s] 1 0=yam (cks l) (logs (lg)) a s.1.num s.1.den s.2.num s.2.den (fun c g y0 y1 y2=>yac y0 y1 y2 fun r0 r1=>yby yam yac yad yal yah x1 n [.agg [.int .i64 r0,.int .i64 r1]] c g (a:Int) [encR s] 1 1):=by kernel_rfl
 rw [e,hs.val hd ha (by omega),yfi]
 rfl
theorem yK1 (hd:DK l) {a:Nat} (ha:a<l.length) {s t u:RS} (hs:VQ l s) (ht:VQ l t) (hu:VQ l u) {lg:List Qy} (hm:lg.length+3<2000) {x2 x3} (v:List PV) :
  (∃ n,yce yam yac yad yal yah x2 x3 n v [encR s,encR t,encR u] (cks l) (logs lg) (a:Int) 3 0) =
  x3 v [encR s,encR t,encR u] (rts [vS l a s,vS l a t,vS l a u]) (cks l) (logs ((((lg)++[vlQ l a s.1 s.2])++[vlQ l a t.1 t.2])++[vlQ l a u.1 u.2])) (a:Int) 3 3 false:=by
 rw [exS3 rfl (R:=fun n=>yaQ yam yac yad yal yah x3 n v [encR s,encR t,encR u] (rts [vS l a s]) (cks l) (logs ((lg)++[vlQ l a s.1 s.2])) (a:Int) 3 1) (fun n=>?_),
  exS3 rfl (R:=fun n=>yaQ yam yac yad yal yah x3 n v [encR s,encR t,encR u] (rts [vS l a s,vS l a t]) (cks l) (logs (((lg)++[vlQ l a s.1 s.2])++[vlQ l a t.1 t.2])) (a:Int) 3 2) (fun n=>?_),
  exS3 rfl (R:=fun n=>yaQ yam yac yad yal yah x3 n v [encR s,encR t,encR u] (rts [vS l a s,vS l a t,vS l a u]) (cks l) (logs ((((lg)++[vlQ l a s.1 s.2])++[vlQ l a t.1 t.2])++[vlQ l a u.1 u.2])) (a:Int) 3 3) (fun n=>?_),
  exS3 rfl (R:=fun _=>x3 v [encR s,encR t,encR u] (rts [vS l a s,vS l a t,vS l a u]) (cks l) (logs ((((lg)++[vlQ l a s.1 s.2])++[vlQ l a t.1 t.2])++[vlQ l a u.1 u.2])) (a:Int) 3 3 false) (fun n=>by kernel_rfl),exC3]
 ·have e:yaQ yam yac yad yal yah x3 (n+1) v [encR s,encR t,encR u] (rts [vS l a s,vS l a t]) (cks l) (logs (((lg)++[vlQ l a s.1 s.2])++[vlQ l a t.1 t.2])) (a:Int) 3 2=yam (cks l) (logs (((lg)++[vlQ l a s.1 s.2])++[vlQ l a t.1 t.2])) a u.1.num u.1.den u.2.num u.2.den (fun c g y0 y1 y2=>yac y0 y1 y2 fun r0 r1=>yaQ yam yac yad yal yah x3 n v [encR s,encR t,encR u] [encW (vS l a s),encW (vS l a t),.agg [.int .i64 r0,.int .i64 r1]] c g (a:Int) 3 3):=by kernel_rfl
  rw [e,hu.val hd ha (by simp only [qAj,qAq];omega),yfi]
  rfl
 ·have e:yaQ yam yac yad yal yah x3 (n+1) v [encR s,encR t,encR u] (rts [vS l a s]) (cks l) (logs ((lg)++[vlQ l a s.1 s.2])) (a:Int) 3 1=yam (cks l) (logs ((lg)++[vlQ l a s.1 s.2])) a t.1.num t.1.den t.2.num t.2.den (fun c g y0 y1 y2=>yac y0 y1 y2 fun r0 r1=>yaQ yam yac yad yal yah x3 n v [encR s,encR t,encR u] [encW (vS l a s),.agg [.int .i64 r0,.int .i64 r1]] c g (a:Int) 3 2):=by kernel_rfl
  rw [e,ht.val hd ha (by rw [qAj,qAq];omega),yfi]
  rfl
 ·have e:yce yam yac yad yal yah x2 x3 (n+1) v [encR s,encR t,encR u] (cks l) (logs lg) (a:Int) 3 0=yam (cks l) (logs (lg)) a s.1.num s.1.den s.2.num s.2.den (fun c g y0 y1 y2=>yac y0 y1 y2 fun r0 r1=>yaQ yam yac yad yal yah x3 n v [encR s,encR t,encR u] [.agg [.int .i64 r0,.int .i64 r1]] c g (a:Int) 3 1):=by kernel_rfl
  rw [e,hs.val hd ha (by omega),yfi]
  rfl
theorem yL9 (hd:DK l) {a:Nat} (ha:a<l.length) {s t:RS} (hs:VQ l s) (ht:VQ l t) {lg:List Qy} (hm:lg.length+2<2000) {x6 x7} (v c1 c2:List PV) :
  (∃ n,ycf yam yac yad yal yah x6 x7 n v c1 c2 (cks l) (logs lg) (a:Int) [encR s,encR t] 2 0) =
  x7 v c1 c2 (rts [vS l a s,vS l a t]) (cks l) (logs (((lg)++[vlQ l a s.1 s.2])++[vlQ l a t.1 t.2])) (a:Int) [encR s,encR t] 2 2 false:=by
 rw [exS3 rfl (R:=fun n=>ya4 yam yac yad yal yah x7 n v c1 c2 (rts [vS l a s]) (cks l) (logs ((lg)++[vlQ l a s.1 s.2])) (a:Int) [encR s,encR t] 2 1) (fun n=>?_),
  exS3 rfl (R:=fun n=>ya4 yam yac yad yal yah x7 n v c1 c2 (rts [vS l a s,vS l a t]) (cks l) (logs (((lg)++[vlQ l a s.1 s.2])++[vlQ l a t.1 t.2])) (a:Int) [encR s,encR t] 2 2) (fun n=>?_),
  exS3 rfl (R:=fun _=>x7 v c1 c2 (rts [vS l a s,vS l a t]) (cks l) (logs (((lg)++[vlQ l a s.1 s.2])++[vlQ l a t.1 t.2])) (a:Int) [encR s,encR t] 2 2 false) (fun n=>by kernel_rfl),exC3]
 ·have e:ya4 yam yac yad yal yah x7 (n+1) v c1 c2 (rts [vS l a s]) (cks l) (logs ((lg)++[vlQ l a s.1 s.2])) (a:Int) [encR s,encR t] 2 1=yam (cks l) (logs ((lg)++[vlQ l a s.1 s.2])) a t.1.num t.1.den t.2.num t.2.den (fun c g y0 y1 y2=>yac y0 y1 y2 fun r0 r1=>ya4 yam yac yad yal yah x7 n v c1 c2 [encW (vS l a s),.agg [.int .i64 r0,.int .i64 r1]] c g (a:Int) [encR s,encR t] 2 2):=by kernel_rfl
  rw [e,ht.val hd ha (by rw [qAj,qAq];omega),yfi]
  rfl
 ·have e:ycf yam yac yad yal yah x6 x7 (n+1) v c1 c2 (cks l) (logs lg) (a:Int) [encR s,encR t] 2 0=yam (cks l) (logs (lg)) a s.1.num s.1.den s.2.num s.2.den (fun c g y0 y1 y2=>yac y0 y1 y2 fun r0 r1=>ya4 yam yac yad yal yah x7 n v c1 c2 [.agg [.int .i64 r0,.int .i64 r1]] c g (a:Int) [encR s,encR t] 2 1):=by kernel_rfl
  rw [e,hs.val hd ha (by omega),yfi]
  rfl
@[irreducible] def had3 (l:List Ck):Nat:=if o2 l=p3 l then 2 else 1
@[irreducible] def not3 (l:List Ck):Nat:=if o2 l=p3 l then 1 else 2
def w3 (l:List Ck):Rat:=vS l (not3 l) (fr3 l,c3 l)
@[irreducible] def x3 (l:List Ck):Rat:=mkV l (not3 l) (fr3 l) (w3 l*r13)
@[irreducible] def y3 (l:List Ck):Rat:=mkV l (not3 l) (fr3 l) (w3 l*r23)
def K3 (l:List Ck):List RS:=[(fr3 l,x3 l),(x3 l,y3 l),(y3 l,c3 l)]
def u3 (l:List Ck):List Rat:=(K3 l).map (vS l (had3 l))
@[irreducible] def one3 (l:List Ck):Nat:=pk (u3 l)
def k3 (l:List Ck) (i:Nat):RS:=(K3 l).getD i (0,0)
def lf3 (l:List Ck) (i:Nat):Nat:=(oth (one3 l)).getD i 0
def z3 (l:List Ck):List Rat:=[vS l 0 (k3 l (lf3 l 0)),vS l 0 (k3 l (lf3 l 1))]
@[irreducible] def kk3 (l:List Ck):Nat:=pkL (fun i=>(z3 l).getD i 0) 0 [0,1]
def cr3 (l:List Ck) (a:Nat):RS:=if a=had3 l then k3 l (one3 l) else if a=0 then k3 l (lf3 l (kk3 l)) else k3 l (lf3 l (1-kk3 l))
theorem yxa (l:List Ck):(had3 l=1∧not3 l=2)∨(had3 l=2∧not3 l=1):=by
 unfold had3 not3
 by_cases h:o2 l=p3 l
 ·rw [if_pos h,if_pos h];exact .inr ⟨rfl,rfl⟩
 ·rw [if_neg h,if_neg h];exact .inl ⟨rfl,rfl⟩
theorem yCM (l:List Ck):one3 l<3:=by unfold one3;exact yJM _
theorem yCN (l:List Ck):lf3 l 0<3∧lf3 l 1<3∧lf3 l 0≠one3 l∧lf3 l 1≠one3 l∧lf3 l 0≠lf3 l 1:=by
 have h:=yCM l
 unfold lf3
 obtain e | e | e:one3 l=0∨one3 l=1∨one3 l=2:=by omega
 all_goals (rw [e];decide)
theorem yG4 (l:List Ck):kk3 l<2:=by
 obtain ⟨h,_⟩:=ypI (v:=fun i=>(z3 l).getD i 0) [0,1] 0
 unfold kk3
 rcases h with h | h
 ·rw [h];decide
 ·simp only [qAn,List.not_mem_nil,or_false] at h;omega
structure X3 (l:List Ck) (D:Int):Prop where
 D1:1≤D∧D≤3000000
 w0:0≤w3 l
 ws:small (w3 l)
 w1:small (w3 l*r13)
 w2:small (w3 l*r23)
 m1:∃ E:Int,MkV l (not3 l) (fr3 l) (w3 l*r13) E
 m2:∃ E:Int,MkV l (not3 l) (fr3 l) (w3 l*r23) E
 fx:fr3 l≤x3 l
 xy:x3 l≤y3 l
 yc:y3 l≤c3 l
 v1:vXA l (not3 l) (x3 l)=vXA l (not3 l) (fr3 l)+w3 l*r13
 v2:vXA l (not3 l) (y3 l)=vXA l (not3 l) (fr3 l)+w3 l*r23
 vq:∀ i,i<3→VQ l (k3 l i)∧In D (k3 l i).1∧In D (k3 l i).2
 iP:∀ i,i<3→In D ((P3 l).getD i (0,0)).1∧In D ((P3 l).getD i (0,0)).2
end
section
variable {l:List Ck}
theorem yzc {a:Nat} {q v:Rat} (h:v=0):mkV l a q v=q:=by
 unfold mkV mrkC
 rw [if_pos h]
 rfl
theorem In.t13 {D:Int} (hD:1≤D) {q:Rat} (h:In D q):In (3*D) (q*r13)∧In (3*D) (q*r23):=by
 have h1:=h.div hD (d:=3) (by decide)
 have h2:=(h.mulI 2).div hD (d:=3) (by decide)
 constructor
 ·have e:q*r13=q / ((3:Int):Rat):=by rw [r13e];have:((3:Int):Rat)=3:=rfl;rw [this];grind
  rw [e];exact h1
 ·have e:q*r23=q*((2:Int):Rat) / ((3:Int):Rat):=by rw [r23e];have h3:((3:Int):Rat)=3:=rfl;have h2:((2:Int):Rat)=2:=rfl;rw [h3,h2];grind
  rw [e];exact h2
theorem yK2 (hd:DK l) (h3:l.length=3):∃ D,X3 l D:=by
 obtain ⟨D,C⟩:=cut3 hd h3
 obtain ⟨D0,g⟩:=g3 hd h3
 have hp:=yA0 l
 obtain ⟨vp,_⟩:=g.VQ hd h3 hp
 have hn:not3 l<l.length:=by rcases yxa l with h | h <;> omega
 have D1:=C.D1
 have hl:=(hd.ok 0 (by omega)).len0
 have hL:lenR l≤1000:=qA1.2 hl.2
 have fz:0≤fr3 l:=by rw [yhQ];exact vp.z
 have cl:c3 l≤lenR l:=qB1 C.hi vp.len
 have fc:=C.lo
 have iF:In D (fr3 l):=by rw [yhQ];exact (C.iP _ hp).1
 have iC:=C.iC
 have iw:In D (w3 l):=yza D1.1 (s:=(fr3 l,c3 l)) ⟨iF,iC⟩
 have wb:=yt5 hd hn (s:=(fr3 l,c3 l)) fz fc cl
 have w0:0≤w3 l:=wb.1
 have w12:w3 l≤12000:=qB1 wb.2 (yy9 hd hn)
 have t:=iw.t13 D1.1
 have e3:∀ q:Rat,q*r13=q / 3∧q*r23=2*q / 3:=fun q=>by rw [r13e,r23e];constructor <;> grind
 have wv:vXA l (not3 l) (c3 l)=vXA l (not3 l) (fr3 l)+w3 l:=by
  unfold w3 vS
  show _=vXA l (not3 l) (fr3 l)+(vXA l (not3 l) (c3 l)-vXA l (not3 l) (fr3 l))
  grind
 have ml:=yAZ hd hn cl
 have m1:=yy8 hd hn (q:=fr3 l) (v:=w3 l*r13) fz (qB1 fc cl) (by rw [(e3 _).1];grind) (by rw [(e3 _).1];grind) (D:=3*D) (by omega) (by omega) (iF.up D1.1 (by decide)) t.1
 have m2:=yy8 hd hn (q:=fr3 l) (v:=w3 l*r23) fz (qB1 fc cl) (by rw [(e3 _).2];grind) (by rw [(e3 _).2];grind) (D:=3*D) (by omega) (by omega) (iF.up D1.1 (by decide)) t.2
 have ex:x3 l=mkV l (not3 l) (fr3 l) (w3 l*r13):=by unfold x3;rfl
 have ey:y3 l=mkV l (not3 l) (fr3 l) (w3 l*r23):=by unfold y3;rfl
 obtain ⟨d,hd1,k1⟩:=m1.d
 obtain ⟨e,he1,k2⟩:=m2.d
 have v1:=m1.eqv
 have v2:=m2.eqv
 have fx:=m1.ge
 rw [← ex] at k1 v1 fx
 rw [← ey] at k2 v2
 have xy:x3 l≤y3 l:=by
  by_cases hz:w3 l=0
  ·rw [ex,ey,hz,yzc (by rw [r13e];grind),yzc (by rw [r23e];grind)];exact qA4
  ·refine qBp (lt3 hd hn ?_)
   rw [v1,v2,(e3 _).1,(e3 _).2];grind
 have yc:y3 l≤c3 l:=by
  by_cases hz:w3 l=0
  ·rw [ey,hz,yzc (by rw [r23e];grind)];exact fc
  ·refine qBp (lt3 hd hn ?_)
   rw [v2,wv,(e3 _).2];grind
 have de:1*1≤d*e:=qA8 hd1.1 he1.1 (by omega) (by omega)
 have de2:d*e≤12*12:=qA8 hd1.2 he1.2 (by omega) (by omega)
 have E1:1*1≤d*e*(3*D):=qA8 (by omega) (by omega) (by omega) (by omega)
 have E2:d*e*(3*D)≤144*(3*5184):=qA8 (by omega) (by omega) (by omega) (by omega)
 have jx:In (d*e*(3*D)) (x3 l):=In.D (by rw [Int.mul_comm d e,Int.mul_assoc]) ((k1.up (by
  have:1*1≤d*(3*D):=qA8 hd1.1 (by omega) (by omega) (by omega)
  omega) he1.1):In (e*(d*(3*D))) _)
 have jy:In (d*e*(3*D)) (y3 l):=In.D (by rw [Int.mul_assoc]) ((k2.up (by
  have:1*1≤e*(3*D):=qA8 he1.1 (by omega) (by omega) (by omega)
  omega) hd1.1):In (d*(e*(3*D))) _)
 have up:∀ {q:Rat},In D q→In (d*e*(3*D)) q:=fun h=>(h.up D1.1 (d:=3) (by decide)).up (by omega) (by omega)
 have sm:∀ {q:Rat},In (d*e*(3*D)) q→0≤q→q≤1000→small q:=fun h h0 h1=>sm3 h ⟨by omega,by omega⟩ (by grind) (by grind)
 have x0:0≤x3 l:=qB1 fz fx
 have y0:0≤y3 l:=qB1 x0 xy
 have yl:y3 l≤lenR l:=qB1 yc cl
 have xl:x3 l≤lenR l:=qB1 xy yl
 have sF:=sm (up iF) fz (by grind)
 have sX:=sm jx x0 (by grind)
 have sY:=sm jy y0 (by grind)
 have sC:=sm (up iC) (by grind) (by grind)
 refine ⟨d*e*(3*D),⟨by omega,by omega⟩,w0,sm3 iw ⟨D1.1,by omega⟩ (by grind) w12,sm3 t.1 ⟨by omega,by omega⟩ (by rw [(e3 _).1];grind) (by rw [(e3 _).1];grind),sm3 t.2 ⟨by omega,by omega⟩ (by rw [(e3 _).2];grind) (by rw [(e3 _).2];grind),⟨_,m1⟩,⟨_,m2⟩,fx,xy,yc,v1,v2,fun i hi=>?_,fun i hi=>⟨up (C.iP i hi).1,up (C.iP i hi).2⟩⟩
 obtain rfl | rfl | rfl:i=0∨i=1∨i=2:=by omega
 ·exact ⟨⟨sF,sX,fz,fx,xl,_,⟨by omega,by omega⟩,up iF,jx⟩,up iF,jx⟩
 ·exact ⟨⟨sX,sY,x0,xy,yl,_,⟨by omega,by omega⟩,jx,jy⟩,jx,jy⟩
 ·exact ⟨⟨sY,sC,y0,yc,cl,_,⟨by omega,by omega⟩,jy,up iC⟩,jy,up iC⟩
end
set_option maxHeartbeats 1000000
section
variable {l:List Ck}
def yA2 (l:List Ck):List Qy:=[vlQ l (not3 l) (fr3 l) (c3 l)]++[mkQ (not3 l) (fr3 l) (w3 l*r13) (x3 l)]++[mkQ (not3 l) (fr3 l) (w3 l*r23) (y3 l)]++[vlQ l (had3 l) (fr3 l) (x3 l)]++[vlQ l (had3 l) (x3 l) (y3 l)]++[vlQ l (had3 l) (y3 l) (c3 l)]++[vlQ l 0 (k3 l (lf3 l 0)).1 (k3 l (lf3 l 0)).2]++[vlQ l 0 (k3 l (lf3 l 1)).1 (k3 l (lf3 l 1)).2]
theorem yKG (hd:DK l) (h3:l.length=3) {lg:List Qy} (hm:lg.length+10<2000) (i0 i1 i2 i3 i4 i5 i6 i7 i8 i9 i10 i11 b0 b1:Int) (K) :
  yag (cks l) (logs lg) i0 i1 i2 i3 i4 i5 i6 i7 i8 i9 i10 i11 (p3 l:Int) (fr3 l).num (fr3 l).den (c3 l).num (c3 l).den b0 b1 (o2 l:Int) K =
  K (cr3 l 0).1.num (cr3 l 0).1.den (cr3 l 0).2.num (cr3 l 0).2.den (cr3 l 1).1.num (cr3 l 1).1.den (cr3 l 1).2.num (cr3 l 1).2.den (cr3 l 2).1.num (cr3 l 2).1.den (cr3 l 2).2.num (cr3 l 2).2.den (cks l) (logs (lg++yA2 l)):=by
 obtain ⟨D,X⟩:=yK2 hd h3
 obtain ⟨D',C⟩:=cut3 hd h3
 obtain ⟨D0,g⟩:=g3 hd h3
 have h0:0<l.length:=by omega
 have h1:1<l.length:=by omega
 have h2:2<l.length:=by omega
 have D1:=X.D1
 have v0:VQ l (fr3 l,x3 l)∧_:=X.vq 0 (by decide)
 have v1:VQ l (x3 l,y3 l)∧_:=X.vq 1 (by decide)
 have v2:VQ l (y3 l,c3 l)∧_:=X.vq 2 (by decide)
 have vO:VQ l (fr3 l,c3 l):=⟨v0.1.s1,v2.1.s2,v0.1.z,C.lo,v2.1.len,D,⟨D1.1,by omega⟩,v0.2.1,v2.2.2⟩
 have sz:∀ {a:Nat} {s:RS},a<l.length→VQ l s∧In D s.1∧In D s.2→small (vS l a s):=fun {a s} ha h=>by
  obtain ⟨k1,k2⟩:=yt5 hd ha h.1.z h.1.le h.1.len
  have k3:=yy9 hd ha
  exact sm3 (yza D1.1 h.2) ⟨D1.1,by omega⟩ (by grind) (by grind)
 have hk:=yG4 l
 have hone:=yCM l
 have ex:x3 l=mkV l (not3 l) (fr3 l) (w3 l*r13):=by unfold x3;rfl
 have ey:y3 l=mkV l (not3 l) (fr3 l) (w3 l*r23):=by unfold y3;rfl
 have th0:∀ {lg':List Qy},lg'.length+2<2000→∀ K,yad (cks l) (logs lg') (not3 l:Nat) (fr3 l).num (fr3 l).den (w3 l).num (w3 l).den K=K (x3 l).num (x3 l).den (y3 l).num (y3 l).den (cks l) (logs ((lg'++[mkQ (not3 l) (fr3 l) (w3 l*r13) (x3 l)])++[mkQ (not3 l) (fr3 l) (w3 l*r23) (y3 l)])):=fun {lg'} hm' K=>by
  obtain ⟨E1,m1⟩:=X.m1
  obtain ⟨E2,m2⟩:=X.m2
  have hn:not3 l<l.length:=by rcases yxa l with h | h <;> omega
  have r1:0≤w3 l*r13:=by have:=X.w0;rw [r13e];grind
  have r2:0≤w3 l*r23:=by have:=X.w0;rw [r23e];grind
  have:=yG0 hd hn (q:=fr3 l) (v:=w3 l) v0.1.s1 v0.1.z (qB1 vO.le vO.len) X.ws X.w1 X.w2 r1 r2 m1 m2 (lg:=lg') hm' K
  rw [← ex,← ey] at this
  exact this
 have pU:∀ K,yal (rts (u3 l)) [.int .i64 0,.int .i64 1,.int .i64 2] K=K (one3 l:Nat):=fun K=>by
  have hh:had3 l<l.length:=by rcases yxa l with h | h <;> omega
  unfold one3
  refine yCK rfl (fun i hi=>?_) K
  obtain rfl | rfl | rfl:i=0∨i=1∨i=2:=by omega
  ·exact sz hh v0
  ·exact sz hh v1
  ·exact sz hh v2
 have pK:∀ K,yal (rts (z3 l)) [.int .i64 0,.int .i64 1] K=K (kk3 l:Nat):=fun K=>by
  obtain ⟨j0,j1,_⟩:=yCN l
  unfold kk3
  refine yJL (vs:=z3 l) (i0:=0) (J:=[1]) (fun i hi=>?_) (fun i hi=>?_) (by decide) K
  ·have hi:i<2:=hi
   obtain rfl | rfl:i=0∨i=1:=by omega
   ·exact sz h0 (X.vq _ j0)
   ·exact sz h0 (X.vq _ j1)
  ·show i<2
   simp only [qAn,List.not_mem_nil,or_false] at hi
   omega
 have eG:lg++yA2 l=lg++[vlQ l (not3 l) (fr3 l) (c3 l)]++[mkQ (not3 l) (fr3 l) (w3 l*r13) (x3 l)]++[mkQ (not3 l) (fr3 l) (w3 l*r23) (y3 l)]++[vlQ l (had3 l) (fr3 l) (x3 l)]++[vlQ l (had3 l) (x3 l) (y3 l)]++[vlQ l (had3 l) (y3 l) (c3 l)]++[vlQ l 0 (k3 l (lf3 l 0)).1 (k3 l (lf3 l 0)).2]++[vlQ l 0 (k3 l (lf3 l 1)).1 (k3 l (lf3 l 1)).2]:=by
  unfold yA2
  simp only [qAu]
 obtain ⟨j0,j1,_⟩:=yCN l
 unfold yag yej
 dsimp only [lt,Go.Pf.jn]
 rcases yxa l with ⟨eh,en⟩ | ⟨eh,en⟩
 case' inl =>
  have hb:(((o2 l:Nat):Int) ==((p3 l:Nat):Int))=false:=by
   unfold had3 at eh
   by_cases h:o2 l=p3 l
   ·rw [if_pos h] at eh;omega
   ·simp;omega
  have ew:w3 l=vS l 2 (fr3 l,c3 l):=by unfold w3;rw [en]
  have eu:u3 l=[vS l 1 (fr3 l,x3 l),vS l 1 (x3 l,y3 l),vS l 1 (y3 l,c3 l)]:=by unfold u3;rw [eh];rfl
  rw [hb,yai]
  refine (yK0 hd h2 (s:=(fr3 l,c3 l)) vO (lg:=lg) (by omega)).trans ?_
  have th:∀ K,yad (cks l) (logs (lg++[vlQ l 2 (fr3 l,c3 l).1 (fr3 l,c3 l).2])) 2 (fr3 l).num (fr3 l).den (yaa (yab (List.getD (rts [vS l 2 (fr3 l,c3 l)]) 0 .nils) 0)) (yaa (yab (List.getD (rts [vS l 2 (fr3 l,c3 l)]) 0 .nils) 1)) K=K (x3 l).num (x3 l).den (y3 l).num (y3 l).den (cks l) (logs (((lg++[vlQ l 2 (fr3 l,c3 l).1 (fr3 l,c3 l).2])++[mkQ 2 (fr3 l) (w3 l*r13) (x3 l)])++[mkQ 2 (fr3 l) (w3 l*r23) (y3 l)])):=fun K=>by
   have h:=th0 (lg':=lg++[vlQ l 2 (fr3 l,c3 l).1 (fr3 l,c3 l).2]) (by rw [qAj,qAq];omega) K
   rw [en] at h
   rw [← ew]
   exact h
  rw [th]
  iterate 5 refine (asTT (by first | rfl | exact decide_eq_true (by omega))).trans ?_
  refine (yK1 hd h1 (s:=(fr3 l,x3 l)) (t:=(x3 l,y3 l)) (u:=(y3 l,c3 l)) v0.1 v1.1 v2.1 (lg:=((lg++[vlQ l 2 (fr3 l,c3 l).1 (fr3 l,c3 l).2])++[mkQ 2 (fr3 l) (w3 l*r13) (x3 l)])++[mkQ 2 (fr3 l) (w3 l*r23) (y3 l)]) (by simp only [qAj,qAq];omega) _).trans ?_
  rw [← eu,qAr,pU]
 case' inr =>
  have hb:(((o2 l:Nat):Int) ==((p3 l:Nat):Int))=true:=by
   unfold had3 at eh
   by_cases h:o2 l=p3 l
   ·rw [h];simp
   ·rw [if_neg h] at eh;omega
  have ew:w3 l=vS l 1 (fr3 l,c3 l):=by unfold w3;rw [en]
  have eu:u3 l=[vS l 2 (fr3 l,x3 l),vS l 2 (x3 l,y3 l),vS l 2 (y3 l,c3 l)]:=by unfold u3;rw [eh];rfl
  rw [hb,yan]
  refine (yK0 hd h1 (s:=(fr3 l,c3 l)) vO (lg:=lg) (by omega)).trans ?_
  have th:∀ K,yad (cks l) (logs (lg++[vlQ l 1 (fr3 l,c3 l).1 (fr3 l,c3 l).2])) 1 (fr3 l).num (fr3 l).den (yaa (yab (List.getD (rts [vS l 1 (fr3 l,c3 l)]) 0 .nils) 0)) (yaa (yab (List.getD (rts [vS l 1 (fr3 l,c3 l)]) 0 .nils) 1)) K=K (x3 l).num (x3 l).den (y3 l).num (y3 l).den (cks l) (logs (((lg++[vlQ l 1 (fr3 l,c3 l).1 (fr3 l,c3 l).2])++[mkQ 1 (fr3 l) (w3 l*r13) (x3 l)])++[mkQ 1 (fr3 l) (w3 l*r23) (y3 l)])):=fun K=>by
   have h:=th0 (lg':=lg++[vlQ l 1 (fr3 l,c3 l).1 (fr3 l,c3 l).2]) (by rw [qAj,qAq];omega) K
   rw [en] at h
   rw [← ew]
   exact h
  rw [th]
  iterate 5 refine (asTT (by first | rfl | exact decide_eq_true (by omega))).trans ?_
  refine (yK1 hd h2 (s:=(fr3 l,x3 l)) (t:=(x3 l,y3 l)) (u:=(y3 l,c3 l)) v0.1 v1.1 v2.1 (lg:=((lg++[vlQ l 1 (fr3 l,c3 l).1 (fr3 l,c3 l).2])++[mkQ 1 (fr3 l) (w3 l*r13) (x3 l)])++[mkQ 1 (fr3 l) (w3 l*r23) (y3 l)]) (by simp only [qAj,qAq];omega) _).trans ?_
  rw [← eu,qAr,pU]
 all_goals
  rcases (show one3 l=0∨one3 l=1∨one3 l=2 by omega) with eo | eo | eo
 all_goals
  have ez:z3 l=[vS l 0 (k3 l (lf3 l 0)),vS l 0 (k3 l (lf3 l 1))]:=by unfold z3;rfl
  have sv:=fun {lg:List Qy} {x6 x7} hm a b c=>yL9 (x6:=x6) (x7:=x7) hd h0 (s:=k3 l (lf3 l 0)) (t:=k3 l (lf3 l 1)) (X.vq _ j0).1 (X.vq _ j1).1 (lg:=lg) hm a b c
  have c0:cr3 l 0=k3 l (lf3 l (kk3 l)):=by unfold cr3;rw [eh];rfl
  first
  | (rw [eo,show ∀ K,yah [.int .i64 ((0:Nat):Int)] K=K (nts [1,2]) from fun K=>ypJ (by decide) K]; have k0:k3 l (lf3 l 0)=(x3 l,y3 l):=(by unfold lf3;rw [eo];rfl); have k1:k3 l (lf3 l 1)=(y3 l,c3 l):=(by unfold lf3;rw [eo];rfl); rw [k0,k1] at sv ez eG)
  | (rw [eo,show ∀ K,yah [.int .i64 ((1:Nat):Int)] K=K (nts [0,2]) from fun K=>ypJ (by decide) K]; have k0:k3 l (lf3 l 0)=(fr3 l,x3 l):=(by unfold lf3;rw [eo];rfl); have k1:k3 l (lf3 l 1)=(y3 l,c3 l):=(by unfold lf3;rw [eo];rfl); rw [k0,k1] at sv ez eG)
  | (rw [eo,show ∀ K,yah [.int .i64 ((2:Nat):Int)] K=K (nts [0,1]) from fun K=>ypJ (by decide) K]; have k0:k3 l (lf3 l 0)=(fr3 l,x3 l):=(by unfold lf3;rw [eo];rfl); have k1:k3 l (lf3 l 1)=(x3 l,y3 l):=(by unfold lf3;rw [eo];rfl); rw [k0,k1] at sv ez eG)
  iterate 16 refine (asTT (by first | rfl | exact decide_eq_true (by omega))).trans ?_
  refine (sv (lg:=_) (by simp only [qAj,qAq];omega) _ _ _).trans ?_
  rw [en,eh] at eG
  rw [← ez,qAr,pK,eG,c0]
  rcases (show kk3 l=0∨kk3 l=1 by omega) with ek | ek
  all_goals
   first
   | rw [show cr3 l 1=k3 l (one3 l) by unfold cr3;rw [eh];rfl,show cr3 l 2=k3 l (lf3 l (1-kk3 l)) by unfold cr3;rw [eh];rfl]
   | rw [show cr3 l 1=k3 l (lf3 l (1-kk3 l)) by unfold cr3;rw [eh];rfl,show cr3 l 2=k3 l (one3 l) by unfold cr3;rw [eh];rfl]
   rw [ek,eo]
   first
   | rw [show k3 l (lf3 l (1-1))=_ from k0,k1];rfl
   | rw [show k3 l (lf3 l (1-0))=_ from k1,k0];rfl
end
set_option maxHeartbeats 1000000
def neS (s:Sp):Bool:=!((s.a == s.c)&&((s.b == s.d)&&true))
def fl2 (s t:Sp):List Sp:=(bif neS s then [s] else [])++(bif neS t then [t] else [])
theorem in0G {s t:Sp} {A P:Nat→Prop} {B:List PV→Nat→Int→Prop} {X:List PV→Prop} (hs:neS s=true) (z:A 0=False) (zB:∀ v j,B v 0 j=False) (a0:∀ n,A (n+1)=cbr (neS s) (B [encS s] n 1) (P n)) (a1:∀ n,B [encS s] (n+1) 1=cbr (neS t) (B [encS s,encS t] n 2) (B [encS s] n 2)) (a2:∀ v n,B v (n+1) 2=X v):(∃ n,A n)=X ((fl2 s t).map encS):=by
 rw [exS3 z (R:=fun n=>B [encS s] n 1) (fun n=>by rw [a0,hs,yan])]
 unfold fl2
 rw [hs]
 cases ht:neS t with
 | true =>
  rw [exS3 (zB _ _) (R:=fun n=>B [encS s,encS t] n 2) (fun n=>by rw [a1,ht,yan]),exS3 (zB _ _) (R:=fun _=>X [encS s,encS t]) (fun n=>a2 _ n),exC3]
  rfl
 | false =>
  rw [exS3 (zB _ _) (R:=fun n=>B [encS s] n 2) (fun n=>by rw [a1,ht,yai]),exS3 (zB _ _) (R:=fun _=>X [encS s]) (fun n=>a2 _ n),exC3]
  rfl
theorem in4G {s t:Sp} {A:Nat→Int→Prop} {B:List PV→Nat→Int→Prop} {X:List PV→Prop} {Y:Prop} (z:∀ j,A 0 j=False) (zB:∀ v j,B v 0 j=False) (a0:∀ n,A (n+1) 0=cbr (neS s) (B [encS s] n 1) (A n 1)) (b0:∀ n,A (n+1) 1=cbr (neS t) (B [encS t] n 2) (A n 2)) (b1:∀ n,A (n+1) 2=Y) (a1:∀ n,B [encS s] (n+1) 1=cbr (neS t) (B [encS s,encS t] n 2) (B [encS s] n 2)) (a2:∀ v n,B v (n+1) 2=X v):(∃ n,A n 0)=bif neS s||neS t then X ((fl2 s t).map encS) else Y:=by
 cases hs:neS s with
 | true=>exact in0G hs (z 0) zB a0 a1 a2
 | false =>
  unfold fl2
  rw [hs,exS3 (z _) (R:=fun n=>A n 1) (fun n=>by rw [a0,hs,yai])]
  cases ht:neS t with
  | true =>
   rw [exS3 (z _) (R:=fun n=>B [encS t] n 2) (fun n=>by rw [b0,ht,yan]),exS3 (zB _ _) (R:=fun _=>X [encS t]) (fun n=>a2 _ n),exC3]
   rfl
  | false =>
   rw [exS3 (z _) (R:=fun n=>A n 2) (fun n=>by rw [b0,ht,yai]),exS3 (z _) (R:=fun _=>Y) (fun n=>b1 n),exC3]
   rfl
section
variable (s t:Sp) (c g:List PV) (s00 s01 s02 s03 s10 s11 s12 s13 s20 s21 s22 s23 c00 c01 c02 c03 c10 c11 c12 c13 c20 c21 c22 c23 m0 m1 m2 m3 m4 o0 o1 o2 i:Int)
theorem in0 (hs:neS s=true) {x0 x1}:(∃ n,ydS yao yaf yag yak yae x0 x1 n s00 s01 s02 s03 s10 s11 s12 s13 s20 s21 s22 s23 m0 m1 m2 m3 m4 o0 o1 o2 0 c g c00 c01 c02 c03 c10 c11 c12 c13 c20 c21 c22 c23 i [encS s,encS t] 2 0)=x1 ((fl2 s t).map encS) s00 s01 s02 s03 s10 s11 s12 s13 s20 s21 s22 s23 m0 m1 m2 m3 m4 o0 o1 o2 0 c g c00 c01 c02 c03 c10 c11 c12 c13 c20 c21 c22 c23 i [encS s,encS t] 2 2 false :=
 in0G (P:=fun n=>ydS yao yaf yag yak yae x0 x1 n s00 s01 s02 s03 s10 s11 s12 s13 s20 s21 s22 s23 m0 m1 m2 m3 m4 o0 o1 o2 0 c g c00 c01 c02 c03 c10 c11 c12 c13 c20 c21 c22 c23 i [encS s,encS t] 2 1) (B:=fun v n j=>yfx yao yaf yag yak yae x1 n v s00 s01 s02 s03 s10 s11 s12 s13 s20 s21 s22 s23 m0 m1 m2 m3 m4 o0 o1 o2 0 c g c00 c01 c02 c03 c10 c11 c12 c13 c20 c21 c22 c23 i [encS s,encS t] 2 j) (X:=fun v=>x1 v s00 s01 s02 s03 s10 s11 s12 s13 s20 s21 s22 s23 m0 m1 m2 m3 m4 o0 o1 o2 0 c g c00 c01 c02 c03 c10 c11 c12 c13 c20 c21 c22 c23 i [encS s,encS t] 2 2 false) hs rfl (fun _ _=>rfl) (fun n=>by kernel_rfl) (fun n=>by kernel_rfl) (fun v n=>by kernel_rfl)
theorem in4a (q1:PV) {x4 x5}:(∃ n,ycn yao yaf yag yak yae x4 x5 n [q1] s00 s01 s02 s03 s10 s11 s12 s13 s20 s21 s22 s23 m0 m1 m2 m3 m4 o0 o1 o2 0 c g c00 c01 c02 c03 c10 c11 c12 c13 c20 c21 c22 c23 i [encS s,encS t] 2 0)=bif neS s||neS t then x5 [q1] ((fl2 s t).map encS) s00 s01 s02 s03 s10 s11 s12 s13 s20 s21 s22 s23 m0 m1 m2 m3 m4 o0 o1 o2 0 c g c00 c01 c02 c03 c10 c11 c12 c13 c20 c21 c22 c23 i [encS s,encS t] 2 2 false else x4 [q1] s00 s01 s02 s03 s10 s11 s12 s13 s20 s21 s22 s23 m0 m1 m2 m3 m4 o0 o1 o2 0 c g c00 c01 c02 c03 c10 c11 c12 c13 c20 c21 c22 c23 i [encS s,encS t] 2 2 false :=
 in4G (A:=fun n j=>ycn yao yaf yag yak yae x4 x5 n [q1] s00 s01 s02 s03 s10 s11 s12 s13 s20 s21 s22 s23 m0 m1 m2 m3 m4 o0 o1 o2 0 c g c00 c01 c02 c03 c10 c11 c12 c13 c20 c21 c22 c23 i [encS s,encS t] 2 j) (B:=fun v n j=>ydT yao yaf yag yak yae x5 n [q1] v s00 s01 s02 s03 s10 s11 s12 s13 s20 s21 s22 s23 m0 m1 m2 m3 m4 o0 o1 o2 0 c g c00 c01 c02 c03 c10 c11 c12 c13 c20 c21 c22 c23 i [encS s,encS t] 2 j) (X:=fun v=>x5 [q1] v s00 s01 s02 s03 s10 s11 s12 s13 s20 s21 s22 s23 m0 m1 m2 m3 m4 o0 o1 o2 0 c g c00 c01 c02 c03 c10 c11 c12 c13 c20 c21 c22 c23 i [encS s,encS t] 2 2 false) (fun _=>rfl) (fun _ _=>rfl) (fun n=>by kernel_rfl) (fun n=>by kernel_rfl) (fun n=>by kernel_rfl) (fun n=>by kernel_rfl) (fun v n=>by kernel_rfl)
theorem in4b (q1 q2:PV) {x4 x5}:(∃ n,ycn yao yaf yag yak yae x4 x5 n [q1,q2] s00 s01 s02 s03 s10 s11 s12 s13 s20 s21 s22 s23 m0 m1 m2 m3 m4 o0 o1 o2 0 c g c00 c01 c02 c03 c10 c11 c12 c13 c20 c21 c22 c23 i [encS s,encS t] 2 0)=bif neS s||neS t then x5 [q1,q2] ((fl2 s t).map encS) s00 s01 s02 s03 s10 s11 s12 s13 s20 s21 s22 s23 m0 m1 m2 m3 m4 o0 o1 o2 0 c g c00 c01 c02 c03 c10 c11 c12 c13 c20 c21 c22 c23 i [encS s,encS t] 2 2 false else x4 [q1,q2] s00 s01 s02 s03 s10 s11 s12 s13 s20 s21 s22 s23 m0 m1 m2 m3 m4 o0 o1 o2 0 c g c00 c01 c02 c03 c10 c11 c12 c13 c20 c21 c22 c23 i [encS s,encS t] 2 2 false :=
 in4G (A:=fun n j=>ycn yao yaf yag yak yae x4 x5 n [q1,q2] s00 s01 s02 s03 s10 s11 s12 s13 s20 s21 s22 s23 m0 m1 m2 m3 m4 o0 o1 o2 0 c g c00 c01 c02 c03 c10 c11 c12 c13 c20 c21 c22 c23 i [encS s,encS t] 2 j) (B:=fun v n j=>ydT yao yaf yag yak yae x5 n [q1,q2] v s00 s01 s02 s03 s10 s11 s12 s13 s20 s21 s22 s23 m0 m1 m2 m3 m4 o0 o1 o2 0 c g c00 c01 c02 c03 c10 c11 c12 c13 c20 c21 c22 c23 i [encS s,encS t] 2 j) (X:=fun v=>x5 [q1,q2] v s00 s01 s02 s03 s10 s11 s12 s13 s20 s21 s22 s23 m0 m1 m2 m3 m4 o0 o1 o2 0 c g c00 c01 c02 c03 c10 c11 c12 c13 c20 c21 c22 c23 i [encS s,encS t] 2 2 false) (fun _=>rfl) (fun _ _=>rfl) (fun n=>by kernel_rfl) (fun n=>by kernel_rfl) (fun n=>by kernel_rfl) (fun n=>by kernel_rfl) (fun v n=>by kernel_rfl)
theorem yem (m:List PV) (K:List PV→Prop):yae m 0 K=K m:=rfl
theorem ypK {s t:Sp} (h:(neS s||neS t)=false):fl2 s t=[]:=by
 simp only [qB0] at h
 unfold fl2
 rw [h.1,h.2]
 rfl
theorem yMa (hs:neS ⟨s00,s01,s02,s03⟩=true) {m:List PV} (hM:∀ K,yak ((fl2 ⟨s00,s01,s02,s03⟩ ⟨c00,c01,c02,c03⟩).map encS) K=K m 0) {x0 x1 x2} (n:Nat) :
  ybn yao yaf yag yak yae x0 x1 x2 (n+1) s00 s01 s02 s03 s10 s11 s12 s13 s20 s21 s22 s23 m0 m1 m2 m3 m4 0 o1 o2 0 c g c00 c01 c02 c03 c10 c11 c12 c13 c20 c21 c22 c23 0=yay yao yaf yag yak yae x2 n [.data m] s00 s01 s02 s03 s10 s11 s12 s13 s20 s21 s22 s23 m0 m1 m2 m3 m4 0 o1 o2 0 c g c00 c01 c02 c03 c10 c11 c12 c13 c20 c21 c22 c23 1:=by
 unfold ybn
 dsimp only [lt,Go.Pf.jn]
 rw [cbT (by decide),cbT (show (0:Int)=0 from rfl),cbT (show (0:Int)=0 from rfl),cbT (show (0:Int)=0 from rfl)]
 refine (in0 ⟨s00,s01,s02,s03⟩ ⟨c00,c01,c02,c03⟩ c g _ _ _ _ _ _ _ _ _ _ _ _ _ _ _ _ _ _ _ _ _ _ _ _ _ _ _ _ _ _ _ _ _  hs).trans ?_
 iterate 2 refine (asTT (by first | exact decide_eq_true (by omega) | rfl)).trans ?_
 rw [qAr,hM,yem]
 rfl
theorem yMb (hs:neS ⟨s10,s11,s12,s13⟩=true) {m:List PV} (hM:∀ K,yak ((fl2 ⟨s10,s11,s12,s13⟩ ⟨c00,c01,c02,c03⟩).map encS) K=K m 0) {x0 x1 x2} (n:Nat) :
  ybn yao yaf yag yak yae x0 x1 x2 (n+1) s00 s01 s02 s03 s10 s11 s12 s13 s20 s21 s22 s23 m0 m1 m2 m3 m4 1 o1 o2 0 c g c00 c01 c02 c03 c10 c11 c12 c13 c20 c21 c22 c23 0=yay yao yaf yag yak yae x2 n [.data m] s00 s01 s02 s03 s10 s11 s12 s13 s20 s21 s22 s23 m0 m1 m2 m3 m4 1 o1 o2 0 c g c00 c01 c02 c03 c10 c11 c12 c13 c20 c21 c22 c23 1:=by
 unfold ybn
 dsimp only [lt,Go.Pf.jn]
 rw [cbT (by decide),cbT (show (0:Int)=0 from rfl),cbF (by decide),cbT (show (1:Int)=1 from rfl),cbT (show (0:Int)=0 from rfl)]
 refine (in0 ⟨s10,s11,s12,s13⟩ ⟨c00,c01,c02,c03⟩ c g _ _ _ _ _ _ _ _ _ _ _ _ _ _ _ _ _ _ _ _ _ _ _ _ _ _ _ _ _ _ _ _ _  hs).trans ?_
 iterate 2 refine (asTT (by first | exact decide_eq_true (by omega) | rfl)).trans ?_
 rw [qAr,hM,yem]
 rfl
theorem yMc (hs:neS ⟨s20,s21,s22,s23⟩=true) {m:List PV} (hM:∀ K,yak ((fl2 ⟨s20,s21,s22,s23⟩ ⟨c00,c01,c02,c03⟩).map encS) K=K m 0) {x0 x1 x2} (n:Nat) :
  ybn yao yaf yag yak yae x0 x1 x2 (n+1) s00 s01 s02 s03 s10 s11 s12 s13 s20 s21 s22 s23 m0 m1 m2 m3 m4 2 o1 o2 0 c g c00 c01 c02 c03 c10 c11 c12 c13 c20 c21 c22 c23 0=yay yao yaf yag yak yae x2 n [.data m] s00 s01 s02 s03 s10 s11 s12 s13 s20 s21 s22 s23 m0 m1 m2 m3 m4 2 o1 o2 0 c g c00 c01 c02 c03 c10 c11 c12 c13 c20 c21 c22 c23 1:=by
 unfold ybn
 dsimp only [lt,Go.Pf.jn]
 rw [cbT (by decide),cbT (show (0:Int)=0 from rfl),cbF (by decide),cbF (by decide),cbT (show (2:Int)=2 from rfl),cbT (show (0:Int)=0 from rfl)]
 refine (in0 ⟨s20,s21,s22,s23⟩ ⟨c00,c01,c02,c03⟩ c g _ _ _ _ _ _ _ _ _ _ _ _ _ _ _ _ _ _ _ _ _ _ _ _ _ _ _ _ _ _ _ _ _  hs).trans ?_
 iterate 2 refine (asTT (by first | exact decide_eq_true (by omega) | rfl)).trans ?_
 rw [qAr,hM,yem]
 rfl
theorem yMd (q1:PV) {m:List PV} (hM:∀ K,yak ((fl2 ⟨s00,s01,s02,s03⟩ ⟨c10,c11,c12,c13⟩).map encS) K=K m 0) {x2} (n:Nat) :
  yay yao yaf yag yak yae x2 (n+1) [q1] s00 s01 s02 s03 s10 s11 s12 s13 s20 s21 s22 s23 m0 m1 m2 m3 m4 o0 0 o2 0 c g c00 c01 c02 c03 c10 c11 c12 c13 c20 c21 c22 c23 1=yay yao yaf yag yak yae x2 n [q1,.data m] s00 s01 s02 s03 s10 s11 s12 s13 s20 s21 s22 s23 m0 m1 m2 m3 m4 o0 0 o2 0 c g c00 c01 c02 c03 c10 c11 c12 c13 c20 c21 c22 c23 2:=by
 conv=>lhs;unfold yay
 dsimp only [lt,Go.Pf.jn]
 rw [cbT (by decide),cbF (by decide),cbT (show (1:Int)=1 from rfl),cbT (show (0:Int)=0 from rfl),cbF (by decide),cbT (show (1:Int)=1 from rfl)]
 refine (asTT rfl).trans ?_
 refine (in4a ⟨s00,s01,s02,s03⟩ ⟨c10,c11,c12,c13⟩ c g _ _ _ _ _ _ _ _ _ _ _ _ _ _ _ _ _ _ _ _ _ _ _ _ _ _ _ _ _ _ _ _ _  q1).trans ?_
 cases hne:(neS ⟨s00,s01,s02,s03⟩||neS ⟨c10,c11,c12,c13⟩) with
 | true =>
  rw [cond_true]
  iterate 2 refine (asTT (by first | exact decide_eq_true (by omega) | rfl)).trans ?_
  rw [qAr,hM,yem]
  rfl
 | false =>
  rw [ypK hne] at hM
  have hM:∀ K,yak [] K=K m 0:=hM
  rw [cond_false,hM,yem]
  rfl
theorem yMe (q1:PV) {m:List PV} (hM:∀ K,yak ((fl2 ⟨s10,s11,s12,s13⟩ ⟨c10,c11,c12,c13⟩).map encS) K=K m 0) {x2} (n:Nat) :
  yay yao yaf yag yak yae x2 (n+1) [q1] s00 s01 s02 s03 s10 s11 s12 s13 s20 s21 s22 s23 m0 m1 m2 m3 m4 o0 1 o2 0 c g c00 c01 c02 c03 c10 c11 c12 c13 c20 c21 c22 c23 1=yay yao yaf yag yak yae x2 n [q1,.data m] s00 s01 s02 s03 s10 s11 s12 s13 s20 s21 s22 s23 m0 m1 m2 m3 m4 o0 1 o2 0 c g c00 c01 c02 c03 c10 c11 c12 c13 c20 c21 c22 c23 2:=by
 conv=>lhs;unfold yay
 dsimp only [lt,Go.Pf.jn]
 rw [cbT (by decide),cbF (by decide),cbT (show (1:Int)=1 from rfl),cbF (by decide),cbT (show (1:Int)=1 from rfl),cbF (by decide),cbT (show (1:Int)=1 from rfl)]
 refine (asTT rfl).trans ?_
 refine (in4a ⟨s10,s11,s12,s13⟩ ⟨c10,c11,c12,c13⟩ c g _ _ _ _ _ _ _ _ _ _ _ _ _ _ _ _ _ _ _ _ _ _ _ _ _ _ _ _ _ _ _ _ _  q1).trans ?_
 cases hne:(neS ⟨s10,s11,s12,s13⟩||neS ⟨c10,c11,c12,c13⟩) with
 | true =>
  rw [cond_true]
  iterate 2 refine (asTT (by first | exact decide_eq_true (by omega) | rfl)).trans ?_
  rw [qAr,hM,yem]
  rfl
 | false =>
  rw [ypK hne] at hM
  have hM:∀ K,yak [] K=K m 0:=hM
  rw [cond_false,hM,yem]
  rfl
theorem yMf (q1:PV) {m:List PV} (hM:∀ K,yak ((fl2 ⟨s20,s21,s22,s23⟩ ⟨c10,c11,c12,c13⟩).map encS) K=K m 0) {x2} (n:Nat) :
  yay yao yaf yag yak yae x2 (n+1) [q1] s00 s01 s02 s03 s10 s11 s12 s13 s20 s21 s22 s23 m0 m1 m2 m3 m4 o0 2 o2 0 c g c00 c01 c02 c03 c10 c11 c12 c13 c20 c21 c22 c23 1=yay yao yaf yag yak yae x2 n [q1,.data m] s00 s01 s02 s03 s10 s11 s12 s13 s20 s21 s22 s23 m0 m1 m2 m3 m4 o0 2 o2 0 c g c00 c01 c02 c03 c10 c11 c12 c13 c20 c21 c22 c23 2:=by
 conv=>lhs;unfold yay
 dsimp only [lt,Go.Pf.jn]
 rw [cbT (by decide),cbF (by decide),cbT (show (1:Int)=1 from rfl),cbF (by decide),cbF (by decide),cbT (show (2:Int)=2 from rfl),cbF (by decide),cbT (show (1:Int)=1 from rfl)]
 refine (asTT rfl).trans ?_
 refine (in4a ⟨s20,s21,s22,s23⟩ ⟨c10,c11,c12,c13⟩ c g _ _ _ _ _ _ _ _ _ _ _ _ _ _ _ _ _ _ _ _ _ _ _ _ _ _ _ _ _ _ _ _ _  q1).trans ?_
 cases hne:(neS ⟨s20,s21,s22,s23⟩||neS ⟨c10,c11,c12,c13⟩) with
 | true =>
  rw [cond_true]
  iterate 2 refine (asTT (by first | exact decide_eq_true (by omega) | rfl)).trans ?_
  rw [qAr,hM,yem]
  rfl
 | false =>
  rw [ypK hne] at hM
  have hM:∀ K,yak [] K=K m 0:=hM
  rw [cond_false,hM,yem]
  rfl
theorem yMg (q1 q2:PV) {m:List PV} (hM:∀ K,yak ((fl2 ⟨s00,s01,s02,s03⟩ ⟨c20,c21,c22,c23⟩).map encS) K=K m 0) {x2} (n:Nat) :
  yay yao yaf yag yak yae x2 (n+1) [q1,q2] s00 s01 s02 s03 s10 s11 s12 s13 s20 s21 s22 s23 m0 m1 m2 m3 m4 o0 o1 0 0 c g c00 c01 c02 c03 c10 c11 c12 c13 c20 c21 c22 c23 2=yay yao yaf yag yak yae x2 n [q1,q2,.data m] s00 s01 s02 s03 s10 s11 s12 s13 s20 s21 s22 s23 m0 m1 m2 m3 m4 o0 o1 0 0 c g c00 c01 c02 c03 c10 c11 c12 c13 c20 c21 c22 c23 3:=by
 conv=>lhs;unfold yay
 dsimp only [lt,Go.Pf.jn]
 rw [cbT (by decide),cbF (by decide),cbF (by decide),cbT (show (2:Int)=2 from rfl),cbT (show (0:Int)=0 from rfl),cbF (by decide),cbF (by decide),cbT (show (2:Int)=2 from rfl)]
 refine (asTT rfl).trans ?_
 refine (in4b ⟨s00,s01,s02,s03⟩ ⟨c20,c21,c22,c23⟩ c g _ _ _ _ _ _ _ _ _ _ _ _ _ _ _ _ _ _ _ _ _ _ _ _ _ _ _ _ _ _ _ _ _  q1 q2).trans ?_
 cases hne:(neS ⟨s00,s01,s02,s03⟩||neS ⟨c20,c21,c22,c23⟩) with
 | true =>
  rw [cond_true]
  iterate 2 refine (asTT (by first | exact decide_eq_true (by omega) | rfl)).trans ?_
  rw [qAr,hM,yem]
  rfl
 | false =>
  rw [ypK hne] at hM
  have hM:∀ K,yak [] K=K m 0:=hM
  rw [cond_false,hM,yem]
  rfl
theorem yMh (q1 q2:PV) {m:List PV} (hM:∀ K,yak ((fl2 ⟨s10,s11,s12,s13⟩ ⟨c20,c21,c22,c23⟩).map encS) K=K m 0) {x2} (n:Nat) :
  yay yao yaf yag yak yae x2 (n+1) [q1,q2] s00 s01 s02 s03 s10 s11 s12 s13 s20 s21 s22 s23 m0 m1 m2 m3 m4 o0 o1 1 0 c g c00 c01 c02 c03 c10 c11 c12 c13 c20 c21 c22 c23 2=yay yao yaf yag yak yae x2 n [q1,q2,.data m] s00 s01 s02 s03 s10 s11 s12 s13 s20 s21 s22 s23 m0 m1 m2 m3 m4 o0 o1 1 0 c g c00 c01 c02 c03 c10 c11 c12 c13 c20 c21 c22 c23 3:=by
 conv=>lhs;unfold yay
 dsimp only [lt,Go.Pf.jn]
 rw [cbT (by decide),cbF (by decide),cbF (by decide),cbT (show (2:Int)=2 from rfl),cbF (by decide),cbT (show (1:Int)=1 from rfl),cbF (by decide),cbF (by decide),cbT (show (2:Int)=2 from rfl)]
 refine (asTT rfl).trans ?_
 refine (in4b ⟨s10,s11,s12,s13⟩ ⟨c20,c21,c22,c23⟩ c g _ _ _ _ _ _ _ _ _ _ _ _ _ _ _ _ _ _ _ _ _ _ _ _ _ _ _ _ _ _ _ _ _  q1 q2).trans ?_
 cases hne:(neS ⟨s10,s11,s12,s13⟩||neS ⟨c20,c21,c22,c23⟩) with
 | true =>
  rw [cond_true]
  iterate 2 refine (asTT (by first | exact decide_eq_true (by omega) | rfl)).trans ?_
  rw [qAr,hM,yem]
  rfl
 | false =>
  rw [ypK hne] at hM
  have hM:∀ K,yak [] K=K m 0:=hM
  rw [cond_false,hM,yem]
  rfl
theorem yMi (q1 q2:PV) {m:List PV} (hM:∀ K,yak ((fl2 ⟨s20,s21,s22,s23⟩ ⟨c20,c21,c22,c23⟩).map encS) K=K m 0) {x2} (n:Nat) :
  yay yao yaf yag yak yae x2 (n+1) [q1,q2] s00 s01 s02 s03 s10 s11 s12 s13 s20 s21 s22 s23 m0 m1 m2 m3 m4 o0 o1 2 0 c g c00 c01 c02 c03 c10 c11 c12 c13 c20 c21 c22 c23 2=yay yao yaf yag yak yae x2 n [q1,q2,.data m] s00 s01 s02 s03 s10 s11 s12 s13 s20 s21 s22 s23 m0 m1 m2 m3 m4 o0 o1 2 0 c g c00 c01 c02 c03 c10 c11 c12 c13 c20 c21 c22 c23 3:=by
 conv=>lhs;unfold yay
 dsimp only [lt,Go.Pf.jn]
 rw [cbT (by decide),cbF (by decide),cbF (by decide),cbT (show (2:Int)=2 from rfl),cbF (by decide),cbF (by decide),cbT (show (2:Int)=2 from rfl),cbF (by decide),cbF (by decide),cbT (show (2:Int)=2 from rfl)]
 refine (asTT rfl).trans ?_
 refine (in4b ⟨s20,s21,s22,s23⟩ ⟨c20,c21,c22,c23⟩ c g _ _ _ _ _ _ _ _ _ _ _ _ _ _ _ _ _ _ _ _ _ _ _ _ _ _ _ _ _ _ _ _ _  q1 q2).trans ?_
 cases hne:(neS ⟨s20,s21,s22,s23⟩||neS ⟨c20,c21,c22,c23⟩) with
 | true =>
  rw [cond_true]
  iterate 2 refine (asTT (by first | exact decide_eq_true (by omega) | rfl)).trans ?_
  rw [qAr,hM,yem]
  rfl
 | false =>
  rw [ypK hne] at hM
  have hM:∀ K,yak [] K=K m 0:=hM
  rw [cond_false,hM,yem]
  rfl
end
set_option maxHeartbeats 1000000
def selS (a b c:Sp) (k:Nat):Sp:=if k=0 then a else if k=1 then b else c
section
variable (c g:List PV) (s00 s01 s02 s03 s10 s11 s12 s13 s20 s21 s22 s23 c00 c01 c02 c03 c10 c11 c12 c13 c20 c21 c22 c23 m0 m1 m2 m3 m4 o0 o1 o2:Int)
theorem rnd0 {k:Nat} (hk:k<3) (hs:neS (selS ⟨s00,s01,s02,s03⟩ ⟨s10,s11,s12,s13⟩ ⟨s20,s21,s22,s23⟩ k)=true) {m:List PV} (hM:∀ K,yak ((fl2 (selS ⟨s00,s01,s02,s03⟩ ⟨s10,s11,s12,s13⟩ ⟨s20,s21,s22,s23⟩ k) ⟨c00,c01,c02,c03⟩).map encS) K=K m 0) {x0 x1 x2} (n:Nat) :
  ybn yao yaf yag yak yae x0 x1 x2 (n+1) s00 s01 s02 s03 s10 s11 s12 s13 s20 s21 s22 s23 m0 m1 m2 m3 m4 (k:Int) o1 o2 0 c g c00 c01 c02 c03 c10 c11 c12 c13 c20 c21 c22 c23 0=yay yao yaf yag yak yae x2 n [.data m] s00 s01 s02 s03 s10 s11 s12 s13 s20 s21 s22 s23 m0 m1 m2 m3 m4 (k:Int) o1 o2 0 c g c00 c01 c02 c03 c10 c11 c12 c13 c20 c21 c22 c23 1:=by
 obtain rfl | rfl | rfl:k=0∨k=1∨k=2:=by omega
 ·exact yMa (hs:=hs) (hM:=hM) ..
 ·exact yMb (hs:=hs) (hM:=hM) ..
 ·exact yMc (hs:=hs) (hM:=hM) ..
theorem rnd1 (q1:PV) {k:Nat} (hk:k<3) {m:List PV} (hM:∀ K,yak ((fl2 (selS ⟨s00,s01,s02,s03⟩ ⟨s10,s11,s12,s13⟩ ⟨s20,s21,s22,s23⟩ k) ⟨c10,c11,c12,c13⟩).map encS) K=K m 0) {x2} (n:Nat) :
  yay yao yaf yag yak yae x2 (n+1) [q1] s00 s01 s02 s03 s10 s11 s12 s13 s20 s21 s22 s23 m0 m1 m2 m3 m4 o0 (k:Int) o2 0 c g c00 c01 c02 c03 c10 c11 c12 c13 c20 c21 c22 c23 1=yay yao yaf yag yak yae x2 n [q1,.data m] s00 s01 s02 s03 s10 s11 s12 s13 s20 s21 s22 s23 m0 m1 m2 m3 m4 o0 (k:Int) o2 0 c g c00 c01 c02 c03 c10 c11 c12 c13 c20 c21 c22 c23 2:=by
 obtain rfl | rfl | rfl:k=0∨k=1∨k=2:=by omega
 ·exact yMd (hM:=hM) ..
 ·exact yMe (hM:=hM) ..
 ·exact yMf (hM:=hM) ..
theorem rnd2 (q1 q2:PV) {k:Nat} (hk:k<3) {m:List PV} (hM:∀ K,yak ((fl2 (selS ⟨s00,s01,s02,s03⟩ ⟨s10,s11,s12,s13⟩ ⟨s20,s21,s22,s23⟩ k) ⟨c20,c21,c22,c23⟩).map encS) K=K m 0) {x2} (n:Nat) :
  yay yao yaf yag yak yae x2 (n+1) [q1,q2] s00 s01 s02 s03 s10 s11 s12 s13 s20 s21 s22 s23 m0 m1 m2 m3 m4 o0 o1 (k:Int) 0 c g c00 c01 c02 c03 c10 c11 c12 c13 c20 c21 c22 c23 2=yay yao yaf yag yak yae x2 n [q1,q2,.data m] s00 s01 s02 s03 s10 s11 s12 s13 s20 s21 s22 s23 m0 m1 m2 m3 m4 o0 o1 (k:Int) 0 c g c00 c01 c02 c03 c10 c11 c12 c13 c20 c21 c22 c23 3:=by
 obtain rfl | rfl | rfl:k=0∨k=1∨k=2:=by omega
 ·exact yMg (hM:=hM) ..
 ·exact yMh (hM:=hM) ..
 ·exact yMi (hM:=hM) ..
theorem rnd3 (q1 q2 q3:PV) {x2} (n:Nat):yay yao yaf yag yak yae x2 (n+1) [q1,q2,q3] s00 s01 s02 s03 s10 s11 s12 s13 s20 s21 s22 s23 m0 m1 m2 m3 m4 o0 o1 o2 0 c g c00 c01 c02 c03 c10 c11 c12 c13 c20 c21 c22 c23 3=x2 [q1,q2,q3] s00 s01 s02 s03 s10 s11 s12 s13 s20 s21 s22 s23 m0 m1 m2 m3 m4 o0 o1 o2 0 c g c00 c01 c02 c03 c10 c11 c12 c13 c20 c21 c22 c23 3 false:=by kernel_rfl
theorem rnds {a b d:Nat} (ha:a<3) (hb:b<3) (hd:d<3) (hs:neS (selS ⟨s00,s01,s02,s03⟩ ⟨s10,s11,s12,s13⟩ ⟨s20,s21,s22,s23⟩ a)=true) {u v w:List PV} (hu:∀ K,yak ((fl2 (selS ⟨s00,s01,s02,s03⟩ ⟨s10,s11,s12,s13⟩ ⟨s20,s21,s22,s23⟩ a) ⟨c00,c01,c02,c03⟩).map encS) K=K u 0) (hv:∀ K,yak ((fl2 (selS ⟨s00,s01,s02,s03⟩ ⟨s10,s11,s12,s13⟩ ⟨s20,s21,s22,s23⟩ b) ⟨c10,c11,c12,c13⟩).map encS) K=K v 0) (hw:∀ K,yak ((fl2 (selS ⟨s00,s01,s02,s03⟩ ⟨s10,s11,s12,s13⟩ ⟨s20,s21,s22,s23⟩ d) ⟨c20,c21,c22,c23⟩).map encS) K=K w 0) {x0 x1 x2} :
  (∃ n,ybn yao yaf yag yak yae x0 x1 x2 n s00 s01 s02 s03 s10 s11 s12 s13 s20 s21 s22 s23 m0 m1 m2 m3 m4 (a:Int) (b:Int) (d:Int) 0 c g c00 c01 c02 c03 c10 c11 c12 c13 c20 c21 c22 c23 0)=x2 [.data u,.data v,.data w] s00 s01 s02 s03 s10 s11 s12 s13 s20 s21 s22 s23 m0 m1 m2 m3 m4 (a:Int) (b:Int) (d:Int) 0 c g c00 c01 c02 c03 c10 c11 c12 c13 c20 c21 c22 c23 3 false:=by
 rw [exS3 rfl (fun n=>rnd0 (hk:=ha) (hs:=hs) (hM:=hu) (n:=n) ..),exS3 rfl (fun n=>rnd1 (hk:=hb) (hM:=hv) (n:=n) ..),exS3 rfl (fun n=>rnd2 (hk:=hd) (hM:=hw) (n:=n) ..),exS3 rfl (fun n=>rnd3 (n:=n) ..),exC3]
end
section
variable {l:List Ck}
theorem yG5 (hd:DK l) (h3:l.length=3) (K:Int→Prop):yao (cks l) [] K=K 0:=by
 unfold yao yhJ
 have h:∀ K,yc1 (cks l) [] K=K (yif l 0):=fun K=>ypD (lg:=[]) hd.fin (by omega) K
 rw [h,hd.err (by decide),cnF rfl,ycg,h3]
 rfl
def ag3 (l:List Ck) (i:Nat):Nat:=if i=0 then o0 l else if i=1 then o1 l else o2 l
def neR (s:RS):Bool:=!decide (s.1=s.2)
def L3 (l:List Ck) (i:Nat):List RS:=(bif neR (s3 l (ag3 l i)) then [s3 l (ag3 l i)] else [])++(bif tr3 l&&neR (cr3 l i) then [cr3 l i] else [])
theorem yCO (s:RS):neS (spOf s)=neR s:=by
 unfold neS neR
 rw [← yKZ]
 rfl
theorem yLG (s t:RS):(fl2 (spOf s) (spOf t)).map encS=rsp ((bif neR s then [s] else [])++(bif neR t then [t] else [])):=by
 unfold fl2
 rw [yCO,yCO]
 cases neR s <;> cases neR t <;> rfl
theorem yMj (s:RS):(fl2 (spOf s) ⟨0,0,0,0⟩).map encS=rsp ((bif neR s then [s] else [])++[]):=by
 unfold fl2
 rw [yCO]
 cases neR s <;> rfl
end
set_option maxHeartbeats 1000000
section
variable {l:List Ck}
theorem yMk (l:List Ck):o0 l=3-o1 l-o2 l:=by unfold o0;rfl
theorem ysq (l:List Ck):o0 l<3∧o0 l≠o1 l∧o0 l≠o2 l:=by
 have h1:=yvr l
 have h2:=yzb l
 have e:=yMk l
 omega
theorem o1_p {l:List Ck} (h:tr3 l=true):o1 l=p3 l∨o2 l=p3 l:=by
 by_cases e:p3 l=o2 l
 ·exact .inr e.symm
 ·left
  rw [yEw,h,decide_eq_false e]
  rfl
theorem yMl (l:List Ck):s3 l (o0 l)=(P3 l).getD (o0 l) (0,0):=by
 have h0:=ysq l
 rw [ypi h0.1]
 cases h:tr3 l with
 | false=>rfl
 | true =>
  have:o0 l≠p3 l:=by
   rcases o1_p h with e | e
   ·rw [← e];exact h0.2.1
   ·rw [← e];exact h0.2.2
  rw [decide_eq_false this]
  rfl
theorem yMm (hd:DK l) (h3:l.length=3) {i:Nat} (hi:i<3):((P3 l).getD i (0,0)).1<((P3 l).getD i (0,0)).2:=by
 obtain ⟨D,g⟩:=g3 hd h3
 obtain rfl | rfl | rfl:i=0∨i=1∨i=2:=by omega
 ·exact g.a0
 ·exact g.ab
 ·exact g.bl
theorem yMn (l:List Ck) (a:Nat):∃ j,j<3∧cr3 l a=k3 l j:=by
 obtain ⟨j0,j1,_⟩:=yCN l
 have hk:=yG4 l
 have hl:∀ i,i<2→lf3 l i<3:=fun i hi=>by
  obtain rfl | rfl:i=0∨i=1:=by omega
  ·exact j0
  ·exact j1
 unfold cr3
 split
 ·exact ⟨_,yCM l,rfl⟩
 ·split
  ·exact ⟨_,hl _ hk,rfl⟩
  ·exact ⟨_,hl _ (by omega),rfl⟩
theorem yCP (l:List Ck) (i:Nat):ag3 l i<3:=by
 unfold ag3
 split
 ·exact (ysq l).1
 ·split
  ·exact (yvr l).1
  ·exact yzb l
theorem yJP (hd:DK l) (h3:l.length=3) (i:Nat):(∀ s∈L3 l i,ybb s∧s.1<s.2)∧(L3 l i).length≤60:=by
 obtain ⟨D,_,hV⟩:=S3VQ hd h3
 obtain ⟨D',X⟩:=yK2 hd h3
 obtain ⟨j,hj,ej⟩:=yMn l i
 have a:=(hV _ (yCP l i)).1
 have b:=(X.vq j hj).1
 rw [← ej] at b
 have lt:∀ {s:RS},VQ l s→neR s=true→s.1<s.2:=fun {s} h k=>by
  unfold neR at k
  have:s.1≠s.2:=by simpa using k
  have:=h.le
  grind
 have hA:∀ s∈(bif neR (s3 l (ag3 l i)) then [s3 l (ag3 l i)] else []),ybb s∧s.1<s.2:=fun s hs=>by
  cases e:neR (s3 l (ag3 l i)) with
  | true =>
   rw [e,cond_true,qBb] at hs
   subst hs
   exact ⟨⟨a.s1,a.s2⟩,lt a e⟩
  | false=>rw [e] at hs;cases hs
 have hB:∀ s∈(bif tr3 l&&neR (cr3 l i) then [cr3 l i] else []),ybb s∧s.1<s.2:=fun s hs=>by
  cases e:(tr3 l&&neR (cr3 l i)) with
  | true =>
   rw [e,cond_true,qBb] at hs
   subst hs
   simp only [qAa] at e
   exact ⟨⟨b.s1,b.s2⟩,lt b e.2⟩
  | false=>rw [e] at hs;cases hs
 refine ⟨fun s hs=>?_,?_⟩
 ·unfold L3 at hs
  rcases qAz.1 hs with h | h
  ·exact hA s h
  ·exact hB s h
 ·unfold L3
  rw [qAj]
  have h1:(bif neR (s3 l (ag3 l i)) then [s3 l (ag3 l i)] else []).length≤1:=by cases neR (s3 l (ag3 l i)) <;> simp
  have h2:(bif tr3 l&&neR (cr3 l i) then [cr3 l i] else []).length≤1:=by cases (tr3 l&&neR (cr3 l i)) <;> simp
  omega
def logR (l:List Ck):List Qy:=log3 l++(bif tr3 l then yA2 l else [])
structure M3 (l:List Ck) (M:Nat→List RS):Prop where
 pc:∀ i,Pc (M i)
 mem:∀ i p,memP (M i) p↔memP (L3 l i) p
theorem run3 (hd:DK l) (h3:l.length=3):∃ M,M3 l M∧∀ K,yel (cks l) K=K (rspL [M 0,M 1,M 2]) (s3 l 0).1.num (s3 l 0).1.den (s3 l 0).2.num (s3 l 0).2.den (s3 l 1).1.num (s3 l 1).1.den (s3 l 1).2.num (s3 l 1).2.den (s3 l 2).1.num (s3 l 2).1.den (s3 l 2).2.num (s3 l 2).2.den (pc3 l) (bif tr3 l then (fr3 l).num else 0) (bif tr3 l then ((fr3 l).den:Int) else 0) (bif tr3 l then (c3 l).num else 0) (bif tr3 l then ((c3 l).den:Int) else 0) (o0 l:Int) (o1 l:Int) (o2 l:Int) (logs (logR l)) 0:=by
 have hM0:=fun i=>yKC (fun s hs=>((yJP hd h3 i).1 s hs).1) (fun s hs=>((yJP hd h3 i).1 s hs).2) (yJP hd h3 i).2
 obtain ⟨M,hM⟩:∃ M:Nat→List RS,∀ i,Pc (M i)∧(∀ p,memP (M i) p↔memP (L3 l i) p)∧∀ K,yak (rsp (L3 l i)) K=K (rsp (M i)) 0:=⟨fun i=>(hM0 i).choose,fun i=>(hM0 i).choose_spec⟩
 refine ⟨M,⟨fun i=>(hM i).1,fun i=>(hM i).2.1⟩,fun K=>?_⟩
 have mk:=fun i=>(hM i).2.2
 have sel:∀ k,k<3→selS ⟨(s3 l 0).1.num,(s3 l 0).1.den,(s3 l 0).2.num,(s3 l 0).2.den⟩ ⟨(s3 l 1).1.num,(s3 l 1).1.den,(s3 l 1).2.num,(s3 l 1).2.den⟩ ⟨(s3 l 2).1.num,(s3 l 2).1.den,(s3 l 2).2.num,(s3 l 2).2.den⟩ k=spOf (s3 l k):=fun k hk=>by
  obtain rfl | rfl | rfl:k=0∨k=1∨k=2:=by omega
  all_goals rfl
 have hne:neS (selS ⟨(s3 l 0).1.num,(s3 l 0).1.den,(s3 l 0).2.num,(s3 l 0).2.den⟩ ⟨(s3 l 1).1.num,(s3 l 1).1.den,(s3 l 1).2.num,(s3 l 1).2.den⟩ ⟨(s3 l 2).1.num,(s3 l 2).1.den,(s3 l 2).2.num,(s3 l 2).2.den⟩ (o0 l))=true:=by
  rw [sel _ (ysq l).1,yCO,yMl]
  have:=yMm hd h3 (ysq l).1
  unfold neR
  rw [decide_eq_false (by grind)]
  rfl
 have f:∀ K,yaf (cks l) [] K=_:=fun K=>yJO hd h3 (lg:=[]) (by decide) K
 unfold yel yk6
 dsimp only [lt,Go.Pf.jn]
 rw [yG5 hd h3,cnF rfl,f]
 cases htr:tr3 l with
 | true =>
  have hpc:pc3 l=(p3 l:Int):=by unfold pc3;rw [htr];rfl
  have mk':∀ i K,yak ((fl2 (selS ⟨(s3 l 0).1.num,(s3 l 0).1.den,(s3 l 0).2.num,(s3 l 0).2.den⟩ ⟨(s3 l 1).1.num,(s3 l 1).1.den,(s3 l 1).2.num,(s3 l 1).2.den⟩ ⟨(s3 l 2).1.num,(s3 l 2).1.den,(s3 l 2).2.num,(s3 l 2).2.den⟩ (ag3 l i)) (spOf (cr3 l i))).map encS) K=K (rsp (M i)) 0:=fun i K=>by
   rw [sel _ (yCP l i),yLG]
   have:=mk i K
   unfold L3 at this
   rw [htr,qAy] at this
   exact this
  rw [hpc]
  simp only [cond_true]
  rw [cbT (by omega)]
  rw [yKG hd h3 (lg:=[]++log3 l) (by unfold log3 yf4 yA1;rw [htr];simp only [qAj,qAq,qB4,cond_true];omega)]
  rw [rnds (ha:=(ysq l).1) (hb:=(yvr l).1) (hd:=yzb l) (hs:=hne) (hu:=mk' 0) (hv:=mk' 1) (hw:=mk' 2)]
  have eG:[]++log3 l++yA2 l=logR l:=by unfold logR;rw [htr];rfl
  rw [eG]
  rfl
 | false =>
  have hpc:pc3 l=-1:=by unfold pc3;rw [htr];rfl
  have mk':∀ i K,yak ((fl2 (selS ⟨(s3 l 0).1.num,(s3 l 0).1.den,(s3 l 0).2.num,(s3 l 0).2.den⟩ ⟨(s3 l 1).1.num,(s3 l 1).1.den,(s3 l 1).2.num,(s3 l 1).2.den⟩ ⟨(s3 l 2).1.num,(s3 l 2).1.den,(s3 l 2).2.num,(s3 l 2).2.den⟩ (ag3 l i)) ⟨0,0,0,0⟩).map encS) K=K (rsp (M i)) 0:=fun i K=>by
   rw [sel _ (yCP l i),yMj]
   have:=mk i K
   unfold L3 at this
   rw [htr,qBj] at this
   exact this
  rw [hpc]
  simp only [cond_false]
  rw [cbF (by decide)]
  rw [rnds (ha:=(ysq l).1) (hb:=(yvr l).1) (hd:=yzb l) (hs:=hne) (hu:=mk' 0) (hv:=mk' 1) (hw:=mk' 2)]
  have eG:[]++log3 l=logR l:=by unfold logR;rw [htr];exact (List.append_nil _).symm
  rw [eG]
  rfl
end
section
variable {l:List Ck} {M:Nat→List RS}
theorem yEx (l:List Ck):(logR l).length=bif tr3 l then 16 else 7:=by
 unfold logR log3 yf4 yA1 yA2
 cases tr3 l <;> rfl
theorem yJQ (l:List Ck):(log3 l).length=bif tr3 l then 8 else 7:=by
 unfold log3 yf4 yA1
 cases tr3 l <;> rfl
end
def yzd:List Ck:=[⟨6,[0,6],[1]⟩,⟨6,[0,4,6],[1,4]⟩,⟨6,[0,2,6],[2,0]⟩]
theorem cbTT {c:Bool} {P Q:Prop} (h:c=true):cbr c P Q=P:=by rw [h,yan]
theorem yKH (K:List PV→Prop):ypc K=K (cks yzd):=rfl
theorem of10 (n:Int) (K:Int→Int→Prop):yyL n K=K n 1:=rfl
theorem dk10:DK yzd:=(ym9 (l:=yzd) (m:=0) (by decide +kernel)).1
theorem L310:L3 yzd 0=[(2,4)]∧L3 yzd 1=[(mkRat 11 2,6),(4,mkRat 11 2)]∧L3 yzd 2=[(0,2)]:=by decide +kernel
theorem tr10:tr3 yzd=true:=by decide +kernel
theorem yLH (K:Bool→Prop):ygk (rspL [[(2,4)],[(4,6)],[(0,2)]]) [(.data [(.agg [(.int .i64 (2:Int)),(.int .i64 (1:Int)),(.int .i64 (4:Int)),(.int .i64 (1:Int))])]),(.data [(.agg [(.int .i64 (4:Int)),(.int .i64 (1:Int)),(.int .i64 (6:Int)),(.int .i64 (1:Int))])]),(.data [(.agg [(.int .i64 (0:Int)),(.int .i64 (1:Int)),(.int .i64 (2:Int)),(.int .i64 (1:Int))])])] K=K true:=by
 have h:=yFK (l:=[[⟨2,1,4,1⟩],[⟨4,1,6,1⟩],[⟨0,1,2,1⟩]]) (fun i hi=>by
  have hi:i<3:=hi
  obtain rfl | rfl | rfl:i=0∨i=1∨i=2:=by omega
  all_goals decide) (by decide) K
 have e:rspL [[((2:Rat),(4:Rat))],[((4:Rat),(6:Rat))],[((0:Rat),(2:Rat))]]=ypg [[⟨2,1,4,1⟩],[⟨4,1,6,1⟩],[⟨0,1,2,1⟩]]:=by kernel_rfl
 rw [e]
 exact h
theorem yze (K:Bool→Prop):yd2 K=K true:=by
 obtain ⟨M,h,run⟩:=run3 dk10 rfl
 have c1:∀ {a b:Rat},a<b→ygE [(a,b)]:=fun h=>⟨h,fun t ht=>(by cases ht),trivial⟩
 have m0:M 0=[(2,4)]:=yhj _ _ (h.pc 0).c (c1 (by decide +kernel)) fun p=>by rw [h.mem,L310.1]
 have m2:M 2=[(0,2)]:=yhj _ _ (h.pc 2).c (c1 (by decide +kernel)) fun p=>by rw [h.mem,L310.2.2]
 have m1:M 1=[(4,6)]:=yhj _ _ (h.pc 1).c (c1 (by decide +kernel)) fun p=>by
  have e:mkRat 11 2=11 / 2:=by decide +kernel
  rw [h.mem,L310.2.1,e]
  unfold memP inS
  simp only [qAn,List.not_mem_nil,or_false,exists_eq_or_imp,exists_eq_left]
  grind
 unfold yd2 ym4
 dsimp only [Go.Pf.jn]
 rw [yKH,run]
 simp only [of10]
 refine (cbTT rfl).trans ?_
 refine (cbTT (by decide +kernel)).trans ?_
 rw [ycR,yEx,tr10,cond_true]
 refine (cbTT rfl).trans ?_
 rw [m0,m1,m2,yLH]
variable {l:List Ck}
theorem yJR (hl:l.length≤9223372036854775807) (K:Bool→Prop):yiZ (cks l) K=K (!ysl l&&(decide (l.length=3)&&decide (yif l 0=0))):=by
 unfold yiZ ysh
 dsimp only [Go.Pf.jn]
 rw [yz0 hl]
 cases hg:ysl l with
 | true=>rfl
 | false =>
  obtain ⟨g1,g2,g3⟩:=yFI hg
  rw [show (!false)=true from rfl,yan,ycg]
  by_cases h3:l.length=3
  ·rw [ceT (by omega)]
   have h:∀ K,ye9 (cks l) [] K=K (yif l 0):=fun K=>yHY (lg:=[]) g3 (by omega) K
   rw [h,decide_eq_true h3]
   rfl
  ·rw [show ((((l.length:Nat):Int)) == 3)=false by simp;omega,yai,decide_eq_false h3]
   rfl
theorem yLI (hd:DK l) (h3:l.length=3) (K):ydV (cks l) [] K=K (cks l) (logs (log3 l)) (s3 l 0).1.num (s3 l 0).1.den (s3 l 0).2.num (s3 l 0).2.den (s3 l 1).1.num (s3 l 1).1.den (s3 l 1).2.num (s3 l 1).2.den (s3 l 2).1.num (s3 l 2).1.den (s3 l 2).2.num (s3 l 2).2.den
  (pc3 l) (bif tr3 l then (fr3 l).num else 0) (bif tr3 l then ((fr3 l).den:Int) else 0) (bif tr3 l then (c3 l).num else 0) (bif tr3 l then ((c3 l).den:Int) else 0) (o0 l:Int) (o1 l:Int) (o2 l:Int) 0:=by
 have f:∀ K,yaf (cks l) [] K=_:=fun K=>yJO hd h3 (lg:=[]) (by decide) K
 unfold ydV yiu
 rw [yG5 hd h3,cnF rfl,f]
 rfl
set_option maxHeartbeats 1000000
section
variable {l:List Ck}
theorem yJS {q r:Rat} (hq:small q) (hr:small r) (K:Bool→Prop):ybp q.num q.den r.num r.den K=K (decide (q<r)):=by
 have:=yAT (s:=⟨q.num,q.den,r.num,r.den⟩) ⟨hq.i1,hq.i2,hr.i1,hr.i2⟩ K
 rw [this]
 congr 1
 rw [decide_eq_decide]
 unfold Sp.ok
 dsimp only
 rw [yf9,yf9]
 exact ⟨fun k=>k.2.2,fun k=>⟨hq.rv,hr.rv,k⟩⟩
end
set_option maxHeartbeats 1000000
section
variable (c g:List PV) (s00 s01 s02 s03 s10 s11 s12 s13 s20 s21 s22 s23 pc f0 f1 g0 g1 o0 o1 o2:Int) (ps lg:List PV)
theorem kp00 {a0 a1 a2 a3 a4 a5 a6} {q0 q1 q2:List PV} {x0 x1} (n:Nat):yaj a0 a1 a2 a3 a4 a5 a6 x0 x1 (n+1) c g s00 s01 s02 s03 s10 s11 s12 s13 s20 s21 s22 s23 pc f0 f1 g0 g1 0 o1 o2 [.data q0,.data q1,.data q2] lg 0 =
 a5 s00 s01 s02 s03 fun b=>cbr (!b) (yaj a0 a1 a2 a3 a4 a5 a6 x0 x1 n c g s00 s01 s02 s03 s10 s11 s12 s13 s20 s21 s22 s23 pc f0 f1 g0 g1 0 o1 o2 [.data q0,.data q1,.data q2] lg 1) (a6 [.agg [.int .i64 s00,.int .i64 s01,.int .i64 s02,.int .i64 s03]] q0 fun r e=>cbr (e != 0) (x1 false) (cbr (decide (((r.length:Nat):Int)>0)) (x1 false) (yaj a0 a1 a2 a3 a4 a5 a6 x0 x1 n c g s00 s01 s02 s03 s10 s11 s12 s13 s20 s21 s22 s23 pc f0 f1 g0 g1 0 o1 o2 [.data q0,.data q1,.data q2] lg 1))):=by kernel_rfl
theorem kp01 {a0 a1 a2 a3 a4 a5 a6} {q0 q1 q2:List PV} {x0 x1} (n:Nat):yaj a0 a1 a2 a3 a4 a5 a6 x0 x1 (n+1) c g s00 s01 s02 s03 s10 s11 s12 s13 s20 s21 s22 s23 pc f0 f1 g0 g1 1 o1 o2 [.data q0,.data q1,.data q2] lg 0 =
 a5 s10 s11 s12 s13 fun b=>cbr (!b) (yaj a0 a1 a2 a3 a4 a5 a6 x0 x1 n c g s00 s01 s02 s03 s10 s11 s12 s13 s20 s21 s22 s23 pc f0 f1 g0 g1 1 o1 o2 [.data q0,.data q1,.data q2] lg 1) (a6 [.agg [.int .i64 s10,.int .i64 s11,.int .i64 s12,.int .i64 s13]] q0 fun r e=>cbr (e != 0) (x1 false) (cbr (decide (((r.length:Nat):Int)>0)) (x1 false) (yaj a0 a1 a2 a3 a4 a5 a6 x0 x1 n c g s00 s01 s02 s03 s10 s11 s12 s13 s20 s21 s22 s23 pc f0 f1 g0 g1 1 o1 o2 [.data q0,.data q1,.data q2] lg 1))):=by kernel_rfl
theorem kp02 {a0 a1 a2 a3 a4 a5 a6} {q0 q1 q2:List PV} {x0 x1} (n:Nat):yaj a0 a1 a2 a3 a4 a5 a6 x0 x1 (n+1) c g s00 s01 s02 s03 s10 s11 s12 s13 s20 s21 s22 s23 pc f0 f1 g0 g1 2 o1 o2 [.data q0,.data q1,.data q2] lg 0 =
 a5 s20 s21 s22 s23 fun b=>cbr (!b) (yaj a0 a1 a2 a3 a4 a5 a6 x0 x1 n c g s00 s01 s02 s03 s10 s11 s12 s13 s20 s21 s22 s23 pc f0 f1 g0 g1 2 o1 o2 [.data q0,.data q1,.data q2] lg 1) (a6 [.agg [.int .i64 s20,.int .i64 s21,.int .i64 s22,.int .i64 s23]] q0 fun r e=>cbr (e != 0) (x1 false) (cbr (decide (((r.length:Nat):Int)>0)) (x1 false) (yaj a0 a1 a2 a3 a4 a5 a6 x0 x1 n c g s00 s01 s02 s03 s10 s11 s12 s13 s20 s21 s22 s23 pc f0 f1 g0 g1 2 o1 o2 [.data q0,.data q1,.data q2] lg 1))):=by kernel_rfl
theorem kp10 {a0 a1 a2 a3 a4 a5 a6} {q0 q1 q2:List PV} {x0 x1} (n:Nat):yaj a0 a1 a2 a3 a4 a5 a6 x0 x1 (n+1) c g s00 s01 s02 s03 s10 s11 s12 s13 s20 s21 s22 s23 pc f0 f1 g0 g1 o0 0 o2 [.data q0,.data q1,.data q2] lg 1 =
 a5 s00 s01 s02 s03 fun b=>cbr (!b) (yaj a0 a1 a2 a3 a4 a5 a6 x0 x1 n c g s00 s01 s02 s03 s10 s11 s12 s13 s20 s21 s22 s23 pc f0 f1 g0 g1 o0 0 o2 [.data q0,.data q1,.data q2] lg 2) (a6 [.agg [.int .i64 s00,.int .i64 s01,.int .i64 s02,.int .i64 s03]] q1 fun r e=>cbr (e != 0) (x1 false) (cbr (decide (((r.length:Nat):Int)>0)) (x1 false) (yaj a0 a1 a2 a3 a4 a5 a6 x0 x1 n c g s00 s01 s02 s03 s10 s11 s12 s13 s20 s21 s22 s23 pc f0 f1 g0 g1 o0 0 o2 [.data q0,.data q1,.data q2] lg 2))):=by kernel_rfl
theorem kp11 {a0 a1 a2 a3 a4 a5 a6} {q0 q1 q2:List PV} {x0 x1} (n:Nat):yaj a0 a1 a2 a3 a4 a5 a6 x0 x1 (n+1) c g s00 s01 s02 s03 s10 s11 s12 s13 s20 s21 s22 s23 pc f0 f1 g0 g1 o0 1 o2 [.data q0,.data q1,.data q2] lg 1 =
 a5 s10 s11 s12 s13 fun b=>cbr (!b) (yaj a0 a1 a2 a3 a4 a5 a6 x0 x1 n c g s00 s01 s02 s03 s10 s11 s12 s13 s20 s21 s22 s23 pc f0 f1 g0 g1 o0 1 o2 [.data q0,.data q1,.data q2] lg 2) (a6 [.agg [.int .i64 s10,.int .i64 s11,.int .i64 s12,.int .i64 s13]] q1 fun r e=>cbr (e != 0) (x1 false) (cbr (decide (((r.length:Nat):Int)>0)) (x1 false) (yaj a0 a1 a2 a3 a4 a5 a6 x0 x1 n c g s00 s01 s02 s03 s10 s11 s12 s13 s20 s21 s22 s23 pc f0 f1 g0 g1 o0 1 o2 [.data q0,.data q1,.data q2] lg 2))):=by kernel_rfl
theorem kp12 {a0 a1 a2 a3 a4 a5 a6} {q0 q1 q2:List PV} {x0 x1} (n:Nat):yaj a0 a1 a2 a3 a4 a5 a6 x0 x1 (n+1) c g s00 s01 s02 s03 s10 s11 s12 s13 s20 s21 s22 s23 pc f0 f1 g0 g1 o0 2 o2 [.data q0,.data q1,.data q2] lg 1 =
 a5 s20 s21 s22 s23 fun b=>cbr (!b) (yaj a0 a1 a2 a3 a4 a5 a6 x0 x1 n c g s00 s01 s02 s03 s10 s11 s12 s13 s20 s21 s22 s23 pc f0 f1 g0 g1 o0 2 o2 [.data q0,.data q1,.data q2] lg 2) (a6 [.agg [.int .i64 s20,.int .i64 s21,.int .i64 s22,.int .i64 s23]] q1 fun r e=>cbr (e != 0) (x1 false) (cbr (decide (((r.length:Nat):Int)>0)) (x1 false) (yaj a0 a1 a2 a3 a4 a5 a6 x0 x1 n c g s00 s01 s02 s03 s10 s11 s12 s13 s20 s21 s22 s23 pc f0 f1 g0 g1 o0 2 o2 [.data q0,.data q1,.data q2] lg 2))):=by kernel_rfl
theorem kp20 {a0 a1 a2 a3 a4 a5 a6} {q0 q1 q2:List PV} {x0 x1} (n:Nat):yaj a0 a1 a2 a3 a4 a5 a6 x0 x1 (n+1) c g s00 s01 s02 s03 s10 s11 s12 s13 s20 s21 s22 s23 pc f0 f1 g0 g1 o0 o1 0 [.data q0,.data q1,.data q2] lg 2 =
 a5 s00 s01 s02 s03 fun b=>cbr (!b) (yaj a0 a1 a2 a3 a4 a5 a6 x0 x1 n c g s00 s01 s02 s03 s10 s11 s12 s13 s20 s21 s22 s23 pc f0 f1 g0 g1 o0 o1 0 [.data q0,.data q1,.data q2] lg 3) (a6 [.agg [.int .i64 s00,.int .i64 s01,.int .i64 s02,.int .i64 s03]] q2 fun r e=>cbr (e != 0) (x1 false) (cbr (decide (((r.length:Nat):Int)>0)) (x1 false) (yaj a0 a1 a2 a3 a4 a5 a6 x0 x1 n c g s00 s01 s02 s03 s10 s11 s12 s13 s20 s21 s22 s23 pc f0 f1 g0 g1 o0 o1 0 [.data q0,.data q1,.data q2] lg 3))):=by kernel_rfl
theorem kp21 {a0 a1 a2 a3 a4 a5 a6} {q0 q1 q2:List PV} {x0 x1} (n:Nat):yaj a0 a1 a2 a3 a4 a5 a6 x0 x1 (n+1) c g s00 s01 s02 s03 s10 s11 s12 s13 s20 s21 s22 s23 pc f0 f1 g0 g1 o0 o1 1 [.data q0,.data q1,.data q2] lg 2 =
 a5 s10 s11 s12 s13 fun b=>cbr (!b) (yaj a0 a1 a2 a3 a4 a5 a6 x0 x1 n c g s00 s01 s02 s03 s10 s11 s12 s13 s20 s21 s22 s23 pc f0 f1 g0 g1 o0 o1 1 [.data q0,.data q1,.data q2] lg 3) (a6 [.agg [.int .i64 s10,.int .i64 s11,.int .i64 s12,.int .i64 s13]] q2 fun r e=>cbr (e != 0) (x1 false) (cbr (decide (((r.length:Nat):Int)>0)) (x1 false) (yaj a0 a1 a2 a3 a4 a5 a6 x0 x1 n c g s00 s01 s02 s03 s10 s11 s12 s13 s20 s21 s22 s23 pc f0 f1 g0 g1 o0 o1 1 [.data q0,.data q1,.data q2] lg 3))):=by kernel_rfl
theorem kp22 {a0 a1 a2 a3 a4 a5 a6} {q0 q1 q2:List PV} {x0 x1} (n:Nat):yaj a0 a1 a2 a3 a4 a5 a6 x0 x1 (n+1) c g s00 s01 s02 s03 s10 s11 s12 s13 s20 s21 s22 s23 pc f0 f1 g0 g1 o0 o1 2 [.data q0,.data q1,.data q2] lg 2 =
 a5 s20 s21 s22 s23 fun b=>cbr (!b) (yaj a0 a1 a2 a3 a4 a5 a6 x0 x1 n c g s00 s01 s02 s03 s10 s11 s12 s13 s20 s21 s22 s23 pc f0 f1 g0 g1 o0 o1 2 [.data q0,.data q1,.data q2] lg 3) (a6 [.agg [.int .i64 s20,.int .i64 s21,.int .i64 s22,.int .i64 s23]] q2 fun r e=>cbr (e != 0) (x1 false) (cbr (decide (((r.length:Nat):Int)>0)) (x1 false) (yaj a0 a1 a2 a3 a4 a5 a6 x0 x1 n c g s00 s01 s02 s03 s10 s11 s12 s13 s20 s21 s22 s23 pc f0 f1 g0 g1 o0 o1 2 [.data q0,.data q1,.data q2] lg 3))):=by kernel_rfl
theorem kp3 {a0 a1 a2 a3 a4 a5 a6} {x0 x1} (n:Nat):yaj a0 a1 a2 a3 a4 a5 a6 x0 x1 (n+1) c g s00 s01 s02 s03 s10 s11 s12 s13 s20 s21 s22 s23 pc f0 f1 g0 g1 o0 o1 o2 ps lg 3=x0 c g s00 s01 s02 s03 s10 s11 s12 s13 s20 s21 s22 s23 pc f0 f1 g0 g1 o0 o1 o2 ps lg 3 false:=by kernel_rfl
def kpF (a5:Int→Int→Int→Int→(Bool→Prop)→Prop) (a6:List PV→List PV→(List PV→Int→Prop)→Prop) (q:List PV) (a b c d:Int):Prop:=∀ A B:Prop,A→a5 a b c d fun v=>cbr (!v) A (a6 [.agg [.int .i64 a,.int .i64 b,.int .i64 c,.int .i64 d]] q fun r e=>cbr (e != 0) B (cbr (decide (((r.length:Nat):Int)>0)) B A))
theorem kq0 {a0 a1 a2 a3 a4 a5 a6} {q0 q1 q2:List PV} {x0 x1} (n:Nat) (h:o0=0∧kpF a5 a6 q0 s00 s01 s02 s03∨o0=1∧kpF a5 a6 q0 s10 s11 s12 s13∨o0=2∧kpF a5 a6 q0 s20 s21 s22 s23) (k:yaj a0 a1 a2 a3 a4 a5 a6 x0 x1 n c g s00 s01 s02 s03 s10 s11 s12 s13 s20 s21 s22 s23 pc f0 f1 g0 g1 o0 o1 o2 [.data q0,.data q1,.data q2] lg 1):yaj a0 a1 a2 a3 a4 a5 a6 x0 x1 (n+1) c g s00 s01 s02 s03 s10 s11 s12 s13 s20 s21 s22 s23 pc f0 f1 g0 g1 o0 o1 o2 [.data q0,.data q1,.data q2] lg 0:=by
 rcases h with ⟨rfl,h⟩ | ⟨rfl,h⟩ | ⟨rfl,h⟩
 ·exact (kp00 (n:=n) ..).mpr (h _ _ k)
 ·exact (kp01 (n:=n) ..).mpr (h _ _ k)
 ·exact (kp02 (n:=n) ..).mpr (h _ _ k)
theorem kq1 {a0 a1 a2 a3 a4 a5 a6} {q0 q1 q2:List PV} {x0 x1} (n:Nat) (h:o1=0∧kpF a5 a6 q1 s00 s01 s02 s03∨o1=1∧kpF a5 a6 q1 s10 s11 s12 s13∨o1=2∧kpF a5 a6 q1 s20 s21 s22 s23) (k:yaj a0 a1 a2 a3 a4 a5 a6 x0 x1 n c g s00 s01 s02 s03 s10 s11 s12 s13 s20 s21 s22 s23 pc f0 f1 g0 g1 o0 o1 o2 [.data q0,.data q1,.data q2] lg 2):yaj a0 a1 a2 a3 a4 a5 a6 x0 x1 (n+1) c g s00 s01 s02 s03 s10 s11 s12 s13 s20 s21 s22 s23 pc f0 f1 g0 g1 o0 o1 o2 [.data q0,.data q1,.data q2] lg 1:=by
 rcases h with ⟨rfl,h⟩ | ⟨rfl,h⟩ | ⟨rfl,h⟩
 ·exact (kp10 (n:=n) ..).mpr (h _ _ k)
 ·exact (kp11 (n:=n) ..).mpr (h _ _ k)
 ·exact (kp12 (n:=n) ..).mpr (h _ _ k)
theorem kq2 {a0 a1 a2 a3 a4 a5 a6} {q0 q1 q2:List PV} {x0 x1} (n:Nat) (h:o2=0∧kpF a5 a6 q2 s00 s01 s02 s03∨o2=1∧kpF a5 a6 q2 s10 s11 s12 s13∨o2=2∧kpF a5 a6 q2 s20 s21 s22 s23) (k:yaj a0 a1 a2 a3 a4 a5 a6 x0 x1 n c g s00 s01 s02 s03 s10 s11 s12 s13 s20 s21 s22 s23 pc f0 f1 g0 g1 o0 o1 o2 [.data q0,.data q1,.data q2] lg 3):yaj a0 a1 a2 a3 a4 a5 a6 x0 x1 (n+1) c g s00 s01 s02 s03 s10 s11 s12 s13 s20 s21 s22 s23 pc f0 f1 g0 g1 o0 o1 o2 [.data q0,.data q1,.data q2] lg 2:=by
 rcases h with ⟨rfl,h⟩ | ⟨rfl,h⟩ | ⟨rfl,h⟩
 ·exact (kp20 (n:=n) ..).mpr (h _ _ k)
 ·exact (kp21 (n:=n) ..).mpr (h _ _ k)
 ·exact (kp22 (n:=n) ..).mpr (h _ _ k)
end
theorem yJT {a b:List RS} (ha:Pc a) (hb:Pc b) (h:∀ p,memP a p→memP b p) (K:List PV→Int→Prop):yc2 (rsp a) (rsp b) K=K [] 0:=by
 have e:setR a b 2=[]:=yhj _ _ (yEj (c:=fun x y=>x∧¬y) (fun x=>yAX) (by simp)).1 trivial fun p=>by
  rw [yIb]
  exact ⟨fun k=>absurd (h p k.1) k.2,fun k=>absurd k yjO⟩
 have n1:=ha.n
 have n2:=hb.n
 unfold yc2 ymY rsp
 rw [yKz ha.i64 hb.i64 (by rw [qAx];omega) (by rw [qAx];omega),ha.both hb,yt2 ha.s,yt2 hb.s,e,yKA (by decide)]
 rfl
theorem notI {b:Bool} {A B:Prop} (hb:b=true) (h:B):cbr (!b) A B:=by rw [hb];exact h
section
variable {l:List Ck}
theorem yzf {l:List Ck} (hl:l.length≤9223372036854775807):yeL (cks l) (fun b=>b=true):=by
 unfold yeL ygm
 rw [yJR hl]
 by_cases hf:(!ysl l&&(decide (l.length=3)&&decide (yif l 0=0)))=true
 case neg =>
  rw [show (!ysl l&&(decide (l.length=3)&&decide (yif l 0=0)))=false by simpa using hf]
  show yd2 _
  rw [yze]
 rw [hf,show (!true)=false from rfl,yai]
 simp only [qAa,qAs,decide_eq_true_eq] at hf
 obtain ⟨hg,h3,hz⟩:=hf
 have hd:=(ym9 hz).1
 obtain ⟨D,_,V⟩:=S3VQ hd h3
 obtain ⟨M,h,run⟩:=run3 hd h3
 have l1:=yEx l
 have l2:=yJQ l
 have hle:(log3 l).length≤(logR l).length:=by rw [l1,l2];cases tr3 l <;> decide
 have htk:List.take (logs (log3 l)).length (logs (logR l))=logs (log3 l):=by
  unfold logs logR
  rw [List.map_append,List.take_left]
 have sub:∀ i p,ybb (s3 l (ag3 l i))→(s3 l (ag3 l i)).1<(s3 l (ag3 l i)).2→memP [s3 l (ag3 l i)] p→memP (M i) p:=fun i p _ hlt hp=>by
  rw [h.mem]
  have hne:neR (s3 l (ag3 l i))=true:=by unfold neR;rw [decide_eq_false (by grind)];rfl
  unfold L3
  rw [hne]
  obtain ⟨s,hs,hin⟩:=hp
  exact ⟨s,qAz.2 (.inl hs),hin⟩
 have step:∀ i k,ag3 l i=k→kpF ybp yc2 (rsp (M i)) (s3 l k).1.num (s3 l k).1.den (s3 l k).2.num (s3 l k).2.den:=fun i k hk A B hA=>by
  subst hk
  have v:=(V _ (yCP l i)).1
  rw [yJS v.s1 v.s2]
  by_cases hlt:(s3 l (ag3 l i)).1<(s3 l (ag3 l i)).2
  ·have m:=yJT (a:=[s3 l (ag3 l i)]) ⟨⟨hlt,by simp,trivial⟩,by simpa using ⟨v.s1,v.s2⟩,by simp⟩ (h.pc i) (fun p=>sub i p ⟨v.s1,v.s2⟩ hlt)
   rw [decide_eq_true hlt,qBq,yai]
   refine (m _).mpr ?_
   rw [cnF rfl,cbF (by decide)]
   exact hA
  ·rw [decide_eq_false hlt,qBk,yan]
   exact hA
 have sel:∀ i k:Nat,k<3→ag3 l i=k→((k:Int)=0∧kpF ybp yc2 (rsp (M i)) (s3 l 0).1.num (s3 l 0).1.den (s3 l 0).2.num (s3 l 0).2.den∨(k:Int)=1∧kpF ybp yc2 (rsp (M i)) (s3 l 1).1.num (s3 l 1).1.den (s3 l 1).2.num (s3 l 1).2.den∨(k:Int)=2∧kpF ybp yc2 (rsp (M i)) (s3 l 2).1.num (s3 l 2).1.den (s3 l 2).2.num (s3 l 2).2.den):=fun i k hk e=>by
  rcases (show k=0∨k=1∨k=2 by omega) with rfl | rfl | rfl
  ·exact .inl ⟨rfl,step i 0 e⟩
  ·exact .inr (.inl ⟨rfl,step i 1 e⟩)
  ·exact .inr (.inr ⟨rfl,step i 2 e⟩)
 rw [yLI hd h3]
 dsimp only [Go.Pf.jn,lt]
 rw [run,cnF rfl,cnF rfl]
 refine notI (by simp only [beq_self_eq_true,Bool.and_true]) ?_
 have l3:(log3 l).length<100:=by rw [l2];cases tr3 l <;> decide
 have l4:(logR l).length<100:=by rw [l1];cases tr3 l <;> decide
 rw [cbF (by rw [ycR,ycR];omega),asT (by omega),asT (by rw [ycR,ycR];omega),htk,yEi (by omega) (by omega),decide_eq_true rfl,qBq,yai]
 rw [show (((List.length (rspL [M 0,M 1,M 2]):Nat):Int) != 3)=false from rfl,yai]
 refine ⟨4,?_⟩
 refine kq0 (n:=3) (h:=sel 0 _ (ysq l).1 rfl) (k:=?_) ..
 refine kq1 (n:=2) (h:=sel 1 _ (yvr l).1 rfl) (k:=?_) ..
 refine kq2 (n:=1) (h:=sel 2 _ (yzb l) rfl) (k:=?_) ..
 refine (kp3 (n:=0) ..).mpr ?_
 have ha:∀ K:Bool→Prop,yd2 K=K true:=fun K=>yze K
 by_cases hp:pc3 l≥0
 ·rw [cbT hp,ha]
 ·rw [cbF hp]
  have ht:tr3 l=false:=by
   cases ht:tr3 l with
   | false=>rfl
   | true=>exact absurd (show pc3 l≥0 by unfold pc3;rw [ht,cond_true];omega) hp
  rw [ycR,ycR,l1,l2,ht]
  show cbr true _ _
  rw [yan,ha]
end
end Go.Pf.Vc
