/- Part 5 of what the statement rests on: a verified evaluator over pure values, the conditions of the program's functions, and their plain laws. -/
import Derived.Test.YteggmnaoddodbaaGreatPwW4
namespace Go.Pf.Vc
open Go Go.Pf
def Ck.i64 (c:Ck):Prop:=I64 c.len∧(∀ n∈c.cuts,I64 n)∧∀ n∈c.dens,I64 n
theorem F_c {c:List PV} (h:HasF dsC c):∃ k:Ck,c=[.int .i64 k.len,.data (ints k.cuts),.data (ints k.dens)]∧k.i64∧k.cuts.length≤9223372036854775807∧k.dens.length≤9223372036854775807:=by
 simp only [dsC,HasF,HasL] at h
 obtain ⟨c1,c2,rfl,⟨n,rfl,hn⟩,c3,c4,rfl,⟨r1,rfl,l1,h1⟩,c5,c6,rfl,⟨r2,rfl,l2,h2⟩,rfl⟩:=h
 obtain ⟨a,rfl,ha⟩:=yEm r1 (fun x hx=>⟨(h1 x hx).1,by simp only [HasF];exact (h1 x hx).2⟩)
 obtain ⟨b,rfl,hb⟩:=yEm r2 (fun x hx=>⟨(h2 x hx).1,by simp only [HasF];exact (h2 x hx).2⟩)
 rw [ycm] at l1 l2
 exact ⟨⟨n,a,b⟩,rfl,⟨yqN hn,ha,hb⟩,l1,l2⟩
theorem yId {x:PV} {l:List DS} (h:x.isAgg=(DS.a l).isA):x=.agg x.cells:=by
 cases x <;> first | rfl | cases h
theorem yLS:∀ (rows:List PV),(∀ x∈rows,x.isAgg=dsC.isA∧HasF dsC x.cells)→∃ l:List Ck,rows=cks l∧∀ c∈l,c.i64
 | [],_=>⟨[],rfl,by simp⟩
 | x::r,h=>by
  obtain ⟨l,e,hl⟩:=yLS r (fun y hy=>h y (qAf _ hy))
  obtain ⟨h1,h2⟩:=h x (qAg ..)
  obtain ⟨k,e2,hk,_⟩:=F_c h2
  have ex:x=encC k:=by rw [yId h1,e2];rfl
  refine ⟨k::l,by rw [ex,e];rfl,?_⟩
  intro m hm
  rcases qAn.1 hm with rfl | hm
  ·exact hk
  ·exact hl m hm
theorem yPn {c:List PV} (h:HasF (.s dsC) c):∃ l:List Ck,c=[.data (cks l)]∧l.length≤9223372036854775807∧∀ k∈l,k.i64:=by
 simp only [HasF] at h
 obtain ⟨rows,rfl,hl,hr⟩:=h
 obtain ⟨l,rfl,hi⟩:=yLS rows hr
 rw [yba] at hl
 exact ⟨l,rfl,hl,hi⟩
theorem yCl {x y:PV} (h:x.isAgg=false) (e:x.cells=[y]):x=y:=by
 cases x <;> first | (simp only [PV.cells,qAu,and_true] at e;exact e) | cases h
end Go.Pf.Vc
namespace Go.Pf.Vc
abbrev RS:Type:=Rat×Rat
def inS (s:RS) (p:Rat):Prop:=s.1≤p∧p<s.2
def memP (l:List RS) (p:Rat):Prop:=∃ s∈l,inS s p
def yeA:List RS→Prop
 | []=>True
 | s::r=>s.1<s.2∧(∀ t∈r,s.2<t.1)∧yeA r
theorem yc1 {p:Rat}:¬memP [] p:=fun ⟨s,h,_⟩=>by cases h
theorem ybx {s:RS} {r:List RS} {p:Rat}:memP (s::r) p↔inS s p∨memP r p:=by
 constructor
 ·rintro ⟨t,h,hp⟩
  rcases qAn.1 h with rfl | h
  ·exact .inl hp
  ·exact .inr ⟨t,h,hp⟩
 ·rintro (h | ⟨t,h,hp⟩)
  ·exact ⟨s,qAg,h⟩
  ·exact ⟨t,qAf _ h,hp⟩
theorem yCm {s:RS} {r:List RS} (h:yeA (s::r)) {p:Rat} (hp:memP (s::r) p):s.1≤p:=by
 obtain ⟨h1,h2,_⟩:=h
 rcases ybx.1 hp with h | ⟨t,h,hp,_⟩
 ·exact h.1
 ·have:=h2 t h
  grind
theorem yks {s:RS} {r:List RS} (h:yeA (s::r)) {p:Rat} (hp:memP r p):s.2<p:=by
 obtain ⟨t,ht,h1,_⟩:=hp
 have:=h.2.1 t ht
 grind
theorem yn6 {s:RS} {r:List RS} (h:yeA (s::r)):memP (s::r) s.1:=ybx.2 (.inl ⟨qB9,h.1⟩)
theorem yuG:∀ (a b:List RS),yeA a→yeA b→(∀ p,memP a p↔memP b p)→a=b
 | [],[],_,_,_=>rfl
 | [],t::b,_,hb,h=>(yc1 ((h t.1).2 (yn6 hb))).elim
 | s::a,[],ha,_,h=>(yc1 ((h s.1).1 (yn6 ha))).elim
 | s::a,t::b,ha,hb,h=>by
  have e1:s.1=t.1:=by
   have h1:=yCm hb ((h s.1).1 (yn6 ha))
   have h2:=yCm ha ((h t.1).2 (yn6 hb))
   grind
  have key:∀ (s t:RS) (a b:List RS),yeA (s::a)→yeA (t::b)→s.1=t.1→(∀ p,memP (s::a) p↔memP (t::b) p)→¬s.2<t.2:=by
   intro s t a b ha hb e h hlt
   have h1:=(h s.2).2 (ybx.2 (.inl ⟨by have:=ha.1;grind,hlt⟩))
   rcases ybx.1 h1 with h2 | h2
   ·have:=h2.2;grind
   ·have:=yks ha h2;grind
  have e2:s.2=t.2:=by
   have h1:=key s t a b ha hb e1 h
   have h2:=key t s b a hb ha e1.symm fun p=>(h p).symm
   grind
  have e:s=t:=Prod.ext e1 e2
  subst e
  have hab:a=b:=by
   refine yuG a b ha.2.2 hb.2.2 fun p=>⟨fun hp=>?_,fun hp=>?_⟩
   ·have h1:=yks ha hp
    rcases ybx.1 ((h p).1 (ybx.2 (.inr hp))) with h2 | h2
    ·have:=h2.2;grind
    ·exact h2
   ·have h1:=yks hb hp
    rcases ybx.1 ((h p).2 (ybx.2 (.inr hp))) with h2 | h2
    ·have:=h2.2;grind
    ·exact h2
  rw [hab]
end Go.Pf.Vc
namespace Go.Pf.Vc
def maxR (a b:Rat):Rat:=if a<b then b else a
def yzT:List RS→Prop
 | []=>True
 | s::r=>(∀ t∈r,s.1≤t.1)∧yzT r
end Go.Pf.Vc
namespace Go.Pf.Vc
def yuH:List Rat→Prop
 | []=>True
 | x::r=>(∀ y∈r,x<y)∧yuH r
def jn (f:Rat→Bool):List Rat→Option RS→List RS
 | x::y::r,none=>if f x then jn f (y::r) (some (x,y)) else jn f (y::r) none
 | x::y::r,some c=>if f x then (if c.2=x then jn f (y::r) (some (c.1,y)) else c::jn f (y::r) (some (x,y))) else jn f (y::r) (some c)
 | _,none=>[]
 | _,some c=>[c]
def segP (f:Rat→Bool):List Rat→Rat→Prop
 | x::y::r,p=>(f x=true∧x≤p∧p<y)∨segP f (y::r) p
 | _,_=>False
def curP:Option RS→Rat→Prop
 | none,_=>False
 | some c,p=>inS c p
def yPo (pts:List Rat):Option RS→Prop
 | none=>True
 | some c=>c.1<c.2∧∀ x∈pts,c.2≤x
def yPp (pts:List Rat):Option RS→Rat→Prop
 | none,q=>∃ x∈pts,x≤q
 | some c,q=>c.1≤q
theorem yCn (f:Rat→Bool):∀ (pts:List Rat) (cur:Option RS),yuH pts→yPo pts cur →
  yeA (jn f pts cur)∧(∀ t∈jn f pts cur,yPp pts cur t.1)∧∀ p,memP (jn f pts cur) p↔(curP cur p∨segP f pts p)
 | [],none,_,_=>by
  unfold jn
  refine ⟨trivial,fun t h=>(by cases h),fun p=>?_⟩
  simp only [curP,segP]
  exact ⟨fun h=>(yc1 h).elim,fun h=>h.elim (fun h=>h.elim) (fun h=>h.elim)⟩
 | [],some c,_,hc=>by
  unfold jn
  refine ⟨⟨hc.1,by simp,trivial⟩,fun t h=>?_,fun p=>?_⟩
  ·rw [qB4] at h;rw [h];exact qB9
  ·rw [ybx]
   simp only [curP,segP]
   exact ⟨fun h=>h.elim .inl (fun h=>(yc1 h).elim),fun h=>h.elim .inl (fun h=>h.elim)⟩
 | [x],none,_,_=>by
  unfold jn
  refine ⟨trivial,fun t h=>(by cases h),fun p=>?_⟩
  simp only [curP,segP]
  exact ⟨fun h=>(yc1 h).elim,fun h=>h.elim (fun h=>h.elim) (fun h=>h.elim)⟩
 | [x],some c,_,hc=>by
  unfold jn
  refine ⟨⟨hc.1,by simp,trivial⟩,fun t h=>?_,fun p=>?_⟩
  ·rw [qB4] at h;rw [h];exact qB9
  ·rw [ybx]
   simp only [curP,segP]
   exact ⟨fun h=>h.elim .inl (fun h=>(yc1 h).elim),fun h=>h.elim .inl (fun h=>h.elim)⟩
 | x::y::r,none,hi,_=>by
  have hxy:=hi.1 y qAg
  unfold jn
  cases hf:f x with
  | true =>
   rw [if_pos rfl]
   obtain ⟨i1,i2,i3⟩:=yCn f (y::r) (some (x,y)) hi.2 ⟨hxy,fun z hz=>by
    rcases qAn.1 hz with rfl | hz
    ·exact qB9
    ·have:=hi.2.1 z hz;show y≤z;grind⟩
   refine ⟨i1,fun t ht=>⟨x,qAg,i2 t ht⟩,fun p=>?_⟩
   rw [i3 p]
   simp only [curP,segP,inS,hf,true_and,false_or]
  | false =>
   rw [if_neg (by decide)]
   obtain ⟨i1,i2,i3⟩:=yCn f (y::r) none hi.2 trivial
   refine ⟨i1,fun t ht=>?_,fun p=>?_⟩
   ·obtain ⟨z,hz,hzt⟩:=i2 t ht
    exact ⟨z,qAf _ hz,hzt⟩
   ·rw [i3 p]
    simp [curP,segP,hf]
 | x::y::r,some c,hi,hc=>by
  have hxy:=hi.1 y qAg
  have hcx:=hc.2 x qAg
  have hyr:∀ z∈y::r,y≤z:=fun z hz=>by
   rcases qAn.1 hz with rfl | hz
   ·exact qB9
   ·have:=hi.2.1 z hz;grind
  unfold jn
  cases hf:f x with
  | true =>
   rw [if_pos rfl]
   by_cases he:c.2=x
   ·rw [if_pos he]
    obtain ⟨i1,i2,i3⟩:=yCn f (y::r) (some (c.1,y)) hi.2 ⟨by have:=hc.1;show c.1<y;grind,hyr⟩
    refine ⟨i1,i2,fun p=>?_⟩
    rw [i3 p]
    simp only [curP,segP,inS,hf,true_and]
    have:=hc.1
    constructor
    ·rintro (⟨h1,h2⟩ | h)
     ·by_cases h3:p<c.2
      ·exact .inl ⟨h1,h3⟩
      ·exact .inr (.inl ⟨by grind,h2⟩)
     ·exact .inr (.inr h)
    ·rintro (⟨h1,h2⟩ | ⟨h1,h2⟩ | h)
     ·exact .inl ⟨h1,by grind⟩
     ·exact .inl ⟨by grind,h2⟩
     ·exact .inr h
   ·rw [if_neg he]
    obtain ⟨i1,i2,i3⟩:=yCn f (y::r) (some (x,y)) hi.2 ⟨hxy,hyr⟩
    refine ⟨⟨hc.1,fun t ht=>?_,i1⟩,fun t ht=>?_,fun p=>?_⟩
    ·have:x≤t.1:=i2 t ht
     grind
    ·rcases qAn.1 ht with rfl | ht
     ·exact qB9
     ·have:x≤t.1:=i2 t ht
      have:=hc.1
      show c.1≤t.1
      grind
    ·rw [ybx,i3 p]
     simp only [curP,segP,inS,hf,true_and]
  | false =>
   rw [if_neg (by decide)]
   obtain ⟨i1,i2,i3⟩:=yCn f (y::r) (some c) hi.2 ⟨hc.1,fun z hz=>by have:=hyr z hz;grind⟩
   refine ⟨i1,i2,fun p=>?_⟩
   rw [i3 p]
   simp [curP,segP,hf]
end Go.Pf.Vc
namespace Go.Pf.Vc
def minR (a b:Rat):Rat:=if a<b then a else b
theorem yia (a b:Rat):a≤maxR a b∧b≤maxR a b∧(maxR a b=a∨maxR a b=b):=by unfold maxR;split <;> grind
theorem ykV (a b:Rat):minR a b≤a∧minR a b≤b∧(minR a b=a∨minR a b=b):=by unfold minR;split <;> grind
def yeB:List RS→List RS→List RS
 | s::a,t::b =>
  (if maxR s.1 t.1<minR s.2 t.2 then [(maxR s.1 t.1,minR s.2 t.2)] else [])++(if s.2≤t.2 then yeB a (t::b) else yeB (s::a) b)
 | _,_=>[]
termination_by a b=>a.length+b.length
def lowS:List RS→Rat→Prop
 | [],_=>False
 | s::_,q=>s.1≤q
theorem ywc {h:Rat}:∀ {a b:List RS},yeA a→yeA b→(∀ u∈a,u.2≤h)→(∀ v∈b,h<v.1)→yeA (a++b)
 | [],_,_,hb,_,_=>hb
 | s::a,b,ha,hb,h1,h2=>by
  refine ⟨ha.1,fun t ht=>?_,ywc ha.2.2 hb (fun u hu=>h1 u (qAf _ hu)) h2⟩
  rcases qAv.1 ht with ht | ht
  ·exact ha.2.1 t ht
  ·have:=h1 s qAg
   have:=h2 t ht
   grind
theorem yuI {a b:List RS} {p:Rat}:memP (a++b) p↔memP a p∨memP b p:=by
 constructor
 ·rintro ⟨s,h,hp⟩
  rcases qAv.1 h with h | h
  ·exact .inl ⟨s,h,hp⟩
  ·exact .inr ⟨s,h,hp⟩
 ·rintro (⟨s,h,hp⟩ | ⟨s,h,hp⟩)
  ·exact ⟨s,List.mem_append_left _ h,hp⟩
  ·exact ⟨s,List.mem_append_right _ h,hp⟩
theorem yxS {c:Prop} [Decidable c] {s:RS} {p:Rat}:memP (if c then [s] else []) p↔(c∧inS s p):=by
 by_cases h:c
 ·rw [if_pos h,ybx]
  exact ⟨fun k=>k.elim (fun k=>⟨h,k⟩) (fun k=>(yc1 k).elim),fun k=>.inl k.2⟩
 ·rw [if_neg h]
  exact ⟨fun k=>(yc1 k).elim,fun k=>(h k.1).elim⟩
end Go.Pf.Vc
namespace Go.Pf.Vc
theorem yzU:∀ (n:Nat) (a b:List RS),a.length+b.length≤n→yeA a→yeA b→yeA (yeB a b)∧(∀ u∈yeB a b,lowS a u.1∧lowS b u.1)∧∀ p,memP (yeB a b) p↔(memP a p∧memP b p)
 | _,[],b,_,_,_=>by
  unfold yeB
  exact ⟨trivial,by simp,fun p=>⟨fun k=>(yc1 k).elim,fun k=>(yc1 k.1).elim⟩⟩
 | _,s::a,[],_,_,_=>by
  unfold yeB
  exact ⟨trivial,by simp,fun p=>⟨fun k=>(yc1 k).elim,fun k=>(yc1 k.2).elim⟩⟩
 | 0,s::a,t::b,h,_,_=>by simp at h
 | n+1,s::a,t::b,hn,ha,hb=>by
  rw [qAm,qAm] at hn
  obtain ⟨x1,x2,x3⟩:=yia s.1 t.1
  obtain ⟨y1,y2,y3⟩:=ykV s.2 t.2
  have hs:=ha.1
  have ht:=hb.1
  unfold yeB
  have hin:∀ p,(maxR s.1 t.1<minR s.2 t.2∧inS (maxR s.1 t.1,minR s.2 t.2) p)↔(inS s p∧inS t p):=by
   intro p
   unfold inS
   constructor
   ·rintro ⟨_,h1,h2⟩
    have h1:maxR s.1 t.1≤p:=h1
    have h2:p<minR s.2 t.2:=h2
    exact ⟨⟨by grind,by grind⟩,⟨by grind,by grind⟩⟩
   ·rintro ⟨⟨h1,h2⟩,⟨h3,h4⟩⟩
    have k1:maxR s.1 t.1≤p:=by rcases x3 with e | e <;> rw [e] <;> assumption
    have k2:p<minR s.2 t.2:=by rcases y3 with e | e <;> rw [e] <;> assumption
    exact ⟨by grind,k1,k2⟩
  have hfst:yeA (if maxR s.1 t.1<minR s.2 t.2 then [(maxR s.1 t.1,minR s.2 t.2)] else []):=by
   by_cases h:maxR s.1 t.1<minR s.2 t.2
   ·rw [if_pos h];exact ⟨h,by simp,trivial⟩
   ·rw [if_neg h];trivial
  have hfm:∀ u∈(if maxR s.1 t.1<minR s.2 t.2 then [(maxR s.1 t.1,minR s.2 t.2)] else []:List RS),u.1=maxR s.1 t.1∧u.2=minR s.2 t.2:=by
   intro u hu
   by_cases h:maxR s.1 t.1<minR s.2 t.2
   ·rw [if_pos h,qB4] at hu;rw [hu];exact ⟨rfl,rfl⟩
   ·rw [if_neg h] at hu;cases hu
  by_cases hle:s.2≤t.2
  ·rw [if_pos hle]
   obtain ⟨i1,i2,i3⟩:=yzU n a (t::b) (by rw [qAm];omega) ha.2.2 hb
   have hlow:∀ v∈yeB a (t::b),s.2<v.1:=by
    intro v hv
    obtain ⟨h1,_⟩:=i2 v hv
    cases a with
    | nil=>exact h1.elim
    | cons s2 a2 =>
     have h2:=ha.2.1 s2 qAg
     have h3:s2.1≤v.1:=h1
     grind
   refine ⟨ywc (h:=s.2) hfst i1 (fun u hu=>by have:=(hfm u hu).2;grind) hlow,fun u hu=>?_,fun p=>?_⟩
   ·rcases qAv.1 hu with hu | hu
    ·have:=(hfm u hu).1
     exact ⟨by show s.1≤u.1;grind,by show t.1≤u.1;grind⟩
    ·have h1:=hlow u hu
     have h2:t.1≤u.1:=(i2 u hu).2
     exact ⟨by show s.1≤u.1;grind,h2⟩
   ·rw [yuI,yxS,hin p,i3 p,ybx,ybx]
    constructor
    ·rintro (⟨h1,h2⟩ | ⟨h1,h2⟩)
     ·exact ⟨.inl h1,.inl h2⟩
     ·exact ⟨.inr h1,h2⟩
    ·rintro ⟨h1 | h1,h2⟩
     ·rcases h2 with h2 | h2
      ·exact .inl ⟨h1,h2⟩
      ·have:=yks hb h2
       have:=h1.2
       grind
     ·exact .inr ⟨h1,h2⟩
  ·rw [if_neg hle]
   obtain ⟨i1,i2,i3⟩:=yzU n (s::a) b (by rw [qAm];omega) ha hb.2.2
   have hlow:∀ v∈yeB (s::a) b,t.2<v.1:=by
    intro v hv
    obtain ⟨_,h1⟩:=i2 v hv
    cases b with
    | nil=>exact h1.elim
    | cons s2 a2 =>
     have h2:=hb.2.1 s2 qAg
     have h3:s2.1≤v.1:=h1
     grind
   refine ⟨ywc (h:=t.2) hfst i1 (fun u hu=>by have:=(hfm u hu).2;grind) hlow,fun u hu=>?_,fun p=>?_⟩
   ·rcases qAv.1 hu with hu | hu
    ·have:=(hfm u hu).1
     exact ⟨by show s.1≤u.1;grind,by show t.1≤u.1;grind⟩
    ·have h1:=hlow u hu
     have h2:s.1≤u.1:=(i2 u hu).1
     exact ⟨h2,by show t.1≤u.1;grind⟩
   ·rw [yuI,yxS,hin p,i3 p,ybx,ybx]
    constructor
    ·rintro (⟨h1,h2⟩ | ⟨h1,h2⟩)
     ·exact ⟨.inl h1,.inl h2⟩
     ·exact ⟨h1,.inr h2⟩
    ·rintro ⟨h1,h2 | h2⟩
     ·rcases h1 with h1 | h1
      ·exact .inl ⟨h1,h2⟩
      ·have:=yks ha h1
       have:=h2.2
       grind
     ·exact .inr ⟨h1,h2⟩
end Go.Pf.Vc
namespace Go.Pf.Vc
def yLT (full:List Rat):List Rat→Prop
 | x::y::r=>(∀ z∈full,z≤x∨y≤z)∧yLT full (y::r)
 | _=>True
theorem yLU (full:List Rat):∀ (pts:List Rat),yuH pts→(∀ z∈full,z∈pts∨∀ w∈pts,z<w)→yLT full pts
 | [],_,_=>trivial
 | [_],_,_=>trivial
 | x::y::r,hi,h=>by
  refine ⟨fun z hz=>?_,yLU full (y::r) hi.2 fun z hz=>?_⟩
  ·rcases h z hz with k | k
   ·rcases qAn.1 k with rfl | k
    ·exact .inl qB9
    ·rcases qAn.1 k with rfl | k
     ·exact .inr qB9
     ·have:=hi.2.1 z k
      exact .inr (by grind)
   ·have:=k x qAg
    exact .inl (by grind)
  ·rcases h z hz with k | k
   ·rcases qAn.1 k with rfl | k
    ·exact .inr fun w hw=>hi.1 w hw
    ·exact .inl k
   ·exact .inr fun w hw=>k w (qAf _ hw)
def yzV (pts:List Rat) (a:List RS):Prop:=∀ s∈a,s.1∈pts∧s.2∈pts
theorem yCo {full:List Rat} {a:List RS} (h:yzV full a) {x y p:Rat} (hg:∀ z∈full,z≤x∨y≤z) (h1:x≤p) (h2:p<y):memP a p↔memP a x:=by
 constructor
 ·rintro ⟨s,hs,k1,k2⟩
  obtain ⟨e1,e2⟩:=h s hs
  have:=hg _ e1
  exact ⟨s,hs,by grind,by grind⟩
 ·rintro ⟨s,hs,k1,k2⟩
  obtain ⟨e1,e2⟩:=h s hs
  have:=hg _ e2
  exact ⟨s,hs,by grind,by grind⟩
def yIe (pts:List Rat) (p:Rat):Prop:=(∃ x∈pts,x≤p)∧∃ y∈pts,p<y
theorem yJj {pts:List Rat} {a:List RS} (h:yzV pts a) {p:Rat} (hp:memP a p):yIe pts p:=by
 obtain ⟨s,hs,k1,k2⟩:=hp
 obtain ⟨e1,e2⟩:=h s hs
 exact ⟨⟨_,e1,k1⟩,⟨_,e2,k2⟩⟩
theorem yJk {full:List Rat} {f:Rat→Bool} {P:Rat→Prop} (hc:∀ x y p,(∀ z∈full,z≤x∨y≤z)→x≤p→p<y→(P p↔P x)):∀ (pts:List Rat),yuH pts→yLT full pts→(∀ x∈pts,f x=true↔P x)→∀ p,segP f pts p↔(P p∧yIe pts p)
 | [],_,_,_,p=>by
  simp only [segP]
  exact ⟨fun h=>h.elim,fun h=>by obtain ⟨x,hx,_⟩:=h.2.1;cases hx⟩
 | [x],_,_,_,p=>by
  simp only [segP]
  refine ⟨fun h=>h.elim,fun h=>?_⟩
  obtain ⟨u,hu,k1⟩:=h.2.1
  obtain ⟨v,hv,k2⟩:=h.2.2
  rw [qB4] at hu hv
  grind
 | x::y::r,hi,hg,hf,p=>by
  have ih:=yJk hc (y::r) hi.2 hg.2 (fun z hz=>hf z (qAf _ hz)) p
  have hxy:=hi.1 y qAg
  simp only [segP]
  rw [ih,hf x qAg]
  constructor
  ·rintro (⟨h1,h2,h3⟩ | ⟨h1,⟨u,hu,k1⟩,⟨v,hv,k2⟩⟩)
   ·exact ⟨(hc x y p hg.1 h2 h3).2 h1,⟨x,qAg,h2⟩,⟨y,qAf _ qAg,h3⟩⟩
   ·exact ⟨h1,⟨u,qAf _ hu,k1⟩,⟨v,qAf _ hv,k2⟩⟩
  ·rintro ⟨h1,⟨u,hu,k1⟩,⟨v,hv,k2⟩⟩
   have hxp:x≤p:=by
    rcases qAn.1 hu with rfl | hu
    ·exact k1
    ·have:=hi.1 u hu;grind
   by_cases hpy:p<y
   ·exact .inl ⟨(hc x y p hg.1 hxp hpy).1 h1,hxp,hpy⟩
   ·refine .inr ⟨h1,⟨y,qAg,by grind⟩,?_⟩
    rcases qAn.1 hv with rfl | hv
    ·exact absurd k2 (by grind)
    ·exact ⟨v,hv,k2⟩
theorem yOR {pts:List Rat} {f:Rat→Bool} {P:Rat→Prop} (hi:yuH pts) (hc:∀ x y p,(∀ z∈pts,z≤x∨y≤z)→x≤p→p<y→(P p↔P x)) (hf:∀ x∈pts,f x=true↔P x) (hh:∀ p,P p→yIe pts p) :
  yeA (jn f pts none)∧∀ p,memP (jn f pts none) p↔P p:=by
 obtain ⟨i1,_,i3⟩:=yCn f pts none hi trivial
 refine ⟨i1,fun p=>?_⟩
 rw [i3 p,yJk hc pts hi (yLU pts pts hi fun z hz=>.inl hz) hf p]
 simp only [curP,false_or]
 exact ⟨fun h=>h.1,fun h=>⟨h,hh p h⟩⟩
end Go.Pf.Vc
namespace Go.Pf.Vc
def insR (p:Rat):List Rat→List Rat
 | []=>[p]
 | x::r=>if p=x then x::r else if p<x then p::x::r else x::insR p r
theorem ykt {p z:Rat}:∀ (l:List Rat),z∈insR p l↔(z=p∨z∈l)
 | []=>by unfold insR;simp
 | x::r=>by
  unfold insR
  by_cases h:p=x
  ·rw [if_pos h]
   subst h
   simp
  ·rw [if_neg h]
   by_cases h2:p<x
   ·rw [if_pos h2];simp
   ·rw [if_neg h2,qAn,ykt r,qAn]
    constructor
    ·rintro (h | h | h)
     ·exact .inr (.inl h)
     ·exact .inl h
     ·exact .inr (.inr h)
    ·rintro (h | h | h)
     ·exact .inr (.inl h)
     ·exact .inl h
     ·exact .inr (.inr h)
theorem ywd {p:Rat}:∀ (l:List Rat),yuH l→yuH (insR p l)
 | [],_=>⟨by simp,trivial⟩
 | x::r,h=>by
  unfold insR
  by_cases h1:p=x
  ·rw [if_pos h1];exact h
  ·rw [if_neg h1]
   by_cases h2:p<x
   ·rw [if_pos h2]
    refine ⟨fun y hy=>?_,h⟩
    rcases qAn.1 hy with rfl | hy
    ·exact h2
    ·have:=h.1 y hy;grind
   ·rw [if_neg h2]
    refine ⟨fun y hy=>?_,ywd r h.2⟩
    rcases (ykt r).1 hy with rfl | hy
    ·grind
    ·exact h.1 y hy
def yku:List RS→List Rat→List Rat
 | [],out=>out
 | s::a,out=>yku a (insR s.2 (insR s.1 out))
theorem ysY:∀ (a:List RS) (out:List Rat),yuH out→yuH (yku a out)
 | [],_,h=>h
 | _::a,_,h=>ysY a _ (ywd _ (ywd _ h))
theorem ykv:∀ (a:List RS) (out:List Rat) (z:Rat),z∈out→z∈yku a out
 | [],_,_,h=>h
 | _::a,_,z,h=>ykv a _ z ((ykt _).2 (.inr ((ykt _).2 (.inr h))))
theorem yqO:∀ (a:List RS) (out:List Rat),yzV (yku a out) a
 | [],_=>fun s h=>by cases h
 | t::a,out=>by
  intro s hs
  rcases qAn.1 hs with rfl | hs
  ·exact ⟨ykv a _ _ ((ykt _).2 (.inr ((ykt _).2 (.inl rfl)))),ykv a _ _ ((ykt _).2 (.inl rfl))⟩
  ·exact yqO a _ s hs
def yGd (f:Rat→Bool) (a b:List RS):List RS:=jn f (yku b (yku a [])) none
theorem yGe {a b:List RS} {f:Rat→Bool} {c:Prop→Prop→Prop} (hf:∀ x,f x=true↔c (memP a x) (memP b x)) (h0:¬c False False) :
  yeA (yGd f a b)∧∀ p,memP (yGd f a b) p↔c (memP a p) (memP b p):=by
 have ea:yzV (yku b (yku a [])) a:=fun s hs=>⟨ykv b _ _ (yqO a [] s hs).1,ykv b _ _ (yqO a [] s hs).2⟩
 have eb:yzV (yku b (yku a [])) b:=yqO b _
 refine yOR (ysY b _ (ysY a _ trivial)) (fun x y p hg h1 h2=>?_) (fun x _=>hf x) (fun p hp=>?_)
 ·rw [yCo ea hg h1 h2,yCo eb hg h1 h2]
 ·by_cases h1:memP a p
  ·exact yJj ea h1
  ·by_cases h2:memP b p
   ·exact yJj eb h2
   ·rw [eq_false h1,eq_false h2] at hp
    exact (h0 hp).elim
theorem yKn {a b:List RS} (ha:yeA a) (hb:yeA b) {f:Rat→Bool} (hf:∀ x,f x=true↔(memP a x∧memP b x)):yeB a b=yGd f a b:=by
 obtain ⟨i1,_,i2⟩:=yzU _ a b (qAl _) ha hb
 obtain ⟨j1,j2⟩:=yGe (c:=And) hf (by simp)
 exact yuG _ _ i1 j1 fun p=>by rw [i2 p,j2 p]
end Go.Pf.Vc
namespace Go.Pf.Vc
open Go Go.Pf
def Sp.rs (s:Sp):RS:=(rt s.a s.b,rt s.c s.d)
def Sp.ok (s:Sp):Prop:=RV s.a s.b∧RV s.c s.d∧rt s.a s.b<rt s.c s.d
instance (s:Sp):Decidable s.ok:=by unfold Sp.ok;infer_instance
def Sp.i64 (s:Sp):Prop:=I64 s.a∧I64 s.b∧I64 s.c∧I64 s.d
theorem ykw {q r:Rat} (hq:small q) (hr:small r) (K:Int→Prop):yaB q.num q.den r.num r.den K=K (cmpQ q r):=by
 unfold yaB yjX
 rw [yxR hq hr]
theorem yLV {a b c d:Int} (h:RV a b) (k:RV c d) (K:Int→Prop):yaB a b c d K=K (cmpQ (rt a b) (rt c d)):=by
 obtain ⟨h1,h2,h3⟩:=yiU h
 obtain ⟨k1,k2,k3⟩:=yiU k
 have:=ykw h1 k1 K
 rw [h2,h3,k2,k3] at this
 exact this
theorem yuJ (q r:Rat):decide (cmpQ q r<0)=decide (q<r):=by
 unfold cmpQ
 by_cases h:q<r
 ·rw [if_pos h];simp [h]
 ·rw [if_neg h]
  split <;> simp [h]
theorem yEn (q r:Rat):decide (cmpQ q r≤0)=!decide (r<q):=by
 unfold cmpQ
 by_cases h:q<r
 ·have:¬r<q:=by grind
  rw [if_pos h];simp [this]
 ·rw [if_neg h]
  by_cases h2:r<q
  ·rw [if_pos h2];simp [h2]
  ·rw [if_neg h2];simp [h2]
theorem yGf {s:Sp} (h:s.i64) (K:Bool→Prop):ybo s.a s.b s.c s.d K=K (decide s.ok):=by
 refine yw7 _ _ _ _ _ (fun K k=>?_) K
 unfold ybo yjV
 refine yLA h.1 h.2.1 h.2.2.1 h.2.2.2 ?_
 by_cases h1:RV s.a s.b
 ·by_cases h2:RV s.c s.d
  ·have e:chk2 s.a s.b s.c s.d=0:=ydc.2 ⟨h1,h2⟩
   obtain ⟨_,n1,n2⟩:=yiU h1
   obtain ⟨_,n3,n4⟩:=yiU h2
   have e2:=yJa (rt s.a s.b) (rt s.c s.d)
   rw [n1,n2,n3,n4] at e2
   rw [e,if_pos rfl,ceT rfl,e2,yuJ]
   have e3:decide s.ok=decide (rt s.a s.b<rt s.c s.d):=by rw [decide_eq_decide];exact ⟨fun k=>k.2.2,fun k=>⟨h1,h2,k⟩⟩
   rw [← e3];exact k
  ·have e:chk2 s.a s.b s.c s.d≠0:=fun e=>h2 (ydc.1 e).2
   rw [ceF e]
   have e3:decide s.ok=false:=decide_eq_false fun k=>h2 k.2.1
   rw [← e3];exact k
 ·have e:chk2 s.a s.b s.c s.d≠0:=fun e=>h1 (ydc.1 e).1
  rw [ceF e]
  have e3:decide s.ok=false:=decide_eq_false fun k=>h1 k.1
  rw [← e3];exact k
end Go.Pf.Vc
namespace Go.Pf.Vc
open Go Go.Pf
theorem asSp {s:Sp} {P:Prop}:asr (conf z4 (encS s)) P=P:=rfl
def ykx (l:List Sp):Bool:=l.all fun s=>decide s.ok
theorem yLW {l:List Sp} (h64:∀ s∈l,s.i64) (hl:l.length<4611686018427387904) :
  ∀ x0 x1,∀ (r i n:Nat),i+r=l.length→r<n→ydZ ybo x0 x1 n (ycn l) l.length i=if ykx (l.drop i) then x1 (ycn l) l.length l.length false else x0 8:=by
 intro x0 x1 r
 induction r with
 | zero =>
  intro i n hi hn
  obtain ⟨n,rfl⟩:∃ m,n=m+1:=⟨n-1,by omega⟩
  obtain rfl:i=l.length:=by omega
  rw [ydZ,cbF (by omega),qB1]
  rfl
 | succ r ih =>
  intro i n hi hn
  obtain ⟨n,rfl⟩:∃ m,n=m+1:=⟨n-1,by omega⟩
  have hil:i<l.length:=by omega
  have e1:=wib (n:=(i:Int)+1) (by omega) (by omega)
  have hm:l.getD i default∈l:=by
   rw [qAd,qAa hil]
   exact qBj hil
  have hd:ykx (l.drop i)=(decide (l.getD i default).ok&&ykx (l.drop (i+1))):=by
   rw [ybi default hil];rfl
  rw [ydZ,cbT (by omega),asT (by omega),yd6,asT (by omega),qAe,ymr hil,asSp,e1,ybM]
  change ybo (l.getD i default).a (l.getD i default).b (l.getD i default).c (l.getD i default).d _=_
  rw [yGf (h64 _ hm),hd]
  cases hv:decide (l.getD i default).ok with
  | true =>
   rw [show (!true)=false from rfl,yab,qAy]
   exact ih (i+1) n (by omega) (by omega)
  | false =>
   rw [show (!false)=true from rfl,yag,qBc]
   rfl
def allE (l:List Sp):Int:=if l.length>60 then 4 else if ykx l then 0 else 8
theorem yOS {l:List Sp} (h64:∀ s∈l,s.i64) (hl:l.length<4611686018427387904) (K:Int→Prop):yeb (ycn l) K=K (allE l):=by
 refine yA6 _ _ (fun K k=>?_) K
 unfold yeb ynq
 unfold allE at k
 rw [yd6]
 by_cases h:l.length>60
 ·rw [cbT (by omega)];rw [if_pos h] at k;exact k
 ·rw [cbF (by omega)]
  rw [if_neg h] at k
  refine ⟨l.length+1,?_⟩
  refine (yLW h64 hl _ _ l.length 0 (l.length+1) (by omega) (by omega)).mpr ?_
  rw [qAt]
  split
  ·rename_i h2;rw [if_pos h2] at k;exact k
  ·rename_i h2;rw [if_neg h2] at k;exact k
end Go.Pf.Vc
namespace Go.Pf.Vc
open Go Go.Pf
def gapB:Sp→List Sp→Bool
 | _,[]=>true
 | s,t::r=>decide (s.rs.2<t.rs.1)&&gapB t r
theorem yIf {l:List Sp} (hok:∀ s∈l,s.ok) (hl:l.length<4611686018427387904) :
  ∀ x0 x1,∀ (r i n:Nat),i+1+r=l.length→r<n→ycE yeb yaB x0 x1 n (ycn l) ((i+1:Nat):Int)=if gapB (l.getD i default) (l.drop (i+1)) then x1 (ycn l) l.length false else x0 8:=by
 intro x0 x1 r
 induction r with
 | zero =>
  intro i n hi hn
  obtain ⟨n,rfl⟩:∃ m,n=m+1:=⟨n-1,by omega⟩
  rw [ycE,yd6,cbF (by omega),qBx (by omega),show i+1=l.length by omega]
  rfl
 | succ r ih =>
  intro i n hi hn
  obtain ⟨n,rfl⟩:∃ m,n=m+1:=⟨n-1,by omega⟩
  have e0:=wib (n:=((i+1:Nat):Int)-1) (by omega) (by omega)
  have e2:((i+1:Nat):Int)-1=(i:Int):=by omega
  have e1:=wib (n:=((i+1:Nat):Int)+1) (by omega) (by omega)
  have hm1:l.getD i default∈l:=by
   rw [qAd,qAa (by omega)]
   exact qBj (by omega)
  have hm2:l.getD (i+1) default∈l:=by
   rw [qAd,qAa (by omega)]
   exact qBj (by omega)
  rw [ycE,yd6,cbT (by omega),e0,e2,asT (by omega),asT (by omega),qAe,ymr (by omega),asSp,asT (by omega),asT (by omega),qAe,ymr (by omega),asSp]
  change yaB (l.getD i default).c (l.getD i default).d (l.getD (i+1) default).a (l.getD (i+1) default).b _=_
  rw [yLV (hok _ hm1).2.1 (hok _ hm2).1,e1,ybM,ybi default (by omega)]
  unfold gapB
  have e3:decide (cmpQ (rt (l.getD i default).c (l.getD i default).d) (rt (l.getD (i+1) default).a (l.getD (i+1) default).b)≥0)=!decide ((l.getD i default).rs.2<(l.getD (i+1) default).rs.1):=yNr _ _
  rw [e3]
  cases decide ((l.getD i default).rs.2<(l.getD (i+1) default).rs.1) with
  | true =>
   rw [show (!true)=false from rfl,yab,qAy]
   exact ih (i+1) n (by omega) (by omega)
  | false =>
   rw [show (!false)=true from rfl,yag,qBc]
   rfl
def rsL (l:List Sp):List RS:=l.map Sp.rs
def yeY (l:List Sp):Int:=if allE l=0 then (match l with | []=>0 | s::r=>if gapB s r then 0 else 8) else allE l
theorem yCp {l:List Sp} (h:allE l=0):l.length≤60∧∀ s∈l,s.ok:=by
 unfold allE at h
 split at h
 ·cases h
 ·split at h
  ·rename_i h1 h2
   exact ⟨by omega,fun s hs=>by simpa using qB7.1 h2 s hs⟩
  ·cases h
theorem ywe {l:List Sp} (h64:∀ s∈l,s.i64) (hl:l.length<4611686018427387904) (K:Int→Prop):yaL (ycn l) K=K (yeY l):=by
 refine yw8 _ _ (fun K k=>?_) K
 unfold yaL yjY
 unfold yeY at k
 rw [yOS h64 hl]
 by_cases h:allE l=0
 ·rw [if_pos h] at k
  rw [cnF h]
  obtain ⟨h1,h2⟩:=yCp h
  cases l with
  | nil =>
   refine ⟨1,?_⟩
   rw [ycE,yd6,cbF (by simp)]
   exact k
  | cons s r =>
   refine ⟨r.length+1,?_⟩
   refine (yIf h2 hl _ _ r.length 0 (r.length+1) (by simp;omega) (by omega)).mpr ?_
   dsimp only at k
   show if gapB s r then _ else _
   split
   ·rename_i hg;rw [if_pos hg] at k;exact k
   ·rename_i hg;rw [if_neg hg] at k;exact k
 ·rw [if_neg h] at k
  rw [cnT h];exact k
end Go.Pf.Vc
namespace Go.Pf.Vc
open Go Go.Pf
theorem ywf:∀ (r:List Sp) (s:Sp),s.ok→(∀ t∈r,t.ok)→(gapB s r=true↔yeA (rsL (s::r)))
 | [],s,hs,_=>⟨fun _=>⟨hs.2.2,by simp,trivial⟩,fun _=>rfl⟩
 | t::r,s,hs,h=>by
  have ht:=h t qAg
  have ih:=ywf r t ht fun u hu=>h u (qAf _ hu)
  unfold gapB
  rw [qAb,decide_eq_true_eq,ih]
  constructor
  ·rintro ⟨h1,h2⟩
   refine ⟨hs.2.2,fun u hu=>?_,h2⟩
   rcases qAn.1 hu with rfl | hu
   ·exact h1
   ·have:=h2.2.1 u hu
    have:=h2.1
    show s.rs.2<u.1
    grind
  ·rintro ⟨_,h2,h3⟩
   exact ⟨h2 _ qAg,h3⟩
theorem yiA {l:List Sp} (h:yeY l=0):l.length≤60∧(∀ s∈l,s.ok)∧yeA (rsL l):=by
 unfold yeY at h
 split at h
 ·rename_i h0
  obtain ⟨h1,h2⟩:=yCp h0
  refine ⟨h1,h2,?_⟩
  cases l with
  | nil=>trivial
  | cons s r =>
   dsimp only at h
   split at h
   ·rename_i hg
    exact (ywf r s (h2 s qAg) fun t ht=>h2 t (qAf _ ht)).1 hg
   ·cases h
 ·rename_i h0;exact absurd h h0
end Go.Pf.Vc
namespace Go.Pf.Vc
open Go Go.Pf
theorem yCq {q r:Rat} (hq:small q) (hr:small r):small (maxR q r):=by unfold maxR;split <;> assumption
theorem yCr {q r:Rat} (hq:small q) (hr:small r):small (minR q r):=by unfold minR;split <;> assumption
theorem yGg {q r:Rat} (hq:small q) (hr:small r) (K:Int→Int→Prop):ydA q.num q.den r.num r.den K=K (maxR q r).num (maxR q r).den:=by
 unfold ydA yj2
 rw [ykw hq hr,yuJ]
 unfold maxR
 by_cases h:q<r
 ·rw [cbT h,if_pos h]
 ·rw [cbF h,if_neg h]
theorem yCs {q r:Rat} (hq:small q) (hr:small r) (K:Int→Int→Prop):yc0 q.num q.den r.num r.den K=K (minR q r).num (minR q r).den:=by
 unfold yc0 yiI
 rw [ykw hq hr,yuJ]
 unfold minR
 by_cases h:q<r
 ·rw [cbT h,if_pos h]
 ·rw [cbF h,if_neg h]
theorem yOT {l:List Sp} (K:List PV→Int→Prop):ydB (ycn l) K=if l.length>60 then K [] 4 else K (ycn l) 0:=by
 unfold ydB yns
 rw [yd6]
 by_cases h:l.length>60
 ·rw [cbT (by omega),if_pos h]
 ·rw [cbF (by omega),if_neg h]
def yqg (a b:List Sp):Int:=if yeY a=0 then yeY b else yeY a
theorem yNs {a b:List Sp} (ha:∀ s∈a,s.i64) (hb:∀ s∈b,s.i64) (hla:a.length<4611686018427387904) (hlb:b.length<4611686018427387904) (K:Int→Prop):yec (ycn a) (ycn b) K=K (yqg a b):=by
 unfold yec ylg yqg
 rw [ywe ha hla]
 by_cases h:yeY a=0
 ·rw [cnF h,if_pos h,ywe hb hlb]
 ·rw [cnT h,if_neg h]
end Go.Pf.Vc
namespace Go.Pf.Vc
open Go Go.Pf Go.Sort
theorem yxT {n d:Int}:rvB n d=true↔RV n d:=by
 unfold rvB RV
 simp only [qAb,decide_eq_true_eq]
theorem yNt {a b c d:Int} (h:RV a b) (k:RV c d):cmpI a b c d<0↔rt a b<rt c d:=by
 obtain ⟨_,h2,h3⟩:=yiU h
 obtain ⟨_,k2,k3⟩:=yiU k
 rw [Rat.lt_iff,h2,h3,k2,k3]
 unfold cmpI
 by_cases h:a*d<c*b
 ·rw [if_pos h];simp [h]
 ·rw [if_neg h]
  split <;> simp [h]
def yLX:PV→Rat
 | .agg (.int _ a::.int _ b::_)=>rt a b
 | _=>0
theorem yuK {x y:PV} (hx:ysn x=true) (hy:ysn y=true):yoq x y<0↔yLX x<yLX y:=by
 unfold ysn at hx hy
 split at hx
 ·split at hy
  ·simp only [yoq,yLX]
   exact yNt (yxT.1 hx) (yxT.1 hy)
  ·cases hy
 ·cases hx
theorem ykW {n g:Nat} (x:(ykL n g).s.El):ysn x.1=true:=by
 have:=x.2
 simp only [Srt.gd,qAb] at this
 exact this.2
theorem yIg (n g:Nat):SWO (fun x y:(ykL n g).s.El=>decide ((ykL n g).cf x y<0)) where
 irrefl x:=by
  have:=yuK (ykW x) (ykW x)
  show decide (yoq x.1 x.1<0)=false
  rw [decide_eq_false_iff_not,this]
  exact Rat.lt_irrefl
 trans x y z h1 h2:=by
  have h1:decide (yoq x.1 y.1<0)=true:=h1
  have h2:decide (yoq y.1 z.1<0)=true:=h2
  show decide (yoq x.1 z.1<0)=true
  rw [decide_eq_true_eq,yuK (ykW _) (ykW _)] at *
  grind
 ntrans x y z h1 h2:=by
  have h1:decide (yoq x.1 y.1<0)=false:=h1
  have h2:decide (yoq y.1 z.1<0)=false:=h2
  show decide (yoq x.1 z.1<0)=false
  rw [decide_eq_false_iff_not,yuK (ykW _) (ykW _)] at *
  grind
theorem ywg {s:Srt}:∀ {l:List PV},(∀ x∈l,s.gd x=true)→∃ d,s.rows? l=some d
 | [],_=>⟨[],rfl⟩
 | x::r,h=>by
  obtain ⟨d,hd⟩:=ywg (s:=s) (l:=r) fun y hy=>h y (qAf _ hy)
  refine ⟨⟨x,h x qAg⟩::d,?_⟩
  simp only [Srt.rows?]
  rw [dif_pos (h x qAg),hd]
theorem RV.i1 {n d:Int} (h:RV n d):I64 n:=by obtain ⟨h1,h2,h3,h4,_⟩:=h;exact ⟨by omega,by omega⟩
theorem RV.i2 {n d:Int} (h:RV n d):I64 d:=by obtain ⟨h1,h2,h3,h4,_⟩:=h;exact ⟨by omega,by omega⟩
theorem Sp.ok.i64 {s:Sp} (h:s.ok):s.i64:=⟨h.1.i1,h.1.i2,h.2.1.i1,h.2.1.i2⟩
theorem yLY (n g:Nat) {s:Sp} (h:s.ok):(ykL n g).s.gd (encS s)=true:=by
 obtain ⟨h1,h2,h3,h4⟩:=h.i64
 have e1:IntKind.i64.min=-9223372036854775808:=by decide
 have e2:IntKind.i64.max=9223372036854775807:=by decide
 simp only [Srt.gd,ykL,okI,encS,okL,ysn,qAb,decide_eq_true_eq,e1,e2]
 unfold I64 at h1 h2 h3 h4
 exact ⟨⟨trivial,h1.1,h1.2,trivial,h2.1,h2.2,trivial,h3.1,h3.2,trivial,h4.1,h4.2,trivial⟩,yxT.2 h.1⟩
def decS:PV→Sp
 | .agg [.int _ a,.int _ b,.int _ c,.int _ d]=>⟨a,b,c,d⟩
 | _=>default
theorem yGh (s:Sp):decS (encS s)=s:=rfl
theorem yKo (n g:Nat) {l:List Sp} (h:∀ s∈l,s.ok):∃ l':List Sp,l'.Perm l∧l'.Pairwise (fun s t=>¬t.rs.1<s.rs.1)∧Srt.sorted (ykL n g).s (ykL n g).srt (ycn l)=ycn l':=by
 obtain ⟨d,hd⟩:=ywg (s:=(ykL n g).s) (l:=ycn l) fun x hx=>by
  obtain ⟨s,hs,rfl⟩:=qA2.1 hx
  exact yLY n g (h s hs)
 obtain ⟨d',h1,h2,h3⟩:=(ykL n g).sorted_is (yIg n g) hd
 have hv:=Srt.rows?_val hd
 have hp:(d'.map (·.1)).Perm (ycn l):=by rw [← hv];exact h1.map _
 have hm:∀ x∈d'.map (·.1),∃ s∈l,encS s=x:=fun x hx=>qA2.1 (hp.mem_iff.1 hx)
 refine ⟨(d'.map (·.1)).map decS,?_,?_,?_⟩
 ·have this:(List.map decS (d'.map (·.1))).Perm (List.map decS (l.map encS)):=hp.map decS
  have e:List.map decS (l.map encS)=l:=by rw [List.map_map,show decS ∘ encS=id from funext yGh,List.map_id]
  rw [e] at this
  exact this
 ·rw [List.map_map,List.pairwise_map]
  refine h2.imp_of_mem fun {x y} hx hy hxy=>?_
  have hxy:¬yoq y.1 x.1<0:=hxy
  rw [yuK (ykW _) (ykW _)] at hxy
  obtain ⟨s,_,es⟩:=hm x.1 (List.mem_map_of_mem hx)
  obtain ⟨t,_,et⟩:=hm y.1 (List.mem_map_of_mem hy)
  show ¬(decS y.1).rs.1<(decS x.1).rs.1
  rw [← es,← et] at hxy ⊢
  exact hxy
 ·rw [h3]
  have key:∀ (xs:List PV),(∀ x∈xs,∃ s∈l,encS s=x)→(xs.map decS).map encS=xs:=by
   intro xs
   induction xs with
   | nil=>intro _;rfl
   | cons x r ih =>
    intro h
    obtain ⟨s,_,es⟩:=h x qAg
    rw [qBy,qBy,ih fun y hy=>h y (qAf _ hy),← es,yGh]
  exact (key _ hm).symm
end Go.Pf.Vc
namespace Go.Pf.Vc
open Go Go.Pf
def spOf (r:RS):Sp:=⟨r.1.num,r.1.den,r.2.num,r.2.den⟩
def rsp (l:List RS):List PV:=ycn (l.map spOf)
def ycb (r:RS):Prop:=small r.1∧small r.2
theorem yaM (l:List RS):(rsp l).length=l.length:=by unfold rsp;rw [yd6,qAk]
def encR (r:RS):PV:=encS (spOf r)
theorem yfh {l:List RS} {i:Nat} (h:i<l.length):List.getD (rsp l) i .nils=encR (l.getD i default):=by
 unfold rsp
 rw [ymr (by rw [qAk];exact h)]
 unfold encR
 congr 1
 rw [qAd,qAd,qBb,qAa h]
 rfl
theorem yms (r:RS):yaa (yac (encR r) 0)=r.1.num:=rfl
theorem yrY (r:RS):yaa (yac (encR r) 1)=r.1.den:=rfl
theorem ymt (r:RS):yaa (yac (encR r) 2)=r.2.num:=rfl
theorem ymu (r:RS):yaa (yac (encR r) 3)=r.2.den:=rfl
theorem asR (r:RS) (P:Prop):asr (conf z4 (encR r)) P=P:=rfl
theorem yJl (r:RS):([.agg [.int .i64 r.1.num,.int .i64 r.1.den,.int .i64 r.2.num,.int .i64 r.2.den]]:List PV)=rsp [r]:=rfl
theorem yn7 (a b:List RS):rsp a++rsp b=rsp (a++b):=by unfold rsp ycn;rw [List.map_append,List.map_append]
theorem asE {α:Type} [DecidableEq α] (a:α) (P:Prop):asr (decide (a=a)) P=P:=by rw [decide_eq_true rfl,yaF]
theorem asNo {c:Prop} [Decidable c] {P:Prop} (h:¬c):asr (!decide c) P=P:=by rw [decide_eq_false h];rfl
theorem yfI {l:List RS} (h:∀ s∈l,ycb s) {i:Nat} (hi:i<l.length):ycb (l.getD i default):=by
 rw [qAd,qAa hi]
 exact h _ (qBj hi)
theorem yJm {s:Sp} (h:s.ok):spOf s.rs=s:=by
 obtain ⟨_,h2,h3⟩:=yiU h.1
 obtain ⟨_,k2,k3⟩:=yiU h.2.1
 unfold spOf Sp.rs
 cases s
 simp only at h2 h3 k2 k3 ⊢
 rw [h2,h3,k2,k3]
theorem yJn {r:RS} (_:ycb r):(spOf r).rs=r:=by
 show (rt r.1.num r.1.den,rt r.2.num r.2.den)=r
 rw [ydq,ydq]
theorem yuL {r:RS} (h:ycb r) (hv:r.1<r.2):(spOf r).ok:=⟨h.1.rv,h.2.rv,by
 show rt r.1.num r.1.den<rt r.2.num r.2.den
 rw [ydq,ydq];exact hv⟩
theorem yqh {s:Sp} (h:s.ok):ycb s.rs:=⟨(yiU h.1).1,(yiU h.2.1).1⟩
theorem yjp {l:List Sp} (h:∀ s∈l,s.ok):ycn l=rsp (rsL l):=by
 unfold rsp rsL
 rw [List.map_map]
 congr 1
 conv=>lhs;rw [← List.map_id l]
 exact qBq fun s hs=>(yJm (h s hs)).symm
theorem yCt:∀ {l:List RS},l.Pairwise (fun s t=>¬t.1<s.1)→yzT l
 | [],_=>trivial
 | s::r,h=>by
  rw [List.pairwise_cons] at h
  exact ⟨fun t ht=>by have:=h.1 t ht;grind,yCt h.2⟩
end Go.Pf.Vc
namespace Go.Pf.Vc
open Go Go.Pf
theorem yGi {a b c d:Int} (h:RV a b) (k:RV c d) (K:Bool→Prop):ybq a b c d K=K (decide (rt a b<rt c d)):=by
 obtain ⟨h1,h2,h3⟩:=yiU h
 obtain ⟨k1,k2,k3⟩:=yiU k
 have:=ykp h1 k1 K
 rw [h2,h3,k2,k3] at this
 exact this
theorem yCu {s:Sp} (h:s.i64) (K:Bool→Prop):ybK s.a s.b s.c s.d K=K (decide s.ok):=by
 unfold ybK ynJ
 dsimp only [Go.Pf.jn]
 rw [yLP h.1 h.2.1 h.2.2.1 h.2.2.2]
 by_cases h1:RV s.a s.b∧RV s.c s.d
 ·rw [ceT (ydc.2 h1),yGi h1.1 h1.2]
  have e3:decide s.ok=decide (rt s.a s.b<rt s.c s.d):=by rw [decide_eq_decide];exact ⟨fun k=>k.2.2,fun k=>⟨h1.1,h1.2,k⟩⟩
  rw [e3]
 ·rw [ceF fun e=>h1 (ydc.1 e)]
  have e3:decide s.ok=false:=decide_eq_false fun k=>h1 ⟨k.1,k.2.1⟩
  rw [e3]
theorem Sp.getD_mem {l:List Sp} {i:Nat} (h:i<l.length):l.getD i default∈l:=by
 rw [qAd,qAa h]
 exact qBj h
def chkB:Option Sp→List Sp→Bool
 | _,[]=>true
 | none,t::r=>decide t.ok&&chkB (some t) r
 | some s,t::r=>decide t.ok&&(decide (s.rs.2<t.rs.1)&&chkB (some t) r)
theorem yCv (t:Sp) (r:List Sp):chkB none (t::r)=(decide t.ok&&chkB (some t) r):=rfl
theorem ywh (s t:Sp) (r:List Sp):chkB (some s) (t::r)=(decide t.ok&&(decide (s.rs.2<t.rs.1)&&chkB (some t) r)):=rfl
theorem yGj {l:List Sp} (h64:∀ s∈l,s.i64) (hl:l.length<4611686018427387904) {x0:List PV→Int→Bool→Prop} {x1:Int→Prop} :
  ∀ (r i n:Nat) (p:Option Sp),i+r=l.length→r<n→(p=if i=0 then none else some (l.getD (i-1) default))→(∀ s,p=some s→s.ok) →
   yd3 ybK ybq x0 x1 n (ycn l) (i:Int)=if chkB p (l.drop i) then x0 (ycn l) (l.length:Int) false else x1 8:=by
 intro r
 induction r with
 | zero =>
  intro i n p hi hn _ _
  obtain ⟨n,rfl⟩:∃ m,n=m+1:=⟨n-1,by omega⟩
  obtain rfl:i=l.length:=by omega
  rw [yd3,yd6,cbF (by omega),qB1]
  unfold chkB
  rfl
 | succ r ih =>
  intro i n p hi hn hp hpo
  obtain ⟨n,rfl⟩:∃ m,n=m+1:=⟨n-1,by omega⟩
  have hil:i<l.length:=by omega
  have e1:=wib (n:=(i:Int)+1) (by omega) (by omega)
  have hd:l.drop i=l.getD i default::l.drop (i+1):=ybi default hil
  have hx:=h64 _ (Sp.getD_mem hil)
  have IH:=fun (ho:(l.getD i default).ok)=>ih (i+1) n (some (l.getD i default)) (by omega) (by omega) (by rw [if_neg (by omega)];rfl) (fun s hs=>by cases hs;exact ho)
  rw [yd3,yd6,cbT (by omega)]
  dsimp only [lt,Go.Pf.jn]
  rw [asT (by omega),asT (by omega),qAe,ymr hil,asSp,e1,hd]
  change ybK (l.getD i default).a (l.getD i default).b (l.getD i default).c (l.getD i default).d _=_
  rw [yCu hx]
  by_cases ho:(l.getD i default).ok
  ·rw [decide_eq_true ho,show (!true)=false from rfl,yab]
   by_cases h0:i=0
   ·subst h0
    rw [if_pos rfl] at hp
    subst hp
    rw [cbF (by omega),yab,ybM]
    have:=IH ho
    rw [this,yCv,decide_eq_true ho,qAy]
   ·rw [if_neg h0] at hp
    have e2:=wib (n:=(i:Int)-1) (by omega) (by omega)
    have e3:((i:Int)-1).toNat=i-1:=by omega
    rw [cbT (by omega),e2,asT (by omega),asT (by omega),e3,ymr (by omega),asSp,asT (by omega),asT (by omega),asSp]
    subst hp
    have hpo:=hpo _ rfl
    change ybq (l.getD (i-1) default).c (l.getD (i-1) default).d (l.getD i default).a (l.getD i default).b _=_
    rw [yGi hpo.2.1 ho.1]
    rw [ywh,decide_eq_true ho,qAy]
    show cbr (!decide ((l.getD (i-1) default).rs.2<(l.getD i default).rs.1)) _ _=_
    cases decide ((l.getD (i-1) default).rs.2<(l.getD i default).rs.1) with
    | true =>
     rw [show (!true)=false from rfl,yab,ybM,qAy]
     exact IH ho
    | false =>
     rw [show (!false)=true from rfl,yag,qBc]
     rfl
  ·rw [decide_eq_false ho,show (!false)=true from rfl,yag,yag]
   cases p with
   | none=>rw [yCv,decide_eq_false ho,qBc];rfl
   | some s=>rw [ywh,decide_eq_false ho,qBc];rfl
theorem yGk:∀ (r:List Sp) (s:Sp),chkB (some s) r=(ykx r&&gapB s r)
 | [],s=>rfl
 | t::r,s=>by
  rw [ywh,yGk r t]
  rw [show gapB s (t::r)=(decide (s.rs.2<t.rs.1)&&gapB t r) from rfl]
  show _=((decide t.ok&&ykx r)&&_)
  cases decide t.ok <;> cases decide (s.rs.2<t.rs.1) <;> cases ykx r <;> cases gapB t r <;> rfl
theorem yzW {l:List Sp} (h64:∀ s∈l,s.i64) (hl:l.length<4611686018427387904) (K:Int→Prop):ybv (ycn l) K=K (yeY l):=by
 refine yBe _ _ (fun K k=>?_) K
 unfold ybv ynK
 rw [yd6]
 unfold yeY allE at k
 by_cases h:l.length>60
 ·rw [cbT (by omega)]
  rw [if_pos h,if_neg (by omega)] at k
  exact k
 ·rw [cbF (by omega)]
  rw [if_neg h] at k
  refine ⟨l.length+1,?_⟩
  refine (yGj h64 hl l.length 0 (l.length+1) none (by omega) (by omega) rfl (fun s h=>by cases h)).mpr ?_
  rw [qAt]
  cases l with
  | nil=>exact k
  | cons s r =>
   have e:chkB none (s::r)=(ykx (s::r)&&gapB s r):=by
    show (decide s.ok&&chkB (some s) r)=_
    rw [yGk]
    show _=((decide s.ok&&ykx r)&&_)
    rw [Bool.and_assoc]
   rw [e]
   dsimp only at k
   cases h1:ykx (s::r) with
   | true =>
    rw [h1,if_pos rfl,if_pos rfl] at k
    rw [qAy]
    split
    ·rename_i h2;rw [if_pos h2] at k;exact k
    ·rename_i h2;rw [if_neg h2] at k;exact k
   | false =>
    rw [h1,if_neg (by simp)] at k
    rw [qBc,if_neg (by simp)]
    rw [if_neg (by decide)] at k
    exact k
def inB (l:List RS) (p:Rat):Bool:=l.any fun s=>!decide (p<s.1)&&decide (p<s.2)
theorem yJo {l:List RS} {p:Rat}:inB l p=true↔memP l p:=by
 unfold inB memP inS
 rw [List.any_eq_true]
 constructor
 ·rintro ⟨s,h1,h2⟩
  simp only [qAb,qAx,decide_eq_false_iff_not,decide_eq_true_eq] at h2
  exact ⟨s,h1,by grind,h2.2⟩
 ·rintro ⟨s,h1,h2,h3⟩
  refine ⟨s,h1,?_⟩
  simp only [qAb,qAx,decide_eq_false_iff_not,decide_eq_true_eq]
  exact ⟨by grind,h3⟩
end Go.Pf.Vc
namespace Go.Pf.Vc
open Go Go.Pf
def encW (q:Rat):PV:=.agg [.int .i64 q.num,.int .i64 q.den]
def rts (l:List Rat):List PV:=l.map encW
theorem yib (l:List Rat):(rts l).length=l.length:=qAk ..
theorem yky {l:List Rat} {i:Nat} (h:i<l.length):List.getD (rts l) i .nils=encW (l.getD i 0):=by
 unfold rts
 rw [qAd,qAd,qBb,qAa h]
 rfl
theorem yqi (q:Rat):yaa (yac (encW q) 0)=q.num:=rfl
theorem yqj (q:Rat):yaa (yac (encW q) 1)=q.den:=rfl
theorem asW (q:Rat) (P:Prop):asr (conf z2 (encW q)) P=P:=rfl
theorem yJp (q:Rat):([.agg [.int .i64 q.num,.int .i64 q.den]]:List PV)=rts [q]:=rfl
theorem yJq (a b:List Rat):rts a++rts b=rts (a++b):=by unfold rts;rw [List.map_append]
theorem yPq (a b:Rat):((a.num == b.num)&&(((a.den:Int) ==(b.den:Int))&&true))=decide (a=b):=by
 rw [Bool.and_true,Bool.eq_iff_iff]
 simp only [qAb,beq_iff_eq,decide_eq_true_eq]
 constructor
 ·rintro ⟨h1,h2⟩;exact Rat.ext h1 (by omega)
 ·rintro rfl;exact ⟨rfl,rfl⟩
end Go.Pf.Vc
namespace Go.Pf.Vc
open Go Go.Pf
theorem yzX {q:Rat}:∀ (out:List Rat),(insR q out).length≤out.length+1
 | []=>qAl _
 | x::r=>by
  unfold insR
  split
  ·simp
  ·split
   ·simp
   ·have:=yzX (q:=q) r
    simp only [qAm];omega
theorem ywi:∀ (l:List RS) (out:List Rat),(yku l out).length≤out.length+2*l.length
 | [],_=>qAl _
 | s::a,out=>by
  have h1:=ywi a (insR s.2 (insR s.1 out))
  have h2:=yzX (q:=s.2) (insR s.1 out)
  have h3:=yzX (q:=s.1) out
  show (yku a _).length≤_
  simp only [qAm];omega
end Go.Pf.Vc
namespace Go.Pf.Vc
open Go Go.Pf
def selB (how:Int) (x y:Bool):Bool:=bif how == 2 then (x&&!y) else (bif how == 1 then (x&&y) else (x||y))
section
variable {a b:List RS} {pts:List Rat} {how:Int}
def selF (a b:List RS) (how:Int) (q:Rat):Bool:=selB how (inB a q) (inB b q)
end
end Go.Pf.Vc
namespace Go.Pf.Vc
open Go Go.Pf
theorem yLZ {q r:Rat} (hq:small q) (hr:small r) (K:Bool→Prop):ybo q.num q.den r.num r.den K=K (decide (q<r)):=by
 have h:=yGf (s:=spOf (q,r)) ⟨hq.rv.i1,hq.rv.i2,hr.rv.i1,hr.rv.i2⟩ K
 have e:decide (spOf (q,r)).ok=decide (q<r):=by
  rw [decide_eq_decide]
  constructor
  ·intro h
   have h3:rt q.num q.den<rt r.num r.den:=h.2.2
   rw [ydq,ydq] at h3
   exact h3
  ·intro h
   exact yuL (r:=(q,r)) ⟨hq,hr⟩ h
 rw [e] at h
 exact h
theorem yqP (b:List RS):yeB [] b=[]:=by unfold yeB;rfl
theorem yzY (a:List RS):yeB a []=[]:=by cases a <;> (unfold yeB;rfl)
theorem yOf (a b:Rat):(!decide (b<a))=decide (a≤b):=by
 rw [← decide_not]
 exact decide_eq_decide.2 ⟨fun h=>by grind,fun h=>by grind⟩
section
variable {a b:List RS}
theorem yzZ (ha:∀ s∈a,ycb s) (hb:∀ s∈b,ycb s) (hla:a.length<10000) (hlb:b.length<10000)
  {x0:List PV→List PV→Int→Int→Bool→Prop} {x1:List PV→List PV→List PV→Int→Int→Bool→Prop} {K:List PV→Prop} (hx:∀ L i k q,x1 L (rsp a) (rsp b) i k q=K L) :
  ∀ (m i k n:Nat) (acc:List RS),i≤a.length→k≤b.length→(a.length-i)+(b.length-k)=m→m<n→acc.length≤i+k →
   ybJ yec ydA yc0 ybo yaB ydB x0 x1 n (rsp acc) (rsp a) (rsp b) (i:Int) (k:Int)=K (rsp (acc++yeB (a.drop i) (b.drop k))):=by
 intro m
 induction m with
 | zero =>
  intro i k n acc hi hk hm hn hac
  obtain ⟨n,rfl⟩:∃ m,n=m+1:=⟨n-1,by omega⟩
  rw [ybJ]
  dsimp only [Go.Pf.jn]
  rw [yaM,cbF (by omega),yab,hx,qBx (by omega),yqP,qB6]
 | succ m ih =>
  intro i k n acc hi hk hm hn hac
  obtain ⟨n,rfl⟩:∃ m,n=m+1:=⟨n-1,by omega⟩
  by_cases h1:i<a.length
  case neg =>
   rw [ybJ]
   dsimp only [Go.Pf.jn]
   rw [yaM,cbF (by omega),yab,hx,qBx (by omega),yqP,qB6]
  by_cases h2:k<b.length
  case neg =>
   rw [ybJ]
   dsimp only [Go.Pf.jn]
   rw [yaM,yaM,cbT (by omega),decide_eq_false (by omega),yab,hx,qBx (as:=b) (by omega),yzY,qB6]
  have e1:=wib (n:=(i:Int)+1) (by omega) (by omega)
  have e2:=wib (n:=(k:Int)+1) (by omega) (by omega)
  have hd1:a.drop i=a.getD i default::a.drop (i+1):=ybi default h1
  have hd2:b.drop k=b.getD k default::b.drop (k+1):=ybi default h2
  have hx1:=yfI ha h1
  have hx2:=yfI hb h2
  have IH1:=fun acc' h=>ih (i+1) k n acc' (by omega) hk (by omega) (by omega) h
  have IH2:=fun acc' h=>ih i (k+1) n acc' hi (by omega) (by omega) (by omega) h
  rw [hd2] at IH1
  rw [hd1] at IH2
  rw [hd1,hd2]
  generalize hq1:a.getD i default=s at hx1 IH2
  generalize hq2:b.getD k default=t at hx2 IH1
  have em:yeB (s::a.drop (i+1)) (t::b.drop (k+1))=(if maxR s.1 t.1<minR s.2 t.2 then [(maxR s.1 t.1,minR s.2 t.2)] else [])++(if s.2≤t.2 then yeB (a.drop (i+1)) (t::b.drop (k+1)) else yeB (s::a.drop (i+1)) (b.drop (k+1))):=by rw [yeB]
  have hmx:=yCq hx1.1 hx2.1
  have hmn:=yCr hx1.2 hx2.2
  rw [ybJ,em]
  dsimp only [lt,Go.Pf.jn]
  simp (discharger:=omega) only [e1,e2,yaM,cbT,asT,qAe,yfh,hq1,hq2,asR,yms,yrY,ymt,ymu,yGg hx1.1 hx2.1,yCs hx1.2 hx2.2,yLZ hmx hmn,ykw hx1.2 hx2.2,yEn,yOf,decide_true,yaF,qA6,asNo,qAy]
  by_cases hv:maxR s.1 t.1<minR s.2 t.2
  ·rw [cbT hv,if_pos hv,asT (by show _≤35184372088832;omega),yJl (maxR s.1 t.1,minR s.2 t.2),yn7]
   by_cases hle:s.2≤t.2
   ·rw [cbT hle,if_pos hle,ybM,IH1 _ (by simp;omega),qBe]
   ·rw [cbF hle,if_neg hle,ybM,IH2 _ (by simp;omega),qBe]
  ·rw [cbF hv,if_neg hv,qBs]
   by_cases hle:s.2≤t.2
   ·rw [cbT hle,if_pos hle,ybM,IH1 _ (by omega)]
   ·rw [cbF hle,if_neg hle,ybM,IH2 _ (by omega)]
theorem yIh (ha:∀ s∈a,ycb s) (hb:∀ s∈b,ycb s) (hla:a.length<10000) (hlb:b.length<10000)
  {x0:List PV→List PV→Int→Int→Bool→Prop} {x1:List PV→List PV→List PV→Int→Int→Bool→Prop} {K:List PV→Prop} (hx0:∀ i k q,x0 (rsp a) (rsp b) i k q=K []) (hx:∀ L i k q,x1 L (rsp a) (rsp b) i k q=K L) :
  ∀ (m i k n:Nat),i≤a.length→k≤b.length→(a.length-i)+(b.length-k)=m→m<n →
   ybU yec ydA yc0 ybo yaB ydB x0 x1 n (rsp a) (rsp b) (i:Int) (k:Int)=K (rsp (yeB (a.drop i) (b.drop k))):=by
 intro m
 induction m with
 | zero =>
  intro i k n hi hk hm hn
  obtain ⟨n,rfl⟩:∃ m,n=m+1:=⟨n-1,by omega⟩
  rw [ybU]
  dsimp only [Go.Pf.jn]
  rw [yaM,cbF (by omega),yab,hx0,qBx (by omega),yqP]
  rfl
 | succ m ih =>
  intro i k n hi hk hm hn
  obtain ⟨n,rfl⟩:∃ m,n=m+1:=⟨n-1,by omega⟩
  by_cases h1:i<a.length
  case neg =>
   rw [ybU]
   dsimp only [Go.Pf.jn]
   rw [yaM,cbF (by omega),yab,hx0,qBx (by omega),yqP]
   rfl
  by_cases h2:k<b.length
  case neg =>
   rw [ybU]
   dsimp only [Go.Pf.jn]
   rw [yaM,yaM,cbT (by omega),decide_eq_false (by omega),yab,hx0,qBx (as:=b) (by omega),yzY]
   rfl
  have e1:=wib (n:=(i:Int)+1) (by omega) (by omega)
  have e2:=wib (n:=(k:Int)+1) (by omega) (by omega)
  have hd1:a.drop i=a.getD i default::a.drop (i+1):=ybi default h1
  have hd2:b.drop k=b.getD k default::b.drop (k+1):=ybi default h2
  have hx1:=yfI ha h1
  have hx2:=yfI hb h2
  have IH1:=ih (i+1) k n (by omega) hk (by omega) (by omega)
  have IH2:=ih i (k+1) n hi (by omega) (by omega) (by omega)
  have JH1:=fun acc' h=>yzZ ha hb hla hlb (x0:=x0) hx m (i+1) k n acc' (by omega) hk (by omega) (by omega) h
  have JH2:=fun acc' h=>yzZ ha hb hla hlb (x0:=x0) hx m i (k+1) n acc' hi (by omega) (by omega) (by omega) h
  rw [hd2] at IH1 JH1
  rw [hd1] at IH2 JH2
  rw [hd1,hd2]
  generalize hq1:a.getD i default=s at hx1 IH2 JH2
  generalize hq2:b.getD k default=t at hx2 IH1 JH1
  have em:yeB (s::a.drop (i+1)) (t::b.drop (k+1))=(if maxR s.1 t.1<minR s.2 t.2 then [(maxR s.1 t.1,minR s.2 t.2)] else [])++(if s.2≤t.2 then yeB (a.drop (i+1)) (t::b.drop (k+1)) else yeB (s::a.drop (i+1)) (b.drop (k+1))):=by rw [yeB]
  have hmx:=yCq hx1.1 hx2.1
  have hmn:=yCr hx1.2 hx2.2
  rw [ybU,em]
  dsimp only [lt,Go.Pf.jn]
  simp (discharger:=omega) only [e1,e2,yaM,cbT,asT,qAe,yfh,hq1,hq2,asR,yms,yrY,ymt,ymu,yGg hx1.1 hx2.1,yCs hx1.2 hx2.2,yLZ hmx hmn,ykw hx1.2 hx2.2,yEn,yOf]
  by_cases hv:maxR s.1 t.1<minR s.2 t.2
  ·rw [cbT hv,if_pos hv,yJl (maxR s.1 t.1,minR s.2 t.2),show (rsp [(maxR s.1 t.1,minR s.2 t.2)]).length=1 from rfl]
   simp only [decide_true,qAy,yaF]
   by_cases hle:s.2≤t.2
   ·rw [cbT hle,if_pos hle,ybM,JH1 _ (by simp only [qAm,qBt];omega)]
   ·rw [cbF hle,if_neg hle,ybM,JH2 _ (by simp only [qAm,qBt];omega)]
  ·rw [cbF hv,if_neg hv,qBs]
   by_cases hle:s.2≤t.2
   ·rw [cbT hle,if_pos hle,ybM,IH1]
   ·rw [cbF hle,if_neg hle,ybM,IH2]
end
theorem yNu (l:List RS) (K:List PV→Int→Prop):ydB (rsp l) K=if l.length>60 then K [] 4 else K (rsp l) 0:=by
 have:=yOT (l:=l.map spOf) K
 rw [qAk] at this
 exact this
def fewR (e:Int) (l:List RS) (K:List PV→Int→Prop):Prop:=if e=0 then (if l.length>60 then K [] 4 else K (rsp l) 0) else K [] e
theorem yNv {a b:List Sp} (ha:∀ s∈a,s.i64) (hb:∀ s∈b,s.i64) (hla:a.length<4611686018427387904) (hlb:b.length<4611686018427387904) (K:List PV→Int→Prop) :
  ycF (ycn a) (ycn b) K=fewR (yqg a b) (yeB (rsL a) (rsL b)) K:=by
 have key:∀ K:List PV→Int→Prop,fewR (yqg a b) (yeB (rsL a) (rsL b)) K→ycF (ycn a) (ycn b) K:=by
  intro K k
  unfold ycF ylh
  rw [yNs ha hb hla hlb]
  unfold fewR at k
  by_cases h:yqg a b=0
  ·rw [cnF h]
   rw [if_pos h] at k
   have h2:=h
   unfold yqg at h2
   split at h2
   ·rename_i h3
    obtain ⟨l1,o1,_⟩:=yiA h3
    obtain ⟨l2,o2,_⟩:=yiA h2
    rw [yjp o1,yjp o2]
    have s1:∀ s∈rsL a,ycb s:=fun s hs=>by obtain ⟨t,ht,rfl⟩:=qA2.1 hs;exact yqh (o1 t ht)
    have s2:∀ s∈rsL b,ycb s:=fun s hs=>by obtain ⟨t,ht,rfl⟩:=qA2.1 hs;exact yqh (o2 t ht)
    have n1:(rsL a).length=a.length:=qAk ..
    have n2:(rsL b).length=b.length:=qAk ..
    refine ⟨(rsL a).length+(rsL b).length+1,?_⟩
    refine (yIh s1 s2 (by omega) (by omega) (K:=fun L=>ydB L fun L' e=>K L' e) (fun _ _ _=>rfl) (fun L i k q=>?_) ((rsL a).length+(rsL b).length) 0 0 _ (by omega) (by omega) (by omega) (by omega)).mpr ?_
    ·rw [asE,asT (by omega),qCc]
    ·rw [qAt,qAt]
     rw [yNu]
     exact k
   ·rename_i h3;exact absurd h2 h3
  ·rw [cnT h]
   rw [if_neg h] at k
   exact k
 unfold fewR at key ⊢
 split
 ·rename_i h
  simp only [if_pos h] at key
  split
  ·rename_i h2;simp only [if_pos h2] at key;exact yj4 _ _ _ _ key K
  ·rename_i h2;simp only [if_neg h2] at key;exact yj4 _ _ _ _ key K
 ·rename_i h
  simp only [if_neg h] at key
  exact yj4 _ _ _ _ key K
end Go.Pf.Vc
namespace Go.Pf.Vc
open Go Go.Pf
theorem yKp {a b:List Sp} (h:yqg a b=0):a.length≤60∧b.length≤60∧(∀ s∈a,s.ok)∧(∀ s∈b,s.ok)∧yeA (rsL a)∧yeA (rsL b)∧(∀ s∈rsL a,ycb s)∧(∀ s∈rsL b,ycb s)∧ycn a=rsp (rsL a)∧ycn b=rsp (rsL b)∧(rsL a).length=a.length∧(rsL b).length=b.length:=by
 unfold yqg at h
 split at h
 ·rename_i h3
  obtain ⟨l1,o1,c1⟩:=yiA h3
  obtain ⟨l2,o2,c2⟩:=yiA h
  exact ⟨l1,l2,o1,o2,c1,c2,fun s hs=>by obtain ⟨t,ht,rfl⟩:=qA2.1 hs;exact yqh (o1 t ht),fun s hs=>by obtain ⟨t,ht,rfl⟩:=qA2.1 hs;exact yqh (o2 t ht),yjp o1,yjp o2,qAk ..,qAk ..⟩
 ·rename_i h3;exact absurd h h3
end Go.Pf.Vc
namespace Go.Pf.Vc
open Go Go.Pf
theorem yGl (l:List RS):yfp 4 (rsp l)=true:=by cases l <;> rfl
theorem yCw {a b:List RS} {q:Rat}:selF a b 1 q=true↔(memP a q∧memP b q):=by
 show (inB a q&&inB b q)=true↔_
 rw [qAb,yJo,yJo]
theorem yqk {l:List RS} (h:yeA l):∀ s∈l,s.1<s.2:=by
 induction l with
 | nil=>intro s hs;cases hs
 | cons t r ih =>
  intro s hs
  rcases qAn.1 hs with rfl | hs
  ·exact h.1
  ·exact ih h.2.2 s hs
def setR (a b:List RS) (how:Int):List RS:=yGd (selF a b how) a b
theorem yL0 {a b:List Sp} (ha:∀ s∈a,s.i64) (hb:∀ s∈b,s.i64) (hla:a.length<4611686018427387904) (hlb:b.length<4611686018427387904) (K:List PV→Int→Prop) :
  ycF (ycn a) (ycn b) K=fewR (yqg a b) (setR (rsL a) (rsL b) 1) K:=by
 rw [yNv ha hb hla hlb]
 unfold fewR
 split
 ·rename_i h
  obtain ⟨_,_,_,_,c1,c2,_⟩:=yKp h
  rw [yKn c1 c2 (fun x=>yCw)]
  rfl
 ·rfl
end Go.Pf.Vc
namespace Go.Pf.Vc
open Go Go.Pf
def dsS:DS:=.a [dsR,dsR]
theorem F_s {c:List PV} (h:HasF dsS c):∃ s:Sp,c=[.int .i64 s.a,.int .i64 s.b,.int .i64 s.c,.int .i64 s.d]∧s.i64:=by
 simp only [dsS,dsR,HasF,HasL] at h
 obtain ⟨_,_,rfl,⟨_,_,rfl,⟨a,rfl,ha⟩,_,_,rfl,⟨b,rfl,hb⟩,rfl⟩,_,_,rfl,⟨_,_,rfl,⟨c,rfl,hc⟩,_,_,rfl,⟨d,rfl,hd⟩,rfl⟩,rfl⟩:=h
 exact ⟨⟨a,b,c,d⟩,rfl,yqN ha,yqN hb,yqN hc,yqN hd⟩
theorem yGm:∀ (rows:List PV),(∀ x∈rows,x.isAgg=dsS.isA∧HasF dsS x.cells)→∃ l:List Sp,rows=ycn l∧∀ s∈l,s.i64
 | [],_=>⟨[],rfl,by simp⟩
 | x::r,h=>by
  obtain ⟨l,e,hl⟩:=yGm r (fun y hy=>h y (qAf _ hy))
  obtain ⟨h1,h2⟩:=h x (qAg ..)
  obtain ⟨k,e2,hk⟩:=F_s h2
  have ex:x=encS k:=by rw [yId h1,e2];rfl
  refine ⟨k::l,by rw [ex,e];rfl,?_⟩
  intro m hm
  rcases qAn.1 hm with rfl | hm
  ·exact hk
  ·exact hl m hm
theorem yNw {c:List PV} (h:HasF (.s dsS) c):∃ l:List Sp,c=[.data (ycn l)]∧l.length≤9223372036854775807∧∀ s∈l,s.i64:=by
 simp only [HasF] at h
 obtain ⟨rows,rfl,hl,hr⟩:=h
 obtain ⟨l,rfl,hi⟩:=yGm rows hr
 rw [yd6] at hl
 exact ⟨l,rfl,hl,hi⟩
def yn8 (l:List Sp):Bool:=decide (l.length>20∧l.length≤60∨l.length>70)
theorem yKq (l:List Sp) (K:Bool→Prop):yeL (ycn l) K=K (yn8 l):=by
 unfold yeL ynF yn8
 dsimp only [Go.Pf.jn]
 rw [yd6]
 by_cases h:l.length>20
 ·rw [cbT (by omega)]
  by_cases h2:l.length≤60
  ·rw [cbT (by omega),decide_eq_true (by omega)]
  ·rw [cbF (by omega)]
   congr 1
   rw [decide_eq_decide];omega
 ·rw [cbF (by omega)]
  congr 1
  rw [decide_eq_decide];omega
theorem yz0 {l:List Sp} (h:yn8 l=false):l.length≤70∧(l.length≤60→l.length≤20):=by
 unfold yn8 at h
 rw [decide_eq_false_iff_not] at h
 omega
end Go.Pf.Vc
namespace Go.Pf.Vc
open Go Go.Pf
theorem yOU {a b c d:Int} (h:RV a b) (k:RV c d):cmpI a b c d=cmpQ (rt a b) (rt c d):=by
 obtain ⟨_,h2,h3⟩:=yiU h
 obtain ⟨_,k2,k3⟩:=yiU k
 unfold cmpI cmpQ
 simp only [Rat.lt_iff,h2,h3,k2,k3]
theorem yL1:∀ {cs:List PV},okL [.i64,.i64,.i64,.i64] cs=true→∃ a b c d,cs=[.int .i64 a,.int .i64 b,.int .i64 c,.int .i64 d]
 | [],h=>by cases h
 | [x],h=>by cases x <;> simp [okL] at h
 | [x,y],h=>by cases x <;> cases y <;> simp [okL] at h
 | [x,y,z],h=>by cases x <;> cases y <;> cases z <;> simp [okL] at h
 | x::y::z::u::w,h=>by
  cases x <;> first | (simp [okL] at h;done) | skip
  cases y <;> first | (simp [okL] at h;done) | skip
  cases z <;> first | (simp [okL] at h;done) | skip
  cases u <;> first | (simp [okL] at h;done) | skip
  simp only [okL,qAb,decide_eq_true_eq] at h
  obtain ⟨rfl,_,_,rfl,_,_,rfl,_,_,rfl,_,_,h⟩:=h
  cases w with
  | nil=>exact ⟨_,_,_,_,rfl⟩
  | cons p q=>simp [okL] at h
theorem yOg {n g:Nat} {x:PV} (h:(ykL n g).s.gd x=true):∃ a b c d,x=.agg [.int .i64 a,.int .i64 b,.int .i64 c,.int .i64 d]∧RV a b:=by
 simp only [Srt.gd,qAb] at h
 have h1:okI [.i64,.i64,.i64,.i64] x=true:=h.1
 have h2:ysn x=true:=h.2
 clear h
 cases x <;> first | (simp [okI] at h1;done) | skip
 obtain ⟨a,b,c,d,rfl⟩:=yL1 (h1:okL _ _=true)
 exact ⟨a,b,c,d,rfl,yxT.1 h2⟩
end Go.Pf.Vc
namespace Go.Pf.Vc
open Go Go.Pf
theorem yL2 (f:Rat→Bool):∀ pts:List Rat,2*(jn f pts none).length≤pts.length∧(∀ c,2*(jn f pts (some c)).length≤pts.length+2)∧∀ c x r,pts=x::r→c.2=x→2*(jn f pts (some c)).length≤pts.length+1
 | []=>by refine ⟨by simp [jn],fun c=>by simp [jn],fun c x r h=>by cases h⟩
 | [x]=>by refine ⟨by simp [jn],fun c=>by simp [jn],fun c x r _ _=>by simp [jn]⟩
 | x::y::r=>by
  obtain ⟨i1,i2,i3⟩:=yL2 f (y::r)
  refine ⟨?_,fun c=>?_,fun c z t h hc=>?_⟩
  ·unfold jn
   split
   ·have:=i3 (x,y) y r rfl rfl
    simp only [qAm] at this ⊢;omega
   ·simp only [qAm] at i1 ⊢;omega
  ·unfold jn
   split
   ·split
    ·have:=i2 (c.1,y)
     simp only [qAm] at this ⊢;omega
    ·have:=i3 (x,y) y r rfl rfl
     simp only [qAm] at this ⊢;omega
   ·have:=i2 c
    simp only [qAm] at this ⊢;omega
  ·cases h
   unfold jn
   split
   ·have:=i3 (c.1,y) y r rfl rfl
    simp only [qAm] at this ⊢;omega
   ·have:=i2 c
    simp only [qAm] at this ⊢;omega
theorem yL3 (a b:List RS) (how:Int):(setR a b how).length≤a.length+b.length:=by
 have h1:=(yL2 (selF a b how) (yku b (yku a []))).1
 have h2:=ywi b (yku a [])
 have h3:=ywi a []
 simp only [qBt] at h3
 unfold setR yGd
 omega
structure Pc (l:List RS):Prop where
 c:yeA l
 s:∀ s∈l,ycb s
 n:l.length≤60
theorem yL4 {a b:List RS} {p:Rat}:memP (setR a b 1) p↔(memP a p∧memP b p):=(yGe (c:=And) (fun x=>yCw) (by simp)).2 p
theorem yz1 {l:List RS} (h:∀ s∈l,ycb s):rsL (l.map spOf)=l:=by
 induction l with
 | nil=>rfl
 | cons s r ih =>
  show (spOf s).rs::rsL (r.map spOf)=_
  rw [yJn (h s qAg),ih fun t ht=>h t (qAf _ ht)]
theorem Pc.ok {l:List RS} (h:Pc l):∀ s∈l.map spOf,s.ok:=fun s hs=>by
 obtain ⟨t,ht,rfl⟩:=qA2.1 hs
 exact yuL (h.s t ht) (yqk h.c t ht)
theorem Pc.i64 {l:List RS} (h:Pc l):∀ s∈l.map spOf,s.i64:=fun s hs=>by
 obtain ⟨t,ht,rfl⟩:=qA2.1 hs
 have:=h.s t ht
 exact ⟨this.1.i1,this.1.i2,this.2.i1,this.2.i2⟩
theorem Pc.e {l:List RS} (h:Pc l):yeY (l.map spOf)=0:=by
 have hl:=h.n
 have ho:=h.ok
 have hc:=h.c
 rw [← yz1 h.s] at hc
 have h1:ykx (l.map spOf)=true:=qB7.2 fun s hs=>decide_eq_true (ho s hs)
 have h2:allE (l.map spOf)=0:=by
  unfold allE
  rw [if_neg (by rw [qAk];omega),h1,if_pos rfl]
 unfold yeY
 rw [h2]
 cases l with
 | nil=>rfl
 | cons s r =>
  have hg:gapB (spOf s) (r.map spOf)=true:=(ywf _ _ (ho _ (by simp)) (fun t ht=>ho t (qAf _ ht))).2 hc
  show (if (0:Int)=0 then (if gapB (spOf s) (r.map spOf) then 0 else 8) else _)=_
  rw [if_pos rfl,hg,if_pos rfl]
theorem yJr {l:List Sp} (h:yeY l=0):Pc (rsL l)∧ycn l=rsp (rsL l)∧l=(rsL l).map spOf:=by
 obtain ⟨h1,h2,h3⟩:=yiA h
 refine ⟨⟨h3,fun s hs=>by obtain ⟨t,ht,rfl⟩:=qA2.1 hs;exact yqh (h2 t ht),by unfold rsL;rw [qAk];exact h1⟩,yjp h2,?_⟩
 unfold rsL
 rw [List.map_map]
 have:∀ s∈l,(spOf ∘ Sp.rs) s=id s:=fun s hs=>yJm (h2 s hs)
 rw [qBq this,List.map_id]
theorem Pc.check {l:List RS} (h:Pc l) (K:Int→Prop):yaL (rsp l) K=K 0:=by
 unfold rsp
 rw [ywe h.i64 (by rw [qAk];have:=h.n;omega),h.e]
theorem Pc.check3 {l:List RS} (h:Pc l) (K:Int→Prop):ybv (rsp l) K=K 0:=by
 unfold rsp
 rw [yzW h.i64 (by rw [qAk];have:=h.n;omega),h.e]
theorem Pc.both {a b:List RS} (ha:Pc a) (hb:Pc b):yqg (a.map spOf) (b.map spOf)=0:=by
 unfold yqg
 rw [ha.e,if_pos rfl,hb.e]
theorem yNx {l:List RS} (h:l.length≤60) (K:List PV→Int→Prop):fewR 0 l K=K (rsp l) 0:=by
 unfold fewR
 rw [if_pos rfl,if_neg (by omega)]
theorem Pc.meet {a b:List RS} (ha:Pc a) (hb:Pc b) (hl:a.length+b.length≤60) (K:List PV→Int→Prop):ycF (rsp a) (rsp b) K=K (rsp (setR a b 1)) 0:=by
 unfold rsp
 rw [yL0 ha.i64 hb.i64 (by rw [qAk];have:=ha.n;omega) (by rw [qAk];have:=hb.n;omega),ha.both hb,yz1 ha.s,yz1 hb.s,yNx (by have:=yL3 a b 1;omega)]
 rfl
end Go.Pf.Vc
namespace Go.Pf.Vc
open Go Go.Pf
def sumV (v:RS→Rat):List RS→Rat
 | []=>0
 | s::r=>v s+sumV v r
theorem ykz:small 0:=by decide +kernel
end Go.Pf.Vc
namespace Go.Pf.Vc
open Go Go.Pf
theorem yNy {x:PV} (h1:x.isAgg=(DS.s dsS).isA) (h2:HasF (.s dsS) x.cells):∃ l:List Sp,x=.data (ycn l)∧∀ s∈l,s.i64:=by
 obtain ⟨l,e,_,h⟩:=yNw h2
 exact ⟨l,yCl h1 e,h⟩
theorem nz (P Q:Prop):cbr ((0:Int) != 0) P Q=Q:=rfl
end Go.Pf.Vc
namespace Go.Pf.Vc
open Go Go.Pf
section
variable (V:Rat→Rat)
def dV (s:RS):Rat:=V s.2-V s.1
end
def outW (w:(Int→Int→Int→Prop)→Prop) (t:Rat):Prop:=(∃ c,c=16∧∀ K,w K=K 0 0 c)∨(small t∧∀ K,w K=K t.num t.den 0)
end Go.Pf.Vc
namespace Go.Pf.Vc
open Go Go.Pf
section
variable {len:Int} {cuts dens:List Int}
def uC (cuts:List Int) (i:Nat) (x:Rat):Rat:=minR (maxR x (cuts.getD i 0:Int)) (cuts.getD (i+1) 0:Int)
def vu (cuts dens:List Int) (x:Rat):Nat→Nat→Rat
 | 0,_=>0
 | r+1,i=>(dens.getD i 0:Int)*uC cuts i x+vu cuts dens x r (i+1)
theorem yIi (h:VC len cuts dens):∀ (r i:Nat) {x y:Rat},i+r=dens.length→x≤(cuts.getD i 0:Int)→y≤(cuts.getD i 0:Int)→vu cuts dens x r i=vu cuts dens y r i
 | 0,_,_,_,_,_,_=>rfl
 | r+1,i,x,y,hi,hx,hy=>by
  have l1:=h.l1
  have hst:((cuts.getD i 0:Int):Rat)<((cuts.getD (i+1) 0:Int):Rat):=Rat.intCast_lt_intCast.2 (h.step (i:=i) (by omega))
  have ih:=yIi h r (i+1) (x:=x) (y:=y) (by omega) (by grind) (by grind)
  unfold vu
  rw [ih]
  have e:uC cuts i x=uC cuts i y:=by
   unfold uC
   have a1:=yia x (cuts.getD i 0:Int)
   have a2:=yia y (cuts.getD i 0:Int)
   have e1:maxR x (cuts.getD i 0:Int)=(cuts.getD i 0:Int):=by grind
   have e2:maxR y (cuts.getD i 0:Int)=(cuts.getD i 0:Int):=by grind
   rw [e1,e2]
  rw [e]
theorem yEo {α:Type} {q:Rat} {k:Rat→Except Int α} {v:α} (h:fit q k=.ok v):k q=.ok v:=by
 unfold fit at h
 split at h
 ·exact h
 ·cases h
theorem yxU (h:VC len cuts dens) {b:Rat}:∀ (r i:Nat) (p sum v:Rat),i+r=dens.length→p≤b→(p=b∨((cuts.getD i 0:Int):Rat)≤p)→valS cuts dens b r i p sum=.ok v→v=sum+(vu cuts dens b r i-vu cuts dens p r i)
 | 0,i,p,sum,v,hi,hp,hc,hv=>by
  unfold valS at hv
  cases hv
  unfold vu
  grind
 | r+1,i,p,sum,v,hi,hp,hc,hv=>by
  have l1:=h.l1
  have hst:((cuts.getD i 0:Int):Rat)<((cuts.getD (i+1) 0:Int):Rat):=Rat.intCast_lt_intCast.2 (h.step (i:=i) (by omega))
  unfold valS at hv
  dsimp only at hv
  have hen:∃ en:Rat,(if b<((cuts.getD (i+1) 0:Int):Rat) then b else ((cuts.getD (i+1) 0:Int):Rat))=en∧en≤b∧en≤((cuts.getD (i+1) 0:Int):Rat)∧(en=b∨en=((cuts.getD (i+1) 0:Int):Rat)):=by
   refine ⟨_,rfl,?_⟩
   split <;> grind
  obtain ⟨en,e0,he1,he2,he3⟩:=hen
  rw [e0] at hv
  have low:=yIi h r (i+1) (x:=en) (y:=p) (by omega)
  have m1:=yia b (cuts.getD i 0:Int)
  have m2:=yia p (cuts.getD i 0:Int)
  have n1:=ykV (maxR b (cuts.getD i 0:Int)) (cuts.getD (i+1) 0:Int)
  have n2:=ykV (maxR p (cuts.getD i 0:Int)) (cuts.getD (i+1) 0:Int)
  unfold vu uC
  generalize ((cuts.getD i 0:Int):Rat)=c0 at *
  generalize hc1:((cuts.getD (i+1) 0:Int):Rat)=c1 at *
  by_cases hlt:p<en
  ·have hb:minR (maxR b c0) c1=en:=by grind
   have hq:minR (maxR p c0) c1=p:=by grind
   by_cases hd:dens.getD i 0=0
   ·rw [if_pos (.inl hd),if_pos hlt] at hv
    have ih:=yxU h r (i+1) en sum v (by omega) he1 (by rw [hc1];grind) hv
    rw [ih,hd,low (by grind) (by grind)]
    grind
   ·rw [if_neg (by intro k;rcases k with k | k;exact hd k;exact k hlt)] at hv
    have hv:=yEo (yEo (yEo hv))
    have ih:=yxU h r (i+1) en _ v (by omega) he1 (by rw [hc1];grind) hv
    rw [ih,low (by grind) (by grind),hb,hq]
    grind
  ·rw [if_pos (.inr hlt),if_neg hlt] at hv
   have ih:=yxU h r (i+1) p sum v (by omega) hp (by rw [hc1];grind) hv
   have:minR (maxR b c0) c1=minR (maxR p c0) c1:=by grind
   rw [ih,this]
   grind
end
end Go.Pf.Vc
namespace Go.Pf.Vc
open Go Go.Pf
section
variable {len:Int} {cuts dens:List Int}
def vX (cuts dens:List Int) (x:Rat):Rat:=vu cuts dens x dens.length 0
theorem yJs (h:VC len cuts dens) {a b v:Rat} (h0:0≤a) (hab:a≤b) (hv:valC cuts dens a b=.ok v):v=vX cuts dens b-vX cuts dens a:=by
 have c0:cuts.getD 0 0=0:=h.2.2.2.2.2.1
 have:=yxU h dens.length 0 a 0 v (by omega) hab (.inr (by rw [c0];exact h0)) hv
 unfold vX
 rw [this];grind
def Wi (len:Int) (l:List RS):Prop:=∀ s∈l,0≤s.1∧s.2≤(len:Rat)
theorem yIj (cuts dens:List Int) (b:Rat):∀ (r i:Nat) (p sum v:Rat),small sum→valS cuts dens b r i p sum=.ok v→small v:=by
 intro r
 induction r with
 | zero=>intro i p sum v hs e;unfold valS at e;cases e;exact hs
 | succ r ih =>
  intro i p sum v hs e
  unfold valS fit at e
  repeat' (first | split at e | dsimp only at e)
  all_goals first | exact ih _ _ _ _ hs e | (rename_i h;exact ih _ _ _ _ h e) | cases e
theorem yL5 (cuts dens:List Int) (b:Rat):∀ (r i:Nat) (p v:Rat) (c:Int),valS cuts dens b r i p v=.error c→c=16:=by
 intro r
 induction r with
 | zero=>intro i p v c e;unfold valS at e;cases e
 | succ r ih =>
  intro i p v c e
  unfold valS fit at e
  repeat' (first | split at e | dsimp only at e)
  all_goals first | exact ih _ _ _ _ e | (cases e;rfl)
theorem yGn (h:VC len cuts dens) {s:RS} (hs:ycb s) (hv:s.1<s.2) (hw:0≤s.1∧s.2≤(len:Rat)) :
  outW (fun K=>yaT len (ints cuts) (ints dens) s.1.num s.1.den s.2.num s.2.den K) (dV (vX cuts dens) s):=by
 have l1:=h.l1;have l2:=h.l2
 have e:∀ K,yaT len (ints cuts) (ints dens) s.1.num s.1.den s.2.num s.2.den K=exK (valC cuts dens s.1 s.2) K:=fun K=>by
  rw [yCh (by omega) (by omega) hs.1.i1 hs.1.i2 hs.2.i1 hs.2.i2]
  unfold valR
  rw [if_pos h.ck,if_pos ⟨yJd hs.1 hw.1 (by grind),yJd hs.2 (by grind) hw.2,by rw [ydq,ydq];grind⟩,ydq,ydq]
 cases hc:valC cuts dens s.1 s.2 with
 | error c =>
  refine .inl ⟨c,yL5 _ _ _ _ _ _ _ _ hc,fun K=>?_⟩
  show yaT _ _ _ _ _ _ _ K=_
  rw [e,hc];rfl
 | ok v =>
  have hv2:=yJs h hw.1 (by grind) hc
  have hsm:small v:=yIj _ _ _ _ _ _ _ _ ykz hc
  have ev:dV (vX cuts dens) s=v:=hv2.symm
  rw [ev]
  refine .inr ⟨hsm,fun K=>?_⟩
  show yaT _ _ _ _ _ _ _ K=_
  rw [e,hc];rfl
theorem yIk (h:VC len cuts dens) {l:List RS} (hs:∀ s∈l,ycb s) (hv:∀ s∈l,s.1<s.2) (hw:Wi len l) (hl:l.length<1000) (z z':Int) :
  ∀ (r i n:Nat) (q:Rat),i+r=l.length→r<n→small q →
   outW (fun K=>yaH yaD yaL yaB yaT yaW (fun _ _ _ _ _ a b _ _ _ _=>K a b 0) (fun _ _ _ a b e=>K a b e) n len (ints cuts) (ints dens) z z' q.num q.den (rsp l) (l.length:Int) (i:Int)) (q+sumV (dV (vX cuts dens)) (l.drop i)):=by
 intro r
 induction r with
 | zero =>
  intro i n q hi hn hq
  obtain ⟨n,rfl⟩:∃ m,n=m+1:=⟨n-1,by omega⟩
  obtain rfl:i=l.length:=by omega
  rw [qB1]
  have e:q+sumV (dV (vX cuts dens)) []=q:=Rat.add_zero q
  rw [e]
  refine .inr ⟨hq,fun K=>?_⟩
  dsimp only
  rw [yaH,cbF (by omega)]
 | succ r ih =>
  intro i n q hi hn hq
  obtain ⟨n,rfl⟩:∃ m,n=m+1:=⟨n-1,by omega⟩
  have hil:i<l.length:=by omega
  have e1:=wib (n:=(i:Int)+1) (by omega) (by omega)
  have hd:l.drop i=l.getD i default::l.drop (i+1):=ybi default hil
  have hm:l.getD i default∈l:=by
   rw [qAd,qAa hil]
   exact qBj hil
  have hx:=hs _ hm
  have hx2:=hv _ hm
  have hx3:=hw _ hm
  rw [hd]
  have step:∀ K:Int→Int→Int→Prop,yaH yaD yaL yaB yaT yaW (fun _ _ _ _ _ a b _ _ _ _=>K a b 0) (fun _ _ _ a b e=>K a b e) (n+1) len (ints cuts) (ints dens) z z' q.num q.den (rsp l) (l.length:Int) (i:Int) =
    yaT len (ints cuts) (ints dens) (l.getD i default).1.num (l.getD i default).1.den (l.getD i default).2.num (l.getD i default).2.den (fun a b e=>cbr (e != 0) (K 0 0 e) (yaW q.num q.den a b (fun a b e=>cbr (e != 0) (K 0 0 e) (yaH yaD yaL yaB yaT yaW (fun _ _ _ _ _ a b _ _ _ _=>K a b 0) (fun _ _ _ a b e=>K a b e) n len (ints cuts) (ints dens) z z' a b (rsp l) (l.length:Int) ((i+1:Nat):Int))))):=fun K=>by
   rw [yaH,cbT (by omega)]
   dsimp only [lt]
   rw [yaM,asT (by omega),asT (by omega),qAe,yfh hil,asR,yms,yrY,ymt,ymu,e1,ybM]
  generalize hq1:l.getD i default=t at hx hx2 hx3 step
  have es:q+sumV (dV (vX cuts dens)) (t::l.drop (i+1))=(q+dV (vX cuts dens) t)+sumV (dV (vX cuts dens)) (l.drop (i+1)):=by
   show q+(dV (vX cuts dens) t+sumV (dV (vX cuts dens)) (l.drop (i+1)))=_
   grind
  rw [es]
  rcases yGn h hx hx2 hx3 with ⟨c,hc,ec⟩ | ⟨sc,ec⟩
  ·dsimp only at ec
   refine .inl ⟨c,hc,fun K=>?_⟩
   show yaH _ _ _ _ _ _ _ _ _ _ _ _ _ _ _ _ _ _=_
   rw [step,ec,cnT (show c≠0 by omega)]
  ·dsimp only at ec
   by_cases hsm:small (q+dV (vX cuts dens) t)
   ·rcases ih (i+1) n _ (by omega) (by omega) hsm with ⟨c,hc,e2⟩ | ⟨s2,e2⟩
    ·refine .inl ⟨c,hc,fun K=>?_⟩
     show yaH _ _ _ _ _ _ _ _ _ _ _ _ _ _ _ _ _ _=_
     rw [step,ec,nz,yqK hq sc]
     unfold fitK
     rw [if_pos hsm]
     dsimp only
     rw [nz]
     exact e2 K
    ·refine .inr ⟨s2,fun K=>?_⟩
     show yaH _ _ _ _ _ _ _ _ _ _ _ _ _ _ _ _ _ _=_
     rw [step,ec,nz,yqK hq sc]
     unfold fitK
     rw [if_pos hsm]
     dsimp only
     rw [nz]
     exact e2 K
   ·refine .inl ⟨16,by decide,fun K=>?_⟩
    show yaH _ _ _ _ _ _ _ _ _ _ _ _ _ _ _ _ _ _=_
    rw [step,ec,nz,yqK hq sc]
    unfold fitK
    rw [if_neg hsm]
    rfl
theorem yNz {w w':(Int→Int→Int→Prop)→Prop} {t:Rat} (det:∀ r0 r1 r2,(∀ K:Int→Int→Int→Prop,K r0 r1 r2→w K)→∀ K,w K=K r0 r1 r2) (key:∀ K,w' K→w K) (h:outW w' t):outW w t:=by
 rcases h with ⟨c,hc,e⟩ | ⟨s,e⟩
 ·exact .inl ⟨c,hc,det _ _ _ fun K k=>key K (by rw [e];exact k)⟩
 ·exact .inr ⟨s,det _ _ _ fun K k=>key K (by rw [e];exact k)⟩
theorem yJt (q r:Rat):decide (cmpQ q r>0)=decide (r<q):=by
 rw [← Bool.not_eq_not,← yEn,Bool.eq_iff_iff]
 simp only [decide_eq_true_eq]
 omega
theorem Pc.outWorth {l:List RS} (p:Pc l) (h:VC len cuts dens) (hw:Wi len l):outW (fun K=>ybc len (ints cuts) (ints dens) (rsp l) K) (sumV (dV (vX cuts dens)) l):=by
 have l1:=h.l1;have l2:=h.l2;have l0:=h.len0;have hn:=p.n
 have hl:=yIk h p.s (yqk p.c) hw (by omega) 0 0 l.length 0 (l.length+1) 0 (by omega) (by omega) ykz
 rw [qAt,Rat.zero_add] at hl
 refine yNz (fun r0 r1 r2 h K=>yoy _ _ _ _ _ _ _ h K) (fun K k=>?_) hl
 unfold ybc yhj
 rw [yjo (by omega) (by omega),h.ck,nz,p.check,nz]
 dsimp only [Go.Pf.jn,lt]
 rw [yaM]
 have fin:∃ n,yaH yaD yaL yaB yaT yaW (fun _ _ _ _ _ a b _ _ _ _=>K a b 0) (fun _ _ _ a b e=>K a b e) n len (ints cuts) (ints dens) 0 0 0 1 (rsp l) (l.length:Int) 0:=⟨l.length+1,k⟩
 by_cases hl0:l.length=0
 ·rw [cbF (by omega),yab]
  exact fin
 ·have h0:0<l.length:=by omega
  have m0:l.getD 0 default∈l:=by
   rw [qAd,qAa h0]
   exact qBj h0
  have m1:l.getD (l.length-1) default∈l:=by
   rw [qAd,qAa (by omega)]
   exact qBj (by omega)
  have w0:=hw _ m0
  have w1:=hw _ m1
  have s1:=p.s _ m1
  have n0:0≤(l.getD 0 default).1.num:=Rat.num_nonneg.2 w0.1
  have e1:=wib (n:=(l.length:Int)-1) (by omega) (by omega)
  have et:((l.length:Int)-1).toNat=l.length-1:=by omega
  rw [cbT (by omega),asT (by omega),yfh h0,asR,yms,cbF (by omega),e1,asT (by omega),asT (by omega),et,yfh (by omega),asR,ymt,ymu]
  have sl:small (len:Rat):=yfb (by omega)
  show yaB (l.getD (l.length-1) default).2.num (l.getD (l.length-1) default).2.den (len:Rat).num ((len:Rat).den:Int) _
  rw [ykw s1.2 sl,yJt,cbF (by grind)]
  exact fin
end
end Go.Pf.Vc
namespace Go.Pf.Vc
open Go Go.Pf
def yuM (len:Int) (l:List RS):Bool:=l.all fun s=>decide (PT len s.1.num s.1.den)&&decide (PT len s.2.num s.2.den)
theorem yL6 {len:Int} {l:List RS} (h:yuM len l=true):Wi len l:=fun s hs=>by
 have:=qB7.1 h s hs
 simp only [qAb,decide_eq_true_eq] at this
 obtain ⟨h1,h2⟩:=this
 have p1:=h1.pt
 have p2:=h2.pt
 rw [ydq] at p1 p2
 exact ⟨p1.2.2.2.1,p2.2.2.2.2⟩
theorem yGo {len:Int} (h0:-1000000000000000000≤len∧len≤1000000000000000000) {l:List RS} (hs:∀ s∈l,ycb s) (hl:l.length<1000) {K:Bool→Prop} :
  ∀ (r i n:Nat),i+r=l.length→r<n→ydG yfF (fun _ _ _ _=>K true) (fun b=>K b) n len (rsp l) (i:Int)=K (yuM len (l.drop i)):=by
 intro r
 induction r with
 | zero =>
  intro i n hi hn
  obtain ⟨n,rfl⟩:∃ m,n=m+1:=⟨n-1,by omega⟩
  obtain rfl:i=l.length:=by omega
  rw [ydG,yaM,cbF (by omega),qB1]
  rfl
 | succ r ih =>
  intro i n hi hn
  obtain ⟨n,rfl⟩:∃ m,n=m+1:=⟨n-1,by omega⟩
  have hil:i<l.length:=by omega
  have e1:=wib (n:=(i:Int)+1) (by omega) (by omega)
  have hd:l.drop i=l.getD i default::l.drop (i+1):=ybi default hil
  have hx:=yfI hs hil
  have IH:=ih (i+1) n (by omega) (by omega)
  generalize hq:l.getD i default=t at hx hd
  have e:yuM len (t::l.drop (i+1))=((decide (PT len t.1.num t.1.den)&&decide (PT len t.2.num t.2.den))&&yuM len (l.drop (i+1))):=rfl
  rw [ydG,hd,e]
  dsimp only [lt,Go.Pf.jn]
  simp (discharger:=omega) only [yaM,cbT,asT,qAe,yfh,hq,asR,yms,yrY,ymt,ymu,e1,yCj h0 hx.1.i1 hx.1.i2,yCj h0 hx.2.i1 hx.2.i2]
  cases decide (PT len t.1.num t.1.den) with
  | false=>rfl
  | true =>
   rw [qBl,yab,qAy]
   cases decide (PT len t.2.num t.2.den) with
   | false=>rfl
   | true =>
    rw [qBl,yab,qAy,ybM]
    exact IH
theorem Pc.within {len:Int} (h0:-1000000000000000000≤len∧len≤1000000000000000000) {l:List RS} (h:Pc l) (K:Bool→Prop):ycG len (rsp l) K=K (yuM len l):=by
 refine yzo _ _ _ (fun K k=>?_) K
 unfold ycG yll
 refine ⟨l.length+1,?_⟩
 have:=yGo h0 h.s (by have:=h.n;omega) (K:=K) l.length 0 (l.length+1) (by omega) (by omega)
 rw [qAt] at this
 exact this.mpr k
end Go.Pf.Vc
namespace Go.Pf.Vc
open Go Go.Pf
section
variable {len:Int} {cuts dens:List Int}
theorem yNA (h:VC len cuts dens) {i:Nat} (hi:i+1<cuts.length) {x y:Rat} (hxy:x≤y):uC cuts i x≤uC cuts i y:=by
 have hst:((cuts.getD i 0:Int):Rat)<((cuts.getD (i+1) 0:Int):Rat):=Rat.intCast_lt_intCast.2 (h.step (i:=i) hi)
 have m1:=yia x (cuts.getD i 0:Int)
 have m2:=yia y (cuts.getD i 0:Int)
 have n1:=ykV (maxR x (cuts.getD i 0:Int)) (cuts.getD (i+1) 0:Int)
 have n2:=ykV (maxR y (cuts.getD i 0:Int)) (cuts.getD (i+1) 0:Int)
 unfold uC
 grind
theorem yOV (h:VC len cuts dens) {i:Nat} (hi:i<dens.length):(0:Rat)≤((dens.getD i 0:Int):Rat):=Rat.intCast_nonneg.2 (h.den hi).1
theorem yJu (h:VC len cuts dens) {x y:Rat} (hxy:x≤y):∀ (r i:Nat),i+r=dens.length→vu cuts dens x r i≤vu cuts dens y r i
 | 0,_,_=>qB9
 | r+1,i,hi=>by
  have l1:=h.l1
  have h1:=yNA h (i:=i) (by omega) hxy
  have h2:=yJu h hxy r (i+1) (by omega)
  have h3:=Rat.mul_le_mul_of_nonneg_left h1 (yOV h (i:=i) (by omega))
  unfold vu
  grind
theorem yEp (h:VC len cuts dens) {x y:Rat} (hxy:x≤y):vX cuts dens x≤vX cuts dens y:=yJu h hxy dens.length 0 (by omega)
theorem VC.last (h:VC len cuts dens):cuts.getD dens.length 0=len:=by
 have l1:=h.l1
 have:=h.2.2.2.2.2.2.1
 rw [show dens.length=cuts.length-1 by omega]
 exact this
end
end Go.Pf.Vc
namespace Go.Pf.Vc
open Go Go.Pf
def In (D:Int) (q:Rat):Prop:=∃ n:Int,q=(n:Rat) / (D:Rat)
theorem In.int {D:Int} (h:1≤D) (c:Int):In D (c:Rat):=⟨c*D,by rw [Rat.intCast_mul,Rat.mul_div_cancel (rne h)]⟩
theorem In.add {D:Int} {q r:Rat} (h:In D q) (k:In D r):In D (q+r):=by
 obtain ⟨n,rfl⟩:=h
 obtain ⟨m,rfl⟩:=k
 exact ⟨n+m,by rw [Rat.intCast_add];grind⟩
theorem In.sub {D:Int} {q r:Rat} (h:In D q) (k:In D r):In D (q-r):=by
 obtain ⟨n,rfl⟩:=h
 obtain ⟨m,rfl⟩:=k
 exact ⟨n-m,by rw [Rat.intCast_sub];grind⟩
theorem In.mulI {D:Int} {q:Rat} (h:In D q) (d:Int):In D (q*(d:Rat)):=by
 obtain ⟨n,rfl⟩:=h
 exact ⟨n*d,by rw [Rat.intCast_mul];grind⟩
theorem In.div {D d:Int} {q:Rat} (hD:1≤D) (hd:1≤d) (h:In D q):In (d*D) (q / (d:Rat)):=by
 obtain ⟨n,rfl⟩:=h
 have h1:=rne hD
 have h2:=rne hd
 refine ⟨n,?_⟩
 rw [Rat.intCast_mul]
 grind
theorem In.small {D M:Int} {q:Rat} (h:In D q) (hD:1≤D∧D≤1000000000000000000) (hM:M*D≤1000000000000000000) (h0:-(M:Rat)≤q) (h1:q≤(M:Rat)):small q:=by
 obtain ⟨n,rfl⟩:=h
 have hp:(0:Rat)<(D:Rat):=Rat.intCast_pos.2 (by omega)
 have e:(n:Rat) / (D:Rat)*(D:Rat)=(n:Rat):=Rat.div_mul_cancel (rne hD.1)
 have a:=Rat.mul_le_mul_of_nonneg_right h0 (Rat.le_of_lt hp)
 have b:=Rat.mul_le_mul_of_nonneg_right h1 (Rat.le_of_lt hp)
 rw [e] at a b
 have a':((-(M*D):Int):Rat)≤(n:Rat):=by rw [Rat.intCast_neg,Rat.intCast_mul];grind
 have b':(n:Rat)≤((M*D:Int):Rat):=by rw [Rat.intCast_mul];exact b
 have a2:=qA0.1 a'
 have b2:=qA0.1 b'
 exact yKm (d:=D) ⟨by omega,by omega⟩ ⟨by omega,by omega⟩
section
variable {len:Int} {cuts dens:List Int}
theorem yEq (h:VC len cuts dens) {i j:Nat} (hij:i≤j) (hj:j≤dens.length):((cuts.getD i 0:Int):Rat)≤((cuts.getD j 0:Int):Rat):=qA0.2 (h.mono hij (by have:=h.l1;omega))
theorem yPr {D:Int} (hD:1≤D) {x:Rat} (hx:In D x) (i:Nat):In D (uC cuts i x):=by
 have n1:=ykV (maxR x (cuts.getD i 0:Int)) (cuts.getD (i+1) 0:Int)
 have m1:=yia x (cuts.getD i 0:Int)
 unfold uC
 rcases n1.2.2 with e | e
 ·rw [e]
  rcases m1.2.2 with e2 | e2
  ·rw [e2];exact hx
  ·rw [e2];exact In.int hD _
 ·rw [e];exact In.int hD _
theorem yOh {D:Int} (hD:1≤D) {x:Rat} (hx:In D x):∀ (r i:Nat),In D (vu cuts dens x r i)
 | 0,_=>In.int hD 0
 | r+1,i=>by
  unfold vu
  rw [Rat.mul_comm]
  exact ((yPr hD hx i).mulI _).add (yOh hD hx r (i+1))
theorem yOi {D:Int} (hD:1≤D) {x:Rat} (hx:In D x):In D (vX cuts dens x):=yOh hD hx _ _
theorem yL7 (h:VC len cuts dens):∀ (r i:Nat),i+r=dens.length→vu cuts dens (len:Rat) r i-vu cuts dens ((cuts.getD i 0:Int):Rat) r i=((rem cuts dens r i:Int):Rat)
 | 0,_,_=>by unfold vu rem;show (0:Rat)-0=0;grind
 | r+1,i,hi=>by
  have ih:=yL7 h r (i+1) (by omega)
  have hst:((cuts.getD i 0:Int):Rat)≤((cuts.getD (i+1) 0:Int):Rat):=yEq h (Nat.le_succ i) (by omega)
  have hl:((cuts.getD (i+1) 0:Int):Rat)≤(len:Rat):=by rw [← h.last];exact yEq h (by omega) (qAl _)
  have low:=yIi h r (i+1) (x:=((cuts.getD i 0:Int):Rat)) (y:=((cuts.getD (i+1) 0:Int):Rat)) (by omega) hst qB9
  have m1:=yia (len:Rat) (cuts.getD i 0:Int)
  have n1:=ykV (maxR (len:Rat) (cuts.getD i 0:Int)) (cuts.getD (i+1) 0:Int)
  have m2:=yia ((cuts.getD i 0:Int):Rat) (cuts.getD i 0:Int)
  have n2:=ykV (maxR ((cuts.getD i 0:Int):Rat) (cuts.getD i 0:Int)) (cuts.getD (i+1) 0:Int)
  have e1:uC cuts i (len:Rat)=((cuts.getD (i+1) 0:Int):Rat):=by unfold uC;grind
  have e2:uC cuts i ((cuts.getD i 0:Int):Rat)=((cuts.getD i 0:Int):Rat):=by unfold uC;grind
  unfold vu rem
  rw [e1,e2,low,Rat.intCast_add,Rat.intCast_mul,Rat.intCast_sub,← ih]
  grind
theorem yOW (h:VC len cuts dens):vX cuts dens (len:Rat)-vX cuts dens 0=((totC cuts dens:Int):Rat):=by
 have c0:cuts.getD 0 0=0:=h.2.2.2.2.2.1
 have:=yL7 h dens.length 0 (by omega)
 rw [c0] at this
 unfold totC
 rw [yzS,show (0:Int)+rem cuts dens dens.length 0=rem cuts dens dens.length 0 by omega]
 exact this
end
end Go.Pf.Vc
namespace Go.Pf.Vc
open Go Go.Pf
section
variable {len:Int} {cuts dens:List Int}
theorem yNB (h:VC len cuts dens):(1:Rat)≤(len:Rat)∧(len:Rat)≤1000:=by
 have:=h.len0
 exact ⟨qA0.2 this.1,qA0.2 this.2⟩
theorem yNC (h:VC len cuts dens) {i:Nat} (hi:i<dens.length):(0:Rat)≤((dens.getD i 0:Int):Rat)∧((dens.getD i 0:Int):Rat)≤12:=by
 have:=h.den hi
 exact ⟨qA0.2 this.1,qA0.2 this.2⟩
theorem yND {x d:Rat} (h0:0≤x) (hd:0≤d∧d≤12):0≤x*d∧x*d≤12*x:=by
 have a:=Rat.mul_nonneg h0 hd.1
 have b:=Rat.mul_le_mul_of_nonneg_left hd.2 h0
 exact ⟨a,by grind⟩
theorem ywj (h:VC len cuts dens) {D:Int} (hD:1≤D∧D≤50000000000000) {b:Rat} (hb:In D b) (b1:b≤(len:Rat)) :
  ∀ (r i:Nat) (p sum:Rat),i+r=dens.length→In D p→In D sum→0≤p→p≤(len:Rat)→0≤sum→sum≤12*p→∃ v,valS cuts dens b r i p sum=.ok v
 | 0,i,p,sum,_,_,_,_,_,_,_=>⟨sum,rfl⟩
 | r+1,i,p,sum,hi,hp,hs,p0,p1,s0,s1=>by
  have l1:=h.l1
  have hl:=yNB h
  have hd:=yNC h (i:=i) (by omega)
  have hc1:((cuts.getD (i+1) 0:Int):Rat)≤(len:Rat):=by rw [← h.last];exact yEq h (by omega) (qAl _)
  unfold valS
  have hen:∃ en:Rat,(if b<((cuts.getD (i+1) 0:Int):Rat) then b else ((cuts.getD (i+1) 0:Int):Rat))=en∧In D en∧en≤(len:Rat):=by
   refine ⟨_,rfl,?_,?_⟩
   ·split
    ·exact hb
    ·exact In.int hD.1 _
   ·split <;> grind
  obtain ⟨en,e0,e1,e2⟩:=hen
  rw [e0]
  dsimp only
  split
  ·refine ywj h hD hb b1 r (i+1) _ sum (by omega) ?_ hs ?_ ?_ s0 ?_
   ·split
    ·exact e1
    ·exact hp
   ·split <;> grind
   ·split <;> grind
   ·split <;> grind
  ·rename_i hn
   have hlt:p<en:=by
    refine Classical.byContradiction fun k=>hn (.inr k)
   have m:=yND (x:=en-p) (by grind) hd
   have i1:=e1.sub hp
   have i2:=i1.mulI (dens.getD i 0)
   have i3:=hs.add i2
   rw [yIb (i1.small (M:=1000) ⟨by omega,by omega⟩ (by omega) (by show -(1000:Rat)≤_;grind) (by show _≤(1000:Rat);grind)),
    yIb (i2.small (M:=12000) ⟨by omega,by omega⟩ (by omega) (by show -(12000:Rat)≤_;grind) (by show _≤(12000:Rat);grind)),
    yIb (i3.small (M:=12000) ⟨by omega,by omega⟩ (by omega) (by show -(12000:Rat)≤_;grind) (by show _≤(12000:Rat);grind))]
   exact ywj h hD hb b1 r (i+1) en _ (by omega) e1 i3 (by grind) e2 (by grind) (by grind)
theorem yKr (h:VC len cuts dens) {D:Int} (hD:1≤D∧D≤50000000000000) {a b:Rat} (ha:In D a) (hb:In D b) (a0:0≤a) (hab:a≤b) (b1:b≤(len:Rat)):valC cuts dens a b=.ok (vX cuts dens b-vX cuts dens a):=by
 obtain ⟨v,e⟩:=ywj h hD hb b1 dens.length 0 a 0 (by omega) ha (In.int hD.1 0) a0 (by grind) (by grind) (by grind)
 have e:valC cuts dens a b=.ok v:=e
 rw [e,yJs h a0 hab e]
end
end Go.Pf.Vc
namespace Go.Pf.Vc
open Go Go.Pf
set_option maxRecDepth 100000
def UL (E:Env) (callK:CK) (lp:LP) (b:TCode):Nat→Frm→Hp→(Ex→Frm→Hp→Prop)→Prop
 | 0,_,_,_=>False
 | n+1,F,H,Q=>WC E callK lp [] noYK b F H fun x F' H'=>match x with | .norm=>UL E callK lp b n F' H' Q | .exit i=>Q (.exit i) F' H' | .ret=>Q .ret F' H' | .brk k i=>Q (.brk k i) F' H'
theorem yL8 {E:Env} {P:EP} {id:Nat} {callK:CK} {lp:LP} {b:TCode} (hP:Sub P E) (hG:Good P callK) (hf:ydS b=true) (hl:LpOk P E lp [] b) {n:Nat} {F:Frm} {H:Hp} {Q:Ex→Frm→Hp→Prop} (h:UL E callK lp b n F H Q):yo7 P (.loop id b) F H Q :=
 yo7.intro hP hG hf (YOk.no _ _) hl (fun n F H=>UL E callK lp b n F H Q) (fun _ _ h=>h) (fun _ _ _ h=>h) n F H h
section
variable (e:Es) (fa fb fe:PV→PV→Int)
def WG (c p:PV):Prop:=Ans (E e) ybQ [c,p] (.tup [.agg [.int .i64 (fa c p),.int .i64 (fb c p)],.int .i64 (fe c p)])
def wpWr (as:List PV) (K:PV→Prop):Prop :=
 match as with
 | [c,p]=>WG e fa fb fe c p∧K (.tup [.agg [.int .i64 (fa c p),.int .i64 (fb c p)],.int .i64 (fe c p)])
 | _=>False
def wpCk (as:List PV) (K:PV→Prop):Prop:=Ans (E e) ycj as (.int .i64 0)∧K (.int .i64 0)
def sW0:SE:=⟨E e,ygj [(ycj,wpCk e),(ybQ,wpWr e fa fb fe)],ygk [],fun _ _ _ _ _=>False,fun _=>none⟩
def lpW1:LP:=fun id _ F H Q=>bif Nat.beq id 14283600 then UL (E e) (ylN (sW0 e fa fb fe) 1) (fun _ _ _ _ _=>False) yhK 8 F H Q else False
def lpW:LP:=fun id _ F H Q=>bif Nat.beq id 14283600 then UL (E e) (ylN (sW0 e fa fb fe) 1) (fun _ _ _ _ _=>False) yhK 8 F H Q else
 bif Nat.beq id 14283601 then UL (E e) (ylN (sW0 e fa fb fe) 1) (lpW1 e fa fb fe) ym2 8 F H Q else False
def seqW (K:Option PV→Prop):List (PV×PV)→Prop→Prop
 | [],fin=>fin
 | q::r,fin=>WG e fa fb fe q.1 q.2∧cbr (fe q.1 q.2 != 0) (K (some (.tup [.data [],.int .i64 (fe q.1 q.2)]))) (seqW K r fin)
def prs (cs:List Ck) (ps:List (List PV)):List (PV×PV):=cs.flatMap fun c=>ps.map fun p=>(encC c,.data p)
def wtab (cs:List Ck) (ps:List (List PV)):List PV:=cs.map fun c=>.data (ps.map fun p=>.agg [.int .i64 (fa (encC c) (.data p)),.int .i64 (fb (encC c) (.data p))])
def pcsD (ps:List (List PV)):List PV:=ps.map fun p=>.data p
def wRun (cs:List Ck) (ps:List (List PV)) (K:Option PV→Prop):Prop :=
 WFn (E e) (ylN (sW0 e fa fb fe) 1) (lpW e fa fb fe) yry [.data (cks cs),.agg [.data (pcsD ps)]] [] fun r H=>K (purN true H r)
def wAns (cs:List Ck) (ps:List (List PV)) (K:Option PV→Prop):Prop :=
 Ans (E e) ycj [.data (cks cs),.agg [.data (pcsD ps)]] (.int .i64 0)∧seqW e fa fb fe K (prs cs ps) (K (some (.tup [.data (wtab fa fb cs ps),.int .i64 0])))
theorem yPs (c0:Ck) (p0:List PV) (K:Option PV→Prop):wRun e fa fb fe [c0] [p0] K=wAns e fa fb fe [c0] [p0] K:=by kernel_rfl
theorem yPt (c0 c1:Ck) (p0 p1:List PV) (K:Option PV→Prop):wRun e fa fb fe [c0,c1] [p0,p1] K=wAns e fa fb fe [c0,c1] [p0,p1] K:=by kernel_rfl
theorem yPu (c0 c1 c2:Ck) (p0 p1 p2:List PV) (K:Option PV→Prop):wRun e fa fb fe [c0,c1,c2] [p0,p1,p2] K=wAns e fa fb fe [c0,c1,c2] [p0,p1,p2] K:=by kernel_rfl
theorem yPv (c0 c1 c2 c3:Ck) (p0 p1 p2 p3:List PV) (K:Option PV→Prop):wRun e fa fb fe [c0,c1,c2,c3] [p0,p1,p2,p3] K=wAns e fa fb fe [c0,c1,c2,c3] [p0,p1,p2,p3] K:=by kernel_rfl
theorem yPw (c0 c1 c2 c3 c4:Ck) (p0 p1 p2 p3 p4:List PV) (K:Option PV→Prop):wRun e fa fb fe [c0,c1,c2,c3,c4] [p0,p1,p2,p3,p4] K=wAns e fa fb fe [c0,c1,c2,c3,c4] [p0,p1,p2,p3,p4] K:=by kernel_rfl
theorem yPx (c0 c1 c2 c3 c4 c5:Ck) (p0 p1 p2 p3 p4 p5:List PV) (K:Option PV→Prop):wRun e fa fb fe [c0,c1,c2,c3,c4,c5] [p0,p1,p2,p3,p4,p5] K=wAns e fa fb fe [c0,c1,c2,c3,c4,c5] [p0,p1,p2,p3,p4,p5] K:=by kernel_rfl
theorem yOj (he:EG e):SEOk (Uni (E e)) (sW0 e fa fb fe) :=
 yao (Sub.uni _) ⟨fun _ _ h=>⟨_,h.2,h.1⟩,fun as K h=>by
  unfold wpWr at h
  split at h
  ·exact ⟨_,h.2,h.1⟩
  ·exact h.elim,trivial⟩ trivial he.ok
theorem yOX (he:EG e):LpOk (Uni (E e)) (E e) (lpW e fa fb fe) [] yry.body:=by
 have hG:=yaI (yOj e fa fb fe he) 1
 have h0:LpOk (Uni (E e)) (E e) (fun _ _ _ _ _=>False) [] yhK:=yaj (by kernel_rfl)
 have h1:LpOk (Uni (E e)) (E e) (lpW1 e fa fb fe) [] ym2:=ybb (l:=[(14283600,.loop 14283600 yhK)]) ⟨fun F H Q h=>yL8 (Sub.uni _) hG (by kernel_rfl) h0 h,trivial⟩ (by kernel_rfl)
 exact ybb (l:=[(14283600,.loop 14283600 yhK),(14283601,.loop 14283601 ym2)]) ⟨fun F H Q h=>yL8 (Sub.uni _) hG (by kernel_rfl) h0 h,fun F H Q h=>yL8 (Sub.uni _) hG (by kernel_rfl) h1 h,trivial⟩ (by kernel_rfl)
theorem yKs (he:EG e) {cs:List Ck} {ps:List (List PV)} {K:PV→Prop} (h:wRun e fa fb fe cs ps fun o=>∃ q,o=some q∧K q):∃ q,K q∧Ans (E e) yaR [.data (cks cs),.agg [.data (pcsD ps)]] q:=by
 have hf:(E e).fns yaR=some yry.fn:=by kernel_rfl
 have hx:∀ as H,(E e).eff yaR as H=none:=he.num _ (by kernel_rfl)
 obtain ⟨r,H',⟨q,hp,hk⟩,m0,hm⟩:=yHB (S:=⟨E e,fun _=>none,fun _=>none,lpW e fa fb fe,fun _=>none⟩) (callK:=ylN (sW0 e fa fb fe) 1) (Sub.uni _) (yaI (yOj e fa fb fe he) 1) (fn:=yry) yop.flat (yOX e fa fb fe he) (n:=yaR) hf hx h
 refine ⟨q,hk,m0,fun k x m hk1 hk2 hle=>?_⟩
 obtain ⟨_,l2,l3,_,_,l6,_⟩:=yg5 hk2
 have hs:(E e).sum yaR [.data (cks cs),.agg [.data (pcsD ps)]]=none:=yaJ (by kernel_rfl) _
 have hq:(E e).qui yaR=true:=by kernel_rfl
 have hn:(E e).nl yaR=true:=by kernel_rfl
 have hm':ybS x m yaR [.data (cks cs),.agg [.data (pcsD ps)]] []=some (r,H'):=hm k x m hk1 hk2 hle
 unfold yeq
 rw [l2,hs,l3,hq,hm',l6,hn]
 exact hp
end
theorem yaP {α:Type} {l:List α} {n:Nat} (h:l.length=n+1):∃ a r,l=a::r∧r.length=n:=by
 cases l with
 | nil=>cases h
 | cons a r=>exact ⟨a,r,rfl,by simpa using h⟩
theorem yL9 (e:Es) (fa fb fe:PV→PV→Int) {cs:List Ck} {ps:List (List PV)} (hl:ps.length=cs.length) (h1:1≤cs.length) (h6:cs.length≤6) (K:Option PV→Prop):wRun e fa fb fe cs ps K=wAns e fa fb fe cs ps K:=by
 obtain ⟨n,hn⟩:∃ n,cs.length=n:=⟨_,rfl⟩
 rw [hn] at hl h1 h6
 obtain rfl | rfl | rfl | rfl | rfl | rfl:n=1∨n=2∨n=3∨n=4∨n=5∨n=6:=by omega
 ·obtain ⟨c0,cr0,hc0,hn0⟩:=yaP hn
  subst hc0
  have hzc:=qAj hn0
  subst hzc
  obtain ⟨p0,pr0,hp0,hl0⟩:=yaP hl
  subst hp0
  have hzp:=qAj hl0
  subst hzp
  exact yPs e fa fb fe c0 p0 K
 ·obtain ⟨c0,cr0,hc0,hn0⟩:=yaP hn
  subst hc0
  obtain ⟨c1,cr1,hc1,hn1⟩:=yaP hn0
  subst hc1
  have hzc:=qAj hn1
  subst hzc
  obtain ⟨p0,pr0,hp0,hl0⟩:=yaP hl
  subst hp0
  obtain ⟨p1,pr1,hp1,hl1⟩:=yaP hl0
  subst hp1
  have hzp:=qAj hl1
  subst hzp
  exact yPt e fa fb fe c0 c1 p0 p1 K
 ·obtain ⟨c0,cr0,hc0,hn0⟩:=yaP hn
  subst hc0
  obtain ⟨c1,cr1,hc1,hn1⟩:=yaP hn0
  subst hc1
  obtain ⟨c2,cr2,hc2,hn2⟩:=yaP hn1
  subst hc2
  have hzc:=qAj hn2
  subst hzc
  obtain ⟨p0,pr0,hp0,hl0⟩:=yaP hl
  subst hp0
  obtain ⟨p1,pr1,hp1,hl1⟩:=yaP hl0
  subst hp1
  obtain ⟨p2,pr2,hp2,hl2⟩:=yaP hl1
  subst hp2
  have hzp:=qAj hl2
  subst hzp
  exact yPu e fa fb fe c0 c1 c2 p0 p1 p2 K
 ·obtain ⟨c0,cr0,hc0,hn0⟩:=yaP hn
  subst hc0
  obtain ⟨c1,cr1,hc1,hn1⟩:=yaP hn0
  subst hc1
  obtain ⟨c2,cr2,hc2,hn2⟩:=yaP hn1
  subst hc2
  obtain ⟨c3,cr3,hc3,hn3⟩:=yaP hn2
  subst hc3
  have hzc:=qAj hn3
  subst hzc
  obtain ⟨p0,pr0,hp0,hl0⟩:=yaP hl
  subst hp0
  obtain ⟨p1,pr1,hp1,hl1⟩:=yaP hl0
  subst hp1
  obtain ⟨p2,pr2,hp2,hl2⟩:=yaP hl1
  subst hp2
  obtain ⟨p3,pr3,hp3,hl3⟩:=yaP hl2
  subst hp3
  have hzp:=qAj hl3
  subst hzp
  exact yPv e fa fb fe c0 c1 c2 c3 p0 p1 p2 p3 K
 ·obtain ⟨c0,cr0,hc0,hn0⟩:=yaP hn
  subst hc0
  obtain ⟨c1,cr1,hc1,hn1⟩:=yaP hn0
  subst hc1
  obtain ⟨c2,cr2,hc2,hn2⟩:=yaP hn1
  subst hc2
  obtain ⟨c3,cr3,hc3,hn3⟩:=yaP hn2
  subst hc3
  obtain ⟨c4,cr4,hc4,hn4⟩:=yaP hn3
  subst hc4
  have hzc:=qAj hn4
  subst hzc
  obtain ⟨p0,pr0,hp0,hl0⟩:=yaP hl
  subst hp0
  obtain ⟨p1,pr1,hp1,hl1⟩:=yaP hl0
  subst hp1
  obtain ⟨p2,pr2,hp2,hl2⟩:=yaP hl1
  subst hp2
  obtain ⟨p3,pr3,hp3,hl3⟩:=yaP hl2
  subst hp3
  obtain ⟨p4,pr4,hp4,hl4⟩:=yaP hl3
  subst hp4
  have hzp:=qAj hl4
  subst hzp
  exact yPw e fa fb fe c0 c1 c2 c3 c4 p0 p1 p2 p3 p4 K
 ·obtain ⟨c0,cr0,hc0,hn0⟩:=yaP hn
  subst hc0
  obtain ⟨c1,cr1,hc1,hn1⟩:=yaP hn0
  subst hc1
  obtain ⟨c2,cr2,hc2,hn2⟩:=yaP hn1
  subst hc2
  obtain ⟨c3,cr3,hc3,hn3⟩:=yaP hn2
  subst hc3
  obtain ⟨c4,cr4,hc4,hn4⟩:=yaP hn3
  subst hc4
  obtain ⟨c5,cr5,hc5,hn5⟩:=yaP hn4
  subst hc5
  have hzc:=qAj hn5
  subst hzc
  obtain ⟨p0,pr0,hp0,hl0⟩:=yaP hl
  subst hp0
  obtain ⟨p1,pr1,hp1,hl1⟩:=yaP hl0
  subst hp1
  obtain ⟨p2,pr2,hp2,hl2⟩:=yaP hl1
  subst hp2
  obtain ⟨p3,pr3,hp3,hl3⟩:=yaP hl2
  subst hp3
  obtain ⟨p4,pr4,hp4,hl4⟩:=yaP hl3
  subst hp4
  obtain ⟨p5,pr5,hp5,hl5⟩:=yaP hl4
  subst hp5
  have hzp:=qAj hl5
  subst hzp
  exact yPx e fa fb fe c0 c1 c2 c3 c4 c5 p0 p1 p2 p3 p4 p5 K
def wPV (t:Int×Int×Int):PV:=.tup [.agg [.int .i64 t.1,.int .i64 t.2.1],.int .i64 t.2.2]
open Classical in
noncomputable def wOf (e:Es) (c p:PV):Int×Int×Int:=if h:∃ t,Ans (E e) ybQ [c,p] (wPV t) then Classical.choose h else (0,0,0)
theorem yEr {e:Es} {c p:PV} {t:Int×Int×Int} (h:Ans (E e) ybQ [c,p] (wPV t)):wOf e c p=t:=by
 have hx:∃ t,Ans (E e) ybQ [c,p] (wPV t):=⟨t,h⟩
 unfold wOf
 rw [dif_pos hx]
 have h2:=Ans.unique (Classical.choose_spec hx) h
 generalize Classical.choose hx=u at h2
 obtain ⟨a,b,c⟩:=u
 obtain ⟨a',b',c'⟩:=t
 unfold wPV at h2
 cases h2
 rfl
theorem yPy {e:Es} {c p:PV} {t:Int×Int×Int} (h:Ans (E e) ybQ [c,p] (wPV t)):WG e (fun c p=>(wOf e c p).1) (fun c p=>(wOf e c p).2.1) (fun c p=>(wOf e c p).2.2) c p:=by
 unfold WG
 have:=yEr h
 dsimp only
 rw [this]
 exact h
theorem yJv {e:Es} {fa fb fe:PV→PV→Int} {K:Option PV→Prop} {fin:Prop}:∀ {l:List (PV×PV)},(∀ q∈l,WG e fa fb fe q.1 q.2)→((∀ q∈l,fe q.1 q.2=0)→fin)→(∀ q∈l,fe q.1 q.2≠0→K (some (.tup [.data [],.int .i64 (fe q.1 q.2)])))→seqW e fa fb fe K l fin
 | [],_,h,_=>h fun q hq=>by cases hq
 | q::r,hg,h,hk=>by
  refine ⟨hg q qAg,?_⟩
  by_cases h0:fe q.1 q.2=0
  ·rw [h0]
   refine yJv (fun x hx=>hg x (qAf _ hx)) (fun hr=>h fun x hx=>?_) fun x hx=>hk x (qAf _ hx)
   rcases qAn.1 hx with rfl | hx
   ·exact h0
   ·exact hr x hx
  ·have e1:(fe q.1 q.2 != 0)=true:=by simpa using h0
   rw [e1]
   exact hk q qAg h0
theorem yOY {e:Es} (he:EG e) {c:Ck} {p:List PV} {t:Int×Int×Int} (h:∀ K:Int→Int→Int→Prop,ybc c.len (ints c.cuts) (ints c.dens) p K=K t.1 t.2.1 t.2.2):Ans (E e) ybQ [encC c,.data p] (wPV t):=by
 have hw:ypy [encC c,.data p] (fun q=>q=wPV t):=by
  have e0:ypy [encC c,.data p] (fun q=>q=wPV t)=ybc c.len (ints c.cuts) (ints c.dens) p (fun r0 r1 r2=>PV.tup [.agg [.int .i64 r0,.int .i64 r1],.int .i64 r2]=wPV t):=by kernel_rfl
  rw [e0,h]
  rfl
 obtain ⟨q,hq,ha⟩:=ypB e he [encC c,.data p] (fun q=>q=wPV t) hw
 rw [hq] at ha
 exact ha
theorem yz2 {cs:List Ck} {ps:List (List PV)} (hl:ps.length=cs.length) (h1:1≤cs.length) (h6:cs.length≤6) (hc:∀ K,ybp (cks cs) (pcsD ps) K=K 0) {F:Ck→List PV→Int×Int×Int}
  (hW:∀ c∈cs,∀ p∈ps,∀ K,ybc c.len (ints c.cuts) (ints c.dens) p K=K (F c p).1 (F c p).2.1 (F c p).2.2) {r0:List PV} {r1:Int}
  (h0:(∀ c∈cs,∀ p∈ps,(F c p).2.2=0)→r0=cs.map (fun c=>.data (ps.map fun p=>.agg [.int .i64 (F c p).1,.int .i64 (F c p).2.1]))∧r1=0)
  (hx:∀ c∈cs,∀ p∈ps,(F c p).2.2≠0→r0=[]∧r1=(F c p).2.2) (K:List PV→Int→Prop):yat (cks cs) (pcsD ps) K=K r0 r1:=by
 refine yxw _ _ _ _ (fun K k=>?_) K
 refine ⟨r0,r1,k,fun e he=>?_⟩
 have hA:∀ c∈cs,∀ p∈ps,Ans (E e) ybQ [encC c,.data p] (wPV (F c p)):=fun c hc p hp=>yOY he (hW c hc p hp)
 have hq:∀ q∈prs cs ps,∃ c∈cs,∃ p∈ps,q=(encC c,PV.data p):=fun q hq=>by
  unfold prs at hq
  obtain ⟨c,hc,hq⟩:=List.mem_flatMap.1 hq
  obtain ⟨p,hp,rfl⟩:=qA2.1 hq
  exact ⟨c,hc,p,hp,rfl⟩
 have hck:Ans (E e) ycj [.data (cks cs),.agg [.data (pcsD ps)]] (.int .i64 0):=by
  have hw:ypZ [.data (cks cs),.agg [.data (pcsD ps)]] (fun q=>q=.int .i64 0):=by
   have e0:ypZ [.data (cks cs),.agg [.data (pcsD ps)]] (fun q=>q=.int .i64 0)=ybp (cks cs) (pcsD ps) (fun r0=>PV.int .i64 r0=.int .i64 0):=by kernel_rfl
   rw [e0,hc]
  obtain ⟨q,hq,ha⟩:=yhp e he [.data (cks cs),.agg [.data (pcsD ps)]] (fun q=>q=.int .i64 0) hw
  rw [hq] at ha
  exact ha
 have hrun:wRun e (fun c p=>(wOf e c p).1) (fun c p=>(wOf e c p).2.1) (fun c p=>(wOf e c p).2.2) cs ps fun o=>∃ q,o=some q∧q=.tup [.data r0,.int .i64 r1]:=by
  rw [yL9 _ _ _ _ hl h1 h6]
  refine ⟨hck,yJv (fun q hq'=>?_) (fun hz=>?_) fun q hq' hn=>?_⟩
  ·obtain ⟨c,hc,p,hp,rfl⟩:=hq q hq'
   exact yPy (hA c hc p hp)
  ·have hz':∀ c∈cs,∀ p∈ps,(F c p).2.2=0:=fun c hc p hp=>by
    have:=hz (encC c,.data p) (List.mem_flatMap.2 ⟨c,hc,qA2.2 ⟨p,hp,rfl⟩⟩)
    dsimp only at this
    rw [yEr (hA c hc p hp)] at this
    exact this
   obtain ⟨e1,e2⟩:=h0 hz'
   refine ⟨_,rfl,?_⟩
   rw [e1,e2]
   unfold wtab
   congr 3
   refine qBq fun c hc=>?_
   congr 1
   refine qBq fun p hp=>?_
   dsimp only
   rw [yEr (hA c hc p hp)]
  ·obtain ⟨c,hc,p,hp,rfl⟩:=hq q hq'
   dsimp only at hn ⊢
   rw [yEr (hA c hc p hp)] at hn ⊢
   obtain ⟨e1,e2⟩:=hx c hc p hp hn
   exact ⟨_,rfl,by rw [e1,e2]⟩
 obtain ⟨q,hq',ha⟩:=yKs e _ _ _ he hrun
 rw [hq'] at ha
 exact ha
end Go.Pf.Vc
namespace Go.Pf.Vc
def yn9 (a b:List RS):Bool:=a.any fun s=>b.any fun t=>decide (s.1<t.2)&&decide (t.1<s.2)
theorem yIl {a b:List RS} (ha:∀ s∈a,s.1<s.2) (hb:∀ s∈b,s.1<s.2):yn9 a b=true↔∃ p,memP a p∧memP b p:=by
 unfold yn9
 simp only [List.any_eq_true,qAb,decide_eq_true_eq]
 constructor
 ·rintro ⟨s,hs,t,ht,h1,h2⟩
  have k1:=ha s hs
  have k2:=hb t ht
  by_cases h:s.1<t.1
  ·exact ⟨t.1,⟨s,hs,by grind,h2⟩,⟨t,ht,qB9,k2⟩⟩
  ·exact ⟨s.1,⟨s,hs,qB9,k1⟩,⟨t,ht,by grind,h1⟩⟩
 ·rintro ⟨p,⟨s,hs,h1,h2⟩,⟨t,ht,h3,h4⟩⟩
  exact ⟨s,hs,t,ht,by grind,by grind⟩
def gapS (len:Rat):List RS→Rat→Bool
 | [],at_=>decide (at_<len)
 | s::r,at_=>if at_<s.1 then true else gapS len r (if at_<s.2 then s.2 else at_)
theorem yGp {len:Rat}:∀ (l:List RS) (at_:Rat),yzT l→(∀ s∈l,s.1<s.2)→(∀ s∈l,s.2≤len)→(gapS len l at_=true↔∃ p,at_≤p∧p<len∧¬memP l p)
 | [],at_,_,_,_=>by
  unfold gapS
  rw [decide_eq_true_eq]
  exact ⟨fun h=>⟨at_,qB9,h,yc1⟩,fun ⟨p,h1,h2,_⟩=>by grind⟩
 | s::r,at_,hs,hv,hl=>by
  unfold gapS
  have s1:=hv s qAg
  have s2:=hl s qAg
  by_cases h:at_<s.1
  ·rw [if_pos h]
   refine ⟨fun _=>⟨at_,qB9,by grind,fun hm=>?_⟩,fun _=>rfl⟩
   rcases ybx.1 hm with hm | ⟨t,ht,hm,_⟩
   ·have:=hm.1;grind
   ·have:=hs.1 t ht;grind
  ·rw [if_neg h,yGp r _ hs.2 (fun t ht=>hv t (qAf _ ht)) (fun t ht=>hl t (qAf _ ht))]
   constructor
   ·rintro ⟨p,h1,h2,h3⟩
    have h1':at_≤p∧s.2≤p:=by split at h1 <;> exact ⟨by grind,by grind⟩
    refine ⟨p,h1'.1,h2,fun hm=>?_⟩
    rcases ybx.1 hm with hm | hm
    ·have:=hm.2;grind
    ·exact h3 hm
   ·rintro ⟨p,h1,h2,h3⟩
    refine ⟨p,?_,h2,fun hm=>h3 (ybx.2 (.inr hm))⟩
    have hn:¬inS s p:=fun hm=>h3 (ybx.2 (.inl hm))
    have:s.2≤p:=Rat.not_lt.1 fun hlt=>hn ⟨by grind,hlt⟩
    split <;> assumption
end Go.Pf.Vc
namespace Go.Pf.Vc
open Go Go.Pf
theorem yiB {q r:Rat} (hq:small q) (hr:small r) (K:Bool→Prop):yai q.num q.den r.num r.den K=K (decide (q<r)):=by
 unfold yai ylo
 rw [yxR hq hr,yuJ]
theorem ygU (n:Int) (K:Int→Int→Prop):yaw n K=K (n:Rat).num (n:Rat).den:=rfl
def meets (s t:RS):Bool:=decide (s.1<t.2)&&decide (t.1<s.2)
theorem yGq {s:RS} (h:ycb s) {B:List RS} (hs:∀ t∈B,ycb t) (hl:B.length<4611686018427387904) {x0:Int→Int→Int→Int→List PV→Int→Int→Bool→Prop} {x1:Int→Int→Int→Int→Int→Prop} {K:Bool→Prop}
  (hx0:∀ a b c d l i k q,x0 a b c d l i k q=K false) (hx1:∀ a b c d i,0≤i→x1 a b c d i=K true) :
  ∀ (r i n:Nat),i+r=B.length→r<n→ycL yai x0 x1 n s.1.num s.1.den s.2.num s.2.den (rsp B) (B.length:Int) (i:Int)=K ((B.drop i).any (meets s)):=by
 intro r
 induction r with
 | zero =>
  intro i n hi hn
  obtain ⟨n,rfl⟩:∃ m,n=m+1:=⟨n-1,by omega⟩
  obtain rfl:i=B.length:=by omega
  rw [ycL,cbF (by omega),qB1,hx0]
  rfl
 | succ r ih =>
  intro i n hi hn
  obtain ⟨n,rfl⟩:∃ m,n=m+1:=⟨n-1,by omega⟩
  have hil:i<B.length:=by omega
  have e1:=wib (n:=(i:Int)+1) (by omega) (by omega)
  have hd:B.drop i=B.getD i default::B.drop (i+1):=ybi default hil
  have hx:=yfI hs hil
  rw [ycL,cbT (by omega)]
  dsimp only [lt,Go.Pf.jn]
  rw [yaM,asT (by omega),asT (by omega),qAe,yfh hil,asR,yms,yrY,ymt,ymu,yiB h.1 hx.2,e1,ybM,hd,List.any_cons]
  unfold meets
  cases decide (s.1<(B.getD i default).2) with
  | false =>
   rw [yab,yab,qBc,Bool.false_or]
   exact ih (i+1) n (by omega) (by omega)
  | true =>
   rw [yag,qAy,yiB hx.1 h.2]
   cases decide ((B.getD i default).1<s.2) with
   | false =>
    rw [yab,Bool.false_or]
    exact ih (i+1) n (by omega) (by omega)
   | true =>
    rw [yag,hx1 _ _ _ _ _ (by omega)]
    rfl
theorem yKt {s:RS} (h:ycb s) {B:List RS} (hs:∀ t∈B,ycb t) (hl:B.length<4611686018427387904) (K:Bool→Prop):ybR s.1.num s.1.den s.2.num s.2.den (rsp B) K=K (B.any (meets s)):=by
 refine yux _ _ _ _ _ _ (fun K k=>?_) K
 unfold ybR yhS
 dsimp only [Go.Pf.jn]
 refine ⟨B.length+1,?_⟩
 rw [yaM]
 exact (yGq h hs hl (K:=K) (fun _ _ _ _ _ _ _ _=>rfl) (fun _ _ _ _ i hi=>by rw [decide_eq_true hi]) B.length 0 (B.length+1) (by omega) (by omega)).mpr (by rw [qAt];exact k)
theorem yIm {A B:List RS} (ha:∀ s∈A,ycb s) (hb:∀ t∈B,ycb t) (hla:A.length<4611686018427387904) (hlb:B.length<4611686018427387904) {x0:List PV→List PV→Int→Int→Bool→Prop} {x1:List PV→Int→Prop} {K:Bool→Prop}
  (hx0:∀ l m i k q,x0 l m i k q=K false) (hx1:∀ l i,0≤i→x1 l i=K true) :
  ∀ (r i n:Nat),i+r=A.length→r<n→yda ybR x0 x1 n (rsp B) (rsp A) (A.length:Int) (i:Int)=K (yn9 (A.drop i) B):=by
 intro r
 induction r with
 | zero =>
  intro i n hi hn
  obtain ⟨n,rfl⟩:∃ m,n=m+1:=⟨n-1,by omega⟩
  obtain rfl:i=A.length:=by omega
  rw [yda,cbF (by omega),qB1,hx0]
  rfl
 | succ r ih =>
  intro i n hi hn
  obtain ⟨n,rfl⟩:∃ m,n=m+1:=⟨n-1,by omega⟩
  have hil:i<A.length:=by omega
  have e1:=wib (n:=(i:Int)+1) (by omega) (by omega)
  have hd:A.drop i=A.getD i default::A.drop (i+1):=ybi default hil
  have hx:=yfI ha hil
  rw [yda,cbT (by omega)]
  dsimp only [lt,Go.Pf.jn]
  rw [yaM,asT (by omega),asT (by omega),qAe,yfh hil,asR,yms,yrY,ymt,ymu,yKt hx hb hlb,e1,ybM,hd]
  have e:yn9 (A.getD i default::A.drop (i+1)) B=(B.any (meets (A.getD i default))||yn9 (A.drop (i+1)) B):=rfl
  rw [e]
  cases B.any (meets (A.getD i default)) with
  | false =>
   rw [yab,Bool.false_or]
   exact ih (i+1) n (by omega) (by omega)
  | true =>
   rw [yag,hx1 _ _ (by omega)]
   rfl
theorem yMa {A B:List RS} (ha:∀ s∈A,ycb s) (hb:∀ t∈B,ycb t) (hla:A.length<4611686018427387904) (hlb:B.length<4611686018427387904) (K:Bool→Prop):yak (rsp A) (rsp B) K=K (yn9 A B):=by
 refine yxx _ _ _ (fun K k=>?_) K
 unfold yak ykf
 dsimp only [Go.Pf.jn]
 refine ⟨A.length+1,?_⟩
 rw [yaM]
 exact (yIm ha hb hla hlb (K:=K) (fun _ _ _ _ _=>rfl) (fun _ i hi=>by rw [decide_eq_true hi]) A.length 0 (A.length+1) (by omega) (by omega)).mpr (by rw [qAt];exact k)
end Go.Pf.Vc
namespace Go.Pf.Vc
open Go Go.Pf
def ywk (cs:List Ck) (ps:List (List Sp)):Bool:=ps.any yn8||(ywa cs||decide (ps.length>10))
section
variable {cs:List Ck} {ps:List (List Sp)}
theorem ywK (hl:ps.length≤9223372036854775807) {x0:List PV→List PV→Int→Bool→Prop} {x1:Bool→Prop} :
  ∀ (r i n:Nat),i+r=ps.length→r<n→yd2 yeL ybw x0 x1 n (cks cs) (yeW ps) (i:Int)=if (ps.drop i).any yn8 then x1 true else x0 (cks cs) (yeW ps) (ps.length:Int) false
 | 0,i,n+1,hi,hn=>by
  rw [yd2,yeX,cbF (by omega),qAs (by omega),show (i:Int)=ps.length by omega];rfl
 | r+1,i,n+1,hi,hn=>by
  have e1:=wib (n:=(i:Int)+1) (by omega) (by omega)
  rw [yd2]
  dsimp only [lt,Go.Pf.jn]
  rw [yeX,cbT (by omega),qAe,ywb (by omega),asT (by omega),asT (by omega),asD]
  show yeL (ycn (ps.getD i [])) _=_
  rw [yKq,ybi [] (by omega),List.any_cons,e1,ybM]
  cases yn8 (ps.getD i []) with
  | true=>rw [yag];rfl
  | false=>rw [yab,Bool.false_or];exact ywK hl r (i+1) n (by omega) (by omega)
theorem yKu (hc:cs.length≤9223372036854775807) (hl:ps.length≤9223372036854775807) (K:Bool→Prop):ygP (cks cs) (yeW ps) K=K (ywk cs ps):=by
 refine yBd _ _ _ (fun K k=>?_) K
 unfold ygP ynG
 dsimp only [Go.Pf.jn]
 refine ⟨ps.length+1,?_⟩
 have:=ywK (cs:=cs) hl (x0:=fun a c _ _=>ybw a (fun d=>cbr d (K true) (K (decide ((((List.length c):Nat):Int)>(10:Int)))))) (x1:=fun b=>K b) ps.length 0 (ps.length+1) (by omega) (by omega)
 refine this.mpr ?_
 rw [qAt]
 unfold ywk at k
 cases h:ps.any yn8 with
 | true=>rw [h] at k;exact k
 | false =>
  rw [h,Bool.false_or] at k
  show ybw (cks cs) _
  rw [yBl hc]
  cases h2:ywa cs with
  | true=>rw [h2] at k;rw [yag];exact k
  | false =>
   rw [h2,Bool.false_or] at k
   rw [yab,yeX]
   have:decide (((ps.length:Nat):Int)>10)=decide (ps.length>10):=by rw [decide_eq_decide];omega
   rw [this];exact k
theorem yz3 (h:ywk cs ps=false):ps.length≤10∧ywa cs=false∧∀ p∈ps,yn8 p=false:=by
 unfold ywk at h
 simp only [qBw,decide_eq_false_iff_not,List.any_eq_false] at h
 exact ⟨by omega,h.2.1,fun p hp=>by simpa using h.1 p hp⟩
def yjf:List (List Sp)→Int
 | []=>0
 | s::r=>if yeY s=0 then yjf r else yeY s
def chk6 (cs:List Ck) (ps:List (List Sp)):Int :=
 if ymq cs 0=0 then (if ps.length=cs.length then (if yjf ps=0 then (if ps.all (fun p=>yuM (cs.getD 0 default).len (rsL p)) then 0 else 2) else yjf ps) else 2) else ymq cs 0
theorem yoa:∀ {l:List (List Sp)},yjf l=0→∀ p∈l,yeY p=0
 | [],_,p,hp=>by cases hp
 | s::r,h,p,hp=>by
  unfold yjf at h
  by_cases h0:yeY s=0
  ·rw [if_pos h0] at h
   rcases qAn.1 hp with rfl | hp
   ·exact h0
   ·exact yoa h p hp
  ·rw [if_neg h0] at h
   exact absurd h h0
theorem yaX {α:Type} {l:List α} {i:Nat} (d:α) (h:i<l.length):l.getD i d∈l:=by
 rw [qAd,qAa h]
 exact qBj h
theorem yz4 (hl:ps.length≤10) (h64:∀ p∈ps,∀ s∈p,s.i64) (hs:∀ p∈ps,p.length<4611686018427387904) {W4 WW} {x0:List PV→List PV→Int→Bool→Prop} {x1:Int→Prop} :
  ∀ (r i n:Nat),i+r=ps.length→r<n→yd4 W4 ybv WW x0 x1 n (cks cs) (yeW ps) (i:Int)=if yjf (ps.drop i)=0 then x0 (cks cs) (yeW ps) (ps.length:Int) false else x1 (yjf (ps.drop i))
 | 0,i,n+1,hi,hn=>by
  rw [yd4,yeX,cbF (by omega),qAs (by omega),show (i:Int)=ps.length by omega];rfl
 | r+1,i,n+1,hi,hn=>by
  have e1:=wib (n:=(i:Int)+1) (by omega) (by omega)
  have hm:=yaX [] (show i<ps.length by omega)
  rw [yd4]
  dsimp only [lt,Go.Pf.jn]
  rw [yeX,cbT (by omega),qAe,ywb (by omega),asT (by omega),asT (by omega),asD]
  show ybv (ycn (ps.getD i [])) _=_
  rw [yzW (h64 _ hm) (hs _ hm),ybi [] (by omega),yjf,e1,ybM]
  by_cases h:yeY (ps.getD i [])=0
  ·rw [cnF h,if_pos h];exact yz4 hl h64 hs r (i+1) n (by omega) (by omega)
  ·rw [cnT h,if_neg h,if_neg h]
theorem yz5 (hc0:0<cs.length) (hlen:-1000000000000000000≤(cs.getD 0 default).len∧(cs.getD 0 default).len≤1000000000000000000) (hl:ps.length≤10) (hp:∀ p∈ps,yeY p=0) {W4 WC3} {x0:List PV→List PV→Int→Bool→Prop} {x1:Int→Prop} :
  ∀ (r i n:Nat),i+r=ps.length→r<n→yd5 W4 WC3 ycG x0 x1 n (cks cs) (yeW ps) (i:Int)=if (ps.drop i).all (fun p=>yuM (cs.getD 0 default).len (rsL p)) then x0 (cks cs) (yeW ps) (ps.length:Int) false else x1 2
 | 0,i,n+1,hi,hn=>by
  rw [yd5,yeX,cbF (by omega),qAs (by omega),show (i:Int)=ps.length by omega];rfl
 | r+1,i,n+1,hi,hn=>by
  have e1:=wib (n:=(i:Int)+1) (by omega) (by omega)
  have hm:=yaX [] (show i<ps.length by omega)
  obtain ⟨p1,p2,_⟩:=yJr (hp _ hm)
  have ea:=yge hc0
  rw [yd5]
  dsimp only [lt,Go.Pf.jn]
  rw [yeX,yba,cbT (by omega),asT (by omega),ea,asCk,qAe,ywb (by omega),asT (by omega),asT (by omega),asD]
  show ycG (cs.getD 0 default).len (ycn (ps.getD i [])) _=_
  rw [p2,p1.within hlen,ybi [] (by omega),List.all_cons,e1,ybM]
  cases yuM (cs.getD 0 default).len (rsL (ps.getD i [])) with
  | false=>rfl
  | true =>
   rw [qBl,yab,qAy]
   exact yz5 hc0 hlen hl hp r (i+1) n (by omega) (by omega)
end
end Go.Pf.Vc
namespace Go.Pf.Vc
open Go Go.Pf
structure DV (cs:List Ck) (A:List (List RS)):Prop where
 d:DK cs
 l:A.length=cs.length
 p:∀ a∈A,Pc a
 m:∀ a∈A,a.length≤20
 w:∀ a∈A,yuM (cs.getD 0 default).len a=true
theorem datD (l:List PV):yap (PV.data l)=l:=rfl
def rspL (A:List (List RS)):List PV:=A.map fun a=>.data (rsp a)
theorem ycP (A:List (List RS)):(rspL A).length=A.length:=qAk ..
theorem yfo {A:List (List RS)} {i:Nat} (h:i<A.length):List.getD (rspL A) i .nils=.data (rsp (A.getD i [])):=by
 unfold rspL
 rw [qAd,qAd,qBb,qAa h]
 rfl
section
variable {cs:List Ck} {ps:List (List Sp)} {A:List (List RS)}
theorem yIn (hf:finC cs) (hc:cs.length≤10) (hl:ps.length≤10) (h64:∀ p∈ps,∀ s∈p,s.i64) (hs:∀ p∈ps,p.length<4611686018427387904) (K:Int→Prop):ygQ (cks cs) (yeW ps) K=K (chk6 cs ps):=by
 refine yBf _ _ _ (fun K k=>?_) K
 unfold ygQ ynN
 rw [yKk hf (by omega)]
 unfold chk6 at k
 show cbr (ymq cs 0 != 0) _ _
 by_cases h1:ymq cs 0=0
 case neg=>rw [cnT h1];rw [if_neg h1] at k;exact k
 rw [cnF h1]
 rw [if_pos h1] at k
 rw [yeX,yba]
 by_cases h2:ps.length=cs.length
 case neg=>rw [cnT (by omega)];rw [if_neg h2] at k;exact k
 rw [cnF (by omega)]
 rw [if_pos h2] at k
 refine ⟨ps.length+1,?_⟩
 refine (yz4 hl h64 hs ps.length 0 (ps.length+1) (by omega) (by omega)).mpr ?_
 rw [qAt]
 by_cases h3:yjf ps=0
 case neg=>rw [if_neg h3];rw [if_neg h3] at k;exact k
 rw [if_pos h3]
 rw [if_pos h3] at k
 have hd:=(yzR h1).1
 have l0:=(hd.ok 0 (by have:=hd.n0;omega)).len0
 refine ⟨ps.length+1,?_⟩
 refine (yz5 (by have:=hd.n0;omega) (by omega) hl (yoa h3) ps.length 0 (ps.length+1) (by omega) (by omega)).mpr ?_
 rw [qAt]
 split at k <;> rename_i h <;> simp only [h] <;> exact k
def ok6 (cs:List Ck) (ps:List (List Sp)):Bool:=!ywk cs ps&&decide (chk6 cs ps=0)
theorem yKv (hc:cs.length≤9223372036854775807) (hl:ps.length≤9223372036854775807) (h64:∀ p∈ps,∀ s∈p,s.i64) (K:Bool→Prop):ygT (cks cs) (yeW ps) K=K (ok6 cs ps):=by
 unfold ygT ynY ok6
 dsimp only [Go.Pf.jn]
 rw [yKu hc hl]
 cases hg:ywk cs ps with
 | true=>rfl
 | false =>
  obtain ⟨g1,g2,g3⟩:=yz3 hg
  obtain ⟨c1,c2,c3⟩:=yIc g2
  rw [qBh,yag,yIn c3 c1 g1 h64 (fun p hp=>by have:=(yz0 (g3 p hp)).1;omega)]
  congr 1
theorem yIo (h:ok6 cs ps=true):DV cs (ps.map rsL)∧yeW ps=rspL (ps.map rsL):=by
 unfold ok6 at h
 simp only [qAb,qAx,decide_eq_true_eq] at h
 obtain ⟨h0,h⟩:=h
 obtain ⟨g1,g2,g3⟩:=yz3 h0
 unfold chk6 at h
 split at h
 case isFalse hn=>exact absurd h hn
 rename_i h1
 split at h
 case isFalse=>omega
 rename_i h2
 split at h
 case isFalse hn=>exact absurd h hn
 rename_i h3
 split at h
 case isFalse=>omega
 rename_i h4
 have hp:=yoa h3
 refine ⟨⟨(yzR h1).1,by rw [qAk];exact h2,fun a ha=>?_,fun a ha=>?_,fun a ha=>?_⟩,?_⟩
 ·obtain ⟨p,hp1,rfl⟩:=qA2.1 ha
  exact (yJr (hp p hp1)).1
 ·obtain ⟨p,hp1,rfl⟩:=qA2.1 ha
  have k1:=(yJr (hp p hp1)).1.n
  have e:(rsL p).length=p.length:=qAk ..
  have:=(yz0 (g3 p hp1)).2 (by omega)
  omega
 ·obtain ⟨p,hp1,rfl⟩:=qA2.1 ha
  exact qB7.1 h4 p hp1
 ·unfold yeW rspL
  rw [List.map_map]
  refine qBq fun p hp1=>?_
  show PV.data (ycn p)=PV.data (rsp (rsL p))
  rw [(yJr (hp p hp1)).2.1]
theorem DV.len0 (h:DV cs A):1≤(cs.getD 0 default).len∧(cs.getD 0 default).len≤1000:=(h.d.ok 0 (by have:=h.d.n0;omega)).len0
theorem DV.wi (h:DV cs A):∀ a∈A,Wi (cs.getD 0 default).len a:=fun a ha=>yL6 (h.w a ha)
theorem yz6 (h:DV cs A) {WA WW WL} {x0:List PV→List PV→List PV→Int→Int→Bool→Prop} {x1:Int→Prop} :
  ∀ (r i n:Nat),i+r=A.length→r<n→yc9 WA yaL WW WL x0 x1 n (cks cs) (rspL A) (rspL A) (A.length:Int) (i:Int)=x0 (cks cs) (rspL A) (rspL A) (A.length:Int) (A.length:Int) false
 | 0,i,n+1,hi,hn=>by
  rw [yc9,cbF (by omega),show (i:Int)=A.length by omega]
 | r+1,i,n+1,hi,hn=>by
  have h6:=h.d.n6;have hl:=h.l
  have e1:=wib (n:=(i:Int)+1) (by omega) (by omega)
  have hm:=yaX [] (show i<A.length by omega)
  rw [yc9]
  dsimp only [lt,Go.Pf.jn]
  rw [cbT (by omega),ycP,asT (by omega),asT (by omega),qAe,yfo (by omega),asD]
  show yaL (rsp (A.getD i [])) _=_
  rw [(h.p _ hm).check,e1,ybM]
  show cbr false _ _=_
  rw [yab]
  exact yz6 h r (i+1) n (by omega) (by omega)
theorem yz7 (h:DV cs A) {WA WC} {x0:List PV→List PV→Int→Int→Bool→Prop} {x1:Int→Prop} :
  ∀ (r i n:Nat),i+r=A.length→r<n→ycI WA WC yaw yai x0 x1 n (cks cs) (rspL A) (A.length:Int) (i:Int)=x0 (cks cs) (rspL A) (A.length:Int) (A.length:Int) false
 | 0,i,n+1,hi,hn=>by
  rw [ycI,cbF (by omega),show (i:Int)=A.length by omega]
 | r+1,i,n+1,hi,hn=>by
  have h6:=h.d.n6;have hl:=h.l;have h1:=h.d.n0;have l0:=h.len0
  have e1:=wib (n:=(i:Int)+1) (by omega) (by omega)
  have hm:=yaX [] (show i<A.length by omega)
  have p:=h.p _ hm
  have hw:=h.wi _ hm
  have pn:=p.n
  have ih:=yz7 h (WA:=WA) (WC:=WC) (x0:=x0) (x1:=x1) r (i+1) n (by omega) (by omega)
  rw [ycI]
  dsimp only [lt,Go.Pf.jn]
  rw [cbT (by omega),ycP,asT (by omega),asT (by omega),qAe,yfo (by omega),asD,datD]
  generalize A.getD i []=a at p hw pn
  rw [yaM,e1,ybM]
  by_cases ha:a.length=0
  ·rw [cbF (by omega),yab]
   exact ih
  ·have h0:0<a.length:=by omega
   have m0:=yaX (default:RS) h0
   have m1:=yaX (default:RS) (show a.length-1<a.length by omega)
   have w0:=hw _ m0
   have w1:=hw _ m1
   have s1:=p.s _ m1
   have n0:0≤(a.getD 0 default).1.num:=Rat.num_nonneg.2 w0.1
   have e2:=wib (n:=(a.length:Int)-1) (by omega) (by omega)
   have et:((a.length:Int)-1).toNat=a.length-1:=by omega
   have sl:small ((cs.getD 0 default).len:Rat):=yfb (by omega)
   rw [cbT (by omega),asT (by omega),yfh h0,asR,yms,cbF (by omega),yba,asT (by omega),yge (by omega),asCk,ck0,ygU,e2,asT (by omega),asT (by omega),et,yfh (by omega),asR,ymt,ymu,yiB sl s1.2,cbF (by grind)]
   exact ih
theorem yxV (h:DV cs A) (K:Int→Prop):ybp (cks cs) (rspL A) K=K 0:=by
 have h6:=h.d.n6;have hl:=h.l
 refine yxv _ _ _ (fun K k=>?_) K
 unfold ybp ykc
 rw [yKj h.d.fin (by omega)]
 show cbr (ymq cs 0 != 0) _ _
 rw [cnF (h.d.err (by omega)),ycP,yba,cnF (by omega)]
 refine ⟨A.length+1,(yz6 h A.length 0 (A.length+1) (by omega) (by omega)).mpr ?_⟩
 show ∃ n,ycI _ _ _ _ _ _ n (cks cs) (rspL A) (((rspL A).length:Nat):Int) 0
 rw [ycP]
 exact ⟨A.length+1,(yz7 h A.length 0 (A.length+1) (by omega) (by omega)).mpr k⟩
end
end Go.Pf.Vc
namespace Go.Pf.Vc
open Go Go.Pf
def wV (c:Ck) (a:List RS):Rat:=sumV (dV (vX c.cuts c.dens)) a
def tabW (cs:List Ck) (A:List (List RS)):List PV:=cs.map fun c=>.data (rts (A.map (wV c)))
open Classical in
noncomputable def fW (c:Ck) (p:List PV):Int×Int×Int:=if h:∃ t:Int×Int×Int,∀ K:Int→Int→Int→Prop,ybc c.len (ints c.cuts) (ints c.dens) p K=K t.1 t.2.1 t.2.2 then Classical.choose h else (0,0,0)
theorem yMb {c:Ck} {p:List PV} {t:Int×Int×Int} (h:∀ K:Int→Int→Int→Prop,ybc c.len (ints c.cuts) (ints c.dens) p K=K t.1 t.2.1 t.2.2):fW c p=t:=by
 have hx:∃ t:Int×Int×Int,∀ K:Int→Int→Int→Prop,ybc c.len (ints c.cuts) (ints c.dens) p K=K t.1 t.2.1 t.2.2:=⟨t,h⟩
 unfold fW
 rw [dif_pos hx]
 have h2:=Classical.choose_spec hx (fun a b c=>(a,b,c)=t)
 rw [h] at h2
 exact h2.mp rfl
theorem yGr {α:Type} {l:List α} {x:α} (d:α) (h:x∈l):∃ i,i<l.length∧l.getD i d=x:=by
 obtain ⟨i,hi,e⟩:=List.getElem_of_mem h
 exact ⟨i,hi,by rw [qAd,qAa hi];exact e⟩
section
variable {cs:List Ck} {A:List (List RS)}
theorem DK.mem (h:DK cs) {c:Ck} (hc:c∈cs):c.ok∧c.len=(cs.getD 0 default).len:=by
 obtain ⟨i,hi,rfl⟩:=yGr default hc
 exact ⟨h.ok i hi,h.len i hi⟩
theorem DV.out (h:DV cs A) {c:Ck} (hc:c∈cs) {a:List RS} (ha:a∈A):outW (fun K=>ybc c.len (ints c.cuts) (ints c.dens) (rsp a) K) (wV c a):=by
 obtain ⟨h1,h2⟩:=h.d.mem hc
 refine (h.p a ha).outWorth h1 ?_
 rw [h2]
 exact h.wi a ha
theorem DV.Worth (h:DV cs A):(∀ K,yat (cks cs) (rspL A) K=K [] 16)∨((∀ c∈cs,∀ a∈A,small (wV c a))∧∀ K,yat (cks cs) (rspL A) K=K (tabW cs A) 0):=by
 have h6:=h.d.n6;have h1:=h.d.n0;have hl:=h.l
 have e:pcsD (A.map rsp)=rspL A:=by
  unfold pcsD rspL
  rw [List.map_map]
  rfl
 have hall:∀ c∈cs,∀ a∈A,(∀ K:Int→Int→Int→Prop,ybc c.len (ints c.cuts) (ints c.dens) (rsp a) K=K (fW c (rsp a)).1 (fW c (rsp a)).2.1 (fW c (rsp a)).2.2)∧((fW c (rsp a)).2.2=16∨(small (wV c a)∧fW c (rsp a)=((wV c a).num,((wV c a).den:Int),0))):=fun c hc a ha=>by
  rcases h.out hc ha with ⟨x,rfl,hx⟩ | ⟨hs,hx⟩
  ·have e2:=yMb (t:=(0,0,16)) hx
   rw [e2]
   exact ⟨hx,.inl rfl⟩
  ·have e2:=yMb (t:=((wV c a).num,((wV c a).den:Int),0)) hx
   rw [e2]
   exact ⟨hx,.inr ⟨hs,rfl⟩⟩
 have hck:∀ K,ybp (cks cs) (pcsD (A.map rsp)) K=K 0:=fun K=>by rw [e];exact yxV h K
 have hW:∀ c∈cs,∀ p∈A.map rsp,∀ K:Int→Int→Int→Prop,ybc c.len (ints c.cuts) (ints c.dens) p K=K (fW c p).1 (fW c p).2.1 (fW c p).2.2:=fun c hc p hp=>by
  obtain ⟨a,ha,rfl⟩:=qA2.1 hp
  exact (hall c hc a ha).1
 by_cases hz:∀ c∈cs,∀ a∈A,(fW c (rsp a)).2.2=0
 ·refine .inr ⟨fun c hc a ha=>?_,fun K=>?_⟩
  ·rcases (hall c hc a ha).2 with h16 | ⟨hs,_⟩
   ·have:=hz c hc a ha;omega
   ·exact hs
  ·rw [← e]
   refine yz2 (by rw [qAk];exact hl) h1 h6 hck hW (fun _=>⟨?_,rfl⟩) (fun c hc p hp hn=>?_) K
   ·unfold tabW
    refine qBq fun c hc=>?_
    unfold rts
    rw [List.map_map,List.map_map]
    congr 1
    refine qBq fun a ha=>?_
    rcases (hall c hc a ha).2 with h16 | ⟨_,h0⟩
    ·have:=hz c hc a ha;omega
    ·show encW (wV c a)=.agg [.int .i64 (fW c (rsp a)).1,.int .i64 (fW c (rsp a)).2.1]
     rw [h0]
     rfl
   ·obtain ⟨a,ha,rfl⟩:=qA2.1 hp
    exact absurd (hz c hc a ha) hn
 ·refine .inl fun K=>?_
  rw [← e]
  refine yz2 (by rw [qAk];exact hl) h1 h6 hck hW (fun h0=>?_) (fun c hc p hp hn=>?_) K
  ·exact absurd (fun c hc a ha=>h0 c hc (rsp a) (qA2.2 ⟨a,ha,rfl⟩)) hz
  ·obtain ⟨a,ha,rfl⟩:=qA2.1 hp
   rcases (hall c hc a ha).2 with h16 | ⟨_,h0⟩
   ·exact ⟨rfl,h16.symm⟩
   ·rw [h0] at hn
    exact absurd rfl hn
end
end Go.Pf.Vc
namespace Go.Pf.Vc
open Go Go.Pf
def tot (A:List (List RS)):Nat:=(A.map List.length).sum
theorem yuN (a:List RS) (A:List (List RS)):tot (a::A)=a.length+tot A:=by unfold tot;rw [qBy,List.sum_cons]
theorem yGs:∀ A:List (List RS),A.flatten.length=tot A
 | []=>rfl
 | a::r=>by rw [List.flatten_cons,qAp,yGs r,yuN]
theorem yMc {m:Nat}:∀ {A:List (List RS)},(∀ a∈A,a.length≤m)→tot A≤A.length*m
 | [],_=>by simp [tot]
 | a::r,h=>by
  have h1:=h a qAg
  have h2:=yMc (m:=m) fun x hx=>h x (qAf a hx)
  rw [yuN,qAm,Nat.succ_mul]
  omega
section
variable {cs:List Ck} {A:List (List RS)}
theorem yCx (hl:A.length≤6) (hm:∀ a∈A,a.length≤20) {WW WL} {x0:List PV→Int→List PV→Int→Int→Bool→Prop} {l0:List PV} :
  ∀ (r i n s:Nat),i+r=A.length→r<n→s≤20*i→yce WW WL x0 n l0 (s:Int) (rspL A) (A.length:Int) (i:Int)=x0 l0 ((s+tot (A.drop i):Nat):Int) (rspL A) (A.length:Int) (A.length:Int) false
 | 0,i,n+1,s,hi,hn,hs=>by
  rw [yce,cbF (by omega),qAs (by omega),show (i:Int)=A.length by omega]
  rfl
 | r+1,i,n+1,s,hi,hn,hs=>by
  have e1:=wib (n:=(i:Int)+1) (by omega) (by omega)
  have hx:=yaX [] (show i<A.length by omega)
  have hx2:=hm _ hx
  have hd:A.drop i=A.getD i []::A.drop (i+1):=ybi [] (by omega)
  have ih:=yCx hl hm (WW:=WW) (WL:=WL) (x0:=x0) (l0:=l0) r (i+1) n (s+(A.getD i []).length) (by omega) (by omega) (by omega)
  rw [yce]
  dsimp only [lt,Go.Pf.jn]
  rw [cbT (by omega),ycP,asT (by omega),asT (by omega),qAe,yfo (by omega),asD,datD,yaM,hd,yuN,e1,ybM]
  generalize (A.getD i []).length=k at hx2 ih
  have e2:=wib (n:=(s:Int)+(k:Int)) (by omega) (by omega)
  rw [e2,cbF (by omega),← Int.natCast_add,ih]
  congr 2
  omega
def zSp:PV:=.agg [.int .i64 0,.int .i64 0,.int .i64 0,.int .i64 0]
theorem yCy (hl:A.length≤6) {WW WL} {x1:List PV→Nat→List PV→Int→Int→Bool→Prop} :
  ∀ (r i n:Nat) (done:List RS),i+r=A.length→r<n→ybn WW WL x1 n (rsp done++List.replicate (tot (A.drop i)) zSp) done.length (rspL A) (A.length:Int) (i:Int)=x1 (rsp (done++(A.drop i).flatten)) (done++(A.drop i).flatten).length (rspL A) (A.length:Int) (A.length:Int) false
 | 0,i,n+1,done,hi,hn=>by
  rw [ybn,cbF (by omega),qAs (by omega),show (i:Int)=A.length by omega]
  show x1 (rsp done++[]) _ _ _ _ _=x1 (rsp (done++[])) (done++[]).length _ _ _ _
  rw [qB6,qB6]
 | r+1,i,n+1,done,hi,hn=>by
  have e1:=wib (n:=(i:Int)+1) (by omega) (by omega)
  have hd:A.drop i=A.getD i []::A.drop (i+1):=ybi [] (by omega)
  have ih:=yCy hl (WW:=WW) (WL:=WL) (x1:=x1) r (i+1) n (done++A.getD i []) (by omega) (by omega)
  rw [ybn]
  dsimp only [lt,Go.Pf.jn]
  rw [cbT (by omega),ycP,asT (by omega),asT (by omega),qAe,yfo (by omega),asD,datD,yGl,yaF,hd,yuN,List.flatten_cons,e1,ybM,yaM]
  generalize A.getD i []=a at ih
  have hlen:(rsp done++List.replicate (a.length+tot (A.drop (i+1))) zSp).length=done.length+(a.length+tot (A.drop (i+1))):=by
   rw [qAp,yaM,qA7]
  rw [asT rfl,asT (by rw [hlen];omega)]
  rw [show done++(a++(A.drop (i+1)).flatten)=(done++a)++(A.drop (i+1)).flatten from (qBe ..).symm]
  cases ha:a with
  | nil =>
   rw [ha,qB6] at ih
   show cbr true _ _=_
   rw [yag,asT rfl,qB6,qBt,qA6]
   exact ih
  | cons b t =>
   rw [← ha]
   have hemp:List.isEmpty (rsp a)=false:=by rw [ha];rfl
   have hnew:List.take (0+done.length) (rsp done++List.replicate (a.length+tot (A.drop (i+1))) zSp)++(rsp a++List.drop (0+done.length+a.length) (rsp done++List.replicate (a.length+tot (A.drop (i+1))) zSp))=rsp (done++a)++List.replicate (tot (A.drop (i+1))) zSp:=by
    rw [qA6,← yn7,List.take_append_of_le_length (by rw [yaM];omega),qBo (by rw [yaM];omega),List.drop_append,qAs (by rw [yaM];omega),qBs,yaM,show done.length+a.length-done.length=a.length by omega,List.drop_replicate,show a.length+tot (A.drop (i+1))-a.length=tot (A.drop (i+1)) by omega,qBe]
   have hlen2:(rsp (done++a)++List.replicate (tot (A.drop (i+1))) zSp).length=done.length+(a.length+tot (A.drop (i+1))):=by
    rw [qAp,yaM,qAp,qA7];omega
   rw [hemp,yab,asT (by rw [hlen];omega),hnew,asT (by rw [hlen,hlen2])]
   rw [qAp] at ih
   exact ih
theorem yCz {len:Int} {l:List RS} (hs:∀ s∈l,ycb s) (hl:l.length<1000) {l1 l2 l3 l4:List PV} {x0:List PV→List PV→List PV→List PV→List PV→Int→Int→Nat→Int→Int→Bool→Prop} {x1:List PV→Bool→Prop} {K:Bool→Prop}
  (h0:∀ q:Rat,small q→x0 (rsp l) l1 l2 l3 l4 q.num q.den l.length (l.length:Int) (l.length:Int) false=K (decide (q<(len:Rat)))) (h1:x1 (rsp l) true=K true) :
  ∀ (r i n:Nat) (q:Rat),i+r=l.length→r<n→small q→ycg yaw yai x0 x1 n (rsp l) l1 l2 l3 l4 q.num q.den l.length (l.length:Int) (i:Int)=K (gapS (len:Rat) (l.drop i) q)
 | 0,i,n+1,q,hi,hn,hq=>by
  rw [ycg,cbF (by omega),qAs (by omega),show (i:Int)=l.length by omega,h0 q hq]
  rfl
 | r+1,i,n+1,q,hi,hn,hq=>by
  have e1:=wib (n:=(i:Int)+1) (by omega) (by omega)
  have hd:l.drop i=l.getD i default::l.drop (i+1):=ybi default (by omega)
  have hx:=yfI hs (show i<l.length by omega)
  have ih:=fun q hq=>yCz hs hl h0 h1 r (i+1) n q (by omega) (by omega) hq
  rw [ycg]
  dsimp only [lt,Go.Pf.jn]
  rw [cbT (by omega),asT (by omega),asT (by omega),yaM,asT rfl,qAe,qA6,asT (by omega),yfh (by omega),asR,yms,yrY,ymt,ymu,yiB hq hx.1,hd,e1,ybM]
  generalize l.getD i default=t at hx
  unfold gapS
  by_cases hlt:q<t.1
  ·rw [decide_eq_true hlt,yag,if_pos hlt]
   exact h1
  ·rw [decide_eq_false hlt,yab,if_neg hlt,yiB hq hx.2]
   by_cases hlt2:q<t.2
   ·rw [decide_eq_true hlt2,yag,asT rfl,if_pos hlt2]
    exact ih t.2 hx.2
   ·rw [decide_eq_false hlt2,yab,asT rfl,if_neg hlt2]
    exact ih q hq
end
end Go.Pf.Vc
namespace Go.Pf.Vc
open Go Go.Pf
section
variable {cs:List Ck} {A:List (List RS)}
theorem yz8 (hl:A.length≤6) (hz:∀ a∈A,a=[]) {WW WL} {x0:List PV→Int→Int→Bool→Prop} {x1:List PV→Nat→List PV→Int→Int→Bool→Prop} :
  ∀ (r i n:Nat),i+r=A.length→r<n→ycf WW WL x0 x1 n (rspL A) (A.length:Int) (i:Int)=x0 (rspL A) (A.length:Int) (A.length:Int) false
 | 0,i,n+1,hi,hn=>by
  rw [ycf,cbF (by omega),show (i:Int)=A.length by omega]
 | r+1,i,n+1,hi,hn=>by
  have e1:=wib (n:=(i:Int)+1) (by omega) (by omega)
  have hx:=hz _ (yaX [] (show i<A.length by omega))
  rw [ycf]
  dsimp only [lt,Go.Pf.jn]
  rw [cbT (by omega),ycP,asT (by omega),asT (by omega),qAe,yfo (by omega),asD,datD,hx,yGl,yaF,e1,ybM]
  show cbr true _ _=_
  rw [yag]
  exact yz8 hl hz r (i+1) n (by omega) (by omega)
theorem yMd (hl:A.length≤6) {WW WL} (x1:List PV→Nat→List PV→Int→Int→Bool→Prop):ybn WW WL x1 (A.length+1) (List.replicate (tot A) zSp) 0 (rspL A) (A.length:Int) 0=x1 (rsp A.flatten) A.flatten.length (rspL A) (A.length:Int) (A.length:Int) false:=by
 have hg:=yCy (A:=A) hl (WW:=WW) (WL:=WL) (x1:=x1) A.length 0 (A.length+1) [] (by omega) (by omega)
 rw [qAt,qBs] at hg
 exact hg
theorem DV.tot120 (h:DV cs A):tot A≤120:=by
 have h1:=yMc h.m
 have h2:=h.l;have h3:=h.d.n6
 have:A.length*20≤6*20:=qAi _ (by omega)
 omega
theorem DV.flatS (h:DV cs A):∀ s∈A.flatten,ycb s:=fun s hs=>by
 obtain ⟨a,ha,hs⟩:=List.mem_flatten.1 hs
 exact (h.p a ha).s s hs
theorem DV.flatV (h:DV cs A):∀ s∈A.flatten,s.1<s.2:=fun s hs=>by
 obtain ⟨a,ha,hs⟩:=List.mem_flatten.1 hs
 exact yqk (h.p a ha).c s hs
theorem DV.gap (h:DV cs A) (W PT:List PV):∃ l:List RS,l.Perm A.flatten∧yzT l∧∀ K,yaf (cks cs) (rspL A) W PT K=K (gapS ((cs.getD 0 default).len:Rat) l 0):=by
 have h6:=h.d.n6;have h1:=h.d.n0;have hl:=h.l;have l0:=h.len0;have ht:=h.tot120
 have hfS:=h.flatS
 have hfV:=h.flatV
 obtain ⟨m,p1,p2,p3⟩:=yKo ybh ybZ (l:=A.flatten.map spOf) (fun s hs=>by
  obtain ⟨r,hr,rfl⟩:=qA2.1 hs
  exact yuL (hfS r hr) (hfV r hr))
 have hm:∀ s∈m,s.ok:=fun s hs=>by
  obtain ⟨r,hr,rfl⟩:=qA2.1 (p1.mem_iff.1 hs)
  exact yuL (hfS r hr) (hfV r hr)
 have hp:(rsL m).Perm A.flatten:=by
  have:=p1.map Sp.rs
  rw [List.map_map] at this
  have e:A.flatten.map (Sp.rs ∘ spOf)=A.flatten:=by
   conv=>rhs;rw [← List.map_id A.flatten]
   exact qBq fun r hr=>yJn (hfS r hr)
  rw [e] at this
  exact this
 have hb:yzT (rsL m):=yCt (List.pairwise_map.2 p2)
 refine ⟨rsL m,hp,hb,fun K=>?_⟩
 refine yrd _ _ _ _ _ (fun K k=>?_) K
 have sl:small ((cs.getD 0 default).len:Rat):=yfb (by omega)
 have hfl:=yGs A
 have hend:∀ (q:Rat),small q→asr (decide ((0:Int)<(((cks cs).length:Nat):Int))) (asr (conf zK (List.getD (cks cs) 0 .nils)) (yaw (yaa (yac (List.getD (cks cs) 0 .nils) 0)) fun a b=>yai q.num q.den a b fun b=>K b))=K (decide (q<((cs.getD 0 default).len:Rat))):=fun q hq=>by
  rw [yba,asT (by omega),yge (by omega),asCk,ck0,ygU,yiB hq sl]
 unfold yaf ygB
 dsimp only [Go.Pf.jn,lt]
 refine ⟨A.length+1,?_⟩
 rw [ycP]
 refine (yCx (by omega) h.m A.length 0 (A.length+1) 0 (by omega) (by omega) (by omega)).mpr ?_
 rw [qAt,qA6,cbF (by omega)]
 have e2:=wib (n:=((tot A:Nat):Int)-0) (by omega) (by omega)
 rw [e2,show ((tot A:Nat):Int)-0=((tot A:Nat):Int) by omega]
 by_cases hz:tot A=0
 ·have hze:∀ a∈A,a=[]:=fun a ha=>by
   have hfe:=qAj (hfl.trans hz)
   exact List.flatten_eq_nil_iff.1 hfe a ha
  have hml:rsL m=[]:=qAj (by rw [hp.length_eq,hfl,hz])
  rw [hml] at k
  rw [cbF (by omega)]
  refine ⟨A.length+1,?_⟩
  rw [ycP]
  refine (yz8 (by omega) hze A.length 0 (A.length+1) (by omega) (by omega)).mpr ?_
  rw [ygU]
  refine ⟨1,?_⟩
  rw [yfe,cbF (by omega)]
  exact (hend 0 ykz).mpr k
 ·rw [cbT (by omega),asT (by omega),qAe,cbF (by omega),qA7,asT (by unfold room;omega)]
  have hor:(decide ((0:Int)≤((tot A:Nat):Int))||decide ((0:Int)≤((tot A:Nat):Int)))=true:=by rw [decide_eq_true (by omega)];rfl
  rw [hor,yaF,asT rfl]
  refine ⟨A.length+1,?_⟩
  rw [ycP]
  refine (yMd (by omega) _).mpr ?_
  have hcond:Srt.cond yoG.s (rsp A.flatten) 0 A.flatten.length (rsp A.flatten).length 4 false=true:=by
   obtain ⟨d,hd⟩:∃ d,(yoG).s.rows? (rsp A.flatten)=some d:=ywg fun y hy=>by
    obtain ⟨s,h4,rfl⟩:=qA2.1 hy
    obtain ⟨q,hq,rfl⟩:=qA2.1 h4
    exact yLY _ _ (yuL (hfS q hq) (hfV q hq))
   unfold Srt.cond
   rw [qAt,show List.take A.flatten.length (rsp A.flatten)=rsp A.flatten by rw [← yaM,qCc],hd,yaM]
   simp only [decide_true,qAy,qBh,Option.isSome_some,Bool.and_true,qAb,decide_eq_true_eq,qA6,qAl]
   exact ⟨by omega,rfl,by omega⟩
  rw [hcond,yaF,ygU]
  have hsrt:Srt.sorted yoG.s yoG.srt (rsp A.flatten)=rsp (rsL m):=by
   rw [show rsp A.flatten=ycn (A.flatten.map spOf) from rfl,← yjp hm]
   exact p3
  have hlm:(rsL m).length=A.flatten.length:=hp.length_eq
  have htk:List.take A.flatten.length (rsp A.flatten)=rsp A.flatten:=by rw [← yaM,qCc]
  have hdp:List.drop A.flatten.length (rsp A.flatten)=[]:=by rw [← yaM,qB1]
  rw [List.take_zero,qAt,htk,hsrt,qBs,qA6,hdp,qB6,yaM,yaM,asT (by rw [hlm]),← hlm]
  refine ⟨(rsL m).length+1,?_⟩
  have hms:∀ s∈rsL m,ycb s:=fun s hs=>hfS s (hp.mem_iff.1 hs)
  have h2:=yCz (len:=(cs.getD 0 default).len) (l:=rsL m) hms (by omega) (l1:=cks cs) (l2:=rspL A) (l3:=W) (l4:=PT) (K:=K)
   (x0:=fun _ l _ _ _ a b _ _ _ _=>asr (decide ((0:Int)<(((List.length l):Nat):Int))) (asr (conf zK (List.getD l 0 .nils)) (yaw (yaa (yac (List.getD l 0 .nils) 0)) fun c d=>yai a b c d fun b=>K b))) (x1:=fun _ b=>K b)
   (fun q hq=>hend q hq) rfl (rsL m).length 0 ((rsL m).length+1) 0 (by omega) (by omega) ykz
  refine h2.mpr ?_
  rw [qAt]
  exact k
end
end Go.Pf.Vc
namespace Go.Pf.Vc
open Go Go.Pf
theorem yNE {x d:Int} (h0:0≤x) (h1:x≤1000000000000000000) (d0:1≤d) (d1:d≤1000000000000000000):small ((x:Rat) / (d:Rat)):=by
 have hd:(d:Rat)≠0:=by
  have:(0:Rat)<(d:Rat):=Rat.intCast_pos.2 (by omega)
  grind
 generalize hq:(x:Rat) / (d:Rat)=q
 have e1:(q.num:Rat)*(d:Rat)=(x:Rat)*(q.den:Rat):=by
  have h2:(q.den:Rat)≠0:=by
   have:(0:Rat)<(q.den:Rat):=Rat.natCast_pos.2 q.den_pos
   grind
  have h3:q=(q.num:Rat) / (q.den:Rat):=by rw [← Rat.mkRat_eq_div,Rat.mkRat_self]
  have h4:q*(q.den:Rat)=(q.num:Rat):=by
   have:(q.num:Rat) / (q.den:Rat)*(q.den:Rat)=(q.num:Rat):=Rat.div_mul_cancel h2
   rw [← h3] at this
   exact this
  have h5:q*(d:Rat)=(x:Rat):=by rw [← hq];exact Rat.div_mul_cancel hd
  grind
 have e2:q.num*d=x*(q.den:Int):=by
  rw [show (q.den:Rat)=(((q.den:Nat):Int):Rat) from (Rat.intCast_natCast _).symm,← Rat.intCast_mul,← Rat.intCast_mul] at e1
  exact Rat.intCast_inj.1 e1
 have hp:=q.den_pos
 have n0:0≤q.num:=by
  refine Int.not_lt.1 fun h=>?_
  have a1:q.num*d<0:=qBv h (by omega)
  have a2:0≤x*(q.den:Int):=qA3 h0 (by omega)
  omega
 have hdv:q.den∣d.natAbs:=by
  have hc:Nat.Coprime q.den q.num.natAbs:=q.reduced.symm
  refine hc.dvd_of_dvd_mul_left (m:=q.num.natAbs) ?_
  have:(q.num*d).natAbs=(x*(q.den:Int)).natAbs:=by rw [e2]
  rw [Int.natAbs_mul,Int.natAbs_mul,Int.natAbs_natCast] at this
  rw [this]
  exact Nat.dvd_mul_left ..
 obtain ⟨t,ht⟩:=hdv
 have hd2:d=(q.den:Int)*(t:Int):=by
  rw [← Int.natCast_mul,← ht];omega
 have t1:1≤t:=by
  rcases Nat.eq_zero_or_pos t with h | h
  ·rw [h] at hd2;omega
  ·exact h
 have e3:q.num*(t:Int)=x:=by
  have:(q.num*(t:Int))*(q.den:Int)=x*(q.den:Int):=by rw [← e2,hd2,Int.mul_assoc,Int.mul_comm (t:Int)]
  exact Int.eq_of_mul_eq_mul_right (by omega) this
 have e4:q.num≤q.num*(t:Int):=by
  have:=Int.mul_le_mul_of_nonneg_left (show (1:Int)≤(t:Int) by omega) n0
  omega
 have e5:(q.den:Int)≤(q.den:Int)*(t:Int):=by
  have:=Int.mul_le_mul_of_nonneg_left (show (1:Int)≤(t:Int) by omega) (show (0:Int)≤(q.den:Int) by omega)
  omega
 exact ⟨by omega,by omega,by omega⟩
def ymv (f:Nat→Bool):Nat→Nat→Option Nat
 | 0,_=>none
 | r+1,i=>if f i then some i else ymv f r (i+1)
def ycd (f:Nat→Nat→Bool) (n:Nat):Nat→Nat→Option (Nat×Nat)
 | 0,_=>none
 | r+1,i=>match ymv (f i) n 0 with
  | some j=>some (i,j)
  | none=>ycd f n r (i+1)
theorem yhv (cs:List Ck) (A:List (List RS)):(tabW cs A).length=cs.length:=qAk ..
theorem yob {cs:List Ck} {A:List (List RS)} {i:Nat} (h:i<cs.length):List.getD (tabW cs A) i .nils=.data (rts (A.map (wV (cs.getD i default)))):=by
 unfold tabW
 rw [qAd,qAd,qBb,qAa h]
 rfl
theorem yjg {c:Ck} {A:List (List RS)} {i:Nat} (h:i<A.length):(A.map (wV c)).getD i 0=wV c (A.getD i []):=by
 rw [qAd,qAd,qBb,qAa h]
 rfl
def wr0 (A:List (List RS)) (a b:Nat):Bool:=decide (a<b)&&yn9 (A.getD a []) (A.getD b [])
def yEs (cs:List Ck) (a:Nat):Rat:=((totC (cs.getD a default).cuts (cs.getD a default).dens:Int):Rat) / ((cs.length:Int):Rat)
def wr1 (cs:List Ck) (A:List (List RS)) (a b:Nat):Bool:=decide (a=b)&&decide (wV (cs.getD a default) (A.getD a [])<yEs cs a)
def wr2 (cs:List Ck) (A:List (List RS)) (a b:Nat):Bool:=decide (wV (cs.getD a default) (A.getD a [])<wV (cs.getD a default) (A.getD b []))
def wr3 (P:List Rat) (a b:Nat):Bool:=decide (b=0)&&!decide (P.getD a 0=P.getD 0 0)
def wr4 (A:List (List RS)) (a b:Nat):Bool:=decide (a=b)&&decide ((A.getD a []).length≠1)
section
variable {cs:List Ck} {A:List (List RS)}
theorem DV.small (h:DV cs A) (hw:∀ c∈cs,∀ a∈A,small (wV c a)) {i j:Nat} (hi:i<cs.length) (hj:j<cs.length):Go.Pf.Vc.small (wV (cs.getD i default) (A.getD j [])) :=
 hw _ (yaX _ hi) _ (yaX _ (by rw [h.l];exact hj))
theorem yEt (a b:Nat):(((a:Int)) ==(b:Int))=decide (a=b):=by
 rw [Bool.eq_iff_iff,beq_iff_eq,decide_eq_true_eq];omega
theorem yGt {c:Ck} {n:Nat} (hc:c.ok) (h1:1≤n) (h6:n≤6):small (((totC c.cuts c.dens:Int):Rat) / ((n:Int):Rat)):=by
 have:=ykq hc
 exact yNE (by omega) (by omega) (by omega) (by omega)
theorem yPz (h:DV cs A) {l2 l3 l4 l5 l6 l7:List PV} {i9 i10:Int} {x0:List PV→List PV→List PV→List PV→List PV→List PV→List PV→List PV→Int→Int→Int→Int→Int→Bool→Prop} {x1:List PV→List PV→List PV→List PV→Int→Int→Bool→Prop} {a j n:Nat} (ha:a<cs.length) (hj:j<cs.length) :
 ya0 yak yaf yah yam yai x0 x1 (n+1) (cks cs) (rspL A) l2 l3 l4 l5 l6 l7 (a:Int) i9 i10 (cs.length:Int) (j:Int)=cbr (wr0 A a j) (x1 (cks cs) (rspL A) l2 l3 (a:Int) (j:Int) true) (ya0 yak yaf yah yam yai x0 x1 n (cks cs) (rspL A) l2 l3 l4 l5 l6 l7 (a:Int) i9 i10 (cs.length:Int) ((j+1:Nat):Int)):=by
 have h6:=h.d.n6;have h1:=h.d.n0;have hl:=h.l
 have e1:=wib (n:=(j:Int)+1) (by omega) (by omega)
 rw [ya0,cbT (by omega)]
 dsimp only [lt,Go.Pf.jn]
 have ja:=h.p _ (yaX [] (show a<A.length by omega))
 have jb:=h.p _ (yaX [] (show j<A.length by omega))
 have na:=ja.n
 have nb:=jb.n
 unfold wr0
 by_cases hlt:a<j
 ·rw [decide_eq_true hlt,cbT (by omega),ycP,asT (by omega),asT (by omega),qAe,yfo (by omega),asD,asT (by omega),asT (by omega),qAe,yfo (by omega),asD,datD,datD,yMa ja.s jb.s (by omega) (by omega),qAy,e1,ybM]
 ·rw [decide_eq_false hlt,cbF (by omega),qBc,e1,ybM]
theorem yPA (h:DV cs A) (hw:∀ c∈cs,∀ a∈A,small (wV c a)) {l3 l4 l5 l6 l7:List PV} {i9 i10:Int} {x0:List PV→List PV→List PV→List PV→List PV→List PV→List PV→List PV→Int→Int→Int→Int→Int→Bool→Prop} {x1:List PV→List PV→List PV→List PV→Int→Int→Bool→Prop} {a j n:Nat} (ha:a<cs.length) (hj:j<cs.length) :
 ya1 yak yaf yah yam yai x1 x0 (n+1) (cks cs) (rspL A) (tabW cs A) l3 l4 l5 l6 l7 (a:Int) i9 i10 (cs.length:Int) (j:Int)=cbr (wr1 cs A a j) (x1 (cks cs) (rspL A) (tabW cs A) l3 (a:Int) (j:Int) true) (ya1 yak yaf yah yam yai x1 x0 n (cks cs) (rspL A) (tabW cs A) l3 l4 l5 l6 l7 (a:Int) i9 i10 (cs.length:Int) ((j+1:Nat):Int)):=by
 have h6:=h.d.n6;have h1:=h.d.n0;have hl:=h.l
 have e1:=wib (n:=(j:Int)+1) (by omega) (by omega)
 rw [ya1,cbT (by omega)]
 dsimp only [lt,Go.Pf.jn]
 have hok:=(h.d.ok a ha)
 have l1:=hok.l1;have l2:=hok.l2
 have hto:=ykq hok
 have hT:I64 (totC (cs.getD a default).cuts (cs.getD a default).dens):=by constructor <;> omega
 have hN:I64 (cs.length:Int):=by constructor <;> omega
 have hss:small (yEs cs a):=yGt hok h1 h6
 rw [asT (by omega),yba,asT (by omega),qAe,yge ha,asCk,ck0,ck1,ck2,yCg (by omega) (by omega),if_pos hok.ck,yLM hT hN (by omega)]
 unfold yEs at hss
 unfold fitK
 rw [if_pos hss]
 dsimp only
 rw [yEt,e1,ybM]
 unfold wr1 yEs
 by_cases hab:a=j
 ·rw [decide_eq_true hab,yag,asT (by omega),yhv,asT (by omega),yob ha,asD,asT (by omega),datD,yib,qAk,asT (by omega),yky (by rw [qAk];omega),asW,yqi,yqj,yjg (by omega),qAy]
  rw [yiB (h.small hw ha ha) hss]
 ·rw [decide_eq_false hab,yab,qBc]
theorem yPB (h:DV cs A) (hw:∀ c∈cs,∀ a∈A,small (wV c a)) {l3 l4 l5 l6 l7:List PV} {i9 i10:Int} {x0:List PV→List PV→List PV→List PV→List PV→List PV→List PV→List PV→Int→Int→Int→Int→Int→Bool→Prop} {x1:List PV→List PV→List PV→List PV→Int→Int→Bool→Prop} {a j n:Nat} (ha:a<cs.length) (hj:j<cs.length) :
 ya2 yak yaf yah yam yai x1 x0 (n+1) (cks cs) (rspL A) (tabW cs A) l3 l4 l5 l6 l7 (a:Int) i9 i10 (cs.length:Int) (j:Int)=cbr (wr2 cs A a j) (x1 (cks cs) (rspL A) (tabW cs A) l3 (a:Int) (j:Int) true) (ya2 yak yaf yah yam yai x1 x0 n (cks cs) (rspL A) (tabW cs A) l3 l4 l5 l6 l7 (a:Int) i9 i10 (cs.length:Int) ((j+1:Nat):Int)):=by
 have h6:=h.d.n6;have h1:=h.d.n0;have hl:=h.l
 have e1:=wib (n:=(j:Int)+1) (by omega) (by omega)
 rw [ya2,cbT (by omega)]
 dsimp only [lt,Go.Pf.jn]
 unfold wr2
 rw [asT (by omega),yhv,asT (by omega),qAe,yob ha,asD,asT (by omega),datD,yib,qAk,asT (by omega),yky (by rw [qAk];omega),asW,asT (by omega),asT (by omega),asT (by omega),asT (by omega),qAe,yky (by rw [qAk];omega),asW,yqi,yqj,yqi,yqj,yjg (by omega),yjg (by omega),yiB (h.small hw ha ha) (h.small hw ha hj),e1,ybM,asD]
theorem yPC (h:DV cs A) {P:List Rat} (hP:P.length=cs.length) {l2 l4 l5 l6 l7:List PV} {i9 i10:Int} {x0:List PV→List PV→List PV→List PV→List PV→List PV→List PV→List PV→Int→Int→Int→Int→Int→Bool→Prop} {x1:List PV→List PV→List PV→List PV→Int→Int→Bool→Prop} {a j n:Nat} (ha:a<cs.length) (hj:j<cs.length) :
 ya3 yak yaf yah yam yai x1 x0 (n+1) (cks cs) (rspL A) l2 (rts P) l4 l5 l6 l7 (a:Int) i9 i10 (cs.length:Int) (j:Int)=cbr (wr3 P a j) (x1 (cks cs) (rspL A) l2 (rts P) (a:Int) (j:Int) true) (ya3 yak yaf yah yam yai x1 x0 n (cks cs) (rspL A) l2 (rts P) l4 l5 l6 l7 (a:Int) i9 i10 (cs.length:Int) ((j+1:Nat):Int)):=by
 have h6:=h.d.n6;have h1:=h.d.n0;have hl:=h.l
 have e1:=wib (n:=(j:Int)+1) (by omega) (by omega)
 rw [ya3,cbT (by omega)]
 dsimp only [lt,Go.Pf.jn]
 unfold wr3
 rw [show ((j:Int) ==(0:Int))=decide (j=0) from yEt j 0,e1,ybM]
 by_cases hab:j=0
 ·rw [decide_eq_true hab,yag,asT (by omega),yib,asT (by omega),qAe,yky (by omega),asW,asT (by omega),yky (by omega),asW,yqi,yqj,yqi,yqj,yPq,qAy]
 ·rw [decide_eq_false hab,yab,qBc]
theorem yPD (h:DV cs A) {l2 l3 l4 l5 l6 l7:List PV} {i9 i10:Int} {x0:List PV→List PV→List PV→List PV→List PV→List PV→List PV→List PV→Int→Int→Int→Int→Int→Bool→Prop} {x1:List PV→List PV→List PV→List PV→Int→Int→Bool→Prop} {a j n:Nat} (_:a<cs.length) (hj:j<cs.length) :
 ya4 yak yaf yah yam yai x1 x0 (n+1) (cks cs) (rspL A) l2 l3 l4 l5 l6 l7 (a:Int) i9 i10 (cs.length:Int) (j:Int)=cbr (wr4 A a j) (x1 (cks cs) (rspL A) l2 l3 (a:Int) (j:Int) true) (ya4 yak yaf yah yam yai x1 x0 n (cks cs) (rspL A) l2 l3 l4 l5 l6 l7 (a:Int) i9 i10 (cs.length:Int) ((j+1:Nat):Int)):=by
 have h6:=h.d.n6;have h1:=h.d.n0;have hl:=h.l
 have e1:=wib (n:=(j:Int)+1) (by omega) (by omega)
 rw [ya4,cbT (by omega)]
 dsimp only [lt,Go.Pf.jn]
 unfold wr4
 rw [yEt,e1,ybM]
 by_cases hab:a=j
 ·have hne:((((A.getD a []).length:Nat):Int) !=(1:Int))=decide ((A.getD a []).length≠1):=by
   rw [Bool.eq_iff_iff,bne_iff_ne,decide_eq_true_eq];omega
  rw [decide_eq_true hab,yag,asT (by omega),ycP,asT (by omega),qAe,yfo (by omega),asD,datD,yaM,hne,qAy]
 ·rw [decide_eq_false hab,yab,qBc]
end
end Go.Pf.Vc
namespace Go.Pf.Vc
open Go Go.Pf
def onB (X:Nat→Prop) (Y:Prop):Option Nat→Prop
 | some j=>X j
 | none=>Y
def onA (X:Nat→Nat→Prop) (Y:Prop):Option (Nat×Nat)→Prop
 | some (a,b)=>X a b
 | none=>Y
theorem yqQ {f:Nat→Bool} {N:Nat} {L:Nat→Nat→Prop} {X:Nat→Prop} {Y:Prop} (hs:∀ n j,j<N→L (n+1) j=cbr (f j) (X j) (L n (j+1))) (he:∀ n,L (n+1) N=Y) :
  ∀ (r j n:Nat),j+r=N→r<n→L n j=onB X Y (ymv f r j)
 | 0,j,n+1,hj,_=>by
  obtain rfl:j=N:=by omega
  rw [he];rfl
 | r+1,j,n+1,hj,hn=>by
  rw [hs n j (by omega),ymv]
  cases f j with
  | true=>rw [yag];rfl
  | false=>rw [yab];exact yqQ hs he r (j+1) n (by omega) (by omega)
theorem ymw {f:Nat→Nat→Bool} {N:Nat} {L:Nat→Nat→Prop} {X:Nat→Nat→Prop} {Y:Prop} (hs:∀ n a,a<N→onB (X a) (L n (a+1)) (ymv (f a) N 0)→L (n+1) a) (he:∀ n,Y→L (n+1) N) :
  ∀ (r a n:Nat),a+r=N→r<n→onA X Y (ycd f N r a)→L n a
 | 0,a,n+1,ha,_,h=>by
  obtain rfl:a=N:=by omega
  exact he n h
 | r+1,a,n+1,ha,hn,h=>by
  refine hs n a (by omega) ?_
  rw [ycd] at h
  cases hb:ymv (f a) N 0 with
  | some j=>rw [hb] at h;exact h
  | none=>rw [hb] at h;exact ymw hs he r (a+1) n (by omega) (by omega) h
section
variable {cs:List Ck} {A:List (List RS)}
theorem yPE (h:DV cs A) {l2 l3:List PV} {x0:List PV→List PV→List PV→List PV→List PV→List PV→List PV→List PV→Int→Int→Bool→Prop} {x1:List PV→List PV→List PV→List PV→Int→Int→Bool→Prop} :
  ∀ (r a n:Nat),a+r=cs.length→r<n→onA (fun a b=>x1 (cks cs) (rspL A) l2 l3 (a:Int) (b:Int) true) (x0 (cks cs) (rspL A) l2 l3 (cks cs) (rspL A) l2 l3 (cs.length:Int) (cs.length:Int) false) (ycd (wr0 A) cs.length r a)→ya5 yak yaf yah yam yai x0 x1 n (cks cs) (rspL A) l2 l3 (cks cs) (rspL A) l2 l3 (cs.length:Int) (a:Int):=by
 have h6:=h.d.n6
 refine ymw (L:=fun n a=>ya5 yak yaf yah yam yai x0 x1 n (cks cs) (rspL A) l2 l3 (cks cs) (rspL A) l2 l3 (cs.length:Int) (a:Int)) (fun n a ha hb=>?_) (fun n hy=>?_)
 ·have e1:=wib (n:=(a:Int)+1) (by omega) (by omega)
  show ya5 yak yaf yah yam yai x0 x1 (n+1) (cks cs) (rspL A) l2 l3 (cks cs) (rspL A) l2 l3 (cs.length:Int) (a:Int)
  rw [ya5,cbT (by omega),yba]
  dsimp only [lt,Go.Pf.jn]
  refine ⟨cs.length+1,?_⟩
  refine (yqQ (f:=(wr0 A) a) (N:=cs.length) (L:=fun n j=>ya0 yak yaf yah yam yai _ _ n (cks cs) (rspL A) l2 l3 (cks cs) (rspL A) l2 l3 (a:Int) (cs.length:Int) (a:Int) (cs.length:Int) (j:Int)) (fun n j hj=>yPz h ha hj) (fun n=>?_) cs.length 0 (cs.length+1) (by omega) (by omega)).mpr hb
  show ya0 yak yaf yah yam yai _ _ (n+1) (cks cs) (rspL A) l2 l3 (cks cs) (rspL A) l2 l3 (a:Int) (cs.length:Int) (a:Int) (cs.length:Int) (cs.length:Int)=_
  rw [ya0,cbF (by omega),e1,ybM]
 ·show ya5 yak yaf yah yam yai x0 x1 (n+1) (cks cs) (rspL A) l2 l3 (cks cs) (rspL A) l2 l3 (cs.length:Int) (cs.length:Int)
  rw [ya5,cbF (by omega)]
  exact hy
theorem yPF (h:DV cs A) (hw:∀ c∈cs,∀ a∈A,small (wV c a)) {l3:List PV} {x0:List PV→List PV→List PV→List PV→List PV→List PV→List PV→List PV→Int→Int→Bool→Prop} {x1:List PV→List PV→List PV→List PV→Int→Int→Bool→Prop} :
  ∀ (r a n:Nat),a+r=cs.length→r<n→onA (fun a b=>x1 (cks cs) (rspL A) (tabW cs A) l3 (a:Int) (b:Int) true) (x0 (cks cs) (rspL A) (tabW cs A) l3 (cks cs) (rspL A) (tabW cs A) l3 (cs.length:Int) (cs.length:Int) false) (ycd (wr1 cs A) cs.length r a)→ya6 yak yaf yah yam yai x1 x0 n (cks cs) (rspL A) (tabW cs A) l3 (cks cs) (rspL A) (tabW cs A) l3 (cs.length:Int) (a:Int):=by
 have h6:=h.d.n6
 refine ymw (L:=fun n a=>ya6 yak yaf yah yam yai x1 x0 n (cks cs) (rspL A) (tabW cs A) l3 (cks cs) (rspL A) (tabW cs A) l3 (cs.length:Int) (a:Int)) (fun n a ha hb=>?_) (fun n hy=>?_)
 ·have e1:=wib (n:=(a:Int)+1) (by omega) (by omega)
  show ya6 yak yaf yah yam yai x1 x0 (n+1) (cks cs) (rspL A) (tabW cs A) l3 (cks cs) (rspL A) (tabW cs A) l3 (cs.length:Int) (a:Int)
  rw [ya6,cbT (by omega),yba]
  dsimp only [lt,Go.Pf.jn]
  refine ⟨cs.length+1,?_⟩
  refine (yqQ (f:=(wr1 cs A) a) (N:=cs.length) (L:=fun n j=>ya1 yak yaf yah yam yai _ _ n (cks cs) (rspL A) (tabW cs A) l3 (cks cs) (rspL A) (tabW cs A) l3 (a:Int) (cs.length:Int) (a:Int) (cs.length:Int) (j:Int)) (fun n j hj=>yPA h hw ha hj) (fun n=>?_) cs.length 0 (cs.length+1) (by omega) (by omega)).mpr hb
  show ya1 yak yaf yah yam yai _ _ (n+1) (cks cs) (rspL A) (tabW cs A) l3 (cks cs) (rspL A) (tabW cs A) l3 (a:Int) (cs.length:Int) (a:Int) (cs.length:Int) (cs.length:Int)=_
  rw [ya1,cbF (by omega),e1,ybM]
 ·show ya6 yak yaf yah yam yai x1 x0 (n+1) (cks cs) (rspL A) (tabW cs A) l3 (cks cs) (rspL A) (tabW cs A) l3 (cs.length:Int) (cs.length:Int)
  rw [ya6,cbF (by omega)]
  exact hy
theorem yPG (h:DV cs A) (hw:∀ c∈cs,∀ a∈A,small (wV c a)) {l3:List PV} {x0:List PV→List PV→List PV→List PV→List PV→List PV→List PV→List PV→Int→Int→Bool→Prop} {x1:List PV→List PV→List PV→List PV→Int→Int→Bool→Prop} :
  ∀ (r a n:Nat),a+r=cs.length→r<n→onA (fun a b=>x1 (cks cs) (rspL A) (tabW cs A) l3 (a:Int) (b:Int) true) (x0 (cks cs) (rspL A) (tabW cs A) l3 (cks cs) (rspL A) (tabW cs A) l3 (cs.length:Int) (cs.length:Int) false) (ycd (wr2 cs A) cs.length r a)→ya7 yak yaf yah yam yai x1 x0 n (cks cs) (rspL A) (tabW cs A) l3 (cks cs) (rspL A) (tabW cs A) l3 (cs.length:Int) (a:Int):=by
 have h6:=h.d.n6
 refine ymw (L:=fun n a=>ya7 yak yaf yah yam yai x1 x0 n (cks cs) (rspL A) (tabW cs A) l3 (cks cs) (rspL A) (tabW cs A) l3 (cs.length:Int) (a:Int)) (fun n a ha hb=>?_) (fun n hy=>?_)
 ·have e1:=wib (n:=(a:Int)+1) (by omega) (by omega)
  show ya7 yak yaf yah yam yai x1 x0 (n+1) (cks cs) (rspL A) (tabW cs A) l3 (cks cs) (rspL A) (tabW cs A) l3 (cs.length:Int) (a:Int)
  rw [ya7,cbT (by omega),yba]
  dsimp only [lt,Go.Pf.jn]
  refine ⟨cs.length+1,?_⟩
  refine (yqQ (f:=(wr2 cs A) a) (N:=cs.length) (L:=fun n j=>ya2 yak yaf yah yam yai _ _ n (cks cs) (rspL A) (tabW cs A) l3 (cks cs) (rspL A) (tabW cs A) l3 (a:Int) (cs.length:Int) (a:Int) (cs.length:Int) (j:Int)) (fun n j hj=>yPB h hw ha hj) (fun n=>?_) cs.length 0 (cs.length+1) (by omega) (by omega)).mpr hb
  show ya2 yak yaf yah yam yai _ _ (n+1) (cks cs) (rspL A) (tabW cs A) l3 (cks cs) (rspL A) (tabW cs A) l3 (a:Int) (cs.length:Int) (a:Int) (cs.length:Int) (cs.length:Int)=_
  rw [ya2,cbF (by omega),e1,ybM]
 ·show ya7 yak yaf yah yam yai x1 x0 (n+1) (cks cs) (rspL A) (tabW cs A) l3 (cks cs) (rspL A) (tabW cs A) l3 (cs.length:Int) (cs.length:Int)
  rw [ya7,cbF (by omega)]
  exact hy
theorem yPH (h:DV cs A) {P:List Rat} (hP:P.length=cs.length) {l2:List PV} {x0:List PV→List PV→List PV→List PV→List PV→List PV→List PV→List PV→Int→Int→Bool→Prop} {x1:List PV→List PV→List PV→List PV→Int→Int→Bool→Prop} :
  ∀ (r a n:Nat),a+r=cs.length→r<n→onA (fun a b=>x1 (cks cs) (rspL A) l2 (rts P) (a:Int) (b:Int) true) (x0 (cks cs) (rspL A) l2 (rts P) (cks cs) (rspL A) l2 (rts P) (cs.length:Int) (cs.length:Int) false) (ycd (wr3 P) cs.length r a)→ya8 yak yaf yah yam yai x1 x0 n (cks cs) (rspL A) l2 (rts P) (cks cs) (rspL A) l2 (rts P) (cs.length:Int) (a:Int):=by
 have h6:=h.d.n6
 refine ymw (L:=fun n a=>ya8 yak yaf yah yam yai x1 x0 n (cks cs) (rspL A) l2 (rts P) (cks cs) (rspL A) l2 (rts P) (cs.length:Int) (a:Int)) (fun n a ha hb=>?_) (fun n hy=>?_)
 ·have e1:=wib (n:=(a:Int)+1) (by omega) (by omega)
  show ya8 yak yaf yah yam yai x1 x0 (n+1) (cks cs) (rspL A) l2 (rts P) (cks cs) (rspL A) l2 (rts P) (cs.length:Int) (a:Int)
  rw [ya8,cbT (by omega),yba]
  dsimp only [lt,Go.Pf.jn]
  refine ⟨cs.length+1,?_⟩
  refine (yqQ (f:=(wr3 P) a) (N:=cs.length) (L:=fun n j=>ya3 yak yaf yah yam yai _ _ n (cks cs) (rspL A) l2 (rts P) (cks cs) (rspL A) l2 (rts P) (a:Int) (cs.length:Int) (a:Int) (cs.length:Int) (j:Int)) (fun n j hj=>yPC h hP ha hj) (fun n=>?_) cs.length 0 (cs.length+1) (by omega) (by omega)).mpr hb
  show ya3 yak yaf yah yam yai _ _ (n+1) (cks cs) (rspL A) l2 (rts P) (cks cs) (rspL A) l2 (rts P) (a:Int) (cs.length:Int) (a:Int) (cs.length:Int) (cs.length:Int)=_
  rw [ya3,cbF (by omega),e1,ybM]
 ·show ya8 yak yaf yah yam yai x1 x0 (n+1) (cks cs) (rspL A) l2 (rts P) (cks cs) (rspL A) l2 (rts P) (cs.length:Int) (cs.length:Int)
  rw [ya8,cbF (by omega)]
  exact hy
theorem yPI (h:DV cs A) {l2 l3:List PV} {x0:List PV→List PV→List PV→List PV→List PV→List PV→List PV→List PV→Int→Int→Bool→Prop} {x1:List PV→List PV→List PV→List PV→Int→Int→Bool→Prop} :
  ∀ (r a n:Nat),a+r=cs.length→r<n→onA (fun a b=>x1 (cks cs) (rspL A) l2 l3 (a:Int) (b:Int) true) (x0 (cks cs) (rspL A) l2 l3 (cks cs) (rspL A) l2 l3 (cs.length:Int) (cs.length:Int) false) (ycd (wr4 A) cs.length r a)→ya9 yak yaf yah yam yai x1 x0 n (cks cs) (rspL A) l2 l3 (cks cs) (rspL A) l2 l3 (cs.length:Int) (a:Int):=by
 have h6:=h.d.n6
 refine ymw (L:=fun n a=>ya9 yak yaf yah yam yai x1 x0 n (cks cs) (rspL A) l2 l3 (cks cs) (rspL A) l2 l3 (cs.length:Int) (a:Int)) (fun n a ha hb=>?_) (fun n hy=>?_)
 ·have e1:=wib (n:=(a:Int)+1) (by omega) (by omega)
  show ya9 yak yaf yah yam yai x1 x0 (n+1) (cks cs) (rspL A) l2 l3 (cks cs) (rspL A) l2 l3 (cs.length:Int) (a:Int)
  rw [ya9,cbT (by omega),yba]
  dsimp only [lt,Go.Pf.jn]
  refine ⟨cs.length+1,?_⟩
  refine (yqQ (f:=(wr4 A) a) (N:=cs.length) (L:=fun n j=>ya4 yak yaf yah yam yai _ _ n (cks cs) (rspL A) l2 l3 (cks cs) (rspL A) l2 l3 (a:Int) (cs.length:Int) (a:Int) (cs.length:Int) (j:Int)) (fun n j hj=>yPD h ha hj) (fun n=>?_) cs.length 0 (cs.length+1) (by omega) (by omega)).mpr hb
  show ya4 yak yaf yah yam yai _ _ (n+1) (cks cs) (rspL A) l2 l3 (cks cs) (rspL A) l2 l3 (a:Int) (cs.length:Int) (a:Int) (cs.length:Int) (cs.length:Int)=_
  rw [ya4,cbF (by omega),e1,ybM]
 ·show ya9 yak yaf yah yam yai x1 x0 (n+1) (cks cs) (rspL A) l2 l3 (cks cs) (rspL A) l2 l3 (cs.length:Int) (cs.length:Int)
  rw [ya9,cbF (by omega)]
  exact hy
end
end Go.Pf.Vc
namespace Go.Pf.Vc
open Go Go.Pf
def yhC:Option (Nat×Nat)→Int×Int×Bool
 | some (a,b)=>(a,b,true)
 | none=>(0,0,false)
def brk (cs:List Ck) (A:List (List RS)) (P:List Rat) (g:Bool) (c:Int):Int×Int×Bool :=
 if c=1 then (match ycd (wr0 A) cs.length cs.length 0 with
  | some (a,b)=>(a,b,true)
  | none=>if g then (-1,-1,true) else (0,0,false))
 else if c=2 then yhC (ycd (wr1 cs A) cs.length cs.length 0)
 else if c=4 then yhC (ycd (wr2 cs A) cs.length cs.length 0)
 else if c=8 then yhC (ycd (wr3 P) cs.length cs.length 0)
 else yhC (ycd (wr4 A) cs.length cs.length 0)
theorem ywl {cs:List Ck} {A:List (List RS)} (h:DV cs A) (hw:∀ c∈cs,∀ a∈A,small (wV c a)) {P:List Rat} {c:Int} (hP:c=8→P.length=cs.length) (hc:c=1∨c=2∨c=4∨c=8∨c=16) {g:Bool}
  (hg:∀ K,yaf (cks cs) (rspL A) (tabW cs A) (rts P) K=K g) (K:Int→Int→Bool→Prop) :
  yau (cks cs) (rspL A) (tabW cs A) (rts P) c K=K (brk cs A P g c).1 (brk cs A P g c).2.1 (brk cs A P g c).2.2:=by
 refine ynX _ _ _ _ _ _ _ _ (fun K k=>?_) K
 unfold yau yff
 dsimp only [Go.Pf.jn]
 rcases hc with rfl | rfl | rfl | rfl | rfl
 ·show cbr true _ _
  rw [yag]
  refine ⟨cs.length+1,?_⟩
  rw [yba]
  refine yPE h cs.length 0 (cs.length+1) (by omega) (by omega) ?_
  have k:K (match ycd (wr0 A) cs.length cs.length 0 with | some (a,b)=>((a:Int),(b:Int),true) | none=>if g then (-1,-1,true) else (0,0,false)).1 (match ycd (wr0 A) cs.length cs.length 0 with | some (a,b)=>((a:Int),(b:Int),true) | none=>if g then (-1,-1,true) else (0,0,false)).2.1 (match ycd (wr0 A) cs.length cs.length 0 with | some (a,b)=>((a:Int),(b:Int),true) | none=>if g then (-1,-1,true) else (0,0,false)).2.2:=k
  cases hs:ycd (wr0 A) cs.length cs.length 0 with
  | some q =>
   rw [hs] at k
   exact k
  | none =>
   rw [hs] at k
   dsimp only [onA,qBh]
   rw [show (!false)=true from rfl,yag,hg]
   cases g with
   | true=>exact k
   | false=>exact k
 ·show cbr false _ (cbr true _ _)
  rw [yab,yag]
  refine ⟨cs.length+1,?_⟩
  rw [yba]
  refine yPF h hw cs.length 0 (cs.length+1) (by omega) (by omega) ?_
  have k:K (yhC (ycd (wr1 cs A) cs.length cs.length 0)).1 (yhC (ycd (wr1 cs A) cs.length cs.length 0)).2.1 (yhC (ycd (wr1 cs A) cs.length cs.length 0)).2.2:=k
  cases hs:ycd (wr1 cs A) cs.length cs.length 0 <;> (rw [hs] at k;exact k)
 ·show cbr false _ (cbr false _ (cbr true _ _))
  rw [yab,yab,yag]
  refine ⟨cs.length+1,?_⟩
  rw [yba]
  refine yPG h hw cs.length 0 (cs.length+1) (by omega) (by omega) ?_
  have k:K (yhC (ycd (wr2 cs A) cs.length cs.length 0)).1 (yhC (ycd (wr2 cs A) cs.length cs.length 0)).2.1 (yhC (ycd (wr2 cs A) cs.length cs.length 0)).2.2:=k
  cases hs:ycd (wr2 cs A) cs.length cs.length 0 <;> (rw [hs] at k;exact k)
 ·show cbr false _ (cbr false _ (cbr false _ (cbr true _ _)))
  rw [yab,yab,yab,yag]
  refine ⟨cs.length+1,?_⟩
  rw [yba]
  refine yPH h (hP rfl) cs.length 0 (cs.length+1) (by omega) (by omega) ?_
  have k:K (yhC (ycd (wr3 P) cs.length cs.length 0)).1 (yhC (ycd (wr3 P) cs.length cs.length 0)).2.1 (yhC (ycd (wr3 P) cs.length cs.length 0)).2.2:=k
  cases hs:ycd (wr3 P) cs.length cs.length 0 <;> (rw [hs] at k;exact k)
 ·show cbr false _ (cbr false _ (cbr false _ (cbr false _ _)))
  rw [yab,yab,yab,yab]
  refine ⟨cs.length+1,?_⟩
  rw [yba]
  refine yPI h cs.length 0 (cs.length+1) (by omega) (by omega) ?_
  have k:K (yhC (ycd (wr4 A) cs.length cs.length 0)).1 (yhC (ycd (wr4 A) cs.length cs.length 0)).2.1 (yhC (ycd (wr4 A) cs.length cs.length 0)).2.2:=k
  cases hs:ycd (wr4 A) cs.length cs.length 0 <;> (rw [hs] at k;exact k)
end Go.Pf.Vc
namespace Go.Pf.Vc
open Go Go.Pf
def prt (cs:List Ck) (A:List (List RS)) (i:Nat):Rat:=wV (cs.getD i default) (A.getD i []) / ((totC (cs.getD i default).cuts (cs.getD i default).dens:Int):Rat)
def prtL (cs:List Ck) (A:List (List RS)) (n:Nat):List Rat:=(List.range n).map (prt cs A)
theorem yuO (cs:List Ck) (A:List (List RS)) (n:Nat):(prtL cs A n).length=n:=by unfold prtL;rw [qAk,List.length_range]
theorem yCA (cs:List Ck) (A:List (List RS)) (n:Nat):prtL cs A (n+1)=prtL cs A n++[prt cs A n]:=by unfold prtL;rw [List.range_succ,List.map_append];rfl
def prtK (cs:List Ck) (A:List (List RS)) (X Y:Prop):Nat→Nat→Prop
 | 0,_=>X
 | r+1,i=>if small (prt cs A i) then prtK cs A X Y r (i+1) else Y
section
variable {cs:List Ck} {A:List (List RS)}
theorem DV.total (h:DV cs A) {i:Nat} (hi:i<cs.length) (K:Int→Int→Prop):yah (cs.getD i default).len (ints (cs.getD i default).cuts) (ints (cs.getD i default).dens) K=K (totC (cs.getD i default).cuts (cs.getD i default).dens) 0:=by
 have hok:=h.d.ok i hi
 have l1:=hok.l1;have l2:=hok.l2
 rw [yCg (by omega) (by omega),if_pos hok.ck]
theorem DV.div (h:DV cs A) (hw:∀ c∈cs,∀ a∈A,Go.Pf.Vc.small (wV c a)) {i:Nat} (hi:i<cs.length) (K:Int→Int→Int→Prop):ybd (wV (cs.getD i default) (A.getD i [])).num (wV (cs.getD i default) (A.getD i [])).den ((totC (cs.getD i default).cuts (cs.getD i default).dens:Int):Rat).num ((totC (cs.getD i default).cuts (cs.getD i default).dens:Int):Rat).den K=fitK (prt cs A i) K:=by
 have hok:=h.d.ok i hi
 have tb:=ykq hok
 have tp:=yGc hok
 have hs:Go.Pf.Vc.small ((totC (cs.getD i default).cuts (cs.getD i default).dens:Int):Rat):=yfb (by omega)
 have h0:((totC (cs.getD i default).cuts (cs.getD i default).dens:Int):Rat)≠0:=fun e=>by
  have:(((totC (cs.getD i default).cuts (cs.getD i default).dens:Int):Rat))=((0:Int):Rat):=e
  have:=Rat.intCast_inj.1 this
  omega
 exact yNp (h.small hw hi hi) hs h0 K
theorem yoE (h:DV cs A) (hw:∀ c∈cs,∀ a∈A,small (wV c a)) (x2:List PV→List PV→List PV→List PV→Int→Int→Bool→Prop) (x3:List PV→List PV→List PV→List PV→Int→Prop) {YY:Prop} (hY:∀ L,x3 L (cks cs) (rspL A) (tabW cs A) 16=YY) :
  ∀ (r i n:Nat),i+r=cs.length→r<n→ydH yat yah yaw ybd yau x2 x3 n (rts (prtL cs A i)) (cks cs) (rspL A) (tabW cs A) (cs.length:Int) (i:Int)=prtK cs A (x2 (rts (prtL cs A cs.length)) (cks cs) (rspL A) (tabW cs A) (cs.length:Int) (cs.length:Int) false) YY r i
 | 0,i,n+1,hi,hn=>by
  obtain rfl:i=cs.length:=by omega
  rw [ydH,cbF (by omega)]
  rfl
 | r+1,i,n+1,hi,hn=>by
  have h6:=h.d.n6;have hl:=h.l
  have hi':i<cs.length:=by omega
  have e1:=wib (n:=(i:Int)+1) (by omega) (by omega)
  have ih:=yoE h hw x2 x3 hY r (i+1) n (by omega) (by omega)
  rw [ydH]
  dsimp only [lt,Go.Pf.jn]
  rw [cbT (by omega),asT (by omega),yba,asT (by omega),qAe,yge hi',asCk,ck0,ck1,ck2,h.total hi',asT (by omega),yhv,asT (by omega),yob hi',asD,asT (by omega),datD,yib,qAk,asT (by omega),yky (by rw [qAk];omega),asW,yqi,yqj,yjg (by omega),ygU,h.div hw hi']
  unfold prtK fitK
  by_cases hs:small (prt cs A i)
  ·rw [if_pos hs,if_pos hs]
   show cbr false _ _=_
   rw [yab,asT rfl,yib,yuO]
   simp only [qA6,qAl,decide_true,yaF]
   rw [show (!decide (i+1≤i))=true by rw [decide_eq_false (by omega)];rfl,yaF,asT (by unfold room;omega),show (true&&true)=true from rfl,yaF,e1,ybM,yJp,yJq,← yCA]
   exact ih
  ·rw [if_neg hs,if_neg hs]
   show cbr true _ _=_
   rw [yag,hY]
theorem ymx (h:DV cs A) (hw:∀ c∈cs,∀ a∈A,small (wV c a)) (x2:List PV→List PV→List PV→List PV→Int→Int→Bool→Prop) (x3:List PV→List PV→List PV→List PV→Int→Prop) {YY:Prop} (hY:∀ L,x3 L (cks cs) (rspL A) (tabW cs A) 16=YY) :
  ∀ (r i n:Nat),i+r=cs.length→r<n→ydb ybp yat yah yaw ybd yau x2 x3 n (rts (prtL cs A i)) (cks cs) (rspL A) (tabW cs A) (cs.length:Int) (i:Int)=prtK cs A (x2 (rts (prtL cs A cs.length)) (cks cs) (rspL A) (tabW cs A) (cs.length:Int) (cs.length:Int) false) YY r i
 | 0,i,n+1,hi,hn=>by
  obtain rfl:i=cs.length:=by omega
  rw [ydb,cbF (by omega)]
  rfl
 | r+1,i,n+1,hi,hn=>by
  have h6:=h.d.n6;have hl:=h.l
  have hi':i<cs.length:=by omega
  have e1:=wib (n:=(i:Int)+1) (by omega) (by omega)
  have ih:=ymx h hw x2 x3 hY r (i+1) n (by omega) (by omega)
  rw [ydb]
  dsimp only [lt,Go.Pf.jn]
  rw [cbT (by omega),asT (by omega),yba,asT (by omega),qAe,yge hi',asCk,ck0,ck1,ck2,h.total hi',asT (by omega),yhv,asT (by omega),yob hi',asD,asT (by omega),datD,yib,qAk,asT (by omega),yky (by rw [qAk];omega),asW,yqi,yqj,yjg (by omega),ygU,h.div hw hi']
  unfold prtK fitK
  by_cases hs:small (prt cs A i)
  ·rw [if_pos hs,if_pos hs]
   show cbr false _ _=_
   rw [yab,asT rfl,yib,yuO]
   simp only [qA6,qAl,decide_true,yaF]
   rw [show (!decide (i+1≤i))=true by rw [decide_eq_false (by omega)];rfl,yaF,asT (by unfold room;omega),show (true&&true)=true from rfl,yaF,e1,ybM,yJp,yJq,← yCA]
   exact ih
  ·rw [if_neg hs,if_neg hs]
   show cbr true _ _=_
   rw [yag,hY]
theorem ywm (h:DV cs A) (hw:∀ c∈cs,∀ a∈A,small (wV c a)) (x0:List PV→List PV→List PV→Int→Int→Bool→Prop) (x1:List PV→List PV→List PV→Int→Prop) (x2:List PV→List PV→List PV→List PV→Int→Int→Bool→Prop) (x3:List PV→List PV→List PV→List PV→Int→Prop) {YY:Prop} (hY1:x1 (cks cs) (rspL A) (tabW cs A) 16=YY) (hY:∀ L,x3 L (cks cs) (rspL A) (tabW cs A) 16=YY) :
 yfY yat yah yaw ybd yau x0 x1 x2 x3 (cs.length+1) (cks cs) (rspL A) (tabW cs A) (cs.length:Int) 0=prtK cs A (x2 (rts (prtL cs A cs.length)) (cks cs) (rspL A) (tabW cs A) (cs.length:Int) (cs.length:Int) false) YY cs.length 0:=by
 have h6:=h.d.n6;have h1:=h.d.n0;have hl:=h.l
 have hi':0<cs.length:=by omega
 have e1:=wib (n:=(0:Int)+1) (by omega) (by omega)
 obtain ⟨r,hr⟩:∃ r,cs.length=r+1:=⟨cs.length-1,by omega⟩
 have ih:=yoE h hw x2 x3 hY r 1 cs.length (by omega) (by omega)
 rw [yfY]
 dsimp only [lt,Go.Pf.jn]
 rw [cbT (by omega),asT (by omega),yba,asT (by omega),show (0:Int).toNat=0 from rfl,yge hi',asCk,ck0,ck1,ck2,h.total hi',asT (by omega),yhv,asT (by omega),yob hi',asD,asT (by omega),datD,yib,qAk,asT (by omega),yky (by rw [qAk];omega),asW,yqi,yqj,yjg (by omega),ygU,h.div hw hi']
 have eK:∀ X:Prop,prtK cs A X YY cs.length 0=if small (prt cs A 0) then prtK cs A X YY r 1 else YY:=fun X=>by rw [hr];rfl
 rw [eK]
 unfold fitK
 by_cases hs:small (prt cs A 0)
 ·rw [if_pos hs,if_pos hs]
  show cbr false _ _=_
  rw [yab,e1]
  exact ih
 ·rw [if_neg hs,if_neg hs]
  show cbr true _ _=_
  rw [yag,hY1]
theorem yuP (h:DV cs A) (hw:∀ c∈cs,∀ a∈A,small (wV c a)) (x0:List PV→List PV→List PV→Int→Int→Bool→Prop) (x1:List PV→List PV→List PV→Int→Prop) (x2:List PV→List PV→List PV→List PV→Int→Int→Bool→Prop) (x3:List PV→List PV→List PV→List PV→Int→Prop) {YY:Prop} (hY1:x1 (cks cs) (rspL A) (tabW cs A) 16=YY) (hY:∀ L,x3 L (cks cs) (rspL A) (tabW cs A) 16=YY) :
 yfn ybp yat yah yaw ybd yau x0 x1 x2 x3 (cs.length+1) (cks cs) (rspL A) (tabW cs A) (cs.length:Int) 0=prtK cs A (x2 (rts (prtL cs A cs.length)) (cks cs) (rspL A) (tabW cs A) (cs.length:Int) (cs.length:Int) false) YY cs.length 0:=by
 have h6:=h.d.n6;have h1:=h.d.n0;have hl:=h.l
 have hi':0<cs.length:=by omega
 have e1:=wib (n:=(0:Int)+1) (by omega) (by omega)
 obtain ⟨r,hr⟩:∃ r,cs.length=r+1:=⟨cs.length-1,by omega⟩
 have ih:=ymx h hw x2 x3 hY r 1 cs.length (by omega) (by omega)
 rw [yfn]
 dsimp only [lt,Go.Pf.jn]
 rw [cbT (by omega),asT (by omega),yba,asT (by omega),show (0:Int).toNat=0 from rfl,yge hi',asCk,ck0,ck1,ck2,h.total hi',asT (by omega),yhv,asT (by omega),yob hi',asD,asT (by omega),datD,yib,qAk,asT (by omega),yky (by rw [qAk];omega),asW,yqi,yqj,yjg (by omega),ygU,h.div hw hi']
 have eK:∀ X:Prop,prtK cs A X YY cs.length 0=if small (prt cs A 0) then prtK cs A X YY r 1 else YY:=fun X=>by rw [hr];rfl
 rw [eK]
 unfold fitK
 by_cases hs:small (prt cs A 0)
 ·rw [if_pos hs,if_pos hs]
  show cbr false _ _=_
  rw [yab,e1]
  exact ih
 ·rw [if_neg hs,if_neg hs]
  show cbr true _ _=_
  rw [yag,hY1]
end
end Go.Pf.Vc
namespace Go.Pf.Vc
open Go Go.Pf
def orU8 (a b:Int):Int:=IntKind.u8.wrap (BitVec.ofInt IntKind.u8.bits a|||BitVec.ofInt IntKind.u8.bits b).toNat
def bitC:Nat→Int
 | 0=>1
 | 1=>2
 | 2=>4
 | 3=>8
 | _=>16
def addC (cs:List Ck) (A:List (List RS)) (P:List Rat) (g:Bool) (acc:Int) (i:Nat):Int:=if (brk cs A P g (bitC i)).2.2 then acc else orU8 acc (bitC i)
theorem yNF {i:Nat} (h:i<5):IntKind.u8.wrap ((1:Int)*2 ^ (min ((i:Int)).toNat IntKind.u8.bits))=bitC i:=by
 obtain rfl | rfl | rfl | rfl | rfl:i=0∨i=1∨i=2∨i=3∨i=4:=by omega
 all_goals decide
theorem yOZ (i:Nat):bitC i=1∨bitC i=2∨bitC i=4∨bitC i=8∨bitC i=16:=by
 unfold bitC
 split <;> simp
section
variable {cs:List Ck} {A:List (List RS)}
theorem yKw (h:DV cs A) (hw:∀ c∈cs,∀ a∈A,small (wV c a)) {P:List Rat} (hP:P.length=cs.length) {g:Bool} (hg:∀ K,yaf (cks cs) (rspL A) (tabW cs A) (rts P) K=K g) (x1:List PV→List PV→List PV→List PV→Int→Int→List PV→Int→Bool→Prop) {n i:Nat} (hi:i<5) (e acc:Int) (l8:List PV) :
  ycV yat yah yaw ybd yau x1 (n+1) (rts P) (cks cs) (rspL A) (tabW cs A) e acc l8 (i:Int)=ycV yat yah yaw ybd yau x1 n (rts P) (cks cs) (rspL A) (tabW cs A) e (addC cs A P g acc i) l8 ((i+1:Nat):Int):=by
 have e1:=wib (n:=(i:Int)+1) (by omega) (by omega)
 have hn:(!decide ((i:Int)<0))=true:=by rw [decide_eq_false (by omega)];rfl
 rw [ycV]
 dsimp only [lt,Go.Pf.jn]
 rw [cbT (by omega),hn,yaF,yNF hi,asT rfl,asT (by omega),qCc,ywl h hw (fun _=>hP) (yOZ i) hg,e1,ybM]
 unfold addC
 cases (brk cs A P g (bitC i)).2.2 with
 | true =>
  show cbr false _ _=_
  rw [yab,show (decide ((rts P).length=(rts P).length)&&decide ((rts P).length=(rts P).length))=true by simp,yaF]
  rfl
 | false =>
  show cbr true _ _=_
  rw [yag,yaF,show (decide ((rts P).length=(rts P).length)&&decide ((rts P).length=(rts P).length))=true by simp,yaF]
  rfl
def yxW (cs:List Ck) (A:List (List RS)) (P:List Rat) (g:Bool):Int:=addC cs A P g (addC cs A P g (addC cs A P g (addC cs A P g (addC cs A P g 0 0) 1) 2) 3) 4
theorem ysZ {X Y:Prop}:∀ (r i:Nat),((∀ j,i≤j→j<i+r→small (prt cs A j))∧prtK cs A X Y r i=X)∨(¬(∀ j,i≤j→j<i+r→small (prt cs A j))∧prtK cs A X Y r i=Y)
 | 0,i=>.inl ⟨fun j h1 h2=>by omega,rfl⟩
 | r+1,i=>by
  rw [prtK]
  by_cases hs:small (prt cs A i)
  ·rw [if_pos hs]
   rcases ysZ (X:=X) (Y:=Y) r (i+1) with ⟨h1,h2⟩ | ⟨h1,h2⟩
   ·refine .inl ⟨fun j k1 k2=>?_,h2⟩
    by_cases hj:j=i
    ·subst hj;exact hs
    ·exact h1 j (by omega) (by omega)
   ·exact .inr ⟨fun hh=>h1 fun j k1 k2=>hh j (by omega) (by omega),h2⟩
  ·rw [if_neg hs]
   exact .inr ⟨fun hh=>hs (hh i (by omega) (by omega)),rfl⟩
end
end Go.Pf.Vc
namespace Go.Pf.Vc
open Go Go.Pf
section
variable {cs:List Ck} {A:List (List RS)}
def Gap (cs:List Ck) (A:List (List RS)):Prop:=∃ p:Rat,0≤p∧p<((cs.getD 0 default).len:Rat)∧¬∃ a∈A,memP a p
open Classical in
noncomputable def gapD (cs:List Ck) (A:List (List RS)):Bool:=decide (Gap cs A)
theorem yz9:gapD cs A=true↔Gap cs A:=by unfold gapD;exact @decide_eq_true_iff _ (Classical.propDecidable _)
theorem DV.gapD_eq (h:DV cs A) (W PT:List PV) (K:Bool→Prop):yaf (cks cs) (rspL A) W PT K=K (gapD cs A):=by
 obtain ⟨l,hp,hb,e⟩:=h.gap W PT
 rw [e]
 congr 1
 rw [Bool.eq_iff_iff,yz9,yGp l 0 hb (fun s hs=>h.flatV s (hp.mem_iff.1 hs)) (fun s hs=>by
  obtain ⟨a,ha,hs⟩:=List.mem_flatten.1 (hp.mem_iff.1 hs)
  exact (h.wi a ha s hs).2)]
 have hm:∀ p,memP l p↔∃ a∈A,memP a p:=fun p=>by
  constructor
  ·rintro ⟨s,hs,k⟩
   obtain ⟨a,ha,hs⟩:=List.mem_flatten.1 (hp.mem_iff.1 hs)
   exact ⟨a,ha,s,hs,k⟩
  ·rintro ⟨a,ha,s,hs,k⟩
   exact ⟨s,hp.mem_iff.2 (List.mem_flatten.2 ⟨a,ha,hs⟩),k⟩
 unfold Gap
 constructor
 ·rintro ⟨p,h1,h2,h3⟩
  exact ⟨p,h1,h2,fun k=>h3 ((hm p).2 k)⟩
 ·rintro ⟨p,h1,h2,h3⟩
  exact ⟨p,h1,h2,fun k=>h3 ((hm p).1 k)⟩
end
end Go.Pf.Vc
namespace Go.Pf.Vc
open Go Go.Pf
theorem yAa {f:Nat→Bool}:∀ {r i:Nat},ymv f r i=none↔∀ j,i≤j→j<i+r→f j=false
 | 0,i=>⟨fun _ j h1 h2=>by omega,fun _=>rfl⟩
 | r+1,i=>by
  rw [ymv]
  cases hf:f i with
  | true=>exact ⟨fun h=>by simp at h,fun h=>by have:=h i (by omega) (by omega);rw [hf] at this;cases this⟩
  | false =>
   show ymv f r (i+1)=none↔_
   rw [yAa]
   constructor
   ·intro h j h1 h2
    by_cases hj:j=i
    ·subst hj;exact hf
    ·exact h j (by omega) (by omega)
   ·exact fun h j h1 h2=>h j (by omega) (by omega)
theorem ys0 {f:Nat→Bool}:∀ {r i j:Nat},ymv f r i=some j→i≤j∧j<i+r∧f j=true
 | 0,i,j,h=>by cases h
 | r+1,i,j,h=>by
  rw [ymv] at h
  cases hf:f i with
  | true =>
   rw [hf] at h
   have h:some i=some j:=h
   cases h
   exact ⟨by omega,by omega,hf⟩
  | false =>
   rw [hf] at h
   obtain ⟨h1,h2,h3⟩:=ys0 (r:=r) (i:=i+1) h
   exact ⟨by omega,by omega,h3⟩
theorem yIp {f:Nat→Nat→Bool} {n:Nat}:∀ {r i:Nat},ycd f n r i=none↔∀ a,i≤a→a<i+r→∀ b,b<n→f a b=false
 | 0,i=>⟨fun _ a h1 h2=>by omega,fun _=>rfl⟩
 | r+1,i=>by
  rw [ycd]
  cases hb:ymv (f i) n 0 with
  | some j =>
   obtain ⟨_,h2,h3⟩:=ys0 hb
   exact ⟨fun h=>by simp at h,fun h=>by have:=h i (by omega) (by omega) j (by omega);rw [h3] at this;cases this⟩
  | none =>
   show ycd f n r (i+1)=none↔_
   rw [yIp]
   constructor
   ·intro h a h1 h2 b h3
    by_cases ha:a=i
    ·subst ha;exact yAa.1 hb b (by omega) (by omega)
    ·exact h a (by omega) (by omega) b h3
   ·exact fun h a h1 h2 b h3=>h a (by omega) (by omega) b h3
theorem yoc {f:Nat→Nat→Bool} {n:Nat}:∀ {r i a b:Nat},ycd f n r i=some (a,b)→i≤a∧a<i+r∧b<n∧f a b=true
 | 0,i,a,b,h=>by cases h
 | r+1,i,a,b,h=>by
  rw [ycd] at h
  cases hb:ymv (f i) n 0 with
  | some j =>
   rw [hb] at h
   have h:some (i,j)=some (a,b):=h
   cases h
   obtain ⟨_,h2,h3⟩:=ys0 hb
   exact ⟨by omega,by omega,by omega,h3⟩
  | none =>
   rw [hb] at h
   obtain ⟨h1,h2,h3,h4⟩:=yoc (r:=r) (i:=i+1) h
   exact ⟨by omega,by omega,h3,h4⟩
end Go.Pf.Vc
namespace Go.Pf.Vc
open Go Go.Pf
section
variable {cs:List Ck} {A:List (List RS)}
theorem yNG {P Q:List Rat} {g:Bool} {c:Int} (h:c≠8):brk cs A P g c=brk cs A Q g c:=by
 unfold brk
 split
 ·rfl
 split
 ·rfl
 split
 ·rfl
 first | rfl | (rw [if_neg h,if_neg h])
theorem DV.asked (h:DV cs A) (hw:∀ c∈cs,∀ a∈A,Go.Pf.Vc.small (wV c a)) (hW:∀ K,yat (cks cs) (rspL A) K=K (tabW cs A) 0) {c:Int} (hc:c=1∨c=2∨c=4∨c=16) (K:Int→Int→Bool→Int→Prop) :
  ybu (cks cs) (rspL A) c K=K (brk cs A (prtL cs A cs.length) (gapD cs A) c).1 (brk cs A (prtL cs A cs.length) (gapD cs A) c).2.1 (brk cs A (prtL cs A cs.length) (gapD cs A) c).2.2 0:=by
 have h8:c≠8:=by omega
 have hb:=fun K=>ywl h hw (P:=[]) (c:=c) (fun e=>absurd e h8) (by omega) (g:=gapD cs A) (fun K=>h.gapD_eq (tabW cs A) (rts []) K) K
 have hb:∀ K,yau (cks cs) (rspL A) (tabW cs A) [] c K=K (brk cs A [] (gapD cs A) c).1 (brk cs A [] (gapD cs A) c).2.1 (brk cs A [] (gapD cs A) c).2.2:=hb
 unfold ybu yhr
 dsimp only [Go.Pf.jn]
 rw [yxV h]
 rw [yNG (Q:=[]) h8]
 rcases hc with rfl | rfl | rfl | rfl
 all_goals
  show yat _ _ _=_
  rw [hW]
  show cbr false _ (cbr false _ (cbr false _ (yau _ _ _ _ _ _)))=_
  rw [yab,yab,yab,hb]
end
end Go.Pf.Vc
namespace Go.Pf.Vc
open Go Go.Pf
section
variable {cs:List Ck} {A:List (List RS)}
theorem yGu {c:Int} {a b:Int} {no:Bool} (h:∀ K,ybu (cks cs) (rspL A) c K=K a b no 0) (K:Bool→Int→Prop):yh7 (cks cs) (rspL A) c K=K (!no) 0:=by
 unfold yh7 ykl
 dsimp only [Go.Pf.jn]
 rw [h]
 cases no <;> rfl
theorem yic {c:Int} {a b:Int} {no:Bool} (h:∀ K,ybu (cks cs) (rspL A) c K=K a b no 0) (K:Int→Int→Int→Prop):ybs (cks cs) (rspL A) c K=if no then K a b 0 else K 0 0 6:=by
 unfold ybs yhW
 dsimp only [Go.Pf.jn]
 rw [h]
 cases no <;> rfl
end
end Go.Pf.Vc
namespace Go.Pf.Vc
open Go Go.Pf
section
variable {cs:List Ck} {A:List (List RS)}
theorem yO0 {len:Int} (h:1≤len∧len≤1000):Pc [((0:Rat),(len:Rat))]:=by
 have hlt:((0:Int):Rat)<(len:Rat):=Rat.intCast_lt_intCast.2 (by omega)
 refine ⟨⟨by simpa using hlt,(fun t ht=>by cases ht),trivial⟩,fun s hs=>?_,by simp⟩
 rcases qAn.1 hs with rfl | hs
 ·exact ⟨ykz,yfb (by omega)⟩
 ·cases hs
end
end Go.Pf.Vc
namespace Go.Pf.Vc
open Go Go.Pf
def InA (D:Int) (A:List (List RS)):Prop:=∀ a∈A,∀ s∈a,In D s.1∧In D s.2
section
variable {len:Int} {cuts dens:List Int}
theorem yGv (h:VC len cuts dens) {s:RS} (hv:s.1<s.2) (hw:0≤s.1∧s.2≤(len:Rat)):0≤dV (vX cuts dens) s∧dV (vX cuts dens) s≤12000:=by
 have a:=yEp h hw.1
 have b:=yEp h hw.2
 have c:=yEp h (Rat.le_of_lt hv)
 have t:=yOW h
 have tb:=qA0.2 (ykq h).2
 have tb:((totC cuts dens:Int):Rat)≤12000:=tb
 show 0≤vX cuts dens s.2-vX cuts dens s.1∧vX cuts dens s.2-vX cuts dens s.1≤12000
 grind
theorem yOk {D:Int} (hD:1≤D) {s:RS} (hi:In D s.1∧In D s.2):In D (dV (vX cuts dens) s):=(yOi hD hi.2).sub (yOi hD hi.1)
theorem yGw (h:VC len cuts dens) {D:Int} (hD:1≤D∧D≤1000000000000) {s:RS} (hs:ycb s) (hv:s.1<s.2) (hw:0≤s.1∧s.2≤(len:Rat)) (hi:In D s.1∧In D s.2) (K:Int→Int→Int→Prop) :
  yaT len (ints cuts) (ints dens) s.1.num s.1.den s.2.num s.2.den K=K (dV (vX cuts dens) s).num (dV (vX cuts dens) s).den 0:=by
 have l1:=h.l1;have l2:=h.l2
 rw [yCh (by omega) (by omega) hs.1.i1 hs.1.i2 hs.2.i1 hs.2.i2]
 unfold valR
 rw [if_pos h.ck,if_pos ⟨yJd hs.1 hw.1 (by grind),yJd hs.2 (by grind) hw.2,by rw [ydq,ydq];grind⟩,ydq,ydq,yKr h ⟨hD.1,by omega⟩ hi.1 hi.2 hw.1 (Rat.le_of_lt hv) hw.2]
 rfl
theorem yoF (h:VC len cuts dens) {D:Int} (hD:1≤D∧D≤1000000000000) {l:List RS} (hs:∀ s∈l,ycb s) (hv:∀ s∈l,s.1<s.2) (hw:Wi len l) (hi:∀ s∈l,In D s.1∧In D s.2) (hl:l.length≤60) (z z':Int) (K:Int→Int→Int→Prop) :
  ∀ (r i n:Nat) (q:Rat),i+r=l.length→r<n→In D q→0≤q→q≤12000*((i:Int):Rat) →
   small (q+sumV (dV (vX cuts dens)) (l.drop i))∧yaH yaD yaL yaB yaT yaW (fun _ _ _ _ _ a b _ _ _ _=>K a b 0) (fun _ _ _ a b e=>K a b e) n len (ints cuts) (ints dens) z z' q.num q.den (rsp l) (l.length:Int) (i:Int)=K (q+sumV (dV (vX cuts dens)) (l.drop i)).num (q+sumV (dV (vX cuts dens)) (l.drop i)).den 0
 | 0,i,n+1,q,hir,hn,hq,q0,q1=>by
  obtain rfl:i=l.length:=by omega
  rw [qB1]
  have e:q+sumV (dV (vX cuts dens)) []=q:=Rat.add_zero q
  have hb:((l.length:Int):Rat)≤60:=qA0.2 (show (l.length:Int)≤60 by omega)
  rw [e]
  refine ⟨hq.small (M:=720000) ⟨by omega,by omega⟩ (by omega) (by show -(720000:Rat)≤_;grind) (by show _≤(720000:Rat);grind),?_⟩
  rw [yaH,cbF (by omega)]
 | r+1,i,n+1,q,hir,hn,hq,q0,q1=>by
  have hil:i<l.length:=by omega
  have e1:=wib (n:=(i:Int)+1) (by omega) (by omega)
  have hd:l.drop i=l.getD i default::l.drop (i+1):=ybi default hil
  have hm:l.getD i default∈l:=yaX default hil
  have hx:=hs _ hm
  have hx2:=hv _ hm
  have hx3:=hw _ hm
  have hx4:=hi _ hm
  rw [hd]
  have b1:=yGv h hx2 hx3
  have b2:=yOk (cuts:=cuts) (dens:=dens) hD.1 hx4
  have hc:((i+1:Nat):Int)=(i:Int)+1:=by omega
  have hc2:(((i+1:Nat):Int):Rat)=((i:Int):Rat)+1:=by rw [hc,Rat.intCast_add];rfl
  have hb:((i:Int):Rat)≤60:=qA0.2 (show (i:Int)≤60 by omega)
  have hv1:=yGw h hD hx hx2 hx3 hx4
  have es:q+sumV (dV (vX cuts dens)) (l.getD i default::l.drop (i+1))=(q+dV (vX cuts dens) (l.getD i default))+sumV (dV (vX cuts dens)) (l.drop (i+1)):=by
   show q+(dV (vX cuts dens) (l.getD i default)+sumV (dV (vX cuts dens)) (l.drop (i+1)))=_
   grind
  have step:yaH yaD yaL yaB yaT yaW (fun _ _ _ _ _ a b _ _ _ _=>K a b 0) (fun _ _ _ a b e=>K a b e) (n+1) len (ints cuts) (ints dens) z z' q.num q.den (rsp l) (l.length:Int) (i:Int) =
    yaT len (ints cuts) (ints dens) (l.getD i default).1.num (l.getD i default).1.den (l.getD i default).2.num (l.getD i default).2.den (fun a b e=>cbr (e != 0) (K 0 0 e) (yaW q.num q.den a b (fun a b e=>cbr (e != 0) (K 0 0 e) (yaH yaD yaL yaB yaT yaW (fun _ _ _ _ _ a b _ _ _ _=>K a b 0) (fun _ _ _ a b e=>K a b e) n len (ints cuts) (ints dens) z z' a b (rsp l) (l.length:Int) ((i+1:Nat):Int))))):=by
   rw [yaH,cbT (by omega)]
   dsimp only [lt]
   rw [yaM,asT (by omega),asT (by omega),qAe,yfh hil,asR,yms,yrY,ymt,ymu,e1,ybM]
  rw [es,step,hv1,nz]
  generalize dV (vX cuts dens) (l.getD i default)=v at b1 b2
  have sq:small q:=hq.small (M:=720000) ⟨by omega,by omega⟩ (by omega) (by show -(720000:Rat)≤_;grind) (by show _≤(720000:Rat);grind)
  have sv:small v:=b2.small (M:=720000) ⟨by omega,by omega⟩ (by omega) (by show -(720000:Rat)≤_;grind) (by show _≤(720000:Rat);grind)
  have hb2:((i:Int):Rat)≤59:=qA0.2 (show (i:Int)≤59 by omega)
  have ss:small (q+v):=(hq.add b2).small (M:=720000) ⟨by omega,by omega⟩ (by omega) (by show -(720000:Rat)≤_;grind) (by show _≤(720000:Rat);grind)
  have ih:=yoF h hD hs hv hw hi hl z z' K r (i+1) n (q+v) (by omega) (by omega) (hq.add b2) (by grind) (by rw [hc2];grind)
  refine ⟨ih.1,?_⟩
  rw [yqK sq sv]
  unfold fitK
  rw [if_pos ss]
  dsimp only
  rw [nz]
  exact ih.2
theorem Pc.Worth_good {l:List RS} (p:Pc l) (h:VC len cuts dens) (hw:Wi len l) {D:Int} (hD:1≤D∧D≤1000000000000) (hi:∀ s∈l,In D s.1∧In D s.2) :
  small (sumV (dV (vX cuts dens)) l)∧∀ K,ybc len (ints cuts) (ints dens) (rsp l) K=K (sumV (dV (vX cuts dens)) l).num (sumV (dV (vX cuts dens)) l).den 0:=by
 have l1:=h.l1;have l2:=h.l2;have l0:=h.len0;have hn:=p.n
 have g:=fun K=>yoF h hD p.s (yqk p.c) hw hi (by omega) 0 0 K l.length 0 (l.length+1) 0 (by omega) (by omega) (In.int hD.1 0) qB9 (by show (0:Rat)≤12000*0;grind)
 have g0:=(g fun _ _ _=>True).1
 rw [qAt,Rat.zero_add] at g0
 refine ⟨g0,fun K=>yoy _ _ _ _ _ _ _ (fun K k=>?_) K⟩
 have hl:=(g K).2
 rw [qAt,Rat.zero_add] at hl
 unfold ybc yhj
 rw [yjo (by omega) (by omega),h.ck,nz,p.check,nz]
 dsimp only [Go.Pf.jn,lt]
 rw [yaM]
 have fin:∃ n,yaH yaD yaL yaB yaT yaW (fun _ _ _ _ _ a b _ _ _ _=>K a b 0) (fun _ _ _ a b e=>K a b e) n len (ints cuts) (ints dens) 0 0 0 1 (rsp l) (l.length:Int) 0:=⟨l.length+1,hl.mpr k⟩
 by_cases hl0:l.length=0
 ·rw [cbF (by omega),yab]
  exact fin
 ·have h0:0<l.length:=by omega
  have m0:=yaX (default:RS) h0
  have m1:=yaX (default:RS) (show l.length-1<l.length by omega)
  have w0:=hw _ m0
  have w1:=hw _ m1
  have s1:=p.s _ m1
  have n0:0≤(l.getD 0 default).1.num:=Rat.num_nonneg.2 w0.1
  have e1:=wib (n:=(l.length:Int)-1) (by omega) (by omega)
  have et:((l.length:Int)-1).toNat=l.length-1:=by omega
  rw [cbT (by omega),asT (by omega),yfh h0,asR,yms,cbF (by omega),e1,asT (by omega),asT (by omega),et,yfh (by omega),asR,ymt,ymu]
  have sl:small (len:Rat):=yfb (by omega)
  show yaB (l.getD (l.length-1) default).2.num (l.getD (l.length-1) default).2.den (len:Rat).num ((len:Rat).den:Int) _
  rw [ykw s1.2 sl,yJt,cbF (by grind)]
  exact fin
end
theorem DV.Worth_good {cs:List Ck} {A:List (List RS)} (h:DV cs A) {D:Int} (hD:1≤D∧D≤1000000000000) (hi:InA D A) :
  (∀ c∈cs,∀ a∈A,Go.Pf.Vc.small (wV c a))∧∀ K,yat (cks cs) (rspL A) K=K (tabW cs A) 0:=by
 have h6:=h.d.n6;have h1:=h.d.n0;have hl:=h.l
 have e:pcsD (A.map rsp)=rspL A:=by
  unfold pcsD rspL
  rw [List.map_map]
  rfl
 have hall:∀ c∈cs,∀ a∈A,Go.Pf.Vc.small (wV c a)∧∀ K,ybc c.len (ints c.cuts) (ints c.dens) (rsp a) K=K (wV c a).num (wV c a).den 0:=fun c hc a ha=>by
  obtain ⟨k1,k2⟩:=h.d.mem hc
  refine (h.p a ha).Worth_good k1 ?_ hD (hi a ha)
  rw [k2]
  exact h.wi a ha
 refine ⟨fun c hc a ha=>(hall c hc a ha).1,fun K=>?_⟩
 have hck:∀ K,ybp (cks cs) (pcsD (A.map rsp)) K=K 0:=fun K=>by rw [e];exact yxV h K
 have hf:∀ c∈cs,∀ a∈A,fW c (rsp a)=((wV c a).num,((wV c a).den:Int),0):=fun c hc a ha=>yMb (t:=((wV c a).num,((wV c a).den:Int),0)) (hall c hc a ha).2
 rw [← e]
 refine yz2 (F:=fW) (by rw [qAk];exact hl) h1 h6 hck (fun c hc p hp K=>?_) (fun _=>⟨?_,rfl⟩) (fun c hc p hp hn=>?_) K
 ·obtain ⟨a,ha,rfl⟩:=qA2.1 hp
  rw [hf c hc a ha]
  exact (hall c hc a ha).2 K
 ·unfold tabW
  refine qBq fun c hc=>?_
  unfold rts
  rw [List.map_map,List.map_map]
  congr 1
  refine qBq fun a ha=>?_
  show encW (wV c a)=.agg [.int .i64 (fW c (rsp a)).1,.int .i64 (fW c (rsp a)).2.1]
  rw [hf c hc a ha]
  rfl
 ·obtain ⟨a,ha,rfl⟩:=qA2.1 hp
  rw [hf c hc a ha] at hn
  exact absurd rfl hn
end Go.Pf.Vc
namespace Go.Pf.Vc
open Go Go.Pf
section
variable {cs:List Ck} {A:List (List RS)}
theorem yJw {cuts dens:List Int} {D:Int} (hD:1≤D):∀ {l:List RS},(∀ s∈l,In D s.1∧In D s.2)→In D (sumV (dV (vX cuts dens)) l)
 | [],_=>In.int hD 0
 | s::_,h=>(yOk hD (h s qAg)).add (yJw hD fun t ht=>h t (qAf _ ht))
theorem yAb {len:Int} {cuts dens:List Int} (hv:VC len cuts dens):∀ {l:List RS},(∀ s∈l,s.1<s.2)→Wi len l→0≤sumV (dV (vX cuts dens)) l∧sumV (dV (vX cuts dens)) l≤12000*((l.length:Int):Rat)
 | [],_,_=>⟨qB9,by show (0:Rat)≤12000*0;grind⟩
 | s::r,h,hw=>by
  have a:=yGv hv (h s qAg) (hw s qAg)
  have b:=yAb hv (l:=r) (fun t ht=>h t (qAf _ ht)) (fun t ht=>hw t (qAf _ ht))
  have hc:(((s::r).length:Int):Rat)=((r.length:Int):Rat)+1:=by
   rw [show ((s::r).length:Int)=(r.length:Int)+1 by rw [qAm];omega,Rat.intCast_add];rfl
  rw [hc]
  show 0≤dV (vX cuts dens) s+sumV (dV (vX cuts dens)) r∧dV (vX cuts dens) s+sumV (dV (vX cuts dens)) r≤_
  grind
theorem DV.wV_bound (h:DV cs A) {i j:Nat} (hi:i<cs.length) (hj:j<cs.length):0≤wV (cs.getD i default) (A.getD j [])∧wV (cs.getD i default) (A.getD j [])≤720000:=by
 have hl:=h.l
 have hm:=yaX [] (show j<A.length by omega)
 have hok:=h.d.ok i hi
 have hw:=h.wi _ hm
 rw [← h.d.len i hi] at hw
 have p:=h.p _ hm
 have b:=yAb hok (yqk p.c) hw
 have hn:(((A.getD j []).length:Int):Rat)≤60:=qA0.2 (show ((A.getD j []).length:Int)≤60 by have:=p.n;omega)
 unfold wV
 grind
theorem yKx (h:DV cs A) {D:Int} (hD:1≤D∧D≤100000000) (hi:InA D A) {j:Nat} (hj:j<cs.length):small (prt cs A j):=by
 have hl:=h.l
 have hok:=h.d.ok j hj
 have tb:=ykq hok
 have tp:=yGc hok
 have b:=h.wV_bound hj hj
 have hI:In D (wV (cs.getD j default) (A.getD j [])):=yJw hD.1 (hi _ (yaX [] (by omega)))
 unfold prt
 generalize totC (cs.getD j default).cuts (cs.getD j default).dens=t at tb tp
 generalize wV (cs.getD j default) (A.getD j [])=w at b hI
 have h1:(1:Rat)≤(t:Rat):=qA0.2 (show (1:Int)≤t by omega)
 have t0:(t:Rat)≠0:=by grind
 have e:w / (t:Rat)*(t:Rat)=w:=Rat.div_mul_cancel t0
 have tD:t*D≤12000*D:=qBg tb.2 (by omega)
 have tD1:1*1≤t*D:=Int.mul_le_mul (by omega) hD.1 (by omega) (by omega)
 have p0:0≤w / (t:Rat):=Rat.not_lt.1 fun k=>by
  have:=Rat.mul_lt_mul_of_pos_right k (show (0:Rat)<(t:Rat) by grind)
  grind
 have p1:w / (t:Rat)≤720000:=by
  have:=Rat.mul_le_mul_of_nonneg_left h1 p0
  grind
 exact (hI.div hD.1 (d:=t) (by omega)).small (M:=720000) ⟨by omega,by omega⟩ (by omega) (by show -(720000:Rat)≤_;grind) (by show _≤(720000:Rat);grind)
theorem DV.Make_of (h:DV cs A) (hw:∀ c∈cs,∀ a∈A,Go.Pf.Vc.small (wV c a)) (he:∀ K,yat (cks cs) (rspL A) K=K (tabW cs A) 0) (hs:∀ j,j<cs.length→Go.Pf.Vc.small (prt cs A j)) (K:Int→List PV→Int→Prop) :
  yeT (cks cs) (rspL A) K=K (yxW cs A (prtL cs A cs.length) (gapD cs A)) (tabW cs A) 0:=by
 refine yzA _ _ _ _ _ (fun K k=>?_) K
 unfold yeT ylz
 rw [he]
 show cbr false _ _
 rw [yab]
 dsimp only [Go.Pf.jn]
 rw [yba]
 refine ⟨cs.length+1,(ywm h hw _ _ _ _ (YY:=K 0 [] 16) rfl (fun _=>rfl)).mpr ?_⟩
 rcases ysZ (cs:=cs) (A:=A) cs.length 0 with ⟨_,e⟩ | ⟨hn,_⟩
 ·refine e.mpr ?_
  show cbr false _ _
  rw [yab,show (decide ((rts (prtL cs A cs.length)).length=(rts (prtL cs A cs.length)).length)&&decide ((rts (prtL cs A cs.length)).length=(rts (prtL cs A cs.length)).length))=true by simp,yaF]
  refine ⟨6,?_⟩
  have hP:=yuO cs A cs.length
  have hg:=h.gapD_eq (tabW cs A) (rts (prtL cs A cs.length))
  have s:=fun (n i:Nat) (hi:i<5) (acc:Int)=>yKw h hw hP hg (fun f g l m o b d p q=>K b d (0:Int)) (n:=n) hi 0 acc (tabW cs A)
  refine (s 5 0 (by omega) 0).mpr ((s 4 1 (by omega) _).mpr ((s 3 2 (by omega) _).mpr ((s 2 3 (by omega) _).mpr ((s 1 4 (by omega) _).mpr ?_))))
  rw [ycV,cbF (by omega)]
  exact k
 ·exact absurd (fun j h1 h2=>hs j (by omega)) hn
theorem DV.asked8 (h:DV cs A) (hw:∀ c∈cs,∀ a∈A,Go.Pf.Vc.small (wV c a)) (hW:∀ K,yat (cks cs) (rspL A) K=K (tabW cs A) 0) (hs:∀ j,j<cs.length→Go.Pf.Vc.small (prt cs A j)) (K:Int→Int→Bool→Int→Prop) :
  ybu (cks cs) (rspL A) 8 K=K (brk cs A (prtL cs A cs.length) (gapD cs A) 8).1 (brk cs A (prtL cs A cs.length) (gapD cs A) 8).2.1 (brk cs A (prtL cs A cs.length) (gapD cs A) 8).2.2 0:=by
 refine yxy _ _ _ _ _ _ _ (fun K k=>?_) K
 have hb:=fun K=>ywl h hw (P:=prtL cs A cs.length) (c:=8) (fun e=>yuO cs A cs.length) (by omega) (g:=gapD cs A) (fun K=>h.gapD_eq (tabW cs A) (rts (prtL cs A cs.length)) K) K
 unfold ybu yhr
 dsimp only [Go.Pf.jn]
 rw [yxV h]
 show yat _ _ _
 rw [hW]
 show ∃ n,_
 rw [yba]
 refine ⟨cs.length+1,(yuP h hw _ _ _ _ (YY:=K 0 0 false 16) rfl (fun _=>rfl)).mpr ?_⟩
 rcases ysZ (cs:=cs) (A:=A) cs.length 0 with ⟨_,e⟩ | ⟨hn,_⟩
 ·refine e.mpr ?_
  show cbr false _ _
  rw [yab,asT rfl,asT (by omega),qCc,hb]
  exact k
 ·exact absurd (fun j h1 h2=>hs j (by omega)) hn
theorem DV.good (h:DV cs A) {D:Int} (hD:1≤D∧D≤100000000) (hi:InA D A) :
  (∀ c∈cs,∀ a∈A,Go.Pf.Vc.small (wV c a))∧(∀ K,yat (cks cs) (rspL A) K=K (tabW cs A) 0)∧(∀ j,j<cs.length→Go.Pf.Vc.small (prt cs A j)) ∧
  ∀ K,yeT (cks cs) (rspL A) K=K (yxW cs A (prtL cs A cs.length) (gapD cs A)) (tabW cs A) 0:=by
 obtain ⟨h1,h2⟩:=h.Worth_good (D:=D) ⟨hD.1,by omega⟩ hi
 have h3:=fun j (hj:j<cs.length)=>yKx h hD hi hj
 exact ⟨h1,h2,h3,h.Make_of h1 h2 h3⟩
end
end Go.Pf.Vc
namespace Go.Pf.Vc
open Go Go.Pf
theorem yPJ {α:Type} (f:α→Prop) (k:α):Go.Pf.jn f k=f k:=rfl
def two6:List Ck:=[⟨2,[0,2],[1]⟩,⟨2,[0,1,2],[3,1]⟩]
def yPK:List (List Sp):=[[⟨0,1,1,1⟩],[⟨1,1,2,1⟩]]
def yPL:List (List Sp):=[[⟨1,1,2,1⟩],[⟨0,1,1,1⟩]]
def ygV:List (List RS):=[[(0,1)],[(1,2)]]
def ywL:List (List RS):=[[(1,2)],[(0,1)]]
theorem yMe:yPK.map rsL=ygV:=by decide +kernel
theorem yMf:yPL.map rsL=ywL:=by decide +kernel
theorem yPU:DV two6 ygV:=by
 have:=(yIo (cs:=two6) (ps:=yPK) (by decide +kernel)).1
 rw [yMe] at this
 exact this
theorem yPV:DV two6 ywL:=by
 have:=(yIo (cs:=two6) (ps:=yPL) (by decide +kernel)).1
 rw [yMf] at this
 exact this
theorem yGx {A:List (List RS)} (h1:[((0:Rat),(1:Rat))]∈A) (h2:[((1:Rat),(2:Rat))]∈A):gapD two6 A=false:=by
 cases h:gapD two6 A with
 | false=>rfl
 | true =>
  obtain ⟨p,k0,k2,hn⟩:=yz9.1 h
  have k2:p<2:=k2
  refine absurd ?_ hn
  by_cases hp:p<1
  ·exact ⟨_,h1,_,qAg,k0,hp⟩
  ·exact ⟨_,h2,_,qAg,Rat.not_lt.1 hp,k2⟩
theorem yuQ:gapD two6 ygV=false:=yGx (by decide) (by decide)
theorem yMg:gapD two6 ywL=false:=yGx (by decide) (by decide)
theorem yEu {D:Int} (h:1≤D) (a b:Int):In D (a:Rat)∧In D (b:Rat):=⟨In.int h a,In.int h b⟩
theorem yMh:InA 1 ygV:=by
 intro a ha s hs
 unfold ygV at ha
 simp only [qAn,List.not_mem_nil,or_false] at ha
 rcases ha with rfl | rfl <;> (simp only [qAn,List.not_mem_nil,or_false] at hs;subst hs)
 ·exact yEu (by omega) 0 1
 ·exact yEu (by omega) 1 2
theorem yMi:InA 1 ywL:=by
 intro a ha s hs
 unfold ywL at ha
 simp only [qAn,List.not_mem_nil,or_false] at ha
 rcases ha with rfl | rfl <;> (simp only [qAn,List.not_mem_nil,or_false] at hs;subst hs)
 ·exact yEu (by omega) 1 2
 ·exact yEu (by omega) 0 1
def lit6:List PV:=[.data [.agg [.int .i64 1,.int .i64 1],.agg [.int .i64 1,.int .i64 1]],.data [.agg [.int .i64 3,.int .i64 1],.agg [.int .i64 1,.int .i64 1]]]
theorem yMj:tabW two6 ygV=lit6:=by kernel_rfl
theorem yGy:yxW two6 ygV (prtL two6 ygV 2) false=17:=by decide +kernel
theorem yGz:yxW two6 ywL (prtL two6 ywL 2) false=23:=by decide +kernel
theorem yAc:brk two6 ygV (prtL two6 ygV 2) false 2=(1,1,true)∧brk two6 ygV (prtL two6 ygV 2) false 4=(1,0,true)∧brk two6 ygV (prtL two6 ygV 2) false 8=(1,0,true):=by decide +kernel
theorem yKy (K:Bool→Prop):ydi lit6 lit6 K=K true:=by
 refine yui _ _ _ (fun K k=>?_) K
 unfold ydi yhQ
 show ∃ n,_
 refine ⟨3,?_⟩
 show ∃ n,_
 refine ⟨3,?_⟩
 show ∃ n,_
 exact ⟨3,k⟩
theorem yGA (s t:Sp) (x0:List PV→Int→Bool→Prop) (x1:List PV→List PV→Int→Bool→Prop):yiM x0 x1 4 [encS s,encS t] 0=x1 [.data [encS s],.data [encS t]] [encS s,encS t] 2 false:=by kernel_rfl
theorem yMk (s t:Sp) (K:List PV→Prop):yeM [encS s,encS t] K=K [.data [encS s],.data [encS t]]:=by
 refine yBk _ _ (fun K k=>?_) K
 unfold yeM ynZ
 refine ⟨4,?_⟩
 rw [yGA]
 rw [asT rfl,asT (by simp)]
 exact k
theorem of6 (a b:Int) (K:Int→Int→Int→Int→Prop):yml a b K=K a 1 b 1:=rfl
theorem Of6 (a:Int) (K:Int→Int→Prop):ypJ a K=K a 1:=rfl
theorem two6_eq (K:List PV→Prop):yCb K=K (cks two6):=rfl
theorem yMl:[PV.data [encS ⟨0,1,1,1⟩],PV.data [encS ⟨1,1,2,1⟩]]=rspL ygV:=by kernel_rfl
theorem yMm:[PV.data [encS ⟨1,1,2,1⟩],PV.data [encS ⟨0,1,1,1⟩]]=rspL ywL:=by kernel_rfl
theorem yAd {c:Int} {a b:Int} (h:∀ K,ybu (cks two6) (rspL ygV) c K=K a b true 0) (K:Bool→Prop):yh8 (cks two6) (rspL ygV) c a b K=K true:=by
 unfold yh8 ykm
 rw [yic h,if_pos rfl,yGu h]
 dsimp only [Go.Pf.jn]
 rw [ceT rfl,ceT rfl,ceT rfl,ceT rfl]
 rfl
theorem ywn (K:Bool→Prop):yeg K=K true:=by
 have gf:=yPU.good (D:=1) ⟨by omega,by omega⟩ yMh
 have gb:=yPV.good (D:=1) ⟨by omega,by omega⟩ yMi
 have e2:∀ K,ybu (cks two6) (rspL ygV) 2 K=K 1 1 true 0:=fun K=>by
  rw [yPU.asked gf.1 gf.2.1 (.inr (.inl rfl)),yuQ,show two6.length=2 from rfl,yAc.1]
 have e4:∀ K,ybu (cks two6) (rspL ygV) 4 K=K 1 0 true 0:=fun K=>by
  rw [yPU.asked gf.1 gf.2.1 (.inr (.inr (.inl rfl))),yuQ,show two6.length=2 from rfl,yAc.2.1]
 have e8:∀ K,ybu (cks two6) (rspL ygV) 8 K=K 1 0 true 0:=fun K=>by
  rw [yPU.asked8 gf.1 gf.2.1 gf.2.2.1,yuQ,show two6.length=2 from rfl,yAc.2.2]
 unfold yeg yn3
 simp only [of6,Of6,two6_eq]
 show yeM [encS ⟨0,1,1,1⟩,encS ⟨1,1,2,1⟩] _=_
 rw [yMk]
 show yeM [encS ⟨1,1,2,1⟩,encS ⟨0,1,1,1⟩] _=_
 rw [yMk,yMl,yMm,gf.2.1,gf.2.2.2,gb.2.2.2,yuQ,yMg,show two6.length=2 from rfl,yGy,yGz,yMj,yPJ,ceT rfl]
 show ydi lit6 lit6 _=_
 rw [yKy,yag,ceT rfl,ceT rfl,ceT rfl,ceT rfl,yAd e2,yag,yAd e4,yag,yAd e8]
end Go.Pf.Vc
namespace Go.Pf.Vc
open Go Go.Pf
def dsDv:DS:=.a [.s (.s dsS)]
theorem yCB:∀ (rows:List PV),(∀ x∈rows,x.isAgg=(DS.s dsS).isA∧HasF (.s dsS) x.cells)→∃ l:List (List Sp),rows=yeW l∧∀ p∈l,∀ s∈p,s.i64
 | [],_=>⟨[],rfl,by simp⟩
 | x::r,h=>by
  obtain ⟨l,e,hl⟩:=yCB r (fun y hy=>h y (qAf _ hy))
  obtain ⟨h1,h2⟩:=h x (qAg ..)
  obtain ⟨p,ex,hp⟩:=yNy h1 h2
  refine ⟨p::l,by rw [ex,e];rfl,fun q hq=>?_⟩
  rcases qAn.1 hq with rfl | hq
  ·exact hp
  ·exact hl q hq
theorem yPM {as:List PV} (h:yty [.s dsC,dsDv] as):∃ (l:List Ck) (ps:List (List Sp)),as=[.data (cks l),.agg [.data (yeW ps)]]∧l.length≤9223372036854775807∧ps.length≤9223372036854775807∧∀ p∈ps,∀ s∈p,s.i64:=by
 simp only [yty] at h
 obtain ⟨x,r,rfl,x1,x2,y,r2,rfl,y1,y2,rfl⟩:=h
 obtain ⟨l,e1,hl,_⟩:=yPn x2
 rw [yCl x1 e1,yId (l:=[.s (.s dsS)]) y1]
 generalize y.cells=c at y2
 simp only [dsDv,HasF,HasL] at y2
 obtain ⟨c1,c2,rfl,⟨rows,rfl,hr,hx⟩,rfl⟩:=y2
 obtain ⟨ps,rfl,hp⟩:=yCB rows (fun x hx'=>by
  obtain ⟨k1,k2⟩:=hx x hx'
  exact ⟨k1,by simp only [HasF];exact k2⟩)
 rw [yeX] at hr
 exact ⟨l,ps,rfl,hl,hr,hp⟩
end Go.Pf.Vc
namespace Go.Pf.Vc
open Go Go.Pf
theorem yMn {n g:Nat} (e:Es) (he:EG e) {x y:PV} (hx:(ykL n g).s.gd x=true) (hy:(ykL n g).s.gd y=true):Ans (E e) ybZ [x,y] (.int .i64 (yoq x y)):=by
 obtain ⟨a,b,c,d,rfl,h1⟩:=yOg hx
 obtain ⟨a',b',c',d',rfl,h2⟩:=yOg hy
 obtain ⟨r,hr,ha⟩:=yp7 e he [.agg [.int .i64 a,.int .i64 b,.int .i64 c,.int .i64 d],.agg [.int .i64 a',.int .i64 b',.int .i64 c',.int .i64 d']] (fun r=>r=.int .i64 (cmpI a b a' b')) (by
  show yga a b c d a' b' c' d' (fun r=>PV.int .i64 r=.int .i64 (cmpI a b a' b'))
  unfold yga yfG
  obtain ⟨k1,k2,k3⟩:=yiU h1
  obtain ⟨k4,k5,k6⟩:=yiU h2
  have:=yxR k1 k4 (fun x _=>PV.int .i64 x=.int .i64 (cmpI a b a' b'))
  rw [k2,k3,k5,k6] at this
  rw [this,yOU h1 h2])
 rw [hr] at ha
 exact ha
end Go.Pf.Vc
namespace Go.Pf.Vc
open Go Go.Pf
section
variable {l:List Ck}
theorem asTw {P:Prop}:asr (decide True) P=P:=by rw [decide_true];rfl
theorem yCC {n:Nat} {P:Prop}:asr (!decide (0+n+1≤n)) P=P:=by rw [decide_eq_false (by omega)];rfl
end
end Go.Pf.Vc
namespace Go.Pf.Vc
open Go Go.Pf
def cutS (c s:RS):List RS:=if s.1<c.2∧c.1<s.2 then (if s.1<c.1 then [(s.1,c.1)] else [])++(if c.2<s.2 then [(c.2,s.2)] else []) else [s]
theorem yMo {c s:RS} (_:c.1<c.2) (_:s.1<s.2) {p:Rat}:memP (cutS c s) p↔inS s p∧¬inS c p:=by
 unfold cutS
 by_cases h:s.1<c.2∧c.1<s.2
 ·rw [if_pos h,yuI,yxS,yxS]
  unfold inS
  dsimp only
  obtain ⟨h1,h2⟩:=h
  constructor
  ·rintro (⟨k,a,b⟩ | ⟨k,a,b⟩)
   ·exact ⟨⟨a,by grind⟩,fun x=>by grind⟩
   ·exact ⟨⟨by grind,b⟩,fun x=>by grind⟩
  ·rintro ⟨⟨a,b⟩,x⟩
   by_cases y:p<c.1
   ·exact .inl ⟨by grind,a,y⟩
   ·have:¬p<c.2:=fun z=>x ⟨by grind,z⟩
    exact .inr ⟨by grind,by grind,b⟩
 ·rw [if_neg h,ybx]
  constructor
  ·rintro (k | k)
   ·refine ⟨k,fun x=>h ?_⟩
    unfold inS at k x
    exact ⟨by grind,by grind⟩
   ·exact absurd k yc1
  ·rintro ⟨k,_⟩
   exact .inl k
def yiC (s:RS):Prop:=ycb s∧s.1<s.2
theorem yKz {c s:RS} (hc:ycb c) (hs:yiC s):∀ x∈cutS c s,yiC x:=by
 intro x hx
 unfold cutS at hx
 split at hx
 ·rcases qAv.1 hx with hx | hx
  ·split at hx
   ·rename_i k
    rcases qAn.1 hx with rfl | hx
    ·exact ⟨⟨hs.1.1,hc.1⟩,k⟩
    ·cases hx
   ·cases hx
  ·split at hx
   ·rename_i k
    rcases qAn.1 hx with rfl | hx
    ·exact ⟨⟨hc.2,hs.1.2⟩,k⟩
    ·cases hx
   ·cases hx
 ·rcases qAn.1 hx with rfl | hx
  ·exact hs
  ·cases hx
theorem yAe (c s:RS):(cutS c s).length≤2:=by
 unfold cutS
 split
 ·rw [qAp]
  split <;> split <;> simp
 ·simp
theorem yuR {q r:Rat} (hq:small q) (hr:small r) (K:Bool→Prop):ybK q.num q.den r.num r.den K=K (decide (q<r)):=by
 have:=yCu (s:=⟨q.num,q.den,r.num,r.den⟩) ⟨hq.i1,hq.i2,hr.i1,hr.i2⟩ K
 rw [this]
 congr 1
 rw [decide_eq_decide]
 unfold Sp.ok
 dsimp only
 rw [ydq,ydq]
 exact ⟨fun k=>k.2.2,fun k=>⟨hq.rv,hr.rv,k⟩⟩
theorem yCD {S:List RS} {i:Nat} (h:i<S.length) (c:RS):(S.drop i).flatMap (cutS c)=cutS c (S.getD i default)++(S.drop (i+1)).flatMap (cutS c):=by
 rw [ybi default h,List.flatMap_cons]
theorem woW {S P:List RS} {k:Nat} (hk:k<P.length) (hP6:P.length≤1000000) (hS:∀ s∈S,yiC s) (hc:yiC (P.getD k default)) (hS6:S.length≤1000000) {x1:List PV→List PV→List PV→Int→Int→Bool→Prop} :
  ∀ (r i n:Nat) (B:List RS),i+r=S.length→r<n→B.length≤2*i→x1 (rsp (B++(S.drop i).flatMap (cutS (P.getD k default)))) (rsp S) (rsp P) (k:Int) (S.length:Int) false →
  yc7 ybq ybK x1 n (rsp B) (rsp S) (rsp P) (k:Int) (i:Int)
 | 0,i,n,B,hi,hn,hB,h=>by
  obtain ⟨n,rfl⟩:∃ k,n=k+1:=⟨n-1,by omega⟩
  obtain rfl:i=S.length:=by omega
  unfold yc7
  rw [yaM,cbF (by omega)]
  rw [qB1,List.flatMap_nil,qB6] at h
  exact h
 | r+1,i,n,B,hi,hn,hB,h=>by
  obtain ⟨n,rfl⟩:∃ k,n=k+1:=⟨n-1,by omega⟩
  have hi':i<S.length:=by omega
  have ew:IntKind.i64.wrap ((i:Int)+1)=((i+1:Nat):Int):=by rw [wib (by omega) (by omega)];omega
  have hs:=hS _ (yaX default hi')
  rw [yCD hi',← qBe] at h
  have hcs:=yAe (P.getD k default) (S.getD i default)
  have ih:=fun B' (e:B++cutS (P.getD k default) (S.getD i default)=B')=>woW hk hP6 hS hc hS6 (x1:=x1) r (i+1) n B' (by omega) (by omega) (by rw [← e,qAp];omega) (by rw [← e];exact h)
  have hr:room=35184372088832:=rfl
  have eS:List.getD (rsp S) i .nils=encR (S.getD i default):=yfh hi'
  have eP:List.getD (rsp P) k .nils=encR (P.getD k default):=yfh hk
  generalize P.getD k default=c at *
  generalize S.getD i default=s at *
  have l1:=fun K=>ykp hc.1.1 hs.1.2 K
  have l2:=fun K=>ykp hs.1.1 hc.1.2 K
  have v1:=fun K=>yuR hs.1.1 hc.1.1 K
  have v2:=fun K=>yuR hc.1.2 hs.1.2 K
  have o1:([.agg [.int .i64 s.1.num,.int .i64 s.1.den,.int .i64 c.1.num,.int .i64 c.1.den]]:List PV)=rsp [(s.1,c.1)]:=rfl
  have o2:([.agg [.int .i64 c.2.num,.int .i64 c.2.den,.int .i64 s.2.num,.int .i64 s.2.den]]:List PV)=rsp [(c.2,s.2)]:=rfl
  have o3:([.agg [.int .i64 s.1.num,.int .i64 s.1.den,.int .i64 s.2.num,.int .i64 s.2.den]]:List PV)=rsp [s]:=rfl
  unfold yc7
  simp only [Go.Pf.jn,lt]
  rw [yaM,cbT (by omega)]
  simp (discharger:=omega) only [yaM,asT,asTw,qAe,eS,eP,asR,yms,yrY,ymt,ymu,l1,l2,yCC,o3,yn7,ew]
  by_cases b1:c.1<s.2
  case neg =>
   have e:cutS c s=[s]:=by unfold cutS;rw [if_neg fun k=>b1 k.2]
   rw [e] at ih
   by_cases b2:s.1<c.2
   ·simp only [decide_eq_false b1,decide_eq_true b2,yag,yab,qBl,qBh]
    exact ih _ rfl
   ·simp only [decide_eq_false b1,decide_eq_false b2,yag,yab,qBh]
    exact ih _ rfl
  by_cases b2:s.1<c.2
  case neg =>
   have e:cutS c s=[s]:=by unfold cutS;rw [if_neg fun k=>b2 k.1]
   rw [e] at ih
   simp only [decide_eq_true b1,decide_eq_false b2,yag,yab,qBl,qBh]
   exact ih _ rfl
  have e:cutS c s=(if s.1<c.1 then [(s.1,c.1)] else [])++(if c.2<s.2 then [(c.2,s.2)] else []):=by unfold cutS;rw [if_pos ⟨b2,b1⟩]
  rw [e] at ih
  simp only [decide_eq_true b1,decide_eq_true b2,yag,yab,qBl,v1,v2]
  by_cases b3:s.1<c.1
  ·rw [if_pos b3] at ih
   by_cases b4:c.2<s.2
   ·rw [if_pos b4] at ih
    simp (discharger:=omega) only [decide_eq_true b3,decide_eq_true b4,yag,yaM,asT,o1,o2,yn7,qAp,qAm,qBt]
    exact ih _ (by rw [qBe])
   ·rw [if_neg b4] at ih
    simp (discharger:=omega) only [decide_eq_true b3,decide_eq_false b4,yag,yab,yaM,asT,o1,o2,yn7,qAp,qAm,qBt]
    exact ih _ rfl
  ·rw [if_neg b3] at ih
   by_cases b4:c.2<s.2
   ·rw [if_pos b4] at ih
    simp (discharger:=omega) only [decide_eq_false b3,decide_eq_true b4,yag,yab,yaM,asT,o1,o2,yn7,qAp,qAm,qBt]
    exact ih _ rfl
   ·rw [if_neg b4] at ih
    simp (discharger:=omega) only [decide_eq_false b3,decide_eq_false b4,yab,yaM,asT,o1,o2,yn7,qAp,qAm,qBt]
    exact ih _ (by simp)
theorem woW0 {S P:List RS} {k:Nat} (hk:k<P.length) (hP6:P.length≤1000000) (hS:∀ s∈S,yiC s) (hc:yiC (P.getD k default)) (hS6:S.length≤1000000) {x0:List PV→List PV→Int→Int→Bool→Prop} {x1:List PV→List PV→List PV→Int→Int→Bool→Prop} :
  ∀ (r i n:Nat),i+r=S.length→r<n→((S.drop i).flatMap (cutS (P.getD k default))=[]→x0 (rsp S) (rsp P) (k:Int) (S.length:Int) false)→(x1 (rsp ((S.drop i).flatMap (cutS (P.getD k default)))) (rsp S) (rsp P) (k:Int) (S.length:Int) false) →
  yc8 ybq ybK x0 x1 n (rsp S) (rsp P) (k:Int) (i:Int)
 | 0,i,n,hi,hn,h0,h=>by
  obtain ⟨n,rfl⟩:∃ k,n=k+1:=⟨n-1,by omega⟩
  obtain rfl:i=S.length:=by omega
  unfold yc8
  rw [yaM,cbF (by omega)]
  rw [qB1,List.flatMap_nil] at h0
  exact h0 rfl
 | r+1,i,n,hi,hn,h0,h=>by
  obtain ⟨n,rfl⟩:∃ k,n=k+1:=⟨n-1,by omega⟩
  have hi':i<S.length:=by omega
  have ew:IntKind.i64.wrap ((i:Int)+1)=((i+1:Nat):Int):=by rw [wib (by omega) (by omega)];omega
  have hs:=hS _ (yaX default hi')
  rw [yCD hi'] at h h0
  have hcs:=yAe (P.getD k default) (S.getD i default)
  have ih:=fun (e:cutS (P.getD k default) (S.getD i default)=[])=>woW0 hk hP6 hS hc hS6 (x0:=x0) (x1:=x1) r (i+1) n (by omega) (by omega) (by rw [e,qBs] at h0;exact h0) (by rw [e,qBs] at h;exact h)
  have iw:=fun B' (e:cutS (P.getD k default) (S.getD i default)=B')=>woW hk hP6 hS hc hS6 (x1:=x1) r (i+1) n B' (by omega) (by omega) (by rw [← e];omega) (by rw [← e];exact h)
  have eS:List.getD (rsp S) i .nils=encR (S.getD i default):=yfh hi'
  have eP:List.getD (rsp P) k .nils=encR (P.getD k default):=yfh hk
  generalize P.getD k default=c at *
  generalize S.getD i default=s at *
  have l1:=fun K=>ykp hc.1.1 hs.1.2 K
  have l2:=fun K=>ykp hs.1.1 hc.1.2 K
  have v1:=fun K=>yuR hs.1.1 hc.1.1 K
  have v2:=fun K=>yuR hc.1.2 hs.1.2 K
  have o1:([.agg [.int .i64 s.1.num,.int .i64 s.1.den,.int .i64 c.1.num,.int .i64 c.1.den]]:List PV)=rsp [(s.1,c.1)]:=rfl
  have o2:([.agg [.int .i64 c.2.num,.int .i64 c.2.den,.int .i64 s.2.num,.int .i64 s.2.den]]:List PV)=rsp [(c.2,s.2)]:=rfl
  have o3:([.agg [.int .i64 s.1.num,.int .i64 s.1.den,.int .i64 s.2.num,.int .i64 s.2.den]]:List PV)=rsp [s]:=rfl
  have o4:([.agg [.int .i64 s.1.num,.int .i64 s.1.den,.int .i64 c.1.num,.int .i64 c.1.den],.agg [.int .i64 c.2.num,.int .i64 c.2.den,.int .i64 s.2.num,.int .i64 s.2.den]]:List PV)=rsp [(s.1,c.1),(c.2,s.2)]:=rfl
  unfold yc8
  simp only [Go.Pf.jn,lt]
  rw [yaM,cbT (by omega)]
  simp (discharger:=omega) only [yaM,asT,qAe,eS,eP,asR,yms,yrY,ymt,ymu,l1,l2,o3,ew]
  by_cases b1:c.1<s.2
  case neg =>
   have e:cutS c s=[s]:=by unfold cutS;rw [if_neg fun k=>b1 k.2]
   by_cases b2:s.1<c.2
   ·simp only [decide_eq_false b1,decide_eq_true b2,yag,yab,qBl,qBh]
    exact iw _ e
   ·simp only [decide_eq_false b1,decide_eq_false b2,yag,yab,qBh]
    exact iw _ e
  by_cases b2:s.1<c.2
  case neg =>
   have e:cutS c s=[s]:=by unfold cutS;rw [if_neg fun k=>b2 k.1]
   simp only [decide_eq_true b1,decide_eq_false b2,yag,yab,qBl,qBh]
   exact iw _ e
  have e:cutS c s=(if s.1<c.1 then [(s.1,c.1)] else [])++(if c.2<s.2 then [(c.2,s.2)] else []):=by unfold cutS;rw [if_pos ⟨b2,b1⟩]
  simp only [decide_eq_true b1,decide_eq_true b2,yag,yab,qBl,v1,v2]
  by_cases b3:s.1<c.1
  ·rw [if_pos b3] at e
   by_cases b4:c.2<s.2
   ·rw [if_pos b4] at e
    simp (discharger:=omega) only [decide_eq_true b3,decide_eq_true b4,yag,o4]
    exact iw _ e
   ·rw [if_neg b4] at e
    simp (discharger:=omega) only [decide_eq_true b3,decide_eq_false b4,yag,yab,o1]
    exact iw _ e
  ·rw [if_neg b3] at e
   by_cases b4:c.2<s.2
   ·rw [if_pos b4] at e
    simp (discharger:=omega) only [decide_eq_false b3,decide_eq_true b4,yag,yab,o2]
    exact iw _ e
   ·rw [if_neg b4] at e
    simp (discharger:=omega) only [decide_eq_false b3,decide_eq_false b4,yab]
    exact ih e
def ordS (S:List RS):Prop:=S.Pairwise fun s t=>s.2≤t.1
theorem yJx {c s:RS} (hs:s.1<s.2) (_:c.1<c.2):∀ x∈cutS c s,s.1≤x.1∧x.2≤s.2:=by
 intro x hx
 unfold cutS at hx
 split at hx
 ·rcases qAv.1 hx with hx | hx
  ·split at hx
   ·rcases qAn.1 hx with rfl | hx
    ·dsimp only;grind
    ·cases hx
   ·cases hx
  ·split at hx
   ·rcases qAn.1 hx with rfl | hx
    ·dsimp only;grind
    ·cases hx
   ·cases hx
 ·rcases qAn.1 hx with rfl | hx
  ·grind
  ·cases hx
theorem yMp {c s:RS} (hc:c.1<c.2):ordS (cutS c s):=by
 unfold cutS ordS
 split
 ·split <;> split
  ·refine List.Pairwise.cons ?_ (List.pairwise_singleton ..)
   intro x hx
   obtain rfl:x=(c.2,s.2):=by simpa using hx
   dsimp only;grind
  ·exact List.pairwise_singleton ..
  ·exact List.pairwise_singleton ..
  ·exact List.Pairwise.nil
 ·exact List.pairwise_singleton ..
theorem yGB {c:RS} (hc:c.1<c.2) {S:List RS} (hg:∀ s∈S,yiC s) (h:ordS S):ordS (S.flatMap (cutS c)):=by
 unfold ordS
 rw [List.pairwise_flatMap]
 refine ⟨fun s _=>yMp hc,?_⟩
 refine List.Pairwise.imp_of_mem ?_ h
 intro s t ms mt e x hx y hy
 have a:=(yJx (hg s ms).2 hc x hx).2
 have b:=(yJx (hg t mt).2 hc y hy).1
 grind
theorem yMq {c s:RS} (h:¬s.1<c.1):(cutS c s).length≤1:=by
 unfold cutS
 rw [if_neg h]
 split
 ·split <;> simp
 ·simp
theorem yCE {c:RS}:∀ {S:List RS},(∀ s∈S,¬s.1<c.1)→(S.flatMap (cutS c)).length≤S.length
 | [],_=>by simp
 | s::r,h=>by
  rw [List.flatMap_cons,qAp,qAm]
  have:=yMq (h s (qAg ..))
  have:=yCE (c:=c) (S:=r) fun t ht=>h t (qAf _ ht)
  omega
theorem yAf {c:RS} (hc:c.1<c.2):∀ {S:List RS},ordS S→(S.flatMap (cutS c)).length≤S.length+1
 | [],_=>by simp
 | s::r,h=>by
  rw [List.flatMap_cons,qAp,qAm]
  obtain ⟨h1,h2⟩:=List.pairwise_cons.1 h
  by_cases b:(cutS c s).length≤1
  ·have:=yAf hc h2
   omega
  ·have k2:=yAe c s
   have:(r.flatMap (cutS c)).length≤r.length:=yCE fun t ht=>by
    have e:=h1 t ht
    intro x
    apply b
    unfold cutS
    split
    ·rename_i y
     rw [if_neg (by grind:¬c.2<s.2)]
     split <;> simp
    ·simp
   omega
theorem yGC {c:RS} (hc:c.1<c.2) {p:Rat}:∀ {S:List RS},(∀ s∈S,yiC s)→(memP (S.flatMap (cutS c)) p↔memP S p∧¬inS c p)
 | [],_=>⟨fun h=>absurd h yc1,fun h=>absurd h.1 yc1⟩
 | s::r,h=>by
  rw [List.flatMap_cons,yuI,ybx,yMo hc (h s (qAg ..)).2,yGC hc fun t ht=>h t (qAf _ ht)]
  constructor
  ·rintro (⟨a,b⟩ | ⟨a,b⟩)
   ·exact ⟨.inl a,b⟩
   ·exact ⟨.inr a,b⟩
  ·rintro ⟨a | a,b⟩
   ·exact .inl ⟨a,b⟩
   ·exact .inr ⟨a,b⟩
theorem yCF {c:RS} (hc:yiC c) {S:List RS} (h:∀ s∈S,yiC s):∀ x∈S.flatMap (cutS c),yiC x:=by
 intro x hx
 obtain ⟨s,ms,hx⟩:=List.mem_flatMap.1 hx
 exact yKz hc.1 (h s ms) x hx
def wo (S P:List RS):List RS:=P.foldl (fun l c=>l.flatMap (cutS c)) S
structure WoG (S:List RS):Prop where
 g:∀ s∈S,yiC s
 o:ordS S
theorem yEv:∀ (P S:List RS),(∀ c∈P,yiC c)→WoG S→WoG (wo S P)∧(wo S P).length≤S.length+P.length∧∀ p,memP (wo S P) p↔memP S p∧¬memP P p
 | [],S,_,h=>⟨h,by simp [wo],fun p=>⟨fun x=>⟨x,yc1⟩,fun x=>x.1⟩⟩
 | c::r,S,hP,h=>by
  have hc:=hP c (qAg ..)
  have ⟨a,b,d⟩:=yEv r (S.flatMap (cutS c)) (fun x hx=>hP x (qAf _ hx)) ⟨yCF hc h.g,yGB hc.2 h.g h.o⟩
  have l:=yAf hc.2 h.o
  refine ⟨a,?_,fun p=>?_⟩
  ·show (wo (S.flatMap (cutS c)) r).length≤_
   rw [qAm];omega
  ·show memP (wo (S.flatMap (cutS c)) r) p↔_
   rw [d p,yGC hc.2 h.g,ybx]
   constructor
   ·rintro ⟨⟨x,y⟩,z⟩
    exact ⟨x,fun w=>w.elim y z⟩
   ·rintro ⟨x,y⟩
    exact ⟨⟨x,fun z=>y (.inl z)⟩,fun z=>y (.inr z)⟩
theorem woO {P:List RS} (hP:∀ c∈P,yiC c) (hP6:P.length≤100000) {x:List PV→List PV→Int→Bool→Prop} :
  ∀ (r k n:Nat) (S:List RS),k+r=P.length→r<n→WoG S→S.length+r≤200000→x (rsp (wo S (P.drop k))) (rsp P) (P.length:Int) false →
  ycH ybq ybK x n (rsp S) (rsp P) (k:Int)
 | 0,k,n,S,hk,hn,hS,hl,h=>by
  obtain ⟨n,rfl⟩:∃ k,n=k+1:=⟨n-1,by omega⟩
  obtain rfl:k=P.length:=by omega
  unfold ycH
  rw [yaM,cbF (by omega)]
  rw [qB1] at h
  exact h
 | r+1,k,n,S,hk,hn,hS,hl,h=>by
  obtain ⟨n,rfl⟩:∃ k,n=k+1:=⟨n-1,by omega⟩
  have hk':k<P.length:=by omega
  have hc:=hP _ (yaX default hk')
  have ew:IntKind.i64.wrap ((k:Int)+1)=((k+1:Nat):Int):=by rw [wib (by omega) (by omega)];omega
  rw [ybi default hk'] at h
  have hw:WoG (S.flatMap (cutS (P.getD k default))):=⟨yCF hc hS.g,yGB hc.2 hS.g hS.o⟩
  have hlen:=yAf hc.2 hS.o
  have ih:=woO hP hP6 r (k+1) n (S.flatMap (cutS (P.getD k default))) (by omega) (by omega) hw (by omega) h
  unfold ycH
  rw [yaM,cbT (by omega)]
  refine ⟨S.length+1,?_⟩
  refine woW0 hk' (by omega) hS.g hc (by omega) S.length 0 (S.length+1) (by omega) (by omega) (fun e=>?_) ?_
  ·rw [qAt] at e
   rw [e] at ih
   simp only [lt,ew]
   exact ih
  ·rw [qAt]
   simp (discharger:=omega) only [lt,ew,asT,qCc]
   exact ih
theorem yAg {S P:List RS} (hP:∀ c∈P,yiC c) (hP6:P.length≤1000) (hS:WoG S) (hl:S.length≤10000) (K:List PV→Prop) (h:K (rsp (wo S P))):yfa (rsp S) (rsp P) K:=by
 refine ⟨P.length+1,?_⟩
 exact woO hP (by omega) P.length 0 (P.length+1) S (by omega) (by omega) hS (by omega) h
end Go.Pf.Vc
namespace Go.Pf.Vc
open Go Go.Pf
section
variable {cs:List Ck} {A:List (List RS)}
theorem wit4 (h:DV cs A) (hw:∀ c∈cs,∀ a∈A,Go.Pf.Vc.small (wV c a)) (hW:∀ K,yat (cks cs) (rspL A) K=K (tabW cs A) 0) {K:Int→Int→Int→Prop}
  (k1:∀ a b:Nat,a<cs.length→b<cs.length→wV (cs.getD a default) (A.getD a [])<wV (cs.getD a default) (A.getD b [])→K a b 0) (k2:K 0 0 6):ybs (cks cs) (rspL A) 4 K:=by
 have hb:=fun K=>h.asked hw hW (c:=4) (.inr (.inr (.inl rfl))) K
 rw [yic hb]
 have e:brk cs A (prtL cs A cs.length) (gapD cs A) 4=yhC (ycd (wr2 cs A) cs.length cs.length 0):=rfl
 rw [e]
 cases hs:ycd (wr2 cs A) cs.length cs.length 0 with
 | none=>exact k2
 | some q =>
  obtain ⟨a,b⟩:=q
  obtain ⟨_,ha,hb',hf⟩:=yoc hs
  exact k1 a b (by omega) hb' (of_decide_eq_true hf)
theorem yPN (h:DV cs A) (hw:∀ c∈cs,∀ a∈A,Go.Pf.Vc.small (wV c a)) (hW:∀ K,yat (cks cs) (rspL A) K=K (tabW cs A) 0) {K:Int→Int→Int→Prop}
  (k1:∀ a:Nat,a<cs.length→(A.getD a []).length≠1→K a a 0) (k2:K 0 0 6):ybs (cks cs) (rspL A) 16 K:=by
 have hb:=fun K=>h.asked hw hW (c:=16) (.inr (.inr (.inr rfl))) K
 rw [yic hb]
 have e:brk cs A (prtL cs A cs.length) (gapD cs A) 16=yhC (ycd (wr4 A) cs.length cs.length 0):=rfl
 rw [e]
 cases hs:ycd (wr4 A) cs.length cs.length 0 with
 | none=>exact k2
 | some q =>
  obtain ⟨a,b⟩:=q
  obtain ⟨_,ha,hb',hf⟩:=yoc hs
  unfold wr4 at hf
  rw [qAb] at hf
  obtain rfl:a=b:=of_decide_eq_true hf.1
  exact k1 a (by omega) (of_decide_eq_true hf.2)
theorem wit1 (h:DV cs A) (hw:∀ c∈cs,∀ a∈A,Go.Pf.Vc.small (wV c a)) (hW:∀ K,yat (cks cs) (rspL A) K=K (tabW cs A) 0) {K:Int→Int→Int→Prop}
  (k1:∀ a b:Nat,a<b→b<cs.length→yn9 (A.getD a []) (A.getD b [])=true→K a b 0) (k2:Gap cs A→K (-1) (-1) 0) (k3:K 0 0 6):ybs (cks cs) (rspL A) 1 K:=by
 have hb:=fun K=>h.asked hw hW (c:=1) (.inl rfl) K
 rw [yic hb]
 have e:brk cs A (prtL cs A cs.length) (gapD cs A) 1=(match ycd (wr0 A) cs.length cs.length 0 with | some (a,b)=>((a:Int),(b:Int),true) | none=>if gapD cs A then (-1,-1,true) else (0,0,false)):=rfl
 rw [e]
 cases hs:ycd (wr0 A) cs.length cs.length 0 with
 | none =>
  cases hg:gapD cs A with
  | true=>exact k2 (yz9.1 hg)
  | false=>exact k3
 | some q =>
  obtain ⟨a,b⟩:=q
  obtain ⟨_,ha,hb',hf⟩:=yoc hs
  unfold wr0 at hf
  rw [qAb] at hf
  exact k1 a b (of_decide_eq_true hf.1) hb' hf.2
theorem d_nn (a:Nat):decide ((a:Int)<0)=false:=decide_eq_false (by omega)
theorem yPO (h:DV cs A) (hw:∀ c∈cs,∀ a∈A,Go.Pf.Vc.small (wV c a)) (hW:∀ K,yat (cks cs) (rspL A) K=K (tabW cs A) 0) :
(ybs (cks cs) (rspL A) (16:Int) (fun e m n =>
 (Go.Pf.jn (fun (f:Bool→Prop) =>
 (cbr (n ==(0:Int))
 (cbr (e != m)
 (f true)
 (cbr (decide (e<(0:Int)))
 (f true)
 (cbr (decide (e≥(((List.length (cks cs)):Nat):Int)))
 (f true)
 (asr (decide ((0:Int)≤e))
 (asr (decide (e<(((List.length (rspL A)):Nat):Int)))
 (lt (List.getD (rspL A) (e.toNat) .nils) (fun j =>
 (asr (conf zD j)
 (f ((((List.length (yap j)):Nat):Int) ==(1:Int)))))))))))
 (f false)))
 (fun o=>(cbr o
 (false=true)
 (Go.Pf.jn (fun (k:Bool→Prop) =>
 (asr (decide ((0:Int)<(((List.length (rspL A)):Nat):Int)))
 (lt (List.getD (rspL A) 0 .nils) (fun g =>
 (asr (conf zD g)
 (ybv (yap g) (fun i =>
 (cbr (i ==(0:Int))
 (yeg  (fun q =>
 (k q)))
 (k false)))))))))
 (fun r=>(r=true)))))))):=by
  have h6:=h.d.n6;have h1:=h.d.n0;have hl:=h.l
  have e0:List.getD (rspL A) 0 .nils=.data (rsp (A.getD 0 [])):=yfo (by omega)
  have fin:asr (decide ((0:Int)<(((List.length (rspL A)):Nat):Int))) (lt (List.getD (rspL A) 0 .nils) (fun g=>(asr (conf zD g) (ybv (yap g) (fun i=>(cbr (i ==(0:Int)) (yeg (fun b=>b=true)) (false=true))))))):=by
   rw [ycP,asT (by omega)]
   dsimp only [lt]
   rw [e0,asD,datD,(h.p _ (yaX [] (by omega))).check3,ceT rfl,ywn]
  refine yPN h hw hW (fun a ha hne=>?_) ?_
  ·dsimp only [Go.Pf.jn,lt]
   have hla:((((rsp (A.getD a [])).length:Nat):Int) == 1)=false:=by rw [yaM,beq_eq_false_iff_ne];omega
   rw [ceT rfl,cnF rfl,d_nn,yab,yba,cbF (by omega),asT (by omega),ycP,asT (by omega),qAe,yfo (by omega),asD,datD,hla,yab]
   rw [ycP] at fin
   exact fin
  ·dsimp only [Go.Pf.jn,lt]
   rw [ceF (by omega),yab]
   exact fin
theorem rem6 (h:DV cs A) (hw:∀ c∈cs,∀ a∈A,Go.Pf.Vc.small (wV c a)) (hW:∀ K,yat (cks cs) (rspL A) K=K (tabW cs A) 0) :
(ybs (cks cs) (rspL A) (4:Int) (fun e i t =>
 (Go.Pf.jn (fun (f:Bool→Prop) =>
 (cbr (t ==(0:Int))
 (cbr (decide (e<(0:Int)))
 (f true)
 (cbr (decide (e≥(((List.length (cks cs)):Nat):Int)))
 (f true)
 (cbr (decide (i<(0:Int)))
 (f true)
 (cbr (decide (i≥(((List.length (cks cs)):Nat):Int)))
 (f true)
 (asr (decide ((0:Int)≤e))
 (asr (decide (e<(((List.length (tabW cs A)):Nat):Int)))
 (lt (List.getD (tabW cs A) (e.toNat) .nils) (fun p =>
 (asr (conf zD p)
 (cbr ((((List.length (yap p)):Nat):Int) !=(((List.length (cks cs)):Nat):Int))
 (f true)
 (asr (decide ((0:Int)≤e))
 (asr (decide (e<(((List.length (tabW cs A)):Nat):Int)))
 (lt (List.getD (tabW cs A) (e.toNat) .nils) (fun k =>
 (asr (conf zD k)
 (asr (decide ((0:Int)≤e))
 (asr (decide (e<(((List.length (yap k)):Nat):Int)))
 (lt (List.getD (yap k) (e.toNat) .nils) (fun m =>
 (asr (conf z2 m)
 (asr (decide ((0:Int)≤e))
 (asr (decide (e<(((List.length (tabW cs A)):Nat):Int)))
 (lt (List.getD (tabW cs A) (e.toNat) .nils) (fun n =>
 (asr (conf zD n)
 (asr (decide ((0:Int)≤i))
 (asr (decide (i<(((List.length (yap n)):Nat):Int)))
 (lt (List.getD (yap n) (i.toNat) .nils) (fun o =>
 (asr (conf z2 o)
 (ybq (yaa (yac m 0)) (yaa (yac m 1)) (yaa (yac o 0)) (yaa (yac o 1)) (fun u =>
 (f (!u))))))))))))))))))))))))))))))))))
 (f false)))
 (fun v=>(cbr v
 (false=true)
 (ybs (cks cs) (rspL A) (16:Int) (fun g w x =>
 (Go.Pf.jn (fun (j:Bool→Prop) =>
 (cbr (x ==(0:Int))
 (cbr (g != w)
 (j true)
 (cbr (decide (g<(0:Int)))
 (j true)
 (cbr (decide (g≥(((List.length (cks cs)):Nat):Int)))
 (j true)
 (asr (decide ((0:Int)≤g))
 (asr (decide (g<(((List.length (rspL A)):Nat):Int)))
 (lt (List.getD (rspL A) (g.toNat) .nils) (fun q =>
 (asr (conf zD q)
 (j ((((List.length (yap q)):Nat):Int) ==(1:Int)))))))))))
 (j false)))
 (fun y=>(cbr y
 (false=true)
 (Go.Pf.jn (fun (r:Bool→Prop) =>
 (asr (decide ((0:Int)<(((List.length (rspL A)):Nat):Int)))
 (lt (List.getD (rspL A) 0 .nils) (fun s =>
 (asr (conf zD s)
 (ybv (yap s) (fun z =>
 (cbr (z ==(0:Int))
 (yeg  (fun B =>
 (r B)))
 (r false)))))))))
 (fun C=>(C=true))))))))))))):=by
  have h6:=h.d.n6;have h1:=h.d.n0;have hl:=h.l
  have r16:=yPO h hw hW
  refine wit4 h hw hW (fun a b ha hb hlt=>?_) ?_
  ·have ga:=yaX default ha
   dsimp only [Go.Pf.jn,lt]
   rw [ceT rfl,d_nn,yab,yba,cbF (by omega),d_nn,yab,cbF (by omega),asT (by omega),yhv,asT (by omega),qAe,yob ha,asD,datD,yib,qAk,hl,cnF (by omega)]
   rw [asT (by omega),asT (by omega),asD,asT (by omega),asT (by omega),yky (by rw [qAk];omega),asW,asT (by omega),asT (by omega),asD,asT (by omega),asT (by omega),qAe,yky (by rw [qAk];omega),asW,yqi,yqj,yqi,yqj,yjg (by omega),yjg (by omega),ykp (hw _ ga _ (yaX [] (by omega))) (hw _ ga _ (yaX [] (by omega))),decide_eq_true hlt,qBl,yab]
   rw [yba] at r16
   exact r16
  ·dsimp only [Go.Pf.jn,lt]
   rw [ceF (by omega),yab]
   exact r16
end
end Go.Pf.Vc
namespace Go.Pf.Vc
open Go Go.Pf
theorem yAh:∀ {l:List RS},yeA l→∀ s∈l,s.1<s.2
 | s::r,h,t,ht=>by
  rcases qAn.1 ht with rfl | ht
  ·exact h.1
  ·exact yAh h.2.2 t ht
theorem Pc.good {a:List RS} (h:Pc a):∀ s∈a,yiC s:=fun s hs=>⟨h.s s hs,yAh h.c s hs⟩
theorem yJy:∀ (A:List (List RS)) (S:List RS),(∀ a∈A,∀ c∈a,yiC c)→WoG S→WoG (A.foldl wo S)∧∀ p,memP (A.foldl wo S) p↔memP S p∧¬∃ a∈A,memP a p
 | [],S,_,h=>⟨h,fun p=>⟨fun x=>⟨x,fun ⟨a,ha,_⟩=>by cases ha⟩,fun x=>x.1⟩⟩
 | a::r,S,hA,h=>by
  obtain ⟨w1,_,w3⟩:=yEv a S (hA a (qAg ..)) h
  obtain ⟨v1,v2⟩:=yJy r (wo S a) (fun x hx=>hA x (qAf _ hx)) w1
  refine ⟨v1,fun p=>?_⟩
  show memP (r.foldl wo (wo S a)) p↔_
  rw [v2 p,w3 p]
  constructor
  ·rintro ⟨⟨x,y⟩,z⟩
   refine ⟨x,fun ⟨b,hb,hp⟩=>?_⟩
   rcases qAn.1 hb with rfl | hb
   ·exact y hp
   ·exact z ⟨b,hb,hp⟩
  ·rintro ⟨x,y⟩
   exact ⟨⟨x,fun z=>y ⟨a,qAg ..,z⟩⟩,fun ⟨b,hb,hp⟩=>y ⟨b,qAf _ hb,hp⟩⟩
section
variable {cs:List Ck} {A:List (List RS)}
theorem yOl (h:DV cs A) {a0 a1 a2 a3 a4 a5 a7 a8} {x1:List PV→List PV→List PV→List PV→Int→List PV→Int→Bool→Prop} {l0 W:List PV} {b:Int} :
  ∀ (r i n:Nat) (S:List RS),i+r=cs.length→r<n→WoG S→S.length≤1+20*i→x1 l0 (cks cs) (rspL A) W b (rsp ((A.drop i).foldl wo S)) (cs.length:Int) false →
  ybV a0 a1 a2 a3 a4 a5 yfa a7 a8 x1 n l0 (cks cs) (rspL A) W b (rsp S) (i:Int)
 | 0,i,n,S,hi,hn,hS,hl,k=>by
  obtain ⟨n,rfl⟩:∃ k,n=k+1:=⟨n-1,by omega⟩
  obtain rfl:i=cs.length:=by omega
  have hA:=h.l
  unfold ybV
  rw [yba,cbF (by omega)]
  rw [qAs (by omega)] at k
  exact k
 | r+1,i,n,S,hi,hn,hS,hl,k=>by
  obtain ⟨n,rfl⟩:∃ k,n=k+1:=⟨n-1,by omega⟩
  have hA:=h.l;have h6:=h.d.n6
  have hi':i<A.length:=by omega
  have ew:IntKind.i64.wrap ((i:Int)+1)=((i+1:Nat):Int):=by rw [wib (by omega) (by omega)];omega
  have ma:=yaX [] hi'
  have g:=(h.p _ ma).good
  have m20:=h.m _ ma
  obtain ⟨w1,w2,_⟩:=yEv _ S g hS
  rw [ybi [] hi'] at k
  have ih:=yOl h (a0:=a0) (a1:=a1) (a2:=a2) (a3:=a3) (a4:=a4) (a5:=a5) (a7:=a7) (a8:=a8) (x1:=x1) (l0:=l0) (W:=W) (b:=b) r (i+1) n (wo S (A.getD i [])) (by omega) (by omega) w1 (by omega) k
  unfold ybV
  rw [yba,cbT (by omega),asT (by omega),ycP,asT (by omega),qAe,yfo hi']
  dsimp only [lt]
  rw [asD,datD]
  refine yAg g (by omega) hS (by omega) _ ?_
  rw [ew]
  exact ih
theorem yAi (h:DV cs A):WoG [((0:Rat),((cs.getD 0 default).len:Rat))]:=⟨(yO0 h.len0).good,List.pairwise_singleton ..⟩
theorem yKA (h:DV cs A) (hg:Gap cs A):(A.foldl wo [((0:Rat),((cs.getD 0 default).len:Rat))]).length≠0:=by
 obtain ⟨p,p0,p1,hn⟩:=hg
 have:=(yJy A _ (fun a ha=>(h.p a ha).good) (yAi h)).2 p
 have m:memP (A.foldl wo [((0:Rat),((cs.getD 0 default).len:Rat))]) p:=this.2 ⟨⟨_,qAg ..,p0,p1⟩,hn⟩
 obtain ⟨s,hs,_⟩:=m
 intro e
 rw [qAj e] at hs
 cases hs
theorem yKB (h:DV cs A) {a b:Nat} (ha:a<cs.length) (hb:b<cs.length) (ht:yn9 (A.getD a []) (A.getD b [])=true):(setR (A.getD a []) (A.getD b []) 1).length≠0:=by
 have hl:=h.l
 have pa:=h.p _ (yaX [] (show a<A.length by omega));have pb:=h.p _ (yaX [] (show b<A.length by omega))
 obtain ⟨p,m1,m2⟩:=(yIl (fun s hs=>(pa.good s hs).2) (fun s hs=>(pb.good s hs).2)).1 ht
 have m:memP (setR (A.getD a []) (A.getD b []) 1) p:=yL4.2 ⟨m1,m2⟩
 obtain ⟨s,hs,_⟩:=m
 intro e
 rw [qAj e] at hs
 cases hs
end
theorem yxA {cs:List Ck} {ps:List (List Sp)} (hc:cs.length≤9223372036854775807) (hl:ps.length≤9223372036854775807) (h64:∀ p∈ps,∀ s∈p,s.i64):yeV (cks cs) (yeW ps) (fun b=>b=true):=by
 unfold yeV ygc
 rw [yKv hc hl h64]
 cases hk:ok6 cs ps with
 | false =>
  rw [qBh,yag,ywn]
 | true =>
  obtain ⟨h,e⟩:=yIo hk
  rw [e,qBl,yab]
  generalize ps.map rsL=A at h
  have h6:=h.d.n6;have h1:=h.d.n0;have hlA:=h.l
  rcases h.Worth with em | ⟨hw,hW⟩
  ·rw [em]
   dsimp only [Go.Pf.jn]
   rw [cnT (by decide),ceT rfl,ywn]
  ·rw [hW]
   have r6:=rem6 h hw hW
   have r6o:=r6
   dsimp only [Go.Pf.jn,lt] at r6
   rw [yhv,yba] at r6
   have r6t:=eq_true r6
   rw [cnF rfl,yhv,yba,cnF rfl]
   dsimp only [Go.Pf.jn,lt]
   rw [r6t]
   refine wit1 h hw hW (fun a b hab hb ht=>?_) (fun hg=>?_) ?_
   ·have m:=yKB h (a:=a) (b:=b) (by omega) hb ht
    have pa:=h.p _ (yaX [] (show a<A.length by omega));have pb:=h.p _ (yaX [] (show b<A.length by omega))
    have la:=h.m _ (yaX [] (show a<A.length by omega));have lb:=h.m _ (yaX [] (show b<A.length by omega))
    have me:((((rsp (setR (A.getD a []) (A.getD b []) 1)).length:Nat):Int) == 0)=false:=by rw [yaM,beq_eq_false_iff_ne];omega
    have e0:((0:Int) == 0)=true:=rfl
    have e1:((0:Int) != 0)=false:=rfl
    have d1:decide ((a:Int)<0)=false:=decide_eq_false (by omega)
    have d2:decide ((a:Int)≥0)=true:=decide_eq_true (by omega)
    have d3:decide ((b:Int)≤a)=false:=decide_eq_false (by omega)
    have d4:decide ((b:Int)≥(cs.length:Int))=false:=decide_eq_false (by omega)
    rw [e0,yag,d2,yag,d3,yab,d4,yab,ycP,asT (by omega),asT (by omega),asT (by omega),asT (by omega),qAe,qAe,yfo (by omega),yfo (by omega),asD,asD,datD,datD,pa.meet pb (by omega),e1,yab,me,yab,yag,d1,yab]
    trivial
   ·have d1:decide ((-1:Int)≥0)=false:=rfl
    have d2:decide ((-1:Int)<0)=true:=rfl
    have e0:((0:Int) == 0)=true:=rfl
    have hi':0<A.length:=by omega
    have ma:=yaX [] hi'
    have g:=(h.p _ ma).good
    have m20:=h.m _ ma
    have w0:=yAi h
    obtain ⟨w1,w2,_⟩:=yEv _ _ g w0
    have eA:A.foldl wo [((0:Rat),((cs.getD 0 default).len:Rat))]=(A.drop 1).foldl wo (wo [((0:Rat),((cs.getD 0 default).len:Rat))] (A.getD 0 [])):=by
     have e:=ybi [] hi'
     rw [qAt] at e
     conv=>lhs;rw [e]
     rfl
    have rs:=yKA h hg
    rw [eA] at rs
    have n1:cs.length=(cs.length-1)+1:=by omega
    rw [e0,yag,d1,yab,yag,d2,yag,asT (by omega),yge (by omega),asCk,ck0,of6]
    have ew:IntKind.i64.wrap ((0:Int)+1)=((1:Nat):Int):=rfl
    have el:([.agg [.int .i64 0,.int .i64 1,.int .i64 (cs.getD 0 default).len,.int .i64 1]]:List PV)=rsp [((0:Rat),((cs.getD 0 default).len:Rat))]:=rfl
    rw [el]
    rw [show (decide (1=(rsp [((0:Rat),((cs.getD 0 default).len:Rat))]).length)&&decide (1=(rsp [((0:Rat),((cs.getD 0 default).len:Rat))]).length)&&decide (1=(rsp [((0:Rat),((cs.getD 0 default).len:Rat))]).length))=true from rfl]
    show Exists _
    refine ⟨cs.length+2,?_⟩
    unfold yeU
    dsimp only [lt]
    rw [yba,cbT (by omega),ycP,asT (by omega),asT (by omega)]
    rw [show List.getD (rspL A) (0:Int).toNat .nils=.data (rsp (A.getD 0 [])) from yfo hi',asD,asT rfl,asT (by omega),qCc,datD]
    refine yAg g (by omega) w0 (by simp) _ ?_
    rw [ew]
    refine yOl h (cs.length-1) 1 (cs.length+1) _ (by omega) (by omega) w1 (by rw [qAm,qBt] at w2;omega) ?_
    have re:((((rsp ((A.drop 1).foldl wo (wo [((0:Rat),((cs.getD 0 default).len:Rat))] (A.getD 0 [])))).length:Nat):Int) == 0)=false:=by rw [yaM,beq_eq_false_iff_ne];omega
    rw [re,yab,cnF rfl]
    exact r6o
   ·have e0:((6:Int) == 0)=false:=rfl
    rw [e0,yab,yab,yab,yab]
    trivial
end Go.Pf.Vc
