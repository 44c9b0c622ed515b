/- Part 5 of what the statement rests on: a verified evaluator over pure values, the conditions of the program's functions, and their plain laws. -/
import Derived.Test.YtfdnnbmkmlhidaaGreatAtW4
namespace Go.Pf.Vc
theorem ypg (a b:Rat):minR a b≤a∧minR a b≤b∧(minR a b=a∨minR a b=b):=by unfold minR;split <;> grind
end Go.Pf.Vc
namespace Go.Pf.Vc
def insR (p:Rat):List Rat→List Rat
 | []=>[p]
 | x::r=>if p=x then x::r else if p<x then p::x::r else x::insR p r
theorem yuI {p z:Rat}:∀ (l:List Rat),z∈insR p l↔(z=p∨z∈l)
 | []=>by unfold insR;simp
 | x::r=>by
   unfold insR
   by_cases h:p=x
   · rw [if_pos h]
     subst h
     simp
   · rw [if_neg h]
     by_cases h2:p<x
     · rw [if_pos h2];simp
     · rw [if_neg h2,List.mem_cons,yuI r,List.mem_cons]
       constructor
       · rintro (h | h | h)
         · exact .inr (.inl h)
         · exact .inl h
         · exact .inr (.inr h)
       · rintro (h | h | h)
         · exact .inr (.inl h)
         · exact .inl h
         · exact .inr (.inr h)
theorem yvL {p:Rat}:∀ (l:List Rat),incrR l→incrR (insR p l)
 | [],_=>⟨by simp,trivial⟩
 | x::r,h=>by
   unfold insR
   by_cases h1:p=x
   · rw [if_pos h1];exact h
   · rw [if_neg h1]
     by_cases h2:p<x
     · rw [if_pos h2]
       refine ⟨fun y hy=>?_,h⟩
       rcases List.mem_cons.1 hy with rfl | hy
       · exact h2
       · have:=h.1 y hy;grind
     · rw [if_neg h2]
       refine ⟨fun y hy=>?_,yvL r h.2⟩
       rcases (yuI r).1 hy with rfl | hy
       · grind
       · exact h.1 y hy
def endsR:List RS→List Rat→List Rat
 | [],out=>out
 | s::a,out=>endsR a (insR s.2 (insR s.1 out))
theorem yyF:∀ (a:List RS) (out:List Rat),incrR out→incrR (endsR a out)
 | [],_,h=>h
 | _::a,_,h=>yyF a _ (yvL _ (yvL _ h))
end Go.Pf.Vc
namespace Go.Pf.Vc
open Go Go.Pf
def Sp.rs (s:Sp):RS:=(rt s.a s.b,rt s.c s.d)
def Sp.ok (s:Sp):Prop:=RV s.a s.b∧RV s.c s.d∧rt s.a s.b<rt s.c s.d
instance (s:Sp):Decidable s.ok:=by unfold Sp.ok;infer_instance
def Sp.i64 (s:Sp):Prop:=I64 s.a∧I64 s.b∧I64 s.c∧I64 s.d
theorem yD7 (q r:Rat):decide (cmpQ q r<0)=decide (q<r):=by
 unfold cmpQ
 by_cases h:q<r
 · rw [if_pos h];simp [h]
 · rw [if_neg h]
   split <;> simp [h]
theorem yCi (q r:Rat):decide (cmpQ q r≤0)=!decide (r<q):=by
 unfold cmpQ
 by_cases h:q<r
 · have:¬r<q:=by grind
   rw [if_pos h];simp [this]
 · rw [if_neg h]
   by_cases h2:r<q
   · rw [if_pos h2];simp [h2]
   · rw [if_neg h2];simp [h2]
end Go.Pf.Vc
namespace Go.Pf.Vc
open Go Go.Pf
theorem asSp {s:Sp} {P:Prop}:asr (conf (.agg [.i .i64,.i .i64,.i .i64,.i .i64]) (encS s)) P=P:=rfl
def allOkB (l:List Sp):Bool:=l.all fun s=>decide s.ok
def allE (l:List Sp):Int:=if l.length>60 then 4 else if allOkB l then 0 else 8
end Go.Pf.Vc
namespace Go.Pf.Vc
open Go Go.Pf
def gapB:Sp→List Sp→Bool
 | _,[]=>true
 | s,t::r=>decide (s.rs.2<t.rs.1)&&gapB t r
def rsL (l:List Sp):List RS:=l.map Sp.rs
def pieceE (l:List Sp):Int:=if allE l=0 then (match l with | []=>0 | s::r=>if gapB s r then 0 else 8) else allE l
theorem yM4 {l:List Sp} (h:allE l=0):l.length≤60∧∀ s∈l,s.ok:=by
 unfold allE at h
 split at h
 · cases h
 · split at h
   · rename_i h1 h2
     exact ⟨by omega,fun s hs=>by simpa using List.all_eq_true.1 h2 s hs⟩
   · cases h
end Go.Pf.Vc
namespace Go.Pf.Vc
open Go Go.Pf
theorem yAF:∀ (r:List Sp) (s:Sp),s.ok→(∀ t∈r,t.ok)→(gapB s r=true↔canon (rsL (s::r)))
 | [],s,hs,_=>⟨fun _=>⟨hs.2.2,by simp,trivial⟩,fun _=>rfl⟩
 | t::r,s,hs,h=>by
   have ht:=h t List.mem_cons_self
   have ih:=yAF r t ht fun u hu=>h u (List.mem_cons_of_mem _ hu)
   unfold gapB
   rw [Bool.and_eq_true,decide_eq_true_eq,ih]
   constructor
   · rintro ⟨h1,h2⟩
     refine ⟨hs.2.2,fun u hu=>?_,h2⟩
     rcases List.mem_cons.1 hu with rfl | hu
     · exact h1
     · have:=h2.2.1 u hu
       have:=h2.1
       show s.rs.2<u.1
       grind
   · rintro ⟨_,h2,h3⟩
     exact ⟨h2 _ List.mem_cons_self,h3⟩
end Go.Pf.Vc
namespace Go.Pf.Vc
open Go Go.Pf
def bothE (a b:List Sp):Int:=if pieceE a=0 then pieceE b else pieceE a
end Go.Pf.Vc
namespace Go.Pf.Vc
open Go Go.Pf Go.Sort
theorem yw3 {n d:Int}:rvB n d=true↔RV n d:=by
 unfold rvB RV
 simp only [Bool.and_eq_true,decide_eq_true_eq]
theorem yLe {a b c d:Int} (h:RV a b) (k:RV c d):cmpI a b c d<0↔rt a b<rt c d:=by
 obtain ⟨_,h2,h3⟩:=rt_of h
 obtain ⟨_,k2,k3⟩:=rt_of k
 rw [Rat.lt_iff,h2,h3,k2,k3]
 unfold cmpI
 by_cases h:a*d<c*b
 · rw [if_pos h];simp [h]
 · rw [if_neg h]
   split <;> simp [h]
def ratOf:PV→Rat
 | .agg (.int _ a::.int _ b::_)=>rt a b
 | _=>0
theorem yvM {s:Srt}:∀ {l:List PV},(∀ x∈l,s.gd x=true)→∃ d,s.rows? l=some d
 | [],_=>⟨[],rfl⟩
 | x::r,h=>by
   obtain ⟨d,hd⟩:=yvM (s:=s) (l:=r) fun y hy=>h y (List.mem_cons_of_mem _ hy)
   refine ⟨⟨x,h x List.mem_cons_self⟩::d,?_⟩
   simp only [Srt.rows?]
   rw [dif_pos (h x List.mem_cons_self),hd]
theorem RV.i1 {n d:Int} (h:RV n d):I64 n:=by obtain ⟨h1,h2,h3,h4,_⟩:=h;exact ⟨by omega,by omega⟩
theorem RV.i2 {n d:Int} (h:RV n d):I64 d:=by obtain ⟨h1,h2,h3,h4,_⟩:=h;exact ⟨by omega,by omega⟩
theorem Sp.ok.i64 {s:Sp} (h:s.ok):s.i64:=⟨h.1.i1,h.1.i2,h.2.1.i1,h.2.1.i2⟩
end Go.Pf.Vc
namespace Go.Pf.Vc
open Go Go.Pf
def spOf (r:RS):Sp:=⟨r.1.num,r.1.den,r.2.num,r.2.den⟩
def rsp (l:List RS):List PV:=spans (l.map spOf)
def smallS (r:RS):Prop:=small r.1∧small r.2
theorem yM9 (l:List RS):(rsp l).length=l.length:=by unfold rsp;rw [yIb,List.length_map]
def encR (r:RS):PV:=encS (spOf r)
theorem yNa {l:List RS} {i:Nat} (h:i<l.length):List.getD (rsp l) i .nils=encR (l.getD i default):=by
 unfold rsp
 rw [yJE (by rw [List.length_map];exact h)]
 unfold encR
 congr 1
 rw [List.getD_eq_getElem?_getD,List.getD_eq_getElem?_getD,List.getElem?_map,List.getElem?_eq_getElem h]
 rfl
theorem encR0 (r:RS):intOfV (cellAt (encR r) 0)=r.1.num:=rfl
theorem encR1 (r:RS):intOfV (cellAt (encR r) 1)=r.1.den:=rfl
theorem encR2 (r:RS):intOfV (cellAt (encR r) 2)=r.2.num:=rfl
theorem encR3 (r:RS):intOfV (cellAt (encR r) 3)=r.2.den:=rfl
theorem asR (r:RS) (P:Prop):asr (conf (.agg [.i .i64,.i .i64,.i .i64,.i .i64]) (encR r)) P=P:=rfl
theorem asE {α:Type} [DecidableEq α] (a:α) (P:Prop):asr (decide (a=a)) P=P:=by rw [decide_eq_true rfl,yat]
theorem asEE {α:Type} [DecidableEq α] (a:α) (b:Bool) (P:Prop):asr (decide (a=a)&&b) P=asr b P:=by rw [decide_eq_true rfl,Bool.true_and]
theorem asNo {c:Prop} [Decidable c] {P:Prop} (h:¬c):asr (!decide c) P=P:=by rw [decide_eq_false h];rfl
theorem asTr (P:Prop):asr (decide True) P=P:=by rw [decide_true];rfl
theorem yMA {l:List RS} (h:∀ s∈l,smallS s) {i:Nat} (hi:i<l.length):smallS (l.getD i default):=by
 rw [List.getD_eq_getElem?_getD,List.getElem?_eq_getElem hi]
 exact h _ (List.getElem_mem hi)
theorem yLf {r:RS} (_:smallS r):(spOf r).rs=r:=by
 show (rt r.1.num r.1.den,rt r.2.num r.2.den)=r
 rw [ydT,ydT]
theorem yLg {r:RS} (h:smallS r) (hv:r.1<r.2):(spOf r).ok:=⟨h.1.rv,h.2.rv,by
 show rt r.1.num r.1.den<rt r.2.num r.2.den
 rw [ydT,ydT];exact hv⟩
end Go.Pf.Vc
namespace Go.Pf.Vc
open Go Go.Pf
def inB (l:List RS) (p:Rat):Bool:=l.any fun s=>!decide (p<s.1)&&decide (p<s.2)
end Go.Pf.Vc
namespace Go.Pf.Vc
open Go Go.Pf
def encW (q:Rat):PV:=.agg [.int .i64 q.num,.int .i64 q.den]
def rts (l:List Rat):List PV:=l.map encW
theorem ych (l:List Rat):(rts l).length=l.length:=List.length_map ..
theorem ymw {l:List Rat} {i:Nat} (h:i<l.length):List.getD (rts l) i .nils=encW (l.getD i 0):=by
 unfold rts
 rw [List.getD_eq_getElem?_getD,List.getD_eq_getElem?_getD,List.getElem?_map,List.getElem?_eq_getElem h]
 rfl
theorem encW0 (q:Rat):intOfV (cellAt (encW q) 0)=q.num:=rfl
theorem encW1 (q:Rat):intOfV (cellAt (encW q) 1)=q.den:=rfl
theorem asW (q:Rat) (P:Prop):asr (conf (.agg [.i .i64,.i .i64]) (encW q)) P=P:=rfl
theorem yLh (q:Rat):(.agg [.int .i64 q.num,.int .i64 q.den]:PV)=encW q:=rfl
theorem yLi (a b:List Rat):rts a++rts b=rts (a++b):=by unfold rts;rw [List.map_append]
theorem yLj (l:List Rat) (i:Nat) (q:Rat):List.set (rts l) i (encW q)=rts (l.set i q):=by unfold rts;rw [List.map_set]
theorem yD8 (l:List Rat) (n:Nat):List.take n (rts l)=rts (l.take n):=by unfold rts;rw [List.map_take]
theorem ratEq (a b:Rat):((a.num == b.num)&&(((a.den:Int) ==(b.den:Int))&&true))=decide (a=b):=by
 rw [Bool.and_true,Bool.eq_iff_iff]
 simp only [Bool.and_eq_true,beq_iff_eq,decide_eq_true_eq]
 constructor
 · rintro ⟨h1,h2⟩;exact Rat.ext h1 (by omega)
 · rintro rfl;exact ⟨rfl,rfl⟩
theorem yqJ {l:List Rat} {i:Nat} (h:i<l.length):l.getD i 0∈l:=by
 rw [List.getD_eq_getElem?_getD,List.getElem?_eq_getElem h]
 exact List.getElem_mem h
end Go.Pf.Vc
namespace Go.Pf.Vc
open Go Go.Pf
theorem yyG {q:Rat}:∀ (out:List Rat),(insR q out).length≤out.length+1
 | []=>Nat.le_refl _
 | x::r=>by
   unfold insR
   split
   · simp
   · split
     · simp
     · have:=yyG (q:=q) r
       simp only [List.length_cons];omega
theorem yAG:∀ (l:List RS) (out:List Rat),(endsR l out).length≤out.length+2*l.length
 | [],_=>Nat.le_refl _
 | s::a,out=>by
   have h1:=yAG a (insR s.2 (insR s.1 out))
   have h2:=yyG (q:=s.2) (insR s.1 out)
   have h3:=yyG (q:=s.1) out
   show (endsR a _).length≤_
   simp only [List.length_cons];omega
end Go.Pf.Vc
namespace Go.Pf.Vc
open Go Go.Pf
theorem yJG {l:List RS} (h:canon l):∀ s∈l,s.1<s.2:=by
 induction l with
 | nil=>intro s hs;cases hs
 | cons t r ih =>
   intro s hs
   rcases List.mem_cons.1 hs with rfl | hs
   · exact h.1
   · exact ih h.2.2 s hs
end Go.Pf.Vc
namespace Go.Pf.Vc
open Go Go.Pf
theorem yMB {a b c d:Int} (h:RV a b) (k:RV c d):cmpI a b c d=cmpQ (rt a b) (rt c d):=by
 obtain ⟨_,h2,h3⟩:=rt_of h
 obtain ⟨_,k2,k3⟩:=rt_of k
 unfold cmpI cmpQ
 simp only [Rat.lt_iff,h2,h3,k2,k3]
end Go.Pf.Vc
namespace Go.Pf.Vc
open Go Go.Pf
structure Pc (l:List RS):Prop where
 c:canon l
 s:∀ s∈l,smallS s
 n:l.length≤60
theorem yJH {l:List RS} (h:∀ s∈l,smallS s):rsL (l.map spOf)=l:=by
 induction l with
 | nil=>rfl
 | cons s r ih =>
   show (spOf s).rs::rsL (r.map spOf)=_
   rw [yLf (h s List.mem_cons_self),ih fun t ht=>h t (List.mem_cons_of_mem _ ht)]
theorem Pc.ok {l:List RS} (h:Pc l):∀ s∈l.map spOf,s.ok:=fun s hs=>by
 obtain ⟨t,ht,rfl⟩:=List.mem_map.1 hs
 exact yLg (h.s t ht) (yJG h.c t ht)
theorem Pc.i64 {l:List RS} (h:Pc l):∀ s∈l.map spOf,s.i64:=fun s hs=>by
 obtain ⟨t,ht,rfl⟩:=List.mem_map.1 hs
 have:=h.s t ht
 exact ⟨this.1.i1,this.1.i2,this.2.i1,this.2.i2⟩
theorem Pc.e {l:List RS} (h:Pc l):pieceE (l.map spOf)=0:=by
 have hl:=h.n
 have ho:=h.ok
 have hc:=h.c
 rw [← yJH h.s] at hc
 have h1:allOkB (l.map spOf)=true:=List.all_eq_true.2 fun s hs=>decide_eq_true (ho s hs)
 have h2:allE (l.map spOf)=0:=by
   unfold allE
   rw [if_neg (by rw [List.length_map];omega),h1,if_pos rfl]
 unfold pieceE
 rw [h2]
 cases l with
 | nil=>rfl
 | cons s r =>
   have hg:gapB (spOf s) (r.map spOf)=true:=(yAF _ _ (ho _ (by simp)) (fun t ht=>ho t (List.mem_cons_of_mem _ ht))).2 hc
   show (if (0:Int)=0 then (if gapB (spOf s) (r.map spOf) then 0 else 8) else _)=_
   rw [if_pos rfl,hg,if_pos rfl]
theorem Pc.both {a b:List RS} (ha:Pc a) (hb:Pc b):bothE (a.map spOf) (b.map spOf)=0:=by
 unfold bothE
 rw [ha.e,if_pos rfl,hb.e]
end Go.Pf.Vc
namespace Go.Pf.Vc
open Go Go.Pf
def sumO (v:RS→Rat):List RS→Rat→Option Rat
 | [],q=>some q
 | s::r,q=>if small (v s)∧small (q+v s) then sumO v r (q+v s) else none
def optK (o:Option Rat) (K:Int→Int→Int→Prop):Prop:=match o with | some q=>K q.num q.den 0 | none=>K 0 0 16
theorem yMC:small 0:=by decide +kernel
end Go.Pf.Vc
namespace Go.Pf.Vc
open Go Go.Pf
theorem nz (P Q:Prop):cbr ((0:Int) != 0) P Q=Q:=rfl
theorem ez (P Q:Prop):cbr ((0:Int) == 0) P Q=P:=rfl
end Go.Pf.Vc
namespace Go.Pf.Vc
open Go Go.Pf
def outW (w:(Int→Int→Int→Prop)→Prop) (t:Rat):Prop:=(∃ c,c≠0∧∀ K,w K=K 0 0 c)∨(small t∧∀ K,w K=K t.num t.den 0)
theorem outW.const {w:(Int→Int→Int→Prop)→Prop} {t:Rat} (h:outW w t) (P:Prop):w (fun _ _ _=>P)=P:=by
 rcases h with ⟨c,_,q⟩ | ⟨_,q⟩ <;> rw [q]
end Go.Pf.Vc
namespace Go.Pf.Vc
open Go Go.Pf
section
variable {len:Int} {cuts dens:List Int}
def uC (cuts:List Int) (i:Nat) (x:Rat):Rat:=minR (maxR x (cuts.getD i 0:Int)) (cuts.getD (i+1) 0:Int)
def vu (cuts dens:List Int) (x:Rat):Nat→Nat→Rat
 | 0,_=>0
 | r+1,i=>(dens.getD i 0:Int)*uC cuts i x+vu cuts dens x r (i+1)
theorem yF2 (h:VC len cuts dens):∀ (r i:Nat) {x y:Rat},i+r=dens.length→x≤(cuts.getD i 0:Int)→y≤(cuts.getD i 0:Int)→vu cuts dens x r i=vu cuts dens y r i
 | 0,_,_,_,_,_,_=>rfl
 | r+1,i,x,y,hi,hx,hy=>by
   have l1:=h.l1
   have hst:((cuts.getD i 0:Int):Rat)<((cuts.getD (i+1) 0:Int):Rat):=Rat.intCast_lt_intCast.2 (h.step (i:=i) (by omega))
   have ih:=yF2 h r (i+1) (x:=x) (y:=y) (by omega) (by grind) (by grind)
   unfold vu
   rw [ih]
   have e:uC cuts i x=uC cuts i y:=by
     unfold uC
     have a1:=yli x (cuts.getD i 0:Int)
     have a2:=yli y (cuts.getD i 0:Int)
     have e1:maxR x (cuts.getD i 0:Int)=(cuts.getD i 0:Int):=by grind
     have e2:maxR y (cuts.getD i 0:Int)=(cuts.getD i 0:Int):=by grind
     rw [e1,e2]
   rw [e]
theorem ym1 {α:Type} {q:Rat} {k:Rat→Except Int α} {v:α} (h:fit q k=.ok v):k q=.ok v:=by
 unfold fit at h
 split at h
 · exact h
 · cases h
theorem yw4 (h:VC len cuts dens) {b:Rat}:∀ (r i:Nat) (p sum v:Rat),i+r=dens.length→p≤b→(p=b∨((cuts.getD i 0:Int):Rat)≤p)→valS cuts dens b r i p sum=.ok v→v=sum+(vu cuts dens b r i-vu cuts dens p r i)
 | 0,i,p,sum,v,hi,hp,hc,hv=>by
   unfold valS at hv
   cases hv
   unfold vu
   grind
 | r+1,i,p,sum,v,hi,hp,hc,hv=>by
   have l1:=h.l1
   have hst:((cuts.getD i 0:Int):Rat)<((cuts.getD (i+1) 0:Int):Rat):=Rat.intCast_lt_intCast.2 (h.step (i:=i) (by omega))
   unfold valS at hv
   dsimp only at hv
   have hen:∃ en:Rat,(if b<((cuts.getD (i+1) 0:Int):Rat) then b else ((cuts.getD (i+1) 0:Int):Rat))=en∧en≤b∧en≤((cuts.getD (i+1) 0:Int):Rat)∧(en=b∨en=((cuts.getD (i+1) 0:Int):Rat)):=by
     refine ⟨_,rfl,?_⟩
     split <;> grind
   obtain ⟨en,e0,he1,he2,he3⟩:=hen
   rw [e0] at hv
   have low:=yF2 h r (i+1) (x:=en) (y:=p) (by omega)
   have m1:=yli b (cuts.getD i 0:Int)
   have m2:=yli p (cuts.getD i 0:Int)
   have n1:=ypg (maxR b (cuts.getD i 0:Int)) (cuts.getD (i+1) 0:Int)
   have n2:=ypg (maxR p (cuts.getD i 0:Int)) (cuts.getD (i+1) 0:Int)
   unfold vu uC
   generalize ((cuts.getD i 0:Int):Rat)=c0 at *
   generalize hc1:((cuts.getD (i+1) 0:Int):Rat)=c1 at *
   by_cases hlt:p<en
   · have hb:minR (maxR b c0) c1=en:=by grind
     have hq:minR (maxR p c0) c1=p:=by grind
     by_cases hd:dens.getD i 0=0
     · rw [if_pos (.inl hd),if_pos hlt] at hv
       have ih:=yw4 h r (i+1) en sum v (by omega) he1 (by rw [hc1];grind) hv
       rw [ih,hd,low (by grind) (by grind)]
       grind
     · rw [if_neg (by intro k;rcases k with k | k;exact hd k;exact k hlt)] at hv
       have hv:=ym1 (ym1 (ym1 hv))
       have ih:=yw4 h r (i+1) en _ v (by omega) he1 (by rw [hc1];grind) hv
       rw [ih,low (by grind) (by grind),hb,hq]
       grind
   · rw [if_pos (.inr hlt),if_neg hlt] at hv
     have ih:=yw4 h r (i+1) p sum v (by omega) hp (by rw [hc1];grind) hv
     have:minR (maxR b c0) c1=minR (maxR p c0) c1:=by grind
     rw [ih,this]
     grind
end
end Go.Pf.Vc
namespace Go.Pf.Vc
open Go Go.Pf
section
variable {len:Int} {cuts dens:List Int}
def vX (cuts dens:List Int) (x:Rat):Rat:=vu cuts dens x dens.length 0
theorem yLk (h:VC len cuts dens) {a b v:Rat} (h0:0≤a) (hab:a≤b) (hv:valC cuts dens a b=.ok v):v=vX cuts dens b-vX cuts dens a:=by
 have c0:cuts.getD 0 0=0:=h.2.2.2.2.2.1
 have:=yw4 h dens.length 0 a 0 v (by omega) hab (.inr (by rw [c0];exact h0)) hv
 unfold vX
 rw [this];grind
theorem yF3 (cuts dens:List Int) (b:Rat):∀ (r i:Nat) (p sum v:Rat),small sum→valS cuts dens b r i p sum=.ok v→small v:=by
 intro r
 induction r with
 | zero=>intro i p sum v hs e;unfold valS at e;cases e;exact hs
 | succ r ih =>
   intro i p sum v hs e
   unfold valS fit at e
   repeat' (first | split at e | dsimp only at e)
   all_goals first | exact ih _ _ _ _ hs e | (rename_i h;exact ih _ _ _ _ h e) | cases e
end
end Go.Pf.Vc
namespace Go.Pf.Vc
open Go Go.Pf
abbrev Rl:Type:=Nat×Nat×Int
def hAt (h:List Int) (i:Nat):Int:=h.getD i 0
def relax (r:Rl) (h:List Int):List Int:=if hAt h r.1+r.2.2>hAt h r.2.1 then h.set r.2.1 (hAt h r.1+r.2.2) else h
def pass (R:List Rl) (h:List Int):List Int:=R.foldl (fun h r=>relax r h) h
def leH (h x:List Int):Prop:=∀ i,hAt h i≤hAt x i
def rOk (R:List Rl) (k:Nat):Prop:=∀ r∈R,r.1<k∧r.2.1<k
def obeys (R:List Rl) (x:List Int):Prop:=∀ r∈R,hAt x r.1+r.2.2≤hAt x r.2.1
structure Sol (R:List Rl) (k:Nat) (x:List Int):Prop where
 len:x.length=k
 pos:∀ i,0≤hAt x i
 ob:obeys R x
theorem yCj {h:List Int} {j i:Nat} {v:Int} (hj:j<h.length):hAt (h.set j v) i=if i=j then v else hAt h i:=by
 unfold hAt
 rw [List.getD_eq_getElem?_getD,List.getD_eq_getElem?_getD,List.getElem?_set]
 by_cases e:j=i
 · subst e;simp [hj]
 · rw [if_neg e,if_neg (fun q=>e q.symm)]
theorem yh7 (r:Rl) (h:List Int):(relax r h).length=h.length:=by unfold relax;split <;> simp
theorem yuJ {r:Rl} {h:List Int} (hr:r.2.1<h.length) (i:Nat):hAt (relax r h) i=if i=r.2.1 then max (hAt h i) (hAt h r.1+r.2.2) else hAt h i:=by
 unfold relax
 split
 · rename_i hg
   rw [yCj hr]
   split
   · rename_i e;subst e;omega
   · rfl
 · split
   · rename_i e;subst e;omega
   · rfl
theorem yD9 {r:Rl} {h:List Int} (hr:r.2.1<h.length):leH h (relax r h):=by
 intro i
 rw [yuJ hr]
 split <;> omega
theorem yJI {r:Rl} {h x:List Int} (hr:r.2.1<h.length) (hx:leH h x) (ho:hAt x r.1+r.2.2≤hAt x r.2.1):leH (relax r h) x:=by
 intro i
 rw [yuJ hr]
 have h1:=hx i
 have h2:=hx r.1
 split
 · rename_i e;subst e;omega
 · exact h1
theorem leH.refl (h:List Int):leH h h:=fun _=>Int.le_refl _
theorem leH.trans {a b c:List Int} (h:leH a b) (k:leH b c):leH a c:=fun i=>Int.le_trans (h i) (k i)
theorem leH.anti {a b:List Int} (hl:a.length=b.length) (h:leH a b) (k:leH b a):a=b:=by
 apply List.ext_getElem hl
 intro i h1 h2
 have e1:=h i
 have e2:=k i
 unfold hAt at e1 e2
 rw [List.getD_eq_getElem?_getD,List.getD_eq_getElem?_getD,List.getElem?_eq_getElem h1,List.getElem?_eq_getElem h2] at e1 e2
 simp only [Option.getD_some] at e1 e2
 omega
theorem yJJ (h:List Int):pass [] h=h:=rfl
theorem ylo (r:Rl) (R:List Rl) (h:List Int):pass (r::R) h=pass R (relax r h):=rfl
theorem yEa (R S:List Rl) (h:List Int):pass (R++S) h=pass S (pass R h):=List.foldl_append
theorem ygG:∀ (R:List Rl) (h:List Int),(pass R h).length=h.length
 | [],h=>rfl
 | r::R,h=>by rw [ylo,ygG R,yh7]
theorem rOk.tail {r:Rl} {R:List Rl} {k:Nat} (h:rOk (r::R) k):rOk R k:=fun q hq=>h q (List.mem_cons_of_mem _ hq)
theorem ym2:∀ (R:List Rl) (h:List Int),rOk R h.length→leH h (pass R h)
 | [],h,_=>leH.refl h
 | r::R,h,ho=>by
   rw [ylo]
   exact (yD9 (ho r List.mem_cons_self).2).trans (ym2 R (relax r h) (by rw [yh7];exact ho.tail))
theorem yCk {x:List Int}:∀ (R:List Rl) (h:List Int),rOk R h.length→leH h x→obeys R x→leH (pass R h) x
 | [],h,_,hx,_=>hx
 | r::R,h,ho,hx,hb=>by
   rw [ylo]
   exact yCk R _ (by rw [yh7];exact ho.tail) (yJI (ho r List.mem_cons_self).2 hx (hb r List.mem_cons_self)) fun q hq=>hb q (List.mem_cons_of_mem _ hq)
theorem yvN:∀ (R:List Rl) (h:List Int),rOk R h.length→∀ r∈R,hAt h r.1+r.2.2≤hAt (pass R h) r.2.1
 | [],_,_,r,hr=>by cases hr
 | q::R,h,ho,r,hr=>by
   rw [ylo]
   have h1:=yD9 (ho q List.mem_cons_self).2
   have ho':rOk R (relax q h).length:=by rw [yh7];exact ho.tail
   rcases List.mem_cons.1 hr with rfl | hr
   · have h2:=yuJ (ho r List.mem_cons_self).2 r.2.1
     rw [if_pos rfl] at h2
     have h3:=ym2 R _ ho' r.2.1
     omega
   · have h2:=yvN R _ ho' r hr
     have h3:=h1 r.1
     omega
theorem yqK {R:List Rl} {h:List Int} (ho:rOk R h.length):pass R h=h↔obeys R h:=by
 constructor
 · intro e r hr
   have:=yvN R h ho r hr
   rw [e] at this
   exact this
 · intro hb
   exact leH.anti (ygG R h) (yCk R h ho (leH.refl h) hb) (ym2 R h ho)
theorem yqL {R:List Rl} {k:Nat} {h x:List Int} (ho:rOk R k) (hl:h.length=k) (hs:Sol R k x) (hx:leH h x):leH (pass R h) x:=yCk R h (by rw [hl];exact ho) hx hs.ob
def iterR (R:List Rl):Nat→List Int→Option (List Int)
 | 0,_=>none
 | n+1,h=>if pass R h=h then some h else iterR R n (pass R h)
theorem yq3 {R:List Rl} {k:Nat} (ho:rOk R k):∀ (n:Nat) (h g:List Int),h.length=k→(∀ i,0≤hAt h i)→iterR R n h=some g→Sol R k g∧leH h g∧∀ x,Sol R k x→leH h x→leH g x
 | 0,_,_,_,_,e=>by cases e
 | n+1,h,g,hl,hp,e=>by
   unfold iterR at e
   split at e
   · rename_i hf
     cases e
     exact ⟨⟨hl,hp,(yqK (by rw [hl];exact ho)).1 hf⟩,leH.refl _,fun _ _ hx=>hx⟩
   · have hge:=ym2 R h (by rw [hl];exact ho)
     obtain ⟨h1,h2,h3⟩:=yq3 ho n (pass R h) g (by rw [ygG];exact hl) (fun i=>Int.le_trans (hp i) (hge i)) e
     exact ⟨h1,hge.trans h2,fun x hs hx=>h3 x hs (yqL ho hl hs hx)⟩
def zeros (k:Nat):List Int:=List.replicate k 0
theorem ydO (k i:Nat):hAt (zeros k) i=0:=by
 unfold hAt zeros
 rw [List.getD_eq_getElem?_getD,List.getElem?_replicate]
 split <;> rfl
def below (k:Nat) (h x:List Int):Nat:=(List.range k).countP fun i=>decide (hAt h i<hAt x i)
theorem countP_lt {α:Type} {p q:α→Bool}:∀ {l:List α},(∀ a∈l,p a=true→q a=true)→(∃ a∈l,q a=true∧p a=false)→l.countP p<l.countP q
 | [],_,⟨_,h,_⟩=>by cases h
 | b::l,h1,⟨a,ha,hq,hp⟩=>by
   have hle:l.countP p≤l.countP q:=List.countP_mono_left fun c hc=>h1 c (List.mem_cons_of_mem _ hc)
   rw [List.countP_cons,List.countP_cons]
   rcases List.mem_cons.1 ha with rfl | ha
   · rw [hp,hq];simp;omega
   · have:=countP_lt (fun c hc=>h1 c (List.mem_cons_of_mem _ hc)) ⟨a,ha,hq,hp⟩
     have hb:=h1 b List.mem_cons_self
     cases hpb:p b with
     | false=>simp;split <;> omega
     | true=>rw [hb hpb];simp;omega
theorem yyH {k:Nat} {h x:List Int} (h1:h.length=k) (h2:x.length=k) (hx:leH h x) (e:below k h x=0):h=x:=by
 refine leH.anti (h1.trans h2.symm) hx fun i=>?_
 unfold below at e
 rw [List.countP_eq_zero] at e
 by_cases hi:i<k
 · have:=e i (List.mem_range.2 hi)
   simp at this
   exact this
 · unfold hAt
   rw [List.getD_eq_getElem?_getD,List.getD_eq_getElem?_getD,List.getElem?_eq_none (by omega),List.getElem?_eq_none (by omega)]
   exact Int.le_refl _
theorem yF4 {R:List Rl} {k:Nat} {h s:List Int} (ho:rOk R k) (hl:h.length=k) (hp:∀ i,0≤hAt h i) (hs:Sol R k s) (hx:leH h s) (least:∀ x,Sol R k x→leH s x) (hb:below k h s≠0):below k (pass R h) s<below k h s:=by
 have hle:=yqL ho hl hs hx
 have hge:=ym2 R h (by rw [hl];exact ho)
 have hex:∃ i,i<k∧hAt h i<hAt s i:=by
   have:0<below k h s:=by omega
   unfold below at this
   rw [List.countP_pos_iff] at this
   obtain ⟨i,h1,h2⟩:=this
   exact ⟨i,List.mem_range.1 h1,by simpa using h2⟩
 let t:List Int:=(List.range k).map fun i=>if hAt h i<hAt s i then hAt s i-1 else hAt s i
 have tl:t.length=k:=by simp [t]
 have tat:∀ i,i<k→hAt t i=if hAt h i<hAt s i then hAt s i-1 else hAt s i:=by
   intro i hi
   unfold hAt
   rw [List.getD_eq_getElem?_getD]
   simp only [t,List.getElem?_map,List.getElem?_range hi,Option.map_some,Option.getD_some]
   rfl
 have tno:¬Sol R k t:=by
   intro hst
   obtain ⟨i,hi,h1⟩:=hex
   have h2:=least t hst i
   rw [tat i hi,if_pos h1] at h2
   omega
 have tpos:∀ i,0≤hAt t i:=by
   intro i
   by_cases hi:i<k
   · rw [tat i hi]
     have h1:=hp i
     have h2:=hs.pos i
     split <;> omega
   · unfold hAt
     rw [List.getD_eq_getElem?_getD,List.getElem?_eq_none (by omega)]
     exact Int.le_refl _
 have:∃ r∈R,hAt t r.2.1<hAt t r.1+r.2.2:=by
   refine Classical.byContradiction fun hn=>tno ⟨tl,tpos,fun r hr=>?_⟩
   refine Int.not_lt.1 fun hlt=>hn ⟨r,hr,hlt⟩
 obtain ⟨r,hr,hlt⟩:=this
 have hob:=hs.ob r hr
 obtain ⟨hr1,hr2⟩:=ho r hr
 rw [tat _ hr1,tat _ hr2] at hlt
 have hgain:=yvN R h (by rw [hl];exact ho) r hr
 have hs1:=hx r.1
 refine countP_lt (fun i _ hi=>?_) ⟨r.2.1,List.mem_range.2 hr2,?_,?_⟩
 · have h1:=hge i
   simp only [decide_eq_true_eq] at hi ⊢
   omega
 · simp only [decide_eq_true_eq]
   split at hlt <;> split at hlt <;> omega
 · simp only [decide_eq_false_iff_not,Int.not_lt]
   split at hlt <;> split at hlt <;> omega
theorem yG5:∀ {l:List Nat} {a:Nat},a∈l→a≤l.sum
 | [],_,h=>by cases h
 | b::l,a,h=>by
   rw [List.sum_cons]
   rcases List.mem_cons.1 h with rfl | h
   · omega
   · have:=yG5 h;omega
theorem yId {R:List Rl} {k:Nat} (ho:rOk R k) {x:List Int} (hs:Sol R k x):∀ (m:Nat) (h:List Int),h.length=k→(∀ i,0≤hAt h i)→leH h x→((List.range k).map fun i=>(hAt x i-hAt h i).toNat).sum≤m→∃ n g,iterR R n h=some g:=by
 intro m
 induction m with
 | zero =>
   intro h hl hp hx hm
   refine ⟨1,h,?_⟩
   unfold iterR
   rw [if_pos]
   have e:h=x:=by
     refine leH.anti (hl.trans hs.len.symm) hx fun i=>?_
     by_cases hi:i<k
     · have h1:(hAt x i-hAt h i).toNat∈(List.range k).map fun i=>(hAt x i-hAt h i).toNat:=List.mem_map.2 ⟨i,List.mem_range.2 hi,rfl⟩
       have h2:=yG5 h1
       omega
     · unfold hAt
       rw [List.getD_eq_getElem?_getD,List.getD_eq_getElem?_getD,List.getElem?_eq_none (by have:=hs.len;omega),List.getElem?_eq_none (by omega)]
       exact Int.le_refl _
   rw [e]
   exact (yqK (by rw [hs.len];exact ho)).2 hs.ob
 | succ m ih =>
   intro h hl hp hx hm
   by_cases hf:pass R h=h
   · exact ⟨1,h,by unfold iterR;rw [if_pos hf]⟩
   · have hge:=ym2 R h (by rw [hl];exact ho)
     have hle:=yqL ho hl hs hx
     have hne:∃ i,i<k∧hAt h i<hAt (pass R h) i:=by
       refine Classical.byContradiction fun hn=>hf (leH.anti (ygG R h) (fun i=>?_) hge)
       by_cases hi:i<k
       · exact Int.not_lt.1 fun hlt=>hn ⟨i,hi,hlt⟩
       · unfold hAt
         rw [List.getD_eq_getElem?_getD,List.getD_eq_getElem?_getD,List.getElem?_eq_none (by rw [ygG];omega),List.getElem?_eq_none (by omega)]
         exact Int.le_refl _
     obtain ⟨j,hj,hlt⟩:=hne
     have key:∀ (l:List Nat),j∈l→(l.map fun i=>(hAt x i-hAt (pass R h) i).toNat).sum<(l.map fun i=>(hAt x i-hAt h i).toNat).sum:=by
       intro l
       induction l with
       | nil=>intro h;cases h
       | cons a l ihl =>
         intro hm
         simp only [List.map_cons,List.sum_cons]
         have g1:=hge a
         have hle2:(l.map fun i=>(hAt x i-hAt (pass R h) i).toNat).sum≤(l.map fun i=>(hAt x i-hAt h i).toNat).sum:=by
           clear hm ihl
           induction l with
           | nil=>exact Nat.le_refl _
           | cons b l ih2=>simp only [List.map_cons,List.sum_cons];have:=hge b;omega
         rcases List.mem_cons.1 hm with e | hm
         · subst e
           have g2:=hle j
           omega
         · have:=ihl hm
           omega
     have:=key (List.range k) (List.mem_range.2 hj)
     obtain ⟨n,g,e⟩:=ih (pass R h) (by rw [ygG];exact hl) (fun i=>Int.le_trans (hp i) (hge i)) hle (by omega)
     exact ⟨n+1,g,by unfold iterR;rw [if_neg hf];exact e⟩
theorem yEb {R:List Rl} {k:Nat} (ho:rOk R k) {s:List Int} (hs:Sol R k s) (least:∀ x,Sol R k x→leH s x):∀ (n:Nat) (h:List Int),h.length=k→(∀ i,0≤hAt h i)→leH h s→below k h s≤n→iterR R (n+1) h=some s
 | 0,h,hl,_,hx,hb=>by
   have e:=yyH hl hs.len hx (by omega)
   subst e
   unfold iterR
   rw [if_pos ((yqK (by rw [hl];exact ho)).2 hs.ob)]
 | n+1,h,hl,hp,hx,hb=>by
   unfold iterR
   by_cases hf:pass R h=h
   · rw [if_pos hf]
     have hsol:Sol R k h:=⟨hl,hp,(yqK (by rw [hl];exact ho)).1 hf⟩
     rw [leH.anti (hl.trans hs.len.symm) hx (least h hsol)]
   · rw [if_neg hf]
     have hge:=ym2 R h (by rw [hl];exact ho)
     refine yEb ho hs least n (pass R h) (by rw [ygG];exact hl) (fun i=>Int.le_trans (hp i) (hge i)) (yqL ho hl hs hx) ?_
     by_cases h0:below k h s=0
     · have e:=yyH hl hs.len hx h0
       exact absurd ((yqK (by rw [hl];exact ho)).2 (by rw [e];exact hs.ob)) hf
     · have:=yF4 ho hl hp hs hx least h0
       omega
def bf (R:List Rl) (k:Nat):Option (List Int):=iterR R (k+1) (zeros k)
theorem ybX (k:Nat):(zeros k).length=k:=by simp [zeros]
theorem yuK {R:List Rl} {k:Nat} {x:List Int} (hs:Sol R k x):leH (zeros k) x:=fun i=>by rw [ydO];exact hs.pos i
theorem yCl {R:List Rl} {k:Nat} (ho:rOk R k) {g:List Int} (e:bf R k=some g):Sol R k g∧∀ x,Sol R k x→leH g x:=by
 obtain ⟨h1,_,h3⟩:=yq3 ho _ _ _ (ybX k) (fun i=>by rw [ydO];exact Int.le_refl _) e
 exact ⟨h1,fun x hx=>h3 x hx (yuK hx)⟩
theorem bf_of {R:List Rl} {k:Nat} (ho:rOk R k) {x:List Int} (hs:Sol R k x):∃ g,bf R k=some g:=by
 obtain ⟨n,g,e⟩:=yId ho hs _ (zeros k) (ybX k) (fun i=>by rw [ydO];exact Int.le_refl _) (yuK hs) (Nat.le_refl _)
 obtain ⟨h1,_,h3⟩:=yq3 ho _ _ _ (ybX k) (fun i=>by rw [ydO];exact Int.le_refl _) e
 refine ⟨g,yEb ho h1 (fun x hx=>h3 x hx (yuK hx)) k (zeros k) (ybX k) (fun i=>by rw [ydO];exact Int.le_refl _) (yuK h1) ?_⟩
 unfold below
 have:=List.countP_le_length (p:=fun i=>decide (hAt (zeros k) i<hAt g i)) (l:=List.range k)
 rw [List.length_range] at this
 exact this
def iterP (R:List Rl):Nat→List Int→Option (List Int)
 | 0,_=>none
 | n+1,h=>if hAt (pass R h) 0>0 then none else if pass R h=h then some (pass R h) else iterP R n (pass R h)
theorem ys4 {R:List Rl}:∀ (n:Nat) (h g:List Int),iterP R n h=some g→iterR R n h=some g∧hAt g 0≤0
 | 0,_,_,e=>by cases e
 | n+1,h,g,e=>by
   unfold iterP at e
   unfold iterR
   split at e
   · cases e
   · rename_i h0
     split at e
     · rename_i hf
       rw [if_pos hf]
       cases e
       exact ⟨by rw [hf],by omega⟩
     · rename_i hf
       rw [if_neg hf]
       exact ys4 n _ g e
theorem yEc {R:List Rl} {k:Nat} (ho:rOk R k):∀ (n:Nat) (h g:List Int),h.length=k→(∀ i,0≤hAt h i)→iterR R n h=some g→hAt g 0≤0→iterP R n h=some g
 | 0,_,_,_,_,e,_=>by cases e
 | n+1,h,g,hl,hp,e,h0=>by
   have hge:=ym2 R h (by rw [hl];exact ho)
   obtain ⟨hs,hle,_⟩:=yq3 ho _ _ _ hl hp e
   have h1:=yqL ho hl hs hle 0
   unfold iterR at e
   unfold iterP
   rw [if_neg (by omega)]
   split at e
   · rename_i hf;rw [if_pos hf,hf];exact e
   · rename_i hf
     rw [if_neg hf]
     exact yEc ho n _ g (by rw [ygG];exact hl) (fun i=>Int.le_trans (hp i) (hge i)) e h0
def bf0 (R:List Rl) (k:Nat):Option (List Int):=match bf R k with | some g=>if hAt g 0=0 then some g else none | none=>none
theorem yIe {R:List Rl} {k:Nat} (ho:rOk R k):iterP R (k+1) (zeros k)=bf0 R k:=by
 unfold bf0
 have hz:∀ i,0≤hAt (zeros k) i:=fun i=>by rw [ydO];exact Int.le_refl _
 cases e:bf R k with
 | some g =>
   dsimp only
   obtain ⟨hs,_⟩:=yCl ho e
   have h0:=hs.pos 0
   by_cases hg:hAt g 0=0
   · rw [if_pos hg]
     exact yEc ho _ _ g (ybX k) hz e (by omega)
   · rw [if_neg hg]
     cases e2:iterP R (k+1) (zeros k) with
     | none=>rfl
     | some g2 =>
       obtain ⟨h1,h2⟩:=ys4 _ _ _ e2
       rw [show iterR R (k+1) (zeros k)=bf R k from rfl,e] at h1
       cases h1
       omega
 | none =>
   dsimp only
   cases e2:iterP R (k+1) (zeros k) with
   | none=>rfl
   | some g2 =>
     obtain ⟨h1,_⟩:=ys4 _ _ _ e2
     rw [show iterR R (k+1) (zeros k)=bf R k from rfl,e] at h1
     cases h1
end Go.Pf.Vc
namespace Go.Pf.Vc
open Go Go.Pf
def frQ (y:Rat):Rat:=y-(y.floor:Rat)
def rkQ (ys:List Rat) (t:Rat):Nat:=ys.countP fun z=>decide (frQ z<t)
def htQ (ys:List Rat) (y:Rat):Int:=((ys.length:Int)+1)*y.floor+rkQ ys (frQ y)
theorem yG6 {ys:List Rat} {y:Rat} (h:y∈ys):rkQ ys (frQ y)+1≤ys.length:=by
 have h1:ys.countP (fun z=>decide (frQ z<frQ y))<ys.countP (fun _=>true) :=
   countP_lt (fun _ _ _=>rfl) ⟨y,h,rfl,by simp⟩
 have h2:ys.countP (fun _=>true)=ys.length:=by simp
 unfold rkQ
 omega
theorem yMD (ys:List Rat) {t u:Rat} (h:t≤u):rkQ ys t≤rkQ ys u :=
 List.countP_mono_left fun z _ hz=>by
   simp only [decide_eq_true_eq] at hz ⊢
   grind
theorem yME {ys:List Rat} {y:Rat} {u:Rat} (hy:y∈ys) (h:frQ y<u):rkQ ys (frQ y)+1≤rkQ ys u :=
 countP_lt (fun z _ hz=>by
   simp only [decide_eq_true_eq] at hz ⊢
   grind) ⟨y,hy,by simpa using h,by simp⟩
theorem yEd {s a b:Int} (hs:0≤s) (h:a+1≤b):s*a+s≤s*b:=by
 have:=Int.mul_le_mul_of_nonneg_left h hs
 rw [Int.mul_add,Int.mul_one] at this
 exact this
theorem yMF {ys:List Rat} {y z:Rat} (hy:y∈ys) (h:y≤z):htQ ys y≤htQ ys z:=by
 have h1:=Rat.floor_monotone h
 have h2:=yG6 hy
 unfold htQ
 by_cases e:y.floor=z.floor
 · have h3:=yMD ys (t:=frQ y) (u:=frQ z) (by unfold frQ;rw [e];grind)
   rw [e];omega
 · have:=yEd (s:=(ys.length:Int)+1) (by omega) (show y.floor+1≤z.floor by omega)
   omega
theorem yMG {ys:List Rat} {y z:Rat} (hy:y∈ys) (h:y<z):htQ ys y+1≤htQ ys z:=by
 have h1:=Rat.floor_monotone (show y≤z by grind)
 have h2:=yG6 hy
 unfold htQ
 by_cases e:y.floor=z.floor
 · have h3:=yME (u:=frQ z) hy (by unfold frQ;rw [e];grind)
   rw [e];omega
 · have:=yEd (s:=(ys.length:Int)+1) (by omega) (show y.floor+1≤z.floor by omega)
   omega
theorem yLl (ys:List Rat) (y:Rat) (d:Int):htQ ys (y+(d:Rat))=htQ ys y+((ys.length:Int)+1)*d:=by
 have e:(y+(d:Rat)).floor=y.floor+d:=Rat.floor_add_intCast
 have e2:frQ (y+(d:Rat))=frQ y:=by
   unfold frQ
   rw [e,Rat.intCast_add]
   grind
 unfold htQ
 rw [e,e2,Int.mul_add]
 omega
theorem yJK {ys:List Rat}:htQ ys 0=0:=by
 have e:(0:Rat).floor=0:=Rat.floor_intCast 0
 have e2:frQ 0=0:=by unfold frQ;rw [e];grind
 have h:rkQ ys 0=0:=by
   unfold rkQ
   rw [List.countP_eq_zero]
   intro z _
   have:=Rat.floor_le z
   simp only [decide_eq_true_eq]
   unfold frQ
   grind
 unfold htQ
 rw [e,e2,h]
 simp
def ruleOk (ys:List Rat) (r:Rl):Prop :=
 (∃ d:Int,ys.getD r.2.1 0=ys.getD r.1 0+(d:Rat)∧r.2.2=((ys.length:Int)+1)*d)∨(ys.getD r.1 0≤ys.getD r.2.1 0∧r.2.2=0)∨(ys.getD r.1 0<ys.getD r.2.1 0∧r.2.2=1)
theorem yw5 {ys:List Rat} {f:Rat→Int} {i:Nat} (hi:i<ys.length):hAt (ys.map f) i=f (ys.getD i 0):=by
 unfold hAt
 rw [List.getD_eq_getElem?_getD,List.getD_eq_getElem?_getD,List.getElem?_map,List.getElem?_eq_getElem hi]
 rfl
theorem yyI {ys:List Rat} {i:Nat} (hi:i<ys.length):ys.getD i 0∈ys:=by
 rw [List.getD_eq_getElem?_getD,List.getElem?_eq_getElem hi]
 exact List.getElem_mem hi
theorem yF5 {ys:List Rat} {R:List Rl} (ho:rOk R ys.length) (hr:∀ r∈R,ruleOk ys r) (hp:∀ y∈ys,0≤y):Sol R ys.length (ys.map (htQ ys)) where
 len:=by simp
 pos:=by
   intro i
   by_cases hi:i<ys.length
   · rw [yw5 hi]
     have hm:=yyI hi
     have h0:(0:Int)≤(ys.getD i 0).floor:=by
       rw [Rat.le_floor_iff]
       exact hp _ hm
     unfold htQ
     have:=Int.mul_nonneg (show 0≤(ys.length:Int)+1 by omega) h0
     omega
   · unfold hAt
     rw [List.getD_eq_getElem?_getD,List.getElem?_eq_none (by rw [List.length_map];omega)]
     exact Int.le_refl _
 ob:=by
   intro r h
   obtain ⟨h1,h2⟩:=ho r h
   rw [yw5 h1,yw5 h2]
   rcases hr r h with ⟨d,e1,e2⟩ | ⟨e1,e2⟩ | ⟨e1,e2⟩
   · rw [e1,e2,yLl];exact Int.le_refl _
   · have:=yMF (yyI h1) e1
     omega
   · have:=yMG (yyI h1) e1
     omega
theorem yF6 {ys:List Rat} {R:List Rl} (ho:rOk R ys.length) (hr:∀ r∈R,ruleOk ys r) (hp:∀ y∈ys,0≤y) (h0:ys.getD 0 0=0):∃ g,bf0 R ys.length=some g:=by
 have hs:=yF5 ho hr hp
 obtain ⟨g,e⟩:=bf_of ho hs
 obtain ⟨h1,h2⟩:=yCl ho e
 refine ⟨g,?_⟩
 unfold bf0
 rw [e]
 dsimp only
 rw [if_pos]
 have h3:=h2 _ hs 0
 have h4:=h1.pos 0
 have h5:hAt (ys.map (htQ ys)) 0=0:=by
   by_cases hl:0<ys.length
   · rw [yw5 hl,h0,yJK]
   · unfold hAt
     rw [List.getD_eq_getElem?_getD,List.getElem?_eq_none (by rw [List.length_map];omega)]
     rfl
 omega
theorem yyJ {R:List Rl} {k:Nat} (ho:rOk R k) {g:List Int} (e:bf0 R k=some g):Sol R k g∧hAt g 0=0∧∀ x,Sol R k x→leH g x:=by
 unfold bf0 at e
 split at e
 · rename_i g' e'
   split at e
   · rename_i h0
     cases e
     obtain ⟨h1,h2⟩:=yCl ho e'
     exact ⟨h1,h0,h2⟩
   · cases e
 · cases e
end Go.Pf.Vc
namespace Go.Pf.Vc
open Go Go.Pf
structure Cm where
 f:Rat
 t:Rat
 v:Rat
 m:Bool
instance:Inhabited Cm:=⟨⟨0,0,0,false⟩⟩
def encCm (c:Cm):PV:=.agg [.int .i64 c.f.num,.int .i64 c.f.den,.int .i64 c.t.num,.int .i64 c.t.den,.int .i64 c.v.num,.int .i64 c.v.den,.bool c.m]
def Qy.i64 (q:Qy):Prop:=I64 q.an∧I64 q.ad∧I64 q.bn∧I64 q.bd∧I64 q.cn∧I64 q.cd
theorem ygZ {a b c d:Int} (h:RV a b) (k:RV c d) (K:Int→Prop):yaf a b c d K=K (cmpQ (rt a b) (rt c d)):=by
 obtain ⟨h1,h2,h3⟩:=rt_of h
 obtain ⟨k1,k2,k3⟩:=rt_of k
 unfold yaf yma
 have:=yGZ h1 k1 (fun x _=>K x)
 rw [h2,h3,k2,k3] at this
 rw [this]
def posR (a b:Int):Bool:=decide (RV a b)&&decide (0≤a)
theorem yJL {a b:Int} (ha:I64 a) (hb:I64 b) (J:Bool→Prop):yal a b (fun y=>cbr (y != 0) (J true) (J (decide (a<0))))=J (!posR a b):=by
 rw [ynY ha hb]
 unfold posR
 by_cases h:RV a b
 · rw [show chk a b=0 from if_pos h,nz,decide_eq_true h,Bool.true_and]
   congr 1
   rw [Bool.eq_iff_iff]
   simp only [decide_eq_true_eq,Bool.not_eq_true',decide_eq_false_iff_not]
   omega
 · rw [show chk a b=8 from if_neg h,decide_eq_false h]
   rfl
theorem yF7 {a b:Int} (ha:I64 a) (hb:I64 b) (F:Bool→Prop):Go.Pf.jn (fun J:Bool→Prop=>yal a b (fun y=>cbr (y !=(0:Int)) (J true) (J (decide (a<(0:Int)))))) F=F (!posR a b):=yJL ha hb F
def twoP (n:Int) (a b c d:Int):Bool:=decide (rt a b≤rt c d)&&decide (rt c d≤(n:Rat))
def qOk (n:Int) (q:Qy):Bool:=posR q.an q.ad&&(posR q.bn q.bd&&(posR q.cn q.cd&&(if q.kind=1 then twoP n q.an q.ad q.bn q.bd else if q.kind=2 then twoP n q.an q.ad q.cn q.cd else false)))
def cmOf (q:Qy):Cm:=if q.kind=1 then ⟨rt q.an q.ad,rt q.bn q.bd,rt q.cn q.cd,false⟩ else ⟨rt q.an q.ad,rt q.cn q.cd,rt q.bn q.bd,true⟩
theorem yCm {x0:List PV→Int→Int→Int→Int→Int→Int→Int→Int→Int→Int→Int→Int→Int→Int→Int→Bool→Int→Int→Bool→Prop} {x1:List PV→Int→Int→Int→Int→Int→Int→Bool→Bool→Prop}
   {a1 b1 a2 b2 a3 b3:Int} (h1:I64 a1) (k1:I64 b1) (h2:I64 a2) (k2:I64 b2) (h3:I64 a3) (k3:I64 b3) (i1 i2 i3 i4 i5 i6 i7 i8 i9 i10 i11 i12 i13 i14 i15:Int) (b:Bool) :
   ya1 yal yaf yap x0 x1 4 [.agg [.int .i64 a1,.int .i64 b1],.agg [.int .i64 a2,.int .i64 b2],.agg [.int .i64 a3,.int .i64 b3]] i1 i2 i3 i4 i5 i6 i7 i8 i9 i10 i11 i12 i13 i14 i15 b 3 0 =
     if posR a1 b1&&(posR a2 b2&&posR a3 b3) then x0 [.agg [.int .i64 a1,.int .i64 b1],.agg [.int .i64 a2,.int .i64 b2],.agg [.int .i64 a3,.int .i64 b3]] i1 i2 i3 i4 i5 i6 i7 i8 i9 i10 i11 i12 i13 i14 i15 b 3 3 false
     else x1 [.agg [.int .i64 a1,.int .i64 b1],.agg [.int .i64 a2,.int .i64 b2],.agg [.int .i64 a3,.int .i64 b3]] 0 0 0 0 0 0 false false:=by
 have e0:IntKind.i64.wrap ((0:Int)+1)=1:=by decide
 have e1:IntKind.i64.wrap ((1:Int)+1)=2:=by decide
 have e2:IntKind.i64.wrap ((2:Int)+1)=3:=by decide
 generalize hr:([.agg [.int .i64 a1,.int .i64 b1],.agg [.int .i64 a2,.int .i64 b2],.agg [.int .i64 a3,.int .i64 b3]]:List PV)=rows
 have hl:rows.length=3:=by rw [← hr];rfl
 have d0:List.getD rows (0+(0:Int).toNat) .nils=.agg [.int .i64 a1,.int .i64 b1]:=by rw [← hr];rfl
 have d1:List.getD rows (0+(1:Int).toNat) .nils=.agg [.int .i64 a2,.int .i64 b2]:=by rw [← hr];rfl
 have d2:List.getD rows (0+(2:Int).toNat) .nils=.agg [.int .i64 a3,.int .i64 b3]:=by rw [← hr];rfl
 have cw:∀ (a b:Int) (P:Prop),asr (conf (.agg [.i .i64,.i .i64]) (.agg [.int .i64 a,.int .i64 b])) P=P:=fun _ _ _=>rfl
 have c0:∀ a b:Int,intOfV (cellAt (.agg [.int .i64 a,.int .i64 b]) 0)=a:=fun _ _=>rfl
 have c1:∀ a b:Int,intOfV (cellAt (.agg [.int .i64 a,.int .i64 b]) 1)=b:=fun _ _=>rfl
 rw [ya1]
 dsimp only [lt]
 simp (discharger:=omega) only [hl,d0,cw,c0,c1,cbT,asT,e0,decide_true,yat,Bool.and_self]
 rw [yF7 h1 k1]
 cases posR a1 b1 with
 | false=>rfl
 | true =>
   rw [Bool.not_true,yaa,ya1]
   dsimp only [lt]
   simp (discharger:=omega) only [hl,d1,cw,c0,c1,cbT,asT,e1,decide_true,yat,Bool.and_self]
   rw [yF7 h2 k2]
   cases posR a2 b2 with
   | false=>rfl
   | true =>
     rw [Bool.not_true,yaa,ya1]
     dsimp only [lt]
     simp (discharger:=omega) only [hl,d2,cw,c0,c1,cbT,asT,e2,decide_true,yat,Bool.and_self]
     rw [yF7 h3 k3]
     cases posR a3 b3 with
     | false=>rfl
     | true =>
       rw [Bool.not_true,yaa,ya1,cbF (by decide)]
       rfl
theorem yq4 (n:Int) (K:Int→Int→Prop):yap n K=K (n:Rat).num (n:Rat).den:=rfl
theorem ykg {a b:Int} (h:posR a b=true):RV a b∧0≤a:=by
 unfold posR at h
 simpa using h
theorem ys5 {n:Int} (h1:-1000000000000000000≤n) (h2:n≤1000000000000000000):small (n:Rat):=⟨h1,h2,by show ((1:Nat):Int)≤_;omega⟩
theorem yEe {n a b c d:Int} (hn:small (n:Rat)) (h:RV a b) (k:RV c d) (J:Bool→Prop) :
   yaf a b c d (fun y=>cbr (decide (y≤0)) (yap n (fun x z=>yaf c d x z (fun u=>J (decide (u≤0))))) (J false))=J (twoP n a b c d):=by
 rw [ygZ h k,yCi]
 have hw:RV (n:Rat).num (n:Rat).den:=hn.rv
 rw [yq4,ygZ k hw,yCi,ydT]
 unfold twoP
 rw [show decide (rt a b≤rt c d)=!decide (rt c d<rt a b) by rw [← decide_not];simp [Rat.not_lt],show decide (rt c d≤(n:Rat))=!decide ((n:Rat)<rt c d) by rw [← decide_not];simp [Rat.not_lt]]
 cases decide (rt c d<rt a b) <;> rfl
theorem yyK {n ag k an ad bn bd cn cd:Int} (h1:I64 an) (h2:I64 ad) (h3:I64 bn) (h4:I64 bd) (h5:I64 cn) (h6:I64 cd) (hn:small (n:Rat)) (K:Int→Int→Int→Int→Int→Int→Bool→Bool→Prop) :
   yaT n ag k an ad bn bd cn cd K=if posR an ad&&(posR bn bd&&posR cn cd) then (if k=1 then K an ad bn bd cn cd false (twoP n an ad bn bd) else if k=2 then K an ad cn cd bn bd true (twoP n an ad cn cd) else K 0 0 0 0 0 0 false false) else K 0 0 0 0 0 0 false false:=by
 have key:∀ K,(if posR an ad&&(posR bn bd&&posR cn cd) then (if k=1 then K an ad bn bd cn cd false (twoP n an ad bn bd) else if k=2 then K an ad cn cd bn bd true (twoP n an ad cn cd) else K 0 0 0 0 0 0 false false) else K 0 0 0 0 0 0 false false)→yaT n ag k an ad bn bd cn cd K:=by
   intro K q
   unfold yaT yjL
   refine yad.2 ⟨by simp,4,?_⟩
   refine (yCm h1 h2 h3 h4 h5 h6 ..).mpr ?_
   split at q
   · rename_i hp
     rw [if_pos hp]
     simp only [Bool.and_eq_true] at hp
     obtain ⟨p1,p2,p3⟩:=hp
     dsimp only [Go.Pf.jn]
     split at q
     · rename_i hk
       rw [ceT hk,yEe hn (ykg p1).1 (ykg p2).1 (fun b=>K an ad bn bd cn cd false b)]
       exact q
     · rename_i hk
       rw [ceF hk]
       split at q
       · rename_i hk2
         rw [ceT hk2,yEe hn (ykg p1).1 (ykg p3).1 (fun b=>K an ad cn cd bn bd true b)]
         exact q
       · rename_i hk2
         rw [ceF hk2]
         exact q
   · rename_i hp
     rw [if_neg hp]
     exact q
 by_cases hp:(posR an ad&&(posR bn bd&&posR cn cd))=true
 · rw [if_pos hp]
   by_cases hk:k=1
   · rw [if_pos hk]
     exact ygd _ _ _ _ _ _ _ _ _ _ _ _ _ _ _ _ _ (fun K q=>key K (by rw [if_pos hp,if_pos hk];exact q)) K
   · rw [if_neg hk]
     by_cases hk2:k=2
     · rw [if_pos hk2]
       exact ygd _ _ _ _ _ _ _ _ _ _ _ _ _ _ _ _ _ (fun K q=>key K (by rw [if_pos hp,if_neg hk,if_pos hk2];exact q)) K
     · rw [if_neg hk2]
       exact ygd _ _ _ _ _ _ _ _ _ _ _ _ _ _ _ _ _ (fun K q=>key K (by rw [if_pos hp,if_neg hk,if_neg hk2];exact q)) K
 · rw [if_neg hp]
   exact ygd _ _ _ _ _ _ _ _ _ _ _ _ _ _ _ _ _ (fun K q=>key K (by rw [if_neg hp];exact q)) K
structure Cm.ok (n:Int) (c:Cm):Prop where
 f:small c.f
 t:small c.t
 v:small c.v
 f0:0≤c.f
 v0:0≤c.v
 ft:c.f≤c.t
 tn:c.t≤(n:Rat)
def Qy.q64 (q:Qy):Prop:=I64 q.an∧I64 q.ad∧I64 q.bn∧I64 q.bd∧I64 q.cn∧I64 q.cd
theorem yCn {a b:Int} (h:RV a b):0≤rt a b↔0≤a:=by
 obtain ⟨_,h2,_⟩:=rt_of h
 rw [← Rat.num_nonneg,h2]
theorem yMH {n:Int} {q:Qy} (h:qOk n q=true):(cmOf q).ok n:=by
 unfold qOk at h
 simp only [Bool.and_eq_true] at h
 obtain ⟨h1,h2,h3,h4⟩:=h
 obtain ⟨r1,p1⟩:=ykg h1
 obtain ⟨r2,p2⟩:=ykg h2
 obtain ⟨r3,p3⟩:=ykg h3
 have s1:=(rt_of r1).1
 have s2:=(rt_of r2).1
 have s3:=(rt_of r3).1
 have q1:=(yCn r1).2 p1
 have q2:=(yCn r2).2 p2
 have q3:=(yCn r3).2 p3
 unfold cmOf
 by_cases hk:q.kind=1
 · rw [if_pos hk] at h4 ⊢
   unfold twoP at h4
   simp only [Bool.and_eq_true,decide_eq_true_eq] at h4
   exact ⟨s1,s2,s3,q1,q3,h4.1,h4.2⟩
 · rw [if_neg hk] at h4 ⊢
   by_cases hk2:q.kind=2
   · rw [if_pos hk2] at h4
     unfold twoP at h4
     simp only [Bool.and_eq_true,decide_eq_true_eq] at h4
     exact ⟨s1,s3,s2,q1,q2,h4.1,h4.2⟩
   · rw [if_neg hk2] at h4;cases h4
theorem yyL {n:Int} {q:Qy} (h64:q.q64) (hn:small (n:Rat)) (h:qOk n q=true) (K:Int→Int→Int→Int→Int→Int→Bool→Bool→Prop) :
   yaT n q.agent q.kind q.an q.ad q.bn q.bd q.cn q.cd K=K (cmOf q).f.num (cmOf q).f.den (cmOf q).t.num (cmOf q).t.den (cmOf q).v.num (cmOf q).v.den (cmOf q).m true:=by
 obtain ⟨a1,a2,a3,a4,a5,a6⟩:=h64
 rw [yyK a1 a2 a3 a4 a5 a6 hn]
 unfold qOk at h
 simp only [Bool.and_eq_true] at h
 obtain ⟨h1,h2,h3,h4⟩:=h
 obtain ⟨_,e1,e2⟩:=rt_of (ykg h1).1
 obtain ⟨_,e3,e4⟩:=rt_of (ykg h2).1
 obtain ⟨_,e5,e6⟩:=rt_of (ykg h3).1
 rw [if_pos (by rw [h1,h2,h3];rfl)]
 unfold cmOf
 by_cases hk:q.kind=1
 · rw [if_pos hk] at h4 ⊢
   rw [if_pos hk,h4]
   dsimp only
   rw [e1,e2,e3,e4,e5,e6]
 · rw [if_neg hk] at h4 ⊢
   rw [if_neg hk]
   by_cases hk2:q.kind=2
   · rw [if_pos hk2] at h4 ⊢
     rw [h4]
     dsimp only
     rw [e1,e2,e3,e4,e5,e6]
   · rw [if_neg hk2] at h4;cases h4
theorem yyM {n:Int} {q:Qy} (h64:q.q64) (hn:small (n:Rat)) (h:qOk n q=false) {K:Int→Int→Int→Int→Int→Int→Bool→Bool→Prop} {K0:Prop} (hK:∀ a b c d e f g,K a b c d e f g false=K0) :
   yaT n q.agent q.kind q.an q.ad q.bn q.bd q.cn q.cd K=K0:=by
 obtain ⟨a1,a2,a3,a4,a5,a6⟩:=h64
 rw [yyK a1 a2 a3 a4 a5 a6 hn]
 unfold qOk at h
 split
 · rename_i hp
   simp only [Bool.and_eq_true] at hp
   obtain ⟨h1,h2,h3⟩:=hp
   rw [h1,h2,h3,Bool.true_and,Bool.true_and,Bool.true_and] at h
   split
   · rename_i hk;rw [if_pos hk] at h;rw [h];exact hK ..
   · rename_i hk
     rw [if_neg hk] at h
     split
     · rename_i hk2;rw [if_pos hk2] at h;rw [h];exact hK ..
     · exact hK ..
 · exact hK ..
end Go.Pf.Vc
namespace Go.Pf.Vc
open Go Go.Pf
def cms (l:List Cm):List PV:=l.map encCm
theorem yeG (l:List Cm):(cms l).length=l.length:=List.length_map ..
theorem yvO {l:List Cm} {i:Nat} (h:i<l.length):List.getD (cms l) i .nils=encCm (l.getD i default):=by
 unfold cms
 rw [List.getD_eq_getElem?_getD,List.getD_eq_getElem?_getD,List.getElem?_map,List.getElem?_eq_getElem h]
 rfl
theorem asCm (c:Cm) (P:Prop):asr (conf (.agg [.i .i64,.i .i64,.i .i64,.i .i64,.i .i64,.i .i64,.b]) (encCm c)) P=P:=rfl
theorem encCm0 (c:Cm):intOfV (cellAt (encCm c) 0)=c.f.num:=rfl
theorem encCm1 (c:Cm):intOfV (cellAt (encCm c) 1)=c.f.den:=rfl
theorem encCm2 (c:Cm):intOfV (cellAt (encCm c) 2)=c.t.num:=rfl
theorem encCm3 (c:Cm):intOfV (cellAt (encCm c) 3)=c.t.den:=rfl
theorem encCm4 (c:Cm):intOfV (cellAt (encCm c) 4)=c.v.num:=rfl
theorem encCm5 (c:Cm):intOfV (cellAt (encCm c) 5)=c.v.den:=rfl
theorem encCm6 (c:Cm):boolOfV (cellAt (encCm c) 6)=c.m:=rfl
theorem yG7 (c:Cm):([.agg [.int .i64 c.f.num,.int .i64 c.f.den,.int .i64 c.t.num,.int .i64 c.t.den,.int .i64 c.v.num,.int .i64 c.v.den,.bool c.m]]:List PV)=cms [c]:=rfl
theorem yLm (a b:List Cm):cms a++cms b=cms (a++b):=by unfold cms;rw [List.map_append]
theorem yJM (l:List Cm) (n:Nat):List.take n (cms l)=cms (l.take n):=by unfold cms;rw [List.map_take]
theorem encQ0 (q:Qy):intOfV (cellAt (encQ q) 0)=q.agent:=rfl
theorem encQ1 (q:Qy):intOfV (cellAt (encQ q) 1)=q.kind:=rfl
theorem encQ2 (q:Qy):intOfV (cellAt (encQ q) 2)=q.an:=rfl
theorem encQ3 (q:Qy):intOfV (cellAt (encQ q) 3)=q.ad:=rfl
theorem encQ4 (q:Qy):intOfV (cellAt (encQ q) 4)=q.bn:=rfl
theorem encQ5 (q:Qy):intOfV (cellAt (encQ q) 5)=q.bd:=rfl
theorem encQ6 (q:Qy):intOfV (cellAt (encQ q) 6)=q.cn:=rfl
theorem encQ7 (q:Qy):intOfV (cellAt (encQ q) 7)=q.cd:=rfl
theorem yF8 {log:List Qy} (h:∀ q∈log,q.q64) {i:Nat} (hi:i<log.length):(log.getD i default).q64:=by
 rw [List.getD_eq_getElem?_getD,List.getElem?_eq_getElem hi]
 exact h _ (List.getElem_mem hi)
theorem yEf {N:Int} (hN:small (N:Rat)) {log:List Qy} (h64:∀ q∈log,q.q64) (hl:log.length<1000) {x0:Int→List PV→Int→Int→Bool→Prop} {x1:Int→Prop} {x2:List PV→Int→List PV→Int→Int→Bool→Prop} {x3:List PV→Int→Prop} {X:Prop} (hx3:∀ l,x3 l 8=X) :
   ∀ (r i n:Nat) (acc:List Cm),i+r=log.length→r<n→acc.length≤i →
     ybH yaT x0 x1 x2 x3 n (cms acc) N (logs log) (log.length:Int) (i:Int)=if (log.drop i).all (qOk N) then x2 (cms (acc++(log.drop i).map cmOf)) N (logs log) (log.length:Int) (log.length:Int) false else X:=by
 intro r
 induction r with
 | zero =>
   intro i n acc hi hn ha
   obtain ⟨n,rfl⟩:∃ m,n=m+1:=⟨n-1,by omega⟩
   obtain rfl:i=log.length:=by omega
   rw [ybH,cbF (by omega),List.drop_length]
   simp
 | succ r ih =>
   intro i n acc hi hn ha
   obtain ⟨n,rfl⟩:∃ m,n=m+1:=⟨n-1,by omega⟩
   have hil:i<log.length:=by omega
   have e1:=wib (n:=(i:Int)+1) (by omega) (by omega)
   have hd:log.drop i=log.getD i default::log.drop (i+1):=ycE default hil
   have hq:=yF8 h64 hil
   generalize log.getD i default=q at hd hq
   have hq2:=yCg hil
   rw [ybH,cbT (by omega)]
   dsimp only [lt]
   rw [ye9,asT (by omega),asT (by omega),Int.toNat_natCast,hq2]
   have hge:log.getD i default=q:=by
     have:=congrArg List.head? hd
     rw [ycE default hil] at this
     simpa using this
   rw [hge,asQ,encQ0,encQ1,encQ2,encQ3,encQ4,encQ5,encQ6,encQ7,hd,List.all_cons]
   cases hk:qOk N q with
   | false =>
     rw [yyM hq hN hk (K0:=X) (fun a b c d e f g=>by rw [Bool.not_false,yab,hx3])]
     rfl
   | true =>
     rw [yyL hq hN hk,Bool.not_true,yaa,yeG,asE,asT (by omega),asNo (by omega),asE,asT (by show _≤35184372088832;omega),e1,yG7,yLm,asEE,asE,cast1,ih (i+1) n _ (by omega) (by omega) (by simp;omega)]
     simp [List.append_assoc]
def claimsE (n:Int) (log:List Qy):Int:=if n<1∨n>1000 then 2 else if log.length>40 then 4 else if log.all (qOk n) then 0 else 8
theorem yvP {N:Int} {log:List Qy} (h64:∀ q∈log,q.q64) (hl:log.length<1000) (K:List PV→Int→Prop) :
   yaw N (logs log) K=K (if claimsE N log=0 then cms (log.map cmOf) else []) (claimsE N log):=by
 refine yvu _ _ _ _ (fun K k=>?_) K
 unfold yaw ykK
 dsimp only [Go.Pf.jn]
 rw [ye9]
 by_cases h1:N<1
 · have e:claimsE N log=2:=by unfold claimsE;rw [if_pos (.inl h1)]
   rw [e] at k
   rw [cbT h1,yab];exact k
 · rw [cbF h1]
   by_cases h2:N>1000
   · have e:claimsE N log=2:=by unfold claimsE;rw [if_pos (.inr h2)]
     rw [e] at k
     rw [decide_eq_true h2,yab];exact k
   · have e:claimsE N log=if log.length>40 then 4 else if log.all (qOk N) then 0 else 8:=by unfold claimsE;rw [if_neg (by omega)]
     rw [e] at k
     clear e
     rw [decide_eq_false h2,yaa]
     by_cases h3:log.length>40
     · rw [if_pos h3] at k
       rw [cbT (by omega)];exact k
     · rw [if_neg h3] at k
       rw [cbF (by omega)]
       have hN:small (N:Rat):=ys5 (by omega) (by omega)
       refine ⟨log.length+1,?_⟩
       cases log with
       | nil =>
         rw [yc5,cbF (by simp)]
         exact k
       | cons q t =>
         have hq:=h64 q List.mem_cons_self
         have e1:=wib (n:=(0:Int)+1) (by omega) (by omega)
         have hat:List.getD (logs (q::t)) ((0:Int).toNat) .nils=encQ q:=rfl
         rw [yc5,cbT (by simp only [List.length_cons];omega)]
         dsimp only [lt]
         rw [ye9,asT (by omega),asT (by simp only [List.length_cons];omega),hat,asQ,encQ0,encQ1,encQ2,encQ3,encQ4,encQ5,encQ6,encQ7]
         rw [List.all_cons] at k
         cases hk:qOk N q with
         | false =>
           rw [hk] at k
           rw [yyM hq hN hk (K0:=K [] 8) (fun a b c d e f g=>by rw [Bool.not_false,yab])]
           exact k
         | true =>
           rw [hk,Bool.true_and] at k
           rw [yyL hq hN hk,Bool.not_true,yaa,e1,yG7]
           refine yad.2 ⟨by simp [cms],?_⟩
           refine (yEf (log:=q::t) hN h64 hl (X:=K [] 8) (fun _=>rfl) t.length 1 _ [cmOf q] (by simp;omega) (by simp) (by simp)).mpr ?_
           simp only [List.drop_succ_cons,List.drop_zero]
           split
           · rename_i ht
             rw [if_pos ht] at k
             rw [asTr,yeG,asT (by omega),← yeG,List.take_length]
             exact k
           · rename_i ht
             rw [if_neg ht] at k
             exact k
theorem yg0 {N:Int} {log:List Qy} (h:claimsE N log=0):1≤N∧N≤1000∧log.length≤40∧log.all (qOk N)=true:=by
 unfold claimsE at h
 split at h
 · cases h
 · split at h
   · cases h
   · split at h
     · rename_i h1 h2 h3;exact ⟨by omega,by omega,by omega,h3⟩
     · cases h
theorem yjZ {N:Int} {log:List Qy} (h:claimsE N log=0):∀ c∈log.map cmOf,c.ok N:=by
 obtain ⟨_,_,_,h4⟩:=yg0 h
 intro c hc
 obtain ⟨q,hq,rfl⟩:=List.mem_map.1 hc
 exact yMH (List.all_eq_true.1 h4 q hq)
end Go.Pf.Vc
namespace Go.Pf.Vc
open Go Go.Pf Go.Sort
def dedR:Rat→List Rat→List Rat
 | _,[]=>[]
 | p,x::r=>if x=p then dedR p r else x::dedR x r
def compR:List Rat→List Rat
 | []=>[]
 | x::r=>x::dedR x r
theorem yuL:∀ (p:Rat) (r:List Rat),(dedR p r).length≤r.length
 | _,[]=>Nat.le_refl _
 | p,x::r=>by
   unfold dedR
   split
   · have:=yuL p r;simp only [List.length_cons];omega
   · have:=yuL x r;simp only [List.length_cons];omega
theorem yCo:∀ (p:Rat) (r:List Rat),(p::r).Pairwise (·≤·)→(∀ z∈dedR p r,p<z)∧incrR (dedR p r)∧∀ z,z∈p::dedR p r↔z∈p::r
 | p,[],_=>⟨fun z hz=>by simp [dedR] at hz,trivial,fun z=>Iff.rfl⟩
 | p,x::r,h=>by
   rw [List.pairwise_cons] at h
   obtain ⟨h1,h2⟩:=h
   have hpx:=h1 x List.mem_cons_self
   unfold dedR
   by_cases e:x=p
   · rw [if_pos e]
     subst e
     obtain ⟨i1,i2,i3⟩:=yCo x r h2
     refine ⟨i1,i2,fun z=>?_⟩
     rw [i3 z]
     simp
   · rw [if_neg e]
     obtain ⟨i1,i2,i3⟩:=yCo x r h2
     have hlt:p<x:=by grind
     refine ⟨fun z hz=>?_,⟨i1,i2⟩,fun z=>?_⟩
     · rcases List.mem_cons.1 hz with rfl | hz
       · exact hlt
       · have:=i1 z hz;grind
     · rw [List.mem_cons,i3 z,List.mem_cons (a:=z) (b:=p)]
theorem yJN {l:List Rat} (h:l.Pairwise (·≤·)):incrR (compR l)∧∀ z,z∈compR l↔z∈l:=by
 cases l with
 | nil=>exact ⟨trivial,fun z=>Iff.rfl⟩
 | cons x r =>
   obtain ⟨h1,h2,h3⟩:=yCo x r h
   exact ⟨⟨h1,h2⟩,h3⟩
theorem ywp:∀ {a b:List Rat},incrR a→incrR b→(∀ z,z∈a↔z∈b)→a=b
 | [],[],_,_,_=>rfl
 | [],y::b,_,_,h=>by have:=(h y).2 List.mem_cons_self;cases this
 | x::a,[],_,_,h=>by have:=(h x).1 List.mem_cons_self;cases this
 | x::a,y::b,h1,h2,h=>by
   have e:x=y:=by
     rcases List.mem_cons.1 ((h x).1 List.mem_cons_self) with e | hx
     · exact e
     · rcases List.mem_cons.1 ((h y).2 List.mem_cons_self) with e | hy
       · exact e.symm
       · have:=h2.1 x hx
         have:=h1.1 y hy
         grind
   subst e
   rw [ywp h1.2 h2.2 fun z=>?_]
   constructor
   · intro hz
     rcases List.mem_cons.1 ((h z).1 (List.mem_cons_of_mem _ hz)) with e | hz2
     · have:=h1.1 z hz;subst e;exact absurd this Rat.lt_irrefl
     · exact hz2
   · intro hz
     rcases List.mem_cons.1 ((h z).2 (List.mem_cons_of_mem _ hz)) with e | hz2
     · have:=h2.1 z hz;subst e;exact absurd this Rat.lt_irrefl
     · exact hz2
theorem yz4 {l:List Rat} {k:Nat} {a:Rat} (h:k<l.length):(l.set k a).take (k+1)=l.take k++[a]:=by
 apply List.ext_getElem?
 intro i
 rw [List.getElem?_take,List.getElem?_set]
 by_cases h1:i<k
 · rw [if_pos (by omega),if_neg (by omega),List.getElem?_append_left (by simp;omega),List.getElem?_take,if_pos h1]
 · by_cases h2:i=k
   · subst h2
     rw [if_pos (by omega),if_pos rfl,if_pos h,List.getElem?_append_right (by rw [List.length_take];omega),List.length_take,Nat.min_eq_left (by omega),Nat.sub_self]
     rfl
   · rw [if_neg (by omega),List.getElem?_append_right (by rw [List.length_take];omega)]
     rw [List.getElem?_eq_none]
     rw [List.length_take,List.length_singleton];omega
theorem wibN {n:Nat} (h:n≤9223372036854775807):IntKind.i64.wrap (n:Int)=(n:Int):=wib (by omega) (by omega)
theorem yIf {orig:List Rat} (hl:orig.length<1000000) {k0:Nat} {a0:yaB} {x:List PV→Nat→Nat→Int→Nat→Nat→Nat→Int→Bool→Prop} :
   ∀ (r j n:Nat) (cur:List Rat) (k:Nat),k0+j+r=orig.length→1≤j→r<n→cur.length=orig.length→k0≤k→k+1≤k0+j→(∀ i,k0+j≤i+1→cur.getD i 0=orig.getD i 0) →
     ∃ cur':List Rat,cur'.length=orig.length∧cur'.take (k+(dedR (orig.getD (k0+j-1) 0) (orig.drop (k0+j))).length)=cur.take k++dedR (orig.getD (k0+j-1) 0) (orig.drop (k0+j)) ∧
       ybl a0 x n (rts cur) orig.length orig.length (k:Int) k0 (orig.length-k0) orig.length (j:Int)=x (rts cur') orig.length orig.length ((k+(dedR (orig.getD (k0+j-1) 0) (orig.drop (k0+j))).length:Nat):Int) k0 (orig.length-k0) orig.length ((orig.length-k0:Nat):Int) false:=by
 intro r
 induction r with
 | zero =>
   intro j n cur k hj h1 hn hc hk0 hk hr
   obtain ⟨n,rfl⟩:∃ m,n=m+1:=⟨n-1,by omega⟩
   have e:orig.drop (k0+j)=[]:=List.drop_eq_nil_of_le (by omega)
   rw [e]
   refine ⟨cur,hc,by simp [dedR],?_⟩
   rw [ybl,cbF (by omega)]
   simp only [dedR,List.length_nil,Nat.add_zero]
   rw [show orig.length-k0=j by omega]
 | succ r ih =>
   intro j n cur k hj h1 hn hc hk0 hk hr
   obtain ⟨n,rfl⟩:∃ m,n=m+1:=⟨n-1,by omega⟩
   have hil:k0+j<orig.length:=by omega
   have hd:orig.drop (k0+j)=orig.getD (k0+j) 0::orig.drop (k0+j+1):=ycE 0 hil
   have e1:=wib (n:=(j:Int)-1) (by omega) (by omega)
   have e2:=wib (n:=(j:Int)+1) (by omega) (by omega)
   have e3:=wib (n:=(k:Int)+1) (by omega) (by omega)
   have e4:(j:Int)-1=((j-1:Nat):Int):=by omega
   rw [e4] at e1
   have g1:=hr (k0+j) (by omega)
   have g2:=hr (k0+(j-1)) (by omega)
   rw [ybl]
   dsimp only [lt,Go.Pf.jn]
   simp (discharger:=omega) only [ych,hc,cbT,asT,Int.toNat_natCast,Nat.zero_add,ymw,asW,encW0,encW1,ratEq,e4,yLh,yLj,cast1,wibN,asTr]
   rw [g1,g2,show k0+(j-1)=k0+j-1 by omega,hd]
   by_cases h:orig.getD (k0+j) 0=orig.getD (k0+j-1) 0
   · have hD:dedR (orig.getD (k0+j-1) 0) (orig.getD (k0+j) 0::orig.drop (k0+j+1))=dedR (orig.getD (k0+(j+1)-1) 0) (orig.drop (k0+(j+1))):=by
       rw [dedR,if_pos h,← h]
       rfl
     obtain ⟨cur',c1,c2,c3⟩:=ih (j+1) n cur k (by omega) (by omega) (by omega) hc hk0 (by omega) (fun i hi=>hr i (by omega))
     rw [hD]
     refine ⟨cur',c1,c2,?_⟩
     rw [decide_eq_true h,Bool.not_true,yaa,c3]
   · have hD:dedR (orig.getD (k0+j-1) 0) (orig.getD (k0+j) 0::orig.drop (k0+j+1))=orig.getD (k0+j) 0::dedR (orig.getD (k0+(j+1)-1) 0) (orig.drop (k0+(j+1))):=by
       rw [dedR,if_neg h]
       rfl
     obtain ⟨cur',c1,c2,c3⟩:=ih (j+1) n (cur.set k (orig.getD (k0+j) 0)) (k+1) (by omega) (by omega) (by omega) (by simp [hc]) (by omega) (by omega) (fun i hi=>by
       rw [List.getD_eq_getElem?_getD,List.getElem?_set,if_neg (by omega),← List.getD_eq_getElem?_getD]
       exact hr i (by omega))
     rw [hD]
     refine ⟨cur',c1,?_,?_⟩
     · rw [List.length_cons,show k+((dedR (orig.getD (k0+(j+1)-1) 0) (orig.drop (k0+(j+1)))).length+1)=k+1+(dedR (orig.getD (k0+(j+1)-1) 0) (orig.drop (k0+(j+1)))).length by omega,c2,yz4 (by omega),List.append_assoc]
       rfl
     · rw [decide_eq_false h,Bool.not_false,yab,c3,List.length_cons,show k+((dedR (orig.getD (k0+(j+1)-1) 0) (orig.drop (k0+(j+1)))).length+1)=k+1+(dedR (orig.getD (k0+(j+1)-1) 0) (orig.drop (k0+(j+1)))).length by omega]
theorem yIg {l:List Rat} (hl:l.length<1000000) {a0:yaB} {x0:List PV→Nat→Nat→Int→Bool→Prop} {x1:List PV→Nat→Nat→Prop} {J:List PV→Nat→Nat→Prop} (h0:∀ a b c i d,x0 a b c i d=J a b c) (h1:∀ a b c,x1 a b c=J a b c) :
   ∀ (r k n:Nat),k+r=l.length→1≤k→r<n→(∀ L:List PV,L.length=l.length→List.take (k+(dedR (l.getD (k-1) 0) (l.drop k)).length) L=rts (l.take k++dedR (l.getD (k-1) 0) (l.drop k))→J L (k+(dedR (l.getD (k-1) 0) (l.drop k)).length) l.length) →
     ybm a0 x0 x1 n (rts l) l.length l.length (k:Int):=by
 intro r
 induction r with
 | zero =>
   intro k n hk hk1 hn q
   obtain ⟨n,rfl⟩:∃ m,n=m+1:=⟨n-1,by omega⟩
   rw [ybm,cbF (by omega),h0]
   have e:l.drop k=[]:=List.drop_eq_nil_of_le (by omega)
   rw [e] at q
   simp only [dedR,List.length_nil,Nat.add_zero,List.append_nil] at q
   have:=q (rts l) (ych l) (yD8 l k)
   rw [show k=l.length by omega] at this
   exact this
 | succ r ih =>
   intro k n hk hk1 hn q
   obtain ⟨n,rfl⟩:∃ m,n=m+1:=⟨n-1,by omega⟩
   have hil:k<l.length:=by omega
   have hd:l.drop k=l.getD k 0::l.drop (k+1):=ycE 0 hil
   have e1:=wib (n:=(k:Int)-1) (by omega) (by omega)
   have e2:=wib (n:=(k:Int)+1) (by omega) (by omega)
   have e4:(k:Int)-1=((k-1:Nat):Int):=by omega
   rw [e4] at e1
   rw [ybm]
   dsimp only [lt]
   simp (discharger:=omega) only [ych,cbT,asT,Int.toNat_natCast,Nat.zero_add,ymw,asW,encW0,encW1,ratEq,e4,cast1,wibN,asTr]
   by_cases h:l.getD k 0=l.getD (k-1) 0
   · rw [cbT h]
     refine yad.2 ⟨by simp,l.length+1,?_⟩
     obtain ⟨cur',c1,c2,c3⟩:=yIf (a0:=a0) hl (k0:=k) (x:=fun yl91 yn92 yn93 yi94 _ _ _ _ _=>(Go.Pf.jn (fun (yj101:List PV→Prop) =>
       (asr (decide ((0:Int)≤yi94))
       (asr (decide (yi94≤((yn92:Nat):Int)))
       (asr ((decide (((yn92:Nat):Int)≤((yn92:Nat):Int)))||(decide (((yn92:Nat):Int)≤((yn92:Nat):Int))))
       (cbr (decide (((((yn92:Nat):Int)-yi94).toNat)=0))
       (yj101 yl91)
       (asr (decide ((List.length yl91)=yn93))
       (asr (decide (((yi94.toNat)+((((yn92:Nat):Int)-yi94).toNat))≤yn93))
       (yj101 ((List.take (yi94.toNat) yl91)++((List.replicate ((((yn92:Nat):Int)-yi94).toNat) ((.agg [(.int .i64 (0)),(.int .i64 (0))]):PV))++(List.drop ((yi94.toNat)+((((yn92:Nat):Int)-yi94).toNat)) yl91)))))))))))
       (fun yl100=>(asr (decide ((0:Int)≤yi94))
       (asr ((decide (yi94≤((yn92:Nat):Int)))||(decide (yi94≤((yn92:Nat):Int))))
       (x1 yl100 ((yi94-(0:Int)).toNat) yn93)))))) (l.length-k-1) 1 (l.length+1) l k (by omega) (by omega) (by omega) rfl (by omega) (by omega) (fun i hi=>rfl)
     have ed:dedR (l.getD (k-1) 0) (l.drop k)=dedR (l.getD (k+1-1) 0) (l.drop (k+1)):=by
       rw [hd,dedR,if_pos h,← h]
       rfl
     rw [ed] at q
     have eN:(((l.length:Nat):Int)-(k:Int)).toNat=l.length-k:=by omega
     rw [eN,show ((1:Nat):Int)=1 from rfl] at *
     refine c3.mpr ?_
     have hD:=yuL (l.getD (k+1-1) 0) (l.drop (k+1))
     rw [List.length_drop] at hD
     generalize dedR (l.getD (k+1-1) 0) (l.drop (k+1))=D at *
     dsimp only [Go.Pf.jn]
     rw [asT (by omega),asT (by omega),decide_eq_true (Int.le_refl _),Bool.true_or,yat,cbF (by omega),ych,c1,asE]
     rw [asT (by omega),asT (by omega),decide_eq_true (show (((k+D.length:Nat):Nat):Int)≤(l.length:Int) by omega),Bool.true_or,yat,h1]
     have e5:(((k+D.length:Nat):Nat):Int)-0=((k+D.length:Nat):Int):=by omega
     rw [e5,Int.toNat_natCast]
     refine q _ ?_ ?_
     · simp only [List.length_append,List.length_take,List.length_replicate,List.length_drop,ych,c1]
       omega
     · rw [List.take_append_of_le_length (by rw [List.length_take,ych];omega),List.take_take,Nat.min_self,yD8,c2]
   · rw [cbF h]
     have ed:dedR (l.getD (k-1) 0) (l.drop k)=l.getD k 0::dedR (l.getD (k+1-1) 0) (l.drop (k+1)):=by
       rw [hd,dedR,if_neg h]
       rfl
     refine ih (k+1) n (by omega) (by omega) (by omega) fun L hL hT=>?_
     rw [ed] at q
     have e6:k+(l.getD k 0::dedR (l.getD (k+1-1) 0) (l.drop (k+1))).length=k+1+(dedR (l.getD (k+1-1) 0) (l.drop (k+1))).length:=by simp only [List.length_cons];omega
     have e7:l.take k++l.getD k 0::dedR (l.getD (k+1-1) 0) (l.drop (k+1))=l.take (k+1)++dedR (l.getD (k+1-1) 0) (l.drop (k+1)):=by
       rw [show l.take (k+1)=l.take k++[l.getD k 0] by
         rw [List.take_add_one,List.getD_eq_getElem?_getD,List.getElem?_eq_getElem hil]
         rfl]
       simp
     rw [e6,e7] at q
     exact q L hL hT
end Go.Pf.Vc
namespace Go.Pf.Vc
open Go Go.Pf Go.Sort
theorem yuM {x y:PV} (hx:rtGood x=true) (hy:rtGood y=true):rtCmp x y<0↔ratOf x<ratOf y:=by
 unfold rtGood at hx hy
 split at hx
 · split at hy
   · simp only [rtCmp,ratOf]
     exact yLe (yw3.1 hx) (yw3.1 hy)
   · cases hy
 · cases hx
theorem yky {n g:Nat} (x:(rtSrt n g).s.El):rtGood x.1=true:=by
 have:=x.2
 simp only [Srt.gd,Bool.and_eq_true] at this
 exact this.2
theorem yF9 (n g:Nat):SWO (fun x y:(rtSrt n g).s.El=>decide ((rtSrt n g).cf x y<0)) where
 irrefl x:=by
   have:=yuM (yky x) (yky x)
   show decide (rtCmp x.1 x.1<0)=false
   rw [decide_eq_false_iff_not,this]
   exact Rat.lt_irrefl
 trans x y z h1 h2:=by
   have h1:decide (rtCmp x.1 y.1<0)=true:=h1
   have h2:decide (rtCmp y.1 z.1<0)=true:=h2
   show decide (rtCmp x.1 z.1<0)=true
   rw [decide_eq_true_eq,yuM (yky _) (yky _)] at *
   grind
 ntrans x y z h1 h2:=by
   have h1:decide (rtCmp x.1 y.1<0)=false:=h1
   have h2:decide (rtCmp y.1 z.1<0)=false:=h2
   show decide (rtCmp x.1 z.1<0)=false
   rw [decide_eq_false_iff_not,yuM (yky _) (yky _)] at *
   grind
theorem yG8 (n g:Nat) {q:Rat} (h:small q):(rtSrt n g).s.gd (encW q)=true:=by
 have h1:=h.i1
 have h2:=h.i2
 have e1:IntKind.i64.min=-9223372036854775808:=by decide
 have e2:IntKind.i64.max=9223372036854775807:=by decide
 simp only [Srt.gd,rtSrt,okI,encW,okL,rtGood,Bool.and_eq_true,decide_eq_true_eq,e1,e2]
 unfold I64 at h1 h2
 exact ⟨⟨trivial,h1.1,h1.2,trivial,h2.1,h2.2,trivial⟩,yw3.2 h.rv⟩
def decW:PV→Rat
 | .agg [.int _ a,.int _ b]=>rt a b
 | _=>0
theorem yuN (q:Rat):decW (encW q)=q:=ydT q
theorem yAH (q:Rat):ratOf (encW q)=q:=ydT q
theorem yIh (n g:Nat) {l:List Rat} (h:∀ s∈l,small s):∃ l':List Rat,l'.Perm l∧l'.Pairwise (·≤·)∧Srt.sorted (rtSrt n g).s (rtSrt n g).srt (rts l)=rts l':=by
 obtain ⟨d,hd⟩:=yvM (s:=(rtSrt n g).s) (l:=rts l) fun x hx=>by
   obtain ⟨s,hs,rfl⟩:=List.mem_map.1 hx
   exact yG8 n g (h s hs)
 obtain ⟨d',h1,h2,h3⟩:=(rtSrt n g).sorted_is (yF9 n g) hd
 have hv:=Srt.rows?_val hd
 have hp:(d'.map (·.1)).Perm (rts l):=by rw [← hv];exact h1.map _
 have hm:∀ x∈d'.map (·.1),∃ s∈l,encW s=x:=fun x hx=>List.mem_map.1 (hp.mem_iff.1 hx)
 refine ⟨(d'.map (·.1)).map decW,?_,?_,?_⟩
 · have this:(List.map decW (d'.map (·.1))).Perm (List.map decW (l.map encW)):=hp.map decW
   have e:List.map decW (l.map encW)=l:=by rw [List.map_map,show decW ∘ encW=id from funext yuN,List.map_id]
   rw [e] at this
   exact this
 · rw [List.map_map,List.pairwise_map]
   refine h2.imp_of_mem fun {x y} hx hy hxy=>?_
   have hxy:¬rtCmp y.1 x.1<0:=hxy
   rw [yuM (yky _) (yky _)] at hxy
   obtain ⟨s,_,es⟩:=hm x.1 (List.mem_map_of_mem hx)
   obtain ⟨t,_,et⟩:=hm y.1 (List.mem_map_of_mem hy)
   show decW x.1≤decW y.1
   rw [← es,← et] at hxy ⊢
   rw [yAH,yAH] at hxy
   rw [yuN,yuN]
   grind
 · rw [h3]
   have key:∀ (xs:List PV),(∀ x∈xs,∃ s∈l,encW s=x)→(xs.map decW).map encW=xs:=by
     intro xs
     induction xs with
     | nil=>intro _;rfl
     | cons x r ih =>
       intro h
       obtain ⟨s,_,es⟩:=h x List.mem_cons_self
       rw [List.map_cons,List.map_cons,ih fun y hy=>h y (List.mem_cons_of_mem _ hy),← es,yuN]
   exact (key _ hm).symm
def Cm.rs (c:Cm):RS:=(c.f,c.t)
def ptsC (N:Int) (L:List Cm):List Rat:=endsR (L.map Cm.rs) [0,(N:Rat)]
def flatC (L:List Cm):List Rat:=L.flatMap fun c=>[c.f,c.t]
theorem yAI:∀ (a:List RS) (out:List Rat) (z:Rat),z∈endsR a out↔z∈out∨∃ s∈a,z=s.1∨z=s.2
 | [],out,z=>by simp [endsR]
 | s::a,out,z=>by
   show z∈endsR a (insR s.2 (insR s.1 out))↔_
   rw [yAI a,yuI,yuI]
   constructor
   · rintro ((h | h | h) | ⟨t,h1,h2⟩)
     · exact .inr ⟨s,List.mem_cons_self,.inr h⟩
     · exact .inr ⟨s,List.mem_cons_self,.inl h⟩
     · exact .inl h
     · exact .inr ⟨t,List.mem_cons_of_mem _ h1,h2⟩
   · rintro (h | ⟨t,h1,h2⟩)
     · exact .inl (.inr (.inr h))
     · rcases List.mem_cons.1 h1 with rfl | h1
       · rcases h2 with h2 | h2
         · exact .inl (.inr (.inl h2))
         · exact .inl (.inl h2)
       · exact .inr ⟨t,h1,h2⟩
theorem yea {N:Int} {L:List Cm} {z:Rat}:z∈ptsC N L↔z=0∨z=(N:Rat)∨∃ c∈L,z=c.f∨z=c.t:=by
 unfold ptsC
 rw [yAI]
 constructor
 · rintro (h | ⟨s,h1,h2⟩)
   · simp only [List.mem_cons,List.not_mem_nil,or_false] at h
     rcases h with h | h
     · exact .inl h
     · exact .inr (.inl h)
   · obtain ⟨c,hc,rfl⟩:=List.mem_map.1 h1
     exact .inr (.inr ⟨c,hc,h2⟩)
 · rintro (h | h | ⟨c,h1,h2⟩)
   · exact .inl (by simp [h])
   · exact .inl (by simp [h])
   · exact .inr ⟨c.rs,List.mem_map_of_mem h1,h2⟩
theorem yq5 {N:Int} (hN:1≤N) (L:List Cm):incrR (ptsC N L):=by
 refine yyF _ _ ⟨fun y hy=>?_,⟨(fun y hy=>by cases hy),trivial⟩⟩
 simp only [List.mem_cons,List.not_mem_nil,or_false] at hy
 subst hy
 have:(0:Rat)<((1:Int):Rat):=by decide
 have h2:((1:Int):Rat)≤(N:Rat):=Rat.intCast_le_intCast.2 hN
 grind
theorem yEg {L:List Cm} (hl:L.length<10000) {x:List PV→List PV→Int→Int→Bool→Prop} :
   ∀ (r i n:Nat) (out:List Rat),i+r=L.length→r<n→out.length≤2+2*i →
     ybk yap x n (rts out) (cms L) (L.length:Int) (i:Int)=x (rts (out++flatC (L.drop i))) (cms L) (L.length:Int) (L.length:Int) false:=by
 intro r
 induction r with
 | zero =>
   intro i n out hi hn ho
   obtain ⟨n,rfl⟩:∃ m,n=m+1:=⟨n-1,by omega⟩
   obtain rfl:i=L.length:=by omega
   rw [ybk,cbF (by omega),List.drop_length]
   simp [flatC]
 | succ r ih =>
   intro i n out hi hn ho
   obtain ⟨n,rfl⟩:∃ m,n=m+1:=⟨n-1,by omega⟩
   have hil:i<L.length:=by omega
   have e1:=wib (n:=(i:Int)+1) (by omega) (by omega)
   have hd:L.drop i=L.getD i default::L.drop (i+1):=ycE default hil
   have e2:(rts out++[.agg [.int .i64 (L.getD i default).f.num,.int .i64 ((L.getD i default).f.den:Int)],.agg [.int .i64 (L.getD i default).t.num,.int .i64 ((L.getD i default).t.den:Int)]])=rts (out++[(L.getD i default).f,(L.getD i default).t]):=by
     rw [← yLi];rfl
   rw [ybk,cbT (by omega)]
   dsimp only [lt]
   rw [yeG,asT (by omega),asT (by omega),Int.toNat_natCast,yvO hil,asCm,encCm0,encCm1,encCm2,encCm3,e2,ych,asE,asT (by omega),asNo (by omega),asE,asT (by show _≤35184372088832;omega),e1,asEE,asE,cast1,ih (i+1) n _ (by omega) (by omega) (by simp;omega),hd]
   simp [flatC,List.append_assoc]
theorem yAJ {L:List Cm} {z:Rat}:z∈flatC L↔∃ c∈L,z=c.f∨z=c.t:=by
 unfold flatC
 rw [List.mem_flatMap]
 constructor
 · rintro ⟨c,h1,h2⟩;exact ⟨c,h1,by simpa using h2⟩
 · rintro ⟨c,h1,h2⟩;exact ⟨c,h1,by simpa using h2⟩
theorem yIi (L:List Cm):(flatC L).length=2*L.length:=by
 induction L with
 | nil=>rfl
 | cons c r ih=>show (c.f::c.t::flatC r).length=_;simp only [List.length_cons];omega
theorem yqM {N:Int} (h1:1≤N) (h2:N≤1000) {L:List Cm} (hc:∀ c∈L,c.ok N) (hl:L.length<10000) (K:List PV→Prop):yan N (cms L) K=K (rts (ptsC N L)):=by
 refine ysN _ _ _ (fun K k=>?_) K
 unfold yan yiD
 rw [yq4,yq4]
 refine yad.2 ⟨by simp,L.length+1,?_⟩
 rw [yeG]
 have e0:([.agg [.int .i64 ((0:Int):Rat).num,.int .i64 ((((0:Int):Rat).den:Nat):Int)],.agg [.int .i64 (N:Rat).num,.int .i64 (((N:Rat).den:Nat):Int)]]:List PV)=rts [0,(N:Rat)]:=rfl
 rw [e0]
 refine (yEg hl L.length 0 (L.length+1) _ (by omega) (by omega) (by simp)).mpr ?_
 rw [List.drop_zero]
 have hs:∀ q∈[0,(N:Rat)]++flatC L,small q:=by
   intro q hq
   rcases List.mem_append.1 hq with h | h
   · simp only [List.mem_cons,List.not_mem_nil,or_false] at h
     rcases h with rfl | rfl
     · decide
     · exact ys5 (by omega) (by omega)
   · obtain ⟨c,hc1,rfl | rfl⟩:=yAJ.1 h
     · exact (hc c hc1).f
     · exact (hc c hc1).t
 have hn:([0,(N:Rat)]++flatC L).length=2+2*L.length:=by rw [List.length_append,yIi];simp
 have hmem:∀ z,z∈[0,(N:Rat)]++flatC L↔z∈ptsC N L:=by
   intro z
   rw [yea,List.mem_append,yAJ]
   simp [or_assoc]
 generalize ([0,(N:Rat)]++flatC L)=A at *
 obtain ⟨l',p1,p2,p3⟩:=yIh yaL yaD hs
 have hcond:Srt.cond ywz.s (rts A) 0 (rts A).length (rts A).length 2 false=true:=by
   obtain ⟨d,hd⟩:∃ d,(ywz).s.rows? (rts A)=some d:=yvM fun y hy=>by
     obtain ⟨q,hq,rfl⟩:=List.mem_map.1 hy
     exact yG8 _ _ (hs q hq)
   unfold Srt.cond
   rw [List.drop_zero,List.take_length,hd,ych]
   simp only [decide_true,Bool.true_and,Bool.not_false,Option.isSome_some,Bool.and_true,Bool.and_eq_true,decide_eq_true_eq,Nat.zero_add,Nat.le_refl]
   exact ⟨by omega,rfl,by omega⟩
 have hsrt:Srt.sorted ywz.s ywz.srt (rts A)=rts l':=p3
 have hll:l'.length=A.length:=p1.length_eq
 rw [hcond,yat,List.take_zero,List.drop_zero,List.take_length,hsrt,List.nil_append,Nat.zero_add,List.drop_length,List.append_nil,ych]
 dsimp only [Go.Pf.jn]
 rw [cbF (by omega)]
 have hfin:compR l'=ptsC N L:=by
   obtain ⟨c1,c2⟩:=yJN p2
   exact ywp c1 (yq5 h1 L) fun z=>by rw [c2 z,p1.mem_iff,hmem z]
 refine ⟨l'.length+1,?_⟩
 rw [← hll]
 refine yIg (l:=l') (J:=fun yl164 yn165 yn166=>(asr (decide ((List.length yl164)=yn166)) (asr (decide ((0+yn165)≤yn166)) (K (List.take yn165 yl164))))) (by omega) (fun _ _ _ _ _=>rfl) (fun _ _ _=>rfl) (l'.length-1) 1 (l'.length+1) (by omega) (by omega) (by omega) fun R hR hT=>?_
 have hD:=yuL (l'.getD (1-1) 0) (l'.drop 1)
 rw [List.length_drop] at hD
 rw [hR,asE,asT (by omega),hT]
 have e9:l'.take 1++dedR (l'.getD (1-1) 0) (l'.drop 1)=compR l':=by
   cases l' with
   | nil=>simp at hll;omega
   | cons x t=>rfl
 rw [e9,hfin]
 exact k
end Go.Pf.Vc
namespace Go.Pf.Vc
open Go Go.Pf Go.Sort
def atR (l:List Rat) (q:Rat):Int:=if q∈l then (l.idxOf q:Int) else -1
theorem yGa {l:List Rat} (hl:l.length<1000000) {q:Rat} {x0:List PV→Int→Int→Int→Int→Bool→Prop} {x1:Int→Prop} {K:Int→Prop} (h0:∀ a b c d e f,x0 a b c d e f=K (-1)) (h1:∀ i,x1 i=K i) :
   ∀ (r i n:Nat),i+r=l.length→r<n→yay x0 x1 n (rts l) q.num q.den (l.length:Int) (i:Int)=if q∈l.drop i then K ((i+(l.drop i).idxOf q:Nat):Int) else K (-1):=by
 intro r
 induction r with
 | zero =>
   intro i n hi hn
   obtain ⟨n,rfl⟩:∃ m,n=m+1:=⟨n-1,by omega⟩
   rw [yay,cbF (by omega),List.drop_eq_nil_of_le (by omega),if_neg (by simp),h0]
 | succ r ih =>
   intro i n hi hn
   obtain ⟨n,rfl⟩:∃ m,n=m+1:=⟨n-1,by omega⟩
   have hil:i<l.length:=by omega
   have e1:=wib (n:=(i:Int)+1) (by omega) (by omega)
   have hd:l.drop i=l.getD i 0::l.drop (i+1):=ycE 0 hil
   rw [yay,cbT (by omega)]
   dsimp only [lt]
   rw [ych,asT (by omega),asT (by omega),Int.toNat_natCast,ymw hil,asW,encW0,encW1,ratEq,hd,e1,cast1]
   by_cases h:l.getD i 0=q
   · rw [cbT h.symm,if_pos (by rw [h];exact List.mem_cons_self),h1,h]
     simp
   · rw [cbF (fun e=>h e.symm),ih (i+1) n (by omega) (by omega)]
     by_cases h2:q∈l.drop (i+1)
     · rw [if_pos h2,if_pos (List.mem_cons_of_mem _ h2),List.idxOf_cons,show (l.getD i 0 == q)=false from beq_eq_false_iff_ne.2 h,cond_false]
       congr 1
       omega
     · rw [if_neg h2,if_neg]
       intro h3
       rcases List.mem_cons.1 h3 with h3 | h3
       · exact h h3.symm
       · exact h2 h3
theorem yyN {l:List Rat} (hl:l.length<1000000) {q:Rat} (K:Int→Prop):yae (rts l) q.num q.den K=K (atR l q):=by
 refine yiY _ _ _ _ (fun K k=>?_) K
 unfold yae yc2
 refine ⟨l.length+1,?_⟩
 rw [ych]
 refine (yGa hl (K:=K) (fun _ _ _ _ _ _=>rfl) (fun _=>rfl) l.length 0 (l.length+1) (by omega) (by omega)).mpr ?_
 unfold atR at k
 rw [List.drop_zero]
 split
 · rename_i h;rw [if_pos h] at k;simpa using k
 · rename_i h;rw [if_neg h] at k;exact k
theorem yMI {l:List Rat} {q:Rat}:atR l q≥0↔q∈l:=by
 unfold atR
 split
 · rename_i h;exact ⟨fun _=>h,fun _=>by omega⟩
 · rename_i h;exact ⟨fun k=>by omega,fun k=>absurd k h⟩
theorem yEh {l:List Rat} (hl:l.length<1000000) {q:Rat} (K:Bool→Prop):yak (rts l) q.num q.den K=K (decide (q∈l)):=by
 unfold yak ycH
 rw [yyN hl,show decide (atR l q≥0)=decide (q∈l) from decide_eq_decide.2 yMI]
end Go.Pf.Vc
namespace Go.Pf.Vc
open Go Go.Pf Go.Sort
abbrev Rw:Type:=Int×Int
def encRw (r:Rw):PV:=.agg [.int .i64 r.1,.int .i64 r.2]
def rws (l:List Rw):List PV:=l.map encRw
theorem ylj (l:List Rw):(rws l).length=l.length:=List.length_map ..
theorem yqN {l:List Rw} {i:Nat} (h:i<l.length):List.getD (rws l) i .nils=encRw (l.getD i default):=by
 unfold rws
 rw [List.getD_eq_getElem?_getD,List.getD_eq_getElem?_getD,List.getElem?_map,List.getElem?_eq_getElem h]
 rfl
theorem encRw0 (r:Rw):intOfV (cellAt (encRw r) 0)=r.1:=rfl
theorem encRw1 (r:Rw):intOfV (cellAt (encRw r) 1)=r.2:=rfl
theorem asRw (r:Rw) (P:Prop):asr (conf (.agg [.i .i64,.i .i64]) (encRw r)) P=P:=rfl
def Rw.ok (r:Rw):Prop:=RV r.1 r.2
instance (r:Rw):Decidable r.ok:=by unfold Rw.ok;infer_instance
def Rw.q (r:Rw):Rat:=rt r.1 r.2
def Rw.i64 (r:Rw):Prop:=I64 r.1∧I64 r.2
theorem rw_at {l:List Rw} (h:∀ r∈l,Rw.i64 r) {i:Nat} (hi:i<l.length):Rw.i64 (l.getD i default):=by
 rw [List.getD_eq_getElem?_getD,List.getElem?_eq_getElem hi]
 exact h _ (List.getElem_mem hi)
def gStep (P F:List Rw) (i:Nat):Prop:=(P.getD i default).ok∧(F.getD i default).ok∧(0<i→(P.getD (i-1) default).q<(P.getD i default).q∧(F.getD (i-1) default).q≤(F.getD i default).q)
instance (P F:List Rw) (i:Nat):Decidable (gStep P F i):=by unfold gStep;infer_instance
def gEnds (N:Int) (P F:List Rw):Prop:=(P.getD 0 default).1=0∧(F.getD 0 default).1=0∧P.getD (P.length-1) default=(N,1)
instance (N:Int) (P F:List Rw):Decidable (gEnds N P F):=by unfold gEnds;infer_instance
def gSteps (P F:List Rw) (i:Nat):Prop:=∀ j,i≤j→j<P.length→gStep P F j
def gOk (N:Int) (P F:List Rw):Prop:=2≤P.length∧P.length≤100∧F.length=P.length∧gSteps P F 0∧gEnds N P F
open Classical in
theorem yGb {N:Int} {P F:List Rw} (hP:∀ r∈P,Rw.i64 r) (hF:∀ r∈F,Rw.i64 r) (hl:P.length≤100) (hfl:F.length=P.length) {x0:Int→List PV→List PV→Int→Int→Int→Bool→Prop} {x1:Bool→Prop} :
   ∀ (r i n:Nat),i+r=P.length→r<n→(∀ j,j<i→gStep P F j) →
     ycg yal yaf yap x0 x1 n N (rws P) (rws F) (P.length:Int) (P.length:Int) (i:Int)=if gSteps P F i then x0 N (rws P) (rws F) (P.length:Int) (P.length:Int) (P.length:Int) false else x1 false:=by
 intro r
 induction r with
 | zero =>
   intro i n hi hn hb
   obtain ⟨n,rfl⟩:∃ m,n=m+1:=⟨n-1,by omega⟩
   obtain rfl:i=P.length:=by omega
   rw [ycg,cbF (by omega),if_pos (show gSteps P F P.length from fun j h1 h2=>by omega)]
 | succ r ih =>
   intro i n hi hn hb
   obtain ⟨n,rfl⟩:∃ m,n=m+1:=⟨n-1,by omega⟩
   have hil:i<P.length:=by omega
   have e1:=wib (n:=(i:Int)+1) (by omega) (by omega)
   have pi:=rw_at hP hil
   have fi:=rw_at hF (i:=i) (by omega)
   have hstep:gSteps P F i↔gStep P F i∧gSteps P F (i+1):=by
     constructor
     · intro h;exact ⟨h i (Nat.le_refl _) hil,fun j h1 h2=>h j (by omega) h2⟩
     · rintro ⟨h1,h2⟩ j h3 h4
       by_cases e:j=i
       · subst e;exact h1
       · exact h2 j (by omega) h4
   rw [ycg,cbT (by omega)]
   dsimp only [lt,Go.Pf.jn]
   rw [ylj,ylj,asT (by omega),asT (by omega),Int.toNat_natCast,yqN hil,asRw,encRw0,encRw1,ynY pi.1 pi.2]
   by_cases hA:RV (P.getD i default).1 (P.getD i default).2
   case neg =>
     rw [show chk (P.getD i default).1 (P.getD i default).2=8 from if_neg hA,cnT (by omega),yab,if_neg]
     intro h
     exact hA (h i (Nat.le_refl _) hil).1
   rw [show chk (P.getD i default).1 (P.getD i default).2=0 from if_pos hA,nz,asT (by omega),asT (by omega),yqN (by omega),asRw,encRw0,encRw1,ynY fi.1 fi.2]
   by_cases hB:RV (F.getD i default).1 (F.getD i default).2
   case neg =>
     rw [show chk (F.getD i default).1 (F.getD i default).2=8 from if_neg hB,show ((8:Int) != 0)=true from rfl,yab,if_neg]
     intro h
     exact hB (h i (Nat.le_refl _) hil).2.1
   rw [show chk (F.getD i default).1 (F.getD i default).2=0 from if_pos hB,show ((0:Int) != 0)=false from rfl,yaa]
   by_cases h0:0<i
   · have e2:=wib (n:=(i:Int)-1) (by omega) (by omega)
     have e3:(i:Int)-1=((i-1:Nat):Int):=by omega
     rw [e3] at e2
     obtain ⟨b1,b2,_⟩:=hb (i-1) (by omega)
     have b1:RV (P.getD (i-1) default).1 (P.getD (i-1) default).2:=b1
     have b2:RV (F.getD (i-1) default).1 (F.getD (i-1) default).2:=b2
     rw [cbT (by omega),e3,e2,asT (by omega),asT (by omega),Int.toNat_natCast,yqN (by omega),asRw,encRw0,encRw1,asT (by omega),asT (by omega),asRw,ygZ b1 hA,yLd]
     by_cases hlt:rt (P.getD (i-1) default).1 (P.getD (i-1) default).2<rt (P.getD i default).1 (P.getD i default).2
     · rw [decide_eq_true hlt,Bool.not_true,yaa,asT (by omega),asT (by omega),yqN (by omega),asRw,encRw0,encRw1,asT (by omega),asT (by omega),asRw,ygZ b2 hB]
       have e4:decide (cmpQ (rt (F.getD (i-1) default).1 (F.getD (i-1) default).2) (rt (F.getD i default).1 (F.getD i default).2)>0)=!decide (rt (F.getD (i-1) default).1 (F.getD (i-1) default).2≤rt (F.getD i default).1 (F.getD i default).2):=by
         have:=yCi (rt (F.getD (i-1) default).1 (F.getD (i-1) default).2) (rt (F.getD i default).1 (F.getD i default).2)
         rw [show decide (cmpQ (rt (F.getD (i-1) default).1 (F.getD (i-1) default).2) (rt (F.getD i default).1 (F.getD i default).2)>0)=!decide (cmpQ (rt (F.getD (i-1) default).1 (F.getD (i-1) default).2) (rt (F.getD i default).1 (F.getD i default).2)≤0) by rw [← decide_not];simp,this,Bool.not_not]
         rw [← decide_not,decide_eq_decide,Rat.not_le]
       rw [e4]
       by_cases hle:rt (F.getD (i-1) default).1 (F.getD (i-1) default).2≤rt (F.getD i default).1 (F.getD i default).2
       · rw [decide_eq_true hle,Bool.not_true,yaa,e1,cast1]
         have hg:gStep P F i:=⟨hA,hB,fun _=>⟨hlt,hle⟩⟩
         rw [ih (i+1) n (by omega) (by omega) (fun j hj=>by
           by_cases e:j=i
           · subst e;exact hg
           · exact hb j (by omega))]
         by_cases hs:gSteps P F (i+1)
         · rw [if_pos hs,if_pos (hstep.2 ⟨hg,hs⟩)]
         · rw [if_neg hs,if_neg (fun k=>hs (hstep.1 k).2)]
       · rw [decide_eq_false hle,Bool.not_false,yab,if_neg]
         intro h
         exact hle ((h i (Nat.le_refl _) hil).2.2 h0).2
     · rw [decide_eq_false hlt,Bool.not_false,yab,yab,if_neg]
       intro h
       exact hlt ((h i (Nat.le_refl _) hil).2.2 h0).1
   · rw [cbF (by omega),yaa,e1,cast1]
     have hg:gStep P F i:=⟨hA,hB,fun k=>absurd k h0⟩
     rw [ih (i+1) n (by omega) (by omega) (fun j hj=>by
       by_cases e:j=i
       · subst e;exact hg
       · exact hb j (by omega))]
     by_cases hs:gSteps P F (i+1)
     · rw [if_pos hs,if_pos (hstep.2 ⟨hg,hs⟩)]
     · rw [if_neg hs,if_neg (fun k=>hs (hstep.1 k).2)]
theorem yLn (r:Rw) (N:Int):((r.1 == N)&&((r.2 == 1)&&true))=decide (r=(N,1)):=by
 obtain ⟨a,b⟩:=r
 rw [Bool.and_true,Bool.eq_iff_iff]
 simp [Prod.ext_iff]
open Classical in
theorem yIj {N:Int} {P F:List Rw} (hP:∀ r∈P,Rw.i64 r) (hF:∀ r∈F,Rw.i64 r) (hl:P.length<1000000) (_:F.length<1000000) (K:Bool→Prop):ybu N (rws P) (rws F) K=K (decide (gOk N P F)):=by
 refine ywL _ _ _ _ (fun K k=>?_) K
 unfold ybu ymj
 dsimp only [Go.Pf.jn]
 rw [ylj,ylj]
 by_cases h1:P.length<2
 · have e:decide (gOk N P F)=false:=decide_eq_false fun h=>by have:=h.1;omega
   rw [e] at k
   rw [cbT (by omega),yab];exact k
 rw [cbF (by omega)]
 by_cases h2:P.length>100
 · have e:decide (gOk N P F)=false:=decide_eq_false fun h=>by have:=h.2.1;omega
   rw [e] at k
   rw [cbT (by omega),yab];exact k
 rw [cbF (by omega)]
 by_cases h3:F.length=P.length
 case neg =>
   have e:decide (gOk N P F)=false:=decide_eq_false fun h=>h3 h.2.2.1
   rw [e] at k
   rw [show (((F.length:Nat):Int) !=((P.length:Nat):Int))=true by rw [bne_iff_ne];omega,yab];exact k
 rw [show (((F.length:Nat):Int) !=((P.length:Nat):Int))=false by rw [bne_eq_false_iff_eq];omega,yaa]
 refine ⟨P.length+1,?_⟩
 refine (yGb hP hF (by omega) h3 P.length 0 (P.length+1) (by omega) (by omega) (fun j hj=>by omega)).mpr ?_
 by_cases hs:gSteps P F 0
 case neg =>
   have e:decide (gOk N P F)=false:=decide_eq_false fun h=>hs h.2.2.2.1
   rw [e] at k
   rw [if_neg hs];exact k
 rw [if_pos hs]
 have e4:decide (gOk N P F)=decide (gEnds N P F):=decide_eq_decide.2 ⟨fun h=>h.2.2.2.2,fun h=>⟨by omega,by omega,h3,hs,h⟩⟩
 rw [e4] at k
 have e2:=wib (n:=((P.length:Nat):Int)-1) (by omega) (by omega)
 have e3:((P.length:Nat):Int)-1=((P.length-1:Nat):Int):=by omega
 rw [e3] at e2
 dsimp only [lt]
 rw [ylj,ylj,asT (by omega),yqN (by omega),asRw,encRw0]
 unfold gEnds at k
 by_cases c1:(P.getD 0 default).1=0
 case neg =>
   have e:decide ((P.getD 0 default).1=0∧(F.getD 0 default).1=0∧P.getD (P.length-1) default=(N,1))=false:=decide_eq_false fun h=>c1 h.1
   rw [e] at k
   rw [ceF c1];exact k
 rw [ceT c1,asT (by omega),yqN (by omega),asRw,encRw0]
 by_cases c2:(F.getD 0 default).1=0
 case neg =>
   have e:decide ((P.getD 0 default).1=0∧(F.getD 0 default).1=0∧P.getD (P.length-1) default=(N,1))=false:=decide_eq_false fun h=>c2 h.2.1
   rw [e] at k
   rw [ceF c2];exact k
 rw [ceT c2,e3,e2,asT (by omega),asT (by omega),Int.toNat_natCast,yqN (by omega),asRw,encRw0,encRw1,yq4]
 have e:decide ((P.getD 0 default).1=0∧(F.getD 0 default).1=0∧P.getD (P.length-1) default=(N,1))=decide (P.getD (P.length-1) default=(N,1)):=decide_eq_decide.2 ⟨fun h=>h.2.2,fun h=>⟨c1,c2,h⟩⟩
 rw [e] at k
 show K (((P.getD (P.length-1) default).1 == N)&&(((P.getD (P.length-1) default).2 == 1)&&true))
 rw [yLn]
 exact k
def rwQ (l:List Rw):List Rat:=l.map Rw.q
theorem yG9 {l:List Rw} (h:∀ r∈l,Rw.ok r):rws l=rts (rwQ l):=by
 unfold rws rts rwQ
 rw [List.map_map]
 refine List.map_congr_left fun r hr=>?_
 obtain ⟨_,e1,e2⟩:=rt_of (h r hr)
 show encRw r=encW (rt r.1 r.2)
 unfold encRw encW
 rw [e1,e2]
theorem ys6 {l:List Rw} {i:Nat} (h:i<l.length):(rwQ l).getD i 0=(l.getD i default).q:=by
 unfold rwQ
 rw [List.getD_eq_getElem?_getD,List.getD_eq_getElem?_getD,List.getElem?_map,List.getElem?_eq_getElem h]
 rfl
theorem yCp {α:Type} {l:List α} {x d:α} (h:x∈l):∃ i,i<l.length∧l.getD i d=x:=by
 obtain ⟨i,hi,e⟩:=List.mem_iff_getElem.1 h
 exact ⟨i,hi,by rw [List.getD_eq_getElem?_getD,List.getElem?_eq_getElem hi];exact e⟩
theorem yJO {l:List Rat} (h:∀ i,0<i→i<l.length→l.getD (i-1) 0<l.getD i 0):incrR l:=by
 induction l with
 | nil=>trivial
 | cons x r ih =>
   have hr:=ih fun i h0 hi=>by
     have:=h (i+1) (by omega) (by simp only [List.length_cons];omega)
     cases i with
     | zero=>omega
     | succ i=>exact this
   refine ⟨?_,hr⟩
   cases r with
   | nil=>intro y hy;cases hy
   | cons y t =>
     have hxy:x<y:=h 1 (by omega) (by simp)
     intro z hz
     rcases List.mem_cons.1 hz with rfl | hz
     · exact hxy
     · have:=hr.1 z hz;grind
structure Gs (N:Int) (ps fs:List Rat):Prop where
 len:fs.length=ps.length
 two:2≤ps.length
 top:ps.length≤100
 sp:∀ z∈ps,small z
 sf:∀ z∈fs,small z
 inc:incrR ps
 mono:∀ i,0<i→i<ps.length→fs.getD (i-1) 0≤fs.getD i 0
 p0:ps.getD 0 0=0
 f0:fs.getD 0 0=0
 pn:ps.getD (ps.length-1) 0=(N:Rat)
theorem yLo {N:Int} {P F:List Rw} (h:gOk N P F):rws P=rts (rwQ P)∧rws F=rts (rwQ F)∧Gs N (rwQ P) (rwQ F):=by
 obtain ⟨h1,h2,h3,h4,h5,h6,h7⟩:=h
 have hP:∀ r∈P,Rw.ok r:=fun r hr=>by
   obtain ⟨i,hi,e⟩:=yCp (d:=default) hr
   rw [← e];exact (h4 i (Nat.zero_le _) hi).1
 have hF:∀ r∈F,Rw.ok r:=fun r hr=>by
   obtain ⟨i,hi,e⟩:=yCp (d:=default) hr
   rw [← e];exact (h4 i (Nat.zero_le _) (by omega)).2.1
 have lP:(rwQ P).length=P.length:=List.length_map ..
 have lF:(rwQ F).length=F.length:=List.length_map ..
 have zq:∀ r:Rw,r.1=0→r.q=0:=by
   rintro ⟨a,b⟩ h0
   simp only at h0
   subst h0
   show mkRat 0 b.toNat=0
   exact Rat.zero_mkRat _
 refine ⟨yG9 hP,yG9 hF,by omega,by omega,by omega,fun z hz=>?_,fun z hz=>?_,yJO fun i h0 hi=>?_,fun i h0 hi=>?_,?_,?_,?_⟩
 · obtain ⟨r,hr,rfl⟩:=List.mem_map.1 hz;exact (rt_of (hP r hr)).1
 · obtain ⟨r,hr,rfl⟩:=List.mem_map.1 hz;exact (rt_of (hF r hr)).1
 · rw [ys6 (by omega),ys6 (by omega)];exact ((h4 i (Nat.zero_le _) (by omega)).2.2 h0).1
 · rw [ys6 (by omega),ys6 (by omega)];exact ((h4 i (Nat.zero_le _) (by omega)).2.2 h0).2
 · rw [ys6 (by omega)];exact zq _ h5
 · rw [ys6 (by omega)];exact zq _ h6
 · rw [lP,ys6 (by omega),h7]
   exact ydT (N:Rat)
end Go.Pf.Vc
namespace Go.Pf.Vc
open Go Go.Pf Go.Sort
def fitS (ps fs:List Rat) (c:Cm):Rat:=fs.getD (ps.idxOf c.f) 0+c.v
def fitB (ps fs:List Rat) (c:Cm):Bool:=decide (fitS ps fs c=fs.getD (ps.idxOf c.t) 0)&&(!c.m||(if c.v=0 then decide (ps.idxOf c.f=ps.idxOf c.t) else decide (fs.getD (ps.idxOf c.t-1) 0<fs.getD (ps.idxOf c.t) 0)))
def fitsE (ps fs:List Rat):Nat→List Cm→Int×Int
 | i,[]=>((i:Int),0)
 | i,c::r=>if small (fitS ps fs c) then (if fitB ps fs c then fitsE ps fs (i+1) r else ((i:Int),0)) else (0,16)
theorem yJP {l:List Rat} {q:Rat} (h:q∈l):atR l q=(l.idxOf q:Int):=if_pos h
theorem yn3 {l:List Rat} (h:∀ z∈l,small z) {i:Nat} (hi:i<l.length):small (l.getD i 0):=h _ (yqJ hi)
theorem ydf {l:List Rat} {q:Rat} (h:q∈l):l.idxOf q<l.length:=List.idxOf_lt_length_iff.2 h
theorem yLp {N:Int} {ps fs:List Rat} (hG:Gs N ps fs) {c:Cm} (hc:c.ok N) (h1:c.f∈ps) (he:fitS ps fs c=fs.getD (ps.idxOf c.t) 0) (hv:c.v≠0):0<ps.idxOf c.t:=by
 refine Nat.pos_of_ne_zero fun e=>?_
 unfold fitS at he
 rw [e,hG.f0] at he
 have h0:∀ i,i<ps.length→0≤fs.getD i 0:=by
   intro i
   induction i with
   | zero=>intro _;rw [hG.f0];exact Rat.le_refl
   | succ i ih =>
     intro hi
     have:=hG.mono (i+1) (by omega) hi
     have h2:=ih (by omega)
     rw [Nat.add_sub_cancel] at this
     grind
 have h2:=h0 _ (ydf h1)
 have h3:=hc.v0
 grind
theorem yIk {N:Int} {ps fs:List Rat} (hG:Gs N ps fs) {c:Cm} (hc:c.ok N) (h1:c.f∈ps) (h2:c.t∈ps) {x1:Int→Int→Prop} {J:Bool→Prop} {P0 P1:List PV} (hP1:P1=rts fs) (hP0:P0=rts ps) (_:x1 0 16=x1 0 16) :
   yae P0 c.f.num c.f.den (fun yi77 =>
   (yae P0 c.t.num c.t.den (fun yi78 =>
   (asr (decide ((0:Int)≤yi77))
   (asr (decide (yi77<(((List.length P1):Nat):Int)))
   (asr (conf (.agg [.i .i64,.i .i64]) (List.getD P1 (yi77.toNat) .nils))
   (yar (intOfV (cellAt (List.getD P1 (yi77.toNat) .nils) 0)) (intOfV (cellAt (List.getD P1 (yi77.toNat) .nils) 1)) c.v.num c.v.den (fun yi84 yi85 yi86 =>
   (cbr (yi86 !=(0:Int))
   (x1 (0:Int) yi86)
   (asr (decide ((0:Int)≤yi78))
   (asr (decide (yi78<(((List.length P1):Nat):Int)))
   (asr (conf (.agg [.i .i64,.i .i64]) (List.getD P1 (yi78.toNat) .nils))
   (Go.Pf.jn (fun (yj101:Bool→Prop) =>
   (cbr ((yi84 ==(intOfV (cellAt (List.getD P1 (yi78.toNat) .nils) 0)))&&((yi85 ==(intOfV (cellAt (List.getD P1 (yi78.toNat) .nils) 1)))&&true))
   (yj101 c.m)
   (yj101 false)))
   (fun yb100=>(cbr yb100
   (cbr (c.v.num ==(0:Int))
   (cbr (yi77 == yi78)
   (J true)
   (cbr (decide (c.v.num>(0:Int)))
   (lt (IntKind.i64.wrap (yi78-(1:Int))) (fun yi102 =>
   (asr (decide ((0:Int)≤yi102))
   (asr (decide (yi102<(((List.length P1):Nat):Int)))
   (asr (conf (.agg [.i .i64,.i .i64]) (List.getD P1 (yi102.toNat) .nils))
   (asr (decide ((0:Int)≤yi78))
   (asr (decide (yi78<(((List.length P1):Nat):Int)))
   (asr (conf (.agg [.i .i64,.i .i64]) (List.getD P1 (yi78.toNat) .nils))
   (J (!(((intOfV (cellAt (List.getD P1 (yi102.toNat) .nils) 0)) ==(intOfV (cellAt (List.getD P1 (yi78.toNat) .nils) 0)))&&(((intOfV (cellAt (List.getD P1 (yi102.toNat) .nils) 1)) ==(intOfV (cellAt (List.getD P1 (yi78.toNat) .nils) 1)))&&true))))))))))))
   (J false)))
   (cbr (decide (c.v.num>(0:Int)))
   (lt (IntKind.i64.wrap (yi78-(1:Int))) (fun yi105 =>
   (asr (decide ((0:Int)≤yi105))
   (asr (decide (yi105<(((List.length P1):Nat):Int)))
   (asr (conf (.agg [.i .i64,.i .i64]) (List.getD P1 (yi105.toNat) .nils))
   (asr (decide ((0:Int)≤yi78))
   (asr (decide (yi78<(((List.length P1):Nat):Int)))
   (asr (conf (.agg [.i .i64,.i .i64]) (List.getD P1 (yi78.toNat) .nils))
   (J (!(((intOfV (cellAt (List.getD P1 (yi105.toNat) .nils) 0)) ==(intOfV (cellAt (List.getD P1 (yi78.toNat) .nils) 0)))&&(((intOfV (cellAt (List.getD P1 (yi105.toNat) .nils) 1)) ==(intOfV (cellAt (List.getD P1 (yi78.toNat) .nils) 1)))&&true))))))))))))
   (J false)))
   (J ((yi84 ==(intOfV (cellAt (List.getD P1 (yi78.toNat) .nils) 0)))&&((yi85 ==(intOfV (cellAt (List.getD P1 (yi78.toNat) .nils) 1)))&&true))))))))))))))))))
   = if small (fitS ps fs c) then J (fitB ps fs c) else x1 0 16:=by
 subst hP0 hP1
 have i1:=ydf h1
 have i2:=ydf h2
 have hl:=hG.len
 have ht:=hG.top
 rw [yyN (by omega),yyN (by omega),yJP h1,yJP h2,ych,asT (by omega),asT (by omega),Int.toNat_natCast,ymw (by omega),asW,encW0,encW1,yw0 (yn3 hG.sf (by omega)) hc.v]
 unfold fitK
 have hS:fs.getD (ps.idxOf c.f) 0+c.v=fitS ps fs c:=rfl
 rw [hS]
 by_cases hs:small (fitS ps fs c)
 case neg =>
   rw [if_neg hs,if_neg hs]
   rfl
 rw [if_pos hs,if_pos hs]
 dsimp only
 rw [nz,asT (by omega),asT (by omega),Int.toNat_natCast,ymw (by omega),asW,encW0,encW1,ratEq]
 dsimp only [Go.Pf.jn,lt]
 have e2:=wib (n:=((ps.idxOf c.t:Nat):Int)-1) (by omega) (by omega)
 unfold fitB
 by_cases he:fitS ps fs c=fs.getD (ps.idxOf c.t) 0
 case neg =>
   rw [decide_eq_false he,yaa,yaa,Bool.false_and]
 rw [decide_eq_true he,yab,Bool.true_and]
 cases hm:c.m with
 | false=>rw [yaa];rfl
 | true =>
   rw [yab,Bool.not_true,Bool.false_or]
   by_cases hv:c.v=0
   · have hn:c.v.num=0:=Rat.num_eq_zero.2 hv
     rw [ceT hn,if_pos hv]
     by_cases hi:ps.idxOf c.f=ps.idxOf c.t
     · rw [ceT (by omega),decide_eq_true hi]
     · rw [ceF (by omega),cbF (by omega),decide_eq_false hi]
   · have hn:c.v.num≠0:=fun e=>hv (Rat.num_eq_zero.1 e)
     have hp:c.v.num>0:=by
       have:=Rat.num_nonneg.2 hc.v0
       omega
     have h0:=yLp hG hc h1 he hv
     have e3:((ps.idxOf c.t:Nat):Int)-1=((ps.idxOf c.t-1:Nat):Int):=by omega
     rw [e3] at e2
     rw [ceF hn,if_neg hv,cbT hp,e3,e2,asT (by omega),asT (by omega),Int.toNat_natCast,ymw (by omega),asW,encW0,encW1,asT (by omega),asT (by omega),asW,ratEq]
     congr 1
     have:=hG.mono _ h0 i2
     rw [← decide_not,decide_eq_decide]
     constructor
     · intro h;grind
     · intro h;grind
theorem yIl {N:Int} {ps fs:List Rat} (hG:Gs N ps fs) {L:List Cm} (hc:∀ c∈L,c.ok N∧c.f∈ps∧c.t∈ps) (hl:L.length<1000000) {a0:yav} {a1:ycL} {a2:yao} {a3:yaq} {l0:List PV} {x0:List PV→List PV→List PV→List PV→Int→Int→Bool→Prop} {x1 K:Int→Int→Prop}
   (h0:∀ e f g,x0 l0 (rts ps) (rts fs) (cms L) e f g=K (L.length:Int) 0) (h1:∀ a b,x1 a b=K a b) :
   ∀ (r i n:Nat),i+r=L.length→r<n→ybW a0 a1 a2 a3 yae yar x0 x1 n l0 (rts ps) (rts fs) (cms L) (L.length:Int) (i:Int)=K (fitsE ps fs i (L.drop i)).1 (fitsE ps fs i (L.drop i)).2:=by
 intro r
 induction r with
 | zero =>
   intro i n hi hn
   obtain ⟨n,rfl⟩:∃ m,n=m+1:=⟨n-1,by omega⟩
   obtain rfl:i=L.length:=by omega
   rw [ybW,cbF (by omega),h0,List.drop_length]
   rfl
 | succ r ih =>
   intro i n hi hn
   obtain ⟨n,rfl⟩:∃ m,n=m+1:=⟨n-1,by omega⟩
   have hil:i<L.length:=by omega
   have e1:=wib (n:=(i:Int)+1) (by omega) (by omega)
   have hd:L.drop i=L.getD i default::L.drop (i+1):=ycE default hil
   have hm:L.getD i default∈L:=by
     rw [List.getD_eq_getElem?_getD,List.getElem?_eq_getElem hil]
     exact List.getElem_mem hil
   obtain ⟨c1,c2,c3⟩:=hc _ hm
   have hat:=yvO hil
   generalize L.getD i default=c at *
   rw [ybW,cbT (by omega)]
   dsimp only [lt]
   rw [yeG,asT (by omega),asT (by omega),Int.toNat_natCast,hat,asCm,encCm0,encCm1,encCm2,encCm3,encCm4,encCm5,encCm6]
   have key:=yIk hG c1 c2 c3 (x1:=x1) (J:=fun yb97=>(cbr (!yb97) (x1 (i:Int) (0:Int)) (ybW a0 a1 a2 a3 yae yar x0 x1 n l0 (rts ps) (rts fs) (cms L) (L.length:Int) (IntKind.i64.wrap ((i:Int)+(1:Int)))))) rfl rfl rfl
   refine key.trans ?_
   rw [hd]
   unfold fitsE
   by_cases hs:small (fitS ps fs c)
   · rw [if_pos hs,if_pos hs]
     cases fitB ps fs c with
     | true =>
       rw [if_pos rfl,Bool.not_true,yaa,e1,cast1]
       exact ih (i+1) n (by omega) (by omega)
     | false=>rw [if_neg (by simp),Bool.not_false,yab,h1]
   · rw [if_neg hs,if_neg hs,h1]
theorem yGc {ps qs:List Rat} (hp:ps.length<100000) (hl:qs.length<1000000) {a0:yav} {a1:ycL} {a2:yao} {a4:yam} {a5:yaK} {l0 l2 l3:List PV} {x0:List PV→List PV→List PV→List PV→List PV→Int→Int→Bool→Prop} {x1:Int→Int→Prop} :
   ∀ (r i n:Nat),i+r=qs.length→r<n→ycB a0 a1 a2 yak a4 a5 x0 x1 n l0 (rts ps) l2 l3 (rts qs) (qs.length:Int) (i:Int)=if ∀ q∈qs.drop i,q∈ps then x0 l0 (rts ps) l2 l3 (rts qs) (qs.length:Int) (qs.length:Int) false else x1 0 2:=by
 intro r
 induction r with
 | zero =>
   intro i n hi hn
   obtain ⟨n,rfl⟩:∃ m,n=m+1:=⟨n-1,by omega⟩
   obtain rfl:i=qs.length:=by omega
   rw [ycB,cbF (by omega),List.drop_length,if_pos (by simp)]
 | succ r ih =>
   intro i n hi hn
   obtain ⟨n,rfl⟩:∃ m,n=m+1:=⟨n-1,by omega⟩
   have hil:i<qs.length:=by omega
   have e1:=wib (n:=(i:Int)+1) (by omega) (by omega)
   have hd:qs.drop i=qs.getD i 0::qs.drop (i+1):=ycE 0 hil
   rw [ycB,cbT (by omega)]
   dsimp only [lt]
   rw [ych,asT (by omega),asT (by omega),Int.toNat_natCast,ymw hil,asW,encW0,encW1,yEh (by omega),hd]
   by_cases h:qs.getD i 0∈ps
   · rw [decide_eq_true h,Bool.not_true,yaa,e1,cast1,ih (i+1) n (by omega) (by omega)]
     by_cases h2:∀ q∈qs.drop (i+1),q∈ps
     · rw [if_pos h2,if_pos (fun q hq=>by
         rcases List.mem_cons.1 hq with rfl | hq
         · exact h
         · exact h2 q hq)]
     · rw [if_neg h2,if_neg (fun k=>h2 fun q hq=>k q (List.mem_cons_of_mem _ hq))]
   · rw [decide_eq_false h,Bool.not_false,yab,if_neg (fun k=>h (k _ List.mem_cons_self))]
open Classical in
noncomputable def fitsR (N:Int) (P F:List Rw) (log:List Qy):Int×Int :=
 if claimsE N log=0 then (if gOk N P F then (if ∀ q∈ptsC N (log.map cmOf),q∈rwQ P then fitsE (rwQ P) (rwQ F) 0 (log.map cmOf) else (0,2)) else (0,8)) else (0,claimsE N log)
theorem yuO (N:Int) (L:List Cm):(ptsC N L).length≤2+2*L.length:=by
 have:=yAG (L.map Cm.rs) [0,(N:Rat)]
 rw [List.length_map] at this
 simpa [ptsC,Nat.add_comm] using this
open Classical in
theorem yz5 {N:Int} {P F:List Rw} {log:List Qy} (hP:∀ r∈P,Rw.i64 r) (hF:∀ r∈F,Rw.i64 r) (hl:P.length<1000000) (hfl:F.length<1000000) (h64:∀ q∈log,q.q64) (hll:log.length<1000) (K:Int→Int→Prop) :
   ycq N (rws P) (rws F) (logs log) K=K (fitsR N P F log).1 (fitsR N P F log).2:=by
 refine yyd _ _ _ _ _ _ (fun K k=>?_) K
 unfold ycq ynm
 unfold fitsR at k
 rw [yvP h64 hll]
 by_cases h1:claimsE N log=0
 case neg =>
   rw [if_neg h1] at k
   rw [cnT h1];exact k
 rw [if_pos h1] at k
 rw [cnF h1,if_pos h1,yIj hP hF hl hfl]
 by_cases h2:gOk N P F
 case neg =>
   rw [if_neg h2] at k
   rw [decide_eq_false h2,Bool.not_false,yab];exact k
 rw [if_pos h2] at k
 obtain ⟨n1,n2,n3,n4⟩:=yg0 h1
 have hok:=yjZ h1
 rw [decide_eq_true h2,Bool.not_true,yaa,yqM n1 n2 hok (by rw [List.length_map];omega)]
 obtain ⟨g1,g2,g3⟩:=yLo h2
 have hpl:(rwQ P).length=P.length:=List.length_map ..
 have htop:=g3.top
 have hq:=yuO N (log.map cmOf)
 rw [List.length_map] at hq
 refine ⟨(ptsC N (log.map cmOf)).length+1,?_⟩
 rw [g1,g2,ych]
 refine (yGc (by omega) (by omega) _ 0 _ (Nat.zero_add _) (Nat.lt_succ_self _)).mpr ?_
 rw [List.drop_zero]
 by_cases h3:∀ q∈ptsC N (log.map cmOf),q∈rwQ P
 case neg =>
   rw [if_neg h3] at k
   rw [if_neg h3];exact k
 rw [if_pos h3] at k
 rw [if_pos h3]
 refine ⟨log.length+1,?_⟩
 rw [yeG]
 refine (yIl (L:=log.map cmOf) g3 (fun c hc=>⟨hok c hc,h3 _ (yea.2 (.inr (.inr ⟨c,hc,.inl rfl⟩))),h3 _ (yea.2 (.inr (.inr ⟨c,hc,.inr rfl⟩)))⟩) (by rw [List.length_map];omega) (K:=K) (fun _ _ _=>by rw [ye9,List.length_map]) (fun _ _=>rfl) _ 0 _ (Nat.zero_add _) (by rw [List.length_map];omega)).mpr ?_
 rw [List.drop_zero];exact k
def greatL (log:List Qy):Bool:=(decide (log.length>14)&&decide (log.length≤40))||decide (log.length>60)
theorem yIm (log:List Qy) (K:Bool→Prop):yfh (logs log) K=K (greatL log):=by
 unfold yfh yo6 greatL
 dsimp only [Go.Pf.jn]
 rw [ye9]
 by_cases h1:log.length>14
 · rw [cbT (by omega),decide_eq_true h1,Bool.true_and]
   by_cases h2:log.length≤40
   · rw [cbT (by omega),decide_eq_true h2,Bool.true_or]
   · rw [cbF (by omega),decide_eq_false h2,Bool.false_or]
     congr 1
     rw [decide_eq_decide];omega
 · rw [cbF (by omega),decide_eq_false h1,Bool.false_and,Bool.false_or]
   congr 1
   rw [decide_eq_decide];omega
end Go.Pf.Vc
namespace Go.Pf.Vc
open Go Go.Pf
theorem yJQ:∀ {cs:List PV},okL [.i64,.i64] cs=true→∃ a b,cs=[.int .i64 a,.int .i64 b]
 | [],h=>by cases h
 | [x],h=>by cases x <;> simp [okL] at h
 | x::y::w,h=>by
   cases x <;> first | (simp [okL] at h;done) | skip
   cases y <;> first | (simp [okL] at h;done) | skip
   simp only [okL,Bool.and_eq_true,decide_eq_true_eq] at h
   obtain ⟨rfl,_,_,rfl,_,_,h⟩:=h
   cases w with
   | nil=>exact ⟨_,_,rfl⟩
   | cons p q=>simp [okL] at h
theorem gd_rt {n g:Nat} {x:PV} (h:(rtSrt n g).s.gd x=true):∃ a b,x=.agg [.int .i64 a,.int .i64 b]∧RV a b:=by
 simp only [Srt.gd,Bool.and_eq_true] at h
 have h1:okI [.i64,.i64] x=true:=h.1
 have h2:rtGood x=true:=h.2
 clear h
 cases x <;> first | (simp [okI] at h1;done) | skip
 obtain ⟨a,b,rfl⟩:=yJQ (h1:okL _ _=true)
 exact ⟨a,b,rfl,yw3.1 h2⟩
theorem yGd {n g:Nat} (e:List (Nat×EffF)) (he:EG e) {x y:PV} (hx:(rtSrt n g).s.gd x=true) (hy:(rtSrt n g).s.gd y=true):Ans (E e) yaD [x,y] (.int .i64 (rtCmp x y)):=by
 obtain ⟨a,b,rfl,h1⟩:=gd_rt hx
 obtain ⟨a',b',rfl,h2⟩:=gd_rt hy
 obtain ⟨r,hr,ha⟩:=ygu e he [.agg [.int .i64 a,.int .i64 b],.agg [.int .i64 a',.int .i64 b']] (fun r=>r=.int .i64 (cmpI a b a' b')) (by
   show yaf a b a' b' (fun r=>PV.int .i64 r=.int .i64 (cmpI a b a' b'))
   rw [ygZ h1 h2,yMB h1 h2])
 rw [hr] at ha
 exact ha
theorem F_q64 {c:List PV} (h:HasF dsQ c):∃ q:Qy,c=[.int .i64 q.agent,.int .u8 q.kind,.int .i64 q.an,.int .i64 q.ad,.int .i64 q.bn,.int .i64 q.bd,.int .i64 q.cn,.int .i64 q.cd]∧q.q64:=by
 simp only [dsQ,dsR,HasF,HasL] at h
 obtain ⟨_,_,rfl,⟨a,rfl,_⟩,_,_,rfl,⟨b,rfl,_⟩,_,_,rfl,⟨_,_,rfl,⟨c,rfl,h1⟩,_,_,rfl,⟨d,rfl,h2⟩,rfl⟩,_,_,rfl,⟨_,_,rfl,⟨e,rfl,h3⟩,_,_,rfl,⟨f,rfl,h4⟩,rfl⟩,_,_,rfl,⟨_,_,rfl,⟨g,rfl,h5⟩,_,_,rfl,⟨i,rfl,h6⟩,rfl⟩,rfl⟩:=h
 exact ⟨⟨a,b,c,d,e,f,g,i⟩,rfl,ym0 h1,ym0 h2,ym0 h3,ym0 h4,ym0 h5,ym0 h6⟩
theorem yAK:∀ (rows:List PV),(∀ x∈rows,x.isAgg=dsQ.isA∧HasF dsQ x.cells)→∃ l:List Qy,rows=logs l∧∀ q∈l,q.q64
 | [],_=>⟨[],rfl,by simp⟩
 | x::r,h=>by
   obtain ⟨l,e,hl⟩:=yAK r (fun y hy=>h y (List.mem_cons_of_mem _ hy))
   obtain ⟨h1,h2⟩:=h x List.mem_cons_self
   obtain ⟨k,e2,hk⟩:=F_q64 h2
   have ex:x=encQ k:=by rw [yJF h1,e2];rfl
   refine ⟨k::l,by rw [ex,e];rfl,fun q hq=>?_⟩
   rcases List.mem_cons.1 hq with rfl | hq
   · exact hk
   · exact hl q hq
theorem yJR {c:List PV} (h:HasF (.s dsQ) c):∃ l:List Qy,c=[.data (logs l)]∧∀ q∈l,q.q64:=by
 simp only [HasF] at h
 obtain ⟨rows,rfl,hl,hr⟩:=h
 obtain ⟨l,rfl,h⟩:=yAK rows hr
 exact ⟨l,rfl,h⟩
end Go.Pf.Vc
namespace Go.Pf.Vc
open Go Go.Pf Go.Sort
def scM:List Cm→Nat→Option Nat
 | [],m=>some m
 | c::r,m=>if c.v.den / Nat.gcd m c.v.den≤1000000000 / m then scM r (m*(c.v.den / Nat.gcd m c.v.den)) else none
def scT (L:List Cm) (m:Nat):Bool:=L.all fun c=>decide (c.v.num≤((1000000000000 / (m / c.v.den):Nat):Int))
def scaleL (L:List Cm):Option Nat:=match scM L 1 with
 | some m=>if scT L m then some m else none
 | none=>none
def outSc (o:Option Nat) (K:Int→Int→Prop):Prop:=match o with
 | some m=>K (m:Int) 0
 | none=>K 0 16
theorem tdN5 (a b:Nat):Int.tdiv (a:Int) (b:Int)=((a / b:Nat):Int):=rfl
theorem yJS (m d:Nat):m*(d / Nat.gcd m d)=Nat.lcm m d:=by
 rw [Nat.lcm,Nat.mul_div_assoc _ (Nat.gcd_dvd_right m d)]
theorem yEi {m d:Nat} (h1:1≤m) (hd:1≤d) (h:d / Nat.gcd m d≤1000000000 / m):1≤m*(d / Nat.gcd m d)∧m*(d / Nat.gcd m d)≤1000000000:=by
 constructor
 · rw [yJS];exact Nat.lcm_pos (by omega) (by omega)
 · exact Nat.le_trans (Nat.mul_le_mul_left m h) (Nat.mul_div_le _ _)
theorem yqO:∀ (L:List Cm) (m:Nat) {m':Nat},1≤m→m≤1000000000→scM L m=some m'→1≤m'∧m'≤1000000000∧m∣m'∧∀ c∈L,c.v.den∣m'
 | [],m,m',h1,h2,e=>by
   cases e
   exact ⟨h1,h2,Nat.dvd_refl _,by simp⟩
 | c::r,m,m',h1,h2,e=>by
   unfold scM at e
   split at e
   · rename_i h
     obtain ⟨s1,s2⟩:=yEi h1 c.v.den_pos h
     obtain ⟨i1,i2,i3,i4⟩:=yqO r _ s1 s2 e
     rw [yJS] at i3
     refine ⟨i1,i2,Nat.dvd_trans (Nat.dvd_lcm_left _ _) i3,fun q hq=>?_⟩
     rcases List.mem_cons.1 hq with rfl | hq
     · exact Nat.dvd_trans (Nat.dvd_lcm_right _ _) i3
     · exact i4 q hq
   · cases e
structure Sc (L:List Cm) (m:Nat):Prop where
 one:1≤m
 top:m≤1000000000
 dvd:∀ c∈L,c.v.den∣m
 val:∀ c∈L,c.v.num*((m / c.v.den:Nat):Int)≤1000000000000
theorem yh8 {L:List Cm} {m:Nat} (h:scaleL L=some m):Sc L m:=by
 unfold scaleL at h
 split at h
 · rename_i m' e
   split at h
   · rename_i ht
     cases h
     obtain ⟨h1,h2,_,h4⟩:=yqO L 1 (by omega) (by omega) e
     refine ⟨h1,h2,h4,fun c hc=>?_⟩
     have h5:=List.all_eq_true.1 ht c hc
     simp only [decide_eq_true_eq] at h5
     have h6:((1000000000000 / (m / c.v.den):Nat):Int)*((m / c.v.den:Nat):Int)≤1000000000000:=by
       rw [← Int.natCast_mul]
       have:=Nat.div_mul_le_self 1000000000000 (m / c.v.den)
       omega
     exact Int.le_trans (Int.mul_le_mul_of_nonneg_right h5 (Int.natCast_nonneg _)) h6
   · cases h
 · cases h
theorem yyO {x:List PV→Int→Int→Int→Int→Int→Int→Int→Bool→Int→Int→List PV→Int→Int→Bool→Prop} {l0 l11:List PV} {i1 i2 i3 i4 i5 i6 i7 i12 i13:Int} {b8:Bool}:∀ (n a b:Nat),b<n→ycO x n l0 i1 i2 i3 i4 i5 i6 i7 b8 (a:Int) (b:Int) l11 i12 i13=x l0 i1 i2 i3 i4 i5 i6 i7 b8 ((Nat.gcd a b:Nat):Int) 0 l11 i12 i13 false
 | 0,a,b,h=>by omega
 | n+1,a,b,h=>by
   unfold ycO
   by_cases hb:b=0
   · subst hb
     simp [cbr]
   · have h1:(b:Int)>0:=by omega
     have e:Int.tmod (a:Int) (b:Int)=((a % b:Nat):Int):=by rw [Int.tmod_eq_emod_of_nonneg (by omega)];omega
     dsimp only [lt]
     rw [cbT h1,asNo (by omega),e,yyO n b (a % b) (by have:=Nat.mod_lt a (show b>0 by omega);omega)]
     rw [Nat.gcd_comm a b,Nat.gcd_rec b a,Nat.gcd_comm]
theorem yJT {N:Int} {L:List Cm} (h:∀ c∈L,c.ok N) {i:Nat} (hi:i<L.length):(L.getD i default).ok N:=by
 rw [List.getD_eq_getElem?_getD,List.getElem?_eq_getElem hi]
 exact h _ (List.getElem_mem hi)
theorem yJU {m d:Nat} (h:1≤m):0<Nat.gcd m d:=Nat.gcd_pos_of_pos_left _ (by omega)
theorem yGe {m:Nat} {c:Cm} {N:Int} (hc:c.ok N) (_:1≤m):c.v.den / Nat.gcd m c.v.den≤1000000000000000000:=by
 have h2:=hc.v.2.2
 exact Nat.le_trans (Nat.div_le_self _ _) (by omega)
theorem yGf {N:Int} {L:List Cm} (hc:∀ c∈L,c.ok N) (hl:L.length<1000000) {x0:List PV→Int→List PV→Int→Int→Bool→Prop} {x1:Int→Int→Prop} :
   ∀ (r i n m:Nat),i+r=L.length→r<n→1≤m→m≤1000000000 →
     (match scM (L.drop i) m with | some m'=>x0 (cms L) (m':Int) (cms L) (L.length:Int) (L.length:Int) false | none=>x1 0 16) →
     ycd x0 x1 n (cms L) (m:Int) (cms L) (L.length:Int) (i:Int):=by
 intro r
 induction r with
 | zero =>
   intro i n m hi hn h1 h2 k
   obtain ⟨n,rfl⟩:∃ m,n=m+1:=⟨n-1,by omega⟩
   obtain rfl:i=L.length:=by omega
   rw [List.drop_length] at k
   rw [ycd,cbF (by omega)]
   exact k
 | succ r ih =>
   intro i n m hi hn h1 h2 k
   obtain ⟨n,rfl⟩:∃ m,n=m+1:=⟨n-1,by omega⟩
   have hil:i<L.length:=by omega
   have hd:L.drop i=L.getD i default::L.drop (i+1):=ycE default hil
   have hok:=yJT hc hil
   rw [hd] at k
   rw [ycd,cbT (by omega)]
   dsimp only [lt]
   rw [yeG,asT (by omega),asT (by omega),Int.toNat_natCast,yvO hil,asCm]
   generalize L.getD i default=c at *
   refine ⟨c.v.den+1,?_⟩
   rw [encCm5]
   refine (yyO _ m c.v.den (by omega)).mpr ?_
   have hg:=yJU (d:=c.v.den) h1
   have hs:=yGe hok h1
   have e1:IntKind.i64.wrap (Int.tdiv ((c.v.den:Nat):Int) ((Nat.gcd m c.v.den:Nat):Int))=((c.v.den / Nat.gcd m c.v.den:Nat):Int):=by rw [tdN5,wibN (by omega)]
   have e2:IntKind.i64.wrap (Int.tdiv (1000000000:Int) (m:Int))=((1000000000 / m:Nat):Int):=by
     rw [show Int.tdiv (1000000000:Int) (m:Int)=((1000000000 / m:Nat):Int) from rfl,wibN (by have:=Nat.div_le_self 1000000000 m;omega)]
   rw [asNo (by omega),e1,asNo (by omega),e2]
   unfold scM at k
   by_cases h:c.v.den / Nat.gcd m c.v.den≤1000000000 / m
   · rw [if_pos h] at k
     rw [cbF (by omega)]
     obtain ⟨s1,s2⟩:=yEi h1 c.v.den_pos h
     rw [← Int.natCast_mul,wibN (by omega),cast1,wibN (by omega)]
     exact ih (i+1) n _ (by omega) (by omega) s1 s2 k
   · rw [if_neg h] at k
     rw [cbT (by omega)]
     exact k
theorem yEj {N:Int} {L:List Cm} (hc:∀ c∈L,c.ok N) (hl:L.length<1000000) {m:Nat} (h1:1≤m) (h2:m≤1000000000) (hdv:∀ c∈L,c.v.den∣m) {x0:Int→List PV→Int→Int→Bool→Prop} {x1:Int→Int→Prop} :
   ∀ (r i n:Nat),i+r=L.length→r<n →
     ycc x0 x1 n (m:Int) (cms L) (L.length:Int) (i:Int)=if scT (L.drop i) m then x0 (m:Int) (cms L) (L.length:Int) (L.length:Int) false else x1 0 16:=by
 intro r
 induction r with
 | zero =>
   intro i n hi hn
   obtain ⟨n,rfl⟩:∃ m,n=m+1:=⟨n-1,by omega⟩
   obtain rfl:i=L.length:=by omega
   rw [ycc,cbF (by omega),List.drop_length]
   rfl
 | succ r ih =>
   intro i n hi hn
   obtain ⟨n,rfl⟩:∃ m,n=m+1:=⟨n-1,by omega⟩
   have hil:i<L.length:=by omega
   have hd:L.drop i=L.getD i default::L.drop (i+1):=ycE default hil
   have hm:L.getD i default∈L:=by
     rw [List.getD_eq_getElem?_getD,List.getElem?_eq_getElem hil]
     exact List.getElem_mem hil
   have hok:=hc _ hm
   have hv:=hdv _ hm
   rw [ycc,cbT (by omega)]
   dsimp only [lt]
   rw [yeG,asT (by omega),asT (by omega),Int.toNat_natCast,yvO hil,asCm,encCm4,encCm5,hd]
   generalize L.getD i default=c at *
   have hdp:=c.v.den_pos
   have hq:0<m / c.v.den:=Nat.div_pos (Nat.le_of_dvd (by omega) hv) hdp
   have hq2:m / c.v.den≤m:=Nat.div_le_self _ _
   have hq3:=Nat.div_le_self 1000000000000 (m / c.v.den)
   have e1:IntKind.i64.wrap (Int.tdiv (m:Int) ((c.v.den:Nat):Int))=((m / c.v.den:Nat):Int):=by rw [tdN5,wibN (by omega)]
   have e2:IntKind.i64.wrap (Int.tdiv (1000000000000:Int) ((m / c.v.den:Nat):Int))=((1000000000000 / (m / c.v.den):Nat):Int):=by
     rw [show Int.tdiv (1000000000000:Int) ((m / c.v.den:Nat):Int)=((1000000000000 / (m / c.v.den):Nat):Int) from rfl,wibN (by omega)]
   rw [asNo (by omega),e1,asNo (by omega),e2]
   unfold scT
   rw [List.all_cons]
   by_cases h:c.v.num≤((1000000000000 / (m / c.v.den):Nat):Int)
   · rw [decide_eq_true h,Bool.true_and,cbF (by omega),cast1,wibN (by omega),ih (i+1) n (by omega) (by omega)]
     rfl
   · rw [decide_eq_false h,Bool.false_and,cbT (by omega)]
     rfl
theorem yEk {N:Int} {L:List Cm} (hc:∀ c∈L,c.ok N) (hl:L.length<1000000) (K:Int→Int→Prop):ya2 (cms L) K=outSc (scaleL L) K:=by
 have key:∀ K,outSc (scaleL L) K→ya2 (cms L) K:=by
   intro K k
   unfold ya2 ymb
   refine ⟨L.length+1,?_⟩
   rw [yeG]
   refine yGf hc hl L.length 0 (L.length+1) 1 (by omega) (by omega) (by omega) (by omega) ?_
   rw [List.drop_zero]
   unfold scaleL at k
   cases e:scM L 1 with
   | none=>rw [e] at k;exact k
   | some m =>
     rw [e] at k
     dsimp only at k ⊢
     obtain ⟨h1,h2,_,h4⟩:=yqO L 1 (by omega) (by omega) e
     refine ⟨L.length+1,?_⟩
     rw [yeG]
     refine (yEj hc hl h1 h2 h4 L.length 0 (L.length+1) (by omega) (by omega)).mpr ?_
     rw [List.drop_zero]
     split
     · rename_i h;rw [if_pos h] at k;exact k
     · rename_i h;rw [if_neg h] at k;exact k
 cases e:scaleL L with
 | none=>exact ypu _ _ _ (fun K k=>key K (by rw [e];exact k)) K
 | some m=>exact ypu _ _ _ (fun K k=>key K (by rw [e];exact k)) K
end Go.Pf.Vc
namespace Go.Pf.Vc
open Go Go.Pf Go.Sort
theorem asI (n:Int) (P:Prop):asr (conf (.one (.i .i64)) (.int .i64 n)) P=P:=rfl
theorem ivI (n:Int):intOfV (.int .i64 n)=n:=rfl
theorem yfa {l:List Int} {i:Nat} (h:i<l.length):List.getD (ints l) i .nils=.int .i64 (hAt l i):=yuC h
theorem yEl (l:List Int) (i:Nat) (v:Int):List.set (ints l) i (.int .i64 v)=ints (l.set i v):=by unfold ints;rw [List.map_set]
theorem yHa:∀ {l:List Rat},incrR l→∀ {i j:Nat},j<l.length→(l.getD i 0<l.getD j 0↔i<j)∨l.length≤i
 | [],_,i,j,h=>by simp at h
 | x::r,hi,i,j,h=>by
   by_cases hl:(x::r).length≤i
   · exact .inr hl
   · left
     have key:∀ (a b:Nat),a<b→b<(x::r).length→(x::r).getD a 0<(x::r).getD b 0:=by
       intro a b hab hb
       cases b with
       | zero=>omega
       | succ b =>
         have hb2:b<r.length:=by simpa using hb
         cases a with
         | zero =>
           show x<r.getD b 0
           exact hi.1 _ (by rw [List.getD_eq_getElem?_getD,List.getElem?_eq_getElem hb2];exact List.getElem_mem hb2)
         | succ a =>
           show r.getD a 0<r.getD b 0
           rcases yHa hi.2 (i:=a) (j:=b) hb2 with h1 | h1
           · exact h1.2 (by omega)
           · omega
     constructor
     · intro hlt
       refine Nat.not_le.1 fun hle=>?_
       by_cases e:j=i
       · subst e;exact absurd hlt Rat.lt_irrefl
       · have:=key j i (by omega) (by omega)
         grind
     · intro hij
       exact key i j hij h
theorem ym3 {l:List Rat} (h:incrR l) {i j:Nat} (hi:i<l.length) (hj:j<l.length):l.getD i 0<l.getD j 0↔i<j:=by
 rcases yHa h (i:=i) (j:=j) hj with h1 | h1
 · exact h1
 · omega
theorem yeb {l:List Rat} {q:Rat} (h:q∈l):l.getD (l.idxOf q) 0=q:=by
 have hi:=ydf h
 rw [List.getD_eq_getElem?_getD,List.getElem?_eq_getElem hi]
 exact List.getElem_idxOf hi
theorem yEm {i j:Nat} (h:i+j<1000000):IntKind.i64.wrap (Int.fdiv (IntKind.u64.wrap (IntKind.i64.wrap ((i:Int)+(j:Int)))) 2)=(((i+j) / 2:Nat):Int):=by
 rw [← Int.natCast_add,wibN (by omega),wu64 ⟨by omega,by omega⟩,Int.fdiv_eq_ediv_of_nonneg _ (by omega)]
 rw [show (((i+j:Nat):Int) / 2)=(((i+j) / 2:Nat):Int) by omega,wibN (by omega)]
section
variable {a1:yaj} {ps:List Rat} {q:Rat}
theorem yJV (hi:incrR ps) (hs:∀ z∈ps,small z) (hl:ps.length<10000) (hq:q∈ps) {l0 l1:List PV} {x:List PV→List PV→List PV→Int→Int→Int→Int→Int→Bool→Prop} :
   ∀ (d i j n:Nat),j-i≤d→d<n→i≤ps.idxOf q→ps.idxOf q≤j→j≤ps.length →
     yaP yaf a1 x n l0 l1 (rts ps) q.num q.den (ps.length:Int) (i:Int) (j:Int)=x l0 l1 (rts ps) q.num q.den (ps.length:Int) (ps.idxOf q:Int) (ps.idxOf q:Int) false:=by
 intro d
 induction d with
 | zero =>
   intro i j n hd hn h1 h2 h3
   obtain ⟨n,rfl⟩:∃ m,n=m+1:=⟨n-1,by omega⟩
   rw [yaP,cbF (by omega),show i=ps.idxOf q by omega,show j=ps.idxOf q by omega]
 | succ d ih =>
   intro i j n hd hn h1 h2 h3
   obtain ⟨n,rfl⟩:∃ m,n=m+1:=⟨n-1,by omega⟩
   have hix:=ydf hq
   by_cases hij:i<j
   · rw [yaP,cbT (by omega)]
     dsimp only [lt]
     have hm:(i+j) / 2<ps.length:=by omega
     rw [yEm (by omega),ych,asT (by omega),asT (by omega),Int.toNat_natCast,ymw hm,asW,encW0,encW1,ygZ (yn3 hs hm).rv (hs q hq).rv,ydT,ydT,yD7]
     have hlt:ps.getD ((i+j) / 2) 0<q↔(i+j) / 2<ps.idxOf q:=by
       have:=ym3 hi hm hix
       rw [yeb hq] at this
       exact this
     by_cases hc:(i+j) / 2<ps.idxOf q
     · rw [decide_eq_true (hlt.2 hc),yab,cast1,wibN (by omega)]
       exact ih _ _ n (by omega) (by omega) (by omega) h2 h3
     · rw [decide_eq_false (fun k=>hc (hlt.1 k)),yaa]
       exact ih _ _ n (by omega) (by omega) h1 (by omega) (by omega)
   · rw [yaP,cbF (by omega),show i=ps.idxOf q by omega,show j=ps.idxOf q by omega]
theorem yJW (hi:incrR ps) (hs:∀ z∈ps,small z) (hl:ps.length<10000) (hq:q∈ps) {l0 l1 l2:List PV} {x:List PV→List PV→List PV→List PV→Int→Int→Int→Int→Int→Bool→Prop} :
   ∀ (d i j n:Nat),j-i≤d→d<n→i≤ps.idxOf q→ps.idxOf q≤j→j≤ps.length →
     yaJ yaf a1 x n l0 l1 l2 (rts ps) q.num q.den (ps.length:Int) (i:Int) (j:Int)=x l0 l1 l2 (rts ps) q.num q.den (ps.length:Int) (ps.idxOf q:Int) (ps.idxOf q:Int) false:=by
 intro d
 induction d with
 | zero =>
   intro i j n hd hn h1 h2 h3
   obtain ⟨n,rfl⟩:∃ m,n=m+1:=⟨n-1,by omega⟩
   rw [yaJ,cbF (by omega),show i=ps.idxOf q by omega,show j=ps.idxOf q by omega]
 | succ d ih =>
   intro i j n hd hn h1 h2 h3
   obtain ⟨n,rfl⟩:∃ m,n=m+1:=⟨n-1,by omega⟩
   have hix:=ydf hq
   by_cases hij:i<j
   · rw [yaJ,cbT (by omega)]
     dsimp only [lt]
     have hm:(i+j) / 2<ps.length:=by omega
     rw [yEm (by omega),ych,asT (by omega),asT (by omega),Int.toNat_natCast,ymw hm,asW,encW0,encW1,ygZ (yn3 hs hm).rv (hs q hq).rv,ydT,ydT,yD7]
     have hlt:ps.getD ((i+j) / 2) 0<q↔(i+j) / 2<ps.idxOf q:=by
       have:=ym3 hi hm hix
       rw [yeb hq] at this
       exact this
     by_cases hc:(i+j) / 2<ps.idxOf q
     · rw [decide_eq_true (hlt.2 hc),yab,cast1,wibN (by omega)]
       exact ih _ _ n (by omega) (by omega) (by omega) h2 h3
     · rw [decide_eq_false (fun k=>hc (hlt.1 k)),yaa]
       exact ih _ _ n (by omega) (by omega) h1 (by omega) (by omega)
   · rw [yaJ,cbF (by omega),show i=ps.idxOf q by omega,show j=ps.idxOf q by omega]
theorem bsAt0 (hi:incrR ps) (hs:∀ z∈ps,small z) (hl:ps.length<10000) (hq:q∈ps) {l0 l1:List PV} {G:List PV→List PV→Int→Prop} (k:G l0 l1 (ps.idxOf q:Int)) {a b N N':Int} (ea:q.num=a) (eb:(q.den:Int)=b) (eN:(ps.length:Int)=N) (eN':(ps.length:Int)=N') :
   ∃ n:Nat,yaP yaf a1
     (fun yl390 yl391 yl392 yi393 yi394 yi395 yi396 _ _=>(Go.Pf.jn (fun (yj402:Bool→Prop) =>
     (cbr (decide (yi396<yi395))
     (asr (decide ((0:Int)≤yi396))
     (asr (decide (yi396<(((List.length yl392):Nat):Int)))
     (lt (List.getD yl392 (yi396.toNat) .nils) (fun yr404 =>
     (asr (conf (.agg [.i .i64,.i .i64]) yr404)
     (yaf (intOfV (cellAt yr404 0)) (intOfV (cellAt yr404 1)) yi393 yi394 (fun yi405 =>
     (yj402 (yi405 ==(0:Int))))))))))
     (yj402 false)))
     (fun _=>G yl390 yl391 yi396))) n l0 l1 (rts ps) a b N (0:Int) N':=by
 subst ea eb eN eN'
 refine ⟨ps.length+1,?_⟩
 have hix:=ydf hq
 refine (yJV hi hs hl hq ps.length 0 ps.length (ps.length+1) (by omega) (by omega) (by omega) (by omega) (Nat.le_refl _)).mpr ?_
 dsimp only [Go.Pf.jn,lt]
 rw [cbT (by omega),ych,asT (by omega),asT (by omega),Int.toNat_natCast,ymw hix,asW,encW0,encW1,yeb hq,ygZ (hs q hq).rv (hs q hq).rv]
 exact k
theorem bsAt1 (hi:incrR ps) (hs:∀ z∈ps,small z) (hl:ps.length<10000) (hq:q∈ps) {l0 l1 l2:List PV} {G:List PV→List PV→List PV→Int→Prop} (k:G l0 l1 l2 (ps.idxOf q:Int)) {a b N N':Int} (ea:q.num=a) (eb:(q.den:Int)=b) (eN:(ps.length:Int)=N) (eN':(ps.length:Int)=N') :
   ∃ n:Nat,yaJ yaf a1
     (fun yl390 yl391 yl1954 yl392 yi393 yi394 yi395 yi396 _ _=>(Go.Pf.jn (fun (yj402:Bool→Prop) =>
     (cbr (decide (yi396<yi395))
     (asr (decide ((0:Int)≤yi396))
     (asr (decide (yi396<(((List.length yl392):Nat):Int)))
     (lt (List.getD yl392 (yi396.toNat) .nils) (fun yr404 =>
     (asr (conf (.agg [.i .i64,.i .i64]) yr404)
     (yaf (intOfV (cellAt yr404 0)) (intOfV (cellAt yr404 1)) yi393 yi394 (fun yi405 =>
     (yj402 (yi405 ==(0:Int))))))))))
     (yj402 false)))
     (fun _=>G yl390 yl391 yl1954 yi396))) n l0 l1 l2 (rts ps) a b N (0:Int) N':=by
 subst ea eb eN eN'
 refine ⟨ps.length+1,?_⟩
 have hix:=ydf hq
 refine (yJW hi hs hl hq ps.length 0 ps.length (ps.length+1) (by omega) (by omega) (by omega) (by omega) (Nat.le_refl _)).mpr ?_
 dsimp only [Go.Pf.jn,lt]
 rw [cbT (by omega),ych,asT (by omega),asT (by omega),Int.toNat_natCast,ymw hix,asW,encW0,encW1,yeb hq,ygZ (hs q hq).rv (hs q hq).rv]
 exact k
end
def bndT (h:List Int) (T:Int) (r:Nat):Prop:=∀ i,0≤hAt h i∧hAt h i+100000000000000*(r:Int)≤T
theorem yph {h:List Int} {T:Int} {r:Nat} {q:Rl} (hb:bndT h T (r+1)) (hq:q.2.1<h.length) (ha:q.2.2≤100000000000000):bndT (relax q h) T r:=by
 intro i
 have h1:=hb i
 have h2:=hb q.1
 rw [yuJ hq]
 split <;> omega
theorem yIn {h:List Int} {a b:Nat} {v:Int} (hb:b<h.length):h.set b (if hAt h a+v>hAt h b then hAt h a+v else hAt h b)=relax (a,b,v) h:=by
 unfold relax
 dsimp only
 split
 · rfl
 · apply List.ext_getElem?
   intro i
   rw [List.getElem?_set]
   by_cases e:b=i
   · subst e
     rw [if_pos rfl,if_pos hb]
     unfold hAt
     rw [List.getD_eq_getElem?_getD,List.getElem?_eq_getElem hb]
     rfl
   · rw [if_neg e]
theorem yvQ {h:List Int} {a b:Nat} {v w:Int} (hb:b<h.length) (hw:w=hAt h a+v):List.set (ints h) b (.int .i64 (if w>hAt h b then w else hAt h b))=ints (relax (a,b,v) h):=by
 subst hw
 rw [yEl,yIn hb]
def conF (st:List Int) (i r:Nat):List Rl:=(List.range' i r).map fun j=>(j-1,j,hAt st j)
theorem yIo (st:List Int) (i r:Nat):conF st i (r+1)=(i-1,i,hAt st i)::conF st (i+1) r:=by
 unfold conF
 rw [List.range'_succ]
 rfl
theorem yJX {a1:yaj} {st:List Int} {k:Nat} (hst:st.length=k) (h01:∀ i,0≤hAt st i∧hAt st i≤1) (hk:k<10000) {T:Int} (hT:T≤9000000000000000000) {l2 l3 l12:List PV} {i4 i5 i14 i15:Int} {x:List PV→List PV→List PV→List PV→Int→Int→Nat→Nat→Nat→Nat→Nat→Nat→List PV→Int→Int→Int→Bool→Prop} :
   ∀ (r i n:Nat) (h:List Int),i+r=k→1≤i→r<n→h.length=k→bndT h T r →
     ybh yaf a1 x n (ints st) (ints h) l2 l3 i4 i5 k k k k k k l12 (i:Int) i14 i15=x (ints st) (ints (pass (conF st i r) h)) l2 l3 i4 i5 k k k k k k l12 (k:Int) i14 i15 false:=by
 intro r
 induction r with
 | zero =>
   intro i n h hi h1 hn hl hb
   obtain ⟨n,rfl⟩:∃ m,n=m+1:=⟨n-1,by omega⟩
   obtain rfl:i=k:=by omega
   rw [ybh,cbF (by omega)]
   rfl
 | succ r ih =>
   intro i n h hi h1 hn hl hb
   obtain ⟨n,rfl⟩:∃ m,n=m+1:=⟨n-1,by omega⟩
   have e2:=wib (n:=(i:Int)-1) (by omega) (by omega)
   have e3:(i:Int)-1=((i-1:Nat):Int):=by omega
   rw [e3] at e2
   have hb1:=hb (i-1)
   have hs1:=h01 i
   have ew:IntKind.i64.wrap (hAt h (i-1)+hAt st i)=hAt h (i-1)+hAt st i:=wib (by omega) (by omega)
   rw [ybh,cbT (by omega)]
   dsimp only [lt]
   rw [yau,yau,hl,hst,e3,e2,Nat.zero_add,Nat.zero_add,Int.toNat_natCast,Int.toNat_natCast,yfa (by omega),yfa (by omega),yfa (by omega)]
   simp (discharger:=omega) only [asT,asI,ivI,asTr]
   have key:=ih (i+1) n (relax (i-1,i,hAt st i) h) (by omega) (by omega) (by omega) (by rw [yh7];exact hl) (yph hb (by show i<h.length;omega) (by show hAt st i≤_;omega))
   rw [cast1,wibN (by omega),yIo,ylo]
   exact Eq.trans (congrArg (fun z=>ybh yaf a1 x n (ints st) z l2 l3 i4 i5 k k k k k k l12 ((i+1:Nat):Int) i14 i15) (yvQ (by omega) ew)) key
end Go.Pf.Vc
namespace Go.Pf.Vc
open Go Go.Pf Go.Sort
theorem yGg {α:Type} (f:α→Prop) (k:α):Go.Pf.jn f k=f k:=rfl
def vC (m s:Nat) (c:Cm):Int:=c.v.num*((m / c.v.den:Nat):Int)*(s:Int)
def clR (ps:List Rat) (m s:Nat) (L:List Cm):List Rl:=L.flatMap fun c=>[(ps.idxOf c.f,ps.idxOf c.t,vC m s c),(ps.idxOf c.t,ps.idxOf c.f,-vC m s c)]
def stF (ps:List Rat):List Cm→List Int→Option (List Int)
 | [],st=>some st
 | c::r,st=>if c.m then (if c.v=0 then (if c.f=c.t then stF ps r st else none) else stF ps r (st.set (ps.idxOf c.t) 1)) else stF ps r st
def hR (ps:List Rat) (m:Nat) (L:List Cm) (st:List Int):List Rl:=conF st 1 (ps.length-1)++clR ps m (ps.length+1) L
def hts (ps:List Rat) (m:Nat) (L:List Cm):Option (List Int):=match stF ps L (zeros ps.length) with
 | some st=>bf0 (hR ps m L st) ps.length
 | none=>none
structure Hy (N:Int) (ps:List Rat) (L:List Cm) (m:Nat):Prop where
 inc:incrR ps
 sm:∀ z∈ps,small z
 two:2≤ps.length
 top:ps.length≤99
 ok:∀ c∈L,c.ok N∧c.f∈ps∧c.t∈ps
 len:L.length≤50
 sc:Sc L m
 p0:ps.getD 0 0=0
theorem yyP {N:Int} {ps:List Rat} {L:List Cm} {m:Nat} (H:Hy N ps L m) {c:Cm} (hc:c∈L):0≤c.v.num∧0≤c.v.num*((m / c.v.den:Nat):Int)∧c.v.num*((m / c.v.den:Nat):Int)≤1000000000000∧0≤vC m (ps.length+1) c∧vC m (ps.length+1) c≤100000000000000:=by
 have h1:=H.sc.val c hc
 have h2:0≤c.v.num:=Rat.num_nonneg.2 (H.ok c hc).1.v0
 have h3:=Int.mul_nonneg h2 (show 0≤((m / c.v.den:Nat):Int) from Int.natCast_nonneg _)
 have ht:=H.top
 refine ⟨h2,h3,h1,Int.mul_nonneg h3 (Int.natCast_nonneg _),?_⟩
 unfold vC
 have h4:c.v.num*((m / c.v.den:Nat):Int)*((ps.length+1:Nat):Int)≤1000000000000*((ps.length+1:Nat):Int):=Int.mul_le_mul_of_nonneg_right h1 (Int.natCast_nonneg _)
 omega
theorem yLq {N:Int} {ps:List Rat} {L:List Cm} {m:Nat} (H:Hy N ps L m) {c:Cm} (hc:c∈L) :
   IntKind.i64.wrap (IntKind.i64.wrap (c.v.num*IntKind.i64.wrap (Int.tdiv (m:Int) ((c.v.den:Nat):Int)))*((ps.length+1:Nat):Int))=vC m (ps.length+1) c:=by
 obtain ⟨h1,h2,h3,h4,h5⟩:=yyP H hc
 have h6:=Nat.div_le_self m c.v.den
 have h7:=H.sc.top
 rw [tdN5,wibN (by omega),wib (n:=c.v.num*((m / c.v.den:Nat):Int)) (by omega) (by omega)]
 unfold vC at h4 h5 ⊢
 exact wib (by omega) (by omega)
theorem setR1 {h:List Int} {a b:Nat} {v:Int} (ha:a<h.length) (hb:b<h.length) (h1:-9223372036854775808≤hAt h a+v) (h2:hAt h a+v≤9223372036854775807) :
   List.set (ints h) (0+((b:Nat):Int).toNat) (.int .i64 (if IntKind.i64.wrap ((intOfV (List.getD (ints h) (0+((a:Nat):Int).toNat) .nils))+v)>(intOfV (List.getD (ints h) (0+((b:Nat):Int).toNat) .nils)) then IntKind.i64.wrap ((intOfV (List.getD (ints h) (0+((a:Nat):Int).toNat) .nils))+v) else (intOfV (List.getD (ints h) (0+((b:Nat):Int).toNat) .nils))))=ints (relax (a,b,v) h):=by
 have e1:intOfV (List.getD (ints h) (0+((a:Nat):Int).toNat) .nils)=hAt h a:=by rw [Int.toNat_natCast,Nat.zero_add,yfa ha,ivI]
 have e2:intOfV (List.getD (ints h) (0+((b:Nat):Int).toNat) .nils)=hAt h b:=by rw [Int.toNat_natCast,Nat.zero_add,yfa hb,ivI]
 rw [e1,e2,wib h1 h2,Int.toNat_natCast,Nat.zero_add]
 exact yvQ hb rfl
theorem setR2 {h:List Int} {a b:Nat} {v:Int} (ha:a<h.length) (hb:b<h.length) (h1:-9223372036854775808≤hAt h b-v) (h2:hAt h b-v≤9223372036854775807) :
   List.set (ints h) (0+((a:Nat):Int).toNat) (.int .i64 (if IntKind.i64.wrap ((intOfV (List.getD (ints h) (0+((b:Nat):Int).toNat) .nils))-v)>(intOfV (List.getD (ints h) (0+((a:Nat):Int).toNat) .nils)) then IntKind.i64.wrap ((intOfV (List.getD (ints h) (0+((b:Nat):Int).toNat) .nils))-v) else (intOfV (List.getD (ints h) (0+((a:Nat):Int).toNat) .nils))))=ints (relax (b,a,-v) h):=by
 have e1:intOfV (List.getD (ints h) (0+((a:Nat):Int).toNat) .nils)=hAt h a:=by rw [Int.toNat_natCast,Nat.zero_add,yfa ha,ivI]
 have e2:intOfV (List.getD (ints h) (0+((b:Nat):Int).toNat) .nils)=hAt h b:=by rw [Int.toNat_natCast,Nat.zero_add,yfa hb,ivI]
 rw [e1,e2,wib h1 h2,Int.toNat_natCast,Nat.zero_add]
 exact yvQ ha (by omega)
theorem yLr {N:Int} {ps:List Rat} {L:List Cm} {m:Nat} (H:Hy N ps L m) {a1:yaj} {T:Int} (hT:T≤9000000000000000000) {l0 l3 l12:List PV} {i13 i14:Int} {x:List PV→List PV→List PV→List PV→Int→Int→Nat→Nat→Nat→Nat→Nat→Nat→List PV→Int→Int→List PV→Int→Int→Bool→Prop} :
   ∀ (r i n:Nat) (h:List Int),i+r=L.length→r<n→h.length=ps.length→bndT h T (2*r) →
     x l0 (ints (pass (clR ps m (ps.length+1) (L.drop i)) h)) (rts ps) l3 (m:Int) ((ps.length+1:Nat):Int) ps.length ps.length ps.length ps.length ps.length ps.length l12 i13 i14 (cms L) (L.length:Int) (L.length:Int) false →
     yby yaf a1 x n l0 (ints h) (rts ps) l3 (m:Int) ((ps.length+1:Nat):Int) ps.length ps.length ps.length ps.length ps.length ps.length l12 i13 i14 (cms L) (L.length:Int) (i:Int):=by
 intro r
 induction r with
 | zero =>
   intro i n h hi hn hl hb k
   obtain ⟨n,rfl⟩:∃ m,n=m+1:=⟨n-1,by omega⟩
   obtain rfl:i=L.length:=by omega
   rw [List.drop_length] at k
   rw [yby,cbF (by omega)]
   exact k
 | succ r ih =>
   intro i n h hi hn hl hb k
   obtain ⟨n,rfl⟩:∃ m,n=m+1:=⟨n-1,by omega⟩
   have hil:i<L.length:=by omega
   have hLl:=H.len
   have hd:L.drop i=L.getD i default::L.drop (i+1):=ycE default hil
   have hm:L.getD i default∈L:=by
     rw [List.getD_eq_getElem?_getD,List.getElem?_eq_getElem hil]
     exact List.getElem_mem hil
   obtain ⟨c1,c2,c3⟩:=H.ok _ hm
   have hat:=yvO hil
   rw [hd] at k
   generalize L.getD i default=c at *
   obtain ⟨v1,v2,v3,v4,v5⟩:=yyP H hm
   have hw:=yLq H hm
   have ht:=H.top
   have hdv:=c.v.den_pos
   have hia:=ydf c2
   have hib:=ydf c3
   have hba:=hb (ps.idxOf c.f)
   rw [yby,cbT (by omega),yeG,asT (by omega),asT (by omega),Int.toNat_natCast,hat]
   show asr (conf (.agg [.i .i64,.i .i64,.i .i64,.i .i64,.i .i64,.i .i64,.b]) (encCm c)) _
   rw [asCm]
   refine bsAt1 H.inc H.sm (by omega) c2 ?_ (encCm0 c).symm (encCm1 c).symm (by rw [ych]) (by rw [ych])
   refine bsAt1 H.inc H.sm (by omega) c3 ?_ (encCm2 c).symm (encCm3 c).symm (by rw [ych]) (by rw [ych])
   dsimp only [lt]
   rw [encCm5,encCm4,asNo (by omega),hw]
   have hb1:=yph (q:=(ps.idxOf c.f,ps.idxOf c.t,vC m (ps.length+1) c)) (r:=2*r+1) (by rw [show 2*r+1+1=2*(r+1) by omega];exact hb) (by show ps.idxOf c.t<h.length;omega) v5
   have hl1:(relax (ps.idxOf c.f,ps.idxOf c.t,vC m (ps.length+1) c) h).length=ps.length:=by rw [yh7];exact hl
   have hbb:=hb1 (ps.idxOf c.t)
   rw [setR1 (by omega) (by omega) (by omega) (by omega)]
   rw [setR2 (by omega) (by omega) (by omega) (by omega)]
   simp (discharger:=omega) only [yau,hl,hl1,asT,asTr,Int.toNat_natCast,Nat.zero_add,yfa,asI]
   rw [cast1,wibN (by omega)]
   refine ih (i+1) n _ (by omega) (by omega) (by rw [yh7];exact hl1) (yph hb1 (by show ps.idxOf c.f<_;omega) (by show -vC m (ps.length+1) c≤_;omega)) ?_
   exact k
theorem yGh {a b:List Int} (hl:a.length=b.length) (hl2:a.length<1000000) {x0:List PV→List PV→Int→Int→Bool→Prop} {x1:Bool→Prop} :
   ∀ (r i n:Nat),i+r=a.length→r<n→yaN x0 x1 n (ints a) (ints b) (a.length:Int) (i:Int)=if a.drop i=b.drop i then x0 (ints a) (ints b) (a.length:Int) (a.length:Int) false else x1 false:=by
 intro r
 induction r with
 | zero =>
   intro i n hi hn
   obtain ⟨n,rfl⟩:∃ m,n=m+1:=⟨n-1,by omega⟩
   obtain rfl:i=a.length:=by omega
   rw [yaN,cbF (by omega),if_pos (by rw [List.drop_length,List.drop_eq_nil_of_le (by omega)])]
 | succ r ih =>
   intro i n hi hn
   obtain ⟨n,rfl⟩:∃ m,n=m+1:=⟨n-1,by omega⟩
   have hil:i<a.length:=by omega
   have h1:a.drop i=a.getD i 0::a.drop (i+1):=ycE 0 hil
   have h2:b.drop i=b.getD i 0::b.drop (i+1):=ycE 0 (by omega)
   rw [yaN,cbT (by omega)]
   dsimp only [lt]
   rw [yau,yau,asT (by omega),asT (by omega),Int.toNat_natCast,yuC hil,asI,asT (by omega),asT (by omega),yuC (by omega),asI,ivI,ivI,cast1,wibN (by omega),h1,h2]
   by_cases h:a.getD i 0=b.getD i 0
   · rw [cnF h,ih (i+1) n (by omega) (by omega),h]
     by_cases h3:a.drop (i+1)=b.drop (i+1)
     · rw [if_pos h3,if_pos (by rw [h3])]
     · rw [if_neg h3,if_neg (fun k=>h3 (List.cons.inj k).2)]
   · rw [cnT h,if_neg (fun k=>h (List.cons.inj k).1)]
theorem yJY {a b:List Int} (hl2:a.length<1000000) (K:Bool→Prop):yag (ints a) (ints b) K=K (decide (a=b)):=by
 refine ynJ _ _ _ (fun K k=>?_) K
 unfold yag yfq
 rw [yau,yau]
 by_cases hl:a.length=b.length
 · rw [cnF (by omega)]
   refine ⟨a.length+1,?_⟩
   refine (yGh hl hl2 a.length 0 (a.length+1) (by omega) (by omega)).mpr ?_
   rw [List.drop_zero,List.drop_zero]
   split
   · rename_i h;rw [decide_eq_true h] at k;exact k
   · rename_i h;rw [decide_eq_false h] at k;exact k
 · rw [cnT (by omega)]
   rw [decide_eq_false (fun e=>hl (by rw [e]))] at k
   exact k
theorem yIp {h:List Int} (hl:h.length<1000000):clnDOk 1 8 (ints h) 0 h.length h.length true=true:=by
 unfold clnDOk
 have e1:(ints h).all PV.scal=true:=by
   rw [List.all_eq_true]
   intro x hx
   obtain ⟨n,_,rfl⟩:=List.mem_map.1 hx
   rfl
 have e2:cloneOk 1 8 (ints h)=true:=by
   unfold cloneOk
   rw [Bool.and_eq_true]
   constructor
   · cases h <;> rfl
   · rw [decide_eq_true_eq,yau]
     show _≤35184372088832
     omega
 rw [List.drop_zero,show List.take h.length (ints h)=ints h by rw [← yau h,List.take_length],e1,e2,yau]
 simp
theorem yq6 {T:Int}:∀ (R:List Rl) (h:List Int) (r:Nat),rOk R h.length→(∀ q∈R,q.2.2≤100000000000000)→bndT h T (R.length+r)→bndT (pass R h) T r
 | [],h,r,_,_,hb=>by rw [yJJ];simpa using hb
 | q::R,h,r,ho,ha,hb=>by
   rw [ylo]
   refine yq6 R _ r (by rw [yh7];exact ho.tail) (fun p hp=>ha p (List.mem_cons_of_mem _ hp)) (yph ?_ (ho q List.mem_cons_self).2 (ha q List.mem_cons_self))
   rw [show R.length+r+1=(q::R).length+r by simp only [List.length_cons];omega]
   exact hb
theorem bndT.less {h:List Int} {T:Int} {r r':Nat} (hb:bndT h T r) (hr:r'≤r):bndT h T r':=fun i=>by
 have:=hb i
 omega
theorem yyQ (st:List Int) (i r:Nat):(conF st i r).length=r:=by simp [conF]
theorem yyR {st:List Int} {i r:Nat} {q:Rl} (h:q∈conF st i r):∃ j,i≤j∧j<i+r∧q=(j-1,j,hAt st j):=by
 unfold conF at h
 obtain ⟨j,h1,rfl⟩:=List.mem_map.1 h
 rw [List.mem_range'_1] at h1
 exact ⟨j,h1.1,h1.2,rfl⟩
theorem yq7 {ps:List Rat} {m s:Nat} {L:List Cm} {q:Rl}:q∈clR ps m s L↔∃ c∈L,q=(ps.idxOf c.f,ps.idxOf c.t,vC m s c)∨q=(ps.idxOf c.t,ps.idxOf c.f,-vC m s c):=by
 unfold clR
 rw [List.mem_flatMap]
 constructor
 · rintro ⟨c,h1,h2⟩;exact ⟨c,h1,by simpa using h2⟩
 · rintro ⟨c,h1,h2⟩;exact ⟨c,h1,by simpa using h2⟩
theorem yHb (ps:List Rat) (m s:Nat) (L:List Cm):(clR ps m s L).length=2*L.length:=by
 induction L with
 | nil=>rfl
 | cons c r ih =>
   show (_::_::clR ps m s r).length=_
   simp only [List.length_cons];omega
theorem hR_ok {N:Int} {ps:List Rat} {L:List Cm} {m:Nat} (H:Hy N ps L m) (st:List Int):rOk (hR ps m L st) ps.length:=by
 intro q hq
 rcases List.mem_append.1 hq with h | h
 · obtain ⟨j,h1,h2,rfl⟩:=yyR h
   have:=H.two
   exact ⟨by show j-1<_;omega,by show j<_;omega⟩
 · obtain ⟨c,hc,rfl | rfl⟩:=yq7.1 h
   · exact ⟨ydf (H.ok c hc).2.1,ydf (H.ok c hc).2.2⟩
   · exact ⟨ydf (H.ok c hc).2.2,ydf (H.ok c hc).2.1⟩
theorem yJZ {N:Int} {ps:List Rat} {L:List Cm} {m:Nat} (H:Hy N ps L m) {st:List Int} (h01:∀ i,0≤hAt st i∧hAt st i≤1):∀ q∈hR ps m L st,q.2.2≤100000000000000:=by
 intro q hq
 rcases List.mem_append.1 hq with h | h
 · obtain ⟨j,_,_,rfl⟩:=yyR h
   have:=h01 j
   show hAt st j≤_
   omega
 · obtain ⟨c,hc,rfl | rfl⟩:=yq7.1 h
   · exact (yyP H hc).2.2.2.2
   · have:=(yyP H hc).2.2.2.1
     show -vC m (ps.length+1) c≤_
     omega
theorem yEn {N:Int} {ps:List Rat} {L:List Cm} {m:Nat} (H:Hy N ps L m) {st:List Int} (hst:st.length=ps.length) (h01:∀ i,0≤hAt st i∧hAt st i≤1) {T:Int} (hT:T≤9000000000000000000) {x0:List PV→List PV→List PV→List PV→Int→Int→Nat→Nat→Nat→Nat→Nat→Nat→Int→Int→Bool→Prop} {x1:List PV→List PV→List PV→Prop} {x2:List PV→List PV→List PV→Nat→Nat→Nat→Prop} {K0:Prop} {Kf:List Int→Prop}
   (h0:∀ a b c d e f g h i j k l m n o,x0 a b c d e f g h i j k l m n o=K0) (h1:∀ a b c,x1 a b c=K0) (h2:∀ g:List Int,g.length=ps.length→x2 (ints st) (ints g) (rts ps) ps.length ps.length ps.length=Kf g) :
   ∀ (r i n:Nat) (h:List Int),i+r=ps.length+1→r<n→h.length=ps.length→bndT h T (200*r) →
     (match iterP (hR ps m L st) r h with | none=>K0 | some g=>if hAt st 0>0 then K0 else Kf g) →
     ybz yaf yag x0 x1 x2 n (ints st) (ints h) (rts ps) (cms L) (m:Int) ((ps.length+1:Nat):Int) ps.length ps.length ps.length ps.length ps.length ps.length ((ps.length+1:Nat):Int) (i:Int):=by
 intro r
 induction r with
 | zero =>
   intro i n h hi hn hl hb k
   obtain ⟨n,rfl⟩:∃ m,n=m+1:=⟨n-1,by omega⟩
   rw [ybz,cbF (by omega),h0]
   exact k
 | succ r ih =>
   intro i n h hi hn hl hb k
   obtain ⟨n,rfl⟩:∃ m,n=m+1:=⟨n-1,by omega⟩
   have htwo:=H.two
   have htop:=H.top
   have hLl:=H.len
   have hho:rOk (hR ps m L st) h.length:=by rw [hl];exact hR_ok H st
   have hlen:(hR ps m L st).length=ps.length-1+2*L.length:=by unfold hR;rw [List.length_append,yyQ,yHb]
   have hadd:=yJZ H h01
   have e1:pass (hR ps m L st) h=pass (clR ps m (ps.length+1) L) (pass (conF st 1 (ps.length-1)) h):=yEa ..
   have hp1:(pass (conF st 1 (ps.length-1)) h).length=ps.length:=by rw [ygG];exact hl
   have hp2:(pass (hR ps m L st) h).length=ps.length:=by rw [ygG];exact hl
   have hb1:bndT (pass (conF st 1 (ps.length-1)) h) T (2*L.length):=by
     refine yq6 _ _ _ (fun q hq=>hho q (List.mem_append_left _ hq)) (fun q hq=>hadd q (List.mem_append_left _ hq)) (hb.less ?_)
     rw [yyQ];omega
   have hb2:bndT (pass (hR ps m L st) h) T (200*r):=yq6 _ _ _ hho hadd (hb.less (by rw [hlen];omega))
   rw [ybz,cbT (by omega)]
   have hcl:=yIp (h:=h) (by omega)
   rw [hl] at hcl
   rw [hcl,yat]
   refine ⟨ps.length+1,?_⟩
   refine (yJX hst h01 (by omega) hT (ps.length-1) 1 (ps.length+1) h (by omega) (by omega) (by omega) hl (hb.less (by omega))).mpr ?_
   refine ⟨L.length+1,?_⟩
   rw [yeG]
   refine yLr H hT L.length 0 (L.length+1) _ (by omega) (by omega) hp1 hb1 ?_
   rw [List.drop_zero,← e1]
   dsimp only [lt]
   rw [yau,hp2,asT (by omega),asE,asT (by omega),yfa (by omega),asI,ivI]
   unfold iterP at k
   by_cases hz:hAt (pass (hR ps m L st) h) 0>0
   · rw [if_pos hz] at k
     rw [cbT hz,h1];exact k
   · rw [if_neg hz] at k
     have ew:List.take ps.length (List.drop 0 (ints h))=ints h:=by rw [List.drop_zero,← hl,← yau h,List.take_length]
     have ew2:List.take ps.length (ints (pass (hR ps m L st) h))=ints (pass (hR ps m L st) h):=by rw [← hp2,← yau (pass (hR ps m L st) h),List.take_length]
     rw [cbF hz,asE,asT (by omega),ew,ew2,yJY (by omega)]
     by_cases hf:pass (hR ps m L st) h=h
     · rw [if_pos hf] at k
       dsimp only at k
       rw [decide_eq_true hf,yab,yau,hst,asT (by omega),asE,asT (by omega),yfa (by omega),asI,ivI]
       by_cases h5:hAt st 0>0
       · rw [if_pos h5] at k
         rw [cbT h5,h1];exact k
       · rw [if_neg h5] at k
         rw [cbF h5,h2 _ hp2];exact k
     · rw [if_neg hf] at k
       rw [decide_eq_false hf,yaa,cast1,wibN (by omega)]
       exact ih (i+1) n _ (by omega) (by omega) hp2 hb2 k
end Go.Pf.Vc
namespace Go.Pf.Vc
open Go Go.Pf Go.Sort
theorem yw6 {ps:List Rat}:∀ {L:List Cm} {st st':List Int},stF ps L st=some st'→st'.length=st.length
 | [],st,st',e=>by cases e;rfl
 | c::r,st,st',e=>by
   unfold stF at e
   split at e
   · split at e
     · split at e
       · exact yw6 e
       · cases e
     · rw [yw6 e];simp
   · exact yw6 e
theorem yLs {st:List Int} {j:Nat} (h:∀ i,0≤hAt st i∧hAt st i≤1) (hj:j<st.length):∀ i,0≤hAt (st.set j 1) i∧hAt (st.set j 1) i≤1:=by
 intro i
 rw [yCj hj]
 split
 · omega
 · exact h i
theorem ypi {ps:List Rat}:∀ {L:List Cm} {st st':List Int},(∀ c∈L,c.t∈ps)→st.length=ps.length→(∀ i,0≤hAt st i∧hAt st i≤1)→stF ps L st=some st'→∀ i,0≤hAt st' i∧hAt st' i≤1
 | [],st,st',_,_,h,e=>by cases e;exact h
 | c::r,st,st',hc,hl,h,e=>by
   have hc':∀ d∈r,d.t∈ps:=fun d hd=>hc d (List.mem_cons_of_mem _ hd)
   unfold stF at e
   split at e
   · split at e
     · split at e
       · exact ypi hc' hl h e
       · cases e
     · refine ypi hc' (by simpa using hl) (yLs h ?_) e
       rw [hl];exact ydf (hc c List.mem_cons_self)
   · exact ypi hc' hl h e
theorem ys7 {ps:List Rat}:∀ {L:List Cm} {st st':List Int},(∀ c∈L,c.t∈ps)→st.length=ps.length→stF ps L st=some st' →
   (∀ i,hAt st' i=1↔hAt st i=1∨∃ c∈L,c.m=true∧c.v≠0∧ps.idxOf c.t=i)∧∀ c∈L,c.m=true→c.v=0→c.f=c.t
 | [],st,st',_,_,e=>by cases e;simp
 | c::r,st,st',hc,hl,e=>by
   have hc':∀ d∈r,d.t∈ps:=fun d hd=>hc d (List.mem_cons_of_mem _ hd)
   unfold stF at e
   by_cases hm:c.m=true
   · rw [if_pos hm] at e
     by_cases hv:c.v=0
     · rw [if_pos hv] at e
       by_cases hf:c.f=c.t
       · rw [if_pos hf] at e
         obtain ⟨i1,i2⟩:=ys7 hc' hl e
         refine ⟨fun i=>?_,fun d hd hdm hdv=>?_⟩
         · rw [i1 i]
           constructor
           · rintro (h | ⟨d,h1,h2⟩)
             · exact .inl h
             · exact .inr ⟨d,List.mem_cons_of_mem _ h1,h2⟩
           · rintro (h | ⟨d,h1,h2,h3,h4⟩)
             · exact .inl h
             · rcases List.mem_cons.1 h1 with rfl | h1
               · exact absurd hv h3
               · exact .inr ⟨d,h1,h2,h3,h4⟩
         · rcases List.mem_cons.1 hd with rfl | hd
           · exact hf
           · exact i2 d hd hdm hdv
       · rw [if_neg hf] at e;cases e
     · rw [if_neg hv] at e
       have hj:ps.idxOf c.t<st.length:=by rw [hl];exact ydf (hc c List.mem_cons_self)
       obtain ⟨i1,i2⟩:=ys7 hc' (by simpa using hl) e
       refine ⟨fun i=>?_,fun d hd hdm hdv=>?_⟩
       · rw [i1 i,yCj hj]
         constructor
         · rintro (h | ⟨d,h1,h2⟩)
           · by_cases ei:i=ps.idxOf c.t
             · exact .inr ⟨c,List.mem_cons_self,hm,hv,ei.symm⟩
             · rw [if_neg ei] at h;exact .inl h
           · exact .inr ⟨d,List.mem_cons_of_mem _ h1,h2⟩
         · rintro (h | ⟨d,h1,h2,h3,h4⟩)
           · left;split
             · rfl
             · exact h
           · rcases List.mem_cons.1 h1 with rfl | h1
             · left;rw [if_pos h4.symm]
             · exact .inr ⟨d,h1,h2,h3,h4⟩
       · rcases List.mem_cons.1 hd with rfl | hd
         · exact absurd hdv hv
         · exact i2 d hd hdm hdv
   · rw [if_neg hm] at e
     obtain ⟨i1,i2⟩:=ys7 hc' hl e
     refine ⟨fun i=>?_,fun d hd hdm hdv=>?_⟩
     · rw [i1 i]
       constructor
       · rintro (h | ⟨d,h1,h2⟩)
         · exact .inl h
         · exact .inr ⟨d,List.mem_cons_of_mem _ h1,h2⟩
       · rintro (h | ⟨d,h1,h2,h3,h4⟩)
         · exact .inl h
         · rcases List.mem_cons.1 h1 with rfl | h1
           · exact absurd h2 hm
           · exact .inr ⟨d,h1,h2,h3,h4⟩
     · rcases List.mem_cons.1 hd with rfl | hd
       · exact absurd hdm hm
       · exact i2 d hd hdm hdv
theorem yJ0 {N:Int} {ps:List Rat} {L:List Cm} {m:Nat} (H:Hy N ps L m) {st:List Int} (hs:stF ps L (zeros ps.length)=some st) (h0:hAt st 0>0):bf0 (hR ps m L st) ps.length=none:=by
 have h01:=ypi (fun c hc=>(H.ok c hc).2.2) (ybX _) (fun i=>by rw [ydO];omega) hs 0
 obtain ⟨h1,_⟩:=ys7 (fun c hc=>(H.ok c hc).2.2) (ybX _) hs
 rcases (h1 0).1 (by omega) with h | ⟨c,hc,hm,hv,hi⟩
 · rw [ydO] at h;omega
 · obtain ⟨c1,c2,c3⟩:=H.ok c hc
   have hf0:ps.idxOf c.f=0:=by
     have ht0:c.t=0:=by rw [← yeb c3,hi,H.p0]
     have hft:=c1.ft
     have hff:=c1.f0
     have:c.f=c.t:=by grind
     rw [this,hi]
   cases e:bf0 (hR ps m L st) ps.length with
   | none=>rfl
   | some g =>
     obtain ⟨hsol,_,_⟩:=yyJ (hR_ok H st) e
     have h2:=hsol.ob (ps.idxOf c.f,ps.idxOf c.t,vC m (ps.length+1) c) (List.mem_append_right _ (yq7.2 ⟨c,hc,.inl rfl⟩))
     have h3:hAt g (ps.idxOf c.f)+vC m (ps.length+1) c≤hAt g (ps.idxOf c.t):=h2
     rw [hf0,hi] at h3
     have hvp:0<vC m (ps.length+1) c:=by
       have h5:0<c.v.num:=by
         have h6:=Rat.num_nonneg.2 c1.v0
         have h7:c.v.num≠0:=fun e=>hv (Rat.num_eq_zero.1 e)
         omega
       have h8:0<m / c.v.den:=Nat.div_pos (Nat.le_of_dvd (by have:=H.sc.one;omega) (H.sc.dvd c hc)) c.v.den_pos
       exact Int.mul_pos (Int.mul_pos h5 (by omega)) (by omega)
     omega
theorem yGi {N:Int} {ps:List Rat} {L:List Cm} {m:Nat} (H:Hy N ps L m) {a1:yaj} {l2:List PV} {i3 i4:Int} {x0:List PV→List PV→List PV→Int→Int→Nat→Nat→Nat→List PV→Int→Int→Bool→Prop} {x1:List PV→List PV→Prop} {X:Prop} (hx1:∀ a b,x1 a b=X) :
   ∀ (r i n:Nat) (st:List Int),i+r=L.length→r<n→st.length=ps.length →
     (match stF ps (L.drop i) st with | some st'=>x0 (ints st') (rts ps) l2 i3 i4 ps.length ps.length ps.length (cms L) (L.length:Int) (L.length:Int) false | none=>X) →
     ya3 yaf a1 x0 x1 n (ints st) (rts ps) l2 i3 i4 ps.length ps.length ps.length (cms L) (L.length:Int) (i:Int):=by
 intro r
 induction r with
 | zero =>
   intro i n st hi hn hl k
   obtain ⟨n,rfl⟩:∃ m,n=m+1:=⟨n-1,by omega⟩
   obtain rfl:i=L.length:=by omega
   rw [List.drop_length] at k
   rw [ya3,cbF (by omega)]
   exact k
 | succ r ih =>
   intro i n st hi hn hl k
   obtain ⟨n,rfl⟩:∃ m,n=m+1:=⟨n-1,by omega⟩
   have hil:i<L.length:=by omega
   have hLl:=H.len
   have hd:L.drop i=L.getD i default::L.drop (i+1):=ycE default hil
   have hm:L.getD i default∈L:=by
     rw [List.getD_eq_getElem?_getD,List.getElem?_eq_getElem hil]
     exact List.getElem_mem hil
   obtain ⟨c1,c2,c3⟩:=H.ok _ hm
   have hat:=yvO hil
   rw [hd] at k
   generalize L.getD i default=c at *
   have ht:=H.top
   have hib:=ydf c3
   unfold stF at k
   rw [ya3,cbT (by omega),yGg,yeG,asT (by omega),asT (by omega),Int.toNat_natCast,hat]
   show asr (conf (.agg [.i .i64,.i .i64,.i .i64,.i .i64,.i .i64,.i .i64,.b]) (encCm c)) _
   rw [asCm,encCm6]
   by_cases hcm:c.m=true
   · rw [if_pos hcm] at k
     rw [hcm,Bool.not_true,yaa,encCm4]
     have hvn:=Rat.num_nonneg.2 c1.v0
     by_cases hv:c.v=0
     · have hn0:c.v.num=0:=Rat.num_eq_zero.2 hv
       rw [if_pos hv] at k
       rw [cbF (by omega),encCm0,encCm1,encCm2,encCm3,ratEq]
       by_cases hf:c.f=c.t
       · rw [if_pos hf] at k
         rw [decide_eq_true hf,Bool.not_true,yaa]
         show ya3 _ _ _ _ _ _ _ _ _ _ _ _ _ _ _ (IntKind.i64.wrap ((i:Int)+1))
         rw [cast1,wibN (by omega)]
         exact ih (i+1) n st (by omega) (by omega) hl k
       · rw [if_neg hf] at k
         rw [decide_eq_false hf,Bool.not_false,yab,hx1]
         exact k
     · have hn0:c.v.num≠0:=fun e=>hv (Rat.num_eq_zero.1 e)
       rw [if_neg hv] at k
       rw [cbT (by omega)]
       refine bsAt0 H.inc H.sm (by omega) c3 ?_ (encCm2 c).symm (encCm3 c).symm (by rw [ych]) (by rw [ych])
       dsimp only [lt]
       rw [yau,hl,asT (by omega),asT (by omega),asE,Int.toNat_natCast,Nat.zero_add,asT (by omega),yfa (by omega),asI,yEl,cast1,wibN (by omega)]
       exact ih (i+1) n _ (by omega) (by omega) (by simpa using hl) k
   · rw [if_neg hcm] at k
     have hcm':c.m=false:=by simpa using hcm
     rw [hcm',Bool.not_false,yab]
     show ya3 _ _ _ _ _ _ _ _ _ _ _ _ _ _ _ (IntKind.i64.wrap ((i:Int)+1))
     rw [cast1,wibN (by omega)]
     exact ih (i+1) n st (by omega) (by omega) hl k
theorem yyS (k:Nat):List.replicate k (PV.int .i64 0)=ints (zeros k):=by
 unfold ints zeros
 rw [List.map_replicate]
theorem hts_P {N:Int} {ps:List Rat} {L:List Cm} {m:Nat} (H:Hy N ps L m) {st:List Int} (hs:stF ps L (zeros ps.length)=some st):iterP (hR ps m L st) (ps.length+1) (zeros ps.length)=hts ps m L:=by
 unfold hts
 rw [hs]
 exact yIe (hR_ok H st)
theorem ys8 {N:Int} {ps:List Rat} {L:List Cm} {m:Nat} (H:Hy N ps L m) {K0:Prop} {K:List PV→Prop} (k:match hts ps m L with | some g=>K (ints g) | none=>K0):yaI (rts ps) (cms L) (m:Int) K0 K:=by
 have ht:=H.top
 have htwo:=H.two
 have hLl:=H.len
 unfold yaI yjO
 dsimp only [lt]
 rw [ych,cast1,wibN (by omega),asT (by omega),asT (by omega),asT (by show _≤35184372088832;omega),yyS,yeG]
 refine ⟨L.length+1,?_⟩
 refine yGi H (X:=K0) (fun _ _=>rfl) L.length 0 (L.length+1) _ (by omega) (by omega) (ybX _) ?_
 rw [List.drop_zero]
 cases hs:stF ps L (zeros ps.length) with
 | none =>
   unfold hts at k
   rw [hs] at k
   exact k
 | some st =>
   dsimp only
   have hst:st.length=ps.length:=by rw [yw6 hs,ybX]
   have h01:=ypi (fun c hc=>(H.ok c hc).2.2) (ybX _) (fun i=>by rw [ydO];omega) hs
   rw [ych,asT (by omega),asT (by omega),asT (by show _≤35184372088832;omega),yyS,cast1,wibN (by omega)]
   refine ⟨ps.length+2,?_⟩
   refine yEn H hst h01 (T:=2100000000000000000) (by omega) (K0:=K0) (Kf:=fun g=>K (ints g)) (fun _ _ _ _ _ _ _ _ _ _ _ _ _ _ _=>rfl) (fun _ _ _=>rfl) (fun g hg=>?_) (ps.length+1) 0 (ps.length+2) _ (by omega) (by omega) (ybX _) (fun i=>by rw [ydO];omega) ?_
   · rw [yau,hg,asE,asT (by omega),show List.take ps.length (ints g)=ints g by rw [← hg,← yau g,List.take_length]]
   · rw [hts_P H hs]
     cases he:hts ps m L with
     | none=>rw [he] at k;exact k
     | some g =>
       rw [he] at k
       dsimp only
       by_cases h5:hAt st 0>0
       · have:=yJ0 H hs h5
         unfold hts at he
         rw [hs] at he
         dsimp only at he
         rw [this] at he
         cases he
       · rw [if_neg h5];exact k
def outHt (o:Option (List Int)) (K0:Prop) (K:List PV→Prop):Prop:=match o with
 | some g=>K (ints g)
 | none=>K0
theorem yyT {N:Int} {ps:List Rat} {L:List Cm} {m:Nat} (H:Hy N ps L m) (K0:Prop) (K:List PV→Prop):yaI (rts ps) (cms L) (m:Int) K0 K=outHt (hts ps m L) K0 K:=by
 refine propext ⟨fun h=>?_,fun k=>ys8 H k⟩
 have h2:∃ r,(match r with | PV.nils=>K0 | .data d=>K d | _=>False)∧Ans (E ef0) ycn [.data (rts ps),.data (cms L),.int .i64 (m:Int)] r :=
   ye3 [.data (rts ps),.data (cms L),.int .i64 (m:Int)] (fun r=>match r with | PV.nils=>K0 | .data d=>K d | _=>False) h
 obtain ⟨r,h3,h4⟩:=h2
 cases he:hts ps m L with
 | none =>
   have h5:yaI (rts ps) (cms L) (m:Int) (PV.nils=PV.nils) (fun d=>PV.data d=PV.nils):=ys8 H (by rw [he])
   obtain ⟨q,h6,h7⟩:=ye3 [.data (rts ps),.data (cms L),.int .i64 (m:Int)] (fun r=>r=PV.nils) h5
   subst h6
   have:=h4.unique h7
   subst this
   exact h3
 | some g =>
   have h5:yaI (rts ps) (cms L) (m:Int) (PV.nils=PV.data (ints g)) (fun d=>PV.data d=PV.data (ints g)):=ys8 H (by rw [he])
   obtain ⟨q,h6,h7⟩:=ye3 [.data (rts ps),.data (cms L),.int .i64 (m:Int)] (fun r=>r=PV.data (ints g)) h5
   subst h6
   have:=h4.unique h7
   subst this
   exact h3
end Go.Pf.Vc
namespace Go.Pf.Vc
open Go Go.Pf Go.Sort
theorem yIq {N:Int} (h1:1≤N) {L:List Cm} (hc:∀ c∈L,c.ok N):(ptsC N L).getD 0 0=0:=by
 have hi:=yq5 h1 L
 have hm:(0:Rat)∈ptsC N L:=yea.2 (.inl rfl)
 cases hp:ptsC N L with
 | nil=>rfl
 | cons x r =>
   rw [hp] at hi hm
   show x=0
   rcases List.mem_cons.1 hm with e | hr
   · exact e.symm
   · have hx:=hi.1 0 hr
     have hxm:x∈ptsC N L:=by rw [hp];exact List.mem_cons_self
     have hN:(0:Rat)<(N:Rat):=by
       have:((1:Int):Rat)≤(N:Rat):=Rat.intCast_le_intCast.2 h1
       have h0:(0:Rat)<((1:Int):Rat):=by decide
       grind
     rcases yea.1 hxm with e | e | ⟨c,h1,e | e⟩
     · exact e
     · grind
     · have:=(hc c h1).f0;grind
     · have:=(hc c h1).f0;have:=(hc c h1).ft;grind
theorem yEo {N:Int} (h1:1≤N) (L:List Cm):2≤(ptsC N L).length:=by
 have hm:(0:Rat)∈ptsC N L:=yea.2 (.inl rfl)
 have hm2:(N:Rat)∈ptsC N L:=yea.2 (.inr (.inl rfl))
 have hN:(0:Rat)≠(N:Rat):=by
   have:((1:Int):Rat)≤(N:Rat):=Rat.intCast_le_intCast.2 h1
   have h0:(0:Rat)<((1:Int):Rat):=by decide
   grind
 cases hp:ptsC N L with
 | nil=>rw [hp] at hm;cases hm
 | cons x r =>
   cases r with
   | nil =>
     rw [hp] at hm hm2
     rw [List.mem_singleton] at hm hm2
     exact absurd (hm.trans hm2.symm) hN
   | cons y t=>simp
theorem yGj {N:Int} (h1:1≤N) (h2:N≤1000) {L:List Cm} (hc:∀ c∈L,c.ok N):∀ z∈ptsC N L,small z:=by
 intro z hz
 rcases yea.1 hz with rfl | rfl | ⟨c,h1,rfl | rfl⟩
 · decide
 · exact ys5 (by omega) (by omega)
 · exact (hc c h1).f
 · exact (hc c h1).t
theorem Hy_of {N:Int} (h1:1≤N) (h2:N≤1000) {L:List Cm} (hc:∀ c∈L,c.ok N) (hl:L.length≤40) {m:Nat} (hs:Sc L m):Hy N (ptsC N L) L m where
 inc:=yq5 h1 L
 sm:=yGj h1 h2 hc
 two:=yEo h1 L
 top:=by have:=yuO N L;omega
 ok:=fun c hc'=>⟨hc c hc',yea.2 (.inr (.inr ⟨c,hc',.inl rfl⟩)),yea.2 (.inr (.inr ⟨c,hc',.inr rfl⟩))⟩
 len:=by omega
 sc:=hs
 p0:=yIq h1 hc
end Go.Pf.Vc
namespace Go.Pf.Vc
open Go Go.Pf Go.Sort
def Feas (N:Int) (L:List Cm):Prop:=∃ V:Rat→Rat,V 0=0∧(∀ p q,p∈ptsC N L→q∈ptsC N L→p≤q→V p≤V q) ∧
 ∀ c∈L,V c.t=V c.f+c.v∧(c.m=true→(c.v=0→c.f=c.t)∧(c.v≠0→∀ p∈ptsC N L,p<c.t→V p<V c.t))
theorem yJ1 {l:List Rat} (h:incrR l) {p q:Rat} (hp:p∈l) (hq:q∈l):l.idxOf p<l.idxOf q↔p<q:=by
 have:=ym3 h (ydf hp) (ydf hq)
 rw [yeb hp,yeb hq] at this
 exact this.symm
theorem yuP {ps:List Rat}:∀ {L:List Cm} {st:List Int},stF ps L st=none→∃ c∈L,c.m=true∧c.v=0∧c.f≠c.t
 | [],_,e=>by cases e
 | c::r,st,e=>by
   have up:(∃ c'∈r,c'.m=true∧c'.v=0∧c'.f≠c'.t)→∃ c'∈c::r,c'.m=true∧c'.v=0∧c'.f≠c'.t:=fun ⟨c',h1,h2⟩=>⟨c',List.mem_cons_of_mem _ h1,h2⟩
   unfold stF at e
   split at e
   · rename_i hm
     split at e
     · rename_i hv
       split at e
       · exact up (yuP e)
       · rename_i hf;exact ⟨c,List.mem_cons_self,hm,hv,hf⟩
     · exact up (yuP e)
   · exact up (yuP e)
theorem yEp {R:List Rl} {k:Nat} {g st:List Int} (hs:Sol R k g) (h01:∀ i,0≤hAt st i∧hAt st i≤1) (hc:∀ q∈conF st 1 (k-1),q∈R):∀ i j,i≤j→j<k→hAt g i≤hAt g j:=by
 intro i j hij
 induction j with
 | zero=>intro _;rw [show i=0 by omega];exact Int.le_refl _
 | succ j ih =>
   intro hj
   by_cases e:i=j+1
   · rw [e];exact Int.le_refl _
   · have h1:=ih (by omega) (by omega)
     have hm:((j,j+1,hAt st (j+1)):Rl)∈conF st 1 (k-1):=by
       unfold conF
       exact List.mem_map.2 ⟨j+1,List.mem_range'_1.2 ⟨by omega,by omega⟩,rfl⟩
     have h2:hAt g j+hAt st (j+1)≤hAt g (j+1):=hs.ob _ (hc _ hm)
     have h3:=h01 (j+1)
     omega
theorem yEq {R:List Rl} {k:Nat} {g st:List Int} (hs:Sol R k g) (hc:∀ q∈conF st 1 (k-1),q∈R) {j:Nat} (hj:0<j) (hj2:j<k):hAt g (j-1)+hAt st j≤hAt g j:=by
 refine hs.ob (j-1,j,hAt st j) (hc _ ?_)
 unfold conF
 exact List.mem_map.2 ⟨j,List.mem_range'_1.2 ⟨by omega,by omega⟩,rfl⟩
theorem yHc {c:Cm} {m:Nat} (hd:c.v.den∣m):(m:Rat)*c.v=((c.v.num*((m / c.v.den:Nat):Int):Int):Rat):=by
 obtain ⟨t,rfl⟩:=hd
 have hp:=c.v.den_pos
 rw [Nat.mul_div_cancel_left _ hp,Rat.intCast_mul,Rat.natCast_mul]
 have h1:(c.v.den:Rat)*c.v=(c.v.num:Rat):=by
   have h0:(c.v.den:Rat)≠0:=by
     have:(0:Rat)<(c.v.den:Rat):=Rat.natCast_pos.2 hp
     grind
   have h2:c.v=(c.v.num:Rat) / (c.v.den:Rat):=by rw [← Rat.mkRat_eq_div,Rat.mkRat_self]
   have h3:(c.v.den:Rat)*((c.v.num:Rat) / (c.v.den:Rat))=(c.v.num:Rat):=by rw [Rat.mul_comm];exact Rat.div_mul_cancel h0
   rw [← h2] at h3
   exact h3
 have h2:(((t:Nat):Int):Rat)=((t:Nat):Rat):=Rat.intCast_natCast t
 rw [h2]
 calc (c.v.den:Rat)*(t:Rat)*c.v=((c.v.den:Rat)*c.v)*(t:Rat):=by grind
   _=(c.v.num:Rat)*(t:Rat):=by rw [h1]
theorem yHd {N:Int} {ps:List Rat} {L:List Cm} {m:Nat} (H:Hy N ps L m) {g:List Int} (e:hts ps m L=some g) :
   ∃ st,stF ps L (zeros ps.length)=some st∧Sol (hR ps m L st) ps.length g∧hAt g 0=0∧∀ x,Sol (hR ps m L st) ps.length x→leH g x:=by
 unfold hts at e
 cases hs:stF ps L (zeros ps.length) with
 | none=>rw [hs] at e;cases e
 | some st =>
   rw [hs] at e
   obtain ⟨h1,h2,h3⟩:=yyJ (hR_ok H st) e
   exact ⟨st,rfl,h1,h2,h3⟩
theorem yGk {ps:List Rat} {L:List Cm} {m:Nat} {st g:List Int} (hs:Sol (hR ps m L st) ps.length g) {c:Cm} (hc:c∈L):hAt g (ps.idxOf c.t)=hAt g (ps.idxOf c.f)+vC m (ps.length+1) c:=by
 have h1:=hs.ob (ps.idxOf c.f,ps.idxOf c.t,vC m (ps.length+1) c) (List.mem_append_right _ (yq7.2 ⟨c,hc,.inl rfl⟩))
 have h2:=hs.ob (ps.idxOf c.t,ps.idxOf c.f,-vC m (ps.length+1) c) (List.mem_append_right _ (yq7.2 ⟨c,hc,.inr rfl⟩))
 have h1:hAt g (ps.idxOf c.f)+vC m (ps.length+1) c≤hAt g (ps.idxOf c.t):=h1
 have h2:hAt g (ps.idxOf c.t)+-vC m (ps.length+1) c≤hAt g (ps.idxOf c.f):=h2
 omega
def dv (m s:Nat) (x:Int):Rat:=(x:Rat) / ((m:Rat)*(s:Rat))
theorem yGl {m s:Nat} (hm:1≤m) (hs:1≤s):(0:Rat)<(m:Rat)*(s:Rat):=by
 have h1:(0:Rat)<(m:Rat):=Rat.natCast_pos.2 (by omega)
 have h2:(0:Rat)<(s:Rat):=Rat.natCast_pos.2 (by omega)
 exact Rat.mul_pos h1 h2
theorem dv_le {m s:Nat} (hm:1≤m) (hs:1≤s) {x y:Int} (h:x≤y):dv m s x≤dv m s y:=by
 have:=yGl hm hs
 unfold dv
 have h2:(x:Rat)≤(y:Rat):=Rat.intCast_le_intCast.2 h
 rw [Rat.div_def,Rat.div_def]
 have h3:(0:Rat)<((m:Rat)*(s:Rat))⁻¹:=Rat.inv_pos.2 this
 exact Rat.mul_le_mul_of_nonneg_right h2 (by grind)
theorem dv_lt {m s:Nat} (hm:1≤m) (hs:1≤s) {x y:Int} (h:x<y):dv m s x<dv m s y:=by
 have:=yGl hm hs
 unfold dv
 have h2:(x:Rat)<(y:Rat):=Rat.intCast_lt_intCast.2 h
 rw [Rat.div_def,Rat.div_def]
 exact Rat.mul_lt_mul_of_pos_right h2 (Rat.inv_pos.2 this)
theorem yJ2 {m s:Nat} (hm:1≤m) (hs:1≤s) {x:Int} {c:Cm} (hd:c.v.den∣m):dv m s (x+vC m s c)=dv m s x+c.v:=by
 have hp:=yGl hm hs
 unfold dv vC
 have e:((c.v.num*((m / c.v.den:Nat):Int)*(s:Int):Int):Rat)=(m:Rat)*(s:Rat)*c.v:=by
   rw [Rat.intCast_mul,← yHc hd,Rat.intCast_natCast]
   grind
 rw [Rat.intCast_add,e]
 have hne:(m:Rat)*(s:Rat)≠0:=by grind
 grind
theorem yLt {N:Int} {L:List Cm} {m:Nat} (H:Hy N (ptsC N L) L m) {g:List Int} (e:hts (ptsC N L) m L=some g):Feas N L:=by
 obtain ⟨st,hs,hsol,h0,_⟩:=yHd H e
 have hm:=H.sc.one
 have h2:=H.two
 have h01:=ypi (fun c hc=>(H.ok c hc).2.2) (ybX _) (fun i=>by rw [ydO];omega) hs
 obtain ⟨hst,hz⟩:=ys7 (fun c hc=>(H.ok c hc).2.2) (ybX _) hs
 have hcon:∀ q∈conF st 1 ((ptsC N L).length-1),q∈hR (ptsC N L) m L st:=fun q hq=>List.mem_append_left _ hq
 have hmono:=yEp hsol h01 hcon
 have hz0:(0:Rat)∈ptsC N L:=yea.2 (.inl rfl)
 have hi0:(ptsC N L).idxOf 0=0:=by
   refine Nat.le_antisymm (Nat.not_lt.1 fun hlt=>?_) (Nat.zero_le _)
   have:=(ym3 H.inc (i:=0) (j:=(ptsC N L).idxOf 0) (by omega) (ydf hz0)).2 hlt
   rw [yeb hz0,H.p0] at this
   exact Rat.lt_irrefl this
 refine ⟨fun p=>dv m ((ptsC N L).length+1) (hAt g ((ptsC N L).idxOf p)),?_,fun p q hp hq hpq=>?_,fun c hc=>⟨?_,fun hcm=>⟨fun hv=>hz c hc hcm hv,fun hv p hp hlt=>?_⟩⟩⟩
 · show dv m _ (hAt g ((ptsC N L).idxOf 0))=0
   rw [hi0,h0]
   unfold dv
   rw [Rat.div_def,show ((0:Int):Rat)=0 from rfl,Rat.zero_mul]
 · refine dv_le hm (by omega) (hmono _ _ (Nat.not_lt.1 fun hlt=>?_) (ydf hq))
   have:=(yJ1 H.inc hq hp).1 hlt
   grind
 · show dv m _ (hAt g ((ptsC N L).idxOf c.t))=_
   rw [yGk hsol hc,yJ2 hm (by omega) (H.sc.dvd c hc)]
 · have hib:=(yJ1 H.inc hp (H.ok c hc).2.2).2 hlt
   have hb:=ydf (H.ok c hc).2.2
   have hs1:hAt st ((ptsC N L).idxOf c.t)=1:=(hst _).2 (.inr ⟨c,hc,hcm,hv,rfl⟩)
   have h3:=yEq hsol hcon (j:=(ptsC N L).idxOf c.t) (by omega) hb
   have h4:=hmono ((ptsC N L).idxOf p) ((ptsC N L).idxOf c.t-1) (by omega) (by omega)
   exact dv_lt hm (by omega) (by omega)
theorem yMJ {N:Int} {L:List Cm} {m:Nat} (H:Hy N (ptsC N L) L m) (hF:Feas N L):∃ g,hts (ptsC N L) m L=some g:=by
 obtain ⟨V,v0,vm,vc⟩:=hF
 unfold hts
 cases hs:stF (ptsC N L) L (zeros (ptsC N L).length) with
 | none =>
   obtain ⟨c,hc,h1,h2,h3⟩:=yuP hs
   exact absurd (((vc c hc).2 h1).1 h2) h3
 | some st =>
   dsimp only
   have h01:=ypi (fun c hc=>(H.ok c hc).2.2) (ybX _) (fun i=>by rw [ydO];omega) hs
   obtain ⟨hst,hz⟩:=ys7 (fun c hc=>(H.ok c hc).2.2) (ybX _) hs
   have hm:=H.sc.one
   have hm0:(0:Rat)<(m:Rat):=Rat.natCast_pos.2 (by omega)
   have hlen:((ptsC N L).map fun p=>(m:Rat)*V p).length=(ptsC N L).length:=List.length_map ..
   have hat:∀ i,i<(ptsC N L).length→((ptsC N L).map fun p=>(m:Rat)*V p).getD i 0=(m:Rat)*V ((ptsC N L).getD i 0):=by
     intro i hi
     rw [List.getD_eq_getElem?_getD,List.getD_eq_getElem?_getD,List.getElem?_map,List.getElem?_eq_getElem hi]
     rfl
   have hmem:∀ i,i<(ptsC N L).length→(ptsC N L).getD i 0∈ptsC N L:=fun i hi=>yqJ hi
   have key:=yF6 (ys:=(ptsC N L).map fun p=>(m:Rat)*V p) (R:=hR (ptsC N L) m L st) (by rw [hlen];exact hR_ok H st) (fun q hq=>?_) (fun y hy=>?_) ?_
   · rw [hlen] at key;exact key
   · unfold ruleOk
     rw [hlen]
     rcases List.mem_append.1 hq with h | h
     · obtain ⟨j,h1,h2,rfl⟩:=yyR h
       have h2':=H.two
       have hj:j<(ptsC N L).length:=by omega
       have hlt:=(ym3 H.inc (i:=j-1) (j:=j) (by omega) hj).2 (by omega)
       right
       show ((((ptsC N L).map fun p=>(m:Rat)*V p).getD (j-1) 0≤((ptsC N L).map fun p=>(m:Rat)*V p).getD j 0)∧hAt st j=0)∨(((ptsC N L).map fun p=>(m:Rat)*V p).getD (j-1) 0<((ptsC N L).map fun p=>(m:Rat)*V p).getD j 0∧hAt st j=1)
       rw [hat _ (by omega),hat _ hj]
       by_cases h1':hAt st j=1
       · right
         refine ⟨?_,h1'⟩
         rcases (hst j).1 h1' with h5 | ⟨c,hc,hcm,hcv,hci⟩
         · rw [ydO] at h5;omega
         · have hct:(ptsC N L).getD j 0=c.t:=by rw [← hci,yeb (H.ok c hc).2.2]
           have h6:=((vc c hc).2 hcm).2 hcv _ (hmem (j-1) (by omega)) (by rw [← hct];exact hlt)
           rw [hct]
           exact Rat.mul_lt_mul_of_pos_left h6 hm0
       · left
         refine ⟨?_,by have:=h01 j;omega⟩
         have h6:=vm _ _ (hmem (j-1) (by omega)) (hmem j hj) (by grind)
         exact Rat.mul_le_mul_of_nonneg_left h6 (by grind)
     · obtain ⟨c,hc,e⟩:=yq7.1 h
       have ha:=ydf (H.ok c hc).2.1
       have hb:=ydf (H.ok c hc).2.2
       have hv:=(vc c hc).1
       have hd:=yHc (H.sc.dvd c hc)
       left
       rcases e with rfl | rfl
       · refine ⟨c.v.num*((m / c.v.den:Nat):Int),?_,?_⟩
         · show ((ptsC N L).map fun p=>(m:Rat)*V p).getD ((ptsC N L).idxOf c.t) 0=((ptsC N L).map fun p=>(m:Rat)*V p).getD ((ptsC N L).idxOf c.f) 0+_
           rw [hat _ ha,hat _ hb,yeb (H.ok c hc).2.1,yeb (H.ok c hc).2.2,hv,← hd]
           grind
         · show vC m _ c=_
           unfold vC
           rw [Int.mul_comm]
           rfl
       · refine ⟨-(c.v.num*((m / c.v.den:Nat):Int)),?_,?_⟩
         · show ((ptsC N L).map fun p=>(m:Rat)*V p).getD ((ptsC N L).idxOf c.f) 0=((ptsC N L).map fun p=>(m:Rat)*V p).getD ((ptsC N L).idxOf c.t) 0+_
           rw [hat _ ha,hat _ hb,yeb (H.ok c hc).2.1,yeb (H.ok c hc).2.2,hv,Rat.intCast_neg,← hd]
           grind
         · show -vC m _ c=_
           unfold vC
           rw [Int.mul_neg,Int.mul_comm]
           rfl
   · obtain ⟨p,hp,rfl⟩:=List.mem_map.1 hy
     have h0:(0:Rat)≤p:=by
       obtain ⟨i,hi,e⟩:=yCp (d:=(0:Rat)) hp
       rw [← e]
       by_cases h:i=0
       · rw [h,H.p0];exact Rat.le_refl
       · have:=(ym3 H.inc (i:=0) (j:=i) (by omega) hi).2 (by omega)
         rw [H.p0] at this
         grind
     have h1:=vm 0 p (yea.2 (.inl rfl)) hp h0
     rw [v0] at h1
     exact Rat.mul_nonneg (by grind) h1
   · rw [hat 0 (by have:=H.two;omega),H.p0,v0,Rat.mul_zero]
theorem yuQ {N:Int} {L:List Cm} {m:Nat} (H:Hy N (ptsC N L) L m):(∃ g,hts (ptsC N L) m L=some g)↔Feas N L:=⟨fun ⟨_,e⟩=>yLt H e,yMJ H⟩
theorem yIr {N:Int} {L:List Cm} (h:Feas N L) (k:Nat):Feas N (L.take k):=by
 obtain ⟨V,v0,vm,vc⟩:=h
 have sub:∀ p,p∈ptsC N (L.take k)→p∈ptsC N L:=by
   intro p hp
   rw [yea] at hp ⊢
   rcases hp with h | h | ⟨c,h1,h2⟩
   · exact .inl h
   · exact .inr (.inl h)
   · exact .inr (.inr ⟨c,List.mem_of_mem_take h1,h2⟩)
 refine ⟨V,v0,fun p q hp hq=>vm p q (sub p hp) (sub q hq),fun c hc=>?_⟩
 obtain ⟨h1,h2⟩:=vc c (List.mem_of_mem_take hc)
 exact ⟨h1,fun hm=>⟨(h2 hm).1,fun hv p hp=>(h2 hm).2 hv p (sub p hp)⟩⟩
theorem yyU:∀ (a b:List Cm) (m:Nat),scM (a++b) m=(scM a m).bind (scM b)
 | [],b,m=>rfl
 | c::r,b,m=>by
   show (if c.v.den / Nat.gcd m c.v.den≤1000000000 / m then scM (r++b) (m*(c.v.den / Nat.gcd m c.v.den)) else none)=((if c.v.den / Nat.gcd m c.v.den≤1000000000 / m then scM r (m*(c.v.den / Nat.gcd m c.v.den)) else none)).bind (scM b)
   split
   · exact yyU r b _
   · rfl
theorem yGm {L:List Cm} {m:Nat} (h:scaleL L=some m) (k:Nat):∃ m',scaleL (L.take k)=some m'∧Sc (L.take k) m:=by
 have hS:=yh8 h
 have hpre:Sc (L.take k) m:=⟨hS.one,hS.top,fun c hc=>hS.dvd c (List.mem_of_mem_take hc),fun c hc=>hS.val c (List.mem_of_mem_take hc)⟩
 unfold scaleL at h
 split at h
 case h_2=>cases h
 rename_i m0 e
 split at h
 case isFalse=>cases h
 rename_i ht
 cases h
 have ha:=yyU (L.take k) (L.drop k) 1
 rw [List.take_append_drop,e] at ha
 cases e2:scM (L.take k) 1 with
 | none=>rw [e2] at ha;cases ha
 | some m1 =>
   rw [e2] at ha
   have ha:some m=scM (L.drop k) m1:=ha
   obtain ⟨o1,o2,_,o4⟩:=yqO _ 1 (by omega) (by omega) e2
   obtain ⟨p1,p2,p3,_⟩:=yqO _ m1 o1 o2 ha.symm
   refine ⟨m1,?_,hpre⟩
   unfold scaleL
   rw [e2]
   dsimp only
   rw [if_pos]
   unfold scT at ht ⊢
   rw [List.all_eq_true] at ht ⊢
   intro c hc
   have h5:=ht c (List.mem_of_mem_take hc)
   simp only [decide_eq_true_eq] at h5 ⊢
   have h6:m1 / c.v.den≤m / c.v.den:=Nat.div_le_div_right (Nat.le_of_dvd (by omega) p3)
   have h7:0<m1 / c.v.den:=Nat.div_pos (Nat.le_of_dvd (by omega) (o4 c hc)) c.v.den_pos
   have h8:1000000000000 / (m / c.v.den)≤1000000000000 / (m1 / c.v.den):=Nat.div_le_div_left h6 h7
   omega
end Go.Pf.Vc
namespace Go.Pf.Vc
open Go Go.Pf Go.Sort
def mkF (d x:Int):Rw:=if small ((x:Rat) / (d:Rat)) then (((x:Rat) / (d:Rat)).num,(((x:Rat) / (d:Rat)).den:Int)) else (0,0)
theorem yEr {n d:Int} (hn:I64 n) (hd:I64 d) (h0:d≠0) (K:Int→Int→Prop):ybS n d (fun a b _=>K a b)=K (mkF d n).1 (mkF d n).2:=by
 rw [yJs hn hd h0]
 unfold fitK mkF
 split <;> rfl
theorem yHe (r:Rw):([.agg [.int .i64 r.1,.int .i64 r.2]]:List PV)=rws [r]:=rfl
theorem yLu (a b:List Rw):rws a++rws b=rws (a++b):=by unfold rws;rw [List.map_append]
theorem yAL {R:List Rl} {T:Int} {c:Nat} (hc:R.length≤c) (ha:∀ q∈R,q.2.2≤100000000000000):∀ (n:Nat) (h g:List Int),rOk R h.length→bndT h T (c*n)→iterR R n h=some g→bndT g T 0
 | 0,_,_,_,_,e=>by cases e
 | n+1,h,g,ho,hb,e=>by
   unfold iterR at e
   split at e
   · cases e;exact hb.less (Nat.zero_le _)
   · refine yAL hc ha n (pass R h) g (by rw [ygG];exact ho) (yq6 _ _ _ ho ha (hb.less ?_)) e
     rw [Nat.mul_add,Nat.mul_one]
     omega
theorem yMK (ps:List Rat) (m:Nat) (L:List Cm) (st:List Int):(hR ps m L st).length=ps.length-1+2*L.length:=by unfold hR;rw [List.length_append,yyQ,yHb]
theorem yML {R:List Rl} {k:Nat} {g:List Int} (e:bf0 R k=some g):bf R k=some g:=by
 unfold bf0 at e
 split at e
 · rename_i g' e'
   split at e
   · cases e;exact e'
   · cases e
 · cases e
theorem yHf {N:Int} {ps:List Rat} {L:List Cm} {m:Nat} (H:Hy N ps L m) {g:List Int} (e:hts ps m L=some g) {T:Int} {c:Nat} (hc:ps.length-1+2*L.length≤c) (hT:100000000000000*((c*(ps.length+1):Nat):Int)≤T):g.length=ps.length∧∀ i,0≤hAt g i∧hAt g i≤T:=by
 unfold hts at e
 cases hs:stF ps L (zeros ps.length) with
 | none=>rw [hs] at e;cases e
 | some st =>
   rw [hs] at e
   have e2:=yML e
   have h01:=ypi (fun c hc=>(H.ok c hc).2.2) (ybX _) (fun i=>by rw [ydO];omega) hs
   have hb:=yAL (c:=c) (T:=T) (by rw [yMK];exact hc) (yJZ H h01) (ps.length+1) (zeros ps.length) g (by rw [ybX];exact hR_ok H st) (fun i=>by rw [ydO];exact ⟨Int.le_refl _,by omega⟩) e2
   refine ⟨(yyJ (hR_ok H st) e).1.len,fun i=>?_⟩
   have:=hb i
   simp at this
   exact this
theorem yHg {N:Int} {ps:List Rat} {L:List Cm} {m:Nat} (H:Hy N ps L m) {g:List Int} (e:hts ps m L=some g):g.length=ps.length∧∀ i,I64 (hAt g i):=by
 have ht:=H.top
 have hl:=H.len
 have hT:100000000000000*((200*(ps.length+1):Nat):Int)≤2100000000000000000:=by
   rw [Int.natCast_mul];omega
 obtain ⟨h1,h2⟩:=yHf H e (c:=200) (by omega) hT
 exact ⟨h1,fun i=>by have:=h2 i;exact ⟨by omega,by omega⟩⟩
def gF (m:Nat) (g:List Int):List Rw:=g.map (mkF (((m*(g.length+1):Nat):Int)))
theorem yHh (d:Int) (g:List Int) (i:Nat) (hi:i<g.length):(g.drop i).map (mkF d)=mkF d (hAt g i)::(g.drop (i+1)).map (mkF d):=by
 rw [ycE (0:Int) hi]
 rfl
theorem yGn {a0:yav} {a1:ybi} {a2:yao} {a3:ya4} {g:List Int} (hg:∀ i,I64 (hAt g i)) (hl:g.length<1000) {m:Nat} (h1:1≤m) (h2:m≤1000000000) {l2:List PV} {x1:List PV→Int→List PV→List PV→List PV→Int→Int→Bool→Prop} :
   ∀ (r i n:Nat) (acc:List Rw),i+r=g.length→r<n→acc.length≤i →
     yce a0 a1 a2 a3 ybS x1 n (rws acc) (m:Int) l2 (ints g) (ints g) (g.length:Int) (i:Int)=x1 (rws (acc++(g.drop i).map (mkF ((m*(g.length+1):Nat):Int)))) (m:Int) l2 (ints g) (ints g) (g.length:Int) (g.length:Int) false:=by
 intro r
 induction r with
 | zero =>
   intro i n acc hi hn ha
   obtain ⟨n,rfl⟩:∃ m,n=m+1:=⟨n-1,by omega⟩
   obtain rfl:i=g.length:=by omega
   rw [yce,cbF (by omega),List.drop_length]
   simp
 | succ r ih =>
   intro i n acc hi hn ha
   obtain ⟨n,rfl⟩:∃ m,n=m+1:=⟨n-1,by omega⟩
   have hil:i<g.length:=by omega
   have e1:m*(g.length+1)≤1000000000*1000:=Nat.mul_le_mul h2 (by omega)
   have e2:1≤m*(g.length+1):=Nat.mul_pos (by omega) (by omega)
   rw [yce,cbT (by omega)]
   dsimp only [lt]
   rw [yau,asT (by omega),asT (by omega),Int.toNat_natCast,yfa hil,asI,ivI,cast1,wibN (by omega),← Int.natCast_mul,wibN (by omega),yEr (hg i) ⟨by omega,by omega⟩ (by omega)]
   rw [yHe,yLu,ylj,asE,asT (by omega),asNo (by omega),asE,asT (by show _≤35184372088832;omega),asEE,asE,cast1,wibN (by omega),ih (i+1) n _ (by omega) (by omega) (by simp;omega),yHh _ g i hil,List.append_assoc]
   rfl
def outGs (N:Int) (log:List Qy) (K:List PV→List PV→Int→Prop):Prop :=
 if claimsE N log=0 then (match scaleL (log.map cmOf) with
   | none=>K [] [] 16
   | some m=>match hts (ptsC N (log.map cmOf)) m (log.map cmOf) with
     | none=>K [] [] 6
     | some g=>K (rts (ptsC N (log.map cmOf))) (rws (gF m g)) 0)
 else K [] [] (claimsE N log)
theorem yJ3 {m:Nat} {g:List Int} (hg:0<g.length):gF m g=mkF ((m*(g.length+1):Nat):Int) (hAt g 0)::(g.drop 1).map (mkF ((m*(g.length+1):Nat):Int)):=by
 have:=yHh ((m*(g.length+1):Nat):Int) g 0 hg
 rw [List.drop_zero] at this
 exact this
theorem yuR {N:Int} {log:List Qy} (h64:∀ q∈log,q.q64) (hl:log.length<1000) {K:List PV→List PV→Int→Prop} (k:outGs N log K):ybj N (logs log) K:=by
 unfold ybj yme
 unfold outGs at k
 rw [yvP h64 hl]
 by_cases h1:claimsE N log=0
 case neg =>
   rw [if_neg h1] at k
   rw [cnT h1];exact k
 rw [if_pos h1] at k
 obtain ⟨n1,n2,n3,n4⟩:=yg0 h1
 have hok:=yjZ h1
 rw [cnF h1,if_pos h1,yEk hok (by rw [List.length_map];omega)]
 unfold outSc
 cases e:scaleL (log.map cmOf) with
 | none=>rw [e] at k;exact k
 | some m =>
   rw [e] at k
   have H:=Hy_of n1 n2 hok (by rw [List.length_map];exact n3) (yh8 e)
   have ht:=H.top
   have h2:=H.two
   have hm1:=H.sc.one
   have hm2:=H.sc.top
   dsimp only at k ⊢
   rw [nz,yqM n1 n2 hok (by rw [List.length_map];omega),yyT H]
   unfold outHt
   cases e2:hts (ptsC N (log.map cmOf)) m (log.map cmOf) with
   | none=>rw [e2] at k;exact k
   | some g =>
     rw [e2] at k
     dsimp only at k ⊢
     obtain ⟨g1,g2⟩:=yHg H e2
     have gp:0<g.length:=by omega
     have he:(!(ints g).isEmpty)=true:=by
       cases g with
       | nil=>simp at gp
       | cons a b=>rfl
     have e1:m*(g.length+1)≤1000000000*1000:=Nat.mul_le_mul hm2 (by omega)
     have e3:1≤m*(g.length+1):=Nat.mul_pos (by omega) (by omega)
     rw [he,yat]
     refine ⟨g.length+1,?_⟩
     have e0:IntKind.i64.wrap ((0:Int)+1)=((1:Nat):Int):=by decide
     rw [yeA,yau,cbT (by omega)]
     dsimp only [lt]
     rw [asT (by omega),asT (by omega),show (0:Int).toNat=0 from rfl,yfa gp,asI,ivI,cast1,wibN (by omega),← Int.natCast_mul,wibN (by omega),yEr (g2 0) ⟨by omega,by omega⟩ (by omega),e0,yHe]
     refine yad.2 ⟨by simp [rws],?_⟩
     refine (yGn g2 (by omega) hm1 hm2 (g.length-1) 1 g.length _ (by omega) (by omega) (by simp)).mpr ?_
     rw [asE,asT (by omega),List.take_length]
     rw [yJ3 gp] at k
     exact k
theorem yuS {N:Int} {log:List Qy} (h64:∀ q∈log,q.q64) (hl:log.length<1000) (K:List PV→List PV→Int→Prop):ybj N (logs log) K=outGs N log K:=by
 by_cases h1:claimsE N log=0
 · cases e:scaleL (log.map cmOf) with
   | none =>
     have hh:∀ K,outGs N log K=K [] [] 16:=fun K=>by unfold outGs;rw [if_pos h1,e]
     rw [hh]
     exact yhE _ _ _ _ _ (fun K k=>yuR h64 hl (by rw [hh];exact k)) K
   | some m =>
     cases e2:hts (ptsC N (log.map cmOf)) m (log.map cmOf) with
     | none =>
       have hh:∀ K,outGs N log K=K [] [] 6:=fun K=>by unfold outGs;rw [if_pos h1,e];dsimp only;rw [e2]
       rw [hh]
       exact yhE _ _ _ _ _ (fun K k=>yuR h64 hl (by rw [hh];exact k)) K
     | some g =>
       have hh:∀ K,outGs N log K=K (rts (ptsC N (log.map cmOf))) (rws (gF m g)) 0:=fun K=>by unfold outGs;rw [if_pos h1,e];dsimp only;rw [e2]
       rw [hh]
       exact yhE _ _ _ _ _ (fun K k=>yuR h64 hl (by rw [hh];exact k)) K
 · have hh:∀ K,outGs N log K=K [] [] (claimsE N log):=fun K=>by unfold outGs;rw [if_neg h1]
   rw [hh]
   exact yhE _ _ _ _ _ (fun K k=>yuR h64 hl (by rw [hh];exact k)) K
end Go.Pf.Vc
namespace Go.Pf.Vc
open Go Go.Pf Go.Sort
open Classical in
noncomputable def firstN (N:Int) (L:List Cm):Nat→Nat→Nat
 | 0,i=>i
 | r+1,i=>if Feas N (L.take (i+1)) then firstN N L r (i+1) else i
noncomputable def firstL (N:Int) (L:List Cm):Nat:=firstN N L L.length 0
theorem yAM {N:Int} {L:List Cm}:∀ (r i:Nat),i+r=L.length→(∀ j,1≤j→j≤i→Feas N (L.take j)) →
   i≤firstN N L r i∧firstN N L r i≤L.length∧(∀ j,1≤j→j≤firstN N L r i→Feas N (L.take j))∧(firstN N L r i=L.length∨¬Feas N (L.take (firstN N L r i+1)))
 | 0,i,hi,h=>by
   show i≤i∧i≤L.length∧(∀ j,1≤j→j≤i→Feas N (L.take j))∧(i=L.length∨¬Feas N (L.take (i+1)))
   exact ⟨Nat.le_refl _,by omega,h,.inl (by omega)⟩
 | r+1,i,hi,h=>by
   unfold firstN
   by_cases hF:Feas N (L.take (i+1))
   · rw [if_pos hF]
     obtain ⟨h1,h2,h3,h4⟩:=yAM (N:=N) (L:=L) r (i+1) (by omega) (fun j hj1 hj2=>by
       by_cases e:j=i+1
       · rw [e];exact hF
       · exact h j hj1 (by omega))
     exact ⟨by omega,h2,h3,h4⟩
   · rw [if_neg hF]
     exact ⟨Nat.le_refl _,by omega,h,.inr hF⟩
theorem yAN (N:Int) (L:List Cm):firstL N L≤L.length∧(∀ j,1≤j→j≤firstL N L→Feas N (L.take j))∧(firstL N L=L.length∨¬Feas N (L.take (firstL N L+1))):=by
 obtain ⟨_,h2,h3,h4⟩:=yAM (N:=N) (L:=L) L.length 0 (by omega) (fun j h1 h2=>by omega)
 exact ⟨h2,h3,h4⟩
theorem yIs {N:Int} {L:List Cm} {a b:Nat} (h:Feas N (L.take b)) (hab:a≤b):Feas N (L.take a):=by
 have:=yIr h a
 rwa [List.take_take,Nat.min_eq_left hab] at this
theorem ypj {N:Int} {L:List Cm} {k:Nat} (hk:k≤L.length) (h1:k=0∨Feas N (L.take k)) (h2:k=L.length∨¬Feas N (L.take (k+1))):k=firstL N L:=by
 obtain ⟨f1,f2,f3⟩:=yAN N L
 rcases Nat.lt_trichotomy k (firstL N L) with h | h | h
 · rcases h2 with h2 | h2
   · omega
   · exact absurd (f2 (k+1) (by omega) h) h2
 · exact h
 · rcases f3 with f3 | f3
   · omega
   · rcases h1 with h1 | h1
     · omega
     · exact absurd (yIs h1 h) f3
theorem yHi {N:Int} (n1:1≤N) (n2:N≤1000) {L:List Cm} (hc:∀ c∈L,c.ok N) (hl:L.length≤40) {m:Nat} (k:Nat) (hs:Sc (L.take k) m):Hy N (ptsC N (L.take k)) (L.take k) m :=
 Hy_of n1 n2 (fun c h=>hc c (List.mem_of_mem_take h)) (by rw [List.length_take];omega) hs
theorem yJ4 {N:Int} (n1:1≤N) (n2:N≤1000) {L:List Cm} (hc:∀ c∈L,c.ok N) (hl:L.length≤40) {m:Nat} (hs:scaleL L=some m) {a0:yav} {a1:ybi} {x0:Int→List PV→Int→Int→Int→Bool→Prop} :
   ∀ (d good bad n:Nat),bad-good≤d→d<n→good<bad→bad≤L.length+1→(good=0∨Feas N (L.take good))→(bad=L.length+1∨¬Feas N (L.take bad)) →
     ycf a0 a1 yan yaI x0 n N (cms L) (m:Int) (good:Int) (bad:Int)=x0 N (cms L) (m:Int) (firstL N L:Int) ((firstL N L+1:Nat):Int) false:=by
 intro d
 induction d with
 | zero=>intro good bad n h1 h2 h3;omega
 | succ d ih =>
   intro good bad n h1 h2 h3 h4 h5 h6
   obtain ⟨n,rfl⟩:∃ m,n=m+1:=⟨n-1,by omega⟩
   rw [ycf]
   dsimp only [lt]
   have e1:IntKind.i64.wrap ((bad:Int)-(good:Int))=((bad-good:Nat):Int):=by
     rw [show (bad:Int)-(good:Int)=((bad-good:Nat):Int) by omega,wibN (by omega)]
   rw [e1]
   by_cases hg:bad-good>1
   · have e2:IntKind.i64.wrap (Int.tdiv (IntKind.i64.wrap ((good:Int)+(bad:Int))) (2:Int))=(((good+bad) / 2:Nat):Int):=by
       rw [← Int.natCast_add,wibN (by omega),show Int.tdiv ((good+bad:Nat):Int) (2:Int)=(((good+bad) / 2:Nat):Int) from rfl,wibN (by omega)]
     have hk1:(good+bad) / 2<bad:=by omega
     have hk2:good<(good+bad) / 2:=by omega
     obtain ⟨m',hm',hsc⟩:=yGm hs ((good+bad) / 2)
     have H:=yHi n1 n2 hc hl ((good+bad) / 2) hsc
     have hF:=yuQ H
     rw [cbT (by omega),yGg,e2,yeG,asT (by omega),asT (by omega),Int.toNat_natCast,yJM,yqM n1 n2 (fun c h=>hc c (List.mem_of_mem_take h)) (by rw [List.length_take];omega),asT (by omega),asT (by omega),yyT H]
     unfold outHt
     cases e:hts (ptsC N (L.take ((good+bad) / 2))) m (L.take ((good+bad) / 2)) with
     | none =>
       dsimp only
       rw [yab]
       refine ih good ((good+bad) / 2) n (by omega) (by omega) hk2 (by omega) h5 (.inr fun hf=>?_)
       obtain ⟨g,hg2⟩:=hF.2 hf
       rw [e] at hg2;cases hg2
     | some g =>
       dsimp only
       have gl:=(yHg H e).1
       have he:(!(ints g).isEmpty)=true:=by
         have:=H.two
         cases g with
         | nil=>simp at gl;omega
         | cons a b=>rfl
       rw [he,yat,yaa]
       exact ih ((good+bad) / 2) bad n (by omega) (by omega) hk1 h4 (.inr (hF.1 ⟨g,e⟩)) h6
   · have hb:bad=good+1:=by omega
     subst hb
     have hgf:good=firstL N L:=ypj (by omega) h5 (by
       rcases h6 with h6 | h6
       · exact .inl (by omega)
       · exact .inr h6)
     rw [cbF (by omega),← hgf]
noncomputable def firstR (N:Int) (log:List Qy):Int×Int :=
 if claimsE N log=0 then (match scaleL (log.map cmOf) with
   | none=>(0,16)
   | some _=>((firstL N (log.map cmOf):Int),0))
 else (0,claimsE N log)
theorem yyV {N:Int} {log:List Qy} (h64:∀ q∈log,q.q64) (hl:log.length<1000) (K:Int→Int→Prop):ybt N (logs log) K=K (firstR N log).1 (firstR N log).2:=by
 refine ywK _ _ _ _ (fun K k=>?_) K
 unfold ybt ymg
 unfold firstR at k
 rw [yvP h64 hl]
 by_cases h1:claimsE N log=0
 case neg =>
   rw [if_neg h1] at k
   rw [cnT h1];exact k
 rw [if_pos h1] at k
 obtain ⟨n1,n2,n3,n4⟩:=yg0 h1
 have hok:=yjZ h1
 rw [cnF h1,if_pos h1,yEk hok (by rw [List.length_map];omega)]
 unfold outSc
 cases e:scaleL (log.map cmOf) with
 | none=>rw [e] at k;exact k
 | some m =>
   rw [e] at k
   dsimp only [lt] at k ⊢
   rw [nz,yeG,cast1,wibN (by rw [List.length_map];omega)]
   refine ⟨(log.map cmOf).length+2,?_⟩
   refine (yJ4 n1 n2 hok (by rw [List.length_map];exact n3) e ((log.map cmOf).length+1) 0 ((log.map cmOf).length+1) ((log.map cmOf).length+2) (by omega) (by omega) (by omega) (Nat.le_refl _) (.inl rfl) (.inl rfl)).mpr ?_
   exact k
theorem yGo {a:List Rw} (hl:a.length<1000000) {x0:List PV→List PV→Int→Bool→Prop} {x1:Bool→Prop} :
   ∀ (r i n:Nat),i+r=a.length→r<n→ybM x0 x1 n (rws a) (rws a) (i:Int)=x0 (rws a) (rws a) (a.length:Int) false:=by
 intro r
 induction r with
 | zero =>
   intro i n hi hn
   obtain ⟨n,rfl⟩:∃ m,n=m+1:=⟨n-1,by omega⟩
   rw [ybM,ylj,cbF (by omega),show i=a.length by omega]
 | succ r ih =>
   intro i n hi hn
   obtain ⟨n,rfl⟩:∃ m,n=m+1:=⟨n-1,by omega⟩
   have hil:i<a.length:=by omega
   rw [ybM,ylj,cbT (by omega)]
   dsimp only [lt]
   rw [asT (by omega),asT (by omega),Int.toNat_natCast,yqN hil,asRw,asT (by omega),asT (by omega),asRw]
   have e:((intOfV (cellAt (encRw (a.getD i default)) 0) == intOfV (cellAt (encRw (a.getD i default)) 0))&&((intOfV (cellAt (encRw (a.getD i default)) 1) == intOfV (cellAt (encRw (a.getD i default)) 1))&&true))=true:=by simp
   rw [e,Bool.not_true,yaa,cast1,wibN (by omega),ih (i+1) n (by omega) (by omega)]
theorem ysb {a:List Rw} (hl:a.length<1000000) (K:Bool→Prop):yds (rws a) (rws a) K=K true:=by
 refine yvA _ _ _ (fun K k=>?_) K
 unfold yds ykQ
 rw [cnF rfl]
 refine ⟨a.length+1,?_⟩
 exact (yGo hl a.length 0 (a.length+1) (by omega) (by omega)).mpr k
theorem yHj (l:List Rat):rts l=rws (l.map fun q=>(q.num,(q.den:Int))):=by
 unfold rts rws
 rw [List.map_map]
 rfl
theorem yCq {l:List Rat} (hl:l.length<1000000) (K:Bool→Prop):yds (rts l) (rts l) K=K true:=by
 rw [yHj,ysb (by rw [List.length_map];exact hl)]
theorem yyW {l:List Rat} {a:List Rw} (hl:l.length<1000000) (ha:a.length<1000000) (K:Bool→Prop):ymr (rts l) (rws a) (rts l) (rws a) K=K true:=by
 unfold ymr yqB
 dsimp only [Go.Pf.jn]
 rw [yCq hl,yab,ysb ha]
end Go.Pf.Vc
namespace Go.Pf.Vc
open Go Go.Pf Go.Sort
def exA:List Qy:=[⟨0,1,0,1,1,1,1,1⟩,⟨0,2,0,1,3,1,2,1⟩]
def exB:List Qy:=[⟨0,1,0,1,1,1,1,1⟩,⟨0,2,0,1,1,1,2,1⟩]
def exC:List Qy:=[⟨0,2,0,1,1,1,2,1⟩]
theorem yq8 {a:Int} (h1:0≤a) (h2:a≤5):I64 a:=⟨by omega,by omega⟩
theorem ex64 {l:List Qy} (h:l.all (fun q=>decide (0≤q.an∧q.an≤5∧0≤q.ad∧q.ad≤5∧0≤q.bn∧q.bn≤5∧0≤q.bd∧q.bd≤5∧0≤q.cn∧q.cn≤5∧0≤q.cd∧q.cd≤5))=true):∀ q∈l,q.q64:=by
 intro q hq
 have:=List.all_eq_true.1 h q hq
 simp only [decide_eq_true_eq] at this
 obtain ⟨h1,h2,h3,h4,h5,h6,h7,h8,h9,h10,h11,h12⟩:=this
 exact ⟨yq8 h1 h2,yq8 h3 h4,yq8 h5 h6,yq8 h7 h8,yq8 h9 h10,yq8 h11 h12⟩
theorem yn4:claimsE 2 exA=0∧claimsE 2 exB=0∧claimsE 2 exC=0:=by decide +kernel
theorem yn5:scaleL (exA.map cmOf)=some 1∧scaleL (exB.map cmOf)=some 1∧scaleL (exC.map cmOf)=some 1∧scaleL ((exB.take 1).map cmOf)=some 1:=by decide +kernel
theorem yLv:ptsC 2 (exA.map cmOf)=[0,1,2]:=by decide +kernel
theorem yLw:ptsC 2 (exC.map cmOf)=[0,2]:=by decide +kernel
theorem yMM:hts (ptsC 2 (exA.map cmOf)) 1 (exA.map cmOf)=some [0,4,12]:=by decide +kernel
theorem yJ5:hts (ptsC 2 (exB.map cmOf)) 1 (exB.map cmOf)=none:=by decide +kernel
theorem yLx:(hts (ptsC 2 ((exB.map cmOf).take 1)) 1 ((exB.map cmOf).take 1)).isSome=true:=by decide +kernel
theorem yMN:hts (ptsC 2 (exC.map cmOf)) 1 (exC.map cmOf)=some [0,3]:=by decide +kernel
theorem ex_FA:gF 1 [0,4,12]=[(0,1),(1,1),(3,1)]:=by decide +kernel
theorem ex_FC:gF 1 [0,3]=[(0,1),(1,1)]:=by decide +kernel
theorem yJ6:firstL 2 (exB.map cmOf)=1:=by
 have hc:∀ c∈exB.map cmOf,c.ok 2:=yjZ yn4.2.1
 symm
 refine ypj (by decide) (.inr ?_) (.inr ?_)
 · have hs:=yh8 yn5.2.2.2
   have H:=yHi (N:=2) (by decide) (by decide) hc (by decide) 1 (m:=1) (by rw [← List.map_take];exact hs)
   refine (yuQ H).1 ?_
   exact Option.isSome_iff_exists.1 yLx
 · have hs:=yh8 yn5.2.1
   have H:=Hy_of (N:=2) (by decide) (by decide) hc (by decide) hs
   intro hf
   obtain ⟨g,hg⟩:=(yuQ H).2 (by
     have e:(exB.map cmOf).take (1+1)=exB.map cmOf:=rfl
     rw [e] at hf
     exact hf)
   rw [yJ5] at hg
   cases hg
theorem yIt {N:Int} {log:List Qy} (h:claimsE N log=0) (e:scaleL (log.map cmOf)=none) (K:List PV→List PV→Int→Prop):outGs N log K=K [] [] 16:=by
 unfold outGs;rw [if_pos h,e]
theorem yGp {N:Int} {log:List Qy} (h:claimsE N log=0) {m:Nat} (e:scaleL (log.map cmOf)=some m) (e2:hts (ptsC N (log.map cmOf)) m (log.map cmOf)=none) (K:List PV→List PV→Int→Prop):outGs N log K=K [] [] 6:=by
 unfold outGs;rw [if_pos h,e];dsimp only;rw [e2]
theorem ys9 {N:Int} {log:List Qy} (h:claimsE N log=0) {m:Nat} (e:scaleL (log.map cmOf)=some m) {g:List Int} (e2:hts (ptsC N (log.map cmOf)) m (log.map cmOf)=some g) (K:List PV→List PV→Int→Prop):outGs N log K=K (rts (ptsC N (log.map cmOf))) (rws (gF m g)) 0:=by
 unfold outGs;rw [if_pos h,e];dsimp only;rw [e2]
theorem yGq {N:Int} {log:List Qy} (h:claimsE N log=0) (e:scaleL (log.map cmOf)=none):firstR N log=(0,16):=by
 unfold firstR;rw [if_pos h,e]
theorem ywq {N:Int} {log:List Qy} (h:claimsE N log=0) {m:Nat} (e:scaleL (log.map cmOf)=some m):firstR N log=((firstL N (log.map cmOf):Int),0):=by
 unfold firstR;rw [if_pos h,e]
theorem yJ7 (a b v:Int) (K:Int→Int→Int→Int→Int→Int→Int→Int→Prop):ymY a b v K=K 0 1 a 1 b 1 v 1:=rfl
theorem yLy (a b v:Int) (K:Int→Int→Int→Int→Int→Int→Int→Int→Prop):ypb a b v K=K 0 2 a 1 b 1 v 1:=rfl
theorem lv_of (a:Int) (K:Int→Int→Prop):ykx a K=K a 1:=rfl
theorem litA:([(.agg [(.int .i64 0),(.int .u8 1),(.int .i64 0),(.int .i64 1),(.int .i64 1),(.int .i64 1),(.int .i64 1),(.int .i64 1)]),(.agg [(.int .i64 0),(.int .u8 2),(.int .i64 0),(.int .i64 1),(.int .i64 3),(.int .i64 1),(.int .i64 2),(.int .i64 1)])]:List PV)=logs exA:=rfl
theorem litB:([(.agg [(.int .i64 0),(.int .u8 1),(.int .i64 0),(.int .i64 1),(.int .i64 1),(.int .i64 1),(.int .i64 1),(.int .i64 1)]),(.agg [(.int .i64 0),(.int .u8 2),(.int .i64 0),(.int .i64 1),(.int .i64 1),(.int .i64 1),(.int .i64 2),(.int .i64 1)])]:List PV)=logs exB:=rfl
theorem litC:([(.agg [(.int .i64 0),(.int .u8 2),(.int .i64 0),(.int .i64 1),(.int .i64 1),(.int .i64 1),(.int .i64 2),(.int .i64 1)])]:List PV)=logs exC:=rfl
theorem lit1:([(.agg [(.int .i64 0),(.int .i64 1)]),(.agg [(.int .i64 1),(.int .i64 1)]),(.agg [(.int .i64 2),(.int .i64 1)])]:List PV)=rts [0,1,2]:=rfl
theorem lit2:([(.agg [(.int .i64 0),(.int .i64 1)]),(.agg [(.int .i64 1),(.int .i64 1)]),(.agg [(.int .i64 3),(.int .i64 1)])]:List PV)=rws [(0,1),(1,1),(3,1)]:=rfl
theorem lit3:([(.agg [(.int .i64 0),(.int .i64 1)]),(.agg [(.int .i64 2),(.int .i64 1)])]:List PV)=rts [0,2]:=rfl
theorem lit4:([(.agg [(.int .i64 0),(.int .i64 1)]),(.agg [(.int .i64 1),(.int .i64 1)])]:List PV)=rws [(0,1),(1,1)]:=rfl
theorem ylp (K:Bool→Prop):ydY K=K true:=by
 unfold ydY ypc
 simp only [yJ7,yLy,lv_of]
 rw [litA,litB,litC,lit1,lit2,lit3,lit4]
 rw [yuS (ex64 (l:=exA) (by decide)) (by decide),ys9 yn4.1 yn5.1 yMM]
 rw [yuS (ex64 (l:=exB) (by decide)) (by decide),yGp yn4.2.1 yn5.2.1 yJ5]
 rw [yyV (ex64 (l:=exB) (by decide)) (by decide),ywq yn4.2.1 yn5.2.1,yJ6]
 rw [yuS (ex64 (l:=exC) (by decide)) (by decide),ys9 yn4.2.2 yn5.2.2.1 yMN]
 rw [yLv,yLw,ex_FA,ex_FC,yGg,ceT rfl,yyW (by decide) (by decide),yab,ceT rfl,ceT rfl,show (((((1:Nat):Int),(0:Int)).fst ==(1:Int)))=true from rfl,yab,ceT rfl,yyW (by decide) (by decide)]
end Go.Pf.Vc
namespace Go.Pf.Vc
open Go Go.Pf Go.Sort
theorem smallF {x d:Int} (h0:0≤x) (h1:x≤1000000000000000000) (d0:1≤d) (d1:d≤1000000000000000000):small ((x:Rat) / (d:Rat)):=by
 have hd:(d:Rat)≠0:=by
   have:(0:Rat)<(d:Rat):=Rat.intCast_pos.2 (by omega)
   grind
 generalize hq:(x:Rat) / (d:Rat)=q
 have e1:(q.num:Rat)*(d:Rat)=(x:Rat)*(q.den:Rat):=by
   have h2:(q.den:Rat)≠0:=by
     have:(0:Rat)<(q.den:Rat):=Rat.natCast_pos.2 q.den_pos
     grind
   have h3:q=(q.num:Rat) / (q.den:Rat):=by rw [← Rat.mkRat_eq_div,Rat.mkRat_self]
   have h4:q*(q.den:Rat)=(q.num:Rat):=by
     have:(q.num:Rat) / (q.den:Rat)*(q.den:Rat)=(q.num:Rat):=Rat.div_mul_cancel h2
     rw [← h3] at this
     exact this
   have h5:q*(d:Rat)=(x:Rat):=by rw [← hq];exact Rat.div_mul_cancel hd
   grind
 have e2:q.num*d=x*(q.den:Int):=by
   rw [show (q.den:Rat)=(((q.den:Nat):Int):Rat) from (Rat.intCast_natCast _).symm,← Rat.intCast_mul,← Rat.intCast_mul] at e1
   exact Rat.intCast_inj.1 e1
 have hp:=q.den_pos
 have n0:0≤q.num:=by
   refine Int.not_lt.1 fun h=>?_
   have a1:q.num*d<0:=Int.mul_neg_of_neg_of_pos h (by omega)
   have a2:0≤x*(q.den:Int):=Int.mul_nonneg h0 (by omega)
   omega
 have hdv:q.den∣d.natAbs:=by
   have hc:Nat.Coprime q.den q.num.natAbs:=q.reduced.symm
   refine hc.dvd_of_dvd_mul_left (m:=q.num.natAbs) ?_
   have:(q.num*d).natAbs=(x*(q.den:Int)).natAbs:=by rw [e2]
   rw [Int.natAbs_mul,Int.natAbs_mul,Int.natAbs_natCast] at this
   rw [this]
   exact Nat.dvd_mul_left ..
 obtain ⟨t,ht⟩:=hdv
 have hd2:d=(q.den:Int)*(t:Int):=by
   rw [← Int.natCast_mul,← ht];omega
 have t1:1≤t:=by
   rcases Nat.eq_zero_or_pos t with h | h
   · rw [h] at hd2;omega
   · exact h
 have e3:q.num*(t:Int)=x:=by
   have:(q.num*(t:Int))*(q.den:Int)=x*(q.den:Int):=by rw [← e2,hd2,Int.mul_assoc,Int.mul_comm (t:Int)]
   exact Int.eq_of_mul_eq_mul_right (by omega) this
 have e4:q.num≤q.num*(t:Int):=by
   have:=Int.mul_le_mul_of_nonneg_left (show (1:Int)≤(t:Int) by omega) n0
   omega
 have e5:(q.den:Int)≤(q.den:Int)*(t:Int):=by
   have:=Int.mul_le_mul_of_nonneg_left (show (1:Int)≤(t:Int) by omega) (show (0:Int)≤(q.den:Int) by omega)
   omega
 exact ⟨by omega,by omega,by omega⟩
def rwOf (l:List Rat):List Rw:=l.map fun q=>(q.num,(q.den:Int))
theorem ykz (l:List Rat):(rwOf l).length=l.length:=List.length_map ..
theorem yJ8 (l:List Rat):rwQ (rwOf l)=l:=by
 unfold rwQ rwOf
 rw [List.map_map]
 conv=>rhs;rw [← List.map_id l]
 refine List.map_congr_left fun q _=>?_
 exact ydT q
theorem ylk {l:List Rat} {i:Nat} (h:i<l.length):(rwOf l).getD i default=((l.getD i 0).num,((l.getD i 0).den:Int)):=by
 unfold rwOf
 rw [List.getD_eq_getElem?_getD,List.getD_eq_getElem?_getD,List.getElem?_map,List.getElem?_eq_getElem h]
 rfl
theorem yEs {l:List Rat} (h:∀ z∈l,small z):∀ r∈rwOf l,Rw.i64 r:=by
 intro r hr
 obtain ⟨q,hq,rfl⟩:=List.mem_map.1 hr
 exact ⟨(h q hq).i1,(h q hq).i2⟩
theorem yuT (q:Rat):Rw.q (q.num,(q.den:Int))=q:=ydT q
theorem yMO {N:Int} {ps fs:List Rat} (h:Gs N ps fs):gOk N (rwOf ps) (rwOf fs):=by
 have hl:=h.len
 have h2:=h.two
 have ht:=h.top
 refine ⟨by rw [ykz];exact h2,by rw [ykz];exact ht,by rw [ykz,ykz];exact hl,fun j _ hj=>?_,?_⟩
 · rw [ykz] at hj
   refine ⟨?_,?_,fun h0=>?_⟩
   · rw [ylk hj];exact (yn3 h.sp hj).rv
   · rw [ylk (by omega)];exact (yn3 h.sf (by omega)).rv
   · rw [ylk hj,ylk (by omega),ylk (by omega),ylk (by omega),yuT,yuT,yuT,yuT]
     exact ⟨(ym3 h.inc (by omega) hj).2 (by omega),h.mono j h0 hj⟩
 · unfold gEnds
   rw [ykz,ylk (by omega),ylk (by omega),ylk (by omega),h.p0,h.f0,h.pn]
   exact ⟨rfl,rfl,rfl⟩
theorem yIu {l:List Rat} (h:incrR l) (hl:1≤l.length) {x:Rat} (hx:x∈l) (ht:∀ y∈l,y≤x):l.getD (l.length-1) 0=x:=by
 have hi:=ydf hx
 have hm:l.getD (l.length-1) 0∈l:=yqJ (by omega)
 have h1:=ht _ hm
 by_cases e:l.idxOf x=l.length-1
 · rw [← e,yeb hx]
 · have h2:=(ym3 h hi (show l.length-1<l.length by omega)).2 (by omega)
   rw [yeb hx] at h2
   exact absurd h2 (Rat.not_lt.2 h1)
theorem yIv {N:Int} (h1:1≤N) {L:List Cm} (hc:∀ c∈L,c.ok N):(ptsC N L).getD ((ptsC N L).length-1) 0=(N:Rat):=by
 refine yIu (yq5 h1 L) (by have:=yEo h1 L;omega) (yea.2 (.inr (.inl rfl))) fun y hy=>?_
 have hN:(0:Rat)≤(N:Rat):=Rat.intCast_nonneg.2 (by omega)
 rcases yea.1 hy with rfl | rfl | ⟨c,hc2,rfl | rfl⟩
 · exact hN
 · exact Rat.le_refl
 · have h:=hc c hc2;have a:=h.ft;have b:=h.tn;grind
 · exact (hc c hc2).tn
def gfs (m:Nat) (g:List Int):List Rat:=g.map (dv m (g.length+1))
theorem yqP {m:Nat} {g:List Int} {i:Nat} (h:i<g.length):(gfs m g).getD i 0=dv m (g.length+1) (hAt g i):=by
 unfold gfs hAt
 rw [List.getD_eq_getElem?_getD,List.getD_eq_getElem?_getD,List.getElem?_map,List.getElem?_eq_getElem h]
 rfl
theorem yJ9 (m s:Nat) (x:Int):dv m s x=(x:Rat) / (((m*s:Nat):Int):Rat):=by
 unfold dv
 rw [Rat.intCast_natCast,Rat.natCast_mul]
theorem yMP {m:Nat} {g:List Int} (h:∀ z∈gfs m g,small z):gF m g=rwOf (gfs m g):=by
 unfold gF rwOf gfs
 rw [List.map_map]
 refine List.map_congr_left fun x hx=>?_
 have hs:small (dv m (g.length+1) x):=h _ (List.mem_map_of_mem hx)
 unfold mkF
 show _=((dv m (g.length+1) x).num,((dv m (g.length+1) x).den:Int))
 rw [yJ9] at hs ⊢
 rw [if_pos hs]
theorem yKa {N:Int} (n1:1≤N) (n2:N≤1000) {L:List Cm} (hc:∀ c∈L,c.ok N) (hl:L.length≤14) {m:Nat} (hs:Sc L m) {g:List Int} (e:hts (ptsC N L) m L=some g) :
   Gs N (ptsC N L) (gfs m g)∧∀ i,fitsE (ptsC N L) (gfs m g) i L=(((i+L.length:Nat):Int),0):=by
 have H:=Hy_of n1 n2 hc (by omega) hs
 have hp:=yuO N L
 have h2:=H.two
 have hm:=hs.one
 have hm2:=hs.top
 have hT:100000000000000*((57*((ptsC N L).length+1):Nat):Int)≤1000000000000000000:=by
   rw [Int.natCast_mul];omega
 obtain ⟨gl,gb⟩:=yHf H e (c:=57) (by omega) hT
 have hms:m*(g.length+1)≤1000000000*1000:=Nat.mul_le_mul hm2 (by omega)
 have hms1:1≤m*(g.length+1):=Nat.mul_pos (by omega) (by omega)
 have sm:∀ x:Int,0≤x→x≤1000000000000000000→small (dv m (g.length+1) x):=fun x h0 h1=>by
   rw [yJ9]
   exact smallF h0 h1 (by omega) (by omega)
 have fl:(gfs m g).length=(ptsC N L).length:=by unfold gfs;rw [List.length_map,gl]
 obtain ⟨st,hst,hsol,h0,_⟩:=yHd H e
 have h01:=ypi (fun c hc=>(H.ok c hc).2.2) (ybX _) (fun i=>by rw [ydO];omega) hst
 obtain ⟨hs1,hz⟩:=ys7 (fun c hc=>(H.ok c hc).2.2) (ybX _) hst
 have hcon:∀ q∈conF st 1 ((ptsC N L).length-1),q∈hR (ptsC N L) m L st:=fun q hq=>List.mem_append_left _ hq
 have hmono:=yEp hsol h01 hcon
 have hsf:∀ z∈gfs m g,small z:=fun z hz=>by
   obtain ⟨i,hi,e⟩:=yCp (d:=(0:Rat)) hz
   rw [fl] at hi
   rw [← e,yqP (by omega)]
   exact sm _ (gb i).1 (gb i).2
 have G:Gs N (ptsC N L) (gfs m g):={
   len:=fl
   two:=h2
   top:=by omega
   sp:=H.sm
   sf:=hsf
   inc:=H.inc
   mono:=fun i h1 hi=>by
     rw [yqP (by omega),yqP (by omega)]
     exact dv_le hm (by omega) (hmono _ _ (by omega) hi)
   p0:=H.p0
   f0:=by
     rw [yqP (by omega),h0]
     unfold dv
     rw [Rat.div_def,show ((0:Int):Rat)=0 from rfl,Rat.zero_mul]
   pn:=yIv n1 hc }
 refine ⟨G,?_⟩
 have key:∀ c∈L,small (fitS (ptsC N L) (gfs m g) c)∧fitB (ptsC N L) (gfs m g) c=true:=by
   intro c hcL
   obtain ⟨c1,c2,c3⟩:=H.ok c hcL
   have i2:=ydf c2
   have i3:=ydf c3
   have eS:fitS (ptsC N L) (gfs m g) c=(gfs m g).getD ((ptsC N L).idxOf c.t) 0:=by
     unfold fitS
     rw [yqP (by omega),yqP (by omega),yGk hsol hcL,gl,yJ2 hm (by omega) (hs.dvd c hcL)]
   refine ⟨by rw [eS];exact yn3 hsf (by omega),?_⟩
   unfold fitB
   rw [decide_eq_true eS,Bool.true_and]
   cases hcm:c.m with
   | false=>rfl
   | true =>
     rw [Bool.not_true,Bool.false_or]
     by_cases hv:c.v=0
     · rw [if_pos hv,hz c hcL hcm hv,decide_eq_true rfl]
     · have hs3:hAt st ((ptsC N L).idxOf c.t)=1:=(hs1 _).2 (.inr ⟨c,hcL,hcm,hv,rfl⟩)
       have ipos:0<(ptsC N L).idxOf c.t:=by
         refine Nat.pos_of_ne_zero fun h=>?_
         have hN0:=hsol.pos ((ptsC N L).idxOf c.f)
         have hq:=yGk hsol hcL
         rw [h,h0] at hq
         have hvp:=(yyP H hcL).2.2.2.1
         have hvz:vC m ((ptsC N L).length+1) c=0:=by omega
         unfold vC at hvz
         have hn:c.v.num≠0:=fun e=>hv (Rat.num_eq_zero.1 e)
         have hd:0<m / c.v.den:=Nat.div_pos (Nat.le_of_dvd (by omega) (hs.dvd c hcL)) c.v.den_pos
         rcases Int.mul_eq_zero.1 hvz with h5 | h5
         · rcases Int.mul_eq_zero.1 h5 with h6 | h6
           · exact hn h6
           · omega
         · omega
       have h3:=yEq hsol hcon ipos i3
       rw [if_neg hv,yqP (by omega),yqP (by omega),decide_eq_true_eq]
       exact dv_lt hm (by omega) (by omega)
 have gen:∀ (M:List Cm),(∀ c∈M,small (fitS (ptsC N L) (gfs m g) c)∧fitB (ptsC N L) (gfs m g) c=true)→∀ i,fitsE (ptsC N L) (gfs m g) i M=(((i+M.length:Nat):Int),0):=by
   intro M
   induction M with
   | nil=>intro _ i;rfl
   | cons c r ih =>
     intro h i
     obtain ⟨h1,h2⟩:=h c List.mem_cons_self
     unfold fitsE
     rw [if_pos h1,if_pos h2,ih (fun d hd=>h d (List.mem_cons_of_mem _ hd)) (i+1),List.length_cons]
     rw [show i+1+r.length=i+(r.length+1) by omega]
 exact gen L key
theorem yGr {N:Int} {log:List Qy} (h64:∀ q∈log,q.q64) (hl:log.length≤14) (hE:claimsE N log=0) {m:Nat} (hs:Sc (log.map cmOf) m) {g:List Int} (e:hts (ptsC N (log.map cmOf)) m (log.map cmOf)=some g) :
   (∀ K:Int→Int→Prop,ycq N (rts (ptsC N (log.map cmOf))) (rws (gF m g)) (logs log) K=K (log.length:Int) 0)∧gOk N (rwOf (ptsC N (log.map cmOf))) (gF m g)∧(∀ r∈gF m g,Rw.i64 r):=by
 obtain ⟨n1,n2,_,_⟩:=yg0 hE
 have hc:=yjZ hE
 obtain ⟨G,hf⟩:=yKa n1 n2 hc (by rw [List.length_map];exact hl) hs e
 have hp:=yuO N (log.map cmOf)
 rw [List.length_map] at hp
 have hfl:=G.len
 have eF:=yMP G.sf
 have ok:=yMO G
 have i64:∀ r∈gF m g,Rw.i64 r:=by rw [eF];exact yEs G.sf
 refine ⟨fun K=>?_,by rw [eF];exact ok,i64⟩
 have eP:rts (ptsC N (log.map cmOf))=rws (rwOf (ptsC N (log.map cmOf))):=yHj _
 rw [eP,yz5 (yEs G.sp) i64 (by rw [ykz];omega) (by rw [eF,ykz];omega) h64 (by omega)]
 unfold fitsR
 rw [if_pos hE,if_pos (by rw [eF];exact ok),yJ8,if_pos (fun q hq=>hq),eF,yJ8,hf 0,List.length_map,Nat.zero_add]
end Go.Pf.Vc
namespace Go.Pf.Vc
open Go Go.Pf Go.Sort
theorem yKb (N:Int):Feas N []:=⟨fun p=>p,rfl,fun _ _ _ _ h=>h,fun c hc=>by cases hc⟩
theorem yKc {N:Int} {L:List Cm} {k:Nat} (hk:k≤firstL N L):Feas N (L.take k):=by
 rcases Nat.eq_zero_or_pos k with h | h
 · subst h;rw [List.take_zero];exact yKb N
 · exact (yAN N L).2.1 k h hk
theorem yIw {N:Int} {L:List Cm}:firstL N L=L.length↔Feas N L:=by
 constructor
 · intro h
   have:=yKc (N:=N) (L:=L) (k:=L.length) (by omega)
   rwa [List.take_length] at this
 · intro h
   exact (ypj (Nat.le_refl _) (.inr (by rw [List.take_length];exact h)) (.inl rfl)).symm
end Go.Pf.Vc
namespace Go.Pf.Vc
open Go Go.Pf
section
variable {l:List Ck}
theorem yn6 {α:Type} {q:Rat} {k:Rat→Except Int α} {x:α} (h:fit q k=.ok x):small q∧k q=.ok x:=by
 unfold fit at h
 split at h
 · rename_i hs;exact ⟨hs,h⟩
 · cases h
theorem ypk {cuts dens:List Int}:∀ (r i:Nat) (p v q:Rat),mrkS cuts dens r i p v=.ok q→small q
 | 0,_,_,_,_,h=>by unfold mrkS at h;cases h
 | r+1,i,p,v,q,h=>by
   unfold mrkS at h
   split at h
   · exact ypk r _ _ _ _ h
   · split at h
     · exact ypk r _ _ _ _ h
     · obtain ⟨_,h⟩:=yn6 h
       obtain ⟨_,h⟩:=yn6 h
       split at h
       · obtain ⟨_,h⟩:=yn6 h
         exact ypk r _ _ _ _ h
       · obtain ⟨_,h⟩:=yn6 h
         obtain ⟨s,h⟩:=yn6 h
         cases h
         exact s
theorem yGs {len:Int} {cuts dens:List Int} {an ad vn vd:Int} {q:Rat} (h:mrkR len cuts dens an ad vn vd=.ok q):small q:=by
 unfold mrkR at h
 split at h
 · split at h
   · rename_i hp
     unfold mrkC at h
     split at h
     · cases h;exact hp.1.pt.1
     · exact ypk _ _ _ _ _ h
   · cases h
 · cases h
end
end Go.Pf.Vc
namespace Go.Pf.Vc
open Go Go.Pf
section
variable {l:List Ck}
theorem ymx {q:Rat} {k:Rat→Except Int Rat} {e:Int} (h:fit q k=.error e):e=16∨k q=.error e:=by
 unfold fit at h
 split at h
 · exact .inr h
 · cases h;exact .inl rfl
theorem yuU {cuts dens:List Int}:∀ (r i:Nat) (p v:Rat) (e:Int),mrkS cuts dens r i p v=.error e→e≠0
 | 0,_,_,_,_,h=>by unfold mrkS at h;cases h;decide
 | r+1,i,p,v,e,h=>by
   have f16:∀ {x:Int} {P:Prop},(x=16∨P)→(P→x≠0)→x≠0:=fun {x P} h1 h2=>by
     rcases h1 with rfl | h1
     · decide
     · exact h2 h1
   unfold mrkS at h
   split at h
   · exact yuU r _ _ _ _ h
   · split at h
     · exact yuU r _ _ _ _ h
     · refine f16 (ymx h) fun h=>f16 (ymx h) fun h=>?_
       split at h
       · exact f16 (ymx h) fun h=>yuU r _ _ _ _ h
       · exact f16 (ymx h) fun h=>f16 (ymx h) fun h=>by cases h
theorem yKd {len:Int} {cuts dens:List Int} {an ad vn vd e:Int} (h:mrkR len cuts dens an ad vn vd=.error e):e≠0:=by
 unfold mrkR at h
 split at h
 · split at h
   · unfold mrkC at h
     split at h
     · cases h
     · exact yuU _ _ _ _ _ h
   · cases h;decide
 · rename_i hc;cases h;exact hc
end
end Go.Pf.Vc
namespace Go.Pf.Vc
open Go Go.Pf
section
variable {len:Int} {cuts dens:List Int}
theorem yHk (h:VC len cuts dens) {i:Nat} (hi:i+1<cuts.length) {x y:Rat} (hxy:x≤y):uC cuts i x≤uC cuts i y:=by
 have hst:((cuts.getD i 0:Int):Rat)<((cuts.getD (i+1) 0:Int):Rat):=Rat.intCast_lt_intCast.2 (h.step (i:=i) hi)
 have m1:=yli x (cuts.getD i 0:Int)
 have m2:=yli y (cuts.getD i 0:Int)
 have n1:=ypg (maxR x (cuts.getD i 0:Int)) (cuts.getD (i+1) 0:Int)
 have n2:=ypg (maxR y (cuts.getD i 0:Int)) (cuts.getD (i+1) 0:Int)
 unfold uC
 grind
theorem yKe (h:VC len cuts dens) {i:Nat} (hi:i<dens.length):(0:Rat)≤((dens.getD i 0:Int):Rat):=Rat.intCast_nonneg.2 (h.den hi).1
theorem yCr (h:VC len cuts dens) {x y:Rat} (hxy:x≤y):∀ (r i:Nat),i+r=dens.length→vu cuts dens x r i≤vu cuts dens y r i
 | 0,_,_=>Rat.le_refl
 | r+1,i,hi=>by
   have l1:=h.l1
   have h1:=yHk h (i:=i) (by omega) hxy
   have h2:=yCr h hxy r (i+1) (by omega)
   have h3:=Rat.mul_le_mul_of_nonneg_left h1 (yKe h (i:=i) (by omega))
   unfold vu
   grind
theorem yHl (h:VC len cuts dens) {x y:Rat} (hxy:x≤y):vX cuts dens x≤vX cuts dens y:=yCr h hxy dens.length 0 (by omega)
theorem yw7 (h:VC len cuts dens):∀ (r i:Nat) (p v q:Rat),i+r=dens.length→0<v→((cuts.getD i 0:Int):Rat)≤p→mrkS cuts dens r i p v=.ok q →
   vu cuts dens q r i-vu cuts dens p r i=v∧p<q∧q≤((cuts.getD dens.length 0:Int):Rat)∧∀ x,x<q→vu cuts dens x r i<vu cuts dens q r i
 | 0,_,_,_,_,_,_,_,e=>by cases e
 | r+1,i,p,v,q,hi,hv,hp,e=>by
   have l1:=h.l1
   have hst:((cuts.getD i 0:Int):Rat)<((cuts.getD (i+1) 0:Int):Rat):=Rat.intCast_lt_intCast.2 (h.step (i:=i) (by omega))
   have hd:=h.den (i:=i) (by omega)
   have hd0:=yKe h (i:=i) (by omega)
   have low:=fun {x y:Rat}=>yF2 h r (i+1) (x:=x) (y:=y) (by omega)
   have hmon:=fun {x:Rat} (hx:x<q)=>yHk h (i:=i) (by omega) (Rat.le_of_lt hx)
   have hmon2:=fun {x:Rat} (hx:x<q)=>yCr h (Rat.le_of_lt hx) r (i+1) (by omega)
   have m1:=yli p (cuts.getD i 0:Int)
   have m2:=yli q (cuts.getD i 0:Int)
   have n1:=ypg (maxR p (cuts.getD i 0:Int)) (cuts.getD (i+1) 0:Int)
   have n2:=ypg (maxR q (cuts.getD i 0:Int)) (cuts.getD (i+1) 0:Int)
   unfold mrkS at e
   by_cases c1:p<((cuts.getD (i+1) 0:Int):Rat)
   case neg =>
     rw [if_pos c1] at e
     obtain ⟨a1,a2,a3,a4⟩:=yw7 h r (i+1) p v q (by omega) hv (Rat.not_lt.1 c1) e
     have eq:uC cuts i q=uC cuts i p:=by unfold uC;grind
     refine ⟨by unfold vu;rw [eq];grind,a2,a3,fun x hx=>?_⟩
     have b1:=a4 x hx
     have b2:=Rat.mul_le_mul_of_nonneg_left (hmon hx) hd0
     unfold vu
     grind
   rw [if_neg (fun k=>k c1)] at e
   by_cases c2:dens.getD i 0=0
   · rw [if_pos c2] at e
     obtain ⟨a1,a2,a3,a4⟩:=yw7 h r (i+1) _ v q (by omega) hv Rat.le_refl e
     have e2:=low (x:=p) (y:=((cuts.getD (i+1) 0:Int):Rat)) (Rat.le_of_lt c1) Rat.le_refl
     refine ⟨by unfold vu;rw [e2,c2];grind,by grind,a3,fun x hx=>?_⟩
     have b1:=a4 x hx
     have b2:=Rat.mul_le_mul_of_nonneg_left (hmon hx) hd0
     unfold vu
     grind
   rw [if_neg c2] at e
   have e:=ym1 (ym1 e)
   have dpos:(0:Rat)<((dens.getD i 0:Int):Rat):=Rat.intCast_pos.2 (by omega)
   have up:uC cuts i p=p:=by unfold uC;grind
   by_cases c3:(((cuts.getD (i+1) 0:Int):Rat)-p)*((dens.getD i 0:Int):Rat)<v
   · rw [if_pos c3] at e
     have e:=ym1 e
     obtain ⟨a1,a2,a3,a4⟩:=yw7 h r (i+1) _ _ q (by omega) (by grind) Rat.le_refl e
     have e2:=low (x:=p) (y:=((cuts.getD (i+1) 0:Int):Rat)) (Rat.le_of_lt c1) Rat.le_refl
     have uq:uC cuts i q=((cuts.getD (i+1) 0:Int):Rat):=by unfold uC;grind
     refine ⟨by unfold vu;rw [e2,up,uq];grind,by grind,a3,fun x hx=>?_⟩
     have b1:=a4 x hx
     have b2:=Rat.mul_le_mul_of_nonneg_left (hmon hx) hd0
     unfold vu
     grind
   · rw [if_neg c3] at e
     have e:=ym1 (ym1 e)
     cases e
     generalize hs:v / ((dens.getD i 0:Int):Rat)=s at *
     have es:s*((dens.getD i 0:Int):Rat)=v:=by rw [← hs];exact Rat.div_mul_cancel (by grind)
     have s0:0<s:=by
       refine Rat.not_le.1 fun k=>?_
       have:=Rat.mul_le_mul_of_nonneg_right k hd0
       grind
     have s1:p+s≤((cuts.getD (i+1) 0:Int):Rat):=by
       refine Rat.not_lt.1 fun k=>?_
       have:(((cuts.getD (i+1) 0:Int):Rat)-p)<s:=by grind
       have:=Rat.mul_lt_mul_of_pos_right this dpos
       grind
     have uq:uC cuts i (p+s)=p+s:=by unfold uC;grind
     have e2:=low (x:=p+s) (y:=p) s1 (Rat.le_of_lt c1)
     have hlast:cuts.getD (i+1) 0≤cuts.getD dens.length 0:=h.mono (by omega) (by omega)
     have hlast:((cuts.getD (i+1) 0:Int):Rat)≤((cuts.getD dens.length 0:Int):Rat):=Rat.intCast_le_intCast.2 hlast
     refine ⟨by unfold vu;rw [e2,up,uq];grind,by grind,by grind,fun x hx=>?_⟩
     have b1:=hmon2 hx
     have ux:uC cuts i x<p+s:=by
       have k1:=yli x (cuts.getD i 0:Int)
       have k2:=ypg (maxR x (cuts.getD i 0:Int)) (cuts.getD (i+1) 0:Int)
       unfold uC
       grind
     have b2:=Rat.mul_lt_mul_of_pos_left ux dpos
     unfold vu
     rw [uq]
     grind
theorem VC.last (h:VC len cuts dens):cuts.getD dens.length 0=len:=by
 have l1:=h.l1
 have:=h.2.2.2.2.2.2.1
 rw [show dens.length=cuts.length-1 by omega]
 exact this
theorem yLz (h:VC len cuts dens) {a v q:Rat} (h0:0≤a) (h1:a≤(len:Rat)) (hv:0≤v) (e:mrkC cuts dens a v=.ok q) :
   vX cuts dens q=vX cuts dens a+v∧a≤q∧q≤(len:Rat)∧(v=0→a=q)∧(v≠0→∀ x,x<q→vX cuts dens x<vX cuts dens q):=by
 unfold mrkC at e
 by_cases c:v=0
 · rw [if_pos c] at e
   cases e
   rw [c]
   exact ⟨by grind,Rat.le_refl,h1,fun _=>rfl,fun k=>absurd rfl k⟩
 · rw [if_neg c] at e
   have c0:cuts.getD 0 0=0:=h.2.2.2.2.2.1
   obtain ⟨a1,a2,a3,a4⟩:=yw7 h dens.length 0 a v q (by omega) (by grind) (by rw [c0];exact h0) e
   rw [h.last] at a3
   exact ⟨by unfold vX;grind,Rat.le_of_lt a2,a3,fun k=>absurd k c,fun _=>a4⟩
end
end Go.Pf.Vc
namespace Go.Pf.Vc
open Go Go.Pf Go.Sort
def tolA (c:Ck) (q:Qy):Except Int Rat:=if q.kind=1 then valR c.len c.cuts c.dens q.an q.ad q.bn q.bd else if q.kind=2 then mrkR c.len c.cuts c.dens q.an q.ad q.bn q.bd else .error 8
def tolQ (c:Ck) (q:Qy):Option Qy:=match tolA c q with
 | .ok y=>some ⟨q.agent,q.kind,q.an,q.ad,q.bn,q.bd,y.num,y.den⟩
 | .error _=>none
theorem yKf {len:Int} {cuts dens:List Int} {an ad bn bd e:Int} (h:valR len cuts dens an ad bn bd=.error e):e≠0:=fun k=>yJD (by rw [h,k])
theorem yLA (c:Ck):([.agg [.int .i64 c.len,.data (ints c.cuts),.data (ints c.dens)]]:List PV)=cks [c]:=rfl
theorem yKg {c:Ck} (hf:c.fin) {k an ad bn bd:Int} (hk:k=1∨k=2) (h1:I64 an) (h2:I64 ad) (h3:I64 bn) (h4:I64 bd) {y:Rat} (e:ansQ k an ad bn bd c=.ok y) (K:Bool→Prop) :
   ybL (cks [c]) 0 k an ad bn bd y.num y.den K=K true:=by
 have hfc:finC [c]:=fun i hi=>by
   obtain rfl:i=0:=by simp at hi;exact hi
   exact hf
 unfold ybL yo4
 dsimp only [Go.Pf.jn]
 rw [yJB,decide_eq_true (show (0:Int)≤0∧(0:Int)<(([c]:List Ck).length:Nat) from ⟨by omega,by simp⟩),Bool.not_true,yaa]
 have key:=fun K=>yH8 (l:=[c]) (a:=0) (by simp) hfc k y.num (y.den:Int) h1 h2 h3 h4 K
 have fin:ygV (cks [c]) 0 k an ad bn bd y.num y.den (fun yi10 yi11 yi12=>cbr (yi12 ==(0:Int)) (K ((yi10 == y.num)&&((yi11 ==(y.den:Int))&&true))) (K false))=K true:=by
   refine (key _).trans ?_
   rw [show ([c]:List Ck).getD 0 default=c from rfl,e,yvK,ceT rfl]
   congr 1
   simp
 rcases hk with k1 | k2
 · rw [cnF k1,yaa]
   exact fin
 · rw [cnT (by omega),bne_f k2,yaa]
   exact fin
def exTo (o:Except Int Rat) (A:Int→Int→Prop) (B:Prop):Prop:=match o with
 | .ok y=>A y.num y.den
 | .error _=>B
def tolK (o:Option Qy) (A:Int→Int→Prop) (B:Prop):Prop:=match o with
 | some q=>A q.cn q.cd
 | none=>B
theorem yLB (c:Ck) (q:Qy) (A:Int→Int→Prop) (B:Prop):tolK (tolQ c q) A B=exTo (tolA c q) A B:=by
 unfold tolQ
 cases tolA c q <;> rfl
theorem yAO {c:Ck} (hf:c.fin) {q:Qy} (h64:q.q64) {A:Int→Int→Prop} {B:Prop} :
   (cbr (q.kind ==(1:Int))
     (ybT c.len (ints c.cuts) (ints c.dens) q.an q.ad q.bn q.bd (fun yi123 yi124 yi125 =>
       (cbr (q.kind ==(2:Int))
         (ycb c.len (ints c.cuts) (ints c.dens) q.an q.ad q.bn q.bd (fun yi120 yi121 yi122 =>
           (cbr (yi122 ==(0:Int)) (ybL ([(.agg [(.int .i64 c.len),(.data (ints c.cuts)),(.data (ints c.dens))])]:List PV) (0:Int) q.kind q.an q.ad q.bn q.bd yi120 yi121 (fun yb119=>cbr yb119 (A yi120 yi121) B)) (cbr false (A yi120 yi121) B))))
         (cbr (yi125 ==(0:Int)) (ybL ([(.agg [(.int .i64 c.len),(.data (ints c.cuts)),(.data (ints c.dens))])]:List PV) (0:Int) q.kind q.an q.ad q.bn q.bd yi123 yi124 (fun yb119=>cbr yb119 (A yi123 yi124) B)) (cbr false (A yi123 yi124) B)))))
     (cbr (q.kind ==(2:Int))
       (ycb c.len (ints c.cuts) (ints c.dens) q.an q.ad q.bn q.bd (fun yi120 yi121 yi122 =>
         (cbr (yi122 ==(0:Int)) (ybL ([(.agg [(.int .i64 c.len),(.data (ints c.cuts)),(.data (ints c.dens))])]:List PV) (0:Int) q.kind q.an q.ad q.bn q.bd yi120 yi121 (fun yb119=>cbr yb119 (A yi120 yi121) B)) (cbr false (A yi120 yi121) B))))
       (cbr ((8:Int) ==(0:Int)) (ybL ([(.agg [(.int .i64 c.len),(.data (ints c.cuts)),(.data (ints c.dens))])]:List PV) (0:Int) q.kind q.an q.ad q.bn q.bd q.cn q.cd (fun yb119=>cbr yb119 (A q.cn q.cd) B)) (cbr false (A q.cn q.cd) B))))
   = tolK (tolQ c q) A B:=by
 obtain ⟨f1,f2⟩:=hf
 obtain ⟨i1,i2,i3,i4,i5,i6⟩:=h64
 rw [yLA,yLB]
 have hf':c.fin:=⟨f1,f2⟩
 have hend:∀ {k:Int} (hk:k=1∨k=2) {o:Except Int Rat} (ho:ansQ k q.an q.ad q.bn q.bd c=o) (h0:∀ e,o=.error e→e≠0),exK o (fun a b d=>(cbr (d ==(0:Int)) (ybL (cks [c]) (0:Int) k q.an q.ad q.bn q.bd a b (fun yb119=>cbr yb119 (A a b) B)) (cbr false (A a b) B)))=exTo o A B:=by
   intro k hk o ho h0
   cases o with
   | ok y=>rw [yvK,ceT rfl,yKg hf' hk i1 i2 i3 i4 ho,yab];rfl
   | error e=>rw [yyD,ceF (h0 e rfl),yaa];rfl
 unfold tolA
 by_cases k1:q.kind=1
 · rw [ceT k1,if_pos k1,yH6 f1 f2 i1 i2 i3 i4]
   have he:=hend (k:=1) (.inl rfl) (o:=valR c.len c.cuts c.dens q.an q.ad q.bn q.bd) (by unfold ansQ;rw [if_pos rfl];rfl) (fun e h=>yKf h)
   rw [k1]
   simp only [show ((1:Int) == 2)=false from rfl,yaa] at he ⊢
   exact he
 · rw [ceF k1,if_neg k1]
   by_cases k2:q.kind=2
   · rw [ceT k2,if_pos k2,yJx f1 f2 i1 i2 i3 i4]
     have he:=hend (k:=2) (.inr rfl) (o:=mrkR c.len c.cuts c.dens q.an q.ad q.bn q.bd) (by unfold ansQ;rw [if_neg (by decide)];rfl) (fun e h=>yKd h)
     rw [k2,he]
   · rw [ceF k2,if_neg k2,ceF (by decide),yaa]
     rfl
theorem yEt (q:Qy) (a b:Int):([(.agg [(.int .i64 q.agent),(.int .u8 q.kind),(.int .i64 q.an),(.int .i64 q.ad),(.int .i64 q.bn),(.int .i64 q.bd),(.int .i64 a),(.int .i64 b)])]:List PV)=logs [⟨q.agent,q.kind,q.an,q.ad,q.bn,q.bd,a,b⟩]:=rfl
theorem yIx (a b:List Qy):logs a++logs b=logs (a++b):=by unfold logs;rw [List.map_append]
theorem yAP {c:Ck} {q q':Qy} (h:tolQ c q=some q'):q'=⟨q.agent,q.kind,q.an,q.ad,q.bn,q.bd,q'.cn,q'.cd⟩:=by
 unfold tolQ at h
 split at h
 · cases h;rfl
 · cases h
theorem yKh {c:Ck} (hf:c.fin) {log:List Qy} (h64:∀ q∈log,q.q64) (hl:log.length<1000) {a0:yeB} {a1:ybb} {a2:yeD} {a3:yeE} {a7:ybO} {a8:ybP} {a9:ydS} {x1:List PV→List PV→Int→List PV→List PV→Int→Bool→Prop} :
   ∀ (r i n:Nat) (acc:List Qy),i+r=log.length→r<n→acc.length≤i →
     ybA a0 a1 a2 a3 ybT ycb ybL a7 a8 a9 x1 n (logs acc) (logs log) c.len (ints c.cuts) (ints c.dens) (i:Int)=x1 (logs (acc++(log.drop i).filterMap (tolQ c))) (logs log) c.len (ints c.cuts) (ints c.dens) (log.length:Int) false:=by
 intro r
 induction r with
 | zero =>
   intro i n acc hi hn ha
   obtain ⟨n,rfl⟩:∃ m,n=m+1:=⟨n-1,by omega⟩
   rw [ybA,ye9,cbF (by omega),List.drop_eq_nil_of_le (by omega),List.filterMap_nil,List.append_nil,show i=log.length by omega]
 | succ r ih =>
   intro i n acc hi hn ha
   obtain ⟨n,rfl⟩:∃ m,n=m+1:=⟨n-1,by omega⟩
   have hil:i<log.length:=by omega
   have hd:log.drop i=log.getD i default::log.drop (i+1):=ycE default hil
   have hq:=yF8 h64 hil
   rw [ybA,ye9,cbT (by omega)]
   dsimp only [lt,Go.Pf.jn]
   rw [asT (by omega),asT (by omega),Int.toNat_natCast,yCg hil,asQ,encQ0,encQ1,encQ2,encQ3,encQ4,encQ5,encQ6,encQ7,hd]
   generalize log.getD i default=q at *
   refine (yAO hf hq).trans ?_
   unfold tolK
   cases e:tolQ c q with
   | none =>
     dsimp only
     rw [cast1,wibN (by omega),asEE,asE,ih (i+1) n acc (by omega) (by omega) (by omega),List.filterMap_cons_none e]
   | some q' =>
     dsimp only
     rw [yEt,← yAP e,yIx,ye9,asE,asT (by omega),asNo (by omega),asE,asT (by show _≤35184372088832;omega),cast1,wibN (by omega),asEE,asE,ih (i+1) n _ (by omega) (by omega) (by simp;omega),List.filterMap_cons_some e,List.append_assoc]
     rfl
theorem yIy {c:Ck} (hf:c.fin) {log:List Qy} (h64:∀ q∈log,q.q64) (hl:log.length<1000) {a0:yeB} {a1:ybb} {a2:yeD} {a3:yeE} {a7:ybO} {a8:ybP} {a9:ydS} {x0:List PV→Int→List PV→List PV→Int→Bool→Prop} {x1:List PV→List PV→Int→List PV→List PV→Int→Bool→Prop} {G:List Qy→Prop}
   (h0:x0 (logs log) c.len (ints c.cuts) (ints c.dens) (log.length:Int) false=G []) (h1:∀ l,l≠[]→l.length≤log.length→x1 (logs l) (logs log) c.len (ints c.cuts) (ints c.dens) (log.length:Int) false=G l) :
   ∀ (r i n:Nat),i+r=log.length→r<n →
     ybB a0 a1 a2 a3 ybT ycb ybL a7 a8 a9 x0 x1 n (logs log) c.len (ints c.cuts) (ints c.dens) (i:Int)=G ((log.drop i).filterMap (tolQ c)):=by
 intro r
 induction r with
 | zero =>
   intro i n hi hn
   obtain ⟨n,rfl⟩:∃ m,n=m+1:=⟨n-1,by omega⟩
   rw [ybB,ye9,cbF (by omega),List.drop_eq_nil_of_le (by omega),List.filterMap_nil,← h0,show i=log.length by omega]
 | succ r ih =>
   intro i n hi hn
   obtain ⟨n,rfl⟩:∃ m,n=m+1:=⟨n-1,by omega⟩
   have hil:i<log.length:=by omega
   have hd:log.drop i=log.getD i default::log.drop (i+1):=ycE default hil
   have hq:=yF8 h64 hil
   rw [ybB,ye9,cbT (by omega)]
   dsimp only [lt,Go.Pf.jn]
   rw [asT (by omega),asT (by omega),Int.toNat_natCast,yCg hil,asQ,encQ0,encQ1,encQ2,encQ3,encQ4,encQ5,encQ6,encQ7,hd]
   generalize log.getD i default=q at *
   refine (yAO hf hq).trans ?_
   unfold tolK
   cases e:tolQ c q with
   | none =>
     dsimp only
     rw [cast1,wibN (by omega),ih (i+1) n (by omega) (by omega),List.filterMap_cons_none e]
   | some q' =>
     dsimp only
     have hlen:=List.length_filterMap_le (tolQ c) (log.drop (i+1))
     rw [List.length_drop] at hlen
     rw [yEt,← yAP e,cast1,wibN (by omega),asTT (by simp [logs]),yKh hf h64 hl r (i+1) n [q'] (by omega) (by omega) (by simp),h1 _ (by simp) (by simp;omega),List.filterMap_cons_some e]
     rfl
end Go.Pf.Vc
namespace Go.Pf.Vc
open Go Go.Pf Go.Sort
theorem yyX {y:Rat} (h:small y) (h0:0≤y):posR y.num y.den=true:=by
 unfold posR
 rw [decide_eq_true h.rv,decide_eq_true (Rat.num_nonneg.2 h0)]
 rfl
theorem yCs {n a b:Int} (h:PT n a b):posR a b=true:=by
 unfold posR
 rw [decide_eq_true h.1,decide_eq_true h.2.1]
 rfl
theorem yCt {c:Ck} (hv:VC c.len c.cuts c.dens) {q q':Qy} (h64:q.q64) (h:tolQ c q=some q'):q'.q64∧qOk c.len q'=true ∧
   vX c.cuts c.dens (cmOf q').t=vX c.cuts c.dens (cmOf q').f+(cmOf q').v∧((cmOf q').m=true→((cmOf q').v=0→(cmOf q').f=(cmOf q').t)∧((cmOf q').v≠0→∀ x,x<(cmOf q').t→vX c.cuts c.dens x<vX c.cuts c.dens (cmOf q').t)):=by
 obtain ⟨i1,i2,i3,i4,_,_⟩:=h64
 unfold tolQ tolA at h
 by_cases k1:q.kind=1
 · rw [if_pos k1] at h
   cases e:valR c.len c.cuts c.dens q.an q.ad q.bn q.bd with
   | error x=>rw [e] at h;cases h
   | ok y =>
     rw [e] at h
     cases h
     unfold valR at e
     rw [if_pos hv.ck] at e
     split at e
     case isFalse=>cases e
     rename_i hp
     obtain ⟨p1,p2,p3⟩:=hp
     obtain ⟨s1,_,_,s4,_⟩:=p1.pt
     obtain ⟨t1,_,_,_,t5⟩:=p2.pt
     have sy:small y:=yF3 c.cuts c.dens _ _ _ _ _ _ (by decide) e
     have hy:=yLk hv s4 (Rat.not_lt.1 p3) e
     have hm:=yHl hv (Rat.not_lt.1 p3)
     have y0:0≤y:=by grind
     refine ⟨⟨i1,i2,i3,i4,sy.i1,sy.i2⟩,?_,?_⟩
     · unfold qOk
       dsimp only
       rw [yCs p1,yCs p2,yyX sy y0,if_pos k1]
       unfold twoP
       rw [decide_eq_true (Rat.not_lt.1 p3),decide_eq_true t5]
       rfl
     · unfold cmOf
       rw [if_pos k1]
       dsimp only
       rw [ydT]
       exact ⟨by grind,fun k=>by cases k⟩
 · rw [if_neg k1] at h
   by_cases k2:q.kind=2
   · rw [if_pos k2] at h
     cases e:mrkR c.len c.cuts c.dens q.an q.ad q.bn q.bd with
     | error x=>rw [e] at h;cases h
     | ok y =>
       rw [e] at h
       cases h
       have sy:=yGs e
       unfold mrkR at e
       rw [if_pos hv.ck] at e
       split at e
       case isFalse=>cases e
       rename_i hp
       obtain ⟨p1,p2,p3⟩:=hp
       obtain ⟨s1,_,_,s4,s5⟩:=p1.pt
       have v0:0≤rt q.bn q.bd:=(yCn p2).2 p3
       obtain ⟨m1,m2,m3,m4,m5⟩:=yLz hv s4 s5 v0 e
       refine ⟨⟨i1,i2,i3,i4,sy.i1,sy.i2⟩,?_,?_⟩
       · unfold qOk
         dsimp only
         rw [yCs p1,show posR q.bn q.bd=true from by unfold posR;rw [decide_eq_true p2,decide_eq_true p3];rfl,yyX sy (Rat.le_trans s4 m2),if_neg k1,if_pos k2]
         unfold twoP
         rw [ydT,decide_eq_true m2,decide_eq_true m3]
         rfl
       · unfold cmOf
         rw [if_neg k1]
         dsimp only
         rw [ydT]
         exact ⟨m1,fun _=>⟨m4,m5⟩⟩
   · rw [if_neg k2] at h;cases h
theorem yKi {N:Int} {l:List Qy} (h64:∀ q∈l,q.q64) (hl:l.length≤14) (hE:claimsE N l=0) (hF:Feas N (l.map cmOf)) :
   ybj N (logs l) (fun a b e=>ybt N (logs l) (fun k f=>cbr (e ==(16:Int)) (cbr (f == e) (ydY (fun z=>z=true)) (false=true)) (ycq N a b (logs l) (fun m h=>cbr (e ==(0:Int)) (cbr (f ==(0:Int)) (cbr (k ==(l.length:Int)) (cbr (h ==(0:Int)) (cbr (m ==(l.length:Int)) (ydY (fun z=>z=true)) (false=true)) (false=true)) (false=true)) (false=true)) (false=true))))):=by
 obtain ⟨n1,n2,n3,n4⟩:=yg0 hE
 have hc:=yjZ hE
 have lm:(l.map cmOf).length=l.length:=List.length_map ..
 rw [yuS h64 (by omega)]
 cases es:scaleL (l.map cmOf) with
 | none=>rw [yIt hE es,yyV h64 (by omega),yGq hE es,ceT rfl,ceT rfl,ylp]
 | some m =>
   have H:=Hy_of n1 n2 hc (by omega) (yh8 es)
   obtain ⟨g,e⟩:=(yuQ H).2 hF
   rw [ys9 hE es e,yyV h64 (by omega),ywq hE es,yIw.2 hF,lm,ceF (by decide),(yGr h64 hl hE (yh8 es) e).1,ceT rfl,ceT rfl,ceT rfl,ceT rfl,ceT rfl,ylp]
theorem yCu {c:Ck} {log:List Qy} (h64:∀ q∈log,q.q64):yhG c.len (ints c.cuts) (ints c.dens) (logs log) (fun b=>b=true):=by
 unfold yhG yjW
 dsimp only [Go.Pf.jn]
 rw [yH9]
 cases hg:(decide (c.cuts.length>60)||decide (c.dens.length>60)) with
 | true=>rw [yab,yab,ylp]
 | false =>
   simp only [Bool.or_eq_false_iff,decide_eq_false_iff_not] at hg
   have f1:c.cuts.length<4611686018427387904:=by omega
   have f2:c.dens.length<4611686018427387904:=by omega
   rw [yaa,yn2 f1 f2]
   by_cases hk:ckC c.len c.cuts c.dens=0
   case neg=>rw [cnT hk,yab,ylp]
   have hv:=yqH hk
   rw [cnF hk,yIm]
   cases h1:greatL log with
   | true=>rw [yab,yab,ylp]
   | false =>
     rw [yaa,ye9]
     by_cases h14:((log.length:Nat):Int)>14
     · rw [decide_eq_true h14,yab,ylp]
     · rw [decide_eq_false h14,yaa]
       refine ⟨log.length+1,?_⟩
       refine (yIy (c:=c) ⟨f1,f2⟩ h64 (by omega) (G:=fun l=>if l=[] then _ else _) (if_pos rfl).symm (fun l hl _=>(if_neg hl).symm) log.length 0 (log.length+1) (by omega) (by omega)).mpr ?_
       rw [List.drop_zero]
       have hlen:=List.length_filterMap_le (tolQ c) log
       have hmem:∀ q'∈log.filterMap (tolQ c),∃ q∈log,tolQ c q=some q':=fun q' h=>List.mem_filterMap.1 h
       generalize log.filterMap (tolQ c)=l at *
       have l64:∀ q∈l,q.q64:=fun q' h=>by
         obtain ⟨q,hq,e⟩:=hmem q' h
         exact (yCt hv (h64 q hq) e).1
       have hn:=hv.len0
       have hE:claimsE c.len l=0:=by
         unfold claimsE
         rw [if_neg (by omega),if_neg (by omega),if_pos]
         rw [List.all_eq_true]
         intro q' h
         obtain ⟨q,hq,e⟩:=hmem q' h
         exact (yCt hv (h64 q hq) e).2.1
       have hF:Feas c.len (l.map cmOf):=by
         refine ⟨fun p=>vX c.cuts c.dens p-vX c.cuts c.dens 0,by grind,fun p q _ _ h=>?_,fun d hd=>?_⟩
         · have:=yHl hv h
           show vX c.cuts c.dens p-vX c.cuts c.dens 0≤vX c.cuts c.dens q-vX c.cuts c.dens 0
           grind
         · obtain ⟨q',h,rfl⟩:=List.mem_map.1 hd
           obtain ⟨q,hq,e⟩:=hmem q' h
           obtain ⟨_,_,a1,a2⟩:=yCt hv (h64 q hq) e
           refine ⟨by show _-_=_-_+_;grind,fun hm=>⟨(a2 hm).1,fun hv2 p _ hp=>?_⟩⟩
           have:=(a2 hm).2 hv2 p hp
           show vX c.cuts c.dens p-vX c.cuts c.dens 0<vX c.cuts c.dens (cmOf q').t-vX c.cuts c.dens 0
           grind
       have fin:=yKi l64 (by omega) hE hF
       by_cases hl0:l=[]
       · rw [if_pos hl0]
         subst hl0
         exact fin
       · rw [if_neg hl0]
         simp only [ye9,Nat.zero_add,Nat.le_refl,decide_true,yat]
         have ht:List.take l.length (logs l)=logs l:=by rw [← ye9 l,List.take_length]
         rw [ht]
         exact fin
end Go.Pf.Vc
namespace Go.Pf.Vc
open Go Go.Pf
theorem yMQ {as:List PV} (h:HasAs [dsC,.s dsQ] as):∃ (c:Ck) (log:List Qy),as=[.agg [.int .i64 c.len,.data (ints c.cuts),.data (ints c.dens)],.data (logs log)]∧∀ q∈log,q.q64:=by
 simp only [HasAs] at h
 obtain ⟨x,r,rfl,x1,x2,z,r3,rfl,z1,z2,rfl⟩:=h
 obtain ⟨c,e,_,_,_⟩:=F_c x2
 obtain ⟨l,e3,hl⟩:=yJR z2
 exact ⟨c,l,by rw [yJF (l:=[.i .i64,.s (.i .i64),.s (.i .i64)]) x1,e,yIc z1 e3],hl⟩
end Go.Pf.Vc
