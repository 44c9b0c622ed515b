/- Part 5. -/
import Derived.Test.YtfljciocndelnaaGreatEoW4
open Go.IntKind (i64 u8 u64)
open List (length getD take drop replicate set map isEmpty)
namespace Go.Pf.Vc
open Go Go.Pf
theorem MY {L:Int} {c:Ck} {i k:Nat} {x:Ln} (h:cM L c) (hi:i<c.dens.length) (hk:k≤4) (hx:LB k x) (hp:0<x.B) (K:Int→Int→Prop) :
  iH gI (l4 x) (aB c.cuts) (i:Int) K=K (wh x (aI c (i+1))).num (wh x (aI c (i+1))).den:=by
 have l1:=h.1.l1;have l2:=h.1.l2;have e1:=dO (n:=(i:Int)+1) (by omega) (by omega);have lo:=h.1.lo (i:=i+1) (by omega);have hi':=h.1.hi (i:=i+1) (by omega);have ll:=h.1.len0;unfold iH Jz;rw [e1,mA,cN,aK (by omega),aK (by omega),dL,eQ (by omega),dW (by omega)];exact S9 hk hx hp (by omega) (by omega) K
theorem Uz {L:Int} {s:Sq} {x:Ln} (h:lT L s) (hB:0≤x.B):0<(aY s x).B:=GK (den_pos h.1 h.2.2.2) (den_pos h.1 h.2.2.1) (rI h.1) hB
theorem T5 {L:Int} {c:Ck} {i k:Nat} {x:Ln} (h:cM L c) (hi:i<c.dens.length) (hk:k≤4) (hx:LB k x) (hp:0<x.B):small (wh x (aI c (i+1))):=by have l1:=h.1.l1;have lo:=h.1.lo (i:=i+1) (by omega);have hi':=h.1.hi (i:=i+1) (by omega);have ll:=h.1.len0;exact Un hk hx hp (by omega) (by omega)
theorem T6 {L:Int}:∀ {S:List Sq} {x:Ln} {k:Nat} {b:Bool} {q:Rat} (K:Int→Int→Prop),(∀ s∈S,lT L s)→LB k x→k+S.length≤4→0≤x.B→(b=true→0<x.B)→small q →
  pB gI gO (S.map dG) ((pE S x).map l4) (l4 x) b q.num q.den K=K (mnS q (lL S x b)).num (mnS q (lL S x b)).den∧small (mnS q (lL S x b))
 | [],_,_,_,_,_,_,_,_,_,_,hq=>⟨rfl,hq⟩
 | s::S,x,k,b,q,K,h,hx,hk,hB,hb,hq=>by
  have hs:=h s (iP ..);obtain ⟨h1,h2,h3,h4⟩:=hs;have hs:=h s (iP ..);have hk':k+(S.length+1)≤4:=hk;have hy:LB (k+1) (aY s x):=MT h1 h3 h4 hx;have yB:=Uz hs hB;have ih:=fun {q:Rat} (hq:small q)=>T6 (S:=S) (x:=aY s x) (k:=k+1) (b:=true) (q:=q) K (fun t ht=>h t (gL _ ht)) hy (by omega) (eY yB) (fun _=>yB) hq
  have sy:=T5 h1 h4 (k:=k+1) (by omega) hy yB;have key:∀ {q:Rat},small q→(iH gI (l4 (aY s x)) (aB s.1.cuts) (s.2.2:Int) fun r0 r1=>gO r0 r1 q.num q.den fun t=>aG t (pB gI gO (S.map dG) ((pE S (aY s x)).map l4) (l4 (aY s x)) true r0 r1 K) (pB gI gO (S.map dG) ((pE S (aY s x)).map l4) (l4 (aY s x)) true q.num q.den K)) =
    K (mnS q (wh (aY s x) (aI s.1 (s.2.2+1))::lL S (aY s x) true)).num (mnS q (wh (aY s x) (aI s.1 (s.2.2+1))::lL S (aY s x) true)).den∧small (mnS q (wh (aY s x) (aI s.1 (s.2.2+1))::lL S (aY s x) true)):=fun {q} hq=>by
   rw [MY h1 h4 (by omega) hy yB,Um sy hq,(ih sy).1,(ih hq).1];rw [show ∀ l,mnS q (wh (aY s x) (aI s.1 (s.2.2+1))::l)=mnS (if wh (aY s x) (aI s.1 (s.2.2+1))<q then wh (aY s x) (aI s.1 (s.2.2+1)) else q) l from fun _=>rfl]
   by_cases c:wh (aY s x) (aI s.1 (s.2.2+1))<q
   ·rw [Eo c,bL,VX c];exact ⟨rfl,(ih sy).2⟩
   ·rw [Os c,bQ,VY c];exact ⟨rfl,(ih hq).2⟩
  cases b with
  | false=>exact key hq
  | true=>
   have hp:=hb rfl;have sx:=T5 h1 h3 (by omega) hx hp;show (iH gI (l4 x) (aB s.1.cuts) (s.2.1:Int) fun r0 r1=>gO r0 r1 q.num q.den fun t=>aG t _ _)=_∧_;rw [MY h1 h3 (by omega) hx hp,Um sx hq];have kx:=key sx;have kq:=key hq;show aG (decide (wh x (aI s.1 (s.2.1+1))<q)) (iH gI (l4 (aY s x)) (aB s.1.cuts) (s.2.2:Int) _) (iH gI (l4 (aY s x)) (aB s.1.cuts) (s.2.2:Int) _)=K (mnS q (wh x (aI s.1 (s.2.1+1))::wh (aY s x) (aI s.1 (s.2.2+1))::lL S (aY s x) true)).num (mnS q (wh x (aI s.1 (s.2.1+1))::wh (aY s x) (aI s.1 (s.2.2+1))::lL S (aY s x) true)).den∧small (mnS q (wh x (aI s.1 (s.2.1+1))::wh (aY s x) (aI s.1 (s.2.2+1))::lL S (aY s x) true));rw [show ∀ l,mnS q (wh x (aI s.1 (s.2.1+1))::l)=mnS (if wh x (aI s.1 (s.2.1+1))<q then wh x (aI s.1 (s.2.1+1)) else q) l from fun _=>rfl]
   by_cases c:wh x (aI s.1 (s.2.1+1))<q
   ·rw [Eo c,bL,VX c];exact kx
   ·rw [Os c,bQ,VY c];exact kq
theorem UA (r q:Rat):uP r.num r.den q.num q.den=decide (r=q):=by
 unfold uP
 by_cases c:r=q
 ·subst c;simp
 ·rw [Os c,Bool.and_true];refine Hd.2 fun h=>c ?_
  rw [cA,beq_iff_eq,beq_iff_eq] at h;exact Rat.ext h.1 (by omega)
theorem T7 {L:Int} {q:Rat}:∀ {S:List Sq} {x:Ln} {k:Nat} {b:Bool} (K:List Bool→Prop),(∀ s∈S,lT L s)→LB k x→k+S.length≤4→0≤x.B→(b=true→0<x.B) →
  lQ gI q.num q.den (S.map dG) ((pE S x).map l4) (l4 x) b K=K (uQ q S x b)
 | [],_,_,_,_,_,_,_,_,_=>rfl
 | s::S,x,k,b,K,h,hx,hk,hB,hb=>by
  have hs:=h s (iP ..);obtain ⟨h1,h2,h3,h4⟩:=hs;have hs:=h s (iP ..);have hk':k+(S.length+1)≤4:=hk;have hy:LB (k+1) (aY s x):=MT h1 h3 h4 hx;have yB:=Uz hs hB;have ih:=fun (K:List Bool→Prop)=>T7 (q:=q) (S:=S) (x:=aY s x) (k:=k+1) (b:=true) K (fun t ht=>h t (gL _ ht)) hy (by omega) (eY yB) (fun _=>yB)
  have key:∀ K:List Bool→Prop,(iH gI (l4 (aY s x)) (aB s.1.cuts) (s.2.2:Int) fun r0 r1=>aG (uP r0 r1 q.num q.den) (lQ gI q.num q.den (S.map dG) ((pE S (aY s x)).map l4) (l4 (aY s x)) true fun m=>K (true::m)) (lQ gI q.num q.den (S.map dG) ((pE S (aY s x)).map l4) (l4 (aY s x)) true fun m=>K (false::m))) =
    K (decide (wh (aY s x) (aI s.1 (s.2.2+1))=q)::uQ q S (aY s x) true):=fun K=>by
   rw [MY h1 h4 (by omega) hy yB,UA,ih,ih]
   cases decide (wh (aY s x) (aI s.1 (s.2.2+1))=q)<;>rfl
  cases b with
  | false=>exact key K
  | true=>
   have hp:=hb rfl;show (iH gI (l4 x) (aB s.1.cuts) (s.2.1:Int) fun r0 r1=>aG (uP r0 r1 q.num q.den) (iH gI (l4 (aY s x)) (aB s.1.cuts) (s.2.2:Int) _) (iH gI (l4 (aY s x)) (aB s.1.cuts) (s.2.2:Int) _))=K (decide (wh x (aI s.1 (s.2.1+1))=q)::decide (wh (aY s x) (aI s.1 (s.2.2+1))=q)::uQ q S (aY s x) true);rw [MY h1 h3 (by omega) hx hp,UA];have kt:=key fun m=>K (true::m)
   have kf:=key fun m=>K (false::m)
   cases decide (wh x (aI s.1 (s.2.1+1))=q)
   ·exact kf
   ·exact kt
theorem T8 {b:Bool} {n m:Nat} (h:n<m) (hm:m<1000000):(bif b then i64.wrap ((n:Int)+1) else (n:Int))=((n+(if b=true then 1 else 0):Nat):Int):=by
 have e1:=dO (n:=(n:Int)+1) (by omega) (by omega)
 cases b
 ·rfl
 ·show i64.wrap ((n:Int)+1)=_;rw [e1];rfl
theorem T9 {L:Int} {q:Rat}:∀ {S:List Sq} {x:Ln} {b:Bool},(∀ s∈S,lT L s)→iI (S.map dG) b (uQ q S x b)=(lM q S x b).map dG
 | [],_,b,_=>by cases b<;>rfl
 | s::S,x,b,h=>by
  obtain ⟨h1,h2,h3,h4⟩:=h s (iP ..);have l1:=h1.1.l1;have l2:=h1.1.l2;have ih:=T9 (q:=q) (S:=S) (x:=aY s x) (b:=true) (fun t ht=>h t (gL _ ht));have w1:=T8 (b:=decide (wh x (aI s.1 (s.2.1+1))=q)) h3 (by omega);have w2:=T8 (b:=decide (wh (aY s x) (aI s.1 (s.2.2+1))=q)) h4 (by omega)
  cases b with
  | true =>show Se.mk _ _ _ _ _ (bif decide (wh x (aI s.1 (s.2.1+1))=q) then i64.wrap ((s.2.1:Int)+1) else (s.2.1:Int)) (bif decide (wh (aY s x) (aI s.1 (s.2.2+1))=q) then i64.wrap ((s.2.2:Int)+1) else (s.2.2:Int))::iI (S.map dG) true (uQ q S (aY s x) true)=_;rw [ih,w1,w2];simp only [lM,vE,dG,decide_eq_true_eq,true_and]
  | false =>show Se.mk _ _ _ _ _ (s.2.1:Int) (bif decide (wh (aY s x) (aI s.1 (s.2.2+1))=q) then i64.wrap ((s.2.2:Int)+1) else (s.2.2:Int))::iI (S.map dG) true (uQ q S (aY s x) true)=_;rw [ih,w2];simp [lM,dG]
theorem jD.all {L:Int} {q:Rat}:∀ {S:List Sq} {x:Ln},jD L S x q→∀ s∈S,cM L s.1∧s.2.1<s.1.dens.length∧s.2.2<s.1.dens.length
 | [],_,_,s,h=>by cases h
 | t::S,x,⟨a,b,c,_,_,_,_,h⟩,s,hs=>by
  rcases qAp.1 hs with rfl|hs
  ·exact ⟨a,b,c⟩
  ·exact jD.all h s hs
theorem U2 {L:Int} {Lr:List PV} {S:List Sq} (h:∀ s∈S,lT L s) (hn:S≠[]) (h4:S.length≤4) (hL:0≤L∧L≤1000) (Q:List L4→Int→Int→Int→Int→Prop) :
  GL lZ mH gI gO L Lr (S.map dG) Q=Q ((pE S gW).map l4) (lP L S).num (lP L S).den (fT L S).num (fT L S).den∧small (lP L S)∧small (fT L S):=by
 have hx:=R7;have hz:(0:Rat)≤gW.B:=dT;obtain ⟨lb,lB⟩:LB S.length (nJ S gW)∧0<(nJ S gW).B:=by
  have key:∀ {S:List Sq} {x:Ln} {k:Nat},(∀ s∈S,lT L s)→LB k x→0≤x.B→LB (k+S.length) (nJ S x)∧(S≠[]→0<(nJ S x).B):=by
   intro S;induction S with
   | nil=>intro x k _ hx _;exact ⟨hx,fun k=>absurd rfl k⟩
   | cons s S ih=>
    intro x k h hx hB;have hs:=h s (iP ..);have yB:=Uz hs hB;obtain ⟨i1,i2⟩:=ih (x:=aY s x) (k:=k+1) (fun t ht=>h t (gL _ ht)) (MT hs.1 hs.2.2.1 hs.2.2.2 hx) (eY yB);refine ⟨by rw [gS,show k+(S.length+1)=k+1+S.length by omega];exact i1,fun _=>?_⟩
    cases S with
    | nil=>exact yB
    | cons t S=>exact i2 (by simp)
  have:=key h hx hz;rw [mM] at this;exact ⟨this.1,this.2 hn⟩
 have ss:small (lP L S):=Un h4 lb lB hL.1 hL.2;have v:=fun K=>T6 (b:=false) (q:=lP L S) K h hx (by omega) hz (fun k=>by cases k) ss
 refine ⟨?_,ss,(v fun _ _=>True).2⟩;show uO mH (S.map dG) (l4 gW) (fun ls=>asr (decide ((0:Int)<((Lr.length+1:Nat):Int))) (gI (lR ls).a (lR ls).b (lR ls).c (lR ls).d L fun s0 s1=>pB gI gO (S.map dG) ls (l4 gW) false s0 s1 fun q0 q1=>Q ls s0 s1 q0 q1))=_;rw [T3 _ h hx (by omega),aK (by omega),T4 hn];refine (S9 h4 lb lB hL.1 hL.2 _).trans ?_;exact (v _).1
set_option maxRecDepth 100000
theorem UB {E:Env} {cK:CK} {lp:LP} {G:aF} {yk:YK}:∀ (n:Nat) (c:TC) (F:aF) (H:Hp) (Q:Ex→aF→Hp→Prop),WC E cK lp G yk c F H Q =
  WC E cK lp G yk (jE n c) F H fun x F' H'=>match x with
   | .norm=>WC E cK lp G yk (fB n c) F' H' Q
   | .exit i=>Q (.exit i) F' H'
   | .ret=>Q .ret F' H'
   | .brk k i=>Q (.brk k i) F' H'
 | 0,c,F,H,Q=>by
  simp only [fB]
  cases c<;>simp only [jE,WC]
 | n+1,.seq a b,F,H,Q=>by
  simp only [fB,jE,WC];congr 1
  funext x F' H'
  cases x with
  | norm=>exact UB n b F' H' Q
  | _=>rfl
 | n+1,.skip,F,H,Q=>by simp only [fB,jE,WC]
 | n+1,.ops _ _ _ _,F,H,Q=>by simp only [fB,jE,WC]
 | n+1,.cond _ _ _,F,H,Q=>by simp only [fB,jE,WC]
 | n+1,.block _ _,F,H,Q=>by simp only [fB,jE,WC]
 | n+1,.loop _ _,F,H,Q=>by simp only [fB,jE,WC]
 | n+1,.lG _ _,F,H,Q=>by simp only [fB,jE,WC]
 | n+1,.exit _,F,H,Q=>by simp only [fB,jE,WC]
 | n+1,.ret,F,H,Q=>by simp only [fB,jE,WC]
 | n+1,.bad,F,H,Q=>by simp only [fB,jE,WC]
 | n+1,.rangeF _ _ _ _ _ _ _,F,H,Q=>by simp only [fB,jE,WC]
 | n+1,.yret _ _ _ _ _ _ _,F,H,Q=>by simp only [fB,jE,WC]
 | n+1,.cut _,F,H,Q=>by simp only [fB,jE,WC]
 | n+1,.join _ _,F,H,Q=>by simp only [fB,jE,WC]
theorem UC {E:Env} {P:EP} {id:Nat} {callK:CK} {lp:LP} {b:TC} (hP:aM P E) (hG:Good P callK) (hf:ybs b=true) (hl:LpOk P E lp [] b) {n:Nat} {F:aF} {H:Hp} {Q:Ex→aF→Hp→Prop} (h:UE E callK lp b n F H Q):cJ P (.loop id b) F H Q:=
 cJ.intro hP hG hf (cS.no _ _) hl (fun n F H=>UE E callK lp b n F H Q) (fun _ _ h=>h) (fun _ _ _ h=>h) n F H h
theorem U3 {E:Env} {P:EP} {id:Nat} {callK:CK} {lp:LP} {b:TC} (hP:aM P E) (hG:Good P callK) (hf:ybs b=true) (hh:fP (erase b)=[]) (hl:LpOk P E lp [] b) {n:Nat} {F:aF} {H:Hp} {Q:Ex→aF→Hp→Prop} (h:Jy E callK lp b n F H Q):cJ P (.lG id b) F H Q:=
 cJ.introG hP hG hf (cS.no _ _) hl (fun n F H=>Jy E callK lp b n F H Q) (fun _ _ h=>h) (fun n F H h=>by
  have e:∀ F',fdels F' (fP (erase b))=F':=fun F'=>by rw [hh];rfl
  simp only [e];exact h) n F H h
theorem cJ.introQ {E:Env} {P:EP} {id:Nat} {callK:CK} {lp:LP} {b:TC} (hP:aM P E) (hG:Good P callK) (hf:ybs b=true) (hl:LpOk P E lp [] b) {Q:Ex→aF→Hp→Prop} (R:Nat→aF→Hp→Prop) (h0:∀ F H,¬R 0 F H)
  (hs:∀ n F H,R (n+1) F H→WC E callK lp [] cC b F H (QG b H.length (R n) Q)):∀ n F H,R n F H→cJ P (.lG id b) F H Q:=
 cJ.introG hP hG hf (cS.no _ _) hl R h0 hs
theorem cJ.introP {id:Nat} {P:EP} {b:TC} {Q:Ex→aF→Hp→Prop} (R:Nat→aF→Hp→Prop) (h0:∀ F H,¬R 0 F H)
  (hs:∀ n F H,R (n+1) F H→bP P (erase b) F H (QG b H.length (R n) Q)):∀ n F H,R n F H→cJ P (.lG id b) F H Q:=
 cJ.introC R h0 hs
section
variable (e:Es) (he:EG e)
abbrev re0:SE:=JA e lZ mH gI gO
abbrev BG:SE:=rK e lZ mH gI gO
abbrev Ah:LP:=TY e lZ mH gI gO
theorem yKI (he:EG e):SEOk (bW (E e)) (re0 e):=bZ (aM.uni _) ⟨Gt e he,SK e he,SN e he,Mu e he,trivial⟩
 ⟨⟨by kernel_rfl,by kernel_rfl,by kernel_rfl,fun as=>kR (by kernel_rfl) _,he.num _ (by kernel_rfl),by kernel_rfl,bC (by kernel_rfl)⟩,
  ⟨by kernel_rfl,by kernel_rfl,by kernel_rfl,fun as=>kR (by kernel_rfl) _,he.num _ (by kernel_rfl),by kernel_rfl,bC (by kernel_rfl)⟩,trivial⟩ he.ok
theorem yKJ (he:EG e):LpOk (bW (E e)) (E e) (S3 e lZ mH gI gO) [] (nX FJ).body:=
 gA (l:=[(31735400,.loop 31735400 (cF LF))]) ⟨fun F H Q h=>UC (aM.uni _) (dV (yKI e he) 2) (by kernel_rfl) (bC (by kernel_rfl)) h,trivial⟩ (by kernel_rfl)
theorem JC (he:EG e):SEOk (bW (E e)) (BG e):=bZ (aM.uni _) ⟨Gt e he,SK e he,SN e he,Mu e he,trivial⟩
 ⟨⟨by kernel_rfl,by kernel_rfl,by kernel_rfl,fun as=>kR (by kernel_rfl) _,he.num _ (by kernel_rfl),by kernel_rfl,yKJ e he⟩,
  ⟨by kernel_rfl,by kernel_rfl,by kernel_rfl,fun as=>kR (by kernel_rfl) _,he.num _ (by kernel_rfl),by kernel_rfl,bC (by kernel_rfl)⟩,
  ⟨by kernel_rfl,by kernel_rfl,by kernel_rfl,fun as=>kR (by kernel_rfl) _,he.num _ (by kernel_rfl),by kernel_rfl,bC (by kernel_rfl)⟩,trivial⟩ he.ok
theorem yKK (he:EG e):LpOk (bW (E e)) (E e) (Ah e) [] (cF iD):=
 gA (l:=[(5508402,.lG 5508402 (cF LH)),(5508403,.lG 5508403 (sS LI))])
  ⟨fun F H Q h=>U3 (aM.uni _) (dV (JC e he) 4) (by kernel_rfl) (by kernel_rfl) (bC (by kernel_rfl)) h,
   fun F H Q h=>U3 (aM.uni _) (dV (JC e he) 4) (by kernel_rfl) (by kernel_rfl) (bC (by kernel_rfl)) h,trivial⟩ (by kernel_rfl)
end
theorem yNb:cF iD=.block 5 bR:=by kernel_rfl
section
variable (e:Es) (aW:fS) (aE:wQ) (aN:sO) (aL:fM)
variable (L0:Int) (c0 d0 Lr:List PV) (Rn:aF→Hp→Prop) (Q:Ex→aF→Hp→Prop) (q0 q1 t0 t1:Int)
theorem yKL {S:List Se} (hn:S≠[]) (h4:S.length≤4):wR e aW aE aN aL (jE 7 bR) (jT (L1 L0 c0 d0 Lr) S.length) (dF S) Q=GL aW aE aN aL L0 Lr S (QA (L1 L0 c0 d0 Lr) S Q):=
 match S,hn,h4 with
 | [],hn,_=>absurd rfl hn
 | [s0],_,_=>Uo ..
 | [s0,s1],_,_=>Up ..
 | [s0,s1,s2],_,_=>Uq ..
 | [s0,s1,s2,s3],_,_=>Ux ..
 | _::_::_::_::_::_,_,h=>by simp only [gS] at h;omega
theorem yKM {S:List Se} {ls:List L4} (hl:ls.length=S.length) (hn:S≠[]) (h4:S.length≤4):wR e aW aE aN aL (jE 3 (fB 7 bR)) (DJ (L1 L0 c0 d0 Lr) S.length t0 t1) (rJ S ls q0 q1) Q =
  aG (uP q0 q1 t0 t1) (Q .ret (Ag q0 q1) (rJ S ls q0 q1)) (lQ aN q0 q1 S ls DL false fun m=>Q .norm (qC (L1 L0 c0 d0 Lr) S.length) (qB S ls q0 q1 (nY 2 S.length false m))):=
 match S,ls,hl,hn,h4 with
 | [],_,_,hn,_=>absurd rfl hn
 | [s0],[l0],_,_,_=>Ur ..
 | [s0,s1],[l0,l1],_,_,_=>Us ..
 | [s0,s1,s2],[l0,l1,l2],_,_,_=>Ut ..
 | [s0,s1,s2,s3],[l0,l1,l2,l3],_,_,_=>Uy ..
 | _::_::_::_::_::_,_,_,_,h=>by simp only [gS] at h;omega
theorem UD (s0 s1 s2 s3:Se) (l0 l1 l2 l3:L4):∀ (b0 b1 b2 b3 b4 b5 b6:Bool),wR e aW aE aN aL (fB 10 bR) (qC (L1 L0 c0 d0 Lr) 4) (qB [s0,s1,s2,s3] [l0,l1,l2,l3] q0 q1 (nY 2 4 false [b0,b1,b2,b3,b4,b5,b6])) (QB (cF iD) 5 (dF [s0,s1,s2,s3]).length Rn Q)=Rn (jT (L1 L0 c0 d0 Lr) 4) (dF (iI [s0,s1,s2,s3] false [b0,b1,b2,b3,b4,b5,b6]))
 | false,false,_,_,_,_,_=>yKE ..
 | false,true,_,_,_,_,_=>yKF ..
 | true,false,_,_,_,_,_=>yKG ..
 | true,true,_,_,_,_,_=>yKH ..
theorem yKN {S:List Se} {ls:List L4} {m:List Bool} (hl:ls.length=S.length) (hm:m.length+1=2*S.length) (h4:S.length≤4):wR e aW aE aN aL (fB 10 bR) (qC (L1 L0 c0 d0 Lr) S.length) (qB S ls q0 q1 (nY 2 S.length false m)) (QB (cF iD) 5 (dF S).length Rn Q)=Rn (jT (L1 L0 c0 d0 Lr) S.length) (dF (iI S false m)):=
 match S,ls,m,hl,hm,h4 with
 | [],_,_,_,h,_=>by simp only [xL] at h;omega
 | [s0],[l0],[b0],_,_,_=>Uu ..
 | [s0,s1],[l0,l1],[b0,b1,b2],_,_,_=>Uv ..
 | [s0,s1,s2],[l0,l1,l2],[b0,b1,b2,b3,b4],_,_,_=>Uw ..
 | [s0,s1,s2,s3],[l0,l1,l2,l3],[b0,b1,b2,b3,b4,b5,b6],_,_,_=>UD ..
 | _::_::_::_::_::_,_,_,_,_,h=>by simp only [gS] at h;omega
end
theorem yNc:fB 3 (fB 7 bR)=fB 10 bR:=by kernel_rfl
theorem yGA:DL=l4 gW:=by kernel_rfl
theorem U4:∀ (S:List Sq) (x:Ln),(pE S x).length=S.length
 | [],_=>rfl
 | s::S,x=>by show (pE S _).length+1=S.length+1;rw [U4 S]
theorem U5 (q:Rat):∀ (S:List Sq) (x:Ln) (b:Bool),(uQ q S x b).length+(if b=true∨S=[] then 0 else 1)=2*S.length
 | [],_,b=>by simp [uQ]
 | s::S,x,b=>by
  have ih:=U5 q S (aY s x) true;simp only [true_or,if_true] at ih
  cases b<;>simp [uQ]<;>omega
theorem yHY (q:Rat) (S:List Sq) (x:Ln) (b:Bool):(lM q S x b).length=S.length:=by have:=Aaa length (Jw q S x b);simpa using this
def runN (L:Int):Nat→List Sq→Option Rat
 | 0,_=>none
 | n+1,S=>if fT L S=lP L S then some (fT L S) else runN L n (lM (fT L S) S gW false)
theorem U6 {L:Int}:∀ {n:Nat} {S:List Sq} {q0:Rat},RI L S q0→lO S<n+iG S→∃ q,runN L n S=some q∧FinS L (S.map (·.1)) q
 | 0,S,q0,h,hn=>by have:=h.1.pos;omega
 | n+1,S,q0,h,hn=>by
  obtain ⟨r1,r2⟩:=round h
  by_cases c:fT L S=lP L S
  ·exact ⟨_,VX c,r1 c⟩
  ·obtain ⟨k1,k2⟩:=r2 c;obtain ⟨q,e1,e2⟩:=U6 (n:=n) k1 (by rw [R0];omega);refine ⟨q,(VY c).trans e1,?_⟩;rw [Jw] at e2;exact e2
theorem yKO {E:Env} {cK:CK} {lp:LP} {id:Nat} {b c:TC} {k:Nat} {Rn:aF→Hp→Prop} {F:aF} {H:Hp} {Q:Ex→aF→Hp→Prop}:WC E cK lp [] cC (.block id c) F H (QG b k Rn Q)=WC E cK lp [] cC c F H (QB b id k Rn Q):=by simp only [WC];rfl
section
variable {e:Es} {L:Int} {S:List Sq} {c0 d0 Lr:List PV}
theorem yGB (h:∀ s∈S,lT L s) (hn:S≠[]) (h4:S.length≤4) (hL:0≤L∧L≤1000) {Rn:aF→Hp→Prop} {Q:Ex→aF→Hp→Prop}
  (h1:fT L S=lP L S→∀ H,Q .ret (Ag (fT L S).num (fT L S).den) H)
  (h2:fT L S≠lP L S→Rn (jT (L1 L c0 d0 Lr) S.length) (dF ((lM (fT L S) S gW false).map dG))) :
  WC (E e) (jO (BG e) 4) (Ah e) [] cC (cF iD) (jT (L1 L c0 d0 Lr) S.length) (dF (S.map dG)) (QG (cF iD) (dF (S.map dG)).length Rn Q):=by
 have hn':S.map dG≠[]:=fun k=>hn (List.map_eq_nil_iff.1 k)
 have hl:(S.map dG).length=S.length:=jH ..;have e0:=Aaa (fun c=>WC (E e) (jO (BG e) 4) (Ah e) [] cC c (jT (L1 L c0 d0 Lr) S.length) (dF (S.map dG)) (QG (cF iD) (dF (S.map dG)).length Rn Q)) yNb;refine (e0.trans yKO).mpr ?_;refine (UB 7 bR _ _ _).mpr ?_;have eA:=yKL e lZ mH gI gO L c0 d0 Lr (fun x F' H'=>match x with
   | .norm=>WC (E e) (jO (BG e) 4) (Ah e) [] cC (fB 7 bR) F' H' (QB (cF iD) 5 (dF (S.map dG)).length Rn Q)
   | .exit i=>QB (cF iD) 5 (dF (S.map dG)).length Rn Q (.exit i) F' H'
   | .ret=>QB (cF iD) 5 (dF (S.map dG)).length Rn Q .ret F' H'
   | .brk k i=>QB (cF iD) 5 (dF (S.map dG)).length Rn Q (.brk k i) F' H') hn' (by rw [hl];exact h4)
 rw [hl] at eA;refine eA.mpr ?_;obtain ⟨eR,s1,s2⟩:=U2 h hn h4 hL (Lr:=Lr) (QA (L1 L c0 d0 Lr) (S.map dG) (fun x F' H'=>match x with
   | .norm=>WC (E e) (jO (BG e) 4) (Ah e) [] cC (fB 7 bR) F' H' (QB (cF iD) 5 (dF (S.map dG)).length Rn Q)
   | .exit i=>QB (cF iD) 5 (dF (S.map dG)).length Rn Q (.exit i) F' H'
   | .ret=>QB (cF iD) 5 (dF (S.map dG)).length Rn Q .ret F' H'
   | .brk k i=>QB (cF iD) 5 (dF (S.map dG)).length Rn Q (.brk k i) F' H'))
 refine eR.mpr ?_;show WC (E e) (jO (BG e) 4) (Ah e) [] cC (fB 7 bR) (DJ (L1 L c0 d0 Lr) (S.map dG).length (lP L S).num (lP L S).den) (rJ (S.map dG) ((pE S gW).map l4) (fT L S).num (fT L S).den) (QB (cF iD) 5 (dF (S.map dG)).length Rn Q);refine (UB 3 (fB 7 bR) _ _ _).mpr ?_;have hll:((pE S gW).map l4).length=(S.map dG).length:=by rw [jH,U4,hl]
 refine (yKM e lZ mH gI gO L c0 d0 Lr _ _ _ _ _ hll hn' (by rw [hl];exact h4)).mpr ?_;rw [UA]
 by_cases c:fT L S=lP L S
 ·rw [Eo c,bL];exact h1 c _
 ·rw [Os c,bQ,yGA,T7 _ h R7 (by omega) dT (fun k=>by cases k)];rw [yNc];have hm:(uQ (fT L S) S gW false).length+1=2*(S.map dG).length:=by
   have:=U5 (fT L S) S gW false;rw [hl,← this,VY (by simp [hn])]
  refine (yKN e lZ mH gI gO L c0 d0 Lr _ _ _ _ hll hm (by rw [hl];exact h4)).mpr ?_;rw [T9 h,hl];exact h2 c
def MZ (L:Int) (c0 d0 Lr:List PV) (cs:List Ck) (q:Rat) (n:Nat) (F:aF) (H:Hp):Prop:=
 ∃ S q0,S.map (·.1)=cs∧F=jT (L1 L c0 d0 Lr) S.length∧H=dF (S.map dG)∧RI L S q0∧runN L n S=some q
theorem yGC {cs:List Ck} (hcs:∀ c∈cs,c.len=L) (h4:cs.length≤4) (hL:0≤L∧L≤1000) {q:Rat} {Q:Ex→aF→Hp→Prop} (hQ:∀ H,Q .ret (Ag q.num q.den) H) (n:Nat) (F:aF) (H:Hp) (h:MZ L c0 d0 Lr cs q (n+1) F H) :
  WC (E e) (jO (BG e) 4) (Ah e) [] cC (cF iD) F H (QG (cF iD) H.length (MZ L c0 d0 Lr cs q n) Q):=by
 obtain ⟨S,q0,e1,e2,e3,hi,hr⟩:=h;rw [e2,e3];have hl:S.length=cs.length:=by rw [← e1,jH]
 have hS:∀ s∈S,lT L s:=fun s hs=>by
  obtain ⟨a,b,c⟩:=hi.1.all s hs;exact ⟨a,hcs _ (by rw [← e1];exact List.mem_map_of_mem hs),b,c⟩
 obtain ⟨_,r2⟩:=round hi;refine yGB hS hi.2.2 (by omega) hL (fun c H=>?_) (fun c=>?_)
 ·have:fT L S=q:=by rw [runN,VX c] at hr;exact Option.some.inj hr
  rw [this];exact hQ H
 ·rw [runN,VY c] at hr;exact ⟨lM (fT L S) S gW false,_,by rw [Jw];exact e1,by rw [yHY],rfl,(r2 c).1,hr⟩
theorem yKP (he:EG e) {cs:List Ck} (hcs:∀ c∈cs,c.len=L) (h4:cs.length≤4) (hL:0≤L∧L≤1000) {q:Rat} {Q:Ex→aF→Hp→Prop} (hQ:∀ H,Q .ret (Ag q.num q.den) H) {n:Nat} {F:aF} {H:Hp} (h:MZ L c0 d0 Lr cs q n F H):cJ (bW (E e)) (.lG 5508404 (cF iD)) F H Q:=
 cJ.introQ (aM.uni _) (dV (JC e he) 4) (by kernel_rfl) (yKK e he) (MZ L c0 d0 Lr cs q) (fun F H h=>by obtain ⟨S,q0,_,_,_,_,h⟩:=h;cases h) (yGC hcs h4 hL hQ) n F H h
end
def sD (c:Ck) (i:Nat):Se:=⟨c.len,aB c.cuts,aB c.dens,aB ((List.range (i+1)).map (upC c)),upC c i,0,0⟩
theorem U7 {L:Int} {c:Ck} (h:cM L c) {i:Nat} (hi:i≤c.dens.length):0≤upC c i∧upC c i≤12000:=by obtain ⟨a,b⟩:=Jx h hi;exact ⟨Ee.1 a,kM.1 (by show _≤(12000:Rat);exact b)⟩
theorem yKQ {L:Int} {c:Ck} (h:cM L c):upC c c.dens.length=totC c.cuts c.dens:=by
 have a:=GJ h c.dens.length (bV _);have b:=Jv h;rw [GI h] at a;have:dJ c c.dens.length=bM c:=by grind
 exact Rat.intCast_inj.1 this
theorem yKR {L:Int} {c:Ck} (h:cM L c):sD c c.dens.length=dG (c,0,0):=by unfold sD dG pD;rw [yKQ h];rfl
theorem yHZ {L:Int} {c:Ck} (h:cM L c) {i:Nat} (hi:i<c.dens.length) (K:Se→Prop):pC (aB c.dens) (sD c i) (i:Int) K=K (sD c (i+1)):=by
 have l1:=h.1.l1;have l2:=h.1.l2;have e1:=dO (n:=(i:Int)+1) (by omega) (by omega);have u0:=U7 h (i:=i) (by omega);have u1:=U7 h (i:=i+1) (by omega);have es:upC c (i+1)=upC c i+c.dens.getD i 0*(c.cuts.getD (i+1) 0-c.cuts.getD i 0):=rfl;have ll:=h.1.len0;have lo:=h.1.lo (i:=i) (by omega);have hi0:=h.1.hi (i:=i) (by omega);have lo1:=h.1.lo (i:=i+1) (by omega);have hi1:=h.1.hi (i:=i+1) (by omega);have eT:rL (aB c.dens) (aB c.cuts) (upC c i) (i:Int)=upC c (i+1):=by unfold rL;rw [e1,mA,dL,dL,dW hi,dW (by omega),dW (by omega),dO (n:=c.cuts.getD (i+1) 0-c.cuts.getD i 0) (by omega) (by omega),dO (n:=c.dens.getD i 0*_) (by omega) (by omega),dO (by omega) (by omega),es]
 have eu:(sD c i).up.length=i+1:=by show (aB _).length=_;rw [cN,jH,List.length_range]
 unfold pC;rw [cN,aK (by omega),aK (by omega),dL,eQ hi,e1,mA,dL];show asr (decide (0≤((i+1:Nat):Int))) (asr (decide (((i+1:Nat):Int)<(((aB c.cuts).length:Nat):Int))) (asr (aJ zI ((aB c.cuts).getD (i+1) .nils)) (asr (decide (0≤(i:Int))) (asr (decide ((i:Int)<(((aB c.cuts).length:Nat):Int))) (asr (aJ zI ((aB c.cuts).getD i .nils)) _)))))=_;rw [cN,aK (by omega),aK (by omega),eQ (by omega),aK (by omega),aK (by omega),eQ (by omega),eu,aK rfl,aK (by omega),gD (by simp),aK rfl,aK (by unfold room;omega)];show K ⟨c.len,aB c.cuts,aB c.dens,aB ((List.range (i+1)).map (upC c))++[.int .i64 (rL (aB c.dens) (aB c.cuts) (upC c i) (i:Int))],rL (aB c.dens) (aB c.cuts) (upC c i) (i:Int),0,0⟩=_;rw [eT];congr 1;unfold sD;congr 1;rw [List.range_succ (n:=i+1),rV];unfold aB;rw [rV];rfl
section
variable (e:Es) (aW:fS) (aE:wQ) (aN:sO) (aL:fM)
variable (L ord:List PV) (Rn:aF→Hp→Prop) (Q:Ex→aF→Hp→Prop) (PP PQ:aF→Hp→Prop→Prop)
theorem yKS {S:List Se} (h:S.length≤3) (dens:List PV) (m i:Int) (s:Se):wD e aW aE aN aL (kV L ord S.length dens m i) (eU S s) (QG (cF qX) (eU S s).length Rn Q) =
  aG (decide (i<m)) (pC dens s i fun s'=>Rn (kV L ord S.length dens m (i64.wrap (i+1))) (eU S s')) (Q (.exit 2) (iJ L ord S.length dens m i) (eU S s)):=
 match S,h with
 | [],_=>TZ ..
 | [s0],_=>Ua ..
 | [s0,s1],_=>Ub ..
 | [s0,s1,s2],_=>Uc ..
 | _::_::_::_::_,h=>by simp only [gS] at h;omega
theorem yKT {S:List Se} (h:S.length≤4) (dens:List PV) (m i:Int) (s:Se):wO e aW aE aN aL PP (iJ L ord S.length dens m i) (eU S s) (kW L ord S.length) (dS S) (QG (cF qA) (dS S).length Rn Q) =
  DN L ord S.length (PP (kV L ord S.length (fH (lS L ord S.length)).dens (fH (lS L ord S.length)).dens.length 0) (eU S (fH (lS L ord S.length))) (Rn (kW L ord (S.length+1)) (dS (S++[s])))) (Q (.exit 0) (iK L ord S.length) (dS S)):=
 match S,h with
 | [],_=>Ud ..
 | [s0],_=>Ue ..
 | [s0,s1],_=>Ug ..
 | [s0,s1,s2],_=>Ui ..
 | [s0,s1,s2,s3],_=>Uk ..
 | _::_::_::_::_::_,h=>by simp only [gS] at h;omega
theorem yKU {S:List Se} (hn:S≠[]) (h:S.length≤4) (q0 q1:Int) (K:PV→Prop):wT e aW aE aN aL L ord PP PQ (iK L ord S.length) (dS S) q0 q1 K=PP (kW L ord 0) (dS []) (PQ (jT L S.length) (dF S) (∀ _:Hp,K (aX q0 q1))):=
 match S,hn,h with
 | [],hn,_=>absurd rfl hn
 | [s0],_,_=>Uf ..
 | [s0,s1],_,_=>Uh ..
 | [s0,s1,s2],_,_=>Uj ..
 | [s0,s1,s2,s3],_,_=>Ul ..
 | _::_::_::_::_::_,_,h=>by simp only [gS] at h;omega
end
section
variable {e:Es} {L:Int} {Lc ord:List PV}
theorem yKV (_:EG e):LpOk (bW (E e)) (E e) (Ah e) [] (cF qX):=bC (by kernel_rfl)
def UF (Lc ord:List PV) (S:List Se) (c:Ck) (k:Nat) (F:aF) (H:Hp):Prop:=∃ i,i≤c.dens.length∧c.dens.length<i+k∧F=kV Lc ord S.length (aB c.dens) c.dens.length (i:Int)∧H=eU S (sD c i)
theorem yKW {S:List Se} (hS:S.length≤3) {c:Ck} (h:cM L c) {Q:Ex→aF→Hp→Prop} (hQ:Q (.exit 2) (iJ Lc ord S.length (aB c.dens) c.dens.length c.dens.length) (eU S (sD c c.dens.length))) (n:Nat) (F:aF) (H:Hp) (hs:UF Lc ord S c (n+1) F H) :
  WC (E e) (jO (BG e) 4) (Ah e) [] cC (cF qX) F H (QG (cF qX) H.length (UF Lc ord S c n) Q):=by
 obtain ⟨i,h1,h2,e1,e2⟩:=hs;have l2:=h.1.l2;have l1:=h.1.l1;rw [e1,e2];refine (yKS e lZ mH gI gO Lc ord _ Q hS _ _ _ _).mpr ?_
 by_cases c':i<c.dens.length
 ·rw [cU (by omega),yHZ h c'];exact ⟨i+1,c',by omega,by rw [dO (by omega) (by omega)];rfl,rfl⟩
 ·have:i=c.dens.length:=by omega
  subst this;rw [cX (by omega)];exact hQ
theorem yGE (he:EG e) {S:List Se} (hS:S.length≤3) {c:Ck} (h:cM L c) {Q:Ex→aF→Hp→Prop} (hQ:Q (.exit 2) (iJ Lc ord S.length (aB c.dens) c.dens.length c.dens.length) (eU S (sD c c.dens.length))) :
  cJ (bW (E e)) (.lG 5508400 (cF qX)) (kV Lc ord S.length (aB c.dens) c.dens.length 0) (eU S (sD c 0)) Q:=
 cJ.introQ (aM.uni _) (dV (JC e he) 4) (by kernel_rfl) (yKV he) (UF Lc ord S c) (fun F H h=>by obtain ⟨i,h1,h2,_⟩:=h;omega) (yKW hS h hQ) (c.dens.length+1) _ _ ⟨0,jJ _,by omega,rfl,rfl⟩
def Na (L:Int) (Lc ord:List PV) (cs:List Ck):Prop:=ord.length=cs.length∧∀ j,j<cs.length→aJ zI (ord.getD j .nils)=true∧0≤DM ord j∧DM ord j<Lc.length∧lS Lc ord j=mI (cs.getD j default)∧cM L (cs.getD j default)
def mS (cs:List Ck):List Se:=cs.map fun c=>sD c c.dens.length
def Nb (Lc ord:List PV) (cs:List Ck) (k:Nat) (F:aF) (H:Hp):Prop:=∃ j,j≤cs.length∧cs.length<j+k∧F=kW Lc ord j∧H=dS (mS (cs.take j))
theorem yH0 (cs:List Ck) (j:Nat) (h:j≤cs.length):(mS (cs.take j)).length=j:=by unfold mS;rw [jH,kX];omega
theorem yH1 (he:EG e) {cs:List Ck} (ho:Na L Lc ord cs) (h4:cs.length≤4) {Q:Ex→aF→Hp→Prop} (hQ:Q (.exit 0) (iK Lc ord cs.length) (dS (mS cs))) (n:Nat) (F:aF) (H:Hp) (hs:Nb Lc ord cs (n+1) F H) :
  bP (bW (E e)) (erase (cF qA)) F H (QG (cF qA) H.length (Nb Lc ord cs n) Q):=by
 obtain ⟨j,h1,h2,e1,e2⟩:=hs;rw [e1,e2];obtain ⟨o1,o2⟩:=ho;have hl:=yH0 cs j h1;let c:=cs.getD j default;have hst:=yKT e lZ mH gI gO Lc ord (Nb Lc ord cs n) Q (fun F H X=>(j<cs.length∧F=kV Lc ord (mS (cs.take j)).length (aB c.dens) c.dens.length 0∧H=eU (mS (cs.take j)) (sD c 0))∧X) (S:=mS (cs.take j)) (by omega) (aB c.dens) c.dens.length c.dens.length (sD c c.dens.length);rw [hl] at hst;have hlp:LpOk (bW (E e)) (E e) (S5 (fun F H X=>(j<cs.length∧F=kV Lc ord j (aB c.dens) c.dens.length 0∧H=eU (mS (cs.take j)) (sD c 0))∧X) (iJ Lc ord j (aB c.dens) c.dens.length c.dens.length) (eU (mS (cs.take j)) (sD c c.dens.length))) [] (cF qA):=
  gA (l:=[(5508400,.lG 5508400 (cF qX))]) ⟨fun F H Q h=>by
   obtain ⟨⟨hj,rfl,rfl⟩,hQ⟩:=h;obtain ⟨_,_,_,_,hc⟩:=o2 j hj;have:=yGE (Lc:=Lc) (ord:=ord) he (S:=mS (cs.take j)) (by omega) hc (Q:=Q) (by rw [hl];exact hQ);rw [hl] at this;exact this,trivial⟩ (by kernel_rfl)
 refine nS (cF qA) (bW (E e)) (aM.uni _) (dV (JC e he) 4) bN.flat [] cC (cS.no _ _) hlp _ _ _ ?_;refine hst.mpr ?_;unfold DN
 by_cases hj:j<cs.length
 ·obtain ⟨p1,p2,p3,p4,p5⟩:=o2 j hj;rw [cU (by omega),aK (by omega),dL,gD p1,aK p2,aK p3,p4];show asr (aJ zK (mI c)) _;rw [eS];refine ⟨⟨hj,?_,rfl⟩,j+1,hj,by omega,rfl,?_⟩
  ·show kV Lc ord j (aB c.dens) ((aB c.dens).length:Nat) 0=_;rw [cN]
  ·congr 1;unfold mS;rw [uX,rV];congr 1;show _=map _ (cs[j]?).toList;rw [bY hj];have:c=cs[j]:=by show cs.getD j default=_;rw [cO,bY hj];rfl
   rw [← this];rfl
 ·have:j=cs.length:=by omega
  subst this;rw [cX (by omega)];rw [xJ];exact hQ
theorem yNd (he:EG e) {cs:List Ck} (ho:Na L Lc ord cs) (h4:cs.length≤4) {Q:Ex→aF→Hp→Prop} (hQ:Q (.exit 0) (iK Lc ord cs.length) (dS (mS cs))) :
  cJ (bW (E e)) (.lG 5508401 (cF qA)) (kW Lc ord 0) (dS []) Q:=
 cJ.introP (Nb Lc ord cs) (fun F H h=>by obtain ⟨i,h1,h2,_⟩:=h;omega) (yH1 he ho h4 hQ) (cs.length+1) _ _ ⟨0,jJ _,by omega,rfl,rfl⟩
end
theorem yKX (PP PQ:aF→Hp→Prop→Prop) (F1:aF) (H1:Hp) (q0 q1:Int) (G F:aF) (H:Hp) (Q:Ex→aF→Hp→Prop) (h:MX PP PQ F1 H1 q0 q1 31735400 G F H Q):False:=h
theorem yKY {e:Es} (he:EG e) (PP PQ:aF→Hp→Prop→Prop) (F1:aF) (H1:Hp) (q0 q1:Int):SEOk (bW (E e)) ⟨E e,MW lZ mH gI gO,yfD [(Fh,nX FJ),(Fl,nX FK),(Fm,nX FM)],MX PP PQ F1 H1 q0 q1,fun _=>none⟩:=
 bZ (aM.uni _) ⟨Gt e he,SK e he,SN e he,Mu e he,trivial⟩
 ⟨⟨by kernel_rfl,by kernel_rfl,by kernel_rfl,fun as=>kR (by kernel_rfl) _,he.num _ (by kernel_rfl),by kernel_rfl,gA (l:=[(31735400,.loop 31735400 (cF LF))]) ⟨fun F H Q h=>(yKX _ _ _ _ _ _ _ _ _ _ h).elim,trivial⟩ (by kernel_rfl)⟩,
  ⟨by kernel_rfl,by kernel_rfl,by kernel_rfl,fun as=>kR (by kernel_rfl) _,he.num _ (by kernel_rfl),by kernel_rfl,bC (by kernel_rfl)⟩,
  ⟨by kernel_rfl,by kernel_rfl,by kernel_rfl,fun as=>kR (by kernel_rfl) _,he.num _ (by kernel_rfl),by kernel_rfl,bC (by kernel_rfl)⟩,trivial⟩ he.ok
theorem U8 {L:Int}:∀ {cs:List Ck} {x:Ln},(∀ c∈cs,cM L c)→x.p 0=0→jD L (cs.map fun c=>(c,0,0)) x 0
 | [],_,_,_=>trivial
 | c::cs,x,h,hx=>by
  have hc:=h c (iP ..);have l1:=hc.1.l1;have l2:=hc.1.l2;have hp:0<c.dens.length:=by have:=hc.1.2.1;have:=hc.1.2.2;omega
  have e:=MP (x:=x) (c:=c) (f:=0) (t:=0) (den_pos hc hp) 0;have u:dJ c 0=0:=rfl;rw [hx,wW hc,u] at e;have hd:=den_pos hc hp;have z:(dA c 0 0 x).p 0=0:=by
   have:aR c 0*(dA c 0 0 x).p 0=0:=by grind
   rcases Rat.mul_eq_zero.1 this with k|k
   ·grind
   ·exact k
  have s:=GH hc hp;rw [wW hc] at s;exact ⟨hc,hp,hp,by rw [hx,wW hc];exact dT,by rw [hx];exact s,by show aI c 0≤(dA c 0 0 x).p 0;rw [z,wW hc];exact dT,by show (dA c 0 0 x).p 0<aI c (0+1);rw [z];exact s,U8 (fun d hd=>h d (gL _ hd)) z⟩
theorem yGF {L:Int} {c0 d0 Lr ord:List PV} {cs:List Ck} (hn:cs≠[]) (h4:cs.length≤4) (hL:∀ c∈cs,c.len=L) (ho:Na L (L1 L c0 d0 Lr) ord cs) :
  ∃ q,FinS L cs q∧small q∧∀ e,EG e→qP (E e) sH [.data (L1 L c0 d0 Lr),.data ord] (aX q.num q.den):=by
 have hok:∀ c∈cs,cM L c:=fun c hc=>by
  obtain ⟨j,hj,rfl⟩:=GX hc;obtain ⟨_,_,_,_,h⟩:=ho.2 j hj;rw [cO,bY hj] at h;exact h
 have hLb:0≤L∧L≤1000:=by obtain ⟨c,hc⟩:=List.exists_mem_of_ne_nil cs hn;have:=(hok c hc).1.len0;have h1:=(wV (hok c hc).1).2;have:L≤1000:=kM.1 h1;omega
 let S0:List Sq:=cs.map fun c=>(c,0,0)
 have hS0:S0.map (·.1)=cs:=by show map _ (map _ _)=_;rw [List.map_map];exact List.map_id' cs
 have hl0:S0.length=cs.length:=jH ..;have hR:RI L S0 0:=⟨U8 hok (DH 0),dT,fun k=>hn (List.map_eq_nil_iff.1 k)⟩;obtain ⟨q,hq,hF⟩:=U6 (n:=lO S0+1) hR (by omega);rw [hS0] at hF;have hsm:small q:=by
  have key:∀ {n:Nat} {S:List Sq} {q0:Rat},S.map (·.1)=cs→RI L S q0→runN L n S=some q→small q:=by
   intro n;induction n with
   | zero=>intro S q0 _ _ h;cases h
   | succ n ih=>
     intro S q0 e1 hi h;have hl:S.length=cs.length:=by rw [← e1,jH]
     have hS:∀ s∈S,lT L s:=fun s hs=>by
      obtain ⟨a,b,c⟩:=hi.1.all s hs;exact ⟨a,hL _ (by rw [← e1];exact List.mem_map_of_mem hs),b,c⟩
     have r:=(U2 hS hi.2.2 (by omega) hLb (Lr:=[]) (fun _ _ _ _ _=>True)).2.2;obtain ⟨_,r2⟩:=round hi
     by_cases c:fT L S=lP L S
     ·rw [runN,VX c] at h;have:fT L S=q:=Option.some.inj h;rw [← this];exact r
     ·rw [runN,VY c] at h;exact ih (by rw [Jw];exact e1) (r2 c).1 h
  exact key hS0 hR hq
 refine ⟨q,hF,hsm,fun e he=>?_⟩;have hE:dF (S0.map dG)=dF (mS cs):=by
  congr 1;show map _ (map _ _)=map _ _;rw [List.map_map];exact List.map_congr_left fun c hc=>(yKR (hok c hc)).symm
 have hls:(mS cs).length=cs.length:=jH ..;have hT:=yKU e lZ mH gI gO (L1 L c0 d0 Lr) ord (fun F H X=>(F=kW (L1 L c0 d0 Lr) ord 0∧H=dS [])∧X) (fun F H X=>(F=jT (L1 L c0 d0 Lr) cs.length∧H=dF (mS cs))∧X) (S:=mS cs) (fun k=>hn (List.map_eq_nil_iff.1 k)) (by omega) q.num q.den (fun r=>r=aX q.num q.den);rw [hls] at hT;have hlp:LpOk (bW (E e)) (E e) (MX (fun F H X=>(F=kW (L1 L c0 d0 Lr) ord 0∧H=dS [])∧X) (fun F H X=>(F=jT (L1 L c0 d0 Lr) cs.length∧H=dF (mS cs))∧X) (iK (L1 L c0 d0 Lr) ord cs.length) (dS (mS cs)) q.num q.den) [] (nX IJ).body:=
  gA (l:=[(5508400,.lG 5508400 (cF qX)),(5508401,.lG 5508401 (cF qA)),(5508402,.lG 5508402 (cF LH)),(5508403,.lG 5508403 (sS LI)),(5508404,.lG 5508404 (cF iD))])
   ⟨fun F H Q h=>False.elim h,
    fun F H Q h=>by
     obtain ⟨⟨rfl,rfl⟩,hQ⟩:=h;exact yNd he ho h4 hQ,
    fun F H Q h=>False.elim h,fun F H Q h=>False.elim h,
    fun F H Q h=>by
     obtain ⟨⟨rfl,rfl⟩,hQ⟩:=h;exact yKP he hL h4 hLb hQ (n:=lO S0+1) ⟨S0,0,hS0,by rw [hl0],hE.symm,hR,hq⟩,trivial⟩ (by kernel_rfl)
 obtain ⟨r,hr,ha⟩:=YD (yKY he _ _ _ _ q.num q.den) (d:=4) (fn:=nX IJ) (n:=sH) bN.flat hlp (by kernel_rfl) (by kernel_rfl) (fun as=>kR (by kernel_rfl) _) (he.num _ (by kernel_rfl)) (hT.mpr ⟨⟨rfl,rfl⟩,⟨rfl,rfl⟩,fun _=>rfl⟩);rw [hr] at ha;exact ha
theorem cM.bd {L:Int} {c:Ck} (h:cM L c) {x y:Rat} (x0:0≤x) (x1:x≤(L:Rat)) (y0:0≤y) (y1:y≤(L:Rat)):dE c x≤dE c y↔x≤y:=Q1 h.1 h.2 x0 x1 y0 y1
theorem yKZ {L:Int} {c:Ck} (h:cM L c) {q r:Rat} (hqr:q<r):q*bM c<r*bM c:=by have:=JP hqr (rI h);exact this
theorem Ch.lt {L:Int} {q r:Rat} (hq:0≤q) (hqr:q<r):∀ {cs:List Ck} {p p':Rat} {xs ys:List Rat},(∀ c∈cs,cM L c)→0≤p→p≤p'→p'≤(L:Rat)→Ch L cs p q xs→Ch L cs p' r ys→∀ a b,xs.getLast?=some a→ys.getLast?=some b→a<b
 | [],_,_,_,_,_,_,_,_,hx,_,a,b,ha,_=>by have:_=[]:=hx;rw [this] at ha;cases ha
 | c::cs,p,p',xs,ys,hok,p0,pp,pL,⟨x,rx,ex,x1,x2,x3,hx⟩,⟨y,ry,ey,y1,y2,y3,hy⟩,a,b,ha,hb=>by
  subst ex ey;have hc:=hok c (iP ..);have m:=(hc.bd p0 (gE pp pL) (gE p0 pp) pL).2 pp;have t:=yKZ hc hqr;have hxy:x<y:=by
   refine Rat.not_le.1 fun k=>?_
   have:=(hc.bd (gE (gE p0 pp) y1) y2 (gE p0 x1) x2).2 k;grind
  cases cs with
  | nil=>
   have e1:rx=[]:=hx;have e2:ry=[]:=hy;subst e1 e2
   cases ha;cases hb
   exact hxy
  | cons d cs =>obtain ⟨x',rx',e1,k1⟩:=hx;obtain ⟨y',ry',e2,k2⟩:=hy;subst e1 e2;rw [JR] at ha hb;exact Ch.lt hq hqr (fun e he=>hok e (gL _ he)) (gE p0 x1) (eY hxy) y2 ⟨x',rx',rfl,k1⟩ ⟨y',ry',rfl,k2⟩ a b ha hb
theorem FinS.uniq {L:Int} {cs:List Ck} {q r:Rat} (hok:∀ c∈cs,cM L c) (hL:(0:Rat)≤(L:Rat)) (hq:FinS L cs q) (hr:FinS L cs r):q=r:=by
 obtain ⟨q0,xs,hx,lx⟩:=hq;obtain ⟨r0,ys,hy,ly⟩:=hr;rcases rtri q r with k | k | k
 ·have:=Ch.lt (eY q0) k hok dT dT hL hx hy _ _ lx ly;grind
 ·exact k
 ·have:=Ch.lt (eY r0) k hok dT dT hL hy hx _ _ ly lx;grind
def endM (q:Rat):List Ck→Rat→Except Int (List Rat)
 | [],_=>.ok []
 | c::cs,p=>if small (q*bM c) then (match mrkC c.cuts c.dens p (q*bM c) with
  | .ok y=>(match endM q cs y with | .ok l=>.ok (y::l) | .error e=>.error e)
  | .error e=>.error e) else .error 16
theorem Nc {cuts dens:List Int}:∀ (r i:Nat) (p v:Rat) {e:Int},jB cuts dens r i p v=.error e→e=16∨e=6
 | 0,_,_,_,_,h=>by cases h;exact .inr rfl
 | r+1,i,p,v,e,h=>by
  unfold jB at h;have fe:∀ {q:Rat} {k:Rat→Except Int Rat},mR q k=.error e→e=16∨k q=.error e:=by
   intro q k hf;unfold mR at hf;split at hf
   ·exact .inr hf
   ·cases hf;exact .inl rfl
  split at h
  ·exact Nc r _ _ _ h
  ·split at h
   ·exact Nc r _ _ _ h
   ·rcases fe h with h | h
    ·exact .inl h
    rcases fe h with h|h
    ·exact .inl h
    split at h
    ·rcases fe h with h | h
     ·exact .inl h
     exact Nc r _ _ _ h
    ·rcases fe h with h | h
     ·exact .inl h
     rcases fe h with h|h
     ·exact .inl h
     cases h
theorem U9 {cuts dens:List Int} {p v:Rat} {e:Int} (h:mrkC cuts dens p v=.error e):e=16∨e=6:=by
 unfold mrkC at h;split at h
 ·cases h
 ·exact Nc _ _ _ _ h
def hunE (c:Ck):Bool:=c.dens.all fun d=>decide (d≠0)
theorem V0 {i0:Int} {l1:List PV} {x0 x1} (l:List Int) (hl:l.length<1000000):∀ (r i n:Nat),i+r=l.length→r<n→Gl x0 x1 n i0 l1 (aB l) (i:Int)=if (l.drop i).all (fun d=>decide (d≠0))=true then x0 i0 l1 (aB l) (l.length:Int) false else x1 false
 | 0,i,n+1,hi,hn=>by unfold Gl;rw [cN,cX (by omega),oD (by omega),show (i:Int)=l.length by omega];rfl
 | r+1,i,n+1,hi,hn=>by
  unfold Gl;have e1:=dO (n:=(i:Int)+1) (by omega) (by omega);simp only [lt];rw [cN,cU (by omega),aK (by omega),aK (by omega),dL,eQ (by omega),dW (by omega),e1,mA,sQ 0 (by omega)]
  by_cases c:l.getD i 0=0
  ·rw [nH c,VY (by rw [List.all_cons,show decide (l.getD i 0≠0)=false from Os (fun k=>k c),oE];exact GY)]
  ·rw [sP c,V0 l hl r (i+1) n (by omega) (by omega)];simp only [List.all_cons,Eo c,pM]
theorem yBZ {c:Ck} (hl:c.dens.length<1000000) (K:Bool→Prop):zL c.len (aB c.cuts) (aB c.dens) K=K (hunE c):=by
 refine wj _ _ _ _ (fun K k=>?_) K;unfold zL Sr;refine ⟨c.dens.length+1,(V0 c.dens hl c.dens.length 0 _ (by omega) (by omega)).mpr ?_⟩;rw [pK];unfold hunE at k;split
 ·rename_i h;rw [h] at k;exact k
 ·rename_i h;rw [Hd.2 h] at k;exact k
def uR (l:List Ck):Prop:=∀ i,i<l.length→(l.getD i default).cuts.length<1000000∧(l.getD i default).dens.length<1000000
def DO (c:Ck):Bool:=decide (c.cuts.length>14)&&decide (c.cuts.length≤40)
def GM (l:List Ck):Bool:=l.any DO||MK l
theorem V1 {x0 x1} (l:List Ck) (hl:l.length≤9223372036854775807):∀ (r i n:Nat),i+r=l.length→r<n→Gv zN x0 x1 n (cks l) (i:Int)=if (l.drop i).any DO=true then x1 true else x0 (cks l) (l.length:Int) false
 | 0,i,n+1,hi,hn=>by unfold Gv;rw [gK,cX (by omega),oD (by omega),show (i:Int)=l.length by omega];rfl
 | r+1,i,n+1,hi,hn=>by
  unfold Gv;have e1:=dO (n:=(i:Int)+1) (by omega) (by omega);simp only [lt,Go.Pf.jn];rw [gK,cU (by omega),aK (by omega),aK (by omega),dL,oZ (by omega),eS,wU,cN,e1,mA,sQ default (by omega),List.any_cons];have ih:=V1 (x0:=x0) (x1:=x1) l hl r (i+1) n (by omega) (by omega);rw [ih];unfold DO
  by_cases a:(l.getD i default).cuts.length>14
  ·rw [cU (by omega),aK (by omega),aK (by omega),eS,Eo a,pM]
   by_cases b:(l.getD i default).cuts.length≤40
   ·rw [Eo (show (((l.getD i default).cuts.length:Nat):Int)≤40 by omega),bL,Eo b,Bool.true_or,VX rfl]
   ·rw [Os (show ¬(((l.getD i default).cuts.length:Nat):Int)≤40 by omega),bQ,Os b,BQ]
  ·rw [cX (by omega),bQ,Os a,oE,BQ]
theorem yB0 {l:List Ck} (hl:l.length≤9223372036854775807) (K:Bool→Prop):Gw (cks l) K=K (GM l):=by
 refine zt _ _ (fun K k=>?_) K;unfold Gw SW;refine ⟨l.length+1,(V1 l hl l.length 0 _ (by omega) (by omega)).mpr ?_⟩;rw [pK];unfold GM at k;split
 ·rename_i h;rw [h] at k;exact k
 ·rename_i h;rw [Hd.2 h,BQ] at k;rw [yvM (by omega)];exact k
def GN (l:List Ck):Int:=if rG l 0≠0 then rG l 0 else if l.length>4 then 4 else if l.all hunE=true then 0 else 2
theorem V2 {x0 x1} (l:List Ck) (hl:l.length≤1000000) (hw:uR l):∀ (r i n:Nat),i+r=l.length→r<n→Gx zO zL x0 x1 n (cks l) (i:Int)=if (l.drop i).all hunE=true then x0 (cks l) (l.length:Int) false else x1 2
 | 0,i,n+1,hi,hn=>by unfold Gx;rw [gK,cX (by omega),oD (by omega),show (i:Int)=l.length by omega];rfl
 | r+1,i,n+1,hi,hn=>by
  unfold Gx;have e1:=dO (n:=(i:Int)+1) (by omega) (by omega);simp only [lt];rw [gK,cU (by omega),aK (by omega),aK (by omega),dL,oZ (by omega),eS,rF,wU,Ab,yBZ (hw i (by omega)).2,e1,mA,sQ default (by omega),List.all_cons];have ih:=V2 (x0:=x0) (x1:=x1) l hl hw r (i+1) n (by omega) (by omega);rw [ih]
  cases hunE (l.getD i default)
  ·rw [AD,bL,oE,VY (by simp)]
  ·rw [Bool.not_true,bQ,pM]
theorem uR.fin {l:List Ck} (h:uR l):pA l:=fun i hi=>⟨by have:=(h i hi).1;omega,by have:=(h i hi).2;omega⟩
theorem V3 {l:List Ck} (hl:l.length≤1000000) (hw:uR l) (K:Int→Prop):Gy (cks l) K=K (GN l):=by
 refine zu _ _ (fun K k=>?_) K;unfold Gy SY;rw [yEC hw.fin (by omega)];unfold GN at k;show aG (rG l 0 !=0) _ _
 by_cases c:rG l 0=0
 ·rw [eP c,gK];rw [VY (by omega)] at k
  by_cases c4:l.length>4
  ·rw [cU (by omega)];rw [VX c4] at k;exact k
  ·rw [cX (by omega)];rw [VY c4] at k;refine ⟨l.length+1,(V2 l hl hw l.length 0 _ (by omega) (by omega)).mpr ?_⟩;rw [pK];split
   ·rename_i h;rw [VX h] at k;exact k
   ·rename_i h;rw [VY h] at k;exact k
 ·rw [gQ c];rw [VX c] at k;exact k
def xC (n:Nat):List Int→List Bool→Bool
 | [],_=>true
 | a::r,had=>if a<0∨(n:Int)≤a∨had.getD a.toNat false=true then false else xC n r (had.set a.toNat true)
def Ai (l:List Bool):List PV:=l.map PV.bool
theorem yB1 (l:List Bool):(Ai l).length=l.length:=jH ..
theorem yEF {l:List Bool} {i:Nat} (h:i<l.length):(Ai l).getD i .nils=.bool (l.getD i false):=by unfold Ai;rw [cO,cO,rT,bY h];rfl
theorem yB2 (l:List Bool) (i:Nat) (b:Bool):(Ai l).set i (.bool b)=Ai (l.set i b):=by unfold Ai;rw [List.map_set]
theorem yH2 (n:Nat) (a:Int) (r:List Int) (had:List Bool):xC n (a::r) had=if a<0∨(n:Int)≤a∨had.getD a.toNat false=true then false else xC n r (had.set a.toNat true):=rfl
def rM (n:Nat) (o:List Int):Bool:=(o.length==n)&&xC n o (replicate n false)
theorem V4 {x0 x1} (o:List Int) (hl:o.length≤1000000):∀ (r i n:Nat) (had:List Bool),i+r=o.length→r<n→had.length=o.length →
  (if xC o.length (o.drop i) had=true then ∀ h,x0 h (o.length:Int) (aB o) o.length o.length o.length (o.length:Int) false else ∀ h,x1 h false)→Gz x0 x1 n (Ai had) (o.length:Int) (aB o) o.length o.length o.length (i:Int)
 | 0,i,n+1,had,hi,hn,hh,k=>by unfold Gz;rw [oD (by omega)] at k;rw [cX (by omega),show (i:Int)=o.length by omega];exact k _
 | r+1,i,n+1,had,hi,hn,hh,k=>by
  unfold Gz;have e1:=dO (n:=(i:Int)+1) (by omega) (by omega);simp only [lt,Go.Pf.jn];rw [sQ 0 (show i<o.length by omega)] at k;have eg:=yH2 o.length (o.getD i 0) (o.drop (i+1)) had;rw [cU (by omega),cN,aK (by omega),aK (by omega),dL,eQ (by omega),dW (by omega)]
  by_cases a:o.getD i 0<0
  ·rw [cU a,bL];rw [eg.trans (VX (.inl a)),VY GY] at k;exact k _
  rw [cX a,aK (by omega),aK (by omega),eQ (by omega)]
  by_cases b:(o.length:Int)≤o.getD i 0
  ·rw [cU (by omega),bL];rw [eg.trans (VX (.inr (.inl b))),VY GY] at k;exact k _
  have hb:(o.getD i 0).toNat<had.length:=by omega
  rw [cX (by omega),aK (by omega),aK (by omega),eQ (by omega),aK (by omega),aK (by omega),yB1,aK (by omega),aK (by omega),mM,yEF hb];show asr (aJ (.one .b) (.bool (had.getD (o.getD i 0).toNat false))) _;rw [show ∀ P,asr (aJ (.one .b) (.bool (had.getD (o.getD i 0).toNat false))) P=P from fun _=>rfl];show aG (had.getD (o.getD i 0).toNat false) _ _
  by_cases c:had.getD (o.getD i 0).toNat false=true
  ·rw [c,bL];rw [eg.trans (VX (.inr (.inr c))),VY GY] at k;exact k _
  ·rw [Hd.2 c,bQ];rw [eg.trans (VY (by rintro (h | h | h)<;>contradiction))] at k;rw [aK (by omega),aK (by omega),eQ (by omega),aK (by omega),aK (by omega),aK (by omega),aK (by omega)];show asr (aJ (.one .b) (.bool (had.getD (o.getD i 0).toNat false))) _;rw [show ∀ P,asr (aJ (.one .b) (.bool (had.getD (o.getD i 0).toNat false))) P=P from fun _=>rfl,e1,mA,yB2];exact V4 o hl r (i+1) n _ (by omega) (by omega) (by rw [Az];exact hh) k
theorem yB3 {n:Nat} {o:List Int} (hn:n≤1000000) (K:Bool→Prop) (k:K (rM n o)):Mx n (aB o) K:=by
 unfold Mx Tb;rw [cN];unfold rM at k
 by_cases c:o.length=n
 ·subst c;rw [eP rfl,aK (by omega),aK (by omega),dL,aK (by unfold room;omega)];rw [beq_self_eq_true,pM] at k;refine ⟨o.length+1,?_⟩;have:replicate o.length ((.bool false):PV)=Ai (replicate o.length false):=by unfold Ai;rw [List.map_replicate]
  rw [this];refine V4 o hn o.length 0 _ _ (by omega) (by omega) (by rw [uW]) ?_;rw [pK];split
  ·rename_i h;rw [h] at k;exact fun _=>k
  ·rename_i h;rw [Hd.2 h] at k;exact fun _=>k
 ·rw [gQ (by omega)];rw [beq_eq_false_iff_ne.2 c,oE] at k;exact k
def JD (l:List Ck) (o:List Int):Bool:=!GM l&&(decide (o.length≤20)&&(decide (GN l=0)&&rM l.length o))
theorem yAc {l:List Ck} (h:GM l=false):uR l∧l.length≤10:=by unfold GM at h;rw [Ax] at h;obtain ⟨a,b,c⟩:=yBT h.2;exact ⟨fun i hi=>⟨by have:=(b i hi).1;omega,by have:=(b i hi).2;omega⟩,a⟩
def K0 (t:vT):Env:=Cr (E []) FR t
theorem JE {e:Es} {t:vT}:Cr (E e) FR t=K0 t:=by kernel_rfl
theorem V5 {e:Es} (he:EG e) (n:Nat) (hm:memN FR n=false) (as:List PV) (H:Hp):(E e).effx n as H=none:=by show vK ((E e).eff n as H)=none;rw [he.num n hm as H];rfl
def bE:List PV:=[.fn (.func La) [] [.ptr 0 1 0 0]]
def dK (ord:List PV):Hp:=[⟨false,true,1,[.data ord]⟩]
def dX (ord:List PV) (n:Nat):Hp:=[⟨false,true,1,[.data ord]⟩,⟨false,false,1,[.own 2 0 n n none]⟩,⟨false,true,1,(List.range n).map fun (i:Nat)=>.int .i64 (i:Int)⟩]
def eG:Nat→List (List Int)
 | 1=>[[0]]
 | 2=>[[0,1],[1,0]]
 | 3=>[[0,1,2],[0,2,1],[1,0,2],[1,2,0],[2,0,1],[2,1,0]]
 | 4=>[[0,1,2,3],[0,1,3,2],[0,2,1,3],[0,2,3,1],[0,3,1,2],[0,3,2,1],[1,0,2,3],[1,0,3,2],[1,2,0,3],[1,2,3,0],[1,3,0,2],[1,3,2,0],[2,0,1,3],[2,0,3,1],[2,1,0,3],[2,1,3,0],[2,3,0,1],[2,3,1,0],[3,0,1,2],[3,0,2,1],[3,1,0,2],[3,1,2,0],[3,2,0,1],[3,2,1,0]]
 | _=>[]
def UG (cK:CK) (ord:List PV) (n:Nat):CK:=fun f args H K=>
 match f with
 | .fn (.func m) [] []=>bif Nat.beq m cT then (args=bE∧H=dK ord)∧K (.own 2 0 n n none) (dX ord n) else cK f args H K
 | _=>False
def UH (S:SE) (d:Nat) (ord:List PV) (n:Nat):CK:=UG (jO S d) ord n
section
variable (e:Es) (aC:iY)
def GO:SE:=⟨E e,yiW [(Bb,lY.pw aC)],yfD [(OP,nX Pq)],fun _ _ _ _ _=>False,fun _=>none⟩
def UI (ord:List PV) (n:Nat):LP:=fun id _ F H Q=>bif Nat.beq id 54010400 then UE (E e) (UH (GO e aC) 2 ord n) (fun _ _ _ _ _=>False) (sS Ps) 6 F H Q else False
def GP:TC→TC
 | .ops l an ps fg=>.ops l (TV an) ps fg
 | .seq a b=>.seq (GP a) (GP b)
 | .cond c a b=>.cond c (GP a) (GP b)
 | .block i b=>.block i (GP b)
 | .loop i b=>.loop i (sS b)
 | c=>c
def UJ (t:TFn):TFn:=⟨t.nparams,t.results,GP t.body⟩
def GQ (L ord:List PV) (n:Nat) (K:PV→Prop):Prop:=HL (E e) (UH (GO e aC) 2 ord n) (UI e aC ord n) (UJ IA) [.data L,.data ord] [] fun r _=>K r
def JF (L ord:List PV) (K:PV→Prop):Prop:=aC L fun i=>aG (i !=0) (K (.int .i64 i)) ((bE=bE∧dK ord=dK ord)∧K (.int .i64 0))
theorem UK (l0 o0:PV) (K:PV→Prop):GQ e aC [l0] [o0] 1 K=JF aC [l0] [o0] K:=by kernel_rfl
theorem UL (l0 l1 o0 o1:PV) (K:PV→Prop):GQ e aC [l0,l1] [o0,o1] 2 K=JF aC [l0,l1] [o0,o1] K:=by kernel_rfl
theorem UM (l0 l1 l2 o0 o1 o2:PV) (K:PV→Prop):GQ e aC [l0,l1,l2] [o0,o1,o2] 3 K=JF aC [l0,l1,l2] [o0,o1,o2] K:=by kernel_rfl
theorem UN (l0 l1 l2 l3 o0 o1 o2 o3:PV) (K:PV→Prop):GQ e aC [l0,l1,l2,l3] [o0,o1,o2,o3] 4 K=JF aC [l0,l1,l2,l3] [o0,o1,o2,o3] K:=by kernel_rfl
end
theorem yK0:yak (K0 []) 300 cT bE (dK (aB [0]))=some (.own 2 0 1 1 none,dX (aB [0]) 1):=by kernel_rfl
theorem UO {o:List Int} (h:o∈eG 1):yak (K0 []) 300 cT bE (dK (aB o))=some (.own 2 0 1 1 none,dX (aB o) 1):=by simp only [eG,qAp,List.not_mem_nil,or_false] at h;subst h;exact yK0
theorem yK1:yak (K0 []) 300 cT bE (dK (aB [0,1]))=some (.own 2 0 2 2 none,dX (aB [0,1]) 2):=by kernel_rfl
theorem yK2:yak (K0 []) 300 cT bE (dK (aB [1,0]))=some (.own 2 0 2 2 none,dX (aB [1,0]) 2):=by kernel_rfl
theorem UP {o:List Int} (h:o∈eG 2):yak (K0 []) 300 cT bE (dK (aB o))=some (.own 2 0 2 2 none,dX (aB o) 2):=by
 simp only [eG,qAp,List.not_mem_nil,or_false] at h;rcases h with rfl | rfl
 ·exact yK1
 ·exact yK2
theorem yK3:yak (K0 []) 300 cT bE (dK (aB [0,1,2]))=some (.own 2 0 3 3 none,dX (aB [0,1,2]) 3):=by kernel_rfl
theorem yK4:yak (K0 []) 300 cT bE (dK (aB [0,2,1]))=some (.own 2 0 3 3 none,dX (aB [0,2,1]) 3):=by kernel_rfl
theorem yK5:yak (K0 []) 300 cT bE (dK (aB [1,0,2]))=some (.own 2 0 3 3 none,dX (aB [1,0,2]) 3):=by kernel_rfl
theorem yK6:yak (K0 []) 300 cT bE (dK (aB [1,2,0]))=some (.own 2 0 3 3 none,dX (aB [1,2,0]) 3):=by kernel_rfl
theorem yK7:yak (K0 []) 300 cT bE (dK (aB [2,0,1]))=some (.own 2 0 3 3 none,dX (aB [2,0,1]) 3):=by kernel_rfl
theorem yK8:yak (K0 []) 300 cT bE (dK (aB [2,1,0]))=some (.own 2 0 3 3 none,dX (aB [2,1,0]) 3):=by kernel_rfl
theorem UQ {o:List Int} (h:o∈eG 3):yak (K0 []) 300 cT bE (dK (aB o))=some (.own 2 0 3 3 none,dX (aB o) 3):=by
 simp only [eG,qAp,List.not_mem_nil,or_false] at h;rcases h with rfl | rfl | rfl | rfl | rfl | rfl
 ·exact yK3
 ·exact yK4
 ·exact yK5
 ·exact yK6
 ·exact yK7
 ·exact yK8
theorem yK9:yak (K0 []) 300 cT bE (dK (aB [0,1,2,3]))=some (.own 2 0 4 4 none,dX (aB [0,1,2,3]) 4):=by kernel_rfl
theorem yLa:yak (K0 []) 300 cT bE (dK (aB [0,1,3,2]))=some (.own 2 0 4 4 none,dX (aB [0,1,3,2]) 4):=by kernel_rfl
theorem yLb:yak (K0 []) 300 cT bE (dK (aB [0,2,1,3]))=some (.own 2 0 4 4 none,dX (aB [0,2,1,3]) 4):=by kernel_rfl
theorem yLc:yak (K0 []) 300 cT bE (dK (aB [0,2,3,1]))=some (.own 2 0 4 4 none,dX (aB [0,2,3,1]) 4):=by kernel_rfl
theorem yLd:yak (K0 []) 300 cT bE (dK (aB [0,3,1,2]))=some (.own 2 0 4 4 none,dX (aB [0,3,1,2]) 4):=by kernel_rfl
theorem yLe:yak (K0 []) 300 cT bE (dK (aB [0,3,2,1]))=some (.own 2 0 4 4 none,dX (aB [0,3,2,1]) 4):=by kernel_rfl
theorem yLf:yak (K0 []) 300 cT bE (dK (aB [1,0,2,3]))=some (.own 2 0 4 4 none,dX (aB [1,0,2,3]) 4):=by kernel_rfl
theorem yLg:yak (K0 []) 300 cT bE (dK (aB [1,0,3,2]))=some (.own 2 0 4 4 none,dX (aB [1,0,3,2]) 4):=by kernel_rfl
theorem yLh:yak (K0 []) 300 cT bE (dK (aB [1,2,0,3]))=some (.own 2 0 4 4 none,dX (aB [1,2,0,3]) 4):=by kernel_rfl
theorem yLi:yak (K0 []) 300 cT bE (dK (aB [1,2,3,0]))=some (.own 2 0 4 4 none,dX (aB [1,2,3,0]) 4):=by kernel_rfl
theorem yH3:yak (K0 []) 300 cT bE (dK (aB [1,3,0,2]))=some (.own 2 0 4 4 none,dX (aB [1,3,0,2]) 4):=by kernel_rfl
theorem yH4:yak (K0 []) 300 cT bE (dK (aB [1,3,2,0]))=some (.own 2 0 4 4 none,dX (aB [1,3,2,0]) 4):=by kernel_rfl
theorem yH5:yak (K0 []) 300 cT bE (dK (aB [2,0,1,3]))=some (.own 2 0 4 4 none,dX (aB [2,0,1,3]) 4):=by kernel_rfl
theorem yH6:yak (K0 []) 300 cT bE (dK (aB [2,0,3,1]))=some (.own 2 0 4 4 none,dX (aB [2,0,3,1]) 4):=by kernel_rfl
theorem yH7:yak (K0 []) 300 cT bE (dK (aB [2,1,0,3]))=some (.own 2 0 4 4 none,dX (aB [2,1,0,3]) 4):=by kernel_rfl
theorem yH8:yak (K0 []) 300 cT bE (dK (aB [2,1,3,0]))=some (.own 2 0 4 4 none,dX (aB [2,1,3,0]) 4):=by kernel_rfl
theorem yH9:yak (K0 []) 300 cT bE (dK (aB [2,3,0,1]))=some (.own 2 0 4 4 none,dX (aB [2,3,0,1]) 4):=by kernel_rfl
theorem yIa:yak (K0 []) 300 cT bE (dK (aB [2,3,1,0]))=some (.own 2 0 4 4 none,dX (aB [2,3,1,0]) 4):=by kernel_rfl
theorem yIb:yak (K0 []) 300 cT bE (dK (aB [3,0,1,2]))=some (.own 2 0 4 4 none,dX (aB [3,0,1,2]) 4):=by kernel_rfl
theorem yIc:yak (K0 []) 300 cT bE (dK (aB [3,0,2,1]))=some (.own 2 0 4 4 none,dX (aB [3,0,2,1]) 4):=by kernel_rfl
theorem yId:yak (K0 []) 300 cT bE (dK (aB [3,1,0,2]))=some (.own 2 0 4 4 none,dX (aB [3,1,0,2]) 4):=by kernel_rfl
theorem yIe:yak (K0 []) 300 cT bE (dK (aB [3,1,2,0]))=some (.own 2 0 4 4 none,dX (aB [3,1,2,0]) 4):=by kernel_rfl
theorem yIf:yak (K0 []) 300 cT bE (dK (aB [3,2,0,1]))=some (.own 2 0 4 4 none,dX (aB [3,2,0,1]) 4):=by kernel_rfl
theorem yIg:yak (K0 []) 300 cT bE (dK (aB [3,2,1,0]))=some (.own 2 0 4 4 none,dX (aB [3,2,1,0]) 4):=by kernel_rfl
theorem UR {o:List Int} (h:o∈eG 4):yak (K0 []) 300 cT bE (dK (aB o))=some (.own 2 0 4 4 none,dX (aB o) 4):=by
 simp only [eG,qAp,List.not_mem_nil,or_false] at h;rcases h with rfl | rfl | rfl | rfl | rfl | rfl | rfl | rfl | rfl | rfl | rfl | rfl | rfl | rfl | rfl | rfl | rfl | rfl | rfl | rfl | rfl | rfl | rfl | rfl
 ·exact yK9
 ·exact yLa
 ·exact yLb
 ·exact yLc
 ·exact yLd
 ·exact yLe
 ·exact yLf
 ·exact yLg
 ·exact yLh
 ·exact yLi
 ·exact yH3
 ·exact yH4
 ·exact yH5
 ·exact yH6
 ·exact yH7
 ·exact yH8
 ·exact yH9
 ·exact yIa
 ·exact yIb
 ·exact yIc
 ·exact yId
 ·exact yIe
 ·exact yIf
 ·exact yIg
theorem yLj {n:Nat} {o:List Int} (h:o∈eG n):yak (K0 []) 300 cT bE (dK (aB o))=some (.own 2 0 n n none,dX (aB o) n):=
 match n,h with
 | 0,h=>by cases h
 | 1,h=>UO h
 | 2,h=>UP h
 | 3,h=>UQ h
 | 4,h=>UR h
 | _+5,h=>by cases h
theorem V6:∀ {n:Nat} {o:List Int},o∈eG n→o.length=n∧1≤n∧n≤4
 | 0,_,h=>by cases h
 | 1,o,h=>by
  have:∀ o∈eG 1,o.length=1:=by decide
  exact ⟨this o h,by decide,by decide⟩
 | 2,o,h=>by
  have:∀ o∈eG 2,o.length=2:=by decide
  exact ⟨this o h,by decide,by decide⟩
 | 3,o,h=>by
  have:∀ o∈eG 3,o.length=3:=by decide
  exact ⟨this o h,by decide,by decide⟩
 | 4,o,h=>by
  have:∀ o∈eG 4,o.length=4:=by decide
  exact ⟨this o h,by decide,by decide⟩
 | _+5,_,h=>by cases h
section
variable {e:Es}
theorem yLk {aC:iY} {L ord:List PV} (hl:L.length=ord.length) (h1:1≤ord.length) (h4:ord.length≤4) (K:PV→Prop):GQ e aC L ord ord.length K=JF aC L ord K:=
 match L,ord,hl,h1,h4 with
 | _,[],_,h1,_=>by cases h1
 | [l0],[o0],_,_,_=>UK ..
 | [l0,l1],[o0,o1],_,_,_=>UL ..
 | [l0,l1,l2],[o0,o1,o2],_,_,_=>UM ..
 | [l0,l1,l2,l3],[o0,o1,o2,o3],_,_,_=>UN ..
 | _,_::_::_::_::_::_,_,_,h=>by simp only [gS] at h;omega
theorem yLl (he:EG e):SEOk (bW (E e)) (GO e jR):=bZ (aM.uni _) ⟨Mt e he,trivial⟩
 ⟨⟨by kernel_rfl,by kernel_rfl,by kernel_rfl,fun as=>kR (by kernel_rfl) _,he.num _ (by kernel_rfl),by kernel_rfl,bC (by kernel_rfl)⟩,trivial⟩ he.ok
theorem yLm {cK:CK} (hG:Good (eK (E e)) cK) {ord:List PV} {n:Nat} (hk:∃ m0,∀ k x m,m0≤k→eK (E e) k x→m0≤m→yak x m cT bE (dK ord)=some (.own 2 0 n n none,dX ord n)):Good (eK (E e)) (UG cK ord n):=by
 intro f args H K h;unfold UG at h;split at h
 ·rename_i m
  cases hb:Nat.beq m cT with
  | false =>rw [hb,cond_false] at h;exact hG _ _ _ _ h
  | true=>
   rw [hb,cond_true] at h;obtain rfl:=fU hb;obtain ⟨⟨rfl,rfl⟩,h⟩:=h;obtain ⟨m0,hm⟩:=hk;refine ⟨_,_,h,m0,fun k x m h1 h2 h3=>?_⟩;have h2':x=E e:=h2;have:=hm k x m h1 h2 h3;subst h2';have e0:∀ as,yaO (E e) (yak (E e) m) cT as=none:=by
    intro as;simp only [yaO];have hs:(E e).sum cT as=none:=kR (by kernel_rfl) as;rw [hs,show (E e).qui cT=false from by kernel_rfl];rfl
   have hx:ygJ (E e) (.fn (.func cT) [] []) bE=none:=by kernel_rfl
   rw [Cp hx];have hfz:(E e).frz cT=false:=by kernel_rfl
   have hrb:(E e).rb cT=false:=by kernel_rfl
   have hqu:(E e).qui cT=false:=by kernel_rfl
   simp only [mU,e0,hfz,hrb,hqu,BM,Eh]
   cases yaw (dK ord) bE<;>simp only [fK,if_false,this]
 ·exact h.elim
theorem yLn (he:EG e) {ord:List PV} {n:Nat} (hk:∃ m0,∀ k x m,m0≤k→eK (E e) k x→m0≤m→yak x m cT bE (dK ord)=some (.own 2 0 n n none,dX ord n)):Good (eK (E e)) (UH (GO e jR) 2 ord n):=
 yLm (dV (S:=GO e jR) (SEOk.solo (S:=GO e jR) (yLl he)) 2) hk
theorem yAe (he:EG e) {l:List PV} {o:List Int} (hp:o∈eG l.length) (hc:∀ K:Int→Prop,K 0→jR l K):kH (E e) qQ [.data l,.data (aB o)] (.int .i64 0):=by
 obtain ⟨p1,p2,p3⟩:=V6 hp;have hlo:(aB o).length=l.length:=by rw [cN,p1]
 have hrun:=mc (nums:=FR) (t:=[]) (V5 he) (fun x h=>by cases h) (m:=300) (n:=cT) (as:=bE) (H:=dK (aB o)) (by rw [JE];exact yLj hp);have hg:=yLn he hrun;have hw:=yLk (e:=e) (aC:=jR) (L:=l) (ord:=aB o) (by omega) (by omega) (by omega) (fun r=>r=.int .i64 0);rw [hlo] at hw;have hw2:GQ e jR l (aB o) l.length (fun r=>r=.int .i64 0):=by rw [hw];exact hc _ ⟨⟨rfl,rfl⟩,rfl⟩
 have hlp:LpOk (eK (E e)) (E e) (UI e jR (aB o) l.length) [] (UJ IA).body:=
  gA (l:=[(54010400,.loop 54010400 (sS Ps))]) ⟨fun F H Q h=>UC (aM.solo _) hg (by kernel_rfl) (bC (by kernel_rfl)) h,trivial⟩ (by kernel_rfl)
 obtain ⟨r,H',hr,m0,hm⟩:=KQ (S:=⟨E e,fun _=>none,fun _=>none,UI e jR (aB o) l.length,fun _=>none⟩) (P:=eK (E e)) (aM.solo _) hg (fn:=UJ IA) bN.flat hlp (n:=qQ) (by kernel_rfl) (he.num _ (by kernel_rfl)) hw2;subst hr;refine ⟨m0,fun k x m h1 h2 h3=>?_⟩;have h2':x=E e:=h2;have hmm:=hm k x m h1 h2 h3;subst h2';unfold yaO;have hs:(E e).sum qQ [.data l,.data (aB o)]=none:=kR (by kernel_rfl) _;rw [hs,show (E e).qui qQ=true from by kernel_rfl,hmm,show (E e).nl qQ=false from by kernel_rfl];rfl
end
theorem yEG:∀ {n:Nat} {o:List Int},1≤n→n≤4→rM n o=true→o∈eG n:=by
 have rng:∀ {n:Nat} {a:Int},n≤4→0≤a→a<(n:Int)→a=0∨a=1∨a=2∨a=3:=fun h h0 h1=>by omega
 have all:∀ {n:Nat} {o:List Int} {had:List Bool},xC n o had=true→∀ a∈o,0≤a∧a<(n:Int):=by
  intro n o;induction o with
  | nil=>intro _ _ a h;cases h
  | cons b o ih=>
   intro had h a ha;unfold xC at h;split at h
   ·cases h
   ·rename_i hc;rcases qAp.1 ha with rfl | ha
    ·omega
    ·exact ih h a ha
 intro n o h1 h4 h;unfold rM at h;rw [cA,beq_iff_eq] at h;obtain ⟨hl,hg⟩:=h;have ha:=all hg;obtain rfl | rfl | rfl | rfl:n=1∨n=2∨n=3∨n=4:=by omega
 ·match o,hl with
  | [a],_=>
   have:=ha a (by simp);obtain rfl:a=0:=by omega
   decide
 ·match o,hl with
  | [a,b],_=>
   have k1:=ha a (by simp);have k2:=ha b (by simp);have d:∀ a∈[(0:Int),1],∀ b∈[(0:Int),1],xC 2 [a,b] (replicate 2 false)=true→[a,b]∈eG 2:=by decide +kernel
   exact d a (by simp;omega) b (by simp;omega) hg
 ·match o,hl with
  | [a,b,c],_=>
   have k1:=ha a (by simp);have k2:=ha b (by simp);have k3:=ha c (by simp);have d:∀ a∈[(0:Int),1,2],∀ b∈[(0:Int),1,2],∀ c∈[(0:Int),1,2],xC 3 [a,b,c] (replicate 3 false)=true→[a,b,c]∈eG 3:=by decide +kernel
   exact d a (by simp;omega) b (by simp;omega) c (by simp;omega) hg
 ·match o,hl with
  | [a,b,c,d],_=>
   have k1:=ha a (by simp);have k2:=ha b (by simp);have k3:=ha c (by simp);have k4:=ha d (by simp);have z:∀ a∈[(0:Int),1,2,3],∀ b∈[(0:Int),1,2,3],∀ c∈[(0:Int),1,2,3],∀ d∈[(0:Int),1,2,3],xC 4 [a,b,c,d] (replicate 4 false)=true→[a,b,c,d]∈eG 4:=by decide +kernel
   exact z a (by simp;omega) b (by simp;omega) c (by simp;omega) d (by simp;omega) hg
theorem US:∀ {n:Nat} {o:List Int},o∈eG n→∀ a∈o,0≤a∧a<(n:Int)
 | 0,_,h,_,_=>by cases h
 | 1,o,h,a,ha=>by
  have:∀ o∈eG 1,∀ a∈o,0≤a∧a<((1:Nat):Int):=by decide
  exact this o h a ha
 | 2,o,h,a,ha=>by
  have:∀ o∈eG 2,∀ a∈o,0≤a∧a<((2:Nat):Int):=by decide
  exact this o h a ha
 | 3,o,h,a,ha=>by
  have:∀ o∈eG 3,∀ a∈o,0≤a∧a<((3:Nat):Int):=by decide
  exact this o h a ha
 | 4,o,h,a,ha=>by
  have:∀ o∈eG 4,∀ a∈o,0≤a∧a<((4:Nat):Int):=by decide
  exact this o h a ha
 | _+5,_,h,_,_=>by cases h
structure Ft (l:List Ck) (o:List Int):Prop where
 d:DK l
 h4:l.length≤4
 hun:∀ c∈l,GF c.dens
 p:o∈eG l.length
def lnE (l:List Ck):Int:=(l.getD 0 default).len
def dP (l:List Ck) (o:List Int):List Ck:=o.map fun a=>l.getD a.toNat default
theorem UT {l:List Ck} {o:List Int} (h:JD l o=true):Ft l o:=by
 unfold JD at h;simp only [cA,decide_eq_true_eq] at h;obtain ⟨_,_,hc,ho⟩:=h;unfold GN at hc
 by_cases c1:rG l 0=0
 ·rw [VY (by omega)] at hc
  by_cases c2:l.length>4
  ·rw [VX c2] at hc;cases hc
  ·rw [VY c2] at hc
   by_cases c3:l.all hunE=true
   ·have hd:=(yBS c1).1;have:=hd.n0;refine ⟨hd,by omega,fun c hm i hi=>?_,yEG (by omega) (by omega) ho⟩;have h1:hunE c=true:=Ay.1 c3 c hm;have h2:c.dens.getD i 0≠0:=by
     have:=Ay.1 h1 (c.dens.getD i 0) (by rw [cO,bY hi];exact mL hi);simpa using this
    obtain ⟨j,hj,rfl⟩:=GX hm;have h3:=hd.ok j hj;rw [cO,bY hj] at h3;have h3:(l[j]).ok:=h3;have:=(VC.den h3 hi).1;omega
   ·rw [VY c3] at hc;cases hc
 ·rw [VX c1] at hc;exact absurd hc c1
section
variable {l:List Ck} {o:List Int}
theorem Ft.okl (h:Ft l o):∀ c∈l,cM (lnE l) c∧c.len=lnE l:=fun c hc=>by obtain ⟨j,hj,rfl⟩:=GX hc;have h1:=h.d.ok j hj;have h2:=h.d.len j hj;rw [cO,bY hj] at h1 h2;have h3:(l[j]).len=lnE l:=h2;refine ⟨⟨?_,h.hun _ hc⟩,h3⟩;rw [← h3];exact h1
theorem Ft.mem (h:Ft l o):∀ c∈dP l o,c∈l:=fun c hc=>by
 obtain ⟨a,ha,rfl⟩:=List.mem_map.1 hc;have:=US h.p a ha;have hj:a.toNat<l.length:=by omega
 rw [cO,bY hj];exact mL hj
theorem Ft.ok (h:Ft l o):∀ c∈dP l o,cM (lnE l) c:=fun c hc=>(h.okl c (h.mem c hc)).1
theorem Ft.len (h:Ft l o):∀ c∈dP l o,c.len=lnE l:=fun c hc=>(h.okl c (h.mem c hc)).2
theorem Ft.n (h:Ft l o):o.length=l.length∧1≤o.length∧o.length≤4:=by have:=V6 h.p;exact ⟨this.1,by omega,by omega⟩
theorem uS:(dP l o).length=o.length:=jH ..
theorem Ft.at_ (h:Ft l o) {j:Nat} (hj:j<o.length):0≤o.getD j 0∧(o.getD j 0).toNat<l.length∧o.getD j 0<l.length∧(dP l o).getD j default=l.getD (o.getD j 0).toNat default:=by
 have hm:o.getD j 0∈o:=by rw [cO,bY hj];exact mL hj
 have:=US h.p _ hm;refine ⟨this.1,by omega,this.2,?_⟩;unfold dP;rw [cO,rT,cO (l:=o),bY hj];rfl
theorem Ft.ord (h:Ft l o):Na (lnE l) (cks l) (aB o) (dP l o):=by
 refine ⟨by rw [cN,uS],fun j hj=>?_⟩;rw [uS] at hj;obtain ⟨a1,a2,a3,a4⟩:=h.at_ hj;have ea:DM (aB o) j=o.getD j 0:=by
  unfold DM;rw [dL,dW hj]
 refine ⟨BC hj,by rw [ea];exact a1,by rw [ea,gK];exact a3,?_,?_⟩
 ·unfold lS;rw [ea,a4,oZ a2]
 ·rw [a4];refine (h.okl _ ?_).1;rw [cO,bY a2];exact mL a2
theorem Ft.L1 (h:Ft l o):∃ c0 d0 Lr,cks l=Go.Pf.Vc.L1 (lnE l) c0 d0 Lr:=by
 have:=h.d.n0
 cases l with
 | nil=>cases this
 | cons c r=>exact ⟨aB c.cuts,aB c.dens,cks r,rfl⟩
theorem Ft.part (h:Ft l o):∃ q,FinS (lnE l) (dP l o) q∧small q∧∀ K:Int→Int→Prop,lK (cks l) (aB o) K=K q.num q.den:=by obtain ⟨c0,d0,Lr,e1⟩:=h.L1;obtain ⟨n1,n2,n3⟩:=h.n;have ho:=h.ord;rw [e1] at ho;obtain ⟨q,hF,hs,ha⟩:=yGF (ord:=aB o) (fun k=>by have:=uS (l:=l) (o:=o);rw [k] at this;simp at this;omega) (by rw [uS];exact n3) h.len ho;refine ⟨q,hF,hs,fun K=>?_⟩;rw [e1];exact yt _ _ _ _ (fun K k=>⟨_,_,k,ha⟩) K
theorem V7 {x0:List PV→Int→Int→Int→Bool→Prop} {x1:Int→Prop} (d:List Int) (x:Int) (hl:d.length<1000000) (hd:∀ y∈d,x≠y) (k:x0 (aB d) x d.length d.length false):∀ (r i n:Nat),i+r=d.length→r<n→zH x0 x1 n (aB d) x d.length (i:Int)
 | 0,i,n+1,hi,hn=>by unfold zH;rw [cX (by omega),show (i:Int)=d.length by omega];exact k
 | r+1,i,n+1,hi,hn=>by
  unfold zH;have e1:=dO (n:=(i:Int)+1) (by omega) (by omega);have hm:d.getD i 0∈d:=by rw [cO,bY (by omega)];exact mL _
  simp only [lt];rw [cU (by omega),cN,aK (by omega),aK (by omega),dL,eQ (by omega),dW (by omega),sP (hd _ hm),e1,mA];exact V7 d x hl hd k r (i+1) n (by omega) (by omega)
theorem yIh {c:Ck} (hl:c.dens.length<1000000) (hh:GF c.dens) (K:Bool→Prop):wP c.len (aB c.cuts) (aB c.dens) K=K false:=by refine yp _ _ _ _ (fun K k=>?_) K;unfold wP SC Dk Ml Mj Mi;rw [cN];refine ⟨c.dens.length+1,V7 c.dens 0 hl (fun y hy e=>?_) k c.dens.length 0 _ (by omega) (by omega)⟩;obtain ⟨j,hj,rfl⟩:=GX hy;have:=hh j hj;rw [cO,bY hj] at this;have e':(0:Int)=c.dens[j]:=e;have h':(0:Int)<c.dens[j]:=this;omega
theorem Ft.low (h:Ft l o) {i:Nat} (hi:i<l.length):(l.getD i default).cuts.length≤40∧(l.getD i default).dens.length≤40:=by have:=h.d.ok i hi;have l1:=VC.l1 this;have l2:=VC.l2 this;exact ⟨by omega,by omega⟩
theorem V8 {x0:List PV→Int→Int→Bool→Prop} {x1:Int→Prop} (h:Ft l o) (k:x0 (cks l) l.length l.length false):∀ (r i n:Nat),i+r=l.length→r<n→Gr wM wP x0 x1 n (cks l) (l.length:Int) (i:Int)
 | 0,i,n+1,hi,hn=>by unfold Gr;rw [cX (by omega),show (i:Int)=l.length by omega];exact k
 | r+1,i,n+1,hi,hn=>by
  unfold Gr;have:=h.h4;have e1:=dO (n:=(i:Int)+1) (by omega) (by omega);have hl:=h.low (i:=i) (by omega);have hm:l.getD i default∈l:=by rw [cO,bY (by omega)];exact mL _
  simp only [lt];rw [cU (by omega),gK,aK (by omega),aK (by omega),dL,oZ (by omega),eS,rF,wU,Ab,yIh (by omega) (h.hun _ hm),bQ,e1,mA];exact V8 h k r (i+1) n (by omega) (by omega)
theorem Ft.check (h:Ft l o) (K:Int→Prop):jR (cks l) K=K 0:=by
 have h4:=h.h4;refine yq _ _ (fun K k=>?_) K;unfold jR SF;have hf:pA l:=fun i hi=>by have:=h.low hi;exact ⟨by omega,by omega⟩
 rw [yEB hf (by omega),h.d.err (by decide),eP rfl,gK,cX (by omega)];simp only [Go.Pf.jn];exact ⟨l.length+1,V8 h k l.length 0 _ (by omega) (by omega)⟩
theorem Ft.ordered (h:Ft l o) (K:Int→Prop):zP (cks l) (aB o) K=K 0:=by refine yr _ _ _ (fun K k=>⟨0,k,fun e he=>?_⟩) K;have hp:=h.p;rw [← gK] at hp;exact yAe he hp fun K k=>by rw [h.check];exact k
theorem Ft.Part (h:Ft l o):∃ q,FinS (lnE l) (dP l o) q∧small q∧∀ K:Int→Int→Int→Prop,ybG (cks l) (aB o) K=K q.num q.den 0:=by obtain ⟨q,h1,h2,h3⟩:=h.part;refine ⟨q,h1,h2,fun K=>?_⟩;unfold ybG Jh;rw [h.ordered,eP rfl,h3]
def mT (l:List Rat):List PV:=l.map fun q=>.agg [.int .i64 q.num,.int .i64 q.den]
theorem yIi (l:List Rat):(mT l).length=l.length:=jH ..
def endR (e:Except Int (List Rat)) (K:List PV→Int→Prop):Prop:=match e with | .ok ys=>K (mT ys) 0 | .error e=>K [] e
end
section
variable {l:List Ck} {o:List Int}
theorem Ft.ckC0 (h:Ft l o) {i:Nat} (hi:i<l.length):kB (l.getD i default).len (l.getD i default).cuts (l.getD i default).dens=0:=(VC.ck (h.d.ok i hi))
theorem JG (h:Ft l o) {i:Nat} (hi:i<l.length) (K:Int→Int→Prop):uF (l.getD i default).len (aB (l.getD i default).cuts) (aB (l.getD i default).dens) K=K (totC (l.getD i default).cuts (l.getD i default).dens) 0:=by have hl:=h.low hi;rw [yEA (by omega) (by omega),VX (h.ckC0 hi)]
theorem V9 (h:Ft l o) {i:Nat} (hi:i<l.length) {p v:Rat} (hp:small p) (p0:0≤p) (p1:p≤(lnE l:Rat)) (hv:small v) (v0:0≤v) (K:Int→Int→Int→Prop) :
  wL (l.getD i default).len (aB (l.getD i default).cuts) (aB (l.getD i default).dens) p.num p.den v.num v.den K=exK (mrkC (l.getD i default).cuts (l.getD i default).dens p v) K:=by
 have hl:=h.low hi;have e:=h.d.len i hi;rw [yGi (by omega) (by omega) hp.i1 hp.i2 hv.i1 hv.i2];unfold DD;have p1':p≤((l.getD i default).len:Rat):=by rw [e];exact p1
 rw [VX (h.ckC0 hi),VX ⟨yM9 hp p0 p1',hv.rv,Rat.num_nonneg.2 v0⟩,MJ,MJ]
theorem W0 {c:Ck} {p v q:Rat} (hp:small p) (h:mrkC c.cuts c.dens p v=.ok q):small q:=by
 unfold mrkC at h;split at h
 ·cases h;exact hp
 ·have key:∀ (r i:Nat) (p v:Rat),jB c.cuts c.dens r i p v=.ok q→small q:=by
   intro r;induction r with
   | zero=>intro i p v h;cases h
   | succ r ih=>
    intro i p v h;have fe:∀ {q0:Rat} {k:Rat→Except Int Rat},mR q0 k=.ok q→small q0∧k q0=.ok q:=by
     intro q0 k hf;unfold mR at hf;split at hf
     ·rename_i hs;exact ⟨hs,hf⟩
     ·cases hf
    unfold jB at h;split at h
    ·exact ih _ _ _ h
    ·split at h
     ·exact ih _ _ _ h
     ·obtain ⟨_,h⟩:=fe h;obtain ⟨_,h⟩:=fe h;split at h
      ·obtain ⟨_,h⟩:=fe h;exact ih _ _ _ h
      ·obtain ⟨_,h⟩:=fe h;obtain ⟨hs,h⟩:=fe h
       cases h;exact hs
  exact key _ _ _ _ h
theorem W5 (h:Ft l o) {q:Rat} (hq:small q) (q0:0≤q) (K:List PV→Int→Prop) :
  ∀ (r i n:Nat) (p:Rat) (ys:List Rat),i+r=o.length→r<n→ys.length=i→i≤4→small p→0≤p→p≤(lnE l:Rat) →
   (match endM q ((dP l o).drop i) p with | .ok zs=>K (mT (ys++zs)) 0 | .error e=>K [] e) →
   Gu zP nD lZ uF nE wL
    (fun a _ _ _ _ _ _ _ _ _=>(asr (decide ((length a)=(length a))) (asr (decide ((0+(length a))≤(length a))) (K (take (length a) a) (0:Int)))))
    (fun _ b=>(K ([]:List PV) b)) n (mT ys) (cks l) q.num q.den p.num p.den (aB o) o.length (i:Int)
 | 0,i,n+1,p,ys,hi,hn,hy,h4,hp,p0,p1,k=>by unfold Gu;rw [cX (by omega),aK rfl,aK (by omega),xJ];rw [oD (by rw [uS];omega)] at k;have k:K (mT (ys++[])) 0:=k;rw [Eh] at k;exact k
 | r+1,i,n+1,p,ys,hi,hn,hy,h4,hp,p0,p1,k=>by
  unfold Gu;have n3:=h.n;have e1:=dO (n:=(i:Int)+1) (by omega) (by omega);obtain ⟨a1,a2,a3,a4⟩:=h.at_ (j:=i) (by omega);have hT:=TO (h.d.ok (o.getD i 0).toNat a2);have sT:small (bM (l.getD (o.getD i 0).toNat default)):=BD (by omega);have hc:=(h.okl (l.getD (o.getD i 0).toNat default) (by rw [cO,bY a2];exact mL a2)).1;rw [sQ default (show i<(dP l o).length by rw [uS];omega),a4] at k;unfold endM at k;dsimp only [Go.Pf.lt,Go.Pf.jn];rw [cU (by omega),cN,aK (by omega),aK (by omega),dL,eQ (by omega),dW (by omega),gK,aK a1,aK a3,oZ a2,eS,rF,wU,Ab,JG h a2,xA];refine (Jq hq sT _).mpr ?_;rw [DC]
  by_cases s1:small (q*bM (l.getD (o.getD i 0).toNat default))
  ·rw [VX s1,nH rfl,aK a1,aK a3,eS];rw [VX s1] at k;refine (V9 h a2 hp p0 p1 s1 (vC q0 (eY (rI hc))) _).mpr ?_
   cases hm:mrkC (l.getD (o.getD i 0).toNat default).cuts (l.getD (o.getD i 0).toNat default).dens p (q*bM (l.getD (o.getD i 0).toNat default)) with
   | error e =>rw [hm] at k;have k:K [] e:=k;have he:=U9 hm;rw [O1,gQ (by omega)];exact k
   | ok y=>
    rw [hm] at k;obtain ⟨m1,m2,m3,_⟩:=P8 hc.1 p0 p1 (vC q0 (eY (rI hc))) hm;rw [O0,eP rfl,aK rfl,aK (by omega),yIi,gD (by simp),aK rfl,aK (by unfold room;omega),e1,mA,gD (by simp)];have er:mT ys++[.agg [.int .i64 y.num,.int .i64 y.den]]=mT (ys++[y]):=by unfold mT;rw [rV];rfl
    rw [er];refine W5 h hq q0 K r (i+1) n y (ys++[y]) (by omega) (by omega) (by simp [hy]) (by omega) (W0 hp hm) (gE p0 m2) m3 ?_;have k:(match (match endM q ((dP l o).drop (i+1)) y with | .ok l=>Except.ok (y::l) | .error e=>.error e) with | .ok zs=>K (mT (ys++zs)) 0 | .error e=>K [] e):=k
    cases hz:endM q ((dP l o).drop (i+1)) y with
    | ok zs =>rw [hz] at k;show K (mT (ys++[y]++zs)) 0;rw [sX];exact k
    | error e=>rw [hz] at k;exact k
  ·rw [VY s1,sP (by decide),gQ (by decide)];rw [VY s1] at k;exact k
theorem Ft.ends (h:Ft l o) {q:Rat} (hq:small q) (q0:0≤q) (K:List PV→Int→Prop):ybV (cks l) (aB o) q.num q.den K=endR (endM q (dP l o) 0) K:=by
 have main:∀ K,endR (endM q (dP l o) 0) K→ybV (cks l) (aB o) q.num q.den K:=fun K k=>by
  have n3:=h.n;unfold ybV SR;rw [h.ordered,eP rfl];dsimp only [Go.Pf.jn];rw [TF hq.i1 hq.i2,show kU q.num q.den=0 from VX hq.rv,eP rfl,Os (by have:=Rat.num_nonneg.2 q0;omega),bQ,xA,cN];refine ⟨o.length+1,?_⟩;have hi:0<o.length:=by omega
  unfold SQ;obtain ⟨a1,a2,a3,a4⟩:=h.at_ (j:=0) hi;have hT:=TO (h.d.ok (o.getD 0 0).toNat a2);have sT:small (bM (l.getD (o.getD 0 0).toNat default)):=BD (by omega);have hc:=(h.okl (l.getD (o.getD 0 0).toNat default) (by rw [cO,bY a2];exact mL a2)).1;have hL:(0:Rat)≤(lnE l:Rat):=by have:=(wV hc.1).1;grind
  have ed:dP l o=l.getD (o.getD 0 0).toNat default::(dP l o).drop 1:=by have:=sQ default (show 0<(dP l o).length by rw [uS];omega);rw [pK,a4] at this;exact this
  rw [ed] at k;unfold endM at k;dsimp only [Go.Pf.lt,Go.Pf.jn];rw [cU (by omega),cN,aK (by omega),aK (by omega),show ((0:Int)).toNat=0 from rfl,eQ hi,dW hi,gK,aK a1,aK a3,oZ a2,eS,rF,wU,Ab,JG h a2,xA];refine (Jq hq sT _).mpr ?_;rw [DC]
  by_cases s1:small (q*bM (l.getD (o.getD 0 0).toNat default))
  ·rw [VX s1,nH rfl,aK a1,aK a3,eS];rw [VX s1] at k;refine (V9 h a2 (p:=0) (by decide +kernel) dT hL s1 (vC q0 (eY (rI hc))) _).mpr ?_
   cases hm:mrkC (l.getD (o.getD 0 0).toNat default).cuts (l.getD (o.getD 0 0).toNat default).dens 0 (q*bM (l.getD (o.getD 0 0).toNat default)) with
   | error e =>rw [hm] at k;have k:K [] e:=k;have he:=U9 hm;rw [O1,gQ (by omega)];exact k
   | ok y=>
    rw [hm] at k;obtain ⟨m1,m2,m3,_⟩:=P8 hc.1 dT hL (vC q0 (eY (rI hc))) hm;rw [O0,eP rfl,show i64.wrap ((0:Int)+1)=((1:Nat):Int) from by decide +kernel,gD (by simp)];refine W5 h hq q0 K (o.length-1) 1 o.length y [y] (by omega) (by omega) rfl (by decide) (W0 (by decide +kernel) hm) m2 m3 ?_;have k:endR (match endM q ((dP l o).drop 1) y with | .ok l=>Except.ok (y::l) | .error e=>.error e) K:=k
    cases hz:endM q ((dP l o).drop 1) y with
    | ok zs=>rw [hz] at k;exact k
    | error e=>rw [hz] at k;exact k
  ·rw [VY s1,sP (by decide),gQ (by decide)];rw [VY s1] at k;exact k
 cases e:endM q (dP l o) 0 with
 | ok ys=>rw [e] at main;exact E9 _ _ _ _ (mT ys) 0 main K
 | error c=>rw [e] at main;exact E9 _ _ _ _ [] c main K
end
theorem W6 (w:List PV→List PV→(Int→Int→Prop)→Prop) (a b:List PV) (K:PV→Prop):Mv.pw w [.data a,.data b] K=w a b (fun r0 r1=>K (.agg [.int .i64 r0,.int .i64 r1])):=by kernel_rfl
theorem yNe (w:iY) (a:List PV) (K:PV→Prop):lY.pw w [.data a] K=w a (fun r0=>K (.int .i64 r0)):=by kernel_rfl
def jU:List Ck:=[⟨4,[0,4],[1]⟩,⟨4,[0,1,4],[3,1]⟩]
theorem rO:Ft jU [0,1]:=UT (by decide +kernel)
theorem Aj:Ft jU [1,0]:=UT (by decide +kernel)
def DP:Rat:=mkRat 2 5
def DQ:Rat:=mkRat 3 5
def uT:List Rat:=[mkRat 8 5,4]
theorem yNf:FinS (lnE jU) (dP jU [0,1]) DP:=⟨by decide +kernel,uT,⟨mkRat 8 5,[4],rfl,by decide +kernel,by decide +kernel,by decide +kernel,⟨4,[],rfl,by decide +kernel,by decide +kernel,by decide +kernel,rfl⟩⟩,by decide +kernel⟩
theorem yNg:FinS (lnE jU) (dP jU [1,0]) DQ:=⟨by decide +kernel,uT,⟨mkRat 8 5,[4],rfl,by decide +kernel,by decide +kernel,by decide +kernel,⟨4,[],rfl,by decide +kernel,by decide +kernel,by decide +kernel,rfl⟩⟩,by decide +kernel⟩
theorem Nd {l:List Ck} {o:List Int} (h:Ft l o) {q r:Rat} (hq:FinS (lnE l) (dP l o) q) (hr:FinS (lnE l) (dP l o) r):q=r:=by
 obtain ⟨n1,n2,n3⟩:=h.n;have hne:dP l o≠[]:=fun k=>by have:=uS (l:=l) (o:=o);rw [k] at this;simp at this;omega
 obtain ⟨c,hc⟩:=List.exists_mem_of_ne_nil _ hne;have:=(wV (h.ok c hc).1).1;exact FinS.uniq h.ok (by grind) hq hr
theorem W7 (K:Int→Int→Prop):lK (cks jU) (aB [0,1]) K=K 2 5:=by obtain ⟨q,h1,_,h3⟩:=rO.part;rw [h3,Nd rO h1 yNf];show K DP.num DP.den=K 2 5;rw [show DP.num=2 from by decide +kernel,show ((DP.den:Nat):Int)=5 from by decide +kernel]
theorem W8 (K:Int→Int→Prop):lK (cks jU) (aB [1,0]) K=K 3 5:=by obtain ⟨q,h1,_,h3⟩:=Aj.part;rw [h3,Nd Aj h1 yNg];show K DQ.num DQ.den=K 3 5;rw [show DQ.num=3 from by decide +kernel,show ((DQ.den:Nat):Int)=5 from by decide +kernel]
def Ak:vT:=[(Bb,[.data (cks jU)],.int .i64 0),(sH,[.data (cks jU),.data (aB [0,1])],aX 2 5),(sH,[.data (cks jU),.data (aB [1,0])],aX 3 5)]
theorem yIj {e:Es} (he:EG e):∀ x∈Ak,(E e).qui x.1=true∧qP (E e) x.1 x.2.1 x.2.2:=by
 intro x hx;simp only [Ak,qAp,List.not_mem_nil,or_false] at hx;rcases hx with rfl | rfl | rfl
 ·obtain ⟨r,hr,ha⟩:=Mt e he [.data (cks jU)] (fun r=>r=.int .i64 0) (by rw [yNe,rO.check]);subst hr;exact ⟨by kernel_rfl,ha⟩
 ·obtain ⟨r,hr,ha⟩:=Jg e he [.data (cks jU),.data (aB [0,1])] (fun r=>r=aX 2 5) (by rw [W6,W7];rfl);subst hr;exact ⟨by kernel_rfl,ha⟩
 ·obtain ⟨r,hr,ha⟩:=Jg e he [.data (cks jU),.data (aB [1,0])] (fun r=>r=aX 3 5) (by rw [W6,W8];rfl);subst hr;exact ⟨by kernel_rfl,ha⟩
theorem yGJ:yaO (K0 Ak) (yak (K0 Ak) 300) pV [.data (cks jU)]=some (.tup [.data (aB [1,0]),aX 3 5,.int .i64 0]):=by kernel_rfl
theorem yLo (K:List PV→Int→Int→Int→Prop):zV (cks jU) K=K (aB [1,0]) 3 5 0:=
 F4 _ _ _ _ _ (fun K k=>⟨_,_,_,_,k,fun e he=>me (V5 he) (yIj he) (m:=300) (by rw [JE];exact yGJ)⟩) K
theorem yLp:endM DP (dP jU [0,1]) 0=.ok uT:=by kernel_rfl
theorem yLq:endM DQ (dP jU [1,0]) 0=.ok uT:=by kernel_rfl
theorem yLr:endM (mkRat 1 2) (dP jU [0,1]) 0=.error 6:=by kernel_rfl
theorem yLs (K:Bool→Prop):ycM (mT uT) (mT uT) K=K true:=by
 refine zv _ _ _ (fun K k=>?_) K;unfold ycM Th;refine (eP (show ((mT uT).length:Int)=((mT uT).length:Int) from rfl)).mpr ?_;refine ⟨4,?_⟩;have:∀ P Q:Prop,P=Q→Q→P:=fun _ _ h q=>h ▸ q
 exact this _ (K true) (by kernel_rfl) k
theorem yLt (K:Bool→Prop):Gq (aB [1,0]) [.int .i64 1,.int .i64 0] K=K true:=by
 refine xk _ _ _ (fun K k=>?_) K;unfold Gq SA;refine (eP (show ((aB [1,0]).length:Int)=(([.int .i64 1,.int .i64 0]:List PV).length:Int) from rfl)).mpr ?_;refine ⟨4,?_⟩;have:∀ P Q:Prop,P=Q→Q→P:=fun _ _ h q=>h ▸ q
 exact this _ (K true) (by kernel_rfl) k
theorem W9 (K:Bool→Prop):GA K=K true:=by
 unfold GA Tn;have t:∀ K,yrx K=K (cks jU):=fun _=>rfl
 have of4:∀ (n:Int) K,Tm n K=K n 1:=fun _ _=>rfl
 have P1:∀ K,ybG (cks jU) [.int .i64 0,.int .i64 1] K=K 2 5 0:=fun K=>by
  unfold ybG Jh;refine (rO.ordered _).trans ?_;rw [eP rfl];exact W7 _
 have P2:∀ K,ybG (cks jU) [.int .i64 1,.int .i64 0] K=K 3 5 0:=fun K=>by
  unfold ybG Jh;refine (Aj.ordered _).trans ?_;rw [eP rfl];exact W8 _
 have E1:∀ K,ybV (cks jU) [.int .i64 0,.int .i64 1] 2 5 K=K (mT uT) 0:=fun K=>by
  refine (rO.ends (q:=DP) (by decide +kernel) (by decide +kernel) K).trans ?_;rw [yLp];rfl
 have E2:∀ K,ybV (cks jU) [.int .i64 1,.int .i64 0] 3 5 K=K (mT uT) 0:=fun K=>by
  refine (Aj.ends (q:=DQ) (by decide +kernel) (by decide +kernel) K).trans ?_;rw [yLq];rfl
 have E3:∀ K,ybV (cks jU) [.int .i64 0,.int .i64 1] 1 2 K=K [] 6:=fun K=>by
  refine (rO.ends (q:=mkRat 1 2) (by decide +kernel) (by decide +kernel) K).trans ?_;rw [yLr];rfl
 have S1:∀ K,ycM (mT uT) [.agg [.int .i64 8,.int .i64 5],.agg [.int .i64 4,.int .i64 1]] K=K true:=yLs;dsimp only [Go.Pf.jn];have b2:(((2:Int)==2)&&(((5:Int)==5)&&true))=true:=rfl;have b3:(((3:Int)==3)&&(((5:Int)==5)&&true))=true:=rfl;rw [t,P1,t,E1,t,P2,t,E2,t,yLo,t,E3,of4,nH rfl,b2,bL,nH rfl,S1,bL,nH rfl,b3,bL,nH rfl,S1,bL,nH rfl,bL,yLt,bL];rfl
theorem yGK {l:List Ck} {o:List Int} (hl:l.length≤9223372036854775807) (ho:o.length≤9223372036854775807) (K:Bool→Prop):Bz (cks l) (aB o) K=K (JD l o):=by
 refine yzX _ _ _ (fun K k=>?_) K;unfold Bz Tj;dsimp only [Go.Pf.jn];rw [yB0 hl];unfold JD at k
 cases hg:GM l with
 | true=>rw [hg] at k;exact k
 | false=>
  rw [hg] at k;obtain ⟨hw,hl10⟩:=yAc hg;have hl:l.length≤1000000:=by omega
  rw [show (!false)=true from rfl,bL,cN];rw [show (!false)=true from rfl,pM] at k
  by_cases c:o.length≤20
  ·rw [cU (by omega)];rw [Eo c,pM] at k;unfold Tf Te;rw [V3 hl hw,V3 hl hw]
   by_cases c2:GN l=0
   ·rw [eP c2,gK];rw [Eo c2,pM] at k;refine yB3 hl _ ?_
    cases hb:rM l.length o with
    | true=>rw [hb] at k;exact k
    | false=>rw [hb] at k;exact k
   ·rw [gQ c2];show K (GN l==0);rw [MH c2];rw [Os c2,oE] at k;exact k
  ·rw [cX (by omega)];rw [Os c,oE] at k;exact k
theorem yIk {as:List PV} (h:ypr [.s BE,.s (.i .i64)] as):∃ (l:List Ck) (xs:List Int),as=[.data (cks l),.data (aB xs)]∧l.length≤9223372036854775807∧xs.length≤9223372036854775807:=by simp only [ypr] at h;obtain ⟨x,r,rfl,x1,x2,y,r2,rfl,y1,y2,rfl⟩:=h;obtain ⟨l,e1,hl,hi⟩:=yNa x2;simp only [HasF] at y2;obtain ⟨rows,hr,hn,hx⟩:=y2;obtain ⟨xs,rfl,_⟩:=ML rows (fun w hw=>⟨(hx w hw).1,by simp only [HasF];exact (hx w hw).2⟩);rw [cN] at hn;rw [P4 x1 e1,P4 y1 hr];exact ⟨l,xs,rfl,hl,hn⟩
def X2:List AO→Nat→List An
 | [],_=>[]
 | o::r,i=>(match o.op with | .app _ _ _ _ _=>[⟨i,.raw,9⟩] | _=>[])++X2 r (i+1)
def iO:TC→TC
 | .ops l _ ps fg=>.ops l (X2 l 0) ps fg
 | .seq a b=>.seq (iO a) (iO b)
 | .cond c a b=>.cond c (iO a) (iO b)
 | .block i b=>.block i (iO b)
 | .loop i b=>.loop i (iO b)
 | c=>c
def GR (t:TFn):TFn:=⟨t.nparams,t.results,iO t.body⟩
def DR:List PV→Bool
 | []=>true
 | .int .i64 _::r=>DR r
 | _=>false
def rP (x:Int):List PV→Bool
 | []=>false
 | .int .i64 y::r=>(x==y)||rP x r
 | _=>false
def cnS (as:List PV) (K:PV→Prop):Prop:=match as with
 | [.data l,.int .i64 x]=>asr (DR l&&Nat.blt l.length 1000) (K (.bool (rP x l)))
 | _=>False
def JH:Nat→Nat→List Int→List Nat→List (List Int)
 | 0,_,_,_=>[]
 | d+1,n,p,l=>l.flatMap fun (a:Nat)=>bif p.contains (a:Int) then [] else (p++[(a:Int)])::JH d n (p++[(a:Int)]) l
def dZ (n:Nat):List (List Int):=JH n n [] (List.range n)
def bT (fi:List PV→Nat) (f0 f1 g0 g1:List PV→Int) (vs:List PV) (H:Hp):Hp:=match vs with
 | [.own id _ len _ _]=>(match H[id]? with
  | some b=>((H.set 1 ⟨false,false,1,[.own (fi b.rows) 0 len len none]⟩).set 2 ⟨false,false,2,[aX (f0 b.rows) (f1 b.rows)]⟩)++[⟨false,false,2,[aX (g0 b.rows) (g1 b.rows)]⟩]
  | none=>H)
 | _=>H
def uU (L:List PV) (n:Nat):Hp:=[⟨false,false,1,[.data L]⟩,⟨false,false,1,[.nils]⟩,⟨false,false,2,[aX 0 0]⟩,⟨false,false,1,[.int .i64 n]⟩]
def nZ (L:List PV) (n:Nat):Hp:=uU L n++[⟨false,false,1,[.fn (.yield 0) [] []]⟩,⟨false,false,1,[.fn (.func CA) [] [.ptr 3 1 0 0,.ptr 4 1 0 0,.ptr 5 1 0 0]]⟩]
section
variable (e:Es) (aC:iY) (aP:(List PV→List PV→(Int→Int→Prop)→Prop)) (aL:fM)
def Nf:SE:=⟨E e,yiW [(Bb,lY.pw aC),(sH,Mv.pw aP),(Cx,sK.pw aL),(AZ,cnS)],yfD [(OT,GR Qt)],fun _ _ _ _ _=>False,fun _=>none⟩
def X3 (cK:CK):LP:=fun id _ F H Q=>bif Nat.beq id 61763900 then UE (E e) cK (fun _ _ _ _ _=>False) (iO Qr) 6 F H Q else False
def inlG:Nat→Option TFn:=yfD [(CA,GR Qs)]
variable (fi:List PV→Nat) (f0 f1 g0 g1:List PV→Int) (YY:List PV→Hp→Prop)
def Al (n:Nat):List (List Int)→Hp→(Hp→Prop)→Prop
 | [],H,K=>K H
 | p::r,H,K=>bif Nat.beq p.length n then YY [.own H.length 0 n n none] (H++[⟨false,true,1,aB p⟩])∧Al n r (bT fi f0 f1 g0 g1 [.own H.length 0 n n none] (H++[⟨false,true,1,aB p⟩])) K else Al n r (H++[⟨false,true,1,aB p⟩]) K
def wB (L:List PV) (n:Nat) (Q:Ex→aF→Hp→Prop):Prop:=WC (E e) (EZ (Nf e aC aP aL) (YX YY (bT fi f0 f1 g0 g1)) inlG (X3 e) 4 8) (fun _ _ _ _ _=>False) [] cC (GR FN).body (gT 0 [.fn (.yield 0) [] [],.ptr 3 1 0 0]) (uU L n) Q
def xD (n:Nat):List (List Int)→Hp→List (List PV×Hp)
 | [],_=>[]
 | p::r,H=>bif Nat.beq p.length n then ([.own H.length 0 n n none],H++[⟨false,true,1,aB p⟩])::xD n r (bT fi f0 f1 g0 g1 [.own H.length 0 n n none] (H++[⟨false,true,1,aB p⟩])) else xD n r (H++[⟨false,true,1,aB p⟩])
def Am (n:Nat):List (List Int)→Hp→Hp
 | [],H=>H
 | p::r,H=>bif Nat.beq p.length n then Am n r (bT fi f0 f1 g0 g1 [.own H.length 0 n n none] (H++[⟨false,true,1,aB p⟩])) else Am n r (H++[⟨false,true,1,aB p⟩])
def aA (L:List PV) (n k:Nat):List PV×Hp:=(xD fi f0 f1 g0 g1 n (dZ n) (nZ L n)).getD k ([],[])
def aD (n k:Nat):List PV:=aB (((dZ n).filter fun p=>Nat.beq p.length n).getD k [])
def cG (b:Bool) (vs:List PV) (H:Hp) (p0 p1:Int):Hp:=match vs with
 | [.own id _ len _ _]=>(match H[id]? with
  | some _=>bif b then ((H++[⟨false,false,2,[aX p0 p1]⟩]:Hp).set 1 ⟨false,false,1,[.own id 0 len len none]⟩).set 2 ⟨false,false,2,[aX p0 p1]⟩ else (H++[⟨false,false,2,[aX p0 p1]⟩]:Hp)
  | none=>H)
 | _=>H
def dB:aF:=[(1,.v (.ptr 0 1 0 0)),(2,.v (.ptr 1 1 0 0)),(3,.v (.ptr 2 1 0 0)),(4,.v (.int .i64 0)),(16,.v (.fn (.func Io) [] [.ptr 3 1 0 0]))]
def wY (vs:List PV) (H:Hp) (K:Option Nat→Hp→Prop):Prop:=Ow (E e) (jO (Nf e aC aP aL) 4) (fun _ _ _ _ _=>False) dB [17] (iO FO) (iO FQ) vs H K
def fR (L:List PV) (n k:Nat) (vs:List PV) (H:Hp) (K:Option Nat→Hp→Prop):Prop:=aP L (aD n k) fun p0 p1=>match k with
 | 0=>K none (cG true vs H p0 p1)
 | k+1=>aL (f0 (aD n k)) (f1 (aD n k)) p0 p1 fun b=>aG b (K none (cG true vs H p0 p1)) (K none (cG false vs H p0 p1))
theorem UU (c0:PV) (Q:Ex→aF→Hp→Prop):wB e aC aP aL fi f0 f1 g0 g1 YY [c0] 1 Q=Al fi f0 f1 g0 g1 YY 1 (dZ 1) (nZ [c0] 1) (fun H=>Q .norm [] H):=by kernel_rfl
theorem UV (c0 c1:PV) (Q:Ex→aF→Hp→Prop):wB e aC aP aL fi f0 f1 g0 g1 YY [c0,c1] 2 Q=Al fi f0 f1 g0 g1 YY 2 (dZ 2) (nZ [c0,c1] 2) (fun H=>Q .norm [] H):=by kernel_rfl
theorem UW (c0 c1 c2:PV) (Q:Ex→aF→Hp→Prop):wB e aC aP aL fi f0 f1 g0 g1 YY [c0,c1,c2] 3 Q=Al fi f0 f1 g0 g1 YY 3 (dZ 3) (nZ [c0,c1,c2] 3) (fun H=>Q .norm [] H):=by kernel_rfl
theorem UX (c0 c1 c2 c3:PV) (Q:Ex→aF→Hp→Prop):wB e aC aP aL fi f0 f1 g0 g1 YY [c0,c1,c2,c3] 4 Q=Al fi f0 f1 g0 g1 YY 4 (dZ 4) (nZ [c0,c1,c2,c3] 4) (fun H=>Q .norm [] H):=by kernel_rfl
end
def aZ (i:Nat) (a b c d:Int) (vs:List PV) (H:Hp):Hp:=match vs with
 | [.own _ _ len _ _]=>((H.set 1 ⟨false,false,1,[.own i 0 len len none]⟩).set 2 ⟨false,false,2,[aX a b]⟩)++[⟨false,false,2,[aX c d]⟩]
 | _=>H
def DT (n:Nat):List (List Int)→Nat→List Nat
 | [],_=>[]
 | p::r,m=>bif Nat.beq p.length n then m::DT n r (m+2) else DT n r (m+1)
def aT (n k:Nat):Nat:=(DT n (dZ n) 6).getD k 0
section
variable (e:Es) (aC:iY) (aP:(List PV→List PV→(Int→Int→Prop)→Prop)) (aL:fM)
variable (fi:List PV→Nat) (f0 f1 g0 g1:List PV→Int) (K:Option Nat→Hp→Prop) (p0 p1:Int)
theorem yLu (c0:PV):wY e aC aP aL (aA fi f0 f1 g0 g1 [c0] 1 0).1 (aA fi f0 f1 g0 g1 [c0] 1 0).2 K=fR aP aL f0 f1 [c0] 1 0 (aA fi f0 f1 g0 g1 [c0] 1 0).1 (aA fi f0 f1 g0 g1 [c0] 1 0).2 K:=by kernel_rfl
theorem X4 (c0:PV):bT fi f0 f1 g0 g1 (aA fi f0 f1 g0 g1 [c0] 1 0).1 (aA fi f0 f1 g0 g1 [c0] 1 0).2=aZ (fi (aD 1 0)) (f0 (aD 1 0)) (f1 (aD 1 0)) (g0 (aD 1 0)) (g1 (aD 1 0)) (aA fi f0 f1 g0 g1 [c0] 1 0).1 (aA fi f0 f1 g0 g1 [c0] 1 0).2∧cG true (aA fi f0 f1 g0 g1 [c0] 1 0).1 (aA fi f0 f1 g0 g1 [c0] 1 0).2 p0 p1=aZ (aT 1 0) p0 p1 p0 p1 (aA fi f0 f1 g0 g1 [c0] 1 0).1 (aA fi f0 f1 g0 g1 [c0] 1 0).2:=⟨by kernel_rfl,by kernel_rfl⟩
theorem yLv (c0 c1:PV):wY e aC aP aL (aA fi f0 f1 g0 g1 [c0,c1] 2 0).1 (aA fi f0 f1 g0 g1 [c0,c1] 2 0).2 K=fR aP aL f0 f1 [c0,c1] 2 0 (aA fi f0 f1 g0 g1 [c0,c1] 2 0).1 (aA fi f0 f1 g0 g1 [c0,c1] 2 0).2 K:=by kernel_rfl
theorem X5 (c0 c1:PV):bT fi f0 f1 g0 g1 (aA fi f0 f1 g0 g1 [c0,c1] 2 0).1 (aA fi f0 f1 g0 g1 [c0,c1] 2 0).2=aZ (fi (aD 2 0)) (f0 (aD 2 0)) (f1 (aD 2 0)) (g0 (aD 2 0)) (g1 (aD 2 0)) (aA fi f0 f1 g0 g1 [c0,c1] 2 0).1 (aA fi f0 f1 g0 g1 [c0,c1] 2 0).2∧cG true (aA fi f0 f1 g0 g1 [c0,c1] 2 0).1 (aA fi f0 f1 g0 g1 [c0,c1] 2 0).2 p0 p1=aZ (aT 2 0) p0 p1 p0 p1 (aA fi f0 f1 g0 g1 [c0,c1] 2 0).1 (aA fi f0 f1 g0 g1 [c0,c1] 2 0).2:=⟨by kernel_rfl,by kernel_rfl⟩
theorem yLw (c0 c1:PV):wY e aC aP aL (aA fi f0 f1 g0 g1 [c0,c1] 2 1).1 (aA fi f0 f1 g0 g1 [c0,c1] 2 1).2 K=fR aP aL f0 f1 [c0,c1] 2 1 (aA fi f0 f1 g0 g1 [c0,c1] 2 1).1 (aA fi f0 f1 g0 g1 [c0,c1] 2 1).2 K:=by kernel_rfl
theorem UY (c0 c1:PV):bT fi f0 f1 g0 g1 (aA fi f0 f1 g0 g1 [c0,c1] 2 1).1 (aA fi f0 f1 g0 g1 [c0,c1] 2 1).2=aZ (fi (aD 2 1)) (f0 (aD 2 1)) (f1 (aD 2 1)) (g0 (aD 2 1)) (g1 (aD 2 1)) (aA fi f0 f1 g0 g1 [c0,c1] 2 1).1 (aA fi f0 f1 g0 g1 [c0,c1] 2 1).2∧cG true (aA fi f0 f1 g0 g1 [c0,c1] 2 1).1 (aA fi f0 f1 g0 g1 [c0,c1] 2 1).2 p0 p1=aZ (aT 2 1) p0 p1 p0 p1 (aA fi f0 f1 g0 g1 [c0,c1] 2 1).1 (aA fi f0 f1 g0 g1 [c0,c1] 2 1).2∧cG false (aA fi f0 f1 g0 g1 [c0,c1] 2 1).1 (aA fi f0 f1 g0 g1 [c0,c1] 2 1).2 p0 p1=aZ (fi (aD 2 0)) (f0 (aD 2 0)) (f1 (aD 2 0)) p0 p1 (aA fi f0 f1 g0 g1 [c0,c1] 2 1).1 (aA fi f0 f1 g0 g1 [c0,c1] 2 1).2:=⟨by kernel_rfl,by kernel_rfl,by kernel_rfl⟩
theorem yLx (c0 c1 c2:PV):wY e aC aP aL (aA fi f0 f1 g0 g1 [c0,c1,c2] 3 0).1 (aA fi f0 f1 g0 g1 [c0,c1,c2] 3 0).2 K=fR aP aL f0 f1 [c0,c1,c2] 3 0 (aA fi f0 f1 g0 g1 [c0,c1,c2] 3 0).1 (aA fi f0 f1 g0 g1 [c0,c1,c2] 3 0).2 K:=by kernel_rfl
theorem X6 (c0 c1 c2:PV):bT fi f0 f1 g0 g1 (aA fi f0 f1 g0 g1 [c0,c1,c2] 3 0).1 (aA fi f0 f1 g0 g1 [c0,c1,c2] 3 0).2=aZ (fi (aD 3 0)) (f0 (aD 3 0)) (f1 (aD 3 0)) (g0 (aD 3 0)) (g1 (aD 3 0)) (aA fi f0 f1 g0 g1 [c0,c1,c2] 3 0).1 (aA fi f0 f1 g0 g1 [c0,c1,c2] 3 0).2∧cG true (aA fi f0 f1 g0 g1 [c0,c1,c2] 3 0).1 (aA fi f0 f1 g0 g1 [c0,c1,c2] 3 0).2 p0 p1=aZ (aT 3 0) p0 p1 p0 p1 (aA fi f0 f1 g0 g1 [c0,c1,c2] 3 0).1 (aA fi f0 f1 g0 g1 [c0,c1,c2] 3 0).2:=⟨by kernel_rfl,by kernel_rfl⟩
theorem yLy (c0 c1 c2:PV):wY e aC aP aL (aA fi f0 f1 g0 g1 [c0,c1,c2] 3 1).1 (aA fi f0 f1 g0 g1 [c0,c1,c2] 3 1).2 K=fR aP aL f0 f1 [c0,c1,c2] 3 1 (aA fi f0 f1 g0 g1 [c0,c1,c2] 3 1).1 (aA fi f0 f1 g0 g1 [c0,c1,c2] 3 1).2 K:=by kernel_rfl
theorem UZ (c0 c1 c2:PV):bT fi f0 f1 g0 g1 (aA fi f0 f1 g0 g1 [c0,c1,c2] 3 1).1 (aA fi f0 f1 g0 g1 [c0,c1,c2] 3 1).2=aZ (fi (aD 3 1)) (f0 (aD 3 1)) (f1 (aD 3 1)) (g0 (aD 3 1)) (g1 (aD 3 1)) (aA fi f0 f1 g0 g1 [c0,c1,c2] 3 1).1 (aA fi f0 f1 g0 g1 [c0,c1,c2] 3 1).2∧cG true (aA fi f0 f1 g0 g1 [c0,c1,c2] 3 1).1 (aA fi f0 f1 g0 g1 [c0,c1,c2] 3 1).2 p0 p1=aZ (aT 3 1) p0 p1 p0 p1 (aA fi f0 f1 g0 g1 [c0,c1,c2] 3 1).1 (aA fi f0 f1 g0 g1 [c0,c1,c2] 3 1).2∧cG false (aA fi f0 f1 g0 g1 [c0,c1,c2] 3 1).1 (aA fi f0 f1 g0 g1 [c0,c1,c2] 3 1).2 p0 p1=aZ (fi (aD 3 0)) (f0 (aD 3 0)) (f1 (aD 3 0)) p0 p1 (aA fi f0 f1 g0 g1 [c0,c1,c2] 3 1).1 (aA fi f0 f1 g0 g1 [c0,c1,c2] 3 1).2:=⟨by kernel_rfl,by kernel_rfl,by kernel_rfl⟩
theorem yLz (c0 c1 c2:PV):wY e aC aP aL (aA fi f0 f1 g0 g1 [c0,c1,c2] 3 2).1 (aA fi f0 f1 g0 g1 [c0,c1,c2] 3 2).2 K=fR aP aL f0 f1 [c0,c1,c2] 3 2 (aA fi f0 f1 g0 g1 [c0,c1,c2] 3 2).1 (aA fi f0 f1 g0 g1 [c0,c1,c2] 3 2).2 K:=by kernel_rfl
theorem Va (c0 c1 c2:PV):bT fi f0 f1 g0 g1 (aA fi f0 f1 g0 g1 [c0,c1,c2] 3 2).1 (aA fi f0 f1 g0 g1 [c0,c1,c2] 3 2).2=aZ (fi (aD 3 2)) (f0 (aD 3 2)) (f1 (aD 3 2)) (g0 (aD 3 2)) (g1 (aD 3 2)) (aA fi f0 f1 g0 g1 [c0,c1,c2] 3 2).1 (aA fi f0 f1 g0 g1 [c0,c1,c2] 3 2).2∧cG true (aA fi f0 f1 g0 g1 [c0,c1,c2] 3 2).1 (aA fi f0 f1 g0 g1 [c0,c1,c2] 3 2).2 p0 p1=aZ (aT 3 2) p0 p1 p0 p1 (aA fi f0 f1 g0 g1 [c0,c1,c2] 3 2).1 (aA fi f0 f1 g0 g1 [c0,c1,c2] 3 2).2∧cG false (aA fi f0 f1 g0 g1 [c0,c1,c2] 3 2).1 (aA fi f0 f1 g0 g1 [c0,c1,c2] 3 2).2 p0 p1=aZ (fi (aD 3 1)) (f0 (aD 3 1)) (f1 (aD 3 1)) p0 p1 (aA fi f0 f1 g0 g1 [c0,c1,c2] 3 2).1 (aA fi f0 f1 g0 g1 [c0,c1,c2] 3 2).2:=⟨by kernel_rfl,by kernel_rfl,by kernel_rfl⟩
theorem yLA (c0 c1 c2:PV):wY e aC aP aL (aA fi f0 f1 g0 g1 [c0,c1,c2] 3 3).1 (aA fi f0 f1 g0 g1 [c0,c1,c2] 3 3).2 K=fR aP aL f0 f1 [c0,c1,c2] 3 3 (aA fi f0 f1 g0 g1 [c0,c1,c2] 3 3).1 (aA fi f0 f1 g0 g1 [c0,c1,c2] 3 3).2 K:=by kernel_rfl
theorem Vb (c0 c1 c2:PV):bT fi f0 f1 g0 g1 (aA fi f0 f1 g0 g1 [c0,c1,c2] 3 3).1 (aA fi f0 f1 g0 g1 [c0,c1,c2] 3 3).2=aZ (fi (aD 3 3)) (f0 (aD 3 3)) (f1 (aD 3 3)) (g0 (aD 3 3)) (g1 (aD 3 3)) (aA fi f0 f1 g0 g1 [c0,c1,c2] 3 3).1 (aA fi f0 f1 g0 g1 [c0,c1,c2] 3 3).2∧cG true (aA fi f0 f1 g0 g1 [c0,c1,c2] 3 3).1 (aA fi f0 f1 g0 g1 [c0,c1,c2] 3 3).2 p0 p1=aZ (aT 3 3) p0 p1 p0 p1 (aA fi f0 f1 g0 g1 [c0,c1,c2] 3 3).1 (aA fi f0 f1 g0 g1 [c0,c1,c2] 3 3).2∧cG false (aA fi f0 f1 g0 g1 [c0,c1,c2] 3 3).1 (aA fi f0 f1 g0 g1 [c0,c1,c2] 3 3).2 p0 p1=aZ (fi (aD 3 2)) (f0 (aD 3 2)) (f1 (aD 3 2)) p0 p1 (aA fi f0 f1 g0 g1 [c0,c1,c2] 3 3).1 (aA fi f0 f1 g0 g1 [c0,c1,c2] 3 3).2:=⟨by kernel_rfl,by kernel_rfl,by kernel_rfl⟩
theorem yLB (c0 c1 c2:PV):wY e aC aP aL (aA fi f0 f1 g0 g1 [c0,c1,c2] 3 4).1 (aA fi f0 f1 g0 g1 [c0,c1,c2] 3 4).2 K=fR aP aL f0 f1 [c0,c1,c2] 3 4 (aA fi f0 f1 g0 g1 [c0,c1,c2] 3 4).1 (aA fi f0 f1 g0 g1 [c0,c1,c2] 3 4).2 K:=by kernel_rfl
theorem Vd (c0 c1 c2:PV):bT fi f0 f1 g0 g1 (aA fi f0 f1 g0 g1 [c0,c1,c2] 3 4).1 (aA fi f0 f1 g0 g1 [c0,c1,c2] 3 4).2=aZ (fi (aD 3 4)) (f0 (aD 3 4)) (f1 (aD 3 4)) (g0 (aD 3 4)) (g1 (aD 3 4)) (aA fi f0 f1 g0 g1 [c0,c1,c2] 3 4).1 (aA fi f0 f1 g0 g1 [c0,c1,c2] 3 4).2∧cG true (aA fi f0 f1 g0 g1 [c0,c1,c2] 3 4).1 (aA fi f0 f1 g0 g1 [c0,c1,c2] 3 4).2 p0 p1=aZ (aT 3 4) p0 p1 p0 p1 (aA fi f0 f1 g0 g1 [c0,c1,c2] 3 4).1 (aA fi f0 f1 g0 g1 [c0,c1,c2] 3 4).2∧cG false (aA fi f0 f1 g0 g1 [c0,c1,c2] 3 4).1 (aA fi f0 f1 g0 g1 [c0,c1,c2] 3 4).2 p0 p1=aZ (fi (aD 3 3)) (f0 (aD 3 3)) (f1 (aD 3 3)) p0 p1 (aA fi f0 f1 g0 g1 [c0,c1,c2] 3 4).1 (aA fi f0 f1 g0 g1 [c0,c1,c2] 3 4).2:=⟨by kernel_rfl,by kernel_rfl,by kernel_rfl⟩
theorem yLC (c0 c1 c2:PV):wY e aC aP aL (aA fi f0 f1 g0 g1 [c0,c1,c2] 3 5).1 (aA fi f0 f1 g0 g1 [c0,c1,c2] 3 5).2 K=fR aP aL f0 f1 [c0,c1,c2] 3 5 (aA fi f0 f1 g0 g1 [c0,c1,c2] 3 5).1 (aA fi f0 f1 g0 g1 [c0,c1,c2] 3 5).2 K:=by kernel_rfl
theorem Ve (c0 c1 c2:PV):bT fi f0 f1 g0 g1 (aA fi f0 f1 g0 g1 [c0,c1,c2] 3 5).1 (aA fi f0 f1 g0 g1 [c0,c1,c2] 3 5).2=aZ (fi (aD 3 5)) (f0 (aD 3 5)) (f1 (aD 3 5)) (g0 (aD 3 5)) (g1 (aD 3 5)) (aA fi f0 f1 g0 g1 [c0,c1,c2] 3 5).1 (aA fi f0 f1 g0 g1 [c0,c1,c2] 3 5).2∧cG true (aA fi f0 f1 g0 g1 [c0,c1,c2] 3 5).1 (aA fi f0 f1 g0 g1 [c0,c1,c2] 3 5).2 p0 p1=aZ (aT 3 5) p0 p1 p0 p1 (aA fi f0 f1 g0 g1 [c0,c1,c2] 3 5).1 (aA fi f0 f1 g0 g1 [c0,c1,c2] 3 5).2∧cG false (aA fi f0 f1 g0 g1 [c0,c1,c2] 3 5).1 (aA fi f0 f1 g0 g1 [c0,c1,c2] 3 5).2 p0 p1=aZ (fi (aD 3 4)) (f0 (aD 3 4)) (f1 (aD 3 4)) p0 p1 (aA fi f0 f1 g0 g1 [c0,c1,c2] 3 5).1 (aA fi f0 f1 g0 g1 [c0,c1,c2] 3 5).2:=⟨by kernel_rfl,by kernel_rfl,by kernel_rfl⟩
theorem yLD (c0 c1 c2 c3:PV):wY e aC aP aL (aA fi f0 f1 g0 g1 [c0,c1,c2,c3] 4 0).1 (aA fi f0 f1 g0 g1 [c0,c1,c2,c3] 4 0).2 K=fR aP aL f0 f1 [c0,c1,c2,c3] 4 0 (aA fi f0 f1 g0 g1 [c0,c1,c2,c3] 4 0).1 (aA fi f0 f1 g0 g1 [c0,c1,c2,c3] 4 0).2 K:=by kernel_rfl
theorem X7 (c0 c1 c2 c3:PV):bT fi f0 f1 g0 g1 (aA fi f0 f1 g0 g1 [c0,c1,c2,c3] 4 0).1 (aA fi f0 f1 g0 g1 [c0,c1,c2,c3] 4 0).2=aZ (fi (aD 4 0)) (f0 (aD 4 0)) (f1 (aD 4 0)) (g0 (aD 4 0)) (g1 (aD 4 0)) (aA fi f0 f1 g0 g1 [c0,c1,c2,c3] 4 0).1 (aA fi f0 f1 g0 g1 [c0,c1,c2,c3] 4 0).2∧cG true (aA fi f0 f1 g0 g1 [c0,c1,c2,c3] 4 0).1 (aA fi f0 f1 g0 g1 [c0,c1,c2,c3] 4 0).2 p0 p1=aZ (aT 4 0) p0 p1 p0 p1 (aA fi f0 f1 g0 g1 [c0,c1,c2,c3] 4 0).1 (aA fi f0 f1 g0 g1 [c0,c1,c2,c3] 4 0).2:=⟨by kernel_rfl,by kernel_rfl⟩
theorem yLE (c0 c1 c2 c3:PV):wY e aC aP aL (aA fi f0 f1 g0 g1 [c0,c1,c2,c3] 4 1).1 (aA fi f0 f1 g0 g1 [c0,c1,c2,c3] 4 1).2 K=fR aP aL f0 f1 [c0,c1,c2,c3] 4 1 (aA fi f0 f1 g0 g1 [c0,c1,c2,c3] 4 1).1 (aA fi f0 f1 g0 g1 [c0,c1,c2,c3] 4 1).2 K:=by kernel_rfl
theorem Vf (c0 c1 c2 c3:PV):bT fi f0 f1 g0 g1 (aA fi f0 f1 g0 g1 [c0,c1,c2,c3] 4 1).1 (aA fi f0 f1 g0 g1 [c0,c1,c2,c3] 4 1).2=aZ (fi (aD 4 1)) (f0 (aD 4 1)) (f1 (aD 4 1)) (g0 (aD 4 1)) (g1 (aD 4 1)) (aA fi f0 f1 g0 g1 [c0,c1,c2,c3] 4 1).1 (aA fi f0 f1 g0 g1 [c0,c1,c2,c3] 4 1).2∧cG true (aA fi f0 f1 g0 g1 [c0,c1,c2,c3] 4 1).1 (aA fi f0 f1 g0 g1 [c0,c1,c2,c3] 4 1).2 p0 p1=aZ (aT 4 1) p0 p1 p0 p1 (aA fi f0 f1 g0 g1 [c0,c1,c2,c3] 4 1).1 (aA fi f0 f1 g0 g1 [c0,c1,c2,c3] 4 1).2∧cG false (aA fi f0 f1 g0 g1 [c0,c1,c2,c3] 4 1).1 (aA fi f0 f1 g0 g1 [c0,c1,c2,c3] 4 1).2 p0 p1=aZ (fi (aD 4 0)) (f0 (aD 4 0)) (f1 (aD 4 0)) p0 p1 (aA fi f0 f1 g0 g1 [c0,c1,c2,c3] 4 1).1 (aA fi f0 f1 g0 g1 [c0,c1,c2,c3] 4 1).2:=⟨by kernel_rfl,by kernel_rfl,by kernel_rfl⟩
theorem yLF (c0 c1 c2 c3:PV):wY e aC aP aL (aA fi f0 f1 g0 g1 [c0,c1,c2,c3] 4 2).1 (aA fi f0 f1 g0 g1 [c0,c1,c2,c3] 4 2).2 K=fR aP aL f0 f1 [c0,c1,c2,c3] 4 2 (aA fi f0 f1 g0 g1 [c0,c1,c2,c3] 4 2).1 (aA fi f0 f1 g0 g1 [c0,c1,c2,c3] 4 2).2 K:=by kernel_rfl
theorem Vg (c0 c1 c2 c3:PV):bT fi f0 f1 g0 g1 (aA fi f0 f1 g0 g1 [c0,c1,c2,c3] 4 2).1 (aA fi f0 f1 g0 g1 [c0,c1,c2,c3] 4 2).2=aZ (fi (aD 4 2)) (f0 (aD 4 2)) (f1 (aD 4 2)) (g0 (aD 4 2)) (g1 (aD 4 2)) (aA fi f0 f1 g0 g1 [c0,c1,c2,c3] 4 2).1 (aA fi f0 f1 g0 g1 [c0,c1,c2,c3] 4 2).2∧cG true (aA fi f0 f1 g0 g1 [c0,c1,c2,c3] 4 2).1 (aA fi f0 f1 g0 g1 [c0,c1,c2,c3] 4 2).2 p0 p1=aZ (aT 4 2) p0 p1 p0 p1 (aA fi f0 f1 g0 g1 [c0,c1,c2,c3] 4 2).1 (aA fi f0 f1 g0 g1 [c0,c1,c2,c3] 4 2).2∧cG false (aA fi f0 f1 g0 g1 [c0,c1,c2,c3] 4 2).1 (aA fi f0 f1 g0 g1 [c0,c1,c2,c3] 4 2).2 p0 p1=aZ (fi (aD 4 1)) (f0 (aD 4 1)) (f1 (aD 4 1)) p0 p1 (aA fi f0 f1 g0 g1 [c0,c1,c2,c3] 4 2).1 (aA fi f0 f1 g0 g1 [c0,c1,c2,c3] 4 2).2:=⟨by kernel_rfl,by kernel_rfl,by kernel_rfl⟩
theorem yLG (c0 c1 c2 c3:PV):wY e aC aP aL (aA fi f0 f1 g0 g1 [c0,c1,c2,c3] 4 3).1 (aA fi f0 f1 g0 g1 [c0,c1,c2,c3] 4 3).2 K=fR aP aL f0 f1 [c0,c1,c2,c3] 4 3 (aA fi f0 f1 g0 g1 [c0,c1,c2,c3] 4 3).1 (aA fi f0 f1 g0 g1 [c0,c1,c2,c3] 4 3).2 K:=by kernel_rfl
theorem Vh (c0 c1 c2 c3:PV):bT fi f0 f1 g0 g1 (aA fi f0 f1 g0 g1 [c0,c1,c2,c3] 4 3).1 (aA fi f0 f1 g0 g1 [c0,c1,c2,c3] 4 3).2=aZ (fi (aD 4 3)) (f0 (aD 4 3)) (f1 (aD 4 3)) (g0 (aD 4 3)) (g1 (aD 4 3)) (aA fi f0 f1 g0 g1 [c0,c1,c2,c3] 4 3).1 (aA fi f0 f1 g0 g1 [c0,c1,c2,c3] 4 3).2∧cG true (aA fi f0 f1 g0 g1 [c0,c1,c2,c3] 4 3).1 (aA fi f0 f1 g0 g1 [c0,c1,c2,c3] 4 3).2 p0 p1=aZ (aT 4 3) p0 p1 p0 p1 (aA fi f0 f1 g0 g1 [c0,c1,c2,c3] 4 3).1 (aA fi f0 f1 g0 g1 [c0,c1,c2,c3] 4 3).2∧cG false (aA fi f0 f1 g0 g1 [c0,c1,c2,c3] 4 3).1 (aA fi f0 f1 g0 g1 [c0,c1,c2,c3] 4 3).2 p0 p1=aZ (fi (aD 4 2)) (f0 (aD 4 2)) (f1 (aD 4 2)) p0 p1 (aA fi f0 f1 g0 g1 [c0,c1,c2,c3] 4 3).1 (aA fi f0 f1 g0 g1 [c0,c1,c2,c3] 4 3).2:=⟨by kernel_rfl,by kernel_rfl,by kernel_rfl⟩
theorem yLH (c0 c1 c2 c3:PV):wY e aC aP aL (aA fi f0 f1 g0 g1 [c0,c1,c2,c3] 4 4).1 (aA fi f0 f1 g0 g1 [c0,c1,c2,c3] 4 4).2 K=fR aP aL f0 f1 [c0,c1,c2,c3] 4 4 (aA fi f0 f1 g0 g1 [c0,c1,c2,c3] 4 4).1 (aA fi f0 f1 g0 g1 [c0,c1,c2,c3] 4 4).2 K:=by kernel_rfl
theorem Vi (c0 c1 c2 c3:PV):bT fi f0 f1 g0 g1 (aA fi f0 f1 g0 g1 [c0,c1,c2,c3] 4 4).1 (aA fi f0 f1 g0 g1 [c0,c1,c2,c3] 4 4).2=aZ (fi (aD 4 4)) (f0 (aD 4 4)) (f1 (aD 4 4)) (g0 (aD 4 4)) (g1 (aD 4 4)) (aA fi f0 f1 g0 g1 [c0,c1,c2,c3] 4 4).1 (aA fi f0 f1 g0 g1 [c0,c1,c2,c3] 4 4).2∧cG true (aA fi f0 f1 g0 g1 [c0,c1,c2,c3] 4 4).1 (aA fi f0 f1 g0 g1 [c0,c1,c2,c3] 4 4).2 p0 p1=aZ (aT 4 4) p0 p1 p0 p1 (aA fi f0 f1 g0 g1 [c0,c1,c2,c3] 4 4).1 (aA fi f0 f1 g0 g1 [c0,c1,c2,c3] 4 4).2∧cG false (aA fi f0 f1 g0 g1 [c0,c1,c2,c3] 4 4).1 (aA fi f0 f1 g0 g1 [c0,c1,c2,c3] 4 4).2 p0 p1=aZ (fi (aD 4 3)) (f0 (aD 4 3)) (f1 (aD 4 3)) p0 p1 (aA fi f0 f1 g0 g1 [c0,c1,c2,c3] 4 4).1 (aA fi f0 f1 g0 g1 [c0,c1,c2,c3] 4 4).2:=⟨by kernel_rfl,by kernel_rfl,by kernel_rfl⟩
theorem yLI (c0 c1 c2 c3:PV):wY e aC aP aL (aA fi f0 f1 g0 g1 [c0,c1,c2,c3] 4 5).1 (aA fi f0 f1 g0 g1 [c0,c1,c2,c3] 4 5).2 K=fR aP aL f0 f1 [c0,c1,c2,c3] 4 5 (aA fi f0 f1 g0 g1 [c0,c1,c2,c3] 4 5).1 (aA fi f0 f1 g0 g1 [c0,c1,c2,c3] 4 5).2 K:=by kernel_rfl
theorem Vj (c0 c1 c2 c3:PV):bT fi f0 f1 g0 g1 (aA fi f0 f1 g0 g1 [c0,c1,c2,c3] 4 5).1 (aA fi f0 f1 g0 g1 [c0,c1,c2,c3] 4 5).2=aZ (fi (aD 4 5)) (f0 (aD 4 5)) (f1 (aD 4 5)) (g0 (aD 4 5)) (g1 (aD 4 5)) (aA fi f0 f1 g0 g1 [c0,c1,c2,c3] 4 5).1 (aA fi f0 f1 g0 g1 [c0,c1,c2,c3] 4 5).2∧cG true (aA fi f0 f1 g0 g1 [c0,c1,c2,c3] 4 5).1 (aA fi f0 f1 g0 g1 [c0,c1,c2,c3] 4 5).2 p0 p1=aZ (aT 4 5) p0 p1 p0 p1 (aA fi f0 f1 g0 g1 [c0,c1,c2,c3] 4 5).1 (aA fi f0 f1 g0 g1 [c0,c1,c2,c3] 4 5).2∧cG false (aA fi f0 f1 g0 g1 [c0,c1,c2,c3] 4 5).1 (aA fi f0 f1 g0 g1 [c0,c1,c2,c3] 4 5).2 p0 p1=aZ (fi (aD 4 4)) (f0 (aD 4 4)) (f1 (aD 4 4)) p0 p1 (aA fi f0 f1 g0 g1 [c0,c1,c2,c3] 4 5).1 (aA fi f0 f1 g0 g1 [c0,c1,c2,c3] 4 5).2:=⟨by kernel_rfl,by kernel_rfl,by kernel_rfl⟩
theorem yLJ (c0 c1 c2 c3:PV):wY e aC aP aL (aA fi f0 f1 g0 g1 [c0,c1,c2,c3] 4 6).1 (aA fi f0 f1 g0 g1 [c0,c1,c2,c3] 4 6).2 K=fR aP aL f0 f1 [c0,c1,c2,c3] 4 6 (aA fi f0 f1 g0 g1 [c0,c1,c2,c3] 4 6).1 (aA fi f0 f1 g0 g1 [c0,c1,c2,c3] 4 6).2 K:=by kernel_rfl
theorem Vk (c0 c1 c2 c3:PV):bT fi f0 f1 g0 g1 (aA fi f0 f1 g0 g1 [c0,c1,c2,c3] 4 6).1 (aA fi f0 f1 g0 g1 [c0,c1,c2,c3] 4 6).2=aZ (fi (aD 4 6)) (f0 (aD 4 6)) (f1 (aD 4 6)) (g0 (aD 4 6)) (g1 (aD 4 6)) (aA fi f0 f1 g0 g1 [c0,c1,c2,c3] 4 6).1 (aA fi f0 f1 g0 g1 [c0,c1,c2,c3] 4 6).2∧cG true (aA fi f0 f1 g0 g1 [c0,c1,c2,c3] 4 6).1 (aA fi f0 f1 g0 g1 [c0,c1,c2,c3] 4 6).2 p0 p1=aZ (aT 4 6) p0 p1 p0 p1 (aA fi f0 f1 g0 g1 [c0,c1,c2,c3] 4 6).1 (aA fi f0 f1 g0 g1 [c0,c1,c2,c3] 4 6).2∧cG false (aA fi f0 f1 g0 g1 [c0,c1,c2,c3] 4 6).1 (aA fi f0 f1 g0 g1 [c0,c1,c2,c3] 4 6).2 p0 p1=aZ (fi (aD 4 5)) (f0 (aD 4 5)) (f1 (aD 4 5)) p0 p1 (aA fi f0 f1 g0 g1 [c0,c1,c2,c3] 4 6).1 (aA fi f0 f1 g0 g1 [c0,c1,c2,c3] 4 6).2:=⟨by kernel_rfl,by kernel_rfl,by kernel_rfl⟩
theorem yLK (c0 c1 c2 c3:PV):wY e aC aP aL (aA fi f0 f1 g0 g1 [c0,c1,c2,c3] 4 7).1 (aA fi f0 f1 g0 g1 [c0,c1,c2,c3] 4 7).2 K=fR aP aL f0 f1 [c0,c1,c2,c3] 4 7 (aA fi f0 f1 g0 g1 [c0,c1,c2,c3] 4 7).1 (aA fi f0 f1 g0 g1 [c0,c1,c2,c3] 4 7).2 K:=by kernel_rfl
theorem Vl (c0 c1 c2 c3:PV):bT fi f0 f1 g0 g1 (aA fi f0 f1 g0 g1 [c0,c1,c2,c3] 4 7).1 (aA fi f0 f1 g0 g1 [c0,c1,c2,c3] 4 7).2=aZ (fi (aD 4 7)) (f0 (aD 4 7)) (f1 (aD 4 7)) (g0 (aD 4 7)) (g1 (aD 4 7)) (aA fi f0 f1 g0 g1 [c0,c1,c2,c3] 4 7).1 (aA fi f0 f1 g0 g1 [c0,c1,c2,c3] 4 7).2∧cG true (aA fi f0 f1 g0 g1 [c0,c1,c2,c3] 4 7).1 (aA fi f0 f1 g0 g1 [c0,c1,c2,c3] 4 7).2 p0 p1=aZ (aT 4 7) p0 p1 p0 p1 (aA fi f0 f1 g0 g1 [c0,c1,c2,c3] 4 7).1 (aA fi f0 f1 g0 g1 [c0,c1,c2,c3] 4 7).2∧cG false (aA fi f0 f1 g0 g1 [c0,c1,c2,c3] 4 7).1 (aA fi f0 f1 g0 g1 [c0,c1,c2,c3] 4 7).2 p0 p1=aZ (fi (aD 4 6)) (f0 (aD 4 6)) (f1 (aD 4 6)) p0 p1 (aA fi f0 f1 g0 g1 [c0,c1,c2,c3] 4 7).1 (aA fi f0 f1 g0 g1 [c0,c1,c2,c3] 4 7).2:=⟨by kernel_rfl,by kernel_rfl,by kernel_rfl⟩
theorem yLL (c0 c1 c2 c3:PV):wY e aC aP aL (aA fi f0 f1 g0 g1 [c0,c1,c2,c3] 4 8).1 (aA fi f0 f1 g0 g1 [c0,c1,c2,c3] 4 8).2 K=fR aP aL f0 f1 [c0,c1,c2,c3] 4 8 (aA fi f0 f1 g0 g1 [c0,c1,c2,c3] 4 8).1 (aA fi f0 f1 g0 g1 [c0,c1,c2,c3] 4 8).2 K:=by kernel_rfl
theorem Vm (c0 c1 c2 c3:PV):bT fi f0 f1 g0 g1 (aA fi f0 f1 g0 g1 [c0,c1,c2,c3] 4 8).1 (aA fi f0 f1 g0 g1 [c0,c1,c2,c3] 4 8).2=aZ (fi (aD 4 8)) (f0 (aD 4 8)) (f1 (aD 4 8)) (g0 (aD 4 8)) (g1 (aD 4 8)) (aA fi f0 f1 g0 g1 [c0,c1,c2,c3] 4 8).1 (aA fi f0 f1 g0 g1 [c0,c1,c2,c3] 4 8).2∧cG true (aA fi f0 f1 g0 g1 [c0,c1,c2,c3] 4 8).1 (aA fi f0 f1 g0 g1 [c0,c1,c2,c3] 4 8).2 p0 p1=aZ (aT 4 8) p0 p1 p0 p1 (aA fi f0 f1 g0 g1 [c0,c1,c2,c3] 4 8).1 (aA fi f0 f1 g0 g1 [c0,c1,c2,c3] 4 8).2∧cG false (aA fi f0 f1 g0 g1 [c0,c1,c2,c3] 4 8).1 (aA fi f0 f1 g0 g1 [c0,c1,c2,c3] 4 8).2 p0 p1=aZ (fi (aD 4 7)) (f0 (aD 4 7)) (f1 (aD 4 7)) p0 p1 (aA fi f0 f1 g0 g1 [c0,c1,c2,c3] 4 8).1 (aA fi f0 f1 g0 g1 [c0,c1,c2,c3] 4 8).2:=⟨by kernel_rfl,by kernel_rfl,by kernel_rfl⟩
theorem yLM (c0 c1 c2 c3:PV):wY e aC aP aL (aA fi f0 f1 g0 g1 [c0,c1,c2,c3] 4 9).1 (aA fi f0 f1 g0 g1 [c0,c1,c2,c3] 4 9).2 K=fR aP aL f0 f1 [c0,c1,c2,c3] 4 9 (aA fi f0 f1 g0 g1 [c0,c1,c2,c3] 4 9).1 (aA fi f0 f1 g0 g1 [c0,c1,c2,c3] 4 9).2 K:=by kernel_rfl
theorem Vn (c0 c1 c2 c3:PV):bT fi f0 f1 g0 g1 (aA fi f0 f1 g0 g1 [c0,c1,c2,c3] 4 9).1 (aA fi f0 f1 g0 g1 [c0,c1,c2,c3] 4 9).2=aZ (fi (aD 4 9)) (f0 (aD 4 9)) (f1 (aD 4 9)) (g0 (aD 4 9)) (g1 (aD 4 9)) (aA fi f0 f1 g0 g1 [c0,c1,c2,c3] 4 9).1 (aA fi f0 f1 g0 g1 [c0,c1,c2,c3] 4 9).2∧cG true (aA fi f0 f1 g0 g1 [c0,c1,c2,c3] 4 9).1 (aA fi f0 f1 g0 g1 [c0,c1,c2,c3] 4 9).2 p0 p1=aZ (aT 4 9) p0 p1 p0 p1 (aA fi f0 f1 g0 g1 [c0,c1,c2,c3] 4 9).1 (aA fi f0 f1 g0 g1 [c0,c1,c2,c3] 4 9).2∧cG false (aA fi f0 f1 g0 g1 [c0,c1,c2,c3] 4 9).1 (aA fi f0 f1 g0 g1 [c0,c1,c2,c3] 4 9).2 p0 p1=aZ (fi (aD 4 8)) (f0 (aD 4 8)) (f1 (aD 4 8)) p0 p1 (aA fi f0 f1 g0 g1 [c0,c1,c2,c3] 4 9).1 (aA fi f0 f1 g0 g1 [c0,c1,c2,c3] 4 9).2:=⟨by kernel_rfl,by kernel_rfl,by kernel_rfl⟩
theorem yIl (c0 c1 c2 c3:PV):wY e aC aP aL (aA fi f0 f1 g0 g1 [c0,c1,c2,c3] 4 10).1 (aA fi f0 f1 g0 g1 [c0,c1,c2,c3] 4 10).2 K=fR aP aL f0 f1 [c0,c1,c2,c3] 4 10 (aA fi f0 f1 g0 g1 [c0,c1,c2,c3] 4 10).1 (aA fi f0 f1 g0 g1 [c0,c1,c2,c3] 4 10).2 K:=by kernel_rfl
theorem Vo (c0 c1 c2 c3:PV):bT fi f0 f1 g0 g1 (aA fi f0 f1 g0 g1 [c0,c1,c2,c3] 4 10).1 (aA fi f0 f1 g0 g1 [c0,c1,c2,c3] 4 10).2=aZ (fi (aD 4 10)) (f0 (aD 4 10)) (f1 (aD 4 10)) (g0 (aD 4 10)) (g1 (aD 4 10)) (aA fi f0 f1 g0 g1 [c0,c1,c2,c3] 4 10).1 (aA fi f0 f1 g0 g1 [c0,c1,c2,c3] 4 10).2∧cG true (aA fi f0 f1 g0 g1 [c0,c1,c2,c3] 4 10).1 (aA fi f0 f1 g0 g1 [c0,c1,c2,c3] 4 10).2 p0 p1=aZ (aT 4 10) p0 p1 p0 p1 (aA fi f0 f1 g0 g1 [c0,c1,c2,c3] 4 10).1 (aA fi f0 f1 g0 g1 [c0,c1,c2,c3] 4 10).2∧cG false (aA fi f0 f1 g0 g1 [c0,c1,c2,c3] 4 10).1 (aA fi f0 f1 g0 g1 [c0,c1,c2,c3] 4 10).2 p0 p1=aZ (fi (aD 4 9)) (f0 (aD 4 9)) (f1 (aD 4 9)) p0 p1 (aA fi f0 f1 g0 g1 [c0,c1,c2,c3] 4 10).1 (aA fi f0 f1 g0 g1 [c0,c1,c2,c3] 4 10).2:=⟨by kernel_rfl,by kernel_rfl,by kernel_rfl⟩
theorem yIm (c0 c1 c2 c3:PV):wY e aC aP aL (aA fi f0 f1 g0 g1 [c0,c1,c2,c3] 4 11).1 (aA fi f0 f1 g0 g1 [c0,c1,c2,c3] 4 11).2 K=fR aP aL f0 f1 [c0,c1,c2,c3] 4 11 (aA fi f0 f1 g0 g1 [c0,c1,c2,c3] 4 11).1 (aA fi f0 f1 g0 g1 [c0,c1,c2,c3] 4 11).2 K:=by kernel_rfl
theorem Vp (c0 c1 c2 c3:PV):bT fi f0 f1 g0 g1 (aA fi f0 f1 g0 g1 [c0,c1,c2,c3] 4 11).1 (aA fi f0 f1 g0 g1 [c0,c1,c2,c3] 4 11).2=aZ (fi (aD 4 11)) (f0 (aD 4 11)) (f1 (aD 4 11)) (g0 (aD 4 11)) (g1 (aD 4 11)) (aA fi f0 f1 g0 g1 [c0,c1,c2,c3] 4 11).1 (aA fi f0 f1 g0 g1 [c0,c1,c2,c3] 4 11).2∧cG true (aA fi f0 f1 g0 g1 [c0,c1,c2,c3] 4 11).1 (aA fi f0 f1 g0 g1 [c0,c1,c2,c3] 4 11).2 p0 p1=aZ (aT 4 11) p0 p1 p0 p1 (aA fi f0 f1 g0 g1 [c0,c1,c2,c3] 4 11).1 (aA fi f0 f1 g0 g1 [c0,c1,c2,c3] 4 11).2∧cG false (aA fi f0 f1 g0 g1 [c0,c1,c2,c3] 4 11).1 (aA fi f0 f1 g0 g1 [c0,c1,c2,c3] 4 11).2 p0 p1=aZ (fi (aD 4 10)) (f0 (aD 4 10)) (f1 (aD 4 10)) p0 p1 (aA fi f0 f1 g0 g1 [c0,c1,c2,c3] 4 11).1 (aA fi f0 f1 g0 g1 [c0,c1,c2,c3] 4 11).2:=⟨by kernel_rfl,by kernel_rfl,by kernel_rfl⟩
theorem yIn (c0 c1 c2 c3:PV):wY e aC aP aL (aA fi f0 f1 g0 g1 [c0,c1,c2,c3] 4 12).1 (aA fi f0 f1 g0 g1 [c0,c1,c2,c3] 4 12).2 K=fR aP aL f0 f1 [c0,c1,c2,c3] 4 12 (aA fi f0 f1 g0 g1 [c0,c1,c2,c3] 4 12).1 (aA fi f0 f1 g0 g1 [c0,c1,c2,c3] 4 12).2 K:=by kernel_rfl
theorem Vq (c0 c1 c2 c3:PV):bT fi f0 f1 g0 g1 (aA fi f0 f1 g0 g1 [c0,c1,c2,c3] 4 12).1 (aA fi f0 f1 g0 g1 [c0,c1,c2,c3] 4 12).2=aZ (fi (aD 4 12)) (f0 (aD 4 12)) (f1 (aD 4 12)) (g0 (aD 4 12)) (g1 (aD 4 12)) (aA fi f0 f1 g0 g1 [c0,c1,c2,c3] 4 12).1 (aA fi f0 f1 g0 g1 [c0,c1,c2,c3] 4 12).2∧cG true (aA fi f0 f1 g0 g1 [c0,c1,c2,c3] 4 12).1 (aA fi f0 f1 g0 g1 [c0,c1,c2,c3] 4 12).2 p0 p1=aZ (aT 4 12) p0 p1 p0 p1 (aA fi f0 f1 g0 g1 [c0,c1,c2,c3] 4 12).1 (aA fi f0 f1 g0 g1 [c0,c1,c2,c3] 4 12).2∧cG false (aA fi f0 f1 g0 g1 [c0,c1,c2,c3] 4 12).1 (aA fi f0 f1 g0 g1 [c0,c1,c2,c3] 4 12).2 p0 p1=aZ (fi (aD 4 11)) (f0 (aD 4 11)) (f1 (aD 4 11)) p0 p1 (aA fi f0 f1 g0 g1 [c0,c1,c2,c3] 4 12).1 (aA fi f0 f1 g0 g1 [c0,c1,c2,c3] 4 12).2:=⟨by kernel_rfl,by kernel_rfl,by kernel_rfl⟩
theorem yIo (c0 c1 c2 c3:PV):wY e aC aP aL (aA fi f0 f1 g0 g1 [c0,c1,c2,c3] 4 13).1 (aA fi f0 f1 g0 g1 [c0,c1,c2,c3] 4 13).2 K=fR aP aL f0 f1 [c0,c1,c2,c3] 4 13 (aA fi f0 f1 g0 g1 [c0,c1,c2,c3] 4 13).1 (aA fi f0 f1 g0 g1 [c0,c1,c2,c3] 4 13).2 K:=by kernel_rfl
theorem Vr (c0 c1 c2 c3:PV):bT fi f0 f1 g0 g1 (aA fi f0 f1 g0 g1 [c0,c1,c2,c3] 4 13).1 (aA fi f0 f1 g0 g1 [c0,c1,c2,c3] 4 13).2=aZ (fi (aD 4 13)) (f0 (aD 4 13)) (f1 (aD 4 13)) (g0 (aD 4 13)) (g1 (aD 4 13)) (aA fi f0 f1 g0 g1 [c0,c1,c2,c3] 4 13).1 (aA fi f0 f1 g0 g1 [c0,c1,c2,c3] 4 13).2∧cG true (aA fi f0 f1 g0 g1 [c0,c1,c2,c3] 4 13).1 (aA fi f0 f1 g0 g1 [c0,c1,c2,c3] 4 13).2 p0 p1=aZ (aT 4 13) p0 p1 p0 p1 (aA fi f0 f1 g0 g1 [c0,c1,c2,c3] 4 13).1 (aA fi f0 f1 g0 g1 [c0,c1,c2,c3] 4 13).2∧cG false (aA fi f0 f1 g0 g1 [c0,c1,c2,c3] 4 13).1 (aA fi f0 f1 g0 g1 [c0,c1,c2,c3] 4 13).2 p0 p1=aZ (fi (aD 4 12)) (f0 (aD 4 12)) (f1 (aD 4 12)) p0 p1 (aA fi f0 f1 g0 g1 [c0,c1,c2,c3] 4 13).1 (aA fi f0 f1 g0 g1 [c0,c1,c2,c3] 4 13).2:=⟨by kernel_rfl,by kernel_rfl,by kernel_rfl⟩
theorem yIp (c0 c1 c2 c3:PV):wY e aC aP aL (aA fi f0 f1 g0 g1 [c0,c1,c2,c3] 4 14).1 (aA fi f0 f1 g0 g1 [c0,c1,c2,c3] 4 14).2 K=fR aP aL f0 f1 [c0,c1,c2,c3] 4 14 (aA fi f0 f1 g0 g1 [c0,c1,c2,c3] 4 14).1 (aA fi f0 f1 g0 g1 [c0,c1,c2,c3] 4 14).2 K:=by kernel_rfl
theorem Vs (c0 c1 c2 c3:PV):bT fi f0 f1 g0 g1 (aA fi f0 f1 g0 g1 [c0,c1,c2,c3] 4 14).1 (aA fi f0 f1 g0 g1 [c0,c1,c2,c3] 4 14).2=aZ (fi (aD 4 14)) (f0 (aD 4 14)) (f1 (aD 4 14)) (g0 (aD 4 14)) (g1 (aD 4 14)) (aA fi f0 f1 g0 g1 [c0,c1,c2,c3] 4 14).1 (aA fi f0 f1 g0 g1 [c0,c1,c2,c3] 4 14).2∧cG true (aA fi f0 f1 g0 g1 [c0,c1,c2,c3] 4 14).1 (aA fi f0 f1 g0 g1 [c0,c1,c2,c3] 4 14).2 p0 p1=aZ (aT 4 14) p0 p1 p0 p1 (aA fi f0 f1 g0 g1 [c0,c1,c2,c3] 4 14).1 (aA fi f0 f1 g0 g1 [c0,c1,c2,c3] 4 14).2∧cG false (aA fi f0 f1 g0 g1 [c0,c1,c2,c3] 4 14).1 (aA fi f0 f1 g0 g1 [c0,c1,c2,c3] 4 14).2 p0 p1=aZ (fi (aD 4 13)) (f0 (aD 4 13)) (f1 (aD 4 13)) p0 p1 (aA fi f0 f1 g0 g1 [c0,c1,c2,c3] 4 14).1 (aA fi f0 f1 g0 g1 [c0,c1,c2,c3] 4 14).2:=⟨by kernel_rfl,by kernel_rfl,by kernel_rfl⟩
theorem yIq (c0 c1 c2 c3:PV):wY e aC aP aL (aA fi f0 f1 g0 g1 [c0,c1,c2,c3] 4 15).1 (aA fi f0 f1 g0 g1 [c0,c1,c2,c3] 4 15).2 K=fR aP aL f0 f1 [c0,c1,c2,c3] 4 15 (aA fi f0 f1 g0 g1 [c0,c1,c2,c3] 4 15).1 (aA fi f0 f1 g0 g1 [c0,c1,c2,c3] 4 15).2 K:=by kernel_rfl
theorem Vt (c0 c1 c2 c3:PV):bT fi f0 f1 g0 g1 (aA fi f0 f1 g0 g1 [c0,c1,c2,c3] 4 15).1 (aA fi f0 f1 g0 g1 [c0,c1,c2,c3] 4 15).2=aZ (fi (aD 4 15)) (f0 (aD 4 15)) (f1 (aD 4 15)) (g0 (aD 4 15)) (g1 (aD 4 15)) (aA fi f0 f1 g0 g1 [c0,c1,c2,c3] 4 15).1 (aA fi f0 f1 g0 g1 [c0,c1,c2,c3] 4 15).2∧cG true (aA fi f0 f1 g0 g1 [c0,c1,c2,c3] 4 15).1 (aA fi f0 f1 g0 g1 [c0,c1,c2,c3] 4 15).2 p0 p1=aZ (aT 4 15) p0 p1 p0 p1 (aA fi f0 f1 g0 g1 [c0,c1,c2,c3] 4 15).1 (aA fi f0 f1 g0 g1 [c0,c1,c2,c3] 4 15).2∧cG false (aA fi f0 f1 g0 g1 [c0,c1,c2,c3] 4 15).1 (aA fi f0 f1 g0 g1 [c0,c1,c2,c3] 4 15).2 p0 p1=aZ (fi (aD 4 14)) (f0 (aD 4 14)) (f1 (aD 4 14)) p0 p1 (aA fi f0 f1 g0 g1 [c0,c1,c2,c3] 4 15).1 (aA fi f0 f1 g0 g1 [c0,c1,c2,c3] 4 15).2:=⟨by kernel_rfl,by kernel_rfl,by kernel_rfl⟩
theorem yIr (c0 c1 c2 c3:PV):wY e aC aP aL (aA fi f0 f1 g0 g1 [c0,c1,c2,c3] 4 16).1 (aA fi f0 f1 g0 g1 [c0,c1,c2,c3] 4 16).2 K=fR aP aL f0 f1 [c0,c1,c2,c3] 4 16 (aA fi f0 f1 g0 g1 [c0,c1,c2,c3] 4 16).1 (aA fi f0 f1 g0 g1 [c0,c1,c2,c3] 4 16).2 K:=by kernel_rfl
theorem Vu (c0 c1 c2 c3:PV):bT fi f0 f1 g0 g1 (aA fi f0 f1 g0 g1 [c0,c1,c2,c3] 4 16).1 (aA fi f0 f1 g0 g1 [c0,c1,c2,c3] 4 16).2=aZ (fi (aD 4 16)) (f0 (aD 4 16)) (f1 (aD 4 16)) (g0 (aD 4 16)) (g1 (aD 4 16)) (aA fi f0 f1 g0 g1 [c0,c1,c2,c3] 4 16).1 (aA fi f0 f1 g0 g1 [c0,c1,c2,c3] 4 16).2∧cG true (aA fi f0 f1 g0 g1 [c0,c1,c2,c3] 4 16).1 (aA fi f0 f1 g0 g1 [c0,c1,c2,c3] 4 16).2 p0 p1=aZ (aT 4 16) p0 p1 p0 p1 (aA fi f0 f1 g0 g1 [c0,c1,c2,c3] 4 16).1 (aA fi f0 f1 g0 g1 [c0,c1,c2,c3] 4 16).2∧cG false (aA fi f0 f1 g0 g1 [c0,c1,c2,c3] 4 16).1 (aA fi f0 f1 g0 g1 [c0,c1,c2,c3] 4 16).2 p0 p1=aZ (fi (aD 4 15)) (f0 (aD 4 15)) (f1 (aD 4 15)) p0 p1 (aA fi f0 f1 g0 g1 [c0,c1,c2,c3] 4 16).1 (aA fi f0 f1 g0 g1 [c0,c1,c2,c3] 4 16).2:=⟨by kernel_rfl,by kernel_rfl,by kernel_rfl⟩
theorem yIs (c0 c1 c2 c3:PV):wY e aC aP aL (aA fi f0 f1 g0 g1 [c0,c1,c2,c3] 4 17).1 (aA fi f0 f1 g0 g1 [c0,c1,c2,c3] 4 17).2 K=fR aP aL f0 f1 [c0,c1,c2,c3] 4 17 (aA fi f0 f1 g0 g1 [c0,c1,c2,c3] 4 17).1 (aA fi f0 f1 g0 g1 [c0,c1,c2,c3] 4 17).2 K:=by kernel_rfl
theorem Vv (c0 c1 c2 c3:PV):bT fi f0 f1 g0 g1 (aA fi f0 f1 g0 g1 [c0,c1,c2,c3] 4 17).1 (aA fi f0 f1 g0 g1 [c0,c1,c2,c3] 4 17).2=aZ (fi (aD 4 17)) (f0 (aD 4 17)) (f1 (aD 4 17)) (g0 (aD 4 17)) (g1 (aD 4 17)) (aA fi f0 f1 g0 g1 [c0,c1,c2,c3] 4 17).1 (aA fi f0 f1 g0 g1 [c0,c1,c2,c3] 4 17).2∧cG true (aA fi f0 f1 g0 g1 [c0,c1,c2,c3] 4 17).1 (aA fi f0 f1 g0 g1 [c0,c1,c2,c3] 4 17).2 p0 p1=aZ (aT 4 17) p0 p1 p0 p1 (aA fi f0 f1 g0 g1 [c0,c1,c2,c3] 4 17).1 (aA fi f0 f1 g0 g1 [c0,c1,c2,c3] 4 17).2∧cG false (aA fi f0 f1 g0 g1 [c0,c1,c2,c3] 4 17).1 (aA fi f0 f1 g0 g1 [c0,c1,c2,c3] 4 17).2 p0 p1=aZ (fi (aD 4 16)) (f0 (aD 4 16)) (f1 (aD 4 16)) p0 p1 (aA fi f0 f1 g0 g1 [c0,c1,c2,c3] 4 17).1 (aA fi f0 f1 g0 g1 [c0,c1,c2,c3] 4 17).2:=⟨by kernel_rfl,by kernel_rfl,by kernel_rfl⟩
theorem yIt (c0 c1 c2 c3:PV):wY e aC aP aL (aA fi f0 f1 g0 g1 [c0,c1,c2,c3] 4 18).1 (aA fi f0 f1 g0 g1 [c0,c1,c2,c3] 4 18).2 K=fR aP aL f0 f1 [c0,c1,c2,c3] 4 18 (aA fi f0 f1 g0 g1 [c0,c1,c2,c3] 4 18).1 (aA fi f0 f1 g0 g1 [c0,c1,c2,c3] 4 18).2 K:=by kernel_rfl
theorem Vw (c0 c1 c2 c3:PV):bT fi f0 f1 g0 g1 (aA fi f0 f1 g0 g1 [c0,c1,c2,c3] 4 18).1 (aA fi f0 f1 g0 g1 [c0,c1,c2,c3] 4 18).2=aZ (fi (aD 4 18)) (f0 (aD 4 18)) (f1 (aD 4 18)) (g0 (aD 4 18)) (g1 (aD 4 18)) (aA fi f0 f1 g0 g1 [c0,c1,c2,c3] 4 18).1 (aA fi f0 f1 g0 g1 [c0,c1,c2,c3] 4 18).2∧cG true (aA fi f0 f1 g0 g1 [c0,c1,c2,c3] 4 18).1 (aA fi f0 f1 g0 g1 [c0,c1,c2,c3] 4 18).2 p0 p1=aZ (aT 4 18) p0 p1 p0 p1 (aA fi f0 f1 g0 g1 [c0,c1,c2,c3] 4 18).1 (aA fi f0 f1 g0 g1 [c0,c1,c2,c3] 4 18).2∧cG false (aA fi f0 f1 g0 g1 [c0,c1,c2,c3] 4 18).1 (aA fi f0 f1 g0 g1 [c0,c1,c2,c3] 4 18).2 p0 p1=aZ (fi (aD 4 17)) (f0 (aD 4 17)) (f1 (aD 4 17)) p0 p1 (aA fi f0 f1 g0 g1 [c0,c1,c2,c3] 4 18).1 (aA fi f0 f1 g0 g1 [c0,c1,c2,c3] 4 18).2:=⟨by kernel_rfl,by kernel_rfl,by kernel_rfl⟩
theorem yIu (c0 c1 c2 c3:PV):wY e aC aP aL (aA fi f0 f1 g0 g1 [c0,c1,c2,c3] 4 19).1 (aA fi f0 f1 g0 g1 [c0,c1,c2,c3] 4 19).2 K=fR aP aL f0 f1 [c0,c1,c2,c3] 4 19 (aA fi f0 f1 g0 g1 [c0,c1,c2,c3] 4 19).1 (aA fi f0 f1 g0 g1 [c0,c1,c2,c3] 4 19).2 K:=by kernel_rfl
theorem Vx (c0 c1 c2 c3:PV):bT fi f0 f1 g0 g1 (aA fi f0 f1 g0 g1 [c0,c1,c2,c3] 4 19).1 (aA fi f0 f1 g0 g1 [c0,c1,c2,c3] 4 19).2=aZ (fi (aD 4 19)) (f0 (aD 4 19)) (f1 (aD 4 19)) (g0 (aD 4 19)) (g1 (aD 4 19)) (aA fi f0 f1 g0 g1 [c0,c1,c2,c3] 4 19).1 (aA fi f0 f1 g0 g1 [c0,c1,c2,c3] 4 19).2∧cG true (aA fi f0 f1 g0 g1 [c0,c1,c2,c3] 4 19).1 (aA fi f0 f1 g0 g1 [c0,c1,c2,c3] 4 19).2 p0 p1=aZ (aT 4 19) p0 p1 p0 p1 (aA fi f0 f1 g0 g1 [c0,c1,c2,c3] 4 19).1 (aA fi f0 f1 g0 g1 [c0,c1,c2,c3] 4 19).2∧cG false (aA fi f0 f1 g0 g1 [c0,c1,c2,c3] 4 19).1 (aA fi f0 f1 g0 g1 [c0,c1,c2,c3] 4 19).2 p0 p1=aZ (fi (aD 4 18)) (f0 (aD 4 18)) (f1 (aD 4 18)) p0 p1 (aA fi f0 f1 g0 g1 [c0,c1,c2,c3] 4 19).1 (aA fi f0 f1 g0 g1 [c0,c1,c2,c3] 4 19).2:=⟨by kernel_rfl,by kernel_rfl,by kernel_rfl⟩
theorem yIv (c0 c1 c2 c3:PV):wY e aC aP aL (aA fi f0 f1 g0 g1 [c0,c1,c2,c3] 4 20).1 (aA fi f0 f1 g0 g1 [c0,c1,c2,c3] 4 20).2 K=fR aP aL f0 f1 [c0,c1,c2,c3] 4 20 (aA fi f0 f1 g0 g1 [c0,c1,c2,c3] 4 20).1 (aA fi f0 f1 g0 g1 [c0,c1,c2,c3] 4 20).2 K:=by kernel_rfl
theorem Vy (c0 c1 c2 c3:PV):bT fi f0 f1 g0 g1 (aA fi f0 f1 g0 g1 [c0,c1,c2,c3] 4 20).1 (aA fi f0 f1 g0 g1 [c0,c1,c2,c3] 4 20).2=aZ (fi (aD 4 20)) (f0 (aD 4 20)) (f1 (aD 4 20)) (g0 (aD 4 20)) (g1 (aD 4 20)) (aA fi f0 f1 g0 g1 [c0,c1,c2,c3] 4 20).1 (aA fi f0 f1 g0 g1 [c0,c1,c2,c3] 4 20).2∧cG true (aA fi f0 f1 g0 g1 [c0,c1,c2,c3] 4 20).1 (aA fi f0 f1 g0 g1 [c0,c1,c2,c3] 4 20).2 p0 p1=aZ (aT 4 20) p0 p1 p0 p1 (aA fi f0 f1 g0 g1 [c0,c1,c2,c3] 4 20).1 (aA fi f0 f1 g0 g1 [c0,c1,c2,c3] 4 20).2∧cG false (aA fi f0 f1 g0 g1 [c0,c1,c2,c3] 4 20).1 (aA fi f0 f1 g0 g1 [c0,c1,c2,c3] 4 20).2 p0 p1=aZ (fi (aD 4 19)) (f0 (aD 4 19)) (f1 (aD 4 19)) p0 p1 (aA fi f0 f1 g0 g1 [c0,c1,c2,c3] 4 20).1 (aA fi f0 f1 g0 g1 [c0,c1,c2,c3] 4 20).2:=⟨by kernel_rfl,by kernel_rfl,by kernel_rfl⟩
theorem yIw (c0 c1 c2 c3:PV):wY e aC aP aL (aA fi f0 f1 g0 g1 [c0,c1,c2,c3] 4 21).1 (aA fi f0 f1 g0 g1 [c0,c1,c2,c3] 4 21).2 K=fR aP aL f0 f1 [c0,c1,c2,c3] 4 21 (aA fi f0 f1 g0 g1 [c0,c1,c2,c3] 4 21).1 (aA fi f0 f1 g0 g1 [c0,c1,c2,c3] 4 21).2 K:=by kernel_rfl
theorem Vz (c0 c1 c2 c3:PV):bT fi f0 f1 g0 g1 (aA fi f0 f1 g0 g1 [c0,c1,c2,c3] 4 21).1 (aA fi f0 f1 g0 g1 [c0,c1,c2,c3] 4 21).2=aZ (fi (aD 4 21)) (f0 (aD 4 21)) (f1 (aD 4 21)) (g0 (aD 4 21)) (g1 (aD 4 21)) (aA fi f0 f1 g0 g1 [c0,c1,c2,c3] 4 21).1 (aA fi f0 f1 g0 g1 [c0,c1,c2,c3] 4 21).2∧cG true (aA fi f0 f1 g0 g1 [c0,c1,c2,c3] 4 21).1 (aA fi f0 f1 g0 g1 [c0,c1,c2,c3] 4 21).2 p0 p1=aZ (aT 4 21) p0 p1 p0 p1 (aA fi f0 f1 g0 g1 [c0,c1,c2,c3] 4 21).1 (aA fi f0 f1 g0 g1 [c0,c1,c2,c3] 4 21).2∧cG false (aA fi f0 f1 g0 g1 [c0,c1,c2,c3] 4 21).1 (aA fi f0 f1 g0 g1 [c0,c1,c2,c3] 4 21).2 p0 p1=aZ (fi (aD 4 20)) (f0 (aD 4 20)) (f1 (aD 4 20)) p0 p1 (aA fi f0 f1 g0 g1 [c0,c1,c2,c3] 4 21).1 (aA fi f0 f1 g0 g1 [c0,c1,c2,c3] 4 21).2:=⟨by kernel_rfl,by kernel_rfl,by kernel_rfl⟩
theorem yIx (c0 c1 c2 c3:PV):wY e aC aP aL (aA fi f0 f1 g0 g1 [c0,c1,c2,c3] 4 22).1 (aA fi f0 f1 g0 g1 [c0,c1,c2,c3] 4 22).2 K=fR aP aL f0 f1 [c0,c1,c2,c3] 4 22 (aA fi f0 f1 g0 g1 [c0,c1,c2,c3] 4 22).1 (aA fi f0 f1 g0 g1 [c0,c1,c2,c3] 4 22).2 K:=by kernel_rfl
theorem VA (c0 c1 c2 c3:PV):bT fi f0 f1 g0 g1 (aA fi f0 f1 g0 g1 [c0,c1,c2,c3] 4 22).1 (aA fi f0 f1 g0 g1 [c0,c1,c2,c3] 4 22).2=aZ (fi (aD 4 22)) (f0 (aD 4 22)) (f1 (aD 4 22)) (g0 (aD 4 22)) (g1 (aD 4 22)) (aA fi f0 f1 g0 g1 [c0,c1,c2,c3] 4 22).1 (aA fi f0 f1 g0 g1 [c0,c1,c2,c3] 4 22).2∧cG true (aA fi f0 f1 g0 g1 [c0,c1,c2,c3] 4 22).1 (aA fi f0 f1 g0 g1 [c0,c1,c2,c3] 4 22).2 p0 p1=aZ (aT 4 22) p0 p1 p0 p1 (aA fi f0 f1 g0 g1 [c0,c1,c2,c3] 4 22).1 (aA fi f0 f1 g0 g1 [c0,c1,c2,c3] 4 22).2∧cG false (aA fi f0 f1 g0 g1 [c0,c1,c2,c3] 4 22).1 (aA fi f0 f1 g0 g1 [c0,c1,c2,c3] 4 22).2 p0 p1=aZ (fi (aD 4 21)) (f0 (aD 4 21)) (f1 (aD 4 21)) p0 p1 (aA fi f0 f1 g0 g1 [c0,c1,c2,c3] 4 22).1 (aA fi f0 f1 g0 g1 [c0,c1,c2,c3] 4 22).2:=⟨by kernel_rfl,by kernel_rfl,by kernel_rfl⟩
theorem yIy (c0 c1 c2 c3:PV):wY e aC aP aL (aA fi f0 f1 g0 g1 [c0,c1,c2,c3] 4 23).1 (aA fi f0 f1 g0 g1 [c0,c1,c2,c3] 4 23).2 K=fR aP aL f0 f1 [c0,c1,c2,c3] 4 23 (aA fi f0 f1 g0 g1 [c0,c1,c2,c3] 4 23).1 (aA fi f0 f1 g0 g1 [c0,c1,c2,c3] 4 23).2 K:=by kernel_rfl
theorem VB (c0 c1 c2 c3:PV):bT fi f0 f1 g0 g1 (aA fi f0 f1 g0 g1 [c0,c1,c2,c3] 4 23).1 (aA fi f0 f1 g0 g1 [c0,c1,c2,c3] 4 23).2=aZ (fi (aD 4 23)) (f0 (aD 4 23)) (f1 (aD 4 23)) (g0 (aD 4 23)) (g1 (aD 4 23)) (aA fi f0 f1 g0 g1 [c0,c1,c2,c3] 4 23).1 (aA fi f0 f1 g0 g1 [c0,c1,c2,c3] 4 23).2∧cG true (aA fi f0 f1 g0 g1 [c0,c1,c2,c3] 4 23).1 (aA fi f0 f1 g0 g1 [c0,c1,c2,c3] 4 23).2 p0 p1=aZ (aT 4 23) p0 p1 p0 p1 (aA fi f0 f1 g0 g1 [c0,c1,c2,c3] 4 23).1 (aA fi f0 f1 g0 g1 [c0,c1,c2,c3] 4 23).2∧cG false (aA fi f0 f1 g0 g1 [c0,c1,c2,c3] 4 23).1 (aA fi f0 f1 g0 g1 [c0,c1,c2,c3] 4 23).2 p0 p1=aZ (fi (aD 4 22)) (f0 (aD 4 22)) (f1 (aD 4 22)) p0 p1 (aA fi f0 f1 g0 g1 [c0,c1,c2,c3] 4 23).1 (aA fi f0 f1 g0 g1 [c0,c1,c2,c3] 4 23).2:=⟨by kernel_rfl,by kernel_rfl,by kernel_rfl⟩
end
theorem X8:∀ {l:List PV},DR l=true→∃ d:List Int,l=aB d
 | [],_=>⟨[],rfl⟩
 | .int .i64 x::r,h=>by obtain ⟨d,e⟩:=X8 (l:=r) h;exact ⟨x::d,by rw [e];rfl⟩
theorem X9 {x0:List PV→Int→Int→Int→Bool→Prop} {x1:Int→Prop} (d:List Int) (x:Int) (hl:d.length<1000000) {K:Bool→Prop} (k0:x0 (aB d) x d.length d.length false=K false) (k1:∀ j:Nat,x1 (j:Int)=K true):∀ (r i n:Nat),i+r=d.length→r<n→zH x0 x1 n (aB d) x d.length (i:Int)=K (rP x (aB (d.drop i)))
 | 0,i,n+1,hi,hn=>by unfold zH;rw [cX (by omega),show (i:Int)=d.length by omega,oD (by omega)];exact k0
 | r+1,i,n+1,hi,hn=>by
  unfold zH;have e1:=dO (n:=(i:Int)+1) (by omega) (by omega);dsimp only [lt];rw [cU (by omega),cN,aK (by omega),aK (by omega),dL,eQ (by omega),dW (by omega),e1,mA,sQ 0 (by omega)];show _=K ((x==d.getD i 0)||rP x (aB (d.drop (i+1))))
  by_cases c:x=d.getD i 0
  ·rw [nH c,k1,TJ c];rfl
  ·rw [sP c,MH c,BQ];exact X9 d x hl k0 k1 r (i+1) n (by omega) (by omega)
theorem yAg {d:List Int} {x:Int} (hl:d.length<1000000) (K:Bool→Prop):Dk (aB d) x K=K (rP x (aB d)):=by refine tj _ _ _ (fun K k=>?_) K;unfold Dk Ml Mj Mi;rw [cN];refine ⟨d.length+1,?_⟩;refine (X9 d x hl (K:=K) rfl (fun j=>by show K (decide ((j:Int)≥0))=_;rw [Eo (by omega)]) d.length 0 _ (by omega) (by omega)).mpr ?_;exact k
section
variable {e:Es}
theorem yLN (he:EG e):∀ as K,cnS as K→∃ r,K r∧iS (bW (E e)) AZ as r:=fun as K h=>by
 unfold cnS at h;split at h
 ·rename_i l x;obtain ⟨ha,h⟩:=bF.1 h;rw [cA] at ha;obtain ⟨d,rfl⟩:=X8 ha.1;have hl:d.length<1000000:=by
   have:=of_eq_true (Nat.blt_eq ▸ eq_true ha.2:((aB d).length<1000)=True);rw [cN] at this;omega
  obtain ⟨r,hr,hk⟩:=RL e he [.data (aB d),.int .i64 x] (fun r=>r=.bool (rP x (aB d))) (by
   have:∀ w:List PV→Int→(Bool→Prop)→Prop,∀ (a:List PV) (b:Int) (K:PV→Prop),Mm.pw w [.data a,.int .i64 b] K=w a b (fun r=>K (.bool r)):=fun _ _ _ _=>by kernel_rfl
   rw [this,yAg hl])
  subst hr;exact ⟨_,h,hk⟩
 ·exact h.elim
end
theorem SEOk.sub {S:SE} {P:EP} (hP:aM P S.E) (h:SEOk (bW S.E) S):SEOk P S where
 sb:=hP
 sum:=fun n wp hw as K k=>by
  obtain ⟨r,h1,h2⟩:=h.sum n wp hw as K k;exact ⟨r,h1,h2.sub fun _ _ he=>hP _ _ he⟩
 inl:=fun n fn hf=>by
  obtain ⟨h1,h2,h3,h4,h5,h6,h7⟩:=h.inl n fn hf;exact ⟨h1,h2,h3,h4,h5,h6,LpOk.sub (fun n e he=>hP n e he) _ h6 h7⟩
 eff:=h.eff
 sumL:=fun n wp hw as b K k=>by obtain ⟨q,rows,h1,m0,h2⟩:=h.sumL n wp hw as b K k;exact ⟨q,rows,h1,m0,fun k e m k1 k2 k3=>h2 k e m k1 (hP _ _ k2) k3⟩
theorem bP.inl_ {P:EP} {E:Env} (hP:aM P E) {n:Nat} {fn:AFn} (hf:E.fns n=some fn) (he:∀ as H,E.eff n as H=none) {args:List PV} {H:Hp} {K:PV→Hp→Prop} (h1:args.length=fn.nparams)
  (h:bP P fn.body (gT 0 args) H (fun x F' H'=>match x with
   | .exit _ | .brk _ _=>False
   | .norm | .ret=>(match ydz F' H' fn.results with | some ps=>K (mE ps) H' | none=>False))) :
  ∃ r H',K r H'∧∃ m0,∀ k e m,m0≤k→P k e→m0≤m→yak e m n args H=some (r,H'):=by
 obtain ⟨x,F',H',hk,m0,hm⟩:=h;have key:(match ydz F' H' fn.results with | some ps=>K (mE ps) H' | none=>False)→(x=.norm∨x=.ret) →
   ∃ r H',K r H'∧∃ m0,∀ k e m,m0≤k→P k e→m0≤m→yak e m n args H=some (r,H'):=by
  intro hk hx;split at hk
  ·rename_i ps hps;refine ⟨_,_,hk,m0+1,fun k e m hkl hp hle=>?_⟩;obtain ⟨q,rfl⟩:∃ q,m=q+1:=⟨m-1,by omega⟩;have e0:=hm k e q (by omega) hp (by omega);obtain ⟨l1,_,_,_,_,_,l7⟩:=tM (hP k e hp);simp only [yak,Env.effx,vK,l7,l1,he,hf,h1,if_true];rw [e0];rcases hx with rfl | rfl<;>simp only [hps]
  ·exact hk.elim
 cases x with
 | norm=>exact key hk (.inl rfl)
 | exit i=>exact hk.elim
 | brk _ _=>exact hk.elim
 | ret=>exact key hk (.inr rfl)
section
variable {e:Es}
abbrev bS (e:Es):SE:=Nf e jR lK gO
theorem VD (he:EG e):SEOk (bW (E e)) (bS e):=bZ (aM.uni _) ⟨Mt e he,Jg e he,Mu e he,yLN he,trivial⟩
 ⟨⟨by kernel_rfl,by kernel_rfl,by kernel_rfl,fun as=>kR (by kernel_rfl) _,he.num _ (by kernel_rfl),by kernel_rfl,bC (by kernel_rfl)⟩,trivial⟩ he.ok
theorem yIz (he:EG e) {P:EP} (hP:aM P (E e)):∀ n fn,inlG n=some fn→InlY P (E e) (X3 e) n fn:=by
 intro n fn h;unfold inlG yfD yfD at h
 cases c:Nat.beq CA n with
 | false=>rw [c] at h;cases h
 | true=>
  rw [c] at h;have:=fU c;subst this
  cases h
  exact ⟨by kernel_rfl,by kernel_rfl,by kernel_rfl,by kernel_rfl,by kernel_rfl,fun as=>kR (by kernel_rfl) _,he.num _ (by kernel_rfl),by kernel_rfl,
   fun cK hg=>gA (l:=[(61763900,.loop 61763900 (iO Qr))]) ⟨fun F H Q h=>UC hP hg (by kernel_rfl) (bC (by kernel_rfl)) h,trivial⟩ (by kernel_rfl)⟩
variable (fi:List PV→Nat) (f0 f1 g0 g1:List PV→Int) (YY:List PV→Hp→Prop)
theorem VE (n:Nat) {K:Hp→Prop}:∀ (evs:List (List Int)) (H:Hp),(∀ p∈xD fi f0 f1 g0 g1 n evs H,YY p.1 p.2)→K (Am fi f0 f1 g0 g1 n evs H)→Al fi f0 f1 g0 g1 YY n evs H K
 | [],_,_,k=>k
 | p::r,H,h,k=>by
  unfold xD at h;unfold Am at k;unfold Al
  cases c:Nat.beq p.length n with
  | true =>rw [c] at h k;exact ⟨h _ (iP ..),VE n r _ (fun q hq=>h q (gL _ hq)) k⟩
  | false =>rw [c] at h k;exact VE n r _ h k
abbrev DU (e:Es):EP:=Rng (E e) (eJ dB) [17] (erase (iO FO)) (erase (iO FQ))
theorem yNh (he:EG e):cS (DU e) (E e) (wY e jR lK gO):=
 jz (dV (VD he) 4) (by kernel_rfl) (by kernel_rfl) (bC (by kernel_rfl)) (bC (by kernel_rfl))
theorem yNi (he:EG e) (hY:∀ vs H,YY vs H→wY e jR lK gO vs H fun r H'=>r=none∧H'=bT fi f0 f1 g0 g1 vs H) {L:List PV} {n:Nat} {Q:Ex→aF→Hp→Prop}
  (h:wB e jR lK gO fi f0 f1 g0 g1 YY L n Q):bP (DU e) (erase (GR FN).body) (gT 0 [.fn (.yield 0) [] [],.ptr 3 1 0 0]) (uU L n) Q:=by
 unfold wB at h;have hg:=YW (S:=bS e) (d0:=4) (SEOk.sub (aM.rng (E e) (eJ dB) [17] (erase (iO FO)) (erase (iO FQ))) (VD he)) (mf (yNh he) hY) (yIz he (aM.rng _ _ _ _ _)) 8;refine nS (lp:=fun _ _ _ _ _=>False) (GR FN).body (DU e) (aM.rng _ _ _ _ _) hg (bN.flat ?_) [] cC (cS.no _ _) (bC ?_ ?_) _ _ _ h
 ·kernel_rfl
 ·kernel_rfl
 ·kernel_rfl
end
def Y3:TC:=match yHP.body with | .seq a _=>a | _=>.skip
def Y4:TC:=match yHP.body with | .seq _ (.seq b _)=>b | _=>.skip
def GS:TC:=match yHP.body with | .seq _ (.seq _ (.seq (.seq c _) _))=>c | _=>.skip
def fO:TC:=match yHP.body with | .seq _ (.seq _ (.seq _ d))=>d | _=>.skip
theorem yEH:yHP.fn.body=.seq (erase (iO Y3)) (.seq (erase (iO Y4)) (.seq (.seq (erase (iO GS)) (.block 0 (.rangeF (.t 16) [17] (erase (iO FO)) (erase (iO FQ))))) (erase (iO fO)))):=by kernel_rfl
def Y5:List PV→List Int
 | .int .i64 x::r=>x::Y5 r
 | _=>[]
def eV (n:Nat) (rows:List PV):Nat:=((dZ n).filter fun p=>Nat.beq p.length n).findIdx fun p=>p==Y5 rows
def dC:Nat→Nat
 | 0=>1
 | n+1=>(n+1)*dC n
theorem yLO:eV 1 (aD 1 0)=0:=by kernel_rfl
theorem yLP:eV 2 (aD 2 0)=0:=by kernel_rfl
theorem yLQ:eV 2 (aD 2 1)=1:=by kernel_rfl
theorem yLR:eV 3 (aD 3 0)=0:=by kernel_rfl
theorem yLS:eV 3 (aD 3 1)=1:=by kernel_rfl
theorem yLT:eV 3 (aD 3 2)=2:=by kernel_rfl
theorem yLU:eV 3 (aD 3 3)=3:=by kernel_rfl
theorem yLV:eV 3 (aD 3 4)=4:=by kernel_rfl
theorem yLW:eV 3 (aD 3 5)=5:=by kernel_rfl
theorem yLX:eV 4 (aD 4 0)=0:=by kernel_rfl
theorem yLY:eV 4 (aD 4 1)=1:=by kernel_rfl
theorem yLZ:eV 4 (aD 4 2)=2:=by kernel_rfl
theorem yL0:eV 4 (aD 4 3)=3:=by kernel_rfl
theorem yL1:eV 4 (aD 4 4)=4:=by kernel_rfl
theorem yL2:eV 4 (aD 4 5)=5:=by kernel_rfl
theorem yL3:eV 4 (aD 4 6)=6:=by kernel_rfl
theorem yL4:eV 4 (aD 4 7)=7:=by kernel_rfl
theorem yL5:eV 4 (aD 4 8)=8:=by kernel_rfl
theorem yL6:eV 4 (aD 4 9)=9:=by kernel_rfl
theorem yIA:eV 4 (aD 4 10)=10:=by kernel_rfl
theorem yIB:eV 4 (aD 4 11)=11:=by kernel_rfl
theorem yIC:eV 4 (aD 4 12)=12:=by kernel_rfl
theorem yID:eV 4 (aD 4 13)=13:=by kernel_rfl
theorem yIE:eV 4 (aD 4 14)=14:=by kernel_rfl
theorem yIF:eV 4 (aD 4 15)=15:=by kernel_rfl
theorem yIG:eV 4 (aD 4 16)=16:=by kernel_rfl
theorem yIH:eV 4 (aD 4 17)=17:=by kernel_rfl
theorem yII:eV 4 (aD 4 18)=18:=by kernel_rfl
theorem yIJ:eV 4 (aD 4 19)=19:=by kernel_rfl
theorem yIK:eV 4 (aD 4 20)=20:=by kernel_rfl
theorem yIL:eV 4 (aD 4 21)=21:=by kernel_rfl
theorem yIM:eV 4 (aD 4 22)=22:=by kernel_rfl
theorem yIN:eV 4 (aD 4 23)=23:=by kernel_rfl
section
variable (e:Es) (aC:iY) (aP:(List PV→List PV→(Int→Int→Prop)→Prop)) (aL:fM)
variable (fi:List PV→Nat) (f0 f1 g0 g1:List PV→Int)
def wX (c:TC) (F:aF) (H:Hp) (Q:Ex→aF→Hp→Prop):Prop:=WC (E e) (jO (Nf e aC aP aL) 4) (fun _ _ _ _ _=>False) [] cC (iO c) F H Q
def BH:aF:=[(1,.v (.ptr 0 1 0 0)),(2,.v (.ptr 1 1 0 0)),(3,.v (.ptr 2 1 0 0)),(4,.v (.int .i64 0))]
def mJ (L:List PV):Hp:=[⟨false,false,1,[.data L]⟩,⟨false,false,1,[.nils]⟩,⟨false,false,2,[aX 0 0]⟩]
theorem yNj (L:List PV) (Q:Ex→aF→Hp→Prop):wX e aC aP aL Y3 (gT 0 [.data L]) [] Q=Q .norm BH (mJ L):=by kernel_rfl
theorem yL7 (L:List PV) (Q:Ex→aF→Hp→Prop):wX e aC aP aL Y4 BH (mJ L) Q=aC L fun r=>aG (r !=0) (Q .ret [(2,.v (.ptr 1 1 0 0)),(3,.v (.ptr 2 1 0 0)),(4,.v (.int .i64 r))] (mJ L)) (Q .norm (BH++[(5,.v (.int .i64 r)),(11,.v (.bool false))]) (mJ L)):=by kernel_rfl
def fI:List PV:=[.fn (.yield 0) [] []]
def fJ:List PV:=[.fn (.func CA) [] [.ptr 3 1 0 0,.ptr 4 1 0 0,.ptr 5 1 0 0]]
def bX (K:PV→Prop) (x:Ex) (F':aF) (H':Hp):Prop:=match x with
 | .norm | .ret=>(match ydz F' H' yHP.results with | some ps=>(match purR H' (mE ps) with | some r=>K r | none=>False) | none=>False)
 | _=>False
def Ao (c0:PV) (y4 y5:List PV) (i:Nat) (a b:Int):Hp:=[⟨false,false,1,[.data [c0]]⟩,⟨false,false,1,[.own i 0 1 1 none]⟩,⟨false,false,2,[aX a b]⟩,⟨false,false,1,[.int .i64 1]⟩,⟨false,false,1,y4⟩,⟨false,false,1,y5⟩,⟨false,true,1,aB [0]⟩,⟨false,false,2,[aX (g0 (aB [0])) (g1 (aB [0]))]⟩]
theorem VF (c0:PV) (Q:Ex→aF→Hp→Prop):wX e aC aP aL GS (BH++[(5,.v (.int .i64 0)),(11,.v (.bool false))]) (mJ [c0]) Q=Q .norm dB (uU [c0] 1):=by kernel_rfl
theorem VG (c0:PV):(xD fi f0 f1 g0 g1 1 (dZ 1) (nZ [c0] 1)).length=1:=by kernel_rfl
theorem VH (c0:PV):Am fi f0 f1 g0 g1 1 (dZ 1) (nZ [c0] 1)=Ao g0 g1 c0 fI fJ (fi (aD 1 0)) (f0 (aD 1 0)) (f1 (aD 1 0)):=by kernel_rfl
theorem yL8 (c0:PV) (a b:Int):clrY 0 4 (Ao g0 g1 c0 fI fJ (aT 1 0) a b)=some (Ao g0 g1 c0 [] [] (aT 1 0) a b):=by kernel_rfl
theorem yL9 (c0:PV) (a b:Int) (K:PV→Prop):wX e aC aP aL fO dB (Ao g0 g1 c0 [] [] (aT 1 0) a b) (bX K)=K (.tup [.data (aD 1 0),aX a b,.int .i64 0]):=by kernel_rfl
def pF (c0 c1:PV) (y4 y5:List PV) (i:Nat) (a b:Int):Hp:=[⟨false,false,1,[.data [c0,c1]]⟩,⟨false,false,1,[.own i 0 2 2 none]⟩,⟨false,false,2,[aX a b]⟩,⟨false,false,1,[.int .i64 2]⟩,⟨false,false,1,y4⟩,⟨false,false,1,y5⟩,⟨false,true,1,aB [0]⟩,⟨false,true,1,aB [0,1]⟩,⟨false,false,2,[aX (g0 (aB [0,1])) (g1 (aB [0,1]))]⟩,⟨false,true,1,aB [1]⟩,⟨false,true,1,aB [1,0]⟩,⟨false,false,2,[aX (g0 (aB [1,0])) (g1 (aB [1,0]))]⟩]
theorem VI (c0 c1:PV) (Q:Ex→aF→Hp→Prop):wX e aC aP aL GS (BH++[(5,.v (.int .i64 0)),(11,.v (.bool false))]) (mJ [c0,c1]) Q=Q .norm dB (uU [c0,c1] 2):=by kernel_rfl
theorem VJ (c0 c1:PV):(xD fi f0 f1 g0 g1 2 (dZ 2) (nZ [c0,c1] 2)).length=2:=by kernel_rfl
theorem JI (c0 c1:PV):Am fi f0 f1 g0 g1 2 (dZ 2) (nZ [c0,c1] 2)=pF g0 g1 c0 c1 fI fJ (fi (aD 2 1)) (f0 (aD 2 1)) (f1 (aD 2 1)):=by kernel_rfl
theorem yMa (c0 c1:PV) (a b:Int):clrY 0 4 (pF g0 g1 c0 c1 fI fJ (aT 2 0) a b)=some (pF g0 g1 c0 c1 [] [] (aT 2 0) a b):=by kernel_rfl
theorem yMb (c0 c1:PV) (a b:Int) (K:PV→Prop):wX e aC aP aL fO dB (pF g0 g1 c0 c1 [] [] (aT 2 0) a b) (bX K)=K (.tup [.data (aD 2 0),aX a b,.int .i64 0]):=by kernel_rfl
theorem yMc (c0 c1:PV) (a b:Int):clrY 0 4 (pF g0 g1 c0 c1 fI fJ (aT 2 1) a b)=some (pF g0 g1 c0 c1 [] [] (aT 2 1) a b):=by kernel_rfl
theorem yMd (c0 c1:PV) (a b:Int) (K:PV→Prop):wX e aC aP aL fO dB (pF g0 g1 c0 c1 [] [] (aT 2 1) a b) (bX K)=K (.tup [.data (aD 2 1),aX a b,.int .i64 0]):=by kernel_rfl
def eW (c0 c1 c2:PV) (y4 y5:List PV) (i:Nat) (a b:Int):Hp:=[⟨false,false,1,[.data [c0,c1,c2]]⟩,⟨false,false,1,[.own i 0 3 3 none]⟩,⟨false,false,2,[aX a b]⟩,⟨false,false,1,[.int .i64 3]⟩,⟨false,false,1,y4⟩,⟨false,false,1,y5⟩,⟨false,true,1,aB [0]⟩,⟨false,true,1,aB [0,1]⟩,⟨false,true,1,aB [0,1,2]⟩,⟨false,false,2,[aX (g0 (aB [0,1,2])) (g1 (aB [0,1,2]))]⟩,⟨false,true,1,aB [0,2]⟩,⟨false,true,1,aB [0,2,1]⟩,⟨false,false,2,[aX (g0 (aB [0,2,1])) (g1 (aB [0,2,1]))]⟩,⟨false,true,1,aB [1]⟩,⟨false,true,1,aB [1,0]⟩,⟨false,true,1,aB [1,0,2]⟩,⟨false,false,2,[aX (g0 (aB [1,0,2])) (g1 (aB [1,0,2]))]⟩,⟨false,true,1,aB [1,2]⟩,⟨false,true,1,aB [1,2,0]⟩,⟨false,false,2,[aX (g0 (aB [1,2,0])) (g1 (aB [1,2,0]))]⟩,⟨false,true,1,aB [2]⟩,⟨false,true,1,aB [2,0]⟩,⟨false,true,1,aB [2,0,1]⟩,⟨false,false,2,[aX (g0 (aB [2,0,1])) (g1 (aB [2,0,1]))]⟩,⟨false,true,1,aB [2,1]⟩,⟨false,true,1,aB [2,1,0]⟩,⟨false,false,2,[aX (g0 (aB [2,1,0])) (g1 (aB [2,1,0]))]⟩]
theorem VK (c0 c1 c2:PV) (Q:Ex→aF→Hp→Prop):wX e aC aP aL GS (BH++[(5,.v (.int .i64 0)),(11,.v (.bool false))]) (mJ [c0,c1,c2]) Q=Q .norm dB (uU [c0,c1,c2] 3):=by kernel_rfl
theorem VL (c0 c1 c2:PV):(xD fi f0 f1 g0 g1 3 (dZ 3) (nZ [c0,c1,c2] 3)).length=6:=by kernel_rfl
theorem rQ (c0 c1 c2:PV):Am fi f0 f1 g0 g1 3 (dZ 3) (nZ [c0,c1,c2] 3)=eW g0 g1 c0 c1 c2 fI fJ (fi (aD 3 5)) (f0 (aD 3 5)) (f1 (aD 3 5)):=by kernel_rfl
theorem yMe (c0 c1 c2:PV) (a b:Int):clrY 0 4 (eW g0 g1 c0 c1 c2 fI fJ (aT 3 0) a b)=some (eW g0 g1 c0 c1 c2 [] [] (aT 3 0) a b):=by kernel_rfl
theorem yMf (c0 c1 c2:PV) (a b:Int) (K:PV→Prop):wX e aC aP aL fO dB (eW g0 g1 c0 c1 c2 [] [] (aT 3 0) a b) (bX K)=K (.tup [.data (aD 3 0),aX a b,.int .i64 0]):=by kernel_rfl
theorem yMg (c0 c1 c2:PV) (a b:Int):clrY 0 4 (eW g0 g1 c0 c1 c2 fI fJ (aT 3 1) a b)=some (eW g0 g1 c0 c1 c2 [] [] (aT 3 1) a b):=by kernel_rfl
theorem yMh (c0 c1 c2:PV) (a b:Int) (K:PV→Prop):wX e aC aP aL fO dB (eW g0 g1 c0 c1 c2 [] [] (aT 3 1) a b) (bX K)=K (.tup [.data (aD 3 1),aX a b,.int .i64 0]):=by kernel_rfl
theorem yMi (c0 c1 c2:PV) (a b:Int):clrY 0 4 (eW g0 g1 c0 c1 c2 fI fJ (aT 3 2) a b)=some (eW g0 g1 c0 c1 c2 [] [] (aT 3 2) a b):=by kernel_rfl
theorem yMj (c0 c1 c2:PV) (a b:Int) (K:PV→Prop):wX e aC aP aL fO dB (eW g0 g1 c0 c1 c2 [] [] (aT 3 2) a b) (bX K)=K (.tup [.data (aD 3 2),aX a b,.int .i64 0]):=by kernel_rfl
theorem yMk (c0 c1 c2:PV) (a b:Int):clrY 0 4 (eW g0 g1 c0 c1 c2 fI fJ (aT 3 3) a b)=some (eW g0 g1 c0 c1 c2 [] [] (aT 3 3) a b):=by kernel_rfl
theorem yMl (c0 c1 c2:PV) (a b:Int) (K:PV→Prop):wX e aC aP aL fO dB (eW g0 g1 c0 c1 c2 [] [] (aT 3 3) a b) (bX K)=K (.tup [.data (aD 3 3),aX a b,.int .i64 0]):=by kernel_rfl
theorem yMm (c0 c1 c2:PV) (a b:Int):clrY 0 4 (eW g0 g1 c0 c1 c2 fI fJ (aT 3 4) a b)=some (eW g0 g1 c0 c1 c2 [] [] (aT 3 4) a b):=by kernel_rfl
theorem yMn (c0 c1 c2:PV) (a b:Int) (K:PV→Prop):wX e aC aP aL fO dB (eW g0 g1 c0 c1 c2 [] [] (aT 3 4) a b) (bX K)=K (.tup [.data (aD 3 4),aX a b,.int .i64 0]):=by kernel_rfl
theorem yMo (c0 c1 c2:PV) (a b:Int):clrY 0 4 (eW g0 g1 c0 c1 c2 fI fJ (aT 3 5) a b)=some (eW g0 g1 c0 c1 c2 [] [] (aT 3 5) a b):=by kernel_rfl
theorem yMp (c0 c1 c2:PV) (a b:Int) (K:PV→Prop):wX e aC aP aL fO dB (eW g0 g1 c0 c1 c2 [] [] (aT 3 5) a b) (bX K)=K (.tup [.data (aD 3 5),aX a b,.int .i64 0]):=by kernel_rfl
def aQ (c0 c1 c2 c3:PV) (y4 y5:List PV) (i:Nat) (a b:Int):Hp:=[⟨false,false,1,[.data [c0,c1,c2,c3]]⟩,⟨false,false,1,[.own i 0 4 4 none]⟩,⟨false,false,2,[aX a b]⟩,⟨false,false,1,[.int .i64 4]⟩,⟨false,false,1,y4⟩,⟨false,false,1,y5⟩,⟨false,true,1,aB [0]⟩,⟨false,true,1,aB [0,1]⟩,⟨false,true,1,aB [0,1,2]⟩,⟨false,true,1,aB [0,1,2,3]⟩,⟨false,false,2,[aX (g0 (aB [0,1,2,3])) (g1 (aB [0,1,2,3]))]⟩,⟨false,true,1,aB [0,1,3]⟩,⟨false,true,1,aB [0,1,3,2]⟩,⟨false,false,2,[aX (g0 (aB [0,1,3,2])) (g1 (aB [0,1,3,2]))]⟩,⟨false,true,1,aB [0,2]⟩,⟨false,true,1,aB [0,2,1]⟩,⟨false,true,1,aB [0,2,1,3]⟩,⟨false,false,2,[aX (g0 (aB [0,2,1,3])) (g1 (aB [0,2,1,3]))]⟩,⟨false,true,1,aB [0,2,3]⟩,⟨false,true,1,aB [0,2,3,1]⟩,⟨false,false,2,[aX (g0 (aB [0,2,3,1])) (g1 (aB [0,2,3,1]))]⟩,⟨false,true,1,aB [0,3]⟩,⟨false,true,1,aB [0,3,1]⟩,⟨false,true,1,aB [0,3,1,2]⟩,⟨false,false,2,[aX (g0 (aB [0,3,1,2])) (g1 (aB [0,3,1,2]))]⟩,⟨false,true,1,aB [0,3,2]⟩,⟨false,true,1,aB [0,3,2,1]⟩,⟨false,false,2,[aX (g0 (aB [0,3,2,1])) (g1 (aB [0,3,2,1]))]⟩,⟨false,true,1,aB [1]⟩,⟨false,true,1,aB [1,0]⟩,⟨false,true,1,aB [1,0,2]⟩,⟨false,true,1,aB [1,0,2,3]⟩,⟨false,false,2,[aX (g0 (aB [1,0,2,3])) (g1 (aB [1,0,2,3]))]⟩,⟨false,true,1,aB [1,0,3]⟩,⟨false,true,1,aB [1,0,3,2]⟩,⟨false,false,2,[aX (g0 (aB [1,0,3,2])) (g1 (aB [1,0,3,2]))]⟩,⟨false,true,1,aB [1,2]⟩,⟨false,true,1,aB [1,2,0]⟩,⟨false,true,1,aB [1,2,0,3]⟩,⟨false,false,2,[aX (g0 (aB [1,2,0,3])) (g1 (aB [1,2,0,3]))]⟩,⟨false,true,1,aB [1,2,3]⟩,⟨false,true,1,aB [1,2,3,0]⟩,⟨false,false,2,[aX (g0 (aB [1,2,3,0])) (g1 (aB [1,2,3,0]))]⟩,⟨false,true,1,aB [1,3]⟩,⟨false,true,1,aB [1,3,0]⟩,⟨false,true,1,aB [1,3,0,2]⟩,⟨false,false,2,[aX (g0 (aB [1,3,0,2])) (g1 (aB [1,3,0,2]))]⟩,⟨false,true,1,aB [1,3,2]⟩,⟨false,true,1,aB [1,3,2,0]⟩,⟨false,false,2,[aX (g0 (aB [1,3,2,0])) (g1 (aB [1,3,2,0]))]⟩,⟨false,true,1,aB [2]⟩,⟨false,true,1,aB [2,0]⟩,⟨false,true,1,aB [2,0,1]⟩,⟨false,true,1,aB [2,0,1,3]⟩,⟨false,false,2,[aX (g0 (aB [2,0,1,3])) (g1 (aB [2,0,1,3]))]⟩,⟨false,true,1,aB [2,0,3]⟩,⟨false,true,1,aB [2,0,3,1]⟩,⟨false,false,2,[aX (g0 (aB [2,0,3,1])) (g1 (aB [2,0,3,1]))]⟩,⟨false,true,1,aB [2,1]⟩,⟨false,true,1,aB [2,1,0]⟩,⟨false,true,1,aB [2,1,0,3]⟩,⟨false,false,2,[aX (g0 (aB [2,1,0,3])) (g1 (aB [2,1,0,3]))]⟩,⟨false,true,1,aB [2,1,3]⟩,⟨false,true,1,aB [2,1,3,0]⟩,⟨false,false,2,[aX (g0 (aB [2,1,3,0])) (g1 (aB [2,1,3,0]))]⟩,⟨false,true,1,aB [2,3]⟩,⟨false,true,1,aB [2,3,0]⟩,⟨false,true,1,aB [2,3,0,1]⟩,⟨false,false,2,[aX (g0 (aB [2,3,0,1])) (g1 (aB [2,3,0,1]))]⟩,⟨false,true,1,aB [2,3,1]⟩,⟨false,true,1,aB [2,3,1,0]⟩,⟨false,false,2,[aX (g0 (aB [2,3,1,0])) (g1 (aB [2,3,1,0]))]⟩,⟨false,true,1,aB [3]⟩,⟨false,true,1,aB [3,0]⟩,⟨false,true,1,aB [3,0,1]⟩,⟨false,true,1,aB [3,0,1,2]⟩,⟨false,false,2,[aX (g0 (aB [3,0,1,2])) (g1 (aB [3,0,1,2]))]⟩,⟨false,true,1,aB [3,0,2]⟩,⟨false,true,1,aB [3,0,2,1]⟩,⟨false,false,2,[aX (g0 (aB [3,0,2,1])) (g1 (aB [3,0,2,1]))]⟩,⟨false,true,1,aB [3,1]⟩,⟨false,true,1,aB [3,1,0]⟩,⟨false,true,1,aB [3,1,0,2]⟩,⟨false,false,2,[aX (g0 (aB [3,1,0,2])) (g1 (aB [3,1,0,2]))]⟩,⟨false,true,1,aB [3,1,2]⟩,⟨false,true,1,aB [3,1,2,0]⟩,⟨false,false,2,[aX (g0 (aB [3,1,2,0])) (g1 (aB [3,1,2,0]))]⟩,⟨false,true,1,aB [3,2]⟩,⟨false,true,1,aB [3,2,0]⟩,⟨false,true,1,aB [3,2,0,1]⟩,⟨false,false,2,[aX (g0 (aB [3,2,0,1])) (g1 (aB [3,2,0,1]))]⟩,⟨false,true,1,aB [3,2,1]⟩,⟨false,true,1,aB [3,2,1,0]⟩,⟨false,false,2,[aX (g0 (aB [3,2,1,0])) (g1 (aB [3,2,1,0]))]⟩]
theorem VM (c0 c1 c2 c3:PV) (Q:Ex→aF→Hp→Prop):wX e aC aP aL GS (BH++[(5,.v (.int .i64 0)),(11,.v (.bool false))]) (mJ [c0,c1,c2,c3]) Q=Q .norm dB (uU [c0,c1,c2,c3] 4):=by kernel_rfl
theorem VN (c0 c1 c2 c3:PV):(xD fi f0 f1 g0 g1 4 (dZ 4) (nZ [c0,c1,c2,c3] 4)).length=24:=by kernel_rfl
theorem dD (c0 c1 c2 c3:PV):Am fi f0 f1 g0 g1 4 (dZ 4) (nZ [c0,c1,c2,c3] 4)=aQ g0 g1 c0 c1 c2 c3 fI fJ (fi (aD 4 23)) (f0 (aD 4 23)) (f1 (aD 4 23)):=by kernel_rfl
theorem yMq (c0 c1 c2 c3:PV) (a b:Int):clrY 0 4 (aQ g0 g1 c0 c1 c2 c3 fI fJ (aT 4 0) a b)=some (aQ g0 g1 c0 c1 c2 c3 [] [] (aT 4 0) a b):=by kernel_rfl
theorem yMr (c0 c1 c2 c3:PV) (a b:Int) (K:PV→Prop):wX e aC aP aL fO dB (aQ g0 g1 c0 c1 c2 c3 [] [] (aT 4 0) a b) (bX K)=K (.tup [.data (aD 4 0),aX a b,.int .i64 0]):=by kernel_rfl
theorem yMs (c0 c1 c2 c3:PV) (a b:Int):clrY 0 4 (aQ g0 g1 c0 c1 c2 c3 fI fJ (aT 4 1) a b)=some (aQ g0 g1 c0 c1 c2 c3 [] [] (aT 4 1) a b):=by kernel_rfl
theorem yMt (c0 c1 c2 c3:PV) (a b:Int) (K:PV→Prop):wX e aC aP aL fO dB (aQ g0 g1 c0 c1 c2 c3 [] [] (aT 4 1) a b) (bX K)=K (.tup [.data (aD 4 1),aX a b,.int .i64 0]):=by kernel_rfl
theorem yMu (c0 c1 c2 c3:PV) (a b:Int):clrY 0 4 (aQ g0 g1 c0 c1 c2 c3 fI fJ (aT 4 2) a b)=some (aQ g0 g1 c0 c1 c2 c3 [] [] (aT 4 2) a b):=by kernel_rfl
theorem yMv (c0 c1 c2 c3:PV) (a b:Int) (K:PV→Prop):wX e aC aP aL fO dB (aQ g0 g1 c0 c1 c2 c3 [] [] (aT 4 2) a b) (bX K)=K (.tup [.data (aD 4 2),aX a b,.int .i64 0]):=by kernel_rfl
theorem yMw (c0 c1 c2 c3:PV) (a b:Int):clrY 0 4 (aQ g0 g1 c0 c1 c2 c3 fI fJ (aT 4 3) a b)=some (aQ g0 g1 c0 c1 c2 c3 [] [] (aT 4 3) a b):=by kernel_rfl
theorem yMx (c0 c1 c2 c3:PV) (a b:Int) (K:PV→Prop):wX e aC aP aL fO dB (aQ g0 g1 c0 c1 c2 c3 [] [] (aT 4 3) a b) (bX K)=K (.tup [.data (aD 4 3),aX a b,.int .i64 0]):=by kernel_rfl
theorem yMy (c0 c1 c2 c3:PV) (a b:Int):clrY 0 4 (aQ g0 g1 c0 c1 c2 c3 fI fJ (aT 4 4) a b)=some (aQ g0 g1 c0 c1 c2 c3 [] [] (aT 4 4) a b):=by kernel_rfl
theorem yMz (c0 c1 c2 c3:PV) (a b:Int) (K:PV→Prop):wX e aC aP aL fO dB (aQ g0 g1 c0 c1 c2 c3 [] [] (aT 4 4) a b) (bX K)=K (.tup [.data (aD 4 4),aX a b,.int .i64 0]):=by kernel_rfl
theorem yMA (c0 c1 c2 c3:PV) (a b:Int):clrY 0 4 (aQ g0 g1 c0 c1 c2 c3 fI fJ (aT 4 5) a b)=some (aQ g0 g1 c0 c1 c2 c3 [] [] (aT 4 5) a b):=by kernel_rfl
theorem yMB (c0 c1 c2 c3:PV) (a b:Int) (K:PV→Prop):wX e aC aP aL fO dB (aQ g0 g1 c0 c1 c2 c3 [] [] (aT 4 5) a b) (bX K)=K (.tup [.data (aD 4 5),aX a b,.int .i64 0]):=by kernel_rfl
theorem yMC (c0 c1 c2 c3:PV) (a b:Int):clrY 0 4 (aQ g0 g1 c0 c1 c2 c3 fI fJ (aT 4 6) a b)=some (aQ g0 g1 c0 c1 c2 c3 [] [] (aT 4 6) a b):=by kernel_rfl
theorem yMD (c0 c1 c2 c3:PV) (a b:Int) (K:PV→Prop):wX e aC aP aL fO dB (aQ g0 g1 c0 c1 c2 c3 [] [] (aT 4 6) a b) (bX K)=K (.tup [.data (aD 4 6),aX a b,.int .i64 0]):=by kernel_rfl
theorem yME (c0 c1 c2 c3:PV) (a b:Int):clrY 0 4 (aQ g0 g1 c0 c1 c2 c3 fI fJ (aT 4 7) a b)=some (aQ g0 g1 c0 c1 c2 c3 [] [] (aT 4 7) a b):=by kernel_rfl
theorem yMF (c0 c1 c2 c3:PV) (a b:Int) (K:PV→Prop):wX e aC aP aL fO dB (aQ g0 g1 c0 c1 c2 c3 [] [] (aT 4 7) a b) (bX K)=K (.tup [.data (aD 4 7),aX a b,.int .i64 0]):=by kernel_rfl
theorem yMG (c0 c1 c2 c3:PV) (a b:Int):clrY 0 4 (aQ g0 g1 c0 c1 c2 c3 fI fJ (aT 4 8) a b)=some (aQ g0 g1 c0 c1 c2 c3 [] [] (aT 4 8) a b):=by kernel_rfl
theorem yMH (c0 c1 c2 c3:PV) (a b:Int) (K:PV→Prop):wX e aC aP aL fO dB (aQ g0 g1 c0 c1 c2 c3 [] [] (aT 4 8) a b) (bX K)=K (.tup [.data (aD 4 8),aX a b,.int .i64 0]):=by kernel_rfl
theorem yMI (c0 c1 c2 c3:PV) (a b:Int):clrY 0 4 (aQ g0 g1 c0 c1 c2 c3 fI fJ (aT 4 9) a b)=some (aQ g0 g1 c0 c1 c2 c3 [] [] (aT 4 9) a b):=by kernel_rfl
theorem yMJ (c0 c1 c2 c3:PV) (a b:Int) (K:PV→Prop):wX e aC aP aL fO dB (aQ g0 g1 c0 c1 c2 c3 [] [] (aT 4 9) a b) (bX K)=K (.tup [.data (aD 4 9),aX a b,.int .i64 0]):=by kernel_rfl
theorem yIO (c0 c1 c2 c3:PV) (a b:Int):clrY 0 4 (aQ g0 g1 c0 c1 c2 c3 fI fJ (aT 4 10) a b)=some (aQ g0 g1 c0 c1 c2 c3 [] [] (aT 4 10) a b):=by kernel_rfl
theorem yIP (c0 c1 c2 c3:PV) (a b:Int) (K:PV→Prop):wX e aC aP aL fO dB (aQ g0 g1 c0 c1 c2 c3 [] [] (aT 4 10) a b) (bX K)=K (.tup [.data (aD 4 10),aX a b,.int .i64 0]):=by kernel_rfl
theorem yIQ (c0 c1 c2 c3:PV) (a b:Int):clrY 0 4 (aQ g0 g1 c0 c1 c2 c3 fI fJ (aT 4 11) a b)=some (aQ g0 g1 c0 c1 c2 c3 [] [] (aT 4 11) a b):=by kernel_rfl
theorem yIR (c0 c1 c2 c3:PV) (a b:Int) (K:PV→Prop):wX e aC aP aL fO dB (aQ g0 g1 c0 c1 c2 c3 [] [] (aT 4 11) a b) (bX K)=K (.tup [.data (aD 4 11),aX a b,.int .i64 0]):=by kernel_rfl
theorem yIS (c0 c1 c2 c3:PV) (a b:Int):clrY 0 4 (aQ g0 g1 c0 c1 c2 c3 fI fJ (aT 4 12) a b)=some (aQ g0 g1 c0 c1 c2 c3 [] [] (aT 4 12) a b):=by kernel_rfl
theorem yIT (c0 c1 c2 c3:PV) (a b:Int) (K:PV→Prop):wX e aC aP aL fO dB (aQ g0 g1 c0 c1 c2 c3 [] [] (aT 4 12) a b) (bX K)=K (.tup [.data (aD 4 12),aX a b,.int .i64 0]):=by kernel_rfl
theorem yIU (c0 c1 c2 c3:PV) (a b:Int):clrY 0 4 (aQ g0 g1 c0 c1 c2 c3 fI fJ (aT 4 13) a b)=some (aQ g0 g1 c0 c1 c2 c3 [] [] (aT 4 13) a b):=by kernel_rfl
theorem yIV (c0 c1 c2 c3:PV) (a b:Int) (K:PV→Prop):wX e aC aP aL fO dB (aQ g0 g1 c0 c1 c2 c3 [] [] (aT 4 13) a b) (bX K)=K (.tup [.data (aD 4 13),aX a b,.int .i64 0]):=by kernel_rfl
theorem yIW (c0 c1 c2 c3:PV) (a b:Int):clrY 0 4 (aQ g0 g1 c0 c1 c2 c3 fI fJ (aT 4 14) a b)=some (aQ g0 g1 c0 c1 c2 c3 [] [] (aT 4 14) a b):=by kernel_rfl
theorem yIX (c0 c1 c2 c3:PV) (a b:Int) (K:PV→Prop):wX e aC aP aL fO dB (aQ g0 g1 c0 c1 c2 c3 [] [] (aT 4 14) a b) (bX K)=K (.tup [.data (aD 4 14),aX a b,.int .i64 0]):=by kernel_rfl
theorem yIY (c0 c1 c2 c3:PV) (a b:Int):clrY 0 4 (aQ g0 g1 c0 c1 c2 c3 fI fJ (aT 4 15) a b)=some (aQ g0 g1 c0 c1 c2 c3 [] [] (aT 4 15) a b):=by kernel_rfl
theorem yIZ (c0 c1 c2 c3:PV) (a b:Int) (K:PV→Prop):wX e aC aP aL fO dB (aQ g0 g1 c0 c1 c2 c3 [] [] (aT 4 15) a b) (bX K)=K (.tup [.data (aD 4 15),aX a b,.int .i64 0]):=by kernel_rfl
theorem yI0 (c0 c1 c2 c3:PV) (a b:Int):clrY 0 4 (aQ g0 g1 c0 c1 c2 c3 fI fJ (aT 4 16) a b)=some (aQ g0 g1 c0 c1 c2 c3 [] [] (aT 4 16) a b):=by kernel_rfl
theorem yI1 (c0 c1 c2 c3:PV) (a b:Int) (K:PV→Prop):wX e aC aP aL fO dB (aQ g0 g1 c0 c1 c2 c3 [] [] (aT 4 16) a b) (bX K)=K (.tup [.data (aD 4 16),aX a b,.int .i64 0]):=by kernel_rfl
theorem yI2 (c0 c1 c2 c3:PV) (a b:Int):clrY 0 4 (aQ g0 g1 c0 c1 c2 c3 fI fJ (aT 4 17) a b)=some (aQ g0 g1 c0 c1 c2 c3 [] [] (aT 4 17) a b):=by kernel_rfl
theorem yI3 (c0 c1 c2 c3:PV) (a b:Int) (K:PV→Prop):wX e aC aP aL fO dB (aQ g0 g1 c0 c1 c2 c3 [] [] (aT 4 17) a b) (bX K)=K (.tup [.data (aD 4 17),aX a b,.int .i64 0]):=by kernel_rfl
theorem yI4 (c0 c1 c2 c3:PV) (a b:Int):clrY 0 4 (aQ g0 g1 c0 c1 c2 c3 fI fJ (aT 4 18) a b)=some (aQ g0 g1 c0 c1 c2 c3 [] [] (aT 4 18) a b):=by kernel_rfl
theorem yI5 (c0 c1 c2 c3:PV) (a b:Int) (K:PV→Prop):wX e aC aP aL fO dB (aQ g0 g1 c0 c1 c2 c3 [] [] (aT 4 18) a b) (bX K)=K (.tup [.data (aD 4 18),aX a b,.int .i64 0]):=by kernel_rfl
theorem yI6 (c0 c1 c2 c3:PV) (a b:Int):clrY 0 4 (aQ g0 g1 c0 c1 c2 c3 fI fJ (aT 4 19) a b)=some (aQ g0 g1 c0 c1 c2 c3 [] [] (aT 4 19) a b):=by kernel_rfl
theorem yI7 (c0 c1 c2 c3:PV) (a b:Int) (K:PV→Prop):wX e aC aP aL fO dB (aQ g0 g1 c0 c1 c2 c3 [] [] (aT 4 19) a b) (bX K)=K (.tup [.data (aD 4 19),aX a b,.int .i64 0]):=by kernel_rfl
theorem yI8 (c0 c1 c2 c3:PV) (a b:Int):clrY 0 4 (aQ g0 g1 c0 c1 c2 c3 fI fJ (aT 4 20) a b)=some (aQ g0 g1 c0 c1 c2 c3 [] [] (aT 4 20) a b):=by kernel_rfl
theorem yI9 (c0 c1 c2 c3:PV) (a b:Int) (K:PV→Prop):wX e aC aP aL fO dB (aQ g0 g1 c0 c1 c2 c3 [] [] (aT 4 20) a b) (bX K)=K (.tup [.data (aD 4 20),aX a b,.int .i64 0]):=by kernel_rfl
theorem yJa (c0 c1 c2 c3:PV) (a b:Int):clrY 0 4 (aQ g0 g1 c0 c1 c2 c3 fI fJ (aT 4 21) a b)=some (aQ g0 g1 c0 c1 c2 c3 [] [] (aT 4 21) a b):=by kernel_rfl
theorem yJb (c0 c1 c2 c3:PV) (a b:Int) (K:PV→Prop):wX e aC aP aL fO dB (aQ g0 g1 c0 c1 c2 c3 [] [] (aT 4 21) a b) (bX K)=K (.tup [.data (aD 4 21),aX a b,.int .i64 0]):=by kernel_rfl
theorem yJc (c0 c1 c2 c3:PV) (a b:Int):clrY 0 4 (aQ g0 g1 c0 c1 c2 c3 fI fJ (aT 4 22) a b)=some (aQ g0 g1 c0 c1 c2 c3 [] [] (aT 4 22) a b):=by kernel_rfl
theorem yJd (c0 c1 c2 c3:PV) (a b:Int) (K:PV→Prop):wX e aC aP aL fO dB (aQ g0 g1 c0 c1 c2 c3 [] [] (aT 4 22) a b) (bX K)=K (.tup [.data (aD 4 22),aX a b,.int .i64 0]):=by kernel_rfl
theorem yJe (c0 c1 c2 c3:PV) (a b:Int):clrY 0 4 (aQ g0 g1 c0 c1 c2 c3 fI fJ (aT 4 23) a b)=some (aQ g0 g1 c0 c1 c2 c3 [] [] (aT 4 23) a b):=by kernel_rfl
theorem yJf (c0 c1 c2 c3:PV) (a b:Int) (K:PV→Prop):wX e aC aP aL fO dB (aQ g0 g1 c0 c1 c2 c3 [] [] (aT 4 23) a b) (bX K)=K (.tup [.data (aD 4 23),aX a b,.int .i64 0]):=by kernel_rfl
end
structure BK (L:List PV) (n:Nat):Prop where
 rk:∀ k,k<dC n→eV n (aD n k)=k
 run:∀ (e:Es) (aC:iY) (aP:(List PV→List PV→(Int→Int→Prop)→Prop)) (aL:fM) (fi:List PV→Nat) (f0 f1 g0 g1:List PV→Int) (YY:List PV→Hp→Prop) (Q:Ex→aF→Hp→Prop),wB e aC aP aL fi f0 f1 g0 g1 YY L n Q=Al fi f0 f1 g0 g1 YY n (dZ n) (nZ L n) (fun H=>Q .norm [] H)
 len:∀ (fi:List PV→Nat) (f0 f1 g0 g1:List PV→Int),(xD fi f0 f1 g0 g1 n (dZ n) (nZ L n)).length=dC n
 yb:∀ (e:Es) (aC:iY) (aP:(List PV→List PV→(Int→Int→Prop)→Prop)) (aL:fM) (fi:List PV→Nat) (f0 f1 g0 g1:List PV→Int) (K:Option Nat→Hp→Prop) (k:Nat),k<dC n→wY e aC aP aL (aA fi f0 f1 g0 g1 L n k).1 (aA fi f0 f1 g0 g1 L n k).2 K=fR aP aL f0 f1 L n k (aA fi f0 f1 g0 g1 L n k).1 (aA fi f0 f1 g0 g1 L n k).2 K
 ub:∀ (fi:List PV→Nat) (f0 f1 g0 g1:List PV→Int) (p0 p1:Int) (k:Nat),k<dC n→bT fi f0 f1 g0 g1 (aA fi f0 f1 g0 g1 L n k).1 (aA fi f0 f1 g0 g1 L n k).2=aZ (fi (aD n k)) (f0 (aD n k)) (f1 (aD n k)) (g0 (aD n k)) (g1 (aD n k)) (aA fi f0 f1 g0 g1 L n k).1 (aA fi f0 f1 g0 g1 L n k).2∧cG true (aA fi f0 f1 g0 g1 L n k).1 (aA fi f0 f1 g0 g1 L n k).2 p0 p1=aZ (aT n k) p0 p1 p0 p1 (aA fi f0 f1 g0 g1 L n k).1 (aA fi f0 f1 g0 g1 L n k).2∧∀ j,k=j+1→cG false (aA fi f0 f1 g0 g1 L n k).1 (aA fi f0 f1 g0 g1 L n k).2 p0 p1=aZ (fi (aD n j)) (f0 (aD n j)) (f1 (aD n j)) p0 p1 (aA fi f0 f1 g0 g1 L n k).1 (aA fi f0 f1 g0 g1 L n k).2
 ct:∀ (e:Es) (aC:iY) (aP:(List PV→List PV→(Int→Int→Prop)→Prop)) (aL:fM) (Q:Ex→aF→Hp→Prop),wX e aC aP aL GS (BH++[(5,.v (.int .i64 0)),(11,.v (.bool false))]) (mJ L) Q=Q .norm dB (uU L n)
 fin:∀ (e:Es) (aC:iY) (aP:(List PV→List PV→(Int→Int→Prop)→Prop)) (aL:fM) (fi:List PV→Nat) (f0 f1 g0 g1:List PV→Int) (K:PV→Prop) (j:Nat),j<dC n→fi (aD n (dC n-1))=aT n j→∃ H2,clrY 0 4 (Am fi f0 f1 g0 g1 n (dZ n) (nZ L n))=some H2∧wX e aC aP aL fO dB H2 (bX K)=K (.tup [.data (aD n j),aX (f0 (aD n (dC n-1))) (f1 (aD n (dC n-1))),.int .i64 0])
theorem VO (c0:PV):BK [c0] 1 where
 rk:=fun k hk=>match k,hk with
  | 0,_=>yLO
  | k+1,h=>absurd h (by show ¬k+1<1;omega)
 run:=fun e aC aP aL fi f0 f1 g0 g1 YY Q=>UU e aC aP aL fi f0 f1 g0 g1 YY c0 Q
 len:=fun fi f0 f1 g0 g1=>VG fi f0 f1 g0 g1 c0
 yb:=fun e aC aP aL fi f0 f1 g0 g1 K k hk=>match k,hk with
  | 0,_=>yLu e aC aP aL fi f0 f1 g0 g1 K c0
  | k+1,h=>absurd h (by show ¬k+1<1;omega)
 ub:=fun fi f0 f1 g0 g1 p0 p1 k hk=>match k,hk with
  | 0,_=>⟨(X4 fi f0 f1 g0 g1 p0 p1 c0).1,(X4 fi f0 f1 g0 g1 p0 p1 c0).2,fun j hj=>by cases hj⟩
  | k+1,h=>absurd h (by show ¬k+1<1;omega)
 ct:=fun e aC aP aL Q=>VF e aC aP aL c0 Q
 fin:=fun e aC aP aL fi f0 f1 g0 g1 K j hj hf=>match j,hj,hf with
  | 0,_,hf=>⟨_,by rw [VH,show fi (aD 1 0)=_ from hf];exact yL8 g0 g1 c0 _ _,yL9 e aC aP aL g0 g1 c0 _ _ K⟩
  | k+1,h,_=>absurd h (by show ¬k+1<1;omega)
theorem VQ (c0 c1:PV):BK [c0,c1] 2 where
 rk:=fun k hk=>match k,hk with
  | 0,_=>yLP
  | 1,_=>yLQ
  | k+2,h=>absurd h (by show ¬k+2<2;omega)
 run:=fun e aC aP aL fi f0 f1 g0 g1 YY Q=>UV e aC aP aL fi f0 f1 g0 g1 YY c0 c1 Q
 len:=fun fi f0 f1 g0 g1=>VJ fi f0 f1 g0 g1 c0 c1
 yb:=fun e aC aP aL fi f0 f1 g0 g1 K k hk=>match k,hk with
  | 0,_=>yLv e aC aP aL fi f0 f1 g0 g1 K c0 c1
  | 1,_=>yLw e aC aP aL fi f0 f1 g0 g1 K c0 c1
  | k+2,h=>absurd h (by show ¬k+2<2;omega)
 ub:=fun fi f0 f1 g0 g1 p0 p1 k hk=>match k,hk with
  | 0,_=>⟨(X5 fi f0 f1 g0 g1 p0 p1 c0 c1).1,(X5 fi f0 f1 g0 g1 p0 p1 c0 c1).2,fun j hj=>by cases hj⟩
  | 1,_=>⟨(UY fi f0 f1 g0 g1 p0 p1 c0 c1).1,(UY fi f0 f1 g0 g1 p0 p1 c0 c1).2.1,fun j hj=>by cases hj;exact (UY fi f0 f1 g0 g1 p0 p1 c0 c1).2.2⟩
  | k+2,h=>absurd h (by show ¬k+2<2;omega)
 ct:=fun e aC aP aL Q=>VI e aC aP aL c0 c1 Q
 fin:=fun e aC aP aL fi f0 f1 g0 g1 K j hj hf=>match j,hj,hf with
  | 0,_,hf=>⟨_,by rw [JI,show fi (aD 2 1)=_ from hf];exact yMa g0 g1 c0 c1 _ _,yMb e aC aP aL g0 g1 c0 c1 _ _ K⟩
  | 1,_,hf=>⟨_,by rw [JI,show fi (aD 2 1)=_ from hf];exact yMc g0 g1 c0 c1 _ _,yMd e aC aP aL g0 g1 c0 c1 _ _ K⟩
  | k+2,h,_=>absurd h (by show ¬k+2<2;omega)
theorem VS (c0 c1 c2:PV):BK [c0,c1,c2] 3 where
 rk:=fun k hk=>match k,hk with
  | 0,_=>yLR
  | 1,_=>yLS
  | 2,_=>yLT
  | 3,_=>yLU
  | 4,_=>yLV
  | 5,_=>yLW
  | k+6,h=>absurd h (by show ¬k+6<6;omega)
 run:=fun e aC aP aL fi f0 f1 g0 g1 YY Q=>UW e aC aP aL fi f0 f1 g0 g1 YY c0 c1 c2 Q
 len:=fun fi f0 f1 g0 g1=>VL fi f0 f1 g0 g1 c0 c1 c2
 yb:=fun e aC aP aL fi f0 f1 g0 g1 K k hk=>match k,hk with
  | 0,_=>yLx e aC aP aL fi f0 f1 g0 g1 K c0 c1 c2
  | 1,_=>yLy e aC aP aL fi f0 f1 g0 g1 K c0 c1 c2
  | 2,_=>yLz e aC aP aL fi f0 f1 g0 g1 K c0 c1 c2
  | 3,_=>yLA e aC aP aL fi f0 f1 g0 g1 K c0 c1 c2
  | 4,_=>yLB e aC aP aL fi f0 f1 g0 g1 K c0 c1 c2
  | 5,_=>yLC e aC aP aL fi f0 f1 g0 g1 K c0 c1 c2
  | k+6,h=>absurd h (by show ¬k+6<6;omega)
 ub:=fun fi f0 f1 g0 g1 p0 p1 k hk=>match k,hk with
  | 0,_=>⟨(X6 fi f0 f1 g0 g1 p0 p1 c0 c1 c2).1,(X6 fi f0 f1 g0 g1 p0 p1 c0 c1 c2).2,fun j hj=>by cases hj⟩
  | 1,_=>⟨(UZ fi f0 f1 g0 g1 p0 p1 c0 c1 c2).1,(UZ fi f0 f1 g0 g1 p0 p1 c0 c1 c2).2.1,fun j hj=>by cases hj;exact (UZ fi f0 f1 g0 g1 p0 p1 c0 c1 c2).2.2⟩
  | 2,_=>⟨(Va fi f0 f1 g0 g1 p0 p1 c0 c1 c2).1,(Va fi f0 f1 g0 g1 p0 p1 c0 c1 c2).2.1,fun j hj=>by cases hj;exact (Va fi f0 f1 g0 g1 p0 p1 c0 c1 c2).2.2⟩
  | 3,_=>⟨(Vb fi f0 f1 g0 g1 p0 p1 c0 c1 c2).1,(Vb fi f0 f1 g0 g1 p0 p1 c0 c1 c2).2.1,fun j hj=>by cases hj;exact (Vb fi f0 f1 g0 g1 p0 p1 c0 c1 c2).2.2⟩
  | 4,_=>⟨(Vd fi f0 f1 g0 g1 p0 p1 c0 c1 c2).1,(Vd fi f0 f1 g0 g1 p0 p1 c0 c1 c2).2.1,fun j hj=>by cases hj;exact (Vd fi f0 f1 g0 g1 p0 p1 c0 c1 c2).2.2⟩
  | 5,_=>⟨(Ve fi f0 f1 g0 g1 p0 p1 c0 c1 c2).1,(Ve fi f0 f1 g0 g1 p0 p1 c0 c1 c2).2.1,fun j hj=>by cases hj;exact (Ve fi f0 f1 g0 g1 p0 p1 c0 c1 c2).2.2⟩
  | k+6,h=>absurd h (by show ¬k+6<6;omega)
 ct:=fun e aC aP aL Q=>VK e aC aP aL c0 c1 c2 Q
 fin:=fun e aC aP aL fi f0 f1 g0 g1 K j hj hf=>match j,hj,hf with
  | 0,_,hf=>⟨_,by rw [rQ,show fi (aD 3 5)=_ from hf];exact yMe g0 g1 c0 c1 c2 _ _,yMf e aC aP aL g0 g1 c0 c1 c2 _ _ K⟩
  | 1,_,hf=>⟨_,by rw [rQ,show fi (aD 3 5)=_ from hf];exact yMg g0 g1 c0 c1 c2 _ _,yMh e aC aP aL g0 g1 c0 c1 c2 _ _ K⟩
  | 2,_,hf=>⟨_,by rw [rQ,show fi (aD 3 5)=_ from hf];exact yMi g0 g1 c0 c1 c2 _ _,yMj e aC aP aL g0 g1 c0 c1 c2 _ _ K⟩
  | 3,_,hf=>⟨_,by rw [rQ,show fi (aD 3 5)=_ from hf];exact yMk g0 g1 c0 c1 c2 _ _,yMl e aC aP aL g0 g1 c0 c1 c2 _ _ K⟩
  | 4,_,hf=>⟨_,by rw [rQ,show fi (aD 3 5)=_ from hf];exact yMm g0 g1 c0 c1 c2 _ _,yMn e aC aP aL g0 g1 c0 c1 c2 _ _ K⟩
  | 5,_,hf=>⟨_,by rw [rQ,show fi (aD 3 5)=_ from hf];exact yMo g0 g1 c0 c1 c2 _ _,yMp e aC aP aL g0 g1 c0 c1 c2 _ _ K⟩
  | k+6,h,_=>absurd h (by show ¬k+6<6;omega)
theorem VT (c0 c1 c2 c3:PV):BK [c0,c1,c2,c3] 4 where
 rk:=fun k hk=>match k,hk with
  | 0,_=>yLX
  | 1,_=>yLY
  | 2,_=>yLZ
  | 3,_=>yL0
  | 4,_=>yL1
  | 5,_=>yL2
  | 6,_=>yL3
  | 7,_=>yL4
  | 8,_=>yL5
  | 9,_=>yL6
  | 10,_=>yIA
  | 11,_=>yIB
  | 12,_=>yIC
  | 13,_=>yID
  | 14,_=>yIE
  | 15,_=>yIF
  | 16,_=>yIG
  | 17,_=>yIH
  | 18,_=>yII
  | 19,_=>yIJ
  | 20,_=>yIK
  | 21,_=>yIL
  | 22,_=>yIM
  | 23,_=>yIN
  | k+24,h=>absurd h (by show ¬k+24<24;omega)
 run:=fun e aC aP aL fi f0 f1 g0 g1 YY Q=>UX e aC aP aL fi f0 f1 g0 g1 YY c0 c1 c2 c3 Q
 len:=fun fi f0 f1 g0 g1=>VN fi f0 f1 g0 g1 c0 c1 c2 c3
 yb:=fun e aC aP aL fi f0 f1 g0 g1 K k hk=>match k,hk with
  | 0,_=>yLD e aC aP aL fi f0 f1 g0 g1 K c0 c1 c2 c3
  | 1,_=>yLE e aC aP aL fi f0 f1 g0 g1 K c0 c1 c2 c3
  | 2,_=>yLF e aC aP aL fi f0 f1 g0 g1 K c0 c1 c2 c3
  | 3,_=>yLG e aC aP aL fi f0 f1 g0 g1 K c0 c1 c2 c3
  | 4,_=>yLH e aC aP aL fi f0 f1 g0 g1 K c0 c1 c2 c3
  | 5,_=>yLI e aC aP aL fi f0 f1 g0 g1 K c0 c1 c2 c3
  | 6,_=>yLJ e aC aP aL fi f0 f1 g0 g1 K c0 c1 c2 c3
  | 7,_=>yLK e aC aP aL fi f0 f1 g0 g1 K c0 c1 c2 c3
  | 8,_=>yLL e aC aP aL fi f0 f1 g0 g1 K c0 c1 c2 c3
  | 9,_=>yLM e aC aP aL fi f0 f1 g0 g1 K c0 c1 c2 c3
  | 10,_=>yIl e aC aP aL fi f0 f1 g0 g1 K c0 c1 c2 c3
  | 11,_=>yIm e aC aP aL fi f0 f1 g0 g1 K c0 c1 c2 c3
  | 12,_=>yIn e aC aP aL fi f0 f1 g0 g1 K c0 c1 c2 c3
  | 13,_=>yIo e aC aP aL fi f0 f1 g0 g1 K c0 c1 c2 c3
  | 14,_=>yIp e aC aP aL fi f0 f1 g0 g1 K c0 c1 c2 c3
  | 15,_=>yIq e aC aP aL fi f0 f1 g0 g1 K c0 c1 c2 c3
  | 16,_=>yIr e aC aP aL fi f0 f1 g0 g1 K c0 c1 c2 c3
  | 17,_=>yIs e aC aP aL fi f0 f1 g0 g1 K c0 c1 c2 c3
  | 18,_=>yIt e aC aP aL fi f0 f1 g0 g1 K c0 c1 c2 c3
  | 19,_=>yIu e aC aP aL fi f0 f1 g0 g1 K c0 c1 c2 c3
  | 20,_=>yIv e aC aP aL fi f0 f1 g0 g1 K c0 c1 c2 c3
  | 21,_=>yIw e aC aP aL fi f0 f1 g0 g1 K c0 c1 c2 c3
  | 22,_=>yIx e aC aP aL fi f0 f1 g0 g1 K c0 c1 c2 c3
  | 23,_=>yIy e aC aP aL fi f0 f1 g0 g1 K c0 c1 c2 c3
  | k+24,h=>absurd h (by show ¬k+24<24;omega)
 ub:=fun fi f0 f1 g0 g1 p0 p1 k hk=>match k,hk with
  | 0,_=>⟨(X7 fi f0 f1 g0 g1 p0 p1 c0 c1 c2 c3).1,(X7 fi f0 f1 g0 g1 p0 p1 c0 c1 c2 c3).2,fun j hj=>by cases hj⟩
  | 1,_=>⟨(Vf fi f0 f1 g0 g1 p0 p1 c0 c1 c2 c3).1,(Vf fi f0 f1 g0 g1 p0 p1 c0 c1 c2 c3).2.1,fun j hj=>by cases hj;exact (Vf fi f0 f1 g0 g1 p0 p1 c0 c1 c2 c3).2.2⟩
  | 2,_=>⟨(Vg fi f0 f1 g0 g1 p0 p1 c0 c1 c2 c3).1,(Vg fi f0 f1 g0 g1 p0 p1 c0 c1 c2 c3).2.1,fun j hj=>by cases hj;exact (Vg fi f0 f1 g0 g1 p0 p1 c0 c1 c2 c3).2.2⟩
  | 3,_=>⟨(Vh fi f0 f1 g0 g1 p0 p1 c0 c1 c2 c3).1,(Vh fi f0 f1 g0 g1 p0 p1 c0 c1 c2 c3).2.1,fun j hj=>by cases hj;exact (Vh fi f0 f1 g0 g1 p0 p1 c0 c1 c2 c3).2.2⟩
  | 4,_=>⟨(Vi fi f0 f1 g0 g1 p0 p1 c0 c1 c2 c3).1,(Vi fi f0 f1 g0 g1 p0 p1 c0 c1 c2 c3).2.1,fun j hj=>by cases hj;exact (Vi fi f0 f1 g0 g1 p0 p1 c0 c1 c2 c3).2.2⟩
  | 5,_=>⟨(Vj fi f0 f1 g0 g1 p0 p1 c0 c1 c2 c3).1,(Vj fi f0 f1 g0 g1 p0 p1 c0 c1 c2 c3).2.1,fun j hj=>by cases hj;exact (Vj fi f0 f1 g0 g1 p0 p1 c0 c1 c2 c3).2.2⟩
  | 6,_=>⟨(Vk fi f0 f1 g0 g1 p0 p1 c0 c1 c2 c3).1,(Vk fi f0 f1 g0 g1 p0 p1 c0 c1 c2 c3).2.1,fun j hj=>by cases hj;exact (Vk fi f0 f1 g0 g1 p0 p1 c0 c1 c2 c3).2.2⟩
  | 7,_=>⟨(Vl fi f0 f1 g0 g1 p0 p1 c0 c1 c2 c3).1,(Vl fi f0 f1 g0 g1 p0 p1 c0 c1 c2 c3).2.1,fun j hj=>by cases hj;exact (Vl fi f0 f1 g0 g1 p0 p1 c0 c1 c2 c3).2.2⟩
  | 8,_=>⟨(Vm fi f0 f1 g0 g1 p0 p1 c0 c1 c2 c3).1,(Vm fi f0 f1 g0 g1 p0 p1 c0 c1 c2 c3).2.1,fun j hj=>by cases hj;exact (Vm fi f0 f1 g0 g1 p0 p1 c0 c1 c2 c3).2.2⟩
  | 9,_=>⟨(Vn fi f0 f1 g0 g1 p0 p1 c0 c1 c2 c3).1,(Vn fi f0 f1 g0 g1 p0 p1 c0 c1 c2 c3).2.1,fun j hj=>by cases hj;exact (Vn fi f0 f1 g0 g1 p0 p1 c0 c1 c2 c3).2.2⟩
  | 10,_=>⟨(Vo fi f0 f1 g0 g1 p0 p1 c0 c1 c2 c3).1,(Vo fi f0 f1 g0 g1 p0 p1 c0 c1 c2 c3).2.1,fun j hj=>by cases hj;exact (Vo fi f0 f1 g0 g1 p0 p1 c0 c1 c2 c3).2.2⟩
  | 11,_=>⟨(Vp fi f0 f1 g0 g1 p0 p1 c0 c1 c2 c3).1,(Vp fi f0 f1 g0 g1 p0 p1 c0 c1 c2 c3).2.1,fun j hj=>by cases hj;exact (Vp fi f0 f1 g0 g1 p0 p1 c0 c1 c2 c3).2.2⟩
  | 12,_=>⟨(Vq fi f0 f1 g0 g1 p0 p1 c0 c1 c2 c3).1,(Vq fi f0 f1 g0 g1 p0 p1 c0 c1 c2 c3).2.1,fun j hj=>by cases hj;exact (Vq fi f0 f1 g0 g1 p0 p1 c0 c1 c2 c3).2.2⟩
  | 13,_=>⟨(Vr fi f0 f1 g0 g1 p0 p1 c0 c1 c2 c3).1,(Vr fi f0 f1 g0 g1 p0 p1 c0 c1 c2 c3).2.1,fun j hj=>by cases hj;exact (Vr fi f0 f1 g0 g1 p0 p1 c0 c1 c2 c3).2.2⟩
  | 14,_=>⟨(Vs fi f0 f1 g0 g1 p0 p1 c0 c1 c2 c3).1,(Vs fi f0 f1 g0 g1 p0 p1 c0 c1 c2 c3).2.1,fun j hj=>by cases hj;exact (Vs fi f0 f1 g0 g1 p0 p1 c0 c1 c2 c3).2.2⟩
  | 15,_=>⟨(Vt fi f0 f1 g0 g1 p0 p1 c0 c1 c2 c3).1,(Vt fi f0 f1 g0 g1 p0 p1 c0 c1 c2 c3).2.1,fun j hj=>by cases hj;exact (Vt fi f0 f1 g0 g1 p0 p1 c0 c1 c2 c3).2.2⟩
  | 16,_=>⟨(Vu fi f0 f1 g0 g1 p0 p1 c0 c1 c2 c3).1,(Vu fi f0 f1 g0 g1 p0 p1 c0 c1 c2 c3).2.1,fun j hj=>by cases hj;exact (Vu fi f0 f1 g0 g1 p0 p1 c0 c1 c2 c3).2.2⟩
  | 17,_=>⟨(Vv fi f0 f1 g0 g1 p0 p1 c0 c1 c2 c3).1,(Vv fi f0 f1 g0 g1 p0 p1 c0 c1 c2 c3).2.1,fun j hj=>by cases hj;exact (Vv fi f0 f1 g0 g1 p0 p1 c0 c1 c2 c3).2.2⟩
  | 18,_=>⟨(Vw fi f0 f1 g0 g1 p0 p1 c0 c1 c2 c3).1,(Vw fi f0 f1 g0 g1 p0 p1 c0 c1 c2 c3).2.1,fun j hj=>by cases hj;exact (Vw fi f0 f1 g0 g1 p0 p1 c0 c1 c2 c3).2.2⟩
  | 19,_=>⟨(Vx fi f0 f1 g0 g1 p0 p1 c0 c1 c2 c3).1,(Vx fi f0 f1 g0 g1 p0 p1 c0 c1 c2 c3).2.1,fun j hj=>by cases hj;exact (Vx fi f0 f1 g0 g1 p0 p1 c0 c1 c2 c3).2.2⟩
  | 20,_=>⟨(Vy fi f0 f1 g0 g1 p0 p1 c0 c1 c2 c3).1,(Vy fi f0 f1 g0 g1 p0 p1 c0 c1 c2 c3).2.1,fun j hj=>by cases hj;exact (Vy fi f0 f1 g0 g1 p0 p1 c0 c1 c2 c3).2.2⟩
  | 21,_=>⟨(Vz fi f0 f1 g0 g1 p0 p1 c0 c1 c2 c3).1,(Vz fi f0 f1 g0 g1 p0 p1 c0 c1 c2 c3).2.1,fun j hj=>by cases hj;exact (Vz fi f0 f1 g0 g1 p0 p1 c0 c1 c2 c3).2.2⟩
  | 22,_=>⟨(VA fi f0 f1 g0 g1 p0 p1 c0 c1 c2 c3).1,(VA fi f0 f1 g0 g1 p0 p1 c0 c1 c2 c3).2.1,fun j hj=>by cases hj;exact (VA fi f0 f1 g0 g1 p0 p1 c0 c1 c2 c3).2.2⟩
  | 23,_=>⟨(VB fi f0 f1 g0 g1 p0 p1 c0 c1 c2 c3).1,(VB fi f0 f1 g0 g1 p0 p1 c0 c1 c2 c3).2.1,fun j hj=>by cases hj;exact (VB fi f0 f1 g0 g1 p0 p1 c0 c1 c2 c3).2.2⟩
  | k+24,h=>absurd h (by show ¬k+24<24;omega)
 ct:=fun e aC aP aL Q=>VM e aC aP aL c0 c1 c2 c3 Q
 fin:=fun e aC aP aL fi f0 f1 g0 g1 K j hj hf=>match j,hj,hf with
  | 0,_,hf=>⟨_,by rw [dD,show fi (aD 4 23)=_ from hf];exact yMq g0 g1 c0 c1 c2 c3 _ _,yMr e aC aP aL g0 g1 c0 c1 c2 c3 _ _ K⟩
  | 1,_,hf=>⟨_,by rw [dD,show fi (aD 4 23)=_ from hf];exact yMs g0 g1 c0 c1 c2 c3 _ _,yMt e aC aP aL g0 g1 c0 c1 c2 c3 _ _ K⟩
  | 2,_,hf=>⟨_,by rw [dD,show fi (aD 4 23)=_ from hf];exact yMu g0 g1 c0 c1 c2 c3 _ _,yMv e aC aP aL g0 g1 c0 c1 c2 c3 _ _ K⟩
  | 3,_,hf=>⟨_,by rw [dD,show fi (aD 4 23)=_ from hf];exact yMw g0 g1 c0 c1 c2 c3 _ _,yMx e aC aP aL g0 g1 c0 c1 c2 c3 _ _ K⟩
  | 4,_,hf=>⟨_,by rw [dD,show fi (aD 4 23)=_ from hf];exact yMy g0 g1 c0 c1 c2 c3 _ _,yMz e aC aP aL g0 g1 c0 c1 c2 c3 _ _ K⟩
  | 5,_,hf=>⟨_,by rw [dD,show fi (aD 4 23)=_ from hf];exact yMA g0 g1 c0 c1 c2 c3 _ _,yMB e aC aP aL g0 g1 c0 c1 c2 c3 _ _ K⟩
  | 6,_,hf=>⟨_,by rw [dD,show fi (aD 4 23)=_ from hf];exact yMC g0 g1 c0 c1 c2 c3 _ _,yMD e aC aP aL g0 g1 c0 c1 c2 c3 _ _ K⟩
  | 7,_,hf=>⟨_,by rw [dD,show fi (aD 4 23)=_ from hf];exact yME g0 g1 c0 c1 c2 c3 _ _,yMF e aC aP aL g0 g1 c0 c1 c2 c3 _ _ K⟩
  | 8,_,hf=>⟨_,by rw [dD,show fi (aD 4 23)=_ from hf];exact yMG g0 g1 c0 c1 c2 c3 _ _,yMH e aC aP aL g0 g1 c0 c1 c2 c3 _ _ K⟩
  | 9,_,hf=>⟨_,by rw [dD,show fi (aD 4 23)=_ from hf];exact yMI g0 g1 c0 c1 c2 c3 _ _,yMJ e aC aP aL g0 g1 c0 c1 c2 c3 _ _ K⟩
  | 10,_,hf=>⟨_,by rw [dD,show fi (aD 4 23)=_ from hf];exact yIO g0 g1 c0 c1 c2 c3 _ _,yIP e aC aP aL g0 g1 c0 c1 c2 c3 _ _ K⟩
  | 11,_,hf=>⟨_,by rw [dD,show fi (aD 4 23)=_ from hf];exact yIQ g0 g1 c0 c1 c2 c3 _ _,yIR e aC aP aL g0 g1 c0 c1 c2 c3 _ _ K⟩
  | 12,_,hf=>⟨_,by rw [dD,show fi (aD 4 23)=_ from hf];exact yIS g0 g1 c0 c1 c2 c3 _ _,yIT e aC aP aL g0 g1 c0 c1 c2 c3 _ _ K⟩
  | 13,_,hf=>⟨_,by rw [dD,show fi (aD 4 23)=_ from hf];exact yIU g0 g1 c0 c1 c2 c3 _ _,yIV e aC aP aL g0 g1 c0 c1 c2 c3 _ _ K⟩
  | 14,_,hf=>⟨_,by rw [dD,show fi (aD 4 23)=_ from hf];exact yIW g0 g1 c0 c1 c2 c3 _ _,yIX e aC aP aL g0 g1 c0 c1 c2 c3 _ _ K⟩
  | 15,_,hf=>⟨_,by rw [dD,show fi (aD 4 23)=_ from hf];exact yIY g0 g1 c0 c1 c2 c3 _ _,yIZ e aC aP aL g0 g1 c0 c1 c2 c3 _ _ K⟩
  | 16,_,hf=>⟨_,by rw [dD,show fi (aD 4 23)=_ from hf];exact yI0 g0 g1 c0 c1 c2 c3 _ _,yI1 e aC aP aL g0 g1 c0 c1 c2 c3 _ _ K⟩
  | 17,_,hf=>⟨_,by rw [dD,show fi (aD 4 23)=_ from hf];exact yI2 g0 g1 c0 c1 c2 c3 _ _,yI3 e aC aP aL g0 g1 c0 c1 c2 c3 _ _ K⟩
  | 18,_,hf=>⟨_,by rw [dD,show fi (aD 4 23)=_ from hf];exact yI4 g0 g1 c0 c1 c2 c3 _ _,yI5 e aC aP aL g0 g1 c0 c1 c2 c3 _ _ K⟩
  | 19,_,hf=>⟨_,by rw [dD,show fi (aD 4 23)=_ from hf];exact yI6 g0 g1 c0 c1 c2 c3 _ _,yI7 e aC aP aL g0 g1 c0 c1 c2 c3 _ _ K⟩
  | 20,_,hf=>⟨_,by rw [dD,show fi (aD 4 23)=_ from hf];exact yI8 g0 g1 c0 c1 c2 c3 _ _,yI9 e aC aP aL g0 g1 c0 c1 c2 c3 _ _ K⟩
  | 21,_,hf=>⟨_,by rw [dD,show fi (aD 4 23)=_ from hf];exact yJa g0 g1 c0 c1 c2 c3 _ _,yJb e aC aP aL g0 g1 c0 c1 c2 c3 _ _ K⟩
  | 22,_,hf=>⟨_,by rw [dD,show fi (aD 4 23)=_ from hf];exact yJc g0 g1 c0 c1 c2 c3 _ _,yJd e aC aP aL g0 g1 c0 c1 c2 c3 _ _ K⟩
  | 23,_,hf=>⟨_,by rw [dD,show fi (aD 4 23)=_ from hf];exact yJe g0 g1 c0 c1 c2 c3 _ _,yJf e aC aP aL g0 g1 c0 c1 c2 c3 _ _ K⟩
  | k+24,h,_=>absurd h (by show ¬k+24<24;omega)
def DV (E:Env) (F:aF) (H:Hp) (Q:Ex→aF→Hp→Prop):Ex→aF→Hp→Prop:=fun x _ H'=>match x with
 | .norm | .ret=>∃ H2,clrY E.yn H.length H'=some H2∧Q .norm F H2
 | _=>False
theorem yGQ {P:EP} {E:Env} (hE:∀ n e,P n e→e=E) {g:Opd} {n:Nat} {first cap:List PV} {fn:AFn} {F:aF} {H:Hp} {ps:List Nat} {as bd:AC} {Q:Ex→aF→Hp→Prop}
  (hg:evV E F g=some (.fn (.func n) first cap)) (hfn:E.fns n=some fn) (hc:(first++[PV.fn (.yield E.yn) [] []]++cap).length=fn.nparams) (hrs:fn.results.length=0)
  (h:bP (Rng E (eJ F) ps as bd) fn.body (gT 0 (first++[PV.fn (.yield E.yn) [] []]++cap)) H (DV E F H Q)):bP P (.rangeF g ps as bd) F H Q:=by
 obtain ⟨x,F',H',hk,m0,hm⟩:=h;have run:∀ k,m0≤k→exec (E.push ⟨eJ F,ps,as,bd⟩ (hnd E (eJ F) ps as bd k)) k fn.body (gT 0 (first++[PV.fn (.yield E.yn) [] []]++cap)) H=some (x,F',H'):=fun k hle=>hm k _ k hle rfl hle
 cases x with
 | norm=>
  obtain ⟨H2,hcl,hk⟩:=hk;refine bP.up (m0:=m0) hk fun n e k hn hp hle=>?_
  cases hE n e hp
  rw [HP hg hfn ⟨hc,hrs⟩,run k hle];simp only [AX,hcl]
 | ret=>
  obtain ⟨H2,hcl,hk⟩:=hk;refine bP.up (m0:=m0) hk fun n e k hn hp hle=>?_
  cases hE n e hp
  rw [HP hg hfn ⟨hc,hrs⟩,run k hle];simp only [AX,hcl]
 | brk k0 i=>exact hk.elim
 | exit i=>exact hk.elim
section
variable (n:Nat) (qs:Nat→Rat)
def bI:Nat→Nat
 | 0=>0
 | k+1=>if qs (bI k)<qs (k+1) then k+1 else bI k
def oA (rows:List PV):Nat:=aT n (bI qs (eV n rows))
def oB (rows:List PV):Int:=(qs (bI qs (eV n rows))).num
def oC (rows:List PV):Int:=(qs (bI qs (eV n rows))).den
def xE (rows:List PV):Int:=(qs (eV n rows)).num
def xF (rows:List PV):Int:=(qs (eV n rows)).den
theorem Ng:∀ k,bI qs k≤k
 | 0=>bV _
 | k+1=>by
  unfold bI
  by_cases c:qs (bI qs k)<qs (k+1)
  ·rw [VX c];exact bV _
  ·rw [VY c];have:=Ng k;omega
theorem VU:∀ k j,j≤k→qs j≤qs (bI qs k)
 | 0,j,h=>by
  have:j=0:=by omega
  subst this;exact dT
 | k+1,j,h=>by
  unfold bI
  by_cases c:qs (bI qs k)<qs (k+1)
  ·rw [VX c]
   by_cases d:j=k+1
   ·subst d;exact dT
   ·have:=VU k j (by omega);grind
  ·rw [VY c]
   by_cases d:j=k+1
   ·subst d;grind
   ·exact VU k j (by omega)
end
section
variable {e:Es}
theorem Ap (he:EG e) {c:TC} {F:aF} {H:Hp} {Q:Ex→aF→Hp→Prop} (hf:ybs (iO c)=true) (hl:lW (iO c)=[]) (h:wX e jR lK gO c F H Q):bP (eK (E e)) (erase (iO c)) F H Q:=by unfold wX at h;have hg:=dV (SEOk.solo (S:=bS e) (VD he)) 4;exact nS (lp:=fun _ _ _ _ _=>False) (iO c) (eK (E e)) (aM.solo _) hg (bN.flat hf) [] cC (cS.no _ _) (bC hl hf) _ _ _ h
variable {L:List PV} {n:Nat} {qs:Nat→Rat}
def VV (n:Nat) (qs:Nat→Rat) (L:List PV) (vs:List PV) (H:Hp):Prop:=∃ k,k<dC n∧(vs,H)=aA (oA n qs) (oB n qs) (oC n qs) (xE n qs) (xF n qs) L n k
theorem yJg (bk:BK L n) (hq:∀ k,k<dC n→small (qs k)∧∀ K:Int→Int→Prop,lK L (aD n k) K=K (qs k).num (qs k).den) {vs:List PV} {H:Hp} (hy:VV n qs L vs H) :
  wY e jR lK gO vs H fun r H'=>r=none∧H'=bT (oA n qs) (oB n qs) (oC n qs) (xE n qs) (xF n qs) vs H:=by
 obtain ⟨k,hk,he⟩:=hy;have hv:vs=(aA (oA n qs) (oB n qs) (oC n qs) (xE n qs) (xF n qs) L n k).1:=Aaa Prod.fst he;have hH:H=(aA (oA n qs) (oB n qs) (oC n qs) (xE n qs) (xF n qs) L n k).2:=Aaa Prod.snd he;rw [hv,hH,bk.yb _ _ _ _ _ _ _ _ _ _ k hk];unfold fR;rw [(hq k hk).2];obtain ⟨u1,u2,u3⟩:=bk.ub (oA n qs) (oB n qs) (oC n qs) (xE n qs) (xF n qs) (qs k).num (qs k).den k hk;have hr:=bk.rk k hk;have g0:xE n qs (aD n k)=(qs k).num:=by unfold xE;rw [hr]
 have g1:xF n qs (aD n k)=(qs k).den:=by unfold xF;rw [hr]
 cases k with
 | zero=>
  refine ⟨rfl,?_⟩;rw [u1,u2,g0,g1];have a0:oA n qs (aD n 0)=aT n 0:=by unfold oA;rw [hr];rfl
  have a1:oB n qs (aD n 0)=(qs 0).num:=by unfold oB;rw [hr];rfl
  have a2:oC n qs (aD n 0)=(qs 0).den:=by unfold oC;rw [hr];rfl
  rw [a0,a1,a2]
 | succ j=>
  have hj:=bk.rk j (by omega);have hb:=Ng qs j;dsimp only;have s0:oB n qs (aD n j)=(qs (bI qs j)).num:=by unfold oB;rw [hj]
  have s1:oC n qs (aD n j)=(qs (bI qs j)).den:=by unfold oC;rw [hj]
  have s2:oA n qs (aD n j)=aT n (bI qs j):=by unfold oA;rw [hj]
  rw [s0,s1,Um (hq _ (by omega)).1 (hq _ hk).1];have t0:oB n qs (aD n (j+1))=(qs (bI qs (j+1))).num:=by unfold oB;rw [hr]
  have t1:oC n qs (aD n (j+1))=(qs (bI qs (j+1))).den:=by unfold oC;rw [hr]
  have t2:oA n qs (aD n (j+1))=aT n (bI qs (j+1)):=by unfold oA;rw [hr]
  by_cases c:qs (bI qs j)<qs (j+1)
  ·have hb2:bI qs (j+1)=j+1:=by show (if _ then _ else _)=_;rw [VX c]
   rw [Eo c];refine ⟨rfl,?_⟩;rw [u1,u2,g0,g1,t0,t1,t2,hb2]
  ·have hb2:bI qs (j+1)=bI qs j:=by show (if _ then _ else _)=_;rw [VY c]
   rw [Os c];refine ⟨rfl,?_⟩;rw [u1,u3 j rfl,g0,g1,t0,t1,t2,hb2,s0,s1,s2]
theorem yGR (he:EG e) (bk:BK L n) (hn:0<dC n) (hc:∀ K:Int→Prop,K 0→jR L K) (hq:∀ k,k<dC n→small (qs k)∧∀ K:Int→Int→Prop,lK L (aD n k) K=K (qs k).num (qs k).den) :
  kH (E e) pV [.data L] (.tup [.data (aD n (bI qs (dC n-1))),aX (qs (bI qs (dC n-1))).num (qs (bI qs (dC n-1))).den,.int .i64 0]):=by
 have hlast:=bk.rk (dC n-1) (by omega);have hble:=Ng qs (dC n-1);have s0:oB n qs (aD n (dC n-1))=(qs (bI qs (dC n-1))).num:=by unfold oB;rw [hlast]
 have s1:oC n qs (aD n (dC n-1))=(qs (bI qs (dC n-1))).den:=by unfold oC;rw [hlast]
 have s2:oA n qs (aD n (dC n-1))=aT n (bI qs (dC n-1)):=by unfold oA;rw [hlast]
 obtain ⟨H2,hcl,hfin⟩:=bk.fin e jR lK gO (oA n qs) (oB n qs) (oC n qs) (xE n qs) (xF n qs) (fun r=>r=.tup [.data (aD n (bI qs (dC n-1))),aX (qs (bI qs (dC n-1))).num (qs (bI qs (dC n-1))).den,.int .i64 0]) (bI qs (dC n-1)) (by omega) s2;rw [s0,s1] at hfin;have hD:wX e jR lK gO fO dB H2 (bX fun r=>r=.tup [.data (aD n (bI qs (dC n-1))),aX (qs (bI qs (dC n-1))).num (qs (bI qs (dC n-1))).den,.int .i64 0]):=by rw [hfin]
 have tD:=Ap he (by kernel_rfl) (by kernel_rfl) hD;have hrun:=bk.run e jR lK gO (oA n qs) (oB n qs) (oC n qs) (xE n qs) (xF n qs) (VV n qs L) (DV (E e) dB (uU L n) fun x F' H'=>x=.norm∧F'=dB∧H'=H2);have hW:wB e jR lK gO (oA n qs) (oB n qs) (oC n qs) (xE n qs) (xF n qs) (VV n qs L) L n (DV (E e) dB (uU L n) fun x F' H'=>x=.norm∧F'=dB∧H'=H2):=by rw [hrun];refine VE _ _ _ _ _ _ n _ _ (fun p hp=>?_) ⟨H2,hcl,rfl,rfl,rfl⟩;obtain ⟨k,hk,hkk⟩:=GX hp;have hk2:=hk;rw [bk.len] at hk2;refine ⟨k,hk2,?_⟩;unfold aA;rw [cO,bY hk,hkk];rfl
 have tB:=yNi _ _ _ _ _ _ he (fun vs H hy=>yJg bk hq hy) hW;have tR:bP (eK (E e)) (.rangeF (.t 16) [17] (erase (iO FO)) (erase (iO FQ))) dB (uU L n) fun x F' H'=>x=.norm∧F'=dB∧H'=H2:=
  yGQ (fun _ _ h=>h) (n:=Io) (first:=[]) (cap:=[.ptr 3 1 0 0]) (fn:=(GR FN).fn) (by kernel_rfl) (by kernel_rfl) (by kernel_rfl) (by kernel_rfl) tB
 have tAll:bP (eK (E e)) yHP.fn.body (gT 0 [.data L]) [] (bX fun r=>r=.tup [.data (aD n (bI qs (dC n-1))),aX (qs (bI qs (dC n-1))).num (qs (bI qs (dC n-1))).den,.int .i64 0]):=by rw [yEH];refine bP.seq (Ap he (by kernel_rfl) (by kernel_rfl) ?_);rw [yNj];refine bP.seq (Ap he (by kernel_rfl) (by kernel_rfl) ?_);rw [yL7];refine hc _ ?_;refine bP.seq (bP.seq (Ap he (by kernel_rfl) (by kernel_rfl) ?_));rw [bk.ct];refine bP.block (bP.mono tR ?_);rintro x F' H' ⟨rfl,rfl,rfl⟩;exact tD
 obtain ⟨r,H',hr,m0,hm⟩:=bP.inl_ (aM.solo (E e)) (n:=pV) (fn:=yHP.fn) (by kernel_rfl) (he.num _ (by kernel_rfl)) (K:=fun r H'=>purR H' r=some (.tup [.data (aD n (bI qs (dC n-1))),aX (qs (bI qs (dC n-1))).num (qs (bI qs (dC n-1))).den,.int .i64 0])) rfl
  (bP.mono tAll (by
   intro x F' H' h;unfold bX at h
   cases x with
   | norm=>
    dsimp only at h ⊢;show (match ydz F' H' yHP.results with | some ps=>purR H' (mE ps)=_ | none=>False)
    cases hp:ydz F' H' yHP.results with
    | none=>rw [hp] at h;exact h.elim
    | some ps=>
     rw [hp] at h;dsimp only at h ⊢
     cases hr:purR H' (mE ps) with
     | none=>rw [hr] at h;exact h.elim
     | some r=>rw [hr] at h;exact Aaa some h
   | ret=>
    dsimp only at h ⊢;show (match ydz F' H' yHP.results with | some ps=>purR H' (mE ps)=_ | none=>False)
    cases hp:ydz F' H' yHP.results with
    | none=>rw [hp] at h;exact h.elim
    | some ps=>
     rw [hp] at h;dsimp only at h ⊢
     cases hr:purR H' (mE ps) with
     | none=>rw [hr] at h;exact h.elim
     | some r=>rw [hr] at h;exact Aaa some h
   | exit i=>exact h.elim
   | brk _ _=>exact h.elim))
 refine ⟨m0,fun k x m h1 h2 h3=>?_⟩;have h2':x=E e:=h2;have hmm:=hm k x m h1 h2 h3;subst h2';unfold yaO;have hs:(E e).sum pV [.data L]=none:=kR (by kernel_rfl) _;rw [hs,show (E e).qui pV=true from by kernel_rfl,hmm,show (E e).nl pV=false from by kernel_rfl];exact hr
end
theorem Y6 {L:Int} {c:Ck} (h:cM L c) {v:Rat} (h0:dE c 0≤v):∀ k,k≤c.dens.length→v≤dE c (aI c k)→∃ y,0≤y∧y≤aI c k∧dE c y=v
 | 0,_,h1=>⟨0,dT,by rw [wW h];exact dT,by rw [wW h] at h1;grind⟩
 | k+1,hk,h1=>by
  by_cases c1:v≤dE c (aI c k)
  ·obtain ⟨y,a,b,e⟩:=Y6 h h0 k (by omega) c1;have:=GH h (i:=k) (by omega);exact ⟨y,a,by grind,e⟩
  ·have d0:=den_pos h (i:=k) (by omega);have cp:=Ae h (i:=k) (by omega);have e:=jC (a:=v-dE c (aI c k)) (b:=aR c k) (by grind);have q0:0<(v-dE c (aI c k))/aR c k:=TS d0 (by grind);generalize (v-dE c (aI c k))/aR c k=u at e q0;have s1:=GJ h k (by omega);have s2:=GJ h (k+1) (by omega);have s3:=BF c k;have hu:u≤aI c (k+1)-aI c k:=by
    by_cases c2:u≤aI c (k+1)-aI c k
    ·exact c2
    ·have:=GT (a:=aI c (k+1)-aI c k) (b:=u) (c:=aR c k) (by grind) d0;grind
   refine ⟨aI c k+u,by grind,by grind,?_⟩;rw [Ju h (i:=k) (by omega) (by grind) (by grind)];grind
theorem yJh {L:Int} {c:Ck} (h:cM L c) {p w:Rat} (p0:0≤p) (p1:p≤(L:Rat)) (hw:0≤w) (hv:dE c p+w≤dE c (L:Rat)):∃ y,p≤y∧y≤(L:Rat)∧dE c y=dE c p+w:=by have hL:=GI h;have e0:dE c 0≤dE c p:=(cM.bd h dT (by grind) p0 p1).2 p0;obtain ⟨y,a,b,e⟩:=Y6 h (v:=dE c p+w) (by grind) c.dens.length (bV _) (by rw [hL];exact hv);rw [hL] at b;exact ⟨y,(cM.bd h p0 p1 a b).1 (by grind),b,e⟩
theorem Y7 {α:Type} {f:α→Rat}:∀ {R:List α},R≠[]→∃ i,i∈R∧∀ j∈R,f i≤f j
 | [],h=>absurd rfl h
 | [a],_=>⟨a,iP ..,fun j hj=>by simp only [Ed] at hj;subst hj;exact dT⟩
 | a::b::r,_=>by
  obtain ⟨i,hi,hm⟩:=Y7 (f:=f) (R:=b::r) (by simp)
  by_cases c:f a≤f i
  ·refine ⟨a,iP ..,fun j hj=>?_⟩;rcases qAp.1 hj with rfl | hj
   ·exact dT
   ·have:=hm j hj;grind
  ·refine ⟨i,gL _ hi,fun j hj=>?_⟩;rcases qAp.1 hj with rfl | hj
   ·grind
   ·exact hm j hj
theorem Y8 {L:Int} {q:Rat} (q0:0≤q) {cf:Int→Ck}:∀ (m:Nat) (R:List Int) (p:Rat),R.length=m→(∀ i∈R,cM L (cf i))→0≤p→p≤(L:Rat)→(∀ i∈R,dE (cf i) p+(m:Rat)*(q*bM (cf i))≤dE (cf i) (L:Rat)) →
  ∃ o,List.Perm o R∧∃ ys,Ch L (o.map cf) p q ys
 | 0,R,p,hR,_,_,_,_=>⟨[],by rw [List.length_eq_zero_iff.1 hR],[],rfl⟩
 | m+1,R,p,hR,hok,p0,p1,hv=>by
  have hw:∀ i∈R,0≤q*bM (cf i):=fun i hi=>vC q0 (eY (rI (hok i hi)))
  have hmm:(0:Rat)≤(m:Rat):=Rat.natCast_nonneg;have hcast:((m+1:Nat):Rat)=(m:Rat)+1:=by rw [Rat.natCast_add];rfl
  have hex:∀ i,∃ y,i∈R→p≤y∧y≤(L:Rat)∧dE (cf i) y=dE (cf i) p+q*bM (cf i):=fun i=>by
   by_cases hi:i∈R
   ·have h1:=hv i hi;rw [hcast] at h1;have h2:=hw i hi;have h3:=vC hmm h2;obtain ⟨y,a,b,e⟩:=yJh (hok i hi) (w:=q*bM (cf i)) p0 p1 h2 (by grind);exact ⟨y,fun _=>⟨a,b,e⟩⟩
   ·exact ⟨0,fun h=>absurd h hi⟩
  obtain ⟨f,hf⟩:=Classical.skolem.1 hex;obtain ⟨i,hi,hm⟩:=Y7 (f:=f) (R:=R) (by rintro rfl;cases hR);obtain ⟨a,b,e⟩:=hf i hi;have hsub:∀ j∈R.erase i,j∈R:=fun j hj=>List.mem_of_mem_erase hj
  obtain ⟨o,ho,ys,hys⟩:=Y8 q0 m (R.erase i) (f i) (by rw [List.length_erase_of_mem hi,hR];rfl) (fun j hj=>hok j (hsub j hj)) (by grind) b (fun j hj=>by
   have hj:=hsub j hj;obtain ⟨a',b',e'⟩:=hf j hj;have h1:=hv j hj;rw [hcast] at h1;have h4:=(cM.bd (hok j hj) (x:=f i) (y:=f j) (by grind) b (by grind) b').2 (hm j hj);grind)
  exact ⟨i::o,(List.Perm.cons i ho).trans (List.perm_cons_erase hi).symm,f i::ys,f i,ys,rfl,a,b,e,hys⟩
theorem Ch.last_le {L:Int} {q:Rat}:∀ {cs:List Ck} {p:Rat} {ys:List Rat},Ch L cs p q ys→∀ b,ys.getLast?=some b→b≤(L:Rat)
 | [],p,ys,h,b,hb=>by have h:ys=[]:=h;rw [h] at hb;cases hb
 | c::cs,p,ys,h,b,hb=>by
  obtain ⟨y,r,rfl,h1,h2,h3,h4⟩:=h
  cases r with
  | nil =>simp only [List.getLast?_singleton,bU] at hb;rw [← hb];exact h2
  | cons z r=>exact Ch.last_le h4 b (by rw [JR] at hb;exact hb)
theorem Ch.len {L:Int} {q:Rat}:∀ {cs:List Ck} {p:Rat} {ys:List Rat},Ch L cs p q ys→ys.length=cs.length
 | [],p,ys,h=>by have h:ys=[]:=h;rw [h];rfl
 | c::cs,p,ys,h=>by obtain ⟨y,r,rfl,h1,h2,h3,h4⟩:=h;rw [gS,gS,Ch.len h4]
theorem yJi {L:Int} {r q:Rat} {cs:List Ck} {ys:List Rat} (hok:∀ c∈cs,cM L c) (hL:(0:Rat)≤(L:Rat)) (hn:cs≠[]) (h:Ch L cs 0 q ys) (hr:FinS L cs r):q≤r:=by
 obtain ⟨r0,xs,hx,hl⟩:=hr;rcases rtri q r with c | c | c
 ·exact eY c
 ·rw [c];exact dT
 ·have hlen:=h.len;have hne:ys≠[]:=by rintro rfl;cases cs with | nil=>exact hn rfl | cons _ _=>cases hlen
  have:=Ch.lt (eY r0) c hok dT dT hL hx h _ _ hl (JN hne);have:=h.last_le _ (JN hne);grind
def bK (c:Ck):Ck:=⟨c.len,(c.cuts.map fun x=>c.len-x).reverse,c.dens.reverse⟩
theorem Y9 {l:List Int} {i:Nat} (h:i<l.length):l.reverse.getD i 0=l.getD (l.length-1-i) 0:=by rw [cO,cO,bY (by rw [BL];exact h),bY (by omega),List.getElem_reverse]
theorem yGU {l:List Int} {L:Int} {i:Nat} (h:i<l.length):(l.map fun x=>L-x).getD i 0=L-l.getD i 0:=by rw [cO,cO,rT,bY h];rfl
section
variable {L:Int} {c:Ck}
theorem Z0 (c:Ck):(bK c).cuts.length=c.cuts.length∧(bK c).dens.length=c.dens.length:=by unfold bK;simp only [BL,jH,and_self]
theorem JJ (c:Ck) {i:Nat} (hi:i<c.cuts.length):(bK c).cuts.getD i 0=c.len-c.cuts.getD (c.cuts.length-1-i) 0:=by show ((c.cuts.map fun x=>c.len-x).reverse).getD i 0=_;rw [Y9 (by rw [jH];exact hi),jH,yGU (by omega)]
theorem Z1 (c:Ck) {i:Nat} (hi:i<c.dens.length):(bK c).dens.getD i 0=c.dens.getD (c.dens.length-1-i) 0:=Y9 hi
theorem Nh (h:cM L c) (hl:c.len=L):cM L (bK c)∧(bK c).len=L:=by
 obtain ⟨m1,m2⟩:=Z0 c;have l1:=h.1.l1;have h0:=h.1.2.2.1;have c0:c.cuts.getD 0 0=0:=h.1.2.2.2.2.2.1;have cl:=h.1.2.2.2.2.2.2.1;refine ⟨⟨⟨h.1.1,h.1.2.1,by rw [m1];exact h0,by rw [m1];exact h.1.l2,by rw [m1,m2];exact l1,?_,?_,?_,?_,?_⟩,?_⟩,hl⟩
 ·rw [JJ c (by omega),show c.cuts.length-1-0=c.cuts.length-1 by omega,cl,hl];omega
 ·rw [m1,JJ c (by omega),show c.cuts.length-1-(c.cuts.length-1)=0 by omega,c0,hl];omega
 ·refine (N2 _).2 fun j h1 h2=>?_
  rw [m1] at h1 h2;rw [JJ c h1,JJ c h2];have:=h.1.step (i:=c.cuts.length-1-(j+1)) (by omega);rw [show c.cuts.length-1-(j+1)+1=c.cuts.length-1-j by omega] at this;omega
 ·intro d hd;exact h.1.2.2.2.2.2.2.2.2.1 d (List.mem_reverse.1 hd)
 ·obtain ⟨d,hd,hp⟩:=h.1.2.2.2.2.2.2.2.2.2;exact ⟨d,List.mem_reverse.2 hd,hp⟩
 ·intro i hi;rw [m2] at hi;rw [Z1 c hi];exact h.2 _ (by omega)
theorem Ni (h:cM L c) (hl:c.len=L) {i:Nat} (hi:i≤c.dens.length):aI (bK c) i=(L:Rat)-aI c (c.dens.length-i):=by have:=h.1.l1;unfold aI;rw [JJ c (by omega),BN,hl,show c.cuts.length-1-i=c.dens.length-i by omega]
theorem Z2 {i:Nat} (hi:i<c.dens.length):aR (bK c) i=aR c (c.dens.length-1-i):=by unfold aR;rw [Z1 c hi]
theorem Z3 (h:cM L c) (hl:c.len=L):∀ i,i≤c.dens.length→dJ (bK c) i=dJ c c.dens.length-dJ c (c.dens.length-i)
 | 0,_=>by rw [Nat.sub_zero];show ((0:Int):Rat)=_;grind
 | i+1,hi=>by have ih:=Z3 h hl i (by omega);have s1:=BF (bK c) i;have s2:=BF c (c.dens.length-(i+1));rw [show c.dens.length-(i+1)+1=c.dens.length-i by omega] at s2;have e1:=Ni h hl (i:=i) (by omega);have e2:=Ni h hl (i:=i+1) hi;have e3:=Z2 (c:=c) (i:=i) (by omega);rw [show c.dens.length-1-i=c.dens.length-(i+1) by omega] at e3;rw [s1,ih,e1,e2,e3];grind
theorem yJj (h:cM L c):dJ c c.dens.length=bM c:=by have:=GJ h c.dens.length (bV _);rw [GI h,Jv h] at this;grind
theorem Z4 (h:cM L c) {u:Rat} (h0:0≤u):∀ k,k≤c.dens.length→0<k→u≤aI c k→∃ i,i<c.dens.length∧aI c i≤u∧u≤aI c (i+1)
 | 0,_,hp,_=>absurd hp (BP _)
 | k+1,hk,_,h1=>by
  by_cases c1:aI c k≤u
  ·exact ⟨k,by omega,c1,h1⟩
  ·cases k with
   | zero=>rw [wW h] at c1;exact absurd h0 c1
   | succ k=>exact Z4 h h0 (k+1) (by omega) (by omega) (by grind)
theorem VW (h:cM L c) (hl:c.len=L) {x:Rat} (x0:0≤x) (x1:x≤(L:Rat)):(dE (bK c) x-dE (bK c) 0)+(dE c ((L:Rat)-x)-dE c 0)=bM c:=by
 obtain ⟨hm,_⟩:=Nh h hl;have m2:=(Z0 c).2;have hd:0<c.dens.length:=by have:=h.1.l1;have:=h.1.2.2.1;omega
 obtain ⟨i,hi,a,b⟩:=Z4 hm x0 (bK c).dens.length (bV _) (by omega) (by rw [GI hm];exact x1);rw [m2] at hi;have e1:=Ni h hl (i:=i) (by omega);have e2:=Ni h hl (i:=i+1) (by omega);have e3:=Z2 (c:=c) (i:=i) hi;have e4:=Z3 h hl i (by omega);have s2:=BF c (c.dens.length-(i+1));have v1:=Ju hm (i:=i) (by omega) a b;have hn:c.dens.length-(i+1)+1=c.dens.length-i:=by omega
 have v2:=Ju h (i:=c.dens.length-(i+1)) (y:=(L:Rat)-x) (by omega) (by grind) (by rw [hn];grind);rw [hn] at s2;rw [show c.dens.length-1-i=c.dens.length-(i+1) by omega] at e3;have ut:=yJj h;rw [v1,v2,e1,e3,e4];grind
theorem yJk (h:cM L c) (hl:c.len=L):bM (bK c)=bM c:=by
 obtain ⟨hm,_⟩:=Nh h hl;have hL:(0:Rat)≤(L:Rat):=by have:=(wV h.1).1;grind
 have e:=VW h hl (x:=(L:Rat)) hL dT;have:=Jv hm;rw [show (L:Rat)-(L:Rat)=0 by grind] at e;grind
end
def Cz (L:Int):List Ck→Rat→Rat→Rat→Prop
 | [],p,_,z=>p=z
 | c::cs,p,q,z=>∃ y,p≤y∧y≤(L:Rat)∧dE c y=dE c p+q*bM c∧Cz L cs y q z
theorem Cz.snoc {L:Int} {q:Rat} {c:Ck}:∀ {cs:List Ck} {p y z:Rat},Cz L cs p q y→y≤z→z≤(L:Rat)→dE c z=dE c y+q*bM c→Cz L (cs++[c]) p q z
 | [],p,y,z,h,a,b,e=>by have h:p=y:=h;subst h;exact ⟨z,a,b,e,rfl⟩
 | d::cs,p,y,z,⟨u,a',b',e',r⟩,a,b,e=>⟨u,a',b',e',Cz.snoc r a b e⟩
theorem Z5 (y p:Rat):∀ r:List Rat,(y::r).getLast?.getD p=r.getLast?.getD y
 | []=>rfl
 | a::r=>by rw [JR,JN (by simp)];rfl
theorem Ch.cz {L:Int} {q:Rat}:∀ {cs:List Ck} {p:Rat} {ys:List Rat},Ch L cs p q ys→Cz L cs p q (ys.getLast?.getD p)
 | [],p,ys,h=>by have h:ys=[]:=h;subst h;rfl
 | c::cs,p,ys,h=>by obtain ⟨y,r,rfl,a,b,e,k⟩:=h;refine ⟨y,a,b,e,?_⟩;have:=Ch.cz k;rw [Z5];exact this
theorem Cz.ch {L:Int} {q:Rat}:∀ {cs:List Ck} {p z:Rat},Cz L cs p q z→∃ ys,Ch L cs p q ys∧ys.getLast?.getD p=z
 | [],p,z,h=>⟨[],rfl,h⟩
 | c::cs,p,z,⟨y,a,b,e,k⟩=>by obtain ⟨ys,h1,h2⟩:=Cz.ch k;refine ⟨y::ys,⟨y,ys,rfl,a,b,e,h1⟩,?_⟩;rw [Z5];exact h2
theorem Cz.mir {L:Int} {q:Rat}:∀ {cs:List Ck} {p z:Rat},(∀ c∈cs,cM L c∧c.len=L)→0≤p→p≤(L:Rat)→Cz L cs p q z→Cz L ((cs.map bK).reverse) ((L:Rat)-z) q ((L:Rat)-p)
 | [],p,z,_,_,_,h=>by have h:p=z:=h;subst h;exact rfl
 | c::cs,p,z,hok,p0,p1,⟨y,a,b,e,k⟩=>by obtain ⟨h,hl⟩:=hok c (iP ..);have r:=Cz.mir (fun d hd=>hok d (gL _ hd)) (by grind) b k;rw [vE,List.reverse_cons];refine Cz.snoc r (by grind) (by grind) ?_;have e1:=VW h hl (x:=(L:Rat)-p) (by grind) (by grind);have e2:=VW h hl (x:=(L:Rat)-y) (by grind) (by grind);rw [show (L:Rat)-((L:Rat)-p)=p by grind] at e1;rw [show (L:Rat)-((L:Rat)-y)=y by grind] at e2;rw [yJk h hl];grind
theorem FinS.mir {L:Int} {cs:List Ck} {q:Rat} (hok:∀ c∈cs,cM L c∧c.len=L) (hL:(0:Rat)≤(L:Rat)) (hn:cs≠[]) (h:FinS L cs q):FinS L ((cs.map bK).reverse) q:=by
 obtain ⟨q0,ys,hy,hl⟩:=h;have h1:=hy.cz;rw [hl] at h1;have h2:=Cz.mir hok dT hL h1;obtain ⟨zs,h3,h4⟩:=h2.ch;refine ⟨q0,zs,?_,?_⟩
 ·rw [show (L:Rat)-(some (L:Rat)).getD 0=0 by show (L:Rat)-(L:Rat)=0;grind] at h3;exact h3
 ·have hlen:=h3.len;have hne:zs≠[]:=by
   rintro rfl;rw [BL,jH] at hlen;exact hn (List.length_eq_zero_iff.1 hlen.symm)
  rw [JN hne] at h4 ⊢;rw [show (L:Rat)-0=(L:Rat) by grind] at h4;exact Aaa some h4
structure FL (l:List Ck):Prop where
 d:DK l
 h4:l.length≤4
 hun:∀ c∈l,GF c.dens
def rR (n k:Nat):List Int:=((dZ n).filter fun p=>Nat.beq p.length n).getD k []
theorem Z6:∀ n,1≤n→n≤4→∀ k,k<dC n→rR n k∈eG n
 | 1,_,_=>by decide +kernel
 | 2,_,_=>by decide +kernel
 | 3,_,_=>by decide +kernel
 | 4,_,_=>by decide +kernel
 | n+5,_,h=>absurd h (by omega)
theorem yGW:∀ n,1≤n→n≤4→∀ o∈eG n,∃ k,k<dC n∧rR n k=o
 | 1,_,_=>by decide +kernel
 | 2,_,_=>by decide +kernel
 | 3,_,_=>by decide +kernel
 | 4,_,_=>by decide +kernel
 | n+5,_,h=>absurd h (by omega)
theorem Z7:∀ n,0<dC n
 | 0=>by decide
 | n+1=>Nat.mul_pos (by omega) (Z7 n)
theorem yMK:∀ (L:List PV),1≤L.length→L.length≤4→BK L L.length
 | [],h,_=>absurd h (by decide)
 | [c0],_,_=>VO c0
 | [c0,c1],_,_=>VQ c0 c1
 | [c0,c1,c2],_,_=>VS c0 c1 c2
 | [c0,c1,c2,c3],_,_=>VT c0 c1 c2 c3
 | _::_::_::_::_::_,_,h=>absurd h (by simp only [gS];omega)
section
variable {l:List Ck}
theorem FL.ft (h:FL l) {o:List Int} (ho:o∈eG l.length):Ft l o:=⟨h.d,h.h4,h.hun,ho⟩
theorem Ft.fl {o:List Int} (h:Ft l o):FL l:=⟨h.d,h.h4,h.hun⟩
theorem FL.parts (h:FL l):∃ qs:Nat→Rat,∀ k,k<dC l.length→FinS (lnE l) (dP l (rR l.length k)) (qs k)∧small (qs k)∧∀ K:Int→Int→Prop,lK (cks l) (aD l.length k) K=K (qs k).num (qs k).den:=by
 have hn:=h.d.n0;have hex:∀ k,∃ q:Rat,k<dC l.length→FinS (lnE l) (dP l (rR l.length k)) q∧small q∧∀ K:Int→Int→Prop,lK (cks l) (aD l.length k) K=K q.num q.den:=fun k=>by
  by_cases hk:k<dC l.length
  ·obtain ⟨q,h1,h2,h3⟩:=(h.ft (Z6 l.length (by omega) h.h4 k hk)).part;exact ⟨q,fun _=>⟨h1,h2,h3⟩⟩
  ·exact ⟨0,fun k=>absurd k hk⟩
 exact Classical.skolem.1 hex
theorem yNk {o:List Int} (h:Ft l o) {q r:Rat} (hq:FinS (lnE l) (dP l o) q) (hr:FinS (lnE l) (dP l o) r):q=r:=by
 obtain ⟨n1,n2,n3⟩:=h.n;have hne:dP l o≠[]:=fun k=>by have:=uS (l:=l) (o:=o);rw [k] at this;simp at this;omega
 obtain ⟨c,hc⟩:=List.exists_mem_of_ne_nil _ hne;have:=(wV (h.ok c hc).1).1;exact FinS.uniq h.ok (by grind) hq hr
theorem FL.best (h:FL l):∃ (o:List Int) (q:Rat),o∈eG l.length∧FinS (lnE l) (dP l o) q∧small q∧(∀ o'∈eG l.length,∀ r,FinS (lnE l) (dP l o') r→r≤q)∧(∃ qs:Nat→Rat,(∀ k,k<dC l.length→FinS (lnE l) (dP l (rR l.length k)) (qs k))∧o=rR l.length (bI qs (dC l.length-1))∧q=qs (bI qs (dC l.length-1))) ∧
  ∀ K:List PV→Int→Int→Int→Prop,zV (cks l) K=K (aB o) q.num q.den 0:=by
 have hn:=h.d.n0;have hf:=Z7 l.length;obtain ⟨qs,hq⟩:=h.parts;have hb:=Ng qs (dC l.length-1);have hlt:bI qs (dC l.length-1)<dC l.length:=by omega
 have hp:=Z6 l.length (by omega) h.h4 _ hlt;refine ⟨_,_,hp,(hq _ hlt).1,(hq _ hlt).2.1,fun o' ho' r hr=>?_,⟨qs,fun k hk=>(hq k hk).1,rfl,rfl⟩,fun K=>?_⟩
 ·obtain ⟨k,hk,rfl⟩:=yGW l.length (by omega) h.h4 o' ho';rw [yNk (h.ft ho') hr (hq k hk).1];exact VU qs _ k (by omega)
 ·refine F4 _ _ _ _ _ (fun K k=>⟨_,_,_,_,k,fun e he=>?_⟩) K;have bk:=yMK (cks l) (by rw [gK];omega) (by rw [gK];exact h.h4);rw [gK] at bk;exact yGR he bk hf (fun K k=>by rw [(h.ft hp).check];exact k) (fun k hk=>(hq k hk).2)
end
theorem JK {L:Int} {c:Ck} (h:cM L c) (hl:c.len=L) {x1:List PV→Int→List PV→List PV→Int→Int→Int→Bool→Prop} {d:List PV} {i3 i4:Int}:∀ (k n:Nat) (out:List Int),k≤c.cuts.length→k<n→out.length+k≤c.cuts.length →
  Dw x1 n (aB out) c.len (aB c.cuts) d i3 i4 ((k:Int)-1)=x1 (aB (out++((c.cuts.take k).map fun x=>c.len-x).reverse)) c.len (aB c.cuts) d i3 i4 (-1) false
 | 0,n+1,out,hk,hn,ho=>by unfold Dw;rw [cX (by omega)];simp only [List.take_zero,List.map_nil,List.reverse_nil,Eh];rfl
 | k+1,n+1,out,hk,hn,ho=>by
  have hL:=h.1.len0;have l2:=h.1.l2;have b0:=h.1.lo (i:=k) (by omega);have b1:=h.1.hi (i:=k) (by omega);unfold Dw;have e1:=dO (n:=(((k+1:Nat):Int)-1)-1) (by omega) (by omega);have e2:=dO (n:=c.len-c.cuts.getD k 0) (by omega) (by omega);dsimp only [Go.Pf.lt];rw [cU (by omega),aK (by omega),cN,aK (by omega),show (((k+1:Nat):Int)-1).toNat=k by omega,eQ (by omega),dW (by omega),e2,aK rfl,aK (by omega),gD (by simp),aK rfl,cN,aK (by unfold room;omega),e1,gD (by simp),
   show (((k+1:Nat):Int)-1)-1=(k:Int)-1 by omega,show aB out++[PV.int .i64 (c.len-c.cuts.getD k 0)]=aB (out++[c.len-c.cuts.getD k 0]) by unfold aB;rw [rV];rfl]
  rw [JK h hl k n _ (by omega) (by omega) (by rw [mB];simp only [gS,xL];omega)];rw [uX,bY (show k<c.cuts.length by omega),Option.toList,rV,List.reverse_append,sX,cO,bY (show k<c.cuts.length by omega)];rfl
theorem JL {c:Ck} {x1:List PV→List PV→Int→List PV→List PV→Int→Int→Int→Bool→Prop} {l0 p1:List PV} {i2 i5 i6:Int} (hd:c.dens.length≤100):∀ (k n:Nat) (out:List Int),k≤c.dens.length→k<n→out.length+k≤c.dens.length →
  Dx x1 n l0 (aB out) i2 p1 (aB c.dens) i5 i6 ((k:Int)-1)=x1 l0 (aB (out++(c.dens.take k).reverse)) i2 p1 (aB c.dens) i5 i6 (-1) false
 | 0,n+1,out,hk,hn,ho=>by unfold Dx;rw [cX (by omega)];simp only [List.take_zero,List.reverse_nil,Eh];rfl
 | k+1,n+1,out,hk,hn,ho=>by
  unfold Dx;have e1:=dO (n:=(((k+1:Nat):Int)-1)-1) (by omega) (by omega);dsimp only [Go.Pf.lt];rw [cU (by omega),aK (by omega),cN,aK (by omega),show (((k+1:Nat):Int)-1).toNat=k by omega,eQ (by omega),dW (by omega),aK rfl,aK (by omega),gD (by simp),aK rfl,cN,aK (by unfold room;omega),e1,gD (by simp),
   show (((k+1:Nat):Int)-1)-1=(k:Int)-1 by omega,show aB out++[PV.int .i64 (c.dens.getD k 0)]=aB (out++[c.dens.getD k 0]) by unfold aB;rw [rV];rfl]
  rw [JL hd k n _ (by omega) (by omega) (by rw [mB];simp only [gS,xL];omega)];rw [uX,bY (show k<c.dens.length by omega),Option.toList,List.reverse_append,sX,cO,bY (show k<c.dens.length by omega)];rfl
theorem Z8 {L:Int} {c:Ck} (h:cM L c) (hl:c.len=L) (K:Int→List PV→List PV→Prop):zW c.len (aB c.cuts) (aB c.dens) K=K c.len (aB (bK c).cuts) (aB (bK c).dens):=by
 refine yux _ _ _ _ _ _ (fun K k=>?_) K;have hL:=h.1.len0;have l1:=h.1.l1;have l2:=h.1.l2;have h2:=h.1.2.2.1;have b0:=h.1.lo (i:=c.cuts.length-1) (by omega);have b1:=h.1.hi (i:=c.cuts.length-1) (by omega);have e1:=dO (n:=(c.cuts.length:Int)-1) (by omega) (by omega);have e2:=dO (n:=c.len-c.cuts.getD (c.cuts.length-1) 0) (by omega) (by omega);have e3:=dO (n:=((c.cuts.length:Int)-1)-1) (by omega) (by omega);have e4:=dO (n:=(c.dens.length:Int)-1) (by omega) (by omega);have e5:=dO (n:=((c.dens.length:Int)-1)-1) (by omega) (by omega);have lastC:∀ {l:List Int} (hl:1≤l.length),l=l.take (l.length-1)++[l.getD (l.length-1) 0]:=fun {l} hl=>by
  have:l.take (l.length-1+1)=_:=uX;rw [uV (by omega),bY (by omega)] at this;rw [cO,bY (show l.length-1<l.length by omega)];exact this
 unfold zW Ts;dsimp only [Go.Pf.lt];rw [cN,e1];refine ⟨c.cuts.length+2,?_⟩;unfold Tp;dsimp only [Go.Pf.lt];rw [cU (by omega),aK (by omega),cN,aK (by omega),show ((c.cuts.length:Int)-1).toNat=c.cuts.length-1 by omega,eQ (by omega),dW (by omega),e2,e3,gD (by simp),show ((c.cuts.length:Int)-1)-1=((c.cuts.length-1:Nat):Int)-1 by omega];show Dw _ (c.cuts.length+1) (aB [c.len-c.cuts.getD (c.cuts.length-1) 0]) c.len (aB c.cuts) _ _ _ _;rw [JK h hl _ _ _ (by omega) (by omega) (by simp only [gS,xL];omega)];rw [show aB ([c.len-c.cuts.getD (c.cuts.length-1) 0]++((c.cuts.take (c.cuts.length-1)).map fun x=>c.len-x).reverse)=aB (bK c).cuts by
  show _=aB ((c.cuts.map fun x=>c.len-x).reverse)
  conv=>rhs;rw [lastC (l:=c.cuts) (by omega),rV,List.reverse_append]
  rfl]
 rw [gD (by simp),cN,e4];refine ⟨c.dens.length+2,?_⟩;unfold Tr;dsimp only [Go.Pf.lt];rw [cU (by omega),aK (by omega),cN,aK (by omega),show ((c.dens.length:Int)-1).toNat=c.dens.length-1 by omega,eQ (by omega),dW (by omega),e5,gD (by simp),show ((c.dens.length:Int)-1)-1=((c.dens.length-1:Nat):Int)-1 by omega];show Dx _ (c.dens.length+1) _ (aB [c.dens.getD (c.dens.length-1) 0]) c.len (aB c.cuts) (aB c.dens) _ _ _;rw [JL (by omega) _ _ _ (by omega) (by omega) (by simp only [gS,xL];omega)];rw [show aB ([c.dens.getD (c.dens.length-1) 0]++(c.dens.take (c.dens.length-1)).reverse)=aB (bK c).dens by
  show _=aB c.dens.reverse
  conv=>rhs;rw [lastC (l:=c.dens) (by omega),List.reverse_append]
  rfl]
 rw [aK rfl,aK (by omega),aK rfl,aK (by omega),xJ,xJ];exact k
theorem yGX:∀ n,∀ o∈eG n,o.reverse∈eG n
 | 0,_,h=>by cases h
 | 1,o,h=>by revert o;decide +kernel
 | 2,o,h=>by revert o;decide +kernel
 | 3,o,h=>by revert o;decide +kernel
 | 4,o,h=>by revert o;decide +kernel
 | _+5,_,h=>by cases h
def mK (n:Nat):List Int:=(List.range n).map fun (i:Nat)=>(i:Int)
theorem yJl:∀ n,1≤n→n≤4→mK n∈eG n
 | 1,_,_=>by decide +kernel
 | 2,_,_=>by decide +kernel
 | 3,_,_=>by decide +kernel
 | 4,_,_=>by decide +kernel
 | n+5,_,h=>absurd h (by omega)
def Aq (n:Nat) (o:List Int):Bool:=!(decide o.Nodup)||decide (o∈eG n)
theorem Z9 {n:Nat} {o:List Int} (h:Aq n o=true) (hn:o.Nodup):o∈eG n:=by unfold Aq at h;rw [Eo hn] at h;exact of_decide_eq_true h
theorem pG {n:Nat} {f:Nat→Bool} (h:(List.range n).all f=true) {i:Nat} (hi:i<n):f i=true:=Ay.1 h i (xM.2 hi)
theorem yNl:((List.range 3).all fun (i:Nat)=>(List.range 3).all fun (j:Nat)=>(List.range 3).all fun (k:Nat)=>Aq 3 [(i:Int),(j:Int),(k:Int)])=true:=by decide +kernel
theorem yNm:((List.range 4).all fun (i:Nat)=>(List.range 4).all fun (j:Nat)=>(List.range 4).all fun (k:Nat)=>(List.range 4).all fun (m:Nat)=>Aq 4 [(i:Int),(j:Int),(k:Int),(m:Int)])=true:=by decide +kernel
theorem yJm:∀ n,1≤n→n≤4→∀ o,List.Perm o (mK n)→o∈eG n:=by
 intro n h1 h4 o hp;have hlen:o.length=n:=by rw [hp.length_eq];unfold mK;rw [jH,List.length_range]
 have hnd:o.Nodup:=hp.nodup_iff.2 (by
  obtain rfl|rfl|rfl|rfl:n=1∨n=2∨n=3∨n=4:=by omega
  all_goals decide +kernel)
 have hm:∀ a∈o,∃ k:Nat,k<n∧a=(k:Int):=fun a ha=>by
  have:=hp.mem_iff.1 ha;unfold mK at this;rw [List.mem_map] at this;obtain ⟨k,hk,e⟩:=this;exact ⟨k,xM.1 hk,e.symm⟩
 obtain rfl|rfl|rfl|rfl:n=1∨n=2∨n=3∨n=4:=by omega
 ·match o,hlen with
  | [a],_=>
   obtain ⟨i,hi,rfl⟩:=hm a (by simp);have:∀ i,i<1→[((i:Nat):Int)]∈eG 1:=by decide +kernel
   exact this i hi
 ·match o,hlen with
  | [a,b],_=>
   obtain ⟨i,hi,rfl⟩:=hm a (by simp);obtain ⟨j,hj,rfl⟩:=hm b (by simp);have:∀ i,i<2→∀ j,j<2→[((i:Nat):Int),((j:Nat):Int)].Nodup→[((i:Nat):Int),((j:Nat):Int)]∈eG 2:=by decide +kernel
   exact this i hi j hj hnd
 ·match o,hlen with
  | [a,b,c],_ =>obtain ⟨i,hi,rfl⟩:=hm a (by simp);obtain ⟨j,hj,rfl⟩:=hm b (by simp);obtain ⟨k,hk,rfl⟩:=hm c (by simp);exact Z9 (pG (pG (pG yNl hi) hj) hk) hnd
 ·match o,hlen with
  | [a,b,c,d],_ =>obtain ⟨i,hi,rfl⟩:=hm a (by simp);obtain ⟨j,hj,rfl⟩:=hm b (by simp);obtain ⟨k,hk,rfl⟩:=hm c (by simp);obtain ⟨m,hm',rfl⟩:=hm d (by simp);exact Z9 (pG (pG (pG (pG yNm hi) hj) hk) hm') hnd
section
variable {l:List Ck} {o:List Int}
theorem FL.okl (h:FL l):∀ c∈l,cM (lnE l) c∧c.len=lnE l:=(h.ft (yJl l.length (by have:=h.d.n0;omega) h.h4)).okl
theorem FL.len0 (h:FL l):(0:Rat)≤(lnE l:Rat):=by
 have:=h.d.n0;have hm:l.getD 0 default∈l:=by rw [cO,bY (by omega)];exact mL _
 have:=(wV (h.okl _ hm).1.1).1;grind
theorem FL.fair (h:FL l):∃ o∈eG l.length,∃ ys,Ch (lnE l) (dP l o) 0 (1/(l.length:Rat)) ys:=by
 have hn:=h.d.n0;have hmem:∀ a∈mK l.length,l.getD a.toNat default∈l:=fun a ha=>by
  unfold mK at ha;rw [List.mem_map] at ha;obtain ⟨k,hk,e⟩:=ha;have hk:=xM.1 hk;rw [← e,dL,cO,bY hk];exact mL _
 have n0:(0:Rat)<(l.length:Rat):=Rat.natCast_pos.2 (by omega);have q0:(0:Rat)≤1/(l.length:Rat):=eY (TS n0 (by decide));have hrl:(mK l.length).length=l.length:=by unfold mK;rw [jH,List.length_range]
 obtain ⟨o,hp,ys,hy⟩:=Y8 (L:=lnE l) q0 (cf:=fun a=>l.getD a.toNat default) l.length (mK l.length) 0 hrl (fun a ha=>(h.okl _ (hmem a ha)).1) dT h.len0 (fun a ha=>by
  have ht:=Jv (h.okl _ (hmem a ha)).1;have e:=jC (a:=1) (b:=(l.length:Rat)) (by grind);rw [ht];generalize 1/(l.length:Rat)=u at *
  generalize bM (l.getD a.toNat default)=T at *
  have:(l.length:Rat)*(u*T)=T:=by grind
  rw [this];exact dT)
 exact ⟨o,yJm _ (by omega) h.h4 o hp,ys,hy⟩
theorem FL.mir (h:FL l):FL (l.map bK)∧lnE (l.map bK)=lnE l:=by
 have hn:=h.d.n0;have at_:∀ i,i<l.length→(l.map bK).getD i default=bK (l.getD i default):=fun i hi=>by
  rw [cO,cO,rT,bY hi];rfl
 have mem:∀ i,i<l.length→l.getD i default∈l:=fun i hi=>by rw [cO,bY hi];exact mL _
 have hlen:(l.map bK).length=l.length:=jH ..;refine ⟨⟨⟨by rw [hlen];exact h.d.n6,by rw [hlen];exact hn,fun i hi=>?_,fun i hi=>?_⟩,by rw [hlen];exact h.h4,fun c hc=>?_⟩,?_⟩
 ·rw [hlen] at hi;rw [at_ i hi];have hk:=h.okl _ (mem i hi);have:=(Nh hk.1 hk.2);show VC (bK (l.getD i default)).len _ _;rw [this.2];exact this.1.1
 ·rw [hlen] at hi;rw [at_ i hi,at_ 0 (by omega)];exact h.d.len i hi
 ·obtain ⟨d,hd,rfl⟩:=List.mem_map.1 hc;have hk:=h.okl _ hd;exact (Nh hk.1 hk.2).1.2
 ·unfold lnE;rw [at_ 0 (by omega)];rfl
theorem yJn (h:Ft l o):dP (l.map bK) o.reverse=((dP l o).map bK).reverse:=by
 unfold dP;rw [List.map_reverse,List.map_map];congr 1;refine List.map_congr_left fun a ha=>?_
 have:=US h.p a ha;have hj:a.toNat<l.length:=by omega
 show (l.map bK).getD a.toNat default=bK (l.getD a.toNat default);rw [cO,cO,rT,bY hj];rfl
theorem aa {a0 a1 a2 a3 a4 a5 x1} (h:Ft l o) {i4 i5:Int}:∀ (r i n:Nat),i+r=l.length→r<n →
  GB a0 a1 a2 a3 a4 a5 zW x1 n (cks ((l.take i).map bK)) (aB (o.reverse.take i)) (cks l) (aB o) i4 i5 (i:Int)=x1 (cks (l.map bK)) (aB o.reverse) (cks l) (aB o) i4 i5 (l.length:Int) false
 | 0,i,n+1,hi,hn=>by have hol:=h.n.1;unfold GB;rw [gK,cX (by omega),uV (by omega),uV (by rw [BL];omega),show i=l.length by omega]
 | r+1,i,n+1,hi,hn=>by
  have hol:=h.n.1;have h4:=h.h4;unfold GB;have hm:l.getD i default∈l:=by rw [cO,bY (by omega)];exact mL _
  have hk:=h.okl _ hm;have l1:((l.take i).map bK).length=i:=by rw [jH,kX];omega
  have l2:(o.reverse.take i).length=i:=by rw [kX,BL];omega
  have e1:=dO (n:=(o.length:Int)-1) (by omega) (by omega);have e2:=dO (n:=(o.length:Int)-1-(i:Int)) (by omega) (by omega);have e3:=dO (n:=(i:Int)+1) (by omega) (by omega);dsimp only [Go.Pf.lt];rw [gK,cU (by omega),aK (by omega),aK (by omega),dL,oZ (by omega),eS,rF,wU,Ab,Z8 hk.1 hk.2];rw [aK rfl,aK (by omega),gD (by simp),aK rfl,gK,l1,aK (by unfold room;omega),cN,e1,e2,aK (by omega),aK (by omega),show ((o.length:Int)-1-(i:Int)).toNat=o.length-1-i by omega,eQ (by omega),dW (by omega),aK rfl,aK (by omega),gD (by simp),aK rfl,cN,l2,aK (by unfold room;omega),e3,mA,gD (by simp)];have t1:cks ((l.take i).map bK)++[PV.agg [.int .i64 (l.getD i default).len,.data (aB (bK (l.getD i default)).cuts),.data (aB (bK (l.getD i default)).dens)]]=cks ((l.take (i+1)).map bK):=by rw [uX,bY (show i<l.length by omega),Option.toList,rV];unfold cks;rw [rV,cO,bY (show i<l.length by omega)];rfl
  have t2:aB (o.reverse.take i)++[PV.int .i64 (o.getD (o.length-1-i) 0)]=aB (o.reverse.take (i+1)):=by rw [uX,bY (show i<o.reverse.length by rw [BL];omega),Option.toList];unfold aB;rw [rV,List.getElem_reverse,cO,bY (show o.length-1-i<o.length by omega)];rfl
  rw [t1,t2];exact aa h r (i+1) n (by omega) (by omega)
def Ar (n:Nat):Rat:=1/(n:Rat)
theorem yJo:∀ n:Nat,1≤n→n≤4→(Ar n).num=1∧((Ar n).den:Int)=(n:Int)∧small (Ar n)
 | 1,_,_=>by decide +kernel
 | 2,_,_=>by decide +kernel
 | 3,_,_=>by decide +kernel
 | 4,_,_=>by decide +kernel
 | n+5,_,h=>absurd h (by omega)
theorem yuV (hl:l.length≤9223372036854775807) (ho:o.length≤9223372036854775807):Mz (cks l) (aB o) (fun b=>b=true):=by
 unfold Mz Tx;dsimp only [Go.Pf.jn];rw [yGK hl ho]
 cases hf:JD l o with
 | false=>rw [AD,bL,W9]
 | true=>
  have h:=UT hf;have hF:=h.fl;have hn:=h.d.n0;have h4:=h.h4;obtain ⟨q,hq,qs,hP⟩:=h.Part;obtain ⟨b,r,hb,hr,rs,hmax,_,hB⟩:=hF.best;obtain ⟨o1,o2,o3⟩:=yJo l.length (by omega) h4;have hqr:q≤r:=hmax o h.p q hq;have hone:Ar l.length≤r:=by
   obtain ⟨o',ho',ys,hy⟩:=hF.fair;obtain ⟨r',hr',_,_⟩:=(hF.ft ho').part;have hne:dP l o'≠[]:=fun k=>by have:=uS (l:=l) (o:=o');rw [k,(hF.ft ho').n.1] at this;simp at this;omega
   have g1:=yJi (hF.ft ho').ok hF.len0 hne hy hr';have g2:=hmax o' ho' r' hr';exact gE g1 g2
  rw [Bool.not_true,bQ,hP,hB,eP rfl,eP rfl,yGf qs.i1 qs.i2 rs.i1 rs.i2,GD qs rs];show aG ((0:Int) !=0) _ _;rw [eP rfl,N1 rs qs,cX (by grind),gK,← o1,← o2,N1 rs o3,cX (by grind)];obtain ⟨s,hs,ss,hPs⟩:=(hF.ft hb).Part;have hsr:=Nd (hF.ft hb) hs hr;subst hsr;rw [hPs,eP rfl,show ((s.num==s.num)&&((((s.den:Nat):Int) ==((s.den:Nat):Int))&&true))=true from by rw [beq_self_eq_true,beq_self_eq_true];rfl,Bool.not_true];show aG false _ _;rw [bQ];obtain ⟨hM,hML⟩:=hF.mir;have hMl:(l.map bK).length=l.length:=jH ..;have hpr:o.reverse∈eG (l.map bK).length:=by rw [hMl];exact yGX _ _ h.p
  obtain ⟨t,ht,ts,hPt⟩:=(hM.ft hpr).Part;have hne:dP l o≠[]:=fun k=>by have:=uS (l:=l) (o:=o);rw [k,h.n.1] at this;simp at this;omega
  have hfm:=FinS.mir (fun c hc=>h.okl c (h.mem c hc)) hF.len0 hne hq;rw [← yJn h,← hML] at hfm;have htq:=Nd (hM.ft hpr) ht hfm;subst htq;refine ⟨l.length+2,?_⟩;unfold Tw;have hol:=h.n.1;have hm:l.getD 0 default∈l:=by rw [cO,bY (by omega)];exact mL _
  have hk:=h.okl _ hm;have e1:=dO (n:=(o.length:Int)-1) (by omega) (by omega);have e2:=dO (n:=(o.length:Int)-1-0) (by omega) (by omega);have e3:=dO (n:=(0:Int)+1) (by omega) (by omega);dsimp only [Go.Pf.lt];rw [gK,cU (by omega),aK (by omega),aK (by omega),show ((0:Int)).toNat=0 from rfl,oZ (by omega),eS,rF,wU,Ab,Z8 hk.1 hk.2];rw [cN,e1,e2,aK (by omega),aK (by omega),show ((o.length:Int)-1-0).toNat=o.length-1-0 by omega,eQ (by omega),dW (by omega),e3,gD (by simp)];have t1:[PV.agg [.int .i64 (l.getD 0 default).len,.data (aB (bK (l.getD 0 default)).cuts),.data (aB (bK (l.getD 0 default)).dens)]]=cks ((l.take 1).map bK):=by rw [uX,bY (show 0<l.length by omega),cO,bY (show 0<l.length by omega)];rfl
  have t2:[PV.int .i64 (o.getD (o.length-1-0) 0)]=aB (o.reverse.take 1):=by rw [uX,bY (show 0<o.reverse.length by rw [BL];omega),List.getElem_reverse,cO,bY (show o.length-1-0<o.length by omega)];rfl
  rw [t1,t2,show (0:Int)+1=((1:Nat):Int) from rfl,aa h (l.length-1) 1 _ (by omega) (by omega)];rw [aK rfl,aK (by omega),aK rfl,aK (by omega),xJ,xJ,hPt,nH rfl,show ((t.num==t.num)&&((((t.den:Nat):Int) ==((t.den:Nat):Int))&&true))=true from by rw [beq_self_eq_true,beq_self_eq_true];rfl,bL,W9]
end
end Go.Pf.Vc
