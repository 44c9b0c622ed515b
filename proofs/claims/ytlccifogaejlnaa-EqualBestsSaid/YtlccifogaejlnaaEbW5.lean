/- Part 5. -/
import Derived.Test.YtlccifogaejlnaaEbW4
open Go.IntKind (i64 u8 u64)
open List (length getD take drop replicate set map isEmpty)
namespace Go.Pf.Vc
open Go Go.Pf
theorem T5 {L:Int} {q:Rat}:∀ {S:List Sq} {x:Ln} {b:Bool},(∀ s∈S,kI L s)→iV (S.map eG) b (vJ q S x b)=(kF q S x b).map eG
 | [],_,b,_=>by cases b<;>rfl
 | s::S,x,b,h=>by
  obtain ⟨h1,h2,h3,h4⟩:=h s (jU ..);have l1:=h1.1.l1;have l2:=h1.1.l2;have ih:=T5 (q:=q) (S:=S) (x:=bK s x) (b:=true) (fun t ht=>h t (iY _ ht));have w1:=T4 (b:=decide (wh x (aK s.1 (s.2.1+1))=q)) h3 (by omega);have w2:=T4 (b:=decide (wh (bK s x) (aK s.1 (s.2.2+1))=q)) h4 (by omega)
  cases b with
  | true =>show Se.mk _ _ _ _ _ (bif decide (wh x (aK s.1 (s.2.1+1))=q) then i64.wrap ((s.2.1:Int)+1) else (s.2.1:Int)) (bif decide (wh (bK s x) (aK s.1 (s.2.2+1))=q) then i64.wrap ((s.2.2:Int)+1) else (s.2.2:Int))::iV (S.map eG) true (vJ q S (bK s x) true)=_;rw [ih,w1,w2];simp only [kF,xT,eG,decide_eq_true_eq,true_and]
  | false =>show Se.mk _ _ _ _ _ (s.2.1:Int) (bif decide (wh (bK s x) (aK s.1 (s.2.2+1))=q) then i64.wrap ((s.2.2:Int)+1) else (s.2.2:Int))::iV (S.map eG) true (vJ q S (bK s x) true)=_;rw [ih,w2];simp [kF,eG]
theorem jM.all {L:Int} {q:Rat}:∀ {S:List Sq} {x:Ln},jM L S x q→∀ s∈S,eI L s.1∧s.2.1<s.1.dens.length∧s.2.2<s.1.dens.length
 | [],_,_,s,h=>by cases h
 | t::S,x,⟨a,b,c,_,_,_,_,h⟩,s,hs=>by
  rcases qAs.1 hs with rfl|hs
  ·exact ⟨a,b,c⟩
  ·exact jM.all h s hs
theorem T6 {L:Int} {Lr:List PV} {S:List Sq} (h:∀ s∈S,kI L s) (hn:S≠[]) (h4:S.length≤4) (hL:0≤L∧L≤1000) (Q:List L4→Int→Int→Int→Int→Prop) :
  Hq oR mV gT gX L Lr (S.map eG) Q=Q ((mF S dE).map l4) (iG L S).num (iG L S).den (dK L S).num (dK L S).den∧small (iG L S)∧small (dK L S):=by
 have hx:=Nz;have hz:(0:Rat)≤dE.B:=kL;obtain ⟨lb,lB⟩:LB S.length (jL S dE)∧0<(jL S dE).B:=by
  have key:∀ {S:List Sq} {x:Ln} {k:Nat},(∀ s∈S,kI L s)→LB k x→0≤x.B→LB (k+S.length) (jL S x)∧(S≠[]→0<(jL S x).B):=by
   intro S;induction S with
   | nil=>intro x k _ hx _;exact ⟨hx,fun k=>absurd rfl k⟩
   | cons s S ih=>
    intro x k h hx hB;have hs:=h s (jU ..);have yB:=NF hs hB;obtain ⟨i1,i2⟩:=ih (x:=bK s x) (k:=k+1) (fun t ht=>h t (iY _ ht)) (Kd hs.1 hs.2.2.1 hs.2.2.2 hx) (jV yB);refine ⟨by rw [kK,show k+(S.length+1)=k+1+S.length by omega];exact i1,fun _=>?_⟩
    cases S with
    | nil=>exact yB
    | cons t S=>exact i2 (by simp)
  have:=key h hx hz;rw [lW] at this;exact ⟨this.1,this.2 hn⟩
 have ss:small (iG L S):=Kg h4 lb lB hL.1 hL.2;have v:=fun K=>S9 (b:=false) (q:=iG L S) K h hx (by omega) hz (fun k=>by cases k) ss
 refine ⟨?_,ss,(v fun _ _=>True).2⟩;show vH mV (S.map eG) (l4 dE) (fun ls=>aI (decide ((0:Int)<((Lr.length+1:Nat):Int))) (gT (mD ls).a (mD ls).b (mD ls).c (mD ls).d L fun s0 s1=>qA gT gX (S.map eG) ls (l4 dE) false s0 s1 fun q0 q1=>Q ls s0 s1 q0 q1))=_;rw [S7 _ h hx (by omega),bB (by omega),S8 hn];refine (S6 h4 lb lB hL.1 hL.2 _).trans ?_;exact (v _).1
set_option maxRecDepth 100000
theorem Vi {E:Env} {cK:CK} {lp:LP} {G:aG} {yk:YK}:∀ (n:Nat) (c:TC) (F:aG) (H:Hp) (Q:Ex→aG→Hp→Prop),WC E cK lp G yk c F H Q =
  WC E cK lp G yk (jO n c) F H fun x F' H'=>match x with
   | .norm=>WC E cK lp G yk (fQ n c) F' H' Q
   | .exit i=>Q (.exit i) F' H'
   | .ret=>Q .ret F' H'
   | .brk k i=>Q (.brk k i) F' H'
 | 0,c,F,H,Q=>by
  simp only [fQ]
  cases c<;>simp only [jO,WC]
 | n+1,.seq a b,F,H,Q=>by
  simp only [fQ,jO,WC];congr 1
  funext x F' H'
  cases x with
  | norm=>exact Vi n b F' H' Q
  | _=>rfl
 | n+1,.skip,F,H,Q=>by simp only [fQ,jO,WC]
 | n+1,.ops _ _ _ _,F,H,Q=>by simp only [fQ,jO,WC]
 | n+1,.cond _ _ _,F,H,Q=>by simp only [fQ,jO,WC]
 | n+1,.block _ _,F,H,Q=>by simp only [fQ,jO,WC]
 | n+1,.loop _ _,F,H,Q=>by simp only [fQ,jO,WC]
 | n+1,.lG _ _,F,H,Q=>by simp only [fQ,jO,WC]
 | n+1,.exit _,F,H,Q=>by simp only [fQ,jO,WC]
 | n+1,.ret,F,H,Q=>by simp only [fQ,jO,WC]
 | n+1,.bad,F,H,Q=>by simp only [fQ,jO,WC]
 | n+1,.rangeF _ _ _ _ _ _ _,F,H,Q=>by simp only [fQ,jO,WC]
 | n+1,.yret _ _ _ _ _ _ _,F,H,Q=>by simp only [fQ,jO,WC]
 | n+1,.cut _,F,H,Q=>by simp only [fQ,jO,WC]
 | n+1,.join _ _,F,H,Q=>by simp only [fQ,jO,WC]
theorem Kh {E:Env} {P:EP} {id:Nat} {callK:CK} {lp:LP} {b:TC} (hP:aX P E) (hG:Good P callK) (hf:ybs b=true) (hl:LpOk P E lp [] b) {n:Nat} {F:aG} {H:Hp} {Q:Ex→aG→Hp→Prop} (h:UE E callK lp b n F H Q):cV P (.loop id b) F H Q:=
 cV.intro hP hG hf (dT.no _ _) hl (fun n F H=>UE E callK lp b n F H Q) (fun _ _ h=>h) (fun _ _ _ h=>h) n F H h
theorem Vj {E:Env} {P:EP} {id:Nat} {callK:CK} {lp:LP} {b:TC} (hP:aX P E) (hG:Good P callK) (hf:ybs b=true) (hh:gD (bM b)=[]) (hl:LpOk P E lp [] b) {n:Nat} {F:aG} {H:Hp} {Q:Ex→aG→Hp→Prop} (h:Ho E callK lp b n F H Q):cV P (.lG id b) F H Q:=
 cV.introG hP hG hf (dT.no _ _) hl (fun n F H=>Ho E callK lp b n F H Q) (fun _ _ h=>h) (fun n F H h=>by
  have e:∀ F',fdels F' (gD (bM b))=F':=fun F'=>by rw [hh];rfl
  simp only [e];exact h) n F H h
theorem cV.introQ {E:Env} {P:EP} {id:Nat} {callK:CK} {lp:LP} {b:TC} (hP:aX P E) (hG:Good P callK) (hf:ybs b=true) (hl:LpOk P E lp [] b) {Q:Ex→aG→Hp→Prop} (R:Nat→aG→Hp→Prop) (h0:∀ F H,¬R 0 F H)
  (hs:∀ n F H,R (n+1) F H→WC E callK lp [] cJ b F H (QG b H.length (R n) Q)):∀ n F H,R n F H→cV P (.lG id b) F H Q:=
 cV.introG hP hG hf (dT.no _ _) hl R h0 hs
theorem cV.introP {id:Nat} {P:EP} {b:TC} {Q:Ex→aG→Hp→Prop} (R:Nat→aG→Hp→Prop) (h0:∀ F H,¬R 0 F H)
  (hs:∀ n F H,R (n+1) F H→cF P (bM b) F H (QG b H.length (R n) Q)):∀ n F H,R n F H→cV P (.lG id b) F H Q:=
 cV.introC R h0 hs
section
variable (e:Es) (he:EG e)
abbrev re0:SE:=Ke e oR mV gT gX
abbrev Cr:SE:=sH e oR mV gT gX
abbrev AE:LP:=UD e oR mV gT gX
theorem yJj (he:EG e):SEOk (cB (E e)) (re0 e):=cT (aX.uni _) ⟨JO e he,TL e he,TN e he,Ng e he,trivial⟩
 ⟨⟨by kernel_rfl,by kernel_rfl,by kernel_rfl,fun as=>lO (by kernel_rfl) _,he.num _ (by kernel_rfl),by kernel_rfl,bW (by kernel_rfl)⟩,
  ⟨by kernel_rfl,by kernel_rfl,by kernel_rfl,fun as=>lO (by kernel_rfl) _,he.num _ (by kernel_rfl),by kernel_rfl,bW (by kernel_rfl)⟩,trivial⟩ he.ok
theorem yJk (he:EG e):LpOk (cB (E e)) (E e) (S2 e oR mV gT gX) [] (pZ Gt).body:=
 fM (l:=[(31735400,.loop 31735400 (cX Mp))]) ⟨fun F H Q h=>Kh (aX.uni _) (eJ (yJj e he) 2) (by kernel_rfl) (bW (by kernel_rfl)) h,trivial⟩ (by kernel_rfl)
theorem Ki (he:EG e):SEOk (cB (E e)) (Cr e):=cT (aX.uni _) ⟨JO e he,TL e he,TN e he,Ng e he,trivial⟩
 ⟨⟨by kernel_rfl,by kernel_rfl,by kernel_rfl,fun as=>lO (by kernel_rfl) _,he.num _ (by kernel_rfl),by kernel_rfl,yJk e he⟩,
  ⟨by kernel_rfl,by kernel_rfl,by kernel_rfl,fun as=>lO (by kernel_rfl) _,he.num _ (by kernel_rfl),by kernel_rfl,bW (by kernel_rfl)⟩,
  ⟨by kernel_rfl,by kernel_rfl,by kernel_rfl,fun as=>lO (by kernel_rfl) _,he.num _ (by kernel_rfl),by kernel_rfl,bW (by kernel_rfl)⟩,trivial⟩ he.ok
theorem yJl (he:EG e):LpOk (cB (E e)) (E e) (AE e) [] (cX iN):=
 fM (l:=[(5508402,.lG 5508402 (cX Mr)),(5508403,.lG 5508403 (AB Ms))])
  ⟨fun F H Q h=>Vj (aX.uni _) (eJ (Ki e he) 4) (by kernel_rfl) (by kernel_rfl) (bW (by kernel_rfl)) h,
   fun F H Q h=>Vj (aX.uni _) (eJ (Ki e he) 4) (by kernel_rfl) (by kernel_rfl) (bW (by kernel_rfl)) h,trivial⟩ (by kernel_rfl)
end
theorem yLQ:cX iN=.block 5 bR:=by kernel_rfl
section
variable (e:Es) (aW:(Int→(Int→Int→Prop)→Prop)) (aE:xA) (aN:qV) (aL:(Int→Int→Int→Int→(Bool→Prop)→Prop))
variable (L0:Int) (c0 d0 Lr:List PV) (Rn:aG→Hp→Prop) (Q:Ex→aG→Hp→Prop) (q0 q1 t0 t1:Int)
theorem yJm {S:List Se} (hn:S≠[]) (h4:S.length≤4):wR e aW aE aN aL (jO 7 bR) (kH (L1 L0 c0 d0 Lr) S.length) (eF S) Q=Hq aW aE aN aL L0 Lr S (QA (L1 L0 c0 d0 Lr) S Q):=
 match S,hn,h4 with
 | [],hn,_=>absurd rfl hn
 | [s0],_,_=>UV ..
 | [s0,s1],_,_=>UW ..
 | [s0,s1,s2],_,_=>UX ..
 | [s0,s1,s2,s3],_,_=>Vf ..
 | _::_::_::_::_::_,_,h=>by simp only [kK] at h;omega
theorem yJn {S:List Se} {ls:List L4} (hl:ls.length=S.length) (hn:S≠[]) (h4:S.length≤4):wR e aW aE aN aL (jO 3 (fQ 7 bR)) (Eo (L1 L0 c0 d0 Lr) S.length t0 t1) (sG S ls q0 q1) Q =
  aM (qB q0 q1 t0 t1) (Q .ret (sI q0 q1) (sG S ls q0 q1)) (mC aN q0 q1 S ls Ep false fun m=>Q .norm (qZ (L1 L0 c0 d0 Lr) S.length) (qY S ls q0 q1 (oW 2 S.length false m))):=
 match S,ls,hl,hn,h4 with
 | [],_,_,hn,_=>absurd rfl hn
 | [s0],[l0],_,_,_=>UY ..
 | [s0,s1],[l0,l1],_,_,_=>UZ ..
 | [s0,s1,s2],[l0,l1,l2],_,_,_=>Va ..
 | [s0,s1,s2,s3],[l0,l1,l2,l3],_,_,_=>Vg ..
 | _::_::_::_::_::_,_,_,_,h=>by simp only [kK] at h;omega
theorem Vk (s0 s1 s2 s3:Se) (l0 l1 l2 l3:L4):∀ (b0 b1 b2 b3 b4 b5 b6:Bool),wR e aW aE aN aL (fQ 10 bR) (qZ (L1 L0 c0 d0 Lr) 4) (qY [s0,s1,s2,s3] [l0,l1,l2,l3] q0 q1 (oW 2 4 false [b0,b1,b2,b3,b4,b5,b6])) (QB (cX iN) 5 (eF [s0,s1,s2,s3]).length Rn Q)=Rn (kH (L1 L0 c0 d0 Lr) 4) (eF (iV [s0,s1,s2,s3] false [b0,b1,b2,b3,b4,b5,b6]))
 | false,false,_,_,_,_,_=>yJf ..
 | false,true,_,_,_,_,_=>yJg ..
 | true,false,_,_,_,_,_=>yJh ..
 | true,true,_,_,_,_,_=>yJi ..
theorem yJo {S:List Se} {ls:List L4} {m:List Bool} (hl:ls.length=S.length) (hm:m.length+1=2*S.length) (h4:S.length≤4):wR e aW aE aN aL (fQ 10 bR) (qZ (L1 L0 c0 d0 Lr) S.length) (qY S ls q0 q1 (oW 2 S.length false m)) (QB (cX iN) 5 (eF S).length Rn Q)=Rn (kH (L1 L0 c0 d0 Lr) S.length) (eF (iV S false m)):=
 match S,ls,m,hl,hm,h4 with
 | [],_,_,_,h,_=>by simp only [EV] at h;omega
 | [s0],[l0],[b0],_,_,_=>Vb ..
 | [s0,s1],[l0,l1],[b0,b1,b2],_,_,_=>Vd ..
 | [s0,s1,s2],[l0,l1,l2],[b0,b1,b2,b3,b4],_,_,_=>Ve ..
 | [s0,s1,s2,s3],[l0,l1,l2,l3],[b0,b1,b2,b3,b4,b5,b6],_,_,_=>Vk ..
 | _::_::_::_::_::_,_,_,_,_,h=>by simp only [kK] at h;omega
end
theorem yLR:fQ 3 (fQ 7 bR)=fQ 10 bR:=by kernel_rfl
theorem yEV:Ep=l4 dE:=by kernel_rfl
theorem Vl:∀ (S:List Sq) (x:Ln),(mF S x).length=S.length
 | [],_=>rfl
 | s::S,x=>by show (mF S _).length+1=S.length+1;rw [Vl S]
theorem T7 (q:Rat):∀ (S:List Sq) (x:Ln) (b:Bool),(vJ q S x b).length+(if b=true∨S=[] then 0 else 1)=2*S.length
 | [],_,b=>by simp [vJ]
 | s::S,x,b=>by
  have ih:=T7 q S (bK s x) true;simp only [true_or,if_true] at ih
  cases b<;>simp [vJ]<;>omega
theorem xG (q:Rat) (S:List Sq) (x:Ln) (b:Bool):(kF q S x b).length=S.length:=by have:=Aaa length (En q S x b);simpa using this
def runN (L:Int):Nat→List Sq→Option Rat
 | 0,_=>none
 | n+1,S=>if dK L S=iG L S then some (dK L S) else runN L n (kF (dK L S) S dE false)
theorem Vm {L:Int}:∀ {n:Nat} {S:List Sq} {q0:Rat},RI L S q0→kG S<n+iS S→∃ q,runN L n S=some q∧FinS L (S.map (·.1)) q
 | 0,S,q0,h,hn=>by have:=h.1.pos;omega
 | n+1,S,q0,h,hn=>by
  obtain ⟨r1,r2⟩:=round h
  by_cases c:dK L S=iG L S
  ·exact ⟨_,WN c,r1 c⟩
  ·obtain ⟨k1,k2⟩:=r2 c;obtain ⟨q,e1,e2⟩:=Vm (n:=n) k1 (by rw [R0];omega);refine ⟨q,(WO c).trans e1,?_⟩;rw [En] at e2;exact e2
theorem yJp {E:Env} {cK:CK} {lp:LP} {id:Nat} {b c:TC} {k:Nat} {Rn:aG→Hp→Prop} {F:aG} {H:Hp} {Q:Ex→aG→Hp→Prop}:WC E cK lp [] cJ (.block id c) F H (QG b k Rn Q)=WC E cK lp [] cJ c F H (QB b id k Rn Q):=by simp only [WC];rfl
section
variable {e:Es} {L:Int} {S:List Sq} {c0 d0 Lr:List PV}
theorem yEW (h:∀ s∈S,kI L s) (hn:S≠[]) (h4:S.length≤4) (hL:0≤L∧L≤1000) {Rn:aG→Hp→Prop} {Q:Ex→aG→Hp→Prop}
  (h1:dK L S=iG L S→∀ H,Q .ret (sI (dK L S).num (dK L S).den) H)
  (h2:dK L S≠iG L S→Rn (kH (L1 L c0 d0 Lr) S.length) (eF ((kF (dK L S) S dE false).map eG))) :
  WC (E e) (gJ (Cr e) 4) (AE e) [] cJ (cX iN) (kH (L1 L c0 d0 Lr) S.length) (eF (S.map eG)) (QG (cX iN) (eF (S.map eG)).length Rn Q):=by
 have hn':S.map eG≠[]:=fun k=>hn (List.map_eq_nil_iff.1 k)
 have hl:(S.map eG).length=S.length:=lJ ..;have e0:=Aaa (fun c=>WC (E e) (gJ (Cr e) 4) (AE e) [] cJ c (kH (L1 L c0 d0 Lr) S.length) (eF (S.map eG)) (QG (cX iN) (eF (S.map eG)).length Rn Q)) yLQ;refine (e0.trans yJp).mpr ?_;refine (Vi 7 bR _ _ _).mpr ?_;have eA:=yJm e oR mV gT gX L c0 d0 Lr (fun x F' H'=>match x with
   | .norm=>WC (E e) (gJ (Cr e) 4) (AE e) [] cJ (fQ 7 bR) F' H' (QB (cX iN) 5 (eF (S.map eG)).length Rn Q)
   | .exit i=>QB (cX iN) 5 (eF (S.map eG)).length Rn Q (.exit i) F' H'
   | .ret=>QB (cX iN) 5 (eF (S.map eG)).length Rn Q .ret F' H'
   | .brk k i=>QB (cX iN) 5 (eF (S.map eG)).length Rn Q (.brk k i) F' H') hn' (by rw [hl];exact h4)
 rw [hl] at eA;refine eA.mpr ?_;obtain ⟨eR,s1,s2⟩:=T6 h hn h4 hL (Lr:=Lr) (QA (L1 L c0 d0 Lr) (S.map eG) (fun x F' H'=>match x with
   | .norm=>WC (E e) (gJ (Cr e) 4) (AE e) [] cJ (fQ 7 bR) F' H' (QB (cX iN) 5 (eF (S.map eG)).length Rn Q)
   | .exit i=>QB (cX iN) 5 (eF (S.map eG)).length Rn Q (.exit i) F' H'
   | .ret=>QB (cX iN) 5 (eF (S.map eG)).length Rn Q .ret F' H'
   | .brk k i=>QB (cX iN) 5 (eF (S.map eG)).length Rn Q (.brk k i) F' H'))
 refine eR.mpr ?_;show WC (E e) (gJ (Cr e) 4) (AE e) [] cJ (fQ 7 bR) (Eo (L1 L c0 d0 Lr) (S.map eG).length (iG L S).num (iG L S).den) (sG (S.map eG) ((mF S dE).map l4) (dK L S).num (dK L S).den) (QB (cX iN) 5 (eF (S.map eG)).length Rn Q);refine (Vi 3 (fQ 7 bR) _ _ _).mpr ?_;have hll:((mF S dE).map l4).length=(S.map eG).length:=by rw [lJ,Vl,hl]
 refine (yJn e oR mV gT gX L c0 d0 Lr _ _ _ _ _ hll hn' (by rw [hl];exact h4)).mpr ?_;rw [Hr]
 by_cases c:dK L S=iG L S
 ·rw [Eb c,bU];exact h1 c _
 ·rw [Os c,bN,yEV,T3 _ h Nz (by omega) kL (fun k=>by cases k)];rw [yLR];have hm:(vJ (dK L S) S dE false).length+1=2*(S.map eG).length:=by
   have:=T7 (dK L S) S dE false;rw [hl,← this,WO (by simp [hn])]
  refine (yJo e oR mV gT gX L c0 d0 Lr _ _ _ _ hll hm (by rw [hl];exact h4)).mpr ?_;rw [T5 h,hl];exact h2 c
def NG (L:Int) (c0 d0 Lr:List PV) (cs:List Ck) (q:Rat) (n:Nat) (F:aG) (H:Hp):Prop:=
 ∃ S q0,S.map (·.1)=cs∧F=kH (L1 L c0 d0 Lr) S.length∧H=eF (S.map eG)∧RI L S q0∧runN L n S=some q
theorem yEX {cs:List Ck} (hcs:∀ c∈cs,c.len=L) (h4:cs.length≤4) (hL:0≤L∧L≤1000) {q:Rat} {Q:Ex→aG→Hp→Prop} (hQ:∀ H,Q .ret (sI q.num q.den) H) (n:Nat) (F:aG) (H:Hp) (h:NG L c0 d0 Lr cs q (n+1) F H) :
  WC (E e) (gJ (Cr e) 4) (AE e) [] cJ (cX iN) F H (QG (cX iN) H.length (NG L c0 d0 Lr cs q n) Q):=by
 obtain ⟨S,q0,e1,e2,e3,hi,hr⟩:=h;rw [e2,e3];have hl:S.length=cs.length:=by rw [← e1,lJ]
 have hS:∀ s∈S,kI L s:=fun s hs=>by
  obtain ⟨a,b,c⟩:=hi.1.all s hs;exact ⟨a,hcs _ (by rw [← e1];exact List.mem_map_of_mem hs),b,c⟩
 obtain ⟨_,r2⟩:=round hi;refine yEW hS hi.2.2 (by omega) hL (fun c H=>?_) (fun c=>?_)
 ·have:dK L S=q:=by rw [runN,WN c] at hr;exact AX hr
  rw [this];exact hQ H
 ·rw [runN,WO c] at hr;exact ⟨kF (dK L S) S dE false,_,by rw [En];exact e1,by rw [xG],rfl,(r2 c).1,hr⟩
theorem yJq (he:EG e) {cs:List Ck} (hcs:∀ c∈cs,c.len=L) (h4:cs.length≤4) (hL:0≤L∧L≤1000) {q:Rat} {Q:Ex→aG→Hp→Prop} (hQ:∀ H,Q .ret (sI q.num q.den) H) {n:Nat} {F:aG} {H:Hp} (h:NG L c0 d0 Lr cs q n F H):cV (cB (E e)) (.lG 5508404 (cX iN)) F H Q:=
 cV.introQ (aX.uni _) (eJ (Ki e he) 4) (by kernel_rfl) (yJl e he) (NG L c0 d0 Lr cs q) (fun F H h=>by obtain ⟨S,q0,_,_,_,_,h⟩:=h;cases h) (yEX hcs h4 hL hQ) n F H h
end
def sD (c:Ck) (i:Nat):Se:=⟨c.len,aD c.cuts,aD c.dens,aD ((List.range (i+1)).map (upC c)),upC c i,0,0⟩
theorem T8 {L:Int} {c:Ck} (h:eI L c) {i:Nat} (hi:i≤c.dens.length):0≤upC c i∧upC c i≤12000:=by obtain ⟨a,b⟩:=xF h hi;exact ⟨vR.1 a,jF.1 (by show _≤(12000:Rat);exact b)⟩
theorem yJr {L:Int} {c:Ck} (h:eI L c):upC c c.dens.length=totC c.cuts c.dens:=by
 have a:=Uy h c.dens.length (cQ _);have b:=Q2 h;rw [Ux h] at a;have:dJ c c.dens.length=cS c:=by grind
 exact Rat.intCast_inj.1 this
theorem yJs {L:Int} {c:Ck} (h:eI L c):sD c c.dens.length=eG (c,0,0):=by unfold sD eG qD;rw [yJr h];rfl
theorem yGh {L:Int} {c:Ck} (h:eI L c) {i:Nat} (hi:i<c.dens.length) (K:Se→Prop):qC (aD c.dens) (sD c i) (i:Int) K=K (sD c (i+1)):=by
 have l1:=h.1.l1;have l2:=h.1.l2;have e1:=eQ (n:=(i:Int)+1) (by omega) (by omega);have u0:=T8 h (i:=i) (by omega);have u1:=T8 h (i:=i+1) (by omega);have es:upC c (i+1)=upC c i+c.dens.getD i 0*(c.cuts.getD (i+1) 0-c.cuts.getD i 0):=rfl;have ll:=h.1.len0;have lo:=h.1.lo (i:=i) (by omega);have hi0:=h.1.hi (i:=i) (by omega);have lo1:=h.1.lo (i:=i+1) (by omega);have hi1:=h.1.hi (i:=i+1) (by omega);have eT:sJ (aD c.dens) (aD c.cuts) (upC c i) (i:Int)=upC c (i+1):=by unfold sJ;rw [e1,kD,dR,dR,fG hi,fG (by omega),fG (by omega),eQ (n:=c.cuts.getD (i+1) 0-c.cuts.getD i 0) (by omega) (by omega),eQ (n:=c.dens.getD i 0*_) (by omega) (by omega),eQ (by omega) (by omega),es]
 have eu:(sD c i).up.length=i+1:=by show (aD _).length=_;rw [dZ,lJ,List.length_range]
 unfold qC;rw [dZ,bB (by omega),bB (by omega),dR,fP hi,e1,kD,dR];show aI (decide (0≤((i+1:Nat):Int))) (aI (decide (((i+1:Nat):Int)<(((aD c.cuts).length:Nat):Int))) (aI (aZ zI ((aD c.cuts).getD (i+1) .nils)) (aI (decide (0≤(i:Int))) (aI (decide ((i:Int)<(((aD c.cuts).length:Nat):Int))) (aI (aZ zI ((aD c.cuts).getD i .nils)) _)))))=_;rw [dZ,bB (by omega),bB (by omega),fP (by omega),bB (by omega),bB (by omega),fP (by omega),eu,bB rfl,bB (by omega),Aw (by simp),bB rfl,bB (by unfold room;omega)];show K ⟨c.len,aD c.cuts,aD c.dens,aD ((List.range (i+1)).map (upC c))++[.int .i64 (sJ (aD c.dens) (aD c.cuts) (upC c i) (i:Int))],sJ (aD c.dens) (aD c.cuts) (upC c i) (i:Int),0,0⟩=_;rw [eT];congr 1;unfold sD;congr 1;rw [List.range_succ (n:=i+1),List.map_append];unfold aD;rw [List.map_append];rfl
section
variable (e:Es) (aW:(Int→(Int→Int→Prop)→Prop)) (aE:xA) (aN:qV) (aL:(Int→Int→Int→Int→(Bool→Prop)→Prop))
variable (L ord:List PV) (Rn:aG→Hp→Prop) (Q:Ex→aG→Hp→Prop) (PP PQ:aG→Hp→Prop→Prop)
theorem yJt {S:List Se} (h:S.length≤3) (dens:List PV) (m i:Int) (s:Se):wD e aW aE aN aL (lR L ord S.length dens m i) (fH S s) (QG (cX rX) (fH S s).length Rn Q) =
  aM (decide (i<m)) (qC dens s i fun s'=>Rn (lR L ord S.length dens m (i64.wrap (i+1))) (fH S s')) (Q (.exit 2) (iW L ord S.length dens m i) (fH S s)):=
 match S,h with
 | [],_=>UF ..
 | [s0],_=>UG ..
 | [s0,s1],_=>UH ..
 | [s0,s1,s2],_=>UI ..
 | _::_::_::_::_,h=>by simp only [kK] at h;omega
theorem yJu {S:List Se} (h:S.length≤4) (dens:List PV) (m i:Int) (s:Se):wO e aW aE aN aL PP (iW L ord S.length dens m i) (fH S s) (lS L ord S.length) (eU S) (QG (cX qT) (eU S).length Rn Q) =
  Er L ord S.length (PP (lR L ord S.length (fW (lF L ord S.length)).dens (fW (lF L ord S.length)).dens.length 0) (fH S (fW (lF L ord S.length))) (Rn (lS L ord (S.length+1)) (eU (S++[s])))) (Q (.exit 0) (iX L ord S.length) (eU S)):=
 match S,h with
 | [],_=>UJ ..
 | [s0],_=>UK ..
 | [s0,s1],_=>UM ..
 | [s0,s1,s2],_=>UO ..
 | [s0,s1,s2,s3],_=>UQ ..
 | _::_::_::_::_::_,h=>by simp only [kK] at h;omega
theorem yJv {S:List Se} (hn:S≠[]) (h:S.length≤4) (q0 q1:Int) (K:PV→Prop):wT e aW aE aN aL L ord PP PQ (iX L ord S.length) (eU S) q0 q1 K=PP (lS L ord 0) (eU []) (PQ (kH L S.length) (eF S) (∀ _:Hp,K (bH q0 q1))):=
 match S,hn,h with
 | [],hn,_=>absurd rfl hn
 | [s0],_,_=>UL ..
 | [s0,s1],_,_=>UN ..
 | [s0,s1,s2],_,_=>UP ..
 | [s0,s1,s2,s3],_,_=>UR ..
 | _::_::_::_::_::_,_,h=>by simp only [kK] at h;omega
end
section
variable {e:Es} {L:Int} {Lc ord:List PV}
theorem yJw (_:EG e):LpOk (cB (E e)) (E e) (AE e) [] (cX rX):=bW (by kernel_rfl)
def Vn (Lc ord:List PV) (S:List Se) (c:Ck) (k:Nat) (F:aG) (H:Hp):Prop:=∃ i,i≤c.dens.length∧c.dens.length<i+k∧F=lR Lc ord S.length (aD c.dens) c.dens.length (i:Int)∧H=fH S (sD c i)
theorem yJx {S:List Se} (hS:S.length≤3) {c:Ck} (h:eI L c) {Q:Ex→aG→Hp→Prop} (hQ:Q (.exit 2) (iW Lc ord S.length (aD c.dens) c.dens.length c.dens.length) (fH S (sD c c.dens.length))) (n:Nat) (F:aG) (H:Hp) (hs:Vn Lc ord S c (n+1) F H) :
  WC (E e) (gJ (Cr e) 4) (AE e) [] cJ (cX rX) F H (QG (cX rX) H.length (Vn Lc ord S c n) Q):=by
 obtain ⟨i,h1,h2,e1,e2⟩:=hs;have l2:=h.1.l2;have l1:=h.1.l1;rw [e1,e2];refine (yJt e oR mV gT gX Lc ord _ Q hS _ _ _ _).mpr ?_
 by_cases c':i<c.dens.length
 ·rw [eC (by omega),yGh h c'];exact ⟨i+1,c',by omega,by rw [eQ (by omega) (by omega)];rfl,rfl⟩
 ·have:i=c.dens.length:=by omega
  subst this;rw [eE (by omega)];exact hQ
theorem yEZ (he:EG e) {S:List Se} (hS:S.length≤3) {c:Ck} (h:eI L c) {Q:Ex→aG→Hp→Prop} (hQ:Q (.exit 2) (iW Lc ord S.length (aD c.dens) c.dens.length c.dens.length) (fH S (sD c c.dens.length))) :
  cV (cB (E e)) (.lG 5508400 (cX rX)) (lR Lc ord S.length (aD c.dens) c.dens.length 0) (fH S (sD c 0)) Q:=
 cV.introQ (aX.uni _) (eJ (Ki e he) 4) (by kernel_rfl) (yJw he) (Vn Lc ord S c) (fun F H h=>by obtain ⟨i,h1,h2,_⟩:=h;omega) (yJx hS h hQ) (c.dens.length+1) _ _ ⟨0,jA _,by omega,rfl,rfl⟩
def AF (L:Int) (Lc ord:List PV) (cs:List Ck):Prop:=ord.length=cs.length∧∀ j,j<cs.length→aZ zI (ord.getD j .nils)=true∧0≤AD ord j∧AD ord j<Lc.length∧lF Lc ord j=kE (cs.getD j default)∧eI L (cs.getD j default)
def nJ (cs:List Ck):List Se:=cs.map fun c=>sD c c.dens.length
def NH (Lc ord:List PV) (cs:List Ck) (k:Nat) (F:aG) (H:Hp):Prop:=∃ j,j≤cs.length∧cs.length<j+k∧F=lS Lc ord j∧H=eU (nJ (cs.take j))
theorem yGi (cs:List Ck) (j:Nat) (h:j≤cs.length):(nJ (cs.take j)).length=j:=by unfold nJ;rw [lJ,gR];omega
theorem yGj (he:EG e) {cs:List Ck} (ho:AF L Lc ord cs) (h4:cs.length≤4) {Q:Ex→aG→Hp→Prop} (hQ:Q (.exit 0) (iX Lc ord cs.length) (eU (nJ cs))) (n:Nat) (F:aG) (H:Hp) (hs:NH Lc ord cs (n+1) F H) :
  cF (cB (E e)) (bM (cX qT)) F H (QG (cX qT) H.length (NH Lc ord cs n) Q):=by
 obtain ⟨j,h1,h2,e1,e2⟩:=hs;rw [e1,e2];obtain ⟨o1,o2⟩:=ho;have hl:=yGi cs j h1;let c:=cs.getD j default;have hst:=yJu e oR mV gT gX Lc ord (NH Lc ord cs n) Q (fun F H X=>(j<cs.length∧F=lR Lc ord (nJ (cs.take j)).length (aD c.dens) c.dens.length 0∧H=fH (nJ (cs.take j)) (sD c 0))∧X) (S:=nJ (cs.take j)) (by omega) (aD c.dens) c.dens.length c.dens.length (sD c c.dens.length);rw [hl] at hst;have hlp:LpOk (cB (E e)) (E e) (S4 (fun F H X=>(j<cs.length∧F=lR Lc ord j (aD c.dens) c.dens.length 0∧H=fH (nJ (cs.take j)) (sD c 0))∧X) (iW Lc ord j (aD c.dens) c.dens.length c.dens.length) (fH (nJ (cs.take j)) (sD c c.dens.length))) [] (cX qT):=
  fM (l:=[(5508400,.lG 5508400 (cX rX))]) ⟨fun F H Q h=>by
   obtain ⟨⟨hj,rfl,rfl⟩,hQ⟩:=h;obtain ⟨_,_,_,_,hc⟩:=o2 j hj;have:=yEZ (Lc:=Lc) (ord:=ord) he (S:=nJ (cs.take j)) (by omega) hc (Q:=Q) (by rw [hl];exact hQ);rw [hl] at this;exact this,trivial⟩ (by kernel_rfl)
 refine nR (cX qT) (cB (E e)) (aX.uni _) (eJ (Ki e he) 4) cG.flat [] cJ (dT.no _ _) hlp _ _ _ ?_;refine hst.mpr ?_;unfold Er
 by_cases hj:j<cs.length
 ·obtain ⟨p1,p2,p3,p4,p5⟩:=o2 j hj;rw [eC (by omega),bB (by omega),dR,Aw p1,bB p2,bB p3,p4];show aI (aZ zK (kE c)) _;rw [gZ];refine ⟨⟨hj,?_,rfl⟩,j+1,hj,by omega,rfl,?_⟩
  ·show lR Lc ord j (aD c.dens) ((aD c.dens).length:Nat) 0=_;rw [dZ]
  ·congr 1;unfold nJ;rw [List.take_add_one,List.map_append];congr 1;show _=map _ (cs[j]?).toList;rw [dF hj];have:c=cs[j]:=by show cs.getD j default=_;rw [dQ,dF hj];rfl
   rw [← this];rfl
 ·have:j=cs.length:=by omega
  subst this;rw [eE (by omega)];rw [ET];exact hQ
theorem yLS (he:EG e) {cs:List Ck} (ho:AF L Lc ord cs) (h4:cs.length≤4) {Q:Ex→aG→Hp→Prop} (hQ:Q (.exit 0) (iX Lc ord cs.length) (eU (nJ cs))) :
  cV (cB (E e)) (.lG 5508401 (cX qT)) (lS Lc ord 0) (eU []) Q:=
 cV.introP (NH Lc ord cs) (fun F H h=>by obtain ⟨i,h1,h2,_⟩:=h;omega) (yGj he ho h4 hQ) (cs.length+1) _ _ ⟨0,jA _,by omega,rfl,rfl⟩
end
theorem yJy (PP PQ:aG→Hp→Prop→Prop) (F1:aG) (H1:Hp) (q0 q1:Int) (G F:aG) (H:Hp) (Q:Ex→aG→Hp→Prop) (h:ND PP PQ F1 H1 q0 q1 31735400 G F H Q):False:=h
theorem yJz {e:Es} (he:EG e) (PP PQ:aG→Hp→Prop→Prop) (F1:aG) (H1:Hp) (q0 q1:Int):SEOk (cB (E e)) ⟨E e,NC oR mV gT gX,yeG [(FX,pZ Gt),(Gb,pZ Gu),(Gc,pZ Gv)],ND PP PQ F1 H1 q0 q1,fun _=>none⟩:=
 cT (aX.uni _) ⟨JO e he,TL e he,TN e he,Ng e he,trivial⟩
 ⟨⟨by kernel_rfl,by kernel_rfl,by kernel_rfl,fun as=>lO (by kernel_rfl) _,he.num _ (by kernel_rfl),by kernel_rfl,fM (l:=[(31735400,.loop 31735400 (cX Mp))]) ⟨fun F H Q h=>(yJy _ _ _ _ _ _ _ _ _ _ h).elim,trivial⟩ (by kernel_rfl)⟩,
  ⟨by kernel_rfl,by kernel_rfl,by kernel_rfl,fun as=>lO (by kernel_rfl) _,he.num _ (by kernel_rfl),by kernel_rfl,bW (by kernel_rfl)⟩,
  ⟨by kernel_rfl,by kernel_rfl,by kernel_rfl,fun as=>lO (by kernel_rfl) _,he.num _ (by kernel_rfl),by kernel_rfl,bW (by kernel_rfl)⟩,trivial⟩ he.ok
theorem Vo {L:Int}:∀ {cs:List Ck} {x:Ln},(∀ c∈cs,eI L c)→x.p 0=0→jM L (cs.map fun c=>(c,0,0)) x 0
 | [],_,_,_=>trivial
 | c::cs,x,h,hx=>by
  have hc:=h c (jU ..);have l1:=hc.1.l1;have l2:=hc.1.l2;have hp:0<c.dens.length:=by have:=hc.1.2.1;have:=hc.1.2.2;omega
  have e:=Nw (x:=x) (c:=c) (f:=0) (t:=0) (den_pos hc hp) 0;have u:dJ c 0=0:=rfl;rw [hx,Ek hc,u] at e;have hd:=den_pos hc hp;have z:(dD c 0 0 x).p 0=0:=by
   have:aU c 0*(dD c 0 0 x).p 0=0:=by grind
   rcases Rat.mul_eq_zero.1 this with k|k
   ·grind
   ·exact k
  have s:=Kb hc hp;rw [Ek hc] at s;exact ⟨hc,hp,hp,by rw [hx,Ek hc];exact kL,by rw [hx];exact s,by show aK c 0≤(dD c 0 0 x).p 0;rw [z,Ek hc];exact kL,by show (dD c 0 0 x).p 0<aK c (0+1);rw [z];exact s,Vo (fun d hd=>h d (iY _ hd)) z⟩
theorem yE1 {L:Int} {c0 d0 Lr ord:List PV} {cs:List Ck} (hn:cs≠[]) (h4:cs.length≤4) (hL:∀ c∈cs,c.len=L) (ho:AF L (L1 L c0 d0 Lr) ord cs) :
  ∃ q,FinS L cs q∧small q∧∀ e,EG e→tF (E e) By [.data (L1 L c0 d0 Lr),.data ord] (bH q.num q.den):=by
 have hok:∀ c∈cs,eI L c:=fun c hc=>by
  obtain ⟨j,hj,rfl⟩:=Cx hc;obtain ⟨_,_,_,_,h⟩:=ho.2 j hj;rw [dQ,dF hj] at h;exact h
 have hLb:0≤L∧L≤1000:=by obtain ⟨c,hc⟩:=List.exists_mem_of_ne_nil cs hn;have:=(hok c hc).1.len0;have h1:=(Cp (hok c hc).1).2;have:L≤1000:=jF.1 h1;omega
 let S0:List Sq:=cs.map fun c=>(c,0,0)
 have hS0:S0.map (·.1)=cs:=by show map _ (map _ _)=_;rw [List.map_map];exact List.map_id' cs
 have hl0:S0.length=cs.length:=lJ ..;have hR:RI L S0 0:=⟨Vo hok (AA 0),kL,fun k=>hn (List.map_eq_nil_iff.1 k)⟩;obtain ⟨q,hq,hF⟩:=Vm (n:=kG S0+1) hR (by omega);rw [hS0] at hF;have hsm:small q:=by
  have key:∀ {n:Nat} {S:List Sq} {q0:Rat},S.map (·.1)=cs→RI L S q0→runN L n S=some q→small q:=by
   intro n;induction n with
   | zero=>intro S q0 _ _ h;cases h
   | succ n ih=>
     intro S q0 e1 hi h;have hl:S.length=cs.length:=by rw [← e1,lJ]
     have hS:∀ s∈S,kI L s:=fun s hs=>by
      obtain ⟨a,b,c⟩:=hi.1.all s hs;exact ⟨a,hL _ (by rw [← e1];exact List.mem_map_of_mem hs),b,c⟩
     have r:=(T6 hS hi.2.2 (by omega) hLb (Lr:=[]) (fun _ _ _ _ _=>True)).2.2;obtain ⟨_,r2⟩:=round hi
     by_cases c:dK L S=iG L S
     ·rw [runN,WN c] at h;have:dK L S=q:=AX h;rw [← this];exact r
     ·rw [runN,WO c] at h;exact ih (by rw [En];exact e1) (r2 c).1 h
  exact key hS0 hR hq
 refine ⟨q,hF,hsm,fun e he=>?_⟩;have hE:eF (S0.map eG)=eF (nJ cs):=by
  congr 1;show map _ (map _ _)=map _ _;rw [List.map_map];exact List.map_congr_left fun c hc=>(yJs (hok c hc)).symm
 have hls:(nJ cs).length=cs.length:=lJ ..;have hT:=yJv e oR mV gT gX (L1 L c0 d0 Lr) ord (fun F H X=>(F=lS (L1 L c0 d0 Lr) ord 0∧H=eU [])∧X) (fun F H X=>(F=kH (L1 L c0 d0 Lr) cs.length∧H=eF (nJ cs))∧X) (S:=nJ cs) (fun k=>hn (List.map_eq_nil_iff.1 k)) (by omega) q.num q.den (fun r=>r=bH q.num q.den);rw [hls] at hT;have hlp:LpOk (cB (E e)) (E e) (ND (fun F H X=>(F=lS (L1 L c0 d0 Lr) ord 0∧H=eU [])∧X) (fun F H X=>(F=kH (L1 L c0 d0 Lr) cs.length∧H=eF (nJ cs))∧X) (iX (L1 L c0 d0 Lr) ord cs.length) (eU (nJ cs)) q.num q.den) [] (pZ Jn).body:=
  fM (l:=[(5508400,.lG 5508400 (cX rX)),(5508401,.lG 5508401 (cX qT)),(5508402,.lG 5508402 (cX Mr)),(5508403,.lG 5508403 (AB Ms)),(5508404,.lG 5508404 (cX iN))])
   ⟨fun F H Q h=>False.elim h,
    fun F H Q h=>by
     obtain ⟨⟨rfl,rfl⟩,hQ⟩:=h;exact yLS he ho h4 hQ,
    fun F H Q h=>False.elim h,fun F H Q h=>False.elim h,
    fun F H Q h=>by
     obtain ⟨⟨rfl,rfl⟩,hQ⟩:=h;exact yJq he hL h4 hLb hQ (n:=kG S0+1) ⟨S0,0,hS0,by rw [hl0],hE.symm,hR,hq⟩,trivial⟩ (by kernel_rfl)
 obtain ⟨r,hr,ha⟩:=Ir (yJz he _ _ _ _ q.num q.den) (d:=4) (fn:=pZ Jn) (n:=By) cG.flat hlp (by kernel_rfl) (by kernel_rfl) (fun as=>lO (by kernel_rfl) _) (he.num _ (by kernel_rfl)) (hT.mpr ⟨⟨rfl,rfl⟩,⟨rfl,rfl⟩,fun _=>rfl⟩);rw [hr] at ha;exact ha
theorem eI.bd {L:Int} {c:Ck} (h:eI L c) {x y:Rat} (x0:0≤x) (x1:x≤(L:Rat)) (y0:0≤y) (y1:y≤(L:Rat)):lQ c x≤lQ c y↔x≤y:=P9 h.1 h.2 x0 x1 y0 y1
theorem yJA {L:Int} {c:Ck} (h:eI L c) {q r:Rat} (hqr:q<r):q*cS c<r*cS c:=by have:=Rat.mul_lt_mul_of_pos_right hqr (Cq h);exact this
theorem Ch.lt {L:Int} {q r:Rat} (hq:0≤q) (hqr:q<r):∀ {cs:List Ck} {p p':Rat} {xs ys:List Rat},(∀ c∈cs,eI L c)→0≤p→p≤p'→p'≤(L:Rat)→Ch L cs p q xs→Ch L cs p' r ys→∀ a b,xs.getLast?=some a→ys.getLast?=some b→a<b
 | [],_,_,_,_,_,_,_,_,hx,_,a,b,ha,_=>by have:_=[]:=hx;rw [this] at ha;cases ha
 | c::cs,p,p',xs,ys,hok,p0,pp,pL,⟨x,rx,ex,x1,x2,x3,hx⟩,⟨y,ry,ey,y1,y2,y3,hy⟩,a,b,ha,hb=>by
  subst ex ey;have hc:=hok c (jU ..);have m:=(hc.bd p0 (iE pp pL) (iE p0 pp) pL).2 pp;have t:=yJA hc hqr;have hxy:x<y:=by
   refine Rat.not_le.1 fun k=>?_
   have:=(hc.bd (iE (iE p0 pp) y1) y2 (iE p0 x1) x2).2 k;grind
  cases cs with
  | nil=>
   have e1:rx=[]:=hx;have e2:ry=[]:=hy;subst e1 e2
   cases ha;cases hb
   exact hxy
  | cons d cs =>obtain ⟨x',rx',e1,k1⟩:=hx;obtain ⟨y',ry',e2,k2⟩:=hy;subst e1 e2;rw [List.getLast?_cons_cons] at ha hb;exact Ch.lt hq hqr (fun e he=>hok e (iY _ he)) (iE p0 x1) (jV hxy) y2 ⟨x',rx',rfl,k1⟩ ⟨y',ry',rfl,k2⟩ a b ha hb
theorem FinS.uniq {L:Int} {cs:List Ck} {q r:Rat} (hok:∀ c∈cs,eI L c) (hL:(0:Rat)≤(L:Rat)) (hq:FinS L cs q) (hr:FinS L cs r):q=r:=by
 obtain ⟨q0,xs,hx,lx⟩:=hq;obtain ⟨r0,ys,hy,ly⟩:=hr;rcases rtri q r with k | k | k
 ·have:=Ch.lt (jV q0) k hok kL kL hL hx hy _ _ lx ly;grind
 ·exact k
 ·have:=Ch.lt (jV r0) k hok kL kL hL hy hx _ _ ly lx;grind
def hunE (c:Ck):Bool:=c.dens.all fun d=>decide (d≠0)
theorem T9 {i0:Int} {l1:List PV} {x0 x1} (l:List Int) (hl:l.length<1000000):∀ (r i n:Nat),i+r=l.length→r<n→GO x0 x1 n i0 l1 (aD l) (i:Int)=if (l.drop i).all (fun d=>decide (d≠0))=true then x0 i0 l1 (aD l) (l.length:Int) false else x1 false
 | 0,i,n+1,hi,hn=>by unfold GO;rw [dZ,eE (by omega),nA (by omega),show (i:Int)=l.length by omega];rfl
 | r+1,i,n+1,hi,hn=>by
  unfold GO;have e1:=eQ (n:=(i:Int)+1) (by omega) (by omega);simp only [lt];rw [dZ,eC (by omega),bB (by omega),bB (by omega),dR,fP (by omega),fG (by omega),e1,kD,tQ 0 (by omega)]
  by_cases c:l.getD i 0=0
  ·rw [He c,WO (by rw [List.all_cons,show decide (l.getD i 0≠0)=false from Os (fun k=>k c),qK];exact Bool.false_ne_true)]
  ·rw [Eg c,T9 l hl r (i+1) n (by omega) (by omega)];simp only [List.all_cons,Eb c,sS]
theorem yAC {c:Ck} (hl:c.dens.length<1000000) (K:Bool→Prop):Ak c.len (aD c.cuts) (aD c.dens) K=K (hunE c):=by
 refine uz _ _ _ _ (fun K k=>?_) K;unfold Ak Tt;refine ⟨c.dens.length+1,(T9 c.dens hl c.dens.length 0 _ (by omega) (by omega)).mpr ?_⟩;rw [qJ];unfold hunE at k;split
 ·rename_i h;rw [h] at k;exact k
 ·rename_i h;rw [Bool.eq_false_iff.2 h] at k;exact k
def mY (l:List Ck):Prop:=∀ i,i<l.length→(l.getD i default).cuts.length<1000000∧(l.getD i default).dens.length<1000000
def Eu (c:Ck):Bool:=decide (c.cuts.length>14)&&decide (c.cuts.length≤40)
def Hs (l:List Ck):Bool:=l.any Eu||Nt l
theorem U2 {x0 x1} (l:List Ck) (hl:l.length≤9223372036854775807):∀ (r i n:Nat),i+r=l.length→r<n→GV Al x0 x1 n (cks l) (i:Int)=if (l.drop i).any Eu=true then x1 true else x0 (cks l) (l.length:Int) false
 | 0,i,n+1,hi,hn=>by unfold GV;rw [iQ,eE (by omega),nA (by omega),show (i:Int)=l.length by omega];rfl
 | r+1,i,n+1,hi,hn=>by
  unfold GV;have e1:=eQ (n:=(i:Int)+1) (by omega) (by omega);simp only [lt,Go.Pf.jn];rw [iQ,eC (by omega),bB (by omega),bB (by omega),dR,tP (by omega),gZ,Ej,dZ,e1,kD,tQ default (by omega),List.any_cons];have ih:=U2 (x0:=x0) (x1:=x1) l hl r (i+1) n (by omega) (by omega);rw [ih];unfold Eu
  by_cases a:(l.getD i default).cuts.length>14
  ·rw [eC (by omega),bB (by omega),bB (by omega),gZ,Eb a,sS]
   by_cases b:(l.getD i default).cuts.length≤40
   ·rw [Eb (show (((l.getD i default).cuts.length:Nat):Int)≤40 by omega),bU,Eb b,Bool.true_or,WN rfl]
   ·rw [Os (show ¬(((l.getD i default).cuts.length:Nat):Int)≤40 by omega),bN,Os b,CD]
  ·rw [eE (by omega),bN,Os a,qK,CD]
theorem yAD {l:List Ck} (hl:l.length≤9223372036854775807) (K:Bool→Prop):GW (cks l) K=K (Hs l):=by
 refine yf _ _ (fun K k=>?_) K;unfold GW TP;refine ⟨l.length+1,(U2 l hl l.length 0 _ (by omega) (by omega)).mpr ?_⟩;rw [qJ];unfold Hs at k;split
 ·rename_i h;rw [h] at k;exact k
 ·rename_i h;rw [Bool.eq_false_iff.2 h,CD] at k;rw [yt9 (by omega)];exact k
def tU (l:List Ck):Int:=if pX l 0≠0 then pX l 0 else if l.length>4 then 4 else if l.all hunE=true then 0 else 2
theorem U3 {x0 x1} (l:List Ck) (hl:l.length≤1000000) (hw:mY l):∀ (r i n:Nat),i+r=l.length→r<n→GX Am Ak x0 x1 n (cks l) (i:Int)=if (l.drop i).all hunE=true then x0 (cks l) (l.length:Int) false else x1 2
 | 0,i,n+1,hi,hn=>by unfold GX;rw [iQ,eE (by omega),nA (by omega),show (i:Int)=l.length by omega];rfl
 | r+1,i,n+1,hi,hn=>by
  unfold GX;have e1:=eQ (n:=(i:Int)+1) (by omega) (by omega);simp only [lt];rw [iQ,eC (by omega),bB (by omega),bB (by omega),dR,tP (by omega),gZ,xD,Ej,Hf,yAC (hw i (by omega)).2,e1,kD,tQ default (by omega),List.all_cons];have ih:=U3 (x0:=x0) (x1:=x1) l hl hw r (i+1) n (by omega) (by omega);rw [ih]
  cases hunE (l.getD i default)
  ·rw [Bool.not_false,bU,qK,WO (by simp)]
  ·rw [Bool.not_true,bN,sS]
theorem mY.fin {l:List Ck} (h:mY l):pY l:=fun i hi=>⟨by have:=(h i hi).1;omega,by have:=(h i hi).2;omega⟩
theorem Vp {l:List Ck} (hl:l.length≤1000000) (hw:mY l) (K:Int→Prop):qW (cks l) K=K (tU l):=by
 refine yg _ _ (fun K k=>?_) K;unfold qW TR;rw [yC8 hw.fin (by omega)];unfold tU at k;show aM (pX l 0 !=0) _ _
 by_cases c:pX l 0=0
 ·rw [mX c,iQ];rw [WO (by omega)] at k
  by_cases c4:l.length>4
  ·rw [eC (by omega)];rw [WN c4] at k;exact k
  ·rw [eE (by omega)];rw [WO c4] at k;refine ⟨l.length+1,(U3 l hl hw l.length 0 _ (by omega) (by omega)).mpr ?_⟩;rw [qJ];split
   ·rename_i h;rw [WN h] at k;exact k
   ·rename_i h;rw [WO h] at k;exact k
 ·rw [qX c];rw [WN c] at k;exact k
theorem yyI {l:List Ck} (h:Hs l=false):mY l∧l.length≤10:=by unfold Hs at h;rw [AT] at h;obtain ⟨a,b,c⟩:=yAw h.2;exact ⟨fun i hi=>⟨by have:=(b i hi).1;omega,by have:=(b i hi).2;omega⟩,a⟩
def oB:Nat→List (List Int)
 | 1=>[[0]]
 | 2=>[[0,1],[1,0]]
 | 3=>[[0,1,2],[0,2,1],[1,0,2],[1,2,0],[2,0,1],[2,1,0]]
 | 4=>[[0,1,2,3],[0,1,3,2],[0,2,1,3],[0,2,3,1],[0,3,1,2],[0,3,2,1],[1,0,2,3],[1,0,3,2],[1,2,0,3],[1,2,3,0],[1,3,0,2],[1,3,2,0],[2,0,1,3],[2,0,3,1],[2,1,0,3],[2,1,3,0],[2,3,0,1],[2,3,1,0],[3,0,1,2],[3,0,2,1],[3,1,0,2],[3,1,2,0],[3,2,0,1],[3,2,1,0]]
 | _=>[]
theorem U4:∀ {n:Nat} {o:List Int},o∈oB n→o.length=n∧1≤n∧n≤4
 | 0,_,h=>by cases h
 | 1,o,h=>by
  have:∀ o∈oB 1,o.length=1:=by decide
  exact ⟨this o h,by decide,by decide⟩
 | 2,o,h=>by
  have:∀ o∈oB 2,o.length=2:=by decide
  exact ⟨this o h,by decide,by decide⟩
 | 3,o,h=>by
  have:∀ o∈oB 3,o.length=3:=by decide
  exact ⟨this o h,by decide,by decide⟩
 | 4,o,h=>by
  have:∀ o∈oB 4,o.length=4:=by decide
  exact ⟨this o h,by decide,by decide⟩
 | _+5,_,h=>by cases h
theorem U5:∀ {n:Nat} {o:List Int},o∈oB n→∀ a∈o,0≤a∧a<(n:Int)
 | 0,_,h,_,_=>by cases h
 | 1,o,h,a,ha=>by
  have:∀ o∈oB 1,∀ a∈o,0≤a∧a<((1:Nat):Int):=by decide
  exact this o h a ha
 | 2,o,h,a,ha=>by
  have:∀ o∈oB 2,∀ a∈o,0≤a∧a<((2:Nat):Int):=by decide
  exact this o h a ha
 | 3,o,h,a,ha=>by
  have:∀ o∈oB 3,∀ a∈o,0≤a∧a<((3:Nat):Int):=by decide
  exact this o h a ha
 | 4,o,h,a,ha=>by
  have:∀ o∈oB 4,∀ a∈o,0≤a∧a<((4:Nat):Int):=by decide
  exact this o h a ha
 | _+5,_,h,_,_=>by cases h
structure Ft (l:List Ck) (o:List Int):Prop where
 d:DK l
 h4:l.length≤4
 hun:∀ c∈l,Hk c.dens
 p:o∈oB l.length
def oC (l:List Ck):Int:=(l.getD 0 default).len
def nK (l:List Ck) (o:List Int):List Ck:=o.map fun a=>l.getD a.toNat default
section
variable {l:List Ck} {o:List Int}
theorem Ft.okl (h:Ft l o):∀ c∈l,eI (oC l) c∧c.len=oC l:=fun c hc=>by obtain ⟨j,hj,rfl⟩:=Cx hc;have h1:=h.d.ok j hj;have h2:=h.d.len j hj;rw [dQ,dF hj] at h1 h2;have h3:(l[j]).len=oC l:=h2;refine ⟨⟨?_,h.hun _ hc⟩,h3⟩;rw [← h3];exact h1
theorem Ft.mem (h:Ft l o):∀ c∈nK l o,c∈l:=fun c hc=>by
 obtain ⟨a,ha,rfl⟩:=List.mem_map.1 hc;have:=U5 h.p a ha;have hj:a.toNat<l.length:=by omega
 rw [dQ,dF hj];exact sQ hj
theorem Ft.ok (h:Ft l o):∀ c∈nK l o,eI (oC l) c:=fun c hc=>(h.okl c (h.mem c hc)).1
theorem Ft.len (h:Ft l o):∀ c∈nK l o,c.len=oC l:=fun c hc=>(h.okl c (h.mem c hc)).2
theorem Ft.n (h:Ft l o):o.length=l.length∧1≤o.length∧o.length≤4:=by have:=U4 h.p;exact ⟨this.1,by omega,by omega⟩
theorem Ev:(nK l o).length=o.length:=lJ ..
theorem Ft.at_ (h:Ft l o) {j:Nat} (hj:j<o.length):0≤o.getD j 0∧(o.getD j 0).toNat<l.length∧o.getD j 0<l.length∧(nK l o).getD j default=l.getD (o.getD j 0).toNat default:=by
 have hm:o.getD j 0∈o:=by rw [dQ,dF hj];exact sQ hj
 have:=U5 h.p _ hm;refine ⟨this.1,by omega,this.2,?_⟩;unfold nK;rw [dQ,rE,dQ (l:=o),dF hj];rfl
theorem Ft.ord (h:Ft l o):AF (oC l) (cks l) (aD o) (nK l o):=by
 refine ⟨by rw [dZ,Ev],fun j hj=>?_⟩;rw [Ev] at hj;obtain ⟨a1,a2,a3,a4⟩:=h.at_ hj;have ea:AD (aD o) j=o.getD j 0:=by
  unfold AD;rw [dR,fG hj]
 refine ⟨Cj hj,by rw [ea];exact a1,by rw [ea,iQ];exact a3,?_,?_⟩
 ·unfold lF;rw [ea,a4,tP a2]
 ·rw [a4];refine (h.okl _ ?_).1;rw [dQ,dF a2];exact sQ a2
theorem Ft.L1 (h:Ft l o):∃ c0 d0 Lr,cks l=Go.Pf.Vc.L1 (oC l) c0 d0 Lr:=by
 have:=h.d.n0
 cases l with
 | nil=>cases this
 | cons c r=>exact ⟨aD c.cuts,aD c.dens,cks r,rfl⟩
theorem Ft.part (h:Ft l o):∃ q,FinS (oC l) (nK l o) q∧small q∧∀ K:Int→Int→Prop,nH (cks l) (aD o) K=K q.num q.den:=by obtain ⟨c0,d0,Lr,e1⟩:=h.L1;obtain ⟨n1,n2,n3⟩:=h.n;have ho:=h.ord;rw [e1] at ho;obtain ⟨q,hF,hs,ha⟩:=yE1 (ord:=aD o) (fun k=>by have:=Ev (l:=l) (o:=o);rw [k] at this;simp at this;omega) (by rw [Ev];exact n3) h.len ho;refine ⟨q,hF,hs,fun K=>?_⟩;rw [e1];exact xe _ _ _ _ (fun K k=>⟨_,_,k,ha⟩) K
theorem U6 {x0:List PV→Int→Int→Int→Bool→Prop} {x1:Int→Prop} (d:List Int) (x:Int) (hl:d.length<1000000) (hd:∀ y∈d,x≠y) (k:x0 (aD d) x d.length d.length false):∀ (r i n:Nat),i+r=d.length→r<n→tM x0 x1 n (aD d) x d.length (i:Int)
 | 0,i,n+1,hi,hn=>by unfold tM;rw [eE (by omega),show (i:Int)=d.length by omega];exact k
 | r+1,i,n+1,hi,hn=>by
  unfold tM;have e1:=eQ (n:=(i:Int)+1) (by omega) (by omega);have hm:d.getD i 0∈d:=by rw [dQ,dF (by omega)];exact sQ _
  simp only [lt];rw [eC (by omega),dZ,bB (by omega),bB (by omega),dR,fP (by omega),fG (by omega),Eg (hd _ hm),e1,kD];exact U6 d x hl hd k r (i+1) n (by omega) (by omega)
theorem yGk {c:Ck} (hl:c.dens.length<1000000) (hh:Hk c.dens) (K:Bool→Prop):sC c.len (aD c.cuts) (aD c.dens) K=K false:=by refine I5 _ _ _ _ (fun K k=>?_) K;unfold sC Nd Ca JG JF JE;rw [dZ];refine ⟨c.dens.length+1,U6 c.dens 0 hl (fun y hy e=>?_) k c.dens.length 0 _ (by omega) (by omega)⟩;obtain ⟨j,hj,rfl⟩:=Cx hy;have:=hh j hj;rw [dQ,dF hj] at this;have e':(0:Int)=c.dens[j]:=e;have h':(0:Int)<c.dens[j]:=this;omega
theorem Ft.low (h:Ft l o) {i:Nat} (hi:i<l.length):(l.getD i default).cuts.length≤40∧(l.getD i default).dens.length≤40:=by have:=h.d.ok i hi;have l1:=VC.l1 this;have l2:=VC.l2 this;exact ⟨by omega,by omega⟩
theorem U7 {x0:List PV→Int→Int→Bool→Prop} {x1:Int→Prop} (h:Ft l o) (k:x0 (cks l) l.length l.length false):∀ (r i n:Nat),i+r=l.length→r<n→Ao uW sC x0 x1 n (cks l) (l.length:Int) (i:Int)
 | 0,i,n+1,hi,hn=>by unfold Ao;rw [eE (by omega),show (i:Int)=l.length by omega];exact k
 | r+1,i,n+1,hi,hn=>by
  unfold Ao;have:=h.h4;have e1:=eQ (n:=(i:Int)+1) (by omega) (by omega);have hl:=h.low (i:=i) (by omega);have hm:l.getD i default∈l:=by rw [dQ,dF (by omega)];exact sQ _
  simp only [lt];rw [eC (by omega),iQ,bB (by omega),bB (by omega),dR,tP (by omega),gZ,xD,Ej,Hf,yGk (by omega) (h.hun _ hm),bN,e1,kD];exact U7 h k r (i+1) n (by omega) (by omega)
theorem Ft.check (h:Ft l o) (K:Int→Prop):mU (cks l) K=K 0:=by
 have h4:=h.h4;refine I6 _ _ (fun K k=>?_) K;unfold mU Nf;have hf:pY l:=fun i hi=>by have:=h.low hi;exact ⟨by omega,by omega⟩
 rw [O4 hf (by omega),h.d.err (by decide),mX rfl,iQ,eE (by omega)];simp only [Go.Pf.jn];exact ⟨l.length+1,U7 h k l.length 0 _ (by omega) (by omega)⟩
end
def U8:List AO→Nat→List An
 | [],_=>[]
 | o::r,i=>(match o.op with | .app _ _ _ _ _=>[⟨i,.raw,9⟩] | _=>[])++U8 r (i+1)
def jE:TC→TC
 | .ops l _ ps fg=>.ops l (U8 l 0) ps fg
 | .seq a b=>.seq (jE a) (jE b)
 | .cond c a b=>.cond c (jE a) (jE b)
 | .block i b=>.block i (jE b)
 | .loop i b=>.loop i (jE b)
 | c=>c
def Ht (t:TFn):TFn:=⟨t.nparams,t.results,jE t.body⟩
def Ew:List PV→Bool
 | []=>true
 | .int .i64 _::r=>Ew r
 | _=>false
def sK (x:Int):List PV→Bool
 | []=>false
 | .int .i64 y::r=>(x==y)||sK x r
 | _=>false
def cnS (as:List PV) (K:PV→Prop):Prop:=match as with
 | [.data l,.int .i64 x]=>aI (Ew l&&Nat.blt l.length 1000) (K (.bool (sK x l)))
 | _=>False
def Kj:Nat→Nat→List Int→List Nat→List (List Int)
 | 0,_,_,_=>[]
 | d+1,n,p,l=>l.flatMap fun (a:Nat)=>bif p.contains (a:Int) then [] else (p++[(a:Int)])::Kj d n (p++[(a:Int)]) l
def eY (n:Nat):List (List Int):=Kj n n [] (List.range n)
def bT (fi:List PV→Nat) (f0 f1 g0 g1:List PV→Int) (vs:List PV) (H:Hp):Hp:=match vs with
 | [.own id _ len _ _]=>(match H[id]? with
  | some b=>((H.set 1 ⟨false,false,1,[.own (fi b.rows) 0 len len none]⟩).set 2 ⟨false,false,2,[bH (f0 b.rows) (f1 b.rows)]⟩)++[⟨false,false,2,[bH (g0 b.rows) (g1 b.rows)]⟩]
  | none=>H)
 | _=>H
def vK (L:List PV) (n:Nat):Hp:=[⟨false,false,1,[.data L]⟩,⟨false,false,1,[.nils]⟩,⟨false,false,2,[bH 0 0]⟩,⟨false,false,1,[.int .i64 n]⟩]
def oY (L:List PV) (n:Nat):Hp:=vK L n++[⟨false,false,1,[.fn (.yield 0) [] []]⟩,⟨false,false,1,[.fn (.func Dc) [] [.ptr 3 1 0 0,.ptr 4 1 0 0,.ptr 5 1 0 0]]⟩]
section
variable (e:Es) (aC:jS) (aP:(List PV→List PV→(Int→Int→Prop)→Prop)) (aL:(Int→Int→Int→Int→(Bool→Prop)→Prop))
def NI:SE:=⟨E e,yko [(IC,nF.pw aC),(By,Nh.pw aP),(Dh,Cc.pw aL),(Bv,cnS)],yeG [(Px,Ht PT)],fun _ _ _ _ _=>False,fun _=>none⟩
def U9 (cK:CK):LP:=fun id _ F H Q=>bif Nat.beq id 61763900 then UE (E e) cK (fun _ _ _ _ _=>False) (jE PR) 6 F H Q else False
def inlG:Nat→Option TFn:=yeG [(Dc,Ht PS)]
variable (fi:List PV→Nat) (f0 f1 g0 g1:List PV→Int) (YY:List PV→Hp→Prop)
def AG (n:Nat):List (List Int)→Hp→(Hp→Prop)→Prop
 | [],H,K=>K H
 | p::r,H,K=>bif Nat.beq p.length n then YY [.own H.length 0 n n none] (H++[⟨false,true,1,aD p⟩])∧AG n r (bT fi f0 f1 g0 g1 [.own H.length 0 n n none] (H++[⟨false,true,1,aD p⟩])) K else AG n r (H++[⟨false,true,1,aD p⟩]) K
def wB (L:List PV) (n:Nat) (Q:Ex→aG→Hp→Prop):Prop:=WC (E e) (FR (NI e aC aP aL) (ZK YY (bT fi f0 f1 g0 g1)) inlG (U9 e) 4 8) (fun _ _ _ _ _=>False) [] cJ (Ht Gl).body (jY 0 [.fn (.yield 0) [] [],.ptr 3 1 0 0]) (vK L n) Q
def xH (n:Nat):List (List Int)→Hp→List (List PV×Hp)
 | [],_=>[]
 | p::r,H=>bif Nat.beq p.length n then ([.own H.length 0 n n none],H++[⟨false,true,1,aD p⟩])::xH n r (bT fi f0 f1 g0 g1 [.own H.length 0 n n none] (H++[⟨false,true,1,aD p⟩])) else xH n r (H++[⟨false,true,1,aD p⟩])
def AH (n:Nat):List (List Int)→Hp→Hp
 | [],H=>H
 | p::r,H=>bif Nat.beq p.length n then AH n r (bT fi f0 f1 g0 g1 [.own H.length 0 n n none] (H++[⟨false,true,1,aD p⟩])) else AH n r (H++[⟨false,true,1,aD p⟩])
def aB (L:List PV) (n k:Nat):List PV×Hp:=(xH fi f0 f1 g0 g1 n (eY n) (oY L n)).getD k ([],[])
def aJ (n k:Nat):List PV:=aD (((eY n).filter fun p=>Nat.beq p.length n).getD k [])
def cY (b:Bool) (vs:List PV) (H:Hp) (p0 p1:Int):Hp:=match vs with
 | [.own id _ len _ _]=>(match H[id]? with
  | some _=>bif b then ((H++[⟨false,false,2,[bH p0 p1]⟩]:Hp).set 1 ⟨false,false,1,[.own id 0 len len none]⟩).set 2 ⟨false,false,2,[bH p0 p1]⟩ else (H++[⟨false,false,2,[bH p0 p1]⟩]:Hp)
  | none=>H)
 | _=>H
def dV:aG:=[(1,.v (.ptr 0 1 0 0)),(2,.v (.ptr 1 1 0 0)),(3,.v (.ptr 2 1 0 0)),(4,.v (.int .i64 0)),(16,.v (.fn (.func ID) [] [.ptr 3 1 0 0]))]
def wY (vs:List PV) (H:Hp) (K:Option Nat→Hp→Prop):Prop:=Pe (E e) (gJ (NI e aC aP aL) 4) (fun _ _ _ _ _=>False) dV [17] (jE Gw) (jE Gx) vs H K
def gI (L:List PV) (n k:Nat) (vs:List PV) (H:Hp) (K:Option Nat→Hp→Prop):Prop:=aP L (aJ n k) fun p0 p1=>match k with
 | 0=>K none (cY true vs H p0 p1)
 | k+1=>aL (f0 (aJ n k)) (f1 (aJ n k)) p0 p1 fun b=>aM b (K none (cY true vs H p0 p1)) (K none (cY false vs H p0 p1))
theorem Vq (c0:PV) (Q:Ex→aG→Hp→Prop):wB e aC aP aL fi f0 f1 g0 g1 YY [c0] 1 Q=AG fi f0 f1 g0 g1 YY 1 (eY 1) (oY [c0] 1) (fun H=>Q .norm [] H):=by kernel_rfl
theorem Vr (c0 c1:PV) (Q:Ex→aG→Hp→Prop):wB e aC aP aL fi f0 f1 g0 g1 YY [c0,c1] 2 Q=AG fi f0 f1 g0 g1 YY 2 (eY 2) (oY [c0,c1] 2) (fun H=>Q .norm [] H):=by kernel_rfl
theorem Vs (c0 c1 c2:PV) (Q:Ex→aG→Hp→Prop):wB e aC aP aL fi f0 f1 g0 g1 YY [c0,c1,c2] 3 Q=AG fi f0 f1 g0 g1 YY 3 (eY 3) (oY [c0,c1,c2] 3) (fun H=>Q .norm [] H):=by kernel_rfl
theorem Vt (c0 c1 c2 c3:PV) (Q:Ex→aG→Hp→Prop):wB e aC aP aL fi f0 f1 g0 g1 YY [c0,c1,c2,c3] 4 Q=AG fi f0 f1 g0 g1 YY 4 (eY 4) (oY [c0,c1,c2,c3] 4) (fun H=>Q .norm [] H):=by kernel_rfl
end
def bP (i:Nat) (a b c d:Int) (vs:List PV) (H:Hp):Hp:=match vs with
 | [.own _ _ len _ _]=>((H.set 1 ⟨false,false,1,[.own i 0 len len none]⟩).set 2 ⟨false,false,2,[bH a b]⟩)++[⟨false,false,2,[bH c d]⟩]
 | _=>H
def Ey (n:Nat):List (List Int)→Nat→List Nat
 | [],_=>[]
 | p::r,m=>bif Nat.beq p.length n then m::Ey n r (m+2) else Ey n r (m+1)
def bE (n k:Nat):Nat:=(Ey n (eY n) 6).getD k 0
section
variable (e:Es) (aC:jS) (aP:(List PV→List PV→(Int→Int→Prop)→Prop)) (aL:(Int→Int→Int→Int→(Bool→Prop)→Prop))
variable (fi:List PV→Nat) (f0 f1 g0 g1:List PV→Int) (K:Option Nat→Hp→Prop) (p0 p1:Int)
theorem yJB (c0:PV):wY e aC aP aL (aB fi f0 f1 g0 g1 [c0] 1 0).1 (aB fi f0 f1 g0 g1 [c0] 1 0).2 K=gI aP aL f0 f1 [c0] 1 0 (aB fi f0 f1 g0 g1 [c0] 1 0).1 (aB fi f0 f1 g0 g1 [c0] 1 0).2 K:=by kernel_rfl
theorem V0 (c0:PV):bT fi f0 f1 g0 g1 (aB fi f0 f1 g0 g1 [c0] 1 0).1 (aB fi f0 f1 g0 g1 [c0] 1 0).2=bP (fi (aJ 1 0)) (f0 (aJ 1 0)) (f1 (aJ 1 0)) (g0 (aJ 1 0)) (g1 (aJ 1 0)) (aB fi f0 f1 g0 g1 [c0] 1 0).1 (aB fi f0 f1 g0 g1 [c0] 1 0).2∧cY true (aB fi f0 f1 g0 g1 [c0] 1 0).1 (aB fi f0 f1 g0 g1 [c0] 1 0).2 p0 p1=bP (bE 1 0) p0 p1 p0 p1 (aB fi f0 f1 g0 g1 [c0] 1 0).1 (aB fi f0 f1 g0 g1 [c0] 1 0).2:=⟨by kernel_rfl,by kernel_rfl⟩
theorem yJC (c0 c1:PV):wY e aC aP aL (aB fi f0 f1 g0 g1 [c0,c1] 2 0).1 (aB fi f0 f1 g0 g1 [c0,c1] 2 0).2 K=gI aP aL f0 f1 [c0,c1] 2 0 (aB fi f0 f1 g0 g1 [c0,c1] 2 0).1 (aB fi f0 f1 g0 g1 [c0,c1] 2 0).2 K:=by kernel_rfl
theorem V1 (c0 c1:PV):bT fi f0 f1 g0 g1 (aB fi f0 f1 g0 g1 [c0,c1] 2 0).1 (aB fi f0 f1 g0 g1 [c0,c1] 2 0).2=bP (fi (aJ 2 0)) (f0 (aJ 2 0)) (f1 (aJ 2 0)) (g0 (aJ 2 0)) (g1 (aJ 2 0)) (aB fi f0 f1 g0 g1 [c0,c1] 2 0).1 (aB fi f0 f1 g0 g1 [c0,c1] 2 0).2∧cY true (aB fi f0 f1 g0 g1 [c0,c1] 2 0).1 (aB fi f0 f1 g0 g1 [c0,c1] 2 0).2 p0 p1=bP (bE 2 0) p0 p1 p0 p1 (aB fi f0 f1 g0 g1 [c0,c1] 2 0).1 (aB fi f0 f1 g0 g1 [c0,c1] 2 0).2:=⟨by kernel_rfl,by kernel_rfl⟩
theorem yJD (c0 c1:PV):wY e aC aP aL (aB fi f0 f1 g0 g1 [c0,c1] 2 1).1 (aB fi f0 f1 g0 g1 [c0,c1] 2 1).2 K=gI aP aL f0 f1 [c0,c1] 2 1 (aB fi f0 f1 g0 g1 [c0,c1] 2 1).1 (aB fi f0 f1 g0 g1 [c0,c1] 2 1).2 K:=by kernel_rfl
theorem Vu (c0 c1:PV):bT fi f0 f1 g0 g1 (aB fi f0 f1 g0 g1 [c0,c1] 2 1).1 (aB fi f0 f1 g0 g1 [c0,c1] 2 1).2=bP (fi (aJ 2 1)) (f0 (aJ 2 1)) (f1 (aJ 2 1)) (g0 (aJ 2 1)) (g1 (aJ 2 1)) (aB fi f0 f1 g0 g1 [c0,c1] 2 1).1 (aB fi f0 f1 g0 g1 [c0,c1] 2 1).2∧cY true (aB fi f0 f1 g0 g1 [c0,c1] 2 1).1 (aB fi f0 f1 g0 g1 [c0,c1] 2 1).2 p0 p1=bP (bE 2 1) p0 p1 p0 p1 (aB fi f0 f1 g0 g1 [c0,c1] 2 1).1 (aB fi f0 f1 g0 g1 [c0,c1] 2 1).2∧cY false (aB fi f0 f1 g0 g1 [c0,c1] 2 1).1 (aB fi f0 f1 g0 g1 [c0,c1] 2 1).2 p0 p1=bP (fi (aJ 2 0)) (f0 (aJ 2 0)) (f1 (aJ 2 0)) p0 p1 (aB fi f0 f1 g0 g1 [c0,c1] 2 1).1 (aB fi f0 f1 g0 g1 [c0,c1] 2 1).2:=⟨by kernel_rfl,by kernel_rfl,by kernel_rfl⟩
theorem yJE (c0 c1 c2:PV):wY e aC aP aL (aB fi f0 f1 g0 g1 [c0,c1,c2] 3 0).1 (aB fi f0 f1 g0 g1 [c0,c1,c2] 3 0).2 K=gI aP aL f0 f1 [c0,c1,c2] 3 0 (aB fi f0 f1 g0 g1 [c0,c1,c2] 3 0).1 (aB fi f0 f1 g0 g1 [c0,c1,c2] 3 0).2 K:=by kernel_rfl
theorem V2 (c0 c1 c2:PV):bT fi f0 f1 g0 g1 (aB fi f0 f1 g0 g1 [c0,c1,c2] 3 0).1 (aB fi f0 f1 g0 g1 [c0,c1,c2] 3 0).2=bP (fi (aJ 3 0)) (f0 (aJ 3 0)) (f1 (aJ 3 0)) (g0 (aJ 3 0)) (g1 (aJ 3 0)) (aB fi f0 f1 g0 g1 [c0,c1,c2] 3 0).1 (aB fi f0 f1 g0 g1 [c0,c1,c2] 3 0).2∧cY true (aB fi f0 f1 g0 g1 [c0,c1,c2] 3 0).1 (aB fi f0 f1 g0 g1 [c0,c1,c2] 3 0).2 p0 p1=bP (bE 3 0) p0 p1 p0 p1 (aB fi f0 f1 g0 g1 [c0,c1,c2] 3 0).1 (aB fi f0 f1 g0 g1 [c0,c1,c2] 3 0).2:=⟨by kernel_rfl,by kernel_rfl⟩
theorem yJF (c0 c1 c2:PV):wY e aC aP aL (aB fi f0 f1 g0 g1 [c0,c1,c2] 3 1).1 (aB fi f0 f1 g0 g1 [c0,c1,c2] 3 1).2 K=gI aP aL f0 f1 [c0,c1,c2] 3 1 (aB fi f0 f1 g0 g1 [c0,c1,c2] 3 1).1 (aB fi f0 f1 g0 g1 [c0,c1,c2] 3 1).2 K:=by kernel_rfl
theorem Vv (c0 c1 c2:PV):bT fi f0 f1 g0 g1 (aB fi f0 f1 g0 g1 [c0,c1,c2] 3 1).1 (aB fi f0 f1 g0 g1 [c0,c1,c2] 3 1).2=bP (fi (aJ 3 1)) (f0 (aJ 3 1)) (f1 (aJ 3 1)) (g0 (aJ 3 1)) (g1 (aJ 3 1)) (aB fi f0 f1 g0 g1 [c0,c1,c2] 3 1).1 (aB fi f0 f1 g0 g1 [c0,c1,c2] 3 1).2∧cY true (aB fi f0 f1 g0 g1 [c0,c1,c2] 3 1).1 (aB fi f0 f1 g0 g1 [c0,c1,c2] 3 1).2 p0 p1=bP (bE 3 1) p0 p1 p0 p1 (aB fi f0 f1 g0 g1 [c0,c1,c2] 3 1).1 (aB fi f0 f1 g0 g1 [c0,c1,c2] 3 1).2∧cY false (aB fi f0 f1 g0 g1 [c0,c1,c2] 3 1).1 (aB fi f0 f1 g0 g1 [c0,c1,c2] 3 1).2 p0 p1=bP (fi (aJ 3 0)) (f0 (aJ 3 0)) (f1 (aJ 3 0)) p0 p1 (aB fi f0 f1 g0 g1 [c0,c1,c2] 3 1).1 (aB fi f0 f1 g0 g1 [c0,c1,c2] 3 1).2:=⟨by kernel_rfl,by kernel_rfl,by kernel_rfl⟩
theorem yJG (c0 c1 c2:PV):wY e aC aP aL (aB fi f0 f1 g0 g1 [c0,c1,c2] 3 2).1 (aB fi f0 f1 g0 g1 [c0,c1,c2] 3 2).2 K=gI aP aL f0 f1 [c0,c1,c2] 3 2 (aB fi f0 f1 g0 g1 [c0,c1,c2] 3 2).1 (aB fi f0 f1 g0 g1 [c0,c1,c2] 3 2).2 K:=by kernel_rfl
theorem Vw (c0 c1 c2:PV):bT fi f0 f1 g0 g1 (aB fi f0 f1 g0 g1 [c0,c1,c2] 3 2).1 (aB fi f0 f1 g0 g1 [c0,c1,c2] 3 2).2=bP (fi (aJ 3 2)) (f0 (aJ 3 2)) (f1 (aJ 3 2)) (g0 (aJ 3 2)) (g1 (aJ 3 2)) (aB fi f0 f1 g0 g1 [c0,c1,c2] 3 2).1 (aB fi f0 f1 g0 g1 [c0,c1,c2] 3 2).2∧cY true (aB fi f0 f1 g0 g1 [c0,c1,c2] 3 2).1 (aB fi f0 f1 g0 g1 [c0,c1,c2] 3 2).2 p0 p1=bP (bE 3 2) p0 p1 p0 p1 (aB fi f0 f1 g0 g1 [c0,c1,c2] 3 2).1 (aB fi f0 f1 g0 g1 [c0,c1,c2] 3 2).2∧cY false (aB fi f0 f1 g0 g1 [c0,c1,c2] 3 2).1 (aB fi f0 f1 g0 g1 [c0,c1,c2] 3 2).2 p0 p1=bP (fi (aJ 3 1)) (f0 (aJ 3 1)) (f1 (aJ 3 1)) p0 p1 (aB fi f0 f1 g0 g1 [c0,c1,c2] 3 2).1 (aB fi f0 f1 g0 g1 [c0,c1,c2] 3 2).2:=⟨by kernel_rfl,by kernel_rfl,by kernel_rfl⟩
theorem yJH (c0 c1 c2:PV):wY e aC aP aL (aB fi f0 f1 g0 g1 [c0,c1,c2] 3 3).1 (aB fi f0 f1 g0 g1 [c0,c1,c2] 3 3).2 K=gI aP aL f0 f1 [c0,c1,c2] 3 3 (aB fi f0 f1 g0 g1 [c0,c1,c2] 3 3).1 (aB fi f0 f1 g0 g1 [c0,c1,c2] 3 3).2 K:=by kernel_rfl
theorem Vx (c0 c1 c2:PV):bT fi f0 f1 g0 g1 (aB fi f0 f1 g0 g1 [c0,c1,c2] 3 3).1 (aB fi f0 f1 g0 g1 [c0,c1,c2] 3 3).2=bP (fi (aJ 3 3)) (f0 (aJ 3 3)) (f1 (aJ 3 3)) (g0 (aJ 3 3)) (g1 (aJ 3 3)) (aB fi f0 f1 g0 g1 [c0,c1,c2] 3 3).1 (aB fi f0 f1 g0 g1 [c0,c1,c2] 3 3).2∧cY true (aB fi f0 f1 g0 g1 [c0,c1,c2] 3 3).1 (aB fi f0 f1 g0 g1 [c0,c1,c2] 3 3).2 p0 p1=bP (bE 3 3) p0 p1 p0 p1 (aB fi f0 f1 g0 g1 [c0,c1,c2] 3 3).1 (aB fi f0 f1 g0 g1 [c0,c1,c2] 3 3).2∧cY false (aB fi f0 f1 g0 g1 [c0,c1,c2] 3 3).1 (aB fi f0 f1 g0 g1 [c0,c1,c2] 3 3).2 p0 p1=bP (fi (aJ 3 2)) (f0 (aJ 3 2)) (f1 (aJ 3 2)) p0 p1 (aB fi f0 f1 g0 g1 [c0,c1,c2] 3 3).1 (aB fi f0 f1 g0 g1 [c0,c1,c2] 3 3).2:=⟨by kernel_rfl,by kernel_rfl,by kernel_rfl⟩
theorem yJI (c0 c1 c2:PV):wY e aC aP aL (aB fi f0 f1 g0 g1 [c0,c1,c2] 3 4).1 (aB fi f0 f1 g0 g1 [c0,c1,c2] 3 4).2 K=gI aP aL f0 f1 [c0,c1,c2] 3 4 (aB fi f0 f1 g0 g1 [c0,c1,c2] 3 4).1 (aB fi f0 f1 g0 g1 [c0,c1,c2] 3 4).2 K:=by kernel_rfl
theorem Vy (c0 c1 c2:PV):bT fi f0 f1 g0 g1 (aB fi f0 f1 g0 g1 [c0,c1,c2] 3 4).1 (aB fi f0 f1 g0 g1 [c0,c1,c2] 3 4).2=bP (fi (aJ 3 4)) (f0 (aJ 3 4)) (f1 (aJ 3 4)) (g0 (aJ 3 4)) (g1 (aJ 3 4)) (aB fi f0 f1 g0 g1 [c0,c1,c2] 3 4).1 (aB fi f0 f1 g0 g1 [c0,c1,c2] 3 4).2∧cY true (aB fi f0 f1 g0 g1 [c0,c1,c2] 3 4).1 (aB fi f0 f1 g0 g1 [c0,c1,c2] 3 4).2 p0 p1=bP (bE 3 4) p0 p1 p0 p1 (aB fi f0 f1 g0 g1 [c0,c1,c2] 3 4).1 (aB fi f0 f1 g0 g1 [c0,c1,c2] 3 4).2∧cY false (aB fi f0 f1 g0 g1 [c0,c1,c2] 3 4).1 (aB fi f0 f1 g0 g1 [c0,c1,c2] 3 4).2 p0 p1=bP (fi (aJ 3 3)) (f0 (aJ 3 3)) (f1 (aJ 3 3)) p0 p1 (aB fi f0 f1 g0 g1 [c0,c1,c2] 3 4).1 (aB fi f0 f1 g0 g1 [c0,c1,c2] 3 4).2:=⟨by kernel_rfl,by kernel_rfl,by kernel_rfl⟩
theorem yJJ (c0 c1 c2:PV):wY e aC aP aL (aB fi f0 f1 g0 g1 [c0,c1,c2] 3 5).1 (aB fi f0 f1 g0 g1 [c0,c1,c2] 3 5).2 K=gI aP aL f0 f1 [c0,c1,c2] 3 5 (aB fi f0 f1 g0 g1 [c0,c1,c2] 3 5).1 (aB fi f0 f1 g0 g1 [c0,c1,c2] 3 5).2 K:=by kernel_rfl
theorem Vz (c0 c1 c2:PV):bT fi f0 f1 g0 g1 (aB fi f0 f1 g0 g1 [c0,c1,c2] 3 5).1 (aB fi f0 f1 g0 g1 [c0,c1,c2] 3 5).2=bP (fi (aJ 3 5)) (f0 (aJ 3 5)) (f1 (aJ 3 5)) (g0 (aJ 3 5)) (g1 (aJ 3 5)) (aB fi f0 f1 g0 g1 [c0,c1,c2] 3 5).1 (aB fi f0 f1 g0 g1 [c0,c1,c2] 3 5).2∧cY true (aB fi f0 f1 g0 g1 [c0,c1,c2] 3 5).1 (aB fi f0 f1 g0 g1 [c0,c1,c2] 3 5).2 p0 p1=bP (bE 3 5) p0 p1 p0 p1 (aB fi f0 f1 g0 g1 [c0,c1,c2] 3 5).1 (aB fi f0 f1 g0 g1 [c0,c1,c2] 3 5).2∧cY false (aB fi f0 f1 g0 g1 [c0,c1,c2] 3 5).1 (aB fi f0 f1 g0 g1 [c0,c1,c2] 3 5).2 p0 p1=bP (fi (aJ 3 4)) (f0 (aJ 3 4)) (f1 (aJ 3 4)) p0 p1 (aB fi f0 f1 g0 g1 [c0,c1,c2] 3 5).1 (aB fi f0 f1 g0 g1 [c0,c1,c2] 3 5).2:=⟨by kernel_rfl,by kernel_rfl,by kernel_rfl⟩
theorem yJK (c0 c1 c2 c3:PV):wY e aC aP aL (aB fi f0 f1 g0 g1 [c0,c1,c2,c3] 4 0).1 (aB fi f0 f1 g0 g1 [c0,c1,c2,c3] 4 0).2 K=gI aP aL f0 f1 [c0,c1,c2,c3] 4 0 (aB fi f0 f1 g0 g1 [c0,c1,c2,c3] 4 0).1 (aB fi f0 f1 g0 g1 [c0,c1,c2,c3] 4 0).2 K:=by kernel_rfl
theorem V3 (c0 c1 c2 c3:PV):bT fi f0 f1 g0 g1 (aB fi f0 f1 g0 g1 [c0,c1,c2,c3] 4 0).1 (aB fi f0 f1 g0 g1 [c0,c1,c2,c3] 4 0).2=bP (fi (aJ 4 0)) (f0 (aJ 4 0)) (f1 (aJ 4 0)) (g0 (aJ 4 0)) (g1 (aJ 4 0)) (aB fi f0 f1 g0 g1 [c0,c1,c2,c3] 4 0).1 (aB fi f0 f1 g0 g1 [c0,c1,c2,c3] 4 0).2∧cY true (aB fi f0 f1 g0 g1 [c0,c1,c2,c3] 4 0).1 (aB fi f0 f1 g0 g1 [c0,c1,c2,c3] 4 0).2 p0 p1=bP (bE 4 0) p0 p1 p0 p1 (aB fi f0 f1 g0 g1 [c0,c1,c2,c3] 4 0).1 (aB fi f0 f1 g0 g1 [c0,c1,c2,c3] 4 0).2:=⟨by kernel_rfl,by kernel_rfl⟩
theorem yJL (c0 c1 c2 c3:PV):wY e aC aP aL (aB fi f0 f1 g0 g1 [c0,c1,c2,c3] 4 1).1 (aB fi f0 f1 g0 g1 [c0,c1,c2,c3] 4 1).2 K=gI aP aL f0 f1 [c0,c1,c2,c3] 4 1 (aB fi f0 f1 g0 g1 [c0,c1,c2,c3] 4 1).1 (aB fi f0 f1 g0 g1 [c0,c1,c2,c3] 4 1).2 K:=by kernel_rfl
theorem VA (c0 c1 c2 c3:PV):bT fi f0 f1 g0 g1 (aB fi f0 f1 g0 g1 [c0,c1,c2,c3] 4 1).1 (aB fi f0 f1 g0 g1 [c0,c1,c2,c3] 4 1).2=bP (fi (aJ 4 1)) (f0 (aJ 4 1)) (f1 (aJ 4 1)) (g0 (aJ 4 1)) (g1 (aJ 4 1)) (aB fi f0 f1 g0 g1 [c0,c1,c2,c3] 4 1).1 (aB fi f0 f1 g0 g1 [c0,c1,c2,c3] 4 1).2∧cY true (aB fi f0 f1 g0 g1 [c0,c1,c2,c3] 4 1).1 (aB fi f0 f1 g0 g1 [c0,c1,c2,c3] 4 1).2 p0 p1=bP (bE 4 1) p0 p1 p0 p1 (aB fi f0 f1 g0 g1 [c0,c1,c2,c3] 4 1).1 (aB fi f0 f1 g0 g1 [c0,c1,c2,c3] 4 1).2∧cY false (aB fi f0 f1 g0 g1 [c0,c1,c2,c3] 4 1).1 (aB fi f0 f1 g0 g1 [c0,c1,c2,c3] 4 1).2 p0 p1=bP (fi (aJ 4 0)) (f0 (aJ 4 0)) (f1 (aJ 4 0)) p0 p1 (aB fi f0 f1 g0 g1 [c0,c1,c2,c3] 4 1).1 (aB fi f0 f1 g0 g1 [c0,c1,c2,c3] 4 1).2:=⟨by kernel_rfl,by kernel_rfl,by kernel_rfl⟩
theorem yJM (c0 c1 c2 c3:PV):wY e aC aP aL (aB fi f0 f1 g0 g1 [c0,c1,c2,c3] 4 2).1 (aB fi f0 f1 g0 g1 [c0,c1,c2,c3] 4 2).2 K=gI aP aL f0 f1 [c0,c1,c2,c3] 4 2 (aB fi f0 f1 g0 g1 [c0,c1,c2,c3] 4 2).1 (aB fi f0 f1 g0 g1 [c0,c1,c2,c3] 4 2).2 K:=by kernel_rfl
theorem VB (c0 c1 c2 c3:PV):bT fi f0 f1 g0 g1 (aB fi f0 f1 g0 g1 [c0,c1,c2,c3] 4 2).1 (aB fi f0 f1 g0 g1 [c0,c1,c2,c3] 4 2).2=bP (fi (aJ 4 2)) (f0 (aJ 4 2)) (f1 (aJ 4 2)) (g0 (aJ 4 2)) (g1 (aJ 4 2)) (aB fi f0 f1 g0 g1 [c0,c1,c2,c3] 4 2).1 (aB fi f0 f1 g0 g1 [c0,c1,c2,c3] 4 2).2∧cY true (aB fi f0 f1 g0 g1 [c0,c1,c2,c3] 4 2).1 (aB fi f0 f1 g0 g1 [c0,c1,c2,c3] 4 2).2 p0 p1=bP (bE 4 2) p0 p1 p0 p1 (aB fi f0 f1 g0 g1 [c0,c1,c2,c3] 4 2).1 (aB fi f0 f1 g0 g1 [c0,c1,c2,c3] 4 2).2∧cY false (aB fi f0 f1 g0 g1 [c0,c1,c2,c3] 4 2).1 (aB fi f0 f1 g0 g1 [c0,c1,c2,c3] 4 2).2 p0 p1=bP (fi (aJ 4 1)) (f0 (aJ 4 1)) (f1 (aJ 4 1)) p0 p1 (aB fi f0 f1 g0 g1 [c0,c1,c2,c3] 4 2).1 (aB fi f0 f1 g0 g1 [c0,c1,c2,c3] 4 2).2:=⟨by kernel_rfl,by kernel_rfl,by kernel_rfl⟩
theorem yJN (c0 c1 c2 c3:PV):wY e aC aP aL (aB fi f0 f1 g0 g1 [c0,c1,c2,c3] 4 3).1 (aB fi f0 f1 g0 g1 [c0,c1,c2,c3] 4 3).2 K=gI aP aL f0 f1 [c0,c1,c2,c3] 4 3 (aB fi f0 f1 g0 g1 [c0,c1,c2,c3] 4 3).1 (aB fi f0 f1 g0 g1 [c0,c1,c2,c3] 4 3).2 K:=by kernel_rfl
theorem VD (c0 c1 c2 c3:PV):bT fi f0 f1 g0 g1 (aB fi f0 f1 g0 g1 [c0,c1,c2,c3] 4 3).1 (aB fi f0 f1 g0 g1 [c0,c1,c2,c3] 4 3).2=bP (fi (aJ 4 3)) (f0 (aJ 4 3)) (f1 (aJ 4 3)) (g0 (aJ 4 3)) (g1 (aJ 4 3)) (aB fi f0 f1 g0 g1 [c0,c1,c2,c3] 4 3).1 (aB fi f0 f1 g0 g1 [c0,c1,c2,c3] 4 3).2∧cY true (aB fi f0 f1 g0 g1 [c0,c1,c2,c3] 4 3).1 (aB fi f0 f1 g0 g1 [c0,c1,c2,c3] 4 3).2 p0 p1=bP (bE 4 3) p0 p1 p0 p1 (aB fi f0 f1 g0 g1 [c0,c1,c2,c3] 4 3).1 (aB fi f0 f1 g0 g1 [c0,c1,c2,c3] 4 3).2∧cY false (aB fi f0 f1 g0 g1 [c0,c1,c2,c3] 4 3).1 (aB fi f0 f1 g0 g1 [c0,c1,c2,c3] 4 3).2 p0 p1=bP (fi (aJ 4 2)) (f0 (aJ 4 2)) (f1 (aJ 4 2)) p0 p1 (aB fi f0 f1 g0 g1 [c0,c1,c2,c3] 4 3).1 (aB fi f0 f1 g0 g1 [c0,c1,c2,c3] 4 3).2:=⟨by kernel_rfl,by kernel_rfl,by kernel_rfl⟩
theorem yJO (c0 c1 c2 c3:PV):wY e aC aP aL (aB fi f0 f1 g0 g1 [c0,c1,c2,c3] 4 4).1 (aB fi f0 f1 g0 g1 [c0,c1,c2,c3] 4 4).2 K=gI aP aL f0 f1 [c0,c1,c2,c3] 4 4 (aB fi f0 f1 g0 g1 [c0,c1,c2,c3] 4 4).1 (aB fi f0 f1 g0 g1 [c0,c1,c2,c3] 4 4).2 K:=by kernel_rfl
theorem VE (c0 c1 c2 c3:PV):bT fi f0 f1 g0 g1 (aB fi f0 f1 g0 g1 [c0,c1,c2,c3] 4 4).1 (aB fi f0 f1 g0 g1 [c0,c1,c2,c3] 4 4).2=bP (fi (aJ 4 4)) (f0 (aJ 4 4)) (f1 (aJ 4 4)) (g0 (aJ 4 4)) (g1 (aJ 4 4)) (aB fi f0 f1 g0 g1 [c0,c1,c2,c3] 4 4).1 (aB fi f0 f1 g0 g1 [c0,c1,c2,c3] 4 4).2∧cY true (aB fi f0 f1 g0 g1 [c0,c1,c2,c3] 4 4).1 (aB fi f0 f1 g0 g1 [c0,c1,c2,c3] 4 4).2 p0 p1=bP (bE 4 4) p0 p1 p0 p1 (aB fi f0 f1 g0 g1 [c0,c1,c2,c3] 4 4).1 (aB fi f0 f1 g0 g1 [c0,c1,c2,c3] 4 4).2∧cY false (aB fi f0 f1 g0 g1 [c0,c1,c2,c3] 4 4).1 (aB fi f0 f1 g0 g1 [c0,c1,c2,c3] 4 4).2 p0 p1=bP (fi (aJ 4 3)) (f0 (aJ 4 3)) (f1 (aJ 4 3)) p0 p1 (aB fi f0 f1 g0 g1 [c0,c1,c2,c3] 4 4).1 (aB fi f0 f1 g0 g1 [c0,c1,c2,c3] 4 4).2:=⟨by kernel_rfl,by kernel_rfl,by kernel_rfl⟩
theorem yJP (c0 c1 c2 c3:PV):wY e aC aP aL (aB fi f0 f1 g0 g1 [c0,c1,c2,c3] 4 5).1 (aB fi f0 f1 g0 g1 [c0,c1,c2,c3] 4 5).2 K=gI aP aL f0 f1 [c0,c1,c2,c3] 4 5 (aB fi f0 f1 g0 g1 [c0,c1,c2,c3] 4 5).1 (aB fi f0 f1 g0 g1 [c0,c1,c2,c3] 4 5).2 K:=by kernel_rfl
theorem VF (c0 c1 c2 c3:PV):bT fi f0 f1 g0 g1 (aB fi f0 f1 g0 g1 [c0,c1,c2,c3] 4 5).1 (aB fi f0 f1 g0 g1 [c0,c1,c2,c3] 4 5).2=bP (fi (aJ 4 5)) (f0 (aJ 4 5)) (f1 (aJ 4 5)) (g0 (aJ 4 5)) (g1 (aJ 4 5)) (aB fi f0 f1 g0 g1 [c0,c1,c2,c3] 4 5).1 (aB fi f0 f1 g0 g1 [c0,c1,c2,c3] 4 5).2∧cY true (aB fi f0 f1 g0 g1 [c0,c1,c2,c3] 4 5).1 (aB fi f0 f1 g0 g1 [c0,c1,c2,c3] 4 5).2 p0 p1=bP (bE 4 5) p0 p1 p0 p1 (aB fi f0 f1 g0 g1 [c0,c1,c2,c3] 4 5).1 (aB fi f0 f1 g0 g1 [c0,c1,c2,c3] 4 5).2∧cY false (aB fi f0 f1 g0 g1 [c0,c1,c2,c3] 4 5).1 (aB fi f0 f1 g0 g1 [c0,c1,c2,c3] 4 5).2 p0 p1=bP (fi (aJ 4 4)) (f0 (aJ 4 4)) (f1 (aJ 4 4)) p0 p1 (aB fi f0 f1 g0 g1 [c0,c1,c2,c3] 4 5).1 (aB fi f0 f1 g0 g1 [c0,c1,c2,c3] 4 5).2:=⟨by kernel_rfl,by kernel_rfl,by kernel_rfl⟩
theorem yJQ (c0 c1 c2 c3:PV):wY e aC aP aL (aB fi f0 f1 g0 g1 [c0,c1,c2,c3] 4 6).1 (aB fi f0 f1 g0 g1 [c0,c1,c2,c3] 4 6).2 K=gI aP aL f0 f1 [c0,c1,c2,c3] 4 6 (aB fi f0 f1 g0 g1 [c0,c1,c2,c3] 4 6).1 (aB fi f0 f1 g0 g1 [c0,c1,c2,c3] 4 6).2 K:=by kernel_rfl
theorem VG (c0 c1 c2 c3:PV):bT fi f0 f1 g0 g1 (aB fi f0 f1 g0 g1 [c0,c1,c2,c3] 4 6).1 (aB fi f0 f1 g0 g1 [c0,c1,c2,c3] 4 6).2=bP (fi (aJ 4 6)) (f0 (aJ 4 6)) (f1 (aJ 4 6)) (g0 (aJ 4 6)) (g1 (aJ 4 6)) (aB fi f0 f1 g0 g1 [c0,c1,c2,c3] 4 6).1 (aB fi f0 f1 g0 g1 [c0,c1,c2,c3] 4 6).2∧cY true (aB fi f0 f1 g0 g1 [c0,c1,c2,c3] 4 6).1 (aB fi f0 f1 g0 g1 [c0,c1,c2,c3] 4 6).2 p0 p1=bP (bE 4 6) p0 p1 p0 p1 (aB fi f0 f1 g0 g1 [c0,c1,c2,c3] 4 6).1 (aB fi f0 f1 g0 g1 [c0,c1,c2,c3] 4 6).2∧cY false (aB fi f0 f1 g0 g1 [c0,c1,c2,c3] 4 6).1 (aB fi f0 f1 g0 g1 [c0,c1,c2,c3] 4 6).2 p0 p1=bP (fi (aJ 4 5)) (f0 (aJ 4 5)) (f1 (aJ 4 5)) p0 p1 (aB fi f0 f1 g0 g1 [c0,c1,c2,c3] 4 6).1 (aB fi f0 f1 g0 g1 [c0,c1,c2,c3] 4 6).2:=⟨by kernel_rfl,by kernel_rfl,by kernel_rfl⟩
theorem yJR (c0 c1 c2 c3:PV):wY e aC aP aL (aB fi f0 f1 g0 g1 [c0,c1,c2,c3] 4 7).1 (aB fi f0 f1 g0 g1 [c0,c1,c2,c3] 4 7).2 K=gI aP aL f0 f1 [c0,c1,c2,c3] 4 7 (aB fi f0 f1 g0 g1 [c0,c1,c2,c3] 4 7).1 (aB fi f0 f1 g0 g1 [c0,c1,c2,c3] 4 7).2 K:=by kernel_rfl
theorem VH (c0 c1 c2 c3:PV):bT fi f0 f1 g0 g1 (aB fi f0 f1 g0 g1 [c0,c1,c2,c3] 4 7).1 (aB fi f0 f1 g0 g1 [c0,c1,c2,c3] 4 7).2=bP (fi (aJ 4 7)) (f0 (aJ 4 7)) (f1 (aJ 4 7)) (g0 (aJ 4 7)) (g1 (aJ 4 7)) (aB fi f0 f1 g0 g1 [c0,c1,c2,c3] 4 7).1 (aB fi f0 f1 g0 g1 [c0,c1,c2,c3] 4 7).2∧cY true (aB fi f0 f1 g0 g1 [c0,c1,c2,c3] 4 7).1 (aB fi f0 f1 g0 g1 [c0,c1,c2,c3] 4 7).2 p0 p1=bP (bE 4 7) p0 p1 p0 p1 (aB fi f0 f1 g0 g1 [c0,c1,c2,c3] 4 7).1 (aB fi f0 f1 g0 g1 [c0,c1,c2,c3] 4 7).2∧cY false (aB fi f0 f1 g0 g1 [c0,c1,c2,c3] 4 7).1 (aB fi f0 f1 g0 g1 [c0,c1,c2,c3] 4 7).2 p0 p1=bP (fi (aJ 4 6)) (f0 (aJ 4 6)) (f1 (aJ 4 6)) p0 p1 (aB fi f0 f1 g0 g1 [c0,c1,c2,c3] 4 7).1 (aB fi f0 f1 g0 g1 [c0,c1,c2,c3] 4 7).2:=⟨by kernel_rfl,by kernel_rfl,by kernel_rfl⟩
theorem yJS (c0 c1 c2 c3:PV):wY e aC aP aL (aB fi f0 f1 g0 g1 [c0,c1,c2,c3] 4 8).1 (aB fi f0 f1 g0 g1 [c0,c1,c2,c3] 4 8).2 K=gI aP aL f0 f1 [c0,c1,c2,c3] 4 8 (aB fi f0 f1 g0 g1 [c0,c1,c2,c3] 4 8).1 (aB fi f0 f1 g0 g1 [c0,c1,c2,c3] 4 8).2 K:=by kernel_rfl
theorem VI (c0 c1 c2 c3:PV):bT fi f0 f1 g0 g1 (aB fi f0 f1 g0 g1 [c0,c1,c2,c3] 4 8).1 (aB fi f0 f1 g0 g1 [c0,c1,c2,c3] 4 8).2=bP (fi (aJ 4 8)) (f0 (aJ 4 8)) (f1 (aJ 4 8)) (g0 (aJ 4 8)) (g1 (aJ 4 8)) (aB fi f0 f1 g0 g1 [c0,c1,c2,c3] 4 8).1 (aB fi f0 f1 g0 g1 [c0,c1,c2,c3] 4 8).2∧cY true (aB fi f0 f1 g0 g1 [c0,c1,c2,c3] 4 8).1 (aB fi f0 f1 g0 g1 [c0,c1,c2,c3] 4 8).2 p0 p1=bP (bE 4 8) p0 p1 p0 p1 (aB fi f0 f1 g0 g1 [c0,c1,c2,c3] 4 8).1 (aB fi f0 f1 g0 g1 [c0,c1,c2,c3] 4 8).2∧cY false (aB fi f0 f1 g0 g1 [c0,c1,c2,c3] 4 8).1 (aB fi f0 f1 g0 g1 [c0,c1,c2,c3] 4 8).2 p0 p1=bP (fi (aJ 4 7)) (f0 (aJ 4 7)) (f1 (aJ 4 7)) p0 p1 (aB fi f0 f1 g0 g1 [c0,c1,c2,c3] 4 8).1 (aB fi f0 f1 g0 g1 [c0,c1,c2,c3] 4 8).2:=⟨by kernel_rfl,by kernel_rfl,by kernel_rfl⟩
theorem yJT (c0 c1 c2 c3:PV):wY e aC aP aL (aB fi f0 f1 g0 g1 [c0,c1,c2,c3] 4 9).1 (aB fi f0 f1 g0 g1 [c0,c1,c2,c3] 4 9).2 K=gI aP aL f0 f1 [c0,c1,c2,c3] 4 9 (aB fi f0 f1 g0 g1 [c0,c1,c2,c3] 4 9).1 (aB fi f0 f1 g0 g1 [c0,c1,c2,c3] 4 9).2 K:=by kernel_rfl
theorem VJ (c0 c1 c2 c3:PV):bT fi f0 f1 g0 g1 (aB fi f0 f1 g0 g1 [c0,c1,c2,c3] 4 9).1 (aB fi f0 f1 g0 g1 [c0,c1,c2,c3] 4 9).2=bP (fi (aJ 4 9)) (f0 (aJ 4 9)) (f1 (aJ 4 9)) (g0 (aJ 4 9)) (g1 (aJ 4 9)) (aB fi f0 f1 g0 g1 [c0,c1,c2,c3] 4 9).1 (aB fi f0 f1 g0 g1 [c0,c1,c2,c3] 4 9).2∧cY true (aB fi f0 f1 g0 g1 [c0,c1,c2,c3] 4 9).1 (aB fi f0 f1 g0 g1 [c0,c1,c2,c3] 4 9).2 p0 p1=bP (bE 4 9) p0 p1 p0 p1 (aB fi f0 f1 g0 g1 [c0,c1,c2,c3] 4 9).1 (aB fi f0 f1 g0 g1 [c0,c1,c2,c3] 4 9).2∧cY false (aB fi f0 f1 g0 g1 [c0,c1,c2,c3] 4 9).1 (aB fi f0 f1 g0 g1 [c0,c1,c2,c3] 4 9).2 p0 p1=bP (fi (aJ 4 8)) (f0 (aJ 4 8)) (f1 (aJ 4 8)) p0 p1 (aB fi f0 f1 g0 g1 [c0,c1,c2,c3] 4 9).1 (aB fi f0 f1 g0 g1 [c0,c1,c2,c3] 4 9).2:=⟨by kernel_rfl,by kernel_rfl,by kernel_rfl⟩
theorem yGl (c0 c1 c2 c3:PV):wY e aC aP aL (aB fi f0 f1 g0 g1 [c0,c1,c2,c3] 4 10).1 (aB fi f0 f1 g0 g1 [c0,c1,c2,c3] 4 10).2 K=gI aP aL f0 f1 [c0,c1,c2,c3] 4 10 (aB fi f0 f1 g0 g1 [c0,c1,c2,c3] 4 10).1 (aB fi f0 f1 g0 g1 [c0,c1,c2,c3] 4 10).2 K:=by kernel_rfl
theorem VK (c0 c1 c2 c3:PV):bT fi f0 f1 g0 g1 (aB fi f0 f1 g0 g1 [c0,c1,c2,c3] 4 10).1 (aB fi f0 f1 g0 g1 [c0,c1,c2,c3] 4 10).2=bP (fi (aJ 4 10)) (f0 (aJ 4 10)) (f1 (aJ 4 10)) (g0 (aJ 4 10)) (g1 (aJ 4 10)) (aB fi f0 f1 g0 g1 [c0,c1,c2,c3] 4 10).1 (aB fi f0 f1 g0 g1 [c0,c1,c2,c3] 4 10).2∧cY true (aB fi f0 f1 g0 g1 [c0,c1,c2,c3] 4 10).1 (aB fi f0 f1 g0 g1 [c0,c1,c2,c3] 4 10).2 p0 p1=bP (bE 4 10) p0 p1 p0 p1 (aB fi f0 f1 g0 g1 [c0,c1,c2,c3] 4 10).1 (aB fi f0 f1 g0 g1 [c0,c1,c2,c3] 4 10).2∧cY false (aB fi f0 f1 g0 g1 [c0,c1,c2,c3] 4 10).1 (aB fi f0 f1 g0 g1 [c0,c1,c2,c3] 4 10).2 p0 p1=bP (fi (aJ 4 9)) (f0 (aJ 4 9)) (f1 (aJ 4 9)) p0 p1 (aB fi f0 f1 g0 g1 [c0,c1,c2,c3] 4 10).1 (aB fi f0 f1 g0 g1 [c0,c1,c2,c3] 4 10).2:=⟨by kernel_rfl,by kernel_rfl,by kernel_rfl⟩
theorem yGm (c0 c1 c2 c3:PV):wY e aC aP aL (aB fi f0 f1 g0 g1 [c0,c1,c2,c3] 4 11).1 (aB fi f0 f1 g0 g1 [c0,c1,c2,c3] 4 11).2 K=gI aP aL f0 f1 [c0,c1,c2,c3] 4 11 (aB fi f0 f1 g0 g1 [c0,c1,c2,c3] 4 11).1 (aB fi f0 f1 g0 g1 [c0,c1,c2,c3] 4 11).2 K:=by kernel_rfl
theorem VL (c0 c1 c2 c3:PV):bT fi f0 f1 g0 g1 (aB fi f0 f1 g0 g1 [c0,c1,c2,c3] 4 11).1 (aB fi f0 f1 g0 g1 [c0,c1,c2,c3] 4 11).2=bP (fi (aJ 4 11)) (f0 (aJ 4 11)) (f1 (aJ 4 11)) (g0 (aJ 4 11)) (g1 (aJ 4 11)) (aB fi f0 f1 g0 g1 [c0,c1,c2,c3] 4 11).1 (aB fi f0 f1 g0 g1 [c0,c1,c2,c3] 4 11).2∧cY true (aB fi f0 f1 g0 g1 [c0,c1,c2,c3] 4 11).1 (aB fi f0 f1 g0 g1 [c0,c1,c2,c3] 4 11).2 p0 p1=bP (bE 4 11) p0 p1 p0 p1 (aB fi f0 f1 g0 g1 [c0,c1,c2,c3] 4 11).1 (aB fi f0 f1 g0 g1 [c0,c1,c2,c3] 4 11).2∧cY false (aB fi f0 f1 g0 g1 [c0,c1,c2,c3] 4 11).1 (aB fi f0 f1 g0 g1 [c0,c1,c2,c3] 4 11).2 p0 p1=bP (fi (aJ 4 10)) (f0 (aJ 4 10)) (f1 (aJ 4 10)) p0 p1 (aB fi f0 f1 g0 g1 [c0,c1,c2,c3] 4 11).1 (aB fi f0 f1 g0 g1 [c0,c1,c2,c3] 4 11).2:=⟨by kernel_rfl,by kernel_rfl,by kernel_rfl⟩
theorem yGn (c0 c1 c2 c3:PV):wY e aC aP aL (aB fi f0 f1 g0 g1 [c0,c1,c2,c3] 4 12).1 (aB fi f0 f1 g0 g1 [c0,c1,c2,c3] 4 12).2 K=gI aP aL f0 f1 [c0,c1,c2,c3] 4 12 (aB fi f0 f1 g0 g1 [c0,c1,c2,c3] 4 12).1 (aB fi f0 f1 g0 g1 [c0,c1,c2,c3] 4 12).2 K:=by kernel_rfl
theorem VM (c0 c1 c2 c3:PV):bT fi f0 f1 g0 g1 (aB fi f0 f1 g0 g1 [c0,c1,c2,c3] 4 12).1 (aB fi f0 f1 g0 g1 [c0,c1,c2,c3] 4 12).2=bP (fi (aJ 4 12)) (f0 (aJ 4 12)) (f1 (aJ 4 12)) (g0 (aJ 4 12)) (g1 (aJ 4 12)) (aB fi f0 f1 g0 g1 [c0,c1,c2,c3] 4 12).1 (aB fi f0 f1 g0 g1 [c0,c1,c2,c3] 4 12).2∧cY true (aB fi f0 f1 g0 g1 [c0,c1,c2,c3] 4 12).1 (aB fi f0 f1 g0 g1 [c0,c1,c2,c3] 4 12).2 p0 p1=bP (bE 4 12) p0 p1 p0 p1 (aB fi f0 f1 g0 g1 [c0,c1,c2,c3] 4 12).1 (aB fi f0 f1 g0 g1 [c0,c1,c2,c3] 4 12).2∧cY false (aB fi f0 f1 g0 g1 [c0,c1,c2,c3] 4 12).1 (aB fi f0 f1 g0 g1 [c0,c1,c2,c3] 4 12).2 p0 p1=bP (fi (aJ 4 11)) (f0 (aJ 4 11)) (f1 (aJ 4 11)) p0 p1 (aB fi f0 f1 g0 g1 [c0,c1,c2,c3] 4 12).1 (aB fi f0 f1 g0 g1 [c0,c1,c2,c3] 4 12).2:=⟨by kernel_rfl,by kernel_rfl,by kernel_rfl⟩
theorem yGo (c0 c1 c2 c3:PV):wY e aC aP aL (aB fi f0 f1 g0 g1 [c0,c1,c2,c3] 4 13).1 (aB fi f0 f1 g0 g1 [c0,c1,c2,c3] 4 13).2 K=gI aP aL f0 f1 [c0,c1,c2,c3] 4 13 (aB fi f0 f1 g0 g1 [c0,c1,c2,c3] 4 13).1 (aB fi f0 f1 g0 g1 [c0,c1,c2,c3] 4 13).2 K:=by kernel_rfl
theorem VN (c0 c1 c2 c3:PV):bT fi f0 f1 g0 g1 (aB fi f0 f1 g0 g1 [c0,c1,c2,c3] 4 13).1 (aB fi f0 f1 g0 g1 [c0,c1,c2,c3] 4 13).2=bP (fi (aJ 4 13)) (f0 (aJ 4 13)) (f1 (aJ 4 13)) (g0 (aJ 4 13)) (g1 (aJ 4 13)) (aB fi f0 f1 g0 g1 [c0,c1,c2,c3] 4 13).1 (aB fi f0 f1 g0 g1 [c0,c1,c2,c3] 4 13).2∧cY true (aB fi f0 f1 g0 g1 [c0,c1,c2,c3] 4 13).1 (aB fi f0 f1 g0 g1 [c0,c1,c2,c3] 4 13).2 p0 p1=bP (bE 4 13) p0 p1 p0 p1 (aB fi f0 f1 g0 g1 [c0,c1,c2,c3] 4 13).1 (aB fi f0 f1 g0 g1 [c0,c1,c2,c3] 4 13).2∧cY false (aB fi f0 f1 g0 g1 [c0,c1,c2,c3] 4 13).1 (aB fi f0 f1 g0 g1 [c0,c1,c2,c3] 4 13).2 p0 p1=bP (fi (aJ 4 12)) (f0 (aJ 4 12)) (f1 (aJ 4 12)) p0 p1 (aB fi f0 f1 g0 g1 [c0,c1,c2,c3] 4 13).1 (aB fi f0 f1 g0 g1 [c0,c1,c2,c3] 4 13).2:=⟨by kernel_rfl,by kernel_rfl,by kernel_rfl⟩
theorem yGp (c0 c1 c2 c3:PV):wY e aC aP aL (aB fi f0 f1 g0 g1 [c0,c1,c2,c3] 4 14).1 (aB fi f0 f1 g0 g1 [c0,c1,c2,c3] 4 14).2 K=gI aP aL f0 f1 [c0,c1,c2,c3] 4 14 (aB fi f0 f1 g0 g1 [c0,c1,c2,c3] 4 14).1 (aB fi f0 f1 g0 g1 [c0,c1,c2,c3] 4 14).2 K:=by kernel_rfl
theorem VO (c0 c1 c2 c3:PV):bT fi f0 f1 g0 g1 (aB fi f0 f1 g0 g1 [c0,c1,c2,c3] 4 14).1 (aB fi f0 f1 g0 g1 [c0,c1,c2,c3] 4 14).2=bP (fi (aJ 4 14)) (f0 (aJ 4 14)) (f1 (aJ 4 14)) (g0 (aJ 4 14)) (g1 (aJ 4 14)) (aB fi f0 f1 g0 g1 [c0,c1,c2,c3] 4 14).1 (aB fi f0 f1 g0 g1 [c0,c1,c2,c3] 4 14).2∧cY true (aB fi f0 f1 g0 g1 [c0,c1,c2,c3] 4 14).1 (aB fi f0 f1 g0 g1 [c0,c1,c2,c3] 4 14).2 p0 p1=bP (bE 4 14) p0 p1 p0 p1 (aB fi f0 f1 g0 g1 [c0,c1,c2,c3] 4 14).1 (aB fi f0 f1 g0 g1 [c0,c1,c2,c3] 4 14).2∧cY false (aB fi f0 f1 g0 g1 [c0,c1,c2,c3] 4 14).1 (aB fi f0 f1 g0 g1 [c0,c1,c2,c3] 4 14).2 p0 p1=bP (fi (aJ 4 13)) (f0 (aJ 4 13)) (f1 (aJ 4 13)) p0 p1 (aB fi f0 f1 g0 g1 [c0,c1,c2,c3] 4 14).1 (aB fi f0 f1 g0 g1 [c0,c1,c2,c3] 4 14).2:=⟨by kernel_rfl,by kernel_rfl,by kernel_rfl⟩
theorem yGq (c0 c1 c2 c3:PV):wY e aC aP aL (aB fi f0 f1 g0 g1 [c0,c1,c2,c3] 4 15).1 (aB fi f0 f1 g0 g1 [c0,c1,c2,c3] 4 15).2 K=gI aP aL f0 f1 [c0,c1,c2,c3] 4 15 (aB fi f0 f1 g0 g1 [c0,c1,c2,c3] 4 15).1 (aB fi f0 f1 g0 g1 [c0,c1,c2,c3] 4 15).2 K:=by kernel_rfl
theorem VQ (c0 c1 c2 c3:PV):bT fi f0 f1 g0 g1 (aB fi f0 f1 g0 g1 [c0,c1,c2,c3] 4 15).1 (aB fi f0 f1 g0 g1 [c0,c1,c2,c3] 4 15).2=bP (fi (aJ 4 15)) (f0 (aJ 4 15)) (f1 (aJ 4 15)) (g0 (aJ 4 15)) (g1 (aJ 4 15)) (aB fi f0 f1 g0 g1 [c0,c1,c2,c3] 4 15).1 (aB fi f0 f1 g0 g1 [c0,c1,c2,c3] 4 15).2∧cY true (aB fi f0 f1 g0 g1 [c0,c1,c2,c3] 4 15).1 (aB fi f0 f1 g0 g1 [c0,c1,c2,c3] 4 15).2 p0 p1=bP (bE 4 15) p0 p1 p0 p1 (aB fi f0 f1 g0 g1 [c0,c1,c2,c3] 4 15).1 (aB fi f0 f1 g0 g1 [c0,c1,c2,c3] 4 15).2∧cY false (aB fi f0 f1 g0 g1 [c0,c1,c2,c3] 4 15).1 (aB fi f0 f1 g0 g1 [c0,c1,c2,c3] 4 15).2 p0 p1=bP (fi (aJ 4 14)) (f0 (aJ 4 14)) (f1 (aJ 4 14)) p0 p1 (aB fi f0 f1 g0 g1 [c0,c1,c2,c3] 4 15).1 (aB fi f0 f1 g0 g1 [c0,c1,c2,c3] 4 15).2:=⟨by kernel_rfl,by kernel_rfl,by kernel_rfl⟩
theorem yGr (c0 c1 c2 c3:PV):wY e aC aP aL (aB fi f0 f1 g0 g1 [c0,c1,c2,c3] 4 16).1 (aB fi f0 f1 g0 g1 [c0,c1,c2,c3] 4 16).2 K=gI aP aL f0 f1 [c0,c1,c2,c3] 4 16 (aB fi f0 f1 g0 g1 [c0,c1,c2,c3] 4 16).1 (aB fi f0 f1 g0 g1 [c0,c1,c2,c3] 4 16).2 K:=by kernel_rfl
theorem VS (c0 c1 c2 c3:PV):bT fi f0 f1 g0 g1 (aB fi f0 f1 g0 g1 [c0,c1,c2,c3] 4 16).1 (aB fi f0 f1 g0 g1 [c0,c1,c2,c3] 4 16).2=bP (fi (aJ 4 16)) (f0 (aJ 4 16)) (f1 (aJ 4 16)) (g0 (aJ 4 16)) (g1 (aJ 4 16)) (aB fi f0 f1 g0 g1 [c0,c1,c2,c3] 4 16).1 (aB fi f0 f1 g0 g1 [c0,c1,c2,c3] 4 16).2∧cY true (aB fi f0 f1 g0 g1 [c0,c1,c2,c3] 4 16).1 (aB fi f0 f1 g0 g1 [c0,c1,c2,c3] 4 16).2 p0 p1=bP (bE 4 16) p0 p1 p0 p1 (aB fi f0 f1 g0 g1 [c0,c1,c2,c3] 4 16).1 (aB fi f0 f1 g0 g1 [c0,c1,c2,c3] 4 16).2∧cY false (aB fi f0 f1 g0 g1 [c0,c1,c2,c3] 4 16).1 (aB fi f0 f1 g0 g1 [c0,c1,c2,c3] 4 16).2 p0 p1=bP (fi (aJ 4 15)) (f0 (aJ 4 15)) (f1 (aJ 4 15)) p0 p1 (aB fi f0 f1 g0 g1 [c0,c1,c2,c3] 4 16).1 (aB fi f0 f1 g0 g1 [c0,c1,c2,c3] 4 16).2:=⟨by kernel_rfl,by kernel_rfl,by kernel_rfl⟩
theorem yGs (c0 c1 c2 c3:PV):wY e aC aP aL (aB fi f0 f1 g0 g1 [c0,c1,c2,c3] 4 17).1 (aB fi f0 f1 g0 g1 [c0,c1,c2,c3] 4 17).2 K=gI aP aL f0 f1 [c0,c1,c2,c3] 4 17 (aB fi f0 f1 g0 g1 [c0,c1,c2,c3] 4 17).1 (aB fi f0 f1 g0 g1 [c0,c1,c2,c3] 4 17).2 K:=by kernel_rfl
theorem VT (c0 c1 c2 c3:PV):bT fi f0 f1 g0 g1 (aB fi f0 f1 g0 g1 [c0,c1,c2,c3] 4 17).1 (aB fi f0 f1 g0 g1 [c0,c1,c2,c3] 4 17).2=bP (fi (aJ 4 17)) (f0 (aJ 4 17)) (f1 (aJ 4 17)) (g0 (aJ 4 17)) (g1 (aJ 4 17)) (aB fi f0 f1 g0 g1 [c0,c1,c2,c3] 4 17).1 (aB fi f0 f1 g0 g1 [c0,c1,c2,c3] 4 17).2∧cY true (aB fi f0 f1 g0 g1 [c0,c1,c2,c3] 4 17).1 (aB fi f0 f1 g0 g1 [c0,c1,c2,c3] 4 17).2 p0 p1=bP (bE 4 17) p0 p1 p0 p1 (aB fi f0 f1 g0 g1 [c0,c1,c2,c3] 4 17).1 (aB fi f0 f1 g0 g1 [c0,c1,c2,c3] 4 17).2∧cY false (aB fi f0 f1 g0 g1 [c0,c1,c2,c3] 4 17).1 (aB fi f0 f1 g0 g1 [c0,c1,c2,c3] 4 17).2 p0 p1=bP (fi (aJ 4 16)) (f0 (aJ 4 16)) (f1 (aJ 4 16)) p0 p1 (aB fi f0 f1 g0 g1 [c0,c1,c2,c3] 4 17).1 (aB fi f0 f1 g0 g1 [c0,c1,c2,c3] 4 17).2:=⟨by kernel_rfl,by kernel_rfl,by kernel_rfl⟩
theorem yGt (c0 c1 c2 c3:PV):wY e aC aP aL (aB fi f0 f1 g0 g1 [c0,c1,c2,c3] 4 18).1 (aB fi f0 f1 g0 g1 [c0,c1,c2,c3] 4 18).2 K=gI aP aL f0 f1 [c0,c1,c2,c3] 4 18 (aB fi f0 f1 g0 g1 [c0,c1,c2,c3] 4 18).1 (aB fi f0 f1 g0 g1 [c0,c1,c2,c3] 4 18).2 K:=by kernel_rfl
theorem VU (c0 c1 c2 c3:PV):bT fi f0 f1 g0 g1 (aB fi f0 f1 g0 g1 [c0,c1,c2,c3] 4 18).1 (aB fi f0 f1 g0 g1 [c0,c1,c2,c3] 4 18).2=bP (fi (aJ 4 18)) (f0 (aJ 4 18)) (f1 (aJ 4 18)) (g0 (aJ 4 18)) (g1 (aJ 4 18)) (aB fi f0 f1 g0 g1 [c0,c1,c2,c3] 4 18).1 (aB fi f0 f1 g0 g1 [c0,c1,c2,c3] 4 18).2∧cY true (aB fi f0 f1 g0 g1 [c0,c1,c2,c3] 4 18).1 (aB fi f0 f1 g0 g1 [c0,c1,c2,c3] 4 18).2 p0 p1=bP (bE 4 18) p0 p1 p0 p1 (aB fi f0 f1 g0 g1 [c0,c1,c2,c3] 4 18).1 (aB fi f0 f1 g0 g1 [c0,c1,c2,c3] 4 18).2∧cY false (aB fi f0 f1 g0 g1 [c0,c1,c2,c3] 4 18).1 (aB fi f0 f1 g0 g1 [c0,c1,c2,c3] 4 18).2 p0 p1=bP (fi (aJ 4 17)) (f0 (aJ 4 17)) (f1 (aJ 4 17)) p0 p1 (aB fi f0 f1 g0 g1 [c0,c1,c2,c3] 4 18).1 (aB fi f0 f1 g0 g1 [c0,c1,c2,c3] 4 18).2:=⟨by kernel_rfl,by kernel_rfl,by kernel_rfl⟩
theorem yGu (c0 c1 c2 c3:PV):wY e aC aP aL (aB fi f0 f1 g0 g1 [c0,c1,c2,c3] 4 19).1 (aB fi f0 f1 g0 g1 [c0,c1,c2,c3] 4 19).2 K=gI aP aL f0 f1 [c0,c1,c2,c3] 4 19 (aB fi f0 f1 g0 g1 [c0,c1,c2,c3] 4 19).1 (aB fi f0 f1 g0 g1 [c0,c1,c2,c3] 4 19).2 K:=by kernel_rfl
theorem VV (c0 c1 c2 c3:PV):bT fi f0 f1 g0 g1 (aB fi f0 f1 g0 g1 [c0,c1,c2,c3] 4 19).1 (aB fi f0 f1 g0 g1 [c0,c1,c2,c3] 4 19).2=bP (fi (aJ 4 19)) (f0 (aJ 4 19)) (f1 (aJ 4 19)) (g0 (aJ 4 19)) (g1 (aJ 4 19)) (aB fi f0 f1 g0 g1 [c0,c1,c2,c3] 4 19).1 (aB fi f0 f1 g0 g1 [c0,c1,c2,c3] 4 19).2∧cY true (aB fi f0 f1 g0 g1 [c0,c1,c2,c3] 4 19).1 (aB fi f0 f1 g0 g1 [c0,c1,c2,c3] 4 19).2 p0 p1=bP (bE 4 19) p0 p1 p0 p1 (aB fi f0 f1 g0 g1 [c0,c1,c2,c3] 4 19).1 (aB fi f0 f1 g0 g1 [c0,c1,c2,c3] 4 19).2∧cY false (aB fi f0 f1 g0 g1 [c0,c1,c2,c3] 4 19).1 (aB fi f0 f1 g0 g1 [c0,c1,c2,c3] 4 19).2 p0 p1=bP (fi (aJ 4 18)) (f0 (aJ 4 18)) (f1 (aJ 4 18)) p0 p1 (aB fi f0 f1 g0 g1 [c0,c1,c2,c3] 4 19).1 (aB fi f0 f1 g0 g1 [c0,c1,c2,c3] 4 19).2:=⟨by kernel_rfl,by kernel_rfl,by kernel_rfl⟩
theorem yGv (c0 c1 c2 c3:PV):wY e aC aP aL (aB fi f0 f1 g0 g1 [c0,c1,c2,c3] 4 20).1 (aB fi f0 f1 g0 g1 [c0,c1,c2,c3] 4 20).2 K=gI aP aL f0 f1 [c0,c1,c2,c3] 4 20 (aB fi f0 f1 g0 g1 [c0,c1,c2,c3] 4 20).1 (aB fi f0 f1 g0 g1 [c0,c1,c2,c3] 4 20).2 K:=by kernel_rfl
theorem VW (c0 c1 c2 c3:PV):bT fi f0 f1 g0 g1 (aB fi f0 f1 g0 g1 [c0,c1,c2,c3] 4 20).1 (aB fi f0 f1 g0 g1 [c0,c1,c2,c3] 4 20).2=bP (fi (aJ 4 20)) (f0 (aJ 4 20)) (f1 (aJ 4 20)) (g0 (aJ 4 20)) (g1 (aJ 4 20)) (aB fi f0 f1 g0 g1 [c0,c1,c2,c3] 4 20).1 (aB fi f0 f1 g0 g1 [c0,c1,c2,c3] 4 20).2∧cY true (aB fi f0 f1 g0 g1 [c0,c1,c2,c3] 4 20).1 (aB fi f0 f1 g0 g1 [c0,c1,c2,c3] 4 20).2 p0 p1=bP (bE 4 20) p0 p1 p0 p1 (aB fi f0 f1 g0 g1 [c0,c1,c2,c3] 4 20).1 (aB fi f0 f1 g0 g1 [c0,c1,c2,c3] 4 20).2∧cY false (aB fi f0 f1 g0 g1 [c0,c1,c2,c3] 4 20).1 (aB fi f0 f1 g0 g1 [c0,c1,c2,c3] 4 20).2 p0 p1=bP (fi (aJ 4 19)) (f0 (aJ 4 19)) (f1 (aJ 4 19)) p0 p1 (aB fi f0 f1 g0 g1 [c0,c1,c2,c3] 4 20).1 (aB fi f0 f1 g0 g1 [c0,c1,c2,c3] 4 20).2:=⟨by kernel_rfl,by kernel_rfl,by kernel_rfl⟩
theorem yGw (c0 c1 c2 c3:PV):wY e aC aP aL (aB fi f0 f1 g0 g1 [c0,c1,c2,c3] 4 21).1 (aB fi f0 f1 g0 g1 [c0,c1,c2,c3] 4 21).2 K=gI aP aL f0 f1 [c0,c1,c2,c3] 4 21 (aB fi f0 f1 g0 g1 [c0,c1,c2,c3] 4 21).1 (aB fi f0 f1 g0 g1 [c0,c1,c2,c3] 4 21).2 K:=by kernel_rfl
theorem VX (c0 c1 c2 c3:PV):bT fi f0 f1 g0 g1 (aB fi f0 f1 g0 g1 [c0,c1,c2,c3] 4 21).1 (aB fi f0 f1 g0 g1 [c0,c1,c2,c3] 4 21).2=bP (fi (aJ 4 21)) (f0 (aJ 4 21)) (f1 (aJ 4 21)) (g0 (aJ 4 21)) (g1 (aJ 4 21)) (aB fi f0 f1 g0 g1 [c0,c1,c2,c3] 4 21).1 (aB fi f0 f1 g0 g1 [c0,c1,c2,c3] 4 21).2∧cY true (aB fi f0 f1 g0 g1 [c0,c1,c2,c3] 4 21).1 (aB fi f0 f1 g0 g1 [c0,c1,c2,c3] 4 21).2 p0 p1=bP (bE 4 21) p0 p1 p0 p1 (aB fi f0 f1 g0 g1 [c0,c1,c2,c3] 4 21).1 (aB fi f0 f1 g0 g1 [c0,c1,c2,c3] 4 21).2∧cY false (aB fi f0 f1 g0 g1 [c0,c1,c2,c3] 4 21).1 (aB fi f0 f1 g0 g1 [c0,c1,c2,c3] 4 21).2 p0 p1=bP (fi (aJ 4 20)) (f0 (aJ 4 20)) (f1 (aJ 4 20)) p0 p1 (aB fi f0 f1 g0 g1 [c0,c1,c2,c3] 4 21).1 (aB fi f0 f1 g0 g1 [c0,c1,c2,c3] 4 21).2:=⟨by kernel_rfl,by kernel_rfl,by kernel_rfl⟩
theorem yGx (c0 c1 c2 c3:PV):wY e aC aP aL (aB fi f0 f1 g0 g1 [c0,c1,c2,c3] 4 22).1 (aB fi f0 f1 g0 g1 [c0,c1,c2,c3] 4 22).2 K=gI aP aL f0 f1 [c0,c1,c2,c3] 4 22 (aB fi f0 f1 g0 g1 [c0,c1,c2,c3] 4 22).1 (aB fi f0 f1 g0 g1 [c0,c1,c2,c3] 4 22).2 K:=by kernel_rfl
theorem VY (c0 c1 c2 c3:PV):bT fi f0 f1 g0 g1 (aB fi f0 f1 g0 g1 [c0,c1,c2,c3] 4 22).1 (aB fi f0 f1 g0 g1 [c0,c1,c2,c3] 4 22).2=bP (fi (aJ 4 22)) (f0 (aJ 4 22)) (f1 (aJ 4 22)) (g0 (aJ 4 22)) (g1 (aJ 4 22)) (aB fi f0 f1 g0 g1 [c0,c1,c2,c3] 4 22).1 (aB fi f0 f1 g0 g1 [c0,c1,c2,c3] 4 22).2∧cY true (aB fi f0 f1 g0 g1 [c0,c1,c2,c3] 4 22).1 (aB fi f0 f1 g0 g1 [c0,c1,c2,c3] 4 22).2 p0 p1=bP (bE 4 22) p0 p1 p0 p1 (aB fi f0 f1 g0 g1 [c0,c1,c2,c3] 4 22).1 (aB fi f0 f1 g0 g1 [c0,c1,c2,c3] 4 22).2∧cY false (aB fi f0 f1 g0 g1 [c0,c1,c2,c3] 4 22).1 (aB fi f0 f1 g0 g1 [c0,c1,c2,c3] 4 22).2 p0 p1=bP (fi (aJ 4 21)) (f0 (aJ 4 21)) (f1 (aJ 4 21)) p0 p1 (aB fi f0 f1 g0 g1 [c0,c1,c2,c3] 4 22).1 (aB fi f0 f1 g0 g1 [c0,c1,c2,c3] 4 22).2:=⟨by kernel_rfl,by kernel_rfl,by kernel_rfl⟩
theorem yGy (c0 c1 c2 c3:PV):wY e aC aP aL (aB fi f0 f1 g0 g1 [c0,c1,c2,c3] 4 23).1 (aB fi f0 f1 g0 g1 [c0,c1,c2,c3] 4 23).2 K=gI aP aL f0 f1 [c0,c1,c2,c3] 4 23 (aB fi f0 f1 g0 g1 [c0,c1,c2,c3] 4 23).1 (aB fi f0 f1 g0 g1 [c0,c1,c2,c3] 4 23).2 K:=by kernel_rfl
theorem VZ (c0 c1 c2 c3:PV):bT fi f0 f1 g0 g1 (aB fi f0 f1 g0 g1 [c0,c1,c2,c3] 4 23).1 (aB fi f0 f1 g0 g1 [c0,c1,c2,c3] 4 23).2=bP (fi (aJ 4 23)) (f0 (aJ 4 23)) (f1 (aJ 4 23)) (g0 (aJ 4 23)) (g1 (aJ 4 23)) (aB fi f0 f1 g0 g1 [c0,c1,c2,c3] 4 23).1 (aB fi f0 f1 g0 g1 [c0,c1,c2,c3] 4 23).2∧cY true (aB fi f0 f1 g0 g1 [c0,c1,c2,c3] 4 23).1 (aB fi f0 f1 g0 g1 [c0,c1,c2,c3] 4 23).2 p0 p1=bP (bE 4 23) p0 p1 p0 p1 (aB fi f0 f1 g0 g1 [c0,c1,c2,c3] 4 23).1 (aB fi f0 f1 g0 g1 [c0,c1,c2,c3] 4 23).2∧cY false (aB fi f0 f1 g0 g1 [c0,c1,c2,c3] 4 23).1 (aB fi f0 f1 g0 g1 [c0,c1,c2,c3] 4 23).2 p0 p1=bP (fi (aJ 4 22)) (f0 (aJ 4 22)) (f1 (aJ 4 22)) p0 p1 (aB fi f0 f1 g0 g1 [c0,c1,c2,c3] 4 23).1 (aB fi f0 f1 g0 g1 [c0,c1,c2,c3] 4 23).2:=⟨by kernel_rfl,by kernel_rfl,by kernel_rfl⟩
end
theorem V4:∀ {l:List PV},Ew l=true→∃ d:List Int,l=aD d
 | [],_=>⟨[],rfl⟩
 | .int .i64 x::r,h=>by obtain ⟨d,e⟩:=V4 (l:=r) h;exact ⟨x::d,by rw [e];rfl⟩
theorem V5 {x0:List PV→Int→Int→Int→Bool→Prop} {x1:Int→Prop} (d:List Int) (x:Int) (hl:d.length<1000000) {K:Bool→Prop} (k0:x0 (aD d) x d.length d.length false=K false) (k1:∀ j:Nat,x1 (j:Int)=K true):∀ (r i n:Nat),i+r=d.length→r<n→tM x0 x1 n (aD d) x d.length (i:Int)=K (sK x (aD (d.drop i)))
 | 0,i,n+1,hi,hn=>by unfold tM;rw [eE (by omega),show (i:Int)=d.length by omega,nA (by omega)];exact k0
 | r+1,i,n+1,hi,hn=>by
  unfold tM;have e1:=eQ (n:=(i:Int)+1) (by omega) (by omega);dsimp only [lt];rw [eC (by omega),dZ,bB (by omega),bB (by omega),dR,fP (by omega),fG (by omega),e1,kD,tQ 0 (by omega)];show _=K ((x==d.getD i 0)||sK x (aD (d.drop (i+1))))
  by_cases c:x=d.getD i 0
  ·rw [He c,k1,Np c];rfl
  ·rw [Eg c,Hc c,CD];exact V5 d x hl k0 k1 r (i+1) n (by omega) (by omega)
theorem yyM {d:List Int} {x:Int} (hl:d.length<1000000) (K:Bool→Prop):Ca (aD d) x K=K (sK x (aD d)):=by refine qx _ _ _ (fun K k=>?_) K;unfold Ca JG JF JE;rw [dZ];refine ⟨d.length+1,?_⟩;refine (V5 d x hl (K:=K) rfl (fun j=>by show K (decide ((j:Int)≥0))=_;rw [Eb (by omega)]) d.length 0 _ (by omega) (by omega)).mpr ?_;exact k
section
variable {e:Es}
theorem yJU (he:EG e):∀ as K,cnS as K→∃ r,K r∧jH (cB (E e)) Bv as r:=fun as K h=>by
 unfold cnS at h;split at h
 ·rename_i l x;obtain ⟨ha,h⟩:=bZ.1 h;rw [cU] at ha;obtain ⟨d,rfl⟩:=V4 ha.1;have hl:d.length<1000000:=by
   have:=of_eq_true (Nat.blt_eq ▸ eq_true ha.2:((aD d).length<1000)=True);rw [dZ] at this;omega
  obtain ⟨r,hr,hk⟩:=SO e he [.data (aD d),.int .i64 x] (fun r=>r=.bool (sK x (aD d))) (by
   have:∀ w:List PV→Int→(Bool→Prop)→Prop,∀ (a:List PV) (b:Int) (K:PV→Prop),MQ.pw w [.data a,.int .i64 b] K=w a b (fun r=>K (.bool r)):=fun _ _ _ _=>by kernel_rfl
   rw [this,yyM hl])
  subst hr;exact ⟨_,h,hk⟩
 ·exact h.elim
end
theorem SEOk.sub {S:SE} {P:EP} (hP:aX P S.E) (h:SEOk (cB S.E) S):SEOk P S where
 sb:=hP
 sum:=fun n wp hw as K k=>by
  obtain ⟨r,h1,h2⟩:=h.sum n wp hw as K k;exact ⟨r,h1,h2.sub fun _ _ he=>hP _ _ he⟩
 inl:=fun n fn hf=>by
  obtain ⟨h1,h2,h3,h4,h5,h6,h7⟩:=h.inl n fn hf;exact ⟨h1,h2,h3,h4,h5,h6,LpOk.sub (fun n e he=>hP n e he) _ h6 h7⟩
 eff:=h.eff
 sumL:=fun n wp hw as b K k=>by obtain ⟨q,rows,h1,m0,h2⟩:=h.sumL n wp hw as b K k;exact ⟨q,rows,h1,m0,fun k e m k1 k2 k3=>h2 k e m k1 (hP _ _ k2) k3⟩
theorem cF.inl_ {P:EP} {E:Env} (hP:aX P E) {n:Nat} {fn:AFn} (hf:E.fns n=some fn) (he:∀ as H,E.eff n as H=none) {args:List PV} {H:Hp} {K:PV→Hp→Prop} (h1:args.length=fn.nparams)
  (h:cF P fn.body (jY 0 args) H (fun x F' H'=>match x with
   | .exit _ | .brk _ _=>False
   | .norm | .ret=>(match ycF F' H' fn.results with | some ps=>K (lL ps) H' | none=>False))) :
  ∃ r H',K r H'∧∃ m0,∀ k e m,m0≤k→P k e→m0≤m→ya9 e m n args H=some (r,H'):=by
 obtain ⟨x,F',H',hk,m0,hm⟩:=h;have key:(match ycF F' H' fn.results with | some ps=>K (lL ps) H' | none=>False)→(x=.norm∨x=.ret) →
   ∃ r H',K r H'∧∃ m0,∀ k e m,m0≤k→P k e→m0≤m→ya9 e m n args H=some (r,H'):=by
  intro hk hx;split at hk
  ·rename_i ps hps;refine ⟨_,_,hk,m0+1,fun k e m hkl hp hle=>?_⟩;obtain ⟨q,rfl⟩:∃ q,m=q+1:=⟨m-1,by omega⟩;have e0:=hm k e q (by omega) hp (by omega);obtain ⟨l1,_,_,_,_,_,l7⟩:=wL (hP k e hp);simp only [ya9,Env.effx,xV,l7,l1,he,hf,h1,if_true];rw [e0];rcases hx with rfl | rfl<;>simp only [hps]
  ·exact hk.elim
 cases x with
 | norm=>exact key hk (.inl rfl)
 | exit i=>exact hk.elim
 | brk _ _=>exact hk.elim
 | ret=>exact key hk (.inr rfl)
section
variable {e:Es}
abbrev bS (e:Es):SE:=NI e mU nH gX
theorem Wa (he:EG e):SEOk (cB (E e)) (bS e):=cT (aX.uni _) ⟨I0 e he,I2 e he,Ng e he,yJU he,trivial⟩
 ⟨⟨by kernel_rfl,by kernel_rfl,by kernel_rfl,fun as=>lO (by kernel_rfl) _,he.num _ (by kernel_rfl),by kernel_rfl,bW (by kernel_rfl)⟩,trivial⟩ he.ok
theorem yGz (he:EG e) {P:EP} (hP:aX P (E e)):∀ n fn,inlG n=some fn→InlY P (E e) (U9 e) n fn:=by
 intro n fn h;unfold inlG yeG yeG at h
 cases c:Nat.beq Dc n with
 | false=>rw [c] at h;cases h
 | true=>
  rw [c] at h;have:=jT c;subst this
  cases h
  exact ⟨by kernel_rfl,by kernel_rfl,by kernel_rfl,by kernel_rfl,by kernel_rfl,fun as=>lO (by kernel_rfl) _,he.num _ (by kernel_rfl),by kernel_rfl,
   fun cK hg=>fM (l:=[(61763900,.loop 61763900 (jE PR))]) ⟨fun F H Q h=>Kh hP hg (by kernel_rfl) (bW (by kernel_rfl)) h,trivial⟩ (by kernel_rfl)⟩
variable (fi:List PV→Nat) (f0 f1 g0 g1:List PV→Int) (YY:List PV→Hp→Prop)
theorem Wb (n:Nat) {K:Hp→Prop}:∀ (evs:List (List Int)) (H:Hp),(∀ p∈xH fi f0 f1 g0 g1 n evs H,YY p.1 p.2)→K (AH fi f0 f1 g0 g1 n evs H)→AG fi f0 f1 g0 g1 YY n evs H K
 | [],_,_,k=>k
 | p::r,H,h,k=>by
  unfold xH at h;unfold AH at k;unfold AG
  cases c:Nat.beq p.length n with
  | true =>rw [c] at h k;exact ⟨h _ (jU ..),Wb n r _ (fun q hq=>h q (iY _ hq)) k⟩
  | false =>rw [c] at h k;exact Wb n r _ h k
abbrev Ez (e:Es):EP:=Rng (E e) (iI dV) [17] (bM (jE Gw)) (bM (jE Gx))
theorem yLT (he:EG e):dT (Ez e) (E e) (wY e mU nH gX):=
 jy (eJ (Wa he) 4) (by kernel_rfl) (by kernel_rfl) (bW (by kernel_rfl)) (bW (by kernel_rfl))
theorem yLU (he:EG e) (hY:∀ vs H,YY vs H→wY e mU nH gX vs H fun r H'=>r=none∧H'=bT fi f0 f1 g0 g1 vs H) {L:List PV} {n:Nat} {Q:Ex→aG→Hp→Prop}
  (h:wB e mU nH gX fi f0 f1 g0 g1 YY L n Q):cF (Ez e) (bM (Ht Gl).body) (jY 0 [.fn (.yield 0) [] [],.ptr 3 1 0 0]) (vK L n) Q:=by
 unfold wB at h;have hg:=ZJ (S:=bS e) (d0:=4) (SEOk.sub (aX.rng (E e) (iI dV) [17] (bM (jE Gw)) (bM (jE Gx))) (Wa he)) (lj (yLT he) hY) (yGz he (aX.rng _ _ _ _ _)) 8;refine nR (lp:=fun _ _ _ _ _=>False) (Ht Gl).body (Ez e) (aX.rng _ _ _ _ _) hg (cG.flat ?_) [] cJ (dT.no _ _) (bW ?_ ?_) _ _ _ h
 ·kernel_rfl
 ·kernel_rfl
 ·kernel_rfl
end
def V6:TC:=match yF3.body with | .seq a _=>a | _=>.skip
def V7:TC:=match yF3.body with | .seq _ (.seq b _)=>b | _=>.skip
def Hu:TC:=match yF3.body with | .seq _ (.seq _ (.seq (.seq c _) _))=>c | _=>.skip
def gB:TC:=match yF3.body with | .seq _ (.seq _ (.seq _ d))=>d | _=>.skip
theorem V8:yF3.fn.body=.seq (bM (jE V6)) (.seq (bM (jE V7)) (.seq (.seq (bM (jE Hu)) (.block 0 (.rangeF (.t 16) [17] (bM (jE Gw)) (bM (jE Gx))))) (bM (jE gB)))):=by kernel_rfl
def V9:List PV→List Int
 | .int .i64 x::r=>x::V9 r
 | _=>[]
def fI (n:Nat) (rows:List PV):Nat:=((eY n).filter fun p=>Nat.beq p.length n).findIdx fun p=>p==V9 rows
def cA:Nat→Nat
 | 0=>1
 | n+1=>(n+1)*cA n
theorem yJV:fI 1 (aJ 1 0)=0:=by kernel_rfl
theorem yJW:fI 2 (aJ 2 0)=0:=by kernel_rfl
theorem yJX:fI 2 (aJ 2 1)=1:=by kernel_rfl
theorem yJY:fI 3 (aJ 3 0)=0:=by kernel_rfl
theorem yJZ:fI 3 (aJ 3 1)=1:=by kernel_rfl
theorem yJ0:fI 3 (aJ 3 2)=2:=by kernel_rfl
theorem yJ1:fI 3 (aJ 3 3)=3:=by kernel_rfl
theorem yJ2:fI 3 (aJ 3 4)=4:=by kernel_rfl
theorem yJ3:fI 3 (aJ 3 5)=5:=by kernel_rfl
theorem yJ4:fI 4 (aJ 4 0)=0:=by kernel_rfl
theorem yJ5:fI 4 (aJ 4 1)=1:=by kernel_rfl
theorem yJ6:fI 4 (aJ 4 2)=2:=by kernel_rfl
theorem yJ7:fI 4 (aJ 4 3)=3:=by kernel_rfl
theorem yJ8:fI 4 (aJ 4 4)=4:=by kernel_rfl
theorem yJ9:fI 4 (aJ 4 5)=5:=by kernel_rfl
theorem yKa:fI 4 (aJ 4 6)=6:=by kernel_rfl
theorem yKb:fI 4 (aJ 4 7)=7:=by kernel_rfl
theorem yKc:fI 4 (aJ 4 8)=8:=by kernel_rfl
theorem yKd:fI 4 (aJ 4 9)=9:=by kernel_rfl
theorem yGA:fI 4 (aJ 4 10)=10:=by kernel_rfl
theorem yGB:fI 4 (aJ 4 11)=11:=by kernel_rfl
theorem yGC:fI 4 (aJ 4 12)=12:=by kernel_rfl
theorem yGD:fI 4 (aJ 4 13)=13:=by kernel_rfl
theorem yGE:fI 4 (aJ 4 14)=14:=by kernel_rfl
theorem yGF:fI 4 (aJ 4 15)=15:=by kernel_rfl
theorem yGG:fI 4 (aJ 4 16)=16:=by kernel_rfl
theorem yGH:fI 4 (aJ 4 17)=17:=by kernel_rfl
theorem yGI:fI 4 (aJ 4 18)=18:=by kernel_rfl
theorem yGJ:fI 4 (aJ 4 19)=19:=by kernel_rfl
theorem yGK:fI 4 (aJ 4 20)=20:=by kernel_rfl
theorem yGL:fI 4 (aJ 4 21)=21:=by kernel_rfl
theorem yGM:fI 4 (aJ 4 22)=22:=by kernel_rfl
theorem yGN:fI 4 (aJ 4 23)=23:=by kernel_rfl
section
variable (e:Es) (aC:jS) (aP:(List PV→List PV→(Int→Int→Prop)→Prop)) (aL:(Int→Int→Int→Int→(Bool→Prop)→Prop))
variable (fi:List PV→Nat) (f0 f1 g0 g1:List PV→Int)
def wX (c:TC) (F:aG) (H:Hp) (Q:Ex→aG→Hp→Prop):Prop:=WC (E e) (gJ (NI e aC aP aL) 4) (fun _ _ _ _ _=>False) [] cJ (jE c) F H Q
def Ct:aG:=[(1,.v (.ptr 0 1 0 0)),(2,.v (.ptr 1 1 0 0)),(3,.v (.ptr 2 1 0 0)),(4,.v (.int .i64 0))]
def mG (L:List PV):Hp:=[⟨false,false,1,[.data L]⟩,⟨false,false,1,[.nils]⟩,⟨false,false,2,[bH 0 0]⟩]
theorem W0 (L:List PV) (Q:Ex→aG→Hp→Prop):wX e aC aP aL V6 (jY 0 [.data L]) [] Q=Q .norm Ct (mG L):=by kernel_rfl
theorem W5 (L:List PV) (Q:Ex→aG→Hp→Prop):wX e aC aP aL V7 Ct (mG L) Q=aC L fun r=>aM (r !=0) (Q .ret [(2,.v (.ptr 1 1 0 0)),(3,.v (.ptr 2 1 0 0)),(4,.v (.int .i64 r))] (mG L)) (Q .norm (Ct++[(5,.v (.int .i64 r)),(11,.v (.bool false))]) (mG L)):=by kernel_rfl
def fY:List PV:=[.fn (.yield 0) [] []]
def fZ:List PV:=[.fn (.func Dc) [] [.ptr 3 1 0 0,.ptr 4 1 0 0,.ptr 5 1 0 0]]
def cL (K:PV→Prop) (x:Ex) (F':aG) (H':Hp):Prop:=match x with
 | .norm | .ret=>(match ycF F' H' yF3.results with | some ps=>(match purR H' (lL ps) with | some r=>K r | none=>False) | none=>False)
 | _=>False
theorem yLV (L:List PV) (r:Int) (K:PV→Prop):cL K .ret [(2,.v (.ptr 1 1 0 0)),(3,.v (.ptr 2 1 0 0)),(4,.v (.int .i64 r))] (mG L)=K (.tup [.data [],bH 0 0,.int .i64 r]):=by kernel_rfl
def AI (c0:PV) (y4 y5:List PV) (i:Nat) (a b:Int):Hp:=[⟨false,false,1,[.data [c0]]⟩,⟨false,false,1,[.own i 0 1 1 none]⟩,⟨false,false,2,[bH a b]⟩,⟨false,false,1,[.int .i64 1]⟩,⟨false,false,1,y4⟩,⟨false,false,1,y5⟩,⟨false,true,1,aD [0]⟩,⟨false,false,2,[bH (g0 (aD [0])) (g1 (aD [0]))]⟩]
theorem Wc (c0:PV) (Q:Ex→aG→Hp→Prop):wX e aC aP aL Hu (Ct++[(5,.v (.int .i64 0)),(11,.v (.bool false))]) (mG [c0]) Q=Q .norm dV (vK [c0] 1):=by kernel_rfl
theorem Wd (c0:PV):(xH fi f0 f1 g0 g1 1 (eY 1) (oY [c0] 1)).length=1:=by kernel_rfl
theorem We (c0:PV):AH fi f0 f1 g0 g1 1 (eY 1) (oY [c0] 1)=AI g0 g1 c0 fY fZ (fi (aJ 1 0)) (f0 (aJ 1 0)) (f1 (aJ 1 0)):=by kernel_rfl
theorem yKe (c0:PV) (a b:Int):clrY 0 4 (AI g0 g1 c0 fY fZ (bE 1 0) a b)=some (AI g0 g1 c0 [] [] (bE 1 0) a b):=by kernel_rfl
theorem yKf (c0:PV) (a b:Int) (K:PV→Prop):wX e aC aP aL gB dV (AI g0 g1 c0 [] [] (bE 1 0) a b) (cL K)=K (.tup [.data (aJ 1 0),bH a b,.int .i64 0]):=by kernel_rfl
def qE (c0 c1:PV) (y4 y5:List PV) (i:Nat) (a b:Int):Hp:=[⟨false,false,1,[.data [c0,c1]]⟩,⟨false,false,1,[.own i 0 2 2 none]⟩,⟨false,false,2,[bH a b]⟩,⟨false,false,1,[.int .i64 2]⟩,⟨false,false,1,y4⟩,⟨false,false,1,y5⟩,⟨false,true,1,aD [0]⟩,⟨false,true,1,aD [0,1]⟩,⟨false,false,2,[bH (g0 (aD [0,1])) (g1 (aD [0,1]))]⟩,⟨false,true,1,aD [1]⟩,⟨false,true,1,aD [1,0]⟩,⟨false,false,2,[bH (g0 (aD [1,0])) (g1 (aD [1,0]))]⟩]
theorem Wf (c0 c1:PV) (Q:Ex→aG→Hp→Prop):wX e aC aP aL Hu (Ct++[(5,.v (.int .i64 0)),(11,.v (.bool false))]) (mG [c0,c1]) Q=Q .norm dV (vK [c0,c1] 2):=by kernel_rfl
theorem Wg (c0 c1:PV):(xH fi f0 f1 g0 g1 2 (eY 2) (oY [c0,c1] 2)).length=2:=by kernel_rfl
theorem Kk (c0 c1:PV):AH fi f0 f1 g0 g1 2 (eY 2) (oY [c0,c1] 2)=qE g0 g1 c0 c1 fY fZ (fi (aJ 2 1)) (f0 (aJ 2 1)) (f1 (aJ 2 1)):=by kernel_rfl
theorem yKg (c0 c1:PV) (a b:Int):clrY 0 4 (qE g0 g1 c0 c1 fY fZ (bE 2 0) a b)=some (qE g0 g1 c0 c1 [] [] (bE 2 0) a b):=by kernel_rfl
theorem yKh (c0 c1:PV) (a b:Int) (K:PV→Prop):wX e aC aP aL gB dV (qE g0 g1 c0 c1 [] [] (bE 2 0) a b) (cL K)=K (.tup [.data (aJ 2 0),bH a b,.int .i64 0]):=by kernel_rfl
theorem yKi (c0 c1:PV) (a b:Int):clrY 0 4 (qE g0 g1 c0 c1 fY fZ (bE 2 1) a b)=some (qE g0 g1 c0 c1 [] [] (bE 2 1) a b):=by kernel_rfl
theorem yKj (c0 c1:PV) (a b:Int) (K:PV→Prop):wX e aC aP aL gB dV (qE g0 g1 c0 c1 [] [] (bE 2 1) a b) (cL K)=K (.tup [.data (aJ 2 1),bH a b,.int .i64 0]):=by kernel_rfl
def fJ (c0 c1 c2:PV) (y4 y5:List PV) (i:Nat) (a b:Int):Hp:=[⟨false,false,1,[.data [c0,c1,c2]]⟩,⟨false,false,1,[.own i 0 3 3 none]⟩,⟨false,false,2,[bH a b]⟩,⟨false,false,1,[.int .i64 3]⟩,⟨false,false,1,y4⟩,⟨false,false,1,y5⟩,⟨false,true,1,aD [0]⟩,⟨false,true,1,aD [0,1]⟩,⟨false,true,1,aD [0,1,2]⟩,⟨false,false,2,[bH (g0 (aD [0,1,2])) (g1 (aD [0,1,2]))]⟩,⟨false,true,1,aD [0,2]⟩,⟨false,true,1,aD [0,2,1]⟩,⟨false,false,2,[bH (g0 (aD [0,2,1])) (g1 (aD [0,2,1]))]⟩,⟨false,true,1,aD [1]⟩,⟨false,true,1,aD [1,0]⟩,⟨false,true,1,aD [1,0,2]⟩,⟨false,false,2,[bH (g0 (aD [1,0,2])) (g1 (aD [1,0,2]))]⟩,⟨false,true,1,aD [1,2]⟩,⟨false,true,1,aD [1,2,0]⟩,⟨false,false,2,[bH (g0 (aD [1,2,0])) (g1 (aD [1,2,0]))]⟩,⟨false,true,1,aD [2]⟩,⟨false,true,1,aD [2,0]⟩,⟨false,true,1,aD [2,0,1]⟩,⟨false,false,2,[bH (g0 (aD [2,0,1])) (g1 (aD [2,0,1]))]⟩,⟨false,true,1,aD [2,1]⟩,⟨false,true,1,aD [2,1,0]⟩,⟨false,false,2,[bH (g0 (aD [2,1,0])) (g1 (aD [2,1,0]))]⟩]
theorem Wh (c0 c1 c2:PV) (Q:Ex→aG→Hp→Prop):wX e aC aP aL Hu (Ct++[(5,.v (.int .i64 0)),(11,.v (.bool false))]) (mG [c0,c1,c2]) Q=Q .norm dV (vK [c0,c1,c2] 3):=by kernel_rfl
theorem Wi (c0 c1 c2:PV):(xH fi f0 f1 g0 g1 3 (eY 3) (oY [c0,c1,c2] 3)).length=6:=by kernel_rfl
theorem sL (c0 c1 c2:PV):AH fi f0 f1 g0 g1 3 (eY 3) (oY [c0,c1,c2] 3)=fJ g0 g1 c0 c1 c2 fY fZ (fi (aJ 3 5)) (f0 (aJ 3 5)) (f1 (aJ 3 5)):=by kernel_rfl
theorem yKk (c0 c1 c2:PV) (a b:Int):clrY 0 4 (fJ g0 g1 c0 c1 c2 fY fZ (bE 3 0) a b)=some (fJ g0 g1 c0 c1 c2 [] [] (bE 3 0) a b):=by kernel_rfl
theorem yKl (c0 c1 c2:PV) (a b:Int) (K:PV→Prop):wX e aC aP aL gB dV (fJ g0 g1 c0 c1 c2 [] [] (bE 3 0) a b) (cL K)=K (.tup [.data (aJ 3 0),bH a b,.int .i64 0]):=by kernel_rfl
theorem yKm (c0 c1 c2:PV) (a b:Int):clrY 0 4 (fJ g0 g1 c0 c1 c2 fY fZ (bE 3 1) a b)=some (fJ g0 g1 c0 c1 c2 [] [] (bE 3 1) a b):=by kernel_rfl
theorem yKn (c0 c1 c2:PV) (a b:Int) (K:PV→Prop):wX e aC aP aL gB dV (fJ g0 g1 c0 c1 c2 [] [] (bE 3 1) a b) (cL K)=K (.tup [.data (aJ 3 1),bH a b,.int .i64 0]):=by kernel_rfl
theorem yKo (c0 c1 c2:PV) (a b:Int):clrY 0 4 (fJ g0 g1 c0 c1 c2 fY fZ (bE 3 2) a b)=some (fJ g0 g1 c0 c1 c2 [] [] (bE 3 2) a b):=by kernel_rfl
theorem yKp (c0 c1 c2:PV) (a b:Int) (K:PV→Prop):wX e aC aP aL gB dV (fJ g0 g1 c0 c1 c2 [] [] (bE 3 2) a b) (cL K)=K (.tup [.data (aJ 3 2),bH a b,.int .i64 0]):=by kernel_rfl
theorem yKq (c0 c1 c2:PV) (a b:Int):clrY 0 4 (fJ g0 g1 c0 c1 c2 fY fZ (bE 3 3) a b)=some (fJ g0 g1 c0 c1 c2 [] [] (bE 3 3) a b):=by kernel_rfl
theorem yKr (c0 c1 c2:PV) (a b:Int) (K:PV→Prop):wX e aC aP aL gB dV (fJ g0 g1 c0 c1 c2 [] [] (bE 3 3) a b) (cL K)=K (.tup [.data (aJ 3 3),bH a b,.int .i64 0]):=by kernel_rfl
theorem yKs (c0 c1 c2:PV) (a b:Int):clrY 0 4 (fJ g0 g1 c0 c1 c2 fY fZ (bE 3 4) a b)=some (fJ g0 g1 c0 c1 c2 [] [] (bE 3 4) a b):=by kernel_rfl
theorem yKt (c0 c1 c2:PV) (a b:Int) (K:PV→Prop):wX e aC aP aL gB dV (fJ g0 g1 c0 c1 c2 [] [] (bE 3 4) a b) (cL K)=K (.tup [.data (aJ 3 4),bH a b,.int .i64 0]):=by kernel_rfl
theorem yKu (c0 c1 c2:PV) (a b:Int):clrY 0 4 (fJ g0 g1 c0 c1 c2 fY fZ (bE 3 5) a b)=some (fJ g0 g1 c0 c1 c2 [] [] (bE 3 5) a b):=by kernel_rfl
theorem yKv (c0 c1 c2:PV) (a b:Int) (K:PV→Prop):wX e aC aP aL gB dV (fJ g0 g1 c0 c1 c2 [] [] (bE 3 5) a b) (cL K)=K (.tup [.data (aJ 3 5),bH a b,.int .i64 0]):=by kernel_rfl
def bA (c0 c1 c2 c3:PV) (y4 y5:List PV) (i:Nat) (a b:Int):Hp:=[⟨false,false,1,[.data [c0,c1,c2,c3]]⟩,⟨false,false,1,[.own i 0 4 4 none]⟩,⟨false,false,2,[bH a b]⟩,⟨false,false,1,[.int .i64 4]⟩,⟨false,false,1,y4⟩,⟨false,false,1,y5⟩,⟨false,true,1,aD [0]⟩,⟨false,true,1,aD [0,1]⟩,⟨false,true,1,aD [0,1,2]⟩,⟨false,true,1,aD [0,1,2,3]⟩,⟨false,false,2,[bH (g0 (aD [0,1,2,3])) (g1 (aD [0,1,2,3]))]⟩,⟨false,true,1,aD [0,1,3]⟩,⟨false,true,1,aD [0,1,3,2]⟩,⟨false,false,2,[bH (g0 (aD [0,1,3,2])) (g1 (aD [0,1,3,2]))]⟩,⟨false,true,1,aD [0,2]⟩,⟨false,true,1,aD [0,2,1]⟩,⟨false,true,1,aD [0,2,1,3]⟩,⟨false,false,2,[bH (g0 (aD [0,2,1,3])) (g1 (aD [0,2,1,3]))]⟩,⟨false,true,1,aD [0,2,3]⟩,⟨false,true,1,aD [0,2,3,1]⟩,⟨false,false,2,[bH (g0 (aD [0,2,3,1])) (g1 (aD [0,2,3,1]))]⟩,⟨false,true,1,aD [0,3]⟩,⟨false,true,1,aD [0,3,1]⟩,⟨false,true,1,aD [0,3,1,2]⟩,⟨false,false,2,[bH (g0 (aD [0,3,1,2])) (g1 (aD [0,3,1,2]))]⟩,⟨false,true,1,aD [0,3,2]⟩,⟨false,true,1,aD [0,3,2,1]⟩,⟨false,false,2,[bH (g0 (aD [0,3,2,1])) (g1 (aD [0,3,2,1]))]⟩,⟨false,true,1,aD [1]⟩,⟨false,true,1,aD [1,0]⟩,⟨false,true,1,aD [1,0,2]⟩,⟨false,true,1,aD [1,0,2,3]⟩,⟨false,false,2,[bH (g0 (aD [1,0,2,3])) (g1 (aD [1,0,2,3]))]⟩,⟨false,true,1,aD [1,0,3]⟩,⟨false,true,1,aD [1,0,3,2]⟩,⟨false,false,2,[bH (g0 (aD [1,0,3,2])) (g1 (aD [1,0,3,2]))]⟩,⟨false,true,1,aD [1,2]⟩,⟨false,true,1,aD [1,2,0]⟩,⟨false,true,1,aD [1,2,0,3]⟩,⟨false,false,2,[bH (g0 (aD [1,2,0,3])) (g1 (aD [1,2,0,3]))]⟩,⟨false,true,1,aD [1,2,3]⟩,⟨false,true,1,aD [1,2,3,0]⟩,⟨false,false,2,[bH (g0 (aD [1,2,3,0])) (g1 (aD [1,2,3,0]))]⟩,⟨false,true,1,aD [1,3]⟩,⟨false,true,1,aD [1,3,0]⟩,⟨false,true,1,aD [1,3,0,2]⟩,⟨false,false,2,[bH (g0 (aD [1,3,0,2])) (g1 (aD [1,3,0,2]))]⟩,⟨false,true,1,aD [1,3,2]⟩,⟨false,true,1,aD [1,3,2,0]⟩,⟨false,false,2,[bH (g0 (aD [1,3,2,0])) (g1 (aD [1,3,2,0]))]⟩,⟨false,true,1,aD [2]⟩,⟨false,true,1,aD [2,0]⟩,⟨false,true,1,aD [2,0,1]⟩,⟨false,true,1,aD [2,0,1,3]⟩,⟨false,false,2,[bH (g0 (aD [2,0,1,3])) (g1 (aD [2,0,1,3]))]⟩,⟨false,true,1,aD [2,0,3]⟩,⟨false,true,1,aD [2,0,3,1]⟩,⟨false,false,2,[bH (g0 (aD [2,0,3,1])) (g1 (aD [2,0,3,1]))]⟩,⟨false,true,1,aD [2,1]⟩,⟨false,true,1,aD [2,1,0]⟩,⟨false,true,1,aD [2,1,0,3]⟩,⟨false,false,2,[bH (g0 (aD [2,1,0,3])) (g1 (aD [2,1,0,3]))]⟩,⟨false,true,1,aD [2,1,3]⟩,⟨false,true,1,aD [2,1,3,0]⟩,⟨false,false,2,[bH (g0 (aD [2,1,3,0])) (g1 (aD [2,1,3,0]))]⟩,⟨false,true,1,aD [2,3]⟩,⟨false,true,1,aD [2,3,0]⟩,⟨false,true,1,aD [2,3,0,1]⟩,⟨false,false,2,[bH (g0 (aD [2,3,0,1])) (g1 (aD [2,3,0,1]))]⟩,⟨false,true,1,aD [2,3,1]⟩,⟨false,true,1,aD [2,3,1,0]⟩,⟨false,false,2,[bH (g0 (aD [2,3,1,0])) (g1 (aD [2,3,1,0]))]⟩,⟨false,true,1,aD [3]⟩,⟨false,true,1,aD [3,0]⟩,⟨false,true,1,aD [3,0,1]⟩,⟨false,true,1,aD [3,0,1,2]⟩,⟨false,false,2,[bH (g0 (aD [3,0,1,2])) (g1 (aD [3,0,1,2]))]⟩,⟨false,true,1,aD [3,0,2]⟩,⟨false,true,1,aD [3,0,2,1]⟩,⟨false,false,2,[bH (g0 (aD [3,0,2,1])) (g1 (aD [3,0,2,1]))]⟩,⟨false,true,1,aD [3,1]⟩,⟨false,true,1,aD [3,1,0]⟩,⟨false,true,1,aD [3,1,0,2]⟩,⟨false,false,2,[bH (g0 (aD [3,1,0,2])) (g1 (aD [3,1,0,2]))]⟩,⟨false,true,1,aD [3,1,2]⟩,⟨false,true,1,aD [3,1,2,0]⟩,⟨false,false,2,[bH (g0 (aD [3,1,2,0])) (g1 (aD [3,1,2,0]))]⟩,⟨false,true,1,aD [3,2]⟩,⟨false,true,1,aD [3,2,0]⟩,⟨false,true,1,aD [3,2,0,1]⟩,⟨false,false,2,[bH (g0 (aD [3,2,0,1])) (g1 (aD [3,2,0,1]))]⟩,⟨false,true,1,aD [3,2,1]⟩,⟨false,true,1,aD [3,2,1,0]⟩,⟨false,false,2,[bH (g0 (aD [3,2,1,0])) (g1 (aD [3,2,1,0]))]⟩]
theorem Wj (c0 c1 c2 c3:PV) (Q:Ex→aG→Hp→Prop):wX e aC aP aL Hu (Ct++[(5,.v (.int .i64 0)),(11,.v (.bool false))]) (mG [c0,c1,c2,c3]) Q=Q .norm dV (vK [c0,c1,c2,c3] 4):=by kernel_rfl
theorem Wk (c0 c1 c2 c3:PV):(xH fi f0 f1 g0 g1 4 (eY 4) (oY [c0,c1,c2,c3] 4)).length=24:=by kernel_rfl
theorem dW (c0 c1 c2 c3:PV):AH fi f0 f1 g0 g1 4 (eY 4) (oY [c0,c1,c2,c3] 4)=bA g0 g1 c0 c1 c2 c3 fY fZ (fi (aJ 4 23)) (f0 (aJ 4 23)) (f1 (aJ 4 23)):=by kernel_rfl
theorem yKw (c0 c1 c2 c3:PV) (a b:Int):clrY 0 4 (bA g0 g1 c0 c1 c2 c3 fY fZ (bE 4 0) a b)=some (bA g0 g1 c0 c1 c2 c3 [] [] (bE 4 0) a b):=by kernel_rfl
theorem yKx (c0 c1 c2 c3:PV) (a b:Int) (K:PV→Prop):wX e aC aP aL gB dV (bA g0 g1 c0 c1 c2 c3 [] [] (bE 4 0) a b) (cL K)=K (.tup [.data (aJ 4 0),bH a b,.int .i64 0]):=by kernel_rfl
theorem yKy (c0 c1 c2 c3:PV) (a b:Int):clrY 0 4 (bA g0 g1 c0 c1 c2 c3 fY fZ (bE 4 1) a b)=some (bA g0 g1 c0 c1 c2 c3 [] [] (bE 4 1) a b):=by kernel_rfl
theorem yKz (c0 c1 c2 c3:PV) (a b:Int) (K:PV→Prop):wX e aC aP aL gB dV (bA g0 g1 c0 c1 c2 c3 [] [] (bE 4 1) a b) (cL K)=K (.tup [.data (aJ 4 1),bH a b,.int .i64 0]):=by kernel_rfl
theorem yKA (c0 c1 c2 c3:PV) (a b:Int):clrY 0 4 (bA g0 g1 c0 c1 c2 c3 fY fZ (bE 4 2) a b)=some (bA g0 g1 c0 c1 c2 c3 [] [] (bE 4 2) a b):=by kernel_rfl
theorem yKB (c0 c1 c2 c3:PV) (a b:Int) (K:PV→Prop):wX e aC aP aL gB dV (bA g0 g1 c0 c1 c2 c3 [] [] (bE 4 2) a b) (cL K)=K (.tup [.data (aJ 4 2),bH a b,.int .i64 0]):=by kernel_rfl
theorem yKC (c0 c1 c2 c3:PV) (a b:Int):clrY 0 4 (bA g0 g1 c0 c1 c2 c3 fY fZ (bE 4 3) a b)=some (bA g0 g1 c0 c1 c2 c3 [] [] (bE 4 3) a b):=by kernel_rfl
theorem yKD (c0 c1 c2 c3:PV) (a b:Int) (K:PV→Prop):wX e aC aP aL gB dV (bA g0 g1 c0 c1 c2 c3 [] [] (bE 4 3) a b) (cL K)=K (.tup [.data (aJ 4 3),bH a b,.int .i64 0]):=by kernel_rfl
theorem yKE (c0 c1 c2 c3:PV) (a b:Int):clrY 0 4 (bA g0 g1 c0 c1 c2 c3 fY fZ (bE 4 4) a b)=some (bA g0 g1 c0 c1 c2 c3 [] [] (bE 4 4) a b):=by kernel_rfl
theorem yKF (c0 c1 c2 c3:PV) (a b:Int) (K:PV→Prop):wX e aC aP aL gB dV (bA g0 g1 c0 c1 c2 c3 [] [] (bE 4 4) a b) (cL K)=K (.tup [.data (aJ 4 4),bH a b,.int .i64 0]):=by kernel_rfl
theorem yKG (c0 c1 c2 c3:PV) (a b:Int):clrY 0 4 (bA g0 g1 c0 c1 c2 c3 fY fZ (bE 4 5) a b)=some (bA g0 g1 c0 c1 c2 c3 [] [] (bE 4 5) a b):=by kernel_rfl
theorem yKH (c0 c1 c2 c3:PV) (a b:Int) (K:PV→Prop):wX e aC aP aL gB dV (bA g0 g1 c0 c1 c2 c3 [] [] (bE 4 5) a b) (cL K)=K (.tup [.data (aJ 4 5),bH a b,.int .i64 0]):=by kernel_rfl
theorem yKI (c0 c1 c2 c3:PV) (a b:Int):clrY 0 4 (bA g0 g1 c0 c1 c2 c3 fY fZ (bE 4 6) a b)=some (bA g0 g1 c0 c1 c2 c3 [] [] (bE 4 6) a b):=by kernel_rfl
theorem yKJ (c0 c1 c2 c3:PV) (a b:Int) (K:PV→Prop):wX e aC aP aL gB dV (bA g0 g1 c0 c1 c2 c3 [] [] (bE 4 6) a b) (cL K)=K (.tup [.data (aJ 4 6),bH a b,.int .i64 0]):=by kernel_rfl
theorem yKK (c0 c1 c2 c3:PV) (a b:Int):clrY 0 4 (bA g0 g1 c0 c1 c2 c3 fY fZ (bE 4 7) a b)=some (bA g0 g1 c0 c1 c2 c3 [] [] (bE 4 7) a b):=by kernel_rfl
theorem yKL (c0 c1 c2 c3:PV) (a b:Int) (K:PV→Prop):wX e aC aP aL gB dV (bA g0 g1 c0 c1 c2 c3 [] [] (bE 4 7) a b) (cL K)=K (.tup [.data (aJ 4 7),bH a b,.int .i64 0]):=by kernel_rfl
theorem yKM (c0 c1 c2 c3:PV) (a b:Int):clrY 0 4 (bA g0 g1 c0 c1 c2 c3 fY fZ (bE 4 8) a b)=some (bA g0 g1 c0 c1 c2 c3 [] [] (bE 4 8) a b):=by kernel_rfl
theorem yKN (c0 c1 c2 c3:PV) (a b:Int) (K:PV→Prop):wX e aC aP aL gB dV (bA g0 g1 c0 c1 c2 c3 [] [] (bE 4 8) a b) (cL K)=K (.tup [.data (aJ 4 8),bH a b,.int .i64 0]):=by kernel_rfl
theorem yKO (c0 c1 c2 c3:PV) (a b:Int):clrY 0 4 (bA g0 g1 c0 c1 c2 c3 fY fZ (bE 4 9) a b)=some (bA g0 g1 c0 c1 c2 c3 [] [] (bE 4 9) a b):=by kernel_rfl
theorem yKP (c0 c1 c2 c3:PV) (a b:Int) (K:PV→Prop):wX e aC aP aL gB dV (bA g0 g1 c0 c1 c2 c3 [] [] (bE 4 9) a b) (cL K)=K (.tup [.data (aJ 4 9),bH a b,.int .i64 0]):=by kernel_rfl
theorem yGO (c0 c1 c2 c3:PV) (a b:Int):clrY 0 4 (bA g0 g1 c0 c1 c2 c3 fY fZ (bE 4 10) a b)=some (bA g0 g1 c0 c1 c2 c3 [] [] (bE 4 10) a b):=by kernel_rfl
theorem yGP (c0 c1 c2 c3:PV) (a b:Int) (K:PV→Prop):wX e aC aP aL gB dV (bA g0 g1 c0 c1 c2 c3 [] [] (bE 4 10) a b) (cL K)=K (.tup [.data (aJ 4 10),bH a b,.int .i64 0]):=by kernel_rfl
theorem yGQ (c0 c1 c2 c3:PV) (a b:Int):clrY 0 4 (bA g0 g1 c0 c1 c2 c3 fY fZ (bE 4 11) a b)=some (bA g0 g1 c0 c1 c2 c3 [] [] (bE 4 11) a b):=by kernel_rfl
theorem yGR (c0 c1 c2 c3:PV) (a b:Int) (K:PV→Prop):wX e aC aP aL gB dV (bA g0 g1 c0 c1 c2 c3 [] [] (bE 4 11) a b) (cL K)=K (.tup [.data (aJ 4 11),bH a b,.int .i64 0]):=by kernel_rfl
theorem yGS (c0 c1 c2 c3:PV) (a b:Int):clrY 0 4 (bA g0 g1 c0 c1 c2 c3 fY fZ (bE 4 12) a b)=some (bA g0 g1 c0 c1 c2 c3 [] [] (bE 4 12) a b):=by kernel_rfl
theorem yGT (c0 c1 c2 c3:PV) (a b:Int) (K:PV→Prop):wX e aC aP aL gB dV (bA g0 g1 c0 c1 c2 c3 [] [] (bE 4 12) a b) (cL K)=K (.tup [.data (aJ 4 12),bH a b,.int .i64 0]):=by kernel_rfl
theorem yGU (c0 c1 c2 c3:PV) (a b:Int):clrY 0 4 (bA g0 g1 c0 c1 c2 c3 fY fZ (bE 4 13) a b)=some (bA g0 g1 c0 c1 c2 c3 [] [] (bE 4 13) a b):=by kernel_rfl
theorem yGV (c0 c1 c2 c3:PV) (a b:Int) (K:PV→Prop):wX e aC aP aL gB dV (bA g0 g1 c0 c1 c2 c3 [] [] (bE 4 13) a b) (cL K)=K (.tup [.data (aJ 4 13),bH a b,.int .i64 0]):=by kernel_rfl
theorem yGW (c0 c1 c2 c3:PV) (a b:Int):clrY 0 4 (bA g0 g1 c0 c1 c2 c3 fY fZ (bE 4 14) a b)=some (bA g0 g1 c0 c1 c2 c3 [] [] (bE 4 14) a b):=by kernel_rfl
theorem yGX (c0 c1 c2 c3:PV) (a b:Int) (K:PV→Prop):wX e aC aP aL gB dV (bA g0 g1 c0 c1 c2 c3 [] [] (bE 4 14) a b) (cL K)=K (.tup [.data (aJ 4 14),bH a b,.int .i64 0]):=by kernel_rfl
theorem yGY (c0 c1 c2 c3:PV) (a b:Int):clrY 0 4 (bA g0 g1 c0 c1 c2 c3 fY fZ (bE 4 15) a b)=some (bA g0 g1 c0 c1 c2 c3 [] [] (bE 4 15) a b):=by kernel_rfl
theorem yGZ (c0 c1 c2 c3:PV) (a b:Int) (K:PV→Prop):wX e aC aP aL gB dV (bA g0 g1 c0 c1 c2 c3 [] [] (bE 4 15) a b) (cL K)=K (.tup [.data (aJ 4 15),bH a b,.int .i64 0]):=by kernel_rfl
theorem yG0 (c0 c1 c2 c3:PV) (a b:Int):clrY 0 4 (bA g0 g1 c0 c1 c2 c3 fY fZ (bE 4 16) a b)=some (bA g0 g1 c0 c1 c2 c3 [] [] (bE 4 16) a b):=by kernel_rfl
theorem yG1 (c0 c1 c2 c3:PV) (a b:Int) (K:PV→Prop):wX e aC aP aL gB dV (bA g0 g1 c0 c1 c2 c3 [] [] (bE 4 16) a b) (cL K)=K (.tup [.data (aJ 4 16),bH a b,.int .i64 0]):=by kernel_rfl
theorem yG2 (c0 c1 c2 c3:PV) (a b:Int):clrY 0 4 (bA g0 g1 c0 c1 c2 c3 fY fZ (bE 4 17) a b)=some (bA g0 g1 c0 c1 c2 c3 [] [] (bE 4 17) a b):=by kernel_rfl
theorem yG3 (c0 c1 c2 c3:PV) (a b:Int) (K:PV→Prop):wX e aC aP aL gB dV (bA g0 g1 c0 c1 c2 c3 [] [] (bE 4 17) a b) (cL K)=K (.tup [.data (aJ 4 17),bH a b,.int .i64 0]):=by kernel_rfl
theorem yG4 (c0 c1 c2 c3:PV) (a b:Int):clrY 0 4 (bA g0 g1 c0 c1 c2 c3 fY fZ (bE 4 18) a b)=some (bA g0 g1 c0 c1 c2 c3 [] [] (bE 4 18) a b):=by kernel_rfl
theorem yG5 (c0 c1 c2 c3:PV) (a b:Int) (K:PV→Prop):wX e aC aP aL gB dV (bA g0 g1 c0 c1 c2 c3 [] [] (bE 4 18) a b) (cL K)=K (.tup [.data (aJ 4 18),bH a b,.int .i64 0]):=by kernel_rfl
theorem yG6 (c0 c1 c2 c3:PV) (a b:Int):clrY 0 4 (bA g0 g1 c0 c1 c2 c3 fY fZ (bE 4 19) a b)=some (bA g0 g1 c0 c1 c2 c3 [] [] (bE 4 19) a b):=by kernel_rfl
theorem yG7 (c0 c1 c2 c3:PV) (a b:Int) (K:PV→Prop):wX e aC aP aL gB dV (bA g0 g1 c0 c1 c2 c3 [] [] (bE 4 19) a b) (cL K)=K (.tup [.data (aJ 4 19),bH a b,.int .i64 0]):=by kernel_rfl
theorem yG8 (c0 c1 c2 c3:PV) (a b:Int):clrY 0 4 (bA g0 g1 c0 c1 c2 c3 fY fZ (bE 4 20) a b)=some (bA g0 g1 c0 c1 c2 c3 [] [] (bE 4 20) a b):=by kernel_rfl
theorem yG9 (c0 c1 c2 c3:PV) (a b:Int) (K:PV→Prop):wX e aC aP aL gB dV (bA g0 g1 c0 c1 c2 c3 [] [] (bE 4 20) a b) (cL K)=K (.tup [.data (aJ 4 20),bH a b,.int .i64 0]):=by kernel_rfl
theorem yHa (c0 c1 c2 c3:PV) (a b:Int):clrY 0 4 (bA g0 g1 c0 c1 c2 c3 fY fZ (bE 4 21) a b)=some (bA g0 g1 c0 c1 c2 c3 [] [] (bE 4 21) a b):=by kernel_rfl
theorem yHb (c0 c1 c2 c3:PV) (a b:Int) (K:PV→Prop):wX e aC aP aL gB dV (bA g0 g1 c0 c1 c2 c3 [] [] (bE 4 21) a b) (cL K)=K (.tup [.data (aJ 4 21),bH a b,.int .i64 0]):=by kernel_rfl
theorem yHc (c0 c1 c2 c3:PV) (a b:Int):clrY 0 4 (bA g0 g1 c0 c1 c2 c3 fY fZ (bE 4 22) a b)=some (bA g0 g1 c0 c1 c2 c3 [] [] (bE 4 22) a b):=by kernel_rfl
theorem yHd (c0 c1 c2 c3:PV) (a b:Int) (K:PV→Prop):wX e aC aP aL gB dV (bA g0 g1 c0 c1 c2 c3 [] [] (bE 4 22) a b) (cL K)=K (.tup [.data (aJ 4 22),bH a b,.int .i64 0]):=by kernel_rfl
theorem yHe (c0 c1 c2 c3:PV) (a b:Int):clrY 0 4 (bA g0 g1 c0 c1 c2 c3 fY fZ (bE 4 23) a b)=some (bA g0 g1 c0 c1 c2 c3 [] [] (bE 4 23) a b):=by kernel_rfl
theorem yHf (c0 c1 c2 c3:PV) (a b:Int) (K:PV→Prop):wX e aC aP aL gB dV (bA g0 g1 c0 c1 c2 c3 [] [] (bE 4 23) a b) (cL K)=K (.tup [.data (aJ 4 23),bH a b,.int .i64 0]):=by kernel_rfl
end
structure BK (L:List PV) (n:Nat):Prop where
 rk:∀ k,k<cA n→fI n (aJ n k)=k
 run:∀ (e:Es) (aC:jS) (aP:(List PV→List PV→(Int→Int→Prop)→Prop)) (aL:(Int→Int→Int→Int→(Bool→Prop)→Prop)) (fi:List PV→Nat) (f0 f1 g0 g1:List PV→Int) (YY:List PV→Hp→Prop) (Q:Ex→aG→Hp→Prop),wB e aC aP aL fi f0 f1 g0 g1 YY L n Q=AG fi f0 f1 g0 g1 YY n (eY n) (oY L n) (fun H=>Q .norm [] H)
 len:∀ (fi:List PV→Nat) (f0 f1 g0 g1:List PV→Int),(xH fi f0 f1 g0 g1 n (eY n) (oY L n)).length=cA n
 yb:∀ (e:Es) (aC:jS) (aP:(List PV→List PV→(Int→Int→Prop)→Prop)) (aL:(Int→Int→Int→Int→(Bool→Prop)→Prop)) (fi:List PV→Nat) (f0 f1 g0 g1:List PV→Int) (K:Option Nat→Hp→Prop) (k:Nat),k<cA n→wY e aC aP aL (aB fi f0 f1 g0 g1 L n k).1 (aB fi f0 f1 g0 g1 L n k).2 K=gI aP aL f0 f1 L n k (aB fi f0 f1 g0 g1 L n k).1 (aB fi f0 f1 g0 g1 L n k).2 K
 ub:∀ (fi:List PV→Nat) (f0 f1 g0 g1:List PV→Int) (p0 p1:Int) (k:Nat),k<cA n→bT fi f0 f1 g0 g1 (aB fi f0 f1 g0 g1 L n k).1 (aB fi f0 f1 g0 g1 L n k).2=bP (fi (aJ n k)) (f0 (aJ n k)) (f1 (aJ n k)) (g0 (aJ n k)) (g1 (aJ n k)) (aB fi f0 f1 g0 g1 L n k).1 (aB fi f0 f1 g0 g1 L n k).2∧cY true (aB fi f0 f1 g0 g1 L n k).1 (aB fi f0 f1 g0 g1 L n k).2 p0 p1=bP (bE n k) p0 p1 p0 p1 (aB fi f0 f1 g0 g1 L n k).1 (aB fi f0 f1 g0 g1 L n k).2∧∀ j,k=j+1→cY false (aB fi f0 f1 g0 g1 L n k).1 (aB fi f0 f1 g0 g1 L n k).2 p0 p1=bP (fi (aJ n j)) (f0 (aJ n j)) (f1 (aJ n j)) p0 p1 (aB fi f0 f1 g0 g1 L n k).1 (aB fi f0 f1 g0 g1 L n k).2
 ct:∀ (e:Es) (aC:jS) (aP:(List PV→List PV→(Int→Int→Prop)→Prop)) (aL:(Int→Int→Int→Int→(Bool→Prop)→Prop)) (Q:Ex→aG→Hp→Prop),wX e aC aP aL Hu (Ct++[(5,.v (.int .i64 0)),(11,.v (.bool false))]) (mG L) Q=Q .norm dV (vK L n)
 fin:∀ (e:Es) (aC:jS) (aP:(List PV→List PV→(Int→Int→Prop)→Prop)) (aL:(Int→Int→Int→Int→(Bool→Prop)→Prop)) (fi:List PV→Nat) (f0 f1 g0 g1:List PV→Int) (K:PV→Prop) (j:Nat),j<cA n→fi (aJ n (cA n-1))=bE n j→∃ H2,clrY 0 4 (AH fi f0 f1 g0 g1 n (eY n) (oY L n))=some H2∧wX e aC aP aL gB dV H2 (cL K)=K (.tup [.data (aJ n j),bH (f0 (aJ n (cA n-1))) (f1 (aJ n (cA n-1))),.int .i64 0])
theorem Wl (c0:PV):BK [c0] 1 where
 rk:=fun k hk=>match k,hk with
  | 0,_=>yJV
  | k+1,h=>absurd h (by show ¬k+1<1;omega)
 run:=fun e aC aP aL fi f0 f1 g0 g1 YY Q=>Vq e aC aP aL fi f0 f1 g0 g1 YY c0 Q
 len:=fun fi f0 f1 g0 g1=>Wd fi f0 f1 g0 g1 c0
 yb:=fun e aC aP aL fi f0 f1 g0 g1 K k hk=>match k,hk with
  | 0,_=>yJB e aC aP aL fi f0 f1 g0 g1 K c0
  | k+1,h=>absurd h (by show ¬k+1<1;omega)
 ub:=fun fi f0 f1 g0 g1 p0 p1 k hk=>match k,hk with
  | 0,_=>⟨(V0 fi f0 f1 g0 g1 p0 p1 c0).1,(V0 fi f0 f1 g0 g1 p0 p1 c0).2,fun j hj=>by cases hj⟩
  | k+1,h=>absurd h (by show ¬k+1<1;omega)
 ct:=fun e aC aP aL Q=>Wc e aC aP aL c0 Q
 fin:=fun e aC aP aL fi f0 f1 g0 g1 K j hj hf=>match j,hj,hf with
  | 0,_,hf=>⟨_,by rw [We,show fi (aJ 1 0)=_ from hf];exact yKe g0 g1 c0 _ _,yKf e aC aP aL g0 g1 c0 _ _ K⟩
  | k+1,h,_=>absurd h (by show ¬k+1<1;omega)
theorem Wm (c0 c1:PV):BK [c0,c1] 2 where
 rk:=fun k hk=>match k,hk with
  | 0,_=>yJW
  | 1,_=>yJX
  | k+2,h=>absurd h (by show ¬k+2<2;omega)
 run:=fun e aC aP aL fi f0 f1 g0 g1 YY Q=>Vr e aC aP aL fi f0 f1 g0 g1 YY c0 c1 Q
 len:=fun fi f0 f1 g0 g1=>Wg fi f0 f1 g0 g1 c0 c1
 yb:=fun e aC aP aL fi f0 f1 g0 g1 K k hk=>match k,hk with
  | 0,_=>yJC e aC aP aL fi f0 f1 g0 g1 K c0 c1
  | 1,_=>yJD e aC aP aL fi f0 f1 g0 g1 K c0 c1
  | k+2,h=>absurd h (by show ¬k+2<2;omega)
 ub:=fun fi f0 f1 g0 g1 p0 p1 k hk=>match k,hk with
  | 0,_=>⟨(V1 fi f0 f1 g0 g1 p0 p1 c0 c1).1,(V1 fi f0 f1 g0 g1 p0 p1 c0 c1).2,fun j hj=>by cases hj⟩
  | 1,_=>⟨(Vu fi f0 f1 g0 g1 p0 p1 c0 c1).1,(Vu fi f0 f1 g0 g1 p0 p1 c0 c1).2.1,fun j hj=>by cases hj;exact (Vu fi f0 f1 g0 g1 p0 p1 c0 c1).2.2⟩
  | k+2,h=>absurd h (by show ¬k+2<2;omega)
 ct:=fun e aC aP aL Q=>Wf e aC aP aL c0 c1 Q
 fin:=fun e aC aP aL fi f0 f1 g0 g1 K j hj hf=>match j,hj,hf with
  | 0,_,hf=>⟨_,by rw [Kk,show fi (aJ 2 1)=_ from hf];exact yKg g0 g1 c0 c1 _ _,yKh e aC aP aL g0 g1 c0 c1 _ _ K⟩
  | 1,_,hf=>⟨_,by rw [Kk,show fi (aJ 2 1)=_ from hf];exact yKi g0 g1 c0 c1 _ _,yKj e aC aP aL g0 g1 c0 c1 _ _ K⟩
  | k+2,h,_=>absurd h (by show ¬k+2<2;omega)
theorem Wn (c0 c1 c2:PV):BK [c0,c1,c2] 3 where
 rk:=fun k hk=>match k,hk with
  | 0,_=>yJY
  | 1,_=>yJZ
  | 2,_=>yJ0
  | 3,_=>yJ1
  | 4,_=>yJ2
  | 5,_=>yJ3
  | k+6,h=>absurd h (by show ¬k+6<6;omega)
 run:=fun e aC aP aL fi f0 f1 g0 g1 YY Q=>Vs e aC aP aL fi f0 f1 g0 g1 YY c0 c1 c2 Q
 len:=fun fi f0 f1 g0 g1=>Wi fi f0 f1 g0 g1 c0 c1 c2
 yb:=fun e aC aP aL fi f0 f1 g0 g1 K k hk=>match k,hk with
  | 0,_=>yJE e aC aP aL fi f0 f1 g0 g1 K c0 c1 c2
  | 1,_=>yJF e aC aP aL fi f0 f1 g0 g1 K c0 c1 c2
  | 2,_=>yJG e aC aP aL fi f0 f1 g0 g1 K c0 c1 c2
  | 3,_=>yJH e aC aP aL fi f0 f1 g0 g1 K c0 c1 c2
  | 4,_=>yJI e aC aP aL fi f0 f1 g0 g1 K c0 c1 c2
  | 5,_=>yJJ e aC aP aL fi f0 f1 g0 g1 K c0 c1 c2
  | k+6,h=>absurd h (by show ¬k+6<6;omega)
 ub:=fun fi f0 f1 g0 g1 p0 p1 k hk=>match k,hk with
  | 0,_=>⟨(V2 fi f0 f1 g0 g1 p0 p1 c0 c1 c2).1,(V2 fi f0 f1 g0 g1 p0 p1 c0 c1 c2).2,fun j hj=>by cases hj⟩
  | 1,_=>⟨(Vv fi f0 f1 g0 g1 p0 p1 c0 c1 c2).1,(Vv fi f0 f1 g0 g1 p0 p1 c0 c1 c2).2.1,fun j hj=>by cases hj;exact (Vv fi f0 f1 g0 g1 p0 p1 c0 c1 c2).2.2⟩
  | 2,_=>⟨(Vw fi f0 f1 g0 g1 p0 p1 c0 c1 c2).1,(Vw fi f0 f1 g0 g1 p0 p1 c0 c1 c2).2.1,fun j hj=>by cases hj;exact (Vw fi f0 f1 g0 g1 p0 p1 c0 c1 c2).2.2⟩
  | 3,_=>⟨(Vx fi f0 f1 g0 g1 p0 p1 c0 c1 c2).1,(Vx fi f0 f1 g0 g1 p0 p1 c0 c1 c2).2.1,fun j hj=>by cases hj;exact (Vx fi f0 f1 g0 g1 p0 p1 c0 c1 c2).2.2⟩
  | 4,_=>⟨(Vy fi f0 f1 g0 g1 p0 p1 c0 c1 c2).1,(Vy fi f0 f1 g0 g1 p0 p1 c0 c1 c2).2.1,fun j hj=>by cases hj;exact (Vy fi f0 f1 g0 g1 p0 p1 c0 c1 c2).2.2⟩
  | 5,_=>⟨(Vz fi f0 f1 g0 g1 p0 p1 c0 c1 c2).1,(Vz fi f0 f1 g0 g1 p0 p1 c0 c1 c2).2.1,fun j hj=>by cases hj;exact (Vz fi f0 f1 g0 g1 p0 p1 c0 c1 c2).2.2⟩
  | k+6,h=>absurd h (by show ¬k+6<6;omega)
 ct:=fun e aC aP aL Q=>Wh e aC aP aL c0 c1 c2 Q
 fin:=fun e aC aP aL fi f0 f1 g0 g1 K j hj hf=>match j,hj,hf with
  | 0,_,hf=>⟨_,by rw [sL,show fi (aJ 3 5)=_ from hf];exact yKk g0 g1 c0 c1 c2 _ _,yKl e aC aP aL g0 g1 c0 c1 c2 _ _ K⟩
  | 1,_,hf=>⟨_,by rw [sL,show fi (aJ 3 5)=_ from hf];exact yKm g0 g1 c0 c1 c2 _ _,yKn e aC aP aL g0 g1 c0 c1 c2 _ _ K⟩
  | 2,_,hf=>⟨_,by rw [sL,show fi (aJ 3 5)=_ from hf];exact yKo g0 g1 c0 c1 c2 _ _,yKp e aC aP aL g0 g1 c0 c1 c2 _ _ K⟩
  | 3,_,hf=>⟨_,by rw [sL,show fi (aJ 3 5)=_ from hf];exact yKq g0 g1 c0 c1 c2 _ _,yKr e aC aP aL g0 g1 c0 c1 c2 _ _ K⟩
  | 4,_,hf=>⟨_,by rw [sL,show fi (aJ 3 5)=_ from hf];exact yKs g0 g1 c0 c1 c2 _ _,yKt e aC aP aL g0 g1 c0 c1 c2 _ _ K⟩
  | 5,_,hf=>⟨_,by rw [sL,show fi (aJ 3 5)=_ from hf];exact yKu g0 g1 c0 c1 c2 _ _,yKv e aC aP aL g0 g1 c0 c1 c2 _ _ K⟩
  | k+6,h,_=>absurd h (by show ¬k+6<6;omega)
theorem Wo (c0 c1 c2 c3:PV):BK [c0,c1,c2,c3] 4 where
 rk:=fun k hk=>match k,hk with
  | 0,_=>yJ4
  | 1,_=>yJ5
  | 2,_=>yJ6
  | 3,_=>yJ7
  | 4,_=>yJ8
  | 5,_=>yJ9
  | 6,_=>yKa
  | 7,_=>yKb
  | 8,_=>yKc
  | 9,_=>yKd
  | 10,_=>yGA
  | 11,_=>yGB
  | 12,_=>yGC
  | 13,_=>yGD
  | 14,_=>yGE
  | 15,_=>yGF
  | 16,_=>yGG
  | 17,_=>yGH
  | 18,_=>yGI
  | 19,_=>yGJ
  | 20,_=>yGK
  | 21,_=>yGL
  | 22,_=>yGM
  | 23,_=>yGN
  | k+24,h=>absurd h (by show ¬k+24<24;omega)
 run:=fun e aC aP aL fi f0 f1 g0 g1 YY Q=>Vt e aC aP aL fi f0 f1 g0 g1 YY c0 c1 c2 c3 Q
 len:=fun fi f0 f1 g0 g1=>Wk fi f0 f1 g0 g1 c0 c1 c2 c3
 yb:=fun e aC aP aL fi f0 f1 g0 g1 K k hk=>match k,hk with
  | 0,_=>yJK e aC aP aL fi f0 f1 g0 g1 K c0 c1 c2 c3
  | 1,_=>yJL e aC aP aL fi f0 f1 g0 g1 K c0 c1 c2 c3
  | 2,_=>yJM e aC aP aL fi f0 f1 g0 g1 K c0 c1 c2 c3
  | 3,_=>yJN e aC aP aL fi f0 f1 g0 g1 K c0 c1 c2 c3
  | 4,_=>yJO e aC aP aL fi f0 f1 g0 g1 K c0 c1 c2 c3
  | 5,_=>yJP e aC aP aL fi f0 f1 g0 g1 K c0 c1 c2 c3
  | 6,_=>yJQ e aC aP aL fi f0 f1 g0 g1 K c0 c1 c2 c3
  | 7,_=>yJR e aC aP aL fi f0 f1 g0 g1 K c0 c1 c2 c3
  | 8,_=>yJS e aC aP aL fi f0 f1 g0 g1 K c0 c1 c2 c3
  | 9,_=>yJT e aC aP aL fi f0 f1 g0 g1 K c0 c1 c2 c3
  | 10,_=>yGl e aC aP aL fi f0 f1 g0 g1 K c0 c1 c2 c3
  | 11,_=>yGm e aC aP aL fi f0 f1 g0 g1 K c0 c1 c2 c3
  | 12,_=>yGn e aC aP aL fi f0 f1 g0 g1 K c0 c1 c2 c3
  | 13,_=>yGo e aC aP aL fi f0 f1 g0 g1 K c0 c1 c2 c3
  | 14,_=>yGp e aC aP aL fi f0 f1 g0 g1 K c0 c1 c2 c3
  | 15,_=>yGq e aC aP aL fi f0 f1 g0 g1 K c0 c1 c2 c3
  | 16,_=>yGr e aC aP aL fi f0 f1 g0 g1 K c0 c1 c2 c3
  | 17,_=>yGs e aC aP aL fi f0 f1 g0 g1 K c0 c1 c2 c3
  | 18,_=>yGt e aC aP aL fi f0 f1 g0 g1 K c0 c1 c2 c3
  | 19,_=>yGu e aC aP aL fi f0 f1 g0 g1 K c0 c1 c2 c3
  | 20,_=>yGv e aC aP aL fi f0 f1 g0 g1 K c0 c1 c2 c3
  | 21,_=>yGw e aC aP aL fi f0 f1 g0 g1 K c0 c1 c2 c3
  | 22,_=>yGx e aC aP aL fi f0 f1 g0 g1 K c0 c1 c2 c3
  | 23,_=>yGy e aC aP aL fi f0 f1 g0 g1 K c0 c1 c2 c3
  | k+24,h=>absurd h (by show ¬k+24<24;omega)
 ub:=fun fi f0 f1 g0 g1 p0 p1 k hk=>match k,hk with
  | 0,_=>⟨(V3 fi f0 f1 g0 g1 p0 p1 c0 c1 c2 c3).1,(V3 fi f0 f1 g0 g1 p0 p1 c0 c1 c2 c3).2,fun j hj=>by cases hj⟩
  | 1,_=>⟨(VA fi f0 f1 g0 g1 p0 p1 c0 c1 c2 c3).1,(VA fi f0 f1 g0 g1 p0 p1 c0 c1 c2 c3).2.1,fun j hj=>by cases hj;exact (VA fi f0 f1 g0 g1 p0 p1 c0 c1 c2 c3).2.2⟩
  | 2,_=>⟨(VB fi f0 f1 g0 g1 p0 p1 c0 c1 c2 c3).1,(VB fi f0 f1 g0 g1 p0 p1 c0 c1 c2 c3).2.1,fun j hj=>by cases hj;exact (VB fi f0 f1 g0 g1 p0 p1 c0 c1 c2 c3).2.2⟩
  | 3,_=>⟨(VD fi f0 f1 g0 g1 p0 p1 c0 c1 c2 c3).1,(VD fi f0 f1 g0 g1 p0 p1 c0 c1 c2 c3).2.1,fun j hj=>by cases hj;exact (VD fi f0 f1 g0 g1 p0 p1 c0 c1 c2 c3).2.2⟩
  | 4,_=>⟨(VE fi f0 f1 g0 g1 p0 p1 c0 c1 c2 c3).1,(VE fi f0 f1 g0 g1 p0 p1 c0 c1 c2 c3).2.1,fun j hj=>by cases hj;exact (VE fi f0 f1 g0 g1 p0 p1 c0 c1 c2 c3).2.2⟩
  | 5,_=>⟨(VF fi f0 f1 g0 g1 p0 p1 c0 c1 c2 c3).1,(VF fi f0 f1 g0 g1 p0 p1 c0 c1 c2 c3).2.1,fun j hj=>by cases hj;exact (VF fi f0 f1 g0 g1 p0 p1 c0 c1 c2 c3).2.2⟩
  | 6,_=>⟨(VG fi f0 f1 g0 g1 p0 p1 c0 c1 c2 c3).1,(VG fi f0 f1 g0 g1 p0 p1 c0 c1 c2 c3).2.1,fun j hj=>by cases hj;exact (VG fi f0 f1 g0 g1 p0 p1 c0 c1 c2 c3).2.2⟩
  | 7,_=>⟨(VH fi f0 f1 g0 g1 p0 p1 c0 c1 c2 c3).1,(VH fi f0 f1 g0 g1 p0 p1 c0 c1 c2 c3).2.1,fun j hj=>by cases hj;exact (VH fi f0 f1 g0 g1 p0 p1 c0 c1 c2 c3).2.2⟩
  | 8,_=>⟨(VI fi f0 f1 g0 g1 p0 p1 c0 c1 c2 c3).1,(VI fi f0 f1 g0 g1 p0 p1 c0 c1 c2 c3).2.1,fun j hj=>by cases hj;exact (VI fi f0 f1 g0 g1 p0 p1 c0 c1 c2 c3).2.2⟩
  | 9,_=>⟨(VJ fi f0 f1 g0 g1 p0 p1 c0 c1 c2 c3).1,(VJ fi f0 f1 g0 g1 p0 p1 c0 c1 c2 c3).2.1,fun j hj=>by cases hj;exact (VJ fi f0 f1 g0 g1 p0 p1 c0 c1 c2 c3).2.2⟩
  | 10,_=>⟨(VK fi f0 f1 g0 g1 p0 p1 c0 c1 c2 c3).1,(VK fi f0 f1 g0 g1 p0 p1 c0 c1 c2 c3).2.1,fun j hj=>by cases hj;exact (VK fi f0 f1 g0 g1 p0 p1 c0 c1 c2 c3).2.2⟩
  | 11,_=>⟨(VL fi f0 f1 g0 g1 p0 p1 c0 c1 c2 c3).1,(VL fi f0 f1 g0 g1 p0 p1 c0 c1 c2 c3).2.1,fun j hj=>by cases hj;exact (VL fi f0 f1 g0 g1 p0 p1 c0 c1 c2 c3).2.2⟩
  | 12,_=>⟨(VM fi f0 f1 g0 g1 p0 p1 c0 c1 c2 c3).1,(VM fi f0 f1 g0 g1 p0 p1 c0 c1 c2 c3).2.1,fun j hj=>by cases hj;exact (VM fi f0 f1 g0 g1 p0 p1 c0 c1 c2 c3).2.2⟩
  | 13,_=>⟨(VN fi f0 f1 g0 g1 p0 p1 c0 c1 c2 c3).1,(VN fi f0 f1 g0 g1 p0 p1 c0 c1 c2 c3).2.1,fun j hj=>by cases hj;exact (VN fi f0 f1 g0 g1 p0 p1 c0 c1 c2 c3).2.2⟩
  | 14,_=>⟨(VO fi f0 f1 g0 g1 p0 p1 c0 c1 c2 c3).1,(VO fi f0 f1 g0 g1 p0 p1 c0 c1 c2 c3).2.1,fun j hj=>by cases hj;exact (VO fi f0 f1 g0 g1 p0 p1 c0 c1 c2 c3).2.2⟩
  | 15,_=>⟨(VQ fi f0 f1 g0 g1 p0 p1 c0 c1 c2 c3).1,(VQ fi f0 f1 g0 g1 p0 p1 c0 c1 c2 c3).2.1,fun j hj=>by cases hj;exact (VQ fi f0 f1 g0 g1 p0 p1 c0 c1 c2 c3).2.2⟩
  | 16,_=>⟨(VS fi f0 f1 g0 g1 p0 p1 c0 c1 c2 c3).1,(VS fi f0 f1 g0 g1 p0 p1 c0 c1 c2 c3).2.1,fun j hj=>by cases hj;exact (VS fi f0 f1 g0 g1 p0 p1 c0 c1 c2 c3).2.2⟩
  | 17,_=>⟨(VT fi f0 f1 g0 g1 p0 p1 c0 c1 c2 c3).1,(VT fi f0 f1 g0 g1 p0 p1 c0 c1 c2 c3).2.1,fun j hj=>by cases hj;exact (VT fi f0 f1 g0 g1 p0 p1 c0 c1 c2 c3).2.2⟩
  | 18,_=>⟨(VU fi f0 f1 g0 g1 p0 p1 c0 c1 c2 c3).1,(VU fi f0 f1 g0 g1 p0 p1 c0 c1 c2 c3).2.1,fun j hj=>by cases hj;exact (VU fi f0 f1 g0 g1 p0 p1 c0 c1 c2 c3).2.2⟩
  | 19,_=>⟨(VV fi f0 f1 g0 g1 p0 p1 c0 c1 c2 c3).1,(VV fi f0 f1 g0 g1 p0 p1 c0 c1 c2 c3).2.1,fun j hj=>by cases hj;exact (VV fi f0 f1 g0 g1 p0 p1 c0 c1 c2 c3).2.2⟩
  | 20,_=>⟨(VW fi f0 f1 g0 g1 p0 p1 c0 c1 c2 c3).1,(VW fi f0 f1 g0 g1 p0 p1 c0 c1 c2 c3).2.1,fun j hj=>by cases hj;exact (VW fi f0 f1 g0 g1 p0 p1 c0 c1 c2 c3).2.2⟩
  | 21,_=>⟨(VX fi f0 f1 g0 g1 p0 p1 c0 c1 c2 c3).1,(VX fi f0 f1 g0 g1 p0 p1 c0 c1 c2 c3).2.1,fun j hj=>by cases hj;exact (VX fi f0 f1 g0 g1 p0 p1 c0 c1 c2 c3).2.2⟩
  | 22,_=>⟨(VY fi f0 f1 g0 g1 p0 p1 c0 c1 c2 c3).1,(VY fi f0 f1 g0 g1 p0 p1 c0 c1 c2 c3).2.1,fun j hj=>by cases hj;exact (VY fi f0 f1 g0 g1 p0 p1 c0 c1 c2 c3).2.2⟩
  | 23,_=>⟨(VZ fi f0 f1 g0 g1 p0 p1 c0 c1 c2 c3).1,(VZ fi f0 f1 g0 g1 p0 p1 c0 c1 c2 c3).2.1,fun j hj=>by cases hj;exact (VZ fi f0 f1 g0 g1 p0 p1 c0 c1 c2 c3).2.2⟩
  | k+24,h=>absurd h (by show ¬k+24<24;omega)
 ct:=fun e aC aP aL Q=>Wj e aC aP aL c0 c1 c2 c3 Q
 fin:=fun e aC aP aL fi f0 f1 g0 g1 K j hj hf=>match j,hj,hf with
  | 0,_,hf=>⟨_,by rw [dW,show fi (aJ 4 23)=_ from hf];exact yKw g0 g1 c0 c1 c2 c3 _ _,yKx e aC aP aL g0 g1 c0 c1 c2 c3 _ _ K⟩
  | 1,_,hf=>⟨_,by rw [dW,show fi (aJ 4 23)=_ from hf];exact yKy g0 g1 c0 c1 c2 c3 _ _,yKz e aC aP aL g0 g1 c0 c1 c2 c3 _ _ K⟩
  | 2,_,hf=>⟨_,by rw [dW,show fi (aJ 4 23)=_ from hf];exact yKA g0 g1 c0 c1 c2 c3 _ _,yKB e aC aP aL g0 g1 c0 c1 c2 c3 _ _ K⟩
  | 3,_,hf=>⟨_,by rw [dW,show fi (aJ 4 23)=_ from hf];exact yKC g0 g1 c0 c1 c2 c3 _ _,yKD e aC aP aL g0 g1 c0 c1 c2 c3 _ _ K⟩
  | 4,_,hf=>⟨_,by rw [dW,show fi (aJ 4 23)=_ from hf];exact yKE g0 g1 c0 c1 c2 c3 _ _,yKF e aC aP aL g0 g1 c0 c1 c2 c3 _ _ K⟩
  | 5,_,hf=>⟨_,by rw [dW,show fi (aJ 4 23)=_ from hf];exact yKG g0 g1 c0 c1 c2 c3 _ _,yKH e aC aP aL g0 g1 c0 c1 c2 c3 _ _ K⟩
  | 6,_,hf=>⟨_,by rw [dW,show fi (aJ 4 23)=_ from hf];exact yKI g0 g1 c0 c1 c2 c3 _ _,yKJ e aC aP aL g0 g1 c0 c1 c2 c3 _ _ K⟩
  | 7,_,hf=>⟨_,by rw [dW,show fi (aJ 4 23)=_ from hf];exact yKK g0 g1 c0 c1 c2 c3 _ _,yKL e aC aP aL g0 g1 c0 c1 c2 c3 _ _ K⟩
  | 8,_,hf=>⟨_,by rw [dW,show fi (aJ 4 23)=_ from hf];exact yKM g0 g1 c0 c1 c2 c3 _ _,yKN e aC aP aL g0 g1 c0 c1 c2 c3 _ _ K⟩
  | 9,_,hf=>⟨_,by rw [dW,show fi (aJ 4 23)=_ from hf];exact yKO g0 g1 c0 c1 c2 c3 _ _,yKP e aC aP aL g0 g1 c0 c1 c2 c3 _ _ K⟩
  | 10,_,hf=>⟨_,by rw [dW,show fi (aJ 4 23)=_ from hf];exact yGO g0 g1 c0 c1 c2 c3 _ _,yGP e aC aP aL g0 g1 c0 c1 c2 c3 _ _ K⟩
  | 11,_,hf=>⟨_,by rw [dW,show fi (aJ 4 23)=_ from hf];exact yGQ g0 g1 c0 c1 c2 c3 _ _,yGR e aC aP aL g0 g1 c0 c1 c2 c3 _ _ K⟩
  | 12,_,hf=>⟨_,by rw [dW,show fi (aJ 4 23)=_ from hf];exact yGS g0 g1 c0 c1 c2 c3 _ _,yGT e aC aP aL g0 g1 c0 c1 c2 c3 _ _ K⟩
  | 13,_,hf=>⟨_,by rw [dW,show fi (aJ 4 23)=_ from hf];exact yGU g0 g1 c0 c1 c2 c3 _ _,yGV e aC aP aL g0 g1 c0 c1 c2 c3 _ _ K⟩
  | 14,_,hf=>⟨_,by rw [dW,show fi (aJ 4 23)=_ from hf];exact yGW g0 g1 c0 c1 c2 c3 _ _,yGX e aC aP aL g0 g1 c0 c1 c2 c3 _ _ K⟩
  | 15,_,hf=>⟨_,by rw [dW,show fi (aJ 4 23)=_ from hf];exact yGY g0 g1 c0 c1 c2 c3 _ _,yGZ e aC aP aL g0 g1 c0 c1 c2 c3 _ _ K⟩
  | 16,_,hf=>⟨_,by rw [dW,show fi (aJ 4 23)=_ from hf];exact yG0 g0 g1 c0 c1 c2 c3 _ _,yG1 e aC aP aL g0 g1 c0 c1 c2 c3 _ _ K⟩
  | 17,_,hf=>⟨_,by rw [dW,show fi (aJ 4 23)=_ from hf];exact yG2 g0 g1 c0 c1 c2 c3 _ _,yG3 e aC aP aL g0 g1 c0 c1 c2 c3 _ _ K⟩
  | 18,_,hf=>⟨_,by rw [dW,show fi (aJ 4 23)=_ from hf];exact yG4 g0 g1 c0 c1 c2 c3 _ _,yG5 e aC aP aL g0 g1 c0 c1 c2 c3 _ _ K⟩
  | 19,_,hf=>⟨_,by rw [dW,show fi (aJ 4 23)=_ from hf];exact yG6 g0 g1 c0 c1 c2 c3 _ _,yG7 e aC aP aL g0 g1 c0 c1 c2 c3 _ _ K⟩
  | 20,_,hf=>⟨_,by rw [dW,show fi (aJ 4 23)=_ from hf];exact yG8 g0 g1 c0 c1 c2 c3 _ _,yG9 e aC aP aL g0 g1 c0 c1 c2 c3 _ _ K⟩
  | 21,_,hf=>⟨_,by rw [dW,show fi (aJ 4 23)=_ from hf];exact yHa g0 g1 c0 c1 c2 c3 _ _,yHb e aC aP aL g0 g1 c0 c1 c2 c3 _ _ K⟩
  | 22,_,hf=>⟨_,by rw [dW,show fi (aJ 4 23)=_ from hf];exact yHc g0 g1 c0 c1 c2 c3 _ _,yHd e aC aP aL g0 g1 c0 c1 c2 c3 _ _ K⟩
  | 23,_,hf=>⟨_,by rw [dW,show fi (aJ 4 23)=_ from hf];exact yHe g0 g1 c0 c1 c2 c3 _ _,yHf e aC aP aL g0 g1 c0 c1 c2 c3 _ _ K⟩
  | k+24,h,_=>absurd h (by show ¬k+24<24;omega)
def EA (E:Env) (F:aG) (H:Hp) (Q:Ex→aG→Hp→Prop):Ex→aG→Hp→Prop:=fun x _ H'=>match x with
 | .norm | .ret=>∃ H2,clrY E.yn H.length H'=some H2∧Q .norm F H2
 | _=>False
theorem yE8 {P:EP} {E:Env} (hE:∀ n e,P n e→e=E) {g:Opd} {n:Nat} {first cap:List PV} {fn:AFn} {F:aG} {H:Hp} {ps:List Nat} {as bd:AC} {Q:Ex→aG→Hp→Prop}
  (hg:evV E F g=some (.fn (.func n) first cap)) (hfn:E.fns n=some fn) (hc:(first++[PV.fn (.yield E.yn) [] []]++cap).length=fn.nparams) (hrs:fn.results.length=0)
  (h:cF (Rng E (iI F) ps as bd) fn.body (jY 0 (first++[PV.fn (.yield E.yn) [] []]++cap)) H (EA E F H Q)):cF P (.rangeF g ps as bd) F H Q:=by
 obtain ⟨x,F',H',hk,m0,hm⟩:=h;have run:∀ k,m0≤k→exec (E.push ⟨iI F,ps,as,bd⟩ (hnd E (iI F) ps as bd k)) k fn.body (jY 0 (first++[PV.fn (.yield E.yn) [] []]++cap)) H=some (x,F',H'):=fun k hle=>hm k _ k hle rfl hle
 cases x with
 | norm=>
  obtain ⟨H2,hcl,hk⟩:=hk;refine cF.up (m0:=m0) hk fun n e k hn hp hle=>?_
  cases hE n e hp
  rw [Ip hg hfn ⟨hc,hrs⟩,run k hle];simp only [FK,hcl]
 | ret=>
  obtain ⟨H2,hcl,hk⟩:=hk;refine cF.up (m0:=m0) hk fun n e k hn hp hle=>?_
  cases hE n e hp
  rw [Ip hg hfn ⟨hc,hrs⟩,run k hle];simp only [FK,hcl]
 | brk k0 i=>exact hk.elim
 | exit i=>exact hk.elim
section
variable (n:Nat) (qs:Nat→Rat)
def bI:Nat→Nat
 | 0=>0
 | k+1=>if qs (bI k)<qs (k+1) then k+1 else bI k
def oZ (rows:List PV):Nat:=bE n (bI qs (fI n rows))
def pA (rows:List PV):Int:=(qs (bI qs (fI n rows))).num
def pB (rows:List PV):Int:=(qs (bI qs (fI n rows))).den
def xI (rows:List PV):Int:=(qs (fI n rows)).num
def xJ (rows:List PV):Int:=(qs (fI n rows)).den
theorem Hv:∀ k,bI qs k≤k
 | 0=>cQ _
 | k+1=>by
  unfold bI
  by_cases c:qs (bI qs k)<qs (k+1)
  ·rw [WN c];exact cQ _
  ·rw [WO c];have:=Hv k;omega
theorem Wp:∀ k j,j≤k→qs j≤qs (bI qs k)
 | 0,j,h=>by
  have:j=0:=by omega
  subst this;exact kL
 | k+1,j,h=>by
  unfold bI
  by_cases c:qs (bI qs k)<qs (k+1)
  ·rw [WN c]
   by_cases d:j=k+1
   ·subst d;exact kL
   ·have:=Wp k j (by omega);grind
  ·rw [WO c]
   by_cases d:j=k+1
   ·subst d;grind
   ·exact Wp k j (by omega)
end
section
variable {e:Es}
theorem sM (he:EG e) {c:TC} {F:aG} {H:Hp} {Q:Ex→aG→Hp→Prop} (hf:ybs (jE c)=true) (hl:mI (jE c)=[]) (h:wX e mU nH gX c F H Q):cF (nQ (E e)) (bM (jE c)) F H Q:=by unfold wX at h;have hg:=eJ (SEOk.solo (S:=bS e) (Wa he)) 4;exact nR (lp:=fun _ _ _ _ _=>False) (jE c) (nQ (E e)) (aX.solo _) hg (cG.flat hf) [] cJ (dT.no _ _) (bW hl hf) _ _ _ h
variable {L:List PV} {n:Nat} {qs:Nat→Rat}
def Wq (n:Nat) (qs:Nat→Rat) (L:List PV) (vs:List PV) (H:Hp):Prop:=∃ k,k<cA n∧(vs,H)=aB (oZ n qs) (pA n qs) (pB n qs) (xI n qs) (xJ n qs) L n k
theorem yHg (bk:BK L n) (hq:∀ k,k<cA n→small (qs k)∧∀ K:Int→Int→Prop,nH L (aJ n k) K=K (qs k).num (qs k).den) {vs:List PV} {H:Hp} (hy:Wq n qs L vs H) :
  wY e mU nH gX vs H fun r H'=>r=none∧H'=bT (oZ n qs) (pA n qs) (pB n qs) (xI n qs) (xJ n qs) vs H:=by
 obtain ⟨k,hk,he⟩:=hy;have hv:vs=(aB (oZ n qs) (pA n qs) (pB n qs) (xI n qs) (xJ n qs) L n k).1:=Aaa Prod.fst he;have hH:H=(aB (oZ n qs) (pA n qs) (pB n qs) (xI n qs) (xJ n qs) L n k).2:=Aaa Prod.snd he;rw [hv,hH,bk.yb _ _ _ _ _ _ _ _ _ _ k hk];unfold gI;rw [(hq k hk).2];obtain ⟨u1,u2,u3⟩:=bk.ub (oZ n qs) (pA n qs) (pB n qs) (xI n qs) (xJ n qs) (qs k).num (qs k).den k hk;have hr:=bk.rk k hk;have g0:xI n qs (aJ n k)=(qs k).num:=by unfold xI;rw [hr]
 have g1:xJ n qs (aJ n k)=(qs k).den:=by unfold xJ;rw [hr]
 cases k with
 | zero=>
  refine ⟨rfl,?_⟩;rw [u1,u2,g0,g1];have a0:oZ n qs (aJ n 0)=bE n 0:=by unfold oZ;rw [hr];rfl
  have a1:pA n qs (aJ n 0)=(qs 0).num:=by unfold pA;rw [hr];rfl
  have a2:pB n qs (aJ n 0)=(qs 0).den:=by unfold pB;rw [hr];rfl
  rw [a0,a1,a2]
 | succ j=>
  have hj:=bk.rk j (by omega);have hb:=Hv qs j;dsimp only;have s0:pA n qs (aJ n j)=(qs (bI qs j)).num:=by unfold pA;rw [hj]
  have s1:pB n qs (aJ n j)=(qs (bI qs j)).den:=by unfold pB;rw [hj]
  have s2:oZ n qs (aJ n j)=bE n (bI qs j):=by unfold oZ;rw [hj]
  rw [s0,s1,US (hq _ (by omega)).1 (hq _ hk).1];have t0:pA n qs (aJ n (j+1))=(qs (bI qs (j+1))).num:=by unfold pA;rw [hr]
  have t1:pB n qs (aJ n (j+1))=(qs (bI qs (j+1))).den:=by unfold pB;rw [hr]
  have t2:oZ n qs (aJ n (j+1))=bE n (bI qs (j+1)):=by unfold oZ;rw [hr]
  by_cases c:qs (bI qs j)<qs (j+1)
  ·have hb2:bI qs (j+1)=j+1:=by show (if _ then _ else _)=_;rw [WN c]
   rw [Eb c];refine ⟨rfl,?_⟩;rw [u1,u2,g0,g1,t0,t1,t2,hb2]
  ·have hb2:bI qs (j+1)=bI qs j:=by show (if _ then _ else _)=_;rw [WO c]
   rw [Os c];refine ⟨rfl,?_⟩;rw [u1,u3 j rfl,g0,g1,t0,t1,t2,hb2,s0,s1,s2]
theorem yE9 (he:EG e) (bk:BK L n) (hn:0<cA n) (hc:∀ K:Int→Prop,K 0→mU L K) (hq:∀ k,k<cA n→small (qs k)∧∀ K:Int→Int→Prop,nH L (aJ n k) K=K (qs k).num (qs k).den) :
  mP (E e) oM [.data L] (.tup [.data (aJ n (bI qs (cA n-1))),bH (qs (bI qs (cA n-1))).num (qs (bI qs (cA n-1))).den,.int .i64 0]):=by
 have hlast:=bk.rk (cA n-1) (by omega);have hble:=Hv qs (cA n-1);have s0:pA n qs (aJ n (cA n-1))=(qs (bI qs (cA n-1))).num:=by unfold pA;rw [hlast]
 have s1:pB n qs (aJ n (cA n-1))=(qs (bI qs (cA n-1))).den:=by unfold pB;rw [hlast]
 have s2:oZ n qs (aJ n (cA n-1))=bE n (bI qs (cA n-1)):=by unfold oZ;rw [hlast]
 obtain ⟨H2,hcl,hfin⟩:=bk.fin e mU nH gX (oZ n qs) (pA n qs) (pB n qs) (xI n qs) (xJ n qs) (fun r=>r=.tup [.data (aJ n (bI qs (cA n-1))),bH (qs (bI qs (cA n-1))).num (qs (bI qs (cA n-1))).den,.int .i64 0]) (bI qs (cA n-1)) (by omega) s2;rw [s0,s1] at hfin;have hD:wX e mU nH gX gB dV H2 (cL fun r=>r=.tup [.data (aJ n (bI qs (cA n-1))),bH (qs (bI qs (cA n-1))).num (qs (bI qs (cA n-1))).den,.int .i64 0]):=by rw [hfin]
 have tD:=sM he (by kernel_rfl) (by kernel_rfl) hD;have hrun:=bk.run e mU nH gX (oZ n qs) (pA n qs) (pB n qs) (xI n qs) (xJ n qs) (Wq n qs L) (EA (E e) dV (vK L n) fun x F' H'=>x=.norm∧F'=dV∧H'=H2);have hW:wB e mU nH gX (oZ n qs) (pA n qs) (pB n qs) (xI n qs) (xJ n qs) (Wq n qs L) L n (EA (E e) dV (vK L n) fun x F' H'=>x=.norm∧F'=dV∧H'=H2):=by rw [hrun];refine Wb _ _ _ _ _ _ n _ _ (fun p hp=>?_) ⟨H2,hcl,rfl,rfl,rfl⟩;obtain ⟨k,hk,hkk⟩:=Cx hp;have hk2:=hk;rw [bk.len] at hk2;refine ⟨k,hk2,?_⟩;unfold aB;rw [dQ,dF hk,hkk];rfl
 have tB:=yLU _ _ _ _ _ _ he (fun vs H hy=>yHg bk hq hy) hW;have tR:cF (nQ (E e)) (.rangeF (.t 16) [17] (bM (jE Gw)) (bM (jE Gx))) dV (vK L n) fun x F' H'=>x=.norm∧F'=dV∧H'=H2:=
  yE8 (fun _ _ h=>h) (n:=ID) (first:=[]) (cap:=[.ptr 3 1 0 0]) (fn:=(Ht Gl).fn) (by kernel_rfl) (by kernel_rfl) (by kernel_rfl) (by kernel_rfl) tB
 have tAll:cF (nQ (E e)) yF3.fn.body (jY 0 [.data L]) [] (cL fun r=>r=.tup [.data (aJ n (bI qs (cA n-1))),bH (qs (bI qs (cA n-1))).num (qs (bI qs (cA n-1))).den,.int .i64 0]):=by rw [V8];refine cF.seq (sM he (by kernel_rfl) (by kernel_rfl) ?_);rw [W0];refine cF.seq (sM he (by kernel_rfl) (by kernel_rfl) ?_);rw [W5];refine hc _ ?_;refine cF.seq (cF.seq (sM he (by kernel_rfl) (by kernel_rfl) ?_));rw [bk.ct];refine cF.block (cF.mono tR ?_);rintro x F' H' ⟨rfl,rfl,rfl⟩;exact tD
 obtain ⟨r,H',hr,m0,hm⟩:=cF.inl_ (aX.solo (E e)) (n:=oM) (fn:=yF3.fn) (by kernel_rfl) (he.num _ (by kernel_rfl)) (K:=fun r H'=>purR H' r=some (.tup [.data (aJ n (bI qs (cA n-1))),bH (qs (bI qs (cA n-1))).num (qs (bI qs (cA n-1))).den,.int .i64 0])) rfl
  (cF.mono tAll (by
   intro x F' H' h;unfold cL at h
   cases x with
   | norm=>
    dsimp only at h ⊢;show (match ycF F' H' yF3.results with | some ps=>purR H' (lL ps)=_ | none=>False)
    cases hp:ycF F' H' yF3.results with
    | none=>rw [hp] at h;exact h.elim
    | some ps=>
     rw [hp] at h;dsimp only at h ⊢
     cases hr:purR H' (lL ps) with
     | none=>rw [hr] at h;exact h.elim
     | some r=>rw [hr] at h;exact Aaa some h
   | ret=>
    dsimp only at h ⊢;show (match ycF F' H' yF3.results with | some ps=>purR H' (lL ps)=_ | none=>False)
    cases hp:ycF F' H' yF3.results with
    | none=>rw [hp] at h;exact h.elim
    | some ps=>
     rw [hp] at h;dsimp only at h ⊢
     cases hr:purR H' (lL ps) with
     | none=>rw [hr] at h;exact h.elim
     | some r=>rw [hr] at h;exact Aaa some h
   | exit i=>exact h.elim
   | brk _ _=>exact h.elim))
 refine ⟨m0,fun k x m h1 h2 h3=>?_⟩;have h2':x=E e:=h2;have hmm:=hm k x m h1 h2 h3;subst h2';unfold ycj;have hs:(E e).sum oM [.data L]=none:=lO (by kernel_rfl) _;rw [hs,show (E e).qui oM=true from by kernel_rfl,hmm,show (E e).nl oM=false from by kernel_rfl];exact hr
end
structure FL (l:List Ck):Prop where
 d:DK l
 h4:l.length≤4
 hun:∀ c∈l,Hk c.dens
def mZ (n k:Nat):List Int:=((eY n).filter fun p=>Nat.beq p.length n).getD k []
theorem Wr:∀ n,1≤n→n≤4→∀ k,k<cA n→mZ n k∈oB n
 | 1,_,_=>by decide +kernel
 | 2,_,_=>by decide +kernel
 | 3,_,_=>by decide +kernel
 | 4,_,_=>by decide +kernel
 | n+5,_,h=>absurd h (by omega)
theorem yFa:∀ n,1≤n→n≤4→∀ o∈oB n,∃ k,k<cA n∧mZ n k=o
 | 1,_,_=>by decide +kernel
 | 2,_,_=>by decide +kernel
 | 3,_,_=>by decide +kernel
 | 4,_,_=>by decide +kernel
 | n+5,_,h=>absurd h (by omega)
theorem Kl:∀ n,0<cA n
 | 0=>by decide
 | n+1=>Nat.mul_pos (by omega) (Kl n)
theorem yKQ:∀ (L:List PV),1≤L.length→L.length≤4→BK L L.length
 | [],h,_=>absurd h (by decide)
 | [c0],_,_=>Wl c0
 | [c0,c1],_,_=>Wm c0 c1
 | [c0,c1,c2],_,_=>Wn c0 c1 c2
 | [c0,c1,c2,c3],_,_=>Wo c0 c1 c2 c3
 | _::_::_::_::_::_,_,h=>absurd h (by simp only [kK];omega)
section
variable {l:List Ck}
theorem FL.ft (h:FL l) {o:List Int} (ho:o∈oB l.length):Ft l o:=⟨h.d,h.h4,h.hun,ho⟩
theorem FL.parts (h:FL l):∃ qs:Nat→Rat,∀ k,k<cA l.length→FinS (oC l) (nK l (mZ l.length k)) (qs k)∧small (qs k)∧∀ K:Int→Int→Prop,nH (cks l) (aJ l.length k) K=K (qs k).num (qs k).den:=by
 have hn:=h.d.n0;have hex:∀ k,∃ q:Rat,k<cA l.length→FinS (oC l) (nK l (mZ l.length k)) q∧small q∧∀ K:Int→Int→Prop,nH (cks l) (aJ l.length k) K=K q.num q.den:=fun k=>by
  by_cases hk:k<cA l.length
  ·obtain ⟨q,h1,h2,h3⟩:=(h.ft (Wr l.length (by omega) h.h4 k hk)).part;exact ⟨q,fun _=>⟨h1,h2,h3⟩⟩
  ·exact ⟨0,fun k=>absurd k hk⟩
 exact Classical.skolem.1 hex
theorem W6 {o:List Int} (h:Ft l o) {q r:Rat} (hq:FinS (oC l) (nK l o) q) (hr:FinS (oC l) (nK l o) r):q=r:=by
 obtain ⟨n1,n2,n3⟩:=h.n;have hne:nK l o≠[]:=fun k=>by have:=Ev (l:=l) (o:=o);rw [k] at this;simp at this;omega
 obtain ⟨c,hc⟩:=List.exists_mem_of_ne_nil _ hne;have:=(Cp (h.ok c hc).1).1;exact FinS.uniq h.ok (by grind) hq hr
theorem FL.best (h:FL l):∃ (o:List Int) (q:Rat),o∈oB l.length∧FinS (oC l) (nK l o) q∧small q∧(∀ o'∈oB l.length,∀ r,FinS (oC l) (nK l o') r→r≤q)∧(∃ qs:Nat→Rat,(∀ k,k<cA l.length→FinS (oC l) (nK l (mZ l.length k)) (qs k))∧o=mZ l.length (bI qs (cA l.length-1))∧q=qs (bI qs (cA l.length-1))) ∧
  ∀ K:List PV→Int→Int→Int→Prop,GU (cks l) K=K (aD o) q.num q.den 0:=by
 have hn:=h.d.n0;have hf:=Kl l.length;obtain ⟨qs,hq⟩:=h.parts;have hb:=Hv qs (cA l.length-1);have hlt:bI qs (cA l.length-1)<cA l.length:=by omega
 have hp:=Wr l.length (by omega) h.h4 _ hlt;refine ⟨_,_,hp,(hq _ hlt).1,(hq _ hlt).2.1,fun o' ho' r hr=>?_,⟨qs,fun k hk=>(hq k hk).1,rfl,rfl⟩,fun K=>?_⟩
 ·obtain ⟨k,hk,rfl⟩:=yFa l.length (by omega) h.h4 o' ho';rw [W6 (h.ft ho') hr (hq k hk).1];exact Wp qs _ k (by omega)
 ·refine I7 _ _ _ _ _ (fun K k=>⟨_,_,_,_,k,fun e he=>?_⟩) K;have bk:=yKQ (cks l) (by rw [iQ];omega) (by rw [iQ];exact h.h4);rw [iQ] at bk;exact yE9 he bk hf (fun K k=>by rw [(h.ft hp).check];exact k) (fun k hk=>(hq k hk).2)
end
def oD (k n:Nat):PV:=.own k 0 n n (some n)
def dG (l:List PV):HB:=⟨false,true,1,l⟩
def lT (l:List PV):HB:=⟨false,true,4,l⟩
def Cu (L ord:List PV) (n:Nat):aG:=[(0,.v (.data L)),(1,.v (.data ord)),(4,.box (bH 0 0)),(5,.v (.int .i64 n)),(6,.v (oD 0 n)),(7,.v (oD 1 n))]
def AJ (L ord:List PV) (n:Nat) (x:L4) (out:PV) (i:Int):aG:=[(0,.v (.data L)),(1,.v (.data ord)),(2,.v (oD 0 n)),(3,.v (oD 1 n)),(9,.box x.v),(10,.v out),(11,.v (.int .i64 i))]
def vL (L ord:List PV) (n:Nat) (x:L4) (out:PV) (i:Int):aG:=AJ L ord n x out i++[(20,.v (.bool false))]
def EB (L ord:List PV) (n m:Nat) (q0 q1 i:Int):aG:=[(0,.v (.data L)),(1,.v (.data ord)),(4,.box (bH 0 0)),(5,.v (.int .i64 n)),(6,.v (oD 0 n)),(7,.v (oD 1 n)),(8,.v (.own 2 0 m m none)),(9,.box (bH q0 q1)),(10,.v (.int .i64 i))]
def AK (L ord:List PV) (n m:Nat) (q0 q1 i:Int):aG:=EB L ord n m q0 q1 i++[(37,.v (.bool false))]
def EC (L ord:List PV) (n m:Nat) (q0 q1 i:Int):aG:=[(0,.v (.data L)),(1,.v (.data ord)),(4,.box (bH 0 0)),(5,.v (.int .i64 n)),(6,.v (oD 0 n)),(7,.v (oD 1 n)),(8,.v (.own 2 0 m m none)),(9,.box (bH q0 q1)),(13,.v (.int .i64 i))]
def AL (L ord:List PV) (n m:Nat) (q0 q1 i:Int):aG:=EC L ord n m q0 q1 i++[(111,.v (.bool false))]
def mL (r:PV):L4:=⟨bV (fB r 0),bV (fB r 1),bV (fB r 2),bV (fB r 3)⟩
def sN:Sh:=.agg [.i .i64,.i .i64,.i .i64,.i .i64]
def oE (L ord:List PV) (i:Int) (K:PV→Prop):Prop:=lE ord i fun a=>aI (decide (0≤a)) (aI (decide (a<((L.length:Nat):Int))) (aI (aZ zK (L.getD a.toNat .nils)) (K (L.getD a.toNat .nils))))
def gQ (rows:List PV) (n:Nat) (sh:Sh) (i:Int) (K:PV→Prop):Prop:=aI (decide (0≤i)) (aI (decide (i<((n:Nat):Int))) (aI (decide (rows.length=n)) (aI (decide (0+i.toNat<rows.length)) (aI (aZ sh (rows.getD (0+i.toNat) .nils)) (K (rows.getD (0+i.toNat) .nils))))))
def vM (rows:List PV) (n:Nat) (i:Int) (K:List PV→Prop):Prop:=gQ rows n zI i fun t=>aI (decide (0≤i)) (aI (decide (i<((n:Nat):Int))) (aI (decide (rows.length=n)) (aI (decide (0+i.toNat<rows.length)) (aI (aZ zI (rows.getD (0+i.toNat) .nils)) (K (rows.set (0+i.toNat) (.int .i64 (i64.wrap (bV t+1)))))))))
section
variable (e:Es) (aW aP:TX) (aR:qV) (aL:(Int→Int→Int→Int→(Bool→Prop)→Prop)) (aO:(Int→(Int→Int→Prop)→Prop)) (aA:iO) (aT:nG)
variable (L ord fr to ls:List PV) (n m:Nat) (x:L4) (i q0 q1:Int) (Rn:aG→Hp→Prop) (Q:Ex→aG→Hp→Prop)
def smF:Nat→Option (List PV→(PV→Prop)→Prop):=yko [(IP,GZ.pw aW),(IR,GZ.pw aP),(wN,GT.pw aR),(BC,Cc.pw aL),(nT,uX.pw aO),(uN,gF.pw aA),(IQ,Ai.pw aT)]
def ED (lp:LP):SE:=⟨E e,smF aW aP aR aL aO aA aT,yeG [(Py,Jo)],lp,fun _=>none⟩
def wF (lp:LP) (c:TC) (F:aG) (H:Hp) (Q:Ex→aG→Hp→Prop):Prop:=WC (E e) (gJ (ED e aW aP aR aL aO aA aT lp) 3) lp [] cJ c F H Q
def fA:LP:=fun _ _ _ _ _=>False
def cI (c:PV):Int:=bV (fB c 0)
def cC (c:PV):List PV:=lM (fB c 1)
def cD (c:PV):List PV:=lM (fB c 2)
def AM (K:L4→Prop):Prop:=
 oE L ord i fun c=>gQ fr n zI i fun f=>aW (cI c) (cC c) (cD c) (bV f) x.a x.b x.c x.d fun w0 w1 w2 w3=>aT (cI c) (cC c) (cD c) fun t=>aO t fun o0 o1=>aA w2 w3 o0 o1 fun b0 b1 _=>gQ to n zI i fun t=>aP (cI c) (cC c) (cD c) (bV t) w0 w1 b0 b1 fun p0 p1 p2 p3=>K ⟨p0,p1,p2,p3⟩
def QN (Rn:aG→Hp→Prop) (Q:Ex→aG→Hp→Prop):Ex→aG→Hp→Prop:=fun x F' H'=>match x with | .norm=>Rn F' H' | .exit i=>Q (.exit i) F' H' | .ret=>Q .ret F' H' | .brk k i=>Q (.brk k i) F' H'
theorem Ws:wF e aW aP aR aL aO aA aT fA BM (AJ L ord n x .nils i) [dG fr,dG to] (QN Rn Q) =
 aM (decide (i<((ord.length:Nat):Int))) (AM aW aP aO aA aT L ord fr to n x i fun p=>Rn (AJ L ord n p (.own 2 0 1 1 none) (i64.wrap (i+1))) [dG fr,dG to,lT [p.v]]) (Q (.exit 0) (vL L ord n x .nils i) [dG fr,dG to]):=by kernel_rfl
theorem Wt:wF e aW aP aR aL aO aA aT fA BM (AJ L ord n x (.own 2 0 m m none) i) [dG fr,dG to,lT ls] (QN Rn Q) =
 aM (decide (i<((ord.length:Nat):Int))) (AM aW aP aO aA aT L ord fr to n x i fun p=>aI (decide (ls.length=m)) (aI (decide (0+m≤m)) (aI (!decide (0+m+1≤m)) (aI (decide (m=m)) (aI (decide ((m+1+64)*(32+1)≤room)) (Rn (AJ L ord n p (.own 2 0 (ls++[p.v]).length (ls++[p.v]).length none) (i64.wrap (i+1))) [dG fr,dG to,lT (ls++[p.v])])))))) (Q (.exit 0) (vL L ord n x (.own 2 0 m m none) i) [dG fr,dG to,lT ls]):=by kernel_rfl
def bndO (K:Int→Int→Prop):Prop:=oE L ord i fun c=>gQ ls m sN i fun r=>gQ to n zI i fun t=>lE (cC c) (i64.wrap (bV t+1)) fun u=>aR (mL r).a (mL r).b (mL r).c (mL r).d u K
def bndN (K:Int→Int→Prop):Prop:=oE L ord (i64.wrap (i+1)) fun c=>gQ ls m sN i fun r=>gQ fr n zI (i64.wrap (i+1)) fun t=>lE (cC c) (i64.wrap (bV t+1)) fun u=>aR (mL r).a (mL r).b (mL r).c (mL r).d u K
def nxtR (K:Int→Int→Prop):Prop:=bndO aR L ord to ls n m i fun r0 r1=>aL r0 r1 q0 q1 fun b=>
 aM b (aM (decide (i64.wrap (i+1)<((n:Nat):Int))) (bndN aR L ord fr ls n m i fun s0 s1=>aL s0 s1 r0 r1 fun b=>aM b (K s0 s1) (K r0 r1)) (K r0 r1))
  (aM (decide (i64.wrap (i+1)<((n:Nat):Int))) (bndN aR L ord fr ls n m i fun s0 s1=>aL s0 s1 q0 q1 fun b=>aM b (K s0 s1) (K q0 q1)) (K q0 q1))
theorem Wu:wF e aW aP aR aL aO aA aT fA BN (EB L ord n m q0 q1 i) [dG fr,dG to,lT ls] (QG BN 3 Rn Q) =
 aM (decide (i<((n:Nat):Int))) (nxtR aR aL L ord fr to ls n m i q0 q1 fun s0 s1=>Rn (EB L ord n m s0 s1 (i64.wrap (i+1))) [dG fr,dG to,lT ls]) (Q (.exit 2) (AK L ord n m q0 q1 i) [dG fr,dG to,lT ls]):=by kernel_rfl
def bnmO (K:Int→Int→Prop):Prop:=gQ ls m sN i fun r=>oE L ord i fun c=>gQ to n zI i fun t=>lE (cC c) (i64.wrap (bV t+1)) fun u=>aR (mL r).a (mL r).b (mL r).c (mL r).d u K
def bnmN (K:Int→Int→Prop):Prop:=gQ ls m sN i fun r=>oE L ord (i64.wrap (i+1)) fun c=>gQ fr n zI (i64.wrap (i+1)) fun t=>lE (cC c) (i64.wrap (bV t+1)) fun u=>aR (mL r).a (mL r).b (mL r).c (mL r).d u K
def mvR (K:List PV→List PV→Prop):Prop:=
 let k2:=fun (to':List PV)=>aM (decide (i64.wrap (i+1)<((n:Nat):Int))) (bnmN aR L ord fr ls n m i fun s0 s1=>aM (qB s0 s1 q0 q1) (vM fr n (i64.wrap (i+1)) fun fr'=>K fr' to') (K fr to')) (K fr to')
 bnmO aR L ord to ls n m i fun r0 r1=>aM (qB r0 r1 q0 q1) (vM to n i fun to'=>k2 to') (k2 to)
theorem Wv:wF e aW aP aR aL aO aA aT fA BO (EC L ord n m q0 q1 i) [dG fr,dG to,lT ls] (QG BO 3 Rn Q) =
 aM (decide (i<((n:Nat):Int))) (mvR aR L ord fr to ls n m i q0 q1 fun fr' to'=>Rn (EC L ord n m q0 q1 (i64.wrap (i+1))) [dG fr',dG to',lT ls]) (Q (.exit 4) (AL L ord n m q0 q1 i) [dG fr,dG to,lT ls]):=by kernel_rfl
def AN (Lr:List PV) (K:Int→Int→Prop):Prop:=gQ ls m sN (i64.wrap ((n:Int)-1)) fun r=>aI (decide ((0:Int)<(((Lr.length+1:Nat)):Int))) (aR (mL r).a (mL r).b (mL r).c (mL r).d i K)
variable (Lr c0 d0 fr' to':List PV) (PL PB PM:aG→Hp→Prop→Prop) (x':L4)
def W7:LP:=fun id _ F H Q=>bif Nat.beq id 20688500 then PL F H (Q (.exit 0) (vL (L1 i c0 d0 Lr) ord n x' (.own 2 0 m m none) n) [dG fr,dG to,lT ls])
 else bif Nat.beq id 62969800 then PB F H (Q (.exit 2) (AK (L1 i c0 d0 Lr) ord n m q0 q1 n) [dG fr,dG to,lT ls])
 else bif Nat.beq id 62969801 then PM F H (Q (.exit 4) (AL (L1 i c0 d0 Lr) ord n m q0 q1 n) [dG fr',dG to',lT ls]) else False
theorem Ww:wF e aW aP aR aL aO aA aT (W7 ord fr to ls n m i q0 q1 Lr c0 d0 fr' to' PL PB PM x') Af (Cu (L1 i c0 d0 Lr) ord n) [dG fr,dG to] (QG Af 2 Rn Q) =
 aO 0 fun o0 o1=>aO 0 fun o2 o3=>PL (AJ (L1 i c0 d0 Lr) ord n ⟨o0,o1,o2,o3⟩ .nils 0) [dG fr,dG to] (AN aR ls n m i Lr fun r0 r1=>PB (EB (L1 i c0 d0 Lr) ord n m r0 r1 0) [dG fr,dG to,lT ls] (AN aR ls n m i Lr fun s0 s1=>aM (qB q0 q1 s0 s1) (Q .ret (sI q0 q1) [dG fr,dG to,lT ls]) (PM (EC (L1 i c0 d0 Lr) ord n m q0 q1 0) [dG fr,dG to,lT ls] (Rn (Cu (L1 i c0 d0 Lr) ord n) [dG fr',dG to'])))):=by kernel_rfl
def EE (PQ:aG→Hp→Prop→Prop) (q0 q1:Int):LP:=fun id _ F H Q=>bif Nat.beq id 62969802 then PQ F H (∀ H',Q .ret (sI q0 q1) H') else False
def wT2 (L:List PV) (PQ:aG→Hp→Prop→Prop) (K:PV→Prop):Prop:=WP (ED e aW aP aR aL aO aA aT (EE PQ q0 q1)) 3 Js [.data L,.data ord] K
theorem Wx (PQ:aG→Hp→Prop→Prop) (K:PV→Prop):wT2 e aW aP aR aL aO aA aT ord q0 q1 L PQ K =
 aI (decide (0≤(ord.length:Int))) (aI (decide ((ord.length:Int)≤(ord.length:Int))) (aI (decide (((ord.length:Int).toNat+64)*(8+1)≤room)) (aI (decide (0≤(ord.length:Int))) (aI (decide ((ord.length:Int)≤(ord.length:Int))) (aI (decide (((ord.length:Int).toNat+64)*(8+1)≤room)) (PQ (Cu L ord ord.length) [dG (replicate ord.length (.int .i64 0)),dG (replicate ord.length (.int .i64 0))] (∀ _:Hp,K (bH q0 q1)))))))):=by kernel_rfl
end
theorem W8 {L:Int} {c:Ck} (h:eI L c) {x0:Int→Int→List PV→List PV→Int→Int→Bool→Prop} {p:Int} {j:Nat} (hj:j≤c.dens.length):∀ (r i n:Nat),i+r=j→r<n →
  GY x0 n (j:Int) p (aD c.cuts) (aD c.dens) (upC c i) (i:Int)=x0 (j:Int) p (aD c.cuts) (aD c.dens) (upC c j) (j:Int) false
 | 0,i,n+1,hi,hn=>by
  unfold GY;have:i=j:=by omega
  subst this;rw [eE (by omega)]
 | r+1,i,n+1,hi,hn=>by
  have l1:=h.1.l1;have l2:=h.1.l2;have e1:=eQ (n:=(i:Int)+1) (by omega) (by omega);have u0:0≤upC c i∧upC c i≤12000:=by obtain ⟨a,b⟩:=xF h (i:=i) (by omega);exact ⟨vR.1 a,jF.1 (by show _≤(12000:Rat);exact b)⟩
  have u1:0≤upC c (i+1)∧upC c (i+1)≤12000:=by obtain ⟨a,b⟩:=xF h (i:=i+1) (by omega);exact ⟨vR.1 a,jF.1 (by show _≤(12000:Rat);exact b)⟩
  have es:upC c (i+1)=upC c i+c.dens.getD i 0*(c.cuts.getD (i+1) 0-c.cuts.getD i 0):=rfl;have ll:=h.1.len0;have lo:=h.1.lo (i:=i) (by omega);have hi0:=h.1.hi (i:=i) (by omega);have lo1:=h.1.lo (i:=i+1) (by omega);have hi1:=h.1.hi (i:=i+1) (by omega);unfold GY;dsimp only [Go.Pf.lt];rw [eC (by omega),bB (by omega),dZ,bB (by omega),dR,fP (by omega),e1,kD,bB (by omega),dZ,bB (by omega),dR,fP (by omega),bB (by omega),bB (by omega),fP (by omega),fG (by omega),fG (by omega),fG (by omega),eQ (n:=c.cuts.getD (i+1) 0-c.cuts.getD i 0) (by omega) (by omega),eQ (n:=c.dens.getD i 0*_) (by omega) (by omega),eQ (by omega) (by omega),← es];exact W8 h hj r (i+1) n (by omega) (by omega)
theorem W9 {L:Int} {c:Ck} (h:eI L c) {p:Int} {j:Nat} (hj:j≤c.dens.length) (K:Int→Prop):Ed p (aD c.cuts) (aD c.dens) (j:Int) K=K (upC c j):=by refine yh _ _ _ _ _ (fun K k=>?_) K;unfold Ed TU;exact ⟨j+1,(W8 h hj j 0 _ (by omega) (by omega)).mpr k⟩
def pC (c:Ck) (f:Nat) (x:Ln):Rat:=(x.A-aK c f)*aU c f+dJ c f
theorem yFb {L p:Int} {c:Ck} (h:eI L c) {f t k:Nat} (hf:f<c.dens.length) (ht:t<c.dens.length) {x:Ln} (hx:LB k x) (hk:k≤3) :
  (∀ K,ybI p (aD c.cuts) (aD c.dens) f x.A.num x.A.den x.B.num x.B.den K=K (pC c f x).num (pC c f x).den (x.B*aU c f).num (x.B*aU c f).den) ∧
  (∀ K,ybM (x.B*aU c f).num (x.B*aU c f).den (cS c).num (cS c).den K=K (x.B*aU c f+cS c).num (x.B*aU c f+cS c).den 0) ∧
  ∀ K,ybV p (aD c.cuts) (aD c.dens) t (pC c f x).num (pC c f x).den (x.B*aU c f+cS c).num (x.B*aU c f+cS c).den K=K (dD c f t x).A.num (dD c f t x).A.den (dD c f t x).B.num (dD c f t x).B.den:=by
 obtain ⟨F,b,F1,F2,hA,hB,b0,b1,m0,m1⟩:=hx.num hk;have l1:=h.1.l1;have df:=Hn h hf;have dt:=Hn h ht;have T:=UA h;have u1:=xF h (i:=f) (by omega);have u2:=xF h (i:=t) (by omega);have c1:=tS h (i:=f) (by omega);have c2:=tS h (i:=t) (by omega);have c3:=xE h (i:=f) (by omega);have c4:=xE h (i:=t) (by omega);have l:=(Cp h.1).2;have q1:(1:Rat)≤aU c t:=(jF (a:=1)).2 dt.1;have q2:aU c f≤12:=(Ay h.1 hf).2;have q3:0≤aU c f:=(Ay h.1 hf).1;have q4:aU c t≤12:=(Ay h.1 ht).2;have T0:0≤cS c:=vR.2 T.1;have T1:cS c≤12000:=(jF (b:=12000)).2 T.2;have hBb:=UT F1 b0 b1;rw [← hB] at hBb;have D1:1≤c.dens.getD t 0*F:=by have:=nB dt.1 F1 (by omega) (by omega);omega
 have D2:c.dens.getD t 0*F≤20736:=by have:=nB dt.2 F2 (by omega) (by omega);omega
 have iB:In F x.B:=⟨b,hB⟩;have v:=Kc (u:=x.A-aK c f) (M:=3926000) (d:=aU c f) (by grind) (by grind) q3 q2 (by grind);have vB:=Kc (u:=x.B) (M:=5184000) (d:=aU c f) (by grind) (by grind) q3 q2 (by grind);have eA:pC c f x-dJ c t=(x.A-aK c f)*aU c f+(dJ c f-dJ c t):=by unfold pC;grind
 have w:=Hm (u:=pC c f x-dJ c t) (M:=48000000) (by rw [eA];grind) (by rw [eA];grind) q1 (by grind);have wB:=Hm (u:=x.B*aU c f+cS c) (M:=63000000) (by grind) (by grind) q1 (by grind);have i1:In F (x.A-aK c f):=hA.sub (In.int F1 _);have i2:In F ((x.A-aK c f)*aU c f):=i1.mulI _;have i3:In F (pC c f x):=i2.add (In.int F1 _);have i3':In F (pC c f x-dJ c t):=i3.sub (In.int F1 _);have i4:In F (x.B*aU c f):=iB.mulI _;have i5:In F (x.B*aU c f+cS c):=i4.add (In.int F1 _);have s0:small x.A:=Bd.sm ⟨F,F1,by omega,hA,by grind,by grind⟩;have s0':small x.B:=Bd.sm ⟨F,F1,by omega,iB,by grind,by grind⟩;have s1:small (x.A-aK c f):=Bd.sm ⟨F,F1,by omega,i1,by grind,by grind⟩;have s2:small ((x.A-aK c f)*aU c f):=Bd.sm ⟨F,F1,by omega,i2,by grind,by grind⟩;have s3:small (pC c f x):=Bd.sm ⟨F,F1,by omega,i3,by unfold pC;grind,by unfold pC;grind⟩;have s3':small (pC c f x-dJ c t):=Bd.sm ⟨F,F1,by omega,i3',by rw [eA];grind,by rw [eA];grind⟩;have s4:small (x.B*aU c f):=Bd.sm ⟨F,F1,by omega,i4,by grind,by grind⟩;have s5:small (x.B*aU c f+cS c):=Bd.sm ⟨F,F1,by omega,i5,by grind,by grind⟩;have s6:small ((pC c f x-dJ c t)/aU c t):=Bd.sm ⟨_,D1,D2,In.div F1 dt.1 i3',by grind,by grind⟩;have s7:small ((pC c f x-dJ c t)/aU c t+aK c t):=Bd.sm ⟨_,D1,D2,(In.div F1 dt.1 i3').add (In.int D1 _),by grind,by grind⟩;have s8:small ((x.B*aU c f+cS c)/aU c t):=Bd.sm ⟨_,D1,D2,In.div F1 dt.1 i5,by grind,by grind⟩;have sc:small (aK c f):=h.1.sc (by omega);have sc':small (aK c t):=h.1.sc (by omega);have sd:small (aU c f):=h.1.sd hf;have sd':small (aU c t):=h.1.sd ht;have sT:small (cS c):=Cm (by omega);have bu:∀ i,i≤c.dens.length→-1000000≤upC c i∧upC c i≤1000000:=fun i hi=>by
  obtain ⟨a,b⟩:=xF h hi;have:=vR.1 a;have:upC c i≤12000:=jF.1 (by show _≤(12000:Rat);exact b);omega
 have sU:∀ i,i≤c.dens.length→small (dJ c i):=fun i hi=>Cm (by have:=bu i hi;omega)
 have hd0:aU c t≠0:=by grind
 refine ⟨fun K=>?_,fun K=>?_,fun K=>?_⟩
 ·unfold ybI TY;dsimp only [Go.Pf.lt];rw [dZ,bB (by omega),bB (by omega),dR,fP hf,fG hf,xC,bB (by omega),dZ,bB (by omega),fP (by omega),fG (by omega),xC];refine (Uq s0 sc _).trans ?_;rw [mE s1];refine (Ur s1 sd _).trans ?_;rw [mE s2,W9 h (by omega),xC];refine (Ns s2 (sU f (by omega)) _).trans ?_;refine (mE s3 _).trans ?_;refine (Ur s0' sd _).trans ?_;exact mE s4 _
 ·refine (Ns s4 sT _).trans ?_;exact mE s5 _
 ·unfold ybV Ua;dsimp only [Go.Pf.lt];rw [dZ,bB (by omega),bB (by omega),dR,fP ht,fG ht,xC,W9 h (by omega),xC];refine (Uq s3 (sU t (by omega)) _).trans ?_;rw [mE s3'];refine (Us s3' sd' hd0 _).trans ?_;rw [mE s6,bB (by omega),dZ,bB (by omega),fP (by omega),fG (by omega),xC];refine (Ns s6 sc' _).trans ?_;rw [mE s7];refine (Us s5 sd' hd0 _).trans ?_;rw [mE s8];have:(dD c f t x).A=(pC c f x-dJ c t)/aU c t+aK c t:=by rw [eA];rfl
  rw [this];rfl
theorem X2 {k:Nat} {x:Ln} (hk:k≤4) (hx:LB k x) (hp:0<x.B) {n:Int} (n0:0≤n) (n1:n≤1000) (K:Int→Int→Prop) :
  mW x.A.num x.A.den x.B.num x.B.den n K=K (wh x (n:Rat)).num (wh x (n:Rat)).den:=by
 obtain ⟨_,_,_,_,_,_,_,s1,s2,s3⟩:=UU hk hx hp n0 n1;unfold mW Ub;rw [xC];refine (Uq (Cm (by omega)) s2 _).trans ?_;rw [mE s1];refine (Us s1 s3 (by grind) _).trans ?_;exact mE (Kg hk hx hp n0 n1) _
theorem X3 {S:List Sq} {j:Nat} (h:j<S.length):S.take (j+1)=S.take j++[S.getD j default]:=by rw [List.take_add_one,dF h,dQ,dF h];rfl
theorem X4 {S:List Sq} {j:Nat} (h:j<S.length):S.drop j=S.getD j default::S.drop (j+1):=tQ default h
theorem X5:∀ (A:List Sq) (s:Sq) (x:Ln),mF (A++[s]) x=mF A x++[bK s (jL A x)]
 | [],_,_=>rfl
 | a::A,s,x=>by show bK a x::mF (A++[s]) (bK a x)=_;rw [X5 A s];rfl
theorem X6:∀ (A:List Sq) (s:Sq) (x:Ln),jL (A++[s]) x=bK s (jL A x)
 | [],_,_=>rfl
 | a::A,s,x=>by show jL (A++[s]) (bK a x)=_;rw [X6 A s];rfl
def hO (S:List Sq) (j:Nat):Ln:=jL (S.take j) dE
theorem Hw {S:List Sq} {j:Nat} (h:j<S.length):hO S (j+1)=bK (S.getD j default) (hO S j):=by unfold hO;rw [X3 h,X6]
theorem X7:∀ {S:List Sq} {x:Ln} {j:Nat},j<S.length→(mF S x)[j]?=some (bK (S.getD j default) (jL (S.take j) x))
 | s::S,x,0,_=>rfl
 | s::S,x,j+1,h=>by show (mF S (bK s x))[j]?=_;rw [X7 (by simpa using h)];rfl
theorem X8 (q:Rat):∀ {S:List Sq} {x:Ln} {b:Bool} {j:Nat},j<S.length→(kF q S x b)[j]?=some ((S.getD j default).1,
  (S.getD j default).2.1+(if (b=true∨0<j)∧wh (jL (S.take j) x) (aK (S.getD j default).1 ((S.getD j default).2.1+1))=q then 1 else 0),
  (S.getD j default).2.2+(if wh (bK (S.getD j default) (jL (S.take j) x)) (aK (S.getD j default).1 ((S.getD j default).2.2+1))=q then 1 else 0))
 | s::S,x,b,0,_=>by show some (s.1,s.2.1+(if b=true∧wh x (aK s.1 (s.2.1+1))=q then 1 else 0),_)=some (s.1,s.2.1+(if (b=true∨0<0)∧wh x (aK s.1 (s.2.1+1))=q then 1 else 0),_);simp only [AY,or_false];rfl
 | s::S,x,b,j+1,h=>by show (kF q S (bK s x) true)[j]?=_;rw [X8 q (by simpa using h)];simp only [true_or,true_and,AW,or_true];rfl
def bY (S:List Sq):List Int:=S.map fun s=>(s.2.1:Int)
def dB (S:List Sq):List Int:=S.map fun s=>(s.2.2:Int)
def jP (S:List Sq) (x:Ln):List PV:=(mF S x).map fun l=>(l4 l).v
theorem Wy (S:List Sq) (x:Ln):(jP S x).length=S.length:=by unfold jP;rw [lJ,Vl]
theorem qF (S:List Sq):(bY S).length=S.length:=lJ ..
theorem xK (S:List Sq):(dB S).length=S.length:=lJ ..
theorem Cv {S:List Sq} {j:Nat} (h:j<S.length):(bY S).getD j 0=((S.getD j default).2.1:Int):=by unfold bY;rw [dQ,rE,dQ,dF h];rfl
theorem Hx {S:List Sq} {j:Nat} (h:j<S.length):(dB S).getD j 0=((S.getD j default).2.2:Int):=by unfold dB;rw [dQ,rE,dQ,dF h];rfl
theorem yKR {S:List Sq} {x:Ln} {j:Nat} (h:j<S.length):(jP S x).getD j .nils=(l4 (bK (S.getD j default) (jL (S.take j) x))).v:=by unfold jP;rw [dQ,rE,X7 h];rfl
theorem yKS {S:List Sq} {j:Nat} (h:j<S.length):(S.map (·.1)).getD j default=(S.getD j default).1:=by rw [dQ,rE,dQ,dF h];rfl
theorem yHh {L:Int} {Lc ord:List PV} {cs:List Ck} (ho:AF L Lc ord cs) {j:Nat} (hj:j<cs.length) (K:PV→Prop):oE Lc ord (j:Int) K=K (kE (cs.getD j default)):=by obtain ⟨o1,o2⟩:=ho;obtain ⟨p1,p2,p3,p4,p5⟩:=o2 j hj;unfold oE lE;rw [bB (by omega),bB (by omega),dR,Aw p1];show aI (decide (0≤AD ord j)) (aI (decide (AD ord j<((Lc.length:Nat):Int))) (aI (aZ _ (lF Lc ord j)) (K (lF Lc ord j))))=_;rw [bB p2,bB p3,p4,gZ]
theorem EF {l:List Int} {n j:Nat} (hl:l.length=n) (hj:j<n) (K:PV→Prop):gQ (aD l) n zI (j:Int) K=K (.int .i64 (l.getD j 0)):=by unfold gQ;rw [bB (by omega),bB (by omega),dZ,bB hl,bB (by omega),lW,dR,fP (by omega)];congr 1;unfold aD;rw [dQ,rE,dQ,dF (by omega)];rfl
theorem Km {S:List Sq} {j:Nat} (hj:j<S.length) (K:PV→Prop):gQ (jP S dE) S.length sN (j:Int) K=K (l4 (hO S (j+1))).v:=by unfold gQ;rw [bB (by omega),bB (by omega),Wy,bB rfl,bB (by omega),lW,dR,yKR hj,Hw hj];rfl
theorem X9 {l:List Int} {n j:Nat} (hl:l.length=n) (hj:j<n) {v:Nat} (hv:l.getD j 0=(v:Int)) (h1:v<1000000) (K:List PV→Prop):vM (aD l) n (j:Int) K=K (aD (l.set j ((v+1:Nat):Int))):=by unfold vM;rw [EF hl hj,bB (by omega),bB (by omega),dZ,bB hl,bB (by omega),lW,dR,fP (by omega)];show K ((aD l).set j (.int .i64 (i64.wrap (l.getD j 0+1))))=_;rw [hv,eQ (by omega) (by omega)];congr 1;unfold aD;rw [List.map_set];rfl
structure FdS (L:Int) (Lc ord:List PV) (S:List Sq):Prop where
 o:AF L Lc ord (S.map (·.1))
 s:∀ s∈S,kI L s
 n:S≠[]
 h4:S.length≤4
 hL:0≤L∧L≤1000
section
variable {L:Int} {Lc ord:List PV} {S:List Sq}
theorem FdS.at_ (h:FdS L Lc ord S) {j:Nat} (hj:j<S.length):kI L (S.getD j default):=h.s _ (by rw [dQ,dF hj];exact sQ hj)
theorem FdS.lb (h:FdS L Lc ord S):∀ j,j≤S.length→LB j (hO S j)∧0≤(hO S j).B∧(0<j→0<(hO S j).B)
 | 0,_=>⟨Nz,kL,fun k=>by omega⟩
 | j+1,hj=>by obtain ⟨a,b,c⟩:=FdS.lb h j (by omega);have hs:=h.at_ (j:=j) (by omega);rw [Hw (by omega)];have yB:=NF hs b;exact ⟨Kd hs.1 hs.2.2.1 hs.2.2.2 a,jV yB,fun _=>yB⟩
theorem FdS.cak (h:FdS L Lc ord S) {j:Nat} (hj:j<S.length) (K:PV→Prop):oE Lc ord (j:Int) K=K (kE (S.getD j default).1):=by rw [yHh h.o (by rw [lJ];exact hj),yKS hj]
theorem FdS.lin (h:FdS L Lc ord S) {j:Nat} (hj:j<S.length) (K:L4→Prop) :
  AM ybI ybV sB ybM qU Lc ord (aD (bY S)) (aD (dB S)) S.length (l4 (hO S j)) (j:Int) K=K (l4 (hO S (j+1))):=by
 obtain ⟨h1,h2,h3,h4⟩:=h.at_ hj;have h5:=h.h4;obtain ⟨e1,e2,e3⟩:=yFb (p:=(S.getD j default).1.len) h1 h3 h4 (h.lb j (by omega)).1 (by omega);unfold AM;rw [h.cak hj,EF (qF S) hj,Cv hj];show ybI (S.getD j default).1.len (aD (S.getD j default).1.cuts) (aD (S.getD j default).1.dens) ((S.getD j default).2.1:Int) (hO S j).A.num (hO S j).A.den (hO S j).B.num (hO S j).B.den _=_;rw [e1];show qU (S.getD j default).1.len (aD (S.getD j default).1.cuts) (aD (S.getD j default).1.dens) _=_;have hv:VC (S.getD j default).1.len (S.getD j default).1.cuts (S.getD j default).1.dens:=by rw [h2];exact h1.1
 rw [yC7 hv,xC];refine (e2 _).trans ?_;rw [EF (xK S) hj,Hx hj];refine (e3 _).trans ?_;rw [Hw hj];rfl
theorem FdS.cut (h:FdS L Lc ord S) {j:Nat} (hj:j<S.length) {x:Ln} {k:Nat} (hx:LB k x) (hk:k≤4) (hp:0<x.B) {t:Nat} (ht:t<(S.getD j default).1.dens.length) (K:Int→Int→Prop) :
  (lE (cC (kE (S.getD j default).1)) (i64.wrap ((t:Int)+1)) fun u=>mW x.A.num x.A.den x.B.num x.B.den u K)=K (wh x (aK (S.getD j default).1 (t+1))).num (wh x (aK (S.getD j default).1 (t+1))).den∧small (wh x (aK (S.getD j default).1 (t+1))):=by
 obtain ⟨h1,h2,h3,h4⟩:=h.at_ hj;have l1:=h1.1.l1;have l2:=h1.1.l2;have e1:=eQ (n:=(t:Int)+1) (by omega) (by omega);have lo:=h1.1.lo (i:=t+1) (by omega);have hi':=h1.1.hi (i:=t+1) (by omega);have ll:=h1.1.len0;refine ⟨?_,Vh h1 ht hk hx hp⟩;show lE (aD (S.getD j default).1.cuts) _ _=_;unfold lE;rw [e1,kD,dZ,bB (by omega),bB (by omega),dR,fP (by omega),fG (by omega)];exact X2 hk hx hp (by omega) (by omega) K
def ownB (S:List Sq) (j:Nat):Rat:=wh (hO S (j+1)) (aK (S.getD j default).1 ((S.getD j default).2.2+1))
def iC (S:List Sq) (j:Nat):Rat:=wh (hO S (j+1)) (aK (S.getD (j+1) default).1 ((S.getD (j+1) default).2.1+1))
theorem FdS.bndO (h:FdS L Lc ord S) {j:Nat} (hj:j<S.length) {to:List Int} (hl:to.length=S.length) (ht:to.getD j 0=((S.getD j default).2.2:Int)) (K:Int→Int→Prop) :
  Go.Pf.Vc.bndO mW Lc ord (aD to) (jP S dE) S.length S.length (j:Int) K=K (ownB S j).num (ownB S j).den ∧
  Go.Pf.Vc.bnmO mW Lc ord (aD to) (jP S dE) S.length S.length (j:Int) K=K (ownB S j).num (ownB S j).den∧small (ownB S j):=by
 have h5:=h.h4;have hs:=h.at_ hj;obtain ⟨a,_,c⟩:=h.lb (j+1) (by omega);obtain ⟨e1,e2⟩:=h.cut hj a (by omega) (c (by omega)) hs.2.2.2 K;refine ⟨?_,?_,e2⟩
 ·unfold Go.Pf.Vc.bndO;rw [h.cak hj,Km hj,EF hl hj,ht];exact e1
 ·unfold Go.Pf.Vc.bnmO;rw [Km hj,h.cak hj,EF hl hj,ht];exact e1
theorem FdS.bndN (h:FdS L Lc ord S) {j:Nat} (hj:j+1<S.length) {fr:List Int} (hl:fr.length=S.length) (ht:fr.getD (j+1) 0=((S.getD (j+1) default).2.1:Int)) (K:Int→Int→Prop) :
  Go.Pf.Vc.bndN mW Lc ord (aD fr) (jP S dE) S.length S.length (j:Int) K=K (iC S j).num (iC S j).den ∧
  Go.Pf.Vc.bnmN mW Lc ord (aD fr) (jP S dE) S.length S.length (j:Int) K=K (iC S j).num (iC S j).den∧small (iC S j):=by
 have h5:=h.h4;have hs:=h.at_ hj;obtain ⟨a,_,c⟩:=h.lb (j+1) (by omega);obtain ⟨e1,e2⟩:=h.cut hj a (by omega) (c (by omega)) hs.2.2.1 K;have ew:=eQ (n:=(j:Int)+1) (by omega) (by omega);refine ⟨?_,?_,e2⟩
 ·unfold Go.Pf.Vc.bndN;rw [ew,kD,h.cak hj,Km (by omega),EF hl hj,ht];exact e1
 ·unfold Go.Pf.Vc.bnmN;rw [ew,kD,Km (by omega),h.cak hj,EF hl hj,ht];exact e1
def vN (S:List Sq) (j:Nat) (q:Rat):Rat:=mnS q (ownB S j::(if j+1<S.length then [iC S j] else []))
theorem NJ {q r:Rat} (hq:small q) (hr:small r) {X:Rat→Prop} (K:Bool→Prop) (e:∀ b,K b=X (if b then q else r)):kY q.num q.den r.num r.den K=X (if q<r then q else r):=by
 rw [N5 hq hr,e]
 by_cases c:q<r
 ·rw [Eb c,WN rfl,WN c]
 ·rw [Os c,WO (by simp),WO c]
theorem FdS.nxtR (h:FdS L Lc ord S) {j:Nat} (hj:j<S.length) {q:Rat} (hq:small q) (K:Int→Int→Prop) :
  Go.Pf.Vc.nxtR mW kY Lc ord (aD (bY S)) (aD (dB S)) (jP S dE) S.length S.length (j:Int) q.num q.den K=K (vN S j q).num (vN S j q).den∧small (vN S j q):=by
 have h5:=h.h4;obtain ⟨_,_,s1⟩:=h.bndO hj (xK S) (Hx hj) fun _ _=>True
 have e1:=fun K=>(h.bndO hj (xK S) (Hx hj) K).1
 have ew:=eQ (n:=(j:Int)+1) (by omega) (by omega);have s2:small (if ownB S j<q then ownB S j else q):=by split<;>assumption
 unfold Go.Pf.Vc.nxtR;rw [e1,ew,kD]
 by_cases c:j+1<S.length
 ·obtain ⟨_,_,s3⟩:=h.bndN c (qF S) (Cv c) fun _ _=>True
  have e2:=fun K=>(h.bndN c (qF S) (Cv c) K).1
  have hm:vN S j q=(if iC S j<(if ownB S j<q then ownB S j else q) then iC S j else (if ownB S j<q then ownB S j else q)):=by unfold vN;rw [WN c];rfl
  refine ⟨?_,by
   rw [hm]
   by_cases d:iC S j<(if ownB S j<q then ownB S j else q)
   ·rw [WN d];exact s3
   ·rw [WO d];exact s2⟩
  rw [hm];refine NJ s1 hq (X:=fun r=>K (if iC S j<r then iC S j else r).num (if iC S j<r then iC S j else r).den) _ fun b=>?_
  cases b with
  | true =>show aM (decide _) (Go.Pf.Vc.bndN _ _ _ _ _ _ _ _ fun s0 s1=>kY s0 s1 (ownB S j).num (ownB S j).den fun b=>aM b (K s0 s1) (K (ownB S j).num (ownB S j).den)) _=_;rw [eC (by omega),e2];exact NJ s3 s1 (X:=fun r=>K r.num r.den) _ fun b=>by cases b<;>rfl
  | false =>show aM (decide _) (Go.Pf.Vc.bndN _ _ _ _ _ _ _ _ fun s0 s1=>kY s0 s1 q.num q.den fun b=>aM b (K s0 s1) (K q.num q.den)) _=_;rw [eC (by omega),e2];exact NJ s3 hq (X:=fun r=>K r.num r.den) _ fun b=>by cases b<;>rfl
 ·have hm:vN S j q=(if ownB S j<q then ownB S j else q):=by unfold vN;rw [WO c];rfl
  refine ⟨?_,by rw [hm];exact s2⟩;rw [hm];refine NJ s1 hq (X:=fun r=>K r.num r.den) _ fun b=>?_
  rw [eE (by omega),eE (by omega)]
  cases b<;>rfl
end
section
variable (e:Es) (he:EG e)
abbrev Hy (lp:LP):SE:=ED e ybI ybV mW kY sB ybM qU lp
theorem Wz (he:EG e) (lp:LP) (h:LpOk (cB (E e)) (E e) lp [] Jo.body):SEOk (cB (E e)) (Hy e lp):=cT (aX.uni _) ⟨xx e he,ya e he,ye e he,Tp e he,MS e he,Nb e he,F4 e he,trivial⟩
 ⟨⟨by kernel_rfl,by kernel_rfl,by kernel_rfl,fun as=>lO (by kernel_rfl) _,he.num _ (by kernel_rfl),by kernel_rfl,h⟩,trivial⟩ he.ok
theorem WA (he:EG e):SEOk (cB (E e)) (Hy e fA):=Wz e he _ (fM (l:=[(20688500,.loop 20688500 BM)]) ⟨fun _ _ _ h=>False.elim h,trivial⟩ (by kernel_rfl))
end
def Kn (ls:List PV):PV:=match ls with | []=>.nils | x::r=>.own 2 0 (x::r).length (x::r).length none
def Y3 (ls:List PV):Hp:=match ls with | []=>[] | x::r=>[lT (x::r)]
def vO (S:List Sq):Hp:=[dG (aD (bY S)),dG (aD (dB S))]
def xL (S:List Sq):Hp:=[dG (aD (bY S)),dG (aD (dB S)),lT (jP S dE)]
section
variable {e:Es} {L:Int} {Lc ord:List PV} {S:List Sq}
def Ko (Lc ord:List PV) (S:List Sq) (k:Nat) (F:aG) (H:Hp):Prop:=∃ j,j≤S.length∧S.length<j+k∧F=AJ Lc ord S.length (l4 (hO S j)) (Kn (jP (S.take j) dE)) (j:Int)∧H=vO S++Y3 (jP (S.take j) dE)
theorem NK {j:Nat} (h:j<S.length):jP (S.take (j+1)) dE=jP (S.take j) dE++[(l4 (hO S (j+1))).v]:=by unfold jP;rw [X3 h,X5,List.map_append,Hw h];rfl
theorem yFe (ls:List PV) (p:PV):Kn (ls++[p])=.own 2 0 (ls++[p]).length (ls++[p]).length none:=by cases ls<;>rfl
theorem yHi (ls:List PV) (p:PV):Y3 (ls++[p])=[lT (ls++[p])]:=by cases ls<;>rfl
theorem yFf (h:FdS L Lc ord S) {Q:Ex→aG→Hp→Prop} (hQ:Q (.exit 0) (vL Lc ord S.length (l4 (hO S S.length)) (.own 2 0 S.length S.length none) S.length) (xL S)) (n:Nat) (F:aG) (H:Hp) (hs:Ko Lc ord S (n+1) F H) :
  WC (E e) (gJ (Hy e fA) 3) fA [] cJ BM F H (QN (Ko Lc ord S n) Q):=by
 obtain ⟨j,h1,h2,e1,e2⟩:=hs;have h4:=h.h4;have hol:ord.length=S.length:=by have:=h.o.1;rw [lJ] at this;exact this
 rw [e1,e2]
 cases hls:jP (S.take j) dE with
 | nil=>
  have hj0:j=0:=by have:=Aaa length hls;rw [Wy,gR] at this;have hn:0<S.length:=AU.2 h.n;simp only [EV] at this;omega
  subst hj0;have hn:0<S.length:=AU.2 h.n;refine (Ws e ybI ybV mW kY sB ybM qU Lc ord (aD (bY S)) (aD (dB S)) S.length (l4 (hO S 0)) ((0:Nat):Int) (Ko Lc ord S n) Q).mpr ?_;rw [hol,eC (by omega),h.lin hn,eQ (by omega) (by omega)];refine ⟨1,hn,by omega,?_,?_⟩
  ·rw [NK hn,hls];rfl
  ·rw [NK hn,hls];rfl
 | cons y ys=>
  have hl:(y::ys).length=j:=by rw [← hls,Wy,gR];omega
  refine (Wt e ybI ybV mW kY sB ybM qU Lc ord (aD (bY S)) (aD (dB S)) (y::ys) S.length (y::ys).length (l4 (hO S j)) (j:Int) (Ko Lc ord S n) Q).mpr ?_;rw [hol]
  by_cases c:j<S.length
  ·rw [eC (by omega),h.lin c,bB rfl,bB (by omega),Aw (by simp),bB rfl,bB (by rw [hl];unfold room;omega),eQ (by omega) (by omega)];refine ⟨j+1,c,by omega,?_,?_⟩
   ·rw [NK c,hls,yFe];rfl
   ·rw [NK c,hls,yHi];rfl
  ·have:j=S.length:=by omega
   subst this;rw [eE (by omega),hl,← hls,ET];exact hQ
theorem yAW (he:EG e) (h:FdS L Lc ord S) {Q:Ex→aG→Hp→Prop} (hQ:Q (.exit 0) (vL Lc ord S.length (l4 (hO S S.length)) (.own 2 0 S.length S.length none) S.length) (xL S)) :
  cV (cB (E e)) (.loop 20688500 BM) (AJ Lc ord S.length (l4 dE) .nils 0) (vO S) Q:=
 cV.intro (aX.uni _) (eJ (WA e he) 3) (by kernel_rfl) (dT.no _ _) (bW (by kernel_rfl)) (Ko Lc ord S) (fun F H h=>by obtain ⟨i,h1,h2,_⟩:=h;omega) (yFf h hQ) (S.length+1) _ _ ⟨0,jA _,by omega,rfl,rfl⟩
def NL (Lc ord:List PV) (S:List Sq) (qf:Rat) (k:Nat) (F:aG) (H:Hp):Prop:=∃ (j:Nat) (q:Rat),j≤S.length∧S.length<j+k∧small q∧mnS q (jN (S.drop j) (hO S j) false)=qf∧F=EB Lc ord S.length S.length q.num q.den (j:Int)∧H=xL S
theorem Y4 {j:Nat} (hj:j<S.length) (q:Rat):mnS q (jN (S.drop j) (hO S j) false)=mnS (vN S j q) (jN (S.drop (j+1)) (hO S (j+1)) false):=by
 rw [X4 hj];show mnS q (wh (bK (S.getD j default) (hO S j)) (aK (S.getD j default).1 ((S.getD j default).2.2+1))::jN (S.drop (j+1)) (bK (S.getD j default) (hO S j)) true)=_;rw [← Hw hj]
 by_cases c:j+1<S.length
 ·unfold vN;rw [WN c,X4 c];rfl
 ·unfold vN;rw [WO c,nA (by omega)];rfl
theorem yHj (h:FdS L Lc ord S) {qf:Rat} {Q:Ex→aG→Hp→Prop} (hQ:Q (.exit 2) (AK Lc ord S.length S.length qf.num qf.den S.length) (xL S)) (n:Nat) (F:aG) (H:Hp) (hs:NL Lc ord S qf (n+1) F H) :
  WC (E e) (gJ (Hy e fA) 3) fA [] cJ BN F H (QG BN H.length (NL Lc ord S qf n) Q):=by
 obtain ⟨j,q,h1,h2,hq,hm,e1,e2⟩:=hs;have h4:=h.h4;rw [e1,e2];refine (Wu e ybI ybV mW kY sB ybM qU Lc ord (aD (bY S)) (aD (dB S)) (jP S dE) S.length S.length (j:Int) q.num q.den (NL Lc ord S qf n) Q).mpr ?_
 by_cases c:j<S.length
 ·rw [eC (by omega),(h.nxtR c hq _).1,eQ (by omega) (by omega)];exact ⟨j+1,vN S j q,c,by omega,(h.nxtR c hq fun _ _=>True).2,by rw [← Y4 c];exact hm,rfl,rfl⟩
 ·have:j=S.length:=by omega
  subst this;rw [eE (by omega)];rw [List.drop_length] at hm;have hm:q=qf:=hm;rw [hm];exact hQ
theorem yDc (he:EG e) (h:FdS L Lc ord S) {q qf:Rat} (hq:small q) (hm:mnS q (jN S dE false)=qf) {Q:Ex→aG→Hp→Prop} (hQ:Q (.exit 2) (AK Lc ord S.length S.length qf.num qf.den S.length) (xL S)) :
  cV (cB (E e)) (.lG 62969800 BN) (EB Lc ord S.length S.length q.num q.den 0) (xL S) Q:=
 cV.introQ (aX.uni _) (eJ (WA e he) 3) (by kernel_rfl) (bW (by kernel_rfl)) (NL Lc ord S qf) (fun F H h=>by obtain ⟨i,q,h1,h2,_⟩:=h;omega) (yHj h hQ) (S.length+1) _ _ ⟨0,q,jA _,by omega,hq,hm,rfl,rfl⟩
def dL (A a:List Int) (j:Nat):List Int:=A.take j++a.drop j
theorem WB {A a:List Int} (h:A.length=a.length) {j:Nat} (hj:j≤a.length):(dL A a j).length=a.length:=by unfold dL;rw [lU,gR,lH];omega
theorem WD {A a:List Int} (h:A.length=a.length) {j:Nat} (hj:j<a.length):(dL A a j).getD j 0=a.getD j 0:=by unfold dL;rw [dQ,Hz (by rw [gR];omega),gR,qH,dQ,show j+(j-min j A.length)=j by omega]
theorem WE {A a:List Int} (h:A.length=a.length) {j:Nat} (hj:j<a.length):(dL A a j).set j (A.getD j 0)=dL A a (j+1):=by
 refine rD fun i=>?_
 unfold dL;rw [Cy,lU,gR,lH]
 by_cases c:j=i
 ·subst c;rw [WN rfl,WN (by omega),EL (by rw [gR];omega),List.getElem?_take_of_lt (by omega),dQ,dF (by omega)];rfl
 ·rw [WO c]
  by_cases d:i<j
  ·rw [EL (by rw [gR];omega),EL (by rw [gR];omega),List.getElem?_take_of_lt d,List.getElem?_take_of_lt (by omega)]
  ·rw [Hz (by rw [gR];omega),Hz (by rw [gR];omega),qH,qH,gR,gR];congr 1;omega
theorem WF {A a:List Int} (h:A.length=a.length) {j:Nat} (hj:j<a.length) (e:A.getD j 0=a.getD j 0):dL A a j=dL A a (j+1):=by
 rw [← WE h hj,e,← WD h hj];refine rD fun i=>?_
 rw [Cy]
 by_cases c:j=i
 ·subst c;have hl:=WB h (j:=j) (by omega);rw [WN rfl,WN (by omega),dQ,dF (by omega)];rfl
 ·rw [WO c]
theorem NM {A a:List Int} (h:A.length=a.length) {j:Nat} (hj:a.length≤j):dL A a j=A:=by unfold dL;rw [AR (by omega),nA hj,List.append_nil]
abbrev gU (q:Rat) (S:List Sq):List Sq:=kF q S dE false
theorem WG (q:Rat) {j:Nat} (hj:j<S.length):(gU q S).getD j default=((S.getD j default).1,(S.getD j default).2.1+(if 0<j∧wh (hO S j) (aK (S.getD j default).1 ((S.getD j default).2.1+1))=q then 1 else 0),(S.getD j default).2.2+(if ownB S j=q then 1 else 0)):=by unfold gU;rw [dQ,X8 q hj,ownB,Hw hj];simp only [iZ,false_or];rfl
theorem Y5 (q:Rat) {j:Nat} (hj:j<S.length):(dB (gU q S)).getD j 0=(((S.getD j default).2.2+(if ownB S j=q then 1 else 0):Nat):Int):=by rw [Hx (by rw [xG];exact hj),WG q hj]
theorem Y6 (q:Rat) {j:Nat} (hj:j+1<S.length):(bY (gU q S)).getD (j+1) 0=(((S.getD (j+1) default).2.1+(if iC S j=q then 1 else 0):Nat):Int):=by rw [Cv (by rw [xG];exact hj),WG q hj];simp only [AW,true_and];rfl
theorem yHk (q:Rat) (hj:0<S.length):(bY (gU q S)).getD 0 0=(bY S).getD 0 0:=by rw [Cv (by rw [xG];exact hj),WG q hj,Cv hj];simp only [AY,false_and,if_false,tV]
def Y7 (S:List Sq) (q:Rat) (j:Nat):Hp:=[dG (aD (dL (bY (gU q S)) (bY S) (j+1))),dG (aD (dL (dB (gU q S)) (dB S) j)),lT (jP S dE)]
def NN (Lc ord:List PV) (S:List Sq) (q:Rat) (k:Nat) (F:aG) (H:Hp):Prop:=∃ j:Nat,j≤S.length∧S.length<j+k∧F=EC Lc ord S.length S.length q.num q.den (j:Int)∧H=Y7 S q j
theorem FdS.mvR (h:FdS L Lc ord S) {j:Nat} (hj:j<S.length) (q:Rat) (K:List PV→List PV→Prop) :
  Go.Pf.Vc.mvR mW Lc ord (aD (dL (bY (gU q S)) (bY S) (j+1))) (aD (dL (dB (gU q S)) (dB S) j)) (jP S dE) S.length S.length (j:Int) q.num q.den K =
   K (aD (dL (bY (gU q S)) (bY S) (j+2))) (aD (dL (dB (gU q S)) (dB S) (j+1))):=by
 have h5:=h.h4;have lf:(bY (gU q S)).length=(bY S).length:=by rw [qF,qF,xG]
 have lt:(dB (gU q S)).length=(dB S).length:=by rw [xK,xK,xG]
 have ew:=eQ (n:=(j:Int)+1) (by omega) (by omega);have jt:j<(dB S).length:=by rw [xK];exact hj
 have lm:(dL (dB (gU q S)) (dB S) j).length=S.length:=by rw [WB lt (by omega),xK]
 have gm:(dL (dB (gU q S)) (dB S) j).getD j 0=((S.getD j default).2.2:Int):=by rw [WD lt jt,Hx hj]
 have dl:=(h.at_ hj);have l1:=dl.1.1.l1;have l2:=dl.1.1.l2;have k2:∀ X:List PV,aM (decide (i64.wrap ((j:Int)+1)<((S.length:Nat):Int))) (Go.Pf.Vc.bnmN mW Lc ord (aD (dL (bY (gU q S)) (bY S) (j+1))) (jP S dE) S.length S.length (j:Int) fun s0 s1=>aM (qB s0 s1 q.num q.den) (vM (aD (dL (bY (gU q S)) (bY S) (j+1))) S.length (i64.wrap ((j:Int)+1)) fun fr'=>K fr' X) (K (aD (dL (bY (gU q S)) (bY S) (j+1))) X)) (K (aD (dL (bY (gU q S)) (bY S) (j+1))) X)=K (aD (dL (bY (gU q S)) (bY S) (j+2))) X:=fun X=>by
  rw [ew,kD]
  by_cases c:j+1<S.length
  ·have jf:j+1<(bY S).length:=by rw [qF];exact c
   have dn:=(h.at_ c);have n1:=dn.1.1.l1;have n2:=dn.1.1.l2;have lm2:(dL (bY (gU q S)) (bY S) (j+1)).length=S.length:=by rw [WB lf (by omega),qF]
   have gm2:(dL (bY (gU q S)) (bY S) (j+1)).getD (j+1) 0=((S.getD (j+1) default).2.1:Int):=by rw [WD lf jf,Cv c]
   rw [eC (by omega),(h.bndN c lm2 gm2 _).2.1,Hr]
   by_cases d:iC S j=q
   ·rw [Eb d,bU,X9 lm2 c gm2 (by have:=dn.2.2.1;omega)];have:=Y6 q c;rw [WN d] at this;rw [← this,WE lf jf]
   ·rw [Os d,bN];have:=Y6 q c;rw [WO d] at this;rw [WF lf jf (by rw [this,Cv c];rfl)]
  ·rw [eE (by omega),NM lf (by rw [qF];omega),NM lf (by rw [qF];omega)]
 unfold Go.Pf.Vc.mvR;rw [(h.bndO hj lm gm _).2.1,Hr]
 by_cases d:ownB S j=q
 ·rw [Eb d,bU,X9 lm hj gm (by have:=dl.2.2.2;omega)];have:=Y5 q hj;rw [WN d] at this;rw [← this,WE lt jt];exact k2 _
 ·rw [Os d,bN];have:=Y5 q hj;rw [WO d] at this;have e:=WF lt jt (by rw [this,Hx hj];rfl);refine (k2 _).trans ?_;rw [e]
theorem yHl (h:FdS L Lc ord S) {q:Rat} {Q:Ex→aG→Hp→Prop} (hQ:Q (.exit 4) (AL Lc ord S.length S.length q.num q.den S.length) [dG (aD (bY (gU q S))),dG (aD (dB (gU q S))),lT (jP S dE)]) (n:Nat) (F:aG) (H:Hp) (hs:NN Lc ord S q (n+1) F H) :
  WC (E e) (gJ (Hy e fA) 3) fA [] cJ BO F H (QG BO H.length (NN Lc ord S q n) Q):=by
 obtain ⟨j,h1,h2,e1,e2⟩:=hs;have h4:=h.h4;have lf:(bY (gU q S)).length=(bY S).length:=by rw [qF,qF,xG]
 have lt:(dB (gU q S)).length=(dB S).length:=by rw [xK,xK,xG]
 rw [e1,e2];refine (Wv e ybI ybV mW kY sB ybM qU Lc ord _ _ (jP S dE) S.length S.length (j:Int) q.num q.den (NN Lc ord S q n) Q).mpr ?_
 by_cases c:j<S.length
 ·rw [eC (by omega),h.mvR c,eQ (by omega) (by omega)];exact ⟨j+1,c,by omega,rfl,rfl⟩
 ·have:j=S.length:=by omega
  subst this;rw [eE (by omega),NM lf (by rw [qF];omega),NM lt (by rw [xK];omega)];exact hQ
theorem yDd (he:EG e) (h:FdS L Lc ord S) {q:Rat} {Q:Ex→aG→Hp→Prop} (hQ:Q (.exit 4) (AL Lc ord S.length S.length q.num q.den S.length) [dG (aD (bY (gU q S))),dG (aD (dB (gU q S))),lT (jP S dE)]) :
  cV (cB (E e)) (.lG 62969801 BO) (EC Lc ord S.length S.length q.num q.den 0) (xL S) Q:=
 cV.introQ (aX.uni _) (eJ (WA e he) 3) (by kernel_rfl) (bW (by kernel_rfl)) (NN Lc ord S q) (fun F H h=>by obtain ⟨i,h1,h2,_⟩:=h;omega) (yHl h hQ) (S.length+1) _ _ ⟨0,jA _,by omega,rfl,by
  have hn:0<S.length:=AU.2 h.n;have lf:(bY (gU q S)).length=(bY S).length:=by rw [qF,qF,xG]
  unfold Y7 xL;rw [← WF lf (j:=0) (by rw [qF];exact hn) (yHk q hn)];rfl⟩
end
section
variable {e:Es} {L:Int} {ord c0 d0 Lr:List PV} {S:List Sq}
theorem FdS.stp (h:FdS L (L1 L c0 d0 Lr) ord S) (K:Int→Int→Prop):AN mW (jP S dE) S.length S.length L Lr K=K (iG L S).num (iG L S).den∧small (iG L S):=by
 have h4:=h.h4;have hn:0<S.length:=AU.2 h.n;obtain ⟨a,_,c⟩:=h.lb S.length (cQ _);have hx:hO S S.length=jL S dE:=by unfold hO;rw [ET]
 have ew:=eQ (n:=(S.length:Int)-1) (by omega) (by omega);have ej:(S.length:Int)-1=((S.length-1:Nat):Int):=by omega
 refine ⟨?_,Kg h4 (by rw [← hx];exact a) (by rw [← hx];exact c hn) h.hL.1 h.hL.2⟩;unfold AN;rw [ew,ej,Km (by omega),show S.length-1+1=S.length by omega,hx,bB (by omega)];exact X2 h4 (by rw [← hx];exact a) (by rw [← hx];exact c hn) h.hL.1 h.hL.2 K
theorem FdS.bend (h:FdS L (L1 L c0 d0 Lr) ord S):small (dK L S):=by
 have hx:=Nz;have key:∀ (k j:Nat) (q:Rat),j+k=S.length→small q→small (mnS q (jN (S.drop j) (hO S j) false)):=by
  intro k;induction k with
  | zero=>intro j q hj hq;rw [nA (by omega)];exact hq
  | succ k ih =>intro j q hj hq;rw [Y4 (by omega)];exact ih (j+1) _ (by omega) (h.nxtR (by omega) hq fun _ _=>True).2
 exact key S.length 0 _ (lW _) (h.stp fun _ _=>True).2
def lpS (L:Int) (ord c0 d0 Lr:List PV) (S:List Sq):LP:=W7 ord (aD (bY S)) (aD (dB S)) (jP S dE) S.length S.length L (dK L S).num (dK L S).den Lr c0 d0 (aD (bY (gU (dK L S) S))) (aD (dB (gU (dK L S) S)))
 (fun F H X=>(F=AJ (L1 L c0 d0 Lr) ord S.length (l4 dE) .nils 0∧H=vO S)∧X)
 (fun F H X=>(F=EB (L1 L c0 d0 Lr) ord S.length S.length (iG L S).num (iG L S).den 0∧H=xL S)∧X)
 (fun F H X=>(F=EC (L1 L c0 d0 Lr) ord S.length S.length (dK L S).num (dK L S).den 0∧H=xL S)∧X) (l4 (hO S S.length))
theorem yLW (he:EG e) (h:FdS L (L1 L c0 d0 Lr) ord S):LpOk (cB (E e)) (E e) (lpS L ord c0 d0 Lr S) [] Jo.body:=
 fM (l:=[(20688500,.loop 20688500 BM)]) ⟨fun F H Q k=>by
  obtain ⟨⟨rfl,rfl⟩,hQ⟩:=k;exact yAW he h hQ,trivial⟩ (by kernel_rfl)
theorem yLX (he:EG e) (h:FdS L (L1 L c0 d0 Lr) ord S):LpOk (cB (E e)) (E e) (lpS L ord c0 d0 Lr S) [] Af:=
 fM (l:=[(62969800,.lG 62969800 BN),(62969801,.lG 62969801 BO)]) ⟨fun F H Q k=>by
  obtain ⟨⟨rfl,rfl⟩,hQ⟩:=k;exact yDc he h (h.stp fun _ _=>True).2 rfl hQ,fun F H Q k=>by
  obtain ⟨⟨rfl,rfl⟩,hQ⟩:=k;exact yDd he h hQ,trivial⟩ (by kernel_rfl)
theorem yHm (he:EG e) (h:FdS L (L1 L c0 d0 Lr) ord S) {Rn:aG→Hp→Prop} {Q:Ex→aG→Hp→Prop}
  (h1:dK L S=iG L S→∀ H,Q .ret (sI (dK L S).num (dK L S).den) H)
  (h2:dK L S≠iG L S→Rn (Cu (L1 L c0 d0 Lr) ord S.length) (vO (gU (dK L S) S))) :
  cF (cB (E e)) (bM Af) (Cu (L1 L c0 d0 Lr) ord S.length) (vO S) (QG Af (vO S).length Rn Q):=by
 refine nR Af (cB (E e)) (aX.uni _) (eJ (Wz e he _ (yLW he h)) 3) cG.flat [] cJ (dT.no _ _) (yLX he h) _ _ _ ?_;refine (Ww e ybI ybV mW kY sB ybM qU ord (aD (bY S)) (aD (dB S)) (jP S dE) S.length S.length L (dK L S).num (dK L S).den Rn Q Lr c0 d0 _ _ _ _ _ _).mpr ?_;rw [xC,xC];refine ⟨⟨rfl,rfl⟩,?_⟩;rw [(h.stp _).1];refine ⟨⟨rfl,rfl⟩,?_⟩;rw [(h.stp _).1,Hr]
 by_cases c:dK L S=iG L S
 ·rw [Eb c,bU];exact h1 c _
 ·rw [Os c,bN];exact ⟨⟨rfl,rfl⟩,h2 c⟩
def Kp (L:Int) (ord c0 d0 Lr:List PV) (cs:List Ck) (q:Rat) (n:Nat) (F:aG) (H:Hp):Prop:=
 ∃ S q0,S.map (·.1)=cs∧F=Cu (L1 L c0 d0 Lr) ord S.length∧H=vO S∧RI L S q0∧runN L n S=some q
theorem Kp.fd {q0:Rat} (hi:RI L S q0) (ho:AF L (L1 L c0 d0 Lr) ord (S.map (·.1))) (hL:∀ c∈S.map (·.1),c.len=L) (h4:S.length≤4) (hb:0≤L∧L≤1000):FdS L (L1 L c0 d0 Lr) ord S:=
 ⟨ho,fun s hs=>by
  obtain ⟨a,b,c⟩:=hi.1.all s hs;exact ⟨a,hL _ (List.mem_map_of_mem hs),b,c⟩,hi.2.2,h4,hb⟩
theorem yFi (he:EG e) {cs:List Ck} (ho:AF L (L1 L c0 d0 Lr) ord cs) (hcs:∀ c∈cs,c.len=L) (h4:cs.length≤4) (hL:0≤L∧L≤1000) {q:Rat} {Q:Ex→aG→Hp→Prop} (hQ:∀ H,Q .ret (sI q.num q.den) H) {n:Nat} {F:aG} {H:Hp} (h:Kp L ord c0 d0 Lr cs q n F H) :
  cV (cB (E e)) (.lG 62969802 Af) F H Q:=
 cV.introP (Kp L ord c0 d0 Lr cs q) (fun F H h=>by obtain ⟨S,q0,_,_,_,_,h⟩:=h;cases h) (fun n F H h=>by
  obtain ⟨S,q0,e1,e2,e3,hi,hr⟩:=h;have hl:S.length=cs.length:=by rw [← e1,lJ]
  have hf:FdS L (L1 L c0 d0 Lr) ord S:=Kp.fd hi (by rw [e1];exact ho) (by rw [e1];exact hcs) (by omega) hL;obtain ⟨_,r2⟩:=round hi;rw [e2,e3];refine yHm he hf (fun c H=>?_) fun c=>?_
  ·have:dK L S=q:=by rw [runN,WN c] at hr;exact AX hr
   rw [this];exact hQ H
  ·rw [runN,WO c] at hr;exact ⟨kF (dK L S) S dE false,_,by rw [En];exact e1,by rw [xG],rfl,(r2 c).1,hr⟩) n F H h
theorem yKT (he:EG e) (PQ:aG→Hp→Prop→Prop) (q0 q1:Int):SEOk (cB (E e)) (Hy e (EE PQ q0 q1)):=
 Wz e he _ (fM (l:=[(20688500,.loop 20688500 BM)]) ⟨fun _ _ _ h=>False.elim h,trivial⟩ (by kernel_rfl))
theorem yDe {cs:List Ck} (hn:cs≠[]) (h4:cs.length≤4) (hL:∀ c∈cs,c.len=L) (ho:AF L (L1 L c0 d0 Lr) ord cs) :
  ∃ q,FinS L cs q∧small q∧∀ e,EG e→tF (E e) wP [.data (L1 L c0 d0 Lr),.data ord] (bH q.num q.den):=by
 have hok:∀ c∈cs,eI L c:=fun c hc=>by
  obtain ⟨j,hj,rfl⟩:=Cx hc;obtain ⟨_,_,_,_,h⟩:=ho.2 j hj;rw [dQ,dF hj] at h;exact h
 have hLb:0≤L∧L≤1000:=by obtain ⟨c,hc⟩:=List.exists_mem_of_ne_nil cs hn;have:=(hok c hc).1.len0;have h1:=(Cp (hok c hc).1).2;have:L≤1000:=jF.1 h1;omega
 let S0:List Sq:=cs.map fun c=>(c,0,0)
 have hS0:S0.map (·.1)=cs:=by show map _ (map _ _)=_;rw [List.map_map];exact List.map_id' cs
 have hl0:S0.length=cs.length:=lJ ..;have hR:RI L S0 0:=⟨Vo hok (AA 0),kL,fun k=>hn (List.map_eq_nil_iff.1 k)⟩;obtain ⟨q,hq,hF⟩:=Vm (n:=kG S0+1) hR (by omega);rw [hS0] at hF;have hsm:small q:=by
  have key:∀ {n:Nat} {S:List Sq} {q0:Rat},S.map (·.1)=cs→RI L S q0→runN L n S=some q→small q:=by
   intro n;induction n with
   | zero=>intro S q0 _ _ h;cases h
   | succ n ih=>
     intro S q0 e1 hi h;have hl:S.length=cs.length:=by rw [← e1,lJ]
     have r:=(Kp.fd hi (by rw [e1];exact ho) (by rw [e1];exact hL) (by omega) hLb).bend;obtain ⟨_,r2⟩:=round hi
     by_cases c:dK L S=iG L S
     ·rw [runN,WN c] at h;have:dK L S=q:=AX h;rw [← this];exact r
     ·rw [runN,WO c] at h;exact ih (by rw [En];exact e1) (r2 c).1 h
  exact key hS0 hR hq
 refine ⟨q,hF,hsm,fun e he=>?_⟩;have hol:ord.length=cs.length:=ho.1;have hz:∀ f:Sq→Int,(∀ c,f (c,0,0)=0)→aD (S0.map f)=replicate ord.length (.int .i64 0):=fun f hf=>by
  have:∀ l:List Ck,aD ((l.map fun c=>((c,0,0):Sq)).map f)=replicate l.length (.int .i64 0):=by
   intro l;induction l with
   | nil=>rfl
   | cons c l ih =>show PV.int .i64 (f (c,0,0))::aD ((l.map fun c=>((c,0,0):Sq)).map f)=_;rw [ih,hf];rfl
  rw [hol];exact this cs
 have hE:[dG (replicate ord.length (.int .i64 0)),dG (replicate ord.length (.int .i64 0))]=vO S0:=by unfold vO bY dB;rw [hz _ fun _=>rfl,hz _ fun _=>rfl]
 have hT:=Wx e ybI ybV mW kY sB ybM qU (L1 L c0 d0 Lr) ord q.num q.den (fun F H X=>(F=Cu (L1 L c0 d0 Lr) ord ord.length∧H=vO S0)∧X) (fun r=>r=bH q.num q.den);have hlp:LpOk (cB (E e)) (E e) (EE (fun F H X=>(F=Cu (L1 L c0 d0 Lr) ord ord.length∧H=vO S0)∧X) q.num q.den) [] Js.body:=
  fM (l:=[(62969800,.lG 62969800 BN),(62969801,.lG 62969801 BO),(62969802,.lG 62969802 Af)])
   ⟨fun F H Q h=>False.elim h,fun F H Q h=>False.elim h,
    fun F H Q h=>by
     obtain ⟨⟨rfl,rfl⟩,hQ⟩:=h;exact yFi he ho hL h4 hLb hQ (n:=kG S0+1) ⟨S0,0,hS0,by rw [hl0,hol],rfl,hR,hq⟩,trivial⟩ (by kernel_rfl)
 obtain ⟨r,hr,ha⟩:=Ir (yKT he _ q.num q.den) (d:=3) (fn:=Js) (n:=wP) cG.flat hlp (by kernel_rfl) (by kernel_rfl) (fun as=>lO (by kernel_rfl) _) (he.num _ (by kernel_rfl)) (hT.mpr (by
  rw [hE,bB (by omega),bB (by omega),bB (by unfold room;omega),bB (by omega),bB (by omega),bB (by unfold room;omega)];exact ⟨⟨rfl,rfl⟩,fun _=>rfl⟩))
 rw [hr] at ha;exact ha
end
def bL (L:List PV) (n:Nat) (b:List PV) (q0 q1:Int):aG:=[(0,.v (.data L)),(3,.box (bH 0 0)),(5,.v (.own 0 0 n n none)),(7,.v (.data b)),(8,.box (bH q0 q1))]
def dX (L:List PV) (n:Nat) (b:List PV) (q0 q1:Int):aG:=bL L n b q0 q1++[(33,.v (.bool false))]
def cN (L:List PV) (n:Nat) (b:List PV) (q0 q1 r0 r1:Int):aG:=bL L n b q0 q1++[(9,.box (bH r0 r1)),(39,.v (.bool false))]
def aQ (o g:List PV):Hp:=[dG o,⟨true,true,1,g⟩]
section
variable (e:Es) (aC:jS) (aF:List PV→List PV→(Int→Int→Prop)→Prop) (aL:(Int→Int→Int→Int→(Bool→Prop)→Prop))
def Kq:Nat→Option (List PV→(PV→Prop)→Prop):=yko [(Ge,nF.pw aC),(wP,Nh.pw aF),(BC,Cc.pw aL)]
def vP:SE:=⟨E e,Kq aC aF aL,yeG [],fA,fun _=>none⟩
def Kr:LP:=fun id _ F H Q=>
 bif Nat.beq id 93624500 then UE (E e) (gJ (vP e aC aF aL) 1) fA Jt 6 F H Q else
 bif Nat.beq id 93624501 then UE (E e) (gJ (vP e aC aF aL) 1) fA Ju 6 F H Q else
 bif Nat.beq id 93624502 then UE (E e) (gJ (vP e aC aF aL) 1) fA Jv 6 F H Q else False
def Ks:SE:=⟨E e,Kq aC aF aL,yeG [(Gi,BP)],Kr e aC aF aL,fun _=>none⟩
def cM (c:TC) (F:aG) (H:Hp) (Q:Ex→aG→Hp→Prop):Prop:=WC (E e) (gJ (Ks e aC aF aL) 3) fA [] cJ c F H Q
def Kt (PP:aG→Hp→Prop→Prop) (F1:aG) (H1:Hp):LP:=fun id _ F H Q=>bif Nat.beq id 3889300 then Ho (E e) (gJ (vP e aC aF aL) 1) fA MC 6 F H Q else bif Nat.beq id 3889301 then PP F H (Q (.exit 2) F1 H1) else False
variable (L b g:List PV) (q0 q1:Int) (Rn:aG→Hp→Prop) (Q:Ex→aG→Hp→Prop) (PP:aG→Hp→Prop→Prop) (K:PV→Prop)
def Ku (L:List PV) (F1:aG) (H1:Hp) (K:PV→Prop):Prop:=WP ⟨E e,Kq aC aF aL,yeG [(Gi,BP)],Kt e aC aF aL PP F1 H1,fun _=>none⟩ 3 DJ [.data L] K
def bG (n:Nat) (o:List Int):Prop:=aF L (aD o) fun r0 r1=>aL q0 q1 r0 r1 fun t=>aM t (aI (decide ((n+64)*(8+1)≤room)) (Rn (bL L n (aD o) r0 r1) (aQ (aD o) g))) (Rn (cN L n b q0 q1 r0 r1) (aQ (aD o) g))
theorem yKU:cM e aC aF aL aV (bL L 1 b q0 q1) (aQ (aD [0]) g) (QG aV 2 Rn Q)=Q (.exit 2) (dX L 1 b q0 q1) (aQ (aD [0]) g):=by kernel_rfl
theorem yKV:cM e aC aF aL aV (bL L 2 b q0 q1) (aQ (aD [0,1]) g) (QG aV 2 Rn Q)=bG aF aL L b g q0 q1 Rn 2 [1,0]:=by kernel_rfl
theorem yKW:cM e aC aF aL aV (bL L 2 b q0 q1) (aQ (aD [1,0]) g) (QG aV 2 Rn Q)=Q (.exit 2) (dX L 2 b q0 q1) (aQ (aD [1,0]) g):=by kernel_rfl
theorem yKX (r0 r1:Int):cM e aC aF aL aV (cN L 2 b q0 q1 r0 r1) (aQ (aD [1,0]) g) (QG aV 2 Rn Q)=Q (.exit 2) (dX L 2 b q0 q1) (aQ (aD [1,0]) g):=by kernel_rfl
theorem yKY:cM e aC aF aL aV (bL L 3 b q0 q1) (aQ (aD [0,1,2]) g) (QG aV 2 Rn Q)=bG aF aL L b g q0 q1 Rn 3 [0,2,1]:=by kernel_rfl
theorem yKZ:cM e aC aF aL aV (bL L 3 b q0 q1) (aQ (aD [0,2,1]) g) (QG aV 2 Rn Q)=bG aF aL L b g q0 q1 Rn 3 [1,0,2]:=by kernel_rfl
theorem yK0 (r0 r1:Int):cM e aC aF aL aV (cN L 3 b q0 q1 r0 r1) (aQ (aD [0,2,1]) g) (QG aV 2 Rn Q)=bG aF aL L b g q0 q1 Rn 3 [1,0,2]:=by kernel_rfl
theorem yK1:cM e aC aF aL aV (bL L 3 b q0 q1) (aQ (aD [1,0,2]) g) (QG aV 2 Rn Q)=bG aF aL L b g q0 q1 Rn 3 [1,2,0]:=by kernel_rfl
theorem yK2 (r0 r1:Int):cM e aC aF aL aV (cN L 3 b q0 q1 r0 r1) (aQ (aD [1,0,2]) g) (QG aV 2 Rn Q)=bG aF aL L b g q0 q1 Rn 3 [1,2,0]:=by kernel_rfl
theorem yK3:cM e aC aF aL aV (bL L 3 b q0 q1) (aQ (aD [1,2,0]) g) (QG aV 2 Rn Q)=bG aF aL L b g q0 q1 Rn 3 [2,0,1]:=by kernel_rfl
theorem yK4 (r0 r1:Int):cM e aC aF aL aV (cN L 3 b q0 q1 r0 r1) (aQ (aD [1,2,0]) g) (QG aV 2 Rn Q)=bG aF aL L b g q0 q1 Rn 3 [2,0,1]:=by kernel_rfl
theorem yK5:cM e aC aF aL aV (bL L 3 b q0 q1) (aQ (aD [2,0,1]) g) (QG aV 2 Rn Q)=bG aF aL L b g q0 q1 Rn 3 [2,1,0]:=by kernel_rfl
theorem yK6 (r0 r1:Int):cM e aC aF aL aV (cN L 3 b q0 q1 r0 r1) (aQ (aD [2,0,1]) g) (QG aV 2 Rn Q)=bG aF aL L b g q0 q1 Rn 3 [2,1,0]:=by kernel_rfl
theorem yK7:cM e aC aF aL aV (bL L 3 b q0 q1) (aQ (aD [2,1,0]) g) (QG aV 2 Rn Q)=Q (.exit 2) (dX L 3 b q0 q1) (aQ (aD [2,1,0]) g):=by kernel_rfl
theorem yK8 (r0 r1:Int):cM e aC aF aL aV (cN L 3 b q0 q1 r0 r1) (aQ (aD [2,1,0]) g) (QG aV 2 Rn Q)=Q (.exit 2) (dX L 3 b q0 q1) (aQ (aD [2,1,0]) g):=by kernel_rfl
theorem yK9:cM e aC aF aL aV (bL L 4 b q0 q1) (aQ (aD [0,1,2,3]) g) (QG aV 2 Rn Q)=bG aF aL L b g q0 q1 Rn 4 [0,1,3,2]:=by kernel_rfl
theorem yLa:cM e aC aF aL aV (bL L 4 b q0 q1) (aQ (aD [0,1,3,2]) g) (QG aV 2 Rn Q)=bG aF aL L b g q0 q1 Rn 4 [0,2,1,3]:=by kernel_rfl
theorem yLb (r0 r1:Int):cM e aC aF aL aV (cN L 4 b q0 q1 r0 r1) (aQ (aD [0,1,3,2]) g) (QG aV 2 Rn Q)=bG aF aL L b g q0 q1 Rn 4 [0,2,1,3]:=by kernel_rfl
theorem yLc:cM e aC aF aL aV (bL L 4 b q0 q1) (aQ (aD [0,2,1,3]) g) (QG aV 2 Rn Q)=bG aF aL L b g q0 q1 Rn 4 [0,2,3,1]:=by kernel_rfl
theorem yLd (r0 r1:Int):cM e aC aF aL aV (cN L 4 b q0 q1 r0 r1) (aQ (aD [0,2,1,3]) g) (QG aV 2 Rn Q)=bG aF aL L b g q0 q1 Rn 4 [0,2,3,1]:=by kernel_rfl
theorem yLe:cM e aC aF aL aV (bL L 4 b q0 q1) (aQ (aD [0,2,3,1]) g) (QG aV 2 Rn Q)=bG aF aL L b g q0 q1 Rn 4 [0,3,1,2]:=by kernel_rfl
theorem yLf (r0 r1:Int):cM e aC aF aL aV (cN L 4 b q0 q1 r0 r1) (aQ (aD [0,2,3,1]) g) (QG aV 2 Rn Q)=bG aF aL L b g q0 q1 Rn 4 [0,3,1,2]:=by kernel_rfl
theorem yLg:cM e aC aF aL aV (bL L 4 b q0 q1) (aQ (aD [0,3,1,2]) g) (QG aV 2 Rn Q)=bG aF aL L b g q0 q1 Rn 4 [0,3,2,1]:=by kernel_rfl
theorem yLh (r0 r1:Int):cM e aC aF aL aV (cN L 4 b q0 q1 r0 r1) (aQ (aD [0,3,1,2]) g) (QG aV 2 Rn Q)=bG aF aL L b g q0 q1 Rn 4 [0,3,2,1]:=by kernel_rfl
theorem yLi:cM e aC aF aL aV (bL L 4 b q0 q1) (aQ (aD [0,3,2,1]) g) (QG aV 2 Rn Q)=bG aF aL L b g q0 q1 Rn 4 [1,0,2,3]:=by kernel_rfl
theorem yLj (r0 r1:Int):cM e aC aF aL aV (cN L 4 b q0 q1 r0 r1) (aQ (aD [0,3,2,1]) g) (QG aV 2 Rn Q)=bG aF aL L b g q0 q1 Rn 4 [1,0,2,3]:=by kernel_rfl
theorem yLk:cM e aC aF aL aV (bL L 4 b q0 q1) (aQ (aD [1,0,2,3]) g) (QG aV 2 Rn Q)=bG aF aL L b g q0 q1 Rn 4 [1,0,3,2]:=by kernel_rfl
theorem yLl (r0 r1:Int):cM e aC aF aL aV (cN L 4 b q0 q1 r0 r1) (aQ (aD [1,0,2,3]) g) (QG aV 2 Rn Q)=bG aF aL L b g q0 q1 Rn 4 [1,0,3,2]:=by kernel_rfl
theorem yLm:cM e aC aF aL aV (bL L 4 b q0 q1) (aQ (aD [1,0,3,2]) g) (QG aV 2 Rn Q)=bG aF aL L b g q0 q1 Rn 4 [1,2,0,3]:=by kernel_rfl
theorem yLn (r0 r1:Int):cM e aC aF aL aV (cN L 4 b q0 q1 r0 r1) (aQ (aD [1,0,3,2]) g) (QG aV 2 Rn Q)=bG aF aL L b g q0 q1 Rn 4 [1,2,0,3]:=by kernel_rfl
theorem yLo:cM e aC aF aL aV (bL L 4 b q0 q1) (aQ (aD [1,2,0,3]) g) (QG aV 2 Rn Q)=bG aF aL L b g q0 q1 Rn 4 [1,2,3,0]:=by kernel_rfl
theorem yLp (r0 r1:Int):cM e aC aF aL aV (cN L 4 b q0 q1 r0 r1) (aQ (aD [1,2,0,3]) g) (QG aV 2 Rn Q)=bG aF aL L b g q0 q1 Rn 4 [1,2,3,0]:=by kernel_rfl
theorem yLq:cM e aC aF aL aV (bL L 4 b q0 q1) (aQ (aD [1,2,3,0]) g) (QG aV 2 Rn Q)=bG aF aL L b g q0 q1 Rn 4 [1,3,0,2]:=by kernel_rfl
theorem yLr (r0 r1:Int):cM e aC aF aL aV (cN L 4 b q0 q1 r0 r1) (aQ (aD [1,2,3,0]) g) (QG aV 2 Rn Q)=bG aF aL L b g q0 q1 Rn 4 [1,3,0,2]:=by kernel_rfl
theorem yHn:cM e aC aF aL aV (bL L 4 b q0 q1) (aQ (aD [1,3,0,2]) g) (QG aV 2 Rn Q)=bG aF aL L b g q0 q1 Rn 4 [1,3,2,0]:=by kernel_rfl
theorem yHo (r0 r1:Int):cM e aC aF aL aV (cN L 4 b q0 q1 r0 r1) (aQ (aD [1,3,0,2]) g) (QG aV 2 Rn Q)=bG aF aL L b g q0 q1 Rn 4 [1,3,2,0]:=by kernel_rfl
theorem yHp:cM e aC aF aL aV (bL L 4 b q0 q1) (aQ (aD [1,3,2,0]) g) (QG aV 2 Rn Q)=bG aF aL L b g q0 q1 Rn 4 [2,0,1,3]:=by kernel_rfl
theorem yHq (r0 r1:Int):cM e aC aF aL aV (cN L 4 b q0 q1 r0 r1) (aQ (aD [1,3,2,0]) g) (QG aV 2 Rn Q)=bG aF aL L b g q0 q1 Rn 4 [2,0,1,3]:=by kernel_rfl
theorem yHr:cM e aC aF aL aV (bL L 4 b q0 q1) (aQ (aD [2,0,1,3]) g) (QG aV 2 Rn Q)=bG aF aL L b g q0 q1 Rn 4 [2,0,3,1]:=by kernel_rfl
theorem yHs (r0 r1:Int):cM e aC aF aL aV (cN L 4 b q0 q1 r0 r1) (aQ (aD [2,0,1,3]) g) (QG aV 2 Rn Q)=bG aF aL L b g q0 q1 Rn 4 [2,0,3,1]:=by kernel_rfl
theorem yHt:cM e aC aF aL aV (bL L 4 b q0 q1) (aQ (aD [2,0,3,1]) g) (QG aV 2 Rn Q)=bG aF aL L b g q0 q1 Rn 4 [2,1,0,3]:=by kernel_rfl
theorem yHu (r0 r1:Int):cM e aC aF aL aV (cN L 4 b q0 q1 r0 r1) (aQ (aD [2,0,3,1]) g) (QG aV 2 Rn Q)=bG aF aL L b g q0 q1 Rn 4 [2,1,0,3]:=by kernel_rfl
theorem yHv:cM e aC aF aL aV (bL L 4 b q0 q1) (aQ (aD [2,1,0,3]) g) (QG aV 2 Rn Q)=bG aF aL L b g q0 q1 Rn 4 [2,1,3,0]:=by kernel_rfl
theorem yHw (r0 r1:Int):cM e aC aF aL aV (cN L 4 b q0 q1 r0 r1) (aQ (aD [2,1,0,3]) g) (QG aV 2 Rn Q)=bG aF aL L b g q0 q1 Rn 4 [2,1,3,0]:=by kernel_rfl
theorem yHx:cM e aC aF aL aV (bL L 4 b q0 q1) (aQ (aD [2,1,3,0]) g) (QG aV 2 Rn Q)=bG aF aL L b g q0 q1 Rn 4 [2,3,0,1]:=by kernel_rfl
theorem yHy (r0 r1:Int):cM e aC aF aL aV (cN L 4 b q0 q1 r0 r1) (aQ (aD [2,1,3,0]) g) (QG aV 2 Rn Q)=bG aF aL L b g q0 q1 Rn 4 [2,3,0,1]:=by kernel_rfl
theorem yHz:cM e aC aF aL aV (bL L 4 b q0 q1) (aQ (aD [2,3,0,1]) g) (QG aV 2 Rn Q)=bG aF aL L b g q0 q1 Rn 4 [2,3,1,0]:=by kernel_rfl
theorem yHA (r0 r1:Int):cM e aC aF aL aV (cN L 4 b q0 q1 r0 r1) (aQ (aD [2,3,0,1]) g) (QG aV 2 Rn Q)=bG aF aL L b g q0 q1 Rn 4 [2,3,1,0]:=by kernel_rfl
theorem yHB:cM e aC aF aL aV (bL L 4 b q0 q1) (aQ (aD [2,3,1,0]) g) (QG aV 2 Rn Q)=bG aF aL L b g q0 q1 Rn 4 [3,0,1,2]:=by kernel_rfl
theorem yHC (r0 r1:Int):cM e aC aF aL aV (cN L 4 b q0 q1 r0 r1) (aQ (aD [2,3,1,0]) g) (QG aV 2 Rn Q)=bG aF aL L b g q0 q1 Rn 4 [3,0,1,2]:=by kernel_rfl
theorem yHD:cM e aC aF aL aV (bL L 4 b q0 q1) (aQ (aD [3,0,1,2]) g) (QG aV 2 Rn Q)=bG aF aL L b g q0 q1 Rn 4 [3,0,2,1]:=by kernel_rfl
theorem yHE (r0 r1:Int):cM e aC aF aL aV (cN L 4 b q0 q1 r0 r1) (aQ (aD [3,0,1,2]) g) (QG aV 2 Rn Q)=bG aF aL L b g q0 q1 Rn 4 [3,0,2,1]:=by kernel_rfl
theorem yHF:cM e aC aF aL aV (bL L 4 b q0 q1) (aQ (aD [3,0,2,1]) g) (QG aV 2 Rn Q)=bG aF aL L b g q0 q1 Rn 4 [3,1,0,2]:=by kernel_rfl
theorem yHG (r0 r1:Int):cM e aC aF aL aV (cN L 4 b q0 q1 r0 r1) (aQ (aD [3,0,2,1]) g) (QG aV 2 Rn Q)=bG aF aL L b g q0 q1 Rn 4 [3,1,0,2]:=by kernel_rfl
theorem yHH:cM e aC aF aL aV (bL L 4 b q0 q1) (aQ (aD [3,1,0,2]) g) (QG aV 2 Rn Q)=bG aF aL L b g q0 q1 Rn 4 [3,1,2,0]:=by kernel_rfl
theorem yHI (r0 r1:Int):cM e aC aF aL aV (cN L 4 b q0 q1 r0 r1) (aQ (aD [3,1,0,2]) g) (QG aV 2 Rn Q)=bG aF aL L b g q0 q1 Rn 4 [3,1,2,0]:=by kernel_rfl
theorem yHJ:cM e aC aF aL aV (bL L 4 b q0 q1) (aQ (aD [3,1,2,0]) g) (QG aV 2 Rn Q)=bG aF aL L b g q0 q1 Rn 4 [3,2,0,1]:=by kernel_rfl
theorem yHK (r0 r1:Int):cM e aC aF aL aV (cN L 4 b q0 q1 r0 r1) (aQ (aD [3,1,2,0]) g) (QG aV 2 Rn Q)=bG aF aL L b g q0 q1 Rn 4 [3,2,0,1]:=by kernel_rfl
theorem yHL:cM e aC aF aL aV (bL L 4 b q0 q1) (aQ (aD [3,2,0,1]) g) (QG aV 2 Rn Q)=bG aF aL L b g q0 q1 Rn 4 [3,2,1,0]:=by kernel_rfl
theorem yHM (r0 r1:Int):cM e aC aF aL aV (cN L 4 b q0 q1 r0 r1) (aQ (aD [3,2,0,1]) g) (QG aV 2 Rn Q)=bG aF aL L b g q0 q1 Rn 4 [3,2,1,0]:=by kernel_rfl
theorem yHN:cM e aC aF aL aV (bL L 4 b q0 q1) (aQ (aD [3,2,1,0]) g) (QG aV 2 Rn Q)=Q (.exit 2) (dX L 4 b q0 q1) (aQ (aD [3,2,1,0]) g):=by kernel_rfl
theorem yHO (r0 r1:Int):cM e aC aF aL aV (cN L 4 b q0 q1 r0 r1) (aQ (aD [3,2,1,0]) g) (QG aV 2 Rn Q)=Q (.exit 2) (dX L 4 b q0 q1) (aQ (aD [3,2,1,0]) g):=by kernel_rfl
theorem WH (x0:PV) (oo:List PV):Ku e aC aF aL PP [x0] (dX [x0] 1 b q0 q1) (aQ oo g) K=aC [x0] fun c=>aM (c !=0) (aC [x0] fun c=>K (.tup [.data [],bH 0 0,.int .i64 c])) (aI (decide ((1+64)*(8+1)≤room)) (aI (decide ((1+64)*(8+1)≤room)) (aF [x0] (aD [0]) fun r0 r1=>PP (bL [x0] 1 (aD [0]) r0 r1) (aQ (aD [0]) (aD [0])) (K (.tup [.data b,bH q0 q1,.int .i64 0]))))):=by kernel_rfl
theorem WI (x0 x1:PV) (oo:List PV):Ku e aC aF aL PP [x0,x1] (dX [x0,x1] 2 b q0 q1) (aQ oo g) K=aC [x0,x1] fun c=>aM (c !=0) (aC [x0,x1] fun c=>K (.tup [.data [],bH 0 0,.int .i64 c])) (aI (decide ((1+64)*(8+1)≤room)) (aI (decide ((2+64)*(8+1)≤room)) (aI (decide ((2+64)*(8+1)≤room)) (aF [x0,x1] (aD [0,1]) fun r0 r1=>PP (bL [x0,x1] 2 (aD [0,1]) r0 r1) (aQ (aD [0,1]) (aD [0,1])) (K (.tup [.data b,bH q0 q1,.int .i64 0])))))):=by kernel_rfl
theorem WJ (x0 x1 x2:PV) (oo:List PV):Ku e aC aF aL PP [x0,x1,x2] (dX [x0,x1,x2] 3 b q0 q1) (aQ oo g) K=aC [x0,x1,x2] fun c=>aM (c !=0) (aC [x0,x1,x2] fun c=>K (.tup [.data [],bH 0 0,.int .i64 c])) (aI (decide ((1+64)*(8+1)≤room)) (aI (decide ((2+64)*(8+1)≤room)) (aI (decide ((3+64)*(8+1)≤room)) (aI (decide ((3+64)*(8+1)≤room)) (aF [x0,x1,x2] (aD [0,1,2]) fun r0 r1=>PP (bL [x0,x1,x2] 3 (aD [0,1,2]) r0 r1) (aQ (aD [0,1,2]) (aD [0,1,2])) (K (.tup [.data b,bH q0 q1,.int .i64 0]))))))):=by kernel_rfl
theorem WK (x0 x1 x2 x3:PV) (oo:List PV):Ku e aC aF aL PP [x0,x1,x2,x3] (dX [x0,x1,x2,x3] 4 b q0 q1) (aQ oo g) K=aC [x0,x1,x2,x3] fun c=>aM (c !=0) (aC [x0,x1,x2,x3] fun c=>K (.tup [.data [],bH 0 0,.int .i64 c])) (aI (decide ((1+64)*(8+1)≤room)) (aI (decide ((2+64)*(8+1)≤room)) (aI (decide ((3+64)*(8+1)≤room)) (aI (decide ((4+64)*(8+1)≤room)) (aI (decide ((4+64)*(8+1)≤room)) (aF [x0,x1,x2,x3] (aD [0,1,2,3]) fun r0 r1=>PP (bL [x0,x1,x2,x3] 4 (aD [0,1,2,3]) r0 r1) (aQ (aD [0,1,2,3]) (aD [0,1,2,3])) (K (.tup [.data b,bH q0 q1,.int .i64 0])))))))):=by kernel_rfl
end
theorem Y8 {x0:List PV→Int→Int→Int→Bool→Prop} {x1:Int→Prop} {X:Bool→Prop} (d:List Int) (hl:d.length<1000000) (h0:x0 (aD d) 0 d.length d.length false=X true) (h1:∀ i:Nat,x1 (i:Int)=X false) :
  ∀ (r i n:Nat),i+r=d.length→r<n→tM x0 x1 n (aD d) 0 d.length (i:Int)=X ((d.drop i).all fun y=>decide (y≠0))
 | 0,i,n+1,hi,hn=>by unfold tM;rw [eE (by omega),nA (by omega),show (i:Int)=d.length by omega];exact h0
 | r+1,i,n+1,hi,hn=>by
  unfold tM;have e1:=eQ (n:=(i:Int)+1) (by omega) (by omega);simp only [lt];rw [eC (by omega),dZ,bB (by omega),bB (by omega),dR,fP (by omega),fG (by omega),tQ 0 (by omega),List.all_cons]
  by_cases c:d.getD i 0=0
  ·rw [He c.symm,h1,show decide (d.getD i 0≠0)=false from Os (fun k=>k c),qK]
  ·rw [Eg (Ne.symm c),e1,kD,Y8 d hl h0 h1 r (i+1) n (by omega) (by omega),Eb c,sS]
theorem yHP {c:Ck} (hl:c.dens.length<1000000) (K:Bool→Prop):sC c.len (aD c.cuts) (aD c.dens) K=K (!hunE c):=by
 refine I5 _ _ _ _ (fun K k=>?_) K;unfold sC Nd Ca JG JF JE;rw [dZ];refine ⟨c.dens.length+1,(Y8 (X:=fun b=>K (!b)) c.dens hl rfl (fun i=>?_) c.dens.length 0 _ (by omega) (by omega)).mpr ?_⟩
 ·show K (decide ((i:Int)≥0))=K true;rw [Eb (by omega)]
 ·rw [qJ];exact k
theorem Y9 {l:List Ck} {x0:List PV→Int→Int→Bool→Prop} {x1:Int→Prop} {X:Bool→Prop} (hl:l.length≤1000000) (hw:mY l) (h0:x0 (cks l) l.length l.length false=X true) (h1:∀ i:Nat,x1 (i:Int)=X false) :
  ∀ (r i n:Nat),i+r=l.length→r<n→Ao uW sC x0 x1 n (cks l) (l.length:Int) (i:Int)=X ((l.drop i).all hunE)
 | 0,i,n+1,hi,hn=>by unfold Ao;rw [eE (by omega),nA (by omega),show (i:Int)=l.length by omega];exact h0
 | r+1,i,n+1,hi,hn=>by
  unfold Ao;have e1:=eQ (n:=(i:Int)+1) (by omega) (by omega);simp only [lt];rw [eC (by omega),iQ,bB (by omega),bB (by omega),dR,tP (by omega),gZ,xD,Ej,Hf,yHP (hw i (by omega)).2,e1,kD,tQ default (by omega),List.all_cons]
  cases hunE (l.getD i default)
  ·rw [Bool.not_false,bU,qK];exact h1 i
  ·rw [Bool.not_true,bN,sS];exact Y9 hl hw h0 h1 r (i+1) n (by omega) (by omega)
theorem yDf {l:List Ck} (hl:l.length≤1000000) (hw:mY l) (K:Int→Prop):mU (cks l) K=K (tU l):=by
 refine I6 _ _ (fun K k=>?_) K;unfold mU Nf;rw [O4 hw.fin (by omega)];unfold tU at k;show aM (pX l 0 !=0) _ _
 by_cases c:pX l 0=0
 ·rw [mX c,iQ];rw [WO (by omega)] at k
  by_cases c4:l.length>4
  ·rw [eC (by omega)];rw [WN c4] at k;exact k
  ·rw [eE (by omega)];rw [WO c4] at k;simp only [Go.Pf.jn];refine ⟨l.length+1,(Y9 (X:=fun b=>K (if b=true then 0 else 2)) hl hw ?_ (fun i=>?_) l.length 0 _ (by omega) (by omega)).mpr ?_⟩
   ·show aM (decide ((-1:Int)≥0)) (K 2) (K 0)=K 0;rw [eE (by omega)]
   ·show aM (decide ((i:Int)≥0)) (K 2) (K 0)=K 2;rw [eC (by omega)]
   ·rw [qJ];exact k
 ·rw [qX c];rw [WN c] at k;exact k
section
variable {e:Es}
theorem yHQ (he:EG e) {L:List PV} {R:PV} (tAll:cF (nQ (E e)) yF3.fn.body (jY 0 [.data L]) [] (cL fun r=>r=R)):mP (E e) oM [.data L] R:=by
 obtain ⟨r,H',hr,m0,hm⟩:=cF.inl_ (aX.solo (E e)) (n:=oM) (fn:=yF3.fn) (by kernel_rfl) (he.num _ (by kernel_rfl)) (K:=fun r H'=>purR H' r=some R) rfl
  (cF.mono tAll (by
   intro x F' H' h;unfold cL at h
   cases x with
   | norm=>
    dsimp only at h ⊢;show (match ycF F' H' yF3.results with | some ps=>purR H' (lL ps)=_ | none=>False)
    cases hp:ycF F' H' yF3.results with
    | none=>rw [hp] at h;exact h.elim
    | some ps=>
     rw [hp] at h;dsimp only at h ⊢
     cases hr:purR H' (lL ps) with
     | none=>rw [hr] at h;exact h.elim
     | some r=>rw [hr] at h;exact Aaa some h
   | ret=>
    dsimp only at h ⊢;show (match ycF F' H' yF3.results with | some ps=>purR H' (lL ps)=_ | none=>False)
    cases hp:ycF F' H' yF3.results with
    | none=>rw [hp] at h;exact h.elim
    | some ps=>
     rw [hp] at h;dsimp only at h ⊢
     cases hr:purR H' (lL ps) with
     | none=>rw [hr] at h;exact h.elim
     | some r=>rw [hr] at h;exact Aaa some h
   | exit i=>exact h.elim
   | brk _ _=>exact h.elim))
 refine ⟨m0,fun k x m h1 h2 h3=>?_⟩;have h2':x=E e:=h2;have hmm:=hm k x m h1 h2 h3;subst h2';unfold ycj;have hs:(E e).sum oM [.data L]=none:=lO (by kernel_rfl) _;rw [hs,show (E e).qui oM=true from by kernel_rfl,hmm,show (E e).nl oM=false from by kernel_rfl];exact hr
theorem yDg {l:List Ck} {r:Int} (hc:∀ K:Int→Prop,K r→mU (cks l) K) (hr:r≠0) (K:List PV→Int→Int→Int→Prop):GU (cks l) K=K [] 0 0 r:=by refine I7 _ _ _ _ _ (fun K k=>⟨_,_,_,_,k,fun e he=>?_⟩) K;refine yHQ he ?_;rw [V8];refine cF.seq (sM he (by kernel_rfl) (by kernel_rfl) ?_);rw [W0];refine cF.seq (sM he (by kernel_rfl) (by kernel_rfl) ?_);rw [W5];refine hc _ ?_;rw [qX hr];show cL (fun r'=>r'=_) .ret _ _;rw [yLV];rfl
abbrev sBS (e:Es) (lp:LP):SE:=⟨E e,Kq qW oS kY,yeG [(Gi,BP)],lp,fun _=>none⟩
theorem NO (he:EG e):SEOk (cB (E e)) (vP e qW oS kY):=cT (aX.uni _) ⟨TT e he,Uc e he,Tp e he,trivial⟩ trivial he.ok
theorem WL (he:EG e) (lp:LP) (h:LpOk (cB (E e)) (E e) lp [] BP.body):SEOk (cB (E e)) (sBS e lp):=cT (aX.uni _) ⟨TT e he,Uc e he,Tp e he,trivial⟩
 ⟨⟨by kernel_rfl,by kernel_rfl,by kernel_rfl,fun as=>lO (by kernel_rfl) _,he.num _ (by kernel_rfl),by kernel_rfl,h⟩,trivial⟩ he.ok
theorem yHR (he:EG e):LpOk (cB (E e)) (E e) (Kr e qW oS kY) [] BP.body:=
 fM (l:=[(93624500,.loop 93624500 Jt),(93624501,.loop 93624501 Ju),(93624502,.loop 93624502 Jv)])
  ⟨fun F H Q h=>Kh (aX.uni _) (eJ (NO he) 1) (by kernel_rfl) (bW (by kernel_rfl)) h,
   fun F H Q h=>Kh (aX.uni _) (eJ (NO he) 1) (by kernel_rfl) (bW (by kernel_rfl)) h,
   fun F H Q h=>Kh (aX.uni _) (eJ (NO he) 1) (by kernel_rfl) (bW (by kernel_rfl)) h,trivial⟩ (by kernel_rfl)
end
section
variable (e:Es) (aC:jS) (aF:List PV→List PV→(Int→Int→Prop)→Prop) (aL:(Int→Int→Int→Int→(Bool→Prop)→Prop))
theorem WM (L:List PV) (K:PV→Prop):WP ⟨E e,Kq aC aF aL,yeG [(Gi,BP)],fA,fun _=>none⟩ 3 DJ [.data L] K=aC L fun c=>aM (c !=0) (aC L fun c=>K (.tup [.data [],bH 0 0,.int .i64 c])) False:=by kernel_rfl
end
theorem yDh {l:List Ck} (hl:l.length≤1000000) (hw:mY l) (hr:tU l≠0) (K:List PV→Int→Int→Int→Prop):Ha (cks l) K=K [] 0 0 (tU l):=by
 refine K1 _ _ _ _ _ (fun K k=>⟨_,_,_,_,k,fun e he=>?_⟩) K;obtain ⟨r,hr,ha⟩:=Ir (WL he fA (fM (l:=[(93624500,.loop 93624500 Jt),(93624501,.loop 93624501 Ju),(93624502,.loop 93624502 Jv)]) ⟨fun _ _ _ h=>False.elim h,fun _ _ _ h=>False.elim h,fun _ _ _ h=>False.elim h,trivial⟩ (by kernel_rfl))) (d:=3) (fn:=DJ) (n:=yV) cG.flat
  (fM (l:=[(3889300,.lG 3889300 MC),(3889301,.lG 3889301 aV)]) ⟨fun _ _ _ h=>False.elim h,fun _ _ _ h=>False.elim h,trivial⟩ (by kernel_rfl)) (by kernel_rfl) (by kernel_rfl) (fun as=>lO (by kernel_rfl) _) (he.num _ (by kernel_rfl))
  (K:=fun r=>r=.tup [.data [],bH 0 0,.int .i64 (tU l)]) (as:=[.data (cks l)]) ((WM e _ _ _ _ _).mpr (by rw [Vp hl hw,qX hr,Vp hl hw]))
 rw [hr] at ha;exact ha
def aY (n k:Nat):List Int:=(oB n).getD k []
section
variable (e:Es) (aC:jS) (aF:List PV→List PV→(Int→Int→Prop)→Prop) (aL:(Int→Int→Int→Int→(Bool→Prop)→Prop))
variable (L b g:List PV) (q0 q1 r0 r1:Int) (Rn:aG→Hp→Prop) (Q:Ex→aG→Hp→Prop)
theorem yLY:∀ k,k+1<1→cM e aC aF aL aV (bL L 1 b q0 q1) (aQ (aD (aY 1 k)) g) (QG aV 2 Rn Q)=bG aF aL L b g q0 q1 Rn 1 (aY 1 (k+1))
 | k+0,h=>absurd h (by omega)
theorem yLZ:cM e aC aF aL aV (bL L 1 b q0 q1) (aQ (aD (aY 1 0)) g) (QG aV 2 Rn Q)=Q (.exit 2) (dX L 1 b q0 q1) (aQ (aD (aY 1 0)) g):=yKU ..
theorem yL0:∀ k,k+1<1→0<k→cM e aC aF aL aV (cN L 1 b q0 q1 r0 r1) (aQ (aD (aY 1 k)) g) (QG aV 2 Rn Q)=bG aF aL L b g q0 q1 Rn 1 (aY 1 (k+1))
 | k+0,h,_=>absurd h (by omega)
theorem yL1:∀ k,k+1<2→cM e aC aF aL aV (bL L 2 b q0 q1) (aQ (aD (aY 2 k)) g) (QG aV 2 Rn Q)=bG aF aL L b g q0 q1 Rn 2 (aY 2 (k+1))
 | 0,_=>yKV ..
 | k+1,h=>absurd h (by omega)
theorem yL2:cM e aC aF aL aV (bL L 2 b q0 q1) (aQ (aD (aY 2 1)) g) (QG aV 2 Rn Q)=Q (.exit 2) (dX L 2 b q0 q1) (aQ (aD (aY 2 1)) g):=yKW ..
theorem yL3:∀ k,k+1<2→0<k→cM e aC aF aL aV (cN L 2 b q0 q1 r0 r1) (aQ (aD (aY 2 k)) g) (QG aV 2 Rn Q)=bG aF aL L b g q0 q1 Rn 2 (aY 2 (k+1))
 | 0,_,h=>absurd h (by omega)
 | k+1,h,_=>absurd h (by omega)
theorem yL4:cM e aC aF aL aV (cN L 2 b q0 q1 r0 r1) (aQ (aD (aY 2 1)) g) (QG aV 2 Rn Q)=Q (.exit 2) (dX L 2 b q0 q1) (aQ (aD (aY 2 1)) g):=yKX ..
theorem yL5:∀ k,k+1<6→cM e aC aF aL aV (bL L 3 b q0 q1) (aQ (aD (aY 3 k)) g) (QG aV 2 Rn Q)=bG aF aL L b g q0 q1 Rn 3 (aY 3 (k+1))
 | 0,_=>yKY ..
 | 1,_=>yKZ ..
 | 2,_=>yK1 ..
 | 3,_=>yK3 ..
 | 4,_=>yK5 ..
 | k+5,h=>absurd h (by omega)
theorem yL6:cM e aC aF aL aV (bL L 3 b q0 q1) (aQ (aD (aY 3 5)) g) (QG aV 2 Rn Q)=Q (.exit 2) (dX L 3 b q0 q1) (aQ (aD (aY 3 5)) g):=yK7 ..
theorem yL7:∀ k,k+1<6→0<k→cM e aC aF aL aV (cN L 3 b q0 q1 r0 r1) (aQ (aD (aY 3 k)) g) (QG aV 2 Rn Q)=bG aF aL L b g q0 q1 Rn 3 (aY 3 (k+1))
 | 0,_,h=>absurd h (by omega)
 | 1,_,_=>yK0 ..
 | 2,_,_=>yK2 ..
 | 3,_,_=>yK4 ..
 | 4,_,_=>yK6 ..
 | k+5,h,_=>absurd h (by omega)
theorem yL8:cM e aC aF aL aV (cN L 3 b q0 q1 r0 r1) (aQ (aD (aY 3 5)) g) (QG aV 2 Rn Q)=Q (.exit 2) (dX L 3 b q0 q1) (aQ (aD (aY 3 5)) g):=yK8 ..
theorem yL9:∀ k,k+1<24→cM e aC aF aL aV (bL L 4 b q0 q1) (aQ (aD (aY 4 k)) g) (QG aV 2 Rn Q)=bG aF aL L b g q0 q1 Rn 4 (aY 4 (k+1))
 | 0,_=>yK9 ..
 | 1,_=>yLa ..
 | 2,_=>yLc ..
 | 3,_=>yLe ..
 | 4,_=>yLg ..
 | 5,_=>yLi ..
 | 6,_=>yLk ..
 | 7,_=>yLm ..
 | 8,_=>yLo ..
 | 9,_=>yLq ..
 | 10,_=>yHn ..
 | 11,_=>yHp ..
 | 12,_=>yHr ..
 | 13,_=>yHt ..
 | 14,_=>yHv ..
 | 15,_=>yHx ..
 | 16,_=>yHz ..
 | 17,_=>yHB ..
 | 18,_=>yHD ..
 | 19,_=>yHF ..
 | 20,_=>yHH ..
 | 21,_=>yHJ ..
 | 22,_=>yHL ..
 | k+23,h=>absurd h (by omega)
theorem yMa:cM e aC aF aL aV (bL L 4 b q0 q1) (aQ (aD (aY 4 23)) g) (QG aV 2 Rn Q)=Q (.exit 2) (dX L 4 b q0 q1) (aQ (aD (aY 4 23)) g):=yHN ..
theorem yMb:∀ k,k+1<24→0<k→cM e aC aF aL aV (cN L 4 b q0 q1 r0 r1) (aQ (aD (aY 4 k)) g) (QG aV 2 Rn Q)=bG aF aL L b g q0 q1 Rn 4 (aY 4 (k+1))
 | 0,_,h=>absurd h (by omega)
 | 1,_,_=>yLb ..
 | 2,_,_=>yLd ..
 | 3,_,_=>yLf ..
 | 4,_,_=>yLh ..
 | 5,_,_=>yLj ..
 | 6,_,_=>yLl ..
 | 7,_,_=>yLn ..
 | 8,_,_=>yLp ..
 | 9,_,_=>yLr ..
 | 10,_,_=>yHo ..
 | 11,_,_=>yHq ..
 | 12,_,_=>yHs ..
 | 13,_,_=>yHu ..
 | 14,_,_=>yHw ..
 | 15,_,_=>yHy ..
 | 16,_,_=>yHA ..
 | 17,_,_=>yHC ..
 | 18,_,_=>yHE ..
 | 19,_,_=>yHG ..
 | 20,_,_=>yHI ..
 | 21,_,_=>yHK ..
 | 22,_,_=>yHM ..
 | k+23,h,_=>absurd h (by omega)
theorem yMc:cM e aC aF aL aV (cN L 4 b q0 q1 r0 r1) (aQ (aD (aY 4 23)) g) (QG aV 2 Rn Q)=Q (.exit 2) (dX L 4 b q0 q1) (aQ (aD (aY 4 23)) g):=yHO ..
end
theorem Z0:∀ n,n≤4→∀ k,k<cA n→1≤n→aY n k=mZ n k
 | 0,_=>fun _ _ h=>absurd h (by omega)
 | 1,_=>by decide +kernel
 | 2,_=>by decide +kernel
 | 3,_=>by decide +kernel
 | 4,_=>by decide +kernel
 | _+5,h=>absurd h (by omega)
section
variable (e:Es) (aC:jS) (aF:List PV→List PV→(Int→Int→Prop)→Prop) (aL:(Int→Int→Int→Int→(Bool→Prop)→Prop))
variable (L b g:List PV) (q0 q1 r0 r1:Int) (Rn:aG→Hp→Prop) (Q:Ex→aG→Hp→Prop)
theorem bbA:∀ n k,1≤n→n≤4→k+1<cA n→cM e aC aF aL aV (bL L n b q0 q1) (aQ (aD (aY n k)) g) (QG aV 2 Rn Q)=bG aF aL L b g q0 q1 Rn n (aY n (k+1))
 | 1,k,_,_,h=>yLY e aC aF aL L b g q0 q1 Rn Q k h
 | 2,k,_,_,h=>yL1 e aC aF aL L b g q0 q1 Rn Q k h
 | 3,k,_,_,h=>yL5 e aC aF aL L b g q0 q1 Rn Q k h
 | 4,k,_,_,h=>yL9 e aC aF aL L b g q0 q1 Rn Q k h
 | 0,_,h,_,_=>absurd h (by omega)
 | _+5,_,_,h,_=>absurd h (by omega)
theorem bcA:∀ n k,1≤n→n≤4→k+1<cA n→0<k→cM e aC aF aL aV (cN L n b q0 q1 r0 r1) (aQ (aD (aY n k)) g) (QG aV 2 Rn Q)=bG aF aL L b g q0 q1 Rn n (aY n (k+1))
 | 1,k,_,_,h,p=>yL0 e aC aF aL L b g q0 q1 r0 r1 Rn Q k h p
 | 2,k,_,_,h,p=>yL3 e aC aF aL L b g q0 q1 r0 r1 Rn Q k h p
 | 3,k,_,_,h,p=>yL7 e aC aF aL L b g q0 q1 r0 r1 Rn Q k h p
 | 4,k,_,_,h,p=>yMb e aC aF aL L b g q0 q1 r0 r1 Rn Q k h p
 | 0,_,h,_,_,_=>absurd h (by omega)
 | _+5,_,_,h,_,_=>absurd h (by omega)
theorem beA:∀ n,1≤n→n≤4→cM e aC aF aL aV (bL L n b q0 q1) (aQ (aD (aY n (cA n-1))) g) (QG aV 2 Rn Q)=Q (.exit 2) (dX L n b q0 q1) (aQ (aD (aY n (cA n-1))) g)
 | 1,_,_=>yLZ ..
 | 2,_,_=>yL2 ..
 | 3,_,_=>yL6 ..
 | 4,_,_=>yMa ..
 | 0,h,_=>absurd h (by omega)
 | _+5,_,h=>absurd h (by omega)
theorem bfA:∀ n,1≤n→n≤4→0<cA n-1→cM e aC aF aL aV (cN L n b q0 q1 r0 r1) (aQ (aD (aY n (cA n-1))) g) (QG aV 2 Rn Q)=Q (.exit 2) (dX L n b q0 q1) (aQ (aD (aY n (cA n-1))) g)
 | 1,_,_,h=>absurd h (by decide)
 | 2,_,_,_=>yL4 ..
 | 3,_,_,_=>yL8 ..
 | 4,_,_,_=>yMc ..
 | 0,h,_,_=>absurd h (by omega)
 | _+5,_,h,_=>absurd h (by omega)
variable (PP:aG→Hp→Prop→Prop) (K:PV→Prop)
theorem btA {L:List PV} (hc:∀ K:Int→Prop,K 0→aC L K) (oo:List PV) (h:aF L (aD (aY L.length 0)) fun r0 r1=>PP (bL L L.length (aD (aY L.length 0)) r0 r1) (aQ (aD (aY L.length 0)) (aD (aY L.length 0))) (K (.tup [.data b,bH q0 q1,.int .i64 0]))) (h1:1≤L.length) (h4:L.length≤4) :
  Ku e aC aF aL PP L (dX L L.length b q0 q1) (aQ oo g) K:=
 match L,h1,h4,hc,h with
 | [],h1,_,_,_=>absurd h1 (by decide)
 | [x0],_,_,hc,h=>(WH e aC aF aL b g q0 q1 PP K x0 oo).mpr (hc _ (by rw [mX rfl,bB (by unfold room;omega),bB (by unfold room;omega)];exact h))
 | [x0,x1],_,_,hc,h=>(WI e aC aF aL b g q0 q1 PP K x0 x1 oo).mpr (hc _ (by rw [mX rfl,bB (by unfold room;omega),bB (by unfold room;omega),bB (by unfold room;omega)];exact h))
 | [x0,x1,x2],_,_,hc,h=>(WJ e aC aF aL b g q0 q1 PP K x0 x1 x2 oo).mpr (hc _ (by rw [mX rfl,bB (by unfold room;omega),bB (by unfold room;omega),bB (by unfold room;omega),bB (by unfold room;omega)];exact h))
 | [x0,x1,x2,x3],_,_,hc,h=>(WK e aC aF aL b g q0 q1 PP K x0 x1 x2 x3 oo).mpr (hc _ (by rw [mX rfl,bB (by unfold room;omega),bB (by unfold room;omega),bB (by unfold room;omega),bB (by unfold room;omega),bB (by unfold room;omega)];exact h))
 | _::_::_::_::_::_,_,h4,_,_=>absurd h4 (by simp only [kK];omega)
end
section
variable {e:Es} {L:List PV} {n:Nat} {qs:Nat→Rat}
def Kv (L:List PV) (n:Nat) (qs:Nat→Rat) (m:Nat) (F:aG) (H:Hp):Prop:=∃ k,k<cA n∧cA n<k+1+m∧H=aQ (aD (aY n k)) (aD (aY n 0)) ∧
 (F=bL L n (aD (aY n (bI qs k))) (qs (bI qs k)).num (qs (bI qs k)).den∨(0<k∧∃ r0 r1,F=cN L n (aD (aY n (bI qs k))) (qs (bI qs k)).num (qs (bI qs k)).den r0 r1))
theorem yMd (h1:1≤n) (h4:n≤4) (hq:∀ k,k<cA n→small (qs k)∧∀ K:Int→Int→Prop,oS L (aD (aY n k)) K=K (qs k).num (qs k).den) {Q:Ex→aG→Hp→Prop}
  (hQ:Q (.exit 2) (dX L n (aD (aY n (bI qs (cA n-1)))) (qs (bI qs (cA n-1))).num (qs (bI qs (cA n-1))).den) (aQ (aD (aY n (cA n-1))) (aD (aY n 0)))) (m:Nat) (F:aG) (H:Hp) (hs:Kv L n qs (m+1) F H) :
  WC (E e) (gJ (Ks e qW oS kY) 3) fA [] cJ aV F H (QG aV H.length (Kv L n qs m) Q):=by
 obtain ⟨k,hk,hm,e2,e1⟩:=hs;rw [e2];show cM e qW oS kY aV F _ (QG aV 2 _ Q)
 by_cases c:k+1<cA n
 ·have hb:=Hv qs k;have hr:cM e qW oS kY aV F (aQ (aD (aY n k)) (aD (aY n 0))) (QG aV 2 (Kv L n qs m) Q)=bG oS kY L (aD (aY n (bI qs k))) (aD (aY n 0)) (qs (bI qs k)).num (qs (bI qs k)).den (Kv L n qs m) n (aY n (k+1)):=by
   rcases e1 with rfl|⟨p,r0,r1,rfl⟩
   ·exact bbA _ _ _ _ _ _ _ _ _ _ _ n k h1 h4 c
   ·exact bcA _ _ _ _ _ _ _ _ _ _ _ _ _ n k h1 h4 c p
  rw [hr];unfold bG;rw [(hq (k+1) c).2,N5 (hq _ (by omega)).1 (hq _ c).1]
  by_cases d:qs (bI qs k)<qs (k+1)
  ·have hb2:bI qs (k+1)=k+1:=by show (if _ then _ else _)=_;rw [WN d]
   rw [Eb d,bU,bB (by unfold room;omega)];exact ⟨k+1,c,by omega,rfl,Or.inl (by rw [hb2])⟩
  ·have hb2:bI qs (k+1)=bI qs k:=by show (if _ then _ else _)=_;rw [WO d]
   rw [Os d,bN];exact ⟨k+1,c,by omega,rfl,Or.inr ⟨Nat.succ_pos k,_,_,by rw [hb2]⟩⟩
 ·have hk2:k=cA n-1:=by omega
  subst hk2;rcases e1 with rfl | ⟨p,r0,r1,rfl⟩
  ·rw [beA _ _ _ _ _ _ _ _ _ _ _ n h1 h4];exact hQ
  ·rw [bfA _ _ _ _ _ _ _ _ _ _ _ _ _ n h1 h4 p];exact hQ
theorem yHS (he:EG e) (h1:1≤n) (h4:n≤4) (hq:∀ k,k<cA n→small (qs k)∧∀ K:Int→Int→Prop,oS L (aD (aY n k)) K=K (qs k).num (qs k).den) {Q:Ex→aG→Hp→Prop}
  (hQ:Q (.exit 2) (dX L n (aD (aY n (bI qs (cA n-1)))) (qs (bI qs (cA n-1))).num (qs (bI qs (cA n-1))).den) (aQ (aD (aY n (cA n-1))) (aD (aY n 0)))) :
  cV (cB (E e)) (.lG 3889301 aV) (bL L n (aD (aY n 0)) (qs 0).num (qs 0).den) (aQ (aD (aY n 0)) (aD (aY n 0))) Q:=
 cV.introQ (aX.uni _) (eJ (WL he _ (yHR he)) 3) (by kernel_rfl) (bW (by kernel_rfl)) (Kv L n qs) (fun F H h=>by obtain ⟨k,a,b,_⟩:=h;omega) (yMd h1 h4 hq hQ) (cA n) _ _ ⟨0,Kl n,by omega,rfl,Or.inl rfl⟩
theorem yDi (he:EG e) (h1:1≤L.length) (h4:L.length≤4) (hc:∀ K:Int→Prop,K 0→qW L K) (hq:∀ k,k<cA L.length→small (qs k)∧∀ K:Int→Int→Prop,oS L (aD (aY L.length k)) K=K (qs k).num (qs k).den) :
  tF (E e) yV [.data L] (.tup [.data (aD (aY L.length (bI qs (cA L.length-1)))),bH (qs (bI qs (cA L.length-1))).num (qs (bI qs (cA L.length-1))).den,.int .i64 0]):=by
 have hT:=btA e qW oS kY (aD (aY L.length (bI qs (cA L.length-1)))) (aD (aY L.length 0)) (qs (bI qs (cA L.length-1))).num (qs (bI qs (cA L.length-1))).den
  (fun F H X=>(F=bL L L.length (aD (aY L.length 0)) (qs 0).num (qs 0).den∧H=aQ (aD (aY L.length 0)) (aD (aY L.length 0)))∧X)
  (fun r=>r=.tup [.data (aD (aY L.length (bI qs (cA L.length-1)))),bH (qs (bI qs (cA L.length-1))).num (qs (bI qs (cA L.length-1))).den,.int .i64 0]) hc (aD (aY L.length (cA L.length-1)))
  (by rw [(hq 0 (Kl _)).2];exact ⟨⟨rfl,rfl⟩,rfl⟩) h1 h4
 have hlp:LpOk (cB (E e)) (E e) (Kt e qW oS kY (fun F H X=>(F=bL L L.length (aD (aY L.length 0)) (qs 0).num (qs 0).den∧H=aQ (aD (aY L.length 0)) (aD (aY L.length 0)))∧X) (dX L L.length (aD (aY L.length (bI qs (cA L.length-1)))) (qs (bI qs (cA L.length-1))).num (qs (bI qs (cA L.length-1))).den) (aQ (aD (aY L.length (cA L.length-1))) (aD (aY L.length 0)))) [] DJ.body:=
  fM (l:=[(3889300,.lG 3889300 MC),(3889301,.lG 3889301 aV)])
   ⟨fun F H Q h=>Vj (aX.uni _) (eJ (NO he) 1) (by kernel_rfl) (by kernel_rfl) (bW (by kernel_rfl)) h,
    fun F H Q h=>by
     obtain ⟨⟨rfl,rfl⟩,hQ⟩:=h;exact yHS he h1 h4 hq hQ,trivial⟩ (by kernel_rfl)
 obtain ⟨r,hr,ha⟩:=Ir (WL he _ (fM (l:=[(93624500,.loop 93624500 Jt),(93624501,.loop 93624501 Ju),(93624502,.loop 93624502 Jv)]) ⟨fun _ _ _ h=>False.elim h,fun _ _ _ h=>False.elim h,fun _ _ _ h=>False.elim h,trivial⟩ (by kernel_rfl))) (d:=3) (fn:=DJ) (n:=yV) cG.flat hlp (by kernel_rfl) (by kernel_rfl) (fun as=>lO (by kernel_rfl) _) (he.num _ (by kernel_rfl)) hT;rw [hr] at ha;exact ha
end
theorem Ft.found {l:List Ck} {o:List Int} (h:Ft l o):∃ q,FinS (oC l) (nK l o) q∧small q∧∀ K:Int→Int→Prop,oS (cks l) (aD o) K=K q.num q.den:=by obtain ⟨c0,d0,Lr,e1⟩:=h.L1;obtain ⟨n1,n2,n3⟩:=h.n;have ho:=h.ord;rw [e1] at ho;obtain ⟨q,hF,hs,ha⟩:=yDe (ord:=aD o) (fun k=>by have:=Ev (l:=l) (o:=o);rw [k] at this;simp at this;omega) (by rw [Ev];exact n3) h.len ho;refine ⟨q,hF,hs,fun K=>?_⟩;rw [e1];exact yi _ _ _ _ (fun K k=>⟨_,_,k,ha⟩) K
theorem yAZ {l:List Ck} (h:tU l=0):FL l:=by
 unfold tU at h
 by_cases c1:pX l 0=0
 ·rw [WO (by omega)] at h
  by_cases c2:l.length>4
  ·rw [WN c2] at h;cases h
  ·rw [WO c2] at h
   by_cases c3:l.all hunE=true
   ·have hd:=(yAv c1).1;refine ⟨hd,by omega,fun c hm i hi=>?_⟩;have h1:hunE c=true:=vS.1 c3 c hm;have h2:c.dens.getD i 0≠0:=by
     have:=vS.1 h1 (c.dens.getD i 0) (by rw [dQ,dF hi];exact sQ hi);simpa using this
    obtain ⟨j,hj,rfl⟩:=Cx hm;have h3:=hd.ok j hj;rw [dQ,dF hj] at h3;have h3:(l[j]).ok:=h3;have:=(VC.den h3 hi).1;omega
   ·rw [WO c3] at h;cases h
 ·rw [WN c1] at h;exact absurd h c1
theorem FL.rbest {l:List Ck} (h:FL l) {qs:Nat→Rat} (hqs:∀ k,k<cA l.length→FinS (oC l) (nK l (mZ l.length k)) (qs k)) (K:List PV→Int→Int→Int→Prop) :
  Ha (cks l) K=K (aD (mZ l.length (bI qs (cA l.length-1)))) (qs (bI qs (cA l.length-1))).num (qs (bI qs (cA l.length-1))).den 0:=by
 have hn:=h.d.n0;have hf:=Kl l.length;have h4:=h.h4;have hb:=Hv qs (cA l.length-1);have hc:tU l=0:=by
  have ha:l.all hunE=true:=vS.2 fun c hc=>by
   unfold hunE;refine vS.2 fun d hd=>?_
   obtain ⟨j,hj,rfl⟩:=Cx hd;have:=h.hun c hc j hj;rw [dQ,dF hj] at this;have h':(0:Int)<c.dens[j]:=this;exact Eb (by omega)
  unfold tU;rw [h.d.err (by decide),WO (by omega),WO (by omega),WN ha]
 have hw:mY l:=fun i hi=>by
  have:=h.d.ok i hi;have l1:=VC.l1 this;have l2:=VC.l2 this;exact ⟨by omega,by omega⟩
 refine K1 _ _ _ _ _ (fun K k=>⟨_,_,_,_,k,fun e he=>?_⟩) K;have:=yDi (L:=cks l) (qs:=qs) he (by rw [iQ];omega) (by rw [iQ];exact h4) (fun K k=>by rw [Vp (by omega) hw,hc];exact k) (fun k hk=>by
  rw [iQ] at hk ⊢;have e:=Z0 l.length h4 k hk (by omega);rw [e];have ho:=Wr l.length (by omega) h4 k hk;obtain ⟨r,r1,r2,r3⟩:=(h.ft ho).found;have:r=qs k:=W6 (h.ft ho) r1 (hqs k hk);rw [← this];exact ⟨r2,r3⟩)
 rw [iQ,Z0 l.length h4 _ (by omega) (by omega)] at this;exact this
theorem yua {l:List Ck} (hl:l.length≤9223372036854775807):Nk (cks l) fun b=>b=true:=by
 unfold Nk Ud;rw [yAD (by omega)]
 by_cases g:Hs l=true
 ·rw [g,bU]
 ·have g:Hs l=false:=Bool.eq_false_iff.2 g;rw [g,bN];obtain ⟨hw,h10⟩:=yyI g
  by_cases c:tU l=0
  ·have h:=yAZ c;obtain ⟨o,q,ho,hF,hs,_,⟨qs,hqs,eo,eq⟩,hB⟩:=h.best;rw [hB,h.rbest hqs,← eo,← eq];have hol:o.length<4611686018427387904:=by have:=U4 ho;have:=h.h4;omega
   show Ce (aD o) (aD o) _;rw [P4 hol,bU];simp [bU]
  ·rw [yDg (fun K k=>by rw [yDf (by omega) hw];exact k) c,yDh (by omega) hw c];show Ce (aD []) (aD []) _;rw [P4 (by decide),bU];simp [bU]
end Go.Pf.Vc
