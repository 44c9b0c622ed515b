/- Part 6. -/
import Derived.Test.YtfljciocndelnaaGreatEfW5
open Go.IntKind (i64 u8 u64)
open List (length getD take drop replicate set map isEmpty)
noncomputable section
namespace Go.Pf.Vc
open Go Go.Pf
set_option maxRecDepth 100000
section
variable {e:Es} {L:Int} {Lc ord:List PV}
def OR (Lc ord:List PV) (cs:List Ck) (k:Nat) (F:aF) (H:Hp):Prop:=∃ j,j≤cs.length∧cs.length<j+k∧F=lT Lc ord j∧H=fA (nJ (cs.take j))
theorem yO8 (cs:List Ck) (j:Nat) (h:j≤cs.length):(nJ (cs.take j)).length=j:=by unfold nJ;rw [dS,lL];omega
theorem yO9 (he:EG e) {cs:List Ck} (ho:OQ L Lc ord cs) (h4:cs.length≤4) {Q:Ex→aF→Hp→Prop} (hQ:Q (.exit 0) (jF Lc ord cs.length) (fA (nJ cs))) (n:Nat) (F:aF) (H:Hp) (hs:OR Lc ord cs (n+1) F H) :
  eP (aZ (E e)) (bI (cR qO)) F H (QG (cR qO) H.length (OR Lc ord cs n) Q):=by
 obtain ⟨j,h1,h2,e1,e2⟩:=hs;rw [e1,e2];obtain ⟨o1,o2⟩:=ho;have hl:=yO8 cs j h1;let c:=cs.getD j default;have hst:=yQ3 e lF mY hZ mB Lc ord (OR Lc ord cs n) Q (fun F H X=>(j<cs.length∧F=lS Lc ord (nJ (cs.take j)).length (aA c.dens) c.dens.length 0∧H=hpD (nJ (cs.take j)) (sD c 0))∧X) (S:=nJ (cs.take j)) (by omega) (aA c.dens) c.dens.length c.dens.length (sD c c.dens.length);rw [hl] at hst;have hlp:LpOk (aZ (E e)) (E e) (sk (fun F H X=>(j<cs.length∧F=lS Lc ord j (aA c.dens) c.dens.length 0∧H=hpD (nJ (cs.take j)) (sD c 0))∧X) (jE Lc ord j (aA c.dens) c.dens.length c.dens.length) (hpD (nJ (cs.take j)) (sD c c.dens.length))) [] (cR qO):=
  dI (l:=[(5508400,.lG 5508400 (cR rP))]) ⟨fun F H Q h=>by
   obtain ⟨⟨hj,rfl,rfl⟩,hQ⟩:=h;obtain ⟨_,_,_,_,hc⟩:=o2 j hj;have:=yNO (Lc:=Lc) (ord:=ord) he (S:=nJ (cs.take j)) (by omega) hc (Q:=Q) (by rw [hl];exact hQ);rw [hl] at this;exact this,trivial⟩ (by kernel_rfl)
 refine sZ (cR qO) (aZ (E e)) (aM.uni _) (cY (KC e he) 4) bE.flat [] dB (cS.no _ _) hlp _ _ _ ?_;refine hst.mpr ?_;unfold DZ
 by_cases hj:j<cs.length
 ·obtain ⟨p1,p2,p3,p4,p5⟩:=o2 j hj;rw [bS (by omega),aI (by omega),cH,vR p1,aI p2,aI p3,p4];show asr (aG zK (fT c)) _;rw [dE];refine ⟨⟨hj,?_,rfl⟩,j+1,hj,by omega,rfl,?_⟩
  ·show lS Lc ord j (aA c.dens) ((aA c.dens).length:Nat) 0=_;rw [dD]
  ·congr 1;unfold nJ;rw [List.take_add_one,yJ];congr 1;show _=map _ (cs[j]?).toList;rw [bY hj];have:c=cs[j]:=by show cs.getD j default=_;rw [cN,bY hj];rfl
   rw [← this];rfl
 ·have:j=cs.length:=by omega
  subst this;rw [bG (by omega)];rw [yF];exact hQ
theorem ySk (he:EG e) {cs:List Ck} (ho:OQ L Lc ord cs) (h4:cs.length≤4) {Q:Ex→aF→Hp→Prop} (hQ:Q (.exit 0) (jF Lc ord cs.length) (fA (nJ cs))) :
  bV (aZ (E e)) (.lG 5508401 (cR qO)) (lT Lc ord 0) (fA []) Q:=
 bV.introP (OR Lc ord cs) (fun F H h=>by obtain ⟨i,h1,h2,_⟩:=h;omega) (yO9 he ho h4 hQ) (cs.length+1) _ _ ⟨0,iL _,by omega,rfl,rfl⟩
end
theorem yQ7 (PP PQ:aF→Hp→Prop→Prop) (F1:aF) (H1:Hp) (q0 q1:Int) (G F:aF) (H:Hp) (Q:Ex→aF→Hp→Prop) (h:OM PP PQ F1 H1 q0 q1 31735400 G F H Q):False:=h
theorem yQ8 {e:Es} (he:EG e) (PP PQ:aF→Hp→Prop→Prop) (F1:aF) (H1:Hp) (q0 q1:Int):SEOk (aZ (E e)) ⟨E e,OL lF mY hZ mB,yeh [(Fm,oY FN),(Fp,oY FO),(Fq,oY FQ)],OM PP PQ F1 H1 q0 q1,fun _=>none⟩:=
 bF (aM.uni _) ⟨DA e he,Wn e he,Wq e he,Ws e he,trivial⟩
 ⟨⟨by kernel_rfl,by kernel_rfl,by kernel_rfl,fun az=>dC (by kernel_rfl) _,he.num _ (by kernel_rfl),by kernel_rfl,dI (l:=[(31735400,.loop 31735400 (cR Nh))]) ⟨fun F H Q h=>(yQ7 _ _ _ _ _ _ _ _ _ _ h).elim,trivial⟩ (by kernel_rfl)⟩,
  ⟨by kernel_rfl,by kernel_rfl,by kernel_rfl,fun az=>dC (by kernel_rfl) _,he.num _ (by kernel_rfl),by kernel_rfl,aR (by kernel_rfl)⟩,
  ⟨by kernel_rfl,by kernel_rfl,by kernel_rfl,fun az=>dC (by kernel_rfl) _,he.num _ (by kernel_rfl),by kernel_rfl,aR (by kernel_rfl)⟩,trivial⟩ he.ok
theorem tw {L:Int}:∀ {cs:List Ck} {x:Ln},(∀ c∈cs,eE L c)→x.p 0=0→jV L (cs.map fun c=>(c,0,0)) x 0
 | [],_,_,_=>trivial
 | c::cs,x,h,hx=>by
  have hc:=h c (eU ..);have l1:=hc.1.l1;have l2:=hc.1.l2;have hp:0<c.dens.length:=by have:=hc.1.2.1;have:=hc.1.2.2;omega
  have e:=Kt (x:=x) (c:=c) (f:=0) (t:=0) (den_pos hc hp) 0;have u:eL c 0=0:=rfl;rw [hx,DT hc,u] at e;have hd:=den_pos hc hp;have z:(cU c 0 0 x).p 0=0:=by
   have:aS c 0*(cU c 0 0 x).p 0=0:=by grind
   rcases qCr.1 this with k|k
   ·grind
   ·exact k
  have s:=Hl hc hp;rw [DT hc] at s;exact ⟨hc,hp,hp,by rw [hx,DT hc];exact eI,by rw [hx];exact s,by show aJ c 0≤(cU c 0 0 x).p 0;rw [z,DT hc];exact eI,by show (cU c 0 0 x).p 0<aJ c (0+1);rw [z];exact s,tw (fun d hd=>h d (eF _ hd)) z⟩
theorem yNP {L:Int} {c0 d0 Lr ord:List PV} {cs:List Ck} (hn:cs≠[]) (h4:cs.length≤4) (hL:∀ c∈cs,c.len=L) (ho:OQ L (L1 L c0 d0 Lr) ord cs) :
  ∃ q,FinS L cs q∧small q∧∀ e,EG e→Ans (E e) uX [.data (L1 L c0 d0 Lr),.data ord] (mR q.num q.den):=by
 have hok:∀ c∈cs,eE L c:=fun c hc=>by
  obtain ⟨j,hj,rfl⟩:=HC hc;obtain ⟨_,_,_,_,h⟩:=ho.2 j hj;rw [cN,bY hj] at h;exact h
 have hLb:0≤L∧L≤1000:=by obtain ⟨c,hc⟩:=KM cs hn;have:=(hok c hc).1.len0;have h1:=(tQ (hok c hc).1).2;have:L≤1000:=iM.1 h1;omega
 let S0:List Sq:=cs.map fun c=>(c,0,0)
 have hS0:S0.map (·.1)=cs:=by show map _ (map _ _)=_;rw [wP];exact List.map_id' cs
 have hl0:S0.length=cs.length:=dS ..;have hR:RI L S0 0:=⟨tw hok (sA 0),eI,fun k=>hn (List.map_eq_nil_iff.1 k)⟩;obtain ⟨q,hq,hF⟩:=tt (n:=mH S0+1) hR (by omega);rw [hS0] at hF;have hsm:small q:=by
  have key:∀ {n:Nat} {S:List Sq} {q0:Rat},S.map (·.1)=cs→RI L S q0→runN L n S=some q→small q:=by
   intro n;induction n with
   | zero=>intro S q0 _ _ h;cases h
   | succ n ih=>
     intro S q0 e1 hi h;have hl:S.length=cs.length:=by rw [← e1,dS]
     have hS:∀ s∈S,jX L s:=fun s hs=>by
      obtain ⟨a,b,c⟩:=hi.1.all s hs;exact ⟨a,hL _ (by rw [← e1];exact List.mem_map_of_mem hs),b,c⟩
     have r:=(th hS hi.2.2 (by omega) hLb (Lr:=[]) (fun _ _ _ _ _=>True)).2.2;obtain ⟨_,r2⟩:=round hi
     by_cases c:gU L S=mI L S
     ·rw [runN,YQ c] at h;have:gU L S=q:=AS h;rw [← this];exact r
     ·rw [runN,YR c] at h;exact ih (by rw [Kv];exact e1) (r2 c).1 h
  exact key hS0 hR hq
 refine ⟨q,hF,hsm,fun e he=>?_⟩;have hE:dX (S0.map dZ)=dX (nJ cs):=by
  congr 1;show map _ (map _ _)=map _ _;rw [wP];exact Cc fun c hc=>(yQ1 (hok c hc)).symm
 have hls:(nJ cs).length=cs.length:=dS ..;have hT:=yQ4 e lF mY hZ mB (L1 L c0 d0 Lr) ord (fun F H X=>(F=lT (L1 L c0 d0 Lr) ord 0∧H=fA [])∧X) (fun F H X=>(F=kM (L1 L c0 d0 Lr) cs.length∧H=dX (nJ cs))∧X) (S:=nJ cs) (fun k=>hn (List.map_eq_nil_iff.1 k)) (by omega) q.num q.den (fun r=>r=mR q.num q.den);rw [hls] at hT;have hlp:LpOk (aZ (E e)) (E e) (OM (fun F H X=>(F=lT (L1 L c0 d0 Lr) ord 0∧H=fA [])∧X) (fun F H X=>(F=kM (L1 L c0 d0 Lr) cs.length∧H=dX (nJ cs))∧X) (jF (L1 L c0 d0 Lr) ord cs.length) (fA (nJ cs)) q.num q.den) [] (oY Jl).body:=
  dI (l:=[(5508400,.lG 5508400 (cR rP)),(5508401,.lG 5508401 (cR qO)),(5508402,.lG 5508402 (cR Ni)),(5508403,.lG 5508403 (tT Nj)),(5508404,.lG 5508404 (cR iV))])
   ⟨fun F H Q h=>False.elim h,
    fun F H Q h=>by
     obtain ⟨⟨rfl,rfl⟩,hQ⟩:=h;exact ySk he ho h4 hQ,
    fun F H Q h=>False.elim h,fun F H Q h=>False.elim h,
    fun F H Q h=>by
     obtain ⟨⟨rfl,rfl⟩,hQ⟩:=h;exact yQZ he hL h4 hLb hQ (n:=mH S0+1) ⟨S0,0,hS0,by rw [hl0],hE.symm,hR,hq⟩,trivial⟩ (by kernel_rfl)
 obtain ⟨r,hr,ha⟩:=J2 (yQ8 he _ _ _ _ q.num q.den) (d:=4) (fn:=oY Jl) (n:=uX) bE.flat hlp (by kernel_rfl) (by kernel_rfl) (fun az=>dC (by kernel_rfl) _) (he.num _ (by kernel_rfl)) (hT.mpr ⟨⟨rfl,rfl⟩,⟨rfl,rfl⟩,fun _=>rfl⟩);rw [hr] at ha;exact ha
theorem eE.bd {L:Int} {c:Ck} (h:eE L c) {x y:Rat} (x0:0≤x) (x1:x≤(L:Rat)) (y0:0≤y) (y1:y≤(L:Rat)):iD c x≤iD c y↔x≤y:=qa h.1 h.2 x0 x1 y0 y1
theorem yQ9 {L:Int} {c:Ck} (h:eE L c) {q r:Rat} (hqr:q<r):q*aY c<r*aY c:=by have:=Ee hqr (pW h);exact this
theorem Ch.lt {L:Int} {q r:Rat} (hq:0≤q) (hqr:q<r):∀ {cs:List Ck} {p p':Rat} {xs ys:List Rat},(∀ c∈cs,eE L c)→0≤p→p≤p'→p'≤(L:Rat)→Ch L cs p q xs→Ch L cs p' r ys→∀ a b,xs.getLast?=some a→ys.getLast?=some b→a<b
 | [],_,_,_,_,_,_,_,_,hx,_,a,b,ha,_=>by have:_=[]:=hx;rw [this] at ha;cases ha
 | c::cs,p,p',xs,ys,hok,p0,pp,pL,⟨x,rx,ex,x1,x2,x3,hx⟩,⟨y,ry,ey,y1,y2,y3,hy⟩,a,b,ha,hb=>by
  subst ex ey;have hc:=hok c (eU ..);have m:=(hc.bd p0 (fG pp pL) (fG p0 pp) pL).2 pp;have t:=yQ9 hc hqr;have hxy:x<y:=by
   refine Rat.not_le.1 fun k=>?_
   have:=(hc.bd (fG (fG p0 pp) y1) y2 (fG p0 x1) x2).2 k;grind
  cases cs with
  | nil=>
   have e1:rx=[]:=hx;have e2:ry=[]:=hy;subst e1 e2
   cases ha;cases hb
   exact hxy
  | cons d cs =>obtain ⟨x',rx',e1,k1⟩:=hx;obtain ⟨y',ry',e2,k2⟩:=hy;subst e1 e2;rw [List.getLast?_cons_cons] at ha hb;exact Ch.lt hq hqr (fun e he=>hok e (eF _ he)) (fG p0 x1) (eV hxy) y2 ⟨x',rx',rfl,k1⟩ ⟨y',ry',rfl,k2⟩ a b ha hb
theorem FinS.uniq {L:Int} {cs:List Ck} {q r:Rat} (hok:∀ c∈cs,eE L c) (hL:(0:Rat)≤(L:Rat)) (hq:FinS L cs q) (hr:FinS L cs r):q=r:=by
 obtain ⟨q0,xs,hx,lx⟩:=hq;obtain ⟨r0,ys,hy,ly⟩:=hr;rcases rtri q r with k | k | k
 ·have:=Ch.lt (eV q0) k hok eI eI hL hx hy _ _ lx ly;grind
 ·exact k
 ·have:=Ch.lt (eV r0) k hok eI eI hL hy hx _ _ ly lx;grind
def endM (q:Rat):List Ck→Rat→Except Int (List Rat)
 | [],_=>.ok []
 | c::cs,p=>if small (q*aY c) then (match mrkC c.cuts c.dens p (q*aY c) with
  | .ok y=>(match endM q cs y with | .ok l=>.ok (y::l) | .error e=>.error e)
  | .error e=>.error e) else .error 16
theorem OS {cuts dens:List Int}:∀ (r i:Nat) (p v:Rat) {e:Int},mrkS cuts dens r i p v=.error e→e=16∨e=6
 | 0,_,_,_,_,h=>by cases h;exact .inr rfl
 | r+1,i,p,v,e,h=>by
  unfold mrkS at h;have fe:∀ {q:Rat} {k:Rat→Except Int Rat},gT q k=.error e→e=16∨k q=.error e:=by
   intro q k hf;unfold gT at hf;split at hf
   ·exact .inr hf
   ·cases hf;exact .inl rfl
  split at h
  ·exact OS r _ _ _ h
  ·split at h
   ·exact OS r _ _ _ h
   ·rcases fe h with h | h
    ·exact .inl h
    rcases fe h with h|h
    ·exact .inl h
    split at h
    ·rcases fe h with h | h
     ·exact .inl h
     exact OS r _ _ _ h
    ·rcases fe h with h | h
     ·exact .inl h
     rcases fe h with h|h
     ·exact .inl h
     cases h
theorem tx {cuts dens:List Int} {p v:Rat} {e:Int} (h:mrkC cuts dens p v=.error e):e=16∨e=6:=by
 unfold mrkC at h;split at h
 ·cases h
 ·exact OS _ _ _ _ h
def hunE (c:Ck):Bool:=c.dens.all fun d=>decide (d≠0)
theorem tz {i0:Int} {l1:List PV} {x0 x1} (l:List Int) (hl:l.length<1000000):∀ (r i n:Nat),i+r=l.length→r<n→Gn x0 x1 n i0 l1 (aA l) (i:Int)=if (l.drop i).all (fun d=>decide (d≠0))=true then x0 i0 l1 (aA l) (l.length:Int) false else x1 false
 | 0,i,n+1,hi,hn=>by unfold Gn;rw [dD,bG (by omega),nF (by omega),show (i:Int)=l.length by omega];rfl
 | r+1,i,n+1,hi,hn=>by
  unfold Gn;have e1:=cL (n:=(i:Int)+1) (by omega) (by omega);simp only [lt];rw [dD,bS (by omega),aI (by omega),aI (by omega),cH,fS (by omega),fD (by omega),e1,dN,mZ 0 (by omega)]
  by_cases c:l.getD i 0=0
  ·rw [nI c,YR (by rw [List.all_cons,show decide (l.getD i 0≠0)=false from Os (fun k=>k c),kU];exact HE)]
  ·rw [pP c,tz l hl r (i+1) n (by omega) (by omega)];simp only [List.all_cons,Ef c,jK]
theorem yJf {c:Ck} (hl:c.dens.length<1000000) (K:Bool→Prop):zW c.len (aA c.cuts) (aA c.dens) K=K (hunE c):=by
 refine yBv _ _ _ _ (fun K k=>?_) K;unfold zW Vq;refine ⟨c.dens.length+1,(tz c.dens hl c.dens.length 0 _ (by omega) (by omega)).mpr ?_⟩;rw [kT];unfold hunE at k;split
 ·rename_i h;rw [h] at k;exact k
 ·rename_i h;rw [HH.2 h] at k;exact k
def wF (l:List Ck):Prop:=∀ i,i<l.length→(l.getD i default).cuts.length<1000000∧(l.getD i default).dens.length<1000000
def Ea (c:Ck):Bool:=decide (c.cuts.length>14)&&decide (c.cuts.length≤40)
def Hq (l:List Ck):Bool:=l.any Ea||Og l
theorem ua {x0 x1} (l:List Ck) (hl:l.length≤9223372036854775807):∀ (r i n:Nat),i+r=l.length→r<n→GL zZ x0 x1 n (cks l) (i:Int)=if (l.drop i).any Ea=true then x1 true else x0 (cks l) (l.length:Int) false
 | 0,i,n+1,hi,hn=>by unfold GL;rw [dW,bG (by omega),nF (by omega),show (i:Int)=l.length by omega];rfl
 | r+1,i,n+1,hi,hn=>by
  unfold GL;have e1:=cL (n:=(i:Int)+1) (by omega) (by omega);simp only [lt,Go.Pf.jn];rw [dW,bS (by omega),aI (by omega),aI (by omega),cH,lR (by omega),dE,qU,dD,e1,dN,mZ default (by omega),List.any_cons];have ih:=ua (x0:=x0) (x1:=x1) l hl r (i+1) n (by omega) (by omega);rw [ih];unfold Ea
  by_cases a:(l.getD i default).cuts.length>14
  ·rw [bS (by omega),aI (by omega),aI (by omega),dE,Ef a,jK]
   by_cases b:(l.getD i default).cuts.length≤40
   ·rw [Ef (show (((l.getD i default).cuts.length:Nat):Int)≤40 by omega),aX,Ef b,Bool.true_or,YQ rfl]
   ·rw [Os (show ¬(((l.getD i default).cuts.length:Nat):Int)≤40 by omega),aU,Os b,tX]
  ·rw [bG (by omega),aU,Os a,kU,tX]
theorem yJg {l:List Ck} (hl:l.length≤9223372036854775807) (K:Bool→Prop):GM (cks l) K=K (Hq l):=by
 refine yDl _ _ (fun K k=>?_) K;unfold GM Wz;refine ⟨l.length+1,(ua l hl l.length 0 _ (by omega) (by omega)).mpr ?_⟩;rw [kT];unfold Hq at k;split
 ·rename_i h;rw [h] at k;exact k
 ·rename_i h;rw [HH.2 h,tX] at k;rw [yDn (by omega)];exact k
def Hr (l:List Ck):Int:=if qV l 0≠0 then qV l 0 else if l.length>4 then 4 else if l.all hunE=true then 0 else 2
theorem ub {x0 x1} (l:List Ck) (hl:l.length≤1000000) (hw:wF l):∀ (r i n:Nat),i+r=l.length→r<n→GN Aa zW x0 x1 n (cks l) (i:Int)=if (l.drop i).all hunE=true then x0 (cks l) (l.length:Int) false else x1 2
 | 0,i,n+1,hi,hn=>by unfold GN;rw [dW,bG (by omega),nF (by omega),show (i:Int)=l.length by omega];rfl
 | r+1,i,n+1,hi,hn=>by
  unfold GN;have e1:=cL (n:=(i:Int)+1) (by omega) (by omega);simp only [lt];rw [dW,bS (by omega),aI (by omega),aI (by omega),cH,lR (by omega),dE,mQ,qU,rZ,yJf (hw i (by omega)).2,e1,dN,mZ default (by omega),List.all_cons];have ih:=ub (x0:=x0) (x1:=x1) l hl hw r (i+1) n (by omega) (by omega);rw [ih]
  cases hunE (l.getD i default)
  ·rw [qI,aX,kU,YR (by simp)]
  ·rw [tW,aU,jK]
theorem wF.fin {l:List Ck} (h:wF l):oC l:=fun i hi=>⟨by have:=(h i hi).1;omega,by have:=(h i hi).2;omega⟩
theorem uc {l:List Ck} (hl:l.length≤1000000) (hw:wF l) (K:Int→Prop):GO (cks l) K=K (Hr l):=by
 refine yDm _ _ (fun K k=>?_) K;unfold GO WD;rw [yLt hw.fin (by omega)];unfold Hr at k;show aB (qV l 0 !=0) _ _
 by_cases c:qV l 0=0
 ·rw [cV c,dW];rw [YR (by omega)] at k
  by_cases c4:l.length>4
  ·rw [bS (by omega)];rw [YQ c4] at k;exact k
  ·rw [bG (by omega)];rw [YR c4] at k;refine ⟨l.length+1,(ub l hl hw l.length 0 _ (by omega) (by omega)).mpr ?_⟩;rw [kT];split
   ·rename_i h;rw [YQ h] at k;exact k
   ·rename_i h;rw [YR h] at k;exact k
 ·rw [fR c];rw [YQ c] at k;exact k
def xY (n:Nat):List Int→List Bool→Bool
 | [],_=>true
 | a::r,had=>if a<0∨(n:Int)≤a∨had.getD a.toNat false=true then false else xY n r (had.set a.toNat true)
def AH (l:List Bool):List PV:=l.map PV.bool
theorem yJh (l:List Bool):(AH l).length=l.length:=dS ..
theorem yLF {l:List Bool} {i:Nat} (h:i<l.length):(AH l).getD i .nils=.bool (l.getD i false):=by unfold AH;rw [cN,cN,lK,bY h];rfl
theorem yJi (l:List Bool) (i:Nat) (b:Bool):(AH l).set i (.bool b)=AH (l.set i b):=by unfold AH;rw [List.map_set]
theorem yPa (n:Nat) (a:Int) (r:List Int) (had:List Bool):xY n (a::r) had=if a<0∨(n:Int)≤a∨had.getD a.toNat false=true then false else xY n r (had.set a.toNat true):=rfl
def sG (n:Nat) (o:List Int):Bool:=(o.length==n)&&xY n o (replicate n false)
theorem ud {x0 x1} (o:List Int) (hl:o.length≤1000000):∀ (r i n:Nat) (had:List Bool),i+r=o.length→r<n→had.length=o.length →
  (if xY o.length (o.drop i) had=true then ∀ h,x0 h (o.length:Int) (aA o) o.length o.length o.length (o.length:Int) false else ∀ h,x1 h false)→GP x0 x1 n (AH had) (o.length:Int) (aA o) o.length o.length o.length (i:Int)
 | 0,i,n+1,had,hi,hn,hh,k=>by unfold GP;rw [nF (by omega)] at k;rw [bG (by omega),show (i:Int)=o.length by omega];exact k _
 | r+1,i,n+1,had,hi,hn,hh,k=>by
  unfold GP;have e1:=cL (n:=(i:Int)+1) (by omega) (by omega);simp only [lt,Go.Pf.jn];rw [mZ 0 (show i<o.length by omega)] at k;have eg:=yPa o.length (o.getD i 0) (o.drop (i+1)) had;rw [bS (by omega),dD,aI (by omega),aI (by omega),cH,fS (by omega),fD (by omega)]
  by_cases a:o.getD i 0<0
  ·rw [bS a,aX];rw [eg.trans (YQ (.inl a)),YR HE] at k;exact k _
  rw [bG a,aI (by omega),aI (by omega),fS (by omega)]
  by_cases b:(o.length:Int)≤o.getD i 0
  ·rw [bS (by omega),aX];rw [eg.trans (YQ (.inr (.inl b))),YR HE] at k;exact k _
  have hb:(o.getD i 0).toNat<had.length:=by omega
  rw [bG (by omega),aI (by omega),aI (by omega),fS (by omega),aI (by omega),aI (by omega),yJh,aI (by omega),aI (by omega),jH,yLF hb];show asr (aG (.one .b) (.bool (had.getD (o.getD i 0).toNat false))) _;rw [show ∀ P,asr (aG (.one .b) (.bool (had.getD (o.getD i 0).toNat false))) P=P from fun _=>rfl];show aB (had.getD (o.getD i 0).toNat false) _ _
  by_cases c:had.getD (o.getD i 0).toNat false=true
  ·rw [c,aX];rw [eg.trans (YQ (.inr (.inr c))),YR HE] at k;exact k _
  ·rw [HH.2 c,aU];rw [eg.trans (YR (by rintro (h | h | h)<;>contradiction))] at k;rw [aI (by omega),aI (by omega),fS (by omega),aI (by omega),aI (by omega),aI (by omega),aI (by omega)];show asr (aG (.one .b) (.bool (had.getD (o.getD i 0).toNat false))) _;rw [show ∀ P,asr (aG (.one .b) (.bool (had.getD (o.getD i 0).toNat false))) P=P from fun _=>rfl,e1,dN,yJi];exact ud o hl r (i+1) n _ (by omega) (by omega) (by rw [yH];exact hh) k
theorem yJj {n:Nat} {o:List Int} (hn:n≤1000000) (K:Bool→Prop) (k:K (sG n o)):NZ n (aA o) K:=by
 unfold NZ WH;rw [dD];unfold sG at k
 by_cases c:o.length=n
 ·subst c;rw [cV rfl,aI (by omega),aI (by omega),cH,aI (by unfold room;omega)];rw [beq_self_eq_true,jK] at k;refine ⟨o.length+1,?_⟩;have:replicate o.length ((.bool false):PV)=AH (replicate o.length false):=by unfold AH;rw [List.map_replicate]
  rw [this];refine ud o hn o.length 0 _ _ (by omega) (by omega) (by rw [qE]) ?_;rw [kT];split
  ·rename_i h;rw [h] at k;exact fun _=>k
  ·rename_i h;rw [HH.2 h] at k;exact fun _=>k
 ·rw [fR (by omega)];rw [beq_eq_false_iff_ne.2 c,kU] at k;exact k
def KD (l:List Ck) (o:List Int):Bool:=!Hq l&&(decide (o.length≤20)&&(decide (Hr l=0)&&sG l.length o))
theorem yHF {l:List Ck} (h:Hq l=false):wF l∧l.length≤10:=by unfold Hq at h;rw [AP] at h;obtain ⟨a,b,c⟩:=yI2 h.2;exact ⟨fun i hi=>⟨by have:=(b i hi).1;omega,by have:=(b i hi).2;omega⟩,a⟩
def K0 (t:wY):Env:=CM (E []) FT t
theorem KE {e:Es} {t:wY}:CM (E e) FT t=K0 t:=by kernel_rfl
theorem ue {e:Es} (he:EG e) (n:Nat) (hm:memN FT n=false) (az:List PV) (H:Hp):(E e).effx n az H=none:=by show uB ((E e).eff n az H)=none;rw [he.num n hm az H];rfl
def bM:List PV:=[.fn (.func Mt) [] [.ptr 0 1 0 0]]
def eH (ord:List PV):Hp:=[⟨false,true,1,[.data ord]⟩]
def fF (ord:List PV) (n:Nat):Hp:=[⟨false,true,1,[.data ord]⟩,⟨false,false,1,[.own 2 0 n n none]⟩,⟨false,true,1,(List.range n).map fun (i:Nat)=>.int .i64 (i:Int)⟩]
def gQ:Nat→List (List Int)
 | 1=>[[0]]
 | 2=>[[0,1],[1,0]]
 | 3=>[[0,1,2],[0,2,1],[1,0,2],[1,2,0],[2,0,1],[2,1,0]]
 | 4=>[[0,1,2,3],[0,1,3,2],[0,2,1,3],[0,2,3,1],[0,3,1,2],[0,3,2,1],[1,0,2,3],[1,0,3,2],[1,2,0,3],[1,2,3,0],[1,3,0,2],[1,3,2,0],[2,0,1,3],[2,0,3,1],[2,1,0,3],[2,1,3,0],[2,3,0,1],[2,3,1,0],[3,0,1,2],[3,0,2,1],[3,1,0,2],[3,1,2,0],[3,2,0,1],[3,2,1,0]]
 | _=>[]
def YB (cK:CK) (ord:List PV) (n:Nat):CK:=fun f args H K=>
 match f with
 | .fn (.func m) [] []=>bif Nat.beq m dJ then (args=bM∧H=eH ord)∧K (.own 2 0 n n none) (fF ord n) else cK f args H K
 | _=>False
def YC (S:SE) (d:Nat) (ord:List PV) (n:Nat):CK:=YB (jO S d) ord n
section
variable (e:Es) (aC:fK)
def Hs:SE:=⟨E e,ye7 [(CO,jR.pw aC)],yeh [(QF,oY Rs)],fun _ _ _ _ _=>False,fun _=>none⟩
def YD (ord:List PV) (n:Nat):LP:=fun id _ F H Q=>bif Nat.beq id 54010400 then UE (E e) (YC (Hs e aC) 2 ord n) (fun _ _ _ _ _=>False) (tT RJ) 6 F H Q else False
def Ht:TC→TC
 | .ops l an ps fg=>.ops l (XT an) ps fg
 | .seq a b=>.seq (Ht a) (Ht b)
 | .cond c a b=>.cond c (Ht a) (Ht b)
 | .block i b=>.block i (Ht b)
 | .loop i b=>.loop i (tT b)
 | c=>c
def YE (t:TFn):TFn:=⟨t.nparams,t.results,Ht t.body⟩
def Hu (L ord:List PV) (n:Nat) (K:PV→Prop):Prop:=Io (E e) (YC (Hs e aC) 2 ord n) (YD e aC ord n) (YE Jf) [.data L,.data ord] [] fun r _=>K r
def KF (L ord:List PV) (K:PV→Prop):Prop:=aC L fun i=>aB (i !=0) (K (.int .i64 i)) ((bM=bM∧eH ord=eH ord)∧K (.int .i64 0))
theorem YF (l0 o0:PV) (K:PV→Prop):Hu e aC [l0] [o0] 1 K=KF aC [l0] [o0] K:=by kernel_rfl
theorem YG (l0 l1 o0 o1:PV) (K:PV→Prop):Hu e aC [l0,l1] [o0,o1] 2 K=KF aC [l0,l1] [o0,o1] K:=by kernel_rfl
theorem YH (l0 l1 l2 o0 o1 o2:PV) (K:PV→Prop):Hu e aC [l0,l1,l2] [o0,o1,o2] 3 K=KF aC [l0,l1,l2] [o0,o1,o2] K:=by kernel_rfl
theorem YI (l0 l1 l2 l3 o0 o1 o2 o3:PV) (K:PV→Prop):Hu e aC [l0,l1,l2,l3] [o0,o1,o2,o3] 4 K=KF aC [l0,l1,l2,l3] [o0,o1,o2,o3] K:=by kernel_rfl
end
theorem yRa:yaD (K0 []) 300 dJ bM (eH (aA [0]))=some (.own 2 0 1 1 none,fF (aA [0]) 1):=by kernel_rfl
theorem YJ {o:List Int} (h:o∈gQ 1):yaD (K0 []) 300 dJ bM (eH (aA o))=some (.own 2 0 1 1 none,fF (aA o) 1):=by simp only [gQ,qAn,wJ,or_false] at h;subst h;exact yRa
theorem yRb:yaD (K0 []) 300 dJ bM (eH (aA [0,1]))=some (.own 2 0 2 2 none,fF (aA [0,1]) 2):=by kernel_rfl
theorem yRc:yaD (K0 []) 300 dJ bM (eH (aA [1,0]))=some (.own 2 0 2 2 none,fF (aA [1,0]) 2):=by kernel_rfl
theorem YL {o:List Int} (h:o∈gQ 2):yaD (K0 []) 300 dJ bM (eH (aA o))=some (.own 2 0 2 2 none,fF (aA o) 2):=by
 simp only [gQ,qAn,wJ,or_false] at h;rcases h with rfl | rfl
 ·exact yRb
 ·exact yRc
theorem yRd:yaD (K0 []) 300 dJ bM (eH (aA [0,1,2]))=some (.own 2 0 3 3 none,fF (aA [0,1,2]) 3):=by kernel_rfl
theorem yRe:yaD (K0 []) 300 dJ bM (eH (aA [0,2,1]))=some (.own 2 0 3 3 none,fF (aA [0,2,1]) 3):=by kernel_rfl
theorem yRf:yaD (K0 []) 300 dJ bM (eH (aA [1,0,2]))=some (.own 2 0 3 3 none,fF (aA [1,0,2]) 3):=by kernel_rfl
theorem yRg:yaD (K0 []) 300 dJ bM (eH (aA [1,2,0]))=some (.own 2 0 3 3 none,fF (aA [1,2,0]) 3):=by kernel_rfl
theorem yRh:yaD (K0 []) 300 dJ bM (eH (aA [2,0,1]))=some (.own 2 0 3 3 none,fF (aA [2,0,1]) 3):=by kernel_rfl
theorem yRi:yaD (K0 []) 300 dJ bM (eH (aA [2,1,0]))=some (.own 2 0 3 3 none,fF (aA [2,1,0]) 3):=by kernel_rfl
theorem YM {o:List Int} (h:o∈gQ 3):yaD (K0 []) 300 dJ bM (eH (aA o))=some (.own 2 0 3 3 none,fF (aA o) 3):=by
 simp only [gQ,qAn,wJ,or_false] at h;rcases h with rfl | rfl | rfl | rfl | rfl | rfl
 ·exact yRd
 ·exact yRe
 ·exact yRf
 ·exact yRg
 ·exact yRh
 ·exact yRi
theorem yRj:yaD (K0 []) 300 dJ bM (eH (aA [0,1,2,3]))=some (.own 2 0 4 4 none,fF (aA [0,1,2,3]) 4):=by kernel_rfl
theorem yRk:yaD (K0 []) 300 dJ bM (eH (aA [0,1,3,2]))=some (.own 2 0 4 4 none,fF (aA [0,1,3,2]) 4):=by kernel_rfl
theorem yRl:yaD (K0 []) 300 dJ bM (eH (aA [0,2,1,3]))=some (.own 2 0 4 4 none,fF (aA [0,2,1,3]) 4):=by kernel_rfl
theorem yRm:yaD (K0 []) 300 dJ bM (eH (aA [0,2,3,1]))=some (.own 2 0 4 4 none,fF (aA [0,2,3,1]) 4):=by kernel_rfl
theorem yRn:yaD (K0 []) 300 dJ bM (eH (aA [0,3,1,2]))=some (.own 2 0 4 4 none,fF (aA [0,3,1,2]) 4):=by kernel_rfl
theorem yRo:yaD (K0 []) 300 dJ bM (eH (aA [0,3,2,1]))=some (.own 2 0 4 4 none,fF (aA [0,3,2,1]) 4):=by kernel_rfl
theorem yRp:yaD (K0 []) 300 dJ bM (eH (aA [1,0,2,3]))=some (.own 2 0 4 4 none,fF (aA [1,0,2,3]) 4):=by kernel_rfl
theorem yRq:yaD (K0 []) 300 dJ bM (eH (aA [1,0,3,2]))=some (.own 2 0 4 4 none,fF (aA [1,0,3,2]) 4):=by kernel_rfl
theorem yRr:yaD (K0 []) 300 dJ bM (eH (aA [1,2,0,3]))=some (.own 2 0 4 4 none,fF (aA [1,2,0,3]) 4):=by kernel_rfl
theorem yRs:yaD (K0 []) 300 dJ bM (eH (aA [1,2,3,0]))=some (.own 2 0 4 4 none,fF (aA [1,2,3,0]) 4):=by kernel_rfl
theorem yPb:yaD (K0 []) 300 dJ bM (eH (aA [1,3,0,2]))=some (.own 2 0 4 4 none,fF (aA [1,3,0,2]) 4):=by kernel_rfl
theorem yPc:yaD (K0 []) 300 dJ bM (eH (aA [1,3,2,0]))=some (.own 2 0 4 4 none,fF (aA [1,3,2,0]) 4):=by kernel_rfl
theorem yPd:yaD (K0 []) 300 dJ bM (eH (aA [2,0,1,3]))=some (.own 2 0 4 4 none,fF (aA [2,0,1,3]) 4):=by kernel_rfl
theorem yPe:yaD (K0 []) 300 dJ bM (eH (aA [2,0,3,1]))=some (.own 2 0 4 4 none,fF (aA [2,0,3,1]) 4):=by kernel_rfl
theorem yPf:yaD (K0 []) 300 dJ bM (eH (aA [2,1,0,3]))=some (.own 2 0 4 4 none,fF (aA [2,1,0,3]) 4):=by kernel_rfl
theorem yPg:yaD (K0 []) 300 dJ bM (eH (aA [2,1,3,0]))=some (.own 2 0 4 4 none,fF (aA [2,1,3,0]) 4):=by kernel_rfl
theorem yPh:yaD (K0 []) 300 dJ bM (eH (aA [2,3,0,1]))=some (.own 2 0 4 4 none,fF (aA [2,3,0,1]) 4):=by kernel_rfl
theorem yPi:yaD (K0 []) 300 dJ bM (eH (aA [2,3,1,0]))=some (.own 2 0 4 4 none,fF (aA [2,3,1,0]) 4):=by kernel_rfl
theorem yPj:yaD (K0 []) 300 dJ bM (eH (aA [3,0,1,2]))=some (.own 2 0 4 4 none,fF (aA [3,0,1,2]) 4):=by kernel_rfl
theorem yPk:yaD (K0 []) 300 dJ bM (eH (aA [3,0,2,1]))=some (.own 2 0 4 4 none,fF (aA [3,0,2,1]) 4):=by kernel_rfl
theorem yPl:yaD (K0 []) 300 dJ bM (eH (aA [3,1,0,2]))=some (.own 2 0 4 4 none,fF (aA [3,1,0,2]) 4):=by kernel_rfl
theorem yPm:yaD (K0 []) 300 dJ bM (eH (aA [3,1,2,0]))=some (.own 2 0 4 4 none,fF (aA [3,1,2,0]) 4):=by kernel_rfl
theorem yPn:yaD (K0 []) 300 dJ bM (eH (aA [3,2,0,1]))=some (.own 2 0 4 4 none,fF (aA [3,2,0,1]) 4):=by kernel_rfl
theorem yPo:yaD (K0 []) 300 dJ bM (eH (aA [3,2,1,0]))=some (.own 2 0 4 4 none,fF (aA [3,2,1,0]) 4):=by kernel_rfl
theorem YN {o:List Int} (h:o∈gQ 4):yaD (K0 []) 300 dJ bM (eH (aA o))=some (.own 2 0 4 4 none,fF (aA o) 4):=by
 simp only [gQ,qAn,wJ,or_false] at h;rcases h with rfl | rfl | rfl | rfl | rfl | rfl | rfl | rfl | rfl | rfl | rfl | rfl | rfl | rfl | rfl | rfl | rfl | rfl | rfl | rfl | rfl | rfl | rfl | rfl
 ·exact yRj
 ·exact yRk
 ·exact yRl
 ·exact yRm
 ·exact yRn
 ·exact yRo
 ·exact yRp
 ·exact yRq
 ·exact yRr
 ·exact yRs
 ·exact yPb
 ·exact yPc
 ·exact yPd
 ·exact yPe
 ·exact yPf
 ·exact yPg
 ·exact yPh
 ·exact yPi
 ·exact yPj
 ·exact yPk
 ·exact yPl
 ·exact yPm
 ·exact yPn
 ·exact yPo
theorem yRt {n:Nat} {o:List Int} (h:o∈gQ n):yaD (K0 []) 300 dJ bM (eH (aA o))=some (.own 2 0 n n none,fF (aA o) n):=
 match n,h with
 | 0,h=>by cases h
 | 1,h=>YJ h
 | 2,h=>YL h
 | 3,h=>YM h
 | 4,h=>YN h
 | _+5,h=>by cases h
theorem uf:∀ {n:Nat} {o:List Int},o∈gQ n→o.length=n∧1≤n∧n≤4
 | 0,_,h=>by cases h
 | 1,o,h=>by
  have:∀ o∈gQ 1,o.length=1:=by decide
  exact ⟨this o h,by decide,by decide⟩
 | 2,o,h=>by
  have:∀ o∈gQ 2,o.length=2:=by decide
  exact ⟨this o h,by decide,by decide⟩
 | 3,o,h=>by
  have:∀ o∈gQ 3,o.length=3:=by decide
  exact ⟨this o h,by decide,by decide⟩
 | 4,o,h=>by
  have:∀ o∈gQ 4,o.length=4:=by decide
  exact ⟨this o h,by decide,by decide⟩
 | _+5,_,h=>by cases h
section
variable {e:Es}
theorem yRu {aC:fK} {L ord:List PV} (hl:L.length=ord.length) (h1:1≤ord.length) (h4:ord.length≤4) (K:PV→Prop):Hu e aC L ord ord.length K=KF aC L ord K:=
 match L,ord,hl,h1,h4 with
 | _,[],_,h1,_=>by cases h1
 | [l0],[o0],_,_,_=>YF ..
 | [l0,l1],[o0,o1],_,_,_=>YG ..
 | [l0,l1,l2],[o0,o1,o2],_,_,_=>YH ..
 | [l0,l1,l2,l3],[o0,o1,o2,o3],_,_,_=>YI ..
 | _,_::_::_::_::_::_,_,_,h=>by simp only [iE] at h;omega
theorem yRv (he:EG e):SEOk (aZ (E e)) (Hs e qS):=bF (aM.uni _) ⟨Wk e he,trivial⟩
 ⟨⟨by kernel_rfl,by kernel_rfl,by kernel_rfl,fun az=>dC (by kernel_rfl) _,he.num _ (by kernel_rfl),by kernel_rfl,aR (by kernel_rfl)⟩,trivial⟩ he.ok
theorem yRw {cK:CK} (hG:Good (gN (E e)) cK) {ord:List PV} {n:Nat} (hk:∃ m0,∀ k x m,m0≤k→gN (E e) k x→m0≤m→yaD x m dJ bM (eH ord)=some (.own 2 0 n n none,fF ord n)):Good (gN (E e)) (YB cK ord n):=by
 intro f args H K h;unfold YB at h;split at h
 ·rename_i m
  cases hb:Nat.beq m dJ with
  | false =>rw [hb,cond_false] at h;exact hG _ _ _ _ h
  | true=>
   rw [hb,cond_true] at h;obtain rfl:=gA hb;obtain ⟨⟨rfl,rfl⟩,h⟩:=h;obtain ⟨m0,hm⟩:=hk;refine ⟨_,_,h,m0,fun k x m h1 h2 h3=>?_⟩;have h2':x=E e:=h2;have:=hm k x m h1 h2 h3;subst h2';have e0:∀ az,ybu (E e) (yaD (E e) m) dJ az=none:=by
    intro az;simp only [ybu];have hs:(E e).sum dJ az=none:=dC (by kernel_rfl) az;rw [hs,show (E e).qui dJ=false from by kernel_rfl];rfl
   have hx:yld (E e) (.fn (.func dJ) [] []) bM=none:=by kernel_rfl
   rw [Iu hx];have hfz:(E e).frz dJ=false:=by kernel_rfl
   have hrb:(E e).rb dJ=false:=by kernel_rfl
   have hqu:(E e).qui dJ=false:=by kernel_rfl
   simp only [pB,e0,hfz,hrb,hqu,wK,yI]
   cases yaT (eH ord) bM<;>simp only [gL,if_false,this]
 ·exact h.elim
theorem yRx (he:EG e) {ord:List PV} {n:Nat} (hk:∃ m0,∀ k x m,m0≤k→gN (E e) k x→m0≤m→yaD x m dJ bM (eH ord)=some (.own 2 0 n n none,fF ord n)):Good (gN (E e)) (YC (Hs e qS) 2 ord n):=
 yRw (cY (S:=Hs e qS) (SEOk.solo (S:=Hs e qS) (yRv he)) 2) hk
theorem yHH (he:EG e) {l:List PV} {o:List Int} (hp:o∈gQ l.length) (hc:∀ K:Int→Prop,K 0→qS l K):lD (E e) tB [.data l,.data (aA o)] (.int .i64 0):=by
 obtain ⟨p1,p2,p3⟩:=uf hp;have hlo:(aA o).length=l.length:=by rw [dD,p1]
 have hrun:=yOM (nums:=FT) (t:=[]) (ue he) (fun x h=>by cases h) (m:=300) (n:=dJ) (az:=bM) (H:=eH (aA o)) (by rw [KE];exact yRt hp);have hg:=yRx he hrun;have hw:=yRu (e:=e) (aC:=qS) (L:=l) (ord:=aA o) (by omega) (by omega) (by omega) (fun r=>r=.int .i64 0);rw [hlo] at hw;have hw2:Hu e qS l (aA o) l.length (fun r=>r=.int .i64 0):=by rw [hw];exact hc _ ⟨⟨rfl,rfl⟩,rfl⟩
 have hlp:LpOk (gN (E e)) (E e) (YD e qS (aA o) l.length) [] (YE Jf).body:=
  dI (l:=[(54010400,.loop 54010400 (tT RJ))]) ⟨fun F H Q h=>ti (aM.solo _) hg (by kernel_rfl) (aR (by kernel_rfl)) h,trivial⟩ (by kernel_rfl)
 obtain ⟨r,H',hr,m0,hm⟩:=LU (S:=⟨E e,fun _=>none,fun _=>none,YD e qS (aA o) l.length,fun _=>none⟩) (P:=gN (E e)) (aM.solo _) hg (fn:=YE Jf) bE.flat hlp (n:=tB) (by kernel_rfl) (he.num _ (by kernel_rfl)) hw2;subst hr;refine ⟨m0,fun k x m h1 h2 h3=>?_⟩;have h2':x=E e:=h2;have hmm:=hm k x m h1 h2 h3;subst h2';unfold ybu;have hs:(E e).sum tB [.data l,.data (aA o)]=none:=dC (by kernel_rfl) _;rw [hs,show (E e).qui tB=true from by kernel_rfl,hmm,show (E e).nl tB=false from by kernel_rfl];rfl
end
theorem yLG:∀ {n:Nat} {o:List Int},1≤n→n≤4→sG n o=true→o∈gQ n:=by
 have rng:∀ {n:Nat} {a:Int},n≤4→0≤a→a<(n:Int)→a=0∨a=1∨a=2∨a=3:=fun h h0 h1=>by omega
 have all:∀ {n:Nat} {o:List Int} {had:List Bool},xY n o had=true→∀ a∈o,0≤a∧a<(n:Int):=by
  intro n o;induction o with
  | nil=>intro _ _ a h;cases h
  | cons b o ih=>
   intro had h a ha;unfold xY at h;split at h
   ·cases h
   ·rename_i hc;rcases qAn.1 ha with rfl | ha
    ·omega
    ·exact ih h a ha
 intro n o h1 h4 h;unfold sG at h;rw [bO,beq_iff_eq] at h;obtain ⟨hl,hg⟩:=h;have ha:=all hg;obtain rfl | rfl | rfl | rfl:n=1∨n=2∨n=3∨n=4:=by omega
 ·match o,hl with
  | [a],_=>
   have:=ha a (by simp);obtain rfl:a=0:=by omega
   decide
 ·match o,hl with
  | [a,b],_=>
   have k1:=ha a (by simp);have k2:=ha b (by simp);have d:∀ a∈[(0:Int),1],∀ b∈[(0:Int),1],xY 2 [a,b] (replicate 2 false)=true→[a,b]∈gQ 2:=by decide +kernel
   exact d a (by simp;omega) b (by simp;omega) hg
 ·match o,hl with
  | [a,b,c],_=>
   have k1:=ha a (by simp);have k2:=ha b (by simp);have k3:=ha c (by simp);have d:∀ a∈[(0:Int),1,2],∀ b∈[(0:Int),1,2],∀ c∈[(0:Int),1,2],xY 3 [a,b,c] (replicate 3 false)=true→[a,b,c]∈gQ 3:=by decide +kernel
   exact d a (by simp;omega) b (by simp;omega) c (by simp;omega) hg
 ·match o,hl with
  | [a,b,c,d],_=>
   have k1:=ha a (by simp);have k2:=ha b (by simp);have k3:=ha c (by simp);have k4:=ha d (by simp);have z:∀ a∈[(0:Int),1,2,3],∀ b∈[(0:Int),1,2,3],∀ c∈[(0:Int),1,2,3],∀ d∈[(0:Int),1,2,3],xY 4 [a,b,c,d] (replicate 4 false)=true→[a,b,c,d]∈gQ 4:=by decide +kernel
   exact z a (by simp;omega) b (by simp;omega) c (by simp;omega) d (by simp;omega) hg
theorem ug:∀ {n:Nat} {o:List Int},o∈gQ n→∀ a∈o,0≤a∧a<(n:Int)
 | 0,_,h,_,_=>by cases h
 | 1,o,h,a,ha=>by
  have:∀ o∈gQ 1,∀ a∈o,0≤a∧a<((1:Nat):Int):=by decide
  exact this o h a ha
 | 2,o,h,a,ha=>by
  have:∀ o∈gQ 2,∀ a∈o,0≤a∧a<((2:Nat):Int):=by decide
  exact this o h a ha
 | 3,o,h,a,ha=>by
  have:∀ o∈gQ 3,∀ a∈o,0≤a∧a<((3:Nat):Int):=by decide
  exact this o h a ha
 | 4,o,h,a,ha=>by
  have:∀ o∈gQ 4,∀ a∈o,0≤a∧a<((4:Nat):Int):=by decide
  exact this o h a ha
 | _+5,_,h,_,_=>by cases h
structure Ft (l:List Ck) (o:List Int):Prop where
 d:DK l
 h4:l.length≤4
 hun:∀ c∈l,He c.dens
 p:o∈gQ l.length
def lnE (l:List Ck):Int:=(l.getD 0 default).len
def gI (l:List Ck) (o:List Int):List Ck:=o.map fun a=>l.getD a.toNat default
theorem YO {l:List Ck} {o:List Int} (h:KD l o=true):Ft l o:=by
 unfold KD at h;simp only [bO,decide_eq_true_eq] at h;obtain ⟨_,_,hc,ho⟩:=h;unfold Hr at hc
 by_cases c1:qV l 0=0
 ·rw [YR (by omega)] at hc
  by_cases c2:l.length>4
  ·rw [YQ c2] at hc;cases hc
  ·rw [YR c2] at hc
   by_cases c3:l.all hunE=true
   ·have hd:=(yI1 c1).1;have:=hd.n0;refine ⟨hd,by omega,fun c hm i hi=>?_,yLG (by omega) (by omega) ho⟩;have h1:hunE c=true:=sL.1 c3 c hm;have h2:c.dens.getD i 0≠0:=by
     have:=sL.1 h1 (c.dens.getD i 0) (by rw [cN,bY hi];exact kQ hi);simpa using this
    obtain ⟨j,hj,rfl⟩:=HC hm;have h3:=hd.ok j hj;rw [cN,bY hj] at h3;have h3:(l[j]).ok:=h3;have:=(VC.den h3 hi).1;omega
   ·rw [YR c3] at hc;cases hc
 ·rw [YQ c1] at hc;exact absurd hc c1
section
variable {l:List Ck} {o:List Int}
theorem Ft.okl (h:Ft l o):∀ c∈l,eE (lnE l) c∧c.len=lnE l:=fun c hc=>by obtain ⟨j,hj,rfl⟩:=HC hc;have h1:=h.d.ok j hj;have h2:=h.d.len j hj;rw [cN,bY hj] at h1 h2;have h3:(l[j]).len=lnE l:=h2;refine ⟨⟨?_,h.hun _ hc⟩,h3⟩;rw [← h3];exact h1
theorem Ft.mem (h:Ft l o):∀ c∈gI l o,c∈l:=fun c hc=>by
 obtain ⟨a,ha,rfl⟩:=oI.1 hc;have:=ug h.p a ha;have hj:a.toNat<l.length:=by omega
 rw [cN,bY hj];exact kQ hj
theorem Ft.ok (h:Ft l o):∀ c∈gI l o,eE (lnE l) c:=fun c hc=>(h.okl c (h.mem c hc)).1
theorem Ft.len (h:Ft l o):∀ c∈gI l o,c.len=lnE l:=fun c hc=>(h.okl c (h.mem c hc)).2
theorem Ft.n (h:Ft l o):o.length=l.length∧1≤o.length∧o.length≤4:=by have:=uf h.p;exact ⟨this.1,by omega,by omega⟩
theorem oH:(gI l o).length=o.length:=dS ..
theorem Ft.at_ (h:Ft l o) {j:Nat} (hj:j<o.length):0≤o.getD j 0∧(o.getD j 0).toNat<l.length∧o.getD j 0<l.length∧(gI l o).getD j default=l.getD (o.getD j 0).toNat default:=by
 have hm:o.getD j 0∈o:=by rw [cN,bY hj];exact kQ hj
 have:=ug h.p _ hm;refine ⟨this.1,by omega,this.2,?_⟩;unfold gI;rw [cN,lK,cN (l:=o),bY hj];rfl
theorem Ft.ord (h:Ft l o):OQ (lnE l) (cks l) (aA o) (gI l o):=by
 refine ⟨by rw [dD,oH],fun j hj=>?_⟩;rw [oH] at hj;obtain ⟨a1,a2,a3,a4⟩:=h.at_ hj;have ea:DY (aA o) j=o.getD j 0:=by
  unfold DY;rw [cH,fD hj]
 refine ⟨BK hj,by rw [ea];exact a1,by rw [ea,dW];exact a3,?_,?_⟩
 ·unfold mL;rw [ea,a4,lR a2]
 ·rw [a4];refine (h.okl _ ?_).1;rw [cN,bY a2];exact kQ a2
theorem Ft.L1 (h:Ft l o):∃ c0 d0 Lr,cks l=Go.Pf.Vc.L1 (lnE l) c0 d0 Lr:=by
 have:=h.d.n0
 cases l with
 | nil=>cases this
 | cons c r=>exact ⟨aA c.cuts,aA c.dens,cks r,rfl⟩
theorem Ft.part (h:Ft l o):∃ q,FinS (lnE l) (gI l o) q∧small q∧∀ K:Int→Int→Prop,vL (cks l) (aA o) K=K q.num q.den:=by obtain ⟨c0,d0,Lr,e1⟩:=h.L1;obtain ⟨n1,n2,n3⟩:=h.n;have ho:=h.ord;rw [e1] at ho;obtain ⟨q,hF,hs,ha⟩:=yNP (ord:=aA o) (fun k=>by have:=oH (l:=l) (o:=o);rw [k] at this;simp at this;omega) (by rw [oH];exact n3) h.len ho;refine ⟨q,hF,hs,fun K=>?_⟩;rw [e1];exact yBI _ _ _ _ (fun K k=>⟨_,_,k,ha⟩) K
theorem uh {x0:List PV→Int→Int→Int→Bool→Prop} {x1:Int→Prop} (d:List Int) (x:Int) (hl:d.length<1000000) (hd:∀ y∈d,x≠y) (k:x0 (aA d) x d.length d.length false):∀ (r i n:Nat),i+r=d.length→r<n→Gi x0 x1 n (aA d) x d.length (i:Int)
 | 0,i,n+1,hi,hn=>by unfold Gi;rw [bG (by omega),show (i:Int)=d.length by omega];exact k
 | r+1,i,n+1,hi,hn=>by
  unfold Gi;have e1:=cL (n:=(i:Int)+1) (by omega) (by omega);have hm:d.getD i 0∈d:=by rw [cN,bY (by omega)];exact kQ _
  simp only [lt];rw [bS (by omega),dD,aI (by omega),aI (by omega),cH,fS (by omega),fD (by omega),pP (hd _ hm),e1,dN];exact uh d x hl hd k r (i+1) n (by omega) (by omega)
theorem yPp {c:Ck} (hl:c.dens.length<1000000) (hh:He c.dens) (K:Bool→Prop):xP c.len (aA c.cuts) (aA c.dens) K=K false:=by refine ywe _ _ _ _ (fun K k=>?_) K;unfold xP Wf Uw Uv Ur Uq;rw [dD];refine ⟨c.dens.length+1,uh c.dens 0 hl (fun y hy e=>?_) k c.dens.length 0 _ (by omega) (by omega)⟩;obtain ⟨j,hj,rfl⟩:=HC hy;have:=hh j hj;rw [cN,bY hj] at this;have e':(0:Int)=c.dens[j]:=e;have h':(0:Int)<c.dens[j]:=this;omega
theorem Ft.low (h:Ft l o) {i:Nat} (hi:i<l.length):(l.getD i default).cuts.length≤40∧(l.getD i default).dens.length≤40:=by have:=h.d.ok i hi;have l1:=VC.l1 this;have l2:=VC.l2 this;exact ⟨by omega,by omega⟩
theorem ui {x0:List PV→Int→Int→Bool→Prop} {x1:Int→Prop} (h:Ft l o) (k:x0 (cks l) l.length l.length false):∀ (r i n:Nat),i+r=l.length→r<n→GI qR xP x0 x1 n (cks l) (l.length:Int) (i:Int)
 | 0,i,n+1,hi,hn=>by unfold GI;rw [bG (by omega),show (i:Int)=l.length by omega];exact k
 | r+1,i,n+1,hi,hn=>by
  unfold GI;have:=h.h4;have e1:=cL (n:=(i:Int)+1) (by omega) (by omega);have hl:=h.low (i:=i) (by omega);have hm:l.getD i default∈l:=by rw [cN,bY (by omega)];exact kQ _
  simp only [lt];rw [bS (by omega),dW,aI (by omega),aI (by omega),cH,lR (by omega),dE,mQ,qU,rZ,yPp (by omega) (h.hun _ hm),aU,e1,dN];exact ui h k r (i+1) n (by omega) (by omega)
theorem Ft.check (h:Ft l o) (K:Int→Prop):qS (cks l) K=K 0:=by
 have h4:=h.h4;refine yzF _ _ (fun K k=>?_) K;unfold qS Wh;have hf:oC l:=fun i hi=>by have:=h.low hi;exact ⟨by omega,by omega⟩
 rw [nw hf (by omega),h.d.err (by decide),cV rfl,dW,bG (by omega)];simp only [Go.Pf.jn];exact ⟨l.length+1,ui h k l.length 0 _ (by omega) (by omega)⟩
theorem Ft.ordered (h:Ft l o) (K:Int→Prop):tM (cks l) (aA o) K=K 0:=by refine ywf _ _ _ (fun K k=>⟨0,k,fun e he=>?_⟩) K;have hp:=h.p;rw [← dW] at hp;exact yHH he hp fun K k=>by rw [h.check];exact k
def jG (l:List Rat):List PV:=l.map fun q=>.agg [.int .i64 q.num,.int .i64 q.den]
theorem OT (l:List Rat):(jG l).length=l.length:=dS ..
theorem uj {l:List Rat} {i:Nat} (h:i<l.length):(jG l).getD i .nils=.agg [.int .i64 (l.getD i 0).num,.int .i64 (l.getD i 0).den]:=by unfold jG;rw [cN,lK,bY h,cN,bY h];rfl
def endR (e:Except Int (List Rat)) (K:List PV→Int→Prop):Prop:=match e with | .ok ys=>K (jG ys) 0 | .error e=>K [] e
end
section
variable {l:List Ck} {o:List Int}
theorem Ft.ckC0 (h:Ft l o) {i:Nat} (hi:i<l.length):jS (l.getD i default).len (l.getD i default).cuts (l.getD i default).dens=0:=(VC.ck (h.d.ok i hi))
theorem KG (h:Ft l o) {i:Nat} (hi:i<l.length) (K:Int→Int→Prop):cE (l.getD i default).len (aA (l.getD i default).cuts) (aA (l.getD i default).dens) K=K (totC (l.getD i default).cuts (l.getD i default).dens) 0:=by have hl:=h.low hi;rw [Xk (by omega) (by omega),YQ (h.ckC0 hi)]
theorem uk (h:Ft l o) {i:Nat} (hi:i<l.length) {p v:Rat} (hp:small p) (p0:0≤p) (p1:p≤(lnE l:Rat)) (hv:small v) (v0:0≤v) (K:Int→Int→Int→Prop) :
  xL (l.getD i default).len (aA (l.getD i default).cuts) (aA (l.getD i default).dens) p.num p.den v.num v.den K=exK (mrkC (l.getD i default).cuts (l.getD i default).dens p v) K:=by
 have hl:=h.low hi;have e:=h.d.len i hi;rw [yM6 (by omega) (by omega) hp.i1 hp.i2 hv.i1 hv.i2];unfold DM;have p1':p≤((l.getD i default).len:Rat):=by rw [e];exact p1
 rw [YQ (h.ckC0 hi),YQ ⟨Km hp p0 p1',hv.rv,Rat.num_nonneg.2 v0⟩,rX,rX]
theorem ul {c:Ck} {p v q:Rat} (hp:small p) (h:mrkC c.cuts c.dens p v=.ok q):small q:=by
 unfold mrkC at h;split at h
 ·cases h;exact hp
 ·have key:∀ (r i:Nat) (p v:Rat),mrkS c.cuts c.dens r i p v=.ok q→small q:=by
   intro r;induction r with
   | zero=>intro i p v h;cases h
   | succ r ih=>
    intro i p v h;have fe:∀ {q0:Rat} {k:Rat→Except Int Rat},gT q0 k=.ok q→small q0∧k q0=.ok q:=by
     intro q0 k hf;unfold gT at hf;split at hf
     ·rename_i hs;exact ⟨hs,hf⟩
     ·cases hf
    unfold mrkS at h;split at h
    ·exact ih _ _ _ h
    ·split at h
     ·exact ih _ _ _ h
     ·obtain ⟨_,h⟩:=fe h;obtain ⟨_,h⟩:=fe h;split at h
      ·obtain ⟨_,h⟩:=fe h;exact ih _ _ _ h
      ·obtain ⟨_,h⟩:=fe h;obtain ⟨hs,h⟩:=fe h
       cases h;exact hs
  exact key _ _ _ _ h
theorem um (h:Ft l o) {q:Rat} (hq:small q) (q0:0≤q) (K:List PV→Int→Prop) :
  ∀ (r i n:Nat) (p:Rat) (ys:List Rat),i+r=o.length→r<n→ys.length=i→i≤4→small p→0≤p→p≤(lnE l:Rat) →
   (match endM q ((gI l o).drop i) p with | .ok zs=>K (jG (ys++zs)) 0 | .error e=>K [] e) →
   GJ tM nX lF cE lZ xL
    (fun a _ _ _ _ _ _ _ _ _=>(asr (decide ((length a)=(length a))) (asr (decide ((0+(length a))≤(length a))) (K (take (length a) a) (0:Int)))))
    (fun _ b=>(K ([]:List PV) b)) n (jG ys) (cks l) q.num q.den p.num p.den (aA o) o.length (i:Int)
 | 0,i,n+1,p,ys,hi,hn,hy,h4,hp,p0,p1,k=>by unfold GJ;rw [bG (by omega),aI rfl,aI (by omega),yF];rw [nF (by rw [oH];omega)] at k;have k:K (jG (ys++[])) 0:=k;rw [yI] at k;exact k
 | r+1,i,n+1,p,ys,hi,hn,hy,h4,hp,p0,p1,k=>by
  unfold GJ;have n3:=h.n;have e1:=cL (n:=(i:Int)+1) (by omega) (by omega);obtain ⟨a1,a2,a3,a4⟩:=h.at_ (j:=i) (by omega);have hT:=Ax (h.d.ok (o.getD i 0).toNat a2);have sT:small (aY (l.getD (o.getD i 0).toNat default)):=rV (by omega);have hc:=(h.okl (l.getD (o.getD i 0).toNat default) (by rw [cN,bY a2];exact kQ a2)).1;rw [mZ default (show i<(gI l o).length by rw [oH];omega),a4] at k;unfold endM at k;dsimp only [Go.Pf.lt,Go.Pf.jn];rw [bS (by omega),dD,aI (by omega),aI (by omega),cH,fS (by omega),fD (by omega),dW,aI a1,aI a3,lR a2,dE,mQ,qU,rZ,KG h a2,wA];refine (DE hq sT _).mpr ?_;rw [rW]
  by_cases s1:small (q*aY (l.getD (o.getD i 0).toNat default))
  ·rw [YQ s1,nI rfl,aI a1,aI a3,dE];rw [YQ s1] at k;refine (uk h a2 hp p0 p1 s1 (AT q0 (eV (pW hc))) _).mpr ?_
   cases hm:mrkC (l.getD (o.getD i 0).toNat default).cuts (l.getD (o.getD i 0).toNat default).dens p (q*aY (l.getD (o.getD i 0).toNat default)) with
   | error e =>rw [hm] at k;have k:K [] e:=k;have he:=tx hm;rw [ns,fR (by omega)];exact k
   | ok y=>
    rw [hm] at k;obtain ⟨m1,m2,m3,_⟩:=Xv hc.1 p0 p1 (AT q0 (eV (pW hc))) hm;rw [nr,cV rfl,aI rfl,aI (by omega),OT,vR (by simp),aI rfl,aI (by unfold room;omega),e1,dN,vR (by simp)];have er:jG ys++[.agg [.int .i64 y.num,.int .i64 y.den]]=jG (ys++[y]):=by unfold jG;rw [yJ];rfl
    rw [er];refine um h hq q0 K r (i+1) n y (ys++[y]) (by omega) (by omega) (by simp [hy]) (by omega) (ul hp hm) (fG p0 m2) m3 ?_;have k:(match (match endM q ((gI l o).drop (i+1)) y with | .ok l=>Except.ok (y::l) | .error e=>.error e) with | .ok zs=>K (jG (ys++zs)) 0 | .error e=>K [] e):=k
    cases hz:endM q ((gI l o).drop (i+1)) y with
    | ok zs =>rw [hz] at k;show K (jG (ys++[y]++zs)) 0;rw [tU];exact k
    | error e=>rw [hz] at k;exact k
  ·rw [YR s1,pP (by decide),fR (by decide)];rw [YR s1] at k;exact k
theorem Ft.ends (h:Ft l o) {q:Rat} (hq:small q) (q0:0≤q) (K:List PV→Int→Prop):ybx (cks l) (aA o) q.num q.den K=endR (endM q (gI l o) 0) K:=by
 have main:∀ K,endR (endM q (gI l o) 0) K→ybx (cks l) (aA o) q.num q.den K:=fun K k=>by
  have n3:=h.n;unfold ybx Wu;rw [h.ordered,cV rfl];dsimp only [Go.Pf.jn];rw [Xf hq.i1 hq.i2,show lQ q.num q.den=0 from YQ hq.rv,cV rfl,Os (by have:=Rat.num_nonneg.2 q0;omega),aU,wA,dD];refine ⟨o.length+1,?_⟩;have hi:0<o.length:=by omega
  unfold Wt;obtain ⟨a1,a2,a3,a4⟩:=h.at_ (j:=0) hi;have hT:=Ax (h.d.ok (o.getD 0 0).toNat a2);have sT:small (aY (l.getD (o.getD 0 0).toNat default)):=rV (by omega);have hc:=(h.okl (l.getD (o.getD 0 0).toNat default) (by rw [cN,bY a2];exact kQ a2)).1;have hL:(0:Rat)≤(lnE l:Rat):=by have:=(tQ hc.1).1;grind
  have ed:gI l o=l.getD (o.getD 0 0).toNat default::(gI l o).drop 1:=by have:=mZ default (show 0<(gI l o).length by rw [oH];omega);rw [kT,a4] at this;exact this
  rw [ed] at k;unfold endM at k;dsimp only [Go.Pf.lt,Go.Pf.jn];rw [bS (by omega),dD,aI (by omega),aI (by omega),show ((0:Int)).toNat=0 from rfl,fS hi,fD hi,dW,aI a1,aI a3,lR a2,dE,mQ,qU,rZ,KG h a2,wA];refine (DE hq sT _).mpr ?_;rw [rW]
  by_cases s1:small (q*aY (l.getD (o.getD 0 0).toNat default))
  ·rw [YQ s1,nI rfl,aI a1,aI a3,dE];rw [YQ s1] at k;refine (uk h a2 (p:=0) (by decide +kernel) eI hL s1 (AT q0 (eV (pW hc))) _).mpr ?_
   cases hm:mrkC (l.getD (o.getD 0 0).toNat default).cuts (l.getD (o.getD 0 0).toNat default).dens 0 (q*aY (l.getD (o.getD 0 0).toNat default)) with
   | error e =>rw [hm] at k;have k:K [] e:=k;have he:=tx hm;rw [ns,fR (by omega)];exact k
   | ok y=>
    rw [hm] at k;obtain ⟨m1,m2,m3,_⟩:=Xv hc.1 eI hL (AT q0 (eV (pW hc))) hm;rw [nr,cV rfl,show i64.wrap ((0:Int)+1)=((1:Nat):Int) from by decide +kernel,vR (by simp)];refine um h hq q0 K (o.length-1) 1 o.length y [y] (by omega) (by omega) rfl (by decide) (ul (by decide +kernel) hm) m2 m3 ?_;have k:endR (match endM q ((gI l o).drop 1) y with | .ok l=>Except.ok (y::l) | .error e=>.error e) K:=k
    cases hz:endM q ((gI l o).drop 1) y with
    | ok zs=>rw [hz] at k;exact k
    | error e=>rw [hz] at k;exact k
  ·rw [YR s1,pP (by decide),fR (by decide)];rw [YR s1] at k;exact k
 cases e:endM q (gI l o) 0 with
 | ok ys=>rw [e] at main;exact kb _ _ _ _ (jG ys) 0 main K
 | error c=>rw [e] at main;exact kb _ _ _ _ [] c main K
end
theorem uo (w:List PV→List PV→(Int→Int→Prop)→Prop) (a b:List PV) (K:PV→Prop):NW.pw w [.data a,.data b] K=w a b (fun r0 r1=>K (.agg [.int .i64 r0,.int .i64 r1])):=by kernel_rfl
theorem ySl (w:fK) (a:List PV) (K:PV→Prop):jR.pw w [.data a] K=w a (fun r0=>K (.int .i64 r0)):=by kernel_rfl
def kO:List Ck:=[⟨4,[0,4],[1]⟩,⟨4,[0,1,4],[3,1]⟩]
theorem sH:Ft kO [0,1]:=YO (by decide +kernel)
theorem AI:Ft kO [1,0]:=YO (by decide +kernel)
def Eb:Rat:=mkRat 2 5
def Ec:Rat:=mkRat 3 5
def wG:List Rat:=[mkRat 8 5,4]
theorem ySm:FinS (lnE kO) (gI kO [0,1]) Eb:=⟨by decide +kernel,wG,⟨mkRat 8 5,[4],rfl,by decide +kernel,by decide +kernel,by decide +kernel,⟨4,[],rfl,by decide +kernel,by decide +kernel,by decide +kernel,rfl⟩⟩,by decide +kernel⟩
theorem ySn:FinS (lnE kO) (gI kO [1,0]) Ec:=⟨by decide +kernel,wG,⟨mkRat 8 5,[4],rfl,by decide +kernel,by decide +kernel,by decide +kernel,⟨4,[],rfl,by decide +kernel,by decide +kernel,by decide +kernel,rfl⟩⟩,by decide +kernel⟩
theorem ur {l:List Ck} {o:List Int} (h:Ft l o) {q r:Rat} (hq:FinS (lnE l) (gI l o) q) (hr:FinS (lnE l) (gI l o) r):q=r:=by
 obtain ⟨n1,n2,n3⟩:=h.n;have hne:gI l o≠[]:=fun k=>by have:=oH (l:=l) (o:=o);rw [k] at this;simp at this;omega
 obtain ⟨c,hc⟩:=KM _ hne;have:=(tQ (h.ok c hc).1).1;exact FinS.uniq h.ok (by grind) hq hr
theorem ut (K:Int→Int→Prop):vL (cks kO) (aA [0,1]) K=K 2 5:=by obtain ⟨q,h1,_,h3⟩:=sH.part;rw [h3,ur sH h1 ySm];show K Eb.num Eb.den=K 2 5;rw [show Eb.num=2 from by decide +kernel,show ((Eb.den:Nat):Int)=5 from by decide +kernel]
theorem uu (K:Int→Int→Prop):vL (cks kO) (aA [1,0]) K=K 3 5:=by obtain ⟨q,h1,_,h3⟩:=AI.part;rw [h3,ur AI h1 ySn];show K Ec.num Ec.den=K 3 5;rw [show Ec.num=3 from by decide +kernel,show ((Ec.den:Nat):Int)=5 from by decide +kernel]
def AJ:wY:=[(CO,[.data (cks kO)],.int .i64 0),(uX,[.data (cks kO),.data (aA [0,1])],mR 2 5),(uX,[.data (cks kO),.data (aA [1,0])],mR 3 5)]
theorem yPq {e:Es} (he:EG e):∀ x∈AJ,(E e).qui x.1=true∧Ans (E e) x.1 x.2.1 x.2.2:=by
 intro x hx;simp only [AJ,qAn,wJ,or_false] at hx;rcases hx with rfl | rfl | rfl
 ·obtain ⟨r,hr,ha⟩:=Wk e he [.data (cks kO)] (fun r=>r=.int .i64 0) (by rw [ySl,sH.check]);subst hr;exact ⟨by kernel_rfl,ha⟩
 ·obtain ⟨r,hr,ha⟩:=JV e he [.data (cks kO),.data (aA [0,1])] (fun r=>r=mR 2 5) (by rw [uo,ut];rfl);subst hr;exact ⟨by kernel_rfl,ha⟩
 ·obtain ⟨r,hr,ha⟩:=JV e he [.data (cks kO),.data (aA [1,0])] (fun r=>r=mR 3 5) (by rw [uo,uu];rfl);subst hr;exact ⟨by kernel_rfl,ha⟩
theorem yNU:ybu (K0 AJ) (yaD (K0 AJ) 300) Fu [.data (cks kO)]=some (.tup [.data (aA [1,0]),mR 3 5,.int .i64 0]):=by kernel_rfl
theorem yRy (K:List PV→Int→Int→Int→Prop):JZ (cks kO) K=K (aA [1,0]) 3 5 0:=
 yBJ _ _ _ _ _ (fun K k=>⟨_,_,_,_,k,fun e he=>yON (ue he) (yPq he) (m:=300) (by rw [KE];exact yNU)⟩) K
theorem yRz:endM Eb (gI kO [0,1]) 0=.ok wG:=by kernel_rfl
theorem yRA:endM Ec (gI kO [1,0]) 0=.ok wG:=by kernel_rfl
theorem yRB:endM (mkRat 1 2) (gI kO [0,1]) 0=.error 6:=by kernel_rfl
theorem yRC (K:Bool→Prop):yee (jG wG) (jG wG) K=K true:=by
 refine yx6 _ _ _ (fun K k=>?_) K;unfold yee WO;refine (cV (show ((jG wG).length:Int)=((jG wG).length:Int) from rfl)).mpr ?_;refine ⟨4,?_⟩;have:∀ P Q:Prop,P=Q→Q→P:=fun _ _ h q=>h ▸ q
 exact this _ (K true) (by kernel_rfl) k
theorem yRD (K:Bool→Prop):Gt (aA [1,0]) [.int .i64 1,.int .i64 0] K=K true:=by
 refine yFz _ _ _ (fun K k=>?_) K;unfold Gt VA;refine (cV (show ((aA [1,0]).length:Int)=(([.int .i64 1,.int .i64 0]:List PV).length:Int) from rfl)).mpr ?_;refine ⟨4,?_⟩;have:∀ P Q:Prop,P=Q→Q→P:=fun _ _ h q=>h ▸ q
 exact this _ (K true) (by kernel_rfl) k
theorem uv (K:Bool→Prop):Ar K=K true:=by
 unfold Ar WU;have t:∀ K,yx8 K=K (cks kO):=fun _=>rfl
 have of4:∀ (n:Int) K,BI n K=K n 1:=fun _ _=>rfl
 have P1:∀ K,ycM (cks kO) [.int .i64 0,.int .i64 1] K=K 2 5 0:=fun K=>by
  unfold ycM JW;refine (sH.ordered _).trans ?_;rw [cV rfl];exact ut _
 have P2:∀ K,ycM (cks kO) [.int .i64 1,.int .i64 0] K=K 3 5 0:=fun K=>by
  unfold ycM JW;refine (AI.ordered _).trans ?_;rw [cV rfl];exact uu _
 have E1:∀ K,ybx (cks kO) [.int .i64 0,.int .i64 1] 2 5 K=K (jG wG) 0:=fun K=>by
  refine (sH.ends (q:=Eb) (by decide +kernel) (by decide +kernel) K).trans ?_;rw [yRz];rfl
 have E2:∀ K,ybx (cks kO) [.int .i64 1,.int .i64 0] 3 5 K=K (jG wG) 0:=fun K=>by
  refine (AI.ends (q:=Ec) (by decide +kernel) (by decide +kernel) K).trans ?_;rw [yRA];rfl
 have E3:∀ K,ybx (cks kO) [.int .i64 0,.int .i64 1] 1 2 K=K [] 6:=fun K=>by
  refine (sH.ends (q:=mkRat 1 2) (by decide +kernel) (by decide +kernel) K).trans ?_;rw [yRB];rfl
 have S1:∀ K,yee (jG wG) [.agg [.int .i64 8,.int .i64 5],.agg [.int .i64 4,.int .i64 1]] K=K true:=yRC;dsimp only [Go.Pf.jn];have b2:(((2:Int)==2)&&(((5:Int)==5)&&true))=true:=rfl;have b3:(((3:Int)==3)&&(((5:Int)==5)&&true))=true:=rfl;rw [t,P1,t,E1,t,P2,t,E2,t,yRy,t,E3,of4,nI rfl,b2,aX,nI rfl,S1,aX,nI rfl,b3,aX,nI rfl,S1,aX,nI rfl,aX,yRD,aX];rfl
theorem yNV {l:List Ck} {o:List Int} (hl:l.length≤9223372036854775807) (ho:o.length≤9223372036854775807) (K:Bool→Prop):BH (cks l) (aA o) K=K (KD l o):=by
 refine yHf _ _ _ (fun K k=>?_) K;unfold BH WR;dsimp only [Go.Pf.jn];rw [yJg hl];unfold KD at k
 cases hg:Hq l with
 | true=>rw [hg] at k;exact k
 | false=>
  rw [hg] at k;obtain ⟨hw,hl10⟩:=yHF hg;have hl:l.length≤1000000:=by omega
  rw [show (!false)=true from rfl,aX,dD];rw [show (!false)=true from rfl,jK] at k
  by_cases c:o.length≤20
  ·rw [bS (by omega)];rw [Ef c,jK] at k;unfold WM WK;rw [uc hl hw,uc hl hw]
   by_cases c2:Hr l=0
   ·rw [cV c2,dW];rw [Ef c2,jK] at k;refine yJj hl _ ?_
    cases hb:sG l.length o with
    | true=>rw [hb] at k;exact k
    | false=>rw [hb] at k;exact k
   ·rw [fR c2];show K (Hr l==0);rw [mw c2];rw [Os c2,kU] at k;exact k
  ·rw [bG (by omega)];rw [Os c,kU] at k;exact k
theorem yPr {az:List PV} (h:yva [.s BL,.s (.i .i64)] az):∃ (l:List Ck) (xs:List Int),az=[.data (cks l),.data (aA xs)]∧l.length≤9223372036854775807∧xs.length≤9223372036854775807:=by simp only [yva] at h;obtain ⟨x,r,rfl,x1,x2,y,r2,rfl,y1,y2,rfl⟩:=h;obtain ⟨l,e1,hl,hi⟩:=yRW x2;simp only [HasF] at y2;obtain ⟨rows,hr,hn,hx⟩:=y2;obtain ⟨xs,rfl,_⟩:=Oi rows (fun w hw=>⟨(hx w hw).1,by simp only [HasF];exact (hx w hw).2⟩);rw [dD] at hn;rw [ou x1 e1,ou y1 hr];exact ⟨l,xs,rfl,hl,hn⟩
theorem uw {L:Int} {c:Ck} (h:eE L c) {u:Rat} (h0:0≤u) (h1:u≤(L:Rat)):∃ i,i<c.dens.length∧aJ c i≤u∧u≤aJ c (i+1):=by
 by_cases k:u<(L:Rat)
 ·obtain ⟨i,a,b,d⟩:=py h.1 h0 k;exact ⟨i,a,b,eV d⟩
 ·have l1:=h.1.l1;have l2:=h.1.l2;have e:=OF h;have hp:0<c.dens.length:=by have:=h.1.2.1;have:=h.1.2.2;omega
  have s:=Hl h (i:=c.dens.length-1) (by omega);rw [show c.dens.length-1+1=c.dens.length by omega] at s;exact ⟨c.dens.length-1,by omega,by grind,by rw [show c.dens.length-1+1=c.dens.length by omega,e];exact h1⟩
theorem uy {L:Int} {q:Rat}:∀ {cs:List Ck} {x:Ln} {ys:List Rat},(∀ c∈cs,eE L c∧c.len=L)→0≤x.p q→x.p q≤(L:Rat)→Ch L cs (x.p q) q ys →
  ∃ S:List Sq,S.map (·.1)=cs∧(∀ s∈S,jX L s)∧pX S x q=ys
 | [],x,ys,_,_,_,h=>⟨[],rfl,(fun s hs=>by cases hs),(by have h:ys=[]:=h;rw [h];rfl)⟩
 | c::cs,x,ys,hok,p0,p1,⟨y,r,e,y1,y2,y3,hr⟩=>by
  subst e;obtain ⟨hc,hl⟩:=hok c (eU ..);obtain ⟨f,f1,f2,f3⟩:=uw hc p0 p1;obtain ⟨t,t1,t2,t3⟩:=uw hc (fG p0 y1) y2;have e1:=Kt (x:=x) (c:=c) (f:=f) (t:=t) (den_pos hc t1) q;have v1:=OG hc f1 f2 f3;have v2:=OG hc t1 t2 t3;have hd:=den_pos hc t1;have ey:(cU c f t x).p q=y:=by
   have:aS c t*((cU c f t x).p q-y)=0:=by grind
   rcases qCr.1 this with k|k
   ·grind
   ·grind
  obtain ⟨S,s1,s2,s3⟩:=uy (q:=q) (cs:=cs) (x:=cU c f t x) (ys:=r) (fun d hd=>hok d (eF _ hd)) (by rw [ey];exact fG p0 y1) (by rw [ey];exact y2) (by rw [ey];exact hr);refine ⟨(c,f,t)::S,by rw [nM,s1],fun s hs=>?_,?_⟩
  ·rcases qAn.1 hs with rfl | hs
   ·exact ⟨hc,hl,f1,t1⟩
   ·exact s2 s hs
  ·show (cU c f t x).p q::pX S (cU c f t x) q=y::r;rw [ey,s3]
theorem yPs {L:Int} {c:Ck} (h:eE L c) {f t:Nat} (_:f<c.dens.length) (ht:t<c.dens.length) {x:Ln} {F b:Int} (F1:1≤F) (hA:In F x.A) (hB:x.B=(b:Rat)/(F:Rat)) :
  In (c.dens.getD t 0*F) (cU c f t x).A∧(cU c f t x).B=((b*c.dens.getD f 0+totC c.cuts c.dens*F:Int):Rat)/((c.dens.getD t 0*F:Int):Rat):=by
 have e1:=Hn h ht;constructor
 ·have D1:1≤c.dens.getD t 0*F:=by have:=jZ e1.1 F1 (by omega) (by omega);omega
  refine In.add ?_ (In.int D1 _);refine In.div F1 e1.1 ?_;refine In.add ((hA.sub (In.int F1 _)).mulI _) ?_;have:eL c f-eL c t=((upC c f-upC c t:Int):Rat):=by rw [Cl];rfl
  rw [this];exact In.int F1 _
 ·show (x.B*aS c f+aY c)/aS c t=_;rw [hB,Cj,kR,kR,kR];have r1:(F:Rat)≠0:=oR F1;have r2:((c.dens.getD t 0:Int):Rat)≠0:=oR e1.1;have e:=gY (a:=(b:Rat)) r1;refine XS r2 (fun k=>by rcases qCr.1 k with k | k<;>contradiction) ?_;unfold aS aY;generalize (b:Rat)/(F:Rat)=w at *
  grind
theorem ySo {x:Ln} {F b a c:Int} {q:Rat} (F1:1≤F) (hA:In F x.A) (hB:x.B=(b:Rat)/(F:Rat)) (hc:1≤c) (hq:q=(a:Rat)/(c:Rat)):In (c*F) (x.p q):=by
 have h1:=hA.up F1 hc;have h2:In (c*F) (x.B*q):=by
  refine ⟨b*a,?_⟩;have e1:=gY (a:=(b:Rat)) (oR F1);have e2:=gY (a:=(a:Rat)) (oR hc);have r:((c*F:Int):Rat)≠0:=oR (by have:=jZ hc F1 (by omega) (by omega);omega);have e3:=gY (a:=((b*a:Int):Rat)) r;rw [hB,hq];generalize ((b*a:Int):Rat)/((c*F:Int):Rat)=z at *
  generalize (b:Rat)/(F:Rat)=u at *
  generalize (a:Rat)/(c:Rat)=v at *
  rw [kR,kR] at e3;rw [kR] at r;have:(u*v-z)*((c:Rat)*(F:Rat))=0:=by grind
  rcases qCr.1 this with k|k
  ·grind
  ·exact absurd k r
 exact h1.add h2
theorem uz {L:Int} {q:Rat} {a c:Int} (hc:1≤c) (hq:q=(a:Rat)/(c:Rat)):∀ {S:List Sq} {x:Ln} {F b:Int},(∀ s∈S,jX L s)→1≤F→In F x.A→x.B=(b:Rat)/(F:Rat) →
  ∃ m:Int,1≤m∧m≤12 ^ S.length∧∀ y∈pX S x q,In (m*(c*F)) y
 | [],_,F,_,_,_,_,_=>⟨1,by decide,by decide,fun y hy=>by cases hy⟩
 | s::S,x,F,b,h,F1,hA,hB=>by
  have hs:=h s (eU ..);obtain ⟨g1,g2⟩:=yPs hs.1 hs.2.2.1 hs.2.2.2 F1 hA hB;have d:=Hn hs.1 hs.2.2.2;have F1':1≤s.1.dens.getD s.2.2 0*F:=by have:=jZ d.1 F1 (by omega) (by omega);omega
  obtain ⟨m,m1,m2,m3⟩:=uz hc hq (S:=S) (x:=bB s x) (fun t ht=>h t (eF _ ht)) F1' g1 g2;have cF:1≤c*(s.1.dens.getD s.2.2 0*F):=by have:=jZ hc F1' (by omega) (by omega);omega
  have em:m*(c*(s.1.dens.getD s.2.2 0*F))=m*s.1.dens.getD s.2.2 0*(c*F):=by grind
  refine ⟨m*s.1.dens.getD s.2.2 0,?_,?_,fun y hy=>?_⟩
  ·have:=jZ m1 d.1 (by omega) (by omega);omega
  ·have:=jZ m2 d.2 (by omega) (by omega);rw [iE,Int.pow_succ];exact this
  ·rw [← em];have hy:y∈(bB s x).p q::pX S (bB s x) q:=hy;rcases qAn.1 hy with rfl | hy
   ·exact (ySo F1' g1 g2 hc hq).up cF m1
   ·exact m3 y hy
theorem va {q:Rat}:∀ (S:List Sq) (x:Ln),(pX S x q).dropLast=pX S.dropLast x q
 | [],_=>rfl
 | [_],_=>rfl
 | s::t::S,x=>by have:=va (q:=q) (t::S) (bB s x);show ((bB s x).p q::pX (t::S) (bB s x) q).dropLast=(bB s x).p q::pX ((t::S).dropLast) (bB s x) q;rw [← this];rfl
theorem FinS.frac {L:Int} {cs:List Ck} {q:Rat} (hn:cs≠[]) (h4:cs.length≤4) (hok:∀ c∈cs,eE L c∧c.len=L) (h:FinS L cs q) :
  ∃ D:Int,1≤D∧D≤150000000000∧In D q∧∃ ys,Ch L cs 0 q ys∧ys.getLast?=some (L:Rat)∧∀ y∈ys,In D y:=by
 obtain ⟨q0,ys,hc,hl⟩:=h;obtain ⟨c,hcm⟩:=KM _ hn;have hL:=(tQ (hok c hcm).1.1).1;have hL1:=(tQ (hok c hcm).1.1).2;have hc':Ch L cs (gG.p q) q ys:=by rw [sA];exact hc
 obtain ⟨S,s1,s2,s3⟩:=uy hok (by rw [sA];exact eI) (by rw [sA];grind) hc';have hS:S≠[]:=fun k=>hn (by rw [← s1,k];rfl)
 have hSl:S.length=cs.length:=by rw [← s1,dS]
 have hlast:=XN (q:=q) (x:=gG) hS;rw [s3,hl] at hlast;have hLq:(lJ S gG).p q=(L:Rat):=(AS hlast).symm;obtain ⟨lb,lB⟩:LB S.length (lJ S gG)∧0<(lJ S gG).B:=by
  have key:∀ {S:List Sq} {x:Ln} {k:Nat},(∀ s∈S,jX L s)→LB k x→0≤x.B→LB (k+S.length) (lJ S x)∧(S≠[]→0<(lJ S x).B):=by
   intro S;induction S with
   | nil=>intro x k _ hx _;exact ⟨hx,fun k=>absurd rfl k⟩
   | cons s S ih=>
    intro x k h hx hB;have hs:=h s (eU ..);have yB:=OO hs hB;obtain ⟨i1,i2⟩:=ih (x:=bB s x) (k:=k+1) (fun t ht=>h t (eF _ ht)) (Kx hs.1 hs.2.2.1 hs.2.2.2 hx) (eV yB);refine ⟨by rw [iE,show k+(S.length+1)=k+1+S.length by omega];exact i1,fun _=>?_⟩
    cases S with
    | nil=>exact yB
    | cons t S=>exact i2 (by simp)
  have:=key s2 XP eI;rw [jH] at this;exact ⟨this.1,this.2 hS⟩
 have hqw:wh (lJ S gG) (L:Rat)=q:=(Ku lB).2 hLq;have hLi:0≤L∧L≤1000:=⟨AR.1 (by grind),iM.1 hL1⟩;obtain ⟨a,b,b1,b2,_,_,hab,_⟩:=Yk (by omega) lb lB hLi.1 hLi.2;rw [hqw] at hab;obtain ⟨m,m1,m2,m3⟩:=uz b1 hab (S:=S.dropLast) (x:=gG) (F:=1) (b:=0) (fun s hs=>s2 s (List.dropLast_subset _ hs)) (by decide) ⟨0,by decide +kernel⟩ (by decide +kernel);have m4:m≤1728:=by
  rw [List.length_dropLast] at m2;have:S.length=1∨S.length=2∨S.length=3∨S.length=4:=by
   have:S.length≠0:=fun k=>hS (lU k)
   omega
  rcases this with e | e | e | e<;>rw [e] at m2
  ·exact oJ m2 (by decide)
  ·exact oJ m2 (by decide)
  ·exact oJ m2 (by decide)
  ·exact oJ m2 (by decide)
 have mb:1≤m*(b*1):=by rw [Int.mul_one];have:=jZ m1 b1 (by omega) (by omega);omega
 refine ⟨m*(b*1),mb,?_,?_,ys,hc,hl,fun y hy=>?_⟩
 ·rw [Int.mul_one];have:=jZ m4 b2 (by omega) (by omega);omega
 ·rw [Int.mul_one];exact In.up b1 m1 ⟨a,hab⟩
 ·have hne:ys≠[]:=fun k=>by rw [k] at hl;cases hl
  have hd:=List.dropLast_concat_getLast hne;have hg:ys.getLast hne=(L:Rat):=by rw [List.getLast?_eq_some_getLast hne] at hl;exact AS hl
  rw [← hd] at hy;rcases qA3.1 hy with k | k
  ·rw [← s3,va] at k;exact m3 y k
  ·have:y=ys.getLast hne:=by simpa using k
   rw [this,hg];exact In.int mb L
theorem vb {L:Int} {q:Rat} (q0:0<q) {D:Int} (D1:1≤D) (D2:D≤1000000000000) (hq:In D q):∀ {cs:List Ck} {p:Rat} {ys:List Rat},(∀ c∈cs,eE L c)→0≤p→p≤(L:Rat)→In D p→Ch L cs p q ys→(∀ y∈ys,In D y)→endM q cs p=.ok ys
 | [],_,_,_,_,_,_,h,_=>by have h:_=[]:=h;rw [h];rfl
 | c::cs,p,ys,hok,p0,p1,hp,⟨y,r,e,y1,y2,y3,hr⟩,hy=>by
  subst e;have hc:=hok c (eU ..);have hT:=pW hc;have hv:0<q*aY c:=Rat.mul_pos q0 hT;have hL0:(0:Rat)≤(L:Rat):=fG p0 p1;have my:=(hc.bd (fG p0 y1) y2 hL0 eI).2 y2;have mp:=(hc.bd (x:=0) (y:=p) eI hL0 p0 p1).2 p0;have tv:=XL hc;have tb:aY c≤12000:=(iM (b:=12000)).2 (XQ hc).2;have hvD:In D (q*aY c):=hq.mulI _;have hrem:q*aY c≤vX c.cuts c.dens (L:Rat)-vX c.cuts c.dens p:=by unfold iD at *;grind
  have s1:small (q*aY c):=In.small (M:=12000) hvD ⟨D1,by omega⟩ (by omega) (by grind) (by unfold iD at *;grind);obtain ⟨z,d,e1,_,_,e2,e3,e4,_⟩:=yNx hc.1 p0 p1 hv hrem D1 D2 hp hvD;have ez:z=y:=by refine yQK hc.1 hc.2 (fG p0 (eV e3)) e4 (fG p0 y1) y2 ?_;unfold iD at y3;grind
  subst ez;unfold endM;rw [YQ s1,e1];dsimp only;rw [vb q0 D1 D2 hq (fun d hd=>hok d (eF _ hd)) (fG p0 y1) y2 (hy _ (eU ..)) hr (fun w hw=>hy w (eF _ hw))]
def tE (ys:List Rat) (j:Nat):Rat:=(0::ys).getD j 0
def dR (o:List Int) (a:Nat):Nat:=o.idxOf (a:Int)
def AE (o:List Int) (ys:List Rat) (n:Nat):List (List RS):=(List.range n).map fun a=>[(tE ys (dR o a),tE ys (dR o a+1))]
theorem wH (o:List Int) (ys:List Rat) (n:Nat):(AE o ys n).length=n:=by unfold AE;rw [dS,List.length_range]
theorem vc {o:List Int} {ys:List Rat} {n a:Nat} (h:a<n):(AE o ys n).getD a []=[(tE ys (dR o a),tE ys (dR o a+1))]:=by unfold AE;rw [cN,lK,List.getElem?_range h];rfl
theorem YP:∀ {n:Nat} {o:List Int},o∈gQ n→(∀ a,a<n→dR o a<n∧o.getD (dR o a) 0=(a:Int))∧∀ j,j<n→dR o (o.getD j 0).toNat=j
 | 0,_,h=>by cases h
 | 1,o,h=>by
  have:∀ o∈gQ 1,(∀ a,a<1→dR o a<1∧o.getD (dR o a) 0=(a:Int))∧∀ j,j<1→dR o (o.getD j 0).toNat=j:=by decide +kernel
  exact this o h
 | 2,o,h=>by
  have:∀ o∈gQ 2,(∀ a,a<2→dR o a<2∧o.getD (dR o a) 0=(a:Int))∧∀ j,j<2→dR o (o.getD j 0).toNat=j:=by decide +kernel
  exact this o h
 | 3,o,h=>by
  have:∀ o∈gQ 3,(∀ a,a<3→dR o a<3∧o.getD (dR o a) 0=(a:Int))∧∀ j,j<3→dR o (o.getD j 0).toNat=j:=by decide +kernel
  exact this o h
 | 4,o,h=>by
  have:∀ o∈gQ 4,(∀ a,a<4→dR o a<4∧o.getD (dR o a) 0=(a:Int))∧∀ j,j<4→dR o (o.getD j 0).toNat=j:=by decide +kernel
  exact this o h
 | _+5,_,h=>by cases h
theorem Hv {L:Int} {q:Rat}:∀ {cs:List Ck} {p:Rat} {ys:List Rat},Ch L cs p q ys→ys.length=cs.length∧∀ j,j<cs.length→(p::ys).getD j 0≤(p::ys).getD (j+1) 0∧(p::ys).getD (j+1) 0≤(L:Rat)∧iD (cs.getD j default) ((p::ys).getD (j+1) 0)=iD (cs.getD j default) ((p::ys).getD j 0)+q*aY (cs.getD j default)
 | [],p,ys,h=>by have h:ys=[]:=h;subst h;exact ⟨rfl,fun j hj=>by cases hj⟩
 | c::cs,p,ys,⟨y,r,e,y1,y2,y3,hr⟩=>by
  subst e;obtain ⟨h1,h2⟩:=Hv hr;refine ⟨by rw [iE,iE,h1],fun j hj=>?_⟩
  cases j with
  | zero=>exact ⟨y1,y2,y3⟩
  | succ j=>exact h2 j (by rw [iE] at hj;omega)
structure PE (l:List Ck) (o:List Int) (q:Rat) (ys:List Rat) (D:Int):Prop where
 ft:Ft l o
 q0:0<q
 qs:small q
 D1:1≤D
 D2:D≤150000000000
 qD:In D q
 ch:Ch (lnE l) (gI l o) 0 q ys
 la:ys.getLast?=some (lnE l:Rat)
 yD:∀ y∈ys,In D y
 part:∀ K:Int→Int→Prop,vL (cks l) (aA o) K=K q.num q.den
def gJ (o:List Int) (ys:List Rat):Nat→Nat→List (List PV)→List (List PV)
 | 0,_,P=>P
 | r+1,i,P=>gJ o ys r (i+1) (P.set (o.getD i 0).toNat (cW [(tE ys i,tE ys (i+1))]))
def bH (P:List (List PV)):List PV:=P.map .data
theorem yPt (y0:Rat):bH (gJ [0] [y0] 1 0 (replicate 1 []))=aD (AE [0] [y0] 1):=by kernel_rfl
theorem yPu (y0 y1:Rat):bH (gJ [0,1] [y0,y1] 2 0 (replicate 2 []))=aD (AE [0,1] [y0,y1] 2):=by kernel_rfl
theorem yPv (y0 y1:Rat):bH (gJ [1,0] [y0,y1] 2 0 (replicate 2 []))=aD (AE [1,0] [y0,y1] 2):=by kernel_rfl
theorem yPw (y0 y1 y2:Rat):bH (gJ [0,1,2] [y0,y1,y2] 3 0 (replicate 3 []))=aD (AE [0,1,2] [y0,y1,y2] 3):=by kernel_rfl
theorem yPx (y0 y1 y2:Rat):bH (gJ [0,2,1] [y0,y1,y2] 3 0 (replicate 3 []))=aD (AE [0,2,1] [y0,y1,y2] 3):=by kernel_rfl
theorem yPy (y0 y1 y2:Rat):bH (gJ [1,0,2] [y0,y1,y2] 3 0 (replicate 3 []))=aD (AE [1,0,2] [y0,y1,y2] 3):=by kernel_rfl
theorem yPz (y0 y1 y2:Rat):bH (gJ [1,2,0] [y0,y1,y2] 3 0 (replicate 3 []))=aD (AE [1,2,0] [y0,y1,y2] 3):=by kernel_rfl
theorem yPA (y0 y1 y2:Rat):bH (gJ [2,0,1] [y0,y1,y2] 3 0 (replicate 3 []))=aD (AE [2,0,1] [y0,y1,y2] 3):=by kernel_rfl
theorem yPB (y0 y1 y2:Rat):bH (gJ [2,1,0] [y0,y1,y2] 3 0 (replicate 3 []))=aD (AE [2,1,0] [y0,y1,y2] 3):=by kernel_rfl
theorem yPC (y0 y1 y2 y3:Rat):bH (gJ [0,1,2,3] [y0,y1,y2,y3] 4 0 (replicate 4 []))=aD (AE [0,1,2,3] [y0,y1,y2,y3] 4):=by kernel_rfl
theorem yPD (y0 y1 y2 y3:Rat):bH (gJ [0,1,3,2] [y0,y1,y2,y3] 4 0 (replicate 4 []))=aD (AE [0,1,3,2] [y0,y1,y2,y3] 4):=by kernel_rfl
theorem yPE (y0 y1 y2 y3:Rat):bH (gJ [0,2,1,3] [y0,y1,y2,y3] 4 0 (replicate 4 []))=aD (AE [0,2,1,3] [y0,y1,y2,y3] 4):=by kernel_rfl
theorem yPF (y0 y1 y2 y3:Rat):bH (gJ [0,2,3,1] [y0,y1,y2,y3] 4 0 (replicate 4 []))=aD (AE [0,2,3,1] [y0,y1,y2,y3] 4):=by kernel_rfl
theorem yPG (y0 y1 y2 y3:Rat):bH (gJ [0,3,1,2] [y0,y1,y2,y3] 4 0 (replicate 4 []))=aD (AE [0,3,1,2] [y0,y1,y2,y3] 4):=by kernel_rfl
theorem yPH (y0 y1 y2 y3:Rat):bH (gJ [0,3,2,1] [y0,y1,y2,y3] 4 0 (replicate 4 []))=aD (AE [0,3,2,1] [y0,y1,y2,y3] 4):=by kernel_rfl
theorem yPI (y0 y1 y2 y3:Rat):bH (gJ [1,0,2,3] [y0,y1,y2,y3] 4 0 (replicate 4 []))=aD (AE [1,0,2,3] [y0,y1,y2,y3] 4):=by kernel_rfl
theorem yPJ (y0 y1 y2 y3:Rat):bH (gJ [1,0,3,2] [y0,y1,y2,y3] 4 0 (replicate 4 []))=aD (AE [1,0,3,2] [y0,y1,y2,y3] 4):=by kernel_rfl
theorem yPK (y0 y1 y2 y3:Rat):bH (gJ [1,2,0,3] [y0,y1,y2,y3] 4 0 (replicate 4 []))=aD (AE [1,2,0,3] [y0,y1,y2,y3] 4):=by kernel_rfl
theorem yPL (y0 y1 y2 y3:Rat):bH (gJ [1,2,3,0] [y0,y1,y2,y3] 4 0 (replicate 4 []))=aD (AE [1,2,3,0] [y0,y1,y2,y3] 4):=by kernel_rfl
theorem yNY (y0 y1 y2 y3:Rat):bH (gJ [1,3,0,2] [y0,y1,y2,y3] 4 0 (replicate 4 []))=aD (AE [1,3,0,2] [y0,y1,y2,y3] 4):=by kernel_rfl
theorem yNZ (y0 y1 y2 y3:Rat):bH (gJ [1,3,2,0] [y0,y1,y2,y3] 4 0 (replicate 4 []))=aD (AE [1,3,2,0] [y0,y1,y2,y3] 4):=by kernel_rfl
theorem yN0 (y0 y1 y2 y3:Rat):bH (gJ [2,0,1,3] [y0,y1,y2,y3] 4 0 (replicate 4 []))=aD (AE [2,0,1,3] [y0,y1,y2,y3] 4):=by kernel_rfl
theorem yN1 (y0 y1 y2 y3:Rat):bH (gJ [2,0,3,1] [y0,y1,y2,y3] 4 0 (replicate 4 []))=aD (AE [2,0,3,1] [y0,y1,y2,y3] 4):=by kernel_rfl
theorem yN2 (y0 y1 y2 y3:Rat):bH (gJ [2,1,0,3] [y0,y1,y2,y3] 4 0 (replicate 4 []))=aD (AE [2,1,0,3] [y0,y1,y2,y3] 4):=by kernel_rfl
theorem yN3 (y0 y1 y2 y3:Rat):bH (gJ [2,1,3,0] [y0,y1,y2,y3] 4 0 (replicate 4 []))=aD (AE [2,1,3,0] [y0,y1,y2,y3] 4):=by kernel_rfl
theorem yN4 (y0 y1 y2 y3:Rat):bH (gJ [2,3,0,1] [y0,y1,y2,y3] 4 0 (replicate 4 []))=aD (AE [2,3,0,1] [y0,y1,y2,y3] 4):=by kernel_rfl
theorem yN5 (y0 y1 y2 y3:Rat):bH (gJ [2,3,1,0] [y0,y1,y2,y3] 4 0 (replicate 4 []))=aD (AE [2,3,1,0] [y0,y1,y2,y3] 4):=by kernel_rfl
theorem yN6 (y0 y1 y2 y3:Rat):bH (gJ [3,0,1,2] [y0,y1,y2,y3] 4 0 (replicate 4 []))=aD (AE [3,0,1,2] [y0,y1,y2,y3] 4):=by kernel_rfl
theorem yN7 (y0 y1 y2 y3:Rat):bH (gJ [3,0,2,1] [y0,y1,y2,y3] 4 0 (replicate 4 []))=aD (AE [3,0,2,1] [y0,y1,y2,y3] 4):=by kernel_rfl
theorem yN8 (y0 y1 y2 y3:Rat):bH (gJ [3,1,0,2] [y0,y1,y2,y3] 4 0 (replicate 4 []))=aD (AE [3,1,0,2] [y0,y1,y2,y3] 4):=by kernel_rfl
theorem yN9 (y0 y1 y2 y3:Rat):bH (gJ [3,1,2,0] [y0,y1,y2,y3] 4 0 (replicate 4 []))=aD (AE [3,1,2,0] [y0,y1,y2,y3] 4):=by kernel_rfl
theorem yOa (y0 y1 y2 y3:Rat):bH (gJ [3,2,0,1] [y0,y1,y2,y3] 4 0 (replicate 4 []))=aD (AE [3,2,0,1] [y0,y1,y2,y3] 4):=by kernel_rfl
theorem yOb (y0 y1 y2 y3:Rat):bH (gJ [3,2,1,0] [y0,y1,y2,y3] 4 0 (replicate 4 []))=aD (AE [3,2,1,0] [y0,y1,y2,y3] 4):=by kernel_rfl
theorem yOc:∀ {n:Nat} {o:List Int} {ys:List Rat},o∈gQ n→ys.length=n→bH (gJ o ys n 0 (replicate n []))=aD (AE o ys n)
 | 0,_,_,h,_=>by cases h
 | 1,o,[y0],h,_=>by simp only [gQ,qAn,wJ,or_false] at h;subst h;exact yPt y0
 | 2,o,[y0,y1],h,_=>by
  simp only [gQ,qAn,wJ,or_false] at h;rcases h with rfl | rfl
  ·exact yPu y0 y1
  ·exact yPv y0 y1
 | 3,o,[y0,y1,y2],h,_=>by
  simp only [gQ,qAn,wJ,or_false] at h;rcases h with rfl | rfl | rfl | rfl | rfl | rfl
  ·exact yPw y0 y1 y2
  ·exact yPx y0 y1 y2
  ·exact yPy y0 y1 y2
  ·exact yPz y0 y1 y2
  ·exact yPA y0 y1 y2
  ·exact yPB y0 y1 y2
 | 4,o,[y0,y1,y2,y3],h,_=>by
  simp only [gQ,qAn,wJ,or_false] at h;rcases h with rfl | rfl | rfl | rfl | rfl | rfl | rfl | rfl | rfl | rfl | rfl | rfl | rfl | rfl | rfl | rfl | rfl | rfl | rfl | rfl | rfl | rfl | rfl | rfl
  ·exact yPC y0 y1 y2 y3
  ·exact yPD y0 y1 y2 y3
  ·exact yPE y0 y1 y2 y3
  ·exact yPF y0 y1 y2 y3
  ·exact yPG y0 y1 y2 y3
  ·exact yPH y0 y1 y2 y3
  ·exact yPI y0 y1 y2 y3
  ·exact yPJ y0 y1 y2 y3
  ·exact yPK y0 y1 y2 y3
  ·exact yPL y0 y1 y2 y3
  ·exact yNY y0 y1 y2 y3
  ·exact yNZ y0 y1 y2 y3
  ·exact yN0 y0 y1 y2 y3
  ·exact yN1 y0 y1 y2 y3
  ·exact yN2 y0 y1 y2 y3
  ·exact yN3 y0 y1 y2 y3
  ·exact yN4 y0 y1 y2 y3
  ·exact yN5 y0 y1 y2 y3
  ·exact yN6 y0 y1 y2 y3
  ·exact yN7 y0 y1 y2 y3
  ·exact yN8 y0 y1 y2 y3
  ·exact yN9 y0 y1 y2 y3
  ·exact yOa y0 y1 y2 y3
  ·exact yOb y0 y1 y2 y3
 | _+5,_,_,h,_=>by cases h
section
variable {l:List Ck} {o:List Int} {q:Rat} {ys:List Rat} {D:Int}
theorem Ft.pe (h:Ft l o):∃ q ys D,PE l o q ys D:=by
 obtain ⟨q,h1,h2,h3⟩:=h.part;obtain ⟨n1,n2,n3⟩:=h.n;have hne:gI l o≠[]:=fun k=>by have:=oH (l:=l) (o:=o);rw [k] at this;simp at this;omega
 obtain ⟨D,d1,d2,d3,ys,c1,c2,c3⟩:=h1.frac hne (by rw [oH];exact n3) (fun c hc=>⟨h.ok c hc,h.len c hc⟩);exact ⟨q,ys,D,h,h1.1,h2,d1,d2,d3,c1,c2,c3,h3⟩
theorem PE.len (h:PE l o q ys D):ys.length=l.length:=by rw [(Hv h.ch).1,oH,h.ft.n.1]
theorem PE.L0 (h:PE l o q ys D):(0:Rat)≤(lnE l:Rat)∧(lnE l:Rat)≤1000:=by
 obtain ⟨n1,n2,n3⟩:=h.ft.n;have hne:gI l o≠[]:=fun k=>by have:=oH (l:=l) (o:=o);rw [k] at this;simp at this;omega
 obtain ⟨c,hc⟩:=KM _ hne;have:=tQ (h.ft.ok c hc).1;exact ⟨by grind,this.2⟩
theorem PE.ends (h:PE l o q ys D) (K:List PV→Int→Prop):ybx (cks l) (aA o) q.num q.den K=K (jG ys) 0:=by have L0:=h.L0;rw [h.ft.ends h.qs (eV h.q0),vb h.q0 h.D1 (oJ h.D2 (by decide)) h.qD h.ft.ok eI L0.1 (In.int h.D1 0) h.ch h.yD];rfl
theorem PE.tD (h:PE l o q ys D) {j:Nat} (hj:j≤l.length):In D (tE ys j)∧0≤tE ys j∧tE ys j≤(lnE l:Rat):=by
 have L0:=h.L0;have hy:=h.len;obtain ⟨n1,_⟩:=h.ft.n
 cases j with
 | zero=>exact ⟨In.int h.D1 0,eI,L0.1⟩
 | succ j=>
  have hm:ys.getD j 0∈ys:=by rw [cN,bY (by omega)];exact kQ _
  have key:∀ j,j≤l.length→0≤(0::ys).getD j 0:=by
   intro j;induction j with
   | zero=>intro _;exact eI
   | succ j ih=>intro hj;exact fG (ih (by omega)) ((Hv h.ch).2 j (by rw [oH];omega)).1
  exact ⟨h.yD _ hm,key (j+1) hj,((Hv h.ch).2 j (by rw [oH];omega)).2.1⟩
theorem PE.sm (h:PE l o q ys D) {j:Nat} (hj:j≤l.length):small (tE ys j):=by obtain ⟨a,b,c⟩:=h.tD hj;have L0:=h.L0;have:=h.D2;exact In.small (M:=1000) a ⟨h.D1,by omega⟩ (by omega) (by grind) (fG c L0.2)
theorem PE.cs (h:PE l o q ys D) {j:Nat} (hj:j<l.length):(gI l o).getD j default=l.getD (o.getD j 0).toNat default:=(h.ft.at_ (by rw [h.ft.n.1];exact hj)).2.2.2
theorem PE.LD (h:PE l o q ys D):LD l (AE o ys l.length) (tE ys) (dR o):=by
 have hy:=h.len;obtain ⟨n1,n2,n3⟩:=h.ft.n;obtain ⟨p1,p2⟩:=YP h.ft.p;have n0:=h.ft.d.n0;refine ⟨h.ft.d,wH ..,rfl,?_,fun j hj=>?_,fun j hj=>h.sm hj,fun a ha=>⟨(p1 a ha).1,vc ha⟩,fun a b ha hb e=>?_,fun j hj=>?_⟩
 ·have hl:=h.la;have hne:ys≠[]:=fun k=>by rw [k] at hl;cases hl
  rw [List.getLast?_eq_some_getLast hne,List.getLast_eq_getElem] at hl;have e:tE ys l.length=ys.getD (l.length-1) 0:=by
   unfold tE
   cases hn:l.length with
   | zero=>omega
   | succ n=>rfl
  rw [e,cN,← hy,bY (by omega)];exact AS hl
 ·obtain ⟨c1,c2,c3⟩:=(Hv h.ch).2 j (by rw [oH];omega);have hT:=pW (h.ft.ok ((gI l o).getD j default) (by rw [cN,bY (by rw [oH];omega)];exact kQ _));have:=Rat.mul_pos h.q0 hT;have hne:¬tE ys j=tE ys (j+1):=fun e=>by
   have c3:iD ((gI l o).getD j default) (tE ys (j+1))=iD ((gI l o).getD j default) (tE ys j)+q*aY ((gI l o).getD j default):=c3;rw [e] at c3;grind
  have c1:tE ys j≤tE ys (j+1):=c1;grind
 ·have a1:=(p1 a ha).2;have b1:=(p1 b hb).2;rw [e,b1] at a1;omega
 ·obtain ⟨a1,a2,a3,a4⟩:=h.ft.at_ (j:=j) (by omega);exact ⟨_,a2,p2 j hj⟩
theorem PE.share (h:PE l o q ys D) {a:Nat} (ha:a<l.length):wV (l.getD a default) ((AE o ys l.length).getD a [])=q*aY (l.getD a default):=by
 obtain ⟨p1,p2⟩:=YP h.ft.p;obtain ⟨k1,k2⟩:=p1 a ha;have e:(gI l o).getD (dR o a) default=l.getD a default:=by rw [h.cs k1,k2,cH]
 obtain ⟨n1,n2,n3⟩:=h.ft.n;obtain ⟨_,_,c3⟩:=(Hv h.ch).2 (dR o a) (by rw [oH];omega);rw [e] at c3;have c3:iD (l.getD a default) (tE ys (dR o a+1))=iD (l.getD a default) (tE ys (dR o a))+q*aY (l.getD a default):=c3;rw [h.LD.wV _ ha];unfold iD at c3;grind
theorem PE.prt (h:PE l o q ys D) {a:Nat} (ha:a<l.length):prt l (AE o ys l.length) a=q:=by
 have hc:=(h.ft.okl (l.getD a default) (by rw [cN,bY ha];exact kQ ha)).1;have hT:=pW hc;unfold Go.Pf.Vc.prt;rw [h.share ha];have e:=gY (a:=q*aY (l.getD a default)) (b:=aY (l.getD a default)) (by grind);show q*aY (l.getD a default)/aY (l.getD a default)=q;generalize q*aY (l.getD a default)/aY (l.getD a default)=z at *
 have:(z-q)*aY (l.getD a default)=0:=by grind
 rcases qCr.1 this with k|k
 ·grind
 ·grind
theorem PE.all (h:PE l o q ys D):(∀ c∈l,∀ a∈AE o ys l.length,small (wV c a))∧(∀ K,yaP (cks l) (aD (AE o ys l.length)) K=K (aO l (AE o ys l.length)) 0)∧∀ K,ydM (cks l) (aD (AE o ys l.length)) K=K (qv l (AE o ys l.length) (cD l (AE o ys l.length) l.length) (iJ l (AE o ys l.length))) (aO l (AE o ys l.length)) 0:=by obtain ⟨g1,g2⟩:=h.LD.DV.Worth_good (D:=D) ⟨h.D1,oJ h.D2 (by decide)⟩ (h.LD.InA fun j hj=>(h.tD hj).1);exact ⟨g1,g2,fun K=>h.LD.DV.Make_of g1 g2 (fun j hj=>by rw [h.prt hj];exact h.qs) K⟩
theorem yLH {cs:List Ck} {A:List (List RS)} {P:List Rat} {g:Bool} (h:∀ a,a<cs.length→P.getD a 0=P.getD 0 0):(brk cs A P g 8).2.2=false:=by have e:brk cs A P g 8=nE (ycu (vV P) cs.length cs.length 0):=rfl;rw [e,ra,OC];intro a _ ha b hb;unfold vV;rw [Ef (h a (by omega))];simp
theorem PE.accept (h:PE l o q ys D) (K:Bool→Int→Prop):Aq (cks l) (aD (AE o ys l.length)) 25 (aO l (AE o ys l.length)) K=K true 0:=by
 obtain ⟨g1,g2,_⟩:=h.all;have n0:=h.ft.d.n0;rw [h.LD.DV.AcceptAny g1 g2 (fun j hj=>by rw [h.prt hj];exact h.qs) (by decide)];have hp:∀ a,a<l.length→(cD l (AE o ys l.length) l.length).getD a 0=q:=fun a ha=>by
  unfold cD;rw [cN,lK,List.getElem?_range ha];exact h.prt ha
 have b0:=(yHz (cs:=l) (A:=AE o ys l.length) (P:=cD l (AE o ys l.length) l.length) (g:=iJ l (AE o ys l.length))).2 ⟨h.LD.none,h.LD.nogap⟩;have b3:=yLH (cs:=l) (A:=AE o ys l.length) (P:=cD l (AE o ys l.length) l.length) (g:=iJ l (AE o ys l.length)) fun a ha=>by rw [hp a ha,hp 0 (by omega)]
 have b4:=(yLE (cs:=l) (A:=AE o ys l.length) (P:=cD l (AE o ys l.length) l.length) (g:=iJ l (AE o ys l.length))).2 h.LD.one;have ea:iK l (AE o ys l.length) 25 5 0=true:=by unfold iK iK iK iK iK iK;rw [show fE 0=1 from rfl,show fE (0+1+1+1)=8 from rfl,show fE (0+1+1+1+1)=16 from rfl,b0,b3,b4];rw [show mE 25 (0+1)=true from by decide +kernel,show mE 25 (0+1+1)=true from by decide +kernel];simp
 rw [ea];rfl
theorem yOd (P:List (List PV)):(bH P).length=P.length:=dS ..
theorem yPM {P:List (List PV)} {i:Nat} (h:i<P.length):(bH P).getD i .nils=.data (P.getD i []):=by unfold bH;rw [cN,lK,bY h,cN,bY h];rfl
theorem yOe (P:List (List PV)) (i:Nat) (x:List PV):(bH P).set i (.data x)=bH (P.set i x):=by unfold bH;rw [List.map_set]
theorem ve {a0:fY} {a1:List PV→List PV→(Int→Int→Prop)→Prop} {a2:qT} {a3:bN} {x0} (h:PE l o q ys D):∀ (r i n:Nat) (P:List (List PV)),i+r=l.length→r<n→P.length=l.length →
  (x0 (bH (gJ o ys r i P)) (jG ys) l.length l.length l.length (tE ys l.length).num (tE ys l.length).den (aA o) o.length o.length false) →
  GK a0 a1 a2 a3 x0 n (bH P) (jG ys) l.length l.length l.length (tE ys i).num (tE ys i).den (aA o) o.length (i:Int)
 | 0,i,n+1,P,hi,hn,hP,k=>by have n1:=h.ft.n.1;unfold GK;rw [bG (by omega),show i=l.length by omega];rw [show ((l.length:Nat):Int)=o.length by omega];exact k
 | r+1,i,n+1,P,hi,hn,hP,k=>by have hy:=h.len;obtain ⟨n1,n2,n3⟩:=h.ft.n;obtain ⟨a1,a2,a3,a4⟩:=h.ft.at_ (j:=i) (by omega);have e1:=cL (n:=(i:Int)+1) (by omega) (by omega);unfold GK;dsimp only [lt];rw [bS (by omega),dD,aI (by omega),aI (by omega),cH,fS (by omega),fD (by omega),OT,aI (by omega),aI (by omega),uj (by omega)];rw [show ∀ (x y:Int) (X:Prop),asr (aG z2 (.agg [.int .i64 x,.int .i64 y])) X=X from fun _ _ _=>rfl];rw [aI (by omega),aI (by omega),yOd,aI hP,aI (by omega),jH,yPM (by omega)];rw [show ∀ (x:List PV) (X:Prop),asr (aG zD (.data x)) X=X from fun _ _=>rfl];rw [aI (by omega),aI (by omega)];rw [show ∀ (x y:Int) (X:Prop),asr (aG z2 (.agg [.int .i64 x,.int .i64 y])) X=X from fun _ _ _=>rfl];rw [e1,dN];have eS:(bH P).set (o.getD i 0).toNat (.data [.agg [.int .i64 (tE ys i).num,.int .i64 (tE ys i).den,.int .i64 (aK (aP (.agg [.int .i64 (ys.getD i 0).num,.int .i64 (ys.getD i 0).den]) 0)),.int .i64 (aK (aP (.agg [.int .i64 (ys.getD i 0).num,.int .i64 (ys.getD i 0).den]) 1))]])=bH (P.set (o.getD i 0).toNat (cW [(tE ys i,tE ys (i+1))])):=yOe ..;rw [eS];exact ve h r (i+1) n _ (by omega) (by omega) (by rw [yH];exact hP) k
theorem yRE (h:PE l o q ys D):bH (gJ o ys l.length 0 (replicate l.length []))=aD (AE o ys l.length):=yOc h.ft.p h.len
theorem PE.divide (h:PE l o q ys D) (K:List PV→Int→Prop):BG (cks l) (aA o) K=K (aD (AE o ys l.length)) 0:=by
 refine yxZ _ _ _ _ (fun K k=>?_) K;obtain ⟨n1,n2,n3⟩:=h.ft.n;unfold BG Ww;rw [h.ft.ordered,cV rfl,h.part,h.ends,cV rfl,dW,aI (by omega),aI (by omega),aI (by unfold room;omega),wA,dD];refine ⟨l.length+1,?_⟩;have hr:replicate l.length ((.data []):PV)=bH (replicate l.length []):=by unfold bH;rw [List.map_replicate]
 rw [hr];refine ve h l.length 0 _ _ (by omega) (by omega) (by rw [qE]) ?_;rw [yRE h,oW,wH,aI rfl,aI (by omega),yC (by rw [oW,wH];omega)];exact k
end
section
variable {l:List Ck} {o:List Int} {q:Rat} {ys:List Rat} {D:Int}
theorem vf {a0 a2 a3 a4 a5 a6} {i6:Int} {x0 x1} (h:PE l o q ys D):∀ (r i n:Nat),i+r=l.length→r<n →
  (x0 (cks l) (aA o) (aD (AE o ys l.length)) q.num q.den (jG ys) i6 (aO l (AE o ys l.length)) (tE ys l.length).num (tE ys l.length).den o.length false) →
  GR a0 Ar a2 a3 a4 a5 a6 BI zX Dn x0 x1 n (cks l) (aA o) (aD (AE o ys l.length)) q.num q.den (jG ys) i6 (aO l (AE o ys l.length)) (tE ys i).num (tE ys i).den (i:Int)
 | 0,i,n+1,hi,hn,k=>by have n1:=h.ft.n.1;unfold GR;rw [dD,bG (by omega),show i=l.length by omega,show ((l.length:Nat):Int)=o.length by omega];exact k
 | r+1,i,n+1,hi,hn,k=>by
  have hy:=h.len;obtain ⟨n1,n2,n3⟩:=h.ft.n;obtain ⟨a1,a2',a3',a4'⟩:=h.ft.at_ (j:=i) (by omega);obtain ⟨p1,p2⟩:=YP h.ft.p;have e1:=cL (n:=(i:Int)+1) (by omega) (by omega);have hc:=(h.ft.okl (l.getD (o.getD i 0).toNat default) (by rw [cN,bY a2'];exact kQ a2')).1;have hv:=h.ft.d.ok (o.getD i 0).toNat a2';have hT:=Ax hv;have sT:small (aY (l.getD (o.getD i 0).toNat default)):=rV (by omega);have hsh:=h.share a2';have hvD:In D (q*aY (l.getD (o.getD i 0).toNat default)):=h.qD.mulI _;have sV:small (q*aY (l.getD (o.getD i 0).toNat default)):=by
   rw [← hsh];refine h.all.1 _ ?_ _ ?_
   ·rw [cN,bY a2'];exact kQ a2'
   ·rw [cN,bY (by rw [wH];exact a2')];exact kQ _
  unfold GR;dsimp only [lt,Go.Pf.jn];rw [dD,bS (by omega),aI (by omega),aI (by omega),cH,fS (by omega),fD (by omega),dW,aI a1,aI a3',lR a2',dE,mQ,qU,rZ,yLs hv];rw [show ∀ (n:Int) (K:Int→Int→Prop),BI n K=K ((n:Rat)).num ((n:Rat)).den from fun _ _=>rfl];refine (yOU h.qs sT _).mpr ?_;rw [wC sV,cV rfl,xW,aI a1,aI a3',BW a2'];rw [show ∀ (x:List PV) (X:Prop),asr (aG zD (.data x)) X=X from fun _ _=>rfl];rw [show ∀ x:List PV,bQ (.data x)=x from fun _=>rfl];rw [tP,dS,wH,cV rfl,aI a1,aI a3'];rw [show ∀ (x:List PV) (X:Prop),asr (aG zD (.data x)) X=X from fun _ _=>rfl];have hw:((AE o ys l.length).map (wV (l.getD (o.getD i 0).toNat default))).getD (o.getD i 0).toNat 0=q*aY (l.getD (o.getD i 0).toNat default):=by
   rw [← hsh,cN,lK,bY (by rw [wH];exact a2'),cN (l:=AE o ys l.length),bY (by rw [wH];exact a2')];rfl
  rw [aI a1,aI a3',vS (by rw [dS,wH];exact a2'),hw];rw [show ∀ (x:Rat) (X:Prop),asr (aG z2 (pR x)) X=X from fun _ _=>rfl];show aB (!(((q*aY (l.getD (o.getD i 0).toNat default)).num ==(q*aY (l.getD (o.getD i 0).toNat default)).num)&&((((q*aY (l.getD (o.getD i 0).toNat default)).den:Int) ==((q*aY (l.getD (o.getD i 0).toNat default)).den:Int))&&true))) _ _;rw [beq_self_eq_true,beq_self_eq_true];show aB false _ _;rw [aU,oW,wH,aI a1,aI a3',Az (by rw [wH];exact a2')];have hA:(AE o ys l.length).getD (o.getD i 0).toNat []=[(tE ys i,tE ys (i+1))]:=by rw [vc a2',p2 i (by omega)]
  rw [hA];rw [show ∀ (x:List PV) (X:Prop),asr (aG zD (.data x)) X=X from fun _ _=>rfl];show aB ((1:Int) !=1) _ _;rw [cV rfl,aI a1,aI a3'];rw [show ∀ (x:List PV) (X:Prop),asr (aG zD (.data x)) X=X from fun _ _=>rfl];show asr true (asr true (asr (decide (0≤(i:Int))) (asr (decide ((i:Int)<(((jG ys).length:Nat):Int))) (asr (aG z2 ((jG ys).getD i .nils)) (aB (!(((tE ys i).num ==(tE ys i).num)&&((((tE ys i).den:Int) ==((tE ys i).den:Int))&&(((tE ys (i+1)).num==aK (aP ((jG ys).getD i .nils) 0))&&((((tE ys (i+1)).den:Int)==aK (aP ((jG ys).getD i .nils) 1))&&true))))) _ _)))));rw [cZ,cZ,OT,aI (by omega),aI (by omega),uj (by omega)];rw [show ∀ (x y:Int) (X:Prop),asr (aG z2 (.agg [.int .i64 x,.int .i64 y])) X=X from fun _ _ _=>rfl];have eb:(!(((tE ys i).num ==(tE ys i).num)&&((((tE ys i).den:Int) ==((tE ys i).den:Int))&&(((tE ys (i+1)).num==aK (aP (.agg [.int .i64 (ys.getD i 0).num,.int .i64 (ys.getD i 0).den]) 0))&&((((tE ys (i+1)).den:Int)==aK (aP (.agg [.int .i64 (ys.getD i 0).num,.int .i64 (ys.getD i 0).den]) 1))&&true)))))=false:=by
   show (!(((tE ys i).num ==(tE ys i).num)&&((((tE ys i).den:Int) ==((tE ys i).den:Int))&&(((tE ys (i+1)).num ==(tE ys (i+1)).num)&&((((tE ys (i+1)).den:Int) ==((tE ys (i+1)).den:Int))&&true)))))=false;simp only [beq_self_eq_true,Bool.and_self,tW]
  rw [eb,aU,aI (by omega),aI (by omega)];rw [show ∀ (x y:Int) (X:Prop),asr (aG z2 (.agg [.int .i64 x,.int .i64 y])) X=X from fun _ _ _=>rfl];rw [e1,dN];exact vf h r (i+1) n (by omega) (by omega) k
theorem yFZ (hl:l.length≤9223372036854775807) (ho:o.length≤9223372036854775807):Oa (cks l) (aA o) (fun b=>b=true):=by
 unfold Oa WX;dsimp only [Go.Pf.jn];rw [yNV hl ho]
 cases hf:KD l o with
 | false=>rw [qI,aX,uv]
 | true=>
  have hft:=YO hf;obtain ⟨q,ys,D,h⟩:=hft.pe;have hy:=h.len;obtain ⟨n1,n2,n3⟩:=hft.n;have L0:=h.L0;have hP:∀ K:Int→Int→Int→Prop,ycM (cks l) (aA o) K=K q.num q.den 0:=fun K=>by
   unfold ycM JW;rw [hft.ordered,cV rfl,h.part]
  rw [tW,aU,h.divide,hP,h.ends,h.all.2.2,cV rfl,cV rfl,cV rfl,cV rfl,OT,dW,cV (by omega),xW];show aB (((l.length:Nat):Int) !=((l.length:Nat):Int)) _ _;rw [cV rfl,h.accept,cV rfl];show aB false _ _;rw [aU,oW,wH];show aB (((l.length:Nat):Int) !=((l.length:Nat):Int)) _ _;rw [cV rfl];refine ⟨l.length+1,?_⟩;have h0:=hft.d.n0;refine vf (x0:=_) (x1:=_) h l.length 0 _ (by omega) (by omega) ?_;show asr (decide ((0:Int)<(((cks l).length:Nat):Int))) (asr (aG zK ((cks l).getD 0 .nils)) _);rw [dW,aI (by omega),lR (by omega),dE,mQ];have et:tE ys l.length=(lnE l:Rat):=h.LD.tn;rw [et];show aB ((((lnE l:Int):Rat).num ==((lnE l:Int):Rat).num)&&(((((lnE l:Int):Rat).den:Int) ==(((lnE l:Int):Rat).den:Int))&&true)) (Ar fun b=>b=true) (false=true);rw [beq_self_eq_true,beq_self_eq_true];show Ar _;rw [uv]
end
end Go.Pf.Vc
