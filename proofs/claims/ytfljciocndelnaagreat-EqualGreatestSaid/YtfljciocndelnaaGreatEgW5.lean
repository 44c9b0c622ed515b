/- Part 5. -/
import Derived.Test.YtfljciocndelnaaGreatEgW4
open Go.IntKind (i64 u8 u64)
open List (length getD take drop replicate set map isEmpty)
namespace Go.Pf.Vc
open Go Go.Pf
set_option maxRecDepth 100000
theorem ZT {L:Int} {c:Ck} (h:cT L c) {i:Nat} (hi:i≤c.dens.length):0≤upC c i∧upC c i≤12000:=by obtain ⟨a,b⟩:=HD h hi;exact ⟨xP.1 a,iT.1 (by show _≤(12000:Rat);exact b)⟩
theorem uy {L:Int} {c:Ck} (h:cT L c):upC c c.dens.length=totC c.cuts c.dens:=by
 have a:=Rs h c.dens.length (bI _);have b:=Zf h;rw [Rr h] at a;have:cV c c.dens.length=bJ c:=by grind
 exact Rat.intCast_inj.1 this
theorem uz {L:Int} {c:Ck} (h:cT L c):sD c c.dens.length=cH (c,0,0):=by unfold sD cH nJ;rw [uy h];rfl
theorem va {L:Int} {c:Ck} (h:cT L c) {i:Nat} (hi:i<c.dens.length) (K:Se→Prop):nI (aA c.dens) (sD c i) (i:Int) K=K (sD c (i+1)):=by
 have l1:=h.1.l1;have l2:=h.1.l2;have e1:=fR (n:=(i:Int)+1) (by omega) (by omega);have u0:=ZT h (i:=i) (by omega);have u1:=ZT h (i:=i+1) (by omega);have es:upC c (i+1)=upC c i+c.dens.getD i 0*(c.cuts.getD (i+1) 0-c.cuts.getD i 0):=rfl;have ll:=h.1.len0;have lo:=h.1.lo (i:=i) (by omega);have hi0:=h.1.hi (i:=i) (by omega);have lo1:=h.1.lo (i:=i+1) (by omega);have hi1:=h.1.hi (i:=i+1) (by omega);have eT:pT (aA c.dens) (aA c.cuts) (upC c i) (i:Int)=upC c (i+1):=by unfold pT;rw [e1,lK,cX,cX,eJ hi,eJ (by omega),eJ (by omega),fR (n:=c.cuts.getD (i+1) 0-c.cuts.getD i 0) (by omega) (by omega),fR (n:=c.dens.getD i 0*_) (by omega) (by omega),fR (by omega) (by omega),es]
 have eu:(sD c i).up.length=i+1:=by show (aA _).length=_;rw [cP,mC,List.length_range]
 unfold nI;rw [cP,aO (by omega),aO (by omega),cX,fB hi,e1,lK,cX];show asr (decide (0≤((i+1:Nat):Int))) (asr (decide (((i+1:Nat):Int)<(((aA c.cuts).length:Nat):Int))) (asr (aG zI ((aA c.cuts).getD (i+1) .nils)) (asr (decide (0≤(i:Int))) (asr (decide ((i:Int)<(((aA c.cuts).length:Nat):Int))) (asr (aG zI ((aA c.cuts).getD i .nils)) _)))))=_;rw [cP,aO (by omega),aO (by omega),fB (by omega),aO (by omega),aO (by omega),fB (by omega),eu,aO rfl,aO (by omega),sK (by simp),aO rfl,aO (by unfold room;omega)];show K ⟨c.len,aA c.cuts,aA c.dens,aA ((List.range (i+1)).map (upC c))++[.int .i64 (pT (aA c.dens) (aA c.cuts) (upC c i) (i:Int))],pT (aA c.dens) (aA c.cuts) (upC c i) (i:Int),0,0⟩=_;rw [eT];congr 1;unfold sD;congr 1;rw [List.range_succ (n:=i+1),List.map_append];unfold aA;rw [List.map_append];rfl
section
variable (e:Es) (aW:dZ) (aE:tY) (aN:qP) (aL:iE)
variable (L ord:List PV) (Rn:aB→Hp→Prop) (Q:Ex→aB→Hp→Prop) (PP PQ:aB→Hp→Prop→Prop)
theorem vb {S:List Se} (h:S.length≤3) (dens:List PV) (m i:Int) (s:Se):wD e aW aE aN aL (jL L ord S.length dens m i) (hpD S s) (QG (bP pH) (hpD S s).length Rn Q) =
  aD (decide (i<m)) (nI dens s i fun s'=>Rn (jL L ord S.length dens m (i64.wrap (i+1))) (hpD S s')) (Q (.exit 2) (fW L ord S.length dens m i) (hpD S s)):=
 match S,h with
 | [],_=>Rz ..
 | [s0],_=>RA ..
 | [s0,s1],_=>RB ..
 | [s0,s1,s2],_=>RD ..
 | _::_::_::_::_,h=>by simp only [iV] at h;omega
theorem vc {S:List Se} (h:S.length≤4) (dens:List PV) (m i:Int) (s:Se):wO e aW aE aN aL PP (fW L ord S.length dens m i) (hpD S s) (jM L ord S.length) (cW S) (QG (bP oA) (cW S).length Rn Q) =
  Cf L ord S.length (PP (jL L ord S.length (dV (kF L ord S.length)).dens (dV (kF L ord S.length)).dens.length 0) (hpD S (dV (kF L ord S.length))) (Rn (jM L ord (S.length+1)) (cW (S++[s])))) (Q (.exit 0) (fY L ord S.length) (cW S)):=
 match S,h with
 | [],_=>RE ..
 | [s0],_=>RF ..
 | [s0,s1],_=>RH ..
 | [s0,s1,s2],_=>RK ..
 | [s0,s1,s2,s3],_=>RM ..
 | _::_::_::_::_::_,h=>by simp only [iV] at h;omega
theorem ve {S:List Se} (hn:S≠[]) (h:S.length≤4) (q0 q1:Int) (K:PV→Prop):wT e aW aE aN aL L ord PP PQ (fY L ord S.length) (cW S) q0 q1 K=PP (jM L ord 0) (cW []) (PQ (iH L S.length) (cG S) (∀ _:Hp,K (kQ q0 q1))):=
 match S,hn,h with
 | [],hn,_=>absurd rfl hn
 | [s0],_,_=>RG ..
 | [s0,s1],_,_=>RJ ..
 | [s0,s1,s2],_,_=>RL ..
 | [s0,s1,s2,s3],_,_=>RN ..
 | _::_::_::_::_::_,_,h=>by simp only [iV] at h;omega
end
section
variable {e:Es} {L:Int} {Lc ord:List PV}
theorem vf (_:EG e):LpOk (bM (E e)) (E e) (xF e) [] (bP pH):=bC (by kernel_rfl)
def Sf (Lc ord:List PV) (S:List Se) (c:Ck) (k:Nat) (F:aB) (H:Hp):Prop:=∃ i,i≤c.dens.length∧c.dens.length<i+k∧F=jL Lc ord S.length (aA c.dens) c.dens.length (i:Int)∧H=hpD S (sD c i)
theorem vg {S:List Se} (hS:S.length≤3) {c:Ck} (h:cT L c) {Q:Ex→aB→Hp→Prop} (hQ:Q (.exit 2) (fW Lc ord S.length (aA c.dens) c.dens.length c.dens.length) (hpD S (sD c c.dens.length))) (n:Nat) (F:aB) (H:Hp) (hs:Sf Lc ord S c (n+1) F H) :
  WC (E e) (jK (Af e) 4) (xF e) [] bX (bP pH) F H (QG (bP pH) H.length (Sf Lc ord S c n) Q):=by
 obtain ⟨i,h1,h2,e1,e2⟩:=hs;have l2:=h.1.l2;have l1:=h.1.l1;rw [e1,e2];refine (vb e kP lA eW jX Lc ord _ Q hS _ _ _ _).mpr ?_
 by_cases c':i<c.dens.length
 ·rw [cL (by omega),va h c'];exact ⟨i+1,c',by omega,by rw [fR (by omega) (by omega)];rfl,rfl⟩
 ·have:i=c.dens.length:=by omega
  subst this;rw [cN (by omega)];exact hQ
theorem vh (he:EG e) {S:List Se} (hS:S.length≤3) {c:Ck} (h:cT L c) {Q:Ex→aB→Hp→Prop} (hQ:Q (.exit 2) (fW Lc ord S.length (aA c.dens) c.dens.length c.dens.length) (hpD S (sD c c.dens.length))) :
  bU (bM (E e)) (.lG 5508400 (bP pH)) (jL Lc ord S.length (aA c.dens) c.dens.length 0) (hpD S (sD c 0)) Q:=
 bU.introQ (aJ.uni _) (eF (HI e he) 4) (by kernel_rfl) (vf he) (Sf Lc ord S c) (fun F H h=>by obtain ⟨i,h1,h2,_⟩:=h;omega) (vg hS h hQ) (c.dens.length+1) _ _ ⟨0,gV _,by omega,rfl,rfl⟩
def KP (L:Int) (Lc ord:List PV) (cs:List Ck):Prop:=ord.length=cs.length∧∀ j,j<cs.length→aG zI (ord.getD j .nils)=true∧0≤Ce ord j∧Ce ord j<Lc.length∧kF Lc ord j=lE (cs.getD j default)∧cT L (cs.getD j default)
def lL (cs:List Ck):List Se:=cs.map fun c=>sD c c.dens.length
def KQ (Lc ord:List PV) (cs:List Ck) (k:Nat) (F:aB) (H:Hp):Prop:=∃ j,j≤cs.length∧cs.length<j+k∧F=jM Lc ord j∧H=cW (lL (cs.take j))
theorem vi (cs:List Ck) (j:Nat) (h:j≤cs.length):(lL (cs.take j)).length=j:=by unfold lL;rw [mC,kR];omega
theorem vk (he:EG e) {cs:List Ck} (ho:KP L Lc ord cs) (h4:cs.length≤4) {Q:Ex→aB→Hp→Prop} (hQ:Q (.exit 0) (fY Lc ord cs.length) (cW (lL cs))) (n:Nat) (F:aB) (H:Hp) (hs:KQ Lc ord cs (n+1) F H) :
  cR (bM (E e)) (aZ (bP oA)) F H (QG (bP oA) H.length (KQ Lc ord cs n) Q):=by
 obtain ⟨j,h1,h2,e1,e2⟩:=hs;rw [e1,e2];obtain ⟨o1,o2⟩:=ho;have hl:=vi cs j h1;let c:=cs.getD j default;have hst:=vc e kP lA eW jX Lc ord (KQ Lc ord cs n) Q (fun F H X=>(j<cs.length∧F=jL Lc ord (lL (cs.take j)).length (aA c.dens) c.dens.length 0∧H=hpD (lL (cs.take j)) (sD c 0))∧X) (S:=lL (cs.take j)) (by omega) (aA c.dens) c.dens.length c.dens.length (sD c c.dens.length);rw [hl] at hst;have hlp:LpOk (bM (E e)) (E e) (ZA (fun F H X=>(j<cs.length∧F=jL Lc ord j (aA c.dens) c.dens.length 0∧H=hpD (lL (cs.take j)) (sD c 0))∧X) (fW Lc ord j (aA c.dens) c.dens.length c.dens.length) (hpD (lL (cs.take j)) (sD c c.dens.length))) [] (bP oA):=
  fI (l:=[(5508400,.lG 5508400 (bP pH))]) ⟨fun F H Q h=>by
   obtain ⟨⟨hj,rfl,rfl⟩,hQ⟩:=h;obtain ⟨_,_,_,_,hc⟩:=o2 j hj;have:=vh (Lc:=Lc) (ord:=ord) he (S:=lL (cs.take j)) (by omega) hc (Q:=Q) (by rw [hl];exact hQ);rw [hl] at this;exact this,trivial⟩ (by kernel_rfl)
 refine qH (bP oA) (bM (E e)) (aJ.uni _) (eF (HI e he) 4) bF.flat [] bX (dB.no _ _) hlp _ _ _ ?_;refine hst.mpr ?_;unfold Cf
 by_cases hj:j<cs.length
 ·obtain ⟨p1,p2,p3,p4,p5⟩:=o2 j hj;rw [cL (by omega),aO (by omega),cX,sK p1,aO p2,aO p3,p4];show asr (aG zK (lE c)) _;rw [dU];refine ⟨⟨hj,?_,rfl⟩,j+1,hj,by omega,rfl,?_⟩
  ·show jL Lc ord j (aA c.dens) ((aA c.dens).length:Nat) 0=_;rw [cP]
  ·congr 1;unfold lL;rw [List.take_add_one,List.map_append];congr 1;show _=map _ (cs[j]?).toList;rw [cB hj];have:c=cs[j]:=by show cs.getD j default=_;rw [dO,cB hj];rfl
   rw [← this];rfl
 ·have:j=cs.length:=by omega
  subst this;rw [cN (by omega)];rw [List.take_length];exact hQ
theorem vl (he:EG e) {cs:List Ck} (ho:KP L Lc ord cs) (h4:cs.length≤4) {Q:Ex→aB→Hp→Prop} (hQ:Q (.exit 0) (fY Lc ord cs.length) (cW (lL cs))) :
  bU (bM (E e)) (.lG 5508401 (bP oA)) (jM Lc ord 0) (cW []) Q:=
 bU.introP (KQ Lc ord cs) (fun F H h=>by obtain ⟨i,h1,h2,_⟩:=h;omega) (vk he ho h4 hQ) (cs.length+1) _ _ ⟨0,gV _,by omega,rfl,rfl⟩
end
theorem vm (PP PQ:aB→Hp→Prop→Prop) (F1:aB) (H1:Hp) (q0 q1:Int) (G F:aB) (H:Hp) (Q:Ex→aB→Hp→Prop) (h:KL PP PQ F1 H1 q0 q1 31735400 G F H Q):False:=h
theorem vo {e:Es} (he:EG e) (PP PQ:aB→Hp→Prop→Prop) (F1:aB) (H1:Hp) (q0 q1:Int):SEOk (bM (E e)) ⟨E e,KK kP lA eW jX,yhi [(Dr,mM DO),(Dw,mM DP),(Dx,mM DQ)],KL PP PQ F1 H1 q0 q1,fun _=>none⟩:=
 bN (aJ.uni _) ⟨Et e he,Qr e he,Qu e he,Qw e he,trivial⟩
 ⟨⟨by kernel_rfl,by kernel_rfl,by kernel_rfl,fun as=>kW (by kernel_rfl) _,he.num _ (by kernel_rfl),by kernel_rfl,fI (l:=[(31735400,.loop 31735400 (bP JG))]) ⟨fun F H Q h=>(vm _ _ _ _ _ _ _ _ _ _ h).elim,trivial⟩ (by kernel_rfl)⟩,
  ⟨by kernel_rfl,by kernel_rfl,by kernel_rfl,fun as=>kW (by kernel_rfl) _,he.num _ (by kernel_rfl),by kernel_rfl,bC (by kernel_rfl)⟩,
  ⟨by kernel_rfl,by kernel_rfl,by kernel_rfl,fun as=>kW (by kernel_rfl) _,he.num _ (by kernel_rfl),by kernel_rfl,bC (by kernel_rfl)⟩,trivial⟩ he.ok
theorem ZU {L:Int}:∀ {cs:List Ck} {x:Ln},(∀ c∈cs,cT L c)→x.p 0=0→gO L (cs.map fun c=>(c,0,0)) x 0
 | [],_,_,_=>trivial
 | c::cs,x,h,hx=>by
  have hc:=h c (gT ..);have l1:=hc.1.l1;have l2:=hc.1.l2;have hp:0<c.dens.length:=by have:=hc.1.2.1;have:=hc.1.2.2;omega
  have e:=KD (x:=x) (c:=c) (f:=0) (t:=0) (den_pos hc hp) 0;have u:cV c 0=0:=rfl;rw [hx,BY hc,u] at e;have hd:=den_pos hc hp;have z:(cF c 0 0 x).p 0=0:=by
   have:aM c 0*(cF c 0 0 x).p 0=0:=by grind
   rcases Rat.mul_eq_zero.1 this with k|k
   ·grind
   ·exact k
  have s:=HA hc hp;rw [BY hc] at s;exact ⟨hc,hp,hp,by rw [hx,BY hc];exact dP,by rw [hx];exact s,by show aF c 0≤(cF c 0 0 x).p 0;rw [z,BY hc];exact dP,by show (cF c 0 0 x).p 0<aF c (0+1);rw [z];exact s,ZU (fun d hd=>h d (fH _ hd)) z⟩
theorem vp {L:Int} {c0 d0 Lr ord:List PV} {cs:List Ck} (hn:cs≠[]) (h4:cs.length≤4) (hL:∀ c∈cs,c.len=L) (ho:KP L (L1 L c0 d0 Lr) ord cs) :
  ∃ q,FinS L cs q∧small q∧∀ e,EG e→oW (E e) rU [.data (L1 L c0 d0 Lr),.data ord] (kQ q.num q.den):=by
 have hok:∀ c∈cs,cT L c:=fun c hc=>by
  obtain ⟨j,hj,rfl⟩:=List.getElem_of_mem hc;obtain ⟨_,_,_,_,h⟩:=ho.2 j hj;rw [dO,cB hj] at h;exact h
 have hLb:0≤L∧L≤1000:=by obtain ⟨c,hc⟩:=List.exists_mem_of_ne_nil cs hn;have:=(hok c hc).1.len0;have h1:=(uA (hok c hc).1).2;have:L≤1000:=iT.1 h1;omega
 let S0:List Sq:=cs.map fun c=>(c,0,0)
 have hS0:S0.map (·.1)=cs:=by show map _ (map _ _)=_;rw [List.map_map];exact List.map_id' cs
 have hl0:S0.length=cs.length:=mC ..;have hR:RI L S0 0:=⟨ZU hok (Cb 0),dP,fun k=>hn (List.map_eq_nil_iff.1 k)⟩;obtain ⟨q,hq,hF⟩:=ZS (n:=kB S0+1) hR (by omega);rw [hS0] at hF;have hsm:small q:=by
  have key:∀ {n:Nat} {S:List Sq} {q0:Rat},S.map (·.1)=cs→RI L S q0→runN L n S=some q→small q:=by
   intro n;induction n with
   | zero=>intro S q0 _ _ h;cases h
   | succ n ih=>
     intro S q0 e1 hi h;have hl:S.length=cs.length:=by rw [← e1,mC]
     have hS:∀ s∈S,kG L s:=fun s hs=>by
      obtain ⟨a,b,c⟩:=hi.1.all s hs;exact ⟨a,hL _ (by rw [← e1];exact List.mem_map_of_mem hs),b,c⟩
     have r:=(ZN hS hi.2.2 (by omega) hLb (Lr:=[]) (fun _ _ _ _ _=>True)).2.2;obtain ⟨_,r2⟩:=round hi
     by_cases c:eK L S=kC L S
     ·rw [runN,Sy c] at h;have:eK L S=q:=Option.some.inj h;rw [← this];exact r
     ·rw [runN,Sz c] at h;exact ih (by rw [HC];exact e1) (r2 c).1 h
  exact key hS0 hR hq
 refine ⟨q,hF,hsm,fun e he=>?_⟩;have hE:cG (S0.map cH)=cG (lL cs):=by
  congr 1;show map _ (map _ _)=map _ _;rw [List.map_map];exact List.map_congr_left fun c hc=>(uz (hok c hc)).symm
 have hls:(lL cs).length=cs.length:=mC ..;have hT:=ve e kP lA eW jX (L1 L c0 d0 Lr) ord (fun F H X=>(F=jM (L1 L c0 d0 Lr) ord 0∧H=cW [])∧X) (fun F H X=>(F=iH (L1 L c0 d0 Lr) cs.length∧H=cG (lL cs))∧X) (S:=lL cs) (fun k=>hn (List.map_eq_nil_iff.1 k)) (by omega) q.num q.den (fun r=>r=kQ q.num q.den);rw [hls] at hT;have hlp:LpOk (bM (E e)) (E e) (KL (fun F H X=>(F=jM (L1 L c0 d0 Lr) ord 0∧H=cW [])∧X) (fun F H X=>(F=iH (L1 L c0 d0 Lr) cs.length∧H=cG (lL cs))∧X) (fY (L1 L c0 d0 Lr) ord cs.length) (cW (lL cs)) q.num q.den) [] (mM GG).body:=
  fI (l:=[(5508400,.lG 5508400 (bP pH)),(5508401,.lG 5508401 (bP oA)),(5508402,.lG 5508402 (bP JI)),(5508403,.lG 5508403 (qS JJ)),(5508404,.lG 5508404 (bP fQ))])
   ⟨fun F H Q h=>False.elim h,
    fun F H Q h=>by
     obtain ⟨⟨rfl,rfl⟩,hQ⟩:=h;exact vl he ho h4 hQ,
    fun F H Q h=>False.elim h,fun F H Q h=>False.elim h,
    fun F H Q h=>by
     obtain ⟨⟨rfl,rfl⟩,hQ⟩:=h;exact uw he hL h4 hLb hQ (n:=kB S0+1) ⟨S0,0,hS0,by rw [hl0],hE.symm,hR,hq⟩,trivial⟩ (by kernel_rfl)
 obtain ⟨r,hr,ha⟩:=Vf (vo he _ _ _ _ q.num q.den) (d:=4) (fn:=mM GG) (n:=rU) bF.flat hlp (by kernel_rfl) (by kernel_rfl) (fun as=>kW (by kernel_rfl) _) (he.num _ (by kernel_rfl)) (hT.mpr ⟨⟨rfl,rfl⟩,⟨rfl,rfl⟩,fun _=>rfl⟩);rw [hr] at ha;exact ha
theorem cT.bd {L:Int} {c:Ck} (h:cT L c) {x y:Rat} (x0:0≤x) (x1:x≤(L:Rat)) (y0:0≤y) (y1:y≤(L:Rat)):iS c x≤iS c y↔x≤y:=Zb h.1 h.2 x0 x1 y0 y1
theorem vq {L:Int} {c:Ck} (h:cT L c) {q r:Rat} (hqr:q<r):q*bJ c<r*bJ c:=by have:=Cm hqr (oD h);exact this
theorem Ch.lt {L:Int} {q r:Rat} (hq:0≤q) (hqr:q<r):∀ {cs:List Ck} {p p':Rat} {xs ys:List Rat},(∀ c∈cs,cT L c)→0≤p→p≤p'→p'≤(L:Rat)→Ch L cs p q xs→Ch L cs p' r ys→∀ a b,xs.getLast?=some a→ys.getLast?=some b→a<b
 | [],_,_,_,_,_,_,_,_,hx,_,a,b,ha,_=>by have:_=[]:=hx;rw [this] at ha;cases ha
 | c::cs,p,p',xs,ys,hok,p0,pp,pL,⟨x,rx,ex,x1,x2,x3,hx⟩,⟨y,ry,ey,y1,y2,y3,hy⟩,a,b,ha,hb=>by
  subst ex ey;have hc:=hok c (gT ..);have m:=(hc.bd p0 (cY pp pL) (cY p0 pp) pL).2 pp;have t:=vq hc hqr;have hxy:x<y:=by
   refine Rat.not_le.1 fun k=>?_
   have:=(hc.bd (cY (cY p0 pp) y1) y2 (cY p0 x1) x2).2 k;grind
  cases cs with
  | nil=>
   have e1:rx=[]:=hx;have e2:ry=[]:=hy;subst e1 e2
   cases ha;cases hb
   exact hxy
  | cons d cs =>obtain ⟨x',rx',e1,k1⟩:=hx;obtain ⟨y',ry',e2,k2⟩:=hy;subst e1 e2;rw [List.getLast?_cons_cons] at ha hb;exact Ch.lt hq hqr (fun e he=>hok e (fH _ he)) (cY p0 x1) (dE hxy) y2 ⟨x',rx',rfl,k1⟩ ⟨y',ry',rfl,k2⟩ a b ha hb
theorem FinS.uniq {L:Int} {cs:List Ck} {q r:Rat} (hok:∀ c∈cs,cT L c) (hL:(0:Rat)≤(L:Rat)) (hq:FinS L cs q) (hr:FinS L cs r):q=r:=by
 obtain ⟨q0,xs,hx,lx⟩:=hq;obtain ⟨r0,ys,hy,ly⟩:=hr;rcases rtri q r with k | k | k
 ·have:=Ch.lt (dE q0) k hok dP dP hL hx hy _ _ lx ly;grind
 ·exact k
 ·have:=Ch.lt (dE r0) k hok dP dP hL hy hx _ _ ly lx;grind
def endM (q:Rat):List Ck→Rat→Except Int (List Rat)
 | [],_=>.ok []
 | c::cs,p=>if small (q*bJ c) then (match mrkC c.cuts c.dens p (q*bJ c) with
  | .ok y=>(match endM q cs y with | .ok l=>.ok (y::l) | .error e=>.error e)
  | .error e=>.error e) else .error 16
theorem KR {cuts dens:List Int}:∀ (r i:Nat) (p v:Rat) {e:Int},mrkS cuts dens r i p v=.error e→e=16∨e=6
 | 0,_,_,_,_,h=>by cases h;exact .inr rfl
 | r+1,i,p,v,e,h=>by
  unfold mrkS at h;have fe:∀ {q:Rat} {k:Rat→Except Int Rat},jY q k=.error e→e=16∨k q=.error e:=by
   intro q k hf;unfold jY at hf;split at hf
   ·exact .inr hf
   ·cases hf;exact .inl rfl
  split at h
  ·exact KR r _ _ _ h
  ·split at h
   ·exact KR r _ _ _ h
   ·rcases fe h with h | h
    ·exact .inl h
    rcases fe h with h|h
    ·exact .inl h
    split at h
    ·rcases fe h with h | h
     ·exact .inl h
     exact KR r _ _ _ h
    ·rcases fe h with h | h
     ·exact .inl h
     rcases fe h with h|h
     ·exact .inl h
     cases h
theorem Si {cuts dens:List Int} {p v:Rat} {e:Int} (h:mrkC cuts dens p v=.error e):e=16∨e=6:=by
 unfold mrkC at h;split at h
 ·cases h
 ·exact KR _ _ _ _ h
theorem yvP {q:Rat}:∀ {cs:List Ck} {p:Rat} {e:Int},endM q cs p=.error e→e=16∨e=6
 | [],_,_,h=>by cases h
 | c::cs,p,e,h=>by
  unfold endM at h;split at h
  ·split at h
   ·split at h
    ·cases h
    ·rename_i hm;cases h;exact yvP hm
   ·rename_i hm;cases h;exact Si hm
  ·cases h;exact .inl rfl
theorem ZV {L:Int} {q:Rat} (hq:0≤q):∀ {cs:List Ck} {p:Rat} {ys:List Rat},(∀ c∈cs,cT L c)→0≤p→p≤(L:Rat)→endM q cs p=.ok ys→Ch L cs p q ys
 | [],_,_,_,_,_,h=>by cases h;rfl
 | c::cs,p,ys,hok,p0,p1,h=>by
  have hc:=hok c (gT ..);have hv:0≤q*bJ c:=sZ hq (dE (oD hc));unfold endM at h;split at h
  ·split at h
   ·rename_i y hm;obtain ⟨k1,k2,k3,_⟩:=KA hc.1 p0 p1 hv hm;split at h
    ·rename_i l hl
     cases h
     exact ⟨y,l,rfl,k2,k3,k1,ZV hq (fun d hd=>hok d (fH _ hd)) (cY p0 k2) k3 hl⟩
    ·cases h
   ·cases h
  ·cases h
theorem ZW {L:Int} {q r:Rat} (hq:0≤q) (hqr:q≤r):∀ {cs:List Ck} {p p':Rat} {ys:List Rat} {e:Int},(∀ c∈cs,cT L c)→0≤p→p≤p'→p'≤(L:Rat)→Ch L cs p' r ys→endM q cs p=.error e→e=16
 | [],_,_,_,_,_,_,_,_,_,h=>by cases h
 | c::cs,p,p',ys,e,hok,p0,pp,pL,⟨y,ry,ey,y1,y2,y3,hy⟩,h=>by
  have hc:=hok c (gT ..);have p1:=cY pp pL;have hT:=dE (oD hc);have hv:0≤q*bJ c:=sZ hq hT;have ht:q*bJ c≤r*bJ c:=xJ hqr hT;have m:=(hc.bd p0 p1 (cY p0 pp) pL).2 pp;have hL0:(0:Rat)≤(L:Rat):=cY p0 p1;have my:=(hc.bd (cY (cY p0 pp) y1) y2 hL0 dP).2 y2;have hrem:q*bJ c≤vX c.cuts c.dens (L:Rat)-vX c.cuts c.dens p:=by unfold iS at *;grind
  unfold endM at h;split at h
  ·split at h
   ·rename_i x hm;obtain ⟨k1,k2,k3,_⟩:=KA hc.1 p0 p1 hv hm;have hxy:x≤y:=by
     refine (hc.bd (cY p0 k2) k3 (cY (cY p0 pp) y1) y2).1 ?_;unfold iS at *;grind
    split at h
    ·cases h
    ·rename_i hl
     cases h
     exact ZW hq hqr (fun d hd=>hok d (fH _ hd)) (cY p0 k2) hxy y2 hy hl
   ·rename_i hm
    cases h
    by_cases hz:q*bJ c=0
    ·unfold mrkC at hm;rw [Sy hz] at hm;cases hm
    ·exact (tn hc.1 hc.2 p0 p1 (by grind) hrem).1 _ hm
  ·cases h;rfl
theorem ZX {q:Rat}:∀ {cs:List Ck} {p:Rat} {ys:List Rat},endM q cs p=.ok ys→ys.length=cs.length
 | [],_,_,h=>by cases h;rfl
 | c::cs,p,ys,h=>by
  unfold endM at h;split at h
  ·split at h
   ·split at h
    ·rename_i hl;cases h;simp [ZX hl]
    ·cases h
   ·cases h
  ·cases h
def hunE (c:Ck):Bool:=c.dens.all fun d=>decide (d≠0)
theorem ZY {i0:Int} {l1:List PV} {x0 x1} (l:List Int) (hl:l.length<1000000):∀ (r i n:Nat),i+r=l.length→r<n→Ek x0 x1 n i0 l1 (aA l) (i:Int)=if (l.drop i).all (fun d=>decide (d≠0))=true then x0 i0 l1 (aA l) (l.length:Int) false else x1 false
 | 0,i,n+1,hi,hn=>by unfold Ek;rw [cP,cN (by omega),nN (by omega),show (i:Int)=l.length by omega];rfl
 | r+1,i,n+1,hi,hn=>by
  unfold Ek;have e1:=fR (n:=(i:Int)+1) (by omega) (by omega);simp only [lt];rw [cP,cL (by omega),aO (by omega),aO (by omega),cX,fB (by omega),eJ (by omega),e1,lK,sI 0 (by omega)]
  by_cases c:l.getD i 0=0
  ·rw [lD c,Sz (by rw [List.all_cons,show decide (l.getD i 0≠0)=false from Os (fun k=>k c),mO];exact ES)]
  ·rw [pM c,ZY l hl r (i+1) n (by omega) (by omega)];simp only [List.all_cons,Eg c,nQ]
theorem vt {c:Ck} (hl:c.dens.length<1000000) (K:Bool→Prop):wQ c.len (aA c.cuts) (aA c.dens) K=K (hunE c):=by
 refine kj _ _ _ _ (fun K k=>?_) K;unfold wQ PZ;refine ⟨c.dens.length+1,(ZY c.dens hl c.dens.length 0 _ (by omega) (by omega)).mpr ?_⟩;rw [nP];unfold hunE at k;split
 ·rename_i h;rw [h] at k;exact k
 ·rename_i h;rw [EX.2 h] at k;exact k
def sQ (l:List Ck):Prop:=∀ i,i<l.length→(l.getD i default).cuts.length<1000000∧(l.getD i default).dens.length<1000000
def Cg (c:Ck):Bool:=decide (c.cuts.length>14)&&decide (c.cuts.length≤40)
def EF (l:List Ck):Bool:=l.any Cg||Kw l
theorem ZZ {x0 x1} (l:List Ck) (hl:l.length≤9223372036854775807):∀ (r i n:Nat),i+r=l.length→r<n→Ev wU x0 x1 n (cks l) (i:Int)=if (l.drop i).any Cg=true then x1 true else x0 (cks l) (l.length:Int) false
 | 0,i,n+1,hi,hn=>by unfold Ev;rw [iG,cN (by omega),nN (by omega),show (i:Int)=l.length by omega];rfl
 | r+1,i,n+1,hi,hn=>by
  unfold Ev;have e1:=fR (n:=(i:Int)+1) (by omega) (by omega);simp only [lt,Go.Pf.jn];rw [iG,cL (by omega),aO (by omega),aO (by omega),cX,oC (by omega),dU,Ac,cP,e1,lK,sI default (by omega),List.any_cons];have ih:=ZZ (x0:=x0) (x1:=x1) l hl r (i+1) n (by omega) (by omega);rw [ih];unfold Cg
  by_cases a:(l.getD i default).cuts.length>14
  ·rw [cL (by omega),aO (by omega),aO (by omega),dU,Eg a,nQ]
   by_cases b:(l.getD i default).cuts.length≤40
   ·rw [Eg (show (((l.getD i default).cuts.length:Nat):Int)≤40 by omega),aY,Eg b,Bool.true_or,Sy rfl]
   ·rw [Os (show ¬(((l.getD i default).cuts.length:Nat):Int)≤40 by omega),bE,Os b,Bool.false_or]
  ·rw [cN (by omega),bE,Os a,mO,Bool.false_or]
theorem vv {l:List Ck} (hl:l.length≤9223372036854775807) (K:Bool→Prop):Ew (cks l) K=K (EF l):=by
 refine pg _ _ (fun K k=>?_) K;unfold Ew QF;refine ⟨l.length+1,(ZZ l hl l.length 0 _ (by omega) (by omega)).mpr ?_⟩;rw [nP];unfold EF at k;split
 ·rename_i h;rw [h] at k;exact k
 ·rename_i h;rw [EX.2 h,Bool.false_or] at k;rw [tc (by omega)];exact k
def EH (l:List Ck):Int:=if pN l 0≠0 then pN l 0 else if l.length>4 then 4 else if l.all hunE=true then 0 else 2
theorem A0 {x0 x1} (l:List Ck) (hl:l.length≤1000000) (hw:sQ l):∀ (r i n:Nat),i+r=l.length→r<n→Ey wV wQ x0 x1 n (cks l) (i:Int)=if (l.drop i).all hunE=true then x0 (cks l) (l.length:Int) false else x1 2
 | 0,i,n+1,hi,hn=>by unfold Ey;rw [iG,cN (by omega),nN (by omega),show (i:Int)=l.length by omega];rfl
 | r+1,i,n+1,hi,hn=>by
  unfold Ey;have e1:=fR (n:=(i:Int)+1) (by omega) (by omega);simp only [lt];rw [iG,cL (by omega),aO (by omega),aO (by omega),cX,oC (by omega),dU,qQ,Ac,BU,vt (hw i (by omega)).2,e1,lK,sI default (by omega),List.all_cons];have ih:=A0 (x0:=x0) (x1:=x1) l hl hw r (i+1) n (by omega) (by omega);rw [ih]
  cases hunE (l.getD i default)
  ·rw [xT,aY,mO,Sz (by simp)]
  ·rw [Bool.not_true,bE,nQ]
theorem sQ.fin {l:List Ck} (h:sQ l):nG l:=fun i hi=>⟨by have:=(h i hi).1;omega,by have:=(h i hi).2;omega⟩
theorem A1 {l:List Ck} (hl:l.length≤1000000) (hw:sQ l) (K:Int→Prop):Ez (cks l) K=K (EH l):=by
 refine ph _ _ (fun K k=>?_) K;unfold Ez QI;rw [sw hw.fin (by omega)];unfold EH at k;show aD (pN l 0 !=0) _ _
 by_cases c:pN l 0=0
 ·rw [dM c,iG];rw [Sz (by omega)] at k
  by_cases c4:l.length>4
  ·rw [cL (by omega)];rw [Sy c4] at k;exact k
  ·rw [cN (by omega)];rw [Sz c4] at k;refine ⟨l.length+1,(A0 l hl hw l.length 0 _ (by omega) (by omega)).mpr ?_⟩;rw [nP];split
   ·rename_i h;rw [Sy h] at k;exact k
   ·rename_i h;rw [Sz h] at k;exact k
 ·rw [fA c];rw [Sy c] at k;exact k
def uF (n:Nat):List Int→List Bool→Bool
 | [],_=>true
 | a::r,had=>if a<0∨(n:Int)≤a∨had.getD a.toNat false=true then false else uF n r (had.set a.toNat true)
def xG (l:List Bool):List PV:=l.map PV.bool
theorem vw (l:List Bool):(xG l).length=l.length:=mC ..
theorem vz {l:List Bool} {i:Nat} (h:i<l.length):(xG l).getD i .nils=.bool (l.getD i false):=by unfold xG;rw [dO,dO,sW,cB h];rfl
theorem wa (l:List Bool) (i:Nat) (b:Bool):(xG l).set i (.bool b)=xG (l.set i b):=by unfold xG;rw [List.map_set]
theorem we (n:Nat) (a:Int) (r:List Int) (had:List Bool):uF n (a::r) had=if a<0∨(n:Int)≤a∨had.getD a.toNat false=true then false else uF n r (had.set a.toNat true):=rfl
def pU (n:Nat) (o:List Int):Bool:=(o.length==n)&&uF n o (replicate n false)
theorem A2 {x0 x1} (o:List Int) (hl:o.length≤1000000):∀ (r i n:Nat) (had:List Bool),i+r=o.length→r<n→had.length=o.length →
  (if uF o.length (o.drop i) had=true then ∀ h,x0 h (o.length:Int) (aA o) o.length o.length o.length (o.length:Int) false else ∀ h,x1 h false)→EA x0 x1 n (xG had) (o.length:Int) (aA o) o.length o.length o.length (i:Int)
 | 0,i,n+1,had,hi,hn,hh,k=>by unfold EA;rw [nN (by omega)] at k;rw [cN (by omega),show (i:Int)=o.length by omega];exact k _
 | r+1,i,n+1,had,hi,hn,hh,k=>by
  unfold EA;have e1:=fR (n:=(i:Int)+1) (by omega) (by omega);simp only [lt,Go.Pf.jn];rw [sI 0 (show i<o.length by omega)] at k;have eg:=we o.length (o.getD i 0) (o.drop (i+1)) had;rw [cL (by omega),cP,aO (by omega),aO (by omega),cX,fB (by omega),eJ (by omega)]
  by_cases a:o.getD i 0<0
  ·rw [cL a,aY];rw [eg.trans (Sy (.inl a)),Sz ES] at k;exact k _
  rw [cN a,aO (by omega),aO (by omega),fB (by omega)]
  by_cases b:(o.length:Int)≤o.getD i 0
  ·rw [cL (by omega),aY];rw [eg.trans (Sy (.inr (.inl b))),Sz ES] at k;exact k _
  have hb:(o.getD i 0).toNat<had.length:=by omega
  rw [cN (by omega),aO (by omega),aO (by omega),fB (by omega),aO (by omega),aO (by omega),vw,aO (by omega),aO (by omega),lF,vz hb];show asr (aG (.one .b) (.bool (had.getD (o.getD i 0).toNat false))) _;rw [show ∀ P,asr (aG (.one .b) (.bool (had.getD (o.getD i 0).toNat false))) P=P from fun _=>rfl];show aD (had.getD (o.getD i 0).toNat false) _ _
  by_cases c:had.getD (o.getD i 0).toNat false=true
  ·rw [c,aY];rw [eg.trans (Sy (.inr (.inr c))),Sz ES] at k;exact k _
  ·rw [EX.2 c,bE];rw [eg.trans (Sz (by rintro (h | h | h)<;>contradiction))] at k;rw [aO (by omega),aO (by omega),fB (by omega),aO (by omega),aO (by omega),aO (by omega),aO (by omega)];show asr (aG (.one .b) (.bool (had.getD (o.getD i 0).toNat false))) _;rw [show ∀ P,asr (aG (.one .b) (.bool (had.getD (o.getD i 0).toNat false))) P=P from fun _=>rfl,e1,lK,wa];exact A2 o hl r (i+1) n _ (by omega) (by omega) (by rw [xQ];exact hh) k
theorem wg {n:Nat} {o:List Int} (hn:n≤1000000) (K:Bool→Prop) (k:K (pU n o)):Kk n (aA o) K:=by
 unfold Kk QL;rw [cP];unfold pU at k
 by_cases c:o.length=n
 ·subst c;rw [dM rfl,aO (by omega),aO (by omega),cX,aO (by unfold room;omega)];rw [beq_self_eq_true,nQ] at k;refine ⟨o.length+1,?_⟩;have:replicate o.length ((.bool false):PV)=xG (replicate o.length false):=by unfold xG;rw [List.map_replicate]
  rw [this];refine A2 o hn o.length 0 _ _ (by omega) (by omega) (by rw [sV]) ?_;rw [nP];split
  ·rename_i h;rw [h] at k;exact fun _=>k
  ·rename_i h;rw [EX.2 h] at k;exact fun _=>k
 ·rw [fA (by omega)];rw [beq_eq_false_iff_ne.2 c,mO] at k;exact k
def HJ (l:List Ck) (o:List Int):Bool:=!EF l&&(decide (o.length≤20)&&(decide (EH l=0)&&pU l.length o))
theorem wi {l:List Ck} (h:EF l=false):sQ l∧l.length≤10:=by unfold EF at h;rw [xO] at h;obtain ⟨a,b,c⟩:=td h.2;exact ⟨fun i hi=>⟨by have:=(b i hi).1;omega,by have:=(b i hi).2;omega⟩,a⟩
def K0 (t:tJ):Env:=AM (E []) DR t
theorem HK {e:Es} {t:tJ}:AM (E e) DR t=K0 t:=by kernel_rfl
theorem A3 {e:Es} (he:EG e) (n:Nat) (hm:memN DR n=false) (as:List PV) (H:Hp):(E e).effx n as H=none:=by show uO ((E e).eff n as H)=none;rw [he.num n hm as H];rfl
def aU:List PV:=[.fn (.func Jc) [] [.ptr 0 1 0 0]]
def cO (ord:List PV):Hp:=[⟨false,true,1,[.data ord]⟩]
def dA (ord:List PV) (n:Nat):Hp:=[⟨false,true,1,[.data ord]⟩,⟨false,false,1,[.own 2 0 n n none]⟩,⟨false,true,1,(List.range n).map fun (i:Nat)=>.int .i64 (i:Int)⟩]
def iI:Nat→List (List Int)
 | 1=>[[0]]
 | 2=>[[0,1],[1,0]]
 | 3=>[[0,1,2],[0,2,1],[1,0,2],[1,2,0],[2,0,1],[2,1,0]]
 | 4=>[[0,1,2,3],[0,1,3,2],[0,2,1,3],[0,2,3,1],[0,3,1,2],[0,3,2,1],[1,0,2,3],[1,0,3,2],[1,2,0,3],[1,2,3,0],[1,3,0,2],[1,3,2,0],[2,0,1,3],[2,0,3,1],[2,1,0,3],[2,1,3,0],[2,3,0,1],[2,3,1,0],[3,0,1,2],[3,0,2,1],[3,1,0,2],[3,1,2,0],[3,2,0,1],[3,2,1,0]]
 | _=>[]
def Sj (cK:CK) (ord:List PV) (n:Nat):CK:=fun f args H K=>
 match f with
 | .fn (.func m) [] []=>bif Nat.beq m cA then (args=aU∧H=cO ord)∧K (.own 2 0 n n none) (dA ord n) else cK f args H K
 | _=>False
def Sk (S:SE) (d:Nat) (ord:List PV) (n:Nat):CK:=Sj (jK S d) ord n
section
variable (e:Es) (aC:kO)
def EI:SE:=⟨E e,yki [(AN,kY.pw aC)],yhi [(MD,mM Ni)],fun _ _ _ _ _=>False,fun _=>none⟩
def Sl (ord:List PV) (n:Nat):LP:=fun id _ F H Q=>bif Nat.beq id 54010400 then UE (E e) (Sk (EI e aC) 2 ord n) (fun _ _ _ _ _=>False) (qS Nk) 6 F H Q else False
def EJ:TC→TC
 | .ops l an ps fg=>.ops l (Rv an) ps fg
 | .seq a b=>.seq (EJ a) (EJ b)
 | .cond c a b=>.cond c (EJ a) (EJ b)
 | .block i b=>.block i (EJ b)
 | .loop i b=>.loop i (qS b)
 | c=>c
def Sm (t:TFn):TFn:=⟨t.nparams,t.results,EJ t.body⟩
def EK (L ord:List PV) (n:Nat) (K:PV→Prop):Prop:=IL (E e) (Sk (EI e aC) 2 ord n) (Sl e aC ord n) (Sm Gv) [.data L,.data ord] [] fun r _=>K r
def HL (L ord:List PV) (K:PV→Prop):Prop:=aC L fun i=>aD (i !=0) (K (.int .i64 i)) ((aU=aU∧cO ord=cO ord)∧K (.int .i64 0))
theorem Sn (l0 o0:PV) (K:PV→Prop):EK e aC [l0] [o0] 1 K=HL aC [l0] [o0] K:=by kernel_rfl
theorem So (l0 l1 o0 o1:PV) (K:PV→Prop):EK e aC [l0,l1] [o0,o1] 2 K=HL aC [l0,l1] [o0,o1] K:=by kernel_rfl
theorem Sp (l0 l1 l2 o0 o1 o2:PV) (K:PV→Prop):EK e aC [l0,l1,l2] [o0,o1,o2] 3 K=HL aC [l0,l1,l2] [o0,o1,o2] K:=by kernel_rfl
theorem Sr (l0 l1 l2 l3 o0 o1 o2 o3:PV) (K:PV→Prop):EK e aC [l0,l1,l2,l3] [o0,o1,o2,o3] 4 K=HL aC [l0,l1,l2,l3] [o0,o1,o2,o3] K:=by kernel_rfl
end
theorem wj:yak (K0 []) 300 cA aU (cO (aA [0]))=some (.own 2 0 1 1 none,dA (aA [0]) 1):=by kernel_rfl
theorem Ss {o:List Int} (h:o∈iI 1):yak (K0 []) 300 cA aU (cO (aA o))=some (.own 2 0 1 1 none,dA (aA o) 1):=by simp only [iI,qAp,List.not_mem_nil,or_false] at h;subst h;exact wj
theorem wk:yak (K0 []) 300 cA aU (cO (aA [0,1]))=some (.own 2 0 2 2 none,dA (aA [0,1]) 2):=by kernel_rfl
theorem wn:yak (K0 []) 300 cA aU (cO (aA [1,0]))=some (.own 2 0 2 2 none,dA (aA [1,0]) 2):=by kernel_rfl
theorem Su {o:List Int} (h:o∈iI 2):yak (K0 []) 300 cA aU (cO (aA o))=some (.own 2 0 2 2 none,dA (aA o) 2):=by
 simp only [iI,qAp,List.not_mem_nil,or_false] at h;rcases h with rfl | rfl
 ·exact wk
 ·exact wn
theorem wo:yak (K0 []) 300 cA aU (cO (aA [0,1,2]))=some (.own 2 0 3 3 none,dA (aA [0,1,2]) 3):=by kernel_rfl
theorem wq:yak (K0 []) 300 cA aU (cO (aA [0,2,1]))=some (.own 2 0 3 3 none,dA (aA [0,2,1]) 3):=by kernel_rfl
theorem ws:yak (K0 []) 300 cA aU (cO (aA [1,0,2]))=some (.own 2 0 3 3 none,dA (aA [1,0,2]) 3):=by kernel_rfl
theorem wt:yak (K0 []) 300 cA aU (cO (aA [1,2,0]))=some (.own 2 0 3 3 none,dA (aA [1,2,0]) 3):=by kernel_rfl
theorem wu:yak (K0 []) 300 cA aU (cO (aA [2,0,1]))=some (.own 2 0 3 3 none,dA (aA [2,0,1]) 3):=by kernel_rfl
theorem ww:yak (K0 []) 300 cA aU (cO (aA [2,1,0]))=some (.own 2 0 3 3 none,dA (aA [2,1,0]) 3):=by kernel_rfl
theorem Sv {o:List Int} (h:o∈iI 3):yak (K0 []) 300 cA aU (cO (aA o))=some (.own 2 0 3 3 none,dA (aA o) 3):=by
 simp only [iI,qAp,List.not_mem_nil,or_false] at h;rcases h with rfl | rfl | rfl | rfl | rfl | rfl
 ·exact wo
 ·exact wq
 ·exact ws
 ·exact wt
 ·exact wu
 ·exact ww
theorem wx:yak (K0 []) 300 cA aU (cO (aA [0,1,2,3]))=some (.own 2 0 4 4 none,dA (aA [0,1,2,3]) 4):=by kernel_rfl
theorem wy:yak (K0 []) 300 cA aU (cO (aA [0,1,3,2]))=some (.own 2 0 4 4 none,dA (aA [0,1,3,2]) 4):=by kernel_rfl
theorem wz:yak (K0 []) 300 cA aU (cO (aA [0,2,1,3]))=some (.own 2 0 4 4 none,dA (aA [0,2,1,3]) 4):=by kernel_rfl
theorem xa:yak (K0 []) 300 cA aU (cO (aA [0,2,3,1]))=some (.own 2 0 4 4 none,dA (aA [0,2,3,1]) 4):=by kernel_rfl
theorem xb:yak (K0 []) 300 cA aU (cO (aA [0,3,1,2]))=some (.own 2 0 4 4 none,dA (aA [0,3,1,2]) 4):=by kernel_rfl
theorem xc:yak (K0 []) 300 cA aU (cO (aA [0,3,2,1]))=some (.own 2 0 4 4 none,dA (aA [0,3,2,1]) 4):=by kernel_rfl
theorem xd:yak (K0 []) 300 cA aU (cO (aA [1,0,2,3]))=some (.own 2 0 4 4 none,dA (aA [1,0,2,3]) 4):=by kernel_rfl
theorem xe:yak (K0 []) 300 cA aU (cO (aA [1,0,3,2]))=some (.own 2 0 4 4 none,dA (aA [1,0,3,2]) 4):=by kernel_rfl
theorem xf:yak (K0 []) 300 cA aU (cO (aA [1,2,0,3]))=some (.own 2 0 4 4 none,dA (aA [1,2,0,3]) 4):=by kernel_rfl
theorem xg:yak (K0 []) 300 cA aU (cO (aA [1,2,3,0]))=some (.own 2 0 4 4 none,dA (aA [1,2,3,0]) 4):=by kernel_rfl
theorem xh:yak (K0 []) 300 cA aU (cO (aA [1,3,0,2]))=some (.own 2 0 4 4 none,dA (aA [1,3,0,2]) 4):=by kernel_rfl
theorem xi:yak (K0 []) 300 cA aU (cO (aA [1,3,2,0]))=some (.own 2 0 4 4 none,dA (aA [1,3,2,0]) 4):=by kernel_rfl
theorem xj:yak (K0 []) 300 cA aU (cO (aA [2,0,1,3]))=some (.own 2 0 4 4 none,dA (aA [2,0,1,3]) 4):=by kernel_rfl
theorem xk:yak (K0 []) 300 cA aU (cO (aA [2,0,3,1]))=some (.own 2 0 4 4 none,dA (aA [2,0,3,1]) 4):=by kernel_rfl
theorem xl:yak (K0 []) 300 cA aU (cO (aA [2,1,0,3]))=some (.own 2 0 4 4 none,dA (aA [2,1,0,3]) 4):=by kernel_rfl
theorem xm:yak (K0 []) 300 cA aU (cO (aA [2,1,3,0]))=some (.own 2 0 4 4 none,dA (aA [2,1,3,0]) 4):=by kernel_rfl
theorem xn:yak (K0 []) 300 cA aU (cO (aA [2,3,0,1]))=some (.own 2 0 4 4 none,dA (aA [2,3,0,1]) 4):=by kernel_rfl
theorem xo:yak (K0 []) 300 cA aU (cO (aA [2,3,1,0]))=some (.own 2 0 4 4 none,dA (aA [2,3,1,0]) 4):=by kernel_rfl
theorem xp:yak (K0 []) 300 cA aU (cO (aA [3,0,1,2]))=some (.own 2 0 4 4 none,dA (aA [3,0,1,2]) 4):=by kernel_rfl
theorem xq:yak (K0 []) 300 cA aU (cO (aA [3,0,2,1]))=some (.own 2 0 4 4 none,dA (aA [3,0,2,1]) 4):=by kernel_rfl
theorem xr:yak (K0 []) 300 cA aU (cO (aA [3,1,0,2]))=some (.own 2 0 4 4 none,dA (aA [3,1,0,2]) 4):=by kernel_rfl
theorem xt:yak (K0 []) 300 cA aU (cO (aA [3,1,2,0]))=some (.own 2 0 4 4 none,dA (aA [3,1,2,0]) 4):=by kernel_rfl
theorem xu:yak (K0 []) 300 cA aU (cO (aA [3,2,0,1]))=some (.own 2 0 4 4 none,dA (aA [3,2,0,1]) 4):=by kernel_rfl
theorem xw:yak (K0 []) 300 cA aU (cO (aA [3,2,1,0]))=some (.own 2 0 4 4 none,dA (aA [3,2,1,0]) 4):=by kernel_rfl
theorem Sw {o:List Int} (h:o∈iI 4):yak (K0 []) 300 cA aU (cO (aA o))=some (.own 2 0 4 4 none,dA (aA o) 4):=by
 simp only [iI,qAp,List.not_mem_nil,or_false] at h;rcases h with rfl | rfl | rfl | rfl | rfl | rfl | rfl | rfl | rfl | rfl | rfl | rfl | rfl | rfl | rfl | rfl | rfl | rfl | rfl | rfl | rfl | rfl | rfl | rfl
 ·exact wx
 ·exact wy
 ·exact wz
 ·exact xa
 ·exact xb
 ·exact xc
 ·exact xd
 ·exact xe
 ·exact xf
 ·exact xg
 ·exact xh
 ·exact xi
 ·exact xj
 ·exact xk
 ·exact xl
 ·exact xm
 ·exact xn
 ·exact xo
 ·exact xp
 ·exact xq
 ·exact xr
 ·exact xt
 ·exact xu
 ·exact xw
theorem xx {n:Nat} {o:List Int} (h:o∈iI n):yak (K0 []) 300 cA aU (cO (aA o))=some (.own 2 0 n n none,dA (aA o) n):=
 match n,h with
 | 0,h=>by cases h
 | 1,h=>Ss h
 | 2,h=>Su h
 | 3,h=>Sv h
 | 4,h=>Sw h
 | _+5,h=>by cases h
theorem A4:∀ {n:Nat} {o:List Int},o∈iI n→o.length=n∧1≤n∧n≤4
 | 0,_,h=>by cases h
 | 1,o,h=>by
  have:∀ o∈iI 1,o.length=1:=by decide
  exact ⟨this o h,by decide,by decide⟩
 | 2,o,h=>by
  have:∀ o∈iI 2,o.length=2:=by decide
  exact ⟨this o h,by decide,by decide⟩
 | 3,o,h=>by
  have:∀ o∈iI 3,o.length=3:=by decide
  exact ⟨this o h,by decide,by decide⟩
 | 4,o,h=>by
  have:∀ o∈iI 4,o.length=4:=by decide
  exact ⟨this o h,by decide,by decide⟩
 | _+5,_,h=>by cases h
section
variable {e:Es}
theorem xy {aC:kO} {L ord:List PV} (hl:L.length=ord.length) (h1:1≤ord.length) (h4:ord.length≤4) (K:PV→Prop):EK e aC L ord ord.length K=HL aC L ord K:=
 match L,ord,hl,h1,h4 with
 | _,[],_,h1,_=>by cases h1
 | [l0],[o0],_,_,_=>Sn ..
 | [l0,l1],[o0,o1],_,_,_=>So ..
 | [l0,l1,l2],[o0,o1,o2],_,_,_=>Sp ..
 | [l0,l1,l2,l3],[o0,o1,o2,o3],_,_,_=>Sr ..
 | _,_::_::_::_::_::_,_,_,h=>by simp only [iV] at h;omega
theorem xz (he:EG e):SEOk (bM (E e)) (EI e oB):=bN (aJ.uni _) ⟨Qn e he,trivial⟩
 ⟨⟨by kernel_rfl,by kernel_rfl,by kernel_rfl,fun as=>kW (by kernel_rfl) _,he.num _ (by kernel_rfl),by kernel_rfl,bC (by kernel_rfl)⟩,trivial⟩ he.ok
theorem ya {cK:CK} (hG:Good (gH (E e)) cK) {ord:List PV} {n:Nat} (hk:∃ m0,∀ k x m,m0≤k→gH (E e) k x→m0≤m→yak x m cA aU (cO ord)=some (.own 2 0 n n none,dA ord n)):Good (gH (E e)) (Sj cK ord n):=by
 intro f args H K h;unfold Sj at h;split at h
 ·rename_i m
  cases hb:Nat.beq m cA with
  | false =>rw [hb,cond_false] at h;exact hG _ _ _ _ h
  | true=>
   rw [hb,cond_true] at h;obtain rfl:=fD hb;obtain ⟨⟨rfl,rfl⟩,h⟩:=h;obtain ⟨m0,hm⟩:=hk;refine ⟨_,_,h,m0,fun k x m h1 h2 h3=>?_⟩;have h2':x=E e:=h2;have:=hm k x m h1 h2 h3;subst h2';have e0:∀ as,yaN (E e) (yak (E e) m) cA as=none:=by
    intro as;simp only [yaN];have hs:(E e).sum cA as=none:=kW (by kernel_rfl) as;rw [hs,show (E e).qui cA=false from by kernel_rfl];rfl
   have hx:yhC (E e) (.fn (.func cA) [] []) aU=none:=by kernel_rfl
   rw [FK hx];have hfz:(E e).frz cA=false:=by kernel_rfl
   have hrb:(E e).rb cA=false:=by kernel_rfl
   have hqu:(E e).qui cA=false:=by kernel_rfl
   simp only [mQ,e0,hfz,hrb,hqu,Al,List.append_nil]
   cases yau (cO ord) aU<;>simp only [eC,if_false,this]
 ·exact h.elim
theorem yb (he:EG e) {ord:List PV} {n:Nat} (hk:∃ m0,∀ k x m,m0≤k→gH (E e) k x→m0≤m→yak x m cA aU (cO ord)=some (.own 2 0 n n none,dA ord n)):Good (gH (E e)) (Sk (EI e oB) 2 ord n):=
 ya (eF (S:=EI e oB) (SEOk.solo (S:=EI e oB) (xz he)) 2) hk
theorem yc (he:EG e) {l:List PV} {o:List Int} (hp:o∈iI l.length) (hc:∀ K:Int→Prop,K 0→oB l K):jR (E e) oY [.data l,.data (aA o)] (.int .i64 0):=by
 obtain ⟨p1,p2,p3⟩:=A4 hp;have hlo:(aA o).length=l.length:=by rw [cP,p1]
 have hrun:=X6 (nums:=DR) (t:=[]) (A3 he) (fun x h=>by cases h) (m:=300) (n:=cA) (as:=aU) (H:=cO (aA o)) (by rw [HK];exact xx hp);have hg:=yb he hrun;have hw:=xy (e:=e) (aC:=oB) (L:=l) (ord:=aA o) (by omega) (by omega) (by omega) (fun r=>r=.int .i64 0);rw [hlo] at hw;have hw2:EK e oB l (aA o) l.length (fun r=>r=.int .i64 0):=by rw [hw];exact hc _ ⟨⟨rfl,rfl⟩,rfl⟩
 have hlp:LpOk (gH (E e)) (E e) (Sl e oB (aA o) l.length) [] (Sm Gv).body:=
  fI (l:=[(54010400,.loop 54010400 (qS Nk))]) ⟨fun F H Q h=>ZO (aJ.solo _) hg (by kernel_rfl) (bC (by kernel_rfl)) h,trivial⟩ (by kernel_rfl)
 obtain ⟨r,H',hr,m0,hm⟩:=Mv (S:=⟨E e,fun _=>none,fun _=>none,Sl e oB (aA o) l.length,fun _=>none⟩) (P:=gH (E e)) (aJ.solo _) hg (fn:=Sm Gv) bF.flat hlp (n:=oY) (by kernel_rfl) (he.num _ (by kernel_rfl)) hw2;subst hr;refine ⟨m0,fun k x m h1 h2 h3=>?_⟩;have h2':x=E e:=h2;have hmm:=hm k x m h1 h2 h3;subst h2';unfold yaN;have hs:(E e).sum oY [.data l,.data (aA o)]=none:=kW (by kernel_rfl) _;rw [hs,show (E e).qui oY=true from by kernel_rfl,hmm,show (E e).nl oY=false from by kernel_rfl];rfl
end
theorem yd:∀ {n:Nat} {o:List Int},1≤n→n≤4→pU n o=true→o∈iI n:=by
 have rng:∀ {n:Nat} {a:Int},n≤4→0≤a→a<(n:Int)→a=0∨a=1∨a=2∨a=3:=fun h h0 h1=>by omega
 have all:∀ {n:Nat} {o:List Int} {had:List Bool},uF n o had=true→∀ a∈o,0≤a∧a<(n:Int):=by
  intro n o;induction o with
  | nil=>intro _ _ a h;cases h
  | cons b o ih=>
   intro had h a ha;unfold uF at h;split at h
   ·cases h
   ·rename_i hc;rcases qAp.1 ha with rfl | ha
    ·omega
    ·exact ih h a ha
 intro n o h1 h4 h;unfold pU at h;rw [bK,beq_iff_eq] at h;obtain ⟨hl,hg⟩:=h;have ha:=all hg;obtain rfl | rfl | rfl | rfl:n=1∨n=2∨n=3∨n=4:=by omega
 ·match o,hl with
  | [a],_=>
   have:=ha a (by simp);obtain rfl:a=0:=by omega
   decide
 ·match o,hl with
  | [a,b],_=>
   have k1:=ha a (by simp);have k2:=ha b (by simp);have d:∀ a∈[(0:Int),1],∀ b∈[(0:Int),1],uF 2 [a,b] (replicate 2 false)=true→[a,b]∈iI 2:=by decide +kernel
   exact d a (by simp;omega) b (by simp;omega) hg
 ·match o,hl with
  | [a,b,c],_=>
   have k1:=ha a (by simp);have k2:=ha b (by simp);have k3:=ha c (by simp);have d:∀ a∈[(0:Int),1,2],∀ b∈[(0:Int),1,2],∀ c∈[(0:Int),1,2],uF 3 [a,b,c] (replicate 3 false)=true→[a,b,c]∈iI 3:=by decide +kernel
   exact d a (by simp;omega) b (by simp;omega) c (by simp;omega) hg
 ·match o,hl with
  | [a,b,c,d],_=>
   have k1:=ha a (by simp);have k2:=ha b (by simp);have k3:=ha c (by simp);have k4:=ha d (by simp);have z:∀ a∈[(0:Int),1,2,3],∀ b∈[(0:Int),1,2,3],∀ c∈[(0:Int),1,2,3],∀ d∈[(0:Int),1,2,3],uF 4 [a,b,c,d] (replicate 4 false)=true→[a,b,c,d]∈iI 4:=by decide +kernel
   exact z a (by simp;omega) b (by simp;omega) c (by simp;omega) d (by simp;omega) hg
theorem A5:∀ {n:Nat} {o:List Int},o∈iI n→∀ a∈o,0≤a∧a<(n:Int)
 | 0,_,h,_,_=>by cases h
 | 1,o,h,a,ha=>by
  have:∀ o∈iI 1,∀ a∈o,0≤a∧a<((1:Nat):Int):=by decide
  exact this o h a ha
 | 2,o,h,a,ha=>by
  have:∀ o∈iI 2,∀ a∈o,0≤a∧a<((2:Nat):Int):=by decide
  exact this o h a ha
 | 3,o,h,a,ha=>by
  have:∀ o∈iI 3,∀ a∈o,0≤a∧a<((3:Nat):Int):=by decide
  exact this o h a ha
 | 4,o,h,a,ha=>by
  have:∀ o∈iI 4,∀ a∈o,0≤a∧a<((4:Nat):Int):=by decide
  exact this o h a ha
 | _+5,_,h,_,_=>by cases h
structure Ft (l:List Ck) (o:List Int):Prop where
 d:DK l
 h4:l.length≤4
 hun:∀ c∈l,BW c.dens
 p:o∈iI l.length
def lnE (l:List Ck):Int:=(l.getD 0 default).len
def fC (l:List Ck) (o:List Int):List Ck:=o.map fun a=>l.getD a.toNat default
theorem Sx {l:List Ck} {o:List Int} (h:HJ l o=true):Ft l o:=by
 unfold HJ at h;simp only [bK,decide_eq_true_eq] at h;obtain ⟨_,_,hc,ho⟩:=h;unfold EH at hc
 by_cases c1:pN l 0=0
 ·rw [Sz (by omega)] at hc
  by_cases c2:l.length>4
  ·rw [Sy c2] at hc;cases hc
  ·rw [Sz c2] at hc
   by_cases c3:l.all hunE=true
   ·have hd:=(ta c1).1;have:=hd.n0;refine ⟨hd,by omega,fun c hm i hi=>?_,yd (by omega) (by omega) ho⟩;have h1:hunE c=true:=Ak.1 c3 c hm;have h2:c.dens.getD i 0≠0:=by
     have:=Ak.1 h1 (c.dens.getD i 0) (by rw [dO,cB hi];exact oJ hi);simpa using this
    obtain ⟨j,hj,rfl⟩:=List.getElem_of_mem hm;have h3:=hd.ok j hj;rw [dO,cB hj] at h3;have h3:(l[j]).ok:=h3;have:=(VC.den h3 hi).1;omega
   ·rw [Sz c3] at hc;cases hc
 ·rw [Sy c1] at hc;exact absurd hc c1
section
variable {l:List Ck} {o:List Int}
theorem Ft.okl (h:Ft l o):∀ c∈l,cT (lnE l) c∧c.len=lnE l:=fun c hc=>by obtain ⟨j,hj,rfl⟩:=List.getElem_of_mem hc;have h1:=h.d.ok j hj;have h2:=h.d.len j hj;rw [dO,cB hj] at h1 h2;have h3:(l[j]).len=lnE l:=h2;refine ⟨⟨?_,h.hun _ hc⟩,h3⟩;rw [← h3];exact h1
theorem Ft.mem (h:Ft l o):∀ c∈fC l o,c∈l:=fun c hc=>by
 obtain ⟨a,ha,rfl⟩:=List.mem_map.1 hc;have:=A5 h.p a ha;have hj:a.toNat<l.length:=by omega
 rw [dO,cB hj];exact oJ hj
theorem Ft.ok (h:Ft l o):∀ c∈fC l o,cT (lnE l) c:=fun c hc=>(h.okl c (h.mem c hc)).1
theorem Ft.len (h:Ft l o):∀ c∈fC l o,c.len=lnE l:=fun c hc=>(h.okl c (h.mem c hc)).2
theorem Ft.n (h:Ft l o):o.length=l.length∧1≤o.length∧o.length≤4:=by have:=A4 h.p;exact ⟨this.1,by omega,by omega⟩
theorem sR:(fC l o).length=o.length:=mC ..
theorem Ft.at_ (h:Ft l o) {j:Nat} (hj:j<o.length):0≤o.getD j 0∧(o.getD j 0).toNat<l.length∧o.getD j 0<l.length∧(fC l o).getD j default=l.getD (o.getD j 0).toNat default:=by
 have hm:o.getD j 0∈o:=by rw [dO,cB hj];exact oJ hj
 have:=A5 h.p _ hm;refine ⟨this.1,by omega,this.2,?_⟩;unfold fC;rw [dO,sW,dO (l:=o),cB hj];rfl
theorem Ft.ord (h:Ft l o):KP (lnE l) (cks l) (aA o) (fC l o):=by
 refine ⟨by rw [cP,sR],fun j hj=>?_⟩;rw [sR] at hj;obtain ⟨a1,a2,a3,a4⟩:=h.at_ hj;have ea:Ce (aA o) j=o.getD j 0:=by
  unfold Ce;rw [cX,eJ hj]
 refine ⟨Ab hj,by rw [ea];exact a1,by rw [ea,iG];exact a3,?_,?_⟩
 ·unfold kF;rw [ea,a4,oC a2]
 ·rw [a4];refine (h.okl _ ?_).1;rw [dO,cB a2];exact oJ a2
theorem Ft.L1 (h:Ft l o):∃ c0 d0 Lr,cks l=Go.Pf.Vc.L1 (lnE l) c0 d0 Lr:=by
 have:=h.d.n0
 cases l with
 | nil=>cases this
 | cons c r=>exact ⟨aA c.cuts,aA c.dens,cks r,rfl⟩
theorem Ft.part (h:Ft l o):∃ q,FinS (lnE l) (fC l o) q∧small q∧∀ K:Int→Int→Prop,BM (cks l) (aA o) K=K q.num q.den:=by obtain ⟨c0,d0,Lr,e1⟩:=h.L1;obtain ⟨n1,n2,n3⟩:=h.n;have ho:=h.ord;rw [e1] at ho;obtain ⟨q,hF,hs,ha⟩:=vp (ord:=aA o) (fun k=>by have:=sR (l:=l) (o:=o);rw [k] at this;simp at this;omega) (by rw [sR];exact n3) h.len ho;refine ⟨q,hF,hs,fun K=>?_⟩;rw [e1];exact nk _ _ _ _ (fun K k=>⟨_,_,k,ha⟩) K
theorem A6 {x0:List PV→Int→Int→Int→Bool→Prop} {x1:Int→Prop} (d:List Int) (x:Int) (hl:d.length<1000000) (hd:∀ y∈d,x≠y) (k:x0 (aA d) x d.length d.length false):∀ (r i n:Nat),i+r=d.length→r<n→Ef x0 x1 n (aA d) x d.length (i:Int)
 | 0,i,n+1,hi,hn=>by unfold Ef;rw [cN (by omega),show (i:Int)=d.length by omega];exact k
 | r+1,i,n+1,hi,hn=>by
  unfold Ef;have e1:=fR (n:=(i:Int)+1) (by omega) (by omega);have hm:d.getD i 0∈d:=by rw [dO,cB (by omega)];exact oJ _
  simp only [lt];rw [cL (by omega),cP,aO (by omega),aO (by omega),cX,fB (by omega),eJ (by omega),pM (hd _ hm),e1,lK];exact A6 d x hl hd k r (i+1) n (by omega) (by omega)
theorem ye {c:Ck} (hl:c.dens.length<1000000) (hh:BW c.dens) (K:Bool→Prop):tX c.len (aA c.cuts) (aA c.dens) K=K false:=by refine nh _ _ _ _ (fun K k=>?_) K;unfold tX Qj Pu Pt Pp Po;rw [cP];refine ⟨c.dens.length+1,A6 c.dens 0 hl (fun y hy e=>?_) k c.dens.length 0 _ (by omega) (by omega)⟩;obtain ⟨j,hj,rfl⟩:=List.getElem_of_mem hy;have:=hh j hj;rw [dO,cB hj] at this;have e':(0:Int)=c.dens[j]:=e;have h':(0:Int)<c.dens[j]:=this;omega
theorem Ft.low (h:Ft l o) {i:Nat} (hi:i<l.length):(l.getD i default).cuts.length≤40∧(l.getD i default).dens.length≤40:=by have:=h.d.ok i hi;have l1:=VC.l1 this;have l2:=VC.l2 this;exact ⟨by omega,by omega⟩
theorem A7 {x0:List PV→Int→Int→Bool→Prop} {x1:Int→Prop} (h:Ft l o) (k:x0 (cks l) l.length l.length false):∀ (r i n:Nat),i+r=l.length→r<n→Ep tV tX x0 x1 n (cks l) (l.length:Int) (i:Int)
 | 0,i,n+1,hi,hn=>by unfold Ep;rw [cN (by omega),show (i:Int)=l.length by omega];exact k
 | r+1,i,n+1,hi,hn=>by
  unfold Ep;have:=h.h4;have e1:=fR (n:=(i:Int)+1) (by omega) (by omega);have hl:=h.low (i:=i) (by omega);have hm:l.getD i default∈l:=by rw [dO,cB (by omega)];exact oJ _
  simp only [lt];rw [cL (by omega),iG,aO (by omega),aO (by omega),cX,oC (by omega),dU,qQ,Ac,BU,ye (by omega) (h.hun _ hm),bE,e1,lK];exact A7 h k r (i+1) n (by omega) (by omega)
theorem Ft.check (h:Ft l o) (K:Int→Prop):oB (cks l) K=K 0:=by
 have h4:=h.h4;refine ni _ _ (fun K k=>?_) K;unfold oB Ql;have hf:nG l:=fun i hi=>by have:=h.low hi;exact ⟨by omega,by omega⟩
 rw [su hf (by omega),h.d.err (by decide),dM rfl,iG,cN (by omega)];simp only [Go.Pf.jn];exact ⟨l.length+1,A7 h k l.length 0 _ (by omega) (by omega)⟩
theorem Ft.ordered (h:Ft l o) (K:Int→Prop):wX (cks l) (aA o) K=K 0:=by refine nj _ _ _ (fun K k=>⟨0,k,fun e he=>?_⟩) K;have hp:=h.p;rw [← iG] at hp;exact yc he hp fun K k=>by rw [h.check];exact k
theorem Ft.Part (h:Ft l o):∃ q,FinS (lnE l) (fC l o) q∧small q∧∀ K:Int→Int→Int→Prop,ycf (cks l) (aA o) K=K q.num q.den 0:=by obtain ⟨q,h1,h2,h3⟩:=h.part;refine ⟨q,h1,h2,fun K=>?_⟩;unfold ycf Hf;rw [h.ordered,dM rfl,h3]
def kH (l:List Rat):List PV:=l.map fun q=>.agg [.int .i64 q.num,.int .i64 q.den]
theorem A8 (l:List Rat):(kH l).length=l.length:=mC ..
theorem yf {l:List Rat} {i:Nat} (h:i<l.length):(kH l).getD i .nils=.agg [.int .i64 (l.getD i 0).num,.int .i64 (l.getD i 0).den]:=by unfold kH;rw [dO,sW,cB h,dO,cB h];rfl
def endR (e:Except Int (List Rat)) (K:List PV→Int→Prop):Prop:=match e with | .ok ys=>K (kH ys) 0 | .error e=>K [] e
end
section
variable {l:List Ck} {o:List Int}
theorem Ft.ckC0 (h:Ft l o) {i:Nat} (hi:i<l.length):iR (l.getD i default).len (l.getD i default).cuts (l.getD i default).dens=0:=(VC.ck (h.d.ok i hi))
theorem HM (h:Ft l o) {i:Nat} (hi:i<l.length) (K:Int→Int→Prop):sB (l.getD i default).len (aA (l.getD i default).cuts) (aA (l.getD i default).dens) K=K (totC (l.getD i default).cuts (l.getD i default).dens) 0:=by have hl:=h.low hi;rw [sk (by omega) (by omega),Sy (h.ckC0 hi)]
theorem A9 (h:Ft l o) {i:Nat} (hi:i<l.length) {p v:Rat} (hp:small p) (p0:0≤p) (p1:p≤(lnE l:Rat)) (hv:small v) (v0:0≤v) (K:Int→Int→Int→Prop) :
  tU (l.getD i default).len (aA (l.getD i default).cuts) (aA (l.getD i default).dens) p.num p.den v.num v.den K=exK (mrkC (l.getD i default).cuts (l.getD i default).dens p v) K:=by
 have hl:=h.low hi;have e:=h.d.len i hi;rw [sr (by omega) (by omega) hp.i1 hp.i2 hv.i1 hv.i2];unfold BS;have p1':p≤((l.getD i default).len:Rat):=by rw [e];exact p1
 rw [Sy (h.ckC0 hi),Sy ⟨so hp p0 p1',hv.rv,Rat.num_nonneg.2 v0⟩,Kv,Kv]
theorem KS {c:Ck} {p v q:Rat} (hp:small p) (h:mrkC c.cuts c.dens p v=.ok q):small q:=by
 unfold mrkC at h;split at h
 ·cases h;exact hp
 ·have key:∀ (r i:Nat) (p v:Rat),mrkS c.cuts c.dens r i p v=.ok q→small q:=by
   intro r;induction r with
   | zero=>intro i p v h;cases h
   | succ r ih=>
    intro i p v h;have fe:∀ {q0:Rat} {k:Rat→Except Int Rat},jY q0 k=.ok q→small q0∧k q0=.ok q:=by
     intro q0 k hf;unfold jY at hf;split at hf
     ·rename_i hs;exact ⟨hs,hf⟩
     ·cases hf
    unfold mrkS at h;split at h
    ·exact ih _ _ _ h
    ·split at h
     ·exact ih _ _ _ h
     ·obtain ⟨_,h⟩:=fe h;obtain ⟨_,h⟩:=fe h;split at h
      ·obtain ⟨_,h⟩:=fe h;exact ih _ _ _ h
      ·obtain ⟨_,h⟩:=fe h;obtain ⟨hs,h⟩:=fe h
       cases h;exact hs
  exact key _ _ _ _ h
theorem B0 (h:Ft l o) {q:Rat} (hq:small q) (q0:0≤q) (K:List PV→Int→Prop) :
  ∀ (r i n:Nat) (p:Rat) (ys:List Rat),i+r=o.length→r<n→ys.length=i→i≤4→small p→0≤p→p≤(lnE l:Rat) →
   (match endM q ((fC l o).drop i) p with | .ok zs=>K (kH (ys++zs)) 0 | .error e=>K [] e) →
   Eu wX lX kP sB lY tU
    (fun a _ _ _ _ _ _ _ _ _=>(asr (decide ((length a)=(length a))) (asr (decide ((0+(length a))≤(length a))) (K (take (length a) a) (0:Int)))))
    (fun _ b=>(K ([]:List PV) b)) n (kH ys) (cks l) q.num q.den p.num p.den (aA o) o.length (i:Int)
 | 0,i,n+1,p,ys,hi,hn,hy,h4,hp,p0,p1,k=>by unfold Eu;rw [cN (by omega),aO rfl,aO (by omega),List.take_length];rw [nN (by rw [sR];omega)] at k;have k:K (kH (ys++[])) 0:=k;rw [List.append_nil] at k;exact k
 | r+1,i,n+1,p,ys,hi,hn,hy,h4,hp,p0,p1,k=>by
  unfold Eu;have n3:=h.n;have e1:=fR (n:=(i:Int)+1) (by omega) (by omega);obtain ⟨a1,a2,a3,a4⟩:=h.at_ (j:=i) (by omega);have hT:=Rl (h.d.ok (o.getD i 0).toNat a2);have sT:small (bJ (l.getD (o.getD i 0).toNat default)):=xC (by omega);have hc:=(h.okl (l.getD (o.getD i 0).toNat default) (by rw [dO,cB a2];exact oJ a2)).1;rw [sI default (show i<(fC l o).length by rw [sR];omega),a4] at k;unfold endM at k;dsimp only [Go.Pf.lt,Go.Pf.jn];rw [cL (by omega),cP,aO (by omega),aO (by omega),cX,fB (by omega),eJ (by omega),iG,aO a1,aO a3,oC a2,dU,qQ,Ac,BU,HM h a2,uD];refine (Hu hq sT _).mpr ?_;rw [BR]
  by_cases s1:small (q*bJ (l.getD (o.getD i 0).toNat default))
  ·rw [Sy s1,lD rfl,aO a1,aO a3,dU];rw [Sy s1] at k;refine (A9 h a2 hp p0 p1 s1 (sZ q0 (dE (oD hc))) _).mpr ?_
   cases hm:mrkC (l.getD (o.getD i 0).toNat default).cuts (l.getD (o.getD i 0).toNat default).dens p (q*bJ (l.getD (o.getD i 0).toNat default)) with
   | error e =>rw [hm] at k;have k:K [] e:=k;have he:=Si hm;rw [YJ,fA (by omega)];exact k
   | ok y=>
    rw [hm] at k;obtain ⟨m1,m2,m3,_⟩:=KA hc.1 p0 p1 (sZ q0 (dE (oD hc))) hm;rw [YI,dM rfl,aO rfl,aO (by omega),A8,sK (by simp),aO rfl,aO (by unfold room;omega),e1,lK,sK (by simp)];have er:kH ys++[.agg [.int .i64 y.num,.int .i64 y.den]]=kH (ys++[y]):=by unfold kH;rw [List.map_append];rfl
    rw [er];refine B0 h hq q0 K r (i+1) n y (ys++[y]) (by omega) (by omega) (by simp [hy]) (by omega) (KS hp hm) (cY p0 m2) m3 ?_;have k:(match (match endM q ((fC l o).drop (i+1)) y with | .ok l=>Except.ok (y::l) | .error e=>.error e) with | .ok zs=>K (kH (ys++zs)) 0 | .error e=>K [] e):=k
    cases hz:endM q ((fC l o).drop (i+1)) y with
    | ok zs =>rw [hz] at k;show K (kH (ys++[y]++zs)) 0;rw [uJ];exact k
    | error e=>rw [hz] at k;exact k
  ·rw [Sz s1,pM (by decide),fA (by decide)];rw [Sz s1] at k;exact k
theorem Ft.ends (h:Ft l o) {q:Rat} (hq:small q) (q0:0≤q) (K:List PV→Int→Prop):ybx (cks l) (aA o) q.num q.den K=endR (endM q (fC l o) 0) K:=by
 have main:∀ K,endR (endM q (fC l o) 0) K→ybx (cks l) (aA o) q.num q.den K:=fun K k=>by
  have n3:=h.n;unfold ybx QC;rw [h.ordered,dM rfl];dsimp only [Go.Pf.jn];rw [Re hq.i1 hq.i2,show iQ q.num q.den=0 from Sy hq.rv,dM rfl,Os (by have:=Rat.num_nonneg.2 q0;omega),bE,uD,cP];refine ⟨o.length+1,?_⟩;have hi:0<o.length:=by omega
  unfold Qz;obtain ⟨a1,a2,a3,a4⟩:=h.at_ (j:=0) hi;have hT:=Rl (h.d.ok (o.getD 0 0).toNat a2);have sT:small (bJ (l.getD (o.getD 0 0).toNat default)):=xC (by omega);have hc:=(h.okl (l.getD (o.getD 0 0).toNat default) (by rw [dO,cB a2];exact oJ a2)).1;have hL:(0:Rat)≤(lnE l:Rat):=by have:=(uA hc.1).1;grind
  have ed:fC l o=l.getD (o.getD 0 0).toNat default::(fC l o).drop 1:=by have:=sI default (show 0<(fC l o).length by rw [sR];omega);rw [nP,a4] at this;exact this
  rw [ed] at k;unfold endM at k;dsimp only [Go.Pf.lt,Go.Pf.jn];rw [cL (by omega),cP,aO (by omega),aO (by omega),show ((0:Int)).toNat=0 from rfl,fB hi,eJ hi,iG,aO a1,aO a3,oC a2,dU,qQ,Ac,BU,HM h a2,uD];refine (Hu hq sT _).mpr ?_;rw [BR]
  by_cases s1:small (q*bJ (l.getD (o.getD 0 0).toNat default))
  ·rw [Sy s1,lD rfl,aO a1,aO a3,dU];rw [Sy s1] at k;refine (A9 h a2 (p:=0) (by decide +kernel) dP hL s1 (sZ q0 (dE (oD hc))) _).mpr ?_
   cases hm:mrkC (l.getD (o.getD 0 0).toNat default).cuts (l.getD (o.getD 0 0).toNat default).dens 0 (q*bJ (l.getD (o.getD 0 0).toNat default)) with
   | error e =>rw [hm] at k;have k:K [] e:=k;have he:=Si hm;rw [YJ,fA (by omega)];exact k
   | ok y=>
    rw [hm] at k;obtain ⟨m1,m2,m3,_⟩:=KA hc.1 dP hL (sZ q0 (dE (oD hc))) hm;rw [YI,dM rfl,show i64.wrap ((0:Int)+1)=((1:Nat):Int) from by decide +kernel,sK (by simp)];refine B0 h hq q0 K (o.length-1) 1 o.length y [y] (by omega) (by omega) rfl (by decide) (KS (by decide +kernel) hm) m2 m3 ?_;have k:endR (match endM q ((fC l o).drop 1) y with | .ok l=>Except.ok (y::l) | .error e=>.error e) K:=k
    cases hz:endM q ((fC l o).drop 1) y with
    | ok zs=>rw [hz] at k;exact k
    | error e=>rw [hz] at k;exact k
  ·rw [Sz s1,pM (by decide),fA (by decide)];rw [Sz s1] at k;exact k
 cases e:endM q (fC l o) 0 with
 | ok ys=>rw [e] at main;exact XC _ _ _ _ (kH ys) 0 main K
 | error c=>rw [e] at main;exact XC _ _ _ _ [] c main K
end
theorem B1 (w:List PV→List PV→(Int→Int→Prop)→Prop) (a b:List PV) (K:PV→Prop):Qy.pw w [.data a,.data b] K=w a b (fun r0 r1=>K (.agg [.int .i64 r0,.int .i64 r1])):=by kernel_rfl
theorem yg (w:kO) (a:List PV) (K:PV→Prop):kY.pw w [.data a] K=w a (fun r0=>K (.int .i64 r0)):=by kernel_rfl
def iJ:List Ck:=[⟨4,[0,4],[1]⟩,⟨4,[0,1,4],[3,1]⟩]
theorem pV:Ft iJ [0,1]:=Sx (by decide +kernel)
theorem xH:Ft iJ [1,0]:=Sx (by decide +kernel)
def Ci:Rat:=mkRat 2 5
def Cj:Rat:=mkRat 3 5
def sS:List Rat:=[mkRat 8 5,4]
theorem yh:FinS (lnE iJ) (fC iJ [0,1]) Ci:=⟨by decide +kernel,sS,⟨mkRat 8 5,[4],rfl,by decide +kernel,by decide +kernel,by decide +kernel,⟨4,[],rfl,by decide +kernel,by decide +kernel,by decide +kernel,rfl⟩⟩,by decide +kernel⟩
theorem yi:FinS (lnE iJ) (fC iJ [1,0]) Cj:=⟨by decide +kernel,sS,⟨mkRat 8 5,[4],rfl,by decide +kernel,by decide +kernel,by decide +kernel,⟨4,[],rfl,by decide +kernel,by decide +kernel,by decide +kernel,rfl⟩⟩,by decide +kernel⟩
theorem B2 {l:List Ck} {o:List Int} (h:Ft l o) {q r:Rat} (hq:FinS (lnE l) (fC l o) q) (hr:FinS (lnE l) (fC l o) r):q=r:=by
 obtain ⟨n1,n2,n3⟩:=h.n;have hne:fC l o≠[]:=fun k=>by have:=sR (l:=l) (o:=o);rw [k] at this;simp at this;omega
 obtain ⟨c,hc⟩:=List.exists_mem_of_ne_nil _ hne;have:=(uA (h.ok c hc).1).1;exact FinS.uniq h.ok (by grind) hq hr
theorem B3 (K:Int→Int→Prop):BM (cks iJ) (aA [0,1]) K=K 2 5:=by obtain ⟨q,h1,_,h3⟩:=pV.part;rw [h3,B2 pV h1 yh];show K Ci.num Ci.den=K 2 5;rw [show Ci.num=2 from by decide +kernel,show ((Ci.den:Nat):Int)=5 from by decide +kernel]
theorem B4 (K:Int→Int→Prop):BM (cks iJ) (aA [1,0]) K=K 3 5:=by obtain ⟨q,h1,_,h3⟩:=xH.part;rw [h3,B2 xH h1 yi];show K Cj.num Cj.den=K 3 5;rw [show Cj.num=3 from by decide +kernel,show ((Cj.den:Nat):Int)=5 from by decide +kernel]
def xI:tJ:=[(AN,[.data (cks iJ)],.int .i64 0),(rU,[.data (cks iJ),.data (aA [0,1])],kQ 2 5),(rU,[.data (cks iJ),.data (aA [1,0])],kQ 3 5)]
theorem yj {e:Es} (he:EG e):∀ x∈xI,(E e).qui x.1=true∧oW (E e) x.1 x.2.1 x.2.2:=by
 intro x hx;simp only [xI,qAp,List.not_mem_nil,or_false] at hx;rcases hx with rfl | rfl | rfl
 ·obtain ⟨r,hr,ha⟩:=Qn e he [.data (cks iJ)] (fun r=>r=.int .i64 0) (by rw [yg,pV.check]);subst hr;exact ⟨by kernel_rfl,ha⟩
 ·obtain ⟨r,hr,ha⟩:=Kh e he [.data (cks iJ),.data (aA [0,1])] (fun r=>r=kQ 2 5) (by rw [B1,B3];rfl);subst hr;exact ⟨by kernel_rfl,ha⟩
 ·obtain ⟨r,hr,ha⟩:=Kh e he [.data (cks iJ),.data (aA [1,0])] (fun r=>r=kQ 3 5) (by rw [B1,B4];rfl);subst hr;exact ⟨by kernel_rfl,ha⟩
theorem ym:yaN (K0 xI) (yak (K0 xI) 300) AT [.data (cks iJ)]=some (.tup [.data (aA [1,0]),kQ 3 5,.int .i64 0]):=by kernel_rfl
theorem yo (K:List PV→Int→Int→Int→Prop):Hk (cks iJ) K=K (aA [1,0]) 3 5 0:=
 nm _ _ _ _ _ (fun K k=>⟨_,_,_,_,k,fun e he=>X7 (A3 he) (yj he) (m:=300) (by rw [HK];exact ym)⟩) K
theorem yp:endM Ci (fC iJ [0,1]) 0=.ok sS:=by kernel_rfl
theorem yq:endM Cj (fC iJ [1,0]) 0=.ok sS:=by kernel_rfl
theorem yr:endM (mkRat 1 2) (fC iJ [0,1]) 0=.error 6:=by kernel_rfl
theorem yt (K:Bool→Prop):ycA (kH sS) (kH sS) K=K true:=by
 refine pi _ _ _ (fun K k=>?_) K;unfold ycA QR;refine (dM (show ((kH sS).length:Int)=((kH sS).length:Int) from rfl)).mpr ?_;refine ⟨4,?_⟩;have:∀ P Q:Prop,P=Q→Q→P:=fun _ _ h q=>h ▸ q
 exact this _ (K true) (by kernel_rfl) k
theorem yu (K:Bool→Prop):Eo (aA [1,0]) [.int .i64 1,.int .i64 0] K=K true:=by
 refine lw _ _ _ (fun K k=>?_) K;unfold Eo Qh;refine (dM (show ((aA [1,0]).length:Int)=(([.int .i64 1,.int .i64 0]:List PV).length:Int) from rfl)).mpr ?_;refine ⟨4,?_⟩;have:∀ P Q:Prop,P=Q→Q→P:=fun _ _ h q=>h ▸ q
 exact this _ (K true) (by kernel_rfl) k
theorem Ag (K:Bool→Prop):Hm K=K true:=by
 unfold Hm QX;have t:∀ K,yqM K=K (cks iJ):=fun _=>rfl
 have of4:∀ (n:Int) K,Hl n K=K n 1:=fun _ _=>rfl
 have P1:∀ K,ycf (cks iJ) [.int .i64 0,.int .i64 1] K=K 2 5 0:=fun K=>by
  unfold ycf Hf;refine (pV.ordered _).trans ?_;rw [dM rfl];exact B3 _
 have P2:∀ K,ycf (cks iJ) [.int .i64 1,.int .i64 0] K=K 3 5 0:=fun K=>by
  unfold ycf Hf;refine (xH.ordered _).trans ?_;rw [dM rfl];exact B4 _
 have E1:∀ K,ybx (cks iJ) [.int .i64 0,.int .i64 1] 2 5 K=K (kH sS) 0:=fun K=>by
  refine (pV.ends (q:=Ci) (by decide +kernel) (by decide +kernel) K).trans ?_;rw [yp];rfl
 have E2:∀ K,ybx (cks iJ) [.int .i64 1,.int .i64 0] 3 5 K=K (kH sS) 0:=fun K=>by
  refine (xH.ends (q:=Cj) (by decide +kernel) (by decide +kernel) K).trans ?_;rw [yq];rfl
 have E3:∀ K,ybx (cks iJ) [.int .i64 0,.int .i64 1] 1 2 K=K [] 6:=fun K=>by
  refine (pV.ends (q:=mkRat 1 2) (by decide +kernel) (by decide +kernel) K).trans ?_;rw [yr];rfl
 have S1:∀ K,ycA (kH sS) [.agg [.int .i64 8,.int .i64 5],.agg [.int .i64 4,.int .i64 1]] K=K true:=yt;dsimp only [Go.Pf.jn];have b2:(((2:Int)==2)&&(((5:Int)==5)&&true))=true:=rfl;have b3:(((3:Int)==3)&&(((5:Int)==5)&&true))=true:=rfl;rw [t,P1,t,E1,t,P2,t,E2,t,yo,t,E3,of4,lD rfl,b2,aY,lD rfl,S1,aY,lD rfl,b3,aY,lD rfl,S1,aY,lD rfl,aY,yu,aY];rfl
theorem yv {l:List Ck} {o:List Int} (hl:l.length≤9223372036854775807) (ho:o.length≤9223372036854775807) (K:Bool→Prop):EB (cks l) (aA o) K=K (HJ l o):=by
 refine qf _ _ _ (fun K k=>?_) K;unfold EB QT;dsimp only [Go.Pf.jn];rw [vv hl];unfold HJ at k
 cases hg:EF l with
 | true=>rw [hg] at k;exact k
 | false=>
  rw [hg] at k;obtain ⟨hw,hl10⟩:=wi hg;have hl:l.length≤1000000:=by omega
  rw [show (!false)=true from rfl,aY,cP];rw [show (!false)=true from rfl,nQ] at k
  by_cases c:o.length≤20
  ·rw [cL (by omega)];rw [Eg c,nQ] at k;unfold QP QO;rw [A1 hl hw,A1 hl hw]
   by_cases c2:EH l=0
   ·rw [dM c2,iG];rw [Eg c2,nQ] at k;refine wg hl _ ?_
    cases hb:pU l.length o with
    | true=>rw [hb] at k;exact k
    | false=>rw [hb] at k;exact k
   ·rw [fA c2];show K (EH l==0);rw [Rg c2];rw [Os c2,mO] at k;exact k
  ·rw [cN (by omega)];rw [Os c,mO] at k;exact k
theorem yw {l:List Ck} {o:List Int} (hl:l.length≤9223372036854775807) (ho:o.length≤9223372036854775807) {n d:Int} (hn:bT n) (hd:bT d):Kl (cks l) (aA o) n d (fun b=>b=true):=by
 unfold Kl QZ;dsimp only [Go.Pf.jn];rw [yv hl ho]
 cases hf:HJ l o with
 | false=>rw [xT,aY,aY,Ag]
 | true=>
  have h:=Sx hf;rw [Bool.not_true,bE,Yx hn hd]
  by_cases hv:RV n d
  ·rw [show iQ n d=0 from Sy hv,dM rfl]
   by_cases h0:n<0
   ·rw [Eg h0,aY,Ag]
   rw [Os h0,bE];obtain ⟨r,rs,rn,rd⟩:=Kp hv;have r0:0≤r:=Rat.num_nonneg.1 (by omega);obtain ⟨q,hq,qs,hP⟩:=h.Part;rw [hP,dM rfl,Yx qs.i1 qs.i2,show iQ q.num q.den=0 from Sy qs.rv];show aD ((0:Int) !=0) _ _;rw [dM rfl];subst rn rd;rw [h.ends rs r0];obtain ⟨n1,n2,n3⟩:=h.n;have hne:fC l o≠[]:=fun k=>by have:=sR (l:=l) (o:=o);rw [k] at this;simp at this;omega
   obtain ⟨c,hc⟩:=List.exists_mem_of_ne_nil _ hne;have hL:=(uA (h.ok c hc).1).1;have hL1:=(uA (h.ok c hc).1).2;have hL0:(0:Rat)≤(lnE l:Rat):=by grind
   obtain ⟨q0,xs,hx,lx⟩:=hq;have eqt:((r.num==q.num)&&(((r.den:Int) ==(q.den:Int))&&true))=decide (r=q):=KN r q;have err:∀ e,endM r (fC l o) 0=.error e→e=16∨(e=6∧¬r<q):=fun e he=>by
    rcases yvP he with k|k
    ·exact .inl k
    ·by_cases c:r<q
     ·exact .inl (ZW r0 (dE c) h.ok dP dP hL0 hx he)
     ·exact .inr ⟨k,c⟩
   cases he:endM r (fC l o) 0 with
   | error e=>
    unfold endR;dsimp only;rcases err e he with k | ⟨k,hnl⟩
    ·rw [lD k,aY,Ag]
    ·subst k;rw [pM (by decide),eqt]
     by_cases c:r=q
     ·rw [Eg c,aY,Ag]
     ·rw [Os c,bE,Ri qs rs,cL (by grind),lD rfl,Ag]
   | ok ys=>
    have hy:=ZV r0 h.ok dP hL0 he;have hlen:=ZX he;unfold endR;dsimp only;rw [pM (by decide),eqt]
    by_cases c:r=q
    ·rw [Eg c,aY,Ag]
    have hyl:ys≠[]:=fun k=>by rw [k,sR] at hlen;simp at hlen;omega
    have hla:ys.getLast?=some (ys.getLast hyl):=List.getLast?_eq_some_getLast hyl;rw [Os c,bE,Ri qs rs]
    by_cases c2:q<r
    ·have:=Ch.lt (dE q0) c2 h.ok dP dP hL0 hx hy _ _ lx hla;have hb:ys.getLast hyl≤(lnE l:Rat):=by
      have key:∀ {cs:List Ck} {p:Rat} {zs:List Rat} {a:Rat},Ch (lnE l) cs p r zs→zs.getLast?=some a→a≤(lnE l:Rat):=by
       intro cs;induction cs with
       | nil=>intro p zs a h1 h2;have h1:zs=[]:=h1;rw [h1] at h2;cases h2
       | cons c cs ih=>
        intro p zs a h1 h2;obtain ⟨y,rr,e1,_,k2,_,k4⟩:=h1;subst e1
        cases rr with
        | nil=>cases h2;exact k2
        | cons z rr=>rw [List.getLast?_cons_cons] at h2;exact ih k4 h2
      exact key hy hla
     grind
    ·have c3:r<q:=by grind
     have hlt:=Ch.lt r0 c3 h.ok dP dP hL0 hy hx _ _ hla lx;have hys:ys.length=o.length:=by rw [hlen,sR]
     have e1:=fR (n:=((ys.length:Nat):Int)-1) (by omega) (by omega);have hg:ys.getD (ys.length-1) 0=ys.getLast hyl:=by rw [List.getLast_eq_getElem,dO,cB (by omega)];rfl
     have sm:small (ys.getLast hyl):=by
      have key:∀ {cs:List Ck} {p:Rat} {zs:List Rat},small p→endM r cs p=.ok zs→∀ z∈zs,small z:=by
       intro cs;induction cs with
       | nil=>intro p zs _ h1 z hz;cases h1;cases hz
       | cons c cs ih=>
        intro p zs hp h1 z hz;unfold endM at h1;split at h1
        ·split at h1
         ·rename_i y hm;split at h1
          ·rename_i zz hzz
           cases h1
           rcases qAp.1 hz with rfl|hz
           ·exact KS hp hm
           ·exact ih (KS hp hm) hzz z hz
          ·cases h1
         ·cases h1
        ·cases h1
      exact key (by decide +kernel) he _ (List.getLast_mem hyl)
     have h0:=h.d.n0;rw [cN c2,lD rfl];show aD (((kH ys).length:Int) ==((aA o).length:Int)) _ _;rw [A8,cP,lD (by omega)];dsimp only [Go.Pf.lt];rw [e1,aO (by omega),aO (by omega),show (((ys.length:Nat):Int)-1).toNat=ys.length-1 by omega,yf (by omega)];rw [hg];show asr (decide ((0:Int)<(((cks l).length:Nat):Int))) _;rw [iG,aO (by omega),oC (by omega),dU,qQ];rw [show ∀ (n:Int) (K:Int→Int→Prop),Hl n K=K ((n:Rat)).num ((n:Rat)).den from fun _ _=>rfl];show Hb (ys.getLast hyl).num (ys.getLast hyl).den ((lnE l:Int):Rat).num ((lnE l:Int):Rat).den (fun f=>aD f (Hm fun g=>g=true) (false=true));rw [Ri sm (xC (by have:=iT (a:=lnE l) (b:=1000) |>.1 hL1;have:(0:Int)≤lnE l:=xP.1 hL0;omega)),cL hlt,Ag]
  ·rw [show iQ n d=8 from Sz hv,fA (by decide),aY,Ag]
theorem yx {as:List PV} (h:yoM [.s Ad,.s (.i .i64),Hx] as):∃ (l:List Ck) (xs:List Int) (a b:Int),as=[.data (cks l),.data (aA xs),.agg [.int .i64 a,.int .i64 b]]∧l.length≤9223372036854775807∧xs.length≤9223372036854775807∧bT a∧bT b:=by simp only [yoM] at h;obtain ⟨x,r,rfl,x1,x2,y,r2,rfl,y1,y2,z,r3,rfl,z1,z2,rfl⟩:=h;obtain ⟨l,e1,hl,hi⟩:=ti x2;rw [YT z1];generalize z.cells=cz at z2;obtain ⟨a,b,rfl,ha,hb⟩:=tg z2;simp only [HasF] at y2;obtain ⟨rows,hr,hn,hx⟩:=y2;obtain ⟨xs,rfl,_⟩:=Ky rows (fun w hw=>⟨(hx w hw).1,by simp only [HasF];exact (hx w hw).2⟩);rw [cP] at hn;rw [YV x1 e1,YV y1 hr];exact ⟨l,xs,a,b,rfl,hl,hn,ha,hb⟩
end Go.Pf.Vc
