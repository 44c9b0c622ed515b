/- Part 5 of what the statement rests on: a verified evaluator over pure values, the conditions of the program's functions, and their plain laws. -/
import Derived.Test.YtijdgcomldpncaaTsW4
namespace Go.Pf.Vc
open Go Go.Pf
def QR (cs:List Ck) (q:Qy):Prop :=
 (0≤q.agent∧q.agent<cs.length)∧(I64 q.an∧I64 q.ad∧I64 q.bn∧I64 q.bd) ∧
   ∃ p:Rat,(q.cn=p.num∧q.cd=p.den) ∧
     ((q.kind=2∧mrkR (cs.getD q.agent.toNat default).len (cs.getD q.agent.toNat default).cuts (cs.getD q.agent.toNat default).dens q.an q.ad q.bn q.bd=.ok p) ∨
      (q.kind=1∧valR (cs.getD q.agent.toNat default).len (cs.getD q.agent.toNat default).cuts (cs.getD q.agent.toNat default).dens q.an q.ad q.bn q.bd=.ok p))
end Go.Pf.Vc
namespace Go.Pf.Vc
open Go Go.Pf
structure LD (cs:List Ck) (A:List (List RS)) (t:Nat→Rat) (τ:Nat→Nat):Prop where
 d:DK cs
 l:A.length=cs.length
 t0:t 0=0
 tn:t cs.length=((cs.getD 0 default).len:Rat)
 lt:∀ j,j<cs.length→t j<t (j+1)
 sm:∀ j,j≤cs.length→small (t j)
 at_:∀ a,a<cs.length→τ a<cs.length∧A.getD a []=[(t (τ a),t (τ a+1))]
 inj:∀ a b,a<cs.length→b<cs.length→τ a=τ b→a=b
 sur:∀ j,j<cs.length→∃ a,a<cs.length∧τ a=j
section
variable {cs:List Ck} {A:List (List RS)} {t:Nat→Rat} {τ:Nat→Nat}
theorem LD.mono (h:LD cs A t τ):∀ {j i:Nat},i≤j→j≤cs.length→t i≤t j
 | 0,i,hij,_=>by
   obtain rfl:i=0:=by omega
   exact Rat.le_refl
 | j+1,i,hij,hj=>by
   by_cases e:i=j+1
   · subst e;exact Rat.le_refl
   · have:=h.mono (j:=j) (i:=i) (by omega) (by omega)
     have:=h.lt j (by omega)
     grind
theorem LD.bound (h:LD cs A t τ) {j:Nat} (hj:j≤cs.length):0≤t j∧t j≤((cs.getD 0 default).len:Rat):=by
 have a:=h.mono (Nat.zero_le j) hj
 have b:=h.mono hj (Nat.le_refl _)
 rw [h.t0] at a
 rw [h.tn] at b
 exact ⟨a,b⟩
end
end Go.Pf.Vc
namespace Go.Pf.Vc
open Go Go.Pf
section
variable {len:Int} {cuts dens:List Int}
theorem ypY (h:VC len cuts dens):∀ (r i:Nat) (p v:Rat),i+r=dens.length→((cuts.getD i 0:Int):Rat)≤p→p≤(len:Rat)→0<v→v≤vu cuts dens (len:Rat) r i-vu cuts dens p r i →
   ∀ D,1≤D→D≤1000000000000→In D p→In D v→v≤12000→∃ q d,mrkS cuts dens r i p v=.ok q∧(1≤d∧d≤12)∧In (d*D) q
 | 0,i,p,v,hi,_,_,v0,v1=>by
   unfold vu at v1
   grind
 | r+1,i,p,v,hi,hp,p1,v0,v1=>by
   intro D D1 D2 hpD hvD hv
   have l1:=h.l1
   have hl:=yBt h
   have hd:=yBu h (i:=i) (by omega)
   have hd2:=h.den (i:=i) (by omega)
   have hc0:(0:Rat)≤((cuts.getD i 0:Int):Rat):=Rat.intCast_nonneg.2 (h.lo (by omega))
   have hst:((cuts.getD i 0:Int):Rat)<((cuts.getD (i+1) 0:Int):Rat):=Rat.intCast_lt_intCast.2 (h.step (i:=i) (by omega))
   have hc1:((cuts.getD (i+1) 0:Int):Rat)≤(len:Rat):=by rw [← h.last];exact ysw h (by omega) (Nat.le_refl _)
   have low:=yub h r (i+1) (x:=p) (y:=((cuts.getD (i+1) 0:Int):Rat)) (by omega)
   have m1:=yeD p (cuts.getD i 0:Int)
   have m2:=yeD (len:Rat) (cuts.getD i 0:Int)
   have n1:=yfU (maxR p (cuts.getD i 0:Int)) (cuts.getD (i+1) 0:Int)
   have n2:=yfU (maxR (len:Rat) (cuts.getD i 0:Int)) (cuts.getD (i+1) 0:Int)
   have el:uC cuts i (len:Rat)=((cuts.getD (i+1) 0:Int):Rat):=by unfold uC;grind
   unfold vu at v1
   rw [el] at v1
   unfold mrkS
   by_cases c1:p<((cuts.getD (i+1) 0:Int):Rat)
   case neg =>
     rw [if_pos c1]
     have ep:uC cuts i p=((cuts.getD (i+1) 0:Int):Rat):=by unfold uC;grind
     rw [ep] at v1
     exact ypY h r (i+1) p v (by omega) (Rat.not_lt.1 c1) p1 v0 (by grind) D D1 D2 hpD hvD hv
   rw [if_neg (fun k=>k c1)]
   have ep:uC cuts i p=p:=by unfold uC;grind
   rw [ep,low (Rat.le_of_lt c1) Rat.le_refl] at v1
   by_cases cz:dens.getD i 0=0
   · rw [if_pos cz]
     rw [cz] at v1
     have e0:((0:Int):Rat)=0:=rfl
     exact ypY h r (i+1) ((cuts.getD (i+1) 0:Int):Rat) v (by omega) Rat.le_refl hc1 v0 (by grind) D D1 D2 (In.int D1 _) hvD hv
   rw [if_neg cz]
   have hd1:0<dens.getD i 0:=by omega
   have dpos:(0:Rat)<((dens.getD i 0:Int):Rat):=Rat.intCast_pos.2 hd1
   have m:=yBv (x:=((cuts.getD (i+1) 0:Int):Rat)-p) (by grind) hd
   by_cases c3:(((cuts.getD (i+1) 0:Int):Rat)-p)*((dens.getD i 0:Int):Rat)<v
   · have i1:=(In.int D1 (cuts.getD (i+1) 0)).sub hpD
     have i2:=i1.mulI (dens.getD i 0)
     have i3:=hvD.sub i2
     rw [yiT (i1.small (M:=1000) ⟨by omega,by omega⟩ (by omega) (by show -(1000:Rat)≤_;grind) (by show _≤(1000:Rat);grind)),
       yiT (i2.small (M:=12000) ⟨by omega,by omega⟩ (by omega) (by show -(12000:Rat)≤_;grind) (by show _≤(12000:Rat);grind)),if_pos c3,
       yiT (i3.small (M:=12000) ⟨by omega,by omega⟩ (by omega) (by show -(12000:Rat)≤_;grind) (by show _≤(12000:Rat);grind))]
     exact ypY h r (i+1) ((cuts.getD (i+1) 0:Int):Rat) (v-(((cuts.getD (i+1) 0:Int):Rat)-p)*((dens.getD i 0:Int):Rat)) (by omega) Rat.le_refl hc1 (by grind) (by grind) D D1 D2 (In.int D1 _) i3 (by grind)
   · have i1:=(In.int D1 (cuts.getD (i+1) 0)).sub hpD
     have i2:=i1.mulI (dens.getD i 0)
     have i3:=hvD.div D1 (d:=dens.getD i 0) (by omega)
     have i4:=(hpD.up D1 (d:=dens.getD i 0) (by omega)).add i3
     have hDD:dens.getD i 0*D≤12*D:=Int.mul_le_mul_of_nonneg_right hd2.2 (by omega)
     have hDD1:1*1≤dens.getD i 0*D:=Int.mul_le_mul (by omega) D1 (by omega) (by omega)
     generalize hs:v / ((dens.getD i 0:Int):Rat)=s at *
     have es:s*((dens.getD i 0:Int):Rat)=v:=by rw [← hs];exact Rat.div_mul_cancel (by grind)
     have s0:0≤s:=by
       refine Rat.not_lt.1 fun k=>?_
       have:=Rat.mul_lt_mul_of_pos_right k dpos
       grind
     have s1:p+s≤((cuts.getD (i+1) 0:Int):Rat):=by
       refine Rat.not_lt.1 fun k=>?_
       have:(((cuts.getD (i+1) 0:Int):Rat)-p)<s:=by grind
       have:=Rat.mul_lt_mul_of_pos_right this dpos
       grind
     rw [yiT (i1.small (M:=1000) ⟨by omega,by omega⟩ (by omega) (by show -(1000:Rat)≤_;grind) (by show _≤(1000:Rat);grind)),
       yiT (i2.small (M:=12000) ⟨by omega,by omega⟩ (by omega) (by show -(12000:Rat)≤_;grind) (by show _≤(12000:Rat);grind)),if_neg c3,
       yiT (i3.small (M:=1000) ⟨by omega,by omega⟩ (by omega) (by show -(1000:Rat)≤_;grind) (by show _≤(1000:Rat);grind)),
       yiT (i4.small (M:=1000) ⟨by omega,by omega⟩ (by omega) (by show -(1000:Rat)≤_;grind) (by show _≤(1000:Rat);grind))]
     exact ⟨_,dens.getD i 0,rfl,⟨by omega,hd2.2⟩,i4⟩
theorem yDP (h:VC len cuts dens) {p v:Rat} (p0:0≤p) (p1:p≤(len:Rat)) (v0:0<v) (hv:v≤vX cuts dens (len:Rat)-vX cuts dens p) {D:Int} (D1:1≤D) (D2:D≤1000000000000) (hp:In D p) (hvD:In D v) :
   ∃ q d,mrkC cuts dens p v=.ok q∧(1≤d∧d≤12)∧In (d*D) q∧vX cuts dens q=vX cuts dens p+v∧p<q∧q≤(len:Rat)∧∀ x,x<q→vX cuts dens x<vX cuts dens q:=by
 have c0:cuts.getD 0 0=0:=h.2.2.2.2.2.1
 have t:=yDN h
 have m0:=ymL h p0
 have tb:((totC cuts dens:Int):Rat)≤12000:=Rat.intCast_le_intCast.2 (yoI h).2
 obtain ⟨q,d,e,hd,hq⟩:=ypY h dens.length 0 p v (by omega) (by rw [c0];exact p0) p1 v0 hv D D1 D2 hp hvD (by grind)
 have ec:mrkC cuts dens p v=.ok q:=by
   unfold mrkC
   rw [if_neg (by grind)]
   exact e
 obtain ⟨k1,k2,k3,_,k5⟩:=yES h p0 p1 (Rat.le_of_lt v0) ec
 refine ⟨q,d,ec,hd,hq,k1,?_,k3,k5 (by grind)⟩
 by_cases hlt:p<q
 · exact hlt
 · have:p=q:=by grind
   rw [← this] at k1
   grind
end
end Go.Pf.Vc
namespace Go.Pf.Vc
open Go Go.Pf
section
variable {l:List Ck}
theorem ysx (hd:DK l) {a:Nat} (h:a<l.length):0<shN l a:=by
 have t:=yDI (hd.ok a h)
 have n0:=hd.n0
 have t2:(0:Rat)<((totC (l.getD a default).cuts (l.getD a default).dens:Int):Rat):=Rat.intCast_pos.2 t
 have hn:(0:Rat)<((l.length:Int):Rat):=Rat.intCast_pos.2 (by omega)
 have e:shN l a*((l.length:Int):Rat)=((totC (l.getD a default).cuts (l.getD a default).dens:Int):Rat):=Rat.div_mul_cancel (by grind)
 refine Rat.not_le.1 fun k=>?_
 have:=Rat.mul_le_mul_of_nonneg_right k (Rat.le_of_lt hn)
 grind
theorem yET (hd:DK l) {a:Nat} (_:a<l.length):((l.length:Int):Rat)*shN l a=((totC (l.getD a default).cuts (l.getD a default).dens:Int):Rat):=by
 have n0:=hd.n0
 have hn:(0:Rat)<((l.length:Int):Rat):=Rat.intCast_pos.2 (by omega)
 have e:shN l a*((l.length:Int):Rat)=((totC (l.getD a default).cuts (l.getD a default).dens:Int):Rat):=Rat.div_mul_cancel (by grind)
 grind
theorem yFV (l:List Ck) (a:Nat):In (l.length:Int) (shN l a):=⟨totC (l.getD a default).cuts (l.getD a default).dens,rfl⟩
def mkM (l:List Ck) (p:Rat) (a:Nat):Rat:=getR (mrkC (l.getD a default).cuts (l.getD a default).dens p (shN l a))
theorem yDQ (hd:DK l) {a:Nat} (h:a<l.length) {p:Rat} (p0:0≤p) (p1:p≤((l.getD 0 default).len:Rat)) (hv:shN l a≤vX (l.getD a default).cuts (l.getD a default).dens ((l.getD 0 default).len:Rat)-vX (l.getD a default).cuts (l.getD a default).dens p)
   {D:Int} (D1:1≤D) (D2:D≤1000000000000) (hp:In D p) (hs:In D (shN l a)) :
   mrkC (l.getD a default).cuts (l.getD a default).dens p (shN l a)=.ok (mkM l p a)∧(∃ d:Int,(1≤d∧d≤12)∧In (d*D) (mkM l p a))∧vX (l.getD a default).cuts (l.getD a default).dens (mkM l p a)=vX (l.getD a default).cuts (l.getD a default).dens p+shN l a∧p<mkM l p a∧mkM l p a≤((l.getD 0 default).len:Rat):=by
 have hok:=hd.ok a h
 have hlen:=hd.len a h
 rw [← hlen] at p1 hv ⊢
 obtain ⟨q,d,e,hd12,hq,k1,k2,k3,_⟩:=yDP hok p0 p1 (ysx hd h) hv D1 D2 hp hs
 obtain ⟨g1,g2⟩:=yEQ e
 have g2:mkM l p a=q:=g2
 rw [g2]
 exact ⟨e,⟨d,hd12,hq⟩,k1,k2,k3⟩
theorem yy3 (hd:DK l) {a:Nat} (h:a<l.length) {p:Rat} (hs:small p) (p0:0≤p) (p1:p≤((l.getD 0 default).len:Rat)) (e:mrkC (l.getD a default).cuts (l.getD a default).dens p (shN l a)=.ok (mkM l p a)) :
   mrkR (l.getD a default).len (l.getD a default).cuts (l.getD a default).dens p.num p.den (shN l a).num (shN l a).den=.ok (mkM l p a):=by
 have hok:=hd.ok a h
 have hsh:=yeC hd h
 have hp:=ysx hd h
 unfold mrkR
 rw [if_pos hok.ck,if_pos ⟨yDz hs p0 (by rw [hd.len a h];exact p1),hsh.rv,Rat.num_nonneg.2 (Rat.le_of_lt hp)⟩,yim,yim]
 exact e
theorem yvP (hd:DK l) {a:Nat} (h:a<l.length) {p:Rat} (hs:small p) (p0:0≤p) (p1:p≤((l.getD 0 default).len:Rat)) (e:mrkC (l.getD a default).cuts (l.getD a default).dens p (shN l a)=.ok (mkM l p a)) {m:Nat} (hm:m<2000) :
   ygH l p.num p.den m a=.ok (mkM l p a):=by
 unfold ygH qryR
 rw [if_pos (hd.err (by omega)),if_pos ⟨by omega,by omega⟩,Int.toNat_natCast]
 have:Ck.mark p.num p.den (shN l a).num (shN l a).den (l.getD a default)=.ok (mkM l p a):=yy3 hd h hs p0 p1 e
 rw [this]
 show (if m≥2000 then _ else _)=_
 rw [if_neg (by omega)]
theorem yDR (hd:DK l) {a:Nat} (h:a<l.length) {p:Rat} (hs:small p) (p0:0≤p) (p1:p≤((l.getD 0 default).len:Rat)) (e:mrkC (l.getD a default).cuts (l.getD a default).dens p (shN l a)=.ok (mkM l p a)):QR l (yjA l p.num p.den a (mkM l p a)):=by
 have hsh:=yeC hd h
 refine ⟨⟨by show (0:Int)≤a;omega,by show (a:Int)<_;omega⟩,⟨hs.i1,hs.i2,hsh.i1,hsh.i2⟩,mkM l p a,⟨rfl,rfl⟩,.inl ⟨rfl,?_⟩⟩
 show mrkR (l.getD a default).len (l.getD a default).cuts (l.getD a default).dens p.num p.den (shN l a).num (shN l a).den=_
 exact yy3 hd h hs p0 p1 e
end
end Go.Pf.Vc
namespace Go.Pf.Vc
open Go Go.Pf
section
variable {l:List Ck}
def vXA (l:List Ck) (a:Nat) (p:Rat):Rat:=vX (l.getD a default).cuts (l.getD a default).dens p
def lenR (l:List Ck):Rat:=((l.getD 0 default).len:Rat)
def spT (t:Nat→Rat) (j:Nat):Sp:=⟨(t j).num,(t j).den,(t (j+1)).num,(t (j+1)).den⟩
end
end Go.Pf.Vc
namespace Go.Pf.Vc
open Go Go.Pf
section
variable {l:List Ck}
theorem yjB {q r:Rat} (hq:small q) (hr:small r) (K:Bool→Prop):ybr q.num q.den r.num r.den K=K (decide (r<q)):=by
 unfold ybr ykG
 rw [yBh hq hr]
 congr 1
 unfold cmpQ
 by_cases h:q<r
 · rw [if_pos h]
   have:¬r<q:=fun h'=>by grind
   simp [this]
 · rw [if_neg h]
   by_cases h2:r<q
   · have:¬q=r:=fun e=>by grind
     simp [h2]
   · have:q=r:=by grind
     simp [this]
theorem ydC (hd:DK l) {a:Nat} (h2:a<l.length) {lg:List PV} (hm:lg.length≤2000) (K:Int→Int→Prop):ya9 (cks l) lg a K=K (shN l a).num (shN l a).den:=by
 have hok:=hd.ok a h2
 have tb:=yoI hok
 have n6:=hd.n6
 have h1:=VC.l1 hok;have h3:=VC.l2 hok
 unfold ya9 yiL ylQ ykz
 rw [yjy hd.fin (by omega),hd.err hm,cnF rfl,yAu,decide_eq_true (by omega),Bool.not_true,yac]
 simp only [lt]
 rw [yaX,Int.toNat_natCast,yfb h2,asT (by omega),asT (by omega),asCk,ck0,ck1,ck2,yCh (by omega) (by omega),if_pos (VC.ck hok),yDw ⟨by omega,by omega⟩ ⟨by omega,by omega⟩ (by omega),ye2]
 have:=yeC hd h2
 unfold shN shr at this ⊢
 rw [if_pos this]
structure TSt where
 lg:List Qy
 p:Rat
 w:Nat
 k:Nat
def valQ (an ad:Int) (a:Nat) (p v:Rat):Qy:=⟨a,1,an,ad,p.num,p.den,v.num,v.den⟩
def valE (l:List Ck) (an ad:Int) (m a:Nat) (p:Rat):Except Int Rat:=qryR l m a (Ck.value an ad p.num p.den)
def tR (l:List Ck) (an ad:Int):List Nat→TSt→Except Int TSt
 | [],s=>.ok s
 | a::r,s=>match valE l an ad s.lg.length a s.p with
   | .error e=>.error e
   | .ok v=>if shN l a<v then
       (match ygH l an ad (s.lg.length+1) a with
        | .error e=>.error e
        | .ok q=>tR l an ad r ⟨(s.lg++[valQ an ad a s.p v])++[yjA l an ad a q],q,a,s.k+1⟩)
     else tR l an ad r ⟨s.lg++[valQ an ad a s.p v],s.p,s.w,s.k⟩
theorem yy4 (cuts dens:List Int) (b:Rat):∀ (r i:Nat) (p sum v:Rat),small sum→valS cuts dens b r i p sum=.ok v→small v:=by
 intro r
 induction r with
 | zero=>intro i p sum v hs e;unfold valS at e;cases e;exact hs
 | succ r ih =>
   intro i p sum v hs e
   unfold valS fit at e
   repeat' (first | split at e | dsimp only at e)
   all_goals first | exact ih _ _ _ _ hs e | (rename_i h;exact ih _ _ _ _ h e) | cases e
theorem yrA {an ad:Int} {m a:Nat} {p v:Rat} (h:valE l an ad m a p=.ok v):small v:=by
 unfold valE qryR at h
 split at h
 · split at h
   · split at h
     · rename_i q hq
       split at h
       · cases h
       · cases h
         have hq:valR (l.getD a default).len (l.getD a default).cuts (l.getD a default).dens an ad p.num p.den=.ok v:=hq
         unfold valR at hq
         split at hq
         · split at hq
           · unfold valC at hq
             exact yy4 _ _ _ _ _ _ _ _ (by have:=yfo (x:=0) (by omega);simpa using this) hq
           · cases hq
         · cases hq
     · cases h
   · cases h
 · cases h
theorem yfp {an ad:Int} {m a:Nat} {q:Rat} (h:ygH l an ad m a=.ok q):small q:=yAw h
theorem yhs (hd:DK l) {a:Nat} (_:a<l.length) {an ad:Int} (ha:I64 an) (ha':I64 ad) (lg:List Qy) {p:Rat} (hp:small p) (K:List PV→List PV→Int→Int→Int→Prop) :
   yaZ (cks l) (logs lg) a an ad p.num p.den K =
     match valE l an ad lg.length a p with
     | .ok v=>K (cks l) (logs (lg++[valQ an ad a p v])) v.num v.den 0
     | .error e=>K [] [] 0 0 e:=by
 have n6:=hd.n6
 rw [yCk hd.fin (by omega) (yq3 lg) ha ha' hp.i1 hp.i2,yba]
 have em:qryR l lg.length a (Ck.value an ad p.num p.den)=valE l an ad lg.length a p:=rfl
 rw [em]
 cases valE l an ad lg.length a p with
 | ok v =>
   show K (cks l) (logs lg++[_]) _ _ _=K (cks l) (logs (lg++[_])) _ _ _
   rw [yy1];rfl
 | error c=>rfl
theorem yjC (hd:DK l) {a:Nat} (h:a<l.length) {an ad:Int} (ha:I64 an) (ha':I64 ad) (lg:List Qy) (K:List PV→List PV→Int→Int→Int→Prop) :
   ybh (cks l) (logs lg) a an ad (shN l a).num (shN l a).den K =
     match ygH l an ad lg.length a with
     | .ok p=>K (cks l) (logs (lg++[yjA l an ad a p])) p.num p.den 0
     | .error e=>K [] [] 0 0 e:=by
 have hs:=yeC hd h
 have n6:=hd.n6
 rw [yDE hd.fin (by omega) (yq3 lg) ha ha' hs.i1 hs.i2,yba]
 have em:qryR l lg.length a (Ck.mark an ad (shN l a).num (shN l a).den)=ygH l an ad lg.length a:=rfl
 rw [em]
 cases ygH l an ad lg.length a with
 | ok p =>
   show K (cks l) (logs lg++[_]) _ _ _=K (cks l) (logs (lg++[_])) _ _ _
   rw [yy1];rfl
 | error c=>rfl
theorem yy5 {m:Nat} {agent:Int} {k:Ck→Except Int Rat} (hk:∀ c,k c≠.error 0):qryR l m agent k≠.error 0:=by
 unfold qryR
 intro h
 split at h
 · split at h
   · split at h
     · split at h
       · cases h
       · cases h
     · rename_i c hc
       cases h
       exact hk _ hc
   · cases h
 · rename_i h0;exact h0 (Except.error.inj h)
theorem yy6 {an ad:Int} {m a:Nat} {p:Rat}:valE l an ad m a p≠.error 0:=yy5 fun _=>yy0
theorem ymM {an ad:Int} {m a:Nat}:ygH l an ad m a≠.error 0:=yy5 fun _=>yDG
theorem yAy {an ad:Int}:∀ (r:List Nat) (s:TSt),tR l an ad r s≠.error 0
 | [],s,h=>by cases h
 | a::r,s,h=>by
   unfold tR at h
   cases hv:valE l an ad s.lg.length a s.p with
   | error e=>rw [hv] at h;cases h;exact yy6 hv
   | ok v =>
     rw [hv] at h
     dsimp only at h
     split at h
     · cases hq:ygH l an ad (s.lg.length+1) a with
       | error e=>rw [hq] at h;cases h;exact ymM hq
       | ok q=>rw [hq] at h;exact yAy r _ h
     · exact yAy r _ h
theorem yeS {A:List Nat} {Z:List PV} {i:Nat} (h:i<A.length):List.getD (nts A++Z) i .nils=.int .i64 (A.getD i 0):=by
 rw [List.getD_eq_getElem?_getD,List.getElem?_append_left (by rw [ybb];exact h),← List.getD_eq_getElem?_getD,yh3 h]
theorem ycX (A:List Nat) (Z:List PV):(nts A++Z).length=A.length+Z.length:=by rw [List.length_append,ybb]
theorem yh4 {A r:List Nat} {i a:Nat} (h:A.drop i=a::r):i<A.length∧A.getD i 0=a∧A.drop (i+1)=r:=by
 have hlt:i<A.length:=by
   have:=congrArg List.length h
   rw [List.length_drop,List.length_cons] at this
   omega
 rw [List.drop_eq_getElem_cons hlt] at h
 rw [List.getD_eq_getElem?_getD,List.getElem?_eq_getElem hlt]
 exact ⟨hlt,(List.cons.inj h).1,(List.cons.inj h).2⟩
theorem ag0 (hd:DK l) {an ad:Int} (ha:I64 an) (ha':I64 ad) {A:List Nat} (hA:∀ a∈A,a<l.length) (hA6:A.length≤1000) (h2:2≤A.length) (Z:List PV) (b:List PV→List PV→List PV→Int→Int→Int→Int→Int→Int→Int→Int→Nat→Nat→Nat→Int→Int→Int→Int→Int→Int→Nat→Nat→Nat→Int→Int→Bool→Prop) (d:List PV→List PV→List PV→Int→Int→Int→Int→Int→Int→Int→Int→Nat→Nat→Nat→Int→Int→Int→Int→Int→Int→Int→Int→Nat→Nat→Nat→Int→Int→Bool→Prop) (c:List PV→List PV→List PV→Int→Int→Int→Int→Int→Int→Int→Int→Int→Int→Int→Int→Int→Int→Int→Prop) (i6:Int) (i7:Int) (n12:Nat) (n13:Nat) (i14:Int) (i15:Int) (i16:Int) (i17:Int) (i18:Int) (i19:Int) (n22:Nat) :
   ∀ (r:List Nat) (i:Nat) (s:TSt),A.drop i=r→1≤i→i≤A.length→small s.p→s.lg.length+2*r.length≤1900→s.k≤i →
   (match tR l an ad r s with | .ok s'=>b (nts A++Z) (cks l) (logs s'.lg) an ad (s'.w:Int) i6 i7 s'.p.num s'.p.den (s'.k:Int) A.length n12 n13 i14 i15 i16 i17 i18 i19 A.length (A.length+Z.length) n22 ((A.length:Nat):Int) ((A.length:Nat):Int) false | .error e=>∀ (q1:List PV) (q2:List PV) (q5:Int) (q8:Int) (q9:Int) (q10:Int),c (nts A++Z) q1 q2 an ad q5 i6 i7 q8 q9 q10 (0:Int) (0:Int) (0:Int) (0:Int) (0:Int) (0:Int) e)→∃ n,yaM yao yaZ ya9 ybr ybh b d c n (nts A++Z) (cks l) (logs s.lg) an ad (s.w:Int) i6 i7 s.p.num s.p.den (s.k:Int) A.length n12 n13 i14 i15 i16 i17 i18 i19 A.length (A.length+Z.length) n22 ((A.length:Nat):Int) ((i:Nat):Int)
 | [],i,s,hr,h1,hi,hs,hl,hk,h=>by
   have e:i=A.length:=by
     have:=congrArg List.length hr
     rw [List.length_drop,List.length_nil] at this
     omega
   subst e
   refine ⟨1,?_⟩
   unfold yaM
   rw [cbF (by omega)]
   exact h
 | a::r,i,s,hr,h1,hi,hs,hl,hk,h=>by
   obtain ⟨hlt,hg,hr'⟩:=yh4 hr
   have ham:a<l.length:=hA a (by rw [← hg,List.getD_eq_getElem?_getD,List.getElem?_eq_getElem hlt];exact List.getElem_mem hlt)
   have IH:=ag0 hd ha ha' hA hA6 h2 Z b d c i6 i7 n12 n13 i14 i15 i16 i17 i18 i19 n22 r (i+1)
   have ew:IntKind.i64.wrap ((i:Int)+1)=((i+1:Nat):Int):=by rw [wib (by omega) (by omega)];omega
   have ek:IntKind.i64.wrap ((s.k:Int)+1)=((s.k+1:Nat):Int):=by rw [wib (by omega) (by omega)];omega
   have step:∀ s1:TSt,tR l an ad (a::r) s=tR l an ad r s1→small s1.p→s1.lg.length≤s.lg.length+2→s1.k≤i+1→∃ n,yaM yao yaZ ya9 ybr ybh b d c n (nts A++Z) (cks l) (logs s1.lg) an ad (s1.w:Int) i6 i7 s1.p.num s1.p.den (s1.k:Int) A.length n12 n13 i14 i15 i16 i17 i18 i19 A.length (A.length+Z.length) n22 ((A.length:Nat):Int) ((i+1:Nat):Int):=by
     intro s1 he hs1 hl1 hk1
     refine IH s1 hr' (by omega) (by omega) hs1 (by rw [List.length_cons] at hl;omega) hk1 ?_
     rw [he] at h
     exact h
   have hh:=h
   unfold tR at hh
   cases hv:valE l an ad s.lg.length a s.p with
   | error e =>
     rw [hv] at hh
     have he0:e≠0:=fun e0=>yy6 (e0 ▸ hv)
     refine ⟨1,?_⟩
     unfold yaM
     simp only [Go.Pf.jn,lt]
     rw [cbT (by omega),asT (by omega),asT (by omega),ycX,asT (by omega),asT (by omega),Nat.zero_add,Int.toNat_natCast,yeS hlt,hg]
     simp only [conf,yfy,decide_true,yaj,yaa]
     rw [ceF (by omega),cbT (by omega),yhs hd ham ha ha' s.lg hs,hv]
     dsimp only
     rw [cnT he0]
     exact hh ..
   | ok v =>
     rw [hv] at hh
     dsimp only at hh
     have sv:small v:=yrA hv
     by_cases hm:shN l a<v
     · rw [if_pos hm] at hh
       cases hq:ygH l an ad (s.lg.length+1) a with
       | error e =>
         rw [hq] at hh
         have he0:e≠0:=fun e0=>ymM (e0 ▸ hq)
         refine ⟨1,?_⟩
         unfold yaM
         simp only [Go.Pf.jn,lt]
         rw [cbT (by omega),asT (by omega),asT (by omega),ycX,asT (by omega),asT (by omega),Nat.zero_add,Int.toNat_natCast,yeS hlt,hg]
         simp only [conf,yfy,decide_true,yaj,yaa]
         rw [ceF (by omega),cbT (by omega),yhs hd ham ha ha' s.lg hs,hv]
         dsimp only
         rw [cnF rfl,ydC hd ham (by rw [yba,List.length_append,List.length_singleton];rw [List.length_cons] at hl;omega),yjB sv (yeC hd ham),decide_eq_true hm,Bool.not_true,yac]
         rw [ydC hd ham (by rw [yba,List.length_append,List.length_singleton];rw [List.length_cons] at hl;omega),yjC hd ham ha ha' (s.lg++[valQ an ad a s.p v]),List.length_append,List.length_singleton,hq]
         dsimp only
         rw [ceF he0,cnT he0]
         exact hh ..
       | ok q =>
         rw [hq] at hh
         have sq:=yfp hq
         have he:tR l an ad (a::r) s=tR l an ad r ⟨(s.lg++[valQ an ad a s.p v])++[yjA l an ad a q],q,a,s.k+1⟩:=by
           rw [tR,hv]
           dsimp only
           rw [if_pos hm,hq]
         obtain ⟨n,hn⟩:=step _ he sq (by simp) (by show s.k+1≤i+1;omega)
         refine ⟨n+1,?_⟩
         unfold yaM
         simp only [Go.Pf.jn,lt]
         rw [cbT (by omega),asT (by omega),asT (by omega),ycX,asT (by omega),asT (by omega),Nat.zero_add,Int.toNat_natCast,yeS hlt,hg]
         simp only [conf,yfy,decide_true,yaj,yaa]
         rw [ceF (by omega),cbT (by omega),yhs hd ham ha ha' s.lg hs,hv]
         dsimp only
         rw [cnF rfl,ydC hd ham (by rw [yba,List.length_append,List.length_singleton];rw [List.length_cons] at hl;omega),yjB sv (yeC hd ham),decide_eq_true hm,Bool.not_true,yac]
         rw [ydC hd ham (by rw [yba,List.length_append,List.length_singleton];rw [List.length_cons] at hl;omega),yjC hd ham ha ha' (s.lg++[valQ an ad a s.p v]),List.length_append,List.length_singleton,hq]
         dsimp only
         rw [ceT rfl,cnF rfl,ew,ek]
         try simp only [decide_true,Nat.beq_refl,Bool.and_self,yaj]
         exact hn
     · have he:tR l an ad (a::r) s=tR l an ad r ⟨s.lg++[valQ an ad a s.p v],s.p,s.w,s.k⟩:=by
         rw [tR,hv]
         dsimp only
         rw [if_neg hm]
       obtain ⟨n,hn⟩:=step _ he hs (by simp) (by show s.k≤i+1;omega)
       refine ⟨n+1,?_⟩
       unfold yaM
       simp only [Go.Pf.jn,lt]
       rw [cbT (by omega),asT (by omega),asT (by omega),ycX,asT (by omega),asT (by omega),Nat.zero_add,Int.toNat_natCast,yeS hlt,hg]
       simp only [conf,yfy,decide_true,yaj,yaa]
       rw [ceF (by omega),cbT (by omega),yhs hd ham ha ha' s.lg hs,hv]
       dsimp only
       rw [cnF rfl,ydC hd ham (by rw [yba,List.length_append,List.length_singleton];rw [List.length_cons] at hl;omega),yjB sv (yeC hd ham),decide_eq_false hm,Bool.not_false,yaf,ew]
       try simp only [decide_true,Nat.beq_refl,Bool.and_self,yaj]
       exact hn
theorem yea {x:Int} {P:Prop}:asr (conf (.one (.i .i64)) (.int .i64 x)) P=P:=rfl
theorem ymN (a:Int) (K:Int→Int→Prop):yao a K=K a 1:=rfl
theorem iov {k:IntKind} {x:Int}:yaa (.int k x)=x:=rfl
def ycW (l:List Ck) (an ad:Int) (lg:List Qy):List Nat→Except Int TSt
 | []=>.error 2
 | [a]=>.ok ⟨lg,(((l.getD 0 default).len:Int):Rat),a,0⟩
 | a::b::r=>match ygH l an ad lg.length a with
   | .error e=>.error e
   | .ok p=>tR l an ad (b::r) ⟨lg++[yjA l an ad a p],p,a,0⟩
theorem yCq (hd:DK l) {an ad:Int} (ha:I64 an) (ha':I64 ad) {A:List Nat} (hA:∀ a∈A,a<l.length) (hA6:A.length≤900) (h0:A≠[]) (Z:List PV) (c:Nat) {lg:List Qy} (hl:lg.length+2*A.length≤1900) (K)
   (h:match ycW l an ad lg A with
     | .ok s=>K (cks l) (logs s.lg) (s.w:Int) an ad s.p.num s.p.den (s.k:Int) 0 (nts A++Z)
     | .error e=>K [] [] 0 0 0 0 0 0 e (nts A++Z)):yaH (cks l) (logs lg) (nts A++Z) A.length (A.length+Z.length) c an ad K:=by
 have n0:=hd.n0
 obtain ⟨a,r,rfl⟩:∃ a r,A=a::r:=by cases A with | nil=>exact absurd rfl h0 | cons a r=>exact ⟨a,r,rfl⟩
 have hlen:(a::r).length=r.length+1:=rfl
 have hlt:0<(a::r).length:=by omega
 have ham:a<l.length:=hA a List.mem_cons_self
 have hg:(a::r).getD 0 0=a:=rfl
 unfold yaH yiN
 simp only [lt,Go.Pf.jn]
 rw [asT (by omega),ycX,asT (by omega),asT (by omega),yeS hlt,hg,yea,iov,yaX,asT (by omega),yfb (by omega),asCk,ck0]
 rw [ymN]
 cases r with
 | nil =>
   refine ⟨1,?_⟩
   unfold yaM
   simp only [Go.Pf.jn,lt]
   rw [cbT (by simp),asT (by omega),asT (by simp),ycX,asT (by omega),asT (by simp;omega),show (0:Nat)+(0:Int).toNat=0 from rfl,yeS hlt,hg]
   simp only [conf,yfy,decide_true,yaj,yaa]
   rw [ceT (by simp)]
   have e1:((((l.getD 0 default).len:Int):Rat)).num=(l.getD 0 default).len:=Rat.num_intCast _
   have e2:(((((l.getD 0 default).len:Int):Rat)).den:Int)=1:=by rw [Rat.den_intCast];rfl
   simp only [ycW] at h
   rw [e1] at h
   have h:=h
   simp only [e2] at h
   exact h
 | cons b r =>
   simp only [ycW] at h
   cases hq:ygH l an ad lg.length a with
   | error e =>
     rw [hq] at h
     have he0:e≠0:=fun e0=>ymM (e0 ▸ hq)
     refine ⟨1,?_⟩
     unfold yaM
     simp only [Go.Pf.jn,lt]
     rw [cbT (by omega),asT (by omega),asT (by omega),ycX,asT (by omega),asT (by simp only [Int.toNat_zero];omega),show (0:Nat)+(0:Int).toNat=0 from rfl,yeS hlt,hg]
     simp only [conf,yfy,decide_true,yaj,yaa]
     rw [ceF (by simp only [List.length_cons];omega),cbF (by omega),ydC hd ham (by rw [yba];omega),yjC hd ham ha ha' lg,hq]
     dsimp only
     rw [ceF he0,cnT he0]
     exact h
   | ok p =>
     rw [hq] at h
     have sp:=yfp hq
     simp only [List.length_cons] at hl hA6
     obtain ⟨n,hn⟩:=ag0 hd ha ha' hA (by simp only [List.length_cons];omega) (by simp only [List.length_cons];omega) Z (fun v0 v1 v2 _ _ v5 v6 v7 v8 v9 v10 _ _ _ _ _ _ _ _ _ _ _ _ _ _ _=>asr (decide (v0.length=(a::b::r).length+Z.length)) (K v1 v2 v5 v6 v7 v8 v9 v10 0 v0)) (fun v0 v1 v2 _ _ v5 v6 v7 v8 v9 v10 _ _ _ _ _ _ _ _ _ _ _ _ _ _ _ _ _=>asr (decide (v0.length=(a::b::r).length+Z.length)) (K v1 v2 v5 v6 v7 v8 v9 v10 0 v0)) (fun v0 _ _ _ _ _ _ _ _ _ _ v11 v12 v13 v14 v15 v16 v17=>asr (decide (v0.length=(a::b::r).length+Z.length)) (K [] [] v11 v12 v13 v14 v15 v16 v17 v0)) an ad ((a::b::r).length+Z.length) c 0 0 0 0 0 0 c (b::r) 1 ⟨lg++[yjA l an ad a p],p,a,0⟩ rfl (by omega) (by simp only [List.length_cons];omega) sp (by simp only [List.length_append,List.length_cons,List.length_nil];omega) (Nat.zero_le _) (by
       revert h
       dsimp only
       cases hr:tR l an ad (b::r) ⟨lg++[yjA l an ad a p],p,a,0⟩ with
       | ok s'=>intro h;dsimp only;rw [ycX,asT (by omega)];exact h
       | error e=>intro h;dsimp only;intros;rw [ycX,asT (by omega)];exact h)
     refine ⟨n+1,?_⟩
     unfold yaM
     simp only [Go.Pf.jn,lt]
     rw [cbT (by simp only [List.length_cons];omega),asT (by omega),asT (by simp only [List.length_cons];omega),ycX,asT (by omega),asT (by simp only [Int.toNat_zero,List.length_cons];omega),show (0:Nat)+(0:Int).toNat=0 from rfl,yeS hlt,hg]
     simp only [conf,yfy,decide_true,yaj,yaa]
     rw [ceF (by simp only [List.length_cons];omega),cbF (by omega),ydC hd ham (by rw [yba];omega),yjC hd ham ha ha' lg,hq]
     dsimp only
     rw [ceT rfl,cnF rfl]
     exact hn
end
end Go.Pf.Vc
namespace Go.Pf.Vc
open Go Go.Pf
theorem yio (a b:List Nat):nts (a++b)=nts a++nts b:=by unfold nts ints;rw [List.map_append,List.map_append]
theorem yjD (P Y:List Nat) (w:Nat):(P++w::Y).getD P.length 0=w:=by
 rw [List.getD_eq_getElem?_getD,List.getElem?_append_right (Nat.le_refl _),Nat.sub_self];rfl
theorem yvQ (P Y:List Nat) (c w:Nat):(P++c::w::Y).getD (P.length+1) 0=w:=by
 rw [List.getD_eq_getElem?_getD,List.getElem?_append_right (by omega),show P.length+1-P.length=1 by omega];rfl
theorem yBw (P Y:List Nat) (c y:Nat) (Z:List PV):List.set (nts (P++c::y::Y)++Z) P.length (.int .i64 y)=nts ((P++[y])++y::Y)++Z:=by
 have e:P.length=(nts P).length:=(ybb P).symm
 rw [yio,List.append_assoc,e,List.set_append_right _ _ (Nat.le_refl _),Nat.sub_self,yio,yio]
 simp [nts,ints]
theorem sr0 (Z:List PV) {A Y:List Nat} {w:Nat} (b:List PV→List PV→List PV→List PV→Nat→Nat→Nat→List PV→Int→List PV→List PV→Int→Int→Int→Int→Int→Int→List PV→List PV→Int→Int→Int→Int→Int→Int→Nat→Nat→Nat→Int→Int→Bool→Prop) (a:List PV→List PV→List PV→List PV→Nat→Nat→Nat→List PV→Int→List PV→List PV→Int→Int→Int→Int→Int→Int→List PV→List PV→Int→Int→Int→Int→Int→Int→Int→Prop) (l0:List PV) (l2:List PV) (l3:List PV) (n4:Nat) (n5:Nat) (n6:Nat) (l9:List PV) (i10:Int) (l11:List PV) (l12:List PV) (i14:Int) (i15:Int) (i16:Int) (i17:Int) (i18:Int) (l19:List PV) (l20:List PV) (i21:Int) (i22:Int) (i23:Int) (i24:Int) (i25:Int) (i26:Int) (n29:Nat):∀ (X2 P:List Nat) (n:Nat),A=P++X2++w::Y→w∉X2→A.length≤1000→X2.length<n →
   a l0 (nts A++Z) l2 l3 n4 n5 n6 l9 i10 l11 l12 (w:Int) i14 i15 i16 i17 i18 l19 l20 i21 i22 i23 i24 i25 i26 (((P++X2).length:Nat):Int)→ydx yaJ yao yaH b a n l0 (nts A++Z) l2 l3 n4 n5 n6 l9 i10 l11 l12 (w:Int) i14 i15 i16 i17 i18 l19 l20 i21 i22 i23 i24 i25 i26 A.length (A.length+Z.length) n29 ((A.length:Nat):Int) ((P.length:Nat):Int)
 | [],P,n,hA,hw,h6,hn,h=>by
   obtain ⟨n,rfl⟩:∃ k,n=k+1:=⟨n-1,by omega⟩
   rw [List.append_nil] at hA h
   have hl:=congrArg List.length hA
   simp only [List.length_append,List.length_cons] at hl
   have hg:A.getD P.length 0=w:=by rw [hA];exact yjD P Y w
   unfold ydx
   simp only [lt]
   rw [cbT (by omega),asT (by omega),asT (by omega),ycX,asT (by omega),asT (by omega),Nat.zero_add,Int.toNat_natCast,yeS (by omega),hg,yea,iov,ceT rfl]
   exact h
 | x::X2,P,n,hA,hw,h6,hn,h=>by
   obtain ⟨n,rfl⟩:∃ k,n=k+1:=⟨n-1,by omega⟩
   have hl:=congrArg List.length hA
   simp only [List.length_append,List.length_cons] at hl
   simp only [List.length_cons] at hn
   have hg:A.getD P.length 0=x:=by rw [hA,List.append_assoc];exact yjD P _ x
   have hx:(x:Int)≠(w:Int):=fun e=>hw (by rw [Int.ofNat_inj.1 e];exact List.mem_cons_self)
   have ew:IntKind.i64.wrap ((P.length:Int)+1)=(((P++[x]).length:Nat):Int):=by rw [wib (by omega) (by omega)];simp only [List.length_append,List.length_cons,List.length_nil];omega
   have:=sr0 Z (Y:=Y) b a l0 l2 l3 n4 n5 n6 l9 i10 l11 l12 i14 i15 i16 i17 i18 l19 l20 i21 i22 i23 i24 i25 i26 n29 X2 (P++[x]) n (by rw [hA];simp) (fun hm=>hw (List.mem_cons_of_mem _ hm)) h6 (by omega) (by
     have e:((P++[x])++X2).length=(P++x::X2).length:=by simp
     rw [e];exact h)
   unfold ydx
   simp only [lt]
   rw [cbT (by omega),asT (by omega),asT (by omega),ycX,asT (by omega),asT (by omega),Nat.zero_add,Int.toNat_natCast,yeS (by omega),hg,yea,iov,ceF hx,ew]
   try simp only [decide_true,Bool.and_self,yaj]
   exact this
theorem rm0 (Z:List PV) {w N:Nat} (a:List PV→List PV→List PV→List PV→Nat→Nat→Nat→List PV→Int→List PV→List PV→Int→Int→Int→Int→Int→Int→List PV→List PV→Int→Int→Int→Int→Int→Int→Nat→Nat→Nat→Int→Int→Bool→Prop) (l0:List PV) (l2:List PV) (l3:List PV) (n4:Nat) (n5:Nat) (n6:Nat) (l9:List PV) (i10:Int) (l11:List PV) (l12:List PV) (i14:Int) (i15:Int) (i16:Int) (i17:Int) (i18:Int) (l19:List PV) (l20:List PV) (i21:Int) (i22:Int) (i23:Int) (i24:Int) (i25:Int) (i26:Int) (n29:Nat):∀ (Y2 P:List Nat) (c n:Nat),w∉Y2→P.length+1+Y2.length=N→N≤1000→Y2.length<n →
   (∀ c',a l0 (nts ((P++Y2)++[c'])++Z) l2 l3 n4 n5 n6 l9 i10 l11 l12 (w:Int) i14 i15 i16 i17 i18 l19 l20 i21 i22 i23 i24 i25 i26 N (N+Z.length) n29 (((P++Y2).length:Nat):Int) ((N:Nat):Int) false)→ydz yaJ yao yaH a n l0 (nts (P++c::Y2)++Z) l2 l3 n4 n5 n6 l9 i10 l11 l12 (w:Int) i14 i15 i16 i17 i18 l19 l20 i21 i22 i23 i24 i25 i26 N (N+Z.length) n29 ((P.length:Nat):Int) ((P.length+1:Nat):Int)
 | [],P,c,n,hw,hN,h6,hn,h=>by
   obtain ⟨n,rfl⟩:∃ k,n=k+1:=⟨n-1,by omega⟩
   simp only [List.length_nil] at hN
   have h:=h c
   rw [List.append_nil] at h
   have e:N=P.length+1:=by omega
   subst e
   unfold ydz
   rw [cbF (by omega)]
   exact h
 | y::Y3,P,c,n,hw,hN,h6,hn,h=>by
   obtain ⟨n,rfl⟩:∃ k,n=k+1:=⟨n-1,by omega⟩
   simp only [List.length_cons] at hn hN
   have hy:(y:Int)≠(w:Int):=fun e=>hw (by rw [Int.ofNat_inj.1 e];exact List.mem_cons_self)
   have hlen:(P++c::y::Y3).length=N:=by simp only [List.length_append,List.length_cons];omega
   have e1:IntKind.i64.wrap ((P.length:Int)+1)=(((P++[y]).length:Nat):Int):=by rw [wib (by omega) (by omega)];simp only [List.length_append,List.length_cons,List.length_nil];omega
   have e2:IntKind.i64.wrap (((P.length+1:Nat):Int)+1)=(((P++[y]).length+1:Nat):Int):=by rw [wib (by omega) (by omega)];simp only [List.length_append,List.length_cons,List.length_nil];omega
   have:=rm0 Z a l0 l2 l3 n4 n5 n6 l9 i10 l11 l12 i14 i15 i16 i17 i18 l19 l20 i21 i22 i23 i24 i25 i26 n29 Y3 (P++[y]) y n (fun hm=>hw (List.mem_cons_of_mem _ hm)) (by rw [List.length_append];simp only [List.length_cons,List.length_nil];omega) h6 (by omega) (by
     intro c'
     have:=h c'
     rw [show P++y::Y3=P++[y]++Y3 by simp] at this
     exact this)
   unfold ydz
   simp only [lt,Go.Pf.jn]
   rw [cbT (by omega),asT (by omega),asT (by omega),ycX,hlen,asT (by omega),asT (by omega),Nat.zero_add,Int.toNat_natCast,yeS (by omega),yvQ,yea,iov,yDx hy,Bool.not_false,yaf]
   rw [asT (by omega),asT (by omega),asT (by omega),Nat.zero_add,Int.toNat_natCast,asT (by omega),yeS (by omega),yjD,yea,yBw,e1,e2]
   try simp only [decide_true,Bool.and_self,yaj]
   exact this
theorem sr1 (Z:List PV) {A Y:List Nat} {w:Nat} (b:List PV→List PV→List PV→List PV→Nat→Nat→Nat→List PV→Int→List PV→List PV→Int→Int→Int→Int→Int→Int→List PV→List PV→Int→Int→Int→Int→Int→Int→Nat→Nat→Nat→Int→Int→Bool→Prop) (a:List PV→List PV→List PV→List PV→Nat→Nat→Nat→List PV→Int→List PV→List PV→Int→Int→Int→Int→Int→Int→List PV→List PV→Int→Int→Int→Int→Int→Int→Int→Prop) (l0:List PV) (l2:List PV) (l3:List PV) (n4:Nat) (n5:Nat) (n6:Nat) (l9:List PV) (i10:Int) (l11:List PV) (l12:List PV) (i14:Int) (i15:Int) (i16:Int) (i17:Int) (i18:Int) (l19:List PV) (l20:List PV) (i21:Int) (i22:Int) (i23:Int) (i24:Int) (i25:Int) (i26:Int) (n29:Nat):∀ (X2 P:List Nat) (n:Nat),A=P++X2++w::Y→w∉X2→A.length≤1000→X2.length<n →
   a l0 (nts A++Z) l2 l3 n4 n5 n6 l9 i10 l11 l12 (w:Int) i14 i15 i16 i17 i18 l19 l20 i21 i22 i23 i24 i25 i26 (((P++X2).length:Nat):Int)→ydy yaJ yao yaH b a n l0 (nts A++Z) l2 l3 n4 n5 n6 l9 i10 l11 l12 (w:Int) i14 i15 i16 i17 i18 l19 l20 i21 i22 i23 i24 i25 i26 A.length (A.length+Z.length) n29 ((A.length:Nat):Int) ((P.length:Nat):Int)
 | [],P,n,hA,hw,h6,hn,h=>by
   obtain ⟨n,rfl⟩:∃ k,n=k+1:=⟨n-1,by omega⟩
   rw [List.append_nil] at hA h
   have hl:=congrArg List.length hA
   simp only [List.length_append,List.length_cons] at hl
   have hg:A.getD P.length 0=w:=by rw [hA];exact yjD P Y w
   unfold ydy
   simp only [lt]
   rw [cbT (by omega),asT (by omega),asT (by omega),ycX,asT (by omega),asT (by omega),Nat.zero_add,Int.toNat_natCast,yeS (by omega),hg,yea,iov,ceT rfl]
   exact h
 | x::X2,P,n,hA,hw,h6,hn,h=>by
   obtain ⟨n,rfl⟩:∃ k,n=k+1:=⟨n-1,by omega⟩
   have hl:=congrArg List.length hA
   simp only [List.length_append,List.length_cons] at hl
   simp only [List.length_cons] at hn
   have hg:A.getD P.length 0=x:=by rw [hA,List.append_assoc];exact yjD P _ x
   have hx:(x:Int)≠(w:Int):=fun e=>hw (by rw [Int.ofNat_inj.1 e];exact List.mem_cons_self)
   have ew:IntKind.i64.wrap ((P.length:Int)+1)=(((P++[x]).length:Nat):Int):=by rw [wib (by omega) (by omega)];simp only [List.length_append,List.length_cons,List.length_nil];omega
   have:=sr1 Z (Y:=Y) b a l0 l2 l3 n4 n5 n6 l9 i10 l11 l12 i14 i15 i16 i17 i18 l19 l20 i21 i22 i23 i24 i25 i26 n29 X2 (P++[x]) n (by rw [hA];simp) (fun hm=>hw (List.mem_cons_of_mem _ hm)) h6 (by omega) (by
     have e:((P++[x])++X2).length=(P++x::X2).length:=by simp
     rw [e];exact h)
   unfold ydy
   simp only [lt]
   rw [cbT (by omega),asT (by omega),asT (by omega),ycX,asT (by omega),asT (by omega),Nat.zero_add,Int.toNat_natCast,yeS (by omega),hg,yea,iov,ceF hx,ew]
   try simp only [decide_true,Bool.and_self,yaj]
   exact this
theorem rm1 (Z:List PV) {w N:Nat} (a:List PV→List PV→List PV→List PV→Nat→Nat→Nat→List PV→Int→List PV→List PV→Int→Int→Int→Int→Int→Int→List PV→List PV→Int→Int→Int→Int→Int→Int→Nat→Nat→Nat→Int→Int→Bool→Prop) (l0:List PV) (l2:List PV) (l3:List PV) (n4:Nat) (n5:Nat) (n6:Nat) (l9:List PV) (i10:Int) (l11:List PV) (l12:List PV) (i14:Int) (i15:Int) (i16:Int) (i17:Int) (i18:Int) (l19:List PV) (l20:List PV) (i21:Int) (i22:Int) (i23:Int) (i24:Int) (i25:Int) (i26:Int) (n29:Nat):∀ (Y2 P:List Nat) (c n:Nat),w∉Y2→P.length+1+Y2.length=N→N≤1000→Y2.length<n →
   (∀ c',a l0 (nts ((P++Y2)++[c'])++Z) l2 l3 n4 n5 n6 l9 i10 l11 l12 (w:Int) i14 i15 i16 i17 i18 l19 l20 i21 i22 i23 i24 i25 i26 N (N+Z.length) n29 (((P++Y2).length:Nat):Int) ((N:Nat):Int) false)→ydA yaJ yao yaH a n l0 (nts (P++c::Y2)++Z) l2 l3 n4 n5 n6 l9 i10 l11 l12 (w:Int) i14 i15 i16 i17 i18 l19 l20 i21 i22 i23 i24 i25 i26 N (N+Z.length) n29 ((P.length:Nat):Int) ((P.length+1:Nat):Int)
 | [],P,c,n,hw,hN,h6,hn,h=>by
   obtain ⟨n,rfl⟩:∃ k,n=k+1:=⟨n-1,by omega⟩
   simp only [List.length_nil] at hN
   have h:=h c
   rw [List.append_nil] at h
   have e:N=P.length+1:=by omega
   subst e
   unfold ydA
   rw [cbF (by omega)]
   exact h
 | y::Y3,P,c,n,hw,hN,h6,hn,h=>by
   obtain ⟨n,rfl⟩:∃ k,n=k+1:=⟨n-1,by omega⟩
   simp only [List.length_cons] at hn hN
   have hy:(y:Int)≠(w:Int):=fun e=>hw (by rw [Int.ofNat_inj.1 e];exact List.mem_cons_self)
   have hlen:(P++c::y::Y3).length=N:=by simp only [List.length_append,List.length_cons];omega
   have e1:IntKind.i64.wrap ((P.length:Int)+1)=(((P++[y]).length:Nat):Int):=by rw [wib (by omega) (by omega)];simp only [List.length_append,List.length_cons,List.length_nil];omega
   have e2:IntKind.i64.wrap (((P.length+1:Nat):Int)+1)=(((P++[y]).length+1:Nat):Int):=by rw [wib (by omega) (by omega)];simp only [List.length_append,List.length_cons,List.length_nil];omega
   have:=rm1 Z a l0 l2 l3 n4 n5 n6 l9 i10 l11 l12 i14 i15 i16 i17 i18 l19 l20 i21 i22 i23 i24 i25 i26 n29 Y3 (P++[y]) y n (fun hm=>hw (List.mem_cons_of_mem _ hm)) (by rw [List.length_append];simp only [List.length_cons,List.length_nil];omega) h6 (by omega) (by
     intro c'
     have:=h c'
     rw [show P++y::Y3=P++[y]++Y3 by simp] at this
     exact this)
   unfold ydA
   simp only [lt,Go.Pf.jn]
   rw [cbT (by omega),asT (by omega),asT (by omega),ycX,hlen,asT (by omega),asT (by omega),Nat.zero_add,Int.toNat_natCast,yeS (by omega),yvQ,yea,iov,yDx hy,Bool.not_false,yaf]
   rw [asT (by omega),asT (by omega),asT (by omega),Nat.zero_add,Int.toNat_natCast,asT (by omega),yeS (by omega),yjD,yea,yBw,e1,e2]
   try simp only [decide_true,Bool.and_self,yaj]
   exact this
end Go.Pf.Vc
namespace Go.Pf.Vc
open Go Go.Pf
structure Tn where
 a:Nat
 f:Rat
 t:Rat
 k:Nat
def tnE (x:Tn):PV:=.agg [.int .i64 x.a,.int .i64 x.f.num,.int .i64 x.f.den,.int .i64 x.t.num,.int .i64 x.t.den,.int .i64 x.k]
def tns (l:List Tn):List PV:=l.map tnE
def spE (x:Tn):PV:=.data [.agg [.int .i64 x.f.num,.int .i64 x.f.den,.int .i64 x.t.num,.int .i64 x.t.den]]
def pcs (n:Nat) (ts:List Tn):List PV:=ts.foldl (fun P t=>P.set t.a (spE t)) (List.replicate n (.data []))
theorem yBx (a:List Tn) (x:Tn):tns (a++[x])=tns a++[tnE x]:=by unfold tns;rw [List.map_append];rfl
theorem yhm (a:List Tn):(tns a).length=a.length:=by unfold tns;rw [List.length_map]
theorem ysy (n:Nat) (a:List Tn) (x:Tn):pcs n (a++[x])=(pcs n a).set x.a (spE x):=by unfold pcs;rw [List.foldl_append];rfl
def yrB:List PV→Prop
 | []=>True
 | x::r=>(∃ d,x=.data d)∧yrB r
theorem yvR:∀ (l:List PV) (i:Nat) (d:List PV),yrB l→yrB (l.set i (.data d))
 | [],_,_,_=>trivial
 | _::_,0,d,h=>⟨⟨d,rfl⟩,h.2⟩
 | _::r,i+1,d,h=>⟨h.1,yvR r i d h.2⟩
theorem ymO:∀ n:Nat,yrB (List.replicate n (.data []))
 | 0=>trivial
 | n+1=>⟨⟨[],rfl⟩,ymO n⟩
theorem yvS:∀ (l:List PV) (i:Nat),yrB l→i<l.length→∃ d,List.getD l i .nils=.data d
 | [],i,_,h=>by simp at h
 | x::r,0,h,_=>h.1
 | x::r,i+1,h,hi=>yvS r i h.2 (by simpa using hi)
theorem ypZ:∀ (ts:List Tn) (P:List PV) (n:Nat),P.length=n→yrB P→(ts.foldl (fun P t=>P.set t.a (spE t)) P).length=n∧yrB (ts.foldl (fun P t=>P.set t.a (spE t)) P)
 | [],P,n,h1,h2=>⟨h1,h2⟩
 | t::r,P,n,h1,h2=>ypZ r (P.set t.a (spE t)) n (by rw [List.length_set];exact h1) (yvR P t.a _ h2)
theorem ygr (n:Nat) (ts:List Tn):(pcs n ts).length=n:=(ypZ ts _ n List.length_replicate (ymO n)).1
theorem yAz (n:Nat) (ts:List Tn) {i:Nat} (h:i<n):∃ d,List.getD (pcs n ts) i .nils=.data d:=yvS _ i (ypZ ts _ n List.length_replicate (ymO n)).2 (by rw [ygr];exact h)
def nofn (l:List PV):Prop:=ya2 (noY 0) (fun _=>true) l=true
theorem yuc:∀ l:List PV,yrB l→nofn l
 | [],_=>rfl
 | x::r,⟨⟨d,e⟩,h⟩=>by subst e;exact yuc r h
theorem yud (n:Nat) (ts:List Tn):nofn (pcs n ts):=yuc _ (ypZ ts _ n List.length_replicate (ymO n)).2
theorem yue:∀ ts:List Tn,nofn (tns ts)
 | []=>rfl
 | _::r=>yue r
theorem yjE:∀ (a b:List PV),nofn a→nofn b→nofn (a++b)
 | [],b,_,h=>h
 | x::r,b,h,k=>by
   unfold nofn at h ⊢
   simp only [ya2,Bool.and_eq_true] at h
   simp only [List.cons_append,ya2,Bool.and_eq_true]
   exact ⟨h.1,yjE r b h.2 k⟩
theorem yjF:∀ A:List Nat,nofn (nts A)
 | []=>rfl
 | _::r=>yjF r
theorem yBy (B:List Nat) (c:Nat) (Z:List PV):List.take B.length (nts (B++[c])++Z)++(List.replicate 1 (PV.int .i64 0)++List.drop (B.length+1) (nts (B++[c])++Z))=nts B++(.int .i64 0::Z):=by
 have e:B.length=(nts B).length:=(ybb B).symm
 have e1:nts (B++[c])++Z=nts B++(.int .i64 c::Z):=by rw [yio,List.append_assoc];rfl
 rw [e1,e,List.take_left,List.drop_append,List.drop_of_length_le (by omega)]
 simp
theorem ymP {X Y:List Nat} {w:Nat} (h:w∉X):(X++w::Y).erase w=X++Y:=by
 rw [List.erase_append_right _ h,List.erase_cons_head]
section
variable {l:List Ck}
theorem yDS {an ad:Int}:∀ (r:List Nat) (s s':TSt),tR l an ad r s=.ok s'→small s.p→(s'.w=s.w∨s'.w∈r)∧small s'.p∧s'.lg.length≤s.lg.length+2*r.length∧s'.k≤s.k+r.length
 | [],s,s',h,hs=>by cases h;exact ⟨.inl rfl,hs,by omega,by omega⟩
 | a::r,s,s',h,hs=>by
   unfold tR at h
   cases hv:valE l an ad s.lg.length a s.p with
   | error e=>rw [hv] at h;cases h
   | ok v =>
     rw [hv] at h
     dsimp only at h
     split at h
     · cases hq:ygH l an ad (s.lg.length+1) a with
       | error e=>rw [hq] at h;cases h
       | ok q =>
         rw [hq] at h
         obtain ⟨h1,h2,h3,h4⟩:=yDS r _ s' h (yfp hq)
         refine ⟨.inr ?_,h2,?_,?_⟩
         · rcases h1 with h1 | h1
           · rw [h1];exact List.mem_cons_self
           · exact List.mem_cons_of_mem _ h1
         · simp only [List.length_append,List.length_cons,List.length_nil] at h3 ⊢;omega
         · simp only [List.length_cons];simp only at h4;omega
     · obtain ⟨h1,h2,h3,h4⟩:=yDS r _ s' h hs
       refine ⟨?_,h2,?_,?_⟩
       · rcases h1 with h1 | h1
         · exact .inl h1
         · exact .inr (List.mem_cons_of_mem _ h1)
       · simp only [List.length_append,List.length_cons,List.length_nil] at h3 ⊢;omega
       · simp only [List.length_cons];simp only at h4;omega
theorem yq5 (hd:DK l) {an ad:Int} {lg:List Qy} {A:List Nat} {s:TSt} (h:ycW l an ad lg A=.ok s):s.w∈A∧small s.p∧s.lg.length≤lg.length+2*A.length∧s.k≤A.length:=by
 cases A with
 | nil=>cases h
 | cons a r =>
   cases r with
   | nil =>
     simp only [ycW,Except.ok.injEq] at h
     subst h
     have hok:=hd.ok 0 (by have:=hd.n0;omega)
     have:=VC.len0 hok
     exact ⟨List.mem_cons_self,yfo (by omega),by simp only [List.length_cons];omega,by simp only [List.length_cons];omega⟩
   | cons b r =>
     simp only [ycW] at h
     cases hq:ygH l an ad lg.length a with
     | error e=>rw [hq] at h;cases h
     | ok p =>
       rw [hq] at h
       obtain ⟨h1,h2,h3,h4⟩:=yDS _ _ s h (yfp hq)
       refine ⟨?_,h2,?_,?_⟩
       · rcases h1 with h1 | h1
         · rw [h1];exact List.mem_cons_self
         · exact List.mem_cons_of_mem _ h1
       · simp only [List.length_append,List.length_cons,List.length_nil] at h3 ⊢;omega
       · simp only [List.length_cons] at h4 ⊢;omega
def tGo (l:List Ck):Nat→List Nat→List Qy→Rat→List Tn→Except Int (List Tn×List Qy)
 | 0,_,_,_,_=>.error 2
 | m+1,A,lg,q,ts=>match ycW l q.num q.den lg A with
   | .error e=>.error e
   | .ok s=>if A.length=1 then .ok (ts++[⟨s.w,q,s.p,s.k⟩],s.lg) else tGo l m (A.erase s.w) s.lg s.p (ts++[⟨s.w,q,s.p,s.k⟩])
theorem ykL {an ad:Int} {lg:List Qy} {A:List Nat}:ycW l an ad lg A≠.error 0:=by
 intro h
 cases A with
 | nil=>cases h
 | cons a r =>
   cases r with
   | nil=>cases h
   | cons b r =>
     simp only [ycW] at h
     cases hq:ygH l an ad lg.length a with
     | error e=>rw [hq] at h;cases h;exact ymM hq
     | ok p=>rw [hq] at h;exact yAy _ _ h
theorem ygd (hd:DK l) {an ad:Int} (ha:I64 an) (ha':I64 ad) {A:List Nat} (hA:∀ a∈A,a<l.length) (hA6:A.length≤900) (h0:A≠[]) (Z:List PV) (c:Nat) {lg:List Qy} (hl:lg.length+2*A.length≤1900) (K)
   (h1:∀ s,ycW l an ad lg A=.ok s→K (cks l) (logs s.lg) (s.w:Int) an ad s.p.num s.p.den (s.k:Int) 0 (nts A++Z)) (h2:∀ e,ycW l an ad lg A=.error e→K [] [] 0 0 0 0 0 0 e (nts A++Z)) :
   yaH (cks l) (logs lg) (nts A++Z) A.length (A.length+Z.length) c an ad K:=by
 refine yCq hd ha ha' hA hA6 h0 Z c hl K ?_
 cases h:ycW l an ad lg A with
 | ok s=>exact h1 s h
 | error e=>exact h2 e h
theorem yBz:∀ (m:Nat) (A:List Nat) (lg:List Qy) (q:Rat) (ts:List Tn),tGo l m A lg q ts≠.error 0
 | 0,A,lg,q,ts,h=>by cases h
 | m+1,A,lg,q,ts,h=>by
   unfold tGo at h
   cases hR:ycW l q.num q.den lg A with
   | error e=>rw [hR] at h;cases h;exact ykL hR
   | ok s =>
     rw [hR] at h
     dsimp only at h
     split at h
     · cases h
     · exact yBz m _ _ _ _ h
theorem asTw {P:Prop}:asr (decide True) P=P:=by rw [decide_true];rfl
theorem yFn {n:Nat} {P:Prop}:asr (!decide (0+n+1≤n)) P=P:=by rw [decide_eq_false (by omega)];rfl
theorem asOr {a:Int} {b:Bool} {P:Prop}:asr (decide (a≤a)||b) P=P:=by rw [decide_eq_true (by omega)];rfl
theorem yBA {d:List PV} {P:Prop}:asr (conf (.one .d) (.data d)) P=P:=rfl
theorem go1 (hd:DK l) (f:List PV→List PV→List PV→List PV→Nat→Nat→Nat→List PV→Int→List PV→List PV→Nat→Nat→Nat→Int→Int→Bool→Prop) (b:List PV→List PV→List PV→List PV→Nat→Nat→Nat→List PV→Int→List PV→List PV→Int→Int→Int→Int→Int→Int→Prop) (d:List PV→List PV→List PV→List PV→Nat→Nat→Nat→List PV→Int→List PV→List PV→Int→Int→Int→Int→Int→Int→List PV→List PV→Int→Int→Int→Int→Int→Int→Nat→Nat→Nat→Int→Int→List PV→List PV→Int→Bool→List PV→List PV→Int→Int→Int→Int→Int→Int→Bool→Bool→Prop):∀ (m:Nat) (A:List Nat) (Z:List PV) (c:Nat) (q:Rat) (lg:List Qy) (ts:List Tn) (lgd:List PV),A.length=m+1→A.Nodup→(∀ a∈A,a<l.length)→ts.length+A.length=l.length→small q→lg.length≤20*ts.length→nofn Z →
   (match tGo l (m+1) A lg q ts with
     | .ok (ts',lg')=>∀ (r1:List PV) (j9:List PV) (j10:List PV) (j11:Int) (j12:Int) (j13:Int) (j14:Int) (j15:Int) (j16:Int) (j17:List PV) (j18:List PV) (j19:Int) (j20:Int) (j21:Int) (j22:Int) (j23:Int) (j24:Int) (j25:Nat) (j26:Nat) (j27:Nat) (j28:Int) (j29:Int) (j30:List PV) (j31:List PV) (j32:Int) (j33:Bool) (j34:List PV) (j35:List PV) (j36:Int) (j37:Int) (j38:Int) (j39:Int) (j40:Int) (j41:Int) (j42:Bool) (j43:Bool),nofn r1→d (pcs l.length ts') r1 (tns ts') (cks l) l.length l.length l.length (logs lg') 0 j9 j10 j11 j12 j13 j14 j15 j16 j17 j18 j19 j20 j21 j22 j23 j24 j25 j26 j27 j28 j29 j30 j31 j32 j33 j34 j35 j36 j37 j38 j39 j40 j41 j42 j43
     | .error e=>∀ (r1:List PV) (ts':List Tn) (lgx:List PV) (j9:List PV) (j10:List PV) (j11:Int) (j12:Int) (j13:Int) (j14:Int) (j15:Int) (j16:Int),nofn r1→b (pcs l.length ts') r1 (tns ts') (cks l) l.length l.length l.length lgx e j9 j10 j11 j12 j13 j14 j15 j16)→∃ n,ycU yaJ yao yaH f b d n (pcs l.length ts) (nts A++Z) (tns ts) (cks l) l.length l.length l.length lgd 0 (cks l) (logs lg) A.length (A.length+Z.length) c q.num q.den:=by
 intro m
 induction m with
 | zero =>
   intro A Z c q lg ts lgd hm hnd hA hts hq hlg hZ h
   have n6:=hd.n6
   unfold tGo at h
   refine ⟨1,?_⟩
   unfold ycU
   simp only [Go.Pf.jn,lt]
   rw [cbT (by omega)]
   refine ygd hd hq.i1 hq.i2 hA (by omega) (fun e=>by rw [e] at hm;cases hm) Z c (by omega) _ (fun s hR=>?_) (fun e hR=>?_)
   case refine_2 =>
     rw [hR] at h
     show cbr _ _ _
     rw [cnT (fun e0=>ykL (e0 ▸ hR))]
     exact h _ _ _ _ _ _ _ _ _ _ _ (yjE _ _ (yjF A) hZ)
   case refine_1 =>
     rw [hR] at h
     obtain ⟨hw,hsp,hsl,hsk⟩:=yq5 hd hR
     have hwl:s.w<l.length:=hA _ hw
     obtain ⟨d0,hd0⟩:=yAz l.length ts hwl
     have n6:=hd.n6
     dsimp only at h
     rw [if_pos hm] at h
     show cbr _ _ _
     rw [cnF rfl,asTw,asT (by omega),yFn,asTw,asT (by rw [yhm];unfold room;omega),asT (by omega),asT (by omega),ygr,asT (by omega),Int.toNat_natCast,Nat.zero_add,asT (by omega),hd0,yBA,ceT (by rw [List.length_append,yhm,yaX];simp only [List.length_cons,List.length_nil];omega)]
     have:=h (nts A++Z)
     rw [ysy,yBx] at this
     exact this _ _ _ _ _ _ _ _ _ _ _ _ _ _ _ _ _ _ _ _ _ _ _ _ _ _ _ _ _ _ _ _ _ _ _ (yjE _ _ (yjF A) hZ)
 | succ m ih =>
   intro A Z c q lg ts lgd hm hnd hA hts hq hlg hZ h
   have n6:=hd.n6
   unfold tGo at h
   cases hR:ycW l q.num q.den lg A with
   | error e =>
     rw [hR] at h
     refine ⟨1,?_⟩
     unfold ycU
     simp only [Go.Pf.jn,lt]
     rw [cbT (by omega)]
     refine ygd hd hq.i1 hq.i2 hA (by omega) (fun e=>by rw [e] at hm;cases hm) Z c (by omega) _ (fun s' hR'=>by rw [hR] at hR';cases hR') (fun e' hR'=>?_)
     rw [hR] at hR'
     cases hR'
     show cbr _ _ _
     rw [cnT (fun e0=>ykL (e0 ▸ hR))]
     exact h _ _ _ _ _ _ _ _ _ _ _ (yjE _ _ (yjF A) hZ)
   | ok s =>
     rw [hR] at h
     obtain ⟨hw,hsp,hsl,hsk⟩:=yq5 hd hR
     have hwl:s.w<l.length:=hA _ hw
     obtain ⟨d0,hd0⟩:=yAz l.length ts hwl
     have n6:=hd.n6
     dsimp only at h
     rw [if_neg (by omega)] at h
     obtain ⟨X,Y,rfl,hX⟩:=List.eq_append_cons_of_mem hw
     have hY:s.w∉Y:=fun hm=>by
       have:=hnd
       rw [List.nodup_append] at this
       exact (List.nodup_cons.1 this.2.1).1 hm
     have hXY:(X++Y).length=m+1:=by
       simp only [List.length_append,List.length_cons] at hm ⊢;omega
     have hnd2:(X++Y).Nodup:=by
       have:=hnd.erase s.w
       rwa [ymP hX] at this
     rw [ymP hX] at h
     have eXY:(X++Y).length=X.length+Y.length:=List.length_append
     have eN:(X++s.w::Y).length=(X++Y).length+1:=by simp only [List.length_append,List.length_cons];omega
     obtain ⟨n,hn⟩:=ih (X++Y) (.int .i64 0::Z) (c-0) s.p s.lg (ts++[⟨s.w,q,s.p,s.k⟩]) (logs s.lg) hXY hnd2 (fun a ha=>hA a (by
         rcases List.mem_append.1 ha with h1 | h1
         · exact List.mem_append_left _ h1
         · exact List.mem_append_right _ (List.mem_cons_of_mem _ h1))) (by simp only [List.length_append,List.length_cons,List.length_nil] at hts hXY ⊢;omega) hsp (by simp only [List.length_append,List.length_cons,List.length_nil] at hsl ⊢;omega) hZ h
     rw [ysy,yBx] at hn
     refine ⟨n+1,?_⟩
     unfold ycU
     simp only [Go.Pf.jn,lt]
     rw [cbT (by omega)]
     refine ygd hd hq.i1 hq.i2 hA (by omega) (fun e=>by rw [e] at hm;cases hm) Z c (by omega) _ (fun s' hR'=>?_) (fun e' hR'=>by rw [hR] at hR';cases hR')
     rw [hR] at hR'
     cases hR'
     show cbr _ _ _
     rw [cnF rfl,asTw,asT (by omega),yFn,asTw,asT (by rw [yhm];unfold room;omega),asT (by omega),asT (by omega),ygr,asT (by omega),Int.toNat_natCast,Nat.zero_add,asT (by omega),hd0,yBA,ceF (by rw [List.length_append,yhm,yaX];simp only [List.length_cons,List.length_nil];omega)]
     try simp only [decide_true,Bool.and_self,yaj]
     refine ⟨X.length+1,sr1 Z (A:=X++s.w::Y) (Y:=Y) (w:=s.w) _ _ _ _ _ _ _ _ _ _ _ _ _ _ _ _ _ _ _ _ _ _ _ _ _ _ X [] _ (by simp) hX (by omega) (by omega) ?_⟩
     show cbr _ _ _
     simp only [List.nil_append]
     rw [ceF (by omega),show IntKind.i64.wrap ((X.length:Int)+1)=((X.length+1:Nat):Int) by rw [wib (by omega) (by omega)];omega]
     try simp only [decide_true,Nat.beq_refl,Bool.and_self,yaj]
     refine ⟨Y.length+1,rm1 Z (w:=s.w) (N:=(X++s.w::Y).length) _ _ _ _ _ _ _ _ _ _ _ _ _ _ _ _ _ _ _ _ _ _ _ _ _ Y X s.w _ hY (by simp only [List.length_append,List.length_cons];omega) (by omega) (by omega) fun c'=>?_⟩
     show asr _ _
     have e9:((((X++s.w::Y).length:Nat):Int)-(((X++Y).length:Nat):Int)).toNat=1:=by omega
     rw [e9,asT (by omega),asT (by omega),asOr,cbF (by omega),ycX,asT (by simp only [List.length_append,List.length_cons,List.length_nil];omega),Int.toNat_natCast,Nat.zero_add,asT (by omega),yBy,asT (by omega),asTT (by simp;omega)]
     try simp only [decide_true,Nat.beq_refl,Bool.and_self,yaj]
     have e10:((((X++Y).length:Nat):Int)-0).toNat=(X++Y).length:=by omega
     have e11:(X++s.w::Y).length+Z.length=(X++Y).length+(PV.int IntKind.i64 0::Z).length:=by rw [eN];simp only [List.length_cons];omega
     rw [e10,e11]
     exact hn
theorem go0 (hd:DK l) (o:List PV→List PV→List PV→Nat→Nat→Nat→List PV→Int→List PV→List PV→Nat→Nat→Nat→Int→Int→Bool→Prop) (g:List PV→List PV→List PV→Nat→Nat→Nat→List PV→Int→List PV→List PV→Int→Int→Int→Int→Int→Int→Prop) (i:List PV→List PV→List PV→List PV→Nat→Nat→Nat→List PV→Int→List PV→List PV→Int→Int→Int→Int→Int→Int→List PV→List PV→Int→Int→Int→Int→Int→Int→Nat→Nat→Nat→Int→Int→List PV→List PV→Int→Bool→List PV→List PV→Int→Int→Int→Int→Int→Int→Bool→Bool→Prop) (j:List PV→List PV→List PV→List PV→Nat→Nat→Nat→List PV→Int→List PV→List PV→Nat→Nat→Nat→Int→Int→Bool→Prop) (d:List PV→List PV→List PV→List PV→Nat→Nat→Nat→List PV→Int→List PV→List PV→Int→Int→Int→Int→Int→Int→Prop) (f:List PV→List PV→List PV→List PV→Nat→Nat→Nat→List PV→Int→List PV→List PV→Int→Int→Int→Int→Int→Int→List PV→List PV→Int→Int→Int→Int→Int→Int→Nat→Nat→Nat→Int→Int→List PV→List PV→Int→Bool→List PV→List PV→Int→Int→Int→Int→Int→Int→Bool→Bool→Prop):∀ (m:Nat) (A:List Nat) (Z:List PV) (c:Nat) (q:Rat) (lg:List Qy) (lgd:List PV),A.length=m+1→A.Nodup→(∀ a∈A,a<l.length)→A.length=l.length→small q→lg.length=0→nofn Z →
   (match tGo l (m+1) A lg q [] with
     | .ok (ts',lg')=>(∀ (r1:List PV) (j9:List PV) (j10:List PV) (j11:Int) (j12:Int) (j13:Int) (j14:Int) (j15:Int) (j16:Int) (j17:List PV) (j18:List PV) (j19:Int) (j20:Int) (j21:Int) (j22:Int) (j23:Int) (j24:Int) (j25:Nat) (j26:Nat) (j27:Nat) (j28:Int) (j29:Int) (j30:List PV) (j31:List PV) (j32:Int) (j33:Bool) (j34:List PV) (j35:List PV) (j36:Int) (j37:Int) (j38:Int) (j39:Int) (j40:Int) (j41:Int) (j42:Bool) (j43:Bool),nofn r1→i (pcs l.length ts') r1 (tns ts') (cks l) l.length l.length l.length (logs lg') 0 j9 j10 j11 j12 j13 j14 j15 j16 j17 j18 j19 j20 j21 j22 j23 j24 j25 j26 j27 j28 j29 j30 j31 j32 j33 j34 j35 j36 j37 j38 j39 j40 j41 j42 j43)∧(∀ (r1:List PV) (j9:List PV) (j10:List PV) (j11:Int) (j12:Int) (j13:Int) (j14:Int) (j15:Int) (j16:Int) (j17:List PV) (j18:List PV) (j19:Int) (j20:Int) (j21:Int) (j22:Int) (j23:Int) (j24:Int) (j25:Nat) (j26:Nat) (j27:Nat) (j28:Int) (j29:Int) (j30:List PV) (j31:List PV) (j32:Int) (j33:Bool) (j34:List PV) (j35:List PV) (j36:Int) (j37:Int) (j38:Int) (j39:Int) (j40:Int) (j41:Int) (j42:Bool) (j43:Bool),nofn r1→f (pcs l.length ts') r1 (tns ts') (cks l) l.length l.length l.length (logs lg') 0 j9 j10 j11 j12 j13 j14 j15 j16 j17 j18 j19 j20 j21 j22 j23 j24 j25 j26 j27 j28 j29 j30 j31 j32 j33 j34 j35 j36 j37 j38 j39 j40 j41 j42 j43)
     | .error e=>(∀ (r1 lgx:List PV) (j8:List PV) (j9:List PV) (j10:Int) (j11:Int) (j12:Int) (j13:Int) (j14:Int) (j15:Int),nofn r1→g (pcs l.length []) r1 (cks l) l.length l.length l.length lgx e j8 j9 j10 j11 j12 j13 j14 j15)∧(∀ (r1:List PV) (ts':List Tn) (lgx:List PV) (j9:List PV) (j10:List PV) (j11:Int) (j12:Int) (j13:Int) (j14:Int) (j15:Int) (j16:Int),nofn r1→d (pcs l.length ts') r1 (tns ts') (cks l) l.length l.length l.length lgx e j9 j10 j11 j12 j13 j14 j15 j16))→∃ n,ycV yaJ yao yaH o g i j d f n (pcs l.length []) (nts A++Z) (cks l) l.length l.length l.length lgd 0 (cks l) (logs lg) A.length (A.length+Z.length) c q.num q.den:=by
 intro m A Z c q lg lgd hm hnd hA hts hq hlg hZ h
 have n6:=hd.n6
 unfold tGo at h
 cases hR:ycW l q.num q.den lg A with
 | error e =>
   rw [hR] at h
   refine ⟨1,?_⟩
   unfold ycV
   simp only [Go.Pf.jn,lt]
   rw [cbT (by omega)]
   refine ygd hd hq.i1 hq.i2 hA (by omega) (fun e=>by rw [e] at hm;cases hm) Z c (by omega) _ (fun s' hR'=>by rw [hR] at hR';cases hR') (fun e' hR'=>?_)
   rw [hR] at hR'
   cases hR'
   show cbr _ _ _
   rw [cnT (fun e0=>ykL (e0 ▸ hR))]
   exact h.1 _ _ _ _ _ _ _ _ _ _ (yjE _ _ (yjF A) hZ)
 | ok s =>
   rw [hR] at h
   obtain ⟨hw,hsp,hsl,hsk⟩:=yq5 hd hR
   have hwl:s.w<l.length:=hA _ hw
   obtain ⟨d0,hd0⟩:=yAz l.length [] hwl
   have n6:=hd.n6
   dsimp only at h
   cases m with
   | zero =>
     rw [if_pos hm] at h
     refine ⟨1,?_⟩
     unfold ycV
     simp only [Go.Pf.jn,lt]
     rw [cbT (by omega)]
     refine ygd hd hq.i1 hq.i2 hA (by omega) (fun e=>by rw [e] at hm;cases hm) Z c (by omega) _ (fun s' hR'=>?_) (fun e' hR'=>by rw [hR] at hR';cases hR')
     rw [hR] at hR'
     cases hR'
     show cbr _ _ _
     rw [cnF rfl,asT (by omega),asT (by omega),ygr,asT (by omega),Int.toNat_natCast,Nat.zero_add,asT (by omega),hd0,yBA,ceT (by rw [yaX];omega)]
     have:=h.1 (nts A++Z)
     rw [ysy] at this
     exact this _ _ _ _ _ _ _ _ _ _ _ _ _ _ _ _ _ _ _ _ _ _ _ _ _ _ _ _ _ _ _ _ _ _ _ (yjE _ _ (yjF A) hZ)
   | succ m =>
     rw [if_neg (by omega)] at h
     obtain ⟨X,Y,rfl,hX⟩:=List.eq_append_cons_of_mem hw
     have hY:s.w∉Y:=fun hm=>by
       have:=hnd
       rw [List.nodup_append] at this
       exact (List.nodup_cons.1 this.2.1).1 hm
     have hXY:(X++Y).length=m+1:=by
       simp only [List.length_append,List.length_cons] at hm ⊢;omega
     have hnd2:(X++Y).Nodup:=by
       have:=hnd.erase s.w
       rwa [ymP hX] at this
     rw [ymP hX] at h
     have eXY:(X++Y).length=X.length+Y.length:=List.length_append
     have eN:(X++s.w::Y).length=(X++Y).length+1:=by simp only [List.length_append,List.length_cons];omega
     obtain ⟨n,hn⟩:=go1 hd j d f m (X++Y) (.int .i64 0::Z) (c-0) s.p s.lg ([]++[⟨s.w,q,s.p,s.k⟩]) (logs s.lg) hXY hnd2 (fun a ha=>hA a (by
         rcases List.mem_append.1 ha with h1 | h1
         · exact List.mem_append_left _ h1
         · exact List.mem_append_right _ (List.mem_cons_of_mem _ h1))) (by simp only [List.length_append,List.length_cons,List.length_nil] at hts hXY ⊢;omega) hsp (by simp only [List.length_append,List.length_cons,List.length_nil] at hsl hts ⊢;omega) hZ (by
           revert h
           cases tGo l (m+1) (X++Y) s.lg s.p ([]++[⟨s.w,q,s.p,s.k⟩]) with
           | ok x=>obtain ⟨a,b⟩:=x;intro h;exact h.2
           | error e=>intro h;exact h.2)
     rw [ysy] at hn
     refine ⟨n+1,?_⟩
     unfold ycV
     simp only [Go.Pf.jn,lt]
     rw [cbT (by omega)]
     refine ygd hd hq.i1 hq.i2 hA (by omega) (fun e=>by rw [e] at hm;cases hm) Z c (by omega) _ (fun s' hR'=>?_) (fun e' hR'=>by rw [hR] at hR';cases hR')
     rw [hR] at hR'
     cases hR'
     show cbr _ _ _
     rw [cnF rfl,asT (by omega),asT (by omega),ygr,asT (by omega),Int.toNat_natCast,Nat.zero_add,asT (by omega),hd0,yBA,ceF (by rw [yaX];omega)]
     try simp only [List.length_cons,List.length_nil,decide_true,Bool.and_self,yaj]
     refine ⟨X.length+1,sr0 Z (A:=X++s.w::Y) (Y:=Y) (w:=s.w) _ _ _ _ _ _ _ _ _ _ _ _ _ _ _ _ _ _ _ _ _ _ _ _ _ _ X [] _ (by simp) hX (by omega) (by omega) ?_⟩
     show cbr _ _ _
     simp only [List.nil_append]
     rw [ceF (by omega),show IntKind.i64.wrap ((X.length:Int)+1)=((X.length+1:Nat):Int) by rw [wib (by omega) (by omega)];omega]
     try simp only [decide_true,Nat.beq_refl,Bool.and_self,yaj]
     refine ⟨Y.length+1,rm0 Z (w:=s.w) (N:=(X++s.w::Y).length) _ _ _ _ _ _ _ _ _ _ _ _ _ _ _ _ _ _ _ _ _ _ _ _ _ Y X s.w _ hY (by simp only [List.length_append,List.length_cons];omega) (by omega) (by omega) fun c'=>?_⟩
     show asr _ _
     have e9:((((X++s.w::Y).length:Nat):Int)-(((X++Y).length:Nat):Int)).toNat=1:=by omega
     rw [e9,asT (by omega),asT (by omega),asOr,cbF (by omega),ycX,asT (by simp only [List.length_append,List.length_cons,List.length_nil];omega),Int.toNat_natCast,Nat.zero_add,asT (by omega),yBy,asT (by omega),asTT (by simp;omega)]
     try simp only [decide_true,Nat.beq_refl,Bool.and_self,yaj]
     have e10:((((X++Y).length:Nat):Int)-0).toNat=(X++Y).length:=by omega
     have e11:(X++s.w::Y).length+Z.length=(X++Y).length+(PV.int IntKind.i64 0::Z).length:=by rw [eN];simp only [List.length_cons];omega
     rw [e10,e11]
     exact hn
theorem go0e (hd:DK l) (i:List PV→List PV→List PV→Nat→Nat→Nat→List PV→Int→List PV→List PV→Nat→Nat→Nat→Int→Int→Bool→Prop) (b:List PV→List PV→List PV→Nat→Nat→Nat→List PV→Int→List PV→List PV→Int→Int→Int→Int→Int→Int→Prop) (d:List PV→List PV→List PV→List PV→Nat→Nat→Nat→List PV→Int→List PV→List PV→Int→Int→Int→Int→Int→Int→List PV→List PV→Int→Int→Int→Int→Int→Int→Nat→Nat→Nat→Int→Int→List PV→List PV→Int→Bool→List PV→List PV→Int→Int→Int→Int→Int→Int→Bool→Bool→Prop) (j:List PV→List PV→List PV→List PV→Nat→Nat→Nat→List PV→Int→List PV→List PV→Nat→Nat→Nat→Int→Int→Bool→Prop) (f:List PV→List PV→List PV→List PV→Nat→Nat→Nat→List PV→Int→List PV→List PV→Int→Int→Int→Int→Int→Int→Prop) (g:List PV→List PV→List PV→List PV→Nat→Nat→Nat→List PV→Int→List PV→List PV→Int→Int→Int→Int→Int→Int→List PV→List PV→Int→Int→Int→Int→Int→Int→Nat→Nat→Nat→Int→Int→List PV→List PV→Int→Bool→List PV→List PV→Int→Int→Int→Int→Int→Int→Bool→Bool→Prop) (m:Nat) (A:List Nat) (Z:List PV) (c:Nat) (q:Rat) (lg:List Qy) (lgd:List PV) (hm:A.length=m+1) (hnd:A.Nodup) (hA:∀ a∈A,a<l.length) (hts:A.length=l.length) (hq:small q) (hlg:lg.length=0) (hZ:nofn Z) {pc rows dl:List PV} {n10 n11:Nat} {i13 i14:Int} (e0:pc=pcs l.length []) (e1:rows=nts A++Z) (e2:n10=A.length) (e3:n11=A.length+Z.length) (e4:i13=q.num) (e5:i14=q.den) (e6:dl=logs lg)
   (h:match tGo l (m+1) A lg q [] with
     | .ok (ts',lg')=>(∀ (r1:List PV) (j9:List PV) (j10:List PV) (j11:Int) (j12:Int) (j13:Int) (j14:Int) (j15:Int) (j16:Int) (j17:List PV) (j18:List PV) (j19:Int) (j20:Int) (j21:Int) (j22:Int) (j23:Int) (j24:Int) (j25:Nat) (j26:Nat) (j27:Nat) (j28:Int) (j29:Int) (j30:List PV) (j31:List PV) (j32:Int) (j33:Bool) (j34:List PV) (j35:List PV) (j36:Int) (j37:Int) (j38:Int) (j39:Int) (j40:Int) (j41:Int) (j42:Bool) (j43:Bool),nofn r1→d (pcs l.length ts') r1 (tns ts') (cks l) l.length l.length l.length (logs lg') 0 j9 j10 j11 j12 j13 j14 j15 j16 j17 j18 j19 j20 j21 j22 j23 j24 j25 j26 j27 j28 j29 j30 j31 j32 j33 j34 j35 j36 j37 j38 j39 j40 j41 j42 j43)∧(∀ (r1:List PV) (j9:List PV) (j10:List PV) (j11:Int) (j12:Int) (j13:Int) (j14:Int) (j15:Int) (j16:Int) (j17:List PV) (j18:List PV) (j19:Int) (j20:Int) (j21:Int) (j22:Int) (j23:Int) (j24:Int) (j25:Nat) (j26:Nat) (j27:Nat) (j28:Int) (j29:Int) (j30:List PV) (j31:List PV) (j32:Int) (j33:Bool) (j34:List PV) (j35:List PV) (j36:Int) (j37:Int) (j38:Int) (j39:Int) (j40:Int) (j41:Int) (j42:Bool) (j43:Bool),nofn r1→g (pcs l.length ts') r1 (tns ts') (cks l) l.length l.length l.length (logs lg') 0 j9 j10 j11 j12 j13 j14 j15 j16 j17 j18 j19 j20 j21 j22 j23 j24 j25 j26 j27 j28 j29 j30 j31 j32 j33 j34 j35 j36 j37 j38 j39 j40 j41 j42 j43)
     | .error e=>(∀ (r1 lgx:List PV) (j8:List PV) (j9:List PV) (j10:Int) (j11:Int) (j12:Int) (j13:Int) (j14:Int) (j15:Int),nofn r1→b (pcs l.length []) r1 (cks l) l.length l.length l.length lgx e j8 j9 j10 j11 j12 j13 j14 j15)∧(∀ (r1:List PV) (ts':List Tn) (lgx:List PV) (j9:List PV) (j10:List PV) (j11:Int) (j12:Int) (j13:Int) (j14:Int) (j15:Int) (j16:Int),nofn r1→f (pcs l.length ts') r1 (tns ts') (cks l) l.length l.length l.length lgx e j9 j10 j11 j12 j13 j14 j15 j16)):∃ n,ycV yaJ yao yaH i b d j f g n pc rows (cks l) l.length l.length l.length lgd 0 (cks l) dl n10 n11 c i13 i14:=by
 subst e0;subst e1;subst e2;subst e3;subst e4;subst e5;subst e6
 exact go0 hd i b d j f g m A Z c q lg lgd hm hnd hA hts hq hlg hZ h
theorem ini (x:List PV→List PV→List PV→Nat→Nat→Nat→List PV→Int→List PV→List PV→Nat→Nat→Nat→Int→Int→Bool→Prop) (l0 l2:List PV) (n3 n4 n5:Nat) (l6:List PV) (i7:Int) (l8 l9:List PV) {N c:Nat} (hN:N≤1000):∀ (r i n:Nat),i+r=N→r<n →
   x l0 (nts (List.range N)) l2 n3 n4 n5 l6 i7 l8 l9 N N c ((N:Nat):Int) ((N:Nat):Int) false→ydw yaJ yao yaH x n l0 (nts (List.range i)++List.replicate r (.int .i64 0)) l2 n3 n4 n5 l6 i7 l8 l9 N N c ((N:Nat):Int) ((i:Nat):Int)
 | 0,i,n,hi,hn,h=>by
   obtain ⟨n,rfl⟩:∃ k,n=k+1:=⟨n-1,by omega⟩
   have e:i=N:=by omega
   subst e
   unfold ydw
   rw [cbF (by omega),List.replicate_zero,List.append_nil]
   exact h
 | r+1,i,n,hi,hn,h=>by
   obtain ⟨n,rfl⟩:∃ k,n=k+1:=⟨n-1,by omega⟩
   have IH:=ini x l0 l2 n3 n4 n5 l6 i7 l8 l9 (c:=c) hN r (i+1) n (by omega) (by omega) h
   have hlen:(nts (List.range i)++List.replicate (r+1) (PV.int IntKind.i64 0)).length=N:=by
     rw [List.length_append,ybb,List.length_range,List.length_replicate];omega
   have hrow:List.getD (nts (List.range i)++List.replicate (r+1) (PV.int IntKind.i64 0)) i .nils=.int .i64 0:=by
     rw [List.getD_eq_getElem?_getD,List.getElem?_append_right (by rw [ybb,List.length_range];exact Nat.le_refl _),ybb,List.length_range,Nat.sub_self]
     rfl
   have hset:List.set (nts (List.range i)++List.replicate (r+1) (PV.int IntKind.i64 0)) i (.int .i64 i)=nts (List.range (i+1))++List.replicate r (PV.int IntKind.i64 0):=by
     have e:i=(nts (List.range i)).length:=by rw [ybb,List.length_range]
     rw [List.range_succ,yio,List.append_assoc]
     conv=>lhs;arg 2;rw [e]
     rw [List.set_append_right _ _ (Nat.le_refl _),Nat.sub_self]
     rfl
   have ew:IntKind.i64.wrap ((i:Int)+1)=((i+1:Nat):Int):=by rw [wib (by omega) (by omega)];omega
   unfold ydw
   simp only [lt]
   rw [cbT (by omega),asT (by omega),asT (by omega),hlen,asT (by omega),Nat.zero_add,Int.toNat_natCast,asT (by omega),hrow,yea,hset,ew]
   exact IH
def tRun (l:List Ck):Except Int (List Tn×List Qy):=if yeo l 0=0 then tGo l l.length (List.range l.length) [] 0 [] else .error (yeo l 0)
end
end Go.Pf.Vc
namespace Go.Pf.Vc
open Go Go.Pf
section
variable {l:List Ck}
theorem take_all {a:List PV} {n:Nat} (h:a.length=n):List.take n a=a:=List.take_of_length_le (by omega)
theorem yBB (hf:finC l) (hl:l.length<4611686018427387904) (K:List PV→List PV→List PV→Int→Prop) :
   ybM (cks l) K=match tRun l with
     | .ok (ts,lg)=>K (pcs l.length ts) (tns ts) (logs lg) 0
     | .error e=>K [] [] [] e:=by
 unfold tRun
 by_cases h0:yeo l 0=0
 case neg =>
   rw [if_neg h0]
   refine ykI _ [] [] [] (yeo l 0) (fun K k=>?_) K
   unfold ybM yil
   rw [yt8 hf hl,if_neg h0,cnT h0]
   exact k
 rw [if_pos h0]
 obtain ⟨hd,_⟩:=yh2 h0
 have n6:=hd.n6
 have n0:=hd.n0
 obtain ⟨m,hm⟩:∃ m,l.length=m+1:=⟨l.length-1,by omega⟩
 have hnd:(List.range l.length).Nodup:=List.nodup_range
 have hA:∀ a∈List.range l.length,a<l.length:=fun a ha=>List.mem_range.1 ha
 have s0:small (0:Rat):=by have:=yfo (x:=0) (by omega);simpa using this
 have main:∀ K:List PV→List PV→List PV→Int→Prop,(match tGo l l.length (List.range l.length) [] 0 [] with
     | .ok (ts,lg)=>K (pcs l.length ts) (tns ts) (logs lg) 0
     | .error e=>e≠0∧K [] [] [] e)→ybM (cks l) K:=by
   intro K k
   unfold ybM yil
   rw [yt8 hf hl,if_pos h0,cnF rfl]
   rw [yaX,asT (by omega),asT (by omega),asT (by unfold room;omega),asT (by omega),asT (by omega),asT (by unfold room;omega)]
   refine ⟨l.length+1,ini _ _ _ _ _ _ _ _ _ _ (N:=l.length) (by omega) l.length 0 _ (by omega) (by omega) ?_⟩
   show yao 0 _
   rw [ymN]
   refine go0e hd _ _ _ _ _ _ m (List.range l.length) [] _ 0 [] _ (by rw [List.length_range];exact hm) hnd hA List.length_range s0 rfl rfl rfl (List.append_nil _).symm List.length_range.symm (by rw [List.length_range];rfl) rfl rfl rfl ?_
   rw [← hm]
   revert k
   cases tGo l l.length (List.range l.length) [] 0 [] with
   | ok x =>
     obtain ⟨ts,lg⟩:=x
     intro k
     have hp:=yud l.length ts
     have ht:=yue ts
     unfold nofn at hp ht
     refine ⟨?_,?_⟩
     · intro r1
       intros
       rename_i hr
       unfold nofn at hr
       show asr _ _
       rw [asTT (by simp only [noYH,ya2,ycO,noY,Bool.and_self,hr,hp,ht])]
       show cbr _ _ _
       rw [cnF rfl,ygr,asT (by omega),asT (by omega),asT (by omega),asT (by omega),take_all (ygr _ _),take_all rfl]
       exact k
     · intro r1
       intros
       rename_i hr
       unfold nofn at hr
       show asr _ _
       rw [asTT (by simp only [noYH,ya2,ycO,noY,Bool.and_self,hr,hp,ht])]
       show cbr _ _ _
       rw [cnF rfl,ygr,asT (by omega),asT (by omega),asT (by omega),asT (by omega),take_all (ygr _ _),take_all rfl]
       exact k
   | error e =>
     intro k
     refine ⟨?_,?_⟩
     · intro r1 lgx
       intros
       rename_i hr
       have hp:=yud l.length []
       unfold nofn at hr hp
       show asr _ _
       rw [asTT (by simp only [noYH,ya2,ycO,noY,Bool.and_self,hr,hp])]
       show cbr _ _ _
       rw [cnT k.1]
       exact k.2
     · intro r1 ts' lgx
       intros
       rename_i hr
       have hp:=yud l.length ts'
       have ht:=yue ts'
       unfold nofn at hr hp ht
       show asr _ _
       rw [asTT (by simp only [noYH,ya2,ycO,noY,Bool.and_self,hr,hp,ht])]
       show cbr _ _ _
       rw [cnT k.1]
       exact k.2
 cases hT:tGo l l.length (List.range l.length) [] 0 [] with
 | ok x =>
   obtain ⟨ts,lg⟩:=x
   refine ykI _ (pcs l.length ts) (tns ts) (logs lg) 0 (fun K k=>main K ?_) K
   rw [hT]
   exact k
 | error e =>
   refine ykI _ [] [] [] e (fun K k=>main K ?_) K
   rw [hT]
   exact ⟨fun e0=>yBz _ _ _ _ _ (e0 ▸ hT),k⟩
end
end Go.Pf.Vc
namespace Go.Pf.Vc
open Go Go.Pf
section
variable {l:List Ck}
theorem yFW {ts:List Tn} {i:Nat} (h:i<ts.length):∃ x,List.getD (tns ts) i .nils=tnE x:=by
 unfold tns
 rw [List.getD_eq_getElem?_getD,List.getElem?_map,List.getElem?_eq_getElem h]
 exact ⟨ts[i],rfl⟩
theorem yvT (ts:List Tn) (h6:ts.length≤1000) {x0 x1}:∀ (r i n:Nat),i+r=ts.length→r<n→x0 (tns ts) (tns ts) ((ts.length:Nat):Int) false→ybP x0 x1 n (tns ts) (tns ts) ((i:Nat):Int)
 | 0,i,n,hi,hn,h=>by
   obtain ⟨n,rfl⟩:∃ k,n=k+1:=⟨n-1,by omega⟩
   have e:i=ts.length:=by omega
   subst e
   unfold ybP
   rw [yhm,cbF (by omega)]
   exact h
 | r+1,i,n,hi,hn,h=>by
   obtain ⟨n,rfl⟩:∃ k,n=k+1:=⟨n-1,by omega⟩
   obtain ⟨x,hx⟩:=yFW (ts:=ts) (i:=i) (by omega)
   have ew:IntKind.i64.wrap ((i:Int)+1)=((i+1:Nat):Int):=by rw [wib (by omega) (by omega)];omega
   have ec:∀ P:Prop,asr (conf (.agg [.i .i64,.i .i64,.i .i64,.i .i64,.i .i64,.i .i64]) (tnE x)) P=P:=fun P=>rfl
   unfold ybP
   simp only [lt]
   rw [yhm,cbT (by omega),asT (by omega),asT (by omega),Int.toNat_natCast,hx,ec,asT (by omega),asT (by omega),ec,beq_self_eq_true,beq_self_eq_true,beq_self_eq_true,beq_self_eq_true,beq_self_eq_true,beq_self_eq_true]
   simp only [Bool.and_self,Bool.not_true,yac]
   rw [ew]
   exact yvT ts h6 r (i+1) n (by omega) (by omega) h
theorem yuf {ts:List Tn} (h6:ts.length≤1000) (K:Bool→Prop):yc8 (tns ts) (tns ts) K=K true:=by
 refine ypJ _ _ _ (fun K k=>?_) K
 unfold yc8 yf9
 rw [cnF rfl]
 exact ⟨ts.length+1,yvT ts h6 ts.length 0 _ (by omega) (by omega) k⟩
def dvT (n:Nat) (ts:List Tn):List (List Sp):=ts.foldl (fun P t=>P.set t.a [⟨t.f.num,t.f.den,t.t.num,t.t.den⟩]) (List.replicate n [])
theorem yrC:∀ (ts:List Tn) (P:List (List Sp)),ymp (ts.foldl (fun P t=>P.set t.a [⟨t.f.num,t.f.den,t.t.num,t.t.den⟩]) P)=ts.foldl (fun P t=>P.set t.a (spE t)) (ymp P)
 | [],P=>rfl
 | t::r,P=>by
   show ymp (r.foldl _ (P.set t.a _))=r.foldl _ ((ymp P).set t.a (spE t))
   rw [yrC r]
   congr 1
   unfold ymp
   rw [List.map_set]
   rfl
theorem yAA (n:Nat) (ts:List Tn):pcs n ts=ymp (dvT n ts):=by
 unfold dvT pcs
 rw [yrC]
 congr 1
 unfold ymp
 rw [List.map_replicate]
 rfl
theorem yEU (n:Nat) (ts:List Tn):(dvT n ts).length=n:=by
 have:=ygr n ts
 rw [yAA] at this
 unfold ymp at this
 rwa [List.length_map] at this
end
end Go.Pf.Vc
namespace Go.Pf.Vc
open Go Go.Pf
section
variable {l:List Ck}
def bndV (n:Int):Int×Int:=if n<1∨n>6 then (0,2) else (IntKind.i64.wrap (IntKind.i64.wrap (n*n)-1),0)
theorem yCr (n:Int) (K:Int→Int→Prop):yhl n K=K (bndV n).1 (bndV n).2:=by
 unfold yhl yiP bndV
 simp only [Go.Pf.jn,lt]
 by_cases h:n<1
 · rw [cbT h,yaf,if_pos (.inl h)]
 · rw [cbF h]
   by_cases h2:n>6
   · rw [cbT h2,if_pos (.inr h2)]
   · rw [cbF h2,if_neg (fun x=>x.elim h h2)]
end
end Go.Pf.Vc
namespace Go.Pf.Vc
open Go Go.Pf
section
variable {l:List Ck}
theorem yCs (hd:DK l) {a:Nat} (h:a<l.length) {q p:Rat} (hs:small q) (hp:small p) (q0:0≤q) (qp:q≤p) (p1:p≤lenR l) {D:Int} (hD:1≤D∧D≤50000000000000) (hq:In D q) (hpD:In D p) {m:Nat} (hm:m<2000) :
   valE l q.num q.den m a p=.ok (vXA l a p-vXA l a q)∧QR l (valQ q.num q.den a p (vXA l a p-vXA l a q)):=by
 have hok:=hd.ok a h
 have hlen:=hd.len a h
 have p1':p≤((l.getD a default).len:Rat):=by rw [hlen];exact p1
 have e:valR (l.getD a default).len (l.getD a default).cuts (l.getD a default).dens q.num q.den p.num p.den=.ok (vXA l a p-vXA l a q):=by
   unfold valR
   rw [if_pos hok.ck,yim,yim,if_pos ⟨yDz hs q0 (Rat.le_trans qp p1'),yDz hp (Rat.le_trans q0 qp) p1',Rat.not_lt.2 qp⟩]
   exact yCp hok hD hq hpD q0 qp p1'
 refine ⟨?_,⟨by show (0:Int)≤a;omega,by show (a:Int)<_;omega⟩,⟨hs.i1,hs.i2,hp.i1,hp.i2⟩,vXA l a p-vXA l a q,⟨rfl,rfl⟩,.inr ⟨rfl,?_⟩⟩
 · unfold valE qryR
   rw [if_pos (hd.err (by omega)),if_pos ⟨by omega,by omega⟩,Int.toNat_natCast]
   have:Ck.value q.num q.den p.num p.den (l.getD a default)=.ok (vXA l a p-vXA l a q):=e
   rw [this]
   show (if m≥2000 then _ else _)=_
   rw [if_neg (by omega)]
 · exact e
theorem yy7 (hd:DK l) {q p:Rat} {d D:Int} (q0:0≤q) (qp:q≤p) (p1:p≤lenR l) (hd12:1≤d∧d≤12) (D1:1≤D) (D2:D≤1000000000000) (h:In (d*D) p):small p:=by
 have hn:=hd.n0
 have l0:=(hd.ok 0 (by omega)).len0
 have hL:lenR l≤1000:=Rat.intCast_le_intCast.2 l0.2
 have hdD:d*D≤12*D:=Int.mul_le_mul_of_nonneg_right hd12.2 (by omega)
 have hdD1:1*1≤d*D:=Int.mul_le_mul hd12.1 D1 (by omega) (by omega)
 exact h.small (M:=1000) ⟨by omega,by omega⟩ (by omega) (by show -(1000:Rat)≤_;grind) (by show _≤(1000:Rat);grind)
structure TOk (l:List Ck) (q:Rat) (D:Int) (s:TSt):Prop where
 lt:q<s.p
 le:s.p≤lenR l
 inD:∃ d:Int,(1≤d∧d≤12)∧In (d*D) s.p
 sh:vXA l s.w s.p=vXA l s.w q+shN l s.w
theorem yxq (hd:DK l) {q:Rat} (hs:small q) (q0:0≤q) {D:Int} (D1:1≤D) (D2:D≤1000000000000) (hq:In D q) (hsh:∀ a,In D (shN l a)) :
   ∀ (rest:List Nat) (s:TSt),(∀ a∈rest,a<l.length)→(∀ a∈rest,shN l a≤vXA l a (lenR l)-vXA l a q)→s.lg.length+2*rest.length<2000→TOk l q D s →
     ∃ s',tR l q.num q.den rest s=.ok s'∧TOk l q D s'∧s'.p≤s.p∧(∀ a∈rest,vXA l a s'.p≤vXA l a q+shN l a)∧(s'.w=s.w∨s'.w∈rest)∧s'.k≤s.k+rest.length ∧
       ∃ qs,s'.lg=s.lg++qs∧(∀ x∈qs,QR l x)∧qs.length≤2*rest.length
 | [],s,_,_,_,h=>⟨s,rfl,h,Rat.le_refl,fun _ h=>(by cases h),.inl rfl,Nat.le_refl _,[],by rw [List.append_nil],fun _ h=>(by cases h),Nat.zero_le _⟩
 | a::r,s,hr,hv,hl,h=>by
   have ha:=hr a List.mem_cons_self
   have hok:=hd.ok a ha
   have hll:(a::r).length=r.length+1:=rfl
   rw [hll] at hl
   obtain ⟨d,hd12,hpD⟩:=h.inD
   have hdD:d*D≤12*D:=Int.mul_le_mul_of_nonneg_right hd12.2 (by omega)
   have hdD1:1*1≤d*D:=Int.mul_le_mul hd12.1 D1 (by omega) (by omega)
   have hps:small s.p:=yy7 hd q0 (Rat.le_of_lt h.lt) h.le hd12 D1 D2 hpD
   obtain ⟨e1,g1⟩:=yCs hd ha hs hps q0 (Rat.le_of_lt h.lt) h.le (D:=d*D) ⟨by omega,by omega⟩ (hq.up D1 hd12.1) hpD (m:=s.lg.length) (by omega)
   have hr':∀ b∈r,b<l.length:=fun b hb=>hr b (List.mem_cons_of_mem _ hb)
   have hv':∀ b∈r,shN l b≤vXA l b (lenR l)-vXA l b q:=fun b hb=>hv b (List.mem_cons_of_mem _ hb)
   by_cases hc:shN l a<vXA l a s.p-vXA l a q
   · obtain ⟨k1,k2,k3,k4,k5⟩:=yDQ hd ha q0 (Rat.le_trans (Rat.le_of_lt h.lt) h.le) (hv a List.mem_cons_self) D1 D2 hq (hsh a)
     have e2:=yvP hd ha hs q0 (Rat.le_trans (Rat.le_of_lt h.lt) h.le) k1 (m:=s.lg.length+1) (by omega)
     have g2:=yDR hd ha hs q0 (Rat.le_trans (Rat.le_of_lt h.lt) h.le) k1
     have hle:mkM l q a≤s.p:=Rat.not_lt.1 fun hlt=>by
       have m1:vXA l a s.p≤vXA l a (mkM l q a):=ymL hok (Rat.le_of_lt hlt)
       have k3':vXA l a (mkM l q a)=vXA l a q+shN l a:=k3
       grind
     obtain ⟨s',f1,f2,f3,f4,f5,f6,qs,f7,f8,f9⟩:=yxq hd hs q0 D1 D2 hq hsh r ⟨(s.lg++[valQ q.num q.den a s.p (vXA l a s.p-vXA l a q)])++[yjA l q.num q.den a (mkM l q a)],mkM l q a,a,s.k+1⟩ hr' hv' (by simp only [List.length_append,List.length_cons,List.length_nil];omega) ⟨k4,k5,k2,k3⟩
     refine ⟨s',?_,f2,Rat.le_trans f3 hle,fun b hb=>?_,?_,?_,valQ q.num q.den a s.p (vXA l a s.p-vXA l a q)::yjA l q.num q.den a (mkM l q a)::qs,?_,fun x hx=>?_,?_⟩
     · unfold tR
       rw [e1]
       dsimp only
       rw [if_pos hc,e2]
       exact f1
     · rcases List.mem_cons.1 hb with rfl | hb
       · have m1:vXA l b s'.p≤vXA l b (mkM l q b):=ymL hok f3
         have k3':vXA l b (mkM l q b)=vXA l b q+shN l b:=k3
         grind
       · exact f4 b hb
     · rcases f5 with f5 | f5
       · exact .inr (by rw [f5];exact List.mem_cons_self)
       · exact .inr (List.mem_cons_of_mem _ f5)
     · have:s'.k≤s.k+1+r.length:=f6
       omega
     · rw [f7];simp only [List.append_assoc,List.cons_append,List.nil_append]
     · rcases List.mem_cons.1 hx with rfl | hx
       · exact g1
       · rcases List.mem_cons.1 hx with rfl | hx
         · exact g2
         · exact f8 x hx
     · simp only [List.length_cons];omega
   · obtain ⟨s',f1,f2,f3,f4,f5,f6,qs,f7,f8,f9⟩:=yxq hd hs q0 D1 D2 hq hsh r ⟨s.lg++[valQ q.num q.den a s.p (vXA l a s.p-vXA l a q)],s.p,s.w,s.k⟩ hr' hv' (by simp only [List.length_append,List.length_cons,List.length_nil];omega) ⟨h.lt,h.le,h.inD,h.sh⟩
     refine ⟨s',?_,f2,f3,fun b hb=>?_,?_,?_,valQ q.num q.den a s.p (vXA l a s.p-vXA l a q)::qs,?_,fun x hx=>?_,?_⟩
     · unfold tR
       rw [e1]
       dsimp only
       rw [if_neg hc]
       exact f1
     · rcases List.mem_cons.1 hb with rfl | hb
       · have m1:vXA l b s'.p≤vXA l b s.p:=ymL hok f3
         grind
       · exact f4 b hb
     · rcases f5 with f5 | f5
       · exact .inl f5
       · exact .inr (List.mem_cons_of_mem _ f5)
     · have:s'.k≤s.k+r.length:=f6
       omega
     · rw [f7];simp only [List.append_assoc,List.cons_append,List.nil_append]
     · rcases List.mem_cons.1 hx with rfl | hx
       · exact g1
       · exact f8 x hx
     · simp only [List.length_cons];omega
theorem yy8 (hd:DK l) {q:Rat} (hs:small q) (q0:0≤q) (q1:q≤lenR l) {D:Int} (D1:1≤D) (D2:D≤1000000000000) (hq:In D q) (hsh:∀ a,In D (shN l a)) {A:List Nat} (h2:2≤A.length) (hr:∀ a∈A,a<l.length)
   (hv:∀ a∈A,shN l a≤vXA l a (lenR l)-vXA l a q) (lg:List Qy) (hl:lg.length+2*A.length<2000) :
   ∃ s,ycW l q.num q.den lg A=.ok s∧TOk l q D s∧(∀ a∈A,vXA l a s.p≤vXA l a q+shN l a)∧s.w∈A∧s.k+1≤A.length∧∃ qs,s.lg=lg++qs∧(∀ x∈qs,QR l x)∧qs.length+1≤2*A.length:=by
 obtain ⟨a,r,rfl⟩:∃ a r,A=a::r:=by cases A with | nil=>simp at h2 | cons a r=>exact ⟨a,r,rfl⟩
 obtain ⟨b,r,rfl⟩:∃ b r',r=b::r':=by cases r with | nil=>simp at h2 | cons a r=>exact ⟨a,r,rfl⟩
 have ha:=hr a List.mem_cons_self
 obtain ⟨k1,k2,k3,k4,k5⟩:=yDQ hd ha q0 q1 (hv a List.mem_cons_self) D1 D2 hq (hsh a)
 have e2:=yvP hd ha hs q0 q1 k1 (m:=lg.length) (by omega)
 have g2:=yDR hd ha hs q0 q1 k1
 simp only [List.length_cons] at hl
 obtain ⟨s',f1,f2,f3,f4,f5,f6,qs,f7,f8,f9⟩:=yxq hd hs q0 D1 D2 hq hsh (b::r) ⟨lg++[yjA l q.num q.den a (mkM l q a)],mkM l q a,a,0⟩ (fun x hx=>hr x (List.mem_cons_of_mem _ hx)) (fun x hx=>hv x (List.mem_cons_of_mem _ hx)) (by simp only [List.length_append,List.length_cons,List.length_nil];omega) ⟨k4,k5,k2,k3⟩
 refine ⟨s',?_,f2,fun x hx=>?_,?_,?_,yjA l q.num q.den a (mkM l q a)::qs,?_,fun x hx=>?_,?_⟩
 · simp only [ycW,e2]
   exact f1
 · rcases List.mem_cons.1 hx with rfl | hx
   · have m1:vXA l x s'.p≤vXA l x (mkM l q x):=ymL (hd.ok x ha) f3
     have k3':vXA l x (mkM l q x)=vXA l x q+shN l x:=k3
     grind
   · exact f4 x hx
 · rcases f5 with f5 | f5
   · rw [f5];exact List.mem_cons_self
   · exact List.mem_cons_of_mem _ f5
 · have:s'.k≤0+(b::r).length:=f6
   simp only [List.length_cons] at this ⊢
   omega
 · rw [f7];simp only [List.append_assoc,List.cons_append,List.nil_append]
 · rcases List.mem_cons.1 hx with rfl | hx
   · exact g2
   · exact f8 x hx
 · simp only [List.length_cons] at f9 ⊢;omega
end
end Go.Pf.Vc
namespace Go.Pf.Vc
open Go Go.Pf
section
variable {l:List Ck}
def mkT:List Nat→(Nat→Rat)→(Nat→Nat)→List Tn
 | [],_,_=>[]
 | a::o,t,k=>⟨a,t 0,t 1,k 0⟩::mkT o (fun j=>t (j+1)) (fun j=>k (j+1))
def remA:List Nat→List Nat→Nat→List Nat
 | A,_,0=>A
 | A,[],_+1=>A
 | A,a::o,j+1=>remA (A.erase a) o j
def yvU {α:Type} (a:α) (f:Nat→α):Nat→α
 | 0=>a
 | j+1=>f j
structure TRun (l:List Ck) (r:Nat) (A:List Nat) (q:Rat) (lg:List Qy) (ts:List Tn) (x:List Tn×List Qy) (o:List Nat) (t:Nat→Rat) (k:Nat→Nat) (L:Nat→List Qy) (D:Int):Prop where
 tn:x.1=ts++mkT o t k
 len:o.length=r+1
 perm:o.Perm A
 t0:t 0=q
 te:t (r+1)=lenR l
 lt:∀ j,j<r+1→t j<t (j+1)
 sm:∀ j,j≤r+1→small (t j)
 inD:∀ j,j≤r+1→In D (t j)
 sh:∀ j,j<r→vXA l (o.getD j 0) (t (j+1))=vXA l (o.getD j 0) (t j)+shN l (o.getD j 0)
 last:vXA l (o.getD r 0) (t r)+shN l (o.getD r 0)≤vXA l (o.getD r 0) (t (r+1))
 kb:∀ j,j<r+1→k j+j≤r
 l0:L 0=lg
 le:L (r+1)=x.2
 ll:L (r+1)=L r
 st:∀ j,j<r+1→ycW l (t j).num (t j).den (L j) (remA A o j)=.ok ⟨L (j+1),t (j+1),o.getD j 0,k j⟩∧(remA A o j).length=r+1-j
 ql:∀ j,j<r+1→∃ qs,L (j+1)=L j++qs∧(∀ q∈qs,QR l q)∧qs.length+1≤2*(r+1-j)
theorem yBC (hd:DK l):∀ (r:Nat) (A:List Nat) (q:Rat) (lg:List Qy) (ts:List Tn) (D B:Int),A.length=r+1→A.Nodup→(∀ a∈A,a<l.length)→small q→0≤q→q<lenR l →
   (∀ a∈A,vXA l a q+((r+1:Nat):Int)*shN l a≤vXA l a (lenR l))→1≤D→D≤B→B*12 ^ r≤100000000→In D q→(∀ a,In D (shN l a))→lg.length+(r+1)*12<2000→r<6 →
   ∃ x o t k L D',tGo l (r+1) A lg q ts=.ok x∧(1≤D'∧D'≤B*12 ^ r)∧(∀ q,In D q→In D' q)∧TRun l r A q lg ts x o t k L D'
 | 0,A,q,lg,ts,D,B,hlen,hnd,hr,hs,q0,q1,hv,D1,DB,hB,hq,hsh,hlg,hr6=>by
   obtain ⟨a,rr,rfl,hrr⟩:=yDO hlen
   obtain rfl:=List.eq_nil_of_length_eq_zero hrr
   have ha:=hr a List.mem_cons_self
   have h0:=(hd.ok 0 (by have:=hd.n0;omega)).len0
   refine ⟨(ts++[⟨a,q,lenR l,0⟩],lg),[a],yvU q (fun _=>lenR l),fun _=>0,fun _=>lg,D,?_,⟨D1,by rw [Int.pow_zero,Int.mul_one];exact DB⟩,fun _ h=>h,?_⟩
   · unfold tGo
     simp only [ycW,List.length_cons,List.length_nil]
     rfl
   · refine ⟨rfl,rfl,List.Perm.refl _,rfl,rfl,fun j hj=>?_,fun j hj=>?_,fun j hj=>?_,fun j hj=>by omega,?_,fun j hj=>by omega,rfl,rfl,rfl,fun j hj=>?_,fun j hj=>⟨[],by rw [List.append_nil],by simp,by simp only [List.length_nil];omega⟩⟩
     · obtain rfl:j=0:=by omega
       exact q1
     · obtain rfl | rfl:j=0∨j=1:=by omega
       · exact hs
       · exact yfo (by omega)
     · obtain rfl | rfl:j=0∨j=1:=by omega
       · exact hq
       · exact In.int D1 _
     · have:=hv a List.mem_cons_self
       show vXA l a q+shN l a≤vXA l a (lenR l)
       have e:(((0+1:Nat):Int):Rat)=1:=rfl
       rw [e] at this
       grind
     · obtain rfl:j=0:=by omega
       exact ⟨rfl,rfl⟩
 | r+1,A,q,lg,ts,D,B,hlen,hnd,hr,hs,q0,q1,hv,D1,DB,hB,hq,hsh,hlg,hr6=>by
   have n6:=hd.n6
   have hpow:B*12 ^ (r+1)=12*B*12 ^ r:=by rw [Int.pow_succ];grind
   have hp1:1≤(12:Int) ^ r:=by
     have:(0:Int)<12 ^ r:=Int.pow_pos (by omega)
     omega
   have hB1:12*B*1≤12*B*12 ^ r:=Int.mul_le_mul_of_nonneg_left hp1 (by omega)
   have hc:(((r+1+1:Nat):Int):Rat)=(((r+1:Nat):Int):Rat)+1:=by
     rw [show ((r+1+1:Nat):Int)=((r+1:Nat):Int)+1 by omega,Rat.intCast_add];rfl
   have hr0:(0:Rat)<(((r+1:Nat):Int):Rat):=Rat.intCast_pos.2 (by omega)
   have hv1:∀ a∈A,shN l a≤vXA l a (lenR l)-vXA l a q:=fun a ha=>by
     have:=hv a ha
     have sp:=ysx hd (hr a ha)
     have:=Rat.mul_pos hr0 sp
     rw [hc] at *
     grind
   obtain ⟨s,e,⟨p0,p1,⟨d,hd12,hpD⟩,psh⟩,hall,hw,hk,qs,hqs,hqr,hql⟩:=yy8 hd hs q0 (Rat.le_of_lt q1) D1 (by omega) hq hsh (A:=A) (by omega) hr hv1 lg (by omega)
   have hdD:d*D≤12*D:=Int.mul_le_mul_of_nonneg_right hd12.2 (by omega)
   have hdD1:1*1≤d*D:=Int.mul_le_mul hd12.1 D1 (by omega) (by omega)
   have hps:small s.p:=yy7 hd q0 (Rat.le_of_lt p0) p1 hd12 D1 (by omega) hpD
   have hlenk:(A.erase s.w).length=r+1:=by rw [List.length_erase_of_mem hw];omega
   have hmem:∀ b∈A.erase s.w,b∈A:=fun b hb=>List.mem_of_mem_erase hb
   have hv2:∀ b∈A.erase s.w,vXA l b s.p+((r+1:Nat):Int)*shN l b≤vXA l b (lenR l):=fun b hb=>by
     have h1:=hv b (hmem b hb)
     have h2:=hall b (hmem b hb)
     rw [hc] at h1
     grind
   have hp1:s.p<lenR l:=by
     obtain ⟨b,hb⟩:∃ b,b∈A.erase s.w:=by
       cases hx:A.erase s.w with
       | nil=>rw [hx] at hlenk;cases hlenk
       | cons b _=>exact ⟨b,List.mem_cons_self⟩
     have h1:=hv2 b hb
     have hbl:=hr b (hmem b hb)
     have sp:=ysx hd hbl
     have sp2:=Rat.mul_pos hr0 sp
     refine Rat.not_le.1 fun hle=>?_
     have:vXA l b (lenR l)≤vXA l b s.p:=ymL (hd.ok b hbl) hle
     grind
   have hll:s.lg.length+1≤lg.length+2*(r+2):=by rw [hqs,List.length_append];omega
   obtain ⟨x,o,t,k,L,D',h1,h2,hup,h3⟩:=yBC hd r (A.erase s.w) s.p s.lg (ts++[⟨s.w,q,s.p,s.k⟩]) (d*D) (12*B) hlenk (hnd.erase _) (fun b hb=>hr b (hmem b hb)) hps (by grind) hp1 hv2 (by omega) (by omega) (by omega) hpD (fun b=>(hsh b).up D1 (by omega)) (by omega) (by omega)
   have e2:tGo l (r+1+1) A lg q ts=.ok x:=by
     unfold tGo
     rw [e]
     dsimp only
     rw [if_neg (by omega)]
     exact h1
   refine ⟨x,s.w::o,yvU q t,yvU s.k k,yvU lg L,D',e2,⟨h2.1,by omega⟩,fun q h=>hup q (h.up D1 (by omega)),?_⟩
   refine ⟨?_,by rw [List.length_cons,h3.len],?_,rfl,h3.te,fun j hj=>?_,fun j hj=>?_,fun j hj=>?_,fun j hj=>?_,h3.last,fun j hj=>?_,rfl,h3.le,h3.ll,fun j hj=>?_,fun j hj=>?_⟩
   · rw [h3.tn,List.append_assoc]
     have:mkT (s.w::o) (yvU q t) (yvU s.k k)=⟨s.w,q,t 0,s.k⟩::mkT o t k:=rfl
     rw [this,h3.t0]
     rfl
   · exact (List.Perm.cons _ h3.perm).trans (List.perm_cons_erase hw).symm
   · cases j with
     | zero=>show q<t 0;rw [h3.t0];exact p0
     | succ j=>exact h3.lt j (by omega)
   · cases j with
     | zero=>exact hs
     | succ j=>exact h3.sm j (by omega)
   · cases j with
     | zero=>exact hup q (hq.up D1 (by omega))
     | succ j=>exact h3.inD j (by omega)
   · cases j with
     | zero =>
       show vXA l s.w (t 0)=vXA l s.w q+shN l s.w
       rw [h3.t0];exact psh
     | succ j=>exact h3.sh j (by omega)
   · cases j with
     | zero=>show s.k+0≤r+1;omega
     | succ j=>have:=h3.kb j (by omega);show k j+(j+1)≤r+1;omega
   · cases j with
     | zero =>
       refine ⟨?_,hlen⟩
       show ycW l q.num q.den lg A=.ok ⟨L 0,t 0,s.w,s.k⟩
       rw [h3.l0,h3.t0,e]
     | succ j =>
       obtain ⟨g1,g2⟩:=h3.st j (by omega)
       refine ⟨g1,?_⟩
       show (remA (A.erase s.w) o j).length=_
       omega
   · cases j with
     | zero =>
       refine ⟨qs,?_,hqr,by omega⟩
       show L 0=lg++qs
       rw [h3.l0,hqs]
     | succ j =>
       obtain ⟨qs,g1,g2,g3⟩:=h3.ql j (by omega)
       exact ⟨qs,g1,g2,by omega⟩
theorem yDT:∀ (o:List Nat) (t:Nat→Rat) (k:Nat→Nat) (j:Nat),j<o.length→(mkT o t k)[j]?=some ⟨o.getD j 0,t j,t (j+1),k j⟩
 | [],_,_,j,h=>by simp at h
 | a::o,t,k,0,h=>rfl
 | a::o,t,k,j+1,h=>yDT o _ _ j (by simpa using h)
theorem ysz:∀ (o:List Nat) (t:Nat→Rat) (k:Nat→Nat),(mkT o t k).length=o.length
 | [],_,_=>rfl
 | _::o,_,_=>congrArg (·+1) (ysz o _ _)
theorem TRun.log {r A q lg ts x o t k L D} (h:TRun l r A q lg ts x o t k L D):∃ qs,x.2=lg++qs∧(∀ q∈qs,QR l q)∧qs.length+1≤(r+1)*(r+1):=by
 have key:∀ i,i≤r→∃ qs,L (r+1)=L (r-i)++qs∧(∀ q∈qs,QR l q)∧qs.length+(i+1)+1≤(i+1)*(i+2):=by
   intro i
   induction i with
   | zero=>intro _;exact ⟨[],by rw [List.append_nil];exact h.ll,by simp,by simp⟩
   | succ i ih =>
     intro hi
     obtain ⟨qs,g1,g2,g3⟩:=ih (by omega)
     obtain ⟨ps,f1,f2,f3⟩:=h.ql (r-(i+1)) (by omega)
     rw [show r-(i+1)+1=r-i by omega] at f1
     refine ⟨ps++qs,by rw [g1,f1,List.append_assoc],fun q hq=>?_,?_⟩
     · rcases List.mem_append.1 hq with hq | hq
       · exact f2 q hq
       · exact g2 q hq
     · rw [List.length_append]
       have e:(i+1+1)*(i+1+2)=(i+1)*(i+2)+2*(i+2):=by
         rw [show i+1+1=i+2 by omega,show i+1+2=i+1+2 by omega,Nat.mul_add,Nat.mul_comm (i+2) (i+1),Nat.mul_comm (i+2) 2]
       omega
 obtain ⟨qs,g1,g2,g3⟩:=key r (Nat.le_refl _)
 refine ⟨qs,?_,g2,?_⟩
 · rw [← h.le,g1,Nat.sub_self,h.l0]
 · have e:(r+1)*(r+2)=(r+1)*(r+1)+(r+1):=by rw [show r+2=r+1+1 by omega,Nat.mul_add,Nat.mul_one]
   omega
theorem yDU (hd:DK l):∃ x o t k L D',tRun l=.ok x∧(1≤D'∧D'≤100000000)∧TRun l (l.length-1) (List.range l.length) 0 [] [] x o t k L D':=by
 have n0:=hd.n0;have n6:=hd.n6
 have l0:=(hd.ok 0 (by omega)).len0
 have hL:(1:Rat)≤lenR l:=Rat.intCast_le_intCast.2 l0.1
 have hn:l.length-1+1=l.length:=by omega
 have hp:(l.length:Int)*12 ^ (l.length-1)≤100000000:=by
   obtain h | h | h | h | h | h:l.length=1∨l.length=2∨l.length=3∨l.length=4∨l.length=5∨l.length=6:=by omega
   all_goals (rw [h];decide)
 obtain ⟨x,o,t,k,L,D',h1,h2,_,h3⟩:=yBC hd (l.length-1) (List.range l.length) 0 [] [] l.length l.length (by rw [List.length_range];omega) List.nodup_range (fun a ha=>List.mem_range.1 ha) yAx Rat.le_refl (by grind) (fun a ha=>by
   have hal:=List.mem_range.1 ha
   have hm:=yET hd hal
   have ht:=yDN (hd.ok a hal)
   rw [hd.len a hal] at ht
   rw [hn]
   show vX _ _ 0+((l.length:Int):Rat)*shN l a≤vX _ _ ((l.getD 0 default).len:Rat)
   rw [hm,← ht]
   grind) (by omega) (Int.le_refl _) hp (In.int (by omega) 0) (yFV l) (by rw [List.length_nil];omega) (by omega)
 refine ⟨x,o,t,k,L,D',?_,⟨h2.1,by omega⟩,h3⟩
 unfold tRun
 rw [if_pos (hd.err (by omega)),← h1,hn]
abbrev TW (l:List Ck) (x:List Tn×List Qy) (o:List Nat) (t:Nat→Rat) (k:Nat→Nat) (L:Nat→List Qy) (D:Int):Prop:=TRun l (l.length-1) (List.range l.length) 0 [] [] x o t k L D
theorem TW.mem {x o t k L D} (h:TW l x o t k L D) {a:Nat}:a∈o↔a<l.length:=by
 rw [h.perm.mem_iff,List.mem_range]
theorem TW.nd {x o t k L D} (h:TW l x o t k L D):o.Nodup:=h.perm.nodup_iff.2 List.nodup_range
theorem TW.at {x o t k L D} (n0:1≤l.length) (h:TW l x o t k L D) {a:Nat} (ha:a<l.length):o.idxOf a<l.length∧o.getD (o.idxOf a) 0=a:=by
 have hm:=(h.mem (a:=a)).2 ha
 have hl:=h.len
 have hi:=List.idxOf_lt_length_of_mem hm
 refine ⟨by omega,?_⟩
 rw [List.getD_eq_getElem?_getD,List.getElem?_eq_getElem hi]
 exact List.getElem_idxOf hi
theorem TW.idx {x o t k L D} (n0:1≤l.length) (h:TW l x o t k L D) {j:Nat} (hj:j<l.length):o.getD j 0<l.length∧o.idxOf (o.getD j 0)=j:=by
 have hl:=h.len
 have hj':j<o.length:=by omega
 have hm:o.getD j 0∈o:=yDK hj'
 refine ⟨h.mem.1 hm,?_⟩
 rw [List.getD_eq_getElem?_getD,List.getElem?_eq_getElem hj']
 exact h.nd.idxOf_getElem j hj'
theorem yEV (t:Nat→Rat) (j:Nat):rsL [spT t j]=[(t j,t (j+1))]:=by
 show [(rt (t j).num (t j).den,rt (t (j+1)).num (t (j+1)).den)]=_
 rw [yim,yim]
theorem yy9:∀ (ts:List Tn) (P:List (List Sp)) (a:Nat),(∀ x∈ts,x.a≠a)→(ts.foldl (fun P t=>P.set t.a [⟨t.f.num,t.f.den,t.t.num,t.t.den⟩]) P).getD a []=P.getD a []
 | [],P,a,_=>rfl
 | x::r,P,a,h=>by
   have:=yy9 r (P.set x.a [⟨x.f.num,x.f.den,x.t.num,x.t.den⟩]) a (fun y hy=>h y (List.mem_cons_of_mem _ hy))
   rw [List.foldl_cons,this,List.getD_eq_getElem?_getD,List.getElem?_set_ne (h x List.mem_cons_self),← List.getD_eq_getElem?_getD]
theorem yFo:∀ (o:List Nat) (t:Nat→Rat) (k:Nat→Nat) (x:Tn),x∈mkT o t k→x.a∈o
 | [],_,_,x,h=>by cases h
 | a::o,t,k,x,h=>by
   rcases List.mem_cons.1 h with rfl | h
   · exact List.mem_cons_self
   · exact List.mem_cons_of_mem _ (yFo o _ _ x h)
theorem yBD:∀ (o:List Nat) (t:Nat→Rat) (k:Nat→Nat) (P:List (List Sp)) (j:Nat),o.Nodup→j<o.length→o.getD j 0<P.length→((mkT o t k).foldl (fun P t=>P.set t.a [⟨t.f.num,t.f.den,t.t.num,t.t.den⟩]) P).getD (o.getD j 0) []=[spT t j]
 | [],t,k,P,j,_,h,_=>by simp at h
 | a::o,t,k,P,0,hnd,h,hP=>by
   have hnd:=List.nodup_cons.1 hnd
   have hP:a<P.length:=hP
   unfold mkT
   rw [List.foldl_cons]
   show List.getD (List.foldl _ _ _) a []=_
   rw [yy9 _ _ a (fun x hx e=>hnd.1 (by rw [← e];exact yFo o _ _ x hx)),List.getD_eq_getElem?_getD,List.getElem?_set_self hP]
   rfl
 | a::o,t,k,P,j+1,hnd,h,hP=>by
   have hnd:=List.nodup_cons.1 hnd
   unfold mkT
   rw [List.foldl_cons]
   exact yBD o (fun j=>t (j+1)) (fun j=>k (j+1)) _ j hnd.2 (by simpa using h) (by rw [List.length_set];exact hP)
theorem TW.pin {x o t k L D} (n0:1≤l.length) (h:TW l x o t k L D) {j:Nat} (hj:j<l.length):(dvT l.length x.1).getD (o.getD j 0) []=[spT t j]:=by
 have hl:=h.len
 rw [h.tn,List.nil_append]
 exact yBD o t k _ j h.nd (by omega) (by rw [List.length_replicate];exact (h.idx n0 hj).1)
theorem TW.LD {x o t k L D} (hd:DK l) (h:TW l x o t k L D):LD l ((dvT l.length x.1).map rsL) t o.idxOf:=by
 have n0:=hd.n0
 have hn:l.length-1+1=l.length:=by omega
 have hpl:=yEU l.length x.1
 have l0:=(hd.ok 0 (by omega)).len0
 refine ⟨hd,by rw [List.length_map];exact hpl,h.t0,?_,fun j hj=>h.lt j (by omega),fun j hj=>h.sm j (by omega),fun a ha=>?_,fun a b ha hb e=>?_,fun j hj=>?_⟩
 · have:=h.te
   rw [hn] at this
   exact this
 · obtain ⟨k1,k2⟩:=h.at n0 ha
   refine ⟨k1,?_⟩
   have:=h.pin n0 k1
   rw [k2] at this
   rw [List.getD_eq_getElem?_getD,List.getElem?_map,List.getElem?_eq_getElem (by omega)]
   rw [List.getD_eq_getElem?_getD,List.getElem?_eq_getElem (by omega)] at this
   show rsL (dvT l.length x.1)[a]=_
   rw [show (dvT l.length x.1)[a]=[spT t (o.idxOf a)] from this,yEV]
 · have h1:=(h.at n0 ha).2
   have h2:=(h.at n0 hb).2
   rw [e,h2] at h1
   exact h1.symm
 · obtain ⟨k1,k2⟩:=h.idx n0 hj
   exact ⟨_,k1,k2⟩
end
end Go.Pf.Vc
namespace Go.Pf.Vc
open Go Go.Pf
set_option maxRecDepth 100000
def thr8:List Ck:=[⟨6,[0,6],[1]⟩,⟨6,[0,4,6],[1,4]⟩,⟨6,[0,2,6],[2,0]⟩]
def tnT (x:Tn):Nat×Rat×Rat×Nat:=(x.a,x.f,x.t,x.k)
def ofT (x:Nat×Rat×Rat×Nat):Tn:=⟨x.1,x.2.1,x.2.2.1,x.2.2.2⟩
def yDV (e:Except Int (List Tn×List Qy)):Bool:=match e with
 | .ok (ts,lg)=>decide (ts.map tnT=[(2,0,mkRat 2 3,1),(0,mkRat 2 3,mkRat 8 3,0),(1,mkRat 8 3,6,0)])&&decide (lg.length=6)
 | .error _=>false
theorem yEW:yDV (tRun thr8)=true:=by decide +kernel
theorem yDW:finC thr8:=by
 intro i hi
 have h:i<3:=hi
 rcases i with _ | _ | _ | i
 · exact ⟨by decide,by decide⟩
 · exact ⟨by decide,by decide⟩
 · exact ⟨by decide,by decide⟩
 · omega
theorem yFX (K:List PV→Prop):ymg K=K (cks thr8):=rfl
theorem lit8:([(.agg [(.int .i64 (2:Int)),(.int .i64 (0:Int)),(.int .i64 (1:Int)),(.int .i64 (2:Int)),(.int .i64 (3:Int)),(.int .i64 (1:Int))]),(.agg [(.int .i64 (0:Int)),(.int .i64 (2:Int)),(.int .i64 (3:Int)),(.int .i64 (8:Int)),(.int .i64 (3:Int)),(.int .i64 (0:Int))]),(.agg [(.int .i64 (1:Int)),(.int .i64 (8:Int)),(.int .i64 (3:Int)),(.int .i64 (6:Int)),(.int .i64 (1:Int)),(.int .i64 (0:Int))])]:List PV)=tns ([(2,0,mkRat 2 3,1),(0,mkRat 2 3,mkRat 8 3,0),(1,mkRat 8 3,6,0)].map ofT):=by kernel_rfl
theorem rOf1 (n:Int) (K:Int→Int→Prop):yfP n K=K n 1:=rfl
theorem yvV (K:Bool→Prop):yce K=K true:=by
 have h3:=yEW
 cases e:tRun thr8 with
 | error x=>rw [e] at h3;cases h3
 | ok t =>
   obtain ⟨ts,lg⟩:=t
   rw [e] at h3
   simp only [yDV,Bool.and_eq_true,decide_eq_true_eq] at h3
   obtain ⟨hts,hlg⟩:=h3
   have e1:ts=(ts.map tnT).map ofT:=by rw [List.map_map];exact (List.map_id ts).symm
   rw [hts] at e1
   unfold yce ykJ
   dsimp only [Go.Pf.jn]
   rw [yFX,yBB yDW (by decide),e]
   dsimp only
   rw [yCr,rOf1,rOf1,ceT rfl,lit8,e1,yuf (by decide),yaf,yba,hlg,ceT (show ((6:Nat):Int)=6 from rfl),ceT (show (bndV 3).2=0 from rfl),show (bndV 3).1=8 from rfl]
   rfl
theorem yEX {l:List Ck} (hl:l.length≤9223372036854775807) (K:Bool→Prop):yey (cks l) K=K (!yoJ l&&decide (yeo l 0=0)):=by
 unfold yey yoG
 dsimp only [Go.Pf.jn]
 rw [yu5 hl]
 cases hg:yoJ l with
 | true=>rfl
 | false =>
   obtain ⟨g1,g2,g3⟩:=yt9 hg
   rw [show (!false)=true from rfl,yaf,yCj g3 (by omega)]
   rfl
end Go.Pf.Vc
namespace Go.Pf.Vc
open Go Go.Pf
section
variable {l:List Ck}
def tnO (o:List Nat) (t:Nat→Rat) (k:Nat→Nat) (i:Nat):Tn:=⟨o.getD i 0,t i,t (i+1),k i⟩
theorem yBE {x o t k L D'} (n0:1≤l.length) (h:TW l x o t k L D') {i:Nat} (hi:i<l.length):List.getD (tns x.1) i .nils=tnE (tnO o t k i):=by
 have hl:=h.len
 unfold tns
 rw [h.tn,List.nil_append,List.getD_eq_getElem?_getD,List.getElem?_map,yDT o t k i (by omega)]
 rfl
theorem asTn {x:Tn} {P:Prop}:asr (conf (.agg [.i .i64,.i .i64,.i .i64,.i .i64,.i .i64,.i .i64]) (tnE x)) P=P:=rfl
theorem tn0 (o:List Nat) (t:Nat→Rat) (k:Nat→Nat) (i:Nat):yaa (yae (tnE (tnO o t k i)) 0)=(o.getD i 0:Int):=rfl
theorem tn1 (o:List Nat) (t:Nat→Rat) (k:Nat→Nat) (i:Nat):yaa (yae (tnE (tnO o t k i)) 1)=(t i).num:=rfl
theorem tn2 (o:List Nat) (t:Nat→Rat) (k:Nat→Nat) (i:Nat):yaa (yae (tnE (tnO o t k i)) 2)=(t i).den:=rfl
theorem tn3 (o:List Nat) (t:Nat→Rat) (k:Nat→Nat) (i:Nat):yaa (yae (tnE (tnO o t k i)) 3)=(t (i+1)).num:=rfl
theorem tn4 (o:List Nat) (t:Nat→Rat) (k:Nat→Nat) (i:Nat):yaa (yae (tnE (tnO o t k i)) 4)=(t (i+1)).den:=rfl
theorem tn5 (o:List Nat) (t:Nat→Rat) (k:Nat→Nat) (i:Nat):yaa (yae (tnE (tnO o t k i)) 5)=(k i:Int):=rfl
end
end Go.Pf.Vc
namespace Go.Pf.Vc
open Go Go.Pf
section
variable {l:List Ck}
theorem agR (hd:DK l) {an ad:Int} (ha:I64 an) (ha':I64 ad) {A:List Nat} (hA:∀ a∈A,a<l.length) (hA6:A.length≤1000) (h2:2≤A.length) {b0 b1 b4 b5 x0 x1 x2} (i5 i6 i11 i12 i13 i14 i15 i16:Int) {s':TSt} :
   ∀ (r:List Nat) (i:Nat) (s:TSt),A.drop i=r→1≤i→i≤A.length→small s.p→s.lg.length+2*r.length≤1900→s.k≤i→tR l an ad r s=.ok s' →
   x0 (cks l) (logs s'.lg) an ad (s'.w:Int) i5 i6 s'.p.num s'.p.den (s'.k:Int) (nts A) i11 i12 i13 i14 i15 i16 (nts A) ((A.length:Nat):Int) ((A.length:Nat):Int) false →
   ∃ n,ybk b0 b1 yao ybr b4 b5 yaZ ya9 ybh x0 x1 x2 n (cks l) (logs s.lg) an ad (s.w:Int) i5 i6 s.p.num s.p.den (s.k:Int) (nts A) i11 i12 i13 i14 i15 i16 (nts A) ((A.length:Nat):Int) ((i:Nat):Int)
 | [],i,s,hr,h1,hi,hs,hl,hk,hR,h=>by
   have e:i=A.length:=by
     have:=congrArg List.length hr
     rw [List.length_drop,List.length_nil] at this
     omega
   subst e
   refine ⟨1,?_⟩
   cases hR
   unfold ybk
   rw [cbF (by omega)]
   exact h
 | a::r,i,s,hr,h1,hi,hs,hl,hk,hR,h=>by
   obtain ⟨hlt,hg,hr'⟩:=yh4 hr
   have ham:a<l.length:=hA a (by rw [← hg,List.getD_eq_getElem?_getD,List.getElem?_eq_getElem hlt];exact List.getElem_mem hlt)
   have ew:IntKind.i64.wrap ((i:Int)+1)=((i+1:Nat):Int):=by rw [wib (by omega) (by omega)];omega
   have ek:IntKind.i64.wrap ((s.k:Int)+1)=((s.k+1:Nat):Int):=by rw [wib (by omega) (by omega)];omega
   rw [List.length_cons] at hl
   have hR0:=hR
   unfold tR at hR
   cases hv:valE l an ad s.lg.length a s.p with
   | error e=>rw [hv] at hR;cases hR
   | ok v =>
     rw [hv] at hR
     dsimp only at hR
     have sv:small v:=yrA hv
     by_cases hm:shN l a<v
     · rw [if_pos hm] at hR
       cases hq:ygH l an ad (s.lg.length+1) a with
       | error e=>rw [hq] at hR;cases hR
       | ok q =>
         rw [hq] at hR
         have sq:=yfp hq
         obtain ⟨n,hn⟩:=agR hd ha ha' hA hA6 h2 (b0:=b0) (b1:=b1) (b4:=b4) (b5:=b5) (x0:=x0) (x1:=x1) (x2:=x2) i5 i6 i11 i12 i13 i14 i15 i16 r (i+1) ⟨(s.lg++[valQ an ad a s.p v])++[yjA l an ad a q],q,a,s.k+1⟩ hr' (by omega) (by omega) sq (by simp only [List.length_append,List.length_cons,List.length_nil];omega) (by show s.k+1≤i+1;omega) hR h
         refine ⟨n+1,?_⟩
         unfold ybk
         simp only [Go.Pf.jn,lt]
         rw [cbT (by omega),ybb,asT (by omega),asT (by omega),Int.toNat_natCast,yh3 hlt,hg,yea,iov]
         rw [ceF (by omega),cbT (by omega),yhs hd ham ha ha' s.lg hs,hv]
         dsimp only
         rw [cnF rfl,ydC hd ham (by rw [yba,List.length_append,List.length_singleton];omega),yjB sv (yeC hd ham),decide_eq_true hm,Bool.not_true,yac]
         rw [ydC hd ham (by rw [yba,List.length_append,List.length_singleton];omega),yjC hd ham ha ha' (s.lg++[valQ an ad a s.p v]),List.length_append,List.length_singleton,hq]
         dsimp only
         rw [ceT rfl,cnF rfl,ew,ek]
         exact hn
     · rw [if_neg hm] at hR
       obtain ⟨n,hn⟩:=agR hd ha ha' hA hA6 h2 (b0:=b0) (b1:=b1) (b4:=b4) (b5:=b5) (x0:=x0) (x1:=x1) (x2:=x2) i5 i6 i11 i12 i13 i14 i15 i16 r (i+1) ⟨s.lg++[valQ an ad a s.p v],s.p,s.w,s.k⟩ hr' (by omega) (by omega) hs (by simp only [List.length_append,List.length_cons,List.length_nil];omega) (by show s.k≤i+1;omega) hR h
       refine ⟨n+1,?_⟩
       unfold ybk
       simp only [Go.Pf.jn,lt]
       rw [cbT (by omega),ybb,asT (by omega),asT (by omega),Int.toNat_natCast,yh3 hlt,hg,yea,iov]
       rw [ceF (by omega),cbT (by omega),yhs hd ham ha ha' s.lg hs,hv]
       dsimp only
       rw [cnF rfl,ydC hd ham (by rw [yba,List.length_append,List.length_singleton];omega),yjB sv (yeC hd ham),decide_eq_false hm,Bool.not_false,yaf,ew]
       exact hn
theorem rl0 {A:List Nat} (hA:∀ a∈A,a<l.length) (hA6:A.length≤1000) {b0 b1 b2 b3 b4 b5 b6 b7 b8 x0 x1} (lg:List PV) (i3 i4 i5 i6 i7 i8 i9 i10:Int) :
   ∀ (r:List Nat) (i n:Nat) (last:Int),A.drop i=r→i≤A.length→r.length<n→(∀ a∈r,last<(a:Int))→r.Pairwise (·<·)→(r≠[]∨0≤last) →
   (∀ v:Int,0≤v→x0 (nts A) (cks l) lg i3 i4 i5 i6 i7 i8 i9 i10 v (nts A) ((A.length:Nat):Int) ((A.length:Nat):Int) false) →
   ycN b0 b1 b2 b3 b4 b5 b6 b7 b8 x0 x1 n (nts A) (cks l) lg i3 i4 i5 i6 i7 i8 i9 i10 last (nts A) ((A.length:Nat):Int) ((i:Nat):Int)
 | [],i,n,last,hr,hi,hn,h1,h2,h3,h=>by
   obtain ⟨n,rfl⟩:∃ k,n=k+1:=⟨n-1,by omega⟩
   have e:i=A.length:=by
     have:=congrArg List.length hr
     rw [List.length_drop,List.length_nil] at this
     omega
   subst e
   unfold ycN
   rw [cbF (by omega)]
   exact h last (h3.elim (fun k=>absurd rfl k) id)
 | a::r,i,n,last,hr,hi,hn,h1,h2,h3,h=>by
   obtain ⟨n,rfl⟩:∃ k,n=k+1:=⟨n-1,by omega⟩
   simp only [List.length_cons] at hn
   obtain ⟨hlt,hg,hr'⟩:=yh4 hr
   have ham:a<l.length:=hA a (by rw [← hg,List.getD_eq_getElem?_getD,List.getElem?_eq_getElem hlt];exact List.getElem_mem hlt)
   have ew:IntKind.i64.wrap ((i:Int)+1)=((i+1:Nat):Int):=by rw [wib (by omega) (by omega)];omega
   have hp:=List.pairwise_cons.1 h2
   have h1a:=h1 a List.mem_cons_self
   have ih:=rl0 hA hA6 (b0:=b0) (b1:=b1) (b2:=b2) (b3:=b3) (b4:=b4) (b5:=b5) (b6:=b6) (b7:=b7) (b8:=b8) (x0:=x0) (x1:=x1) lg i3 i4 i5 i6 i7 i8 i9 i10 r (i+1) n a hr' (by omega) (by omega) (fun b hb=>by have:=hp.1 b hb;omega) hp.2 (.inr (by omega)) h
   unfold ycN
   simp only [Go.Pf.jn,lt]
   rw [cbT (by omega),ybb,asT (by omega),asT (by omega),Int.toNat_natCast,yh3 hlt,hg,yea,iov,cbF (by omega),yaX,decide_eq_false (show ¬((a:Int)≥(l.length:Int)) by omega),yac,ew]
   exact ih
theorem yFY {lg:List Qy} (h:lg.length≤2000) (K:List PV→Prop):yaG (logs lg) K=K (logs lg):=by
 show asr (ye0 8 64 (logs lg)) (K (logs lg))=_
 have:ye0 8 64 (logs lg)=true:=by
   unfold ye0
   rw [yq3,yba,Bool.true_and,decide_eq_true_iff]
   unfold room;omega
 rw [this,yaj]
theorem yEY (hd:DK l) {q:Rat} (hs:small q) (q0:0≤q) (q1:q<lenR l) {A:List Nat} (hA:∀ a∈A,a<l.length) (hA6:A.length≤900) (h0:A≠[]) (hp:A.Pairwise (·<·)) {lg:List Qy} (hl:lg.length+2*A.length≤1900) {s:TSt} (hR:ycW l q.num q.den lg A=.ok s) (K) :
   ybl (cks l) (logs lg) (nts A) q.num q.den K=K (cks l) (logs s.lg) (s.w:Int) q.num q.den s.p.num s.p.den (s.k:Int) 0:=by
 refine ytW _ _ _ _ _ _ _ _ _ _ _ _ _ _ (fun K k=>?_) K
 have n0:=hd.n0;have n6:=hd.n6
 have hlen0:=(hd.ok 0 (by omega)).len0
 obtain ⟨a,r,rfl⟩:∃ a r,A=a::r:=by cases A with | nil=>exact absurd rfl h0 | cons a r=>exact ⟨a,r,rfl⟩
 have hlt:0<(a::r).length:=by simp only [List.length_cons];omega
 have ham:a<l.length:=hA a List.mem_cons_self
 have hg:(a::r).getD 0 0=a:=rfl
 have e1:((((l.getD 0 default).len:Int):Rat)).num=(l.getD 0 default).len:=Rat.num_intCast _
 have e2:(((((l.getD 0 default).len:Int):Rat)).den:Int)=1:=by rw [Rat.den_intCast];rfl
 have hmore:=yjB (q:=(((l.getD 0 default).len:Int):Rat)) (r:=q) (yfo (by omega)) hs
 rw [e1,e2] at hmore
 have hchk:chk q.num q.den=0:=by unfold chk;rw [if_pos hs.rv]
 unfold ybl yiQ
 rw [yjy hd.fin (by omega),yba,hd.err (by omega),cnF rfl,ybb]
 refine ⟨(a::r).length+1,rl0 hA (by omega) (logs lg) q.num q.den 0 0 0 0 0 0 (a::r) 0 _ (-1) rfl (by omega) (by omega) (fun b _=>by omega) hp (.inl (by simp)) (fun v v0=>?_)⟩
 simp only [Go.Pf.jn,lt]
 rw [cbF (by omega),yq1 hs.i1 hs.i2,hchk,cnF rfl,cbF (by have:=Rat.num_nonneg.2 q0;omega),yaX,asT (by omega),yfb (by omega),asCk,ck0,ymN,hmore,decide_eq_true (show q<(((l.getD 0 default).len:Int):Rat) from q1),Bool.not_true,yac,yt8 hd.fin (by omega),if_pos (hd.err (by omega)),yFY (by omega),cnF rfl,ybb,asT (by omega),yh3 hlt,hg,yea,iov,yaX,asT (by omega),yfb (by omega),asCk,ck0,ymN]
 cases r with
 | nil =>
   refine ⟨1,?_⟩
   unfold ybk
   simp only [Go.Pf.jn,lt]
   rw [cbT (by simp only [List.length_cons,List.length_nil];omega),ybb,asT (by omega),asT (by simp only [List.length_cons,List.length_nil];omega),show (0:Int).toNat=0 from rfl,yh3 hlt,hg,yea,iov]
   rw [ceT (by simp)]
   simp only [ycW,Except.ok.injEq] at hR
   subst hR
   dsimp only at k
   rw [e1,e2] at k
   exact k
 | cons b r =>
   simp only [ycW] at hR
   cases hq:ygH l q.num q.den lg.length a with
   | error e=>rw [hq] at hR;cases hR
   | ok p =>
     rw [hq] at hR
     simp only [List.length_cons] at hl hA6
     have sp:=yfp hq
     refine (fun h=>?_) (agR hd hs.i1 hs.i2 hA (by simp only [List.length_cons];omega) (by simp only [List.length_cons];omega) (b0:=ybg) (b1:=yaE) (b4:=yaJ) (b5:=yaG) (x0:=fun v0 v1 _ _ v4 v5 v6 v7 v8 v9 _ _ _ _ _ _ _ _ _ _ _=>K v0 v1 v4 v5 v6 v7 v8 v9 0) (x1:=fun v0 v1 _ _ v4 v5 v6 v7 v8 v9 _ _ _ _ _ _ _ _ _ _ _ _ _=>K v0 v1 v4 v5 v6 v7 v8 v9 0) (x2:=fun _ _ _ _ _ _ _ _ _ _ v10 v11 v12 v13 v14 v15 v16=>K [] [] v10 v11 v12 v13 v14 v15 v16) q.num q.den 0 0 0 0 0 0 (b::r) 1 ⟨lg++[yjA l q.num q.den a p],p,a,0⟩ rfl (by omega) (by simp only [List.length_cons];omega) sp (by simp only [List.length_append,List.length_cons,List.length_nil];omega) (Nat.zero_le _) hR k)
     obtain ⟨n,hn⟩:=h
     refine ⟨n+1,?_⟩
     unfold ybk
     simp only [Go.Pf.jn,lt]
     rw [cbT (by simp only [List.length_cons];omega),ybb,asT (by omega),asT (by simp only [List.length_cons];omega),show (0:Int).toNat=0 from rfl,yh3 hlt,hg,yea,iov]
     rw [ceF (by simp only [List.length_cons];omega),cbF (by omega),ydC hd ham (by rw [yba];omega),yjC hd ham hs.i1 hs.i2 lg,hq]
     dsimp only
     rw [ceT rfl,cnF rfl]
     exact hn
end
end Go.Pf.Vc
namespace Go.Pf.Vc
open Go Go.Pf
theorem inWO {A:List Nat} (hA6:A.length≤900) (w:Nat) {a0 a1 a2 a3 a4 a5 x4} (l2 l3 l4:List PV) (i7 i8 i9:Int) (l10 l11:List PV) (i13 i14 i15 i16 i17:Int) :
   ∀ (r:List Nat) (i n:Nat) (B:List Nat),A.drop i=r→i≤A.length→B.length≤i→r.length<n →
   x4 (nts A) (nts (B++r.filter (· != w))) l2 l3 l4 i7 i8 i9 l10 l11 (w:Int) i13 i14 i15 i16 i17 ((A.length:Nat):Int) false→ybR a0 a1 a2 a3 a4 a5 x4 n (nts A) (nts B) l2 l3 l4 i7 i8 i9 l10 l11 (w:Int) i13 i14 i15 i16 i17 ((i:Nat):Int)
 | [],i,n,B,hr,hi,hB,hn,h=>by
   obtain ⟨n,rfl⟩:∃ k,n=k+1:=⟨n-1,by omega⟩
   have e:i=A.length:=by
     have:=congrArg List.length hr
     rw [List.length_drop,List.length_nil] at this
     omega
   subst e
   unfold ybR
   rw [ybb,cbF (by omega)]
   rw [List.filter_nil,List.append_nil] at h
   exact h
 | a::r,i,n,B,hr,hi,hB,hn,h=>by
   obtain ⟨n,rfl⟩:∃ k,n=k+1:=⟨n-1,by omega⟩
   simp only [List.length_cons] at hn
   obtain ⟨hlt,hg,hr'⟩:=yh4 hr
   have ew:IntKind.i64.wrap ((i:Int)+1)=((i+1:Nat):Int):=by rw [wib (by omega) (by omega)];omega
   have eB:nts B++[PV.int IntKind.i64 (a:Int)]=nts (B++[a]):=(yio B [a]).symm
   unfold ybR
   simp only [Go.Pf.jn,lt]
   rw [ybb,cbT (by omega)]
   rw [asT (by omega),asT (by omega),asTw,asT (by omega),Nat.zero_add,Int.toNat_natCast,yh3 hlt,hg,yea,iov]
   by_cases e:a=w
   · subst e
     rw [cnF rfl,ew]
     try simp only [decide_true,Bool.and_self,yaj]
     refine inWO hA6 a l2 l3 l4 i7 i8 i9 l10 l11 i13 i14 i15 i16 i17 r (i+1) n B hr' (by omega) (by omega) (by omega) ?_
     rw [List.filter_cons_of_neg (by simp)] at h
     exact h
   · rw [cnT (by omega),asT (by omega),asT (by omega),asTw,asT (by omega),yea,asTw,asT (by omega),asTT (by simp),asTw,asT (by rw [ybb];unfold room;omega),eB,ew]
     try simp only [decide_true,Bool.and_self,yaj]
     refine inWO hA6 w l2 l3 l4 i7 i8 i9 l10 l11 i13 i14 i15 i16 i17 r (i+1) n (B++[a]) hr' (by omega) (by rw [List.length_append,List.length_singleton];omega) (by omega) ?_
     rw [List.filter_cons_of_pos (by simpa using e)] at h
     rw [List.append_assoc]
     exact h
theorem inNO {A:List Nat} (hA6:A.length≤900) (w:Nat) {a0 a1 a2 a3 a4 a5 x3 x4} (l2 l3 l4:List PV) (i7 i8 i9:Int) (l10 l11:List PV) (i13 i14 i15 i16 i17:Int) :
   ∀ (r:List Nat) (i n:Nat),A.drop i=r→i≤A.length→r.length<n →
   (r.filter (· != w)=[]→x3 (nts A) l2 l3 l4 i7 i8 i9 l10 l11 (w:Int) i13 i14 i15 i16 i17 ((A.length:Nat):Int) false)→(r.filter (· != w)≠[]→x4 (nts A) (nts (r.filter (· != w))) l2 l3 l4 i7 i8 i9 l10 l11 (w:Int) i13 i14 i15 i16 i17 ((A.length:Nat):Int) false)→ybS a0 a1 a2 a3 a4 a5 x3 x4 n (nts A) l2 l3 l4 i7 i8 i9 l10 l11 (w:Int) i13 i14 i15 i16 i17 ((i:Nat):Int)
 | [],i,n,hr,hi,hn,h,h'=>by
   obtain ⟨n,rfl⟩:∃ k,n=k+1:=⟨n-1,by omega⟩
   have e:i=A.length:=by
     have:=congrArg List.length hr
     rw [List.length_drop,List.length_nil] at this
     omega
   subst e
   unfold ybS
   rw [ybb,cbF (by omega)]
   exact h rfl
 | a::r,i,n,hr,hi,hn,h,h'=>by
   obtain ⟨n,rfl⟩:∃ k,n=k+1:=⟨n-1,by omega⟩
   simp only [List.length_cons] at hn
   obtain ⟨hlt,hg,hr'⟩:=yh4 hr
   have ew:IntKind.i64.wrap ((i:Int)+1)=((i+1:Nat):Int):=by rw [wib (by omega) (by omega)];omega
   have eB:[PV.int IntKind.i64 (a:Int)]=nts [a]:=rfl
   unfold ybS
   simp only [lt]
   rw [ybb,cbT (by omega)]
   rw [asT (by omega),asT (by omega),asTw,asT (by omega),Nat.zero_add,Int.toNat_natCast,yh3 hlt,hg,yea,iov]
   by_cases e:a=w
   · subst e
     rw [cnF rfl,ew]
     try simp only [decide_true,Bool.and_self,yaj]
     rw [List.filter_cons_of_neg (by simp)] at h h'
     exact inNO hA6 a l2 l3 l4 i7 i8 i9 l10 l11 i13 i14 i15 i16 i17 r (i+1) n hr' (by omega) (by omega) h h'
   · rw [cnT (by omega),asT (by omega),asT (by omega),asTw,asT (by omega),yea,ew]
     try simp only [List.length_cons,List.length_nil,decide_true,Bool.and_self,yaj]
     rw [List.filter_cons_of_pos (by simpa using e)] at h'
     rw [eB]
     refine inWO hA6 w l2 l3 l4 i7 i8 i9 l10 l11 i13 i14 i15 i16 i17 r (i+1) n [a] hr' (by omega) (by simp only [List.length_cons,List.length_nil];omega) (by omega) ?_
     exact h' (by simp)
theorem inWD {A:List Nat} (hA6:A.length≤900) (w:Nat) {a0 a1 a2 a3 a4 a5 x6} (l0 l2 l3 l4 l5:List PV) (i7 i8 i9:Int) (l10 l11:List PV) (i13 i14 i15 i16 i17:Int) :
   ∀ (r:List Nat) (i n:Nat) (B:List Nat),A.drop i=r→i≤A.length→B.length≤i→r.length<n →
   x6 l0 (nts (B++r.filter (· != w))) l2 l3 l4 l5 (nts A) i7 i8 i9 l10 l11 (w:Int) i13 i14 i15 i16 i17 ((A.length:Nat):Int) false→ybT a0 a1 a2 a3 a4 a5 x6 n l0 (nts B) l2 l3 l4 l5 (nts A) i7 i8 i9 l10 l11 (w:Int) i13 i14 i15 i16 i17 ((i:Nat):Int)
 | [],i,n,B,hr,hi,hB,hn,h=>by
   obtain ⟨n,rfl⟩:∃ k,n=k+1:=⟨n-1,by omega⟩
   have e:i=A.length:=by
     have:=congrArg List.length hr
     rw [List.length_drop,List.length_nil] at this
     omega
   subst e
   unfold ybT
   rw [ybb,cbF (by omega)]
   rw [List.filter_nil,List.append_nil] at h
   exact h
 | a::r,i,n,B,hr,hi,hB,hn,h=>by
   obtain ⟨n,rfl⟩:∃ k,n=k+1:=⟨n-1,by omega⟩
   simp only [List.length_cons] at hn
   obtain ⟨hlt,hg,hr'⟩:=yh4 hr
   have ew:IntKind.i64.wrap ((i:Int)+1)=((i+1:Nat):Int):=by rw [wib (by omega) (by omega)];omega
   have eB:nts B++[PV.int IntKind.i64 (a:Int)]=nts (B++[a]):=(yio B [a]).symm
   unfold ybT
   simp only [Go.Pf.jn,lt]
   rw [ybb,cbT (by omega)]
   rw [asT (by omega),asT (by omega),Int.toNat_natCast,yh3 hlt,hg,yea,iov]
   by_cases e:a=w
   · subst e
     rw [cnF rfl,ew]
     try simp only [decide_true,Bool.and_self,yaj]
     refine inWD hA6 a l0 l2 l3 l4 l5 i7 i8 i9 l10 l11 i13 i14 i15 i16 i17 r (i+1) n B hr' (by omega) (by omega) (by omega) ?_
     rw [List.filter_cons_of_neg (by simp)] at h
     exact h
   · rw [cnT (by omega),asT (by omega),asT (by omega),yea,asTw,asT (by omega),asTT (by simp),asTw,asT (by rw [ybb];unfold room;omega),eB,ew]
     try simp only [decide_true,Bool.and_self,yaj]
     refine inWD hA6 w l0 l2 l3 l4 l5 i7 i8 i9 l10 l11 i13 i14 i15 i16 i17 r (i+1) n (B++[a]) hr' (by omega) (by rw [List.length_append,List.length_singleton];omega) (by omega) ?_
     rw [List.filter_cons_of_pos (by simpa using e)] at h
     rw [List.append_assoc]
     exact h
theorem inND {A:List Nat} (hA6:A.length≤900) (w:Nat) {a0 a1 a2 a3 a4 a5 x5 x6} (l0 l2 l3 l4 l5:List PV) (i7 i8 i9:Int) (l10 l11:List PV) (i13 i14 i15 i16 i17:Int) :
   ∀ (r:List Nat) (i n:Nat),A.drop i=r→i≤A.length→r.length<n →
   (r.filter (· != w)=[]→x5 l0 l2 l3 l4 l5 (nts A) i7 i8 i9 l10 l11 (w:Int) i13 i14 i15 i16 i17 ((A.length:Nat):Int) false)→(r.filter (· != w)≠[]→x6 l0 (nts (r.filter (· != w))) l2 l3 l4 l5 (nts A) i7 i8 i9 l10 l11 (w:Int) i13 i14 i15 i16 i17 ((A.length:Nat):Int) false)→ybU a0 a1 a2 a3 a4 a5 x5 x6 n l0 l2 l3 l4 l5 (nts A) i7 i8 i9 l10 l11 (w:Int) i13 i14 i15 i16 i17 ((i:Nat):Int)
 | [],i,n,hr,hi,hn,h,h'=>by
   obtain ⟨n,rfl⟩:∃ k,n=k+1:=⟨n-1,by omega⟩
   have e:i=A.length:=by
     have:=congrArg List.length hr
     rw [List.length_drop,List.length_nil] at this
     omega
   subst e
   unfold ybU
   rw [ybb,cbF (by omega)]
   exact h rfl
 | a::r,i,n,hr,hi,hn,h,h'=>by
   obtain ⟨n,rfl⟩:∃ k,n=k+1:=⟨n-1,by omega⟩
   simp only [List.length_cons] at hn
   obtain ⟨hlt,hg,hr'⟩:=yh4 hr
   have ew:IntKind.i64.wrap ((i:Int)+1)=((i+1:Nat):Int):=by rw [wib (by omega) (by omega)];omega
   have eB:[PV.int IntKind.i64 (a:Int)]=nts [a]:=rfl
   unfold ybU
   simp only [lt]
   rw [ybb,cbT (by omega)]
   rw [asT (by omega),asT (by omega),Int.toNat_natCast,yh3 hlt,hg,yea,iov]
   by_cases e:a=w
   · subst e
     rw [cnF rfl,ew]
     try simp only [decide_true,Nat.beq_refl,Bool.and_self,yaj]
     rw [List.filter_cons_of_neg (by simp)] at h h'
     exact inND hA6 a l0 l2 l3 l4 l5 i7 i8 i9 l10 l11 i13 i14 i15 i16 i17 r (i+1) n hr' (by omega) (by omega) h h'
   · rw [cnT (by omega),asT (by omega),asT (by omega),yea,ew]
     try simp only [List.length_cons,List.length_nil,decide_true,Bool.and_self,yaj]
     rw [List.filter_cons_of_pos (by simpa using e)] at h'
     rw [eB]
     refine inWD hA6 w l0 l2 l3 l4 l5 i7 i8 i9 l10 l11 i13 i14 i15 i16 i17 r (i+1) n [a] hr' (by omega) (by simp only [List.length_cons,List.length_nil];omega) (by omega) ?_
     exact h' (by simp)
end Go.Pf.Vc
namespace Go.Pf.Vc
open Go Go.Pf
section
variable {l:List Ck}
theorem yxr (A o:List Nat):remA A o 0=A:=by cases o <;> rfl
theorem yvW:∀ (A o:List Nat) (j:Nat),j<o.length→remA A o (j+1)=(remA A o j).erase (o.getD j 0)
 | A,[],j,h=>by simp at h
 | A,a::o,0,h=>by
   show remA (A.erase a) o 0=(remA A (a::o) 0).erase a
   rw [yxr,yxr]
 | A,a::o,j+1,h=>yvW (A.erase a) o j (by simpa using h)
theorem yza:∀ (o A:List Nat) (j:Nat),(remA A o j).Sublist A
 | o,A,0=>by rw [yxr];exact List.Sublist.refl _
 | [],A,j+1=>List.Sublist.refl _
 | a::o,A,j+1=>(yza o (A.erase a) j).trans List.erase_sublist
theorem TW.llen {x o t k L D'} (h:TW l x o t k L D') (n6:l.length≤6):∀ j,j≤l.length-1+1→(L j).length≤12*j
 | 0,_=>by rw [h.l0];exact Nat.le_refl _
 | j+1,hj=>by
   obtain ⟨qs,e,_,hq⟩:=h.ql j (by omega)
   have:=TW.llen h n6 j (by omega)
   rw [e,List.length_append]
   omega
theorem eb6 (a b c d e f:Int):(!((a == a)&&((b == b)&&((c == c)&&((d == d)&&((e == e)&&((f == f)&&true)))))))=false:=by simp
structure StepT (l:List Ck) (x:List Tn×List Qy) (o:List Nat) (t:Nat→Rat) (k:Nat→Nat) (L:Nat→List Qy) (j:Nat):Prop where
 rnd:∀ K,ybl (cks l) (logs (L j)) (nts (remA (List.range l.length) o j)) (t j).num (t j).den K=K (cks l) (logs (L (j+1))) ((o.getD j 0:Nat):Int) (t j).num (t j).den (t (j+1)).num (t (j+1)).den ((k j:Nat):Int) 0
 len:(remA (List.range l.length) o j).length=l.length-j
 lo:(L j).length≤(L (j+1)).length
 hi:(L (j+1)).length+1≤(L j).length+2*(l.length-j)
 sm:(L j).length≤100
 nx:remA (List.range l.length) o (j+1)=(remA (List.range l.length) o j).filter (· != o.getD j 0)
theorem TW.step (hd:DK l) {x o t k L D'} (h:TW l x o t k L D') {j:Nat} (hj:j<l.length):StepT l x o t k L j:=by
 have n0:=hd.n0;have n6:=hd.n6
 have ol:=h.len
 have L0:=TW.LD hd h
 have b1:=L0.bound (j:=j) (by omega)
 have b2:=L0.bound (j:=j+1) (by omega)
 have hlt:=h.lt j (by omega)
 have hll:=TW.llen h n6 j (by omega)
 have hsub:=yza o (List.range l.length) j
 obtain ⟨st1,st2⟩:=h.st j (by omega)
 obtain ⟨qs,e,_,hq⟩:=h.ql j (by omega)
 have hlen:(remA (List.range l.length) o j).length=l.length-j:=by omega
 have hnd:(remA (List.range l.length) o j).Nodup:=List.nodup_range.sublist hsub
 have hr:=fun K=>yEY hd (h.sm j (by omega)) b1.1 (Rat.not_le.1 fun k=>by have:=b2.2;unfold lenR at k;grind) (A:=remA (List.range l.length) o j) (fun a ha=>List.mem_range.1 (hsub.subset ha)) (by omega) (fun e=>by rw [e] at hlen;simp at hlen;omega) (List.Pairwise.sublist hsub List.pairwise_lt_range) (lg:=L j) (by omega) st1 K
 refine ⟨fun K=>hr K,hlen,?_,?_,by omega,?_⟩
 · rw [e,List.length_append];omega
 · rw [e,List.length_append];omega
 · rw [yvW _ _ _ (by omega),hnd.erase_eq_filter]
theorem yDX (hd:DK l) {x o t k L D'} (h:TW l x o t k L D') {x4 x5} (l0:List PV)
   (hx:x5 l0 (tns x.1) (logs x.2) (cks l) (logs (L l.length)) (nts (remA (List.range l.length) o l.length)) (t l.length).num (t l.length).den (l.length:Int) false) :
   ∀ (r j n:Nat),j+r=l.length→r<n →
     ya7 yey yce ybM yfP ybl yaV x4 x5 n l0 (tns x.1) (logs x.2) (cks l) (logs (L j)) (nts (remA (List.range l.length) o j)) (t j).num (t j).den (j:Int)
 | 0,j,n,hi,hn=>by
   obtain ⟨n,rfl⟩:∃ k,n=k+1:=⟨n-1,by omega⟩
   have ol:=h.len
   have n0:=hd.n0
   have tl:(tns x.1).length=l.length:=by rw [yhm,h.tn,List.nil_append,ysz];omega
   obtain rfl:j=l.length:=by omega
   unfold ya7
   rw [tl,cbF (by omega)]
   exact hx
 | r+1,j,n,hi,hn=>by
   obtain ⟨n,rfl⟩:∃ k,n=k+1:=⟨n-1,by omega⟩
   have n0:=hd.n0;have n6:=hd.n6
   have ol:=h.len
   have hj:j<l.length:=by omega
   have tl:(tns x.1).length=l.length:=by rw [yhm,h.tn,List.nil_append,ysz];omega
   have ew:IntKind.i64.wrap ((j:Int)+1)=((j+1:Nat):Int):=by rw [wib (by omega) (by omega)];omega
   have S:=TW.step hd h hj
   have hlo:=S.lo;have hhi:=S.hi;have hsm:=S.sm;have hlen:=S.len
   have ih:=yDX hd h (x4:=x4) (x5:=x5) l0 hx r (j+1) n (by omega) (by omega)
   rw [S.nx] at ih
   have w1:IntKind.i64.wrap (IntKind.i64.wrap (((L j).length:Int)+IntKind.i64.wrap (2*((l.length-j:Nat):Int)))-1)=((L j).length:Int)+2*((l.length-j:Nat):Int)-1:=by
     rw [wib (n:=2*((l.length-j:Nat):Int)) (by omega) (by omega),wib (n:=((L j).length:Int)+2*((l.length-j:Nat):Int)) (by omega) (by omega),wib (by omega) (by omega)]
   unfold ya7
   rw [tl,cbT (by omega),S.rnd]
   simp only [Go.Pf.jn,lt]
   rw [cnF rfl,asT (by omega),asT (by omega),Int.toNat_natCast,yBE n0 h hj,asTn,tn0,tn1,tn2,tn3,tn4,tn5,eb6,yac,yba,yba,cbF (by omega),ybb,hlen,w1,cbF (by omega)]
   refine ⟨(remA (List.range l.length) o j).length+1,inND (by omega) (o.getD j 0) _ _ _ _ _ _ _ _ _ _ _ _ _ _ _ (remA (List.range l.length) o j) 0 _ rfl (by omega) (by omega) (fun hF=>?_) (fun hF=>?_)⟩
   · rw [hF] at ih
     rw [ew]
     exact ih
   · rw [asTw,asT (by omega),ew,take_all rfl]
     exact ih
theorem yDY {a0 a1 a2 a3 a4 a5 x1} (l2 l3 l4:List PV) (h9:l.length≤900):∀ (r i n:Nat),i+r=l.length→r<n →
   x1 (nts (List.range l.length)) (cks l) l2 l3 l4 ((l.length:Nat):Int) false→ybQ a0 a1 a2 a3 a4 a5 x1 n (nts (List.range i)) (cks l) l2 l3 l4 ((i:Nat):Int)
 | 0,i,n,hi,hn,h=>by
   obtain ⟨n,rfl⟩:∃ k,n=k+1:=⟨n-1,by omega⟩
   have e:i=l.length:=by omega
   subst e
   unfold ybQ
   rw [yaX,cbF (by omega)]
   exact h
 | r+1,i,n,hi,hn,h=>by
   obtain ⟨n,rfl⟩:∃ k,n=k+1:=⟨n-1,by omega⟩
   have ew:IntKind.i64.wrap ((i:Int)+1)=((i+1:Nat):Int):=by rw [wib (by omega) (by omega)];omega
   have eB:nts (List.range i)++[PV.int IntKind.i64 (i:Int)]=nts (List.range (i+1)):=by rw [List.range_succ,yio];rfl
   have IH:=yDY (a0:=a0) (a1:=a1) (a2:=a2) (a3:=a3) (a4:=a4) (a5:=a5) (x1:=x1) l2 l3 l4 h9 r (i+1) n (by omega) (by omega) h
   unfold ybQ
   simp only [lt]
   rw [yaX,cbT (by omega),asTw,asT (by omega),asTT (by simp),asTw,asT (by rw [ybb,List.length_range];unfold room;omega),eB,ew]
   try simp only [decide_true,Bool.and_self,yaj]
   exact IH
end
theorem yxs {l:List Ck} (hl:l.length≤9223372036854775807):ye1 (cks l) (fun b=>b=true):=by
 unfold ye1 ygb
 rw [yEX hl]
 by_cases hf:(!yoJ l&&decide (yeo l 0=0))=true
 case neg =>
   rw [show (!yoJ l&&decide (yeo l 0=0))=false by simpa using hf]
   show yce _
   rw [yvV]
 rw [hf,show (!true)=false from rfl,yac]
 simp only [Bool.and_eq_true,Bool.not_eq_true',decide_eq_true_eq] at hf
 obtain ⟨hg,hz⟩:=hf
 obtain ⟨g1,g2,g3⟩:=yt9 hg
 have hd:=(yh2 hz).1
 have n0:=hd.n0;have n6:=hd.n6
 obtain ⟨x,o,t,k,L,D',he,hD,h⟩:=yDU hd
 have ol:=h.len
 have tl:(tns x.1).length=l.length:=by rw [yhm,h.tn,List.nil_append,ysz];omega
 have hle:L l.length=x.2:=by have:=h.le;rwa [show l.length-1+1=l.length by omega] at this
 obtain ⟨qs,q1,q2,q3⟩:=h.log
 rw [List.nil_append] at q1
 have hq:x.2.length≤2000:=by
   rw [q1]
   rw [show l.length-1+1=l.length by omega] at q3
   have:l.length*l.length≤6*6:=Nat.mul_le_mul n6 n6
   omega
 have ht0:(t 0).num=0∧(t 0).den=1:=by rw [h.t0];exact ⟨rfl,rfl⟩
 have S:=TW.step hd h (j:=0) (by omega)
 have hlo:=S.lo;have hhi:=S.hi;have hsm:=S.sm;have hlen:=S.len
 have hrn:=S.rnd
 have hnx:=S.nx
 rw [yxr] at hlen hrn hnx
 rw [h.l0] at hlo hhi hrn
 have hloop:=fun x4 x5 l0 hx=>yDX hd h (x4:=x4) (x5:=x5) l0 hx (l.length-1) 1 (l.length) (by omega) (by omega)
 rw [yBB g3 (by omega),he]
 have ho1:=yBE n0 h (i:=0) (by omega)
 obtain ⟨ts,lg⟩:=x
 dsimp only [Go.Pf.jn] at tl hq hle hloop ho1 ⊢
 rw [cnF rfl,tl,yaX]
 have eb:((l.length:Int) !=(l.length:Int))=false:=by simp
 rw [eb,yac]
 obtain ⟨m,hm⟩:∃ m,l.length=m+1:=⟨l.length-1,by omega⟩
 refine ⟨l.length+2,?_⟩
 unfold yeN
 simp only [lt]
 rw [yaX,cbT (by omega)]
 try simp only [List.length_cons,List.length_nil,decide_true,Bool.and_self,yaj]
 refine yDY _ _ _ (by omega) m 1 _ (by omega) (by omega) ?_
 rw [rOf1]
 try simp only [decide_true,Nat.beq_refl,Bool.and_self,yaj]
 refine ⟨l.length+1,?_⟩
 unfold yeQ
 dsimp only
 have w1:IntKind.i64.wrap (IntKind.i64.wrap (0+IntKind.i64.wrap (2*((l.length:Nat):Int)))-1)=2*((l.length:Nat):Int)-1:=by
   rw [wib (n:=2*((l.length:Nat):Int)) (by omega) (by omega),Int.zero_add,wib (n:=2*((l.length:Nat):Int)) (by omega) (by omega),wib (by omega) (by omega)]
 have hrn:=fun K=>hrn K
 rw [ht0.1,ht0.2] at hrn
 have lr:(List.range l.length).length=l.length:=List.length_range
 rw [tl,cbT (by omega),asT rfl,asT (by omega),take_all rfl]
 show ybl (cks l) (logs []) (nts (List.range l.length)) 0 ((1:Nat):Int) _
 rw [hrn]
 simp only [Go.Pf.jn,lt]
 rw [cnF rfl,asT (by omega),asT (by omega),show (0:Int).toNat=0 from rfl,ho1,asTn,tn0,tn1,tn2,tn3,tn4,tn5,ht0.1,ht0.2,eb6,yac,yba,cbF (by omega),ybb,lr,w1,cbF (by simp only [List.length_nil] at hhi;omega)]
 try simp only [decide_true,Bool.and_self,yaj]
 have hfin:=hloop (fun _ b=>b=true) (fun _ g c _ d _ _ _ _ _=>(fun (a:Bool→Prop)=>yaV d c fun e=>cbr e (yce fun f=>a f) (a false)) fun b=>b=true) (nts (List.range l.length)) (by
   dsimp only
   rw [hle,yu6 (by omega),yaf,yvV])
 rw [hnx] at hfin
 refine ⟨(List.range l.length).length+1,inNO (by omega) (o.getD 0 0) _ _ _ _ _ _ _ _ _ _ _ _ _ (List.range l.length) 0 _ rfl (by omega) (by omega) (fun hF=>?_) (fun hF=>?_)⟩
 · rw [hF] at hfin
   exact hfin
 · rw [asT (by omega),take_all rfl]
   exact hfin
end Go.Pf.Vc
