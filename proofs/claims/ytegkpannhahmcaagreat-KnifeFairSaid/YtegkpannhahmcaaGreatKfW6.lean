/- Part 6 of what the statement rests on: a verified evaluator over pure values, the conditions of the program's functions, and their plain laws. -/
import Derived.Test.YtegkpannhahmcaaGreatKfW5
namespace Go.Pf.Vc
open Go Go.Pf
section
variable {len:Int} {cuts dens:List Int}
theorem yK8 (h:VC len cuts dens) {s:RS} (hv:s.1<s.2) (hw:0≤s.1∧s.2≤(len:Rat)):0≤dV (vX cuts dens) s∧dV (vX cuts dens) s≤12000:=by
 have a:=yvI h hw.1
 have b:=yvI h hw.2
 have c:=yvI h (qBu hv)
 have t:=yM3 h
 have tb:=qAr.2 (yhr h).2
 have tb:((totC cuts dens:Int):Rat)≤12000:=tb
 show 0≤vX cuts dens s.2-vX cuts dens s.1∧vX cuts dens s.2-vX cuts dens s.1≤12000
 grind
theorem yTi {D:Int} (hD:1≤D) {s:RS} (hi:In D s.1∧In D s.2):In D (dV (vX cuts dens) s):=(yTg hD hi.2).sub (yTg hD hi.1)
theorem yK9 (h:VC len cuts dens) {D:Int} (hD:1≤D∧D≤1000000000000) {s:RS} (hs:yht s) (hv:s.1<s.2) (hw:0≤s.1∧s.2≤(len:Rat)) (hi:In D s.1∧In D s.2) (K:Int→Int→Int→Prop) :
  ybw len (ints cuts) (ints dens) s.1.num s.1.den s.2.num s.2.den K=K (dV (vX cuts dens) s).num (dV (vX cuts dens) s).den 0:=by
 have l1:=h.l1;have l2:=h.l2
 rw [yHr (by omega) (by omega) hs.1.i1 hs.1.i2 hs.2.i1 hs.2.i2]
 unfold valR
 rw [if_pos h.ck,if_pos ⟨yKP hs.1 hw.1 (by grind),yKP hs.2 (by grind) hw.2,by rw [yhs,yhs];grind⟩,yhs,yhs,yPg h ⟨hD.1,by omega⟩ hi.1 hi.2 hw.1 (qBu hv) hw.2]
 rfl
theorem ytq (h:VC len cuts dens) {D:Int} (hD:1≤D∧D≤1000000000000) {l:List RS} (hs:∀ s∈l,yht s) (hv:∀ s∈l,s.1<s.2) (hw:Wi len l) (hi:∀ s∈l,In D s.1∧In D s.2) (hl:l.length≤60) (z z':Int) (K:Int→Int→Int→Prop) :
  ∀ (r i n:Nat) (q:Rat),i+r=l.length→r<n→In D q→0≤q→q≤12000*((i:Int):Rat) →
   small (q+sumV (dV (vX cuts dens)) (l.drop i))∧ybR yas yaI ya3 ybw yaH (fun _ _ _ _ _ a b _ _ _ _=>K a b 0) (fun _ _ _ a b e=>K a b e) n len (ints cuts) (ints dens) z z' q.num q.den (rsp l) (l.length:Int) (i:Int)=K (q+sumV (dV (vX cuts dens)) (l.drop i)).num (q+sumV (dV (vX cuts dens)) (l.drop i)).den 0
 | 0,i,n+1,q,hir,hn,hq,q0,q1=>by
  obtain rfl:i=l.length:=by omega
  rw [List.drop_length]
  have e:q+sumV (dV (vX cuts dens)) []=q:=Rat.add_zero q
  have hb:((l.length:Int):Rat)≤60:=qAr.2 (show (l.length:Int)≤60 by omega)
  rw [e]
  refine ⟨hq.small (M:=720000) ⟨by omega,by omega⟩ (by omega) (by show -(720000:Rat)≤_;grind) (by show _≤(720000:Rat);grind),?_⟩
  rw [ybR,cbF (by omega)]
 | r+1,i,n+1,q,hir,hn,hq,q0,q1=>by
  have hil:i<l.length:=by omega
  have e1:=wib (n:=(i:Int)+1) (by omega) (by omega)
  have hd:l.drop i=l.getD i default::l.drop (i+1):=yc7 default hil
  have hm:l.getD i default∈l:=yc8 default hil
  have hx:=hs _ hm
  have hx2:=hv _ hm
  have hx3:=hw _ hm
  have hx4:=hi _ hm
  rw [hd]
  have b1:=yK8 h hx2 hx3
  have b2:=yTi (cuts:=cuts) (dens:=dens) hD.1 hx4
  have hc:((i+1:Nat):Int)=(i:Int)+1:=by omega
  have hc2:(((i+1:Nat):Int):Rat)=((i:Int):Rat)+1:=by rw [hc,Rat.intCast_add];rfl
  have hb:((i:Int):Rat)≤60:=qAr.2 (show (i:Int)≤60 by omega)
  have hv1:=yK9 h hD hx hx2 hx3 hx4
  have es:q+sumV (dV (vX cuts dens)) (l.getD i default::l.drop (i+1))=(q+dV (vX cuts dens) (l.getD i default))+sumV (dV (vX cuts dens)) (l.drop (i+1)):=by
   show q+(dV (vX cuts dens) (l.getD i default)+sumV (dV (vX cuts dens)) (l.drop (i+1)))=_
   grind
  have step:ybR yas yaI ya3 ybw yaH (fun _ _ _ _ _ a b _ _ _ _=>K a b 0) (fun _ _ _ a b e=>K a b e) (n+1) len (ints cuts) (ints dens) z z' q.num q.den (rsp l) (l.length:Int) (i:Int) =
    ybw len (ints cuts) (ints dens) (l.getD i default).1.num (l.getD i default).1.den (l.getD i default).2.num (l.getD i default).2.den (fun a b e=>cbr (e != 0) (K 0 0 e) (yaH q.num q.den a b (fun a b e=>cbr (e != 0) (K 0 0 e) (ybR yas yaI ya3 ybw yaH (fun _ _ _ _ _ a b _ _ _ _=>K a b 0) (fun _ _ _ a b e=>K a b e) n len (ints cuts) (ints dens) z z' a b (rsp l) (l.length:Int) ((i+1:Nat):Int))))):=by
   rw [ybR,cbT (by omega)]
   dsimp only [lt]
   rw [yd0,asT (by omega),asT (by omega),qAe,yvg hil,asR,yHB,yN4,yHC,yHD,e1,yda]
  rw [es,step,hv1,nz]
  generalize dV (vX cuts dens) (l.getD i default)=v at b1 b2
  have sq:small q:=hq.small (M:=720000) ⟨by omega,by omega⟩ (by omega) (by show -(720000:Rat)≤_;grind) (by show _≤(720000:Rat);grind)
  have sv:small v:=b2.small (M:=720000) ⟨by omega,by omega⟩ (by omega) (by show -(720000:Rat)≤_;grind) (by show _≤(720000:Rat);grind)
  have hb2:((i:Int):Rat)≤59:=qAr.2 (show (i:Int)≤59 by omega)
  have ss:small (q+v):=(hq.add b2).small (M:=720000) ⟨by omega,by omega⟩ (by omega) (by show -(720000:Rat)≤_;grind) (by show _≤(720000:Rat);grind)
  have ih:=ytq h hD hs hv hw hi hl z z' K r (i+1) n (q+v) (by omega) (by omega) (hq.add b2) (by grind) (by rw [hc2];grind)
  refine ⟨ih.1,?_⟩
  rw [yC9 sq sv]
  unfold fitK
  rw [if_pos ss]
  dsimp only
  rw [nz]
  exact ih.2
theorem Pc.Worth_good {l:List RS} (p:Pc l) (h:VC len cuts dens) (hw:Wi len l) {D:Int} (hD:1≤D∧D≤1000000000000) (hi:∀ s∈l,In D s.1∧In D s.2) :
  small (sumV (dV (vX cuts dens)) l)∧∀ K,ydo len (ints cuts) (ints dens) (rsp l) K=K (sumV (dV (vX cuts dens)) l).num (sumV (dV (vX cuts dens)) l).den 0:=by
 have l1:=h.l1;have l2:=h.l2;have l0:=h.len0;have hn:=p.n
 have g:=fun K=>ytq h hD p.s (yrZ p.c) hw hi (by omega) 0 0 K l.length 0 (l.length+1) 0 (by omega) (by omega) (In.int hD.1 0) qBg (by show (0:Rat)≤12000*0;grind)
 have g0:=(g fun _ _ _=>True).1
 rw [qA0,Rat.zero_add] at g0
 refine ⟨g0,fun K=>yCD _ _ _ _ _ _ _ (fun K k=>?_) K⟩
 have hl:=(g K).2
 rw [qA0,Rat.zero_add] at hl
 unfold ydo ypG
 rw [yoK (by omega) (by omega),h.ck,nz,p.check,nz]
 dsimp only [Go.Pf.jn,lt]
 rw [yd0]
 have fin:∃ n,ybR yas yaI ya3 ybw yaH (fun _ _ _ _ _ a b _ _ _ _=>K a b 0) (fun _ _ _ a b e=>K a b e) n len (ints cuts) (ints dens) 0 0 0 1 (rsp l) (l.length:Int) 0:=⟨l.length+1,hl.mpr k⟩
 by_cases hl0:l.length=0
 ·rw [cbF (by omega),yac]
  exact fin
 ·have h0:0<l.length:=by omega
  have m0:=yc8 (default:RS) h0
  have m1:=yc8 (default:RS) (show l.length-1<l.length by omega)
  have w0:=hw _ m0
  have w1:=hw _ m1
  have s1:=p.s _ m1
  have n0:0≤(l.getD 0 default).1.num:=Rat.num_nonneg.2 w0.1
  have e1:=wib (n:=(l.length:Int)-1) (by omega) (by omega)
  have et:((l.length:Int)-1).toNat=l.length-1:=by omega
  rw [cbT (by omega),asT (by omega),yvg h0,asR,yHB,cbF (by omega),e1,asT (by omega),asT (by omega),et,yvg (by omega),asR,yHC,yHD]
  have sl:small (len:Rat):=ymD (by omega)
  show ya3 (l.getD (l.length-1) default).2.num (l.getD (l.length-1) default).2.den (len:Rat).num ((len:Rat).den:Int) _
  rw [yKY s1.2 sl,ySB,cbF (by grind)]
  exact fin
end
theorem DV.Worth_good {cs:List Ck} {A:List (List RS)} (h:DV cs A) {D:Int} (hD:1≤D∧D≤1000000000000) (hi:InA D A) :
  (∀ c∈cs,∀ a∈A,Go.Pf.Vc.small (wV c a))∧∀ K,yax (cks cs) (rspL A) K=K (tabW cs A) 0:=by
 have h6:=h.d.n6;have h1:=h.d.n0;have hl:=h.l
 have e:pcsD (A.map rsp)=rspL A:=by
  unfold pcsD rspL
  rw [List.map_map]
  rfl
 have hall:∀ c∈cs,∀ a∈A,Go.Pf.Vc.small (wV c a)∧∀ K,ydo c.len (ints c.cuts) (ints c.dens) (rsp a) K=K (wV c a).num (wV c a).den 0:=fun c hc a ha=>by
  obtain ⟨k1,k2⟩:=h.d.mem hc
  refine (h.p a ha).Worth_good k1 ?_ hD (hi a ha)
  rw [k2]
  exact h.wi a ha
 refine ⟨fun c hc a ha=>(hall c hc a ha).1,fun K=>?_⟩
 have hck:∀ K,ygp (cks cs) (pcsD (A.map rsp)) K=K 0:=fun K=>by rw [e];exact ySD h K
 have hf:∀ c∈cs,∀ a∈A,fW c (rsp a)=((wV c a).num,((wV c a).den:Int),0):=fun c hc a ha=>yUQ (t:=((wV c a).num,((wV c a).den:Int),0)) (hall c hc a ha).2
 rw [← e]
 refine yQ6 (F:=fW) (by rw [qAo];exact hl) h1 h6 hck (fun c hc p hp K=>?_) (fun _=>⟨?_,rfl⟩) (fun c hc p hp hn=>?_) K
 ·obtain ⟨a,ha,rfl⟩:=qB1.1 hp
  rw [hf c hc a ha]
  exact (hall c hc a ha).2 K
 ·unfold tabW
  refine qB9 fun c hc=>?_
  unfold rts
  rw [List.map_map,List.map_map]
  congr 1
  refine qB9 fun a ha=>?_
  show encW (wV c a)=.agg [.int .i64 (fW c (rsp a)).1,.int .i64 (fW c (rsp a)).2.1]
  rw [hf c hc a ha]
  rfl
 ·obtain ⟨a,ha,rfl⟩:=qB1.1 hp
  rw [hf c hc a ha] at hn
  exact absurd rfl hn
end Go.Pf.Vc
namespace Go.Pf.Vc
open Go Go.Pf
section
variable {cs:List Ck} {A:List (List RS)}
theorem yOc {cuts dens:List Int} {D:Int} (hD:1≤D):∀ {l:List RS},(∀ s∈l,In D s.1∧In D s.2)→In D (sumV (dV (vX cuts dens)) l)
 | [],_=>In.int hD 0
 | s::_,h=>(yTi hD (h s qAj)).add (yOc hD fun t ht=>h t (qAm _ ht))
theorem yFn {len:Int} {cuts dens:List Int} (hv:VC len cuts dens):∀ {l:List RS},(∀ s∈l,s.1<s.2)→Wi len l→0≤sumV (dV (vX cuts dens)) l∧sumV (dV (vX cuts dens)) l≤12000*((l.length:Int):Rat)
 | [],_,_=>⟨qBg,by show (0:Rat)≤12000*0;grind⟩
 | s::r,h,hw=>by
  have a:=yK8 hv (h s qAj) (hw s qAj)
  have b:=yFn hv (l:=r) (fun t ht=>h t (qAm _ ht)) (fun t ht=>hw t (qAm _ ht))
  have hc:(((s::r).length:Int):Rat)=((r.length:Int):Rat)+1:=by
   rw [show ((s::r).length:Int)=(r.length:Int)+1 by rw [qAs];omega,Rat.intCast_add];rfl
  rw [hc]
  show 0≤dV (vX cuts dens) s+sumV (dV (vX cuts dens)) r∧dV (vX cuts dens) s+sumV (dV (vX cuts dens)) r≤_
  grind
theorem DV.wV_bound (h:DV cs A) {i j:Nat} (hi:i<cs.length) (hj:j<cs.length):0≤wV (cs.getD i default) (A.getD j [])∧wV (cs.getD i default) (A.getD j [])≤720000:=by
 have hl:=h.l
 have hm:=yc8 [] (show j<A.length by omega)
 have hok:=h.d.ok i hi
 have hw:=h.wi _ hm
 rw [← h.d.len i hi] at hw
 have p:=h.p _ hm
 have b:=yFn hok (yrZ p.c) hw
 have hn:(((A.getD j []).length:Int):Rat)≤60:=qAr.2 (show ((A.getD j []).length:Int)≤60 by have:=p.n;omega)
 unfold wV
 grind
theorem yPl (h:DV cs A) {D:Int} (hD:1≤D∧D≤100000000) (hi:InA D A) {j:Nat} (hj:j<cs.length):small (prt cs A j):=by
 have hl:=h.l
 have hok:=h.d.ok j hj
 have tb:=yhr hok
 have tp:=yFa hok
 have b:=h.wV_bound hj hj
 have hI:In D (wV (cs.getD j default) (A.getD j [])):=yOc hD.1 (hi _ (yc8 [] (by omega)))
 unfold prt
 generalize totC (cs.getD j default).cuts (cs.getD j default).dens=t at tb tp
 generalize wV (cs.getD j default) (A.getD j [])=w at b hI
 have h1:(1:Rat)≤(t:Rat):=qAr.2 (show (1:Int)≤t by omega)
 have t0:(t:Rat)≠0:=by grind
 have e:w / (t:Rat)*(t:Rat)=w:=qB4 t0
 have tD:t*D≤12000*D:=qA2 tb.2 (by omega)
 have tD1:1*1≤t*D:=qCa (by omega) hD.1 (by omega) (by omega)
 have p0:0≤w / (t:Rat):=Rat.not_lt.1 fun k=>by
  have:=Rat.mul_lt_mul_of_pos_right k (show (0:Rat)<(t:Rat) by grind)
  grind
 have p1:w / (t:Rat)≤720000:=by
  have:=qBm h1 p0
  grind
 exact (hI.div hD.1 (d:=t) (by omega)).small (M:=720000) ⟨by omega,by omega⟩ (by omega) (by show -(720000:Rat)≤_;grind) (by show _≤(720000:Rat);grind)
theorem DV.Make_of (h:DV cs A) (hw:∀ c∈cs,∀ a∈A,Go.Pf.Vc.small (wV c a)) (he:∀ K,yax (cks cs) (rspL A) K=K (tabW cs A) 0) (hs:∀ j,j<cs.length→Go.Pf.Vc.small (prt cs A j)) (K:Int→List PV→Int→Prop) :
  ydx (cks cs) (rspL A) K=K (yJd cs A (prtL cs A cs.length) (gapD cs A)) (tabW cs A) 0:=by
 refine yEQ _ _ _ _ _ (fun K k=>?_) K
 unfold ydx yrl
 rw [he]
 show cbr false _ _
 rw [yac]
 dsimp only [Go.Pf.jn]
 rw [ya9]
 refine ⟨cs.length+1,(yBA h hw _ _ _ _ (YY:=K 0 [] 16) rfl (fun _=>rfl)).mpr ?_⟩
 rcases yFk (cs:=cs) (A:=A) cs.length 0 with ⟨_,e⟩ | ⟨hn,_⟩
 ·refine e.mpr ?_
  show cbr false _ _
  rw [yac,show (decide ((rts (prtL cs A cs.length)).length=(rts (prtL cs A cs.length)).length)&&decide ((rts (prtL cs A cs.length)).length=(rts (prtL cs A cs.length)).length))=true by simp,yaD]
  refine ⟨6,?_⟩
  have hP:=yK6 cs A cs.length
  have hg:=h.gapD_eq (tabW cs A) (rts (prtL cs A cs.length))
  have s:=fun (n i:Nat) (hi:i<5) (acc:Int)=>yPk h hw hP hg (fun f g l m o b d p q=>K b d (0:Int)) (n:=n) hi 0 acc (tabW cs A)
  refine (s 5 0 (by omega) 0).mpr ((s 4 1 (by omega) _).mpr ((s 3 2 (by omega) _).mpr ((s 2 3 (by omega) _).mpr ((s 1 4 (by omega) _).mpr ?_))))
  rw [yc6,cbF (by omega)]
  exact k
 ·exact absurd (fun j h1 h2=>hs j (by omega)) hn
theorem DV.good (h:DV cs A) {D:Int} (hD:1≤D∧D≤100000000) (hi:InA D A) :
  (∀ c∈cs,∀ a∈A,Go.Pf.Vc.small (wV c a))∧(∀ K,yax (cks cs) (rspL A) K=K (tabW cs A) 0)∧(∀ j,j<cs.length→Go.Pf.Vc.small (prt cs A j)) ∧
  ∀ K,ydx (cks cs) (rspL A) K=K (yJd cs A (prtL cs A cs.length) (gapD cs A)) (tabW cs A) 0:=by
 obtain ⟨h1,h2⟩:=h.Worth_good (D:=D) ⟨hD.1,by omega⟩ hi
 have h3:=fun j (hj:j<cs.length)=>yPl h hD hi hj
 exact ⟨h1,h2,h3,h.Make_of h1 h2 h3⟩
end
end Go.Pf.Vc
namespace Go.Pf.Vc
open Go Go.Pf
section
variable {cs:List Ck} {A:List (List RS)}
theorem yFo {o:Option (Nat×Nat)}:(ylw o).2.2=false↔o=none:=by
 cases o with
 | none=>exact ⟨fun _=>rfl,fun _=>rfl⟩
 | some q=>obtain ⟨a,b⟩:=q;exact ⟨(fun h=>by cases h),(fun h=>by cases h)⟩
theorem yLa {P:List Rat} {g:Bool}:(brk cs A P g 1).2.2=false↔ydp (wr0 A) cs.length cs.length 0=none∧g=false:=by
 have e:brk cs A P g 1=(match ydp (wr0 A) cs.length cs.length 0 with | some (a,b)=>((a:Int),(b:Int),true) | none=>if g then (-1,-1,true) else (0,0,false)):=rfl
 rw [e]
 cases ydp (wr0 A) cs.length cs.length 0 with
 | some q=>obtain ⟨a,b⟩:=q;exact ⟨(fun h=>by cases h),(fun h=>by cases h.1)⟩
 | none=>cases g <;> simp
theorem yLb {P:List Rat} {g:Bool}:(brk cs A P g 2).2.2=false↔∀ a,a<cs.length→yyo cs a≤wV (cs.getD a default) (A.getD a []):=by
 have e:brk cs A P g 2=ylw (ydp (wr1 cs A) cs.length cs.length 0):=rfl
 rw [e,yFo,ys2]
 constructor
 ·intro h a ha
  have:=h a (by omega) (by omega) a ha
  unfold wr1 at this
  rw [decide_eq_true rfl,qBi,decide_eq_false_iff_not] at this
  exact Rat.not_lt.1 this
 ·intro h a _ ha b hb
  unfold wr1
  by_cases hab:a=b
  ·have:=h a (by omega)
   rw [decide_eq_false (Rat.not_lt.2 this),Bool.and_false]
  ·rw [decide_eq_false hab,qBn]
end
end Go.Pf.Vc
namespace Go.Pf.Vc
open Go Go.Pf
theorem yCf {l:List Rat} (hl:l.length<1000) {K:Bool→Prop} :
  ∀ (r i n:Nat),i+r=l.length→r<n→yaM (fun _ _ _ _ _=>K true) (fun b=>K b) n (rts l) (rts l) (l.length:Int) (i:Int)=K true
 | 0,i,n+1,hi,hn=>by
  rw [yaM,cbF (by omega)]
 | r+1,i,n+1,hi,hn=>by
  have e1:=wib (n:=(i:Int)+1) (by omega) (by omega)
  have ih:=yCf hl (K:=K) r (i+1) n (by omega) (by omega)
  rw [yaM]
  dsimp only [lt]
  rw [cbT (by omega),yoD,asT (by omega),asT (by omega),qAe,ys1 (by omega),asW,asT (by omega),asT (by omega),asW,yAl,yAm,e1,yda,ih]
  have eb:∀ a b:Int,(!((a == a)&&((b == b)&&true)))=false:=fun a b=>by simp
  rw [eb,yac]
theorem yLc {l:List Rat} (hl:l.length<1000) (K:Bool→Prop):yao (rts l) (rts l) K=K true:=by
 refine yly _ _ _ (fun K k=>?_) K
 unfold yao yek
 rw [yoD,cnF rfl]
 exact ⟨l.length+1,(yCf hl (K:=K) l.length 0 (l.length+1) (by omega) (by omega)).mpr k⟩
section
variable {cs:List Ck} {A:List (List RS)}
theorem yHJ (h:DV cs A) {a0 a2 a3 a4 a5} (x0:List PV→List PV→List PV→List PV→List PV→Int→Int→Bool→Prop) (x1:List PV→List PV→List PV→Bool→Prop) :
  ∀ (r i n:Nat),i+r=cs.length→r<n→ycQ a0 yao a2 a3 a4 a5 x0 x1 n (cks cs) (rspL A) (tabW cs A) (tabW cs A) (tabW cs A) (cs.length:Int) (i:Int)=x0 (cks cs) (rspL A) (tabW cs A) (tabW cs A) (tabW cs A) (cs.length:Int) (cs.length:Int) false
 | 0,i,n+1,hi,hn=>by
  obtain rfl:i=cs.length:=by omega
  rw [ycQ,cbF (by omega)]
 | r+1,i,n+1,hi,hn=>by
  have h6:=h.d.n6;have hl:=h.l
  have e1:=wib (n:=(i:Int)+1) (by omega) (by omega)
  have ih:=yHJ h (a0:=a0) (a2:=a2) (a3:=a3) (a4:=a4) (a5:=a5) x0 x1 r (i+1) n (by omega) (by omega)
  rw [ycQ]
  dsimp only [lt]
  rw [cbT (by omega),yno,asT (by omega),asT (by omega),qAe,yvJ (by omega),asD,asT (by omega),asT (by omega),asD,datD,yLc (by rw [qAo];omega),e1,yda,qBt,yac,ih]
def hasC (c:Int) (i:Nat):Bool:=yRb (Int.fdiv c (2 ^ (min ((i:Int)).toNat IntKind.u8.bits))) 1 == 0
theorem yPm (h:DV cs A) (hw:∀ c∈cs,∀ a∈A,Go.Pf.Vc.small (wV c a)) {a0 a1 a2 a3 a4} (x0:List PV→List PV→List PV→Int→List PV→Int→Bool→Prop) (x1:List PV→List PV→List PV→Bool→Int→Prop) {c:Int} {l4:List PV} {n i:Nat} (hi:i<5)
  (hb:hasC c i=false→bitC i≠8∧(brk cs A [] (gapD cs A) (bitC i)).2.2=false) :
  ycq a0 a1 a2 a3 a4 yaj x0 x1 (n+1) (cks cs) (rspL A) (tabW cs A) c l4 (i:Int)=ycq a0 a1 a2 a3 a4 yaj x0 x1 n (cks cs) (rspL A) (tabW cs A) c l4 ((i+1:Nat):Int):=by
 have e1:=wib (n:=(i:Int)+1) (by omega) (by omega)
 have hn:(!decide ((i:Int)<0))=true:=by rw [decide_eq_false (by omega)];rfl
 rw [ycq]
 dsimp only [lt,Go.Pf.jn]
 rw [cbT (by omega),hn,yaD,yaD,yOb hi,e1,yda]
 show cbr (hasC c i) _ _=_
 cases hc:hasC c i with
 | true=>rw [yal]
 | false =>
  obtain ⟨h8,hf⟩:=hb hc
  have hg:=yHI h hw (P:=[]) (c:=bitC i) (fun e=>absurd e h8) (yRa i) (g:=gapD cs A) (fun K=>h.gapD_eq (tabW cs A) (rts []) K)
  have hg:∀ K,yaj (cks cs) (rspL A) (tabW cs A) [] (bitC i) K=_:=hg
  rw [yac,hg,hf,yac]
theorem DV.Accept (h:DV cs A) (hw:∀ c∈cs,∀ a∈A,Go.Pf.Vc.small (wV c a)) (hW:∀ K,yax (cks cs) (rspL A) K=K (tabW cs A) 0) {c:Int} (hc:c<32) (h8:yRb c 8=0)
  (hb:∀ i,i<5→hasC c i=false→bitC i≠8∧(brk cs A [] (gapD cs A) (bitC i)).2.2=false) (K:Bool→Int→Prop):ycv (cks cs) (rspL A) c (tabW cs A) K=K true 0:=by
 refine yBq _ _ _ _ _ _ (fun K k=>?_) K
 have h6:=h.d.n6
 unfold ycv ynR
 rw [hW,cnF rfl]
 dsimp only [Go.Pf.jn,lt]
 rw [cbF (by omega),yno,cnF rfl]
 refine ⟨cs.length+1,(yHJ h _ _ cs.length 0 (cs.length+1) (by omega) (by omega)).mpr ?_⟩
 show cbr (yRb c 8 != 0) _ _
 rw [h8,cnF rfl]
 refine ⟨6,?_⟩
 have s:=fun (n i:Nat) (hi:i<5)=>yPm h hw (a0:=yax) (a1:=yao) (a2:=yae) (a3:=yam) (a4:=yaz) (fun _ _ _ _ _ _ _=>K true 0) (fun _ _ _ b e=>K b e) (c:=c) (l4:=tabW cs A) (n:=n) hi (hb i hi)
 refine (s 5 0 (by omega)).mpr ((s 4 1 (by omega)).mpr ((s 3 2 (by omega)).mpr ((s 2 3 (by omega)).mpr ((s 1 4 (by omega)).mpr ?_))))
 rw [ycq,cbF (by omega)]
 exact k
theorem yPn {P:List Rat} {g:Bool}:(brk cs A P g 16).2.2=false↔∀ a,a<cs.length→(A.getD a []).length=1:=by
 have e:brk cs A P g 16=ylw (ydp (wr4 A) cs.length cs.length 0):=rfl
 rw [e,yFo,ys2]
 constructor
 ·intro h a ha
  have:=h a (by omega) (by omega) a ha
  unfold wr4 at this
  rw [decide_eq_true rfl,qBi,decide_eq_false_iff_not] at this
  exact Classical.not_not.1 this
 ·intro h a _ ha b hb
  unfold wr4
  rw [decide_eq_false (not_not_intro (h a (by omega))),Bool.and_false]
theorem DV.Accept19 (h:DV cs A) (hw:∀ c∈cs,∀ a∈A,Go.Pf.Vc.small (wV c a)) (hW:∀ K,yax (cks cs) (rspL A) K=K (tabW cs A) 0)
  (h0:ydp (wr0 A) cs.length cs.length 0=none) (hg:gapD cs A=false) (h1:∀ a,a<cs.length→yyo cs a≤wV (cs.getD a default) (A.getD a [])) (h4:∀ a,a<cs.length→(A.getD a []).length=1) (K:Bool→Int→Prop):ycv (cks cs) (rspL A) 19 (tabW cs A) K=K true 0:=by
 refine h.Accept hw hW (by omega) (by decide) (fun i hi hc=>?_) K
 obtain rfl | rfl | rfl | rfl | rfl:i=0∨i=1∨i=2∨i=3∨i=4:=by omega
 ·exact ⟨by decide,yLa.2 ⟨h0,hg⟩⟩
 ·exact ⟨by decide,yLb.2 h1⟩
 ·exact absurd hc (by decide)
 ·exact absurd hc (by decide)
 ·exact ⟨by decide,yPn.2 h4⟩
end
end Go.Pf.Vc
namespace Go.Pf.Vc
open Go Go.Pf
def QR (cs:List Ck) (q:Qy):Prop :=
 (0≤q.agent∧q.agent<cs.length)∧(I64 q.an∧I64 q.ad∧I64 q.bn∧I64 q.bd) ∧
  ∃ p:Rat,(q.cn=p.num∧q.cd=p.den) ∧
   ((q.kind=2∧mrkR (cs.getD q.agent.toNat default).len (cs.getD q.agent.toNat default).cuts (cs.getD q.agent.toNat default).dens q.an q.ad q.bn q.bd=.ok p) ∨
    (q.kind=1∧valR (cs.getD q.agent.toNat default).len (cs.getD q.agent.toNat default).cuts (cs.getD q.agent.toNat default).dens q.an q.ad q.bn q.bd=.ok p))
section
variable {cs:List Ck} {lg:List Qy}
theorem yCg (hd:DK cs) (hl:lg.length≤2000) (hq:∀ q∈lg,QR cs q) {a0} (x0:List PV→List PV→List PV→List PV→Int→Int→Bool→Prop) (x1:Int→Int→Prop) :
  ∀ (r i n:Nat),i+r=lg.length→r<n→ydJ a0 ybL ybE ycp x0 x1 n (logs lg) (cks cs) (logs lg) (logs lg) (lg.length:Int) (i:Int)=x0 (logs lg) (cks cs) (logs lg) (logs lg) (lg.length:Int) (lg.length:Int) false
 | 0,i,n+1,hi,hn=>by
  obtain rfl:i=lg.length:=by omega
  rw [ydJ,cbF (by omega)]
 | r+1,i,n+1,hi,hn=>by
  have h6:=hd.n6
  have e1:=wib (n:=(i:Int)+1) (by omega) (by omega)
  have ih:=yCg hd hl hq (a0:=a0) x0 x1 r (i+1) n (by omega) (by omega)
  have hm:=yc8 (default:Qy) (show i<lg.length by omega)
  obtain ⟨⟨g0,g1⟩,⟨i1,i2,i3,i4⟩,p,⟨p1,p2⟩,hk⟩:=hq _ hm
  rw [ydJ]
  dsimp only [lt,Go.Pf.jn]
  rw [cbT (by omega),yrX,asT (by omega),asT (by omega),qAe,ySr (by omega),asQ,yUA,yUB,yUC,yUD,yUE,yUF,yUG,yUH,e1,yda,ih]
  generalize lg.getD i default=q at *
  have hok:=hd.ok q.agent.toNat (by omega)
  have l1:=hok.l1;have l2:=hok.l2
  have em:∀ K,ybE (cks cs) (logs lg) q.agent q.an q.ad q.bn q.bd K=exK (mrkR (cs.getD q.agent.toNat default).len (cs.getD q.agent.toNat default).cuts (cs.getD q.agent.toNat default).dens q.an q.ad q.bn q.bd) K:=fun K=>by
   rw [ybE,yhl,ya9,yfR (by omega),asT (by omega),asT (by omega),asCk,ck0,ck1,ck2,yKQ (by omega) (by omega) i1 i2 i3 i4]
  have ev:∀ K,ycp (cks cs) (logs lg) q.agent q.an q.ad q.bn q.bd K=exK (valR (cs.getD q.agent.toNat default).len (cs.getD q.agent.toNat default).cuts (cs.getD q.agent.toNat default).dens q.an q.ad q.bn q.bd) K:=fun K=>by
   rw [ycp,yjx,ya9,yfR (by omega),asT (by omega),asT (by omega),asCk,ck0,ck1,ck2,yHr (by omega) (by omega) i1 i2 i3 i4]
  have hh:∀ K,ybL (cks cs) (logs lg) q.agent K=K true:=fun K=>by rw [yQF,decide_eq_true ⟨g0,g1⟩]
  have es:((p.num == q.cn)&&(((p.den:Int) == q.cd)&&true))=true:=by rw [p1,p2];simp
  rcases hk with ⟨k2,hr⟩ | ⟨k1,hr⟩
  ·rw [ceT k2,hh,qBt,yac,cbF (by omega),decide_eq_false (by omega),yac,em,hr]
   rw [yMT,cnF rfl,es,qBt,yac]
  ·rw [ceF (by omega),hh,qBt,yac,cbF (by omega),decide_eq_false (by omega),yac,ev,hr]
   rw [yMT,cnF rfl,es,qBt,yac]
theorem yPo (hd:DK cs) (hl:lg.length≤2000) (hq:∀ q∈lg,QR cs q) (K:Int→Int→Prop):yds (cks cs) (logs lg) K=K (lg.length:Int) 0:=by
 refine yEt _ _ _ _ (fun K k=>?_) K
 have h6:=hd.n6
 unfold yds yq3
 rw [yvG hd.fin (by omega),yrX,cnF (hd.err hl)]
 refine ⟨lg.length+1,(yCg hd hl hq _ _ lg.length 0 (lg.length+1) (by omega) (by omega)).mpr ?_⟩
 rw [yrX]
 exact k
end
end Go.Pf.Vc
namespace Go.Pf.Vc
open Go Go.Pf
theorem yRc {n g:Nat} (e:Es) (he:EG e) {x y:PV} (hx:(yqk n g).s.gd x=true) (hy:(yqk n g).s.gd y=true):Ans (E e) ydc [x,y] (.int .i64 (ytf x y)):=by
 obtain ⟨a,b,c,d,rfl,h1⟩:=yTe hx
 obtain ⟨a',b',c',d',rfl,h2⟩:=yTe hy
 obtain ⟨r,hr,ha⟩:=yva e he [.agg [.int .i64 a,.int .i64 b,.int .i64 c,.int .i64 d],.agg [.int .i64 a',.int .i64 b',.int .i64 c',.int .i64 d']] (fun r=>r=.int .i64 (cmpI a b a' b')) (by
  show yjB a b c d a' b' c' d' (fun r=>PV.int .i64 r=.int .i64 (cmpI a b a' b'))
  unfold yjB yiC
  obtain ⟨k1,k2,k3⟩:=yrW h1
  obtain ⟨k4,k5,k6⟩:=yrW h2
  have:=yAb k1 k4 (fun x _=>PV.int .i64 x=.int .i64 (cmpI a b a' b'))
  rw [k2,k3,k5,k6] at this
  rw [this,yTT h1 h2])
 rw [hr] at ha
 exact ha
end Go.Pf.Vc
namespace Go.Pf.Vc
open Go Go.Pf
structure LD (cs:List Ck) (A:List (List RS)) (t:Nat→Rat) (τ:Nat→Nat):Prop where
 d:DK cs
 l:A.length=cs.length
 t0:t 0=0
 tn:t cs.length=((cs.getD 0 default).len:Rat)
 lt:∀ j,j<cs.length→t j<t (j+1)
 sm:∀ j,j≤cs.length→small (t j)
 at_:∀ a,a<cs.length→τ a<cs.length∧A.getD a []=[(t (τ a),t (τ a+1))]
 inj:∀ a b,a<cs.length→b<cs.length→τ a=τ b→a=b
 sur:∀ j,j<cs.length→∃ a,a<cs.length∧τ a=j
section
variable {cs:List Ck} {A:List (List RS)} {t:Nat→Rat} {τ:Nat→Nat}
theorem LD.mono (h:LD cs A t τ):∀ {j i:Nat},i≤j→j≤cs.length→t i≤t j
 | 0,i,hij,_=>by
  obtain rfl:i=0:=by omega
  exact qBg
 | j+1,i,hij,hj=>by
  by_cases e:i=j+1
  ·subst e;exact qBg
  ·have:=h.mono (j:=j) (i:=i) (by omega) (by omega)
   have:=h.lt j (by omega)
   grind
theorem LD.bound (h:LD cs A t τ) {j:Nat} (hj:j≤cs.length):0≤t j∧t j≤((cs.getD 0 default).len:Rat):=by
 have a:=h.mono (qBh j) hj
 have b:=h.mono hj (qAk _)
 rw [h.t0] at a
 rw [h.tn] at b
 exact ⟨a,b⟩
theorem LD.DV (h:LD cs A t τ):DV cs A:=by
 have hA:∀ a∈A,∃ j,j<cs.length∧a=[(t j,t (j+1))]:=fun a ha=>by
  obtain ⟨i,hi,rfl⟩:=yvi [] ha
  have hl:=h.l
  obtain ⟨k1,k2⟩:=h.at_ i (by omega)
  exact ⟨_,k1,k2⟩
 refine ⟨h.d,h.l,fun a ha=>?_,fun a ha=>?_,fun a ha=>?_⟩
 ·obtain ⟨j,hj,rfl⟩:=hA a ha
  refine ⟨⟨h.lt j hj,(fun t ht=>by cases ht),trivial⟩,fun s hs=>?_,by simp⟩
  rcases qAv.1 hs with rfl | hs
  ·exact ⟨h.sm j (by omega),h.sm (j+1) (by omega)⟩
  ·cases hs
 ·obtain ⟨j,hj,rfl⟩:=hA a ha
  simp
 ·obtain ⟨j,hj,rfl⟩:=hA a ha
  have b1:=h.bound (j:=j) (by omega)
  have b2:=h.bound (j:=j+1) (by omega)
  unfold yQZ
  rw [List.all_eq_true]
  intro s hs
  rcases qAv.1 hs with rfl | hs
  ·rw [decide_eq_true (yKP (h.sm j (by omega)) b1.1 b1.2),decide_eq_true (yKP (h.sm (j+1) (by omega)) b2.1 b2.2)]
   rfl
  ·cases hs
theorem LD.none (h:LD cs A t τ):ydp (wr0 A) cs.length cs.length 0=none:=by
 refine ys2.2 fun a _ ha b hb=>?_
 have hv:=h.DV
 have hl:=h.l
 unfold wr0
 by_cases hab:a<b
 case neg=>rw [decide_eq_false hab,qBn]
 rw [decide_eq_true hab,qBi]
 cases ht:yvh (A.getD a []) (A.getD b []) with
 | false=>rfl
 | true =>
  have ma:=yc8 [] (show a<A.length by omega)
  have mb:=yc8 [] (show b<A.length by omega)
  obtain ⟨p,p1,p2⟩:=(yM4 (yrZ (hv.p _ ma).c) (yrZ (hv.p _ mb).c)).1 ht
  obtain ⟨k1,k2⟩:=h.at_ a (by omega)
  obtain ⟨m1,m2⟩:=h.at_ b hb
  rw [k2] at p1
  rw [m2] at p2
  have hne:τ a≠τ b:=fun e=>by
   have:=h.inj a b (by omega) hb e
   omega
  obtain ⟨s,hs,q1,q2⟩:=p1
  rcases qAv.1 hs with rfl | hs
  case inr=>cases hs
  obtain ⟨s,hs,r1,r2⟩:=p2
  rcases qAv.1 hs with rfl | hs
  case inr=>cases hs
  dsimp only at q1 q2 r1 r2
  by_cases hlt:τ a<τ b
  ·have:=h.mono (i:=τ a+1) (j:=τ b) (by omega) (by omega)
   grind
  ·have:=h.mono (i:=τ b+1) (j:=τ a) (by omega) (by omega)
   grind
theorem LD.nogap (h:LD cs A t τ):gapD cs A=false:=by
 cases hg:gapD cs A with
 | false=>rfl
 | true =>
  obtain ⟨p,p0,p1,hn⟩:=yK7.1 hg
  refine absurd ?_ hn
  have key:∀ n,n≤cs.length→p<t n→∃ j,j<n∧t j≤p∧p<t (j+1):=by
   intro n
   induction n with
   | zero =>
    intro _ hp
    rw [h.t0] at hp
    grind
   | succ n ih =>
    intro hn hp
    by_cases hc:p<t n
    ·obtain ⟨j,h1,h2,h3⟩:=ih (by omega) hc
     exact ⟨j,by omega,h2,h3⟩
    ·exact ⟨n,by omega,Rat.not_lt.1 hc,hp⟩
  obtain ⟨j,j1,j2,j3⟩:=key cs.length (qAk _) (by rw [h.tn];exact p1)
  obtain ⟨a,a1,rfl⟩:=h.sur j j1
  have hl:=h.l
  refine ⟨A.getD a [],yc8 [] (by omega),(t (τ a),t (τ a+1)),?_,j2,j3⟩
  rw [(h.at_ a a1).2]
  exact qAj
theorem LD.one (h:LD cs A t τ):∀ a,a<cs.length→(A.getD a []).length=1:=fun a ha=>by rw [(h.at_ a ha).2];rfl
theorem LD.wV (h:LD cs A t τ) (c:Ck) {a:Nat} (ha:a<cs.length):wV c (A.getD a [])=vX c.cuts c.dens (t (τ a+1))-vX c.cuts c.dens (t (τ a)):=by
 rw [(h.at_ a ha).2]
 show (vX _ _ _-vX _ _ _)+0=_
 rw [Rat.add_zero]
theorem LD.InA (h:LD cs A t τ) {D:Int} (hi:∀ j,j≤cs.length→In D (t j)):InA D A:=fun a ha s hs=>by
 obtain ⟨i,hi',rfl⟩:=yvi [] ha
 have hl:=h.l
 obtain ⟨k1,k2⟩:=h.at_ i (by omega)
 rw [k2] at hs
 rcases qAv.1 hs with rfl | hs
 ·exact ⟨hi _ (by omega),hi _ (by omega)⟩
 ·cases hs
end
end Go.Pf.Vc
namespace Go.Pf.Vc
open Go Go.Pf
section
variable {len:Int} {cuts dens:List Int}
theorem yAo (h:VC len cuts dens):∀ (r i:Nat) (p v:Rat),i+r=dens.length→((cuts.getD i 0:Int):Rat)≤p→p≤(len:Rat)→0<v→v≤vu cuts dens (len:Rat) r i-vu cuts dens p r i →
  ∀ D,1≤D→D≤1000000000000→In D p→In D v→v≤12000→∃ q d,mrkS cuts dens r i p v=.ok q∧(1≤d∧d≤12)∧In (d*D) q
 | 0,i,p,v,hi,_,_,v0,v1=>by
  unfold vu at v1
  grind
 | r+1,i,p,v,hi,hp,p1,v0,v1=>by
  intro D D1 D2 hpD hvD hv
  have l1:=h.l1
  have hl:=yN7 h
  have hd:=yN8 h (i:=i) (by omega)
  have hd2:=h.den (i:=i) (by omega)
  have hc0:(0:Rat)≤((cuts.getD i 0:Int):Rat):=Rat.intCast_nonneg.2 (h.lo (by omega))
  have hst:((cuts.getD i 0:Int):Rat)<((cuts.getD (i+1) 0:Int):Rat):=Rat.intCast_lt_intCast.2 (h.step (i:=i) (by omega))
  have hc1:((cuts.getD (i+1) 0:Int):Rat)≤(len:Rat):=by rw [← h.last];exact yDf h (by omega) (qAk _)
  have low:=yFg h r (i+1) (x:=p) (y:=((cuts.getD (i+1) 0:Int):Rat)) (by omega)
  have m1:=yie p (cuts.getD i 0:Int)
  have m2:=yie (len:Rat) (cuts.getD i 0:Int)
  have n1:=yj0 (maxR p (cuts.getD i 0:Int)) (cuts.getD (i+1) 0:Int)
  have n2:=yj0 (maxR (len:Rat) (cuts.getD i 0:Int)) (cuts.getD (i+1) 0:Int)
  have el:uC cuts i (len:Rat)=((cuts.getD (i+1) 0:Int):Rat):=by unfold uC;grind
  unfold vu at v1
  rw [el] at v1
  unfold mrkS
  by_cases c1:p<((cuts.getD (i+1) 0:Int):Rat)
  case neg =>
   rw [if_pos c1]
   have ep:uC cuts i p=((cuts.getD (i+1) 0:Int):Rat):=by unfold uC;grind
   rw [ep] at v1
   exact yAo h r (i+1) p v (by omega) (Rat.not_lt.1 c1) p1 v0 (by grind) D D1 D2 hpD hvD hv
  rw [if_neg (fun k=>k c1)]
  have ep:uC cuts i p=p:=by unfold uC;grind
  rw [ep,low (qBu c1) qBg] at v1
  by_cases cz:dens.getD i 0=0
  ·rw [if_pos cz]
   rw [cz] at v1
   have e0:((0:Int):Rat)=0:=rfl
   exact yAo h r (i+1) ((cuts.getD (i+1) 0:Int):Rat) v (by omega) qBg hc1 v0 (by grind) D D1 D2 (In.int D1 _) hvD hv
  rw [if_neg cz]
  have hd1:0<dens.getD i 0:=by omega
  have dpos:(0:Rat)<((dens.getD i 0:Int):Rat):=Rat.intCast_pos.2 hd1
  have m:=yN9 (x:=((cuts.getD (i+1) 0:Int):Rat)-p) (by grind) hd
  by_cases c3:(((cuts.getD (i+1) 0:Int):Rat)-p)*((dens.getD i 0:Int):Rat)<v
  ·have i1:=(In.int D1 (cuts.getD (i+1) 0)).sub hpD
   have i2:=i1.mulI (dens.getD i 0)
   have i3:=hvD.sub i2
   rw [yro (i1.small (M:=1000) ⟨by omega,by omega⟩ (by omega) (by show -(1000:Rat)≤_;grind) (by show _≤(1000:Rat);grind)),
    yro (i2.small (M:=12000) ⟨by omega,by omega⟩ (by omega) (by show -(12000:Rat)≤_;grind) (by show _≤(12000:Rat);grind)),if_pos c3,
    yro (i3.small (M:=12000) ⟨by omega,by omega⟩ (by omega) (by show -(12000:Rat)≤_;grind) (by show _≤(12000:Rat);grind))]
   exact yAo h r (i+1) ((cuts.getD (i+1) 0:Int):Rat) (v-(((cuts.getD (i+1) 0:Int):Rat)-p)*((dens.getD i 0:Int):Rat)) (by omega) qBg hc1 (by grind) (by grind) D D1 D2 (In.int D1 _) i3 (by grind)
  ·have i1:=(In.int D1 (cuts.getD (i+1) 0)).sub hpD
   have i2:=i1.mulI (dens.getD i 0)
   have i3:=hvD.div D1 (d:=dens.getD i 0) (by omega)
   have i4:=(hpD.up D1 (d:=dens.getD i 0) (by omega)).add i3
   have hDD:dens.getD i 0*D≤12*D:=qA2 hd2.2 (by omega)
   have hDD1:1*1≤dens.getD i 0*D:=qCa (by omega) D1 (by omega) (by omega)
   generalize hs:v / ((dens.getD i 0:Int):Rat)=s at *
   have es:s*((dens.getD i 0:Int):Rat)=v:=by rw [← hs];exact qB4 (by grind)
   have s0:0≤s:=by
    refine Rat.not_lt.1 fun k=>?_
    have:=Rat.mul_lt_mul_of_pos_right k dpos
    grind
   have s1:p+s≤((cuts.getD (i+1) 0:Int):Rat):=by
    refine Rat.not_lt.1 fun k=>?_
    have:(((cuts.getD (i+1) 0:Int):Rat)-p)<s:=by grind
    have:=Rat.mul_lt_mul_of_pos_right this dpos
    grind
   rw [yro (i1.small (M:=1000) ⟨by omega,by omega⟩ (by omega) (by show -(1000:Rat)≤_;grind) (by show _≤(1000:Rat);grind)),
    yro (i2.small (M:=12000) ⟨by omega,by omega⟩ (by omega) (by show -(12000:Rat)≤_;grind) (by show _≤(12000:Rat);grind)),if_neg c3,
    yro (i3.small (M:=1000) ⟨by omega,by omega⟩ (by omega) (by show -(1000:Rat)≤_;grind) (by show _≤(1000:Rat);grind)),
    yro (i4.small (M:=1000) ⟨by omega,by omega⟩ (by omega) (by show -(1000:Rat)≤_;grind) (by show _≤(1000:Rat);grind))]
   exact ⟨_,dens.getD i 0,rfl,⟨by omega,hd2.2⟩,i4⟩
theorem yRd (h:VC len cuts dens) {p v:Rat} (p0:0≤p) (p1:p≤(len:Rat)) (v0:0<v) (hv:v≤vX cuts dens (len:Rat)-vX cuts dens p) {D:Int} (D1:1≤D) (D2:D≤1000000000000) (hp:In D p) (hvD:In D v) :
  ∃ q d,mrkC cuts dens p v=.ok q∧(1≤d∧d≤12)∧In (d*D) q∧vX cuts dens q=vX cuts dens p+v∧p<q∧q≤(len:Rat)∧∀ x,x<q→vX cuts dens x<vX cuts dens q:=by
 have c0:cuts.getD 0 0=0:=h.2.2.2.2.2.1
 have t:=yM3 h
 have m0:=yvI h p0
 have tb:((totC cuts dens:Int):Rat)≤12000:=qAr.2 (yhr h).2
 obtain ⟨q,d,e,hd,hq⟩:=yAo h dens.length 0 p v (by omega) (by rw [c0];exact p0) p1 v0 hv D D1 D2 hp hvD (by grind)
 have ec:mrkC cuts dens p v=.ok q:=by
  unfold mrkC
  rw [if_neg (by grind)]
  exact e
 obtain ⟨k1,k2,k3,_,k5⟩:=ySC h p0 p1 (qBu v0) ec
 refine ⟨q,d,ec,hd,hq,k1,?_,k3,k5 (by grind)⟩
 by_cases hlt:p<q
 ·exact hlt
 ·have:p=q:=by grind
  rw [← this] at k1
  grind
end
end Go.Pf.Vc
namespace Go.Pf.Vc
open Go Go.Pf
section
variable {l:List Ck}
def yHK (M:Nat→Rat):Nat→List Nat→Option (Nat×Nat×Rat)→Option (Nat×Nat×Rat)
 | _,[],b=>b
 | j,a::r,b=>yHK M (j+1) r (ykk j a (M a) b)
theorem yLd {an ad:Int} {M:Nat→Rat}:∀ (rest:List Nat) (j:Nat) (lg:List Qy) (b:Option (Nat×Nat×Rat)),(∀ a∈rest,∀ m,m<2000→yqE l an ad m a=.ok (M a))→lg.length+rest.length<2000 →
  rnd l an ad j rest lg b=.ok (lg++rest.map (fun a=>yxa l an ad a (M a)),yHK M j rest b)
 | [],j,lg,b,_,_=>by
  rw [rnd,List.map_nil,qBx]
  rfl
 | a::r,j,lg,b,h,hl=>by
  rw [qAs] at hl
  rw [rnd,h a qAj _ (by omega)]
  dsimp only
  rw [yLd r (j+1) _ _ (fun x hx=>h x (qAm _ hx)) (by rw [qAn,qAs,List.length_nil];omega),qBd]
  rfl
theorem yyp {M:Nat→Rat}:∀ (rest:List Nat) (j k0 a0:Nat) (t0:Rat),∃ k a t,yHK M j rest (some (k0,a0,t0))=some (k,a,t)∧t≤t0∧(∀ x∈rest,t≤M x)∧((k,a,t)=(k0,a0,t0)∨(j≤k∧k<j+rest.length∧rest.getD (k-j) 0=a∧t=M a))
 | [],j,k0,a0,t0=>⟨k0,a0,t0,rfl,qBg,by simp,.inl rfl⟩
 | x::r,j,k0,a0,t0=>by
  rw [yHK]
  have e:ykk j x (M x) (some (k0,a0,t0))=if M x<t0 then some (j,x,M x) else some (k0,a0,t0):=rfl
  rw [e]
  by_cases hx:M x<t0
  ·rw [if_pos hx]
   obtain ⟨k,a,t,h1,h2,h3,h4⟩:=yyp (M:=M) r (j+1) j x (M x)
   refine ⟨k,a,t,h1,by grind,fun y hy=>?_,.inr ?_⟩
   ·rcases qAv.1 hy with rfl | hy
    ·exact h2
    ·exact h3 y hy
   ·rcases h4 with h4 | ⟨h4,h5,h6,h7⟩
    ·cases h4
     refine ⟨qAk _,by rw [qAs];omega,by rw [Nat.sub_self];rfl,rfl⟩
    ·refine ⟨by omega,by rw [qAs];omega,?_,h7⟩
     rw [show k-j=(k-(j+1))+1 by omega]
     exact h6
  ·rw [if_neg hx]
   obtain ⟨k,a,t,h1,h2,h3,h4⟩:=yyp (M:=M) r (j+1) k0 a0 t0
   refine ⟨k,a,t,h1,h2,fun y hy=>?_,?_⟩
   ·rcases qAv.1 hy with rfl | hy
    ·have:=Rat.not_lt.1 hx
     grind
    ·exact h3 y hy
   ·rcases h4 with h4 | ⟨h4,h5,h6,h7⟩
    ·exact .inl h4
    ·refine .inr ⟨by omega,by rw [qAs];omega,?_,h7⟩
     rw [show k-j=(k-(j+1))+1 by omega]
     exact h6
theorem yM6 {M:Nat→Rat} {rest:List Nat} (h:rest≠[]):∃ k,k<rest.length∧yHK M 0 rest none=some (k,rest.getD k 0,M (rest.getD k 0))∧∀ x∈rest,M (rest.getD k 0)≤M x:=by
 cases rest with
 | nil=>exact absurd rfl h
 | cons x r =>
  rw [yHK]
  have e:ykk 0 x (M x) none=some (0,x,M x):=rfl
  rw [e]
  obtain ⟨k,a,t,h1,h2,h3,h4⟩:=yyp (M:=M) r (0+1) 0 x (M x)
  rw [h1]
  rcases h4 with h4 | ⟨h4,h5,h6,h7⟩
  ·cases h4
   refine ⟨0,by rw [qAs];omega,rfl,fun y hy=>?_⟩
   rcases qAv.1 hy with rfl | hy
   ·exact qBg
   ·exact h3 y hy
  ·obtain ⟨m,rfl⟩:∃ m,k=m+1:=⟨k-1,by omega⟩
   have h6:r.getD m 0=a:=by rw [show m+1-(0+1)=m by omega] at h6;exact h6
   subst h6
   subst h7
   refine ⟨m+1,by rw [qAs];omega,rfl,fun y hy=>?_⟩
   rcases qAv.1 hy with rfl | hy
   ·exact h2
   ·exact h3 y hy
theorem yDg (hd:DK l) {a:Nat} (h:a<l.length):0<shN l a:=by
 have t:=yFa (hd.ok a h)
 have n0:=hd.n0
 have t2:(0:Rat)<((totC (l.getD a default).cuts (l.getD a default).dens:Int):Rat):=Rat.intCast_pos.2 t
 have hn:(0:Rat)<((l.length:Int):Rat):=Rat.intCast_pos.2 (by omega)
 have e:shN l a*((l.length:Int):Rat)=((totC (l.getD a default).cuts (l.getD a default).dens:Int):Rat):=qB4 (by grind)
 refine Rat.not_le.1 fun k=>?_
 have:=qCc k (qBu hn)
 grind
theorem ySE (hd:DK l) {a:Nat} (_:a<l.length):((l.length:Int):Rat)*shN l a=((totC (l.getD a default).cuts (l.getD a default).dens:Int):Rat):=by
 have n0:=hd.n0
 have hn:(0:Rat)<((l.length:Int):Rat):=Rat.intCast_pos.2 (by omega)
 have e:shN l a*((l.length:Int):Rat)=((totC (l.getD a default).cuts (l.getD a default).dens:Int):Rat):=qB4 (by grind)
 grind
theorem yTY (l:List Ck) (a:Nat):In (l.length:Int) (shN l a):=⟨totC (l.getD a default).cuts (l.getD a default).dens,rfl⟩
def mkM (l:List Ck) (p:Rat) (a:Nat):Rat:=getR (mrkC (l.getD a default).cuts (l.getD a default).dens p (shN l a))
theorem yTZ (hd:DK l) {a:Nat} (h:a<l.length) {p:Rat} (p0:0≤p) (p1:p≤((l.getD 0 default).len:Rat)) (hv:shN l a≤vX (l.getD a default).cuts (l.getD a default).dens ((l.getD 0 default).len:Rat)-vX (l.getD a default).cuts (l.getD a default).dens p)
  {D:Int} (D1:1≤D) (D2:D≤1000000000000) (hp:In D p) (hs:In D (shN l a)) :
  mrkC (l.getD a default).cuts (l.getD a default).dens p (shN l a)=.ok (mkM l p a)∧(∃ d:Int,(1≤d∧d≤12)∧In (d*D) (mkM l p a))∧vX (l.getD a default).cuts (l.getD a default).dens (mkM l p a)=vX (l.getD a default).cuts (l.getD a default).dens p+shN l a∧p<mkM l p a∧mkM l p a≤((l.getD 0 default).len:Rat):=by
 have hok:=hd.ok a h
 have hlen:=hd.len a h
 rw [← hlen] at p1 hv ⊢
 obtain ⟨q,d,e,hd12,hq,k1,k2,k3,_⟩:=yRd hok p0 p1 (yDg hd h) hv D1 D2 hp hs
 obtain ⟨g1,g2⟩:=ySs e
 have g2:mkM l p a=q:=g2
 rw [g2]
 exact ⟨e,⟨d,hd12,hq⟩,k1,k2,k3⟩
theorem yLe (hd:DK l) {a:Nat} (h:a<l.length) {p:Rat} (hs:small p) (p0:0≤p) (p1:p≤((l.getD 0 default).len:Rat)) (e:mrkC (l.getD a default).cuts (l.getD a default).dens p (shN l a)=.ok (mkM l p a)) :
  mrkR (l.getD a default).len (l.getD a default).cuts (l.getD a default).dens p.num p.den (shN l a).num (shN l a).den=.ok (mkM l p a):=by
 have hok:=hd.ok a h
 have hsh:=yBw hd h
 have hp:=yDg hd h
 unfold mrkR
 rw [if_pos hok.ck,if_pos ⟨yKP hs p0 (by rw [hd.len a h];exact p1),hsh.rv,Rat.num_nonneg.2 (qBu hp)⟩,yhs,yhs]
 exact e
theorem yPp (hd:DK l) {a:Nat} (h:a<l.length) {p:Rat} (hs:small p) (p0:0≤p) (p1:p≤((l.getD 0 default).len:Rat)) (e:mrkC (l.getD a default).cuts (l.getD a default).dens p (shN l a)=.ok (mkM l p a)) {m:Nat} (hm:m<2000) :
  yqE l p.num p.den m a=.ok (mkM l p a):=by
 unfold yqE qryR
 rw [if_pos (hd.err (by omega)),if_pos ⟨by omega,by omega⟩,qAe]
 have:Ck.mark p.num p.den (shN l a).num (shN l a).den (l.getD a default)=.ok (mkM l p a):=yLe hd h hs p0 p1 e
 rw [this]
 show (if m≥2000 then _ else _)=_
 rw [if_neg (by omega)]
theorem yT0 (hd:DK l) {a:Nat} (h:a<l.length) {p:Rat} (hs:small p) (p0:0≤p) (p1:p≤((l.getD 0 default).len:Rat)) (e:mrkC (l.getD a default).cuts (l.getD a default).dens p (shN l a)=.ok (mkM l p a)):QR l (yxa l p.num p.den a (mkM l p a)):=by
 have hsh:=yBw hd h
 refine ⟨⟨by show (0:Int)≤a;omega,by show (a:Int)<_;omega⟩,⟨hs.i1,hs.i2,hsh.i1,hsh.i2⟩,mkM l p a,⟨rfl,rfl⟩,.inl ⟨rfl,?_⟩⟩
 show mrkR (l.getD a default).len (l.getD a default).cuts (l.getD a default).dens p.num p.den (shN l a).num (shN l a).den=_
 exact yLe hd h hs p0 p1 e
theorem yRe (hd:DK l) {rest:List Nat} (hne:rest≠[]) (hr:∀ a∈rest,a<l.length) {p:Rat} (hs:small p) (p0:0≤p) (p1:p≤((l.getD 0 default).len:Rat))
  (hv:∀ a∈rest,shN l a≤vX (l.getD a default).cuts (l.getD a default).dens ((l.getD 0 default).len:Rat)-vX (l.getD a default).cuts (l.getD a default).dens p)
  {D:Int} (D1:1≤D) (D2:D≤1000000000000) (hp:In D p) (hsh:∀ a,In D (shN l a)) (lg:List Qy) (hl:lg.length+rest.length<2000) :
  ∃ k,k<rest.length∧rnd l p.num p.den 0 rest lg none=.ok (lg++rest.map (fun a=>yxa l p.num p.den a (mkM l p a)),some (k,rest.getD k 0,mkM l p (rest.getD k 0))) ∧
   (∀ a∈rest,QR l (yxa l p.num p.den a (mkM l p a))) ∧
   (∃ d:Int,(1≤d∧d≤12)∧In (d*D) (mkM l p (rest.getD k 0)))∧p<mkM l p (rest.getD k 0)∧mkM l p (rest.getD k 0)≤((l.getD 0 default).len:Rat) ∧
   vX (l.getD (rest.getD k 0) default).cuts (l.getD (rest.getD k 0) default).dens (mkM l p (rest.getD k 0))=vX (l.getD (rest.getD k 0) default).cuts (l.getD (rest.getD k 0) default).dens p+shN l (rest.getD k 0) ∧
   ∀ a∈rest,vX (l.getD a default).cuts (l.getD a default).dens (mkM l p (rest.getD k 0))≤vX (l.getD a default).cuts (l.getD a default).dens p+shN l a:=by
 have key:=fun a (ha:a∈rest)=>yTZ hd (hr a ha) p0 p1 (hv a ha) D1 D2 hp (hsh a)
 obtain ⟨k,hk,e,hmin⟩:=yM6 (M:=mkM l p) hne
 have hm:=ylv hk
 obtain ⟨_,k2,k3,k4,k5⟩:=key _ hm
 refine ⟨k,hk,?_,fun a ha=>yT0 hd (hr a ha) hs p0 p1 (key a ha).1,k2,k4,k5,k3,fun a ha=>?_⟩
 ·rw [yLd rest 0 lg none (fun a ha m hm=>yPp hd (hr a ha) hs p0 p1 (key a ha).1 hm) hl,e]
 ·rw [← (key a ha).2.2.1]
  exact yvI (hd.ok a (hr a ha)) (hmin a ha)
end
end Go.Pf.Vc
namespace Go.Pf.Vc
open Go Go.Pf
section
variable {l:List Ck}
def vXA (l:List Ck) (a:Nat) (p:Rat):Rat:=vX (l.getD a default).cuts (l.getD a default).dens p
def lenR (l:List Ck):Rat:=((l.getD 0 default).len:Rat)
def spT (t:Nat→Rat) (j:Nat):Sp:=⟨(t j).num,(t j).den,(t (j+1)).num,(t (j+1)).den⟩
structure KRun (l:List Ck) (r:Nat) (rest:List Nat) (p:Rat) (pcs:List (List Sp)) (ord:List Nat) (lg:List Qy) (x:List (List Sp)×List Nat×List Qy) (o:List Nat) (t:Nat→Rat) (D:Int):Prop where
 ord:x.2.1=ord++o
 len:o.length=r+1
 perm:o.Perm rest
 t0:t 0=p
 tn:t (r+1)=lenR l
 lt:∀ j,j<r+1→t j<t (j+1)
 inD:∀ j,j≤r+1→In D (t j)
 pl:x.1.length=pcs.length
 pin:∀ j,j<r+1→x.1.getD (o.getD j 0) []=[spT t j]
 pout:∀ a,a∉o→x.1.getD a []=pcs.getD a []
 sh:∀ j,j<r→vXA l (o.getD j 0) (t (j+1))=vXA l (o.getD j 0) (t j)+shN l (o.getD j 0)
 last:vXA l (o.getD r 0) (t r)+shN l (o.getD r 0)≤vXA l (o.getD r 0) (t (r+1))
 qs:∃ qs,x.2.2=lg++qs∧(∀ q∈qs,QR l q)∧qs.length+1=(r+1)*(r+2) / 2
theorem yRf (r:Nat):(r+2)+(r+1)*(r+2) / 2=(r+1+1)*(r+1+2) / 2:=by
 have e:(r+1+1)*(r+1+2)=(r+1)*(r+2)+(r+2)*2:=by
  rw [show r+1+1=r+2 by omega,show r+1+2=r+3 by omega,Nat.mul_comm (r+1) (r+2),← Nat.mul_add]
 rw [e,Nat.add_mul_div_right _ _ (by decide:0<2)]
 omega
theorem yOd (hd:DK l):∀ (r:Nat) (rest:List Nat) (p:Rat) (pcs:List (List Sp)) (ord:List Nat) (lg:List Qy) (D B:Int),rest.length=r+1→rest.Nodup→(∀ a∈rest,a<l.length)→pcs.length=l.length→small p→0≤p→p<lenR l →
  (∀ a∈rest,vXA l a p+((r+1:Nat):Int)*shN l a≤vXA l a (lenR l))→1≤D→D≤B→B*12 ^ r≤100000000→In D p→(∀ a,In D (shN l a))→lg.length+(r+1)*(r+2) / 2<2000 →
  ∃ x o t D',knf l r rest p.num p.den pcs ord lg=.ok x∧(1≤D'∧D'≤B*12 ^ r)∧(∀ q,In D q→In D' q)∧KRun l r rest p pcs ord lg x o t D'
 | 0,rest,p,pcs,ord,lg,D,B,hlen,hnd,hr,hp,hs,p0,p1,hv,D1,DB,hB,hpD,hshD,hlg=>by
  obtain ⟨a,rr,rfl,hrr⟩:=ya1 hlen
  obtain rfl:=qAh hrr
  have ha:=hr a qAj
  refine ⟨_,[a],fun j=>if j=0 then p else lenR l,D,rfl,⟨D1,by rw [Int.pow_zero,Int.mul_one];exact DB⟩,fun _ h=>h,?_⟩
  refine ⟨rfl,rfl,List.Perm.refl _,rfl,rfl,fun j hj=>?_,fun j hj=>?_,?_,fun j hj=>?_,fun b hb=>?_,fun j hj=>by omega,?_,[],by rw [qBx],by simp,by decide⟩
  ·obtain rfl:j=0:=by omega
   exact p1
  ·obtain rfl | rfl:j=0∨j=1:=by omega
   ·exact hpD
   ·exact In.int D1 _
  ·exact qA8 ..
  ·obtain rfl:j=0:=by omega
   show (pcs.set a _).getD a []=_
   rw [qAa,qBv (by omega)]
   rfl
  ·have hne:a≠b:=fun e=>hb (by rw [e];exact qAj)
   show (pcs.set a _).getD b []=_
   rw [qAa,qB6 hne,← qAa]
  ·have:=hv a qAj
   show vXA l a p+shN l a≤vXA l a (lenR l)
   have e:(((0+1:Nat):Int):Rat)=1:=rfl
   rw [e] at this
   grind
 | r+1,rest,p,pcs,ord,lg,D,B,hlen,hnd,hr,hp,hs,p0,p1,hv,D1,DB,hB,hpD,hshD,hlg=>by
  have n6:=hd.n6
  have hne:rest≠[]:=fun e=>by rw [e] at hlen;cases hlen
  have tr:=yRf r
  have hpow:B*12 ^ (r+1)=12*B*12 ^ r:=by rw [Int.pow_succ];grind
  have hp1:1≤(12:Int) ^ r:=by
   have:(0:Int)<12 ^ r:=Int.pow_pos (by omega)
   omega
  have hB1:12*B*1≤12*B*12 ^ r:=Int.mul_le_mul_of_nonneg_left hp1 (by omega)
  have hc:(((r+1+1:Nat):Int):Rat)=(((r+1:Nat):Int):Rat)+1:=by
   rw [show ((r+1+1:Nat):Int)=((r+1:Nat):Int)+1 by omega,Rat.intCast_add];rfl
  have hr0:(0:Rat)<(((r+1:Nat):Int):Rat):=Rat.intCast_pos.2 (by omega)
  have hv1:∀ a∈rest,shN l a≤vX (l.getD a default).cuts (l.getD a default).dens ((l.getD 0 default).len:Rat)-vX (l.getD a default).cuts (l.getD a default).dens p:=fun a ha=>by
   have:=hv a ha
   have sp:=yDg hd (hr a ha)
   have:=Rat.mul_pos hr0 sp
   unfold vXA lenR at *
   rw [hc] at *
   grind
  obtain ⟨k,hk,e,hq,⟨d,hd12,hqD⟩,q0,q1,hsh,hall⟩:=yRe hd hne hr hs p0 (qBu p1) hv1 D1 (by omega) hpD hshD lg (by omega)
  have ham:=ylv hk
  generalize ha:rest.getD k 0=a at *
  generalize hqq:mkM l p a=q at *
  have hdD:d*D≤12*D:=qA2 hd12.2 (by omega)
  have hdD1:1*1≤d*D:=qCa hd12.1 D1 (by omega) (by omega)
  have hlenk:(rest.eraseIdx k).length=r+1:=by rw [List.length_eraseIdx_of_lt hk];omega
  have hmem:∀ b∈rest.eraseIdx k,b∈rest:=fun b hb=>List.mem_of_mem_eraseIdx hb
  have haD:In (d*D) q:=hqD
  have l0:=(hd.ok 0 (by have:=hd.n0;omega)).len0
  have hL:lenR l≤1000:=qAr.2 l0.2
  have hqs:small q:=haD.small (M:=1000) ⟨by omega,by omega⟩ (by omega) (by show -(1000:Rat)≤_;grind) (by show _≤(1000:Rat);unfold lenR at hL;grind)
  have hv2:∀ b∈rest.eraseIdx k,vXA l b q+((r+1:Nat):Int)*shN l b≤vXA l b (lenR l):=fun b hb=>by
   have h1:=hv b (hmem b hb)
   have h2:=hall b (hmem b hb)
   unfold vXA at *
   rw [hc] at h1
   grind
  have hq1:q<lenR l:=by
   obtain ⟨b,hb⟩:∃ b,b∈rest.eraseIdx k:=by
    cases hx:rest.eraseIdx k with
    | nil=>rw [hx] at hlenk;cases hlenk
    | cons b _=>exact ⟨b,qAj⟩
   have h1:=hv2 b hb
   have hbl:=hr b (hmem b hb)
   have sp:=yDg hd hbl
   have sp2:=Rat.mul_pos hr0 sp
   refine Rat.not_le.1 fun hle=>?_
   have:=yvI (hd.ok b hbl) hle
   unfold vXA at h1
   grind
  have hperm:rest.Perm (a::rest.eraseIdx k):=by
   have e1:rest=rest.take k++a::rest.drop (k+1):=by
    rw [← ha,← yc7 0 hk,List.take_append_drop]
   rw [List.eraseIdx_eq_take_drop_succ]
   refine (List.Perm.of_eq e1).trans ?_
   exact List.perm_middle
  have hnd2:(a::rest.eraseIdx k).Nodup:=hperm.nodup_iff.1 hnd
  obtain ⟨x,o,t,D',h1,h2,hup,h3⟩:=yOd hd r (rest.eraseIdx k) q (pcs.set a [⟨p.num,p.den,q.num,q.den⟩]) (ord++[a]) (lg++rest.map (fun a=>yxa l p.num p.den a (mkM l p a))) (d*D) (12*B) hlenk (List.nodup_cons.1 hnd2).2 (fun b hb=>hr b (hmem b hb)) (by rw [qA8];exact hp) hqs (by grind) hq1 hv2 (by omega) (by omega) (by omega) haD (fun b=>(hshD b).up D1 (by omega)) (by rw [qAn,qAo,hlen];omega)
  have haO:a∉o:=fun hm=>(List.nodup_cons.1 hnd2).1 (h3.perm.mem_iff.1 hm)
  have e2:knf l (r+1) rest p.num p.den pcs ord lg=.ok x:=by
   rw [knf,e]
   exact h1
  obtain ⟨qs,hq1',hq2,hq3⟩:=h3.qs
  refine ⟨x,a::o,fun j=>if j=0 then p else t (j-1),D',e2,⟨h2.1,by omega⟩,fun q h=>hup q (h.up D1 (by omega)),?_⟩
  have tj:∀ j,(fun j=>if j=0 then p else t (j-1)) (j+1)=t j:=fun j=>by
   dsimp only
   rw [if_neg (by omega),Nat.add_sub_cancel]
  have t00:(fun j=>if j=0 then p else t (j-1)) 0=p:=rfl
  generalize (fun j=>if j=0 then p else t (j-1))=T at tj t00
  refine ⟨?_,by rw [qAs,h3.len],?_,t00,?_,fun j hj=>?_,fun j hj=>?_,?_,fun j hj=>?_,fun b hb=>?_,fun j hj=>?_,?_,rest.map (fun a=>yxa l p.num p.den a (mkM l p a))++qs,?_,?_,?_⟩
  ·rw [h3.ord,qBd];rfl
  ·exact (List.Perm.cons a h3.perm).trans hperm.symm
  ·rw [tj];exact h3.tn
  ·cases j with
   | zero=>rw [t00,tj,h3.t0];exact q0
   | succ j=>rw [tj,tj];exact h3.lt j (by omega)
  ·cases j with
   | zero =>
    rw [t00]
    exact hup p (hpD.up D1 (by omega))
   | succ j=>rw [tj];exact h3.inD j (by omega)
  ·rw [h3.pl,qA8]
  ·cases j with
   | zero =>
    show x.1.getD a []=_
    rw [h3.pout a haO,qAa,qBv (by have:=hr a ham;omega)]
    unfold spT
    rw [t00,tj,h3.t0]
    rfl
   | succ j =>
    show x.1.getD (o.getD j 0) []=_
    rw [h3.pin j (by omega)]
    unfold spT
    rw [tj,tj]
  ·have hb1:b≠a:=fun e=>hb (by rw [e];exact qAj)
   rw [h3.pout b (fun hm=>hb (qAm _ hm)),qAa,qB6 (fun e=>hb1 e.symm),← qAa]
  ·cases j with
   | zero =>
    show vXA l a _=vXA l a _+shN l a
    rw [t00,tj,h3.t0]
    exact hsh
   | succ j =>
    show vXA l (o.getD j 0) _=vXA l (o.getD j 0) _+shN l (o.getD j 0)
    rw [tj,tj]
    exact h3.sh j (by omega)
  ·show vXA l (o.getD r 0) _+shN l (o.getD r 0)≤vXA l (o.getD r 0) _
   rw [tj,tj]
   exact h3.last
  ·rw [hq1',qBd]
  ·intro y hy
   rcases qA9.1 hy with hy | hy
   ·obtain ⟨b,hb,rfl⟩:=qB1.1 hy
    exact hq b hb
   ·exact hq2 y hy
  ·rw [qAn,qAo,hlen]
   omega
end
end Go.Pf.Vc
namespace Go.Pf.Vc
open Go Go.Pf
set_option maxRecDepth 100000
def S0 (t:Tab):Env:=smT (E []) yy2 t
theorem yRg {e:Es} (he:EG e) (n:Nat) (hm:memN yy2 n=false) (as:List PV) (H:Hp):(E e).effx n as H=none:=by
 show ytJ ((E e).eff n as H)=none
 rw [he.num n hm as H]
 rfl
theorem S0_e {e:Es} {t:Tab}:smT (E e) yy2 t=S0 t:=by kernel_rfl
theorem ys3 {e:Es} (he:EG e) {t:Tab} (ht:∀ x∈t,(E e).qui x.1=true∧Ans (E e) x.1 x.2.1 x.2.2) {m n:Nat} {as:List PV} {r:PV} (h:ybv (S0 t) (ybK (S0 t) m) n as=some r):Ans (E e) n as r :=
 ySi (nums:=yy2) (t:=t) (m:=m) (fun n hm as H=>yRg he n hm as H) ht (by rw [S0_e];exact h)
theorem yvj {e:Es}:∀ x∈([]:Tab),(E e).qui x.1=true∧Ans (E e) x.1 x.2.1 x.2.2:=fun x h=>by cases h
abbrev aA:PV:=.agg [.int .i64 4,.data [.int .i64 0,.int .i64 4],.data [.int .i64 1]]
abbrev aB:PV:=.agg [.int .i64 4,.data [.int .i64 0,.int .i64 1,.int .i64 4],.data [.int .i64 3,.int .i64 1]]
abbrev aR (n d:Int):PV:=.agg [.int .i64 n,.int .i64 d]
theorem yHL:ybv (S0 []) (ybK (S0 []) 300) ycT [aA,aR 0 1]=some (.tup [aR 2 1,.int .i64 0]):=by kernel_rfl
theorem yM7:ybv (S0 []) (ybK (S0 []) 300) ycT [aA,aR 1 2]=some (.tup [aR 5 2,.int .i64 0]):=by kernel_rfl
theorem yLf:ybv (S0 []) (ybK (S0 []) 300) ycN [aA,aB,aR 0 1]=some (.tup [aR 1 1,.int .i64 0]):=by kernel_rfl
theorem yLg:ybv (S0 []) (ybK (S0 []) 300) ycN [aA,aB,aR 1 1]=some (.tup [aR (-1) 1,.int .i64 0]):=by kernel_rfl
theorem yRh:ybv (S0 []) (ybK (S0 []) 300) ycN [aA,aB,aR 1 2]=some (.tup [aR 0 1,.int .i64 0]):=by kernel_rfl
def hTab:Tab:=[(ycT,[aA,aR 0 1],.tup [aR 2 1,.int .i64 0]),(ycT,[aA,aR 1 2],.tup [aR 5 2,.int .i64 0]),(ycN,[aA,aB,aR 0 1],.tup [aR 1 1,.int .i64 0]),(ycN,[aA,aB,aR 1 1],.tup [aR (-1) 1,.int .i64 0]),(ycN,[aA,aB,aR 1 2],.tup [aR 0 1,.int .i64 0])]
theorem ySF {e:Es} (he:EG e):∀ x∈hTab,(E e).qui x.1=true∧Ans (E e) x.1 x.2.1 x.2.2:=by
 intro x hx
 simp only [hTab,qAv,List.not_mem_nil,or_false] at hx
 rcases hx with rfl | rfl | rfl | rfl | rfl
 ·exact ⟨by kernel_rfl,ys3 he yvj yHL⟩
 ·exact ⟨by kernel_rfl,ys3 he yvj yM7⟩
 ·exact ⟨by kernel_rfl,ys3 he yvj yLf⟩
 ·exact ⟨by kernel_rfl,ys3 he yvj yLg⟩
 ·exact ⟨by kernel_rfl,ys3 he yvj yRh⟩
theorem yRi:ybv (S0 hTab) (ybK (S0 hTab) 300) yg7 [aA,aB]=some (.tup [.agg [.int .i64 1,.int .i64 2,.int .i64 5,.int .i64 2],.int .i64 0]):=by kernel_rfl
theorem yRj (K:Int→Int→Int→Prop):ygm 4 (ints [0,4]) (ints [1]) 0 1 K=K 2 1 0 :=
 yCI _ _ _ _ _ _ _ _ (fun _ k=>⟨2,1,0,k,fun _ he=>ys3 he yvj yHL⟩) K
theorem ySG (K:Int→Int→Int→Prop):yiv 4 (ints [0,4]) (ints [1]) 4 (ints [0,1,4]) (ints [3,1]) 0 1 K=K 1 1 0 :=
 yw1 _ _ _ _ _ _ _ _ _ _ _ (fun _ k=>⟨1,1,0,k,fun _ he=>ys3 he yvj yLf⟩) K
theorem ySH (K:Int→Int→Int→Prop):yiv 4 (ints [0,4]) (ints [1]) 4 (ints [0,1,4]) (ints [3,1]) 1 1 K=K (-1) 1 0 :=
 yw1 _ _ _ _ _ _ _ _ _ _ _ (fun _ k=>⟨-1,1,0,k,fun _ he=>ys3 he yvj yLg⟩) K
theorem ySI (K:Int→Int→Int→Int→Int→Prop):yiW 4 (ints [0,4]) (ints [1]) 4 (ints [0,1,4]) (ints [3,1]) K=K 1 2 5 2 0 :=
 yEA _ _ _ _ _ _ _ _ _ _ _ (fun _ k=>⟨1,2,5,2,0,k,fun _ he=>ys3 he (ySF he) yRi⟩) K
def thrC:List Ck:=[⟨6,[0,6],[1]⟩,⟨6,[0,4,6],[1,4]⟩,⟨6,[0,2,6],[2,0]⟩]
def yTj (e:KR):Bool:=match e with
 | .ok (p,o,lg)=>decide (p=[[⟨2,3,8,3⟩],[⟨8,3,6,1⟩],[⟨0,1,2,3⟩]])&&(decide (o=[2,0,1])&&decide (lg.length=5))
 | .error _=>false
theorem yT1:yTj (kE thrC)=true:=by decide +kernel
theorem ySJ (K:List PV→Prop):yqC K=K (cks thrC):=rfl
theorem yU1 (K:Int→List PV→List PV→Int→List PV→List PV→Prop):yvD K=K 4 (ints [0,4]) (ints [1]) 4 (ints [0,1,4]) (ints [3,1]):=rfl
theorem of11 (n:Int) (K:Int→Int→Prop):yiF n K=K n 1:=rfl
theorem ySK:finC thrC:=by
 intro i hi
 have h:i<3:=hi
 rcases i with _ | _ | _ | i
 ·exact ⟨by decide,by decide⟩
 ·exact ⟨by decide,by decide⟩
 ·exact ⟨by decide,by decide⟩
 ·omega
theorem yT2:([(.int .i64 (2:Int)),(.int .i64 (0:Int)),(.int .i64 (1:Int))]:List PV)=ints [2,0,1]:=rfl
theorem yT3:([(.data ([(.agg [(.int .i64 (2:Int)),(.int .i64 (3:Int)),(.int .i64 (8:Int)),(.int .i64 (3:Int))])]:List PV)),(.data ([(.agg [(.int .i64 (8:Int)),(.int .i64 (3:Int)),(.int .i64 (6:Int)),(.int .i64 (1:Int))])]:List PV)),(.data ([(.agg [(.int .i64 (0:Int)),(.int .i64 (1:Int)),(.int .i64 (2:Int)),(.int .i64 (3:Int))])]:List PV))]:List PV)=pieces [[⟨2,3,8,3⟩],[⟨8,3,6,1⟩],[⟨0,1,2,3⟩]]:=rfl
theorem yFp (K:Bool→Prop):yeK K=K true:=by
 have h3:=yT1
 cases e:kE thrC with
 | error x=>rw [e] at h3;cases h3
 | ok t =>
  obtain ⟨p,o,lg⟩:=t
  rw [e] at h3
  simp only [yTj,qAc,decide_eq_true_eq] at h3
  obtain ⟨rfl,rfl,hlg⟩:=h3
  unfold yeK ysW
  dsimp only [Go.Pf.jn]
  simp only [ySJ,yU1,of11]
  rw [yHz ySK (by decide),e]
  show ygm _ _ _ _ _ _=_
  rw [yRj,ySG,ySH,ySI]
  rw [ceT rfl,yT2,show nts [2,0,1]=ints [2,0,1] from rfl,yMW (by decide),yal,yrX,hlg,ceT rfl,yT3,yMV (fun i hi=>by
   have h:i<3:=hi
   rcases i with _ | _ | _ | i
   ·decide
   ·decide
   ·decide
   ·omega) (by decide),yal,ceT rfl]
  rfl
section
variable {l:List Ck}
theorem yRk {l:List Ck} (hl:l.length≤9223372036854775807) (K:Bool→Prop):yje (cks l) K=K (!yyk l&&decide (yjj l 0=0)):=by
 unfold yje yyg
 dsimp only [Go.Pf.jn]
 rw [yGy hl]
 cases hg:yyk l with
 | true=>rfl
 | false =>
  obtain ⟨g1,g2,g3⟩:=yE8 hg
  rw [show (!false)=true from rfl,yal,yO6 g3 (by omega)]
  rfl
end
end Go.Pf.Vc
namespace Go.Pf.Vc
open Go Go.Pf
section
variable {l:List Ck}
theorem yPq (hd:DK l):∃ x o t D',kE l=.ok x∧(1≤D'∧D'≤100000000)∧KRun l (l.length-1) (List.range l.length) 0 (List.replicate l.length []) [] [] x o t D':=by
 have n0:=hd.n0;have n6:=hd.n6
 have l0:=(hd.ok 0 (by omega)).len0
 have hL:(1:Rat)≤lenR l:=qAr.2 l0.1
 have hn:l.length-1+1=l.length:=by omega
 have hp:(l.length:Int)*12 ^ (l.length-1)≤100000000:=by
  obtain h | h | h | h | h | h:l.length=1∨l.length=2∨l.length=3∨l.length=4∨l.length=5∨l.length=6:=by omega
  all_goals (rw [h];decide)
 have ht:(l.length-1+1)*(l.length-1+2) / 2<2000:=by
  obtain h | h | h | h | h | h:l.length=1∨l.length=2∨l.length=3∨l.length=4∨l.length=5∨l.length=6:=by omega
  all_goals (rw [h];decide)
 obtain ⟨x,o,t,D',h1,h2,_,h3⟩:=yOd hd (l.length-1) (List.range l.length) 0 (List.replicate l.length []) [] [] l.length l.length (by rw [List.length_range];omega) List.nodup_range (fun a ha=>List.mem_range.1 ha) (qAt ..) yyn qBg (by grind) (fun a ha=>by
  have hal:=List.mem_range.1 ha
  have hm:=ySE hd hal
  have ht:=yM3 (hd.ok a hal)
  rw [hd.len a hal] at ht
  rw [hn]
  show vX _ _ 0+((l.length:Int):Rat)*shN l a≤vX _ _ ((l.getD 0 default).len:Rat)
  rw [hm,← ht]
  grind) (by omega) (Int.le_refl _) hp (In.int (by omega) 0) (yTY l) (by rw [List.length_nil];omega)
 refine ⟨x,o,t,D',?_,⟨h2.1,by omega⟩,h3⟩
 unfold kE
 rw [if_pos (hd.err (by omega))]
 exact h1
theorem KRun.mem {x o t D'} (_:1≤l.length) (h:KRun l (l.length-1) (List.range l.length) 0 (List.replicate l.length []) [] [] x o t D') {a:Nat}:a∈o↔a<l.length:=by
 rw [h.perm.mem_iff,List.mem_range]
theorem KRun.at {x o t D'} (n0:1≤l.length) (h:KRun l (l.length-1) (List.range l.length) 0 (List.replicate l.length []) [] [] x o t D') {a:Nat} (ha:a<l.length):o.idxOf a<l.length∧o.getD (o.idxOf a) 0=a:=by
 have hm:=(h.mem n0 (a:=a)).2 ha
 have hl:=h.len
 have hi:=List.idxOf_lt_length_of_mem hm
 refine ⟨by omega,?_⟩
 rw [qAa,qAb hi]
 exact List.getElem_idxOf hi
theorem KRun.idx {x o t D'} (n0:1≤l.length) (h:KRun l (l.length-1) (List.range l.length) 0 (List.replicate l.length []) [] [] x o t D') {j:Nat} (hj:j<l.length):o.getD j 0<l.length∧o.idxOf (o.getD j 0)=j:=by
 have hl:=h.len
 have hj':j<o.length:=by omega
 have hm:o.getD j 0∈o:=ylv hj'
 refine ⟨(h.mem n0).1 hm,?_⟩
 have hnd:o.Nodup:=h.perm.nodup_iff.2 List.nodup_range
 rw [qAa,qAb hj']
 exact hnd.idxOf_getElem j hj'
def knA (pcs:List (List Sp)):List (List RS):=pcs.map rsL
theorem yOe (t:Nat→Rat) (j:Nat):rsL [spT t j]=[(t j,t (j+1))]:=by
 show [(rt (t j).num (t j).den,rt (t (j+1)).num (t (j+1)).den)]=_
 rw [yhs,yhs]
theorem KRun.LD {x o t D'} (hd:DK l) (hD:1≤D'∧D'≤100000000) (h:KRun l (l.length-1) (List.range l.length) 0 (List.replicate l.length []) [] [] x o t D'):LD l (knA x.1) t o.idxOf:=by
 have n0:=hd.n0
 have hn:l.length-1+1=l.length:=by omega
 have hpl:=h.pl
 rw [qAt] at hpl
 have l0:=(hd.ok 0 (by omega)).len0
 have hL:lenR l≤1000:=qAr.2 l0.2
 have up:∀ j i,i≤j→j≤l.length→t i≤t j:=by
  intro j
  induction j with
  | zero =>
   intro i hi _
   have e:i=0:=by omega
   rw [e]
   exact qBg
  | succ j ih =>
   intro i hi hj
   by_cases e:i=j+1
   ·subst e;exact qBg
   ·have:=ih i (by omega) (by omega)
    have:=h.lt j (by omega)
    grind
 refine ⟨hd,by unfold knA;rw [qAo];exact hpl,h.t0,?_,fun j hj=>h.lt j (by omega),fun j hj=>?_,fun a ha=>?_,fun a b ha hb e=>?_,fun j hj=>?_⟩
 ·have:=h.tn
  rw [hn] at this
  exact this
 ·have a:=up j 0 (by omega) hj
  have b:=up l.length j hj (qAk _)
  have tn:=h.tn
  rw [hn] at tn
  rw [h.t0] at a
  exact (h.inD j (by omega)).small (M:=1000) ⟨by omega,by omega⟩ (by omega) (by show -(1000:Rat)≤_;grind) (by show _≤(1000:Rat);grind)
 ·obtain ⟨k1,k2⟩:=h.at n0 ha
  refine ⟨k1,?_⟩
  have:=h.pin (o.idxOf a) (by omega)
  rw [k2] at this
  unfold knA
  rw [qAa,qAy,qAb (by omega)]
  rw [qAa,qAb (by omega)] at this
  show rsL x.1[a]=_
  rw [show x.1[a]=[spT t (o.idxOf a)] from this,yOe]
 ·have h1:=(h.at n0 ha).2
  have h2:=(h.at n0 hb).2
  rw [e,h2] at h1
  exact h1.symm
 ·obtain ⟨k1,k2⟩:=h.idx n0 hj
  exact ⟨_,k1,k2⟩
theorem KRun.pieces {x o t D'} (hd:DK l) (h:KRun l (l.length-1) (List.range l.length) 0 (List.replicate l.length []) [] [] x o t D'):pieces x.1=rspL (knA x.1):=by
 have n0:=hd.n0
 have hpl:=h.pl
 rw [qAt] at hpl
 unfold Go.Pf.Vc.pieces rspL knA
 rw [List.map_map]
 refine qB9 fun p hp=>?_
 obtain ⟨a,ha,rfl⟩:=List.getElem_of_mem hp
 have hal:a<l.length:=by omega
 obtain ⟨k1,k2⟩:=h.at n0 hal
 have:=h.pin (o.idxOf a) (by omega)
 rw [k2,qAa,qAb ha] at this
 have this:x.1[a]=[spT t (o.idxOf a)]:=this
 show PV.data (yfQ x.1[a])=PV.data (rsp (rsL x.1[a]))
 rw [this,yOe]
 rfl
theorem KRun.share {x o t D'} (hd:DK l) (hD:1≤D'∧D'≤100000000) (h:KRun l (l.length-1) (List.range l.length) 0 (List.replicate l.length []) [] [] x o t D') {j:Nat} (hj:j<l.length) :
  shN l (o.getD j 0)≤wV (l.getD (o.getD j 0) default) ((knA x.1).getD (o.getD j 0) [])∧(j+1<l.length→wV (l.getD (o.getD j 0) default) ((knA x.1).getD (o.getD j 0) [])=shN l (o.getD j 0)):=by
 have n0:=hd.n0
 have L:=h.LD hd hD
 obtain ⟨k1,k2⟩:=h.idx n0 hj
 rw [L.wV _ k1,k2]
 by_cases hl:j+1<l.length
 ·have:=h.sh j (by omega)
  unfold vXA at this
  have e:vX (l.getD (o.getD j 0) default).cuts (l.getD (o.getD j 0) default).dens (t (j+1))-vX (l.getD (o.getD j 0) default).cuts (l.getD (o.getD j 0) default).dens (t j)=shN l (o.getD j 0):=by grind
  rw [e]
  exact ⟨qBg,fun _=>rfl⟩
 ·have e:j=l.length-1:=by omega
  have:=h.last
  unfold vXA at this
  rw [e]
  refine ⟨by grind,fun hh=>by omega⟩
theorem yOf (hd:DK l) {x o t D'} (hD:1≤D'∧D'≤100000000) (h:KRun l (l.length-1) (List.range l.length) 0 (List.replicate l.length []) [] [] x o t D') {a0 a1 a2 a3 a4 a5} {i3:Int} {x0:List PV→List PV→List PV→Int→List PV→Int→Int→Int→Bool→Prop} {x1:Bool→Prop} (hx:∀ a b c d e f g i j,x0 a b c d e f g i j) :
  ∀ (r i n:Nat),i+r=l.length→r<n→yce a0 a1 a2 a3 a4 a5 yiF yfr x0 x1 n (cks l) (rspL (knA x.1)) (nts o) i3 (tabW l (knA x.1)) (t i).num (t i).den (i:Int)
 | 0,i,n+1,hi,hn=>by
  have hl:=h.len
  have n0:=hd.n0
  rw [yce,ylu,cbF (by omega)]
  exact hx _ _ _ _ _ _ _ _ _
 | r+1,i,n+1,hi,hn=>by
  have n0:=hd.n0;have n6:=hd.n6
  have ol:=h.len
  have hi':i<l.length:=by omega
  have e1:=wib (n:=(i:Int)+1) (by omega) (by omega)
  have ih:=yOf hd hD h (a0:=a0) (a1:=a1) (a2:=a2) (a3:=a3) (a4:=a4) (a5:=a5) (i3:=i3) (x0:=x0) (x1:=x1) hx r (i+1) n (by omega) (by omega)
  obtain ⟨k1,k2⟩:=h.idx n0 hi'
  have L:=h.LD hd hD
  have hA:=(L.at_ _ k1).2
  rw [k2] at hA
  have hAl:=L.l
  have hsh:=(h.share hd hD hi').2
  rw [yce]
  dsimp only [lt,Go.Pf.jn]
  rw [cbT (by rw [ylu];omega)]
  have io:i<o.length:=by omega
  simp (discharger:=omega) only [ylu,ya9,yno,ygh,qAe,asN io,ymE io,e1]
  generalize ha:o.getD i 0=a at *
  have rl:=yoD ((knA x.1).map (wV (l.getD a default)))
  rw [qAo] at rl
  have hR:List.getD (rspL (knA x.1)) a .nils=.data (rsp [(t i,t (i+1))]):=by rw [yoE (by omega),hA]
  have eb:∀ u v:Int,(!((u == u)&&((v == v)&&true)))=false:=fun u v=>by simp
  have hr1:(rsp [(t i,t (i+1))]).length=1:=rfl
  rw [asT (by omega),asT (by omega),cbF (by omega),asT (by omega),asT (by omega),cbF (by omega),asT (by omega),asT (by omega),asT (by omega),asT (by omega),yvJ k1,asD,datD,rl,cnF (by omega),asT (by omega),asT (by omega),asT (by omega),asT (by omega),hR,asD,datD,hr1,cnF (show ((1:Nat):Int)=1 from rfl),asT (by omega),asT (by omega),asT (by omega),asT (by omega),asD,asT (show (0:Int)<((1:Nat):Int) by decide)]
  show cbr (!(((t i).num ==(t i).num)&&((((t i).den:Int) ==((t i).den:Int))&&true))) _ _
  rw [eb,yac,asT (by omega),asT (by omega),asT (by omega),asT (by omega),asD,asT (show (0:Int)<((1:Nat):Int) by decide)]
  show asr true _
  rw [yaD]
  have fin:yce a0 a1 a2 a3 a4 a5 yiF yfr x0 x1 n (cks l) (rspL (knA x.1)) (nts o) i3 (tabW l (knA x.1)) (t (i+1)).num (t (i+1)).den ((i:Int)+1):=by
   exact ih
  by_cases hl:i+1<l.length
  ·rw [cbT (by omega),asT (by omega),asT (by omega),asT (by omega),asT (by omega),asD,asT (by omega),asT (by omega),asT (by omega),asT (by omega),ys1 (by rw [qAo];omega),asW,asT (by omega),asT (by omega),yPb k1 (hd.ok a k1) (by omega),yAl,yAm,yvK (by omega),hsh hl]
   show cbr (!(((shN l a).num ==(shN l a).num)&&((((shN l a).den:Int) ==((shN l a).den:Int))&&true))) _ _
   rw [eb,yac]
   exact fin
  ·rw [cbF (by omega)]
   show cbr false _ _
   rw [yac]
   exact fin
end
theorem yJe {l:List Ck} (hl:l.length≤9223372036854775807):yjZ (cks l) (fun b=>b=true):=by
 unfold yjZ ymA
 rw [yRk hl]
 by_cases hf:(!yyk l&&decide (yjj l 0=0))=true
 case neg =>
  rw [show (!yyk l&&decide (yjj l 0=0))=false by simpa using hf]
  show yeK _
  rw [yFp]
 rw [hf,show (!true)=false from rfl,yac]
 simp only [qAc,qBb,decide_eq_true_eq] at hf
 obtain ⟨hg,hz⟩:=hf
 obtain ⟨g1,g2,g3⟩:=yE8 hg
 have hd:=(ysZ hz).1
 have n0:=hd.n0;have n6:=hd.n6
 obtain ⟨x,o,t,D',he,hD,h⟩:=yPq hd
 have L:=h.LD hd hD
 have dv:=L.DV
 have hp:=h.pieces hd
 have ho:=h.ord
 obtain ⟨qs,q1,q2,q3⟩:=h.qs
 obtain ⟨k1,k2,k3,k4⟩:=dv.good (D:=D') hD (L.InA fun j hj=>h.inD j (by omega))
 have hsh:∀ a,a<l.length→yyo l a≤wV (l.getD a default) ((knA x.1).getD a []):=fun a ha=>by
  obtain ⟨m1,m2⟩:=h.at n0 ha
  have:=(h.share hd hD m1).1
  rw [m2] at this
  exact this
 rw [yHz g3 (by omega),he]
 obtain ⟨xp,xo,xl⟩:=x
 have ho:xo=o:=ho
 have q1:xl=qs:=q1
 subst ho
 subst q1
 show yds (cks l) (logs xl) _
 have hql:xl.length+1=l.length*(l.length+1) / 2:=by
  rw [show l.length-1+1=l.length by omega,show l.length-1+2=l.length+1 by omega] at q3
  exact q3
 have ol:xo.length=l.length:=by have:=h.len;omega
 have hq2000:xl.length≤2000:=by
  obtain e | e | e | e | e | e:l.length=1∨l.length=2∨l.length=3∨l.length=4∨l.length=5∨l.length=6:=by omega
  all_goals (rw [e] at hql;omega)
 rw [yPo hd hq2000 q2]
 have hp:pieces xp=rspL (knA xp):=hp
 rw [hp,k4,yQ1,cnF rfl,cnF rfl,cnF rfl,yrX,cnF rfl]
 dsimp only [lt]
 rw [ya9,ylu,ol]
 have en:((l.length:Int) !=(l.length:Int))=false:=by simp
 rw [en]
 have e2:IntKind.i64.wrap (IntKind.i64.wrap (Int.tdiv (IntKind.i64.wrap ((l.length:Int)*IntKind.i64.wrap ((l.length:Int)+1))) 2)-1)=(xl.length:Int):=by
  obtain e | e | e | e | e | e:l.length=1∨l.length=2∨l.length=3∨l.length=4∨l.length=5∨l.length=6:=by omega
  ·rw [e] at hql ⊢;rw [show xl.length=0 by omega];rfl
  ·rw [e] at hql ⊢;rw [show xl.length=2 by omega];rfl
  ·rw [e] at hql ⊢;rw [show xl.length=5 by omega];rfl
  ·rw [e] at hql ⊢;rw [show xl.length=9 by omega];rfl
  ·rw [e] at hql ⊢;rw [show xl.length=14 by omega];rfl
  ·rw [e] at hql ⊢;rw [show xl.length=20 by omega];rfl
 rw [e2,cnF rfl,yac,dv.Accept19 k1 k2 L.none L.nogap hsh L.one,yQ1,cnF rfl]
 show cbr ((((rspL (knA xp)).length:Nat):Int) != _) _ _
 rw [ygh,yno,L.l,cnF rfl,en]
 show cbr false _ _
 rw [yac]
 show ∃ n,_
 refine ⟨l.length+1,?_⟩
 have hl:=yOf hd hD h (a0:=yje) (a1:=yeK) (a2:=ycA) (a3:=yds) (a4:=ydx) (a5:=ycv) (i3:=yJd l (knA xp) (prtL l (knA xp) l.length) (gapD l (knA xp))) (x0:=fun _ _ _ _ _ _ _ _ _=>yeK fun c=>c=true) (x1:=fun b=>b=true) (fun _ _ _ _ _ _ _ _ _=>by rw [yFp]) l.length 0 (l.length+1) (by omega) (by omega)
 rw [h.t0] at hl
 exact hl
end Go.Pf.Vc
