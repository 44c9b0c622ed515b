/- Part 7. -/
import Derived.Test.YtoinjplollnohaaGreatTuW6
open Go.IntKind (i64 u8 u64)
open List (length getD take drop replicate set map isEmpty)
noncomputable section
namespace Go.Pf.Vc
open Go Go.Pf
set_option maxRecDepth 100000
set_option maxHeartbeats 1000000
section
variable {l:List Ck}
theorem ySw (hd:DK l) (h3:l.length=3) {lg:List Qy} (hm:lg.length+10<2000) (K) :
  yap (aJ l) (aF lg) K=K (s3 l 0).1.num (s3 l 0).1.den (s3 l 0).2.num (s3 l 0).2.den (s3 l 1).1.num (s3 l 1).1.den (s3 l 1).2.num (s3 l 1).2.den (s3 l 2).1.num (s3 l 2).1.den (s3 l 2).2.num (s3 l 2).2.den
   (jL l) (bif tr3 l then (aU l).num else 0) (bif tr3 l then ((aU l).den:Int) else 0) (bif tr3 l then (c3 l).num else 0) (bif tr3 l then ((c3 l).den:Int) else 0) (o0 l:Int) (o1 l:Int) (o2 l:Int) (aJ l) (aF (lg++eP l)):=by
 obtain ⟨D,g⟩:=g3 hd h3;have h0:0<l.length:=by omega
 have h1:1<l.length:=by omega
 have h2:2<l.length:=by omega
 have D1:=g.D1;have v0:=(g.VQ hd h3 (i:=0) (by decide)).1;have v1:=(g.VQ hd h3 (i:=1) (by decide)).1;have i3:=In.r3 (totC (l.getD 0 default).cuts (l.getD 0 default).dens);have t0:=wK hd h0;have t12:=uD hd h0;have st:small (aQ l 0):=kE (D:=1) (In.int (by decide) _) ⟨by decide,by decide⟩ (by grind) (by grind);have st1:small (aQ l 1):=kE (D:=1) (In.int (by decide) _) ⟨by decide,by decide⟩ (by have:=wK hd h1;grind) (uD hd h1);have sa:small (aQ l 0*r13):=kE i3.1 ⟨by decide,by decide⟩ (by rw [gE];show -12000≤aQ l 0*(1/3);grind) (by rw [gE];show aQ l 0*(1/3)≤12000;grind);have sb:small (aQ l 0*cY):=kE i3.2 ⟨by decide,by decide⟩ (by rw [fU];show -12000≤aQ l 0*(2/3);grind) (by rw [fU];show aQ l 0*(2/3)≤12000;grind);have th0:=fun K=>yNv hd h0 (q:=0) (v:=aQ l 0) v0.s1 gQ (by have:=g.a0;have:=g.ab;have:=g.bl;grind) st sa sb (by rw [gE];grind) (by rw [fU];grind) g.mA g.mB (lg:=lg) (by omega) K
 have eA:A3 l=dN l 0 0 (aQ l 0*r13):=by unfold A3;rfl
 have eB:B3 l=dN l 0 0 (aQ l 0*cY):=by unfold B3;rfl
 rw [← eA,← eB] at th0;have th:∀ K,yai (aJ l) (aF lg) 0 0 1 (aQ l 0).num (aQ l 0).den K=K (A3 l).num (A3 l).den (B3 l).num (B3 l).den (aJ l) (aF ((lg++[eI 0 0 (aQ l 0*r13) (A3 l)])++[eI 0 0 (aQ l 0*cY) (B3 l)])):=th0;have tt0:=fun K=>yQr hd h0 (lg:=aF lg) (by rw [xS];omega) K
 have tt0:∀ K,yaK (aJ l) (aF lg) 0 K=K (aQ l 0).num (aQ l 0).den (aJ l) (aF lg):=tt0;unfold yap Xs;dsimp only [lt,Go.Pf.jn];rw [yNu,iE,aI (by omega),nI h0,eO,mT,yNu,tt0,th];refine (yS4 hd h1 (s:=(0,A3 l)) (t:=(A3 l,B3 l)) v0 v1 (lg:=(lg++[eI 0 0 (aQ l 0*r13) (A3 l)])++[eI 0 0 (aQ l 0*cY) (B3 l)]) (by simp only [cR,eQ];omega) _ _ _ _ _ _ _ _ _ _ _ _ _ _ _ _ _ _ _ _ ).trans ?_;have v2:=(g.VQ hd h3 (i:=2) (by decide)).1;have w0:small (vS l 1 (0,A3 l))∧0≤vS l 1 (0,A3 l)∧vS l 1 (0,A3 l)≤12000:=pD hd h3 (i:=0) (by decide);have w1:small (vS l 1 (A3 l,B3 l))∧0≤vS l 1 (A3 l,B3 l)∧vS l 1 (A3 l,B3 l)≤12000:=pD hd h3 (i:=1) (by decide);have w2:small (vS l 1 (B3 l,aT l))∧0≤vS l 1 (B3 l,aT l)∧vS l 1 (B3 l,aT l)≤12000:=pD hd h3 (i:=2) (by decide);have tt1:=fun K=>yQr hd h1 (lg:=aF (lg++iH l)) (by rw [xS,cR];show lg.length+4≤2000;omega) K
 have eT:aQ l 1-vS l 1 (0,A3 l)-vS l 1 (A3 l,B3 l)=vS l 1 (B3 l,aT l):=by rw [← Am hd h1];show cI l 1 (aT l)-cI l 1 0-(cI l 1 (A3 l)-cI l 1 0)-(cI l 1 (B3 l)-cI l 1 (A3 l))=cI l 1 (aT l)-cI l 1 (B3 l);grind
 have e1:aQ l 1-vS l 1 (0,A3 l)=vS l 1 (A3 l,B3 l)+vS l 1 (B3 l,aT l):=by grind
 have i1:In D (aQ l 1-vS l 1 (0,A3 l)):=(In.int D1.1 _).sub (xV D1.1 (g.VQ hd h3 (i:=0) (by decide)).2);have s1:small (aQ l 1-vS l 1 (0,A3 l)):=kE i1 ⟨D1.1,by omega⟩ (by grind) (by have:=uD hd h1;grind);have sub0:∀ K,yaX (aQ l 1).num (aQ l 1).den (aC (aD ((bP [vS l 1 (0,A3 l),vS l 1 (A3 l,B3 l)]).getD 0 .nils) 0)) (aC (aD ((bP [vS l 1 (0,A3 l),vS l 1 (A3 l,B3 l)]).getD 0 .nils) 1)) K=K (aQ l 1-vS l 1 (0,A3 l)).num (aQ l 1-vS l 1 (0,A3 l)).den 0:=fun K=>
  (DH st1 w0.1 K).trans (by rw [jP,Tu s1])
 have sub1:∀ K,yaX (aQ l 1-vS l 1 (0,A3 l)).num (aQ l 1-vS l 1 (0,A3 l)).den (aC (aD ((bP [vS l 1 (0,A3 l),vS l 1 (A3 l,B3 l)]).getD 1 .nils) 0)) (aC (aD ((bP [vS l 1 (0,A3 l),vS l 1 (A3 l,B3 l)]).getD 1 .nils) 1)) K=K (vS l 1 (B3 l,aT l)).num (vS l 1 (B3 l,aT l)).den 0:=fun K=>
  (DH s1 w1.1 K).trans (by rw [eT,jP,Tu w2.1])
 have eV:bP [vS l 1 (0,A3 l),vS l 1 (A3 l,B3 l)]++[.agg [.int .i64 (vS l 1 (B3 l,aT l)).num,.int .i64 (vS l 1 (B3 l,aT l)).den]]=bP (cN l):=rfl;have vs:∀ i,i<3→small ((cN l).getD i 0):=fun i hi=>(pD hd h3 hi).1
 have hp:p3 l<3:=Ao l;have hq:q3 l<3∧q3 l≠p3 l:=KA l;have pA:∀ K,yau (bP (cN l)) [.int .i64 0,.int .i64 1,.int .i64 2] K=K (p3 l:Nat):=fun K=>by unfold p3;exact YP rfl vs K
 have pO:∀ K,yau (bP (cN l)) (fT (dX (p3 l))) K=K (q3 l:Nat):=fun K=>by unfold q3;exact yNw rfl vs hp K
 have eL:lg++[eI 0 0 (aQ l 0*r13) (A3 l)]++[eI 0 0 (aQ l 0*cY) (B3 l)]++[bG l 1 (0,A3 l).fst (0,A3 l).snd]++[bG l 1 (A3 l,B3 l).fst (A3 l,B3 l).snd]=lg++iH l:=by unfold iH;simp only [jE]
 have tt1:∀ K,yaK (aJ l) (aF (lg++iH l)) 1 K=K (aQ l 1).num (aQ l 1).den (aJ l) (aF (lg++iH l)):=tt1;rw [eL,tt1,sub0,oC,sub1,oC,eV,jS,pA,GK hp,pO];have hl:(cN l).length=3:=rfl;have gp:getD (bP (cN l)) (0+(((p3 l:Nat):Int)).toNat) .nils=dC ((cN l).getD (p3 l) 0):=by rw [cP,kI,xT (by omega)]
 have gq:getD (bP (cN l)) (0+(((q3 l:Nat):Int)).toNat) .nils=dC ((cN l).getD (q3 l) 0):=by rw [cP,kI,xT (by omega)]
 rw [gp,gq];have hlp:(bP (cN l)).length=3:=rfl;have hlp':∀ x:PV,(set (bP (cN l)) (0+(((p3 l:Nat):Int)).toNat) x).length=3:=fun x=>by rw [sR];rfl
 have hc:(!((aC (aD (dC ((cN l).getD (p3 l) 0)) 0)==aC (aD (dC ((cN l).getD (q3 l) 0)) 0))&&((aC (aD (dC ((cN l).getD (p3 l) 0)) 1)==aC (aD (dC ((cN l).getD (q3 l) 0)) 1))&&true)))=tr3 l:=by rw [yQv,← yRN];rfl
 rw [hlp,hc];have V:=fun i hi=>((sM hd h3).choose_spec.2 i hi:VQ l (s3 l i)∧_).1
 have u0:=V 0 (by decide);have u1:=V 1 (by decide);have u2:=V 2 (by decide);have hw:∀ i,i<3→small ((uE l).getD i 0):=fun i hi=>by
  have h:=V i hi;obtain ⟨D,D1,iD⟩:=h.D;have e:(uE l).getD i 0=vS l 2 (s3 l i):=by
   unfold uE;rw [Pe];obtain rfl | rfl | rfl:i=0∨i=1∨i=2:=by omega
   all_goals rfl
  obtain ⟨b1,b2⟩:=GM hd h2 h.z h.le h.len;have b3:=uD hd h2;obtain ⟨D',D1',iD'⟩:=sM hd h3;rw [e];exact kE (xV D1'.1 (iD' i hi).2) ⟨D1'.1,by omega⟩ (by grind) (by grind)
 have ho2:o2 l<3:=wL l;have hvs:∀ i,i<3→small ((dZ l).getD i 0):=fun i hi=>by
  unfold dZ
  cases tr3 l with
  | false=>exact vs i hi
  | true=>
   rw [cond_true]
   by_cases e:i=p3 l
   ·rw [e,dK,uG (by omega)];exact vs _ hq.1
   ·rw [dK,qZ (fun h=>e h.symm),← dK];exact vs i hi
 have hvl:(dZ l).length=3:=by
  unfold dZ
  cases tr3 l with
  | false=>rfl
  | true=>rw [cond_true,sR];rfl
 have ho1:=Ap l;have hwl:(uE l).length=3:=by unfold uE;rw [Pe];rfl
 have pW:∀ K,yau (bP (uE l)) [.int .i64 0,.int .i64 1,.int .i64 2] K=K (o2 l:Nat):=fun K=>by unfold o2;exact YP hwl hw K
 have pS:∀ K,yau (bP (dZ l)) (fT (dX (o2 l))) K=K (pkO (dZ l) (o2 l):Nat):=fun K=>yNw hvl hvs ho2 K
 cases htr:tr3 l with
 | false=>
  rw [aV]
  repeat (refine (cW (by first | exact Os (by omega) | rfl)).trans ?_)
  have z:S3 l=P3 l:=by unfold S3;rw [htr];rfl
  have z0:s3 l 0=(0,A3 l):=by unfold s3;rw [z];rfl
  have z1:s3 l 1=(A3 l,B3 l):=by unfold s3;rw [z];rfl
  have z2:s3 l 2=(B3 l,aT l):=by unfold s3;rw [z];rfl
  refine (yRM hd h2 (s:=(0,A3 l)) (t:=(A3 l,B3 l)) (u:=(B3 l,aT l)) v0 v1 v2 (lg:=lg++iH l) (by rw [cR];show lg.length+4+3<2000;omega) _ _ _ _ _ _ _ _ _).trans ?_;have eW:bP [vS l 2 (0,A3 l),vS l 2 (A3 l,B3 l),vS l 2 (B3 l,aT l)]=bP (uE l):=by unfold uE;rw [z];rfl
  have e1':o1 l=pkO (dZ l) (o2 l):=by rw [GO,htr];rfl
  have eT3:take 3 (bP (cN l))=bP (dZ l):=by unfold dZ;rw [htr];rfl
  rw [eW];rw [jS];rw [pW];rw [GK ho2];rw [eT3];rw [pS];rw [aP (by decide)];rw [aV];rw [← e1'];rw [YM ho1.1 ho2 ho1.2]
  iterate 6 refine (cW (by first | rfl | exact Os (by omega))).trans ?_
  have eG:lg++iH l++[bG l 2 (0,A3 l).fst (0,A3 l).snd]++[bG l 2 (A3 l,B3 l).fst (A3 l,B3 l).snd]++[bG l 2 (B3 l,aT l).fst (B3 l,aT l).snd]=lg++eP l:=by unfold eP BI;rw [htr,z0,z1,z2,cond_false,wR];simp only [jE]
  have e5:∀ x:Nat,aC (getD (fT [x]) 0 .nils)=(x:Int):=fun _=>rfl
  have e6:jL l=-1:=by unfold jL;rw [htr];rfl
  have e7:o0 l=3-o1 l-o2 l:=by unfold o0;rfl
  rw [eG,e5,e6,z0,z1,z2,e7];rfl
 | true=>
  rw [aY];obtain ⟨D',C⟩:=sK hd h3;have sp:=pD hd h3 hp;have sq:=pD hd h3 hq.1;have subO:∀ K,yaX (aC (aD (dC ((cN l).getD (p3 l) 0)) 0)) (aC (aD (dC ((cN l).getD (p3 l) 0)) 1)) (aC (aD (dC ((cN l).getD (q3 l) 0)) 0)) (aC (aD (dC ((cN l).getD (q3 l) 0)) 1)) K=K (cB l).num (cB l).den 0:=fun K=>(DH sp.1 sq.1 K).trans (by rw [← DV,jP,Tu C.so])
  have mk:∀ K,yaH (aJ l) (aF (lg++iH l)) 1 (aU l).num (aU l).den (cB l).num (cB l).den K=K (c3 l).num (c3 l).den (aJ l) (aF (lg++iH l++[eI 1 (aU l) (cB l) (c3 l)])):=fun K=>by
   obtain ⟨E,_,m⟩:=C.m;rw [GN];have w:=(g.VQ hd h3 hp).1;exact YG hd h1 (by rw [nJ];exact w.s1) (by rw [nJ];exact w.z) (by rw [nJ];exact nL w.le w.len) C.so C.o0 m (by rw [cR];show lg.length+4<2000;omega) K
  have eS:set (bP (cN l)) (0+(((p3 l:Nat):Int)).toNat) (.agg [.int .i64 (aC (aD (dC ((cN l).getD (q3 l) 0)) 0)),.int .i64 (aC (aD (dC ((cN l).getD (q3 l) 0)) 1))])=bP (dZ l):=by unfold dZ;rw [htr,cond_true,cP,kI];unfold bP;rw [List.map_set];rfl
  rw [subO,oC,eS];rcases (show p3 l=0∨p3 l=1∨p3 l=2 by omega) with hpe | hpe | hpe
  case' inl=>
   have hfr:aU l=0:=by rw [nJ,hpe];rfl
   have z0:s3 l 0=(c3 l,A3 l):=by rw [uF (by decide),htr,hpe];rfl
   have z1:s3 l 1=(A3 l,B3 l):=by rw [uF (by decide),htr,hpe];rfl
   have z2:s3 l 2=(B3 l,aT l):=by rw [uF (by decide),htr,hpe];rfl
   have mkp:∀ K,yaH (aJ l) (aF (lg++iH l)) 1 0 1 (cB l).num (cB l).den K=K (c3 l).num (c3 l).den (aJ l) (aF (lg++iH l++[eI 1 (aU l) (cB l) (c3 l)])):=fun K=>by
    have h:=mk K;rw [hfr] at h ⊢;exact h
   rw [hpe,aO (show ((0:Nat):Int)=0 from rfl),aO (show ((0:Nat):Int)=0 from rfl),mkp,aO (show ((0:Nat):Int)=0 from rfl)]
  case' inr.inl=>
   have hfr:aU l=A3 l:=by rw [nJ,hpe];rfl
   have z0:s3 l 0=(0,A3 l):=by rw [uF (by decide),htr,hpe];rfl
   have z1:s3 l 1=(c3 l,B3 l):=by rw [uF (by decide),htr,hpe];rfl
   have z2:s3 l 2=(B3 l,aT l):=by rw [uF (by decide),htr,hpe];rfl
   have mkp:∀ K,yaH (aJ l) (aF (lg++iH l)) 1 (A3 l).num (A3 l).den (cB l).num (cB l).den K=K (c3 l).num (c3 l).den (aJ l) (aF (lg++iH l++[eI 1 (aU l) (cB l) (c3 l)])):=fun K=>by
    have h:=mk K;rw [hfr] at h ⊢;exact h
   rw [hpe,aP (show ¬((1:Nat):Int)=0 by decide),aO (show ((1:Nat):Int)=1 from rfl),aP (show ¬((1:Nat):Int)=0 by decide),aO (show ((1:Nat):Int)=1 from rfl),mkp,aP (show ¬((1:Nat):Int)=0 by decide),aO (show ((1:Nat):Int)=1 from rfl)]
  case' inr.inr=>
   have hfr:aU l=B3 l:=by rw [nJ,hpe];rfl
   have z0:s3 l 0=(0,A3 l):=by rw [uF (by decide),htr,hpe];rfl
   have z1:s3 l 1=(A3 l,B3 l):=by rw [uF (by decide),htr,hpe];rfl
   have z2:s3 l 2=(c3 l,aT l):=by rw [uF (by decide),htr,hpe];rfl
   have mkp:∀ K,yaH (aJ l) (aF (lg++iH l)) 1 (B3 l).num (B3 l).den (cB l).num (cB l).den K=K (c3 l).num (c3 l).den (aJ l) (aF (lg++iH l++[eI 1 (aU l) (cB l) (c3 l)])):=fun K=>by
    have h:=mk K;rw [hfr] at h ⊢;exact h
   rw [hpe,aP (show ¬((2:Nat):Int)=0 by decide),aP (show ¬((2:Nat):Int)=1 by decide),aO (show ((2:Nat):Int)=2 from rfl),aP (show ¬((2:Nat):Int)=0 by decide),aP (show ¬((2:Nat):Int)=1 by decide),aO (show ((2:Nat):Int)=2 from rfl),mkp,aP (show ¬((2:Nat):Int)=0 by decide),aP (show ¬((2:Nat):Int)=1 by decide),aO (show ((2:Nat):Int)=2 from rfl)]
  all_goals
   rw [z0] at u0;rw [z1] at u1;rw [z2] at u2
   iterate 47 refine (cW (by first | exact Os (by omega) | rfl)).trans ?_
   refine (yRM hd h2 u0 u1 u2 (lg:=lg++iH l++[eI 1 (aU l) (cB l) (c3 l)]) (by simp only [cR,eQ];show lg.length+4+1+3<2000;omega) _ _ _ _ _ _ _ _ _).trans ?_;have eW:bP [vS l 2 (s3 l 0),vS l 2 (s3 l 1),vS l 2 (s3 l 2)]=bP (uE l):=by unfold uE;rw [Pe];rfl
   have eT3:take 3 (bP (dZ l))=bP (dZ l):=xY (by rw [sJ];omega);have eG:lg++iH l++[eI 1 (aU l) (cB l) (c3 l)]++[bG l 2 (s3 l 0).fst (s3 l 0).snd]++[bG l 2 (s3 l 1).fst (s3 l 1).snd]++[bG l 2 (s3 l 2).fst (s3 l 2).snd]=lg++eP l:=by unfold eP BI;rw [htr,cond_true];simp only [jE]
   rw [z0,z1,z2] at eW eG;have e5:∀ x:Nat,aC (getD (fT [x]) 0 .nils)=(x:Int):=fun _=>rfl
   have e6:jL l=((p3 l:Nat):Int):=by unfold jL;rw [htr];rfl
   have e7:o0 l=3-o1 l-o2 l:=by unfold o0;rfl
   have hlv:(bP (dZ l)).length=3:=by rw [sJ];exact hvl
   rw [eW,jS,pW,GK ho2,eT3,pS,aO (by decide)];rw [hpe] at e6
   by_cases hn:p3 l=o2 l
   ·have e1':o1 l=pkO (dZ l) (o2 l):=by
     rw [GO,htr,Os hn];rfl
    rw [hpe] at hn;rw [YQ hn,aV,← e1',YM ho1.1 ho2 ho1.2]
    iterate 6 refine (cW (by first | rfl | exact Os (by omega))).trans ?_
    rw [eG,e5,e6,z0,z1,z2,e7];rw [hfr];rfl
   ·have e1':o1 l=p3 l:=by
     rw [GO,htr,Pn hn];rfl
    rw [hpe] at hn e1';rw [YR hn,aY];have ot:=fun K=>YM ho1.1 ho2 ho1.2 K
    rw [e1'] at ot;rw [ot]
    iterate 6 refine (cW (by first | rfl | exact Os (by omega))).trans ?_
    rw [eG,e5,e6,z0,z1,z2,e7,e1'];rw [hfr];rfl
end
section
variable {l:List Ck}
theorem yRO (hd:DK l) {a:Nat} (ha:a<l.length) {s:RS} (hs:VQ l s) {lg:List Qy} (hm:lg.length+1<2000) {x0 x1} :
  (∃ n,yc7 yaz yad yai yau yam x0 x1 n (aJ l) (aF lg) (a:Int) [aM s] 1 0) =
  x1 (bP [vS l a s]) (aJ l) (aF ((lg)++[bG l a s.1 s.2])) (a:Int) [aM s] 1 1 false:=by
 rw [bR rfl (R:=fun n=>Jw yaz yad yai yau yam x1 n (bP [vS l a s]) (aJ l) (aF ((lg)++[bG l a s.1 s.2])) (a:Int) [aM s] 1 1) (fun n=>?_),
  bR rfl (R:=fun _=>x1 (bP [vS l a s]) (aJ l) (aF ((lg)++[bG l a s.1 s.2])) (a:Int) [aM s] 1 1 false) (fun n=>by kernel_rfl),cK]
 have e:yc7 yaz yad yai yau yam x0 x1 (n+1) (aJ l) (aF lg) (a:Int) [aM s] 1 0=yaz (aJ l) (aF (lg)) a s.1.num s.1.den s.2.num s.2.den (fun c g y0 y1 y2=>yad y0 y1 y2 fun r0 r1=>Jw yaz yad yai yau yam x1 n [.agg [.int .i64 r0,.int .i64 r1]] c g (a:Int) [aM s] 1 1):=by kernel_rfl
 rw [e,hs.val hd ha (by omega),oC];rfl
theorem yRP (hd:DK l) {a:Nat} (ha:a<l.length) {s t u:RS} (hs:VQ l s) (ht:VQ l t) (hu:VQ l u) {lg:List Qy} (hm:lg.length+3<2000) {x2 x3} (v:List PV) :
  (∃ n,yc8 yaz yad yai yau yam x2 x3 n v [aM s,aM t,aM u] (aJ l) (aF lg) (a:Int) 3 0) =
  x3 v [aM s,aM t,aM u] (bP [vS l a s,vS l a t,vS l a u]) (aJ l) (aF ((((lg)++[bG l a s.1 s.2])++[bG l a t.1 t.2])++[bG l a u.1 u.2])) (a:Int) 3 3 false:=by
 rw [bR rfl (R:=fun n=>wA yaz yad yai yau yam x3 n v [aM s,aM t,aM u] (bP [vS l a s]) (aJ l) (aF ((lg)++[bG l a s.1 s.2])) (a:Int) 3 1) (fun n=>?_),
  bR rfl (R:=fun n=>wA yaz yad yai yau yam x3 n v [aM s,aM t,aM u] (bP [vS l a s,vS l a t]) (aJ l) (aF (((lg)++[bG l a s.1 s.2])++[bG l a t.1 t.2])) (a:Int) 3 2) (fun n=>?_),
  bR rfl (R:=fun n=>wA yaz yad yai yau yam x3 n v [aM s,aM t,aM u] (bP [vS l a s,vS l a t,vS l a u]) (aJ l) (aF ((((lg)++[bG l a s.1 s.2])++[bG l a t.1 t.2])++[bG l a u.1 u.2])) (a:Int) 3 3) (fun n=>?_),
  bR rfl (R:=fun _=>x3 v [aM s,aM t,aM u] (bP [vS l a s,vS l a t,vS l a u]) (aJ l) (aF ((((lg)++[bG l a s.1 s.2])++[bG l a t.1 t.2])++[bG l a u.1 u.2])) (a:Int) 3 3 false) (fun n=>by kernel_rfl),cK]
 ·have e:wA yaz yad yai yau yam x3 (n+1) v [aM s,aM t,aM u] (bP [vS l a s,vS l a t]) (aJ l) (aF (((lg)++[bG l a s.1 s.2])++[bG l a t.1 t.2])) (a:Int) 3 2=yaz (aJ l) (aF (((lg)++[bG l a s.1 s.2])++[bG l a t.1 t.2])) a u.1.num u.1.den u.2.num u.2.den (fun c g y0 y1 y2=>yad y0 y1 y2 fun r0 r1=>wA yaz yad yai yau yam x3 n v [aM s,aM t,aM u] [dC (vS l a s),dC (vS l a t),.agg [.int .i64 r0,.int .i64 r1]] c g (a:Int) 3 3):=by kernel_rfl
  rw [e,hu.val hd ha (by simp only [cR,eQ];omega),oC];rfl
 ·have e:wA yaz yad yai yau yam x3 (n+1) v [aM s,aM t,aM u] (bP [vS l a s]) (aJ l) (aF ((lg)++[bG l a s.1 s.2])) (a:Int) 3 1=yaz (aJ l) (aF ((lg)++[bG l a s.1 s.2])) a t.1.num t.1.den t.2.num t.2.den (fun c g y0 y1 y2=>yad y0 y1 y2 fun r0 r1=>wA yaz yad yai yau yam x3 n v [aM s,aM t,aM u] [dC (vS l a s),.agg [.int .i64 r0,.int .i64 r1]] c g (a:Int) 3 2):=by kernel_rfl
  rw [e,ht.val hd ha (by rw [cR,eQ];omega),oC];rfl
 ·have e:yc8 yaz yad yai yau yam x2 x3 (n+1) v [aM s,aM t,aM u] (aJ l) (aF lg) (a:Int) 3 0=yaz (aJ l) (aF (lg)) a s.1.num s.1.den s.2.num s.2.den (fun c g y0 y1 y2=>yad y0 y1 y2 fun r0 r1=>wA yaz yad yai yau yam x3 n v [aM s,aM t,aM u] [.agg [.int .i64 r0,.int .i64 r1]] c g (a:Int) 3 1):=by kernel_rfl
  rw [e,hs.val hd ha (by omega),oC];rfl
theorem yS5 (hd:DK l) {a:Nat} (ha:a<l.length) {s t:RS} (hs:VQ l s) (ht:VQ l t) {lg:List Qy} (hm:lg.length+2<2000) {x6 x7} (v c1 c2:List PV) :
  (∃ n,yc9 yaz yad yai yau yam x6 x7 n v c1 c2 (aJ l) (aF lg) (a:Int) [aM s,aM t] 2 0) =
  x7 v c1 c2 (bP [vS l a s,vS l a t]) (aJ l) (aF (((lg)++[bG l a s.1 s.2])++[bG l a t.1 t.2])) (a:Int) [aM s,aM t] 2 2 false:=by
 rw [bR rfl (R:=fun n=>Bs yaz yad yai yau yam x7 n v c1 c2 (bP [vS l a s]) (aJ l) (aF ((lg)++[bG l a s.1 s.2])) (a:Int) [aM s,aM t] 2 1) (fun n=>?_),
  bR rfl (R:=fun n=>Bs yaz yad yai yau yam x7 n v c1 c2 (bP [vS l a s,vS l a t]) (aJ l) (aF (((lg)++[bG l a s.1 s.2])++[bG l a t.1 t.2])) (a:Int) [aM s,aM t] 2 2) (fun n=>?_),
  bR rfl (R:=fun _=>x7 v c1 c2 (bP [vS l a s,vS l a t]) (aJ l) (aF (((lg)++[bG l a s.1 s.2])++[bG l a t.1 t.2])) (a:Int) [aM s,aM t] 2 2 false) (fun n=>by kernel_rfl),cK]
 ·have e:Bs yaz yad yai yau yam x7 (n+1) v c1 c2 (bP [vS l a s]) (aJ l) (aF ((lg)++[bG l a s.1 s.2])) (a:Int) [aM s,aM t] 2 1=yaz (aJ l) (aF ((lg)++[bG l a s.1 s.2])) a t.1.num t.1.den t.2.num t.2.den (fun c g y0 y1 y2=>yad y0 y1 y2 fun r0 r1=>Bs yaz yad yai yau yam x7 n v c1 c2 [dC (vS l a s),.agg [.int .i64 r0,.int .i64 r1]] c g (a:Int) [aM s,aM t] 2 2):=by kernel_rfl
  rw [e,ht.val hd ha (by rw [cR,eQ];omega),oC];rfl
 ·have e:yc9 yaz yad yai yau yam x6 x7 (n+1) v c1 c2 (aJ l) (aF lg) (a:Int) [aM s,aM t] 2 0=yaz (aJ l) (aF (lg)) a s.1.num s.1.den s.2.num s.2.den (fun c g y0 y1 y2=>yad y0 y1 y2 fun r0 r1=>Bs yaz yad yai yau yam x7 n v c1 c2 [.agg [.int .i64 r0,.int .i64 r1]] c g (a:Int) [aM s,aM t] 2 1):=by kernel_rfl
  rw [e,hs.val hd ha (by omega),oC];rfl
@[irreducible] def had3 (l:List Ck):Nat:=if o2 l=p3 l then 2 else 1
@[irreducible] def not3 (l:List Ck):Nat:=if o2 l=p3 l then 1 else 2
def w3 (l:List Ck):Rat:=vS l (not3 l) (aU l,c3 l)
@[irreducible] def x3 (l:List Ck):Rat:=dN l (not3 l) (aU l) (w3 l*r13)
@[irreducible] def y3 (l:List Ck):Rat:=dN l (not3 l) (aU l) (w3 l*cY)
def K3 (l:List Ck):List RS:=[(aU l,x3 l),(x3 l,y3 l),(y3 l,c3 l)]
def u3 (l:List Ck):List Rat:=(K3 l).map (vS l (had3 l))
@[irreducible] def one3 (l:List Ck):Nat:=pk (u3 l)
def k3 (l:List Ck) (i:Nat):RS:=(K3 l).getD i (0,0)
def bQ (l:List Ck) (i:Nat):Nat:=(dX (one3 l)).getD i 0
def z3 (l:List Ck):List Rat:=[vS l 0 (k3 l (bQ l 0)),vS l 0 (k3 l (bQ l 1))]
@[irreducible] def kk3 (l:List Ck):Nat:=lV (fun i=>(z3 l).getD i 0) 0 [0,1]
def bY (l:List Ck) (a:Nat):RS:=if a=had3 l then k3 l (one3 l) else if a=0 then k3 l (bQ l (kk3 l)) else k3 l (bQ l (1-kk3 l))
theorem yrf (l:List Ck):(had3 l=1∧not3 l=2)∨(had3 l=2∧not3 l=1):=by
 unfold had3 not3
 by_cases h:o2 l=p3 l
 ·rw [Tu h,Tu h];exact .inr ⟨rfl,rfl⟩
 ·rw [Zv h,Zv h];exact .inl ⟨rfl,rfl⟩
theorem wM (l:List Ck):one3 l<3:=by unfold one3;exact YN _
theorem Pg (l:List Ck):bQ l 0<3∧bQ l 1<3∧bQ l 0≠one3 l∧bQ l 1≠one3 l∧bQ l 0≠bQ l 1:=by
 have h:=wM l;unfold bQ;obtain e | e | e:one3 l=0∨one3 l=1∨one3 l=2:=by omega
 all_goals (rw [e];decide)
theorem YS (l:List Ck):kk3 l<2:=by
 obtain ⟨h,_⟩:=GJ (v:=fun i=>(z3 l).getD i 0) [0,1] 0;unfold kk3;rcases h with h | h
 ·rw [h];decide
 ·simp only [qAo,Eh,or_false] at h;omega
structure X3 (l:List Ck) (D:Int):Prop where
 D1:1≤D∧D≤3000000
 w0:0≤w3 l
 ws:small (w3 l)
 w1:small (w3 l*r13)
 w2:small (w3 l*cY)
 m1:∃ E:Int,MkV l (not3 l) (aU l) (w3 l*r13) E
 m2:∃ E:Int,MkV l (not3 l) (aU l) (w3 l*cY) E
 fx:aU l≤x3 l
 xy:x3 l≤y3 l
 yc:y3 l≤c3 l
 v1:cI l (not3 l) (x3 l)=cI l (not3 l) (aU l)+w3 l*r13
 v2:cI l (not3 l) (y3 l)=cI l (not3 l) (aU l)+w3 l*cY
 vq:∀ i,i<3→VQ l (k3 l i)∧In D (k3 l i).1∧In D (k3 l i).2
 iP:∀ i,i<3→In D ((P3 l).getD i (0,0)).1∧In D ((P3 l).getD i (0,0)).2
end
section
variable {l:List Ck}
theorem YT {a:Nat} {q v:Rat} (h:v=0):dN l a q v=q:=by unfold dN mrkC;rw [Tu h];rfl
theorem In.t13 {D:Int} (hD:1≤D) {q:Rat} (h:In D q):In (3*D) (q*r13)∧In (3*D) (q*cY):=by
 have h1:=h.div hD (d:=3) (by decide);have h2:=(h.mulI 2).div hD (d:=3) (by decide);constructor
 ·have e:q*r13=q/((3:Int):Rat):=by rw [gE];have:((3:Int):Rat)=3:=rfl;rw [this];grind
  rw [e];exact h1
 ·have e:q*cY=q*((2:Int):Rat)/((3:Int):Rat):=by rw [fU];have h3:((3:Int):Rat)=3:=rfl;have h2:((2:Int):Rat)=2:=rfl;rw [h3,h2];grind
  rw [e];exact h2
theorem Ph (hd:DK l) (h3:l.length=3):∃ D,X3 l D:=by
 obtain ⟨D,C⟩:=sK hd h3;obtain ⟨D0,g⟩:=g3 hd h3;have hp:=Ao l;obtain ⟨vp,_⟩:=g.VQ hd h3 hp;have hn:not3 l<l.length:=by rcases yrf l with h | h<;>omega
 have D1:=C.D1;have hl:=(hd.ok 0 (by omega)).len0;have hL:aT l≤1000:=qX.2 hl.2;have fz:0≤aU l:=by rw [nJ];exact vp.z
 have cl:c3 l≤aT l:=nL C.hi vp.len;have fc:=C.lo;have iF:In D (aU l):=by rw [nJ];exact (C.iP _ hp).1
 have iC:=C.iC;have iw:In D (w3 l):=xV D1.1 (s:=(aU l,c3 l)) ⟨iF,iC⟩;have wb:=GM hd hn (s:=(aU l,c3 l)) fz fc cl;have w0:0≤w3 l:=wb.1;have w12:w3 l≤12000:=nL wb.2 (uD hd hn);have t:=iw.t13 D1.1;have e3:∀ q:Rat,q*r13=q/3∧q*cY=2*q/3:=fun q=>by rw [gE,fU];constructor<;>grind
 have wv:cI l (not3 l) (c3 l)=cI l (not3 l) (aU l)+w3 l:=by unfold w3 vS;show _=cI l (not3 l) (aU l)+(cI l (not3 l) (c3 l)-cI l (not3 l) (aU l));grind
 have ml:=GL hd hn cl;have m1:=Ks hd hn (q:=aU l) (v:=w3 l*r13) fz (nL fc cl) (by rw [(e3 _).1];grind) (by rw [(e3 _).1];grind) (D:=3*D) (by omega) (by omega) (iF.up D1.1 (by decide)) t.1;have m2:=Ks hd hn (q:=aU l) (v:=w3 l*cY) fz (nL fc cl) (by rw [(e3 _).2];grind) (by rw [(e3 _).2];grind) (D:=3*D) (by omega) (by omega) (iF.up D1.1 (by decide)) t.2;have ex:x3 l=dN l (not3 l) (aU l) (w3 l*r13):=by unfold x3;rfl
 have ey:y3 l=dN l (not3 l) (aU l) (w3 l*cY):=by unfold y3;rfl
 obtain ⟨d,hd1,k1⟩:=m1.d;obtain ⟨e,he1,k2⟩:=m2.d;have v1:=m1.eqv;have v2:=m2.eqv;have fx:=m1.ge;rw [← ex] at k1 v1 fx;rw [← ey] at k2 v2;have xy:x3 l≤y3 l:=by
  by_cases hz:w3 l=0
  ·rw [ex,ey,hz,YT (by rw [gE];grind),YT (by rw [fU];grind)];exact gQ
  ·refine mE (Kz hd hn ?_);rw [v1,v2,(e3 _).1,(e3 _).2];grind
 have yc:y3 l≤c3 l:=by
  by_cases hz:w3 l=0
  ·rw [ey,hz,YT (by rw [fU];grind)];exact fc
  ·refine mE (Kz hd hn ?_);rw [v2,wv,(e3 _).2];grind
 have de:1*1≤d*e:=mC hd1.1 he1.1 (by omega) (by omega);have de2:d*e≤12*12:=mC hd1.2 he1.2 (by omega) (by omega);have E1:1*1≤d*e*(3*D):=mC (by omega) (by omega) (by omega) (by omega);have E2:d*e*(3*D)≤144*(3*5184):=mC (by omega) (by omega) (by omega) (by omega);have jx:In (d*e*(3*D)) (x3 l):=In.D (by rw [Int.mul_comm d e,Int.mul_assoc]) ((k1.up (by
  have:1*1≤d*(3*D):=mC hd1.1 (by omega) (by omega) (by omega);omega) he1.1):In (e*(d*(3*D))) _)
 have jy:In (d*e*(3*D)) (y3 l):=In.D (by rw [Int.mul_assoc]) ((k2.up (by
  have:1*1≤e*(3*D):=mC he1.1 (by omega) (by omega) (by omega);omega) hd1.1):In (d*(e*(3*D))) _)
 have up:∀ {q:Rat},In D q→In (d*e*(3*D)) q:=fun h=>(h.up D1.1 (d:=3) (by decide)).up (by omega) (by omega)
 have sm:∀ {q:Rat},In (d*e*(3*D)) q→0≤q→q≤1000→small q:=fun h h0 h1=>kE h ⟨by omega,by omega⟩ (by grind) (by grind)
 have x0:0≤x3 l:=nL fz fx;have y0:0≤y3 l:=nL x0 xy;have yl:y3 l≤aT l:=nL yc cl;have xl:x3 l≤aT l:=nL xy yl;have sF:=sm (up iF) fz (by grind);have sX:=sm jx x0 (by grind);have sY:=sm jy y0 (by grind);have sC:=sm (up iC) (by grind) (by grind);refine ⟨d*e*(3*D),⟨by omega,by omega⟩,w0,kE iw ⟨D1.1,by omega⟩ (by grind) w12,kE t.1 ⟨by omega,by omega⟩ (by rw [(e3 _).1];grind) (by rw [(e3 _).1];grind),kE t.2 ⟨by omega,by omega⟩ (by rw [(e3 _).2];grind) (by rw [(e3 _).2];grind),⟨_,m1⟩,⟨_,m2⟩,fx,xy,yc,v1,v2,fun i hi=>?_,fun i hi=>⟨up (C.iP i hi).1,up (C.iP i hi).2⟩⟩;obtain rfl | rfl | rfl:i=0∨i=1∨i=2:=by omega
 ·exact ⟨⟨sF,sX,fz,fx,xl,_,⟨by omega,by omega⟩,up iF,jx⟩,up iF,jx⟩
 ·exact ⟨⟨sX,sY,x0,xy,yl,_,⟨by omega,by omega⟩,jx,jy⟩,jx,jy⟩
 ·exact ⟨⟨sY,sC,y0,yc,cl,_,⟨by omega,by omega⟩,jy,up iC⟩,jy,up iC⟩
end
set_option maxHeartbeats 1000000
section
variable {l:List Ck}
def xW (l:List Ck):List Qy:=[bG l (not3 l) (aU l) (c3 l)]++[eI (not3 l) (aU l) (w3 l*r13) (x3 l)]++[eI (not3 l) (aU l) (w3 l*cY) (y3 l)]++[bG l (had3 l) (aU l) (x3 l)]++[bG l (had3 l) (x3 l) (y3 l)]++[bG l (had3 l) (y3 l) (c3 l)]++[bG l 0 (k3 l (bQ l 0)).1 (k3 l (bQ l 0)).2]++[bG l 0 (k3 l (bQ l 1)).1 (k3 l (bQ l 1)).2]
theorem yRw (hd:DK l) (h3:l.length=3) {lg:List Qy} (hm:lg.length+10<2000) (i0 i1 i2 i3 i4 i5 i6 i7 i8 i9 i10 i11 b0 b1:Int) (K) :
  yal (aJ l) (aF lg) i0 i1 i2 i3 i4 i5 i6 i7 i8 i9 i10 i11 (p3 l:Int) (aU l).num (aU l).den (c3 l).num (c3 l).den b0 b1 (o2 l:Int) K =
  K (bY l 0).1.num (bY l 0).1.den (bY l 0).2.num (bY l 0).2.den (bY l 1).1.num (bY l 1).1.den (bY l 1).2.num (bY l 1).2.den (bY l 2).1.num (bY l 2).1.den (bY l 2).2.num (bY l 2).2.den (aJ l) (aF (lg++xW l)):=by
 obtain ⟨D,X⟩:=Ph hd h3;obtain ⟨D',C⟩:=sK hd h3;obtain ⟨D0,g⟩:=g3 hd h3;have h0:0<l.length:=by omega
 have h1:1<l.length:=by omega
 have h2:2<l.length:=by omega
 have D1:=X.D1;have v0:VQ l (aU l,x3 l)∧_:=X.vq 0 (by decide);have v1:VQ l (x3 l,y3 l)∧_:=X.vq 1 (by decide);have v2:VQ l (y3 l,c3 l)∧_:=X.vq 2 (by decide);have vO:VQ l (aU l,c3 l):=⟨v0.1.s1,v2.1.s2,v0.1.z,C.lo,v2.1.len,D,⟨D1.1,by omega⟩,v0.2.1,v2.2.2⟩;have sz:∀ {a:Nat} {s:RS},a<l.length→VQ l s∧In D s.1∧In D s.2→small (vS l a s):=fun {a s} ha h=>by
  obtain ⟨k1,k2⟩:=GM hd ha h.1.z h.1.le h.1.len;have k3:=uD hd ha;exact kE (xV D1.1 h.2) ⟨D1.1,by omega⟩ (by grind) (by grind)
 have hk:=YS l;have hone:=wM l;have ex:x3 l=dN l (not3 l) (aU l) (w3 l*r13):=by unfold x3;rfl
 have ey:y3 l=dN l (not3 l) (aU l) (w3 l*cY):=by unfold y3;rfl
 have th0:∀ {lg':List Qy},lg'.length+2<2000→∀ K,yai (aJ l) (aF lg') (not3 l:Nat) (aU l).num (aU l).den (w3 l).num (w3 l).den K=K (x3 l).num (x3 l).den (y3 l).num (y3 l).den (aJ l) (aF ((lg'++[eI (not3 l) (aU l) (w3 l*r13) (x3 l)])++[eI (not3 l) (aU l) (w3 l*cY) (y3 l)])):=fun {lg'} hm' K=>by
  obtain ⟨E1,m1⟩:=X.m1;obtain ⟨E2,m2⟩:=X.m2;have hn:not3 l<l.length:=by rcases yrf l with h | h<;>omega
  have r1:0≤w3 l*r13:=by have:=X.w0;rw [gE];grind
  have r2:0≤w3 l*cY:=by have:=X.w0;rw [fU];grind
  have:=yNv hd hn (q:=aU l) (v:=w3 l) v0.1.s1 v0.1.z (nL vO.le vO.len) X.ws X.w1 X.w2 r1 r2 m1 m2 (lg:=lg') hm' K;rw [← ex,← ey] at this;exact this
 have pU:∀ K,yau (bP (u3 l)) [.int .i64 0,.int .i64 1,.int .i64 2] K=K (one3 l:Nat):=fun K=>by
  have hh:had3 l<l.length:=by rcases yrf l with h | h<;>omega
  unfold one3;refine YP rfl (fun i hi=>?_) K;obtain rfl | rfl | rfl:i=0∨i=1∨i=2:=by omega
  ·exact sz hh v0
  ·exact sz hh v1
  ·exact sz hh v2
 have pK:∀ K,yau (bP (z3 l)) [.int .i64 0,.int .i64 1] K=K (kk3 l:Nat):=fun K=>by
  obtain ⟨j0,j1,_⟩:=Pg l;unfold kk3;refine YH (vs:=z3 l) (i0:=0) (J:=[1]) (fun i hi=>?_) (fun i hi=>?_) (by decide) K
  ·have hi:i<2:=hi;obtain rfl | rfl:i=0∨i=1:=by omega
   ·exact sz h0 (X.vq _ j0)
   ·exact sz h0 (X.vq _ j1)
  ·show i<2;simp only [qAo,Eh,or_false] at hi;omega
 have eG:lg++xW l=lg++[bG l (not3 l) (aU l) (c3 l)]++[eI (not3 l) (aU l) (w3 l*r13) (x3 l)]++[eI (not3 l) (aU l) (w3 l*cY) (y3 l)]++[bG l (had3 l) (aU l) (x3 l)]++[bG l (had3 l) (x3 l) (y3 l)]++[bG l (had3 l) (y3 l) (c3 l)]++[bG l 0 (k3 l (bQ l 0)).1 (k3 l (bQ l 0)).2]++[bG l 0 (k3 l (bQ l 1)).1 (k3 l (bQ l 1)).2]:=by unfold xW;simp only [jE]
 obtain ⟨j0,j1,_⟩:=Pg l;unfold yal Xv;dsimp only [lt,Go.Pf.jn];rcases yrf l with ⟨eh,en⟩ | ⟨eh,en⟩
 case' inl=>
  have hb:(((o2 l:Nat):Int) ==((p3 l:Nat):Int))=false:=by
   unfold had3 at eh
   by_cases h:o2 l=p3 l
   ·rw [Tu h] at eh;omega
   ·simp;omega
  have ew:w3 l=vS l 2 (aU l,c3 l):=by unfold w3;rw [en]
  have eu:u3 l=[vS l 1 (aU l,x3 l),vS l 1 (x3 l,y3 l),vS l 1 (y3 l,c3 l)]:=by unfold u3;rw [eh];rfl
  rw [hb,aV];refine (yRO hd h2 (s:=(aU l,c3 l)) vO (lg:=lg) (by omega)).trans ?_;have th:∀ K,yai (aJ l) (aF (lg++[bG l 2 (aU l,c3 l).1 (aU l,c3 l).2])) 2 (aU l).num (aU l).den (aC (aD (getD (bP [vS l 2 (aU l,c3 l)]) 0 .nils) 0)) (aC (aD (getD (bP [vS l 2 (aU l,c3 l)]) 0 .nils) 1)) K=K (x3 l).num (x3 l).den (y3 l).num (y3 l).den (aJ l) (aF (((lg++[bG l 2 (aU l,c3 l).1 (aU l,c3 l).2])++[eI 2 (aU l) (w3 l*r13) (x3 l)])++[eI 2 (aU l) (w3 l*cY) (y3 l)])):=fun K=>by
   have h:=th0 (lg':=lg++[bG l 2 (aU l,c3 l).1 (aU l,c3 l).2]) (by rw [cR,eQ];omega) K;rw [en] at h;rw [← ew];exact h
  rw [th]
  iterate 5 refine (cW (by first | rfl | exact Os (by omega))).trans ?_
  refine (yRP hd h1 (s:=(aU l,x3 l)) (t:=(x3 l,y3 l)) (u:=(y3 l,c3 l)) v0.1 v1.1 v2.1 (lg:=((lg++[bG l 2 (aU l,c3 l).1 (aU l,c3 l).2])++[eI 2 (aU l) (w3 l*r13) (x3 l)])++[eI 2 (aU l) (w3 l*cY) (y3 l)]) (by simp only [cR,eQ];omega) _).trans ?_;rw [← eu,jS,pU]
 case' inr=>
  have hb:(((o2 l:Nat):Int) ==((p3 l:Nat):Int))=true:=by
   unfold had3 at eh
   by_cases h:o2 l=p3 l
   ·rw [h];simp
   ·rw [Zv h] at eh;omega
  have ew:w3 l=vS l 1 (aU l,c3 l):=by unfold w3;rw [en]
  have eu:u3 l=[vS l 2 (aU l,x3 l),vS l 2 (x3 l,y3 l),vS l 2 (y3 l,c3 l)]:=by unfold u3;rw [eh];rfl
  rw [hb,aY];refine (yRO hd h1 (s:=(aU l,c3 l)) vO (lg:=lg) (by omega)).trans ?_;have th:∀ K,yai (aJ l) (aF (lg++[bG l 1 (aU l,c3 l).1 (aU l,c3 l).2])) 1 (aU l).num (aU l).den (aC (aD (getD (bP [vS l 1 (aU l,c3 l)]) 0 .nils) 0)) (aC (aD (getD (bP [vS l 1 (aU l,c3 l)]) 0 .nils) 1)) K=K (x3 l).num (x3 l).den (y3 l).num (y3 l).den (aJ l) (aF (((lg++[bG l 1 (aU l,c3 l).1 (aU l,c3 l).2])++[eI 1 (aU l) (w3 l*r13) (x3 l)])++[eI 1 (aU l) (w3 l*cY) (y3 l)])):=fun K=>by
   have h:=th0 (lg':=lg++[bG l 1 (aU l,c3 l).1 (aU l,c3 l).2]) (by rw [cR,eQ];omega) K;rw [en] at h;rw [← ew];exact h
  rw [th]
  iterate 5 refine (cW (by first | rfl | exact Os (by omega))).trans ?_
  refine (yRP hd h2 (s:=(aU l,x3 l)) (t:=(x3 l,y3 l)) (u:=(y3 l,c3 l)) v0.1 v1.1 v2.1 (lg:=((lg++[bG l 1 (aU l,c3 l).1 (aU l,c3 l).2])++[eI 1 (aU l) (w3 l*r13) (x3 l)])++[eI 1 (aU l) (w3 l*cY) (y3 l)]) (by simp only [cR,eQ];omega) _).trans ?_;rw [← eu,jS,pU]
 all_goals
  rcases (show one3 l=0∨one3 l=1∨one3 l=2 by omega) with eo|eo|eo
 all_goals
  have ez:z3 l=[vS l 0 (k3 l (bQ l 0)),vS l 0 (k3 l (bQ l 1))]:=by unfold z3;rfl
  have sv:=fun {lg:List Qy} {x6 x7} hm a b c=>yS5 (x6:=x6) (x7:=x7) hd h0 (s:=k3 l (bQ l 0)) (t:=k3 l (bQ l 1)) (X.vq _ j0).1 (X.vq _ j1).1 (lg:=lg) hm a b c
  have c0:bY l 0=k3 l (bQ l (kk3 l)):=by unfold bY;rw [eh];rfl
  first
  | (rw [eo,show ∀ K,yam [.int .i64 ((0:Nat):Int)] K=K (fT [1,2]) from fun K=>GK (by decide) K];have k0:k3 l (bQ l 0)=(x3 l,y3 l):=(by unfold bQ;rw [eo];rfl);have k1:k3 l (bQ l 1)=(y3 l,c3 l):=(by unfold bQ;rw [eo];rfl);rw [k0,k1] at sv ez eG)
  | (rw [eo,show ∀ K,yam [.int .i64 ((1:Nat):Int)] K=K (fT [0,2]) from fun K=>GK (by decide) K];have k0:k3 l (bQ l 0)=(aU l,x3 l):=(by unfold bQ;rw [eo];rfl);have k1:k3 l (bQ l 1)=(y3 l,c3 l):=(by unfold bQ;rw [eo];rfl);rw [k0,k1] at sv ez eG)
  | (rw [eo,show ∀ K,yam [.int .i64 ((2:Nat):Int)] K=K (fT [0,1]) from fun K=>GK (by decide) K];have k0:k3 l (bQ l 0)=(aU l,x3 l):=(by unfold bQ;rw [eo];rfl);have k1:k3 l (bQ l 1)=(x3 l,y3 l):=(by unfold bQ;rw [eo];rfl);rw [k0,k1] at sv ez eG)
  iterate 16 refine (cW (by first | rfl | exact Os (by omega))).trans ?_
  refine (sv (lg:=_) (by simp only [cR,eQ];omega) _ _ _).trans ?_;rw [en,eh] at eG;rw [← ez,jS,pK,eG,c0];rcases (show kk3 l=0∨kk3 l=1 by omega) with ek | ek
  all_goals
   first
   | rw [show bY l 1=k3 l (one3 l) by unfold bY;rw [eh];rfl,show bY l 2=k3 l (bQ l (1-kk3 l)) by unfold bY;rw [eh];rfl]
   | rw [show bY l 1=k3 l (bQ l (1-kk3 l)) by unfold bY;rw [eh];rfl,show bY l 2=k3 l (one3 l) by unfold bY;rw [eh];rfl]
   rw [ek,eo]
   first
   | rw [show k3 l (bQ l (1-1))=_ from k0,k1];rfl
   | rw [show k3 l (bQ l (1-0))=_ from k1,k0];rfl
end
set_option maxHeartbeats 1000000
def fH (s:Sp):Bool:=!((s.a==s.c)&&((s.b==s.d)&&true))
def iK (s t:Sp):List Sp:=(bif fH s then [s] else [])++(bif fH t then [t] else [])
theorem KB {s t:Sp} {A P:Nat→Prop} {B:List PV→Nat→Int→Prop} {X:List PV→Prop} (hs:fH s=true) (z:A 0=False) (zB:∀ v j,B v 0 j=False) (a0:∀ n,A (n+1)=aA (fH s) (B [aN s] n 1) (P n)) (a1:∀ n,B [aN s] (n+1) 1=aA (fH t) (B [aN s,aN t] n 2) (B [aN s] n 2)) (a2:∀ v n,B v (n+1) 2=X v):(∃ n,A n)=X ((iK s t).map aN):=by
 rw [bR z (R:=fun n=>B [aN s] n 1) (fun n=>by rw [a0,hs,aY])];unfold iK;rw [hs]
 cases ht:fH t with
 | true =>rw [bR (zB _ _) (R:=fun n=>B [aN s,aN t] n 2) (fun n=>by rw [a1,ht,aY]),bR (zB _ _) (R:=fun _=>X [aN s,aN t]) (fun n=>a2 _ n),cK];rfl
 | false =>rw [bR (zB _ _) (R:=fun n=>B [aN s] n 2) (fun n=>by rw [a1,ht,aV]),bR (zB _ _) (R:=fun _=>X [aN s]) (fun n=>a2 _ n),cK];rfl
theorem KC {s t:Sp} {A:Nat→Int→Prop} {B:List PV→Nat→Int→Prop} {X:List PV→Prop} {Y:Prop} (z:∀ j,A 0 j=False) (zB:∀ v j,B v 0 j=False) (a0:∀ n,A (n+1) 0=aA (fH s) (B [aN s] n 1) (A n 1)) (b0:∀ n,A (n+1) 1=aA (fH t) (B [aN t] n 2) (A n 2)) (b1:∀ n,A (n+1) 2=Y) (a1:∀ n,B [aN s] (n+1) 1=aA (fH t) (B [aN s,aN t] n 2) (B [aN s] n 2)) (a2:∀ v n,B v (n+1) 2=X v):(∃ n,A n 0)=bif fH s||fH t then X ((iK s t).map aN) else Y:=by
 cases hs:fH s with
 | true=>exact KB hs (z 0) zB a0 a1 a2
 | false=>
  unfold iK;rw [hs,bR (z _) (R:=fun n=>A n 1) (fun n=>by rw [a0,hs,aV])]
  cases ht:fH t with
  | true =>rw [bR (z _) (R:=fun n=>B [aN t] n 2) (fun n=>by rw [b0,ht,aY]),bR (zB _ _) (R:=fun _=>X [aN t]) (fun n=>a2 _ n),cK];rfl
  | false =>rw [bR (z _) (R:=fun n=>A n 2) (fun n=>by rw [b0,ht,aV]),bR (z _) (R:=fun _=>Y) (fun n=>b1 n),cK];rfl
section
variable (s t:Sp) (c g:List PV) (sa sb sc sd se sf sg sh si sj sk sl ca cb cc cd ce cf cg ch ci cj ck cl m0 m1 m2 m3 m4 o0 o1 o2 i:Int)
theorem YU (hs:fH s=true) {x0 x1}:(∃ n,yfh yay yap yal yas yak x0 x1 n sa sb sc sd se sf sg sh si sj sk sl m0 m1 m2 m3 m4 o0 o1 o2 0 c g ca cb cc cd ce cf cg ch ci cj ck cl i [aN s,aN t] 2 0)=x1 ((iK s t).map aN) sa sb sc sd se sf sg sh si sj sk sl m0 m1 m2 m3 m4 o0 o1 o2 0 c g ca cb cc cd ce cf cg ch ci cj ck cl i [aN s,aN t] 2 2 false:=
 KB (P:=fun n=>yfh yay yap yal yas yak x0 x1 n sa sb sc sd se sf sg sh si sj sk sl m0 m1 m2 m3 m4 o0 o1 o2 0 c g ca cb cc cd ce cf cg ch ci cj ck cl i [aN s,aN t] 2 1) (B:=fun v n j=>NW yay yap yal yas yak x1 n v sa sb sc sd se sf sg sh si sj sk sl m0 m1 m2 m3 m4 o0 o1 o2 0 c g ca cb cc cd ce cf cg ch ci cj ck cl i [aN s,aN t] 2 j) (X:=fun v=>x1 v sa sb sc sd se sf sg sh si sj sk sl m0 m1 m2 m3 m4 o0 o1 o2 0 c g ca cb cc cd ce cf cg ch ci cj ck cl i [aN s,aN t] 2 2 false) hs rfl (fun _ _=>rfl) (fun n=>by kernel_rfl) (fun n=>by kernel_rfl) (fun v n=>by kernel_rfl)
theorem DW (q1:PV) {x4 x5}:(∃ n,ydi yay yap yal yas yak x4 x5 n [q1] sa sb sc sd se sf sg sh si sj sk sl m0 m1 m2 m3 m4 o0 o1 o2 0 c g ca cb cc cd ce cf cg ch ci cj ck cl i [aN s,aN t] 2 0)=bif fH s||fH t then x5 [q1] ((iK s t).map aN) sa sb sc sd se sf sg sh si sj sk sl m0 m1 m2 m3 m4 o0 o1 o2 0 c g ca cb cc cd ce cf cg ch ci cj ck cl i [aN s,aN t] 2 2 false else x4 [q1] sa sb sc sd se sf sg sh si sj sk sl m0 m1 m2 m3 m4 o0 o1 o2 0 c g ca cb cc cd ce cf cg ch ci cj ck cl i [aN s,aN t] 2 2 false:=
 KC (A:=fun n j=>ydi yay yap yal yas yak x4 x5 n [q1] sa sb sc sd se sf sg sh si sj sk sl m0 m1 m2 m3 m4 o0 o1 o2 0 c g ca cb cc cd ce cf cg ch ci cj ck cl i [aN s,aN t] 2 j) (B:=fun v n j=>Jz yay yap yal yas yak x5 n [q1] v sa sb sc sd se sf sg sh si sj sk sl m0 m1 m2 m3 m4 o0 o1 o2 0 c g ca cb cc cd ce cf cg ch ci cj ck cl i [aN s,aN t] 2 j) (X:=fun v=>x5 [q1] v sa sb sc sd se sf sg sh si sj sk sl m0 m1 m2 m3 m4 o0 o1 o2 0 c g ca cb cc cd ce cf cg ch ci cj ck cl i [aN s,aN t] 2 2 false) (fun _=>rfl) (fun _ _=>rfl) (fun n=>by kernel_rfl) (fun n=>by kernel_rfl) (fun n=>by kernel_rfl) (fun n=>by kernel_rfl) (fun v n=>by kernel_rfl)
theorem DX (q1 q2:PV) {x4 x5}:(∃ n,ydi yay yap yal yas yak x4 x5 n [q1,q2] sa sb sc sd se sf sg sh si sj sk sl m0 m1 m2 m3 m4 o0 o1 o2 0 c g ca cb cc cd ce cf cg ch ci cj ck cl i [aN s,aN t] 2 0)=bif fH s||fH t then x5 [q1,q2] ((iK s t).map aN) sa sb sc sd se sf sg sh si sj sk sl m0 m1 m2 m3 m4 o0 o1 o2 0 c g ca cb cc cd ce cf cg ch ci cj ck cl i [aN s,aN t] 2 2 false else x4 [q1,q2] sa sb sc sd se sf sg sh si sj sk sl m0 m1 m2 m3 m4 o0 o1 o2 0 c g ca cb cc cd ce cf cg ch ci cj ck cl i [aN s,aN t] 2 2 false:=
 KC (A:=fun n j=>ydi yay yap yal yas yak x4 x5 n [q1,q2] sa sb sc sd se sf sg sh si sj sk sl m0 m1 m2 m3 m4 o0 o1 o2 0 c g ca cb cc cd ce cf cg ch ci cj ck cl i [aN s,aN t] 2 j) (B:=fun v n j=>Jz yay yap yal yas yak x5 n [q1,q2] v sa sb sc sd se sf sg sh si sj sk sl m0 m1 m2 m3 m4 o0 o1 o2 0 c g ca cb cc cd ce cf cg ch ci cj ck cl i [aN s,aN t] 2 j) (X:=fun v=>x5 [q1,q2] v sa sb sc sd se sf sg sh si sj sk sl m0 m1 m2 m3 m4 o0 o1 o2 0 c g ca cb cc cd ce cf cg ch ci cj ck cl i [aN s,aN t] 2 2 false) (fun _=>rfl) (fun _ _=>rfl) (fun n=>by kernel_rfl) (fun n=>by kernel_rfl) (fun n=>by kernel_rfl) (fun n=>by kernel_rfl) (fun v n=>by kernel_rfl)
theorem qH (m:List PV) (K:List PV→Prop):yak m 0 K=K m:=rfl
theorem GP {s t:Sp} (h:(fH s||fH t)=false):iK s t=[]:=by simp only [Aw] at h;unfold iK;rw [h.1,h.2];rfl
theorem yS6 (hs:fH ⟨sa,sb,sc,sd⟩=true) {m:List PV} (hM:∀ K,yas ((iK ⟨sa,sb,sc,sd⟩ ⟨ca,cb,cc,cd⟩).map aN) K=K m 0) {x0 x1 x2} (n:Nat) :
  yb9 yay yap yal yas yak x0 x1 x2 (n+1) sa sb sc sd se sf sg sh si sj sk sl m0 m1 m2 m3 m4 0 o1 o2 0 c g ca cb cc cd ce cf cg ch ci cj ck cl 0=gZ yay yap yal yas yak x2 n [.data m] sa sb sc sd se sf sg sh si sj sk sl m0 m1 m2 m3 m4 0 o1 o2 0 c g ca cb cc cd ce cf cg ch ci cj ck cl 1:=by
 unfold yb9;dsimp only [lt,Go.Pf.jn];rw [aO (by decide),aO (show (0:Int)=0 from rfl),aO (show (0:Int)=0 from rfl),aO (show (0:Int)=0 from rfl)];refine (YU ⟨sa,sb,sc,sd⟩ ⟨ca,cb,cc,cd⟩ c g _ _ _ _ _ _ _ _ _ _ _ _ _ _ _ _ _ _ _ _ _ _ _ _ _ _ _ _ _ _ _ _ _  hs).trans ?_
 iterate 2 refine (cW (by first | exact Os (by omega) | rfl)).trans ?_
 rw [jS,hM,qH];rfl
theorem yS7 (hs:fH ⟨se,sf,sg,sh⟩=true) {m:List PV} (hM:∀ K,yas ((iK ⟨se,sf,sg,sh⟩ ⟨ca,cb,cc,cd⟩).map aN) K=K m 0) {x0 x1 x2} (n:Nat) :
  yb9 yay yap yal yas yak x0 x1 x2 (n+1) sa sb sc sd se sf sg sh si sj sk sl m0 m1 m2 m3 m4 1 o1 o2 0 c g ca cb cc cd ce cf cg ch ci cj ck cl 0=gZ yay yap yal yas yak x2 n [.data m] sa sb sc sd se sf sg sh si sj sk sl m0 m1 m2 m3 m4 1 o1 o2 0 c g ca cb cc cd ce cf cg ch ci cj ck cl 1:=by
 unfold yb9;dsimp only [lt,Go.Pf.jn];rw [aO (by decide),aO (show (0:Int)=0 from rfl),aP (by decide),aO (show (1:Int)=1 from rfl),aO (show (0:Int)=0 from rfl)];refine (YU ⟨se,sf,sg,sh⟩ ⟨ca,cb,cc,cd⟩ c g _ _ _ _ _ _ _ _ _ _ _ _ _ _ _ _ _ _ _ _ _ _ _ _ _ _ _ _ _ _ _ _ _  hs).trans ?_
 iterate 2 refine (cW (by first | exact Os (by omega) | rfl)).trans ?_
 rw [jS,hM,qH];rfl
theorem yS8 (hs:fH ⟨si,sj,sk,sl⟩=true) {m:List PV} (hM:∀ K,yas ((iK ⟨si,sj,sk,sl⟩ ⟨ca,cb,cc,cd⟩).map aN) K=K m 0) {x0 x1 x2} (n:Nat) :
  yb9 yay yap yal yas yak x0 x1 x2 (n+1) sa sb sc sd se sf sg sh si sj sk sl m0 m1 m2 m3 m4 2 o1 o2 0 c g ca cb cc cd ce cf cg ch ci cj ck cl 0=gZ yay yap yal yas yak x2 n [.data m] sa sb sc sd se sf sg sh si sj sk sl m0 m1 m2 m3 m4 2 o1 o2 0 c g ca cb cc cd ce cf cg ch ci cj ck cl 1:=by
 unfold yb9;dsimp only [lt,Go.Pf.jn];rw [aO (by decide),aO (show (0:Int)=0 from rfl),aP (by decide),aP (by decide),aO (show (2:Int)=2 from rfl),aO (show (0:Int)=0 from rfl)];refine (YU ⟨si,sj,sk,sl⟩ ⟨ca,cb,cc,cd⟩ c g _ _ _ _ _ _ _ _ _ _ _ _ _ _ _ _ _ _ _ _ _ _ _ _ _ _ _ _ _ _ _ _ _  hs).trans ?_
 iterate 2 refine (cW (by first | exact Os (by omega) | rfl)).trans ?_
 rw [jS,hM,qH];rfl
theorem yS9 (q1:PV) {m:List PV} (hM:∀ K,yas ((iK ⟨sa,sb,sc,sd⟩ ⟨ce,cf,cg,ch⟩).map aN) K=K m 0) {x2} (n:Nat) :
  gZ yay yap yal yas yak x2 (n+1) [q1] sa sb sc sd se sf sg sh si sj sk sl m0 m1 m2 m3 m4 o0 0 o2 0 c g ca cb cc cd ce cf cg ch ci cj ck cl 1=gZ yay yap yal yas yak x2 n [q1,.data m] sa sb sc sd se sf sg sh si sj sk sl m0 m1 m2 m3 m4 o0 0 o2 0 c g ca cb cc cd ce cf cg ch ci cj ck cl 2:=by
 conv=>lhs;unfold gZ
 dsimp only [lt,Go.Pf.jn];rw [aO (by decide),aP (by decide),aO (show (1:Int)=1 from rfl),aO (show (0:Int)=0 from rfl),aP (by decide),aO (show (1:Int)=1 from rfl)];refine (cW rfl).trans ?_;refine (DW ⟨sa,sb,sc,sd⟩ ⟨ce,cf,cg,ch⟩ c g _ _ _ _ _ _ _ _ _ _ _ _ _ _ _ _ _ _ _ _ _ _ _ _ _ _ _ _ _ _ _ _ _  q1).trans ?_
 cases hne:(fH ⟨sa,sb,sc,sd⟩||fH ⟨ce,cf,cg,ch⟩) with
 | true=>
  rw [cond_true]
  iterate 2 refine (cW (by first | exact Os (by omega) | rfl)).trans ?_
  rw [jS,hM,qH];rfl
 | false =>rw [GP hne] at hM;have hM:∀ K,yas [] K=K m 0:=hM;rw [cond_false,hM,qH];rfl
theorem yTa (q1:PV) {m:List PV} (hM:∀ K,yas ((iK ⟨se,sf,sg,sh⟩ ⟨ce,cf,cg,ch⟩).map aN) K=K m 0) {x2} (n:Nat) :
  gZ yay yap yal yas yak x2 (n+1) [q1] sa sb sc sd se sf sg sh si sj sk sl m0 m1 m2 m3 m4 o0 1 o2 0 c g ca cb cc cd ce cf cg ch ci cj ck cl 1=gZ yay yap yal yas yak x2 n [q1,.data m] sa sb sc sd se sf sg sh si sj sk sl m0 m1 m2 m3 m4 o0 1 o2 0 c g ca cb cc cd ce cf cg ch ci cj ck cl 2:=by
 conv=>lhs;unfold gZ
 dsimp only [lt,Go.Pf.jn];rw [aO (by decide),aP (by decide),aO (show (1:Int)=1 from rfl),aP (by decide),aO (show (1:Int)=1 from rfl),aP (by decide),aO (show (1:Int)=1 from rfl)];refine (cW rfl).trans ?_;refine (DW ⟨se,sf,sg,sh⟩ ⟨ce,cf,cg,ch⟩ c g _ _ _ _ _ _ _ _ _ _ _ _ _ _ _ _ _ _ _ _ _ _ _ _ _ _ _ _ _ _ _ _ _  q1).trans ?_
 cases hne:(fH ⟨se,sf,sg,sh⟩||fH ⟨ce,cf,cg,ch⟩) with
 | true=>
  rw [cond_true]
  iterate 2 refine (cW (by first | exact Os (by omega) | rfl)).trans ?_
  rw [jS,hM,qH];rfl
 | false =>rw [GP hne] at hM;have hM:∀ K,yas [] K=K m 0:=hM;rw [cond_false,hM,qH];rfl
theorem yTb (q1:PV) {m:List PV} (hM:∀ K,yas ((iK ⟨si,sj,sk,sl⟩ ⟨ce,cf,cg,ch⟩).map aN) K=K m 0) {x2} (n:Nat) :
  gZ yay yap yal yas yak x2 (n+1) [q1] sa sb sc sd se sf sg sh si sj sk sl m0 m1 m2 m3 m4 o0 2 o2 0 c g ca cb cc cd ce cf cg ch ci cj ck cl 1=gZ yay yap yal yas yak x2 n [q1,.data m] sa sb sc sd se sf sg sh si sj sk sl m0 m1 m2 m3 m4 o0 2 o2 0 c g ca cb cc cd ce cf cg ch ci cj ck cl 2:=by
 conv=>lhs;unfold gZ
 dsimp only [lt,Go.Pf.jn];rw [aO (by decide),aP (by decide),aO (show (1:Int)=1 from rfl),aP (by decide),aP (by decide),aO (show (2:Int)=2 from rfl),aP (by decide),aO (show (1:Int)=1 from rfl)];refine (cW rfl).trans ?_;refine (DW ⟨si,sj,sk,sl⟩ ⟨ce,cf,cg,ch⟩ c g _ _ _ _ _ _ _ _ _ _ _ _ _ _ _ _ _ _ _ _ _ _ _ _ _ _ _ _ _ _ _ _ _  q1).trans ?_
 cases hne:(fH ⟨si,sj,sk,sl⟩||fH ⟨ce,cf,cg,ch⟩) with
 | true=>
  rw [cond_true]
  iterate 2 refine (cW (by first | exact Os (by omega) | rfl)).trans ?_
  rw [jS,hM,qH];rfl
 | false =>rw [GP hne] at hM;have hM:∀ K,yas [] K=K m 0:=hM;rw [cond_false,hM,qH];rfl
theorem yTc (q1 q2:PV) {m:List PV} (hM:∀ K,yas ((iK ⟨sa,sb,sc,sd⟩ ⟨ci,cj,ck,cl⟩).map aN) K=K m 0) {x2} (n:Nat) :
  gZ yay yap yal yas yak x2 (n+1) [q1,q2] sa sb sc sd se sf sg sh si sj sk sl m0 m1 m2 m3 m4 o0 o1 0 0 c g ca cb cc cd ce cf cg ch ci cj ck cl 2=gZ yay yap yal yas yak x2 n [q1,q2,.data m] sa sb sc sd se sf sg sh si sj sk sl m0 m1 m2 m3 m4 o0 o1 0 0 c g ca cb cc cd ce cf cg ch ci cj ck cl 3:=by
 conv=>lhs;unfold gZ
 dsimp only [lt,Go.Pf.jn];rw [aO (by decide),aP (by decide),aP (by decide),aO (show (2:Int)=2 from rfl),aO (show (0:Int)=0 from rfl),aP (by decide),aP (by decide),aO (show (2:Int)=2 from rfl)];refine (cW rfl).trans ?_;refine (DX ⟨sa,sb,sc,sd⟩ ⟨ci,cj,ck,cl⟩ c g _ _ _ _ _ _ _ _ _ _ _ _ _ _ _ _ _ _ _ _ _ _ _ _ _ _ _ _ _ _ _ _ _  q1 q2).trans ?_
 cases hne:(fH ⟨sa,sb,sc,sd⟩||fH ⟨ci,cj,ck,cl⟩) with
 | true=>
  rw [cond_true]
  iterate 2 refine (cW (by first | exact Os (by omega) | rfl)).trans ?_
  rw [jS,hM,qH];rfl
 | false =>rw [GP hne] at hM;have hM:∀ K,yas [] K=K m 0:=hM;rw [cond_false,hM,qH];rfl
theorem yTd (q1 q2:PV) {m:List PV} (hM:∀ K,yas ((iK ⟨se,sf,sg,sh⟩ ⟨ci,cj,ck,cl⟩).map aN) K=K m 0) {x2} (n:Nat) :
  gZ yay yap yal yas yak x2 (n+1) [q1,q2] sa sb sc sd se sf sg sh si sj sk sl m0 m1 m2 m3 m4 o0 o1 1 0 c g ca cb cc cd ce cf cg ch ci cj ck cl 2=gZ yay yap yal yas yak x2 n [q1,q2,.data m] sa sb sc sd se sf sg sh si sj sk sl m0 m1 m2 m3 m4 o0 o1 1 0 c g ca cb cc cd ce cf cg ch ci cj ck cl 3:=by
 conv=>lhs;unfold gZ
 dsimp only [lt,Go.Pf.jn];rw [aO (by decide),aP (by decide),aP (by decide),aO (show (2:Int)=2 from rfl),aP (by decide),aO (show (1:Int)=1 from rfl),aP (by decide),aP (by decide),aO (show (2:Int)=2 from rfl)];refine (cW rfl).trans ?_;refine (DX ⟨se,sf,sg,sh⟩ ⟨ci,cj,ck,cl⟩ c g _ _ _ _ _ _ _ _ _ _ _ _ _ _ _ _ _ _ _ _ _ _ _ _ _ _ _ _ _ _ _ _ _  q1 q2).trans ?_
 cases hne:(fH ⟨se,sf,sg,sh⟩||fH ⟨ci,cj,ck,cl⟩) with
 | true=>
  rw [cond_true]
  iterate 2 refine (cW (by first | exact Os (by omega) | rfl)).trans ?_
  rw [jS,hM,qH];rfl
 | false =>rw [GP hne] at hM;have hM:∀ K,yas [] K=K m 0:=hM;rw [cond_false,hM,qH];rfl
theorem yTe (q1 q2:PV) {m:List PV} (hM:∀ K,yas ((iK ⟨si,sj,sk,sl⟩ ⟨ci,cj,ck,cl⟩).map aN) K=K m 0) {x2} (n:Nat) :
  gZ yay yap yal yas yak x2 (n+1) [q1,q2] sa sb sc sd se sf sg sh si sj sk sl m0 m1 m2 m3 m4 o0 o1 2 0 c g ca cb cc cd ce cf cg ch ci cj ck cl 2=gZ yay yap yal yas yak x2 n [q1,q2,.data m] sa sb sc sd se sf sg sh si sj sk sl m0 m1 m2 m3 m4 o0 o1 2 0 c g ca cb cc cd ce cf cg ch ci cj ck cl 3:=by
 conv=>lhs;unfold gZ
 dsimp only [lt,Go.Pf.jn];rw [aO (by decide),aP (by decide),aP (by decide),aO (show (2:Int)=2 from rfl),aP (by decide),aP (by decide),aO (show (2:Int)=2 from rfl),aP (by decide),aP (by decide),aO (show (2:Int)=2 from rfl)];refine (cW rfl).trans ?_;refine (DX ⟨si,sj,sk,sl⟩ ⟨ci,cj,ck,cl⟩ c g _ _ _ _ _ _ _ _ _ _ _ _ _ _ _ _ _ _ _ _ _ _ _ _ _ _ _ _ _ _ _ _ _  q1 q2).trans ?_
 cases hne:(fH ⟨si,sj,sk,sl⟩||fH ⟨ci,cj,ck,cl⟩) with
 | true=>
  rw [cond_true]
  iterate 2 refine (cW (by first | exact Os (by omega) | rfl)).trans ?_
  rw [jS,hM,qH];rfl
 | false =>rw [GP hne] at hM;have hM:∀ K,yas [] K=K m 0:=hM;rw [cond_false,hM,qH];rfl
end
set_option maxHeartbeats 1000000
def kF (a b c:Sp) (k:Nat):Sp:=if k=0 then a else if k=1 then b else c
section
variable (c g:List PV) (sa sb sc sd se sf sg sh si sj sk sl ca cb cc cd ce cf cg ch ci cj ck cl m0 m1 m2 m3 m4 o0 o1 o2:Int)
theorem YV {k:Nat} (hk:k<3) (hs:fH (kF ⟨sa,sb,sc,sd⟩ ⟨se,sf,sg,sh⟩ ⟨si,sj,sk,sl⟩ k)=true) {m:List PV} (hM:∀ K,yas ((iK (kF ⟨sa,sb,sc,sd⟩ ⟨se,sf,sg,sh⟩ ⟨si,sj,sk,sl⟩ k) ⟨ca,cb,cc,cd⟩).map aN) K=K m 0) {x0 x1 x2} (n:Nat) :
  yb9 yay yap yal yas yak x0 x1 x2 (n+1) sa sb sc sd se sf sg sh si sj sk sl m0 m1 m2 m3 m4 (k:Int) o1 o2 0 c g ca cb cc cd ce cf cg ch ci cj ck cl 0=gZ yay yap yal yas yak x2 n [.data m] sa sb sc sd se sf sg sh si sj sk sl m0 m1 m2 m3 m4 (k:Int) o1 o2 0 c g ca cb cc cd ce cf cg ch ci cj ck cl 1:=by
 obtain rfl|rfl|rfl:k=0∨k=1∨k=2:=by omega
 ·exact yS6 (hs:=hs) (hM:=hM) ..
 ·exact yS7 (hs:=hs) (hM:=hM) ..
 ·exact yS8 (hs:=hs) (hM:=hM) ..
theorem YW (q1:PV) {k:Nat} (hk:k<3) {m:List PV} (hM:∀ K,yas ((iK (kF ⟨sa,sb,sc,sd⟩ ⟨se,sf,sg,sh⟩ ⟨si,sj,sk,sl⟩ k) ⟨ce,cf,cg,ch⟩).map aN) K=K m 0) {x2} (n:Nat) :
  gZ yay yap yal yas yak x2 (n+1) [q1] sa sb sc sd se sf sg sh si sj sk sl m0 m1 m2 m3 m4 o0 (k:Int) o2 0 c g ca cb cc cd ce cf cg ch ci cj ck cl 1=gZ yay yap yal yas yak x2 n [q1,.data m] sa sb sc sd se sf sg sh si sj sk sl m0 m1 m2 m3 m4 o0 (k:Int) o2 0 c g ca cb cc cd ce cf cg ch ci cj ck cl 2:=by
 obtain rfl|rfl|rfl:k=0∨k=1∨k=2:=by omega
 ·exact yS9 (hM:=hM) ..
 ·exact yTa (hM:=hM) ..
 ·exact yTb (hM:=hM) ..
theorem YX (q1 q2:PV) {k:Nat} (hk:k<3) {m:List PV} (hM:∀ K,yas ((iK (kF ⟨sa,sb,sc,sd⟩ ⟨se,sf,sg,sh⟩ ⟨si,sj,sk,sl⟩ k) ⟨ci,cj,ck,cl⟩).map aN) K=K m 0) {x2} (n:Nat) :
  gZ yay yap yal yas yak x2 (n+1) [q1,q2] sa sb sc sd se sf sg sh si sj sk sl m0 m1 m2 m3 m4 o0 o1 (k:Int) 0 c g ca cb cc cd ce cf cg ch ci cj ck cl 2=gZ yay yap yal yas yak x2 n [q1,q2,.data m] sa sb sc sd se sf sg sh si sj sk sl m0 m1 m2 m3 m4 o0 o1 (k:Int) 0 c g ca cb cc cd ce cf cg ch ci cj ck cl 3:=by
 obtain rfl|rfl|rfl:k=0∨k=1∨k=2:=by omega
 ·exact yTc (hM:=hM) ..
 ·exact yTd (hM:=hM) ..
 ·exact yTe (hM:=hM) ..
theorem YY (q1 q2 q3:PV) {x2} (n:Nat):gZ yay yap yal yas yak x2 (n+1) [q1,q2,q3] sa sb sc sd se sf sg sh si sj sk sl m0 m1 m2 m3 m4 o0 o1 o2 0 c g ca cb cc cd ce cf cg ch ci cj ck cl 3=x2 [q1,q2,q3] sa sb sc sd se sf sg sh si sj sk sl m0 m1 m2 m3 m4 o0 o1 o2 0 c g ca cb cc cd ce cf cg ch ci cj ck cl 3 false:=by kernel_rfl
theorem KD {a b d:Nat} (ha:a<3) (hb:b<3) (hd:d<3) (hs:fH (kF ⟨sa,sb,sc,sd⟩ ⟨se,sf,sg,sh⟩ ⟨si,sj,sk,sl⟩ a)=true) {u v w:List PV} (hu:∀ K,yas ((iK (kF ⟨sa,sb,sc,sd⟩ ⟨se,sf,sg,sh⟩ ⟨si,sj,sk,sl⟩ a) ⟨ca,cb,cc,cd⟩).map aN) K=K u 0) (hv:∀ K,yas ((iK (kF ⟨sa,sb,sc,sd⟩ ⟨se,sf,sg,sh⟩ ⟨si,sj,sk,sl⟩ b) ⟨ce,cf,cg,ch⟩).map aN) K=K v 0) (hw:∀ K,yas ((iK (kF ⟨sa,sb,sc,sd⟩ ⟨se,sf,sg,sh⟩ ⟨si,sj,sk,sl⟩ d) ⟨ci,cj,ck,cl⟩).map aN) K=K w 0) {x0 x1 x2} :
  (∃ n,yb9 yay yap yal yas yak x0 x1 x2 n sa sb sc sd se sf sg sh si sj sk sl m0 m1 m2 m3 m4 (a:Int) (b:Int) (d:Int) 0 c g ca cb cc cd ce cf cg ch ci cj ck cl 0)=x2 [.data u,.data v,.data w] sa sb sc sd se sf sg sh si sj sk sl m0 m1 m2 m3 m4 (a:Int) (b:Int) (d:Int) 0 c g ca cb cc cd ce cf cg ch ci cj ck cl 3 false:=by
 rw [bR rfl (fun n=>YV (hk:=ha) (hs:=hs) (hM:=hu) (n:=n) ..),bR rfl (fun n=>YW (hk:=hb) (hM:=hv) (n:=n) ..),bR rfl (fun n=>YX (hk:=hd) (hM:=hw) (n:=n) ..),bR rfl (fun n=>YY (n:=n) ..),cK]
end
section
variable {l:List Ck}
theorem yRx (hd:DK l) (h3:l.length=3) (K:Int→Prop):yay (aJ l) [] K=K 0:=by
 unfold yay NN;have h:∀ K,ydu (aJ l) [] K=K (lE l 0):=fun K=>Ki (lg:=[]) hd.fin (by omega) K
 rw [h,hd.err (by decide),cS rfl,iE,h3];rfl
def qU (l:List Ck) (i:Nat):Nat:=if i=0 then o0 l else if i=1 then o1 l else o2 l
def neR (s:RS):Bool:=!decide (s.1=s.2)
def L3 (l:List Ck) (i:Nat):List RS:=(bif neR (s3 l (qU l i)) then [s3 l (qU l i)] else [])++(bif tr3 l&&neR (bY l i) then [bY l i] else [])
theorem Pi (s:RS):fH (dW s)=neR s:=by unfold fH neR;rw [← yRN];rfl
theorem ySx (s t:RS):(iK (dW s) (dW t)).map aN=bJ ((bif neR s then [s] else [])++(bif neR t then [t] else [])):=by
 unfold iK;rw [Pi,Pi]
 cases neR s<;>cases neR t<;>rfl
theorem yTf (s:RS):(iK (dW s) ⟨0,0,0,0⟩).map aN=bJ ((bif neR s then [s] else [])++[]):=by
 unfold iK;rw [Pi]
 cases neR s<;>rfl
end
set_option maxHeartbeats 1000000
section
variable {l:List Ck}
theorem yRQ (l:List Ck):o0 l=3-o1 l-o2 l:=by unfold o0;rfl
theorem Aq (l:List Ck):o0 l<3∧o0 l≠o1 l∧o0 l≠o2 l:=by have h1:=Ap l;have h2:=wL l;have e:=yRQ l;omega
theorem o1_p {l:List Ck} (h:tr3 l=true):o1 l=p3 l∨o2 l=p3 l:=by
 by_cases e:p3 l=o2 l
 ·exact .inr e.symm
 ·left;rw [GO,h,Pn e];rfl
theorem yTg (l:List Ck):s3 l (o0 l)=(P3 l).getD (o0 l) (0,0):=by
 have h0:=Aq l;rw [uF h0.1]
 cases h:tr3 l with
 | false=>rfl
 | true=>
  have:o0 l≠p3 l:=by
   rcases o1_p h with e|e
   ·rw [← e];exact h0.2.1
   ·rw [← e];exact h0.2.2
  rw [Pn this];rfl
theorem yTh (hd:DK l) (h3:l.length=3) {i:Nat} (hi:i<3):((P3 l).getD i (0,0)).1<((P3 l).getD i (0,0)).2:=by
 obtain ⟨D,g⟩:=g3 hd h3;obtain rfl | rfl | rfl:i=0∨i=1∨i=2:=by omega
 ·exact g.a0
 ·exact g.ab
 ·exact g.bl
theorem yRR (l:List Ck) (a:Nat):∃ j,j<3∧bY l a=k3 l j:=by
 obtain ⟨j0,j1,_⟩:=Pg l;have hk:=YS l;have hl:∀ i,i<2→bQ l i<3:=fun i hi=>by
  obtain rfl|rfl:i=0∨i=1:=by omega
  ·exact j0
  ·exact j1
 unfold bY;split
 ·exact ⟨_,wM l,rfl⟩
 ·split
  ·exact ⟨_,hl _ hk,rfl⟩
  ·exact ⟨_,hl _ (by omega),rfl⟩
theorem YZ (l:List Ck) (i:Nat):qU l i<3:=by
 unfold qU;split
 ·exact (Aq l).1
 ·split
  ·exact (Ap l).1
  ·exact wL l
theorem Pj (hd:DK l) (h3:l.length=3) (i:Nat):(∀ s∈L3 l i,eH s∧s.1<s.2)∧(L3 l i).length≤60:=by
 obtain ⟨D,_,hV⟩:=sM hd h3;obtain ⟨D',X⟩:=Ph hd h3;obtain ⟨j,hj,ej⟩:=yRR l i;have a:=(hV _ (YZ l i)).1;have b:=(X.vq j hj).1;rw [← ej] at b;have lt:∀ {s:RS},VQ l s→neR s=true→s.1<s.2:=fun {s} h k=>by
  unfold neR at k;have:s.1≠s.2:=by simpa using k
  have:=h.le;grind
 have hA:∀ s∈(bif neR (s3 l (qU l i)) then [s3 l (qU l i)] else []),eH s∧s.1<s.2:=fun s hs=>by
  cases e:neR (s3 l (qU l i)) with
  | true =>rw [e,cond_true,oE] at hs;subst hs;exact ⟨⟨a.s1,a.s2⟩,lt a e⟩
  | false=>rw [e] at hs;cases hs
 have hB:∀ s∈(bif tr3 l&&neR (bY l i) then [bY l i] else []),eH s∧s.1<s.2:=fun s hs=>by
  cases e:(tr3 l&&neR (bY l i)) with
  | true =>rw [e,cond_true,oE] at hs;subst hs;simp only [bZ] at e;exact ⟨⟨b.s1,b.s2⟩,lt b e.2⟩
  | false=>rw [e] at hs;cases hs
 refine ⟨fun s hs=>?_,?_⟩
 ·unfold L3 at hs;rcases qA8.1 hs with h | h
  ·exact hA s h
  ·exact hB s h
 ·unfold L3;rw [cR];have h1:(bif neR (s3 l (qU l i)) then [s3 l (qU l i)] else []).length≤1:=by cases neR (s3 l (qU l i))<;>simp
  have h2:(bif tr3 l&&neR (bY l i) then [bY l i] else []).length≤1:=by cases (tr3 l&&neR (bY l i))<;>simp
  omega
def jM (l:List Ck):List Qy:=eP l++(bif tr3 l then xW l else [])
structure M3 (l:List Ck) (M:Nat→List RS):Prop where
 pc:∀ i,Pc (M i)
 mem:∀ i p,memP (M i) p↔memP (L3 l i) p
theorem Za (hd:DK l) (h3:l.length=3):∃ M,M3 l M∧∀ K,yhh (aJ l) K=K (qG [M 0,M 1,M 2]) (s3 l 0).1.num (s3 l 0).1.den (s3 l 0).2.num (s3 l 0).2.den (s3 l 1).1.num (s3 l 1).1.den (s3 l 1).2.num (s3 l 1).2.den (s3 l 2).1.num (s3 l 2).1.den (s3 l 2).2.num (s3 l 2).2.den (jL l) (bif tr3 l then (aU l).num else 0) (bif tr3 l then ((aU l).den:Int) else 0) (bif tr3 l then (c3 l).num else 0) (bif tr3 l then ((c3 l).den:Int) else 0) (o0 l:Int) (o1 l:Int) (o2 l:Int) (aF (jM l)) 0:=by
 have hM0:=fun i=>yRs (fun s hs=>((Pj hd h3 i).1 s hs).1) (fun s hs=>((Pj hd h3 i).1 s hs).2) (Pj hd h3 i).2
 obtain ⟨M,hM⟩:∃ M:Nat→List RS,∀ i,Pc (M i)∧(∀ p,memP (M i) p↔memP (L3 l i) p)∧∀ K,yas (bJ (L3 l i)) K=K (bJ (M i)) 0:=⟨fun i=>(hM0 i).choose,fun i=>(hM0 i).choose_spec⟩;refine ⟨M,⟨fun i=>(hM i).1,fun i=>(hM i).2.1⟩,fun K=>?_⟩;have mk:=fun i=>(hM i).2.2
 have sel:∀ k,k<3→kF ⟨(s3 l 0).1.num,(s3 l 0).1.den,(s3 l 0).2.num,(s3 l 0).2.den⟩ ⟨(s3 l 1).1.num,(s3 l 1).1.den,(s3 l 1).2.num,(s3 l 1).2.den⟩ ⟨(s3 l 2).1.num,(s3 l 2).1.den,(s3 l 2).2.num,(s3 l 2).2.den⟩ k=dW (s3 l k):=fun k hk=>by
  obtain rfl|rfl|rfl:k=0∨k=1∨k=2:=by omega
  all_goals rfl
 have hne:fH (kF ⟨(s3 l 0).1.num,(s3 l 0).1.den,(s3 l 0).2.num,(s3 l 0).2.den⟩ ⟨(s3 l 1).1.num,(s3 l 1).1.den,(s3 l 1).2.num,(s3 l 1).2.den⟩ ⟨(s3 l 2).1.num,(s3 l 2).1.den,(s3 l 2).2.num,(s3 l 2).2.den⟩ (o0 l))=true:=by rw [sel _ (Aq l).1,Pi,yTg];have:=yTh hd h3 (Aq l).1;unfold neR;rw [Pn (by grind)];rfl
 have f:∀ K,yap (aJ l) [] K=_:=fun K=>ySw hd h3 (lg:=[]) (by decide) K
 unfold yhh NY;dsimp only [lt,Go.Pf.jn];rw [yRx hd h3,cS rfl,f]
 cases htr:tr3 l with
 | true=>
  have hpc:jL l=(p3 l:Int):=by unfold jL;rw [htr];rfl
  have mk':∀ i K,yas ((iK (kF ⟨(s3 l 0).1.num,(s3 l 0).1.den,(s3 l 0).2.num,(s3 l 0).2.den⟩ ⟨(s3 l 1).1.num,(s3 l 1).1.den,(s3 l 1).2.num,(s3 l 1).2.den⟩ ⟨(s3 l 2).1.num,(s3 l 2).1.den,(s3 l 2).2.num,(s3 l 2).2.den⟩ (qU l i)) (dW (bY l i))).map aN) K=K (bJ (M i)) 0:=fun i K=>by
   rw [sel _ (YZ l i),ySx];have:=mk i K;unfold L3 at this;rw [htr,jU] at this;exact this
  rw [hpc];simp only [cond_true];rw [aO (by omega)];rw [yRw hd h3 (lg:=[]++eP l) (by unfold eP iH BI;rw [htr];simp only [cR,eQ,sT,cond_true];omega)];rw [KD (ha:=(Aq l).1) (hb:=(Ap l).1) (hd:=wL l) (hs:=hne) (hu:=mk' 0) (hv:=mk' 1) (hw:=mk' 2)];have eG:[]++eP l++xW l=jM l:=by unfold jM;rw [htr];rfl
  rw [eG];rfl
 | false=>
  have hpc:jL l=-1:=by unfold jL;rw [htr];rfl
  have mk':∀ i K,yas ((iK (kF ⟨(s3 l 0).1.num,(s3 l 0).1.den,(s3 l 0).2.num,(s3 l 0).2.den⟩ ⟨(s3 l 1).1.num,(s3 l 1).1.den,(s3 l 1).2.num,(s3 l 1).2.den⟩ ⟨(s3 l 2).1.num,(s3 l 2).1.den,(s3 l 2).2.num,(s3 l 2).2.den⟩ (qU l i)) ⟨0,0,0,0⟩).map aN) K=K (bJ (M i)) 0:=fun i K=>by
   rw [sel _ (YZ l i),yTf];have:=mk i K;unfold L3 at this;rw [htr,qI] at this;exact this
  rw [hpc];simp only [cond_false];rw [aP (by decide)];rw [KD (ha:=(Aq l).1) (hb:=(Ap l).1) (hd:=wL l) (hs:=hne) (hu:=mk' 0) (hv:=mk' 1) (hw:=mk' 2)];have eG:[]++eP l=jM l:=by unfold jM;rw [htr];exact (AA _).symm
  rw [eG];rfl
end
section
variable {l:List Ck} {M:Nat→List RS}
theorem yQw (l:List Ck):(jM l).length=bif tr3 l then 16 else 7:=by
 unfold jM eP iH BI xW
 cases tr3 l<;>rfl
end
variable {l:List Ck}
set_option maxHeartbeats 1000000
section
variable {l:List Ck}
theorem Pk {q r:Rat} (hq:small q) (hr:small r) (K:Bool→Prop):yaB q.num q.den r.num r.den K=K (decide (q<r)):=by have:=zb (s:=⟨q.num,q.den,r.num,r.den⟩) ⟨hq.i1,hq.i2,hr.i1,hr.i2⟩ K;rw [this];congr 1;rw [Aab];unfold Sp.ok;dsimp only;rw [uA,uA];exact ⟨fun k=>k.2.2,fun k=>⟨hq.rv,hr.rv,k⟩⟩
end
set_option maxHeartbeats 1000000
section
variable {l:List Ck}
theorem ySy (hd:DK l) {a:Nat} (ha:a<l.length) {q v:Rat} (hs:small q) (q0:0≤q) (q1:q≤aT l) (hv:small v) (v0:0≤v) {D:Int} (h:MkV l a q v D) {lg:List Qy} (hm:lg.length<2000) (K:List PV→List PV→Int→Int→Int→Prop) :
  Gf (aJ l) (aF lg) a q.num q.den v.num v.den K=K (aJ l) (aF (lg++[eI a q v (dN l a q v)])) (dN l a q v).num (dN l a q v).den 0:=by
 have n6:=hd.n6;rw [yP4 hd.fin (by omega) (Kj lg) hs.i1 hs.i2 hv.i1 hv.i2];have k:=yGD hd ha hs q0 q1 hv v0 h hm K;rw [xb hd.fin (by omega) (Kj lg) hs.i1 hs.i2 hv.i1 hv.i2] at k;exact k
theorem yRy (hd:DK l) {a:Nat} (ha:a<l.length) {q p:Rat} (hs:small q) (hp:small p) (q0:0≤q) (qp:q≤p) (p1:p≤aT l) {D:Int} (hD:1≤D∧D≤50000000000000) (hq:In D q) (hpD:In D p) {lg:List Qy} (hm:lg.length<2000) (K:List PV→List PV→Int→Int→Int→Prop) :
  Dg (aJ l) (aF lg) a q.num q.den p.num p.den K=K (aJ l) (aF (lg++[bG l a q p])) (cI l a p-cI l a q).num (cI l a p-cI l a q).den 0:=by
 rw [yOP hd hs.i1 hs.i2 lg hp,(yGC hd ha hs hp q0 qp p1 hD hq hpD (m:=lg.length) hm).1];rfl
end
set_option maxHeartbeats 1000000
section
variable {l:List Ck} {A:List Nat} {q p:Rat} {D:Int}
theorem Ar (n:Int) (K:Int→Int→Prop):cM n K=K n 1:=rfl
end
set_option maxHeartbeats 1000000
section
variable {l:List Ck}
theorem yTi (A:List (List RS)) (h1:A.length≤1000) (h2:∀ a∈A,a.length≤1000) (K:Bool→Prop):Bp (qG A) (qG A) K=K true:=by
 have e:qG A=Ak (A.map fun a=>a.map dW):=by unfold qG Ak;rw [List.map_map];rfl
 rw [e];refine xu (fun i hi=>?_) (by rw [lY];omega) K;rw [lY] at hi;rw [dK,pE,dL hi];show ((A[i]).map dW).length<_;have:=h2 _ (wP hi);rw [lY];omega
end
section
variable {l:List Ck}
theorem lI (hd:DK l) {a:Nat} (ha:a<l.length) {s:RS} (h:VQ l s) {lg:List Qy} (hm:lg.length<2000) (K:Int→Int→List PV→List PV→Int→Prop) :
  yac (aJ l) (aF lg) 0 a s.1.num s.1.den s.2.num s.2.den K=K (vS l a s).num (vS l a s).den (aJ l) (aF (lg++[bG l a s.1 s.2])) 0:=by
 obtain ⟨D,hD,k1,k2⟩:=h.D;unfold yac XB;rw [sD rfl,aV,yRy hd ha h.s1 h.s2 h.z h.le h.len hD k1 k2 hm];rfl
theorem KE (hd:DK l) {a:Nat} (ha:a<l.length) {q v:Rat} (hs:small q) (q0:0≤q) (q1:q≤aT l) (hv:small v) (v0:0≤v) {D:Int} (h:MkV l a q v D) {lg:List Qy} (hm:lg.length<2000) (K:Int→Int→List PV→List PV→Int→Prop) :
  yag (aJ l) (aF lg) 0 a q.num q.den v.num v.den K=K (dN l a q v).num (dN l a q v).den (aJ l) (aF (lg++[eI a q v (dN l a q v)])) 0:=by
 unfold yag XA;rw [sD rfl,aV,ySy hd ha hs q0 q1 hv v0 h hm]
theorem yQx {v:Rat} (hv:small v) (h:small (v*r13)) (c g:List PV) (K:Int→Int→List PV→List PV→Int→Prop) :
  yaf c g 0 v.num v.den 1 K=K (v*r13).num (v*r13).den c g 0:=by
 unfold yaf Ob;have m1:=fun K=>OC hv Kx K
 rw [Kt,Ku] at m1;have m1:∀ K,yg9 v.num v.den 1 3 K=_:=m1;rw [sD rfl,aV,m1,jP,Tu h]
theorem yQy {v:Rat} (hv:small v) (h:small (v*cY)) (c g:List PV) (K:Int→Int→List PV→List PV→Int→Prop) :
  yaf c g 0 v.num v.den 2 K=K (v*cY).num (v*cY).den c g 0:=by
 unfold yaf Ob;have m1:=fun K=>OC hv Ky K
 rw [Kv,Kw] at m1;have m1:∀ K,yg9 v.num v.den 2 3 K=_:=m1;rw [sD rfl,aV,m1,jP,Tu h]
theorem Zb {a b:Rat} (ha:small a) (hb:small b) (h:small (a-b)) (c g:List PV) (K:Int→Int→List PV→List PV→Int→Prop) :
  yaF c g 0 a.num a.den b.num b.den K=K (a-b).num (a-b).den c g 0:=by
 unfold yaF XC;rw [sD rfl,aV,Yd ha hb,jP,Tu h]
end
section
variable (A:Int→Int→Int→Int→(Bool→Prop)→Prop) (x:Int→Int→Int→Int→Int→Int→Bool→Bool→Bool→Int→Int→Bool→Prop) (a0 b0 a1 b1 a2 b2:Int) (t0 t1 t2:Bool)
def bI (a b c:Int) (k:Nat):Int:=if k=0 then a else if k=1 then b else c
theorem Zc:nF A x 4 a0 b0 a1 b1 a2 b2 false t1 t2 (-1) 0=nF A x 3 a0 b0 a1 b1 a2 b2 false t1 t2 0 1:=by kernel_rfl
theorem Zd:nF A x 4 a0 b0 a1 b1 a2 b2 true t1 t2 (-1) 0=nF A x 3 a0 b0 a1 b1 a2 b2 true t1 t2 (-1) 1:=by kernel_rfl
theorem Ze:nF A x 3 a0 b0 a1 b1 a2 b2 t0 false t2 (-1) 1=nF A x 2 a0 b0 a1 b1 a2 b2 t0 false t2 1 2:=by kernel_rfl
theorem be1:nF A x 3 a0 b0 a1 b1 a2 b2 t0 false t2 0 1=A a0 b0 a1 b1 (fun b=>aA b (nF A x 2 a0 b0 a1 b1 a2 b2 t0 false t2 1 2) (nF A x 2 a0 b0 a1 b1 a2 b2 t0 false t2 0 2)):=by kernel_rfl
theorem Zf:nF A x 3 a0 b0 a1 b1 a2 b2 t0 true t2 0 1=nF A x 2 a0 b0 a1 b1 a2 b2 t0 true t2 0 2:=by kernel_rfl
theorem KF:nF A x 2 a0 b0 a1 b1 a2 b2 t0 t1 false 0 2=A a0 b0 a2 b2 (fun b=>aA b (x a0 b0 a1 b1 a2 b2 t0 t1 false 2 3 false) (x a0 b0 a1 b1 a2 b2 t0 t1 false 0 3 false)):=by kernel_rfl
theorem KG:nF A x 2 a0 b0 a1 b1 a2 b2 t0 t1 false 1 2=A a1 b1 a2 b2 (fun b=>aA b (x a0 b0 a1 b1 a2 b2 t0 t1 false 2 3 false) (x a0 b0 a1 b1 a2 b2 t0 t1 false 1 3 false)):=by kernel_rfl
theorem yTj:nF A x 2 a0 b0 a1 b1 a2 b2 t0 t1 true 0 2=x a0 b0 a1 b1 a2 b2 t0 t1 true 0 3 false:=by kernel_rfl
theorem yTk:nF A x 2 a0 b0 a1 b1 a2 b2 t0 t1 true 1 2=x a0 b0 a1 b1 a2 b2 t0 t1 true 1 3 false:=by kernel_rfl
end
section
variable {a b c:Rat} (ha:small a) (hb:small b) (hc:small c)
include ha hb hc
theorem Zg (K:Int→Prop):yat a.num a.den b.num b.den c.num c.den false false false K=K (pk [a,b,c]:Nat):=by
 refine Ot _ _ _ _ _ _ _ _ _ _ (fun K k=>?_) K;unfold yat Gu;refine ⟨4,?_⟩;rw [Zc,be1,nH ha hb];have e:pk [a,b,c]=if a<b then (if b<c then 2 else 1) else (if a<c then 2 else 0):=by
  have n:∀ q:Rat,¬q<q:=fun q h=>qK h
  show lV (fun i=>[a,b,c].getD i 0) (if a<a then 0 else 0) [1,2]=_;rw [Zv (n a)];show lV (fun i=>[a,b,c].getD i 0) (if a<b then 1 else 0) [2]=_
  by_cases h:a<b
  ·rw [Tu h,Tu h];rfl
  ·rw [Zv h,Zv h];rfl
 rw [e] at k
 by_cases h:a<b
 ·rw [Os h,aY,KG,nH hb hc];rw [Tu h] at k
  by_cases h2:b<c
  ·rw [Os h2,aY];rw [Tu h2] at k;exact k
  ·rw [Pn h2,aV];rw [Zv h2] at k;exact k
 ·rw [Pn h,aV,KF,nH ha hc];rw [Zv h] at k
  by_cases h2:a<c
  ·rw [Os h2,aY];rw [Tu h2] at k;exact k
  ·rw [Pn h2,aV];rw [Zv h2] at k;exact k
omit ha in
theorem yTl (K:Int→Prop):yat a.num a.den b.num b.den c.num c.den true false false K=K (pkO [a,b,c] 0:Nat):=by
 refine Ot _ _ _ _ _ _ _ _ _ _ (fun K k=>?_) K;unfold yat Gu;refine ⟨4,?_⟩;rw [Zd,Ze,KG,nH hb hc];have e:pkO [a,b,c] 0=if b<c then 2 else 1:=by
  have n:∀ q:Rat,¬q<q:=fun q h=>qK h
  show lV (fun i=>[a,b,c].getD i 0) (if b<b then 1 else 1) [2]=_;rw [Zv (n b)];rfl
 rw [e] at k
 by_cases h:b<c
 ·rw [Os h,aY];rw [Tu h] at k;exact k
 ·rw [Pn h,aV];rw [Zv h] at k;exact k
omit hb in
theorem yTm (K:Int→Prop):yat a.num a.den b.num b.den c.num c.den false true false K=K (pkO [a,b,c] 1:Nat):=by
 refine Ot _ _ _ _ _ _ _ _ _ _ (fun K k=>?_) K;unfold yat Gu;refine ⟨4,?_⟩;rw [Zc,Zf,KF,nH ha hc];have e:pkO [a,b,c] 1=if a<c then 2 else 0:=by
  have n:∀ q:Rat,¬q<q:=fun q h=>qK h
  show lV (fun i=>[a,b,c].getD i 0) (if a<a then 0 else 0) [2]=_;rw [Zv (n a)];rfl
 rw [e] at k
 by_cases h:a<c
 ·rw [Os h,aY];rw [Tu h] at k;exact k
 ·rw [Pn h,aV];rw [Zv h] at k;exact k
omit hc in
theorem yTn (K:Int→Prop):yat a.num a.den b.num b.den c.num c.den false false true K=K (pkO [a,b,c] 2:Nat):=by
 refine Ot _ _ _ _ _ _ _ _ _ _ (fun K k=>?_) K;unfold yat Gu;refine ⟨4,?_⟩;rw [Zc,be1,nH ha hb];have e:pkO [a,b,c] 2=if a<b then 1 else 0:=by
  have n:∀ q:Rat,¬q<q:=fun q h=>qK h
  show lV (fun i=>[a,b,c].getD i 0) (if a<a then 0 else 0) [1]=_;rw [Zv (n a)];rfl
 rw [e] at k
 by_cases h:a<b
 ·rw [Os h,aY,yTk];rw [Tu h] at k;exact k
 ·rw [Pn h,aV,yTj];rw [Zv h] at k;exact k
theorem Zh {p:Nat} (hp:p<3) (K:Int→Prop):yat a.num a.den b.num b.den c.num c.den (decide (p=0)) (decide (p=1)) (decide (p=2)) K=K (pkO [a,b,c] p:Nat):=by
 obtain rfl|rfl|rfl:p=0∨p=1∨p=2:=by omega
 ·exact yTl hb hc K
 ·exact yTm ha hc K
 ·exact yTn ha hb K
end
set_option maxHeartbeats 4000000
theorem lW {f:Nat→Prop} {R:Prop} (h:∀ n,f n=R):(∃ n,f n)=R:=Aac ⟨fun ⟨n,k⟩=>h n ▸ k,fun k=>⟨0,(h 0).symm ▸ k⟩⟩
def GQ (pc:Int) (o b:Nat):Int:=if 0≤pc∧pc≠o then pc else b
def iM (p k:Nat) (c i:Int):Int:=if p=k then c else i
section
variable {x:List PV→List PV→Int→Int→Int→Int→Int→Int→Int→Int→Int→Int→Int→Int→Int→Int→Int→Int→Int→Int→Int→Int→Int→Prop} {l0 l1:List PV} {i2 i3 i4 i5 i6 i7 i8 i9 j0 j1 j2 j3 j4 j5 j6 j7 j8 j9 r0 r1 r2 r3 r4 r5 r6 r7 r8 r9 s0 s1 s2 s3 s4 s5 s6 s7 s8 s9 q0 q1 q2 q3 q4 q5 q6 q7 q8:Int}
theorem f70 {o b:Nat} (ho:o<3) (hb:b<3) {pc:Int} (hp:pc=-1∨pc=0∨pc=1∨pc=2) {c1 g1 c2 g2 c3 g3:List PV} {u0 d0 u1 d1 u2 d2 e1 e2 e3:Int}
  (h1:∀ K,yac l0 l1 i2 2 r3 r4 r5 r6 K=K u0 d0 c1 g1 e1)
  (h2:∀ K,yac c1 g1 e1 2 r7 r8 r9 s0 K=K u1 d1 c2 g2 e2)
  (h3:∀ K,yac c2 g2 e2 2 s1 s2 s3 s4 K=K u2 d2 c3 g3 e3)
  (hw:∀ K,yat u0 d0 u1 d1 u2 d2 false false false K=K (o:Nat))
  (hv:∀ K,yat q3 q4 q5 q6 q7 q8 (decide (o=0)) (decide (o=1)) (decide (o=2)) K=K (b:Nat)) {b49 b50 b51:Bool} :
  (∃ n:Nat,rY cM ya7 yaf yag yac yaF yat yaw x n l0 l1 i2 i3 i4 i5 i6 i7 i8 i9 j0 j1 j2 j3 j4 j5 j6 j7 j8 j9 r0 r1 r2 r3 r4 r5 r6 r7 r8 r9 s0 s1 s2 s3 s4 pc s6 s7 s8 s9 q0 q1 q2 q3 q4 q5 q6 q7 q8 b49 b50 b51)=x c3 g3 e3 r3 r4 r5 r6 r7 r8 r9 s0 s1 s2 s3 s4 pc s6 s7 s8 s9 (3-GQ pc o b-o) (GQ pc o b) o:=by
 refine lW fun n=>?_
 unfold rY;dsimp only;rw [h1,h2,h3];unfold JF;dsimp only;rw [cK,hw];unfold Oh;dsimp only;rw [cK];obtain rfl | rfl | rfl:o=0∨o=1∨o=2:=by omega
 case' inl=>rw [aO (by decide)]
 case' inr.inl=>rw [aP (by decide),aO (by decide)]
 case' inr.inr=>rw [aP (by decide),aP (by decide),aO (by decide)]
 all_goals
  unfold Gv;dsimp only;rw [cK];refine (hv _).trans ?_;unfold Og;dsimp only;rw [cK];obtain rfl | rfl | rfl | rfl:=hp
  all_goals
   first
    | rw [aO (by decide),aO (by decide)]
    | rw [aO (by decide),aP (by decide),aO (by decide)]
    | rw [aO (by decide),aP (by decide),aP (by decide),aO (by decide)]
    | rw [aP (by decide)]
  all_goals
   unfold Dv;dsimp only;rw [cK]
   first
    | rw [jF,aV]
    | rw [jT,aY]
    | rw [aV]
   first | (unfold Dw;dsimp only;rw [cK]) | (unfold Dx;dsimp only;rw [cK])
   obtain rfl|rfl|rfl:b=0∨b=1∨b=2:=by omega
   all_goals kernel_rfl
theorem f71 {o b:Nat} (ho:o<3) (hb:b<3) {pc:Int} (hp:pc=-1∨pc=0∨pc=1∨pc=2) {c1 g1 c2 g2 c3 g3:List PV} {u0 d0 u1 d1 u2 d2 e1 e2 e3:Int}
  (h1:∀ K,yac l0 l1 i2 2 r3 r4 r5 r6 K=K u0 d0 c1 g1 e1)
  (h2:∀ K,yac c1 g1 e1 2 r7 r8 r9 s0 K=K u1 d1 c2 g2 e2)
  (h3:∀ K,yac c2 g2 e2 2 s1 s2 s3 s4 K=K u2 d2 c3 g3 e3)
  (hw:∀ K,yat u0 d0 u1 d1 u2 d2 false false false K=K (o:Nat))
  (hv:∀ K,yat q3 q4 q5 q6 q7 q8 (decide (o=0)) (decide (o=1)) (decide (o=2)) K=K (b:Nat)) {q9:Int} {b50 b51 b52:Bool} {z3:Int} {b54:Bool} :
  (∃ n:Nat,rZ cM ya7 yaf yag yac yaF yat yaw x n l0 l1 i2 i3 i4 i5 i6 i7 i8 i9 j0 j1 j2 j3 j4 j5 j6 j7 j8 j9 r0 r1 r2 r3 r4 r5 r6 r7 r8 r9 s0 s1 s2 s3 s4 pc s6 s7 s8 s9 q0 q1 q2 q3 q4 q5 q6 q7 q8 q9 b50 b51 b52 z3 b54)=x c3 g3 e3 r3 r4 r5 r6 r7 r8 r9 s0 s1 s2 s3 s4 pc s6 s7 s8 s9 (3-GQ pc o b-o) (GQ pc o b) o:=by
 refine lW fun n=>?_
 unfold rZ;dsimp only;rw [h1,h2,h3];unfold JF;dsimp only;rw [cK,hw];unfold Oh;dsimp only;rw [cK];obtain rfl | rfl | rfl:o=0∨o=1∨o=2:=by omega
 case' inl=>rw [aO (by decide)]
 case' inr.inl=>rw [aP (by decide),aO (by decide)]
 case' inr.inr=>rw [aP (by decide),aP (by decide),aO (by decide)]
 all_goals
  unfold Gv;dsimp only;rw [cK];refine (hv _).trans ?_;unfold Og;dsimp only;rw [cK];obtain rfl | rfl | rfl | rfl:=hp
  all_goals
   first
    | rw [aO (by decide),aO (by decide)]
    | rw [aO (by decide),aP (by decide),aO (by decide)]
    | rw [aO (by decide),aP (by decide),aP (by decide),aO (by decide)]
    | rw [aP (by decide)]
  all_goals
   unfold Dv;dsimp only;rw [cK]
   first
    | rw [jF,aV]
    | rw [jT,aY]
    | rw [aV]
   first | (unfold Dw;dsimp only;rw [cK]) | (unfold Dx;dsimp only;rw [cK])
   obtain rfl|rfl|rfl:b=0∨b=1∨b=2:=by omega
   all_goals kernel_rfl
theorem Zi {p q:Nat} (hp:p<3) (hq:q<3) (hne:q≠p)
  (hb:∀ K,yat q3 q4 q5 q6 q7 q8 (decide (p=0)) (decide (p=1)) (decide (p=2)) K=K (q:Nat))
  (hl:∀ K,yaw (bI q3 q5 q7 q) (bI q4 q6 q8 q) (bI q3 q5 q7 p) (bI q4 q6 q8 p) K=K false) :
  (∃ n:Nat,Aa cM ya7 yaf yag yac yaF yat yaw x n l0 l1 i2 i3 i4 i5 i6 i7 i8 i9 j0 j1 j2 j3 j4 j5 j6 j7 j8 j9 r0 r1 r2 r3 r4 r5 r6 r7 r8 r9 s0 s1 s2 s3 s4 s5 s6 s7 s8 s9 q0 q1 q2 q3 q4 q5 q6 q7 q8 (p:Nat) (decide (p=0)) (decide (p=1)) (decide (p=2)))=∃ n:Nat,rZ cM ya7 yaf yag yac yaF yat yaw x n l0 l1 i2 i3 i4 i5 i6 i7 i8 i9 j0 j1 j2 j3 j4 j5 j6 j7 j8 j9 r0 r1 r2 r3 r4 r5 r6 r7 r8 r9 s0 s1 s2 s3 s4 s5 s6 s7 s8 s9 q0 q1 q2 q3 q4 q5 q6 q7 q8 (p:Nat) (decide (p=0)) (decide (p=1)) (decide (p=2)) (q:Nat) false:=by
 refine lW fun n=>?_
 have key:(p=0∧q=1)∨(p=0∧q=2)∨(p=1∧q=0)∨(p=1∧q=2)∨(p=2∧q=0)∨(p=2∧q=1):=by omega
 obtain ⟨rfl,rfl⟩|⟨rfl,rfl⟩|⟨rfl,rfl⟩|⟨rfl,rfl⟩|⟨rfl,rfl⟩|⟨rfl,rfl⟩:=key
 all_goals
  unfold Aa;dsimp only;refine (hb _).trans ?_
  first
   | rw [aO (by decide)]
   | rw [aP (by decide),aO (by decide)]
   | rw [aP (by decide),aP (by decide),aO (by decide)]
  first
   | rw [aO (by decide)]
   | rw [aP (by decide),aO (by decide)]
   | rw [aP (by decide),aP (by decide),aO (by decide)]
  refine (hl _).trans ?_;unfold tZ;dsimp only;rw [cK];rw [aV]
theorem Zj {p q:Nat} (hp:p<3) (hq:q<3) (hne:q≠p)
  (hb:∀ K,yat q3 q4 q5 q6 q7 q8 (decide (p=0)) (decide (p=1)) (decide (p=2)) K=K (q:Nat))
  (hl:∀ K,yaw (bI q3 q5 q7 q) (bI q4 q6 q8 q) (bI q3 q5 q7 p) (bI q4 q6 q8 p) K=K true)
  {on od cn cd e0 e1:Int} {c0 g0 c1 g1:List PV} (hs:∀ K,yaF l0 l1 i2 (bI q3 q5 q7 p) (bI q4 q6 q8 p) (bI q3 q5 q7 q) (bI q4 q6 q8 q) K=K on od c0 g0 e0)
  (hm:∀ K,yag c0 g0 e0 1 (bI r3 r7 s1 p) (bI r4 r8 s2 p) on od K=K cn cd c1 g1 e1) :
  (∃ n:Nat,Aa cM ya7 yaf yag yac yaF yat yaw x n l0 l1 i2 i3 i4 i5 i6 i7 i8 i9 j0 j1 j2 j3 j4 j5 j6 j7 j8 j9 r0 r1 r2 r3 r4 r5 r6 r7 r8 r9 s0 s1 s2 s3 s4 s5 s6 s7 s8 s9 q0 q1 q2 q3 q4 q5 q6 q7 q8 (p:Nat) (decide (p=0)) (decide (p=1)) (decide (p=2)))=∃ n:Nat,rY cM ya7 yaf yag yac yaF yat yaw x n c1 g1 e1 i3 i4 i5 i6 i7 i8 i9 j0 j1 j2 j3 j4 j5 j6 j7 j8 j9 r0 r1 r2 (iM p 0 cn r3) (iM p 0 cd r4) r5 r6 (iM p 1 cn r7) (iM p 1 cd r8) r9 s0 (iM p 2 cn s1) (iM p 2 cd s2) s3 s4 (p:Nat) (bI r3 r7 s1 p) (bI r4 r8 s2 p) cn cd q0 q1 q2 (iM p 0 (bI q3 q5 q7 q) q3) (iM p 0 (bI q4 q6 q8 q) q4) (iM p 1 (bI q3 q5 q7 q) q5) (iM p 1 (bI q4 q6 q8 q) q6) (iM p 2 (bI q3 q5 q7 q) q7) (iM p 2 (bI q4 q6 q8 q) q8) (decide (p=0)) (decide (p=1)) (decide (p=2)):=by
 refine lW fun n=>?_
 have key:(p=0∧q=1)∨(p=0∧q=2)∨(p=1∧q=0)∨(p=1∧q=2)∨(p=2∧q=0)∨(p=2∧q=1):=by omega
 obtain ⟨rfl,rfl⟩|⟨rfl,rfl⟩|⟨rfl,rfl⟩|⟨rfl,rfl⟩|⟨rfl,rfl⟩|⟨rfl,rfl⟩:=key
 all_goals
  unfold Aa;dsimp only;refine (hb _).trans ?_
  first
   | rw [aO (by decide)]
   | rw [aP (by decide),aO (by decide)]
   | rw [aP (by decide),aP (by decide),aO (by decide)]
  first
   | rw [aO (by decide)]
   | rw [aP (by decide),aO (by decide)]
   | rw [aP (by decide),aP (by decide),aO (by decide)]
  refine (hl _).trans ?_;unfold tZ;dsimp only;rw [cK];rw [aY]
  first
   | rw [aO (by decide),aO (by decide)]
   | rw [aO (by decide),aP (by decide),aO (by decide)]
   | rw [aO (by decide),aP (by decide),aP (by decide),aO (by decide)]
   | rw [aP (by decide),aO (by decide),aP (by decide),aO (by decide)]
   | rw [aP (by decide),aP (by decide),aO (by decide),aP (by decide),aP (by decide),aO (by decide)]
  first
   | rw [aO (by decide)]
   | rw [aP (by decide),aO (by decide)]
   | rw [aP (by decide),aP (by decide),aO (by decide)]
  refine (hs _).trans ?_;refine (hm _).trans ?_;unfold iU;dsimp only;rw [cK]
  first
   | rw [aO (by decide)]
   | rw [aP (by decide),aO (by decide)]
   | rw [aP (by decide),aP (by decide),aO (by decide)]
  unfold JE;dsimp only;rw [cK]
  first
   | rw [aO (by decide)]
   | rw [aP (by decide),aO (by decide)]
   | rw [aP (by decide),aP (by decide),aO (by decide)]
  unfold JD;dsimp only;rw [cK]
  first
   | rw [aO (by decide)]
   | rw [aP (by decide),aO (by decide)]
   | rw [aP (by decide),aP (by decide),aO (by decide)]
  first
   | rw [aO (by decide)]
   | rw [aP (by decide),aO (by decide)]
   | rw [aP (by decide),aP (by decide),aO (by decide)]
  rfl
theorem f10 {p:Nat} (hp:p<3) (ha:∀ K,yat q3 q4 q5 q6 q7 q8 false false false K=K (p:Nat)) :
  (∃ n:Nat,JG cM ya7 yaf yag yac yaF yat yaw x n l0 l1 i2 i3 i4 i5 i6 i7 i8 i9 j0 j1 j2 j3 j4 j5 j6 j7 j8 j9 r0 r1 r2 r3 r4 r5 r6 r7 r8 r9 s0 s1 s2 s3 s4 s5 s6 s7 s8 s9 q0 q1 q2 q3 q4 q5 q6 q7 q8)=∃ n:Nat,Aa cM ya7 yaf yag yac yaF yat yaw x n l0 l1 i2 i3 i4 i5 i6 i7 i8 i9 j0 j1 j2 j3 j4 j5 j6 j7 j8 j9 r0 r1 r2 r3 r4 r5 r6 r7 r8 r9 s0 s1 s2 s3 s4 s5 s6 s7 s8 s9 q0 q1 q2 q3 q4 q5 q6 q7 q8 (p:Nat) (decide (p=0)) (decide (p=1)) (decide (p=2)):=by
 refine lW fun n=>?_
 unfold JG;dsimp only;refine (ha _).trans ?_;obtain rfl | rfl | rfl:p=0∨p=1∨p=2:=by omega
 case' inl=>rw [aO (by decide)]
 case' inr.inl=>rw [aP (by decide),aO (by decide)]
 case' inr.inr=>rw [aP (by decide),aP (by decide),aO (by decide)]
 all_goals rfl
theorem f00 {c1 g1 c2 g2:List PV} {un ud vn vd e1 e2 q9 z0:Int}
  (h1:∀ K,yaF l0 l1 i2 r3 r4 q5 q6 K=K un ud c1 g1 e1) (h2:∀ K,yaF c1 g1 e1 un ud q7 q8 K=K vn vd c2 g2 e2) :
  (∃ n:Nat,Oi cM ya7 yaf yag yac yaF yat yaw x n l0 l1 i2 i3 i4 i5 i6 i7 i8 i9 j0 j1 j2 j3 j4 j5 j6 j7 j8 j9 r0 r1 r2 r3 r4 r5 r6 r7 r8 r9 s0 s1 s2 s3 s4 s5 s6 s7 s8 s9 q0 q1 q2 q3 q4 q5 q6 q7 q8 q9 z0)=∃ n:Nat,JG cM ya7 yaf yag yac yaF yat yaw x n c2 g2 e2 i3 i4 i5 i6 i7 i8 i9 j0 j1 j2 j3 j4 j5 j6 j7 j8 j9 r0 r1 r2 r5 r6 r7 r8 r9 s0 s1 s2 s3 s4 s5 s6 s7 s8 s9 q0 q1 q2 q3 q4 q5 q6 q7 q8 vn vd:=by
 refine lW fun n=>?_
 unfold Oi;dsimp only;refine (h1 _).trans ?_;exact h2 _
end
set_option maxHeartbeats 1000000
section
variable {l:List Ck}
theorem slN {a b c:Rat} {q:Nat} (hq:q<3):bI a.num b.num c.num q=([a,b,c].getD q 0).num:=by
 obtain rfl|rfl|rfl:q=0∨q=1∨q=2:=by omega
 all_goals rfl
theorem slD {a b c:Rat} {q:Nat} (hq:q<3):bI a.den b.den c.den q=(([a,b,c].getD q 0).den:Int):=by
 obtain rfl|rfl|rfl:q=0∨q=1∨q=2:=by omega
 all_goals rfl
theorem Zk (hd:DK l) (h3:l.length=3) {i:Nat} (hi:i<3):small (vS l 2 (s3 l i)):=by
 have h2:2<l.length:=by omega
 obtain ⟨D',D1',iD'⟩:=sM hd h3;have h:=(iD' i hi).1;obtain ⟨b1,b2⟩:=GM hd h2 h.z h.le h.len;have b3:=uD hd h2;exact kE (xV D1'.1 (iD' i hi).2) ⟨D1'.1,by omega⟩ (by grind) (by grind)
theorem Zl (hd:DK l) (h3:l.length=3) {i:Nat} (hi:i<3):small ((dZ l).getD i 0):=by
 have hq:q3 l<3∧q3 l≠p3 l:=KA l;have hl:(cN l).length=3:=rfl;have hp:p3 l<3:=Ao l;unfold dZ
 cases tr3 l with
 | false=>exact (pD hd h3 hi).1
 | true=>
  rw [cond_true]
  by_cases e:i=p3 l
  ·rw [e,dK,uG (by omega)];exact (pD hd h3 hq.1).1
  ·rw [dK,qZ (fun h=>e h.symm),← dK];exact (pD hd h3 hi).1
theorem yQC (l:List Ck):dZ l=[(dZ l).getD 0 0,(dZ l).getD 1 0,(dZ l).getD 2 0]:=by
 have h:(dZ l).length=3:=by
  unfold dZ
  cases tr3 l with
  | false=>rfl
  | true=>rw [cond_true,sR];rfl
 match h2:dZ l,h with
 | [a,b,c],_=>rfl
theorem yQD (l:List Ck):(o0 l:Int)=3-(o1 l:Int)-(o2 l:Int):=by have h1:=Ap l;have h2:=wL l;rw [yRQ];omega
theorem yQE (l:List Ck):GQ (jL l) (o2 l) (pkO (dZ l) (o2 l))=(o1 l:Int):=by
 rw [GO];unfold GQ jL
 cases tr3 l with
 | false=>rw [cond_false,Zv (by omega)];rfl
 | true=>
  rw [cond_true,jU]
  by_cases h:p3 l=o2 l
  ·rw [Zv (by omega),Os h];rfl
  ·rw [Tu (by omega),Pn h];rfl
theorem yNA (l:List Ck):jL l=-1∨jL l=0∨jL l=1∨jL l=2:=by
 have:=Ao l;unfold jL
 cases tr3 l with
 | false=>exact .inl rfl
 | true=>rw [cond_true];omega
theorem Zm {k:Nat} (hk:k<3) (ht:tr3 l=true):iM (p3 l) k (c3 l).num ((P3 l).getD k (0,0)).1.num=(s3 l k).1.num∧iM (p3 l) k (c3 l).den ((P3 l).getD k (0,0)).1.den=((s3 l k).1.den:Int)∧(s3 l k).2=((P3 l).getD k (0,0)).2:=by
 rw [uF hk,ht,jU];unfold iM
 by_cases h:p3 l=k
 ·rw [Tu h,Tu h,Os h.symm,h];exact ⟨rfl,rfl,rfl⟩
 ·rw [Zv h,Zv h,Pn (fun e=>h e.symm)];exact ⟨rfl,rfl,rfl⟩
theorem Zn {k:Nat} (hk:k<3) (ht:tr3 l=true):iM (p3 l) k ((cN l).getD (q3 l) 0).num ((cN l).getD k 0).num=((dZ l).getD k 0).num∧iM (p3 l) k ((cN l).getD (q3 l) 0).den ((cN l).getD k 0).den=(((dZ l).getD k 0).den:Int):=by
 have hl:(cN l).length=3:=rfl;unfold dZ iM;rw [ht,cond_true]
 by_cases h:p3 l=k
 ·rw [Tu h,Tu h,h,dK (l:=(cN l).set _ _),uG (by omega)];exact ⟨rfl,rfl⟩
 ·rw [Zv h,Zv h,dK (l:=(cN l).set _ _),qZ h,← dK];exact ⟨rfl,rfl⟩
theorem ySz (l:List Ck):decide ((cN l).getD (q3 l) 0<(cN l).getD (p3 l) 0)=tr3 l:=by
 have mx:(cN l).getD (q3 l) 0≤(cN l).getD (p3 l) 0:=yQu l (KA l).1;rw [yQv]
 by_cases h:(cN l).getD (p3 l) 0=(cN l).getD (q3 l) 0
 ·rw [Os h,Pn (by rw [h];exact qK)];rfl
 ·rw [Pn h,Os (by grind)];rfl
theorem yRz (hd:DK l) (h3:l.length=3) {lg:List Qy} (hm:lg.length+10<2000) (K) :
  yaC (aJ l) (aF lg) 0 K=K (s3 l 0).1.num (s3 l 0).1.den (s3 l 0).2.num (s3 l 0).2.den (s3 l 1).1.num (s3 l 1).1.den (s3 l 1).2.num (s3 l 1).2.den (s3 l 2).1.num (s3 l 2).1.den (s3 l 2).2.num (s3 l 2).2.den
   (jL l) (bif tr3 l then (aU l).num else 0) (bif tr3 l then ((aU l).den:Int) else 0) (bif tr3 l then (c3 l).num else 0) (bif tr3 l then ((c3 l).den:Int) else 0) (o0 l:Int) (o1 l:Int) (o2 l:Int) (aJ l) (aF (lg++eP l)) 0:=by
 obtain ⟨D,g⟩:=g3 hd h3;have h0:0<l.length:=by omega
 have h1:1<l.length:=by omega
 have h2:2<l.length:=by omega
 have D1:=g.D1;have v0:=(g.VQ hd h3 (i:=0) (by decide)).1;have v1:=(g.VQ hd h3 (i:=1) (by decide)).1;have v2:=(g.VQ hd h3 (i:=2) (by decide)).1;have i3:=In.r3 (totC (l.getD 0 default).cuts (l.getD 0 default).dens);have t0:=wK hd h0;have t12:=uD hd h0;have st:small (aQ l 0):=kE (D:=1) (In.int (by decide) _) ⟨by decide,by decide⟩ (by grind) (by grind);have st1:small (aQ l 1):=kE (D:=1) (In.int (by decide) _) ⟨by decide,by decide⟩ (by have:=wK hd h1;grind) (uD hd h1);have sa:small (aQ l 0*r13):=kE i3.1 ⟨by decide,by decide⟩ (by rw [gE];show -12000≤aQ l 0*(1/3);grind) (by rw [gE];show aQ l 0*(1/3)≤12000;grind);have sb:small (aQ l 0*cY):=kE i3.2 ⟨by decide,by decide⟩ (by rw [fU];show -12000≤aQ l 0*(2/3);grind) (by rw [fU];show aQ l 0*(2/3)≤12000;grind);have eA:A3 l=dN l 0 0 (aQ l 0*r13):=by unfold A3;rfl
 have eB:B3 l=dN l 0 0 (aQ l 0*cY):=by unfold B3;rfl
 have hle:0≤aT l:=by have:=g.a0;have:=g.ab;have:=g.bl;grind
 have whole:∀ a,a<l.length→∀ K,ya7 (l.getD a default).len (aR (l.getD a default).cuts) (aR (l.getD a default).dens) K=K (totC (l.getD a default).cuts (l.getD a default).dens):=fun a ha K=>yOt (hd.ok a ha) K
 have pt1:∀ {c g:List PV} K,yaf c g 0 (totC (l.getD 0 default).cuts (l.getD 0 default).dens) 1 1 K=K (aQ l 0*r13).num (aQ l 0*r13).den c g 0:=fun {c g} K=>yQx st sa c g K
 have pt2:∀ {c g:List PV} K,yaf c g 0 (totC (l.getD 0 default).cuts (l.getD 0 default).dens) 1 2 K=K (aQ l 0*cY).num (aQ l 0*cY).den c g 0:=fun {c g} K=>yQy st sb c g K
 have mA:∀ {lg:List Qy},lg.length<2000→∀ K,yag (aJ l) (aF lg) 0 0 0 1 (aQ l 0*r13).num (aQ l 0*r13).den K=K (A3 l).num (A3 l).den (aJ l) (aF (lg++[eI 0 0 (aQ l 0*r13) (A3 l)])) 0:=fun {lg} hm K=>by
  have:=KE hd h0 (q:=0) v0.s1 gQ hle sa (by rw [gE];grind) g.mA hm K;rw [← eA] at this;exact this
 have mB:∀ {lg:List Qy},lg.length<2000→∀ K,yag (aJ l) (aF lg) 0 0 0 1 (aQ l 0*cY).num (aQ l 0*cY).den K=K (B3 l).num (B3 l).den (aJ l) (aF (lg++[eI 0 0 (aQ l 0*cY) (B3 l)])) 0:=fun {lg} hm K=>by
  have:=KE hd h0 (q:=0) v0.s1 gQ hle sb (by rw [fU];grind) g.mB hm K;rw [← eB] at this;exact this
 have val0:∀ {lg:List Qy},lg.length<2000→∀ K,yac (aJ l) (aF lg) 0 1 0 1 (A3 l).num (A3 l).den K=K (vS l 1 (0,A3 l)).num (vS l 1 (0,A3 l)).den (aJ l) (aF (lg++[bG l 1 0 (A3 l)])) 0:=fun {lg} hm K=>lI hd h1 (s:=(0,A3 l)) v0 hm K
 have val1:∀ {lg:List Qy},lg.length<2000→∀ K,yac (aJ l) (aF lg) 0 1 (A3 l).num (A3 l).den (B3 l).num (B3 l).den K=K (vS l 1 (A3 l,B3 l)).num (vS l 1 (A3 l,B3 l)).den (aJ l) (aF (lg++[bG l 1 (A3 l) (B3 l)])) 0:=fun {lg} hm K=>lI hd h1 (s:=(A3 l,B3 l)) v1 hm K
 have w0:small (vS l 1 (0,A3 l))∧0≤vS l 1 (0,A3 l)∧vS l 1 (0,A3 l)≤12000:=pD hd h3 (i:=0) (by decide);have w1:small (vS l 1 (A3 l,B3 l))∧0≤vS l 1 (A3 l,B3 l)∧vS l 1 (A3 l,B3 l)≤12000:=pD hd h3 (i:=1) (by decide);have w2:small (vS l 1 (B3 l,aT l))∧0≤vS l 1 (B3 l,aT l)∧vS l 1 (B3 l,aT l)≤12000:=pD hd h3 (i:=2) (by decide);have eT:aQ l 1-vS l 1 (0,A3 l)-vS l 1 (A3 l,B3 l)=vS l 1 (B3 l,aT l):=by rw [← Am hd h1];show cI l 1 (aT l)-cI l 1 0-(cI l 1 (A3 l)-cI l 1 0)-(cI l 1 (B3 l)-cI l 1 (A3 l))=cI l 1 (aT l)-cI l 1 (B3 l);grind
 have e1:aQ l 1-vS l 1 (0,A3 l)=vS l 1 (A3 l,B3 l)+vS l 1 (B3 l,aT l):=by grind
 have i1:In D (aQ l 1-vS l 1 (0,A3 l)):=(In.int D1.1 _).sub (xV D1.1 (g.VQ hd h3 (i:=0) (by decide)).2);have s1:small (aQ l 1-vS l 1 (0,A3 l)):=kE i1 ⟨D1.1,by omega⟩ (by grind) (by have:=uD hd h1;grind);have sub0:∀ {c g:List PV} K,yaF c g 0 (totC (l.getD 1 default).cuts (l.getD 1 default).dens) 1 (vS l 1 (0,A3 l)).num (vS l 1 (0,A3 l)).den K=K (aQ l 1-vS l 1 (0,A3 l)).num (aQ l 1-vS l 1 (0,A3 l)).den c g 0:=fun {c g} K=>Zb st1 w0.1 s1 c g K
 have sub1:∀ {c g:List PV} K,yaF c g 0 (aQ l 1-vS l 1 (0,A3 l)).num (aQ l 1-vS l 1 (0,A3 l)).den (vS l 1 (A3 l,B3 l)).num (vS l 1 (A3 l,B3 l)).den K=K (vS l 1 (B3 l,aT l)).num (vS l 1 (B3 l,aT l)).den c g 0:=fun {c g} K=>by
  have:=Zb s1 w1.1 (by rw [eT];exact w2.1) c g K;rw [eT] at this;exact this
 have hp:p3 l<3:=Ao l;have hq:q3 l<3∧q3 l≠p3 l:=KA l;have pA:∀ K,yat (vS l 1 (0,A3 l)).num (vS l 1 (0,A3 l)).den (vS l 1 (A3 l,B3 l)).num (vS l 1 (A3 l,B3 l)).den (vS l 1 (B3 l,aT l)).num (vS l 1 (B3 l,aT l)).den false false false K=K (p3 l:Nat):=fun K=>by unfold p3;exact Zg w0.1 w1.1 w2.1 K
 have pO:∀ K,yat (vS l 1 (0,A3 l)).num (vS l 1 (0,A3 l)).den (vS l 1 (A3 l,B3 l)).num (vS l 1 (A3 l,B3 l)).den (vS l 1 (B3 l,aT l)).num (vS l 1 (B3 l,aT l)).den (decide (p3 l=0)) (decide (p3 l=1)) (decide (p3 l=2)) K=K (q3 l:Nat):=fun K=>by unfold q3;exact Zh w0.1 w1.1 w2.1 hp K
 have vN:∀ {k:Nat},k<3→bI (vS l 1 (0,A3 l)).num (vS l 1 (A3 l,B3 l)).num (vS l 1 (B3 l,aT l)).num k=((cN l).getD k 0).num:=fun hk=>slN hk
 have vD:∀ {k:Nat},k<3→bI (vS l 1 (0,A3 l)).den (vS l 1 (A3 l,B3 l)).den (vS l 1 (B3 l,aT l)).den k=(((cN l).getD k 0).den:Int):=fun hk=>slD hk
 have fN:bI 0 (A3 l).num (B3 l).num (p3 l)=(aU l).num:=by
  rw [nJ];obtain e | e | e:p3 l=0∨p3 l=1∨p3 l=2:=by omega
  all_goals (rw [e];rfl)
 have fD:bI 1 (A3 l).den (B3 l).den (p3 l)=((aU l).den:Int):=by
  rw [nJ];obtain e | e | e:p3 l=0∨p3 l=1∨p3 l=2:=by omega
  all_goals (rw [e];rfl)
 have sp:=pD hd h3 hp;have sq:=pD hd h3 hq.1;have hl:∀ K,yaw (bI (vS l 1 (0,A3 l)).num (vS l 1 (A3 l,B3 l)).num (vS l 1 (B3 l,aT l)).num (q3 l)) (bI (vS l 1 (0,A3 l)).den (vS l 1 (A3 l,B3 l)).den (vS l 1 (B3 l,aT l)).den (q3 l)) (bI (vS l 1 (0,A3 l)).num (vS l 1 (A3 l,B3 l)).num (vS l 1 (B3 l,aT l)).num (p3 l)) (bI (vS l 1 (0,A3 l)).den (vS l 1 (A3 l,B3 l)).den (vS l 1 (B3 l,aT l)).den (p3 l)) K=K (tr3 l):=fun K=>by
  rw [vN hp,vD hp,vN hq.1,vD hq.1,nH sq.1 sp.1,ySz]
 have V:=fun i hi=>((sM hd h3).choose_spec.2 i hi:VQ l (s3 l i)∧_).1
 have ho2:o2 l<3:=wL l;have hb2:=YO (dZ l) ho2;have pW:∀ K,yat (vS l 2 (s3 l 0)).num (vS l 2 (s3 l 0)).den (vS l 2 (s3 l 1)).num (vS l 2 (s3 l 1)).den (vS l 2 (s3 l 2)).num (vS l 2 (s3 l 2)).den false false false K=K (o2 l:Nat):=fun K=>by
  have e:o2 l=pk [vS l 2 (s3 l 0),vS l 2 (s3 l 1),vS l 2 (s3 l 2)]:=by unfold o2 uE;rw [Pe];rfl
  rw [e];exact Zg (Zk hd h3 (by decide)) (Zk hd h3 (by decide)) (Zk hd h3 (by decide)) K
 have pS:∀ K,yat ((dZ l).getD 0 0).num ((dZ l).getD 0 0).den ((dZ l).getD 1 0).num ((dZ l).getD 1 0).den ((dZ l).getD 2 0).num ((dZ l).getD 2 0).den (decide (o2 l=0)) (decide (o2 l=1)) (decide (o2 l=2)) K=K (pkO (dZ l) (o2 l):Nat):=fun K=>by
  rw [Zh (Zl hd h3 (by decide)) (Zl hd h3 (by decide)) (Zl hd h3 (by decide)) ho2,← yQC]
 have u0:∀ {lg:List Qy},lg.length<2000→∀ K,yac (aJ l) (aF lg) 0 2 (s3 l 0).1.num (s3 l 0).1.den (s3 l 0).2.num (s3 l 0).2.den K=K (vS l 2 (s3 l 0)).num (vS l 2 (s3 l 0)).den (aJ l) (aF (lg++[bG l 2 (s3 l 0).1 (s3 l 0).2])) 0:=fun {lg} hm K=>lI hd h2 (V 0 (by decide)) hm K
 have u1:∀ {lg:List Qy},lg.length<2000→∀ K,yac (aJ l) (aF lg) 0 2 (s3 l 1).1.num (s3 l 1).1.den (s3 l 1).2.num (s3 l 1).2.den K=K (vS l 2 (s3 l 1)).num (vS l 2 (s3 l 1)).den (aJ l) (aF (lg++[bG l 2 (s3 l 1).1 (s3 l 1).2])) 0:=fun {lg} hm K=>lI hd h2 (V 1 (by decide)) hm K
 have u2:∀ {lg:List Qy},lg.length<2000→∀ K,yac (aJ l) (aF lg) 0 2 (s3 l 2).1.num (s3 l 2).1.den (s3 l 2).2.num (s3 l 2).2.den K=K (vS l 2 (s3 l 2)).num (vS l 2 (s3 l 2)).den (aJ l) (aF (lg++[bG l 2 (s3 l 2).1 (s3 l 2).2])) 0:=fun {lg} hm K=>lI hd h2 (V 2 (by decide)) hm K
 have eL:lg++[eI 0 0 (aQ l 0*r13) (A3 l)]++[eI 0 0 (aQ l 0*cY) (B3 l)]++[bG l 1 0 (A3 l)]++[bG l 1 (A3 l) (B3 l)]=lg++iH l:=by unfold iH;simp only [jE]
 have hmA:(lg++iH l).length=lg.length+4:=by rw [cR];rfl
 unfold yaC XG;dsimp only [lt];rw [Ar,iE,aI (by omega),nI h0,eO,mT,qR,qS,Ar,aI (by omega),eO,whole 0 h0,Ar,aI (by omega),nI h1,eO,mT,qR,qS,whole 1 h1,Ar,pt1,mA (by omega),pt2,mB (by simp only [cR,eQ];omega),val0 (by simp only [cR,eQ];omega),val1 (by simp only [cR,eQ];omega),eL];refine (f00 sub0 sub1).trans ?_;refine (f10 hp pA).trans ?_;have tail:∀ {lg':List Qy},lg'.length+3<2000→lg'++BI l=lg++eP l→aF ((lg'++[bG l 2 (s3 l 0).1 (s3 l 0).2])++[bG l 2 (s3 l 1).1 (s3 l 1).2]++[bG l 2 (s3 l 2).1 (s3 l 2).2])=aF (lg++eP l):=fun {lg'} _ e=>by
  rw [← e];unfold BI;simp only [jE]
 cases htr:tr3 l with
 | false=>
  rw [htr] at hl;have z:S3 l=P3 l:=by unfold S3;rw [htr];rfl
  have z0:s3 l 0=(0,A3 l):=by unfold s3;rw [z];rfl
  have z1:s3 l 1=(A3 l,B3 l):=by unfold s3;rw [z];rfl
  have z2:s3 l 2=(B3 l,aT l):=by unfold s3;rw [z];rfl
  have zv:dZ l=[vS l 1 (0,A3 l),vS l 1 (A3 l,B3 l),vS l 1 (B3 l,aT l)]:=by unfold dZ;rw [htr];rfl
  have e6:jL l=-1:=by unfold jL;rw [htr];rfl
  have eo:=yQE l;have em:=yNA l;have ei:=yQD l;have tl:=tail (lg':=lg++iH l) (by omega) (by unfold eP;rw [htr,cond_false,wR,jE]);rw [e6] at eo em;rw [zv] at pS eo hb2;rw [z0] at u0 pW;rw [z1] at u1 pW;rw [z2] at u2 pW;refine (Zi hp hq.1 hq.2 pO hl).trans ?_;refine (f71 ho2 hb2.1 em (u0 (by omega)) (u1 (by simp only [cR,eQ] at hmA ⊢;omega)) (u2 (by simp only [cR,eQ] at hmA ⊢;omega)) pW pS).trans ?_;rw [eo,← ei,e6,z0,z1,z2];rw [z0,z1,z2] at tl;rw [tl];rfl
 | true=>
  rw [htr] at hl;obtain ⟨D',C⟩:=sK hd h3;have subO:∀ K,yaF (aJ l) (aF (lg++iH l)) 0 (bI (vS l 1 (0,A3 l)).num (vS l 1 (A3 l,B3 l)).num (vS l 1 (B3 l,aT l)).num (p3 l)) (bI (vS l 1 (0,A3 l)).den (vS l 1 (A3 l,B3 l)).den (vS l 1 (B3 l,aT l)).den (p3 l)) (bI (vS l 1 (0,A3 l)).num (vS l 1 (A3 l,B3 l)).num (vS l 1 (B3 l,aT l)).num (q3 l)) (bI (vS l 1 (0,A3 l)).den (vS l 1 (A3 l,B3 l)).den (vS l 1 (B3 l,aT l)).den (q3 l)) K=K (cB l).num (cB l).den (aJ l) (aF (lg++iH l)) 0:=fun K=>by
   have so:=C.so;rw [DV] at so;rw [vN hp,vD hp,vN hq.1,vD hq.1,Zb sp.1 sq.1 so,← DV]
  have mk:∀ K,yag (aJ l) (aF (lg++iH l)) 0 1 (bI 0 (A3 l).num (B3 l).num (p3 l)) (bI 1 (A3 l).den (B3 l).den (p3 l)) (cB l).num (cB l).den K=K (c3 l).num (c3 l).den (aJ l) (aF (lg++iH l++[eI 1 (aU l) (cB l) (c3 l)])) 0:=fun K=>by
   obtain ⟨E,_,m⟩:=C.m;have w:=(g.VQ hd h3 hp).1;rw [fN,fD];have:=KE hd h1 (by rw [nJ];exact w.s1) (by rw [nJ];exact w.z) (by rw [nJ];exact nL w.le w.len) C.so C.o0 m (lg:=lg++iH l) (by omega) K;rw [← GN] at this;exact this
  have a0:iM (p3 l) 0 (c3 l).num 0=(s3 l 0).1.num∧iM (p3 l) 0 (c3 l).den 1=((s3 l 0).1.den:Int)∧(s3 l 0).2=A3 l:=Zm (by decide) htr;have a1:iM (p3 l) 1 (c3 l).num (A3 l).num=(s3 l 1).1.num∧iM (p3 l) 1 (c3 l).den (A3 l).den=((s3 l 1).1.den:Int)∧(s3 l 1).2=B3 l:=Zm (by decide) htr;have a2:iM (p3 l) 2 (c3 l).num (B3 l).num=(s3 l 2).1.num∧iM (p3 l) 2 (c3 l).den (B3 l).den=((s3 l 2).1.den:Int)∧(s3 l 2).2=aT l:=Zm (by decide) htr;have b0:iM (p3 l) 0 ((cN l).getD (q3 l) 0).num (vS l 1 (0,A3 l)).num=((dZ l).getD 0 0).num∧iM (p3 l) 0 ((cN l).getD (q3 l) 0).den (vS l 1 (0,A3 l)).den=(((dZ l).getD 0 0).den:Int):=Zn (by decide) htr;have b1:iM (p3 l) 1 ((cN l).getD (q3 l) 0).num (vS l 1 (A3 l,B3 l)).num=((dZ l).getD 1 0).num∧iM (p3 l) 1 ((cN l).getD (q3 l) 0).den (vS l 1 (A3 l,B3 l)).den=(((dZ l).getD 1 0).den:Int):=Zn (by decide) htr;have b2:iM (p3 l) 2 ((cN l).getD (q3 l) 0).num (vS l 1 (B3 l,aT l)).num=((dZ l).getD 2 0).num∧iM (p3 l) 2 ((cN l).getD (q3 l) 0).den (vS l 1 (B3 l,aT l)).den=(((dZ l).getD 2 0).den:Int):=Zn (by decide) htr;have tl:=tail (lg':=lg++iH l++[eI 1 (aU l) (cB l) (c3 l)]) (by rw [cR,hmA,eQ];omega) (by unfold eP;rw [htr,cond_true];simp only [jE]);have eo:=yQE l;have em:=yNA l;have ei:=yQD l;have e6:jL l=((p3 l:Nat):Int):=by unfold jL;rw [htr];rfl
  rw [e6] at eo em;refine (Zj hp hq.1 hq.2 pO hl subO mk).trans ?_;rw [vN hq.1,vD hq.1,b0.1,b0.2,b1.1,b1.2,b2.1,b2.2,a0.1,a0.2.1,a1.1,a1.2.1,a2.1,a2.2.1,fN,fD];rw [a0.2.2] at u0;rw [a1.2.2] at u1;rw [a2.2.2] at u2;refine (f70 ho2 hb2.1 em (u0 (by rw [cR,hmA,eQ];omega)) (u1 (by simp only [cR,eQ] at hmA ⊢;omega)) (u2 (by simp only [cR,eQ] at hmA ⊢;omega)) pW pS).trans ?_;rw [eo,← ei,e6];rw [a0.2.2,a1.2.2,a2.2.2] at tl ⊢;rw [tl];rfl
end
set_option maxHeartbeats 4000000
def mW (t one two k:Nat):Nat:=if k=t then one else if k=0 then two else 3-one-two
section
variable {l0 l1:List PV} {i2 i3 i4 i5 i6 i7 i8 i9 j0 j1 j2 j3 j4 j5 j6 j7 j8 j9 r0 r1 r2 r3 r4 r5 r6 r7 r8 r9 s0 s1 s2 s3 s4 s5 s6 s7 s8 s9:Int}
theorem s30 {x:List PV→List PV→Int→Int→Int→Int→Int→Int→Int→Int→Int→Int→Int→Int→Int→Int→Int→Int→Int→Int→Int→Int→Int→Int→Int→Int→Int→Int→Int→Bool→Bool→Bool→Int→Int→Int→Int→Int→Int→Int→Int→Bool→Prop} {ua da ub db e1 e2:Int} {c1 g1 c2 g2:List PV}
  (ha:∀ K,yac l0 l1 i2 0 r1 r2 r3 r4 K=K ua da c1 g1 e1) (hb:∀ K,yac c1 g1 e1 0 r5 r6 r7 r8 K=K ub db c2 g2 e2) :
  (∃ n:Nat,lQ yac yaf yag yat cM x n l0 l1 i2 i3 i4 i5 i6 i7 i8 i9 j0 j1 j2 j3 j4 j5 j6 j7 j8 j9 r0 r1 r2 r3 r4 r5 r6 r7 r8 true false false 0 0 0 0 0 0 0 0)=x c2 g2 e2 i3 i4 i5 i6 i7 i8 i9 j0 j1 j2 j3 j4 j5 j6 j7 j8 j9 r0 r1 r2 r3 r4 r5 r6 r7 r8 true false false 0 0 1 ua da ub db 3 false:=by
 refine (bR rfl (R:=fun n=>lQ yac yaf yag yat cM x n l0 l1 i2 i3 i4 i5 i6 i7 i8 i9 j0 j1 j2 j3 j4 j5 j6 j7 j8 j9 r0 r1 r2 r3 r4 r5 r6 r7 r8 true false false 0 0 1 0 0 0 0 1) (fun n=>by kernel_rfl)).trans ?_;refine (bR rfl (R:=fun n=>lQ yac yaf yag yat cM x n c1 g1 e1 i3 i4 i5 i6 i7 i8 i9 j0 j1 j2 j3 j4 j5 j6 j7 j8 j9 r0 r1 r2 r3 r4 r5 r6 r7 r8 true false false 0 0 1 ua da 0 0 2) (fun n=>Eq.trans (b:=yac l0 l1 i2 0 r1 r2 r3 r4 (fun y0 y1 y2 y3 y4=>lQ yac yaf yag yat cM x n y2 y3 y4 i3 i4 i5 i6 i7 i8 i9 j0 j1 j2 j3 j4 j5 j6 j7 j8 j9 r0 r1 r2 r3 r4 r5 r6 r7 r8 true false false 0 0 1 y0 y1 0 0 2)) (by kernel_rfl) (ha _))).trans ?_;refine (bR rfl (R:=fun n=>lQ yac yaf yag yat cM x n c2 g2 e2 i3 i4 i5 i6 i7 i8 i9 j0 j1 j2 j3 j4 j5 j6 j7 j8 j9 r0 r1 r2 r3 r4 r5 r6 r7 r8 true false false 0 0 1 ua da ub db 3) (fun n=>Eq.trans (b:=yac c1 g1 e1 0 r5 r6 r7 r8 (fun y0 y1 y2 y3 y4=>lQ yac yaf yag yat cM x n y2 y3 y4 i3 i4 i5 i6 i7 i8 i9 j0 j1 j2 j3 j4 j5 j6 j7 j8 j9 r0 r1 r2 r3 r4 r5 r6 r7 r8 true false false 0 0 1 ua da y0 y1 3)) (by kernel_rfl) (hb _))).trans ?_;refine (bR rfl (R:=fun _=>x c2 g2 e2 i3 i4 i5 i6 i7 i8 i9 j0 j1 j2 j3 j4 j5 j6 j7 j8 j9 r0 r1 r2 r3 r4 r5 r6 r7 r8 true false false 0 0 1 ua da ub db 3 false) (fun n=>by kernel_rfl)).trans ?_;exact cK
theorem s31 {x:List PV→List PV→Int→Int→Int→Int→Int→Int→Int→Int→Int→Int→Int→Int→Int→Int→Int→Int→Int→Int→Int→Int→Int→Int→Int→Int→Int→Int→Int→Bool→Bool→Bool→Int→Int→Int→Int→Int→Int→Int→Int→Bool→Prop} {ua da ub db e1 e2:Int} {c1 g1 c2 g2:List PV}
  (ha:∀ K,yac l0 l1 i2 0 j7 j8 j9 r0 K=K ua da c1 g1 e1) (hb:∀ K,yac c1 g1 e1 0 r5 r6 r7 r8 K=K ub db c2 g2 e2) :
  (∃ n:Nat,lQ yac yaf yag yat cM x n l0 l1 i2 i3 i4 i5 i6 i7 i8 i9 j0 j1 j2 j3 j4 j5 j6 j7 j8 j9 r0 r1 r2 r3 r4 r5 r6 r7 r8 false true false 1 0 0 0 0 0 0 0)=x c2 g2 e2 i3 i4 i5 i6 i7 i8 i9 j0 j1 j2 j3 j4 j5 j6 j7 j8 j9 r0 r1 r2 r3 r4 r5 r6 r7 r8 false true false 1 ua da 0 1 ub db 3 false:=by
 refine (bR rfl (R:=fun n=>lQ yac yaf yag yat cM x n c1 g1 e1 i3 i4 i5 i6 i7 i8 i9 j0 j1 j2 j3 j4 j5 j6 j7 j8 j9 r0 r1 r2 r3 r4 r5 r6 r7 r8 false true false 1 ua da 0 0 0 0 1) (fun n=>Eq.trans (b:=yac l0 l1 i2 0 j7 j8 j9 r0 (fun y0 y1 y2 y3 y4=>lQ yac yaf yag yat cM x n y2 y3 y4 i3 i4 i5 i6 i7 i8 i9 j0 j1 j2 j3 j4 j5 j6 j7 j8 j9 r0 r1 r2 r3 r4 r5 r6 r7 r8 false true false 1 y0 y1 0 0 0 0 1)) (by kernel_rfl) (ha _))).trans ?_;refine (bR rfl (R:=fun n=>lQ yac yaf yag yat cM x n c1 g1 e1 i3 i4 i5 i6 i7 i8 i9 j0 j1 j2 j3 j4 j5 j6 j7 j8 j9 r0 r1 r2 r3 r4 r5 r6 r7 r8 false true false 1 ua da 0 1 0 0 2) (fun n=>by kernel_rfl)).trans ?_;refine (bR rfl (R:=fun n=>lQ yac yaf yag yat cM x n c2 g2 e2 i3 i4 i5 i6 i7 i8 i9 j0 j1 j2 j3 j4 j5 j6 j7 j8 j9 r0 r1 r2 r3 r4 r5 r6 r7 r8 false true false 1 ua da 0 1 ub db 3) (fun n=>Eq.trans (b:=yac c1 g1 e1 0 r5 r6 r7 r8 (fun y0 y1 y2 y3 y4=>lQ yac yaf yag yat cM x n y2 y3 y4 i3 i4 i5 i6 i7 i8 i9 j0 j1 j2 j3 j4 j5 j6 j7 j8 j9 r0 r1 r2 r3 r4 r5 r6 r7 r8 false true false 1 ua da 0 1 y0 y1 3)) (by kernel_rfl) (hb _))).trans ?_;refine (bR rfl (R:=fun _=>x c2 g2 e2 i3 i4 i5 i6 i7 i8 i9 j0 j1 j2 j3 j4 j5 j6 j7 j8 j9 r0 r1 r2 r3 r4 r5 r6 r7 r8 false true false 1 ua da 0 1 ub db 3 false) (fun n=>by kernel_rfl)).trans ?_;exact cK
theorem s32 {x:List PV→List PV→Int→Int→Int→Int→Int→Int→Int→Int→Int→Int→Int→Int→Int→Int→Int→Int→Int→Int→Int→Int→Int→Int→Int→Int→Int→Int→Int→Bool→Bool→Bool→Int→Int→Int→Int→Int→Int→Int→Int→Bool→Prop} {ua da ub db e1 e2:Int} {c1 g1 c2 g2:List PV}
  (ha:∀ K,yac l0 l1 i2 0 j7 j8 j9 r0 K=K ua da c1 g1 e1) (hb:∀ K,yac c1 g1 e1 0 r1 r2 r3 r4 K=K ub db c2 g2 e2) :
  (∃ n:Nat,lQ yac yaf yag yat cM x n l0 l1 i2 i3 i4 i5 i6 i7 i8 i9 j0 j1 j2 j3 j4 j5 j6 j7 j8 j9 r0 r1 r2 r3 r4 r5 r6 r7 r8 false false true 2 0 0 0 0 0 0 0)=x c2 g2 e2 i3 i4 i5 i6 i7 i8 i9 j0 j1 j2 j3 j4 j5 j6 j7 j8 j9 r0 r1 r2 r3 r4 r5 r6 r7 r8 false false true 2 ua da ub db 0 1 3 false:=by
 refine (bR rfl (R:=fun n=>lQ yac yaf yag yat cM x n c1 g1 e1 i3 i4 i5 i6 i7 i8 i9 j0 j1 j2 j3 j4 j5 j6 j7 j8 j9 r0 r1 r2 r3 r4 r5 r6 r7 r8 false false true 2 ua da 0 0 0 0 1) (fun n=>Eq.trans (b:=yac l0 l1 i2 0 j7 j8 j9 r0 (fun y0 y1 y2 y3 y4=>lQ yac yaf yag yat cM x n y2 y3 y4 i3 i4 i5 i6 i7 i8 i9 j0 j1 j2 j3 j4 j5 j6 j7 j8 j9 r0 r1 r2 r3 r4 r5 r6 r7 r8 false false true 2 y0 y1 0 0 0 0 1)) (by kernel_rfl) (ha _))).trans ?_;refine (bR rfl (R:=fun n=>lQ yac yaf yag yat cM x n c2 g2 e2 i3 i4 i5 i6 i7 i8 i9 j0 j1 j2 j3 j4 j5 j6 j7 j8 j9 r0 r1 r2 r3 r4 r5 r6 r7 r8 false false true 2 ua da ub db 0 0 2) (fun n=>Eq.trans (b:=yac c1 g1 e1 0 r1 r2 r3 r4 (fun y0 y1 y2 y3 y4=>lQ yac yaf yag yat cM x n y2 y3 y4 i3 i4 i5 i6 i7 i8 i9 j0 j1 j2 j3 j4 j5 j6 j7 j8 j9 r0 r1 r2 r3 r4 r5 r6 r7 r8 false false true 2 ua da y0 y1 0 0 2)) (by kernel_rfl) (hb _))).trans ?_;refine (bR rfl (R:=fun n=>lQ yac yaf yag yat cM x n c2 g2 e2 i3 i4 i5 i6 i7 i8 i9 j0 j1 j2 j3 j4 j5 j6 j7 j8 j9 r0 r1 r2 r3 r4 r5 r6 r7 r8 false false true 2 ua da ub db 0 1 3) (fun n=>by kernel_rfl)).trans ?_;refine (bR rfl (R:=fun _=>x c2 g2 e2 i3 i4 i5 i6 i7 i8 i9 j0 j1 j2 j3 j4 j5 j6 j7 j8 j9 r0 r1 r2 r3 r4 r5 r6 r7 r8 false false true 2 ua da ub db 0 1 3 false) (fun n=>by kernel_rfl)).trans ?_;exact cK
theorem s20 {x:List PV→List PV→Int→Int→Int→Int→Int→Int→Int→Int→Int→Int→Int→Int→Int→Prop} {one two t m:Nat} (ho:one<3) (h2:two<3) (hne:two≠one) (ht:(t=1∧m=2)∨(t=2∧m=1)) {ua da ub db e1 e2:Int} {c1 g1 c2 g2:List PV}
  (ha:∀ K,yac l0 l1 i2 0 (bI j7 r1 r5 ((dX one).getD 0 0)) (bI j8 r2 r6 ((dX one).getD 0 0)) (bI j9 r3 r7 ((dX one).getD 0 0)) (bI r0 r4 r8 ((dX one).getD 0 0)) K=K ua da c1 g1 e1) (hb:∀ K,yac c1 g1 e1 0 (bI j7 r1 r5 ((dX one).getD 1 0)) (bI j8 r2 r6 ((dX one).getD 1 0)) (bI j9 r3 r7 ((dX one).getD 1 0)) (bI r0 r4 r8 ((dX one).getD 1 0)) K=K ub db c2 g2 e2)
  (hw:∀ K,yat (if 0=one then 0 else if 0=((dX one).getD 0 0) then ua else ub) (if 0=one then 1 else if 0=((dX one).getD 0 0) then da else db) (if 1=one then 0 else if 1=((dX one).getD 0 0) then ua else ub) (if 1=one then 1 else if 1=((dX one).getD 0 0) then da else db) (if 2=one then 0 else if 2=((dX one).getD 0 0) then ua else ub) (if 2=one then 1 else if 2=((dX one).getD 0 0) then da else db) (decide (one=0)) (decide (one=1)) (decide (one=2)) K=K (two:Nat)) :
  (∃ n:Nat,DC yac yaf yag yat cM x n l0 l1 i2 i3 i4 i5 i6 i7 i8 i9 j0 j1 j2 j3 j4 (t:Nat) (m:Nat) j7 j8 j9 r0 r1 r2 r3 r4 r5 r6 r7 r8 (decide (one=0)) (decide (one=1)) (decide (one=2)) (one:Nat))=x c2 g2 e2 (bI j7 r1 r5 (mW t one two 0)) (bI j8 r2 r6 (mW t one two 0)) (bI j9 r3 r7 (mW t one two 0)) (bI r0 r4 r8 (mW t one two 0)) (bI j7 r1 r5 (mW t one two 1)) (bI j8 r2 r6 (mW t one two 1)) (bI j9 r3 r7 (mW t one two 1)) (bI r0 r4 r8 (mW t one two 1)) (bI j7 r1 r5 (mW t one two 2)) (bI j8 r2 r6 (mW t one two 2)) (bI j9 r3 r7 (mW t one two 2)) (bI r0 r4 r8 (mW t one two 2)):=by
 refine lW fun n=>?_
 unfold DC;dsimp only;have key:(one=0∧two=1)∨(one=0∧two=2)∨(one=1∧two=0)∨(one=1∧two=2)∨(one=2∧two=0)∨(one=2∧two=1):=by omega
 obtain ⟨rfl,rfl⟩|⟨rfl,rfl⟩|⟨rfl,rfl⟩|⟨rfl,rfl⟩|⟨rfl,rfl⟩|⟨rfl,rfl⟩:=key
 all_goals
  first
   | refine (s30 (i2:=i2) ha hb).trans ?_
   | refine (s31 (i2:=i2) ha hb).trans ?_
   | refine (s32 (i2:=i2) ha hb).trans ?_
  refine (hw _).trans ?_;obtain ⟨rfl,rfl⟩ | ⟨rfl,rfl⟩:=ht
  all_goals kernel_rfl
theorem s10 {x:List PV→List PV→Int→Int→Int→Int→Int→Int→Int→Int→Int→Int→Int→Int→Int→Prop} {t m:Nat} {one:Nat} (ho:one<3) (ha:∀ K,yat r9 s0 s1 s2 s3 s4 false false false K=K (one:Nat)) :
  (∃ n:Nat,DD yac yaf yag yat cM x n l0 l1 i2 i3 i4 i5 i6 i7 i8 i9 j0 j1 j2 j3 j4 (t:Nat) (m:Nat) j7 j8 j9 r0 r1 r2 r3 r4 r5 r6 r7 r8 r9 s0 s1 s2 s3 s4)=∃ n:Nat,DC yac yaf yag yat cM x n l0 l1 i2 i3 i4 i5 i6 i7 i8 i9 j0 j1 j2 j3 j4 (t:Nat) (m:Nat) j7 j8 j9 r0 r1 r2 r3 r4 r5 r6 r7 r8 (decide (one=0)) (decide (one=1)) (decide (one=2)) (one:Nat):=by
 refine lW fun n=>?_
 unfold DD;dsimp only;refine (ha _).trans ?_;obtain rfl | rfl | rfl:one=0∨one=1∨one=2:=by omega
 case' inl=>rw [aO (by decide)]
 case' inr.inl=>rw [aP (by decide),aO (by decide)]
 case' inr.inr=>rw [aP (by decide),aP (by decide),aO (by decide)]
 all_goals rfl
theorem s00 {x:List PV→List PV→Int→Int→Int→Int→Int→Int→Int→Int→Int→Int→Int→Int→Int→Prop} {t m:Nat} {wn wd pn pd xn xd qn qd yn yd v0 d0 v1 d1 v2 d2 e1 e2 e3 e4 e5 e6 e7 e8:Int} {c1 g1 c2 g2 c3 g3 c4 g4 c5 g5 c6 g6 c7 g7 c8 g8:List PV}
  (h1:∀ K,yac l0 l1 i2 m j6 j7 j8 j9 K=K wn wd c1 g1 e1)
  (h2:∀ K,yaf c1 g1 e1 wn wd 1 K=K pn pd c2 g2 e2)
  (h3:∀ K,yag c2 g2 e2 m j6 j7 pn pd K=K xn xd c3 g3 e3)
  (h4:∀ K,yaf c3 g3 e3 wn wd 2 K=K qn qd c4 g4 e4)
  (h5:∀ K,yag c4 g4 e4 m j6 j7 qn qd K=K yn yd c5 g5 e5)
  (h6:∀ K,yac c5 g5 e5 t j6 j7 xn xd K=K v0 d0 c6 g6 e6)
  (h7:∀ K,yac c6 g6 e6 t xn xd yn yd K=K v1 d1 c7 g7 e7)
  (h8:∀ K,yac c7 g7 e7 t yn yd j8 j9 K=K v2 d2 c8 g8 e8) :
  (∃ n:Nat,Ol yac yaf yag yat cM x n l0 l1 i2 i3 i4 i5 i6 i7 i8 i9 j0 j1 j2 j3 j4 j5 j6 j7 j8 j9 r0 r1 r2 r3 r4 r5 r6 r7 r8 r9 s0 s1 s2 s3 s4 (t:Nat) (m:Nat))=∃ n:Nat,DD yac yaf yag yat cM x n c8 g8 e8 r3 r4 r5 r6 r7 r8 r9 s0 s1 s2 s3 s4 (t:Nat) (m:Nat) j6 j7 xn xd xn xd yn yd yn yd j8 j9 v0 d0 v1 d1 v2 d2:=by
 refine lW fun n=>?_
 unfold Ol;dsimp only;rw [h1,h2,h3,h4,h5,h6,h7,h8]
theorem s01 {x:List PV→List PV→Int→Int→Int→Int→Int→Int→Int→Int→Int→Int→Int→Int→Int→Prop} {t m:Nat} {b37:Bool} {wn wd pn pd xn xd qn qd yn yd v0 d0 v1 d1 v2 d2 e1 e2 e3 e4 e5 e6 e7 e8:Int} {c1 g1 c2 g2 c3 g3 c4 g4 c5 g5 c6 g6 c7 g7 c8 g8:List PV}
  (h1:∀ K,yac l0 l1 i2 m j6 j7 j8 j9 K=K wn wd c1 g1 e1)
  (h2:∀ K,yaf c1 g1 e1 wn wd 1 K=K pn pd c2 g2 e2)
  (h3:∀ K,yag c2 g2 e2 m j6 j7 pn pd K=K xn xd c3 g3 e3)
  (h4:∀ K,yaf c3 g3 e3 wn wd 2 K=K qn qd c4 g4 e4)
  (h5:∀ K,yag c4 g4 e4 m j6 j7 qn qd K=K yn yd c5 g5 e5)
  (h6:∀ K,yac c5 g5 e5 t j6 j7 xn xd K=K v0 d0 c6 g6 e6)
  (h7:∀ K,yac c6 g6 e6 t xn xd yn yd K=K v1 d1 c7 g7 e7)
  (h8:∀ K,yac c7 g7 e7 t yn yd j8 j9 K=K v2 d2 c8 g8 e8) :
  (∃ n:Nat,Om yac yaf yag yat cM x n l0 l1 i2 i3 i4 i5 i6 i7 i8 i9 j0 j1 j2 j3 j4 j5 j6 j7 j8 j9 r0 r1 r2 r3 r4 r5 r6 r7 r8 r9 s0 s1 s2 s3 s4 (t:Nat) (m:Nat) b37)=∃ n:Nat,DD yac yaf yag yat cM x n c8 g8 e8 r3 r4 r5 r6 r7 r8 r9 s0 s1 s2 s3 s4 (t:Nat) (m:Nat) j6 j7 xn xd xn xd yn yd yn yd j8 j9 v0 d0 v1 d1 v2 d2:=by
 refine lW fun n=>?_
 unfold Om;dsimp only;rw [h1,h2,h3,h4,h5,h6,h7,h8]
end
set_option maxHeartbeats 1000000
section
variable {l:List Ck}
theorem As (l:List Ck) {k:Nat} (hk:k<3):bI (aU l).num (x3 l).num (y3 l).num k=(k3 l k).1.num∧bI (aU l).den (x3 l).den (y3 l).den k=((k3 l k).1.den:Int)∧bI (x3 l).num (y3 l).num (c3 l).num k=(k3 l k).2.num∧bI (x3 l).den (y3 l).den (c3 l).den k=((k3 l k).2.den:Int):=by
 obtain rfl|rfl|rfl:k=0∨k=1∨k=2:=by omega
 all_goals exact ⟨rfl,rfl,rfl,rfl⟩
theorem DY {c d:Prop} [Decidable c] [Decidable d] {a b:Rat}:(if c then (0:Int) else if d then a.num else b.num)=(if c then 0 else if d then a else b).num:=by
 by_cases h:c
 ·rw [Tu h,Tu h];rfl
 ·rw [Zv h,Zv h]
  by_cases h:d
  ·rw [Tu h,Tu h]
  ·rw [Zv h,Zv h]
theorem DZ {c d:Prop} [Decidable c] [Decidable d] {a b:Rat}:(if c then (1:Int) else if d then (a.den:Int) else (b.den:Int))=((if c then 0 else if d then a else b).den:Int):=by
 by_cases h:c
 ·rw [Tu h,Tu h];rfl
 ·rw [Zv h,Zv h]
  by_cases h:d
  ·rw [Tu h,Tu h]
  ·rw [Zv h,Zv h]
def dR (l:List Ck) (k:Nat):Rat:=if k=one3 l then 0 else if k=(dX (one3 l)).getD 0 0 then vS l 0 (k3 l (bQ l 0)) else vS l 0 (k3 l (bQ l 1))
theorem ySA (l:List Ck):kk3 l=if vS l 0 (k3 l (bQ l 0))<vS l 0 (k3 l (bQ l 1)) then 1 else 0:=by unfold kk3;show lV (fun i=>(z3 l).getD i 0) (if vS l 0 (k3 l (bQ l 0))<vS l 0 (k3 l (bQ l 0)) then 0 else 0) [1]=_;rw [Zv qK];rfl
theorem Zo (l:List Ck):pkO [dR l 0,dR l 1,dR l 2] (one3 l)=bQ l (kk3 l):=by
 have h:=wM l;rw [ySA];obtain e | e | e:one3 l=0∨one3 l=1∨one3 l=2:=by omega
 case' inl=>
  have e0:dR l 1=vS l 0 (k3 l (bQ l 0)):=by unfold dR;rw [e];rfl
  have e1:dR l 2=vS l 0 (k3 l (bQ l 1)):=by unfold dR;rw [e];rfl
  have k:pkO [dR l 0,dR l 1,dR l 2] 0=if dR l 1<dR l 2 then 2 else 1:=by show lV (fun i=>[dR l 0,dR l 1,dR l 2].getD i 0) (if dR l 1<dR l 1 then 1 else 1) [2]=_;rw [Zv qK];rfl
 case' inr.inl=>
  have e0:dR l 0=vS l 0 (k3 l (bQ l 0)):=by unfold dR;rw [e];rfl
  have e1:dR l 2=vS l 0 (k3 l (bQ l 1)):=by unfold dR;rw [e];rfl
  have k:pkO [dR l 0,dR l 1,dR l 2] 1=if dR l 0<dR l 2 then 2 else 0:=by show lV (fun i=>[dR l 0,dR l 1,dR l 2].getD i 0) (if dR l 0<dR l 0 then 0 else 0) [2]=_;rw [Zv qK];rfl
 case' inr.inr=>
  have e0:dR l 0=vS l 0 (k3 l (bQ l 0)):=by unfold dR;rw [e];rfl
  have e1:dR l 1=vS l 0 (k3 l (bQ l 1)):=by unfold dR;rw [e];rfl
  have k:pkO [dR l 0,dR l 1,dR l 2] 2=if dR l 0<dR l 1 then 1 else 0:=by show lV (fun i=>[dR l 0,dR l 1,dR l 2].getD i 0) (if dR l 0<dR l 0 then 0 else 0) [1]=_;rw [Zv qK];rfl
 all_goals
  rw [e,k,e0,e1]
  by_cases h2:vS l 0 (k3 l (bQ l 0))<vS l 0 (k3 l (bQ l 1))
  ·simp only [Tu h2];unfold bQ;rw [e];rfl
  ·simp only [Zv h2];unfold bQ;rw [e];rfl
theorem yRS (l:List Ck):3-one3 l-bQ l (kk3 l)=bQ l (1-kk3 l)∧bQ l (kk3 l)<3∧bQ l (kk3 l)≠one3 l:=by
 have h:=wM l;have hk:=YS l;unfold bQ;obtain e | e | e:one3 l=0∨one3 l=1∨one3 l=2:=by omega
 all_goals
  obtain k|k:kk3 l=0∨kk3 l=1:=by omega
  all_goals (rw [e,k];decide)
theorem yTo (l:List Ck) (k:Nat):mW (had3 l) (one3 l) (bQ l (kk3 l)) k<3∧k3 l (mW (had3 l) (one3 l) (bQ l (kk3 l)) k)=bY l k:=by
 have h:=wM l;obtain ⟨r1,r2,r3⟩:=yRS l;unfold mW bY
 by_cases hk:k=had3 l
 ·rw [Tu hk,Tu hk];exact ⟨h,rfl⟩
 ·rw [Zv hk,Zv hk]
  by_cases h0:k=0
  ·rw [Tu h0,Tu h0];exact ⟨r2,rfl⟩
  ·rw [Zv h0,Zv h0];exact ⟨by omega,by rw [r1]⟩
theorem yQF (hd:DK l) (h3:l.length=3) {lg:List Qy} (hm:lg.length+10<2000) (i0 i1 i2 i3 i4 i5 i6 i7 i8 i9 i10 i11 b0 b1:Int) (K) :
  gO (aJ l) (aF lg) 0 i0 i1 i2 i3 i4 i5 i6 i7 i8 i9 i10 i11 (p3 l:Int) (aU l).num (aU l).den (c3 l).num (c3 l).den b0 b1 (o2 l:Int) K =
  K (bY l 0).1.num (bY l 0).1.den (bY l 0).2.num (bY l 0).2.den (bY l 1).1.num (bY l 1).1.den (bY l 1).2.num (bY l 1).2.den (bY l 2).1.num (bY l 2).1.den (bY l 2).2.num (bY l 2).2.den (aJ l) (aF (lg++xW l)) 0:=by
 obtain ⟨D,X⟩:=Ph hd h3;obtain ⟨D',C⟩:=sK hd h3;have h0:0<l.length:=by omega
 have D1:=X.D1;have v0:VQ l (aU l,x3 l)∧_:=X.vq 0 (by decide);have v1:VQ l (x3 l,y3 l)∧_:=X.vq 1 (by decide);have v2:VQ l (y3 l,c3 l)∧_:=X.vq 2 (by decide);have vO:VQ l (aU l,c3 l):=⟨v0.1.s1,v2.1.s2,v0.1.z,C.lo,v2.1.len,D,⟨D1.1,by omega⟩,v0.2.1,v2.2.2⟩;have sz:∀ {a:Nat} {s:RS},a<l.length→VQ l s∧In D s.1∧In D s.2→small (vS l a s):=fun {a s} ha h=>by
  obtain ⟨k1,k2⟩:=GM hd ha h.1.z h.1.le h.1.len;have k3:=uD hd ha;exact kE (xV D1.1 h.2) ⟨D1.1,by omega⟩ (by grind) (by grind)
 have hn:not3 l<l.length:=by rcases yrf l with h | h<;>omega
 have hh:had3 l<l.length:=by rcases yrf l with h | h<;>omega
 have r1:0≤w3 l*r13:=by have:=X.w0;rw [gE];grind
 have r2:0≤w3 l*cY:=by have:=X.w0;rw [fU];grind
 have ex:x3 l=dN l (not3 l) (aU l) (w3 l*r13):=by unfold x3;rfl
 have ey:y3 l=dN l (not3 l) (aU l) (w3 l*cY):=by unfold y3;rfl
 have fl:aU l≤aT l:=nL vO.le vO.len;have q1:∀ {lg:List Qy},lg.length<2000→∀ K,yac (aJ l) (aF lg) 0 (not3 l:Nat) (aU l).num (aU l).den (c3 l).num (c3 l).den K=K (w3 l).num (w3 l).den (aJ l) (aF (lg++[bG l (not3 l) (aU l) (c3 l)])) 0:=fun {lg} hm K=>lI hd hn (s:=(aU l,c3 l)) vO hm K
 have q3:∀ {lg:List Qy},lg.length<2000→∀ K,yag (aJ l) (aF lg) 0 (not3 l:Nat) (aU l).num (aU l).den (w3 l*r13).num (w3 l*r13).den K=K (x3 l).num (x3 l).den (aJ l) (aF (lg++[eI (not3 l) (aU l) (w3 l*r13) (x3 l)])) 0:=fun {lg} hm K=>by
  obtain ⟨E1,m1⟩:=X.m1;have:=KE hd hn v0.1.s1 v0.1.z fl X.w1 r1 m1 hm K;rw [← ex] at this;exact this
 have q5:∀ {lg:List Qy},lg.length<2000→∀ K,yag (aJ l) (aF lg) 0 (not3 l:Nat) (aU l).num (aU l).den (w3 l*cY).num (w3 l*cY).den K=K (y3 l).num (y3 l).den (aJ l) (aF (lg++[eI (not3 l) (aU l) (w3 l*cY) (y3 l)])) 0:=fun {lg} hm K=>by
  obtain ⟨E1,m1⟩:=X.m2;have:=KE hd hn v0.1.s1 v0.1.z fl X.w2 r2 m1 hm K;rw [← ey] at this;exact this
 have q6:∀ {lg:List Qy},lg.length<2000→∀ K,yac (aJ l) (aF lg) 0 (had3 l:Nat) (aU l).num (aU l).den (x3 l).num (x3 l).den K=K (vS l (had3 l) (aU l,x3 l)).num (vS l (had3 l) (aU l,x3 l)).den (aJ l) (aF (lg++[bG l (had3 l) (aU l) (x3 l)])) 0:=fun {lg} hm K=>lI hd hh (s:=(aU l,x3 l)) v0.1 hm K
 have q7:∀ {lg:List Qy},lg.length<2000→∀ K,yac (aJ l) (aF lg) 0 (had3 l:Nat) (x3 l).num (x3 l).den (y3 l).num (y3 l).den K=K (vS l (had3 l) (x3 l,y3 l)).num (vS l (had3 l) (x3 l,y3 l)).den (aJ l) (aF (lg++[bG l (had3 l) (x3 l) (y3 l)])) 0:=fun {lg} hm K=>lI hd hh (s:=(x3 l,y3 l)) v1.1 hm K
 have q8:∀ {lg:List Qy},lg.length<2000→∀ K,yac (aJ l) (aF lg) 0 (had3 l:Nat) (y3 l).num (y3 l).den (c3 l).num (c3 l).den K=K (vS l (had3 l) (y3 l,c3 l)).num (vS l (had3 l) (y3 l,c3 l)).den (aJ l) (aF (lg++[bG l (had3 l) (y3 l) (c3 l)])) 0:=fun {lg} hm K=>lI hd hh (s:=(y3 l,c3 l)) v2.1 hm K
 have pU:∀ K,yat (vS l (had3 l) (aU l,x3 l)).num (vS l (had3 l) (aU l,x3 l)).den (vS l (had3 l) (x3 l,y3 l)).num (vS l (had3 l) (x3 l,y3 l)).den (vS l (had3 l) (y3 l,c3 l)).num (vS l (had3 l) (y3 l,c3 l)).den false false false K=K (one3 l:Nat):=fun K=>by
  unfold one3;exact Zg (sz hh v0) (sz hh v1) (sz hh v2) K
 have q2:∀ {c g:List PV} K,yaf c g 0 (w3 l).num (w3 l).den 1 K=K (w3 l*r13).num (w3 l*r13).den c g 0:=fun {c g} K=>yQx X.ws X.w1 c g K
 have q4:∀ {c g:List PV} K,yaf c g 0 (w3 l).num (w3 l).den 2 K=K (w3 l*cY).num (w3 l*cY).den c g 0:=fun {c g} K=>yQy X.ws X.w2 c g K
 obtain ⟨j0,j1,_⟩:=Pg l;have n0:(dX (one3 l)).getD 0 0=bQ l 0:=rfl;have n1:(dX (one3 l)).getD 1 0=bQ l 1:=rfl;have z0:∀ {lg:List Qy},lg.length<2000→∀ K,yac (aJ l) (aF lg) 0 0 (bI (aU l).num (x3 l).num (y3 l).num ((dX (one3 l)).getD 0 0)) (bI (aU l).den (x3 l).den (y3 l).den ((dX (one3 l)).getD 0 0)) (bI (x3 l).num (y3 l).num (c3 l).num ((dX (one3 l)).getD 0 0)) (bI (x3 l).den (y3 l).den (c3 l).den ((dX (one3 l)).getD 0 0)) K=K (vS l 0 (k3 l (bQ l 0))).num (vS l 0 (k3 l (bQ l 0))).den (aJ l) (aF (lg++[bG l 0 (k3 l (bQ l 0)).1 (k3 l (bQ l 0)).2])) 0:=fun {lg} hm K=>by
  rw [n0,(As l j0).1,(As l j0).2.1,(As l j0).2.2.1,(As l j0).2.2.2];exact lI hd h0 (X.vq _ j0).1 hm K
 have z1:∀ {lg:List Qy},lg.length<2000→∀ K,yac (aJ l) (aF lg) 0 0 (bI (aU l).num (x3 l).num (y3 l).num ((dX (one3 l)).getD 1 0)) (bI (aU l).den (x3 l).den (y3 l).den ((dX (one3 l)).getD 1 0)) (bI (x3 l).num (y3 l).num (c3 l).num ((dX (one3 l)).getD 1 0)) (bI (x3 l).den (y3 l).den (c3 l).den ((dX (one3 l)).getD 1 0)) K=K (vS l 0 (k3 l (bQ l 1))).num (vS l 0 (k3 l (bQ l 1))).den (aJ l) (aF (lg++[bG l 0 (k3 l (bQ l 1)).1 (k3 l (bQ l 1)).2])) 0:=fun {lg} hm K=>by
  rw [n1,(As l j1).1,(As l j1).2.1,(As l j1).2.2.1,(As l j1).2.2.2];exact lI hd h0 (X.vq _ j1).1 hm K
 have su:∀ k,small (dR l k):=fun k=>by
  unfold dR
  by_cases c:k=one3 l
  ·rw [Tu c];decide +kernel
  ·rw [Zv c]
   by_cases d:k=(dX (one3 l)).getD 0 0
   ·rw [Tu d];exact sz h0 (X.vq _ j0)
   ·rw [Zv d];exact sz h0 (X.vq _ j1)
 obtain ⟨t1,t2,t3⟩:=yRS l;have pK:=fun K=>Zh (su 0) (su 1) (su 2) (wM l) K
 unfold dR at pK;have pK:∀ K,yat (if 0=one3 l then (0:Int) else if 0=(dX (one3 l)).getD 0 0 then (vS l 0 (k3 l (bQ l 0))).num else (vS l 0 (k3 l (bQ l 1))).num) (if 0=one3 l then (1:Int) else if 0=(dX (one3 l)).getD 0 0 then ((vS l 0 (k3 l (bQ l 0))).den:Int) else ((vS l 0 (k3 l (bQ l 1))).den:Int)) (if 1=one3 l then (0:Int) else if 1=(dX (one3 l)).getD 0 0 then (vS l 0 (k3 l (bQ l 0))).num else (vS l 0 (k3 l (bQ l 1))).num) (if 1=one3 l then (1:Int) else if 1=(dX (one3 l)).getD 0 0 then ((vS l 0 (k3 l (bQ l 0))).den:Int) else ((vS l 0 (k3 l (bQ l 1))).den:Int)) (if 2=one3 l then (0:Int) else if 2=(dX (one3 l)).getD 0 0 then (vS l 0 (k3 l (bQ l 0))).num else (vS l 0 (k3 l (bQ l 1))).num) (if 2=one3 l then (1:Int) else if 2=(dX (one3 l)).getD 0 0 then ((vS l 0 (k3 l (bQ l 0))).den:Int) else ((vS l 0 (k3 l (bQ l 1))).den:Int)) (decide (one3 l=0)) (decide (one3 l=1)) (decide (one3 l=2)) K=K (bQ l (kk3 l):Nat):=fun K=>by
  rw [DY,DY,DY,DZ,DZ,DZ,pK,← Zo];rfl
 have eG:lg++xW l=lg++[bG l (not3 l) (aU l) (c3 l)]++[eI (not3 l) (aU l) (w3 l*r13) (x3 l)]++[eI (not3 l) (aU l) (w3 l*cY) (y3 l)]++[bG l (had3 l) (aU l) (x3 l)]++[bG l (had3 l) (x3 l) (y3 l)]++[bG l (had3 l) (y3 l) (c3 l)]++[bG l 0 (k3 l (bQ l 0)).1 (k3 l (bQ l 0)).2]++[bG l 0 (k3 l (bQ l 1)).1 (k3 l (bQ l 1)).2]:=by unfold xW;simp only [jE]
 have fin:∀ k,(bI (aU l).num (x3 l).num (y3 l).num (mW (had3 l) (one3 l) (bQ l (kk3 l)) k)=(bY l k).1.num∧bI (aU l).den (x3 l).den (y3 l).den (mW (had3 l) (one3 l) (bQ l (kk3 l)) k)=((bY l k).1.den:Int))∧(bI (x3 l).num (y3 l).num (c3 l).num (mW (had3 l) (one3 l) (bQ l (kk3 l)) k)=(bY l k).2.num∧bI (x3 l).den (y3 l).den (c3 l).den (mW (had3 l) (one3 l) (bQ l (kk3 l)) k)=((bY l k).2.den:Int)):=fun k=>by
  obtain ⟨a,b⟩:=yTo l k;obtain ⟨c1,c2,c3,c4⟩:=As l a;rw [c1,c2,c3,c4,b];exact ⟨⟨rfl,rfl⟩,rfl,rfl⟩
 have hl8:∀ {a b c d e f:Qy},(lg++[a]++[b]++[c]++[d]++[e]++[f]).length=lg.length+6:=by intros;simp only [cR,eQ]
 rw [eG];unfold gO XJ;rcases yrf l with ⟨eh,en⟩ | ⟨eh,en⟩
 case' inl=>
  have hb:(((o2 l:Nat):Int) ==((p3 l:Nat):Int))=false:=by
   unfold had3 at eh
   by_cases h:o2 l=p3 l
   ·rw [Tu h] at eh;omega
   ·simp;omega
  rw [en] at q1 q3 q5;rw [eh] at q6 q7 q8 pU fin;rw [eh,en];rw [hb,aV];refine (s01 (t:=1) (m:=2) (q1 (by omega)) q2 (q3 (by simp only [cR,eQ];omega)) q4 (q5 (by simp only [cR,eQ];omega)) (q6 (by simp only [cR,eQ];omega)) (q7 (by simp only [cR,eQ];omega)) (q8 (by simp only [cR,eQ];omega))).trans ?_;refine (s10 (t:=1) (m:=2) (wM l) pU).trans ?_;refine (s20 (t:=1) (m:=2) (wM l) t2 t3 (.inl ⟨rfl,rfl⟩) (z0 (by rw [hl8];omega)) (z1 (by rw [cR,hl8,eQ];omega)) pK).trans ?_
 case' inr=>
  have hb:(((o2 l:Nat):Int) ==((p3 l:Nat):Int))=true:=by
   unfold had3 at eh
   by_cases h:o2 l=p3 l
   ·rw [h];simp
   ·rw [Zv h] at eh;omega
  rw [en] at q1 q3 q5;rw [eh] at q6 q7 q8 pU fin;rw [eh,en];rw [hb,aY];refine (s00 (t:=2) (m:=1) (q1 (by omega)) q2 (q3 (by simp only [cR,eQ];omega)) q4 (q5 (by simp only [cR,eQ];omega)) (q6 (by simp only [cR,eQ];omega)) (q7 (by simp only [cR,eQ];omega)) (q8 (by simp only [cR,eQ];omega))).trans ?_;refine (s10 (t:=2) (m:=1) (wM l) pU).trans ?_;refine (s20 (t:=2) (m:=1) (wM l) t2 t3 (.inr ⟨rfl,rfl⟩) (z0 (by rw [hl8];omega)) (z1 (by rw [cR,hl8,eQ];omega)) pK).trans ?_
 all_goals
  rw [(fin 0).1.1,(fin 0).1.2,(fin 0).2.1,(fin 0).2.2,(fin 1).1.1,(fin 1).1.2,(fin 1).2.1,(fin 1).2.2,(fin 2).1.1,(fin 2).1.2,(fin 2).2.1,(fin 2).2.2]
end
set_option maxHeartbeats 4000000
theorem Zp (K:List PV→Int→Prop):yaT (bJ []) K=K (bJ (wJ [] [] 0)) 0:=by
 refine Xf _ _ _ (fun K k=>?_) K;unfold yaT Jo;rw [lL,aP (by decide)];refine ⟨1,?_⟩;have e:∀ {x0 x1},Gl yaB qP x0 x1 1 (bJ []) 0=x0 (bJ []) 0 false:=by intros;kernel_rfl
 rw [e];show qP (bJ []) (bJ []) 0 _;rw [YB (fun s h=>by cases h) (fun s h=>by cases h) (by decide) (by decide)];exact k
theorem Zq {s:RS} (hs:eH s) (h:s.1<s.2) (K:List PV→Int→Prop):yaT (bJ [s]) K=K (bJ (wJ [s] [] 0)) 0:=by
 refine Xf _ _ _ (fun K k=>?_) K;unfold yaT Jo;rw [lL,aP (by show ¬((1:Nat):Int)>60;decide)];refine ⟨2,?_⟩;have e:∀ {x0 x1},Gl yaB qP x0 x1 2 (bJ [s]) 0=yaB s.1.num s.1.den s.2.num s.2.den (fun b=>aA (!b) (x1 8) (x0 (bJ [s]) 1 false)):=by intros;kernel_rfl
 rw [e,Pk hs.1 hs.2,Os h,jF,aV];show qP (bJ [s]) (bJ []) 0 _;rw [YB (fun t h=>by rw [oE.1 h];exact hs) (fun s h=>by cases h) (by show 1<10000;decide) (by decide)];exact k
theorem Zr {s t:RS} (hs:eH s) (h:s.1<s.2) (ht:eH t) (h2:t.1<t.2) (K:List PV→Int→Prop):yaT (bJ [s,t]) K=K (bJ (wJ [s,t] [] 0)) 0:=by
 refine Xf _ _ _ (fun K k=>?_) K;unfold yaT Jo;rw [lL,aP (by show ¬((2:Nat):Int)>60;decide)];refine ⟨3,?_⟩;have e:∀ {x0 x1},Gl yaB qP x0 x1 3 (bJ [s,t]) 0=yaB s.1.num s.1.den s.2.num s.2.den (fun b=>aA (!b) (x1 8) (yaB t.1.num t.1.den t.2.num t.2.den (fun b=>aA (!b) (x1 8) (x0 (bJ [s,t]) 2 false)))):=by intros;kernel_rfl
 rw [e,Pk hs.1 hs.2,Os h,jF,aV,Pk ht.1 ht.2,Os h2,jF,aV];show qP (bJ [s,t]) (bJ []) 0 _;rw [YB (fun u h=>by rcases qAo.1 h with rfl | h;exact hs;rw [oE.1 h];exact ht) (fun s h=>by cases h) (by show 2<10000;decide) (by decide)];exact k
theorem Zs {L M:List RS} (hs:∀ s∈L,eH s∧s.1<s.2) (h2:L.length≤2) (hM:qE M) (hm:∀ p,memP M p↔memP L p) (K:List PV→Int→Prop):yaT (bJ L) K=K (bJ M) 0:=by
 have e:wJ L [] 0=M:=yf _ _ (yp (c:=Or) (fun x=>zn) (by simp)).1 hM fun p=>by
  rw [yOK,hm p];exact ⟨fun h=>h.elim id fun h=>(DQ h).elim,.inl⟩
 rw [← e]
 match L,h2,hs with
 | [],_,_=>exact Zp K
 | [s],_,hs=>exact Zq (hs s dS).1 (hs s dS).2 K
 | [s,t],_,hs=>exact Zr (hs s dS).1 (hs s dS).2 (hs t (fC _ dS)).1 (hs t (fC _ dS)).2 K
def lJ (a b c d e f g h:Int) (G:List PV→Int→Prop):Prop:=yaB a b c d (fun v=>aA v (yaB e f g h (fun u=>aA u (yaT [.agg [.int .i64 a,.int .i64 b,.int .i64 c,.int .i64 d],.agg [.int .i64 e,.int .i64 f,.int .i64 g,.int .i64 h]] G) (yaT [.agg [.int .i64 a,.int .i64 b,.int .i64 c,.int .i64 d]] G))) (yaB e f g h (fun u=>aA u (yaT [.agg [.int .i64 e,.int .i64 f,.int .i64 g,.int .i64 h]] G) (yaT [] G))))
theorem Zt {a b c d e f g h:Int} {G:List PV→Int→Prop} {bs bc:Bool} {y:List PV} (hs:∀ K,yaB a b c d K=K bs) (hc:∀ K,yaB e f g h K=K bc)
  (hm:∀ K,yaT ((bif bs then [.agg [.int .i64 a,.int .i64 b,.int .i64 c,.int .i64 d]] else [])++(bif bc then [.agg [.int .i64 e,.int .i64 f,.int .i64 g,.int .i64 h]] else [])) K=K y 0):lJ a b c d e f g h G=G y 0:=by
 unfold lJ;rw [hs,hc,hc]
 cases bs<;>cases bc<;>exact hm _
section
variable {x0:List PV→List PV→List PV→Int→Int→Int→Int→Int→Int→Int→Int→Int→Int→Int→Int→Int→Int→Int→Int→Int→Int→Int→Int→Int→Int→Int→Int→Int→Int→Int→Int→Int→Int→Int→Int→Int→Int→Int→Int→Int→Int→Int→Int→Int→Int→Int→Int→Int→Int→Int→Int→Int→Int→Int→Int→Int→Nat→Nat→Nat→Int→Bool→Prop} {l1 l2 m0 m1 m2:List PV} {i3 i4 i5 i6 i7 i8 i9 j0 j1 j2 j3 j4 j5 j6 j7 j8 j9 r0 r1 r2 r3 r4 r5 r6 r7 r8 r9 s0 s1 s2 s3 s4 s5 s6 s7 s8 s9 q0 q1 q2 q3 q4 q5 q6 q7 q8 q9 z0 z1 z2 z3 z4 z5:Int}
theorem r00 (n:Nat):iJ gK yaC gO yaB yaT x0 (n+1) [.data m0,.data m1,.data m2] l1 l2 i3 i4 i5 i6 i7 i8 i9 j0 j1 j2 j3 j4 j5 j6 j7 j8 j9 r0 r1 r2 r3 r4 r5 r6 r7 r8 r9 s0 s1 s2 s3 s4 s5 s6 s7 s8 s9 q0 0 q2 q3 q4 q5 q6 q7 q8 q9 z0 z1 z2 z3 z4 z5 3 3 3 0=lJ r4 r5 r6 r7 q4 q5 q6 q7 (fun y _=>iJ gK yaC gO yaB yaT x0 n [.data y,.data m1,.data m2] l1 l2 i3 i4 i5 i6 i7 i8 i9 j0 j1 j2 j3 j4 j5 j6 j7 j8 j9 r0 r1 r2 r3 r4 r5 r6 r7 r8 r9 s0 s1 s2 s3 s4 s5 s6 s7 s8 s9 q0 0 q2 q3 q4 q5 q6 q7 q8 q9 z0 z1 z2 z3 z4 z5 3 3 3 1):=by kernel_rfl
theorem r01 (n:Nat):iJ gK yaC gO yaB yaT x0 (n+1) [.data m0,.data m1,.data m2] l1 l2 i3 i4 i5 i6 i7 i8 i9 j0 j1 j2 j3 j4 j5 j6 j7 j8 j9 r0 r1 r2 r3 r4 r5 r6 r7 r8 r9 s0 s1 s2 s3 s4 s5 s6 s7 s8 s9 q0 1 q2 q3 q4 q5 q6 q7 q8 q9 z0 z1 z2 z3 z4 z5 3 3 3 0=lJ r8 r9 s0 s1 q4 q5 q6 q7 (fun y _=>iJ gK yaC gO yaB yaT x0 n [.data y,.data m1,.data m2] l1 l2 i3 i4 i5 i6 i7 i8 i9 j0 j1 j2 j3 j4 j5 j6 j7 j8 j9 r0 r1 r2 r3 r4 r5 r6 r7 r8 r9 s0 s1 s2 s3 s4 s5 s6 s7 s8 s9 q0 1 q2 q3 q4 q5 q6 q7 q8 q9 z0 z1 z2 z3 z4 z5 3 3 3 1):=by kernel_rfl
theorem r02 (n:Nat):iJ gK yaC gO yaB yaT x0 (n+1) [.data m0,.data m1,.data m2] l1 l2 i3 i4 i5 i6 i7 i8 i9 j0 j1 j2 j3 j4 j5 j6 j7 j8 j9 r0 r1 r2 r3 r4 r5 r6 r7 r8 r9 s0 s1 s2 s3 s4 s5 s6 s7 s8 s9 q0 2 q2 q3 q4 q5 q6 q7 q8 q9 z0 z1 z2 z3 z4 z5 3 3 3 0=lJ s2 s3 s4 s5 q4 q5 q6 q7 (fun y _=>iJ gK yaC gO yaB yaT x0 n [.data y,.data m1,.data m2] l1 l2 i3 i4 i5 i6 i7 i8 i9 j0 j1 j2 j3 j4 j5 j6 j7 j8 j9 r0 r1 r2 r3 r4 r5 r6 r7 r8 r9 s0 s1 s2 s3 s4 s5 s6 s7 s8 s9 q0 2 q2 q3 q4 q5 q6 q7 q8 q9 z0 z1 z2 z3 z4 z5 3 3 3 1):=by kernel_rfl
theorem rr0 {k:Nat} (hk:k<3) {bs bc:Bool} {y:List PV} (hs:∀ K,yaB (bI r4 r8 s2 k) (bI r5 r9 s3 k) (bI r6 s0 s4 k) (bI r7 s1 s5 k) K=K bs) (hc:∀ K,yaB q4 q5 q6 q7 K=K bc)
  (hm:∀ K,yaT ((bif bs then [(.agg [.int .i64 (bI r4 r8 s2 k),.int .i64 (bI r5 r9 s3 k),.int .i64 (bI r6 s0 s4 k),.int .i64 (bI r7 s1 s5 k)])] else [])++(bif bc then [(.agg [.int .i64 q4,.int .i64 q5,.int .i64 q6,.int .i64 q7])] else [])) K=K y 0) :
  (∃ n:Nat,iJ gK yaC gO yaB yaT x0 n [.data m0,.data m1,.data m2] l1 l2 i3 i4 i5 i6 i7 i8 i9 j0 j1 j2 j3 j4 j5 j6 j7 j8 j9 r0 r1 r2 r3 r4 r5 r6 r7 r8 r9 s0 s1 s2 s3 s4 s5 s6 s7 s8 s9 q0 (k:Nat) q2 q3 q4 q5 q6 q7 q8 q9 z0 z1 z2 z3 z4 z5 3 3 3 0)=∃ n:Nat,iJ gK yaC gO yaB yaT x0 n [.data y,.data m1,.data m2] l1 l2 i3 i4 i5 i6 i7 i8 i9 j0 j1 j2 j3 j4 j5 j6 j7 j8 j9 r0 r1 r2 r3 r4 r5 r6 r7 r8 r9 s0 s1 s2 s3 s4 s5 s6 s7 s8 s9 q0 (k:Nat) q2 q3 q4 q5 q6 q7 q8 q9 z0 z1 z2 z3 z4 z5 3 3 3 1:=by
 refine bR rfl fun n=>?_
 obtain rfl|rfl|rfl:k=0∨k=1∨k=2:=by omega
 case' inl=>refine (r00 n).trans ?_
 case' inr.inl=>refine (r01 n).trans ?_
 case' inr.inr=>refine (r02 n).trans ?_
 all_goals exact Zt hs hc hm
theorem r10 (n:Nat):iJ gK yaC gO yaB yaT x0 (n+1) [.data m0,.data m1,.data m2] l1 l2 i3 i4 i5 i6 i7 i8 i9 j0 j1 j2 j3 j4 j5 j6 j7 j8 j9 r0 r1 r2 r3 r4 r5 r6 r7 r8 r9 s0 s1 s2 s3 s4 s5 s6 s7 s8 s9 q0 q1 0 q3 q4 q5 q6 q7 q8 q9 z0 z1 z2 z3 z4 z5 3 3 3 1=lJ r4 r5 r6 r7 q8 q9 z0 z1 (fun y _=>iJ gK yaC gO yaB yaT x0 n [.data m0,.data y,.data m2] l1 l2 i3 i4 i5 i6 i7 i8 i9 j0 j1 j2 j3 j4 j5 j6 j7 j8 j9 r0 r1 r2 r3 r4 r5 r6 r7 r8 r9 s0 s1 s2 s3 s4 s5 s6 s7 s8 s9 q0 q1 0 q3 q4 q5 q6 q7 q8 q9 z0 z1 z2 z3 z4 z5 3 3 3 2):=by kernel_rfl
theorem r11 (n:Nat):iJ gK yaC gO yaB yaT x0 (n+1) [.data m0,.data m1,.data m2] l1 l2 i3 i4 i5 i6 i7 i8 i9 j0 j1 j2 j3 j4 j5 j6 j7 j8 j9 r0 r1 r2 r3 r4 r5 r6 r7 r8 r9 s0 s1 s2 s3 s4 s5 s6 s7 s8 s9 q0 q1 1 q3 q4 q5 q6 q7 q8 q9 z0 z1 z2 z3 z4 z5 3 3 3 1=lJ r8 r9 s0 s1 q8 q9 z0 z1 (fun y _=>iJ gK yaC gO yaB yaT x0 n [.data m0,.data y,.data m2] l1 l2 i3 i4 i5 i6 i7 i8 i9 j0 j1 j2 j3 j4 j5 j6 j7 j8 j9 r0 r1 r2 r3 r4 r5 r6 r7 r8 r9 s0 s1 s2 s3 s4 s5 s6 s7 s8 s9 q0 q1 1 q3 q4 q5 q6 q7 q8 q9 z0 z1 z2 z3 z4 z5 3 3 3 2):=by kernel_rfl
theorem r12 (n:Nat):iJ gK yaC gO yaB yaT x0 (n+1) [.data m0,.data m1,.data m2] l1 l2 i3 i4 i5 i6 i7 i8 i9 j0 j1 j2 j3 j4 j5 j6 j7 j8 j9 r0 r1 r2 r3 r4 r5 r6 r7 r8 r9 s0 s1 s2 s3 s4 s5 s6 s7 s8 s9 q0 q1 2 q3 q4 q5 q6 q7 q8 q9 z0 z1 z2 z3 z4 z5 3 3 3 1=lJ s2 s3 s4 s5 q8 q9 z0 z1 (fun y _=>iJ gK yaC gO yaB yaT x0 n [.data m0,.data y,.data m2] l1 l2 i3 i4 i5 i6 i7 i8 i9 j0 j1 j2 j3 j4 j5 j6 j7 j8 j9 r0 r1 r2 r3 r4 r5 r6 r7 r8 r9 s0 s1 s2 s3 s4 s5 s6 s7 s8 s9 q0 q1 2 q3 q4 q5 q6 q7 q8 q9 z0 z1 z2 z3 z4 z5 3 3 3 2):=by kernel_rfl
theorem rr1 {k:Nat} (hk:k<3) {bs bc:Bool} {y:List PV} (hs:∀ K,yaB (bI r4 r8 s2 k) (bI r5 r9 s3 k) (bI r6 s0 s4 k) (bI r7 s1 s5 k) K=K bs) (hc:∀ K,yaB q8 q9 z0 z1 K=K bc)
  (hm:∀ K,yaT ((bif bs then [(.agg [.int .i64 (bI r4 r8 s2 k),.int .i64 (bI r5 r9 s3 k),.int .i64 (bI r6 s0 s4 k),.int .i64 (bI r7 s1 s5 k)])] else [])++(bif bc then [(.agg [.int .i64 q8,.int .i64 q9,.int .i64 z0,.int .i64 z1])] else [])) K=K y 0) :
  (∃ n:Nat,iJ gK yaC gO yaB yaT x0 n [.data m0,.data m1,.data m2] l1 l2 i3 i4 i5 i6 i7 i8 i9 j0 j1 j2 j3 j4 j5 j6 j7 j8 j9 r0 r1 r2 r3 r4 r5 r6 r7 r8 r9 s0 s1 s2 s3 s4 s5 s6 s7 s8 s9 q0 q1 (k:Nat) q3 q4 q5 q6 q7 q8 q9 z0 z1 z2 z3 z4 z5 3 3 3 1)=∃ n:Nat,iJ gK yaC gO yaB yaT x0 n [.data m0,.data y,.data m2] l1 l2 i3 i4 i5 i6 i7 i8 i9 j0 j1 j2 j3 j4 j5 j6 j7 j8 j9 r0 r1 r2 r3 r4 r5 r6 r7 r8 r9 s0 s1 s2 s3 s4 s5 s6 s7 s8 s9 q0 q1 (k:Nat) q3 q4 q5 q6 q7 q8 q9 z0 z1 z2 z3 z4 z5 3 3 3 2:=by
 refine bR rfl fun n=>?_
 obtain rfl|rfl|rfl:k=0∨k=1∨k=2:=by omega
 case' inl=>refine (r10 n).trans ?_
 case' inr.inl=>refine (r11 n).trans ?_
 case' inr.inr=>refine (r12 n).trans ?_
 all_goals exact Zt hs hc hm
theorem r20 (n:Nat):iJ gK yaC gO yaB yaT x0 (n+1) [.data m0,.data m1,.data m2] l1 l2 i3 i4 i5 i6 i7 i8 i9 j0 j1 j2 j3 j4 j5 j6 j7 j8 j9 r0 r1 r2 r3 r4 r5 r6 r7 r8 r9 s0 s1 s2 s3 s4 s5 s6 s7 s8 s9 q0 q1 q2 0 q4 q5 q6 q7 q8 q9 z0 z1 z2 z3 z4 z5 3 3 3 2=lJ r4 r5 r6 r7 z2 z3 z4 z5 (fun y _=>iJ gK yaC gO yaB yaT x0 n [.data m0,.data m1,.data y] l1 l2 i3 i4 i5 i6 i7 i8 i9 j0 j1 j2 j3 j4 j5 j6 j7 j8 j9 r0 r1 r2 r3 r4 r5 r6 r7 r8 r9 s0 s1 s2 s3 s4 s5 s6 s7 s8 s9 q0 q1 q2 0 q4 q5 q6 q7 q8 q9 z0 z1 z2 z3 z4 z5 3 3 3 3):=by kernel_rfl
theorem r21 (n:Nat):iJ gK yaC gO yaB yaT x0 (n+1) [.data m0,.data m1,.data m2] l1 l2 i3 i4 i5 i6 i7 i8 i9 j0 j1 j2 j3 j4 j5 j6 j7 j8 j9 r0 r1 r2 r3 r4 r5 r6 r7 r8 r9 s0 s1 s2 s3 s4 s5 s6 s7 s8 s9 q0 q1 q2 1 q4 q5 q6 q7 q8 q9 z0 z1 z2 z3 z4 z5 3 3 3 2=lJ r8 r9 s0 s1 z2 z3 z4 z5 (fun y _=>iJ gK yaC gO yaB yaT x0 n [.data m0,.data m1,.data y] l1 l2 i3 i4 i5 i6 i7 i8 i9 j0 j1 j2 j3 j4 j5 j6 j7 j8 j9 r0 r1 r2 r3 r4 r5 r6 r7 r8 r9 s0 s1 s2 s3 s4 s5 s6 s7 s8 s9 q0 q1 q2 1 q4 q5 q6 q7 q8 q9 z0 z1 z2 z3 z4 z5 3 3 3 3):=by kernel_rfl
theorem r22 (n:Nat):iJ gK yaC gO yaB yaT x0 (n+1) [.data m0,.data m1,.data m2] l1 l2 i3 i4 i5 i6 i7 i8 i9 j0 j1 j2 j3 j4 j5 j6 j7 j8 j9 r0 r1 r2 r3 r4 r5 r6 r7 r8 r9 s0 s1 s2 s3 s4 s5 s6 s7 s8 s9 q0 q1 q2 2 q4 q5 q6 q7 q8 q9 z0 z1 z2 z3 z4 z5 3 3 3 2=lJ s2 s3 s4 s5 z2 z3 z4 z5 (fun y _=>iJ gK yaC gO yaB yaT x0 n [.data m0,.data m1,.data y] l1 l2 i3 i4 i5 i6 i7 i8 i9 j0 j1 j2 j3 j4 j5 j6 j7 j8 j9 r0 r1 r2 r3 r4 r5 r6 r7 r8 r9 s0 s1 s2 s3 s4 s5 s6 s7 s8 s9 q0 q1 q2 2 q4 q5 q6 q7 q8 q9 z0 z1 z2 z3 z4 z5 3 3 3 3):=by kernel_rfl
theorem rr2 {k:Nat} (hk:k<3) {bs bc:Bool} {y:List PV} (hs:∀ K,yaB (bI r4 r8 s2 k) (bI r5 r9 s3 k) (bI r6 s0 s4 k) (bI r7 s1 s5 k) K=K bs) (hc:∀ K,yaB z2 z3 z4 z5 K=K bc)
  (hm:∀ K,yaT ((bif bs then [(.agg [.int .i64 (bI r4 r8 s2 k),.int .i64 (bI r5 r9 s3 k),.int .i64 (bI r6 s0 s4 k),.int .i64 (bI r7 s1 s5 k)])] else [])++(bif bc then [(.agg [.int .i64 z2,.int .i64 z3,.int .i64 z4,.int .i64 z5])] else [])) K=K y 0) :
  (∃ n:Nat,iJ gK yaC gO yaB yaT x0 n [.data m0,.data m1,.data m2] l1 l2 i3 i4 i5 i6 i7 i8 i9 j0 j1 j2 j3 j4 j5 j6 j7 j8 j9 r0 r1 r2 r3 r4 r5 r6 r7 r8 r9 s0 s1 s2 s3 s4 s5 s6 s7 s8 s9 q0 q1 q2 (k:Nat) q4 q5 q6 q7 q8 q9 z0 z1 z2 z3 z4 z5 3 3 3 2)=∃ n:Nat,iJ gK yaC gO yaB yaT x0 n [.data m0,.data m1,.data y] l1 l2 i3 i4 i5 i6 i7 i8 i9 j0 j1 j2 j3 j4 j5 j6 j7 j8 j9 r0 r1 r2 r3 r4 r5 r6 r7 r8 r9 s0 s1 s2 s3 s4 s5 s6 s7 s8 s9 q0 q1 q2 (k:Nat) q4 q5 q6 q7 q8 q9 z0 z1 z2 z3 z4 z5 3 3 3 3:=by
 refine bR rfl fun n=>?_
 obtain rfl|rfl|rfl:k=0∨k=1∨k=2:=by omega
 case' inl=>refine (r20 n).trans ?_
 case' inr.inl=>refine (r21 n).trans ?_
 case' inr.inr=>refine (r22 n).trans ?_
 all_goals exact Zt hs hc hm
theorem rE9:(∃ n:Nat,iJ gK yaC gO yaB yaT x0 n [.data m0,.data m1,.data m2] l1 l2 i3 i4 i5 i6 i7 i8 i9 j0 j1 j2 j3 j4 j5 j6 j7 j8 j9 r0 r1 r2 r3 r4 r5 r6 r7 r8 r9 s0 s1 s2 s3 s4 s5 s6 s7 s8 s9 q0 q1 q2 q3 q4 q5 q6 q7 q8 q9 z0 z1 z2 z3 z4 z5 3 3 3 3)=x0 [.data m0,.data m1,.data m2] l1 l2 i3 i4 i5 i6 i7 i8 i9 j0 j1 j2 j3 j4 j5 j6 j7 j8 j9 r0 r1 r2 r3 r4 r5 r6 r7 r8 r9 s0 s1 s2 s3 s4 s5 s6 s7 s8 s9 q0 q1 q2 q3 q4 q5 q6 q7 q8 q9 z0 z1 z2 z3 z4 z5 3 3 3 3 false:=by refine (bR rfl (R:=fun _=>x0 [.data m0,.data m1,.data m2] l1 l2 i3 i4 i5 i6 i7 i8 i9 j0 j1 j2 j3 j4 j5 j6 j7 j8 j9 r0 r1 r2 r3 r4 r5 r6 r7 r8 r9 s0 s1 s2 s3 s4 s5 s6 s7 s8 s9 q0 q1 q2 q3 q4 q5 q6 q7 q8 q9 z0 z1 z2 z3 z4 z5 3 3 3 3 false) (fun n=>by kernel_rfl)).trans cK
end
set_option maxHeartbeats 2000000
section
variable {l:List Ck}
theorem Pl {s:RS} (h:VQ l s) (K:Bool→Prop):yaB s.1.num s.1.den s.2.num s.2.den K=K (neR s):=by
 rw [Pk h.s1 h.s2];unfold neR;have:=h.le
 by_cases e:s.1=s.2
 ·rw [Os e,Pn (by rw [e];exact qK)];rfl
 ·rw [Pn e,Os (by grind)];rfl
theorem Zu (K:Bool→Prop):yaB 0 0 0 0 K=K false:=by
 have h:∀ K,yaB 0 0 0 0 K=K (decide (Sp.ok ⟨0,0,0,0⟩)):=fun K=>zb (s:=⟨0,0,0,0⟩) ⟨by unfold bE;decide,by unfold bE;decide,by unfold bE;decide,by unfold bE;decide⟩ K
 rw [h,Pn];intro h;exact absurd h.1 (by unfold RV;decide)
theorem sS3 (l:List Ck) {k:Nat} (hk:k<3):bI (s3 l 0).1.num (s3 l 1).1.num (s3 l 2).1.num k=(s3 l k).1.num∧bI (s3 l 0).1.den (s3 l 1).1.den (s3 l 2).1.den k=((s3 l k).1.den:Int)∧bI (s3 l 0).2.num (s3 l 1).2.num (s3 l 2).2.num k=(s3 l k).2.num∧bI (s3 l 0).2.den (s3 l 1).2.den (s3 l 2).2.den k=((s3 l k).2.den:Int):=by
 obtain rfl|rfl|rfl:k=0∨k=1∨k=2:=by omega
 all_goals exact ⟨rfl,rfl,rfl,rfl⟩
theorem ySB (l:List Ck) (i:Nat):(L3 l i).length≤2:=by
 unfold L3
 cases neR (s3 l (qU l i))<;>cases (tr3 l&&neR (bY l i))<;>simp
theorem ySC (hd:DK l) (h3:l.length=3) (K:Int→Prop):gK (aJ l) [] K=K 0:=by
 unfold gK Oa;have h:∀ K,yeN (aJ l) [] K=K (lE l 0):=fun K=>OF hd.fin (by omega) [] K
 rw [h,hd.err (by decide),cS rfl,iE,h3];rfl
theorem yQG (hd:DK l) (h3:l.length=3) {M:Nat→List RS} (hM:M3 l M) {c g:List PV} {e a0 a1 a2 a3 a4:Int} {x0}
  {c0 c1 c2:Int×Int×Int×Int} {b0 b1 b2:Bool}
  (v0:∀ K,yaB c0.1 c0.2.1 c0.2.2.1 c0.2.2.2 K=K b0) (v1:∀ K,yaB c1.1 c1.2.1 c1.2.2.1 c1.2.2.2 K=K b1) (v2:∀ K,yaB c2.1 c2.2.1 c2.2.2.1 c2.2.2.2 K=K b2)
  (h0:(bif b0 then [.agg [.int .i64 c0.1,.int .i64 c0.2.1,.int .i64 c0.2.2.1,.int .i64 c0.2.2.2]] else [])=bJ (bif tr3 l&&neR (bY l 0) then [bY l 0] else []))
  (h1:(bif b1 then [.agg [.int .i64 c1.1,.int .i64 c1.2.1,.int .i64 c1.2.2.1,.int .i64 c1.2.2.2]] else [])=bJ (bif tr3 l&&neR (bY l 1) then [bY l 1] else []))
  (h2:(bif b2 then [.agg [.int .i64 c2.1,.int .i64 c2.2.1,.int .i64 c2.2.2.1,.int .i64 c2.2.2.2]] else [])=bJ (bif tr3 l&&neR (bY l 2) then [bY l 2] else []))
  {z0 z1 z2 z3 z4 z5 z6 z7 z8 z9 z10 z11 z12 z13 z14 z15 z16 z17 z18 z19:Int} :
  (∃ n:Nat,iJ gK yaC gO yaB yaT x0 n [.data [],.data [],.data []] c g e z0 z1 z2 z3 z4 z5 z6 z7 z8 z9 z10 z11 z12 z13 z14 z15 z16 z17 z18 z19
   (s3 l 0).1.num (s3 l 0).1.den (s3 l 0).2.num (s3 l 0).2.den (s3 l 1).1.num (s3 l 1).1.den (s3 l 1).2.num (s3 l 1).2.den (s3 l 2).1.num (s3 l 2).1.den (s3 l 2).2.num (s3 l 2).2.den a0 a1 a2 a3 a4 (o0 l:Int) (o1 l:Int) (o2 l:Int)
   c0.1 c0.2.1 c0.2.2.1 c0.2.2.2 c1.1 c1.2.1 c1.2.2.1 c1.2.2.2 c2.1 c2.2.1 c2.2.2.1 c2.2.2.2 3 3 3 0) =
  x0 (qG [M 0,M 1,M 2]) c g e z0 z1 z2 z3 z4 z5 z6 z7 z8 z9 z10 z11 z12 z13 z14 z15 z16 z17 z18 z19
   (s3 l 0).1.num (s3 l 0).1.den (s3 l 0).2.num (s3 l 0).2.den (s3 l 1).1.num (s3 l 1).1.den (s3 l 1).2.num (s3 l 1).2.den (s3 l 2).1.num (s3 l 2).1.den (s3 l 2).2.num (s3 l 2).2.den a0 a1 a2 a3 a4 (o0 l:Int) (o1 l:Int) (o2 l:Int)
   c0.1 c0.2.1 c0.2.2.1 c0.2.2.2 c1.1 c1.2.1 c1.2.2.1 c1.2.2.2 c2.1 c2.2.1 c2.2.2.1 c2.2.2.2 3 3 3 3 false:=by
 obtain ⟨D,_,V⟩:=sM hd h3;have vs:∀ {k},k<3→∀ K,yaB (bI (s3 l 0).1.num (s3 l 1).1.num (s3 l 2).1.num k) (bI (s3 l 0).1.den (s3 l 1).1.den (s3 l 2).1.den k) (bI (s3 l 0).2.num (s3 l 1).2.num (s3 l 2).2.num k) (bI (s3 l 0).2.den (s3 l 1).2.den (s3 l 2).2.den k) K=K (neR (s3 l k)):=fun {k} hk K=>by
  obtain ⟨e1,e2,e3,e4⟩:=sS3 l hk;rw [e1,e2,e3,e4,Pl (V k hk).1]
 have ms:∀ {k},k<3→∀ (i:Nat) (L:List PV),qU l i=k→L=bJ (bif tr3 l&&neR (bY l i) then [bY l i] else [])→∀ K,yaT ((bif neR (s3 l k) then [.agg [.int .i64 (bI (s3 l 0).1.num (s3 l 1).1.num (s3 l 2).1.num k),.int .i64 (bI (s3 l 0).1.den (s3 l 1).1.den (s3 l 2).1.den k),.int .i64 (bI (s3 l 0).2.num (s3 l 1).2.num (s3 l 2).2.num k),.int .i64 (bI (s3 l 0).2.den (s3 l 1).2.den (s3 l 2).2.den k)]] else [])++L) K=K (bJ (M i)) 0:=fun {k} hk i L hi hL K=>by
  obtain ⟨e1,e2,e3,e4⟩:=sS3 l hk;have e5:(bif neR (s3 l k) then [(.agg [.int .i64 (s3 l k).1.num,.int .i64 (s3 l k).1.den,.int .i64 (s3 l k).2.num,.int .i64 (s3 l k).2.den]:PV)] else [])++L=bJ (L3 l i):=by
   rw [hL];unfold L3;rw [hi]
   cases neR (s3 l k)<;>rfl
  rw [e1,e2,e3,e4,e5];exact Zs (Pj hd h3 i).1 (ySB l i) (hM.pc i).c (hM.mem i) K
 refine (rr0 (k:=o0 l) (Aq l).1 (vs (Aq l).1) v0 (ms (Aq l).1 0 _ rfl h0)).trans ?_;refine (rr1 (k:=o1 l) (Ap l).1 (vs (Ap l).1) v1 (ms (Ap l).1 1 _ rfl h1)).trans ?_;refine (rr2 (k:=o2 l) (wL l) (vs (wL l)) v2 (ms (wL l) 2 _ rfl h2)).trans ?_;exact rE9
theorem yTp (hd:DK l) (h3:l.length=3) {M:Nat→List RS} (hM:M3 l M) (K):Gz (aJ l) K=K (qG [M 0,M 1,M 2]) (s3 l 0).1.num (s3 l 0).1.den (s3 l 0).2.num (s3 l 0).2.den (s3 l 1).1.num (s3 l 1).1.den (s3 l 1).2.num (s3 l 1).2.den (s3 l 2).1.num (s3 l 2).1.den (s3 l 2).2.num (s3 l 2).2.den (jL l) (bif tr3 l then (aU l).num else 0) (bif tr3 l then ((aU l).den:Int) else 0) (bif tr3 l then (c3 l).num else 0) (bif tr3 l then ((c3 l).den:Int) else 0) (o0 l:Int) (o1 l:Int) (o2 l:Int) (aF (jM l)) 0:=by
 have f:∀ K,yaC (aJ l) [] 0 K=_:=fun K=>yRz hd h3 (lg:=[]) (by decide) K
 unfold Gz Oq;rw [ySC hd h3,cS rfl,f];dsimp only [Go.Pf.jn];rw [nZ rfl];obtain ⟨D,X⟩:=Ph hd h3;have cv:∀ i,VQ l (bY l i):=fun i=>by
  obtain ⟨j,hj,e⟩:=yRR l i;rw [e];exact (X.vq j hj).1
 cases htr:tr3 l with
 | true=>
  have hpc:jL l=(p3 l:Int):=by unfold jL;rw [htr];rfl
  rw [hpc];simp only [cond_true];have s:∀ {i0 i1 i2 i3 i4 i5 i6 i7 i8 i9 i10 i11 b0 b1:Int} K,gO (aJ l) (aF ([]++eP l)) 0 i0 i1 i2 i3 i4 i5 i6 i7 i8 i9 i10 i11 (p3 l:Int) (aU l).num (aU l).den (c3 l).num (c3 l).den b0 b1 (o2 l:Int) K=_:=fun {i0 i1 i2 i3 i4 i5 i6 i7 i8 i9 i10 i11 b0 b1} K=>yQF hd h3 (lg:=[]++eP l) (by unfold eP iH BI;rw [htr];simp only [cR,eQ,sT,cond_true];omega) i0 i1 i2 i3 i4 i5 i6 i7 i8 i9 i10 i11 b0 b1 K
  rw [Os (by omega),aY,s,cS rfl];have hh:∀ i,(bif neR (bY l i) then [(.agg [.int .i64 (bY l i).1.num,.int .i64 (bY l i).1.den,.int .i64 (bY l i).2.num,.int .i64 (bY l i).2.den]:PV)] else [])=bJ (bif tr3 l&&neR (bY l i) then [bY l i] else []):=fun i=>by
   rw [htr,jU]
   cases neR (bY l i)<;>rfl
  refine (yQG hd h3 hM (c0:=((bY l 0).1.num,((bY l 0).1.den:Int),(bY l 0).2.num,((bY l 0).2.den:Int))) (c1:=((bY l 1).1.num,((bY l 1).1.den:Int),(bY l 1).2.num,((bY l 1).2.den:Int))) (c2:=((bY l 2).1.num,((bY l 2).1.den:Int),(bY l 2).2.num,((bY l 2).2.den:Int))) (Pl (cv 0)) (Pl (cv 1)) (Pl (cv 2)) (hh 0) (hh 1) (hh 2)).trans ?_;have eG:[]++eP l++xW l=jM l:=by unfold jM;rw [htr];rfl
  rw [eG];rfl
 | false=>
  have hpc:jL l=-1:=by unfold jL;rw [htr];rfl
  rw [hpc];simp only [cond_false];rw [Pn (by decide),aV,cS rfl];have hh:∀ i,(bif false then [(.agg [.int .i64 0,.int .i64 0,.int .i64 0,.int .i64 0]:PV)] else [])=bJ (bif tr3 l&&neR (bY l i) then [bY l i] else []):=fun i=>by
   rw [htr,qI];rfl
  refine (yQG hd h3 hM (c0:=(0,0,0,0)) (c1:=(0,0,0,0)) (c2:=(0,0,0,0)) Zu Zu Zu (hh 0) (hh 1) (hh 2)).trans ?_;have eG:[]++eP l=jM l:=by unfold jM;rw [htr];exact (AA _).symm
  rw [eG];rfl
def wN (l:List Ck):Int:=if lE l 0=0 then (if l.length=3 then 0 else 2) else lE l 0
theorem ySD (hf:gP l) (hl:l.length<4611686018427387904) (K:Int→Prop):yay (aJ l) [] K=K (wN l):=by
 unfold yay NN wN;have h:∀ K,ydu (aJ l) [] K=K (lE l 0):=fun K=>Ki (lg:=[]) hf hl K
 rw [h,iE]
 by_cases e:lE l 0=0
 ·rw [cS e,Tu e]
  by_cases e2:l.length=3
  ·rw [cS (by omega),Tu e2]
  ·rw [dB (by omega),Zv e2]
 ·rw [dB e,Zv e]
theorem yNB (hf:gP l) (hl:l.length<4611686018427387904) (K:Int→Prop):gK (aJ l) [] K=K (wN l):=by
 unfold gK Oa wN;have h:∀ K,yeN (aJ l) [] K=K (lE l 0):=fun K=>OF hf hl [] K
 rw [h,iE]
 by_cases e:lE l 0=0
 ·rw [cS e,Tu e]
  by_cases e2:l.length=3
  ·rw [cS (by omega),Tu e2]
  ·rw [dB (by omega),Zv e2]
 ·rw [dB e,Zv e]
theorem yQH (hf:gP l) (hl:l.length<4611686018427387904) (h:wN l≠0) (K):yhh (aJ l) K=K [] 0 0 0 0 0 0 0 0 0 0 0 0 0 0 0 0 0 0 0 0 [] (wN l):=by unfold yhh NY;rw [ySD hf hl,dB h]
theorem yOQ (hf:gP l) (hl:l.length<4611686018427387904) (h:wN l≠0) (K):Gz (aJ l) K=K [] 0 0 0 0 0 0 0 0 0 0 0 0 0 0 0 0 0 0 0 0 [] (wN l):=by unfold Gz Oq;rw [yNB hf hl,dB h,yNB hf hl]
theorem yFI (hl:l.length≤9223372036854775807):Ou (aJ l) (fun b=>b=true):=by
 unfold Ou XN;rw [yFH hl]
 cases hg:OI l with
 | true=>rw [aY]
 | false=>
  obtain ⟨g1,g2,g3⟩:=yMe hg;rw [aV]
  by_cases h:wN l=0
  ·have hd:DK l:=by
    unfold wN at h
    by_cases e:lE l 0=0
    ·exact (OH e).1
    ·rw [Zv e] at h;exact absurd h e
   have h3:l.length=3:=by
    unfold wN at h
    by_cases e:lE l 0=0
    ·rw [Tu e] at h
     by_cases e2:l.length=3
     ·exact e2
     ·rw [Zv e2] at h;omega
    ·rw [Zv e] at h;exact absurd h e
   obtain ⟨M,hM,hT⟩:=Za hd h3;rw [hT,yTp hd h3 hM];dsimp only [Go.Pf.jn];have hL:(jM l).length≤16:=by
    rw [yQw]
    cases tr3 l<;>decide
   rw [yTi [M 0,M 1,M 2] (by show 3≤1000;decide) (fun a ha=>by
    simp only [qAo,Eh,or_false] at ha;rcases ha with rfl | rfl | rfl
    ·have:=(hM.pc 0).n;omega
    ·have:=(hM.pc 1).n;omega
    ·have:=(hM.pc 2).n;omega),aY]
   simp only [beq_self_eq_true,BR];rw [aY,xx (by omega),aY];trivial
  ·rw [yQH g3 (by omega) h,yOQ g3 (by omega) h];dsimp only [Go.Pf.jn];rw [yOC,aY];simp only [beq_self_eq_true,BR];rw [aY,yIH,aY];trivial
end
end Go.Pf.Vc
