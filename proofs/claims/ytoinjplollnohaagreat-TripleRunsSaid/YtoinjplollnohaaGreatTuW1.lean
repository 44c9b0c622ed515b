/- Part 1. -/
import Derived.Test.YtoinjplollnohaaGreatTuW0
open Go.IntKind (i64 u8 u64)
open List (length getD take drop replicate set map isEmpty)
noncomputable section
namespace Go.Pf
open Go Go.RowKit
section
variable {P:Program} {E:Env} {nt:Nat} {g g':Gh} {F:aG} {H H':Hp} {a:Act} {tmps:Array Value} {w w':World} {o:Oper} {out:Out}
theorem PU (hr:Rel E nt g F H tmps w) {t ty e:TypeId} {sz bytes:Nat} {pu pu':Bool} {z:PV} {olds ys:List PV} {base:Option Addr} {sLen sCap b2 o2 c:Nat} {oc news:List Value} {q:PV×Hp}
  (hu:P.underlying t=some (.slice e)) (hs:yd4 P e=some sz) (hby:uN P e=some bytes) (hz:ydE P e=some (pu',z)) (hq:ydm H pu sz bytes (olds++ys)=some q) (hol:olds.length=sLen)
  (hlo:gR g H w pu sz olds oc) (hlo2:oc.length=sLen*sz) (hln:gR g H w pu sz ys news) (hln2:news.length=ys.length*sz) (hatn:At w b2 o2 news) (hk:ys≠[]) (hgt:sCap<sLen+ys.length)
  (hbase:(base=none∧sLen=0∧sCap=0)∨∃ ba,base=some ba∧∀ j v,oc[j]?=some v→w.cell? (ba.add j)=some v) :
  ∃ v w' g',(Builtin.append_ #[t,t] ty #[.slice base sLen sCap,.slice (some ⟨b2,o2,none⟩) ys.length c]).run P w=.ok v w'∧Nx g g' H q.2 w w'∧Rel E nt g' F q.2 tmps w'∧VR g' q.2 w' q.1 v:=by
 obtain ⟨_,hpos,i0,hi0,hi0s⟩:=oM (P:=P) (w:=w) hs;have hbytes:i0.bytes=bytes:=by unfold uN at hby;rw [hi0] at hby;cases hby;rfl
 obtain ⟨i1,v0,hi1,hv0,_,_,_⟩:=AL (P:=P) (g:=g) (H:=H) (w:=w) hz;rw [hi0] at hi1;cases hi1;unfold ydm at hq;split at hq
 ·rename_i hroom
  cases hq
  have hrows:(olds++ys).length=sLen+ys.length:=by rw [cR,hol]
  rw [hrows] at hroom;have hr45:(sLen+ys.length+64)*(bytes+1)≤35184372088832:=hroom;have hneed:sLen+ys.length≤35184372088832:=by
   have:sLen+ys.length+64≤(sLen+ys.length+64)*(bytes+1):=BL _ (by omega);omega
  have hnb:(sLen+ys.length)*bytes≤35184372088832:=mD (AB (by omega) (by omega)) hr45;have hkp:0<ys.length:=List.length_pos_iff.2 hk;have hsz0:news.length=ys.length*i0.size:=by rw [hln2,hi0s]
  let nc:=grownCap w (sLen+ys.length) sCap e;have hge:sLen+ys.length≤nc:=grownCap_ge w _ _ _;have hcm:nc≤maxLen:=grownCap_le_maxLen w _ _ _ (by unfold maxLen;omega);have hrun:(Builtin.append_ #[t,t] ty #[.slice base sLen sCap,.slice (some ⟨b2,o2,none⟩) ys.length c]).run P w=.ok (.slice (some ⟨w.heap.size,0,none⟩) (sLen+ys.length) nc) (w.drew.alloc (.cells (oc++news++(Builtin.zeroCells v0.cells (nc-(sLen+ys.length))).toList).toArray e)):=by
   rcases hbase with ⟨rfl,rfl,rfl⟩|⟨ba,rfl,holds⟩
   ·have hoc:oc=[]:=Au (by simpa using hlo2);subst hoc;have:=run_append_nil (P:=P) w t ty e i0 v0 hu hi0 hv0 ⟨b2,o2,none⟩ ys.length c news hsz0 hatn.addr hkp (by omega) (by rw [hbytes];simp only [kI] at hnb;omega);simp only [kI] at this ⊢;rw [this];simp only [nc,kI,wR];congr 2;simp
   ·have:=run_append_grow (P:=P) w t ty e i0 v0 hu hi0 hv0 ba sLen sCap oc (by rw [hlo2,hi0s]) holds ⟨b2,o2,none⟩ ys.length c news hsz0 hatn.addr hgt (by omega) (growslice_fits (by omega) (by rw [hbytes];omega));rw [this];simp only [nc];congr 2;simp
  obtain ⟨r1,n1⟩:Rel E nt g F H tmps w.drew∧Nx g g H H w w.drew:=⟨hr.drew,Nx.drew g H w⟩;have hl:=(hlo.append (rest:=(Builtin.zeroCells v0.cells (nc-(sLen+ys.length))).toList) (by rw [hlo2,hol]) hln).on n1.on;have hlen1:oc.length+news.length=(sLen+ys.length)*sz:=by rw [hlo2,hln2,dJ]
  have hsegl:∀ i x,(olds++ys)[i]?=some x→(dM (oc++news++(Builtin.zeroCells v0.cells (nc-(sLen+ys.length))).toList) (i*sz) sz).length=sz:=by intro i x hx;have hi:=BZ hx;rw [hrows] at hi;apply AM;have:(i+1)*sz≤(sLen+ys.length)*sz:=gF _ hi;rw [dJ,jG] at this;simp only [cR];omega
  obtain ⟨g2,r2,n2,hρ⟩:=r1.newBlk (hb:=⟨false,pu,sz,olds++ys⟩) (cs:=(oc++news++(Builtin.zeroCells v0.cells (nc-(sLen+ys.length))).toList).toArray) (T:=e) hpos rfl (by simpa using hl.1)
   (fun i x hx=>⟨_,hsegl i x hx,(hl.2 i x hx).1,by rw [hsegl i x hx];rfl⟩)
   (fun hp i x hx=>⟨_,hsegl i x hx,(hl.2 i x hx).2 hp,by rw [hsegl i x hx];rfl⟩)
  refine ⟨_,_,g2,hrun,n1.trans n2,r2,?_⟩;simp only [VR];have hzc:v0.cells.size=sz:=by
   have:=Hn hz hs (w:=w) (v:=v0) (by simp [zeroValue,typeInfo,hi0,hv0]);exact this
  refine ⟨⟨false,pu,sz,olds++ys⟩,_,nc,by simp,by simp,by rw [hrows],by rw [hrows];exact hge,hcm,(fun c0 e0=>by cases e0),fun _=>?_⟩;refine ⟨w.heap.size,0,hρ,by omega,fun _=>by simp,by simp only [nM,hrows];omega,_,e,wY w.drew _,?_⟩;simp only [kI,BN,cR,Ax,Builtin.zeroCells,Array.size_map,Array.size_range,hzc];have:nc*sz=(sLen+ys.length)*sz+(nc-(sLen+ys.length))*sz:=by rw [← dJ];congr 1;omega
  omega
 ·cases hq
theorem yR2 (hr:Rel E nt g F H tmps w) {t ty e:TypeId} {sz:Nat} {id b o lo len _ext sCap b2 o2 c:Nat} {cap:Option Nat} {hb:HB} {rows' ys:List PV} {news:List Value} {cur:Array Value} {T:TypeId}
  (hu:P.underlying t=some (.slice e)) (hs:yd4 P e=some sz) (hid:H[id]?=some hb) (hf:hb.fz=false) (hρ:g.ρ id=some (b,o)) (hcu:w.heap[b]?=some (.cells cur T (0,0))) (hesz:hb.esz=sz)
  (hln:gR g H w hb.pu sz ys news) (hln2:news.length=ys.length*sz) (hatn:At w b2 o2 news) (hle:len+ys.length≤sCap) (hfit:o+(lo+len+ys.length)*sz≤cur.size) (hlo:lo+len≤hb.rows.length)
  (hrows:rows'=hb.rows.take (lo+len)++(ys++hb.rows.drop (lo+len+ys.length))) (hmax:sCap≤maxLen) (hcc:∀ c0,cap=some c0→sCap=c0)
  (hcap:nM lo sCap rows'.length cap) (hroom:o+(lo+sCap)*sz≤cur.size) (hbl:o+hb.rows.length*sz≤cur.size) :
  ∃ v w',(Builtin.append_ #[t,t] ty #[.slice (some ⟨b,o+lo*sz,none⟩) len sCap,.slice (some ⟨b2,o2,none⟩) ys.length c]).run P w=.ok v w'∧Nx g g H (H.set id { hb with rows:=rows' }) w w' ∧
   Rel E nt g F (H.set id { hb with rows:=rows' }) tmps w'∧VR g (H.set id { hb with rows:=rows' }) w' (.own id lo (len+ys.length) rows'.length cap) v:=by
 obtain ⟨_,hpos,i0,hi0,hi0s⟩:=oM (P:=P) (w:=w) hs;have hmulfit:(lo+len+ys.length)*sz=(lo+len)*sz+ys.length*sz:=dJ ..;have hoff:o+lo*sz+len*sz=o+(lo+len)*sz:=by rw [dJ];omega
 have hspl:o+(lo+len)*sz+news.length≤cur.toList.length:=by simp;omega
 have hrun:=yGT (P:=P) (t:=t) (ty:=ty) hu hi0 (b:=b) (o:=o+lo*sz) (sLen:=len) (sCap:=sCap) (c:=c) hcu (by rw [hln2,hi0s]) hatn (gR.one hpos hln hln2) hle (by rw [hi0s,hoff];simpa using hspl);rw [hi0s,hoff] at hrun;have hrl:rows'.length=max hb.rows.length (lo+len+ys.length):=by rw [hrows];simp only [cR,lM,kR];omega
 obtain ⟨b',o',hblk⟩:=hr.heap id hb hid;have hat:=hblk.at_;rw [hρ] at hat;cases hat
 have hsegs:∀ j y,rows'[j]?=some y→∃ us,us.length=hb.esz∧bF g H w y us∧(hb.pu=true→RC g.I w y us)∧dM (fM cur.toList (o+(lo+len)*sz) news) (o+j*hb.esz) hb.esz=us:=by
  intro j y hj;rw [hesz];rw [hrows,qY] at hj;have old:∀ j y,hb.rows[j]?=some y→(j<lo+len∨lo+len+ys.length≤j)→∃ us,us.length=sz∧bF g H w y us∧(hb.pu=true→RC g.I w y us)∧dM (fM cur.toList (o+(lo+len)*sz) news) (o+j*sz) sz=us:=by
   intro j y hj hd;obtain ⟨us,hu1,hu2,hu3⟩:=tB hb.rows hb.esz b o j y hblk.rows hj;rw [hesz] at hu1 hu3;refine ⟨us,hu1,hu2,fun hp=>?_,?_⟩
   ·obtain ⟨us2,hv2,hrc2,hat2⟩:=pG hb.rows hb.esz b o j y (hblk.pure hp) hj;rw [hesz] at hv2 hat2;have:us2=us:=by
     have e5:=At.to_cells hcu hat2;have e6:=At.to_cells hcu hu3;rw [hv2] at e5;rw [hu1] at e6;rw [← e5,← e6]
    subst this;exact hrc2
   ·have hd':o+j*sz+sz≤o+(lo+len)*sz∨o+(lo+len)*sz+news.length≤o+j*sz:=by
     rcases hd with h1|h1
     ·left;have:(j+1)*sz≤(lo+len)*sz:=gF _ h1;rw [dJ,jG] at this;omega
     ·right;have:(lo+len+ys.length)*sz≤j*sz:=gF _ h1;omega
    rw [Le hspl hd'];have e6:=At.to_cells hcu hu3;rw [hu1] at e6;exact e6
  split at hj
  ·rename_i hlt';rw [sN] at hj;split at hj
   ·exact old j y hj (.inl (by assumption))
   ·cases hj
  ·rename_i hge;have htl:(hb.rows.take (lo+len)).length=lo+len:=by rw [lM];omega
   rw [htl] at hj hge;rw [qY] at hj;split at hj
   ·rename_i hlt2;obtain ⟨h1,h2⟩:=hln.2 _ y hj;have hmul:(j-(lo+len))*sz+sz≤ys.length*sz:=by
     have:(j-(lo+len)+1)*sz≤ys.length*sz:=gF _ hlt2
     rwa [dJ,jG] at this
    have hjm:j*sz=(lo+len)*sz+(j-(lo+len))*sz:=by rw [← dJ];congr 1;omega
    refine ⟨dM news ((j-(lo+len))*sz) sz,AM (by omega),h1,h2,?_⟩;apply sP;intro k;rw [tG,tG]
    by_cases hk:k<sz
    ·rw [Tu hk,Tu hk,Ew hspl,Zv (by omega),Tu (by omega)];congr 1;omega
    ·rw [Zv hk,Zv hk]
   ·rename_i hge2;rw [sO] at hj;have e:lo+len+ys.length+(j-(lo+len)-ys.length)=j:=by omega
    rw [e] at hj;exact old j y hj (.inr (by omega))
 have hfit':o+rows'.length*hb.esz≤cur.size:=by
  rw [hesz,hrl];rcases Nat.le_total hb.rows.length (lo+len+ys.length) with h1 | h1
  ·rw [Nat.max_eq_right h1];exact hfit
  ·rw [Nat.max_eq_left h1];exact hbl
 obtain ⟨r2,n2⟩:=hr.setBlk (cs:=(fM cur.toList (o+(lo+len)*sz) news).toArray) (rows':=rows') hid hf hρ hcu (by simp [tF hspl]) (by omega) (by simpa [tF hspl] using hfit')
  (fun j y hj=>by
   obtain ⟨us,h1,h2,h3,h4⟩:=hsegs j y hj;exact ⟨us,h1,h2,by rw [h1];exact h4⟩)
  (fun hp j y hj=>by
   obtain ⟨us,h1,h2,h3,h4⟩:=hsegs j y hj;exact ⟨us,h1,h3 hp,by rw [h1];exact h4⟩)
 refine ⟨_,_,hrun,n2,r2,?_⟩;simp only [VR];refine ⟨{ hb with rows:=rows' },_,sCap,by rw [uG (hlt hid)],cJ _,rfl,hle,hmax,hcc,fun _=>?_⟩;refine ⟨b,o,hρ,by omega,fun _=>by rw [hesz],hcap,_,T,setRow_heap w b cur _ T (0,0) hcu,?_⟩;simp only [BN,tF hspl,Ax,hesz];exact hroom
theorem yO9 (hr:Rel E nt g F H tmps w) {sz:Nat} {id b o lo:Nat} {hb:HB} {rows' ys:List PV} {news:List Value} {cur:Array Value} {T:TypeId}
  (hid:H[id]?=some hb) (hf:hb.fz=false) (hρ:g.ρ id=some (b,o)) (hcu:w.heap[b]?=some (.cells cur T (0,0))) (hesz:hb.esz=sz)
  (hln:gR g H w hb.pu sz ys news) (hln2:news.length=ys.length*sz) (hlo:lo+ys.length≤hb.rows.length)
  (hrows:rows'=hb.rows.take lo++(ys++hb.rows.drop (lo+ys.length))) (hbl:o+hb.rows.length*sz≤cur.size) :
  Nx g g H (H.set id { hb with rows:=rows' }) w (w.setRow b (fM cur.toList (o+lo*sz) news).toArray)∧Rel E nt g F (H.set id { hb with rows:=rows' }) tmps (w.setRow b (fM cur.toList (o+lo*sz) news).toArray):=by
 have hmulfit:(lo+ys.length)*sz=lo*sz+ys.length*sz:=dJ ..;have hmulle:(lo+ys.length)*sz≤hb.rows.length*sz:=gF _ hlo;have hspl:o+lo*sz+news.length≤cur.toList.length:=by simp;omega
 have hrl:rows'.length=hb.rows.length:=by rw [hrows];simp only [cR,lM,kR];omega
 obtain ⟨b',o',hblk⟩:=hr.heap id hb hid;have hat:=hblk.at_;rw [hρ] at hat;cases hat
 have hsegs:∀ j y,rows'[j]?=some y→∃ us,us.length=hb.esz∧bF g H w y us∧(hb.pu=true→RC g.I w y us)∧dM (fM cur.toList (o+lo*sz) news) (o+j*hb.esz) hb.esz=us:=by
  intro j y hj;rw [hesz];rw [hrows,qY] at hj;have old:∀ j y,hb.rows[j]?=some y→(j<lo∨lo+ys.length≤j)→∃ us,us.length=sz∧bF g H w y us∧(hb.pu=true→RC g.I w y us)∧dM (fM cur.toList (o+lo*sz) news) (o+j*sz) sz=us:=by
   intro j y hj hd;obtain ⟨us,hu1,hu2,hu3⟩:=tB hb.rows hb.esz b o j y hblk.rows hj;rw [hesz] at hu1 hu3;refine ⟨us,hu1,hu2,fun hp=>?_,?_⟩
   ·obtain ⟨us2,hv2,hrc2,hat2⟩:=pG hb.rows hb.esz b o j y (hblk.pure hp) hj;rw [hesz] at hv2 hat2;have:us2=us:=by
     have e5:=At.to_cells hcu hat2;have e6:=At.to_cells hcu hu3;rw [hv2] at e5;rw [hu1] at e6;rw [← e5,← e6]
    subst this;exact hrc2
   ·have hd':o+j*sz+sz≤o+lo*sz∨o+lo*sz+news.length≤o+j*sz:=by
     rcases hd with h1|h1
     ·left;have:(j+1)*sz≤lo*sz:=gF _ h1;rw [dJ,jG] at this;omega
     ·right;have:(lo+ys.length)*sz≤j*sz:=gF _ h1;omega
    rw [Le hspl hd'];have e6:=At.to_cells hcu hu3;rw [hu1] at e6;exact e6
  split at hj
  ·rename_i hlt';rw [sN] at hj;split at hj
   ·exact old j y hj (.inl (by assumption))
   ·cases hj
  ·rename_i hge;have htl:(hb.rows.take lo).length=lo:=by rw [lM];omega
   rw [htl] at hj hge;rw [qY] at hj;split at hj
   ·rename_i hlt2;obtain ⟨h1,h2⟩:=hln.2 _ y hj;have hmul:(j-lo)*sz+sz≤ys.length*sz:=by
     have:(j-lo+1)*sz≤ys.length*sz:=gF _ hlt2
     rwa [dJ,jG] at this
    have hjm:j*sz=lo*sz+(j-lo)*sz:=by rw [← dJ];congr 1;omega
    refine ⟨dM news ((j-lo)*sz) sz,AM (by omega),h1,h2,?_⟩;apply sP;intro k;rw [tG,tG]
    by_cases hk:k<sz
    ·rw [Tu hk,Tu hk,Ew hspl,Zv (by omega),Tu (by omega)];congr 1;omega
    ·rw [Zv hk,Zv hk]
   ·rename_i hge2;rw [sO] at hj;have e:lo+ys.length+(j-lo-ys.length)=j:=by omega
    rw [e] at hj;exact old j y hj (.inr (by omega))
 obtain ⟨r2,n2⟩:=hr.setBlk (cs:=(fM cur.toList (o+lo*sz) news).toArray) (rows':=rows') hid hf hρ hcu (by simp [tF hspl]) (by omega) (by rw [hrl,hesz];simpa [tF hspl] using hbl)
  (fun j y hj=>by
   obtain ⟨us,h1,h2,h3,h4⟩:=hsegs j y hj;exact ⟨us,h1,h2,by rw [h1];exact h4⟩)
  (fun hp j y hj=>by
   obtain ⟨us,h1,h2,h3,h4⟩:=hsegs j y hj;exact ⟨us,h1,h3 hp,by rw [h1];exact h4⟩)
 exact ⟨n2,r2⟩
theorem yR3 (hr:Rel E nt g F H a.tmps w) {c:Call} {s x:Operand} {s' x':Opd} {t e:TypeId} {pu:Bool} {sz bytes:Nat} {z:PV} (ho:o.op=.call c) (hc:c.callee=.builtin .append) (hargs:c.args.toList=[s,x]) (hts:c.argTypes.toList=[t,t])
  (hu:P.underlying t=some (.slice e)) (hs:yd4 P e=some sz) (hby:uN P e=some bytes) (hz:ydE P e=some (pu,z)) (hsx:opd s=some s') (hx:opd x=some x') {call} (h:yaI E call F H (.app pu sz bytes s' x')=some out) :
  bV E nt g F H a.tmps w out ((execOp a.eval o).run P w):=by
 obtain ⟨_,hpos,i0,hi0,hi0s⟩:=oM (P:=P) (w:=w) hs;have ha:c.args=#[s,x]:=by rw [← sQ];simpa using hargs
 have ht:c.argTypes=#[t,t]:=by rw [← sQ];simpa using hts
 have fin:∀ {q:PV×Hp} {v:Value} {w':World} {g':Gh},(Builtin.append_ #[t,t] o.type #[a.eval s,a.eval x]).run P w=.ok v w'→Nx g g' H q.2 w w'→Rel E nt g' F q.2 a.tmps w'→VR g' q.2 w' q.1 v→bV E nt g F H a.tmps w ⟨some (.v q.1),none,q.2⟩ ((execOp a.eval o).run P w):=by intro q v w' g' hrun hn hr' hv;refine ⟨v,w',g',.inl ?_,hn,hr',hv⟩;simp [execOp,ho,resolve,hc,ha,ht,invoke,builtin,hrun]
 simp only [yaI] at h;split at h
 ·rename_i p q hp hq;have hvs:=eY hr hsx hp;have hvx:=eY hr hx hq;split at h
  ·rename_i r H1 happ;rw [dO h];unfold appV at happ;split at happ
   ·cases happ
   ·rename_i ys hys;split at happ
    ·rename_i hcnd;obtain ⟨ad,c2,news,e1,_,_,hnl,hlie,hat⟩:=yNM hr hpos hvx hys hcnd.1 hcnd.2;split at happ
     ·simp only [VR] at hvs;split at happ
      ·rename_i hemp
       cases happ
       have:ys=[]:=by simpa using hemp
       subst this;exact fin (q:=(.nils,H)) (by rw [hvs,e1];exact PS hu hi0 (jV _)) (Nx.refl g H w) hr (by simp [VR])
      ·rename_i hemp;have hne:ys≠[]:=by simpa using hemp
       obtain ⟨b2,o2,rfl,hatn⟩:=hat hne;obtain ⟨v,w',g',hrun,hn,hr',hv⟩:=PU (ty:=o.type) (olds:=[]) (oc:=[]) (base:=none) (sLen:=0) (sCap:=0) (c:=c2) hr hu hs hby hz (by simpa using happ) rfl gR.nil (by simp) hlie hnl hatn hne (by have:=List.length_pos_iff.2 hne;omega) (.inl ⟨rfl,rfl,rfl⟩);exact fin (by rw [hvs,e1];exact hrun) hn hr' hv
     ·simp only [VR] at hvs;obtain ⟨ad0,hvs⟩:=hvs;split at happ
      ·rename_i hemp
       cases happ
       have:ys=[]:=by simpa using hemp
       subst this;exact fin (q:=(.emp,H)) (by rw [hvs,e1];exact PS hu hi0 (jV _)) (Nx.refl g H w) hr (by simp [VR])
      ·rename_i hemp;have hne:ys≠[]:=by simpa using hemp
       obtain ⟨b2,o2,rfl,hatn⟩:=hat hne;obtain ⟨v,w',g',hrun,hn,hr',hv⟩:=PU (ty:=o.type) (olds:=[]) (oc:=[]) (base:=ad0) (sLen:=0) (sCap:=0) (c:=c2) hr hu hs hby hz (by simpa using happ) rfl gR.nil (by simp) hlie hnl hatn hne (by have:=List.length_pos_iff.2 hne;omega)
        (by cases ad0 with
          | none=>exact .inl ⟨rfl,rfl,rfl⟩
          | some ba=>exact .inr ⟨ba,rfl,fun j v hj=>by simp at hj⟩)
       exact fin (by rw [hvs,e1];exact hrun) hn hr' hv
     ·rename_i id lo len ext cap;have hvs':=hvs;simp only [VR] at hvs;obtain ⟨hb,ad0,cc,e2,hle,hv0,hcl,hcm,hcc,hcond⟩:=hvs;split at happ
      ·rename_i hb' e3;rw [e2] at e3;cases e3;split at happ
       ·rename_i hk;obtain ⟨k1,k2,k3,k4⟩:=hk;obtain ⟨b,o1,hρ,hle2,had,hcap,cur,T,hcu,hroom⟩:=hcond k1;obtain ⟨b',o',hblk⟩:=hr.heap id hb e2;have hat0:=hblk.at_;rw [hρ] at hat0;cases hat0;obtain ⟨cur',T',hcu',hbl⟩:=hblk.cells;rw [hcu] at hcu';cases hcu';rw [k3] at hroom hbl;split at happ
        ·rename_i hemp
         cases happ
         have:ys=[]:=by simpa using hemp
         subst this;exact fin (q:=(.own id lo len ext cap,H)) (by rw [hv0,e1];exact PS hu hi0 hcl) (Nx.refl g H w) hr (by rw [← hv0];exact hvs')
        ·rename_i hemp;have hne:ys≠[]:=by simpa using hemp
         obtain ⟨b2,o2,rfl,hatn⟩:=hat hne;have hkp:=List.length_pos_iff.2 hne;have olds:(hb.rows.drop lo).take len=(hb.rows.drop lo).take len∧((hb.rows.drop lo).take len).length=len:=⟨rfl,by rw [lM,kR];omega⟩;have hR:=Lk hblk.rows lo len;have hC:=fun hp=>KR (hblk.pure hp) lo len
         rw [k3] at hR hC;have grow:∀ {q:PV×Hp},ydm H pu sz bytes ((hb.rows.drop lo).take len++ys)=some q→cc<len+ys.length→bV E nt g F H a.tmps w ⟨some (.v q.1),none,q.2⟩ ((execOp a.eval o).run P w):=by
          intro q hfr hgt;obtain ⟨oc,hoc1,hoc2⟩:=Lj sz b _ _ hR;rw [olds.2] at hoc1;have hlo:=PR (pu:=pu) hR (fun hp=>hC (by rw [k2];exact hp)) (by rw [olds.2];exact hoc1) hoc2;have hbase:∀ j v,oc[j]?=some v→w.cell? (ad0.add j)=some v:=by
           intro j v hj;have:cc≠0:=by
            intro h0;have hl0:len=0:=by omega
            rw [hl0] at hoc1;have:oc=[]:=Au (by simpa using hoc1);subst this;simp at hj
           rw [had this,k3];exact hoc2.addr j v hj
          obtain ⟨v,w',g',hrun,hn,hr',hv⟩:=PU (ty:=o.type) (base:=some ad0) (sCap:=cc) (c:=c2) hr hu hs hby hz hfr olds.2 hlo hoc1 hlie hnl hatn hne hgt (.inr ⟨ad0,rfl,hbase⟩);exact fin (by rw [hv0,e1];exact hrun) hn hr' hv
         have inpl:∀ {rows':List PV},hb.fz=false→len+ys.length≤cc→rows'=hb.rows.take (lo+len)++(ys++hb.rows.drop (lo+len+ys.length))→o1+(lo+len+ys.length)*sz≤cur.size→nM lo cc rows'.length cap →
           bV E nt g F H a.tmps w ⟨some (.v (.own id lo (len+ys.length) rows'.length cap)),none,H.set id { hb with rows:=rows' }⟩ ((execOp a.eval o).run P w):=by
          intro rows' hfz hin hrows hfit hcap';rw [← k2] at hlie;obtain ⟨v,w',hrun,hn,hr',hv⟩:=yR2 (ty:=o.type) (c:=c2) (lo:=lo) (len:=len) (sCap:=cc) (_ext:=ext) (cap:=cap) hr hu hs e2 hfz hρ hcu k3 hlie hnl hatn hin hfit (by omega) hrows hcm hcc hcap' hroom hbl;refine fin (q:=(.own id lo (len+ys.length) rows'.length cap,H.set id { hb with rows:=rows' })) ?_ hn hr' hv;rw [hv0,e1,had (by omega),k3];exact hrun
         cases cap with
         | some c0=>
          have hc0:=hcc c0 rfl;subst hc0;simp only [oH] at happ;simp only [nM] at hcap
          by_cases hin:len+ys.length≤cc
          ·rw [Tu hin] at happ
           by_cases hfz:hb.fz=false
           ·rw [Tu hfz] at happ
            cases happ
            have hrl:(hb.rows.take (lo+len)++(ys++hb.rows.drop (lo+len+ys.length))).length=ext:=by simp only [cR,lM,kR];omega
            have:=inpl (rows':=hb.rows.take (lo+len)++(ys++hb.rows.drop (lo+len+ys.length))) hfz hin rfl (by
             refine mD (Nat.add_le_add_left (gF _ ?_) _) hbl;omega) (by simp only [nM];rw [hrl];exact hcap)
            rw [hrl] at this;exact this
           ·rw [Zv hfz] at happ;cases happ
          ·rw [Zv hin] at happ;exact grow happ (by omega)
         | none=>
          simp only [oH] at happ;simp only [nM] at hcap
          by_cases hfz:hb.fz=true
          ·rw [Tu hfz] at happ;cases happ
          ·rw [Zv hfz] at happ;have hfz:hb.fz=false:=by simpa using hfz
           by_cases hin:lo+len+ys.length≤ext
           ·rw [Tu hin] at happ
            cases happ
            have hrl:(hb.rows.take (lo+len)++(ys++hb.rows.drop (lo+len+ys.length))).length=ext:=by simp only [cR,lM,kR];omega
            have:=inpl (rows':=hb.rows.take (lo+len)++(ys++hb.rows.drop (lo+len+ys.length))) hfz (by omega) rfl (by
             refine mD (Nat.add_le_add_left (gF _ ?_) _) hbl;omega) (by simp only [nM];rw [hrl];exact hcap)
            rw [hrl] at this;exact this
           ·rw [Zv hin] at happ
            by_cases hg:lo=0∧len≤ext∧(len+ys.length+64)*(bytes+1)≤room
            case neg=>rw [Zv hg] at happ;cases happ
            case pos=>
             rw [Tu hg] at happ;obtain ⟨rfl,hle',hroomE⟩:=hg
             cases happ
             by_cases hin:len+ys.length≤cc
             ·have hrows:hb.rows.take len++ys=hb.rows.take (0+len)++(ys++hb.rows.drop (0+len+ys.length)):=by
               rw [kI,qW (by omega)];simp
              have hrl:(hb.rows.take len++ys).length=len+ys.length:=by rw [cR,lM,k1,Nat.min_eq_left hle']
              have:=inpl (rows':=hb.rows.take len++ys) hfz hin hrows (by
               refine mD (Nat.add_le_add_left (gF _ ?_) _) hroom;omega) (by simp only [nM];rw [hrl];omega)
              rw [hrl] at this;exact this
             ·-- the block moves
              have hlt':(hb.rows.take len).length=len:=by rw [lM,k1,Nat.min_eq_left hle']
              have hR':=hR;have hC':=fun hp=>hC hp
              rw [mX,Nat.zero_mul,wU] at hR' hC';obtain ⟨oc,hoc1,hoc2⟩:=Lj sz b _ _ hR';have hlo:=PR (pu:=pu) hR' (fun hp=>hC' (by rw [k2];exact hp)) hoc1 hoc2;rw [hlt'] at hoc1;have hbase:∀ j v,oc[j]?=some v→w.cell? (ad0.add j)=some v:=by
               intro j v hj;have:cc≠0:=by
                intro h0;have hl0:len=0:=by omega
                rw [hl0] at hoc1;have:oc=[]:=Au (by simpa using hoc1);subst this;simp at hj
               rw [had this,Nat.zero_mul,wU];exact hoc2.addr j v hj
              obtain ⟨i1,v0,hi1,hv0z,hz1,_,_⟩:=AL (P:=P) (g:=g) (H:=H) (w:=w) hz;rw [hi0] at hi1;cases hi1;have hbytes:i0.bytes=bytes:=by unfold uN at hby;rw [hi0] at hby;cases hby;rfl
              have hr45:(len+ys.length+64)*(bytes+1)≤35184372088832:=hroomE;have hneed:len+ys.length≤35184372088832:=by have:len+ys.length+64≤(len+ys.length+64)*(bytes+1):=BL _ (by omega);omega
              have hnb:(len+ys.length)*bytes≤35184372088832:=mD (AB (by omega) (by omega)) hr45;have hrun:=run_append_grow (P:=P) w t o.type e i0 v0 hu hi0 hv0z ad0 len cc oc (by rw [hoc1,hi0s]) hbase ⟨b2,o2,none⟩ ys.length c2 news (by rw [hnl,hi0s]) hatn.addr (by omega) (by omega) (growslice_fits (by omega) (by rw [hbytes];omega));have hge:len+ys.length≤grownCap w (len+ys.length) cc e:=grownCap_ge w _ _ _;have hcm2:grownCap w (len+ys.length) cc e≤maxLen:=grownCap_le_maxLen w _ _ _ (by unfold maxLen;omega);have hcells:(oc.toArray++news.toArray++Builtin.zeroCells v0.cells (grownCap w (len+ys.length) cc e-(len+ys.length)))=(oc++news++(Builtin.zeroCells v0.cells (grownCap w (len+ys.length) cc e-(len+ys.length))).toList).toArray:=by simp
              rw [hcells] at hrun;have hl:=(hlo.append (rest:=(Builtin.zeroCells v0.cells (grownCap w (len+ys.length) cc e-(len+ys.length))).toList) (by rw [hoc1,hlt']) hlie).on (On.drew g H w);have hlen1:oc.length+news.length=(len+ys.length)*sz:=by rw [hoc1,hnl,dJ]
              have hsegl:∀ i x,(hb.rows.take len++ys)[i]?=some x→(dM (oc++news++(Builtin.zeroCells v0.cells (grownCap w (len+ys.length) cc e-(len+ys.length))).toList) (i*sz) sz).length=sz:=by intro i x hx;have hi:=BZ hx;rw [cR,hlt'] at hi;apply AM;have:(i+1)*sz≤(len+ys.length)*sz:=gF _ hi;rw [dJ,jG] at this;simp only [cR];omega
              obtain ⟨g2,r2,n2,hρ2⟩:=hr.drew.growBlk (rows':=hb.rows.take len++ys) (cs:=(oc++news++(Builtin.zeroCells v0.cells (grownCap w (len+ys.length) cc e-(len+ys.length))).toList).toArray) (T:=e) e2 hfz (by rw [cR,hlt',k1];omega) (by rw [k3];simpa [hlt',k1] using hl.1)
               (fun i x hx=>⟨_,by rw [k3];exact hsegl i x hx,(hl.2 i x hx).1,by rw [k3,hsegl i x hx];rfl⟩)
               (fun hp i x hx=>⟨_,by rw [k3];exact hsegl i x hx,(hl.2 i x hx).2 (by rw [← k2];exact hp),by rw [k3,hsegl i x hx];rfl⟩)
              refine fin (q:=(.own id 0 (len+ys.length) (len+ys.length) none,H.set id { hb with rows:=hb.rows.take len++ys })) (by rw [hv0,e1];exact hrun) ((Nx.drew g H w).trans n2) r2 ?_;simp only [VR];have hzc:v0.cells.size=sz:=by rw [hz1,hi0s]
              refine ⟨{ hb with rows:=hb.rows.take len++ys },_,_,by rw [uG (hlt e2)],by simp [hlt'],rfl,hge,hcm2,(fun c0 e0=>by cases e0),fun _=>?_⟩;refine ⟨w.heap.size,0,hρ2,by omega,fun _=>by simp,by simp only [nM];omega,_,e,wY w.drew _,?_⟩;simp only [kI,BN,cR,Ax,Builtin.zeroCells,Array.size_map,Array.size_range,hzc,k3];have:grownCap w (len+ys.length) cc e*sz=(len+ys.length)*sz+(grownCap w (len+ys.length) cc e-(len+ys.length))*sz:=by rw [← dJ];congr 1;omega
              omega
       ·cases happ
      ·cases happ
     ·cases happ
    ·cases happ
  ·cases h
 ·cases h
theorem yQV (hr:Rel E nt g F H a.tmps w) {c:Call} {s x:Operand} {s' x':Opd} {t t' e:TypeId} {kn:IntKind} {pu:Bool} {sz bytes:Nat} {z:PV} (ho:o.op=.call c) (hc:c.callee=.builtin .append) (hargs:c.args.toList=[s,x]) (hts:c.argTypes.toList=[t,t'])
  (hu:P.underlying t=some (.slice e)) (hk:P.underlying t'=some (.int kn)) (hs:yd4 P e=some sz) (hby:uN P e=some bytes) (hz:ydE P e=some (pu,z)) (hsx:opd s=some s') (hx:opd x=some x') {call} (h:yaI E call F H (.appZ pu sz bytes z s' x')=some out) :
  bV E nt g F H a.tmps w out ((execOp a.eval o).run P w):=by
 obtain ⟨_,hpos,i0,hi0,hi0s⟩:=oM (P:=P) (w:=w) hs;have hbytes:i0.bytes=bytes:=by unfold uN at hby;rw [hi0] at hby;cases hby;rfl
 obtain ⟨i1,v0,hi1,hv0,hvs,z1,z2⟩:=AL (P:=P) (g:=g) (H:=H) (w:=w) hz;rw [hi0] at hi1;cases hi1;have ha:c.args=#[s,x]:=by rw [← sQ];simpa using hargs
 have ht:c.argTypes=#[t,t']:=by rw [← sQ];simpa using hts
 have fin:∀ {q:PV×Hp} {v:Value} {w':World} {g':Gh},(Builtin.append_ #[t,t'] o.type #[a.eval s,a.eval x]).run P w=.ok v w'→Nx g g' H q.2 w w'→Rel E nt g' F q.2 a.tmps w'→VR g' q.2 w' q.1 v→bV E nt g F H a.tmps w ⟨some (.v q.1),none,q.2⟩ ((execOp a.eval o).run P w):=by intro q v w' g' hrun hn hr' hv;refine ⟨v,w',g',.inl ?_,hn,hr',hv⟩;simp [execOp,ho,resolve,hc,ha,ht,invoke,builtin,hrun]
 simp only [yaI] at h;split at h
 ·rename_i p k hp hq;have hv1:=eY hr hsx hp;obtain ⟨kq,e1,_⟩:=tD hr hx hq;split at h
  ·rename_i h0;split at h
   ·rename_i r H1 happ;rw [dO h];unfold appZ at happ;split at happ
    ·simp only [VR] at hv1;obtain ⟨n,rfl⟩:∃ n:Nat,k=(n:Int):=⟨k.toNat,by omega⟩;simp only [cP] at happ;split at happ
     ·rename_i hn;subst hn
      cases happ
      refine fin (q:=(.nils,H)) (v:=.slice none 0 0) ?_ (Nx.refl g H w) hr (by simp [VR]);rw [hv1,e1];have hw0:i64.wrap (0:Int)=0:=by rw [IntKind.wrap_i64];omega
      simp [Builtin.append_,run_underlying hu,run_underlying hk,sizeOf,typeInfo,hi0,asInt,asIntOf,hw0]
     ·rename_i hn;unfold ydm at happ;split at happ
      ·rename_i hroom
       cases happ
       have hroom:(n+64)*(bytes+1)≤35184372088832:=by rw [xZ] at hroom;exact hroom
       have hneed:n≤35184372088832:=by have:n+64≤(n+64)*(bytes+1):=BL _ (by omega);omega
       have hnb:n*bytes≤35184372088832:=mD (AB (by omega) (by omega)) hroom;have hrun:=Lib.run_append_nil_zeros (P:=P) w t t' o.type e i0 v0 kq kn hu hk hi0 hv0 n (by omega) (by omega) (by omega) (by rw [hbytes];omega);have hvz:v0.cells.size=sz:=by rw [hvs,hi0s]
       let nc:=grownCap w n 0 e;have hge:n≤nc:=grownCap_ge w _ _ _;have hcm:nc≤maxLen:=grownCap_le_maxLen w _ _ _ (by unfold maxLen;omega);obtain ⟨r1,n1⟩:Rel E nt g F H a.tmps w.drew∧Nx g g H H w w.drew:=⟨hr.drew,Nx.drew g H w⟩;have hlie:=EA (g:=g) (H:=H) (w:=w) (n:=n) (pu:=pu) hvz hpos z1 z2;have hzc:((Array.range (n*sz)).map (v0.cells[· % v0.cells.size]!)).toList=(Builtin.zeroCells v0.cells n).toList:=by unfold Builtin.zeroCells;rw [hvz]
       rw [hzc] at hlie;have hzl:(Builtin.zeroCells v0.cells n).toList.length=n*sz:=by unfold Builtin.zeroCells;rw [hvz];simp
       have hl:=(gR.append (rest:=[]) gR.nil (by simp) hlie (r2:=replicate n z)).on n1.on;simp only [wR,AA] at hl;have hsg:∀ i,i<n→(dM ((Builtin.zeroCells v0.cells n)++Builtin.zeroCells v0.cells (nc-n)).toList (i*sz) sz)=dM (Builtin.zeroCells v0.cells n).toList (i*sz) sz∧(dM (Builtin.zeroCells v0.cells n).toList (i*sz) sz).length=sz:=by intro i hi;have hle:(i+1)*sz≤n*sz:=gF _ hi;rw [dJ,jG] at hle;refine ⟨?_,AM (by rw [hzl];omega)⟩;simp only [dM,Array.toList_append];rw [List.drop_append_of_le_length (by rw [hzl];omega),List.take_append_of_le_length (by rw [kR,hzl];omega)]
       have hin:∀ (i:Nat) (x:PV),(replicate n z)[i]?=some x→i<n:=by intro i x hx;have:=BZ hx;simpa using this
       obtain ⟨g2,r2,n2,hρ⟩:=r1.newBlk (hb:=⟨false,pu,sz,replicate n z⟩) (cs:=(Builtin.zeroCells v0.cells n)++Builtin.zeroCells v0.cells (nc-n)) (T:=e) hpos rfl (by
         simp only [Array.size_append,xZ];have:=hzl;rw [Ax] at this;omega)
        (fun i x hx=>by
         obtain ⟨q1,q2⟩:=hsg i (hin i x hx);exact ⟨dM (Builtin.zeroCells v0.cells n).toList (i*sz) sz,q2,(hl.2 i x hx).1,by rw [q2];exact q1⟩)
        (fun hp i x hx=>by
         obtain ⟨q1,q2⟩:=hsg i (hin i x hx);exact ⟨dM (Builtin.zeroCells v0.cells n).toList (i*sz) sz,q2,(hl.2 i x hx).2 hp,by rw [q2];exact q1⟩)
       refine fin (q:=(.own H.length 0 (replicate n z).length (replicate n z).length none,H++[⟨false,pu,sz,replicate n z⟩])) (g':=g2) (by rw [hv1,e1];exact hrun) (n1.trans n2) r2 ?_;simp only [VR];refine ⟨⟨false,pu,sz,replicate n z⟩,_,nc,by simp,by simp,by rw [xZ],by simpa using hge,hcm,(fun c0 e0=>by cases e0),fun _=>?_⟩;refine ⟨w.heap.size,0,hρ,by omega,fun _=>by simp,by simp only [nM,xZ];omega,_,e,wY w.drew _,?_⟩;have h1:=hzl;rw [Ax] at h1;simp only [kI,Array.size_append,Builtin.zeroCells,Array.size_map,Array.size_range,hvz];have:nc*sz=n*sz+(nc-n)*sz:=by rw [← dJ];congr 1;omega
       omega
      ·cases happ
    ·cases happ
   ·cases h
  ·cases h
 ·cases h
theorem yR4 (hr:Rel E nt g F H a.tmps w) {c:Call} {x:Operand} {x':Opd} {t e:TypeId} {pu:Bool} {sz:Nat} {z:PV} (ho:o.op=.call c) (hc:c.callee=.builtin .clear) (hargs:c.args.toList=[x]) (ht:c.argTypes[0]?=some t)
  (hu:P.underlying t=some (.slice e)) (hs:yd4 P e=some sz) (hz:ydE P e=some (pu,z)) (hx:opd x=some x') {call} (h:yaI E call F H (.clr pu sz z x')=some out) :
  bV E nt g F H a.tmps w out ((execOp a.eval o).run P w):=by
 obtain ⟨_,hpos,i0,hi0,hi0s⟩:=oM (P:=P) (w:=w) hs;obtain ⟨i1,v0,hi1,hv0,hvs,z1,z2⟩:=AL (P:=P) (g:=g) (H:=H) (w:=w) hz;rw [hi0] at hi1;cases hi1;have ha:c.args=#[x]:=by rw [← sQ];simpa using hargs
 have fin:∀ {H':Hp} {w':World},(Builtin.clear_ c.argTypes o.type #[a.eval x]).run P w=.ok (.tuple #[]) w'→Nx g g H H' w w'→Rel E nt g F H' a.tmps w'→bV E nt g F H a.tmps w ⟨some (.v (.tup [])),none,H'⟩ ((execOp a.eval o).run P w):=by
  intro H' w' hrun hn hr';refine ⟨.tuple #[],w',g,.inl ?_,hn,hr',?_⟩
  ·simp [execOp,ho,resolve,hc,ha,invoke,builtin,hrun]
  ·show VR g H' w' (.tup []) (.tuple #[]);simp [VR,bW]
 have none_:∀ {v:Value},a.eval x=v→(∃ ad n cc,v=.slice ad n cc∧(ad=none∨n=0))→(Builtin.clear_ c.argTypes o.type #[a.eval x]).run P w=.ok (.tuple #[]) w:=by
  rintro v hv ⟨ad,n,cc,rfl,h0⟩;rcases h0 with rfl | rfl
  ·simp [Builtin.clear_,ht,hv,run_underlying hu]
  ·cases ad<;>simp [Builtin.clear_,ht,hv,run_underlying hu]
 simp only [yaI] at h;split at h
 ·rename_i p hp;have hv1:=eY hr hx hp;split at h
  ·rename_i H1 hcl;rw [dO h];unfold clrV at hcl;split at hcl
   ·cases hcl
    simp only [VR] at hv1;exact fin (none_ hv1 ⟨_,_,_,rfl,.inl rfl⟩) (Nx.refl g H w) hr
   ·cases hcl
    simp only [VR] at hv1;obtain ⟨ad,hv1⟩:=hv1;exact fin (none_ hv1 ⟨_,_,_,rfl,.inr rfl⟩) (Nx.refl g H w) hr
   ·cases hcl
    obtain ⟨k,cc,e1,_,_,_⟩:=PF hv1 (n:=0) rfl;exact fin (none_ e1 ⟨_,_,_,rfl,.inr rfl⟩) (Nx.refl g H w) hr
   ·rename_i id lo len ext cap;split at hcl
    ·cases hcl
     obtain ⟨k,cc,e1,_,_,_⟩:=PF hv1 (n:=0) rfl;exact fin (none_ e1 ⟨_,_,_,rfl,.inr rfl⟩) (Nx.refl g H w) hr
    ·rename_i len;split at hcl
     ·rename_i hb e3;split at hcl
      ·rename_i hk;obtain ⟨k1,k2,k3,k4,k5⟩:=hk
       cases hcl
       simp only [VR] at hv1;obtain ⟨hbx,ad0,cc,e2,hle,hv0',hcl,hcm,hcc,hcond⟩:=hv1;rw [e2] at e3;cases e3;obtain ⟨b,o1,hρ,hle2,had,hcap,cur,T,hcu,hroom⟩:=hcond k1;obtain ⟨b',o',hblk⟩:=hr.heap id hb e2;have hat0:=hblk.at_;rw [hρ] at hat0;cases hat0;obtain ⟨cur',T',hcu',hbl⟩:=hblk.cells;rw [hcu] at hcu';cases hcu';rw [k5] at hroom hbl;have hvz:v0.cells.size=sz:=by rw [hvs,hi0s]
       have hlie:=EA (g:=g) (H:=H) (w:=w) (n:=len+1) (pu:=hb.pu) hvz hpos z1 (fun h=>z2 (by rw [← k4];exact h));have hzc:((Array.range ((len+1)*sz)).map (v0.cells[· % v0.cells.size]!)).toList=(Builtin.zeroCells v0.cells (len+1)).toList:=by unfold Builtin.zeroCells;rw [hvz]
       rw [hzc] at hlie;have hzl:(Builtin.zeroCells v0.cells (len+1)).toList.length=(len+1)*sz:=by unfold Builtin.zeroCells;rw [hvz];simp
       have hmul:(lo+(len+1))*sz=lo*sz+(len+1)*sz:=dJ ..;have hmul2:(lo+(len+1))*sz≤hb.rows.length*sz:=gF _ (by omega);obtain ⟨hn,hr'⟩:=yO9 (lo:=lo) (ys:=replicate (len+1) z) (news:=(Builtin.zeroCells v0.cells (len+1)).toList) (rows':=hb.rows.take lo++(replicate (len+1) z++hb.rows.drop (lo+(len+1)))) hr e2 k3 hρ hcu k5 hlie (by rw [hzl,xZ]) (by rw [xZ];omega) (by rw [xZ]) hbl;have hst:=run_storeCells_at P b (o1+lo*sz) T (Builtin.zeroCells v0.cells (len+1)).toList 0 cur w hcu (by rw [hzl];simp;omega) (gR.one hpos hlie (by rw [hzl,xZ]));simp only [wU,jE] at hst;refine fin ?_ hn hr';rw [hv0',had (by omega),k5];have hzv:(zeroValue e).run P w=.ok v0 w:=by simp [zeroValue,typeInfo,hi0,hv0]
       simp [Builtin.clear_,ht,run_underlying hu,hzv,hst,fM]
      ·cases hcl
     ·cases hcl
   ·cases hcl
  ·cases h
 ·cases h
def Ll:AOp→Bool
 | .dfr _=>true
 | _=>false
def rH:AOp→Bool
 | .call _ _=>true
 | _=>false
theorem yEN (hr:Rel E nt g F H a.tmps w) {op:BinOp} {t t':TypeId} {x y:Operand} (ho:o.op=.binOp op t x y t') {call} (h:yaI E call F H (Hd P op t x y)=some out):bV E nt g F H a.tmps w out ((execOp a.eval o).run P w):=by
 unfold Hd at h;split at h
 ·rename_i x' y' hx hy;split at h
  ·exact yRT hr ho hx hy h
  ·rename_i hu;split at h
   ·exact ZH hr ho (.inl ⟨rfl,rfl⟩) hu hx hy h
   ·exact ZH hr ho (.inr ⟨rfl,rfl⟩) hu hx hy h
   ·cases h
  ·rename_i fs hu;split at h
   ·rename_i idx hidx;split at h
    ·rename_i hk;simp only [bZ,lX] at hk;split at h
     ·exact KZ hr ho (.inl ⟨rfl,rfl⟩) hidx hk.1 (.inl ⟨fs,hu⟩) hk.2 hx hy h
     ·exact KZ hr ho (.inr ⟨rfl,rfl⟩) hidx hk.1 (.inl ⟨fs,hu⟩) hk.2 hx hy h
     ·cases h
    ·cases h
   ·cases h
  ·rename_i n e hu;split at h
   ·rename_i idx hidx;split at h
    ·rename_i hk;simp only [bZ,lX] at hk;split at h
     ·exact KZ hr ho (.inl ⟨rfl,rfl⟩) hidx hk.1 (.inr ⟨n,e,hu⟩) hk.2 hx hy h
     ·exact KZ hr ho (.inr ⟨rfl,rfl⟩) hidx hk.1 (.inr ⟨n,e,hu⟩) hk.2 hx hy h
     ·cases h
    ·cases h
   ·cases h
  ·rename_i e hu;split at h
   ·split at h
    ·rename_i hn;exact La hr ho (.inl ⟨rfl,rfl⟩) hu (.inl ⟨rfl,hn⟩) hx h
    ·split at h
     ·rename_i hn;exact La hr ho (.inl ⟨rfl,rfl⟩) hu (.inr ⟨rfl,hn⟩) hy h
     ·cases h
   ·split at h
    ·rename_i hn;exact La hr ho (.inr ⟨rfl,rfl⟩) hu (.inl ⟨rfl,hn⟩) hx h
    ·split at h
     ·rename_i hn;exact La hr ho (.inr ⟨rfl,rfl⟩) hu (.inr ⟨rfl,hn⟩) hy h
     ·cases h
   ·cases h
  ·cases h
 ·cases h
theorem Lm {l:List Operand} {x':Opd} (h:fE l=some [x']):∃ x,l=[x]∧opd x=some x':=by
 cases l with
 | nil=>simp [fE] at h
 | cons x r=>
  simp only [fE] at h;split at h
  ·rename_i a l h1 h2;simp only [cC,kH] at h;obtain ⟨rfl,rfl⟩:=h
   cases r with
   | nil=>exact ⟨x,rfl,h1⟩
   | cons y r =>simp only [fE] at h2;split at h2<;>simp at h2
  ·cases h
theorem yNN {l:List Operand} {x' y':Opd} (h:fE l=some [x',y']):∃ x y,l=[x,y]∧opd x=some x'∧opd y=some y':=by
 cases l with
 | nil=>simp [fE] at h
 | cons x r=>
  simp only [fE] at h;split at h
  ·rename_i a l h1 h2;simp only [cC,kH] at h;obtain ⟨rfl,rfl⟩:=h;obtain ⟨y,rfl,hy⟩:=Lm h2;exact ⟨x,y,rfl,h1,hy⟩
  ·cases h
theorem yxp (hr:Rel E nt g F H a.tmps w) {c:Call} {b:Builtin} (ho:o.op=.call c) (hc:c.callee=.builtin b) {call} (h:yaI E call F H (He P b c.argTypes c.args.toList)=some out):bV E nt g F H a.tmps w out ((execOp a.eval o).run P w):=by
 unfold He at h;split at h
 ·rename_i x' hx;obtain ⟨x,hargs,hx'⟩:=Lm hx;split at h
  ·rename_i e hu
   cases ht:c.argTypes[0]? with
   | none=>rw [ht] at hu;simp at hu
   | some t =>rw [ht] at hu;exact yRV hr ho hc hargs ht hu hx' h
  ·cases h
 ·rename_i x' hx;obtain ⟨x,hargs,hx'⟩:=Lm hx;split at h
  ·rename_i e hu
   cases ht:c.argTypes[0]? with
   | none=>rw [ht] at hu;simp at hu
   | some t =>rw [ht] at hu;exact yRW hr ho hc hargs ht hu hx' h
  ·cases h
 ·rename_i s' x' hx;obtain ⟨s,x,hargs,hs',hx'⟩:=yNN hx;split at h
  ·rename_i t t' hts;split at h
   ·rename_i htt;subst htt;split at h
    ·rename_i e hu;split at h
     ·rename_i sz by_ pu z hsz hby hz;exact yR3 hr ho hc hargs hts hu hsz hby hz hs' hx' h
     ·cases h
    ·cases h
   ·split at h
    ·rename_i e k hu hk;split at h
     ·rename_i sz by_ pu z hsz hby hz;exact yQV hr ho hc hargs hts hu hk hsz hby hz hs' hx' h
     ·cases h
    ·cases h
  ·cases h
 ·rename_i x' hx;obtain ⟨x,hargs,hx'⟩:=Lm hx;split at h
  ·rename_i t ht;split at h
   ·rename_i e hu;split at h
    ·rename_i sz pu z hsz hz;exact yR4 hr ho hc hargs ht hu hsz hz hx' h
    ·cases h
   ·cases h
  ·cases h
 ·rename_i l hl;exact ZQ (mx:=true) hr ho hc hl h
 ·rename_i l hl;exact ZQ (mx:=false) hr ho hc hl h
 ·cases h
theorem yQW (hr:Rel E nt g F H a.tmps w) {t:TypeId} {x y:Operand} {y':Opd} {l:List PV} (ho:o.op=.index t x y) (hu:P.underlying t=some .string) (hl:yO1 x=some l) (hy:opd y=some y') {call}
  (h:yaI E call F H (.idx false l.length 1 (.c (.agg l)) y')=some out):bV E nt g F H a.tmps w out ((execOp a.eval o).run P w):=by
 unfold yO1 at hl;split at hl
 ·rename_i s
  cases hl
  simp only [yaI] at h;split at h
  ·rename_i cs m hp hm;have hcs:cs=s.data.toList.map fun b=>PV.int .u8 b.toNat:=by simpa [evV,ev] using hp.symm
   split at h
   ·rename_i hbd;split at h
    ·rename_i p hpp;obtain ⟨k,e2,_⟩:=tD hr hy hm;have hlt:m.toNat<s.data.size:=by
      have:=hbd.2;simp only [lY,Ax] at this;omega
     have hpe:p=PV.int .u8 ((s.data[m.toNat]'hlt).toNat:Int):=by simp only [yhp,PV.cells,hcs,Nat.mul_one,pE,Array.getElem?_toList,kG,if_false] at hpp;rw [Array.getElem?_eq_getElem hlt] at hpp;simpa using hpp.symm
     have hsg:s[m.toNat]?=some (s.data[m.toNat]'hlt):=by have:m.toNat<s.size:=hlt;simp [this];rfl
     rw [dO h,hpe];refine bV.val hr ?_ (show VR g H w (.int .u8 ((s.data[m.toNat]'hlt).toNat:Int)) (.int .u8 ((s.data[m.toNat]'hlt).toNat:Int)) from ?_)
     ·have e1:a.eval (.const (.string s))=.string s:=rfl;simp [execOp,ho,Instr.index,asIntOf,run_underlying hu,e1,e2,hbd.1,hsg]
     ·simp only [VR,iZ];have:=(s.data[m.toNat]'hlt).toNat_lt;have h0:u8.min=0:=by decide
      have h1:u8.max=255:=by decide
      exact ⟨trivial,by rw [h0];omega,by rw [h1];omega⟩
    ·cases h
   ·cases h
  ·cases h
 ·cases hl
theorem yPa (hr:Rel E nt g F H a.tmps w) {loc:List Nat} {call} {F':aG} (hnc:rH (mO P loc o)=false) (hnd:Ll (mO P loc o)=false) (h:yaI E call F H (mO P loc o)=some out) (hd:∀ d,o.dst=some d→d<nt) (hp:yeq (kK F out.bx) o.dst out.x=some F') :
  tH E nt g H a w o.dst F' out.h ((execOp a.eval o).run P w):=by
 have fin:bV E nt g F H a.tmps w out ((execOp a.eval o).run P w)→(∀ row,out.x≠some (.box row))→tH E nt g H a w o.dst F' out.h ((execOp a.eval o).run P w):=fun h1 h2=>tH.of h1 hd hp h2
 have nb:bV E nt g F H a.tmps w out ((execOp a.eval o).run P w)→tH E nt g H a w o.dst F' out.h ((execOp a.eval o).run P w):=by
  intro h1;refine fin h1 fun row e=>?_
  obtain ⟨v,w',g',_,_,_,hx⟩:=h1;rw [e] at hx;exact hx
 unfold mO at h hnc hnd;split at h
 ·rename_i x ho;split at h
  ·rename_i x' hx;split at h
   ·exact nb (A1 hr (.inl ho) hx h)
   ·exact nb (ZE hr (.inl ho) hx h)
  ·cases h
 ·rename_i x ho;split at h
  ·rename_i x' hx;split at h
   ·exact nb (A1 hr (.inr ho) hx h)
   ·exact nb (ZE hr (.inr ho) hx h)
  ·cases h
 ·rename_i c x y ho;split at h
  ·rename_i c' x' y' hc hx hy;exact nb (yQM hr ho hc hx hy h)
  ·cases h
 ·rename_i e ho;split at h
  ·rename_i d hdst;split at h
   ·split at h
    ·rename_i z hz;simp only [yaI,cC] at h;subst h;rw [hdst] at hp ⊢;exact yI3 hr ho hz (hd d hdst) hp
    ·cases h
   ·split at h
    ·rename_i pu z sz hz hs;exact nb (yNJ hr ho hz hs h)
    ·cases h
  ·cases h
 ·rename_i e x ho;split at h
  ·rename_i d x' hdst hx;split at h
   ·simp only [yaI] at h;split at h
    ·rename_i p hpv;split at h
     ·rename_i hone;simp only [cC] at h;subst h;rw [hdst] at hp ⊢;exact yNI hr ho hx hpv hone (hd d hdst) hp
     ·cases h
    ·cases h
   ·split at h
    ·rename_i pu z sz hz hs;exact nb (yQT hr ho hs hx h)
    ·cases h
  ·cases h
 ·rename_i t parts ho;split at h
  ·rename_i z fs hz hu;split at h
   ·rename_i hinfo;split at h
    ·rename_i ps hps;exact nb (yBs hr ho hz hu hinfo hps h)
    ·cases h
   ·cases h
  ·rename_i z n e hz hu;split at h
   ·rename_i i hi;split at h
    ·rename_i ps hps;exact nb (yCQ hr ho hz hu hi hps h)
    ·cases h
   ·cases h
  ·cases h
 ·rename_i t len parts ho;split at h
  ·rename_i e hu;split at h
   ·rename_i sz pu z ps hs hz hps;split at h
    ·rename_i hc;split at h
     ·rename_i hp2;exact nb (yNL hr ho hu hs hz hp2.1 hps hc.1 hc.2 h)
     ·split at h
      ·exact nb (yNK hr ho hu hs hz hps hc.1 hc.2 h)
      ·exact nb (yKY hr ho hu hs hz hps hc.1 hc.2 h)
    ·cases h
   ·cases h
  ·cases h
 ·rename_i t x ho;split at h
  ·rename_i gg i x' hg hi hx;exact nb (yQQ hr ho hg hi hx h)
  ·cases h
 ·rename_i t x y ho;split at h
  ·rename_i i x' y' hi hx hy;exact nb (yO8 hr ho hi hx hy h)
  ·cases h
 ·rename_i x ho;split at h
  ·rename_i x' hx;exact nb (yNG hr ho hx h)
  ·cases h
 ·rename_i c ho;split at h
  ·rename_i n hds hc;simp only [ho,hc,hds,Ll] at hnd
   cases hnd
  ·cases h
 ·rename_i op t x y t' ho;exact nb (yEN hr ho h)
 ·rename_i op t x ho;split at h
  ·rename_i x' hx;exact nb (ySG hr ho hx h)
  ·cases h
 ·rename_i s d x ho;split at h
  ·rename_i ds k x' hs hdd hx;exact nb (yQN hr ho hs hdd hx h)
  ·cases h
 ·rename_i f x y ho;split at h
  ·rename_i x' y' hx hy;exact nb (yQO hr ho hx hy h)
  ·cases h
 ·rename_i t x y ho;split at h
  ·rename_i e x' y' hu hx hy;split at h
   ·rename_i sz by_ pu z hs hby hz;exact nb (yQU hr ho hu hs hby hz hx hy h)
   ·cases h
  ·cases h
 ·rename_i t x lo hi mx ho;split at h
  ·rename_i e x' l' h' m' hu hx hl hh hm;split at h
   ·rename_i sz hs;exact nb (yR1 hr ho hu hs hx hl hh hm h)
   ·cases h
  ·rename_i m e x' hu hx hl hh hm;have opdO_none:∀ {y:Option Operand},kX y=some none→y=none:=fun {y} e=>by
    cases y with
    | none=>rfl
    | some y=>simp only [kX] at e;split at e<;>cases e
   obtain rfl:=opdO_none hl;obtain rfl:=opdO_none hh;obtain rfl:=opdO_none hm;split at h
   ·rename_i sz hs;exact nb (yQS hr ho hu hs hx h)
   ·cases h
  ·cases h
 ·rename_i s x f ho;split at h
  ·rename_i fs x' hu hx;split at h
   ·rename_i fl hf;split at h
    ·rename_i sz hs;exact nb (yRZ hr ho hu hf hs hx h)
    ·cases h
   ·cases h
  ·cases h
 ·rename_i t x f ho;split at h
  ·rename_i fs x' hu hx;split at h
   ·rename_i fl hf;split at h
    ·rename_i gg i hg hi;exact nb (yRX hr ho hu hf hg hi hx h)
    ·cases h
   ·cases h
  ·cases h
 ·rename_i t x y ho;split at h
  ·rename_i e x' y' hu hx hy;split at h
   ·rename_i sz hs;exact nb (yR0 hr ho hu hs hx hy h)
   ·cases h
  ·rename_i n e x' y' hu hx hy;split at h
   ·rename_i sz hs;exact nb (yQR hr ho hu hs hx hy h)
   ·cases h
  ·cases h
 ·rename_i t x y ho;split at h
  ·rename_i n e x' y' hu hx hy;split at h
   ·rename_i gg i hg hi;exact nb (yRY hr ho hu hg hi hx hy h)
   ·cases h
  ·rename_i y' hu hy;split at h
   ·rename_i l hl;exact nb (yQW hr ho hu hl hy h)
   ·cases h
  ·cases h
 ·rename_i x i ho;split at h
  ·rename_i x' hx;exact nb (yRU hr ho hx h)
  ·cases h
 ·rename_i c ho;split at h
  ·rename_i f hc;split at h
   ·rename_i f' az' hf has;rw [ho] at hnc;simp only [hc,hf,has] at hnc;simp [rH] at hnc
   ·cases h
  ·rename_i b hc;exact nb (yxp hr ho hc h)
  ·cases h
 ·cases h
end
def nA (P:Program) (f:FuncId) (args:Array Value) (w:World) (Q:Value→World→Prop):Prop:=
 match (callFunc f args).run P w with
 | .ok (.value v) w'=>Q v w'
 | .ok (.enter f' args') w'=>Calls P f' args' w' (fun e w''=>match e with | .returned v=>Q v w'' | _=>False)
 | _=>False
theorem nA.mono {P:Program} {f:FuncId} {args:Array Value} {w:World} {Q Q':Value→World→Prop} (h:nA P f args w Q) (hq:∀ v w',Q v w'→Q' v w'):nA P f args w Q':=by
 unfold nA at h ⊢;split at h
 ·exact hq _ _ h
 ·refine Calls.mono h fun e w'' he=>?_
  cases e<;>first | exact hq _ _ he | exact he
 ·exact h.elim
def PW (G:Nat→Option PV) (I:Nat→Prop) (w:World):Prop:=∀ n x,G n=some x→I n∧∃ vs:List Value,0<vs.length∧RC I w x vs∧At w n 0 vs
def qN (P:Program) (G:Nat→Option PV) (f:FuncId) (az:List PV) (r:PV):Prop:=
 ∀ (I:Nat→Prop) (w:World) (vs:List Value),(∀ b,I b→b<w.heap.size)→PW G I w→gG I w az vs →
  nA P f vs.toArray w fun v w'=>Bel w.heap.size w w'∧VP (fun b=>I b∨(w.heap.size≤b∧b<w'.heap.size)) w' r v
section
variable {P:Program} {E:Env} {nt:Nat} {g g':Gh} {F:aG} {H H':Hp} {a:Act} {tmps:Array Value} {w w':World} {o:Oper}
theorem yK1 {I:Nat→Prop} {x:PV} {v:Value} (h:RC I w x [v]) (hx:∀ cs,x≠.agg cs):x.one=true:=by
 cases x<;>first | rfl | exact absurd rfl (hx _) | (simp only [RC] at h)
theorem A7 {x:PV} {v:Value} (h:fF g.I w x v):VR g H w x v:=by
 cases x with
 | agg cs =>simp only [fF] at h;obtain ⟨vs,rfl,h⟩:=h;simp only [VR];exact ⟨vs,rfl,Pz _ _ h⟩
 | tup ps=>simp only [fF] at h
 | nils=>simp only [fF] at h;simp only [VR];exact h
 | eptr rows i off=>simp only [fF] at h;simp only [VR];exact h
 | _=>simp only [fF] at h;exact ZA _ _ (yK1 h (fun _ e=>by cases e)) h
theorem Hq:∀ (l:List PV) (vs:List Value),gG g.I w l vs→bW g H w l vs
 | [],vs,h=>by simpa only [gG,bW] using h
 | x::r,vs,h=>by simp only [gG] at h;obtain ⟨v,vr,rfl,h1,h2⟩:=h;simp only [bW];exact ⟨v,vr,rfl,A7 h1,Hq r vr h2⟩
theorem A8 {x:PV} {v:Value} (h:VP g.I w x v):VR g H w x v:=by
 cases x with
 | tup ps =>simp only [VP] at h;obtain ⟨vs,rfl,h⟩:=h;simp only [VR];exact ⟨vs,rfl,Hq _ _ h⟩
 | _=>simp only [VP] at h;exact A7 h
theorem PX {x:PV} {v:Value} {I:Nat→Prop} (hs:x.scal=true) (h:RC I w x [v]):VR g H w' x v:=by
 cases x<;>simp [PV.scal] at hs
 ·simp only [RC,kH,and_true] at h;simp only [VR];exact h
 ·simp only [RC,kH,and_true] at h;simp only [VR];exact h
theorem A9 {I:Nat→Prop}:∀ (l:List PV) (vs:List Value),uH l=true→ybo I w l vs→bS g H w' l vs
 | [],vs,_,h=>by simpa only [ybo,bS] using h
 | x::r,vs,hs,h=>by simp only [uH,bZ] at hs;simp only [ybo] at h;obtain ⟨v,vr,rfl,ho,h1,h2⟩:=h;simp only [bS];exact ⟨v,vr,rfl,ho,PX hs.1 h1,A9 r vr hs.2 h2⟩
theorem yJ {x:PV} {v:Value} {I:Nat→Prop} (hs:(match x with | .agg cs=>uH cs | x=>x.scal)=true) (h:fF I w x v):VR g H w' x v:=by
 cases x with
 | agg cs =>simp only [fF] at h;obtain ⟨vs,rfl,h⟩:=h;simp only [VR];exact ⟨vs,rfl,A9 _ _ hs h⟩
 | bool b=>simp only [fF] at h;exact PX hs h
 | int k n=>simp only [fF] at h;exact PX hs h
 | _=>simp [PV.scal] at hs
theorem B0 {x:PV} {v:Value} {I:Nat→Prop} (hs:x.scalar=true) (h:VP I w x v):VR g H w' x v:=by
 unfold PV.scalar at hs;split at hs
 ·simp only [VP] at h;exact yJ (x:=.agg _) hs h
 ·simp only [VP,gG] at h;obtain ⟨vs,rfl,rfl⟩:=h;simp only [VR,bW];exact ⟨_,rfl,rfl⟩
 ·simp only [VP,gG] at h;obtain ⟨vs,rfl,v,vr,rfl,h1,rfl⟩:=h;simp only [VR,bW];exact ⟨_,rfl,_,_,rfl,yJ hs h1,rfl⟩
 ·simp only [VP,gG] at h;obtain ⟨vs,rfl,v,vr,rfl,h1,v2,vr2,rfl,h2,rfl⟩:=h;simp only [bZ] at hs;simp only [VR,bW];exact ⟨_,rfl,_,_,rfl,yJ hs.1 h1,_,_,rfl,yJ hs.2 h2,rfl⟩
 ·simp only [VP,gG] at h;obtain ⟨vs,rfl,v,vr,rfl,h1,v2,vr2,rfl,h2,v3,vr3,rfl,h3,rfl⟩:=h;simp only [bZ] at hs;simp only [VR,bW];exact ⟨_,rfl,_,_,rfl,yJ hs.1 h1,_,_,rfl,yJ hs.2.1 h2,_,_,rfl,yJ hs.2.2 h3,rfl⟩
 ·rename_i h1 h2 h3 h4 h5
  cases x with
  | bool b=>simp only [VP] at h;exact yJ (x:=.bool b) rfl h
  | int k n=>simp only [VP] at h;exact yJ (x:=.int k n) rfl h
  | _=>simp [PV.scal] at hs
theorem Rel.back (h:Rel E nt g F H tmps w) {nt2:Nat} {g2:Gh} {F2:aG} {tmps2:Array Value} (hn:Nx { g with β:=fun _=>none } g2 H H' w w') (h2:Rel E nt2 g2 F2 H' tmps2 w') :
  Rel E nt { g2 with β:=g.β } F H' tmps w'∧Nx g { g2 with β:=g.β } H H' w w':=by
 have hon:On g { g2 with β:=g.β } H H' w w':=⟨hn.on.keeps,hn.on.hext,hn.on.shape,hn.on.lam⟩;have hon2:On g2 { g2 with β:=g.β } H' H' w' w':=⟨fun _ x=>⟨x,rfl⟩,fun _ hb x=>⟨hb,x,rfl,rfl,.inr ⟨rfl,rfl⟩⟩,fun _ cur _ x=>⟨cur,x,rfl⟩,rfl⟩;refine ⟨h.upd hon rfl hn.size (fun s b hb=>?_) (fun id hb e=>?_) h2.dist h2.rsome h2.imm,?_⟩
 ·have hlt:=(h.bimm s b hb).2;have hnr:¬RngR g b:=fun ⟨id,oo,hr⟩=>h.brho s b id oo hb hr
  refine ⟨hn.kept b hlt hnr (fun ⟨s,hs⟩=>by simp at hs),fun hi=>?_,fun hr=>hnr (hn.rng b hlt hr)⟩;rcases hn.immb b hlt hi with h3 | h3
  ·exact (h.bimm s b hb).1 h3
  ·exact hnr h3
 ·obtain ⟨b,oo,hk⟩:=h2.heap id hb e;exact ⟨b,oo,rF hon2 hk rfl rfl (fun x=>x)⟩
 ·exact ⟨hn.os,hn.tape,hn.output,hn.drawn,hn.size,fun b hb hr _=>hn.kept b hb hr (fun ⟨s,hs⟩=>by simp at hs),hn.rng,hn.immb,fun b _ hm=>hm,hon⟩
theorem Rel.enter (h:Rel E nt g F H tmps w) {args:List PV} {vs:List Value} (hv:bW g H w args vs) (n:Nat) :
  Rel E n { g with β:=fun _=>none } (sZ 0 args) H (vs.toArray++Array.replicate (n-vs.toArray.size) undef) w:=by
 have hon:On g { g with β:=fun _=>none } H H w w:=⟨fun _ x=>⟨x,rfl⟩,fun _ hb x=>⟨hb,x,rfl,rfl,.inr ⟨rfl,rfl⟩⟩,fun _ cur _ x=>⟨cur,x,rfl⟩,rfl⟩;refine { size:=by simp;omega,frame:=?_,heap:=fun id hb e=>?_,dist:=h.dist,rsome:=h.rsome,bdist:=fun s s' b e=>by simp at e,brho:=fun s b id o e=>by simp at e,bimm:=fun s b e=>by simp at e,imm:=h.imm,glob:=h.glob }
 ·have key:∀ (args:List PV) (vs:List Value) (i:Nat),bW g H w args vs→∀ s fv,fget (sZ i args) s=some fv→∃ p v,fv=.v p∧i≤s∧vs[s-i]?=some v∧VR g H w p v:=by
   intro args;induction args with
   | nil=>intro vs i _ s fv e;simp [sZ,fget] at e
   | cons x r ih=>
    intro vs i hv s fv e;simp only [bW] at hv;obtain ⟨v,vr,rfl,h1,h2⟩:=hv;simp only [sZ,fget] at e;split at e
    ·rename_i hs
     cases e
     subst hs;exact ⟨x,v,rfl,cJ _,by simp,h1⟩
    ·obtain ⟨p,u,e1,e2,e3,e4⟩:=ih vr (i+1) h2 s fv e;refine ⟨p,u,e1,by omega,?_,e4⟩;have:s-i=(s-(i+1))+1:=by omega
     rw [this];simpa using e3
  intro s fv e;obtain ⟨p,v,rfl,_,hv',hp⟩:=key args vs 0 hv s fv e;simp only [cT];have:(vs.toArray++Array.replicate (n-vs.toArray.size) undef).getD s undef=v:=by
   simp only [Nat.sub_zero] at hv';obtain ⟨hlt,e⟩:=BK.1 hv';simp [Array.getElem?_append,hlt,e]
  rw [this];exact tA hon p v hp
 ·obtain ⟨b,oo,hk⟩:=h.heap id hb e;exact ⟨b,oo,rF hon hk rfl rfl (fun x=>x)⟩
theorem B1 {α β:Type} (f:α→Sem β) (w:World):∀ (l:List α) (r:List β),l.length=r.length→(∀ (i:Nat) (x:α) (y:β),l[i]?=some x→r[i]?=some y→(f x).run P w=.ok y w)→(l.mapM f).run P w=.ok r w
 | [],[],_,_=>by simp
 | [],_::_,h,_=>by simp at h
 | _::_,[],h,_=>by simp at h
 | x::l,y::r,h,hf=>by have h1:=hf 0 x y rfl rfl;have h2:=B1 f w l r (by simpa using h) (fun i a b ha hb=>hf (i+1) a b ha hb);simp [h1,h2]
def Ca (tmps:Array Value):ResultVar→Sem Value
 | .tmp t=>pure (tmps.getD t undef)
 | .cell a t=>do loadVar t (← asAddr (tmps.getD a undef))
theorem B2 (fn:Func) (tmps:Array Value):results fn tmps=(do let vs ← fn.results.mapM (Ca tmps);pure (if h:vs.size=1 then vs[0] else .tuple vs)):=by unfold results;congr 1
theorem yI7 (hr:Rel E nt g F H tmps w) {rv:ResultVar} {x:ARes} {p:PV} (hc:ygc P [rv]=some [x]) (h:yAx F H x=some p) :
  ∃ v,(Ca tmps rv).run P w=.ok v w∧VR g H w p v:=by
 cases rv with
 | tmp t=>
  simp [ygc] at hc;subst hc;simp only [yAx] at h;split at h
  ·rename_i q hq
   cases h
   have:=hr.frame t _ hq;simp only [cT] at this;exact ⟨_,rfl,this⟩
  ·cases h
 | cell ad t=>
  simp only [ygc] at hc;split at hc
  ·rename_i gg i l hg hi hl;simp at hl;subst hl;simp at hc;subst hc;simp only [yAx] at h;split at h
   ·rename_i row hrow;have hf:=hr.frame ad _ hrow;simp only [cT] at hf;obtain ⟨b,hβ,ht,hnI,cur,T,hcur,hrr⟩:=hf;have hat:At w b 0 cur.toList:=At.of_cells hcur (by simp [xY]);obtain ⟨v,h1,h2⟩:=PI (P:=P) (AK hrr) hat h hg hi;refine ⟨v,?_,h2⟩;simpa [Ca,ht,asAddr] using h1
   ·rename_i id ext i0 off hpt;have hf:=hr.frame ad _ hpt;simp only [cT,VR] at hf;obtain ⟨hb,a0,hH,hle,hv,hcond⟩:=hf;split at h
    ·rename_i hb' hH';rw [hH] at hH';cases hH';split at h
     ·rename_i hext;split at h
      ·rename_i row hrow;obtain ⟨b,oo,hρ,hi0,ha⟩:=hcond hext;obtain ⟨b',o',hk⟩:=hr.heap id hb hH;have e0:=hk.at_;rw [hρ] at e0;cases e0;obtain ⟨vs,hl,hrr,hat⟩:=tB _ _ _ _ _ _ hk.rows hrow;obtain ⟨v,h1,h2⟩:=PI (P:=P) (AK hrr) hat h hg hi;refine ⟨v,?_,h2⟩;simp only [Ca,hv,ha];simpa [asAddr] using h1
      ·cases h
     ·cases h
    ·cases h
   ·cases h
  ·cases hc
end
abbrev Fc (ro:Option Nat):Fence:={ Fence.wide with round:=ro }
theorem B4 {ro:Option Nat} {n:Nat} {P:Program} {f:FuncId} {args:Array Value} {w:World} {R:Ending→World→Prop}:CallsIn (Fc ro) n P f args w R↔Calls P f args w R:=callsIn_wide (n:=n)
structure FB (g:Gh) (w:World) (b:Nat) (o:Obj):Prop where
 at_:w.heap[b]?=some o
 rng:¬RngR g b
 bet:¬mN g b
 imm:¬g.I b
theorem FB.lt {g:Gh} {w:World} {b:Nat} {o:Obj} (h:FB g w b o):b<w.heap.size:=Ha h.at_
theorem FB.nx {g g':Gh} {H H':Hp} {w w':World} {b:Nat} {o:Obj} (h:FB g w b o) (n:Nx g g' H H' w w'):FB g' w' b o:=
 ⟨(n.kept b h.lt h.rng h.bet).trans h.at_,fun x=>h.rng (n.rng b h.lt x),fun x=>h.bet (n.bet b h.lt x),fun x=>(n.immb b h.lt x).elim h.imm h.rng⟩
structure LoopR (P:Program) (c:LCtx) (g:Gh) (H:Hp) (w:World) (l:Nat) (r:Loop) (nt:Nat):Prop where
 free:FB g w l (.loop r)
 ready:r.state=.ready
 none_:r.pending=none
 ps:r.params.toList=c.ps
 lt:∀ p∈c.ps,p<nt
 code:∃ loc fg,ybL P loc fg nt true r.assign=c.az∧ybL P loc fg nt true r.body=c.bd
 size:nt≤r.tmps.size
 frame:∀ s fv,fget c.F s=some fv→∃ p,fv=.v p∧VR g H w p (r.tmps.getD s undef)
theorem LoopR.nx {P:Program} {c:LCtx} {g g':Gh} {H H':Hp} {w w':World} {l:Nat} {r:Loop} {nt:Nat} (h:LoopR P c g H w l r nt) (n:Nx g g' H H' w w'):LoopR P c g' H' w' l r nt:=
 ⟨h.free.nx n,h.ready,h.none_,h.ps,h.lt,h.code,h.size,fun s fv hs=>by
  obtain ⟨p,e,hp⟩:=h.frame s fv hs;exact ⟨p,e,tA n.on p _ hp⟩⟩
structure Lps (P:Program) (E:Env) (g:Gh) (H:Hp) (w:World):Prop where
 loop:∀ k c l,E.ctx k=some c→g.lam k=some l→∃ r nt,LoopR P c g H w l r nt
 inj:∀ k k' l,(E.ctx k).isSome=true→(E.ctx k').isSome=true→g.lam k=some l→g.lam k'=some l→k=k'
 top:∀ k,E.yn≤k→g.lam k=none
theorem Lps.nx {P:Program} {E:Env} {g g':Gh} {H H':Hp} {w w':World} (h:Lps P E g H w) (n:Nx g g' H H' w w'):Lps P E g' H' w':=
 have e:=n.on.lam
 ⟨fun k c l hc hl=>by
  obtain ⟨r,nt,hr⟩:=h.loop k c l hc (by rw [← e];exact hl);exact ⟨r,nt,hr.nx n⟩,fun k k' l h1 h2 h3 h4=>h.inj k k' l h1 h2 (by rw [← e];exact h3) (by rw [← e];exact h4),fun k hk=>by rw [e];exact h.top k hk⟩
def ybJ (P:Program) (E:Env) (call:Nat→List PV→Hp→Option (PV×Hp)):Prop:=
 ∀ (f:Nat) (args:List PV) (H:Hp) (r:PV) (H':Hp),call f args H=some (r,H') →
  ∀ (nt:Nat) (g:Gh) (F:aG) (tmps:Array Value) (w:World) (vs:List Value),Rel E nt g F H tmps w→Lps P E g H w→bW g H w args vs →
   nA P f vs.toArray w fun v w'=>∃ g',Nx g g' H H' w w'∧Rel E nt g' F H' tmps w'∧VR g' H' w' r v
def Hr (P:Program) (E:Env) (call:Nat→List PV→Hp→Option (PV×Hp)):Prop:=∀ y,E.yn≤y→ybJ P (E.ats y) call
theorem Hr.ok {P:Program} {E:Env} {call:Nat→List PV→Hp→Option (PV×Hp)} (h:Hr P E call):ybJ P E call:=h E.yn (cJ _)
theorem Lps.none_ {P:Program} {E:Env} {g:Gh} {H:Hp} {w:World} (e:∀ k,g.lam k=none):Lps P E g H w:=
 ⟨fun k c l _ h=>(by rw [e] at h;cases h),fun k k' l _ _ h=>(by rw [e] at h;cases h),fun k _=>e k⟩
theorem Lps.env {P:Program} {E E':Env} {g:Gh} {H:Hp} {w:World} (e:E'.ctx=E.ctx) (e2:E'.yn=E.yn) (h:Lps P E g H w):Lps P E' g H w:=
 ⟨fun k c l hc hl=>h.loop k c l (by rw [← e];exact hc) hl,fun k k' l h1 h2=>h.inj k k' l (by rw [← e];exact h1) (by rw [← e];exact h2),fun k hk=>h.top k (by rw [← e2];exact hk)⟩
theorem ybJ.env {P:Program} {E E':Env} {call:Nat→List PV→Hp→Option (PV×Hp)} (e:E'.glob=E.glob) (e2:E'.ctx=E.ctx) (e3:E'.yn=E.yn) (h:ybJ P E call):ybJ P E' call:=by intro f args H r H' hc nt g F tmps w vs hr hl hv;obtain hh:=h f args H r H' hc nt g F tmps w vs (hr.env e.symm) (hl.env e2.symm e3.symm) hv;exact hh.mono fun v w' ⟨g',h1,h2,h3⟩=>⟨g',h1,h2.env e,h3⟩
def Cb (E:Env) (nt:Nat) (g:Gh) (F:aG) (H:Hp) (tmps:Array Value) (w:World) (o:Option Nat) (H':Hp) (l:Nat):Ending→World→Prop
 | .returned v,w'=>(match o with
  | none=>v=.bool true∧∃ g',Nx g g' H H' w w'∧Rel E nt g' F H' tmps w'
  | some i=>v=.bool false∧∃ g' w1 r,Nx g g' H H' w w1∧Rel E nt g' F H' tmps w1∧FB g' w1 l (.loop r)∧w'=w1.putObj l (.loop { r with state:=.done,pending:=some (.exit i) }))
 | _,_=>False
structure EO (P:Program) (E:Env):Prop where
 sum:∀ n az r,E.sum n az=some r→qN P E.glob n az r
 fns:∀ n fn,E.fns n=some fn→∃ f loc fg,P.funcs[n]?=some f∧yI P loc fg f=some fn
 eff:Hr P E E.effx
 dn:∀ n,E.dn n=true→∀ (args:Array Value) (w:World),(callFunc n args).run P w=.ok (.enter n args) w∧CallsDIn (Fc none) 0 P n args .returning w fun e u w'=>u=.returning∧w'=w∧∃ v,e=.returned v
 top:∀ k,E.yn≤k→E.ctx k=none
 yl:∀ y k az H o H',E.yl y k az H=some (o,H')→E.yn≤y→∀ nt g F tmps w vs l,Rel E nt g F H tmps w→Lps P (E.ats y) g H w→g.lam k=some l→bW g H w az vs →
  ∃ (fn:FuncId) (tmps1:Array Value) (assign body:Code),(Instr.yield l vs.toArray).run P w=.ok (.round l fn tmps1 assign body) w ∧
   ∀ ro,RoundIn (Fc ro) 0 P l fn tmps1 assign body w (Cb E nt g F H tmps w o H' l)
section
variable {P:Program} {E:Env} {nt:Nat} {g g':Gh} {F F':aG} {H H':Hp} {a:Act} {tmps:Array Value} {w w' w'':World} {o:Oper}
theorem yGW {rv:ResultVar} {l:List ResultVar} {rs:List ARes} (h:ygc P (rv::l)=some rs):∃ x r,rs=x::r∧ygc P [rv]=some [x]∧ygc P l=some r:=by
 cases rv with
 | tmp t=>
  simp only [ygc] at h ⊢;split at h
  ·rename_i r hr;cases h;exact ⟨_,_,rfl,rfl,hr⟩
  ·cases h
 | cell a t=>
  simp only [ygc] at h ⊢;split at h
  ·rename_i gg i r h1 h2 h3;cases h;exact ⟨_,_,rfl,by rw [h1,h2],h3⟩
  ·cases h
theorem B5 (hr:Rel E nt g F H tmps w):∀ (l:List ResultVar) (rs:List ARes) (ps:List PV),ygc P l=some rs→yjT F H rs=some ps →
  ∃ vs:List Value,vs.length=l.length∧(∀ (i:Nat) (x:ResultVar) (y:Value),l[i]?=some x→vs[i]?=some y→(Ca tmps x).run P w=.ok y w)∧bW g H w ps vs
 | [],rs,ps,hc,h=>by simp [ygc] at hc;subst hc;simp [yjT] at h;subst h;exact ⟨[],rfl,fun i x y e=>by simp at e,by simp [bW]⟩
 | rv::l,rs,ps,hc,h=>by
  obtain ⟨x,r,rfl,h1,h2⟩:=yGW hc;simp only [yjT] at h;split at h
  ·rename_i p hp;split at h
   ·rename_i ps' hps
    cases h
    obtain ⟨v,h3,h4⟩:=yI7 hr h1 hp;obtain ⟨vs,h5,h6,h7⟩:=B5 hr l r ps' h2 hps;refine ⟨v::vs,by simp [h5],fun i x y e1 e2=>?_,by simp only [bW];exact ⟨v,vs,rfl,h4,h7⟩⟩
    cases i with
    | zero=>simp at e1 e2;subst e1;subst e2;exact h3
    | succ i=>simp at e1 e2;exact h6 i x y e1 e2
   ·cases h
  ·cases h
theorem yEO (hr:Rel E nt g F H tmps w) {fn:Func} {rs:List ARes} {ps:List PV} (hc:ygc P fn.results.toList=some rs) (h:yjT F H rs=some ps) :
  ∃ v,(results fn tmps).run P w=.ok v w∧VR g H w (rD ps) v:=by
 obtain ⟨vs,h1,h2,h3⟩:=B5 hr _ rs ps hc h;have hm:(fn.results.mapM (Ca tmps)).run P w=.ok vs.toArray w:=by
  have:=B1 (P:=P) (Ca tmps) w fn.results.toList vs (by rw [h1]) (fun i x y e1 e2=>h2 i x y e1 e2);rw [Array.mapM_eq_mapM_toList];simp [this]
 have key:(results fn tmps).run P w=.ok (if h:vs.toArray.size=1 then vs.toArray[0] else .tuple vs.toArray) w:=by rw [B2];simp [hm]
 rw [key];refine ⟨_,rfl,?_⟩
 cases ps with
 | nil=>simp only [bW] at h3;subst h3;simp [rD,VR,bW]
 | cons p r=>
  cases r with
  | nil =>simp only [bW] at h3;obtain ⟨v,vr,rfl,h4,rfl⟩:=h3;simpa [rD] using h4
  | cons q r =>have h3':=h3;simp only [bW] at h3;obtain ⟨v,vr,rfl,h4,v2,vr2,rfl,h5,h6⟩:=h3;simp only [rD,VR];exact ⟨v::v2::vr2,by simp,h3'⟩
theorem tH.wp {ro:Option Nat} (hd:∀ c,o.op≠.defer c) (h:tH E nt g H a w o.dst F' H' ((execOp a.eval o).run P w)) {next:Act→World→Prop} {Q:Exit→Act→World→Prop}
  (hn:∀ v w' g',Nx g g' H H' w w'→Rel E nt g' F' H' (a.put o.dst v).tmps w'→next (a.put o.dst v) w'):o.wpIn (Fc ro) 0 P a w next Q:=by
 obtain ⟨v,w',g',hr,h1,h2⟩:=h;refine ⟨fun _ _=>trivial,?_⟩;rw [Oper.semAt_eq _ _ _ hd];rcases hr with hr | ⟨hr,rfl⟩
 ·rw [hr];exact hn _ _ _ h1 h2
 ·rw [hr];exact hn _ _ _ h1 h2
theorem Hs:∀ (l1 l2:List PV) (v1 v2:List Value),bW g H w l1 v1→bW g H w l2 v2→bW g H w (l1++l2) (v1++v2)
 | [],l2,v1,v2,h1,h2=>by simp only [bW] at h1;subst h1;exact h2
 | x::r,l2,v1,v2,h1,h2=>by simp only [bW] at h1;obtain ⟨v,vr,rfl,h3,h4⟩:=h1;simp only [List.cons_append,bW];exact ⟨v,vr++v2,rfl,h3,Hs r l2 vr v2 h4 h2⟩
theorem B6 {w w':World} {I I':Nat→Prop} (k:yF I I' w w'):∀ (l:List PV) (vs:List Value),gG I w l vs→gG I' w' l vs
 | [],vs,h=>by simpa only [gG] using h
 | x::r,vs,h=>by simp only [gG] at h ⊢;obtain ⟨v,vr,e,h1,h2⟩:=h;exact ⟨v,vr,e,Lf k h1,B6 k r vr h2⟩
theorem PY {w w':World} {I I':Nat→Prop} (k:yF I I' w w') {x:PV} {v:Value} (h:VP I w x v):VP I' w' x v:=by
 cases x with
 | tup ps =>simp only [VP] at h ⊢;obtain ⟨vs,e,h⟩:=h;exact ⟨vs,e,B6 k _ _ h⟩
 | _=>simp only [VP] at h ⊢;exact Lf k h
theorem yK2 {nt:Nat} {g:Gh} {F:aG} {H:Hp} {tmps:Array Value} {w:World} (hr:Rel E nt g F H tmps w) {r q:PV} {v:Value} (h:VR g H w r v) (hq:purR H r=some q) :
  ∃ g' H',Rel E nt g' F H' tmps w∧Nx g g' H H' w w∧VP g'.I w q v:=by
 unfold purR at hq;split at hq
 ·rename_i ps;split at hq
  ·rename_i qs H1 hp
   cases hq
   simp only [VR] at h;obtain ⟨vs,rfl,h⟩:=h;obtain ⟨g',h1,h2,_,_,h3⟩:=Ez _ _ _ _ _ _ hr h hp;exact ⟨g',H1,h1,h2,by simp only [VP];exact ⟨vs,rfl,h3⟩⟩
  ·cases hq
 ·split at hq
  ·rename_i x hx q' H1 hp
   cases hq
   obtain ⟨g',h1,h2,_,_,_,h3⟩:=Ey hr h hp;refine ⟨g',H1,h1,h2,?_⟩
   cases q<;>first | exact h3 | (simp only [fF] at h3)
  ·cases hq
theorem B7 {nt:Nat} {F:aG} {tmps:Array Value} {w:World} {esz b:Nat}:∀ (rows ys:List PV) (o:Nat) (H H':Hp) (g:Gh),Rel E nt g F H tmps w→jH g H w rows esz b o→yeY H rows=some (ys,H') →
  ∃ g',Rel E nt g' F H' tmps w∧Nx g g' H H' w w∧g'.ρ=g.ρ∧ys.length=rows.length∧eU g'.I w ys esz b o
 | [],ys,o,H,H',g,hr,h,hq=>by simp only [yeY,cC,Prod.mk.injEq] at hq;obtain ⟨rfl,rfl⟩:=hq;exact ⟨g,hr,Nx.refl g H w,rfl,rfl,by simp only [eU]⟩
 | x::r,ys,o,H,H',g,hr,h,hq=>by
  simp only [yeY] at hq;split at hq
  ·rename_i y H1 hy;split at hq
   ·rename_i ys H2 hys
    cases hq
    simp only [jH] at h;obtain ⟨⟨vs,hl,h1,h2⟩,h3⟩:=h;obtain ⟨v,rfl,h4⟩:∃ v,vs=[v]∧VR g H w x v:=by
     cases x<;>first | exact h1.2 | simp [yga] at hy
    obtain ⟨g1,r1,n1,_,p1,c1,o1⟩:=Hm hr h4 hy;obtain ⟨g2,r2,n2,p2,l2,c2⟩:=B7 r ys (o+esz) H1 H' g1 r1 (Et n1.on _ _ rfl _ _ h3) hys;refine ⟨g2,r2,n1.trans n2,p2.trans p1,by simp [l2],?_⟩;simp only [eU];exact ⟨⟨[v],hl,kL n2.on.keeps y [v] c1,h2⟩,c2⟩
   ·cases hq
  ·cases hq
theorem yI9 {nt:Nat} {g:Gh} {F:aG} {H:Hp} {tmps:Array Value} {w:World} (hr:Rel E nt g F H tmps w) {r q:PV} {v:Value} (h:VR g H w r v) (hq:Po H r=some q) :
  ∃ g' H',Rel E nt g' F H' tmps w∧Nx g g' H H' w w∧VP (fun b=>g'.I b∨RngR g' b) w q v:=by
 unfold Po at hq;split at hq
 ·rename_i id lo len ext cap k n;split at hq
  ·rename_i hb e;split at hq
   ·rename_i hc;split at hq
    ·rename_i ys H1 hp
     cases hq
     simp only [VR,bW] at h;obtain ⟨vs,rfl,v1,vr1,rfl,ho,v2,vr2,rfl,hi,rfl⟩:=h;obtain ⟨hb',ad,c,e',hle,hv,hc1,hm,hcc,hcond⟩:=ho;rw [e] at e';cases e';obtain ⟨b,o1,hρ,hle2,had,_,_⟩:=hcond hc.1;obtain ⟨b',o',hk⟩:=hr.heap id hb e;have hk1:=hk.at_;rw [hρ] at hk1;cases hk1;obtain ⟨g2,r2,n2,p2,l2,c2⟩:=B7 _ ys _ H H1 g hr (Lk hk.rows lo len) hp;refine ⟨g2,H1,r2,n2,?_⟩;simp only [VP,gG,fF];refine ⟨_,rfl,v1,_,rfl,?_,v2,_,rfl,?_,rfl⟩
     ·simp only [RC];have hl:ys.length=len:=by rw [l2,lM,kR];omega
      refine ⟨some ad,len,c,by rw [hv],hl.symm,hc1,hm,?_⟩
      by_cases hz:len=0
      ·left;exact Au (by omega)
      ·right;have hI:g2.I b∨RngR g2 b:=.inr ⟨id,o1,by rw [p2];exact hρ⟩;refine ⟨b,o1+lo*hb.esz,hb.esz,by rw [had (by omega)],hI,hk.esz,wZ _ _ _ _ fun i x hx=>?_⟩;obtain ⟨vs,k1,k2,k3⟩:=pG _ _ _ _ i x c2 hx;exact ⟨vs,k1,kL (fun b hb=>⟨.inl hb,rfl⟩) x vs k2,k3⟩
     ·simp only [RC];exact ⟨by rw [hi.1],hi.2⟩
    ·cases hq
   ·cases hq
  ·cases hq
 ·cases hq
theorem B8 {nt:Nat} {g:Gh} {F:aG} {H:Hp} {tmps:Array Value} {w:World} (hr:Rel E nt g F H tmps w) {b:Bool} {r q:PV} {v:Value} (h:VR g H w r v) (hq:mL b H r=some q) :
  ∃ g' H',Rel E nt g' F H' tmps w∧Nx g g' H H' w w∧VP (fun b=>g'.I b∨RngR g' b) w q v:=by
 have base:∀ {q:PV},purR H r=some q→∃ g' H',Rel E nt g' F H' tmps w∧Nx g g' H H' w w∧VP (fun b=>g'.I b∨RngR g' b) w q v:=fun hq=>by
  obtain ⟨g',H',h1,h2,h3⟩:=yK2 hr h hq;exact ⟨g',H',h1,h2,PY (fun b hb=>⟨.inl hb,rfl⟩) h3⟩
 unfold mL at hq
 cases b with
 | false=>exact base hq
 | true=>
  simp only [cond_true] at hq;split at hq
  ·cases hq
   simp only [VR] at h;exact ⟨g,H,hr,Nx.refl g H w,by simp only [VP,fF];exact h⟩
  ·split at hq
   ·rename_i q' hq'
    cases hq
    exact base hq'
   ·exact yI9 hr h hq
theorem run_pure {b:Bool} {call} (hc:ybJ P E call) {I:Nat→Prop} {w:World} {f:Nat} {args:List PV} {vs:List Value} {r q:PV} {H:Hp} (himm:∀ b,I b→b<w.heap.size)
  (hg:∀ n x,E.glob n=some x→I n∧∃ vs,0<vs.length∧RC I w x vs∧At w n 0 vs) (hv:gG I w args vs) (hin:call f args []=some (r,H)) (h:mL b H r=some q) :
  nA P f vs.toArray w fun v w'=>Bel w.heap.size w w'∧VP (fun b=>I b∨(w.heap.size≤b∧b<w'.heap.size)) w' q v:=by
 let g0:Gh:=⟨fun _=>none,fun _=>none,I,fun _=>none⟩;have hr:Rel E 0 g0 [] [] #[] w:=by
  refine ⟨jV _,fun s fv e=>by simp [fget] at e,fun id hb e=>by simp at e,fun id id' hb b o b' o' e=>by simp at e,fun id b o e=>by simp [g0] at e,fun s s' b e=>by simp [g0] at e,fun s b id o e=>by simp [g0] at e,fun s b e=>by simp [g0] at e,himm,hg⟩
 refine (hc f args [] r H hin 0 g0 [] #[] w vs hr (Lps.none_ fun _=>rfl) (Hq (g:=g0) _ _ hv)).mono ?_;rintro v w' ⟨g',n1,r1,hvr⟩;obtain ⟨g2,H2,r2,n2,hvp⟩:=B8 r1 hvr h;have n3:=n1.trans n2;have noR:∀ b,¬RngR g0 b:=fun b ⟨id,o,e⟩=>by simp [g0] at e
 have noM:∀ b,¬mN g0 b:=fun b ⟨s,e⟩=>by simp [g0] at e
 refine ⟨⟨⟨n3.os,n3.tape,n3.output,n3.size,fun k hk=>n3.kept k hk (noR k) (noM k)⟩,n3.drawn⟩,PY (fun b hb=>⟨?_,rfl⟩) hvp⟩;rcases qA5 b w.heap.size with h1 | h1
 ·rcases hb with hb | hb
  ·rcases n3.immb b h1 hb with h2 | h2
   ·exact .inl h2
   ·exact absurd h2 (noR b)
  ·exact absurd (n3.rng b h1 hb) (noR b)
 ·exact .inr ⟨h1,hb.elim (r2.imm b) r2.brng⟩
theorem Ln:∀ (H:Hp) (id:Nat),(kT H)[id]?=(H[id]?).map BS
 | [],id=>by simp [kT]
 | b::r,0=>rfl
 | b::r,id+1=>by simp only [kT,KJ];exact Ln r id
theorem B9:∀ (H:Hp),(kT H).length=H.length
 | []=>rfl
 | b::r=>by simp only [kT,eR,B9 r]
structure IceG (g g1:Gh):Prop where
 rng:∀ b,RngR g1 b→g1.I b
 bet:∀ b,¬mN g1 b
theorem Rel.ice (hr:Rel E nt g F H tmps w) {args:List PV} {vs:List Value} (hv:bW g H w args vs):∃ g1,Rel E nt g1 [] (kT H) tmps w∧bW g1 (kT H) w args vs∧IceG g g1:=by
 let g1:Gh:={ g with β:=fun _=>none,I:=fun b=>g.I b∨RngR g b };have hon:On g g1 H (kT H) w w:=by
  refine ⟨fun b h=>⟨.inl h,rfl⟩,fun id hb e=>⟨BS hb,by rw [Ln,e];rfl,rfl,rfl,.inr ⟨rfl,rfl⟩⟩,fun b cur T e=>⟨cur,e,rfl⟩,rfl⟩
 refine ⟨g1,?_,Er hon _ _ hv,⟨fun b h=>.inr h,fun b ⟨s,e⟩=>by simp [g1] at e⟩⟩;refine { size:=hr.size,frame:=fun s fv e=>by simp [fget] at e,heap:=fun id hb e=>?_,dist:=fun id id' hb b o b' o' e hf=>?_,rsome:=fun id b o e=>by rw [B9];exact hr.rsome id b o e,bdist:=fun s s' b e=>by simp [g1] at e,brho:=fun s b id o e=>by simp [g1] at e,bimm:=fun s b e=>by simp [g1] at e,imm:=fun b h=>?_,glob:=fun n x hx=>?_ }
 ·rw [Ln,qV] at e;obtain ⟨hb0,e0,rfl⟩:=e;obtain ⟨b,o,hk⟩:=hr.heap id hb0 e0;refine ⟨b,o,hk.at_,hk.esz,hk.cells,Et hon _ _ rfl _ _ hk.rows,fun hp=>?_,fun _=>.inr ⟨id,o,hk.at_⟩,fun h=>by cases h⟩;refine wZ _ _ _ _ fun i x hx'=>?_
  obtain ⟨vs,h1,h2,h3⟩:=pG _ _ _ _ i x (hk.pure hp) hx';exact ⟨vs,h1,kL hon.keeps x vs h2,h3⟩
 ·rw [Ln,qV] at e;obtain ⟨hb0,e0,rfl⟩:=e
  cases hf
 ·rcases h with h | h
  ·exact hr.imm b h
  ·exact hr.brng h
 ·obtain ⟨h1,vs,h2,h3,h4⟩:=hr.glob n x hx;exact ⟨.inl h1,vs,h2,kL hon.keeps x vs h3,h4⟩
theorem yK3 {Hi:Hp} {g1:Gh} (hr:Rel E nt g1 F Hi tmps w) (hi:∀ b,RngR g1 b→g1.I b) {x q:PV} {v:Value} (h:VR g1 Hi w x v) (hq:purP Hi x=some q):fF g1.I w q v:=by
 have back:∀ {g':Gh} {H':Hp},Rel E nt g' F H' tmps w→Nx g1 g' Hi H' w w→yF g'.I g1.I w w:=fun r n b hb=>⟨(n.immb b (r.imm b hb) hb).elim id (hi b),rfl⟩
 have base:∀ {q:PV},(match ycy Hi x with | some (q,_)=>some q | none=>none)=some q→fF g1.I w q v:=fun hq=>by
  split at hq
  ·rename_i q' H' hp
   cases hq
   obtain ⟨g',r',n',_,_,_,h3⟩:=Ey hr h hp;exact Lf (back r' n') h3
  ·cases hq
 unfold purP at hq;split at hq
 ·rename_i id ext i off;split at hq
  ·rename_i hb e;split at hq
   ·rename_i he;split at hq
    ·rename_i row hrow;split at hq
     ·rename_i q' H' hp
      cases hq
      simp only [VR] at h;obtain ⟨hb',a,e',hle,hv,hcond⟩:=h;rw [e] at e';cases e';obtain ⟨b,o,hρ,hlt,ha⟩:=hcond he;obtain ⟨b',o',hk⟩:=hr.heap id hb e;have hk1:=hk.at_;rw [hρ] at hk1;cases hk1;obtain ⟨vs,k1,k2,k3⟩:=tB _ _ _ _ i row hk.rows hrow;have hrc:RC g1.I w q' vs:=by
       cases row with
       | agg cs=>
        have hvr:VR g1 Hi w (.agg cs) (.agg vs.toArray):=by simp only [VR];exact ⟨vs,rfl,k2⟩
        obtain ⟨g',r',n',_,_,h3,_⟩:=Ey hr hvr hp;exact kL (back r' n') _ _ (by simpa [Value.cells] using h3)
       | _ =>simp only [bF] at k2;obtain ⟨_,v1,rfl,k2⟩:=k2;simp only [ycy] at hp;obtain ⟨g',r',n',_,_,h3,_⟩:=Hm hr k2 hp;exact kL (back r' n') _ _ h3
      simp only [fF];refine ⟨b,o+i*hb.esz,hb.esz,?_,hi b ⟨id,o,hρ⟩,hk.esz,by simp,?_⟩
      ·rw [hv,ha];simp
      ·simp only [eU];exact ⟨⟨vs,k1,hrc,k3⟩,trivial⟩
     ·cases hq
    ·cases hq
   ·cases hq
  ·cases hq
 ·cases hq
  simp only [VR] at h;simp only [fF];exact h
 ·exact base hq
theorem C0 {Hi:Hp} {g1:Gh} (hr:Rel E nt g1 F Hi tmps w) (hi:∀ b,RngR g1 b→g1.I b):∀ (l ys:List PV) (vs:List Value),bW g1 Hi w l vs→yCB Hi l=some ys→gG g1.I w ys vs
 | [],ys,vs,h,hq=>by simp only [yCB,cC] at hq;subst hq;simpa only [bW,gG] using h
 | x::r,ys,vs,h,hq=>by
  simp only [yCB] at hq;split at hq
  ·rename_i y hy;split at hq
   ·rename_i ys' hys
    cases hq
    simp only [bW] at h;obtain ⟨v,vr,rfl,h1,h2⟩:=h;simp only [gG];exact ⟨v,vr,rfl,yK3 hr hi h1 hy,C0 hr hi r ys' vr h2 hys⟩
   ·cases hq
  ·cases hq
theorem C1 (hE:EO P E) {call} (hc:ybJ P E call) (hr:Rel E nt g F H tmps w) {n:Nat} {ps:List PV} {vs:List Value} {r:PV} (hv:gG g.I w ps vs) (h:yeZ E call n ps=some r) :
  nA P n vs.toArray w fun v w'=>Bel w.heap.size w w'∧VP (fun b=>g.I b∨(w.heap.size≤b∧b<w'.heap.size)) w' r v:=by
 unfold yeZ at h;split at h
 ·rename_i r' hs
  cases h
  exact hE.sum n ps _ hs g.I w vs hr.imm hr.glob hv
 ·split at h
  ·split at h
   ·rename_i r0 H1 hcall;exact run_pure hc hr.imm hr.glob hv hcall h
   ·cases h
  ·cases h
theorem yGY (hE:EO P E) {call} (hc:ybJ P E call) (hr:Rel E nt g F H tmps w) (hL:Lps P E g H w) {f:PV} {fv:Value} {az:List PV} {vs:List Value} {r:PV} (h:sV E call f az H=some (r,H')) (hf:VR g H w f fv) (has:bW g H w az vs) :
  (∃ (n:Nat) (first captured:List Value),fv=.func (.func n) first.toArray captured.toArray ∧
   nA P n (first++vs++captured).toArray w fun v w'=>∃ g',Nx g g' H H' w w'∧Rel E nt g' F H' tmps w'∧VR g' H' w' r v) ∨
  (∃ l,fv=.func (.yield l) #[] #[]∧∃ (fn:FuncId) (tmps1:Array Value) (assign body:Code),(Instr.yield l vs.toArray).run P w=.ok (.round l fn tmps1 assign body) w ∧
   ∀ ro,RoundIn (Fc ro) 0 P l fn tmps1 assign body w fun e w'=>match e with | .returned v=>∃ g',Nx g g' H H' w w'∧Rel E nt g' F H' tmps w'∧VR g' H' w' r v | _=>False):=by
 unfold sV at h;split at h
 ·rename_i n first captured;simp only [VR] at hf;obtain ⟨fs,cs,rfl,hfs,hcs,_⟩:=hf;refine .inl ⟨n,fs,cs,rfl,?_⟩;have hall:=Hs _ _ _ _ (Hs _ _ _ _ hfs has) hcs;split at h
  ·split at h
   ·rename_i ps hp;split at h
    ·rename_i r0 hs;split at h
     ·rename_i hsc
      cases h
      obtain ⟨g1,r1,v1,e1⟩:=hr.ice hall;refine (C1 hE hc r1 (C0 r1 e1.rng _ _ _ v1 hp) hs).mono fun v w' ⟨hb,hv⟩=>?_
      obtain ⟨g2,h1,h2,_⟩:=hr.grew hb;exact ⟨g2,h2,h1,B0 hsc hv⟩
     ·cases h
    ·cases h
   ·cases h
  split at h
  ·rename_i res hres;split at hres
   ·rename_i ps H1 hp;split at hres
    ·rename_i s hs;obtain ⟨g1,r1,n1,b1,p1,v1⟩:=Ez _ _ _ _ _ _ hr hall hp;refine (C1 hE hc r1 v1 hs).mono fun v w' ⟨hb,hv⟩=>?_
     split at hres
     ·rename_i hsc
      cases hres;cases h
      obtain ⟨g2,h1,h2,_⟩:=hr.grew hb;exact ⟨g2,h2,h1,B0 hsc hv⟩
     ·cases hres;cases h
      obtain ⟨g2,h1,h2,h3,h4,h5⟩:=r1.grew hb;refine ⟨g2,n1.trans h2,h1,A8 ?_⟩;rw [h5];exact hv
    ·cases hres
   ·cases hres
  ·split at h
   ·cases h
   split at h
   ·split at h
    ·rename_i ps H1 hp;obtain ⟨g1,r1,n1,b1,p1,v1⟩:=Ez _ _ _ _ _ _ hr hall hp;refine (hc n ps H1 r H' h nt g1 F tmps w _ r1 (hL.nx n1) (Hq _ _ v1)).mono fun v w' ⟨g2,h1,h2,h3⟩=>⟨g2,n1.trans h1,h2,h3⟩
    ·cases h
   ·exact hc n _ H r H' h nt g F tmps w _ hr hL hall
 ·rename_i k;split at h
  ·rename_i H1 hy
   cases h
   simp only [VR,bW] at hf;obtain ⟨fs,cs,rfl,rfl,rfl,hk⟩:=hf;simp only [Gh.okF] at hk;obtain ⟨l,hl⟩:=Ec.1 hk;obtain ⟨fn,t1,as1,bd,h1,h2⟩:=hE.yl E.yn k az H none H' hy (cJ _) nt g F tmps w vs l hr (hL.env rfl rfl) hl has;refine .inr ⟨l,by simp only [Gh.tr];rw [hl];rfl,fn,t1,as1,bd,h1,fun ro=>(h2 ro).mono fun e w' he=>?_⟩
   cases e with
   | returned v=>obtain ⟨rfl,g',n1,r1⟩:=he;exact ⟨g',n1,r1,by simp [VR]⟩
   | panicked _=>exact he
   | outgrown=>exact he
  ·cases h
 ·cases h
theorem yJb {nt:Nat} {g:Gh} {F:aG} {H H':Hp} {tmps:Array Value} {w:World} (hr:Rel E nt g F H tmps w) {r q:PV} {v:Value} (h:VR g H w r v) (hq:yFM H r=some (q,H')) :
  ∃ g',Rel E nt g' F H' tmps w∧Nx g g' H H' w w∧VP g'.I w q v:=by
 unfold yFM at hq;split at hq
 ·rename_i ps;split at hq
  ·rename_i qs H1 hp
   cases hq
   simp only [VR] at h;obtain ⟨vs,rfl,h⟩:=h;obtain ⟨g',h1,h2,_,_,h3⟩:=Ez _ _ _ _ _ _ hr h hp;exact ⟨g',h1,h2,by simp only [VP];exact ⟨vs,rfl,h3⟩⟩
  ·cases hq
 ·obtain ⟨g',h1,h2,_,_,_,h3⟩:=Ey hr h hq;refine ⟨g',h1,h2,?_⟩
  cases q<;>first | exact h3 | (simp only [fF] at h3)
theorem C2:∀ (l:List PV) (vs:List Value) (j:Nat) (x:PV),bW g H w l vs→l[j]?=some x→∃ v,vs[j]?=some v∧VR g H w x v
 | [],_,j,x,_,e=>by simp at e
 | y::r,vs,j,x,h,e=>by
  simp only [bW] at h;obtain ⟨v,vr,rfl,h1,h2⟩:=h
  cases j with
  | zero=>simp at e;subst e;exact ⟨v,rfl,h1⟩
  | succ j=>simp at e;simpa using C2 r vr j x h2 e
theorem PZ:∀ (l:List PV) (vs:List Value) (j:Nat) (x:PV) (v:Value),bW g H w l vs→VR g H w x v→bW g H w (l.set j x) (vs.set j v)
 | [],vs,j,x,v,h,_=>by simp only [bW] at h;subst h;simp [bW]
 | y::r,vs,j,x,v,h,hx=>by
  simp only [bW] at h;obtain ⟨v0,vr,rfl,h1,h2⟩:=h
  cases j with
  | zero=>simp only [List.set_cons_zero,bW];exact ⟨_,_,rfl,hx,h2⟩
  | succ j=>simp only [List.set_cons_succ,bW];exact ⟨_,_,rfl,h1,PZ r vr j x v h2 hx⟩
theorem C4 {α:Type}:∀ (l:List α) (j:Nat) (x y:α),l[j]?=some x→(l.set j y).set j x=l
 | [],j,_,_,e=>by simp at e
 | z::r,0,x,y,e=>by simp at e;subst e;rfl
 | z::r,j+1,x,y,e=>by simp at e;simp only [List.set_cons_succ,C4 r j x y e]
theorem yG0 {call} (hc:ybJ P E call) (hr:Rel E nt g F H tmps w) {x:LocC} {r:PV} (h:Ek call x H=some (r,H')) (hj:∃ x0,x.all[x.j]?=some x0∧locY x0=some (x.id,x.y)) {vs:List Value} (hv:bW g H w x.all vs) :
  nA P x.n vs.toArray w fun v w'=>∃ g',Nx g g' H H' w w'∧Rel E nt g' F H' tmps w'∧VR g' H' w' r v:=by
 unfold Ek at h;split at h
 case h_2=>cases h
 rename_i az H1 hp;split at h
 case h_2=>cases h
 rename_i b hb;split at h
 case isFalse=>cases h
 rename_i hb2;split at h
 case h_2=>cases h
 rename_i q rows hq
 cases h
 unfold yGJ at hq;split at hq
 case h_2=>cases hq
 rename_i r0 H2 hcall;split at hq
 case h_2=>cases hq
 rename_i q' H3 hpur;split at hq
 case h_2=>cases hq
 rename_i b2 hb3;split at hq
 case isFalse=>cases hq
 rename_i hb4
 cases hq
 obtain ⟨x0,hj,hy⟩:=hj;obtain ⟨vj,hvj,howv⟩:=C2 _ _ _ _ hv hj;obtain ⟨g1,r1,n1,b1,p1,v1⟩:=Ez _ _ _ _ _ _ hr (PZ _ _ x.j (.int .i64 0) (.int .i64 0) hv (by simp only [VR];exact ⟨trivial,by unfold iZ;decide⟩)) hp;have how1:=tA n1.on _ _ howv;let g0:Gh:=⟨fun k=>if k=0 then g1.ρ x.id else none,fun _=>none,g1.I,fun _=>none⟩;obtain ⟨bl,o,hk⟩:=r1.heap x.id b hb;have hr0:Rel E 0 g0 [] [b] #[] w:=by
  refine ⟨jV _,fun s fv e=>by simp [fget] at e,fun id hb' e=>?_,fun id id' hb' b' o' b'' o'' e hf hne e1 e2=>?_,fun id b' o' e=>?_,fun s s' b' e=>by simp [g0] at e,fun s b' id o' e=>by simp [g0] at e,fun s b' e=>by simp [g0] at e,r1.imm,r1.glob⟩
  ·cases id with
   | zero =>simp at e;subst e;exact ⟨bl,o,by simp [g0,hk.at_],hk.esz,hk.cells,PA (hk.pure hb2.2),hk.pure,hk.fz,hk.live⟩
   | succ id=>simp at e
  ·have h1:id=0:=Classical.byContradiction fun hne=>by simp [g0,hne] at e1
   have h2:id'=0:=Classical.byContradiction fun hne=>by simp [g0,hne] at e2
   omega
  ·have h1:id=0:=Classical.byContradiction fun hne=>by simp [g0,hne] at e
   subst h1;simp
 have hvs0:bW g0 [b] w (az.set x.j x.y) vs:=by
  have h1:bW g0 [b] w az (vs.set x.j (.int .i64 0)):=Hq (g:=g0) _ _ v1;have h2:VR g0 [b] w x.y vj:=by
   cases x0<;>simp only [locY,cC,Prod.mk.injEq,reduceCtorEq] at hy
   case own id lo len ext cap=>
    obtain ⟨h9,h10⟩:=hy;subst h9;rw [← h10];simp only [VR,uL] at how1 ⊢;obtain ⟨hb',a,c,e,h3,h4,h5,h6,h7,h8⟩:=how1;rw [hb] at e
    cases e
    exact ⟨b,a,c,rfl,h3,h4,h5,h6,h7,fun hl=>by simpa [g0] using h8 hl⟩
   case ptr id ext i off=>
    obtain ⟨h9,h10⟩:=hy;subst h9;rw [← h10];simp only [VR,PtrR] at how1 ⊢;obtain ⟨hb',a,e,h3,h4,h5⟩:=how1;rw [hb] at e
    cases e
    exact ⟨b,a,rfl,h3,h4,fun hl=>by simpa [g0] using h5 hl⟩
  have h3:=PZ _ _ x.j _ _ h1 h2
  rwa [C4 _ _ _ _ hvj] at h3
 refine (hc x.n _ [b] r0 H2 hcall 0 g0 [] #[] w vs hr0 (Lps.none_ fun _=>rfl) hvs0).mono ?_;rintro v w' ⟨g2,n2,r2,hvr⟩;obtain ⟨g3,r3,n3,hvp⟩:=yJb r2 hvr hpur;have n4:=n2.trans n3;have hR0:∀ k,RngR g0 k→k=bl:=fun k ⟨id,o',e⟩=>by
  have h1:id=0:=Classical.byContradiction fun hne=>by simp [g0,hne] at e
  subst h1;simp [g0,hk.at_] at e;exact e.1.symm
 have noF:∀ k,¬mN g0 k:=fun k ⟨s,e⟩=>by simp [g0] at e
 have hblR:RngR g1 bl:=⟨x.id,o,hk.at_⟩;have hlive:=hk.live hb2.1;obtain ⟨bl3,o3,hk3⟩:=r3.heap 0 b2 hb3;obtain ⟨b2',e2',z2,p2,l2⟩:=n4.on.hext 0 b rfl;rw [hb3] at e2'
 cases e2'
 have hρ3:g3.ρ 0=some (bl,o):=by
  rcases l2 with l2|⟨_,l2⟩
  ·omega
  ·rw [l2];simp [g0,hk.at_]
 have hat:bl3=bl∧o3=o:=by have:=hk3.at_;rw [hρ3] at this;simp at this;exact ⟨this.1.symm,this.2.symm⟩
 obtain ⟨rfl,rfl⟩:=hat
 have kept:∀ k,k<w.heap.size→k≠bl3→w'.heap[k]?=w.heap[k]?:=fun k hk1 hne=>n4.kept k hk1 (fun h=>hne (hR0 k h)) (noF k)
 have immk:∀ k,k<w.heap.size→g3.I k→g1.I k∨k=bl3:=fun k hk1 hi=>(n4.immb k hk1 hi).elim .inl fun h=>.inr (hR0 k h)
 let g4:Gh:={ g1 with I:=g3.I };have hon:On g1 g4 H1 (H1.set x.id { b with rows:=b2.rows }) w w':=by
  refine ⟨n4.on.keeps,fun id hb' e=>?_,n4.on.shape,rfl⟩
  by_cases hid:id=x.id
  ·subst hid;rw [hb] at e
   cases e
   exact ⟨{ b with rows:=b2.rows },by rw [uG (BK.1 hb).1],rfl,rfl,.inr ⟨hb4.2.symm,rfl⟩⟩
  ·exact ⟨hb',by rw [qZ (fun e=>hid e.symm)];exact e,rfl,rfl,.inr ⟨rfl,rfl⟩⟩
 have hnx:Nx g1 g4 H1 (H1.set x.id { b with rows:=b2.rows }) w w':=by refine ⟨n4.os,n4.tape,n4.output,n4.drawn,n4.size,fun k h1 h2 h3=>kept k h1 fun e=>h2 (e ▸ hblR),fun k _ h=>h,fun k h1 h2=>(immk k h1 h2).elim .inl fun e=>.inr (e ▸ hblR),fun k _ h=>h,hon⟩
 have rowsK:∀ k,w'.heap[k]?=w.heap[k]?→∀ {l:List PV} {z o':Nat},eU g1.I w l z k o'→eU g3.I w' l z k o':=fun k hk1 {l z o'} hrc=>wZ _ _ _ _ fun i y hy=>by
  obtain ⟨us,q1,q2,q3⟩:=pG _ _ _ _ i y hrc hy;exact ⟨us,q1,kL n4.on.keeps y us q2,q3.keep hk1⟩
 have brng:∀ k id o',g1.ρ id=some (k,o')→k<w.heap.size:=fun k id o' e=>r1.brng ⟨id,o',e⟩
 refine ⟨g4,n1.trans hnx,⟨r1.size,fun s fv e=>?_,fun id hb' e=>?_,fun id1 id2 hb' k o' k' o'' e hf hne e1 e2=>?_,fun id k o' e=>by rw [sR];exact r1.rsome id k o' e,r1.bdist,r1.brho,fun s k e=>?_,r3.imm,fun m y hy=>?_⟩,?_⟩
 ·have h1:=r1.frame s fv e
  cases fv with
  | v p=>simp only [cT] at h1 ⊢;exact tA hon p _ h1
  | box row=>
   simp only [cT] at h1 ⊢;obtain ⟨k,k1,k2,k3,cur,T,k4,k5⟩:=h1;have hks:=(r1.bimm s k k1).2;have hne:k≠bl3:=fun e=>r1.brho s k x.id o3 k1 (e ▸ hk.at_)
   exact ⟨k,k1,k2,fun hi=>(immk k hks hi).elim k3 hne,cur,T,by rw [kept k hks hne];exact k4,yG hon row _ k5⟩
  | bp s' off=>exact h1
 ·by_cases hid:id=x.id
  ·subst hid;rw [uG (BK.1 hb).1] at e
   cases e
   have hpu3:eU g3.I w' b2.rows b.esz bl3 o3:=by rw [← z2];exact hk3.pure (by rw [p2];exact hb2.2)
   obtain ⟨cur,T,k1,k2⟩:=hk3.cells;exact ⟨bl3,o3,hk.at_,hk.esz,⟨cur,T,k1,by rw [← z2];exact k2⟩,PA hpu3,fun _=>hpu3,fun hf=>(by rw [hb2.1] at hf;cases hf),fun _=>hk3.live hb4.1⟩
  ·rw [qZ (fun e=>hid e.symm)] at e;obtain ⟨k,o',kk⟩:=r1.heap id hb' e;have hks:=brng k id o' kk.at_;have hne:k≠bl3:=fun ek=>r1.dist x.id id b bl3 o3 k o' hb hb2.1 (fun e=>hid e.symm) hk.at_ kk.at_ ek.symm
   obtain ⟨cur,T,k1,k2⟩:=kk.cells;exact ⟨k,o',kk.at_,kk.esz,⟨cur,T,by rw [kept k hks hne];exact k1,k2⟩,Et hon _ _ (kept k hks hne) _ _ kk.rows,fun hp'=>rowsK k (kept k hks hne) (kk.pure hp'),fun hf=>(n4.on.keeps k (kk.fz hf)).1,fun hf hi=>(immk k hks hi).elim (kk.live hf) hne⟩
 ·by_cases hid:id1=x.id
  ·subst hid;exact r1.dist _ id2 b k o' k' o'' hb hb2.1 hne e1 e2
  ·rw [qZ (fun e=>hid e.symm)] at e;exact r1.dist id1 id2 hb' k o' k' o'' e hf hne e1 e2
 ·obtain ⟨h1,h2⟩:=r1.bimm s k e;exact ⟨fun hi=>(immk k h2 hi).elim h1 fun ek=>r1.brho s k x.id o3 e (ek ▸ hk.at_),oD h2 n4.size⟩
 ·obtain ⟨h1,vs',h2,h3,h4⟩:=r1.glob m y hy;exact ⟨(n4.on.keeps m h1).1,vs',h2,kL n4.on.keeps y vs' h3,h4.keep (n4.on.keeps m h1).2⟩
 ·exact A8 (g:=g4) hvp
theorem yJc (hE:EO P E) {call} (hc:ybJ P E call) (hr:Rel E nt g F H tmps w) (hL:Lps P E g H w) {f:PV} {fv:Value} {az:List PV} {vs:List Value} {r:PV} (h:ym7 E call f az H=some (r,H')) (hf:VR g H w f fv) (has:bW g H w az vs) :
  (∃ (n:Nat) (first captured:List Value),fv=.func (.func n) first.toArray captured.toArray ∧
   nA P n (first++vs++captured).toArray w fun v w'=>∃ g',Nx g g' H H' w w'∧Rel E nt g' F H' tmps w'∧VR g' H' w' r v) ∨
  (∃ l,fv=.func (.yield l) #[] #[]∧∃ (fn:FuncId) (tmps1:Array Value) (assign body:Code),(Instr.yield l vs.toArray).run P w=.ok (.round l fn tmps1 assign body) w ∧
   ∀ ro,RoundIn (Fc ro) 0 P l fn tmps1 assign body w fun e w'=>match e with | .returned v=>∃ g',Nx g g' H H' w w'∧Rel E nt g' F H' tmps w'∧VR g' H' w' r v | _=>False):=by
 unfold ym7 at h;split at h
 ·rename_i x hx;unfold yuA at hx;split at hx
  case h_2=>cases hx
  rename_i n first captured;split at hx
  case h_2=>cases hx
  rename_i j _;split at hx
  case h_2=>cases hx
  rename_i x0 hj;split at hx
  case h_2=>cases hx
  rename_i id y hy
  cases hx
  simp only [VR] at hf;obtain ⟨fs,cs,rfl,hfs,hcs,_⟩:=hf;exact .inl ⟨n,fs,cs,rfl,yG0 hc hr h ⟨x0,hj,hy⟩ (Hs _ _ _ _ (Hs _ _ _ _ hfs has) hcs)⟩
 ·exact yGY hE hc hr hL h hf has
theorem yQX {ro:Option Nat} (hE:EO P E) {call} (hc:ybJ P E call) (hr:Rel E nt g F H a.tmps w) (hL:Lps P E g H w) {c:Call} {f:Operand} {f':Opd} {az':List Opd} {out:Out} (ho:o.op=.call c) (hcal:c.callee=.value f) (hf:opd f=some f') (has:fE c.args.toList=some az')
  (h:yaI E call F H (.call f' az')=some out) (hd:∀ d,o.dst=some d→d<nt) (hp:yeq (kK F out.bx) o.dst out.x=some F') {next:Act→World→Prop} {Q:Exit→Act→World→Prop}
  (hn:∀ v w' g',Nx g g' H out.h w w'→Rel E nt g' F' out.h (a.put o.dst v).tmps w'→next (a.put o.dst v) w'):o.wpIn (Fc ro) 0 P a w next Q:=by
 simp only [yaI] at h;split at h
 ·rename_i fv av hfv hav;split at h
  ·rename_i r H1 hcall;rw [dO h] at hp hn;have hstep:∀ v w' g',Nx g g' H H1 w w'→Rel E nt g' F H1 a.tmps w'→VR g' H1 w' r v→next (a.put o.dst v) w':=by
    intro v w' g' h1 h2 h3;have:=tH.of (dst:=o.dst) (a:=a) (F':=F') (w:=w) (g:=g) (H:=H) (r:=.ok (.value v) w') (out:=⟨some (.v r),none,H1⟩) ⟨v,w',g',.inl rfl,h1,h2,h3⟩ hd hp (fun row e=>by cases e);obtain ⟨v2,w2,g2,e,h4,h5⟩:=this;rcases e with e | ⟨e,_⟩
    ·cases e;exact hn _ _ _ h4 h5
    ·cases e
   have hargs:(c.args.map a.eval)=(c.args.toList.map a.eval).toArray:=by rw [← Array.toList_map]
   refine ⟨fun _ _=>trivial,?_⟩;rw [Oper.semAt_eq _ _ _ (fun c' e=>by rw [ho] at e;cases e)];rcases yJc hE hc hr hL hcall (eY hr hf hfv) (Hk hr _ _ _ has hav) with ⟨n,first,captured,hfe,hR⟩ | ⟨l,hfe,fn,t1,as1,bd,h1,h2⟩
   ·have hrun:(execOp a.eval o).run P w=(callFunc n (first++c.args.toList.map a.eval++captured).toArray).run P w:=by
     have e2:(first++c.args.toList.map a.eval++captured).toArray=first.toArray++c.args.map a.eval++captured.toArray:=by rw [hargs];simp
     rw [e2];simp [execOp,ho,resolve,hcal,hfe,Deferred.ofValue,invoke]
    unfold nA at hR;rw [hrun];split at hR
    ·rename_i v w' e;rw [e];obtain ⟨g',h1,h2,h3⟩:=hR;exact hstep v w' g' h1 h2 h3
    ·rename_i f2 a2 w' e;rw [e];simp only [Oper.uponIn];refine ⟨fun h=>by simp [Fence.wide] at h,B4.2 (Calls.mono hR fun e w'' he=>?_)⟩
     cases e with
     | returned v=>obtain ⟨g',h1,h2,h3⟩:=he;exact hstep v w'' g' h1 h2 h3
     | panicked _=>exact he.elim
     | outgrown=>exact he.elim
    ·exact hR.elim
   ·have hrun:(execOp a.eval o).run P w=.ok (.round l fn t1 as1 bd) w:=by
     rw [← h1];simp [execOp,ho,resolve,hcal,hfe,Deferred.ofValue,invoke];rw [hargs]
    rw [hrun];simp only [Oper.uponIn];refine ⟨fun h=>by simp [Fence.wide] at h,(h2 ro).mono fun e w'' he=>?_⟩
    cases e with
    | returned v=>obtain ⟨g',h1,h2,h3⟩:=he;exact hstep v w'' g' h1 h2 h3
    | panicked _=>exact he.elim
    | outgrown=>exact he.elim
  ·cases h
 ·cases h
theorem yK4 {loc:List Nat} (h:rH (mO P loc o)=true):∃ c f f' az',o.op=.call c∧c.callee=.value f∧opd f=some f'∧fE c.args.toList=some az'∧mO P loc o=.call f' az':=by
 unfold mO at h
 cases ho:o.op<;>rw [ho] at h<;>simp only [] at h
 case call c=>
  cases hc:c.callee with
  | value f=>
   rw [hc] at h;simp only [] at h;split at h
   ·rename_i f' az' h1 h2;refine ⟨c,f,f',az',rfl,hc,h1,h2,?_⟩;unfold mO;rw [ho];simp only [hc,h1,h2]
   ·cases h
  | builtin b=>
   rw [hc] at h;simp only [He] at h
   repeat' split at h
   all_goals cases h
  | invoke _ _=>rw [hc] at h;cases h
 all_goals (try unfold Hd at h)
 all_goals (repeat' split at h)
 all_goals first | cases h | skip
structure Agr (g:Gh) (w w':World):Prop where
 os:w'.os=w.os
 tape:w'.tape=w.tape
 output:w'.output=w.output
 drawn:w.drawn≤w'.drawn
 size:w.heap.size≤w'.heap.size
 blk:∀ b,b<w.heap.size→w'.heap[b]?=w.heap[b]?∨(¬RngR g b∧¬mN g b∧¬g.I b∧∀ cur T,w.heap[b]?≠some (Obj.cells cur T (0,0)))
theorem Agr.on (k:Agr g w w') (hi:∀ b,g.I b→b<w.heap.size):On g g H H w w':=
 ⟨fun b h=>⟨h,(k.blk b (hi b h)).elim id fun x=>absurd h x.2.2.1⟩,gM.refl g H,fun b cur T e=>(k.blk b (Ha e)).elim (fun x=>⟨cur,x.trans e,rfl⟩) fun x=>absurd e (x.2.2.2 cur T),rfl⟩
theorem Rel.agr (h:Rel E nt g F H tmps w) (k:Agr g w w'):Rel E nt g F H tmps w':=by
 have hon:=k.on (H:=H) h.imm;refine h.upd hon rfl k.size (fun s b hb=>⟨(k.blk b (h.bimm s b hb).2).elim id fun x=>absurd ⟨s,hb⟩ x.2.1,(h.bimm s b hb).1,fun ⟨i,o,e⟩=>h.brho s b i o hb e⟩) (fun id hb e=>?_) h.dist h.rsome fun b hb=>oD (h.imm b hb) k.size
 obtain ⟨b,o,hk⟩:=h.heap id hb e;have hr:RngR g b:=⟨id,o,hk.at_⟩;exact ⟨b,o,rF hon hk ((k.blk b (h.brng hr)).elim (fun x=>x) fun x=>absurd hr x.1) rfl (fun x=>x)⟩
theorem Nx.later (n:Nx g g' H H' w w') (k:Agr g' w' w'') (hi:∀ b,g'.I b→b<w'.heap.size) (hk:∀ b,b<w.heap.size→w''.heap[b]?=w'.heap[b]?):Nx g g' H H' w w'':=by have o:=n.on.trans (k.on (H:=H') hi);exact ⟨k.os.trans n.os,k.tape.trans n.tape,k.output.trans n.output,mD n.drawn k.drawn,mD n.size k.size,fun b hb h1 h2=>(hk b hb).trans (n.kept b hb h1 h2),n.rng,n.immb,n.bet,o⟩
def Obj.rec:Obj→Prop
 | .loop _ | .deferred _=>True
 | _=>False
theorem FB.agr {b:Nat} {o o':Obj} (h:FB g w b o) (ho:Obj.rec o):Agr g w (w.putObj b o'):=by
 refine ⟨rfl,rfl,rfl,cJ _,by simp,fun k hk=>?_⟩
 by_cases e:k=b
 ·subst e;refine .inr ⟨h.rng,h.bet,h.imm,fun cur T e=>?_⟩;rw [h.at_] at e
  cases e
  exact ho
 ·exact .inl (World.putObj_heap_other e)
theorem FB.other {b l:Nat} {o o':Obj} (h:FB g w b o) (e:b≠l):FB g (w.putObj l o') b o:=⟨(World.putObj_heap_other e).trans h.at_,h.rng,h.bet,h.imm⟩
theorem Qa {n0:Nat} {D:List Nat}:∀ (i:Nat) (H:Hp) (id:Nat),(kV n0 D i H)[id]?=(H[id]?).map fun b=>bif Nat.ble n0 (i+id)&&memB D (i+id) then ⟨b.fz,b.pu,b.esz,[]⟩ else b
 | _,[],id=>by simp [kV]
 | i,b::r,0=>by simp [kV]
 | i,b::r,id+1=>by simp only [kV,KJ];rw [Qa (i+1) r id,show i+1+id=i+(id+1) by omega]
theorem C5 {n0:Nat} {D:List Nat}:∀ (i:Nat) (H:Hp),(kV n0 D i H).length=H.length
 | _,[]=>rfl
 | i,_::r=>by simp only [kV,eR,C5 (i+1) r]
def Gh.cut (g:Gh) (n:Nat):Gh:={ g with ρ:=fun id=>bif Nat.blt id n then g.ρ id else none }
theorem Qb {a b:Nat} (h:Nat.blt a b=true):a<b:=BM h
theorem Ht {a b:Nat} (h:a<b):Nat.blt a b=true:=Ee h
section
variable {n:Nat} {I:Nat→Bool} {H':Hp}
mutual
theorem Lo (hI:∀ id,I id=true→H'[id]?=H[id]?∧id<n):∀ (x:PV) (v:Value),oK (fun _=>true) I x=true→VR g H w x v→VR (g.cut n) H' w x v
 | .bool b,v,_,h=>by simpa only [VR] using h
 | .int q m,v,_,h=>by simpa only [VR] using h
 | .nilp,v,_,h=>by simpa only [VR] using h
 | .nils,v,_,h=>by simpa only [VR] using h
 | .emp,v,_,h=>by simpa only [VR] using h
 | .mt _,v,_,h=>by simpa only [VR] using h
 | .nilf,v,_,h=>by simpa only [VR] using h
 | .ptr id ext i off,v,hc,h=>by simp only [oK] at hc;simp only [VR,PtrR,Gh.cut,Ht (hI id hc).2,cond_true] at h ⊢;obtain ⟨hb,a,e,h⟩:=h;exact ⟨hb,a,(hI id hc).1.trans e,h⟩
 | .eptr rows i off,v,_,h=>by simp only [VR] at h ⊢;exact h
 | .data rows,v,_,h=>by simp only [VR] at h ⊢;exact h
 | .sub id ext i off n _,v,hc,h=>by simp only [oK] at hc;simp only [VR,PtrR,Gh.cut,Ht (hI id hc).2,cond_true] at h ⊢;obtain ⟨a0,⟨hb,a,e,h⟩,h2⟩:=h;exact ⟨a0,⟨hb,a,(hI id hc).1.trans e,h⟩,h2⟩
 | .own id lo len ext cap,v,hc,h=>by simp only [oK] at hc;simp only [VR,uL,Gh.cut,Ht (hI id hc).2,cond_true] at h ⊢;obtain ⟨hb,a,c,e,h⟩:=h;exact ⟨hb,a,c,(hI id hc).1.trans e,h⟩
 | .fn f a b,v,hc,h=>by
  simp only [oK,bZ] at hc;simp only [VR] at h ⊢;obtain ⟨az,bs,e,h1,h2,h3⟩:=h;refine ⟨az,bs,?_,Lp hI a az hc.2.1 h1,Lp hI b bs hc.2.2 h2,?_⟩
  ·cases f<;>exact e
  ·cases f<;>exact h3
 | .agg cs,v,hc,h=>by simp only [oK] at hc;simp only [VR] at h ⊢;obtain ⟨vs,e,h1⟩:=h;exact ⟨vs,e,Qc hI cs vs hc h1⟩
 | .tup ps,v,hc,h=>by simp only [oK] at hc;simp only [VR] at h ⊢;obtain ⟨vs,e,h1⟩:=h;exact ⟨vs,e,Lp hI ps vs hc h1⟩
theorem Lp (hI:∀ id,I id=true→H'[id]?=H[id]?∧id<n):∀ (l:List PV) (vs:List Value),mZ (fun _=>true) I l=true→bW g H w l vs→bW (g.cut n) H' w l vs
 | [],vs,_,h=>by simpa only [bW] using h
 | x::r,vs,hc,h=>by simp only [mZ,bZ] at hc;simp only [bW] at h ⊢;obtain ⟨v,vr,e,h1,h2⟩:=h;exact ⟨v,vr,e,Lo hI x v hc.1 h1,Lp hI r vr hc.2 h2⟩
theorem Qc (hI:∀ id,I id=true→H'[id]?=H[id]?∧id<n):∀ (l:List PV) (vs:List Value),mZ (fun _=>true) I l=true→bS g H w l vs→bS (g.cut n) H' w l vs
 | [],vs,_,h=>by simpa only [bS] using h
 | x::r,vs,hc,h=>by simp only [mZ,bZ] at hc;simp only [bS] at h ⊢;obtain ⟨v,vr,e,o,h1,h2⟩:=h;exact ⟨v,vr,e,o,Lo hI x v hc.1 h1,Qc hI r vr hc.2 h2⟩
end
theorem C6 (hI:∀ id,I id=true→H'[id]?=H[id]?∧id<n):∀ (x:PV) (vs:List Value),oK (fun _=>true) I x=true→bF g H w x vs→bF (g.cut n) H' w x vs:=by
 intro x vs hc h
 cases x<;>simp only [bF] at h ⊢ <;> first
  | (simp only [oK] at hc;exact Qc hI _ _ hc h)
  | (obtain ⟨o,v,e,h1⟩:=h;exact ⟨o,v,e,Lo hI _ _ hc h1⟩)
theorem C7 (hI:∀ id,I id=true→H'[id]?=H[id]?∧id<n) (esz b:Nat):∀ (l:List PV) (o:Nat),mZ (fun _=>true) I l=true→jH g H w l esz b o→jH (g.cut n) H' w l esz b o
 | [],_,_,_=>by simp only [jH]
 | x::r,o,hc,h=>by simp only [mZ,bZ] at hc;simp only [jH] at h ⊢;obtain ⟨⟨vs,hl,h1,h2⟩,h3⟩:=h;exact ⟨⟨vs,hl,C6 hI x vs hc.1 h1,h2⟩,C7 hI esz b r (o+esz) hc.2 h3⟩
end
mutual
theorem C8 {J:Nat→Prop} {C:Fn→Bool} {I:Nat→Bool}:∀ (x:PV) (vs:List Value),RC J w x vs→oK C I x=true
 | .bool b,vs,h=>rfl
 | .int q n,vs,h=>rfl
 | .data rows,vs,h=>rfl
 | .agg cs,vs,h=>by simp only [RC] at h;simp only [oK];exact C9 cs vs h
 | .nilp,vs,h | .nils,vs,h | .emp,vs,h | .mt _,vs,h | .nilf,vs,h=>by simp [RC] at h
 | .ptr ..,vs,h | .eptr ..,vs,h | .own ..,vs,h | .sub ..,vs,h | .fn ..,vs,h | .tup ..,vs,h=>by simp [RC] at h
theorem C9 {J:Nat→Prop} {C:Fn→Bool} {I:Nat→Bool}:∀ (l:List PV) (vs:List Value),ybo J w l vs→mZ C I l=true
 | [],vs,h=>rfl
 | x::r,vs,h=>by simp only [ybo] at h;obtain ⟨v,vr,e,o,h1,h2⟩:=h;simp only [mZ,C8 x [v] h1,C9 r vr h2,Bool.and_self]
end
theorem D3 {J:Nat→Prop} {C:Fn→Bool} {I:Nat→Bool}:∀ (l:List PV) (esz b o:Nat),eU J w l esz b o→mZ C I l=true
 | [],_,_,_,_=>rfl
 | x::r,esz,b,o,h=>by simp only [eU] at h;obtain ⟨⟨vs,hl,h1,h2⟩,h3⟩:=h;simp only [mZ,C8 x vs h1,D3 r esz b (o+esz) h3,Bool.and_self]
theorem D4 {I:Nat→Bool}:∀ (F:aG) (s:Nat) (fv:FV),kW I F=true→fget F s=some fv→(match fv with | .v p=>oK (fun _=>true) I p=true | .box p=>oK (fun _=>true) I p=true | .bp _ _=>True)
 | [],_,_,_,e=>by simp [fget] at e
 | (k,x)::r,s,fv,h,e=>by
  simp only [fget] at e
  by_cases hk:k=s
  ·rw [Tu hk] at e
   cases e
   cases x with
   | v p=>simp only [kW,bZ] at h;exact h.1
   | box p=>simp only [kW,bZ] at h;exact h.1
   | bp a b=>trivial
  ·rw [Zv hk] at e;refine D4 r s fv ?_ e
   cases x with
   | v p=>simp only [kW,bZ] at h;exact h.2
   | box p=>simp only [kW,bZ] at h;exact h.2
   | bp a b=>simpa only [kW] using h
theorem D5 {D:List Nat} {n:Nat}:∀ k,n≤rE D n k
 | 0=>cJ _
 | k+1=>by
  simp only [rE]
  cases memB D (n+k) with
  | true=>exact D5 k
  | false=>simp only [cond_false];omega
theorem yJg {I:Nat→Bool}:∀ (H:Hp) (id:Nat) (hb:HB),uK I H=true→H[id]?=some hb→hb.pu=true∨mZ (fun _=>true) I hb.rows=true
 | [],_,_,_,e=>by simp at e
 | b::r,id,hb,h,e=>by
  simp only [uK,bZ,sS] at h
  cases id with
  | zero=>simp at e;subst e;exact h.1
  | succ id=>simp at e;exact yJg r id hb h.2 e
theorem Rel.gc {w0:World} {g0:Gh} {H0:Hp} (hn:Nx g0 g H0 H w0 w) (h:Rel E nt g F H tmps w):∃ g',Nx g0 g' H0 (BU F H0.length H) w0 w∧Rel E nt g' F (BU F H0.length H) tmps w∧(∀ b,RngR g' b→RngR g b)∧g'.β=g.β∧g'.I=g.I:=by
 unfold BU;have hlen:∀ id hb,H0[id]?=some hb→id<H0.length:=fun id hb e=>(BK.1 e).1
 generalize H0.length=n0 at hlen ⊢;dsimp only;generalize Ps F H 4 (Pt n0 (H.length-n0))=D;have hge:n0≤rE D n0 (H.length-n0):=D5 _;generalize rE D n0 (H.length-n0)=n at hge ⊢
 cases hc:(kW (fun id=>Nat.blt id n&&!(Nat.ble n0 id&&memB D id)) F&&uK (fun id=>Nat.blt id n&&!(Nat.ble n0 id&&memB D id)) ((kV n0 D 0 H).take n)) with
 | false=>exact ⟨g,hn,h,fun _ h=>h,rfl,rfl⟩
 | true=>
  simp only [bZ] at hc;rw [cond_true];have hI:∀ id,(Nat.blt id n&&!(Nat.ble n0 id&&memB D id))=true→((kV n0 D 0 H).take n)[id]?=H[id]?∧id<n:=fun id hid=>by
   simp only [bZ,lX] at hid;refine ⟨?_,Qb hid.1⟩;rw [sN,Tu (Qb hid.1),Qa,kI,hid.2]
   cases H[id]? <;> rfl
  have hρ:∀ id b o,(g.cut n).ρ id=some (b,o)→id<n∧g.ρ id=some (b,o):=by
   intro id b o e;simp only [Gh.cut] at e
   cases hb:Nat.blt id n with
   | true=>rw [hb,cond_true] at e;exact ⟨Qb hb,e⟩
   | false=>rw [hb,cond_false] at e;cases e
  have hρ2:∀ id,id<n→(g.cut n).ρ id=g.ρ id:=fun id hid=>by simp only [Gh.cut,Ht hid,cond_true]
  have hget:∀ id hb,((kV n0 D 0 H).take n)[id]?=some hb→id<n∧∃ hb0:HB,H[id]?=some hb0∧hb.fz=hb0.fz∧(hb=hb0∨hb=⟨hb0.fz,hb0.pu,hb0.esz,[]⟩):=by
   intro id hb e;rw [sN] at e
   by_cases hid:id<n
   ·rw [Tu hid,Qa,qV] at e;obtain ⟨hb0,e0,rfl⟩:=e;refine ⟨hid,hb0,e0,?_,?_⟩
    ·cases (Nat.ble n0 (0+id)&&memB D (0+id))<;>rfl
    ·cases (Nat.ble n0 (0+id)&&memB D (0+id))
     ·exact .inl rfl
     ·exact .inr rfl
   ·rw [Zv hid] at e;cases e
  have hR:∀ b,RngR (g.cut n) b→RngR g b:=fun b ⟨id,o,e⟩=>⟨id,o,(hρ id b o e).2⟩
  refine ⟨g.cut n,⟨hn.os,hn.tape,hn.output,hn.drawn,hn.size,hn.kept,fun b hb h2=>hn.rng b hb (hR b h2),hn.immb,hn.bet,⟨hn.on.keeps,fun id hb e=>?_,hn.on.shape,hn.on.lam⟩⟩,⟨h.size,fun s fv e=>?_,fun id hb e=>?_,fun id id' hb b o b' o' e hf hne e1 e2=>?_,fun id b o e=>?_,h.bdist,fun s b id o e1 e2=>h.brho s b id o e1 (hρ id b o e2).2,h.bimm,h.imm,h.glob⟩,hR,rfl,rfl⟩
  ·obtain ⟨hb',e',k1,k2,k3⟩:=hn.on.hext id hb e;have hid:=hlen id hb e;have hlow:(Nat.blt id n&&!(Nat.ble n0 id&&memB D id))=true:=by
    have:Nat.ble n0 id=false:=by
     cases hb:Nat.ble n0 id with
     | false=>rfl
     | true=>have:=BM hb;omega
    rw [this,Ht (show id<n by omega)];rfl
   exact ⟨hb',by rw [(hI id hlow).1];exact e',k1,k2,k3.imp_right fun ⟨l,r⟩=>⟨l,(hρ2 id (by omega)).trans r⟩⟩
  ·have h1:=h.frame s fv e;have h2:=D4 F s fv hc.1 e
   cases fv with
   | v p=>simp only [cT] at h1 ⊢;exact Lo hI p _ h2 h1
   | box row =>simp only [cT] at h1 ⊢;obtain ⟨b,k1,k2,k3,cur,T,k4,k5⟩:=h1;exact ⟨b,k1,k2,k3,cur,T,k4,C6 hI row _ h2 k5⟩
   | bp s' off=>exact h1
  ·obtain ⟨hid,hb0,e1,_,hor⟩:=hget id hb e;obtain ⟨b,o,hk⟩:=h.heap id hb0 e1;refine ⟨b,o,?_⟩;rcases hor with rfl | rfl
   ·have hrow:mZ (fun _=>true) (fun id=>Nat.blt id n&&!(Nat.ble n0 id&&memB D id)) hb.rows=true:=by
     rcases yJg _ id hb hc.2 e with hp|hp
     ·exact D3 _ _ _ _ (hk.pure hp)
     ·exact hp
    exact ⟨(hρ2 id hid).trans hk.at_,hk.esz,hk.cells,C7 hI _ _ _ _ hrow hk.rows,hk.pure,hk.fz,hk.live⟩
   ·obtain ⟨cur,T,k1,k2⟩:=hk.cells;exact ⟨(hρ2 id hid).trans hk.at_,hk.esz,⟨cur,T,k1,by simp only [sT,Nat.zero_mul];omega⟩,by simp only [jH],fun _=>by simp only [eU],hk.fz,hk.live⟩
  ·obtain ⟨_,hb0,e0,ez,_⟩:=hget id hb e;exact h.dist id id' hb0 b o b' o' e0 (by rw [← ez];exact hf) hne (hρ id b o e1).2 (hρ id' b' o' e2).2
  ·have h1:=hρ id b o e;have:=h.rsome id b o h1.2;rw [lM,C5];omega
end
section
variable {P:Program} {E:Env} {nt:Nat} {g g':Gh} {F F':aG} {H H':Hp} {a:Act} {tmps:Array Value} {w w':World} {o:Oper}
def Qd (all:Array Oper) (o:Oper) (gd:Option (Nat×Bool)):Prop:=
 (o.guard=none∧gd=none)∨∃ j want s,o.guard=some (j,want)∧(all[j]?).bind (·.dst)=some s∧gd=some (s,want)
theorem Lq {loc:List Nat} {all:Array Oper}:∀ (l:List Oper) (r:List AO),yll P loc all l=some r →
  r.length=l.length∧∀ (i:Nat) (o:Oper),l[i]?=some o→∃ gd,r[i]?=some ⟨o.dst,mO P loc o,gd⟩∧Qd all o gd
 | [],r,h=>by simp [yll] at h;subst h;exact ⟨rfl,fun i o e=>by simp at e⟩
 | x::l,r,h=>by
  simp only [yll] at h;split at h
  ·rename_i l' hl;obtain ⟨h1,h2⟩:=Lq l l' hl;split at h
   ·rename_i hg
    cases h
    refine ⟨by simp [h1],fun i o e=>?_⟩
    cases i with
    | zero=>simp at e;subst e;exact ⟨none,rfl,.inl ⟨hg,rfl⟩⟩
    | succ i=>simp at e;simpa using h2 i o e
   ·rename_i j want hg;split at h
    ·rename_i s hs
     cases h
     refine ⟨by simp [h1],fun i o e=>?_⟩
     cases i with
     | zero=>simp at e;subst e;exact ⟨some (s,want),rfl,.inr ⟨j,want,s,hg,hs,rfl⟩⟩
     | succ i=>simp at e;simpa using h2 i o e
    ·cases h
  ·cases h
theorem D6 (hr:Rel E nt g F H a.tmps w) {all:Array Oper} {gd:Option (Nat×Bool)} {b:Bool} (hg:Qd all o gd) (h:yen F gd=some b):Region.wanted o (yielded all a.tmps)=b:=by
 rcases hg with ⟨h1,rfl⟩|⟨j,want,s,h1,h2,rfl⟩
 ·simp only [yen,cC] at h;simp [Region.wanted,h1,← h]
 ·simp only [yen] at h;split at h
  ·rename_i b0 hb0;have hv:=hr.frame s _ hb0;simp only [cT,VR] at hv;have:a.tmps[s]?=some (.bool b0):=by
    rw [Av] at hv
    cases e:a.tmps[s]? with
    | none=>rw [e] at hv;simp [undef] at hv
    | some x=>rw [e] at hv;simpa using hv
   have hy:yielded all a.tmps j=some b0:=by unfold yielded;rw [h2];simp [this]
   simp only [cC] at h;simp only [Region.wanted,h1,hy,← h]
   cases b0<;>cases want<;>rfl
  ·rename_i hb0;have hv:=hr.frame s _ hb0;simp only [cT,VR,bW] at hv;obtain ⟨vs,hv,rfl⟩:=hv;have hy:yielded all a.tmps j=none:=by
    unfold yielded;rw [h2];simp only [Option.bind_some];rw [Av] at hv
    cases e:a.tmps[s]? with
    | none=>rfl
    | some x=>rw [e] at hv;simp at hv;subst hv;rfl
   simp only [cC] at h;simp only [Region.wanted,h1,hy,← h];rfl
  ·cases h
theorem D7 (a:Act) (dst:Option Tmp) (v:Value):(a.put dst v).defers=a.defers:=by cases dst<;>rfl
theorem D8:∀ (l:List Oper),AJ nt l=true→∀ (i:Nat) (o:Oper),l[i]?=some o→∀ d,o.dst=some d→d<nt
 | [],_,i,o,e=>by simp at e
 | x::l,h,i,o,e=>by
  simp only [AJ,bZ] at h
  cases i with
  | zero =>simp at e;subst e;intro d hd;have:=h.1;rw [hd] at this;simpa using this
  | succ i=>simp at e;exact D8 l h.2 i o e
def Qe (E:Env) (d:Deferred):Prop:=∃ n args,d={ target:=.fn (.func n) #[],args:=args }∧E.dn n=true
def GoD (E:Env) (a a':Act):Prop:=∃ ds,a'.defers=ds++a.defers∧∀ d∈ds,Qe E d
theorem GoD.same {a a':Act} (h:a'.defers=a.defers):GoD E a a':=⟨[],h,fun d hd=>by cases hd⟩
theorem GoD.trans {a1 a2 a3:Act} (h:GoD E a1 a2) (k:GoD E a2 a3):GoD E a1 a3:=by obtain ⟨d1,e1,h1⟩:=h;obtain ⟨d2,e2,h2⟩:=k;exact ⟨d2++d1,by rw [e2,e1,jE],fun d hd=>(qA8.1 hd).elim (h2 d) (h1 d)⟩
theorem D9:∀ (l:List Oper) (i:Nat) (o:Oper) (c:Call),l[i]?=some o→o.op=.defer c→kY l=true
 | [],i,o,c,e,_=>by simp at e
 | x::l,i,o,c,e,h=>by
  simp only [kY,sS]
  cases i with
  | zero=>simp at e;subst e;exact .inl (by rw [h])
  | succ i=>simp at e;exact .inr (D9 l i o c e h)
theorem yNO {loc:List Nat} (h:Ll (mO P loc o)=true):∃ c n,o.op=.defer c∧c.callee=.value (.func n)∧mO P loc o=.dfr n∧o.dst=none:=by
 unfold mO at h
 cases ho:o.op<;>rw [ho] at h<;>simp only [] at h
 case defer c=>
  cases hds:o.dst with
  | some d=>rw [hds] at h;cases h
  | none=>
  rw [hds] at h
  cases hc:c.callee with
  | value f=>
   rw [hc] at h
   cases f with
   | func n=>exact ⟨c,n,rfl,hc,by unfold mO;rw [ho];simp only [hc,hds],rfl⟩
   | _=>cases h
  | _=>rw [hc] at h;cases h
 all_goals (try unfold Hd at h)
 all_goals (try unfold He at h)
 all_goals (repeat' split at h)
 all_goals first | cases h | skip
theorem yK7 {ro:Option Nat} (hE:EO P E) {call} (hc:ybJ P E call) {ops:Array Oper} {loc:List Nat} {i:Nat} {rest:List Nat} {gd:Option (Nat×Bool)} {Q:Exit→Act→World→Prop}
  (hr:Rel E nt g F H a.tmps w) (hL:Lps P E g H w) (ho:ops[i]?=some o) (hg:Qd ops o gd) (hd:∀ d,o.dst=some d→d<nt) (h:yjS E call F H ⟨o.dst,mO P loc o,gd⟩=some (F',H'))
  (hro:kY ops.toList=true→ro=none) (hn0:∀ a' w' g',GoD E a a'→Nx g g' H H' w w'→Rel E nt g' F' H' a'.tmps w'→wpOpsIn (Fc ro) 0 P ops Q rest a' w'):wpOpsIn (Fc ro) 0 P ops Q (i::rest) a w:=by
 have hn:∀ v w' g',Nx g g' H H' w w'→Rel E nt g' F' H' (a.put o.dst v).tmps w'→wpOpsIn (Fc ro) 0 P ops Q rest (a.put o.dst v) w':=fun v w' g' n r=>hn0 _ w' g' (GoD.same (D7 _ _ _)) n r
 simp only [wpOpsIn,ho];unfold yjS at h;split at h
 ·cases h
 ·rename_i hgd;rw [Zv (by rw [D6 hr hg hgd];simp)];refine ⟨fun _ _=>trivial,?_⟩
  cases hdst:o.dst with
  | none =>rw [hdst] at h;simp only [cC,Prod.mk.injEq] at h;obtain ⟨rfl,rfl⟩:=h;have:=hn undef w g (Nx.refl g H w);rw [hdst] at this;exact this hr
  | some d =>rw [hdst] at h;simp only [cC,Prod.mk.injEq] at h;obtain ⟨rfl,rfl⟩:=h;have:=hn undef w g (Nx.refl g H w);rw [hdst] at this;refine this ?_;rw [A0];exact hr.putV (hd d hdst) (by simp [VR,bW,undef])
 ·rename_i hgd;rw [Tu (D6 hr hg hgd)];split at h
  ·cases h
  ·rename_i out x bx H1 hout;simp only [qV] at h;obtain ⟨F1,hp,e⟩:=h
   cases e
   by_cases hcall:rH (mO P loc o)=true
   ·obtain ⟨c,f,f',az',h1,h2,h3,h4,h5⟩:=yK4 hcall;simp only [h5] at hout;exact yQX hE hc hr hL h1 h2 h3 h4 hout hd hp hn
   ·by_cases hdf:Ll (mO P loc o)=true
    ·obtain ⟨c,n,h1,h2,h3,hds⟩:=yNO hdf;obtain rfl:=hro (D9 ops.toList i o c (by simpa using ho) h1);rw [h3] at hout;simp only [yaI] at hout;split at hout
     ·rename_i hdn;simp only [outV,cC,Out.mk.injEq] at hout;obtain ⟨rfl,rfl,rfl⟩:=hout;refine ⟨fun _ _=>trivial,?_⟩;have hrun:(o.semAt none a.eval).run P w=.ok (.defer { target:=.fn (.func n) #[],args:=c.args.map a.eval }) w:=by
       have e1:a.eval (.func n)=.func (.func n) #[] #[]:=rfl;simp [Oper.semAt,execOp,h1,resolve,h2,e1,Deferred.ofValue]
      show Oper.uponIn _ _ _ _ _ _ _ ((o.semAt none a.eval).run P w);rw [hrun];simp only [Oper.uponIn];refine hn0 _ w g ⟨[{ target:=.fn (.func n) #[],args:=c.args.map a.eval }],?_,fun d hd=>?_⟩ (Nx.refl g H w) ?_
      ·rw [D7];rfl
      ·rw [oE.1 hd];exact ⟨n,_,rfl,hdn⟩
      ·rw [hds] at hp ⊢;simp only [kK,yeq] at hp
       cases hp
       exact hr
     ·cases hout
    ·have hnd:∀ c,o.op≠.defer c:=by
      intro c e;unfold mO at hout hdf;rw [e] at hout hdf;simp only [] at hout hdf
      cases hds:o.dst with
      | some d=>rw [hds] at hout;simp [yaI] at hout
      | none=>
      rw [hds] at hout hdf
      cases hcal:c.callee with
      | value f=>
       rw [hcal] at hout hdf
       cases f with
       | func n=>exact hdf rfl
       | _=>simp [yaI] at hout
      | _=>rw [hcal] at hout;simp [yaI] at hout
     exact tH.wp hnd (yPa hr (by simpa using hcall) (by simpa using hdf) hout hd hp) hn
theorem E0 {ro:Option Nat} (hE:EO P E) {call} (hc:ybJ P E call) {ops:Array Oper} {loc:List Nat} {l:List AO} {Q:Exit→Act→World→Prop} {F':aG} {H':Hp} (hl:yll P loc ops ops.toList=some l) (hd:AJ nt ops.toList=true) (hro:kY ops.toList=true→ro=none) {ρ:List Nat} :
  ∀ (σ:List Nat) (g:Gh) (F:aG) (H:Hp) (a:Act) (w:World),(∀ i∈σ,i<ops.size)→Rel E nt g F H a.tmps w→Lps P E g H w→mY E call (σ.filterMap (l[·]?)) F H=some (F',H') →
   (∀ a' w' g',GoD E a a'→Nx g g' H H' w w'→Rel E nt g' F' H' a'.tmps w'→wpOpsIn (Fc ro) 0 P ops Q ρ a' w')→wpOpsIn (Fc ro) 0 P ops Q (σ++ρ) a w
 | [],g,F,H,a,w,_,hr,_,h,hq=>by simp only [List.filterMap_nil,mY,cC,Prod.mk.injEq] at h;obtain ⟨rfl,rfl⟩:=h;exact hq a w g (GoD.same rfl) (Nx.refl g H w) hr
 | i::σ,g,F,H,a,w,hσ,hr,hL,h,hq=>by
  obtain ⟨hlen,hget⟩:=Lq _ _ hl;have hi:i<ops.size:=hσ i (by simp);have hoi:ops[i]?=some ops[i]:=by simp [hi]
  have hoi':ops.toList[i]?=some ops[i]:=by simp [hi]
  obtain ⟨gd,hli,hgd⟩:=hget i _ hoi';rw [GV,hli] at h;simp only [mY] at h;split at h
  ·rename_i F1 H1 hs;refine yK7 hE hc hr hL hoi hgd (D8 _ hd i _ hoi') hs hro fun a1 w1 g1 d1 n1 r1=>?_
   exact E0 hE hc hl hd hro σ g1 F1 H1 a1 w1 (fun j hj=>hσ j (by simp [hj])) r1 (hL.nx n1) h fun a' w' g' hdf n2 r2=>hq a' w' g' (d1.trans hdf) (n1.trans n2) r2
  ·cases h
theorem Qf {α:Type} (l:List α):(List.range l.length).filterMap (l[·]?)=l:=by
 induction l with
 | nil=>rfl
 | cons x l ih =>rw [eR,List.range_succ_eq_map,GV];simp only [GT];rw [List.filterMap_map];congr 1
def Cc:Ex→Exit→Prop
 | .norm,.normal=>True
 | .exit i,.exit j=>i=j
 | .ret,.ret=>True
 | _,_=>False
abbrev mk (r:Nat):Deferred:={ target:=.collected r,args:=#[] }
def E3 (x:Option Nat×Deferred):Deferred:=match x.1 with | some r=>mk r | none=>x.2
def eK (E:Env) (base:Nat) (g:Gh) (w:World) (ds:List Deferred):Prop:=
 ∃ l:List (Option Nat×Deferred),ds=l.map E3∧(l.filterMap (·.1)).Nodup∧(∀ r∈l.filterMap (·.1),base≤r∧FB g w r (.deferred (some [])))∧∀ x∈l,x.1=none→Qe E x.2
theorem eK.nx {base:Nat} {ds:List Deferred} (h:eK E base g w ds) (n:Nx g g' H H' w w'):eK E base g' w' ds:=by obtain ⟨l,h1,h2,h3,h4⟩:=h;exact ⟨l,h1,h2,fun r hr=>⟨(h3 r hr).1,(h3 r hr).2.nx n⟩,h4⟩
theorem eK.nil {base:Nat}:eK E base g w []:=⟨[],rfl,List.nodup_nil,fun r h=>(by cases h),fun x h=>by cases h⟩
theorem eK.go {base:Nat} {a a':Act} (h:eK E base g w a.defers) (k:GoD E a a'):eK E base g w a'.defers:=by
 obtain ⟨l,h1,h2,h3,h4⟩:=h;obtain ⟨ds,e,k1⟩:=k;have hn:((ds.map fun d=>((none:Option Nat),d))++l).filterMap (·.1)=l.filterMap (·.1):=by
  rw [List.filterMap_append];have:(ds.map fun d=>((none:Option Nat),d)).filterMap (·.1)=[]:=by
   rw [List.filterMap_eq_nil_iff];intro x hx;obtain ⟨d,_,rfl⟩:=rB.1 hx;rfl
  rw [this,wR]
 refine ⟨ds.map (fun d=>(none,d))++l,?_,by rw [hn];exact h2,fun r hr=>h3 r (by rw [hn] at hr;exact hr),fun x hx hn=>?_⟩
 ·rw [e,h1,List.map_append,List.map_map];congr 1;exact (List.map_id ds).symm
 ·rcases qA8.1 hx with hx | hx
  ·obtain ⟨d,hd,rfl⟩:=rB.1 hx;exact k1 d hd
  ·exact h4 x hx hn
def yQY (r:Loop) (i:Nat):Obj:=.loop { r with state:=.done,pending:=some (.exit i) }
def ynd (E:Env) (nt base:Nat) (g:Gh) (H:Hp) (w:World) (ex:Ex) (F':aG) (H':Hp):Exit→Act→World→Prop:=
 fun e a' w'=>match ex with
  | .brk k i=>e=.ret∧∃ g' w1 l r,g.lam k=some l∧Nx g g' H H' w w1∧Rel E nt g' F' H' a'.tmps w1∧FB g' w1 l (.loop r)∧eK E base g' w1 a'.defers∧w'=w1.putObj l (yQY r i)
  | ex=>Cc ex e∧∃ g',Nx g g' H H' w w'∧Rel E nt g' F' H' a'.tmps w'∧eK E base g' w' a'.defers
def Qg (P:Program) (E:Env) (call:Nat→List PV→Hp→Option (PV×Hp)):Prop:=
 ∀ (ro:Option Nat) (nt base:Nat) (g:Gh) (F:aG) (H:Hp) (a:Act) (w:World) (loc:List Nat) (ops:Array Oper) (l:List AO) (F':aG) (H':Hp) (id:Nat),
  (kY ops.toList=true→ro=none)→yll P loc ops ops.toList=some l→AJ nt ops.toList=true→Hg ops.toList=true →
  ynL E call l (Hf (oL ops.toList [])) F H=some (F',H')→Rel E nt g F H a.tmps w→Lps P E g H w→eK E base g w a.defers →
  (Code.region id ops true).wpIn (Fc ro) 0 P (ynd E nt base g H w .norm F' H') a w
theorem E4 {ro:Option Nat} (hE:EO P E) {call} (hc:ybJ P E call) {ops:Array Oper} {loc:List Nat} {l:List AO} {Q:Exit→Act→World→Prop} {F':aG} {H':Hp} (hl:yll P loc ops ops.toList=some l) (hd:AJ nt ops.toList=true) (hro:kY ops.toList=true→ro=none)
  (σ:List Nat) (g:Gh) (F:aG) (H:Hp) (a:Act) (w:World) (h1:∀ i∈σ,i<ops.size) (hr:Rel E nt g F H a.tmps w) (hL:Lps P E g H w) (h:mY E call (σ.filterMap (l[·]?)) F H=some (F',H'))
  (hq:∀ a' w' g',GoD E a a'→Nx g g' H H' w w'→Rel E nt g' F' H' a'.tmps w'→Q .normal a' w'):wpOpsIn (Fc ro) 0 P ops Q σ a w:=by
 have:=E0 (ro:=ro) (Q:=Q) (ρ:=[]) hE hc hl hd hro σ g F H a w h1 hr hL h fun a' w' g' e1 e2 e3=>by simpa only [wpOpsIn] using hq a' w' g' e1 e2 e3
 simpa using this
theorem yG3 {ro:Option Nat} {base:Nat} (hE:EO P E) {call} (hc:ybJ P E call) {ops:Array Oper} {loc:List Nat} {l:List AO} {id:Nat} (hl:yll P loc ops ops.toList=some l) (hd:AJ nt ops.toList=true)
  (hro:kY ops.toList=true→ro=none) (h:mY E call l F H=some (F',H')) (hr:Rel E nt g F H a.tmps w) (hL:Lps P E g H w) (hdf:eK E base g w a.defers):(Code.region id ops false).wpIn (Fc ro) 0 P (ynd E nt base g H w .norm F' H') a w:=by
 refine wpIn_region (E4 (F':=F') (H':=H') hE hc hl hd hro _ g F H a w (fun i hi=>by simpa using hi) hr hL ?_ ?_)
 ·have hlen:=(Lq _ _ hl).1;have:ops.size=l.length:=by simpa using hlen.symm
  rw [this,Qf];exact h
 ·intro a' w' g' h1 h2 h3;exact ⟨trivial,g',h2,h3,(hdf.nx h2).go h1⟩
theorem ynd.fdels {base:Nat} {g:Gh} {ex:Ex} {e:Exit} {fs:List Nat} {a':Act} (h:ynd E nt base g H w ex F' H' e a' w'):ynd E nt base g H w ex (fdels F' fs) H' e a' w':=by
 cases ex with
 | brk k i =>obtain ⟨h1,g',w1,l,r,h2,h3,h4,h5,h6,h7⟩:=h;exact ⟨h1,g',w1,l,r,h2,h3,h4.less fun s x hs=>Zx fs F' s x hs,h5,h6,h7⟩
 | _ =>obtain ⟨h1,g',h3,h4,h5⟩:=h;exact ⟨h1,g',h3,h4.less fun s x hs=>Zx fs F' s x hs,h5⟩
theorem ynd.trans {base:Nat} {g g1:Gh} {H1:Hp} {w1:World} {ex:Ex} {e:Exit} {a':Act} (hn:Nx g g1 H H1 w w1) (h:ynd E nt base g1 H1 w1 ex F' H' e a' w'):ynd E nt base g H w ex F' H' e a' w':=by
 cases ex with
 | brk k i =>obtain ⟨h1,g',w2,l,r,h2,h3,h4,h5,h6,h7⟩:=h;exact ⟨h1,g',w2,l,r,by rw [← hn.on.lam];exact h2,hn.trans h3,h4,h5,h6,h7⟩
 | _ =>obtain ⟨h1,g',h3,h4,h5⟩:=h;exact ⟨h1,g',hn.trans h3,h4,h5⟩
def E5 (P:Program) (E:Env) (n:Nat):Prop:=
 ∀ (ro:Option Nat) (inR:Bool) (loc:List Nat) (fg:Nat→List Nat) (nt base:Nat) (c:Code) (g:Gh) (F:aG) (H:Hp) (a:Act) (w:World) (ex:Ex) (F':aG) (H':Hp),(inR=false→ro=none) →
  exec E n (ybL P loc fg nt inR c) F H=some (ex,F',H')→Rel E nt g F H a.tmps w→Lps P E g H w→base≤w.heap.size→eK E base g w a.defers→c.wpIn (Fc ro) 0 P (ynd E nt base g H w ex F' H') a w
def E6 (P:Program) (E:Env) (n:Nat):Prop:=
 ∀ (ro:Option Nat) (inR:Bool) (loc:List Nat) (fg:Nat→List Nat) (nt base:Nat) (c:Code) (g:Gh) (F:aG) (H:Hp) (a:Act) (w:World) (ex:Ex) (F':aG) (H':Hp),(inR=false→ro=none) →
  exec E n (.loop (ybL P loc fg nt inR c)) F H=some (ex,F',H')→Rel E nt g F H a.tmps w→Lps P E g H w→base≤w.heap.size→eK E base g w a.defers →
  ∀ (b:Frame) (k:List Item) (cs:List Frame),b.roundOf=ro→∃ e a' w',ynd E nt base g H w ex F' H' e a' w'∧ArrivesIn (Machine.fenced P (Fc ro)) P (lone (b.atR a (.code c::.inLoop c::k)) cs w) b k cs e a' w'
def E7 (P:Program) (E:Env) (n:Nat):Prop:=
 ∀ (ro:Option Nat) (inR:Bool) (loc:List Nat) (fg:Nat→List Nat) (nt base:Nat) (c:Code) (g:Gh) (F:aG) (H:Hp) (a:Act) (w:World) (ex:Ex) (F':aG) (H':Hp),(inR=false→ro=none) →
  exec E n (.lG (ybL P loc fg nt inR c)) F H=some (ex,F',H')→Rel E nt g F H a.tmps w→Lps P E g H w→base≤w.heap.size→eK E base g w a.defers →
  ∀ (b:Frame) (k:List Item) (cs:List Frame),b.roundOf=ro→∃ e a' w',ynd E nt base g H w ex F' H' e a' w'∧ArrivesIn (Machine.fenced P (Fc ro)) P (lone (b.atR a (.code c::.inLoop c::k)) cs w) b k cs e a' w'
theorem eK.cut {base:Nat} {ds:List Deferred} (h:eK E base g w ds) (hr:∀ b,RngR g' b→RngR g b) (hb:g'.β=g.β) (hi:g'.I=g.I):eK E base g' w ds:=by obtain ⟨l,h1,h2,h3,h4⟩:=h;refine ⟨l,h1,h2,fun r hr'=>⟨(h3 r hr').1,?_⟩,h4⟩;obtain ⟨k1,k2,k3,k4⟩:=(h3 r hr').2;exact ⟨k1,fun hh=>k2 (hr _ hh),fun ⟨s,e⟩=>k3 ⟨s,by rw [← hb];exact e⟩,fun hh=>k4 (by rw [← hi];exact hh)⟩
def noGo (Q:Exit→Act→World→Prop):Exit→Act→World→Prop
 | .goto _,_,_=>False
 | e,a,w=>Q e a w
theorem yK9 {ro:Option Nat} {c:Code} {Q:Exit→Act→World→Prop} (h:c.wpIn (Fc ro) 0 P (noGo Q) a w):(Code.scope c).wpIn (Fc ro) 0 P Q a w:=by
 intro b k cs hro hb hr;have h0:(lone (b.atR a (.code (.scope c)::k)) cs w).fenced P (Fc ro):=fenced_calm hb hr rfl;have s0:step P (lone (b.atR a (.code (.scope c)::k)) cs w)=.next (lone (b.atR a (.code c::.inScope c::k)) cs w):=step_lone_go (by simp [stepG,stepG.exec,Frame.atR]);have s1:∀ a w,step P (lone (b.atR a (.inScope c::k)) cs w)=.next (lone (b.atR a k) cs w):=fun a w=>step_lone_go (by simp [stepG,stepG.exec,Frame.atR])
 obtain ⟨e,a1,w1,hq,harr⟩:=h b (.inScope c::k) cs hro hb hr
 cases e with
 | normal=>exact ⟨.normal,a1,w1,hq,.head h0 s0 (StepsIn.trans harr (.one (fenced_calm hb hr rfl) (s1 _ _)))⟩
 | exit id=>
  have hx:exitTo id (.inScope c::k)=exitTo id k:=by simp [exitTo]
  exact ⟨.exit id,a1,w1,hq,fun k' hk=>.head h0 s0 (harr.1 k' (by rw [hx];exact hk)),fun hr' hk=>let ⟨k1,h1,h2⟩:=harr.2 hr' (by rw [hx];exact hk);⟨k1,h1,.head h0 s0 h2⟩⟩
 | goto l=>exact hq.elim
 | ret=>exact ⟨.ret,a1,w1,hq,ArrivesIn.of_steps (e:=.ret) (k:=k) (.one h0 s0) harr⟩
 | panic ch=>exact ⟨.panic ch,a1,w1,hq,ArrivesIn.of_steps (e:=.panic ch) (k:=k) (.one h0 s0) harr⟩
 | outgrown=>exact ⟨.outgrown,a1,w1,hq,ArrivesIn.of_steps (e:=.outgrown) (k:=k) (.one h0 s0) harr⟩
theorem CallsDIn.mono' {F:Fence} {n:Nat} {f:FuncId} {args:Array Value} {u:FrameMode} {R R':Ending→FrameMode→World→Prop} (h:CallsDIn F n P f args u w R) (hr:∀ e u w,R e u w→R' e u w):CallsDIn F n P f args u w R':=
 ⟨h.1,fun c cs hu hroom=>let ⟨e,u',w',fr,r,s⟩:=h.2 c cs hu hroom;⟨e,u',w',fr,hr _ _ _ r,s⟩⟩
theorem Qh (hE:EO P E) {nt:Nat} {g0 g2:Gh} {F2:aG} {H2:Hp} {tmps:Array Value} {fn:Func} {R:Ending→World→Prop} (ψ:World→World) (good:World→Prop)
  (hψ:∀ w1 r,FB g2 w1 r (.deferred (some []))→good w1→(ψ w1).heap[r]?=some (.deferred (some []))∧(ψ w1).putObj r (.deferred none)=ψ (w1.putObj r (.deferred none))∧good (w1.putObj r (.deferred none)))
  (hend:∀ w1,Rel E nt g2 F2 H2 tmps w1→Nx g0 g2 H H2 w w1→good w1→∃ v,(results fn tmps).run P (ψ w1)=.ok v (ψ w1)∧R (.returned v) (ψ w1)) :
  ∀ (l:List (Option Nat×Deferred)) (w1:World),(l.filterMap (·.1)).Nodup→(∀ r∈l.filterMap (·.1),w.heap.size≤r∧FB g2 w1 r (.deferred (some [])))→(∀ x∈l,x.1=none→Qe E x.2)→Rel E nt g2 F2 H2 tmps w1→Nx g0 g2 H H2 w w1→good w1 →
   LeavesInM (Fc none) 0 P fn tmps R (l.map E3) .returning (ψ w1)
 | [],w1,_,_,_,hr,hn,hg=>by simp only [List.map_nil,LeavesInM,LeavesIn];exact hend w1 hr hn hg
 | (some r,d)::l,w1,hd,hf,hx,hr,hn,hg=>by rw [GV] at hd hf;dsimp only at hd hf;obtain ⟨hb,hF⟩:=hf r (by simp);obtain ⟨e1,e2,e3⟩:=hψ w1 r hF hg;simp only [qJ,LeavesInM];refine ⟨by simp,.inl ⟨r,_,rfl,run_takeDeferred e1,?_⟩⟩;rw [e2];have hA:=hF.agr (o':=.deferred none) (by simp [Obj.rec]);rw [List.nodup_cons] at hd;exact Qh hE ψ good hψ hend l _ hd.2 (fun r' hr'=>⟨(hf r' (fC _ hr')).1,(hf r' (fC _ hr')).2.other (fun e=>hd.1 (e ▸ hr'))⟩) (fun x hx'=>hx x (fC _ hx')) (hr.agr hA) (hn.later hA hr.imm fun b hb'=>World.putObj_heap_other (by omega)) e3
 | (none,d)::l,w1,hd,hf,hx,hr,hn,hg=>by
  rw [GV] at hd hf;dsimp only at hd hf;obtain ⟨n,args,hde,hdn⟩:=hx (none,d) (by simp) rfl;dsimp only at hde;subst hde;simp only [qJ,LeavesInM];have hcall:=hE.dn n hdn args (ψ w1);refine ⟨by simp,.inr ⟨fun h=>by simp [Fence.wide] at h,.func n,#[],n,args,rfl,?_,fun _ _=>trivial,CallsDIn.mono' hcall.2 fun e u w' he=>?_⟩⟩
  ·have:(invoke (Target.fn (.func n) #[]) args).run P (ψ w1)=(callFunc n args).run P (ψ w1):=by simp [invoke]
   exact this.trans hcall.1
  ·obtain ⟨rfl,rfl,v,rfl⟩:=he;exact Qh hE ψ good hψ hend l w1 hd hf (fun x hx'=>hx x (fC _ hx')) hr hn hg
theorem Lps.enter {E:Env} (h:Lps P E g H w):Lps P E { g with β:=fun _=>none } H w:=by
 have hon:On g { g with β:=fun _=>none } H H w w:=⟨fun _ x=>⟨x,rfl⟩,fun _ hb x=>⟨hb,x,rfl,rfl,.inr ⟨rfl,rfl⟩⟩,fun _ cur _ x=>⟨cur,x,rfl⟩,rfl⟩;refine ⟨fun k c l hc hl=>?_,h.inj,h.top⟩;obtain ⟨r,nt,hr⟩:=h.loop k c l hc hl;exact ⟨r,nt,⟨hr.free.at_,hr.free.rng,fun ⟨s,e⟩=>by simp at e,hr.free.imm⟩,hr.ready,hr.none_,hr.ps,hr.lt,hr.code,hr.size,fun s fv hs=>by
  obtain ⟨p,e,hp⟩:=hr.frame s fv hs;exact ⟨p,e,tA hon p _ hp⟩⟩
theorem yG4 (hE:EO P E) {n:Nat} (hx:E5 P E n):ybJ P E (ycl E (n+1)):=by
 intro f args H r H' h nt g F tmps w vs hr hL hv;simp only [ycl] at h;split at h
 ·rename_i x he
  cases h
  exact hE.eff.ok f args H r H' he nt g F tmps w vs hr hL hv
 split at h
 ·rename_i fn hfn;obtain ⟨fu,loc,fg,hfu,hcomp⟩:=hE.fns f fn hfn;unfold yI at hcomp;split at hcomp
  ·rename_i c rs hb hrs;split at hcomp
   ·cases hcomp
   ·rename_i hname
    cases hcomp
    simp only [] at h;split at h
    ·have hbase:=hr.enter hv fu.ntmps;have hcf:(callFunc f vs.toArray).run P w=.ok (.enter f vs.toArray) w:=by
      have hname' : ¬ fu.name = "runtime.NumGoroutine" := by simpa using hname
      simp [callFunc,hfu,hname',hb]
     unfold nA;rw [hcf];simp only [];have fin:∀ ex F2 H2,exec E n (ybL P loc fg fu.ntmps false c) (sZ 0 args) H=some (ex,F2,H2)→(ex=.norm∨ex=.ret)→(∃ ps,yjT F2 H2 rs=some ps∧rD ps=r∧H2=H') →
       Calls P f vs.toArray w (fun e w''=>match e with | .returned v=>∃ g',Nx g g' H H' w w''∧Rel E nt g' F H' tmps w''∧VR g' H' w'' r v | _=>False):=by
      intro ex F2 H2 he hex ⟨ps,hps,hpk,e2⟩;subst hpk;subst e2;have hbody:=hx none false loc fg fu.ntmps w.heap.size c _ _ _ ⟨vs.toArray++Array.replicate (fu.ntmps-vs.toArray.size) undef,[]⟩ w ex F2 H2 (fun _=>rfl) he hbase hL.enter (cJ _) eK.nil;refine B4.1 (callsIn_of_wp_marks (F:=Fc none) (n:=0) hfu hb trivial (wpIn_mono hbody fun e a' w' hp=>?_));have hp':Cc ex e∧∃ g',Nx { g with β:=fun _=>none } g' H H2 w w'∧Rel E fu.ntmps g' F2 H2 a'.tmps w'∧eK E w.heap.size g' w' a'.defers:=by
       rcases hex with rfl | rfl<;>exact hp
      obtain ⟨h1,g2,h3,h4,rs,h5,h6,h7,h8⟩:=hp';have key:LeavesInM (Fc none) 0 P fu a'.tmps (fun e w''=>match e with | .returned v=>∃ g',Nx g g' H H2 w w''∧Rel E nt g' F H2 tmps w''∧VR g' H2 w'' (rD ps) v | _=>False) a'.defers .returning w':=by
       rw [h5];refine Qh hE (nt:=fu.ntmps) (g0:={ g with β:=fun _=>none }) (g2:=g2) (F2:=F2) (H:=H) (H2:=H2) (w:=w) (fun x=>x) (fun _=>True) (fun w1 r hf _=>⟨hf.at_,rfl,trivial⟩) (fun w1 k1 k2 _=>?_) rs w' h6 h7 h8 h4 h3 trivial;obtain ⟨v,hv1,hv2⟩:=yEO (P:=P) k1 hrs hps;obtain ⟨r3,n3⟩:=hr.back k2 k1;have hon2:On g2 { g2 with β:=g.β } H2 H2 w1 w1:=⟨fun _ x=>⟨x,rfl⟩,fun _ hb x=>⟨hb,x,rfl,rfl,.inr ⟨rfl,rfl⟩⟩,fun _ cur _ x=>⟨cur,x,rfl⟩,rfl⟩;exact ⟨v,hv1,_,n3,r3,tA hon2 _ _ hv2⟩
      rcases hex with rfl | rfl<;>cases e<;>simp only [Cc] at h1<;>exact key
     split at h
     ·rename_i F2 H2 he;split at h
      ·rename_i ps hps
       cases h
       exact fin _ F2 _ he (.inl rfl) ⟨ps,hps,rfl,rfl⟩
      ·cases h
     ·rename_i F2 H2 he;split at h
      ·rename_i ps hps
       cases h
       exact fin _ F2 _ he (.inr rfl) ⟨ps,hps,rfl,rfl⟩
      ·cases h
     ·cases h
    ·cases h
  ·cases hcomp
 ·cases h
theorem yNP {ro:Option Nat} {base n:Nat} (hE:EO P E) (ihi:ybJ P E (ycl E n)) (hdraw:∀ call,ybJ P E call→Qg P E call) {loc:List Nat} {fg:Nat→List Nat} {inR:Bool} {id:Nat} {ops:Array Oper} {draw:Bool} {ex:Ex} (hro:inR=false→ro=none)
  (h:exec E (n+1) (PC P loc fg nt inR id ops draw) F H=some (ex,F',H')) (hr:Rel E nt g F H a.tmps w) (hL:Lps P E g H w) (hdf:eK E base g w a.defers):ex=.norm∧(Code.region id ops draw).wpIn (Fc ro) 0 P (ynd E nt base g H w .norm F' H') a w:=by
 unfold PC at h
 cases hin:(inR&&kY ops.toList) with
 | true=>rw [hin] at h;simp [exec] at h
 | false=>
 rw [hin] at h;simp only [kG,if_false] at h;have hrd:kY ops.toList=true→ro=none:=fun hh=>by
  cases inR with
  | false=>exact hro rfl
  | true=>rw [hh] at hin;cases hin
 split at h
 ·rename_i l hl;split at h
  ·rename_i hds
   cases draw with
   | true=>
    simp only [if_true] at h;split at h
    ·rename_i heb;simp only [exec] at h;split at h
     ·rename_i F1 H1 hrun
      cases h
      exact ⟨rfl,wpIn_mono (hdraw _ ihi ro nt base g F H a w loc ops l F1 _ id hrd hl hds heb hrun hr hL hdf) fun e a' w' hp=>hp.fdels⟩
     ·cases h
    ·simp [exec] at h
   | false=>
    simp only [kG,if_false] at h;simp only [exec,ynL] at h;split at h
    ·rename_i F1 H1 hrun
     cases h
     exact ⟨rfl,wpIn_mono (yG3 hE ihi hl hds hrd hrun hr hL hdf) fun e a' w' hp=>hp.fdels⟩
    ·cases h
  ·simp [exec] at h
 ·simp [exec] at h
theorem Cb.env {E E':Env} {o:Option Nat} {l:Nat} {e:Ending} (he:E'.glob=E.glob) (h:Cb E nt g F H tmps w o H' l e w'):Cb E' nt g F H tmps w o H' l e w':=by
 cases e with
 | returned v=>
  cases o with
  | none =>obtain ⟨h1,g',h2,h3⟩:=h;exact ⟨h1,g',h2,h3.env he⟩
  | some i =>obtain ⟨h1,g',w1,r,h2,h3,h4,h5⟩:=h;exact ⟨h1,g',w1,r,h2,h3.env he,h4,h5⟩
 | panicked _=>exact h
 | outgrown=>exact h
theorem EO.ats {y:Nat} (hE:EO P E) (hy:E.yn≤y):EO P (E.ats y) where
 sum:=hE.sum
 fns:=hE.fns
 eff:=fun y' hy'=>hE.eff y' (mD hy hy')
 dn:=hE.dn
 top:=fun k hk=>hE.top k (mD hy hk)
 yl:=fun y' k az H o H' h hy' nt g F tmps w vs l hr hL hl hv=>by obtain ⟨fn,t1,as1,bd,h1,h2⟩:=hE.yl y' k az H o H' h (mD hy hy') nt g F tmps w vs l (Rel.env (E:=E.ats y) (E':=E) rfl hr) hL hl hv;exact ⟨fn,t1,as1,bd,h1,fun ro=>(h2 ro).mono fun e w' he=>Cb.env (E:=E) (E':=E.ats y) rfl he⟩
theorem EO.yl' {E':Env} (hE:EO P E) (e1:E'.glob=E.glob) (e2:E'.ctx=E.ctx) (e3:E'.yn=E.yn) (e4:E'.yl=E.yl):∀ y k az H o H',E'.yl y k az H=some (o,H')→E'.yn≤y→∀ nt g F tmps w vs l,Rel E' nt g F H tmps w→Lps P (E'.ats y) g H w→g.lam k=some l→bW g H w az vs →
  ∃ (fn:FuncId) (tmps1:Array Value) (assign body:Code),(Instr.yield l vs.toArray).run P w=.ok (.round l fn tmps1 assign body) w ∧
   ∀ ro,RoundIn (Fc ro) 0 P l fn tmps1 assign body w (Cb E' nt g F H tmps w o H' l):=by
 intro y k az H o H' h hy nt g F tmps w vs l hr hL hl hv;obtain ⟨fn,t1,as1,bd,h1,h2⟩:=hE.yl y k az H o H' (by rw [← e4];exact h) (by rw [← e3];exact hy) nt g F tmps w vs l (hr.env e1.symm) (Lps.env (E:=E'.ats y) (E':=E.ats y) e2.symm rfl hL) hl hv;exact ⟨fn,t1,as1,bd,h1,fun ro=>(h2 ro).mono fun e w' he=>Cb.env e1 he⟩
theorem EO.eff' {E':Env} {call:Nat→List PV→Hp→Option (PV×Hp)} (e1:E'.glob=E.glob) (e2:E'.ctx=E.ctx) (e3:E'.yn=E.yn) (h:Hr P E call):Hr P E' call:=
 fun y hy=>ybJ.env (E:=E.ats y) (E':=E'.ats y) e1 e2 rfl (h y (by rw [← e3];exact hy))
theorem ynd.noGo {base:Nat} {ex:Ex} {e:Exit} {a':Act} (h:ynd E nt base g H w ex F' H' e a' w'):noGo (ynd E nt base g H w ex F' H') e a' w':=by
 cases e with
 | goto t=>
  cases ex with
  | brk k i=>obtain ⟨h1,_⟩:=h;cases h1
  | _=>exact h.1.elim
 | _=>exact h
theorem yLa (hdraw:∀ E,EO P E→∀ call,ybJ P E call→Qg P E call):∀ n E,EO P E→E5 P E n∧E6 P E n∧E7 P E n∧ybJ P E (ycl E n):=by
 intro n;induction n using Nat.strongRecOn with
 | _ n ih0=>
 cases n with
 | zero=>
  intro E hE;refine ⟨?_,?_,?_,?_⟩
  ·intro ro inR loc fg nt base c g F H a w ex F' H' _ h;simp [exec] at h
  ·intro ro inR loc fg nt base c g F H a w ex F' H' _ h;simp [exec] at h
  ·intro ro inR loc fg nt base c g F H a w ex F' H' _ h;simp [exec] at h
  ·intro f args H r H' h;simp [ycl] at h
 | succ n=>
  intro E hE;obtain ⟨ihx,ihl,ihlg,ihi⟩:=ih0 n (by omega) E hE;have hloop:E6 P E (n+1):=by
   intro ro inR loc fg nt base c g F H a w ex F' H' hro h hr hL hb hdf b k cs hbr;have hroom:(Fc ro).room (cs.length+1+0):=room_wide _;simp only [exec] at h;split at h
   ·rename_i F1 H1 h1;obtain ⟨e,a1,w1,⟨hp1,g1,hn1,hr1,hd1⟩,harr⟩:=ihx ro inR loc fg nt base c g F H a w _ _ _ hro h1 hr hL hb hdf b (.inLoop c::k) cs hbr trivial hroom
    cases e<;>simp only [Cc] at hp1
    obtain ⟨e2,a2,w2,hq2,harr2⟩:=ihl ro inR loc fg nt base c g1 F1 H1 a1 w1 ex F' H' hro h hr1 (hL.nx hn1) (mD hb hn1.size) hd1 b k cs hbr;exact ⟨e2,a2,w2,hq2.trans hn1,.of_steps (StepsIn.trans harr (.one (fenced_calm trivial hroom rfl) stepR_inLoop)) harr2⟩
   ·rename_i hne;obtain ⟨e,a1,w1,hp,harr⟩:=ihx ro inR loc fg nt base c g F H a w _ _ _ hro h hr hL hb hdf b (.inLoop c::k) cs hbr trivial hroom;have hex:ex≠.norm:=fun e=>hne F' H' (by rw [h,e])
    refine ⟨e,a1,w1,hp,.pass (x:=.inLoop c) rfl (fun _ _=>.inl (fun e1=>?_)) harr⟩;subst e1
    cases ex with
    | norm=>exact hex rfl
    | brk k i=>obtain ⟨h1,_⟩:=hp;cases h1
    | _=>exact hp.1.elim
  have hloopG:E7 P E (n+1):=by
   intro ro inR loc fg nt base c g F H a w ex F' H' hro h hr hL hb hdf b k cs hbr;have hroom:(Fc ro).room (cs.length+1+0):=room_wide _;simp only [exec] at h;split at h
   ·rename_i F1 H1 h1;obtain ⟨e,a1,w1,⟨hp1,g1,hn1,hr1,hd1⟩,harr⟩:=ihx ro inR loc fg nt base c g F H a w _ _ _ hro h1 hr hL hb hdf b (.inLoop c::k) cs hbr trivial hroom
    cases e<;>simp only [Cc] at hp1
    obtain ⟨g2,hn2,hr2,q1,q2,q3⟩:=Rel.gc hn1 hr1;obtain ⟨e2,a2,w2,hq2,harr2⟩:=ihlg ro inR loc fg nt base c g2 F1 _ a1 w1 ex F' H' hro h hr2 (hL.nx hn2) (mD hb hn2.size) (hd1.cut q1 q2 q3) b k cs hbr;exact ⟨e2,a2,w2,hq2.trans hn2,.of_steps (StepsIn.trans harr (.one (fenced_calm trivial hroom rfl) stepR_inLoop)) harr2⟩
   ·rename_i hne;obtain ⟨e,a1,w1,hp,harr⟩:=ihx ro inR loc fg nt base c g F H a w _ _ _ hro h hr hL hb hdf b (.inLoop c::k) cs hbr trivial hroom;have hex:ex≠.norm:=fun e=>hne F' H' (by rw [h,e])
    refine ⟨e,a1,w1,hp,.pass (x:=.inLoop c) rfl (fun _ _=>.inl (fun e1=>?_)) harr⟩;subst e1
    cases ex with
    | norm=>exact hex rfl
    | brk k i=>obtain ⟨h1,_⟩:=hp;cases h1
    | _=>exact hp.1.elim
  refine ⟨?_,hloop,hloopG,yG4 hE ihx⟩;intro ro inR loc fg nt base c;induction c with
  | scope x ihs =>intro g F H a w ex F' H' hro h hr hL hb hdf;simp only [ybL] at h;exact yK9 (wpIn_mono (ihs g F H a w ex F' H' hro h hr hL hb hdf) fun e a' w' hp=>hp.noGo)
  | skip =>intro g F H a w ex F' H' hro h hr hL hb hdf;simp only [ybL,exec,cC,Prod.mk.injEq] at h;obtain ⟨rfl,rfl,rfl⟩:=h;exact wpIn_skip ⟨trivial,g,Nx.refl g H w,hr,hdf⟩
  | label l =>intro g F H a w ex F' H' hro h hr hL hb hdf;simp only [ybL,exec,cC,Prod.mk.injEq] at h;obtain ⟨rfl,rfl,rfl⟩:=h;exact wpIn_label ⟨trivial,g,Nx.refl g H w,hr,hdf⟩
  | exit id =>intro g F H a w ex F' H' hro h hr hL hb hdf;simp only [ybL,exec,cC,Prod.mk.injEq] at h;obtain ⟨rfl,rfl,rfl⟩:=h;exact wpIn_exit ⟨rfl,g,Nx.refl g H w,hr,hdf⟩
  | ret =>intro g F H a w ex F' H' hro h hr hL hb hdf;simp only [ybL,exec,cC,Prod.mk.injEq] at h;obtain ⟨rfl,rfl,rfl⟩:=h;exact wpIn_ret ⟨trivial,g,Nx.refl g H w,hr,hdf⟩
  | region id ops draw =>intro g F H a w ex F' H' hro h hr hL hb hdf;simp only [ybL] at h;obtain ⟨rfl,hw⟩:=yNP (ro:=ro) hE ihi (hdraw E hE) hro h hr hL hdf;exact hw
  | seq x y _ _=>
   intro g F H a w ex F' H' hro h hr hL hb hdf;have dflt:exec E (n+1) (.seq (ybL P loc fg nt inR x) (ybL P loc fg nt inR y)) F H=some (ex,F',H')→(Code.seq x y).wpIn (Fc ro) 0 P (ynd E nt base g H w ex F' H') a w:=by
    intro h;simp only [exec] at h;split at h
    ·rename_i F1 H1 h1;refine wpIn_seq (wpIn_mono (ihx ro inR loc fg nt base x g F H a w _ _ _ hro h1 hr hL hb hdf) fun e a1 w1 hp=>?_);obtain ⟨hp1,g1,hn1,hr1,hd1⟩:=hp
     cases e<;>simp only [Cc] at hp1
     exact wpIn_mono (ihx ro inR loc fg nt base y g1 F1 H1 a1 w1 _ _ _ hro h hr1 (hL.nx hn1) (mD hb hn1.size) hd1) fun e a' w' hp=>hp.trans hn1
    ·rename_i hne;refine wpIn_seq (wpIn_mono (ihx ro inR loc fg nt base x g F H a w _ _ _ hro h hr hL hb hdf) fun e a1 w1 hp=>?_);have hex:ex≠.norm:=fun e=>hne F' H' (by rw [h,e])
     cases e with
     | normal=>
      cases ex with
      | norm=>exact absurd rfl hex
      | brk k i=>obtain ⟨h1,_⟩:=hp;cases h1
      | _=>exact hp.1.elim
     | _=>exact hp
   exact dflt (by simpa only [ybL] using h)
  | cond x y z _ _=>
   intro g F H a w ex F' H' hro h hr hL hb hdf;simp only [ybL] at h;split at h
   ·rename_i x' hx;simp only [exec] at h;split at h
    ·rename_i hbv;have:=eY hr hx hbv;simp only [VR] at this;exact wpIn_cond_true this (ihx ro inR loc fg nt base y g F H a w _ _ _ hro h hr hL hb hdf)
    ·rename_i hbv;have:=eY hr hx hbv;simp only [VR] at this;exact wpIn_cond_false this (ihx ro inR loc fg nt base z g F H a w _ _ _ hro h hr hL hb hdf)
    ·cases h
   ·simp [exec] at h
  | block id x _=>
   intro g F H a w ex F' H' hro h hr hL hb hdf;simp only [ybL,exec] at h;split at h
   ·rename_i i F1 H1 h1;refine wpIn_block (wpIn_mono (ihx ro inR loc fg nt base x g F H a w _ _ _ hro h1 hr hL hb hdf) fun e a1 w1 hp=>?_);obtain ⟨hp1,hp3⟩:=hp
    cases e<;>simp only [Cc] at hp1
    subst hp1;split at h
    ·rename_i hi
     cases h
     simp only [Exit.inBlock,hi,if_true];exact ⟨trivial,hp3⟩
    ·rename_i hi
     cases h
     simp only [Exit.inBlock,hi,if_false];exact ⟨rfl,hp3⟩
   ·rename_i hne;refine wpIn_block (wpIn_mono (ihx ro inR loc fg nt base x g F H a w _ _ _ hro h hr hL hb hdf) fun e a1 w1 hp=>?_)
    cases e with
    | exit j=>
     cases ex with
     | brk k i=>obtain ⟨h1,_⟩:=hp;cases h1
     | exit i=>exact absurd h (hne _ F' H')
     | _=>exact hp.1.elim
    | _=>exact hp
  | loop x _=>
   intro g F H a w ex F' H' hro h hr hL hb hdf b k cs hbr _ hroom;obtain ⟨e,a',w',hq,harr⟩:∃ e a' w',ynd E nt base g H w ex F' H' e a' w'∧ArrivesIn (Machine.fenced P (Fc ro)) P (lone (b.atR a (.code x::.inLoop x::k)) cs w) b k cs e a' w':=by
    simp only [ybL] at h;split at h
    ·exact hloop ro inR loc fg nt base x g F H a w ex F' H' hro h hr hL hb hdf b k cs hbr
    ·exact hloopG ro inR loc fg nt base x g F H a w ex F' H' hro h hr hL hb hdf b k cs hbr
   exact ⟨e,a',w',hq,.of_steps (.one (fenced_calm trivial hroom rfl) stepR_loop) harr⟩
  | _ =>intro g F H a w ex F' H' hro h hr hL hb hdf;simp [ybL,exec] at h
end
end Go.Pf
namespace Go.Pf
open Go
def ytI {S O:Type} (run:O→S→Option S):List O→S→Option S
 | [],s=>some s
 | o::r,s=>match run o s with
  | some s'=>ytI run r s'
  | none=>none
section
variable {S L V O:Type} {look:S→L→V} {run:O→S→Option S} {ops:List O} {st:Nat→S} {R W:Nat→L→Prop}
theorem yAG (p:Nat→Prop):∀ k,(∀ i,i<k→¬p i)∨∃ i,i<k∧p i∧∀ j,j<k→p j→j≤i:=by
 intro k;induction k with
 | zero=>exact .inl fun i h=>absurd h (Nat.not_lt_zero i)
 | succ k ih=>
  by_cases h:p k
  ·exact .inr ⟨k,Nat.lt_succ_self k,h,fun j hj _=>Nat.le_of_lt_succ hj⟩
  ·rcases ih with ih | ⟨i,h1,h2,h3⟩
   ·refine .inl fun i hi=>?_
    rcases qA5 i k with h4|h4
    ·exact ih i h4
    ·have:i=k:=by omega
     subst this;exact h
   ·refine .inr ⟨i,by omega,h2,fun j hj hp=>?_⟩;rcases qA5 j k with h4 | h4
    ·exact h3 j h4 hp
    ·have:j=k:=by omega
     subst this;exact absurd hp h
structure Local (look:S→L→V) (run:O→S→Option S) (ops:List O) (st:Nat→S) (R W:Nat→L→Prop):Prop where
 goes:∀ (i:Nat) (o:O),ops[i]?=some o→run o (st i)=some (st (i+1))
 loc:∀ (i:Nat) (o:O),ops[i]?=some o→∀ S',(∀ l,R i l→look S' l=look (st i) l)→∃ T',run o S'=some T'∧(∀ l,W i l→look T' l=look (st (i+1)) l)∧(∀ l,¬W i l→look T' l=look S' l)
theorem Local.keeps (h:Local look run ops st R W) {i:Nat} (hi:i<ops.length) {l:L} (hw:¬W i l):look (st (i+1)) l=look (st i) l:=by
 obtain ⟨T',h1,h2,h3⟩:=h.loc i _ (dL hi) (st i) (fun _ _=>rfl);rw [h.goes i _ (dL hi)] at h1
 cases h1
 exact h3 l hw
theorem Local.since (h:Local look run ops st R W) {l:L} {k:Nat}:∀ m,k+m≤ops.length→(∀ i,k≤i→i<k+m→¬W i l)→look (st (k+m)) l=look (st k) l:=by
 intro m;induction m with
 | zero=>intro _ _;rfl
 | succ m ih =>intro hm hw;have:=h.keeps (i:=k+m) (by omega) (hw _ (by omega) (by omega));rw [← wT,this];exact ih (by omega) fun i h1 h2=>hw i h1 (by omega)
def yK (R W:Nat→L→Prop) (i j:Nat):Prop:=∀ l,¬(W i l∧(R j l∨W j l))∧¬(W j l∧R i l)
theorem Local.perm (h:Local look run ops st R W):∀ (σ done:List Nat) (T:S),(done++σ).Nodup→(∀ i,i<ops.length↔i∈done++σ) →
  (∀ i j,i<j→(i∈σ∧j∈done∨(∃ a b c,σ=a++j::(b++i::c)))→yK R W i j) →
  (∀ l,(∀ i∈done,¬W i l)→look T l=look (st 0) l) →
  (∀ l i,i∈done→W i l→(∀ j∈done,W j l→j≤i)→look T l=look (st (i+1)) l) →
  ∃ T',ytI run (σ.filterMap (ops[·]?)) T=some T'∧∀ l,look T' l=look (st ops.length) l
 | [],done,T,hnd,hall,_,ha,hb=>by
  refine ⟨T,rfl,fun l=>?_⟩;rcases yAG (fun i=>W i l) ops.length with h1 | ⟨i,h1,h2,h3⟩
  ·have:=h.since (l:=l) (k:=0) ops.length (by omega) (fun i _ hi=>h1 i (by omega));rw [kI] at this;rw [this];exact ha l fun i hi=>h1 i ((hall i).2 (by simpa using hi))
  ·have hi:i∈done:=by have:=(hall i).1 h1;simpa using this
   rw [hb l i hi h2 fun j hj hw=>h3 j ((hall j).2 (by simpa using hj)) hw];have:=h.since (l:=l) (k:=i+1) (ops.length-(i+1)) (by omega) (fun j h4 h5 hw=>by have:=h3 j (by omega) hw;omega);rw [show i+1+(ops.length-(i+1))=ops.length by omega] at this;exact this.symm
 | j::σ,done,T,hnd,hall,hfree,ha,hb=>by
  have hj:j<ops.length:=(hall j).2 (by simp);have hjd:j∉done:=by intro hx;rw [List.nodup_append] at hnd;exact hnd.2.2 j hx j (by simp) rfl
  have later:∀ i,i<ops.length→i∉done→i≠j→i∈σ:=by
   intro i hi h1 h2;have:=(hall i).1 hi;simp only [qA8,qAo] at this;rcases this with h3 | h3 | h3
   ·exact absurd h3 h1
   ·exact absurd h3 h2
   ·exact h3
  have freeLate:∀ i,i<j→i∈σ→yK R W i j:=by intro i hij hi;obtain ⟨b,c,e⟩:=List.append_of_mem hi;exact hfree i j hij (.inr ⟨[],b,c,by rw [e];rfl⟩)
  have freeDone:∀ i,j<i→i∈done→yK R W j i:=fun i hij hi=>hfree j i hij (.inl ⟨by simp,hi⟩)
  have agree:∀ l,R j l→look T l=look (st j) l:=by
   intro l hl;have noBig:∀ i∈done,W i l→i<j:=by
    intro i hi hw;rcases qA5 i j with h1 | h1
    ·exact h1
    ·have hne:i≠j:=fun e=>hjd (e ▸ hi)
     exact absurd ⟨hw,hl⟩ (freeDone i (by omega) hi l).2
   rcases yAG (fun i=>W i l) j with h1|⟨i,h1,h2,h3⟩
   ·have:=h.since (l:=l) (k:=0) j (by omega) (fun i _ hi=>h1 i (by omega));rw [kI] at this;rw [this];exact ha l fun i hi hw=>h1 i (noBig i hi hw) hw
   ·have hi:i∈done:=by
     by_cases hd:i∈done
     ·exact hd
     ·exact absurd ⟨h2,.inl hl⟩ (freeLate i h1 (later i (by omega) hd (by omega)) l).1
    rw [hb l i hi h2 fun k hk hw=>h3 k (noBig k hk hw) hw];have:=h.since (l:=l) (k:=i+1) (j-(i+1)) (by omega) (fun k h4 h5 hw=>by have:=h3 k (by omega) hw;omega);rw [show i+1+(j-(i+1))=j by omega] at this;exact this.symm
  obtain ⟨T',h1,h2,h3⟩:=h.loc j _ (dL hj) T agree;have ih:=Local.perm h σ (done++[j]) T' (by simpa using hnd) (fun i=>by rw [hall i];simp) ?_ ?_ ?_
  ·obtain ⟨T2,h4,h5⟩:=ih;refine ⟨T2,?_,h5⟩;rw [GV,dL hj];simp only [ytI,h1];exact h4
  ·intro i k hik hcase;rcases hcase with ⟨hi,hk⟩ | ⟨a,b,c,e⟩
   ·simp only [qA8,oE] at hk;rcases hk with hk | rfl
    ·exact hfree i k hik (.inl ⟨by simp [hi],hk⟩)
    ·exact freeLate i hik hi
   ·exact hfree i k hik (.inr ⟨j::a,b,c,by rw [e];rfl⟩)
  ·intro l hl;rw [h3 l (hl j (by simp))];exact ha l fun i hi=>hl i (by simp [hi])
  ·intro l i hi hw hmax;simp only [qA8,oE] at hi
   by_cases hwj:W j l
   ·have hle:=hmax j (by simp) hwj;rcases hi with hi | rfl
    ·have hne:i≠j:=fun e=>hjd (e ▸ hi)
     exact absurd ⟨hwj,.inr hw⟩ (freeDone i (by omega) hi l).1
    ·exact h2 l hw
   ·rcases hi with hi | rfl
    ·rw [h3 l hwj];exact hb l i hi hw fun k hk hkw=>hmax k (by simp [hk]) hkw
    ·exact absurd hw hwj
end
def xA (o:Oper):List Nat:=o.after.toList.filterMap fun e=>if Region.binds .any e then some e.on else none
theorem E8 {p q:Nat→Bool}:∀ (l:List Nat) (i:Nat),i∈l→p i=true→q i=false→(∀ j,q j=true→p j=true)→l.countP q<l.countP p
 | [],i,h,_,_,_=>by simp at h
 | x::l,i,h,hp,hq,himp=>by
  have hle:l.countP q≤l.countP p:=List.countP_mono_left fun j _=>himp j
  simp only [List.countP_cons];rcases qAo.1 h with rfl | h
  ·rw [hp,hq];simp;omega
  ·have:=E8 l i h hp hq himp
   cases hqx:q x
   ·simp;omega
   ·rw [himp x hqx];simp;exact this
theorem yG5 (ops:Array Oper) (hback:∀ (i:Nat) (o:Oper),ops[i]?=some o→∀ k∈xA o,k<i) :
  ∀ (fuel t:Nat) (listed:Array Bool),listed.size=ops.size→(List.range ops.size).countP (fun i=>!listed.getD i true)≤fuel →
   (∀ i,(i<ops.size∧listed.getD i true=false)↔i∈Region.linearise.go .any ops fuel t listed [])∧(Region.linearise.go .any ops fuel t listed []).Nodup ∧
   ∀ a j b,Region.linearise.go .any ops fuel t listed []=a++j::b→∀ o,ops[j]?=some o→∀ k∈xA o,listed.getD k false=true∨k∈a:=by
 intro fuel;induction fuel with
 | zero =>intro t listed hsz hc;simp only [Region.linearise.go,List.reverse_nil];refine ⟨fun i=>⟨fun ⟨h1,h2⟩=>?_,fun h=>by simp at h⟩,List.nodup_nil,fun a j b e=>by simp at e⟩;have:=List.countP_eq_zero.1 (Nat.le_zero.1 hc) i (by simpa using h1);simp [h2] at this
 | succ fuel ih=>
  intro t listed hsz hc;simp only [Region.linearise.go];change (∀ i,(i<ops.size∧listed.getD i true=false)↔i∈(match (Region.ready .any ops listed)[t%(Region.ready .any ops listed).length]? with
   | some i=>Region.linearise.go .any ops fuel (t/(Region.ready .any ops listed).length) (listed.setIfInBounds i true) [i]
   | none=>[].reverse))∧List.Nodup (match (Region.ready .any ops listed)[t%(Region.ready .any ops listed).length]? with
   | some i=>Region.linearise.go .any ops fuel (t/(Region.ready .any ops listed).length) (listed.setIfInBounds i true) [i]
   | none=>[].reverse)∧∀ a j b,(match (Region.ready .any ops listed)[t%(Region.ready .any ops listed).length]? with
   | some i=>Region.linearise.go .any ops fuel (t/(Region.ready .any ops listed).length) (listed.setIfInBounds i true) [i]
   | none=>[].reverse)=a++j::b→∀ o,ops[j]?=some o→∀ k∈xA o,listed.getD k false=true∨k∈a
  have hready:∀ i,i∈Region.ready .any ops listed↔i<ops.size∧listed.getD i true=false∧∀ o,ops[i]?=some o→∀ k∈xA o,listed.getD k false=true:=by
   intro i;simp only [Region.ready,List.mem_filter,List.mem_range,bZ,lX];refine and_congr_right fun hi=>and_congr_right fun hl=>?_
   have hoi:ops[i]?=some ops[i]:=by simp [hi]
   rw [hoi];simp only [Option.map_some,yA,Array.all_eq_true',sS,lX,cC,forall_eq'];constructor
   ·intro h k hk;simp only [xA,List.mem_filterMap] at hk;obtain ⟨e,he,hk⟩:=hk;split at hk
    ·rename_i hb
     cases hk
     rcases h e (by simpa using he) with h1|h1
     ·rw [hb] at h1;cases h1
     ·exact h1
    ·cases hk
   ·intro h e he
    by_cases hb:Region.binds .any e=true
    ·right;refine h e.on ?_;simp only [xA,List.mem_filterMap];exact ⟨e,by simpa using he,by rw [Tu hb]⟩
    ·left;simpa using hb
  cases hi:(Region.ready .any ops listed)[t%(Region.ready .any ops listed).length]? with
  | none=>
   have hnil:Region.ready .any ops listed=[]:=by
    cases hr:Region.ready .any ops listed with
    | nil=>rfl
    | cons x xs =>rw [hr] at hi;have hlt:t%(x::xs).length<(x::xs).length:=Nat.mod_lt _ (by simp);simp at hi;simp at hlt;omega
   simp only [List.reverse_nil];have none_left:∀ i,¬(i<ops.size∧listed.getD i true=false):=by
    intro i;induction i using Nat.strongRecOn with
    | _ i ihi=>
     rintro ⟨h1,h2⟩;have:i∈Region.ready .any ops listed:=(hready i).2 ⟨h1,h2,fun o ho k hk=>by
      have hki:=hback i o ho k hk;have:=ihi k hki;have hks:k<listed.size:=by omega
      have h3:listed.getD k true=true:=by
       cases h4:listed.getD k true
       ·exact absurd ⟨by omega,h4⟩ this
       ·rfl
      simpa [Array.getD,hks] using h3⟩
     rw [hnil] at this
     cases this
   exact ⟨fun i=>⟨fun h=>(none_left i h).elim,fun h=>by simp at h⟩,List.nodup_nil,fun a j b e=>by simp at e⟩
  | some i=>
   simp only [];rw [linearise_go_acc,List.reverse_singleton,List.singleton_append];have him:=(hready i).1 (List.mem_of_getElem? hi);obtain ⟨hi1,hi2,hi3⟩:=him;have hset:∀ k d,k≠i→(listed.setIfInBounds i true).getD k d=listed.getD k d:=by
    intro k d hk;simp only [Av,Array.getElem?_setIfInBounds];rw [Zv (fun e=>hk e.symm)]
   have hself:∀ d,(listed.setIfInBounds i true).getD i d=true:=by intro d;simp [hsz,hi1]
   have hcount:(List.range ops.size).countP (fun k=>!(listed.setIfInBounds i true).getD k true)≤fuel:=by
    have:=E8 (p:=fun k=>!listed.getD k true) (q:=fun k=>!(listed.setIfInBounds i true).getD k true) (List.range ops.size) i (by simpa using hi1) (by simp [hi2]) (by simp [hself]) (fun j hj=>by
     by_cases e:j=i
     ·subst e;simp [hself] at hj
     ·rw [hset j true e] at hj;exact hj)
    omega
   obtain ⟨h1,h2,h3⟩:=ih (t/(Region.ready .any ops listed).length) (listed.setIfInBounds i true) (by simpa using hsz) hcount;refine ⟨fun k=>?_,?_,?_⟩
   ·rw [qAo,← h1 k]
    by_cases e:k=i
    ·subst e;simp [hi1,hi2]
    ·rw [hset k true e];simp [e]
   ·rw [List.nodup_cons];refine ⟨fun hm=>?_,h2⟩;have:=(h1 i).2 hm;rw [hself] at this
    cases this.2
   ·intro a j b e o ho k hk
    cases a with
    | nil =>simp only [wR,kH] at e;obtain ⟨rfl,_⟩:=e;exact .inl (hi3 o ho k hk)
    | cons x a=>
     simp only [List.cons_append,kH] at e;obtain ⟨rfl,e⟩:=e;rcases h3 a j b e o ho k hk with h4 | h4
     ·by_cases hki:k=i
      ·subst hki;right;simp
      ·rw [hset k false hki] at h4;exact .inl h4
     ·right;simp [h4]
def oN (l:List Nat) (F F':aG):Prop:=∀ s∈l,fget F' s=fget F s
theorem Hu {a b:List Nat} {F F':aG}:oN (a++b) F F'↔oN a F F'∧oN b F F':=by simp only [oN,qA8];exact ⟨fun h=>⟨fun s hs=>h s (.inl hs),fun s hs=>h s (.inr hs)⟩,fun h s hs=>hs.elim (h.1 s) (h.2 s)⟩
section
variable {E:Env} {F F':aG} {H H' H1:Hp} {call:Nat→List PV→Hp→Option (PV×Hp)}
theorem Cd {x:Opd} (h:oN x.slots F F'):ev E F' x=ev E F x:=by
 cases x with
 | t s=>simp only [ev,h s (by simp [Opd.slots])]
 | _=>rfl
theorem gN {x:Opd} (h:oN x.slots F F'):evV E F' x=evV E F x:=by simp only [evV,Cd h]
theorem Ce {x:Opd} (h:oN x.slots F F'):yhE E F' x=yhE E F x:=by simp only [yhE,gN h]
theorem Qi {x:Option Opd} (h:oN (KL x) F F'):pF E F' x=pF E F x:=by
 cases x with
 | none=>rfl
 | some x=>simp only [pF,Ce (show oN x.slots F F' from h)]
theorem Hv:∀ (l:List Opd),oN (AE l) F F'→evs E F' l=evs E F l
 | [],_=>rfl
 | x::r,h=>by simp only [AE,Hu] at h;simp only [evs,gN h.1,Hv r h.2]
theorem E9:∀ (l:List (Nat×Nat×Opd)) (cs:List PV),oN (KM l) F F'→ym6 E F' cs l=ym6 E F cs l
 | [],_,_=>rfl
 | (o,z,x)::r,cs,h=>by
  simp only [KM,Hu] at h;simp only [ym6,gN h.1];split
  ·split
   ·exact E9 r _ h.2
   ·rfl
  ·rfl
theorem Lr {pu:Bool} {esz:Nat}:∀ (l:List (Nat×Opd)) (rows:List PV) (H:Hp),oN (Em l) F F'→yiF E F' pu esz rows H l=yiF E F pu esz rows H l
 | [],_,_,_=>rfl
 | (i,x)::r,rows,H,h=>by
  simp only [Em,Hu] at h;simp only [yiF,gN h.1];split
  ·split
   ·split
    ·exact Lr r _ _ h.2
    ·rfl
   ·rfl
  ·rfl
theorem F3 {x:Opd} {s off:Nat} (h:oN (sW E F x) F F') (e:ev E F x=some (.bp s off)):fget F' s=fget F s:=by apply h;simp [sW,e]
theorem yJj {op:AOp} (h:oN (aW E F H op).rd F F'):yaI E call F' H op=yaI E call F H op:=by
 cases op<;>simp only [aW,Hu] at h<;>simp only [yaI]
 case mv x=>simp only [gN h]
 case mvD x=>simp only [gN h]
 case pick c a b=>simp only [gN h.1,gN h.2.1,gN h.2.2]
 case boxL x=>simp only [gN h]
 case boxH x=>simp only [gN h]
 case build ps=>simp only [E9 _ _ h]
 case bSl ps=>simp only [Lr _ _ _ h]
 case buildN ps=>simp only [Lr _ _ _ h]
 case bD ps=>simp only [Lr _ _ _ h]
 case load agg sz x=>
  rw [Cd h.1];split
  ·rename_i s off e;rw [F3 h.2 e]
  all_goals simp_all
 case store sz x y=>
  rw [gN h.2.1,Cd h.1];split
  ·split
   ·rename_i s off e;rw [F3 h.2.2 e]
   all_goals simp_all
  ·rfl
 case bin x y=>simp only [gN h.1,gN h.2]
 case eqB x y=>simp only [gN h.1,gN h.2]
 case eqA x y=>simp only [gN h.1,gN h.2]
 case eqN x=>simp only [gN h]
 case un x=>simp only [gN h]
 case conv x=>simp only [gN h]
 case mkFn a b=>simp only [Hv _ h.1,Hv _ h.2]
 case mkSl l c=>simp only [Ce h.1,Ce h.2]
 case slc x lo hi mx=>simp only [gN h.1,Qi h.2.1,Qi h.2.2.1,Qi h.2.2.2]
 case slcA x=>simp only [Cd h]
 case fad x=>simp only [Cd h.1]
 case fld x=>simp only [gN h]
 case iad x i=>simp only [gN h.1,Ce h.2]
 case iadA x i=>simp only [Cd h.1,Ce h.2.1]
 case idx x i=>simp only [gN h.1,Ce h.2]
 case ext x i=>simp only [gN h]
 case call f az=>simp only [gN h.1,Hv _ h.2]
 case len x=>simp only [gN h]
 case cap x=>simp only [gN h]
 case app s x=>simp only [gN h.1,gN h.2]
 case appZ s n=>simp only [gN h.1,Ce h.2]
 case clr x=>simp only [gN h]
 case minmax l=>simp only [Hv _ h]
 case nilchk x=>simp only [Cd h.1]
structure EffI (ids:List Nat) (H H1 H' H1':Hp):Prop where
 inn:∀ id∈ids,H1'[id]?=H1[id]?
 out:∀ id,id∉ids→H1[id]?=H[id]?∧H1'[id]?=H'[id]?
 len:H1.length=H.length∧H1'.length=H'.length
theorem EffI.refl {ids:List Nat} (h:∀ id∈ids,H'[id]?=H[id]?):EffI ids H H H' H':=⟨h,fun _ _=>⟨rfl,rfl⟩,rfl,rfl⟩
theorem EffI.trans {ids:List Nat} {H1' H2 H2':Hp} (h:EffI ids H H1 H' H1') (k:EffI ids H1 H2 H1' H2'):EffI ids H H2 H' H2':=
 ⟨k.inn,fun id hi=>⟨(k.out id hi).1.trans (h.out id hi).1,(k.out id hi).2.trans (h.out id hi).2⟩,k.len.1.trans h.len.1,k.len.2.trans h.len.2⟩
theorem EffI.mono {ids ids':List Nat} {H1':Hp} (h:EffI ids H H1 H' H1') (hs:∀ id∈ids,id∈ids') (ha:∀ id∈ids',H'[id]?=H[id]?):EffI ids' H H1 H' H1':=by
 refine ⟨fun id hi=>?_,fun id hi=>h.out id (fun hx=>hi (hs id hx)),h.len⟩
 by_cases hx:id∈ids
 ·exact h.inn id hx
 ·rw [(h.out id hx).1,(h.out id hx).2];exact ha id hi
theorem EffI.set {ids:List Nat} {id:Nat} {b:HB} (ha:∀ i∈ids,H'[i]?=H[i]?) (hi:id∈ids):EffI ids H (H.set id b) H' (H'.set id b):=by
 refine ⟨fun k hk=>?_,fun k hk=>?_,by simp,by simp⟩
 ·rw [GX,GX];have hlen:id<H'.length↔id<H.length:=by
   have:=ha id hi;constructor<;>intro h1
   ·rcases qA5 id H.length with h2 | h2
    ·exact h2
    ·rw [iX h2,dL h1] at this;cases this
   ·rcases qA5 id H'.length with h2 | h2
    ·exact h2
    ·rw [iX h2,dL h1] at this;cases this
  split
  ·simp only [hlen]
  ·exact ha k hk
 ·have hne:id≠k:=fun e=>hk (e ▸ hi)
  rw [qZ hne,qZ hne];exact ⟨rfl,rfl⟩
theorem Qj {p q:PV} (ha:∀ id∈fJ p,H'[id]?=H[id]?) (h:yga H p=some (q,H1)):∃ H1',yga H' p=some (q,H1')∧EffI (fJ p) H H1 H' H1':=by
 cases p<;>simp only [yga] at h ⊢ <;> first
  | (simp only [cC,Prod.mk.injEq] at h;obtain ⟨rfl,rfl⟩:=h;exact ⟨_,rfl,EffI.refl ha⟩)
  | (cases h;done)
  | skip
 case own id lo len ext cap=>
  have hid:=ha id (by simp [fJ]);rw [hid];split at h
  ·rename_i b hb;split at h
   ·rename_i hc
    cases h
    exact ⟨_,Tu hc,EffI.set ha (by simp [fJ])⟩
   ·cases h
  ·cases h
theorem F4:∀ (l ps:List PV) (H H' H1:Hp),(∀ id∈mM l,H'[id]?=H[id]?)→yeY H l=some (ps,H1)→∃ H1',yeY H' l=some (ps,H1')∧EffI (mM l) H H1 H' H1'
 | [],ps,H,H',H1,ha,h=>by simp only [yeY,cC,Prod.mk.injEq] at h;obtain ⟨rfl,rfl⟩:=h;exact ⟨_,rfl,EffI.refl ha⟩
 | x::r,ps,H,H',H1,ha,h=>by
  simp only [yeY] at h;split at h
  ·rename_i y H2 hy;split at h
   ·rename_i ys H3 hys
    cases h
    have ha1:∀ id∈fJ x,H'[id]?=H[id]?:=fun id hi=>ha id (by simp [mM,hi])
    obtain ⟨H2',e2,k2⟩:=Qj ha1 hy;have k2':EffI (mM (x::r)) H H2 H' H2':=k2.mono (fun id hi=>by simp [mM,hi]) ha;obtain ⟨H3',e3,k3⟩:=F4 r ys H2 H2' _ (fun id hi=>k2'.inn id (by simp [mM,hi])) hys;refine ⟨H3',by simp only [yeY,e2,e3],k2'.trans (k3.mono (fun id hi=>by simp [mM,hi]) k2'.inn)⟩
   ·cases h
  ·cases h
theorem EC {p q:PV} (ha:∀ id∈dA p,H'[id]?=H[id]?) (h:ycy H p=some (q,H1)):∃ H1',ycy H' p=some (q,H1')∧EffI (dA p) H H1 H' H1':=by
 cases p with
 | agg cs=>
  simp only [ycy,qV] at h ⊢;obtain ⟨⟨ys,H2⟩,hys,e⟩:=h
  cases e
  obtain ⟨H1',e1,k⟩:=F4 cs ys H H' _ ha hys;exact ⟨H1',⟨⟨ys,H1'⟩,e1,rfl⟩,k⟩
 | _=>simp only [dA] at ha ⊢;simp only [ycy] at h ⊢;exact Qj ha h
theorem F5:∀ (l ps:List PV) (H2:Hp),fY l=[]→yby [] l=some (ps,H2)→∀ H,yby H l=some (ps,H)
 | [],ps,H2,_,h,H=>by simp only [yby,cC,Prod.mk.injEq] at h;obtain ⟨rfl,_⟩:=h;rfl
 | x::r,ps,H2,hi,h,H=>by
  simp only [fY,List.append_eq_nil_iff] at hi;simp only [yby] at h;split at h
  ·rename_i y H3 hy;split at h
   ·rename_i ys H4 hys
    cases h
    have hp:∀ H,ycy H x=some (y,H):=by
     intro H;obtain ⟨H5,e5,k5⟩:=EC (H':=H) (fun id hx=>by rw [hi.1] at hx;cases hx) hy;have:H5=H:=sP fun k=>(k5.out k (by rw [hi.1];simp)).2
     rw [e5,this]
    have h3:H3=[]:=by have:=hp [];rw [hy] at this;cases this;rfl
    subst h3;simp only [yby,hp H,F5 r ys _ hi.2 hys H]
   ·cases h
  ·cases h
structure Eff (p:FP) (H H1 H' H1':Hp):Prop where
 all:p.all=true→H1'=H1
 inn:p.all=false→∀ id∈p.hw,H1'[id]?=H1[id]?
 out:p.all=false→∀ id,id∉p.hw→H1[id]?=H[id]?∧H1'[id]?=H'[id]?
 push:p.push=true→H1'.length=H1.length
 len:p.push=false→p.all=false→H1.length=H.length∧H1'.length=H'.length
structure AgH (p:FP) (H H':Hp):Prop where
 ids:∀ id,id∈p.hr∨id∈p.hw→H'[id]?=H[id]?
 push:p.push=true→H'.length=H.length
 all:p.all=true→H'=H
theorem Eff.same {p:FP} (ha:AgH p H H'):Eff p H H H' H':=
 ⟨fun h=>ha.all h,fun _ id hi=>ha.ids id (.inr hi),fun _ _ _=>⟨rfl,rfl⟩,fun h=>ha.push h,fun _ _=>⟨rfl,rfl⟩⟩
theorem Eff.ofI {p:FP} {H1':Hp} (hall:p.all=false) (ha:AgH p H H') (k:EffI p.hw H H1 H' H1'):Eff p H H1 H' H1':=
 ⟨fun h=>(by rw [hall] at h;cases h),fun _=>k.inn,fun _=>k.out,fun h=>by rw [k.len.1,k.len.2];exact ha.push h,fun _ _=>k.len⟩
theorem Eff.pushI {p:FP} {H1':Hp} {b:HB} (hall:p.all=false) (hp:p.push=true) (hlen:H.length∈p.hw) (ha:AgH p H H') (k:EffI p.hw H H1 H' H1'):Eff p H (H1++[b]) H' (H1'++[b]):=by
 have hl:=ha.push hp;obtain ⟨l1,l2⟩:=k.len;refine ⟨fun h=>(by rw [hall] at h;cases h),fun _ id hi=>?_,fun _ id hi=>?_,fun _=>by simp [l1,l2,hl],fun h=>(by rw [hp] at h;cases h)⟩
 ·rw [qY,qY,l1,l2,hl];split
  ·exact k.inn id hi
  ·rfl
 ·have hne:id≠H.length:=fun e=>hi (e ▸ hlen)
  obtain ⟨h1,h2⟩:=k.out id hi;rw [qY,qY,l1,l2,hl]
  by_cases hlt:id<H.length
  ·rw [Tu hlt,Tu hlt];exact ⟨h1,h2⟩
  ·rw [Zv hlt,Zv hlt];have e1:[b][id-H.length]?=none:=iX (by simp;omega);rw [e1,iX (l:=H) (by omega),iX (l:=H') (by omega)];exact ⟨rfl,rfl⟩
theorem Lt {pu:Bool} {esz:Nat}:∀ (l:List (Nat×Opd)) (rows rows':List PV) (H H' H1:Hp),(∀ id∈oJ E F l,H'[id]?=H[id]?)→yiF E F pu esz rows H l=some (rows',H1) →
  ∃ H1',yiF E F pu esz rows H' l=some (rows',H1')∧EffI (oJ E F l) H H1 H' H1'
 | [],rows,rows',H,H',H1,ha,h=>by simp only [yiF,cC,Prod.mk.injEq] at h;obtain ⟨rfl,rfl⟩:=h;exact ⟨_,rfl,EffI.refl ha⟩
 | (i,x)::r,rows,rows',H,H',H1,ha,h=>by
  simp only [yiF] at h ⊢;split at h
  ·rename_i p hp;have hids:mF E F x=dA p:=by
    unfold evV at hp;split at hp
    ·rename_i q hq;cases hp;simp [mF,hq]
    ·cases hp
   have key:∀ {q H2},(if pu then ycy H p else some (p,H))=some (q,H2)→∃ H2',(if pu then ycy H' p else some (p,H'))=some (q,H2')∧EffI (oJ E F ((i,x)::r)) H H2 H' H2':=by
    intro q H2 hq
    cases pu
    ·simp only [kG,if_false,cC,Prod.mk.injEq] at hq ⊢;obtain ⟨rfl,rfl⟩:=hq;exact ⟨H',⟨rfl,rfl⟩,EffI.refl ha⟩
    ·simp only [if_true] at hq ⊢;obtain ⟨H2',e,k⟩:=EC (H':=H') (fun id hi=>ha id (by simp [oJ,hids,hi])) hq;exact ⟨H2',e,k.mono (fun id hi=>by simp [oJ,hids,hi]) ha⟩
   split at h
   ·rename_i q H2 hq;split at h
    ·rename_i hc;obtain ⟨H2',e2,k2⟩:=key hq;obtain ⟨H3',e3,k3⟩:=Lt r _ rows' H2 H2' H1 (fun id hi=>k2.inn id (by simp [oJ,hi])) h;refine ⟨H3',?_,k2.trans (k3.mono (fun id hi=>by simp [oJ,hi]) k2.inn)⟩;rw [e2];simp only [hc];exact e3
    ·cases h
   ·cases h
  ·cases h
theorem AN {x:Opd} {p:PV} (h:evV E F x=some p):mF E F x=dA p:=by
 unfold evV at h;split at h
 ·rename_i q hq;cases h;simp [mF,hq]
 ·cases h
theorem yJk {p:PV} (ha:∀ id∈dA p,H'[id]?=H[id]?):yh0 H' p=yh0 H p:=by
 cases p<;>simp only [yh0]
 case own id lo len ext cap=>rw [ha id (by simp [dA,fJ])]
theorem yLc {p:PV} {pu:Bool} (ha:∀ id∈dA p,H'[id]?=H[id]?):sU H' pu p=sU H pu p:=by
 cases p<;>simp only [sU]
 case own id lo len ext cap=>rw [ha id (by simp [dA,fJ])]
theorem yJl {p:PV} {esz:Nat} {lo hi mx:Option Int} (ha:∀ id∈dA p,H'[id]?=H[id]?):yjR H' esz lo hi mx p=yjR H esz lo hi mx p:=by
 cases p<;>simp only [yjR]
 case own id lo0 len ext cap=>rw [ha id (by simp [dA,fJ])]
theorem Lu {p:FP} {pu:Bool} {esz bytes:Nat} {rows:List PV} {r:PV} (hall:p.all=false) (hp:p.push=true) (hlen:H.length∈p.hw) (ha:AgH p H H') (h:ydm H pu esz bytes rows=some (r,H1)) :
  ∃ H1',ydm H' pu esz bytes rows=some (r,H1')∧Eff p H H1 H' H1':=by
 unfold ydm at h ⊢;split at h
 ·rename_i hc
  cases h
  rw [Tu hc,ha.push hp];exact ⟨_,rfl,Eff.pushI hall hp hlen ha (EffI.refl fun id hi=>ha.ids id (.inr hi))⟩
 ·cases h
theorem yNQ {p:FP} {pu:Bool} {esz bytes k:Nat} {z s r:PV} (hall:p.all=false) (hp:p.push=true) (hlen:H.length∈p.hw) (ha:AgH p H H') (h:appZ H pu esz bytes z s k=some (r,H1)) :
  ∃ H1',appZ H' pu esz bytes z s k=some (r,H1')∧Eff p H H1 H' H1':=by
 unfold appZ at h ⊢;split at h
 ·split at h
  ·rename_i he;cases h;rw [Tu he];exact ⟨_,rfl,Eff.same ha⟩
  ·rename_i he;rw [Zv he];exact Lu hall hp hlen ha h
 ·cases h
theorem yNR {p:FP} {pu:Bool} {esz:Nat} {z s:PV} (hall:p.all=false) (hs:∀ id∈dA s,id∈p.hw) (ha:AgH p H H') (h:clrV H pu esz z s=some H1) :
  ∃ H1',clrV H' pu esz z s=some H1'∧Eff p H H1 H' H1':=by
 unfold clrV at h ⊢;split at h
 ·cases h;exact ⟨_,rfl,Eff.same ha⟩
 ·cases h;exact ⟨_,rfl,Eff.same ha⟩
 ·cases h;exact ⟨_,rfl,Eff.same ha⟩
 ·rename_i id lo len ext cap;have hm:id∈p.hw:=hs id (by simp [dA,fJ]);split at h
  ·cases h;exact ⟨_,rfl,Eff.same ha⟩
  ·rw [ha.ids id (.inr hm)];split at h
   ·rename_i b hb;split at h
    ·rename_i hc
     cases h
     rw [Tu hc];exact ⟨_,rfl,Eff.ofI hall ha (EffI.set (fun k hk=>ha.ids k (.inr hk)) hm)⟩
    ·cases h
   ·cases h
 ·cases h
theorem yNS {p:FP} {pu:Bool} {esz bytes:Nat} {s x r:PV} (hall:p.all=false) (hp:p.push=true) (hlen:H.length∈p.hw) (hs:∀ id∈dA s,id∈p.hw) (hx:∀ id∈dA x,id∈p.hw) (ha:AgH p H H') (h:appV H pu esz bytes s x=some (r,H1)) :
  ∃ H1',appV H' pu esz bytes s x=some (r,H1')∧Eff p H H1 H' H1':=by
 have has:∀ id∈dA s,H'[id]?=H[id]?:=fun id hi=>ha.ids id (.inr (hs id hi))
 have hax:∀ id∈dA x,H'[id]?=H[id]?:=fun id hi=>ha.ids id (.inr (hx id hi))
 unfold appV at h ⊢;rw [yJk hax,yLc hax];split at h
 ·cases h
 ·rename_i ys hys;split at h
  ·rename_i hc;rw [Tu hc]
   cases s with
   | nils=>
    simp only [] at h ⊢;split at h
    ·rename_i he;cases h;rw [Tu he];exact ⟨_,rfl,Eff.same ha⟩
    ·rename_i he;rw [Zv he];exact Lu hall hp hlen ha h
   | emp=>
    simp only [] at h ⊢;split at h
    ·rename_i he;cases h;rw [Tu he];exact ⟨_,rfl,Eff.same ha⟩
    ·rename_i he;rw [Zv he];exact Lu hall hp hlen ha h
   | own id lo len ext cap=>
    simp only [] at h ⊢;rw [has id (by simp [dA,fJ])];split at h
    ·rename_i b hb;split at h
     ·rename_i hc2;rw [Tu hc2];split at h
      ·rename_i he;cases h;rw [Tu he];exact ⟨_,rfl,Eff.same ha⟩
      ·rename_i he;rw [Zv he];have hset:∀ b',Eff p H (H.set id b') H' (H'.set id b'):=fun b'=>Eff.ofI hall ha (EffI.set (fun k hk=>ha.ids k (.inr hk)) (hs id (by simp [dA,fJ])))
       unfold oH at h ⊢;split at h
       ·split at h
        ·rename_i h1;split at h
         ·rename_i h2;cases h;rw [Tu h1,Tu h2];exact ⟨_,rfl,hset _⟩
         ·cases h
        ·rename_i h1;rw [Zv h1];exact Lu hall hp hlen ha h
       ·split at h
        ·cases h
        ·rename_i h1;rw [Zv h1];split at h
         ·rename_i h2;cases h;rw [Tu h2];exact ⟨_,rfl,hset _⟩
         ·rename_i h2;split at h
          ·rename_i h3;cases h;rw [Zv h2,Tu h3];exact ⟨_,rfl,hset _⟩
          ·cases h
     ·cases h
    ·cases h
   | _=>simp only [] at h;cases h
  ·cases h
theorem tI {p:PV} {out:Out} (h:outV p H=some out):out=⟨some (.v p),none,H⟩:=by simp only [outV,cC] at h;exact h.symm
theorem F6 {p:PV} {id:Nat} (h:id∈fJ p):id∈dA p:=by cases p<;>first | exact h | simp [fJ] at h
theorem nO {p:FP} {x:PV} {out:Out} (ha:AgH p H H') (h:outV x H=some out):∃ H1',outV x H'=some ⟨out.x,out.bx,H1'⟩∧Eff p H out.h H' H1':=by rw [tI h];exact ⟨H',rfl,Eff.same ha⟩
theorem F7 {v:PV} {p:Nat×PV} (hv:locY v=some p):∀ (l:List PV) (j:Nat),l[j]?=some v→fY l≠[]
 | [],j,e=>by simp at e
 | x::r,0,e=>by
  simp at e;subst e
  cases x<;>simp [locY] at hv<;>simp [fY,dA,fJ]
 | x::r,j+1,e=>by simp at e;simp only [fY];intro h;exact F7 hv r j e (List.append_eq_nil_iff.1 h).2
theorem F8 {n:Nat} {first captured av:List PV} (h:fY (first++av++captured)=[]):yuA E (.fn (.func n) first captured) av=none:=by
 unfold yuA;simp only
 cases E.lo n with
 | none=>rfl
 | some j=>
  simp only;split
  ·rename_i hj;split
   ·rename_i hy;exact absurd h (F7 hy _ _ hj)
   ·rfl
  ·rfl
theorem yJo {f:Opd} {az:List Opd} {fv:PV} {av:List PV} {r:PV} {H1:Hp} (hq:wW E F f az=true) (hf:evV E F f=some fv) (hav:evs E F az=some av) (hc:ym7 E call fv av H=some (r,H1)):H1=H∧∀ H',ym7 E call fv av H'=some (r,H'):=by
 unfold wW at hq;rw [hf,hav] at hq;split at hq
 ·rename_i n first captured vs h1 h2
  cases h1;cases h2
  simp only [bZ,List.isEmpty_iff,sS,lX] at hq;obtain ⟨hrb,hi,hs⟩:=hq;have key:∃ ps H2,yby [] (first++av++captured)=some (ps,H2)∧∃ r',yeZ E call n ps=some r':=by
   rcases hs with hs|hs
   ·simp only [ym7,F8 hi,sV,hrb,kG,if_false] at hc;split at hc
    ·rename_i x hx;split at hx
     ·rename_i az' H3 hp;split at hx
      ·rename_i r' hr';have:∃ H2,yby [] (first++av++captured)=some (az',H2):=by
        have hgo:∀ (l ps:List PV) (H H2:Hp),fY l=[]→yby H l=some (ps,H2)→∃ H3,yby [] l=some (ps,H3):=by
         intro l;induction l with
         | nil=>intro ps H H2 _ e;simp only [yby,cC,Prod.mk.injEq] at e;exact ⟨[],by simp [yby,e.1]⟩
         | cons x r ih=>
          intro ps H H2 hi e;simp only [fY,List.append_eq_nil_iff] at hi;simp only [yby] at e;split at e
          ·rename_i y H4 hy;split at e
           ·rename_i ys H5 hys
            cases e
            obtain ⟨H6,e6,k6⟩:=EC (H':=[]) (fun id hx=>by rw [hi.1] at hx;cases hx) hy;have h6:H6=[]:=Au (by rw [k6.len.2];rfl);subst h6;obtain ⟨H7,e7⟩:=ih ys _ _ hi.2 hys;exact ⟨H7,by simp only [yby,e6,e7]⟩
           ·cases e
          ·cases e
        exact hgo _ _ _ _ hi hp
       obtain ⟨H2,h2⟩:=this;exact ⟨az',H2,h2,r',hr'⟩
      ·cases hx
     ·cases hx
    ·rw [Tu hs] at hc;cases hc
   ·split at hs
    ·rename_i ps H2 hp;obtain ⟨r',hr'⟩:=Ec.1 hs;exact ⟨ps,H2,hp,r',by simp only [yeZ,hr']⟩
    ·cases hs
  obtain ⟨ps,H2,hp,r',hr'⟩:=key;have all:∀ H,ym7 E call (.fn (.func n) first captured) av H=some (r',H):=by
   intro H;have:=F5 _ _ _ hi hp H;simp only [ym7,F8 hi,sV,hrb,kG,if_false,this,hr']
   cases r'.scalar<;>rfl
  rw [all H] at hc
  cases hc
  exact ⟨rfl,all⟩
 ·cases hq
theorem yLd {op:AOp} {out:Out} (ha:AgH (aW E F H op) H H') (h:yaI E call F H op=some out):∃ H1',yaI E call F H' op=some ⟨out.x,out.bx,H1'⟩∧Eff (aW E F H op) H out.h H' H1':=by
 have single:∀ {x bx},out=⟨x,bx,H⟩→(∃ H1',(some ⟨x,bx,H'⟩:Option Out)=some ⟨out.x,out.bx,H1'⟩∧Eff (aW E F H op) H out.h H' H1'):=by rintro x bx rfl;exact ⟨H',rfl,Eff.same ha⟩
 have shut:∀ {o:Out},some o=some out→o=out:=fun e=>by cases e;rfl
 cases op
 case aH pu esz z=>
  simp only [yaI,cC] at h ⊢;subst h;have hl:=ha.push rfl;rw [hl];exact ⟨_,rfl,Eff.pushI rfl rfl (by simp [aW]) ha (EffI.refl fun id hi=>ha.ids id (.inr hi))⟩
 case boxH pu esz x=>
  simp only [yaI] at h ⊢;split at h
  ·rename_i p hp;have hids:=AN hp;have key:∀ {q H2},(if pu then ycy H p else some (p,H))=some (q,H2)→∃ H2',(if pu then ycy H' p else some (p,H'))=some (q,H2')∧EffI (aW E F H (.boxH pu esz x)).hw H H2 H' H2':=by
    intro q H2 hq
    cases pu
    ·simp only [kG,if_false,cC,Prod.mk.injEq] at hq ⊢;obtain ⟨rfl,rfl⟩:=hq;exact ⟨H',⟨rfl,rfl⟩,EffI.refl fun id hi=>ha.ids id (.inr hi)⟩
    ·simp only [if_true] at hq ⊢;obtain ⟨H2',e,k⟩:=EC (H':=H') (fun id hi=>ha.ids id (.inr (by simp [aW,hids,hi]))) hq;exact ⟨H2',e,k.mono (fun id hi=>by simp [aW,hids,hi]) fun id hi=>ha.ids id (.inr hi)⟩
   split at h
   ·rename_i q H2 hq;split at h
    ·rename_i hc
     cases h
     obtain ⟨H2',e2,k2⟩:=key hq;have hl:=ha.push rfl;rw [e2];simp only [];rw [Tu hc];have:H2'.length=H2.length:=by rw [k2.len.1,k2.len.2,hl]
     rw [this];exact ⟨_,rfl,Eff.pushI rfl rfl (by simp [aW]) ha k2⟩
    ·cases h
   ·cases h
  ·cases h
 case bSl pu esz z len ps=>
  simp only [yaI] at h ⊢;split at h
  ·rename_i hz;rw [Tu hz];exact nO ha h
  ·rename_i hz;rw [Zv hz];have hw:(aW E F H (.bSl pu esz z len ps)).hw=H.length::oJ E F ps:=by simp [aW,hz]
   have hpush:(aW E F H (.bSl pu esz z len ps)).push=true:=by simp [aW,hz]
   split at h
   ·rename_i rows H2 hf;rw [tI h];obtain ⟨H2',e2,k2⟩:=Lt _ _ _ _ H' _ (fun id hi=>ha.ids id (.inr (by rw [hw];simp [hi]))) hf;have hl:=ha.push hpush;rw [e2];have:H2'.length=H2.length:=by rw [k2.len.1,k2.len.2,hl]
    simp only [this];exact ⟨_,rfl,Eff.pushI rfl hpush (by rw [hw];simp) ha (k2.mono (fun id hi=>by rw [hw];simp [hi]) fun id hi=>ha.ids id (.inr hi))⟩
   ·cases h
 case buildN pu esz z len ps=>
  simp only [yaI] at h ⊢;split at h
  ·rename_i hz;rw [Tu hz];exact nO ha h
  ·rename_i hz;rw [Zv hz];have hw:(aW E F H (.buildN pu esz z len ps)).hw=H.length::oJ E F ps:=by simp [aW,hz]
   have hpush:(aW E F H (.buildN pu esz z len ps)).push=true:=by simp [aW,hz]
   split at h
   ·rename_i rows H2 hf;rw [tI h];obtain ⟨H2',e2,k2⟩:=Lt _ _ _ _ H' _ (fun id hi=>ha.ids id (.inr (by rw [hw];simp [hi]))) hf;have hl:=ha.push hpush;rw [e2];have:H2'.length=H2.length:=by rw [k2.len.1,k2.len.2,hl]
    simp only [this];exact ⟨_,rfl,Eff.pushI rfl hpush (by rw [hw];simp) ha (k2.mono (fun id hi=>by rw [hw];simp [hi]) fun id hi=>ha.ids id (.inr hi))⟩
   ·cases h
 case mvD x=>
  simp only [yaI] at h ⊢;split at h
  ·rename_i p hp;have hids:=AN hp;split at h
   ·rename_i rows H2 hq;rw [tI h];obtain ⟨H2',e,k⟩:=Qj (H':=H') (fun id hi=>ha.ids id (.inr (by simpa [aW,hids] using F6 hi))) hq;rw [e];exact ⟨_,rfl,Eff.ofI rfl ha (k.mono (fun id hi=>by simpa [aW,hids] using F6 hi) fun id hi=>ha.ids id (.inr hi))⟩
   ·cases h
  ·cases h
 case bD esz z len ps=>
  simp only [yaI] at h ⊢;split at h
  ·rename_i hz;rw [Tu hz];exact nO ha h
  ·rename_i hz;rw [Zv hz];split at h
   ·rename_i rows H2 hf;rw [tI h];obtain ⟨H2',e2,k2⟩:=Lt _ _ _ _ H' _ (fun id hi=>ha.ids id (.inr (by simpa [aW] using hi))) hf;rw [e2];exact ⟨_,rfl,Eff.ofI rfl ha (k2.mono (fun id hi=>by simpa [aW] using hi) fun id hi=>ha.ids id (.inr hi))⟩
   ·cases h
 case mkSl pu esz bytes z l c=>
  simp only [yaI] at h ⊢;split at h
  ·split at h
   ·rename_i hc;rw [Tu hc,tI h,ha.push rfl];exact ⟨_,rfl,Eff.pushI rfl rfl (by simp [aW]) ha (EffI.refl fun id hi=>ha.ids id (.inr hi))⟩
   ·cases h
  ·cases h
 case load agg sz x=>
  simp only [yaI] at h ⊢;split at h
  ·split at h
   ·split at h
    ·exact nO ha h
    ·cases h
   ·cases h
  ·split at h
   ·split at h
    ·exact nO ha h
    ·cases h
   ·cases h
  ·rename_i id ext i off he;have hid:H'[id]?=H[id]?:=ha.ids id (.inl (by simp [aW,mF,he,dA,fJ]));rw [hid];split at h
   ·split at h
    ·rename_i hc;rw [Tu hc];split at h
     ·split at h
      ·exact nO ha h
      ·cases h
     ·cases h
    ·cases h
   ·cases h
  ·cases h
 case store sz x y=>
  simp only [yaI] at h ⊢;split at h
  ·rename_i p hp;split at h
   ·split at h
    ·split at h
     ·exact single (shut h).symm
     ·cases h
    ·cases h
   ·rename_i id ext i off he;have hidm:id∈(aW E F H (.store sz x y)).hw:=by simp [aW,mF,he,dA,fJ]
    have hid:H'[id]?=H[id]?:=ha.ids id (.inr hidm);rw [hid];split at h
    ·rename_i b0 hb0;have hids:=AN hp;have key:∀ {q H2},(if b0.pu then ycy H p else some (p,H))=some (q,H2)→∃ H2',(if b0.pu then ycy H' p else some (p,H'))=some (q,H2')∧EffI (aW E F H (.store sz x y)).hw H H2 H' H2':=by
      intro q H2 hq
      by_cases hpu:b0.pu=true
      case neg=>
       rw [Zv hpu] at hq ⊢;simp only [cC,Prod.mk.injEq] at hq ⊢;obtain ⟨rfl,rfl⟩:=hq;exact ⟨H',⟨rfl,rfl⟩,EffI.refl fun id hi=>ha.ids id (.inr hi)⟩
      case pos=>
       rw [Tu hpu] at hq ⊢;obtain ⟨H2',e,k⟩:=EC (H':=H') (fun id hi=>ha.ids id (.inr (by simp [aW,hids,hi]))) hq;exact ⟨H2',e,k.mono (fun id hi=>by simp [aW,hids,hi]) fun id hi=>ha.ids id (.inr hi)⟩
     split at h
     ·rename_i q H2 hq;obtain ⟨H2',e2,k2⟩:=key hq;rw [e2];simp only [];rw [k2.inn id hidm];split at h
      ·rename_i b hb;split at h
       ·rename_i hc;rw [Tu hc];split at h
        ·split at h
         ·cases h
          exact ⟨_,rfl,Eff.ofI rfl ha (k2.trans (EffI.set k2.inn hidm))⟩
         ·cases h
        ·cases h
       ·cases h
      ·cases h
     ·cases h
    ·cases h
   ·cases h
  ·cases h
 case slc esz x lo hi mx=>
  simp only [yaI] at h ⊢;split at h
  ·rename_i p l hh m hp _ _ _;split at h
   ·cases h
   ·rename_i hc;rw [Zv hc,yJl (fun id hi=>ha.ids id (.inl (by simp [aW,AN hp,hi])))];split at h
    ·exact nO ha h
    ·cases h
  ·cases h
 case iad esz x i=>
  simp only [yaI] at h ⊢;split at h
  ·split at h
   ·rename_i hc;rw [Tu hc];split at h
    ·split at h
     ·rename_i hc2;rw [Tu hc2];exact nO ha h
     ·cases h
    ·cases h
   ·cases h
  ·rename_i id lo len ext cap n hp hn;have hid:H'[id]?=H[id]?:=ha.ids id (.inl (by simp [aW,AN hp,dA,fJ]));split at h
   ·rename_i hc;rw [Tu hc,hid];split at h
    ·split at h
     ·rename_i hc2;rw [Tu hc2];exact nO ha h
     ·cases h
    ·cases h
   ·cases h
  ·split at h
   ·rename_i hc;rw [Tu hc];exact nO ha h
   ·cases h
  ·cases h
 case call f az=>
  by_cases hq:wW E F f az=true
  ·simp only [yaI] at h ⊢;split at h
   ·rename_i fv av hf hav;split at h
    ·rename_i r H2 hc;obtain ⟨rfl,hr⟩:=yJo hq hf hav hc;rw [hr];exact nO ha h
    ·cases h
   ·cases h
  ·have hall:(aW E F H (.call f az)).all=true:=by simp [aW,hq]
   have:=ha.all hall;subst this;exact ⟨out.h,h,⟨fun _=>rfl,fun e=>(by rw [hall] at e;cases e),fun e=>(by rw [hall] at e;cases e),fun _=>rfl,fun _ e=>(by rw [hall] at e;cases e)⟩⟩
 case app pu esz bytes s x=>
  simp only [yaI] at h ⊢;split at h
  ·rename_i sv xv hs hx;split at h
   ·rename_i r H2 hap;obtain ⟨H2',e2,k2⟩:=yNS (H':=H') (p:=aW E F H (.app pu esz bytes s x)) rfl rfl (by simp [aW]) (fun id hi=>by simp [aW,AN hs,hi]) (fun id hi=>by simp [aW,AN hx,hi]) ha hap;rw [e2,tI h];exact ⟨_,rfl,k2⟩
   ·cases h
  ·cases h
 case appZ pu esz bytes z s n=>
  simp only [yaI] at h ⊢;split at h
  ·rename_i sv k hs hn;split at h
   ·rename_i h0;rw [Tu h0];split at h
    ·rename_i r H2 hap;obtain ⟨H2',e2,k2⟩:=yNQ (H':=H') (p:=aW E F H (.appZ pu esz bytes z s n)) rfl rfl (by simp [aW]) ha hap;rw [e2,tI h];exact ⟨_,rfl,k2⟩
    ·cases h
   ·cases h
  ·cases h
 case clr pu esz z x=>
  simp only [yaI] at h ⊢;split at h
  ·rename_i sv hs;split at h
   ·rename_i H2 hap;obtain ⟨H2',e2,k2⟩:=yNR (H':=H') (p:=aW E F H (.clr pu esz z x)) rfl (fun id hi=>by simp [aW,AN hs,hi]) ha hap;rw [e2,tI h];exact ⟨_,rfl,k2⟩
   ·cases h
  ·cases h
 case bad=>simp [yaI] at h
 case eqB neg x y=>
  simp only [yaI] at h ⊢;split at h
  ·exact nO ha h
  ·cases h
 case eqA neg sz idx x y=>
  simp only [yaI] at h ⊢;split at h
  ·split at h
   ·rename_i hc;rw [Tu hc];split at h
    ·exact nO ha h
    ·cases h
   ·cases h
  ·cases h
 case idx agg n esz x i=>
  simp only [yaI] at h ⊢;split at h
  ·split at h
   ·rename_i hc;rw [Tu hc];split at h
    ·exact nO ha h
    ·cases h
   ·cases h
  ·cases h
 case eqN neg x=>
  simp only [yaI] at h ⊢;split at h<;>first | exact nO ha h | cases h
 all_goals
  simp only [yaI] at h ⊢
  repeat' split at h
 all_goals first
  | (cases h;done)
  | exact nO ha h
  | exact single (shut h).symm
  | (rename_i hc;rw [Tu hc];first | exact nO ha h | exact single (shut h).symm)
  | skip
theorem yQZ (op:AOp) (H H':Hp):(aW E F H op).rd=(aW E F H' op).rd:=by cases op<;>rfl
theorem F9 {op:AOp} {out:Out} {s:Nat} {row:PV} (h:yaI E call F H op=some out) (hb:out.bx=some (s,row)):s∈(aW E F H op).wr∧∃ row0,fget F s=some (.box row0):=by
 have hv:∀ {p:PV} {H},outV p H=some out→False:=fun e=>by rw [tI e] at hb;cases hb
 cases op<;>simp only [yaI] at h
 case store sz x y=>
  split at h
  ·split at h
   ·rename_i s' off e;split at h
    ·rename_i row0 hrow;split at h
     ·cases h
      simp only [cC,Prod.mk.injEq] at hb;obtain ⟨rfl,_⟩:=hb;exact ⟨by simp [aW,sW,e],row0,hrow⟩
     ·cases h
    ·cases h
   all_goals (repeat' split at h)
   all_goals first | (cases h;done) | (cases h;cases hb;done)
  ·cases h
 all_goals (repeat' split at h)
 all_goals first | (cases h;done) | exact (hv h).elim | (cases h;cases hb;done)
theorem ySH (op:AOp) (s:Nat) (h:s∈(aW E F H op).wr):s∈(aW E F H op).rd:=by
 cases op<;>simp only [aW] at h ⊢ <;> first | (cases h;done) | skip
 simp [h]
theorem Qk {x:Opd} {s off:Nat} (h:ev E F x=some (.bp s off)):(∃ row,fget F s=some (.box row))∨noBp F s=false:=by
 cases x with
 | t k=>
  simp only [ev] at h;split at h
  ·rename_i row hrow
   cases h
   exact .inl ⟨row,hrow⟩
  ·right;have key:∀ F:aG,fget F k=some (.bp s off)→noBp F s=false:=by
    intro F;induction F with
    | nil=>intro e;simp [fget] at e
    | cons a r ih=>
     obtain ⟨j,x⟩:=a;intro e;simp only [fget] at e;split at e
     ·cases e;simp [noBp]
     ·have:=ih e
      cases x<;>simp [noBp,this]
   exact key F h
 | c v=>simp [ev] at h
 | g n=>simp only [ev] at h;split at h<;>simp at h
 | f n=>simp [ev] at h
theorem yPh {op:AOp} {out:Out} {s off:Nat} (h:yaI E call F H op=some out) (hb:out.x=some (.bp s off)):(∃ row,fget F s=some (.box row))∨noBp F s=false:=by
 have hv:∀ {p:PV} {H},outV p H=some out→False:=fun e=>by rw [tI e] at hb;cases hb
 cases op<;>simp only [yaI] at h
 case fad o x=>
  split at h
  ·rename_i s' o' e
   cases h
   simp only [cC,FV.bp.injEq] at hb;obtain ⟨rfl,_⟩:=hb;exact Qk e
  all_goals first | exact (hv h).elim | cases h
 case iadA n esz x i=>
  split at h
  ·rename_i s' o' j e _;split at h
   ·cases h
    simp only [cC,FV.bp.injEq] at hb;obtain ⟨rfl,_⟩:=hb;exact Qk e
   ·cases h
  all_goals (repeat' split at h)
  all_goals first | exact (hv h).elim | cases h
 case nilchk x=>
  split at h
  ·rename_i s' o' e
   cases h
   simp only [cC,FV.bp.injEq] at hb;obtain ⟨rfl,_⟩:=hb;exact Qk e
  all_goals first | exact (hv h).elim | cases h
 all_goals (repeat' split at h)
 all_goals first | (cases h;done) | exact (hv h).elim | (cases h;cases hb;done)
theorem yNT {o:AO} {out:Out} {row:PV} (h:yaI E call F H o.op=some out) (hb:out.x=some (.box row)):yvu o=o.dst∧out.bx=none:=by
 have hv:∀ {p:PV} {H},outV p H=some out→False:=fun e=>by rw [tI e] at hb;cases hb
 unfold yvu
 cases hop:o.op<;>rw [hop] at h<;>simp only [yaI] at h
 case aL z=>cases h;exact ⟨rfl,rfl⟩
 case boxL x=>
  split at h
  ·split at h
   ·cases h;exact ⟨rfl,rfl⟩
   ·cases h
  ·cases h
 all_goals (repeat' split at h)
 all_goals first | (cases h;done) | exact (hv h).elim | (cases h;cases hb;done)
end
end Go.Pf
namespace Go.Pf
open Go Go.RowKit
section
variable {E:Env} {F F':aG} {H H' H1:Hp} {call:Nat→List PV→Hp→Option (PV×Hp)}
theorem yNU {dst:Option Nat} {x:Option FV} {F1:aG} (h:yiG F dst x=some F1) (hb:∀ row d,x=some (.box row)→dst=some d→noBp F d=true):yeq F dst x=some F1:=by
 cases dst with
 | none=>cases x with
  | none=>exact h
  | some fv=>cases fv<;>exact h
 | some d=>cases x with
  | none=>exact h
  | some fv=>
   cases fv with
   | box row=>simp only [yeq];rw [yKV _ _ (hb row d rfl rfl)];exact h
   | _=>exact h
inductive Loc where
 | sl (s:Nat)
 | bk (id:Nat)
 | len
inductive LV where
 | f (x:Option FV)
 | b (x:Option HB)
 | n (k:Nat)
def look (S:aG×Hp):Loc→LV
 | .sl s=>.f (fget S.1 s)
 | .bk id=>.b S.2[id]?
 | .len=>.n S.2.length
def RdP (p:FP):Loc→Prop
 | .sl s=>s∈p.rd
 | .bk id=>id∈p.hr∨id∈p.hw∨p.all=true
 | .len=>p.push=true∨p.all=true
def WrP (p:FP):Loc→Prop
 | .sl s=>s∈p.wr
 | .bk id=>id∈p.hw∨p.all=true
 | .len=>p.push=true∨p.all=true
theorem G4 {gd:Option (Nat×Bool)} (h:oN (En gd) F F'):yen F' gd=yen F gd:=by
 cases gd with
 | none=>rfl
 | some x =>obtain ⟨s,want⟩:=x;simp only [yen,h s (by simp [En])]
theorem Ql (F:aG) (bx:Option (Nat×PV)) (k:Nat):fget (kK F bx) k=match bx with | some (s,row)=>if k=s then some (.box row) else fget F k | none=>fget F k:=by
 cases bx with
 | none=>rfl
 | some x=>obtain ⟨s,row⟩:=x;simp only [kK,uM]
theorem G5 {o:AO} {S1:aG×Hp} (h:yk7 E call o (F,H)=some S1) (S':aG×Hp) (hag:∀ l,RdP (yf1 E F H o) l→look S' l=look (F,H) l) :
  ∃ T',yk7 E call o S'=some T'∧(∀ l,WrP (yf1 E F H o) l→look T' l=look S1 l)∧(∀ l,¬WrP (yf1 E F H o) l→look T' l=look S' l):=by
 obtain ⟨F',H'⟩:=S';have hF:oN (yf1 E F H o).rd F F':=fun s hs=>by
  have:=hag (.sl s) hs;simpa [look] using this
 unfold yk7 at h ⊢;simp only [] at h ⊢;unfold yf1 at hag hF ⊢;split at h
 ·cases h
 ·-- the guard says no
  rename_i hg;rw [hg] at hag hF ⊢;simp only [] at hag hF ⊢;rw [G4 hF,hg];simp only []
  cases hd:o.dst with
  | none=>
   rw [hd] at h
   cases h
   exact ⟨_,rfl,fun l hl=>by cases l<;>simp [WrP] at hl,fun _ _=>rfl⟩
  | some d=>
   rw [hd] at h
   cases h
   refine ⟨_,rfl,fun l hl=>?_,fun l hl=>?_⟩
   ·cases l<;>simp [WrP] at hl
    subst hl;simp [look,uM]
   ·cases l with
    | sl s =>simp [WrP] at hl;simp [look,uM,hl]
    | _=>rfl
 ·rename_i hg;rw [hg] at hag hF ⊢;simp only [] at hag hF ⊢;rw [Hu] at hF;rw [G4 hF.1,hg];simp only [];split at h
  ·cases h
  ·rename_i out x bx H2 hout;simp only [qV] at h;obtain ⟨F1,hput,e⟩:=h;subst e;have hall:(aW E F H o.op).all=true→H'=H:=fun ha=>sP fun k=>by
    have:=hag (.bk k) (.inr (.inr ha));simpa [look] using this
   have hH:AgH (aW E F H o.op) H H':=by
    refine ⟨fun id hid=>?_,fun hp=>?_,hall⟩
    ·have:=hag (.bk id) (hid.elim .inl fun x=>.inr (.inl x));simpa [look] using this
    ·have:=hag .len (.inl hp);simpa [look] using this
   obtain ⟨H2',h1,h2⟩:=yLd hH hout;have h3:yaI E call F' H' o.op=some ⟨x,bx,H2'⟩:=by
    rw [yJj (F:=F) (H:=H') (by rw [yQZ o.op H' H];exact hF.2)];exact h1
   rw [h3];simp only [];have hput':∃ F1',yiG (kK F' bx) o.dst x=some F1'∧(∀ s,s∈o.dst.toList++(aW E F H o.op).wr→fget F1' s=fget F1 s)∧(∀ s,s∉o.dst.toList++(aW E F H o.op).wr→fget F1' s=fget F' s):=by
    have hbx:∀ s row,bx=some (s,row)→s∈(aW E F H o.op).wr:=fun s row e=>(F9 hout e).1
    have hin:∀ s,s∈(aW E F H o.op).wr→fget (kK F' bx) s=fget (kK F bx) s:=by
     intro s hs;rw [Ql,Ql];have:=hF.2 s (ySH _ _ hs)
     cases bx with
     | none=>exact this
     | some y=>obtain ⟨s',row⟩:=y;simp only [this]
    have hnin:∀ s,s∉(aW E F H o.op).wr→fget (kK F' bx) s=fget F' s:=by
     intro s hs;rw [Ql]
     cases bx with
     | none=>rfl
     | some y=>
      obtain ⟨s',row⟩:=y;simp only [];have hne:¬s=s':=fun e=>hs (e ▸ hbx s' row rfl)
      rw [Zv hne]
    cases hdst:o.dst with
    | none=>
     rw [hdst] at hput;have hx:∀ G:aG,yiG G none x=some G:=by
      cases x with
      | none=>intro G;rfl
      | some fv=>cases fv with
       | box row=>simp [yiG] at hput
       | _=>intro G;rfl
     rw [hx] at hput
     cases hput
     refine ⟨_,hx _,fun s hs=>hin s (by simpa using hs),fun s hs=>hnin s (by simpa using hs)⟩
    | some d=>
     rw [hdst] at hput;have key:∀ (G:aG),∃ G1,yiG G (some d) x=some G1∧fget G1 d=x∧∀ s,s≠d→fget G1 s=fget G s:=by
      intro G
      cases x with
      | none=>exact ⟨_,rfl,by simp [BW],fun s hs=>by simp [BW,hs]⟩
      | some fv=>exact ⟨_,rfl,by simp [uM],fun s hs=>by simp [uM,hs]⟩
     obtain ⟨G1,k1,k2,k3⟩:=key (kK F bx);rw [k1] at hput
     cases hput
     obtain ⟨G2,k4,k5,k6⟩:=key (kK F' bx);refine ⟨G2,k4,fun s hs=>?_,fun s hs=>?_⟩
     ·by_cases e:s=d
      ·subst e;rw [k2,k5]
      ·rw [k6 s e,k3 s e];simp only [Option.toList_some,qA8,oE,e,false_or] at hs;exact hin s hs
     ·simp only [Option.toList_some,qA8,oE,not_or] at hs;rw [k6 s hs.1];exact hnin s hs.2
   obtain ⟨F1',e1,e2,e3⟩:=hput';rw [e1];refine ⟨(F1',H2'),rfl,fun l hl=>?_,fun l hl=>?_⟩
   ·cases l with
    | sl s=>simp only [WrP] at hl;simp only [look,e2 s hl]
    | bk id=>
     simp only [WrP] at hl;simp only [look];rcases hl with hl | hl
     ·cases ha:(aW E F H o.op).all
      ·rw [h2.inn ha id hl]
      ·rw [h2.all ha]
     ·rw [h2.all hl]
    | len=>
     simp only [WrP] at hl;simp only [look];rcases hl with hl | hl
     ·rw [h2.push hl]
     ·rw [h2.all hl]
   ·cases l with
    | sl s=>simp only [WrP] at hl;simp only [look,e3 s hl]
    | bk id =>simp only [WrP,not_or] at hl;simp only [look];rw [(h2.out (by simpa using hl.2) id hl.1).2]
    | len =>simp only [WrP,not_or] at hl;simp only [look];rw [(h2.len (by simpa using hl.1) (by simpa using hl.2)).2]
theorem yQ0 {f g:Fn} (h:uI f g=true):f=g:=by
 unfold uI at h;split at h
 ·rw [eq_of_beq h]
 ·rw [eq_of_beq h]
 ·exact of_decide_eq_true h
theorem yNV (f:Fn):uI f f=true:=by
 cases f<;>simp [uI]
mutual
theorem yPi:∀ (x:PV),jW x x=true
 | .bool _ | .int _ _ | .nilp | .nils | .emp | .nilf | .mt _ | .ptr _ _ _ _ | .own _ _ _ _ _ | .sub _ _ _ _ _ _=>by simp [jW]
 | .eptr r _ _=>by simp [jW,AP r]
 | .data r=>by simp [jW,AP r]
 | .agg r=>by simp [jW,AP r]
 | .tup r=>by simp [jW,AP r]
 | .fn f a b=>by simp [jW,yNV f,AP a,AP b]
theorem AP:∀ (x:List PV),iN x x=true
 | []=>rfl
 | x::r=>by simp [iN,yPi x,AP r]
end
theorem yNW (b:HB):uJ b b=true:=by simp [uJ,AP]
theorem Qm:∀ (i:Nat) (H H1:Hp),H1.length=H.length→∀ id,H1[id]?=H[id]?→i+id∉dG i H H1
 | i,[],[],_,id,_=>by simp [dG]
 | i,a::r,b::s,hl,id,h=>by
  have hl':s.length=r.length:=by simpa using hl
  have hin:∀ (k:Nat) (H H1:Hp) (x:Nat),x∈dG k H H1→k≤x:=by
   intro k H;induction H generalizing k with
   | nil=>
    intro H1;induction H1 generalizing k with
    | nil=>intro x hx;simp [dG] at hx
    | cons _ s ih=>
     intro x hx;simp only [dG,qAo] at hx;rcases hx with rfl | hx
     ·exact cJ _
     ·have:=ih (k+1) x hx;omega
   | cons a r ih=>
    intro H1 x hx
    cases H1 with
    | nil=>
     simp only [dG,qAo] at hx;rcases hx with rfl | hx
     ·exact cJ _
     ·have:=ih (k+1) [] x hx;omega
    | cons b s=>
     simp only [dG] at hx;split at hx
     ·have:=ih (k+1) s x hx;omega
     ·simp only [qAo] at hx;rcases hx with rfl | hx
      ·exact cJ _
      ·have:=ih (k+1) s x hx;omega
  cases id with
  | zero =>simp only [GT,cC] at h;subst h;simp only [dG,yNW,if_true];intro hm;have:=hin _ _ _ _ hm;omega
  | succ id=>
   have h2:s[id]?=r[id]?:=by simpa using h
   have:=Qm (i+1) r s hl' id h2;rw [show i+1+id=i+(id+1) by omega] at this;simp only [dG];split
   ·exact this
   ·simp only [qAo,not_or];exact ⟨by omega,this⟩
 | i,[],_::_,hl,_,_=>by simp at hl
 | i,_::_,[],hl,_,_=>by simp at hl
mutual
theorem yR5:∀ (x y:PV),jW x y=true→x=y
 | .bool a,y,h=>by cases y<;>simp [jW] at h;rw [h]
 | .int k a,y,h=>by cases y<;>simp [jW] at h;rw [h.1,h.2]
 | .nilp,y,h=>by cases y<;>simp [jW] at h;rfl
 | .nils,y,h=>by cases y<;>simp [jW] at h;rfl
 | .emp,y,h=>by cases y<;>simp [jW] at h;rfl
 | .nilf,y,h=>by cases y<;>simp [jW] at h;rfl
 | .mt a,y,h=>by cases y<;>simp [jW] at h;rw [h]
 | .ptr ..,y,h=>by cases y<;>simp [jW] at h;rw [h.1,h.2.1,h.2.2.1,h.2.2.2]
 | .own ..,y,h=>by cases y<;>simp [jW] at h;rw [h.1,h.2.1,h.2.2.1,h.2.2.2.1,h.2.2.2.2]
 | .sub ..,y,h=>by cases y<;>simp [jW] at h;rw [h.1,h.2.1,h.2.2.1,h.2.2.2.1,h.2.2.2.2.1,h.2.2.2.2.2]
 | .eptr r i o,y,h=>by cases y<;>simp [jW] at h;rw [AQ _ _ h.1,h.2.1,h.2.2]
 | .data a,y,h=>by cases y<;>simp only [jW,kG] at h;rw [AQ _ _ h]
 | .agg a,y,h=>by cases y<;>simp only [jW,kG] at h;rw [AQ _ _ h]
 | .tup a,y,h=>by cases y<;>simp only [jW,kG] at h;rw [AQ _ _ h]
 | .fn f a b,y,h=>by
  cases y with
  | fn f' a' b' =>simp only [jW,bZ] at h;rw [yQ0 h.1,AQ _ _ h.2.1,AQ _ _ h.2.2]
  | _=>simp [jW] at h
theorem AQ:∀ (x y:List PV),iN x y=true→x=y
 | [],y,h=>by cases y<;>simp [iN] at h;rfl
 | x::a,y,h=>by
  cases y with
  | nil=>simp [iN] at h
  | cons z b =>simp only [iN,bZ] at h;rw [yR5 _ _ h.1,AQ _ _ h.2]
end
theorem yQ1 {a b:HB} (h:uJ a b=true):a=b:=by obtain ⟨f1,p1,e1,r1⟩:=a;obtain ⟨f2,p2,e2,r2⟩:=b;simp only [uJ,bZ,beq_iff_eq] at h;obtain ⟨h1,h2,h3,h4⟩:=h;rw [h1,h2,h3,AQ _ _ h4]
theorem Lv:∀ (i:Nat) (H H1:Hp) (id:Nat),i+id∉dG i H H1→H1[id]?=H[id]?
 | _,[],[],id,_=>rfl
 | i,a::r,b::s,id,h=>by
  simp only [dG] at h
  cases id with
  | zero=>
   split at h
   ·rename_i e;simp [yQ1 e]
   ·simp at h
  | succ id=>
   have:i+1+id∉dG (i+1) r s:=by
    rw [show i+1+id=i+(id+1) by omega];split at h
    ·exact h
    ·exact fun hm=>h (fC _ hm)
   simpa using Lv (i+1) r s id this
 | i,_::r,[],id,h=>by
  simp only [dG] at h
  cases id with
  | zero=>simp at h
  | succ id=>
   have:i+1+id∉dG (i+1) r []:=by rw [show i+1+id=i+(id+1) by omega];exact fun hm=>h (fC _ hm)
   simpa using Lv (i+1) r [] id this
 | i,[],_::s,id,h=>by
  simp only [dG] at h
  cases id with
  | zero=>simp at h
  | succ id=>
   have:i+1+id∉dG (i+1) [] s:=by rw [show i+1+id=i+(id+1) by omega];exact fun hm=>h (fC _ hm)
   simpa using Lv (i+1) [] s id this
theorem yJr {o:AO} {S1:aG×Hp} (h:yk7 E call o (F,H)=some S1) (S':aG×Hp) (hag:∀ l,RdP ((yf1 E F H o).tight H S1.2) l→look S' l=look (F,H) l) :
  ∃ T',yk7 E call o S'=some T'∧(∀ l,WrP ((yf1 E F H o).tight H S1.2) l→look T' l=look S1 l)∧(∀ l,¬WrP ((yf1 E F H o).tight H S1.2) l→look T' l=look S' l):=by
 unfold FP.tight at hag ⊢
 cases ha:(yf1 E F H o).all with
 | false =>rw [ha] at hag;simp only [kG,if_false] at hag ⊢;exact G5 h S' hag
 | true=>
  rw [ha] at hag;simp only [if_true] at hag ⊢;have hlen:S'.2.length=H.length:=by
   have:=hag .len (.inl rfl);simpa [look] using this
  have hbk:∀ id:Nat,S'.2[id]?=H[id]?:=by
   intro id
   by_cases hid:id<H.length
   ·have:=hag (.bk id) (.inl (List.mem_range.2 hid));simpa [look] using this
   ·rw [iX (by omega),iX (by omega)]
  obtain ⟨T',h1,h2,h3⟩:=G5 h S' fun l hl=>by
   cases l with
   | sl s=>exact hag (.sl s) hl
   | bk id=>simp [look,hbk id]
   | len=>simp [look,hlen]
  refine ⟨T',h1,fun l hl=>?_,fun l hl=>?_⟩
  ·cases l with
   | sl s=>exact h2 (.sl s) hl
   | bk id=>exact h2 (.bk id) (.inr ha)
   | len=>exact h2 .len (.inr ha)
  ·cases l with
   | sl s=>exact h3 (.sl s) hl
   | bk id=>
    have e1:=h2 (.bk id) (.inr ha);have hn:id∉dG 0 H S1.2:=fun hm=>hl (.inl hm)
    have e2:=Lv 0 H S1.2 id (by rw [kI];exact hn);rw [e1];simp only [look];rw [e2,hbk id]
   | len=>exact absurd (.inl rfl) hl
def stAt (E:Env) (call:Nat→List PV→Hp→Option (PV×Hp)):List AO→Nat→aG×Hp→aG×Hp
 | [],_,S=>S
 | _::_,0,S=>S
 | o::r,i+1,S=>match yk7 E call o S with
  | some S'=>stAt E call r i S'
  | none=>S
theorem G6:∀ (l:List AO) (F:aG) (H:Hp) (F':aG) (H':Hp) (ps:List FP),yr2 E call l F H=some (F',H',ps) →
  ps.length=l.length∧stAt E call l 0 (F,H)=(F,H)∧stAt E call l l.length (F,H)=(F',H') ∧
  ∀ (i:Nat) (o:AO),l[i]?=some o→yk7 E call o (stAt E call l i (F,H))=some (stAt E call l (i+1) (F,H))∧ps[i]?=some ((yf1 E (stAt E call l i (F,H)).1 (stAt E call l i (F,H)).2 o).tight (stAt E call l i (F,H)).2 (stAt E call l (i+1) (F,H)).2)
 | [],F,H,F',H',ps,h=>by simp only [yr2,cC,Prod.mk.injEq] at h;obtain ⟨rfl,rfl,rfl⟩:=h;exact ⟨rfl,rfl,rfl,fun i o e=>by simp at e⟩
 | o::r,F,H,F',H',ps,h=>by
  simp only [yr2] at h;split at h
  ·rename_i F1 H1 hs;split at h
   ·rename_i F2 H2 ps' hr
    cases h
    obtain ⟨h1,h2,h3,h4⟩:=G6 r F1 H1 F' H' ps' hr;have hs':yk7 E call o (F,H)=some (F1,H1):=hs;refine ⟨by simp [h1],rfl,by simp only [eR,stAt,hs'];exact h3,fun i o' e=>?_⟩
    cases i with
    | zero=>
     simp only [GT,cC] at e;subst e;have e0:stAt E call (o::r) 0 (F,H)=(F,H):=rfl;have e1:stAt E call (o::r) (0+1) (F,H)=(F1,H1):=by simp only [stAt,hs'];exact h2
     rw [e0,e1];exact ⟨hs',rfl⟩
    | succ i=>
     simp only [KJ] at e;obtain ⟨h5,h6⟩:=h4 i o' e;have e1:∀ k,stAt E call (o::r) (k+1) (F,H)=stAt E call r k (F1,H1):=fun k=>by simp only [stAt,hs']
     rw [e1,e1];exact ⟨h5,by simpa using h6⟩
   ·cases h
  ·cases h
theorem AR {a b:List Nat} (h:kU a b=false):∀ s∈a,s∉b:=by
 induction a with
 | nil=>intro s hs;simp at hs
 | cons x r ih=>
  simp only [kU,Aw] at h;intro s hs;rcases qAo.1 hs with rfl | hs
  ·intro hb;have:=h.1;simp [hb] at this
  ·exact ih h.2 s hs
theorem yEP {p q:FP} (h:wX p q=false):∀ l,¬(WrP p l∧(RdP q l∨WrP q l))∧¬(WrP q l∧RdP p l):=by
 simp only [wX,Aw] at h;obtain ⟨⟨⟨⟨⟨⟨⟨⟨h1,h2⟩,h3⟩,h4⟩,h5⟩,h6⟩,h7⟩,h8⟩,h9⟩:=h;have heapyP:p.heapy=false↔p.push=false∧p.all=false∧p.hr=[]∧p.hw=[]:=by
  simp [FP.heapy,and_assoc]
 have heapyQ:q.heapy=false↔q.push=false∧q.all=false∧q.hr=[]∧q.hw=[]:=by simp [FP.heapy,and_assoc]
 intro l
 cases l with
 | sl s=>
  refine ⟨fun ⟨a,b⟩=>?_,fun ⟨a,b⟩=>AR h3 s a b⟩;rcases b with b | b
  ·exact AR h1 s a b
  ·exact AR h2 s a b
 | bk id=>
  have pall:p.all=true→q.push=false∧q.all=false∧q.hr=[]∧q.hw=[]:=fun e=>by rw [e] at h4;exact heapyQ.1 (by simpa using h4)
  have qall:q.all=true→p.push=false∧p.all=false∧p.hr=[]∧p.hw=[]:=fun e=>by rw [e] at h5;exact heapyP.1 (by simpa using h5)
  constructor
  ·rintro ⟨a,b⟩;simp only [WrP,RdP] at a b;rcases a with a | a
   ·rcases b with (b | b | b) | (b | b)
    ·exact AR h7 id a b
    ·exact AR h8 id a b
    ·have:=(qall b).2.2.2;rw [this] at a;cases a
    ·exact AR h8 id a b
    ·have:=(qall b).2.2.2;rw [this] at a;cases a
   ·obtain ⟨q1,q2,q3,q4⟩:=pall a;rcases b with (b | b | b) | (b | b)
    ·rw [q3] at b;cases b
    ·rw [q4] at b;cases b
    ·rw [q2] at b;cases b
    ·rw [q4] at b;cases b
    ·rw [q2] at b;cases b
  ·rintro ⟨a,b⟩;simp only [WrP,RdP] at a b;rcases a with a | a
   ·rcases b with b | b | b
    ·exact AR h9 id a b
    ·exact AR h8 id b a
    ·have:=(pall b).2.2.2;rw [this] at a;cases a
   ·obtain ⟨q1,q2,q3,q4⟩:=qall a;rcases b with b | b | b
    ·rw [q3] at b;cases b
    ·rw [q4] at b;cases b
    ·rw [q2] at b;cases b
 | len=>
  have pall:p.all=true→q.push=false∧q.all=false:=fun e=>by rw [e] at h4;have:=heapyQ.1 (by simpa using h4);exact ⟨this.1,this.2.1⟩
  have qall:q.all=true→p.push=false∧p.all=false:=fun e=>by rw [e] at h5;have:=heapyP.1 (by simpa using h5);exact ⟨this.1,this.2.1⟩
  have hpp:p.push=true→q.push=true→False:=fun a b=>by rw [a,b] at h6;cases h6
  have both:WrP p .len→WrP q .len→False:=by
   simp only [WrP];rintro (a | a) (b | b)
   ·exact hpp a b
   ·have:=(qall b).1;rw [a] at this;cases this
   ·have:=(pall a).1;rw [b] at this;cases this
   ·have:=(pall a).2;rw [b] at this;cases this
  exact ⟨fun ⟨a,b⟩=>both a (b.elim id id),fun ⟨a,b⟩=>both b a⟩
theorem G7 {ps:List FP}:∀ (pairs:List (Nat×Nat)),ylW ps pairs=true→∀ i j,(i,j)∈pairs→∃ p q,ps[i]?=some p∧ps[j]?=some q∧wX p q=false
 | [],_,i,j,h=>by simp at h
 | (a,b)::r,h,i,j,hm=>by
  simp only [ylW,bZ] at h;rcases qAo.1 hm with e | hm
  ·cases e
   have h1:=h.1;split at h1
   ·rename_i p q hp hq;exact ⟨p,q,hp,hq,by simpa using h1⟩
   ·cases h1
  ·exact G7 r h.2 i j hm
theorem Lw {d k:Nat} {x:FV}:∀ (F:aG),noBp F d=true→(∀ off,x≠.bp d off)→noBp (dF F k x) d=true
 | [],_,hx=>by
  cases x with
  | bp s off=>simp only [dF,noBp,BR,lX,beq_eq_false_iff_ne];exact fun e=>hx off (by rw [e])
  | _=>simp [dF,noBp]
 | (j,y)::r,h,hx=>by
  have hy:noBp r d=true∧∀ (z:FV),noBp ((j,z)::r) d=(match z with | .bp s _=>!(s==d)&&noBp r d | _=>noBp r d):=by
   refine ⟨?_,fun z=>by cases z<;>rfl⟩
   cases y<;>simp [noBp] at h<;>first | exact h | exact h.2
  have hput:∀ (j:Nat) (r:aG),noBp r d=true→noBp ((j,x)::r) d=true:=by
   intro j r hr
   cases x with
   | bp s off =>simp only [noBp,hr,BR,lX,beq_eq_false_iff_ne];exact fun e=>hx off (by rw [e])
   | _=>simpa [noBp] using hr
  simp only [dF];split
  ·exact hput _ _ h
  ·split
   ·exact hput _ _ hy.1
   ·have ih:=Lw (k:=k) r hy.1 hx
    cases y<;>simp [noBp] at h ⊢ <;> first | exact ih | exact ⟨h.1,ih⟩
theorem G8 {d:Nat}:∀ {l:List AO} {o:AO},o∈l→o.dst=some d→1≤yD d l
 | x::r,o,h,hd=>by
  simp only [yD];rcases qAo.1 h with rfl | h
  ·simp [hd]
  ·have:=G8 h hd;omega
theorem G9:∀ (l:List AO) (F:aG) (H:Hp) (T:aG×Hp),ytI (yk7 E call) l (F,H)=some T →
  (∀ o∈l,∀ d,yvu o=some d→noBp F d=true∧fget F d=none∧yD d l=1)→mY E call l F H=some T
 | [],F,H,T,h,_=>by simpa [ytI,mY] using h
 | o::r,F,H,T,h,hf=>by
  simp only [ytI] at h;split at h
  ·rename_i S1 hs;obtain ⟨F1,H1⟩:=S1;have hboth:yjS E call F H o=some (F1,H1)∧∀ d,noBp F d=true→fget F d=none→o.dst≠some d→noBp F1 d=true∧fget F1 d=none:=by
    unfold yk7 at hs;simp only [] at hs;unfold yjS;split at hs
    ·cases hs
    ·rename_i hg;refine ⟨hs,fun d h1 h2 h3=>?_⟩
     cases hdst:o.dst with
     | none=>rw [hdst] at hs;cases hs;exact ⟨h1,h2⟩
     | some d' =>rw [hdst] at hs;cases hs;refine ⟨Lw _ h1 (fun off e=>by cases e),?_⟩;rw [uM,Zv (fun e=>h3 (by rw [hdst,e]))];exact h2
    ·rename_i hg;split at hs
     ·cases hs
     ·rename_i out x bx H2 hout;simp only [qV] at hs ⊢;obtain ⟨F2,hp,e⟩:=hs;refine ⟨⟨F2,yNU hp fun row d hx hd=>?_,e⟩,fun d h1 h2 h3=>?_⟩
      ·obtain ⟨hb1,hb2⟩:=yNT hout hx;have hb2':bx=none:=hb2;rw [hb2'];exact (hf o (by simp) d (hb1.trans hd)).1
      ·cases e
       have hbx:noBp (kK F bx) d=true∧fget (kK F bx) d=none:=by
        cases bx with
        | none=>exact ⟨h1,h2⟩
        | some y=>
         obtain ⟨s,row⟩:=y;obtain ⟨_,row0,hrow0⟩:=F9 hout rfl;have hne:d≠s:=fun e=>by rw [e,hrow0] at h2;cases h2
         refine ⟨Lw _ h1 (fun off e=>by cases e),?_⟩;simp only [kK,uM,Zv hne];exact h2
       have hxbp:∀ off,x≠some (.bp d off):=by
        intro off e;rcases yPh hout e with ⟨row,hr⟩ | hr
        ·rw [hr] at h2;cases h2
        ·rw [hr] at h1;cases h1
       cases hdst:o.dst with
       | none=>
        rw [hdst] at hp
        cases x with
        | none=>simp only [yiG,cC] at hp;subst hp;exact hbx
        | some fv=>cases fv<;>simp only [yiG,cC] at hp<;>first | (subst hp;exact hbx) | cases hp
       | some d'=>
        have hne:d≠d':=fun e=>h3 (by rw [hdst,e])
        rw [hdst] at hp
        cases x with
        | none =>simp only [yiG,cC] at hp;subst hp;exact ⟨GZ _ hbx.1,by rw [BW,Zv hne];exact hbx.2⟩
        | some fv =>simp only [yiG,cC] at hp;subst hp;exact ⟨Lw _ hbx.1 (fun off e=>hxbp off (by rw [e])),by rw [uM,Zv hne];exact hbx.2⟩
   obtain ⟨hstep,hkeep⟩:=hboth;simp only [mY,hstep];refine G9 r F1 H1 T h fun o' ho' d hd=>?_
   obtain ⟨h1,h2,h3⟩:=hf o' (by simp [ho']) d hd;have hdst:o'.dst=some d:=by
    unfold yvu at hd;split at hd<;>first | exact hd | cases hd
   have hpos:=G8 ho' hdst;simp only [yD] at h3;have hne:o.dst≠some d:=by intro e;rw [Tu e] at h3;omega
   rw [Zv hne] at h3;obtain ⟨h4,h5⟩:=hkeep d h1 h2 hne;exact ⟨h4,h5,by omega⟩
  ·cases h
theorem H8 {all:List AO}:∀ (l:List AO),Eo F all l=true→∀ o∈l,∀ d,yvu o=some d→noBp F d=true∧fget F d=none∧yD d all=1
 | [],_,o,h,_,_=>by simp at h
 | x::r,h,o,ho,d,hd=>by
  simp only [Eo,bZ] at h;rcases qAo.1 ho with rfl | ho
  ·have h1:=h.1;rw [hd] at h1;simp only [bZ,Option.isNone_iff_eq_none,beq_iff_eq] at h1;exact ⟨h1.1.1,h1.1.2,h1.2⟩
  ·exact H8 r h.2 o ho d hd
theorem H9 (d:Nat) (l:List AO):yD d l=l.countP (fun o=>o.dst==some d):=by
 induction l with
 | nil=>rfl
 | cons o r ih=>
  simp only [yD,List.countP_cons,ih]
  by_cases h:o.dst=some d
  ·simp [h];omega
  ·simp [h]
end
theorem I0 (o:Oper):yH o=xA o:=by
 unfold yH xA;congr 1
 funext e
 unfold Region.binds
 cases e.ground<;>simp
def ED (es acc:List Nat) (s:Nat):Nat:=es.foldl (fun s i=>s|||2 ^ i|||acc.getD i 0) s
theorem yF1 (acc:List Nat) (b:Nat):∀ (es:List Nat) (s:Nat),(ED es acc s).testBit b=true→s.testBit b=true∨∃ i∈es,b=i∨(acc.getD i 0).testBit b=true
 | [],s,h=>.inl h
 | i::r,s,h=>by
  have h':(ED r acc (s|||2 ^ i|||acc.getD i 0)).testBit b=true:=h;rcases yF1 acc b r _ h' with h1 | ⟨j,h1,h2⟩
  ·rw [Nat.testBit_or,Nat.testBit_or,sS,sS] at h1;rcases h1 with (h1 | h1) | h1
   ·exact .inl h1
   ·right;rw [Nat.testBit_two_pow] at h1;exact ⟨i,by simp,.inl (by simpa using (of_decide_eq_true h1).symm)⟩
   ·exact .inr ⟨i,by simp,.inr h1⟩
  ·exact .inr ⟨j,by simp [h1],h2⟩
theorem Qn:∀ (l:List Oper) (acc:List Nat),(oL l acc).length=acc.length+l.length
 | [],acc=>by simp [oL]
 | o::r,acc=>by simp only [oL];rw [Qn r];simp;omega
theorem Qo:∀ (l:List Oper) (acc:List Nat) (e:Nat),e<acc.length→(oL l acc).getD e 0=acc.getD e 0
 | [],acc,e,_=>rfl
 | o::r,acc,e,h=>by simp only [oL];rw [Qo r _ e (by simp;omega)];simp [qY,h]
theorem I1:∀ (l:List Oper) (acc:List Nat) (k:Nat) (o:Oper),l[k]?=some o→∃ acc',(oL l acc).getD (acc.length+k) 0=ED (yH o) acc' 0∧∀ e,(acc'.getD e 0≠0→e<acc.length+k)∧(e<acc.length+k→acc'.getD e 0=(oL l acc).getD e 0)
 | [],acc,k,o,h=>by simp at h
 | x::r,acc,k,o,h=>by
  cases k with
  | zero=>
   simp only [GT,cC] at h;subst h;refine ⟨acc,?_,fun e=>⟨fun hne=>?_,fun he=>(Qo _ acc e (by simpa using he)).symm⟩⟩
   ·simp only [oL,wU];rw [Qo r _ acc.length (by simp)];simp [ED]
   ·rcases qA5 e acc.length with h1 | h1
    ·simpa using h1
    ·rw [dK,iX h1] at hne;simp at hne
  | succ k=>
   simp only [KJ] at h;obtain ⟨acc',h1,h2⟩:=I1 r (acc++[ED (yH x) acc 0]) k o h;have hl:(acc++[ED (yH x) acc 0]).length+k=acc.length+(k+1):=by simp;omega
   rw [hl] at h1 h2;exact ⟨acc',h1,h2⟩
theorem I2 {l:List Oper} (h:Hg l=true):∀ (i:Nat) (o:Oper),l[i]?=some o→∀ k∈yH o,k<i:=by
 intro i o ho k hk;simp only [Hg,BO,List.mem_range] at h;have hi:i<l.length:=by
  rcases qA5 i l.length with h1|h1
  ·exact h1
  ·rw [iX h1] at ho;cases ho
 have:=h i hi;rw [ho] at this;simp only [BO,decide_eq_true_eq] at this;exact this k hk
theorem I3 {ops:Array Oper} {σ:List Nat} (hback:Hg ops.toList=true) (hσ:∀ a j b,σ=a++j::b→∀ o,ops[j]?=some o→∀ k∈xA o,k∈a) :
  ∀ (j:Nat) (a b:List Nat) (i:Nat),σ=a++j::b→j<ops.size→((oL ops.toList []).getD j 0).testBit i=true→i∈a:=by
 intro j;induction j using Nat.strongRecOn with
 | _ j ih=>
  intro a b i e hj hbit;have hoj:ops.toList[j]?=some ops[j]:=by simp [hj]
  obtain ⟨acc',h1,h2⟩:=I1 ops.toList [] j _ hoj;simp only [sT,kI] at h1 h2;rw [h1] at hbit;rcases yF1 acc' i (yH ops[j]) 0 hbit with h3 | ⟨k,hk,h3⟩
  ·simp at h3
  ·have hka:k∈a:=hσ a j b e ops[j] (by simp [hj]) k (by rw [← I0];exact hk);rcases h3 with rfl | h3
   ·exact hka
   ·have hkj:k<j:=I2 hback j _ hoj k hk;obtain ⟨a1,a2,ea⟩:=List.append_of_mem hka;rw [(h2 k).2 hkj] at h3;have:=ih k hkj a1 (a2++j::b) i (by rw [e,ea];simp) (by omega) h3;rw [ea];simp [this]
theorem I4 {cl:List Nat} {i j:Nat} (hij:i<j) (hj:j<cl.length) (hb:(cl.getD j 0).testBit i=false):(i,j)∈Hf cl:=by simp only [Hf,List.mem_flatMap,List.mem_range,List.mem_filterMap];exact ⟨j,hj,i,hij,by rw [hb];rfl⟩
section
variable {P:Program} {E:Env}
theorem yLe (hE:EO P E) (hm:P.follows .mixedOrders=true):∀ call,ybJ P E call→Qg P E call:=by
 intro call hc ro nt base g F H a w loc ops l F' H' id hro hl hd hb h hr hL hdf;obtain ⟨hlen,hget⟩:=Lq _ _ hl;have hsz:l.length=ops.size:=by simpa using hlen
 refine wpIn_region_draw fun t=>?_
 have hsched:Region.schedule (P.follows .mixedOrders) ops t=Region.linearise.go .any ops ops.size t (Array.replicate ops.size false) []:=by rw [hm];rfl
 rw [hsched];have hcount:(List.range ops.size).countP (fun i=>!(Array.replicate ops.size false).getD i true)≤ops.size:=by
  have:=List.countP_le_length (p:=fun i=>!(Array.replicate ops.size false).getD i true) (l:=List.range ops.size);simpa using this
 obtain ⟨hmem,hnd,hord⟩:=yG5 ops (fun i o ho k hk=>I2 hb i o (by simpa using ho) k (by rw [I0];exact hk)) ops.size t (Array.replicate ops.size false) (by simp) hcount;revert hmem hnd hord;generalize Region.linearise.go .any ops ops.size t (Array.replicate ops.size false) []=σ;intro hmem hnd hord;have hmem':∀ i,i∈σ↔i<ops.size:=by
  intro i;rw [← hmem i];refine ⟨fun x=>x.1,fun x=>⟨x,?_⟩⟩;simp [x]
 have hord':∀ a j b,σ=a++j::b→∀ o,ops[j]?=some o→∀ k∈xA o,k∈a:=by
  intro a j b e o ho k hk;rcases hord a j b e o ho k hk with h1 | h1
  ·simp only [Av,Array.getElem?_replicate] at h1;split at h1<;>simp at h1
  ·exact h1
 have hperm:σ.Perm (List.range ops.size):=(List.perm_ext_iff_of_nodup hnd List.nodup_range).2 fun i=>by rw [hmem' i,List.mem_range]
 have hlperm:(σ.filterMap (l[·]?)).Perm l:=by have:=hperm.filterMap (l[·]?);rw [← hsz,Qf] at this;exact this
 have hrd:Rel E nt g F H a.tmps { w with drawn:=w.drawn+1 }:=hr.drew;have hclean:∀ (l:List AO) (F:aG) s x,fget (yE F l) s=some x→fget F s=some x:=by
  intro l;induction l with
  | nil=>intro F s x e;exact e
  | cons o r ih=>
   intro F s x e;simp only [yE] at e;split at e
   ·rename_i d _;have:=ih _ s x e;rw [BW] at this;split at this
    ·cases this
    ·exact Pw F d s x this
   ·exact ih _ s x e
 have hrun:∃ F0 F2 H2,(∀ s x,fget F0 s=some x→fget F s=some x)∧mY E call (σ.filterMap (l[·]?)) F0 H=some (F2,H2)∧H2=H'∧∀ s,fget F2 s=fget F' s:=by
  unfold ynL at h
  cases hp:Hf (oL ops.toList []) with
  | nil=>
   rw [hp] at h;have hsort:σ=List.range ops.size:=by
    have key:∀ (τ:List Nat) (k:Nat),(∀ a j b,τ=a++j::b→∀ i,k≤i→i<j→i∈a)→τ.Nodup→(∀ i,i∈τ↔k≤i∧i<ops.size)→k≤ops.size→τ=List.range' k (ops.size-k):=by
     intro τ;induction τ with
     | nil=>
      intro k _ _ h3 hk;have:¬(k<ops.size):=fun hlt=>by have:=(h3 k).2 ⟨cJ k,hlt⟩;cases this
      have:ops.size-k=0:=by omega
      rw [this];rfl
     | cons x τ ih=>
      intro k h1 h2 h3 hk;have hx:=(h3 x).1 (by simp);have hxk:x=k:=by
       rcases qA5 k x with hlt|hge
       ·have:=h1 [] x τ rfl k (cJ k) hlt;cases this
       ·omega
      subst hxk;have:ops.size-x=(ops.size-(x+1))+1:=by omega
      rw [this,List.range'_succ];congr 1;rw [List.nodup_cons] at h2;refine ih (x+1) (fun a j b e i hi hij=>?_) h2.2 (fun i=>?_) (by omega)
      ·have:=h1 (x::a) j b (by rw [e];rfl) i (by omega) hij;rcases qAo.1 this with e2 | e2
       ·omega
       ·exact e2
      ·have h4:=h3 i;rw [qAo] at h4;constructor
       ·intro hi;have h5:=h4.1 (.inr hi);have:i≠x:=fun e=>h2.1 (e ▸ hi)
        omega
       ·intro hi;rcases h4.2 ⟨by omega,hi.2⟩ with e | e
        ·omega
        ·exact e
    have:=key σ 0 (fun a j b e i _ hij=>?_) hnd (fun i=>by rw [hmem' i];simp) (jV _)
    ·rw [this,Nat.sub_zero,List.range_eq_range']
    ·have hj:j<ops.size:=(hmem' j).1 (by rw [e];simp);refine I3 hb hord' j a b i e hj ?_
     cases hbit:((oL ops.toList []).getD j 0).testBit i
     ·have:=I4 hij (by rw [Qn];simpa using hj) hbit;rw [hp] at this;cases this
     ·rfl
   rw [hsort,← hsz,Qf];exact ⟨F,F',H',fun _ _ e=>e,h,rfl,fun _=>rfl⟩
  | cons pr prs=>
   rw [hp] at h;simp only [] at h;split at h
   ·rename_i F1 H1 ps hps;split at h
    ·rename_i hok
     cases h
     rw [← hp] at hok;have hcl:=hclean l F;obtain ⟨F0,hF0⟩:∃ F0,F0=yE F l:=⟨_,rfl⟩;rw [← hF0] at hps hok hcl;obtain ⟨s1,s2,s3,s4⟩:=G6 _ _ _ _ _ _ hps;let st:Nat→aG×Hp:=fun i=>stAt E call l i (F0,H)
     let R:Nat→Loc→Prop:=fun i x=>∃ p,ps[i]?=some p∧RdP p x
     let W:Nat→Loc→Prop:=fun i x=>∃ p,ps[i]?=some p∧WrP p x
     have hlocal:Local look (yk7 E call) l st R W:=by
      refine ⟨fun i o ho=>?_,fun i o ho S' hag=>?_⟩
      ·exact (s4 i o ho).1
      ·obtain ⟨h1,h2⟩:=s4 i o ho;obtain ⟨T',k1,k2,k3⟩:=yJr h1 S' (fun x hx=>hag x ⟨_,h2,hx⟩);refine ⟨T',k1,fun x ⟨p,e,hx⟩=>?_,fun x hx=>k3 x fun hw=>hx ⟨_,h2,hw⟩⟩;rw [h2] at e;cases e;exact k2 x hx
     have hfree:∀ i j,i<j→(i∈σ∧j∈([]:List Nat)∨(∃ a b c,σ=a++j::(b++i::c)))→yK R W i j:=by
      intro i j hij hcase;rcases hcase with ⟨_,hx⟩ | ⟨a,b,c,e⟩
      ·cases hx
      ·have hj:j<ops.size:=(hmem' j).1 (by rw [e];simp);have hbit:((oL ops.toList []).getD j 0).testBit i=false:=by
        cases hbit:((oL ops.toList []).getD j 0).testBit i
        ·rfl
        ·have hia:=I3 hb hord' j a _ i e hj hbit;rw [e,List.nodup_append] at hnd;exact absurd rfl (hnd.2.2 i hia i (by simp))
       obtain ⟨p,q,hp1,hq1,hcl⟩:=G7 _ hok.1 i j (I4 hij (by rw [Qn];simpa using hj) hbit);intro x;obtain ⟨f1,f2⟩:=yEP hcl x;refine ⟨fun ⟨⟨p',e1,w1⟩,r1⟩=>f1 ?_,fun ⟨⟨q',e1,w1⟩,⟨p',e2,r1⟩⟩=>f2 ?_⟩
       ·rw [hp1] at e1;cases e1;refine ⟨w1,r1.imp (fun ⟨q',e2,r2⟩=>?_) (fun ⟨q',e2,r2⟩=>?_)⟩
        ·rw [hq1] at e2;cases e2;exact r2
        ·rw [hq1] at e2;cases e2;exact r2
       ·rw [hq1] at e1;cases e1;rw [hp1] at e2;cases e2;exact ⟨w1,r1⟩
     obtain ⟨T',k1,k2⟩:=hlocal.perm σ [] (F0,H) (by simpa using hnd) (fun i=>by rw [hsz,wR,hmem' i]) hfree (fun x _=>by show look (F0,H) x=look (st 0) x;rw [show st 0=(F0,H) from s2]) (fun x i hi=>by cases hi);have hfin:st l.length=(F',H'):=s3;rw [hfin] at k2;have hfresh:=G9 _ F0 H T' k1 fun o ho d hdo=>by
      obtain ⟨b1,b2,b3⟩:=H8 l hok.2 o (hlperm.mem_iff.1 ho) d hdo;refine ⟨b1,b2,?_⟩;rw [H9,hlperm.countP_eq,← H9];exact b3
     refine ⟨F0,T'.1,T'.2,hcl,hfresh,sP fun k=>?_,fun s=>?_⟩
     ·have:=k2 (.bk k);simpa [look] using this
     ·have:=k2 (.sl s);simpa [look] using this
    ·cases h
   ·cases h
 obtain ⟨F0,F2,H2,h0,h1,rfl,h3⟩:=hrun;refine E4 (F':=F2) (H':=H2) hE hc hl hd hro σ g F0 H a _ (fun i hi=>(hmem' i).1 hi) (hrd.less h0) (hL.nx (Nx.drew g H w)) h1 ?_;intro a' w' g' d1 n1 r1;exact ⟨trivial,g',(Nx.drew g H w).trans n1,r1.less fun s x hs=>by rw [h3 s];exact hs,(hdf.nx ((Nx.drew g H w).trans n1)).go d1⟩
theorem Lx (hE:EO P E) (hm:P.follows .mixedOrders=true) (n:Nat):ybJ P E (ycl E n):=
 (yLa (fun _ hE=>yLe hE hm) n E hE).2.2.2
end
def topV (E:Env) (n f:Nat) (args:List PV):Option PV:=
 match ycl E n f args [] with
 | some (r,H)=>mL (E.nl f) H r
 | none=>none
section
variable {P:Program} {E:Env}
theorem I5 (hE:EO P E) (hm:P.follows .mixedOrders=true) {n f:Nat} {args:List PV} {q:PV} (h:topV E n f args=some q):qN P E.glob f args q:=by
 intro I w vs himm hgl hv;unfold topV at h;split at h
 ·rename_i r H hin;exact run_pure (Lx hE hm n) himm hgl hv hin h
 ·cases h
def yC6:List (Nat×AFn)→Nat→Option AFn
 | [],_=>none
 | (k,a)::r,n=>bif Nat.beq k n then some a else yC6 r n
def Cf (P:Program):List (Nat×AFn)→Prop
 | []=>True
 | (n,a)::r=>(∃ f loc fg,P.funcs[n]?=some f∧yI P loc fg f=some a)∧Cf P r
theorem Qp:∀ (l:List (Nat×AFn)),Cf P l→∀ n a,yC6 l n=some a→∃ f loc fg,P.funcs[n]?=some f∧yI P loc fg f=some a
 | [],_,_,_,h=>by simp [yC6] at h
 | (k,b)::r,hl,n,a,h=>by
  simp only [Cf] at hl;simp only [yC6] at h
  cases hc:Nat.beq k n with
  | true =>rw [hc] at h;simp only [cond_true,cC] at h;have:=fL hc;subst this;subst h;exact hl.1
  | false =>rw [hc] at h;exact Qp r hl.2 n a (by simpa using h)
def memN:List Nat→Nat→Bool
 | [],_=>false
 | k::r,n=>bif Nat.beq k n then true else memN r n
def u6 (n:Nat):PV:=.int .u64 (n:Int)
def sumC (add sub:Nat) (n:Nat) (az:List PV):Option PV:=
 match az with
 | [.int .u64 a,.int .u64 b,.int .u64 c]=>
  bif Nat.beq n add&&Nat.ble c.toNat 1 then some (.tup [u6 ((a.toNat+b.toNat+c.toNat)%18446744073709551616),u6 ((a.toNat+b.toNat+c.toNat)/18446744073709551616)])
  else bif Nat.beq n sub&&Nat.ble c.toNat 1 then some (.tup [u6 ((a.toNat+18446744073709551616-b.toNat-c.toNat)%18446744073709551616),u6 (bif Nat.ble (b.toNat+c.toNat) a.toNat then 0 else 1)])
  else none
 | _=>none
def Hw:Array Value→Sem Value:=fun args=>do
 let (x, y, b) ← Extern.MathBitsCarry.three "Sub64" args
 pure (Extern.MathBitsCarry.pair ((x+Extern.MathBitsCarry.m64-y-b)%Extern.MathBitsCarry.m64) (if x<y+b then 1 else 0))
theorem yLf (x y:Int) (b:Nat) (hb:b≤1) (w:World) :
  (Hw #[.int .u64 x,.int .u64 y,.int .u64 b]).run P w =
   .ok (.tuple #[.int .u64 (((x.toNat+18446744073709551616-y.toNat-b)%18446744073709551616:Nat):Int),.int .u64 ((if x.toNat<y.toNat+b then 1 else 0:Nat):Int)]) w:=by
 have:b=0∨b=1:=by omega
 rcases this with rfl | rfl<;>rfl
theorem yLg (x y:Int) (b:Nat) (hb:b≤1) (w:World) :
  (add64Entry #[.int .u64 x,.int .u64 y,.int .u64 b]).run P w =
   .ok (.tuple #[.int .u64 (((x.toNat+y.toNat+b)%18446744073709551616:Nat):Int),.int .u64 (((x.toNat+y.toNat+b)/18446744073709551616:Nat):Int)]) w:=by
 have:b=0∨b=1:=by omega
 rcases this with rfl | rfl<;>rfl
theorem I6 {I:Nat→Prop} {w:World} {a b c:Int} {vs:List Value} (h:gG I w [.int .u64 a,.int .u64 b,.int .u64 c] vs):vs=[.int .u64 a,.int .u64 b,.int .u64 c]:=by simp only [gG,fF,RC,kH,and_true] at h;obtain ⟨v,r,rfl,⟨rfl,_⟩,v2,r2,rfl,⟨rfl,_⟩,v3,r3,rfl,⟨rfl,_⟩,rfl⟩:=h;rfl
structure IsExtern (P:Program) (f:FuncId) (e:Array Value→Sem Value):Prop where
 h : ∃ fn, P.funcs[f]? = some fn ∧ (fn.name == "runtime.NumGoroutine") = false ∧ fn.body.isNone = true ∧ Extern.findNext fn = none ∧ Extern.find fn = some e
theorem IsExtern.run {f:FuncId} {e:Array Value→Sem Value} (h:IsExtern P f e) (args:Array Value) (w:World):(callFunc f args).run P w=((e args).run P w).andThen fun v w'=>.ok (.value v) w':=by obtain ⟨fn,h1,h2,h3,h4,h5⟩:=h.h;exact run_callFunc_extern h1 h2 h3 h4 h5 args w
theorem I7 (n:Nat) (h:n<18446744073709551616):iZ .u64 (n:Int):=by
 have h0:u64.min=0:=by decide
 have h1:u64.max=18446744073709551615:=by decide
 exact ⟨by rw [h0];omega,by rw [h1];omega⟩
theorem I8 {G:Nat→Option PV} {f:FuncId} {az:List PV} {a b:Nat} (ha:a<18446744073709551616) (hb:b<18446744073709551616)
  (h:∀ (I:Nat→Prop) (w:World) (vs:List Value),gG I w az vs→(callFunc f vs.toArray).run P w=.ok (.value (.tuple #[.int .u64 (a:Int),.int .u64 (b:Int)])) w):qN P G f az (.tup [u6 a,u6 b]):=by
 intro I w vs _ _ hv;unfold nA;rw [h I w vs hv];refine ⟨Bel.refl _ _,?_⟩;simp only [VP,gG,fF,RC,u6];exact ⟨_,rfl,_,_,rfl,⟨rfl,I7 a ha⟩,_,_,rfl,⟨rfl,I7 b hb⟩,rfl⟩
theorem I9 {G:Nat→Option PV} {add sub:Nat} (ha:IsExtern P add add64Entry) (hs:IsExtern P sub Hw):∀ n az r,sumC add sub n az=some r→qN P G n az r:=by
 intro n az r h;unfold sumC at h;split at h
 ·rename_i a b c;have key:∀ (x y:Int) (I:Nat→Prop) (w:World) (vs:List Value),gG I w [.int .u64 a,.int .u64 b,.int .u64 c] vs→a.toNat<18446744073709551616∧b.toNat<18446744073709551616∧0≤c:=by
   intro x y I w vs hv;simp only [gG,fF,RC,iZ] at hv;obtain ⟨v,r,-,⟨-,h1⟩,v2,r2,-,⟨-,h2⟩,v3,r3,-,⟨-,h3⟩,-⟩:=hv;have e1:u64.max=18446744073709551615:=by decide
   have e0:u64.min=0:=by decide
   rw [e1] at h1 h2;rw [e0] at h3;exact ⟨by omega,by omega,h3.1⟩
  cases h1:(Nat.beq n add&&Nat.ble c.toNat 1) with
  | true=>
   rw [h1] at h;simp only [cond_true,cC] at h;simp only [bZ] at h1;have e:=fL h1.1;have hc:=BM h1.2;subst e;subst h;intro I w vs hI hgl hv;obtain ⟨la,lb,-⟩:=key 0 0 I w vs hv;refine I8 (Nat.mod_lt _ (by omega)) (by omega) (fun I w vs hv=>?_) I w vs hI hgl hv;have h0:=(key 0 0 I w vs hv).2.2;have ec:c=(c.toNat:Int):=by omega
   rw [I6 hv,ha.run,ec];exact Aaa (fun r=>Result.andThen r fun v w'=>Result.ok (Next.value v) w') (yLg a b c.toNat hc w)
  | false=>
   rw [h1] at h;simp only [cond_false] at h
   cases h2:(Nat.beq n sub&&Nat.ble c.toNat 1) with
   | true=>
    rw [h2] at h;simp only [cond_true,cC] at h;simp only [bZ] at h2;have e:=fL h2.1;have hc:=BM h2.2;subst e;subst h;refine I8 (Nat.mod_lt _ (by omega)) (by cases Nat.ble (b.toNat+c.toNat) a.toNat<;>simp) (fun I w vs hv=>?_);have:(if a.toNat<b.toNat+c.toNat then 1 else 0:Nat)=(bif Nat.ble (b.toNat+c.toNat) a.toNat then 0 else 1):=by
     cases hh:Nat.ble (b.toNat+c.toNat) a.toNat with
     | true=>have:=BM hh;simp;omega
     | false=>
      have:¬(b.toNat+c.toNat≤a.toNat):=fun hle=>by rw [Ee hle] at hh;cases hh
      simp;omega
    have h0:=(key 0 0 I w vs hv).2.2;have ec:c=(c.toNat:Int):=by omega
    rw [← this,I6 hv,hs.run,ec];exact Aaa (fun r=>Result.andThen r fun v w'=>Result.ok (Next.value v) w') (yLf a b c.toNat hc w)
   | false=>rw [h2] at h;cases h
 ·cases h
def ySI (add sub:Nat) (tab:List (Nat×AFn)) (qui:List Nat):Env:={ glob:=fun _=>none,sum:=sumC add sub,fns:=yC6 tab,frz:=fun _=>false,qui:=memN qui }
theorem yQ2 {add sub:Nat} {tab:List (Nat×AFn)} {qui:List Nat} (ha:IsExtern P add add64Entry) (hs:IsExtern P sub Hw) (ht:Cf P tab):EO P (ySI add sub tab qui) where
 sum:=fun n az r h=>I9 ha hs n az r h
 fns:=fun n fn h=>Qp tab ht n fn h
 eff:=fun _ _ _ _ _ _ _ h=>by cases h
 dn:=fun _ h=>by cases h
 top:=fun _ _=>rfl
 yl:=fun _ _ _ _ _ _ h=>by cases h
end
theorem yG6 {P:Program} {f:FuncId} {fn:Func} {o0 o1 o2 o3:Oper} {i0 i1:Nat} {A:Code} {d0 d1 d2 t:Tmp} {c:Call} {ty ty2:TypeId}
  (hf : P.funcs[f]? = some fn) (hname : fn.name ≠ "runtime.NumGoroutine") (hb : fn.body = some (.seq (.region i0 #[o0, o1] false) (.seq (.region i1 #[o2, o3] false) (.cond (.tmp t) A .skip)))) (hr : fn.results = #[])
  (a0:o0.guard=none) (a1:o0.dst=some d0) (a2:o0.op=.call c) (a3:c.callee=.builtin .recover)
  (b0:o1.guard=none) (b1:o1.dst=some d1) (b2:o1.op=.assign (.tmp d0))
  (c0:o2.guard=none) (c1:o2.dst=some d2) (c2:o2.op=.move (.tmp d1))
  (e0:o3.guard=none) (e1:o3.dst=some t) (e2:o3.op=.binOp .neq ty (.tmp d2) (.const .nilIface) ty2)
  (l0:d0<fn.ntmps) (l1:d1<fn.ntmps) (l2:d2<fn.ntmps) (l3:t<fn.ntmps) (hty:∀ w,(Op.equal ty .nilIface .nilIface).run P w=.ok true w) (args:Array Value) (w:World) :
  (callFunc f args).run P w=.ok (.enter f args) w∧CallsDIn (Fc none) 0 P f args .returning w fun e u w'=>u=.returning∧w'=w∧∃ v,e=.returned v:=by
 refine ⟨by simp [callFunc,hf,hname,hb],callsDIn_of_wpSIn hf hb trivial fun c₀ cs hu=>?_⟩;have ab:∀ (o:Oper) (w:World) (ρ:Operand→Value),∀ g,o.about P w ρ=some g→(Fc none).fn g:=fun _ _ _ _ _=>trivial
 have hrec:recoverD (c₀::cs)=none:=by simp [recoverD,hu]
 have hsz:fn.ntmps≤(args++Array.replicate (fn.ntmps-args.size) undef).size:=by simp;omega
 generalize args++Array.replicate (fn.ntmps-args.size) undef=tm at hsz;have ev:∀ (a:Act) (d:Tmp) (v:Value),d<a.tmps.size→(a.put (some d) v).eval (.tmp d)=v:=fun a d v h=>by
  show (a.tmps.setIfInBounds d v).getD d undef=v;exact KQ _ _ _ h
 have sz:∀ (a:Act) (d:Tmp) (v:Value),(a.put (some d) v).tmps.size=a.tmps.size:=fun a d v=>by
  show (a.tmps.setIfInBounds d v).size=_;simp
 refine wpSIn_seq (wpSIn_region ?_);show wpOpsSIn _ _ _ _ _ [0,1] _ _ _;rw [wpOpsSIn];simp only [show (#[o0,o1]:Array Oper)[0]?=some o0 from rfl];refine ⟨ab o0 w _,?_⟩;rw [Tu (by simp [Region.wanted,a0])];have r0:∀ (ρ:Operand→Value),(execOp ρ o0).run P w=.ok .recover w:=fun ρ=>by
  simp [execOp,a2,resolve,a3,invoke,builtin]
 rw [r0];simp only [hrec,a1];rw [wpOpsSIn];simp only [show (#[o0,o1]:Array Oper)[1]?=some o1 from rfl];refine ⟨ab o1 w _,?_⟩;rw [Tu (by simp [Region.wanted,b0])];have r1:∀ (ρ:Operand→Value),(execOp ρ o1).run P w=.ok (.value (ρ (.tmp d0))) w:=fun ρ=>by
  simp [execOp,b2]
 rw [r1];simp only [b1];rw [wpOpsSIn,ev _ _ _ (by exact oD l0 hsz)];simp only [Exit.thenS];refine wpSIn_seq (wpSIn_region ?_);show wpOpsSIn _ _ _ _ _ [0,1] _ _ _;rw [wpOpsSIn];simp only [show (#[o2,o3]:Array Oper)[0]?=some o2 from rfl];refine ⟨ab o2 w _,?_⟩;rw [Tu (by simp [Region.wanted,c0])];have r2:∀ (ρ:Operand→Value),(execOp ρ o2).run P w=.ok (.value (ρ (.tmp d1))) w:=fun ρ=>by
  simp [execOp,c2]
 rw [r2];simp only [c1];rw [ev _ _ _ (by rw [sz];exact oD l1 hsz)];rw [wpOpsSIn];simp only [show (#[o2,o3]:Array Oper)[1]?=some o3 from rfl];refine ⟨ab o3 w _,?_⟩;rw [Tu (by simp [Region.wanted,e0])];have r3:∀ (ρ:Operand→Value),ρ (.tmp d2)=.nilIface→ρ (.const .nilIface)=.nilIface→(execOp ρ o3).run P w=.ok (.value (.bool false)) w:=fun ρ h1 h2=>by
  simp [execOp,e2,h1,h2,eqGuard,binOp,hty w]
 rw [r3 _ (ev _ _ _ (by rw [sz,sz];exact oD l2 hsz)) rfl];simp only [e1];rw [wpOpsSIn];simp only [Exit.thenS];refine wpSIn_cond (t:=false) (ev _ _ _ (by rw [sz,sz,sz];exact oD l3 hsz)) ?_;have hres:∀ tm:Array Value,(results fn tm).run P w=.ok (.tuple #[]) w:=fun tm=>by
  rw [B2];simp [hr]
 refine wpSIn_of_wpIn rfl (wpIn_skip ⟨rfl,.returning,?_,_,hres _,rfl,rfl,_,rfl⟩);have:({ c₀ with mode:=.returning }:Frame)=c₀:=by rw [← hu]
 rw [this]
def ySJ (P:Program) (n:Nat):Prop:=∀ (args:Array Value) (w:World),(callFunc n args).run P w=.ok (.enter n args) w∧CallsDIn (Fc none) 0 P n args .returning w fun e u w'=>u=.returning∧w'=w∧∃ v,e=.returned v
def Cg:List Nat→List Nat
 | []=>[]
 | k::r=>bif Nat.ble 6000000 k then (k-6000000)::Cg r else Cg r
theorem J0 {n:Nat}:∀ {l:List Nat},memN l (n+6000000)=true→n∈Cg l
 | [],h=>by cases h
 | k::r,h=>by
  have h:(bif Nat.beq k (n+6000000) then true else memN r (n+6000000))=true:=h
  cases hb:Nat.beq k (n+6000000) with
  | true =>have e:=fL hb;subst e;have:Nat.ble 6000000 (n+6000000)=true:=Ee (by omega);simp only [Cg,this,cond_true,Nat.add_sub_cancel,qAo,true_or]
  | false=>
   rw [hb] at h;have:=J0 (l:=r) h;simp only [Cg]
   cases Nat.ble 6000000 k with
   | true=>exact fC _ this
   | false=>exact this
end Go.Pf
namespace Go.Pf
open Go
def aA (b:Bool) (x y:Prop):Prop:=match b with | true=>x | false=>y
def aB (b:Bool) (x:Prop):Prop:=match b with | true=>x | false=>False
theorem rI {b:Bool} {x y:Prop}:aA b x y↔(b=true→x)∧(b=false→y):=by cases b<;>simp [aA]
theorem bT {b:Bool} {x:Prop}:aB b x↔b=true∧x:=by cases b<;>simp [aB]
inductive Cs where
 | i (k:IntKind)
 | b
 | d
 deriving DecidableEq,Inhabited
inductive Sh where
 | raw
 | one (c:Cs)
 | agg (l:List Cs)
 deriving Inhabited
def aC:PV→Int
 | .int _ n=>n
 | _=>0
def J1:PV→Bool
 | .bool b=>b
 | _=>false
def fW:PV→List PV
 | .data l=>l
 | _=>[]
def aD (r:PV) (j:Nat):PV:=r.cells.getD j .nils
def EE:Cs→PV→PV
 | .i k,x=>.int k (aC x)
 | .b,x=>.bool (J1 x)
 | .d,x=>.data (fW x)
def Hx:List Cs→PV→Nat→List PV
 | [],_,_=>[]
 | c::t,r,j=>EE c (aD r j)::Hx t r (j+1)
def rJ:Sh→PV→PV
 | .raw,r=>r
 | .one c,r=>EE c r
 | .agg l,r=>.agg (Hx l r 0)
def tJ:Cs→PV→Bool
 | .i k,.int l _=>decide (k=l)
 | .b,.bool _=>true
 | .d,.data _=>true
 | _,_=>false
def EF:List Cs→List PV→Bool
 | [],[]=>true
 | c::t,x::r=>tJ c x&&EF t r
 | _,_=>false
def aE:Sh→PV→Bool
 | .raw,_=>true
 | .one c,x=>tJ c x
 | .agg l,.agg cs=>EF l cs
 | .agg _,_=>false
theorem J2:∀ (c:Cs) (x:PV),tJ c x=true→EE c x=x
 | .i k,x,h=>by cases x<;>simp [tJ] at h;simp [EE,aC,h]
 | .b,x,h=>by cases x<;>simp [tJ] at h;simp [EE,J1]
 | .d,x,h=>by cases x<;>simp [tJ] at h;simp [EE,fW]
theorem J3:∀ (l:List Cs) (pre cs:List PV),EF l cs=true→Hx l (.agg (pre++cs)) pre.length=cs
 | [],pre,cs,h=>by cases cs<;>simp [EF] at h;simp [Hx]
 | c::t,pre,cs,h=>by
  cases cs with
  | nil=>simp [EF] at h
  | cons x r=>
   simp only [EF,bZ] at h;have h1:aD (.agg (pre++x::r)) pre.length=x:=by simp [aD,PV.cells]
   have h2:=J3 t (pre++[x]) r h.2;simp only [jE,List.singleton_append,cR,eQ] at h2;simp only [Hx,h1,J2 c x h.1,h2]
theorem J5:∀ (s:Sh) (r:PV),aE s r=true→rJ s r=r
 | .raw,_,_=>rfl
 | .one c,x,h=>J2 c x h
 | .agg l,x,h=>by
  cases x with
  | agg cs=>have:=J3 l [] cs h;simpa [rJ] using this
  | _=>simp [aE] at h
structure An where
 at_:Nat
 sh:Sh
 md:Nat
 deriving Inhabited
inductive TC where
 | skip
 | ops (l:List AO) (an:List An) (pairs:List (Nat×Nat)) (forget:List Nat)
 | seq (a b:TC)
 | cond (c:Opd) (a b:TC)
 | block (id:Nat) (b:TC)
 | loop (id:Nat) (b:TC)
 | lG (id:Nat) (b:TC)
 | exit (id:Nat)
 | ret
 | bad
 | rangeF (g:Opd) (f np:Nat) (ib:TC) (ps:List Nat) (az bd:TC)
 | yret (c:AC) (pre:List AO) (d:Nat) (y:Opd) (args:List Opd) (e:Nat) (fgt:List Nat)
 | cut (c:AC)
 | join (id:Nat) (b:TC)
 deriving Inhabited
def dQ:TC→AC
 | .skip=>.skip
 | .ops l _ ps fg=>.ops l ps fg
 | .seq a b=>.seq (dQ a) (dQ b)
 | .cond c a b=>.cond c (dQ a) (dQ b)
 | .block id b=>.block id (dQ b)
 | .loop _ b=>.loop (dQ b)
 | .lG _ b=>.lG (dQ b)
 | .exit id=>.exit id
 | .ret=>.ret
 | .bad=>.bad
 | .rangeF g _ _ _ ps az bd=>.rangeF g ps (dQ az) (dQ bd)
 | .yret c pre d y args e fgt=>.yret c pre d y args e fgt
 | .cut c=>c
 | .join _ b=>dQ b
structure TFn where
 nparams:Nat
 results:List ARes
 body:TC
 deriving Inhabited
def TFn.fn (t:TFn):AFn:=⟨t.nparams,t.results,dQ t.body⟩
def Ch:List An→Nat→An
 | [],_=>⟨0,.raw,0⟩
 | a::r,i=>bif Nat.beq a.at_ i then a else Ch r i
def Hy:Nat→List PV→Hp→Option (PV×Hp):=fun _ _ _=>none
abbrev OK:=Option FV→Option (Nat×PV)→Hp→Prop
abbrev CK:=PV→List PV→Hp→(PV→Hp→Prop)→Prop
def wv (H:Hp) (K:OK) (p:PV):Prop:=K (some (.v p)) none H
def Hz (H:Hp) (x:PV) (K:PV→Hp→Prop):Prop:=
 match x with
 | .bool b=>K (.bool b) H
 | .int k n=>K (.int k n) H
 | .nils | .emp=>K (.data []) H
 | .data rows=>K (.data rows) H
 | .own id lo len ext _=>
  (match H[id]? with
   | some b=>aB (decide (b.rows.length=ext)) (aB (decide (lo+len≤ext)) (aB b.pu (K (.data ((b.rows.drop lo).take len)) (H.set id { b with fz:=true }))))
   | none=>False)
 | _=>False
def Ly:Hp→List PV→(List PV→Hp→Prop)→Prop
 | H,[],K=>K [] H
 | H,x::r,K=>Hz H x fun y H'=>Ly H' r fun ys H''=>K (y::ys) H''
def xB (H:Hp) (x:PV) (K:PV→Hp→Prop):Prop:=
 match x with
 | .agg cs=>Ly H cs fun ys H'=>K (.agg ys) H'
 | x=>Hz H x K
def Ci:Hp→List PV→(List PV→Hp→Prop)→Prop
 | H,[],K=>K [] H
 | H,x::r,K=>xB H x fun y H'=>Ci H' r fun ys H''=>K (y::ys) H''
def Lz (H:Hp) (x:PV) (K:PV→Prop):Prop:=
 match x with
 | .tup ps=>Ci H ps fun qs _=>K (.tup qs)
 | x=>xB H x fun q _=>K q
def LA (H:Hp) (x:PV) (K:PV→Prop):Prop:=
 match x with
 | .ptr id ext i off=>(match H[id]? with
  | some b=>aB (decide (b.rows.length=ext)) (match b.rows[i]? with
   | some row=>xB H row fun q _=>K (.eptr [q] 0 off)
   | none=>False)
  | none=>False)
 | .eptr rows i off=>K (.eptr rows i off)
 | x=>xB H x fun q _=>K q
def LB (H:Hp):List PV→(List PV→Prop)→Prop
 | [],K=>K []
 | x::r,K=>LA H x fun y=>LB H r fun ys=>K (y::ys)
def HA (pu:Bool) (H:Hp) (x:PV) (K:PV→Hp→Prop):Prop:=match pu with | true=>xB H x K | false=>K x H
def EH (E:Env) (F:aG) (pu:Bool) (esz:Nat):List PV→Hp→List (Nat×Opd)→(List PV→Hp→Prop)→Prop
 | rows,H,[],K=>K rows H
 | rows,H,(i,x)::r,K=>
  match evV E F x with
  | some p=>HA pu H p fun q H'=>aB (Nat.beq q.cells.length esz&&Nat.blt i rows.length&&kJ q.cells) (EH E F pu esz (rows.set i q) H' r K)
  | none=>False
def Cj (op:BinOp) (k k':IntKind) (a b:Int) (K:PV→Prop):Prop:=
 match op with
 | .quo=>aB (decide (k=k')) (aB (!decide (b=0)) (K (.int k (k.wrap (a.tdiv b)))))
 | .rem=>aB (decide (k=k')) (aB (!decide (b=0)) (K (.int k (a.tmod b))))
 | .shl=>aB (!decide (b<0)) (K (.int k (k.wrap (a*2 ^ (min b.toNat k.bits)))))
 | .shr=>aB (!decide (b<0)) (K (.int k (a.fdiv (2 ^ (min b.toNat k.bits)))))
 | op=>aB (decide (k=k')) (match binI op k a b with | some r=>K r | none=>False)
def AS (n:Nat) (j:Int) (K:Nat→Prop):Nat→Prop
 | 0=>False
 | m+1=>aA (decide (j=((n-(m+1):Nat):Int))) (K (n-(m+1))) (AS n j K m)
def HC:List PV→Bool
 | []=>true
 | .int .u8 _::r=>HC r
 | _=>false
end Go.Pf
