/- Part 1. -/
import Derived.Test.YtbdihlcdenhcbaaGreatTxW0
open Go.IntKind (i64 u8 u64)
open List (length getD take drop replicate set map isEmpty)
noncomputable section
namespace Go.Pf
open Go Go.RowKit
section
variable {P:Program} {E:Env} {nt:Nat} {g g':Gh} {F:aD} {H H':Hp} {a:Act} {tmps:Array Value} {w w':World} {o:Oper} {out:Out}
theorem NK {pu:Bool} {esz b o:Nat} {rows:List PV} {news:List Value} (hR:eI g H w rows esz b o) (hC:pu=true→dN g.I w rows esz b o) (hl:news.length=rows.length*esz) (hat:At w b o news):gC g H w pu esz rows news:=by
 refine ⟨by omega,fun i x hx=>?_⟩;have hi:=Ba hx;have hmul:i*esz+esz≤rows.length*esz:=by
  have:(i+1)*esz≤rows.length*esz:=gK _ hi
  rwa [dC,iZ] at this
 obtain ⟨vs,h1,h2,h3⟩:=vJ rows esz b o i x hR hx;rw [NJ hat h3 h1 (by omega)];refine ⟨h2,fun hp=>?_⟩;obtain ⟨us,k1,k2,k3⟩:=oR rows esz b o i x (hC hp) hx;have:us=vs:=by rw [← NJ hat h3 h1 (by omega),← NJ hat k3 k1 (by omega)]
 subst this;exact k2
theorem JH {l:List PV} {esz b o:Nat} (h:eI g H w l esz b o) (lo n:Nat):eI g H w ((l.drop lo).take n) esz b (o+lo*esz):=by
 refine Du _ _ _ _ fun i x hx=>?_
 rw [qU] at hx;split at hx
 ·rw [sM] at hx;obtain ⟨vs,h1,h2,h3⟩:=vJ l esz b o (lo+i) x h hx;exact ⟨vs,h1,h2,by rw [show o+lo*esz+i*esz=o+(lo+i)*esz from by rw [dC];omega];exact h3⟩
 ·cases hx
theorem mp (hr:Rel E nt g F H tmps w) {x:PV} {v:Value} {ys:List PV} {esz:Nat} {pu:Bool} (hz:0<esz) (h:VR g H w x v) (hy:yiw H x=some ys) (hh:hO esz ys=true) (hs:vC H pu x=true) :
  ∃ ad c news,v=.slice ad ys.length c∧ys.length≤c∧c≤maxLen∧news.length=ys.length*esz∧gC g H w pu esz ys news∧(ys≠[]→∃ b o,ad=some ⟨b,o,none⟩∧At w b o news):=by
 have nil:∀ ad c,v=.slice ad 0 c→c≤maxLen→ys=[]→∃ ad c news,v=.slice ad ys.length c∧ys.length≤c∧c≤maxLen∧news.length=ys.length*esz∧gC g H w pu esz ys news∧(ys≠[]→∃ b o,ad=some ⟨b,o,none⟩∧At w b o news):=by intro ad c hv hc hys;subst hys;subst hv;exact ⟨ad,c,[],rfl,kF _,hc,by simp,gC.nil,fun h=>absurd rfl h⟩
 have put:∀ (b o c:Nat) (rows:List PV),v=.slice (some ⟨b,o,none⟩) rows.length c→rows.length≤c→c≤maxLen→rows=ys→eI g H w rows esz b o→(pu=true→dN g.I w rows esz b o)→∃ ad c news,v=.slice ad ys.length c∧ys.length≤c∧c≤maxLen∧news.length=ys.length*esz∧gC g H w pu esz ys news∧(ys≠[]→∃ b o,ad=some ⟨b,o,none⟩∧At w b o news):=by intro b o c rows hv hc hm hys hR hC;subst hys;subst hv;obtain ⟨news,h1,h2⟩:=JG esz b rows o hR;exact ⟨_,c,news,rfl,hc,hm,h1,NK hR hC h1 h2,fun _=>⟨b,o,rfl,h2⟩⟩
 unfold yiw at hy;split at hy
 ·cases hy;simp only [VR] at h;exact nil _ _ h (kF _) rfl
 ·cases hy;simp only [VR] at h;obtain ⟨ad,h⟩:=h;exact nil _ _ h (kF _) rfl
 ·cases hy;simp only [VR] at h;obtain ⟨ad,c,h,hc,_⟩:=h;exact nil _ _ h hc rfl
 ·cases hy
  simp only [VR,RC] at h;obtain ⟨ad,len,cap,e1,hlen,hc,hm,hrest⟩:=h;simp only [kJ,and_true] at e1;subst hlen;rcases hrest with hrest | ⟨b,o1,esz',rfl,hI,hz',hrows⟩
  ·subst hrest;exact nil _ _ e1 hm rfl
  ·have he:ys=[]∨esz'=esz:=by
    cases ys with
    | nil=>exact .inl rfl
    | cons y r =>right;simp only [hO,beq_iff_eq] at hh;simp only [dN] at hrows;obtain ⟨⟨vs,q1,q2,_⟩,_⟩:=hrows;rw [← q1,Gk q2,hh]
   rcases he with he|rfl
   ·subst he;exact nil _ _ e1 hm rfl
   ·exact put b o1 cap ys e1 hc hm rfl (Nu hrows) (fun _=>hrows)
 ·rename_i id lo len ext cap;split at hy
  ·rename_i hb e;split at hy
   ·rename_i hcnd
    cases hy
    simp only [VR] at h;obtain ⟨hb',ad,c,e',hle,hv,hc,hm,hcc,hcond⟩:=h;rw [e] at e';cases e';obtain ⟨b,o1,hρ,hle2,had,hcap,cur,T,hh1,hfit⟩:=hcond hcnd.1;obtain ⟨b',o',hblk⟩:=hr.heap id hb e;have hat:=hblk.at_;rw [hρ] at hat;cases hat
    have hlen:((hb.rows.drop lo).take len).length=len:=by rw [kW,kD];omega
    by_cases hl0:len=0
    ·subst hl0;exact nil _ _ hv hm (by simp)
    ·have he:hb.esz=esz:=by
      cases hrw:(hb.rows.drop lo).take len with
      | nil=>rw [hrw] at hlen;simp at hlen;omega
      | cons y r =>rw [hrw] at hh;simp only [hO,beq_iff_eq] at hh;have hR:=JH hblk.rows lo len;rw [hrw] at hR;simp only [eI] at hR;obtain ⟨⟨vs,q1,q2,_⟩,_⟩:=hR;rw [← q1,JD q2,hh]
     have had':=had (by omega);simp only [vC,e,beq_iff_eq] at hs;refine put b (o1+lo*hb.esz) c _ (by rw [hlen,hv,had']) (by rw [hlen];exact hc) hm rfl ?_ ?_
     ·rw [← he];exact JH hblk.rows lo len
     ·intro hp;rw [← he];exact Jp (hblk.pure (by rw [hs];exact hp)) lo len
   ·cases hy
  ·cases hy
 ·cases hy
theorem At.addr {b o:Nat} {vs:List Value} (h:At w b o vs):∀ j v,vs[j]?=some v→w.cell? ((⟨b,o,none⟩:Addr).add j)=some v:=fun j v hj=>by rw [pP];exact h j v hj
theorem NL {t ty e:TypeId} {i:TypeInfo} (hu:P.underlying t=some (.slice e)) (hi:P.info? e=some i) {base ad:Option Addr} {sLen sCap c:Nat} (hle:sLen≤sCap) :
  (Builtin.append_ #[t,t] ty #[.slice base sLen sCap,.slice ad 0 c]).run P w=.ok (.slice base sLen sCap) w:=by
 cases base<;>cases ad<;>simp [Builtin.append_,run_underlying hu,sizeOf,typeInfo,hi,Builtin.lenOf,hle,Builtin.firstCells,loadCells,loadCellsFrom,storeCells]
theorem mq {t ty e:TypeId} {i:TypeInfo} (hu:P.underlying t=some (.slice e)) (hi:P.info? e=some i) {b o sLen sCap b2 o2 n c:Nat} {news:List Value} {cur:Array Value} {T:TypeId} (hc:w.heap[b]?=some (.cells cur T (0,0)))
  (hl:news.length=n*i.size) (hat:At w b2 o2 news) (h1:∀ u∈news,u.oneCell'=true) (hle:sLen+n≤sCap) (hfit:o+sLen*i.size+news.length≤cur.size) :
  (Builtin.append_ #[t,t] ty #[.slice (some ⟨b,o,none⟩) sLen sCap,.slice (some ⟨b2,o2,none⟩) n c]).run P w=.ok (.slice (some ⟨b,o,none⟩) (sLen+n) sCap) (w.setRow b (eJ cur.toList (o+sLen*i.size) news).toArray):=by
 have hf:=run_firstCells_some (P:=P) w i.size n ⟨b2,o2,none⟩ n c news hl hat.addr;have hst:=run_storeCells_at P b (o+sLen*i.size) T news 0 cur w hc (by simpa using hfit) h1;simp only [uY,lX] at hst;simp [Builtin.append_,run_underlying hu,sizeOf,typeInfo,hi,Builtin.lenOf,hle,hf,pP,hst,eJ]
theorem NM (hr:Rel E nt g F H tmps w) {t ty e:TypeId} {sz bytes:Nat} {pu pu':Bool} {z:PV} {olds ys:List PV} {base:Option Addr} {sLen sCap b2 o2 c:Nat} {oc news:List Value} {q:PV×Hp}
  (hu:P.underlying t=some (.slice e)) (hs:ydo P e=some sz) (hby:pN P e=some bytes) (hz:ycL P e=some (pu',z)) (hq:ydm H pu sz bytes (olds++ys)=some q) (hol:olds.length=sLen)
  (hlo:gC g H w pu sz olds oc) (hlo2:oc.length=sLen*sz) (hln:gC g H w pu sz ys news) (hln2:news.length=ys.length*sz) (hatn:At w b2 o2 news) (hk:ys≠[]) (hgt:sCap<sLen+ys.length)
  (hbase:(base=none∧sLen=0∧sCap=0)∨∃ ba,base=some ba∧∀ j v,oc[j]?=some v→w.cell? (ba.add j)=some v) :
  ∃ v w' g',(Builtin.append_ #[t,t] ty #[.slice base sLen sCap,.slice (some ⟨b2,o2,none⟩) ys.length c]).run P w=.ok v w'∧Nx g g' H q.2 w w'∧Rel E nt g' F q.2 tmps w'∧VR g' q.2 w' q.1 v:=by
 obtain ⟨_,hpos,i0,hi0,hi0s⟩:=mO (P:=P) (w:=w) hs;have hbytes:i0.bytes=bytes:=by unfold pN at hby;rw [hi0] at hby;cases hby;rfl
 obtain ⟨i1,v0,hi1,hv0,_,_,_⟩:=zU (P:=P) (g:=g) (H:=H) (w:=w) hz;rw [hi0] at hi1;cases hi1;unfold ydm at hq;split at hq
 ·rename_i hroom
  cases hq
  have hrows:(olds++ys).length=sLen+ys.length:=by rw [dM,hol]
  rw [hrows] at hroom;have hr45:(sLen+ys.length+64)*(bytes+1)≤35184372088832:=hroom;have hneed:sLen+ys.length≤35184372088832:=by
   have:sLen+ys.length+64≤(sLen+ys.length+64)*(bytes+1):=yR _ (by omega);omega
  have hnb:(sLen+ys.length)*bytes≤35184372088832:=jT (wR (by omega) (by omega)) hr45;have hkp:0<ys.length:=List.length_pos_iff.2 hk;have hsz0:news.length=ys.length*i0.size:=by rw [hln2,hi0s]
  let nc:=grownCap w (sLen+ys.length) sCap e;have hge:sLen+ys.length≤nc:=grownCap_ge w _ _ _;have hcm:nc≤maxLen:=grownCap_le_maxLen w _ _ _ (by unfold maxLen;omega);have hrun:(Builtin.append_ #[t,t] ty #[.slice base sLen sCap,.slice (some ⟨b2,o2,none⟩) ys.length c]).run P w=.ok (.slice (some ⟨w.heap.size,0,none⟩) (sLen+ys.length) nc) (w.drew.alloc (.cells (oc++news++(Builtin.zeroCells v0.cells (nc-(sLen+ys.length))).toList).toArray e)):=by
   rcases hbase with ⟨rfl,rfl,rfl⟩|⟨ba,rfl,holds⟩
   ·have hoc:oc=[]:=CV (by simpa using hlo2);subst hoc;have:=run_append_nil (P:=P) w t ty e i0 v0 hu hi0 hv0 ⟨b2,o2,none⟩ ys.length c news hsz0 hatn.addr hkp (by omega) (by rw [hbytes];simp only [iK] at hnb;omega);simp only [iK] at this ⊢;rw [this];simp only [nc,iK,pH];congr 2;simp
   ·have:=run_append_grow (P:=P) w t ty e i0 v0 hu hi0 hv0 ba sLen sCap oc (by rw [hlo2,hi0s]) holds ⟨b2,o2,none⟩ ys.length c news hsz0 hatn.addr hgt (by omega) (growslice_fits (by omega) (by rw [hbytes];omega));rw [this];simp only [nc];congr 2;simp
  obtain ⟨r1,n1⟩:Rel E nt g F H tmps w.drew∧Nx g g H H w w.drew:=⟨hr.drew,Nx.drew g H w⟩;have hl:=(hlo.append (rest:=(Builtin.zeroCells v0.cells (nc-(sLen+ys.length))).toList) (by rw [hlo2,hol]) hln).on n1.on;have hlen1:oc.length+news.length=(sLen+ys.length)*sz:=by rw [hlo2,hln2,dC]
  have hsegl:∀ i x,(olds++ys)[i]?=some x→(cT (oc++news++(Builtin.zeroCells v0.cells (nc-(sLen+ys.length))).toList) (i*sz) sz).length=sz:=by intro i x hx;have hi:=Ba hx;rw [hrows] at hi;apply zV;have:(i+1)*sz≤(sLen+ys.length)*sz:=gK _ hi;rw [dC,iZ] at this;simp only [dM];omega
  obtain ⟨g2,r2,n2,hρ⟩:=r1.newBlk (hb:=⟨false,pu,sz,olds++ys⟩) (cs:=(oc++news++(Builtin.zeroCells v0.cells (nc-(sLen+ys.length))).toList).toArray) (T:=e) hpos rfl (by simpa using hl.1)
   (fun i x hx=>⟨_,hsegl i x hx,(hl.2 i x hx).1,by rw [hsegl i x hx];rfl⟩)
   (fun hp i x hx=>⟨_,hsegl i x hx,(hl.2 i x hx).2 hp,by rw [hsegl i x hx];rfl⟩)
  refine ⟨_,_,g2,hrun,n1.trans n2,r2,?_⟩;simp only [VR];have hzc:v0.cells.size=sz:=by
   have:=DD hz hs (w:=w) (v:=v0) (by simp [zeroValue,typeInfo,hi0,hv0]);exact this
  refine ⟨⟨false,pu,sz,olds++ys⟩,_,nc,by simp,by simp,by rw [hrows],by rw [hrows];exact hge,hcm,(fun c0 e0=>by cases e0),fun _=>?_⟩;refine ⟨w.heap.size,0,hρ,by omega,fun _=>by simp,by simp only [mK,hrows];omega,_,e,sW w.drew _,?_⟩;simp only [iK,List.size_toArray,dM,Da,Builtin.zeroCells,Array.size_map,Array.size_range,hzc];have:nc*sz=(sLen+ys.length)*sz+(nc-(sLen+ys.length))*sz:=by rw [← dC];congr 1;omega
  omega
 ·cases hq
theorem mr (hr:Rel E nt g F H tmps w) {t ty e:TypeId} {sz:Nat} {id b o lo len _ext sCap b2 o2 c:Nat} {cap:Option Nat} {hb:HB} {rows' ys:List PV} {news:List Value} {cur:Array Value} {T:TypeId}
  (hu:P.underlying t=some (.slice e)) (hs:ydo P e=some sz) (hid:H[id]?=some hb) (hf:hb.fz=false) (hρ:g.ρ id=some (b,o)) (hcu:w.heap[b]?=some (.cells cur T (0,0))) (hesz:hb.esz=sz)
  (hln:gC g H w hb.pu sz ys news) (hln2:news.length=ys.length*sz) (hatn:At w b2 o2 news) (hle:len+ys.length≤sCap) (hfit:o+(lo+len+ys.length)*sz≤cur.size) (hlo:lo+len≤hb.rows.length)
  (hrows:rows'=hb.rows.take (lo+len)++(ys++hb.rows.drop (lo+len+ys.length))) (hmax:sCap≤maxLen) (hcc:∀ c0,cap=some c0→sCap=c0)
  (hcap:mK lo sCap rows'.length cap) (hroom:o+(lo+sCap)*sz≤cur.size) (hbl:o+hb.rows.length*sz≤cur.size) :
  ∃ v w',(Builtin.append_ #[t,t] ty #[.slice (some ⟨b,o+lo*sz,none⟩) len sCap,.slice (some ⟨b2,o2,none⟩) ys.length c]).run P w=.ok v w'∧Nx g g H (H.set id { hb with rows:=rows' }) w w' ∧
   Rel E nt g F (H.set id { hb with rows:=rows' }) tmps w'∧VR g (H.set id { hb with rows:=rows' }) w' (.own id lo (len+ys.length) rows'.length cap) v:=by
 obtain ⟨_,hpos,i0,hi0,hi0s⟩:=mO (P:=P) (w:=w) hs;have hmulfit:(lo+len+ys.length)*sz=(lo+len)*sz+ys.length*sz:=dC ..;have hoff:o+lo*sz+len*sz=o+(lo+len)*sz:=by rw [dC];omega
 have hspl:o+(lo+len)*sz+news.length≤cur.toList.length:=by simp;omega
 have hrun:=mq (P:=P) (t:=t) (ty:=ty) hu hi0 (b:=b) (o:=o+lo*sz) (sLen:=len) (sCap:=sCap) (c:=c) hcu (by rw [hln2,hi0s]) hatn (gC.one hpos hln hln2) hle (by rw [hi0s,hoff];simpa using hspl);rw [hi0s,hoff] at hrun;have hrl:rows'.length=max hb.rows.length (lo+len+ys.length):=by rw [hrows];simp only [dM,kW,kD];omega
 obtain ⟨b',o',hblk⟩:=hr.heap id hb hid;have hat:=hblk.at_;rw [hρ] at hat;cases hat
 have hsegs:∀ j y,rows'[j]?=some y→∃ us,us.length=hb.esz∧bA g H w y us∧(hb.pu=true→RC g.I w y us)∧cT (eJ cur.toList (o+(lo+len)*sz) news) (o+j*hb.esz) hb.esz=us:=by
  intro j y hj;rw [hesz];rw [hrows,pF] at hj;have old:∀ j y,hb.rows[j]?=some y→(j<lo+len∨lo+len+ys.length≤j)→∃ us,us.length=sz∧bA g H w y us∧(hb.pu=true→RC g.I w y us)∧cT (eJ cur.toList (o+(lo+len)*sz) news) (o+j*sz) sz=us:=by
   intro j y hj hd;obtain ⟨us,hu1,hu2,hu3⟩:=vJ hb.rows hb.esz b o j y hblk.rows hj;rw [hesz] at hu1 hu3;refine ⟨us,hu1,hu2,fun hp=>?_,?_⟩
   ·obtain ⟨us2,hv2,hrc2,hat2⟩:=oR hb.rows hb.esz b o j y (hblk.pure hp) hj;rw [hesz] at hv2 hat2;have:us2=us:=by
     have e5:=At.to_cells hcu hat2;have e6:=At.to_cells hcu hu3;rw [hv2] at e5;rw [hu1] at e6;rw [← e5,← e6]
    subst this;exact hrc2
   ·have hd':o+j*sz+sz≤o+(lo+len)*sz∨o+(lo+len)*sz+news.length≤o+j*sz:=by
     rcases hd with h1|h1
     ·left;have:(j+1)*sz≤(lo+len)*sz:=gK _ h1;rw [dC,iZ] at this;omega
     ·right;have:(lo+len+ys.length)*sz≤j*sz:=gK _ h1;omega
    rw [JB hspl hd'];have e6:=At.to_cells hcu hu3;rw [hu1] at e6;exact e6
  split at hj
  ·rename_i hlt';rw [qU] at hj;split at hj
   ·exact old j y hj (.inl (by assumption))
   ·cases hj
  ·rename_i hge;have htl:(hb.rows.take (lo+len)).length=lo+len:=by rw [kW];omega
   rw [htl] at hj hge;rw [pF] at hj;split at hj
   ·rename_i hlt2;obtain ⟨h1,h2⟩:=hln.2 _ y hj;have hmul:(j-(lo+len))*sz+sz≤ys.length*sz:=by
     have:(j-(lo+len)+1)*sz≤ys.length*sz:=gK _ hlt2
     rwa [dC,iZ] at this
    have hjm:j*sz=(lo+len)*sz+(j-(lo+len))*sz:=by rw [← dC];congr 1;omega
    refine ⟨cT news ((j-(lo+len))*sz) sz,zV (by omega),h1,h2,?_⟩;apply qV;intro k;rw [rI,rI]
    by_cases hk:k<sz
    ·rw [WM hk,WM hk,DA hspl,WN (by omega),WM (by omega)];congr 1;omega
    ·rw [WN hk,WN hk]
   ·rename_i hge2;rw [sM] at hj;have e:lo+len+ys.length+(j-(lo+len)-ys.length)=j:=by omega
    rw [e] at hj;exact old j y hj (.inr (by omega))
 have hfit':o+rows'.length*hb.esz≤cur.size:=by
  rw [hesz,hrl];rcases Nat.le_total hb.rows.length (lo+len+ys.length) with h1 | h1
  ·rw [Nat.max_eq_right h1];exact hfit
  ·rw [Nat.max_eq_left h1];exact hbl
 obtain ⟨r2,n2⟩:=hr.setBlk (cs:=(eJ cur.toList (o+(lo+len)*sz) news).toArray) (rows':=rows') hid hf hρ hcu (by simp [rH hspl]) (by omega) (by simpa [rH hspl] using hfit')
  (fun j y hj=>by
   obtain ⟨us,h1,h2,h3,h4⟩:=hsegs j y hj;exact ⟨us,h1,h2,by rw [h1];exact h4⟩)
  (fun hp j y hj=>by
   obtain ⟨us,h1,h2,h3,h4⟩:=hsegs j y hj;exact ⟨us,h1,h3 hp,by rw [h1];exact h4⟩)
 refine ⟨_,_,hrun,n2,r2,?_⟩;simp only [VR];refine ⟨{ hb with rows:=rows' },_,sCap,by rw [sK (hlt hid)],bW _,rfl,hle,hmax,hcc,fun _=>?_⟩;refine ⟨b,o,hρ,by omega,fun _=>by rw [hesz],hcap,_,T,setRow_heap w b cur _ T (0,0) hcu,?_⟩;simp only [List.size_toArray,rH hspl,Da,hesz];exact hroom
theorem ms (hr:Rel E nt g F H tmps w) {sz:Nat} {id b o lo:Nat} {hb:HB} {rows' ys:List PV} {news:List Value} {cur:Array Value} {T:TypeId}
  (hid:H[id]?=some hb) (hf:hb.fz=false) (hρ:g.ρ id=some (b,o)) (hcu:w.heap[b]?=some (.cells cur T (0,0))) (hesz:hb.esz=sz)
  (hln:gC g H w hb.pu sz ys news) (hln2:news.length=ys.length*sz) (hlo:lo+ys.length≤hb.rows.length)
  (hrows:rows'=hb.rows.take lo++(ys++hb.rows.drop (lo+ys.length))) (hbl:o+hb.rows.length*sz≤cur.size) :
  Nx g g H (H.set id { hb with rows:=rows' }) w (w.setRow b (eJ cur.toList (o+lo*sz) news).toArray)∧Rel E nt g F (H.set id { hb with rows:=rows' }) tmps (w.setRow b (eJ cur.toList (o+lo*sz) news).toArray):=by
 have hmulfit:(lo+ys.length)*sz=lo*sz+ys.length*sz:=dC ..;have hmulle:(lo+ys.length)*sz≤hb.rows.length*sz:=gK _ hlo;have hspl:o+lo*sz+news.length≤cur.toList.length:=by simp;omega
 have hrl:rows'.length=hb.rows.length:=by rw [hrows];simp only [dM,kW,kD];omega
 obtain ⟨b',o',hblk⟩:=hr.heap id hb hid;have hat:=hblk.at_;rw [hρ] at hat;cases hat
 have hsegs:∀ j y,rows'[j]?=some y→∃ us,us.length=hb.esz∧bA g H w y us∧(hb.pu=true→RC g.I w y us)∧cT (eJ cur.toList (o+lo*sz) news) (o+j*hb.esz) hb.esz=us:=by
  intro j y hj;rw [hesz];rw [hrows,pF] at hj;have old:∀ j y,hb.rows[j]?=some y→(j<lo∨lo+ys.length≤j)→∃ us,us.length=sz∧bA g H w y us∧(hb.pu=true→RC g.I w y us)∧cT (eJ cur.toList (o+lo*sz) news) (o+j*sz) sz=us:=by
   intro j y hj hd;obtain ⟨us,hu1,hu2,hu3⟩:=vJ hb.rows hb.esz b o j y hblk.rows hj;rw [hesz] at hu1 hu3;refine ⟨us,hu1,hu2,fun hp=>?_,?_⟩
   ·obtain ⟨us2,hv2,hrc2,hat2⟩:=oR hb.rows hb.esz b o j y (hblk.pure hp) hj;rw [hesz] at hv2 hat2;have:us2=us:=by
     have e5:=At.to_cells hcu hat2;have e6:=At.to_cells hcu hu3;rw [hv2] at e5;rw [hu1] at e6;rw [← e5,← e6]
    subst this;exact hrc2
   ·have hd':o+j*sz+sz≤o+lo*sz∨o+lo*sz+news.length≤o+j*sz:=by
     rcases hd with h1|h1
     ·left;have:(j+1)*sz≤lo*sz:=gK _ h1;rw [dC,iZ] at this;omega
     ·right;have:(lo+ys.length)*sz≤j*sz:=gK _ h1;omega
    rw [JB hspl hd'];have e6:=At.to_cells hcu hu3;rw [hu1] at e6;exact e6
  split at hj
  ·rename_i hlt';rw [qU] at hj;split at hj
   ·exact old j y hj (.inl (by assumption))
   ·cases hj
  ·rename_i hge;have htl:(hb.rows.take lo).length=lo:=by rw [kW];omega
   rw [htl] at hj hge;rw [pF] at hj;split at hj
   ·rename_i hlt2;obtain ⟨h1,h2⟩:=hln.2 _ y hj;have hmul:(j-lo)*sz+sz≤ys.length*sz:=by
     have:(j-lo+1)*sz≤ys.length*sz:=gK _ hlt2
     rwa [dC,iZ] at this
    have hjm:j*sz=lo*sz+(j-lo)*sz:=by rw [← dC];congr 1;omega
    refine ⟨cT news ((j-lo)*sz) sz,zV (by omega),h1,h2,?_⟩;apply qV;intro k;rw [rI,rI]
    by_cases hk:k<sz
    ·rw [WM hk,WM hk,DA hspl,WN (by omega),WM (by omega)];congr 1;omega
    ·rw [WN hk,WN hk]
   ·rename_i hge2;rw [sM] at hj;have e:lo+ys.length+(j-lo-ys.length)=j:=by omega
    rw [e] at hj;exact old j y hj (.inr (by omega))
 obtain ⟨r2,n2⟩:=hr.setBlk (cs:=(eJ cur.toList (o+lo*sz) news).toArray) (rows':=rows') hid hf hρ hcu (by simp [rH hspl]) (by omega) (by rw [hrl,hesz];simpa [rH hspl] using hbl)
  (fun j y hj=>by
   obtain ⟨us,h1,h2,h3,h4⟩:=hsegs j y hj;exact ⟨us,h1,h2,by rw [h1];exact h4⟩)
  (fun hp j y hj=>by
   obtain ⟨us,h1,h2,h3,h4⟩:=hsegs j y hj;exact ⟨us,h1,h3 hp,by rw [h1];exact h4⟩)
 exact ⟨n2,r2⟩
theorem mu (hr:Rel E nt g F H a.tmps w) {c:Call} {s x:Operand} {s' x':Opd} {t e:TypeId} {pu:Bool} {sz bytes:Nat} {z:PV} (ho:o.op=.call c) (hc:c.callee=.builtin .append) (hargs:c.args.toList=[s,x]) (hts:c.argTypes.toList=[t,t])
  (hu:P.underlying t=some (.slice e)) (hs:ydo P e=some sz) (hby:pN P e=some bytes) (hz:ycL P e=some (pu,z)) (hsx:opd s=some s') (hx:opd x=some x') {call} (h:yas E call F H (.app pu sz bytes s' x')=some out) :
  bS E nt g F H a.tmps w out ((execOp a.eval o).run P w):=by
 obtain ⟨_,hpos,i0,hi0,hi0s⟩:=mO (P:=P) (w:=w) hs;have ha:c.args=#[s,x]:=by rw [← qW];simpa using hargs
 have ht:c.argTypes=#[t,t]:=by rw [← qW];simpa using hts
 have fin:∀ {q:PV×Hp} {v:Value} {w':World} {g':Gh},(Builtin.append_ #[t,t] o.type #[a.eval s,a.eval x]).run P w=.ok v w'→Nx g g' H q.2 w w'→Rel E nt g' F q.2 a.tmps w'→VR g' q.2 w' q.1 v→bS E nt g F H a.tmps w ⟨some (.v q.1),none,q.2⟩ ((execOp a.eval o).run P w):=by intro q v w' g' hrun hn hr' hv;refine ⟨v,w',g',.inl ?_,hn,hr',hv⟩;simp [execOp,ho,resolve,hc,ha,ht,invoke,builtin,hrun]
 simp only [yas] at h;split at h
 ·rename_i p q hp hq;have hvs:=cS hr hsx hp;have hvx:=cS hr hx hq;split at h
  ·rename_i r H1 happ;rw [cW h];unfold appV at happ;split at happ
   ·cases happ
   ·rename_i ys hys;split at happ
    ·rename_i hcnd;obtain ⟨ad,c2,news,e1,_,_,hnl,hlie,hat⟩:=mp hr hpos hvx hys hcnd.1 hcnd.2;split at happ
     ·simp only [VR] at hvs;split at happ
      ·rename_i hemp
       cases happ
       have:ys=[]:=by simpa using hemp
       subst this;exact fin (q:=(.nils,H)) (by rw [hvs,e1];exact NL hu hi0 (kF _)) (Nx.refl g H w) hr (by simp [VR])
      ·rename_i hemp;have hne:ys≠[]:=by simpa using hemp
       obtain ⟨b2,o2,rfl,hatn⟩:=hat hne;obtain ⟨v,w',g',hrun,hn,hr',hv⟩:=NM (ty:=o.type) (olds:=[]) (oc:=[]) (base:=none) (sLen:=0) (sCap:=0) (c:=c2) hr hu hs hby hz (by simpa using happ) rfl gC.nil (by simp) hlie hnl hatn hne (by have:=List.length_pos_iff.2 hne;omega) (.inl ⟨rfl,rfl,rfl⟩);exact fin (by rw [hvs,e1];exact hrun) hn hr' hv
     ·simp only [VR] at hvs;obtain ⟨ad0,hvs⟩:=hvs;split at happ
      ·rename_i hemp
       cases happ
       have:ys=[]:=by simpa using hemp
       subst this;exact fin (q:=(.emp,H)) (by rw [hvs,e1];exact NL hu hi0 (kF _)) (Nx.refl g H w) hr (by simp [VR])
      ·rename_i hemp;have hne:ys≠[]:=by simpa using hemp
       obtain ⟨b2,o2,rfl,hatn⟩:=hat hne;obtain ⟨v,w',g',hrun,hn,hr',hv⟩:=NM (ty:=o.type) (olds:=[]) (oc:=[]) (base:=ad0) (sLen:=0) (sCap:=0) (c:=c2) hr hu hs hby hz (by simpa using happ) rfl gC.nil (by simp) hlie hnl hatn hne (by have:=List.length_pos_iff.2 hne;omega)
        (by cases ad0 with
          | none=>exact .inl ⟨rfl,rfl,rfl⟩
          | some ba=>exact .inr ⟨ba,rfl,fun j v hj=>by simp at hj⟩)
       exact fin (by rw [hvs,e1];exact hrun) hn hr' hv
     ·rename_i id lo len ext cap;have hvs':=hvs;simp only [VR] at hvs;obtain ⟨hb,ad0,cc,e2,hle,hv0,hcl,hcm,hcc,hcond⟩:=hvs;split at happ
      ·rename_i hb' e3;rw [e2] at e3;cases e3;split at happ
       ·rename_i hk;obtain ⟨k1,k2,k3,k4⟩:=hk;obtain ⟨b,o1,hρ,hle2,had,hcap,cur,T,hcu,hroom⟩:=hcond k1;obtain ⟨b',o',hblk⟩:=hr.heap id hb e2;have hat0:=hblk.at_;rw [hρ] at hat0;cases hat0;obtain ⟨cur',T',hcu',hbl⟩:=hblk.cells;rw [hcu] at hcu';cases hcu';rw [k3] at hroom hbl;split at happ
        ·rename_i hemp
         cases happ
         have:ys=[]:=by simpa using hemp
         subst this;exact fin (q:=(.own id lo len ext cap,H)) (by rw [hv0,e1];exact NL hu hi0 hcl) (Nx.refl g H w) hr (by rw [← hv0];exact hvs')
        ·rename_i hemp;have hne:ys≠[]:=by simpa using hemp
         obtain ⟨b2,o2,rfl,hatn⟩:=hat hne;have hkp:=List.length_pos_iff.2 hne;have olds:(hb.rows.drop lo).take len=(hb.rows.drop lo).take len∧((hb.rows.drop lo).take len).length=len:=⟨rfl,by rw [kW,kD];omega⟩;have hR:=JH hblk.rows lo len;have hC:=fun hp=>Jp (hblk.pure hp) lo len
         rw [k3] at hR hC;have grow:∀ {q:PV×Hp},ydm H pu sz bytes ((hb.rows.drop lo).take len++ys)=some q→cc<len+ys.length→bS E nt g F H a.tmps w ⟨some (.v q.1),none,q.2⟩ ((execOp a.eval o).run P w):=by
          intro q hfr hgt;obtain ⟨oc,hoc1,hoc2⟩:=JG sz b _ _ hR;rw [olds.2] at hoc1;have hlo:=NK (pu:=pu) hR (fun hp=>hC (by rw [k2];exact hp)) (by rw [olds.2];exact hoc1) hoc2;have hbase:∀ j v,oc[j]?=some v→w.cell? (ad0.add j)=some v:=by
           intro j v hj;have:cc≠0:=by
            intro h0;have hl0:len=0:=by omega
            rw [hl0] at hoc1;have:oc=[]:=CV (by simpa using hoc1);subst this;simp at hj
           rw [had this,k3];exact hoc2.addr j v hj
          obtain ⟨v,w',g',hrun,hn,hr',hv⟩:=NM (ty:=o.type) (base:=some ad0) (sCap:=cc) (c:=c2) hr hu hs hby hz hfr olds.2 hlo hoc1 hlie hnl hatn hne hgt (.inr ⟨ad0,rfl,hbase⟩);exact fin (by rw [hv0,e1];exact hrun) hn hr' hv
         have inpl:∀ {rows':List PV},hb.fz=false→len+ys.length≤cc→rows'=hb.rows.take (lo+len)++(ys++hb.rows.drop (lo+len+ys.length))→o1+(lo+len+ys.length)*sz≤cur.size→mK lo cc rows'.length cap →
           bS E nt g F H a.tmps w ⟨some (.v (.own id lo (len+ys.length) rows'.length cap)),none,H.set id { hb with rows:=rows' }⟩ ((execOp a.eval o).run P w):=by
          intro rows' hfz hin hrows hfit hcap';rw [← k2] at hlie;obtain ⟨v,w',hrun,hn,hr',hv⟩:=mr (ty:=o.type) (c:=c2) (lo:=lo) (len:=len) (sCap:=cc) (_ext:=ext) (cap:=cap) hr hu hs e2 hfz hρ hcu k3 hlie hnl hatn hin hfit (by omega) hrows hcm hcc hcap' hroom hbl;refine fin (q:=(.own id lo (len+ys.length) rows'.length cap,H.set id { hb with rows:=rows' })) ?_ hn hr' hv;rw [hv0,e1,had (by omega),k3];exact hrun
         cases cap with
         | some c0=>
          have hc0:=hcc c0 rfl;subst hc0;simp only [nC] at happ;simp only [mK] at hcap
          by_cases hin:len+ys.length≤cc
          ·rw [WM hin] at happ
           by_cases hfz:hb.fz=false
           ·rw [WM hfz] at happ
            cases happ
            have hrl:(hb.rows.take (lo+len)++(ys++hb.rows.drop (lo+len+ys.length))).length=ext:=by simp only [dM,kW,kD];omega
            have:=inpl (rows':=hb.rows.take (lo+len)++(ys++hb.rows.drop (lo+len+ys.length))) hfz hin rfl (by
             refine jT (Nat.add_le_add_left (gK _ ?_) _) hbl;omega) (by simp only [mK];rw [hrl];exact hcap)
            rw [hrl] at this;exact this
           ·rw [WN hfz] at happ;cases happ
          ·rw [WN hin] at happ;exact grow happ (by omega)
         | none=>
          simp only [nC] at happ;simp only [mK] at hcap
          by_cases hfz:hb.fz=true
          ·rw [WM hfz] at happ;cases happ
          ·rw [WN hfz] at happ;have hfz:hb.fz=false:=by simpa using hfz
           by_cases hin:lo+len+ys.length≤ext
           ·rw [WM hin] at happ
            cases happ
            have hrl:(hb.rows.take (lo+len)++(ys++hb.rows.drop (lo+len+ys.length))).length=ext:=by simp only [dM,kW,kD];omega
            have:=inpl (rows':=hb.rows.take (lo+len)++(ys++hb.rows.drop (lo+len+ys.length))) hfz (by omega) rfl (by
             refine jT (Nat.add_le_add_left (gK _ ?_) _) hbl;omega) (by simp only [mK];rw [hrl];exact hcap)
            rw [hrl] at this;exact this
           ·rw [WN hin] at happ
            by_cases hg:lo=0∧len≤ext∧(len+ys.length+64)*(bytes+1)≤room
            case neg=>rw [WN hg] at happ;cases happ
            case pos=>
             rw [WM hg] at happ;obtain ⟨rfl,hle',hroomE⟩:=hg
             cases happ
             by_cases hin:len+ys.length≤cc
             ·have hrows:hb.rows.take len++ys=hb.rows.take (0+len)++(ys++hb.rows.drop (0+len+ys.length)):=by
               rw [iK,pD (by omega)];simp
              have hrl:(hb.rows.take len++ys).length=len+ys.length:=by rw [dM,kW,k1,Dh hle']
              have:=inpl (rows':=hb.rows.take len++ys) hfz hin hrows (by
               refine jT (Nat.add_le_add_left (gK _ ?_) _) hroom;omega) (by simp only [mK];rw [hrl];omega)
              rw [hrl] at this;exact this
             ·-- the block moves
              have hlt':(hb.rows.take len).length=len:=by rw [kW,k1,Dh hle']
              have hR':=hR;have hC':=fun hp=>hC hp
              rw [qX,Nat.zero_mul,uY] at hR' hC';obtain ⟨oc,hoc1,hoc2⟩:=JG sz b _ _ hR';have hlo:=NK (pu:=pu) hR' (fun hp=>hC' (by rw [k2];exact hp)) hoc1 hoc2;rw [hlt'] at hoc1;have hbase:∀ j v,oc[j]?=some v→w.cell? (ad0.add j)=some v:=by
               intro j v hj;have:cc≠0:=by
                intro h0;have hl0:len=0:=by omega
                rw [hl0] at hoc1;have:oc=[]:=CV (by simpa using hoc1);subst this;simp at hj
               rw [had this,Nat.zero_mul,uY];exact hoc2.addr j v hj
              obtain ⟨i1,v0,hi1,hv0z,hz1,_,_⟩:=zU (P:=P) (g:=g) (H:=H) (w:=w) hz;rw [hi0] at hi1;cases hi1;have hbytes:i0.bytes=bytes:=by unfold pN at hby;rw [hi0] at hby;cases hby;rfl
              have hr45:(len+ys.length+64)*(bytes+1)≤35184372088832:=hroomE;have hneed:len+ys.length≤35184372088832:=by have:len+ys.length+64≤(len+ys.length+64)*(bytes+1):=yR _ (by omega);omega
              have hnb:(len+ys.length)*bytes≤35184372088832:=jT (wR (by omega) (by omega)) hr45;have hrun:=run_append_grow (P:=P) w t o.type e i0 v0 hu hi0 hv0z ad0 len cc oc (by rw [hoc1,hi0s]) hbase ⟨b2,o2,none⟩ ys.length c2 news (by rw [hnl,hi0s]) hatn.addr (by omega) (by omega) (growslice_fits (by omega) (by rw [hbytes];omega));have hge:len+ys.length≤grownCap w (len+ys.length) cc e:=grownCap_ge w _ _ _;have hcm2:grownCap w (len+ys.length) cc e≤maxLen:=grownCap_le_maxLen w _ _ _ (by unfold maxLen;omega);have hcells:(oc.toArray++news.toArray++Builtin.zeroCells v0.cells (grownCap w (len+ys.length) cc e-(len+ys.length)))=(oc++news++(Builtin.zeroCells v0.cells (grownCap w (len+ys.length) cc e-(len+ys.length))).toList).toArray:=by simp
              rw [hcells] at hrun;have hl:=(hlo.append (rest:=(Builtin.zeroCells v0.cells (grownCap w (len+ys.length) cc e-(len+ys.length))).toList) (by rw [hoc1,hlt']) hlie).on (On.drew g H w);have hlen1:oc.length+news.length=(len+ys.length)*sz:=by rw [hoc1,hnl,dC]
              have hsegl:∀ i x,(hb.rows.take len++ys)[i]?=some x→(cT (oc++news++(Builtin.zeroCells v0.cells (grownCap w (len+ys.length) cc e-(len+ys.length))).toList) (i*sz) sz).length=sz:=by intro i x hx;have hi:=Ba hx;rw [dM,hlt'] at hi;apply zV;have:(i+1)*sz≤(len+ys.length)*sz:=gK _ hi;rw [dC,iZ] at this;simp only [dM];omega
              obtain ⟨g2,r2,n2,hρ2⟩:=hr.drew.growBlk (rows':=hb.rows.take len++ys) (cs:=(oc++news++(Builtin.zeroCells v0.cells (grownCap w (len+ys.length) cc e-(len+ys.length))).toList).toArray) (T:=e) e2 hfz (by rw [dM,hlt',k1];omega) (by rw [k3];simpa [hlt',k1] using hl.1)
               (fun i x hx=>⟨_,by rw [k3];exact hsegl i x hx,(hl.2 i x hx).1,by rw [k3,hsegl i x hx];rfl⟩)
               (fun hp i x hx=>⟨_,by rw [k3];exact hsegl i x hx,(hl.2 i x hx).2 (by rw [← k2];exact hp),by rw [k3,hsegl i x hx];rfl⟩)
              refine fin (q:=(.own id 0 (len+ys.length) (len+ys.length) none,H.set id { hb with rows:=hb.rows.take len++ys })) (by rw [hv0,e1];exact hrun) ((Nx.drew g H w).trans n2) r2 ?_;simp only [VR];have hzc:v0.cells.size=sz:=by rw [hz1,hi0s]
              refine ⟨{ hb with rows:=hb.rows.take len++ys },_,_,by rw [sK (hlt e2)],by simp [hlt'],rfl,hge,hcm2,(fun c0 e0=>by cases e0),fun _=>?_⟩;refine ⟨w.heap.size,0,hρ2,by omega,fun _=>by simp,by simp only [mK];omega,_,e,sW w.drew _,?_⟩;simp only [iK,List.size_toArray,dM,Da,Builtin.zeroCells,Array.size_map,Array.size_range,hzc,k3];have:grownCap w (len+ys.length) cc e*sz=(len+ys.length)*sz+(grownCap w (len+ys.length) cc e-(len+ys.length))*sz:=by rw [← dC];congr 1;omega
              omega
       ·cases happ
      ·cases happ
     ·cases happ
    ·cases happ
  ·cases h
 ·cases h
theorem mw (hr:Rel E nt g F H a.tmps w) {c:Call} {s x:Operand} {s' x':Opd} {t t' e:TypeId} {kn:IntKind} {pu:Bool} {sz bytes:Nat} {z:PV} (ho:o.op=.call c) (hc:c.callee=.builtin .append) (hargs:c.args.toList=[s,x]) (hts:c.argTypes.toList=[t,t'])
  (hu:P.underlying t=some (.slice e)) (hk:P.underlying t'=some (.int kn)) (hs:ydo P e=some sz) (hby:pN P e=some bytes) (hz:ycL P e=some (pu,z)) (hsx:opd s=some s') (hx:opd x=some x') {call} (h:yas E call F H (.appZ pu sz bytes z s' x')=some out) :
  bS E nt g F H a.tmps w out ((execOp a.eval o).run P w):=by
 obtain ⟨_,hpos,i0,hi0,hi0s⟩:=mO (P:=P) (w:=w) hs;have hbytes:i0.bytes=bytes:=by unfold pN at hby;rw [hi0] at hby;cases hby;rfl
 obtain ⟨i1,v0,hi1,hv0,hvs,z1,z2⟩:=zU (P:=P) (g:=g) (H:=H) (w:=w) hz;rw [hi0] at hi1;cases hi1;have ha:c.args=#[s,x]:=by rw [← qW];simpa using hargs
 have ht:c.argTypes=#[t,t']:=by rw [← qW];simpa using hts
 have fin:∀ {q:PV×Hp} {v:Value} {w':World} {g':Gh},(Builtin.append_ #[t,t'] o.type #[a.eval s,a.eval x]).run P w=.ok v w'→Nx g g' H q.2 w w'→Rel E nt g' F q.2 a.tmps w'→VR g' q.2 w' q.1 v→bS E nt g F H a.tmps w ⟨some (.v q.1),none,q.2⟩ ((execOp a.eval o).run P w):=by intro q v w' g' hrun hn hr' hv;refine ⟨v,w',g',.inl ?_,hn,hr',hv⟩;simp [execOp,ho,resolve,hc,ha,ht,invoke,builtin,hrun]
 simp only [yas] at h;split at h
 ·rename_i p k hp hq;have hv1:=cS hr hsx hp;obtain ⟨kq,e1,_⟩:=oU hr hx hq;split at h
  ·rename_i h0;split at h
   ·rename_i r H1 happ;rw [cW h];unfold appZ at happ;split at happ
    ·simp only [VR] at hv1;obtain ⟨n,rfl⟩:∃ n:Nat,k=(n:Int):=⟨k.toNat,by omega⟩;simp only [cM] at happ;split at happ
     ·rename_i hn;subst hn
      cases happ
      refine fin (q:=(.nils,H)) (v:=.slice none 0 0) ?_ (Nx.refl g H w) hr (by simp [VR]);rw [hv1,e1];have hw0:i64.wrap (0:Int)=0:=by rw [IntKind.wrap_i64];omega
      simp [Builtin.append_,run_underlying hu,run_underlying hk,sizeOf,typeInfo,hi0,asInt,asIntOf,hw0]
     ·rename_i hn;unfold ydm at happ;split at happ
      ·rename_i hroom
       cases happ
       have hroom:(n+64)*(bytes+1)≤35184372088832:=by rw [wK] at hroom;exact hroom
       have hneed:n≤35184372088832:=by have:n+64≤(n+64)*(bytes+1):=yR _ (by omega);omega
       have hnb:n*bytes≤35184372088832:=jT (wR (by omega) (by omega)) hroom;have hrun:=Lib.run_append_nil_zeros (P:=P) w t t' o.type e i0 v0 kq kn hu hk hi0 hv0 n (by omega) (by omega) (by omega) (by rw [hbytes];omega);have hvz:v0.cells.size=sz:=by rw [hvs,hi0s]
       let nc:=grownCap w n 0 e;have hge:n≤nc:=grownCap_ge w _ _ _;have hcm:nc≤maxLen:=grownCap_le_maxLen w _ _ _ (by unfold maxLen;omega);obtain ⟨r1,n1⟩:Rel E nt g F H a.tmps w.drew∧Nx g g H H w w.drew:=⟨hr.drew,Nx.drew g H w⟩;have hlie:=AZ (g:=g) (H:=H) (w:=w) (n:=n) (pu:=pu) hvz hpos z1 z2;have hzc:((Array.range (n*sz)).map (v0.cells[· % v0.cells.size]!)).toList=(Builtin.zeroCells v0.cells n).toList:=by unfold Builtin.zeroCells;rw [hvz]
       rw [hzc] at hlie;have hzl:(Builtin.zeroCells v0.cells n).toList.length=n*sz:=by unfold Builtin.zeroCells;rw [hvz];simp
       have hl:=(gC.append (rest:=[]) gC.nil (by simp) hlie (r2:=replicate n z)).on n1.on;simp only [pH,List.append_nil] at hl;have hsg:∀ i,i<n→(cT ((Builtin.zeroCells v0.cells n)++Builtin.zeroCells v0.cells (nc-n)).toList (i*sz) sz)=cT (Builtin.zeroCells v0.cells n).toList (i*sz) sz∧(cT (Builtin.zeroCells v0.cells n).toList (i*sz) sz).length=sz:=by intro i hi;have hle:(i+1)*sz≤n*sz:=gK _ hi;rw [dC,iZ] at hle;refine ⟨?_,zV (by rw [hzl];omega)⟩;simp only [cT,Array.toList_append];rw [List.drop_append_of_le_length (by rw [hzl];omega),List.take_append_of_le_length (by rw [kD,hzl];omega)]
       have hin:∀ (i:Nat) (x:PV),(replicate n z)[i]?=some x→i<n:=by intro i x hx;have:=Ba hx;simpa using this
       obtain ⟨g2,r2,n2,hρ⟩:=r1.newBlk (hb:=⟨false,pu,sz,replicate n z⟩) (cs:=(Builtin.zeroCells v0.cells n)++Builtin.zeroCells v0.cells (nc-n)) (T:=e) hpos rfl (by
         simp only [Array.size_append,wK];have:=hzl;rw [Da] at this;omega)
        (fun i x hx=>by
         obtain ⟨q1,q2⟩:=hsg i (hin i x hx);exact ⟨cT (Builtin.zeroCells v0.cells n).toList (i*sz) sz,q2,(hl.2 i x hx).1,by rw [q2];exact q1⟩)
        (fun hp i x hx=>by
         obtain ⟨q1,q2⟩:=hsg i (hin i x hx);exact ⟨cT (Builtin.zeroCells v0.cells n).toList (i*sz) sz,q2,(hl.2 i x hx).2 hp,by rw [q2];exact q1⟩)
       refine fin (q:=(.own H.length 0 (replicate n z).length (replicate n z).length none,H++[⟨false,pu,sz,replicate n z⟩])) (g':=g2) (by rw [hv1,e1];exact hrun) (n1.trans n2) r2 ?_;simp only [VR];refine ⟨⟨false,pu,sz,replicate n z⟩,_,nc,by simp,by simp,by rw [wK],by simpa using hge,hcm,(fun c0 e0=>by cases e0),fun _=>?_⟩;refine ⟨w.heap.size,0,hρ,by omega,fun _=>by simp,by simp only [mK,wK];omega,_,e,sW w.drew _,?_⟩;have h1:=hzl;rw [Da] at h1;simp only [iK,Array.size_append,Builtin.zeroCells,Array.size_map,Array.size_range,hvz];have:nc*sz=n*sz+(nc-n)*sz:=by rw [← dC];congr 1;omega
       omega
      ·cases happ
    ·cases happ
   ·cases h
  ·cases h
 ·cases h
theorem mz (hr:Rel E nt g F H a.tmps w) {c:Call} {x:Operand} {x':Opd} {t e:TypeId} {pu:Bool} {sz:Nat} {z:PV} (ho:o.op=.call c) (hc:c.callee=.builtin .clear) (hargs:c.args.toList=[x]) (ht:c.argTypes[0]?=some t)
  (hu:P.underlying t=some (.slice e)) (hs:ydo P e=some sz) (hz:ycL P e=some (pu,z)) (hx:opd x=some x') {call} (h:yas E call F H (.clr pu sz z x')=some out) :
  bS E nt g F H a.tmps w out ((execOp a.eval o).run P w):=by
 obtain ⟨_,hpos,i0,hi0,hi0s⟩:=mO (P:=P) (w:=w) hs;obtain ⟨i1,v0,hi1,hv0,hvs,z1,z2⟩:=zU (P:=P) (g:=g) (H:=H) (w:=w) hz;rw [hi0] at hi1;cases hi1;have ha:c.args=#[x]:=by rw [← qW];simpa using hargs
 have fin:∀ {H':Hp} {w':World},(Builtin.clear_ c.argTypes o.type #[a.eval x]).run P w=.ok (.tuple #[]) w'→Nx g g H H' w w'→Rel E nt g F H' a.tmps w'→bS E nt g F H a.tmps w ⟨some (.v (.tup [])),none,H'⟩ ((execOp a.eval o).run P w):=by
  intro H' w' hrun hn hr';refine ⟨.tuple #[],w',g,.inl ?_,hn,hr',?_⟩
  ·simp [execOp,ho,resolve,hc,ha,invoke,builtin,hrun]
  ·show VR g H' w' (.tup []) (.tuple #[]);simp [VR,bH]
 have none_:∀ {v:Value},a.eval x=v→(∃ ad n cc,v=.slice ad n cc∧(ad=none∨n=0))→(Builtin.clear_ c.argTypes o.type #[a.eval x]).run P w=.ok (.tuple #[]) w:=by
  rintro v hv ⟨ad,n,cc,rfl,h0⟩;rcases h0 with rfl | rfl
  ·simp [Builtin.clear_,ht,hv,run_underlying hu]
  ·cases ad<;>simp [Builtin.clear_,ht,hv,run_underlying hu]
 simp only [yas] at h;split at h
 ·rename_i p hp;have hv1:=cS hr hx hp;split at h
  ·rename_i H1 hcl;rw [cW h];unfold clrV at hcl;split at hcl
   ·cases hcl
    simp only [VR] at hv1;exact fin (none_ hv1 ⟨_,_,_,rfl,.inl rfl⟩) (Nx.refl g H w) hr
   ·cases hcl
    simp only [VR] at hv1;obtain ⟨ad,hv1⟩:=hv1;exact fin (none_ hv1 ⟨_,_,_,rfl,.inr rfl⟩) (Nx.refl g H w) hr
   ·cases hcl
    obtain ⟨k,cc,e1,_,_,_⟩:=Nz hv1 (n:=0) rfl;exact fin (none_ e1 ⟨_,_,_,rfl,.inr rfl⟩) (Nx.refl g H w) hr
   ·rename_i id lo len ext cap;split at hcl
    ·cases hcl
     obtain ⟨k,cc,e1,_,_,_⟩:=Nz hv1 (n:=0) rfl;exact fin (none_ e1 ⟨_,_,_,rfl,.inr rfl⟩) (Nx.refl g H w) hr
    ·rename_i len;split at hcl
     ·rename_i hb e3;split at hcl
      ·rename_i hk;obtain ⟨k1,k2,k3,k4,k5⟩:=hk
       cases hcl
       simp only [VR] at hv1;obtain ⟨hbx,ad0,cc,e2,hle,hv0',hcl,hcm,hcc,hcond⟩:=hv1;rw [e2] at e3;cases e3;obtain ⟨b,o1,hρ,hle2,had,hcap,cur,T,hcu,hroom⟩:=hcond k1;obtain ⟨b',o',hblk⟩:=hr.heap id hb e2;have hat0:=hblk.at_;rw [hρ] at hat0;cases hat0;obtain ⟨cur',T',hcu',hbl⟩:=hblk.cells;rw [hcu] at hcu';cases hcu';rw [k5] at hroom hbl;have hvz:v0.cells.size=sz:=by rw [hvs,hi0s]
       have hlie:=AZ (g:=g) (H:=H) (w:=w) (n:=len+1) (pu:=hb.pu) hvz hpos z1 (fun h=>z2 (by rw [← k4];exact h));have hzc:((Array.range ((len+1)*sz)).map (v0.cells[· % v0.cells.size]!)).toList=(Builtin.zeroCells v0.cells (len+1)).toList:=by unfold Builtin.zeroCells;rw [hvz]
       rw [hzc] at hlie;have hzl:(Builtin.zeroCells v0.cells (len+1)).toList.length=(len+1)*sz:=by unfold Builtin.zeroCells;rw [hvz];simp
       have hmul:(lo+(len+1))*sz=lo*sz+(len+1)*sz:=dC ..;have hmul2:(lo+(len+1))*sz≤hb.rows.length*sz:=gK _ (by omega);obtain ⟨hn,hr'⟩:=ms (lo:=lo) (ys:=replicate (len+1) z) (news:=(Builtin.zeroCells v0.cells (len+1)).toList) (rows':=hb.rows.take lo++(replicate (len+1) z++hb.rows.drop (lo+(len+1)))) hr e2 k3 hρ hcu k5 hlie (by rw [hzl,wK]) (by rw [wK];omega) (by rw [wK]) hbl;have hst:=run_storeCells_at P b (o1+lo*sz) T (Builtin.zeroCells v0.cells (len+1)).toList 0 cur w hcu (by rw [hzl];simp;omega) (gC.one hpos hlie (by rw [hzl,wK]));simp only [uY,lX] at hst;refine fin ?_ hn hr';rw [hv0',had (by omega),k5];have hzv:(zeroValue e).run P w=.ok v0 w:=by simp [zeroValue,typeInfo,hi0,hv0]
       simp [Builtin.clear_,ht,run_underlying hu,hzv,hst,eJ]
      ·cases hcl
     ·cases hcl
   ·cases hcl
  ·cases h
 ·cases h
def JI:AOp→Bool
 | .dfr _=>true
 | _=>false
def pQ:AOp→Bool
 | .call _ _=>true
 | _=>false
theorem na (hr:Rel E nt g F H a.tmps w) {op:BinOp} {t t':TypeId} {x y:Operand} (ho:o.op=.binOp op t x y t') {call} (h:yas E call F H (Dw P op t x y)=some out):bS E nt g F H a.tmps w out ((execOp a.eval o).run P w):=by
 unfold Dw at h;split at h
 ·rename_i x' y' hx hy;split at h
  ·exact kc hr ho hx hy h
  ·rename_i hu;split at h
   ·exact Xb hr ho (.inl ⟨rfl,rfl⟩) hu hx hy h
   ·exact Xb hr ho (.inr ⟨rfl,rfl⟩) hu hx hy h
   ·cases h
  ·rename_i fs hu;split at h
   ·rename_i idx hidx;split at h
    ·rename_i hk;simp only [bO,jR] at hk;split at h
     ·exact Jw hr ho (.inl ⟨rfl,rfl⟩) hidx hk.1 (.inl ⟨fs,hu⟩) hk.2 hx hy h
     ·exact Jw hr ho (.inr ⟨rfl,rfl⟩) hidx hk.1 (.inl ⟨fs,hu⟩) hk.2 hx hy h
     ·cases h
    ·cases h
   ·cases h
  ·rename_i n e hu;split at h
   ·rename_i idx hidx;split at h
    ·rename_i hk;simp only [bO,jR] at hk;split at h
     ·exact Jw hr ho (.inl ⟨rfl,rfl⟩) hidx hk.1 (.inr ⟨n,e,hu⟩) hk.2 hx hy h
     ·exact Jw hr ho (.inr ⟨rfl,rfl⟩) hidx hk.1 (.inr ⟨n,e,hu⟩) hk.2 hx hy h
     ·cases h
    ·cases h
   ·cases h
  ·rename_i e hu;split at h
   ·split at h
    ·rename_i hn;exact Jx hr ho (.inl ⟨rfl,rfl⟩) hu (.inl ⟨rfl,hn⟩) hx h
    ·split at h
     ·rename_i hn;exact Jx hr ho (.inl ⟨rfl,rfl⟩) hu (.inr ⟨rfl,hn⟩) hy h
     ·cases h
   ·split at h
    ·rename_i hn;exact Jx hr ho (.inr ⟨rfl,rfl⟩) hu (.inl ⟨rfl,hn⟩) hx h
    ·split at h
     ·rename_i hn;exact Jx hr ho (.inr ⟨rfl,rfl⟩) hu (.inr ⟨rfl,hn⟩) hy h
     ·cases h
   ·cases h
  ·cases h
 ·cases h
theorem JJ {l:List Operand} {x':Opd} (h:dO l=some [x']):∃ x,l=[x]∧opd x=some x':=by
 cases l with
 | nil=>simp [dO] at h
 | cons x r=>
  simp only [dO] at h;split at h
  ·rename_i a l h1 h2;simp only [bT,kJ] at h;obtain ⟨rfl,rfl⟩:=h
   cases r with
   | nil=>exact ⟨x,rfl,h1⟩
   | cons y r =>simp only [dO] at h2;split at h2<;>simp at h2
  ·cases h
theorem nd {l:List Operand} {x' y':Opd} (h:dO l=some [x',y']):∃ x y,l=[x,y]∧opd x=some x'∧opd y=some y':=by
 cases l with
 | nil=>simp [dO] at h
 | cons x r=>
  simp only [dO] at h;split at h
  ·rename_i a l h1 h2;simp only [bT,kJ] at h;obtain ⟨rfl,rfl⟩:=h;obtain ⟨y,rfl,hy⟩:=JJ h2;exact ⟨x,y,rfl,h1,hy⟩
  ·cases h
theorem nf (hr:Rel E nt g F H a.tmps w) {c:Call} {b:Builtin} (ho:o.op=.call c) (hc:c.callee=.builtin b) {call} (h:yas E call F H (Dx P b c.argTypes c.args.toList)=some out):bS E nt g F H a.tmps w out ((execOp a.eval o).run P w):=by
 unfold Dx at h;split at h
 ·rename_i x' hx;obtain ⟨x,hargs,hx'⟩:=JJ hx;split at h
  ·rename_i e hu
   cases ht:c.argTypes[0]? with
   | none=>rw [ht] at hu;simp at hu
   | some t =>rw [ht] at hu;exact kj hr ho hc hargs ht hu hx' h
  ·cases h
 ·rename_i x' hx;obtain ⟨x,hargs,hx'⟩:=JJ hx;split at h
  ·rename_i e hu
   cases ht:c.argTypes[0]? with
   | none=>rw [ht] at hu;simp at hu
   | some t =>rw [ht] at hu;exact km hr ho hc hargs ht hu hx' h
  ·cases h
 ·rename_i s' x' hx;obtain ⟨s,x,hargs,hs',hx'⟩:=nd hx;split at h
  ·rename_i t t' hts;split at h
   ·rename_i htt;subst htt;split at h
    ·rename_i e hu;split at h
     ·rename_i sz by_ pu z hsz hby hz;exact mu hr ho hc hargs hts hu hsz hby hz hs' hx' h
     ·cases h
    ·cases h
   ·split at h
    ·rename_i e k hu hk;split at h
     ·rename_i sz by_ pu z hsz hby hz;exact mw hr ho hc hargs hts hu hk hsz hby hz hs' hx' h
     ·cases h
    ·cases h
  ·cases h
 ·rename_i x' hx;obtain ⟨x,hargs,hx'⟩:=JJ hx;split at h
  ·rename_i t ht;split at h
   ·rename_i e hu;split at h
    ·rename_i sz pu z hsz hz;exact mz hr ho hc hargs ht hu hsz hz hx' h
    ·cases h
   ·cases h
  ·cases h
 ·rename_i l hl;exact Xk (mx:=true) hr ho hc hl h
 ·rename_i l hl;exact Xk (mx:=false) hr ho hc hl h
 ·cases h
theorem ng (hr:Rel E nt g F H a.tmps w) {t:TypeId} {x y:Operand} {y':Opd} {l:List PV} (ho:o.op=.index t x y) (hu:P.underlying t=some .string) (hl:yJX x=some l) (hy:opd y=some y') {call}
  (h:yas E call F H (.idx false l.length 1 (.c (.agg l)) y')=some out):bS E nt g F H a.tmps w out ((execOp a.eval o).run P w):=by
 unfold yJX at hl;split at hl
 ·rename_i s
  cases hl
  simp only [yas] at h;split at h
  ·rename_i cs m hp hm;have hcs:cs=s.data.toList.map fun b=>PV.int .u8 b.toNat:=by simpa [evV,ev] using hp.symm
   split at h
   ·rename_i hbd;split at h
    ·rename_i p hpp;obtain ⟨k,e2,_⟩:=oU hr hy hm;have hlt:m.toNat<s.data.size:=by
      have:=hbd.2;simp only [yZ,Da] at this;omega
     have hpe:p=PV.int .u8 ((s.data[m.toNat]'hlt).toNat:Int):=by simp only [ygw,PV.cells,hcs,Nat.mul_one,wN,Array.getElem?_toList,gE,if_false] at hpp;rw [Array.getElem?_eq_getElem hlt] at hpp;simpa using hpp.symm
     have hsg:s[m.toNat]?=some (s.data[m.toNat]'hlt):=by have:m.toNat<s.size:=hlt;simp [this];rfl
     rw [cW h,hpe];refine bS.val hr ?_ (show VR g H w (.int .u8 ((s.data[m.toNat]'hlt).toNat:Int)) (.int .u8 ((s.data[m.toNat]'hlt).toNat:Int)) from ?_)
     ·have e1:a.eval (.const (.string s))=.string s:=rfl;simp [execOp,ho,Instr.index,asIntOf,run_underlying hu,e1,e2,hbd.1,hsg]
     ·simp only [VR,inK];have:=(s.data[m.toNat]'hlt).toNat_lt;have h0:u8.min=0:=by decide
      have h1:u8.max=255:=by decide
      exact ⟨trivial,by rw [h0];omega,by rw [h1];omega⟩
    ·cases h
   ·cases h
  ·cases h
 ·cases hl
theorem nh (hr:Rel E nt g F H a.tmps w) {loc:List Nat} {call} {F':aD} (hnc:pQ (jN P loc o)=false) (hnd:JI (jN P loc o)=false) (h:yas E call F H (jN P loc o)=some out) (hd:∀ d,o.dst=some d→d<nt) (hp:ydT (jA F out.bx) o.dst out.x=some F') :
  rJ E nt g H a w o.dst F' out.h ((execOp a.eval o).run P w):=by
 have fin:bS E nt g F H a.tmps w out ((execOp a.eval o).run P w)→(∀ row,out.x≠some (.box row))→rJ E nt g H a w o.dst F' out.h ((execOp a.eval o).run P w):=fun h1 h2=>rJ.of h1 hd hp h2
 have nb:bS E nt g F H a.tmps w out ((execOp a.eval o).run P w)→rJ E nt g H a w o.dst F' out.h ((execOp a.eval o).run P w):=by
  intro h1;refine fin h1 fun row e=>?_
  obtain ⟨v,w',g',_,_,_,hx⟩:=h1;rw [e] at hx;exact hx
 unfold jN at h hnc hnd;split at h
 ·rename_i x ho;split at h
  ·rename_i x' hx;split at h
   ·exact nb (Xv hr (.inl ho) hx h)
   ·exact nb (WX hr (.inl ho) hx h)
  ·cases h
 ·rename_i x ho;split at h
  ·rename_i x' hx;split at h
   ·exact nb (Xv hr (.inr ho) hx h)
   ·exact nb (WX hr (.inr ho) hx h)
  ·cases h
 ·rename_i c x y ho;split at h
  ·rename_i c' x' y' hc hx hy;exact nb (jx hr ho hc hx hy h)
  ·cases h
 ·rename_i e ho;split at h
  ·rename_i d hdst;split at h
   ·split at h
    ·rename_i z hz;simp only [yas,bT] at h;subst h;rw [hdst] at hp ⊢;exact lq hr ho hz (hd d hdst) hp
    ·cases h
   ·split at h
    ·rename_i pu z sz hz hs;exact nb (lu hr ho hz hs h)
    ·cases h
  ·cases h
 ·rename_i e x ho;split at h
  ·rename_i d x' hdst hx;split at h
   ·simp only [yas] at h;split at h
    ·rename_i p hpv;split at h
     ·rename_i hone;simp only [bT] at h;subst h;rw [hdst] at hp ⊢;exact lr hr ho hx hpv hone (hd d hdst) hp
     ·cases h
    ·cases h
   ·split at h
    ·rename_i pu z sz hz hs;exact nb (lv hr ho hs hx h)
    ·cases h
  ·cases h
 ·rename_i t parts ho;split at h
  ·rename_i z fs hz hu;split at h
   ·rename_i hinfo;split at h
    ·rename_i ps hps;exact nb (lc hr ho hz hu hinfo hps h)
    ·cases h
   ·cases h
  ·rename_i z n e hz hu;split at h
   ·rename_i i hi;split at h
    ·rename_i ps hps;exact nb (ld hr ho hz hu hi hps h)
    ·cases h
   ·cases h
  ·cases h
 ·rename_i t len parts ho;split at h
  ·rename_i e hu;split at h
   ·rename_i sz pu z ps hs hz hps;split at h
    ·rename_i hc;split at h
     ·rename_i hp2;exact nb (mg hr ho hu hs hz hp2.1 hps hc.1 hc.2 h)
     ·split at h
      ·exact nb (mf hr ho hu hs hz hps hc.1 hc.2 h)
      ·exact nb (me hr ho hu hs hz hps hc.1 hc.2 h)
    ·cases h
   ·cases h
  ·cases h
 ·rename_i t x ho;split at h
  ·rename_i gg i x' hg hi hx;exact nb (kr hr ho hg hi hx h)
  ·cases h
 ·rename_i t x y ho;split at h
  ·rename_i i x' y' hi hx hy;exact nb (XA hr ho hi hx hy h)
  ·cases h
 ·rename_i x ho;split at h
  ·rename_i x' hx;exact nb (kw hr ho hx h)
  ·cases h
 ·rename_i c ho;split at h
  ·rename_i n hds hc;simp only [ho,hc,hds,JI] at hnd
   cases hnd
  ·cases h
 ·rename_i op t x y t' ho;exact nb (na hr ho h)
 ·rename_i op t x ho;split at h
  ·rename_i x' hx;exact nb (kf hr ho hx h)
  ·cases h
 ·rename_i s d x ho;split at h
  ·rename_i ds k x' hs hdd hx;exact nb (kg hr ho hs hdd hx h)
  ·cases h
 ·rename_i f x y ho;split at h
  ·rename_i x' y' hx hy;exact nb (kh hr ho hx hy h)
  ·cases h
 ·rename_i t x y ho;split at h
  ·rename_i e x' y' hu hx hy;split at h
   ·rename_i sz by_ pu z hs hby hz;split at h
    ·rename_i n hm;exact nb (mj hr ho hu hs hby hz hx hy hm h)
    ·exact nb (mh hr ho hu hs hby hz hx hy h)
   ·cases h
  ·cases h
 ·rename_i t x lo hi mx ho;split at h
  ·rename_i e x' l' h' m' hu hx hl hh hm;split at h
   ·rename_i sz hs;exact nb (lk hr ho hu hs hx hl hh hm h)
   ·cases h
  ·rename_i m e x' hu hx hl hh hm;have opdO_none:∀ {y:Option Operand},jX y=some none→y=none:=fun {y} e=>by
    cases y with
    | none=>rfl
    | some y=>simp only [jX] at e;split at e<;>cases e
   obtain rfl:=opdO_none hl;obtain rfl:=opdO_none hh;obtain rfl:=opdO_none hm;split at h
   ·rename_i sz hs;exact nb (lj hr ho hu hs hx h)
   ·cases h
  ·cases h
 ·rename_i s x f ho;split at h
  ·rename_i fs x' hu hx;split at h
   ·rename_i fl hf;split at h
    ·rename_i sz hs;exact nb (kv hr ho hu hf hs hx h)
    ·cases h
   ·cases h
  ·cases h
 ·rename_i t x f ho;split at h
  ·rename_i fs x' hu hx;split at h
   ·rename_i fl hf;split at h
    ·rename_i gg i hg hi;exact nb (kt hr ho hu hf hg hi hx h)
    ·cases h
   ·cases h
  ·cases h
 ·rename_i t x y ho;split at h
  ·rename_i e x' y' hu hx hy;split at h
   ·rename_i sz hs;exact nb (kx hr ho hu hs hx hy h)
   ·cases h
  ·rename_i n e x' y' hu hx hy;split at h
   ·rename_i sz hs;exact nb (ky hr ho hu hs hx hy h)
   ·cases h
  ·cases h
 ·rename_i t x y ho;split at h
  ·rename_i n e x' y' hu hx hy;split at h
   ·rename_i gg i hg hi;exact nb (ku hr ho hu hg hi hx hy h)
   ·cases h
  ·rename_i y' hu hy;split at h
   ·rename_i l hl;exact nb (ng hr ho hu hl hy h)
   ·cases h
  ·cases h
 ·rename_i x i ho;split at h
  ·rename_i x' hx;exact nb (ki hr ho hx h)
  ·cases h
 ·rename_i c ho;split at h
  ·rename_i f hc;split at h
   ·rename_i f' az' hf has;rw [ho] at hnc;simp only [hc,hf,has] at hnc;simp [pQ] at hnc
   ·cases h
  ·rename_i b hc;exact nb (nf hr ho hc h)
  ·cases h
 ·cases h
end
def kM (P:Program) (f:FuncId) (args:Array Value) (w:World) (Q:Value→World→Prop):Prop:=
 match (callFunc f args).run P w with
 | .ok (.value v) w'=>Q v w'
 | .ok (.enter f' args') w'=>Calls P f' args' w' (fun e w''=>match e with | .returned v=>Q v w'' | _=>False)
 | _=>False
theorem kM.mono {P:Program} {f:FuncId} {args:Array Value} {w:World} {Q Q':Value→World→Prop} (h:kM P f args w Q) (hq:∀ v w',Q v w'→Q' v w'):kM P f args w Q':=by
 unfold kM at h ⊢;split at h
 ·exact hq _ _ h
 ·refine Calls.mono h fun e w'' he=>?_
  cases e<;>first | exact hq _ _ he | exact he
 ·exact h.elim
def NN (G:Nat→Option PV) (I:Nat→Prop) (w:World):Prop:=∀ n x,G n=some x→I n∧∃ vs:List Value,0<vs.length∧RC I w x vs∧At w n 0 vs
def oV (P:Program) (G:Nat→Option PV) (f:FuncId) (az:List PV) (r:PV):Prop:=
 ∀ (I:Nat→Prop) (w:World) (vs:List Value),(∀ b,I b→b<w.heap.size)→NN G I w→fW I w az vs →
  kM P f vs.toArray w fun v w'=>Bel w.heap.size w w'∧VP (fun b=>I b∨(w.heap.size≤b∧b<w'.heap.size)) w' r v
section
variable {P:Program} {E:Env} {nt:Nat} {g g':Gh} {F:aD} {H H':Hp} {a:Act} {tmps:Array Value} {w w':World} {o:Oper}
theorem ni {I:Nat→Prop} {x:PV} {v:Value} (h:RC I w x [v]) (hx:∀ cs,x≠.agg cs):x.one=true:=by
 cases x<;>first | rfl | exact absurd rfl (hx _) | (simp only [RC] at h)
theorem XB {x:PV} {v:Value} (h:eU g.I w x v):VR g H w x v:=by
 cases x with
 | agg cs =>simp only [eU] at h;obtain ⟨vs,rfl,h⟩:=h;simp only [VR];exact ⟨vs,rfl,Nt _ _ h⟩
 | tup ps=>simp only [eU] at h
 | nils=>simp only [eU] at h;simp only [VR];exact h
 | eptr rows i off=>simp only [eU] at h;simp only [VR];exact h
 | _=>simp only [eU] at h;exact WT _ _ (ni h (fun _ e=>by cases e)) h
theorem Gp:∀ (l:List PV) (vs:List Value),fW g.I w l vs→bH g H w l vs
 | [],vs,h=>by simpa only [fW,bH] using h
 | x::r,vs,h=>by simp only [fW] at h;obtain ⟨v,vr,rfl,h1,h2⟩:=h;simp only [bH];exact ⟨v,vr,rfl,XB h1,Gp r vr h2⟩
theorem XC {x:PV} {v:Value} (h:VP g.I w x v):VR g H w x v:=by
 cases x with
 | tup ps =>simp only [VP] at h;obtain ⟨vs,rfl,h⟩:=h;simp only [VR];exact ⟨vs,rfl,Gp _ _ h⟩
 | _=>simp only [VP] at h;exact XB h
theorem NO {x:PV} {v:Value} {I:Nat→Prop} (hs:x.scal=true) (h:RC I w x [v]):VR g H w' x v:=by
 cases x<;>simp [PV.scal] at hs
 ·simp only [RC,kJ,and_true] at h;simp only [VR];exact h
 ·simp only [RC,kJ,and_true] at h;simp only [VR];exact h
theorem XD {I:Nat→Prop}:∀ (l:List PV) (vs:List Value),sP l=true→ya5 I w l vs→bM g H w' l vs
 | [],vs,_,h=>by simpa only [ya5,bM] using h
 | x::r,vs,hs,h=>by simp only [sP,bO] at hs;simp only [ya5] at h;obtain ⟨v,vr,rfl,ho,h1,h2⟩:=h;simp only [bM];exact ⟨v,vr,rfl,ho,NO hs.1 h1,XD r vr hs.2 h2⟩
theorem wX {x:PV} {v:Value} {I:Nat→Prop} (hs:(match x with | .agg cs=>sP cs | x=>x.scal)=true) (h:eU I w x v):VR g H w' x v:=by
 cases x with
 | agg cs =>simp only [eU] at h;obtain ⟨vs,rfl,h⟩:=h;simp only [VR];exact ⟨vs,rfl,XD _ _ hs h⟩
 | bool b=>simp only [eU] at h;exact NO hs h
 | int k n=>simp only [eU] at h;exact NO hs h
 | _=>simp [PV.scal] at hs
theorem XE {x:PV} {v:Value} {I:Nat→Prop} (hs:x.scalar=true) (h:VP I w x v):VR g H w' x v:=by
 unfold PV.scalar at hs;split at hs
 ·simp only [VP] at h;exact wX (x:=.agg _) hs h
 ·simp only [VP,fW] at h;obtain ⟨vs,rfl,rfl⟩:=h;simp only [VR,bH];exact ⟨_,rfl,rfl⟩
 ·simp only [VP,fW] at h;obtain ⟨vs,rfl,v,vr,rfl,h1,rfl⟩:=h;simp only [VR,bH];exact ⟨_,rfl,_,_,rfl,wX hs h1,rfl⟩
 ·simp only [VP,fW] at h;obtain ⟨vs,rfl,v,vr,rfl,h1,v2,vr2,rfl,h2,rfl⟩:=h;simp only [bO] at hs;simp only [VR,bH];exact ⟨_,rfl,_,_,rfl,wX hs.1 h1,_,_,rfl,wX hs.2 h2,rfl⟩
 ·simp only [VP,fW] at h;obtain ⟨vs,rfl,v,vr,rfl,h1,v2,vr2,rfl,h2,v3,vr3,rfl,h3,rfl⟩:=h;simp only [bO] at hs;simp only [VR,bH];exact ⟨_,rfl,_,_,rfl,wX hs.1 h1,_,_,rfl,wX hs.2.1 h2,_,_,rfl,wX hs.2.2 h3,rfl⟩
 ·rename_i h1 h2 h3 h4 h5
  cases x with
  | bool b=>simp only [VP] at h;exact wX (x:=.bool b) rfl h
  | int k n=>simp only [VP] at h;exact wX (x:=.int k n) rfl h
  | _=>simp [PV.scal] at hs
theorem Rel.back (h:Rel E nt g F H tmps w) {nt2:Nat} {g2:Gh} {F2:aD} {tmps2:Array Value} (hn:Nx { g with β:=fun _=>none } g2 H H' w w') (h2:Rel E nt2 g2 F2 H' tmps2 w') :
  Rel E nt { g2 with β:=g.β } F H' tmps w'∧Nx g { g2 with β:=g.β } H H' w w':=by
 have hon:On g { g2 with β:=g.β } H H' w w':=⟨hn.on.keeps,hn.on.hext,hn.on.shape,hn.on.lam⟩;have hon2:On g2 { g2 with β:=g.β } H' H' w' w':=⟨fun _ x=>⟨x,rfl⟩,fun _ hb x=>⟨hb,x,rfl,rfl,.inr ⟨rfl,rfl⟩⟩,fun _ cur _ x=>⟨cur,x,rfl⟩,rfl⟩;refine ⟨h.upd hon rfl hn.size (fun s b hb=>?_) (fun id hb e=>?_) h2.dist h2.rsome h2.imm,?_⟩
 ·have hlt:=(h.bimm s b hb).2;have hnr:¬RngR g b:=fun ⟨id,oo,hr⟩=>h.brho s b id oo hb hr
  refine ⟨hn.kept b hlt hnr (fun ⟨s,hs⟩=>by simp at hs),fun hi=>?_,fun hr=>hnr (hn.rng b hlt hr)⟩;rcases hn.immb b hlt hi with h3 | h3
  ·exact (h.bimm s b hb).1 h3
  ·exact hnr h3
 ·obtain ⟨b,oo,hk⟩:=h2.heap id hb e;exact ⟨b,oo,nW hon2 hk rfl rfl (fun x=>x)⟩
 ·exact ⟨hn.os,hn.tape,hn.output,hn.drawn,hn.size,fun b hb hr _=>hn.kept b hb hr (fun ⟨s,hs⟩=>by simp at hs),hn.rng,hn.immb,fun b _ hm=>hm,hon⟩
theorem Rel.enter (h:Rel E nt g F H tmps w) {args:List PV} {vs:List Value} (hv:bH g H w args vs) (n:Nat) :
  Rel E n { g with β:=fun _=>none } (iX 0 args) H (vs.toArray++Array.replicate (n-vs.toArray.size) undef) w:=by
 have hon:On g { g with β:=fun _=>none } H H w w:=⟨fun _ x=>⟨x,rfl⟩,fun _ hb x=>⟨hb,x,rfl,rfl,.inr ⟨rfl,rfl⟩⟩,fun _ cur _ x=>⟨cur,x,rfl⟩,rfl⟩;refine { size:=by simp;omega,frame:=?_,heap:=fun id hb e=>?_,dist:=h.dist,rsome:=h.rsome,bdist:=fun s s' b e=>by simp at e,brho:=fun s b id o e=>by simp at e,bimm:=fun s b e=>by simp at e,imm:=h.imm,glob:=h.glob }
 ·have key:∀ (args:List PV) (vs:List Value) (i:Nat),bH g H w args vs→∀ s fv,fget (iX i args) s=some fv→∃ p v,fv=.v p∧i≤s∧vs[s-i]?=some v∧VR g H w p v:=by
   intro args;induction args with
   | nil=>intro vs i _ s fv e;simp [iX,fget] at e
   | cons x r ih=>
    intro vs i hv s fv e;simp only [bH] at hv;obtain ⟨v,vr,rfl,h1,h2⟩:=hv;simp only [iX,fget] at e;split at e
    ·rename_i hs
     cases e
     subst hs;exact ⟨x,v,rfl,bW _,by simp,h1⟩
    ·obtain ⟨p,u,e1,e2,e3,e4⟩:=ih vr (i+1) h2 s fv e;refine ⟨p,u,e1,by omega,?_,e4⟩;have:s-i=(s-(i+1))+1:=by omega
     rw [this];simpa using e3
  intro s fv e;obtain ⟨p,v,rfl,_,hv',hp⟩:=key args vs 0 hv s fv e;simp only [bR];have:(vs.toArray++Array.replicate (n-vs.toArray.size) undef).getD s undef=v:=by
   simp only [Nat.sub_zero] at hv';obtain ⟨hlt,e⟩:=nA.1 hv';simp [Array.getElem?_append,hlt,e]
  rw [this];exact mL hon p v hp
 ·obtain ⟨b,oo,hk⟩:=h.heap id hb e;exact ⟨b,oo,nW hon hk rfl rfl (fun x=>x)⟩
theorem XF {α β:Type} (f:α→Sem β) (w:World):∀ (l:List α) (r:List β),l.length=r.length→(∀ (i:Nat) (x:α) (y:β),l[i]?=some x→r[i]?=some y→(f x).run P w=.ok y w)→(l.mapM f).run P w=.ok r w
 | [],[],_,_=>by simp
 | [],_::_,h,_=>by simp at h
 | _::_,[],h,_=>by simp at h
 | x::l,y::r,h,hf=>by have h1:=hf 0 x y rfl rfl;have h2:=XF f w l r (by simpa using h) (fun i a b ha hb=>hf (i+1) a b ha hb);simp [h1,h2]
def Bb (tmps:Array Value):ResultVar→Sem Value
 | .tmp t=>pure (tmps.getD t undef)
 | .cell a t=>do loadVar t (← asAddr (tmps.getD a undef))
theorem Gq (fn:Func) (tmps:Array Value):results fn tmps=(do let vs ← fn.results.mapM (Bb tmps);pure (if h:vs.size=1 then vs[0] else .tuple vs)):=by unfold results;congr 1
theorem nj (hr:Rel E nt g F H tmps w) {rv:ResultVar} {x:ARes} {p:PV} (hc:yfF P [rv]=some [x]) (h:yBr F H x=some p) :
  ∃ v,(Bb tmps rv).run P w=.ok v w∧VR g H w p v:=by
 cases rv with
 | tmp t=>
  simp [yfF] at hc;subst hc;simp only [yBr] at h;split at h
  ·rename_i q hq
   cases h
   have:=hr.frame t _ hq;simp only [bR] at this;exact ⟨_,rfl,this⟩
  ·cases h
 | cell ad t=>
  simp only [yfF] at hc;split at hc
  ·rename_i gg i l hg hi hl;simp at hl;subst hl;simp at hc;subst hc;simp only [yBr] at h;split at h
   ·rename_i row hrow;have hf:=hr.frame ad _ hrow;simp only [bR] at hf;obtain ⟨b,hβ,ht,hnI,cur,T,hcur,hrr⟩:=hf;have hat:At w b 0 cur.toList:=At.of_cells hcur (by simp [wJ]);obtain ⟨v,h1,h2⟩:=NC (P:=P) (zP hrr) hat h hg hi;refine ⟨v,?_,h2⟩;simpa [Bb,ht,asAddr] using h1
   ·rename_i id ext i0 off hpt;have hf:=hr.frame ad _ hpt;simp only [bR,VR] at hf;obtain ⟨hb,a0,hH,hle,hv,hcond⟩:=hf;split at h
    ·rename_i hb' hH';rw [hH] at hH';cases hH';split at h
     ·rename_i hext;split at h
      ·rename_i row hrow;obtain ⟨b,oo,hρ,hi0,ha⟩:=hcond hext;obtain ⟨b',o',hk⟩:=hr.heap id hb hH;have e0:=hk.at_;rw [hρ] at e0;cases e0;obtain ⟨vs,hl,hrr,hat⟩:=vJ _ _ _ _ _ _ hk.rows hrow;obtain ⟨v,h1,h2⟩:=NC (P:=P) (zP hrr) hat h hg hi;refine ⟨v,?_,h2⟩;simp only [Bb,hv,ha];simpa [asAddr] using h1
      ·cases h
     ·cases h
    ·cases h
   ·cases h
  ·cases hc
end
abbrev Fc (ro:Option Nat):Fence:={ Fence.wide with round:=ro }
theorem DF {ro:Option Nat} {n:Nat} {P:Program} {f:FuncId} {args:Array Value} {w:World} {R:Ending→World→Prop}:CallsIn (Fc ro) n P f args w R↔Calls P f args w R:=callsIn_wide (n:=n)
structure FB (g:Gh) (w:World) (b:Nat) (o:Obj):Prop where
 at_:w.heap[b]?=some o
 rng:¬RngR g b
 bet:¬kL g b
 imm:¬g.I b
theorem FB.lt {g:Gh} {w:World} {b:Nat} {o:Obj} (h:FB g w b o):b<w.heap.size:=Jo h.at_
theorem FB.nx {g g':Gh} {H H':Hp} {w w':World} {b:Nat} {o:Obj} (h:FB g w b o) (n:Nx g g' H H' w w'):FB g' w' b o:=
 ⟨(n.kept b h.lt h.rng h.bet).trans h.at_,fun x=>h.rng (n.rng b h.lt x),fun x=>h.bet (n.bet b h.lt x),fun x=>(n.immb b h.lt x).elim h.imm h.rng⟩
structure LoopR (P:Program) (c:LCtx) (g:Gh) (H:Hp) (w:World) (l:Nat) (r:Loop) (nt:Nat):Prop where
 free:FB g w l (.loop r)
 ready:r.state=.ready
 none_:r.pending=none
 ps:r.params.toList=c.ps
 lt:∀ p∈c.ps,p<nt
 code:∃ loc fg,yaG P loc fg nt true r.assign=c.az∧yaG P loc fg nt true r.body=c.bd
 size:nt≤r.tmps.size
 frame:∀ s fv,fget c.F s=some fv→∃ p,fv=.v p∧VR g H w p (r.tmps.getD s undef)
theorem LoopR.nx {P:Program} {c:LCtx} {g g':Gh} {H H':Hp} {w w':World} {l:Nat} {r:Loop} {nt:Nat} (h:LoopR P c g H w l r nt) (n:Nx g g' H H' w w'):LoopR P c g' H' w' l r nt:=
 ⟨h.free.nx n,h.ready,h.none_,h.ps,h.lt,h.code,h.size,fun s fv hs=>by
  obtain ⟨p,e,hp⟩:=h.frame s fv hs;exact ⟨p,e,mL n.on p _ hp⟩⟩
structure Lps (P:Program) (E:Env) (g:Gh) (H:Hp) (w:World):Prop where
 loop:∀ k c l,E.ctx k=some c→g.lam k=some l→∃ r nt,LoopR P c g H w l r nt
 inj:∀ k k' l,(E.ctx k).isSome=true→(E.ctx k').isSome=true→g.lam k=some l→g.lam k'=some l→k=k'
 top:∀ k,E.yn≤k→g.lam k=none
theorem Lps.nx {P:Program} {E:Env} {g g':Gh} {H H':Hp} {w w':World} (h:Lps P E g H w) (n:Nx g g' H H' w w'):Lps P E g' H' w':=
 have e:=n.on.lam
 ⟨fun k c l hc hl=>by
  obtain ⟨r,nt,hr⟩:=h.loop k c l hc (by rw [← e];exact hl);exact ⟨r,nt,hr.nx n⟩,fun k k' l h1 h2 h3 h4=>h.inj k k' l h1 h2 (by rw [← e];exact h3) (by rw [← e];exact h4),fun k hk=>by rw [e];exact h.top k hk⟩
def yba (P:Program) (E:Env) (call:Nat→List PV→Hp→Option (PV×Hp)):Prop:=
 ∀ (f:Nat) (args:List PV) (H:Hp) (r:PV) (H':Hp),call f args H=some (r,H') →
  ∀ (nt:Nat) (g:Gh) (F:aD) (tmps:Array Value) (w:World) (vs:List Value),Rel E nt g F H tmps w→Lps P E g H w→bH g H w args vs →
   kM P f vs.toArray w fun v w'=>∃ g',Nx g g' H H' w w'∧Rel E nt g' F H' tmps w'∧VR g' H' w' r v
def Gr (P:Program) (E:Env) (call:Nat→List PV→Hp→Option (PV×Hp)):Prop:=∀ y,E.yn≤y→yba P (E.ats y) call
theorem Gr.ok {P:Program} {E:Env} {call:Nat→List PV→Hp→Option (PV×Hp)} (h:Gr P E call):yba P E call:=h E.yn (bW _)
theorem Lps.none_ {P:Program} {E:Env} {g:Gh} {H:Hp} {w:World} (e:∀ k,g.lam k=none):Lps P E g H w:=
 ⟨fun k c l _ h=>(by rw [e] at h;cases h),fun k k' l _ _ h=>(by rw [e] at h;cases h),fun k _=>e k⟩
theorem Lps.env {P:Program} {E E':Env} {g:Gh} {H:Hp} {w:World} (e:E'.ctx=E.ctx) (e2:E'.yn=E.yn) (h:Lps P E g H w):Lps P E' g H w:=
 ⟨fun k c l hc hl=>h.loop k c l (by rw [← e];exact hc) hl,fun k k' l h1 h2=>h.inj k k' l (by rw [← e];exact h1) (by rw [← e];exact h2),fun k hk=>h.top k (by rw [← e2];exact hk)⟩
theorem yba.env {P:Program} {E E':Env} {call:Nat→List PV→Hp→Option (PV×Hp)} (e:E'.glob=E.glob) (e2:E'.ctx=E.ctx) (e3:E'.yn=E.yn) (h:yba P E call):yba P E' call:=by intro f args H r H' hc nt g F tmps w vs hr hl hv;obtain hh:=h f args H r H' hc nt g F tmps w vs (hr.env e.symm) (hl.env e2.symm e3.symm) hv;exact hh.mono fun v w' ⟨g',h1,h2,h3⟩=>⟨g',h1,h2.env e,h3⟩
def yvX (E:Env) (nt:Nat) (g:Gh) (F:aD) (H:Hp) (tmps:Array Value) (w:World) (o:Option Nat) (H':Hp) (l:Nat):Ending→World→Prop
 | .returned v,w'=>(match o with
  | none=>v=.bool true∧∃ g',Nx g g' H H' w w'∧Rel E nt g' F H' tmps w'
  | some i=>v=.bool false∧∃ g' w1 r,Nx g g' H H' w w1∧Rel E nt g' F H' tmps w1∧FB g' w1 l (.loop r)∧w'=w1.putObj l (.loop { r with state:=.done,pending:=some (.exit i) }))
 | _,_=>False
structure EO (P:Program) (E:Env):Prop where
 sum:∀ n az r,E.sum n az=some r→oV P E.glob n az r
 fns:∀ n fn,E.fns n=some fn→∃ f loc fg,P.funcs[n]?=some f∧mM P loc fg f=some fn
 eff:Gr P E E.effx
 dn:∀ n,E.dn n=true→∀ (args:Array Value) (w:World),(callFunc n args).run P w=.ok (.enter n args) w∧CallsDIn (Fc none) 0 P n args .returning w fun e u w'=>u=.returning∧w'=w∧∃ v,e=.returned v
 top:∀ k,E.yn≤k→E.ctx k=none
 yl:∀ y k az H o H',E.yl y k az H=some (o,H')→E.yn≤y→∀ nt g F tmps w vs l,Rel E nt g F H tmps w→Lps P (E.ats y) g H w→g.lam k=some l→bH g H w az vs →
  ∃ (fn:FuncId) (tmps1:Array Value) (assign body:Code),(Instr.yield l vs.toArray).run P w=.ok (.round l fn tmps1 assign body) w ∧
   ∀ ro,RoundIn (Fc ro) 0 P l fn tmps1 assign body w (yvX E nt g F H tmps w o H' l)
section
variable {P:Program} {E:Env} {nt:Nat} {g g':Gh} {F F':aD} {H H':Hp} {a:Act} {tmps:Array Value} {w w' w'':World} {o:Oper}
theorem nk {rv:ResultVar} {l:List ResultVar} {rs:List ARes} (h:yfF P (rv::l)=some rs):∃ x r,rs=x::r∧yfF P [rv]=some [x]∧yfF P l=some r:=by
 cases rv with
 | tmp t=>
  simp only [yfF] at h ⊢;split at h
  ·rename_i r hr;cases h;exact ⟨_,_,rfl,rfl,hr⟩
  ·cases h
 | cell a t=>
  simp only [yfF] at h ⊢;split at h
  ·rename_i gg i r h1 h2 h3;cases h;exact ⟨_,_,rfl,by rw [h1,h2],h3⟩
  ·cases h
theorem XG (hr:Rel E nt g F H tmps w):∀ (l:List ResultVar) (rs:List ARes) (ps:List PV),yfF P l=some rs→ykD F H rs=some ps →
  ∃ vs:List Value,vs.length=l.length∧(∀ (i:Nat) (x:ResultVar) (y:Value),l[i]?=some x→vs[i]?=some y→(Bb tmps x).run P w=.ok y w)∧bH g H w ps vs
 | [],rs,ps,hc,h=>by simp [yfF] at hc;subst hc;simp [ykD] at h;subst h;exact ⟨[],rfl,fun i x y e=>by simp at e,by simp [bH]⟩
 | rv::l,rs,ps,hc,h=>by
  obtain ⟨x,r,rfl,h1,h2⟩:=nk hc;simp only [ykD] at h;split at h
  ·rename_i p hp;split at h
   ·rename_i ps' hps
    cases h
    obtain ⟨v,h3,h4⟩:=nj hr h1 hp;obtain ⟨vs,h5,h6,h7⟩:=XG hr l r ps' h2 hps;refine ⟨v::vs,by simp [h5],fun i x y e1 e2=>?_,by simp only [bH];exact ⟨v,vs,rfl,h4,h7⟩⟩
    cases i with
    | zero=>simp at e1 e2;subst e1;subst e2;exact h3
    | succ i=>simp at e1 e2;exact h6 i x y e1 e2
   ·cases h
  ·cases h
theorem NP (hr:Rel E nt g F H tmps w) {fn:Func} {rs:List ARes} {ps:List PV} (hc:yfF P fn.results.toList=some rs) (h:ykD F H rs=some ps) :
  ∃ v,(results fn tmps).run P w=.ok v w∧VR g H w (sU ps) v:=by
 obtain ⟨vs,h1,h2,h3⟩:=XG hr _ rs ps hc h;have hm:(fn.results.mapM (Bb tmps)).run P w=.ok vs.toArray w:=by
  have:=XF (P:=P) (Bb tmps) w fn.results.toList vs (by rw [h1]) (fun i x y e1 e2=>h2 i x y e1 e2);rw [Array.mapM_eq_mapM_toList];simp [this]
 have key:(results fn tmps).run P w=.ok (if h:vs.toArray.size=1 then vs.toArray[0] else .tuple vs.toArray) w:=by rw [Gq];simp [hm]
 rw [key];refine ⟨_,rfl,?_⟩
 cases ps with
 | nil=>simp only [bH] at h3;subst h3;simp [sU,VR,bH]
 | cons p r=>
  cases r with
  | nil =>simp only [bH] at h3;obtain ⟨v,vr,rfl,h4,rfl⟩:=h3;simpa [sU] using h4
  | cons q r =>have h3':=h3;simp only [bH] at h3;obtain ⟨v,vr,rfl,h4,v2,vr2,rfl,h5,h6⟩:=h3;simp only [sU,VR];exact ⟨v::v2::vr2,by simp,h3'⟩
theorem rJ.wp {ro:Option Nat} (hd:∀ c,o.op≠.defer c) (h:rJ E nt g H a w o.dst F' H' ((execOp a.eval o).run P w)) {next:Act→World→Prop} {Q:Exit→Act→World→Prop}
  (hn:∀ v w' g',Nx g g' H H' w w'→Rel E nt g' F' H' (a.put o.dst v).tmps w'→next (a.put o.dst v) w'):o.wpIn (Fc ro) 0 P a w next Q:=by
 obtain ⟨v,w',g',hr,h1,h2⟩:=h;refine ⟨fun _ _=>trivial,?_⟩;rw [Oper.semAt_eq _ _ _ hd];rcases hr with hr | ⟨hr,rfl⟩
 ·rw [hr];exact hn _ _ _ h1 h2
 ·rw [hr];exact hn _ _ _ h1 h2
theorem Bc:∀ (l1 l2:List PV) (v1 v2:List Value),bH g H w l1 v1→bH g H w l2 v2→bH g H w (l1++l2) (v1++v2)
 | [],l2,v1,v2,h1,h2=>by simp only [bH] at h1;subst h1;exact h2
 | x::r,l2,v1,v2,h1,h2=>by simp only [bH] at h1;obtain ⟨v,vr,rfl,h3,h4⟩:=h1;simp only [wO,bH];exact ⟨v,vr++v2,rfl,h3,Bc r l2 vr v2 h4 h2⟩
theorem XH {w w':World} {I I':Nat→Prop} (k:zL I I' w w'):∀ (l:List PV) (vs:List Value),fW I w l vs→fW I' w' l vs
 | [],vs,h=>by simpa only [fW] using h
 | x::r,vs,h=>by simp only [fW] at h ⊢;obtain ⟨v,vr,e,h1,h2⟩:=h;exact ⟨v,vr,e,JC k h1,XH k r vr h2⟩
theorem NQ {w w':World} {I I':Nat→Prop} (k:zL I I' w w') {x:PV} {v:Value} (h:VP I w x v):VP I' w' x v:=by
 cases x with
 | tup ps =>simp only [VP] at h ⊢;obtain ⟨vs,e,h⟩:=h;exact ⟨vs,e,XH k _ _ h⟩
 | _=>simp only [VP] at h ⊢;exact JC k h
theorem nm {nt:Nat} {g:Gh} {F:aD} {H:Hp} {tmps:Array Value} {w:World} (hr:Rel E nt g F H tmps w) {r q:PV} {v:Value} (h:VR g H w r v) (hq:purR H r=some q) :
  ∃ g' H',Rel E nt g' F H' tmps w∧Nx g g' H H' w w∧VP g'.I w q v:=by
 unfold purR at hq;split at hq
 ·rename_i ps;split at hq
  ·rename_i qs H1 hp
   cases hq
   simp only [VR] at h;obtain ⟨vs,rfl,h⟩:=h;obtain ⟨g',h1,h2,_,_,h3⟩:=DC _ _ _ _ _ _ hr h hp;exact ⟨g',H1,h1,h2,by simp only [VP];exact ⟨vs,rfl,h3⟩⟩
  ·cases hq
 ·split at hq
  ·rename_i x hx q' H1 hp
   cases hq
   obtain ⟨g',h1,h2,_,_,_,h3⟩:=DB hr h hp;refine ⟨g',H1,h1,h2,?_⟩
   cases q<;>first | exact h3 | (simp only [eU] at h3)
  ·cases hq
theorem XI {nt:Nat} {F:aD} {tmps:Array Value} {w:World} {esz b:Nat}:∀ (rows ys:List PV) (o:Nat) (H H':Hp) (g:Gh),Rel E nt g F H tmps w→eI g H w rows esz b o→yeq H rows=some (ys,H') →
  ∃ g',Rel E nt g' F H' tmps w∧Nx g g' H H' w w∧g'.ρ=g.ρ∧ys.length=rows.length∧dN g'.I w ys esz b o
 | [],ys,o,H,H',g,hr,h,hq=>by simp only [yeq,bT,Prod.mk.injEq] at hq;obtain ⟨rfl,rfl⟩:=hq;exact ⟨g,hr,Nx.refl g H w,rfl,rfl,by simp only [dN]⟩
 | x::r,ys,o,H,H',g,hr,h,hq=>by
  simp only [yeq] at hq;split at hq
  ·rename_i y H1 hy;split at hq
   ·rename_i ys H2 hys
    cases hq
    simp only [eI] at h;obtain ⟨⟨vs,hl,h1,h2⟩,h3⟩:=h;obtain ⟨v,rfl,h4⟩:∃ v,vs=[v]∧VR g H w x v:=by
     cases x<;>first | exact h1.2 | simp [yfB] at hy
    obtain ⟨g1,r1,n1,_,p1,c1,o1⟩:=Gl hr h4 hy;obtain ⟨g2,r2,n2,p2,l2,c2⟩:=XI r ys (o+esz) H1 H' g1 r1 (Dt n1.on _ _ rfl _ _ h3) hys;refine ⟨g2,r2,n1.trans n2,p2.trans p1,by simp [l2],?_⟩;simp only [dN];exact ⟨⟨[v],hl,jM n2.on.keeps y [v] c1,h2⟩,c2⟩
   ·cases hq
  ·cases hq
theorem nn {nt:Nat} {g:Gh} {F:aD} {H:Hp} {tmps:Array Value} {w:World} (hr:Rel E nt g F H tmps w) {r q:PV} {v:Value} (h:VR g H w r v) (hq:Ng H r=some q) :
  ∃ g' H',Rel E nt g' F H' tmps w∧Nx g g' H H' w w∧VP (fun b=>g'.I b∨RngR g' b) w q v:=by
 unfold Ng at hq;split at hq
 ·rename_i id lo len ext cap k n;split at hq
  ·rename_i hb e;split at hq
   ·rename_i hc;split at hq
    ·rename_i ys H1 hp
     cases hq
     simp only [VR,bH] at h;obtain ⟨vs,rfl,v1,vr1,rfl,ho,v2,vr2,rfl,hi,rfl⟩:=h;obtain ⟨hb',ad,c,e',hle,hv,hc1,hm,hcc,hcond⟩:=ho;rw [e] at e';cases e';obtain ⟨b,o1,hρ,hle2,had,_,_⟩:=hcond hc.1;obtain ⟨b',o',hk⟩:=hr.heap id hb e;have hk1:=hk.at_;rw [hρ] at hk1;cases hk1;obtain ⟨g2,r2,n2,p2,l2,c2⟩:=XI _ ys _ H H1 g hr (JH hk.rows lo len) hp;refine ⟨g2,H1,r2,n2,?_⟩;simp only [VP,fW,eU];refine ⟨_,rfl,v1,_,rfl,?_,v2,_,rfl,?_,rfl⟩
     ·simp only [RC];have hl:ys.length=len:=by rw [l2,kW,kD];omega
      refine ⟨some ad,len,c,by rw [hv],hl.symm,hc1,hm,?_⟩
      by_cases hz:len=0
      ·left;exact CV (by omega)
      ·right;have hI:g2.I b∨RngR g2 b:=.inr ⟨id,o1,by rw [p2];exact hρ⟩;refine ⟨b,o1+lo*hb.esz,hb.esz,by rw [had (by omega)],hI,hk.esz,sX _ _ _ _ fun i x hx=>?_⟩;obtain ⟨vs,k1,k2,k3⟩:=oR _ _ _ _ i x c2 hx;exact ⟨vs,k1,jM (fun b hb=>⟨.inl hb,rfl⟩) x vs k2,k3⟩
     ·simp only [RC];exact ⟨by rw [hi.1],hi.2⟩
    ·cases hq
   ·cases hq
  ·cases hq
 ·cases hq
theorem XJ {nt:Nat} {g:Gh} {F:aD} {H:Hp} {tmps:Array Value} {w:World} (hr:Rel E nt g F H tmps w) {b:Bool} {r q:PV} {v:Value} (h:VR g H w r v) (hq:kK b H r=some q) :
  ∃ g' H',Rel E nt g' F H' tmps w∧Nx g g' H H' w w∧VP (fun b=>g'.I b∨RngR g' b) w q v:=by
 have base:∀ {q:PV},purR H r=some q→∃ g' H',Rel E nt g' F H' tmps w∧Nx g g' H H' w w∧VP (fun b=>g'.I b∨RngR g' b) w q v:=fun hq=>by
  obtain ⟨g',H',h1,h2,h3⟩:=nm hr h hq;exact ⟨g',H',h1,h2,NQ (fun b hb=>⟨.inl hb,rfl⟩) h3⟩
 unfold kK at hq
 cases b with
 | false=>exact base hq
 | true=>
  simp only [cond_true] at hq;split at hq
  ·cases hq
   simp only [VR] at h;exact ⟨g,H,hr,Nx.refl g H w,by simp only [VP,eU];exact h⟩
  ·split at hq
   ·rename_i q' hq'
    cases hq
    exact base hq'
   ·exact nn hr h hq
theorem run_pure {b:Bool} {call} (hc:yba P E call) {I:Nat→Prop} {w:World} {f:Nat} {args:List PV} {vs:List Value} {r q:PV} {H:Hp} (himm:∀ b,I b→b<w.heap.size)
  (hg:∀ n x,E.glob n=some x→I n∧∃ vs,0<vs.length∧RC I w x vs∧At w n 0 vs) (hv:fW I w args vs) (hin:call f args []=some (r,H)) (h:kK b H r=some q) :
  kM P f vs.toArray w fun v w'=>Bel w.heap.size w w'∧VP (fun b=>I b∨(w.heap.size≤b∧b<w'.heap.size)) w' q v:=by
 let g0:Gh:=⟨fun _=>none,fun _=>none,I,fun _=>none⟩;have hr:Rel E 0 g0 [] [] #[] w:=by
  refine ⟨kF _,fun s fv e=>by simp [fget] at e,fun id hb e=>by simp at e,fun id id' hb b o b' o' e=>by simp at e,fun id b o e=>by simp [g0] at e,fun s s' b e=>by simp [g0] at e,fun s b id o e=>by simp [g0] at e,fun s b e=>by simp [g0] at e,himm,hg⟩
 refine (hc f args [] r H hin 0 g0 [] #[] w vs hr (Lps.none_ fun _=>rfl) (Gp (g:=g0) _ _ hv)).mono ?_;rintro v w' ⟨g',n1,r1,hvr⟩;obtain ⟨g2,H2,r2,n2,hvp⟩:=XJ r1 hvr h;have n3:=n1.trans n2;have noR:∀ b,¬RngR g0 b:=fun b ⟨id,o,e⟩=>by simp [g0] at e
 have noM:∀ b,¬kL g0 b:=fun b ⟨s,e⟩=>by simp [g0] at e
 refine ⟨⟨⟨n3.os,n3.tape,n3.output,n3.size,fun k hk=>n3.kept k hk (noR k) (noM k)⟩,n3.drawn⟩,NQ (fun b hb=>⟨?_,rfl⟩) hvp⟩;rcases qA4 b w.heap.size with h1 | h1
 ·rcases hb with hb | hb
  ·rcases n3.immb b h1 hb with h2 | h2
   ·exact .inl h2
   ·exact absurd h2 (noR b)
  ·exact absurd (n3.rng b h1 hb) (noR b)
 ·exact .inr ⟨h1,hb.elim (r2.imm b) r2.brng⟩
theorem JK:∀ (H:Hp) (id:Nat),(jU H)[id]?=(H[id]?).map AR
 | [],id=>by simp [jU]
 | b::r,0=>rfl
 | b::r,id+1=>by simp only [jU,FW];exact JK r id
theorem XK:∀ (H:Hp),(jU H).length=H.length
 | []=>rfl
 | b::r=>by simp only [jU,kI,XK r]
structure IceG (g g1:Gh):Prop where
 rng:∀ b,RngR g1 b→g1.I b
 bet:∀ b,¬kL g1 b
theorem Rel.ice (hr:Rel E nt g F H tmps w) {args:List PV} {vs:List Value} (hv:bH g H w args vs):∃ g1,Rel E nt g1 [] (jU H) tmps w∧bH g1 (jU H) w args vs∧IceG g g1:=by
 let g1:Gh:={ g with β:=fun _=>none,I:=fun b=>g.I b∨RngR g b };have hon:On g g1 H (jU H) w w:=by
  refine ⟨fun b h=>⟨.inl h,rfl⟩,fun id hb e=>⟨AR hb,by rw [JK,e];rfl,rfl,rfl,.inr ⟨rfl,rfl⟩⟩,fun b cur T e=>⟨cur,e,rfl⟩,rfl⟩
 refine ⟨g1,?_,wU hon _ _ hv,⟨fun b h=>.inr h,fun b ⟨s,e⟩=>by simp [g1] at e⟩⟩;refine { size:=hr.size,frame:=fun s fv e=>by simp [fget] at e,heap:=fun id hb e=>?_,dist:=fun id id' hb b o b' o' e hf=>?_,rsome:=fun id b o e=>by rw [XK];exact hr.rsome id b o e,bdist:=fun s s' b e=>by simp [g1] at e,brho:=fun s b id o e=>by simp [g1] at e,bimm:=fun s b e=>by simp [g1] at e,imm:=fun b h=>?_,glob:=fun n x hx=>?_ }
 ·rw [JK,mI] at e;obtain ⟨hb0,e0,rfl⟩:=e;obtain ⟨b,o,hk⟩:=hr.heap id hb0 e0;refine ⟨b,o,hk.at_,hk.esz,hk.cells,Dt hon _ _ rfl _ _ hk.rows,fun hp=>?_,fun _=>.inr ⟨id,o,hk.at_⟩,fun h=>by cases h⟩;refine sX _ _ _ _ fun i x hx'=>?_
  obtain ⟨vs,h1,h2,h3⟩:=oR _ _ _ _ i x (hk.pure hp) hx';exact ⟨vs,h1,jM hon.keeps x vs h2,h3⟩
 ·rw [JK,mI] at e;obtain ⟨hb0,e0,rfl⟩:=e
  cases hf
 ·rcases h with h | h
  ·exact hr.imm b h
  ·exact hr.brng h
 ·obtain ⟨h1,vs,h2,h3,h4⟩:=hr.glob n x hx;exact ⟨.inl h1,vs,h2,jM hon.keeps x vs h3,h4⟩
theorem nq {Hi:Hp} {g1:Gh} (hr:Rel E nt g1 F Hi tmps w) (hi:∀ b,RngR g1 b→g1.I b) {x q:PV} {v:Value} (h:VR g1 Hi w x v) (hq:purP Hi x=some q):eU g1.I w q v:=by
 have back:∀ {g':Gh} {H':Hp},Rel E nt g' F H' tmps w→Nx g1 g' Hi H' w w→zL g'.I g1.I w w:=fun r n b hb=>⟨(n.immb b (r.imm b hb) hb).elim id (hi b),rfl⟩
 have base:∀ {q:PV},(match yca Hi x with | some (q,_)=>some q | none=>none)=some q→eU g1.I w q v:=fun hq=>by
  split at hq
  ·rename_i q' H' hp
   cases hq
   obtain ⟨g',r',n',_,_,_,h3⟩:=DB hr h hp;exact JC (back r' n') h3
  ·cases hq
 unfold purP at hq;split at hq
 ·rename_i id ext i off;split at hq
  ·rename_i hb e;split at hq
   ·rename_i he;split at hq
    ·rename_i row hrow;split at hq
     ·rename_i q' H' hp
      cases hq
      simp only [VR] at h;obtain ⟨hb',a,e',hle,hv,hcond⟩:=h;rw [e] at e';cases e';obtain ⟨b,o,hρ,hlt,ha⟩:=hcond he;obtain ⟨b',o',hk⟩:=hr.heap id hb e;have hk1:=hk.at_;rw [hρ] at hk1;cases hk1;obtain ⟨vs,k1,k2,k3⟩:=vJ _ _ _ _ i row hk.rows hrow;have hrc:RC g1.I w q' vs:=by
       cases row with
       | agg cs=>
        have hvr:VR g1 Hi w (.agg cs) (.agg vs.toArray):=by simp only [VR];exact ⟨vs,rfl,k2⟩
        obtain ⟨g',r',n',_,_,h3,_⟩:=DB hr hvr hp;exact jM (back r' n') _ _ (by simpa [Value.cells] using h3)
       | _ =>simp only [bA] at k2;obtain ⟨_,v1,rfl,k2⟩:=k2;simp only [yca] at hp;obtain ⟨g',r',n',_,_,h3,_⟩:=Gl hr k2 hp;exact jM (back r' n') _ _ h3
      simp only [eU];refine ⟨b,o+i*hb.esz,hb.esz,?_,hi b ⟨id,o,hρ⟩,hk.esz,by simp,?_⟩
      ·rw [hv,ha];simp
      ·simp only [dN];exact ⟨⟨vs,k1,hrc,k3⟩,trivial⟩
     ·cases hq
    ·cases hq
   ·cases hq
  ·cases hq
 ·cases hq
  simp only [VR] at h;simp only [eU];exact h
 ·exact base hq
theorem XL {Hi:Hp} {g1:Gh} (hr:Rel E nt g1 F Hi tmps w) (hi:∀ b,RngR g1 b→g1.I b):∀ (l ys:List PV) (vs:List Value),bH g1 Hi w l vs→yyO Hi l=some ys→fW g1.I w ys vs
 | [],ys,vs,h,hq=>by simp only [yyO,bT] at hq;subst hq;simpa only [bH,fW] using h
 | x::r,ys,vs,h,hq=>by
  simp only [yyO] at hq;split at hq
  ·rename_i y hy;split at hq
   ·rename_i ys' hys
    cases hq
    simp only [bH] at h;obtain ⟨v,vr,rfl,h1,h2⟩:=h;simp only [fW];exact ⟨v,vr,rfl,nq hr hi h1 hy,XL hr hi r ys' vr h2 hys⟩
   ·cases hq
  ·cases hq
theorem XM (hE:EO P E) {call} (hc:yba P E call) (hr:Rel E nt g F H tmps w) {n:Nat} {ps:List PV} {vs:List Value} {r:PV} (hv:fW g.I w ps vs) (h:ycH E call n ps=some r) :
  kM P n vs.toArray w fun v w'=>Bel w.heap.size w w'∧VP (fun b=>g.I b∨(w.heap.size≤b∧b<w'.heap.size)) w' r v:=by
 unfold ycH at h;split at h
 ·rename_i r' hs
  cases h
  exact hE.sum n ps _ hs g.I w vs hr.imm hr.glob hv
 ·split at h
  ·split at h
   ·rename_i r0 H1 hcall;exact run_pure hc hr.imm hr.glob hv hcall h
   ·cases h
  ·cases h
theorem nr (hE:EO P E) {call} (hc:yba P E call) (hr:Rel E nt g F H tmps w) (hL:Lps P E g H w) {f:PV} {fv:Value} {az:List PV} {vs:List Value} {r:PV} (h:pK E call f az H=some (r,H')) (hf:VR g H w f fv) (has:bH g H w az vs) :
  (∃ (n:Nat) (first captured:List Value),fv=.func (.func n) first.toArray captured.toArray ∧
   kM P n (first++vs++captured).toArray w fun v w'=>∃ g',Nx g g' H H' w w'∧Rel E nt g' F H' tmps w'∧VR g' H' w' r v) ∨
  (∃ l,fv=.func (.yield l) #[] #[]∧∃ (fn:FuncId) (tmps1:Array Value) (assign body:Code),(Instr.yield l vs.toArray).run P w=.ok (.round l fn tmps1 assign body) w ∧
   ∀ ro,RoundIn (Fc ro) 0 P l fn tmps1 assign body w fun e w'=>match e with | .returned v=>∃ g',Nx g g' H H' w w'∧Rel E nt g' F H' tmps w'∧VR g' H' w' r v | _=>False):=by
 unfold pK at h;split at h
 ·rename_i n first captured;simp only [VR] at hf;obtain ⟨fs,cs,rfl,hfs,hcs,_⟩:=hf;refine .inl ⟨n,fs,cs,rfl,?_⟩;have hall:=Bc _ _ _ _ (Bc _ _ _ _ hfs has) hcs;split at h
  ·split at h
   ·rename_i ps hp;split at h
    ·rename_i r0 hs;split at h
     ·rename_i hsc
      cases h
      obtain ⟨g1,r1,v1,e1⟩:=hr.ice hall;refine (XM hE hc r1 (XL r1 e1.rng _ _ _ v1 hp) hs).mono fun v w' ⟨hb,hv⟩=>?_
      obtain ⟨g2,h1,h2,_⟩:=hr.grew hb;exact ⟨g2,h2,h1,XE hsc hv⟩
     ·cases h
    ·cases h
   ·cases h
  split at h
  ·rename_i res hres;split at hres
   ·rename_i ps H1 hp;split at hres
    ·rename_i s hs;obtain ⟨g1,r1,n1,b1,p1,v1⟩:=DC _ _ _ _ _ _ hr hall hp;refine (XM hE hc r1 v1 hs).mono fun v w' ⟨hb,hv⟩=>?_
     split at hres
     ·rename_i hsc
      cases hres;cases h
      obtain ⟨g2,h1,h2,_⟩:=hr.grew hb;exact ⟨g2,h2,h1,XE hsc hv⟩
     ·cases hres;cases h
      obtain ⟨g2,h1,h2,h3,h4,h5⟩:=r1.grew hb;refine ⟨g2,n1.trans h2,h1,XC ?_⟩;rw [h5];exact hv
    ·cases hres
   ·cases hres
  ·split at h
   ·cases h
   split at h
   ·split at h
    ·rename_i ps H1 hp;obtain ⟨g1,r1,n1,b1,p1,v1⟩:=DC _ _ _ _ _ _ hr hall hp;refine (hc n ps H1 r H' h nt g1 F tmps w _ r1 (hL.nx n1) (Gp _ _ v1)).mono fun v w' ⟨g2,h1,h2,h3⟩=>⟨g2,n1.trans h1,h2,h3⟩
    ·cases h
   ·exact hc n _ H r H' h nt g F tmps w _ hr hL hall
 ·rename_i k;split at h
  ·rename_i H1 hy
   cases h
   simp only [VR,bH] at hf;obtain ⟨fs,cs,rfl,rfl,rfl,hk⟩:=hf;simp only [Gh.okF] at hk;obtain ⟨l,hl⟩:=wH.1 hk;obtain ⟨fn,t1,as1,bd,h1,h2⟩:=hE.yl E.yn k az H none H' hy (bW _) nt g F tmps w vs l hr (hL.env rfl rfl) hl has;refine .inr ⟨l,by simp only [Gh.tr];rw [hl];rfl,fn,t1,as1,bd,h1,fun ro=>(h2 ro).mono fun e w' he=>?_⟩
   cases e with
   | returned v=>obtain ⟨rfl,g',n1,r1⟩:=he;exact ⟨g',n1,r1,by simp [VR]⟩
   | panicked _=>exact he
   | outgrown=>exact he
  ·cases h
 ·cases h
theorem ns {nt:Nat} {g:Gh} {F:aD} {H H':Hp} {tmps:Array Value} {w:World} (hr:Rel E nt g F H tmps w) {r q:PV} {v:Value} (h:VR g H w r v) (hq:yBp H r=some (q,H')) :
  ∃ g',Rel E nt g' F H' tmps w∧Nx g g' H H' w w∧VP g'.I w q v:=by
 unfold yBp at hq;split at hq
 ·rename_i ps;split at hq
  ·rename_i qs H1 hp
   cases hq
   simp only [VR] at h;obtain ⟨vs,rfl,h⟩:=h;obtain ⟨g',h1,h2,_,_,h3⟩:=DC _ _ _ _ _ _ hr h hp;exact ⟨g',h1,h2,by simp only [VP];exact ⟨vs,rfl,h3⟩⟩
  ·cases hq
 ·obtain ⟨g',h1,h2,_,_,_,h3⟩:=DB hr h hq;refine ⟨g',h1,h2,?_⟩
  cases q<;>first | exact h3 | (simp only [eU] at h3)
theorem XN:∀ (l:List PV) (vs:List Value) (j:Nat) (x:PV),bH g H w l vs→l[j]?=some x→∃ v,vs[j]?=some v∧VR g H w x v
 | [],_,j,x,_,e=>by simp at e
 | y::r,vs,j,x,h,e=>by
  simp only [bH] at h;obtain ⟨v,vr,rfl,h1,h2⟩:=h
  cases j with
  | zero=>simp at e;subst e;exact ⟨v,rfl,h1⟩
  | succ j=>simp at e;simpa using XN r vr j x h2 e
theorem NR:∀ (l:List PV) (vs:List Value) (j:Nat) (x:PV) (v:Value),bH g H w l vs→VR g H w x v→bH g H w (l.set j x) (vs.set j v)
 | [],vs,j,x,v,h,_=>by simp only [bH] at h;subst h;simp [bH]
 | y::r,vs,j,x,v,h,hx=>by
  simp only [bH] at h;obtain ⟨v0,vr,rfl,h1,h2⟩:=h
  cases j with
  | zero=>simp only [List.set_cons_zero,bH];exact ⟨_,_,rfl,hx,h2⟩
  | succ j=>simp only [List.set_cons_succ,bH];exact ⟨_,_,rfl,h1,NR r vr j x v h2 hx⟩
theorem XO {α:Type}:∀ (l:List α) (j:Nat) (x y:α),l[j]?=some x→(l.set j y).set j x=l
 | [],j,_,_,e=>by simp at e
 | z::r,0,x,y,e=>by simp at e;subst e;rfl
 | z::r,j+1,x,y,e=>by simp at e;simp only [List.set_cons_succ,XO r j x y e]
theorem nu {call} (hc:yba P E call) (hr:Rel E nt g F H tmps w) {x:LocC} {r:PV} (h:Dm call x H=some (r,H')) (hj:∃ x0,x.all[x.j]?=some x0∧locY x0=some (x.id,x.y)) {vs:List Value} (hv:bH g H w x.all vs) :
  kM P x.n vs.toArray w fun v w'=>∃ g',Nx g g' H H' w w'∧Rel E nt g' F H' tmps w'∧VR g' H' w' r v:=by
 unfold Dm at h;split at h
 case h_2=>cases h
 rename_i az H1 hp;split at h
 case h_2=>cases h
 rename_i b hb;split at h
 case isFalse=>cases h
 rename_i hb2;split at h
 case h_2=>cases h
 rename_i q rows hq
 cases h
 unfold yCe at hq;split at hq
 case h_2=>cases hq
 rename_i r0 H2 hcall;split at hq
 case h_2=>cases hq
 rename_i q' H3 hpur;split at hq
 case h_2=>cases hq
 rename_i b2 hb3;split at hq
 case isFalse=>cases hq
 rename_i hb4
 cases hq
 obtain ⟨x0,hj,hy⟩:=hj;obtain ⟨vj,hvj,howv⟩:=XN _ _ _ _ hv hj;obtain ⟨g1,r1,n1,b1,p1,v1⟩:=DC _ _ _ _ _ _ hr (NR _ _ x.j (.int .i64 0) (.int .i64 0) hv (by simp only [VR];exact ⟨trivial,by unfold inK;decide⟩)) hp;have how1:=mL n1.on _ _ howv;let g0:Gh:=⟨fun k=>if k=0 then g1.ρ x.id else none,fun _=>none,g1.I,fun _=>none⟩;obtain ⟨bl,o,hk⟩:=r1.heap x.id b hb;have hr0:Rel E 0 g0 [] [b] #[] w:=by
  refine ⟨kF _,fun s fv e=>by simp [fget] at e,fun id hb' e=>?_,fun id id' hb' b' o' b'' o'' e hf hne e1 e2=>?_,fun id b' o' e=>?_,fun s s' b' e=>by simp [g0] at e,fun s b' id o' e=>by simp [g0] at e,fun s b' e=>by simp [g0] at e,r1.imm,r1.glob⟩
  ·cases id with
   | zero =>simp at e;subst e;exact ⟨bl,o,by simp [g0,hk.at_],hk.esz,hk.cells,Nu (hk.pure hb2.2),hk.pure,hk.fz,hk.live⟩
   | succ id=>simp at e
  ·have h1:id=0:=Classical.byContradiction fun hne=>by simp [g0,hne] at e1
   have h2:id'=0:=Classical.byContradiction fun hne=>by simp [g0,hne] at e2
   omega
  ·have h1:id=0:=Classical.byContradiction fun hne=>by simp [g0,hne] at e
   subst h1;simp
 have hvs0:bH g0 [b] w (az.set x.j x.y) vs:=by
  have h1:bH g0 [b] w az (vs.set x.j (.int .i64 0)):=Gp (g:=g0) _ _ v1;have h2:VR g0 [b] w x.y vj:=by
   cases x0<;>simp only [locY,bT,Prod.mk.injEq,reduceCtorEq] at hy
   case own id lo len ext cap=>
    obtain ⟨h9,h10⟩:=hy;subst h9;rw [← h10];simp only [VR,pM] at how1 ⊢;obtain ⟨hb',a,c,e,h3,h4,h5,h6,h7,h8⟩:=how1;rw [hb] at e
    cases e
    exact ⟨b,a,c,rfl,h3,h4,h5,h6,h7,fun hl=>by simpa [g0] using h8 hl⟩
   case ptr id ext i off=>
    obtain ⟨h9,h10⟩:=hy;subst h9;rw [← h10];simp only [VR,PtrR] at how1 ⊢;obtain ⟨hb',a,e,h3,h4,h5⟩:=how1;rw [hb] at e
    cases e
    exact ⟨b,a,rfl,h3,h4,fun hl=>by simpa [g0] using h5 hl⟩
  have h3:=NR _ _ x.j _ _ h1 h2
  rwa [XO _ _ _ _ hvj] at h3
 refine (hc x.n _ [b] r0 H2 hcall 0 g0 [] #[] w vs hr0 (Lps.none_ fun _=>rfl) hvs0).mono ?_;rintro v w' ⟨g2,n2,r2,hvr⟩;obtain ⟨g3,r3,n3,hvp⟩:=ns r2 hvr hpur;have n4:=n2.trans n3;have hR0:∀ k,RngR g0 k→k=bl:=fun k ⟨id,o',e⟩=>by
  have h1:id=0:=Classical.byContradiction fun hne=>by simp [g0,hne] at e
  subst h1;simp [g0,hk.at_] at e;exact e.1.symm
 have noF:∀ k,¬kL g0 k:=fun k ⟨s,e⟩=>by simp [g0] at e
 have hblR:RngR g1 bl:=⟨x.id,o,hk.at_⟩;have hlive:=hk.live hb2.1;obtain ⟨bl3,o3,hk3⟩:=r3.heap 0 b2 hb3;obtain ⟨b2',e2',z2,p2,l2⟩:=n4.on.hext 0 b rfl;rw [hb3] at e2'
 cases e2'
 have hρ3:g3.ρ 0=some (bl,o):=by
  rcases l2 with l2|⟨_,l2⟩
  ·omega
  ·rw [l2];simp [g0,hk.at_]
 have hat:bl3=bl∧o3=o:=by have:=hk3.at_;rw [hρ3] at this;simp at this;exact ⟨this.1.symm,this.2.symm⟩
 obtain ⟨rfl,rfl⟩:=hat
 have kept:∀ k,k<w.heap.size→k≠bl3→w'.heap[k]?=w.heap[k]?:=fun k hk1 hne=>n4.kept k hk1 (fun h=>hne (hR0 k h)) (noF k)
 have immk:∀ k,k<w.heap.size→g3.I k→g1.I k∨k=bl3:=fun k hk1 hi=>(n4.immb k hk1 hi).elim .inl fun h=>.inr (hR0 k h)
 let g4:Gh:={ g1 with I:=g3.I };have hon:On g1 g4 H1 (H1.set x.id { b with rows:=b2.rows }) w w':=by
  refine ⟨n4.on.keeps,fun id hb' e=>?_,n4.on.shape,rfl⟩
  by_cases hid:id=x.id
  ·subst hid;rw [hb] at e
   cases e
   exact ⟨{ b with rows:=b2.rows },by rw [sK (nA.1 hb).1],rfl,rfl,.inr ⟨hb4.2.symm,rfl⟩⟩
  ·exact ⟨hb',by rw [pG (fun e=>hid e.symm)];exact e,rfl,rfl,.inr ⟨rfl,rfl⟩⟩
 have hnx:Nx g1 g4 H1 (H1.set x.id { b with rows:=b2.rows }) w w':=by refine ⟨n4.os,n4.tape,n4.output,n4.drawn,n4.size,fun k h1 h2 h3=>kept k h1 fun e=>h2 (e ▸ hblR),fun k _ h=>h,fun k h1 h2=>(immk k h1 h2).elim .inl fun e=>.inr (e ▸ hblR),fun k _ h=>h,hon⟩
 have rowsK:∀ k,w'.heap[k]?=w.heap[k]?→∀ {l:List PV} {z o':Nat},dN g1.I w l z k o'→dN g3.I w' l z k o':=fun k hk1 {l z o'} hrc=>sX _ _ _ _ fun i y hy=>by
  obtain ⟨us,q1,q2,q3⟩:=oR _ _ _ _ i y hrc hy;exact ⟨us,q1,jM n4.on.keeps y us q2,q3.keep hk1⟩
 have brng:∀ k id o',g1.ρ id=some (k,o')→k<w.heap.size:=fun k id o' e=>r1.brng ⟨id,o',e⟩
 refine ⟨g4,n1.trans hnx,⟨r1.size,fun s fv e=>?_,fun id hb' e=>?_,fun id1 id2 hb' k o' k' o'' e hf hne e1 e2=>?_,fun id k o' e=>by rw [sN];exact r1.rsome id k o' e,r1.bdist,r1.brho,fun s k e=>?_,r3.imm,fun m y hy=>?_⟩,?_⟩
 ·have h1:=r1.frame s fv e
  cases fv with
  | v p=>simp only [bR] at h1 ⊢;exact mL hon p _ h1
  | box row=>
   simp only [bR] at h1 ⊢;obtain ⟨k,k1,k2,k3,cur,T,k4,k5⟩:=h1;have hks:=(r1.bimm s k k1).2;have hne:k≠bl3:=fun e=>r1.brho s k x.id o3 k1 (e ▸ hk.at_)
   exact ⟨k,k1,k2,fun hi=>(immk k hks hi).elim k3 hne,cur,T,by rw [kept k hks hne];exact k4,wV hon row _ k5⟩
  | bp s' off=>exact h1
 ·by_cases hid:id=x.id
  ·subst hid;rw [sK (nA.1 hb).1] at e
   cases e
   have hpu3:dN g3.I w' b2.rows b.esz bl3 o3:=by rw [← z2];exact hk3.pure (by rw [p2];exact hb2.2)
   obtain ⟨cur,T,k1,k2⟩:=hk3.cells;exact ⟨bl3,o3,hk.at_,hk.esz,⟨cur,T,k1,by rw [← z2];exact k2⟩,Nu hpu3,fun _=>hpu3,fun hf=>(by rw [hb2.1] at hf;cases hf),fun _=>hk3.live hb4.1⟩
  ·rw [pG (fun e=>hid e.symm)] at e;obtain ⟨k,o',kk⟩:=r1.heap id hb' e;have hks:=brng k id o' kk.at_;have hne:k≠bl3:=fun ek=>r1.dist x.id id b bl3 o3 k o' hb hb2.1 (fun e=>hid e.symm) hk.at_ kk.at_ ek.symm
   obtain ⟨cur,T,k1,k2⟩:=kk.cells;exact ⟨k,o',kk.at_,kk.esz,⟨cur,T,by rw [kept k hks hne];exact k1,k2⟩,Dt hon _ _ (kept k hks hne) _ _ kk.rows,fun hp'=>rowsK k (kept k hks hne) (kk.pure hp'),fun hf=>(n4.on.keeps k (kk.fz hf)).1,fun hf hi=>(immk k hks hi).elim (kk.live hf) hne⟩
 ·by_cases hid:id1=x.id
  ·subst hid;exact r1.dist _ id2 b k o' k' o'' hb hb2.1 hne e1 e2
  ·rw [pG (fun e=>hid e.symm)] at e;exact r1.dist id1 id2 hb' k o' k' o'' e hf hne e1 e2
 ·obtain ⟨h1,h2⟩:=r1.bimm s k e;exact ⟨fun hi=>(immk k h2 hi).elim h1 fun ek=>r1.brho s k x.id o3 e (ek ▸ hk.at_),lF h2 n4.size⟩
 ·obtain ⟨h1,vs',h2,h3,h4⟩:=r1.glob m y hy;exact ⟨(n4.on.keeps m h1).1,vs',h2,jM n4.on.keeps y vs' h3,h4.keep (n4.on.keeps m h1).2⟩
 ·exact XC (g:=g4) hvp
theorem yEz (hE:EO P E) {call} (hc:yba P E call) (hr:Rel E nt g F H tmps w) (hL:Lps P E g H w) {f:PV} {fv:Value} {az:List PV} {vs:List Value} {r:PV} (h:ylw E call f az H=some (r,H')) (hf:VR g H w f fv) (has:bH g H w az vs) :
  (∃ (n:Nat) (first captured:List Value),fv=.func (.func n) first.toArray captured.toArray ∧
   kM P n (first++vs++captured).toArray w fun v w'=>∃ g',Nx g g' H H' w w'∧Rel E nt g' F H' tmps w'∧VR g' H' w' r v) ∨
  (∃ l,fv=.func (.yield l) #[] #[]∧∃ (fn:FuncId) (tmps1:Array Value) (assign body:Code),(Instr.yield l vs.toArray).run P w=.ok (.round l fn tmps1 assign body) w ∧
   ∀ ro,RoundIn (Fc ro) 0 P l fn tmps1 assign body w fun e w'=>match e with | .returned v=>∃ g',Nx g g' H H' w w'∧Rel E nt g' F H' tmps w'∧VR g' H' w' r v | _=>False):=by
 unfold ylw at h;split at h
 ·rename_i x hx;unfold ype at hx;split at hx
  case h_2=>cases hx
  rename_i n first captured;split at hx
  case h_2=>cases hx
  rename_i j _;split at hx
  case h_2=>cases hx
  rename_i x0 hj;split at hx
  case h_2=>cases hx
  rename_i id y hy
  cases hx
  simp only [VR] at hf;obtain ⟨fs,cs,rfl,hfs,hcs,_⟩:=hf;exact .inl ⟨n,fs,cs,rfl,nu hc hr h ⟨x0,hj,hy⟩ (Bc _ _ _ _ (Bc _ _ _ _ hfs has) hcs)⟩
 ·exact nr hE hc hr hL h hf has
theorem nv {ro:Option Nat} (hE:EO P E) {call} (hc:yba P E call) (hr:Rel E nt g F H a.tmps w) (hL:Lps P E g H w) {c:Call} {f:Operand} {f':Opd} {az':List Opd} {out:Out} (ho:o.op=.call c) (hcal:c.callee=.value f) (hf:opd f=some f') (has:dO c.args.toList=some az')
  (h:yas E call F H (.call f' az')=some out) (hd:∀ d,o.dst=some d→d<nt) (hp:ydT (jA F out.bx) o.dst out.x=some F') {next:Act→World→Prop} {Q:Exit→Act→World→Prop}
  (hn:∀ v w' g',Nx g g' H out.h w w'→Rel E nt g' F' out.h (a.put o.dst v).tmps w'→next (a.put o.dst v) w'):o.wpIn (Fc ro) 0 P a w next Q:=by
 simp only [yas] at h;split at h
 ·rename_i fv av hfv hav;split at h
  ·rename_i r H1 hcall;rw [cW h] at hp hn;have hstep:∀ v w' g',Nx g g' H H1 w w'→Rel E nt g' F H1 a.tmps w'→VR g' H1 w' r v→next (a.put o.dst v) w':=by
    intro v w' g' h1 h2 h3;have:=rJ.of (dst:=o.dst) (a:=a) (F':=F') (w:=w) (g:=g) (H:=H) (r:=.ok (.value v) w') (out:=⟨some (.v r),none,H1⟩) ⟨v,w',g',.inl rfl,h1,h2,h3⟩ hd hp (fun row e=>by cases e);obtain ⟨v2,w2,g2,e,h4,h5⟩:=this;rcases e with e | ⟨e,_⟩
    ·cases e;exact hn _ _ _ h4 h5
    ·cases e
   have hargs:(c.args.map a.eval)=(c.args.toList.map a.eval).toArray:=by rw [← Dd]
   refine ⟨fun _ _=>trivial,?_⟩;rw [Oper.semAt_eq _ _ _ (fun c' e=>by rw [ho] at e;cases e)];rcases yEz hE hc hr hL hcall (cS hr hf hfv) (AX hr _ _ _ has hav) with ⟨n,first,captured,hfe,hR⟩ | ⟨l,hfe,fn,t1,as1,bd,h1,h2⟩
   ·have hrun:(execOp a.eval o).run P w=(callFunc n (first++c.args.toList.map a.eval++captured).toArray).run P w:=by
     have e2:(first++c.args.toList.map a.eval++captured).toArray=first.toArray++c.args.map a.eval++captured.toArray:=by rw [hargs];simp
     rw [e2];simp [execOp,ho,resolve,hcal,hfe,Deferred.ofValue,invoke]
    unfold kM at hR;rw [hrun];split at hR
    ·rename_i v w' e;rw [e];obtain ⟨g',h1,h2,h3⟩:=hR;exact hstep v w' g' h1 h2 h3
    ·rename_i f2 a2 w' e;rw [e];simp only [Oper.uponIn];refine ⟨fun h=>by simp [Fence.wide] at h,DF.2 (Calls.mono hR fun e w'' he=>?_)⟩
     cases e with
     | returned v=>obtain ⟨g',h1,h2,h3⟩:=he;exact hstep v w'' g' h1 h2 h3
     | panicked _=>exact he.elim
     | outgrown=>exact he.elim
    ·exact hR.elim
   ·have hrun:(execOp a.eval o).run P w=.ok (.round l fn t1 as1 bd) w:=by
     rw [← h1];simp [execOp,ho,resolve,hcal,hfe,Deferred.ofValue,invoke];rw [hargs]
    rw [hrun];simp only [Oper.uponIn];refine ⟨fun h=>by simp [Fence.wide] at h,(h2 ro).mono fun e w'' he=>?_⟩
    cases e with
    | returned v=>obtain ⟨g',h1,h2,h3⟩:=he;exact hstep v w'' g' h1 h2 h3
    | panicked _=>exact he.elim
    | outgrown=>exact he.elim
  ·cases h
 ·cases h
theorem NS {loc:List Nat} (h:pQ (jN P loc o)=true):∃ c f f' az',o.op=.call c∧c.callee=.value f∧opd f=some f'∧dO c.args.toList=some az'∧jN P loc o=.call f' az':=by
 unfold jN at h
 cases ho:o.op<;>rw [ho] at h<;>simp only [] at h
 case call c=>
  cases hc:c.callee with
  | value f=>
   rw [hc] at h;simp only [] at h;split at h
   ·rename_i f' az' h1 h2;refine ⟨c,f,f',az',rfl,hc,h1,h2,?_⟩;unfold jN;rw [ho];simp only [hc,h1,h2]
   ·cases h
  | builtin b=>
   rw [hc] at h;simp only [Dx] at h
   repeat' split at h
   all_goals cases h
  | invoke _ _=>rw [hc] at h;cases h
 all_goals (try unfold Dw at h)
 all_goals (repeat' split at h)
 all_goals first | cases h | skip
structure Agr (g:Gh) (w w':World):Prop where
 os:w'.os=w.os
 tape:w'.tape=w.tape
 output:w'.output=w.output
 drawn:w.drawn≤w'.drawn
 size:w.heap.size≤w'.heap.size
 blk:∀ b,b<w.heap.size→w'.heap[b]?=w.heap[b]?∨(¬RngR g b∧¬kL g b∧¬g.I b∧∀ cur T,w.heap[b]?≠some (Obj.cells cur T (0,0)))
theorem Agr.on (k:Agr g w w') (hi:∀ b,g.I b→b<w.heap.size):On g g H H w w':=
 ⟨fun b h=>⟨h,(k.blk b (hi b h)).elim id fun x=>absurd h x.2.2.1⟩,eY.refl g H,fun b cur T e=>(k.blk b (Jo e)).elim (fun x=>⟨cur,x.trans e,rfl⟩) fun x=>absurd e (x.2.2.2 cur T),rfl⟩
theorem Rel.agr (h:Rel E nt g F H tmps w) (k:Agr g w w'):Rel E nt g F H tmps w':=by
 have hon:=k.on (H:=H) h.imm;refine h.upd hon rfl k.size (fun s b hb=>⟨(k.blk b (h.bimm s b hb).2).elim id fun x=>absurd ⟨s,hb⟩ x.2.1,(h.bimm s b hb).1,fun ⟨i,o,e⟩=>h.brho s b i o hb e⟩) (fun id hb e=>?_) h.dist h.rsome fun b hb=>lF (h.imm b hb) k.size
 obtain ⟨b,o,hk⟩:=h.heap id hb e;have hr:RngR g b:=⟨id,o,hk.at_⟩;exact ⟨b,o,nW hon hk ((k.blk b (h.brng hr)).elim (fun x=>x) fun x=>absurd hr x.1) rfl (fun x=>x)⟩
theorem Nx.later (n:Nx g g' H H' w w') (k:Agr g' w' w'') (hi:∀ b,g'.I b→b<w'.heap.size) (hk:∀ b,b<w.heap.size→w''.heap[b]?=w'.heap[b]?):Nx g g' H H' w w'':=by have o:=n.on.trans (k.on (H:=H') hi);exact ⟨k.os.trans n.os,k.tape.trans n.tape,k.output.trans n.output,jT n.drawn k.drawn,jT n.size k.size,fun b hb h1 h2=>(hk b hb).trans (n.kept b hb h1 h2),n.rng,n.immb,n.bet,o⟩
theorem Agr.nx (k:Agr g w w') (hi:∀ b,g.I b→b<w.heap.size) (hk:∀ b,b<w.heap.size→w'.heap[b]?=w.heap[b]?):Nx g g H H w w':=
 (Nx.refl g H w).later k hi hk
def Obj.rec:Obj→Prop
 | .loop _ | .deferred _=>True
 | _=>False
theorem FB.agr {b:Nat} {o o':Obj} (h:FB g w b o) (ho:Obj.rec o):Agr g w (w.putObj b o'):=by
 refine ⟨rfl,rfl,rfl,bW _,by simp,fun k hk=>?_⟩
 by_cases e:k=b
 ·subst e;refine .inr ⟨h.rng,h.bet,h.imm,fun cur T e=>?_⟩;rw [h.at_] at e
  cases e
  exact ho
 ·exact .inl (World.putObj_heap_other e)
theorem FB.put {b:Nat} {o o':Obj} (h:FB g w b o):FB g (w.putObj b o') b o':=⟨World.putObj_heap_same h.lt,h.rng,h.bet,h.imm⟩
theorem FB.other {b l:Nat} {o o':Obj} (h:FB g w b o) (e:b≠l):FB g (w.putObj l o') b o:=⟨(World.putObj_heap_other e).trans h.at_,h.rng,h.bet,h.imm⟩
theorem Nx.put {l:Nat} {o o1:Obj} (hl:FB g w l o) (ho:Obj.rec o) (n:Nx g g' H H' (w.putObj l o1) w'):Nx g g' H H' w (w'.putObj l o):=by
 have hl':l<w'.heap.size:=lF (by simpa using hl.lt) n.size;have hw:∀ b,b≠l→(w.putObj l o1).heap[b]?=w.heap[b]?:=fun b e=>World.putObj_heap_other e
 have hw':∀ b,b≠l→(w'.putObj l o).heap[b]?=w'.heap[b]?:=fun b e=>World.putObj_heap_other e
 have hs:(w.putObj l o1).heap.size=w.heap.size:=by simp
 refine ⟨n.os,n.tape,n.output,n.drawn,by rw [World.putObj_size,← hs];exact n.size,fun b hb h1 h2=>?_,fun b hb=>n.rng b (by rw [hs];exact hb),fun b hb=>n.immb b (by rw [hs];exact hb),fun b hb=>n.bet b (by rw [hs];exact hb),⟨fun b hb=>?_,n.on.hext,fun b cur T e=>?_,n.on.lam⟩⟩
 ·by_cases e:b=l
  ·subst e;rw [World.putObj_heap_same hl',hl.at_]
  ·rw [hw' b e,n.kept b (by rw [hs];exact hb) h1 h2,hw b e]
 ·have e:b≠l:=fun e=>hl.imm (e ▸ hb)
  obtain ⟨h1,h2⟩:=n.on.keeps b hb;exact ⟨h1,by rw [hw' b e,h2,hw b e]⟩
 ·by_cases e2:b=l
  ·subst e2;rw [hl.at_] at e;cases e;exact ho.elim
  ·rw [hw' b e2];exact n.on.shape b cur T (by rw [hw b e2];exact e)
theorem nw {l r:Nat} {o o':Obj} (h:l≠r):(w.putObj l o).putObj r o'=(w.putObj r o').putObj l o:=by
 simp only [World.putObj];congr 1;apply Array.ext_getElem?;intro i;simp only [Jf,Array.size_setIfInBounds];split
 ·rename_i e;subst e;rw [WN h]
 ·rfl
theorem XP {l:Nat} {o o':Obj}:(w.putObj l o).putObj l o'=w.putObj l o':=by simp only [World.putObj];congr 1;apply Array.ext_getElem?;intro i;simp only [Jf,Array.size_setIfInBounds];split<;>rfl
def Gh.wl (g:Gh) (L:Nat→Option Nat):Gh:={ g with lam:=L }
section
variable {C:Fn→Bool} {I:Nat→Bool} {L:Nat→Option Nat}
mutual
theorem Bd (hL:∀ f,C f=true→g.okF f→(g.wl L).okF f∧(g.wl L).tr f=g.tr f) (hI:∀ id,I id=true→H'[id]?=H[id]?):∀ (x:PV) (v:Value),ybU C I x=true→VR g H w x v→VR (g.wl L) H' w x v
 | .bool b,v,_,h=>by simpa only [VR] using h
 | .int q n,v,_,h=>by simpa only [VR] using h
 | .nilp,v,_,h=>by simpa only [VR] using h
 | .nils,v,_,h=>by simpa only [VR] using h
 | .emp,v,_,h=>by simpa only [VR] using h
 | .mt _,v,_,h=>by simpa only [VR] using h
 | .nilf,v,_,h=>by simpa only [VR] using h
 | .ptr id ext i off,v,hc,h=>by simp only [ybU] at hc;simp only [VR] at h ⊢;obtain ⟨hb,a,e,h⟩:=h;exact ⟨hb,a,(hI id hc).trans e,h⟩
 | .eptr rows i off,v,_,h=>by simp only [VR] at h ⊢;exact h
 | .data rows,v,_,h=>by simp only [VR] at h ⊢;exact h
 | .own id lo len ext cap,v,hc,h=>by simp only [ybU] at hc;simp only [VR] at h ⊢;obtain ⟨hb,a,c,e,h⟩:=h;exact ⟨hb,a,c,(hI id hc).trans e,h⟩
 | .sub id ext i off n _,v,hc,h=>by simp only [ybU] at hc;simp only [VR] at h ⊢;obtain ⟨a0,⟨hb,a,e,h⟩,h2⟩:=h;exact ⟨a0,⟨hb,a,(hI id hc).trans e,h⟩,h2⟩
 | .fn f a b,v,hc,h=>by simp only [ybU,bO] at hc;simp only [VR] at h ⊢;obtain ⟨az,bs,e,h1,h2,h3⟩:=h;obtain ⟨h4,h5⟩:=hL f hc.1 h3;exact ⟨az,bs,by rw [h5];exact e,Be hL hI a az hc.2.1 h1,Be hL hI b bs hc.2.2 h2,h4⟩
 | .agg cs,v,hc,h=>by simp only [ybU] at hc;simp only [VR] at h ⊢;obtain ⟨vs,e,h1⟩:=h;exact ⟨vs,e,NT hL hI cs vs hc h1⟩
 | .tup ps,v,hc,h=>by simp only [ybU] at hc;simp only [VR] at h ⊢;obtain ⟨vs,e,h1⟩:=h;exact ⟨vs,e,Be hL hI ps vs hc h1⟩
theorem Be (hL:∀ f,C f=true→g.okF f→(g.wl L).okF f∧(g.wl L).tr f=g.tr f) (hI:∀ id,I id=true→H'[id]?=H[id]?):∀ (l:List PV) (vs:List Value),ybg C I l=true→bH g H w l vs→bH (g.wl L) H' w l vs
 | [],vs,_,h=>by simpa only [bH] using h
 | x::r,vs,hc,h=>by simp only [ybg,bO] at hc;simp only [bH] at h ⊢;obtain ⟨v,vr,e,h1,h2⟩:=h;exact ⟨v,vr,e,Bd hL hI x v hc.1 h1,Be hL hI r vr hc.2 h2⟩
theorem NT (hL:∀ f,C f=true→g.okF f→(g.wl L).okF f∧(g.wl L).tr f=g.tr f) (hI:∀ id,I id=true→H'[id]?=H[id]?):∀ (l:List PV) (vs:List Value),ybg C I l=true→bM g H w l vs→bM (g.wl L) H' w l vs
 | [],vs,_,h=>by simpa only [bM] using h
 | x::r,vs,hc,h=>by simp only [ybg,bO] at hc;simp only [bM] at h ⊢;obtain ⟨v,vr,e,o,h1,h2⟩:=h;exact ⟨v,vr,e,o,Bd hL hI x v hc.1 h1,NT hL hI r vr hc.2 h2⟩
end
theorem XQ (hL:∀ f,C f=true→g.okF f→(g.wl L).okF f∧(g.wl L).tr f=g.tr f) (hI:∀ id,I id=true→H'[id]?=H[id]?):∀ (x:PV) (vs:List Value),ybU C I x=true→bA g H w x vs→bA (g.wl L) H' w x vs:=by
 intro x vs hc h
 cases x<;>simp only [bA] at h ⊢ <;> first
  | (simp only [ybU] at hc;exact NT hL hI _ _ hc h)
  | (obtain ⟨o,v,e,h1⟩:=h;exact ⟨o,v,e,Bd hL hI _ _ hc h1⟩)
theorem XS (hL:∀ f,C f=true→g.okF f→(g.wl L).okF f∧(g.wl L).tr f=g.tr f) (hI:∀ id,I id=true→H'[id]?=H[id]?) (esz b:Nat):∀ (l:List PV) (o:Nat),ybg C I l=true→eI g H w l esz b o→eI (g.wl L) H' w l esz b o
 | [],_,_,_=>by simp only [eI]
 | x::r,o,hc,h=>by simp only [ybg,bO] at hc;simp only [eI] at h ⊢;obtain ⟨⟨vs,hl,h1,h2⟩,h3⟩:=h;exact ⟨⟨vs,hl,XQ hL hI x vs hc.1 h1,h2⟩,XS hL hI esz b r (o+esz) hc.2 h3⟩
theorem NU (hL:∀ f,C f=true→g.okF f→(g.wl L).okF f∧(g.wl L).tr f=g.tr f) (hI:∀ id,I id=true→H'[id]?=H[id]?) {id:Nat} {hb:HB} {b o:Nat} (hc:ybg C I hb.rows=true) (h:BlkR g H w id hb b o):BlkR (g.wl L) H' w id hb b o:=
 ⟨h.at_,h.esz,h.cells,XS hL hI _ _ _ _ hc h.rows,h.pure,h.fz,h.live⟩
end
mutual
theorem DH:∀ x,ybU (fun _=>true) (fun _=>true) x=true
 | .fn f a b=>by simp only [ybU,zW a,zW b,uX]
 | .agg cs=>by simp only [ybU,zW cs]
 | .tup ps=>by simp only [ybU,zW ps]
 | .bool _ | .int _ _ | .nilp | .ptr .. | .eptr .. | .nils | .emp | .mt _ | .data _ | .own .. | .sub .. | .nilf=>rfl
theorem zW:∀ l,ybg (fun _=>true) (fun _=>true) l=true
 | []=>rfl
 | x::r=>by simp only [ybg,DH x,zW r,uX]
end
theorem Rel.lamUp {L:Nat→Option Nat} (hL:∀ k l,g.lam k=some l→L k=some l) (h:Rel E nt g F H tmps w):Rel E nt (g.wl L) F H tmps w:=by
 have hU:∀ f,(fun _:Fn=>true) f=true→g.okF f→(g.wl L).okF f∧(g.wl L).tr f=g.tr f:=fun f _ hf=>Gh.okF_lam (g':=g.wl L) hL hf
 have hI:∀ id,(fun _:Nat=>true) id=true→H[id]?=H[id]?:=fun _ _=>rfl
 refine ⟨h.size,fun s fv e=>?_,fun id hb e=>?_,h.dist,h.rsome,h.bdist,h.brho,h.bimm,h.imm,h.glob⟩
 ·have:=h.frame s fv e
  cases fv with
  | v p=>simp only [bR] at this ⊢;exact Bd hU hI p _ (DH p) this
  | box row =>simp only [bR] at this ⊢;obtain ⟨b,h1,h2,h3,cur,T,h4,h5⟩:=this;exact ⟨b,h1,h2,h3,cur,T,h4,XQ hU hI row _ (DH row) h5⟩
  | bp s' off=>exact this
 ·obtain ⟨b,o,hk⟩:=h.heap id hb e;exact ⟨b,o,NU hU hI (zW _) hk⟩
theorem NV {C:Fn→Bool} {I:Nat→Bool}:∀ (H:Hp) (id:Nat) (hb:HB),gF C I H=true→H[id]?=some hb→ybg C I hb.rows=true
 | [],_,_,_,e=>by simp at e
 | b::r,id,hb,h,e=>by
  simp only [gF,bO] at h
  cases id with
  | zero=>simp at e;subst e;exact h.1
  | succ id=>simp at e;exact NV r id hb h.2 e
theorem Gs {n0:Nat} {D:List Nat}:∀ (i:Nat) (H:Hp) (id:Nat),(iN n0 D i H)[id]?=(H[id]?).map fun b=>bif Nat.ble n0 (i+id)&&memB D (i+id) then ⟨b.fz,b.pu,b.esz,[]⟩ else b
 | _,[],id=>by simp [iN]
 | i,b::r,0=>by simp [iN]
 | i,b::r,id+1=>by simp only [iN,FW];rw [Gs (i+1) r id,show i+1+id=i+(id+1) by omega]
theorem NW {n0:Nat} {D:List Nat}:∀ (i:Nat) (H:Hp),(iN n0 D i H).length=H.length
 | _,[]=>rfl
 | i,_::r=>by simp only [iN,kI,NW (i+1) r]
theorem XT {K n0:Nat} {H2:Hp} (h:clrY K n0 H=some H2):H2.length=H.length∧∃ I:Nat→Bool,gF (noY K) I H2=true∧(∀ id,id<n0→I id=true)∧(∀ id,I id=true→H2[id]?=H[id]?) ∧
  ∀ (id:Nat) (hb:HB),H2[id]?=some hb→∃ hb0:HB,H[id]?=some hb0∧hb.fz=hb0.fz∧(hb=hb0∨hb=⟨hb0.fz,hb0.pu,hb0.esz,[]⟩):=by
 unfold clrY at h;split at h
 ·cases hn:gF (noY K) (fun _=>true) H with
  | false=>rw [hn] at h;cases h
  | true=>
   rw [hn] at h
   cases h
   exact ⟨rfl,_,hn,fun _ _=>rfl,fun _ _=>rfl,fun id hb e=>⟨hb,e,rfl,.inl rfl⟩⟩
 ·rename_i d D _;dsimp only at h;generalize Nh K n0 H 3 (d::D)=D at h
  cases hn:gF (noY K) (fun id=>!(Nat.ble n0 id&&memB D id)) (iN n0 D 0 H) with
  | false=>rw [hn] at h;cases h
  | true=>
   rw [hn] at h
   cases h
   refine ⟨NW 0 H,_,hn,fun id hid=>?_,fun id hid=>?_,fun id hb e=>?_⟩
   ·have:Nat.ble n0 id=false:=by
     cases hb:Nat.ble n0 id with
     | false=>rfl
     | true=>have:=yT hb;omega
    simp only [this,mJ,jS]
   ·have hid:(Nat.ble n0 id&&memB D id)=false:=by
     cases hx:(Nat.ble n0 id&&memB D id) with
     | false=>rfl
     | true=>rw [hx] at hid;cases hid
    rw [Gs,iK,hid]
    cases H[id]? <;> rfl
   ·rw [Gs,mI] at e;obtain ⟨hb0,e0,rfl⟩:=e;refine ⟨hb0,e0,?_,?_⟩
    ·cases (Nat.ble n0 (0+id)&&memB D (0+id))<;>rfl
    ·cases (Nat.ble n0 (0+id)&&memB D (0+id))
     ·exact .inl rfl
     ·exact .inr rfl
theorem Rel.lamDown {K n0:Nat} {H2:Hp} {L:Nat→Option Nat} (hL:∀ k,k≠K→L k=g.lam k) (hc:clrY K n0 H=some H2) (h:Rel E nt g F H tmps w):Rel E 0 (g.wl L) [] H2 tmps w:=by
 have hU:∀ f,noY K f=true→g.okF f→(g.wl L).okF f∧(g.wl L).tr f=g.tr f:=by
  intro f hc hf
  cases f with
  | yield k=>
   have hk:k≠K:=by intro e;subst e;simp [noY] at hc
   simp only [Gh.okF,Gh.tr,Gh.wl] at hf ⊢;rw [hL k hk];exact ⟨hf,rfl⟩
  | _=>exact ⟨trivial,rfl⟩
 obtain ⟨hlen,I,hn,_,hI,hg⟩:=XT hc;refine ⟨kF _,fun s fv e=>by simp [fget] at e,fun id hb e=>?_,fun id id' hb b o b' o' e hf=>?_,fun id b o e=>by rw [hlen];exact h.rsome id b o e,h.bdist,h.brho,h.bimm,h.imm,h.glob⟩
 ·obtain ⟨hb0,e0,_,hor⟩:=hg id hb e;obtain ⟨b,o,hk⟩:=h.heap id hb0 e0;have hrow:=NV H2 id hb hn e;refine ⟨b,o,?_⟩;rcases hor with rfl | rfl
  ·exact NU hU hI hrow hk
  ·obtain ⟨cur,T,k1,k2⟩:=hk.cells;exact ⟨hk.at_,hk.esz,⟨cur,T,k1,by simp only [Di,Nat.zero_mul];omega⟩,by simp only [eI],fun _=>by simp only [dN],hk.fz,hk.live⟩
 ·obtain ⟨hb0,e0,ez,_⟩:=hg id hb e;exact h.dist id id' hb0 b o b' o' e0 (by rw [← ez];exact hf)
def Gh.cut (g:Gh) (n:Nat):Gh:={ g with ρ:=fun id=>bif Nat.blt id n then g.ρ id else none }
theorem Bf {a b:Nat} (h:Nat.blt a b=true):a<b:=yT h
theorem zX {a b:Nat} (h:a<b):Nat.blt a b=true:=CY h
section
variable {n:Nat} {I:Nat→Bool} {H':Hp}
mutual
theorem JL (hI:∀ id,I id=true→H'[id]?=H[id]?∧id<n):∀ (x:PV) (v:Value),ybU (fun _=>true) I x=true→VR g H w x v→VR (g.cut n) H' w x v
 | .bool b,v,_,h=>by simpa only [VR] using h
 | .int q m,v,_,h=>by simpa only [VR] using h
 | .nilp,v,_,h=>by simpa only [VR] using h
 | .nils,v,_,h=>by simpa only [VR] using h
 | .emp,v,_,h=>by simpa only [VR] using h
 | .mt _,v,_,h=>by simpa only [VR] using h
 | .nilf,v,_,h=>by simpa only [VR] using h
 | .ptr id ext i off,v,hc,h=>by simp only [ybU] at hc;simp only [VR,PtrR,Gh.cut,zX (hI id hc).2,cond_true] at h ⊢;obtain ⟨hb,a,e,h⟩:=h;exact ⟨hb,a,(hI id hc).1.trans e,h⟩
 | .eptr rows i off,v,_,h=>by simp only [VR] at h ⊢;exact h
 | .data rows,v,_,h=>by simp only [VR] at h ⊢;exact h
 | .sub id ext i off n _,v,hc,h=>by simp only [ybU] at hc;simp only [VR,PtrR,Gh.cut,zX (hI id hc).2,cond_true] at h ⊢;obtain ⟨a0,⟨hb,a,e,h⟩,h2⟩:=h;exact ⟨a0,⟨hb,a,(hI id hc).1.trans e,h⟩,h2⟩
 | .own id lo len ext cap,v,hc,h=>by simp only [ybU] at hc;simp only [VR,pM,Gh.cut,zX (hI id hc).2,cond_true] at h ⊢;obtain ⟨hb,a,c,e,h⟩:=h;exact ⟨hb,a,c,(hI id hc).1.trans e,h⟩
 | .fn f a b,v,hc,h=>by
  simp only [ybU,bO] at hc;simp only [VR] at h ⊢;obtain ⟨az,bs,e,h1,h2,h3⟩:=h;refine ⟨az,bs,?_,JM hI a az hc.2.1 h1,JM hI b bs hc.2.2 h2,?_⟩
  ·cases f<;>exact e
  ·cases f<;>exact h3
 | .agg cs,v,hc,h=>by simp only [ybU] at hc;simp only [VR] at h ⊢;obtain ⟨vs,e,h1⟩:=h;exact ⟨vs,e,NX hI cs vs hc h1⟩
 | .tup ps,v,hc,h=>by simp only [ybU] at hc;simp only [VR] at h ⊢;obtain ⟨vs,e,h1⟩:=h;exact ⟨vs,e,JM hI ps vs hc h1⟩
theorem JM (hI:∀ id,I id=true→H'[id]?=H[id]?∧id<n):∀ (l:List PV) (vs:List Value),ybg (fun _=>true) I l=true→bH g H w l vs→bH (g.cut n) H' w l vs
 | [],vs,_,h=>by simpa only [bH] using h
 | x::r,vs,hc,h=>by simp only [ybg,bO] at hc;simp only [bH] at h ⊢;obtain ⟨v,vr,e,h1,h2⟩:=h;exact ⟨v,vr,e,JL hI x v hc.1 h1,JM hI r vr hc.2 h2⟩
theorem NX (hI:∀ id,I id=true→H'[id]?=H[id]?∧id<n):∀ (l:List PV) (vs:List Value),ybg (fun _=>true) I l=true→bM g H w l vs→bM (g.cut n) H' w l vs
 | [],vs,_,h=>by simpa only [bM] using h
 | x::r,vs,hc,h=>by simp only [ybg,bO] at hc;simp only [bM] at h ⊢;obtain ⟨v,vr,e,o,h1,h2⟩:=h;exact ⟨v,vr,e,o,JL hI x v hc.1 h1,NX hI r vr hc.2 h2⟩
end
theorem XU (hI:∀ id,I id=true→H'[id]?=H[id]?∧id<n):∀ (x:PV) (vs:List Value),ybU (fun _=>true) I x=true→bA g H w x vs→bA (g.cut n) H' w x vs:=by
 intro x vs hc h
 cases x<;>simp only [bA] at h ⊢ <;> first
  | (simp only [ybU] at hc;exact NX hI _ _ hc h)
  | (obtain ⟨o,v,e,h1⟩:=h;exact ⟨o,v,e,JL hI _ _ hc h1⟩)
theorem XV (hI:∀ id,I id=true→H'[id]?=H[id]?∧id<n) (esz b:Nat):∀ (l:List PV) (o:Nat),ybg (fun _=>true) I l=true→eI g H w l esz b o→eI (g.cut n) H' w l esz b o
 | [],_,_,_=>by simp only [eI]
 | x::r,o,hc,h=>by simp only [ybg,bO] at hc;simp only [eI] at h ⊢;obtain ⟨⟨vs,hl,h1,h2⟩,h3⟩:=h;exact ⟨⟨vs,hl,XU hI x vs hc.1 h1,h2⟩,XV hI esz b r (o+esz) hc.2 h3⟩
end
mutual
theorem XW {J:Nat→Prop} {C:Fn→Bool} {I:Nat→Bool}:∀ (x:PV) (vs:List Value),RC J w x vs→ybU C I x=true
 | .bool b,vs,h=>rfl
 | .int q n,vs,h=>rfl
 | .data rows,vs,h=>rfl
 | .agg cs,vs,h=>by simp only [RC] at h;simp only [ybU];exact XX cs vs h
 | .nilp,vs,h | .nils,vs,h | .emp,vs,h | .mt _,vs,h | .nilf,vs,h=>by simp [RC] at h
 | .ptr ..,vs,h | .eptr ..,vs,h | .own ..,vs,h | .sub ..,vs,h | .fn ..,vs,h | .tup ..,vs,h=>by simp [RC] at h
theorem XX {J:Nat→Prop} {C:Fn→Bool} {I:Nat→Bool}:∀ (l:List PV) (vs:List Value),ya5 J w l vs→ybg C I l=true
 | [],vs,h=>rfl
 | x::r,vs,h=>by simp only [ya5] at h;obtain ⟨v,vr,e,o,h1,h2⟩:=h;simp only [ybg,XW x [v] h1,XX r vr h2,uX]
end
theorem XY {J:Nat→Prop} {C:Fn→Bool} {I:Nat→Bool}:∀ (l:List PV) (esz b o:Nat),dN J w l esz b o→ybg C I l=true
 | [],_,_,_,_=>rfl
 | x::r,esz,b,o,h=>by simp only [dN] at h;obtain ⟨⟨vs,hl,h1,h2⟩,h3⟩:=h;simp only [ybg,XW x vs h1,XY r esz b (o+esz) h3,uX]
theorem XZ {I:Nat→Bool}:∀ (F:aD) (s:Nat) (fv:FV),jW I F=true→fget F s=some fv→(match fv with | .v p=>ybU (fun _=>true) I p=true | .box p=>ybU (fun _=>true) I p=true | .bp _ _=>True)
 | [],_,_,_,e=>by simp [fget] at e
 | (k,x)::r,s,fv,h,e=>by
  simp only [fget] at e
  by_cases hk:k=s
  ·rw [WM hk] at e
   cases e
   cases x with
   | v p=>simp only [jW,bO] at h;exact h.1
   | box p=>simp only [jW,bO] at h;exact h.1
   | bp a b=>trivial
  ·rw [WN hk] at e;refine XZ r s fv ?_ e
   cases x with
   | v p=>simp only [jW,bO] at h;exact h.2
   | box p=>simp only [jW,bO] at h;exact h.2
   | bp a b=>simpa only [jW] using h
theorem Ya {D:List Nat} {n:Nat}:∀ k,n≤pL D n k
 | 0=>bW _
 | k+1=>by
  simp only [pL]
  cases memB D (n+k) with
  | true=>exact Ya k
  | false=>simp only [cond_false];omega
theorem yEE {I:Nat→Bool}:∀ (H:Hp) (id:Nat) (hb:HB),sV I H=true→H[id]?=some hb→hb.pu=true∨ybg (fun _=>true) I hb.rows=true
 | [],_,_,_,e=>by simp at e
 | b::r,id,hb,h,e=>by
  simp only [sV,bO,nR] at h
  cases id with
  | zero=>simp at e;subst e;exact h.1
  | succ id=>simp at e;exact yEE r id hb h.2 e
theorem Rel.gc {w0:World} {g0:Gh} {H0:Hp} (hn:Nx g0 g H0 H w0 w) (h:Rel E nt g F H tmps w):∃ g',Nx g0 g' H0 (oO F H0.length H) w0 w∧Rel E nt g' F (oO F H0.length H) tmps w∧(∀ b,RngR g' b→RngR g b)∧g'.β=g.β∧g'.I=g.I:=by
 unfold oO;have hlen:∀ id hb,H0[id]?=some hb→id<H0.length:=fun id hb e=>(nA.1 e).1
 generalize H0.length=n0 at hlen ⊢;dsimp only;generalize Nl F H 4 (Nm n0 (H.length-n0))=D;have hge:n0≤pL D n0 (H.length-n0):=Ya _;generalize pL D n0 (H.length-n0)=n at hge ⊢
 cases hc:(jW (fun id=>Nat.blt id n&&!(Nat.ble n0 id&&memB D id)) F&&sV (fun id=>Nat.blt id n&&!(Nat.ble n0 id&&memB D id)) ((iN n0 D 0 H).take n)) with
 | false=>exact ⟨g,hn,h,fun _ h=>h,rfl,rfl⟩
 | true=>
  simp only [bO] at hc;rw [cond_true];have hI:∀ id,(Nat.blt id n&&!(Nat.ble n0 id&&memB D id))=true→((iN n0 D 0 H).take n)[id]?=H[id]?∧id<n:=fun id hid=>by
   simp only [bO,jR] at hid;refine ⟨?_,Bf hid.1⟩;rw [qU,WM (Bf hid.1),Gs,iK,hid.2]
   cases H[id]? <;> rfl
  have hρ:∀ id b o,(g.cut n).ρ id=some (b,o)→id<n∧g.ρ id=some (b,o):=by
   intro id b o e;simp only [Gh.cut] at e
   cases hb:Nat.blt id n with
   | true=>rw [hb,cond_true] at e;exact ⟨Bf hb,e⟩
   | false=>rw [hb,cond_false] at e;cases e
  have hρ2:∀ id,id<n→(g.cut n).ρ id=g.ρ id:=fun id hid=>by simp only [Gh.cut,zX hid,cond_true]
  have hget:∀ id hb,((iN n0 D 0 H).take n)[id]?=some hb→id<n∧∃ hb0:HB,H[id]?=some hb0∧hb.fz=hb0.fz∧(hb=hb0∨hb=⟨hb0.fz,hb0.pu,hb0.esz,[]⟩):=by
   intro id hb e;rw [qU] at e
   by_cases hid:id<n
   ·rw [WM hid,Gs,mI] at e;obtain ⟨hb0,e0,rfl⟩:=e;refine ⟨hid,hb0,e0,?_,?_⟩
    ·cases (Nat.ble n0 (0+id)&&memB D (0+id))<;>rfl
    ·cases (Nat.ble n0 (0+id)&&memB D (0+id))
     ·exact .inl rfl
     ·exact .inr rfl
   ·rw [WN hid] at e;cases e
  have hR:∀ b,RngR (g.cut n) b→RngR g b:=fun b ⟨id,o,e⟩=>⟨id,o,(hρ id b o e).2⟩
  refine ⟨g.cut n,⟨hn.os,hn.tape,hn.output,hn.drawn,hn.size,hn.kept,fun b hb h2=>hn.rng b hb (hR b h2),hn.immb,hn.bet,⟨hn.on.keeps,fun id hb e=>?_,hn.on.shape,hn.on.lam⟩⟩,⟨h.size,fun s fv e=>?_,fun id hb e=>?_,fun id id' hb b o b' o' e hf hne e1 e2=>?_,fun id b o e=>?_,h.bdist,fun s b id o e1 e2=>h.brho s b id o e1 (hρ id b o e2).2,h.bimm,h.imm,h.glob⟩,hR,rfl,rfl⟩
  ·obtain ⟨hb',e',k1,k2,k3⟩:=hn.on.hext id hb e;have hid:=hlen id hb e;have hlow:(Nat.blt id n&&!(Nat.ble n0 id&&memB D id))=true:=by
    have:Nat.ble n0 id=false:=by
     cases hb:Nat.ble n0 id with
     | false=>rfl
     | true=>have:=yT hb;omega
    rw [this,zX (show id<n by omega)];rfl
   exact ⟨hb',by rw [(hI id hlow).1];exact e',k1,k2,k3.imp_right fun ⟨l,r⟩=>⟨l,(hρ2 id (by omega)).trans r⟩⟩
  ·have h1:=h.frame s fv e;have h2:=XZ F s fv hc.1 e
   cases fv with
   | v p=>simp only [bR] at h1 ⊢;exact JL hI p _ h2 h1
   | box row =>simp only [bR] at h1 ⊢;obtain ⟨b,k1,k2,k3,cur,T,k4,k5⟩:=h1;exact ⟨b,k1,k2,k3,cur,T,k4,XU hI row _ h2 k5⟩
   | bp s' off=>exact h1
  ·obtain ⟨hid,hb0,e1,_,hor⟩:=hget id hb e;obtain ⟨b,o,hk⟩:=h.heap id hb0 e1;refine ⟨b,o,?_⟩;rcases hor with rfl | rfl
   ·have hrow:ybg (fun _=>true) (fun id=>Nat.blt id n&&!(Nat.ble n0 id&&memB D id)) hb.rows=true:=by
     rcases yEE _ id hb hc.2 e with hp|hp
     ·exact XY _ _ _ _ (hk.pure hp)
     ·exact hp
    exact ⟨(hρ2 id hid).trans hk.at_,hk.esz,hk.cells,XV hI _ _ _ _ hrow hk.rows,hk.pure,hk.fz,hk.live⟩
   ·obtain ⟨cur,T,k1,k2⟩:=hk.cells;exact ⟨(hρ2 id hid).trans hk.at_,hk.esz,⟨cur,T,k1,by simp only [Di,Nat.zero_mul];omega⟩,by simp only [eI],fun _=>by simp only [dN],hk.fz,hk.live⟩
  ·obtain ⟨_,hb0,e0,ez,_⟩:=hget id hb e;exact h.dist id id' hb0 b o b' o' e0 (by rw [← ez];exact hf) hne (hρ id b o e1).2 (hρ id' b' o' e2).2
  ·have h1:=hρ id b o e;have:=h.rsome id b o h1.2;rw [kW,NW];omega
theorem ny {K:Nat} {g2:Gh} {H1 H2:Hp} (hc:clrY K H.length H1=some H2) (h:eY g g2 H H1):eY g g2 H H2:=by obtain ⟨_,I,_,h0,hI,_⟩:=XT hc;intro id hb e;obtain ⟨hb',e',h1⟩:=h id hb e;exact ⟨hb',(hI id (h0 id (nA.1 e).1)).trans e',h1⟩
end
section
variable {P:Program} {E:Env} {nt:Nat} {g g':Gh} {F F':aD} {H H':Hp} {a:Act} {tmps:Array Value} {w w':World} {o:Oper}
def JN (all:Array Oper) (o:Oper) (gd:Option (Nat×Bool)):Prop:=
 (o.guard=none∧gd=none)∨∃ j want s,o.guard=some (j,want)∧(all[j]?).bind (·.dst)=some s∧gd=some (s,want)
theorem sZ {loc:List Nat} {all:Array Oper}:∀ (l:List Oper) (r:List AO),yfD P loc all l=some r →
  r.length=l.length∧∀ (i:Nat) (o:Oper),l[i]?=some o→∃ gd,r[i]?=some ⟨o.dst,jN P loc o,gd⟩∧JN all o gd
 | [],r,h=>by simp [yfD] at h;subst h;exact ⟨rfl,fun i o e=>by simp at e⟩
 | x::l,r,h=>by
  simp only [yfD] at h;split at h
  ·rename_i l' hl;obtain ⟨h1,h2⟩:=sZ l l' hl;split at h
   ·rename_i hg
    cases h
    refine ⟨by simp [h1],fun i o e=>?_⟩
    cases i with
    | zero=>simp at e;subst e;exact ⟨none,rfl,.inl ⟨hg,rfl⟩⟩
    | succ i=>simp at e;simpa using h2 i o e
   ·rename_i j want hg;split at h
    ·rename_i s hs
     cases h
     refine ⟨by simp [h1],fun i o e=>?_⟩
     cases i with
     | zero=>simp at e;subst e;exact ⟨some (s,want),rfl,.inr ⟨j,want,s,hg,hs,rfl⟩⟩
     | succ i=>simp at e;simpa using h2 i o e
    ·cases h
  ·cases h
theorem Yb (hr:Rel E nt g F H a.tmps w) {all:Array Oper} {gd:Option (Nat×Bool)} {b:Bool} (hg:JN all o gd) (h:ycK F gd=some b):Region.wanted o (yielded all a.tmps)=b:=by
 rcases hg with ⟨h1,rfl⟩|⟨j,want,s,h1,h2,rfl⟩
 ·simp only [ycK,bT] at h;simp [Region.wanted,h1,← h]
 ·simp only [ycK] at h;split at h
  ·rename_i b0 hb0;have hv:=hr.frame s _ hb0;simp only [bR,VR] at hv;have:a.tmps[s]?=some (.bool b0):=by
    rw [sJ] at hv
    cases e:a.tmps[s]? with
    | none=>rw [e] at hv;simp [undef] at hv
    | some x=>rw [e] at hv;simpa using hv
   have hy:yielded all a.tmps j=some b0:=by unfold yielded;rw [h2];simp [this]
   simp only [bT] at h;simp only [Region.wanted,h1,hy,← h]
   cases b0<;>cases want<;>rfl
  ·rename_i hb0;have hv:=hr.frame s _ hb0;simp only [bR,VR,bH] at hv;obtain ⟨vs,hv,rfl⟩:=hv;have hy:yielded all a.tmps j=none:=by
    unfold yielded;rw [h2];simp only [Option.bind_some];rw [sJ] at hv
    cases e:a.tmps[s]? with
    | none=>rfl
    | some x=>rw [e] at hv;simp at hv;subst hv;rfl
   simp only [bT] at h;simp only [Region.wanted,h1,hy,← h];rfl
  ·cases h
theorem JO (a:Act) (dst:Option Tmp) (v:Value):(a.put dst v).defers=a.defers:=by cases dst<;>rfl
theorem DJ:∀ (l:List Oper),rD nt l=true→∀ (i:Nat) (o:Oper),l[i]?=some o→∀ d,o.dst=some d→d<nt
 | [],_,i,o,e=>by simp at e
 | x::l,h,i,o,e=>by
  simp only [rD,bO] at h
  cases i with
  | zero =>simp at e;subst e;intro d hd;have:=h.1;rw [hd] at this;simpa using this
  | succ i=>simp at e;exact DJ l h.2 i o e
def JP (E:Env) (d:Deferred):Prop:=∃ n args,d={ target:=.fn (.func n) #[],args:=args }∧E.dn n=true
def GoD (E:Env) (a a':Act):Prop:=∃ ds,a'.defers=ds++a.defers∧∀ d∈ds,JP E d
theorem GoD.same {a a':Act} (h:a'.defers=a.defers):GoD E a a':=⟨[],h,fun d hd=>by cases hd⟩
theorem GoD.trans {a1 a2 a3:Act} (h:GoD E a1 a2) (k:GoD E a2 a3):GoD E a1 a3:=by obtain ⟨d1,e1,h1⟩:=h;obtain ⟨d2,e2,h2⟩:=k;exact ⟨d2++d1,by rw [e2,e1,lX],fun d hd=>(qAv.1 hd).elim (h2 d) (h1 d)⟩
theorem Yc:∀ (l:List Oper) (i:Nat) (o:Oper) (c:Call),l[i]?=some o→o.op=.defer c→gQ l=true
 | [],i,o,c,e,_=>by simp at e
 | x::l,i,o,c,e,h=>by
  simp only [gQ,nR]
  cases i with
  | zero=>simp at e;subst e;exact .inl (by rw [h])
  | succ i=>simp at e;exact .inr (Yc l i o c e h)
theorem nz {loc:List Nat} (h:JI (jN P loc o)=true):∃ c n,o.op=.defer c∧c.callee=.value (.func n)∧jN P loc o=.dfr n∧o.dst=none:=by
 unfold jN at h
 cases ho:o.op<;>rw [ho] at h<;>simp only [] at h
 case defer c=>
  cases hds:o.dst with
  | some d=>rw [hds] at h;cases h
  | none=>
  rw [hds] at h
  cases hc:c.callee with
  | value f=>
   rw [hc] at h
   cases f with
   | func n=>exact ⟨c,n,rfl,hc,by unfold jN;rw [ho];simp only [hc,hds],rfl⟩
   | _=>cases h
  | _=>rw [hc] at h;cases h
 all_goals (try unfold Dw at h)
 all_goals (try unfold Dx at h)
 all_goals (repeat' split at h)
 all_goals first | cases h | skip
theorem oe {ro:Option Nat} (hE:EO P E) {call} (hc:yba P E call) {ops:Array Oper} {loc:List Nat} {i:Nat} {rest:List Nat} {gd:Option (Nat×Bool)} {Q:Exit→Act→World→Prop}
  (hr:Rel E nt g F H a.tmps w) (hL:Lps P E g H w) (ho:ops[i]?=some o) (hg:JN ops o gd) (hd:∀ d,o.dst=some d→d<nt) (h:yez E call F H ⟨o.dst,jN P loc o,gd⟩=some (F',H'))
  (hro:gQ ops.toList=true→ro=none) (hn0:∀ a' w' g',GoD E a a'→Nx g g' H H' w w'→Rel E nt g' F' H' a'.tmps w'→wpOpsIn (Fc ro) 0 P ops Q rest a' w'):wpOpsIn (Fc ro) 0 P ops Q (i::rest) a w:=by
 have hn:∀ v w' g',Nx g g' H H' w w'→Rel E nt g' F' H' (a.put o.dst v).tmps w'→wpOpsIn (Fc ro) 0 P ops Q rest (a.put o.dst v) w':=fun v w' g' n r=>hn0 _ w' g' (GoD.same (JO _ _ _)) n r
 simp only [wpOpsIn,ho];unfold yez at h;split at h
 ·cases h
 ·rename_i hgd;rw [WN (by rw [Yb hr hg hgd];simp)];refine ⟨fun _ _=>trivial,?_⟩
  cases hdst:o.dst with
  | none =>rw [hdst] at h;simp only [bT,Prod.mk.injEq] at h;obtain ⟨rfl,rfl⟩:=h;have:=hn undef w g (Nx.refl g H w);rw [hdst] at this;exact this hr
  | some d =>rw [hdst] at h;simp only [bT,Prod.mk.injEq] at h;obtain ⟨rfl,rfl⟩:=h;have:=hn undef w g (Nx.refl g H w);rw [hdst] at this;refine this ?_;rw [Xu];exact hr.putV (hd d hdst) (by simp [VR,bH,undef])
 ·rename_i hgd;rw [WM (Yb hr hg hgd)];split at h
  ·cases h
  ·rename_i out x bx H1 hout;simp only [mI] at h;obtain ⟨F1,hp,e⟩:=h
   cases e
   by_cases hcall:pQ (jN P loc o)=true
   ·obtain ⟨c,f,f',az',h1,h2,h3,h4,h5⟩:=NS hcall;simp only [h5] at hout;exact nv hE hc hr hL h1 h2 h3 h4 hout hd hp hn
   ·by_cases hdf:JI (jN P loc o)=true
    ·obtain ⟨c,n,h1,h2,h3,hds⟩:=nz hdf;obtain rfl:=hro (Yc ops.toList i o c (by simpa using ho) h1);rw [h3] at hout;simp only [yas] at hout;split at hout
     ·rename_i hdn;simp only [outV,bT,Out.mk.injEq] at hout;obtain ⟨rfl,rfl,rfl⟩:=hout;refine ⟨fun _ _=>trivial,?_⟩;have hrun:(o.semAt none a.eval).run P w=.ok (.defer { target:=.fn (.func n) #[],args:=c.args.map a.eval }) w:=by
       have e1:a.eval (.func n)=.func (.func n) #[] #[]:=rfl;simp [Oper.semAt,execOp,h1,resolve,h2,e1,Deferred.ofValue]
      show Oper.uponIn _ _ _ _ _ _ _ ((o.semAt none a.eval).run P w);rw [hrun];simp only [Oper.uponIn];refine hn0 _ w g ⟨[{ target:=.fn (.func n) #[],args:=c.args.map a.eval }],?_,fun d hd=>?_⟩ (Nx.refl g H w) ?_
      ·rw [JO];rfl
      ·rw [wM.1 hd];exact ⟨n,_,rfl,hdn⟩
      ·rw [hds] at hp ⊢;simp only [jA,ydT] at hp
       cases hp
       exact hr
     ·cases hout
    ·have hnd:∀ c,o.op≠.defer c:=by
      intro c e;unfold jN at hout hdf;rw [e] at hout hdf;simp only [] at hout hdf
      cases hds:o.dst with
      | some d=>rw [hds] at hout;simp [yas] at hout
      | none=>
      rw [hds] at hout hdf
      cases hcal:c.callee with
      | value f=>
       rw [hcal] at hout hdf
       cases f with
       | func n=>exact hdf rfl
       | _=>simp [yas] at hout
      | _=>rw [hcal] at hout;simp [yas] at hout
     exact rJ.wp hnd (nh hr (by simpa using hcall) (by simpa using hdf) hout hd hp) hn
theorem DL {ro:Option Nat} (hE:EO P E) {call} (hc:yba P E call) {ops:Array Oper} {loc:List Nat} {l:List AO} {Q:Exit→Act→World→Prop} {F':aD} {H':Hp} (hl:yfD P loc ops ops.toList=some l) (hd:rD nt ops.toList=true) (hro:gQ ops.toList=true→ro=none) {ρ:List Nat} :
  ∀ (σ:List Nat) (g:Gh) (F:aD) (H:Hp) (a:Act) (w:World),(∀ i∈σ,i<ops.size)→Rel E nt g F H a.tmps w→Lps P E g H w→ybo E call (σ.filterMap (l[·]?)) F H=some (F',H') →
   (∀ a' w' g',GoD E a a'→Nx g g' H H' w w'→Rel E nt g' F' H' a'.tmps w'→wpOpsIn (Fc ro) 0 P ops Q ρ a' w')→wpOpsIn (Fc ro) 0 P ops Q (σ++ρ) a w
 | [],g,F,H,a,w,_,hr,_,h,hq=>by simp only [List.filterMap_nil,ybo,bT,Prod.mk.injEq] at h;obtain ⟨rfl,rfl⟩:=h;exact hq a w g (GoD.same rfl) (Nx.refl g H w) hr
 | i::σ,g,F,H,a,w,hσ,hr,hL,h,hq=>by
  obtain ⟨hlen,hget⟩:=sZ _ _ hl;have hi:i<ops.size:=hσ i (by simp);have hoi:ops[i]?=some ops[i]:=by simp [hi]
  have hoi':ops.toList[i]?=some ops[i]:=by simp [hi]
  obtain ⟨gd,hli,hgd⟩:=hget i _ hoi';rw [uR,hli] at h;simp only [ybo] at h;split at h
  ·rename_i F1 H1 hs;refine oe hE hc hr hL hoi hgd (DJ _ hd i _ hoi') hs hro fun a1 w1 g1 d1 n1 r1=>?_
   exact DL hE hc hl hd hro σ g1 F1 H1 a1 w1 (fun j hj=>hσ j (by simp [hj])) r1 (hL.nx n1) h fun a' w' g' hdf n2 r2=>hq a' w' g' (d1.trans hdf) (n1.trans n2) r2
  ·cases h
theorem Bg {α:Type} (l:List α):(List.range l.length).filterMap (l[·]?)=l:=by
 induction l with
 | nil=>rfl
 | cons x l ih =>rw [kI,List.range_succ_eq_map,uR];simp only [yS];rw [List.filterMap_map];congr 1
def nY:Ex→Exit→Prop
 | .norm,.normal=>True
 | .exit i,.exit j=>i=j
 | .ret,.ret=>True
 | _,_=>False
abbrev mk (r:Nat):Deferred:={ target:=.collected r,args:=#[] }
def NY (x:Option Nat×Deferred):Deferred:=match x.1 with | some r=>mk r | none=>x.2
def bU (E:Env) (base:Nat) (g:Gh) (w:World) (ds:List Deferred):Prop:=
 ∃ l:List (Option Nat×Deferred),ds=l.map NY∧(l.filterMap (·.1)).Nodup∧(∀ r∈l.filterMap (·.1),base≤r∧FB g w r (.deferred (some [])))∧∀ x∈l,x.1=none→JP E x.2
theorem bU.nx {base:Nat} {ds:List Deferred} (h:bU E base g w ds) (n:Nx g g' H H' w w'):bU E base g' w' ds:=by obtain ⟨l,h1,h2,h3,h4⟩:=h;exact ⟨l,h1,h2,fun r hr=>⟨(h3 r hr).1,(h3 r hr).2.nx n⟩,h4⟩
theorem bU.nil {base:Nat}:bU E base g w []:=⟨[],rfl,List.nodup_nil,fun r h=>(by cases h),fun x h=>by cases h⟩
theorem bU.go {base:Nat} {a a':Act} (h:bU E base g w a.defers) (k:GoD E a a'):bU E base g w a'.defers:=by
 obtain ⟨l,h1,h2,h3,h4⟩:=h;obtain ⟨ds,e,k1⟩:=k;have hn:((ds.map fun d=>((none:Option Nat),d))++l).filterMap (·.1)=l.filterMap (·.1):=by
  rw [List.filterMap_append];have:(ds.map fun d=>((none:Option Nat),d)).filterMap (·.1)=[]:=by
   rw [List.filterMap_eq_nil_iff];intro x hx;obtain ⟨d,_,rfl⟩:=List.mem_map.1 hx;rfl
  rw [this,pH]
 refine ⟨ds.map (fun d=>(none,d))++l,?_,by rw [hn];exact h2,fun r hr=>h3 r (by rw [hn] at hr;exact hr),fun x hx hn=>?_⟩
 ·rw [e,h1,List.map_append,List.map_map];congr 1;exact (List.map_id ds).symm
 ·rcases qAv.1 hx with hx | hx
  ·obtain ⟨d,hd,rfl⟩:=List.mem_map.1 hx;exact k1 d hd
  ·exact h4 x hx hn
def JQ (r:Loop) (i:Nat):Obj:=.loop { r with state:=.done,pending:=some (.exit i) }
def yeN (E:Env) (nt base:Nat) (g:Gh) (H:Hp) (w:World) (ex:Ex) (F':aD) (H':Hp):Exit→Act→World→Prop:=
 fun e a' w'=>match ex with
  | .brk k i=>e=.ret∧∃ g' w1 l r,g.lam k=some l∧Nx g g' H H' w w1∧Rel E nt g' F' H' a'.tmps w1∧FB g' w1 l (.loop r)∧bU E base g' w1 a'.defers∧w'=w1.putObj l (JQ r i)
  | ex=>nY ex e∧∃ g',Nx g g' H H' w w'∧Rel E nt g' F' H' a'.tmps w'∧bU E base g' w' a'.defers
def Gt (P:Program) (E:Env) (call:Nat→List PV→Hp→Option (PV×Hp)):Prop:=
 ∀ (ro:Option Nat) (nt base:Nat) (g:Gh) (F:aD) (H:Hp) (a:Act) (w:World) (loc:List Nat) (ops:Array Oper) (l:List AO) (F':aD) (H':Hp) (id:Nat),
  (gQ ops.toList=true→ro=none)→yfD P loc ops ops.toList=some l→rD nt ops.toList=true→Dy ops.toList=true →
  yiz E call l (sY (iO ops.toList [])) F H=some (F',H')→Rel E nt g F H a.tmps w→Lps P E g H w→bU E base g w a.defers →
  (Code.region id ops true).wpIn (Fc ro) 0 P (yeN E nt base g H w .norm F' H') a w
theorem Gu {ro:Option Nat} (hE:EO P E) {call} (hc:yba P E call) {ops:Array Oper} {loc:List Nat} {l:List AO} {Q:Exit→Act→World→Prop} {F':aD} {H':Hp} (hl:yfD P loc ops ops.toList=some l) (hd:rD nt ops.toList=true) (hro:gQ ops.toList=true→ro=none)
  (σ:List Nat) (g:Gh) (F:aD) (H:Hp) (a:Act) (w:World) (h1:∀ i∈σ,i<ops.size) (hr:Rel E nt g F H a.tmps w) (hL:Lps P E g H w) (h:ybo E call (σ.filterMap (l[·]?)) F H=some (F',H'))
  (hq:∀ a' w' g',GoD E a a'→Nx g g' H H' w w'→Rel E nt g' F' H' a'.tmps w'→Q .normal a' w'):wpOpsIn (Fc ro) 0 P ops Q σ a w:=by
 have:=DL (ro:=ro) (Q:=Q) (ρ:=[]) hE hc hl hd hro σ g F H a w h1 hr hL h fun a' w' g' e1 e2 e3=>by simpa only [wpOpsIn] using hq a' w' g' e1 e2 e3
 simpa using this
theorem og {ro:Option Nat} {base:Nat} (hE:EO P E) {call} (hc:yba P E call) {ops:Array Oper} {loc:List Nat} {l:List AO} {id:Nat} (hl:yfD P loc ops ops.toList=some l) (hd:rD nt ops.toList=true)
  (hro:gQ ops.toList=true→ro=none) (h:ybo E call l F H=some (F',H')) (hr:Rel E nt g F H a.tmps w) (hL:Lps P E g H w) (hdf:bU E base g w a.defers):(Code.region id ops false).wpIn (Fc ro) 0 P (yeN E nt base g H w .norm F' H') a w:=by
 refine wpIn_region (Gu (F':=F') (H':=H') hE hc hl hd hro _ g F H a w (fun i hi=>by simpa using hi) hr hL ?_ ?_)
 ·have hlen:=(sZ _ _ hl).1;have:ops.size=l.length:=by simpa using hlen.symm
  rw [this,Bg];exact h
 ·intro a' w' g' h1 h2 h3;exact ⟨trivial,g',h2,h3,(hdf.nx h2).go h1⟩
theorem yeN.fdels {base:Nat} {g:Gh} {ex:Ex} {e:Exit} {fs:List Nat} {a':Act} (h:yeN E nt base g H w ex F' H' e a' w'):yeN E nt base g H w ex (fdels F' fs) H' e a' w':=by
 cases ex with
 | brk k i =>obtain ⟨h1,g',w1,l,r,h2,h3,h4,h5,h6,h7⟩:=h;exact ⟨h1,g',w1,l,r,h2,h3,h4.less fun s x hs=>Ge fs F' s x hs,h5,h6,h7⟩
 | _ =>obtain ⟨h1,g',h3,h4,h5⟩:=h;exact ⟨h1,g',h3,h4.less fun s x hs=>Ge fs F' s x hs,h5⟩
theorem yeN.trans {base:Nat} {g g1:Gh} {H1:Hp} {w1:World} {ex:Ex} {e:Exit} {a':Act} (hn:Nx g g1 H H1 w w1) (h:yeN E nt base g1 H1 w1 ex F' H' e a' w'):yeN E nt base g H w ex F' H' e a' w':=by
 cases ex with
 | brk k i =>obtain ⟨h1,g',w2,l,r,h2,h3,h4,h5,h6,h7⟩:=h;exact ⟨h1,g',w2,l,r,by rw [← hn.on.lam];exact h2,hn.trans h3,h4,h5,h6,h7⟩
 | _ =>obtain ⟨h1,g',h3,h4,h5⟩:=h;exact ⟨h1,g',hn.trans h3,h4,h5⟩
def yvY (P:Program) (E:Env) (n:Nat):Prop:=
 ∀ (ro:Option Nat) (inR:Bool) (loc:List Nat) (fg:Nat→List Nat) (nt base:Nat) (c:Code) (g:Gh) (F:aD) (H:Hp) (a:Act) (w:World) (ex:Ex) (F':aD) (H':Hp),(inR=false→ro=none) →
  exec E n (yaG P loc fg nt inR c) F H=some (ex,F',H')→Rel E nt g F H a.tmps w→Lps P E g H w→base≤w.heap.size→bU E base g w a.defers→c.wpIn (Fc ro) 0 P (yeN E nt base g H w ex F' H') a w
def Yd (P:Program) (E:Env) (n:Nat):Prop:=
 ∀ (ro:Option Nat) (inR:Bool) (loc:List Nat) (fg:Nat→List Nat) (nt base:Nat) (c:Code) (g:Gh) (F:aD) (H:Hp) (a:Act) (w:World) (ex:Ex) (F':aD) (H':Hp),(inR=false→ro=none) →
  exec E n (.loop (yaG P loc fg nt inR c)) F H=some (ex,F',H')→Rel E nt g F H a.tmps w→Lps P E g H w→base≤w.heap.size→bU E base g w a.defers →
  ∀ (b:Frame) (k:List Item) (cs:List Frame),b.roundOf=ro→∃ e a' w',yeN E nt base g H w ex F' H' e a' w'∧ArrivesIn (Machine.fenced P (Fc ro)) P (lone (b.atR a (.code c::.inLoop c::k)) cs w) b k cs e a' w'
def Ye (P:Program) (E:Env) (n:Nat):Prop:=
 ∀ (ro:Option Nat) (inR:Bool) (loc:List Nat) (fg:Nat→List Nat) (nt base:Nat) (c:Code) (g:Gh) (F:aD) (H:Hp) (a:Act) (w:World) (ex:Ex) (F':aD) (H':Hp),(inR=false→ro=none) →
  exec E n (.lG (yaG P loc fg nt inR c)) F H=some (ex,F',H')→Rel E nt g F H a.tmps w→Lps P E g H w→base≤w.heap.size→bU E base g w a.defers →
  ∀ (b:Frame) (k:List Item) (cs:List Frame),b.roundOf=ro→∃ e a' w',yeN E nt base g H w ex F' H' e a' w'∧ArrivesIn (Machine.fenced P (Fc ro)) P (lone (b.atR a (.code c::.inLoop c::k)) cs w) b k cs e a' w'
theorem bU.cut {base:Nat} {ds:List Deferred} (h:bU E base g w ds) (hr:∀ b,RngR g' b→RngR g b) (hb:g'.β=g.β) (hi:g'.I=g.I):bU E base g' w ds:=by obtain ⟨l,h1,h2,h3,h4⟩:=h;refine ⟨l,h1,h2,fun r hr'=>⟨(h3 r hr').1,?_⟩,h4⟩;obtain ⟨k1,k2,k3,k4⟩:=(h3 r hr').2;exact ⟨k1,fun hh=>k2 (hr _ hh),fun ⟨s,e⟩=>k3 ⟨s,by rw [← hb];exact e⟩,fun hh=>k4 (by rw [← hi];exact hh)⟩
def noGo (Q:Exit→Act→World→Prop):Exit→Act→World→Prop
 | .goto _,_,_=>False
 | e,a,w=>Q e a w
theorem Yf {ro:Option Nat} {c:Code} {Q:Exit→Act→World→Prop} (h:c.wpIn (Fc ro) 0 P (noGo Q) a w):(Code.scope c).wpIn (Fc ro) 0 P Q a w:=by
 intro b k cs hro hb hr;have h0:(lone (b.atR a (.code (.scope c)::k)) cs w).fenced P (Fc ro):=fenced_calm hb hr rfl;have s0:step P (lone (b.atR a (.code (.scope c)::k)) cs w)=.next (lone (b.atR a (.code c::.inScope c::k)) cs w):=step_lone_go (by simp [stepG,stepG.exec,Frame.atR]);have s1:∀ a w,step P (lone (b.atR a (.inScope c::k)) cs w)=.next (lone (b.atR a k) cs w):=fun a w=>step_lone_go (by simp [stepG,stepG.exec,Frame.atR])
 obtain ⟨e,a1,w1,hq,harr⟩:=h b (.inScope c::k) cs hro hb hr
 cases e with
 | normal=>exact ⟨.normal,a1,w1,hq,.head h0 s0 (StepsIn.trans harr (.one (fenced_calm hb hr rfl) (s1 _ _)))⟩
 | exit id=>
  have hx:exitTo id (.inScope c::k)=exitTo id k:=by simp [exitTo]
  exact ⟨.exit id,a1,w1,hq,fun k' hk=>.head h0 s0 (harr.1 k' (by rw [hx];exact hk)),fun hr' hk=>let ⟨k1,h1,h2⟩:=harr.2 hr' (by rw [hx];exact hk);⟨k1,h1,.head h0 s0 h2⟩⟩
 | goto l=>exact hq.elim
 | ret=>exact ⟨.ret,a1,w1,hq,ArrivesIn.of_steps (e:=.ret) (k:=k) (.one h0 s0) harr⟩
 | panic ch=>exact ⟨.panic ch,a1,w1,hq,ArrivesIn.of_steps (e:=.panic ch) (k:=k) (.one h0 s0) harr⟩
 | outgrown=>exact ⟨.outgrown,a1,w1,hq,ArrivesIn.of_steps (e:=.outgrown) (k:=k) (.one h0 s0) harr⟩
theorem CallsDIn.mono' {F:Fence} {n:Nat} {f:FuncId} {args:Array Value} {u:FrameMode} {R R':Ending→FrameMode→World→Prop} (h:CallsDIn F n P f args u w R) (hr:∀ e u w,R e u w→R' e u w):CallsDIn F n P f args u w R':=
 ⟨h.1,fun c cs hu hroom=>let ⟨e,u',w',fr,r,s⟩:=h.2 c cs hu hroom;⟨e,u',w',fr,hr _ _ _ r,s⟩⟩
theorem Gv (hE:EO P E) {nt:Nat} {g0 g2:Gh} {F2:aD} {H2:Hp} {tmps:Array Value} {fn:Func} {R:Ending→World→Prop} (ψ:World→World) (good:World→Prop)
  (hψ:∀ w1 r,FB g2 w1 r (.deferred (some []))→good w1→(ψ w1).heap[r]?=some (.deferred (some []))∧(ψ w1).putObj r (.deferred none)=ψ (w1.putObj r (.deferred none))∧good (w1.putObj r (.deferred none)))
  (hend:∀ w1,Rel E nt g2 F2 H2 tmps w1→Nx g0 g2 H H2 w w1→good w1→∃ v,(results fn tmps).run P (ψ w1)=.ok v (ψ w1)∧R (.returned v) (ψ w1)) :
  ∀ (l:List (Option Nat×Deferred)) (w1:World),(l.filterMap (·.1)).Nodup→(∀ r∈l.filterMap (·.1),w.heap.size≤r∧FB g2 w1 r (.deferred (some [])))→(∀ x∈l,x.1=none→JP E x.2)→Rel E nt g2 F2 H2 tmps w1→Nx g0 g2 H H2 w w1→good w1 →
   LeavesInM (Fc none) 0 P fn tmps R (l.map NY) .returning (ψ w1)
 | [],w1,_,_,_,hr,hn,hg=>by simp only [List.map_nil,LeavesInM,LeavesIn];exact hend w1 hr hn hg
 | (some r,d)::l,w1,hd,hf,hx,hr,hn,hg=>by rw [uR] at hd hf;dsimp only at hd hf;obtain ⟨hb,hF⟩:=hf r (by simp);obtain ⟨e1,e2,e3⟩:=hψ w1 r hF hg;simp only [sO,LeavesInM];refine ⟨by simp,.inl ⟨r,_,rfl,run_takeDeferred e1,?_⟩⟩;rw [e2];have hA:=hF.agr (o':=.deferred none) (by simp [Obj.rec]);rw [zA] at hd;exact Gv hE ψ good hψ hend l _ hd.2 (fun r' hr'=>⟨(hf r' (gO _ hr')).1,(hf r' (gO _ hr')).2.other (fun e=>hd.1 (e ▸ hr'))⟩) (fun x hx'=>hx x (gO _ hx')) (hr.agr hA) (hn.later hA hr.imm fun b hb'=>World.putObj_heap_other (by omega)) e3
 | (none,d)::l,w1,hd,hf,hx,hr,hn,hg=>by
  rw [uR] at hd hf;dsimp only at hd hf;obtain ⟨n,args,hde,hdn⟩:=hx (none,d) (by simp) rfl;dsimp only at hde;subst hde;simp only [sO,LeavesInM];have hcall:=hE.dn n hdn args (ψ w1);refine ⟨by simp,.inr ⟨fun h=>by simp [Fence.wide] at h,.func n,#[],n,args,rfl,?_,fun _ _=>trivial,CallsDIn.mono' hcall.2 fun e u w' he=>?_⟩⟩
  ·have:(invoke (Target.fn (.func n) #[]) args).run P (ψ w1)=(callFunc n args).run P (ψ w1):=by simp [invoke]
   exact this.trans hcall.1
  ·obtain ⟨rfl,rfl,v,rfl⟩:=he;exact Gv hE ψ good hψ hend l w1 hd hf (fun x hx'=>hx x (gO _ hx')) hr hn hg
theorem Lps.enter {E:Env} (h:Lps P E g H w):Lps P E { g with β:=fun _=>none } H w:=by
 have hon:On g { g with β:=fun _=>none } H H w w:=⟨fun _ x=>⟨x,rfl⟩,fun _ hb x=>⟨hb,x,rfl,rfl,.inr ⟨rfl,rfl⟩⟩,fun _ cur _ x=>⟨cur,x,rfl⟩,rfl⟩;refine ⟨fun k c l hc hl=>?_,h.inj,h.top⟩;obtain ⟨r,nt,hr⟩:=h.loop k c l hc hl;exact ⟨r,nt,⟨hr.free.at_,hr.free.rng,fun ⟨s,e⟩=>by simp at e,hr.free.imm⟩,hr.ready,hr.none_,hr.ps,hr.lt,hr.code,hr.size,fun s fv hs=>by
  obtain ⟨p,e,hp⟩:=hr.frame s fv hs;exact ⟨p,e,mL hon p _ hp⟩⟩
theorem oi (hE:EO P E) {n:Nat} (hx:yvY P E n):yba P E (ybu E (n+1)):=by
 intro f args H r H' h nt g F tmps w vs hr hL hv;simp only [ybu] at h;split at h
 ·rename_i x he
  cases h
  exact hE.eff.ok f args H r H' he nt g F tmps w vs hr hL hv
 split at h
 ·rename_i fn hfn;obtain ⟨fu,loc,fg,hfu,hcomp⟩:=hE.fns f fn hfn;unfold mM at hcomp;split at hcomp
  ·rename_i c rs hb hrs;split at hcomp
   ·cases hcomp
   ·rename_i hname
    cases hcomp
    simp only [] at h;split at h
    ·have hbase:=hr.enter hv fu.ntmps;have hcf:(callFunc f vs.toArray).run P w=.ok (.enter f vs.toArray) w:=by
      have hname' : ¬ fu.name = "runtime.NumGoroutine" := by simpa using hname
      simp [callFunc,hfu,hname',hb]
     unfold kM;rw [hcf];simp only [];have fin:∀ ex F2 H2,exec E n (yaG P loc fg fu.ntmps false c) (iX 0 args) H=some (ex,F2,H2)→(ex=.norm∨ex=.ret)→(∃ ps,ykD F2 H2 rs=some ps∧sU ps=r∧H2=H') →
       Calls P f vs.toArray w (fun e w''=>match e with | .returned v=>∃ g',Nx g g' H H' w w''∧Rel E nt g' F H' tmps w''∧VR g' H' w'' r v | _=>False):=by
      intro ex F2 H2 he hex ⟨ps,hps,hpk,e2⟩;subst hpk;subst e2;have hbody:=hx none false loc fg fu.ntmps w.heap.size c _ _ _ ⟨vs.toArray++Array.replicate (fu.ntmps-vs.toArray.size) undef,[]⟩ w ex F2 H2 (fun _=>rfl) he hbase hL.enter (bW _) bU.nil;refine DF.1 (callsIn_of_wp_marks (F:=Fc none) (n:=0) hfu hb trivial (wpIn_mono hbody fun e a' w' hp=>?_));have hp':nY ex e∧∃ g',Nx { g with β:=fun _=>none } g' H H2 w w'∧Rel E fu.ntmps g' F2 H2 a'.tmps w'∧bU E w.heap.size g' w' a'.defers:=by
       rcases hex with rfl | rfl<;>exact hp
      obtain ⟨h1,g2,h3,h4,rs,h5,h6,h7,h8⟩:=hp';have key:LeavesInM (Fc none) 0 P fu a'.tmps (fun e w''=>match e with | .returned v=>∃ g',Nx g g' H H2 w w''∧Rel E nt g' F H2 tmps w''∧VR g' H2 w'' (sU ps) v | _=>False) a'.defers .returning w':=by
       rw [h5];refine Gv hE (nt:=fu.ntmps) (g0:={ g with β:=fun _=>none }) (g2:=g2) (F2:=F2) (H:=H) (H2:=H2) (w:=w) (fun x=>x) (fun _=>True) (fun w1 r hf _=>⟨hf.at_,rfl,trivial⟩) (fun w1 k1 k2 _=>?_) rs w' h6 h7 h8 h4 h3 trivial;obtain ⟨v,hv1,hv2⟩:=NP (P:=P) k1 hrs hps;obtain ⟨r3,n3⟩:=hr.back k2 k1;have hon2:On g2 { g2 with β:=g.β } H2 H2 w1 w1:=⟨fun _ x=>⟨x,rfl⟩,fun _ hb x=>⟨hb,x,rfl,rfl,.inr ⟨rfl,rfl⟩⟩,fun _ cur _ x=>⟨cur,x,rfl⟩,rfl⟩;exact ⟨v,hv1,_,n3,r3,mL hon2 _ _ hv2⟩
      rcases hex with rfl | rfl<;>cases e<;>simp only [nY] at h1<;>exact key
     split at h
     ·rename_i F2 H2 he;split at h
      ·rename_i ps hps
       cases h
       exact fin _ F2 _ he (.inl rfl) ⟨ps,hps,rfl,rfl⟩
      ·cases h
     ·rename_i F2 H2 he;split at h
      ·rename_i ps hps
       cases h
       exact fin _ F2 _ he (.inr rfl) ⟨ps,hps,rfl,rfl⟩
      ·cases h
     ·cases h
    ·cases h
  ·cases hcomp
 ·cases h
theorem oj {loc:List Nat} {op:UnOp} {x':Opd} (h:jN P loc o=.un op x'):∃ t x,o.op=.unOp op t x∧opd x=some x':=by
 unfold jN at h
 cases ho:o.op<;>rw [ho] at h<;>simp only [] at h
 case unOp op2 t x=>
  split at h
  ·rename_i a hx
   cases h
   exact ⟨t,x,rfl,hx⟩
  ·cases h
 all_goals (try unfold Dw at h)
 all_goals (try unfold Dx at h)
 all_goals (repeat' split at h)
 all_goals first | cases h | skip
theorem Yg {α:Type} (l:List α):∀ (k:Nat),k≤l.length→(List.range k).filterMap (l[·]?)=l.take k
 | 0,_=>by simp
 | k+1,hk=>by rw [List.range_succ,List.filterMap_append,Yg l k (by omega),List.take_add_one];congr 1
theorem NZ {ro:Option Nat} {base n:Nat} (hE:EO P E) (ihi:yba P E (ybu E n)) (hdraw:∀ call,yba P E call→Gt P E call) {loc:List Nat} {fg:Nat→List Nat} {inR:Bool} {id:Nat} {ops:Array Oper} {draw:Bool} {ex:Ex} (hro:inR=false→ro=none)
  (h:exec E (n+1) (oS P loc fg nt inR id ops draw) F H=some (ex,F',H')) (hr:Rel E nt g F H a.tmps w) (hL:Lps P E g H w) (hdf:bU E base g w a.defers):ex=.norm∧(Code.region id ops draw).wpIn (Fc ro) 0 P (yeN E nt base g H w .norm F' H') a w:=by
 unfold oS at h
 cases hin:(inR&&gQ ops.toList) with
 | true=>rw [hin] at h;simp [exec] at h
 | false=>
 rw [hin] at h;simp only [gE,if_false] at h;have hrd:gQ ops.toList=true→ro=none:=fun hh=>by
  cases inR with
  | false=>exact hro rfl
  | true=>rw [hh] at hin;cases hin
 split at h
 ·rename_i l hl;split at h
  ·rename_i hds
   cases draw with
   | true=>
    simp only [if_true] at h;split at h
    ·rename_i heb;simp only [exec] at h;split at h
     ·rename_i F1 H1 hrun
      cases h
      exact ⟨rfl,wpIn_mono (hdraw _ ihi ro nt base g F H a w loc ops l F1 _ id hrd hl hds heb hrun hr hL hdf) fun e a' w' hp=>hp.fdels⟩
     ·cases h
    ·simp [exec] at h
   | false=>
    simp only [gE,if_false] at h;simp only [exec,yiz] at h;split at h
    ·rename_i F1 H1 hrun
     cases h
     exact ⟨rfl,wpIn_mono (og hE ihi hl hds hrd hrun hr hL hdf) fun e a' w' hp=>hp.fdels⟩
    ·cases h
  ·simp [exec] at h
 ·simp [exec] at h
theorem oq {ro:Option Nat} {base n e:Nat} {ex:Ex} (h:exec E n (.cond (.t e) .ret .skip) F H=some (ex,F',H')) (hr:Rel E nt g F H a.tmps w) (hdf:bU E base g w a.defers):(Code.cond (.tmp e) .ret .skip).wpIn (Fc ro) 0 P (yeN E nt base g H w ex F' H') a w:=by
 cases n with
 | zero=>simp [exec] at h
 | succ n=>
  simp only [exec] at h
  cases n with
  | zero=>
   split at h
   ·simp [exec] at h
   ·simp [exec] at h
   ·cases h
  | succ n=>
   split at h
   ·rename_i hb;have hv:=cS hr (x:=.tmp e) rfl hb;simp only [VR] at hv;simp only [exec,bT,Prod.mk.injEq] at h;obtain ⟨rfl,rfl,rfl⟩:=h;exact wpIn_cond_true hv (wpIn_ret ⟨trivial,g,Nx.refl g H w,hr,hdf⟩)
   ·rename_i hb;have hv:=cS hr (x:=.tmp e) rfl hb;simp only [VR] at hv;simp only [exec,bT,Prod.mk.injEq] at h;obtain ⟨rfl,rfl,rfl⟩:=h;exact wpIn_cond_false hv (wpIn_skip ⟨trivial,g,Nx.refl g H w,hr,hdf⟩)
   ·cases h
theorem Yh {ro:Option Nat} {base n:Nat} (hE:EO P E) (ihi:∀ m,m<n→yba P E (ybu E m)) (hdraw:∀ call,yba P E call→Gt P E call) {loc:List Nat} {fg:Nat→List Nat} {inR:Bool} {id e:Nat} {ops:Array Oper} {ex:Ex} (hro:inR=false→ro=none)
  (h:exec E n (.seq (oS P loc fg nt inR id ops false) (.cond (.t e) .ret .skip)) F H=some (ex,F',H')) (hr:Rel E nt g F H a.tmps w) (hL:Lps P E g H w) (hdf:bU E base g w a.defers):(Code.seq (.region id ops false) (.cond (.tmp e) .ret .skip)).wpIn (Fc ro) 0 P (yeN E nt base g H w ex F' H') a w:=by
 cases n with
 | zero=>simp [exec] at h
 | succ n=>
  cases n with
  | zero=>simp [exec] at h
  | succ n=>
   rw [exec] at h;split at h
   ·rename_i F1 H1 h1;obtain ⟨_,h2⟩:=NZ (ro:=ro) hE (ihi n (by omega)) hdraw hro h1 hr hL hdf;refine wpIn_seq (wpIn_mono h2 fun e1 a1 w1 hp=>?_);obtain ⟨hp1,g1,n1,r1,d1⟩:=hp
    cases e1<;>simp only [nY] at hp1
    exact wpIn_mono (oq h r1 d1) fun e' a' w' hq=>hq.trans n1
   ·rename_i hne;obtain ⟨rfl,_⟩:=NZ (ro:=ro) hE (ihi n (by omega)) hdraw hro h hr hL hdf;exact absurd h (hne _ _)
theorem ou {ro:Option Nat} {base n:Nat} (hE:EO P E) (ihi:∀ m,m≤n→yba P E (ybu E m)) (hdraw:∀ call,yba P E call→Gt P E call) {loc:List Nat} {fg:Nat→List Nat} {inR:Bool} {id e:Nat} {ops:Array Oper} {ex:Ex} {c':AC} (hro:inR=false→ro=none)
  (hy:yGp P loc fg nt inR id ops (.seq (oS P loc fg nt inR id ops false) (.cond (.t e) .ret .skip)) e=some c')
  (h:exec E (n+1) c' F H=some (ex,F',H')) (hr:Rel E nt g F H a.tmps w) (hL:Lps P E g H w) (hdf:bU E base g w a.defers):(Code.seq (.region id ops false) (.cond (.tmp e) .ret .skip)).wpIn (Fc ro) 0 P (yeN E nt base g H w ex F' H') a w:=by
 unfold yGp at hy
 cases hin:(inR&&gQ ops.toList) with
 | true=>rw [hin] at hy;simp at hy
 | false=>
 rw [hin] at hy;simp only [gE,if_false] at hy;have hrd:gQ ops.toList=true→ro=none:=fun hh=>by
  cases inR with
  | false=>exact hro rfl
  | true=>rw [hh] at hin;cases hin
 split at hy
 ·rename_i l hl;split at hy
  ·rename_i hds;split at hy
   ·rename_i d y args e' d' hdrop;split at hy
    ·rename_i hde;obtain ⟨rfl,rfl,hne⟩:=hde
     cases hy
     simp only [exec] at h;split at h
     ·rename_i F1 H1 hpre;split at h
      ·rename_i k vs hfv hav;obtain ⟨hlen,hget⟩:=sZ _ _ hl;have hlen':l.length=ops.size:=by simpa using hlen
       have h2:2≤l.length:=by have:=WO length hdrop;simp only [kD,kI,Di] at this;omega
       obtain ⟨K,hK⟩:∃ K,ops.size=K+2:=⟨ops.size-2,by omega⟩;have hlK:l.length-2=K:=by omega
       rw [hlK] at hdrop hpre;have g0:l[K]?=some ⟨some d',.call y args,none⟩:=by
        have:=WO (·[0]?) hdrop;simpa [sM] using this
       have g1:l[K+1]?=some ⟨some e',.un .not (.t d'),none⟩:=by have:=WO (·[1]?) hdrop;simpa [sM] using this
       have o0:ops[K]?=some ops[K]:=by simp [hK]
       have o1:ops[K+1]?=some ops[K+1]:=by simp [hK]
       have o0':ops.toList[K]?=some ops[K]:=by simp [hK]
       have o1':ops.toList[K+1]?=some ops[K+1]:=by simp [hK]
       obtain ⟨gd0,q0,u0⟩:=hget K _ o0';obtain ⟨gd1,q1,u1⟩:=hget (K+1) _ o1';rw [g0] at q0;rw [g1] at q1;simp only [bT,AO.mk.injEq] at q0 q1;obtain ⟨k1,k2,rfl⟩:=q0;obtain ⟨k3,k4,rfl⟩:=q1;have hd':d'<nt:=DJ _ hds K _ o0' d' k1.symm;have he':e'<nt:=DJ _ hds (K+1) _ o1' e' k3.symm;have noG:∀ {o:Oper},JN ops o none→o.guard=none:=fun hg=>by
        rcases hg with ⟨x,_⟩|⟨_,_,_,_,_,x⟩
        ·exact x
        ·cases x
       obtain ⟨cl,f,f',az',c1,c2,c3,c4,c5⟩:=NS (P:=P) (loc:=loc) (o:=ops[K]) (by rw [← k2];rfl);rw [← k2] at c5
       cases c5
       obtain ⟨t,x,x1,x2⟩:=oj (P:=P) (loc:=loc) (o:=ops[K+1]) k4.symm;refine wpIn_seq (wpIn_region ?_);rw [hK,show List.range (K+2)=List.range K++[K,K+1] by rw [List.range_succ,List.range_succ];simp];refine DL hE (ihi n (bW _)) hl hds hrd (List.range K) g F H a w (fun i hi=>by rw [qY] at hi;omega) hr hL (F':=F1) (H':=H1) (by rw [Yg _ _ (by omega)];exact hpre) fun a1 w1 g1' df1 n1 r1=>?_
       rw [wpOpsIn];simp only [o0];rw [WM (by simp [Region.wanted,noG u0])];refine ⟨fun _ _=>trivial,?_⟩;rw [Oper.semAt_eq _ _ _ (fun c' e=>by rw [c1] at e;cases e)];have hf:=cS r1 c3 hfv;simp only [VR,bH] at hf;obtain ⟨fs,cs,hfe,rfl,rfl,hk⟩:=hf;simp only [Gh.okF] at hk;obtain ⟨lp,hlp⟩:=wH.1 hk;have hfe:a1.eval f=.func (.yield lp) #[] #[]:=by rw [hfe];simp only [Gh.tr];rw [hlp];rfl
       have hL1:=hL.nx n1;have key:∀ (o:Option Nat) (H2:Hp),E.yl E.yn k vs H1=some (o,H2)→(∀ v w2,yvX E nt g1' F1 H1 a1.tmps w1 o H2 lp (.returned v) w2→(Code.cond (.tmp e') .ret .skip).wpIn (Fc ro) 0 P (yeN E nt base g H w ex F' H') ((a1.put (some d') v).put (some e') (.bool o.isSome)) w2) →
         Oper.uponIn (Fc ro) 0 P ops[K] a1 (wpOpsIn (Fc ro) 0 P ops (Exit.then ((Code.cond (.tmp e') .ret .skip).wpIn (Fc ro) 0 P (yeN E nt base g H w ex F' H')) (yeN E nt base g H w ex F' H')) [K+1]) (Exit.then ((Code.cond (.tmp e') .ret .skip).wpIn (Fc ro) 0 P (yeN E nt base g H w ex F' H')) (yeN E nt base g H w ex F' H')) ((execOp a1.eval ops[K]).run P w1):=by
        intro o H2 ho hfin;obtain ⟨fn,t1,as1,bd,h1,h2⟩:=hE.yl E.yn k vs H1 o H2 ho (bW _) nt g1' F1 a1.tmps w1 _ lp r1 (hL1.env rfl rfl) hlp (AX r1 _ _ _ c4 hav);have hargs:(cl.args.map a1.eval)=(cl.args.toList.map a1.eval).toArray:=by rw [← Dd]
        have hrun:(execOp a1.eval ops[K]).run P w1=.ok (.round lp fn t1 as1 bd) w1:=by rw [← h1];simp [execOp,c1,resolve,c2,hfe,Deferred.ofValue,invoke];rw [hargs]
        rw [hrun];simp only [Oper.uponIn];refine ⟨fun h=>by simp [Fence.wide] at h,(h2 ro).mono fun en w2 he=>?_⟩
        cases en with
        | returned v=>
         simp only [← k1,wpOpsIn,o1];rw [WM (by simp [Region.wanted,noG u1])];refine ⟨fun _ _=>trivial,?_⟩;rw [Oper.semAt_eq _ _ _ (fun c' e=>by rw [x1] at e;cases e)];have hv:v=.bool (!o.isSome):=by
          cases o with
          | none=>exact he.1
          | some i=>exact he.1
         have r2:Rel E nt g1' (aF F1 d' (.v (.bool (!o.isSome)))) H1 (a1.tmps.setIfInBounds d' v) w1:=r1.putV hd' (by rw [hv];exact vK _);have hx:(a1.put (some d') v).eval x=.bool (!o.isSome):=by have:=cS (a:=a1.put (some d') v) (by exact r2) x2 (p:=.bool (!o.isSome)) (by simp [evV,ev,bI]);simpa only [VR] using this
         have hrun2:(execOp (a1.put (some d') v).eval ops[K+1]).run P w2=.ok (.value (.bool o.isSome)) w2:=by simp only [execOp,x1,hx,Op.unary,Bool.not_not];rfl
         rw [hrun2];simp only [Oper.uponIn,← k3];exact hfin v w2 he
        | panicked _=>exact he.elim
        | outgrown=>exact he.elim
       have tm:∀ (v:Value) (b:Bool),((a1.put (some d') v).put (some e') (.bool b)).tmps=(a1.tmps.setIfInBounds d' v).setIfInBounds e' (.bool b):=fun v b=>rfl
       have dfx:∀ (v:Value) (b:Bool),((a1.put (some d') v).put (some e') (.bool b)).defers=a1.defers:=fun v b=>rfl
       split at h
       ·rename_i H2 ho
        cases h
        refine key none H' ho fun v w2 he=>?_
        obtain ⟨rfl,g2,n2,r2⟩:=he;have r4:Rel E nt g2 (aF (aF F1 d' (.v (.bool true))) e' (.v (.bool false))) H' ((a1.tmps.setIfInBounds d' (.bool true)).setIfInBounds e' (.bool false)) w2:=(r2.putV hd' (vK _)).putV he' (vK _);have hv:=cS (a:=((a1.put (some d') (.bool true)).put (some e') (.bool false))) (x:=.tmp e') r4 rfl (p:=.bool false) (by simp [evV,ev,bI]);simp only [VR] at hv;refine wpIn_cond_false hv (wpIn_skip (yeN.fdels ⟨trivial,g2,n1.trans n2,r4,?_⟩));rw [dfx];exact (hdf.nx (n1.trans n2)).go df1
       ·rename_i i H2 ho
        cases h
        refine key (some i) H' ho fun v w2 he=>?_
        obtain ⟨rfl,g2,w3,r,n2,r2,f2,rfl⟩:=he;have r4:Rel E nt g2 (aF (aF F1 d' (.v (.bool false))) e' (.v (.bool true))) H' ((a1.tmps.setIfInBounds d' (.bool false)).setIfInBounds e' (.bool true)) w3:=(r2.putV hd' (vK _)).putV he' (vK _);have hv:=cS (a:=((a1.put (some d') (.bool false)).put (some e') (.bool true))) (x:=.tmp e') r4 rfl (p:=.bool true) (by simp [evV,ev,bI]);simp only [VR] at hv;refine wpIn_cond_true hv (wpIn_ret ⟨rfl,g2,w3,lp,r,by rw [← n1.on.lam];exact hlp,n1.trans n2,r4,f2,?_,rfl⟩);rw [dfx];exact (hdf.nx (n1.trans n2)).go df1
       ·cases h
      ·exact Yh hE (fun m hm=>ihi m (by omega)) hdraw hro h hr hL hdf
     ·cases h
    ·cases hy
   ·cases hy
  ·cases hy
 ·cases hy
theorem Lps.pop {E:Env} {c:LCtx} {h:Nat→List PV→Hp→Option (Option Nat×Hp)} {y:Nat} (ht:∀ k,E.yn≤k→E.ctx k=none) (hL:Lps P ((E.push c h).ats y) g H w):Lps P (E.ats y) g H w:=by
 have hc:∀ k x,E.ctx k=some x→((E.push c h).ats y).ctx k=some x:=by
  intro k x e;have hk:k≠E.yn:=fun e2=>by rw [ht k (by omega)] at e;cases e
  show (if k=E.yn then some c else E.ctx k)=some x;rw [WN hk];exact e
 refine ⟨fun k x l e hl=>hL.loop k x l (hc k x e) hl,fun k k' l h1 h2 h3 h4=>?_,hL.top⟩;obtain ⟨x1,e1⟩:=wH.1 h1;obtain ⟨x2,e2⟩:=wH.1 h2;exact hL.inj k k' l (by rw [hc k x1 e1];rfl) (by rw [hc k' x2 e2];rfl) h3 h4
theorem Lps.putAt {E:Env} {l:Nat} {o o':Obj} (hL:Lps P E g H w) (hF:FB g w l o) (ho:Obj.rec o) (hi:∀ b,g.I b→b<w.heap.size) (hne:∀ k x,E.ctx k=some x→g.lam k≠some l):Lps P E g H (w.putObj l o'):=by
 refine ⟨fun k c l' hc hl=>?_,hL.inj,hL.top⟩;obtain ⟨r,nt,hr⟩:=hL.loop k c l' hc hl;have hon:=(hF.agr (o':=o') ho).on (H:=H) hi;exact ⟨r,nt,hr.free.other (fun e=>hne k c hc (e ▸ hl)),hr.ready,hr.none_,hr.ps,hr.lt,hr.code,hr.size,fun s fv hs=>by
  obtain ⟨p,e,hp⟩:=hr.frame s fv hs;exact ⟨p,e,mL hon p _ hp⟩⟩
theorem bU.other {base l:Nat} {ds:List Deferred} {r:Loop} {o':Obj} (h:bU E base g w ds) (hF:FB g w l (.loop r)):bU E base g (w.putObj l o') ds:=by
 obtain ⟨rs,h1,h2,h3,h4⟩:=h;refine ⟨rs,h1,h2,fun b hb=>⟨(h3 b hb).1,(h3 b hb).2.other fun e=>?_⟩,h4⟩;have:=(h3 b hb).2.at_
 rw [e,hF.at_] at this
 cases this
theorem Oa:∀ (F:aD) (s:Nat) (fv:FV),fget (jL F) s=some fv→∃ p,fv=.v p∧fget F s=some fv
 | [],s,fv,h=>by simp [jL,fget] at h
 | (k,x)::r,s,fv,h=>by
  have more:fget (eR (jL r) k) s=some fv→∃ p,fv=.v p∧fget ((k,x)::r) s=some fv:=fun h=>by
   rw [wT] at h;split at h
   ·cases h
   ·rename_i e;obtain ⟨p,e1,e2⟩:=Oa r s fv h;exact ⟨p,e1,by simp only [fget];rw [WN (fun e3=>e e3.symm)];exact e2⟩
  cases x with
  | v p=>
   simp only [jL,fget] at h;split at h
   ·rename_i e
    cases h
    exact ⟨p,rfl,by simp [fget,e]⟩
   ·rename_i e;obtain ⟨q,e1,e2⟩:=Oa r s fv h;exact ⟨q,e1,by simp only [fget];rw [WN e];exact e2⟩
  | _=>exact more h
def Ob (g:Gh) (H:Hp) (w:World) (F:aD) (tmps:Array Value):Prop:=∀ s fv,fget F s=some fv→∃ p,fv=.v p∧VR g H w p (tmps.getD s undef)
theorem Yi {nt:Nat}:∀ (ps:List Nat) (F F1:aD) (xs:List PV) (vs:List Value) (tmps:Array Value),ypg F ps xs=some F1→bH g H w xs vs→(∀ p∈ps,p<nt)→nt≤tmps.size→Ob g H w F tmps →
  ps.length=vs.length∧nt≤((ps.zip vs).foldl (fun (t:Array Value) (x:Nat×Value)=>t.setIfInBounds x.1 x.2) tmps).size∧Ob g H w F1 ((ps.zip vs).foldl (fun (t:Array Value) (x:Nat×Value)=>t.setIfInBounds x.1 x.2) tmps)
 | [],F,F1,[],vs,tmps,h,hv,_,hs,hF=>by simp only [ypg,bT] at h;simp only [bH] at hv;subst h;subst hv;exact ⟨rfl,by simpa using hs,by simpa using hF⟩
 | [],F,F1,x::xs,vs,tmps,h,_,_,_,_=>by simp [ypg] at h
 | s::ps,F,F1,[],vs,tmps,h,_,_,_,_=>by simp [ypg] at h
 | s::ps,F,F1,x::xs,vs,tmps,h,hv,hp,hs,hF=>by
  simp only [ypg] at h;simp only [bH] at hv;obtain ⟨v,vr,rfl,h1,h2⟩:=hv;have hlt:s<tmps.size:=lF (hp s (by simp)) hs;obtain ⟨k1,k2,k3⟩:=Yi ps (aF F s (.v x)) F1 xs vr (tmps.setIfInBounds s v) h h2 (fun p hp'=>hp p (by simp [hp'])) (by simpa using hs) (fun s' fv e=>by
   rw [bI] at e
   by_cases e2:s'=s
   ·subst e2;simp only [if_true,bT] at e;subst e;exact ⟨x,rfl,by rw [AV _ _ _ hlt];exact h1⟩
   ·rw [WN e2] at e;obtain ⟨p,e3,e4⟩:=hF s' fv e;exact ⟨p,e3,by rw [Nr _ _ _ _ e2];exact e4⟩)
  exact ⟨by simp [k1],by simpa using k2,by simpa using k3⟩
theorem Rel.round {E:Env} {nt nt':Nat} {F1:aD} {tmps1:Array Value} (h:Rel E nt g F H tmps w) (hs:nt'≤tmps1.size) (hF:Ob g H w F1 tmps1):Rel E nt' { g with β:=fun _=>none } F1 H tmps1 w:=by
 have hon:On g { g with β:=fun _=>none } H H w w:=⟨fun _ x=>⟨x,rfl⟩,fun _ hb x=>⟨hb,x,rfl,rfl,.inr ⟨rfl,rfl⟩⟩,fun _ cur _ x=>⟨cur,x,rfl⟩,rfl⟩;refine { size:=hs,frame:=fun s fv e=>?_,heap:=fun id hb e=>?_,dist:=h.dist,rsome:=h.rsome,bdist:=fun s s' b e=>by simp at e,brho:=fun s b id o e=>by simp at e,bimm:=fun s b e=>by simp at e,imm:=h.imm,glob:=h.glob }
 ·obtain ⟨p,rfl,hp⟩:=hF s fv e;simp only [bR];exact mL hon p _ hp
 ·obtain ⟨b,o,hk⟩:=h.heap id hb e;exact ⟨b,o,nW hon hk rfl rfl (fun x=>x)⟩
theorem ow {n y:Nat} {c:LCtx} {o:Option Nat} {h:Nat→List PV→Hp→Option (Option Nat×Hp)} {az:List PV} {vs:List Value} {l:Nat} (hE:EO P E) (_:E.yn+1≤y) (hx:yvY P (E.ats y) n)
  (hrun:(match ypg c.F c.ps az with
      | some F1=>(match exec (E.ats y) n c.az F1 H with
       | some (.norm,F2,H2)=>(match exec (E.ats y) n c.bd F2 H2 with
        | some (.norm,_,H3)=>some (none,H3)
        | some (.exit i,_,H3)=>some (some i,H3)
        | _=>none)
       | _=>none)
      | none=>none)=some (o,H'))
  (hr:Rel (E.push c h) nt g F H tmps w) (hL:Lps P ((E.push c h).ats y) g H w) (hl:g.lam E.yn=some l) (hv:bH g H w az vs) :
  ∃ (fn:FuncId) (tmps1:Array Value) (assign body:Code),(Instr.yield l vs.toArray).run P w=.ok (.round l fn tmps1 assign body) w ∧
   ∀ ro,RoundIn (Fc ro) 0 P l fn tmps1 assign body w (yvX (E.push c h) nt g F H tmps w o H' l):=by
 obtain ⟨r,nt',hR⟩:=hL.loop E.yn c l (by show (if E.yn=E.yn then some c else E.ctx E.yn)=some c;rw [WM rfl]) hl;split at hrun
 ·rename_i F1 hF1;obtain ⟨k1,k2,k3⟩:=Yi c.ps c.F F1 az vs r.tmps hF1 hv hR.lt hR.size hR.frame;have hsz:vs.toArray.size=r.params.size:=by
   have:r.params.size=c.ps.length:=by rw [← hR.ps];simp
   simp [this,k1]
  have hfold:(r.params.zip vs.toArray).foldl (fun tmps (t,a)=>tmps.setIfInBounds t a) r.tmps=(c.ps.zip vs).foldl (fun (t:Array Value) (x:Nat×Value)=>t.setIfInBounds x.1 x.2) r.tmps:=by rw [← hR.ps,← Array.foldl_toList];simp
  refine ⟨r.fn,_,r.assign,r.body,run_yield hR.free.at_ hsz,fun ro=>?_⟩;rw [hfold];generalize (c.ps.zip vs).foldl (fun (t:Array Value) (x:Nat×Value)=>t.setIfInBounds x.1 x.2) r.tmps=tmps1 at k2 k3 ⊢;obtain ⟨loc,fg,ca,cb⟩:=hR.code;have hne:∀ k x,E.ctx k=some x→g.lam k≠some l:=by
   intro k x e e2;have hk:k≠E.yn:=fun e3=>by rw [hE.top k (by omega)] at e;cases e
   refine hk (hL.inj k E.yn l ?_ ?_ e2 hl)
   ·show (if k=E.yn then some c else E.ctx k).isSome=true;rw [WN hk,e];rfl
   ·show (if E.yn=E.yn then some c else E.ctx E.yn).isSome=true;rw [WM rfl];rfl
  have hL1:Lps P (E.ats y) { g with β:=fun _=>none } H w:=(hL.pop hE.top).enter;have hr1:Rel (E.ats y) nt' { g with β:=fun _=>none } F1 H tmps1 w:=Rel.env (E:=E.push c h) (E':=E.ats y) rfl (hr.round k2 k3);have hF0:FB { g with β:=fun _=>none } w l (.loop r):=⟨hR.free.at_,hR.free.rng,fun ⟨s,e⟩=>by simp at e,hR.free.imm⟩;split at hrun
  ·rename_i F2 H2 ha;rw [← ca] at ha;refine roundIn_of_wpIn trivial (wpIn_mono (hx (some l) true loc fg nt' w.heap.size r.assign _ F1 H ⟨tmps1,[]⟩ w .norm F2 H2 (fun e=>by cases e) ha hr1 hL1 (bW _) bU.nil) fun e1 a1 w1 hp=>?_);obtain ⟨hp1,g1,n1,r1,d1⟩:=hp
   cases e1<;>simp only [nY] at hp1
   have f1:=hF0.nx n1;refine ⟨_,run_beginRound f1.at_ hR.ready,?_⟩;have hA:=f1.agr (o':=.loop { r with state:=.busy }) (by simp [Obj.rec]);have r2:=r1.agr hA;have hL2:Lps P (E.ats y) g1 H2 (w1.putObj l (.loop { r with state:=.busy })):=(hL1.nx n1).putAt f1 (by simp [Obj.rec]) r1.imm fun k x e=>by rw [n1.on.lam];exact hne k x e
   have d2:bU E w.heap.size g1 (w1.putObj l (.loop { r with state:=.busy })) a1.defers:=d1.other f1;have f2:FB g1 (w1.putObj l (.loop { r with state:=.busy })) l (.loop { r with state:=.busy }):=f1.put;have back:∀ {g3:Gh} {w3:World} {F3:aD} {H3:Hp} {a3:Act},Nx g1 g3 H2 H3 (w1.putObj l (.loop { r with state:=.busy })) w3→Rel (E.ats y) nt' g3 F3 H3 a3.tmps w3 →
     Nx g { g3 with β:=g.β } H H3 w (w3.putObj l (.loop r))∧Rel (E.push c h) nt { g3 with β:=g.β } F H3 tmps (w3.putObj l (.loop r))∧FB { g3 with β:=g.β } (w3.putObj l (.loop r)) l (.loop r):=by
    intro g3 w3 F3 H3 a3 n3 r3;have f3:=f2.nx n3;have n4:=n1.trans (Nx.put f1 (by simp [Obj.rec]) n3);have r4:=r3.agr (f3.agr (o':=.loop r) (by simp [Obj.rec]));obtain ⟨r5,n5⟩:=hr.back n4 (Rel.env (E:=E.ats y) (E':=E.push c h) rfl r4);exact ⟨n5,r5,World.putObj_heap_same f3.lt,f3.rng,hR.free.bet,f3.imm⟩
   split at hrun
   ·rename_i F3 H3 hb
    cases hrun
    rw [← cb] at hb;refine wpIn_mono (hx (some l) true loc fg nt' w.heap.size r.body g1 F2 H2 a1 _ .norm F3 _ (fun e=>by cases e) hb r2 hL2 (by rw [World.putObj_size];exact n1.size) d2) fun e3 a3 w3 hp=>?_
    obtain ⟨hp3,g3,n3,r3,d3⟩:=hp
    cases e3<;>simp only [nY] at hp3
    obtain ⟨q1,q2,q3⟩:=back n3 r3;refine ⟨_,_,run_endRound none (f2.nx n3).at_,?_⟩;have hrr:Obj.loop { ({ r with state:=LoopState.busy }:Loop) with state:=if (none:Option Code).isNone then .ready else .done,pending:=none }=.loop r:=by
     have h1:=hR.ready;have h2:=hR.none_
     cases r
     simp_all
    rw [hrr];exact ⟨rfl,_,q1,q2⟩
   ·rename_i i F3 H3 hb
    cases hrun
    rw [← cb] at hb;refine wpIn_mono (hx (some l) true loc fg nt' w.heap.size r.body g1 F2 H2 a1 _ (.exit i) F3 _ (fun e=>by cases e) hb r2 hL2 (by rw [World.putObj_size];exact n1.size) d2) fun e3 a3 w3 hp=>?_
    obtain ⟨hp3,g3,n3,r3,d3⟩:=hp
    cases e3<;>simp only [nY] at hp3
    subst hp3;obtain ⟨q1,q2,q3⟩:=back n3 r3;refine ⟨_,_,run_endRound (some (.exit i)) (f2.nx n3).at_,rfl,_,_,r,q1,q2,q3,?_⟩;rw [XP];rfl
   ·cases hrun
  ·cases hrun
 ·cases hrun
theorem yvX.env {E E':Env} {o:Option Nat} {l:Nat} {e:Ending} (he:E'.glob=E.glob) (h:yvX E nt g F H tmps w o H' l e w'):yvX E' nt g F H tmps w o H' l e w':=by
 cases e with
 | returned v=>
  cases o with
  | none =>obtain ⟨h1,g',h2,h3⟩:=h;exact ⟨h1,g',h2,h3.env he⟩
  | some i =>obtain ⟨h1,g',w1,r,h2,h3,h4,h5⟩:=h;exact ⟨h1,g',w1,r,h2,h3.env he,h4,h5⟩
 | panicked _=>exact h
 | outgrown=>exact h
theorem EO.ats {y:Nat} (hE:EO P E) (hy:E.yn≤y):EO P (E.ats y) where
 sum:=hE.sum
 fns:=hE.fns
 eff:=fun y' hy'=>hE.eff y' (jT hy hy')
 dn:=hE.dn
 top:=fun k hk=>hE.top k (jT hy hk)
 yl:=fun y' k az H o H' h hy' nt g F tmps w vs l hr hL hl hv=>by obtain ⟨fn,t1,as1,bd,h1,h2⟩:=hE.yl y' k az H o H' h (jT hy hy') nt g F tmps w vs l (Rel.env (E:=E.ats y) (E':=E) rfl hr) hL hl hv;exact ⟨fn,t1,as1,bd,h1,fun ro=>(h2 ro).mono fun e w' he=>yvX.env (E:=E) (E':=E.ats y) rfl he⟩
theorem EO.yl' {E':Env} (hE:EO P E) (e1:E'.glob=E.glob) (e2:E'.ctx=E.ctx) (e3:E'.yn=E.yn) (e4:E'.yl=E.yl):∀ y k az H o H',E'.yl y k az H=some (o,H')→E'.yn≤y→∀ nt g F tmps w vs l,Rel E' nt g F H tmps w→Lps P (E'.ats y) g H w→g.lam k=some l→bH g H w az vs →
  ∃ (fn:FuncId) (tmps1:Array Value) (assign body:Code),(Instr.yield l vs.toArray).run P w=.ok (.round l fn tmps1 assign body) w ∧
   ∀ ro,RoundIn (Fc ro) 0 P l fn tmps1 assign body w (yvX E' nt g F H tmps w o H' l):=by
 intro y k az H o H' h hy nt g F tmps w vs l hr hL hl hv;obtain ⟨fn,t1,as1,bd,h1,h2⟩:=hE.yl y k az H o H' (by rw [← e4];exact h) (by rw [← e3];exact hy) nt g F tmps w vs l (hr.env e1.symm) (Lps.env (E:=E'.ats y) (E':=E.ats y) e2.symm rfl hL) hl hv;exact ⟨fn,t1,as1,bd,h1,fun ro=>(h2 ro).mono fun e w' he=>yvX.env e1 he⟩
theorem EO.eff' {E':Env} {call:Nat→List PV→Hp→Option (PV×Hp)} (e1:E'.glob=E.glob) (e2:E'.ctx=E.ctx) (e3:E'.yn=E.yn) (h:Gr P E call):Gr P E' call:=
 fun y hy=>yba.env (E:=E.ats y) (E':=E'.ats y) e1 e2 rfl (h y (by rw [← e3];exact hy))
def mP (E:Env) (n:Nat) (c:LCtx) (y:Nat) (vs:List PV) (H:Hp):Option (Option Nat×Hp):=
 match ypg c.F c.ps vs with
 | some F1=>(match exec (E.ats y) n c.az F1 H with
  | some (.norm,F2,H2)=>(match exec (E.ats y) n c.bd F2 H2 with
   | some (.norm,_,H3)=>some (none,H3)
   | some (.exit i,_,H3)=>some (some i,H3)
   | _=>none)
  | _=>none)
 | none=>none
theorem EO.push {n:Nat} {c:LCtx} (hE:EO P E) (hx:∀ y,E.yn+1≤y→yvY P (E.ats y) n):EO P (E.push c (mP E n c)) where
 sum:=hE.sum
 fns:=hE.fns
 eff:=fun y hy f args H r H' hc nt g F tmps w vs hr hL hv=>by
  have hy:E.yn+1≤y:=hy;exact (hE.eff y (by omega) f args H r H' hc nt g F tmps w vs (Rel.env (E:=(E.push c (mP E n c)).ats y) (E':=E.ats y) rfl hr) (hL.pop hE.top) hv).mono fun v w' ⟨g',h1,h2,h3⟩=>⟨g',h1,Rel.env (E:=E.ats y) (E':=(E.push c (mP E n c)).ats y) rfl h2,h3⟩
 dn:=hE.dn
 top:=fun k hk=>by
  have hk:E.yn+1≤k:=hk;show (if k=E.yn then some c else E.ctx k)=none;rw [WN (by omega)];exact hE.top k (by omega)
 yl:=fun y k az H o H' h hy nt g F tmps w vs l hr hL hl hv=>by
  have hy:E.yn+1≤y:=hy;have hh:(if k=E.yn then mP E n c y az H else E.yl y k az H)=some (o,H'):=h
  by_cases hk:k=E.yn
  ·rw [WM hk] at hh;subst hk;exact ow (c:=c) hE hy (hx y hy) hh hr hL hl hv
  ·rw [WN hk] at hh;obtain ⟨fn,t1,as1,bd,h1,h2⟩:=hE.yl y k az H o H' hh (by omega) nt g F tmps w vs l (Rel.env (E:=E.push c (mP E n c)) (E':=E) rfl hr) (hL.pop hE.top) hl hv;exact ⟨fn,t1,as1,bd,h1,fun ro=>(h2 ro).mono fun e w' he=>yvX.env (E:=E) (E':=E.push c (mP E n c)) rfl he⟩
theorem LoopR.up {L:Nat→Option Nat} {c:LCtx} {l:Nat} {r:Loop} (hL:∀ k l,g.lam k=some l→L k=some l) (h:LoopR P c g H w l r nt):LoopR P c (g.wl L) H w l r nt:=by
 have hU:∀ f,(fun _:Fn=>true) f=true→g.okF f→(g.wl L).okF f∧(g.wl L).tr f=g.tr f:=fun f _ hf=>Gh.okF_lam (g':=g.wl L) hL hf
 exact ⟨⟨h.free.at_,h.free.rng,h.free.bet,h.free.imm⟩,h.ready,h.none_,h.ps,h.lt,h.code,h.size,fun s fv hs=>by
  obtain ⟨p,e,hp⟩:=h.frame s fv hs;exact ⟨p,e,Bd hU (fun _ _=>rfl) p _ (DH p) hp⟩⟩
theorem LoopR.agr {c:LCtx} {l:Nat} {r:Loop} (hA:Agr g w w') (hi:∀ b,g.I b→b<w.heap.size) (hk:∀ b,b<w.heap.size→w'.heap[b]?=w.heap[b]?) (h:LoopR P c g H w l r nt):LoopR P c g H w' l r nt:=by
 have hon:=hA.on (H:=H) hi;exact ⟨⟨(hk l h.free.lt).trans h.free.at_,h.free.rng,h.free.bet,h.free.imm⟩,h.ready,h.none_,h.ps,h.lt,h.code,h.size,fun s fv hs=>by
  obtain ⟨p,e,hp⟩:=h.frame s fv hs;exact ⟨p,e,mL hon p _ hp⟩⟩
theorem oz {base n:Nat} {x:Opd} {gop:Operand} {psA:Array Tmp} {assign body:Code} {loc:List Nat} {fg:Nat→List Nat} {ex:Ex} (hE:EO P E) (hx:∀ E',EO P E'→yvY P E' n)
  (hg:opd gop=some x) (hps:psA.toList.all (fun p=>decide (p<nt))=true)
  (h:exec E (n+1) (.rangeF x psA.toList (yaG P loc fg nt true assign) (yaG P loc fg nt true body)) F H=some (ex,F',H'))
  (hr:Rel E nt g F H a.tmps w) (hL:Lps P E g H w) (hb:base≤w.heap.size) (hdf:bU E base g w a.defers) :
  (Code.rangeFunc gop psA assign body).wpIn (Fc none) 0 P (yeN E nt base g H w ex F' H') a w:=by
 simp only [exec] at h;split at h
 ·rename_i f first cap hfv;split at h
  ·rename_i fn hfn;split at h
   ·rename_i hn;obtain ⟨hn1,hn2⟩:=hn;obtain ⟨fu,loc',fg',hfu,hcomp⟩:=hE.fns f fn hfn;unfold mM at hcomp;split at hcomp
    ·rename_i c' rs hbd hrs;split at hcomp
     ·cases hcomp
     ·rename_i hname
      cases hcomp
      simp only [] at h hn1 hn2;have hrs0:rs=[]:=List.length_eq_zero_iff.1 hn2;subst hrs0;have hv:=cS hr hg hfv;simp only [VR] at hv;obtain ⟨fs,cs,hfe,hfs,hcs,_⟩:=hv;have hfe:a.eval gop=.func (.func f) fs.toArray cs.toArray:=hfe;refine wpIn_rangeFunc fun fid _=>?_
      let rec0:Loop:={ state:=.ready,pending:=none,fn:=fid,tmps:=a.tmps,params:=psA,assign:=assign,body:=body,defers:=w.heap.size };let W1:World:=(w.alloc (.deferred (some []))).alloc (.loop rec0);let l:Nat:=w.heap.size+1;have hs1:W1.heap.size=w.heap.size+2:=by simp [W1,World.size_alloc]
      have hold:∀ b,b<w.heap.size→W1.heap[b]?=w.heap[b]?:=by intro b hb;show ((w.heap.push _).push _)[b]?=_;rw [Array.getElem?_push_lt (by simp;omega),Array.getElem_push_lt hb];simp [hb]
      have hat0:W1.heap[w.heap.size]?=some (.deferred (some [])):=by show ((w.heap.push _).push _)[w.heap.size]?=_;rw [Array.getElem?_push_lt (by simp)];simp
      have hat1:W1.heap[l]?=some (.loop rec0):=by have:=World.alloc_heap_new (w.alloc (.deferred (some []))) (.loop rec0);rw [World.size_alloc] at this;exact this
      have hA:Agr g w W1:=⟨rfl,rfl,rfl,bW _,by omega,fun b hb=>.inl (hold b hb)⟩;have hN:Nx g g H H w W1:=hA.nx hr.imm hold;have hrW:Rel E nt g F H a.tmps W1:=hr.agr hA;have fresh:∀ b,w.heap.size≤b→¬RngR g b∧¬kL g b∧¬g.I b:=fun b hb=>
       ⟨fun hh=>by have:=hr.brng hh;omega,fun ⟨s,hh⟩=>by have:=(hr.bimm s b hh).2;omega,fun hh=>by have:=hr.imm b hh;omega⟩
      let L:Nat→Option Nat:=fun k=>if k=E.yn then some l else g.lam k
      have hUp:∀ k l',g.lam k=some l'→L k=some l':=by
       intro k l' e;have:k≠E.yn:=fun e2=>by rw [hL.top k (by omega)] at e;cases e
       show (if k=E.yn then some l else g.lam k)=some l';rw [WN this];exact e
      have hU:∀ f,(fun _:Fn=>true) f=true→g.okF f→(g.wl L).okF f∧(g.wl L).tr f=g.tr f:=fun f _ hf=>Gh.okF_lam (g':=g.wl L) hUp hf
      let cx:LCtx:=⟨jL F,psA.toList,yaG P loc fg nt true assign,yaG P loc fg nt true body⟩;have hF0:FB (g.wl L) W1 l (.loop rec0):=⟨hat1,(fresh l (by omega)).1,(fresh l (by omega)).2.1,(fresh l (by omega)).2.2⟩;have hL1:Lps P (E.push cx (mP E n cx)) (g.wl L) H W1:=by
       refine ⟨fun k c l' hc hl=>?_,fun k k' l' h1 h2 h3 h4=>?_,fun k hk=>?_⟩
       ·have hc:(if k=E.yn then some cx else E.ctx k)=some c:=hc;have hl:(if k=E.yn then some l else g.lam k)=some l':=hl
        by_cases hk:k=E.yn
        ·rw [WM hk] at hc hl
         cases hc;cases hl
         refine ⟨rec0,nt,hF0,rfl,rfl,rfl,fun p hp=>?_,⟨loc,fg,rfl,rfl⟩,hr.size,fun s fv hs=>?_⟩
         ·have:=yW.1 hps p hp;simpa using this
         ·obtain ⟨p,rfl,e⟩:=Oa F s fv hs;have:=hrW.frame s _ e;simp only [bR] at this;exact ⟨p,rfl,Bd hU (fun _ _=>rfl) p _ (DH p) this⟩
        ·rw [WN hk] at hc hl;obtain ⟨r,nt',hR⟩:=hL.loop k c l' hc hl;exact ⟨r,nt',(hR.agr hA hr.imm hold).up hUp⟩
       ·have h1:(if k=E.yn then some cx else E.ctx k).isSome=true:=h1;have h2:(if k'=E.yn then some cx else E.ctx k').isSome=true:=h2;have h3:(if k=E.yn then some l else g.lam k)=some l':=h3;have h4:(if k'=E.yn then some l else g.lam k')=some l':=h4;have old:∀ {k},(E.ctx k).isSome=true→g.lam k=some l'→l'<w.heap.size:=fun hc hl=>by
         obtain ⟨c,hc⟩:=wH.1 hc;obtain ⟨r,nt',hR⟩:=hL.loop _ c l' hc hl;exact hR.free.lt
        by_cases hk:k=E.yn<;>by_cases hk':k'=E.yn
        ·omega
        ·rw [WM hk] at h3;rw [WN hk'] at h2 h4
         cases h3
         have:=old h2 h4;omega
        ·rw [WN hk] at h1 h3;rw [WM hk'] at h4
         cases h4
         have:=old h1 h3;omega
        ·rw [WN hk] at h1 h3;rw [WN hk'] at h2 h4;exact hL.inj k k' l' h1 h2 h3 h4
       ·have hk:E.yn+1≤k:=hk;show (if k=E.yn then some l else g.lam k)=none;rw [WN (by omega)];exact hL.top k (by omega)
      have hE1:EO P (E.push cx (mP E n cx)):=hE.push fun y hy=>hx _ (hE.ats (by omega))
      let vs:List Value:=fs++[.func (.yield l) #[] #[]]++cs;have hvs:bH (g.wl L) H W1 (first++[PV.fn (.yield E.yn) [] []]++cap) vs:=by
       have hon:=hA.on (H:=H) hr.imm;have hy:VR (g.wl L) H W1 (PV.fn (.yield E.yn) [] []) (.func (.yield l) #[] #[]):=by
        simp only [VR,bH];refine ⟨[],[],?_,rfl,rfl,?_⟩
        ·simp [Gh.tr,Gh.wl,L]
        ·simp [Gh.okF,Gh.wl,L]
       refine Bc _ _ _ _ (Bc _ _ _ _ (Be hU (fun _ _=>rfl) _ _ (zW _) (wU hon _ _ hfs)) ?_) (Be hU (fun _ _=>rfl) _ _ (zW _) (wU hon _ _ hcs));simp only [bH];exact ⟨_,[],rfl,hy,rfl⟩
      have hr1:Rel (E.push cx (mP E n cx)) fu.ntmps { g.wl L with β:=fun _=>none } (iX 0 (first++[PV.fn (.yield E.yn) [] []]++cap)) H (vs.toArray++Array.replicate (fu.ntmps-vs.toArray.size) undef) W1:=
       Rel.env (E:=E) (E':=E.push cx (mP E n cx)) rfl ((hrW.lamUp hUp).enter hvs fu.ntmps)
      have hname' : ¬ fu.name = "runtime.NumGoroutine" := by simpa using hname
      refine ⟨l,[mk w.heap.size],W1,⟨.fn (.func f) cs.toArray,fs.toArray++#[.func (.yield l) #[] #[]]⟩,W1,f,vs.toArray,W1,run_enterLoop_outer fid a.tmps psA assign body,?_,fun _ _=>trivial,?_,fun hd=>by simp [Fence.wide] at hd,?_⟩
      ·have e1:a.eval gop=.func (.func f) fs.toArray cs.toArray:=hfe;have e2:∀ v,a.eval (.const v)=v:=fun _=>rfl
       simp [resolve,e1,e2,Deferred.ofValue]
      ·simp [invoke,callFunc,hfu,hname',hbd,vs]
      ·have hF0':FB { g.wl L with β:=fun _=>none } W1 l (.loop rec0):=⟨hF0.at_,hF0.rng,fun ⟨s,e⟩=>by simp at e,hF0.imm⟩;have fin:∀ (g2:Gh) (F2:aD) (H2:Hp) (tm2:Array Value) (w1:World) (o1 o2:Obj) (H3:Hp),clrY E.yn H.length H2=some H3→Obj.rec o1→Nx { g.wl L with β:=fun _=>none } g2 H H2 W1 w1→Rel (E.push cx (mP E n cx)) fu.ntmps g2 F2 H2 tm2 w1→FB g2 w1 l o1 →
         ∃ g',Nx g g' H H3 w (w1.putObj l o2)∧Rel E nt g' F H3 a.tmps (w1.putObj l o2)∧bU E base g' (w1.putObj l o2) ([mk w.heap.size]++a.defers):=by
        intro g2 F2 H2 tm2 w1 o1 o2 H3 hno ho1 n2 r2 f2;have hdn:∀ k,k≠E.yn→g.lam k=g2.lam k:=fun k hk=>by
         rw [n2.on.lam];show g.lam k=if k=E.yn then some l else g.lam k
         rw [WN hk]
        have r3:=(Rel.env (E:=E.push cx (mP E n cx)) (E':=E) rfl r2).lamDown (L:=g.lam) hdn hno;have n3:Nx { g with β:=fun _=>none } (g2.wl g.lam) H H3 W1 w1:=⟨n2.os,n2.tape,n2.output,n2.drawn,n2.size,n2.kept,n2.rng,n2.immb,n2.bet,⟨n2.on.keeps,ny hno n2.on.hext,n2.on.shape,rfl⟩⟩;obtain ⟨r4,n4⟩:=hrW.back n3 r3;have f4:FB { g2.wl g.lam with β:=g.β } w1 l o1:=⟨f2.at_,f2.rng,hF0.bet,f2.imm⟩;have hA4:=f4.agr (o':=o2) ho1;refine ⟨_,(hN.trans n4).later hA4 r4.imm fun b hb=>World.putObj_heap_other (by omega),r4.agr hA4,?_⟩;obtain ⟨rs,e1,e2,e3,e4⟩:=hdf;have fr:FB g W1 w.heap.size (.deferred (some [])):=⟨hat0,(fresh _ (bW _)).1,(fresh _ (bW _)).2.1,(fresh _ (bW _)).2.2⟩;have hfm:((some w.heap.size,mk w.heap.size)::rs).filterMap (·.1)=w.heap.size::rs.filterMap (·.1):=by rw [uR]
        refine ⟨(some w.heap.size,mk w.heap.size)::rs,by rw [e1];rfl,by rw [hfm];exact zA.2 ⟨fun hm=>by have:=(e3 _ hm).2.lt;omega,e2⟩,fun b hb'=>?_,fun x hx hn=>?_⟩
        ·rw [hfm] at hb';rcases qAo.1 hb' with rfl | hm
         ·exact ⟨hb,(fr.nx n4).other (by omega)⟩
         ·exact ⟨(e3 b hm).1,(((e3 b hm).2.nx hN).nx n4).other (by have:=(e3 b hm).2.lt;omega)⟩
        ·rcases qAo.1 hx with rfl | hx
         ·cases hn
         ·exact e4 x hx hn
       have go:∀ ex2 F2 H2,exec (E.push cx (mP E n cx)) n (yaG P loc' fg' fu.ntmps false c') (iX 0 (first++[PV.fn (.yield E.yn) [] []]++cap)) H=some (ex2,F2,H2) →
         c'.wpIn (Fc none) 0 P (yeN (E.push cx (mP E n cx)) fu.ntmps W1.heap.size { g.wl L with β:=fun _=>none } H W1 ex2 F2 H2) { tmps:=vs.toArray++Array.replicate (fu.ntmps-vs.toArray.size) undef,defers:=[] } W1:=
        fun ex2 F2 H2 he=>hx _ hE1 none false loc' fg' fu.ntmps W1.heap.size c' _ _ H ⟨_,[]⟩ W1 ex2 F2 H2 (fun _=>rfl) he hr1 hL1.enter (bW _) bU.nil
       have plain:∀ ex2 F2 H2,exec (E.push cx (mP E n cx)) n (yaG P loc' fg' fu.ntmps false c') (iX 0 (first++[PV.fn (.yield E.yn) [] []]++cap)) H=some (ex2,F2,H2)→(ex2=.norm∨ex2=.ret)→clrY E.yn H.length H2=some H'→ex=.norm→F'=F →
         CallsIn (Fc none) (0-1) P f vs.toArray W1 (rangePost (Fc none) 0 P l (yeN E nt base g H w ex F' H') { a with defers:=[mk w.heap.size]++a.defers }):=by
        intro ex2 F2 H2 he hex hno e1 e2;subst e1;subst e2;refine callsIn_of_wp_marks (F:=Fc none) (n:=0) hfu hbd trivial (wpIn_mono (go ex2 F2 H2 he) fun e a' w' hp=>?_);have hp':nY ex2 e∧∃ g',Nx { g.wl L with β:=fun _=>none } g' H H2 W1 w'∧Rel (E.push cx (mP E n cx)) fu.ntmps g' F2 H2 a'.tmps w'∧bU (E.push cx (mP E n cx)) W1.heap.size g' w' a'.defers:=by
         rcases hex with rfl | rfl<;>exact hp
        obtain ⟨h1,g2,h3,h4,rs2,h5,h6,h7,h8⟩:=hp';have key:LeavesInM (Fc none) 0 P fu a'.tmps (rangePost (Fc none) 0 P l (yeN E nt base g H w .norm F' H') { a with defers:=[mk w.heap.size]++a.defers }) a'.defers .returning w':=by
         rw [h5];refine Gv hE1 (nt:=fu.ntmps) (g0:={ g.wl L with β:=fun _=>none }) (g2:=g2) (F2:=F2) (H:=H) (H2:=H2) (w:=W1) (fun x=>x) (fun _=>True) (fun w1 r hf _=>⟨hf.at_,rfl,trivial⟩) (fun w1 k1 k2 _=>?_) rs2 w' h6 h7 h8 h4 h3 trivial;obtain ⟨v,hv1,_⟩:=NP (P:=P) (ps:=[]) k1 hrs rfl;have f2:=hF0'.nx k2;obtain ⟨g',q1,q2,q3⟩:=fin g2 F2 H2 a'.tmps w1 _ (.loop { rec0 with state:=.exhausted }) _ hno (by simp [Obj.rec]) k2 k1 f2;exact ⟨v,hv1,none,_,run_endLoop f2.at_ (by simp [rec0]),trivial,g',q1,q2,q3⟩
        rcases hex with rfl | rfl<;>cases e<;>simp only [nY] at h1<;>exact key
       split at h
       ·rename_i F2 H2 he;split at h
        ·rename_i H3 hno
         cases h
         exact plain _ F2 H2 he (.inl rfl) hno rfl rfl
        ·cases h
       ·rename_i F2 H2 he;split at h
        ·rename_i H3 hno
         cases h
         exact plain _ F2 H2 he (.inr rfl) hno rfl rfl
        ·cases h
       ·rename_i k i F2 H2 he;split at h
        ·rename_i hkk;subst hkk;split at h
         ·rename_i H3 hno
          cases h
          refine callsIn_of_wp_marks (F:=Fc none) (n:=0) hfu hbd trivial (wpIn_mono (go _ F2 H2 he) fun e a' w' hp=>?_);obtain ⟨rfl,g2,w1,l',r,h2,h3,h4,h5,⟨rs2,h6,h7,h8,h9⟩,rfl⟩:=hp;have hl':l'=l:=by
           have:(if E.yn=E.yn then some l else g.lam E.yn)=some l':=h2;rw [WM rfl] at this
           cases this;rfl
          subst hl';show LeavesInM (Fc none) 0 P fu a'.tmps _ a'.defers .returning _;rw [h6];refine Gv hE1 (nt:=fu.ntmps) (g0:={ g.wl L with β:=fun _=>none }) (g2:=g2) (F2:=F2) (H:=H) (H2:=H2) (w:=W1) (fun x=>x.putObj l (JQ r i)) (fun x=>FB g2 x l (.loop r)) (fun w1 b hf hg=>?_) (fun w1 k1 k2 hg=>?_) rs2 w1 h7 h8 h9 h4 h3 h5
          ·have hne:b≠l:=fun e=>by
            have:=hf.at_;rw [e,hg.at_] at this
            cases this
           exact ⟨(World.putObj_heap_other hne).trans hf.at_,nw (fun e=>hne e.symm),hg.other (fun e=>hne e.symm)⟩
          ·have hA2:=hg.agr (o':=JQ r i) (by simp [Obj.rec]);obtain ⟨v,hv1,_⟩:=NP (P:=P) (ps:=[]) (k1.agr hA2) hrs rfl;obtain ⟨g',q1,q2,q3⟩:=fin g2 F2 H2 a'.tmps w1 _ (.loop { r with state:=.exhausted,pending:=some (.exit i) }) _ hno (by simp [Obj.rec]) k2 k1 hg;have hpu:=(hg.put (o':=JQ r i)).at_
           refine ⟨v,hv1,some (.exit i),_,run_endLoop hpu (by simp),?_⟩;rw [XP];exact wpIn_exit ⟨rfl,g',q1,q2,q3⟩
         ·cases h
        ·cases h
       ·cases h
    ·cases hcomp
   ·cases h
  ·cases h
 ·cases h
theorem yeN.noGo {base:Nat} {ex:Ex} {e:Exit} {a':Act} (h:yeN E nt base g H w ex F' H' e a' w'):noGo (yeN E nt base g H w ex F' H') e a' w':=by
 cases e with
 | goto t=>
  cases ex with
  | brk k i=>obtain ⟨h1,_⟩:=h;cases h1
  | _=>exact h.1.elim
 | _=>exact h
theorem Yj (hdraw:∀ E,EO P E→∀ call,yba P E call→Gt P E call):∀ n E,EO P E→yvY P E n∧Yd P E n∧Ye P E n∧yba P E (ybu E n):=by
 intro n;induction n using Nat.strongRecOn with
 | _ n ih0=>
 cases n with
 | zero=>
  intro E hE;refine ⟨?_,?_,?_,?_⟩
  ·intro ro inR loc fg nt base c g F H a w ex F' H' _ h;simp [exec] at h
  ·intro ro inR loc fg nt base c g F H a w ex F' H' _ h;simp [exec] at h
  ·intro ro inR loc fg nt base c g F H a w ex F' H' _ h;simp [exec] at h
  ·intro f args H r H' h;simp [ybu] at h
 | succ n=>
  intro E hE;obtain ⟨ihx,ihl,ihlg,ihi⟩:=ih0 n (by omega) E hE;have hloop:Yd P E (n+1):=by
   intro ro inR loc fg nt base c g F H a w ex F' H' hro h hr hL hb hdf b k cs hbr;have hroom:(Fc ro).room (cs.length+1+0):=room_wide _;simp only [exec] at h;split at h
   ·rename_i F1 H1 h1;obtain ⟨e,a1,w1,⟨hp1,g1,hn1,hr1,hd1⟩,harr⟩:=ihx ro inR loc fg nt base c g F H a w _ _ _ hro h1 hr hL hb hdf b (.inLoop c::k) cs hbr trivial hroom
    cases e<;>simp only [nY] at hp1
    obtain ⟨e2,a2,w2,hq2,harr2⟩:=ihl ro inR loc fg nt base c g1 F1 H1 a1 w1 ex F' H' hro h hr1 (hL.nx hn1) (jT hb hn1.size) hd1 b k cs hbr;exact ⟨e2,a2,w2,hq2.trans hn1,.of_steps (StepsIn.trans harr (.one (fenced_calm trivial hroom rfl) stepR_inLoop)) harr2⟩
   ·rename_i hne;obtain ⟨e,a1,w1,hp,harr⟩:=ihx ro inR loc fg nt base c g F H a w _ _ _ hro h hr hL hb hdf b (.inLoop c::k) cs hbr trivial hroom;have hex:ex≠.norm:=fun e=>hne F' H' (by rw [h,e])
    refine ⟨e,a1,w1,hp,.pass (x:=.inLoop c) rfl (fun _ _=>.inl (fun e1=>?_)) harr⟩;subst e1
    cases ex with
    | norm=>exact hex rfl
    | brk k i=>obtain ⟨h1,_⟩:=hp;cases h1
    | _=>exact hp.1.elim
  have hloopG:Ye P E (n+1):=by
   intro ro inR loc fg nt base c g F H a w ex F' H' hro h hr hL hb hdf b k cs hbr;have hroom:(Fc ro).room (cs.length+1+0):=room_wide _;simp only [exec] at h;split at h
   ·rename_i F1 H1 h1;obtain ⟨e,a1,w1,⟨hp1,g1,hn1,hr1,hd1⟩,harr⟩:=ihx ro inR loc fg nt base c g F H a w _ _ _ hro h1 hr hL hb hdf b (.inLoop c::k) cs hbr trivial hroom
    cases e<;>simp only [nY] at hp1
    have hr1:=hr1.less fun s x hs=>Ge (lJ (yaG P loc fg nt inR c)) F1 s x hs
    obtain ⟨g2,hn2,hr2,q1,q2,q3⟩:=Rel.gc hn1 hr1;obtain ⟨e2,a2,w2,hq2,harr2⟩:=ihlg ro inR loc fg nt base c g2 _ _ a1 w1 ex F' H' hro h hr2 (hL.nx hn2) (jT hb hn2.size) (hd1.cut q1 q2 q3) b k cs hbr;exact ⟨e2,a2,w2,hq2.trans hn2,.of_steps (StepsIn.trans harr (.one (fenced_calm trivial hroom rfl) stepR_inLoop)) harr2⟩
   ·rename_i hne;obtain ⟨e,a1,w1,hp,harr⟩:=ihx ro inR loc fg nt base c g F H a w _ _ _ hro h hr hL hb hdf b (.inLoop c::k) cs hbr trivial hroom;have hex:ex≠.norm:=fun e=>hne F' H' (by rw [h,e])
    refine ⟨e,a1,w1,hp,.pass (x:=.inLoop c) rfl (fun _ _=>.inl (fun e1=>?_)) harr⟩;subst e1
    cases ex with
    | norm=>exact hex rfl
    | brk k i=>obtain ⟨h1,_⟩:=hp;cases h1
    | _=>exact hp.1.elim
  refine ⟨?_,hloop,hloopG,oi hE ihx⟩;intro ro inR loc fg nt base c;induction c with
  | scope x ihs =>intro g F H a w ex F' H' hro h hr hL hb hdf;simp only [yaG] at h;exact Yf (wpIn_mono (ihs g F H a w ex F' H' hro h hr hL hb hdf) fun e a' w' hp=>hp.noGo)
  | skip =>intro g F H a w ex F' H' hro h hr hL hb hdf;simp only [yaG,exec,bT,Prod.mk.injEq] at h;obtain ⟨rfl,rfl,rfl⟩:=h;exact wpIn_skip ⟨trivial,g,Nx.refl g H w,hr,hdf⟩
  | label l =>intro g F H a w ex F' H' hro h hr hL hb hdf;simp only [yaG,exec,bT,Prod.mk.injEq] at h;obtain ⟨rfl,rfl,rfl⟩:=h;exact wpIn_label ⟨trivial,g,Nx.refl g H w,hr,hdf⟩
  | exit id =>intro g F H a w ex F' H' hro h hr hL hb hdf;simp only [yaG,exec,bT,Prod.mk.injEq] at h;obtain ⟨rfl,rfl,rfl⟩:=h;exact wpIn_exit ⟨rfl,g,Nx.refl g H w,hr,hdf⟩
  | ret =>intro g F H a w ex F' H' hro h hr hL hb hdf;simp only [yaG,exec,bT,Prod.mk.injEq] at h;obtain ⟨rfl,rfl,rfl⟩:=h;exact wpIn_ret ⟨trivial,g,Nx.refl g H w,hr,hdf⟩
  | region id ops draw =>intro g F H a w ex F' H' hro h hr hL hb hdf;simp only [yaG] at h;obtain ⟨rfl,hw⟩:=NZ (ro:=ro) hE ihi (hdraw E hE) hro h hr hL hdf;exact hw
  | seq x y _ _=>
   intro g F H a w ex F' H' hro h hr hL hb hdf;have dflt:exec E (n+1) (.seq (yaG P loc fg nt inR x) (yaG P loc fg nt inR y)) F H=some (ex,F',H')→(Code.seq x y).wpIn (Fc ro) 0 P (yeN E nt base g H w ex F' H') a w:=by
    intro h;simp only [exec] at h;split at h
    ·rename_i F1 H1 h1;refine wpIn_seq (wpIn_mono (ihx ro inR loc fg nt base x g F H a w _ _ _ hro h1 hr hL hb hdf) fun e a1 w1 hp=>?_);obtain ⟨hp1,g1,hn1,hr1,hd1⟩:=hp
     cases e<;>simp only [nY] at hp1
     exact wpIn_mono (ihx ro inR loc fg nt base y g1 F1 H1 a1 w1 _ _ _ hro h hr1 (hL.nx hn1) (jT hb hn1.size) hd1) fun e a' w' hp=>hp.trans hn1
    ·rename_i hne;refine wpIn_seq (wpIn_mono (ihx ro inR loc fg nt base x g F H a w _ _ _ hro h hr hL hb hdf) fun e a1 w1 hp=>?_);have hex:ex≠.norm:=fun e=>hne F' H' (by rw [h,e])
     cases e with
     | normal=>
      cases ex with
      | norm=>exact absurd rfl hex
      | brk k i=>obtain ⟨h1,_⟩:=hp;cases h1
      | _=>exact hp.1.elim
     | _=>exact hp
   unfold yaG at h;split at h
   ·rename_i id ops e;split at h
    ·rename_i c' hy;exact ou hE (fun m hm=>(ih0 m (by omega) E hE).2.2.2) (hdraw E hE) hro hy h hr hL hdf
    ·exact Yh hE (fun m hm=>(ih0 m (by omega) E hE).2.2.2) (hdraw E hE) hro h hr hL hdf
   ·exact dflt h
  | cond x y z _ _=>
   intro g F H a w ex F' H' hro h hr hL hb hdf;simp only [yaG] at h;split at h
   ·rename_i x' hx;simp only [exec] at h;split at h
    ·rename_i hbv;have:=cS hr hx hbv;simp only [VR] at this;exact wpIn_cond_true this (ihx ro inR loc fg nt base y g F H a w _ _ _ hro h hr hL hb hdf)
    ·rename_i hbv;have:=cS hr hx hbv;simp only [VR] at this;exact wpIn_cond_false this (ihx ro inR loc fg nt base z g F H a w _ _ _ hro h hr hL hb hdf)
    ·cases h
   ·simp [exec] at h
  | block id x _=>
   intro g F H a w ex F' H' hro h hr hL hb hdf;simp only [yaG,exec] at h;split at h
   ·rename_i i F1 H1 h1;refine wpIn_block (wpIn_mono (ihx ro inR loc fg nt base x g F H a w _ _ _ hro h1 hr hL hb hdf) fun e a1 w1 hp=>?_);obtain ⟨hp1,hp3⟩:=hp
    cases e<;>simp only [nY] at hp1
    subst hp1;split at h
    ·rename_i hi
     cases h
     simp only [Exit.inBlock,hi,if_true];exact ⟨trivial,hp3⟩
    ·rename_i hi
     cases h
     simp only [Exit.inBlock,hi,if_false];exact ⟨rfl,hp3⟩
   ·rename_i hne;refine wpIn_block (wpIn_mono (ihx ro inR loc fg nt base x g F H a w _ _ _ hro h hr hL hb hdf) fun e a1 w1 hp=>?_)
    cases e with
    | exit j=>
     cases ex with
     | brk k i=>obtain ⟨h1,_⟩:=hp;cases h1
     | exit i=>exact absurd h (hne _ F' H')
     | _=>exact hp.1.elim
    | _=>exact hp
  | loop x _=>
   intro g F H a w ex F' H' hro h hr hL hb hdf b k cs hbr _ hroom;obtain ⟨e,a',w',hq,harr⟩:∃ e a' w',yeN E nt base g H w ex F' H' e a' w'∧ArrivesIn (Machine.fenced P (Fc ro)) P (lone (b.atR a (.code x::.inLoop x::k)) cs w) b k cs e a' w':=by
    simp only [yaG] at h;split at h
    ·exact hloop ro inR loc fg nt base x g F H a w ex F' H' hro h hr hL hb hdf b k cs hbr
    ·exact hloopG ro inR loc fg nt base x g F H a w ex F' H' hro h hr hL hb hdf b k cs hbr
   exact ⟨e,a',w',hq,.of_steps (.one (fenced_calm trivial hroom rfl) stepR_loop) harr⟩
  | rangeFunc gop psA assign body _ _=>
   intro g F H a w ex F' H' hro h hr hL hb hdf;simp only [yaG] at h;split at h
   ·rename_i x hx;split at h
    ·simp [exec] at h
    ·rename_i hin;split at h
     ·rename_i hps;obtain rfl:=hro (by simpa using hin);exact oz hE (fun E' hE'=>(ih0 n (by omega) E' hE').1) hx hps h hr hL hb hdf
     ·simp [exec] at h
   ·simp [exec] at h
  | _ =>intro g F H a w ex F' H' hro h hr hL hb hdf;simp [yaG,exec] at h
end
end Go.Pf
namespace Go.Pf
open Go
def ylB {S O:Type} (run:O→S→Option S):List O→S→Option S
 | [],s=>some s
 | o::r,s=>match run o s with
  | some s'=>ylB run r s'
  | none=>none
section
variable {S L V O:Type} {look:S→L→V} {run:O→S→Option S} {ops:List O} {st:Nat→S} {R W:Nat→L→Prop}
theorem ylC (p:Nat→Prop):∀ k,(∀ i,i<k→¬p i)∨∃ i,i<k∧p i∧∀ j,j<k→p j→j≤i:=by
 intro k;induction k with
 | zero=>exact .inl fun i h=>absurd h (Nat.not_lt_zero i)
 | succ k ih=>
  by_cases h:p k
  ·exact .inr ⟨k,Nat.lt_succ_self k,h,fun j hj _=>Nat.le_of_lt_succ hj⟩
  ·rcases ih with ih | ⟨i,h1,h2,h3⟩
   ·refine .inl fun i hi=>?_
    rcases qA4 i k with h4|h4
    ·exact ih i h4
    ·have:i=k:=by omega
     subst this;exact h
   ·refine .inr ⟨i,by omega,h2,fun j hj hp=>?_⟩;rcases qA4 j k with h4 | h4
    ·exact h3 j h4 hp
    ·have:j=k:=by omega
     subst this;exact absurd hp h
structure Local (look:S→L→V) (run:O→S→Option S) (ops:List O) (st:Nat→S) (R W:Nat→L→Prop):Prop where
 goes:∀ (i:Nat) (o:O),ops[i]?=some o→run o (st i)=some (st (i+1))
 loc:∀ (i:Nat) (o:O),ops[i]?=some o→∀ S',(∀ l,R i l→look S' l=look (st i) l)→∃ T',run o S'=some T'∧(∀ l,W i l→look T' l=look (st (i+1)) l)∧(∀ l,¬W i l→look T' l=look S' l)
theorem Local.keeps (h:Local look run ops st R W) {i:Nat} (hi:i<ops.length) {l:L} (hw:¬W i l):look (st (i+1)) l=look (st i) l:=by
 obtain ⟨T',h1,h2,h3⟩:=h.loc i _ (dU hi) (st i) (fun _ _=>rfl);rw [h.goes i _ (dU hi)] at h1
 cases h1
 exact h3 l hw
theorem Local.since (h:Local look run ops st R W) {l:L} {k:Nat}:∀ m,k+m≤ops.length→(∀ i,k≤i→i<k+m→¬W i l)→look (st (k+m)) l=look (st k) l:=by
 intro m;induction m with
 | zero=>intro _ _;rfl
 | succ m ih =>intro hm hw;have:=h.keeps (i:=k+m) (by omega) (hw _ (by omega) (by omega));rw [← uW,this];exact ih (by omega) fun i h1 h2=>hw i h1 (by omega)
def mQ (R W:Nat→L→Prop) (i j:Nat):Prop:=∀ l,¬(W i l∧(R j l∨W j l))∧¬(W j l∧R i l)
theorem Local.perm (h:Local look run ops st R W):∀ (σ done:List Nat) (T:S),(done++σ).Nodup→(∀ i,i<ops.length↔i∈done++σ) →
  (∀ i j,i<j→(i∈σ∧j∈done∨(∃ a b c,σ=a++j::(b++i::c)))→mQ R W i j) →
  (∀ l,(∀ i∈done,¬W i l)→look T l=look (st 0) l) →
  (∀ l i,i∈done→W i l→(∀ j∈done,W j l→j≤i)→look T l=look (st (i+1)) l) →
  ∃ T',ylB run (σ.filterMap (ops[·]?)) T=some T'∧∀ l,look T' l=look (st ops.length) l
 | [],done,T,hnd,hall,_,ha,hb=>by
  refine ⟨T,rfl,fun l=>?_⟩;rcases ylC (fun i=>W i l) ops.length with h1 | ⟨i,h1,h2,h3⟩
  ·have:=h.since (l:=l) (k:=0) ops.length (by omega) (fun i _ hi=>h1 i (by omega));rw [iK] at this;rw [this];exact ha l fun i hi=>h1 i ((hall i).2 (by simpa using hi))
  ·have hi:i∈done:=by have:=(hall i).1 h1;simpa using this
   rw [hb l i hi h2 fun j hj hw=>h3 j ((hall j).2 (by simpa using hj)) hw];have:=h.since (l:=l) (k:=i+1) (ops.length-(i+1)) (by omega) (fun j h4 h5 hw=>by have:=h3 j (by omega) hw;omega);rw [show i+1+(ops.length-(i+1))=ops.length by omega] at this;exact this.symm
 | j::σ,done,T,hnd,hall,hfree,ha,hb=>by
  have hj:j<ops.length:=(hall j).2 (by simp);have hjd:j∉done:=by intro hx;rw [Dc] at hnd;exact hnd.2.2 j hx j (by simp) rfl
  have later:∀ i,i<ops.length→i∉done→i≠j→i∈σ:=by
   intro i hi h1 h2;have:=(hall i).1 hi;simp only [qAv,qAo] at this;rcases this with h3 | h3 | h3
   ·exact absurd h3 h1
   ·exact absurd h3 h2
   ·exact h3
  have freeLate:∀ i,i<j→i∈σ→mQ R W i j:=by intro i hij hi;obtain ⟨b,c,e⟩:=Ga hi;exact hfree i j hij (.inr ⟨[],b,c,by rw [e];rfl⟩)
  have freeDone:∀ i,j<i→i∈done→mQ R W j i:=fun i hij hi=>hfree j i hij (.inl ⟨by simp,hi⟩)
  have agree:∀ l,R j l→look T l=look (st j) l:=by
   intro l hl;have noBig:∀ i∈done,W i l→i<j:=by
    intro i hi hw;rcases qA4 i j with h1 | h1
    ·exact h1
    ·have hne:i≠j:=fun e=>hjd (e ▸ hi)
     exact absurd ⟨hw,hl⟩ (freeDone i (by omega) hi l).2
   rcases ylC (fun i=>W i l) j with h1|⟨i,h1,h2,h3⟩
   ·have:=h.since (l:=l) (k:=0) j (by omega) (fun i _ hi=>h1 i (by omega));rw [iK] at this;rw [this];exact ha l fun i hi hw=>h1 i (noBig i hi hw) hw
   ·have hi:i∈done:=by
     by_cases hd:i∈done
     ·exact hd
     ·exact absurd ⟨h2,.inl hl⟩ (freeLate i h1 (later i (by omega) hd (by omega)) l).1
    rw [hb l i hi h2 fun k hk hw=>h3 k (noBig k hk hw) hw];have:=h.since (l:=l) (k:=i+1) (j-(i+1)) (by omega) (fun k h4 h5 hw=>by have:=h3 k (by omega) hw;omega);rw [show i+1+(j-(i+1))=j by omega] at this;exact this.symm
  obtain ⟨T',h1,h2,h3⟩:=h.loc j _ (dU hj) T agree;have ih:=Local.perm h σ (done++[j]) T' (by simpa using hnd) (fun i=>by rw [hall i];simp) ?_ ?_ ?_
  ·obtain ⟨T2,h4,h5⟩:=ih;refine ⟨T2,?_,h5⟩;rw [uR,dU hj];simp only [ylB,h1];exact h4
  ·intro i k hik hcase;rcases hcase with ⟨hi,hk⟩ | ⟨a,b,c,e⟩
   ·simp only [qAv,wM] at hk;rcases hk with hk | rfl
    ·exact hfree i k hik (.inl ⟨by simp [hi],hk⟩)
    ·exact freeLate i hik hi
   ·exact hfree i k hik (.inr ⟨j::a,b,c,by rw [e];rfl⟩)
  ·intro l hl;rw [h3 l (hl j (by simp))];exact ha l fun i hi=>hl i (by simp [hi])
  ·intro l i hi hw hmax;simp only [qAv,wM] at hi
   by_cases hwj:W j l
   ·have hle:=hmax j (by simp) hwj;rcases hi with hi | rfl
    ·have hne:i≠j:=fun e=>hjd (e ▸ hi)
     exact absurd ⟨hwj,.inr hw⟩ (freeDone i (by omega) hi l).1
    ·exact h2 l hw
   ·rcases hi with hi | rfl
    ·rw [h3 l hwj];exact hb l i hi hw fun k hk hkw=>hmax k (by simp [hk]) hkw
    ·exact absurd hw hwj
end
def tA (o:Oper):List Nat:=o.after.toList.filterMap fun e=>if Region.binds .any e then some e.on else none
theorem Yk {p q:Nat→Bool}:∀ (l:List Nat) (i:Nat),i∈l→p i=true→q i=false→(∀ j,q j=true→p j=true)→l.countP q<l.countP p
 | [],i,h,_,_,_=>by simp at h
 | x::l,i,h,hp,hq,himp=>by
  have hle:l.countP q≤l.countP p:=List.countP_mono_left fun j _=>himp j
  simp only [List.countP_cons];rcases qAo.1 h with rfl | h
  ·rw [hp,hq];simp;omega
  ·have:=Yk l i h hp hq himp
   cases hqx:q x
   ·simp;omega
   ·rw [himp x hqx];simp;exact this
theorem Yl (ops:Array Oper) (hback:∀ (i:Nat) (o:Oper),ops[i]?=some o→∀ k∈tA o,k<i) :
  ∀ (fuel t:Nat) (listed:Array Bool),listed.size=ops.size→(List.range ops.size).countP (fun i=>!listed.getD i true)≤fuel →
   (∀ i,(i<ops.size∧listed.getD i true=false)↔i∈Region.linearise.go .any ops fuel t listed [])∧(Region.linearise.go .any ops fuel t listed []).Nodup ∧
   ∀ a j b,Region.linearise.go .any ops fuel t listed []=a++j::b→∀ o,ops[j]?=some o→∀ k∈tA o,listed.getD k false=true∨k∈a:=by
 intro fuel;induction fuel with
 | zero =>intro t listed hsz hc;simp only [Region.linearise.go,List.reverse_nil];refine ⟨fun i=>⟨fun ⟨h1,h2⟩=>?_,fun h=>by simp at h⟩,List.nodup_nil,fun a j b e=>by simp at e⟩;have:=List.countP_eq_zero.1 (Nat.le_zero.1 hc) i (by simpa using h1);simp [h2] at this
 | succ fuel ih=>
  intro t listed hsz hc;simp only [Region.linearise.go];change (∀ i,(i<ops.size∧listed.getD i true=false)↔i∈(match (Region.ready .any ops listed)[t%(Region.ready .any ops listed).length]? with
   | some i=>Region.linearise.go .any ops fuel (t/(Region.ready .any ops listed).length) (listed.setIfInBounds i true) [i]
   | none=>[].reverse))∧List.Nodup (match (Region.ready .any ops listed)[t%(Region.ready .any ops listed).length]? with
   | some i=>Region.linearise.go .any ops fuel (t/(Region.ready .any ops listed).length) (listed.setIfInBounds i true) [i]
   | none=>[].reverse)∧∀ a j b,(match (Region.ready .any ops listed)[t%(Region.ready .any ops listed).length]? with
   | some i=>Region.linearise.go .any ops fuel (t/(Region.ready .any ops listed).length) (listed.setIfInBounds i true) [i]
   | none=>[].reverse)=a++j::b→∀ o,ops[j]?=some o→∀ k∈tA o,listed.getD k false=true∨k∈a
  have hready:∀ i,i∈Region.ready .any ops listed↔i<ops.size∧listed.getD i true=false∧∀ o,ops[i]?=some o→∀ k∈tA o,listed.getD k false=true:=by
   intro i;simp only [Region.ready,List.mem_filter,qY,bO,jR];refine and_congr_right fun hi=>and_congr_right fun hl=>?_
   have hoi:ops[i]?=some ops[i]:=by simp [hi]
   rw [hoi];simp only [Option.map_some,wP,Array.all_eq_true',nR,jR,bT,forall_eq'];constructor
   ·intro h k hk;simp only [tA,List.mem_filterMap] at hk;obtain ⟨e,he,hk⟩:=hk;split at hk
    ·rename_i hb
     cases hk
     rcases h e (by simpa using he) with h1|h1
     ·rw [hb] at h1;cases h1
     ·exact h1
    ·cases hk
   ·intro h e he
    by_cases hb:Region.binds .any e=true
    ·right;refine h e.on ?_;simp only [tA,List.mem_filterMap];exact ⟨e,by simpa using he,by rw [WM hb]⟩
    ·left;simpa using hb
  cases hi:(Region.ready .any ops listed)[t%(Region.ready .any ops listed).length]? with
  | none=>
   have hnil:Region.ready .any ops listed=[]:=by
    cases hr:Region.ready .any ops listed with
    | nil=>rfl
    | cons x xs =>rw [hr] at hi;have hlt:t%(x::xs).length<(x::xs).length:=Nat.mod_lt _ (by simp);simp at hi;simp at hlt;omega
   simp only [List.reverse_nil];have none_left:∀ i,¬(i<ops.size∧listed.getD i true=false):=by
    intro i;induction i using Nat.strongRecOn with
    | _ i ihi=>
     rintro ⟨h1,h2⟩;have:i∈Region.ready .any ops listed:=(hready i).2 ⟨h1,h2,fun o ho k hk=>by
      have hki:=hback i o ho k hk;have:=ihi k hki;have hks:k<listed.size:=by omega
      have h3:listed.getD k true=true:=by
       cases h4:listed.getD k true
       ·exact absurd ⟨by omega,h4⟩ this
       ·rfl
      simpa [Array.getD,hks] using h3⟩
     rw [hnil] at this
     cases this
   exact ⟨fun i=>⟨fun h=>(none_left i h).elim,fun h=>by simp at h⟩,List.nodup_nil,fun a j b e=>by simp at e⟩
  | some i=>
   simp only [];rw [linearise_go_acc,List.reverse_singleton,List.singleton_append];have him:=(hready i).1 (FX hi);obtain ⟨hi1,hi2,hi3⟩:=him;have hset:∀ k d,k≠i→(listed.setIfInBounds i true).getD k d=listed.getD k d:=by
    intro k d hk;simp only [sJ,Jf];rw [WN (fun e=>hk e.symm)]
   have hself:∀ d,(listed.setIfInBounds i true).getD i d=true:=by intro d;simp [hsz,hi1]
   have hcount:(List.range ops.size).countP (fun k=>!(listed.setIfInBounds i true).getD k true)≤fuel:=by
    have:=Yk (p:=fun k=>!listed.getD k true) (q:=fun k=>!(listed.setIfInBounds i true).getD k true) (List.range ops.size) i (by simpa using hi1) (by simp [hi2]) (by simp [hself]) (fun j hj=>by
     by_cases e:j=i
     ·subst e;simp [hself] at hj
     ·rw [hset j true e] at hj;exact hj)
    omega
   obtain ⟨h1,h2,h3⟩:=ih (t/(Region.ready .any ops listed).length) (listed.setIfInBounds i true) (by simpa using hsz) hcount;refine ⟨fun k=>?_,?_,?_⟩
   ·rw [qAo,← h1 k]
    by_cases e:k=i
    ·subst e;simp [hi1,hi2]
    ·rw [hset k true e];simp [e]
   ·rw [zA];refine ⟨fun hm=>?_,h2⟩;have:=(h1 i).2 hm;rw [hself] at this
    cases this.2
   ·intro a j b e o ho k hk
    cases a with
    | nil =>simp only [pH,kJ] at e;obtain ⟨rfl,_⟩:=e;exact .inl (hi3 o ho k hk)
    | cons x a=>
     simp only [wO,kJ] at e;obtain ⟨rfl,e⟩:=e;rcases h3 a j b e o ho k hk with h4 | h4
     ·by_cases hki:k=i
      ·subst hki;right;simp
      ·rw [hset k false hki] at h4;exact .inl h4
     ·right;simp [h4]
def nG (l:List Nat) (F F':aD):Prop:=∀ s∈l,fget F' s=fget F s
theorem Gw {a b:List Nat} {F F':aD}:nG (a++b) F F'↔nG a F F'∧nG b F F':=by simp only [nG,qAv];exact ⟨fun h=>⟨fun s hs=>h s (.inl hs),fun s hs=>h s (.inr hs)⟩,fun h s hs=>hs.elim (h.1 s) (h.2 s)⟩
section
variable {E:Env} {F F':aD} {H H' H1:Hp} {call:Nat→List PV→Hp→Option (PV×Hp)}
theorem Bh {x:Opd} (h:nG x.slots F F'):ev E F' x=ev E F x:=by
 cases x with
 | t s=>simp only [ev,h s (by simp [Opd.slots])]
 | _=>rfl
theorem fR {x:Opd} (h:nG x.slots F F'):evV E F' x=evV E F x:=by simp only [evV,Bh h]
theorem Bi {x:Opd} (h:nG x.slots F F'):yey E F' x=yey E F x:=by simp only [yey,fR h]
theorem Oc {x:Option Opd} (h:nG (Jh x) F F'):nS E F' x=nS E F x:=by
 cases x with
 | none=>rfl
 | some x=>simp only [nS,Bi (show nG x.slots F F' from h)]
theorem DM:∀ (l:List Opd),nG (qZ l) F F'→evs E F' l=evs E F l
 | [],_=>rfl
 | x::r,h=>by simp only [qZ,Gw] at h;simp only [evs,fR h.1,DM r h.2]
theorem Ym:∀ (l:List (Nat×Nat×Opd)) (cs:List PV),nG (Ji l) F F'→ylv E F' cs l=ylv E F cs l
 | [],_,_=>rfl
 | (o,z,x)::r,cs,h=>by
  simp only [Ji,Gw] at h;simp only [ylv,fR h.1];split
  ·split
   ·exact Ym r _ h.2
   ·rfl
  ·rfl
theorem JR {pu:Bool} {esz:Nat}:∀ (l:List (Nat×Opd)) (rows:List PV) (H:Hp),nG (Dn l) F F'→yhl E F' pu esz rows H l=yhl E F pu esz rows H l
 | [],_,_,_=>rfl
 | (i,x)::r,rows,H,h=>by
  simp only [Dn,Gw] at h;simp only [yhl,fR h.1];split
  ·split
   ·split
    ·exact JR r _ _ h.2
    ·rfl
   ·rfl
  ·rfl
theorem Yn {x:Opd} {s off:Nat} (h:nG (rB E F x) F F') (e:ev E F x=some (.bp s off)):fget F' s=fget F s:=by apply h;simp [rB,e]
theorem pd {op:AOp} (h:nG (aR E F H op).rd F F'):yas E call F' H op=yas E call F H op:=by
 cases op<;>simp only [aR,Gw] at h<;>simp only [yas]
 case mv x=>simp only [fR h]
 case mvD x=>simp only [fR h]
 case pick c a b=>simp only [fR h.1,fR h.2.1,fR h.2.2]
 case boxL x=>simp only [fR h]
 case boxH x=>simp only [fR h]
 case build ps=>simp only [Ym _ _ h]
 case bSl ps=>simp only [JR _ _ _ h]
 case buildN ps=>simp only [JR _ _ _ h]
 case bD ps=>simp only [JR _ _ _ h]
 case load agg sz x=>
  rw [Bh h.1];split
  ·rename_i s off e;rw [Yn h.2 e]
  all_goals simp_all
 case store sz x y=>
  rw [fR h.2.1,Bh h.1];split
  ·split
   ·rename_i s off e;rw [Yn h.2.2 e]
   all_goals simp_all
  ·rfl
 case bin x y=>simp only [fR h.1,fR h.2]
 case eqB x y=>simp only [fR h.1,fR h.2]
 case eqA x y=>simp only [fR h.1,fR h.2]
 case eqN x=>simp only [fR h]
 case un x=>simp only [fR h]
 case conv x=>simp only [fR h]
 case mkFn a b=>simp only [DM _ h.1,DM _ h.2]
 case mkSl l c=>simp only [Bi h.1,Bi h.2]
 case slc x lo hi mx=>simp only [fR h.1,Oc h.2.1,Oc h.2.2.1,Oc h.2.2.2]
 case slcA x=>simp only [Bh h]
 case fad x=>simp only [Bh h.1]
 case fld x=>simp only [fR h]
 case iad x i=>simp only [fR h.1,Bi h.2]
 case iadA x i=>simp only [Bh h.1,Bi h.2.1]
 case idx x i=>simp only [fR h.1,Bi h.2]
 case ext x i=>simp only [fR h]
 case call f az=>simp only [fR h.1,DM _ h.2]
 case len x=>simp only [fR h]
 case cap x=>simp only [fR h]
 case app s x=>simp only [fR h.1,fR h.2]
 case appZ s n=>simp only [fR h.1,Bi h.2]
 case clr x=>simp only [fR h]
 case minmax l=>simp only [DM _ h]
 case nilchk x=>simp only [Bh h.1]
structure EffI (ids:List Nat) (H H1 H' H1':Hp):Prop where
 inn:∀ id∈ids,H1'[id]?=H1[id]?
 out:∀ id,id∉ids→H1[id]?=H[id]?∧H1'[id]?=H'[id]?
 len:H1.length=H.length∧H1'.length=H'.length
theorem EffI.refl {ids:List Nat} (h:∀ id∈ids,H'[id]?=H[id]?):EffI ids H H H' H':=⟨h,fun _ _=>⟨rfl,rfl⟩,rfl,rfl⟩
theorem EffI.trans {ids:List Nat} {H1' H2 H2':Hp} (h:EffI ids H H1 H' H1') (k:EffI ids H1 H2 H1' H2'):EffI ids H H2 H' H2':=
 ⟨k.inn,fun id hi=>⟨(k.out id hi).1.trans (h.out id hi).1,(k.out id hi).2.trans (h.out id hi).2⟩,k.len.1.trans h.len.1,k.len.2.trans h.len.2⟩
theorem EffI.mono {ids ids':List Nat} {H1':Hp} (h:EffI ids H H1 H' H1') (hs:∀ id∈ids,id∈ids') (ha:∀ id∈ids',H'[id]?=H[id]?):EffI ids' H H1 H' H1':=by
 refine ⟨fun id hi=>?_,fun id hi=>h.out id (fun hx=>hi (hs id hx)),h.len⟩
 by_cases hx:id∈ids
 ·exact h.inn id hx
 ·rw [(h.out id hx).1,(h.out id hx).2];exact ha id hi
theorem EffI.set {ids:List Nat} {id:Nat} {b:HB} (ha:∀ i∈ids,H'[i]?=H[i]?) (hi:id∈ids):EffI ids H (H.set id b) H' (H'.set id b):=by
 refine ⟨fun k hk=>?_,fun k hk=>?_,by simp,by simp⟩
 ·rw [Gc,Gc];have hlen:id<H'.length↔id<H.length:=by
   have:=ha id hi;constructor<;>intro h1
   ·rcases qA4 id H.length with h2 | h2
    ·exact h2
    ·rw [jI h2,dU h1] at this;cases this
   ·rcases qA4 id H'.length with h2 | h2
    ·exact h2
    ·rw [jI h2,dU h1] at this;cases this
  split
  ·simp only [hlen]
  ·exact ha k hk
 ·have hne:id≠k:=fun e=>hk (e ▸ hi)
  rw [pG hne,pG hne];exact ⟨rfl,rfl⟩
theorem Od {p q:PV} (ha:∀ id∈eE p,H'[id]?=H[id]?) (h:yfB H p=some (q,H1)):∃ H1',yfB H' p=some (q,H1')∧EffI (eE p) H H1 H' H1':=by
 cases p<;>simp only [yfB] at h ⊢ <;> first
  | (simp only [bT,Prod.mk.injEq] at h;obtain ⟨rfl,rfl⟩:=h;exact ⟨_,rfl,EffI.refl ha⟩)
  | (cases h;done)
  | skip
 case own id lo len ext cap=>
  have hid:=ha id (by simp [eE]);rw [hid];split at h
  ·rename_i b hb;split at h
   ·rename_i hc
    cases h
    exact ⟨_,WM hc,EffI.set ha (by simp [eE])⟩
   ·cases h
  ·cases h
theorem Yo:∀ (l ps:List PV) (H H' H1:Hp),(∀ id∈lI l,H'[id]?=H[id]?)→yeq H l=some (ps,H1)→∃ H1',yeq H' l=some (ps,H1')∧EffI (lI l) H H1 H' H1'
 | [],ps,H,H',H1,ha,h=>by simp only [yeq,bT,Prod.mk.injEq] at h;obtain ⟨rfl,rfl⟩:=h;exact ⟨_,rfl,EffI.refl ha⟩
 | x::r,ps,H,H',H1,ha,h=>by
  simp only [yeq] at h;split at h
  ·rename_i y H2 hy;split at h
   ·rename_i ys H3 hys
    cases h
    have ha1:∀ id∈eE x,H'[id]?=H[id]?:=fun id hi=>ha id (by simp [lI,hi])
    obtain ⟨H2',e2,k2⟩:=Od ha1 hy;have k2':EffI (lI (x::r)) H H2 H' H2':=k2.mono (fun id hi=>by simp [lI,hi]) ha;obtain ⟨H3',e3,k3⟩:=Yo r ys H2 H2' _ (fun id hi=>k2'.inn id (by simp [lI,hi])) hys;refine ⟨H3',by simp only [yeq,e2,e3],k2'.trans (k3.mono (fun id hi=>by simp [lI,hi]) k2'.inn)⟩
   ·cases h
  ·cases h
theorem DN {p q:PV} (ha:∀ id∈cO p,H'[id]?=H[id]?) (h:yca H p=some (q,H1)):∃ H1',yca H' p=some (q,H1')∧EffI (cO p) H H1 H' H1':=by
 cases p with
 | agg cs=>
  simp only [yca,mI] at h ⊢;obtain ⟨⟨ys,H2⟩,hys,e⟩:=h
  cases e
  obtain ⟨H1',e1,k⟩:=Yo cs ys H H' _ ha hys;exact ⟨H1',⟨⟨ys,H1'⟩,e1,rfl⟩,k⟩
 | _=>simp only [cO] at ha ⊢;simp only [yca] at h ⊢;exact Od ha h
theorem Yp:∀ (l ps:List PV) (H2:Hp),fJ l=[]→ybd [] l=some (ps,H2)→∀ H,ybd H l=some (ps,H)
 | [],ps,H2,_,h,H=>by simp only [ybd,bT,Prod.mk.injEq] at h;obtain ⟨rfl,_⟩:=h;rfl
 | x::r,ps,H2,hi,h,H=>by
  simp only [fJ,List.append_eq_nil_iff] at hi;simp only [ybd] at h;split at h
  ·rename_i y H3 hy;split at h
   ·rename_i ys H4 hys
    cases h
    have hp:∀ H,yca H x=some (y,H):=by
     intro H;obtain ⟨H5,e5,k5⟩:=DN (H':=H) (fun id hx=>by rw [hi.1] at hx;cases hx) hy;have:H5=H:=qV fun k=>(k5.out k (by rw [hi.1];simp)).2
     rw [e5,this]
    have h3:H3=[]:=by have:=hp [];rw [hy] at this;cases this;rfl
    subst h3;simp only [ybd,hp H,Yp r ys _ hi.2 hys H]
   ·cases h
  ·cases h
structure Eff (p:FP) (H H1 H' H1':Hp):Prop where
 all:p.all=true→H1'=H1
 inn:p.all=false→∀ id∈p.hw,H1'[id]?=H1[id]?
 out:p.all=false→∀ id,id∉p.hw→H1[id]?=H[id]?∧H1'[id]?=H'[id]?
 push:p.push=true→H1'.length=H1.length
 len:p.push=false→p.all=false→H1.length=H.length∧H1'.length=H'.length
structure AgH (p:FP) (H H':Hp):Prop where
 ids:∀ id,id∈p.hr∨id∈p.hw→H'[id]?=H[id]?
 push:p.push=true→H'.length=H.length
 all:p.all=true→H'=H
theorem Eff.same {p:FP} (ha:AgH p H H'):Eff p H H H' H':=
 ⟨fun h=>ha.all h,fun _ id hi=>ha.ids id (.inr hi),fun _ _ _=>⟨rfl,rfl⟩,fun h=>ha.push h,fun _ _=>⟨rfl,rfl⟩⟩
theorem Eff.ofI {p:FP} {H1':Hp} (hall:p.all=false) (ha:AgH p H H') (k:EffI p.hw H H1 H' H1'):Eff p H H1 H' H1':=
 ⟨fun h=>(by rw [hall] at h;cases h),fun _=>k.inn,fun _=>k.out,fun h=>by rw [k.len.1,k.len.2];exact ha.push h,fun _ _=>k.len⟩
theorem Eff.pushI {p:FP} {H1':Hp} {b:HB} (hall:p.all=false) (hp:p.push=true) (hlen:H.length∈p.hw) (ha:AgH p H H') (k:EffI p.hw H H1 H' H1'):Eff p H (H1++[b]) H' (H1'++[b]):=by
 have hl:=ha.push hp;obtain ⟨l1,l2⟩:=k.len;refine ⟨fun h=>(by rw [hall] at h;cases h),fun _ id hi=>?_,fun _ id hi=>?_,fun _=>by simp [l1,l2,hl],fun h=>(by rw [hp] at h;cases h)⟩
 ·rw [pF,pF,l1,l2,hl];split
  ·exact k.inn id hi
  ·rfl
 ·have hne:id≠H.length:=fun e=>hi (e ▸ hlen)
  obtain ⟨h1,h2⟩:=k.out id hi;rw [pF,pF,l1,l2,hl]
  by_cases hlt:id<H.length
  ·rw [WM hlt,WM hlt];exact ⟨h1,h2⟩
  ·rw [WN hlt,WN hlt];have e1:[b][id-H.length]?=none:=jI (by simp;omega);rw [e1,jI (l:=H) (by omega),jI (l:=H') (by omega)];exact ⟨rfl,rfl⟩
theorem JS {pu:Bool} {esz:Nat}:∀ (l:List (Nat×Opd)) (rows rows':List PV) (H H' H1:Hp),(∀ id∈nE E F l,H'[id]?=H[id]?)→yhl E F pu esz rows H l=some (rows',H1) →
  ∃ H1',yhl E F pu esz rows H' l=some (rows',H1')∧EffI (nE E F l) H H1 H' H1'
 | [],rows,rows',H,H',H1,ha,h=>by simp only [yhl,bT,Prod.mk.injEq] at h;obtain ⟨rfl,rfl⟩:=h;exact ⟨_,rfl,EffI.refl ha⟩
 | (i,x)::r,rows,rows',H,H',H1,ha,h=>by
  simp only [yhl] at h ⊢;split at h
  ·rename_i p hp;have hids:kY E F x=cO p:=by
    unfold evV at hp;split at hp
    ·rename_i q hq;cases hp;simp [kY,hq]
    ·cases hp
   have key:∀ {q H2},(if pu then yca H p else some (p,H))=some (q,H2)→∃ H2',(if pu then yca H' p else some (p,H'))=some (q,H2')∧EffI (nE E F ((i,x)::r)) H H2 H' H2':=by
    intro q H2 hq
    cases pu
    ·simp only [gE,if_false,bT,Prod.mk.injEq] at hq ⊢;obtain ⟨rfl,rfl⟩:=hq;exact ⟨H',⟨rfl,rfl⟩,EffI.refl ha⟩
    ·simp only [if_true] at hq ⊢;obtain ⟨H2',e,k⟩:=DN (H':=H') (fun id hi=>ha id (by simp [nE,hids,hi])) hq;exact ⟨H2',e,k.mono (fun id hi=>by simp [nE,hids,hi]) ha⟩
   split at h
   ·rename_i q H2 hq;split at h
    ·rename_i hc;obtain ⟨H2',e2,k2⟩:=key hq;obtain ⟨H3',e3,k3⟩:=JS r _ rows' H2 H2' H1 (fun id hi=>k2.inn id (by simp [nE,hi])) h;refine ⟨H3',?_,k2.trans (k3.mono (fun id hi=>by simp [nE,hi]) k2.inn)⟩;rw [e2];simp only [hc];exact e3
    ·cases h
   ·cases h
  ·cases h
theorem zY {x:Opd} {p:PV} (h:evV E F x=some p):kY E F x=cO p:=by
 unfold evV at h;split at h
 ·rename_i q hq;cases h;simp [kY,hq]
 ·cases h
theorem pe {p:PV} (ha:∀ id∈cO p,H'[id]?=H[id]?):yiw H' p=yiw H p:=by
 cases p<;>simp only [yiw]
 case own id lo len ext cap=>rw [ha id (by simp [cO,eE])]
theorem pf {p:PV} {pu:Bool} (ha:∀ id∈cO p,H'[id]?=H[id]?):vC H' pu p=vC H pu p:=by
 cases p<;>simp only [vC]
 case own id lo len ext cap=>rw [ha id (by simp [cO,eE])]
theorem pg {p:PV} {esz:Nat} {lo hi mx:Option Int} (ha:∀ id∈cO p,H'[id]?=H[id]?):yix H' esz lo hi mx p=yix H esz lo hi mx p:=by
 cases p<;>simp only [yix]
 case own id lo0 len ext cap=>rw [ha id (by simp [cO,eE])]
theorem JT {p:FP} {pu:Bool} {esz bytes:Nat} {rows:List PV} {r:PV} (hall:p.all=false) (hp:p.push=true) (hlen:H.length∈p.hw) (ha:AgH p H H') (h:ydm H pu esz bytes rows=some (r,H1)) :
  ∃ H1',ydm H' pu esz bytes rows=some (r,H1')∧Eff p H H1 H' H1':=by
 unfold ydm at h ⊢;split at h
 ·rename_i hc
  cases h
  rw [WM hc,ha.push hp];exact ⟨_,rfl,Eff.pushI hall hp hlen ha (EffI.refl fun id hi=>ha.ids id (.inr hi))⟩
 ·cases h
theorem ph {p:FP} {pu:Bool} {esz bytes k:Nat} {z s r:PV} (hall:p.all=false) (hp:p.push=true) (hlen:H.length∈p.hw) (ha:AgH p H H') (h:appZ H pu esz bytes z s k=some (r,H1)) :
  ∃ H1',appZ H' pu esz bytes z s k=some (r,H1')∧Eff p H H1 H' H1':=by
 unfold appZ at h ⊢;split at h
 ·split at h
  ·rename_i he;cases h;rw [WM he];exact ⟨_,rfl,Eff.same ha⟩
  ·rename_i he;rw [WN he];exact JT hall hp hlen ha h
 ·cases h
theorem pi {p:FP} {pu:Bool} {esz:Nat} {z s:PV} (hall:p.all=false) (hs:∀ id∈cO s,id∈p.hw) (ha:AgH p H H') (h:clrV H pu esz z s=some H1) :
  ∃ H1',clrV H' pu esz z s=some H1'∧Eff p H H1 H' H1':=by
 unfold clrV at h ⊢;split at h
 ·cases h;exact ⟨_,rfl,Eff.same ha⟩
 ·cases h;exact ⟨_,rfl,Eff.same ha⟩
 ·cases h;exact ⟨_,rfl,Eff.same ha⟩
 ·rename_i id lo len ext cap;have hm:id∈p.hw:=hs id (by simp [cO,eE]);split at h
  ·cases h;exact ⟨_,rfl,Eff.same ha⟩
  ·rw [ha.ids id (.inr hm)];split at h
   ·rename_i b hb;split at h
    ·rename_i hc
     cases h
     rw [WM hc];exact ⟨_,rfl,Eff.ofI hall ha (EffI.set (fun k hk=>ha.ids k (.inr hk)) hm)⟩
    ·cases h
   ·cases h
 ·cases h
theorem pj {p:FP} {pu:Bool} {esz bytes:Nat} {s x r:PV} (hall:p.all=false) (hp:p.push=true) (hlen:H.length∈p.hw) (hs:∀ id∈cO s,id∈p.hw) (hx:∀ id∈cO x,id∈p.hw) (ha:AgH p H H') (h:appV H pu esz bytes s x=some (r,H1)) :
  ∃ H1',appV H' pu esz bytes s x=some (r,H1')∧Eff p H H1 H' H1':=by
 have has:∀ id∈cO s,H'[id]?=H[id]?:=fun id hi=>ha.ids id (.inr (hs id hi))
 have hax:∀ id∈cO x,H'[id]?=H[id]?:=fun id hi=>ha.ids id (.inr (hx id hi))
 unfold appV at h ⊢;rw [pe hax,pf hax];split at h
 ·cases h
 ·rename_i ys hys;split at h
  ·rename_i hc;rw [WM hc]
   cases s with
   | nils=>
    simp only [] at h ⊢;split at h
    ·rename_i he;cases h;rw [WM he];exact ⟨_,rfl,Eff.same ha⟩
    ·rename_i he;rw [WN he];exact JT hall hp hlen ha h
   | emp=>
    simp only [] at h ⊢;split at h
    ·rename_i he;cases h;rw [WM he];exact ⟨_,rfl,Eff.same ha⟩
    ·rename_i he;rw [WN he];exact JT hall hp hlen ha h
   | own id lo len ext cap=>
    simp only [] at h ⊢;rw [has id (by simp [cO,eE])];split at h
    ·rename_i b hb;split at h
     ·rename_i hc2;rw [WM hc2];split at h
      ·rename_i he;cases h;rw [WM he];exact ⟨_,rfl,Eff.same ha⟩
      ·rename_i he;rw [WN he];have hset:∀ b',Eff p H (H.set id b') H' (H'.set id b'):=fun b'=>Eff.ofI hall ha (EffI.set (fun k hk=>ha.ids k (.inr hk)) (hs id (by simp [cO,eE])))
       unfold nC at h ⊢;split at h
       ·split at h
        ·rename_i h1;split at h
         ·rename_i h2;cases h;rw [WM h1,WM h2];exact ⟨_,rfl,hset _⟩
         ·cases h
        ·rename_i h1;rw [WN h1];exact JT hall hp hlen ha h
       ·split at h
        ·cases h
        ·rename_i h1;rw [WN h1];split at h
         ·rename_i h2;cases h;rw [WM h2];exact ⟨_,rfl,hset _⟩
         ·rename_i h2;split at h
          ·rename_i h3;cases h;rw [WN h2,WM h3];exact ⟨_,rfl,hset _⟩
          ·cases h
     ·cases h
    ·cases h
   | _=>simp only [] at h;cases h
  ·cases h
theorem rK {p:PV} {out:Out} (h:outV p H=some out):out=⟨some (.v p),none,H⟩:=by simp only [outV,bT] at h;exact h.symm
theorem Yq {p:PV} {id:Nat} (h:id∈eE p):id∈cO p:=by cases p<;>first | exact h | simp [eE] at h
theorem mR {p:FP} {x:PV} {out:Out} (ha:AgH p H H') (h:outV x H=some out):∃ H1',outV x H'=some ⟨out.x,out.bx,H1'⟩∧Eff p H out.h H' H1':=by rw [rK h];exact ⟨H',rfl,Eff.same ha⟩
theorem Yr {v:PV} {p:Nat×PV} (hv:locY v=some p):∀ (l:List PV) (j:Nat),l[j]?=some v→fJ l≠[]
 | [],j,e=>by simp at e
 | x::r,0,e=>by
  simp at e;subst e
  cases x<;>simp [locY] at hv<;>simp [fJ,cO,eE]
 | x::r,j+1,e=>by simp at e;simp only [fJ];intro h;exact Yr hv r j e (List.append_eq_nil_iff.1 h).2
theorem Ys {n:Nat} {first captured av:List PV} (h:fJ (first++av++captured)=[]):ype E (.fn (.func n) first captured) av=none:=by
 unfold ype;simp only
 cases E.lo n with
 | none=>rfl
 | some j=>
  simp only;split
  ·rename_i hj;split
   ·rename_i hy;exact absurd h (Yr hy _ _ hj)
   ·rfl
  ·rfl
theorem pl {f:Opd} {az:List Opd} {fv:PV} {av:List PV} {r:PV} {H1:Hp} (hq:vG E F f az=true) (hf:evV E F f=some fv) (hav:evs E F az=some av) (hc:ylw E call fv av H=some (r,H1)):H1=H∧∀ H',ylw E call fv av H'=some (r,H'):=by
 unfold vG at hq;rw [hf,hav] at hq;split at hq
 ·rename_i n first captured vs h1 h2
  cases h1;cases h2
  simp only [bO,yX,nR,jR] at hq;obtain ⟨hrb,hi,hs⟩:=hq;have key:∃ ps H2,ybd [] (first++av++captured)=some (ps,H2)∧∃ r',ycH E call n ps=some r':=by
   rcases hs with hs|hs
   ·simp only [ylw,Ys hi,pK,hrb,gE,if_false] at hc;split at hc
    ·rename_i x hx;split at hx
     ·rename_i az' H3 hp;split at hx
      ·rename_i r' hr';have:∃ H2,ybd [] (first++av++captured)=some (az',H2):=by
        have hgo:∀ (l ps:List PV) (H H2:Hp),fJ l=[]→ybd H l=some (ps,H2)→∃ H3,ybd [] l=some (ps,H3):=by
         intro l;induction l with
         | nil=>intro ps H H2 _ e;simp only [ybd,bT,Prod.mk.injEq] at e;exact ⟨[],by simp [ybd,e.1]⟩
         | cons x r ih=>
          intro ps H H2 hi e;simp only [fJ,List.append_eq_nil_iff] at hi;simp only [ybd] at e;split at e
          ·rename_i y H4 hy;split at e
           ·rename_i ys H5 hys
            cases e
            obtain ⟨H6,e6,k6⟩:=DN (H':=[]) (fun id hx=>by rw [hi.1] at hx;cases hx) hy;have h6:H6=[]:=CV (by rw [k6.len.2];rfl);subst h6;obtain ⟨H7,e7⟩:=ih ys _ _ hi.2 hys;exact ⟨H7,by simp only [ybd,e6,e7]⟩
           ·cases e
          ·cases e
        exact hgo _ _ _ _ hi hp
       obtain ⟨H2,h2⟩:=this;exact ⟨az',H2,h2,r',hr'⟩
      ·cases hx
     ·cases hx
    ·rw [WM hs] at hc;cases hc
   ·split at hs
    ·rename_i ps H2 hp;obtain ⟨r',hr'⟩:=wH.1 hs;exact ⟨ps,H2,hp,r',by simp only [ycH,hr']⟩
    ·cases hs
  obtain ⟨ps,H2,hp,r',hr'⟩:=key;have all:∀ H,ylw E call (.fn (.func n) first captured) av H=some (r',H):=by
   intro H;have:=Yp _ _ _ hi hp H;simp only [ylw,Ys hi,pK,hrb,gE,if_false,this,hr']
   cases r'.scalar<;>rfl
  rw [all H] at hc
  cases hc
  exact ⟨rfl,all⟩
 ·cases hq
theorem pm {op:AOp} {out:Out} (ha:AgH (aR E F H op) H H') (h:yas E call F H op=some out):∃ H1',yas E call F H' op=some ⟨out.x,out.bx,H1'⟩∧Eff (aR E F H op) H out.h H' H1':=by
 have single:∀ {x bx},out=⟨x,bx,H⟩→(∃ H1',(some ⟨x,bx,H'⟩:Option Out)=some ⟨out.x,out.bx,H1'⟩∧Eff (aR E F H op) H out.h H' H1'):=by rintro x bx rfl;exact ⟨H',rfl,Eff.same ha⟩
 have shut:∀ {o:Out},some o=some out→o=out:=fun e=>by cases e;rfl
 cases op
 case aH pu esz z=>
  simp only [yas,bT] at h ⊢;subst h;have hl:=ha.push rfl;rw [hl];exact ⟨_,rfl,Eff.pushI rfl rfl (by simp [aR]) ha (EffI.refl fun id hi=>ha.ids id (.inr hi))⟩
 case boxH pu esz x=>
  simp only [yas] at h ⊢;split at h
  ·rename_i p hp;have hids:=zY hp;have key:∀ {q H2},(if pu then yca H p else some (p,H))=some (q,H2)→∃ H2',(if pu then yca H' p else some (p,H'))=some (q,H2')∧EffI (aR E F H (.boxH pu esz x)).hw H H2 H' H2':=by
    intro q H2 hq
    cases pu
    ·simp only [gE,if_false,bT,Prod.mk.injEq] at hq ⊢;obtain ⟨rfl,rfl⟩:=hq;exact ⟨H',⟨rfl,rfl⟩,EffI.refl fun id hi=>ha.ids id (.inr hi)⟩
    ·simp only [if_true] at hq ⊢;obtain ⟨H2',e,k⟩:=DN (H':=H') (fun id hi=>ha.ids id (.inr (by simp [aR,hids,hi]))) hq;exact ⟨H2',e,k.mono (fun id hi=>by simp [aR,hids,hi]) fun id hi=>ha.ids id (.inr hi)⟩
   split at h
   ·rename_i q H2 hq;split at h
    ·rename_i hc
     cases h
     obtain ⟨H2',e2,k2⟩:=key hq;have hl:=ha.push rfl;rw [e2];simp only [];rw [WM hc];have:H2'.length=H2.length:=by rw [k2.len.1,k2.len.2,hl]
     rw [this];exact ⟨_,rfl,Eff.pushI rfl rfl (by simp [aR]) ha k2⟩
    ·cases h
   ·cases h
  ·cases h
 case bSl pu esz z len ps=>
  simp only [yas] at h ⊢;split at h
  ·rename_i hz;rw [WM hz];exact mR ha h
  ·rename_i hz;rw [WN hz];have hw:(aR E F H (.bSl pu esz z len ps)).hw=H.length::nE E F ps:=by simp [aR,hz]
   have hpush:(aR E F H (.bSl pu esz z len ps)).push=true:=by simp [aR,hz]
   split at h
   ·rename_i rows H2 hf;rw [rK h];obtain ⟨H2',e2,k2⟩:=JS _ _ _ _ H' _ (fun id hi=>ha.ids id (.inr (by rw [hw];simp [hi]))) hf;have hl:=ha.push hpush;rw [e2];have:H2'.length=H2.length:=by rw [k2.len.1,k2.len.2,hl]
    simp only [this];exact ⟨_,rfl,Eff.pushI rfl hpush (by rw [hw];simp) ha (k2.mono (fun id hi=>by rw [hw];simp [hi]) fun id hi=>ha.ids id (.inr hi))⟩
   ·cases h
 case buildN pu esz z len ps=>
  simp only [yas] at h ⊢;split at h
  ·rename_i hz;rw [WM hz];exact mR ha h
  ·rename_i hz;rw [WN hz];have hw:(aR E F H (.buildN pu esz z len ps)).hw=H.length::nE E F ps:=by simp [aR,hz]
   have hpush:(aR E F H (.buildN pu esz z len ps)).push=true:=by simp [aR,hz]
   split at h
   ·rename_i rows H2 hf;rw [rK h];obtain ⟨H2',e2,k2⟩:=JS _ _ _ _ H' _ (fun id hi=>ha.ids id (.inr (by rw [hw];simp [hi]))) hf;have hl:=ha.push hpush;rw [e2];have:H2'.length=H2.length:=by rw [k2.len.1,k2.len.2,hl]
    simp only [this];exact ⟨_,rfl,Eff.pushI rfl hpush (by rw [hw];simp) ha (k2.mono (fun id hi=>by rw [hw];simp [hi]) fun id hi=>ha.ids id (.inr hi))⟩
   ·cases h
 case mvD x=>
  simp only [yas] at h ⊢;split at h
  ·rename_i p hp;have hids:=zY hp;split at h
   ·rename_i rows H2 hq;rw [rK h];obtain ⟨H2',e,k⟩:=Od (H':=H') (fun id hi=>ha.ids id (.inr (by simpa [aR,hids] using Yq hi))) hq;rw [e];exact ⟨_,rfl,Eff.ofI rfl ha (k.mono (fun id hi=>by simpa [aR,hids] using Yq hi) fun id hi=>ha.ids id (.inr hi))⟩
   ·cases h
  ·cases h
 case bD esz z len ps=>
  simp only [yas] at h ⊢;split at h
  ·rename_i hz;rw [WM hz];exact mR ha h
  ·rename_i hz;rw [WN hz];split at h
   ·rename_i rows H2 hf;rw [rK h];obtain ⟨H2',e2,k2⟩:=JS _ _ _ _ H' _ (fun id hi=>ha.ids id (.inr (by simpa [aR] using hi))) hf;rw [e2];exact ⟨_,rfl,Eff.ofI rfl ha (k2.mono (fun id hi=>by simpa [aR] using hi) fun id hi=>ha.ids id (.inr hi))⟩
   ·cases h
 case mkSl pu esz bytes z l c=>
  simp only [yas] at h ⊢;split at h
  ·split at h
   ·rename_i hc;rw [WM hc,rK h,ha.push rfl];exact ⟨_,rfl,Eff.pushI rfl rfl (by simp [aR]) ha (EffI.refl fun id hi=>ha.ids id (.inr hi))⟩
   ·cases h
  ·cases h
 case load agg sz x=>
  simp only [yas] at h ⊢;split at h
  ·split at h
   ·split at h
    ·exact mR ha h
    ·cases h
   ·cases h
  ·split at h
   ·split at h
    ·exact mR ha h
    ·cases h
   ·cases h
  ·rename_i id ext i off he;have hid:H'[id]?=H[id]?:=ha.ids id (.inl (by simp [aR,kY,he,cO,eE]));rw [hid];split at h
   ·split at h
    ·rename_i hc;rw [WM hc];split at h
     ·split at h
      ·exact mR ha h
      ·cases h
     ·cases h
    ·cases h
   ·cases h
  ·cases h
 case store sz x y=>
  simp only [yas] at h ⊢;split at h
  ·rename_i p hp;split at h
   ·split at h
    ·split at h
     ·exact single (shut h).symm
     ·cases h
    ·cases h
   ·rename_i id ext i off he;have hidm:id∈(aR E F H (.store sz x y)).hw:=by simp [aR,kY,he,cO,eE]
    have hid:H'[id]?=H[id]?:=ha.ids id (.inr hidm);rw [hid];split at h
    ·rename_i b0 hb0;have hids:=zY hp;have key:∀ {q H2},(if b0.pu then yca H p else some (p,H))=some (q,H2)→∃ H2',(if b0.pu then yca H' p else some (p,H'))=some (q,H2')∧EffI (aR E F H (.store sz x y)).hw H H2 H' H2':=by
      intro q H2 hq
      by_cases hpu:b0.pu=true
      case neg=>
       rw [WN hpu] at hq ⊢;simp only [bT,Prod.mk.injEq] at hq ⊢;obtain ⟨rfl,rfl⟩:=hq;exact ⟨H',⟨rfl,rfl⟩,EffI.refl fun id hi=>ha.ids id (.inr hi)⟩
      case pos=>
       rw [WM hpu] at hq ⊢;obtain ⟨H2',e,k⟩:=DN (H':=H') (fun id hi=>ha.ids id (.inr (by simp [aR,hids,hi]))) hq;exact ⟨H2',e,k.mono (fun id hi=>by simp [aR,hids,hi]) fun id hi=>ha.ids id (.inr hi)⟩
     split at h
     ·rename_i q H2 hq;obtain ⟨H2',e2,k2⟩:=key hq;rw [e2];simp only [];rw [k2.inn id hidm];split at h
      ·rename_i b hb;split at h
       ·rename_i hc;rw [WM hc];split at h
        ·split at h
         ·cases h
          exact ⟨_,rfl,Eff.ofI rfl ha (k2.trans (EffI.set k2.inn hidm))⟩
         ·cases h
        ·cases h
       ·cases h
      ·cases h
     ·cases h
    ·cases h
   ·cases h
  ·cases h
 case slc esz x lo hi mx=>
  simp only [yas] at h ⊢;split at h
  ·rename_i p l hh m hp _ _ _;split at h
   ·cases h
   ·rename_i hc;rw [WN hc,pg (fun id hi=>ha.ids id (.inl (by simp [aR,zY hp,hi])))];split at h
    ·exact mR ha h
    ·cases h
  ·cases h
 case iad esz x i=>
  simp only [yas] at h ⊢;split at h
  ·split at h
   ·rename_i hc;rw [WM hc];split at h
    ·split at h
     ·rename_i hc2;rw [WM hc2];exact mR ha h
     ·cases h
    ·cases h
   ·cases h
  ·rename_i id lo len ext cap n hp hn;have hid:H'[id]?=H[id]?:=ha.ids id (.inl (by simp [aR,zY hp,cO,eE]));split at h
   ·rename_i hc;rw [WM hc,hid];split at h
    ·split at h
     ·rename_i hc2;rw [WM hc2];exact mR ha h
     ·cases h
    ·cases h
   ·cases h
  ·split at h
   ·rename_i hc;rw [WM hc];exact mR ha h
   ·cases h
  ·cases h
 case call f az=>
  by_cases hq:vG E F f az=true
  ·simp only [yas] at h ⊢;split at h
   ·rename_i fv av hf hav;split at h
    ·rename_i r H2 hc;obtain ⟨rfl,hr⟩:=pl hq hf hav hc;rw [hr];exact mR ha h
    ·cases h
   ·cases h
  ·have hall:(aR E F H (.call f az)).all=true:=by simp [aR,hq]
   have:=ha.all hall;subst this;exact ⟨out.h,h,⟨fun _=>rfl,fun e=>(by rw [hall] at e;cases e),fun e=>(by rw [hall] at e;cases e),fun _=>rfl,fun _ e=>(by rw [hall] at e;cases e)⟩⟩
 case app pu esz bytes s x=>
  simp only [yas] at h ⊢;split at h
  ·rename_i sv xv hs hx;split at h
   ·rename_i r H2 hap;obtain ⟨H2',e2,k2⟩:=pj (H':=H') (p:=aR E F H (.app pu esz bytes s x)) rfl rfl (by simp [aR]) (fun id hi=>by simp [aR,zY hs,hi]) (fun id hi=>by simp [aR,zY hx,hi]) ha hap;rw [e2,rK h];exact ⟨_,rfl,k2⟩
   ·cases h
  ·cases h
 case appZ pu esz bytes z s n=>
  simp only [yas] at h ⊢;split at h
  ·rename_i sv k hs hn;split at h
   ·rename_i h0;rw [WM h0];split at h
    ·rename_i r H2 hap;obtain ⟨H2',e2,k2⟩:=ph (H':=H') (p:=aR E F H (.appZ pu esz bytes z s n)) rfl rfl (by simp [aR]) ha hap;rw [e2,rK h];exact ⟨_,rfl,k2⟩
    ·cases h
   ·cases h
  ·cases h
 case clr pu esz z x=>
  simp only [yas] at h ⊢;split at h
  ·rename_i sv hs;split at h
   ·rename_i H2 hap;obtain ⟨H2',e2,k2⟩:=pi (H':=H') (p:=aR E F H (.clr pu esz z x)) rfl (fun id hi=>by simp [aR,zY hs,hi]) ha hap;rw [e2,rK h];exact ⟨_,rfl,k2⟩
   ·cases h
  ·cases h
 case bad=>simp [yas] at h
 case eqB neg x y=>
  simp only [yas] at h ⊢;split at h
  ·exact mR ha h
  ·cases h
 case eqA neg sz idx x y=>
  simp only [yas] at h ⊢;split at h
  ·split at h
   ·rename_i hc;rw [WM hc];split at h
    ·exact mR ha h
    ·cases h
   ·cases h
  ·cases h
 case idx agg n esz x i=>
  simp only [yas] at h ⊢;split at h
  ·split at h
   ·rename_i hc;rw [WM hc];split at h
    ·exact mR ha h
    ·cases h
   ·cases h
  ·cases h
 case eqN neg x=>
  simp only [yas] at h ⊢;split at h<;>first | exact mR ha h | cases h
 all_goals
  simp only [yas] at h ⊢
  repeat' split at h
 all_goals first
  | (cases h;done)
  | exact mR ha h
  | exact single (shut h).symm
  | (rename_i hc;rw [WM hc];first | exact mR ha h | exact single (shut h).symm)
  | skip
theorem pn (op:AOp) (H H':Hp):(aR E F H op).rd=(aR E F H' op).rd:=by cases op<;>rfl
theorem Yt {op:AOp} {out:Out} {s:Nat} {row:PV} (h:yas E call F H op=some out) (hb:out.bx=some (s,row)):s∈(aR E F H op).wr∧∃ row0,fget F s=some (.box row0):=by
 have hv:∀ {p:PV} {H},outV p H=some out→False:=fun e=>by rw [rK e] at hb;cases hb
 cases op<;>simp only [yas] at h
 case store sz x y=>
  split at h
  ·split at h
   ·rename_i s' off e;split at h
    ·rename_i row0 hrow;split at h
     ·cases h
      simp only [bT,Prod.mk.injEq] at hb;obtain ⟨rfl,_⟩:=hb;exact ⟨by simp [aR,rB,e],row0,hrow⟩
     ·cases h
    ·cases h
   all_goals (repeat' split at h)
   all_goals first | (cases h;done) | (cases h;cases hb;done)
  ·cases h
 all_goals (repeat' split at h)
 all_goals first | (cases h;done) | exact (hv h).elim | (cases h;cases hb;done)
theorem po (op:AOp) (s:Nat) (h:s∈(aR E F H op).wr):s∈(aR E F H op).rd:=by
 cases op<;>simp only [aR] at h ⊢ <;> first | (cases h;done) | skip
 simp [h]
theorem Oe {x:Opd} {s off:Nat} (h:ev E F x=some (.bp s off)):(∃ row,fget F s=some (.box row))∨noBp F s=false:=by
 cases x with
 | t k=>
  simp only [ev] at h;split at h
  ·rename_i row hrow
   cases h
   exact .inl ⟨row,hrow⟩
  ·right;have key:∀ F:aD,fget F k=some (.bp s off)→noBp F s=false:=by
    intro F;induction F with
    | nil=>intro e;simp [fget] at e
    | cons a r ih=>
     obtain ⟨j,x⟩:=a;intro e;simp only [fget] at e;split at e
     ·cases e;simp [noBp]
     ·have:=ih e
      cases x<;>simp [noBp,this]
   exact key F h
 | c v=>simp [ev] at h
 | g n=>simp only [ev] at h;split at h<;>simp at h
 | f n=>simp [ev] at h
end
end Go.Pf
