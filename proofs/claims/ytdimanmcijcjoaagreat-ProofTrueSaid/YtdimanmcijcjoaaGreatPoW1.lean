/- Part 1. -/
import Derived.Test.YtdimanmcijcjoaaGreatPoW0
open Go.IntKind (i64 u8 u64)
open List (length getD take drop replicate set map isEmpty)
noncomputable section
namespace Go.Pf
open Go Go.RowKit
section
variable {P:Program} {E:Env} {nt:Nat} {g g':Gh} {F:aG} {H H':Hp} {a:Act} {tmps:Array Value} {w w':World} {o:Oper} {out:Out}
theorem R3 {t ty e:TypeId} {i:TypeInfo} (hu:P.underlying t=some (.slice e)) (hi:P.info? e=some i) {b o sLen sCap b2 o2 n c:Nat} {news:List Value} {cur:Array Value} {T:TypeId} (hc:w.heap[b]?=some (.cells cur T (0,0)))
  (hl:news.length=n*i.size) (hat:At w b2 o2 news) (h1:∀ u∈news,u.oneCell'=true) (hle:sLen+n≤sCap) (hfit:o+sLen*i.size+news.length≤cur.size) :
  (Builtin.append_ #[t,t] ty #[.slice (some ⟨b,o,none⟩) sLen sCap,.slice (some ⟨b2,o2,none⟩) n c]).run P w=.ok (.slice (some ⟨b,o,none⟩) (sLen+n) sCap) (w.setRow b (eC cur.toList (o+sLen*i.size) news).toArray):=by
 have hf:=run_firstCells_some (P:=P) w i.size n ⟨b2,o2,none⟩ n c news hl hat.addr;have hst:=run_storeCells_at P b (o+sLen*i.size) T news 0 cur w hc (by simpa using hfit) h1;simp only [sF,rX] at hst;simp [Builtin.append_,run_underlying hu,sizeOf,typeInfo,hi,Builtin.lenOf,hle,hf,oC,hst,eC]
theorem Ln (hr:Rel E nt g F H tmps w) {t ty e:TypeId} {sz bytes:Nat} {pu pu':Bool} {z:PV} {olds ys:List PV} {base:Option Addr} {sLen sCap b2 o2 c:Nat} {oc news:List Value} {q:PV×Hp}
  (hu:P.underlying t=some (.slice e)) (hs:ydh P e=some sz) (hby:oB P e=some bytes) (hz:ycN P e=some (pu',z)) (hq:ydf H pu sz bytes (olds++ys)=some q) (hol:olds.length=sLen)
  (hlo:fC g H w pu sz olds oc) (hlo2:oc.length=sLen*sz) (hln:fC g H w pu sz ys news) (hln2:news.length=ys.length*sz) (hatn:At w b2 o2 news) (hk:ys≠[]) (hgt:sCap<sLen+ys.length)
  (hbase:(base=none∧sLen=0∧sCap=0)∨∃ ba,base=some ba∧∀ j v,oc[j]?=some v→w.cell? (ba.add j)=some v) :
  ∃ v w' g',(Builtin.append_ #[t,t] ty #[.slice base sLen sCap,.slice (some ⟨b2,o2,none⟩) ys.length c]).run P w=.ok v w'∧Nx g g' H q.2 w w'∧Rel E nt g' F q.2 tmps w'∧VR g' q.2 w' q.1 v:=by
 obtain ⟨_,hpos,i0,hi0,hi0s⟩:=lB (P:=P) (w:=w) hs;have hbytes:i0.bytes=bytes:=by unfold oB at hby;rw [hi0] at hby;cases hby;rfl
 obtain ⟨i1,v0,hi1,hv0,_,_,_⟩:=xK (P:=P) (g:=g) (H:=H) (w:=w) hz;rw [hi0] at hi1;cases hi1;unfold ydf at hq;split at hq
 ·rename_i hroom
  cases hq
  have hrows:(olds++ys).length=sLen+ys.length:=by rw [hO,hol]
  rw [hrows] at hroom;have hr45:(sLen+ys.length+64)*(bytes+1)≤35184372088832:=hroom;have hneed:sLen+ys.length≤35184372088832:=by
   have:sLen+ys.length+64≤(sLen+ys.length+64)*(bytes+1):=wS _ (by omega);omega
  have hnb:(sLen+ys.length)*bytes≤35184372088832:=jB (Af (by omega) (by omega)) hr45;have hkp:0<ys.length:=List.length_pos_iff.2 hk;have hsz0:news.length=ys.length*i0.size:=by rw [hln2,hi0s]
  let nc:=grownCap w (sLen+ys.length) sCap e;have hge:sLen+ys.length≤nc:=grownCap_ge w _ _ _;have hcm:nc≤maxLen:=grownCap_le_maxLen w _ _ _ (by unfold maxLen;omega);have hrun:(Builtin.append_ #[t,t] ty #[.slice base sLen sCap,.slice (some ⟨b2,o2,none⟩) ys.length c]).run P w=.ok (.slice (some ⟨w.heap.size,0,none⟩) (sLen+ys.length) nc) (w.drew.alloc (.cells (oc++news++(Builtin.zeroCells v0.cells (nc-(sLen+ys.length))).toList).toArray e)):=by
   rcases hbase with ⟨rfl,rfl,rfl⟩|⟨ba,rfl,holds⟩
   ·have hoc:oc=[]:=jA (by simpa using hlo2);subst hoc;have:=run_append_nil (P:=P) w t ty e i0 v0 hu hi0 hv0 ⟨b2,o2,none⟩ ys.length c news hsz0 hatn.addr hkp (by omega) (by rw [hbytes];simp only [iA] at hnb;omega);simp only [iA] at this ⊢;rw [this];simp only [nc,iA,rY];congr 2;simp
   ·have:=run_append_grow (P:=P) w t ty e i0 v0 hu hi0 hv0 ba sLen sCap oc (by rw [hlo2,hi0s]) holds ⟨b2,o2,none⟩ ys.length c news hsz0 hatn.addr hgt (by omega) (growslice_fits (by omega) (by rw [hbytes];omega));rw [this];simp only [nc];congr 2;simp
  obtain ⟨r1,n1⟩:Rel E nt g F H tmps w.drew∧Nx g g H H w w.drew:=⟨hr.drew,Nx.drew g H w⟩;have hl:=(hlo.append (rest:=(Builtin.zeroCells v0.cells (nc-(sLen+ys.length))).toList) (by rw [hlo2,hol]) hln).on n1.on;have hlen1:oc.length+news.length=(sLen+ys.length)*sz:=by rw [hlo2,hln2,cQ]
  have hsegl:∀ i x,(olds++ys)[i]?=some x→(cR (oc++news++(Builtin.zeroCells v0.cells (nc-(sLen+ys.length))).toList) (i*sz) sz).length=sz:=by intro i x hx;have hi:=Ap hx;rw [hrows] at hi;apply xL;have:(i+1)*sz≤(sLen+ys.length)*sz:=eL _ hi;rw [cQ,gI] at this;simp only [hO];omega
  obtain ⟨g2,r2,n2,hρ⟩:=r1.newBlk (hb:=⟨false,pu,sz,olds++ys⟩) (cs:=(oc++news++(Builtin.zeroCells v0.cells (nc-(sLen+ys.length))).toList).toArray) (T:=e) hpos rfl (by simpa using hl.1)
   (fun i x hx=>⟨_,hsegl i x hx,(hl.2 i x hx).1,by rw [hsegl i x hx];rfl⟩)
   (fun hp i x hx=>⟨_,hsegl i x hx,(hl.2 i x hx).2 hp,by rw [hsegl i x hx];rfl⟩)
  refine ⟨_,_,g2,hrun,n1.trans n2,r2,?_⟩;simp only [VR];have hzc:v0.cells.size=sz:=by
   have:=Ch hz hs (w:=w) (v:=v0) (by simp [zeroValue,typeInfo,hi0,hv0]);exact this
  refine ⟨⟨false,pu,sz,olds++ys⟩,_,nc,by simp,by simp,by rw [hrows],by rw [hrows];exact hge,hcm,(fun c0 e0=>by cases e0),fun _=>?_⟩;refine ⟨w.heap.size,0,hρ,by omega,fun _=>by simp,by simp only [kZ,hrows];omega,_,e,qM w.drew _,?_⟩;simp only [iA,Ab,hO,wY,Builtin.zeroCells,Array.size_map,Array.size_range,hzc];have:nc*sz=(sLen+ys.length)*sz+(nc-(sLen+ys.length))*sz:=by rw [← cQ];congr 1;omega
  omega
 ·cases hq
theorem R4 (hr:Rel E nt g F H tmps w) {t ty e:TypeId} {sz:Nat} {id b o lo len _ext sCap b2 o2 c:Nat} {cap:Option Nat} {hb:HB} {rows' ys:List PV} {news:List Value} {cur:Array Value} {T:TypeId}
  (hu:P.underlying t=some (.slice e)) (hs:ydh P e=some sz) (hid:H[id]?=some hb) (hf:hb.fz=false) (hρ:g.ρ id=some (b,o)) (hcu:w.heap[b]?=some (.cells cur T (0,0))) (hesz:hb.esz=sz)
  (hln:fC g H w hb.pu sz ys news) (hln2:news.length=ys.length*sz) (hatn:At w b2 o2 news) (hle:len+ys.length≤sCap) (hfit:o+(lo+len+ys.length)*sz≤cur.size) (hlo:lo+len≤hb.rows.length)
  (hrows:rows'=hb.rows.take (lo+len)++(ys++hb.rows.drop (lo+len+ys.length))) (hmax:sCap≤maxLen) (hcc:∀ c0,cap=some c0→sCap=c0)
  (hcap:kZ lo sCap rows'.length cap) (hroom:o+(lo+sCap)*sz≤cur.size) (hbl:o+hb.rows.length*sz≤cur.size) :
  ∃ v w',(Builtin.append_ #[t,t] ty #[.slice (some ⟨b,o+lo*sz,none⟩) len sCap,.slice (some ⟨b2,o2,none⟩) ys.length c]).run P w=.ok v w'∧Nx g g H (H.set id { hb with rows:=rows' }) w w' ∧
   Rel E nt g F (H.set id { hb with rows:=rows' }) tmps w'∧VR g (H.set id { hb with rows:=rows' }) w' (.own id lo (len+ys.length) rows'.length cap) v:=by
 obtain ⟨_,hpos,i0,hi0,hi0s⟩:=lB (P:=P) (w:=w) hs;have hmulfit:(lo+len+ys.length)*sz=(lo+len)*sz+ys.length*sz:=cQ ..;have hoff:o+lo*sz+len*sz=o+(lo+len)*sz:=by rw [cQ];omega
 have hspl:o+(lo+len)*sz+news.length≤cur.toList.length:=by simp;omega
 have hrun:=R3 (P:=P) (t:=t) (ty:=ty) hu hi0 (b:=b) (o:=o+lo*sz) (sLen:=len) (sCap:=sCap) (c:=c) hcu (by rw [hln2,hi0s]) hatn (fC.one hpos hln hln2) hle (by rw [hi0s,hoff];simpa using hspl);rw [hi0s,hoff] at hrun;have hrl:rows'.length=max hb.rows.length (lo+len+ys.length):=by rw [hrows];simp only [hO,iW,iX];omega
 obtain ⟨b',o',hblk⟩:=hr.heap id hb hid;have hat:=hblk.at_;rw [hρ] at hat;cases hat
 have hsegs:∀ j y,rows'[j]?=some y→∃ us,us.length=hb.esz∧aX g H w y us∧(hb.pu=true→RC g.I w y us)∧cR (eC cur.toList (o+(lo+len)*sz) news) (o+j*hb.esz) hb.esz=us:=by
  intro j y hj;rw [hesz];rw [hrows,nU] at hj;have old:∀ j y,hb.rows[j]?=some y→(j<lo+len∨lo+len+ys.length≤j)→∃ us,us.length=sz∧aX g H w y us∧(hb.pu=true→RC g.I w y us)∧cR (eC cur.toList (o+(lo+len)*sz) news) (o+j*sz) sz=us:=by
   intro j y hj hd;obtain ⟨us,hu1,hu2,hu3⟩:=oA hb.rows hb.esz b o j y hblk.rows hj;rw [hesz] at hu1 hu3;refine ⟨us,hu1,hu2,fun hp=>?_,?_⟩
   ·obtain ⟨us2,hv2,hrc2,hat2⟩:=mB hb.rows hb.esz b o j y (hblk.pure hp) hj;rw [hesz] at hv2 hat2;have:us2=us:=by
     have e5:=At.to_cells hcu hat2;have e6:=At.to_cells hcu hu3;rw [hv2] at e5;rw [hu1] at e6;rw [← e5,← e6]
    subst this;exact hrc2
   ·have hd':o+j*sz+sz≤o+(lo+len)*sz∨o+(lo+len)*sz+news.length≤o+j*sz:=by
     rcases hd with h1|h1
     ·left;have:(j+1)*sz≤(lo+len)*sz:=eL _ h1;rw [cQ,gI] at this;omega
     ·right;have:(lo+len+ys.length)*sz≤j*sz:=eL _ h1;omega
    rw [HC hspl hd'];have e6:=At.to_cells hcu hu3;rw [hu1] at e6;exact e6
  split at hj
  ·rename_i hlt';rw [oX] at hj;split at hj
   ·exact old j y hj (.inl (by assumption))
   ·cases hj
  ·rename_i hge;have htl:(hb.rows.take (lo+len)).length=lo+len:=by rw [iW];omega
   rw [htl] at hj hge;rw [nU] at hj;split at hj
   ·rename_i hlt2;obtain ⟨h1,h2⟩:=hln.2 _ y hj;have hmul:(j-(lo+len))*sz+sz≤ys.length*sz:=by
     have:(j-(lo+len)+1)*sz≤ys.length*sz:=eL _ hlt2
     rwa [cQ,gI] at this
    have hjm:j*sz=(lo+len)*sz+(j-(lo+len))*sz:=by rw [← cQ];congr 1;omega
    refine ⟨cR news ((j-(lo+len))*sz) sz,xL (by omega),h1,h2,?_⟩;apply oZ;intro k;rw [pJ,pJ]
    by_cases hk:k<sz
    ·rw [Sj hk,Sj hk,Cd hspl,Sk (by omega),Sj (by omega)];congr 1;omega
    ·rw [Sk hk,Sk hk]
   ·rename_i hge2;rw [oY] at hj;have e:lo+len+ys.length+(j-(lo+len)-ys.length)=j:=by omega
    rw [e] at hj;exact old j y hj (.inr (by omega))
 have hfit':o+rows'.length*hb.esz≤cur.size:=by
  rw [hesz,hrl];rcases Nat.le_total hb.rows.length (lo+len+ys.length) with h1 | h1
  ·rw [Nat.max_eq_right h1];exact hfit
  ·rw [Nat.max_eq_left h1];exact hbl
 obtain ⟨r2,n2⟩:=hr.setBlk (cs:=(eC cur.toList (o+(lo+len)*sz) news).toArray) (rows':=rows') hid hf hρ hcu (by simp [pI hspl]) (by omega) (by simpa [pI hspl] using hfit')
  (fun j y hj=>by
   obtain ⟨us,h1,h2,h3,h4⟩:=hsegs j y hj;exact ⟨us,h1,h2,by rw [h1];exact h4⟩)
  (fun hp j y hj=>by
   obtain ⟨us,h1,h2,h3,h4⟩:=hsegs j y hj;exact ⟨us,h1,h3 hp,by rw [h1];exact h4⟩)
 refine ⟨_,_,hrun,n2,r2,?_⟩;simp only [VR];refine ⟨{ hb with rows:=rows' },_,sCap,by rw [wT (hlt hid)],bW _,rfl,hle,hmax,hcc,fun _=>?_⟩;refine ⟨b,o,hρ,by omega,fun _=>by rw [hesz],hcap,_,T,setRow_heap w b cur _ T (0,0) hcu,?_⟩;simp only [Ab,pI hspl,wY,hesz];exact hroom
theorem R5 (hr:Rel E nt g F H tmps w) {sz:Nat} {id b o lo:Nat} {hb:HB} {rows' ys:List PV} {news:List Value} {cur:Array Value} {T:TypeId}
  (hid:H[id]?=some hb) (hf:hb.fz=false) (hρ:g.ρ id=some (b,o)) (hcu:w.heap[b]?=some (.cells cur T (0,0))) (hesz:hb.esz=sz)
  (hln:fC g H w hb.pu sz ys news) (hln2:news.length=ys.length*sz) (hlo:lo+ys.length≤hb.rows.length)
  (hrows:rows'=hb.rows.take lo++(ys++hb.rows.drop (lo+ys.length))) (hbl:o+hb.rows.length*sz≤cur.size) :
  Nx g g H (H.set id { hb with rows:=rows' }) w (w.setRow b (eC cur.toList (o+lo*sz) news).toArray)∧Rel E nt g F (H.set id { hb with rows:=rows' }) tmps (w.setRow b (eC cur.toList (o+lo*sz) news).toArray):=by
 have hmulfit:(lo+ys.length)*sz=lo*sz+ys.length*sz:=cQ ..;have hmulle:(lo+ys.length)*sz≤hb.rows.length*sz:=eL _ hlo;have hspl:o+lo*sz+news.length≤cur.toList.length:=by simp;omega
 have hrl:rows'.length=hb.rows.length:=by rw [hrows];simp only [hO,iW,iX];omega
 obtain ⟨b',o',hblk⟩:=hr.heap id hb hid;have hat:=hblk.at_;rw [hρ] at hat;cases hat
 have hsegs:∀ j y,rows'[j]?=some y→∃ us,us.length=hb.esz∧aX g H w y us∧(hb.pu=true→RC g.I w y us)∧cR (eC cur.toList (o+lo*sz) news) (o+j*hb.esz) hb.esz=us:=by
  intro j y hj;rw [hesz];rw [hrows,nU] at hj;have old:∀ j y,hb.rows[j]?=some y→(j<lo∨lo+ys.length≤j)→∃ us,us.length=sz∧aX g H w y us∧(hb.pu=true→RC g.I w y us)∧cR (eC cur.toList (o+lo*sz) news) (o+j*sz) sz=us:=by
   intro j y hj hd;obtain ⟨us,hu1,hu2,hu3⟩:=oA hb.rows hb.esz b o j y hblk.rows hj;rw [hesz] at hu1 hu3;refine ⟨us,hu1,hu2,fun hp=>?_,?_⟩
   ·obtain ⟨us2,hv2,hrc2,hat2⟩:=mB hb.rows hb.esz b o j y (hblk.pure hp) hj;rw [hesz] at hv2 hat2;have:us2=us:=by
     have e5:=At.to_cells hcu hat2;have e6:=At.to_cells hcu hu3;rw [hv2] at e5;rw [hu1] at e6;rw [← e5,← e6]
    subst this;exact hrc2
   ·have hd':o+j*sz+sz≤o+lo*sz∨o+lo*sz+news.length≤o+j*sz:=by
     rcases hd with h1|h1
     ·left;have:(j+1)*sz≤lo*sz:=eL _ h1;rw [cQ,gI] at this;omega
     ·right;have:(lo+ys.length)*sz≤j*sz:=eL _ h1;omega
    rw [HC hspl hd'];have e6:=At.to_cells hcu hu3;rw [hu1] at e6;exact e6
  split at hj
  ·rename_i hlt';rw [oX] at hj;split at hj
   ·exact old j y hj (.inl (by assumption))
   ·cases hj
  ·rename_i hge;have htl:(hb.rows.take lo).length=lo:=by rw [iW];omega
   rw [htl] at hj hge;rw [nU] at hj;split at hj
   ·rename_i hlt2;obtain ⟨h1,h2⟩:=hln.2 _ y hj;have hmul:(j-lo)*sz+sz≤ys.length*sz:=by
     have:(j-lo+1)*sz≤ys.length*sz:=eL _ hlt2
     rwa [cQ,gI] at this
    have hjm:j*sz=lo*sz+(j-lo)*sz:=by rw [← cQ];congr 1;omega
    refine ⟨cR news ((j-lo)*sz) sz,xL (by omega),h1,h2,?_⟩;apply oZ;intro k;rw [pJ,pJ]
    by_cases hk:k<sz
    ·rw [Sj hk,Sj hk,Cd hspl,Sk (by omega),Sj (by omega)];congr 1;omega
    ·rw [Sk hk,Sk hk]
   ·rename_i hge2;rw [oY] at hj;have e:lo+ys.length+(j-lo-ys.length)=j:=by omega
    rw [e] at hj;exact old j y hj (.inr (by omega))
 obtain ⟨r2,n2⟩:=hr.setBlk (cs:=(eC cur.toList (o+lo*sz) news).toArray) (rows':=rows') hid hf hρ hcu (by simp [pI hspl]) (by omega) (by rw [hrl,hesz];simpa [pI hspl] using hbl)
  (fun j y hj=>by
   obtain ⟨us,h1,h2,h3,h4⟩:=hsegs j y hj;exact ⟨us,h1,h2,by rw [h1];exact h4⟩)
  (fun hp j y hj=>by
   obtain ⟨us,h1,h2,h3,h4⟩:=hsegs j y hj;exact ⟨us,h1,h3 hp,by rw [h1];exact h4⟩)
 exact ⟨n2,r2⟩
theorem R6 (hr:Rel E nt g F H a.tmps w) {c:Call} {s x:Operand} {s' x':Opd} {t e:TypeId} {pu:Bool} {sz bytes:Nat} {z:PV} (ho:o.op=.call c) (hc:c.callee=.builtin .append) (hargs:c.args.toList=[s,x]) (hts:c.argTypes.toList=[t,t])
  (hu:P.underlying t=some (.slice e)) (hs:ydh P e=some sz) (hby:oB P e=some bytes) (hz:ycN P e=some (pu,z)) (hsx:opd s=some s') (hx:opd x=some x') {call} (h:yar E call F H (.app pu sz bytes s' x')=some out) :
  bM E nt g F H a.tmps w out ((execOp a.eval o).run P w):=by
 obtain ⟨_,hpos,i0,hi0,hi0s⟩:=lB (P:=P) (w:=w) hs;have ha:c.args=#[s,x]:=by rw [← pA];simpa using hargs
 have ht:c.argTypes=#[t,t]:=by rw [← pA];simpa using hts
 have fin:∀ {q:PV×Hp} {v:Value} {w':World} {g':Gh},(Builtin.append_ #[t,t] o.type #[a.eval s,a.eval x]).run P w=.ok v w'→Nx g g' H q.2 w w'→Rel E nt g' F q.2 a.tmps w'→VR g' q.2 w' q.1 v→bM E nt g F H a.tmps w ⟨some (.v q.1),none,q.2⟩ ((execOp a.eval o).run P w):=by intro q v w' g' hrun hn hr' hv;refine ⟨v,w',g',.inl ?_,hn,hr',hv⟩;simp [execOp,ho,resolve,hc,ha,ht,invoke,builtin,hrun]
 simp only [yar] at h;split at h
 ·rename_i p q hp hq;have hvs:=dN hr hsx hp;have hvx:=dN hr hx hq;split at h
  ·rename_i r H1 happ;rw [cV h];unfold appV at happ;split at happ
   ·cases happ
   ·rename_i ys hys;split at happ
    ·rename_i hcnd;obtain ⟨ad,c2,news,e1,_,_,hnl,hlie,hat⟩:=R2 hr hpos hvx hys hcnd.1 hcnd.2;split at happ
     ·simp only [VR] at hvs;split at happ
      ·rename_i hemp
       cases happ
       have:ys=[]:=by simpa using hemp
       subst this;exact fin (q:=(.nils,H)) (by rw [hvs,e1];exact Lm hu hi0 (iB _)) (Nx.refl g H w) hr (by simp [VR])
      ·rename_i hemp;have hne:ys≠[]:=by simpa using hemp
       obtain ⟨b2,o2,rfl,hatn⟩:=hat hne;obtain ⟨v,w',g',hrun,hn,hr',hv⟩:=Ln (ty:=o.type) (olds:=[]) (oc:=[]) (base:=none) (sLen:=0) (sCap:=0) (c:=c2) hr hu hs hby hz (by simpa using happ) rfl fC.nil (by simp) hlie hnl hatn hne (by have:=List.length_pos_iff.2 hne;omega) (.inl ⟨rfl,rfl,rfl⟩);exact fin (by rw [hvs,e1];exact hrun) hn hr' hv
     ·simp only [VR] at hvs;obtain ⟨ad0,hvs⟩:=hvs;split at happ
      ·rename_i hemp
       cases happ
       have:ys=[]:=by simpa using hemp
       subst this;exact fin (q:=(.emp,H)) (by rw [hvs,e1];exact Lm hu hi0 (iB _)) (Nx.refl g H w) hr (by simp [VR])
      ·rename_i hemp;have hne:ys≠[]:=by simpa using hemp
       obtain ⟨b2,o2,rfl,hatn⟩:=hat hne;obtain ⟨v,w',g',hrun,hn,hr',hv⟩:=Ln (ty:=o.type) (olds:=[]) (oc:=[]) (base:=ad0) (sLen:=0) (sCap:=0) (c:=c2) hr hu hs hby hz (by simpa using happ) rfl fC.nil (by simp) hlie hnl hatn hne (by have:=List.length_pos_iff.2 hne;omega)
        (by cases ad0 with
          | none=>exact .inl ⟨rfl,rfl,rfl⟩
          | some ba=>exact .inr ⟨ba,rfl,fun j v hj=>by simp at hj⟩)
       exact fin (by rw [hvs,e1];exact hrun) hn hr' hv
     ·rename_i id lo len ext cap;have hvs':=hvs;simp only [VR] at hvs;obtain ⟨hb,ad0,cc,e2,hle,hv0,hcl,hcm,hcc,hcond⟩:=hvs;split at happ
      ·rename_i hb' e3;rw [e2] at e3;cases e3;split at happ
       ·rename_i hk;obtain ⟨k1,k2,k3,k4⟩:=hk;obtain ⟨b,o1,hρ,hle2,had,hcap,cur,T,hcu,hroom⟩:=hcond k1;obtain ⟨b',o',hblk⟩:=hr.heap id hb e2;have hat0:=hblk.at_;rw [hρ] at hat0;cases hat0;obtain ⟨cur',T',hcu',hbl⟩:=hblk.cells;rw [hcu] at hcu';cases hcu';rw [k3] at hroom hbl;split at happ
        ·rename_i hemp
         cases happ
         have:ys=[]:=by simpa using hemp
         subst this;exact fin (q:=(.own id lo len ext cap,H)) (by rw [hv0,e1];exact Lm hu hi0 hcl) (Nx.refl g H w) hr (by rw [← hv0];exact hvs')
        ·rename_i hemp;have hne:ys≠[]:=by simpa using hemp
         obtain ⟨b2,o2,rfl,hatn⟩:=hat hne;have hkp:=List.length_pos_iff.2 hne;have olds:(hb.rows.drop lo).take len=(hb.rows.drop lo).take len∧((hb.rows.drop lo).take len).length=len:=⟨rfl,by rw [iW,iX];omega⟩;have hR:=EX hblk.rows lo len;have hC:=fun hp=>Ho (hblk.pure hp) lo len
         rw [k3] at hR hC;have grow:∀ {q:PV×Hp},ydf H pu sz bytes ((hb.rows.drop lo).take len++ys)=some q→cc<len+ys.length→bM E nt g F H a.tmps w ⟨some (.v q.1),none,q.2⟩ ((execOp a.eval o).run P w):=by
          intro q hfr hgt;obtain ⟨oc,hoc1,hoc2⟩:=HH sz b _ _ hR;rw [olds.2] at hoc1;have hlo:=Ll (pu:=pu) hR (fun hp=>hC (by rw [k2];exact hp)) (by rw [olds.2];exact hoc1) hoc2;have hbase:∀ j v,oc[j]?=some v→w.cell? (ad0.add j)=some v:=by
           intro j v hj;have:cc≠0:=by
            intro h0;have hl0:len=0:=by omega
            rw [hl0] at hoc1;have:oc=[]:=jA (by simpa using hoc1);subst this;simp at hj
           rw [had this,k3];exact hoc2.addr j v hj
          obtain ⟨v,w',g',hrun,hn,hr',hv⟩:=Ln (ty:=o.type) (base:=some ad0) (sCap:=cc) (c:=c2) hr hu hs hby hz hfr olds.2 hlo hoc1 hlie hnl hatn hne hgt (.inr ⟨ad0,rfl,hbase⟩);exact fin (by rw [hv0,e1];exact hrun) hn hr' hv
         have inpl:∀ {rows':List PV},hb.fz=false→len+ys.length≤cc→rows'=hb.rows.take (lo+len)++(ys++hb.rows.drop (lo+len+ys.length))→o1+(lo+len+ys.length)*sz≤cur.size→kZ lo cc rows'.length cap →
           bM E nt g F H a.tmps w ⟨some (.v (.own id lo (len+ys.length) rows'.length cap)),none,H.set id { hb with rows:=rows' }⟩ ((execOp a.eval o).run P w):=by
          intro rows' hfz hin hrows hfit hcap';rw [← k2] at hlie;obtain ⟨v,w',hrun,hn,hr',hv⟩:=R4 (ty:=o.type) (c:=c2) (lo:=lo) (len:=len) (sCap:=cc) (_ext:=ext) (cap:=cap) hr hu hs e2 hfz hρ hcu k3 hlie hnl hatn hin hfit (by omega) hrows hcm hcc hcap' hroom hbl;refine fin (q:=(.own id lo (len+ys.length) rows'.length cap,H.set id { hb with rows:=rows' })) ?_ hn hr' hv;rw [hv0,e1,had (by omega),k3];exact hrun
         cases cap with
         | some c0=>
          have hc0:=hcc c0 rfl;subst hc0;simp only [lW] at happ;simp only [kZ] at hcap
          by_cases hin:len+ys.length≤cc
          ·rw [Sj hin] at happ
           by_cases hfz:hb.fz=false
           ·rw [Sj hfz] at happ
            cases happ
            have hrl:(hb.rows.take (lo+len)++(ys++hb.rows.drop (lo+len+ys.length))).length=ext:=by simp only [hO,iW,iX];omega
            have:=inpl (rows':=hb.rows.take (lo+len)++(ys++hb.rows.drop (lo+len+ys.length))) hfz hin rfl (by
             refine jB (Nat.add_le_add_left (eL _ ?_) _) hbl;omega) (by simp only [kZ];rw [hrl];exact hcap)
            rw [hrl] at this;exact this
           ·rw [Sk hfz] at happ;cases happ
          ·rw [Sk hin] at happ;exact grow happ (by omega)
         | none=>
          simp only [lW] at happ;simp only [kZ] at hcap
          by_cases hfz:hb.fz=true
          ·rw [Sj hfz] at happ;cases happ
          ·rw [Sk hfz] at happ;have hfz:hb.fz=false:=by simpa using hfz
           by_cases hin:lo+len+ys.length≤ext
           ·rw [Sj hin] at happ
            cases happ
            have hrl:(hb.rows.take (lo+len)++(ys++hb.rows.drop (lo+len+ys.length))).length=ext:=by simp only [hO,iW,iX];omega
            have:=inpl (rows':=hb.rows.take (lo+len)++(ys++hb.rows.drop (lo+len+ys.length))) hfz (by omega) rfl (by
             refine jB (Nat.add_le_add_left (eL _ ?_) _) hbl;omega) (by simp only [kZ];rw [hrl];exact hcap)
            rw [hrl] at this;exact this
           ·rw [Sk hin] at happ
            by_cases hg:lo=0∧len≤ext∧(len+ys.length+64)*(bytes+1)≤room
            case neg=>rw [Sk hg] at happ;cases happ
            case pos=>
             rw [Sj hg] at happ;obtain ⟨rfl,hle',hroomE⟩:=hg
             cases happ
             by_cases hin:len+ys.length≤cc
             ·have hrows:hb.rows.take len++ys=hb.rows.take (0+len)++(ys++hb.rows.drop (0+len+ys.length)):=by
               rw [iA,lV (by omega)];simp
              have hrl:(hb.rows.take len++ys).length=len+ys.length:=by rw [hO,iW,k1,Nat.min_eq_left hle']
              have:=inpl (rows':=hb.rows.take len++ys) hfz hin hrows (by
               refine jB (Nat.add_le_add_left (eL _ ?_) _) hroom;omega) (by simp only [kZ];rw [hrl];omega)
              rw [hrl] at this;exact this
             ·-- the block moves
              have hlt':(hb.rows.take len).length=len:=by rw [iW,k1,Nat.min_eq_left hle']
              have hR':=hR;have hC':=fun hp=>hC hp
              rw [hZ,Nat.zero_mul,sF] at hR' hC';obtain ⟨oc,hoc1,hoc2⟩:=HH sz b _ _ hR';have hlo:=Ll (pu:=pu) hR' (fun hp=>hC' (by rw [k2];exact hp)) hoc1 hoc2;rw [hlt'] at hoc1;have hbase:∀ j v,oc[j]?=some v→w.cell? (ad0.add j)=some v:=by
               intro j v hj;have:cc≠0:=by
                intro h0;have hl0:len=0:=by omega
                rw [hl0] at hoc1;have:oc=[]:=jA (by simpa using hoc1);subst this;simp at hj
               rw [had this,Nat.zero_mul,sF];exact hoc2.addr j v hj
              obtain ⟨i1,v0,hi1,hv0z,hz1,_,_⟩:=xK (P:=P) (g:=g) (H:=H) (w:=w) hz;rw [hi0] at hi1;cases hi1;have hbytes:i0.bytes=bytes:=by unfold oB at hby;rw [hi0] at hby;cases hby;rfl
              have hr45:(len+ys.length+64)*(bytes+1)≤35184372088832:=hroomE;have hneed:len+ys.length≤35184372088832:=by have:len+ys.length+64≤(len+ys.length+64)*(bytes+1):=wS _ (by omega);omega
              have hnb:(len+ys.length)*bytes≤35184372088832:=jB (Af (by omega) (by omega)) hr45;have hrun:=run_append_grow (P:=P) w t o.type e i0 v0 hu hi0 hv0z ad0 len cc oc (by rw [hoc1,hi0s]) hbase ⟨b2,o2,none⟩ ys.length c2 news (by rw [hnl,hi0s]) hatn.addr (by omega) (by omega) (growslice_fits (by omega) (by rw [hbytes];omega));have hge:len+ys.length≤grownCap w (len+ys.length) cc e:=grownCap_ge w _ _ _;have hcm2:grownCap w (len+ys.length) cc e≤maxLen:=grownCap_le_maxLen w _ _ _ (by unfold maxLen;omega);have hcells:(oc.toArray++news.toArray++Builtin.zeroCells v0.cells (grownCap w (len+ys.length) cc e-(len+ys.length)))=(oc++news++(Builtin.zeroCells v0.cells (grownCap w (len+ys.length) cc e-(len+ys.length))).toList).toArray:=by simp
              rw [hcells] at hrun;have hl:=(hlo.append (rest:=(Builtin.zeroCells v0.cells (grownCap w (len+ys.length) cc e-(len+ys.length))).toList) (by rw [hoc1,hlt']) hlie).on (On.drew g H w);have hlen1:oc.length+news.length=(len+ys.length)*sz:=by rw [hoc1,hnl,cQ]
              have hsegl:∀ i x,(hb.rows.take len++ys)[i]?=some x→(cR (oc++news++(Builtin.zeroCells v0.cells (grownCap w (len+ys.length) cc e-(len+ys.length))).toList) (i*sz) sz).length=sz:=by intro i x hx;have hi:=Ap hx;rw [hO,hlt'] at hi;apply xL;have:(i+1)*sz≤(len+ys.length)*sz:=eL _ hi;rw [cQ,gI] at this;simp only [hO];omega
              obtain ⟨g2,r2,n2,hρ2⟩:=hr.drew.growBlk (rows':=hb.rows.take len++ys) (cs:=(oc++news++(Builtin.zeroCells v0.cells (grownCap w (len+ys.length) cc e-(len+ys.length))).toList).toArray) (T:=e) e2 hfz (by rw [hO,hlt',k1];omega) (by rw [k3];simpa [hlt',k1] using hl.1)
               (fun i x hx=>⟨_,by rw [k3];exact hsegl i x hx,(hl.2 i x hx).1,by rw [k3,hsegl i x hx];rfl⟩)
               (fun hp i x hx=>⟨_,by rw [k3];exact hsegl i x hx,(hl.2 i x hx).2 (by rw [← k2];exact hp),by rw [k3,hsegl i x hx];rfl⟩)
              refine fin (q:=(.own id 0 (len+ys.length) (len+ys.length) none,H.set id { hb with rows:=hb.rows.take len++ys })) (by rw [hv0,e1];exact hrun) ((Nx.drew g H w).trans n2) r2 ?_;simp only [VR];have hzc:v0.cells.size=sz:=by rw [hz1,hi0s]
              refine ⟨{ hb with rows:=hb.rows.take len++ys },_,_,by rw [wT (hlt e2)],by simp [hlt'],rfl,hge,hcm2,(fun c0 e0=>by cases e0),fun _=>?_⟩;refine ⟨w.heap.size,0,hρ2,by omega,fun _=>by simp,by simp only [kZ];omega,_,e,qM w.drew _,?_⟩;simp only [iA,Ab,hO,wY,Builtin.zeroCells,Array.size_map,Array.size_range,hzc,k3];have:grownCap w (len+ys.length) cc e*sz=(len+ys.length)*sz+(grownCap w (len+ys.length) cc e-(len+ys.length))*sz:=by rw [← cQ];congr 1;omega
              omega
       ·cases happ
      ·cases happ
     ·cases happ
    ·cases happ
  ·cases h
 ·cases h
theorem R7 (hr:Rel E nt g F H a.tmps w) {c:Call} {s x:Operand} {s' x':Opd} {t t' e:TypeId} {kn:IntKind} {pu:Bool} {sz bytes:Nat} {z:PV} (ho:o.op=.call c) (hc:c.callee=.builtin .append) (hargs:c.args.toList=[s,x]) (hts:c.argTypes.toList=[t,t'])
  (hu:P.underlying t=some (.slice e)) (hk:P.underlying t'=some (.int kn)) (hs:ydh P e=some sz) (hby:oB P e=some bytes) (hz:ycN P e=some (pu,z)) (hsx:opd s=some s') (hx:opd x=some x') {call} (h:yar E call F H (.appZ pu sz bytes z s' x')=some out) :
  bM E nt g F H a.tmps w out ((execOp a.eval o).run P w):=by
 obtain ⟨_,hpos,i0,hi0,hi0s⟩:=lB (P:=P) (w:=w) hs;have hbytes:i0.bytes=bytes:=by unfold oB at hby;rw [hi0] at hby;cases hby;rfl
 obtain ⟨i1,v0,hi1,hv0,hvs,z1,z2⟩:=xK (P:=P) (g:=g) (H:=H) (w:=w) hz;rw [hi0] at hi1;cases hi1;have ha:c.args=#[s,x]:=by rw [← pA];simpa using hargs
 have ht:c.argTypes=#[t,t']:=by rw [← pA];simpa using hts
 have fin:∀ {q:PV×Hp} {v:Value} {w':World} {g':Gh},(Builtin.append_ #[t,t'] o.type #[a.eval s,a.eval x]).run P w=.ok v w'→Nx g g' H q.2 w w'→Rel E nt g' F q.2 a.tmps w'→VR g' q.2 w' q.1 v→bM E nt g F H a.tmps w ⟨some (.v q.1),none,q.2⟩ ((execOp a.eval o).run P w):=by intro q v w' g' hrun hn hr' hv;refine ⟨v,w',g',.inl ?_,hn,hr',hv⟩;simp [execOp,ho,resolve,hc,ha,ht,invoke,builtin,hrun]
 simp only [yar] at h;split at h
 ·rename_i p k hp hq;have hv1:=dN hr hsx hp;obtain ⟨kq,e1,_⟩:=nL hr hx hq;split at h
  ·rename_i h0;split at h
   ·rename_i r H1 happ;rw [cV h];unfold appZ at happ;split at happ
    ·simp only [VR] at hv1;obtain ⟨n,rfl⟩:∃ n:Nat,k=(n:Int):=⟨k.toNat,by omega⟩;simp only [cE] at happ;split at happ
     ·rename_i hn;subst hn
      cases happ
      refine fin (q:=(.nils,H)) (v:=.slice none 0 0) ?_ (Nx.refl g H w) hr (by simp [VR]);rw [hv1,e1];have hw0:i64.wrap (0:Int)=0:=by rw [IntKind.wrap_i64];omega
      simp [Builtin.append_,run_underlying hu,run_underlying hk,sizeOf,typeInfo,hi0,asInt,asIntOf,hw0]
     ·rename_i hn;unfold ydf at happ;split at happ
      ·rename_i hroom
       cases happ
       have hroom:(n+64)*(bytes+1)≤35184372088832:=by rw [oV] at hroom;exact hroom
       have hneed:n≤35184372088832:=by have:n+64≤(n+64)*(bytes+1):=wS _ (by omega);omega
       have hnb:n*bytes≤35184372088832:=jB (Af (by omega) (by omega)) hroom;have hrun:=Lib.run_append_nil_zeros (P:=P) w t t' o.type e i0 v0 kq kn hu hk hi0 hv0 n (by omega) (by omega) (by omega) (by rw [hbytes];omega);have hvz:v0.cells.size=sz:=by rw [hvs,hi0s]
       let nc:=grownCap w n 0 e;have hge:n≤nc:=grownCap_ge w _ _ _;have hcm:nc≤maxLen:=grownCap_le_maxLen w _ _ _ (by unfold maxLen;omega);obtain ⟨r1,n1⟩:Rel E nt g F H a.tmps w.drew∧Nx g g H H w w.drew:=⟨hr.drew,Nx.drew g H w⟩;have hlie:=Ao (g:=g) (H:=H) (w:=w) (n:=n) (pu:=pu) hvz hpos z1 z2;have hzc:((Array.range (n*sz)).map (v0.cells[· % v0.cells.size]!)).toList=(Builtin.zeroCells v0.cells n).toList:=by unfold Builtin.zeroCells;rw [hvz]
       rw [hzc] at hlie;have hzl:(Builtin.zeroCells v0.cells n).toList.length=n*sz:=by unfold Builtin.zeroCells;rw [hvz];simp
       have hl:=(fC.append (rest:=[]) fC.nil (by simp) hlie (r2:=replicate n z)).on n1.on;simp only [rY,xA] at hl;have hsg:∀ i,i<n→(cR ((Builtin.zeroCells v0.cells n)++Builtin.zeroCells v0.cells (nc-n)).toList (i*sz) sz)=cR (Builtin.zeroCells v0.cells n).toList (i*sz) sz∧(cR (Builtin.zeroCells v0.cells n).toList (i*sz) sz).length=sz:=by intro i hi;have hle:(i+1)*sz≤n*sz:=eL _ hi;rw [cQ,gI] at hle;refine ⟨?_,xL (by rw [hzl];omega)⟩;simp only [cR,Array.toList_append];rw [List.drop_append_of_le_length (by rw [hzl];omega),Hd (by rw [iX,hzl];omega)]
       have hin:∀ (i:Nat) (x:PV),(replicate n z)[i]?=some x→i<n:=by intro i x hx;have:=Ap hx;simpa using this
       obtain ⟨g2,r2,n2,hρ⟩:=r1.newBlk (hb:=⟨false,pu,sz,replicate n z⟩) (cs:=(Builtin.zeroCells v0.cells n)++Builtin.zeroCells v0.cells (nc-n)) (T:=e) hpos rfl (by
         simp only [Array.size_append,oV];have:=hzl;rw [wY] at this;omega)
        (fun i x hx=>by
         obtain ⟨q1,q2⟩:=hsg i (hin i x hx);exact ⟨cR (Builtin.zeroCells v0.cells n).toList (i*sz) sz,q2,(hl.2 i x hx).1,by rw [q2];exact q1⟩)
        (fun hp i x hx=>by
         obtain ⟨q1,q2⟩:=hsg i (hin i x hx);exact ⟨cR (Builtin.zeroCells v0.cells n).toList (i*sz) sz,q2,(hl.2 i x hx).2 hp,by rw [q2];exact q1⟩)
       refine fin (q:=(.own H.length 0 (replicate n z).length (replicate n z).length none,H++[⟨false,pu,sz,replicate n z⟩])) (g':=g2) (by rw [hv1,e1];exact hrun) (n1.trans n2) r2 ?_;simp only [VR];refine ⟨⟨false,pu,sz,replicate n z⟩,_,nc,by simp,by simp,by rw [oV],by simpa using hge,hcm,(fun c0 e0=>by cases e0),fun _=>?_⟩;refine ⟨w.heap.size,0,hρ,by omega,fun _=>by simp,by simp only [kZ,oV];omega,_,e,qM w.drew _,?_⟩;have h1:=hzl;rw [wY] at h1;simp only [iA,Array.size_append,Builtin.zeroCells,Array.size_map,Array.size_range,hvz];have:nc*sz=n*sz+(nc-n)*sz:=by rw [← cQ];congr 1;omega
       omega
      ·cases happ
    ·cases happ
   ·cases h
  ·cases h
 ·cases h
theorem R8 (hr:Rel E nt g F H a.tmps w) {c:Call} {x:Operand} {x':Opd} {t e:TypeId} {pu:Bool} {sz:Nat} {z:PV} (ho:o.op=.call c) (hc:c.callee=.builtin .clear) (hargs:c.args.toList=[x]) (ht:c.argTypes[0]?=some t)
  (hu:P.underlying t=some (.slice e)) (hs:ydh P e=some sz) (hz:ycN P e=some (pu,z)) (hx:opd x=some x') {call} (h:yar E call F H (.clr pu sz z x')=some out) :
  bM E nt g F H a.tmps w out ((execOp a.eval o).run P w):=by
 obtain ⟨_,hpos,i0,hi0,hi0s⟩:=lB (P:=P) (w:=w) hs;obtain ⟨i1,v0,hi1,hv0,hvs,z1,z2⟩:=xK (P:=P) (g:=g) (H:=H) (w:=w) hz;rw [hi0] at hi1;cases hi1;have ha:c.args=#[x]:=by rw [← pA];simpa using hargs
 have fin:∀ {H':Hp} {w':World},(Builtin.clear_ c.argTypes o.type #[a.eval x]).run P w=.ok (.tuple #[]) w'→Nx g g H H' w w'→Rel E nt g F H' a.tmps w'→bM E nt g F H a.tmps w ⟨some (.v (.tup [])),none,H'⟩ ((execOp a.eval o).run P w):=by
  intro H' w' hrun hn hr';refine ⟨.tuple #[],w',g,.inl ?_,hn,hr',?_⟩
  ·simp [execOp,ho,resolve,hc,ha,invoke,builtin,hrun]
  ·show VR g H' w' (.tup []) (.tuple #[]);simp [VR,bO]
 have none_:∀ {v:Value},a.eval x=v→(∃ ad n cc,v=.slice ad n cc∧(ad=none∨n=0))→(Builtin.clear_ c.argTypes o.type #[a.eval x]).run P w=.ok (.tuple #[]) w:=by
  rintro v hv ⟨ad,n,cc,rfl,h0⟩;rcases h0 with rfl | rfl
  ·simp [Builtin.clear_,ht,hv,run_underlying hu]
  ·cases ad<;>simp [Builtin.clear_,ht,hv,run_underlying hu]
 simp only [yar] at h;split at h
 ·rename_i p hp;have hv1:=dN hr hx hp;split at h
  ·rename_i H1 hcl;rw [cV h];unfold clrV at hcl;split at hcl
   ·cases hcl
    simp only [VR] at hv1;exact fin (none_ hv1 ⟨_,_,_,rfl,.inl rfl⟩) (Nx.refl g H w) hr
   ·cases hcl
    simp only [VR] at hv1;obtain ⟨ad,hv1⟩:=hv1;exact fin (none_ hv1 ⟨_,_,_,rfl,.inr rfl⟩) (Nx.refl g H w) hr
   ·cases hcl
    obtain ⟨k,cc,e1,_,_,_⟩:=La hv1 (n:=0) rfl;exact fin (none_ e1 ⟨_,_,_,rfl,.inr rfl⟩) (Nx.refl g H w) hr
   ·rename_i id lo len ext cap;split at hcl
    ·cases hcl
     obtain ⟨k,cc,e1,_,_,_⟩:=La hv1 (n:=0) rfl;exact fin (none_ e1 ⟨_,_,_,rfl,.inr rfl⟩) (Nx.refl g H w) hr
    ·rename_i len;split at hcl
     ·rename_i hb e3;split at hcl
      ·rename_i hk;obtain ⟨k1,k2,k3,k4,k5⟩:=hk
       cases hcl
       simp only [VR] at hv1;obtain ⟨hbx,ad0,cc,e2,hle,hv0',hcl,hcm,hcc,hcond⟩:=hv1;rw [e2] at e3;cases e3;obtain ⟨b,o1,hρ,hle2,had,hcap,cur,T,hcu,hroom⟩:=hcond k1;obtain ⟨b',o',hblk⟩:=hr.heap id hb e2;have hat0:=hblk.at_;rw [hρ] at hat0;cases hat0;obtain ⟨cur',T',hcu',hbl⟩:=hblk.cells;rw [hcu] at hcu';cases hcu';rw [k5] at hroom hbl;have hvz:v0.cells.size=sz:=by rw [hvs,hi0s]
       have hlie:=Ao (g:=g) (H:=H) (w:=w) (n:=len+1) (pu:=hb.pu) hvz hpos z1 (fun h=>z2 (by rw [← k4];exact h));have hzc:((Array.range ((len+1)*sz)).map (v0.cells[· % v0.cells.size]!)).toList=(Builtin.zeroCells v0.cells (len+1)).toList:=by unfold Builtin.zeroCells;rw [hvz]
       rw [hzc] at hlie;have hzl:(Builtin.zeroCells v0.cells (len+1)).toList.length=(len+1)*sz:=by unfold Builtin.zeroCells;rw [hvz];simp
       have hmul:(lo+(len+1))*sz=lo*sz+(len+1)*sz:=cQ ..;have hmul2:(lo+(len+1))*sz≤hb.rows.length*sz:=eL _ (by omega);obtain ⟨hn,hr'⟩:=R5 (lo:=lo) (ys:=replicate (len+1) z) (news:=(Builtin.zeroCells v0.cells (len+1)).toList) (rows':=hb.rows.take lo++(replicate (len+1) z++hb.rows.drop (lo+(len+1)))) hr e2 k3 hρ hcu k5 hlie (by rw [hzl,oV]) (by rw [oV];omega) (by rw [oV]) hbl;have hst:=run_storeCells_at P b (o1+lo*sz) T (Builtin.zeroCells v0.cells (len+1)).toList 0 cur w hcu (by rw [hzl];simp;omega) (fC.one hpos hlie (by rw [hzl,oV]));simp only [sF,rX] at hst;refine fin ?_ hn hr';rw [hv0',had (by omega),k5];have hzv:(zeroValue e).run P w=.ok v0 w:=by simp [zeroValue,typeInfo,hi0,hv0]
       simp [Builtin.clear_,ht,run_underlying hu,hzv,hst,eC]
      ·cases hcl
     ·cases hcl
   ·cases hcl
  ·cases h
 ·cases h
def HI:AOp→Bool
 | .dfr _=>true
 | _=>false
def oD:AOp→Bool
 | .call _ _=>true
 | _=>false
theorem R9 (hr:Rel E nt g F H a.tmps w) {op:BinOp} {t t':TypeId} {x y:Operand} (ho:o.op=.binOp op t x y t') {call} (h:yar E call F H (EL P op t x y)=some out):bM E nt g F H a.tmps w out ((execOp a.eval o).run P w):=by
 unfold EL at h;split at h
 ·rename_i x' y' hx hy;split at h
  ·exact N0 hr ho hx hy h
  ·rename_i hu;split at h
   ·exact Sz hr ho (.inl ⟨rfl,rfl⟩) hu hx hy h
   ·exact Sz hr ho (.inr ⟨rfl,rfl⟩) hu hx hy h
   ·cases h
  ·rename_i fs hu;split at h
   ·rename_i idx hidx;split at h
    ·rename_i hk;simp only [bQ,jR] at hk;split at h
     ·exact Hw hr ho (.inl ⟨rfl,rfl⟩) hidx hk.1 (.inl ⟨fs,hu⟩) hk.2 hx hy h
     ·exact Hw hr ho (.inr ⟨rfl,rfl⟩) hidx hk.1 (.inl ⟨fs,hu⟩) hk.2 hx hy h
     ·cases h
    ·cases h
   ·cases h
  ·rename_i n e hu;split at h
   ·rename_i idx hidx;split at h
    ·rename_i hk;simp only [bQ,jR] at hk;split at h
     ·exact Hw hr ho (.inl ⟨rfl,rfl⟩) hidx hk.1 (.inr ⟨n,e,hu⟩) hk.2 hx hy h
     ·exact Hw hr ho (.inr ⟨rfl,rfl⟩) hidx hk.1 (.inr ⟨n,e,hu⟩) hk.2 hx hy h
     ·cases h
    ·cases h
   ·cases h
  ·rename_i e hu;split at h
   ·split at h
    ·rename_i hn;exact Hx hr ho (.inl ⟨rfl,rfl⟩) hu (.inl ⟨rfl,hn⟩) hx h
    ·split at h
     ·rename_i hn;exact Hx hr ho (.inl ⟨rfl,rfl⟩) hu (.inr ⟨rfl,hn⟩) hy h
     ·cases h
   ·split at h
    ·rename_i hn;exact Hx hr ho (.inr ⟨rfl,rfl⟩) hu (.inl ⟨rfl,hn⟩) hx h
    ·split at h
     ·rename_i hn;exact Hx hr ho (.inr ⟨rfl,rfl⟩) hu (.inr ⟨rfl,hn⟩) hy h
     ·cases h
   ·cases h
  ·cases h
 ·cases h
theorem HJ {l:List Operand} {x':Opd} (h:dR l=some [x']):∃ x,l=[x]∧opd x=some x':=by
 cases l with
 | nil=>simp [dR] at h
 | cons x r=>
  simp only [dR] at h;split at h
  ·rename_i a l h1 h2;simp only [bV,iH] at h;obtain ⟨rfl,rfl⟩:=h
   cases r with
   | nil=>exact ⟨x,rfl,h1⟩
   | cons y r =>simp only [dR] at h2;split at h2<;>simp at h2
  ·cases h
theorem S0 {l:List Operand} {x' y':Opd} (h:dR l=some [x',y']):∃ x y,l=[x,y]∧opd x=some x'∧opd y=some y':=by
 cases l with
 | nil=>simp [dR] at h
 | cons x r=>
  simp only [dR] at h;split at h
  ·rename_i a l h1 h2;simp only [bV,iH] at h;obtain ⟨rfl,rfl⟩:=h;obtain ⟨y,rfl,hy⟩:=HJ h2;exact ⟨x,y,rfl,h1,hy⟩
  ·cases h
theorem S3 (hr:Rel E nt g F H a.tmps w) {c:Call} {b:Builtin} (ho:o.op=.call c) (hc:c.callee=.builtin b) {call} (h:yar E call F H (EM P b c.argTypes c.args.toList)=some out):bM E nt g F H a.tmps w out ((execOp a.eval o).run P w):=by
 unfold EM at h;split at h
 ·rename_i x' hx;obtain ⟨x,hargs,hx'⟩:=HJ hx;split at h
  ·rename_i e hu
   cases ht:c.argTypes[0]? with
   | none=>rw [ht] at hu;simp at hu
   | some t =>rw [ht] at hu;exact N7 hr ho hc hargs ht hu hx' h
  ·cases h
 ·rename_i x' hx;obtain ⟨x,hargs,hx'⟩:=HJ hx;split at h
  ·rename_i e hu
   cases ht:c.argTypes[0]? with
   | none=>rw [ht] at hu;simp at hu
   | some t =>rw [ht] at hu;exact N9 hr ho hc hargs ht hu hx' h
  ·cases h
 ·rename_i s' x' hx;obtain ⟨s,x,hargs,hs',hx'⟩:=S0 hx;split at h
  ·rename_i t t' hts;split at h
   ·rename_i htt;subst htt;split at h
    ·rename_i e hu;split at h
     ·rename_i sz by_ pu z hsz hby hz;exact R6 hr ho hc hargs hts hu hsz hby hz hs' hx' h
     ·cases h
    ·cases h
   ·split at h
    ·rename_i e k hu hk;split at h
     ·rename_i sz by_ pu z hsz hby hz;exact R7 hr ho hc hargs hts hu hk hsz hby hz hs' hx' h
     ·cases h
    ·cases h
  ·cases h
 ·rename_i x' hx;obtain ⟨x,hargs,hx'⟩:=HJ hx;split at h
  ·rename_i t ht;split at h
   ·rename_i e hu;split at h
    ·rename_i sz pu z hsz hz;exact R8 hr ho hc hargs ht hu hsz hz hx' h
    ·cases h
   ·cases h
  ·cases h
 ·rename_i l hl;exact SJ (mx:=true) hr ho hc hl h
 ·rename_i l hl;exact SJ (mx:=false) hr ho hc hl h
 ·cases h
theorem S4 (hr:Rel E nt g F H a.tmps w) {t:TypeId} {x y:Operand} {y':Opd} {l:List PV} (ho:o.op=.index t x y) (hu:P.underlying t=some .string) (hl:yHO x=some l) (hy:opd y=some y') {call}
  (h:yar E call F H (.idx false l.length 1 (.c (.agg l)) y')=some out):bM E nt g F H a.tmps w out ((execOp a.eval o).run P w):=by
 unfold yHO at hl;split at hl
 ·rename_i s
  cases hl
  simp only [yar] at h;split at h
  ·rename_i cs m hp hm;have hcs:cs=s.data.toList.map fun b=>PV.int .u8 b.toNat:=by simpa [evV,ev] using hp.symm
   split at h
   ·rename_i hbd;split at h
    ·rename_i p hpp;obtain ⟨k,e2,_⟩:=nL hr hy hm;have hlt:m.toNat<s.data.size:=by
      have:=hbd.2;simp only [cP,wY] at this;omega
     have hpe:p=PV.int .u8 ((s.data[m.toNat]'hlt).toNat:Int):=by simp only [yfU,PV.cells,hcs,Nat.mul_one,mJ,Array.getElem?_toList,gR,if_false] at hpp;rw [Array.getElem?_eq_getElem hlt] at hpp;simpa using hpp.symm
     have hsg:s[m.toNat]?=some (s.data[m.toNat]'hlt):=by have:m.toNat<s.size:=hlt;simp [this];rfl
     rw [cV h,hpe];refine bM.val hr ?_ (show VR g H w (.int .u8 ((s.data[m.toNat]'hlt).toNat:Int)) (.int .u8 ((s.data[m.toNat]'hlt).toNat:Int)) from ?_)
     ·have e1:a.eval (.const (.string s))=.string s:=rfl;simp [execOp,ho,Instr.index,asIntOf,run_underlying hu,e1,e2,hbd.1,hsg]
     ·simp only [VR,gD];have:=(s.data[m.toNat]'hlt).toNat_lt;have h0:u8.min=0:=by decide
      have h1:u8.max=255:=by decide
      exact ⟨trivial,by rw [h0];omega,by rw [h1];omega⟩
    ·cases h
   ·cases h
  ·cases h
 ·cases hl
theorem S5 (hr:Rel E nt g F H a.tmps w) {loc:List Nat} {call} {F':aG} (hnc:oD (kD P loc o)=false) (hnd:HI (kD P loc o)=false) (h:yar E call F H (kD P loc o)=some out) (hd:∀ d,o.dst=some d→d<nt) (hp:yek (iZ F out.bx) o.dst out.x=some F') :
  pK E nt g H a w o.dst F' out.h ((execOp a.eval o).run P w):=by
 have fin:bM E nt g F H a.tmps w out ((execOp a.eval o).run P w)→(∀ row,out.x≠some (.box row))→pK E nt g H a w o.dst F' out.h ((execOp a.eval o).run P w):=fun h1 h2=>pK.of h1 hd hp h2
 have nb:bM E nt g F H a.tmps w out ((execOp a.eval o).run P w)→pK E nt g H a w o.dst F' out.h ((execOp a.eval o).run P w):=by
  intro h1;refine fin h1 fun row e=>?_
  obtain ⟨v,w',g',_,_,_,hx⟩:=h1;rw [e] at hx;exact hx
 unfold kD at h hnc hnd;split at h
 ·rename_i x ho;split at h
  ·rename_i x' hx;split at h
   ·exact nb (SU hr (.inl ho) hx h)
   ·exact nb (Sw hr (.inl ho) hx h)
  ·cases h
 ·rename_i x ho;split at h
  ·rename_i x' hx;split at h
   ·exact nb (SU hr (.inr ho) hx h)
   ·exact nb (Sw hr (.inr ho) hx h)
  ·cases h
 ·rename_i c x y ho;split at h
  ·rename_i c' x' y' hc hx hy;exact nb (M5 hr ho hc hx hy h)
  ·cases h
 ·rename_i e ho;split at h
  ·rename_i d hdst;split at h
   ·split at h
    ·rename_i z hz;simp only [yar,bV] at h;subst h;rw [hdst] at hp ⊢;exact P8 hr ho hz (hd d hdst) hp
    ·cases h
   ·split at h
    ·rename_i pu z sz hz hs;exact nb (Q0 hr ho hz hs h)
    ·cases h
  ·cases h
 ·rename_i e x ho;split at h
  ·rename_i d x' hdst hx;split at h
   ·simp only [yar] at h;split at h
    ·rename_i p hpv;split at h
     ·rename_i hone;simp only [bV] at h;subst h;rw [hdst] at hp ⊢;exact P9 hr ho hx hpv hone (hd d hdst) hp
     ·cases h
    ·cases h
   ·split at h
    ·rename_i pu z sz hz hs;exact nb (Q1 hr ho hs hx h)
    ·cases h
  ·cases h
 ·rename_i t parts ho;split at h
  ·rename_i z fs hz hu;split at h
   ·rename_i hinfo;split at h
    ·rename_i ps hps;exact nb (P0 hr ho hz hu hinfo hps h)
    ·cases h
   ·cases h
  ·rename_i z n e hz hu;split at h
   ·rename_i i hi;split at h
    ·rename_i ps hps;exact nb (P1 hr ho hz hu hi hps h)
    ·cases h
   ·cases h
  ·cases h
 ·rename_i t len parts ho;split at h
  ·rename_i e hu;split at h
   ·rename_i sz pu z ps hs hz hps;split at h
    ·rename_i hc;split at h
     ·rename_i hp2;exact nb (Q5 hr ho hu hs hz hp2.1 hps hc.1 hc.2 h)
     ·split at h
      ·exact nb (Q4 hr ho hu hs hz hps hc.1 hc.2 h)
      ·exact nb (Q3 hr ho hu hs hz hps hc.1 hc.2 h)
    ·cases h
   ·cases h
  ·cases h
 ·rename_i t x ho;split at h
  ·rename_i gg i x' hg hi hx;exact nb (O2 hr ho hg hi hx h)
  ·cases h
 ·rename_i t x y ho;split at h
  ·rename_i i x' y' hi hx hy;exact nb (R1 hr ho hi hx hy h)
  ·cases h
 ·rename_i x ho;split at h
  ·rename_i x' hx;exact nb (O6 hr ho hx h)
  ·cases h
 ·rename_i c ho;split at h
  ·rename_i n hds hc;simp only [ho,hc,hds,HI] at hnd
   cases hnd
  ·cases h
 ·rename_i op t x y t' ho;exact nb (R9 hr ho h)
 ·rename_i op t x ho;split at h
  ·rename_i x' hx;exact nb (N3 hr ho hx h)
  ·cases h
 ·rename_i s d x ho;split at h
  ·rename_i ds k x' hs hdd hx;exact nb (N4 hr ho hs hdd hx h)
  ·cases h
 ·rename_i f x y ho;split at h
  ·rename_i x' y' hx hy;exact nb (N5 hr ho hx hy h)
  ·cases h
 ·rename_i t x y ho;split at h
  ·rename_i e x' y' hu hx hy;split at h
   ·rename_i sz by_ pu z hs hby hz;split at h
    ·rename_i n hm;exact nb (Q8 hr ho hu hs hby hz hx hy hm h)
    ·exact nb (Q6 hr ho hu hs hby hz hx hy h)
   ·cases h
  ·cases h
 ·rename_i t x lo hi mx ho;split at h
  ·rename_i e x' l' h' m' hu hx hl hh hm;split at h
   ·rename_i sz hs;exact nb (P5 hr ho hu hs hx hl hh hm h)
   ·cases h
  ·rename_i m e x' hu hx hl hh hm;have opdO_none:∀ {y:Option Operand},iL y=some none→y=none:=fun {y} e=>by
    cases y with
    | none=>rfl
    | some y=>simp only [iL] at e;split at e<;>cases e
   obtain rfl:=opdO_none hl;obtain rfl:=opdO_none hh;obtain rfl:=opdO_none hm;split at h
   ·rename_i sz hs;exact nb (P4 hr ho hu hs hx h)
   ·cases h
  ·cases h
 ·rename_i s x f ho;split at h
  ·rename_i fs x' hu hx;split at h
   ·rename_i fl hf;split at h
    ·rename_i sz hs;exact nb (O5 hr ho hu hf hs hx h)
    ·cases h
   ·cases h
  ·cases h
 ·rename_i t x f ho;split at h
  ·rename_i fs x' hu hx;split at h
   ·rename_i fl hf;split at h
    ·rename_i gg i hg hi;exact nb (O3 hr ho hu hf hg hi hx h)
    ·cases h
   ·cases h
  ·cases h
 ·rename_i t x y ho;split at h
  ·rename_i e x' y' hu hx hy;split at h
   ·rename_i sz hs;exact nb (O7 hr ho hu hs hx hy h)
   ·cases h
  ·rename_i n e x' y' hu hx hy;split at h
   ·rename_i sz hs;exact nb (O8 hr ho hu hs hx hy h)
   ·cases h
  ·cases h
 ·rename_i t x y ho;split at h
  ·rename_i n e x' y' hu hx hy;split at h
   ·rename_i gg i hg hi;exact nb (O4 hr ho hu hg hi hx hy h)
   ·cases h
  ·rename_i y' hu hy;split at h
   ·rename_i l hl;exact nb (S4 hr ho hu hl hy h)
   ·cases h
  ·cases h
 ·rename_i x i ho;split at h
  ·rename_i x' hx;exact nb (N6 hr ho hx h)
  ·cases h
 ·rename_i c ho;split at h
  ·rename_i f hc;split at h
   ·rename_i f' az' hf has;rw [ho] at hnc;simp only [hc,hf,has] at hnc;simp [oD] at hnc
   ·cases h
  ·rename_i b hc;exact nb (S3 hr ho hc h)
  ·cases h
 ·cases h
end
def kU (P:Program) (f:FuncId) (args:Array Value) (w:World) (Q:Value→World→Prop):Prop:=
 match (callFunc f args).run P w with
 | .ok (.value v) w'=>Q v w'
 | .ok (.enter f' args') w'=>Calls P f' args' w' (fun e w''=>match e with | .returned v=>Q v w'' | _=>False)
 | _=>False
theorem kU.mono {P:Program} {f:FuncId} {args:Array Value} {w:World} {Q Q':Value→World→Prop} (h:kU P f args w Q) (hq:∀ v w',Q v w'→Q' v w'):kU P f args w Q':=by
 unfold kU at h ⊢;split at h
 ·exact hq _ _ h
 ·refine Calls.mono h fun e w'' he=>?_
  cases e<;>first | exact hq _ _ he | exact he
 ·exact h.elim
def Lo (G:Nat→Option PV) (I:Nat→Prop) (w:World):Prop:=∀ n x,G n=some x→I n∧∃ vs:List Value,0<vs.length∧RC I w x vs∧At w n 0 vs
def lD (P:Program) (G:Nat→Option PV) (f:FuncId) (az:List PV) (r:PV):Prop:=
 ∀ (I:Nat→Prop) (w:World) (vs:List Value),(∀ b,I b→b<w.heap.size)→Lo G I w→eF I w az vs →
  kU P f vs.toArray w fun v w'=>Bel w.heap.size w w'∧VP (fun b=>I b∨(w.heap.size≤b∧b<w'.heap.size)) w' r v
section
variable {P:Program} {E:Env} {nt:Nat} {g g':Gh} {F:aG} {H H':Hp} {a:Act} {tmps:Array Value} {w w':World} {o:Oper}
theorem S7 {I:Nat→Prop} {x:PV} {v:Value} (h:RC I w x [v]) (hx:∀ cs,x≠.agg cs):x.one=true:=by
 cases x<;>first | rfl | exact absurd rfl (hx _) | (simp only [RC] at h)
theorem SZ {x:PV} {v:Value} (h:dI g.I w x v):VR g H w x v:=by
 cases x with
 | agg cs =>simp only [dI] at h;obtain ⟨vs,rfl,h⟩:=h;simp only [VR];exact ⟨vs,rfl,KU _ _ h⟩
 | tup ps=>simp only [dI] at h
 | nils=>simp only [dI] at h;simp only [VR];exact h
 | eptr rows i off=>simp only [dI] at h;simp only [VR];exact h
 | _=>simp only [dI] at h;exact Sr _ _ (S7 h (fun _ e=>by cases e)) h
theorem EY:∀ (l:List PV) (vs:List Value),eF g.I w l vs→bO g H w l vs
 | [],vs,h=>by simpa only [eF,bO] using h
 | x::r,vs,h=>by simp only [eF] at h;obtain ⟨v,vr,rfl,h1,h2⟩:=h;simp only [bO];exact ⟨v,vr,rfl,SZ h1,EY r vr h2⟩
theorem Ta {x:PV} {v:Value} (h:VP g.I w x v):VR g H w x v:=by
 cases x with
 | tup ps =>simp only [VP] at h;obtain ⟨vs,rfl,h⟩:=h;simp only [VR];exact ⟨vs,rfl,EY _ _ h⟩
 | _=>simp only [VP] at h;exact SZ h
theorem Lp {x:PV} {v:Value} {I:Nat→Prop} (hs:x.scal=true) (h:RC I w x [v]):VR g H w' x v:=by
 cases x<;>simp [PV.scal] at hs
 ·simp only [RC,iH,and_true] at h;simp only [VR];exact h
 ·simp only [RC,iH,and_true] at h;simp only [VR];exact h
theorem Tb {I:Nat→Prop}:∀ (l:List PV) (vs:List Value),qD l=true→yaQ I w l vs→bG g H w' l vs
 | [],vs,_,h=>by simpa only [yaQ,bG] using h
 | x::r,vs,hs,h=>by simp only [qD,bQ] at hs;simp only [yaQ] at h;obtain ⟨v,vr,rfl,ho,h1,h2⟩:=h;simp only [bG];exact ⟨v,vr,rfl,ho,Lp hs.1 h1,Tb r vr hs.2 h2⟩
theorem tS {x:PV} {v:Value} {I:Nat→Prop} (hs:(match x with | .agg cs=>qD cs | x=>x.scal)=true) (h:dI I w x v):VR g H w' x v:=by
 cases x with
 | agg cs =>simp only [dI] at h;obtain ⟨vs,rfl,h⟩:=h;simp only [VR];exact ⟨vs,rfl,Tb _ _ hs h⟩
 | bool b=>simp only [dI] at h;exact Lp hs h
 | int k n=>simp only [dI] at h;exact Lp hs h
 | _=>simp [PV.scal] at hs
theorem Lq {x:PV} {v:Value} {I:Nat→Prop} (hs:x.scalar=true) (h:VP I w x v):VR g H w' x v:=by
 unfold PV.scalar at hs;split at hs
 ·simp only [VP] at h;exact tS (x:=.agg _) hs h
 ·simp only [VP,eF] at h;obtain ⟨vs,rfl,rfl⟩:=h;simp only [VR,bO];exact ⟨_,rfl,rfl⟩
 ·simp only [VP,eF] at h;obtain ⟨vs,rfl,v,vr,rfl,h1,rfl⟩:=h;simp only [VR,bO];exact ⟨_,rfl,_,_,rfl,tS hs h1,rfl⟩
 ·simp only [VP,eF] at h;obtain ⟨vs,rfl,v,vr,rfl,h1,v2,vr2,rfl,h2,rfl⟩:=h;simp only [bQ] at hs;simp only [VR,bO];exact ⟨_,rfl,_,_,rfl,tS hs.1 h1,_,_,rfl,tS hs.2 h2,rfl⟩
 ·simp only [VP,eF] at h;obtain ⟨vs,rfl,v,vr,rfl,h1,v2,vr2,rfl,h2,v3,vr3,rfl,h3,rfl⟩:=h;simp only [bQ] at hs;simp only [VR,bO];exact ⟨_,rfl,_,_,rfl,tS hs.1 h1,_,_,rfl,tS hs.2.1 h2,_,_,rfl,tS hs.2.2 h3,rfl⟩
 ·rename_i h1 h2 h3 h4 h5
  cases x with
  | bool b=>simp only [VP] at h;exact tS (x:=.bool b) rfl h
  | int k n=>simp only [VP] at h;exact tS (x:=.int k n) rfl h
  | _=>simp [PV.scal] at hs
theorem Rel.back (h:Rel E nt g F H tmps w) {nt2:Nat} {g2:Gh} {F2:aG} {tmps2:Array Value} (hn:Nx { g with β:=fun _=>none } g2 H H' w w') (h2:Rel E nt2 g2 F2 H' tmps2 w') :
  Rel E nt { g2 with β:=g.β } F H' tmps w'∧Nx g { g2 with β:=g.β } H H' w w':=by
 have hon:On g { g2 with β:=g.β } H H' w w':=⟨hn.on.keeps,hn.on.hext,hn.on.shape,hn.on.lam⟩;have hon2:On g2 { g2 with β:=g.β } H' H' w' w':=⟨fun _ x=>⟨x,rfl⟩,fun _ hb x=>⟨hb,x,rfl,rfl,.inr ⟨rfl,rfl⟩⟩,fun _ cur _ x=>⟨cur,x,rfl⟩,rfl⟩;refine ⟨h.upd hon rfl hn.size (fun s b hb=>?_) (fun id hb e=>?_) h2.dist h2.rsome h2.imm,?_⟩
 ·have hlt:=(h.bimm s b hb).2;have hnr:¬RngR g b:=fun ⟨id,oo,hr⟩=>h.brho s b id oo hb hr
  refine ⟨hn.kept b hlt hnr (fun ⟨s,hs⟩=>by simp at hs),fun hi=>?_,fun hr=>hnr (hn.rng b hlt hr)⟩;rcases hn.immb b hlt hi with h3 | h3
  ·exact (h.bimm s b hb).1 h3
  ·exact hnr h3
 ·obtain ⟨b,oo,hk⟩:=h2.heap id hb e;exact ⟨b,oo,nZ hon2 hk rfl rfl (fun x=>x)⟩
 ·exact ⟨hn.os,hn.tape,hn.output,hn.drawn,hn.size,fun b hb hr _=>hn.kept b hb hr (fun ⟨s,hs⟩=>by simp at hs),hn.rng,hn.immb,fun b _ hm=>hm,hon⟩
theorem Rel.enter (h:Rel E nt g F H tmps w) {args:List PV} {vs:List Value} (hv:bO g H w args vs) (n:Nat) :
  Rel E n { g with β:=fun _=>none } (sJ 0 args) H (vs.toArray++Array.replicate (n-vs.toArray.size) undef) w:=by
 have hon:On g { g with β:=fun _=>none } H H w w:=⟨fun _ x=>⟨x,rfl⟩,fun _ hb x=>⟨hb,x,rfl,rfl,.inr ⟨rfl,rfl⟩⟩,fun _ cur _ x=>⟨cur,x,rfl⟩,rfl⟩;refine { size:=by simp;omega,frame:=?_,heap:=fun id hb e=>?_,dist:=h.dist,rsome:=h.rsome,bdist:=fun s s' b e=>by simp at e,brho:=fun s b id o e=>by simp at e,bimm:=fun s b e=>by simp at e,imm:=h.imm,glob:=h.glob }
 ·have key:∀ (args:List PV) (vs:List Value) (i:Nat),bO g H w args vs→∀ s fv,fget (sJ i args) s=some fv→∃ p v,fv=.v p∧i≤s∧vs[s-i]?=some v∧VR g H w p v:=by
   intro args;induction args with
   | nil=>intro vs i _ s fv e;simp [sJ,fget] at e
   | cons x r ih=>
    intro vs i hv s fv e;simp only [bO] at hv;obtain ⟨v,vr,rfl,h1,h2⟩:=hv;simp only [sJ,fget] at e;split at e
    ·rename_i hs
     cases e
     subst hs;exact ⟨x,v,rfl,bW _,by simp,h1⟩
    ·obtain ⟨p,u,e1,e2,e3,e4⟩:=ih vr (i+1) h2 s fv e;refine ⟨p,u,e1,by omega,?_,e4⟩;have:s-i=(s-(i+1))+1:=by omega
     rw [this];simpa using e3
  intro s fv e;obtain ⟨p,v,rfl,_,hv',hp⟩:=key args vs 0 hv s fv e;simp only [cG];have:(vs.toArray++Array.replicate (n-vs.toArray.size) undef).getD s undef=v:=by
   simp only [Nat.sub_zero] at hv';obtain ⟨hlt,e⟩:=zW.1 hv';simp [Array.getElem?_append,hlt,e]
  rw [this];exact pE hon p v hp
 ·obtain ⟨b,oo,hk⟩:=h.heap id hb e;exact ⟨b,oo,nZ hon hk rfl rfl (fun x=>x)⟩
theorem Tc {α β:Type} (f:α→Sem β) (w:World):∀ (l:List α) (r:List β),l.length=r.length→(∀ (i:Nat) (x:α) (y:β),l[i]?=some x→r[i]?=some y→(f x).run P w=.ok y w)→(l.mapM f).run P w=.ok r w
 | [],[],_,_=>by simp
 | [],_::_,h,_=>by simp at h
 | _::_,[],h,_=>by simp at h
 | x::l,y::r,h,hf=>by have h1:=hf 0 x y rfl rfl;have h2:=Tc f w l r (by simpa using h) (fun i a b ha hb=>hf (i+1) a b ha hb);simp [h1,h2]
def Aq (tmps:Array Value):ResultVar→Sem Value
 | .tmp t=>pure (tmps.getD t undef)
 | .cell a t=>do loadVar t (← asAddr (tmps.getD a undef))
theorem S8 (fn:Func) (tmps:Array Value):results fn tmps=(do let vs ← fn.results.mapM (Aq tmps);pure (if h:vs.size=1 then vs[0] else .tuple vs)):=by unfold results;congr 1
theorem S9 (hr:Rel E nt g F H tmps w) {rv:ResultVar} {x:ARes} {p:PV} (hc:yfj P [rv]=some [x]) (h:yAi F H x=some p) :
  ∃ v,(Aq tmps rv).run P w=.ok v w∧VR g H w p v:=by
 cases rv with
 | tmp t=>
  simp [yfj] at hc;subst hc;simp only [yAi] at h;split at h
  ·rename_i q hq
   cases h
   have:=hr.frame t _ hq;simp only [cG] at this;exact ⟨_,rfl,this⟩
  ·cases h
 | cell ad t=>
  simp only [yfj] at hc;split at hc
  ·rename_i gg i l hg hi hl;simp at hl;subst hl;simp at hc;subst hc;simp only [yAi] at h;split at h
   ·rename_i row hrow;have hf:=hr.frame ad _ hrow;simp only [cG] at hf;obtain ⟨b,hβ,ht,hnI,cur,T,hcur,hrr⟩:=hf;have hat:At w b 0 cur.toList:=At.of_cells hcur (by simp [wU]);obtain ⟨v,h1,h2⟩:=Ld (P:=P) (xJ hrr) hat h hg hi;refine ⟨v,?_,h2⟩;simpa [Aq,ht,asAddr] using h1
   ·rename_i id ext i0 off hpt;have hf:=hr.frame ad _ hpt;simp only [cG,VR] at hf;obtain ⟨hb,a0,hH,hle,hv,hcond⟩:=hf;split at h
    ·rename_i hb' hH';rw [hH] at hH';cases hH';split at h
     ·rename_i hext;split at h
      ·rename_i row hrow;obtain ⟨b,oo,hρ,hi0,ha⟩:=hcond hext;obtain ⟨b',o',hk⟩:=hr.heap id hb hH;have e0:=hk.at_;rw [hρ] at e0;cases e0;obtain ⟨vs,hl,hrr,hat⟩:=oA _ _ _ _ _ _ hk.rows hrow;obtain ⟨v,h1,h2⟩:=Ld (P:=P) (xJ hrr) hat h hg hi;refine ⟨v,?_,h2⟩;simp only [Aq,hv,ha];simpa [asAddr] using h1
      ·cases h
     ·cases h
    ·cases h
   ·cases h
  ·cases hc
end
abbrev Fc (ro:Option Nat):Fence:={ Fence.wide with round:=ro }
theorem Td {ro:Option Nat} {n:Nat} {P:Program} {f:FuncId} {args:Array Value} {w:World} {R:Ending→World→Prop}:CallsIn (Fc ro) n P f args w R↔Calls P f args w R:=callsIn_wide (n:=n)
structure FB (g:Gh) (w:World) (b:Nat) (o:Obj):Prop where
 at_:w.heap[b]?=some o
 rng:¬RngR g b
 bet:¬kC g b
 imm:¬g.I b
theorem FB.lt {g:Gh} {w:World} {b:Nat} {o:Obj} (h:FB g w b o):b<w.heap.size:=EI h.at_
theorem FB.nx {g g':Gh} {H H':Hp} {w w':World} {b:Nat} {o:Obj} (h:FB g w b o) (n:Nx g g' H H' w w'):FB g' w' b o:=
 ⟨(n.kept b h.lt h.rng h.bet).trans h.at_,fun x=>h.rng (n.rng b h.lt x),fun x=>h.bet (n.bet b h.lt x),fun x=>(n.immb b h.lt x).elim h.imm h.rng⟩
structure LoopR (P:Program) (c:LCtx) (g:Gh) (H:Hp) (w:World) (l:Nat) (r:Loop) (nt:Nat):Prop where
 free:FB g w l (.loop r)
 ready:r.state=.ready
 none_:r.pending=none
 ps:r.params.toList=c.ps
 lt:∀ p∈c.ps,p<nt
 code:∃ loc fg,ybv P loc fg nt true r.assign=c.az∧ybv P loc fg nt true r.body=c.bd
 size:nt≤r.tmps.size
 frame:∀ s fv,fget c.F s=some fv→∃ p,fv=.v p∧VR g H w p (r.tmps.getD s undef)
theorem LoopR.nx {P:Program} {c:LCtx} {g g':Gh} {H H':Hp} {w w':World} {l:Nat} {r:Loop} {nt:Nat} (h:LoopR P c g H w l r nt) (n:Nx g g' H H' w w'):LoopR P c g' H' w' l r nt:=
 ⟨h.free.nx n,h.ready,h.none_,h.ps,h.lt,h.code,h.size,fun s fv hs=>by
  obtain ⟨p,e,hp⟩:=h.frame s fv hs;exact ⟨p,e,pE n.on p _ hp⟩⟩
structure Lps (P:Program) (E:Env) (g:Gh) (H:Hp) (w:World):Prop where
 loop:∀ k c l,E.ctx k=some c→g.lam k=some l→∃ r nt,LoopR P c g H w l r nt
 inj:∀ k k' l,(E.ctx k).isSome=true→(E.ctx k').isSome=true→g.lam k=some l→g.lam k'=some l→k=k'
 top:∀ k,E.yn≤k→g.lam k=none
theorem Lps.nx {P:Program} {E:Env} {g g':Gh} {H H':Hp} {w w':World} (h:Lps P E g H w) (n:Nx g g' H H' w w'):Lps P E g' H' w':=
 have e:=n.on.lam
 ⟨fun k c l hc hl=>by
  obtain ⟨r,nt,hr⟩:=h.loop k c l hc (by rw [← e];exact hl);exact ⟨r,nt,hr.nx n⟩,fun k k' l h1 h2 h3 h4=>h.inj k k' l h1 h2 (by rw [← e];exact h3) (by rw [← e];exact h4),fun k hk=>by rw [e];exact h.top k hk⟩
def ybr (P:Program) (E:Env) (call:Nat→List PV→Hp→Option (PV×Hp)):Prop:=
 ∀ (f:Nat) (args:List PV) (H:Hp) (r:PV) (H':Hp),call f args H=some (r,H') →
  ∀ (nt:Nat) (g:Gh) (F:aG) (tmps:Array Value) (w:World) (vs:List Value),Rel E nt g F H tmps w→Lps P E g H w→bO g H w args vs →
   kU P f vs.toArray w fun v w'=>∃ g',Nx g g' H H' w w'∧Rel E nt g' F H' tmps w'∧VR g' H' w' r v
def EZ (P:Program) (E:Env) (call:Nat→List PV→Hp→Option (PV×Hp)):Prop:=∀ y,E.yn≤y→ybr P (E.ats y) call
theorem EZ.ok {P:Program} {E:Env} {call:Nat→List PV→Hp→Option (PV×Hp)} (h:EZ P E call):ybr P E call:=h E.yn (bW _)
theorem Lps.none_ {P:Program} {E:Env} {g:Gh} {H:Hp} {w:World} (e:∀ k,g.lam k=none):Lps P E g H w:=
 ⟨fun k c l _ h=>(by rw [e] at h;cases h),fun k k' l _ _ h=>(by rw [e] at h;cases h),fun k _=>e k⟩
theorem Lps.env {P:Program} {E E':Env} {g:Gh} {H:Hp} {w:World} (e:E'.ctx=E.ctx) (e2:E'.yn=E.yn) (h:Lps P E g H w):Lps P E' g H w:=
 ⟨fun k c l hc hl=>h.loop k c l (by rw [← e];exact hc) hl,fun k k' l h1 h2=>h.inj k k' l (by rw [← e];exact h1) (by rw [← e];exact h2),fun k hk=>h.top k (by rw [← e2];exact hk)⟩
theorem ybr.env {P:Program} {E E':Env} {call:Nat→List PV→Hp→Option (PV×Hp)} (e:E'.glob=E.glob) (e2:E'.ctx=E.ctx) (e3:E'.yn=E.yn) (h:ybr P E call):ybr P E' call:=by intro f args H r H' hc nt g F tmps w vs hr hl hv;obtain hh:=h f args H r H' hc nt g F tmps w vs (hr.env e.symm) (hl.env e2.symm e3.symm) hv;exact hh.mono fun v w' ⟨g',h1,h2,h3⟩=>⟨g',h1,h2.env e,h3⟩
def Ar (E:Env) (nt:Nat) (g:Gh) (F:aG) (H:Hp) (tmps:Array Value) (w:World) (o:Option Nat) (H':Hp) (l:Nat):Ending→World→Prop
 | .returned v,w'=>(match o with
  | none=>v=.bool true∧∃ g',Nx g g' H H' w w'∧Rel E nt g' F H' tmps w'
  | some i=>v=.bool false∧∃ g' w1 r,Nx g g' H H' w w1∧Rel E nt g' F H' tmps w1∧FB g' w1 l (.loop r)∧w'=w1.putObj l (.loop { r with state:=.done,pending:=some (.exit i) }))
 | _,_=>False
structure EO (P:Program) (E:Env):Prop where
 sum:∀ n az r,E.sum n az=some r→lD P E.glob n az r
 fns:∀ n fn,E.fns n=some fn→∃ f loc fg,P.funcs[n]?=some f∧Al P loc fg f=some fn
 eff:EZ P E E.effx
 dn:∀ n,E.dn n=true→∀ (args:Array Value) (w:World),(callFunc n args).run P w=.ok (.enter n args) w∧CallsDIn (Fc none) 0 P n args .returning w fun e u w'=>u=.returning∧w'=w∧∃ v,e=.returned v
 top:∀ k,E.yn≤k→E.ctx k=none
 yl:∀ y k az H o H',E.yl y k az H=some (o,H')→E.yn≤y→∀ nt g F tmps w vs l,Rel E nt g F H tmps w→Lps P (E.ats y) g H w→g.lam k=some l→bO g H w az vs →
  ∃ (fn:FuncId) (tmps1:Array Value) (assign body:Code),(Instr.yield l vs.toArray).run P w=.ok (.round l fn tmps1 assign body) w ∧
   ∀ ro,RoundIn (Fc ro) 0 P l fn tmps1 assign body w (Ar E nt g F H tmps w o H' l)
section
variable {P:Program} {E:Env} {nt:Nat} {g g':Gh} {F F':aG} {H H':Hp} {a:Act} {tmps:Array Value} {w w' w'':World} {o:Oper}
theorem T1 {rv:ResultVar} {l:List ResultVar} {rs:List ARes} (h:yfj P (rv::l)=some rs):∃ x r,rs=x::r∧yfj P [rv]=some [x]∧yfj P l=some r:=by
 cases rv with
 | tmp t=>
  simp only [yfj] at h ⊢;split at h
  ·rename_i r hr;cases h;exact ⟨_,_,rfl,rfl,hr⟩
  ·cases h
 | cell a t=>
  simp only [yfj] at h ⊢;split at h
  ·rename_i gg i r h1 h2 h3;cases h;exact ⟨_,_,rfl,by rw [h1,h2],h3⟩
  ·cases h
theorem Te (hr:Rel E nt g F H tmps w):∀ (l:List ResultVar) (rs:List ARes) (ps:List PV),yfj P l=some rs→yjc F H rs=some ps →
  ∃ vs:List Value,vs.length=l.length∧(∀ (i:Nat) (x:ResultVar) (y:Value),l[i]?=some x→vs[i]?=some y→(Aq tmps x).run P w=.ok y w)∧bO g H w ps vs
 | [],rs,ps,hc,h=>by simp [yfj] at hc;subst hc;simp [yjc] at h;subst h;exact ⟨[],rfl,fun i x y e=>by simp at e,by simp [bO]⟩
 | rv::l,rs,ps,hc,h=>by
  obtain ⟨x,r,rfl,h1,h2⟩:=T1 hc;simp only [yjc] at h;split at h
  ·rename_i p hp;split at h
   ·rename_i ps' hps
    cases h
    obtain ⟨v,h3,h4⟩:=S9 hr h1 hp;obtain ⟨vs,h5,h6,h7⟩:=Te hr l r ps' h2 hps;refine ⟨v::vs,by simp [h5],fun i x y e1 e2=>?_,by simp only [bO];exact ⟨v,vs,rfl,h4,h7⟩⟩
    cases i with
    | zero=>simp at e1 e2;subst e1;subst e2;exact h3
    | succ i=>simp at e1 e2;exact h6 i x y e1 e2
   ·cases h
  ·cases h
theorem T3 (hr:Rel E nt g F H tmps w) {fn:Func} {rs:List ARes} {ps:List PV} (hc:yfj P fn.results.toList=some rs) (h:yjc F H rs=some ps) :
  ∃ v,(results fn tmps).run P w=.ok v w∧VR g H w (qI ps) v:=by
 obtain ⟨vs,h1,h2,h3⟩:=Te hr _ rs ps hc h;have hm:(fn.results.mapM (Aq tmps)).run P w=.ok vs.toArray w:=by
  have:=Tc (P:=P) (Aq tmps) w fn.results.toList vs (by rw [h1]) (fun i x y e1 e2=>h2 i x y e1 e2);rw [Array.mapM_eq_mapM_toList];simp [this]
 have key:(results fn tmps).run P w=.ok (if h:vs.toArray.size=1 then vs.toArray[0] else .tuple vs.toArray) w:=by rw [S8];simp [hm]
 rw [key];refine ⟨_,rfl,?_⟩
 cases ps with
 | nil=>simp only [bO] at h3;subst h3;simp [qI,VR,bO]
 | cons p r=>
  cases r with
  | nil =>simp only [bO] at h3;obtain ⟨v,vr,rfl,h4,rfl⟩:=h3;simpa [qI] using h4
  | cons q r =>have h3':=h3;simp only [bO] at h3;obtain ⟨v,vr,rfl,h4,v2,vr2,rfl,h5,h6⟩:=h3;simp only [qI,VR];exact ⟨v::v2::vr2,by simp,h3'⟩
theorem pK.wp {ro:Option Nat} (hd:∀ c,o.op≠.defer c) (h:pK E nt g H a w o.dst F' H' ((execOp a.eval o).run P w)) {next:Act→World→Prop} {Q:Exit→Act→World→Prop}
  (hn:∀ v w' g',Nx g g' H H' w w'→Rel E nt g' F' H' (a.put o.dst v).tmps w'→next (a.put o.dst v) w'):o.wpIn (Fc ro) 0 P a w next Q:=by
 obtain ⟨v,w',g',hr,h1,h2⟩:=h;refine ⟨fun _ _=>trivial,?_⟩;rw [Oper.semAt_eq _ _ _ hd];rcases hr with hr | ⟨hr,rfl⟩
 ·rw [hr];exact hn _ _ _ h1 h2
 ·rw [hr];exact hn _ _ _ h1 h2
theorem Fa:∀ (l1 l2:List PV) (v1 v2:List Value),bO g H w l1 v1→bO g H w l2 v2→bO g H w (l1++l2) (v1++v2)
 | [],l2,v1,v2,h1,h2=>by simp only [bO] at h1;subst h1;exact h2
 | x::r,l2,v1,v2,h1,h2=>by simp only [bO] at h1;obtain ⟨v,vr,rfl,h3,h4⟩:=h1;simp only [List.cons_append,bO];exact ⟨v,vr++v2,rfl,h3,Fa r l2 vr v2 h4 h2⟩
theorem Tf {w w':World} {I I':Nat→Prop} (k:sK I I' w w'):∀ (l:List PV) (vs:List Value),eF I w l vs→eF I' w' l vs
 | [],vs,h=>by simpa only [eF] using h
 | x::r,vs,h=>by simp only [eF] at h ⊢;obtain ⟨v,vr,e,h1,h2⟩:=h;exact ⟨v,vr,e,HD k h1,Tf k r vr h2⟩
theorem Lr {w w':World} {I I':Nat→Prop} (k:sK I I' w w') {x:PV} {v:Value} (h:VP I w x v):VP I' w' x v:=by
 cases x with
 | tup ps =>simp only [VP] at h ⊢;obtain ⟨vs,e,h⟩:=h;exact ⟨vs,e,Tf k _ _ h⟩
 | _=>simp only [VP] at h ⊢;exact HD k h
theorem T4 {nt:Nat} {g:Gh} {F:aG} {H:Hp} {tmps:Array Value} {w:World} (hr:Rel E nt g F H tmps w) {r q:PV} {v:Value} (h:VR g H w r v) (hq:purR H r=some q) :
  ∃ g' H',Rel E nt g' F H' tmps w∧Nx g g' H H' w w∧VP g'.I w q v:=by
 unfold purR at hq;split at hq
 ·rename_i ps;split at hq
  ·rename_i qs H1 hp
   cases hq
   simp only [VR] at h;obtain ⟨vs,rfl,h⟩:=h;obtain ⟨g',h1,h2,_,_,h3⟩:=Cg _ _ _ _ _ _ hr h hp;exact ⟨g',H1,h1,h2,by simp only [VP];exact ⟨vs,rfl,h3⟩⟩
  ·cases hq
 ·split at hq
  ·rename_i x hx q' H1 hp
   cases hq
   obtain ⟨g',h1,h2,_,_,_,h3⟩:=Cf hr h hp;refine ⟨g',H1,h1,h2,?_⟩
   cases q<;>first | exact h3 | (simp only [dI] at h3)
  ·cases hq
theorem Lt {nt:Nat} {F:aG} {tmps:Array Value} {w:World} {esz b:Nat}:∀ (rows ys:List PV) (o:Nat) (H H':Hp) (g:Gh),Rel E nt g F H tmps w→gK g H w rows esz b o→ydT H rows=some (ys,H') →
  ∃ g',Rel E nt g' F H' tmps w∧Nx g g' H H' w w∧g'.ρ=g.ρ∧ys.length=rows.length∧dK g'.I w ys esz b o
 | [],ys,o,H,H',g,hr,h,hq=>by simp only [ydT,bV,Prod.mk.injEq] at hq;obtain ⟨rfl,rfl⟩:=hq;exact ⟨g,hr,Nx.refl g H w,rfl,rfl,by simp only [dK]⟩
 | x::r,ys,o,H,H',g,hr,h,hq=>by
  simp only [ydT] at hq;split at hq
  ·rename_i y H1 hy;split at hq
   ·rename_i ys H2 hys
    cases hq
    simp only [gK] at h;obtain ⟨⟨vs,hl,h1,h2⟩,h3⟩:=h;obtain ⟨v,rfl,h4⟩:∃ v,vs=[v]∧VR g H w x v:=by
     cases x<;>first | exact h1.2 | simp [yeg] at hy
    obtain ⟨g1,r1,n1,_,p1,c1,o1⟩:=Ce hr h4 hy;obtain ⟨g2,r2,n2,p2,l2,c2⟩:=Lt r ys (o+esz) H1 H' g1 r1 (Ca n1.on _ _ rfl _ _ h3) hys;refine ⟨g2,r2,n1.trans n2,p2.trans p1,by simp [l2],?_⟩;simp only [dK];exact ⟨⟨[v],hl,gL n2.on.keeps y [v] c1,h2⟩,c2⟩
   ·cases hq
  ·cases hq
theorem T5 {nt:Nat} {g:Gh} {F:aG} {H:Hp} {tmps:Array Value} {w:World} (hr:Rel E nt g F H tmps w) {r q:PV} {v:Value} (h:VR g H w r v) (hq:KI H r=some q) :
  ∃ g' H',Rel E nt g' F H' tmps w∧Nx g g' H H' w w∧VP (fun b=>g'.I b∨RngR g' b) w q v:=by
 unfold KI at hq;split at hq
 ·rename_i id lo len ext cap k n;split at hq
  ·rename_i hb e;split at hq
   ·rename_i hc;split at hq
    ·rename_i ys H1 hp
     cases hq
     simp only [VR,bO] at h;obtain ⟨vs,rfl,v1,vr1,rfl,ho,v2,vr2,rfl,hi,rfl⟩:=h;obtain ⟨hb',ad,c,e',hle,hv,hc1,hm,hcc,hcond⟩:=ho;rw [e] at e';cases e';obtain ⟨b,o1,hρ,hle2,had,_,_⟩:=hcond hc.1;obtain ⟨b',o',hk⟩:=hr.heap id hb e;have hk1:=hk.at_;rw [hρ] at hk1;cases hk1;obtain ⟨g2,r2,n2,p2,l2,c2⟩:=Lt _ ys _ H H1 g hr (EX hk.rows lo len) hp;refine ⟨g2,H1,r2,n2,?_⟩;simp only [VP,eF,dI];refine ⟨_,rfl,v1,_,rfl,?_,v2,_,rfl,?_,rfl⟩
     ·simp only [RC];have hl:ys.length=len:=by rw [l2,iW,iX];omega
      refine ⟨some ad,len,c,by rw [hv],hl.symm,hc1,hm,?_⟩
      by_cases hz:len=0
      ·left;exact jA (by omega)
      ·right;have hI:g2.I b∨RngR g2 b:=.inr ⟨id,o1,by rw [p2];exact hρ⟩;refine ⟨b,o1+lo*hb.esz,hb.esz,by rw [had (by omega)],hI,hk.esz,pF _ _ _ _ fun i x hx=>?_⟩;obtain ⟨vs,k1,k2,k3⟩:=mB _ _ _ _ i x c2 hx;exact ⟨vs,k1,gL (fun b hb=>⟨.inl hb,rfl⟩) x vs k2,k3⟩
     ·simp only [RC];exact ⟨by rw [hi.1],hi.2⟩
    ·cases hq
   ·cases hq
  ·cases hq
 ·cases hq
theorem Tg {nt:Nat} {g:Gh} {F:aG} {H:Hp} {tmps:Array Value} {w:World} (hr:Rel E nt g F H tmps w) {b:Bool} {r q:PV} {v:Value} (h:VR g H w r v) (hq:jC b H r=some q) :
  ∃ g' H',Rel E nt g' F H' tmps w∧Nx g g' H H' w w∧VP (fun b=>g'.I b∨RngR g' b) w q v:=by
 have base:∀ {q:PV},purR H r=some q→∃ g' H',Rel E nt g' F H' tmps w∧Nx g g' H H' w w∧VP (fun b=>g'.I b∨RngR g' b) w q v:=fun hq=>by
  obtain ⟨g',H',h1,h2,h3⟩:=T4 hr h hq;exact ⟨g',H',h1,h2,Lr (fun b hb=>⟨.inl hb,rfl⟩) h3⟩
 unfold jC at hq
 cases b with
 | false=>exact base hq
 | true=>
  simp only [cond_true] at hq;split at hq
  ·cases hq
   simp only [VR] at h;exact ⟨g,H,hr,Nx.refl g H w,by simp only [VP,dI];exact h⟩
  ·split at hq
   ·rename_i q' hq'
    cases hq
    exact base hq'
   ·exact T5 hr h hq
theorem run_pure {b:Bool} {call} (hc:ybr P E call) {I:Nat→Prop} {w:World} {f:Nat} {args:List PV} {vs:List Value} {r q:PV} {H:Hp} (himm:∀ b,I b→b<w.heap.size)
  (hg:∀ n x,E.glob n=some x→I n∧∃ vs,0<vs.length∧RC I w x vs∧At w n 0 vs) (hv:eF I w args vs) (hin:call f args []=some (r,H)) (h:jC b H r=some q) :
  kU P f vs.toArray w fun v w'=>Bel w.heap.size w w'∧VP (fun b=>I b∨(w.heap.size≤b∧b<w'.heap.size)) w' q v:=by
 let g0:Gh:=⟨fun _=>none,fun _=>none,I,fun _=>none⟩;have hr:Rel E 0 g0 [] [] #[] w:=by
  refine ⟨iB _,fun s fv e=>by simp [fget] at e,fun id hb e=>by simp at e,fun id id' hb b o b' o' e=>by simp at e,fun id b o e=>by simp [g0] at e,fun s s' b e=>by simp [g0] at e,fun s b id o e=>by simp [g0] at e,fun s b e=>by simp [g0] at e,himm,hg⟩
 refine (hc f args [] r H hin 0 g0 [] #[] w vs hr (Lps.none_ fun _=>rfl) (EY (g:=g0) _ _ hv)).mono ?_;rintro v w' ⟨g',n1,r1,hvr⟩;obtain ⟨g2,H2,r2,n2,hvp⟩:=Tg r1 hvr h;have n3:=n1.trans n2;have noR:∀ b,¬RngR g0 b:=fun b ⟨id,o,e⟩=>by simp [g0] at e
 have noM:∀ b,¬kC g0 b:=fun b ⟨s,e⟩=>by simp [g0] at e
 refine ⟨⟨⟨n3.os,n3.tape,n3.output,n3.size,fun k hk=>n3.kept k hk (noR k) (noM k)⟩,n3.drawn⟩,Lr (fun b hb=>⟨?_,rfl⟩) hvp⟩;rcases qAz b w.heap.size with h1 | h1
 ·rcases hb with hb | hb
  ·rcases n3.immb b h1 hb with h2 | h2
   ·exact .inl h2
   ·exact absurd h2 (noR b)
  ·exact absurd (n3.rng b h1 hb) (noR b)
 ·exact .inr ⟨h1,hb.elim (r2.imm b) r2.brng⟩
theorem HK:∀ (H:Hp) (id:Nat),(gJ H)[id]?=(H[id]?).map Ag
 | [],id=>by simp [gJ]
 | b::r,0=>rfl
 | b::r,id+1=>by simp only [gJ,Hg];exact HK r id
theorem Th:∀ (H:Hp),(gJ H).length=H.length
 | []=>rfl
 | b::r=>by simp only [gJ,kR,Th r]
structure IceG (g g1:Gh):Prop where
 rng:∀ b,RngR g1 b→g1.I b
 bet:∀ b,¬kC g1 b
theorem Rel.ice (hr:Rel E nt g F H tmps w) {args:List PV} {vs:List Value} (hv:bO g H w args vs):∃ g1,Rel E nt g1 [] (gJ H) tmps w∧bO g1 (gJ H) w args vs∧IceG g g1:=by
 let g1:Gh:={ g with β:=fun _=>none,I:=fun b=>g.I b∨RngR g b };have hon:On g g1 H (gJ H) w w:=by
  refine ⟨fun b h=>⟨.inl h,rfl⟩,fun id hb e=>⟨Ag hb,by rw [HK,e];rfl,rfl,rfl,.inr ⟨rfl,rfl⟩⟩,fun b cur T e=>⟨cur,e,rfl⟩,rfl⟩
 refine ⟨g1,?_,BZ hon _ _ hv,⟨fun b h=>.inr h,fun b ⟨s,e⟩=>by simp [g1] at e⟩⟩;refine { size:=hr.size,frame:=fun s fv e=>by simp [fget] at e,heap:=fun id hb e=>?_,dist:=fun id id' hb b o b' o' e hf=>?_,rsome:=fun id b o e=>by rw [Th];exact hr.rsome id b o e,bdist:=fun s s' b e=>by simp [g1] at e,brho:=fun s b id o e=>by simp [g1] at e,bimm:=fun s b e=>by simp [g1] at e,imm:=fun b h=>?_,glob:=fun n x hx=>?_ }
 ·rw [HK,nR] at e;obtain ⟨hb0,e0,rfl⟩:=e;obtain ⟨b,o,hk⟩:=hr.heap id hb0 e0;refine ⟨b,o,hk.at_,hk.esz,hk.cells,Ca hon _ _ rfl _ _ hk.rows,fun hp=>?_,fun _=>.inr ⟨id,o,hk.at_⟩,fun h=>by cases h⟩;refine pF _ _ _ _ fun i x hx'=>?_
  obtain ⟨vs,h1,h2,h3⟩:=mB _ _ _ _ i x (hk.pure hp) hx';exact ⟨vs,h1,gL hon.keeps x vs h2,h3⟩
 ·rw [HK,nR] at e;obtain ⟨hb0,e0,rfl⟩:=e
  cases hf
 ·rcases h with h | h
  ·exact hr.imm b h
  ·exact hr.brng h
 ·obtain ⟨h1,vs,h2,h3,h4⟩:=hr.glob n x hx;exact ⟨.inl h1,vs,h2,gL hon.keeps x vs h3,h4⟩
theorem T7 {Hi:Hp} {g1:Gh} (hr:Rel E nt g1 F Hi tmps w) (hi:∀ b,RngR g1 b→g1.I b) {x q:PV} {v:Value} (h:VR g1 Hi w x v) (hq:purP Hi x=some q):dI g1.I w q v:=by
 have back:∀ {g':Gh} {H':Hp},Rel E nt g' F H' tmps w→Nx g1 g' Hi H' w w→sK g'.I g1.I w w:=fun r n b hb=>⟨(n.immb b (r.imm b hb) hb).elim id (hi b),rfl⟩
 have base:∀ {q:PV},(match yca Hi x with | some (q,_)=>some q | none=>none)=some q→dI g1.I w q v:=fun hq=>by
  split at hq
  ·rename_i q' H' hp
   cases hq
   obtain ⟨g',r',n',_,_,_,h3⟩:=Cf hr h hp;exact HD (back r' n') h3
  ·cases hq
 unfold purP at hq;split at hq
 ·rename_i id ext i off;split at hq
  ·rename_i hb e;split at hq
   ·rename_i he;split at hq
    ·rename_i row hrow;split at hq
     ·rename_i q' H' hp
      cases hq
      simp only [VR] at h;obtain ⟨hb',a,e',hle,hv,hcond⟩:=h;rw [e] at e';cases e';obtain ⟨b,o,hρ,hlt,ha⟩:=hcond he;obtain ⟨b',o',hk⟩:=hr.heap id hb e;have hk1:=hk.at_;rw [hρ] at hk1;cases hk1;obtain ⟨vs,k1,k2,k3⟩:=oA _ _ _ _ i row hk.rows hrow;have hrc:RC g1.I w q' vs:=by
       cases row with
       | agg cs=>
        have hvr:VR g1 Hi w (.agg cs) (.agg vs.toArray):=by simp only [VR];exact ⟨vs,rfl,k2⟩
        obtain ⟨g',r',n',_,_,h3,_⟩:=Cf hr hvr hp;exact gL (back r' n') _ _ (by simpa [Value.cells] using h3)
       | _ =>simp only [aX] at k2;obtain ⟨_,v1,rfl,k2⟩:=k2;simp only [yca] at hp;obtain ⟨g',r',n',_,_,h3,_⟩:=Ce hr k2 hp;exact gL (back r' n') _ _ h3
      simp only [dI];refine ⟨b,o+i*hb.esz,hb.esz,?_,hi b ⟨id,o,hρ⟩,hk.esz,by simp,?_⟩
      ·rw [hv,ha];simp
      ·simp only [dK];exact ⟨⟨vs,k1,hrc,k3⟩,trivial⟩
     ·cases hq
    ·cases hq
   ·cases hq
  ·cases hq
 ·cases hq
  simp only [VR] at h;simp only [dI];exact h
 ·exact base hq
theorem Ti {Hi:Hp} {g1:Gh} (hr:Rel E nt g1 F Hi tmps w) (hi:∀ b,RngR g1 b→g1.I b):∀ (l ys:List PV) (vs:List Value),bO g1 Hi w l vs→yxd Hi l=some ys→eF g1.I w ys vs
 | [],ys,vs,h,hq=>by simp only [yxd,bV] at hq;subst hq;simpa only [bO,eF] using h
 | x::r,ys,vs,h,hq=>by
  simp only [yxd] at hq;split at hq
  ·rename_i y hy;split at hq
   ·rename_i ys' hys
    cases hq
    simp only [bO] at h;obtain ⟨v,vr,rfl,h1,h2⟩:=h;simp only [eF];exact ⟨v,vr,rfl,T7 hr hi h1 hy,Ti hr hi r ys' vr h2 hys⟩
   ·cases hq
  ·cases hq
theorem Tj (hE:EO P E) {call} (hc:ybr P E call) (hr:Rel E nt g F H tmps w) {n:Nat} {ps:List PV} {vs:List Value} {r:PV} (hv:eF g.I w ps vs) (h:ydk E call n ps=some r) :
  kU P n vs.toArray w fun v w'=>Bel w.heap.size w w'∧VP (fun b=>g.I b∨(w.heap.size≤b∧b<w'.heap.size)) w' r v:=by
 unfold ydk at h;split at h
 ·rename_i r' hs
  cases h
  exact hE.sum n ps _ hs g.I w vs hr.imm hr.glob hv
 ·split at h
  ·split at h
   ·rename_i r0 H1 hcall;exact run_pure hc hr.imm hr.glob hv hcall h
   ·cases h
  ·cases h
theorem T8 (hE:EO P E) {call} (hc:ybr P E call) (hr:Rel E nt g F H tmps w) (hL:Lps P E g H w) {f:PV} {fv:Value} {az:List PV} {vs:List Value} {r:PV} (h:nX E call f az H=some (r,H')) (hf:VR g H w f fv) (has:bO g H w az vs) :
  (∃ (n:Nat) (first captured:List Value),fv=.func (.func n) first.toArray captured.toArray ∧
   kU P n (first++vs++captured).toArray w fun v w'=>∃ g',Nx g g' H H' w w'∧Rel E nt g' F H' tmps w'∧VR g' H' w' r v) ∨
  (∃ l,fv=.func (.yield l) #[] #[]∧∃ (fn:FuncId) (tmps1:Array Value) (assign body:Code),(Instr.yield l vs.toArray).run P w=.ok (.round l fn tmps1 assign body) w ∧
   ∀ ro,RoundIn (Fc ro) 0 P l fn tmps1 assign body w fun e w'=>match e with | .returned v=>∃ g',Nx g g' H H' w w'∧Rel E nt g' F H' tmps w'∧VR g' H' w' r v | _=>False):=by
 unfold nX at h;split at h
 ·rename_i n first captured;simp only [VR] at hf;obtain ⟨fs,cs,rfl,hfs,hcs,_⟩:=hf;refine .inl ⟨n,fs,cs,rfl,?_⟩;have hall:=Fa _ _ _ _ (Fa _ _ _ _ hfs has) hcs;split at h
  ·split at h
   ·rename_i ps hp;split at h
    ·rename_i r0 hs;split at h
     ·rename_i hsc
      cases h
      obtain ⟨g1,r1,v1,e1⟩:=hr.ice hall;refine (Tj hE hc r1 (Ti r1 e1.rng _ _ _ v1 hp) hs).mono fun v w' ⟨hb,hv⟩=>?_
      obtain ⟨g2,h1,h2,_⟩:=hr.grew hb;exact ⟨g2,h2,h1,Lq hsc hv⟩
     ·cases h
    ·cases h
   ·cases h
  split at h
  ·rename_i res hres;split at hres
   ·rename_i ps H1 hp;split at hres
    ·rename_i s hs;obtain ⟨g1,r1,n1,b1,p1,v1⟩:=Cg _ _ _ _ _ _ hr hall hp;refine (Tj hE hc r1 v1 hs).mono fun v w' ⟨hb,hv⟩=>?_
     split at hres
     ·rename_i hsc
      cases hres;cases h
      obtain ⟨g2,h1,h2,_⟩:=hr.grew hb;exact ⟨g2,h2,h1,Lq hsc hv⟩
     ·cases hres;cases h
      obtain ⟨g2,h1,h2,h3,h4,h5⟩:=r1.grew hb;refine ⟨g2,n1.trans h2,h1,Ta ?_⟩;rw [h5];exact hv
    ·cases hres
   ·cases hres
  ·split at h
   ·cases h
   split at h
   ·split at h
    ·rename_i ps H1 hp;obtain ⟨g1,r1,n1,b1,p1,v1⟩:=Cg _ _ _ _ _ _ hr hall hp;refine (hc n ps H1 r H' h nt g1 F tmps w _ r1 (hL.nx n1) (EY _ _ v1)).mono fun v w' ⟨g2,h1,h2,h3⟩=>⟨g2,n1.trans h1,h2,h3⟩
    ·cases h
   ·exact hc n _ H r H' h nt g F tmps w _ hr hL hall
 ·rename_i k;split at h
  ·rename_i H1 hy
   cases h
   simp only [VR,bO] at hf;obtain ⟨fs,cs,rfl,rfl,rfl,hk⟩:=hf;simp only [Gh.okF] at hk;obtain ⟨l,hl⟩:=BN.1 hk;obtain ⟨fn,t1,as1,bd,h1,h2⟩:=hE.yl E.yn k az H none H' hy (bW _) nt g F tmps w vs l hr (hL.env rfl rfl) hl has;refine .inr ⟨l,by simp only [Gh.tr];rw [hl];rfl,fn,t1,as1,bd,h1,fun ro=>(h2 ro).mono fun e w' he=>?_⟩
   cases e with
   | returned v=>obtain ⟨rfl,g',n1,r1⟩:=he;exact ⟨g',n1,r1,by simp [VR]⟩
   | panicked _=>exact he
   | outgrown=>exact he
  ·cases h
 ·cases h
theorem T9 {nt:Nat} {g:Gh} {F:aG} {H H':Hp} {tmps:Array Value} {w:World} (hr:Rel E nt g F H tmps w) {r q:PV} {v:Value} (h:VR g H w r v) (hq:yHH H r=some (q,H')) :
  ∃ g',Rel E nt g' F H' tmps w∧Nx g g' H H' w w∧VP g'.I w q v:=by
 unfold yHH at hq;split at hq
 ·rename_i ps;split at hq
  ·rename_i qs H1 hp
   cases hq
   simp only [VR] at h;obtain ⟨vs,rfl,h⟩:=h;obtain ⟨g',h1,h2,_,_,h3⟩:=Cg _ _ _ _ _ _ hr h hp;exact ⟨g',h1,h2,by simp only [VP];exact ⟨vs,rfl,h3⟩⟩
  ·cases hq
 ·obtain ⟨g',h1,h2,_,_,_,h3⟩:=Cf hr h hq;refine ⟨g',h1,h2,?_⟩
  cases q<;>first | exact h3 | (simp only [dI] at h3)
theorem Tk:∀ (l:List PV) (vs:List Value) (j:Nat) (x:PV),bO g H w l vs→l[j]?=some x→∃ v,vs[j]?=some v∧VR g H w x v
 | [],_,j,x,_,e=>by simp at e
 | y::r,vs,j,x,h,e=>by
  simp only [bO] at h;obtain ⟨v,vr,rfl,h1,h2⟩:=h
  cases j with
  | zero=>simp at e;subst e;exact ⟨v,rfl,h1⟩
  | succ j=>simp at e;simpa using Tk r vr j x h2 e
theorem Lu:∀ (l:List PV) (vs:List Value) (j:Nat) (x:PV) (v:Value),bO g H w l vs→VR g H w x v→bO g H w (l.set j x) (vs.set j v)
 | [],vs,j,x,v,h,_=>by simp only [bO] at h;subst h;simp [bO]
 | y::r,vs,j,x,v,h,hx=>by
  simp only [bO] at h;obtain ⟨v0,vr,rfl,h1,h2⟩:=h
  cases j with
  | zero=>simp only [List.set_cons_zero,bO];exact ⟨_,_,rfl,hx,h2⟩
  | succ j=>simp only [List.set_cons_succ,bO];exact ⟨_,_,rfl,h1,Lu r vr j x v h2 hx⟩
theorem Tl {α:Type}:∀ (l:List α) (j:Nat) (x y:α),l[j]?=some x→(l.set j y).set j x=l
 | [],j,_,_,e=>by simp at e
 | z::r,0,x,y,e=>by simp at e;subst e;rfl
 | z::r,j+1,x,y,e=>by simp at e;simp only [List.set_cons_succ,Tl r j x y e]
theorem U2 {call} (hc:ybr P E call) (hr:Rel E nt g F H tmps w) {x:LocC} {r:PV} (h:BU call x H=some (r,H')) (hj:∃ x0,x.all[x.j]?=some x0∧locY x0=some (x.id,x.y)) {vs:List Value} (hv:bO g H w x.all vs) :
  kU P x.n vs.toArray w fun v w'=>∃ g',Nx g g' H H' w w'∧Rel E nt g' F H' tmps w'∧VR g' H' w' r v:=by
 unfold BU at h;split at h
 case h_2=>cases h
 rename_i az H1 hp;split at h
 case h_2=>cases h
 rename_i b hb;split at h
 case isFalse=>cases h
 rename_i hb2;split at h
 case h_2=>cases h
 rename_i q rows hq
 cases h
 unfold yEu at hq;split at hq
 case h_2=>cases hq
 rename_i r0 H2 hcall;split at hq
 case h_2=>cases hq
 rename_i q' H3 hpur;split at hq
 case h_2=>cases hq
 rename_i b2 hb3;split at hq
 case isFalse=>cases hq
 rename_i hb4
 cases hq
 obtain ⟨x0,hj,hy⟩:=hj;obtain ⟨vj,hvj,howv⟩:=Tk _ _ _ _ hv hj;obtain ⟨g1,r1,n1,b1,p1,v1⟩:=Cg _ _ _ _ _ _ hr (Lu _ _ x.j (.int .i64 0) (.int .i64 0) hv (by simp only [VR];exact ⟨trivial,by unfold gD;decide⟩)) hp;have how1:=pE n1.on _ _ howv;let g0:Gh:=⟨fun k=>if k=0 then g1.ρ x.id else none,fun _=>none,g1.I,fun _=>none⟩;obtain ⟨bl,o,hk⟩:=r1.heap x.id b hb;have hr0:Rel E 0 g0 [] [b] #[] w:=by
  refine ⟨iB _,fun s fv e=>by simp [fget] at e,fun id hb' e=>?_,fun id id' hb' b' o' b'' o'' e hf hne e1 e2=>?_,fun id b' o' e=>?_,fun s s' b' e=>by simp [g0] at e,fun s b' id o' e=>by simp [g0] at e,fun s b' e=>by simp [g0] at e,r1.imm,r1.glob⟩
  ·cases id with
   | zero =>simp at e;subst e;exact ⟨bl,o,by simp [g0,hk.at_],hk.esz,hk.cells,KV (hk.pure hb2.2),hk.pure,hk.fz,hk.live⟩
   | succ id=>simp at e
  ·have h1:id=0:=Classical.byContradiction fun hne=>by simp [g0,hne] at e1
   have h2:id'=0:=Classical.byContradiction fun hne=>by simp [g0,hne] at e2
   omega
  ·have h1:id=0:=Classical.byContradiction fun hne=>by simp [g0,hne] at e
   subst h1;simp
 have hvs0:bO g0 [b] w (az.set x.j x.y) vs:=by
  have h1:bO g0 [b] w az (vs.set x.j (.int .i64 0)):=EY (g:=g0) _ _ v1;have h2:VR g0 [b] w x.y vj:=by
   cases x0<;>simp only [locY,bV,Prod.mk.injEq,reduceCtorEq] at hy
   case own id lo len ext cap=>
    obtain ⟨h9,h10⟩:=hy;subst h9;rw [← h10];simp only [VR,qK] at how1 ⊢;obtain ⟨hb',a,c,e,h3,h4,h5,h6,h7,h8⟩:=how1;rw [hb] at e
    cases e
    exact ⟨b,a,c,rfl,h3,h4,h5,h6,h7,fun hl=>by simpa [g0] using h8 hl⟩
   case ptr id ext i off=>
    obtain ⟨h9,h10⟩:=hy;subst h9;rw [← h10];simp only [VR,PtrR] at how1 ⊢;obtain ⟨hb',a,e,h3,h4,h5⟩:=how1;rw [hb] at e
    cases e
    exact ⟨b,a,rfl,h3,h4,fun hl=>by simpa [g0] using h5 hl⟩
  have h3:=Lu _ _ x.j _ _ h1 h2
  rwa [Tl _ _ _ _ hvj] at h3
 refine (hc x.n _ [b] r0 H2 hcall 0 g0 [] #[] w vs hr0 (Lps.none_ fun _=>rfl) hvs0).mono ?_;rintro v w' ⟨g2,n2,r2,hvr⟩;obtain ⟨g3,r3,n3,hvp⟩:=T9 r2 hvr hpur;have n4:=n2.trans n3;have hR0:∀ k,RngR g0 k→k=bl:=fun k ⟨id,o',e⟩=>by
  have h1:id=0:=Classical.byContradiction fun hne=>by simp [g0,hne] at e
  subst h1;simp [g0,hk.at_] at e;exact e.1.symm
 have noF:∀ k,¬kC g0 k:=fun k ⟨s,e⟩=>by simp [g0] at e
 have hblR:RngR g1 bl:=⟨x.id,o,hk.at_⟩;have hlive:=hk.live hb2.1;obtain ⟨bl3,o3,hk3⟩:=r3.heap 0 b2 hb3;obtain ⟨b2',e2',z2,p2,l2⟩:=n4.on.hext 0 b rfl;rw [hb3] at e2'
 cases e2'
 have hρ3:g3.ρ 0=some (bl,o):=by
  rcases l2 with l2|⟨_,l2⟩
  ·omega
  ·rw [l2];simp [g0,hk.at_]
 have hat:bl3=bl∧o3=o:=by have:=hk3.at_;rw [hρ3] at this;simp at this;exact ⟨this.1.symm,this.2.symm⟩
 obtain ⟨rfl,rfl⟩:=hat
 have kept:∀ k,k<w.heap.size→k≠bl3→w'.heap[k]?=w.heap[k]?:=fun k hk1 hne=>n4.kept k hk1 (fun h=>hne (hR0 k h)) (noF k)
 have immk:∀ k,k<w.heap.size→g3.I k→g1.I k∨k=bl3:=fun k hk1 hi=>(n4.immb k hk1 hi).elim .inl fun h=>.inr (hR0 k h)
 let g4:Gh:={ g1 with I:=g3.I };have hon:On g1 g4 H1 (H1.set x.id { b with rows:=b2.rows }) w w':=by
  refine ⟨n4.on.keeps,fun id hb' e=>?_,n4.on.shape,rfl⟩
  by_cases hid:id=x.id
  ·subst hid;rw [hb] at e
   cases e
   exact ⟨{ b with rows:=b2.rows },by rw [wT (zW.1 hb).1],rfl,rfl,.inr ⟨hb4.2.symm,rfl⟩⟩
  ·exact ⟨hb',by rw [rW (fun e=>hid e.symm)];exact e,rfl,rfl,.inr ⟨rfl,rfl⟩⟩
 have hnx:Nx g1 g4 H1 (H1.set x.id { b with rows:=b2.rows }) w w':=by refine ⟨n4.os,n4.tape,n4.output,n4.drawn,n4.size,fun k h1 h2 h3=>kept k h1 fun e=>h2 (e ▸ hblR),fun k _ h=>h,fun k h1 h2=>(immk k h1 h2).elim .inl fun e=>.inr (e ▸ hblR),fun k _ h=>h,hon⟩
 have rowsK:∀ k,w'.heap[k]?=w.heap[k]?→∀ {l:List PV} {z o':Nat},dK g1.I w l z k o'→dK g3.I w' l z k o':=fun k hk1 {l z o'} hrc=>pF _ _ _ _ fun i y hy=>by
  obtain ⟨us,q1,q2,q3⟩:=mB _ _ _ _ i y hrc hy;exact ⟨us,q1,gL n4.on.keeps y us q2,q3.keep hk1⟩
 have brng:∀ k id o',g1.ρ id=some (k,o')→k<w.heap.size:=fun k id o' e=>r1.brng ⟨id,o',e⟩
 refine ⟨g4,n1.trans hnx,⟨r1.size,fun s fv e=>?_,fun id hb' e=>?_,fun id1 id2 hb' k o' k' o'' e hf hne e1 e2=>?_,fun id k o' e=>by rw [nW];exact r1.rsome id k o' e,r1.bdist,r1.brho,fun s k e=>?_,r3.imm,fun m y hy=>?_⟩,?_⟩
 ·have h1:=r1.frame s fv e
  cases fv with
  | v p=>simp only [cG] at h1 ⊢;exact pE hon p _ h1
  | box row=>
   simp only [cG] at h1 ⊢;obtain ⟨k,k1,k2,k3,cur,T,k4,k5⟩:=h1;have hks:=(r1.bimm s k k1).2;have hne:k≠bl3:=fun e=>r1.brho s k x.id o3 k1 (e ▸ hk.at_)
   exact ⟨k,k1,k2,fun hi=>(immk k hks hi).elim k3 hne,cur,T,by rw [kept k hks hne];exact k4,tQ hon row _ k5⟩
  | bp s' off=>exact h1
 ·by_cases hid:id=x.id
  ·subst hid;rw [wT (zW.1 hb).1] at e
   cases e
   have hpu3:dK g3.I w' b2.rows b.esz bl3 o3:=by rw [← z2];exact hk3.pure (by rw [p2];exact hb2.2)
   obtain ⟨cur,T,k1,k2⟩:=hk3.cells;exact ⟨bl3,o3,hk.at_,hk.esz,⟨cur,T,k1,by rw [← z2];exact k2⟩,KV hpu3,fun _=>hpu3,fun hf=>(by rw [hb2.1] at hf;cases hf),fun _=>hk3.live hb4.1⟩
  ·rw [rW (fun e=>hid e.symm)] at e;obtain ⟨k,o',kk⟩:=r1.heap id hb' e;have hks:=brng k id o' kk.at_;have hne:k≠bl3:=fun ek=>r1.dist x.id id b bl3 o3 k o' hb hb2.1 (fun e=>hid e.symm) hk.at_ kk.at_ ek.symm
   obtain ⟨cur,T,k1,k2⟩:=kk.cells;exact ⟨k,o',kk.at_,kk.esz,⟨cur,T,by rw [kept k hks hne];exact k1,k2⟩,Ca hon _ _ (kept k hks hne) _ _ kk.rows,fun hp'=>rowsK k (kept k hks hne) (kk.pure hp'),fun hf=>(n4.on.keeps k (kk.fz hf)).1,fun hf hi=>(immk k hks hi).elim (kk.live hf) hne⟩
 ·by_cases hid:id1=x.id
  ·subst hid;exact r1.dist _ id2 b k o' k' o'' hb hb2.1 hne e1 e2
  ·rw [rW (fun e=>hid e.symm)] at e;exact r1.dist id1 id2 hb' k o' k' o'' e hf hne e1 e2
 ·obtain ⟨h1,h2⟩:=r1.bimm s k e;exact ⟨fun hi=>(immk k h2 hi).elim h1 fun ek=>r1.brho s k x.id o3 e (ek ▸ hk.at_),oW h2 n4.size⟩
 ·obtain ⟨h1,vs',h2,h3,h4⟩:=r1.glob m y hy;exact ⟨(n4.on.keeps m h1).1,vs',h2,gL n4.on.keeps y vs' h3,h4.keep (n4.on.keeps m h1).2⟩
 ·exact Ta (g:=g4) hvp
theorem yC7 (hE:EO P E) {call} (hc:ybr P E call) (hr:Rel E nt g F H tmps w) (hL:Lps P E g H w) {f:PV} {fv:Value} {az:List PV} {vs:List Value} {r:PV} (h:ykc E call f az H=some (r,H')) (hf:VR g H w f fv) (has:bO g H w az vs) :
  (∃ (n:Nat) (first captured:List Value),fv=.func (.func n) first.toArray captured.toArray ∧
   kU P n (first++vs++captured).toArray w fun v w'=>∃ g',Nx g g' H H' w w'∧Rel E nt g' F H' tmps w'∧VR g' H' w' r v) ∨
  (∃ l,fv=.func (.yield l) #[] #[]∧∃ (fn:FuncId) (tmps1:Array Value) (assign body:Code),(Instr.yield l vs.toArray).run P w=.ok (.round l fn tmps1 assign body) w ∧
   ∀ ro,RoundIn (Fc ro) 0 P l fn tmps1 assign body w fun e w'=>match e with | .returned v=>∃ g',Nx g g' H H' w w'∧Rel E nt g' F H' tmps w'∧VR g' H' w' r v | _=>False):=by
 unfold ykc at h;split at h
 ·rename_i x hx;unfold ynY at hx;split at hx
  case h_2=>cases hx
  rename_i n first captured;split at hx
  case h_2=>cases hx
  rename_i j _;split at hx
  case h_2=>cases hx
  rename_i x0 hj;split at hx
  case h_2=>cases hx
  rename_i id y hy
  cases hx
  simp only [VR] at hf;obtain ⟨fs,cs,rfl,hfs,hcs,_⟩:=hf;exact .inl ⟨n,fs,cs,rfl,U2 hc hr h ⟨x0,hj,hy⟩ (Fa _ _ _ _ (Fa _ _ _ _ hfs has) hcs)⟩
 ·exact T8 hE hc hr hL h hf has
theorem U3 {ro:Option Nat} (hE:EO P E) {call} (hc:ybr P E call) (hr:Rel E nt g F H a.tmps w) (hL:Lps P E g H w) {c:Call} {f:Operand} {f':Opd} {az':List Opd} {out:Out} (ho:o.op=.call c) (hcal:c.callee=.value f) (hf:opd f=some f') (has:dR c.args.toList=some az')
  (h:yar E call F H (.call f' az')=some out) (hd:∀ d,o.dst=some d→d<nt) (hp:yek (iZ F out.bx) o.dst out.x=some F') {next:Act→World→Prop} {Q:Exit→Act→World→Prop}
  (hn:∀ v w' g',Nx g g' H out.h w w'→Rel E nt g' F' out.h (a.put o.dst v).tmps w'→next (a.put o.dst v) w'):o.wpIn (Fc ro) 0 P a w next Q:=by
 simp only [yar] at h;split at h
 ·rename_i fv av hfv hav;split at h
  ·rename_i r H1 hcall;rw [cV h] at hp hn;have hstep:∀ v w' g',Nx g g' H H1 w w'→Rel E nt g' F H1 a.tmps w'→VR g' H1 w' r v→next (a.put o.dst v) w':=by
    intro v w' g' h1 h2 h3;have:=pK.of (dst:=o.dst) (a:=a) (F':=F') (w:=w) (g:=g) (H:=H) (r:=.ok (.value v) w') (out:=⟨some (.v r),none,H1⟩) ⟨v,w',g',.inl rfl,h1,h2,h3⟩ hd hp (fun row e=>by cases e);obtain ⟨v2,w2,g2,e,h4,h5⟩:=this;rcases e with e | ⟨e,_⟩
    ·cases e;exact hn _ _ _ h4 h5
    ·cases e
   have hargs:(c.args.map a.eval)=(c.args.toList.map a.eval).toArray:=by rw [← Array.toList_map]
   refine ⟨fun _ _=>trivial,?_⟩;rw [Oper.semAt_eq _ _ _ (fun c' e=>by rw [ho] at e;cases e)];rcases yC7 hE hc hr hL hcall (dN hr hf hfv) (ET hr _ _ _ has hav) with ⟨n,first,captured,hfe,hR⟩ | ⟨l,hfe,fn,t1,as1,bd,h1,h2⟩
   ·have hrun:(execOp a.eval o).run P w=(callFunc n (first++c.args.toList.map a.eval++captured).toArray).run P w:=by
     have e2:(first++c.args.toList.map a.eval++captured).toArray=first.toArray++c.args.map a.eval++captured.toArray:=by rw [hargs];simp
     rw [e2];simp [execOp,ho,resolve,hcal,hfe,Deferred.ofValue,invoke]
    unfold kU at hR;rw [hrun];split at hR
    ·rename_i v w' e;rw [e];obtain ⟨g',h1,h2,h3⟩:=hR;exact hstep v w' g' h1 h2 h3
    ·rename_i f2 a2 w' e;rw [e];simp only [Oper.uponIn];refine ⟨fun h=>by simp [Fence.wide] at h,Td.2 (Calls.mono hR fun e w'' he=>?_)⟩
     cases e with
     | returned v=>obtain ⟨g',h1,h2,h3⟩:=he;exact hstep v w'' g' h1 h2 h3
     | panicked _=>exact he.elim
     | outgrown=>exact he.elim
    ·exact hR.elim
   ·have hrun:(execOp a.eval o).run P w=.ok (.round l fn t1 as1 bd) w:=by
     rw [← h1];simp [execOp,ho,resolve,hcal,hfe,Deferred.ofValue,invoke];rw [hargs]
    rw [hrun];simp only [Oper.uponIn];refine ⟨fun h=>by simp [Fence.wide] at h,(h2 ro).mono fun e w'' he=>?_⟩
    cases e with
    | returned v=>obtain ⟨g',h1,h2,h3⟩:=he;exact hstep v w'' g' h1 h2 h3
    | panicked _=>exact he.elim
    | outgrown=>exact he.elim
  ·cases h
 ·cases h
theorem U4 {loc:List Nat} (h:oD (kD P loc o)=true):∃ c f f' az',o.op=.call c∧c.callee=.value f∧opd f=some f'∧dR c.args.toList=some az'∧kD P loc o=.call f' az':=by
 unfold kD at h
 cases ho:o.op<;>rw [ho] at h<;>simp only [] at h
 case call c=>
  cases hc:c.callee with
  | value f=>
   rw [hc] at h;simp only [] at h;split at h
   ·rename_i f' az' h1 h2;refine ⟨c,f,f',az',rfl,hc,h1,h2,?_⟩;unfold kD;rw [ho];simp only [hc,h1,h2]
   ·cases h
  | builtin b=>
   rw [hc] at h;simp only [EM] at h
   repeat' split at h
   all_goals cases h
  | invoke _ _=>rw [hc] at h;cases h
 all_goals (try unfold EL at h)
 all_goals (repeat' split at h)
 all_goals first | cases h | skip
structure Agr (g:Gh) (w w':World):Prop where
 os:w'.os=w.os
 tape:w'.tape=w.tape
 output:w'.output=w.output
 drawn:w.drawn≤w'.drawn
 size:w.heap.size≤w'.heap.size
 blk:∀ b,b<w.heap.size→w'.heap[b]?=w.heap[b]?∨(¬RngR g b∧¬kC g b∧¬g.I b∧∀ cur T,w.heap[b]?≠some (Obj.cells cur T (0,0)))
theorem Agr.on (k:Agr g w w') (hi:∀ b,g.I b→b<w.heap.size):On g g H H w w':=
 ⟨fun b h=>⟨h,(k.blk b (hi b h)).elim id fun x=>absurd h x.2.2.1⟩,eU.refl g H,fun b cur T e=>(k.blk b (EI e)).elim (fun x=>⟨cur,x.trans e,rfl⟩) fun x=>absurd e (x.2.2.2 cur T),rfl⟩
theorem Rel.agr (h:Rel E nt g F H tmps w) (k:Agr g w w'):Rel E nt g F H tmps w':=by
 have hon:=k.on (H:=H) h.imm;refine h.upd hon rfl k.size (fun s b hb=>⟨(k.blk b (h.bimm s b hb).2).elim id fun x=>absurd ⟨s,hb⟩ x.2.1,(h.bimm s b hb).1,fun ⟨i,o,e⟩=>h.brho s b i o hb e⟩) (fun id hb e=>?_) h.dist h.rsome fun b hb=>oW (h.imm b hb) k.size
 obtain ⟨b,o,hk⟩:=h.heap id hb e;have hr:RngR g b:=⟨id,o,hk.at_⟩;exact ⟨b,o,nZ hon hk ((k.blk b (h.brng hr)).elim (fun x=>x) fun x=>absurd hr x.1) rfl (fun x=>x)⟩
theorem Nx.later (n:Nx g g' H H' w w') (k:Agr g' w' w'') (hi:∀ b,g'.I b→b<w'.heap.size) (hk:∀ b,b<w.heap.size→w''.heap[b]?=w'.heap[b]?):Nx g g' H H' w w'':=by have o:=n.on.trans (k.on (H:=H') hi);exact ⟨k.os.trans n.os,k.tape.trans n.tape,k.output.trans n.output,jB n.drawn k.drawn,jB n.size k.size,fun b hb h1 h2=>(hk b hb).trans (n.kept b hb h1 h2),n.rng,n.immb,n.bet,o⟩
def Obj.rec:Obj→Prop
 | .loop _ | .deferred _=>True
 | _=>False
theorem FB.agr {b:Nat} {o o':Obj} (h:FB g w b o) (ho:Obj.rec o):Agr g w (w.putObj b o'):=by
 refine ⟨rfl,rfl,rfl,bW _,by simp,fun k hk=>?_⟩
 by_cases e:k=b
 ·subst e;refine .inr ⟨h.rng,h.bet,h.imm,fun cur T e=>?_⟩;rw [h.at_] at e
  cases e
  exact ho
 ·exact .inl (World.putObj_heap_other e)
theorem FB.other {b l:Nat} {o o':Obj} (h:FB g w b o) (e:b≠l):FB g (w.putObj l o') b o:=⟨(World.putObj_heap_other e).trans h.at_,h.rng,h.bet,h.imm⟩
theorem Lv {n0:Nat} {D:List Nat}:∀ (i:Nat) (H:Hp) (id:Nat),(iJ n0 D i H)[id]?=(H[id]?).map fun b=>bif Nat.ble n0 (i+id)&&memB D (i+id) then ⟨b.fz,b.pu,b.esz,[]⟩ else b
 | _,[],id=>by simp [iJ]
 | i,b::r,0=>by simp [iJ]
 | i,b::r,id+1=>by simp only [iJ,Hg];rw [Lv (i+1) r id,show i+1+id=i+(id+1) by omega]
theorem Tm {n0:Nat} {D:List Nat}:∀ (i:Nat) (H:Hp),(iJ n0 D i H).length=H.length
 | _,[]=>rfl
 | i,_::r=>by simp only [iJ,kR,Tm (i+1) r]
def Gh.cut (g:Gh) (n:Nat):Gh:={ g with ρ:=fun id=>bif Nat.blt id n then g.ρ id else none }
theorem Lw {a b:Nat} (h:Nat.blt a b=true):a<b:=zZ h
theorem Fb {a b:Nat} (h:a<b):Nat.blt a b=true:=BP h
section
variable {n:Nat} {I:Nat→Bool} {H':Hp}
mutual
theorem HL (hI:∀ id,I id=true→H'[id]?=H[id]?∧id<n):∀ (x:PV) (v:Value),mA (fun _=>true) I x=true→VR g H w x v→VR (g.cut n) H' w x v
 | .bool b,v,_,h=>by simpa only [VR] using h
 | .int q m,v,_,h=>by simpa only [VR] using h
 | .nilp,v,_,h=>by simpa only [VR] using h
 | .nils,v,_,h=>by simpa only [VR] using h
 | .emp,v,_,h=>by simpa only [VR] using h
 | .mt _,v,_,h=>by simpa only [VR] using h
 | .nilf,v,_,h=>by simpa only [VR] using h
 | .ptr id ext i off,v,hc,h=>by simp only [mA] at hc;simp only [VR,PtrR,Gh.cut,Fb (hI id hc).2,cond_true] at h ⊢;obtain ⟨hb,a,e,h⟩:=h;exact ⟨hb,a,(hI id hc).1.trans e,h⟩
 | .eptr rows i off,v,_,h=>by simp only [VR] at h ⊢;exact h
 | .data rows,v,_,h=>by simp only [VR] at h ⊢;exact h
 | .sub id ext i off n _,v,hc,h=>by simp only [mA] at hc;simp only [VR,PtrR,Gh.cut,Fb (hI id hc).2,cond_true] at h ⊢;obtain ⟨a0,⟨hb,a,e,h⟩,h2⟩:=h;exact ⟨a0,⟨hb,a,(hI id hc).1.trans e,h⟩,h2⟩
 | .own id lo len ext cap,v,hc,h=>by simp only [mA] at hc;simp only [VR,qK,Gh.cut,Fb (hI id hc).2,cond_true] at h ⊢;obtain ⟨hb,a,c,e,h⟩:=h;exact ⟨hb,a,c,(hI id hc).1.trans e,h⟩
 | .fn f a b,v,hc,h=>by
  simp only [mA,bQ] at hc;simp only [VR] at h ⊢;obtain ⟨az,bs,e,h1,h2,h3⟩:=h;refine ⟨az,bs,?_,HN hI a az hc.2.1 h1,HN hI b bs hc.2.2 h2,?_⟩
  ·cases f<;>exact e
  ·cases f<;>exact h3
 | .agg cs,v,hc,h=>by simp only [mA] at hc;simp only [VR] at h ⊢;obtain ⟨vs,e,h1⟩:=h;exact ⟨vs,e,Lx hI cs vs hc h1⟩
 | .tup ps,v,hc,h=>by simp only [mA] at hc;simp only [VR] at h ⊢;obtain ⟨vs,e,h1⟩:=h;exact ⟨vs,e,HN hI ps vs hc h1⟩
theorem HN (hI:∀ id,I id=true→H'[id]?=H[id]?∧id<n):∀ (l:List PV) (vs:List Value),kT (fun _=>true) I l=true→bO g H w l vs→bO (g.cut n) H' w l vs
 | [],vs,_,h=>by simpa only [bO] using h
 | x::r,vs,hc,h=>by simp only [kT,bQ] at hc;simp only [bO] at h ⊢;obtain ⟨v,vr,e,h1,h2⟩:=h;exact ⟨v,vr,e,HL hI x v hc.1 h1,HN hI r vr hc.2 h2⟩
theorem Lx (hI:∀ id,I id=true→H'[id]?=H[id]?∧id<n):∀ (l:List PV) (vs:List Value),kT (fun _=>true) I l=true→bG g H w l vs→bG (g.cut n) H' w l vs
 | [],vs,_,h=>by simpa only [bG] using h
 | x::r,vs,hc,h=>by simp only [kT,bQ] at hc;simp only [bG] at h ⊢;obtain ⟨v,vr,e,o,h1,h2⟩:=h;exact ⟨v,vr,e,o,HL hI x v hc.1 h1,Lx hI r vr hc.2 h2⟩
end
theorem Tn (hI:∀ id,I id=true→H'[id]?=H[id]?∧id<n):∀ (x:PV) (vs:List Value),mA (fun _=>true) I x=true→aX g H w x vs→aX (g.cut n) H' w x vs:=by
 intro x vs hc h
 cases x<;>simp only [aX] at h ⊢ <;> first
  | (simp only [mA] at hc;exact Lx hI _ _ hc h)
  | (obtain ⟨o,v,e,h1⟩:=h;exact ⟨o,v,e,HL hI _ _ hc h1⟩)
theorem To (hI:∀ id,I id=true→H'[id]?=H[id]?∧id<n) (esz b:Nat):∀ (l:List PV) (o:Nat),kT (fun _=>true) I l=true→gK g H w l esz b o→gK (g.cut n) H' w l esz b o
 | [],_,_,_=>by simp only [gK]
 | x::r,o,hc,h=>by simp only [kT,bQ] at hc;simp only [gK] at h ⊢;obtain ⟨⟨vs,hl,h1,h2⟩,h3⟩:=h;exact ⟨⟨vs,hl,Tn hI x vs hc.1 h1,h2⟩,To hI esz b r (o+esz) hc.2 h3⟩
end
mutual
theorem Tp {J:Nat→Prop} {C:Fn→Bool} {I:Nat→Bool}:∀ (x:PV) (vs:List Value),RC J w x vs→mA C I x=true
 | .bool b,vs,h=>rfl
 | .int q n,vs,h=>rfl
 | .data rows,vs,h=>rfl
 | .agg cs,vs,h=>by simp only [RC] at h;simp only [mA];exact Tq cs vs h
 | .nilp,vs,h | .nils,vs,h | .emp,vs,h | .mt _,vs,h | .nilf,vs,h=>by simp [RC] at h
 | .ptr ..,vs,h | .eptr ..,vs,h | .own ..,vs,h | .sub ..,vs,h | .fn ..,vs,h | .tup ..,vs,h=>by simp [RC] at h
theorem Tq {J:Nat→Prop} {C:Fn→Bool} {I:Nat→Bool}:∀ (l:List PV) (vs:List Value),yaQ J w l vs→kT C I l=true
 | [],vs,h=>rfl
 | x::r,vs,h=>by simp only [yaQ] at h;obtain ⟨v,vr,e,o,h1,h2⟩:=h;simp only [kT,Tp x [v] h1,Tq r vr h2,Bool.and_self]
end
theorem Tr {J:Nat→Prop} {C:Fn→Bool} {I:Nat→Bool}:∀ (l:List PV) (esz b o:Nat),dK J w l esz b o→kT C I l=true
 | [],_,_,_,_=>rfl
 | x::r,esz,b,o,h=>by simp only [dK] at h;obtain ⟨⟨vs,hl,h1,h2⟩,h3⟩:=h;simp only [kT,Tp x vs h1,Tr r esz b (o+esz) h3,Bool.and_self]
theorem Ts {I:Nat→Bool}:∀ (F:aG) (s:Nat) (fv:FV),iK I F=true→fget F s=some fv→(match fv with | .v p=>mA (fun _=>true) I p=true | .box p=>mA (fun _=>true) I p=true | .bp _ _=>True)
 | [],_,_,_,e=>by simp [fget] at e
 | (k,x)::r,s,fv,h,e=>by
  simp only [fget] at e
  by_cases hk:k=s
  ·rw [Sj hk] at e
   cases e
   cases x with
   | v p=>simp only [iK,bQ] at h;exact h.1
   | box p=>simp only [iK,bQ] at h;exact h.1
   | bp a b=>trivial
  ·rw [Sk hk] at e;refine Ts r s fv ?_ e
   cases x with
   | v p=>simp only [iK,bQ] at h;exact h.2
   | box p=>simp only [iK,bQ] at h;exact h.2
   | bp a b=>simpa only [iK] using h
theorem Tt {D:List Nat} {n:Nat}:∀ k,n≤nY D n k
 | 0=>bW _
 | k+1=>by
  simp only [nY]
  cases memB D (n+k) with
  | true=>exact Tt k
  | false=>simp only [cond_false];omega
theorem yDb {I:Nat→Bool}:∀ (H:Hp) (id:Nat) (hb:HB),qJ I H=true→H[id]?=some hb→hb.pu=true∨kT (fun _=>true) I hb.rows=true
 | [],_,_,_,e=>by simp at e
 | b::r,id,hb,h,e=>by
  simp only [qJ,bQ,qA] at h
  cases id with
  | zero=>simp at e;subst e;exact h.1
  | succ id=>simp at e;exact yDb r id hb h.2 e
theorem Rel.gc {w0:World} {g0:Gh} {H0:Hp} (hn:Nx g0 g H0 H w0 w) (h:Rel E nt g F H tmps w):∃ g',Nx g0 g' H0 (EF F H0.length H) w0 w∧Rel E nt g' F (EF F H0.length H) tmps w∧(∀ b,RngR g' b→RngR g b)∧g'.β=g.β∧g'.I=g.I:=by
 unfold EF;have hlen:∀ id hb,H0[id]?=some hb→id<H0.length:=fun id hb e=>(zW.1 e).1
 generalize H0.length=n0 at hlen ⊢;dsimp only;generalize KM F H 4 (KN n0 (H.length-n0))=D;have hge:n0≤nY D n0 (H.length-n0):=Tt _;generalize nY D n0 (H.length-n0)=n at hge ⊢
 cases hc:(iK (fun id=>Nat.blt id n&&!(Nat.ble n0 id&&memB D id)) F&&qJ (fun id=>Nat.blt id n&&!(Nat.ble n0 id&&memB D id)) ((iJ n0 D 0 H).take n)) with
 | false=>exact ⟨g,hn,h,fun _ h=>h,rfl,rfl⟩
 | true=>
  simp only [bQ] at hc;rw [cond_true];have hI:∀ id,(Nat.blt id n&&!(Nat.ble n0 id&&memB D id))=true→((iJ n0 D 0 H).take n)[id]?=H[id]?∧id<n:=fun id hid=>by
   simp only [bQ,jR] at hid;refine ⟨?_,Lw hid.1⟩;rw [oX,Sj (Lw hid.1),Lv,iA,hid.2]
   cases H[id]? <;> rfl
  have hρ:∀ id b o,(g.cut n).ρ id=some (b,o)→id<n∧g.ρ id=some (b,o):=by
   intro id b o e;simp only [Gh.cut] at e
   cases hb:Nat.blt id n with
   | true=>rw [hb,cond_true] at e;exact ⟨Lw hb,e⟩
   | false=>rw [hb,cond_false] at e;cases e
  have hρ2:∀ id,id<n→(g.cut n).ρ id=g.ρ id:=fun id hid=>by simp only [Gh.cut,Fb hid,cond_true]
  have hget:∀ id hb,((iJ n0 D 0 H).take n)[id]?=some hb→id<n∧∃ hb0:HB,H[id]?=some hb0∧hb.fz=hb0.fz∧(hb=hb0∨hb=⟨hb0.fz,hb0.pu,hb0.esz,[]⟩):=by
   intro id hb e;rw [oX] at e
   by_cases hid:id<n
   ·rw [Sj hid,Lv,nR] at e;obtain ⟨hb0,e0,rfl⟩:=e;refine ⟨hid,hb0,e0,?_,?_⟩
    ·cases (Nat.ble n0 (0+id)&&memB D (0+id))<;>rfl
    ·cases (Nat.ble n0 (0+id)&&memB D (0+id))
     ·exact .inl rfl
     ·exact .inr rfl
   ·rw [Sk hid] at e;cases e
  have hR:∀ b,RngR (g.cut n) b→RngR g b:=fun b ⟨id,o,e⟩=>⟨id,o,(hρ id b o e).2⟩
  refine ⟨g.cut n,⟨hn.os,hn.tape,hn.output,hn.drawn,hn.size,hn.kept,fun b hb h2=>hn.rng b hb (hR b h2),hn.immb,hn.bet,⟨hn.on.keeps,fun id hb e=>?_,hn.on.shape,hn.on.lam⟩⟩,⟨h.size,fun s fv e=>?_,fun id hb e=>?_,fun id id' hb b o b' o' e hf hne e1 e2=>?_,fun id b o e=>?_,h.bdist,fun s b id o e1 e2=>h.brho s b id o e1 (hρ id b o e2).2,h.bimm,h.imm,h.glob⟩,hR,rfl,rfl⟩
  ·obtain ⟨hb',e',k1,k2,k3⟩:=hn.on.hext id hb e;have hid:=hlen id hb e;have hlow:(Nat.blt id n&&!(Nat.ble n0 id&&memB D id))=true:=by
    have:Nat.ble n0 id=false:=by
     cases hb:Nat.ble n0 id with
     | false=>rfl
     | true=>have:=zZ hb;omega
    rw [this,Fb (show id<n by omega)];rfl
   exact ⟨hb',by rw [(hI id hlow).1];exact e',k1,k2,k3.imp_right fun ⟨l,r⟩=>⟨l,(hρ2 id (by omega)).trans r⟩⟩
  ·have h1:=h.frame s fv e;have h2:=Ts F s fv hc.1 e
   cases fv with
   | v p=>simp only [cG] at h1 ⊢;exact HL hI p _ h2 h1
   | box row =>simp only [cG] at h1 ⊢;obtain ⟨b,k1,k2,k3,cur,T,k4,k5⟩:=h1;exact ⟨b,k1,k2,k3,cur,T,k4,Tn hI row _ h2 k5⟩
   | bp s' off=>exact h1
  ·obtain ⟨hid,hb0,e1,_,hor⟩:=hget id hb e;obtain ⟨b,o,hk⟩:=h.heap id hb0 e1;refine ⟨b,o,?_⟩;rcases hor with rfl | rfl
   ·have hrow:kT (fun _=>true) (fun id=>Nat.blt id n&&!(Nat.ble n0 id&&memB D id)) hb.rows=true:=by
     rcases yDb _ id hb hc.2 e with hp|hp
     ·exact Tr _ _ _ _ (hk.pure hp)
     ·exact hp
    exact ⟨(hρ2 id hid).trans hk.at_,hk.esz,hk.cells,To hI _ _ _ _ hrow hk.rows,hk.pure,hk.fz,hk.live⟩
   ·obtain ⟨cur,T,k1,k2⟩:=hk.cells;exact ⟨(hρ2 id hid).trans hk.at_,hk.esz,⟨cur,T,k1,by simp only [List.length_nil,Nat.zero_mul];omega⟩,by simp only [gK],fun _=>by simp only [dK],hk.fz,hk.live⟩
  ·obtain ⟨_,hb0,e0,ez,_⟩:=hget id hb e;exact h.dist id id' hb0 b o b' o' e0 (by rw [← ez];exact hf) hne (hρ id b o e1).2 (hρ id' b' o' e2).2
  ·have h1:=hρ id b o e;have:=h.rsome id b o h1.2;rw [iW,Tm];omega
end
section
variable {P:Program} {E:Env} {nt:Nat} {g g':Gh} {F F':aG} {H H':Hp} {a:Act} {tmps:Array Value} {w w':World} {o:Oper}
def Ly (all:Array Oper) (o:Oper) (gd:Option (Nat×Bool)):Prop:=
 (o.guard=none∧gd=none)∨∃ j want s,o.guard=some (j,want)∧(all[j]?).bind (·.dst)=some s∧gd=some (s,want)
theorem HO {loc:List Nat} {all:Array Oper}:∀ (l:List Oper) (r:List AO),yiG P loc all l=some r →
  r.length=l.length∧∀ (i:Nat) (o:Oper),l[i]?=some o→∃ gd,r[i]?=some ⟨o.dst,kD P loc o,gd⟩∧Ly all o gd
 | [],r,h=>by simp [yiG] at h;subst h;exact ⟨rfl,fun i o e=>by simp at e⟩
 | x::l,r,h=>by
  simp only [yiG] at h;split at h
  ·rename_i l' hl;obtain ⟨h1,h2⟩:=HO l l' hl;split at h
   ·rename_i hg
    cases h
    refine ⟨by simp [h1],fun i o e=>?_⟩
    cases i with
    | zero=>simp at e;subst e;exact ⟨none,rfl,.inl ⟨hg,rfl⟩⟩
    | succ i=>simp at e;simpa using h2 i o e
   ·rename_i j want hg;split at h
    ·rename_i s hs
     cases h
     refine ⟨by simp [h1],fun i o e=>?_⟩
     cases i with
     | zero=>simp at e;subst e;exact ⟨some (s,want),rfl,.inr ⟨j,want,s,hg,hs,rfl⟩⟩
     | succ i=>simp at e;simpa using h2 i o e
    ·cases h
  ·cases h
theorem Tu (hr:Rel E nt g F H a.tmps w) {all:Array Oper} {gd:Option (Nat×Bool)} {b:Bool} (hg:Ly all o gd) (h:yeh F gd=some b):Region.wanted o (yielded all a.tmps)=b:=by
 rcases hg with ⟨h1,rfl⟩|⟨j,want,s,h1,h2,rfl⟩
 ·simp only [yeh,bV] at h;simp [Region.wanted,h1,← h]
 ·simp only [yeh] at h;split at h
  ·rename_i b0 hb0;have hv:=hr.frame s _ hb0;simp only [cG,VR] at hv;have:a.tmps[s]?=some (.bool b0):=by
    rw [wR] at hv
    cases e:a.tmps[s]? with
    | none=>rw [e] at hv;simp [undef] at hv
    | some x=>rw [e] at hv;simpa using hv
   have hy:yielded all a.tmps j=some b0:=by unfold yielded;rw [h2];simp [this]
   simp only [bV] at h;simp only [Region.wanted,h1,hy,← h]
   cases b0<;>cases want<;>rfl
  ·rename_i hb0;have hv:=hr.frame s _ hb0;simp only [cG,VR,bO] at hv;obtain ⟨vs,hv,rfl⟩:=hv;have hy:yielded all a.tmps j=none:=by
    unfold yielded;rw [h2];simp only [Option.bind_some];rw [wR] at hv
    cases e:a.tmps[s]? with
    | none=>rfl
    | some x=>rw [e] at hv;simp at hv;subst hv;rfl
   simp only [bV] at h;simp only [Region.wanted,h1,hy,← h];rfl
  ·cases h
theorem Tv (a:Act) (dst:Option Tmp) (v:Value):(a.put dst v).defers=a.defers:=by cases dst<;>rfl
theorem Tw:∀ (l:List Oper),xI nt l=true→∀ (i:Nat) (o:Oper),l[i]?=some o→∀ d,o.dst=some d→d<nt
 | [],_,i,o,e=>by simp at e
 | x::l,h,i,o,e=>by
  simp only [xI,bQ] at h
  cases i with
  | zero =>simp at e;subst e;intro d hd;have:=h.1;rw [hd] at this;simpa using this
  | succ i=>simp at e;exact Tw l h.2 i o e
def Lz (E:Env) (d:Deferred):Prop:=∃ n args,d={ target:=.fn (.func n) #[],args:=args }∧E.dn n=true
def GoD (E:Env) (a a':Act):Prop:=∃ ds,a'.defers=ds++a.defers∧∀ d∈ds,Lz E d
theorem GoD.same {a a':Act} (h:a'.defers=a.defers):GoD E a a':=⟨[],h,fun d hd=>by cases hd⟩
theorem GoD.trans {a1 a2 a3:Act} (h:GoD E a1 a2) (k:GoD E a2 a3):GoD E a1 a3:=by obtain ⟨d1,e1,h1⟩:=h;obtain ⟨d2,e2,h2⟩:=k;exact ⟨d2++d1,by rw [e2,e1,rX],fun d hd=>(qA4.1 hd).elim (h2 d) (h1 d)⟩
theorem Tx:∀ (l:List Oper) (i:Nat) (o:Oper) (c:Call),l[i]?=some o→o.op=.defer c→iM l=true
 | [],i,o,c,e,_=>by simp at e
 | x::l,i,o,c,e,h=>by
  simp only [iM,qA]
  cases i with
  | zero=>simp at e;subst e;exact .inl (by rw [h])
  | succ i=>simp at e;exact .inr (Tx l i o c e h)
theorem U5 {loc:List Nat} (h:HI (kD P loc o)=true):∃ c n,o.op=.defer c∧c.callee=.value (.func n)∧kD P loc o=.dfr n∧o.dst=none:=by
 unfold kD at h
 cases ho:o.op<;>rw [ho] at h<;>simp only [] at h
 case defer c=>
  cases hds:o.dst with
  | some d=>rw [hds] at h;cases h
  | none=>
  rw [hds] at h
  cases hc:c.callee with
  | value f=>
   rw [hc] at h
   cases f with
   | func n=>exact ⟨c,n,rfl,hc,by unfold kD;rw [ho];simp only [hc,hds],rfl⟩
   | _=>cases h
  | _=>rw [hc] at h;cases h
 all_goals (try unfold EL at h)
 all_goals (try unfold EM at h)
 all_goals (repeat' split at h)
 all_goals first | cases h | skip
theorem U6 {ro:Option Nat} (hE:EO P E) {call} (hc:ybr P E call) {ops:Array Oper} {loc:List Nat} {i:Nat} {rest:List Nat} {gd:Option (Nat×Bool)} {Q:Exit→Act→World→Prop}
  (hr:Rel E nt g F H a.tmps w) (hL:Lps P E g H w) (ho:ops[i]?=some o) (hg:Ly ops o gd) (hd:∀ d,o.dst=some d→d<nt) (h:yja E call F H ⟨o.dst,kD P loc o,gd⟩=some (F',H'))
  (hro:iM ops.toList=true→ro=none) (hn0:∀ a' w' g',GoD E a a'→Nx g g' H H' w w'→Rel E nt g' F' H' a'.tmps w'→wpOpsIn (Fc ro) 0 P ops Q rest a' w'):wpOpsIn (Fc ro) 0 P ops Q (i::rest) a w:=by
 have hn:∀ v w' g',Nx g g' H H' w w'→Rel E nt g' F' H' (a.put o.dst v).tmps w'→wpOpsIn (Fc ro) 0 P ops Q rest (a.put o.dst v) w':=fun v w' g' n r=>hn0 _ w' g' (GoD.same (Tv _ _ _)) n r
 simp only [wpOpsIn,ho];unfold yja at h;split at h
 ·cases h
 ·rename_i hgd;rw [Sk (by rw [Tu hr hg hgd];simp)];refine ⟨fun _ _=>trivial,?_⟩
  cases hdst:o.dst with
  | none =>rw [hdst] at h;simp only [bV,Prod.mk.injEq] at h;obtain ⟨rfl,rfl⟩:=h;have:=hn undef w g (Nx.refl g H w);rw [hdst] at this;exact this hr
  | some d =>rw [hdst] at h;simp only [bV,Prod.mk.injEq] at h;obtain ⟨rfl,rfl⟩:=h;have:=hn undef w g (Nx.refl g H w);rw [hdst] at this;refine this ?_;rw [ST];exact hr.putV (hd d hdst) (by simp [VR,bO,undef])
 ·rename_i hgd;rw [Sj (Tu hr hg hgd)];split at h
  ·cases h
  ·rename_i out x bx H1 hout;simp only [nR] at h;obtain ⟨F1,hp,e⟩:=h
   cases e
   by_cases hcall:oD (kD P loc o)=true
   ·obtain ⟨c,f,f',az',h1,h2,h3,h4,h5⟩:=U4 hcall;simp only [h5] at hout;exact U3 hE hc hr hL h1 h2 h3 h4 hout hd hp hn
   ·by_cases hdf:HI (kD P loc o)=true
    ·obtain ⟨c,n,h1,h2,h3,hds⟩:=U5 hdf;obtain rfl:=hro (Tx ops.toList i o c (by simpa using ho) h1);rw [h3] at hout;simp only [yar] at hout;split at hout
     ·rename_i hdn;simp only [outV,bV,Out.mk.injEq] at hout;obtain ⟨rfl,rfl,rfl⟩:=hout;refine ⟨fun _ _=>trivial,?_⟩;have hrun:(o.semAt none a.eval).run P w=.ok (.defer { target:=.fn (.func n) #[],args:=c.args.map a.eval }) w:=by
       have e1:a.eval (.func n)=.func (.func n) #[] #[]:=rfl;simp [Oper.semAt,execOp,h1,resolve,h2,e1,Deferred.ofValue]
      show Oper.uponIn _ _ _ _ _ _ _ ((o.semAt none a.eval).run P w);rw [hrun];simp only [Oper.uponIn];refine hn0 _ w g ⟨[{ target:=.fn (.func n) #[],args:=c.args.map a.eval }],?_,fun d hd=>?_⟩ (Nx.refl g H w) ?_
      ·rw [Tv];rfl
      ·rw [EC.1 hd];exact ⟨n,_,rfl,hdn⟩
      ·rw [hds] at hp ⊢;simp only [iZ,yek] at hp
       cases hp
       exact hr
     ·cases hout
    ·have hnd:∀ c,o.op≠.defer c:=by
      intro c e;unfold kD at hout hdf;rw [e] at hout hdf;simp only [] at hout hdf
      cases hds:o.dst with
      | some d=>rw [hds] at hout;simp [yar] at hout
      | none=>
      rw [hds] at hout hdf
      cases hcal:c.callee with
      | value f=>
       rw [hcal] at hout hdf
       cases f with
       | func n=>exact hdf rfl
       | _=>simp [yar] at hout
      | _=>rw [hcal] at hout;simp [yar] at hout
     exact pK.wp hnd (S5 hr (by simpa using hcall) (by simpa using hdf) hout hd hp) hn
theorem Ty {ro:Option Nat} (hE:EO P E) {call} (hc:ybr P E call) {ops:Array Oper} {loc:List Nat} {l:List AO} {Q:Exit→Act→World→Prop} {F':aG} {H':Hp} (hl:yiG P loc ops ops.toList=some l) (hd:xI nt ops.toList=true) (hro:iM ops.toList=true→ro=none) {ρ:List Nat} :
  ∀ (σ:List Nat) (g:Gh) (F:aG) (H:Hp) (a:Act) (w:World),(∀ i∈σ,i<ops.size)→Rel E nt g F H a.tmps w→Lps P E g H w→lY E call (σ.filterMap (l[·]?)) F H=some (F',H') →
   (∀ a' w' g',GoD E a a'→Nx g g' H H' w w'→Rel E nt g' F' H' a'.tmps w'→wpOpsIn (Fc ro) 0 P ops Q ρ a' w')→wpOpsIn (Fc ro) 0 P ops Q (σ++ρ) a w
 | [],g,F,H,a,w,_,hr,_,h,hq=>by simp only [List.filterMap_nil,lY,bV,Prod.mk.injEq] at h;obtain ⟨rfl,rfl⟩:=h;exact hq a w g (GoD.same rfl) (Nx.refl g H w) hr
 | i::σ,g,F,H,a,w,hσ,hr,hL,h,hq=>by
  obtain ⟨hlen,hget⟩:=HO _ _ hl;have hi:i<ops.size:=hσ i (by simp);have hoi:ops[i]?=some ops[i]:=by simp [hi]
  have hoi':ops.toList[i]?=some ops[i]:=by simp [hi]
  obtain ⟨gd,hli,hgd⟩:=hget i _ hoi';rw [EB,hli] at h;simp only [lY] at h;split at h
  ·rename_i F1 H1 hs;refine U6 hE hc hr hL hoi hgd (Tw _ hd i _ hoi') hs hro fun a1 w1 g1 d1 n1 r1=>?_
   exact Ty hE hc hl hd hro σ g1 F1 H1 a1 w1 (fun j hj=>hσ j (by simp [hj])) r1 (hL.nx n1) h fun a' w' g' hdf n2 r2=>hq a' w' g' (d1.trans hdf) (n1.trans n2) r2
  ·cases h
theorem LA {α:Type} (l:List α):(List.range l.length).filterMap (l[·]?)=l:=by
 induction l with
 | nil=>rfl
 | cons x l ih =>rw [kR,List.range_succ_eq_map,EB];simp only [Ez];rw [List.filterMap_map];congr 1
def As:Ex→Exit→Prop
 | .norm,.normal=>True
 | .exit i,.exit j=>i=j
 | .ret,.ret=>True
 | _,_=>False
abbrev mk (r:Nat):Deferred:={ target:=.collected r,args:=#[] }
def Tz (x:Option Nat×Deferred):Deferred:=match x.1 with | some r=>mk r | none=>x.2
def dL (E:Env) (base:Nat) (g:Gh) (w:World) (ds:List Deferred):Prop:=
 ∃ l:List (Option Nat×Deferred),ds=l.map Tz∧(l.filterMap (·.1)).Nodup∧(∀ r∈l.filterMap (·.1),base≤r∧FB g w r (.deferred (some [])))∧∀ x∈l,x.1=none→Lz E x.2
theorem dL.nx {base:Nat} {ds:List Deferred} (h:dL E base g w ds) (n:Nx g g' H H' w w'):dL E base g' w' ds:=by obtain ⟨l,h1,h2,h3,h4⟩:=h;exact ⟨l,h1,h2,fun r hr=>⟨(h3 r hr).1,(h3 r hr).2.nx n⟩,h4⟩
theorem dL.nil {base:Nat}:dL E base g w []:=⟨[],rfl,List.nodup_nil,fun r h=>(by cases h),fun x h=>by cases h⟩
theorem dL.go {base:Nat} {a a':Act} (h:dL E base g w a.defers) (k:GoD E a a'):dL E base g w a'.defers:=by
 obtain ⟨l,h1,h2,h3,h4⟩:=h;obtain ⟨ds,e,k1⟩:=k;have hn:((ds.map fun d=>((none:Option Nat),d))++l).filterMap (·.1)=l.filterMap (·.1):=by
  rw [List.filterMap_append];have:(ds.map fun d=>((none:Option Nat),d)).filterMap (·.1)=[]:=by
   rw [List.filterMap_eq_nil_iff];intro x hx;obtain ⟨d,_,rfl⟩:=fT.1 hx;rfl
  rw [this,rY]
 refine ⟨ds.map (fun d=>(none,d))++l,?_,by rw [hn];exact h2,fun r hr=>h3 r (by rw [hn] at hr;exact hr),fun x hx hn=>?_⟩
 ·rw [e,h1,List.map_append,iI];congr 1;exact (List.map_id ds).symm
 ·rcases qA4.1 hx with hx | hx
  ·obtain ⟨d,hd,rfl⟩:=fT.1 hx;exact k1 d hd
  ·exact h4 x hx hn
def U7 (r:Loop) (i:Nat):Obj:=.loop { r with state:=.done,pending:=some (.exit i) }
def yki (E:Env) (nt base:Nat) (g:Gh) (H:Hp) (w:World) (ex:Ex) (F':aG) (H':Hp):Exit→Act→World→Prop:=
 fun e a' w'=>match ex with
  | .brk k i=>e=.ret∧∃ g' w1 l r,g.lam k=some l∧Nx g g' H H' w w1∧Rel E nt g' F' H' a'.tmps w1∧FB g' w1 l (.loop r)∧dL E base g' w1 a'.defers∧w'=w1.putObj l (U7 r i)
  | ex=>As ex e∧∃ g',Nx g g' H H' w w'∧Rel E nt g' F' H' a'.tmps w'∧dL E base g' w' a'.defers
def LB (P:Program) (E:Env) (call:Nat→List PV→Hp→Option (PV×Hp)):Prop:=
 ∀ (ro:Option Nat) (nt base:Nat) (g:Gh) (F:aG) (H:Hp) (a:Act) (w:World) (loc:List Nat) (ops:Array Oper) (l:List AO) (F':aG) (H':Hp) (id:Nat),
  (iM ops.toList=true→ro=none)→yiG P loc ops ops.toList=some l→xI nt ops.toList=true→ER ops.toList=true →
  yn4 E call l (EQ (mC ops.toList [])) F H=some (F',H')→Rel E nt g F H a.tmps w→Lps P E g H w→dL E base g w a.defers →
  (Code.region id ops true).wpIn (Fc ro) 0 P (yki E nt base g H w .norm F' H') a w
theorem TA {ro:Option Nat} (hE:EO P E) {call} (hc:ybr P E call) {ops:Array Oper} {loc:List Nat} {l:List AO} {Q:Exit→Act→World→Prop} {F':aG} {H':Hp} (hl:yiG P loc ops ops.toList=some l) (hd:xI nt ops.toList=true) (hro:iM ops.toList=true→ro=none)
  (σ:List Nat) (g:Gh) (F:aG) (H:Hp) (a:Act) (w:World) (h1:∀ i∈σ,i<ops.size) (hr:Rel E nt g F H a.tmps w) (hL:Lps P E g H w) (h:lY E call (σ.filterMap (l[·]?)) F H=some (F',H'))
  (hq:∀ a' w' g',GoD E a a'→Nx g g' H H' w w'→Rel E nt g' F' H' a'.tmps w'→Q .normal a' w'):wpOpsIn (Fc ro) 0 P ops Q σ a w:=by
 have:=Ty (ro:=ro) (Q:=Q) (ρ:=[]) hE hc hl hd hro σ g F H a w h1 hr hL h fun a' w' g' e1 e2 e3=>by simpa only [wpOpsIn] using hq a' w' g' e1 e2 e3
 simpa using this
theorem U8 {ro:Option Nat} {base:Nat} (hE:EO P E) {call} (hc:ybr P E call) {ops:Array Oper} {loc:List Nat} {l:List AO} {id:Nat} (hl:yiG P loc ops ops.toList=some l) (hd:xI nt ops.toList=true)
  (hro:iM ops.toList=true→ro=none) (h:lY E call l F H=some (F',H')) (hr:Rel E nt g F H a.tmps w) (hL:Lps P E g H w) (hdf:dL E base g w a.defers):(Code.region id ops false).wpIn (Fc ro) 0 P (yki E nt base g H w .norm F' H') a w:=by
 refine wpIn_region (TA (F':=F') (H':=H') hE hc hl hd hro _ g F H a w (fun i hi=>by simpa using hi) hr hL ?_ ?_)
 ·have hlen:=(HO _ _ hl).1;have:ops.size=l.length:=by simpa using hlen.symm
  rw [this,LA];exact h
 ·intro a' w' g' h1 h2 h3;exact ⟨trivial,g',h2,h3,(hdf.nx h2).go h1⟩
theorem yki.fdels {base:Nat} {g:Gh} {ex:Ex} {e:Exit} {fs:List Nat} {a':Act} (h:yki E nt base g H w ex F' H' e a' w'):yki E nt base g H w ex (fdels F' fs) H' e a' w':=by
 cases ex with
 | brk k i =>obtain ⟨h1,g',w1,l,r,h2,h3,h4,h5,h6,h7⟩:=h;exact ⟨h1,g',w1,l,r,h2,h3,h4.less fun s x hs=>Sn fs F' s x hs,h5,h6,h7⟩
 | _ =>obtain ⟨h1,g',h3,h4,h5⟩:=h;exact ⟨h1,g',h3,h4.less fun s x hs=>Sn fs F' s x hs,h5⟩
theorem yki.trans {base:Nat} {g g1:Gh} {H1:Hp} {w1:World} {ex:Ex} {e:Exit} {a':Act} (hn:Nx g g1 H H1 w w1) (h:yki E nt base g1 H1 w1 ex F' H' e a' w'):yki E nt base g H w ex F' H' e a' w':=by
 cases ex with
 | brk k i =>obtain ⟨h1,g',w2,l,r,h2,h3,h4,h5,h6,h7⟩:=h;exact ⟨h1,g',w2,l,r,by rw [← hn.on.lam];exact h2,hn.trans h3,h4,h5,h6,h7⟩
 | _ =>obtain ⟨h1,g',h3,h4,h5⟩:=h;exact ⟨h1,g',hn.trans h3,h4,h5⟩
def TB (P:Program) (E:Env) (n:Nat):Prop:=
 ∀ (ro:Option Nat) (inR:Bool) (loc:List Nat) (fg:Nat→List Nat) (nt base:Nat) (c:Code) (g:Gh) (F:aG) (H:Hp) (a:Act) (w:World) (ex:Ex) (F':aG) (H':Hp),(inR=false→ro=none) →
  exec E n (ybv P loc fg nt inR c) F H=some (ex,F',H')→Rel E nt g F H a.tmps w→Lps P E g H w→base≤w.heap.size→dL E base g w a.defers→c.wpIn (Fc ro) 0 P (yki E nt base g H w ex F' H') a w
def TD (P:Program) (E:Env) (n:Nat):Prop:=
 ∀ (ro:Option Nat) (inR:Bool) (loc:List Nat) (fg:Nat→List Nat) (nt base:Nat) (c:Code) (g:Gh) (F:aG) (H:Hp) (a:Act) (w:World) (ex:Ex) (F':aG) (H':Hp),(inR=false→ro=none) →
  exec E n (.loop (ybv P loc fg nt inR c)) F H=some (ex,F',H')→Rel E nt g F H a.tmps w→Lps P E g H w→base≤w.heap.size→dL E base g w a.defers →
  ∀ (b:Frame) (k:List Item) (cs:List Frame),b.roundOf=ro→∃ e a' w',yki E nt base g H w ex F' H' e a' w'∧ArrivesIn (Machine.fenced P (Fc ro)) P (lone (b.atR a (.code c::.inLoop c::k)) cs w) b k cs e a' w'
def TE (P:Program) (E:Env) (n:Nat):Prop:=
 ∀ (ro:Option Nat) (inR:Bool) (loc:List Nat) (fg:Nat→List Nat) (nt base:Nat) (c:Code) (g:Gh) (F:aG) (H:Hp) (a:Act) (w:World) (ex:Ex) (F':aG) (H':Hp),(inR=false→ro=none) →
  exec E n (.lG (ybv P loc fg nt inR c)) F H=some (ex,F',H')→Rel E nt g F H a.tmps w→Lps P E g H w→base≤w.heap.size→dL E base g w a.defers →
  ∀ (b:Frame) (k:List Item) (cs:List Frame),b.roundOf=ro→∃ e a' w',yki E nt base g H w ex F' H' e a' w'∧ArrivesIn (Machine.fenced P (Fc ro)) P (lone (b.atR a (.code c::.inLoop c::k)) cs w) b k cs e a' w'
theorem dL.cut {base:Nat} {ds:List Deferred} (h:dL E base g w ds) (hr:∀ b,RngR g' b→RngR g b) (hb:g'.β=g.β) (hi:g'.I=g.I):dL E base g' w ds:=by obtain ⟨l,h1,h2,h3,h4⟩:=h;refine ⟨l,h1,h2,fun r hr'=>⟨(h3 r hr').1,?_⟩,h4⟩;obtain ⟨k1,k2,k3,k4⟩:=(h3 r hr').2;exact ⟨k1,fun hh=>k2 (hr _ hh),fun ⟨s,e⟩=>k3 ⟨s,by rw [← hb];exact e⟩,fun hh=>k4 (by rw [← hi];exact hh)⟩
def noGo (Q:Exit→Act→World→Prop):Exit→Act→World→Prop
 | .goto _,_,_=>False
 | e,a,w=>Q e a w
theorem U9 {ro:Option Nat} {c:Code} {Q:Exit→Act→World→Prop} (h:c.wpIn (Fc ro) 0 P (noGo Q) a w):(Code.scope c).wpIn (Fc ro) 0 P Q a w:=by
 intro b k cs hro hb hr;have h0:(lone (b.atR a (.code (.scope c)::k)) cs w).fenced P (Fc ro):=fenced_calm hb hr rfl;have s0:step P (lone (b.atR a (.code (.scope c)::k)) cs w)=.next (lone (b.atR a (.code c::.inScope c::k)) cs w):=step_lone_go (by simp [stepG,stepG.exec,Frame.atR]);have s1:∀ a w,step P (lone (b.atR a (.inScope c::k)) cs w)=.next (lone (b.atR a k) cs w):=fun a w=>step_lone_go (by simp [stepG,stepG.exec,Frame.atR])
 obtain ⟨e,a1,w1,hq,harr⟩:=h b (.inScope c::k) cs hro hb hr
 cases e with
 | normal=>exact ⟨.normal,a1,w1,hq,.head h0 s0 (StepsIn.trans harr (.one (fenced_calm hb hr rfl) (s1 _ _)))⟩
 | exit id=>
  have hx:exitTo id (.inScope c::k)=exitTo id k:=by simp [exitTo]
  exact ⟨.exit id,a1,w1,hq,fun k' hk=>.head h0 s0 (harr.1 k' (by rw [hx];exact hk)),fun hr' hk=>let ⟨k1,h1,h2⟩:=harr.2 hr' (by rw [hx];exact hk);⟨k1,h1,.head h0 s0 h2⟩⟩
 | goto l=>exact hq.elim
 | ret=>exact ⟨.ret,a1,w1,hq,ArrivesIn.of_steps (e:=.ret) (k:=k) (.one h0 s0) harr⟩
 | panic ch=>exact ⟨.panic ch,a1,w1,hq,ArrivesIn.of_steps (e:=.panic ch) (k:=k) (.one h0 s0) harr⟩
 | outgrown=>exact ⟨.outgrown,a1,w1,hq,ArrivesIn.of_steps (e:=.outgrown) (k:=k) (.one h0 s0) harr⟩
theorem CallsDIn.mono' {F:Fence} {n:Nat} {f:FuncId} {args:Array Value} {u:FrameMode} {R R':Ending→FrameMode→World→Prop} (h:CallsDIn F n P f args u w R) (hr:∀ e u w,R e u w→R' e u w):CallsDIn F n P f args u w R':=
 ⟨h.1,fun c cs hu hroom=>let ⟨e,u',w',fr,r,s⟩:=h.2 c cs hu hroom;⟨e,u',w',fr,hr _ _ _ r,s⟩⟩
theorem LC (hE:EO P E) {nt:Nat} {g0 g2:Gh} {F2:aG} {H2:Hp} {tmps:Array Value} {fn:Func} {R:Ending→World→Prop} (ψ:World→World) (good:World→Prop)
  (hψ:∀ w1 r,FB g2 w1 r (.deferred (some []))→good w1→(ψ w1).heap[r]?=some (.deferred (some []))∧(ψ w1).putObj r (.deferred none)=ψ (w1.putObj r (.deferred none))∧good (w1.putObj r (.deferred none)))
  (hend:∀ w1,Rel E nt g2 F2 H2 tmps w1→Nx g0 g2 H H2 w w1→good w1→∃ v,(results fn tmps).run P (ψ w1)=.ok v (ψ w1)∧R (.returned v) (ψ w1)) :
  ∀ (l:List (Option Nat×Deferred)) (w1:World),(l.filterMap (·.1)).Nodup→(∀ r∈l.filterMap (·.1),w.heap.size≤r∧FB g2 w1 r (.deferred (some [])))→(∀ x∈l,x.1=none→Lz E x.2)→Rel E nt g2 F2 H2 tmps w1→Nx g0 g2 H H2 w w1→good w1 →
   LeavesInM (Fc none) 0 P fn tmps R (l.map Tz) .returning (ψ w1)
 | [],w1,_,_,_,hr,hn,hg=>by simp only [List.map_nil,LeavesInM,LeavesIn];exact hend w1 hr hn hg
 | (some r,d)::l,w1,hd,hf,hx,hr,hn,hg=>by rw [EB] at hd hf;dsimp only at hd hf;obtain ⟨hb,hF⟩:=hf r (by simp);obtain ⟨e1,e2,e3⟩:=hψ w1 r hF hg;simp only [mK,LeavesInM];refine ⟨by simp,.inl ⟨r,_,rfl,run_takeDeferred e1,?_⟩⟩;rw [e2];have hA:=hF.agr (o':=.deferred none) (by simp [Obj.rec]);rw [List.nodup_cons] at hd;exact LC hE ψ good hψ hend l _ hd.2 (fun r' hr'=>⟨(hf r' (eE _ hr')).1,(hf r' (eE _ hr')).2.other (fun e=>hd.1 (e ▸ hr'))⟩) (fun x hx'=>hx x (eE _ hx')) (hr.agr hA) (hn.later hA hr.imm fun b hb'=>World.putObj_heap_other (by omega)) e3
 | (none,d)::l,w1,hd,hf,hx,hr,hn,hg=>by
  rw [EB] at hd hf;dsimp only at hd hf;obtain ⟨n,args,hde,hdn⟩:=hx (none,d) (by simp) rfl;dsimp only at hde;subst hde;simp only [mK,LeavesInM];have hcall:=hE.dn n hdn args (ψ w1);refine ⟨by simp,.inr ⟨fun h=>by simp [Fence.wide] at h,.func n,#[],n,args,rfl,?_,fun _ _=>trivial,CallsDIn.mono' hcall.2 fun e u w' he=>?_⟩⟩
  ·have:(invoke (Target.fn (.func n) #[]) args).run P (ψ w1)=(callFunc n args).run P (ψ w1):=by simp [invoke]
   exact this.trans hcall.1
  ·obtain ⟨rfl,rfl,v,rfl⟩:=he;exact LC hE ψ good hψ hend l w1 hd hf (fun x hx'=>hx x (eE _ hx')) hr hn hg
theorem Lps.enter {E:Env} (h:Lps P E g H w):Lps P E { g with β:=fun _=>none } H w:=by
 have hon:On g { g with β:=fun _=>none } H H w w:=⟨fun _ x=>⟨x,rfl⟩,fun _ hb x=>⟨hb,x,rfl,rfl,.inr ⟨rfl,rfl⟩⟩,fun _ cur _ x=>⟨cur,x,rfl⟩,rfl⟩;refine ⟨fun k c l hc hl=>?_,h.inj,h.top⟩;obtain ⟨r,nt,hr⟩:=h.loop k c l hc hl;exact ⟨r,nt,⟨hr.free.at_,hr.free.rng,fun ⟨s,e⟩=>by simp at e,hr.free.imm⟩,hr.ready,hr.none_,hr.ps,hr.lt,hr.code,hr.size,fun s fv hs=>by
  obtain ⟨p,e,hp⟩:=hr.frame s fv hs;exact ⟨p,e,pE hon p _ hp⟩⟩
theorem V0 (hE:EO P E) {n:Nat} (hx:TB P E n):ybr P E (ybF E (n+1)):=by
 intro f args H r H' h nt g F tmps w vs hr hL hv;simp only [ybF] at h;split at h
 ·rename_i x he
  cases h
  exact hE.eff.ok f args H r H' he nt g F tmps w vs hr hL hv
 split at h
 ·rename_i fn hfn;obtain ⟨fu,loc,fg,hfu,hcomp⟩:=hE.fns f fn hfn;unfold Al at hcomp;split at hcomp
  ·rename_i c rs hb hrs;split at hcomp
   ·cases hcomp
   ·rename_i hname
    cases hcomp
    simp only [] at h;split at h
    ·have hbase:=hr.enter hv fu.ntmps;have hcf:(callFunc f vs.toArray).run P w=.ok (.enter f vs.toArray) w:=by
      have hname' : ¬ fu.name = "runtime.NumGoroutine" := by simpa using hname
      simp [callFunc,hfu,hname',hb]
     unfold kU;rw [hcf];simp only [];have fin:∀ ex F2 H2,exec E n (ybv P loc fg fu.ntmps false c) (sJ 0 args) H=some (ex,F2,H2)→(ex=.norm∨ex=.ret)→(∃ ps,yjc F2 H2 rs=some ps∧qI ps=r∧H2=H') →
       Calls P f vs.toArray w (fun e w''=>match e with | .returned v=>∃ g',Nx g g' H H' w w''∧Rel E nt g' F H' tmps w''∧VR g' H' w'' r v | _=>False):=by
      intro ex F2 H2 he hex ⟨ps,hps,hpk,e2⟩;subst hpk;subst e2;have hbody:=hx none false loc fg fu.ntmps w.heap.size c _ _ _ ⟨vs.toArray++Array.replicate (fu.ntmps-vs.toArray.size) undef,[]⟩ w ex F2 H2 (fun _=>rfl) he hbase hL.enter (bW _) dL.nil;refine Td.1 (callsIn_of_wp_marks (F:=Fc none) (n:=0) hfu hb trivial (wpIn_mono hbody fun e a' w' hp=>?_));have hp':As ex e∧∃ g',Nx { g with β:=fun _=>none } g' H H2 w w'∧Rel E fu.ntmps g' F2 H2 a'.tmps w'∧dL E w.heap.size g' w' a'.defers:=by
       rcases hex with rfl | rfl<;>exact hp
      obtain ⟨h1,g2,h3,h4,rs,h5,h6,h7,h8⟩:=hp';have key:LeavesInM (Fc none) 0 P fu a'.tmps (fun e w''=>match e with | .returned v=>∃ g',Nx g g' H H2 w w''∧Rel E nt g' F H2 tmps w''∧VR g' H2 w'' (qI ps) v | _=>False) a'.defers .returning w':=by
       rw [h5];refine LC hE (nt:=fu.ntmps) (g0:={ g with β:=fun _=>none }) (g2:=g2) (F2:=F2) (H:=H) (H2:=H2) (w:=w) (fun x=>x) (fun _=>True) (fun w1 r hf _=>⟨hf.at_,rfl,trivial⟩) (fun w1 k1 k2 _=>?_) rs w' h6 h7 h8 h4 h3 trivial;obtain ⟨v,hv1,hv2⟩:=T3 (P:=P) k1 hrs hps;obtain ⟨r3,n3⟩:=hr.back k2 k1;have hon2:On g2 { g2 with β:=g.β } H2 H2 w1 w1:=⟨fun _ x=>⟨x,rfl⟩,fun _ hb x=>⟨hb,x,rfl,rfl,.inr ⟨rfl,rfl⟩⟩,fun _ cur _ x=>⟨cur,x,rfl⟩,rfl⟩;exact ⟨v,hv1,_,n3,r3,pE hon2 _ _ hv2⟩
      rcases hex with rfl | rfl<;>cases e<;>simp only [As] at h1<;>exact key
     split at h
     ·rename_i F2 H2 he;split at h
      ·rename_i ps hps
       cases h
       exact fin _ F2 _ he (.inl rfl) ⟨ps,hps,rfl,rfl⟩
      ·cases h
     ·rename_i F2 H2 he;split at h
      ·rename_i ps hps
       cases h
       exact fin _ F2 _ he (.inr rfl) ⟨ps,hps,rfl,rfl⟩
      ·cases h
     ·cases h
    ·cases h
  ·cases hcomp
 ·cases h
theorem V1 {ro:Option Nat} {base n:Nat} (hE:EO P E) (ihi:ybr P E (ybF E n)) (hdraw:∀ call,ybr P E call→LB P E call) {loc:List Nat} {fg:Nat→List Nat} {inR:Bool} {id:Nat} {ops:Array Oper} {draw:Bool} {ex:Ex} (hro:inR=false→ro=none)
  (h:exec E (n+1) (KX P loc fg nt inR id ops draw) F H=some (ex,F',H')) (hr:Rel E nt g F H a.tmps w) (hL:Lps P E g H w) (hdf:dL E base g w a.defers):ex=.norm∧(Code.region id ops draw).wpIn (Fc ro) 0 P (yki E nt base g H w .norm F' H') a w:=by
 unfold KX at h
 cases hin:(inR&&iM ops.toList) with
 | true=>rw [hin] at h;simp [exec] at h
 | false=>
 rw [hin] at h;simp only [gR,if_false] at h;have hrd:iM ops.toList=true→ro=none:=fun hh=>by
  cases inR with
  | false=>exact hro rfl
  | true=>rw [hh] at hin;cases hin
 split at h
 ·rename_i l hl;split at h
  ·rename_i hds
   cases draw with
   | true=>
    simp only [if_true] at h;split at h
    ·rename_i heb;simp only [exec] at h;split at h
     ·rename_i F1 H1 hrun
      cases h
      exact ⟨rfl,wpIn_mono (hdraw _ ihi ro nt base g F H a w loc ops l F1 _ id hrd hl hds heb hrun hr hL hdf) fun e a' w' hp=>hp.fdels⟩
     ·cases h
    ·simp [exec] at h
   | false=>
    simp only [gR,if_false] at h;simp only [exec,yn4] at h;split at h
    ·rename_i F1 H1 hrun
     cases h
     exact ⟨rfl,wpIn_mono (U8 hE ihi hl hds hrd hrun hr hL hdf) fun e a' w' hp=>hp.fdels⟩
    ·cases h
  ·simp [exec] at h
 ·simp [exec] at h
theorem Ar.env {E E':Env} {o:Option Nat} {l:Nat} {e:Ending} (he:E'.glob=E.glob) (h:Ar E nt g F H tmps w o H' l e w'):Ar E' nt g F H tmps w o H' l e w':=by
 cases e with
 | returned v=>
  cases o with
  | none =>obtain ⟨h1,g',h2,h3⟩:=h;exact ⟨h1,g',h2,h3.env he⟩
  | some i =>obtain ⟨h1,g',w1,r,h2,h3,h4,h5⟩:=h;exact ⟨h1,g',w1,r,h2,h3.env he,h4,h5⟩
 | panicked _=>exact h
 | outgrown=>exact h
theorem EO.ats {y:Nat} (hE:EO P E) (hy:E.yn≤y):EO P (E.ats y) where
 sum:=hE.sum
 fns:=hE.fns
 eff:=fun y' hy'=>hE.eff y' (jB hy hy')
 dn:=hE.dn
 top:=fun k hk=>hE.top k (jB hy hk)
 yl:=fun y' k az H o H' h hy' nt g F tmps w vs l hr hL hl hv=>by obtain ⟨fn,t1,as1,bd,h1,h2⟩:=hE.yl y' k az H o H' h (jB hy hy') nt g F tmps w vs l (Rel.env (E:=E.ats y) (E':=E) rfl hr) hL hl hv;exact ⟨fn,t1,as1,bd,h1,fun ro=>(h2 ro).mono fun e w' he=>Ar.env (E:=E) (E':=E.ats y) rfl he⟩
theorem EO.yl' {E':Env} (hE:EO P E) (e1:E'.glob=E.glob) (e2:E'.ctx=E.ctx) (e3:E'.yn=E.yn) (e4:E'.yl=E.yl):∀ y k az H o H',E'.yl y k az H=some (o,H')→E'.yn≤y→∀ nt g F tmps w vs l,Rel E' nt g F H tmps w→Lps P (E'.ats y) g H w→g.lam k=some l→bO g H w az vs →
  ∃ (fn:FuncId) (tmps1:Array Value) (assign body:Code),(Instr.yield l vs.toArray).run P w=.ok (.round l fn tmps1 assign body) w ∧
   ∀ ro,RoundIn (Fc ro) 0 P l fn tmps1 assign body w (Ar E' nt g F H tmps w o H' l):=by
 intro y k az H o H' h hy nt g F tmps w vs l hr hL hl hv;obtain ⟨fn,t1,as1,bd,h1,h2⟩:=hE.yl y k az H o H' (by rw [← e4];exact h) (by rw [← e3];exact hy) nt g F tmps w vs l (hr.env e1.symm) (Lps.env (E:=E'.ats y) (E':=E.ats y) e2.symm rfl hL) hl hv;exact ⟨fn,t1,as1,bd,h1,fun ro=>(h2 ro).mono fun e w' he=>Ar.env e1 he⟩
theorem EO.eff' {E':Env} {call:Nat→List PV→Hp→Option (PV×Hp)} (e1:E'.glob=E.glob) (e2:E'.ctx=E.ctx) (e3:E'.yn=E.yn) (h:EZ P E call):EZ P E' call:=
 fun y hy=>ybr.env (E:=E.ats y) (E':=E'.ats y) e1 e2 rfl (h y (by rw [← e3];exact hy))
theorem yki.noGo {base:Nat} {ex:Ex} {e:Exit} {a':Act} (h:yki E nt base g H w ex F' H' e a' w'):noGo (yki E nt base g H w ex F' H') e a' w':=by
 cases e with
 | goto t=>
  cases ex with
  | brk k i=>obtain ⟨h1,_⟩:=h;cases h1
  | _=>exact h.1.elim
 | _=>exact h
theorem V2 (hdraw:∀ E,EO P E→∀ call,ybr P E call→LB P E call):∀ n E,EO P E→TB P E n∧TD P E n∧TE P E n∧ybr P E (ybF E n):=by
 intro n;induction n using Nat.strongRecOn with
 | _ n ih0=>
 cases n with
 | zero=>
  intro E hE;refine ⟨?_,?_,?_,?_⟩
  ·intro ro inR loc fg nt base c g F H a w ex F' H' _ h;simp [exec] at h
  ·intro ro inR loc fg nt base c g F H a w ex F' H' _ h;simp [exec] at h
  ·intro ro inR loc fg nt base c g F H a w ex F' H' _ h;simp [exec] at h
  ·intro f args H r H' h;simp [ybF] at h
 | succ n=>
  intro E hE;obtain ⟨ihx,ihl,ihlg,ihi⟩:=ih0 n (by omega) E hE;have hloop:TD P E (n+1):=by
   intro ro inR loc fg nt base c g F H a w ex F' H' hro h hr hL hb hdf b k cs hbr;have hroom:(Fc ro).room (cs.length+1+0):=room_wide _;simp only [exec] at h;split at h
   ·rename_i F1 H1 h1;obtain ⟨e,a1,w1,⟨hp1,g1,hn1,hr1,hd1⟩,harr⟩:=ihx ro inR loc fg nt base c g F H a w _ _ _ hro h1 hr hL hb hdf b (.inLoop c::k) cs hbr trivial hroom
    cases e<;>simp only [As] at hp1
    obtain ⟨e2,a2,w2,hq2,harr2⟩:=ihl ro inR loc fg nt base c g1 F1 H1 a1 w1 ex F' H' hro h hr1 (hL.nx hn1) (jB hb hn1.size) hd1 b k cs hbr;exact ⟨e2,a2,w2,hq2.trans hn1,.of_steps (StepsIn.trans harr (.one (fenced_calm trivial hroom rfl) stepR_inLoop)) harr2⟩
   ·rename_i hne;obtain ⟨e,a1,w1,hp,harr⟩:=ihx ro inR loc fg nt base c g F H a w _ _ _ hro h hr hL hb hdf b (.inLoop c::k) cs hbr trivial hroom;have hex:ex≠.norm:=fun e=>hne F' H' (by rw [h,e])
    refine ⟨e,a1,w1,hp,.pass (x:=.inLoop c) rfl (fun _ _=>.inl (fun e1=>?_)) harr⟩;subst e1
    cases ex with
    | norm=>exact hex rfl
    | brk k i=>obtain ⟨h1,_⟩:=hp;cases h1
    | _=>exact hp.1.elim
  have hloopG:TE P E (n+1):=by
   intro ro inR loc fg nt base c g F H a w ex F' H' hro h hr hL hb hdf b k cs hbr;have hroom:(Fc ro).room (cs.length+1+0):=room_wide _;simp only [exec] at h;split at h
   ·rename_i F1 H1 h1;obtain ⟨e,a1,w1,⟨hp1,g1,hn1,hr1,hd1⟩,harr⟩:=ihx ro inR loc fg nt base c g F H a w _ _ _ hro h1 hr hL hb hdf b (.inLoop c::k) cs hbr trivial hroom
    cases e<;>simp only [As] at hp1
    obtain ⟨g2,hn2,hr2,q1,q2,q3⟩:=Rel.gc hn1 hr1;obtain ⟨e2,a2,w2,hq2,harr2⟩:=ihlg ro inR loc fg nt base c g2 F1 _ a1 w1 ex F' H' hro h hr2 (hL.nx hn2) (jB hb hn2.size) (hd1.cut q1 q2 q3) b k cs hbr;exact ⟨e2,a2,w2,hq2.trans hn2,.of_steps (StepsIn.trans harr (.one (fenced_calm trivial hroom rfl) stepR_inLoop)) harr2⟩
   ·rename_i hne;obtain ⟨e,a1,w1,hp,harr⟩:=ihx ro inR loc fg nt base c g F H a w _ _ _ hro h hr hL hb hdf b (.inLoop c::k) cs hbr trivial hroom;have hex:ex≠.norm:=fun e=>hne F' H' (by rw [h,e])
    refine ⟨e,a1,w1,hp,.pass (x:=.inLoop c) rfl (fun _ _=>.inl (fun e1=>?_)) harr⟩;subst e1
    cases ex with
    | norm=>exact hex rfl
    | brk k i=>obtain ⟨h1,_⟩:=hp;cases h1
    | _=>exact hp.1.elim
  refine ⟨?_,hloop,hloopG,V0 hE ihx⟩;intro ro inR loc fg nt base c;induction c with
  | scope x ihs =>intro g F H a w ex F' H' hro h hr hL hb hdf;simp only [ybv] at h;exact U9 (wpIn_mono (ihs g F H a w ex F' H' hro h hr hL hb hdf) fun e a' w' hp=>hp.noGo)
  | skip =>intro g F H a w ex F' H' hro h hr hL hb hdf;simp only [ybv,exec,bV,Prod.mk.injEq] at h;obtain ⟨rfl,rfl,rfl⟩:=h;exact wpIn_skip ⟨trivial,g,Nx.refl g H w,hr,hdf⟩
  | label l =>intro g F H a w ex F' H' hro h hr hL hb hdf;simp only [ybv,exec,bV,Prod.mk.injEq] at h;obtain ⟨rfl,rfl,rfl⟩:=h;exact wpIn_label ⟨trivial,g,Nx.refl g H w,hr,hdf⟩
  | exit id =>intro g F H a w ex F' H' hro h hr hL hb hdf;simp only [ybv,exec,bV,Prod.mk.injEq] at h;obtain ⟨rfl,rfl,rfl⟩:=h;exact wpIn_exit ⟨rfl,g,Nx.refl g H w,hr,hdf⟩
  | ret =>intro g F H a w ex F' H' hro h hr hL hb hdf;simp only [ybv,exec,bV,Prod.mk.injEq] at h;obtain ⟨rfl,rfl,rfl⟩:=h;exact wpIn_ret ⟨trivial,g,Nx.refl g H w,hr,hdf⟩
  | region id ops draw =>intro g F H a w ex F' H' hro h hr hL hb hdf;simp only [ybv] at h;obtain ⟨rfl,hw⟩:=V1 (ro:=ro) hE ihi (hdraw E hE) hro h hr hL hdf;exact hw
  | seq x y _ _=>
   intro g F H a w ex F' H' hro h hr hL hb hdf;have dflt:exec E (n+1) (.seq (ybv P loc fg nt inR x) (ybv P loc fg nt inR y)) F H=some (ex,F',H')→(Code.seq x y).wpIn (Fc ro) 0 P (yki E nt base g H w ex F' H') a w:=by
    intro h;simp only [exec] at h;split at h
    ·rename_i F1 H1 h1;refine wpIn_seq (wpIn_mono (ihx ro inR loc fg nt base x g F H a w _ _ _ hro h1 hr hL hb hdf) fun e a1 w1 hp=>?_);obtain ⟨hp1,g1,hn1,hr1,hd1⟩:=hp
     cases e<;>simp only [As] at hp1
     exact wpIn_mono (ihx ro inR loc fg nt base y g1 F1 H1 a1 w1 _ _ _ hro h hr1 (hL.nx hn1) (jB hb hn1.size) hd1) fun e a' w' hp=>hp.trans hn1
    ·rename_i hne;refine wpIn_seq (wpIn_mono (ihx ro inR loc fg nt base x g F H a w _ _ _ hro h hr hL hb hdf) fun e a1 w1 hp=>?_);have hex:ex≠.norm:=fun e=>hne F' H' (by rw [h,e])
     cases e with
     | normal=>
      cases ex with
      | norm=>exact absurd rfl hex
      | brk k i=>obtain ⟨h1,_⟩:=hp;cases h1
      | _=>exact hp.1.elim
     | _=>exact hp
   exact dflt (by simpa only [ybv] using h)
  | cond x y z _ _=>
   intro g F H a w ex F' H' hro h hr hL hb hdf;simp only [ybv] at h;split at h
   ·rename_i x' hx;simp only [exec] at h;split at h
    ·rename_i hbv;have:=dN hr hx hbv;simp only [VR] at this;exact wpIn_cond_true this (ihx ro inR loc fg nt base y g F H a w _ _ _ hro h hr hL hb hdf)
    ·rename_i hbv;have:=dN hr hx hbv;simp only [VR] at this;exact wpIn_cond_false this (ihx ro inR loc fg nt base z g F H a w _ _ _ hro h hr hL hb hdf)
    ·cases h
   ·simp [exec] at h
  | block id x _=>
   intro g F H a w ex F' H' hro h hr hL hb hdf;simp only [ybv,exec] at h;split at h
   ·rename_i i F1 H1 h1;refine wpIn_block (wpIn_mono (ihx ro inR loc fg nt base x g F H a w _ _ _ hro h1 hr hL hb hdf) fun e a1 w1 hp=>?_);obtain ⟨hp1,hp3⟩:=hp
    cases e<;>simp only [As] at hp1
    subst hp1;split at h
    ·rename_i hi
     cases h
     simp only [Exit.inBlock,hi,if_true];exact ⟨trivial,hp3⟩
    ·rename_i hi
     cases h
     simp only [Exit.inBlock,hi,if_false];exact ⟨rfl,hp3⟩
   ·rename_i hne;refine wpIn_block (wpIn_mono (ihx ro inR loc fg nt base x g F H a w _ _ _ hro h hr hL hb hdf) fun e a1 w1 hp=>?_)
    cases e with
    | exit j=>
     cases ex with
     | brk k i=>obtain ⟨h1,_⟩:=hp;cases h1
     | exit i=>exact absurd h (hne _ F' H')
     | _=>exact hp.1.elim
    | _=>exact hp
  | loop x _=>
   intro g F H a w ex F' H' hro h hr hL hb hdf b k cs hbr _ hroom;obtain ⟨e,a',w',hq,harr⟩:∃ e a' w',yki E nt base g H w ex F' H' e a' w'∧ArrivesIn (Machine.fenced P (Fc ro)) P (lone (b.atR a (.code x::.inLoop x::k)) cs w) b k cs e a' w':=by
    simp only [ybv] at h;split at h
    ·exact hloop ro inR loc fg nt base x g F H a w ex F' H' hro h hr hL hb hdf b k cs hbr
    ·exact hloopG ro inR loc fg nt base x g F H a w ex F' H' hro h hr hL hb hdf b k cs hbr
   exact ⟨e,a',w',hq,.of_steps (.one (fenced_calm trivial hroom rfl) stepR_loop) harr⟩
  | _ =>intro g F H a w ex F' H' hro h hr hL hb hdf;simp [ybv,exec] at h
end
end Go.Pf
namespace Go.Pf
open Go
def ypw {S O:Type} (run:O→S→Option S):List O→S→Option S
 | [],s=>some s
 | o::r,s=>match run o s with
  | some s'=>ypw run r s'
  | none=>none
section
variable {S L V O:Type} {look:S→L→V} {run:O→S→Option S} {ops:List O} {st:Nat→S} {R W:Nat→L→Prop}
theorem yvI (p:Nat→Prop):∀ k,(∀ i,i<k→¬p i)∨∃ i,i<k∧p i∧∀ j,j<k→p j→j≤i:=by
 intro k;induction k with
 | zero=>exact .inl fun i h=>absurd h (Nat.not_lt_zero i)
 | succ k ih=>
  by_cases h:p k
  ·exact .inr ⟨k,Nat.lt_succ_self k,h,fun j hj _=>Nat.le_of_lt_succ hj⟩
  ·rcases ih with ih | ⟨i,h1,h2,h3⟩
   ·refine .inl fun i hi=>?_
    rcases qAz i k with h4|h4
    ·exact ih i h4
    ·have:i=k:=by omega
     subst this;exact h
   ·refine .inr ⟨i,by omega,h2,fun j hj hp=>?_⟩;rcases qAz j k with h4 | h4
    ·exact h3 j h4 hp
    ·have:j=k:=by omega
     subst this;exact absurd hp h
structure Local (look:S→L→V) (run:O→S→Option S) (ops:List O) (st:Nat→S) (R W:Nat→L→Prop):Prop where
 goes:∀ (i:Nat) (o:O),ops[i]?=some o→run o (st i)=some (st (i+1))
 loc:∀ (i:Nat) (o:O),ops[i]?=some o→∀ S',(∀ l,R i l→look S' l=look (st i) l)→∃ T',run o S'=some T'∧(∀ l,W i l→look T' l=look (st (i+1)) l)∧(∀ l,¬W i l→look T' l=look S' l)
theorem Local.keeps (h:Local look run ops st R W) {i:Nat} (hi:i<ops.length) {l:L} (hw:¬W i l):look (st (i+1)) l=look (st i) l:=by
 obtain ⟨T',h1,h2,h3⟩:=h.loc i _ (cN hi) (st i) (fun _ _=>rfl);rw [h.goes i _ (cN hi)] at h1
 cases h1
 exact h3 l hw
theorem Local.since (h:Local look run ops st R W) {l:L} {k:Nat}:∀ m,k+m≤ops.length→(∀ i,k≤i→i<k+m→¬W i l)→look (st (k+m)) l=look (st k) l:=by
 intro m;induction m with
 | zero=>intro _ _;rfl
 | succ m ih =>intro hm hw;have:=h.keeps (i:=k+m) (by omega) (hw _ (by omega) (by omega));rw [← sC,this];exact ih (by omega) fun i h1 h2=>hw i h1 (by omega)
def tT (R W:Nat→L→Prop) (i j:Nat):Prop:=∀ l,¬(W i l∧(R j l∨W j l))∧¬(W j l∧R i l)
theorem Local.perm (h:Local look run ops st R W):∀ (σ done:List Nat) (T:S),(done++σ).Nodup→(∀ i,i<ops.length↔i∈done++σ) →
  (∀ i j,i<j→(i∈σ∧j∈done∨(∃ a b c,σ=a++j::(b++i::c)))→tT R W i j) →
  (∀ l,(∀ i∈done,¬W i l)→look T l=look (st 0) l) →
  (∀ l i,i∈done→W i l→(∀ j∈done,W j l→j≤i)→look T l=look (st (i+1)) l) →
  ∃ T',ypw run (σ.filterMap (ops[·]?)) T=some T'∧∀ l,look T' l=look (st ops.length) l
 | [],done,T,hnd,hall,_,ha,hb=>by
  refine ⟨T,rfl,fun l=>?_⟩;rcases yvI (fun i=>W i l) ops.length with h1 | ⟨i,h1,h2,h3⟩
  ·have:=h.since (l:=l) (k:=0) ops.length (by omega) (fun i _ hi=>h1 i (by omega));rw [iA] at this;rw [this];exact ha l fun i hi=>h1 i ((hall i).2 (by simpa using hi))
  ·have hi:i∈done:=by have:=(hall i).1 h1;simpa using this
   rw [hb l i hi h2 fun j hj hw=>h3 j ((hall j).2 (by simpa using hj)) hw];have:=h.since (l:=l) (k:=i+1) (ops.length-(i+1)) (by omega) (fun j h4 h5 hw=>by have:=h3 j (by omega) hw;omega);rw [show i+1+(ops.length-(i+1))=ops.length by omega] at this;exact this.symm
 | j::σ,done,T,hnd,hall,hfree,ha,hb=>by
  have hj:j<ops.length:=(hall j).2 (by simp);have hjd:j∉done:=by intro hx;rw [List.nodup_append] at hnd;exact hnd.2.2 j hx j (by simp) rfl
  have later:∀ i,i<ops.length→i∉done→i≠j→i∈σ:=by
   intro i hi h1 h2;have:=(hall i).1 hi;simp only [qA4,qAq] at this;rcases this with h3 | h3 | h3
   ·exact absurd h3 h1
   ·exact absurd h3 h2
   ·exact h3
  have freeLate:∀ i,i<j→i∈σ→tT R W i j:=by intro i hij hi;obtain ⟨b,c,e⟩:=List.append_of_mem hi;exact hfree i j hij (.inr ⟨[],b,c,by rw [e];rfl⟩)
  have freeDone:∀ i,j<i→i∈done→tT R W j i:=fun i hij hi=>hfree j i hij (.inl ⟨by simp,hi⟩)
  have agree:∀ l,R j l→look T l=look (st j) l:=by
   intro l hl;have noBig:∀ i∈done,W i l→i<j:=by
    intro i hi hw;rcases qAz i j with h1 | h1
    ·exact h1
    ·have hne:i≠j:=fun e=>hjd (e ▸ hi)
     exact absurd ⟨hw,hl⟩ (freeDone i (by omega) hi l).2
   rcases yvI (fun i=>W i l) j with h1|⟨i,h1,h2,h3⟩
   ·have:=h.since (l:=l) (k:=0) j (by omega) (fun i _ hi=>h1 i (by omega));rw [iA] at this;rw [this];exact ha l fun i hi hw=>h1 i (noBig i hi hw) hw
   ·have hi:i∈done:=by
     by_cases hd:i∈done
     ·exact hd
     ·exact absurd ⟨h2,.inl hl⟩ (freeLate i h1 (later i (by omega) hd (by omega)) l).1
    rw [hb l i hi h2 fun k hk hw=>h3 k (noBig k hk hw) hw];have:=h.since (l:=l) (k:=i+1) (j-(i+1)) (by omega) (fun k h4 h5 hw=>by have:=h3 k (by omega) hw;omega);rw [show i+1+(j-(i+1))=j by omega] at this;exact this.symm
  obtain ⟨T',h1,h2,h3⟩:=h.loc j _ (cN hj) T agree;have ih:=Local.perm h σ (done++[j]) T' (by simpa using hnd) (fun i=>by rw [hall i];simp) ?_ ?_ ?_
  ·obtain ⟨T2,h4,h5⟩:=ih;refine ⟨T2,?_,h5⟩;rw [EB,cN hj];simp only [ypw,h1];exact h4
  ·intro i k hik hcase;rcases hcase with ⟨hi,hk⟩ | ⟨a,b,c,e⟩
   ·simp only [qA4,EC] at hk;rcases hk with hk | rfl
    ·exact hfree i k hik (.inl ⟨by simp [hi],hk⟩)
    ·exact freeLate i hik hi
   ·exact hfree i k hik (.inr ⟨j::a,b,c,by rw [e];rfl⟩)
  ·intro l hl;rw [h3 l (hl j (by simp))];exact ha l fun i hi=>hl i (by simp [hi])
  ·intro l i hi hw hmax;simp only [qA4,EC] at hi
   by_cases hwj:W j l
   ·have hle:=hmax j (by simp) hwj;rcases hi with hi | rfl
    ·have hne:i≠j:=fun e=>hjd (e ▸ hi)
     exact absurd ⟨hwj,.inr hw⟩ (freeDone i (by omega) hi l).1
    ·exact h2 l hw
   ·rcases hi with hi | rfl
    ·rw [h3 l hwj];exact hb l i hi hw fun k hk hkw=>hmax k (by simp [hk]) hkw
    ·exact absurd hw hwj
end
def sL (o:Oper):List Nat:=o.after.toList.filterMap fun e=>if Region.binds .any e then some e.on else none
theorem TF {p q:Nat→Bool}:∀ (l:List Nat) (i:Nat),i∈l→p i=true→q i=false→(∀ j,q j=true→p j=true)→l.countP q<l.countP p
 | [],i,h,_,_,_=>by simp at h
 | x::l,i,h,hp,hq,himp=>by
  have hle:l.countP q≤l.countP p:=List.countP_mono_left fun j _=>himp j
  simp only [List.countP_cons];rcases qAq.1 h with rfl | h
  ·rw [hp,hq];simp;omega
  ·have:=TF l i h hp hq himp
   cases hqx:q x
   ·simp;omega
   ·rw [himp x hqx];simp;exact this
theorem V3 (ops:Array Oper) (hback:∀ (i:Nat) (o:Oper),ops[i]?=some o→∀ k∈sL o,k<i) :
  ∀ (fuel t:Nat) (listed:Array Bool),listed.size=ops.size→(List.range ops.size).countP (fun i=>!listed.getD i true)≤fuel →
   (∀ i,(i<ops.size∧listed.getD i true=false)↔i∈Region.linearise.go .any ops fuel t listed [])∧(Region.linearise.go .any ops fuel t listed []).Nodup ∧
   ∀ a j b,Region.linearise.go .any ops fuel t listed []=a++j::b→∀ o,ops[j]?=some o→∀ k∈sL o,listed.getD k false=true∨k∈a:=by
 intro fuel;induction fuel with
 | zero =>intro t listed hsz hc;simp only [Region.linearise.go,List.reverse_nil];refine ⟨fun i=>⟨fun ⟨h1,h2⟩=>?_,fun h=>by simp at h⟩,List.nodup_nil,fun a j b e=>by simp at e⟩;have:=List.countP_eq_zero.1 (Nat.le_zero.1 hc) i (by simpa using h1);simp [h2] at this
 | succ fuel ih=>
  intro t listed hsz hc;simp only [Region.linearise.go];change (∀ i,(i<ops.size∧listed.getD i true=false)↔i∈(match (Region.ready .any ops listed)[t%(Region.ready .any ops listed).length]? with
   | some i=>Region.linearise.go .any ops fuel (t/(Region.ready .any ops listed).length) (listed.setIfInBounds i true) [i]
   | none=>[].reverse))∧List.Nodup (match (Region.ready .any ops listed)[t%(Region.ready .any ops listed).length]? with
   | some i=>Region.linearise.go .any ops fuel (t/(Region.ready .any ops listed).length) (listed.setIfInBounds i true) [i]
   | none=>[].reverse)∧∀ a j b,(match (Region.ready .any ops listed)[t%(Region.ready .any ops listed).length]? with
   | some i=>Region.linearise.go .any ops fuel (t/(Region.ready .any ops listed).length) (listed.setIfInBounds i true) [i]
   | none=>[].reverse)=a++j::b→∀ o,ops[j]?=some o→∀ k∈sL o,listed.getD k false=true∨k∈a
  have hready:∀ i,i∈Region.ready .any ops listed↔i<ops.size∧listed.getD i true=false∧∀ o,ops[i]?=some o→∀ k∈sL o,listed.getD k false=true:=by
   intro i;simp only [Region.ready,List.mem_filter,xC,bQ,jR];refine and_congr_right fun hi=>and_congr_right fun hl=>?_
   have hoi:ops[i]?=some ops[i]:=by simp [hi]
   rw [hoi];simp only [Option.map_some,tM,Array.all_eq_true',qA,jR,bV,forall_eq'];constructor
   ·intro h k hk;simp only [sL,List.mem_filterMap] at hk;obtain ⟨e,he,hk⟩:=hk;split at hk
    ·rename_i hb
     cases hk
     rcases h e (by simpa using he) with h1|h1
     ·rw [hb] at h1;cases h1
     ·exact h1
    ·cases hk
   ·intro h e he
    by_cases hb:Region.binds .any e=true
    ·right;refine h e.on ?_;simp only [sL,List.mem_filterMap];exact ⟨e,by simpa using he,by rw [Sj hb]⟩
    ·left;simpa using hb
  cases hi:(Region.ready .any ops listed)[t%(Region.ready .any ops listed).length]? with
  | none=>
   have hnil:Region.ready .any ops listed=[]:=by
    cases hr:Region.ready .any ops listed with
    | nil=>rfl
    | cons x xs =>rw [hr] at hi;have hlt:t%(x::xs).length<(x::xs).length:=Nat.mod_lt _ (by simp);simp at hi;simp at hlt;omega
   simp only [List.reverse_nil];have none_left:∀ i,¬(i<ops.size∧listed.getD i true=false):=by
    intro i;induction i using Nat.strongRecOn with
    | _ i ihi=>
     rintro ⟨h1,h2⟩;have:i∈Region.ready .any ops listed:=(hready i).2 ⟨h1,h2,fun o ho k hk=>by
      have hki:=hback i o ho k hk;have:=ihi k hki;have hks:k<listed.size:=by omega
      have h3:listed.getD k true=true:=by
       cases h4:listed.getD k true
       ·exact absurd ⟨by omega,h4⟩ this
       ·rfl
      simpa [Array.getD,hks] using h3⟩
     rw [hnil] at this
     cases this
   exact ⟨fun i=>⟨fun h=>(none_left i h).elim,fun h=>by simp at h⟩,List.nodup_nil,fun a j b e=>by simp at e⟩
  | some i=>
   simp only [];rw [linearise_go_acc,List.reverse_singleton,List.singleton_append];have him:=(hready i).1 (List.mem_of_getElem? hi);obtain ⟨hi1,hi2,hi3⟩:=him;have hset:∀ k d,k≠i→(listed.setIfInBounds i true).getD k d=listed.getD k d:=by
    intro k d hk;simp only [wR,Array.getElem?_setIfInBounds];rw [Sk (fun e=>hk e.symm)]
   have hself:∀ d,(listed.setIfInBounds i true).getD i d=true:=by intro d;simp [hsz,hi1]
   have hcount:(List.range ops.size).countP (fun k=>!(listed.setIfInBounds i true).getD k true)≤fuel:=by
    have:=TF (p:=fun k=>!listed.getD k true) (q:=fun k=>!(listed.setIfInBounds i true).getD k true) (List.range ops.size) i (by simpa using hi1) (by simp [hi2]) (by simp [hself]) (fun j hj=>by
     by_cases e:j=i
     ·subst e;simp [hself] at hj
     ·rw [hset j true e] at hj;exact hj)
    omega
   obtain ⟨h1,h2,h3⟩:=ih (t/(Region.ready .any ops listed).length) (listed.setIfInBounds i true) (by simpa using hsz) hcount;refine ⟨fun k=>?_,?_,?_⟩
   ·rw [qAq,← h1 k]
    by_cases e:k=i
    ·subst e;simp [hi1,hi2]
    ·rw [hset k true e];simp [e]
   ·rw [List.nodup_cons];refine ⟨fun hm=>?_,h2⟩;have:=(h1 i).2 hm;rw [hself] at this
    cases this.2
   ·intro a j b e o ho k hk
    cases a with
    | nil =>simp only [rY,iH] at e;obtain ⟨rfl,_⟩:=e;exact .inl (hi3 o ho k hk)
    | cons x a=>
     simp only [List.cons_append,iH] at e;obtain ⟨rfl,e⟩:=e;rcases h3 a j b e o ho k hk with h4 | h4
     ·by_cases hki:k=i
      ·subst hki;right;simp
      ·rw [hset k false hki] at h4;exact .inl h4
     ·right;simp [h4]
def mD (l:List Nat) (F F':aG):Prop:=∀ s∈l,fget F' s=fget F s
theorem Fd {a b:List Nat} {F F':aG}:mD (a++b) F F'↔mD a F F'∧mD b F F':=by simp only [mD,qA4];exact ⟨fun h=>⟨fun s hs=>h s (.inl hs),fun s hs=>h s (.inr hs)⟩,fun h s hs=>hs.elim (h.1 s) (h.2 s)⟩
section
variable {E:Env} {F F':aG} {H H' H1:Hp} {call:Nat→List PV→Hp→Option (PV×Hp)}
theorem Au {x:Opd} (h:mD x.slots F F'):ev E F' x=ev E F x:=by
 cases x with
 | t s=>simp only [ev,h s (by simp [Opd.slots])]
 | _=>rfl
theorem eV {x:Opd} (h:mD x.slots F F'):evV E F' x=evV E F x:=by simp only [evV,Au h]
theorem Av {x:Opd} (h:mD x.slots F F'):yfn E F' x=yfn E F x:=by simp only [yfn,eV h]
theorem LD {x:Option Opd} (h:mD (Hj x) F F'):mL E F' x=mL E F x:=by
 cases x with
 | none=>rfl
 | some x=>simp only [mL,Av (show mD x.slots F F' from h)]
theorem Fe:∀ (l:List Opd),mD (xD l) F F'→evs E F' l=evs E F l
 | [],_=>rfl
 | x::r,h=>by simp only [xD,Fd] at h;simp only [evs,eV h.1,Fe r h.2]
theorem TG:∀ (l:List (Nat×Nat×Opd)) (cs:List PV),mD (Hk l) F F'→ykb E F' cs l=ykb E F cs l
 | [],_,_=>rfl
 | (o,z,x)::r,cs,h=>by
  simp only [Hk,Fd] at h;simp only [ykb,eV h.1];split
  ·split
   ·exact TG r _ h.2
   ·rfl
  ·rfl
theorem HP {pu:Bool} {esz:Nat}:∀ (l:List (Nat×Opd)) (rows:List PV) (H:Hp),mD (BV l) F F'→ygz E F' pu esz rows H l=ygz E F pu esz rows H l
 | [],_,_,_=>rfl
 | (i,x)::r,rows,H,h=>by
  simp only [BV,Fd] at h;simp only [ygz,eV h.1];split
  ·split
   ·split
    ·exact HP r _ _ h.2
    ·rfl
   ·rfl
  ·rfl
theorem TH {x:Opd} {s off:Nat} (h:mD (pD E F x) F F') (e:ev E F x=some (.bp s off)):fget F' s=fget F s:=by apply h;simp [pD,e]
theorem V4 {op:AOp} (h:mD (aR E F H op).rd F F'):yar E call F' H op=yar E call F H op:=by
 cases op<;>simp only [aR,Fd] at h<;>simp only [yar]
 case mv x=>simp only [eV h]
 case mvD x=>simp only [eV h]
 case pick c a b=>simp only [eV h.1,eV h.2.1,eV h.2.2]
 case boxL x=>simp only [eV h]
 case boxH x=>simp only [eV h]
 case build ps=>simp only [TG _ _ h]
 case bSl ps=>simp only [HP _ _ _ h]
 case buildN ps=>simp only [HP _ _ _ h]
 case bD ps=>simp only [HP _ _ _ h]
 case load agg sz x=>
  rw [Au h.1];split
  ·rename_i s off e;rw [TH h.2 e]
  all_goals simp_all
 case store sz x y=>
  rw [eV h.2.1,Au h.1];split
  ·split
   ·rename_i s off e;rw [TH h.2.2 e]
   all_goals simp_all
  ·rfl
 case bin x y=>simp only [eV h.1,eV h.2]
 case eqB x y=>simp only [eV h.1,eV h.2]
 case eqA x y=>simp only [eV h.1,eV h.2]
 case eqN x=>simp only [eV h]
 case un x=>simp only [eV h]
 case conv x=>simp only [eV h]
 case mkFn a b=>simp only [Fe _ h.1,Fe _ h.2]
 case mkSl l c=>simp only [Av h.1,Av h.2]
 case slc x lo hi mx=>simp only [eV h.1,LD h.2.1,LD h.2.2.1,LD h.2.2.2]
 case slcA x=>simp only [Au h]
 case fad x=>simp only [Au h.1]
 case fld x=>simp only [eV h]
 case iad x i=>simp only [eV h.1,Av h.2]
 case iadA x i=>simp only [Au h.1,Av h.2.1]
 case idx x i=>simp only [eV h.1,Av h.2]
 case ext x i=>simp only [eV h]
 case call f az=>simp only [eV h.1,Fe _ h.2]
 case len x=>simp only [eV h]
 case cap x=>simp only [eV h]
 case app s x=>simp only [eV h.1,eV h.2]
 case appZ s n=>simp only [eV h.1,Av h.2]
 case clr x=>simp only [eV h]
 case minmax l=>simp only [Fe _ h]
 case nilchk x=>simp only [Au h.1]
structure EffI (ids:List Nat) (H H1 H' H1':Hp):Prop where
 inn:∀ id∈ids,H1'[id]?=H1[id]?
 out:∀ id,id∉ids→H1[id]?=H[id]?∧H1'[id]?=H'[id]?
 len:H1.length=H.length∧H1'.length=H'.length
theorem EffI.refl {ids:List Nat} (h:∀ id∈ids,H'[id]?=H[id]?):EffI ids H H H' H':=⟨h,fun _ _=>⟨rfl,rfl⟩,rfl,rfl⟩
theorem EffI.trans {ids:List Nat} {H1' H2 H2':Hp} (h:EffI ids H H1 H' H1') (k:EffI ids H1 H2 H1' H2'):EffI ids H H2 H' H2':=
 ⟨k.inn,fun id hi=>⟨(k.out id hi).1.trans (h.out id hi).1,(k.out id hi).2.trans (h.out id hi).2⟩,k.len.1.trans h.len.1,k.len.2.trans h.len.2⟩
theorem EffI.mono {ids ids':List Nat} {H1':Hp} (h:EffI ids H H1 H' H1') (hs:∀ id∈ids,id∈ids') (ha:∀ id∈ids',H'[id]?=H[id]?):EffI ids' H H1 H' H1':=by
 refine ⟨fun id hi=>?_,fun id hi=>h.out id (fun hx=>hi (hs id hx)),h.len⟩
 by_cases hx:id∈ids
 ·exact h.inn id hx
 ·rw [(h.out id hx).1,(h.out id hx).2];exact ha id hi
theorem EffI.set {ids:List Nat} {id:Nat} {b:HB} (ha:∀ i∈ids,H'[i]?=H[i]?) (hi:id∈ids):EffI ids H (H.set id b) H' (H'.set id b):=by
 refine ⟨fun k hk=>?_,fun k hk=>?_,by simp,by simp⟩
 ·rw [EE,EE];have hlen:id<H'.length↔id<H.length:=by
   have:=ha id hi;constructor<;>intro h1
   ·rcases qAz id H.length with h2 | h2
    ·exact h2
    ·rw [fS h2,cN h1] at this;cases this
   ·rcases qAz id H'.length with h2 | h2
    ·exact h2
    ·rw [fS h2,cN h1] at this;cases this
  split
  ·simp only [hlen]
  ·exact ha k hk
 ·have hne:id≠k:=fun e=>hk (e ▸ hi)
  rw [rW hne,rW hne];exact ⟨rfl,rfl⟩
theorem LE {p q:PV} (ha:∀ id∈dZ p,H'[id]?=H[id]?) (h:yeg H p=some (q,H1)):∃ H1',yeg H' p=some (q,H1')∧EffI (dZ p) H H1 H' H1':=by
 cases p<;>simp only [yeg] at h ⊢ <;> first
  | (simp only [bV,Prod.mk.injEq] at h;obtain ⟨rfl,rfl⟩:=h;exact ⟨_,rfl,EffI.refl ha⟩)
  | (cases h;done)
  | skip
 case own id lo len ext cap=>
  have hid:=ha id (by simp [dZ]);rw [hid];split at h
  ·rename_i b hb;split at h
   ·rename_i hc
    cases h
    exact ⟨_,Sj hc,EffI.set ha (by simp [dZ])⟩
   ·cases h
  ·cases h
theorem TI:∀ (l ps:List PV) (H H' H1:Hp),(∀ id∈kB l,H'[id]?=H[id]?)→ydT H l=some (ps,H1)→∃ H1',ydT H' l=some (ps,H1')∧EffI (kB l) H H1 H' H1'
 | [],ps,H,H',H1,ha,h=>by simp only [ydT,bV,Prod.mk.injEq] at h;obtain ⟨rfl,rfl⟩:=h;exact ⟨_,rfl,EffI.refl ha⟩
 | x::r,ps,H,H',H1,ha,h=>by
  simp only [ydT] at h;split at h
  ·rename_i y H2 hy;split at h
   ·rename_i ys H3 hys
    cases h
    have ha1:∀ id∈dZ x,H'[id]?=H[id]?:=fun id hi=>ha id (by simp [kB,hi])
    obtain ⟨H2',e2,k2⟩:=LE ha1 hy;have k2':EffI (kB (x::r)) H H2 H' H2':=k2.mono (fun id hi=>by simp [kB,hi]) ha;obtain ⟨H3',e3,k3⟩:=TI r ys H2 H2' _ (fun id hi=>k2'.inn id (by simp [kB,hi])) hys;refine ⟨H3',by simp only [ydT,e2,e3],k2'.trans (k3.mono (fun id hi=>by simp [kB,hi]) k2'.inn)⟩
   ·cases h
  ·cases h
theorem Cj {p q:PV} (ha:∀ id∈cO p,H'[id]?=H[id]?) (h:yca H p=some (q,H1)):∃ H1',yca H' p=some (q,H1')∧EffI (cO p) H H1 H' H1':=by
 cases p with
 | agg cs=>
  simp only [yca,nR] at h ⊢;obtain ⟨⟨ys,H2⟩,hys,e⟩:=h
  cases e
  obtain ⟨H1',e1,k⟩:=TI cs ys H H' _ ha hys;exact ⟨H1',⟨⟨ys,H1'⟩,e1,rfl⟩,k⟩
 | _=>simp only [cO] at ha ⊢;simp only [yca] at h ⊢;exact LE ha h
theorem TJ:∀ (l ps:List PV) (H2:Hp),eO l=[]→ya3 [] l=some (ps,H2)→∀ H,ya3 H l=some (ps,H)
 | [],ps,H2,_,h,H=>by simp only [ya3,bV,Prod.mk.injEq] at h;obtain ⟨rfl,_⟩:=h;rfl
 | x::r,ps,H2,hi,h,H=>by
  simp only [eO,List.append_eq_nil_iff] at hi;simp only [ya3] at h;split at h
  ·rename_i y H3 hy;split at h
   ·rename_i ys H4 hys
    cases h
    have hp:∀ H,yca H x=some (y,H):=by
     intro H;obtain ⟨H5,e5,k5⟩:=Cj (H':=H) (fun id hx=>by rw [hi.1] at hx;cases hx) hy;have:H5=H:=oZ fun k=>(k5.out k (by rw [hi.1];simp)).2
     rw [e5,this]
    have h3:H3=[]:=by have:=hp [];rw [hy] at this;cases this;rfl
    subst h3;simp only [ya3,hp H,TJ r ys _ hi.2 hys H]
   ·cases h
  ·cases h
structure Eff (p:FP) (H H1 H' H1':Hp):Prop where
 all:p.all=true→H1'=H1
 inn:p.all=false→∀ id∈p.hw,H1'[id]?=H1[id]?
 out:p.all=false→∀ id,id∉p.hw→H1[id]?=H[id]?∧H1'[id]?=H'[id]?
 push:p.push=true→H1'.length=H1.length
 len:p.push=false→p.all=false→H1.length=H.length∧H1'.length=H'.length
structure AgH (p:FP) (H H':Hp):Prop where
 ids:∀ id,id∈p.hr∨id∈p.hw→H'[id]?=H[id]?
 push:p.push=true→H'.length=H.length
 all:p.all=true→H'=H
theorem Eff.same {p:FP} (ha:AgH p H H'):Eff p H H H' H':=
 ⟨fun h=>ha.all h,fun _ id hi=>ha.ids id (.inr hi),fun _ _ _=>⟨rfl,rfl⟩,fun h=>ha.push h,fun _ _=>⟨rfl,rfl⟩⟩
theorem Eff.ofI {p:FP} {H1':Hp} (hall:p.all=false) (ha:AgH p H H') (k:EffI p.hw H H1 H' H1'):Eff p H H1 H' H1':=
 ⟨fun h=>(by rw [hall] at h;cases h),fun _=>k.inn,fun _=>k.out,fun h=>by rw [k.len.1,k.len.2];exact ha.push h,fun _ _=>k.len⟩
theorem Eff.pushI {p:FP} {H1':Hp} {b:HB} (hall:p.all=false) (hp:p.push=true) (hlen:H.length∈p.hw) (ha:AgH p H H') (k:EffI p.hw H H1 H' H1'):Eff p H (H1++[b]) H' (H1'++[b]):=by
 have hl:=ha.push hp;obtain ⟨l1,l2⟩:=k.len;refine ⟨fun h=>(by rw [hall] at h;cases h),fun _ id hi=>?_,fun _ id hi=>?_,fun _=>by simp [l1,l2,hl],fun h=>(by rw [hp] at h;cases h)⟩
 ·rw [nU,nU,l1,l2,hl];split
  ·exact k.inn id hi
  ·rfl
 ·have hne:id≠H.length:=fun e=>hi (e ▸ hlen)
  obtain ⟨h1,h2⟩:=k.out id hi;rw [nU,nU,l1,l2,hl]
  by_cases hlt:id<H.length
  ·rw [Sj hlt,Sj hlt];exact ⟨h1,h2⟩
  ·rw [Sk hlt,Sk hlt];have e1:[b][id-H.length]?=none:=fS (by simp;omega);rw [e1,fS (l:=H) (by omega),fS (l:=H') (by omega)];exact ⟨rfl,rfl⟩
theorem HQ {pu:Bool} {esz:Nat}:∀ (l:List (Nat×Opd)) (rows rows':List PV) (H H' H1:Hp),(∀ id∈lZ E F l,H'[id]?=H[id]?)→ygz E F pu esz rows H l=some (rows',H1) →
  ∃ H1',ygz E F pu esz rows H' l=some (rows',H1')∧EffI (lZ E F l) H H1 H' H1'
 | [],rows,rows',H,H',H1,ha,h=>by simp only [ygz,bV,Prod.mk.injEq] at h;obtain ⟨rfl,rfl⟩:=h;exact ⟨_,rfl,EffI.refl ha⟩
 | (i,x)::r,rows,rows',H,H',H1,ha,h=>by
  simp only [ygz] at h ⊢;split at h
  ·rename_i p hp;have hids:jT E F x=cO p:=by
    unfold evV at hp;split at hp
    ·rename_i q hq;cases hp;simp [jT,hq]
    ·cases hp
   have key:∀ {q H2},(if pu then yca H p else some (p,H))=some (q,H2)→∃ H2',(if pu then yca H' p else some (p,H'))=some (q,H2')∧EffI (lZ E F ((i,x)::r)) H H2 H' H2':=by
    intro q H2 hq
    cases pu
    ·simp only [gR,if_false,bV,Prod.mk.injEq] at hq ⊢;obtain ⟨rfl,rfl⟩:=hq;exact ⟨H',⟨rfl,rfl⟩,EffI.refl ha⟩
    ·simp only [if_true] at hq ⊢;obtain ⟨H2',e,k⟩:=Cj (H':=H') (fun id hi=>ha id (by simp [lZ,hids,hi])) hq;exact ⟨H2',e,k.mono (fun id hi=>by simp [lZ,hids,hi]) ha⟩
   split at h
   ·rename_i q H2 hq;split at h
    ·rename_i hc;obtain ⟨H2',e2,k2⟩:=key hq;obtain ⟨H3',e3,k3⟩:=HQ r _ rows' H2 H2' H1 (fun id hi=>k2.inn id (by simp [lZ,hi])) h;refine ⟨H3',?_,k2.trans (k3.mono (fun id hi=>by simp [lZ,hi]) k2.inn)⟩;rw [e2];simp only [hc];exact e3
    ·cases h
   ·cases h
  ·cases h
theorem xM {x:Opd} {p:PV} (h:evV E F x=some p):jT E F x=cO p:=by
 unfold evV at h;split at h
 ·rename_i q hq;cases h;simp [jT,hq]
 ·cases h
theorem V5 {p:PV} (ha:∀ id∈cO p,H'[id]?=H[id]?):yhm H' p=yhm H p:=by
 cases p<;>simp only [yhm]
 case own id lo len ext cap=>rw [ha id (by simp [cO,dZ])]
theorem V6 {p:PV} {pu:Bool} (ha:∀ id∈cO p,H'[id]?=H[id]?):sG H' pu p=sG H pu p:=by
 cases p<;>simp only [sG]
 case own id lo len ext cap=>rw [ha id (by simp [cO,dZ])]
theorem V7 {p:PV} {esz:Nat} {lo hi mx:Option Int} (ha:∀ id∈cO p,H'[id]?=H[id]?):yhn H' esz lo hi mx p=yhn H esz lo hi mx p:=by
 cases p<;>simp only [yhn]
 case own id lo0 len ext cap=>rw [ha id (by simp [cO,dZ])]
theorem HR {p:FP} {pu:Bool} {esz bytes:Nat} {rows:List PV} {r:PV} (hall:p.all=false) (hp:p.push=true) (hlen:H.length∈p.hw) (ha:AgH p H H') (h:ydf H pu esz bytes rows=some (r,H1)) :
  ∃ H1',ydf H' pu esz bytes rows=some (r,H1')∧Eff p H H1 H' H1':=by
 unfold ydf at h ⊢;split at h
 ·rename_i hc
  cases h
  rw [Sj hc,ha.push hp];exact ⟨_,rfl,Eff.pushI hall hp hlen ha (EffI.refl fun id hi=>ha.ids id (.inr hi))⟩
 ·cases h
theorem V8 {p:FP} {pu:Bool} {esz bytes k:Nat} {z s r:PV} (hall:p.all=false) (hp:p.push=true) (hlen:H.length∈p.hw) (ha:AgH p H H') (h:appZ H pu esz bytes z s k=some (r,H1)) :
  ∃ H1',appZ H' pu esz bytes z s k=some (r,H1')∧Eff p H H1 H' H1':=by
 unfold appZ at h ⊢;split at h
 ·split at h
  ·rename_i he;cases h;rw [Sj he];exact ⟨_,rfl,Eff.same ha⟩
  ·rename_i he;rw [Sk he];exact HR hall hp hlen ha h
 ·cases h
theorem V9 {p:FP} {pu:Bool} {esz:Nat} {z s:PV} (hall:p.all=false) (hs:∀ id∈cO s,id∈p.hw) (ha:AgH p H H') (h:clrV H pu esz z s=some H1) :
  ∃ H1',clrV H' pu esz z s=some H1'∧Eff p H H1 H' H1':=by
 unfold clrV at h ⊢;split at h
 ·cases h;exact ⟨_,rfl,Eff.same ha⟩
 ·cases h;exact ⟨_,rfl,Eff.same ha⟩
 ·cases h;exact ⟨_,rfl,Eff.same ha⟩
 ·rename_i id lo len ext cap;have hm:id∈p.hw:=hs id (by simp [cO,dZ]);split at h
  ·cases h;exact ⟨_,rfl,Eff.same ha⟩
  ·rw [ha.ids id (.inr hm)];split at h
   ·rename_i b hb;split at h
    ·rename_i hc
     cases h
     rw [Sj hc];exact ⟨_,rfl,Eff.ofI hall ha (EffI.set (fun k hk=>ha.ids k (.inr hk)) hm)⟩
    ·cases h
   ·cases h
 ·cases h
theorem W0 {p:FP} {pu:Bool} {esz bytes:Nat} {s x r:PV} (hall:p.all=false) (hp:p.push=true) (hlen:H.length∈p.hw) (hs:∀ id∈cO s,id∈p.hw) (hx:∀ id∈cO x,id∈p.hw) (ha:AgH p H H') (h:appV H pu esz bytes s x=some (r,H1)) :
  ∃ H1',appV H' pu esz bytes s x=some (r,H1')∧Eff p H H1 H' H1':=by
 have has:∀ id∈cO s,H'[id]?=H[id]?:=fun id hi=>ha.ids id (.inr (hs id hi))
 have hax:∀ id∈cO x,H'[id]?=H[id]?:=fun id hi=>ha.ids id (.inr (hx id hi))
 unfold appV at h ⊢;rw [V5 hax,V6 hax];split at h
 ·cases h
 ·rename_i ys hys;split at h
  ·rename_i hc;rw [Sj hc]
   cases s with
   | nils=>
    simp only [] at h ⊢;split at h
    ·rename_i he;cases h;rw [Sj he];exact ⟨_,rfl,Eff.same ha⟩
    ·rename_i he;rw [Sk he];exact HR hall hp hlen ha h
   | emp=>
    simp only [] at h ⊢;split at h
    ·rename_i he;cases h;rw [Sj he];exact ⟨_,rfl,Eff.same ha⟩
    ·rename_i he;rw [Sk he];exact HR hall hp hlen ha h
   | own id lo len ext cap=>
    simp only [] at h ⊢;rw [has id (by simp [cO,dZ])];split at h
    ·rename_i b hb;split at h
     ·rename_i hc2;rw [Sj hc2];split at h
      ·rename_i he;cases h;rw [Sj he];exact ⟨_,rfl,Eff.same ha⟩
      ·rename_i he;rw [Sk he];have hset:∀ b',Eff p H (H.set id b') H' (H'.set id b'):=fun b'=>Eff.ofI hall ha (EffI.set (fun k hk=>ha.ids k (.inr hk)) (hs id (by simp [cO,dZ])))
       unfold lW at h ⊢;split at h
       ·split at h
        ·rename_i h1;split at h
         ·rename_i h2;cases h;rw [Sj h1,Sj h2];exact ⟨_,rfl,hset _⟩
         ·cases h
        ·rename_i h1;rw [Sk h1];exact HR hall hp hlen ha h
       ·split at h
        ·cases h
        ·rename_i h1;rw [Sk h1];split at h
         ·rename_i h2;cases h;rw [Sj h2];exact ⟨_,rfl,hset _⟩
         ·rename_i h2;split at h
          ·rename_i h3;cases h;rw [Sk h2,Sj h3];exact ⟨_,rfl,hset _⟩
          ·cases h
     ·cases h
    ·cases h
   | _=>simp only [] at h;cases h
  ·cases h
theorem pL {p:PV} {out:Out} (h:outV p H=some out):out=⟨some (.v p),none,H⟩:=by simp only [outV,bV] at h;exact h.symm
theorem TK {p:PV} {id:Nat} (h:id∈dZ p):id∈cO p:=by cases p<;>first | exact h | simp [dZ] at h
theorem lE {p:FP} {x:PV} {out:Out} (ha:AgH p H H') (h:outV x H=some out):∃ H1',outV x H'=some ⟨out.x,out.bx,H1'⟩∧Eff p H out.h H' H1':=by rw [pL h];exact ⟨H',rfl,Eff.same ha⟩
theorem TL {v:PV} {p:Nat×PV} (hv:locY v=some p):∀ (l:List PV) (j:Nat),l[j]?=some v→eO l≠[]
 | [],j,e=>by simp at e
 | x::r,0,e=>by
  simp at e;subst e
  cases x<;>simp [locY] at hv<;>simp [eO,cO,dZ]
 | x::r,j+1,e=>by simp at e;simp only [eO];intro h;exact TL hv r j e (List.append_eq_nil_iff.1 h).2
theorem TM {n:Nat} {first captured av:List PV} (h:eO (first++av++captured)=[]):ynY E (.fn (.func n) first captured) av=none:=by
 unfold ynY;simp only
 cases E.lo n with
 | none=>rfl
 | some j=>
  simp only;split
  ·rename_i hj;split
   ·rename_i hy;exact absurd h (TL hy _ _ hj)
   ·rfl
  ·rfl
theorem W5 {f:Opd} {az:List Opd} {fv:PV} {av:List PV} {r:PV} {H1:Hp} (hq:sH E F f az=true) (hf:evV E F f=some fv) (hav:evs E F az=some av) (hc:ykc E call fv av H=some (r,H1)):H1=H∧∀ H',ykc E call fv av H'=some (r,H'):=by
 unfold sH at hq;rw [hf,hav] at hq;split at hq
 ·rename_i n first captured vs h1 h2
  cases h1;cases h2
  simp only [bQ,List.isEmpty_iff,qA,jR] at hq;obtain ⟨hrb,hi,hs⟩:=hq;have key:∃ ps H2,ya3 [] (first++av++captured)=some (ps,H2)∧∃ r',ydk E call n ps=some r':=by
   rcases hs with hs|hs
   ·simp only [ykc,TM hi,nX,hrb,gR,if_false] at hc;split at hc
    ·rename_i x hx;split at hx
     ·rename_i az' H3 hp;split at hx
      ·rename_i r' hr';have:∃ H2,ya3 [] (first++av++captured)=some (az',H2):=by
        have hgo:∀ (l ps:List PV) (H H2:Hp),eO l=[]→ya3 H l=some (ps,H2)→∃ H3,ya3 [] l=some (ps,H3):=by
         intro l;induction l with
         | nil=>intro ps H H2 _ e;simp only [ya3,bV,Prod.mk.injEq] at e;exact ⟨[],by simp [ya3,e.1]⟩
         | cons x r ih=>
          intro ps H H2 hi e;simp only [eO,List.append_eq_nil_iff] at hi;simp only [ya3] at e;split at e
          ·rename_i y H4 hy;split at e
           ·rename_i ys H5 hys
            cases e
            obtain ⟨H6,e6,k6⟩:=Cj (H':=[]) (fun id hx=>by rw [hi.1] at hx;cases hx) hy;have h6:H6=[]:=jA (by rw [k6.len.2];rfl);subst h6;obtain ⟨H7,e7⟩:=ih ys _ _ hi.2 hys;exact ⟨H7,by simp only [ya3,e6,e7]⟩
           ·cases e
          ·cases e
        exact hgo _ _ _ _ hi hp
       obtain ⟨H2,h2⟩:=this;exact ⟨az',H2,h2,r',hr'⟩
      ·cases hx
     ·cases hx
    ·rw [Sj hs] at hc;cases hc
   ·split at hs
    ·rename_i ps H2 hp;obtain ⟨r',hr'⟩:=BN.1 hs;exact ⟨ps,H2,hp,r',by simp only [ydk,hr']⟩
    ·cases hs
  obtain ⟨ps,H2,hp,r',hr'⟩:=key;have all:∀ H,ykc E call (.fn (.func n) first captured) av H=some (r',H):=by
   intro H;have:=TJ _ _ _ hi hp H;simp only [ykc,TM hi,nX,hrb,gR,if_false,this,hr']
   cases r'.scalar<;>rfl
  rw [all H] at hc
  cases hc
  exact ⟨rfl,all⟩
 ·cases hq
theorem W6 {op:AOp} {out:Out} (ha:AgH (aR E F H op) H H') (h:yar E call F H op=some out):∃ H1',yar E call F H' op=some ⟨out.x,out.bx,H1'⟩∧Eff (aR E F H op) H out.h H' H1':=by
 have single:∀ {x bx},out=⟨x,bx,H⟩→(∃ H1',(some ⟨x,bx,H'⟩:Option Out)=some ⟨out.x,out.bx,H1'⟩∧Eff (aR E F H op) H out.h H' H1'):=by rintro x bx rfl;exact ⟨H',rfl,Eff.same ha⟩
 have shut:∀ {o:Out},some o=some out→o=out:=fun e=>by cases e;rfl
 cases op
 case aH pu esz z=>
  simp only [yar,bV] at h ⊢;subst h;have hl:=ha.push rfl;rw [hl];exact ⟨_,rfl,Eff.pushI rfl rfl (by simp [aR]) ha (EffI.refl fun id hi=>ha.ids id (.inr hi))⟩
 case boxH pu esz x=>
  simp only [yar] at h ⊢;split at h
  ·rename_i p hp;have hids:=xM hp;have key:∀ {q H2},(if pu then yca H p else some (p,H))=some (q,H2)→∃ H2',(if pu then yca H' p else some (p,H'))=some (q,H2')∧EffI (aR E F H (.boxH pu esz x)).hw H H2 H' H2':=by
    intro q H2 hq
    cases pu
    ·simp only [gR,if_false,bV,Prod.mk.injEq] at hq ⊢;obtain ⟨rfl,rfl⟩:=hq;exact ⟨H',⟨rfl,rfl⟩,EffI.refl fun id hi=>ha.ids id (.inr hi)⟩
    ·simp only [if_true] at hq ⊢;obtain ⟨H2',e,k⟩:=Cj (H':=H') (fun id hi=>ha.ids id (.inr (by simp [aR,hids,hi]))) hq;exact ⟨H2',e,k.mono (fun id hi=>by simp [aR,hids,hi]) fun id hi=>ha.ids id (.inr hi)⟩
   split at h
   ·rename_i q H2 hq;split at h
    ·rename_i hc
     cases h
     obtain ⟨H2',e2,k2⟩:=key hq;have hl:=ha.push rfl;rw [e2];simp only [];rw [Sj hc];have:H2'.length=H2.length:=by rw [k2.len.1,k2.len.2,hl]
     rw [this];exact ⟨_,rfl,Eff.pushI rfl rfl (by simp [aR]) ha k2⟩
    ·cases h
   ·cases h
  ·cases h
 case bSl pu esz z len ps=>
  simp only [yar] at h ⊢;split at h
  ·rename_i hz;rw [Sj hz];exact lE ha h
  ·rename_i hz;rw [Sk hz];have hw:(aR E F H (.bSl pu esz z len ps)).hw=H.length::lZ E F ps:=by simp [aR,hz]
   have hpush:(aR E F H (.bSl pu esz z len ps)).push=true:=by simp [aR,hz]
   split at h
   ·rename_i rows H2 hf;rw [pL h];obtain ⟨H2',e2,k2⟩:=HQ _ _ _ _ H' _ (fun id hi=>ha.ids id (.inr (by rw [hw];simp [hi]))) hf;have hl:=ha.push hpush;rw [e2];have:H2'.length=H2.length:=by rw [k2.len.1,k2.len.2,hl]
    simp only [this];exact ⟨_,rfl,Eff.pushI rfl hpush (by rw [hw];simp) ha (k2.mono (fun id hi=>by rw [hw];simp [hi]) fun id hi=>ha.ids id (.inr hi))⟩
   ·cases h
 case buildN pu esz z len ps=>
  simp only [yar] at h ⊢;split at h
  ·rename_i hz;rw [Sj hz];exact lE ha h
  ·rename_i hz;rw [Sk hz];have hw:(aR E F H (.buildN pu esz z len ps)).hw=H.length::lZ E F ps:=by simp [aR,hz]
   have hpush:(aR E F H (.buildN pu esz z len ps)).push=true:=by simp [aR,hz]
   split at h
   ·rename_i rows H2 hf;rw [pL h];obtain ⟨H2',e2,k2⟩:=HQ _ _ _ _ H' _ (fun id hi=>ha.ids id (.inr (by rw [hw];simp [hi]))) hf;have hl:=ha.push hpush;rw [e2];have:H2'.length=H2.length:=by rw [k2.len.1,k2.len.2,hl]
    simp only [this];exact ⟨_,rfl,Eff.pushI rfl hpush (by rw [hw];simp) ha (k2.mono (fun id hi=>by rw [hw];simp [hi]) fun id hi=>ha.ids id (.inr hi))⟩
   ·cases h
 case mvD x=>
  simp only [yar] at h ⊢;split at h
  ·rename_i p hp;have hids:=xM hp;split at h
   ·rename_i rows H2 hq;rw [pL h];obtain ⟨H2',e,k⟩:=LE (H':=H') (fun id hi=>ha.ids id (.inr (by simpa [aR,hids] using TK hi))) hq;rw [e];exact ⟨_,rfl,Eff.ofI rfl ha (k.mono (fun id hi=>by simpa [aR,hids] using TK hi) fun id hi=>ha.ids id (.inr hi))⟩
   ·cases h
  ·cases h
 case bD esz z len ps=>
  simp only [yar] at h ⊢;split at h
  ·rename_i hz;rw [Sj hz];exact lE ha h
  ·rename_i hz;rw [Sk hz];split at h
   ·rename_i rows H2 hf;rw [pL h];obtain ⟨H2',e2,k2⟩:=HQ _ _ _ _ H' _ (fun id hi=>ha.ids id (.inr (by simpa [aR] using hi))) hf;rw [e2];exact ⟨_,rfl,Eff.ofI rfl ha (k2.mono (fun id hi=>by simpa [aR] using hi) fun id hi=>ha.ids id (.inr hi))⟩
   ·cases h
 case mkSl pu esz bytes z l c=>
  simp only [yar] at h ⊢;split at h
  ·split at h
   ·rename_i hc;rw [Sj hc,pL h,ha.push rfl];exact ⟨_,rfl,Eff.pushI rfl rfl (by simp [aR]) ha (EffI.refl fun id hi=>ha.ids id (.inr hi))⟩
   ·cases h
  ·cases h
 case load agg sz x=>
  simp only [yar] at h ⊢;split at h
  ·split at h
   ·split at h
    ·exact lE ha h
    ·cases h
   ·cases h
  ·split at h
   ·split at h
    ·exact lE ha h
    ·cases h
   ·cases h
  ·rename_i id ext i off he;have hid:H'[id]?=H[id]?:=ha.ids id (.inl (by simp [aR,jT,he,cO,dZ]));rw [hid];split at h
   ·split at h
    ·rename_i hc;rw [Sj hc];split at h
     ·split at h
      ·exact lE ha h
      ·cases h
     ·cases h
    ·cases h
   ·cases h
  ·cases h
 case store sz x y=>
  simp only [yar] at h ⊢;split at h
  ·rename_i p hp;split at h
   ·split at h
    ·split at h
     ·exact single (shut h).symm
     ·cases h
    ·cases h
   ·rename_i id ext i off he;have hidm:id∈(aR E F H (.store sz x y)).hw:=by simp [aR,jT,he,cO,dZ]
    have hid:H'[id]?=H[id]?:=ha.ids id (.inr hidm);rw [hid];split at h
    ·rename_i b0 hb0;have hids:=xM hp;have key:∀ {q H2},(if b0.pu then yca H p else some (p,H))=some (q,H2)→∃ H2',(if b0.pu then yca H' p else some (p,H'))=some (q,H2')∧EffI (aR E F H (.store sz x y)).hw H H2 H' H2':=by
      intro q H2 hq
      by_cases hpu:b0.pu=true
      case neg=>
       rw [Sk hpu] at hq ⊢;simp only [bV,Prod.mk.injEq] at hq ⊢;obtain ⟨rfl,rfl⟩:=hq;exact ⟨H',⟨rfl,rfl⟩,EffI.refl fun id hi=>ha.ids id (.inr hi)⟩
      case pos=>
       rw [Sj hpu] at hq ⊢;obtain ⟨H2',e,k⟩:=Cj (H':=H') (fun id hi=>ha.ids id (.inr (by simp [aR,hids,hi]))) hq;exact ⟨H2',e,k.mono (fun id hi=>by simp [aR,hids,hi]) fun id hi=>ha.ids id (.inr hi)⟩
     split at h
     ·rename_i q H2 hq;obtain ⟨H2',e2,k2⟩:=key hq;rw [e2];simp only [];rw [k2.inn id hidm];split at h
      ·rename_i b hb;split at h
       ·rename_i hc;rw [Sj hc];split at h
        ·split at h
         ·cases h
          exact ⟨_,rfl,Eff.ofI rfl ha (k2.trans (EffI.set k2.inn hidm))⟩
         ·cases h
        ·cases h
       ·cases h
      ·cases h
     ·cases h
    ·cases h
   ·cases h
  ·cases h
 case slc esz x lo hi mx=>
  simp only [yar] at h ⊢;split at h
  ·rename_i p l hh m hp _ _ _;split at h
   ·cases h
   ·rename_i hc;rw [Sk hc,V7 (fun id hi=>ha.ids id (.inl (by simp [aR,xM hp,hi])))];split at h
    ·exact lE ha h
    ·cases h
  ·cases h
 case iad esz x i=>
  simp only [yar] at h ⊢;split at h
  ·split at h
   ·rename_i hc;rw [Sj hc];split at h
    ·split at h
     ·rename_i hc2;rw [Sj hc2];exact lE ha h
     ·cases h
    ·cases h
   ·cases h
  ·rename_i id lo len ext cap n hp hn;have hid:H'[id]?=H[id]?:=ha.ids id (.inl (by simp [aR,xM hp,cO,dZ]));split at h
   ·rename_i hc;rw [Sj hc,hid];split at h
    ·split at h
     ·rename_i hc2;rw [Sj hc2];exact lE ha h
     ·cases h
    ·cases h
   ·cases h
  ·split at h
   ·rename_i hc;rw [Sj hc];exact lE ha h
   ·cases h
  ·cases h
 case call f az=>
  by_cases hq:sH E F f az=true
  ·simp only [yar] at h ⊢;split at h
   ·rename_i fv av hf hav;split at h
    ·rename_i r H2 hc;obtain ⟨rfl,hr⟩:=W5 hq hf hav hc;rw [hr];exact lE ha h
    ·cases h
   ·cases h
  ·have hall:(aR E F H (.call f az)).all=true:=by simp [aR,hq]
   have:=ha.all hall;subst this;exact ⟨out.h,h,⟨fun _=>rfl,fun e=>(by rw [hall] at e;cases e),fun e=>(by rw [hall] at e;cases e),fun _=>rfl,fun _ e=>(by rw [hall] at e;cases e)⟩⟩
 case app pu esz bytes s x=>
  simp only [yar] at h ⊢;split at h
  ·rename_i sv xv hs hx;split at h
   ·rename_i r H2 hap;obtain ⟨H2',e2,k2⟩:=W0 (H':=H') (p:=aR E F H (.app pu esz bytes s x)) rfl rfl (by simp [aR]) (fun id hi=>by simp [aR,xM hs,hi]) (fun id hi=>by simp [aR,xM hx,hi]) ha hap;rw [e2,pL h];exact ⟨_,rfl,k2⟩
   ·cases h
  ·cases h
 case appZ pu esz bytes z s n=>
  simp only [yar] at h ⊢;split at h
  ·rename_i sv k hs hn;split at h
   ·rename_i h0;rw [Sj h0];split at h
    ·rename_i r H2 hap;obtain ⟨H2',e2,k2⟩:=V8 (H':=H') (p:=aR E F H (.appZ pu esz bytes z s n)) rfl rfl (by simp [aR]) ha hap;rw [e2,pL h];exact ⟨_,rfl,k2⟩
    ·cases h
   ·cases h
  ·cases h
 case clr pu esz z x=>
  simp only [yar] at h ⊢;split at h
  ·rename_i sv hs;split at h
   ·rename_i H2 hap;obtain ⟨H2',e2,k2⟩:=V9 (H':=H') (p:=aR E F H (.clr pu esz z x)) rfl (fun id hi=>by simp [aR,xM hs,hi]) ha hap;rw [e2,pL h];exact ⟨_,rfl,k2⟩
   ·cases h
  ·cases h
 case bad=>simp [yar] at h
 case eqB neg x y=>
  simp only [yar] at h ⊢;split at h
  ·exact lE ha h
  ·cases h
 case eqA neg sz idx x y=>
  simp only [yar] at h ⊢;split at h
  ·split at h
   ·rename_i hc;rw [Sj hc];split at h
    ·exact lE ha h
    ·cases h
   ·cases h
  ·cases h
 case idx agg n esz x i=>
  simp only [yar] at h ⊢;split at h
  ·split at h
   ·rename_i hc;rw [Sj hc];split at h
    ·exact lE ha h
    ·cases h
   ·cases h
  ·cases h
 case eqN neg x=>
  simp only [yar] at h ⊢;split at h<;>first | exact lE ha h | cases h
 all_goals
  simp only [yar] at h ⊢
  repeat' split at h
 all_goals first
  | (cases h;done)
  | exact lE ha h
  | exact single (shut h).symm
  | (rename_i hc;rw [Sj hc];first | exact lE ha h | exact single (shut h).symm)
  | skip
theorem W7 (op:AOp) (H H':Hp):(aR E F H op).rd=(aR E F H' op).rd:=by cases op<;>rfl
theorem TN {op:AOp} {out:Out} {s:Nat} {row:PV} (h:yar E call F H op=some out) (hb:out.bx=some (s,row)):s∈(aR E F H op).wr∧∃ row0,fget F s=some (.box row0):=by
 have hv:∀ {p:PV} {H},outV p H=some out→False:=fun e=>by rw [pL e] at hb;cases hb
 cases op<;>simp only [yar] at h
 case store sz x y=>
  split at h
  ·split at h
   ·rename_i s' off e;split at h
    ·rename_i row0 hrow;split at h
     ·cases h
      simp only [bV,Prod.mk.injEq] at hb;obtain ⟨rfl,_⟩:=hb;exact ⟨by simp [aR,pD,e],row0,hrow⟩
     ·cases h
    ·cases h
   all_goals (repeat' split at h)
   all_goals first | (cases h;done) | (cases h;cases hb;done)
  ·cases h
 all_goals (repeat' split at h)
 all_goals first | (cases h;done) | exact (hv h).elim | (cases h;cases hb;done)
theorem W8 (op:AOp) (s:Nat) (h:s∈(aR E F H op).wr):s∈(aR E F H op).rd:=by
 cases op<;>simp only [aR] at h ⊢ <;> first | (cases h;done) | skip
 simp [h]
theorem LF {x:Opd} {s off:Nat} (h:ev E F x=some (.bp s off)):(∃ row,fget F s=some (.box row))∨noBp F s=false:=by
 cases x with
 | t k=>
  simp only [ev] at h;split at h
  ·rename_i row hrow
   cases h
   exact .inl ⟨row,hrow⟩
  ·right;have key:∀ F:aG,fget F k=some (.bp s off)→noBp F s=false:=by
    intro F;induction F with
    | nil=>intro e;simp [fget] at e
    | cons a r ih=>
     obtain ⟨j,x⟩:=a;intro e;simp only [fget] at e;split at e
     ·cases e;simp [noBp]
     ·have:=ih e
      cases x<;>simp [noBp,this]
   exact key F h
 | c v=>simp [ev] at h
 | g n=>simp only [ev] at h;split at h<;>simp at h
 | f n=>simp [ev] at h
theorem yH5 {op:AOp} {out:Out} {s off:Nat} (h:yar E call F H op=some out) (hb:out.x=some (.bp s off)):(∃ row,fget F s=some (.box row))∨noBp F s=false:=by
 have hv:∀ {p:PV} {H},outV p H=some out→False:=fun e=>by rw [pL e] at hb;cases hb
 cases op<;>simp only [yar] at h
 case fad o x=>
  split at h
  ·rename_i s' o' e
   cases h
   simp only [bV,FV.bp.injEq] at hb;obtain ⟨rfl,_⟩:=hb;exact LF e
  all_goals first | exact (hv h).elim | cases h
 case iadA n esz x i=>
  split at h
  ·rename_i s' o' j e _;split at h
   ·cases h
    simp only [bV,FV.bp.injEq] at hb;obtain ⟨rfl,_⟩:=hb;exact LF e
   ·cases h
  all_goals (repeat' split at h)
  all_goals first | exact (hv h).elim | cases h
 case nilchk x=>
  split at h
  ·rename_i s' o' e
   cases h
   simp only [bV,FV.bp.injEq] at hb;obtain ⟨rfl,_⟩:=hb;exact LF e
  all_goals first | exact (hv h).elim | cases h
 all_goals (repeat' split at h)
 all_goals first | (cases h;done) | exact (hv h).elim | (cases h;cases hb;done)
theorem W9 {o:AO} {out:Out} {row:PV} (h:yar E call F H o.op=some out) (hb:out.x=some (.box row)):yqW o=o.dst∧out.bx=none:=by
 have hv:∀ {p:PV} {H},outV p H=some out→False:=fun e=>by rw [pL e] at hb;cases hb
 unfold yqW
 cases hop:o.op<;>rw [hop] at h<;>simp only [yar] at h
 case aL z=>cases h;exact ⟨rfl,rfl⟩
 case boxL x=>
  split at h
  ·split at h
   ·cases h;exact ⟨rfl,rfl⟩
   ·cases h
  ·cases h
 all_goals (repeat' split at h)
 all_goals first | (cases h;done) | exact (hv h).elim | (cases h;cases hb;done)
end
end Go.Pf
namespace Go.Pf
open Go Go.RowKit
section
variable {E:Env} {F F':aG} {H H' H1:Hp} {call:Nat→List PV→Hp→Option (PV×Hp)}
theorem X3 {dst:Option Nat} {x:Option FV} {F1:aG} (h:ygQ F dst x=some F1) (hb:∀ row d,x=some (.box row)→dst=some d→noBp F d=true):yek F dst x=some F1:=by
 cases dst with
 | none=>cases x with
  | none=>exact h
  | some fv=>cases fv<;>exact h
 | some d=>cases x with
  | none=>exact h
  | some fv=>
   cases fv with
   | box row=>simp only [yek];rw [L6 _ _ (hb row d rfl rfl)];exact h
   | _=>exact h
inductive Loc where
 | sl (s:Nat)
 | bk (id:Nat)
 | len
inductive LV where
 | f (x:Option FV)
 | b (x:Option HB)
 | n (k:Nat)
def look (S:aG×Hp):Loc→LV
 | .sl s=>.f (fget S.1 s)
 | .bk id=>.b S.2[id]?
 | .len=>.n S.2.length
def RdP (p:FP):Loc→Prop
 | .sl s=>s∈p.rd
 | .bk id=>id∈p.hr∨id∈p.hw∨p.all=true
 | .len=>p.push=true∨p.all=true
def WrP (p:FP):Loc→Prop
 | .sl s=>s∈p.wr
 | .bk id=>id∈p.hw∨p.all=true
 | .len=>p.push=true∨p.all=true
theorem TO {gd:Option (Nat×Bool)} (h:mD (BW gd) F F'):yeh F' gd=yeh F gd:=by
 cases gd with
 | none=>rfl
 | some x =>obtain ⟨s,want⟩:=x;simp only [yeh,h s (by simp [BW])]
theorem LG (F:aG) (bx:Option (Nat×PV)) (k:Nat):fget (iZ F bx) k=match bx with | some (s,row)=>if k=s then some (.box row) else fget F k | none=>fget F k:=by
 cases bx with
 | none=>rfl
 | some x=>obtain ⟨s,row⟩:=x;simp only [iZ,qL]
theorem TP {o:AO} {S1:aG×Hp} (h:yiu E call o (F,H)=some S1) (S':aG×Hp) (hag:∀ l,RdP (yfd E F H o) l→look S' l=look (F,H) l) :
  ∃ T',yiu E call o S'=some T'∧(∀ l,WrP (yfd E F H o) l→look T' l=look S1 l)∧(∀ l,¬WrP (yfd E F H o) l→look T' l=look S' l):=by
 obtain ⟨F',H'⟩:=S';have hF:mD (yfd E F H o).rd F F':=fun s hs=>by
  have:=hag (.sl s) hs;simpa [look] using this
 unfold yiu at h ⊢;simp only [] at h ⊢;unfold yfd at hag hF ⊢;split at h
 ·cases h
 ·-- the guard says no
  rename_i hg;rw [hg] at hag hF ⊢;simp only [] at hag hF ⊢;rw [TO hF,hg];simp only []
  cases hd:o.dst with
  | none=>
   rw [hd] at h
   cases h
   exact ⟨_,rfl,fun l hl=>by cases l<;>simp [WrP] at hl,fun _ _=>rfl⟩
  | some d=>
   rw [hd] at h
   cases h
   refine ⟨_,rfl,fun l hl=>?_,fun l hl=>?_⟩
   ·cases l<;>simp [WrP] at hl
    subst hl;simp [look,qL]
   ·cases l with
    | sl s =>simp [WrP] at hl;simp [look,qL,hl]
    | _=>rfl
 ·rename_i hg;rw [hg] at hag hF ⊢;simp only [] at hag hF ⊢;rw [Fd] at hF;rw [TO hF.1,hg];simp only [];split at h
  ·cases h
  ·rename_i out x bx H2 hout;simp only [nR] at h;obtain ⟨F1,hput,e⟩:=h;subst e;have hall:(aR E F H o.op).all=true→H'=H:=fun ha=>oZ fun k=>by
    have:=hag (.bk k) (.inr (.inr ha));simpa [look] using this
   have hH:AgH (aR E F H o.op) H H':=by
    refine ⟨fun id hid=>?_,fun hp=>?_,hall⟩
    ·have:=hag (.bk id) (hid.elim .inl fun x=>.inr (.inl x));simpa [look] using this
    ·have:=hag .len (.inl hp);simpa [look] using this
   obtain ⟨H2',h1,h2⟩:=W6 hH hout;have h3:yar E call F' H' o.op=some ⟨x,bx,H2'⟩:=by
    rw [V4 (F:=F) (H:=H') (by rw [W7 o.op H' H];exact hF.2)];exact h1
   rw [h3];simp only [];have hput':∃ F1',ygQ (iZ F' bx) o.dst x=some F1'∧(∀ s,s∈o.dst.toList++(aR E F H o.op).wr→fget F1' s=fget F1 s)∧(∀ s,s∉o.dst.toList++(aR E F H o.op).wr→fget F1' s=fget F' s):=by
    have hbx:∀ s row,bx=some (s,row)→s∈(aR E F H o.op).wr:=fun s row e=>(TN hout e).1
    have hin:∀ s,s∈(aR E F H o.op).wr→fget (iZ F' bx) s=fget (iZ F bx) s:=by
     intro s hs;rw [LG,LG];have:=hF.2 s (W8 _ _ hs)
     cases bx with
     | none=>exact this
     | some y=>obtain ⟨s',row⟩:=y;simp only [this]
    have hnin:∀ s,s∉(aR E F H o.op).wr→fget (iZ F' bx) s=fget F' s:=by
     intro s hs;rw [LG]
     cases bx with
     | none=>rfl
     | some y=>
      obtain ⟨s',row⟩:=y;simp only [];have hne:¬s=s':=fun e=>hs (e ▸ hbx s' row rfl)
      rw [Sk hne]
    cases hdst:o.dst with
    | none=>
     rw [hdst] at hput;have hx:∀ G:aG,ygQ G none x=some G:=by
      cases x with
      | none=>intro G;rfl
      | some fv=>cases fv with
       | box row=>simp [ygQ] at hput
       | _=>intro G;rfl
     rw [hx] at hput
     cases hput
     refine ⟨_,hx _,fun s hs=>hin s (by simpa using hs),fun s hs=>hnin s (by simpa using hs)⟩
    | some d=>
     rw [hdst] at hput;have key:∀ (G:aG),∃ G1,ygQ G (some d) x=some G1∧fget G1 d=x∧∀ s,s≠d→fget G1 s=fget G s:=by
      intro G
      cases x with
      | none=>exact ⟨_,rfl,by simp [Aj],fun s hs=>by simp [Aj,hs]⟩
      | some fv=>exact ⟨_,rfl,by simp [qL],fun s hs=>by simp [qL,hs]⟩
     obtain ⟨G1,k1,k2,k3⟩:=key (iZ F bx);rw [k1] at hput
     cases hput
     obtain ⟨G2,k4,k5,k6⟩:=key (iZ F' bx);refine ⟨G2,k4,fun s hs=>?_,fun s hs=>?_⟩
     ·by_cases e:s=d
      ·subst e;rw [k2,k5]
      ·rw [k6 s e,k3 s e];simp only [Option.toList_some,qA4,EC,e,false_or] at hs;exact hin s hs
     ·simp only [Option.toList_some,qA4,EC,not_or] at hs;rw [k6 s hs.1];exact hnin s hs.2
   obtain ⟨F1',e1,e2,e3⟩:=hput';rw [e1];refine ⟨(F1',H2'),rfl,fun l hl=>?_,fun l hl=>?_⟩
   ·cases l with
    | sl s=>simp only [WrP] at hl;simp only [look,e2 s hl]
    | bk id=>
     simp only [WrP] at hl;simp only [look];rcases hl with hl | hl
     ·cases ha:(aR E F H o.op).all
      ·rw [h2.inn ha id hl]
      ·rw [h2.all ha]
     ·rw [h2.all hl]
    | len=>
     simp only [WrP] at hl;simp only [look];rcases hl with hl | hl
     ·rw [h2.push hl]
     ·rw [h2.all hl]
   ·cases l with
    | sl s=>simp only [WrP] at hl;simp only [look,e3 s hl]
    | bk id =>simp only [WrP,not_or] at hl;simp only [look];rw [(h2.out (by simpa using hl.2) id hl.1).2]
    | len =>simp only [WrP,not_or] at hl;simp only [look];rw [(h2.len (by simpa using hl.1) (by simpa using hl.2)).2]
theorem X4 {f g:Fn} (h:qF f g=true):f=g:=by
 unfold qF at h;split at h
 ·rw [eq_of_beq h]
 ·rw [eq_of_beq h]
 ·exact of_decide_eq_true h
theorem X5 (f:Fn):qF f f=true:=by
 cases f<;>simp [qF]
mutual
theorem X6:∀ (x:PV),gT x x=true
 | .bool _ | .int _ _ | .nilp | .nils | .emp | .nilf | .mt _ | .ptr _ _ _ _ | .own _ _ _ _ _ | .sub _ _ _ _ _ _=>by simp [gT]
 | .eptr r _ _=>by simp [gT,xN r]
 | .data r=>by simp [gT,xN r]
 | .agg r=>by simp [gT,xN r]
 | .tup r=>by simp [gT,xN r]
 | .fn f a b=>by simp [gT,X5 f,xN a,xN b]
theorem xN:∀ (x:List PV),fU x x=true
 | []=>rfl
 | x::r=>by simp [fU,X6 x,xN r]
end
theorem X7 (b:HB):qG b b=true:=by simp [qG,xN]
theorem LH:∀ (i:Nat) (H H1:Hp),H1.length=H.length→∀ id,H1[id]?=H[id]?→i+id∉cT i H H1
 | i,[],[],_,id,_=>by simp [cT,qH]
 | i,a::r,b::s,hl,id,h=>by
  have hl':s.length=r.length:=by simpa using hl
  have hin:∀ (k:Nat) (H H1:Hp) (x:Nat),x∈cT k H H1→k≤x:=by
   intro k H;induction H generalizing k with
   | nil=>
    intro H1;induction H1 generalizing k with
    | nil=>intro x hx;simp [cT,qH] at hx
    | cons _ s ih=>
     intro x hx;simp only [cT,qH,qAq] at hx;rcases hx with rfl | hx
     ·exact bW _
     ·have:=ih (k+1) x hx;omega
   | cons a r ih=>
    intro H1 x hx
    cases H1 with
    | nil=>
     simp only [cT,qAq] at hx;rcases hx with rfl | hx
     ·exact bW _
     ·have:=ih (k+1) [] x hx;omega
    | cons b s=>
     simp only [cT] at hx;split at hx
     ·have:=ih (k+1) s x hx;omega
     ·simp only [qAq] at hx;rcases hx with rfl | hx
      ·exact bW _
      ·have:=ih (k+1) s x hx;omega
  cases id with
  | zero =>simp only [Ez,bV] at h;subst h;simp only [cT,X7,if_true];intro hm;have:=hin _ _ _ _ hm;omega
  | succ id=>
   have h2:s[id]?=r[id]?:=by simpa using h
   have:=LH (i+1) r s hl' id h2;rw [show i+1+id=i+(id+1) by omega] at this;simp only [cT];split
   ·exact this
   ·simp only [qAq,not_or];exact ⟨by omega,this⟩
 | i,[],_::_,hl,_,_=>by simp at hl
 | i,_::_,[],hl,_,_=>by simp at hl
mutual
theorem X8:∀ (x y:PV),gT x y=true→x=y
 | .bool a,y,h=>by cases y<;>simp [gT] at h;rw [h]
 | .int k a,y,h=>by cases y<;>simp [gT] at h;rw [h.1,h.2]
 | .nilp,y,h=>by cases y<;>simp [gT] at h;rfl
 | .nils,y,h=>by cases y<;>simp [gT] at h;rfl
 | .emp,y,h=>by cases y<;>simp [gT] at h;rfl
 | .nilf,y,h=>by cases y<;>simp [gT] at h;rfl
 | .mt a,y,h=>by cases y<;>simp [gT] at h;rw [h]
 | .ptr ..,y,h=>by cases y<;>simp [gT] at h;rw [h.1,h.2.1,h.2.2.1,h.2.2.2]
 | .own ..,y,h=>by cases y<;>simp [gT] at h;rw [h.1,h.2.1,h.2.2.1,h.2.2.2.1,h.2.2.2.2]
 | .sub ..,y,h=>by cases y<;>simp [gT] at h;rw [h.1,h.2.1,h.2.2.1,h.2.2.2.1,h.2.2.2.2.1,h.2.2.2.2.2]
 | .eptr r i o,y,h=>by cases y<;>simp [gT] at h;rw [xO _ _ h.1,h.2.1,h.2.2]
 | .data a,y,h=>by cases y<;>simp only [gT,gR] at h;rw [xO _ _ h]
 | .agg a,y,h=>by cases y<;>simp only [gT,gR] at h;rw [xO _ _ h]
 | .tup a,y,h=>by cases y<;>simp only [gT,gR] at h;rw [xO _ _ h]
 | .fn f a b,y,h=>by
  cases y with
  | fn f' a' b' =>simp only [gT,bQ] at h;rw [X4 h.1,xO _ _ h.2.1,xO _ _ h.2.2]
  | _=>simp [gT] at h
theorem xO:∀ (x y:List PV),fU x y=true→x=y
 | [],y,h=>by cases y<;>simp [fU] at h;rfl
 | x::a,y,h=>by
  cases y with
  | nil=>simp [fU] at h
  | cons z b =>simp only [fU,bQ] at h;rw [X8 _ _ h.1,xO _ _ h.2]
end
theorem X9 {a b:HB} (h:qG a b=true):a=b:=by obtain ⟨f1,p1,e1,r1⟩:=a;obtain ⟨f2,p2,e2,r2⟩:=b;simp only [qG,bQ,beq_iff_eq] at h;obtain ⟨h1,h2,h3,h4⟩:=h;rw [h1,h2,h3,xO _ _ h4]
theorem HS:∀ (i:Nat) (H H1:Hp) (id:Nat),i+id∉cT i H H1→H1[id]?=H[id]?
 | _,[],[],id,_=>rfl
 | i,a::r,b::s,id,h=>by
  simp only [cT] at h
  cases id with
  | zero=>
   split at h
   ·rename_i e;simp [X9 e]
   ·simp at h
  | succ id=>
   have:i+1+id∉cT (i+1) r s:=by
    rw [show i+1+id=i+(id+1) by omega];split at h
    ·exact h
    ·exact fun hm=>h (eE _ hm)
   simpa using HS (i+1) r s id this
 | i,_::r,[],id,h=>by
  simp only [cT] at h
  cases id with
  | zero=>simp at h
  | succ id=>
   have:i+1+id∉cT (i+1) r []:=by rw [show i+1+id=i+(id+1) by omega];exact fun hm=>h (eE _ hm)
   simpa using HS (i+1) r [] id this
 | i,[],_::s,id,h=>by
  simp only [cT,qH] at h
  cases id with
  | zero=>simp at h
  | succ id=>
   have:i+1+id∉cT (i+1) [] s:=by rw [show i+1+id=i+(id+1) by omega];exact fun hm=>h (eE _ hm)
   simpa using HS (i+1) [] s id this
theorem Y3 {o:AO} {S1:aG×Hp} (h:yiu E call o (F,H)=some S1) (S':aG×Hp) (hag:∀ l,RdP ((yfd E F H o).tight H S1.2) l→look S' l=look (F,H) l) :
  ∃ T',yiu E call o S'=some T'∧(∀ l,WrP ((yfd E F H o).tight H S1.2) l→look T' l=look S1 l)∧(∀ l,¬WrP ((yfd E F H o).tight H S1.2) l→look T' l=look S' l):=by
 unfold FP.tight at hag ⊢
 cases ha:(yfd E F H o).all with
 | false =>rw [ha] at hag;simp only [gR,if_false] at hag ⊢;exact TP h S' hag
 | true=>
  rw [ha] at hag;simp only [if_true] at hag ⊢;have hlen:S'.2.length=H.length:=by
   have:=hag .len (.inl rfl);simpa [look] using this
  have hbk:∀ id:Nat,S'.2[id]?=H[id]?:=by
   intro id
   by_cases hid:id<H.length
   ·have:=hag (.bk id) (.inl (xC.2 hid));simpa [look] using this
   ·rw [fS (by omega),fS (by omega)]
  obtain ⟨T',h1,h2,h3⟩:=TP h S' fun l hl=>by
   cases l with
   | sl s=>exact hag (.sl s) hl
   | bk id=>simp [look,hbk id]
   | len=>simp [look,hlen]
  refine ⟨T',h1,fun l hl=>?_,fun l hl=>?_⟩
  ·cases l with
   | sl s=>exact h2 (.sl s) hl
   | bk id=>exact h2 (.bk id) (.inr ha)
   | len=>exact h2 .len (.inr ha)
  ·cases l with
   | sl s=>exact h3 (.sl s) hl
   | bk id=>
    have e1:=h2 (.bk id) (.inr ha);have hn:id∉cT 0 H S1.2:=fun hm=>hl (.inl hm)
    have e2:=HS 0 H S1.2 id (by rw [iA];exact hn);rw [e1];simp only [look];rw [e2,hbk id]
   | len=>exact absurd (.inl rfl) hl
def stAt (E:Env) (call:Nat→List PV→Hp→Option (PV×Hp)):List AO→Nat→aG×Hp→aG×Hp
 | [],_,S=>S
 | _::_,0,S=>S
 | o::r,i+1,S=>match yiu E call o S with
  | some S'=>stAt E call r i S'
  | none=>S
theorem TQ:∀ (l:List AO) (F:aG) (H:Hp) (F':aG) (H':Hp) (ps:List FP),yn3 E call l F H=some (F',H',ps) →
  ps.length=l.length∧stAt E call l 0 (F,H)=(F,H)∧stAt E call l l.length (F,H)=(F',H') ∧
  ∀ (i:Nat) (o:AO),l[i]?=some o→yiu E call o (stAt E call l i (F,H))=some (stAt E call l (i+1) (F,H))∧ps[i]?=some ((yfd E (stAt E call l i (F,H)).1 (stAt E call l i (F,H)).2 o).tight (stAt E call l i (F,H)).2 (stAt E call l (i+1) (F,H)).2)
 | [],F,H,F',H',ps,h=>by simp only [yn3,bV,Prod.mk.injEq] at h;obtain ⟨rfl,rfl,rfl⟩:=h;exact ⟨rfl,rfl,rfl,fun i o e=>by simp at e⟩
 | o::r,F,H,F',H',ps,h=>by
  simp only [yn3] at h;split at h
  ·rename_i F1 H1 hs;split at h
   ·rename_i F2 H2 ps' hr
    cases h
    obtain ⟨h1,h2,h3,h4⟩:=TQ r F1 H1 F' H' ps' hr;have hs':yiu E call o (F,H)=some (F1,H1):=hs;refine ⟨by simp [h1],rfl,by simp only [kR,stAt,hs'];exact h3,fun i o' e=>?_⟩
    cases i with
    | zero=>
     simp only [Ez,bV] at e;subst e;have e0:stAt E call (o::r) 0 (F,H)=(F,H):=rfl;have e1:stAt E call (o::r) (0+1) (F,H)=(F1,H1):=by simp only [stAt,hs'];exact h2
     rw [e0,e1];exact ⟨hs',rfl⟩
    | succ i=>
     simp only [Hg] at e;obtain ⟨h5,h6⟩:=h4 i o' e;have e1:∀ k,stAt E call (o::r) (k+1) (F,H)=stAt E call r k (F1,H1):=fun k=>by simp only [stAt,hs']
     rw [e1,e1];exact ⟨h5,by simpa using h6⟩
   ·cases h
  ·cases h
theorem xP {a b:List Nat} (h:meets a b=false):∀ s∈a,s∉b:=by
 induction a with
 | nil=>intro s hs;simp at hs
 | cons x r ih=>
  simp only [meets,wW] at h;intro s hs;rcases qAq.1 hs with rfl | hs
  ·intro hb;have:=h.1;simp [hb] at this
  ·exact ih h.2 s hs
theorem Y4 {p q:FP} (h:sI p q=false):∀ l,¬(WrP p l∧(RdP q l∨WrP q l))∧¬(WrP q l∧RdP p l):=by
 simp only [sI,wW] at h;obtain ⟨⟨⟨⟨⟨⟨⟨⟨h1,h2⟩,h3⟩,h4⟩,h5⟩,h6⟩,h7⟩,h8⟩,h9⟩:=h;have heapyP:p.heapy=false↔p.push=false∧p.all=false∧p.hr=[]∧p.hw=[]:=by
  simp [FP.heapy,and_assoc]
 have heapyQ:q.heapy=false↔q.push=false∧q.all=false∧q.hr=[]∧q.hw=[]:=by simp [FP.heapy,and_assoc]
 intro l
 cases l with
 | sl s=>
  refine ⟨fun ⟨a,b⟩=>?_,fun ⟨a,b⟩=>xP h3 s a b⟩;rcases b with b | b
  ·exact xP h1 s a b
  ·exact xP h2 s a b
 | bk id=>
  have pall:p.all=true→q.push=false∧q.all=false∧q.hr=[]∧q.hw=[]:=fun e=>by rw [e] at h4;exact heapyQ.1 (by simpa using h4)
  have qall:q.all=true→p.push=false∧p.all=false∧p.hr=[]∧p.hw=[]:=fun e=>by rw [e] at h5;exact heapyP.1 (by simpa using h5)
  constructor
  ·rintro ⟨a,b⟩;simp only [WrP,RdP] at a b;rcases a with a | a
   ·rcases b with (b | b | b) | (b | b)
    ·exact xP h7 id a b
    ·exact xP h8 id a b
    ·have:=(qall b).2.2.2;rw [this] at a;cases a
    ·exact xP h8 id a b
    ·have:=(qall b).2.2.2;rw [this] at a;cases a
   ·obtain ⟨q1,q2,q3,q4⟩:=pall a;rcases b with (b | b | b) | (b | b)
    ·rw [q3] at b;cases b
    ·rw [q4] at b;cases b
    ·rw [q2] at b;cases b
    ·rw [q4] at b;cases b
    ·rw [q2] at b;cases b
  ·rintro ⟨a,b⟩;simp only [WrP,RdP] at a b;rcases a with a | a
   ·rcases b with b | b | b
    ·exact xP h9 id a b
    ·exact xP h8 id b a
    ·have:=(pall b).2.2.2;rw [this] at a;cases a
   ·obtain ⟨q1,q2,q3,q4⟩:=qall a;rcases b with b | b | b
    ·rw [q3] at b;cases b
    ·rw [q4] at b;cases b
    ·rw [q2] at b;cases b
 | len=>
  have pall:p.all=true→q.push=false∧q.all=false:=fun e=>by rw [e] at h4;have:=heapyQ.1 (by simpa using h4);exact ⟨this.1,this.2.1⟩
  have qall:q.all=true→p.push=false∧p.all=false:=fun e=>by rw [e] at h5;have:=heapyP.1 (by simpa using h5);exact ⟨this.1,this.2.1⟩
  have hpp:p.push=true→q.push=true→False:=fun a b=>by rw [a,b] at h6;cases h6
  have both:WrP p .len→WrP q .len→False:=by
   simp only [WrP];rintro (a | a) (b | b)
   ·exact hpp a b
   ·have:=(qall b).1;rw [a] at this;cases this
   ·have:=(pall a).1;rw [b] at this;cases this
   ·have:=(pall a).2;rw [b] at this;cases this
  exact ⟨fun ⟨a,b⟩=>both a (b.elim id id),fun ⟨a,b⟩=>both b a⟩
theorem TR {ps:List FP}:∀ (pairs:List (Nat×Nat)),yjb ps pairs=true→∀ i j,(i,j)∈pairs→∃ p q,ps[i]?=some p∧ps[j]?=some q∧sI p q=false
 | [],_,i,j,h=>by simp at h
 | (a,b)::r,h,i,j,hm=>by
  simp only [yjb,bQ] at h;rcases qAq.1 hm with e | hm
  ·cases e
   have h1:=h.1;split at h1
   ·rename_i p q hp hq;exact ⟨p,q,hp,hq,by simpa using h1⟩
   ·cases h1
  ·exact TR r h.2 i j hm
theorem HT {d k:Nat} {x:FV}:∀ (F:aG),noBp F d=true→(∀ off,x≠.bp d off)→noBp (cX F k x) d=true
 | [],_,hx=>by
  cases x with
  | bp s off=>simp only [cX,noBp,Bool.and_true,jR,beq_eq_false_iff_ne];exact fun e=>hx off (by rw [e])
  | _=>simp [cX,noBp]
 | (j,y)::r,h,hx=>by
  have hy:noBp r d=true∧∀ (z:FV),noBp ((j,z)::r) d=(match z with | .bp s _=>!(s==d)&&noBp r d | _=>noBp r d):=by
   refine ⟨?_,fun z=>by cases z<;>rfl⟩
   cases y<;>simp [noBp] at h<;>first | exact h | exact h.2
  have hput:∀ (j:Nat) (r:aG),noBp r d=true→noBp ((j,x)::r) d=true:=by
   intro j r hr
   cases x with
   | bp s off =>simp only [noBp,hr,Bool.and_true,jR,beq_eq_false_iff_ne];exact fun e=>hx off (by rw [e])
   | _=>simpa [noBp] using hr
  simp only [cX];split
  ·exact hput _ _ h
  ·split
   ·exact hput _ _ hy.1
   ·have ih:=HT (k:=k) r hy.1 hx
    cases y<;>simp [noBp] at h ⊢ <;> first | exact ih | exact ⟨h.1,ih⟩
theorem TS {d:Nat}:∀ {l:List AO} {o:AO},o∈l→o.dst=some d→1≤tO d l
 | x::r,o,h,hd=>by
  simp only [tO];rcases qAq.1 h with rfl | h
  ·simp [hd]
  ·have:=TS h hd;omega
theorem TT:∀ (l:List AO) (F:aG) (H:Hp) (T:aG×Hp),ypw (yiu E call) l (F,H)=some T →
  (∀ o∈l,∀ d,yqW o=some d→noBp F d=true∧fget F d=none∧tO d l=1)→lY E call l F H=some T
 | [],F,H,T,h,_=>by simpa [ypw,lY] using h
 | o::r,F,H,T,h,hf=>by
  simp only [ypw] at h;split at h
  ·rename_i S1 hs;obtain ⟨F1,H1⟩:=S1;have hboth:yja E call F H o=some (F1,H1)∧∀ d,noBp F d=true→fget F d=none→o.dst≠some d→noBp F1 d=true∧fget F1 d=none:=by
    unfold yiu at hs;simp only [] at hs;unfold yja;split at hs
    ·cases hs
    ·rename_i hg;refine ⟨hs,fun d h1 h2 h3=>?_⟩
     cases hdst:o.dst with
     | none=>rw [hdst] at hs;cases hs;exact ⟨h1,h2⟩
     | some d' =>rw [hdst] at hs;cases hs;refine ⟨HT _ h1 (fun off e=>by cases e),?_⟩;rw [qL,Sk (fun e=>h3 (by rw [hdst,e]))];exact h2
    ·rename_i hg;split at hs
     ·cases hs
     ·rename_i out x bx H2 hout;simp only [nR] at hs ⊢;obtain ⟨F2,hp,e⟩:=hs;refine ⟨⟨F2,X3 hp fun row d hx hd=>?_,e⟩,fun d h1 h2 h3=>?_⟩
      ·obtain ⟨hb1,hb2⟩:=W9 hout hx;have hb2':bx=none:=hb2;rw [hb2'];exact (hf o (by simp) d (hb1.trans hd)).1
      ·cases e
       have hbx:noBp (iZ F bx) d=true∧fget (iZ F bx) d=none:=by
        cases bx with
        | none=>exact ⟨h1,h2⟩
        | some y=>
         obtain ⟨s,row⟩:=y;obtain ⟨_,row0,hrow0⟩:=TN hout rfl;have hne:d≠s:=fun e=>by rw [e,hrow0] at h2;cases h2
         refine ⟨HT _ h1 (fun off e=>by cases e),?_⟩;simp only [iZ,qL,Sk hne];exact h2
       have hxbp:∀ off,x≠some (.bp d off):=by
        intro off e;rcases yH5 hout e with ⟨row,hr⟩ | hr
        ·rw [hr] at h2;cases h2
        ·rw [hr] at h1;cases h1
       cases hdst:o.dst with
       | none=>
        rw [hdst] at hp
        cases x with
        | none=>simp only [ygQ,bV] at hp;subst hp;exact hbx
        | some fv=>cases fv<;>simp only [ygQ,bV] at hp<;>first | (subst hp;exact hbx) | cases hp
       | some d'=>
        have hne:d≠d':=fun e=>h3 (by rw [hdst,e])
        rw [hdst] at hp
        cases x with
        | none =>simp only [ygQ,bV] at hp;subst hp;exact ⟨EH _ hbx.1,by rw [Aj,Sk hne];exact hbx.2⟩
        | some fv =>simp only [ygQ,bV] at hp;subst hp;exact ⟨HT _ hbx.1 (fun off e=>hxbp off (by rw [e])),by rw [qL,Sk hne];exact hbx.2⟩
   obtain ⟨hstep,hkeep⟩:=hboth;simp only [lY,hstep];refine TT r F1 H1 T h fun o' ho' d hd=>?_
   obtain ⟨h1,h2,h3⟩:=hf o' (by simp [ho']) d hd;have hdst:o'.dst=some d:=by
    unfold yqW at hd;split at hd<;>first | exact hd | cases hd
   have hpos:=TS ho' hdst;simp only [tO] at h3;have hne:o.dst≠some d:=by intro e;rw [Sj e] at h3;omega
   rw [Sk hne] at h3;obtain ⟨h4,h5⟩:=hkeep d h1 h2 hne;exact ⟨h4,h5,by omega⟩
  ·cases h
theorem TU {all:List AO}:∀ (l:List AO),BX F all l=true→∀ o∈l,∀ d,yqW o=some d→noBp F d=true∧fget F d=none∧tO d all=1
 | [],_,o,h,_,_=>by simp at h
 | x::r,h,o,ho,d,hd=>by
  simp only [BX,bQ] at h;rcases qAq.1 ho with rfl | ho
  ·have h1:=h.1;rw [hd] at h1;simp only [bQ,Option.isNone_iff_eq_none,beq_iff_eq] at h1;exact ⟨h1.1.1,h1.1.2,h1.2⟩
  ·exact TU r h.2 o ho d hd
theorem TV (d:Nat) (l:List AO):tO d l=l.countP (fun o=>o.dst==some d):=by
 induction l with
 | nil=>rfl
 | cons o r ih=>
  simp only [tO,List.countP_cons,ih]
  by_cases h:o.dst=some d
  ·simp [h];omega
  ·simp [h]
end
theorem TW (o:Oper):tR o=sL o:=by
 unfold tR sL;congr 1
 funext e
 unfold Region.binds
 cases e.ground<;>simp
def Cl (es acc:List Nat) (s:Nat):Nat:=es.foldl (fun s i=>s|||2 ^ i|||acc.getD i 0) s
theorem yAv (acc:List Nat) (b:Nat):∀ (es:List Nat) (s:Nat),(Cl es acc s).testBit b=true→s.testBit b=true∨∃ i∈es,b=i∨(acc.getD i 0).testBit b=true
 | [],s,h=>.inl h
 | i::r,s,h=>by
  have h':(Cl r acc (s|||2 ^ i|||acc.getD i 0)).testBit b=true:=h;rcases yAv acc b r _ h' with h1 | ⟨j,h1,h2⟩
  ·rw [Nat.testBit_or,Nat.testBit_or,qA,qA] at h1;rcases h1 with (h1 | h1) | h1
   ·exact .inl h1
   ·right;rw [Nat.testBit_two_pow] at h1;exact ⟨i,by simp,.inl (by simpa using (of_decide_eq_true h1).symm)⟩
   ·exact .inr ⟨i,by simp,.inr h1⟩
  ·exact .inr ⟨j,by simp [h1],h2⟩
theorem LI:∀ (l:List Oper) (acc:List Nat),(mC l acc).length=acc.length+l.length
 | [],acc=>by simp [mC]
 | o::r,acc=>by simp only [mC];rw [LI r];simp;omega
theorem LJ:∀ (l:List Oper) (acc:List Nat) (e:Nat),e<acc.length→(mC l acc).getD e 0=acc.getD e 0
 | [],acc,e,_=>rfl
 | o::r,acc,e,h=>by simp only [mC];rw [LJ r _ e (by simp;omega)];simp [nU,h]
theorem TX:∀ (l:List Oper) (acc:List Nat) (k:Nat) (o:Oper),l[k]?=some o→∃ acc',(mC l acc).getD (acc.length+k) 0=Cl (tR o) acc' 0∧∀ e,(acc'.getD e 0≠0→e<acc.length+k)∧(e<acc.length+k→acc'.getD e 0=(mC l acc).getD e 0)
 | [],acc,k,o,h=>by simp at h
 | x::r,acc,k,o,h=>by
  cases k with
  | zero=>
   simp only [Ez,bV] at h;subst h;refine ⟨acc,?_,fun e=>⟨fun hne=>?_,fun he=>(LJ _ acc e (by simpa using he)).symm⟩⟩
   ·simp only [mC,sF];rw [LJ r _ acc.length (by simp)];simp [Cl]
   ·rcases qAz e acc.length with h1 | h1
    ·simpa using h1
    ·rw [dH,fS h1] at hne;simp at hne
  | succ k=>
   simp only [Hg] at h;obtain ⟨acc',h1,h2⟩:=TX r (acc++[Cl (tR x) acc 0]) k o h;have hl:(acc++[Cl (tR x) acc 0]).length+k=acc.length+(k+1):=by simp;omega
   rw [hl] at h1 h2;exact ⟨acc',h1,h2⟩
theorem TY {l:List Oper} (h:ER l=true):∀ (i:Nat) (o:Oper),l[i]?=some o→∀ k∈tR o,k<i:=by
 intro i o ho k hk;simp only [ER,tL,xC] at h;have hi:i<l.length:=by
  rcases qAz i l.length with h1|h1
  ·exact h1
  ·rw [fS h1] at ho;cases ho
 have:=h i hi;rw [ho] at this;simp only [tL,decide_eq_true_eq] at this;exact this k hk
theorem TZ {ops:Array Oper} {σ:List Nat} (hback:ER ops.toList=true) (hσ:∀ a j b,σ=a++j::b→∀ o,ops[j]?=some o→∀ k∈sL o,k∈a) :
  ∀ (j:Nat) (a b:List Nat) (i:Nat),σ=a++j::b→j<ops.size→((mC ops.toList []).getD j 0).testBit i=true→i∈a:=by
 intro j;induction j using Nat.strongRecOn with
 | _ j ih=>
  intro a b i e hj hbit;have hoj:ops.toList[j]?=some ops[j]:=by simp [hj]
  obtain ⟨acc',h1,h2⟩:=TX ops.toList [] j _ hoj;simp only [List.length_nil,iA] at h1 h2;rw [h1] at hbit;rcases yAv acc' i (tR ops[j]) 0 hbit with h3 | ⟨k,hk,h3⟩
  ·simp at h3
  ·have hka:k∈a:=hσ a j b e ops[j] (by simp [hj]) k (by rw [← TW];exact hk);rcases h3 with rfl | h3
   ·exact hka
   ·have hkj:k<j:=TY hback j _ hoj k hk;obtain ⟨a1,a2,ea⟩:=List.append_of_mem hka;rw [(h2 k).2 hkj] at h3;have:=ih k hkj a1 (a2++j::b) i (by rw [e,ea];simp) (by omega) h3;rw [ea];simp [this]
theorem Ua {cl:List Nat} {i j:Nat} (hij:i<j) (hj:j<cl.length) (hb:(cl.getD j 0).testBit i=false):(i,j)∈EQ cl:=by simp only [EQ,BQ,xC,List.mem_filterMap];exact ⟨j,hj,i,hij,by rw [hb];rfl⟩
section
variable {P:Program} {E:Env}
theorem Y5 (hE:EO P E) (hm:P.follows .mixedOrders=true):∀ call,ybr P E call→LB P E call:=by
 intro call hc ro nt base g F H a w loc ops l F' H' id hro hl hd hb h hr hL hdf;obtain ⟨hlen,hget⟩:=HO _ _ hl;have hsz:l.length=ops.size:=by simpa using hlen
 refine wpIn_region_draw fun t=>?_
 have hsched:Region.schedule (P.follows .mixedOrders) ops t=Region.linearise.go .any ops ops.size t (Array.replicate ops.size false) []:=by rw [hm];rfl
 rw [hsched];have hcount:(List.range ops.size).countP (fun i=>!(Array.replicate ops.size false).getD i true)≤ops.size:=by
  have:=List.countP_le_length (p:=fun i=>!(Array.replicate ops.size false).getD i true) (l:=List.range ops.size);simpa using this
 obtain ⟨hmem,hnd,hord⟩:=V3 ops (fun i o ho k hk=>TY hb i o (by simpa using ho) k (by rw [TW];exact hk)) ops.size t (Array.replicate ops.size false) (by simp) hcount;revert hmem hnd hord;generalize Region.linearise.go .any ops ops.size t (Array.replicate ops.size false) []=σ;intro hmem hnd hord;have hmem':∀ i,i∈σ↔i<ops.size:=by
  intro i;rw [← hmem i];refine ⟨fun x=>x.1,fun x=>⟨x,?_⟩⟩;simp [x]
 have hord':∀ a j b,σ=a++j::b→∀ o,ops[j]?=some o→∀ k∈sL o,k∈a:=by
  intro a j b e o ho k hk;rcases hord a j b e o ho k hk with h1 | h1
  ·simp only [wR,Array.getElem?_replicate] at h1;split at h1<;>simp at h1
  ·exact h1
 have hperm:σ.Perm (List.range ops.size):=(List.perm_ext_iff_of_nodup hnd List.nodup_range).2 fun i=>by rw [hmem' i,xC]
 have hlperm:(σ.filterMap (l[·]?)).Perm l:=by have:=hperm.filterMap (l[·]?);rw [← hsz,LA] at this;exact this
 have hrd:Rel E nt g F H a.tmps { w with drawn:=w.drawn+1 }:=hr.drew;have hclean:∀ (l:List AO) (F:aG) s x,fget (tP F l) s=some x→fget F s=some x:=by
  intro l;induction l with
  | nil=>intro F s x e;exact e
  | cons o r ih=>
   intro F s x e;simp only [tP] at e;split at e
   ·rename_i d _;have:=ih _ s x e;rw [Aj] at this;split at this
    ·cases this
    ·exact KQ F d s x this
   ·exact ih _ s x e
 have hrun:∃ F0 F2 H2,(∀ s x,fget F0 s=some x→fget F s=some x)∧lY E call (σ.filterMap (l[·]?)) F0 H=some (F2,H2)∧H2=H'∧∀ s,fget F2 s=fget F' s:=by
  unfold yn4 at h
  cases hp:EQ (mC ops.toList []) with
  | nil=>
   rw [hp] at h;have hsort:σ=List.range ops.size:=by
    have key:∀ (τ:List Nat) (k:Nat),(∀ a j b,τ=a++j::b→∀ i,k≤i→i<j→i∈a)→τ.Nodup→(∀ i,i∈τ↔k≤i∧i<ops.size)→k≤ops.size→τ=List.range' k (ops.size-k):=by
     intro τ;induction τ with
     | nil=>
      intro k _ _ h3 hk;have:¬(k<ops.size):=fun hlt=>by have:=(h3 k).2 ⟨bW k,hlt⟩;cases this
      have:ops.size-k=0:=by omega
      rw [this];rfl
     | cons x τ ih=>
      intro k h1 h2 h3 hk;have hx:=(h3 x).1 (by simp);have hxk:x=k:=by
       rcases qAz k x with hlt|hge
       ·have:=h1 [] x τ rfl k (bW k) hlt;cases this
       ·omega
      subst hxk;have:ops.size-x=(ops.size-(x+1))+1:=by omega
      rw [this,List.range'_succ];congr 1;rw [List.nodup_cons] at h2;refine ih (x+1) (fun a j b e i hi hij=>?_) h2.2 (fun i=>?_) (by omega)
      ·have:=h1 (x::a) j b (by rw [e];rfl) i (by omega) hij;rcases qAq.1 this with e2 | e2
       ·omega
       ·exact e2
      ·have h4:=h3 i;rw [qAq] at h4;constructor
       ·intro hi;have h5:=h4.1 (.inr hi);have:i≠x:=fun e=>h2.1 (e ▸ hi)
        omega
       ·intro hi;rcases h4.2 ⟨by omega,hi.2⟩ with e | e
        ·omega
        ·exact e
    have:=key σ 0 (fun a j b e i _ hij=>?_) hnd (fun i=>by rw [hmem' i];simp) (iB _)
    ·rw [this,Nat.sub_zero,List.range_eq_range']
    ·have hj:j<ops.size:=(hmem' j).1 (by rw [e];simp);refine TZ hb hord' j a b i e hj ?_
     cases hbit:((mC ops.toList []).getD j 0).testBit i
     ·have:=Ua hij (by rw [LI];simpa using hj) hbit;rw [hp] at this;cases this
     ·rfl
   rw [hsort,← hsz,LA];exact ⟨F,F',H',fun _ _ e=>e,h,rfl,fun _=>rfl⟩
  | cons pr Bx=>
   rw [hp] at h;simp only [] at h;split at h
   ·rename_i F1 H1 ps hps;split at h
    ·rename_i hok
     cases h
     rw [← hp] at hok;have hcl:=hclean l F;obtain ⟨F0,hF0⟩:∃ F0,F0=tP F l:=⟨_,rfl⟩;rw [← hF0] at hps hok hcl;obtain ⟨s1,s2,s3,s4⟩:=TQ _ _ _ _ _ _ hps;let st:Nat→aG×Hp:=fun i=>stAt E call l i (F0,H)
     let R:Nat→Loc→Prop:=fun i x=>∃ p,ps[i]?=some p∧RdP p x
     let W:Nat→Loc→Prop:=fun i x=>∃ p,ps[i]?=some p∧WrP p x
     have hlocal:Local look (yiu E call) l st R W:=by
      refine ⟨fun i o ho=>?_,fun i o ho S' hag=>?_⟩
      ·exact (s4 i o ho).1
      ·obtain ⟨h1,h2⟩:=s4 i o ho;obtain ⟨T',k1,k2,k3⟩:=Y3 h1 S' (fun x hx=>hag x ⟨_,h2,hx⟩);refine ⟨T',k1,fun x ⟨p,e,hx⟩=>?_,fun x hx=>k3 x fun hw=>hx ⟨_,h2,hw⟩⟩;rw [h2] at e;cases e;exact k2 x hx
     have hfree:∀ i j,i<j→(i∈σ∧j∈([]:List Nat)∨(∃ a b c,σ=a++j::(b++i::c)))→tT R W i j:=by
      intro i j hij hcase;rcases hcase with ⟨_,hx⟩ | ⟨a,b,c,e⟩
      ·cases hx
      ·have hj:j<ops.size:=(hmem' j).1 (by rw [e];simp);have hbit:((mC ops.toList []).getD j 0).testBit i=false:=by
        cases hbit:((mC ops.toList []).getD j 0).testBit i
        ·rfl
        ·have hia:=TZ hb hord' j a _ i e hj hbit;rw [e,List.nodup_append] at hnd;exact absurd rfl (hnd.2.2 i hia i (by simp))
       obtain ⟨p,q,hp1,hq1,hcl⟩:=TR _ hok.1 i j (Ua hij (by rw [LI];simpa using hj) hbit);intro x;obtain ⟨f1,f2⟩:=Y4 hcl x;refine ⟨fun ⟨⟨p',e1,w1⟩,r1⟩=>f1 ?_,fun ⟨⟨q',e1,w1⟩,⟨p',e2,r1⟩⟩=>f2 ?_⟩
       ·rw [hp1] at e1;cases e1;refine ⟨w1,r1.imp (fun ⟨q',e2,r2⟩=>?_) (fun ⟨q',e2,r2⟩=>?_)⟩
        ·rw [hq1] at e2;cases e2;exact r2
        ·rw [hq1] at e2;cases e2;exact r2
       ·rw [hq1] at e1;cases e1;rw [hp1] at e2;cases e2;exact ⟨w1,r1⟩
     obtain ⟨T',k1,k2⟩:=hlocal.perm σ [] (F0,H) (by simpa using hnd) (fun i=>by rw [hsz,rY,hmem' i]) hfree (fun x _=>by show look (F0,H) x=look (st 0) x;rw [show st 0=(F0,H) from s2]) (fun x i hi=>by cases hi);have hfin:st l.length=(F',H'):=s3;rw [hfin] at k2;have hfresh:=TT _ F0 H T' k1 fun o ho d hdo=>by
      obtain ⟨b1,b2,b3⟩:=TU l hok.2 o (hlperm.mem_iff.1 ho) d hdo;refine ⟨b1,b2,?_⟩;rw [TV,hlperm.countP_eq,← TV];exact b3
     refine ⟨F0,T'.1,T'.2,hcl,hfresh,oZ fun k=>?_,fun s=>?_⟩
     ·have:=k2 (.bk k);simpa [look] using this
     ·have:=k2 (.sl s);simpa [look] using this
    ·cases h
   ·cases h
 obtain ⟨F0,F2,H2,h0,h1,rfl,h3⟩:=hrun;refine TA (F':=F2) (H':=H2) hE hc hl hd hro σ g F0 H a _ (fun i hi=>(hmem' i).1 hi) (hrd.less h0) (hL.nx (Nx.drew g H w)) h1 ?_;intro a' w' g' d1 n1 r1;exact ⟨trivial,g',(Nx.drew g H w).trans n1,r1.less fun s x hs=>by rw [h3 s];exact hs,(hdf.nx ((Nx.drew g H w).trans n1)).go d1⟩
theorem LK (hE:EO P E) (hm:P.follows .mixedOrders=true) (n:Nat):ybr P E (ybF E n):=
 (V2 (fun _ hE=>Y5 hE hm) n E hE).2.2.2
end
def topV (E:Env) (n f:Nat) (args:List PV):Option PV:=
 match ybF E n f args [] with
 | some (r,H)=>jC (E.nl f) H r
 | none=>none
section
variable {P:Program} {E:Env}
theorem LM (hE:EO P E) (hm:P.follows .mixedOrders=true) {n f:Nat} {args:List PV} {q:PV} (h:topV E n f args=some q):lD P E.glob f args q:=by
 intro I w vs himm hgl hv;unfold topV at h;split at h
 ·rename_i r H hin;exact run_pure (LK hE hm n) himm hgl hv hin h
 ·cases h
def yxI:List (Nat×AFn)→Nat→Option AFn
 | [],_=>none
 | (k,a)::r,n=>bif Nat.beq k n then some a else yxI r n
def Aw (P:Program):List (Nat×AFn)→Prop
 | []=>True
 | (n,a)::r=>(∃ f loc fg,P.funcs[n]?=some f∧Al P loc fg f=some a)∧Aw P r
theorem LN:∀ (l:List (Nat×AFn)),Aw P l→∀ n a,yxI l n=some a→∃ f loc fg,P.funcs[n]?=some f∧Al P loc fg f=some a
 | [],_,_,_,h=>by simp [yxI] at h
 | (k,b)::r,hl,n,a,h=>by
  simp only [Aw] at hl;simp only [yxI] at h
  cases hc:Nat.beq k n with
  | true =>rw [hc] at h;simp only [cond_true,bV] at h;have:=eJ hc;subst this;subst h;exact hl.1
  | false =>rw [hc] at h;exact LN r hl.2 n a (by simpa using h)
def memN:List Nat→Nat→Bool
 | [],_=>false
 | k::r,n=>bif Nat.beq k n then true else memN r n
def u6 (n:Nat):PV:=.int .u64 (n:Int)
def sumC (add sub:Nat) (n:Nat) (az:List PV):Option PV:=
 match az with
 | [.int .u64 a,.int .u64 b,.int .u64 c]=>
  bif Nat.beq n add&&Nat.ble c.toNat 1 then some (.tup [u6 ((a.toNat+b.toNat+c.toNat)%18446744073709551616),u6 ((a.toNat+b.toNat+c.toNat)/18446744073709551616)])
  else bif Nat.beq n sub&&Nat.ble c.toNat 1 then some (.tup [u6 ((a.toNat+18446744073709551616-b.toNat-c.toNat)%18446744073709551616),u6 (bif Nat.ble (b.toNat+c.toNat) a.toNat then 0 else 1)])
  else none
 | _=>none
def Ff:Array Value→Sem Value:=fun args=>do
 let (x, y, b) ← Extern.MathBitsCarry.three "Sub64" args
 pure (Extern.MathBitsCarry.pair ((x+Extern.MathBitsCarry.m64-y-b)%Extern.MathBitsCarry.m64) (if x<y+b then 1 else 0))
theorem Y6 (x y:Int) (b:Nat) (hb:b≤1) (w:World) :
  (Ff #[.int .u64 x,.int .u64 y,.int .u64 b]).run P w =
   .ok (.tuple #[.int .u64 (((x.toNat+18446744073709551616-y.toNat-b)%18446744073709551616:Nat):Int),.int .u64 ((if x.toNat<y.toNat+b then 1 else 0:Nat):Int)]) w:=by
 have:b=0∨b=1:=by omega
 rcases this with rfl | rfl<;>rfl
theorem Y7 (x y:Int) (b:Nat) (hb:b≤1) (w:World) :
  (add64Entry #[.int .u64 x,.int .u64 y,.int .u64 b]).run P w =
   .ok (.tuple #[.int .u64 (((x.toNat+y.toNat+b)%18446744073709551616:Nat):Int),.int .u64 (((x.toNat+y.toNat+b)/18446744073709551616:Nat):Int)]) w:=by
 have:b=0∨b=1:=by omega
 rcases this with rfl | rfl<;>rfl
theorem Ub {I:Nat→Prop} {w:World} {a b c:Int} {vs:List Value} (h:eF I w [.int .u64 a,.int .u64 b,.int .u64 c] vs):vs=[.int .u64 a,.int .u64 b,.int .u64 c]:=by simp only [eF,dI,RC,iH,and_true] at h;obtain ⟨v,r,rfl,⟨rfl,_⟩,v2,r2,rfl,⟨rfl,_⟩,v3,r3,rfl,⟨rfl,_⟩,rfl⟩:=h;rfl
structure IsExtern (P:Program) (f:FuncId) (e:Array Value→Sem Value):Prop where
 h : ∃ fn, P.funcs[f]? = some fn ∧ (fn.name == "runtime.NumGoroutine") = false ∧ fn.body.isNone = true ∧ Extern.findNext fn = none ∧ Extern.find fn = some e
theorem IsExtern.run {f:FuncId} {e:Array Value→Sem Value} (h:IsExtern P f e) (args:Array Value) (w:World):(callFunc f args).run P w=((e args).run P w).andThen fun v w'=>.ok (.value v) w':=by obtain ⟨fn,h1,h2,h3,h4,h5⟩:=h.h;exact run_callFunc_extern h1 h2 h3 h4 h5 args w
theorem Uc (n:Nat) (h:n<18446744073709551616):gD .u64 (n:Int):=by
 have h0:u64.min=0:=by decide
 have h1:u64.max=18446744073709551615:=by decide
 exact ⟨by rw [h0];omega,by rw [h1];omega⟩
theorem Ud {G:Nat→Option PV} {f:FuncId} {az:List PV} {a b:Nat} (ha:a<18446744073709551616) (hb:b<18446744073709551616)
  (h:∀ (I:Nat→Prop) (w:World) (vs:List Value),eF I w az vs→(callFunc f vs.toArray).run P w=.ok (.value (.tuple #[.int .u64 (a:Int),.int .u64 (b:Int)])) w):lD P G f az (.tup [u6 a,u6 b]):=by
 intro I w vs _ _ hv;unfold kU;rw [h I w vs hv];refine ⟨Bel.refl _ _,?_⟩;simp only [VP,eF,dI,RC,u6];exact ⟨_,rfl,_,_,rfl,⟨rfl,Uc a ha⟩,_,_,rfl,⟨rfl,Uc b hb⟩,rfl⟩
theorem Ue {G:Nat→Option PV} {add sub:Nat} (ha:IsExtern P add add64Entry) (hs:IsExtern P sub Ff):∀ n az r,sumC add sub n az=some r→lD P G n az r:=by
 intro n az r h;unfold sumC at h;split at h
 ·rename_i a b c;have key:∀ (x y:Int) (I:Nat→Prop) (w:World) (vs:List Value),eF I w [.int .u64 a,.int .u64 b,.int .u64 c] vs→a.toNat<18446744073709551616∧b.toNat<18446744073709551616∧0≤c:=by
   intro x y I w vs hv;simp only [eF,dI,RC,gD] at hv;obtain ⟨v,r,-,⟨-,h1⟩,v2,r2,-,⟨-,h2⟩,v3,r3,-,⟨-,h3⟩,-⟩:=hv;have e1:u64.max=18446744073709551615:=by decide
   have e0:u64.min=0:=by decide
   rw [e1] at h1 h2;rw [e0] at h3;exact ⟨by omega,by omega,h3.1⟩
  cases h1:(Nat.beq n add&&Nat.ble c.toNat 1) with
  | true=>
   rw [h1] at h;simp only [cond_true,bV] at h;simp only [bQ] at h1;have e:=eJ h1.1;have hc:=zZ h1.2;subst e;subst h;intro I w vs hI hgl hv;obtain ⟨la,lb,-⟩:=key 0 0 I w vs hv;refine Ud (Nat.mod_lt _ (by omega)) (by omega) (fun I w vs hv=>?_) I w vs hI hgl hv;have h0:=(key 0 0 I w vs hv).2.2;have ec:c=(c.toNat:Int):=by omega
   rw [Ub hv,ha.run,ec];exact Sl (fun r=>Result.andThen r fun v w'=>Result.ok (Next.value v) w') (Y7 a b c.toNat hc w)
  | false=>
   rw [h1] at h;simp only [cond_false] at h
   cases h2:(Nat.beq n sub&&Nat.ble c.toNat 1) with
   | true=>
    rw [h2] at h;simp only [cond_true,bV] at h;simp only [bQ] at h2;have e:=eJ h2.1;have hc:=zZ h2.2;subst e;subst h;refine Ud (Nat.mod_lt _ (by omega)) (by cases Nat.ble (b.toNat+c.toNat) a.toNat<;>simp) (fun I w vs hv=>?_);have:(if a.toNat<b.toNat+c.toNat then 1 else 0:Nat)=(bif Nat.ble (b.toNat+c.toNat) a.toNat then 0 else 1):=by
     cases hh:Nat.ble (b.toNat+c.toNat) a.toNat with
     | true=>have:=zZ hh;simp;omega
     | false=>
      have:¬(b.toNat+c.toNat≤a.toNat):=fun hle=>by rw [BP hle] at hh;cases hh
      simp;omega
    have h0:=(key 0 0 I w vs hv).2.2;have ec:c=(c.toNat:Int):=by omega
    rw [← this,Ub hv,hs.run,ec];exact Sl (fun r=>Result.andThen r fun v w'=>Result.ok (Next.value v) w') (Y6 a b c.toNat hc w)
   | false=>rw [h2] at h;cases h
 ·cases h
def Y8 (add sub:Nat) (tab:List (Nat×AFn)) (qui:List Nat):Env:={ glob:=fun _=>none,sum:=sumC add sub,fns:=yxI tab,frz:=fun _=>false,qui:=memN qui }
theorem Y9 {add sub:Nat} {tab:List (Nat×AFn)} {qui:List Nat} (ha:IsExtern P add add64Entry) (hs:IsExtern P sub Ff) (ht:Aw P tab):EO P (Y8 add sub tab qui) where
 sum:=fun n az r h=>Ue ha hs n az r h
 fns:=fun n fn h=>LN tab ht n fn h
 eff:=fun _ _ _ _ _ _ _ h=>by cases h
 dn:=fun _ h=>by cases h
 top:=fun _ _=>rfl
 yl:=fun _ _ _ _ _ _ h=>by cases h
end
def Z0 (P:Program) (n:Nat):Prop:=∀ (args:Array Value) (w:World),(callFunc n args).run P w=.ok (.enter n args) w∧CallsDIn (Fc none) 0 P n args .returning w fun e u w'=>u=.returning∧w'=w∧∃ v,e=.returned v
def Ax:List Nat→List Nat
 | []=>[]
 | k::r=>bif Nat.ble 6000000 k then (k-6000000)::Ax r else Ax r
theorem Uf {n:Nat}:∀ {l:List Nat},memN l (n+6000000)=true→n∈Ax l
 | [],h=>by cases h
 | k::r,h=>by
  have h:(bif Nat.beq k (n+6000000) then true else memN r (n+6000000))=true:=h
  cases hb:Nat.beq k (n+6000000) with
  | true =>have e:=eJ hb;subst e;have:Nat.ble 6000000 (n+6000000)=true:=BP (by omega);simp only [Ax,this,cond_true,Nat.add_sub_cancel,qAq,true_or]
  | false=>
   rw [hb] at h;have:=Uf (l:=r) h;simp only [Ax]
   cases Nat.ble 6000000 k with
   | true=>exact eE _ this
   | false=>exact this
end Go.Pf
namespace Go.Pf
open Go
def aB (b:Bool) (x y:Prop):Prop:=match b with | true=>x | false=>y
def aA (b:Bool) (x:Prop):Prop:=match b with | true=>x | false=>False
theorem oE {b:Bool} {x y:Prop}:aB b x y↔(b=true→x)∧(b=false→y):=by cases b<;>simp [aB]
theorem bJ {b:Bool} {x:Prop}:aA b x↔b=true∧x:=by cases b<;>simp [aA]
inductive Cs where
 | i (k:IntKind)
 | b
 | d
 deriving DecidableEq,Inhabited
inductive Sh where
 | raw
 | one (c:Cs)
 | agg (l:List Cs)
 deriving Inhabited
def aK:PV→Int
 | .int _ n=>n
 | _=>0
def Ug:PV→Bool
 | .bool b=>b
 | _=>false
def bL:PV→List PV
 | .data l=>l
 | _=>[]
def aP (r:PV) (j:Nat):PV:=r.cells.getD j .nils
def Cm:Cs→PV→PV
 | .i k,x=>.int k (aK x)
 | .b,x=>.bool (Ug x)
 | .d,x=>.data (bL x)
def Fg:List Cs→PV→Nat→List PV
 | [],_,_=>[]
 | c::t,r,j=>Cm c (aP r j)::Fg t r (j+1)
def oF:Sh→PV→PV
 | .raw,r=>r
 | .one c,r=>Cm c r
 | .agg l,r=>.agg (Fg l r 0)
def pM:Cs→PV→Bool
 | .i k,.int l _=>decide (k=l)
 | .b,.bool _=>true
 | .d,.data _=>true
 | _,_=>false
def Cn:List Cs→List PV→Bool
 | [],[]=>true
 | c::t,x::r=>pM c x&&Cn t r
 | _,_=>false
def aF:Sh→PV→Bool
 | .raw,_=>true
 | .one c,x=>pM c x
 | .agg l,.agg cs=>Cn l cs
 | .agg _,_=>false
theorem Uh:∀ (c:Cs) (x:PV),pM c x=true→Cm c x=x
 | .i k,x,h=>by cases x<;>simp [pM] at h;simp [Cm,aK,h]
 | .b,x,h=>by cases x<;>simp [pM] at h;simp [Cm,Ug]
 | .d,x,h=>by cases x<;>simp [pM] at h;simp [Cm,bL]
theorem Ui:∀ (l:List Cs) (pre cs:List PV),Cn l cs=true→Fg l (.agg (pre++cs)) pre.length=cs
 | [],pre,cs,h=>by cases cs<;>simp [Cn] at h;simp [Fg]
 | c::t,pre,cs,h=>by
  cases cs with
  | nil=>simp [Cn] at h
  | cons x r=>
   simp only [Cn,bQ] at h;have h1:aP (.agg (pre++x::r)) pre.length=x:=by simp [aP,PV.cells]
   have h2:=Ui t (pre++[x]) r h.2;simp only [rX,List.singleton_append,hO,List.length_singleton] at h2;simp only [Fg,h1,Uh c x h.1,h2]
theorem Uj:∀ (s:Sh) (r:PV),aF s r=true→oF s r=r
 | .raw,_,_=>rfl
 | .one c,x,h=>Uh c x h
 | .agg l,x,h=>by
  cases x with
  | agg cs=>have:=Ui l [] cs h;simpa [oF] using this
  | _=>simp [aF] at h
structure An where
 at_:Nat
 sh:Sh
 md:Nat
 deriving Inhabited
inductive TC where
 | skip
 | ops (l:List AO) (an:List An) (pairs:List (Nat×Nat)) (forget:List Nat)
 | seq (a b:TC)
 | cond (c:Opd) (a b:TC)
 | block (id:Nat) (b:TC)
 | loop (id:Nat) (b:TC)
 | lG (id:Nat) (b:TC)
 | exit (id:Nat)
 | ret
 | bad
 | rangeF (g:Opd) (f np:Nat) (ib:TC) (ps:List Nat) (az bd:TC)
 | yret (c:AC) (pre:List AO) (d:Nat) (y:Opd) (args:List Opd) (e:Nat) (fgt:List Nat)
 | cut (c:AC)
 | join (id:Nat) (b:TC)
 deriving Inhabited
def dM:TC→AC
 | .skip=>.skip
 | .ops l _ ps fg=>.ops l ps fg
 | .seq a b=>.seq (dM a) (dM b)
 | .cond c a b=>.cond c (dM a) (dM b)
 | .block id b=>.block id (dM b)
 | .loop _ b=>.loop (dM b)
 | .lG _ b=>.lG (dM b)
 | .exit id=>.exit id
 | .ret=>.ret
 | .bad=>.bad
 | .rangeF g _ _ _ ps az bd=>.rangeF g ps (dM az) (dM bd)
 | .yret c pre d y args e fgt=>.yret c pre d y args e fgt
 | .cut c=>c
 | .join _ b=>dM b
structure TFn where
 nparams:Nat
 results:List ARes
 body:TC
 deriving Inhabited
def TFn.fn (t:TFn):AFn:=⟨t.nparams,t.results,dM t.body⟩
def Ay:List An→Nat→An
 | [],_=>⟨0,.raw,0⟩
 | a::r,i=>bif Nat.beq a.at_ i then a else Ay r i
def Fh:Nat→List PV→Hp→Option (PV×Hp):=fun _ _ _=>none
abbrev OK:=Option FV→Option (Nat×PV)→Hp→Prop
abbrev CK:=PV→List PV→Hp→(PV→Hp→Prop)→Prop
def wv (H:Hp) (K:OK) (p:PV):Prop:=K (some (.v p)) none H
def Fi (H:Hp) (x:PV) (K:PV→Hp→Prop):Prop:=
 match x with
 | .bool b=>K (.bool b) H
 | .int k n=>K (.int k n) H
 | .nils | .emp=>K (.data []) H
 | .data rows=>K (.data rows) H
 | .own id lo len ext _=>
  (match H[id]? with
   | some b=>aA (decide (b.rows.length=ext)) (aA (decide (lo+len≤ext)) (aA b.pu (K (.data ((b.rows.drop lo).take len)) (H.set id { b with fz:=true }))))
   | none=>False)
 | _=>False
def HU:Hp→List PV→(List PV→Hp→Prop)→Prop
 | H,[],K=>K [] H
 | H,x::r,K=>Fi H x fun y H'=>HU H' r fun ys H''=>K (y::ys) H''
def tU (H:Hp) (x:PV) (K:PV→Hp→Prop):Prop:=
 match x with
 | .agg cs=>HU H cs fun ys H'=>K (.agg ys) H'
 | x=>Fi H x K
def Co:Hp→List PV→(List PV→Hp→Prop)→Prop
 | H,[],K=>K [] H
 | H,x::r,K=>tU H x fun y H'=>Co H' r fun ys H''=>K (y::ys) H''
def HV (H:Hp) (x:PV) (K:PV→Prop):Prop:=
 match x with
 | .tup ps=>Co H ps fun qs _=>K (.tup qs)
 | x=>tU H x fun q _=>K q
def HW (H:Hp) (x:PV) (K:PV→Prop):Prop:=
 match x with
 | .ptr id ext i off=>(match H[id]? with
  | some b=>aA (decide (b.rows.length=ext)) (match b.rows[i]? with
   | some row=>tU H row fun q _=>K (.eptr [q] 0 off)
   | none=>False)
  | none=>False)
 | .eptr rows i off=>K (.eptr rows i off)
 | x=>tU H x fun q _=>K q
def HX (H:Hp):List PV→(List PV→Prop)→Prop
 | [],K=>K []
 | x::r,K=>HW H x fun y=>HX H r fun ys=>K (y::ys)
def Fj (pu:Bool) (H:Hp) (x:PV) (K:PV→Hp→Prop):Prop:=match pu with | true=>tU H x K | false=>K x H
def Cp (E:Env) (F:aG) (pu:Bool) (esz:Nat):List PV→Hp→List (Nat×Opd)→(List PV→Hp→Prop)→Prop
 | rows,H,[],K=>K rows H
 | rows,H,(i,x)::r,K=>
  match evV E F x with
  | some p=>Fj pu H p fun q H'=>aA (Nat.beq q.cells.length esz&&Nat.blt i rows.length&&iC q.cells) (Cp E F pu esz (rows.set i q) H' r K)
  | none=>False
def Az (op:BinOp) (k k':IntKind) (a b:Int) (K:PV→Prop):Prop:=
 match op with
 | .quo=>aA (decide (k=k')) (aA (!decide (b=0)) (K (.int k (k.wrap (a.tdiv b)))))
 | .rem=>aA (decide (k=k')) (aA (!decide (b=0)) (K (.int k (a.tmod b))))
 | .shl=>aA (!decide (b<0)) (K (.int k (k.wrap (a*2 ^ (min b.toNat k.bits)))))
 | .shr=>aA (!decide (b<0)) (K (.int k (a.fdiv (2 ^ (min b.toNat k.bits)))))
 | op=>aA (decide (k=k')) (match binI op k a b with | some r=>K r | none=>False)
def xQ (n:Nat) (j:Int) (K:Nat→Prop):Nat→Prop
 | 0=>False
 | m+1=>aB (decide (j=((n-(m+1):Nat):Int))) (K (n-(m+1))) (xQ n j K m)
def Fk:List PV→Bool
 | []=>true
 | .int .u8 _::r=>Fk r
 | _=>false
def LO (agg:Bool) (n esz:Nat) (cs:List PV) (j:Int) (K:PV→Prop):Prop:=
 aA (!agg&&(Nat.beq esz 1&&(Nat.beq n cs.length&&Fk cs))) (aA (decide (0≤j)) (aA (decide (j<(n:Int))) (K (.int .u8 (aK (cs.getD j.toNat .nils))))))
def LQ (H:Hp) (x:PV) (K:List PV→Prop):Prop:=
 match x with
 | .nils | .emp=>K []
 | .data rows=>K rows
 | .own id lo len ext _=>
  (match H[id]? with
   | some b=>aA (decide (b.rows.length=ext)) (aA (decide (lo+len≤ext)) (K ((b.rows.drop lo).take len)))
   | none=>False)
 | _=>False
def Cq (H:Hp) (pu:Bool) (esz bytes:Nat) (rows:List PV) (K:PV→Hp→Prop):Prop:=
 aA (decide ((rows.length+64)*(bytes+1)≤room)) (K (.own H.length 0 rows.length rows.length none) (H++[⟨false,pu,esz,rows⟩]))
end Go.Pf
