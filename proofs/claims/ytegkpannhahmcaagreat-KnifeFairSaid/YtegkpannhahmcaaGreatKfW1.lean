/- Part 1 of what the statement rests on: a verified evaluator over pure values, the conditions of the program's functions, and their plain laws. -/
import Derived.Test.YtegkpannhahmcaaGreatKfW0
namespace Go.Pf
open Go Go.RowKit
section
variable {P:Program} {E:Env} {nt:Nat} {g g':Gh} {F:Frm} {H H':Hp} {a:Act} {tmps:Array Value} {w w':World} {o:Oper} {out:Out}
theorem yTB (hr:Rel E nt g F H a.tmps w) {c:Call} {s x:Operand} {s' x':Opd} {t e:TypeId} {pu:Bool} {sz bytes:Nat} {z:PV} (ho:o.op=.call c) (hc:c.callee=.builtin .append) (hargs:c.args.toList=[s,x]) (hts:c.argTypes.toList=[t,t])
  (hu:P.underlying t=some (.slice e)) (hs:yfP P e=some sz) (hby:yoQ P e=some bytes) (hz:yeN P e=some (pu,z)) (hsx:opd s=some s') (hx:opd x=some x') {call} (h:yap E call F H (.app pu sz bytes s' x')=some out) :
  OpR E nt g F H a.tmps w out ((execOp a.eval o).run P w):=by
 obtain ⟨_,hpos,i0,hi0,hi0s⟩:=yeg (P:=P) (w:=w) hs
 have ha:c.args=#[s,x]:=by rw [← qBl];simpa using hargs
 have ht:c.argTypes=#[t,t]:=by rw [← qBl];simpa using hts
 have fin:∀ {q:PV×Hp} {v:Value} {w':World} {g':Gh},(Builtin.append_ #[t,t] o.type #[a.eval s,a.eval x]).run P w=.ok v w'→Nx g g' H q.2 w w'→Rel E nt g' F q.2 a.tmps w'→VR g' q.2 w' q.1 v→OpR E nt g F H a.tmps w ⟨some (.v q.1),none,q.2⟩ ((execOp a.eval o).run P w):=by
  intro q v w' g' hrun hn hr' hv
  refine ⟨v,w',g',.inl ?_,hn,hr',hv⟩
  simp [execOp,ho,resolve,hc,ha,ht,invoke,builtin,hrun]
 simp only [yap] at h
 split at h
 ·rename_i p q hp hq
  have hvs:=yaJ hr hsx hp
  have hvx:=yaJ hr hx hq
  split at h
  ·rename_i r H1 happ
   rw [ya7 h]
   unfold appV at happ
   split at happ
   ·cases happ
   ·rename_i ys hys
    split at happ
    ·rename_i hcnd
     obtain ⟨ad,c2,news,e1,_,_,hnl,hlie,hat⟩:=yOu hr hpos hvx hys hcnd.1 hcnd.2
     split at happ
     ·simp only [VR] at hvs
      split at happ
      ·rename_i hemp
       cases happ
       have:ys=[]:=by simpa using hemp
       subst this
       exact fin (q:=(.nils,H)) (by rw [hvs,e1];exact yr4 hu hi0 (qBh _)) (Nx.refl g H w) hr (by simp [VR])
      ·rename_i hemp
       have hne:ys≠[]:=by simpa using hemp
       obtain ⟨b2,o2,rfl,hatn⟩:=hat hne
       obtain ⟨v,w',g',hrun,hn,hr',hv⟩:=yAJ (ty:=o.type) (olds:=[]) (oc:=[]) (base:=none) (sLen:=0) (sCap:=0) (c:=c2) hr hu hs hby hz (by simpa using happ) rfl Lie.nil (by simp) hlie hnl hatn hne (by have:=List.length_pos_iff.2 hne;omega) (.inl ⟨rfl,rfl,rfl⟩)
       exact fin (by rw [hvs,e1];exact hrun) hn hr' hv
     ·simp only [VR] at hvs
      obtain ⟨ad0,hvs⟩:=hvs
      split at happ
      ·rename_i hemp
       cases happ
       have:ys=[]:=by simpa using hemp
       subst this
       exact fin (q:=(.emp,H)) (by rw [hvs,e1];exact yr4 hu hi0 (qBh _)) (Nx.refl g H w) hr (by simp [VR])
      ·rename_i hemp
       have hne:ys≠[]:=by simpa using hemp
       obtain ⟨b2,o2,rfl,hatn⟩:=hat hne
       obtain ⟨v,w',g',hrun,hn,hr',hv⟩:=yAJ (ty:=o.type) (olds:=[]) (oc:=[]) (base:=ad0) (sLen:=0) (sCap:=0) (c:=c2) hr hu hs hby hz (by simpa using happ) rfl Lie.nil (by simp) hlie hnl hatn hne (by have:=List.length_pos_iff.2 hne;omega)
        (by cases ad0 with
          | none=>exact .inl ⟨rfl,rfl,rfl⟩
          | some ba=>exact .inr ⟨ba,rfl,fun j v hj=>by simp at hj⟩)
       exact fin (by rw [hvs,e1];exact hrun) hn hr' hv
     ·rename_i id lo len ext cap
      have hvs':=hvs
      simp only [VR] at hvs
      obtain ⟨hb,ad0,cc,e2,hle,hv0,hcl,hcm,hcc,hcond⟩:=hvs
      split at happ
      ·rename_i hb' e3
       rw [e2] at e3;cases e3
       split at happ
       ·rename_i hk
        obtain ⟨k1,k2,k3,k4⟩:=hk
        obtain ⟨b,o1,hρ,hle2,had,hcap,cur,T,hcu,hroom⟩:=hcond k1
        obtain ⟨b',o',hblk⟩:=hr.heap id hb e2
        have hat0:=hblk.at_
        rw [hρ] at hat0;cases hat0
        obtain ⟨cur',T',hcu',hbl⟩:=hblk.cells
        rw [hcu] at hcu';cases hcu'
        rw [k3] at hroom hbl
        split at happ
        ·rename_i hemp
         cases happ
         have:ys=[]:=by simpa using hemp
         subst this
         exact fin (q:=(.own id lo len ext cap,H)) (by rw [hv0,e1];exact yr4 hu hi0 hcl) (Nx.refl g H w) hr (by rw [← hv0];exact hvs')
        ·rename_i hemp
         have hne:ys≠[]:=by simpa using hemp
         obtain ⟨b2,o2,rfl,hatn⟩:=hat hne
         have hkp:=List.length_pos_iff.2 hne
         have olds:(hb.rows.drop lo).take len=(hb.rows.drop lo).take len∧((hb.rows.drop lo).take len).length=len:=⟨rfl,by rw [qAl,qAu];omega⟩
         have hR:=yvs hblk.rows lo len
         have hC:=fun hp=>yvo (hblk.pure hp) lo len
         rw [k3] at hR hC
         have grow:∀ {q:PV×Hp},yfa H pu sz bytes ((hb.rows.drop lo).take len++ys)=some q→cc<len+ys.length→OpR E nt g F H a.tmps w ⟨some (.v q.1),none,q.2⟩ ((execOp a.eval o).run P w):=by
          intro q hfr hgt
          obtain ⟨oc,hoc1,hoc2⟩:=yqh sz b _ _ hR
          rw [olds.2] at hoc1
          have hlo:=ytP (pu:=pu) hR (fun hp=>hC (by rw [k2];exact hp)) (by rw [olds.2];exact hoc1) hoc2
          have hbase:∀ j v,oc[j]?=some v→w.cell? (ad0.add j)=some v:=by
           intro j v hj
           have:cc≠0:=by
            intro h0
            have hl0:len=0:=by omega
            rw [hl0] at hoc1
            have:oc=[]:=qAh (by simpa using hoc1)
            subst this;simp at hj
           rw [had this,k3];exact hoc2.addr j v hj
          obtain ⟨v,w',g',hrun,hn,hr',hv⟩:=yAJ (ty:=o.type) (base:=some ad0) (sCap:=cc) (c:=c2) hr hu hs hby hz hfr olds.2 hlo hoc1 hlie hnl hatn hne hgt (.inr ⟨ad0,rfl,hbase⟩)
          exact fin (by rw [hv0,e1];exact hrun) hn hr' hv
         have inpl:∀ {rows':List PV},hb.fz=false→len+ys.length≤cc→rows'=hb.rows.take (lo+len)++(ys++hb.rows.drop (lo+len+ys.length))→o1+(lo+len+ys.length)*sz≤cur.size→yf7 lo cc rows'.length cap →
           OpR E nt g F H a.tmps w ⟨some (.v (.own id lo (len+ys.length) rows'.length cap)),none,H.set id { hb with rows:=rows' }⟩ ((execOp a.eval o).run P w):=by
          intro rows' hfz hin hrows hfit hcap'
          rw [← k2] at hlie
          obtain ⟨v,w',hrun,hn,hr',hv⟩:=yTA (ty:=o.type) (c:=c2) (lo:=lo) (len:=len) (sCap:=cc) (_ext:=ext) (cap:=cap) hr hu hs e2 hfz hρ hcu k3 hlie hnl hatn hin hfit (by omega) hrows hcm hcc hcap' hroom hbl
          refine fin (q:=(.own id lo (len+ys.length) rows'.length cap,H.set id { hb with rows:=rows' })) ?_ hn hr' hv
          rw [hv0,e1,had (by omega),k3];exact hrun
         cases cap with
         | some c0 =>
          have hc0:=hcc c0 rfl
          subst hc0
          simp only [ykB] at happ
          simp only [yf7] at hcap
          by_cases hin:len+ys.length≤cc
          ·rw [if_pos hin] at happ
           by_cases hfz:hb.fz=false
           ·rw [if_pos hfz] at happ
            cases happ
            have hrl:(hb.rows.take (lo+len)++(ys++hb.rows.drop (lo+len+ys.length))).length=ext:=by
             simp only [qAn,qAl,qAu];omega
            have:=inpl (rows':=hb.rows.take (lo+len)++(ys++hb.rows.drop (lo+len+ys.length))) hfz hin rfl (by
             refine Nat.le_trans (Nat.add_le_add_left (qAf _ ?_) _) hbl
             omega) (by simp only [yf7];rw [hrl];exact hcap)
            rw [hrl] at this
            exact this
           ·rw [if_neg hfz] at happ;cases happ
          ·rw [if_neg hin] at happ
           exact grow happ (by omega)
         | none =>
          simp only [ykB] at happ
          simp only [yf7] at hcap
          by_cases hfz:hb.fz=true
          ·rw [if_pos hfz] at happ;cases happ
          ·rw [if_neg hfz] at happ
           have hfz:hb.fz=false:=by simpa using hfz
           by_cases hin:lo+len+ys.length≤ext
           ·rw [if_pos hin] at happ
            cases happ
            have hrl:(hb.rows.take (lo+len)++(ys++hb.rows.drop (lo+len+ys.length))).length=ext:=by
             simp only [qAn,qAl,qAu];omega
            have:=inpl (rows':=hb.rows.take (lo+len)++(ys++hb.rows.drop (lo+len+ys.length))) hfz (by omega) rfl (by
             refine Nat.le_trans (Nat.add_le_add_left (qAf _ ?_) _) hbl
             omega) (by simp only [yf7];rw [hrl];exact hcap)
            rw [hrl] at this
            exact this
           ·rw [if_neg hin] at happ
            by_cases hg:lo=0∧len=ext∧(ext+ys.length+64)*(bytes+1)≤room
            case neg=>rw [if_neg hg] at happ;cases happ
            case pos =>
             rw [if_pos hg] at happ
             obtain ⟨rfl,rfl,hroomE⟩:=hg
             cases happ
             by_cases hin:len+ys.length≤cc
             ·have hrows:hb.rows++ys=hb.rows.take (0+len)++(ys++hb.rows.drop (0+len+ys.length)):=by
               rw [qAw (by omega),qAz (by omega)];simp
              have hrl:(hb.rows++ys).length=len+ys.length:=by rw [qAn,k1]
              have:=inpl (rows':=hb.rows++ys) hfz hin hrows (by
               refine Nat.le_trans (Nat.add_le_add_left (qAf _ ?_) _) hroom
               omega) (by simp only [yf7];rw [hrl];omega)
              rw [hrl] at this
              exact this
             ·-- the block moves
              have hall:(hb.rows.drop 0).take len=hb.rows:=by rw [qA0,qAw (by omega)]
              have hR':=hblk.rows
              rw [k3] at hR'
              obtain ⟨oc,hoc1,hoc2⟩:=yqh sz b _ _ hR'
              have hlo:=ytP (pu:=pu) hR' (fun hp=>by have:=hblk.pure (by rw [k2];exact hp);rw [k3] at this;exact this) hoc1 hoc2
              rw [k1] at hoc1
              have hbase:∀ j v,oc[j]?=some v→w.cell? (ad0.add j)=some v:=by
               intro j v hj
               have:cc≠0:=by
                intro h0
                have hl0:len=0:=by omega
                rw [hl0] at hoc1
                have:oc=[]:=qAh (by simpa using hoc1)
                subst this;simp at hj
               rw [had this,Nat.zero_mul,Nat.add_zero];exact hoc2.addr j v hj
              obtain ⟨i1,v0,hi1,hv0z,hz1,_,_⟩:=yg0 (P:=P) (g:=g) (H:=H) (w:=w) hz
              rw [hi0] at hi1;cases hi1
              have hbytes:i0.bytes=bytes:=by unfold yoQ at hby;rw [hi0] at hby;cases hby;rfl
              have hr45:(len+ys.length+64)*(bytes+1)≤35184372088832:=hroomE
              have hneed:len+ys.length≤35184372088832:=by
               have:len+ys.length+64≤(len+ys.length+64)*(bytes+1):=qBs _ (by omega)
               omega
              have hnb:(len+ys.length)*bytes≤35184372088832:=Nat.le_trans (Nat.mul_le_mul (by omega) (by omega)) hr45
              have hrun:=run_append_grow (P:=P) w t o.type e i0 v0 hu hi0 hv0z ad0 len cc oc (by rw [hoc1,hi0s]) hbase ⟨b2,o2,none⟩ ys.length c2 news (by rw [hnl,hi0s]) hatn.addr (by omega) (by omega) (growslice_fits (by omega) (by rw [hbytes];omega))
              have hge:len+ys.length≤grownCap w (len+ys.length) cc e:=grownCap_ge w _ _ _
              have hcm2:grownCap w (len+ys.length) cc e≤maxLen:=grownCap_le_maxLen w _ _ _ (by unfold maxLen;omega)
              have hcells:(oc.toArray++news.toArray++Builtin.zeroCells v0.cells (grownCap w (len+ys.length) cc e-(len+ys.length)))=(oc++news++(Builtin.zeroCells v0.cells (grownCap w (len+ys.length) cc e-(len+ys.length))).toList).toArray:=by simp
              rw [hcells] at hrun
              have hl:=(hlo.append (rest:=(Builtin.zeroCells v0.cells (grownCap w (len+ys.length) cc e-(len+ys.length))).toList) (by rw [hoc1,k1]) hlie).on (On.drew g H w)
              have hlen1:oc.length+news.length=(len+ys.length)*sz:=by rw [hoc1,hnl,qAq]
              have hsegl:∀ i x,(hb.rows++ys)[i]?=some x→(seg (oc++news++(Builtin.zeroCells v0.cells (grownCap w (len+ys.length) cc e-(len+ys.length))).toList) (i*sz) sz).length=sz:=by
               intro i x hx
               have hi:=llt hx
               rw [qAn,k1] at hi
               apply yqf
               have:(i+1)*sz≤(len+ys.length)*sz:=qAf _ hi
               rw [qAq,qBa] at this
               simp only [qAn];omega
              obtain ⟨g2,r2,n2,hρ2⟩:=hr.drew.growBlk (rows':=hb.rows++ys) (cs:=(oc++news++(Builtin.zeroCells v0.cells (grownCap w (len+ys.length) cc e-(len+ys.length))).toList).toArray) (T:=e) e2 hfz (by rw [qAn];omega) (by rw [k3];simpa using hl.1)
               (fun i x hx=>⟨_,by rw [k3];exact hsegl i x hx,(hl.2 i x hx).1,by rw [k3,hsegl i x hx];rfl⟩)
               (fun hp i x hx=>⟨_,by rw [k3];exact hsegl i x hx,(hl.2 i x hx).2 (by rw [← k2];exact hp),by rw [k3,hsegl i x hx];rfl⟩)
              refine fin (q:=(.own id 0 (len+ys.length) (len+ys.length) none,H.set id { hb with rows:=hb.rows++ys })) (by rw [hv0,e1];exact hrun) ((Nx.drew g H w).trans n2) r2 ?_
              simp only [VR]
              have hzc:v0.cells.size=sz:=by rw [hz1,hi0s]
              refine ⟨{ hb with rows:=hb.rows++ys },_,_,by rw [qBv (hlt e2)],by simp [k1],rfl,hge,hcm2,(fun c0 e0=>by cases e0),fun _=>?_⟩
              refine ⟨w.heap.size,0,hρ2,by omega,fun _=>by simp,by simp only [yf7];omega,_,e,yhz w.drew _,?_⟩
              simp only [qA4,List.size_toArray,qAn,qB0,Builtin.zeroCells,Array.size_map,Array.size_range,hzc,k3]
              have:grownCap w (len+ys.length) cc e*sz=(len+ys.length)*sz+(grownCap w (len+ys.length) cc e-(len+ys.length))*sz:=by rw [← qAq];congr 1;omega
              omega
       ·cases happ
      ·cases happ
     ·cases happ
    ·cases happ
  ·cases h
 ·cases h
theorem yR6 (hr:Rel E nt g F H a.tmps w) {c:Call} {s x:Operand} {s' x':Opd} {t t' e:TypeId} {kn:IntKind} {pu:Bool} {sz bytes:Nat} {z:PV} (ho:o.op=.call c) (hc:c.callee=.builtin .append) (hargs:c.args.toList=[s,x]) (hts:c.argTypes.toList=[t,t'])
  (hu:P.underlying t=some (.slice e)) (hk:P.underlying t'=some (.int kn)) (hs:yfP P e=some sz) (hby:yoQ P e=some bytes) (hz:yeN P e=some (pu,z)) (hsx:opd s=some s') (hx:opd x=some x') {call} (h:yap E call F H (.appZ pu sz bytes z s' x')=some out) :
  OpR E nt g F H a.tmps w out ((execOp a.eval o).run P w):=by
 obtain ⟨_,hpos,i0,hi0,hi0s⟩:=yeg (P:=P) (w:=w) hs
 have hbytes:i0.bytes=bytes:=by unfold yoQ at hby;rw [hi0] at hby;cases hby;rfl
 obtain ⟨i1,v0,hi1,hv0,hvs,z1,z2⟩:=yg0 (P:=P) (g:=g) (H:=H) (w:=w) hz
 rw [hi0] at hi1;cases hi1
 have ha:c.args=#[s,x]:=by rw [← qBl];simpa using hargs
 have ht:c.argTypes=#[t,t']:=by rw [← qBl];simpa using hts
 have fin:∀ {q:PV×Hp} {v:Value} {w':World} {g':Gh},(Builtin.append_ #[t,t'] o.type #[a.eval s,a.eval x]).run P w=.ok v w'→Nx g g' H q.2 w w'→Rel E nt g' F q.2 a.tmps w'→VR g' q.2 w' q.1 v→OpR E nt g F H a.tmps w ⟨some (.v q.1),none,q.2⟩ ((execOp a.eval o).run P w):=by
  intro q v w' g' hrun hn hr' hv
  refine ⟨v,w',g',.inl ?_,hn,hr',hv⟩
  simp [execOp,ho,resolve,hc,ha,ht,invoke,builtin,hrun]
 simp only [yap] at h
 split at h
 ·rename_i p k hp hq
  have hv1:=yaJ hr hsx hp
  obtain ⟨kq,e1,_⟩:=yeD hr hx hq
  split at h
  ·rename_i h0
   split at h
   ·rename_i r H1 happ
    rw [ya7 h]
    unfold appZ at happ
    split at happ
    ·simp only [VR] at hv1
     obtain ⟨n,rfl⟩:∃ n:Nat,k=(n:Int):=⟨k.toNat,by omega⟩
     simp only [qAe] at happ
     split at happ
     ·rename_i hn
      subst hn
      cases happ
      refine fin (q:=(.nils,H)) (v:=.slice none 0 0) ?_ (Nx.refl g H w) hr (by simp [VR])
      rw [hv1,e1]
      have hw0:IntKind.i64.wrap (0:Int)=0:=by rw [IntKind.wrap_i64];omega
      simp [Builtin.append_,run_underlying hu,run_underlying hk,sizeOf,typeInfo,hi0,asInt,asIntOf,hw0]
     ·rename_i hn
      unfold yfa at happ
      split at happ
      ·rename_i hroom
       cases happ
       have hroom:(n+64)*(bytes+1)≤35184372088832:=by rw [qAt] at hroom;exact hroom
       have hneed:n≤35184372088832:=by
        have:n+64≤(n+64)*(bytes+1):=qBs _ (by omega)
        omega
       have hnb:n*bytes≤35184372088832:=Nat.le_trans (Nat.mul_le_mul (by omega) (by omega)) hroom
       have hrun:=Lib.run_append_nil_zeros (P:=P) w t t' o.type e i0 v0 kq kn hu hk hi0 hv0 n (by omega) (by omega) (by omega) (by rw [hbytes];omega)
       have hvz:v0.cells.size=sz:=by rw [hvs,hi0s]
       let nc:=grownCap w n 0 e
       have hge:n≤nc:=grownCap_ge w _ _ _
       have hcm:nc≤maxLen:=grownCap_le_maxLen w _ _ _ (by unfold maxLen;omega)
       obtain ⟨r1,n1⟩:Rel E nt g F H a.tmps w.drew∧Nx g g H H w w.drew:=⟨hr.drew,Nx.drew g H w⟩
       have hlie:=yvr (g:=g) (H:=H) (w:=w) (n:=n) (pu:=pu) hvz hpos z1 z2
       have hzc:((Array.range (n*sz)).map (v0.cells[· % v0.cells.size]!)).toList=(Builtin.zeroCells v0.cells n).toList:=by unfold Builtin.zeroCells;rw [hvz]
       rw [hzc] at hlie
       have hzl:(Builtin.zeroCells v0.cells n).toList.length=n*sz:=by unfold Builtin.zeroCells;rw [hvz];simp
       have hl:=(Lie.append (rest:=[]) Lie.nil (by simp) hlie (r2:=List.replicate n z)).on n1.on
       simp only [qB3,qBx] at hl
       have hsg:∀ i,i<n→(seg ((Builtin.zeroCells v0.cells n)++Builtin.zeroCells v0.cells (nc-n)).toList (i*sz) sz)=seg (Builtin.zeroCells v0.cells n).toList (i*sz) sz∧(seg (Builtin.zeroCells v0.cells n).toList (i*sz) sz).length=sz:=by
        intro i hi
        have hle:(i+1)*sz≤n*sz:=qAf _ hi
        rw [qAq,qBa] at hle
        refine ⟨?_,yqf (by rw [hzl];omega)⟩
        simp only [seg,Array.toList_append]
        rw [List.drop_append_of_le_length (by rw [hzl];omega),qBz (by rw [qAu,hzl];omega)]
       have hin:∀ (i:Nat) (x:PV),(List.replicate n z)[i]?=some x→i<n:=by
        intro i x hx
        have:=llt hx
        simpa using this
       obtain ⟨g2,r2,n2,hρ⟩:=r1.newBlk (hb:=⟨false,pu,sz,List.replicate n z⟩) (cs:=(Builtin.zeroCells v0.cells n)++Builtin.zeroCells v0.cells (nc-n)) (T:=e) hpos rfl (by
         simp only [Array.size_append,qAt]
         have:=hzl;rw [qB0] at this;omega)
        (fun i x hx=>by
         obtain ⟨q1,q2⟩:=hsg i (hin i x hx)
         exact ⟨seg (Builtin.zeroCells v0.cells n).toList (i*sz) sz,q2,(hl.2 i x hx).1,by rw [q2];exact q1⟩)
        (fun hp i x hx=>by
         obtain ⟨q1,q2⟩:=hsg i (hin i x hx)
         exact ⟨seg (Builtin.zeroCells v0.cells n).toList (i*sz) sz,q2,(hl.2 i x hx).2 hp,by rw [q2];exact q1⟩)
       refine fin (q:=(.own H.length 0 (List.replicate n z).length (List.replicate n z).length none,H++[⟨false,pu,sz,List.replicate n z⟩])) (g':=g2) (by rw [hv1,e1];exact hrun) (n1.trans n2) r2 ?_
       simp only [VR]
       refine ⟨⟨false,pu,sz,List.replicate n z⟩,_,nc,by simp,by simp,by rw [qAt],by simpa using hge,hcm,(fun c0 e0=>by cases e0),fun _=>?_⟩
       refine ⟨w.heap.size,0,hρ,by omega,fun _=>by simp,by simp only [yf7,qAt];omega,_,e,yhz w.drew _,?_⟩
       have h1:=hzl
       rw [qB0] at h1
       simp only [qA4,Array.size_append,Builtin.zeroCells,Array.size_map,Array.size_range,hvz]
       have:nc*sz=n*sz+(nc-n)*sz:=by rw [← qAq];congr 1;omega
       omega
      ·cases happ
    ·cases happ
   ·cases h
  ·cases h
 ·cases h
theorem yTC (hr:Rel E nt g F H a.tmps w) {c:Call} {x:Operand} {x':Opd} {t e:TypeId} {pu:Bool} {sz:Nat} {z:PV} (ho:o.op=.call c) (hc:c.callee=.builtin .clear) (hargs:c.args.toList=[x]) (ht:c.argTypes[0]?=some t)
  (hu:P.underlying t=some (.slice e)) (hs:yfP P e=some sz) (hz:yeN P e=some (pu,z)) (hx:opd x=some x') {call} (h:yap E call F H (.clr pu sz z x')=some out) :
  OpR E nt g F H a.tmps w out ((execOp a.eval o).run P w):=by
 obtain ⟨_,hpos,i0,hi0,hi0s⟩:=yeg (P:=P) (w:=w) hs
 obtain ⟨i1,v0,hi1,hv0,hvs,z1,z2⟩:=yg0 (P:=P) (g:=g) (H:=H) (w:=w) hz
 rw [hi0] at hi1;cases hi1
 have ha:c.args=#[x]:=by rw [← qBl];simpa using hargs
 have fin:∀ {H':Hp} {w':World},(Builtin.clear_ c.argTypes o.type #[a.eval x]).run P w=.ok (.tuple #[]) w'→Nx g g H H' w w'→Rel E nt g F H' a.tmps w'→OpR E nt g F H a.tmps w ⟨some (.v (.tup [])),none,H'⟩ ((execOp a.eval o).run P w):=by
  intro H' w' hrun hn hr'
  refine ⟨.tuple #[],w',g,.inl ?_,hn,hr',?_⟩
  ·simp [execOp,ho,resolve,hc,ha,invoke,builtin,hrun]
  ·show VR g H' w' (.tup []) (.tuple #[])
   simp [VR,VRs]
 have none_:∀ {v:Value},a.eval x=v→(∃ ad n cc,v=.slice ad n cc∧(ad=none∨n=0))→(Builtin.clear_ c.argTypes o.type #[a.eval x]).run P w=.ok (.tuple #[]) w:=by
  rintro v hv ⟨ad,n,cc,rfl,h0⟩
  rcases h0 with rfl | rfl
  ·simp [Builtin.clear_,ht,hv,run_underlying hu]
  ·cases ad <;> simp [Builtin.clear_,ht,hv,run_underlying hu]
 simp only [yap] at h
 split at h
 ·rename_i p hp
  have hv1:=yaJ hr hx hp
  split at h
  ·rename_i H1 hcl
   rw [ya7 h]
   unfold clrV at hcl
   split at hcl
   ·cases hcl
    simp only [VR] at hv1
    exact fin (none_ hv1 ⟨_,_,_,rfl,.inl rfl⟩) (Nx.refl g H w) hr
   ·cases hcl
    simp only [VR] at hv1
    obtain ⟨ad,hv1⟩:=hv1
    exact fin (none_ hv1 ⟨_,_,_,rfl,.inr rfl⟩) (Nx.refl g H w) hr
   ·cases hcl
    obtain ⟨k,cc,e1,_,_,_⟩:=yxi hv1 (n:=0) rfl
    exact fin (none_ e1 ⟨_,_,_,rfl,.inr rfl⟩) (Nx.refl g H w) hr
   ·rename_i id lo len ext cap
    split at hcl
    ·cases hcl
     obtain ⟨k,cc,e1,_,_,_⟩:=yxi hv1 (n:=0) rfl
     exact fin (none_ e1 ⟨_,_,_,rfl,.inr rfl⟩) (Nx.refl g H w) hr
    ·rename_i len
     split at hcl
     ·rename_i hb e3
      split at hcl
      ·rename_i hk
       obtain ⟨k1,k2,k3,k4,k5⟩:=hk
       cases hcl
       simp only [VR] at hv1
       obtain ⟨hbx,ad0,cc,e2,hle,hv0',hcl,hcm,hcc,hcond⟩:=hv1
       rw [e2] at e3;cases e3
       obtain ⟨b,o1,hρ,hle2,had,hcap,cur,T,hcu,hroom⟩:=hcond k1
       obtain ⟨b',o',hblk⟩:=hr.heap id hb e2
       have hat0:=hblk.at_
       rw [hρ] at hat0;cases hat0
       obtain ⟨cur',T',hcu',hbl⟩:=hblk.cells
       rw [hcu] at hcu';cases hcu'
       rw [k5] at hroom hbl
       have hvz:v0.cells.size=sz:=by rw [hvs,hi0s]
       have hlie:=yvr (g:=g) (H:=H) (w:=w) (n:=len+1) (pu:=hb.pu) hvz hpos z1 (fun h=>z2 (by rw [← k4];exact h))
       have hzc:((Array.range ((len+1)*sz)).map (v0.cells[· % v0.cells.size]!)).toList=(Builtin.zeroCells v0.cells (len+1)).toList:=by unfold Builtin.zeroCells;rw [hvz]
       rw [hzc] at hlie
       have hzl:(Builtin.zeroCells v0.cells (len+1)).toList.length=(len+1)*sz:=by unfold Builtin.zeroCells;rw [hvz];simp
       have hmul:(lo+(len+1))*sz=lo*sz+(len+1)*sz:=qAq ..
       have hmul2:(lo+(len+1))*sz≤hb.rows.length*sz:=qAf _ (by omega)
       obtain ⟨hn,hr'⟩:=yPW (lo:=lo) (ys:=List.replicate (len+1) z) (news:=(Builtin.zeroCells v0.cells (len+1)).toList) (rows':=hb.rows.take lo++(List.replicate (len+1) z++hb.rows.drop (lo+(len+1)))) hr e2 k3 hρ hcu k5 hlie (by rw [hzl,qAt]) (by rw [qAt];omega) (by rw [qAt]) hbl
       have hst:=run_storeCells_at P b (o1+lo*sz) T (Builtin.zeroCells v0.cells (len+1)).toList 0 cur w hcu (by rw [hzl];simp;omega) (Lie.one hpos hlie (by rw [hzl,qAt]))
       simp only [Nat.add_zero,qBd] at hst
       refine fin ?_ hn hr'
       rw [hv0',had (by omega),k5]
       have hzv:(zeroValue e).run P w=.ok v0 w:=by simp [zeroValue,typeInfo,hi0,hv0]
       simp [Builtin.clear_,ht,run_underlying hu,hzv,hst,ycs]
      ·cases hcl
     ·cases hcl
   ·cases hcl
  ·cases h
 ·cases h
end
end Go.Pf
namespace Go.Pf
open Go Go.RowKit
section
variable {P:Program} {E:Env} {nt:Nat} {g g':Gh} {F:Frm} {H H':Hp} {a:Act} {tmps:Array Value} {w w':World} {o:Oper} {out:Out}
def yqM:AOp→Bool
 | .call _ _=>true
 | _=>false
theorem yFu (hr:Rel E nt g F H a.tmps w) {op:BinOp} {t t':TypeId} {x y:Operand} (ho:o.op=.binOp op t x y t') {call} (h:yap E call F H (yC4 P op t x y)=some out):OpR E nt g F H a.tmps w out ((execOp a.eval o).run P w):=by
 unfold yC4 at h
 split at h
 ·rename_i x' y' hx hy
  split at h
  ·exact yTr hr ho hx hy h
  ·rename_i hu
   split at h
   ·exact yPR hr ho (.inl ⟨rfl,rfl⟩) hu hx hy h
   ·exact yPR hr ho (.inr ⟨rfl,rfl⟩) hu hx hy h
   ·cases h
  ·rename_i fs hu
   split at h
   ·rename_i idx hidx
    split at h
    ·rename_i hk
     simp only [qAc,qBb] at hk
     split at h
     ·exact yPS hr ho (.inl ⟨rfl,rfl⟩) hidx hk.1 ⟨fs,hu⟩ hk.2 hx hy h
     ·exact yPS hr ho (.inr ⟨rfl,rfl⟩) hidx hk.1 ⟨fs,hu⟩ hk.2 hx hy h
     ·cases h
    ·cases h
   ·cases h
  ·rename_i e hu
   split at h
   ·split at h
    ·rename_i hn;exact yHW hr ho (.inl ⟨rfl,rfl⟩) hu (.inl ⟨rfl,hn⟩) hx h
    ·split at h
     ·rename_i hn;exact yHW hr ho (.inl ⟨rfl,rfl⟩) hu (.inr ⟨rfl,hn⟩) hy h
     ·cases h
   ·split at h
    ·rename_i hn;exact yHW hr ho (.inr ⟨rfl,rfl⟩) hu (.inl ⟨rfl,hn⟩) hx h
    ·split at h
     ·rename_i hn;exact yHW hr ho (.inr ⟨rfl,rfl⟩) hu (.inr ⟨rfl,hn⟩) hy h
     ·cases h
   ·cases h
  ·cases h
 ·cases h
theorem yqi {l:List Operand} {x':Opd} (h:opds l=some [x']):∃ x,l=[x]∧opd x=some x':=by
 cases l with
 | nil=>simp [opds] at h
 | cons x r =>
  simp only [opds] at h
  split at h
  ·rename_i a l h1 h2
   simp only [qAd,qAx] at h
   obtain ⟨rfl,rfl⟩:=h
   cases r with
   | nil=>exact ⟨x,rfl,h1⟩
   | cons y r =>
    simp only [opds] at h2
    split at h2 <;> simp at h2
  ·cases h
theorem yOv {l:List Operand} {x' y':Opd} (h:opds l=some [x',y']):∃ x y,l=[x,y]∧opd x=some x'∧opd y=some y':=by
 cases l with
 | nil=>simp [opds] at h
 | cons x r =>
  simp only [opds] at h
  split at h
  ·rename_i a l h1 h2
   simp only [qAd,qAx] at h
   obtain ⟨rfl,rfl⟩:=h
   obtain ⟨y,rfl,hy⟩:=yqi h2
   exact ⟨x,y,rfl,h1,hy⟩
  ·cases h
theorem yyJ (hr:Rel E nt g F H a.tmps w) {c:Call} {b:Builtin} (ho:o.op=.call c) (hc:c.callee=.builtin b) {call} (h:yap E call F H (yqd P b c.argTypes c.args.toList)=some out):OpR E nt g F H a.tmps w out ((execOp a.eval o).run P w):=by
 unfold yqd at h
 split at h
 ·rename_i x' hx
  obtain ⟨x,hargs,hx'⟩:=yqi hx
  split at h
  ·rename_i e hu
   cases ht:c.argTypes[0]? with
   | none=>rw [ht] at hu;simp at hu
   | some t =>
    rw [ht] at hu
    exact yTt hr ho hc hargs ht hu hx' h
  ·cases h
 ·rename_i x' hx
  obtain ⟨x,hargs,hx'⟩:=yqi hx
  split at h
  ·rename_i e hu
   cases ht:c.argTypes[0]? with
   | none=>rw [ht] at hu;simp at hu
   | some t =>
    rw [ht] at hu
    exact yTu hr ho hc hargs ht hu hx' h
  ·cases h
 ·rename_i s' x' hx
  obtain ⟨s,x,hargs,hs',hx'⟩:=yOv hx
  split at h
  ·rename_i t t' hts
   split at h
   ·rename_i htt;subst htt
    split at h
    ·rename_i e hu
     split at h
     ·rename_i sz by_ pu z hsz hby hz
      exact yTB hr ho hc hargs hts hu hsz hby hz hs' hx' h
     ·cases h
    ·cases h
   ·split at h
    ·rename_i e k hu hk
     split at h
     ·rename_i sz by_ pu z hsz hby hz
      exact yR6 hr ho hc hargs hts hu hk hsz hby hz hs' hx' h
     ·cases h
    ·cases h
  ·cases h
 ·rename_i x' hx
  obtain ⟨x,hargs,hx'⟩:=yqi hx
  split at h
  ·rename_i t ht
   split at h
   ·rename_i e hu
    split at h
    ·rename_i sz pu z hsz hz
     exact yTC hr ho hc hargs ht hu hsz hz hx' h
    ·cases h
   ·cases h
  ·cases h
 ·rename_i l hl
  exact yGT (mx:=true) hr ho hc hl h
 ·rename_i l hl
  exact yGT (mx:=false) hr ho hc hl h
 ·cases h
theorem yR7 (hr:Rel E nt g F H a.tmps w) {t:TypeId} {x y:Operand} {y':Opd} {l:List PV} (ho:o.op=.index t x y) (hu:P.underlying t=some .string) (hl:yPN x=some l) (hy:opd y=some y') {call}
  (h:yap E call F H (.idx false l.length 1 (.c (.agg l)) y')=some out):OpR E nt g F H a.tmps w out ((execOp a.eval o).run P w):=by
 unfold yPN at hl
 split at hl
 ·rename_i s
  cases hl
  simp only [yap] at h
  split at h
  ·rename_i cs m hp hm
   have hcs:cs=s.data.toList.map fun b=>PV.int .u8 b.toNat:=by simpa [evV,ev] using hp.symm
   split at h
   ·rename_i hbd
    split at h
    ·rename_i p hpp
     obtain ⟨k,e2,_⟩:=yeD hr hy hm
     have hlt:m.toNat<s.data.size:=by
      have:=hbd.2;simp only [qAo,qB0] at this;omega
     have hpe:p=PV.int .u8 ((s.data[m.toNat]'hlt).toNat:Int):=by
      simp only [yjk,PV.cells,hcs,Nat.mul_one,qAy,Array.getElem?_toList,qAp,if_false] at hpp
      rw [Array.getElem?_eq_getElem hlt] at hpp
      simpa using hpp.symm
     have hsg:s[m.toNat]?=some (s.data[m.toNat]'hlt):=by
      have:m.toNat<s.size:=hlt
      simp [this];rfl
     rw [ya7 h,hpe]
     refine OpR.val hr ?_ (show VR g H w (.int .u8 ((s.data[m.toNat]'hlt).toNat:Int)) (.int .u8 ((s.data[m.toNat]'hlt).toNat:Int)) from ?_)
     ·have e1:a.eval (.const (.string s))=.string s:=rfl
      simp [execOp,ho,Instr.index,asIntOf,run_underlying hu,e1,e2,hbd.1,hsg]
     ·simp only [VR,inK]
      have:=(s.data[m.toNat]'hlt).toNat_lt
      have h0:IntKind.u8.min=0:=by decide
      have h1:IntKind.u8.max=255:=by decide
      exact ⟨trivial,by rw [h0];omega,by rw [h1];omega⟩
    ·cases h
   ·cases h
  ·cases h
 ·cases hl
theorem yPX (hr:Rel E nt g F H a.tmps w) {loc:List Nat} {call} {F':Frm} (hnc:yqM (ynt P loc o)=false) (h:yap E call F H (ynt P loc o)=some out) (hd:∀ d,o.dst=some d→d<nt) (hp:yg3 (yjG F out.bx) o.dst out.x=some F') :
  yDA E nt g H a w o.dst F' out.h ((execOp a.eval o).run P w):=by
 have fin:OpR E nt g F H a.tmps w out ((execOp a.eval o).run P w)→(∀ row,out.x≠some (.box row))→yDA E nt g H a w o.dst F' out.h ((execOp a.eval o).run P w):=fun h1 h2=>yDA.of h1 hd hp h2
 have nb:OpR E nt g F H a.tmps w out ((execOp a.eval o).run P w)→yDA E nt g H a w o.dst F' out.h ((execOp a.eval o).run P w):=by
  intro h1
  refine fin h1 fun row e=>?_
  obtain ⟨v,w',g',_,_,_,hx⟩:=h1
  rw [e] at hx;exact hx
 unfold ynt at h hnc
 split at h
 ·rename_i x ho
  split at h
  ·rename_i x' hx;exact nb (yNn hr (.inl ho) hx h)
  ·cases h
 ·rename_i x ho
  split at h
  ·rename_i x' hx;exact nb (yNn hr (.inr ho) hx h)
  ·cases h
 ·rename_i c x y ho
  split at h
  ·rename_i c' x' y' hc hx hy;exact nb (yRY hr ho hc hx hy h)
  ·cases h
 ·rename_i e ho
  split at h
  ·rename_i d hdst
   split at h
   ·split at h
    ·rename_i z hz
     simp only [yap,qAd] at h
     subst h
     rw [hdst] at hp ⊢
     exact yJF hr ho hz (hd d hdst) hp
    ·cases h
   ·split at h
    ·rename_i pu z sz hz hs;exact nb (yOr hr ho hz hs h)
    ·cases h
  ·cases h
 ·rename_i e x ho
  split at h
  ·rename_i d x' hdst hx
   split at h
   ·simp only [yap] at h
    split at h
    ·rename_i p hpv
     split at h
     ·rename_i hone
      simp only [qAd] at h
      subst h
      rw [hdst] at hp ⊢
      exact yOq hr ho hx hpv hone (hd d hdst) hp
     ·cases h
    ·cases h
   ·split at h
    ·rename_i pu z sz hz hs;exact nb (yR4 hr ho hs hx h)
    ·cases h
  ·cases h
 ·rename_i t parts ho
  split at h
  ·rename_i z fs hz hu
   split at h
   ·rename_i hinfo
    split at h
    ·rename_i ps hps;exact nb (yCj hr ho hz hu hinfo hps h)
    ·cases h
   ·cases h
  ·rename_i z n e hz hu
   split at h
   ·rename_i i hi
    split at h
    ·rename_i ps hps;exact nb (yDy hr ho hz hu hi hps h)
    ·cases h
   ·cases h
  ·cases h
 ·rename_i t len parts ho
  split at h
  ·rename_i e hu
   split at h
   ·rename_i sz pu z ps hs hz hps
    split at h
    ·rename_i hc
     split at h
     ·rename_i hp2;exact nb (yOt hr ho hu hs hz hp2.1 hps hc.1 hc.2 h)
     ·split at h
      ·exact nb (yOs hr ho hu hs hz hps hc.1 hc.2 h)
      ·exact nb (yLP hr ho hu hs hz hps hc.1 hc.2 h)
    ·cases h
   ·cases h
  ·cases h
 ·rename_i t x ho
  split at h
  ·rename_i gg i x' hg hi hx;exact nb (yR2 hr ho hg hi hx h)
  ·cases h
 ·rename_i t x y ho
  split at h
  ·rename_i i x' y' hi hx hy;exact nb (yPV hr ho hi hx hy h)
  ·cases h
 ·rename_i x ho
  split at h
  ·rename_i x' hx;exact nb (yOo hr ho hx h)
  ·cases h
 ·rename_i op t x y t' ho;exact nb (yFu hr ho h)
 ·rename_i op t x ho
  split at h
  ·rename_i x' hx;exact nb (yUh hr ho hx h)
  ·cases h
 ·rename_i s d x ho
  split at h
  ·rename_i ds k x' hs hdd hx;exact nb (yRZ hr ho hs hdd hx h)
  ·cases h
 ·rename_i f x y ho
  split at h
  ·rename_i x' y' hx hy;exact nb (yR0 hr ho hx hy h)
  ·cases h
 ·rename_i t x y ho
  split at h
  ·rename_i e x' y' hu hx hy
   split at h
   ·rename_i sz by_ pu z hs hby hz;exact nb (yR5 hr ho hu hs hby hz hx hy h)
   ·cases h
  ·cases h
 ·rename_i t x lo hi mx ho
  split at h
  ·rename_i e x' l' h' m' hu hx hl hh hm
   split at h
   ·rename_i sz hs;exact nb (yTz hr ho hu hs hx hl hh hm h)
   ·cases h
  ·cases h
 ·rename_i s x f ho
  split at h
  ·rename_i fs x' hu hx
   split at h
   ·rename_i fl hf
    split at h
    ·rename_i sz hs;exact nb (yTx hr ho hu hf hs hx h)
    ·cases h
   ·cases h
  ·cases h
 ·rename_i t x f ho
  split at h
  ·rename_i fs x' hu hx
   split at h
   ·rename_i fl hf
    split at h
    ·rename_i gg i hg hi;exact nb (yTv hr ho hu hf hg hi hx h)
    ·cases h
   ·cases h
  ·cases h
 ·rename_i t x y ho
  split at h
  ·rename_i e x' y' hu hx hy
   split at h
   ·rename_i sz hs;exact nb (yTy hr ho hu hs hx hy h)
   ·cases h
  ·rename_i n e x' y' hu hx hy
   split at h
   ·rename_i sz hs;exact nb (yR3 hr ho hu hs hx hy h)
   ·cases h
  ·cases h
 ·rename_i t x y ho
  split at h
  ·rename_i n e x' y' hu hx hy
   split at h
   ·rename_i gg i hg hi;exact nb (yTw hr ho hu hg hi hx hy h)
   ·cases h
  ·rename_i y' hu hy
   split at h
   ·rename_i l hl;exact nb (yR7 hr ho hu hl hy h)
   ·cases h
  ·cases h
 ·rename_i x i ho
  split at h
  ·rename_i x' hx;exact nb (yTs hr ho hx h)
  ·cases h
 ·rename_i c ho
  split at h
  ·rename_i f hc
   split at h
   ·rename_i f' as' hf has
    rw [ho] at hnc
    simp only [hc,hf,has] at hnc
    simp [yqM] at hnc
   ·cases h
  ·rename_i b hc;exact nb (yyJ hr ho hc h)
  ·cases h
 ·cases h
end
end Go.Pf
namespace Go.Pf
open Go Go.RowKit
def yoV (P:Program) (f:FuncId) (args:Array Value) (w:World) (Q:Value→World→Prop):Prop :=
 match (callFunc f args).run P w with
 | .ok (.value v) w'=>Q v w'
 | .ok (.enter f' args') w'=>Calls P f' args' w' (fun e w''=>match e with | .returned v=>Q v w'' | _=>False)
 | _=>False
theorem yoV.mono {P:Program} {f:FuncId} {args:Array Value} {w:World} {Q Q':Value→World→Prop} (h:yoV P f args w Q) (hq:∀ v w',Q v w'→Q' v w'):yoV P f args w Q':=by
 unfold yoV at h ⊢
 split at h
 ·exact hq _ _ h
 ·refine Calls.mono h fun e w'' he=>?_
  cases e <;> first | exact hq _ _ he | exact he
 ·exact h.elim
def yLR (G:Nat→Option PV) (I:Nat→Prop) (w:World):Prop:=∀ n x,G n=some x→I n∧∃ vs:List Value,0<vs.length∧RC I w x vs∧At w n 0 vs
def yrx (P:Program) (G:Nat→Option PV) (f:FuncId) (as:List PV) (r:PV):Prop :=
 ∀ (I:Nat→Prop) (w:World) (vs:List Value),(∀ b,I b→b<w.heap.size)→yLR G I w→VPs I w as vs →
  yoV P f vs.toArray w fun v w'=>Bel w.heap.size w w'∧VP (fun b=>I b∨(w.heap.size≤b∧b<w'.heap.size)) w' r v
section
variable {P:Program} {E:Env} {nt:Nat} {g g':Gh} {F:Frm} {H H':Hp} {a:Act} {tmps:Array Value} {w w':World} {o:Oper}
theorem yLS {I:Nat→Prop} {x:PV} {v:Value} (h:RC I w x [v]) (hx:∀ cs,x≠.agg cs):x.one=true:=by
 cases x <;> first | rfl | exact absurd rfl (hx _) | (simp only [RC] at h)
theorem yGU {x:PV} {v:Value} (h:VP1 g.I w x v):VR g H w x v:=by
 cases x with
 | agg cs =>
  simp only [VP1] at h
  obtain ⟨vs,rfl,h⟩:=h
  simp only [VR]
  exact ⟨vs,rfl,yqJ _ _ h⟩
 | tup ps=>simp only [VP1] at h
 | nils=>simp only [VP1] at h;simp only [VR];exact h
 | eptr rows i off=>simp only [VP1] at h;simp only [VR];exact h
 | _=>simp only [VP1] at h;exact yJz _ _ (yLS h (fun _ e=>by cases e)) h
theorem yr8:∀ (l:List PV) (vs:List Value),VPs g.I w l vs→VRs g H w l vs
 | [],vs,h=>by simpa only [VPs,VRs] using h
 | x::r,vs,h=>by
  simp only [VPs] at h
  obtain ⟨v,vr,rfl,h1,h2⟩:=h
  simp only [VRs]
  exact ⟨v,vr,rfl,yGU h1,yr8 r vr h2⟩
theorem yPY {x:PV} {v:Value} (h:VP g.I w x v):VR g H w x v:=by
 cases x with
 | tup ps =>
  simp only [VP] at h
  obtain ⟨vs,rfl,h⟩:=h
  simp only [VR]
  exact ⟨vs,rfl,yr8 _ _ h⟩
 | _=>simp only [VP] at h;exact yGU h
theorem yHZ {x:PV} {v:Value} {I:Nat→Prop} (hs:x.scal=true) (h:RC I w x [v]):VR g H w' x v:=by
 cases x <;> simp [PV.scal] at hs
 ·simp only [RC,qAx,and_true] at h;simp only [VR];exact h
 ·simp only [RC,qAx,and_true] at h;simp only [VR];exact h
theorem yGV {I:Nat→Prop}:∀ (l:List PV) (vs:List Value),ytI l=true→ya5 I w l vs→VCs g H w' l vs
 | [],vs,_,h=>by simpa only [ya5,VCs] using h
 | x::r,vs,hs,h=>by
  simp only [ytI,qAc] at hs
  simp only [ya5] at h
  obtain ⟨v,vr,rfl,ho,h1,h2⟩:=h
  simp only [VCs]
  exact ⟨v,vr,rfl,ho,yHZ hs.1 h1,yGV r vr hs.2 h2⟩
theorem ykJ {x:PV} {v:Value} {I:Nat→Prop} (hs:(match x with | .agg cs=>ytI cs | x=>x.scal)=true) (h:VP1 I w x v):VR g H w' x v:=by
 cases x with
 | agg cs =>
  simp only [VP1] at h
  obtain ⟨vs,rfl,h⟩:=h
  simp only [VR]
  exact ⟨vs,rfl,yGV _ _ hs h⟩
 | bool b=>simp only [VP1] at h;exact yHZ hs h
 | int k n=>simp only [VP1] at h;exact yHZ hs h
 | _=>simp [PV.scal] at hs
theorem yGW {x:PV} {v:Value} {I:Nat→Prop} (hs:x.scalar=true) (h:VP I w x v):VR g H w' x v:=by
 unfold PV.scalar at hs
 split at hs
 ·simp only [VP] at h;exact ykJ (x:=.agg _) hs h
 ·simp only [VP,VPs] at h
  obtain ⟨vs,rfl,rfl⟩:=h
  simp only [VR,VRs];exact ⟨_,rfl,rfl⟩
 ·simp only [VP,VPs] at h
  obtain ⟨vs,rfl,v,vr,rfl,h1,rfl⟩:=h
  simp only [VR,VRs]
  exact ⟨_,rfl,_,_,rfl,ykJ hs h1,rfl⟩
 ·simp only [VP,VPs] at h
  obtain ⟨vs,rfl,v,vr,rfl,h1,v2,vr2,rfl,h2,rfl⟩:=h
  simp only [qAc] at hs
  simp only [VR,VRs]
  exact ⟨_,rfl,_,_,rfl,ykJ hs.1 h1,_,_,rfl,ykJ hs.2 h2,rfl⟩
 ·simp only [VP,VPs] at h
  obtain ⟨vs,rfl,v,vr,rfl,h1,v2,vr2,rfl,h2,v3,vr3,rfl,h3,rfl⟩:=h
  simp only [qAc] at hs
  simp only [VR,VRs]
  exact ⟨_,rfl,_,_,rfl,ykJ hs.1 h1,_,_,rfl,ykJ hs.2.1 h2,_,_,rfl,ykJ hs.2.2 h3,rfl⟩
 ·rename_i h1 h2 h3 h4 h5
  cases x with
  | bool b=>simp only [VP] at h;exact ykJ (x:=.bool b) rfl h
  | int k n=>simp only [VP] at h;exact ykJ (x:=.int k n) rfl h
  | _=>simp [PV.scal] at hs
theorem Rel.back (h:Rel E nt g F H tmps w) {nt2:Nat} {g2:Gh} {F2:Frm} {tmps2:Array Value} (hn:Nx { g with β:=fun _=>none } g2 H H' w w') (h2:Rel E nt2 g2 F2 H' tmps2 w') :
  Rel E nt { g2 with β:=g.β } F H' tmps w'∧Nx g { g2 with β:=g.β } H H' w w':=by
 have hon:On g { g2 with β:=g.β } H H' w w':=⟨hn.on.keeps,hn.on.hext,hn.on.shape⟩
 have hon2:On g2 { g2 with β:=g.β } H' H' w' w':=⟨fun _ x=>⟨x,rfl⟩,fun _ hb x=>⟨hb,x,rfl,rfl,.inr ⟨rfl,rfl⟩⟩,fun _ cur _ x=>⟨cur,x,rfl⟩⟩
 refine ⟨h.upd hon rfl hn.size (fun s b hb=>?_) (fun id hb e=>?_) h2.dist h2.rsome h2.imm,?_⟩
 ·have hlt:=(h.bimm s b hb).2
  have hnr:¬RngR g b:=fun ⟨id,oo,hr⟩=>h.brho s b id oo hb hr
  refine ⟨hn.kept b hlt hnr (fun ⟨s,hs⟩=>by simp at hs),fun hi=>?_,fun hr=>hnr (hn.rng b hlt hr)⟩
  rcases hn.immb b hlt hi with h3 | h3
  ·exact (h.bimm s b hb).1 h3
  ·exact hnr h3
 ·obtain ⟨b,oo,hk⟩:=h2.heap id hb e
  exact ⟨b,oo,yjO hon2 hk rfl rfl (fun x=>x)⟩
 ·exact ⟨hn.os,hn.tape,hn.output,hn.drawn,hn.size,fun b hb hr _=>hn.kept b hb hr (fun ⟨s,hs⟩=>by simp at hs),hn.rng,hn.immb,fun b _ hm=>hm,hon⟩
theorem Rel.enter (h:Rel E nt g F H tmps w) {args:List PV} {vs:List Value} (hv:VRs g H w args vs) (n:Nat) :
  Rel E n { g with β:=fun _=>none } (yns 0 args) H (vs.toArray++Array.replicate (n-vs.toArray.size) undef) w:=by
 have hon:On g { g with β:=fun _=>none } H H w w:=⟨fun _ x=>⟨x,rfl⟩,fun _ hb x=>⟨hb,x,rfl,rfl,.inr ⟨rfl,rfl⟩⟩,fun _ cur _ x=>⟨cur,x,rfl⟩⟩
 refine { size:=by simp;omega,frame:=?_,heap:=fun id hb e=>?_,dist:=h.dist,rsome:=h.rsome,bdist:=fun s s' b e=>by simp at e,brho:=fun s b id o e=>by simp at e,bimm:=fun s b e=>by simp at e,imm:=h.imm,glob:=h.glob }
 ·have key:∀ (args:List PV) (vs:List Value) (i:Nat),VRs g H w args vs→∀ s fv,fget (yns i args) s=some fv→∃ p v,fv=.v p∧i≤s∧vs[s-i]?=some v∧VR g H w p v:=by
   intro args
   induction args with
   | nil=>intro vs i _ s fv e;simp [yns,fget] at e
   | cons x r ih =>
    intro vs i hv s fv e
    simp only [VRs] at hv
    obtain ⟨v,vr,rfl,h1,h2⟩:=hv
    simp only [yns,fget] at e
    split at e
    ·rename_i hs
     cases e
     subst hs
     exact ⟨x,v,rfl,qAk _,by simp,h1⟩
    ·obtain ⟨p,u,e1,e2,e3,e4⟩:=ih vr (i+1) h2 s fv e
     refine ⟨p,u,e1,by omega,?_,e4⟩
     have:s-i=(s-(i+1))+1:=by omega
     rw [this];simpa using e3
  intro s fv e
  obtain ⟨p,v,rfl,_,hv',hp⟩:=key args vs 0 hv s fv e
  simp only [FRel]
  have:(vs.toArray++Array.replicate (n-vs.toArray.size) undef).getD s undef=v:=by
   simp only [Nat.sub_zero] at hv'
   obtain ⟨hlt,e⟩:=List.getElem?_eq_some_iff.1 hv'
   simp [Array.getElem?_append,hlt,e]
  rw [this]
  exact yyA hon p v hp
 ·obtain ⟨b,oo,hk⟩:=h.heap id hb e
  exact ⟨b,oo,yjO hon hk rfl rfl (fun x=>x)⟩
theorem yJG {α β:Type} (f:α→Sem β) (w:World):∀ (l:List α) (r:List β),l.length=r.length→(∀ (i:Nat) (x:α) (y:β),l[i]?=some x→r[i]?=some y→(f x).run P w=.ok y w)→(l.mapM f).run P w=.ok r w
 | [],[],_,_=>by simp
 | [],_::_,h,_=>by simp at h
 | _::_,[],h,_=>by simp at h
 | x::l,y::r,h,hf=>by
  have h1:=hf 0 x y rfl rfl
  have h2:=yJG f w l r (by simpa using h) (fun i a b ha hb=>hf (i+1) a b ha hb)
  simp [List.mapM_cons,h1,h2]
def yxk (tmps:Array Value):ResultVar→Sem Value
 | .tmp t=>pure (tmps.getD t undef)
 | .cell a t=>do loadVar t (← asAddr (tmps.getD a undef))
theorem yLT (fn:Func) (tmps:Array Value):results fn tmps=(do let vs ← fn.results.mapM (yxk tmps);pure (if h:vs.size=1 then vs[0] else .tuple vs)):=by
 unfold results
 congr 1
theorem yJH (hr:Rel E nt g F H tmps w) {rv:ResultVar} {x:ARes} {p:PV} (hc:yh3 P [rv]=some [x]) (h:yGR F H x=some p) :
  ∃ v,(yxk tmps rv).run P w=.ok v w∧VR g H w p v:=by
 cases rv with
 | tmp t =>
  simp [yh3] at hc
  subst hc
  simp only [yGR] at h
  split at h
  ·rename_i q hq
   cases h
   have:=hr.frame t _ hq
   simp only [FRel] at this
   exact ⟨_,rfl,this⟩
  ·cases h
 | cell ad t =>
  simp only [yh3] at hc
  split at hc
  ·rename_i gg i l hg hi hl
   simp at hl
   subst hl
   simp at hc
   subst hc
   simp only [yGR] at h
   split at h
   ·rename_i row hrow
    have hf:=hr.frame ad _ hrow
    simp only [FRel] at hf
    obtain ⟨b,hβ,ht,hnI,cur,T,hcur,hrr⟩:=hf
    have hat:At w b 0 cur.toList:=At.of_cells hcur (by simp [qAw])
    obtain ⟨v,h1,h2⟩:=yqK (P:=P) (yig hrr) hat h hg hi
    refine ⟨v,?_,h2⟩
    simpa [yxk,ht,asAddr] using h1
   ·rename_i id ext i0 off hpt
    have hf:=hr.frame ad _ hpt
    simp only [FRel,VR] at hf
    obtain ⟨hb,a0,hH,hle,hv,hcond⟩:=hf
    split at h
    ·rename_i hb' hH'
     rw [hH] at hH';cases hH'
     split at h
     ·rename_i hext
      split at h
      ·rename_i row hrow
       obtain ⟨b,oo,hρ,hi0,ha⟩:=hcond hext
       obtain ⟨b',o',hk⟩:=hr.heap id hb hH
       have e0:=hk.at_
       rw [hρ] at e0;cases e0
       obtain ⟨vs,hl,hrr,hat⟩:=yfS _ _ _ _ _ _ hk.rows hrow
       obtain ⟨v,h1,h2⟩:=yqK (P:=P) (yig hrr) hat h hg hi
       refine ⟨v,?_,h2⟩
       simp only [yxk,hv,ha]
       simpa [asAddr] using h1
      ·cases h
     ·cases h
    ·cases h
   ·cases h
  ·cases hc
end
end Go.Pf
namespace Go.Pf
open Go Go.RowKit
def yc9 (P:Program) (E:Env) (call:Nat→List PV→Hp→Option (PV×Hp)):Prop :=
 ∀ (f:Nat) (args:List PV) (H:Hp) (r:PV) (H':Hp),call f args H=some (r,H') →
  ∀ (nt:Nat) (g:Gh) (F:Frm) (tmps:Array Value) (w:World) (vs:List Value),Rel E nt g F H tmps w→VRs g H w args vs →
   yoV P f vs.toArray w fun v w'=>∃ g',Nx g g' H H' w w'∧Rel E nt g' F H' tmps w'∧VR g' H' w' r v
theorem yc9.env {P:Program} {E E':Env} {call:Nat→List PV→Hp→Option (PV×Hp)} (e:E'.glob=E.glob) (h:yc9 P E call):yc9 P E' call:=by
 intro f args H r H' hc nt g F tmps w vs hr hv
 obtain hh:=h f args H r H' hc nt g F tmps w vs (hr.env e.symm) hv
 exact hh.mono fun v w' ⟨g',h1,h2,h3⟩=>⟨g',h1,h2.env e,h3⟩
theorem yc9.none {P:Program} {E:Env}:yc9 P E fun _ _ _=>none:=fun _ _ _ _ _ h=>by cases h
structure EnvOk (P:Program) (E:Env):Prop where
 sum:∀ n as r,E.sum n as=some r→yrx P E.glob n as r
 fns:∀ n fn,E.fns n=some fn→∃ f loc fg,P.funcs[n]?=some f∧yar P loc fg f=some fn
 eff:yc9 P E E.effx
section
variable {P:Program} {E:Env} {nt:Nat} {g g':Gh} {F F':Frm} {H H':Hp} {a:Act} {tmps:Array Value} {w w':World} {o:Oper}
theorem yH0 {rv:ResultVar} {l:List ResultVar} {rs:List ARes} (h:yh3 P (rv::l)=some rs):∃ x r,rs=x::r∧yh3 P [rv]=some [x]∧yh3 P l=some r:=by
 cases rv with
 | tmp t =>
  simp only [yh3] at h ⊢
  split at h
  ·rename_i r hr;cases h;exact ⟨_,_,rfl,rfl,hr⟩
  ·cases h
 | cell a t =>
  simp only [yh3] at h ⊢
  split at h
  ·rename_i gg i r h1 h2 h3;cases h;exact ⟨_,_,rfl,by rw [h1,h2],h3⟩
  ·cases h
theorem yyK (hr:Rel E nt g F H tmps w):∀ (l:List ResultVar) (rs:List ARes) (ps:List PV),yh3 P l=some rs→ynr F H rs=some ps →
  ∃ vs:List Value,vs.length=l.length∧(∀ (i:Nat) (x:ResultVar) (y:Value),l[i]?=some x→vs[i]?=some y→(yxk tmps x).run P w=.ok y w)∧VRs g H w ps vs
 | [],rs,ps,hc,h=>by
  simp [yh3] at hc;subst hc
  simp [ynr] at h;subst h
  exact ⟨[],rfl,fun i x y e=>by simp at e,by simp [VRs]⟩
 | rv::l,rs,ps,hc,h=>by
  obtain ⟨x,r,rfl,h1,h2⟩:=yH0 hc
  simp only [ynr] at h
  split at h
  ·rename_i p hp
   split at h
   ·rename_i ps' hps
    cases h
    obtain ⟨v,h3,h4⟩:=yJH hr h1 hp
    obtain ⟨vs,h5,h6,h7⟩:=yyK hr l r ps' h2 hps
    refine ⟨v::vs,by simp [h5],fun i x y e1 e2=>?_,by simp only [VRs];exact ⟨v,vs,rfl,h4,h7⟩⟩
    cases i with
    | zero=>simp at e1 e2;subst e1;subst e2;exact h3
    | succ i=>simp at e1 e2;exact h6 i x y e1 e2
   ·cases h
  ·cases h
theorem yFv (hr:Rel E nt g F H tmps w) {fn:Func} {rs:List ARes} {ps:List PV} (hc:yh3 P fn.results.toList=some rs) (h:ynr F H rs=some ps) :
  ∃ v,(results fn tmps).run P w=.ok v w∧VR g H w (yoN ps) v:=by
 obtain ⟨vs,h1,h2,h3⟩:=yyK hr _ rs ps hc h
 have hm:(fn.results.mapM (yxk tmps)).run P w=.ok vs.toArray w:=by
  have:=yJG (P:=P) (yxk tmps) w fn.results.toList vs (by rw [h1]) (fun i x y e1 e2=>h2 i x y e1 e2)
  rw [Array.mapM_eq_mapM_toList]
  simp [this]
 have key:(results fn tmps).run P w=.ok (if h:vs.toArray.size=1 then vs.toArray[0] else .tuple vs.toArray) w:=by
  rw [yLT]
  simp [hm]
 rw [key]
 refine ⟨_,rfl,?_⟩
 cases ps with
 | nil=>simp only [VRs] at h3;subst h3;simp [yoN,VR,VRs]
 | cons p r =>
  cases r with
  | nil =>
   simp only [VRs] at h3
   obtain ⟨v,vr,rfl,h4,rfl⟩:=h3
   simpa [yoN] using h4
  | cons q r =>
   have h3':=h3
   simp only [VRs] at h3
   obtain ⟨v,vr,rfl,h4,v2,vr2,rfl,h5,h6⟩:=h3
   simp only [yoN,VR]
   exact ⟨v::v2::vr2,by simp,h3'⟩
theorem yDA.wp (h:yDA E nt g H a w o.dst F' H' ((execOp a.eval o).run P w)) {next:Act→World→Prop} {Q:Exit→Act→World→Prop}
  (hn:∀ v w' g',Nx g g' H H' w w'→Rel E nt g' F' H' (a.put o.dst v).tmps w'→next (a.put o.dst v) w'):o.wp P a w next Q:=by
 obtain ⟨v,w',g',hr,h1,h2⟩:=h
 unfold Oper.wp
 rcases hr with hr | ⟨hr,rfl⟩
 ·rw [hr];exact hn _ _ _ h1 h2
 ·rw [hr];exact hn _ _ _ h1 h2
theorem yxl:∀ (l1 l2:List PV) (v1 v2:List Value),VRs g H w l1 v1→VRs g H w l2 v2→VRs g H w (l1++l2) (v1++v2)
 | [],l2,v1,v2,h1,h2=>by simp only [VRs] at h1;subst h1;exact h2
 | x::r,l2,v1,v2,h1,h2=>by
  simp only [VRs] at h1
  obtain ⟨v,vr,rfl,h3,h4⟩:=h1
  simp only [List.cons_append,VRs]
  exact ⟨v,vr++v2,rfl,h3,yxl r l2 vr v2 h4 h2⟩
theorem yJI {w w':World} {I I':Nat→Prop} (k:yyz I I' w w'):∀ (l:List PV) (vs:List Value),VPs I w l vs→VPs I' w' l vs
 | [],vs,h=>by simpa only [VPs] using h
 | x::r,vs,h=>by
  simp only [VPs] at h ⊢
  obtain ⟨v,vr,e,h1,h2⟩:=h
  exact ⟨v,vr,e,yyG k h1,yJI k r vr h2⟩
theorem yH1 {w w':World} {I I':Nat→Prop} (k:yyz I I' w w') {x:PV} {v:Value} (h:VP I w x v):VP I' w' x v:=by
 cases x with
 | tup ps =>
  simp only [VP] at h ⊢
  obtain ⟨vs,e,h⟩:=h
  exact ⟨vs,e,yJI k _ _ h⟩
 | _=>simp only [VP] at h ⊢;exact yyG k h
theorem yLU {nt:Nat} {g:Gh} {F:Frm} {H:Hp} {tmps:Array Value} {w:World} (hr:Rel E nt g F H tmps w) {r q:PV} {v:Value} (h:VR g H w r v) (hq:purR H r=some q) :
  ∃ g' H',Rel E nt g' F H' tmps w∧Nx g g' H H' w w∧VP g'.I w q v:=by
 unfold purR at hq
 split at hq
 ·rename_i ps
  split at hq
  ·rename_i qs H1 hp
   cases hq
   simp only [VR] at h
   obtain ⟨vs,rfl,h⟩:=h
   obtain ⟨g',h1,h2,_,_,h3⟩:=yjR _ _ _ _ _ _ hr h hp
   exact ⟨g',H1,h1,h2,by simp only [VP];exact ⟨vs,rfl,h3⟩⟩
  ·cases hq
 ·split at hq
  ·rename_i x hx q' H1 hp
   cases hq
   obtain ⟨g',h1,h2,_,_,_,h3⟩:=ykH hr h hp
   refine ⟨g',H1,h1,h2,?_⟩
   cases q <;> first | exact h3 | (simp only [VP1] at h3)
  ·cases hq
theorem yGX {nt:Nat} {F:Frm} {tmps:Array Value} {w:World} {esz b:Nat}:∀ (rows ys:List PV) (o:Nat) (H H':Hp) (g:Gh),Rel E nt g F H tmps w→yjh g H w rows esz b o→ygC H rows=some (ys,H') →
  ∃ g',Rel E nt g' F H' tmps w∧Nx g g' H H' w w∧g'.ρ=g.ρ∧ys.length=rows.length∧yeu g'.I w ys esz b o
 | [],ys,o,H,H',g,hr,h,hq=>by
  simp only [ygC,qAd,Prod.mk.injEq] at hq
  obtain ⟨rfl,rfl⟩:=hq
  exact ⟨g,hr,Nx.refl g H w,rfl,rfl,by simp only [yeu]⟩
 | x::r,ys,o,H,H',g,hr,h,hq=>by
  simp only [ygC] at hq
  split at hq
  ·rename_i y H1 hy
   split at hq
   ·rename_i ys H2 hys
    cases hq
    simp only [yjh] at h
    obtain ⟨⟨vs,hl,h1,h2⟩,h3⟩:=h
    obtain ⟨v,rfl,h4⟩:∃ v,vs=[v]∧VR g H w x v:=by
     cases x <;> first | exact h1.2 | simp [yiJ] at hy
    obtain ⟨g1,r1,n1,_,p1,c1,o1⟩:=ymH hr h4 hy
    obtain ⟨g2,r2,n2,p2,l2,c2⟩:=yGX r ys (o+esz) H1 H' g1 r1 (ytM n1.on _ _ rfl _ _ h3) hys
    refine ⟨g2,r2,n1.trans n2,p2.trans p1,by simp [l2],?_⟩
    simp only [yeu]
    exact ⟨⟨[v],hl,yed n2.on.keeps y [v] c1,h2⟩,c2⟩
   ·cases hq
  ·cases hq
theorem yJJ {nt:Nat} {g:Gh} {F:Frm} {H:Hp} {tmps:Array Value} {w:World} (hr:Rel E nt g F H tmps w) {r q:PV} {v:Value} (h:VR g H w r v) (hq:yPK H r=some q) :
  ∃ g' H',Rel E nt g' F H' tmps w∧Nx g g' H H' w w∧VP (fun b=>g'.I b∨RngR g' b) w q v:=by
 unfold yPK at hq
 split at hq
 ·rename_i id lo len ext cap k n
  split at hq
  ·rename_i hb e
   split at hq
   ·rename_i hc
    split at hq
    ·rename_i ys H1 hp
     cases hq
     simp only [VR,VRs] at h
     obtain ⟨vs,rfl,v1,vr1,rfl,ho,v2,vr2,rfl,hi,rfl⟩:=h
     obtain ⟨hb',ad,c,e',hle,hv,hc1,hm,hcc,hcond⟩:=ho
     rw [e] at e';cases e'
     obtain ⟨b,o1,hρ,hle2,had,_,_⟩:=hcond hc.1
     obtain ⟨b',o',hk⟩:=hr.heap id hb e
     have hk1:=hk.at_
     rw [hρ] at hk1;cases hk1
     obtain ⟨g2,r2,n2,p2,l2,c2⟩:=yGX _ ys _ H H1 g hr (yvs hk.rows lo len) hp
     refine ⟨g2,H1,r2,n2,?_⟩
     simp only [VP,VPs,VP1]
     refine ⟨_,rfl,v1,_,rfl,?_,v2,_,rfl,?_,rfl⟩
     ·simp only [RC]
      have hl:ys.length=len:=by rw [l2,qAl,qAu];omega
      refine ⟨some ad,len,c,by rw [hv],hl.symm,hc1,hm,?_⟩
      by_cases hz:len=0
      ·left;exact qAh (by omega)
      ·right
       have hI:g2.I b∨RngR g2 b:=.inr ⟨id,o1,by rw [p2];exact hρ⟩
       refine ⟨b,o1+lo*hb.esz,hb.esz,by rw [had (by omega)],hI,hk.esz,ykF _ _ _ _ fun i x hx=>?_⟩
       obtain ⟨vs,k1,k2,k3⟩:=yeM _ _ _ _ i x c2 hx
       exact ⟨vs,k1,yed (fun b hb=>⟨.inl hb,rfl⟩) x vs k2,k3⟩
     ·simp only [RC];exact ⟨by rw [hi.1],hi.2⟩
    ·cases hq
   ·cases hq
  ·cases hq
 ·cases hq
theorem yDB {nt:Nat} {g:Gh} {F:Frm} {H:Hp} {tmps:Array Value} {w:World} (hr:Rel E nt g F H tmps w) {b:Bool} {r q:PV} {v:Value} (h:VR g H w r v) (hq:purN b H r=some q) :
  ∃ g' H',Rel E nt g' F H' tmps w∧Nx g g' H H' w w∧VP (fun b=>g'.I b∨RngR g' b) w q v:=by
 have base:∀ {q:PV},purR H r=some q→∃ g' H',Rel E nt g' F H' tmps w∧Nx g g' H H' w w∧VP (fun b=>g'.I b∨RngR g' b) w q v:=fun hq=>by
  obtain ⟨g',H',h1,h2,h3⟩:=yLU hr h hq
  exact ⟨g',H',h1,h2,yH1 (fun b hb=>⟨.inl hb,rfl⟩) h3⟩
 unfold purN at hq
 cases b with
 | false=>exact base hq
 | true =>
  simp only [cond_true] at hq
  split at hq
  ·cases hq
   simp only [VR] at h
   exact ⟨g,H,hr,Nx.refl g H w,by simp only [VP,VP1];exact h⟩
  ·split at hq
   ·rename_i q' hq'
    cases hq
    exact base hq'
   ·exact yJJ hr h hq
theorem run_pure {b:Bool} {call} (hc:yc9 P E call) {I:Nat→Prop} {w:World} {f:Nat} {args:List PV} {vs:List Value} {r q:PV} {H:Hp} (himm:∀ b,I b→b<w.heap.size)
  (hg:∀ n x,E.glob n=some x→I n∧∃ vs,0<vs.length∧RC I w x vs∧At w n 0 vs) (hv:VPs I w args vs) (hin:call f args []=some (r,H)) (h:purN b H r=some q) :
  yoV P f vs.toArray w fun v w'=>Bel w.heap.size w w'∧VP (fun b=>I b∨(w.heap.size≤b∧b<w'.heap.size)) w' q v:=by
 let g0:Gh:=⟨fun _=>none,fun _=>none,I⟩
 have hr:Rel E 0 g0 [] [] #[] w:=by
  refine ⟨qBh _,fun s fv e=>by simp [fget] at e,fun id hb e=>by simp at e,fun id id' hb b o b' o' e=>by simp at e,fun id b o e=>by simp [g0] at e,fun s s' b e=>by simp [g0] at e,fun s b id o e=>by simp [g0] at e,fun s b e=>by simp [g0] at e,himm,hg⟩
 refine (hc f args [] r H hin 0 g0 [] #[] w vs hr (yr8 (g:=g0) _ _ hv)).mono ?_
 rintro v w' ⟨g',n1,r1,hvr⟩
 obtain ⟨g2,H2,r2,n2,hvp⟩:=yDB r1 hvr h
 have n3:=n1.trans n2
 have noR:∀ b,¬RngR g0 b:=fun b ⟨id,o,e⟩=>by simp [g0] at e
 have noM:∀ b,¬MutF g0 b:=fun b ⟨s,e⟩=>by simp [g0] at e
 refine ⟨⟨⟨n3.os,n3.tape,n3.output,n3.size,fun k hk=>n3.kept k hk (noR k) (noM k)⟩,n3.drawn⟩,yH1 (fun b hb=>⟨?_,rfl⟩) hvp⟩
 rcases qA1 b w.heap.size with h1 | h1
 ·rcases hb with hb | hb
  ·rcases n3.immb b h1 hb with h2 | h2
   ·exact .inl h2
   ·exact absurd h2 (noR b)
  ·exact absurd (n3.rng b h1 hb) (noR b)
 ·exact .inr ⟨h1,hb.elim (r2.imm b) r2.brng⟩
theorem yyL:∀ (H:Hp) (id:Nat),(iceH H)[id]?=(H[id]?).map iceB
 | [],id=>by simp [iceH]
 | b::r,0=>rfl
 | b::r,id+1=>by simp only [iceH,List.getElem?_cons_succ];exact yyL r id
theorem yJK:∀ (H:Hp),(iceH H).length=H.length
 | []=>rfl
 | b::r=>by simp only [iceH,qAs,yJK r]
structure IceG (g g1:Gh):Prop where
 rng:∀ b,RngR g1 b→g1.I b
 bet:∀ b,¬MutF g1 b
theorem Rel.ice (hr:Rel E nt g F H tmps w) {args:List PV} {vs:List Value} (hv:VRs g H w args vs):∃ g1,Rel E nt g1 [] (iceH H) tmps w∧VRs g1 (iceH H) w args vs∧IceG g g1:=by
 let g1:Gh:={ g with β:=fun _=>none,I:=fun b=>g.I b∨RngR g b }
 have hon:On g g1 H (iceH H) w w:=by
  refine ⟨fun b h=>⟨.inl h,rfl⟩,fun id hb e=>⟨iceB hb,by rw [yyL,e];rfl,rfl,rfl,.inr ⟨rfl,rfl⟩⟩,fun b cur T e=>⟨cur,e,rfl⟩⟩
 refine ⟨g1,?_,yAB hon _ _ hv,⟨fun b h=>.inr h,fun b ⟨s,e⟩=>by simp [g1] at e⟩⟩
 refine { size:=hr.size,frame:=fun s fv e=>by simp [fget] at e,heap:=fun id hb e=>?_,dist:=fun id id' hb b o b' o' e hf=>?_,rsome:=fun id b o e=>by rw [yJK];exact hr.rsome id b o e,bdist:=fun s s' b e=>by simp [g1] at e,brho:=fun s b id o e=>by simp [g1] at e,bimm:=fun s b e=>by simp [g1] at e,imm:=fun b h=>?_,glob:=fun n x hx=>?_ }
 ·rw [yyL,qA6] at e
  obtain ⟨hb0,e0,rfl⟩:=e
  obtain ⟨b,o,hk⟩:=hr.heap id hb0 e0
  refine ⟨b,o,hk.at_,hk.esz,hk.cells,ytM hon _ _ rfl _ _ hk.rows,fun hp=>?_,fun _=>.inr ⟨id,o,hk.at_⟩,fun h=>by cases h⟩
  refine ykF _ _ _ _ fun i x hx'=>?_
  obtain ⟨vs,h1,h2,h3⟩:=yeM _ _ _ _ i x (hk.pure hp) hx'
  exact ⟨vs,h1,yed hon.keeps x vs h2,h3⟩
 ·rw [yyL,qA6] at e
  obtain ⟨hb0,e0,rfl⟩:=e
  cases hf
 ·rcases h with h | h
  ·exact hr.imm b h
  ·exact hr.brng h
 ·obtain ⟨h1,vs,h2,h3,h4⟩:=hr.glob n x hx
  exact ⟨.inl h1,vs,h2,yed hon.keeps x vs h3,h4⟩
theorem yLV {Hi:Hp} {g1:Gh} (hr:Rel E nt g1 F Hi tmps w) (hi:∀ b,RngR g1 b→g1.I b) {x q:PV} {v:Value} (h:VR g1 Hi w x v) (hq:purP Hi x=some q):VP1 g1.I w q v:=by
 have back:∀ {g':Gh} {H':Hp},Rel E nt g' F H' tmps w→Nx g1 g' Hi H' w w→yyz g'.I g1.I w w:=fun r n b hb=>⟨(n.immb b (r.imm b hb) hb).elim id (hi b),rfl⟩
 have base:∀ {q:PV},(match ydL Hi x with | some (q,_)=>some q | none=>none)=some q→VP1 g1.I w q v:=fun hq=>by
  split at hq
  ·rename_i q' H' hp
   cases hq
   obtain ⟨g',r',n',_,_,_,h3⟩:=ykH hr h hp
   exact yyG (back r' n') h3
  ·cases hq
 unfold purP at hq
 split at hq
 ·rename_i id ext i off
  split at hq
  ·rename_i hb e
   split at hq
   ·rename_i he
    split at hq
    ·rename_i row hrow
     split at hq
     ·rename_i q' H' hp
      cases hq
      simp only [VR] at h
      obtain ⟨hb',a,e',hle,hv,hcond⟩:=h
      rw [e] at e';cases e'
      obtain ⟨b,o,hρ,hlt,ha⟩:=hcond he
      obtain ⟨b',o',hk⟩:=hr.heap id hb e
      have hk1:=hk.at_
      rw [hρ] at hk1;cases hk1
      obtain ⟨vs,k1,k2,k3⟩:=yfS _ _ _ _ i row hk.rows hrow
      have hrc:RC g1.I w q' vs:=by
       cases row with
       | agg cs =>
        have hvr:VR g1 Hi w (.agg cs) (.agg vs.toArray):=by simp only [VR];exact ⟨vs,rfl,k2⟩
        obtain ⟨g',r',n',_,_,h3,_⟩:=ykH hr hvr hp
        exact yed (back r' n') _ _ (by simpa [Value.cells] using h3)
       | _ =>
        simp only [RowR] at k2
        obtain ⟨_,v1,rfl,k2⟩:=k2
        simp only [ydL] at hp
        obtain ⟨g',r',n',_,_,h3,_⟩:=ymH hr k2 hp
        exact yed (back r' n') _ _ h3
      simp only [VP1]
      refine ⟨b,o+i*hb.esz,hb.esz,?_,hi b ⟨id,o,hρ⟩,hk.esz,by simp,?_⟩
      ·rw [hv,ha];simp
      ·simp only [yeu];exact ⟨⟨vs,k1,hrc,k3⟩,trivial⟩
     ·cases hq
    ·cases hq
   ·cases hq
  ·cases hq
 ·cases hq
  simp only [VR] at h
  simp only [VP1];exact h
 ·exact base hq
theorem yBM {Hi:Hp} {g1:Gh} (hr:Rel E nt g1 F Hi tmps w) (hi:∀ b,RngR g1 b→g1.I b):∀ (l ys:List PV) (vs:List Value),VRs g1 Hi w l vs→yyx Hi l=some ys→VPs g1.I w ys vs
 | [],ys,vs,h,hq=>by
  simp only [yyx,qAd] at hq
  subst hq
  simpa only [VRs,VPs] using h
 | x::r,ys,vs,h,hq=>by
  simp only [yyx] at hq
  split at hq
  ·rename_i y hy
   split at hq
   ·rename_i ys' hys
    cases hq
    simp only [VRs] at h
    obtain ⟨v,vr,rfl,h1,h2⟩:=h
    simp only [VPs]
    exact ⟨v,vr,rfl,yLV hr hi h1 hy,yBM hr hi r ys' vr h2 hys⟩
   ·cases hq
  ·cases hq
theorem ywv (hE:EnvOk P E) {call} (hc:yc9 P E call) (hr:Rel E nt g F H tmps w) {n:Nat} {ps:List PV} {vs:List Value} {r:PV} (hv:VPs g.I w ps vs) (h:ybv E call n ps=some r) :
  yoV P n vs.toArray w fun v w'=>Bel w.heap.size w w'∧VP (fun b=>g.I b∨(w.heap.size≤b∧b<w'.heap.size)) w' r v:=by
 unfold ybv at h
 split at h
 ·rename_i r' hs
  cases h
  exact hE.sum n ps _ hs g.I w vs hr.imm hr.glob hv
 ·split at h
  ·split at h
   ·rename_i r0 H1 hcall
    exact run_pure hc hr.imm hr.glob hv hcall h
   ·cases h
  ·cases h
theorem yJL (hE:EnvOk P E) {call} (hc:yc9 P E call) (hr:Rel E nt g F H tmps w) {f:PV} {fv:Value} {as:List PV} {vs:List Value} {r:PV} (h:ynW E call f as H=some (r,H')) (hf:VR g H w f fv) (has:VRs g H w as vs) :
  ∃ (n:Nat) (first captured:List Value),fv=.func (.func n) first.toArray captured.toArray ∧
   yoV P n (first++vs++captured).toArray w fun v w'=>∃ g',Nx g g' H H' w w'∧Rel E nt g' F H' tmps w'∧VR g' H' w' r v:=by
 unfold ynW at h
 split at h
 ·rename_i n first captured
  simp only [VR] at hf
  obtain ⟨fs,cs,rfl,hfs,hcs⟩:=hf
  refine ⟨n,fs,cs,rfl,?_⟩
  have hall:=yxl _ _ _ _ (yxl _ _ _ _ hfs has) hcs
  split at h
  ·split at h
   ·rename_i ps hp
    split at h
    ·rename_i r0 hs
     split at h
     ·rename_i hsc
      cases h
      obtain ⟨g1,r1,v1,e1⟩:=hr.ice hall
      refine (ywv hE hc r1 (yBM r1 e1.rng _ _ _ v1 hp) hs).mono fun v w' ⟨hb,hv⟩=>?_
      obtain ⟨g2,h1,h2,_⟩:=hr.grew hb
      exact ⟨g2,h2,h1,yGW hsc hv⟩
     ·cases h
    ·cases h
   ·cases h
  split at h
  ·rename_i res hres
   split at hres
   ·rename_i ps H1 hp
    split at hres
    ·rename_i s hs
     obtain ⟨g1,r1,n1,b1,p1,v1⟩:=yjR _ _ _ _ _ _ hr hall hp
     refine (ywv hE hc r1 v1 hs).mono fun v w' ⟨hb,hv⟩=>?_
     split at hres
     ·rename_i hsc
      cases hres;cases h
      obtain ⟨g2,h1,h2,_⟩:=hr.grew hb
      exact ⟨g2,h2,h1,yGW hsc hv⟩
     ·cases hres;cases h
      obtain ⟨g2,h1,h2,h3,h4,h5⟩:=r1.grew hb
      refine ⟨g2,n1.trans h2,h1,yPY ?_⟩
      rw [h5];exact hv
    ·cases hres
   ·cases hres
  ·split at h
   ·cases h
   split at h
   ·split at h
    ·rename_i ps H1 hp
     obtain ⟨g1,r1,n1,b1,p1,v1⟩:=yjR _ _ _ _ _ _ hr hall hp
     refine (hc n ps H1 r H' h nt g1 F tmps w _ r1 (yr8 _ _ v1)).mono fun v w' ⟨g2,h1,h2,h3⟩=>⟨g2,n1.trans h1,h2,h3⟩
    ·cases h
   ·exact hc n _ H r H' h nt g F tmps w _ hr hall
 ·cases h
theorem yR8 (hE:EnvOk P E) {call} (hc:yc9 P E call) (hr:Rel E nt g F H a.tmps w) {c:Call} {f:Operand} {f':Opd} {as':List Opd} {out:Out} (ho:o.op=.call c) (hcal:c.callee=.value f) (hf:opd f=some f') (has:opds c.args.toList=some as')
  (h:yap E call F H (.call f' as')=some out) (hd:∀ d,o.dst=some d→d<nt) (hp:yg3 (yjG F out.bx) o.dst out.x=some F') {next:Act→World→Prop} {Q:Exit→Act→World→Prop}
  (hn:∀ v w' g',Nx g g' H out.h w w'→Rel E nt g' F' out.h (a.put o.dst v).tmps w'→next (a.put o.dst v) w'):o.wp P a w next Q:=by
 simp only [yap] at h
 split at h
 ·rename_i fv av hfv hav
  split at h
  ·rename_i r H1 hcall
   rw [ya7 h] at hp hn
   obtain ⟨n,first,captured,hfe,hR⟩:=yJL hE hc hr hcall (yaJ hr hf hfv) (yru hr _ _ _ has hav)
   have hstep:∀ v w' g',Nx g g' H H1 w w'→Rel E nt g' F H1 a.tmps w'→VR g' H1 w' r v→next (a.put o.dst v) w':=by
    intro v w' g' h1 h2 h3
    have:=yDA.of (dst:=o.dst) (a:=a) (F':=F') (w:=w) (g:=g) (H:=H) (r:=.ok (.value v) w') (out:=⟨some (.v r),none,H1⟩) ⟨v,w',g',.inl rfl,h1,h2,h3⟩ hd hp (fun row e=>by cases e)
    obtain ⟨v2,w2,g2,e,h4,h5⟩:=this
    rcases e with e | ⟨e,_⟩
    ·cases e;exact hn _ _ _ h4 h5
    ·cases e
   have hargs:(c.args.map a.eval)=(c.args.toList.map a.eval).toArray:=by rw [← Array.toList_map]
   have hrun:(execOp a.eval o).run P w=(callFunc n (first++c.args.toList.map a.eval++captured).toArray).run P w:=by
    have e2:(first++c.args.toList.map a.eval++captured).toArray=first.toArray++c.args.map a.eval++captured.toArray:=by rw [hargs];simp
    rw [e2]
    simp [execOp,ho,resolve,hcal,hfe,Deferred.ofValue,invoke]
   unfold yoV at hR
   unfold Oper.wp
   rw [hrun]
   split at hR
   ·rename_i v w' e
    rw [e]
    obtain ⟨g',h1,h2,h3⟩:=hR
    exact hstep v w' g' h1 h2 h3
   ·rename_i f2 a2 w' e
    rw [e]
    simp only [Oper.upon]
    refine Calls.mono hR fun e w'' he=>?_
    cases e with
    | returned v=>obtain ⟨g',h1,h2,h3⟩:=he;exact hstep v w'' g' h1 h2 h3
    | panicked _=>exact he.elim
    | outgrown=>exact he.elim
   ·exact hR.elim
  ·cases h
 ·cases h
theorem yLW {loc:List Nat} (h:yqM (ynt P loc o)=true):∃ c f f' as',o.op=.call c∧c.callee=.value f∧opd f=some f'∧opds c.args.toList=some as'∧ynt P loc o=.call f' as':=by
 unfold ynt at h
 cases ho:o.op <;> rw [ho] at h <;> simp only [] at h
 case call c =>
  cases hc:c.callee with
  | value f =>
   rw [hc] at h
   simp only [] at h
   split at h
   ·rename_i f' as' h1 h2
    refine ⟨c,f,f',as',rfl,hc,h1,h2,?_⟩
    unfold ynt
    rw [ho]
    simp only [hc,h1,h2]
   ·cases h
  | builtin b =>
   rw [hc] at h
   simp only [yqd] at h
   repeat' split at h
   all_goals cases h
  | invoke _ _=>rw [hc] at h;cases h
 all_goals (try unfold yC4 at h)
 all_goals (repeat' split at h)
 all_goals first | cases h | skip
end
end Go.Pf
namespace Go.Pf
open Go Go.RowKit
section
variable {P:Program} {E:Env} {nt:Nat} {g g':Gh} {F F':Frm} {H H':Hp} {a:Act} {tmps:Array Value} {w w':World} {o:Oper}
def yLX (all:Array Oper) (o:Oper) (gd:Option (Nat×Bool)):Prop :=
 (o.guard=none∧gd=none)∨∃ j want s,o.guard=some (j,want)∧(all[j]?).bind (·.dst)=some s∧gd=some (s,want)
theorem yqj {loc:List Nat} {all:Array Oper}:∀ (l:List Oper) (r:List AOper),yqe P loc all l=some r →
  r.length=l.length∧∀ (i:Nat) (o:Oper),l[i]?=some o→∃ gd,r[i]?=some ⟨o.dst,ynt P loc o,gd⟩∧yLX all o gd
 | [],r,h=>by
  simp [yqe] at h;subst h
  exact ⟨rfl,fun i o e=>by simp at e⟩
 | x::l,r,h=>by
  simp only [yqe] at h
  split at h
  ·rename_i l' hl
   obtain ⟨h1,h2⟩:=yqj l l' hl
   split at h
   ·rename_i hg
    cases h
    refine ⟨by simp [h1],fun i o e=>?_⟩
    cases i with
    | zero=>simp at e;subst e;exact ⟨none,rfl,.inl ⟨hg,rfl⟩⟩
    | succ i=>simp at e;simpa using h2 i o e
   ·rename_i j want hg
    split at h
    ·rename_i s hs
     cases h
     refine ⟨by simp [h1],fun i o e=>?_⟩
     cases i with
     | zero=>simp at e;subst e;exact ⟨some (s,want),rfl,.inr ⟨j,want,s,hg,hs,rfl⟩⟩
     | succ i=>simp at e;simpa using h2 i o e
    ·cases h
  ·cases h
theorem yBN (hr:Rel E nt g F H a.tmps w) {all:Array Oper} {gd:Option (Nat×Bool)} {b:Bool} (hg:yLX all o gd) (h:yfO F gd=some b):Region.wanted o (yielded all a.tmps)=b:=by
 rcases hg with ⟨h1,rfl⟩ | ⟨j,want,s,h1,h2,rfl⟩
 ·simp only [yfO,qAd] at h
  simp [Region.wanted,h1,← h]
 ·simp only [yfO] at h
  split at h
  ·rename_i b0 hb0
   have hv:=hr.frame s _ hb0
   simp only [FRel,VR] at hv
   have:a.tmps[s]?=some (.bool b0):=by
    rw [qBf] at hv
    cases e:a.tmps[s]? with
    | none=>rw [e] at hv;simp [undef] at hv
    | some x=>rw [e] at hv;simpa using hv
   have hy:yielded all a.tmps j=some b0:=by
    unfold yielded
    rw [h2]
    simp [this]
   simp only [qAd] at h
   simp only [Region.wanted,h1,hy,← h]
   cases b0 <;> cases want <;> rfl
  ·rename_i hb0
   have hv:=hr.frame s _ hb0
   simp only [FRel,VR,VRs] at hv
   obtain ⟨vs,hv,rfl⟩:=hv
   have hy:yielded all a.tmps j=none:=by
    unfold yielded
    rw [h2]
    simp only [Option.bind_some]
    rw [qBf] at hv
    cases e:a.tmps[s]? with
    | none=>rfl
    | some x=>rw [e] at hv;simp at hv;subst hv;rfl
   simp only [qAd] at h
   simp only [Region.wanted,h1,hy,← h]
   rfl
  ·cases h
theorem yLY (a:Act) (dst:Option Tmp) (v:Value):(a.put dst v).defers=a.defers:=by cases dst <;> rfl
theorem yGY:∀ (l:List Oper),yDo nt l=true→∀ (i:Nat) (o:Oper),l[i]?=some o→∀ d,o.dst=some d→d<nt
 | [],_,i,o,e=>by simp at e
 | x::l,h,i,o,e=>by
  simp only [yDo,qAc] at h
  cases i with
  | zero =>
   simp at e;subst e
   intro d hd
   have:=h.1
   rw [hd] at this
   simpa using this
  | succ i=>simp at e;exact yGY l h.2 i o e
theorem yLZ (hE:EnvOk P E) {call} (hc:yc9 P E call) {ops:Array Oper} {loc:List Nat} {i:Nat} {rest:List Nat} {gd:Option (Nat×Bool)} {Q:Exit→Act→World→Prop}
  (hr:Rel E nt g F H a.tmps w) (ho:ops[i]?=some o) (hg:yLX ops o gd) (hd:∀ d,o.dst=some d→d<nt) (h:yj1 E call F H ⟨o.dst,ynt P loc o,gd⟩=some (F',H'))
  (hn:∀ v w' g',Nx g g' H H' w w'→Rel E nt g' F' H' (a.put o.dst v).tmps w'→wpOps P ops Q rest (a.put o.dst v) w'):wpOps P ops Q (i::rest) a w:=by
 simp only [wpOps,ho]
 unfold yj1 at h
 split at h
 ·cases h
 ·rename_i hgd
  rw [if_neg (by rw [yBN hr hg hgd];simp)]
  cases hdst:o.dst with
  | none =>
   rw [hdst] at h;simp only [qAd,Prod.mk.injEq] at h
   obtain ⟨rfl,rfl⟩:=h
   have:=hn undef w g (Nx.refl g H w)
   rw [hdst] at this
   exact this hr
  | some d =>
   rw [hdst] at h;simp only [qAd,Prod.mk.injEq] at h
   obtain ⟨rfl,rfl⟩:=h
   have:=hn undef w g (Nx.refl g H w)
   rw [hdst] at this
   refine this ?_
   rw [yJE]
   exact hr.putV (hd d hdst) (by simp [VR,VRs,undef])
 ·rename_i hgd
  rw [if_pos (yBN hr hg hgd)]
  left
  split at h
  ·cases h
  ·rename_i out x bx H1 hout
   simp only [qA6] at h
   obtain ⟨F1,hp,e⟩:=h
   cases e
   by_cases hcall:yqM (ynt P loc o)=true
   ·obtain ⟨c,f,f',as',h1,h2,h3,h4,h5⟩:=yLW hcall
    simp only [h5] at hout
    exact yR8 hE hc hr h1 h2 h3 h4 hout hd hp hn
   ·exact yDA.wp (yPX hr (by simpa using hcall) hout hd hp) hn
theorem ysa (hE:EnvOk P E) {call} (hc:yc9 P E call) {ops:Array Oper} {loc:List Nat} {l:List AOper} {Q:Exit→Act→World→Prop} {F':Frm} {H':Hp} (hl:yqe P loc ops ops.toList=some l) (hd:yDo nt ops.toList=true) :
  ∀ (σ:List Nat) (g:Gh) (F:Frm) (H:Hp) (a:Act) (w:World),(∀ i∈σ,i<ops.size)→Rel E nt g F H a.tmps w→yhT E call (σ.filterMap (l[·]?)) F H=some (F',H') →
   (∀ a' w' g',a'.defers=a.defers→Nx g g' H H' w w'→Rel E nt g' F' H' a'.tmps w'→Q .normal a' w')→wpOps P ops Q σ a w
 | [],g,F,H,a,w,_,hr,h,hq=>by
  simp only [List.filterMap_nil,yhT,qAd,Prod.mk.injEq] at h
  obtain ⟨rfl,rfl⟩:=h
  exact hq a w g rfl (Nx.refl g H w) hr
 | i::σ,g,F,H,a,w,hσ,hr,h,hq=>by
  obtain ⟨hlen,hget⟩:=yqj _ _ hl
  have hi:i<ops.size:=hσ i (by simp)
  have hoi:ops[i]?=some ops[i]:=by simp [hi]
  have hoi':ops.toList[i]?=some ops[i]:=by simp [hi]
  obtain ⟨gd,hli,hgd⟩:=hget i _ hoi'
  rw [List.filterMap_cons,hli] at h
  simp only [yhT] at h
  split at h
  ·rename_i F1 H1 hs
   refine yLZ hE hc hr hoi hgd (yGY _ hd i _ hoi') hs fun v w1 g1 n1 r1=>?_
   exact ysa hE hc hl hd σ g1 F1 H1 _ w1 (fun j hj=>hσ j (by simp [hj])) r1 h fun a' w' g' hdf n2 r2=>hq a' w' g' (hdf.trans (yLY _ _ _)) (n1.trans n2) r2
  ·cases h
theorem ynv {α:Type} (l:List α):(List.range l.length).filterMap (l[·]?)=l:=by
 induction l with
 | nil=>rfl
 | cons x l ih =>
  rw [qAs,List.range_succ_eq_map,List.filterMap_cons]
  simp only [List.getElem?_cons_zero]
  rw [List.filterMap_map]
  congr 1
def ExR:Ex→Exit→Prop
 | .norm,.normal=>True
 | .exit i,.exit j=>i=j
 | .ret,.ret=>True
 | _,_=>False
def yBO (E:Env) (nt:Nat) (g:Gh) (H:Hp) (w:World) (ex:Ex) (F':Frm) (H':Hp):Exit→Act→World→Prop :=
 fun e a' w'=>ExR ex e∧a'.defers=[]∧∃ g',Nx g g' H H' w w'∧Rel E nt g' F' H' a'.tmps w'
def yPZ (P:Program) (E:Env) (call:Nat→List PV→Hp→Option (PV×Hp)):Prop :=
 ∀ (nt:Nat) (g:Gh) (F:Frm) (H:Hp) (a:Act) (w:World) (loc:List Nat) (ops:Array Oper) (l:List AOper) (F':Frm) (H':Hp) (id:Nat),
  yqe P loc ops ops.toList=some l→yDo nt ops.toList=true→yrt ops.toList=true →
  ynq E call l (yrs (yjm ops.toList [])) F H=some (F',H')→Rel E nt g F H a.tmps w→a.defers=[] →
  (Code.region id ops true).wp P (yBO E nt g H w .norm F' H') a w
theorem yH2 (hE:EnvOk P E) {call} (hc:yc9 P E call) {ops:Array Oper} {loc:List Nat} {l:List AOper} {id:Nat} (hl:yqe P loc ops ops.toList=some l) (hd:yDo nt ops.toList=true)
  (h:yhT E call l F H=some (F',H')) (hr:Rel E nt g F H a.tmps w) (hdf:a.defers=[]):(Code.region id ops false).wp P (yBO E nt g H w .norm F' H') a w:=by
 refine wp_region (ysa (F':=F') (H':=H') hE hc hl hd _ g F H a w (fun i hi=>by simpa using hi) hr ?_ ?_)
 ·have hlen:=(yqj _ _ hl).1
  have:ops.size=l.length:=by simpa using hlen.symm
  rw [this,ynv]
  exact h
 ·intro a' w' g' h1 h2 h3
  exact ⟨trivial,h1.trans hdf,g',h2,h3⟩
theorem yBO.fdels {g:Gh} {ex:Ex} {e:Exit} {fs:List Nat} {a':Act} (h:yBO E nt g H w ex F' H' e a' w'):yBO E nt g H w ex (fdels F' fs) H' e a' w':=by
 obtain ⟨h1,h2,g',h3,h4⟩:=h
 exact ⟨h1,h2,g',h3,h4.less fun s x hs=>yLK fs F' s x hs⟩
theorem yBO.trans {g g1:Gh} {H1:Hp} {w1:World} {ex:Ex} {e:Exit} {a':Act} (hn:Nx g g1 H H1 w w1) (h:yBO E nt g1 H1 w1 ex F' H' e a' w'):yBO E nt g H w ex F' H' e a' w':=by
 obtain ⟨h1,h2,g',h3,h4⟩:=h
 exact ⟨h1,h2,g',hn.trans h3,h4⟩
def yP0 (P:Program) (E:Env) (n:Nat):Prop :=
 ∀ (loc:List Nat) (fg:Nat→List Nat) (nt:Nat) (c:Code) (g:Gh) (F:Frm) (H:Hp) (a:Act) (w:World) (ex:Ex) (F':Frm) (H':Hp),
  exec E n (ydy P loc fg nt c) F H=some (ex,F',H')→Rel E nt g F H a.tmps w→a.defers=[]→c.wp P (yBO E nt g H w ex F' H') a w
def yP1 (P:Program) (E:Env) (n:Nat):Prop :=
 ∀ (loc:List Nat) (fg:Nat→List Nat) (nt:Nat) (c:Code) (g:Gh) (F:Frm) (H:Hp) (a:Act) (w:World) (ex:Ex) (F':Frm) (H':Hp),
  exec E n (.loop (ydy P loc fg nt c)) F H=some (ex,F',H')→Rel E nt g F H a.tmps w→a.defers=[] →
  ∀ (b:Frame) (k:List Item) (cs:List Frame),∃ e a' w',yBO E nt g H w ex F' H' e a' w'∧Arrives P (lone (b.at a (.code c::.inLoop c::k)) cs w) b k cs e a' w'
theorem yH3 (hE:EnvOk P E) {n:Nat} (hx:yP0 P E n):yc9 P E (ybK E (n+1)):=by
 intro f args H r H' h nt g F tmps w vs hr hv
 simp only [ybK] at h
 split at h
 ·rename_i x he
  cases h
  exact hE.eff f args H r H' he nt g F tmps w vs hr hv
 split at h
 ·rename_i fn hfn
  obtain ⟨fu,loc,fg,hfu,hcomp⟩:=hE.fns f fn hfn
  unfold yar at hcomp
  split at hcomp
  ·rename_i c rs hb hrs
   split at hcomp
   ·cases hcomp
   ·rename_i hname
    cases hcomp
    simp only [] at h
    split at h
    ·have hbase:=hr.enter hv fu.ntmps
     have hcf:(callFunc f vs.toArray).run P w=.ok (.enter f vs.toArray) w:=by
      have hname' : ¬ fu.name = "runtime.NumGoroutine" := by simpa using hname
      simp [callFunc,hfu,hname',hb]
     unfold yoV
     rw [hcf]
     simp only []
     have fin:∀ ex F2 H2,exec E n (ydy P loc fg fu.ntmps c) (yns 0 args) H=some (ex,F2,H2)→(ex=.norm∨ex=.ret)→(∃ ps,ynr F2 H2 rs=some ps∧yoN ps=r∧H2=H') →
       Calls P f vs.toArray w (fun e w''=>match e with | .returned v=>∃ g',Nx g g' H H' w w''∧Rel E nt g' F H' tmps w''∧VR g' H' w'' r v | _=>False):=by
      intro ex F2 H2 he hex ⟨ps,hps,hpk,e2⟩
      subst hpk;subst e2
      have hbody:=hx loc fg fu.ntmps c _ _ _ ⟨vs.toArray++Array.replicate (fu.ntmps-vs.toArray.size) undef,[]⟩ w ex F2 H2 he hbase rfl
      refine calls_of_wp hfu hb (wp_mono hbody fun e a' w' hp=>?_)
      obtain ⟨h1,h2,g2,h3,h4⟩:=hp
      obtain ⟨v,hv1,hv2⟩:=yFv (P:=P) h4 hrs hps
      obtain ⟨r3,n3⟩:=hr.back h3 h4
      have hon2:On g2 { g2 with β:=g.β } H2 H2 w' w':=⟨fun _ x=>⟨x,rfl⟩,fun _ hb x=>⟨hb,x,rfl,rfl,.inr ⟨rfl,rfl⟩⟩,fun _ cur _ x=>⟨cur,x,rfl⟩⟩
      rcases hex with rfl | rfl <;> cases e <;> simp only [ExR] at h1
      ·exact ⟨h2,v,hv1,_,n3,r3,yyA hon2 _ _ hv2⟩
      ·exact ⟨h2,v,hv1,_,n3,r3,yyA hon2 _ _ hv2⟩
     split at h
     ·rename_i F2 H2 he
      split at h
      ·rename_i ps hps
       cases h
       exact fin _ F2 _ he (.inl rfl) ⟨ps,hps,rfl,rfl⟩
      ·cases h
     ·rename_i F2 H2 he
      split at h
      ·rename_i ps hps
       cases h
       exact fin _ F2 _ he (.inr rfl) ⟨ps,hps,rfl,rfl⟩
      ·cases h
     ·cases h
    ·cases h
  ·cases hcomp
 ·cases h
theorem yL0 (hE:EnvOk P E) (hdraw:∀ call,yc9 P E call→yPZ P E call):∀ n,yP0 P E n∧yP1 P E n∧yc9 P E (ybK E n):=by
 intro n
 induction n with
 | zero =>
  refine ⟨?_,?_,?_⟩
  ·intro loc fg nt c g F H a w ex F' H' h;simp [exec] at h
  ·intro loc fg nt c g F H a w ex F' H' h;simp [exec] at h
  ·intro f args H r H' h;simp [ybK] at h
 | succ n ih =>
  obtain ⟨ihx,ihl,ihi⟩:=ih
  have hloop:yP1 P E (n+1):=by
   intro loc fg nt c g F H a w ex F' H' h hr hdf b k cs
   simp only [exec] at h
   split at h
   ·rename_i F1 H1 h1
    obtain ⟨e,a1,w1,⟨hp1,hp2,g1,hn1,hr1⟩,harr⟩:=ihx loc fg nt c g F H a w _ _ _ h1 hr hdf b (.inLoop c::k) cs
    cases e <;> simp only [ExR] at hp1
    obtain ⟨e2,a2,w2,hq2,harr2⟩:=ihl loc fg nt c g1 F1 H1 a1 w1 ex F' H' h hr1 hp2 b k cs
    exact ⟨e2,a2,w2,hq2.trans hn1,.of_steps (Steps.trans harr (.one step_inLoop)) harr2⟩
   ·rename_i hne
    obtain ⟨e,a1,w1,hp,harr⟩:=ihx loc fg nt c g F H a w _ _ _ h hr hdf b (.inLoop c::k) cs
    have hex:ex≠.norm:=fun e=>hne F' H' (by rw [h,e])
    refine ⟨e,a1,w1,hp,.pass (x:=.inLoop c) rfl (fun _ _=>.inl (fun e1=>?_)) harr⟩
    subst e1
    have:=hp.1
    cases ex <;> simp [ExR] at this
    exact hex rfl
  refine ⟨?_,hloop,yH3 hE ihx⟩
  intro loc fg nt c g F H a w ex F' H' h hr hdf
  cases c with
  | skip =>
   simp only [ydy,exec,qAd,Prod.mk.injEq] at h
   obtain ⟨rfl,rfl,rfl⟩:=h
   exact wp_skip ⟨trivial,hdf,g,Nx.refl g H w,hr⟩
  | label l =>
   simp only [ydy,exec,qAd,Prod.mk.injEq] at h
   obtain ⟨rfl,rfl,rfl⟩:=h
   exact wp_label ⟨trivial,hdf,g,Nx.refl g H w,hr⟩
  | exit id =>
   simp only [ydy,exec,qAd,Prod.mk.injEq] at h
   obtain ⟨rfl,rfl,rfl⟩:=h
   exact wp_exit ⟨rfl,hdf,g,Nx.refl g H w,hr⟩
  | ret =>
   simp only [ydy,exec,qAd,Prod.mk.injEq] at h
   obtain ⟨rfl,rfl,rfl⟩:=h
   exact wp_ret ⟨trivial,hdf,g,Nx.refl g H w,hr⟩
  | region id ops draw =>
   simp only [ydy] at h
   split at h
   ·rename_i l hl
    split at h
    ·rename_i hds
     cases draw with
     | true =>
      simp only [if_true] at h
      split at h
      ·rename_i heb
       simp only [exec] at h
       split at h
       ·rename_i F1 H1 hrun
        cases h
        exact wp_mono (hdraw _ ihi nt g F H a w loc ops l F1 _ id hl hds heb hrun hr hdf) fun e a' w' hp=>hp.fdels
       ·cases h
      ·simp [exec] at h
     | false =>
      simp only [qAp,if_false] at h
      simp only [exec,ynq] at h
      split at h
      ·rename_i F1 H1 hrun
       cases h
       exact wp_mono (yH2 hE ihi hl hds hrun hr hdf) fun e a' w' hp=>hp.fdels
      ·cases h
    ·simp [exec] at h
   ·simp [exec] at h
  | seq x y =>
   simp only [ydy,exec] at h
   split at h
   ·rename_i F1 H1 h1
    refine wp_seq (wp_mono (ihx loc fg nt x g F H a w _ _ _ h1 hr hdf) fun e a1 w1 hp=>?_)
    obtain ⟨hp1,hp2,g1,hn1,hr1⟩:=hp
    cases e <;> simp only [ExR] at hp1
    exact wp_mono (ihx loc fg nt y g1 F1 H1 a1 w1 _ _ _ h hr1 hp2) fun e a' w' hp=>hp.trans hn1
   ·rename_i hne
    refine wp_seq (wp_mono (ihx loc fg nt x g F H a w _ _ _ h hr hdf) fun e a1 w1 hp=>?_)
    have hex:ex≠.norm:=fun e=>hne F' H' (by rw [h,e])
    cases e with
    | normal=>cases ex <;> first | exact absurd rfl hex | exact (hp.1).elim
    | _=>exact hp
  | cond x y z =>
   simp only [ydy] at h
   split at h
   ·rename_i x' hx
    simp only [exec] at h
    split at h
    ·rename_i hb
     have:=yaJ hr hx hb
     simp only [VR] at this
     exact wp_cond_true this (ihx loc fg nt y g F H a w _ _ _ h hr hdf)
    ·rename_i hb
     have:=yaJ hr hx hb
     simp only [VR] at this
     exact wp_cond_false this (ihx loc fg nt z g F H a w _ _ _ h hr hdf)
    ·cases h
   ·simp [exec] at h
  | block id x =>
   simp only [ydy,exec] at h
   split at h
   ·rename_i i F1 H1 h1
    refine wp_block (wp_mono (ihx loc fg nt x g F H a w _ _ _ h1 hr hdf) fun e a1 w1 hp=>?_)
    obtain ⟨hp1,hp2,hp3⟩:=hp
    cases e <;> simp only [ExR] at hp1
    subst hp1
    split at h
    ·rename_i hi
     cases h
     simp only [Exit.inBlock,hi,if_true]
     exact ⟨trivial,hp2,hp3⟩
    ·rename_i hi
     cases h
     simp only [Exit.inBlock,hi,if_false]
     exact ⟨rfl,hp2,hp3⟩
   ·rename_i hne
    refine wp_block (wp_mono (ihx loc fg nt x g F H a w _ _ _ h hr hdf) fun e a1 w1 hp=>?_)
    cases e with
    | exit j =>
     obtain ⟨hp1,_⟩:=hp
     cases ex <;> simp only [ExR] at hp1
     exact absurd h (hne _ F' H')
    | _=>exact hp
  | loop x =>
   intro b k cs
   obtain ⟨e,a',w',hq,harr⟩:=hloop loc fg nt x g F H a w ex F' H' (by simpa only [ydy] using h) hr hdf b k cs
   exact ⟨e,a',w',hq,.of_steps (.one step_loop) harr⟩
  | _=>simp [ydy,exec] at h
end
end Go.Pf
namespace Go.Pf
open Go
def yvt {S O:Type} (run:O→S→Option S):List O→S→Option S
 | [],s=>some s
 | o::r,s=>match run o s with
  | some s'=>yvt run r s'
  | none=>none
section
variable {S L V O:Type} {look:S→L→V} {run:O→S→Option S} {ops:List O} {st:Nat→S} {R W:Nat→L→Prop}
theorem yBP (p:Nat→Prop):∀ k,(∀ i,i<k→¬p i)∨∃ i,i<k∧p i∧∀ j,j<k→p j→j≤i:=by
 intro k
 induction k with
 | zero=>exact .inl fun i h=>absurd h (Nat.not_lt_zero i)
 | succ k ih =>
  by_cases h:p k
  ·exact .inr ⟨k,Nat.lt_succ_self k,h,fun j hj _=>Nat.le_of_lt_succ hj⟩
  ·rcases ih with ih | ⟨i,h1,h2,h3⟩
   ·refine .inl fun i hi=>?_
    rcases qA1 i k with h4 | h4
    ·exact ih i h4
    ·have:i=k:=by omega
     subst this;exact h
   ·refine .inr ⟨i,by omega,h2,fun j hj hp=>?_⟩
    rcases qA1 j k with h4 | h4
    ·exact h3 j h4 hp
    ·have:j=k:=by omega
     subst this;exact absurd hp h
structure Local (look:S→L→V) (run:O→S→Option S) (ops:List O) (st:Nat→S) (R W:Nat→L→Prop):Prop where
 goes:∀ (i:Nat) (o:O),ops[i]?=some o→run o (st i)=some (st (i+1))
 loc:∀ (i:Nat) (o:O),ops[i]?=some o→∀ S',(∀ l,R i l→look S' l=look (st i) l)→∃ T',run o S'=some T'∧(∀ l,W i l→look T' l=look (st (i+1)) l)∧(∀ l,¬W i l→look T' l=look S' l)
theorem Local.keeps (h:Local look run ops st R W) {i:Nat} (hi:i<ops.length) {l:L} (hw:¬W i l):look (st (i+1)) l=look (st i) l:=by
 obtain ⟨T',h1,h2,h3⟩:=h.loc i _ (qAb hi) (st i) (fun _ _=>rfl)
 rw [h.goes i _ (qAb hi)] at h1
 cases h1
 exact h3 l hw
theorem Local.since (h:Local look run ops st R W) {l:L} {k:Nat}:∀ m,k+m≤ops.length→(∀ i,k≤i→i<k+m→¬W i l)→look (st (k+m)) l=look (st k) l:=by
 intro m
 induction m with
 | zero=>intro _ _;rfl
 | succ m ih =>
  intro hm hw
  have:=h.keeps (i:=k+m) (by omega) (hw _ (by omega) (by omega))
  rw [← Nat.add_assoc,this]
  exact ih (by omega) fun i h1 h2=>hw i h1 (by omega)
def Free (R W:Nat→L→Prop) (i j:Nat):Prop:=∀ l,¬(W i l∧(R j l∨W j l))∧¬(W j l∧R i l)
theorem Local.perm (h:Local look run ops st R W):∀ (σ done:List Nat) (T:S),(done++σ).Nodup→(∀ i,i<ops.length↔i∈done++σ) →
  (∀ i j,i<j→(i∈σ∧j∈done∨(∃ a b c,σ=a++j::(b++i::c)))→Free R W i j) →
  (∀ l,(∀ i∈done,¬W i l)→look T l=look (st 0) l) →
  (∀ l i,i∈done→W i l→(∀ j∈done,W j l→j≤i)→look T l=look (st (i+1)) l) →
  ∃ T',yvt run (σ.filterMap (ops[·]?)) T=some T'∧∀ l,look T' l=look (st ops.length) l
 | [],done,T,hnd,hall,_,ha,hb=>by
  refine ⟨T,rfl,fun l=>?_⟩
  rcases yBP (fun i=>W i l) ops.length with h1 | ⟨i,h1,h2,h3⟩
  ·have:=h.since (l:=l) (k:=0) ops.length (by omega) (fun i _ hi=>h1 i (by omega))
   rw [qA4] at this
   rw [this]
   exact ha l fun i hi=>h1 i ((hall i).2 (by simpa using hi))
  ·have hi:i∈done:=by have:=(hall i).1 h1;simpa using this
   rw [hb l i hi h2 fun j hj hw=>h3 j ((hall j).2 (by simpa using hj)) hw]
   have:=h.since (l:=l) (k:=i+1) (ops.length-(i+1)) (by omega) (fun j h4 h5 hw=>by have:=h3 j (by omega) hw;omega)
   rw [show i+1+(ops.length-(i+1))=ops.length by omega] at this
   exact this.symm
 | j::σ,done,T,hnd,hall,hfree,ha,hb=>by
  have hj:j<ops.length:=(hall j).2 (by simp)
  have hjd:j∉done:=by
   intro hx
   rw [List.nodup_append] at hnd
   exact hnd.2.2 j hx j (by simp) rfl
  have later:∀ i,i<ops.length→i∉done→i≠j→i∈σ:=by
   intro i hi h1 h2
   have:=(hall i).1 hi
   simp only [qA9,qAv] at this
   rcases this with h3 | h3 | h3
   ·exact absurd h3 h1
   ·exact absurd h3 h2
   ·exact h3
  have freeLate:∀ i,i<j→i∈σ→Free R W i j:=by
   intro i hij hi
   obtain ⟨b,c,e⟩:=List.append_of_mem hi
   exact hfree i j hij (.inr ⟨[],b,c,by rw [e];rfl⟩)
  have freeDone:∀ i,j<i→i∈done→Free R W j i:=fun i hij hi=>hfree j i hij (.inl ⟨by simp,hi⟩)
  have agree:∀ l,R j l→look T l=look (st j) l:=by
   intro l hl
   have noBig:∀ i∈done,W i l→i<j:=by
    intro i hi hw
    rcases qA1 i j with h1 | h1
    ·exact h1
    ·have hne:i≠j:=fun e=>hjd (e ▸ hi)
     exact absurd ⟨hw,hl⟩ (freeDone i (by omega) hi l).2
   rcases yBP (fun i=>W i l) j with h1 | ⟨i,h1,h2,h3⟩
   ·have:=h.since (l:=l) (k:=0) j (by omega) (fun i _ hi=>h1 i (by omega))
    rw [qA4] at this
    rw [this]
    exact ha l fun i hi hw=>h1 i (noBig i hi hw) hw
   ·have hi:i∈done:=by
     by_cases hd:i∈done
     ·exact hd
     ·exact absurd ⟨h2,.inl hl⟩ (freeLate i h1 (later i (by omega) hd (by omega)) l).1
    rw [hb l i hi h2 fun k hk hw=>h3 k (noBig k hk hw) hw]
    have:=h.since (l:=l) (k:=i+1) (j-(i+1)) (by omega) (fun k h4 h5 hw=>by have:=h3 k (by omega) hw;omega)
    rw [show i+1+(j-(i+1))=j by omega] at this
    exact this.symm
  obtain ⟨T',h1,h2,h3⟩:=h.loc j _ (qAb hj) T agree
  have ih:=Local.perm h σ (done++[j]) T' (by simpa using hnd) (fun i=>by rw [hall i];simp) ?_ ?_ ?_
  ·obtain ⟨T2,h4,h5⟩:=ih
   refine ⟨T2,?_,h5⟩
   rw [List.filterMap_cons,qAb hj]
   simp only [yvt,h1]
   exact h4
  ·intro i k hik hcase
   rcases hcase with ⟨hi,hk⟩ | ⟨a,b,c,e⟩
   ·simp only [qA9,List.mem_singleton] at hk
    rcases hk with hk | rfl
    ·exact hfree i k hik (.inl ⟨by simp [hi],hk⟩)
    ·exact freeLate i hik hi
   ·exact hfree i k hik (.inr ⟨j::a,b,c,by rw [e];rfl⟩)
  ·intro l hl
   rw [h3 l (hl j (by simp))]
   exact ha l fun i hi=>hl i (by simp [hi])
  ·intro l i hi hw hmax
   simp only [qA9,List.mem_singleton] at hi
   by_cases hwj:W j l
   ·have hle:=hmax j (by simp) hwj
    rcases hi with hi | rfl
    ·have hne:i≠j:=fun e=>hjd (e ▸ hi)
     exact absurd ⟨hwj,.inr hw⟩ (freeDone i (by omega) hi l).1
    ·exact h2 l hw
   ·rcases hi with hi | rfl
    ·rw [h3 l hwj]
     exact hb l i hi hw fun k hk hkw=>hmax k (by simp [hk]) hkw
    ·exact absurd hw hwj
end
def ymI (o:Oper):List Nat:=o.after.toList.filterMap fun e=>if Region.binds .any e then some e.on else none
theorem yGZ {p q:Nat→Bool}:∀ (l:List Nat) (i:Nat),i∈l→p i=true→q i=false→(∀ j,q j=true→p j=true)→l.countP q<l.countP p
 | [],i,h,_,_,_=>by simp at h
 | x::l,i,h,hp,hq,himp=>by
  have hle:l.countP q≤l.countP p:=List.countP_mono_left fun j _=>himp j
  simp only [List.countP_cons]
  rcases qAv.1 h with rfl | h
  ·rw [hp,hq];simp;omega
  ·have:=yGZ l i h hp hq himp
   cases hqx:q x
   ·simp;omega
   ·rw [himp x hqx];simp;exact this
theorem yH4 (ops:Array Oper) (hback:∀ (i:Nat) (o:Oper),ops[i]?=some o→∀ k∈ymI o,k<i) :
  ∀ (fuel t:Nat) (listed:Array Bool),listed.size=ops.size→(List.range ops.size).countP (fun i=>!listed.getD i true)≤fuel →
   (∀ i,(i<ops.size∧listed.getD i true=false)↔i∈Region.linearise.go .any ops fuel t listed [])∧(Region.linearise.go .any ops fuel t listed []).Nodup ∧
   ∀ a j b,Region.linearise.go .any ops fuel t listed []=a++j::b→∀ o,ops[j]?=some o→∀ k∈ymI o,listed.getD k false=true∨k∈a:=by
 intro fuel
 induction fuel with
 | zero =>
  intro t listed hsz hc
  simp only [Region.linearise.go,List.reverse_nil]
  refine ⟨fun i=>⟨fun ⟨h1,h2⟩=>?_,fun h=>by simp at h⟩,List.nodup_nil,fun a j b e=>by simp at e⟩
  have:=List.countP_eq_zero.1 (Nat.le_zero.1 hc) i (by simpa using h1)
  simp [h2] at this
 | succ fuel ih =>
  intro t listed hsz hc
  simp only [Region.linearise.go]
  change (∀ i,(i<ops.size∧listed.getD i true=false)↔i∈(match (Region.ready .any ops listed)[t % (Region.ready .any ops listed).length]? with
   | some i=>Region.linearise.go .any ops fuel (t / (Region.ready .any ops listed).length) (listed.setIfInBounds i true) [i]
   | none=>[].reverse))∧List.Nodup (match (Region.ready .any ops listed)[t % (Region.ready .any ops listed).length]? with
   | some i=>Region.linearise.go .any ops fuel (t / (Region.ready .any ops listed).length) (listed.setIfInBounds i true) [i]
   | none=>[].reverse)∧∀ a j b,(match (Region.ready .any ops listed)[t % (Region.ready .any ops listed).length]? with
   | some i=>Region.linearise.go .any ops fuel (t / (Region.ready .any ops listed).length) (listed.setIfInBounds i true) [i]
   | none=>[].reverse)=a++j::b→∀ o,ops[j]?=some o→∀ k∈ymI o,listed.getD k false=true∨k∈a
  have hready:∀ i,i∈Region.ready .any ops listed↔i<ops.size∧listed.getD i true=false∧∀ o,ops[i]?=some o→∀ k∈ymI o,listed.getD k false=true:=by
   intro i
   simp only [Region.ready,List.mem_filter,List.mem_range,qAc,qBb]
   refine and_congr_right fun hi=>and_congr_right fun hl=>?_
   have hoi:ops[i]?=some ops[i]:=by simp [hi]
   rw [hoi]
   simp only [Option.map_some,qB7,Array.all_eq_true',Bool.or_eq_true,qBb,qAd,forall_eq']
   constructor
   ·intro h k hk
    simp only [ymI,List.mem_filterMap] at hk
    obtain ⟨e,he,hk⟩:=hk
    split at hk
    ·rename_i hb
     cases hk
     rcases h e (by simpa using he) with h1 | h1
     ·rw [hb] at h1;cases h1
     ·exact h1
    ·cases hk
   ·intro h e he
    by_cases hb:Region.binds .any e=true
    ·right
     refine h e.on ?_
     simp only [ymI,List.mem_filterMap]
     exact ⟨e,by simpa using he,by rw [if_pos hb]⟩
    ·left;simpa using hb
  cases hi:(Region.ready .any ops listed)[t % (Region.ready .any ops listed).length]? with
  | none =>
   have hnil:Region.ready .any ops listed=[]:=by
    cases hr:Region.ready .any ops listed with
    | nil=>rfl
    | cons x xs =>
     rw [hr] at hi
     have hlt:t % (x::xs).length<(x::xs).length:=Nat.mod_lt _ (by simp)
     simp at hi
     simp at hlt
     omega
   simp only [List.reverse_nil]
   have none_left:∀ i,¬(i<ops.size∧listed.getD i true=false):=by
    intro i
    induction i using Nat.strongRecOn with
    | _ i ihi =>
     rintro ⟨h1,h2⟩
     have:i∈Region.ready .any ops listed:=(hready i).2 ⟨h1,h2,fun o ho k hk=>by
      have hki:=hback i o ho k hk
      have:=ihi k hki
      have hks:k<listed.size:=by omega
      have h3:listed.getD k true=true:=by
       cases h4:listed.getD k true
       ·exact absurd ⟨by omega,h4⟩ this
       ·rfl
      simpa [Array.getD,hks] using h3⟩
     rw [hnil] at this
     cases this
   exact ⟨fun i=>⟨fun h=>(none_left i h).elim,fun h=>by simp at h⟩,List.nodup_nil,fun a j b e=>by simp at e⟩
  | some i =>
   simp only []
   rw [linearise_go_acc,List.reverse_singleton,List.singleton_append]
   have him:=(hready i).1 (List.mem_of_getElem? hi)
   obtain ⟨hi1,hi2,hi3⟩:=him
   have hset:∀ k d,k≠i→(listed.setIfInBounds i true).getD k d=listed.getD k d:=by
    intro k d hk
    simp only [qBf,Array.getElem?_setIfInBounds]
    rw [if_neg (fun e=>hk e.symm)]
   have hself:∀ d,(listed.setIfInBounds i true).getD i d=true:=by
    intro d
    simp [hsz,hi1]
   have hcount:(List.range ops.size).countP (fun k=>!(listed.setIfInBounds i true).getD k true)≤fuel:=by
    have:=yGZ (p:=fun k=>!listed.getD k true) (q:=fun k=>!(listed.setIfInBounds i true).getD k true) (List.range ops.size) i (by simpa using hi1) (by simp [hi2]) (by simp [hself]) (fun j hj=>by
     by_cases e:j=i
     ·subst e;simp [hself] at hj
     ·rw [hset j true e] at hj;exact hj)
    omega
   obtain ⟨h1,h2,h3⟩:=ih (t / (Region.ready .any ops listed).length) (listed.setIfInBounds i true) (by simpa using hsz) hcount
   refine ⟨fun k=>?_,?_,?_⟩
   ·rw [qAv,← h1 k]
    by_cases e:k=i
    ·subst e;simp [hi1,hi2]
    ·rw [hset k true e];simp [e]
   ·rw [List.nodup_cons]
    refine ⟨fun hm=>?_,h2⟩
    have:=(h1 i).2 hm
    rw [hself] at this
    cases this.2
   ·intro a j b e o ho k hk
    cases a with
    | nil =>
     simp only [qB3,qAx] at e
     obtain ⟨rfl,_⟩:=e
     exact .inl (hi3 o ho k hk)
    | cons x a =>
     simp only [List.cons_append,qAx] at e
     obtain ⟨rfl,e⟩:=e
     rcases h3 a j b e o ho k hk with h4 | h4
     ·by_cases hki:k=i
      ·subst hki;right;simp
      ·rw [hset k false hki] at h4;exact .inl h4
     ·right;simp [h4]
end Go.Pf
namespace Go.Pf
open Go
def AgF (l:List Nat) (F F':Frm):Prop:=∀ s∈l,fget F' s=fget F s
theorem yoW {a b:List Nat} {F F':Frm}:AgF (a++b) F F'↔AgF a F F'∧AgF b F F':=by
 simp only [AgF,qA9]
 exact ⟨fun h=>⟨fun s hs=>h s (.inl hs),fun s hs=>h s (.inr hs)⟩,fun h s hs=>hs.elim (h.1 s) (h.2 s)⟩
section
variable {E:Env} {F F':Frm} {H H' H1:Hp} {call:Nat→List PV→Hp→Option (PV×Hp)}
theorem yG0 {x:Opd} (h:AgF x.slots F F'):ev E F' x=ev E F x:=by
 cases x with
 | t s=>simp only [ev,h s (by simp [Opd.slots])]
 | _=>rfl
theorem ydl {x:Opd} (h:AgF x.slots F F'):evV E F' x=evV E F x:=by
 simp only [evV,yG0 h]
theorem yoX {x:Opd} (h:AgF x.slots F F'):ylA E F' x=ylA E F x:=by
 simp only [ylA,ydl h]
theorem yL1 {x:Option Opd} (h:AgF (yHS x) F F'):evO E F' x=evO E F x:=by
 cases x with
 | none=>rfl
 | some x=>simp only [evO,yoX (show AgF x.slots F F' from h)]
theorem yDC:∀ (l:List Opd),AgF (yxc l) F F'→evs E F' l=evs E F l
 | [],_=>rfl
 | x::r,h=>by
  simp only [yxc,yoW] at h
  simp only [evs,ydl h.1,yDC r h.2]
theorem yJM:∀ (l:List (Nat×Nat×Opd)) (cs:List PV),AgF (yHT l) F F'→ytK E F' cs l=ytK E F cs l
 | [],_,_=>rfl
 | (o,z,x)::r,cs,h=>by
  simp only [yHT,yoW] at h
  simp only [ytK,ydl h.1]
  split
  ·split
   ·exact yJM r _ h.2
   ·rfl
  ·rfl
theorem yyM {pu:Bool} {esz:Nat}:∀ (l:List (Nat×Opd)) (rows:List PV) (H:Hp),AgF (yAz l) F F'→ynV E F' pu esz rows H l=ynV E F pu esz rows H l
 | [],_,_,_=>rfl
 | (i,x)::r,rows,H,h=>by
  simp only [yAz,yoW] at h
  simp only [ynV,ydl h.1]
  split
  ·split
   ·split
    ·exact yyM r _ _ h.2
    ·rfl
   ·rfl
  ·rfl
theorem yS7 {x:Opd} {s off:Nat} (h:AgF (yyy E F x) F F') (e:ev E F x=some (.bp s off)):fget F' s=fget F s:=by
 apply h
 simp [yyy,e]
theorem yJN {op:AOp} (h:AgF (fpOp E F H op).rd F F'):yap E call F' H op=yap E call F H op:=by
 cases op <;> simp only [fpOp,yoW] at h <;> simp only [yap]
 case mv x=>simp only [ydl h]
 case pick c a b=>simp only [ydl h.1,ydl h.2.1,ydl h.2.2]
 case boxL x=>simp only [ydl h]
 case boxH x=>simp only [ydl h]
 case build ps=>simp only [yJM _ _ h]
 case buildSl ps=>simp only [yyM _ _ _ h]
 case buildN ps=>simp only [yyM _ _ _ h]
 case buildD ps=>simp only [yyM _ _ _ h]
 case load agg sz x =>
  rw [yG0 h.1]
  split
  ·rename_i s off e
   rw [yS7 h.2 e]
  all_goals simp_all
 case store sz x y =>
  rw [ydl h.2.1,yG0 h.1]
  split
  ·split
   ·rename_i s off e
    rw [yS7 h.2.2 e]
   all_goals simp_all
  ·rfl
 case bin x y=>simp only [ydl h.1,ydl h.2]
 case eqB x y=>simp only [ydl h.1,ydl h.2]
 case eqA x y=>simp only [ydl h.1,ydl h.2]
 case eqN x=>simp only [ydl h]
 case un x=>simp only [ydl h]
 case conv x=>simp only [ydl h]
 case mkFn a b=>simp only [yDC _ h.1,yDC _ h.2]
 case mkSl l c=>simp only [yoX h.1,yoX h.2]
 case slc x lo hi mx=>simp only [ydl h.1,yL1 h.2.1,yL1 h.2.2.1,yL1 h.2.2.2]
 case fad x=>simp only [yG0 h.1]
 case fld x=>simp only [ydl h]
 case iad x i=>simp only [ydl h.1,yoX h.2]
 case iadA x i=>simp only [yG0 h.1,yoX h.2.1]
 case idx x i=>simp only [ydl h.1,yoX h.2]
 case ext x i=>simp only [ydl h]
 case call f as=>simp only [ydl h.1,yDC _ h.2]
 case len x=>simp only [ydl h]
 case cap x=>simp only [ydl h]
 case app s x=>simp only [ydl h.1,ydl h.2]
 case appZ s n=>simp only [ydl h.1,yoX h.2]
 case clr x=>simp only [ydl h]
 case minmax l=>simp only [yDC _ h]
 case nilchk x=>simp only [yG0 h.1]
structure EffI (ids:List Nat) (H H1 H' H1':Hp):Prop where
 inn:∀ id∈ids,H1'[id]?=H1[id]?
 out:∀ id,id∉ids→H1[id]?=H[id]?∧H1'[id]?=H'[id]?
 len:H1.length=H.length∧H1'.length=H'.length
theorem EffI.refl {ids:List Nat} (h:∀ id∈ids,H'[id]?=H[id]?):EffI ids H H H' H':=⟨h,fun _ _=>⟨rfl,rfl⟩,rfl,rfl⟩
theorem EffI.trans {ids:List Nat} {H1' H2 H2':Hp} (h:EffI ids H H1 H' H1') (k:EffI ids H1 H2 H1' H2'):EffI ids H H2 H' H2' :=
 ⟨k.inn,fun id hi=>⟨(k.out id hi).1.trans (h.out id hi).1,(k.out id hi).2.trans (h.out id hi).2⟩,k.len.1.trans h.len.1,k.len.2.trans h.len.2⟩
theorem EffI.mono {ids ids':List Nat} {H1':Hp} (h:EffI ids H H1 H' H1') (hs:∀ id∈ids,id∈ids') (ha:∀ id∈ids',H'[id]?=H[id]?):EffI ids' H H1 H' H1':=by
 refine ⟨fun id hi=>?_,fun id hi=>h.out id (fun hx=>hi (hs id hx)),h.len⟩
 by_cases hx:id∈ids
 ·exact h.inn id hx
 ·rw [(h.out id hx).1,(h.out id hx).2];exact ha id hi
theorem EffI.set {ids:List Nat} {id:Nat} {b:HB} (ha:∀ i∈ids,H'[i]?=H[i]?) (hi:id∈ids):EffI ids H (H.set id b) H' (H'.set id b):=by
 refine ⟨fun k hk=>?_,fun k hk=>?_,by simp,by simp⟩
 ·rw [List.getElem?_set,List.getElem?_set]
  have hlen:id<H'.length↔id<H.length:=by
   have:=ha id hi
   constructor <;> intro h1
   ·rcases qA1 id H.length with h2 | h2
    ·exact h2
    ·rw [qAi h2,qAb h1] at this;cases this
   ·rcases qA1 id H'.length with h2 | h2
    ·exact h2
    ·rw [qAi h2,qAb h1] at this;cases this
  split
  ·simp only [hlen]
  ·exact ha k hk
 ·have hne:id≠k:=fun e=>hk (e ▸ hi)
  rw [qB6 hne,qB6 hne];exact ⟨rfl,rfl⟩
theorem yyN {p q:PV} (ha:∀ id∈ids1 p,H'[id]?=H[id]?) (h:yiJ H p=some (q,H1)):∃ H1',yiJ H' p=some (q,H1')∧EffI (ids1 p) H H1 H' H1':=by
 cases p <;> simp only [yiJ] at h ⊢ <;> first
  | (simp only [qAd,Prod.mk.injEq] at h;obtain ⟨rfl,rfl⟩:=h;exact ⟨_,rfl,EffI.refl ha⟩)
  | (cases h;done)
  | skip
 case own id lo len ext cap =>
  have hid:=ha id (by simp [ids1])
  rw [hid]
  split at h
  ·rename_i b hb
   split at h
   ·rename_i hc
    cases h
    exact ⟨_,if_pos hc,EffI.set ha (by simp [ids1])⟩
   ·cases h
  ·cases h
theorem yyO:∀ (l ps:List PV) (H H' H1:Hp),(∀ id∈idsL l,H'[id]?=H[id]?)→ygC H l=some (ps,H1)→∃ H1',ygC H' l=some (ps,H1')∧EffI (idsL l) H H1 H' H1'
 | [],ps,H,H',H1,ha,h=>by
  simp only [ygC,qAd,Prod.mk.injEq] at h
  obtain ⟨rfl,rfl⟩:=h
  exact ⟨_,rfl,EffI.refl ha⟩
 | x::r,ps,H,H',H1,ha,h=>by
  simp only [ygC] at h
  split at h
  ·rename_i y H2 hy
   split at h
   ·rename_i ys H3 hys
    cases h
    have ha1:∀ id∈ids1 x,H'[id]?=H[id]?:=fun id hi=>ha id (by simp [idsL,hi])
    obtain ⟨H2',e2,k2⟩:=yyN ha1 hy
    have k2':EffI (idsL (x::r)) H H2 H' H2':=k2.mono (fun id hi=>by simp [idsL,hi]) ha
    obtain ⟨H3',e3,k3⟩:=yyO r ys H2 H2' _ (fun id hi=>k2'.inn id (by simp [idsL,hi])) hys
    refine ⟨H3',by simp only [ygC,e2,e3],k2'.trans (k3.mono (fun id hi=>by simp [idsL,hi]) k2'.inn)⟩
   ·cases h
  ·cases h
theorem ym7 {p q:PV} (ha:∀ id∈idsV p,H'[id]?=H[id]?) (h:ydL H p=some (q,H1)):∃ H1',ydL H' p=some (q,H1')∧EffI (idsV p) H H1 H' H1':=by
 cases p with
 | agg cs =>
  simp only [ydL,qA6] at h ⊢
  obtain ⟨⟨ys,H2⟩,hys,e⟩:=h
  cases e
  obtain ⟨H1',e1,k⟩:=yyO cs ys H H' _ ha hys
  exact ⟨H1',⟨⟨ys,H1'⟩,e1,rfl⟩,k⟩
 | _=>simp only [idsV] at ha ⊢;simp only [ydL] at h ⊢;exact yyN ha h
theorem ytc:∀ (l ps:List PV) (H2:Hp),idsA l=[]→ybt [] l=some (ps,H2)→∀ H,ybt H l=some (ps,H)
 | [],ps,H2,_,h,H=>by
  simp only [ybt,qAd,Prod.mk.injEq] at h
  obtain ⟨rfl,_⟩:=h
  rfl
 | x::r,ps,H2,hi,h,H=>by
  simp only [idsA,List.append_eq_nil_iff] at hi
  simp only [ybt] at h
  split at h
  ·rename_i y H3 hy
   split at h
   ·rename_i ys H4 hys
    cases h
    have hp:∀ H,ydL H x=some (y,H):=by
     intro H
     obtain ⟨H5,e5,k5⟩:=ym7 (H':=H) (fun id hx=>by rw [hi.1] at hx;cases hx) hy
     have:H5=H:=qBc fun k=>(k5.out k (by rw [hi.1];simp)).2
     rw [e5,this]
    have h3:H3=[]:=by have:=hp [];rw [hy] at this;cases this;rfl
    subst h3
    simp only [ybt,hp H,ytc r ys _ hi.2 hys H]
   ·cases h
  ·cases h
structure Eff (p:FP) (H H1 H' H1':Hp):Prop where
 all:p.all=true→H1'=H1
 inn:p.all=false→∀ id∈p.hw,H1'[id]?=H1[id]?
 out:p.all=false→∀ id,id∉p.hw→H1[id]?=H[id]?∧H1'[id]?=H'[id]?
 push:p.push=true→H1'.length=H1.length
 len:p.push=false→p.all=false→H1.length=H.length∧H1'.length=H'.length
structure AgH (p:FP) (H H':Hp):Prop where
 ids:∀ id,id∈p.hr∨id∈p.hw→H'[id]?=H[id]?
 push:p.push=true→H'.length=H.length
 all:p.all=true→H'=H
theorem Eff.same {p:FP} (ha:AgH p H H'):Eff p H H H' H' :=
 ⟨fun h=>ha.all h,fun _ id hi=>ha.ids id (.inr hi),fun _ _ _=>⟨rfl,rfl⟩,fun h=>ha.push h,fun _ _=>⟨rfl,rfl⟩⟩
theorem Eff.ofI {p:FP} {H1':Hp} (hall:p.all=false) (ha:AgH p H H') (k:EffI p.hw H H1 H' H1'):Eff p H H1 H' H1' :=
 ⟨fun h=>(by rw [hall] at h;cases h),fun _=>k.inn,fun _=>k.out,fun h=>by rw [k.len.1,k.len.2];exact ha.push h,fun _ _=>k.len⟩
theorem Eff.pushI {p:FP} {H1':Hp} {b:HB} (hall:p.all=false) (hp:p.push=true) (hlen:H.length∈p.hw) (ha:AgH p H H') (k:EffI p.hw H H1 H' H1'):Eff p H (H1++[b]) H' (H1'++[b]):=by
 have hl:=ha.push hp
 obtain ⟨l1,l2⟩:=k.len
 refine ⟨fun h=>(by rw [hall] at h;cases h),fun _ id hi=>?_,fun _ id hi=>?_,fun _=>by simp [l1,l2,hl],fun h=>(by rw [hp] at h;cases h)⟩
 ·rw [qA5,qA5,l1,l2,hl]
  split
  ·exact k.inn id hi
  ·rfl
 ·have hne:id≠H.length:=fun e=>hi (e ▸ hlen)
  obtain ⟨h1,h2⟩:=k.out id hi
  rw [qA5,qA5,l1,l2,hl]
  by_cases hlt:id<H.length
  ·rw [if_pos hlt,if_pos hlt];exact ⟨h1,h2⟩
  ·rw [if_neg hlt,if_neg hlt]
   have e1:[b][id-H.length]?=none:=qAi (by simp;omega)
   rw [e1,qAi (l:=H) (by omega),qAi (l:=H') (by omega)]
   exact ⟨rfl,rfl⟩
theorem ysb {pu:Bool} {esz:Nat}:∀ (l:List (Nat×Opd)) (rows rows':List PV) (H H' H1:Hp),(∀ id∈ygG E F l,H'[id]?=H[id]?)→ynV E F pu esz rows H l=some (rows',H1) →
  ∃ H1',ynV E F pu esz rows H' l=some (rows',H1')∧EffI (ygG E F l) H H1 H' H1'
 | [],rows,rows',H,H',H1,ha,h=>by
  simp only [ynV,qAd,Prod.mk.injEq] at h
  obtain ⟨rfl,rfl⟩:=h
  exact ⟨_,rfl,EffI.refl ha⟩
 | (i,x)::r,rows,rows',H,H',H1,ha,h=>by
  simp only [ynV] at h ⊢
  split at h
  ·rename_i p hp
   have hids:yjl E F x=idsV p:=by
    unfold evV at hp
    split at hp
    ·rename_i q hq;cases hp;simp [yjl,hq]
    ·cases hp
   have key:∀ {q H2},(if pu then ydL H p else some (p,H))=some (q,H2)→∃ H2',(if pu then ydL H' p else some (p,H'))=some (q,H2')∧EffI (ygG E F ((i,x)::r)) H H2 H' H2':=by
    intro q H2 hq
    cases pu
    ·simp only [qAp,if_false,qAd,Prod.mk.injEq] at hq ⊢
     obtain ⟨rfl,rfl⟩:=hq
     exact ⟨H',⟨rfl,rfl⟩,EffI.refl ha⟩
    ·simp only [if_true] at hq ⊢
     obtain ⟨H2',e,k⟩:=ym7 (H':=H') (fun id hi=>ha id (by simp [ygG,hids,hi])) hq
     exact ⟨H2',e,k.mono (fun id hi=>by simp [ygG,hids,hi]) ha⟩
   split at h
   ·rename_i q H2 hq
    split at h
    ·rename_i hc
     obtain ⟨H2',e2,k2⟩:=key hq
     obtain ⟨H3',e3,k3⟩:=ysb r _ rows' H2 H2' H1 (fun id hi=>k2.inn id (by simp [ygG,hi])) h
     refine ⟨H3',?_,k2.trans (k3.mono (fun id hi=>by simp [ygG,hi]) k2.inn)⟩
     rw [e2]
     simp only [hc]
     exact e3
    ·cases h
   ·cases h
  ·cases h
theorem yj2 {x:Opd} {p:PV} (h:evV E F x=some p):yjl E F x=idsV p:=by
 unfold evV at h
 split at h
 ·rename_i q hq;cases h;simp [yjl,hq]
 ·cases h
theorem yJO {p:PV} (ha:∀ id∈idsV p,H'[id]?=H[id]?):ylG H' p=ylG H p:=by
 cases p <;> simp only [ylG]
 case own id lo len ext cap=>rw [ha id (by simp [idsV,ids1])]
theorem yL2 {p:PV} {pu:Bool} (ha:∀ id∈idsV p,H'[id]?=H[id]?):ywq H' pu p=ywq H pu p:=by
 cases p <;> simp only [ywq]
 case own id lo len ext cap=>rw [ha id (by simp [idsV,ids1])]
theorem yJP {p:PV} {esz:Nat} {lo hi mx:Option Int} (ha:∀ id∈idsV p,H'[id]?=H[id]?):ylH H' esz lo hi mx p=ylH H esz lo hi mx p:=by
 cases p <;> simp only [ylH]
 case own id lo0 len ext cap=>rw [ha id (by simp [idsV,ids1])]
theorem ymJ {p:FP} {pu:Bool} {esz bytes:Nat} {rows:List PV} {r:PV} (hall:p.all=false) (hp:p.push=true) (hlen:H.length∈p.hw) (ha:AgH p H H') (h:yfa H pu esz bytes rows=some (r,H1)) :
  ∃ H1',yfa H' pu esz bytes rows=some (r,H1')∧Eff p H H1 H' H1':=by
 unfold yfa at h ⊢
 split at h
 ·rename_i hc
  cases h
  rw [if_pos hc,ha.push hp]
  exact ⟨_,rfl,Eff.pushI hall hp hlen ha (EffI.refl fun id hi=>ha.ids id (.inr hi))⟩
 ·cases h
theorem yOw {p:FP} {pu:Bool} {esz bytes k:Nat} {z s r:PV} (hall:p.all=false) (hp:p.push=true) (hlen:H.length∈p.hw) (ha:AgH p H H') (h:appZ H pu esz bytes z s k=some (r,H1)) :
  ∃ H1',appZ H' pu esz bytes z s k=some (r,H1')∧Eff p H H1 H' H1':=by
 unfold appZ at h ⊢
 split at h
 ·split at h
  ·rename_i he;cases h;rw [if_pos he];exact ⟨_,rfl,Eff.same ha⟩
  ·rename_i he;rw [if_neg he];exact ymJ hall hp hlen ha h
 ·cases h
theorem yOx {p:FP} {pu:Bool} {esz:Nat} {z s:PV} (hall:p.all=false) (hs:∀ id∈idsV s,id∈p.hw) (ha:AgH p H H') (h:clrV H pu esz z s=some H1) :
  ∃ H1',clrV H' pu esz z s=some H1'∧Eff p H H1 H' H1':=by
 unfold clrV at h ⊢
 split at h
 ·cases h;exact ⟨_,rfl,Eff.same ha⟩
 ·cases h;exact ⟨_,rfl,Eff.same ha⟩
 ·cases h;exact ⟨_,rfl,Eff.same ha⟩
 ·rename_i id lo len ext cap
  have hm:id∈p.hw:=hs id (by simp [idsV,ids1])
  split at h
  ·cases h;exact ⟨_,rfl,Eff.same ha⟩
  ·rw [ha.ids id (.inr hm)]
   split at h
   ·rename_i b hb
    split at h
    ·rename_i hc
     cases h
     rw [if_pos hc]
     exact ⟨_,rfl,Eff.ofI hall ha (EffI.set (fun k hk=>ha.ids k (.inr hk)) hm)⟩
    ·cases h
   ·cases h
 ·cases h
theorem yOy {p:FP} {pu:Bool} {esz bytes:Nat} {s x r:PV} (hall:p.all=false) (hp:p.push=true) (hlen:H.length∈p.hw) (hs:∀ id∈idsV s,id∈p.hw) (hx:∀ id∈idsV x,id∈p.hw) (ha:AgH p H H') (h:appV H pu esz bytes s x=some (r,H1)) :
  ∃ H1',appV H' pu esz bytes s x=some (r,H1')∧Eff p H H1 H' H1':=by
 have has:∀ id∈idsV s,H'[id]?=H[id]?:=fun id hi=>ha.ids id (.inr (hs id hi))
 have hax:∀ id∈idsV x,H'[id]?=H[id]?:=fun id hi=>ha.ids id (.inr (hx id hi))
 unfold appV at h ⊢
 rw [yJO hax,yL2 hax]
 split at h
 ·cases h
 ·rename_i ys hys
  split at h
  ·rename_i hc
   rw [if_pos hc]
   cases s with
   | nils =>
    simp only [] at h ⊢
    split at h
    ·rename_i he;cases h;rw [if_pos he];exact ⟨_,rfl,Eff.same ha⟩
    ·rename_i he;rw [if_neg he];exact ymJ hall hp hlen ha h
   | emp =>
    simp only [] at h ⊢
    split at h
    ·rename_i he;cases h;rw [if_pos he];exact ⟨_,rfl,Eff.same ha⟩
    ·rename_i he;rw [if_neg he];exact ymJ hall hp hlen ha h
   | own id lo len ext cap =>
    simp only [] at h ⊢
    rw [has id (by simp [idsV,ids1])]
    split at h
    ·rename_i b hb
     split at h
     ·rename_i hc2
      rw [if_pos hc2]
      split at h
      ·rename_i he;cases h;rw [if_pos he];exact ⟨_,rfl,Eff.same ha⟩
      ·rename_i he
       rw [if_neg he]
       have hset:∀ b',Eff p H (H.set id b') H' (H'.set id b'):=fun b'=>Eff.ofI hall ha (EffI.set (fun k hk=>ha.ids k (.inr hk)) (hs id (by simp [idsV,ids1])))
       unfold ykB at h ⊢
       split at h
       ·split at h
        ·rename_i h1
         split at h
         ·rename_i h2;cases h;rw [if_pos h1,if_pos h2];exact ⟨_,rfl,hset _⟩
         ·cases h
        ·rename_i h1
         rw [if_neg h1]
         exact ymJ hall hp hlen ha h
       ·split at h
        ·cases h
        ·rename_i h1
         rw [if_neg h1]
         split at h
         ·rename_i h2;cases h;rw [if_pos h2];exact ⟨_,rfl,hset _⟩
         ·rename_i h2
          split at h
          ·rename_i h3;cases h;rw [if_neg h2,if_pos h3];exact ⟨_,rfl,hset _⟩
          ·cases h
     ·cases h
    ·cases h
   | _=>simp only [] at h;cases h
  ·cases h
end
end Go.Pf
namespace Go.Pf
open Go
section
variable {E:Env} {F F':Frm} {H H' H1:Hp} {call:Nat→List PV→Hp→Option (PV×Hp)}
theorem yih {p:PV} {out:Out} (h:outV p H=some out):out=⟨some (.v p),none,H⟩:=by
 simp only [outV,qAd] at h;exact h.symm
theorem ynY {p:FP} {x:PV} {out:Out} (ha:AgH p H H') (h:outV x H=some out):∃ H1',outV x H'=some ⟨out.x,out.bx,H1'⟩∧Eff p H out.h H' H1':=by
 rw [yih h];exact ⟨H',rfl,Eff.same ha⟩
theorem yJQ {f:Opd} {as:List Opd} {fv:PV} {av:List PV} {r:PV} {H1:Hp} (hq:ykm E F f as=true) (hf:evV E F f=some fv) (hav:evs E F as=some av) (hc:ynW E call fv av H=some (r,H1)):H1=H∧∀ H',ynW E call fv av H'=some (r,H'):=by
 unfold ykm at hq
 rw [hf,hav] at hq
 split at hq
 ·rename_i n first captured vs h1 h2
  cases h1;cases h2
  simp only [qAc,List.isEmpty_iff,Bool.or_eq_true,qBb] at hq
  obtain ⟨hrb,hi,hs⟩:=hq
  have key:∃ ps H2,ybt [] (first++av++captured)=some (ps,H2)∧∃ r',ybv E call n ps=some r':=by
   rcases hs with hs | hs
   ·simp only [ynW,hrb,qAp,if_false] at hc
    split at hc
    ·rename_i x hx
     split at hx
     ·rename_i as' H3 hp
      split at hx
      ·rename_i r' hr'
       have:∃ H2,ybt [] (first++av++captured)=some (as',H2):=by
        have hgo:∀ (l ps:List PV) (H H2:Hp),idsA l=[]→ybt H l=some (ps,H2)→∃ H3,ybt [] l=some (ps,H3):=by
         intro l
         induction l with
         | nil=>intro ps H H2 _ e;simp only [ybt,qAd,Prod.mk.injEq] at e;exact ⟨[],by simp [ybt,e.1]⟩
         | cons x r ih =>
          intro ps H H2 hi e
          simp only [idsA,List.append_eq_nil_iff] at hi
          simp only [ybt] at e
          split at e
          ·rename_i y H4 hy
           split at e
           ·rename_i ys H5 hys
            cases e
            obtain ⟨H6,e6,k6⟩:=ym7 (H':=[]) (fun id hx=>by rw [hi.1] at hx;cases hx) hy
            have h6:H6=[]:=qAh (by rw [k6.len.2];rfl)
            subst h6
            obtain ⟨H7,e7⟩:=ih ys _ _ hi.2 hys
            exact ⟨H7,by simp only [ybt,e6,e7]⟩
           ·cases e
          ·cases e
        exact hgo _ _ _ _ hi hp
       obtain ⟨H2,h2⟩:=this
       exact ⟨as',H2,h2,r',hr'⟩
      ·cases hx
     ·cases hx
    ·rw [if_pos hs] at hc;cases hc
   ·split at hs
    ·rename_i ps H2 hp
     obtain ⟨r',hr'⟩:=Option.isSome_iff_exists.1 hs
     exact ⟨ps,H2,hp,r',by simp only [ybv,hr']⟩
    ·cases hs
  obtain ⟨ps,H2,hp,r',hr'⟩:=key
  have all:∀ H,ynW E call (.fn (.func n) first captured) av H=some (r',H):=by
   intro H
   have:=ytc _ _ _ hi hp H
   simp only [ynW,hrb,qAp,if_false,this,hr']
   cases r'.scalar <;> rfl
  rw [all H] at hc
  cases hc
  exact ⟨rfl,all⟩
 ·cases hq
theorem yL3 {op:AOp} {out:Out} (ha:AgH (fpOp E F H op) H H') (h:yap E call F H op=some out):∃ H1',yap E call F H' op=some ⟨out.x,out.bx,H1'⟩∧Eff (fpOp E F H op) H out.h H' H1':=by
 have single:∀ {x bx},out=⟨x,bx,H⟩→(∃ H1',(some ⟨x,bx,H'⟩:Option Out)=some ⟨out.x,out.bx,H1'⟩∧Eff (fpOp E F H op) H out.h H' H1'):=by
  rintro x bx rfl;exact ⟨H',rfl,Eff.same ha⟩
 have shut:∀ {o:Out},some o=some out→o=out:=fun e=>by cases e;rfl
 cases op
 case allocH pu esz z =>
  simp only [yap,qAd] at h ⊢
  subst h
  have hl:=ha.push rfl
  rw [hl]
  exact ⟨_,rfl,Eff.pushI rfl rfl (by simp [fpOp]) ha (EffI.refl fun id hi=>ha.ids id (.inr hi))⟩
 case boxH pu esz x =>
  simp only [yap] at h ⊢
  split at h
  ·rename_i p hp
   have hids:=yj2 hp
   have key:∀ {q H2},(if pu then ydL H p else some (p,H))=some (q,H2)→∃ H2',(if pu then ydL H' p else some (p,H'))=some (q,H2')∧EffI (fpOp E F H (.boxH pu esz x)).hw H H2 H' H2':=by
    intro q H2 hq
    cases pu
    ·simp only [qAp,if_false,qAd,Prod.mk.injEq] at hq ⊢
     obtain ⟨rfl,rfl⟩:=hq
     exact ⟨H',⟨rfl,rfl⟩,EffI.refl fun id hi=>ha.ids id (.inr hi)⟩
    ·simp only [if_true] at hq ⊢
     obtain ⟨H2',e,k⟩:=ym7 (H':=H') (fun id hi=>ha.ids id (.inr (by simp [fpOp,hids,hi]))) hq
     exact ⟨H2',e,k.mono (fun id hi=>by simp [fpOp,hids,hi]) fun id hi=>ha.ids id (.inr hi)⟩
   split at h
   ·rename_i q H2 hq
    split at h
    ·rename_i hc
     cases h
     obtain ⟨H2',e2,k2⟩:=key hq
     have hl:=ha.push rfl
     rw [e2]
     simp only []
     rw [if_pos hc]
     have:H2'.length=H2.length:=by rw [k2.len.1,k2.len.2,hl]
     rw [this]
     exact ⟨_,rfl,Eff.pushI rfl rfl (by simp [fpOp]) ha k2⟩
    ·cases h
   ·cases h
  ·cases h
 case buildSl pu esz z len ps =>
  simp only [yap] at h ⊢
  split at h
  ·rename_i hz
   rw [if_pos hz]
   exact ynY ha h
  ·rename_i hz
   rw [if_neg hz]
   have hw:(fpOp E F H (.buildSl pu esz z len ps)).hw=H.length::ygG E F ps:=by simp [fpOp,hz]
   have hpush:(fpOp E F H (.buildSl pu esz z len ps)).push=true:=by simp [fpOp,hz]
   split at h
   ·rename_i rows H2 hf
    rw [yih h]
    obtain ⟨H2',e2,k2⟩:=ysb _ _ _ _ H' _ (fun id hi=>ha.ids id (.inr (by rw [hw];simp [hi]))) hf
    have hl:=ha.push hpush
    rw [e2]
    have:H2'.length=H2.length:=by rw [k2.len.1,k2.len.2,hl]
    simp only [this]
    exact ⟨_,rfl,Eff.pushI rfl hpush (by rw [hw];simp) ha (k2.mono (fun id hi=>by rw [hw];simp [hi]) fun id hi=>ha.ids id (.inr hi))⟩
   ·cases h
 case buildN pu esz z len ps =>
  simp only [yap] at h ⊢
  split at h
  ·rename_i hz
   rw [if_pos hz]
   exact ynY ha h
  ·rename_i hz
   rw [if_neg hz]
   have hw:(fpOp E F H (.buildN pu esz z len ps)).hw=H.length::ygG E F ps:=by simp [fpOp,hz]
   have hpush:(fpOp E F H (.buildN pu esz z len ps)).push=true:=by simp [fpOp,hz]
   split at h
   ·rename_i rows H2 hf
    rw [yih h]
    obtain ⟨H2',e2,k2⟩:=ysb _ _ _ _ H' _ (fun id hi=>ha.ids id (.inr (by rw [hw];simp [hi]))) hf
    have hl:=ha.push hpush
    rw [e2]
    have:H2'.length=H2.length:=by rw [k2.len.1,k2.len.2,hl]
    simp only [this]
    exact ⟨_,rfl,Eff.pushI rfl hpush (by rw [hw];simp) ha (k2.mono (fun id hi=>by rw [hw];simp [hi]) fun id hi=>ha.ids id (.inr hi))⟩
   ·cases h
 case buildD esz z len ps =>
  simp only [yap] at h ⊢
  split at h
  ·rename_i hz
   rw [if_pos hz]
   exact ynY ha h
  ·rename_i hz
   rw [if_neg hz]
   split at h
   ·rename_i rows H2 hf
    rw [yih h]
    obtain ⟨H2',e2,k2⟩:=ysb _ _ _ _ H' _ (fun id hi=>ha.ids id (.inr (by simpa [fpOp] using hi))) hf
    rw [e2]
    exact ⟨_,rfl,Eff.ofI rfl ha (k2.mono (fun id hi=>by simpa [fpOp] using hi) fun id hi=>ha.ids id (.inr hi))⟩
   ·cases h
 case mkSl pu esz bytes z l c =>
  simp only [yap] at h ⊢
  split at h
  ·split at h
   ·rename_i hc
    rw [if_pos hc,yih h,ha.push rfl]
    exact ⟨_,rfl,Eff.pushI rfl rfl (by simp [fpOp]) ha (EffI.refl fun id hi=>ha.ids id (.inr hi))⟩
   ·cases h
  ·cases h
 case load agg sz x =>
  simp only [yap] at h ⊢
  split at h
  ·split at h
   ·split at h
    ·exact ynY ha h
    ·cases h
   ·cases h
  ·split at h
   ·split at h
    ·exact ynY ha h
    ·cases h
   ·cases h
  ·rename_i id ext i off he
   have hid:H'[id]?=H[id]?:=ha.ids id (.inl (by simp [fpOp,yjl,he,idsV,ids1]))
   rw [hid]
   split at h
   ·split at h
    ·rename_i hc
     rw [if_pos hc]
     split at h
     ·split at h
      ·exact ynY ha h
      ·cases h
     ·cases h
    ·cases h
   ·cases h
  ·cases h
 case store sz x y =>
  simp only [yap] at h ⊢
  split at h
  ·rename_i p hp
   split at h
   ·split at h
    ·split at h
     ·exact single (shut h).symm
     ·cases h
    ·cases h
   ·rename_i id ext i off he
    have hidm:id∈(fpOp E F H (.store sz x y)).hw:=by simp [fpOp,yjl,he,idsV,ids1]
    have hid:H'[id]?=H[id]?:=ha.ids id (.inr hidm)
    rw [hid]
    split at h
    ·rename_i b0 hb0
     have hids:=yj2 hp
     have key:∀ {q H2},(if b0.pu then ydL H p else some (p,H))=some (q,H2)→∃ H2',(if b0.pu then ydL H' p else some (p,H'))=some (q,H2')∧EffI (fpOp E F H (.store sz x y)).hw H H2 H' H2':=by
      intro q H2 hq
      by_cases hpu:b0.pu=true
      case neg =>
       rw [if_neg hpu] at hq ⊢
       simp only [qAd,Prod.mk.injEq] at hq ⊢
       obtain ⟨rfl,rfl⟩:=hq
       exact ⟨H',⟨rfl,rfl⟩,EffI.refl fun id hi=>ha.ids id (.inr hi)⟩
      case pos =>
       rw [if_pos hpu] at hq ⊢
       obtain ⟨H2',e,k⟩:=ym7 (H':=H') (fun id hi=>ha.ids id (.inr (by simp [fpOp,hids,hi]))) hq
       exact ⟨H2',e,k.mono (fun id hi=>by simp [fpOp,hids,hi]) fun id hi=>ha.ids id (.inr hi)⟩
     split at h
     ·rename_i q H2 hq
      obtain ⟨H2',e2,k2⟩:=key hq
      rw [e2]
      simp only []
      rw [k2.inn id hidm]
      split at h
      ·rename_i b hb
       split at h
       ·rename_i hc
        rw [if_pos hc]
        split at h
        ·split at h
         ·cases h
          exact ⟨_,rfl,Eff.ofI rfl ha (k2.trans (EffI.set k2.inn hidm))⟩
         ·cases h
        ·cases h
       ·cases h
      ·cases h
     ·cases h
    ·cases h
   ·cases h
  ·cases h
 case slc esz x lo hi mx =>
  simp only [yap] at h ⊢
  split at h
  ·rename_i p l hh m hp _ _ _
   split at h
   ·cases h
   ·rename_i hc
    rw [if_neg hc,yJP (fun id hi=>ha.ids id (.inl (by simp [fpOp,yj2 hp,hi])))]
    split at h
    ·exact ynY ha h
    ·cases h
  ·cases h
 case iad esz x i =>
  simp only [yap] at h ⊢
  split at h
  ·split at h
   ·rename_i hc
    rw [if_pos hc]
    split at h
    ·split at h
     ·rename_i hc2;rw [if_pos hc2];exact ynY ha h
     ·cases h
    ·cases h
   ·cases h
  ·rename_i id lo len ext cap n hp hn
   have hid:H'[id]?=H[id]?:=ha.ids id (.inl (by simp [fpOp,yj2 hp,idsV,ids1]))
   split at h
   ·rename_i hc
    rw [if_pos hc,hid]
    split at h
    ·split at h
     ·rename_i hc2;rw [if_pos hc2];exact ynY ha h
     ·cases h
    ·cases h
   ·cases h
  ·cases h
 case call f as =>
  by_cases hq:ykm E F f as=true
  ·simp only [yap] at h ⊢
   split at h
   ·rename_i fv av hf hav
    split at h
    ·rename_i r H2 hc
     obtain ⟨rfl,hr⟩:=yJQ hq hf hav hc
     rw [hr]
     exact ynY ha h
    ·cases h
   ·cases h
  ·have hall:(fpOp E F H (.call f as)).all=true:=by simp [fpOp,hq]
   have:=ha.all hall
   subst this
   exact ⟨out.h,h,⟨fun _=>rfl,fun e=>(by rw [hall] at e;cases e),fun e=>(by rw [hall] at e;cases e),fun _=>rfl,fun _ e=>(by rw [hall] at e;cases e)⟩⟩
 case app pu esz bytes s x =>
  simp only [yap] at h ⊢
  split at h
  ·rename_i sv xv hs hx
   split at h
   ·rename_i r H2 hap
    obtain ⟨H2',e2,k2⟩:=yOy (H':=H') (p:=fpOp E F H (.app pu esz bytes s x)) rfl rfl (by simp [fpOp]) (fun id hi=>by simp [fpOp,yj2 hs,hi]) (fun id hi=>by simp [fpOp,yj2 hx,hi]) ha hap
    rw [e2,yih h]
    exact ⟨_,rfl,k2⟩
   ·cases h
  ·cases h
 case appZ pu esz bytes z s n =>
  simp only [yap] at h ⊢
  split at h
  ·rename_i sv k hs hn
   split at h
   ·rename_i h0
    rw [if_pos h0]
    split at h
    ·rename_i r H2 hap
     obtain ⟨H2',e2,k2⟩:=yOw (H':=H') (p:=fpOp E F H (.appZ pu esz bytes z s n)) rfl rfl (by simp [fpOp]) ha hap
     rw [e2,yih h]
     exact ⟨_,rfl,k2⟩
    ·cases h
   ·cases h
  ·cases h
 case clr pu esz z x =>
  simp only [yap] at h ⊢
  split at h
  ·rename_i sv hs
   split at h
   ·rename_i H2 hap
    obtain ⟨H2',e2,k2⟩:=yOx (H':=H') (p:=fpOp E F H (.clr pu esz z x)) rfl (fun id hi=>by simp [fpOp,yj2 hs,hi]) ha hap
    rw [e2,yih h]
    exact ⟨_,rfl,k2⟩
   ·cases h
  ·cases h
 case bad=>simp [yap] at h
 case eqB neg x y =>
  simp only [yap] at h ⊢
  split at h
  ·exact ynY ha h
  ·cases h
 case eqA neg sz idx x y =>
  simp only [yap] at h ⊢
  split at h
  ·split at h
   ·rename_i hc
    rw [if_pos hc]
    split at h
    ·exact ynY ha h
    ·cases h
   ·cases h
  ·cases h
 case idx agg n esz x i =>
  simp only [yap] at h ⊢
  split at h
  ·split at h
   ·rename_i hc
    rw [if_pos hc]
    split at h
    ·exact ynY ha h
    ·cases h
   ·cases h
  ·cases h
 case eqN neg x =>
  simp only [yap] at h ⊢
  split at h <;> first | exact ynY ha h | cases h
 all_goals
  simp only [yap] at h ⊢
  repeat' split at h
 all_goals first
  | (cases h;done)
  | exact ynY ha h
  | exact single (shut h).symm
  | (rename_i hc;rw [if_pos hc];first | exact ynY ha h | exact single (shut h).symm)
  | skip
theorem yR9 (op:AOp) (H H':Hp):(fpOp E F H op).rd=(fpOp E F H' op).rd:=by cases op <;> rfl
theorem yJR {op:AOp} {out:Out} {s:Nat} {row:PV} (h:yap E call F H op=some out) (hb:out.bx=some (s,row)):s∈(fpOp E F H op).wr∧∃ row0,fget F s=some (.box row0):=by
 have hv:∀ {p:PV} {H},outV p H=some out→False:=fun e=>by rw [yih e] at hb;cases hb
 cases op <;> simp only [yap] at h
 case store sz x y =>
  split at h
  ·split at h
   ·rename_i s' off e
    split at h
    ·rename_i row0 hrow
     split at h
     ·cases h
      simp only [qAd,Prod.mk.injEq] at hb
      obtain ⟨rfl,_⟩:=hb
      exact ⟨by simp [fpOp,yyy,e],row0,hrow⟩
     ·cases h
    ·cases h
   all_goals (repeat' split at h)
   all_goals first | (cases h;done) | (cases h;cases hb;done)
  ·cases h
 all_goals (repeat' split at h)
 all_goals first | (cases h;done) | exact (hv h).elim | (cases h;cases hb;done)
theorem yUi (op:AOp) (s:Nat) (h:s∈(fpOp E F H op).wr):s∈(fpOp E F H op).rd:=by
 cases op <;> simp only [fpOp] at h ⊢ <;> first | (cases h;done) | skip
 simp [h]
theorem yP2 {x:Opd} {s off:Nat} (h:ev E F x=some (.bp s off)):(∃ row,fget F s=some (.box row))∨noBp F s=false:=by
 cases x with
 | t k =>
  simp only [ev] at h
  split at h
  ·rename_i row hrow
   cases h
   exact .inl ⟨row,hrow⟩
  ·right
   have key:∀ F:Frm,fget F k=some (.bp s off)→noBp F s=false:=by
    intro F
    induction F with
    | nil=>intro e;simp [fget] at e
    | cons a r ih =>
     obtain ⟨j,x⟩:=a
     intro e
     simp only [fget] at e
     split at e
     ·cases e;simp [noBp]
     ·have:=ih e
      cases x <;> simp [noBp,this]
   exact key F h
 | c v=>simp [ev] at h
 | g n=>simp only [ev] at h;split at h <;> simp at h
 | f n=>simp [ev] at h
theorem yP3 {op:AOp} {out:Out} {s off:Nat} (h:yap E call F H op=some out) (hb:out.x=some (.bp s off)):(∃ row,fget F s=some (.box row))∨noBp F s=false:=by
 have hv:∀ {p:PV} {H},outV p H=some out→False:=fun e=>by rw [yih e] at hb;cases hb
 cases op <;> simp only [yap] at h
 case fad o x =>
  split at h
  ·rename_i s' o' e
   cases h
   simp only [qAd,FV.bp.injEq] at hb
   obtain ⟨rfl,_⟩:=hb
   exact yP2 e
  all_goals first | exact (hv h).elim | cases h
 case iadA n esz x i =>
  split at h
  ·rename_i s' o' j e _
   split at h
   ·cases h
    simp only [qAd,FV.bp.injEq] at hb
    obtain ⟨rfl,_⟩:=hb
    exact yP2 e
   ·cases h
  all_goals (repeat' split at h)
  all_goals first | exact (hv h).elim | cases h
 case nilchk x =>
  split at h
  ·rename_i s' o' e
   cases h
   simp only [qAd,FV.bp.injEq] at hb
   obtain ⟨rfl,_⟩:=hb
   exact yP2 e
  all_goals first | exact (hv h).elim | cases h
 all_goals (repeat' split at h)
 all_goals first | (cases h;done) | exact (hv h).elim | (cases h;cases hb;done)
theorem yOz {o:AOper} {out:Out} {row:PV} (h:yap E call F H o.op=some out) (hb:out.x=some (.box row)):yxd o=o.dst∧out.bx=none:=by
 have hv:∀ {p:PV} {H},outV p H=some out→False:=fun e=>by rw [yih e] at hb;cases hb
 unfold yxd
 cases hop:o.op <;> rw [hop] at h <;> simp only [yap] at h
 case allocL z=>cases h;exact ⟨rfl,rfl⟩
 case boxL x =>
  split at h
  ·split at h
   ·cases h;exact ⟨rfl,rfl⟩
   ·cases h
  ·cases h
 all_goals (repeat' split at h)
 all_goals first | (cases h;done) | exact (hv h).elim | (cases h;cases hb;done)
end
end Go.Pf
namespace Go.Pf
open Go Go.RowKit
section
variable {E:Env} {F F':Frm} {H H' H1:Hp} {call:Nat→List PV→Hp→Option (PV×Hp)}
theorem yOA {dst:Option Nat} {x:Option FV} {F1:Frm} (h:ykC F dst x=some F1) (hb:∀ row d,x=some (.box row)→dst=some d→noBp F d=true):yg3 F dst x=some F1:=by
 cases dst with
 | none=>cases x with
  | none=>exact h
  | some fv=>cases fv <;> exact h
 | some d=>cases x with
  | none=>exact h
  | some fv =>
   cases fv with
   | box row=>simp only [yg3];rw [yLL _ _ (hb row d rfl rfl)];exact h
   | _=>exact h
inductive Loc where
 | sl (s:Nat)
 | bk (id:Nat)
 | len
inductive LV where
 | f (x:Option FV)
 | b (x:Option HB)
 | n (k:Nat)
def look (S:Frm×Hp):Loc→LV
 | .sl s=>.f (fget S.1 s)
 | .bk id=>.b S.2[id]?
 | .len=>.n S.2.length
def RdP (p:FP):Loc→Prop
 | .sl s=>s∈p.rd
 | .bk id=>id∈p.hr∨id∈p.hw∨p.all=true
 | .len=>p.push=true∨p.all=true
def WrP (p:FP):Loc→Prop
 | .sl s=>s∈p.wr
 | .bk id=>id∈p.hw∨p.all=true
 | .len=>p.push=true∨p.all=true
theorem yJS {gd:Option (Nat×Bool)} (h:AgF (yAA gd) F F'):yfO F' gd=yfO F gd:=by
 cases gd with
 | none=>rfl
 | some x =>
  obtain ⟨s,want⟩:=x
  simp only [yfO,h s (by simp [yAA])]
theorem yxm (F:Frm) (bx:Option (Nat×PV)) (k:Nat):fget (yjG F bx) k=match bx with | some (s,row)=>if k=s then some (.box row) else fget F k | none=>fget F k:=by
 cases bx with
 | none=>rfl
 | some x=>obtain ⟨s,row⟩:=x;simp only [yjG,ygH]
theorem yOB {o:AOper} {S1:Frm×Hp} (h:ylB E call o (F,H)=some S1) (S':Frm×Hp) (hag:∀ l,RdP (ykD E F H o) l→look S' l=look (F,H) l) :
  ∃ T',ylB E call o S'=some T'∧(∀ l,WrP (ykD E F H o) l→look T' l=look S1 l)∧(∀ l,¬WrP (ykD E F H o) l→look T' l=look S' l):=by
 obtain ⟨F',H'⟩:=S'
 have hF:AgF (ykD E F H o).rd F F':=fun s hs=>by
  have:=hag (.sl s) hs
  simpa [look] using this
 unfold ylB at h ⊢
 simp only [] at h ⊢
 unfold ykD at hag hF ⊢
 split at h
 ·cases h
 ·-- the guard says no
  rename_i hg
  rw [hg] at hag hF ⊢
  simp only [] at hag hF ⊢
  rw [yJS hF,hg]
  simp only []
  cases hd:o.dst with
  | none =>
   rw [hd] at h
   cases h
   exact ⟨_,rfl,fun l hl=>by cases l <;> simp [WrP] at hl,fun _ _=>rfl⟩
  | some d =>
   rw [hd] at h
   cases h
   refine ⟨_,rfl,fun l hl=>?_,fun l hl=>?_⟩
   ·cases l <;> simp [WrP] at hl
    subst hl
    simp [look,ygH]
   ·cases l with
    | sl s =>
     simp [WrP] at hl
     simp [look,ygH,hl]
    | _=>rfl
 ·rename_i hg
  rw [hg] at hag hF ⊢
  simp only [] at hag hF ⊢
  rw [yoW] at hF
  rw [yJS hF.1,hg]
  simp only []
  split at h
  ·cases h
  ·rename_i out x bx H2 hout
   simp only [qA6] at h
   obtain ⟨F1,hput,e⟩:=h
   subst e
   have hall:(fpOp E F H o.op).all=true→H'=H:=fun ha=>qBc fun k=>by
    have:=hag (.bk k) (.inr (.inr ha))
    simpa [look] using this
   have hH:AgH (fpOp E F H o.op) H H':=by
    refine ⟨fun id hid=>?_,fun hp=>?_,hall⟩
    ·have:=hag (.bk id) (hid.elim .inl fun x=>.inr (.inl x))
     simpa [look] using this
    ·have:=hag .len (.inl hp)
     simpa [look] using this
   obtain ⟨H2',h1,h2⟩:=yL3 hH hout
   have h3:yap E call F' H' o.op=some ⟨x,bx,H2'⟩:=by
    rw [yJN (F:=F) (H:=H') (by rw [yR9 o.op H' H];exact hF.2)];exact h1
   rw [h3]
   simp only []
   have hput':∃ F1',ykC (yjG F' bx) o.dst x=some F1'∧(∀ s,s∈o.dst.toList++(fpOp E F H o.op).wr→fget F1' s=fget F1 s)∧(∀ s,s∉o.dst.toList++(fpOp E F H o.op).wr→fget F1' s=fget F' s):=by
    have hbx:∀ s row,bx=some (s,row)→s∈(fpOp E F H o.op).wr:=fun s row e=>(yJR hout e).1
    have hin:∀ s,s∈(fpOp E F H o.op).wr→fget (yjG F' bx) s=fget (yjG F bx) s:=by
     intro s hs
     rw [yxm,yxm]
     have:=hF.2 s (yUi _ _ hs)
     cases bx with
     | none=>exact this
     | some y=>obtain ⟨s',row⟩:=y;simp only [this]
    have hnin:∀ s,s∉(fpOp E F H o.op).wr→fget (yjG F' bx) s=fget F' s:=by
     intro s hs
     rw [yxm]
     cases bx with
     | none=>rfl
     | some y =>
      obtain ⟨s',row⟩:=y
      simp only []
      have hne:¬s=s':=fun e=>hs (e ▸ hbx s' row rfl)
      rw [if_neg hne]
    cases hdst:o.dst with
    | none =>
     rw [hdst] at hput
     have hx:∀ G:Frm,ykC G none x=some G:=by
      cases x with
      | none=>intro G;rfl
      | some fv=>cases fv with
       | box row=>simp [ykC] at hput
       | _=>intro G;rfl
     rw [hx] at hput
     cases hput
     refine ⟨_,hx _,fun s hs=>hin s (by simpa using hs),fun s hs=>hnin s (by simpa using hs)⟩
    | some d =>
     rw [hdst] at hput
     have key:∀ (G:Frm),∃ G1,ykC G (some d) x=some G1∧fget G1 d=x∧∀ s,s≠d→fget G1 s=fget G s:=by
      intro G
      cases x with
      | none=>exact ⟨_,rfl,by simp [ylJ],fun s hs=>by simp [ylJ,hs]⟩
      | some fv=>exact ⟨_,rfl,by simp [ygH],fun s hs=>by simp [ygH,hs]⟩
     obtain ⟨G1,k1,k2,k3⟩:=key (yjG F bx)
     rw [k1] at hput
     cases hput
     obtain ⟨G2,k4,k5,k6⟩:=key (yjG F' bx)
     refine ⟨G2,k4,fun s hs=>?_,fun s hs=>?_⟩
     ·by_cases e:s=d
      ·subst e;rw [k2,k5]
      ·rw [k6 s e,k3 s e]
       simp only [Option.toList_some,qA9,List.mem_singleton,e,false_or] at hs
       exact hin s hs
     ·simp only [Option.toList_some,qA9,List.mem_singleton,not_or] at hs
      rw [k6 s hs.1]
      exact hnin s hs.2
   obtain ⟨F1',e1,e2,e3⟩:=hput'
   rw [e1]
   refine ⟨(F1',H2'),rfl,fun l hl=>?_,fun l hl=>?_⟩
   ·cases l with
    | sl s=>simp only [WrP] at hl;simp only [look,e2 s hl]
    | bk id =>
     simp only [WrP] at hl
     simp only [look]
     rcases hl with hl | hl
     ·cases ha:(fpOp E F H o.op).all
      ·rw [h2.inn ha id hl]
      ·rw [h2.all ha]
     ·rw [h2.all hl]
    | len =>
     simp only [WrP] at hl
     simp only [look]
     rcases hl with hl | hl
     ·rw [h2.push hl]
     ·rw [h2.all hl]
   ·cases l with
    | sl s=>simp only [WrP] at hl;simp only [look,e3 s hl]
    | bk id =>
     simp only [WrP,not_or] at hl
     simp only [look]
     rw [(h2.out (by simpa using hl.2) id hl.1).2]
    | len =>
     simp only [WrP,not_or] at hl
     simp only [look]
     rw [(h2.len (by simpa using hl.1) (by simpa using hl.2)).2]
def stAt (E:Env) (call:Nat→List PV→Hp→Option (PV×Hp)):List AOper→Nat→Frm×Hp→Frm×Hp
 | [],_,S=>S
 | _::_,0,S=>S
 | o::r,i+1,S=>match ylB E call o S with
  | some S'=>stAt E call r i S'
  | none=>S
theorem yww:∀ (l:List AOper) (F:Frm) (H:Hp) (F':Frm) (H':Hp) (ps:List FP),ylI E call l F H=some (F',H',ps) →
  ps.length=l.length∧stAt E call l 0 (F,H)=(F,H)∧stAt E call l l.length (F,H)=(F',H') ∧
  ∀ (i:Nat) (o:AOper),l[i]?=some o→ylB E call o (stAt E call l i (F,H))=some (stAt E call l (i+1) (F,H))∧ps[i]?=some (ykD E (stAt E call l i (F,H)).1 (stAt E call l i (F,H)).2 o)
 | [],F,H,F',H',ps,h=>by
  simp only [ylI,qAd,Prod.mk.injEq] at h
  obtain ⟨rfl,rfl,rfl⟩:=h
  exact ⟨rfl,rfl,rfl,fun i o e=>by simp at e⟩
 | o::r,F,H,F',H',ps,h=>by
  simp only [ylI] at h
  split at h
  ·rename_i F1 H1 hs
   split at h
   ·rename_i F2 H2 ps' hr
    cases h
    obtain ⟨h1,h2,h3,h4⟩:=yww r F1 H1 F' H' ps' hr
    have hs':ylB E call o (F,H)=some (F1,H1):=hs
    refine ⟨by simp [h1],rfl,by simp only [qAs,stAt,hs'];exact h3,fun i o' e=>?_⟩
    cases i with
    | zero =>
     simp only [List.getElem?_cons_zero,qAd] at e
     subst e
     refine ⟨?_,rfl⟩
     have e0:stAt E call (o::r) 0 (F,H)=(F,H):=rfl
     have e1:stAt E call (o::r) (0+1) (F,H)=(F1,H1):=by simp only [stAt,hs'];exact h2
     rw [e0,e1]
     exact hs'
    | succ i =>
     simp only [List.getElem?_cons_succ] at e
     obtain ⟨h5,h6⟩:=h4 i o' e
     have e1:∀ k,stAt E call (o::r) (k+1) (F,H)=stAt E call r k (F1,H1):=fun k=>by simp only [stAt,hs']
     rw [e1,e1]
     exact ⟨h5,by simpa using h6⟩
   ·cases h
  ·cases h
theorem yg1 {a b:List Nat} (h:meets a b=false):∀ s∈a,s∉b:=by
 induction a with
 | nil=>intro s hs;simp at hs
 | cons x r ih =>
  simp only [meets,Bool.or_eq_false_iff] at h
  intro s hs
  rcases qAv.1 hs with rfl | hs
  ·intro hb
   have:=h.1
   simp [hb] at this
  ·exact ih h.2 s hs
theorem yFw {p q:FP} (h:yNm p q=false):∀ l,¬(WrP p l∧(RdP q l∨WrP q l))∧¬(WrP q l∧RdP p l):=by
 simp only [yNm,Bool.or_eq_false_iff] at h
 obtain ⟨⟨⟨⟨⟨⟨⟨⟨h1,h2⟩,h3⟩,h4⟩,h5⟩,h6⟩,h7⟩,h8⟩,h9⟩:=h
 have heapyP:p.heapy=false↔p.push=false∧p.all=false∧p.hr=[]∧p.hw=[]:=by
  simp [FP.heapy,and_assoc]
 have heapyQ:q.heapy=false↔q.push=false∧q.all=false∧q.hr=[]∧q.hw=[]:=by
  simp [FP.heapy,and_assoc]
 intro l
 cases l with
 | sl s =>
  refine ⟨fun ⟨a,b⟩=>?_,fun ⟨a,b⟩=>yg1 h3 s a b⟩
  rcases b with b | b
  ·exact yg1 h1 s a b
  ·exact yg1 h2 s a b
 | bk id =>
  have pall:p.all=true→q.push=false∧q.all=false∧q.hr=[]∧q.hw=[]:=fun e=>by rw [e] at h4;exact heapyQ.1 (by simpa using h4)
  have qall:q.all=true→p.push=false∧p.all=false∧p.hr=[]∧p.hw=[]:=fun e=>by rw [e] at h5;exact heapyP.1 (by simpa using h5)
  constructor
  ·rintro ⟨a,b⟩
   simp only [WrP,RdP] at a b
   rcases a with a | a
   ·rcases b with (b | b | b) | (b | b)
    ·exact yg1 h7 id a b
    ·exact yg1 h8 id a b
    ·have:=(qall b).2.2.2;rw [this] at a;cases a
    ·exact yg1 h8 id a b
    ·have:=(qall b).2.2.2;rw [this] at a;cases a
   ·obtain ⟨q1,q2,q3,q4⟩:=pall a
    rcases b with (b | b | b) | (b | b)
    ·rw [q3] at b;cases b
    ·rw [q4] at b;cases b
    ·rw [q2] at b;cases b
    ·rw [q4] at b;cases b
    ·rw [q2] at b;cases b
  ·rintro ⟨a,b⟩
   simp only [WrP,RdP] at a b
   rcases a with a | a
   ·rcases b with b | b | b
    ·exact yg1 h9 id a b
    ·exact yg1 h8 id b a
    ·have:=(pall b).2.2.2;rw [this] at a;cases a
   ·obtain ⟨q1,q2,q3,q4⟩:=qall a
    rcases b with b | b | b
    ·rw [q3] at b;cases b
    ·rw [q4] at b;cases b
    ·rw [q2] at b;cases b
 | len =>
  have pall:p.all=true→q.push=false∧q.all=false:=fun e=>by rw [e] at h4;have:=heapyQ.1 (by simpa using h4);exact ⟨this.1,this.2.1⟩
  have qall:q.all=true→p.push=false∧p.all=false:=fun e=>by rw [e] at h5;have:=heapyP.1 (by simpa using h5);exact ⟨this.1,this.2.1⟩
  have hpp:p.push=true→q.push=true→False:=fun a b=>by rw [a,b] at h6;cases h6
  have both:WrP p .len→WrP q .len→False:=by
   simp only [WrP]
   rintro (a | a) (b | b)
   ·exact hpp a b
   ·have:=(qall b).1;rw [a] at this;cases this
   ·have:=(pall a).1;rw [b] at this;cases this
   ·have:=(pall a).2;rw [b] at this;cases this
  exact ⟨fun ⟨a,b⟩=>both a (b.elim id id),fun ⟨a,b⟩=>both b a⟩
theorem yG1 {ps:List FP}:∀ (pairs:List (Nat×Nat)),ys9 ps pairs=true→∀ i j,(i,j)∈pairs→∃ p q,ps[i]?=some p∧ps[j]?=some q∧yNm p q=false
 | [],_,i,j,h=>by simp at h
 | (a,b)::r,h,i,j,hm=>by
  simp only [ys9,qAc] at h
  rcases qAv.1 hm with e | hm
  ·cases e
   have h1:=h.1
   split at h1
   ·rename_i p q hp hq;exact ⟨p,q,hp,hq,by simpa using h1⟩
   ·cases h1
  ·exact yG1 r h.2 i j hm
theorem yvu {d k:Nat} {x:FV}:∀ (F:Frm),noBp F d=true→(∀ off,x≠.bp d off)→noBp (fset F k x) d=true
 | [],_,hx=>by
  cases x with
  | bp s off=>simp only [fset,noBp,Bool.and_true,qBb,beq_eq_false_iff_ne];exact fun e=>hx off (by rw [e])
  | _=>simp [fset,noBp]
 | (j,y)::r,h,hx=>by
  have hy:noBp r d=true∧∀ (z:FV),noBp ((j,z)::r) d=(match z with | .bp s _=>!(s == d)&&noBp r d | _=>noBp r d):=by
   refine ⟨?_,fun z=>by cases z <;> rfl⟩
   cases y <;> simp [noBp] at h <;> first | exact h | exact h.2
  have hput:∀ (j:Nat) (r:Frm),noBp r d=true→noBp ((j,x)::r) d=true:=by
   intro j r hr
   cases x with
   | bp s off =>
    simp only [noBp,hr,Bool.and_true,qBb,beq_eq_false_iff_ne]
    exact fun e=>hx off (by rw [e])
   | _=>simpa [noBp] using hr
  simp only [fset]
  split
  ·exact hput _ _ h
  ·split
   ·exact hput _ _ hy.1
   ·have ih:=yvu (k:=k) r hy.1 hx
    cases y <;> simp [noBp] at h ⊢ <;> first | exact ih | exact ⟨h.1,ih⟩
theorem yyP {d:Nat}:∀ {l:List AOper} {o:AOper},o∈l→o.dst=some d→1≤ykE d l
 | x::r,o,h,hd=>by
  simp only [ykE]
  rcases qAv.1 h with rfl | h
  ·simp [hd]
  ·have:=yyP h hd;omega
theorem yDD:∀ (l:List AOper) (F:Frm) (H:Hp) (T:Frm×Hp),yvt (ylB E call) l (F,H)=some T →
  (∀ o∈l,∀ d,yxd o=some d→noBp F d=true∧fget F d=none∧ykE d l=1)→yhT E call l F H=some T
 | [],F,H,T,h,_=>by simpa [yvt,yhT] using h
 | o::r,F,H,T,h,hf=>by
  simp only [yvt] at h
  split at h
  ·rename_i S1 hs
   obtain ⟨F1,H1⟩:=S1
   have hboth:yj1 E call F H o=some (F1,H1)∧∀ d,noBp F d=true→fget F d=none→o.dst≠some d→noBp F1 d=true∧fget F1 d=none:=by
    unfold ylB at hs
    simp only [] at hs
    unfold yj1
    split at hs
    ·cases hs
    ·rename_i hg
     refine ⟨hs,fun d h1 h2 h3=>?_⟩
     cases hdst:o.dst with
     | none=>rw [hdst] at hs;cases hs;exact ⟨h1,h2⟩
     | some d' =>
      rw [hdst] at hs;cases hs
      refine ⟨yvu _ h1 (fun off e=>by cases e),?_⟩
      rw [ygH,if_neg (fun e=>h3 (by rw [hdst,e]))];exact h2
    ·rename_i hg
     split at hs
     ·cases hs
     ·rename_i out x bx H2 hout
      simp only [qA6] at hs ⊢
      obtain ⟨F2,hp,e⟩:=hs
      refine ⟨⟨F2,yOA hp fun row d hx hd=>?_,e⟩,fun d h1 h2 h3=>?_⟩
      ·obtain ⟨hb1,hb2⟩:=yOz hout hx
       have hb2':bx=none:=hb2
       rw [hb2']
       exact (hf o (by simp) d (hb1.trans hd)).1
      ·cases e
       have hbx:noBp (yjG F bx) d=true∧fget (yjG F bx) d=none:=by
        cases bx with
        | none=>exact ⟨h1,h2⟩
        | some y =>
         obtain ⟨s,row⟩:=y
         obtain ⟨_,row0,hrow0⟩:=yJR hout rfl
         have hne:d≠s:=fun e=>by rw [e,hrow0] at h2;cases h2
         refine ⟨yvu _ h1 (fun off e=>by cases e),?_⟩
         simp only [yjG,ygH,if_neg hne]
         exact h2
       have hxbp:∀ off,x≠some (.bp d off):=by
        intro off e
        rcases yP3 hout e with ⟨row,hr⟩ | hr
        ·rw [hr] at h2;cases h2
        ·rw [hr] at h1;cases h1
       cases hdst:o.dst with
       | none =>
        rw [hdst] at hp
        cases x with
        | none=>simp only [ykC,qAd] at hp;subst hp;exact hbx
        | some fv=>cases fv <;> simp only [ykC,qAd] at hp <;> first | (subst hp;exact hbx) | cases hp
       | some d' =>
        have hne:d≠d':=fun e=>h3 (by rw [hdst,e])
        rw [hdst] at hp
        cases x with
        | none =>
         simp only [ykC,qAd] at hp;subst hp
         exact ⟨yrp _ hbx.1,by rw [ylJ,if_neg hne];exact hbx.2⟩
        | some fv =>
         simp only [ykC,qAd] at hp;subst hp
         exact ⟨yvu _ hbx.1 (fun off e=>hxbp off (by rw [e])),by rw [ygH,if_neg hne];exact hbx.2⟩
   obtain ⟨hstep,hkeep⟩:=hboth
   simp only [yhT,hstep]
   refine yDD r F1 H1 T h fun o' ho' d hd=>?_
   obtain ⟨h1,h2,h3⟩:=hf o' (by simp [ho']) d hd
   have hdst:o'.dst=some d:=by
    unfold yxd at hd
    split at hd <;> first | exact hd | cases hd
   have hpos:=yyP ho' hdst
   simp only [ykE] at h3
   have hne:o.dst≠some d:=by
    intro e
    rw [if_pos e] at h3;omega
   rw [if_neg hne] at h3
   obtain ⟨h4,h5⟩:=hkeep d h1 h2 hne
   exact ⟨h4,h5,by omega⟩
  ·cases h
theorem yBQ {all:List AOper}:∀ (l:List AOper),yvn F all l=true→∀ o∈l,∀ d,yxd o=some d→noBp F d=true∧fget F d=none∧ykE d all=1
 | [],_,o,h,_,_=>by simp at h
 | x::r,h,o,ho,d,hd=>by
  simp only [yvn,qAc] at h
  rcases qAv.1 ho with rfl | ho
  ·have h1:=h.1
   rw [hd] at h1
   simp only [qAc,Option.isNone_iff_eq_none,beq_iff_eq] at h1
   exact ⟨h1.1.1,h1.1.2,h1.2⟩
  ·exact yBQ r h.2 o ho d hd
theorem yBR (d:Nat) (l:List AOper):ykE d l=l.countP (fun o=>o.dst == some d):=by
 induction l with
 | nil=>rfl
 | cons o r ih =>
  simp only [ykE,List.countP_cons,ih]
  by_cases h:o.dst=some d
  ·simp [h];omega
  ·simp [h]
end
theorem ywx (o:Oper):yoc o=ymI o:=by
 unfold yoc ymI
 congr 1
 funext e
 unfold Region.binds
 cases e.ground <;> simp
def yG2 (es acc:List Nat) (s:Nat):Nat:=es.foldl (fun s i=>s|||2 ^ i|||acc.getD i 0) s
theorem yG3 (acc:List Nat) (b:Nat):∀ (es:List Nat) (s:Nat),(yG2 es acc s).testBit b=true→s.testBit b=true∨∃ i∈es,b=i∨(acc.getD i 0).testBit b=true
 | [],s,h=>.inl h
 | i::r,s,h=>by
  have h':(yG2 r acc (s|||2 ^ i|||acc.getD i 0)).testBit b=true:=h
  rcases yG3 acc b r _ h' with h1 | ⟨j,h1,h2⟩
  ·rw [Nat.testBit_or,Nat.testBit_or,Bool.or_eq_true,Bool.or_eq_true] at h1
   rcases h1 with (h1 | h1) | h1
   ·exact .inl h1
   ·right
    rw [Nat.testBit_two_pow] at h1
    exact ⟨i,by simp,.inl (by simpa using (of_decide_eq_true h1).symm)⟩
   ·exact .inr ⟨i,by simp,.inr h1⟩
  ·exact .inr ⟨j,by simp [h1],h2⟩
theorem yxn:∀ (l:List Oper) (acc:List Nat),(yjm l acc).length=acc.length+l.length
 | [],acc=>by simp [yjm]
 | o::r,acc=>by simp only [yjm];rw [yxn r];simp;omega
theorem yxo:∀ (l:List Oper) (acc:List Nat) (e:Nat),e<acc.length→(yjm l acc).getD e 0=acc.getD e 0
 | [],acc,e,_=>rfl
 | o::r,acc,e,h=>by
  simp only [yjm]
  rw [yxo r _ e (by simp;omega)]
  simp [qA5,h]
theorem yDE:∀ (l:List Oper) (acc:List Nat) (k:Nat) (o:Oper),l[k]?=some o→∃ acc',(yjm l acc).getD (acc.length+k) 0=yG2 (yoc o) acc' 0∧∀ e,(acc'.getD e 0≠0→e<acc.length+k)∧(e<acc.length+k→acc'.getD e 0=(yjm l acc).getD e 0)
 | [],acc,k,o,h=>by simp at h
 | x::r,acc,k,o,h=>by
  cases k with
  | zero =>
   simp only [List.getElem?_cons_zero,qAd] at h
   subst h
   refine ⟨acc,?_,fun e=>⟨fun hne=>?_,fun he=>(yxo _ acc e (by simpa using he)).symm⟩⟩
   ·simp only [yjm,Nat.add_zero]
    rw [yxo r _ acc.length (by simp)]
    simp [yG2]
   ·rcases qA1 e acc.length with h1 | h1
    ·simpa using h1
    ·rw [qAa,qAi h1] at hne;simp at hne
  | succ k =>
   simp only [List.getElem?_cons_succ] at h
   obtain ⟨acc',h1,h2⟩:=yDE r (acc++[yG2 (yoc x) acc 0]) k o h
   have hl:(acc++[yG2 (yoc x) acc 0]).length+k=acc.length+(k+1):=by simp;omega
   rw [hl] at h1 h2
   exact ⟨acc',h1,h2⟩
theorem ywy {l:List Oper} (h:yrt l=true):∀ (i:Nat) (o:Oper),l[i]?=some o→∀ k∈yoc o,k<i:=by
 intro i o ho k hk
 simp only [yrt,List.all_eq_true,List.mem_range] at h
 have hi:i<l.length:=by
  rcases qA1 i l.length with h1 | h1
  ·exact h1
  ·rw [qAi h1] at ho;cases ho
 have:=h i hi
 rw [ho] at this
 simp only [List.all_eq_true,decide_eq_true_eq] at this
 exact this k hk
theorem yyQ {ops:Array Oper} {σ:List Nat} (hback:yrt ops.toList=true) (hσ:∀ a j b,σ=a++j::b→∀ o,ops[j]?=some o→∀ k∈ymI o,k∈a) :
  ∀ (j:Nat) (a b:List Nat) (i:Nat),σ=a++j::b→j<ops.size→((yjm ops.toList []).getD j 0).testBit i=true→i∈a:=by
 intro j
 induction j using Nat.strongRecOn with
 | _ j ih =>
  intro a b i e hj hbit
  have hoj:ops.toList[j]?=some ops[j]:=by simp [hj]
  obtain ⟨acc',h1,h2⟩:=yDE ops.toList [] j _ hoj
  simp only [List.length_nil,qA4] at h1 h2
  rw [h1] at hbit
  rcases yG3 acc' i (yoc ops[j]) 0 hbit with h3 | ⟨k,hk,h3⟩
  ·simp at h3
  ·have hka:k∈a:=hσ a j b e ops[j] (by simp [hj]) k (by rw [← ywx];exact hk)
   rcases h3 with rfl | h3
   ·exact hka
   ·have hkj:k<j:=ywy hback j _ hoj k hk
    obtain ⟨a1,a2,ea⟩:=List.append_of_mem hka
    rw [(h2 k).2 hkj] at h3
    have:=ih k hkj a1 (a2++j::b) i (by rw [e,ea];simp) (by omega) h3
    rw [ea];simp [this]
theorem ywz {cl:List Nat} {i j:Nat} (hij:i<j) (hj:j<cl.length) (hb:(cl.getD j 0).testBit i=false):(i,j)∈yrs cl:=by
 simp only [yrs,List.mem_flatMap,List.mem_range,List.mem_filterMap]
 exact ⟨j,hj,i,hij,by rw [hb];rfl⟩
section
variable {P:Program} {E:Env}
theorem yL4 (hE:EnvOk P E) (hm:P.follows .mixedOrders=true):∀ call,yc9 P E call→yPZ P E call:=by
 intro call hc nt g F H a w loc ops l F' H' id hl hd hb h hr hdf
 obtain ⟨hlen,hget⟩:=yqj _ _ hl
 have hsz:l.length=ops.size:=by simpa using hlen
 refine wp_region_draw fun t=>?_
 have hsched:Region.schedule (P.follows .mixedOrders) ops t=Region.linearise.go .any ops ops.size t (Array.replicate ops.size false) []:=by
  rw [hm];rfl
 rw [hsched]
 have hcount:(List.range ops.size).countP (fun i=>!(Array.replicate ops.size false).getD i true)≤ops.size:=by
  have:=List.countP_le_length (p:=fun i=>!(Array.replicate ops.size false).getD i true) (l:=List.range ops.size)
  simpa using this
 obtain ⟨hmem,hnd,hord⟩:=yH4 ops (fun i o ho k hk=>ywy hb i o (by simpa using ho) k (by rw [ywx];exact hk)) ops.size t (Array.replicate ops.size false) (by simp) hcount
 revert hmem hnd hord
 generalize Region.linearise.go .any ops ops.size t (Array.replicate ops.size false) []=σ
 intro hmem hnd hord
 have hmem':∀ i,i∈σ↔i<ops.size:=by
  intro i
  rw [← hmem i]
  refine ⟨fun x=>x.1,fun x=>⟨x,?_⟩⟩
  simp [x]
 have hord':∀ a j b,σ=a++j::b→∀ o,ops[j]?=some o→∀ k∈ymI o,k∈a:=by
  intro a j b e o ho k hk
  rcases hord a j b e o ho k hk with h1 | h1
  ·simp only [qBf,Array.getElem?_replicate] at h1
   split at h1 <;> simp at h1
  ·exact h1
 have hperm:σ.Perm (List.range ops.size):=(List.perm_ext_iff_of_nodup hnd List.nodup_range).2 fun i=>by rw [hmem' i,List.mem_range]
 have hlperm:(σ.filterMap (l[·]?)).Perm l:=by
  have:=hperm.filterMap (l[·]?)
  rw [← hsz,ynv] at this
  exact this
 have hrd:Rel E nt g F H a.tmps { w with drawn:=w.drawn+1 }:=hr.drew
 have hclean:∀ (l:List AOper) (F:Frm) s x,fget (yqH F l) s=some x→fget F s=some x:=by
  intro l
  induction l with
  | nil=>intro F s x e;exact e
  | cons o r ih =>
   intro F s x e
   simp only [yqH] at e
   split at e
   ·rename_i d _
    have:=ih _ s x e
    rw [ylJ] at this
    split at this
    ·cases this
    ·exact yxe F d s x this
   ·exact ih _ s x e
 have hrun:∃ F0 F2 H2,(∀ s x,fget F0 s=some x→fget F s=some x)∧yhT E call (σ.filterMap (l[·]?)) F0 H=some (F2,H2)∧H2=H'∧∀ s,fget F2 s=fget F' s:=by
  unfold ynq at h
  cases hp:yrs (yjm ops.toList []) with
  | nil =>
   rw [hp] at h
   have hsort:σ=List.range ops.size:=by
    have key:∀ (τ:List Nat) (k:Nat),(∀ a j b,τ=a++j::b→∀ i,k≤i→i<j→i∈a)→τ.Nodup→(∀ i,i∈τ↔k≤i∧i<ops.size)→k≤ops.size→τ=List.range' k (ops.size-k):=by
     intro τ
     induction τ with
     | nil =>
      intro k _ _ h3 hk
      have:¬(k<ops.size):=fun hlt=>by have:=(h3 k).2 ⟨qAk k,hlt⟩;cases this
      have:ops.size-k=0:=by omega
      rw [this];rfl
     | cons x τ ih =>
      intro k h1 h2 h3 hk
      have hx:=(h3 x).1 (by simp)
      have hxk:x=k:=by
       rcases qA1 k x with hlt | hge
       ·have:=h1 [] x τ rfl k (qAk k) hlt;cases this
       ·omega
      subst hxk
      have:ops.size-x=(ops.size-(x+1))+1:=by omega
      rw [this,List.range'_succ]
      congr 1
      rw [List.nodup_cons] at h2
      refine ih (x+1) (fun a j b e i hi hij=>?_) h2.2 (fun i=>?_) (by omega)
      ·have:=h1 (x::a) j b (by rw [e];rfl) i (by omega) hij
       rcases qAv.1 this with e2 | e2
       ·omega
       ·exact e2
      ·have h4:=h3 i
       rw [qAv] at h4
       constructor
       ·intro hi
        have h5:=h4.1 (.inr hi)
        have:i≠x:=fun e=>h2.1 (e ▸ hi)
        omega
       ·intro hi
        rcases h4.2 ⟨by omega,hi.2⟩ with e | e
        ·omega
        ·exact e
    have:=key σ 0 (fun a j b e i _ hij=>?_) hnd (fun i=>by rw [hmem' i];simp) (qBh _)
    ·rw [this,Nat.sub_zero,List.range_eq_range']
    ·have hj:j<ops.size:=(hmem' j).1 (by rw [e];simp)
     refine yyQ hb hord' j a b i e hj ?_
     cases hbit:((yjm ops.toList []).getD j 0).testBit i
     ·have:=ywz hij (by rw [yxn];simpa using hj) hbit
      rw [hp] at this;cases this
     ·rfl
   rw [hsort,← hsz,ynv]
   exact ⟨F,F',H',fun _ _ e=>e,h,rfl,fun _=>rfl⟩
  | cons pr prs =>
   rw [hp] at h
   simp only [] at h
   split at h
   ·rename_i F1 H1 ps hps
    split at h
    ·rename_i hok
     cases h
     rw [← hp] at hok
     have hcl:=hclean l F
     obtain ⟨F0,hF0⟩:∃ F0,F0=yqH F l:=⟨_,rfl⟩
     rw [← hF0] at hps hok hcl
     obtain ⟨s1,s2,s3,s4⟩:=yww _ _ _ _ _ _ hps
     let st:Nat→Frm×Hp:=fun i=>stAt E call l i (F0,H)
     let R:Nat→Loc→Prop:=fun i x=>∃ p,ps[i]?=some p∧RdP p x
     let W:Nat→Loc→Prop:=fun i x=>∃ p,ps[i]?=some p∧WrP p x
     have hlocal:Local look (ylB E call) l st R W:=by
      refine ⟨fun i o ho=>?_,fun i o ho S' hag=>?_⟩
      ·exact (s4 i o ho).1
      ·obtain ⟨h1,h2⟩:=s4 i o ho
       obtain ⟨T',k1,k2,k3⟩:=yOB h1 S' (fun x hx=>hag x ⟨_,h2,hx⟩)
       refine ⟨T',k1,fun x ⟨p,e,hx⟩=>?_,fun x hx=>k3 x fun hw=>hx ⟨_,h2,hw⟩⟩
       rw [h2] at e;cases e
       exact k2 x hx
     have hfree:∀ i j,i<j→(i∈σ∧j∈([]:List Nat)∨(∃ a b c,σ=a++j::(b++i::c)))→Free R W i j:=by
      intro i j hij hcase
      rcases hcase with ⟨_,hx⟩ | ⟨a,b,c,e⟩
      ·cases hx
      ·have hj:j<ops.size:=(hmem' j).1 (by rw [e];simp)
       have hbit:((yjm ops.toList []).getD j 0).testBit i=false:=by
        cases hbit:((yjm ops.toList []).getD j 0).testBit i
        ·rfl
        ·have hia:=yyQ hb hord' j a _ i e hj hbit
         rw [e,List.nodup_append] at hnd
         exact absurd rfl (hnd.2.2 i hia i (by simp))
       obtain ⟨p,q,hp1,hq1,hcl⟩:=yG1 _ hok.1 i j (ywz hij (by rw [yxn];simpa using hj) hbit)
       intro x
       obtain ⟨f1,f2⟩:=yFw hcl x
       refine ⟨fun ⟨⟨p',e1,w1⟩,r1⟩=>f1 ?_,fun ⟨⟨q',e1,w1⟩,⟨p',e2,r1⟩⟩=>f2 ?_⟩
       ·rw [hp1] at e1;cases e1
        refine ⟨w1,r1.imp (fun ⟨q',e2,r2⟩=>?_) (fun ⟨q',e2,r2⟩=>?_)⟩
        ·rw [hq1] at e2;cases e2;exact r2
        ·rw [hq1] at e2;cases e2;exact r2
       ·rw [hq1] at e1;cases e1
        rw [hp1] at e2;cases e2
        exact ⟨w1,r1⟩
     obtain ⟨T',k1,k2⟩:=hlocal.perm σ [] (F0,H) (by simpa using hnd) (fun i=>by rw [hsz,qB3,hmem' i]) hfree (fun x _=>by show look (F0,H) x=look (st 0) x;rw [show st 0=(F0,H) from s2]) (fun x i hi=>by cases hi)
     have hfin:st l.length=(F',H'):=s3
     rw [hfin] at k2
     have hfresh:=yDD _ F0 H T' k1 fun o ho d hdo=>by
      obtain ⟨b1,b2,b3⟩:=yBQ l hok.2 o (hlperm.mem_iff.1 ho) d hdo
      refine ⟨b1,b2,?_⟩
      rw [yBR,hlperm.countP_eq,← yBR];exact b3
     refine ⟨F0,T'.1,T'.2,hcl,hfresh,qBc fun k=>?_,fun s=>?_⟩
     ·have:=k2 (.bk k);simpa [look] using this
     ·have:=k2 (.sl s);simpa [look] using this
    ·cases h
   ·cases h
 obtain ⟨F0,F2,H2,h0,h1,rfl,h3⟩:=hrun
 refine ysa (F':=F2) (H':=H2) hE hc hl hd σ g F0 H a _ (fun i hi=>(hmem' i).1 hi) (hrd.less h0) h1 ?_
 intro a' w' g' d1 n1 r1
 exact ⟨trivial,d1.trans hdf,g',(Nx.drew g H w).trans n1,r1.less fun s x hs=>by rw [h3 s];exact hs⟩
theorem yAK (hE:EnvOk P E) (hm:P.follows .mixedOrders=true) (n:Nat):yc9 P E (ybK E n) :=
 (yL0 hE (yL4 hE hm) n).2.2
end
end Go.Pf
namespace Go.Pf
open Go Go.RowKit
def topV (E:Env) (n f:Nat) (args:List PV):Option PV :=
 match ybK E n f args [] with
 | some (r,H)=>purN (E.nl f) H r
 | none=>none
section
variable {P:Program} {E:Env}
theorem yNq (hE:EnvOk P E) (hm:P.follows .mixedOrders=true) {n f:Nat} {args:List PV} {q:PV} (h:topV E n f args=some q):yrx P E.glob f args q:=by
 intro I w vs himm hgl hv
 unfold topV at h
 split at h
 ·rename_i r H hin
  exact run_pure (yAK hE hm n) himm hgl hv hin h
 ·cases h
end
end Go.Pf
namespace Go.Pf
open Go Go.RowKit
mutual
def beqV:PV→PV→Bool
 | .bool a,.bool b=>a == b
 | .int k a,.int l b=>decide (k=l)&&decide (a=b)
 | .nilp,.nilp=>true
 | .nils,.nils=>true
 | .emp,.emp=>true
 | .nilf,.nilf=>true
 | .data a,.data b=>beqL a b
 | .agg a,.agg b=>beqL a b
 | .tup a,.tup b=>beqL a b
 | _,_=>false
def beqL:List PV→List PV→Bool
 | [],[]=>true
 | x::a,y::b=>beqV x y&&beqL a b
 | _,_=>false
end
mutual
theorem ySa:∀ (x y:PV),beqV x y=true→x=y
 | .bool a,y,h=>by cases y <;> simp [beqV] at h;rw [h]
 | .int k a,y,h=>by cases y <;> simp [beqV] at h;rw [h.1,h.2]
 | .nilp,y,h=>by cases y <;> simp [beqV] at h;rfl
 | .nils,y,h=>by cases y <;> simp [beqV] at h;rfl
 | .emp,y,h=>by cases y <;> simp [beqV] at h;rfl
 | .nilf,y,h=>by cases y <;> simp [beqV] at h;rfl
 | .data a,y,h=>by cases y <;> simp only [beqV,qAp] at h;rw [yyR _ _ h]
 | .agg a,y,h=>by cases y <;> simp only [beqV,qAp] at h;rw [yyR _ _ h]
 | .tup a,y,h=>by cases y <;> simp only [beqV,qAp] at h;rw [yyR _ _ h]
 | .ptr ..,y,h=>by cases y <;> simp [beqV] at h
 | .eptr ..,y,h=>by cases y <;> simp [beqV] at h
 | .own ..,y,h=>by cases y <;> simp [beqV] at h
 | .fn ..,y,h=>by cases y <;> simp [beqV] at h
theorem yyR:∀ (x y:List PV),beqL x y=true→x=y
 | [],y,h=>by cases y <;> simp [beqL] at h;rfl
 | x::a,y,h=>by
  cases y with
  | nil=>simp [beqL] at h
  | cons z b =>
   simp only [beqL,qAc] at h
   rw [ySa _ _ h.1,yyR _ _ h.2]
end
abbrev Tab:=List (Nat×List PV×PV)
def yBS:Tab→Nat→List PV→Option PV
 | [],_,_=>none
 | (k,as,r)::t,n,bs=>bif Nat.beq k n&&beqL as bs then some r else yBS t n bs
theorem yAL:∀ (t:Tab) (n:Nat) (as:List PV) (r:PV),yBS t n as=some r→(n,as,r)∈t
 | [],_,_,_,h=>by simp [yBS] at h
 | (k,bs,q)::t,n,as,r,h=>by
  simp only [yBS] at h
  cases hc:(Nat.beq k n&&beqL bs as) with
  | true =>
   rw [hc] at h
   simp only [cond_true,qAd] at h
   simp only [qAc] at hc
   have h1:=qAg hc.1
   have h2:=yyR _ _ hc.2
   subst h1;subst h2;subst h;simp
  | false =>
   rw [hc] at h
   simp only [cond_false] at h
   exact qAm _ (yAL t n as r h)
section
variable {P:Program} {E:Env}
def yDF:List (Nat×AFn)→Nat→Option AFn
 | [],_=>none
 | (k,a)::r,n=>bif Nat.beq k n then some a else yDF r n
def yDG (P:Program):List (Nat×AFn)→Prop
 | []=>True
 | (n,a)::r=>(∃ f loc fg,P.funcs[n]?=some f∧yar P loc fg f=some a)∧yDG P r
theorem yDH:∀ (l:List (Nat×AFn)),yDG P l→∀ n a,yDF l n=some a→∃ f loc fg,P.funcs[n]?=some f∧yar P loc fg f=some a
 | [],_,_,_,h=>by simp [yDF] at h
 | (k,b)::r,hl,n,a,h=>by
  simp only [yDG] at hl
  simp only [yDF] at h
  cases hc:Nat.beq k n with
  | true =>
   rw [hc] at h
   simp only [cond_true,qAd] at h
   have:=qAg hc
   subst this;subst h
   exact hl.1
  | false =>
   rw [hc] at h
   exact yDH r hl.2 n a (by simpa using h)
def memN:List Nat→Nat→Bool
 | [],_=>false
 | k::r,n=>bif Nat.beq k n then true else memN r n
def u64 (n:Nat):PV:=.int .u64 (n:Int)
def sumC (add sub:Nat) (n:Nat) (as:List PV):Option PV :=
 match as with
 | [.int .u64 a,.int .u64 b,.int .u64 c] =>
  bif Nat.beq n add&&Nat.ble c.toNat 1 then some (.tup [u64 ((a.toNat+b.toNat+c.toNat) % 18446744073709551616),u64 ((a.toNat+b.toNat+c.toNat) / 18446744073709551616)])
  else bif Nat.beq n sub&&Nat.ble c.toNat 1 then some (.tup [u64 ((a.toNat+18446744073709551616-b.toNat-c.toNat) % 18446744073709551616),u64 (bif Nat.ble (b.toNat+c.toNat) a.toNat then 0 else 1)])
  else none
 | _=>none
def yDI:Array Value→Sem Value:=fun args=>do
 let (x, y, b) ← Extern.MathBitsCarry.three "Sub64" args
 pure (Extern.MathBitsCarry.pair ((x+Extern.MathBitsCarry.m64-y-b) % Extern.MathBitsCarry.m64) (if x<y+b then 1 else 0))
theorem yL5 (x y:Int) (b:Nat) (hb:b≤1) (w:World) :
  (yDI #[.int .u64 x,.int .u64 y,.int .u64 b]).run P w =
   .ok (.tuple #[.int .u64 (((x.toNat+18446744073709551616-y.toNat-b) % 18446744073709551616:Nat):Int),.int .u64 ((if x.toNat<y.toNat+b then 1 else 0:Nat):Int)]) w:=by
 have:b=0∨b=1:=by omega
 rcases this with rfl | rfl <;> rfl
theorem yL6 (x y:Int) (b:Nat) (hb:b≤1) (w:World) :
  (add64Entry #[.int .u64 x,.int .u64 y,.int .u64 b]).run P w =
   .ok (.tuple #[.int .u64 (((x.toNat+y.toNat+b) % 18446744073709551616:Nat):Int),.int .u64 (((x.toNat+y.toNat+b) / 18446744073709551616:Nat):Int)]) w:=by
 have:b=0∨b=1:=by omega
 rcases this with rfl | rfl <;> rfl
theorem yDJ {I:Nat→Prop} {w:World} {a b c:Int} {vs:List Value} (h:VPs I w [.int .u64 a,.int .u64 b,.int .u64 c] vs):vs=[.int .u64 a,.int .u64 b,.int .u64 c]:=by
 simp only [VPs,VP1,RC,qAx,and_true] at h
 obtain ⟨v,r,rfl,⟨rfl,_⟩,v2,r2,rfl,⟨rfl,_⟩,v3,r3,rfl,⟨rfl,_⟩,rfl⟩:=h
 rfl
structure IsExtern (P:Program) (f:FuncId) (e:Array Value→Sem Value):Prop where
 h : ∃ fn, P.funcs[f]? = some fn ∧ (fn.name == "runtime.NumGoroutine") = false ∧ fn.body.isNone = true ∧ Extern.findNext fn = none ∧ Extern.find fn = some e
theorem IsExtern.run {f:FuncId} {e:Array Value→Sem Value} (h:IsExtern P f e) (args:Array Value) (w:World):(callFunc f args).run P w=((e args).run P w).andThen fun v w'=>.ok (.value v) w':=by
 obtain ⟨fn,h1,h2,h3,h4,h5⟩:=h.h
 exact run_callFunc_extern h1 h2 h3 h4 h5 args w
theorem yNr (n:Nat) (h:n<18446744073709551616):inK .u64 (n:Int):=by
 have h0:IntKind.u64.min=0:=by decide
 have h1:IntKind.u64.max=18446744073709551615:=by decide
 exact ⟨by rw [h0];omega,by rw [h1];omega⟩
theorem yDK {G:Nat→Option PV} {f:FuncId} {as:List PV} {a b:Nat} (ha:a<18446744073709551616) (hb:b<18446744073709551616)
  (h:∀ (I:Nat→Prop) (w:World) (vs:List Value),VPs I w as vs→(callFunc f vs.toArray).run P w=.ok (.value (.tuple #[.int .u64 (a:Int),.int .u64 (b:Int)])) w):yrx P G f as (.tup [u64 a,u64 b]):=by
 intro I w vs _ _ hv
 unfold yoV
 rw [h I w vs hv]
 refine ⟨Bel.refl _ _,?_⟩
 simp only [VP,VPs,VP1,RC,u64]
 exact ⟨_,rfl,_,_,rfl,⟨rfl,yNr a ha⟩,_,_,rfl,⟨rfl,yNr b hb⟩,rfl⟩
theorem yNs {G:Nat→Option PV} {add sub:Nat} (ha:IsExtern P add add64Entry) (hs:IsExtern P sub yDI):∀ n as r,sumC add sub n as=some r→yrx P G n as r:=by
 intro n as r h
 unfold sumC at h
 split at h
 ·rename_i a b c
  have key:∀ (x y:Int) (I:Nat→Prop) (w:World) (vs:List Value),VPs I w [.int .u64 a,.int .u64 b,.int .u64 c] vs→a.toNat<18446744073709551616∧b.toNat<18446744073709551616∧0≤c:=by
   intro x y I w vs hv
   simp only [VPs,VP1,RC,inK] at hv
   obtain ⟨v,r,-,⟨-,h1⟩,v2,r2,-,⟨-,h2⟩,v3,r3,-,⟨-,h3⟩,-⟩:=hv
   have e1:IntKind.u64.max=18446744073709551615:=by decide
   have e0:IntKind.u64.min=0:=by decide
   rw [e1] at h1 h2;rw [e0] at h3
   exact ⟨by omega,by omega,h3.1⟩
  cases h1:(Nat.beq n add&&Nat.ble c.toNat 1) with
  | true =>
   rw [h1] at h
   simp only [cond_true,qAd] at h
   simp only [qAc] at h1
   have e:=qAg h1.1
   have hc:=Nat.le_of_ble_eq_true h1.2
   subst e;subst h
   intro I w vs hI hgl hv
   obtain ⟨la,lb,-⟩:=key 0 0 I w vs hv
   refine yDK (Nat.mod_lt _ (by omega)) (by omega) (fun I w vs hv=>?_) I w vs hI hgl hv
   have h0:=(key 0 0 I w vs hv).2.2
   have ec:c=(c.toNat:Int):=by omega
   rw [yDJ hv,ha.run,ec]
   exact congrArg (fun r=>Result.andThen r fun v w'=>Result.ok (Next.value v) w') (yL6 a b c.toNat hc w)
  | false =>
   rw [h1] at h
   simp only [cond_false] at h
   cases h2:(Nat.beq n sub&&Nat.ble c.toNat 1) with
   | true =>
    rw [h2] at h
    simp only [cond_true,qAd] at h
    simp only [qAc] at h2
    have e:=qAg h2.1
    have hc:=Nat.le_of_ble_eq_true h2.2
    subst e;subst h
    refine yDK (Nat.mod_lt _ (by omega)) (by cases Nat.ble (b.toNat+c.toNat) a.toNat <;> simp) (fun I w vs hv=>?_)
    have:(if a.toNat<b.toNat+c.toNat then 1 else 0:Nat)=(bif Nat.ble (b.toNat+c.toNat) a.toNat then 0 else 1):=by
     cases hh:Nat.ble (b.toNat+c.toNat) a.toNat with
     | true=>have:=Nat.le_of_ble_eq_true hh;simp;omega
     | false =>
      have:¬(b.toNat+c.toNat≤a.toNat):=fun hle=>by rw [Nat.ble_eq_true_of_le hle] at hh;cases hh
      simp;omega
    have h0:=(key 0 0 I w vs hv).2.2
    have ec:c=(c.toNat:Int):=by omega
    rw [← this,yDJ hv,hs.run,ec]
    exact congrArg (fun r=>Result.andThen r fun v w'=>Result.ok (Next.value v) w') (yL5 a b c.toNat hc w)
   | false=>rw [h2] at h;cases h
 ·cases h
def yUj (add sub:Nat) (tab:List (Nat×AFn)) (qui:List Nat):Env:={ glob:=fun _=>none,sum:=sumC add sub,fns:=yDF tab,frz:=fun _=>false,qui:=memN qui }
theorem ySb {add sub:Nat} {tab:List (Nat×AFn)} {qui:List Nat} (ha:IsExtern P add add64Entry) (hs:IsExtern P sub yDI) (ht:yDG P tab):EnvOk P (yUj add sub tab qui) where
 sum:=fun n as r h=>yNs ha hs n as r h
 fns:=fun n fn h=>yDH tab ht n fn h
 eff:=fun _ _ _ _ _ h=>by cases h
end
end Go.Pf
namespace Go.Pf
open Go
def cbr (b:Bool) (x y:Prop):Prop:=match b with | true=>x | false=>y
def asr (b:Bool) (x:Prop):Prop:=match b with | true=>x | false=>False
theorem ykK {b:Bool} {x y:Prop}:cbr b x y↔(b=true→x)∧(b=false→y):=by cases b <;> simp [cbr]
theorem yah {b:Bool} {x:Prop}:asr b x↔b=true∧x:=by cases b <;> simp [asr]
inductive Cs where
 | i (k:IntKind)
 | b
 | d
 deriving DecidableEq,Inhabited
inductive Sh where
 | raw
 | one (c:Cs)
 | agg (l:List Cs)
 deriving Inhabited
def yaa:PV→Int
 | .int _ n=>n
 | _=>0
def yNt:PV→Bool
 | .bool b=>b
 | _=>false
def yaA:PV→List PV
 | .data l=>l
 | _=>[]
def yag (r:PV) (j:Nat):PV:=r.cells.getD j .nils
def yG4:Cs→PV→PV
 | .i k,x=>.int k (yaa x)
 | .b,x=>.bool (yNt x)
 | .d,x=>.data (yaA x)
def yJT:List Cs→PV→Nat→List PV
 | [],_,_=>[]
 | c::t,r,j=>yG4 c (yag r j)::yJT t r (j+1)
def expl:Sh→PV→PV
 | .raw,r=>r
 | .one c,r=>yG4 c r
 | .agg l,r=>.agg (yJT l r 0)
def ytd:Cs→PV→Bool
 | .i k,.int l _=>decide (k=l)
 | .b,.bool _=>true
 | .d,.data _=>true
 | _,_=>false
def yG5:List Cs→List PV→Bool
 | [],[]=>true
 | c::t,x::r=>ytd c x&&yG5 t r
 | _,_=>false
def conf:Sh→PV→Bool
 | .raw,_=>true
 | .one c,x=>ytd c x
 | .agg l,.agg cs=>yG5 l cs
 | .agg _,_=>false
theorem yDL:∀ (c:Cs) (x:PV),ytd c x=true→yG4 c x=x
 | .i k,x,h=>by cases x <;> simp [ytd] at h;simp [yG4,yaa,h]
 | .b,x,h=>by cases x <;> simp [ytd] at h;simp [yG4,yNt]
 | .d,x,h=>by cases x <;> simp [ytd] at h;simp [yG4,yaA]
theorem yDM:∀ (l:List Cs) (pre cs:List PV),yG5 l cs=true→yJT l (.agg (pre++cs)) pre.length=cs
 | [],pre,cs,h=>by cases cs <;> simp [yG5] at h;simp [yJT]
 | c::t,pre,cs,h=>by
  cases cs with
  | nil=>simp [yG5] at h
  | cons x r =>
   simp only [yG5,qAc] at h
   have h1:yag (.agg (pre++x::r)) pre.length=x:=by simp [yag,PV.cells]
   have h2:=yDM t (pre++[x]) r h.2
   simp only [qBd,List.singleton_append,qAn,List.length_singleton] at h2
   simp only [yJT,h1,yDL c x h.1,h2]
theorem yG6:∀ (s:Sh) (r:PV),conf s r=true→expl s r=r
 | .raw,_,_=>rfl
 | .one c,x,h=>yDL c x h
 | .agg l,x,h=>by
  cases x with
  | agg cs=>have:=yDM l [] cs h;simpa [expl] using this
  | _=>simp [conf] at h
structure An where
 at_:Nat
 sh:Sh
 md:Nat
 deriving Inhabited
inductive TCode where
 | skip
 | ops (l:List AOper) (an:List An) (pairs:List (Nat×Nat)) (forget:List Nat)
 | seq (a b:TCode)
 | cond (c:Opd) (a b:TCode)
 | block (id:Nat) (b:TCode)
 | loop (id:Nat) (b:TCode)
 | exit (id:Nat)
 | ret
 | bad
 deriving Inhabited
def yh5:TCode→ACode
 | .skip=>.skip
 | .ops l _ ps fg=>.ops l ps fg
 | .seq a b=>.seq (yh5 a) (yh5 b)
 | .cond c a b=>.cond c (yh5 a) (yh5 b)
 | .block id b=>.block id (yh5 b)
 | .loop _ b=>.loop (yh5 b)
 | .exit id=>.exit id
 | .ret=>.ret
 | .bad=>.bad
structure TFn where
 nparams:Nat
 results:List ARes
 body:TCode
 deriving Inhabited
def TFn.fn (t:TFn):AFn:=⟨t.nparams,t.results,yh5 t.body⟩
def anOf:List An→Nat→An
 | [],_=>⟨0,.raw,0⟩
 | a::r,i=>bif Nat.beq a.at_ i then a else anOf r i
def yDN:Nat→List PV→Hp→Option (PV×Hp):=fun _ _ _=>none
abbrev OK:=Option FV→Option (Nat×PV)→Hp→Prop
abbrev CK:=PV→List PV→Hp→(PV→Hp→Prop)→Prop
def wv (H:Hp) (K:OK) (p:PV):Prop:=K (some (.v p)) none H
def yNu (H:Hp) (x:PV) (K:PV→Hp→Prop):Prop :=
 match x with
 | .bool b=>K (.bool b) H
 | .int k n=>K (.int k n) H
 | .nils | .emp=>K (.data []) H
 | .data rows=>K (.data rows) H
 | .own id lo len ext _ =>
  (match H[id]? with
   | some b=>asr (decide (b.rows.length=ext)) (asr (decide (lo+len≤ext)) (asr b.pu (K (.data ((b.rows.drop lo).take len)) (H.set id { b with fz:=true }))))
   | none=>False)
 | _=>False
def yNv:Hp→List PV→(List PV→Hp→Prop)→Prop
 | H,[],K=>K [] H
 | H,x::r,K=>yNu H x fun y H'=>yNv H' r fun ys H''=>K (y::ys) H''
def yyS (H:Hp) (x:PV) (K:PV→Hp→Prop):Prop :=
 match x with
 | .agg cs=>yNv H cs fun ys H'=>K (.agg ys) H'
 | x=>yNu H x K
def yJU:Hp→List PV→(List PV→Hp→Prop)→Prop
 | H,[],K=>K [] H
 | H,x::r,K=>yyS H x fun y H'=>yJU H' r fun ys H''=>K (y::ys) H''
def yNw (H:Hp) (x:PV) (K:PV→Prop):Prop :=
 match x with
 | .tup ps=>yJU H ps fun qs _=>K (.tup qs)
 | x=>yyS H x fun q _=>K q
def yNx (H:Hp) (x:PV) (K:PV→Prop):Prop :=
 match x with
 | .ptr id ext i off=>(match H[id]? with
  | some b=>asr (decide (b.rows.length=ext)) (match b.rows[i]? with
   | some row=>yyS H row fun q _=>K (.eptr [q] 0 off)
   | none=>False)
  | none=>False)
 | .eptr rows i off=>K (.eptr rows i off)
 | x=>yyS H x fun q _=>K q
def yH5 (H:Hp):List PV→(List PV→Prop)→Prop
 | [],K=>K []
 | x::r,K=>yNx H x fun y=>yH5 H r fun ys=>K (y::ys)
def yDO (pu:Bool) (H:Hp) (x:PV) (K:PV→Hp→Prop):Prop:=match pu with | true=>yyS H x K | false=>K x H
def yG7 (E:Env) (F:Frm) (pu:Bool) (esz:Nat):List PV→Hp→List (Nat×Opd)→(List PV→Hp→Prop)→Prop
 | rows,H,[],K=>K rows H
 | rows,H,(i,x)::r,K =>
  match evV E F x with
  | some p=>yDO pu H p fun q H'=>asr (Nat.beq q.cells.length esz&&Nat.blt i rows.length&&yfi q.cells) (yG7 E F pu esz (rows.set i q) H' r K)
  | none=>False
def WBin (op:BinOp) (k k':IntKind) (a b:Int) (K:PV→Prop):Prop :=
 match op with
 | .quo=>asr (decide (k=k')) (asr (!decide (b=0)) (K (.int k (k.wrap (a.tdiv b)))))
 | .rem=>asr (decide (k=k')) (asr (!decide (b=0)) (K (.int k (a.tmod b))))
 | .shl=>asr (!decide (b<0)) (K (.int k (k.wrap (a*2 ^ (min b.toNat k.bits)))))
 | .shr=>asr (!decide (b<0)) (K (.int k (a.fdiv (2 ^ (min b.toNat k.bits)))))
 | op=>asr (decide (k=k')) (match binI op k a b with | some r=>K r | none=>False)
def yxp (n:Nat) (j:Int) (K:Nat→Prop):Nat→Prop
 | 0=>False
 | m+1=>cbr (decide (j=((n-(m+1):Nat):Int))) (K (n-(m+1))) (yxp n j K m)
def yJV:List PV→Bool
 | []=>true
 | .int .u8 _::r=>yJV r
 | _=>false
def WTab (agg:Bool) (n esz:Nat) (cs:List PV) (j:Int) (K:PV→Prop):Prop :=
 asr (!agg&&(Nat.beq esz 1&&(Nat.beq n cs.length&&yJV cs))) (asr (decide (0≤j)) (asr (decide (j<(n:Int))) (K (.int .u8 (yaa (cs.getD j.toNat .nils))))))
def yP4 (H:Hp) (x:PV) (K:List PV→Prop):Prop :=
 match x with
 | .nils | .emp=>K []
 | .data rows=>K rows
 | .own id lo len ext _ =>
  (match H[id]? with
   | some b=>asr (decide (b.rows.length=ext)) (asr (decide (lo+len≤ext)) (K ((b.rows.drop lo).take len)))
   | none=>False)
 | _=>False
def yAM (H:Hp) (pu:Bool) (esz bytes:Nat) (rows:List PV) (K:PV→Hp→Prop):Prop :=
 asr (decide ((rows.length+64)*(bytes+1)≤room)) (K (.own H.length 0 rows.length rows.length none) (H++[⟨false,pu,esz,rows⟩]))
def WApp (md:Nat) (H:Hp) (pu:Bool) (esz bytes:Nat) (s:PV) (ys:List PV) (K:PV→Hp→Prop):Prop :=
 match s with
 | .nils=>cbr ys.isEmpty (K .nils H) (yAM H pu esz bytes ys K)
 | .emp=>cbr ys.isEmpty (K .emp H) (yAM H pu esz bytes ys K)
 | .own id lo len ext cap =>
  (match H[id]? with
   | some b =>
    asr (decide (b.rows.length=ext)) (asr (decide (b.pu=pu)&&decide (b.esz=esz)) (asr (decide (lo+len≤ext))
     (cbr ys.isEmpty (K (.own id lo len ext cap) H)
      (match cap with
       | some c =>
        let W1:=asr (!b.fz) (K (.own id lo (len+ys.length) ext cap) (H.set id { b with rows:=b.rows.take (lo+len)++(ys++b.rows.drop (lo+len+ys.length)) }))
        let W2:=yAM H pu esz bytes ((b.rows.drop lo).take len++ys) K
        (match md with
         | 9=>cbr (decide (len+ys.length≤c)) W1 W2
         | 2=>asr (!decide (len+ys.length≤c)) W2
         | _=>asr (decide (len+ys.length≤c)) W1)
       | none =>
        let W1:=K (.own id lo (len+ys.length) ext none) (H.set id { b with rows:=b.rows.take (lo+len)++(ys++b.rows.drop (lo+len+ys.length)) })
        let W3:=asr (decide (lo=0)) (asr (decide (len=ext)) (asr (decide ((ext+ys.length+64)*(bytes+1)≤room))
          (K (.own id 0 (b.rows++ys).length (b.rows++ys).length none) (H.set id { b with rows:=b.rows++ys }))))
        asr (!b.fz) (match md with
         | 9=>cbr (decide (lo+len+ys.length≤ext)) W1 W3
         | 1=>asr (decide (lo+len+ys.length≤ext)) W1
         | _=>asr (!decide (lo+len+ys.length≤ext)) W3)))))
   | none=>False)
 | _=>False
def yL7 (H:Hp) (esz:Nat) (lo hi mx:Option Int) (x:PV) (K:PV→Prop):Prop :=
 match x with
 | .nils=>asr (decide (lo.getD 0=0)&&(decide (hi.getD 0=0)&&decide (mx.getD 0=0))) (K .nils)
 | .emp=>asr (decide (lo.getD 0=0)&&(decide (hi.getD 0=0)&&decide (mx.getD 0=0))) (K .emp)
 | .data rows =>
  let h:=hi.getD rows.length
  let l:=lo.getD 0
  (match mx with
   | none=>asr (decide (0≤l)) (asr (decide (l≤h)) (asr (decide (h≤rows.length)) (asr (decide (l=0)||yeC esz rows) (K (.data ((rows.take h.toNat).drop l.toNat))))))
   | some m=>asr (decide (0≤l)) (asr (decide (l≤h)) (asr (decide (h≤m)) (asr (decide (m≤rows.length)) (asr (decide (l=0)||yeC esz rows)
      (cbr (decide (l=m)) (K .emp) (K (.data ((rows.take h.toNat).drop l.toNat)))))))))
 | .own id lo0 len ext cap =>
  let h:=hi.getD len
  let l:=lo.getD 0
  (match H[id]? with
   | some b=>asr (b.esz == esz)
    (match mx with
     | none=>asr (decide (0≤l)) (asr (decide (l≤h)) (asr (decide (h≤len)||decide (h≤yDj len cap)) (K (.own id (lo0+l.toNat) (h-l).toNat ext (cap.map fun c=>c-l.toNat)))))
     | some m=>asr (decide (0≤l)) (asr (decide (l≤h)) (asr (decide (h≤m)) (asr (decide (m≤len)||decide (m≤yDj len cap)) (K (.own id (lo0+l.toNat) (h-l).toNat ext (some (m-l).toNat)))))))
   | none=>False)
 | _=>False
def WRow (sh:Sh) (rows:List PV) (i:Nat) (K:PV→Prop):Prop :=
 match sh with
 | .raw=>(match rows[i]? with | some r=>K r | none=>False)
 | sh=>asr (decide (i<rows.length)) (asr (conf sh (rows.getD i .nils)) (K (expl sh (rows.getD i .nils))))
def WOp (E:Env) (callK:CK) (a:An) (F:Frm) (H:Hp) (o:AOp) (K:OK):Prop :=
 match o with
 | .pick c x y =>
  (match evV E F c with
   | some (.bool t)=>cbr t (match evV E F x with | some p=>wv H K p | none=>False) (match evV E F y with | some p=>wv H K p | none=>False)
   | _=>False)
 | .bin op x y =>
  (match evV E F x,evV E F y with
   | some (.int k p),some (.int k' q)=>WBin op k k' p q (wv H K)
   | _,_=>False)
 | .load agg sz x =>
  (match ev E F x with
   | some (.v (.ptr id ext i off)) =>
    (match H[id]? with
     | some b=>asr (decide (b.rows.length=ext)) (WRow a.sh b.rows i fun row=>match yjk agg sz row off with | some p=>wv H K p | none=>False)
     | none=>False)
   | _=>(match yap E yDN F H (.load agg sz x) with | some ⟨x,bx,H'⟩=>K x bx H' | none=>False))
 | .store sz x y =>
  (match ev E F x with
   | some (.v (.ptr id ext i off)) =>
    (match evV E F y with
     | some p =>
       (match H[id]? with
        | some b0 =>
         yDO b0.pu H p fun q H' =>
          (match H'[id]? with
           | some b=>asr (decide (b.rows.length=ext)) (asr (!b.fz) (WRow a.sh b.rows i fun row=>match yob row off sz q with
            | some row'=>K none none (H'.set id { b with rows:=b.rows.set i row' })
            | none=>False))
           | none=>False)
        | none=>False)
     | none=>False)
   | _=>(match yap E yDN F H (.store sz x y) with | some ⟨x,bx,H'⟩=>K x bx H' | none=>False))
 | .iad esz x i =>
  (match evV E F x,ylA E F i with
   | some (.data rows),some n =>
    asr (decide (0≤n)) (asr (decide (n<rows.length)) (asr (conf a.sh (rows.getD n.toNat .nils)) (asr (decide ((expl a.sh (rows.getD n.toNat .nils)).cells.length=esz)) (wv H K (.eptr [expl a.sh (rows.getD n.toNat .nils)] 0 0)))))
   | some (.own id lo len ext _),some n =>
    (match H[id]? with
     | some b=>asr (decide (0≤n)) (asr (decide (n<len)) (asr (decide (b.esz=esz)) (wv H K (.ptr id ext (lo+n.toNat) 0))))
     | none=>False)
   | _,_=>False)
 | .iadA n esz x i =>
  (match ev E F x,ylA E F i with
   | some (.bp s o),some j=>yxp n j (fun k=>K (some (.bp s (o+k*esz))) none H) n
   | some (.v (.ptr id e r o)),some j=>yxp n j (fun k=>wv H K (.ptr id e r (o+k*esz))) n
   | some (.v (.eptr rows r o)),some j=>yxp n j (fun k=>wv H K (.eptr rows r (o+k*esz))) n
   | _,_=>False)
 | .idx agg n esz x i =>
  (match evV E F x,ylA E F i with
   | some (.agg cs),some j=>(match x with
    | .c _=>WTab agg n esz cs j (wv H K)
    | _=>yxp n j (fun k=>match yjk agg esz (.agg cs) (k*esz) with | some p=>wv H K p | none=>False) n)
   | _,_=>False)
 | .slc esz x lo hi mx =>
  (match evV E F x,evO E F lo,evO E F hi,evO E F mx with
   | some p,some l,some h,some m=>(match (m.isSome&&h.isNone) with | true=>False | false=>yL7 H esz l h m p (wv H K))
   | _,_,_,_=>False)
 | .mkSl pu esz bytes z l c =>
  (match ylA E F l,ylA E F c with
   | some l,some c=>asr (decide (0≤l)) (asr (decide (l≤c)) (asr (decide ((c.toNat+64)*(bytes+1)≤room))
      (K (some (.v (.own H.length 0 l.toNat c.toNat (some c.toNat)))) none (H++[⟨false,pu,esz,List.replicate c.toNat z⟩]))))
   | _,_=>False)
 | .app pu esz bytes s x =>
  (match evV E F s,evV E F x with
   | some s,some x=>yP4 H x fun ys=>asr (yeC esz ys) (asr (ywq H pu x) (WApp a.md H pu esz bytes s ys fun r H'=>K (some (.v r)) none H'))
   | _,_=>False)
 | .appZ pu esz bytes z s n =>
  (match evV E F s,ylA E F n with
   | some .nils,some k=>asr (decide (0≤k)) (cbr (decide (k.toNat=0)) (wv H K .nils) (yAM H pu esz bytes (List.replicate k.toNat z) fun r H'=>K (some (.v r)) none H'))
   | _,_=>False)
 | .eqN neg x =>
  (match evV E F x with
   | some .nils=>wv H K (.bool (bif neg then false else true))
   | some (.mt b)=>wv H K (.bool (bif neg then !b else b))
   | some (.data rows)=>asr (!rows.isEmpty) (wv H K (.bool neg))
   | some (.own _ _ _ _ _)=>wv H K (.bool neg)
   | _=>False)
 | .clr pu esz z x =>
  (match evV E F x with
   | some .nils=>wv H K (.tup [])
   | some .emp=>wv H K (.tup [])
   | some (.mt _)=>wv H K (.tup [])
   | some (.own id lo len ext _)=>(match H[id]? with
    | some b=>cbr (decide (len=0)) (wv H K (.tup [])) (asr (decide (b.rows.length=ext)) (asr (decide (lo+len≤ext)) (asr (!b.fz) (asr (b.pu == pu) (asr (Nat.beq b.esz esz) (K (some (.v (.tup []))) none (H.set id { b with rows:=b.rows.take lo++(List.replicate len z++b.rows.drop (lo+len)) })))))))
    | none=>False)
   | _=>False)
 | .boxH pu esz x =>
  (match evV E F x with
   | some p=>yDO pu H p fun q H'=>asr (Nat.beq q.cells.length esz&&yfi q.cells) (K (some (.v (.ptr H'.length 1 0 0))) none (H'++[⟨false,pu,esz,[q]⟩]))
   | none=>False)
 | .buildSl pu esz z len parts =>
  (match len with
   | 0=>wv H K .emp
   | len+1=>yG7 E F pu esz (List.replicate (len+1) z) H parts fun rows H'=>K (some (.v (.own H'.length 0 (len+1) (len+1) (some (len+1))))) none (H'++[⟨false,pu,esz,rows⟩]))
 | .buildN pu esz z len parts =>
  (match len with
   | 0=>wv H K .emp
   | len+1=>yG7 E F pu esz (List.replicate (len+1) z) H parts fun rows H'=>K (some (.v (.own H'.length 0 (len+1) (len+1) none))) none (H'++[⟨false,pu,esz,rows⟩]))
 | .buildD esz z len parts =>
  (match len with
   | 0=>wv H K .emp
   | len+1=>yG7 E F true esz (List.replicate (len+1) z) H parts fun rows H'=>K (some (.v (.data rows))) none H')
 | .call f args =>
  (match evV E F f,evs E F args with
   | some g,some vs=>callK g vs H fun r H'=>K (some (.v r)) none H'
   | _,_=>False)
 | o=>(match yap E yDN F H o with | some ⟨x,bx,H'⟩=>K x bx H' | none=>False)
def frep:Frm→Nat→FV→Frm
 | [],_,_=>[]
 | (k,y)::r,s,x=>bif Nat.beq k s then (k,x)::r else (k,y)::frep r s x
def yH6 (F:Frm) (g:Option (Nat×Bool)) (yes no:Frm→Prop):Prop :=
 match g with
 | none=>yes F
 | some (s,want)=>(match fget F s with
  | some (.v (.bool b))=>(match want with
   | true=>cbr b (yes (frep F s (.v (.bool true)))) (no (frep F s (.v (.bool false))))
   | false=>cbr b (no (frep F s (.v (.bool true)))) (yes (frep F s (.v (.bool false)))))
  | some (.v (.tup []))=>no F
  | _=>False)
def fref (F:Frm) (c:Opd) (b:Bool):Frm :=
 match c with
 | .t s=>frep F s (.v (.bool b))
 | _=>F
def yvv (F:Frm):Option Nat→Frm
 | some d=>fset F d (.v (.tup []))
 | none=>F
def frcP (p:PV) (K:PV→Prop):Prop :=
 match p with
 | .bool b=>K (.bool b)
 | .int k n=>K (.int k n)
 | .agg cs=>K (.agg cs)
 | .data r=>K (.data r)
 | .own a b c d e=>K (.own a b c d e)
 | .ptr a b c d=>K (.ptr a b c d)
 | p=>K p
def frcL:List PV→(List PV→Prop)→Prop
 | [],K=>K []
 | x::r,K=>frcP x fun x=>frcL r fun r=>K (x::r)
def frcA (p:PV) (K:PV→Prop):Prop :=
 match p with
 | .agg cs=>frcL cs fun cs=>K (.agg cs)
 | .tup cs=>frcL cs fun cs=>K (.tup cs)
 | p=>frcP p K
def frcV (x:FV) (K:FV→Prop):Prop :=
 match x with
 | .v p=>frcA p fun p=>K (.v p)
 | .box p=>frcA p fun p=>K (.box p)
 | .bp s o=>K (.bp s o)
def frcF:Frm→(Frm→Prop)→Prop
 | [],K=>K []
 | (k,x)::r,K=>frcV x fun x=>frcF r fun r=>K ((k,x)::r)
def frcB (b:Bool) (K:Bool→Prop):Prop:=match b with | true=>K true | false=>K false
def frcH:Hp→(Hp→Prop)→Prop
 | [],K=>K []
 | ⟨fz,pu,esz,rows⟩::r,K=>frcB fz fun fz=>frcB pu fun pu=>frcH r fun r=>K (⟨fz,pu,esz,rows⟩::r)
theorem yNy (p:PV) (K:PV→Prop):frcP p K=K p:=by cases p <;> rfl
theorem yNz:∀ (l:List PV) (K:List PV→Prop),frcL l K=K l
 | [],_=>rfl
 | x::r,K=>by simp only [frcL,yNy,yNz r]
theorem ySc (p:PV) (K:PV→Prop):frcA p K=K p:=by cases p <;> simp only [frcA,yNz,yNy]
theorem ySd (x:FV) (K:FV→Prop):frcV x K=K x:=by cases x <;> simp only [frcV,ySc]
theorem yNA:∀ (F:Frm) (K:Frm→Prop),frcF F K=K F
 | [],_=>rfl
 | (k,x)::r,K=>by simp only [frcF,ySd,yNA r]
theorem ySe (b:Bool) (K:Bool→Prop):frcB b K=K b:=by cases b <;> rfl
theorem yNB:∀ (H:Hp) (K:Hp→Prop),frcH H K=K H
 | [],_=>rfl
 | ⟨fz,pu,esz,rows⟩::r,K=>by simp only [frcH,ySe,yNB r]
def frc (F:Frm) (H:Hp) (K:Frm→Hp→Prop):Prop:=frcF F fun F=>frcH H fun H=>K F H
theorem yH7 (F:Frm) (H:Hp) (K:Frm→Hp→Prop):frc F H K=K F H:=by simp only [frc,yNA,yNB]
def WOps (E:Env) (callK:CK) (an:List An):List AOper→Nat→Frm→Hp→(Frm→Hp→Prop)→Prop
 | [],_,F,H,K=>K F H
 | o::r,i,F,H,K =>
  yH6 F o.guard
   (fun F=>WOp E callK (anOf an i) F H o.op fun x bx H'=>match yg3 (yjG F bx) o.dst x with
    | none=>False
    | some F'=>frc F' H' fun F' H'=>WOps E callK an r (i+1) F' H' K)
   (fun F=>WOps E callK an r (i+1) (yvv F o.dst) H K)
def yJW (E:Env) (F:Frm) (H:Hp) (o:AOper):FP :=
 let p:=fpOp E F H o.op;⟨yAA o.guard++p.rd,o.dst.toList++p.wr,p.hr,p.hw,p.push,p.all⟩
def fpNo (o:AOper):FP:=⟨yAA o.guard,o.dst.toList,[],[],false,false⟩
def WFps (E:Env) (callK:CK) (an:List An) (F0:Frm) (l0:List AOper) (pairs:List (Nat×Nat)):List AOper→Nat→Frm→Hp→List FP→(Frm→Hp→Prop)→Prop
 | [],_,F,H,ps,K=>asr (ys9 ps.reverse pairs&&yvn F0 l0 l0) (K F H)
 | o::r,i,F,H,ps,K =>
  yH6 F o.guard
   (fun F=>WOp E callK (anOf an i) F H o.op fun x bx H'=>match ykC (yjG F bx) o.dst x with
    | none=>False
    | some F'=>frc F' H' fun F' H'=>WFps E callK an F0 l0 pairs r (i+1) F' H' (yJW E F H o::ps) K)
   (fun F=>WFps E callK an F0 l0 pairs r (i+1) (yvv F o.dst) H (fpNo o::ps) K)
abbrev LP:=Nat→Frm→Hp→(Ex→Frm→Hp→Prop)→Prop
def WC (E:Env) (callK:CK) (lp:LP):TCode→Frm→Hp→(Ex→Frm→Hp→Prop)→Prop
 | .skip,F,H,Q=>Q .norm F H
 | .ops l an [] fg,F,H,Q=>WOps E callK an l 0 F H fun F' H'=>frc (fdels F' fg) H' fun F' H'=>Q .norm F' H'
 | .ops l an (p::ps) fg,F,H,Q=>WFps E callK an (yqH F l) l (p::ps) l 0 (yqH F l) H [] fun F' H'=>frc (fdels F' fg) H' fun F' H'=>Q .norm F' H'
 | .seq a b,F,H,Q=>WC E callK lp a F H fun x F' H'=>match x with
  | .norm=>WC E callK lp b F' H' Q
  | .exit i=>Q (.exit i) F' H'
  | .ret=>Q .ret F' H'
 | .cond c a b,F,H,Q=>(match evV E F c with
  | some (.bool t)=>cbr t (WC E callK lp a (fref F c true) H Q) (WC E callK lp b (fref F c false) H Q)
  | _=>False)
 | .block id b,F,H,Q=>WC E callK lp b F H fun x F' H'=>match x with
  | .norm=>Q .norm F' H'
  | .exit i=>(bif Nat.beq i id then Q .norm F' H' else Q (.exit i) F' H')
  | .ret=>Q .ret F' H'
 | .loop id _,F,H,Q=>lp id F H Q
 | .exit id,F,H,Q=>Q (.exit id) F H
 | .ret,F,H,Q=>Q .ret F H
 | .bad,_,_,_=>False
def WFn (E:Env) (callK:CK) (lp:LP) (fn:TFn) (args:List PV) (H:Hp) (K:PV→Hp→Prop):Prop :=
 asr (decide (args.length=fn.nparams)) (WC E callK lp fn.body (yns 0 args) H fun x F' H'=>match x with
  | .exit _=>False
  | .norm | .ret=>(match ynr F' H' fn.results with | some ps=>K (yoN ps) H' | none=>False))
structure SE where
 E:Env
 sumK:Nat→Option (List PV→(PV→Prop)→Prop)
 inl:Nat→Option TFn
 lp:LP
def ybd (S:SE):Nat→CK
 | 0,_,_,_,_=>False
 | d+1,f,args,H,K =>
  match f with
  | .fn (.func n) first captured =>
   (match S.sumK n with
    | some wp=>(bif S.E.rb n then yH5 (iceH H) (first++args++captured) fun as=>wp as fun r=>asr r.scalar (K r H)
     else yJU H (first++args++captured) fun as H'=>wp as fun r=>K r (bif r.scalar then H else H'))
    | none=>(match S.inl n with
     | some fn=>(bif S.E.rb n then False else WFn S.E (ybd S d) S.lp fn (first++args++captured) H K)
     | none=>(match S.E.eff n (first++args++captured) H with
      | some (c,t,x,y)=>asr c (cbr t (K x.1 x.2) (K y.1 y.2))
      | none=>False)))
  | _=>False
@[irreducible] def WP (S:SE) (d:Nat) (fn:TFn) (args:List PV) (K:PV→Prop):Prop :=
 WFn S.E (ybd S d) S.lp fn args [] fun r H=>yNw H r K
end Go.Pf
namespace Go.Pf
open Go
def Good (E:Env) (callK:CK):Prop :=
 ∀ f args H K,callK f args H K→∃ r H',K r H'∧∃ m0,∀ m,m0≤m→ynW E (ybK E m) f args H=some (r,H')
def yL8 (E:Env) (F:Frm) (H:Hp) (o:AOp) (K:OK):Prop :=
 ∃ out:Out,K out.x out.bx out.h∧∃ m0,∀ m,m0≤m→yap E (ybK E m) F H o=some out
section
variable {E:Env} {callK:CK} {F:Frm} {H:Hp} {K:OK}
theorem yBT {o:AOp} (h:yqM o=false) (c1 c2:Nat→List PV→Hp→Option (PV×Hp)):yap E c1 F H o=yap E c2 F H o:=by
 cases o <;> first | rfl | simp [yqM] at h
theorem yL8.of {o:AOp} (_hc:yqM o=false) {out:Out} (hk:K out.x out.bx out.h) (h:∀ call,yap E call F H o=some out):yL8 E F H o K:=⟨out,hk,0,fun _ _=>h _⟩
theorem yDP {o:AOp} (hc:yqM o=false) (h:match yap E yDN F H o with | some ⟨x,bx,H'⟩=>K x bx H' | none=>False):yL8 E F H o K:=by
 split at h
 ·rename_i x bx H' he
  exact ⟨⟨x,bx,H'⟩,h,0,fun m _=>by rw [yBT hc (ybK E m) yDN,he]⟩
 ·exact h.elim
theorem yJX {H:Hp} {x:PV} {K:PV→Hp→Prop} (h:yNu H x K):∃ y H',K y H'∧yiJ H x=some (y,H'):=by
 unfold yNu at h
 split at h
 ·exact ⟨_,_,h,rfl⟩
 ·exact ⟨_,_,h,rfl⟩
 ·exact ⟨_,_,h,rfl⟩
 ·exact ⟨_,_,h,rfl⟩
 ·exact ⟨_,_,h,rfl⟩
 ·split at h
  ·rename_i b hb
   obtain ⟨h1,h⟩:=yah.1 h
   obtain ⟨h2,h⟩:=yah.1 h
   obtain ⟨h3,h⟩:=yah.1 h
   exact ⟨_,_,h,by simp only [yiJ,hb];rw [if_pos ⟨by simpa using h1,by simpa using h2,h3⟩]⟩
  ·exact h.elim
 ·exact h.elim
theorem yJY:∀ (l:List PV) (H:Hp) (K:List PV→Hp→Prop),yNv H l K→∃ ys H',K ys H'∧ygC H l=some (ys,H')
 | [],H,K,h=>⟨_,_,h,rfl⟩
 | x::r,H,K,h=>by
  simp only [yNv] at h
  obtain ⟨y,H1,h,e1⟩:=yJX h
  obtain ⟨ys,H2,h,e2⟩:=yJY r H1 _ h
  exact ⟨_,_,h,by simp only [ygC,e1,e2]⟩
theorem ytQ {H:Hp} {x:PV} {K:PV→Hp→Prop} (h:yyS H x K):∃ y H',K y H'∧ydL H x=some (y,H'):=by
 cases x with
 | agg cs =>
  simp only [yyS] at h
  obtain ⟨ys,H',h,e⟩:=yJY cs H _ h
  exact ⟨_,_,h,by simp only [ydL,e,Option.map]⟩
 | _ =>
  simp only [yyS] at h
  obtain ⟨y,H',h,e⟩:=yJX h
  exact ⟨_,_,h,by simp only [ydL,e]⟩
theorem yDQ:∀ (l:List PV) (H:Hp) (K:List PV→Hp→Prop),yJU H l K→∃ ys H',K ys H'∧ybt H l=some (ys,H')
 | [],H,K,h=>⟨_,_,h,rfl⟩
 | x::r,H,K,h=>by
  simp only [yJU] at h
  obtain ⟨y,H1,h,e1⟩:=ytQ h
  obtain ⟨ys,H2,h,e2⟩:=yDQ r H1 _ h
  exact ⟨_,_,h,by simp only [ybt,e1,e2]⟩
theorem yP5 {H:Hp} {x:PV} {K:PV→Prop} (h:yNx H x K):∃ y,K y∧purP H x=some y:=by
 have base:∀ {x:PV},yyS H x (fun q _=>K q)→∃ y,K y∧(match ydL H x with | some (q,_)=>some q | none=>none)=some y:=fun h=>by
  obtain ⟨y,H',h,e⟩:=ytQ h
  exact ⟨y,h,by simp only [e]⟩
 cases x with
 | ptr id ext i off =>
  simp only [yNx] at h
  split at h
  ·rename_i b hb
   obtain ⟨h1,h⟩:=yah.1 h
   split at h
   ·rename_i row hrow
    obtain ⟨y,H',h,e⟩:=ytQ h
    exact ⟨_,h,by simp only [purP,hb,hrow,e];rw [if_pos (by simpa using h1)]⟩
   ·exact h.elim
  ·exact h.elim
 | eptr rows i off=>exact ⟨_,h,rfl⟩
 | _=>simp only [yNx] at h;exact base h
theorem yG8 {H:Hp}:∀ (l:List PV) (K:List PV→Prop),yH5 H l K→∃ ys,K ys∧yyx H l=some ys
 | [],K,h=>⟨_,h,rfl⟩
 | x::r,K,h=>by
  simp only [yH5] at h
  obtain ⟨y,h,e1⟩:=yP5 h
  obtain ⟨ys,h,e2⟩:=yG8 r _ h
  exact ⟨_,h,by simp only [yyx,e1,e2]⟩
theorem yP6 {H:Hp} {x:PV} {K:PV→Prop} (h:yNw H x K):∃ q,K q∧purR H x=some q:=by
 cases x with
 | tup ps =>
  simp only [yNw] at h
  obtain ⟨ys,H',h,e⟩:=yDQ ps H _ h
  exact ⟨_,h,by simp only [purR,e]⟩
 | _ =>
  simp only [yNw] at h
  obtain ⟨y,H',h,e⟩:=ytQ h
  exact ⟨_,h,by simp only [purR,e]⟩
theorem yAN {pu:Bool} {H:Hp} {x:PV} {K:PV→Hp→Prop} (h:yDO pu H x K):∃ y H',K y H'∧(if pu then ydL H x else some (x,H))=some (y,H'):=by
 cases pu with
 | true=>simp only [yDO] at h;obtain ⟨y,H',h,e⟩:=ytQ h;exact ⟨y,H',h,by simpa using e⟩
 | false=>exact ⟨_,_,h,by simp⟩
theorem yyT {pu:Bool} {esz:Nat}:∀ (l:List (Nat×Opd)) (rows:List PV) (H:Hp) (K:List PV→Hp→Prop),yG7 E F pu esz rows H l K →
  ∃ rows' H',K rows' H'∧ynV E F pu esz rows H l=some (rows',H')
 | [],rows,H,K,h=>⟨_,_,h,rfl⟩
 | (i,x)::r,rows,H,K,h=>by
  simp only [yG7] at h
  split at h
  ·rename_i p hp
   obtain ⟨q,H',h,e⟩:=yAN h
   obtain ⟨h1,h⟩:=yah.1 h
   simp only [qAc] at h1
   obtain ⟨rows',H2,h,e2⟩:=yyT r _ H' K h
   refine ⟨rows',H2,h,?_⟩
   simp only [ynV,hp,e]
   rw [if_pos ⟨qAg h1.1.1,(show i+1≤rows.length from Nat.le_of_ble_eq_true h1.1.2),h1.2⟩]
   exact e2
  ·exact h.elim
theorem ySf {op:BinOp} {k k':IntKind} {a b:Int} {K:PV→Prop} (h:WBin op k k' a b K):∃ r,K r∧binV op (.int k a) (.int k' b)=some r:=by
 cases op <;> simp only [WBin] at h
 case quo =>
  obtain ⟨h1,h2⟩:=yah.1 h
  obtain ⟨h3,h4⟩:=yah.1 h2
  have e1:k=k':=by simpa using h1
  have e2:¬b=0:=by simpa using h3
  exact ⟨_,h4,by simp [binV,e1,binI,e2]⟩
 case rem =>
  obtain ⟨h1,h2⟩:=yah.1 h
  obtain ⟨h3,h4⟩:=yah.1 h2
  have e1:k=k':=by simpa using h1
  have e2:¬b=0:=by simpa using h3
  exact ⟨_,h4,by simp [binV,e1,binI,e2]⟩
 case shl =>
  obtain ⟨h1,h2⟩:=yah.1 h
  have e1:¬b<0:=by simpa using h1
  exact ⟨_,h2,by simp only [binV,yAy,e1,if_false]⟩
 case shr =>
  obtain ⟨h1,h2⟩:=yah.1 h
  have e1:¬b<0:=by simpa using h1
  exact ⟨_,h2,by simp only [binV,yAy,e1,if_false]⟩
 all_goals
  obtain ⟨h1,h2⟩:=yah.1 h
  have e1:k=k':=by simpa using h1
  split at h2
  ·rename_i r hr
   exact ⟨r,h2,by simp only [binV,e1,if_true];rw [← e1];exact hr⟩
  ·exact h2.elim
theorem yry {n:Nat} {j:Int} {K:Nat→Prop}:∀ m,m≤n→yxp n j K m→∃ k:Nat,K k∧j=(k:Int)∧k<n
 | 0,_,h=>h.elim
 | m+1,hm,h=>by
  simp only [yxp] at h
  obtain ⟨h1,h2⟩:=ykK.1 h
  by_cases hj:j=((n-(m+1):Nat):Int)
  ·exact ⟨_,h1 (by simpa using hj),hj,by omega⟩
  ·exact yry m (by omega) (h2 (by simpa using hj))
theorem yG9:∀ (cs:List PV) (i:Nat),yJV cs=true→i<cs.length→cs[i]?=some (.int .u8 (yaa (cs.getD i .nils)))
 | [],i,_,h=>by simp at h
 | x::r,i,hu,hi=>by
  cases x with
  | int k n =>
   cases k <;> simp only [yJV,qAp] at hu
   cases i with
   | zero=>simp [yaa]
   | succ i=>have:=yG9 r i hu (by simpa using hi);simpa using this
  | _=>simp [yJV] at hu
theorem yP7 {x:PV} {K:List PV→Prop} (h:yP4 H x K):∃ ys,K ys∧ylG H x=some ys:=by
 unfold yP4 at h
 split at h
 ·exact ⟨_,h,rfl⟩
 ·exact ⟨_,h,rfl⟩
 ·exact ⟨_,h,rfl⟩
 ·split at h
  ·rename_i b hb
   obtain ⟨h1,h2⟩:=yah.1 h
   obtain ⟨h3,h4⟩:=yah.1 h2
   exact ⟨_,h4,by simp only [ylG,hb];rw [if_pos ⟨by simpa using h1,by simpa using h3⟩]⟩
  ·exact h.elim
 ·exact h.elim
theorem yvw {pu:Bool} {esz bytes:Nat} {rows:List PV} {K:PV→Hp→Prop} (h:yAM H pu esz bytes rows K):∃ r H',K r H'∧yfa H pu esz bytes rows=some (r,H'):=by
 obtain ⟨h1,h2⟩:=yah.1 h
 exact ⟨_,_,h2,by simp only [yfa];rw [if_pos (by simpa using h1)]⟩
def appS (H:Hp) (pu:Bool) (esz bytes:Nat) (ys:List PV):PV→Option (PV×Hp)
 | .nils=>if ys.isEmpty then some (.nils,H) else yfa H pu esz bytes ys
 | .emp=>if ys.isEmpty then some (.emp,H) else yfa H pu esz bytes ys
 | .own id lo len ext cap =>
  (match H[id]? with
   | some b=>if b.rows.length=ext∧b.pu=pu∧b.esz=esz∧lo+len≤ext then
    (if ys.isEmpty then some (.own id lo len ext cap,H) else ykB H pu esz bytes ys id lo len ext cap b) else none
   | none=>none)
 | _=>none
theorem ySg {md:Nat} {pu:Bool} {esz bytes:Nat} {s x:PV} {ys:List PV} {K:PV→Hp→Prop} (hy:ylG H x=some ys) (hh:yeC esz ys=true) (hs:ywq H pu x=true) (h:WApp md H pu esz bytes s ys K) :
  ∃ r H',K r H'∧appV H pu esz bytes s x=some (r,H'):=by
 have e0:appV H pu esz bytes s x=appS H pu esz bytes ys s:=by
  simp only [appV,hy];rw [if_pos ⟨hh,hs⟩];cases s <;> rfl
 rw [e0]
 clear e0 hy hs
 unfold WApp at h
 split at h
 ·obtain ⟨h1,h2⟩:=ykK.1 h
  cases hE:ys.isEmpty with
  | true=>exact ⟨_,_,h1 hE,by simp [appS,hE]⟩
  | false =>
   obtain ⟨r,H',hk,hf⟩:=yvw (h2 hE)
   exact ⟨r,H',hk,by simp [appS,hE,hf]⟩
 ·obtain ⟨h1,h2⟩:=ykK.1 h
  cases hE:ys.isEmpty with
  | true=>exact ⟨_,_,h1 hE,by simp [appS,hE]⟩
  | false =>
   obtain ⟨r,H',hk,hf⟩:=yvw (h2 hE)
   exact ⟨r,H',hk,by simp [appS,hE,hf]⟩
 ·rename_i id lo len ext cap
  split at h
  ·rename_i b hb
   obtain ⟨h1,h⟩:=yah.1 h
   obtain ⟨h2,h⟩:=yah.1 h
   obtain ⟨h3,h⟩:=yah.1 h
   simp only [qAc,decide_eq_true_eq] at h1 h2 h3
   obtain ⟨k1,k2⟩:=ykK.1 h
   have hc:b.rows.length=ext∧b.pu=pu∧b.esz=esz∧lo+len≤ext:=⟨h1,h2.1,h2.2,h3⟩
   cases hE:ys.isEmpty with
   | true=>exact ⟨_,_,k1 hE,by simp only [appS,hb];rw [if_pos hc];simp [hE]⟩
   | false =>
    have h:=k2 hE
    suffices ∃ r H',K r H'∧ykB H pu esz bytes ys id lo len ext cap b=some (r,H') by
     obtain ⟨r,H',hk,hf⟩:=this
     exact ⟨r,H',hk,by simp only [appS,hb];rw [if_pos hc];simp [hE,hf]⟩
    cases cap with
    | some c =>
     simp only at h
     have key1:decide (len+ys.length≤c)=true→asr (!b.fz) (K (.own id lo (len+ys.length) ext (some c)) (H.set id { b with rows:=b.rows.take (lo+len)++(ys++b.rows.drop (lo+len+ys.length)) })) →
       ∃ r H',K r H'∧ykB H pu esz bytes ys id lo len ext (some c) b=some (r,H'):=by
      intro e1 e2
      obtain ⟨e3,e4⟩:=yah.1 e2
      refine ⟨_,_,e4,?_⟩
      simp only [ykB]
      rw [if_pos (by simpa using e1),if_pos (by simpa using e3)]
     have key2:decide (len+ys.length≤c)=false→yAM H pu esz bytes ((b.rows.drop lo).take len++ys) K →
       ∃ r H',K r H'∧ykB H pu esz bytes ys id lo len ext (some c) b=some (r,H'):=by
      intro e1 e2
      obtain ⟨r,H',hk,hf⟩:=yvw e2
      refine ⟨r,H',hk,?_⟩
      simp only [ykB]
      rw [if_neg (by simpa using e1)]
      exact hf
     split at h
     ·obtain ⟨a1,a2⟩:=ykK.1 h
      cases hd:decide (len+ys.length≤c) with
      | true=>exact key1 hd (a1 hd)
      | false=>exact key2 hd (a2 hd)
     ·obtain ⟨a1,a2⟩:=yah.1 h;exact key2 (by simpa using a1) a2
     ·obtain ⟨a1,a2⟩:=yah.1 h;exact key1 a1 a2
    | none =>
     simp only at h
     obtain ⟨hfz,h⟩:=yah.1 h
     have hfz':¬b.fz=true:=by simpa using hfz
     have key1:decide (lo+len+ys.length≤ext)=true→K (.own id lo (len+ys.length) ext none) (H.set id { b with rows:=b.rows.take (lo+len)++(ys++b.rows.drop (lo+len+ys.length)) }) →
       ∃ r H',K r H'∧ykB H pu esz bytes ys id lo len ext none b=some (r,H'):=by
      intro e1 e2
      refine ⟨_,_,e2,?_⟩
      simp only [ykB]
      rw [if_neg hfz',if_pos (by simpa using e1)]
     have key3:decide (lo+len+ys.length≤ext)=false→asr (decide (lo=0)) (asr (decide (len=ext)) (asr (decide ((ext+ys.length+64)*(bytes+1)≤room))
        (K (.own id 0 (b.rows++ys).length (b.rows++ys).length none) (H.set id { b with rows:=b.rows++ys })))) →
       ∃ r H',K r H'∧ykB H pu esz bytes ys id lo len ext none b=some (r,H'):=by
      intro e1 e2
      obtain ⟨e3,e2⟩:=yah.1 e2
      obtain ⟨e4,e2⟩:=yah.1 e2
      obtain ⟨e5,e2⟩:=yah.1 e2
      simp only [decide_eq_true_eq] at e3 e4 e5
      refine ⟨_,_,e2,?_⟩
      simp only [ykB]
      rw [if_neg hfz',if_neg (by simpa using e1),if_pos ⟨e3,e4,e5⟩]
      simp only [qAn,h1]
     split at h
     ·obtain ⟨a1,a2⟩:=ykK.1 h
      cases hd:decide (lo+len+ys.length≤ext) with
      | true=>exact key1 hd (a1 hd)
      | false=>exact key3 hd (a2 hd)
     ·obtain ⟨a1,a2⟩:=yah.1 h;exact key1 a1 a2
     ·obtain ⟨a1,a2⟩:=yah.1 h;exact key3 (by simpa using a1) a2
  ·exact h.elim
 ·exact h.elim
theorem yOC {esz:Nat} {lo hi mx:Option Int} {x:PV} {K:PV→Prop} (h:yL7 H esz lo hi mx x K):∃ r,K r∧ylH H esz lo hi mx x=some r:=by
 unfold yL7 at h
 split at h
 ·obtain ⟨h1,h2⟩:=yah.1 h
  simp only [qAc,decide_eq_true_eq] at h1
  exact ⟨_,h2,by simp only [ylH];rw [if_pos h1]⟩
 ·obtain ⟨h1,h2⟩:=yah.1 h
  simp only [qAc,decide_eq_true_eq] at h1
  exact ⟨_,h2,by simp only [ylH];rw [if_pos h1]⟩
 ·rename_i rows
  simp only at h
  split at h
  ·obtain ⟨h1,h⟩:=yah.1 h
   obtain ⟨h2,h⟩:=yah.1 h
   obtain ⟨h3,h⟩:=yah.1 h
   obtain ⟨h4,h⟩:=yah.1 h
   simp only [Bool.or_eq_true,decide_eq_true_eq] at h1 h2 h3 h4
   exact ⟨_,h,by simp only [ylH];rw [if_pos ⟨h1,h2,h3,h4⟩]⟩
  ·rename_i m
   obtain ⟨h1,h⟩:=yah.1 h
   obtain ⟨h2,h⟩:=yah.1 h
   obtain ⟨h3,h⟩:=yah.1 h
   obtain ⟨h4,h⟩:=yah.1 h
   obtain ⟨h5,h⟩:=yah.1 h
   obtain ⟨k1,k2⟩:=ykK.1 h
   simp only [Bool.or_eq_true,decide_eq_true_eq] at h1 h2 h3 h4 h5
   by_cases hl:lo.getD 0=m
   ·exact ⟨_,k1 (by simpa using hl),by simp only [ylH];rw [if_pos ⟨h1,h2,h3,h4,h5⟩,if_pos hl]⟩
   ·exact ⟨_,k2 (by simpa using hl),by simp only [ylH];rw [if_pos ⟨h1,h2,h3,h4,h5⟩,if_neg hl]⟩
 ·rename_i id lo0 len ext cap
  simp only at h
  split at h
  ·rename_i b hb
   obtain ⟨h0,h⟩:=yah.1 h
   split at h
   ·obtain ⟨h1,h⟩:=yah.1 h
    obtain ⟨h2,h⟩:=yah.1 h
    obtain ⟨h3,h⟩:=yah.1 h
    simp only [Bool.or_eq_true,decide_eq_true_eq] at h1 h2 h3
    exact ⟨_,h,by simp only [ylH,hb,h0,Bool.true_eq_false,if_false];rw [if_pos ⟨h1,h2,h3⟩]⟩
   ·obtain ⟨h1,h⟩:=yah.1 h
    obtain ⟨h2,h⟩:=yah.1 h
    obtain ⟨h3,h⟩:=yah.1 h
    obtain ⟨h4,h⟩:=yah.1 h
    simp only [Bool.or_eq_true,decide_eq_true_eq] at h1 h2 h3 h4
    exact ⟨_,h,by simp only [ylH,hb,h0,Bool.true_eq_false,if_false];rw [if_pos ⟨h1,h2,h3,h4⟩]⟩
  ·exact h.elim
 ·exact h.elim
theorem yNC {sh:Sh} {rows:List PV} {i:Nat} {K:PV→Prop} (h:WRow sh rows i K):∃ r,K r∧rows[i]?=some r:=by
 have key:asr (decide (i<rows.length)) (asr (conf sh (rows.getD i .nils)) (K (expl sh (rows.getD i .nils))))→∃ r,K r∧rows[i]?=some r:=by
  intro h
  obtain ⟨h1,h⟩:=yah.1 h
  obtain ⟨h2,h⟩:=yah.1 h
  have hi:i<rows.length:=by simpa using h1
  rw [yG6 _ _ h2] at h
  refine ⟨_,h,?_⟩
  rw [qAb hi,qAa,qAb hi];rfl
 unfold WRow at h
 split at h
 ·split at h
  ·rename_i r hr;exact ⟨r,h,hr⟩
  ·exact h.elim
 ·exact key h
theorem yP8 (hG:Good E callK) {a:An} {o:AOp} (h:WOp E callK a F H o K):yL8 E F H o K:=by
 cases o
 case pick c x y =>
  simp only [WOp] at h
  split at h
  ·rename_i t ht
   obtain ⟨h1,h2⟩:=ykK.1 h
   cases t with
   | true =>
    have h:=h1 rfl
    split at h
    ·rename_i p hp;exact ⟨⟨some (.v p),none,H⟩,h,0,fun m _=>by simp only [yap,ht,hp];rfl⟩
    ·exact h.elim
   | false =>
    have h:=h2 rfl
    split at h
    ·rename_i p hp;exact ⟨⟨some (.v p),none,H⟩,h,0,fun m _=>by simp only [yap,ht,hp];rfl⟩
    ·exact h.elim
  ·exact h.elim
 case bin op x y =>
  simp only [WOp] at h
  split at h
  ·rename_i k p k' q hx hy
   obtain ⟨r,hk,hr⟩:=ySf h
   exact ⟨⟨some (.v r),none,H⟩,hk,0,fun m _=>by simp only [yap,hx,hy,hr];rfl⟩
  ·exact h.elim
 case eqN neg x =>
  simp only [WOp] at h
  split at h
  ·rename_i hx
   exact ⟨⟨some (.v (.bool (bif neg then false else true))),none,H⟩,h,0,fun m _=>by simp only [yap,hx];cases neg <;> rfl⟩
  ·rename_i b hx
   exact ⟨⟨some (.v (.bool (bif neg then !b else b))),none,H⟩,h,0,fun m _=>by simp only [yap,hx];cases neg <;> rfl⟩
  ·rename_i rows hx
   obtain ⟨h1,h⟩:=yah.1 h
   cases rows with
   | nil=>simp at h1
   | cons q l=>exact ⟨⟨some (.v (.bool neg)),none,H⟩,h,0,fun m _=>by simp only [yap,hx];cases neg <;> rfl⟩
  ·rename_i hx
   exact ⟨⟨some (.v (.bool neg)),none,H⟩,h,0,fun m _=>by simp only [yap,hx];cases neg <;> rfl⟩
  ·exact h.elim
 case load agg sz x =>
  simp only [WOp] at h
  split at h
  ·rename_i id ext i off hx
   split at h
   ·rename_i b hb
    obtain ⟨h1,h⟩:=yah.1 h
    obtain ⟨row,h,hr⟩:=yNC h
    split at h
    ·rename_i p hp
     exact ⟨⟨some (.v p),none,H⟩,h,0,fun m _=>by simp only [yap,hx,hb];rw [if_pos (by simpa using h1)];simp only [hr,hp];rfl⟩
    ·exact h.elim
   ·exact h.elim
  ·exact yDP rfl h
 case store sz x y =>
  simp only [WOp] at h
  split at h
  ·rename_i id ext i off hx
   split at h
   ·rename_i p hp
    split at h
    ·rename_i b0 hb0
     obtain ⟨q,H',h,hq⟩:=yAN h
     split at h
     ·rename_i b hb
      obtain ⟨h1,h⟩:=yah.1 h
      obtain ⟨h2,h⟩:=yah.1 h
      obtain ⟨row,h,hr⟩:=yNC h
      split at h
      ·rename_i row' hrow
       refine ⟨⟨none,none,H'.set id { b with rows:=b.rows.set i row' }⟩,h,0,fun m _=>?_⟩
       have e1:b.rows.length=ext:=by simpa using h1
       have e2:b.fz=false:=by simpa using h2
       simp only [yap,hp,hx,hb0,hq,hb,hr,hrow]
       rw [if_pos ⟨e1,e2⟩]
      ·exact h.elim
     ·exact h.elim
    ·exact h.elim
   ·exact h.elim
  ·exact yDP rfl h
 case iad esz x i =>
  simp only [WOp] at h
  split at h
  ·rename_i rows n hx hi
   obtain ⟨h1,h⟩:=yah.1 h
   obtain ⟨h2,h⟩:=yah.1 h
   obtain ⟨h3,h⟩:=yah.1 h
   obtain ⟨h4,h⟩:=yah.1 h
   simp only [decide_eq_true_eq] at h1 h2
   rw [yG6 _ _ h3] at h h4
   have hlt:n.toNat<rows.length:=by omega
   have e:rows[n.toNat]?=some (rows.getD n.toNat .nils):=by
    rw [qAb hlt,qAa,qAb hlt];rfl
   refine ⟨⟨_,_,_⟩,h,0,fun m _=>?_⟩
   simp only [yap,hx,hi]
   rw [if_pos ⟨h1,h2⟩]
   simp only [e]
   rw [if_pos (by simpa using h4)]
   rfl
  ·rename_i id lo len ext cap n hx hi
   split at h
   ·rename_i b hb
    obtain ⟨h1,h⟩:=yah.1 h
    obtain ⟨h2,h⟩:=yah.1 h
    obtain ⟨h3,h⟩:=yah.1 h
    simp only [decide_eq_true_eq] at h1 h2 h3
    refine ⟨⟨_,_,_⟩,h,0,fun m _=>?_⟩
    simp only [yap,hx,hi]
    rw [if_pos ⟨h1,h2⟩]
    simp only [hb]
    rw [if_pos h3]
    rfl
   ·exact h.elim
  ·exact h.elim
 case iadA n esz x i =>
  simp only [WOp] at h
  split at h
  ·rename_i s o j hx hi
   obtain ⟨k,h',rfl,hk⟩:=yry n (qAk _) h
   clear h
   refine ⟨⟨_,_,_⟩,h',0,fun m _=>?_⟩
   simp only [yap,hx,hi]
   rw [if_pos ⟨by omega,by omega⟩]
   simp
  ·rename_i id e r o j hx hi
   obtain ⟨k,h',rfl,hk⟩:=yry n (qAk _) h
   clear h
   refine ⟨⟨_,_,_⟩,h',0,fun m _=>?_⟩
   simp only [yap,hx,hi]
   rw [if_pos ⟨by omega,by omega⟩]
   simp [outV]
  ·rename_i rows r o j hx hi
   obtain ⟨k,h',rfl,hk⟩:=yry n (qAk _) h
   clear h
   refine ⟨⟨_,_,_⟩,h',0,fun m _=>?_⟩
   simp only [yap,hx,hi]
   rw [if_pos ⟨by omega,by omega⟩]
   simp [outV]
  ·exact h.elim
 case idx agg n esz x i =>
  simp only [WOp] at h
  split at h
  ·rename_i cs j hx hi
   split at h
   ·obtain ⟨h0,k0⟩:=yah.1 h
    obtain ⟨h1,k1⟩:=yah.1 k0
    obtain ⟨h2,k2⟩:=yah.1 k1
    clear h k0 k1
    simp only [qAc,decide_eq_true_eq,qBb] at h0 h1 h2
    obtain ⟨ha,he,hn,hu⟩:=h0
    have he:=qAg he
    have hn:=qAg hn
    subst ha;subst he
    refine ⟨⟨_,_,_⟩,k2,0,fun m _=>?_⟩
    simp only [yap,hx,hi]
    rw [if_pos ⟨h1,h2⟩]
    have hlt:j.toNat<cs.length:=by omega
    have hcell:cs[j.toNat]?=some (.int .u8 (yaa (cs.getD j.toNat .nils))):=yG9 cs _ hu hlt
    simp only [yjk,Nat.mul_one,PV.cells,qAp,if_false,hcell]
    rfl
   obtain ⟨k,h',rfl,hk⟩:=yry n (qAk _) h
   clear h
   split at h'
   ·rename_i p hp
    refine ⟨⟨_,_,_⟩,h',0,fun m _=>?_⟩
    simp only [yap,hx,hi]
    rw [if_pos ⟨by omega,by omega⟩]
    simp only [qAe,hp]
    rfl
   ·exact h'.elim
  ·exact h.elim
 case slc esz x lo hi mx =>
  simp only [WOp] at h
  split at h
  ·rename_i p l hh m hx hl hhi hm
   split at h
   ·exact h.elim
   ·rename_i hb
    obtain ⟨r,h,hr⟩:=yOC h
    refine ⟨⟨_,_,_⟩,h,0,fun _ _=>?_⟩
    simp only [yap,hx,hl,hhi,hm]
    rw [if_neg (by rw [hb];exact Bool.false_ne_true)]
    simp only [hr]
    rfl
  ·exact h.elim
 case mkSl pu esz bytes z l c =>
  simp only [WOp] at h
  split at h
  ·rename_i l c hl hc
   obtain ⟨h1,h⟩:=yah.1 h
   obtain ⟨h2,h⟩:=yah.1 h
   obtain ⟨h3,h⟩:=yah.1 h
   simp only [decide_eq_true_eq] at h1 h2 h3
   refine ⟨⟨_,_,_⟩,h,0,fun _ _=>?_⟩
   simp only [yap,hl,hc]
   rw [if_pos ⟨h1,h2,h3⟩]
   rfl
  ·exact h.elim
 case app pu esz bytes s x =>
  simp only [WOp] at h
  split at h
  ·rename_i s x hs hx
   obtain ⟨ys,h,hy⟩:=yP7 h
   obtain ⟨h1,h⟩:=yah.1 h
   obtain ⟨h2,h⟩:=yah.1 h
   obtain ⟨r,H',h,hr⟩:=ySg hy h1 h2 h
   refine ⟨⟨_,_,_⟩,h,0,fun _ _=>?_⟩
   simp only [yap,hs,hx,hr]
   rfl
  ·exact h.elim
 case appZ pu esz bytes z s n =>
  simp only [WOp] at h
  split at h
  ·rename_i k hs hk
   obtain ⟨h1,h⟩:=yah.1 h
   have h1:0≤k:=by simpa using h1
   obtain ⟨ha,hb⟩:=ykK.1 h
   cases h0:decide (k.toNat=0) with
   | true =>
    refine ⟨⟨_,_,_⟩,ha h0,0,fun _ _=>?_⟩
    have h0:k.toNat=0:=by simpa using h0
    simp only [yap,hs,hk,appZ]
    rw [if_pos h1,if_pos h0]
    rfl
   | false =>
    obtain ⟨r,H',h2,hr⟩:=yvw (hb h0)
    refine ⟨⟨_,_,_⟩,h2,0,fun _ _=>?_⟩
    have h0:¬k.toNat=0:=by simpa using h0
    simp only [yap,hs,hk,appZ]
    rw [if_pos h1,if_neg h0,hr]
    rfl
  ·exact h.elim
 case clr pu esz z x =>
  simp only [WOp] at h
  split at h
  ·rename_i hx
   exact ⟨⟨_,_,_⟩,h,0,fun _ _=>by simp only [yap,hx,clrV];rfl⟩
  ·rename_i hx
   exact ⟨⟨_,_,_⟩,h,0,fun _ _=>by simp only [yap,hx,clrV];rfl⟩
  ·rename_i hx
   exact ⟨⟨_,_,_⟩,h,0,fun _ _=>by simp only [yap,hx,clrV];rfl⟩
  ·rename_i id lo len ext cap hx
   split at h
   ·rename_i b hb
    obtain ⟨ha,hb2⟩:=ykK.1 h
    cases len with
    | zero=>exact ⟨⟨_,_,_⟩,ha rfl,0,fun _ _=>by simp only [yap,hx,clrV];rfl⟩
    | succ len =>
     have h:=hb2 (by simp)
     obtain ⟨h1,h⟩:=yah.1 h
     obtain ⟨h2,h⟩:=yah.1 h
     obtain ⟨h3,h⟩:=yah.1 h
     obtain ⟨h4,h⟩:=yah.1 h
     obtain ⟨h5,h⟩:=yah.1 h
     simp only [decide_eq_true_eq,qBb,beq_iff_eq] at h1 h2 h3 h4
     have h5:=qAg h5
     refine ⟨⟨_,_,_⟩,h,0,fun _ _=>?_⟩
     simp only [yap,hx,clrV,hb]
     rw [if_pos ⟨h1,h2,h3,h4,h5⟩]
     rfl
   ·exact h.elim
  ·exact h.elim
 case boxH pu esz x =>
  simp only [WOp] at h
  split at h
  ·rename_i p hp
   obtain ⟨q,H',h,hq⟩:=yAN h
   obtain ⟨h1,h⟩:=yah.1 h
   simp only [qAc] at h1
   refine ⟨⟨_,_,_⟩,h,0,fun _ _=>?_⟩
   simp only [yap,hp,hq]
   rw [if_pos ⟨qAg h1.1,h1.2⟩]
  ·exact h.elim
 case buildSl pu esz z len parts =>
  simp only [WOp] at h
  split at h
  ·exact ⟨⟨_,_,_⟩,h,0,fun _ _=>by simp only [yap,if_true];rfl⟩
  ·obtain ⟨rows,H',h,e⟩:=yyT _ _ _ _ h
   refine ⟨⟨_,_,_⟩,h,0,fun _ _=>?_⟩
   simp only [yap,e]
   rfl
 case buildN pu esz z len parts =>
  simp only [WOp] at h
  split at h
  ·exact ⟨⟨_,_,_⟩,h,0,fun _ _=>by simp only [yap,if_true];rfl⟩
  ·obtain ⟨rows,H',h,e⟩:=yyT _ _ _ _ h
   refine ⟨⟨_,_,_⟩,h,0,fun _ _=>?_⟩
   simp only [yap,e]
   rfl
 case buildD esz z len parts =>
  simp only [WOp] at h
  split at h
  ·exact ⟨⟨_,_,_⟩,h,0,fun _ _=>by simp only [yap,if_true];rfl⟩
  ·obtain ⟨rows,H',h,e⟩:=yyT _ _ _ _ h
   refine ⟨⟨_,_,_⟩,h,0,fun _ _=>?_⟩
   simp only [yap,e]
   rfl
 case call f args =>
  simp only [WOp] at h
  split at h
  ·rename_i g vs hg hvs
   obtain ⟨r,H',h,m0,hm⟩:=hG _ _ _ _ h
   refine ⟨⟨_,_,_⟩,h,m0,fun m hle=>?_⟩
   simp only [yap,hg,hvs,hm m hle]
   rfl
  ·exact h.elim
 all_goals exact yDP rfl h
theorem yvx:∀ (F:Frm) (s:Nat) (x:FV),fget F s=some x→frep F s x=F
 | [],_,_,h=>by simp [fget] at h
 | (k,y)::r,s,x,h=>by
  simp only [fget] at h
  simp only [frep]
  by_cases hk:k=s
  ·subst hk
   simp only [if_true,qAd] at h
   subst h
   simp
  ·rw [if_neg hk] at h
   have:Nat.beq k s=false:=by
    cases e:Nat.beq k s with
    | true=>exact absurd (qAg e) hk
    | false=>rfl
   rw [this,yvx r s x h]
   rfl
theorem yND {c:Opd} {b:Bool} (h:evV E F c=some (.bool b)):fref F c b=F:=by
 cases c with
 | t s =>
  simp only [evV,ev] at h
  simp only [fref]
  apply yvx
  cases e:fget F s with
  | none=>simp [e] at h
  | some fv=>cases fv <;> simp [e] at h;rw [h]
 | _=>rfl
theorem yHa {g:Option (Nat×Bool)} {yes no:Frm→Prop} (h:yH6 F g yes no):(yfO F g=some true∧yes F)∨(yfO F g=some false∧no F):=by
 unfold yH6 at h
 split at h
 ·exact .inl ⟨rfl,h⟩
 ·rename_i s want
  split at h
  ·rename_i b hb
   have e:yfO F (some (s,want))=some (b == want):=by simp only [yfO,hb]
   split at h
   ·cases b with
    | true=>have h:yes (frep F s (.v (.bool true))):=h;rw [yvx _ _ _ hb] at h;exact .inl ⟨by rw [e];rfl,h⟩
    | false=>have h:no (frep F s (.v (.bool false))):=h;rw [yvx _ _ _ hb] at h;exact .inr ⟨by rw [e];rfl,h⟩
   ·cases b with
    | true=>have h:no (frep F s (.v (.bool true))):=h;rw [yvx _ _ _ hb] at h;exact .inr ⟨by rw [e];rfl,h⟩
    | false=>have h:yes (frep F s (.v (.bool false))):=h;rw [yvx _ _ _ hb] at h;exact .inl ⟨by rw [e];rfl,h⟩
  ·rename_i hb
   exact .inr ⟨by simp only [yfO,hb],h⟩
  ·exact h.elim
theorem yH8 (hG:Good E callK) {an:List An}:∀ (l:List AOper) (i:Nat) (F:Frm) (H:Hp) (K:Frm→Hp→Prop),WOps E callK an l i F H K →
  ∃ F' H',K F' H'∧∃ m0,∀ m,m0≤m→yhT E (ybK E m) l F H=some (F',H')
 | [],i,F,H,K,h=>⟨F,H,h,0,fun _ _=>rfl⟩
 | o::r,i,F,H,K,h=>by
  simp only [WOps] at h
  rcases yHa h with ⟨hg,h⟩ | ⟨hg,h⟩
  ·obtain ⟨out,h,m0,hm⟩:=yP8 hG h
   split at h
   ·exact h.elim
   ·rename_i F' hF'
    rw [yH7] at h
    obtain ⟨F2,H2,hk,m1,hm1⟩:=yH8 hG r (i+1) F' out.h K h
    refine ⟨F2,H2,hk,max m0 m1,fun m hle=>?_⟩
    have e:yj1 E (ybK E m) F H o=some (F',out.h):=by
     simp only [yj1,hg,hm m (by omega),hF',Option.map]
    simp only [yhT,e]
    exact hm1 m (by omega)
  ·obtain ⟨F2,H2,hk,m1,hm1⟩:=yH8 hG r (i+1) (yvv F o.dst) H K h
   refine ⟨F2,H2,hk,m1,fun m hle=>?_⟩
   have e:yj1 E (ybK E m) F H o=some (yvv F o.dst,H):=by
    simp only [yj1,hg]
    cases o.dst <;> rfl
   simp only [yhT,e]
   exact hm1 m hle
theorem yH9 (hG:Good E callK) {an:List An} {F0:Frm} {l0:List AOper} {pairs:List (Nat×Nat)}:∀ (l:List AOper) (i:Nat) (F:Frm) (H:Hp) (ps:List FP) (K:Frm→Hp→Prop),WFps E callK an F0 l0 pairs l i F H ps K →
  ∃ F' H' qs,K F' H'∧ys9 (ps.reverse++qs) pairs=true∧yvn F0 l0 l0=true∧∃ m0,∀ m,m0≤m→ylI E (ybK E m) l F H=some (F',H',qs)
 | [],i,F,H,ps,K,h=>by
  simp only [WFps] at h
  obtain ⟨h1,h⟩:=yah.1 h
  simp only [qAc] at h1
  exact ⟨F,H,[],h,by simpa using h1.1,h1.2,0,fun _ _=>rfl⟩
 | o::r,i,F,H,ps,K,h=>by
  simp only [WFps] at h
  rcases yHa h with ⟨hg,h⟩ | ⟨hg,h⟩
  ·obtain ⟨out,h,m0,hm⟩:=yP8 hG h
   split at h
   ·exact h.elim
   ·rename_i F' hF'
    rw [yH7] at h
    obtain ⟨F2,H2,qs,hk,ha,hb,m1,hm1⟩:=yH9 hG r (i+1) F' out.h (yJW E F H o::ps) K h
    refine ⟨F2,H2,yJW E F H o::qs,hk,by simpa using ha,hb,max m0 m1,fun m hle=>?_⟩
    have e:ylB E (ybK E m) o (F,H)=some (F',out.h):=by
     simp only [ylB,hg,hm m (by omega),hF',Option.map]
    have e2:ykD E F H o=yJW E F H o:=by simp only [ykD,hg,yJW]
    simp only [ylI,e,hm1 m (by omega),e2]
  ·obtain ⟨F2,H2,qs,hk,ha,hb,m1,hm1⟩:=yH9 hG r (i+1) (yvv F o.dst) H (fpNo o::ps) K h
   refine ⟨F2,H2,fpNo o::qs,hk,by simpa using ha,hb,m1,fun m hle=>?_⟩
   have e:ylB E (ybK E m) o (F,H)=some (yvv F o.dst,H):=by
    simp only [ylB,hg]
    cases o.dst <;> rfl
   have e2:ykD E F H o=fpNo o:=by simp only [ykD,hg,fpNo]
   simp only [ylI,e,hm1 m hle,e2]
def ycr (E:Env) (b:TCode) (F:Frm) (H:Hp) (Q:Ex→Frm→Hp→Prop):Prop :=
 ∃ x F' H',Q x F' H'∧∃ m0,∀ m,m0≤m→exec E m (.loop (yh5 b)) F H=some (x,F',H')
def LpOk (E:Env) (lp:LP):TCode→Prop
 | .seq a b=>LpOk E lp a∧LpOk E lp b
 | .cond _ a b=>LpOk E lp a∧LpOk E lp b
 | .block _ b=>LpOk E lp b
 | .loop id b=>LpOk E lp b∧∀ F H Q,lp id F H Q→ycr E b F H Q
 | _=>True
def yiM:TCode→List (Nat×TCode)
 | .seq a b | .cond _ a b=>yiM a++yiM b
 | .block _ b=>yiM b
 | .loop id b=>yiM b++[(id,b)]
 | _=>[]
theorem ysc {E:Env} {lp:LP}:∀ (c:TCode),(∀ p∈yiM c,∀ F H Q,lp p.1 F H Q→ycr E p.2 F H Q)→LpOk E lp c
 | .skip,_ | .ops _ _ _ _,_ | .exit _,_ | .ret,_ | .bad,_=>trivial
 | .seq a b,h=>⟨ysc a fun p hp=>h p (by simp only [yiM,qA9];exact .inl hp),ysc b fun p hp=>h p (by simp only [yiM,qA9];exact .inr hp)⟩
 | .cond _ a b,h=>⟨ysc a fun p hp=>h p (by simp only [yiM,qA9];exact .inl hp),ysc b fun p hp=>h p (by simp only [yiM,qA9];exact .inr hp)⟩
 | .block _ b,h=>ysc b h
 | .loop id b,h=>⟨ysc b fun p hp=>h p (by simp only [yiM,qA9];exact .inl hp),h (id,b) (by simp [yiM])⟩
theorem yDR (hG:Good E callK) {lp:LP}:∀ (c:TCode),LpOk E lp c→∀ (F:Frm) (H:Hp) (Q:Ex→Frm→Hp→Prop),WC E callK lp c F H Q →
  ∃ x F' H',Q x F' H'∧∃ m0,∀ m,m0≤m→exec E m (yh5 c) F H=some (x,F',H')
 | .skip,_,F,H,Q,h=>⟨_,_,_,h,1,fun m hm=>by
   obtain ⟨k,rfl⟩:∃ k,m=k+1:=⟨m-1,by omega⟩
   simp only [yh5,exec]⟩
 | .exit id,_,F,H,Q,h=>⟨_,_,_,h,1,fun m hm=>by
   obtain ⟨k,rfl⟩:∃ k,m=k+1:=⟨m-1,by omega⟩
   simp only [yh5,exec]⟩
 | .ret,_,F,H,Q,h=>⟨_,_,_,h,1,fun m hm=>by
   obtain ⟨k,rfl⟩:∃ k,m=k+1:=⟨m-1,by omega⟩
   simp only [yh5,exec]⟩
 | .bad,_,F,H,Q,h=>h.elim
 | .ops l an ps fg,_,F,H,Q,h=>by
  cases ps with
  | nil =>
   simp only [WC] at h
   obtain ⟨F',H',hk,m0,hm⟩:=yH8 hG l 0 F H _ h
   rw [yH7] at hk
   refine ⟨_,_,_,hk,m0+1,fun m hle=>?_⟩
   obtain ⟨k,rfl⟩:∃ k,m=k+1:=⟨m-1,by omega⟩
   simp only [yh5,exec,ynq,hm k (by omega)]
  | cons p ps =>
   simp only [WC] at h
   obtain ⟨F',H',qs,hk,ha,hb,m0,hm⟩:=yH9 hG l 0 _ H [] _ h
   rw [yH7] at hk
   refine ⟨_,_,_,hk,m0+1,fun m hle=>?_⟩
   obtain ⟨k,rfl⟩:∃ k,m=k+1:=⟨m-1,by omega⟩
   simp only [yh5,exec,ynq,hm k (by omega)]
   rw [if_pos ⟨by simpa using ha,hb⟩]
 | .seq a b,hl,F,H,Q,h=>by
  simp only [WC] at h
  simp only [LpOk] at hl
  obtain ⟨x,F',H',hk,m0,hm⟩:=yDR hG a hl.1 F H _ h
  cases x with
  | norm =>
   obtain ⟨x2,F2,H2,hk2,m1,hm1⟩:=yDR hG b hl.2 F' H' Q hk
   refine ⟨x2,F2,H2,hk2,max m0 m1+1,fun m hle=>?_⟩
   obtain ⟨k,rfl⟩:∃ k,m=k+1:=⟨m-1,by omega⟩
   simp only [yh5,exec,hm k (by omega),hm1 k (by omega)]
  | exit i =>
   refine ⟨_,_,_,hk,m0+1,fun m hle=>?_⟩
   obtain ⟨k,rfl⟩:∃ k,m=k+1:=⟨m-1,by omega⟩
   simp only [yh5,exec,hm k (by omega)]
  | ret =>
   refine ⟨_,_,_,hk,m0+1,fun m hle=>?_⟩
   obtain ⟨k,rfl⟩:∃ k,m=k+1:=⟨m-1,by omega⟩
   simp only [yh5,exec,hm k (by omega)]
 | .cond c a b,hl,F,H,Q,h=>by
  simp only [WC] at h
  simp only [LpOk] at hl
  split at h
  ·rename_i t ht
   obtain ⟨h1,h2⟩:=ykK.1 h
   cases t with
   | true =>
    obtain ⟨x,F',H',hk,m0,hm⟩:=yDR hG a hl.1 F H Q (yND ht ▸ h1 rfl)
    refine ⟨x,F',H',hk,m0+1,fun m hle=>?_⟩
    obtain ⟨k,rfl⟩:∃ k,m=k+1:=⟨m-1,by omega⟩
    simp only [yh5,exec,ht,hm k (by omega)]
   | false =>
    obtain ⟨x,F',H',hk,m0,hm⟩:=yDR hG b hl.2 F H Q (yND ht ▸ h2 rfl)
    refine ⟨x,F',H',hk,m0+1,fun m hle=>?_⟩
    obtain ⟨k,rfl⟩:∃ k,m=k+1:=⟨m-1,by omega⟩
    simp only [yh5,exec,ht,hm k (by omega)]
  ·exact h.elim
 | .block id b,hl,F,H,Q,h=>by
  simp only [WC] at h
  simp only [LpOk] at hl
  obtain ⟨x,F',H',hk,m0,hm⟩:=yDR hG b hl F H _ h
  cases x with
  | norm =>
   refine ⟨_,_,_,hk,m0+1,fun m hle=>?_⟩
   obtain ⟨k,rfl⟩:∃ k,m=k+1:=⟨m-1,by omega⟩
   simp only [yh5,exec,hm k (by omega)]
  | exit i =>
   simp only at hk
   cases hb:Nat.beq i id with
   | true =>
    rw [hb] at hk
    have e:=qAg hb
    subst e
    refine ⟨.norm,F',H',hk,m0+1,fun m hle=>?_⟩
    obtain ⟨k,rfl⟩:∃ k,m=k+1:=⟨m-1,by omega⟩
    simp only [yh5,exec,hm k (by omega),if_true]
   | false =>
    rw [hb] at hk
    have e:¬i=id:=fun e=>by subst e;rw [Nat.beq_refl] at hb;cases hb
    refine ⟨.exit i,F',H',hk,m0+1,fun m hle=>?_⟩
    obtain ⟨k,rfl⟩:∃ k,m=k+1:=⟨m-1,by omega⟩
    simp only [yh5,exec,hm k (by omega),e,if_false]
  | ret =>
   refine ⟨_,_,_,hk,m0+1,fun m hle=>?_⟩
   obtain ⟨k,rfl⟩:∃ k,m=k+1:=⟨m-1,by omega⟩
   simp only [yh5,exec,hm k (by omega)]
 | .loop id b,hl,F,H,Q,h=>by
  simp only [WC] at h
  simp only [LpOk] at hl
  obtain ⟨x,F',H',hk,m0,hm⟩:=hl.2 F H Q h
  exact ⟨x,F',H',hk,m0,fun m hle=>by simp only [yh5];exact hm m hle⟩
theorem ycr.intro (hG:Good E callK) {lp:LP} {b:TCode} (hl:LpOk E lp b) {Q:Ex→Frm→Hp→Prop} (R:Nat→Frm→Hp→Prop) (h0:∀ F H,¬R 0 F H)
  (hs:∀ n F H,R (n+1) F H→WC E callK lp b F H fun x F' H'=>match x with | .norm=>R n F' H' | .exit i=>Q (.exit i) F' H' | .ret=>Q .ret F' H') :
  ∀ n F H,R n F H→ycr E b F H Q
 | 0,F,H,h=>(h0 F H h).elim
 | n+1,F,H,h=>by
  obtain ⟨x,F',H',hk,m0,hm⟩:=yDR hG b hl F H _ (hs n F H h)
  cases x with
  | norm =>
   obtain ⟨x2,F2,H2,hk2,m1,hm1⟩:=ycr.intro hG hl R h0 hs n F' H' hk
   refine ⟨x2,F2,H2,hk2,max m0 m1+1,fun m hle=>?_⟩
   obtain ⟨k,rfl⟩:∃ k,m=k+1:=⟨m-1,by omega⟩
   simp only [exec,hm k (by omega),hm1 k (by omega)]
  | exit i =>
   refine ⟨_,_,_,hk,m0+1,fun m hle=>?_⟩
   obtain ⟨k,rfl⟩:∃ k,m=k+1:=⟨m-1,by omega⟩
   simp only [exec,hm k (by omega)]
  | ret =>
   refine ⟨_,_,_,hk,m0+1,fun m hle=>?_⟩
   obtain ⟨k,rfl⟩:∃ k,m=k+1:=⟨m-1,by omega⟩
   simp only [exec,hm k (by omega)]
end
def Ans (E:Env) (n:Nat) (as:List PV) (r:PV):Prop:=∃ m0,∀ m,m0≤m→ybv E (ybK E m) n as=some r
def yNE (E:Env):Prop:=∀ n as H x,E.eff n as H=some x→E.qui n=false∧E.frz n=false∧(∀ as,E.sum n as=none)∧E.rb n=false
structure SEOk (S:SE):Prop where
 sum:∀ n wp,S.sumK n=some wp→∀ as K,wp as K→∃ r,K r∧Ans S.E n as r
 inl:∀ n fn,S.inl n=some fn→S.E.fns n=some fn.fn∧S.E.qui n=false∧S.E.frz n=false∧(∀ as,S.E.sum n as=none)∧(∀ as H,S.E.eff n as H=none)∧LpOk S.E S.lp fn.body
 eff:yNE S.E
section
variable {S:SE} {callK:CK} {H:Hp}
theorem yL9 (hG:Good S.E callK) {fn:TFn} (hl:LpOk S.E S.lp fn.body) {n:Nat} (hf:S.E.fns n=some fn.fn) (he:∀ as H,S.E.eff n as H=none) {args:List PV} {K:PV→Hp→Prop} (h:WFn S.E callK S.lp fn args H K) :
  ∃ r H',K r H'∧∃ m0,∀ m,m0≤m→ybK S.E m n args H=some (r,H'):=by
 obtain ⟨h1,h⟩:=yah.1 h
 have h1:args.length=fn.nparams:=by simpa using h1
 obtain ⟨x,F',H',hk,m0,hm⟩:=yDR hG fn.body hl _ H _ h
 have key:(match ynr F' H' fn.results with | some ps=>K (yoN ps) H' | none=>False)→(x=.norm∨x=.ret) →
   ∃ r H',K r H'∧∃ m0,∀ m,m0≤m→ybK S.E m n args H=some (r,H'):=by
  intro hk hx
  split at hk
  ·rename_i ps hps
   refine ⟨_,_,hk,m0+1,fun m hle=>?_⟩
   obtain ⟨k,rfl⟩:∃ k,m=k+1:=⟨m-1,by omega⟩
   have e:=hm k (by omega)
   simp only [ybK,Env.effx,ytJ,he,hf,TFn.fn,h1,if_true]
   rw [e]
   rcases hx with rfl | rfl <;> simp only [hps]
  ·exact hk.elim
 cases x with
 | norm=>exact key hk (.inl rfl)
 | exit i=>exact hk.elim
 | ret=>exact key hk (.inr rfl)
theorem yaG (hS:SEOk S):∀ d,Good S.E (ybd S d)
 | 0,f,args,H,K,h=>h.elim
 | d+1,f,args,H,K,h=>by
  unfold ybd at h
  split at h
  ·rename_i n first captured
   split at h
   ·rename_i wp hwp
    cases hb:S.E.rb n with
    | true =>
     rw [hb,cond_true] at h
     obtain ⟨as,h,hp⟩:=yG8 _ _ h
     obtain ⟨r,hk,m0,hm⟩:=hS.sum n wp hwp as _ h
     obtain ⟨hs,hk⟩:=yah.1 hk
     refine ⟨r,_,hk,m0,fun m hle=>?_⟩
     simp only [ynW,hb,if_true,hp,hm m hle,hs]
    | false =>
     rw [hb,cond_false] at h
     obtain ⟨as,H',h,hp⟩:=yDQ _ _ _ h
     obtain ⟨r,hk,m0,hm⟩:=hS.sum n wp hwp as _ h
     refine ⟨r,_,hk,m0,fun m hle=>?_⟩
     simp only [ynW,hb,qAp,if_false,hp,hm m hle]
     cases r.scalar <;> simp
   ·split at h
    ·rename_i fn hfn
     obtain ⟨h1,h2,h3,h4,h6,h5⟩:=hS.inl n fn hfn
     have e:∀ m,∀ as,ybv S.E (ybK S.E m) n as=none:=by
      intro m as;simp only [ybv,h4 as,h2];rfl
     cases hb:S.E.rb n with
     | true =>
      rw [hb,cond_true] at h
      exact h.elim
     | false =>
      rw [hb,cond_false] at h
      obtain ⟨r,H',hk,m0,hm⟩:=yL9 (yaG hS d) h5 h1 h6 h
      refine ⟨r,H',hk,m0,fun m hle=>?_⟩
      simp only [ynW,e m,h2,h3,hb]
      cases ybt H (first++args++captured) <;> simp only [qAp,if_false,hm m hle]
    ·split at h
     ·rename_i c t x y he
      obtain ⟨hc,h⟩:=yah.1 h
      subst hc
      obtain ⟨h2,h3,h4,h7⟩:=hS.eff n _ _ _ he
      obtain ⟨r,H',h,hrt⟩:∃ r H',K r H'∧(bif t then x else y)=(r,H'):=by
       cases t with
       | true=>exact ⟨_,_,h,rfl⟩
       | false=>exact ⟨_,_,h,rfl⟩
      refine ⟨r,H',h,1,fun m hle=>?_⟩
      obtain ⟨k,rfl⟩:∃ k,m=k+1:=⟨m-1,by omega⟩
      have e:∀ as,ybv S.E (ybK S.E (k+1)) n as=none:=by
       intro as;simp only [ybv,h4 as,h2];rfl
      have hi:ybK S.E (k+1) n (first++args++captured) H=some (r,H'):=by
       simp only [ybK,Env.effx,ytJ,he,hrt]
      simp only [ynW,e,h2,h3,h7]
      cases ybt H (first++args++captured) <;> simp only [qAp,if_false,hi]
     ·exact h.elim
  ·exact h.elim
theorem ya6 (hS:SEOk S) {d:Nat} {fn:TFn} {n:Nat} (hl:LpOk S.E S.lp fn.body) (hf:S.E.fns n=some fn.fn) (hq:S.E.qui n=true) (hs:∀ as,S.E.sum n as=none) (he:∀ as H,S.E.eff n as H=none) {as:List PV} {K:PV→Prop} (h:WP S d fn as K) (hn:S.E.nl n=false:=by kernel_rfl) :
  ∃ r,K r∧Ans S.E n as r:=by
 unfold WP at h
 obtain ⟨r,H',hk,m0,hm⟩:=yL9 (yaG hS d) hl hf he h
 obtain ⟨q,hk,hq'⟩:=yP6 hk
 refine ⟨q,hk,m0,fun m hle=>?_⟩
 simp only [ybv,hs as,hq,hm m hle,hn,purN,cond_false,hq',if_true]
end
def AllL (E:Env) (lp:LP):List (Nat×TCode)→Prop
 | []=>True
 | p::r=>(∀ F H Q,lp p.1 F H Q→ycr E p.2 F H Q)∧AllL E lp r
theorem AllL.mem {E:Env} {lp:LP}:∀ {l:List (Nat×TCode)},AllL E lp l→∀ p∈l,∀ F H Q,lp p.1 F H Q→ycr E p.2 F H Q
 | [],_,p,hp=>by cases hp
 | q::r,h,p,hp=>by
  rcases qAv.1 hp with rfl | hp
  ·exact h.1
  ·exact AllL.mem h.2 p hp
theorem ybg {E:Env} {lp:LP} {c:TCode} {l:List (Nat×TCode)} (h:AllL E lp l) (e:yiM c=l):LpOk E lp c:=ysc c (by rw [e];exact h.mem)
theorem yai {E:Env} {lp:LP} {c:TCode} (e:yiM c=[]):LpOk E lp c:=ybg (l:=[]) trivial e
def yaK:List (Nat×(List PV→(PV→Prop)→Prop))→Nat→Option (List PV→(PV→Prop)→Prop)
 | [],_=>none
 | (k,f)::r,n=>bif Nat.beq k n then some f else yaK r n
def yaL:List (Nat×TFn)→Nat→Option TFn
 | [],_=>none
 | (k,f)::r,n=>bif Nat.beq k n then some f else yaL r n
def AllS (E:Env):List (Nat×(List PV→(PV→Prop)→Prop))→Prop
 | []=>True
 | (k,f)::r=>(∀ as K,f as K→∃ q,K q∧Ans E k as q)∧AllS E r
def AllI (E:Env) (lp:LP):List (Nat×TFn)→Prop
 | []=>True
 | (k,f)::r=>(E.fns k=some f.fn∧E.qui k=false∧E.frz k=false∧(∀ as,E.sum k as=none)∧(∀ as H,E.eff k as H=none)∧LpOk E lp f.body)∧AllI E lp r
theorem yJZ {E:Env}:∀ (l:List (Nat×(List PV→(PV→Prop)→Prop))),AllS E l→∀ n wp,yaK l n=some wp→∀ as K,wp as K→∃ r,K r∧Ans E n as r
 | [],_,_,_,h=>by simp [yaK] at h
 | (k,f)::r,hl,n,wp,h=>by
  simp only [AllS] at hl
  simp only [yaK] at h
  cases hc:Nat.beq k n with
  | true =>
   rw [hc] at h
   simp only [cond_true,qAd] at h
   have:=qAg hc
   subst this;subst h
   exact hl.1
  | false =>
   rw [hc] at h
   exact yJZ r hl.2 n wp (by simpa using h)
theorem yJ0 {E:Env} {lp:LP}:∀ (l:List (Nat×TFn)),AllI E lp l→∀ n fn,yaL l n=some fn→E.fns n=some fn.fn∧E.qui n=false∧E.frz n=false∧(∀ as,E.sum n as=none)∧(∀ as H,E.eff n as H=none)∧LpOk E lp fn.body
 | [],_,_,_,h=>by simp [yaL] at h
 | (k,f)::r,hl,n,fn,h=>by
  simp only [AllI] at hl
  simp only [yaL] at h
  cases hc:Nat.beq k n with
  | true =>
   rw [hc] at h
   simp only [cond_true,qAd] at h
   have:=qAg hc
   subst this;subst h
   exact hl.1
  | false =>
   rw [hc] at h
   exact yJ0 r hl.2 n fn (by simpa using h)
theorem yat {E:Env} {ls:List (Nat×(List PV→(PV→Prop)→Prop))} {li:List (Nat×TFn)} {lp:LP} (hs:AllS E ls) (hi:AllI E lp li) (he:yNE E):SEOk ⟨E,yaK ls,yaL li,lp⟩ where
 sum:=fun n wp h=>yJZ ls hs n wp h
 inl:=fun n fn h=>yJ0 li hi n fn h
 eff:=he
end Go.Pf
namespace Go.Pf
open Go
theorem yHb {add sub n:Nat} (h1:Nat.beq n add=false) (h2:Nat.beq n sub=false) (as:List PV):sumC add sub n as=none:=by
 unfold sumC
 split
 ·rw [h1,h2];rfl
 ·rfl
def ylM (p0 p1 p2:Int) (K:Int→Int→Prop):Prop :=
 asr (decide (p2.toNat≤1)) (K (((p0.toNat+p1.toNat+p2.toNat) % 18446744073709551616:Nat):Int) (((p0.toNat+p1.toNat+p2.toNat) / 18446744073709551616:Nat):Int))
def ykL:List PV:=([0,1,2,2,3,3,3,3,4,4,4,4,4,4,4,4,5,5,5,5,5,5,5,5,5,5,5,5,5,5,5,5,6,6,6,6,6,6,6,6,6,6,6,6,6,6,6,6,6,6,6,6,6,6,6,6,6,6,6,6,6,6,6,6,7,7,7,7,7,7,7,7,7,7,7,7,7,7,7,7,7,7,7,7,7,7,7,7,7,7,7,7,7,7,7,7,7,7,7,7,7,7,7,7,7,7,7,7,7,7,7,7,7,7,7,7,7,7,7,7,7,7,7,7,7,7,7,7,8,8,8,8,8,8,8,8,8,8,8,8,8,8,8,8,8,8,8,8,8,8,8,8,8,8,8,8,8,8,8,8,8,8,8,8,8,8,8,8,8,8,8,8,8,8,8,8,8,8,8,8,8,8,8,8,8,8,8,8,8,8,8,8,8,8,8,8,8,8,8,8,8,8,8,8,8,8,8,8,8,8,8,8,8,8,8,8,8,8,8,8,8,8,8,8,8,8,8,8,8,8,8,8,8,8,8,8,8,8,8,8,8,8,8,8,8,8,8,8,8,8,8,8,8,8,8,8]:List Int).map (PV.int .u8)
def yxq (w:Int→Int→Int→(Int→Int→Prop)→Prop) (as:List PV) (K:PV→Prop):Prop :=
 match as with
 | [(.int .u64 p0),(.int .u64 p1),(.int .u64 p2)]=>w p0 p1 p2 (fun (r0:Int) (r1:Int)=>K (.tup [(.int .u64 r0),(.int .u64 r1)]))
 | _=>False
def yxr (as:List PV) (K:PV→Prop):Prop:=yxq ylM as K
def ylN (p0 p1 p2:Int) (K:Int→Int→Prop):Prop :=
 asr (decide (p2.toNat≤1)) (K (((p0.toNat+18446744073709551616-p1.toNat-p2.toNat) % 18446744073709551616:Nat):Int) ((bif Nat.ble (p1.toNat+p2.toNat) p0.toNat then 0 else 1:Nat):Int))
def yxs (w:Int→Int→Int→(Int→Int→Prop)→Prop) (as:List PV) (K:PV→Prop):Prop :=
 match as with
 | [(.int .u64 p0),(.int .u64 p1),(.int .u64 p2)]=>w p0 p1 p2 (fun (r0:Int) (r1:Int)=>K (.tup [(.int .u64 r0),(.int .u64 r1)]))
 | _=>False
def yxt (as:List PV) (K:PV→Prop):Prop:=yxs ylN as K
theorem yNF {P:Program} {E:Env} (hE:EnvOk P E) (hm:P.follows .mixedOrders=true) {n:Nat} {as:List PV} {r:PV} (hs:E.sum n as=none) (hq:E.qui n=true) (h:Ans E n as r):yrx P E.glob n as r:=by
 obtain ⟨m0,hm0⟩:=h
 have:=hm0 m0 (qAk _)
 simp only [ybv,hs,hq,if_true] at this
 refine yNq hE hm (n:=m0) ?_
 unfold topV
 split at this
 ·rename_i x H hx;rw [hx];exact this
 ·cases this
end Go.Pf
namespace Go.Pf
open Go Go.RowKit
section
variable {P:Program} {E:Env}
theorem yOD {b:Bool} {call} (hc:yc9 P E call) {I:Nat→Prop} {w:World} {f:Nat} {args:List PV} {vs:List Value} {r q:PV} {H:Hp} (himm:∀ b,I b→b<w.heap.size)
  (hg:∀ n x,E.glob n=some x→I n∧∃ vs,0<vs.length∧RC I w x vs∧At w n 0 vs) (hv:VRs ⟨fun _=>none,fun _=>none,I⟩ [] w args vs) (hin:call f args []=some (r,H)) (h:purN b H r=some q) :
  yoV P f vs.toArray w fun v w'=>Bel w.heap.size w w'∧VP (fun b=>I b∨(w.heap.size≤b∧b<w'.heap.size)) w' q v:=by
 let g0:Gh:=⟨fun _=>none,fun _=>none,I⟩
 have hr:Rel E 0 g0 [] [] #[] w:=by
  refine ⟨qBh _,fun s fv e=>by simp [fget] at e,fun id hb e=>by simp at e,fun id id' hb b o b' o' e=>by simp at e,fun id b o e=>by simp [g0] at e,fun s s' b e=>by simp [g0] at e,fun s b id o e=>by simp [g0] at e,fun s b e=>by simp [g0] at e,himm,hg⟩
 refine (hc f args [] r H hin 0 g0 [] #[] w vs hr hv).mono ?_
 rintro v w' ⟨g',n1,r1,hvr⟩
 obtain ⟨g2,H2,r2,n2,hvp⟩:=yDB r1 hvr h
 have n3:=n1.trans n2
 have noR:∀ b,¬RngR g0 b:=fun b ⟨id,o,e⟩=>by simp [g0] at e
 have noM:∀ b,¬MutF g0 b:=fun b ⟨s,e⟩=>by simp [g0] at e
 refine ⟨⟨⟨n3.os,n3.tape,n3.output,n3.size,fun k hk=>n3.kept k hk (noR k) (noM k)⟩,n3.drawn⟩,yH1 (fun b hb=>⟨?_,rfl⟩) hvp⟩
 rcases qA1 b w.heap.size with h1 | h1
 ·rcases hb with hb | hb
  ·rcases n3.immb b h1 hb with h2 | h2
   ·exact .inl h2
   ·exact absurd h2 (noR b)
  ·exact absurd (n3.rng b h1 hb) (noR b)
 ·exact .inr ⟨h1,hb.elim (r2.imm b) r2.brng⟩
theorem yTD (hE:EnvOk P E) (hm:P.follows .mixedOrders=true) {n f:Nat} {q:PV} (h:∀ b,topV E n f [.mt b]=some q):yrx P E.glob f [.data []] q:=by
 intro I w vs himm hgl hv
 simp only [VPs,VP1,RC] at hv
 obtain ⟨v,vr,rfl,⟨a,len,cap,e,hl,hc,hm2,_⟩,rfl⟩:=hv
 simp only [qAx,and_true] at e
 subst e
 have hl:len=0:=hl
 subst hl
 have hh:=h a.isNone
 unfold topV at hh
 split at hh
 ·rename_i r H hin
  refine yOD (yAK hE hm n) himm hgl (args:=[.mt a.isNone]) ?_ hin hh
  simp only [VRs,VR]
  exact ⟨_,_,rfl,⟨a,cap,rfl,hm2,rfl⟩,rfl⟩
 ·cases hh
end
def yAO (esz bytes:Nat) (z:PV):AFn:=⟨1,[.tmp 2],
 (.seq
  (.ops [⟨some 2,(.mv (.c .nils)),none⟩] [] [2])
  (.seq
   (.seq
    (.ops [⟨some 3,(.mv (.t 0)),none⟩,
     ⟨some 4,(.eqN false (.t 3)),none⟩] [] [3])
    (.cond (.t 4)
     (.seq (.ops [⟨some 2,(.mv (.c .nils)),none⟩] [] [0,4]) .ret)
     .skip))
   (.seq
    (.ops [⟨some 5,(.buildSl true esz z 0 []),none⟩,
     ⟨some 6,(.mv (.t 0)),none⟩,
     ⟨some 7,(.app true esz bytes (.t 5) (.t 6)),none⟩,
     ⟨some 2,(.mv (.t 7)),none⟩] [] [0,4,5,6,7])
    .ret)))⟩
abbrev yhU:=List (Nat×Nat×Nat)
def yoe (esz bytes:Nat) (rows:List PV):Bool:=yeC esz rows&&decide ((rows.length+64)*(bytes+1)≤room)
def ykM:yhU→Nat→List PV→Option PV
 | [],_,_=>none
 | (k,esz,bytes)::r,n,as=>bif Nat.beq k n then (match as with
  | [.data rows]=>(bif yoe esz bytes rows then some (.data rows) else none)
  | _=>none) else ykM r n as
def yyU:yhU→Nat→Bool
 | [],_=>false
 | (k,_,_)::r,n=>Nat.beq k n||yyU r n
section
variable {P:Program} {E:Env}
theorem yP9 {n esz bytes:Nat} {z:PV} (hf:E.fns n=some (yAO esz bytes z)) (he:∀ as H,E.eff n as H=none) (hnl:E.nl n=false) (b:Bool):topV E 12 n [.mt b]=some (.data []):=by
 unfold topV
 cases b <;> simp [ybK,Env.effx,ytJ,he,exec,hf,yAO,ynq,yhT,yj1,yfO,yap,evV,ev,yns,fget,fset,fdels,fdel,yjG,yg3,outV,Option.map,ynr,yGR,yoN,purN,hnl,purR,ydL,yiJ,appV,ylG,yeC,ywq]
theorem yMa {n esz bytes:Nat} {z:PV} (hf:E.fns n=some (yAO esz bytes z)) (he:∀ as H,E.eff n as H=none) (hnl:E.nl n=false) {x:PV} {r:List PV} (h:yoe esz bytes (x::r)=true):topV E 12 n [.data (x::r)]=some (.data (x::r)):=by
 simp only [yoe,qAc,decide_eq_true_eq,qAs] at h
 obtain ⟨h1,h2⟩:=h
 unfold topV
 simp [ybK,Env.effx,ytJ,he,exec,hf,yAO,ynq,yhT,yj1,yfO,yap,evV,ev,yns,fget,fset,fdels,fdel,yjG,yg3,outV,Option.map,ynr,yGR,yoN,purN,hnl,purR,ydL,yiJ,appV,ylG,h1,ywq,yfa,h2]
theorem yBU (hE:EnvOk P E) (hm:P.follows .mixedOrders=true) (he:∀ n as H,E.eff n as H=none) (hnl:∀ n,E.nl n=false):∀ (cl:yhU),(∀ n esz bytes,(n,esz,bytes)∈cl→∃ z,E.fns n=some (yAO esz bytes z))→∀ n as r,ykM cl n as=some r→yrx P E.glob n as r
 | [],_,_,_,_,h=>by simp [ykM] at h
 | (k,esz,bytes)::t,hc,n,as,r,h=>by
  simp only [ykM] at h
  cases hb:Nat.beq k n with
  | false=>rw [hb] at h;exact yBU hE hm he hnl t (fun n e b hm=>hc n e b (qAm _ hm)) n as r (by simpa using h)
  | true =>
   rw [hb] at h
   have e:=qAg hb
   subst e
   simp only [cond_true] at h
   split at h
   ·rename_i rows
    cases hk:yoe esz bytes rows with
    | false=>rw [hk] at h;simp at h
    | true =>
     rw [hk] at h
     simp only [cond_true,qAd] at h
     subst h
     obtain ⟨z,hf⟩:=hc k esz bytes qAj
     cases rows with
     | nil=>exact yTD hE hm (fun b=>yP9 hf (he k) (hnl k) b)
     | cons x r=>exact yNq hE hm (yMa hf (he k) (hnl k) hk)
   ·cases h
end
def yS8:List (Nat×PV)→Nat→Option PV
 | [],_=>none
 | (k,a)::r,n=>bif Nat.beq k n then some a else yS8 r n
theorem yrx.any {P:Program} {G:Nat→Option PV} {f:FuncId} {as:List PV} {r:PV} (h:yrx P (fun _=>none) f as r):yrx P G f as r :=
 fun I w vs hI _ hv=>h I w vs hI (fun _ _ e=>nomatch e) hv
def yte (add sub:Nat) (tab:List (Nat×AFn)) (qui:List Nat) (cl:yhU) (gl:List (Nat×PV)):Env :=
 { glob:=yS8 gl,sum:=fun n as=>match sumC add sub n as with | some r=>some r | none=>ykM cl n as,fns:=yDF tab,frz:=fun _=>false,qui:=memN qui,nl:=fun n=>memN qui (n+1000000),rb:=fun n=>memN qui (n+3000000) }
def yC7 (add sub:Nat) (cl:yhU) (n:Nat):Bool:=Nat.beq n add||(Nat.beq n sub||yyU cl n)
theorem ywA:∀ (cl:yhU) (n:Nat) (as:List PV),yyU cl n=false→ykM cl n as=none
 | [],_,_,_=>rfl
 | (k,_,_)::r,n,as,h=>by
  simp only [yyU,Bool.or_eq_false_iff] at h
  simp only [ykM,h.1,cond_false]
  exact ywA r n as h.2
theorem yMb {add sub:Nat} {tab:List (Nat×AFn)} {qui:List Nat} {cl:yhU} {gl:List (Nat×PV)} {n:Nat} (h:yC7 add sub cl n=false) (as:List PV):(yte add sub tab qui cl gl).sum n as=none:=by
 simp only [yC7,Bool.or_eq_false_iff] at h
 simp only [yte,yHb h.1 h.2.1,ywA cl n as h.2.2]
def yNG (esz bytes:Nat) (p0:List PV) (K:List PV→Prop):Prop:=asr (yoe esz bytes p0) (K p0)
def yDS (w:List PV→(List PV→Prop)→Prop) (as:List PV) (K:PV→Prop):Prop :=
 match as with
 | [(.data p0)]=>w p0 (fun r0=>K (.data r0))
 | _=>False
def yDT (esz bytes:Nat) (as:List PV) (K:PV→Prop):Prop:=yDS (yNG esz bytes) as K
def yyV:yhU→Nat→Option (Nat×Nat)
 | [],_=>none
 | (k,e,b)::r,n=>bif Nat.beq k n then some (e,b) else yyV r n
theorem yBV {n esz bytes:Nat} {rows:List PV}:∀ (cl:yhU),yyV cl n=some (esz,bytes)→yoe esz bytes rows=true→ykM cl n [.data rows]=some (.data rows)
 | [],h,_=>by simp [yyV] at h
 | (k,e,b)::r,h,hk=>by
  simp only [yyV] at h
  simp only [ykM]
  cases hb:Nat.beq k n with
  | true=>rw [hb] at h;simp only [cond_true,qAd,Prod.mk.injEq] at h;obtain ⟨rfl,rfl⟩:=h;simp only [cond_true,hk]
  | false=>rw [hb] at h;simp only [cond_false] at h ⊢;exact yBV r h hk
theorem yQa {P:Program} {add sub:Nat} {tab:List (Nat×AFn)} {qui:List Nat} {cl:yhU} {gl:List (Nat×PV)} (hm:P.follows .mixedOrders=true) (ha:IsExtern P add add64Entry) (hs:IsExtern P sub yDI) (ht:yDG P tab)
  (hc:∀ n esz bytes,(n,esz,bytes)∈cl→∃ z,yDF tab n=some (yAO esz bytes z)):EnvOk P (yte add sub tab qui cl gl) where
 sum:=by
  intro n as r h
  simp only [yte] at h
  split at h
  ·rename_i q hq;cases h;exact yNs ha hs n as _ hq
  ·exact (yBU (ySb (qui:=[]) ha hs ht) hm (fun _ _ _=>rfl) (fun _=>rfl) cl (fun n e b hmem=>hc n e b hmem) n as r h).any
 fns:=fun n fn h=>yDH tab ht n fn h
 eff:=fun _ _ _ _ _ h=>by cases h
end Go.Pf
namespace Go.Pf
abbrev Ls:Type:=List PV
def O (d:Nat) (x:AOp):AOper:=⟨some d,x,none⟩
def M (d s:Nat):AOper:=⟨some d,.mv (.t s),none⟩
def I (n:Int):Opd:=.c (.int .i64 n)
def oX (d:Nat) (op:BinOp) (a b:Nat):AOper:=⟨some d,.bin op (.t a) (.t b),none⟩
def oT (d sz a:Nat):AOper:=⟨some d,.load true sz (.t a),none⟩
def oF (d sz a:Nat):AOper:=⟨some d,.load false sz (.t a),none⟩
def oQ (l:List AOper) (d:List Nat):TCode:=.ops l [] [] d
abbrev OkF (E:Env) (wp:List PV→(PV→Prop)→Prop) (n:Nat):Prop:=∀ as K,wp as K→∃ r,K r∧Ans E n as r
theorem Ans.unique {E:Env} {n:Nat} {as:List PV} {r r':PV} (h:Ans E n as r) (h':Ans E n as r'):r=r':=by
 obtain ⟨m,hm⟩:=h
 obtain ⟨m',hm'⟩:=h'
 have e:=hm (m+m') (by omega)
 rw [hm' (m+m') (by omega)] at e
 exact (Option.some.inj e).symm
theorem detC {E:Env} {n:Nat} {wp:List PV→(PV→Prop)→Prop} (ok:∀ as K,wp as K→∃ r,K r∧Ans E n as r) {as:List PV} {x:PV}
  (h:∀ K:PV→Prop,K x→wp as K) {K:PV→Prop} (k:wp as K):K x:=by
 obtain ⟨r,h1,h2⟩:=ok as K k
 obtain ⟨q,h3,h4⟩:=ok as (fun y=>y=x) (h _ rfl)
 subst h3
 rw [← h2.unique h4]
 exact h1
end Go.Pf
namespace Go.Pf
open Go
inductive DS where
 | b
 | i (k:IntKind)
 | s (e:DS)
 | a (l:List DS)
def DS.isA:DS→Bool
 | .a _=>true
 | _=>false
def PV.isAgg:PV→Bool
 | .agg _=>true
 | _=>false
mutual
def HasF:DS→List PV→Prop
 | .b,c=>∃ x,c=[.bool x]
 | .i k,c=>∃ n,c=[.int k n]∧inK k n
 | .s e,c=>∃ rows:List PV,c=[.data rows]∧rows.length≤maxLen∧∀ x∈rows,x.isAgg=e.isA∧HasF e x.cells
 | .a l,c=>HasL l c
def HasL:List DS→List PV→Prop
 | [],c=>c=[]
 | d::l,c=>∃ c1 c2,c=c1++c2∧HasF d c1∧HasL l c2
end
mutual
def tyOk (P:Program):DS→TypeId→Bool
 | .b,t=>(match P.underlying t with | some .bool=>true | _=>false)
 | .i k,t=>(match P.underlying t with | some (.int q)=>decide (q=k) | _=>false)
 | .s e,t=>(match P.underlying t with | some (.slice u)=>decide (0<P.cellsOf u)&&tyOk P e u | _=>false)
 | .a l,t=>(match P.underlying t with | some (.struct fs)=>tyL P l (fs.toList.map (·.type)) | some (.array n u)=>tyL P l (List.replicate n u) | _=>false)
def tyL (P:Program):List DS→List TypeId→Bool
 | [],[]=>true
 | d::l,t::r=>tyOk P d t&&tyL P l r
 | _,_=>false
end
theorem yNH (P:Program):∀ (l:List DS) (ts:List TypeId),tyL P l ts=true→l.length=ts.length
 | [],[],_=>rfl
 | _::l,_::r,h=>by
  unfold tyL at h
  simp only [qAc] at h
  simp [yNH P l r h.2]
 | [],_::_,h=>by unfold tyL at h;cases h
 | _::_,[],h=>by unfold tyL at h;cases h
theorem yNI (P:Program):∀ (l:List DS) (ts:List TypeId),tyL P l ts=true→∀ (j:Nat) d t,l[j]?=some d→ts[j]?=some t→tyOk P d t=true
 | [],[],_,_,_,_,h,_=>by simp at h
 | d::l,t::r,h,0,d',t',h1,h2=>by
  unfold tyL at h
  simp only [qAc] at h
  simp only [List.getElem?_cons_zero,qAd] at h1 h2
  subst h1;subst h2;exact h.1
 | d::l,t::r,h,j+1,d',t',h1,h2=>by
  unfold tyL at h
  simp only [qAc] at h
  exact yNI P l r h.2 j d' t' (by simpa using h1) (by simpa using h2)
 | [],_::_,h,_,_,_,_,_=>by unfold tyL at h;cases h
 | _::_,[],h,_,_,_,_,_=>by unfold tyL at h;cases h
section
variable {H:Type} {enc:TypeId×Value→H} {P:Program} {w:World} {I:Nat→Prop}
theorem yMc {l1 l2:List PV} {v1 v2:List Value} (h1:ya5 I w l1 v1) (h2:ya5 I w l2 v2):ya5 I w (l1++l2) (v1++v2):=yqL h1 h2
def yS9 (enc:TypeId×Value→H) (P:Program) (w:World) (I:Nat→Prop) (n:Nat):Prop :=
 ∀ (d:DS) (t:TypeId) (cs:List Value) (x:DataW H×List MemPlace),t<P.types.size→tyOk P d t=true→DataW.trod enc P w 0 (fun _=>true) true n t cs=some x→(∀ p∈x.2,I p.block)→∃ pcs,HasF d pcs∧ya5 I w pcs cs
theorem yDU {n:Nat} (ih:yS9 enc P w I n) {l:List DS} {ts:List TypeId} (hl:tyL P l ts=true) (hrow:∀ t∈ts,t<P.types.size) {cs:List Value} {xs:List (DataW H×List MemPlace)} (off:Nat→Nat)
  (hoff:∀ j t,ts[j]?=some t→off (j+1)=off j+P.cellsOf t) (hend:cs.length≤off ts.length) (hx:∀ j t,ts[j]?=some t→DataW.trod enc P w 0 (fun _=>true) true n t ((cs.drop (off j)).take (P.cellsOf t))=xs[j]?)
  (hxl:xs.length=ts.length) (hI:∀ p∈xs.flatMap (·.2),I p.block) :
  ∀ (r j:Nat),j+r=ts.length→∃ pcs,HasL (l.drop j) pcs∧ya5 I w pcs (cs.drop (off j)):=by
 have hll:=yNH P l ts hl
 intro r
 induction r with
 | zero =>
  intro j hj
  refine ⟨[],?_,?_⟩
  ·rw [qAz (by omega)];simp only [HasL]
  ·rw [qAz (by rw [show j=ts.length by omega];exact hend)];simp only [ya5]
 | succ r ihr =>
  intro j hj
  obtain ⟨pcs,h1,h2⟩:=ihr (j+1) (by omega)
  have ht:ts[j]?=some ts[j]:=qAb (by omega)
  have hd:l[j]?=some l[j]:=qAb (by omega)
  have hxj:xs[j]?=some xs[j]:=qAb (by omega)
  have h:=hx j _ ht
  rw [hxj] at h
  obtain ⟨pc,k1,k2⟩:=ih l[j] ts[j] _ _ (hrow _ (qBr _)) (yNI P l ts hl j _ _ hd ht) h (fun p hp=>hI p (List.mem_flatMap.2 ⟨xs[j],qBr _,hp⟩))
  refine ⟨pc++pcs,?_,?_⟩
  ·rw [List.drop_eq_getElem_cons (by omega)]
   simp only [HasL]
   exact ⟨pc,pcs,rfl,k1,h1⟩
  ·have e:cs.drop (off j)=(cs.drop (off j)).take (P.cellsOf ts[j])++cs.drop (off (j+1)):=by
    rw [hoff j _ ht,← List.drop_drop,List.take_append_drop]
   rw [e]
   exact yMc k2 h2
theorem yTE {d:DS} {pcs:List PV} (h:HasF d pcs):∃ x:PV,x.isAgg=d.isA∧x.cells=pcs∧∀ vs,ya5 I w pcs vs→RC I w x vs:=by
 have one:∀ y:PV,y.isAgg=false→pcs=[y]→d.isA=false→∃ x:PV,x.isAgg=d.isA∧x.cells=pcs∧∀ vs,ya5 I w pcs vs→RC I w x vs:=by
  intro y hy e hd
  refine ⟨y,hy.trans hd.symm,?_,?_⟩
  ·subst e;cases y <;> first | rfl | cases hy
  ·intro vs hv
   subst e
   simp only [ya5] at hv
   obtain ⟨v,vr,rfl,_,h1,rfl⟩:=hv
   exact h1
 cases d with
 | b=>simp only [HasF] at h;obtain ⟨x,e⟩:=h;exact one _ rfl e rfl
 | i k=>simp only [HasF] at h;obtain ⟨x,e,_⟩:=h;exact one _ rfl e rfl
 | s e=>simp only [HasF] at h;obtain ⟨x,e,_⟩:=h;exact one _ rfl e rfl
 | a l=>exact ⟨.agg pcs,rfl,rfl,fun vs hv=>by simp only [RC];exact hv⟩
end
end Go.Pf
