/- Part 6 of what the statement rests on: a verified evaluator over pure values, the conditions of the program's functions, and their plain laws. -/
import Derived.Test.YtegkpannhahmcaaGreatDoorCfW5
namespace Go.Pf.Vc
open Go Go.Pf
section
variable {cs:List Ck} {A:List (List RS)}
theorem DV.Accept (h:DV cs A) (hw:∀ c∈cs,∀ a∈A,Go.Pf.Vc.small (wV c a)) (hW:∀ K,yat (cks cs) (rspL A) K=K (tabW cs A) 0) {c:Int} (hc:c<32) (h8:andU8 c 8=0)
   (hb:∀ i,i<5→hasC c i=false→bitC i≠8∧(brk cs A [] (gapD cs A) (bitC i)).2.2=false) (K:Bool→Int→Prop):yek (cks cs) (rspL A) c (tabW cs A) K=K true 0:=by
 refine yza _ _ _ _ _ _ (fun K k=>?_) K
 have h6:=h.d.n6
 unfold yek ymG
 rw [hW,cnF rfl]
 dsimp only [Go.Pf.jn,lt]
 rw [cbF (by omega),yoN,cnF rfl]
 refine ⟨cs.length+1,(yER h _ _ cs.length 0 (cs.length+1) (by omega) (by omega)).mpr ?_⟩
 show cbr (andU8 c 8 != 0) _ _
 rw [h8,cnF rfl]
 refine ⟨6,?_⟩
 have s:=fun (n i:Nat) (hi:i<5)=>yLY h hw (a0:=yat) (a1:=yam) (a2:=yad) (a3:=yak) (a4:=yav) (fun _ _ _ _ _ _ _=>K true 0) (fun _ _ _ b e=>K b e) (c:=c) (l4:=tabW cs A) (n:=n) hi (hb i hi)
 refine (s 5 0 (by omega)).mpr ((s 4 1 (by omega)).mpr ((s 3 2 (by omega)).mpr ((s 2 3 (by omega)).mpr ((s 1 4 (by omega)).mpr ?_))))
 rw [ycc,cbF (by omega)]
 exact k
theorem yES {P:List Rat} {g:Bool}:(brk cs A P g 16).2.2=false↔∀ a,a<cs.length→(A.getD a []).length=1:=by
 have e:brk cs A P g 16=outS3 (scanA (wr4 A) cs.length cs.length 0):=rfl
 rw [e,ywp,ylj]
 constructor
 · intro h a ha
   have:=h a (by omega) (by omega) a ha
   unfold wr4 at this
   rw [decide_eq_true rfl,Bool.true_and,decide_eq_false_iff_not] at this
   exact Classical.not_not.1 this
 · intro h a _ ha b hb
   unfold wr4
   rw [decide_eq_false (not_not_intro (h a (by omega))),Bool.and_false]
theorem DV.Accept23 (h:DV cs A) (hw:∀ c∈cs,∀ a∈A,Go.Pf.Vc.small (wV c a)) (hW:∀ K,yat (cks cs) (rspL A) K=K (tabW cs A) 0)
   (h0:scanA (wr0 A) cs.length cs.length 0=none) (hg:gapD cs A=false) (h1:∀ a,a<cs.length→shareQ cs a≤wV (cs.getD a default) (A.getD a [])) (h2:∀ a b,a<cs.length→b<cs.length→wV (cs.getD a default) (A.getD b [])≤wV (cs.getD a default) (A.getD a [])) (h4:∀ a,a<cs.length→(A.getD a []).length=1) (K:Bool→Int→Prop):yek (cks cs) (rspL A) 23 (tabW cs A) K=K true 0:=by
 refine h.Accept hw hW (by omega) (by decide) (fun i hi hc=>?_) K
 obtain rfl | rfl | rfl | rfl | rfl:i=0∨i=1∨i=2∨i=3∨i=4:=by omega
 · exact ⟨by decide,ytw.2 ⟨h0,hg⟩⟩
 · exact ⟨by decide,ytx.2 h1⟩
 · exact ⟨by decide,ywq.2 h2⟩
 · exact absurd hc (by decide)
 · exact ⟨by decide,yES.2 h4⟩
end
end Go.Pf.Vc
namespace Go.Pf.Vc
open Go Go.Pf
def QR (cs:List Ck) (q:Qy):Prop :=
 (0≤q.agent∧q.agent<cs.length)∧(I64 q.an∧I64 q.ad∧I64 q.bn∧I64 q.bd) ∧
   ∃ p:Rat,(q.cn=p.num∧q.cd=p.den) ∧
     ((q.kind=2∧mrkR (cs.getD q.agent.toNat default).len (cs.getD q.agent.toNat default).cuts (cs.getD q.agent.toNat default).dens q.an q.ad q.bn q.bd=.ok p) ∨
      (q.kind=1∧valR (cs.getD q.agent.toNat default).len (cs.getD q.agent.toNat default).cuts (cs.getD q.agent.toNat default).dens q.an q.ad q.bn q.bd=.ok p))
section
variable {cs:List Ck} {lg:List Qy}
theorem yz2 (hd:DK cs) (hl:lg.length≤2000) (hq:∀ q∈lg,QR cs q) {a0} (x0:List PV→List PV→List PV→List PV→Int→Int→Bool→Prop) (x1:Int→Int→Prop) :
   ∀ (r i n:Nat),i+r=lg.length→r<n→ydi a0 ybg ybv ybj x0 x1 n (logs lg) (cks cs) (logs lg) (logs lg) (lg.length:Int) (i:Int)=x0 (logs lg) (cks cs) (logs lg) (logs lg) (lg.length:Int) (lg.length:Int) false
 | 0,i,n+1,hi,hn=>by
   obtain rfl:i=lg.length:=by omega
   rw [ydi,cbF (by omega)]
 | r+1,i,n+1,hi,hn=>by
   have h6:=hd.n6
   have e1:=wib (n:=(i:Int)+1) (by omega) (by omega)
   have ih:=yz2 hd hl hq (a0:=a0) x0 x1 r (i+1) n (by omega) (by omega)
   have hm:=yci (default:Qy) (show i<lg.length by omega)
   obtain ⟨⟨g0,g1⟩,⟨i1,i2,i3,i4⟩,p,⟨p1,p2⟩,hk⟩:=hq _ hm
   rw [ydi]
   dsimp only [lt,Go.Pf.jn]
   rw [cbT (by omega),yh0,asT (by omega),asT (by omega),Int.toNat_natCast,yAT (by omega),asQ,encQ0,encQ1,encQ2,encQ3,encQ4,encQ5,encQ6,encQ7,e1,cast1,ih]
   generalize lg.getD i default=q at *
   have hok:=hd.ok q.agent.toNat (by omega)
   have l1:=hok.l1;have l2:=hok.l2
   have em:∀ K,ybv (cks cs) (logs lg) q.agent q.an q.ad q.bn q.bd K=exK (mrkR (cs.getD q.agent.toNat default).len (cs.getD q.agent.toNat default).cuts (cs.getD q.agent.toNat default).dens q.an q.ad q.bn q.bd) K:=fun K=>by
     rw [ybv,ygI,ybc,yfd (by omega),asT (by omega),asT (by omega),asCk,ck0,ck1,ck2,yHP (by omega) (by omega) i1 i2 i3 i4]
   have ev:∀ K,ybj (cks cs) (logs lg) q.agent q.an q.ad q.bn q.bd K=exK (valR (cs.getD q.agent.toNat default).len (cs.getD q.agent.toNat default).cuts (cs.getD q.agent.toNat default).dens q.an q.ad q.bn q.bd) K:=fun K=>by
     rw [ybj,yf1,ybc,yfd (by omega),asT (by omega),asT (by omega),asCk,ck0,ck1,ck2,yzg (by omega) (by omega) i1 i2 i3 i4]
   have hh:∀ K,ybg (cks cs) (logs lg) q.agent K=K true:=fun K=>by rw [yJF,decide_eq_true ⟨g0,g1⟩]
   have es:((p.num == q.cn)&&(((p.den:Int) == q.cd)&&true))=true:=by rw [p1,p2];simp
   rcases hk with ⟨k2,hr⟩ | ⟨k1,hr⟩
   · rw [ceT k2,hh,Bool.not_true,yab,cbF (by omega),decide_eq_false (by omega),yab,em,hr]
     rw [yF9,cnF rfl,es,Bool.not_true,yab]
   · rw [ceF (by omega),hh,Bool.not_true,yab,cbF (by omega),decide_eq_false (by omega),yab,ev,hr]
     rw [yF9,cnF rfl,es,Bool.not_true,yab]
theorem yLZ (hd:DK cs) (hl:lg.length≤2000) (hq:∀ q∈lg,QR cs q) (K:Int→Int→Prop):ygK (cks cs) (logs lg) K=K (lg.length:Int) 0:=by
 refine yB1 _ _ _ _ (fun K k=>?_) K
 have h6:=hd.n6
 unfold ygK ypF
 rw [yns hd.fin (by omega),yh0,cnF (hd.err hl)]
 refine ⟨lg.length+1,(yz2 hd hl hq _ _ lg.length 0 (lg.length+1) (by omega) (by omega)).mpr ?_⟩
 rw [yh0]
 exact k
end
end Go.Pf.Vc
namespace Go.Pf.Vc
open Go Go.Pf
theorem yNu {n g:Nat} (e:Es) (he:EG e) {x y:PV} (hx:(spSrt n g).s.gd x=true) (hy:(spSrt n g).s.gd y=true):Ans (E e) ycO [x,y] (.int .i64 (spCmp x y)):=by
 obtain ⟨a,b,c,d,rfl,h1⟩:=gd_sp hx
 obtain ⟨a',b',c',d',rfl,h2⟩:=gd_sp hy
 obtain ⟨r,hr,ha⟩:=ytj e he [.agg [.int .i64 a,.int .i64 b,.int .i64 c,.int .i64 d],.agg [.int .i64 a',.int .i64 b',.int .i64 c',.int .i64 d']] (fun r=>r=.int .i64 (cmpI a b a' b')) (by
   show yiu a b c d a' b' c' d' (fun r=>PV.int .i64 r=.int .i64 (cmpI a b a' b'))
   unfold yiu yhV
   obtain ⟨k1,k2,k3⟩:=rt_of h1
   obtain ⟨k4,k5,k6⟩:=rt_of h2
   have:=yx3 k1 k4 (fun x _=>PV.int .i64 x=.int .i64 (cmpI a b a' b'))
   rw [k2,k3,k5,k6] at this
   rw [this,yPv h1 h2])
 rw [hr] at ha
 exact ha
end Go.Pf.Vc
namespace Go.Pf.Vc
open Go Go.Pf
structure LD (cs:List Ck) (A:List (List RS)) (t:Nat→Rat) (τ:Nat→Nat):Prop where
 d:DK cs
 l:A.length=cs.length
 t0:t 0=0
 tn:t cs.length=((cs.getD 0 default).len:Rat)
 lt:∀ j,j<cs.length→t j<t (j+1)
 sm:∀ j,j≤cs.length→small (t j)
 at_:∀ a,a<cs.length→τ a<cs.length∧A.getD a []=[(t (τ a),t (τ a+1))]
 inj:∀ a b,a<cs.length→b<cs.length→τ a=τ b→a=b
 sur:∀ j,j<cs.length→∃ a,a<cs.length∧τ a=j
section
variable {cs:List Ck} {A:List (List RS)} {t:Nat→Rat} {τ:Nat→Nat}
theorem LD.mono (h:LD cs A t τ):∀ {j i:Nat},i≤j→j≤cs.length→t i≤t j
 | 0,i,hij,_=>by
   obtain rfl:i=0:=by omega
   exact Rat.le_refl
 | j+1,i,hij,hj=>by
   by_cases e:i=j+1
   · subst e;exact Rat.le_refl
   · have:=h.mono (j:=j) (i:=i) (by omega) (by omega)
     have:=h.lt j (by omega)
     grind
theorem LD.bound (h:LD cs A t τ) {j:Nat} (hj:j≤cs.length):0≤t j∧t j≤((cs.getD 0 default).len:Rat):=by
 have a:=h.mono (Nat.zero_le j) hj
 have b:=h.mono hj (Nat.le_refl _)
 rw [h.t0] at a
 rw [h.tn] at b
 exact ⟨a,b⟩
theorem LD.DV (h:LD cs A t τ):DV cs A:=by
 have hA:∀ a∈A,∃ j,j<cs.length∧a=[(t j,t (j+1))]:=fun a ha=>by
   obtain ⟨i,hi,rfl⟩:=ypm [] ha
   have hl:=h.l
   obtain ⟨k1,k2⟩:=h.at_ i (by omega)
   exact ⟨_,k1,k2⟩
 refine ⟨h.d,h.l,fun a ha=>?_,fun a ha=>?_,fun a ha=>?_⟩
 · obtain ⟨j,hj,rfl⟩:=hA a ha
   refine ⟨⟨h.lt j hj,(fun t ht=>by cases ht),trivial⟩,fun s hs=>?_,by simp⟩
   rcases List.mem_cons.1 hs with rfl | hs
   · exact ⟨h.sm j (by omega),h.sm (j+1) (by omega)⟩
   · cases hs
 · obtain ⟨j,hj,rfl⟩:=hA a ha
   simp
 · obtain ⟨j,hj,rfl⟩:=hA a ha
   have b1:=h.bound (j:=j) (by omega)
   have b2:=h.bound (j:=j+1) (by omega)
   unfold withB
   rw [List.all_eq_true]
   intro s hs
   rcases List.mem_cons.1 hs with rfl | hs
   · rw [decide_eq_true (PT_of (h.sm j (by omega)) b1.1 b1.2),decide_eq_true (PT_of (h.sm (j+1) (by omega)) b2.1 b2.2)]
     rfl
   · cases hs
theorem LD.none (h:LD cs A t τ):scanA (wr0 A) cs.length cs.length 0=none:=by
 refine ylj.2 fun a _ ha b hb=>?_
 have hv:=h.DV
 have hl:=h.l
 unfold wr0
 by_cases hab:a<b
 case neg=>rw [decide_eq_false hab,Bool.false_and]
 rw [decide_eq_true hab,Bool.true_and]
 cases ht:touchB (A.getD a []) (A.getD b []) with
 | false=>rfl
 | true =>
   have ma:=yci [] (show a<A.length by omega)
   have mb:=yci [] (show b<A.length by omega)
   obtain ⟨p,p1,p2⟩:=(yCH (ymf (hv.p _ ma).c) (ymf (hv.p _ mb).c)).1 ht
   obtain ⟨k1,k2⟩:=h.at_ a (by omega)
   obtain ⟨m1,m2⟩:=h.at_ b hb
   rw [k2] at p1
   rw [m2] at p2
   have hne:τ a≠τ b:=fun e=>by
     have:=h.inj a b (by omega) hb e
     omega
   obtain ⟨s,hs,q1,q2⟩:=p1
   rcases List.mem_cons.1 hs with rfl | hs
   case inr=>cases hs
   obtain ⟨s,hs,r1,r2⟩:=p2
   rcases List.mem_cons.1 hs with rfl | hs
   case inr=>cases hs
   dsimp only at q1 q2 r1 r2
   by_cases hlt:τ a<τ b
   · have:=h.mono (i:=τ a+1) (j:=τ b) (by omega) (by omega)
     grind
   · have:=h.mono (i:=τ b+1) (j:=τ a) (by omega) (by omega)
     grind
theorem LD.nogap (h:LD cs A t τ):gapD cs A=false:=by
 cases hg:gapD cs A with
 | false=>rfl
 | true =>
   obtain ⟨p,p0,p1,hn⟩:=yCM.1 hg
   refine absurd ?_ hn
   have key:∀ n,n≤cs.length→p<t n→∃ j,j<n∧t j≤p∧p<t (j+1):=by
     intro n
     induction n with
     | zero =>
       intro _ hp
       rw [h.t0] at hp
       grind
     | succ n ih =>
       intro hn hp
       by_cases hc:p<t n
       · obtain ⟨j,h1,h2,h3⟩:=ih (by omega) hc
         exact ⟨j,by omega,h2,h3⟩
       · exact ⟨n,by omega,Rat.not_lt.1 hc,hp⟩
   obtain ⟨j,j1,j2,j3⟩:=key cs.length (Nat.le_refl _) (by rw [h.tn];exact p1)
   obtain ⟨a,a1,rfl⟩:=h.sur j j1
   have hl:=h.l
   refine ⟨A.getD a [],yci [] (by omega),(t (τ a),t (τ a+1)),?_,j2,j3⟩
   rw [(h.at_ a a1).2]
   exact List.mem_cons_self
theorem LD.one (h:LD cs A t τ):∀ a,a<cs.length→(A.getD a []).length=1:=fun a ha=>by rw [(h.at_ a ha).2];rfl
theorem LD.wV (h:LD cs A t τ) (c:Ck) {a:Nat} (ha:a<cs.length):wV c (A.getD a [])=vX c.cuts c.dens (t (τ a+1))-vX c.cuts c.dens (t (τ a)):=by
 rw [(h.at_ a ha).2]
 show (vX _ _ _-vX _ _ _)+0=_
 rw [Rat.add_zero]
theorem LD.InA (h:LD cs A t τ) {D:Int} (hi:∀ j,j≤cs.length→In D (t j)):InA D A:=fun a ha s hs=>by
 obtain ⟨i,hi',rfl⟩:=ypm [] ha
 have hl:=h.l
 obtain ⟨k1,k2⟩:=h.at_ i (by omega)
 rw [k2] at hs
 rcases List.mem_cons.1 hs with rfl | hs
 · exact ⟨hi _ (by omega),hi _ (by omega)⟩
 · cases hs
end
end Go.Pf.Vc
namespace Go.Pf.Vc
open Go Go.Pf
def cntQ (a:Int):List Qy→Int
 | []=>0
 | q::r=>(if q.agent=a then 1 else 0)+cntQ a r
theorem ywr {lg:List Qy} (hl:lg.length≤2000) {a:Int} (x0:Int→Int→List PV→Int→Int→Bool→Prop) :
   ∀ (r i n:Nat) (k:Int),i+r=lg.length→r<n→0≤k∧k≤i→ydL x0 n a k (logs lg) (lg.length:Int) (i:Int)=x0 a (k+cntQ a (lg.drop i)) (logs lg) (lg.length:Int) (lg.length:Int) false
 | 0,i,n+1,k,hi,hn,hk=>by
   obtain rfl:i=lg.length:=by omega
   rw [ydL,cbF (by omega),List.drop_length]
   show _=x0 a (k+0) _ _ _ _
   rw [Int.add_zero]
 | r+1,i,n+1,k,hi,hn,hk=>by
   have e1:=wib (n:=(i:Int)+1) (by omega) (by omega)
   have e2:=wib (n:=k+1) (by omega) (by omega)
   rw [ydL]
   dsimp only [lt,Go.Pf.jn]
   rw [cbT (by omega),yh0,asT (by omega),asT (by omega),Int.toNat_natCast,yAT (by omega),asQ,encQ0,e1,e2,cast1,ycV default (show i<lg.length by omega),cntQ]
   by_cases h:(lg.getD i default).agent=a
   · rw [ceT h,if_pos h,ywr hl x0 r (i+1) n (k+1) (by omega) (by omega) (by omega),Int.add_assoc]
   · rw [ceF h,if_neg h,ywr hl x0 r (i+1) n k (by omega) (by omega) (by omega),Int.zero_add]
theorem yIb {lg:List Qy} (hl:lg.length≤2000) {a:Int} (ha:0≤a) (K:Int→Prop):yhO (logs lg) a K=K (cntQ a lg):=by
 refine yDK _ _ _ (fun K k=>?_) K
 unfold yhO yqW
 rw [ceF (by omega),yh0]
 refine ⟨lg.length+1,(ywr hl _ lg.length 0 (lg.length+1) 0 (by omega) (by omega) (by omega)).mpr ?_⟩
 rw [List.drop_zero,Int.zero_add]
 exact k
section
variable {l:List Ck}
theorem Fr.in {D B:Int} {q:Rat} (h:Fr D B q):In D q:=by
 obtain ⟨n,_,_,e⟩:=h
 exact ⟨n,e⟩
theorem yJQ (hd:DK l) {c:Nat} (hc:c<l.length):vX (l.getD c default).cuts (l.getD c default).dens (chP l c)=vX (l.getD c default).cuts (l.getD c default).dens 0+hlf (l.getD c default):=by
 obtain ⟨d,e,_⟩:=ywl hd hc
 have hok:=hd.ok c hc
 have:=yx9 hok
 have hl:=yKL hok
 exact (yOy hok Rat.le_refl (by grind) (by grind) e).1
theorem yCQ (hd:DK l) {c:Nat} (hc:c<l.length):vX (l.getD c default).cuts (l.getD c default).dens ((l.getD 0 default).len:Rat)=vX (l.getD c default).cuts (l.getD c default).dens 0+2*hlf (l.getD c default):=by
 have hok:=hd.ok c hc
 have t:=yJN hok
 rw [hd.len c hc] at t
 have:2*hlf (l.getD c default)=((totC (l.getD c default).cuts (l.getD c default).dens:Int):Rat):=by rw [yJJ];grind
 rw [this,← t]
 grind
theorem yJR (hd:DK l) {c:Nat} (hc:c<l.length):0<chP l c∧chP l c<((l.getD 0 default).len:Rat):=by
 have hok:=hd.ok c hc
 have h1:=yJQ hd hc
 have h2:=yCQ hd hc
 have hp:=yx9 hok
 constructor
 · refine Rat.not_le.1 fun k=>?_
   have:=yyd hok k
   grind
 · refine Rat.not_le.1 fun k=>?_
   have:=yyd hok k
   grind
theorem yPy (hd:DK l) (h2:l.length=2) {c:Nat} (hc:c≤1):chV l c=vX (l.getD (1-c) default).cuts (l.getD (1-c) default).dens (chP l c)-vX (l.getD (1-c) default).cuts (l.getD (1-c) default).dens 0:=by
 have hok:=hd.ok (1-c) (by omega)
 have b:=yJR hd (c:=c) (by omega)
 exact yKJ hok Rat.le_refl (Rat.le_of_lt b.1) (yGa hd h2 hc).1
def chT (l:List Ck) (c:Nat):Nat→Rat
 | 0=>0
 | 1=>chP l c
 | _=>((l.getD 0 default).len:Rat)
def chA (l:List Ck) (c:Nat):List (List RS):=if chLeft l c 2=decide (c=1) then [[(0,chP l c)],[(chP l c,((l.getD 0 default).len:Rat))]] else [[(chP l c,((l.getD 0 default).len:Rat))],[(0,chP l c)]]
def chTau (l:List Ck) (c a:Nat):Nat:=if chLeft l c 2=decide (c=1) then a else 1-a
theorem yL0 (l:List Ck) (c:Nat):pieces (chDiv l c)=rspL (chA l c):=by
 unfold chDiv chA
 split <;> rfl
theorem ch_LD (hd:DK l) (h2:l.length=2) {c:Nat} (hc:c≤1):LD l (chA l c) (chT l c) (chTau l c):=by
 have b:=yJR hd (c:=c) (by omega)
 have hs:=ytR hd (c:=c) (by omega)
 have h0:=(hd.ok 0 (by omega)).len0
 refine ⟨hd,?_,rfl,by rw [h2];rfl,fun j hj=>?_,fun j hj=>?_,fun a ha=>?_,fun a b ha hb e=>?_,fun j hj=>?_⟩
 · unfold chA;split <;> rw [h2] <;> rfl
 · obtain rfl | rfl:j=0∨j=1:=by omega
   · exact b.1
   · exact b.2
 · obtain rfl | rfl | rfl:j=0∨j=1∨j=2:=by omega
   · exact ywo
   · exact hs
   · exact yhh (by omega)
 · unfold chTau chA
   obtain rfl | rfl:a=0∨a=1:=by omega
   all_goals (split <;> exact ⟨by omega,rfl⟩)
 · unfold chTau at e
   split at e <;> omega
 · unfold chTau
   split
   · exact ⟨j,hj,rfl⟩
   · exact ⟨1-j,by omega,by omega⟩
theorem yJS (h2:l.length=2) (a:Nat):shareQ l a=hlf (l.getD a default):=by
 unfold shareQ
 rw [h2]
 rfl
theorem yNv (hd:DK l) (h2:l.length=2) {c:Nat} (hc:c≤1):∀ a,a<l.length→shareQ l a≤wV (l.getD a default) ((chA l c).getD a []):=by
 intro a ha
 have L:=ch_LD hd h2 hc
 rw [L.wV _ ha,yJS h2]
 have th:=yCQ hd ha
 have hv:=yPy hd h2 hc
 have hp:=yJQ hd (c:=c) (by omega)
 have hL:chLeft l c 2=!decide (chV l c<hlf (l.getD (1-c) default)):=rfl
 by_cases hac:a=c
 · subst hac
   have:chTau l a a=0∨chTau l a a=1:=by have:=(L.at_ a ha).1;omega
   rcases this with e | e
   · rw [e]
     show hlf _≤vX _ _ (chP l a)-vX _ _ 0
     grind
   · rw [e]
     show hlf _≤vX _ _ ((l.getD 0 default).len:Rat)-vX _ _ (chP l a)
     grind
 · obtain rfl:a=1-c:=by omega
   by_cases hlt:chV l c<hlf (l.getD (1-c) default)
   · have hf:chLeft l c 2=false:=by rw [hL,decide_eq_true hlt];rfl
     have e:chTau l c (1-c)=1:=by
       unfold chTau
       rw [hf]
       obtain rfl | rfl:c=0∨c=1:=by omega
       · rfl
       · rfl
     rw [e]
     show hlf _≤vX _ _ ((l.getD 0 default).len:Rat)-vX _ _ (chP l c)
     grind
   · have hf:chLeft l c 2=true:=by rw [hL,decide_eq_false hlt];rfl
     have e:chTau l c (1-c)=0:=by
       unfold chTau
       rw [hf]
       obtain rfl | rfl:c=0∨c=1:=by omega
       · rfl
       · rfl
     rw [e]
     show hlf _≤vX _ _ (chP l c)-vX _ _ 0
     have:=Rat.not_lt.1 hlt
     grind
theorem yPz (hd:DK l) (h2:l.length=2) {c:Nat} (hc:c≤1):wV (l.getD c default) ((chA l c).getD c [])=hlf (l.getD c default):=by
 have L:=ch_LD hd h2 hc
 have hc':c<l.length:=by omega
 rw [L.wV _ hc']
 have th:=yCQ hd hc'
 have hp:=yJQ hd hc'
 have:chTau l c c=0∨chTau l c c=1:=by have:=(L.at_ c hc').1;omega
 rcases this with e | e
 · rw [e]
   show vX _ _ (chP l c)-vX _ _ 0=_
   grind
 · rw [e]
   show vX _ _ ((l.getD 0 default).len:Rat)-vX _ _ (chP l c)=_
   grind
theorem ch_QR (hd:DK l) (h2:l.length=2) {c:Nat} (hc:c≤1):∀ q∈chLog l c 2,QR l q:=by
 intro q hq
 have hc':c<l.length:=by omega
 have hs:=ytR hd hc'
 have b:=yJR hd hc'
 have hok:=hd.ok c hc'
 have hok1:=hd.ok (1-c) (by omega)
 have hh:=ynt hok
 have hp:=yx9 hok
 have l0:=hok.len0
 have l1:=hok1.len0
 have i0:I64 0:=⟨by omega,by omega⟩
 have i1:I64 1:=⟨by omega,by omega⟩
 rcases List.mem_cons.1 hq with rfl | hq
 · refine ⟨⟨by show (0:Int)≤c;omega,by show (c:Int)<_;omega⟩,⟨i0,i1,hh.i1,hh.i2⟩,chP l c,⟨rfl,rfl⟩,.inl ⟨rfl,?_⟩⟩
   show mrkR (l.getD c default).len (l.getD c default).cuts (l.getD c default).dens 0 1 (hlf (l.getD c default)).num (hlf (l.getD c default)).den=_
   unfold mrkR
   rw [if_pos hok.ck,if_pos ⟨PT01 l0.1,hh.rv,Rat.num_nonneg.2 (Rat.le_of_lt hp)⟩,rt01,yf4]
   exact (ywl hd hc').choose_spec.1
 · rcases List.mem_cons.1 hq with rfl | hq
   · refine ⟨⟨by show (0:Int)≤((1-c:Nat):Int);omega,by show ((1-c:Nat):Int)<_;omega⟩,⟨i0,i1,hs.i1,hs.i2⟩,chV l c,⟨rfl,rfl⟩,.inr ⟨rfl,?_⟩⟩
     show valR (l.getD (1-c) default).len (l.getD (1-c) default).cuts (l.getD (1-c) default).dens 0 1 (chP l c).num (chP l c).den=_
     have hpt:PT (l.getD (1-c) default).len (chP l c).num (chP l c).den:=PT_of hs (Rat.le_of_lt b.1) (by rw [hd.len (1-c) (by omega)];exact Rat.le_of_lt b.2)
     unfold valR
     rw [if_pos hok1.ck,rt01,yf4,if_pos ⟨PT01 l1.1,hpt,fun h=>by grind⟩]
     exact (yGa hd h2 hc).1
   · cases hq
end
theorem yD0 {l:List Ck} (hl:l.length≤9223372036854775807) (cutter:Int):yie (cks l) cutter (fun b=>b=true):=by
 unfold yie ykn
 rw [yPt hl]
 by_cases hf:(!greatC l&&decide (cakE l cutter=0))=true
 case neg =>
   rw [show (!greatC l&&decide (cakE l cutter=0))=false by simpa using hf]
   show yjv _
   rw [yEH]
 rw [hf,show (!true)=false from rfl,yab]
 simp only [Bool.and_eq_true,Bool.not_eq_true',decide_eq_true_eq] at hf
 obtain ⟨hg,hz⟩:=hf
 obtain ⟨g1,g2,g3⟩:=yCA hg
 obtain ⟨hd,h2,c,hc,rfl⟩:=yzj hz
 have hc':c<l.length:=by omega
 have L:=ch_LD hd h2 hc
 have dv:=L.DV
 obtain ⟨d,_,e2,e3,_⟩:=ywl hd hc'
 have hi:∀ j,j≤l.length→In (2*d) (chT l c j):=fun j hj=>by
   obtain rfl | rfl | rfl:j=0∨j=1∨j=2:=by omega
   · exact In.int (by omega) 0
   · exact e3.in
   · exact In.int (by omega) _
 obtain ⟨k1,k2,k3,k4⟩:=dv.good (D:=2*d) ⟨by omega,by omega⟩ (L.InA hi)
 have hsh:=yNv hd h2 hc
 have hn:=L.none
 have hgp:=L.nogap
 have f1:(brk l (chA l c) (prtL l (chA l c) l.length) (gapD l (chA l c)) 1).2.2=false:=ytw.2 ⟨hn,hgp⟩
 have f2:(brk l (chA l c) (prtL l (chA l c) l.length) (gapD l (chA l c)) 2).2.2=false:=ytx.2 hsh
 have f4:=yH9 dv f1 f2 h2
 have f16:(brk l (chA l c) (prtL l (chA l c) l.length) (gapD l (chA l c)) 16).2.2=false:=yES.2 L.one
 have ec:andU8 (claimsM l (chA l c) (prtL l (chA l c) l.length) (gapD l (chA l c))) 23=23:=by
   rw [yH6,f1,f2,f4,f16]
   cases (brk l (chA l c) (prtL l (chA l c) l.length) (gapD l (chA l c)) 8).2.2 <;> decide
 have hlog:(chLog l c 2).length=2:=rfl
 rw [yJK g3 (by omega),if_pos hz,Int.toNat_natCast,yL0,k4,yLZ hd (by rw [hlog];omega) (ch_QR hd h2 hc),yNk,cnF rfl,cnF rfl,cnF rfl,hlog,cnF (show ((2:Nat):Int)=2 from rfl),yh0,hlog,cnF (show ((2:Nat):Int)=2 from rfl),
   yIb (by rw [hlog];omega) (by omega),yIb (by rw [hlog];omega) (by omega)]
 have c0:cntQ 0 (chLog l c 2)=1:=by
   obtain rfl | rfl:c=0∨c=1:=by omega
   · rfl
   · rfl
 have c1:cntQ 1 (chLog l c 2)=1:=by
   obtain rfl | rfl:c=0∨c=1:=by omega
   · rfl
   · rfl
 rw [c0,cnF rfl,c1]
 show cbr false _ _
 rw [yab,dv.Accept23 k1 k2 hn hgp hsh (ywq.1 f4) L.one,yNk,ceT rfl,yah]
 show cbr (andU8 (claimsM l (chA l c) (prtL l (chA l c) l.length) (gapD l (chA l c))) 23 == 23) _ _
 have hl2:=L.l
 rw [ec,ceT rfl,yoN,ceT (by omega),asT (by omega),asT (by omega)]
 dsimp only [lt]
 rw [ytS hc',asD,datD,ynm,List.length_map,ceT (by omega),asT (by omega),asT (by omega),asD,asT (by omega),asT (by omega),yrr (by rw [List.length_map];omega),asW,asT (by omega),ybc,asT (by omega),yfd hc',asCk,ck0,ck1,ck2,yM4 (hd.ok c hc'),encW0,encW1,ytT (by omega),yPz hd h2 hc]
 have eb:∀ a b:Int,((a == a)&&((b == b)&&true))=true:=fun a b=>by simp
 rw [eb,yah,yEH]
end Go.Pf.Vc
