/- Part 2 of what the statement rests on: a verified evaluator over pure values, the conditions of the program's functions, and their plain laws. -/
import Derived.Test.YtegkpannhahmcaaGreatKfW1
namespace Go.Pf
open Go
section
variable {H:Type} {enc:TypeId×Value→H} {P:Program} {w:World} {I:Nat→Prop}
theorem yMd (K:Kids P (·<P.types.size)):∀ n,yS9 enc P w I n:=by
 intro n
 induction n with
 | zero=>intro d t cs x _ _ h;simp [DataW.trod] at h
 | succ n ih =>
  intro d t cs x hrow hty h hI
  cases d with
  | b =>
   unfold tyOk at hty
   split at hty
   ·rename_i ht
    obtain ⟨b,rfl,_⟩:=DataW.trod_bool ht h
    refine ⟨[.bool b],by simp only [HasF];exact ⟨b,rfl⟩,?_⟩
    simp only [ya5,RC]
    exact ⟨_,_,rfl,rfl,rfl,rfl⟩
   ·cases hty
  | i k =>
   unfold tyOk at hty
   split at hty
   ·rename_i q ht
    simp only [decide_eq_true_eq] at hty
    subst hty
    obtain ⟨m,rfl,_,hw⟩:=DataW.trod_int ht h
    have hk:inK q m:=by
     unfold inK
     simpa [Lit.wf] using hw
    refine ⟨[.int q m],by simp only [HasF];exact ⟨m,rfl,hk⟩,?_⟩
    simp only [ya5,RC]
    exact ⟨_,_,rfl,rfl,⟨rfl,hk⟩,rfl⟩
   ·cases hty
  | s e =>
   unfold tyOk at hty
   split at hty
   ·rename_i u ht
    simp only [qAc,decide_eq_true_eq] at hty
    obtain ⟨hpos,hty⟩:=hty
    rcases DataW.trod_slice ht h with ⟨rfl,_⟩ | ⟨a,len,cap,elems,rest,m,hm,rfl,rfl,_,hle,hcap,hlen,hel,_⟩
    ·refine ⟨[.data []],?_,?_⟩
     ·simp only [HasF];exact ⟨[],rfl,by simp,by simp⟩
     ·simp only [ya5,RC]
      exact ⟨_,_,rfl,rfl,⟨none,0,0,rfl,rfl,by omega,by decide,by simp⟩,rfl⟩
    ·have hmn:m=n:=by omega
     subst hmn
     have hru:=K.slice hrow ht
     have hspot0:len≠0→a.spot=none:=by
      intro h0
      have hb:=hel 0 (by omega)
      rw [qAb (by omega)] at hb
      obtain ⟨cs',hc,hy⟩:=Option.bind_eq_some_iff.1 hb
      obtain ⟨_,hcl,hcg⟩:=World.cells?_some hc
      have h0:=hcg 0 hpos
      rw [qAb (by omega)] at h0
      have e0:(a.add (0*P.cellsOf u)).add 0=a:=by simp [Addr.add]
      rw [e0] at h0
      unfold World.cell? at h0
      split at h0
      ·split at h0
       ·cases h0
       ·rename_i hs;simpa using hs
      ·cases h0
     have hadd:a.spot=none→∀ k i:Nat,(a.add k).add i=⟨a.block,a.off+k+i,none⟩:=by
      intro hs k i
      obtain ⟨ab,ao,as⟩:=a
      simp only at hs
      subst hs
      simp only [Addr.add]
      by_cases h1:k=0 <;> by_cases h2:i=0 <;> simp [h1,h2,Nat.add_assoc]
     have ylG:∀ (r j:Nat),j+r=len→∃ rows:List PV,rows.length=r∧(∀ x∈rows,x.isAgg=e.isA∧HasF e x.cells)∧(r≠0→a.spot=none∧I a.block)∧yeu I w rows (P.cellsOf u) a.block (a.off+j*P.cellsOf u):=by
      intro r
      induction r with
      | zero=>intro j _;exact ⟨[],rfl,by simp,fun h=>absurd rfl h,by simp only [yeu]⟩
      | succ r ihr =>
       intro j hj
       obtain ⟨rows,l1,l2,_,l4⟩:=ihr (j+1) (by omega)
       have hj2:j<elems.length:=by omega
       have hb:=hel j (by omega)
       rw [qAb hj2] at hb
       obtain ⟨cs',hc,hy⟩:=Option.bind_eq_some_iff.1 hb
       obtain ⟨_,hcl,hcg⟩:=World.cells?_some hc
       obtain ⟨pcs,k1,k2⟩:=ih e u cs' _ hru hty hy (fun p hp=>hI p (by
        simp only [qA9,List.mem_flatMap]
        exact .inr ⟨elems[j],.inl (qBr _),hp⟩))
       obtain ⟨x,x1,x2,x3⟩:=yTE (I:=I) (w:=w) k1
       have hspot:=hspot0 (by omega)
       have hIa:I a.block:=hI (.cell a.block a.off) (by
        simp only [qA9]
        left
        exact MemPlace.mem_row.2 ⟨0,Nat.mul_pos (by omega) hpos,rfl⟩)
       refine ⟨x::rows,by simp [l1],?_,fun _=>⟨hspot,hIa⟩,?_⟩
       ·intro y hy
        rcases qAv.1 hy with rfl | hy
        ·exact ⟨x1,by rw [x2];exact k1⟩
        ·exact l2 y hy
       ·simp only [yeu]
        refine ⟨⟨cs',hcl,x3 _ k2,?_⟩,?_⟩
        ·intro i v hi
         have hi2:i<P.cellsOf u:=by rw [← hcl];exact (List.getElem?_eq_some_iff.1 hi).1
         have:=hcg i hi2
         rw [hi] at this
         rw [← this,hadd hspot]
        ·rw [Nat.add_assoc,show j*P.cellsOf u+P.cellsOf u=(j+1)*P.cellsOf u by rw [qAq,qBa]]
         exact l4
     obtain ⟨rows,l1,l2,l3,l4⟩:=ylG len 0 (by omega)
     refine ⟨[.data rows],?_,?_⟩
     ·simp only [HasF];exact ⟨rows,rfl,by omega,l2⟩
     ·simp only [ya5,RC]
      refine ⟨_,_,rfl,rfl,⟨some a,len,cap,rfl,l1.symm,hle,hcap,?_⟩,rfl⟩
      by_cases h0:len=0
      ·left;exact qAh (by omega)
      ·right
       obtain ⟨hs,hIa⟩:=l3 h0
       refine ⟨a.block,a.off,P.cellsOf u,?_,hIa,hpos,by simpa using l4⟩
       cases a;simp only at hs;subst hs;rfl
   ·cases hty
  | a l =>
   unfold tyOk at hty
   split at hty
   ·rename_i fs ht
    obtain ⟨xs,m,hm,rfl,hcl,hxl,hxs⟩:=DataW.trod_struct ht h
    have hmn:m=n:=by omega
    subst hmn
    obtain ⟨k1,k2,k3⟩:=K.struct hrow ht
    have:=yDU ih (l:=l) (ts:=fs.toList.map (·.type)) hty (fun t ht=>by obtain ⟨f,hf,rfl⟩:=qB1.1 ht;exact k1 f hf) (cs:=cs) (xs:=xs) (fun j=>((fs.toList.take j).map fun f=>P.cellsOf f.type).sum)
     (fun j t hj=>by
      rw [qAy,qA6] at hj
      obtain ⟨f,hf,rfl⟩:=hj
      obtain ⟨hlt,hf2⟩:=List.getElem?_eq_some_iff.1 hf
      show ((fs.toList.take (j+1)).map _).sum=_
      rw [List.take_add_one,hf]
      simp)
     (by simp only [qAo,List.take_length];rw [hcl,k2];exact qAk _)
     (fun j t hj=>by
      rw [qAy,qA6] at hj
      obtain ⟨f,hf,rfl⟩:=hj
      have:=hxs j f (by simpa using hf)
      rw [← this,k3 j f hf])
     (by simp [hxl]) hI (fs.toList.map (·.type)).length 0 (by omega)
    obtain ⟨pcs,p1,p2⟩:=this
    exact ⟨pcs,by simp only [HasF];exact p1,by simpa using p2⟩
   ·rename_i q u ht
    obtain ⟨xs,m,hm,rfl,hcl,hxl,hxs⟩:=DataW.trod_array ht h
    have hmn:m=n:=by omega
    subst hmn
    obtain ⟨k1,k2⟩:=K.array hrow ht
    have:=yDU ih (l:=l) (ts:=List.replicate q u) hty (fun t ht=>by rw [(List.mem_replicate.1 ht).2];exact k1) (cs:=cs) (xs:=xs) (fun j=>j*P.cellsOf u)
     (fun j t hj=>by
      have:t=u:=(List.mem_replicate.1 (List.mem_of_getElem? hj)).2
      subst this
      show (j+1)*_=_
      rw [qAq,qBa])
     (by rw [qAt,hcl,k2];exact qAk _)
     (fun j t hj=>by
      have e:t=u:=(List.mem_replicate.1 (List.mem_of_getElem? hj)).2
      subst e
      have hlt:j<q:=by have:=(List.getElem?_eq_some_iff.1 hj).1;simpa using this
      exact hxs j hlt)
     (by simp [hxl]) hI (List.replicate q u).length 0 (by omega)
    obtain ⟨pcs,p1,p2⟩:=this
    exact ⟨pcs,by simp only [HasF];exact p1,by simpa using p2⟩
   ·cases hty
end
end Go.Pf
namespace Go.Pf
open Go Go.ChangeShapes Go.WideShapes Go.ChangeAt Go.RowKit
def yyW:List DS→List PV→Prop
 | [],as=>as=[]
 | d::l,as=>∃ x r,as=x::r∧x.isAgg=d.isA∧HasF d x.cells∧yyW l r
section
variable {H:Type} {enc:TypeId×Value→H} {P:Program}
theorem yQb (K:Kids P (·<P.types.size)) {w:World} {I:Nat→Prop} {base:Nat} {d:DS} {t:TypeId} {v:Value} {x:DataW H} {p:List MemPlace} (hrow:t<P.types.size) (hty:tyOk P d t=true)
  (hval:Value.okWide P w .any base t v) (h:DataW.Trod enc P w 0 (fun _=>true) true t v x p) (hI:∀ q∈p,I q.block) :
  ∃ y:PV,y.isAgg=d.isA∧HasF d y.cells∧VP1 I w y v:=by
 obtain ⟨n,hn⟩:=h
 obtain ⟨pcs,h1,h2⟩:=yMd (I:=I) K n d t _ _ hrow hty hn hI
 have single:∀ y:PV,pcs=[y]→y.isAgg=false→d.isA=false→v.cells.toList=[v]→∃ y:PV,y.isAgg=d.isA∧HasF d y.cells∧VP1 I w y v:=by
  intro y e hy hd hv
  subst e
  refine ⟨y,hy.trans hd.symm,?_,?_⟩
  ·have:y.cells=[y]:=by cases y <;> first | rfl | cases hy
   rw [this];exact h1
  ·rw [hv] at h2
   simp only [ya5] at h2
   obtain ⟨u,vr,e,_,h3,h4⟩:=h2
   simp only [qAx] at e
   obtain ⟨rfl,_⟩:=e
   cases y <;> first | exact h3 | (simp only [RC] at h3;done) | (simp only [VP1];exact h3) | cases hy
 cases d with
 | b =>
  unfold tyOk at hty
  split at hty
  ·rename_i ht
   obtain ⟨b,rfl⟩:=okWide_bool ht hval
   simp only [HasF] at h1
   obtain ⟨z,e⟩:=h1
   exact single _ e rfl rfl rfl
  ·cases hty
 | i k =>
  unfold tyOk at hty
  split at hty
  ·rename_i q ht
   obtain ⟨m,rfl⟩:=okWide_int ht hval
   simp only [HasF] at h1
   obtain ⟨z,e,_⟩:=h1
   exact single _ e rfl rfl rfl
  ·cases hty
 | s e =>
  unfold tyOk at hty
  split at hty
  ·rename_i u ht
   obtain ⟨a,len,cap,rfl⟩:=okWide_slice ht hval
   simp only [HasF] at h1
   obtain ⟨z,e,_⟩:=h1
   exact single _ e rfl rfl rfl
  ·cases hty
 | a l =>
  have key:∀ cs,v=.agg cs→∃ y:PV,y.isAgg=(DS.a l).isA∧HasF (DS.a l) y.cells∧VP1 I w y v:=by
   rintro cs rfl
   refine ⟨.agg pcs,rfl,h1,?_⟩
   simp only [VP1]
   exact ⟨cs.toList,rfl,h2⟩
  unfold tyOk at hty
  split at hty
  ·rename_i fs ht
   obtain ⟨cs,e,_⟩:=okWide_struct ht hval
   exact key cs e
  ·rename_i q u ht
   have hval2:=hval
   unfold Value.okWide at hval2
   rw [ht] at hval2
   obtain ⟨cs,e,_⟩:=hval2
   exact key cs e
  ·cases hty
theorem yHc (K:Kids P (·<P.types.size)) {w:World} {I:Nat→Prop} {base:Nat}:∀ (ts:List TypeId) (dss:List DS) (vs:List Value) (xs:List (DataW H)) (p:List MemPlace),tyL P dss ts=true→(∀ t∈ts,t<P.types.size) →
  (∀ (j:Nat) t v,ts[j]?=some t→vs[j]?=some v→Value.okWide P w .any base t v)→DataW.TrodAll enc P w 0 (fun _=>true) true ts vs xs p→(∀ q∈p,I q.block)→∃ as,yyW dss as∧VPs I w as vs
 | [],[],[],[],p,_,_,_,_,_=>⟨[],by simp only [yyW],by simp only [VPs]⟩
 | t::ts,d::dss,v::vs,x::xs,p,hty,hrow,hval,h,hI=>by
  unfold tyL at hty
  simp only [qAc] at hty
  obtain ⟨p1,q,h1,h2,rfl⟩:=h
  obtain ⟨y,y1,y2,y3⟩:=yQb K (hrow t (qAj ..)) hty.1 (hval 0 t v rfl rfl) h1 (fun z hz=>hI z (List.mem_append_left _ hz))
  obtain ⟨as,a1,a2⟩:=yHc K ts dss vs xs q hty.2 (fun u hu=>hrow u (qAm _ hu)) (fun j u z hj hz=>hval (j+1) u z hj hz) h2 (fun z hz=>hI z (List.mem_append_right _ hz))
  refine ⟨y::as,?_,?_⟩
  ·simp only [yyW];exact ⟨y,as,rfl,y1,y2,a1⟩
  ·simp only [VPs];exact ⟨v,vs,rfl,y3,a2⟩
 | [],_::_,_,_,_,hty,_,_,_,_=>by unfold tyL at hty;cases hty
 | _::_,[],_,_,_,hty,_,_,_,_=>by unfold tyL at hty;cases hty
 | [],[],_::_,_,_,_,_,_,h,_=>h.elim
 | [],[],[],_::_,_,_,_,_,h,_=>h.elim
 | _::_,_::_,[],_,_,_,_,_,h,_=>h.elim
 | _::_,_::_,_::_,[],_,_,_,_,h,_=>h.elim
theorem yOE (K:Kids P (·<P.types.size)) {n:FuncId} {fn:Func} {G:Nat→Option PV} {dss:List DS} {ts:List TypeId} (hty:tyL P dss ts=true) (hrow:∀ t∈ts,t<P.types.size)
  (hf : P.funcs[n]? = some fn) (hn : (fn.name == "runtime.NumGoroutine") = false) (hb : fn.body.isSome = true) (hsum : ∀ as, yyW dss as → yrx P G n as (.bool true))
  {W:World} {base:Nat} {args:Array Value} {ds:List (DataW H)} {p:List MemPlace} {I:Nat→Prop} (hval:∀ (j:Nat) t v,ts[j]?=some t→args.toList[j]?=some v→Value.okWide P W .any base t v)
  (hA:DataW.TrodAll enc P W 0 (fun _=>true) true ts args.toList ds p) (hI:∀ q∈p,I q.block) (himm:∀ b,I b→b<W.heap.size) (hG:yLR G I W) :
  Calls P n args W fun e W'=>e=.returned (.bool true)∧Below W.heap.size W W':=by
 obtain ⟨as,a1,a2⟩:=yHc (I:=I) K ts dss args.toList ds p hty hrow hval hA hI
 have h:=hsum as a1 I W args.toList himm hG a2
 have e:(callFunc n (args.toList).toArray).run P W=.ok (.enter n args) W:=by
  have h1 : fn.name ≠ "runtime.NumGoroutine" := by simpa using hn
  obtain ⟨c,hc⟩:=Option.isSome_iff_exists.1 hb
  simp [callFunc,hf,h1,hc]
 unfold yoV at h
 rw [e] at h
 refine Calls.mono h fun e w' he=>?_
 cases e with
 | returned v =>
  obtain ⟨h1,h2⟩:=he
  simp only [VP,VP1,RC,qAx,and_true] at h2
  exact ⟨by rw [h2],h1.toBelow⟩
 | panicked ch=>exact he.elim
 | outgrown=>exact he.elim
theorem yMe (K:Kids P (·<P.types.size)) (hz:∀ t e,t<P.types.size→P.underlying t=some (.slice e)→0<P.cellsOf e) {W W':World} (hb:Below W.heap.size W W') {sp:Nat→Bool} :
  ∀ {ts:List TypeId} {vs:List Value} {ds:List (DataW H)} {ps:List MemPlace},(∀ t∈ts,t<P.types.size)→DataW.TrodAll enc P W 0 (fun _=>true) true ts vs ds ps→(∀ p∈ps,p.block<W.heap.size)→(∀ p∈ps,sp p.block=true)→DataW.TrodAll enc P W' 0 sp true ts vs ds ps:=by
 intro ts vs ds ps hT h hlt hs
 have carry:∀ {ts:List TypeId} {vs:List Value} {ds:List (DataW H)} {ps:List MemPlace},DataW.TrodAll enc P W 0 (fun _=>true) true ts vs ds ps→(∀ p∈ps,p.block<W.heap.size)→DataW.TrodAll enc P W' 0 (fun _=>true) true ts vs ds ps:=by
  intro ts
  induction ts with
  | nil =>
   intro vs ds ps h _
   cases vs with
   | nil=>cases ds with
    | nil=>exact h
    | cons _ _=>exact h.elim
   | cons _ _=>exact h.elim
  | cons t ts ih =>
   intro vs ds ps h hlt
   cases vs with
   | nil=>exact h.elim
   | cons v vs=>cases ds with
    | nil=>exact h.elim
    | cons d ds =>
     obtain ⟨p,q,⟨n,h1⟩,h2,e⟩:=h
     subst e
     exact ⟨p,q,⟨n,DataW.trod_carry n _ _ _ h1 (fun x hx=>hb.same (hlt x (List.mem_append_left _ hx)))⟩,ih h2 (fun x hx=>hlt x (List.mem_append_right _ hx)),rfl⟩
 exact DataW.TrodAll.respare K hz hT (carry h hlt) hs
theorem yDV {f:Func} {s:ChangeSpec} {ys9 fresh handsOn again:Bool} {W W':World} {args:Array Value} {v:Value} {ds gs:List (DataW H)} {before pa pv:List MemPlace}
  (hW:DataW.Whole enc P f.params.toList s.vars ys9 W args.toList ds gs before)
  (hres:∀ (b:Nat) (sp:Nat→Bool) (hd:Bool),DataW.TrodAll enc P W' b sp hd f.resultTypes.toList (v.resultList f.resultTypes.size) (s.fn H (ds++gs)).results [])
  (hargs:∀ sp:Nat→Bool,(∀ p∈before,sp p.block=true)→DataW.TrodAll enc P W' 0 sp true f.params.toList args.toList (s.fn H (ds++gs)).args pa)
  (hvars:∀ sp:Nat→Bool,(∀ p∈before,sp p.block=true)→DataW.TrodVars enc P W' sp s.vars (s.fn H (ds++gs)).vars pv)
  (hps:before=pa++pv) (hb:Below W.heap.size W W')
  (hok:∀ (j:Nat) (t:TypeId) (r:Value),f.resultTypes[j]?=some t→(v.resultList f.resultTypes.size)[j]?=some r→Value.okWide P W' .any 0 t r) :
  s.post enc P f ys9 fresh handsOn again W args v W':=by
 have hlt:∀ p∈before,p.block<W.heap.size:=fun p hp=>hW.lt p hp
 have hold:∀ p∈before,(fun b=>decide (b<W.heap.size)) p.block=true:=fun p hp=>by simpa using hlt p hp
 refine ⟨ds,gs,before,[],pa,pv,hW,hres _ _ _,hargs _ hold,hvars _ hold,World.keptBut_mono (fun p hp=>⟨hp,?_⟩) (hb.frame (·∈before)),fun _=>?_⟩
 ·rw [hps,qA9] at hp
  exact Or.inr hp
 ·obtain ⟨_,_,_,_,_,hz,hn⟩:=hW
  refine ⟨hok,_,_,([]++pa)++pv,⟨[]++pa,pv,trodAll_append (hargs _ (fun _ _=>rfl)) (hres _ _ _),hvars _ (fun _ _=>rfl),rfl,?_,?_⟩,?_⟩
  ·intro b off hp
   have hin:MemPlace.cell b off∈before:=by rw [hps];simpa using hp
   rw [hb.frozen (hlt _ hin)]
   exact hz b off hin
  ·intro ha
   have:=hn ha
   rw [hps] at this
   simpa using this
  ·intro p hp _
   rw [hps]
   simpa using hp
theorem yQc (K:Kids P (·<P.types.size)) (hz:∀ t e,t<P.types.size→P.underlying t=some (.slice e)→0<P.cellsOf e) {n:FuncId} {fn:Func} {G:Nat→Option PV} {dss:List DS} {s:ChangeSpec} {bt:TypeId}
  (hty : tyL P dss fn.params.toList = true) (hrow : ∀ t ∈ fn.params.toList, t < P.types.size) (hf : P.funcs[n]? = some fn) (hn : (fn.name == "runtime.NumGoroutine") = false) (hb : fn.body.isSome = true)
  (hvars:s.vars=[]) (hfn:∀ ds:List (DataW H),ds.length=fn.params.toList.length→s.fn H (ds++[])={ results:=[.lit (.bool true)],args:=ds })
  (hrt:fn.resultTypes.toList=[bt]) (hbt:P.underlying bt=some .bool) (hsum:∀ as,yyW dss as→yrx P G n as (.bool true)) {ys9 fresh handsOn again:Bool}
  {W:World} {base:Nat} {args:Array Value} {ds gs:List (DataW H)} {before:List MemPlace} (hval:∀ (j:Nat) t v,fn.params[j]?=some t→args[j]?=some v→Value.okWide P W .any base t v)
  (hW:DataW.Whole enc P fn.params.toList s.vars ys9 W args.toList ds gs before) (J:Nat→Prop) (hJ:∀ b,J b→b<W.heap.size) (hG:yLR G (fun b=>(∃ p∈before,p.block=b)∨J b) W) :
  Calls P n args W fun e W'=>∃ v,e=.returned v∧s.post enc P fn ys9 fresh handsOn again W args v W':=by
 have hW':=hW
 obtain ⟨p,q,hA,hV,hpq,hfz,hnd⟩:=hW
 have hlt:∀ x∈before,x.block<W.heap.size:=fun x hx=>hW'.lt x hx
 rw [hvars] at hV
 obtain ⟨hgs,hq⟩:=trodVars_none hV
 subst hgs;subst hq
 rw [qBx] at hpq
 subst hpq
 have hlen:ds.length=fn.params.toList.length:=by
  have len:∀ {ts:List TypeId} {vs:List Value} {xs:List (DataW H)} {ps:List MemPlace},DataW.TrodAll enc P W 0 (fun _=>true) true ts vs xs ps→xs.length=ts.length:=by
   intro ts
   induction ts with
   | nil =>
    intro vs xs ps h
    cases vs with
    | nil=>cases xs with
     | nil=>rfl
     | cons _ _=>exact h.elim
    | cons _ _=>exact h.elim
   | cons t ts ih =>
    intro vs xs ps h
    cases vs with
    | nil=>exact h.elim
    | cons v vs=>cases xs with
     | nil=>exact h.elim
     | cons x xs =>
      obtain ⟨_,_,_,h2,_⟩:=h
      simp [ih h2]
  exact len hA
 have hc:=yOE (I:=fun b=>(∃ x∈before,x.block=b)∨J b) K hty hrow hf hn hb hsum (W:=W) (base:=base) (args:=args) (fun j t v h1 h2=>hval j t v (by simpa using h1) (by simpa using h2)) hA (fun x hx=>.inl ⟨x,hx,rfl⟩)
  (fun b hb=>by
   rcases hb with ⟨x,hx,rfl⟩ | hb
   ·exact hlt x hx
   ·exact hJ b hb) hG
 refine hc.mono fun e W' ⟨he,hg⟩=>?_
 subst he
 have hrs:fn.resultTypes=#[bt]:=by rw [← qBl];exact hrt
 refine ⟨_,rfl,yDV (pa:=before) (pv:=[]) hW' ?_ ?_ ?_ (by simp) hg ?_⟩
 ·intro b sp hd
  rw [hfn ds hlen,hrs]
  exact trodAll_mk1 (shut_bool hbt true)
 ·intro sp hs
  rw [hfn ds hlen]
  exact yMe K hz hg hrow hA hlt hs
 ·intro sp hs
  rw [hfn ds hlen,hvars];rfl
 ·intro j t r h1 h2
  rw [hrs] at h1 h2
  have hj:j=0:=by
   rcases j with _ | j
   ·rfl
   ·simp at h1
  subst hj
  simp at h1
  subst h1
  have:r=.bool true:=by
   have h3:((Value.bool true).resultList (#[bt]:Array TypeId).size)[0]?=some (.bool true):=rfl
   rw [h3] at h2
   exact (Option.some.inj h2).symm
  subst this
  exact okWide_bool_mk hbt true
end
end Go.Pf
namespace Go.Pf
open Go
def yHd:PV→Value
 | .int k n=>.int k n
 | _=>.bool false
def okL:List IntKind→List PV→Bool
 | [],[]=>true
 | k::ks,.int q n::r=>decide (q=k)&&(decide (k.min≤n)&&(decide (n≤k.max)&&okL ks r))
 | _,_=>false
def okI (ks:List IntKind):PV→Bool
 | .agg cs=>okL ks cs
 | _=>false
def encI (x:PV):List Value:=x.cells.map yHd
structure Srt where
 n:Nat
 g:Nat
 ks:List IntKind
 good:PV→Bool
 z:PV
def Srt.gd (s:Srt) (x:PV):Bool:=okI s.ks x&&s.good x
abbrev Srt.El (s:Srt):Type:={x:PV // s.gd x=true}
def Srt.enc (s:Srt) (x:s.El):List Value:=encI x.1
def Srt.rows? (s:Srt):List PV→Option (List s.El)
 | []=>some []
 | x::r=>if h:s.gd x=true then (match s.rows? r with | some l=>some (⟨x,h⟩::l) | none=>none) else none
theorem Srt.rows?_val {s:Srt}:∀ {l:List PV} {d:List s.El},s.rows? l=some d→d.map (·.1)=l
 | [],d,h=>by simp only [Srt.rows?] at h;cases h;rfl
 | x::r,d,h=>by
  simp only [Srt.rows?] at h
  split at h
  ·split at h
   ·rename_i l hl
    cases h
    rw [qBy,Srt.rows?_val hl]
   ·cases h
  ·cases h
def Srt.sorted (s:Srt) (srt:Array s.El→Array s.El) (l:List PV):List PV :=
 match s.rows? l with
 | some d=>(srt d.toArray).toList.map (·.1)
 | none=>l
def Srt.cond (s:Srt) (rows:List PV) (lo len ext esz:Nat) (fz:Bool):Bool :=
 decide (rows.length=ext)&&(decide (lo+len≤ext)&&(decide (0<len)&&(decide (esz=s.ks.length)&&(!fz&&(decide (len<4611686018427387904)&&(s.rows? ((rows.drop lo).take len)).isSome)))))
def yDW (s:Srt) (srt:Array s.El→Array s.El) (n:Nat) (xs:List PV) (H:Hp):Option (Bool×Bool×(PV×Hp)×(PV×Hp)) :=
 bif Nat.beq n s.n then
  (match xs with
   | [.own id lo len ext _,.fn (.func g) [] []] =>
    bif Nat.beq g s.g then
     (match H[id]? with
      | some b=>some (s.cond b.rows lo len ext b.esz b.fz,true,(.tup [],H.set id { b with rows:=b.rows.take lo++(s.sorted srt ((b.rows.drop lo).take len)++b.rows.drop (lo+len)) }),(.nils,[]))
      | none=>none)
    else none
   | [.nils,.fn (.func g) [] []]=>bif Nat.beq g s.g then some (true,true,(.tup [],H),(.nils,[])) else none
   | [.emp,.fn (.func g) [] []]=>bif Nat.beq g s.g then some (true,true,(.tup [],H),(.nils,[])) else none
   | _=>none)
 else none
theorem yQd {s:Srt} {srt:Array s.El→Array s.El} {n:Nat} {xs:List PV} {H:Hp} {x:Bool×Bool×(PV×Hp)×(PV×Hp)} (h:yDW s srt n xs H=some x):n=s.n:=by
 unfold yDW at h
 cases hb:Nat.beq n s.n with
 | true=>exact qAg hb
 | false=>rw [hb] at h;cases h
structure Srts where
 s:Srt
 cf:s.El→s.El→Int
def Srts.srt (s:Srts) [Inhabited s.s.El] (d:Array s.s.El):Array s.s.El:=Go.Sort.pdq (fun x y=>decide (s.cf x y<0)) d 0 d.size (Go.Lib.bitLen d.size) true true
abbrev EffF:Type:=Nat→List PV→Hp→Option (Bool×Bool×(PV×Hp)×(PV×Hp))
def yyX:List (Nat×EffF)→EffF
 | [],_,_,_=>none
 | (k,e)::r,n,xs,H=>bif Nat.beq n k then (match e n xs H with | some x=>some x | none=>yyX r n xs H) else yyX r n xs H
theorem yNJ:∀ {l:List (Nat×EffF)} {n:Nat} {xs:List PV} {H:Hp} {x:Bool×Bool×(PV×Hp)×(PV×Hp)},yyX l n xs H=some x→∃ e∈l,n=e.1
 | [],_,_,_,_,h=>by cases h
 | (k,e)::r,n,xs,H,x,h=>by
  simp only [yyX] at h
  cases hb:Nat.beq n k with
  | true=>exact ⟨(k,e),qAj,qAg hb⟩
  | false =>
   rw [hb,cond_false] at h
   obtain ⟨e2,h1,h2⟩:=yNJ h
   exact ⟨e2,qAm _ h1,h2⟩
theorem ytR {P:Program} {E:Env}:∀ {l:List (Nat×EffF)},(∀ e∈l,yc9 P E (fun n xs H=>ytJ (e.2 n xs H)))→yc9 P E (fun n xs H=>ytJ (yyX l n xs H))
 | [],_=>fun _ _ _ _ _ h=>by cases h
 | (k,e)::r,h=>by
  intro f args H q H' hc
  dsimp only [yyX] at hc
  cases hb:Nat.beq f k with
  | false =>
   rw [hb,cond_false] at hc
   exact ytR (fun e2 h2=>h e2 (qAm _ h2)) f args H q H' hc
  | true =>
   rw [hb,cond_true] at hc
   cases he:e f args H with
   | some x =>
    rw [he] at hc
    refine h (k,e) qAj f args H q H' ?_
    dsimp only
    rw [he]
    exact hc
   | none =>
    rw [he] at hc
    exact ytR (fun e2 h2=>h e2 (qAm _ h2)) f args H q H' hc
def ytS (add sub:Nat) (tab:List (Nat×AFn)) (qui:List Nat) (cl:yhU) (gl:List (Nat×PV)) (ef:List (Nat×EffF)):Env:={ yte add sub tab qui cl gl with eff:=yyX ef }
theorem yab {add sub:Nat} {tab:List (Nat×AFn)} {qui:List Nat} {cl:yhU} {gl:List (Nat×PV)} {ef:List (Nat×EffF)} {n:Nat} (h:yC7 add sub cl n=false) (xs:List PV):(ytS add sub tab qui cl gl ef).sum n xs=none:=yMb (tab:=tab) (qui:=qui) (gl:=gl) h xs
theorem yOF {add sub:Nat} {tab:List (Nat×AFn)} {qui:List Nat} {cl:yhU} {gl:List (Nat×PV)} {ef:List (Nat×EffF)} (h:(ef.all fun e=>!memN qui e.1&&(!yC7 add sub cl e.1&&!memN qui (e.1+3000000)))=true):yNE (ytS add sub tab qui cl gl ef):=by
 intro n xs H x hx
 obtain ⟨e,h1,rfl⟩:=yNJ hx
 have h2:=List.all_eq_true.1 h e h1
 simp only [qAc,qBb] at h2
 exact ⟨h2.1,rfl,fun xs=>yab (tab:=tab) (qui:=qui) (gl:=gl) (ef:=ef) h2.2.1 xs,h2.2.2⟩
theorem yJ1 {P:Program} {add sub:Nat} {tab:List (Nat×AFn)} {qui:List Nat} {cl:yhU} {gl:List (Nat×PV)} {ef:List (Nat×EffF)} (h:EnvOk P (yte add sub tab qui cl gl))
  (hs:∀ e∈ef,yc9 P (yte add sub tab qui cl gl) (fun n xs H=>ytJ (e.2 n xs H))):EnvOk P (ytS add sub tab qui cl gl ef) where
 sum:=h.sum
 fns:=h.fns
 eff:=yc9.env (E:=yte add sub tab qui cl gl) (E':=ytS add sub tab qui cl gl ef) rfl (ytR hs)
end Go.Pf
namespace Go.Pf
abbrev lt {α:Type} (x:α) (f:α→Prop):Prop:=f x
abbrev jn {α:Type} (f:α→Prop) (k:α):Prop:=f k
def rvB (n d:Int):Bool:=decide (1≤d)&&(decide (d≤1000000000000000000)&&(decide (-1000000000000000000≤n)&&(decide (n≤1000000000000000000)&&decide (Nat.gcd n.natAbs d.natAbs=1))))
def cmpI (a b c d:Int):Int:=if a*d<c*b then -1 else if c*b<a*d then 1 else 0
def yxu:PV→Bool
 | .agg [.int _ a,.int _ b,_,_]=>rvB a b
 | _=>false
def yTF:PV→Bool
 | .agg [.int _ a,.int _ b]=>rvB a b
 | _=>false
def ytf:PV→PV→Int
 | .agg [.int _ a,.int _ b,_,_],.agg [.int _ c,.int _ d,_,_]=>cmpI a b c d
 | _,_=>0
def yUk:PV→PV→Int
 | .agg [.int _ a,.int _ b],.agg [.int _ c,.int _ d]=>cmpI a b c d
 | _,_=>0
def yqk (n g:Nat):Srts:=⟨⟨n,g,[.i64,.i64,.i64,.i64],yxu,.agg [.int .i64 0,.int .i64 1,.int .i64 0,.int .i64 1]⟩,fun x y=>ytf x.1 y.1⟩
def yUl (n g:Nat):Srts:=⟨⟨n,g,[.i64,.i64],yTF,.agg [.int .i64 0,.int .i64 1]⟩,fun x y=>yUk x.1 y.1⟩
instance (n g:Nat):Inhabited (yqk n g).s.El:=⟨⟨.agg [.int .i64 0,.int .i64 1,.int .i64 0,.int .i64 1],rfl⟩⟩
instance (n g:Nat):Inhabited (yUl n g).s.El:=⟨⟨.agg [.int .i64 0,.int .i64 1],rfl⟩⟩
theorem yDX {n:Nat} {xs:List PV} {H:Hp}:∀ {l:List (Nat×EffF)},memN (l.map (·.1)) n=false→yyX l n xs H=none
 | [],_=>rfl
 | (k,e)::r,h=>by
  simp only [qBy,memN] at h
  simp only [yyX]
  cases hb:Nat.beq k n with
  | true=>rw [hb] at h;cases h
  | false =>
   rw [hb,cond_false] at h
   have hb2:Nat.beq n k=false:=by
    cases hc:Nat.beq n k with
    | false=>rfl
    | true =>
     have:=qAg hc
     subst this
     rw [Nat.beq_refl] at hb
     cases hb
   rw [hb2,cond_false]
   exact yDX h
structure EffG (E:List (Nat×EffF)→Env) (nums:List Nat) (e:List (Nat×EffF)):Prop where
 ok:yNE (E e)
 num:∀ n,memN nums n=false→∀ xs H,(E e).eff n xs H=none
theorem yOG {add sub:Nat} {tab:List (Nat×AFn)} {qui:List Nat} {cl:yhU} {gl:List (Nat×PV)} {ef:List (Nat×EffF)} {n esz bytes:Nat} (h1:Nat.beq n add=false) (h2:Nat.beq n sub=false) (hc:yyV cl n=some (esz,bytes)) :
  ∀ as K,yDT esz bytes as K→∃ r,K r∧Ans (ytS add sub tab qui cl gl ef) n as r:=by
 intro as K h
 unfold yDT yDS at h
 split at h
 ·rename_i rows
  obtain ⟨hk,h⟩:=yah.1 h
  refine ⟨_,h,0,fun m _=>?_⟩
  simp only [ybv,ytS,yte,yHb h1 h2,yBV cl hc hk]
 ·exact h.elim
theorem yOH {add sub:Nat} {tab:List (Nat×AFn)} {qui:List Nat} {cl:yhU} {gl:List (Nat×PV)} {ef:List (Nat×EffF)}:∀ as K,yxr as K→∃ r,K r∧Ans (ytS add sub tab qui cl gl ef) add as r:=by
 intro as K h
 unfold yxr yxq at h
 split at h
 ·rename_i a b c
  obtain ⟨h1,h⟩:=yah.1 h
  have h1:c.toNat≤1:=by simpa using h1
  refine ⟨_,h,0,fun m _=>?_⟩
  have e:sumC add sub add [.int .u64 a,.int .u64 b,.int .u64 c]=some (.tup [u64 ((a.toNat+b.toNat+c.toNat) % 18446744073709551616),u64 ((a.toNat+b.toNat+c.toNat) / 18446744073709551616)]):=by
   simp only [sumC,Nat.beq_refl,qBi,Nat.ble_eq_true_of_le h1,cond_true]
  simp only [ybv,ytS,yte,e,u64]
 ·exact h.elim
theorem yOI {add sub:Nat} (hne:Nat.beq sub add=false) {tab:List (Nat×AFn)} {qui:List Nat} {cl:yhU} {gl:List (Nat×PV)} {ef:List (Nat×EffF)}:∀ as K,yxt as K→∃ r,K r∧Ans (ytS add sub tab qui cl gl ef) sub as r:=by
 intro as K h
 unfold yxt yxs at h
 split at h
 ·rename_i a b c
  obtain ⟨h1,h⟩:=yah.1 h
  have h1:c.toNat≤1:=by simpa using h1
  refine ⟨_,h,0,fun m _=>?_⟩
  have e:sumC add sub sub [.int .u64 a,.int .u64 b,.int .u64 c]=some (.tup [u64 ((a.toNat+18446744073709551616-b.toNat-c.toNat) % 18446744073709551616),u64 (bif Nat.ble (b.toNat+c.toNat) a.toNat then 0 else 1)]):=by
   simp only [sumC,hne,Nat.beq_refl,qBi,qBn,Nat.ble_eq_true_of_le h1,cond_true,cond_false]
  simp only [ybv,ytS,yte,e,u64]
 ·exact h.elim
end Go.Pf
namespace Go.Pf
open Go Go.Sort
theorem Srts.srt_size (S:Srts) [Inhabited S.s.El] (h:SWO (fun x y=>decide (S.cf x y<0))) (d:Array S.s.El):(S.srt d).size=d.size :=
 (pdq_sorts _ h d 0 d.size (Go.Lib.bitLen d.size) true true (qBh _) (qAk _) (Or.inl rfl)).1.1
theorem Srts.sorted_is (S:Srts) [Inhabited S.s.El] (h:SWO (fun x y=>decide (S.cf x y<0))) {rows:List PV} {d:List S.s.El} (hd:S.s.rows? rows=some d) :
  ∃ d':List S.s.El,d'.Perm d∧d'.Pairwise (fun x y=>¬S.cf y x<0)∧Srt.sorted S.s S.srt rows=d'.map (·.1):=by
 have e:Srt.sorted S.s S.srt rows=(S.srt d.toArray).toList.map (·.1):=by unfold Srt.sorted;rw [hd]
 obtain ⟨⟨h1,_,h3⟩,h4⟩:=pdq_sorts _ h d.toArray 0 d.toArray.size (Go.Lib.bitLen d.toArray.size) true true (qBh _) (qAk _) (Or.inl rfl)
 refine ⟨(S.srt d.toArray).toList,?_,?_,e⟩
 ·have h5:(S.srt d.toArray).size=d.toArray.size:=h1
  have e1:(S.srt d.toArray).extract 0 d.toArray.size=S.srt d.toArray:=by rw [← h5];exact Array.extract_size
  have e2:d.toArray.extract 0 d.toArray.size=d.toArray:=Array.extract_size
  have h6:((S.srt d.toArray).extract 0 d.toArray.size).toList.Perm (d.toArray.extract 0 d.toArray.size).toList:=h3
  rw [e1,e2] at h6
  simpa using h6
 ·have h5:(S.srt d.toArray).size=d.toArray.size:=h1
  rw [List.pairwise_iff_getElem]
  intro i j hi hj hij hlt
  rw [qB0] at hi hj
  have h6:SortedIn (fun x y=>decide (S.cf x y<0)) 0 d.toArray.size (S.srt d.toArray):=h4
  have:=h6 i j (qBh _) hij (by rw [← h5];exact hj)
  rw [getElem!_pos (S.srt d.toArray) i hi,getElem!_pos (S.srt d.toArray) j hj] at this
  simp only [Array.getElem_toList] at hlt
  simp [hlt] at this
end Go.Pf
namespace Go.Pf
abbrev Es:Type:=List (Nat×EffF)
abbrev Qx:Type:=Ex→Frm→Hp→Prop
abbrev exQ (R:Frm→Hp→Prop) (Q:Qx):Qx:=fun x F' H'=>match x with | .norm=>R F' H' | .exit i=>Q (.exit i) F' H' | .ret=>Q .ret F' H'
def LeC (c1 c2:Nat→List PV→Hp→Option (PV×Hp)):Prop:=∀ f as H r,c1 f as H=some r→c2 f as H=some r
def Env.sm (E:Env) (s0:Nat→List PV→Option PV) (f0:Nat→Option AFn):Env:={ E with eff:=fun _ _ _=>none,fns:=f0,sum:=s0 }
section
variable {E:Env} {s0:Nat→List PV→Option PV} {f0:Nat→Option AFn} {c1 c2:Nat→List PV→Hp→Option (PV×Hp)} {F:Frm} {H:Hp}
structure LeS (E:Env) (s0:Nat→List PV→Option PV) (c1 c2:Nat→List PV→Hp→Option (PV×Hp)):Prop where
 c:LeC c1 c2
 s:∀ n ps r,s0 n ps=some r→ybv E c2 n ps=some r
 n:∀ n ps,s0 n ps=none→E.sum n ps=none
 q:∀ n ps,E.qui n=false→s0 n ps=E.sum n ps
theorem yUm:(E.sm s0 f0).rb=E.rb:=rfl
theorem yTG:(E.sm s0 f0).qui=E.qui:=rfl
theorem yxv (h:LeS E s0 c1 c2) {n:Nat} {ps:List PV} {r:PV} (e:ybv (E.sm s0 f0) c1 n ps=some r):ybv E c2 n ps=some r:=by
 have e:(match s0 n ps with
  | some r=>some r
  | none=>if E.qui n then (match c1 n ps [] with | some (r,H)=>purN (E.nl n) H r | none=>none) else none)=some r:=e
 cases hs:s0 n ps with
 | some x=>rw [hs] at e;cases e;exact h.s _ _ _ hs
 | none =>
  rw [hs] at e
  dsimp only at e
  unfold ybv
  rw [h.n _ _ hs]
  dsimp only
  cases hq:E.qui n with
  | false=>rw [hq] at e;cases e
  | true =>
   rw [hq] at e
   cases hc:c1 n ps [] with
   | none=>simp [hc] at e
   | some x =>
    rw [hc] at e
    rw [h.c _ _ _ _ hc]
    exact e
def yQe (rb qui frz:Bool) (pr:List PV→Option PV) (c:List PV→Hp→Option (PV×Hp)) (as:List PV) (H:Hp):Option (PV×Hp) :=
 if rb then (match yyx (iceH H) as with
  | some as=>(match pr as with
   | some r=>if r.scalar then some (r,H) else none
   | none=>none)
  | none=>none)
 else match (match ybt H as with
  | some (as,H')=>(match pr as with
   | some r=>if r.scalar then some (r,H) else some (r,H')
   | none=>none)
  | none=>none) with
 | some r=>some r
 | none=>if qui then none else if frz then (match ybt H as with
   | some (as,H')=>c as H'
   | none=>none) else c as H
theorem yQf (h:LeS E s0 c1 c2) {n:Nat} {as:List PV} {r:PV×Hp} (e:yQe (E.rb n) (E.qui n) (E.frz n) (ybv (E.sm s0 f0) c1 n) (c1 n) as H=some r):yQe (E.rb n) (E.qui n) (E.frz n) (ybv E c2 n) (c2 n) as H=some r:=by
 unfold yQe at e ⊢
 cases hb:E.rb n with
 | true =>
  rw [hb] at e
  simp only [if_true] at e ⊢
  cases hp:yyx (iceH H) as with
  | none=>rw [hp] at e;cases e
  | some ys =>
   rw [hp] at e
   dsimp only at e ⊢
   cases hc:ybv (E.sm s0 f0) c1 n ys with
   | none=>rw [hc] at e;cases e
   | some x=>rw [hc] at e;rw [yxv h hc];exact e
 | false =>
  rw [hb] at e
  simp only [qAp,if_false] at e ⊢
  cases hp:ybt H as with
  | none =>
   rw [hp] at e
   dsimp only at e ⊢
   cases hq:E.qui n with
   | true=>rw [hq] at e;simp at e
   | false =>
    rw [hq] at e
    simp only [qAp,if_false] at e ⊢
    cases hf:E.frz n with
    | true=>rw [hf] at e;simp at e
    | false=>rw [hf] at e;simp only [qAp,if_false] at e ⊢;exact h.c _ _ _ _ e
  | some y =>
   obtain ⟨ys,H'⟩:=y
   rw [hp] at e
   dsimp only at e ⊢
   cases hc:ybv (E.sm s0 f0) c1 n ys with
   | some x =>
    rw [hc] at e
    rw [yxv h hc]
    dsimp only at e ⊢
    cases hs:x.scalar with
    | true=>rw [hs] at e;simpa using e
    | false=>rw [hs] at e;simpa using e
   | none =>
    rw [hc] at e
    dsimp only at e
    cases hq:E.qui n with
    | true=>rw [hq] at e;simp at e
    | false =>
     rw [hq] at e
     simp only [qAp,if_false] at e ⊢
     have h2:ybv E c2 n ys=none:=by
      have hc:(match s0 n ys with
       | some r=>some r
       | none=>if E.qui n then (match c1 n ys [] with | some (r,H)=>purN (E.nl n) H r | none=>none) else none)=none:=hc
      unfold ybv
      cases hs:s0 n ys with
      | some x=>rw [hs] at hc;cases hc
      | none=>rw [h.n _ _ hs,hq];rfl
     rw [h2]
     dsimp only
     cases hf:E.frz n with
     | true=>rw [hf] at e;simp only [if_true] at e ⊢;exact h.c _ _ _ _ e
     | false=>rw [hf] at e;simp only [qAp,if_false] at e ⊢;exact h.c _ _ _ _ e
theorem yQg (h:LeS E s0 c1 c2) {f:PV} {as:List PV} {r:PV×Hp} (e:ynW (E.sm s0 f0) c1 f as H=some r):ynW E c2 f as H=some r:=by
 cases f with
 | fn f first captured =>
  cases f with
  | func n=>exact yQf h e
  | _=>cases e
 | _=>cases e
theorem yUn (x:Opd):ev (E.sm s0 f0) F x=ev E F x:=by cases x <;> rfl
theorem yIa (x:Opd):evV (E.sm s0 f0) F x=evV E F x:=by unfold evV;rw [yUn]
theorem yMf:∀ (l:List Opd),evs (E.sm s0 f0) F l=evs E F l
 | []=>rfl
 | x::r=>by simp only [evs,yIa,yMf r]
theorem yQh {o:AOp} (h:yqM o=false) {c:Nat→List PV→Hp→Option (PV×Hp)}:yap (E.sm s0 f0) c F H o=yap E c F H o:=by
 cases o <;> first | (cases h;done) | kernel_rfl
theorem yJ2 (h:LeS E s0 c1 c2) {o:AOp} {x:Out} (e:yap (E.sm s0 f0) c1 F H o=some x):yap E c2 F H o=some x:=by
 by_cases hc:yqM o=true
 ·cases o with
  | call f as =>
   simp only [yap,yIa,yMf] at e ⊢
   cases hf:evV E F f with
   | none=>rw [hf] at e;cases e
   | some fv =>
    cases ha:evs E F as with
    | none=>rw [hf,ha] at e;cases e
    | some av =>
     rw [hf,ha] at e
     dsimp only at e ⊢
     cases hr:ynW (E.sm s0 f0) c1 fv av H with
     | none=>rw [hr] at e;cases e
     | some y=>rw [hr] at e;rw [yQg h hr];exact e
  | _=>cases hc
 ·rw [yBT (by simpa using hc) c2 c1,← yQh (s0:=s0) (f0:=f0) (by simpa using hc)];exact e
theorem yOJ (h:LeS E s0 c1 c2) {o:AOper} {x:Frm×Hp} (e:yj1 (E.sm s0 f0) c1 F H o=some x):yj1 E c2 F H o=some x:=by
 unfold yj1 at e ⊢
 cases hg:yfO F o.guard with
 | none=>rw [hg] at e;cases e
 | some b =>
  rw [hg] at e
  cases b with
  | false=>exact e
  | true =>
   dsimp only at e ⊢
   cases ho:yap (E.sm s0 f0) c1 F H o.op with
   | none=>rw [ho] at e;cases e
   | some y=>rw [ho] at e;rw [yJ2 h ho];exact e
theorem yQi (h:LeS E s0 c1 c2) {o:AOper} {S x:Frm×Hp} (e:ylB (E.sm s0 f0) c1 o S=some x):ylB E c2 o S=some x:=by
 unfold ylB at e ⊢
 cases hg:yfO S.1 o.guard with
 | none=>rw [hg] at e;cases e
 | some b =>
  rw [hg] at e
  cases b with
  | false=>exact e
  | true =>
   dsimp only at e ⊢
   cases ho:yap (E.sm s0 f0) c1 S.1 S.2 o.op with
   | none=>rw [ho] at e;cases e
   | some y=>rw [ho] at e;rw [yJ2 h ho];exact e
theorem yHe (h:LeS E s0 c1 c2):∀ (l:List AOper) {F:Frm} {H:Hp} {x:Frm×Hp},yhT (E.sm s0 f0) c1 l F H=some x→yhT E c2 l F H=some x
 | [],F,H,x,e=>e
 | o::r,F,H,x,e=>by
  simp only [yhT] at e ⊢
  cases hs:yj1 (E.sm s0 f0) c1 F H o with
  | none=>rw [hs] at e;cases e
  | some y=>rw [hs] at e;rw [yOJ h hs];exact yHe h r e
theorem yQj (hq:∀ n ps,E.qui n=false→s0 n ps=E.sum n ps) (f:Opd) (as:List Opd):ykm (E.sm s0 f0) F f as=ykm E F f as:=by
 unfold ykm
 rw [yIa,yMf]
 split
 ·rename_i n first captured vs _ _
  rw [yUm,yTG]
  cases hn:E.qui n with
  | true=>rfl
  | false =>
   split
   ·rename_i ps _ _
    rw [show (E.sm s0 f0).sum n ps=E.sum n ps from hq n ps hn]
   ·rfl
 ·rfl
theorem yQk (hq:∀ n ps,E.qui n=false→s0 n ps=E.sum n ps) (o:AOper):ykD (E.sm s0 f0) F H o=ykD E F H o:=by
 unfold ykD
 have:fpOp (E.sm s0 f0) F H o.op=fpOp E F H o.op:=by
  cases o.op with
  | call f as=>simp only [fpOp,yQj hq] <;> kernel_rfl
  | _=>kernel_rfl
 rw [this]
theorem yHf (h:LeS E s0 c1 c2):∀ (l:List AOper) {F:Frm} {H:Hp} {x:Frm×Hp×List FP},ylI (E.sm s0 f0) c1 l F H=some x→ylI E c2 l F H=some x
 | [],F,H,x,e=>e
 | o::r,F,H,x,e=>by
  simp only [ylI] at e ⊢
  cases hs:ylB (E.sm s0 f0) c1 o (F,H) with
  | none=>rw [hs] at e;cases e
  | some y =>
   rw [hs] at e
   rw [yQi h hs]
   dsimp only at e ⊢
   cases hr:ylI (E.sm s0 f0) c1 r y.1 y.2 with
   | none=>rw [hr] at e;cases e
   | some z=>rw [hr,yQk h.q] at e;rw [yHf h r hr];exact e
theorem yOK (h:LeS E s0 c1 c2) {l:List AOper} {pairs:List (Nat×Nat)} {x:Frm×Hp} (e:ynq (E.sm s0 f0) c1 l pairs F H=some x):ynq E c2 l pairs F H=some x:=by
 unfold ynq at e ⊢
 cases pairs with
 | nil=>exact yHe h l e
 | cons p q =>
  dsimp only at e ⊢
  cases hr:ylI (E.sm s0 f0) c1 l (yqH F l) H with
  | none=>rw [hr] at e;cases e
  | some z=>rw [hr] at e;rw [yHf h l hr];exact e
structure SmOk (E:Env) (s0:Nat→List PV→Option PV) (f0:Nat→Option AFn) (M:Nat):Prop where
 fn:∀ n fn,f0 n=some fn→E.fns n=some fn∧∀ as H,E.effx n as H=none
 ans:∀ n ps r,s0 n ps=some r→∀ k,M≤k→ybv E (ybK E k) n ps=some r
 non:∀ n ps,s0 n ps=none→E.sum n ps=none
 no:∀ n ps,E.qui n=false→s0 n ps=E.sum n ps
theorem ySh {M:Nat} (hs:SmOk E s0 f0 M):∀ (m k:Nat),M≤k →
  (∀ (c:ACode) (F:Frm) (H:Hp) (x:Ex×Frm×Hp),exec (E.sm s0 f0) m c F H=some x→exec E (m+k) c F H=some x)∧LeC (ybK (E.sm s0 f0) m) (ybK E (m+k)):=by
 intro m
 induction m with
 | zero=>exact fun k _=>⟨fun c F H x e=>by simp [exec] at e,fun f as H r e=>by simp [ybK] at e⟩
 | succ m ih =>
  intro k hk
  obtain ⟨ihx,ihc⟩:=ih k hk
  have ihi:LeS E s0 (ybK (E.sm s0 f0) m) (ybK E (m+k)):=⟨ihc,fun n ps r e=>hs.ans n ps r e _ (by omega),hs.non,hs.no⟩
  rw [show m+1+k=(m+k)+1 by omega]
  constructor
  ·intro c F H x e
   cases c with
   | skip=>simpa [exec] using e
   | exit id=>simpa [exec] using e
   | ret=>simpa [exec] using e
   | bad=>simp [exec] at e
   | ops l pairs forget =>
    simp only [exec] at e ⊢
    cases hr:ynq (E.sm s0 f0) (ybK (E.sm s0 f0) m) l pairs F H with
    | none=>rw [hr] at e;cases e
    | some y=>rw [hr] at e;rw [yOK ihi hr];exact e
   | seq a b =>
    simp only [exec] at e ⊢
    cases ha:exec (E.sm s0 f0) m a F H with
    | none=>rw [ha] at e;cases e
    | some y =>
     rw [ha] at e
     rw [ihx _ _ _ _ ha]
     obtain ⟨ex,F',H'⟩:=y
     cases ex with
     | norm=>exact ihx _ _ _ _ e
     | exit i=>exact e
     | ret=>exact e
   | cond v a b =>
    simp only [exec] at e ⊢
    rw [yIa] at e
    split at e
    ·exact ihx _ _ _ _ e
    ·exact ihx _ _ _ _ e
    ·cases e
   | block id b =>
    simp only [exec] at e ⊢
    cases hb:exec (E.sm s0 f0) m b F H with
    | none=>rw [hb] at e;cases e
    | some y=>rw [hb] at e;rw [ihx _ _ _ _ hb];exact e
   | loop b =>
    simp only [exec] at e ⊢
    cases hb:exec (E.sm s0 f0) m b F H with
    | none=>rw [hb] at e;cases e
    | some y =>
     rw [hb] at e
     rw [ihx _ _ _ _ hb]
     obtain ⟨ex,F',H'⟩:=y
     cases ex with
     | norm=>exact ihx _ _ _ _ e
     | exit i=>exact e
     | ret=>exact e
  ·intro f as H r e
   have e:(match f0 f with
    | some fn=>if as.length=fn.nparams then
     (match exec (E.sm s0 f0) m fn.body (yns 0 as) H with
      | some (.norm,F',H') | some (.ret,F',H')=>(match ynr F' H' fn.results with
       | some ps=>some (yoN ps,H')
       | none=>none)
      | _=>none) else none
    | none=>none)=some r:=e
   cases hf:f0 f with
   | none=>rw [hf] at e;cases e
   | some fn =>
    rw [hf] at e
    obtain ⟨hf2,hx⟩:=hs.fn f fn hf
    simp only [ybK,hx,hf2]
    dsimp only at e ⊢
    split at e
    ·rename_i hl
     rw [if_pos hl]
     cases hx:exec (E.sm s0 f0) m fn.body (yns 0 as) H with
     | none=>rw [hx] at e;cases e
     | some y=>rw [hx] at e;rw [ihx _ _ _ _ hx];exact e
    ·cases e
theorem yMg {M:Nat} (hs:SmOk E s0 f0 M) {m n:Nat} {as:List PV} {r:PV} (h:ybv (E.sm s0 f0) (ybK (E.sm s0 f0) m) n as=some r):Ans E n as r:=by
 refine ⟨m+M,fun k hk=>?_⟩
 have le:=(ySh hs m (k-m) (by omega)).2
 rw [show m+(k-m)=k by omega] at le
 exact yxv ⟨le,fun n ps r e=>hs.ans n ps r e _ (by omega),hs.non,hs.no⟩ h
def smT (E:Env) (nums:List Nat) (t:Tab):Env:=E.sm (fun n ps=>match yBS t n ps with | some r=>some r | none=>E.sum n ps) (fun n=>bif memN nums n then none else E.fns n)
theorem ySi {nums:List Nat} {t:Tab} (h1:∀ n,memN nums n=false→∀ xs H,E.effx n xs H=none) (h2:∀ x∈t,E.qui x.1=true∧Ans E x.1 x.2.1 x.2.2) {m n:Nat} {as:List PV} {r:PV} (h:ybv (smT E nums t) (ybK (smT E nums t) m) n as=some r):Ans E n as r:=by
 have hM:∀ (t:Tab),(∀ x∈t,E.qui x.1=true∧Ans E x.1 x.2.1 x.2.2)→∃ M,∀ x∈t,∀ k,M≤k→ybv E (ybK E k) x.1 x.2.1=some x.2.2:=by
  intro t
  induction t with
  | nil=>exact fun _=>⟨0,fun x hx=>by cases hx⟩
  | cons y l ih =>
   intro ht
   obtain ⟨M1,m1⟩:=ih fun x hx=>ht x (qAm _ hx)
   obtain ⟨M2,m2⟩:=(ht y qAj).2
   refine ⟨M1+M2,fun x hx k hk=>?_⟩
   rcases qAv.1 hx with rfl | hx
   ·exact m2 k (by omega)
   ·exact m1 x hx k (by omega)
 obtain ⟨M,hM⟩:=hM t h2
 refine yMg (M:=M) ⟨fun n fn hf=>?_,fun n ps r hs k hk=>?_,fun n ps hs=>?_,fun n ps hq=>?_⟩ h
 ·cases hm:memN nums n with
  | true=>rw [hm] at hf;cases hf
  | false=>rw [hm] at hf;exact ⟨hf,h1 n hm⟩
 ·cases hl:yBS t n ps with
  | some x=>simp only [hl] at hs;cases hs;exact hM _ (yAL _ _ _ _ hl) k hk
  | none =>
   simp only [hl] at hs
   unfold ybv
   rw [hs]
 ·cases hl:yBS t n ps with
  | some x=>simp only [hl] at hs;cases hs
  | none=>simp only [hl] at hs;exact hs
 ·cases hl:yBS t n ps with
  | some x=>rw [(h2 _ (yAL _ _ _ _ hl)).1] at hq;cases hq
  | none=>simp only []
end
end Go.Pf
namespace Go.Pf.Vc
open Go Go.Pf
def ym8:Nat:=74
def ygI:Nat:=23
def ykn:Nat:=81
def ym9:Nat:=31
def yrz:Nat:=39
def yna:Nat:=99
def yhv:Nat:=130
def yfT:Nat:=131
def ycb:Nat:=55
def ydz:Nat:=86
def ydR:Nat:=175
def yg5:Nat:=141
def yoY:Nat:=76
def ycS:Nat:=104
def ycZ:Nat:=115
def ybH:Nat:=147
def ydA:Nat:=150
def ydS:Nat:=151
def yf8:Nat:=89
def yf9:Nat:=106
def ydm:Nat:=174
def ycm:Nat:=136
def yfC:Nat:=179
def ycx:Nat:=144
def yeO:Nat:=180
def yfc:Nat:=145
def yfs:Nat:=146
def yeh:Nat:=181
def ydB:Nat:=149
def ykN:Nat:=148
def ycM:Nat:=87
def ydd:Nat:=135
def yfj:Nat:=134
def yko:Nat:=170
def ykp:Nat:=171
def yoH:Nat:=140
def yfD:Nat:=199
def ylO:Nat:=173
def yrA:Nat:=172
def yde:Nat:=133
def ydC:Nat:=137
def yd4:Nat:=138
def yd5:Nat:=116
def ygi:Nat:=195
def ytT:Nat:=194
def yii:Nat:=159
def ydT:Nat:=109
def yei:Nat:=110
def ylP:Nat:=163
def yoZ:Nat:=105
def yg6:Nat:=107
def ygj:Nat:=41
def yrB:Nat:=100
def ytU:Nat:=38
def yga:Nat:=43
def ycT:Nat:=101
def yew:Nat:=60
def ycN:Nat:=102
def yiN:Nat:=161
def yij:Nat:=160
def yqN:Nat:=162
def yg7:Nat:=103
def yo0:Nat:=85
def yo1:Nat:=80
def yo2:Nat:=28
def ykq:Nat:=40
def yfE:Nat:=108
def ykO:Nat:=42
def yjH:Nat:=66
def ynb:Nat:=132
def yfl:Nat:=57
def yfm:Nat:=56
def ych:Nat:=117
def ybI:Nat:=123
def yfn:Nat:=61
def ye3:Nat:=59
def ytV:Nat:=58
def ycU:Nat:=13
def ybp:Nat:=15
def yej:Nat:=51
def yfF:Nat:=52
def ydU:Nat:=166
def ycK:Nat:=196
def ya2:Nat:=164
def ycV:Nat:=165
def yhA:Nat:=120
def ybh:Nat:=119
def ydb:Nat:=118
def ydV:Nat:=197
def ye4:Nat:=167
def yAP:Nat:=139
def yIb:Nat:=75
def yeE:Nat:=209
def ycG:Nat:=198
def ybC:Nat:=168
def ydc:Nat:=169
def ydW:Nat:=121
def ybi:Nat:=122
def ybj:Nat:=124
def ybk:Nat:=125
def ybl:Nat:=126
def ybx:Nat:=53
def ykP:Nat:=11
def ybs:Nat:=72
def yaN:Nat:=73
def yik:Nat:=21
def ync:Nat:=112
def yoI:Nat:=70
def yrC:Nat:=94
def yo3:Nat:=98
def yo4:Nat:=111
def ynd:Nat:=44
def ynw:Nat:=8
def t0:Opd:=.t 0
def t1:Opd:=.t 1
def t4:Opd:=.t 4
def t5:Opd:=.t 5
def t7:Opd:=.t 7
def t8:Opd:=.t 8
def t9:Opd:=.t 9
def t10:Opd:=.t 10
def t11:Opd:=.t 11
def yJ3:TFn:=⟨1,[.tmp 2],(.seq (oQ [O 1 (.boxL t0),O 2 (.mv (.c (.bool false)))] [0,2]) (.seq (.ops [O 3 (.fad 1 t1),oF 4 1 3,O 5 (.len t4),O 6 (.bin .gtr t5 (I 60)),M 7 6,⟨some 8,(.fad 2 t1),some (7,false)⟩,⟨some 9,(.load false 1 t8),some (7,false)⟩,⟨some 10,(.len t9),some (7,false)⟩,⟨some 11,(.bin .gtr t10 (I 60)),some (7,false)⟩,O 12 (.pick t7 (.c (.bool true)) t11),M 2 12] [⟨1,(.agg [.i .i64,.d,.d]),0⟩,⟨6,(.agg [.i .i64,.d,.d]),0⟩] [] [1,3,4,5,6,7,8,9,10,11,12]) .ret))⟩
def t13:Opd:=.t 13
def t14:Opd:=.t 14
def yrD:TCode:=(.seq (.seq (oQ [M 4 3,M 5 0,O 6 (.len t5),oX 7 .lss 4 6] [4,5,6]) (.cond t7 .skip (.exit 0))) (.seq (.block 1 (.seq (.ops [M 10 0,M 11 3,O 12 (.iad 3 t10 t11),oT 13 3 12,O 14 (.call (.f ym8) [t13])] [⟨2,(.agg [.i .i64,.d,.d]),0⟩,⟨3,(.agg [.i .i64,.d,.d]),0⟩] [] [7,10,11,12,13]) (.cond t14 (.seq (oQ [O 2 (.mv (.c (.bool true)))] [0,3,14]) .ret) .skip))) (oQ [M 8 3,O 9 (.bin .add t8 (I 1)),M 3 9] [8,9,14])))
def t15:Opd:=.t 15
def t16:Opd:=.t 16
def yAQ:TFn:=⟨1,[.tmp 2],(.seq (oQ [O 2 (.mv (.c (.bool false)))] [2]) (.seq (.seq (oQ [O 3 (.mv (I 0))] []) (.block 0 (.loop 4277600 yrD))) (.seq (oQ [M 15 0,O 16 (.len t15),O 17 (.bin .gtr t16 (I 10)),M 2 17] [0,3,7,15,16,17]) .ret)))⟩
def t55:Opd:=.t 55
def t57:Opd:=.t 57
def t58:Opd:=.t 58
def t61:Opd:=.t 61
def t62:Opd:=.t 62
def t63:Opd:=.t 63
def t67:Opd:=.t 67
def t68:Opd:=.t 68
def t72:Opd:=.t 72
def t73:Opd:=.t 73
def t74:Opd:=.t 74
def t75:Opd:=.t 75
def t76:Opd:=.t 76
def t77:Opd:=.t 77
def t78:Opd:=.t 78
def t80:Opd:=.t 80
def t81:Opd:=.t 81
def t82:Opd:=.t 82
def t83:Opd:=.t 83
def t84:Opd:=.t 84
def t85:Opd:=.t 85
def t86:Opd:=.t 86
def t87:Opd:=.t 87
def t89:Opd:=.t 89
def t90:Opd:=.t 90
def t91:Opd:=.t 91
def t92:Opd:=.t 92
def t93:Opd:=.t 93
def t94:Opd:=.t 94
def t95:Opd:=.t 95
def yo5:TCode:=(.seq (.seq (.ops [M 53 4,O 54 (.fad 2 t1),oF 55 1 54,O 56 (.len t55),oX 57 .lss 53 56] [⟨2,(.agg [.i .i64,.d,.d]),0⟩] [] [53,54,55,56]) (.cond t57 .skip (.exit 0))) (.seq (.block 1 (.seq (.seq (.ops [O 60 (.fad 1 t1),oF 61 1 60,M 62 4,O 63 (.bin .add t62 (I 1)),O 64 (.iad 1 t61 t63),oF 65 1 64,O 66 (.fad 1 t1),oF 67 1 66,M 68 4,O 69 (.iad 1 t67 t68),oF 70 1 69,oX 71 .leq 65 70,M 72 71,⟨some 73,(.fad 2 t1),some (72,false)⟩,⟨some 74,(.load false 1 t73),some (72,false)⟩,⟨some 75,(.mv t4),some (72,false)⟩,⟨some 76,(.iad 1 t74 t75),some (72,false)⟩,⟨some 77,(.load false 1 t76),some (72,false)⟩,⟨some 78,(.bin .lss t77 (I 0)),some (72,false)⟩,O 79 (.pick t72 (.c (.bool true)) t78),M 80 79,⟨some 81,(.fad 2 t1),some (80,false)⟩,⟨some 82,(.load false 1 t81),some (80,false)⟩,⟨some 83,(.mv t4),some (80,false)⟩,⟨some 84,(.iad 1 t82 t83),some (80,false)⟩,⟨some 85,(.load false 1 t84),some (80,false)⟩,⟨some 86,(.bin .gtr t85 (I 12)),some (80,false)⟩,O 87 (.pick t80 (.c (.bool true)) t86)] [⟨1,(.agg [.i .i64,.d,.d]),0⟩,⟨4,(.one (.i .i64)),0⟩,⟨5,(.one (.i .i64)),0⟩,⟨7,(.agg [.i .i64,.d,.d]),0⟩,⟨9,(.one (.i .i64)),0⟩,⟨10,(.one (.i .i64)),0⟩,⟨14,(.agg [.i .i64,.d,.d]),0⟩,⟨16,(.one (.i .i64)),0⟩,⟨17,(.one (.i .i64)),0⟩,⟨22,(.agg [.i .i64,.d,.d]),0⟩,⟨24,(.one (.i .i64)),0⟩,⟨25,(.one (.i .i64)),0⟩] [(0,2),(1,2),(0,3),(1,3),(0,6),(1,6),(2,6),(3,6),(4,6),(5,6),(0,7),(1,7),(2,7),(3,7),(4,7),(5,7),(0,8),(1,8),(2,8),(3,8),(4,8),(5,8),(6,8),(7,8),(0,9),(1,9),(2,9),(3,9),(4,9),(5,9),(0,10),(1,10),(2,10),(3,10),(4,10),(5,10),(13,15),(14,15),(21,23),(22,23)] [57,60,61,62,63,64,65,66,67,68,69,70,71,72,73,74,75,76,77,78,79,80,81,82,83,84,85,86]) (.cond t87 (.seq (oQ [O 2 (.mv (I 8))] [1,3,4,87]) .ret) .skip)) (.ops [M 88 3,M 89 88,⟨some 90,(.fad 2 t1),some (89,false)⟩,⟨some 91,(.load false 1 t90),some (89,false)⟩,⟨some 92,(.mv t4),some (89,false)⟩,⟨some 93,(.iad 1 t91 t92),some (89,false)⟩,⟨some 94,(.load false 1 t93),some (89,false)⟩,⟨some 95,(.bin .gtr t94 (I 0)),some (89,false)⟩,O 96 (.pick t89 (.c (.bool true)) t95),M 3 96] [⟨3,(.agg [.i .i64,.d,.d]),0⟩,⟨5,(.one (.i .i64)),0⟩,⟨6,(.one (.i .i64)),0⟩] [] [87,88,89,90,91,92,93,94,95,96]))) (oQ [M 58 4,O 59 (.bin .add t58 (I 1)),M 4 59] [58,59])))
def t6:Opd:=.t 6
def t12:Opd:=.t 12
def t17:Opd:=.t 17
def t18:Opd:=.t 18
def t19:Opd:=.t 19
def t20:Opd:=.t 20
def t21:Opd:=.t 21
def t23:Opd:=.t 23
def t24:Opd:=.t 24
def t25:Opd:=.t 25
def t26:Opd:=.t 26
def t27:Opd:=.t 27
def t28:Opd:=.t 28
def t29:Opd:=.t 29
def t30:Opd:=.t 30
def t31:Opd:=.t 31
def t33:Opd:=.t 33
def t34:Opd:=.t 34
def t35:Opd:=.t 35
def t36:Opd:=.t 36
def t37:Opd:=.t 37
def t38:Opd:=.t 38
def t40:Opd:=.t 40
def t41:Opd:=.t 41
def t42:Opd:=.t 42
def t43:Opd:=.t 43
def t44:Opd:=.t 44
def t45:Opd:=.t 45
def t46:Opd:=.t 46
def t47:Opd:=.t 47
def t48:Opd:=.t 48
def t49:Opd:=.t 49
def t50:Opd:=.t 50
def t51:Opd:=.t 51
def t52:Opd:=.t 52
def t97:Opd:=.t 97
def t98:Opd:=.t 98
def yJ4:TFn:=⟨1,[.tmp 2],(.seq (oQ [O 1 (.boxL t0),O 2 (.mv (I 0))] [0,2]) (.seq (.seq (.ops [O 5 (.fad 0 t1),oF 6 1 5,O 7 (.bin .gtr t6 (I 1000)),M 8 7,⟨some 9,(.fad 1 t1),some (8,false)⟩,⟨some 10,(.load false 1 t9),some (8,false)⟩,⟨some 11,(.len t10),some (8,false)⟩,⟨some 12,(.bin .gtr t11 (I 40)),some (8,false)⟩,O 13 (.pick t8 (.c (.bool true)) t12)] [⟨1,(.agg [.i .i64,.d,.d]),0⟩,⟨5,(.agg [.i .i64,.d,.d]),0⟩] [] [5,6,7,8,9,10,11,12]) (.cond t13 (.seq (oQ [O 2 (.mv (I 4))] [1,13]) .ret) .skip)) (.seq (.seq (.ops [O 14 (.fad 0 t1),oF 15 1 14,O 16 (.bin .lss t15 (I 1)),M 17 16,⟨some 18,(.fad 1 t1),some (17,false)⟩,⟨some 19,(.load false 1 t18),some (17,false)⟩,⟨some 20,(.len t19),some (17,false)⟩,⟨some 21,(.bin .lss t20 (I 2)),some (17,false)⟩,O 22 (.pick t17 (.c (.bool true)) t21),M 23 22,⟨some 24,(.fad 2 t1),some (23,false)⟩,⟨some 25,(.load false 1 t24),some (23,false)⟩,⟨some 26,(.len t25),some (23,false)⟩,⟨some 27,(.fad 1 t1),some (23,false)⟩,⟨some 28,(.load false 1 t27),some (23,false)⟩,⟨some 29,(.len t28),some (23,false)⟩,⟨some 30,(.bin .sub t29 (I 1)),some (23,false)⟩,⟨some 31,(.bin .neq t26 t30),some (23,false)⟩,O 32 (.pick t23 (.c (.bool true)) t31),M 33 32,⟨some 34,(.fad 1 t1),some (33,false)⟩,⟨some 35,(.load false 1 t34),some (33,false)⟩,⟨some 36,(.iad 1 t35 (I 0)),some (33,false)⟩,⟨some 37,(.load false 1 t36),some (33,false)⟩,⟨some 38,(.bin .neq t37 (I 0)),some (33,false)⟩,O 39 (.pick t33 (.c (.bool true)) t38),M 40 39,⟨some 41,(.fad 1 t1),some (40,false)⟩,⟨some 42,(.load false 1 t41),some (40,false)⟩,⟨some 43,(.fad 1 t1),some (40,false)⟩,⟨some 44,(.load false 1 t43),some (40,false)⟩,⟨some 45,(.len t44),some (40,false)⟩,⟨some 46,(.bin .sub t45 (I 1)),some (40,false)⟩,⟨some 47,(.iad 1 t42 t46),some (40,false)⟩,⟨some 48,(.load false 1 t47),some (40,false)⟩,⟨some 49,(.fad 0 t1),some (40,false)⟩,⟨some 50,(.load false 1 t49),some (40,false)⟩,⟨some 51,(.bin .neq t48 t50),some (40,false)⟩,O 52 (.pick t40 (.c (.bool true)) t51)] [⟨1,(.agg [.i .i64,.d,.d]),0⟩,⟨5,(.agg [.i .i64,.d,.d]),0⟩,⟨11,(.agg [.i .i64,.d,.d]),0⟩,⟨14,(.agg [.i .i64,.d,.d]),0⟩,⟨21,(.agg [.i .i64,.d,.d]),0⟩,⟨22,(.one (.i .i64)),0⟩,⟨23,(.one (.i .i64)),0⟩,⟨28,(.agg [.i .i64,.d,.d]),0⟩,⟨30,(.agg [.i .i64,.d,.d]),0⟩,⟨33,(.one (.i .i64)),0⟩,⟨34,(.one (.i .i64)),0⟩,⟨36,(.agg [.i .i64,.d,.d]),0⟩] [(10,13),(11,13),(12,13),(10,14),(11,14),(12,14),(10,15),(11,15),(12,15),(10,16),(11,16),(12,16),(27,29),(28,29),(27,30),(28,30),(27,31),(28,31),(27,32),(28,32),(27,35),(28,35),(29,35),(30,35),(31,35),(32,35),(33,35),(34,35),(27,36),(28,36),(29,36),(30,36),(31,36),(32,36),(33,36),(34,36)] [13,14,15,16,17,18,19,20,21,22,23,24,25,26,27,28,29,30,31,32,33,34,35,36,37,38,39,40,41,42,43,44,45,46,47,48,49,50,51]) (.cond t52 (.seq (oQ [O 2 (.mv (I 8))] [1,52]) .ret) .skip)) (.seq (oQ [O 3 (.mv (.c (.bool false)))] [52]) (.seq (.seq (oQ [O 4 (.mv (I 0))] []) (.block 0 (.loop 94526800 yo5))) (.seq (.seq (oQ [M 97 3,O 98 (.un .not t97)] [1,3,4,57,97]) (.cond t98 (.seq (oQ [O 2 (.mv (I 8))] [98]) .ret) .skip)) (.seq (oQ [O 2 (.mv (I 0))] [98]) .ret)))))))⟩
def t32:Opd:=.t 32
def yrE:TCode:=(.seq (.seq (.ops [M 19 3,O 20 (.fad 0 t1),oF 21 1 20,O 22 (.len t21),oX 23 .lss 19 22] [⟨2,(.agg [.d,.d]),0⟩] [] [19,20,21,22]) (.cond t23 .skip (.exit 0))) (.seq (.block 1 (.seq (.ops [O 26 (.fad 0 t1),oF 27 1 26,M 28 3,O 29 (.iad 3 t27 t28),oT 30 3 29,O 31 (.call (.f ykn) [t30]),O 32 (.bin .neq t31 (I 0))] [⟨1,(.agg [.d,.d]),0⟩,⟨3,(.agg [.i .i64,.d,.d]),0⟩,⟨4,(.agg [.i .i64,.d,.d]),0⟩] [] [23,26,27,28,29,30,31]) (.cond t32 (.seq (.ops [O 33 (.fad 0 t1),oF 34 1 33,M 35 3,O 36 (.iad 3 t34 t35),oT 37 3 36,O 38 (.call (.f ykn) [t37]),M 2 38] [⟨1,(.agg [.d,.d]),0⟩,⟨3,(.agg [.i .i64,.d,.d]),0⟩,⟨4,(.agg [.i .i64,.d,.d]),0⟩] [] [1,3,32,33,34,35,36,37,38]) .ret) .skip))) (oQ [M 24 3,O 25 (.bin .add t24 (I 1)),M 3 25] [24,25,32])))
def t53:Opd:=.t 53
def t54:Opd:=.t 54
def yrF:TCode:=(.seq (.seq (.ops [M 39 4,O 40 (.fad 0 t1),oF 41 1 40,O 42 (.len t41),oX 43 .lss 39 42] [⟨2,(.agg [.d,.d]),0⟩] [] [39,40,41,42]) (.cond t43 .skip (.exit 2))) (.seq (.block 3 (.seq (.ops [O 46 (.fad 0 t1),oF 47 1 46,M 48 4,O 49 (.iad 3 t47 t48),O 50 (.fad 0 t49),oF 51 1 50,O 52 (.fad 0 t1),oF 53 1 52,O 54 (.iad 3 t53 (I 0)),O 55 (.fad 0 t54),oF 56 1 55,oX 57 .neq 51 56] [⟨1,(.agg [.d,.d]),0⟩,⟨3,(.agg [.i .i64,.d,.d]),0⟩,⟨5,(.agg [.i .i64,.d,.d]),0⟩,⟨7,(.agg [.d,.d]),0⟩,⟨8,(.agg [.i .i64,.d,.d]),0⟩,⟨10,(.agg [.i .i64,.d,.d]),0⟩] [(0,2),(1,2),(0,6),(1,6),(2,6),(3,6),(4,6),(5,6),(0,7),(1,7),(2,7),(3,7),(4,7),(5,7),(0,8),(1,8),(2,8),(3,8),(4,8),(5,8),(0,9),(1,9),(2,9),(3,9),(4,9),(5,9),(0,10),(1,10),(2,10),(3,10),(4,10),(5,10)] [43,46,47,48,49,50,51,52,53,54,55,56]) (.cond t57 (.seq (oQ [O 2 (.mv (I 8))] [1,4,57]) .ret) .skip))) (oQ [M 44 4,O 45 (.bin .add t44 (I 1)),M 4 45] [44,45,57])))
def yJ5:TFn:=⟨1,[.tmp 2],(.seq (oQ [O 1 (.boxL t0),O 2 (.mv (I 0))] [0,2]) (.seq (.seq (.ops [O 5 (.fad 0 t1),oF 6 1 5,O 7 (.len t6),O 8 (.bin .gtr t7 (I 6)),M 9 8,⟨some 10,(.fad 1 t1),some (9,false)⟩,⟨some 11,(.load false 1 t10),some (9,false)⟩,⟨some 12,(.len t11),some (9,false)⟩,⟨some 13,(.bin .gtr t12 (I 2000)),some (9,false)⟩,O 14 (.pick t9 (.c (.bool true)) t13)] [⟨1,(.agg [.d,.d]),0⟩,⟨6,(.agg [.d,.d]),0⟩] [] [5,6,7,8,9,10,11,12,13]) (.cond t14 (.seq (oQ [O 2 (.mv (I 4))] [1,14]) .ret) .skip)) (.seq (.seq (.ops [O 15 (.fad 0 t1),oF 16 1 15,O 17 (.len t16),O 18 (.bin .eql t17 (I 0))] [⟨1,(.agg [.d,.d]),0⟩] [] [14,15,16,17]) (.cond t18 (.seq (oQ [O 2 (.mv (I 8))] [1,18]) .ret) .skip)) (.seq (.seq (oQ [O 3 (.mv (I 0))] [18]) (.block 0 (.loop 6981300 yrE))) (.seq (.seq (oQ [O 4 (.mv (I 0))] [3,23]) (.block 2 (.loop 6981301 yrF))) (.seq (oQ [O 2 (.mv (I 0))] [1,4,43]) .ret))))))⟩
def t3:Opd:=.t 3
def yOL:TFn:=⟨1,[.tmp 2],(.seq (oQ [O 2 (.mv (.c (.bool false)))] [2]) (.seq (oQ [M 3 0,O 4 (.call (.f ygI) [t3]),O 5 (.un .not t4),M 6 5,⟨some 7,(.mv t0),some (6,true)⟩,⟨some 8,(.build [.nils,.nils] [(0,1,t7)]),some (6,true)⟩,⟨some 9,(.call (.f ym9) [t8]),some (6,true)⟩,⟨some 10,(.bin .eql t9 (I 0)),some (6,true)⟩,O 11 (.pick t6 t10 (.c (.bool false))),M 2 11] [0,3,4,5,6,7,8,9,10,11]) .ret))⟩
def t2:Opd:=.t 2
def yJ6:TFn:=⟨0,[.tmp 0],(.seq (oQ [O 0 (.mv (.c .nils))] [0]) (.seq (oQ [O 1 (.buildD 1 (.int .i64 (0)) 2 [(0,(I 0)),(1,(I 6))]),O 2 (.buildD 1 (.int .i64 (0)) 1 [(0,(I 1))]),O 3 (.build [(.int .i64 (0)),.nils,.nils] [(0,1,(I 6)),(1,1,t1),(2,1,t2)]),O 4 (.buildD 1 (.int .i64 (0)) 3 [(0,(I 0)),(1,(I 4)),(2,(I 6))]),O 5 (.buildD 1 (.int .i64 (0)) 2 [(0,(I 1)),(1,(I 4))]),O 6 (.build [(.int .i64 (0)),.nils,.nils] [(0,1,(I 6)),(1,1,t4),(2,1,t5)]),O 7 (.buildD 1 (.int .i64 (0)) 3 [(0,(I 0)),(1,(I 2)),(2,(I 6))]),O 8 (.buildD 1 (.int .i64 (0)) 2 [(0,(I 2)),(1,(I 0))]),O 9 (.build [(.int .i64 (0)),.nils,.nils] [(0,1,(I 6)),(1,1,t7),(2,1,t8)]),O 10 (.buildSl true 3 (.agg [(.int .i64 (0)),(.data []),(.data [])]) 3 [(0,t3),(1,t6),(2,t9)]),M 0 10] [1,2,3,4,5,6,7,8,9,10]) .ret))⟩
def t22:Opd:=.t 22
def yo6:TCode:=(.seq (.seq (oQ [M 12 4,M 13 0,O 14 (.len t13),oX 15 .lss 12 14] [12,13,14]) (.cond t15 .skip (.exit 0))) (.seq (.block 1 (.ops [M 18 3,M 19 0,M 20 4,O 21 (.iad 1 t19 t20),oF 22 1 21,O 23 (.minmax false [t18,t22]),M 3 23] [⟨3,(.one (.i .i64)),0⟩,⟨4,(.one (.i .i64)),0⟩] [] [15,18,19,20,21,22,23])) (oQ [M 16 4,O 17 (.bin .add t16 (I 1)),M 4 17] [16,17])))
def yCl:TFn:=⟨1,[.tmp 2],(.seq (oQ [O 2 (.mv (I 0))] [2]) (.seq (.seq (oQ [M 5 0,O 6 (.len t5),O 7 (.bin .lss t6 (I 1))] [5,6]) (.cond t7 (oQ [⟨some 8,.bad,none⟩,⟨none,.bad,none⟩] [7,8]) .skip)) (.seq (.ops [M 9 0,O 10 (.iad 1 t9 (I 0)),oF 11 1 10,M 3 11] [⟨1,(.one (.i .i64)),0⟩,⟨2,(.one (.i .i64)),0⟩] [] [7,9,10,11]) (.seq (.seq (oQ [O 4 (.mv (I 1))] []) (.block 0 (.loop 10434000 yo6))) (.seq (oQ [M 24 3,M 2 24] [0,3,4,15,24]) .ret)))))⟩
def yo7:TCode:=(.seq (.seq (oQ [M 12 4,M 13 0,O 14 (.len t13),oX 15 .lss 12 14] [12,13,14]) (.cond t15 .skip (.exit 0))) (.seq (.block 1 (.ops [M 18 3,M 19 0,M 20 4,O 21 (.iad 1 t19 t20),oF 22 1 21,O 23 (.minmax true [t18,t22]),M 3 23] [⟨3,(.one (.i .i64)),0⟩,⟨4,(.one (.i .i64)),0⟩] [] [15,18,19,20,21,22,23])) (oQ [M 16 4,O 17 (.bin .add t16 (I 1)),M 4 17] [16,17])))
def yCm:TFn:=⟨1,[.tmp 2],(.seq (oQ [O 2 (.mv (I 0))] [2]) (.seq (.seq (oQ [M 5 0,O 6 (.len t5),O 7 (.bin .lss t6 (I 1))] [5,6]) (.cond t7 (oQ [⟨some 8,.bad,none⟩,⟨none,.bad,none⟩] [7,8]) .skip)) (.seq (.ops [M 9 0,O 10 (.iad 1 t9 (I 0)),oF 11 1 10,M 3 11] [⟨1,(.one (.i .i64)),0⟩,⟨2,(.one (.i .i64)),0⟩] [] [7,9,10,11]) (.seq (.seq (oQ [O 4 (.mv (I 1))] []) (.block 0 (.loop 64079100 yo7))) (.seq (oQ [M 24 3,M 2 24] [0,3,4,15,24]) .ret)))))⟩
def t59:Opd:=.t 59
def t60:Opd:=.t 60
def t64:Opd:=.t 64
def yo8:TCode:=(.seq (oQ [oX 51 .lss 50 49] []) (.seq (.cond t51 .skip (.exit 0)) (.seq (.block 1 (.seq (oQ [M 52 50,M 4 52] [51,52]) (.seq (.ops [O 53 (.fad 1 t1),oF 54 1 53,M 55 4,O 56 (.iad 1 t54 t55),oF 57 1 56,O 58 (.fad 1 t1),oF 59 1 58,M 60 4,O 61 (.bin .add t60 (I 1)),O 62 (.iad 1 t59 t61),oF 63 1 62,oX 64 .geq 57 63] [⟨1,(.agg [.i .i64,.d,.d]),0⟩,⟨3,(.one (.i .i64)),0⟩,⟨4,(.one (.i .i64)),0⟩,⟨6,(.agg [.i .i64,.d,.d]),0⟩,⟨9,(.one (.i .i64)),0⟩,⟨10,(.one (.i .i64)),0⟩] [(0,2),(1,2),(0,5),(1,5),(2,5),(3,5),(4,5),(0,6),(1,6),(2,6),(3,6),(4,6),(0,7),(1,7),(2,7),(3,7),(4,7),(5,7),(6,7),(0,8),(1,8),(2,8),(3,8),(4,8),(5,8),(6,8),(0,9),(1,9),(2,9),(3,9),(4,9),(0,10),(1,10),(2,10),(3,10),(4,10)] [4,53,54,55,56,57,58,59,60,61,62,63]) (.cond t64 (.seq (oQ [O 2 (.mv (I 8))] [1,49,50,64]) .ret) .skip)))) (oQ [O 65 (.bin .add t50 (I 1)),M 50 65] [64,65]))))
def t39:Opd:=.t 39
def t70:Opd:=.t 70
def t71:Opd:=.t 71
def t79:Opd:=.t 79
def yIc:TFn:=⟨1,[.tmp 2],(.seq (oQ [O 1 (.boxL t0),O 2 (.mv (I 0))] [0,2]) (.seq (.ops [O 5 (.fad 1 t1),oF 6 1 5,O 7 (.len t6),M 3 7] [⟨1,(.agg [.i .i64,.d,.d]),0⟩] [] [5,6,7]) (.seq (.seq (.ops [O 8 (.fad 0 t1),oF 9 1 8,O 10 (.bin .gtr t9 (I 1000)),M 11 10,⟨some 12,(.mv t3),some (11,false)⟩,⟨some 13,(.bin .gtr t12 (I 40)),some (11,false)⟩,O 14 (.pick t11 (.c (.bool true)) t13)] [⟨1,(.agg [.i .i64,.d,.d]),0⟩] [] [8,9,10,11,12,13]) (.cond t14 (.seq (oQ [O 2 (.mv (I 4))] [1,3,14]) .ret) .skip)) (.seq (.seq (.ops [O 15 (.fad 0 t1),oF 16 1 15,O 17 (.bin .lss t16 (I 1)),M 18 17,⟨some 19,(.mv t3),some (18,false)⟩,⟨some 20,(.bin .lss t19 (I 2)),some (18,false)⟩,O 21 (.pick t18 (.c (.bool true)) t20),M 22 21,⟨some 23,(.fad 2 t1),some (22,false)⟩,⟨some 24,(.load false 1 t23),some (22,false)⟩,⟨some 25,(.len t24),some (22,false)⟩,⟨some 26,(.mv t3),some (22,false)⟩,⟨some 27,(.bin .sub t26 (I 1)),some (22,false)⟩,⟨some 28,(.bin .neq t25 t27),some (22,false)⟩,O 29 (.pick t22 (.c (.bool true)) t28),M 30 29,⟨some 31,(.fad 1 t1),some (30,false)⟩,⟨some 32,(.load false 1 t31),some (30,false)⟩,⟨some 33,(.iad 1 t32 (I 0)),some (30,false)⟩,⟨some 34,(.load false 1 t33),some (30,false)⟩,⟨some 35,(.bin .neq t34 (I 0)),some (30,false)⟩,O 36 (.pick t30 (.c (.bool true)) t35),M 37 36,⟨some 38,(.fad 1 t1),some (37,false)⟩,⟨some 39,(.load false 1 t38),some (37,false)⟩,⟨some 40,(.mv t3),some (37,false)⟩,⟨some 41,(.bin .sub t40 (I 1)),some (37,false)⟩,⟨some 42,(.iad 1 t39 t41),some (37,false)⟩,⟨some 43,(.load false 1 t42),some (37,false)⟩,⟨some 44,(.fad 0 t1),some (37,false)⟩,⟨some 45,(.load false 1 t44),some (37,false)⟩,⟨some 46,(.bin .neq t43 t45),some (37,false)⟩,O 47 (.pick t37 (.c (.bool true)) t46)] [⟨1,(.agg [.i .i64,.d,.d]),0⟩,⟨9,(.agg [.i .i64,.d,.d]),0⟩,⟨17,(.agg [.i .i64,.d,.d]),0⟩,⟨18,(.one (.i .i64)),0⟩,⟨19,(.one (.i .i64)),0⟩,⟨24,(.agg [.i .i64,.d,.d]),0⟩,⟨27,(.one (.i .i64)),0⟩,⟨28,(.one (.i .i64)),0⟩,⟨30,(.agg [.i .i64,.d,.d]),0⟩] [(8,11),(9,11),(10,11),(8,12),(9,12),(10,12),(23,25),(24,25),(23,26),(24,26),(23,29),(24,29),(25,29),(26,29),(27,29),(28,29),(23,30),(24,30),(25,30),(26,30),(27,30),(28,30)] [14,15,16,17,18,19,20,21,22,23,24,25,26,27,28,29,30,31,32,33,34,35,36,37,38,39,40,41,42,43,44,45,46]) (.cond t47 (.seq (oQ [O 2 (.mv (I 8))] [1,3,47]) .ret) .skip)) (.seq (.seq (oQ [M 48 3,O 49 (.bin .sub t48 (I 1)),O 50 (.mv (I 0))] [3,47,48]) (.block 0 (.loop 87419700 yo8))) (.seq (.seq (.ops [O 66 (.fad 2 t1),oF 67 1 66,O 68 (.call (.f yhv) [t67]),O 69 (.bin .lss t68 (I 0)),M 70 69,⟨some 71,(.fad 2 t1),some (70,false)⟩,⟨some 72,(.load false 1 t71),some (70,false)⟩,⟨some 73,(.call (.f yfT) [t72]),some (70,false)⟩,⟨some 74,(.bin .gtr t73 (I 12)),some (70,false)⟩,O 75 (.pick t70 (.c (.bool true)) t74),M 76 75,⟨some 77,(.fad 2 t1),some (76,false)⟩,⟨some 78,(.load false 1 t77),some (76,false)⟩,⟨some 79,(.call (.f yfT) [t78]),some (76,false)⟩,⟨some 80,(.bin .eql t79 (I 0)),some (76,false)⟩,O 81 (.pick t76 (.c (.bool true)) t80)] [⟨1,(.agg [.i .i64,.d,.d]),0⟩,⟨6,(.agg [.i .i64,.d,.d]),0⟩,⟨12,(.agg [.i .i64,.d,.d]),0⟩] [] [1,49,50,51,66,67,68,69,70,71,72,73,74,75,76,77,78,79,80]) (.cond t81 (.seq (oQ [O 2 (.mv (I 8))] [81]) .ret) .skip)) (.seq (oQ [O 2 (.mv (I 0))] [81]) .ret)))))))⟩
def yo9:TCode:=(.seq (oQ [oX 26 .lss 25 24] []) (.seq (.cond t26 .skip (.exit 0)) (.seq (.block 1 (.seq (.ops [O 27 (.iad 3 t23 t25),oT 28 3 27,O 4 (.allocL (.agg [(.int .i64 (0)),.nils,.nils])),⟨none,(.store 3 t4 t28),none⟩] [⟨0,(.agg [.i .i64,.d,.d]),0⟩,⟨1,(.agg [.i .i64,.d,.d]),0⟩] [] [26,27,28]) (.seq (oQ [oT 29 3 4,O 30 (.call (.f ycb) [t29]),M 5 30] [4,29,30]) (.seq (oQ [M 31 5,O 32 (.bin .neq t31 (I 0))] [31]) (.cond t32 (.seq (oQ [M 33 5,M 2 33] [1,5,23,24,25,32,33]) .ret) .skip))))) (oQ [O 34 (.bin .add t25 (I 1)),M 25 34] [5,32,34]))))
def ypa:TCode:=(.seq (oQ [oX 39 .lss 38 37] []) (.seq (.cond t39 .skip (.exit 2)) (.seq (.block 3 (.seq (.ops [O 40 (.iad 3 t36 t38),oT 41 3 40,O 7 (.allocL (.agg [(.int .i64 (0)),.nils,.nils])),⟨none,(.store 3 t7 t41),none⟩] [⟨0,(.agg [.i .i64,.d,.d]),0⟩,⟨1,(.agg [.i .i64,.d,.d]),0⟩] [] [39,40,41]) (.seq (.ops [O 42 (.fad 0 t7),oF 43 1 42,O 44 (.fad 0 t1),oF 45 1 44,O 46 (.iad 3 t45 (I 0)),O 47 (.fad 0 t46),oF 48 1 47,oX 49 .neq 43 48] [⟨1,(.agg [.i .i64,.d,.d]),0⟩,⟨3,(.agg [.d,.d]),0⟩,⟨4,(.agg [.i .i64,.d,.d]),0⟩,⟨6,(.agg [.i .i64,.d,.d]),0⟩] [(0,2),(1,2),(0,3),(1,3),(0,4),(1,4),(0,5),(1,5),(0,6),(1,6)] [7,42,43,44,45,46,47,48]) (.cond t49 (.seq (oQ [O 2 (.mv (I 8))] [1,36,37,38,49]) .ret) .skip)))) (oQ [O 50 (.bin .add t38 (I 1)),M 38 50] [49,50]))))
def yJ7:TFn:=⟨1,[.tmp 2],(.seq (oQ [O 1 (.boxL t0),O 2 (.mv (I 0))] [0,2]) (.seq (.seq (.ops [O 8 (.fad 0 t1),oF 9 1 8,O 10 (.len t9),O 11 (.bin .gtr t10 (I 6)),M 12 11,⟨some 13,(.fad 1 t1),some (12,false)⟩,⟨some 14,(.load false 1 t13),some (12,false)⟩,⟨some 15,(.len t14),some (12,false)⟩,⟨some 16,(.bin .gtr t15 (I 2000)),some (12,false)⟩,O 17 (.pick t12 (.c (.bool true)) t16)] [⟨1,(.agg [.d,.d]),0⟩,⟨6,(.agg [.d,.d]),0⟩] [] [8,9,10,11,12,13,14,15,16]) (.cond t17 (.seq (oQ [O 2 (.mv (I 4))] [1,17]) .ret) .skip)) (.seq (.seq (.ops [O 18 (.fad 0 t1),oF 19 1 18,O 20 (.len t19),O 21 (.bin .eql t20 (I 0))] [⟨1,(.agg [.d,.d]),0⟩] [] [17,18,19,20]) (.cond t21 (.seq (oQ [O 2 (.mv (I 8))] [1,21]) .ret) .skip)) (.seq (.seq (.ops [O 22 (.fad 0 t1),oF 23 1 22,O 24 (.len t23),O 25 (.mv (I 0))] [⟨1,(.agg [.d,.d]),0⟩] [] [21,22]) (.block 0 (.loop 12157600 yo9))) (.seq (.seq (.ops [O 35 (.fad 0 t1),oF 36 1 35,O 37 (.len t36),O 38 (.mv (I 0))] [⟨1,(.agg [.d,.d]),0⟩] [] [23,24,25,26,35]) (.block 2 (.loop 12157601 ypa))) (.seq (oQ [O 2 (.mv (I 0))] [1,36,37,38,39]) .ret))))))⟩
def yNK:TFn:=⟨1,[.tmp 2],(.seq (oQ [O 2 (.mv (.c .nils))] [2]) (.seq (.seq (oQ [M 3 0,O 4 (.eqN false t3)] [3]) (.cond t4 (.seq (oQ [O 2 (.mv (.c .nils))] [0,4]) .ret) .skip)) (.seq (oQ [O 5 (.buildSl true 1 (.int .i64 (0)) 0 []),M 6 0,O 7 (.app true 1 8 t5 t6),M 2 7] [0,4,5,6,7]) .ret)))⟩
def ylQ:TCode:=(.seq (oQ [oX 9 .lss 8 7] []) (.seq (.cond t9 .skip (.exit 0)) (.seq (.block 1 (.seq (.ops [O 10 (.iad 3 t6 t8),oT 11 3 10,O 5 (.allocL (.agg [(.int .i64 (0)),.nils,.nils])),⟨none,(.store 3 t5 t11),none⟩] [⟨0,(.agg [.i .i64,.d,.d]),0⟩,⟨1,(.agg [.i .i64,.d,.d]),0⟩] [] [9,10,11]) (.ops [M 12 3,O 13 (.fad 0 t5),oF 14 1 13,O 15 (.fad 1 t5),oF 16 1 15,O 17 (.call (.f ydR) [t16]),O 18 (.fad 2 t5),oF 19 1 18,O 20 (.call (.f ydR) [t19]),O 21 (.build [(.int .i64 (0)),.nils,.nils] [(0,1,t14),(1,1,t17),(2,1,t20)]),O 22 (.buildD 3 (.agg [(.int .i64 (0)),(.data []),(.data [])]) 1 [(0,t21)]),O 23 (.app true 3 56 t12 t22),M 3 23] [⟨2,(.agg [.i .i64,.d,.d]),0⟩,⟨4,(.agg [.i .i64,.d,.d]),0⟩,⟨7,(.agg [.i .i64,.d,.d]),0⟩] [(0,1),(0,2),(0,3),(1,3),(2,3),(0,4),(1,4),(2,4),(0,5),(1,5),(2,5),(0,6),(1,6),(2,6),(3,6),(4,6),(5,6),(0,7),(1,7),(2,7),(3,7),(4,7),(5,7),(0,8),(1,8),(2,8),(0,9),(0,10)] [5,12,13,14,15,16,17,18,19,20,21,22,23]))) (oQ [O 24 (.bin .add t8 (I 1)),M 8 24] [24]))))
def yId:TFn:=⟨1,[.tmp 2],(.seq (oQ [O 2 (.mv (.c .nils))] [2]) (.seq (oQ [O 3 (.mv (.c .nils))] []) (.seq (.seq (oQ [M 6 0,O 7 (.len t6),O 8 (.mv (I 0))] [0]) (.block 0 (.loop 94933800 ylQ))) (.seq (oQ [M 25 3,M 2 25] [3,6,7,8,9,25]) .ret))))⟩
def yMh:TFn:=⟨1,[.cell 2 true 2,.tmp 3],(.seq (oQ [O 2 (.allocL (.agg [.nils,.nils])),O 3 (.mv (I 0))] [3]) (.seq (.seq (oQ [M 5 0,O 6 (.build [.nils,.nils] [(0,1,t5)]),O 7 (.call (.f ydz) [t6]),M 4 7] [5,6,7]) (.seq (oQ [M 8 4,O 9 (.bin .neq t8 (I 0))] [8]) (.cond t9 (.seq (oQ [O 10 (.build [.nils,.nils] []),M 11 4,⟨none,(.store 2 t2 t10),none⟩,M 3 11] [0,4,9,10,11]) .ret) .skip))) (.seq (oQ [M 12 0,O 13 (.call (.f yg5) [t12]),O 14 (.build [.nils,.nils] [(0,1,t13)]),⟨none,(.store 2 t2 t14),none⟩,O 3 (.mv (I 0))] [0,4,9,12,13,14]) .ret)))⟩
def yFx:TFn:=⟨1,[.cell 2 true 2],(.seq (oQ [O 2 (.allocL (.agg [(.int .i64 (0)),(.int .i64 (0))]))] []) (.seq (oQ [M 3 0,O 4 (.build [(.int .i64 (0)),(.int .i64 (0))] [(0,1,t3),(1,1,(I 1))]),⟨none,(.store 2 t2 t4),none⟩] [0,3,4]) .ret))⟩
def ypb:TCode:=(.seq (oQ [oX 17 .lss 16 15] []) (.seq (.cond t17 .skip (.exit 0)) (.seq (.block 1 (.seq (.ops [M 18 16,O 19 (.iad 1 t14 t16),oF 20 1 19,M 6 18,M 7 20] [⟨1,(.one (.i .i64)),0⟩,⟨2,(.one (.i .i64)),0⟩] [] [17,18,19,20]) (.ops [M 21 5,M 22 7,O 23 (.fad 1 t1),oF 24 1 23,M 25 6,O 26 (.bin .add t25 (I 1)),O 27 (.iad 1 t24 t26),oF 28 1 27,O 29 (.fad 1 t1),oF 30 1 29,M 31 6,O 32 (.iad 1 t30 t31),oF 33 1 32,oX 34 .sub 28 33,oX 35 .mul 22 34,oX 36 .add 21 35,M 5 36] [⟨3,(.agg [.i .i64,.d,.d]),0⟩,⟨6,(.one (.i .i64)),0⟩,⟨7,(.one (.i .i64)),0⟩,⟨9,(.agg [.i .i64,.d,.d]),0⟩,⟨11,(.one (.i .i64)),0⟩,⟨12,(.one (.i .i64)),0⟩] [(0,1),(0,2),(1,2),(0,3),(1,3),(0,4),(1,4),(2,4),(3,4),(0,5),(1,5),(2,5),(3,5),(0,6),(1,6),(0,7),(1,7),(0,8),(1,8),(2,8),(3,8),(4,8),(5,8),(6,8),(7,8),(0,9),(1,9),(2,9),(3,9),(4,9),(5,9),(6,9),(7,9),(0,10),(1,10),(2,10),(3,10),(4,10),(5,10),(6,10),(7,10),(8,10),(9,10),(0,11),(1,11),(2,11),(3,11),(4,11),(5,11),(6,11),(7,11),(0,12),(1,12),(2,12),(3,12),(4,12),(5,12),(6,12),(7,12),(0,13),(1,13),(0,14)] [6,7,21,22,23,24,25,26,27,28,29,30,31,32,33,34,35,36]))) (oQ [O 37 (.bin .add t16 (I 1)),M 16 37] [37]))))
def yIe:TFn:=⟨1,[.tmp 2,.tmp 3],(.seq (oQ [O 1 (.boxL t0),O 2 (.mv (I 0)),O 3 (.mv (I 0))] [0,2,3]) (.seq (.seq (oQ [oT 8 3 1,O 9 (.call (.f ycb) [t8]),M 4 9] [8,9]) (.seq (oQ [M 10 4,O 11 (.bin .neq t10 (I 0))] [10]) (.cond t11 (.seq (oQ [M 12 4,O 2 (.mv (I 0)),M 3 12] [1,4,11,12]) .ret) .skip))) (.seq (oQ [O 5 (.mv (I 0))] [4,11]) (.seq (.seq (.ops [O 13 (.fad 2 t1),oF 14 1 13,O 15 (.len t14),O 16 (.mv (I 0))] [⟨1,(.agg [.i .i64,.d,.d]),0⟩] [] [13]) (.block 0 (.loop 45203600 ypb))) (.seq (oQ [M 38 5,M 2 38,O 3 (.mv (I 0))] [1,5,14,15,16,17,38]) .ret)))))⟩
def yIf:TFn:=⟨1,[.tmp 2],(.seq (oQ [O 2 (.mv (.c (.int .u64 (0))))] [2]) (.seq (.seq (oQ [M 3 0,O 4 (.bin .lss t3 (I 0))] [3]) (.cond t4 (.seq (oQ [M 5 0,O 6 (.conv .u64 t5),O 7 (.un .neg t6),M 2 7] [0,4,5,6,7]) .ret) .skip)) (.seq (oQ [M 8 0,O 9 (.conv .u64 t8),M 2 9] [0,4,8,9]) .ret)))⟩
def ypc:TCode:=(.seq (.seq (oQ [M 5 1,O 6 (.bin .gtr t5 (.c (.int .u64 (0))))] [5]) (.cond t6 .skip (.exit 0))) (.block 1 (.ops [M 7 1,M 8 0,M 9 1,oX 10 .rem 8 9,M 0 7,M 1 10] [] [(0,1),(0,2),(1,2),(0,3),(2,4),(3,4)] [6,7,8,9,10])))
def yJ8:TFn:=⟨2,[.tmp 4],(.seq (oQ [O 4 (.mv (.c (.int .u64 (0))))] [4]) (.seq (.block 0 (.loop 32725300 ypc)) (.seq (oQ [M 11 0,M 4 11] [0,1,6,11]) .ret)))⟩
def yDY:TFn:=⟨3,[.cell 6 true 2,.tmp 7],(.seq (oQ [O 6 (.allocL (.agg [(.int .i64 (0)),(.int .i64 (0))])),O 7 (.mv (I 0))] [7]) (.seq (.seq (oQ [M 8 1,M 9 2,O 10 (.minmax true [t8,t9]),O 11 (.bin .gtr t10 (.c (.int .u64 (1000000000000000000))))] [8,9,10]) (.cond t11 (.seq (oQ [O 12 (.build [(.int .i64 (0)),(.int .i64 (0))] []),⟨none,(.store 2 t6 t12),none⟩,O 7 (.mv (I 16))] [0,1,2,11,12]) .ret) .skip)) (.seq (.seq (oQ [M 13 0] [0,11]) (.cond t13 (.seq (oQ [M 14 1,O 15 (.conv .i64 t14),O 16 (.un .neg t15),M 17 2,O 18 (.conv .i64 t17),O 19 (.build [(.int .i64 (0)),(.int .i64 (0))] [(0,1,t16),(1,1,t18)]),⟨none,(.store 2 t6 t19),none⟩,O 7 (.mv (I 0))] [1,2,13,14,15,16,17,18,19]) .ret) .skip)) (.seq (oQ [M 20 1,O 21 (.conv .i64 t20),M 22 2,O 23 (.conv .i64 t22),O 24 (.build [(.int .i64 (0)),(.int .i64 (0))] [(0,1,t21),(1,1,t23)]),⟨none,(.store 2 t6 t24),none⟩,O 7 (.mv (I 0))] [1,2,13,20,21,22,23,24]) .ret))))⟩
def yIg:TFn:=⟨2,[.cell 4 true 2,.tmp 5],(.seq (oQ [O 4 (.allocL (.agg [(.int .i64 (0)),(.int .i64 (0))])),O 5 (.mv (I 0))] [5]) (.seq (.seq (oQ [M 9 1,O 10 (.bin .eql t9 (I 0))] [9]) (.cond t10 (.seq (oQ [O 11 (.build [(.int .i64 (0)),(.int .i64 (0))] []),⟨none,(.store 2 t4 t11),none⟩,O 5 (.mv (I 18))] [0,1,10,11]) .ret) .skip)) (.seq (oQ [M 12 0,O 13 (.call (.f ybH) [t12]),M 14 1,O 15 (.call (.f ybH) [t14]),M 6 13,M 7 15] [10,12,13,14,15]) (.seq (oQ [M 16 6,M 17 7,O 18 (.call (.f ydA) [t16,t17]),M 8 18] [16,17,18]) (.seq (.ops [M 19 0,O 20 (.bin .lss t19 (I 0)),M 21 1,O 22 (.bin .lss t21 (I 0)),O 23 (.eqB true t20 t22),M 24 6,M 25 8,oX 26 .quo 24 25,M 27 7,M 28 8,oX 29 .quo 27 28,O 30 (.call (.f ydS) [t23,t26,t29]),O 31 (.ext t30 0),O 32 (.ext t30 1),⟨none,(.store 2 t4 t31),none⟩,M 5 32] [] [(0,2),(1,2),(0,3),(1,3),(0,5),(1,5),(2,5),(3,5),(4,5),(0,6),(1,6),(2,6),(3,6),(4,6),(5,6),(0,7),(1,7),(2,7),(3,7),(4,7),(0,8),(1,8),(2,8),(3,8),(4,8),(5,8),(6,8),(7,8),(0,9),(1,9),(2,9),(3,9),(4,9),(5,9),(6,9),(7,9),(8,9),(0,10),(1,10),(2,10),(3,10),(4,10),(5,10),(6,10),(7,10),(12,13)] [0,1,6,7,8,19,20,21,22,23,24,25,26,27,28,29,30,31,32]) .ret)))))⟩
def yIh:TFn:=⟨2,[.cell 4 true 2],(.seq (oQ [O 2 (.boxL t0),O 4 (.allocL (.agg [(.int .i64 (0)),(.int .i64 (0))]))] [0]) (.seq (oQ [oT 10 3 2,O 11 (.call (.f ycZ) [t10]),M 9 11,O 12 (.ext t9 0),O 13 (.ext t9 1),M 5 12,M 6 13] [2,6,9,10,11,12,13]) (.seq (oQ [M 15 5,M 16 1,O 17 (.call (.f yf8) [t15,t16]),M 14 17,O 18 (.ext t14 0),O 19 (.ext t14 1),O 7 (.allocL (.agg [(.int .i64 (0)),(.int .i64 (0))])),⟨none,(.store 2 t7 t18),none⟩,M 8 19] [1,5,8,14,15,16,17,18,19]) (.seq (oQ [oT 20 2 7,⟨none,(.store 2 t4 t20),none⟩] [7,20]) .ret))))⟩
def yFy:TFn:=⟨1,[.tmp 2],(.seq (oQ [O 1 (.boxL t0),O 2 (.mv (I 0))] [0,2]) (.seq (.seq (.ops [O 3 (.fad 1 t1),oF 4 1 3,O 5 (.bin .lss t4 (I 1)),M 6 5,⟨some 7,(.fad 0 t1),some (6,false)⟩,⟨some 8,(.load false 1 t7),some (6,false)⟩,⟨some 9,(.call (.f ybH) [t8]),some (6,false)⟩,⟨some 10,(.fad 1 t1),some (6,false)⟩,⟨some 11,(.load false 1 t10),some (6,false)⟩,⟨some 12,(.conv .u64 t11),some (6,false)⟩,⟨some 13,(.minmax true [t9,t12]),some (6,false)⟩,⟨some 14,(.bin .gtr t13 (.c (.int .u64 (1000000000000000000)))),some (6,false)⟩,O 15 (.pick t6 (.c (.bool true)) t14),M 16 15,⟨some 17,(.fad 0 t1),some (16,false)⟩,⟨some 18,(.load false 1 t17),some (16,false)⟩,⟨some 19,(.call (.f ybH) [t18]),some (16,false)⟩,⟨some 20,(.fad 1 t1),some (16,false)⟩,⟨some 21,(.load false 1 t20),some (16,false)⟩,⟨some 22,(.conv .u64 t21),some (16,false)⟩,⟨some 23,(.call (.f ydA) [t19,t22]),some (16,false)⟩,⟨some 24,(.bin .gtr t23 (.c (.int .u64 (1)))),some (16,false)⟩,O 25 (.pick t16 (.c (.bool true)) t24)] [⟨1,(.agg [.i .i64,.i .i64]),0⟩,⟨5,(.agg [.i .i64,.i .i64]),0⟩,⟨8,(.agg [.i .i64,.i .i64]),0⟩,⟨15,(.agg [.i .i64,.i .i64]),0⟩,⟨18,(.agg [.i .i64,.i .i64]),0⟩] [(4,7),(5,7),(6,7),(4,8),(5,8),(6,8),(4,9),(5,9),(6,9),(14,17),(15,17),(16,17),(14,18),(15,18),(16,18),(14,19),(15,19),(16,19)] [1,3,4,5,6,7,8,9,10,11,12,13,14,15,16,17,18,19,20,21,22,23,24]) (.cond t25 (.seq (oQ [O 2 (.mv (I 8))] [25]) .ret) .skip)) (.seq (oQ [O 2 (.mv (I 0))] [25]) .ret)))⟩
def yIi:TFn:=⟨1,[.cell 2 true 2],(.seq (oQ [O 2 (.allocL (.agg [(.int .i64 (0)),(.int .i64 (0))]))] []) (.seq (oQ [M 3 0,O 4 (.build [(.int .i64 (0)),(.int .i64 (0))] [(0,1,t3),(1,1,(I 1))]),⟨none,(.store 2 t2 t4),none⟩] [0,3,4]) .ret))⟩
def ypd:TCode:=(.seq (oQ [oX 9 .lss 8 7] []) (.seq (.cond t9 .skip (.exit 0)) (.seq (.block 1 (.seq (.ops [O 10 (.iad 1 t6 t8),oF 11 1 10,M 5 11] [⟨0,(.one (.i .i64)),0⟩,⟨1,(.one (.i .i64)),0⟩] [] [9,10,11]) (.seq (oQ [M 12 5,M 13 3,oX 14 .neq 12 13] [12,13]) (.cond t14 (.seq (oQ [M 15 5,M 2 15] [3,5,6,7,8,14,15]) .ret) .skip)))) (oQ [O 16 (.bin .add t8 (I 1)),M 8 16] [5,14,16]))))
def yxw:TFn:=⟨1,[.tmp 2],(.seq (oQ [O 2 (.mv (I 0))] [2]) (.seq (oQ [O 3 (.mv (I 0))] []) (.seq (.seq (oQ [M 6 0,O 7 (.len t6),O 8 (.mv (I 0))] [0]) (.block 0 (.loop 38508400 ypd))) (.seq (oQ [M 17 3,M 2 17] [3,6,7,8,9,17]) .ret))))⟩
def yFz:TFn:=⟨2,[.tmp 4],(.seq (oQ [O 2 (.boxL t0),O 3 (.boxL t1),O 4 (.mv (I 0))] [0,1,4]) (.seq (.ops [oT 5 2 2,O 6 (.call (.f ydm) [t5]),oT 7 2 3,O 8 (.call (.f ydm) [t7]),O 9 (.buildD 1 (.int .i64 (0)) 2 [(0,t6),(1,t8)]),O 10 (.call (.f yfC) [t9]),M 4 10] [] [(0,2),(1,2)] [2,3,5,6,7,8,9,10]) .ret))⟩
def yyY:TFn:=⟨1,[.tmp 2],(.seq (oQ [O 2 (.mv (.c (.bool false)))] [2]) (.seq (oQ [M 3 0,M 4 0,oX 5 .neq 3 4,M 2 5] [0,3,4,5]) .ret))⟩
def yvM:TFn:=⟨2,[.tmp 4],(.seq (oQ [O 4 (.mv (I 0))] [4]) (.seq (oQ [M 7 0,O 8 (.call (.f yeO) [t7]),M 5 8] [7,8]) (.seq (oQ [M 9 1,O 10 (.call (.f yeO) [t9]),M 6 10] [9,10]) (.seq (.seq (oQ [M 11 5] [5]) (.cond t11 (.seq (.seq (oQ [M 12 6] [0,1,6,11]) (.cond t12 (.seq (oQ [O 4 (.mv (I 0))] [12]) .ret) .skip)) (.seq (oQ [O 4 (.mv (I (-1)))] [12]) .ret)) .skip)) (.seq (.seq (oQ [M 13 6] [6,11]) (.cond t13 (.seq (oQ [O 4 (.mv (I 1))] [0,1,13]) .ret) .skip)) (.seq (.seq (oQ [M 14 0,M 15 1,oX 16 .lss 14 15] [13,14,15]) (.cond t16 (.seq (oQ [O 4 (.mv (I (-1)))] [0,1,16]) .ret) .skip)) (.seq (.seq (oQ [M 17 0,M 18 1,oX 19 .gtr 17 18] [0,1,16,17,18]) (.cond t19 (.seq (oQ [O 4 (.mv (I 1))] [19]) .ret) .skip)) (.seq (oQ [O 4 (.mv (I 0))] [19]) .ret))))))))⟩
def yOM:TFn:=⟨2,[.tmp 4,.tmp 5],(.seq (oQ [O 4 (.mv (.c (.int .u64 (0)))),O 5 (.mv (.c (.int .u64 (0))))] [4,5]) (.seq (oQ [M 14 0,O 15 (.bin .and t14 (.c (.int .u64 (4294967295)))),M 6 15] [14,15]) (.seq (oQ [M 16 0,O 17 (.bin .shr t16 (.c (.int .u64 (32)))),M 7 17] [16,17]) (.seq (oQ [M 18 1,O 19 (.bin .and t18 (.c (.int .u64 (4294967295)))),M 8 19] [18,19]) (.seq (oQ [M 20 1,O 21 (.bin .shr t20 (.c (.int .u64 (32)))),M 9 21] [20,21]) (.seq (oQ [M 22 6,M 23 8,oX 24 .mul 22 23,M 10 24] [22,23,24]) (.seq (oQ [M 25 7,M 26 8,oX 27 .mul 25 26,M 28 10,O 29 (.bin .shr t28 (.c (.int .u64 (32)))),oX 30 .add 27 29,M 11 30] [8,10,25,26,27,28,29,30]) (.seq (oQ [M 31 11,O 32 (.bin .and t31 (.c (.int .u64 (4294967295)))),M 12 32] [31,32]) (.seq (oQ [M 33 11,O 34 (.bin .shr t33 (.c (.int .u64 (32)))),M 13 34] [11,33,34]) (.seq (oQ [M 35 12,M 36 6,M 37 9,oX 38 .mul 36 37,oX 39 .add 35 38,M 12 39] [6,35,36,37,38,39]) (.seq (oQ [M 40 7,M 41 9,oX 42 .mul 40 41,M 43 13,oX 44 .add 42 43,M 45 12,O 46 (.bin .shr t45 (.c (.int .u64 (32)))),oX 47 .add 44 46,M 4 47] [7,9,12,13,40,41,42,43,44,45,46,47]) (.seq (oQ [M 48 0,M 49 1,oX 50 .mul 48 49,M 5 50] [0,1,48,49,50]) .ret))))))))))))⟩
def yxx:TFn:=⟨1,[.tmp 2],(.seq (oQ [O 2 (.mv (.c (.bool false)))] [2]) (.seq (oQ [M 3 0,M 4 0,oX 5 .neq 3 4,M 2 5] [0,3,4,5]) .ret))⟩
def ytW:TFn:=⟨2,[.tmp 4],(.seq (oQ [O 4 (.mv (I 0))] [4]) (.seq (oQ [M 7 0,O 8 (.call (.f yeh) [t7]),M 5 8] [7,8]) (.seq (oQ [M 9 1,O 10 (.call (.f yeh) [t9]),M 6 10] [9,10]) (.seq (.seq (oQ [M 11 5] [5]) (.cond t11 (.seq (.seq (oQ [M 12 6] [0,1,6,11]) (.cond t12 (.seq (oQ [O 4 (.mv (I 0))] [12]) .ret) .skip)) (.seq (oQ [O 4 (.mv (I (-1)))] [12]) .ret)) .skip)) (.seq (.seq (oQ [M 13 6] [6,11]) (.cond t13 (.seq (oQ [O 4 (.mv (I 1))] [0,1,13]) .ret) .skip)) (.seq (.seq (oQ [M 14 0,M 15 1,oX 16 .lss 14 15] [13,14,15]) (.cond t16 (.seq (oQ [O 4 (.mv (I (-1)))] [0,1,16]) .ret) .skip)) (.seq (.seq (oQ [M 17 0,M 18 1,oX 19 .gtr 17 18] [0,1,16,17,18]) (.cond t19 (.seq (oQ [O 4 (.mv (I 1))] [19]) .ret) .skip)) (.seq (oQ [O 4 (.mv (I 0))] [19]) .ret))))))))⟩
def ype:TCode:=(.seq (oQ [oX 9 .lss 8 7] []) (.seq (.cond t9 .skip (.exit 0)) (.seq (.block 1 (.seq (.ops [O 10 (.iad 1 t6 t8),oF 11 1 10,M 5 11] [⟨0,(.one (.i .i64)),0⟩,⟨1,(.one (.i .i64)),0⟩] [] [9,10,11]) (.seq (oQ [M 12 5,M 13 3,oX 14 .neq 12 13] [12,13]) (.cond t14 (.seq (oQ [M 15 5,M 2 15] [3,5,6,7,8,14,15]) .ret) .skip)))) (oQ [O 16 (.bin .add t8 (I 1)),M 8 16] [5,14,16]))))
def yIj:TFn:=⟨1,[.tmp 2],(.seq (oQ [O 2 (.mv (I 0))] [2]) (.seq (oQ [O 3 (.mv (I 0))] []) (.seq (.seq (oQ [M 6 0,O 7 (.len t6),O 8 (.mv (I 0))] [0]) (.block 0 (.loop 53260600 ype))) (.seq (oQ [M 17 3,M 2 17] [3,6,7,8,9,17]) .ret))))⟩
def t56:Opd:=.t 56
def yJ9:TFn:=⟨2,[.tmp 4,.tmp 5],(.seq (oQ [O 2 (.boxL t0),O 3 (.boxL t1),O 4 (.mv (I 0)),O 5 (.mv (I 0))] [0,1,4,5]) (.seq (.seq (oQ [oT 12 2 2,oT 13 2 3,O 14 (.call (.f ycx) [t12,t13]),M 6 14] [12,13,14]) (.seq (oQ [M 15 6,O 16 (.bin .neq t15 (I 0))] [15]) (.cond t16 (.seq (oQ [M 17 6,O 4 (.mv (I 0)),M 5 17] [2,3,6,16,17]) .ret) .skip))) (.seq (.seq (.ops [O 18 (.fad 0 t2),oF 19 1 18,O 20 (.bin .lss t19 (I 0)),O 21 (.fad 0 t3),oF 22 1 21,O 23 (.bin .lss t22 (I 0)),O 24 (.eqB true t20 t23)] [⟨1,(.agg [.i .i64,.i .i64]),0⟩,⟨4,(.agg [.i .i64,.i .i64]),0⟩] [] [6,16,18,19,20,21,22,23]) (.cond t24 (.seq (.ops [O 25 (.fad 0 t2),oF 26 1 25,O 27 (.fad 0 t3),oF 28 1 27,O 29 (.call (.f yfc) [t26,t28]),M 4 29,O 5 (.mv (I 0))] [⟨1,(.agg [.i .i64,.i .i64]),0⟩,⟨3,(.agg [.i .i64,.i .i64]),0⟩] [] [2,3,24,25,26,27,28,29]) .ret) .skip)) (.seq (.ops [O 31 (.fad 0 t2),oF 32 1 31,O 33 (.call (.f ybH) [t32]),O 34 (.fad 1 t3),oF 35 1 34,O 36 (.conv .u64 t35),O 37 (.call (.f yfs) [t33,t36]),M 30 37,O 38 (.ext t30 0),O 39 (.ext t30 1),M 7 38,M 8 39] [⟨1,(.agg [.i .i64,.i .i64]),0⟩,⟨4,(.agg [.i .i64,.i .i64]),0⟩] [(0,3),(1,3),(2,3),(0,4),(1,4),(2,4),(0,5),(1,5),(2,5),(8,9),(9,10)] [24,30,31,32,33,34,35,36,37,38,39]) (.seq (.ops [O 41 (.fad 0 t3),oF 42 1 41,O 43 (.call (.f ybH) [t42]),O 44 (.fad 1 t2),oF 45 1 44,O 46 (.conv .u64 t45),O 47 (.call (.f yfs) [t43,t46]),M 40 47,O 48 (.ext t40 0),O 49 (.ext t40 1),M 9 48,M 10 49] [⟨1,(.agg [.i .i64,.i .i64]),0⟩,⟨4,(.agg [.i .i64,.i .i64]),0⟩] [(0,3),(1,3),(2,3),(0,4),(1,4),(2,4),(0,5),(1,5),(2,5),(8,9),(9,10)] [3,40,41,42,43,44,45,46,47,48,49]) (.seq (oQ [M 50 7,M 51 9,O 52 (.call (.f ydB) [t50,t51]),M 53 8,M 54 10,O 55 (.call (.f ydB) [t53,t54]),O 56 (.buildD 1 (.int .i64 (0)) 2 [(0,t52),(1,t55)]),O 57 (.call (.f ykN) [t56]),M 11 57] [7,8,9,10,50,51,52,53,54,55,56,57]) (.seq (.seq (.ops [O 58 (.fad 0 t2),oF 59 1 58,O 60 (.bin .lss t59 (I 0))] [⟨1,(.agg [.i .i64,.i .i64]),0⟩] [] [2,58,59]) (.cond t60 (oQ [M 61 11,O 62 (.un .neg t61),M 11 62] [60,61,62]) .skip)) (.seq (oQ [M 63 11,M 4 63,O 5 (.mv (I 0))] [11,60,63]) .ret))))))))⟩
def yKa:TFn:=⟨2,[.tmp 4],(.seq (oQ [O 2 (.boxL t0),O 3 (.boxL t1),O 4 (.mv (.c (.bool false)))] [0,1,4]) (.seq (oQ [oT 8 2 2,oT 9 2 3,O 10 (.call (.f ycM) [t8,t9]),M 7 10,O 11 (.ext t7 0),O 12 (.ext t7 1),M 5 11,M 6 12] [2,3,6,7,8,9,10,11,12]) (.seq (oQ [M 13 5,O 14 (.bin .lss t13 (I 0)),M 4 14] [5,13,14]) .ret)))⟩
def yIk:TFn:=⟨2,[.tmp 4],(.seq (oQ [O 2 (.boxL t0),O 3 (.boxL t1),O 4 (.mv (.c (.bool false)))] [0,1,4]) (.seq (.ops [oT 5 2 3,O 6 (.call (.f ydm) [t5]),O 7 (.bin .eql t6 (I 0)),M 8 7,⟨some 9,(.fad 0 t3),some (8,true)⟩,⟨some 10,(.load false 1 t9),some (8,true)⟩,⟨some 11,(.bin .geq t10 (I 0)),some (8,true)⟩,O 12 (.pick t8 t11 (.c (.bool false))),M 13 12,⟨some 14,(.fad 0 t2),some (13,true)⟩,⟨some 15,(.load false 1 t14),some (13,true)⟩,⟨some 16,(.call (.f ycm) [t15]),some (13,true)⟩,⟨some 17,(.load true 2 t3),some (13,true)⟩,⟨some 18,(.call (.f ydd) [t16,t17]),some (13,true)⟩,⟨some 19,(.un .not t18),some (13,true)⟩,O 20 (.pick t13 t19 (.c (.bool false))),M 4 20] [⟨5,(.agg [.i .i64,.i .i64]),0⟩,⟨10,(.agg [.i .i64,.d,.d]),0⟩] [(9,12),(10,12),(11,12)] [2,3,5,6,7,8,9,10,11,12,13,14,15,16,17,18,19,20]) .ret))⟩
def yON:TFn:=⟨1,[.tmp 2],(.seq (oQ [O 2 (.mv (I 0))] []) (.seq (.seq (oQ [M 3 0,O 4 (.bin .geq t3 (.c (.int .u64 (4294967296))))] [3]) (.cond t4 (.seq (oQ [M 5 0,O 6 (.bin .shr t5 (.c (.int .u64 (32)))),M 0 6] [2,4,5,6]) (oQ [O 2 (.mv (I 32))] [])) .skip)) (.seq (.seq (oQ [M 7 0,O 8 (.bin .geq t7 (.c (.int .u64 (65536))))] [4,7]) (.cond t8 (.seq (oQ [M 9 0,O 10 (.bin .shr t9 (.c (.int .u64 (16)))),M 0 10] [8,9,10]) (oQ [M 11 2,O 12 (.bin .add t11 (I 16)),M 2 12] [11,12])) .skip)) (.seq (.seq (oQ [M 13 0,O 14 (.bin .geq t13 (.c (.int .u64 (256))))] [8,13]) (.cond t14 (.seq (oQ [M 15 0,O 16 (.bin .shr t15 (.c (.int .u64 (8)))),M 0 16] [14,15,16]) (oQ [M 17 2,O 18 (.bin .add t17 (I 8)),M 2 18] [17,18])) .skip)) (.seq (oQ [M 19 2,M 20 0,O 21 (.conv .u8 t20),O 22 (.idx false 256 1 (.c (.agg [(.int .u8 (0)),(.int .u8 (1)),(.int .u8 (2)),(.int .u8 (2)),(.int .u8 (3)),(.int .u8 (3)),(.int .u8 (3)),(.int .u8 (3)),(.int .u8 (4)),(.int .u8 (4)),(.int .u8 (4)),(.int .u8 (4)),(.int .u8 (4)),(.int .u8 (4)),(.int .u8 (4)),(.int .u8 (4)),(.int .u8 (5)),(.int .u8 (5)),(.int .u8 (5)),(.int .u8 (5)),(.int .u8 (5)),(.int .u8 (5)),(.int .u8 (5)),(.int .u8 (5)),(.int .u8 (5)),(.int .u8 (5)),(.int .u8 (5)),(.int .u8 (5)),(.int .u8 (5)),(.int .u8 (5)),(.int .u8 (5)),(.int .u8 (5)),(.int .u8 (6)),(.int .u8 (6)),(.int .u8 (6)),(.int .u8 (6)),(.int .u8 (6)),(.int .u8 (6)),(.int .u8 (6)),(.int .u8 (6)),(.int .u8 (6)),(.int .u8 (6)),(.int .u8 (6)),(.int .u8 (6)),(.int .u8 (6)),(.int .u8 (6)),(.int .u8 (6)),(.int .u8 (6)),(.int .u8 (6)),(.int .u8 (6)),(.int .u8 (6)),(.int .u8 (6)),(.int .u8 (6)),(.int .u8 (6)),(.int .u8 (6)),(.int .u8 (6)),(.int .u8 (6)),(.int .u8 (6)),(.int .u8 (6)),(.int .u8 (6)),(.int .u8 (6)),(.int .u8 (6)),(.int .u8 (6)),(.int .u8 (6)),(.int .u8 (7)),(.int .u8 (7)),(.int .u8 (7)),(.int .u8 (7)),(.int .u8 (7)),(.int .u8 (7)),(.int .u8 (7)),(.int .u8 (7)),(.int .u8 (7)),(.int .u8 (7)),(.int .u8 (7)),(.int .u8 (7)),(.int .u8 (7)),(.int .u8 (7)),(.int .u8 (7)),(.int .u8 (7)),(.int .u8 (7)),(.int .u8 (7)),(.int .u8 (7)),(.int .u8 (7)),(.int .u8 (7)),(.int .u8 (7)),(.int .u8 (7)),(.int .u8 (7)),(.int .u8 (7)),(.int .u8 (7)),(.int .u8 (7)),(.int .u8 (7)),(.int .u8 (7)),(.int .u8 (7)),(.int .u8 (7)),(.int .u8 (7)),(.int .u8 (7)),(.int .u8 (7)),(.int .u8 (7)),(.int .u8 (7)),(.int .u8 (7)),(.int .u8 (7)),(.int .u8 (7)),(.int .u8 (7)),(.int .u8 (7)),(.int .u8 (7)),(.int .u8 (7)),(.int .u8 (7)),(.int .u8 (7)),(.int .u8 (7)),(.int .u8 (7)),(.int .u8 (7)),(.int .u8 (7)),(.int .u8 (7)),(.int .u8 (7)),(.int .u8 (7)),(.int .u8 (7)),(.int .u8 (7)),(.int .u8 (7)),(.int .u8 (7)),(.int .u8 (7)),(.int .u8 (7)),(.int .u8 (7)),(.int .u8 (7)),(.int .u8 (7)),(.int .u8 (7)),(.int .u8 (7)),(.int .u8 (7)),(.int .u8 (8)),(.int .u8 (8)),(.int .u8 (8)),(.int .u8 (8)),(.int .u8 (8)),(.int .u8 (8)),(.int .u8 (8)),(.int .u8 (8)),(.int .u8 (8)),(.int .u8 (8)),(.int .u8 (8)),(.int .u8 (8)),(.int .u8 (8)),(.int .u8 (8)),(.int .u8 (8)),(.int .u8 (8)),(.int .u8 (8)),(.int .u8 (8)),(.int .u8 (8)),(.int .u8 (8)),(.int .u8 (8)),(.int .u8 (8)),(.int .u8 (8)),(.int .u8 (8)),(.int .u8 (8)),(.int .u8 (8)),(.int .u8 (8)),(.int .u8 (8)),(.int .u8 (8)),(.int .u8 (8)),(.int .u8 (8)),(.int .u8 (8)),(.int .u8 (8)),(.int .u8 (8)),(.int .u8 (8)),(.int .u8 (8)),(.int .u8 (8)),(.int .u8 (8)),(.int .u8 (8)),(.int .u8 (8)),(.int .u8 (8)),(.int .u8 (8)),(.int .u8 (8)),(.int .u8 (8)),(.int .u8 (8)),(.int .u8 (8)),(.int .u8 (8)),(.int .u8 (8)),(.int .u8 (8)),(.int .u8 (8)),(.int .u8 (8)),(.int .u8 (8)),(.int .u8 (8)),(.int .u8 (8)),(.int .u8 (8)),(.int .u8 (8)),(.int .u8 (8)),(.int .u8 (8)),(.int .u8 (8)),(.int .u8 (8)),(.int .u8 (8)),(.int .u8 (8)),(.int .u8 (8)),(.int .u8 (8)),(.int .u8 (8)),(.int .u8 (8)),(.int .u8 (8)),(.int .u8 (8)),(.int .u8 (8)),(.int .u8 (8)),(.int .u8 (8)),(.int .u8 (8)),(.int .u8 (8)),(.int .u8 (8)),(.int .u8 (8)),(.int .u8 (8)),(.int .u8 (8)),(.int .u8 (8)),(.int .u8 (8)),(.int .u8 (8)),(.int .u8 (8)),(.int .u8 (8)),(.int .u8 (8)),(.int .u8 (8)),(.int .u8 (8)),(.int .u8 (8)),(.int .u8 (8)),(.int .u8 (8)),(.int .u8 (8)),(.int .u8 (8)),(.int .u8 (8)),(.int .u8 (8)),(.int .u8 (8)),(.int .u8 (8)),(.int .u8 (8)),(.int .u8 (8)),(.int .u8 (8)),(.int .u8 (8)),(.int .u8 (8)),(.int .u8 (8)),(.int .u8 (8)),(.int .u8 (8)),(.int .u8 (8)),(.int .u8 (8)),(.int .u8 (8)),(.int .u8 (8)),(.int .u8 (8)),(.int .u8 (8)),(.int .u8 (8)),(.int .u8 (8)),(.int .u8 (8)),(.int .u8 (8)),(.int .u8 (8)),(.int .u8 (8)),(.int .u8 (8)),(.int .u8 (8)),(.int .u8 (8)),(.int .u8 (8)),(.int .u8 (8)),(.int .u8 (8)),(.int .u8 (8)),(.int .u8 (8)),(.int .u8 (8)),(.int .u8 (8)),(.int .u8 (8)),(.int .u8 (8)),(.int .u8 (8)),(.int .u8 (8))])) t21),O 23 (.conv .i64 t22),oX 24 .add 19 23,M 2 24] [0,14,19,20,21,22,23,24]) .ret)))))⟩
def yxy:TFn:=⟨1,[.tmp 2],(.seq (oQ [O 2 (.mv (I 0))] [2]) (.seq (oQ [M 3 0,O 4 (.call (.f yoH) [t3]),O 5 (.bin .sub (I 64) t4),M 2 5] [0,3,4,5]) .ret))⟩
def t69:Opd:=.t 69
def ylR:TCode:=(.seq (.seq (oQ [M 67 15,O 68 (.bin .geq t67 (.c (.int .u64 (4294967296)))),M 69 68,⟨some 70,(.mv t15),some (69,false)⟩,⟨some 71,(.mv t10),some (69,false)⟩,⟨some 72,(.bin .mul t70 t71),some (69,false)⟩,⟨some 73,(.mv t16),some (69,false)⟩,⟨some 74,(.bin .mul (.c (.int .u64 (4294967296))) t73),some (69,false)⟩,⟨some 75,(.mv t13),some (69,false)⟩,⟨some 76,(.bin .add t74 t75),some (69,false)⟩,⟨some 77,(.bin .gtr t72 t76),some (69,false)⟩,O 78 (.pick t69 (.c (.bool true)) t77)] [67,68,69,70,71,72,73,74,75,76,77,85]) (.cond t78 .skip (.exit 0))) (.block 1 (.seq (oQ [M 79 15,O 80 (.bin .sub t79 (.c (.int .u64 (1)))),M 15 80] [78,79,80]) (.seq (oQ [M 81 16,M 82 9,oX 83 .add 81 82,M 16 83] [81,82,83]) (.seq (oQ [M 84 16,O 85 (.bin .geq t84 (.c (.int .u64 (4294967296))))] [84]) (.cond t85 (.exit 0) .skip))))))
def t102:Opd:=.t 102
def t104:Opd:=.t 104
def t105:Opd:=.t 105
def t106:Opd:=.t 106
def t107:Opd:=.t 107
def t108:Opd:=.t 108
def t109:Opd:=.t 109
def t110:Opd:=.t 110
def t111:Opd:=.t 111
def t112:Opd:=.t 112
def t113:Opd:=.t 113
def t114:Opd:=.t 114
def t119:Opd:=.t 119
def t120:Opd:=.t 120
def ylS:TCode:=(.seq (.seq (oQ [M 102 18,O 103 (.bin .geq t102 (.c (.int .u64 (4294967296)))),M 104 103,⟨some 105,(.mv t18),some (104,false)⟩,⟨some 106,(.mv t10),some (104,false)⟩,⟨some 107,(.bin .mul t105 t106),some (104,false)⟩,⟨some 108,(.mv t16),some (104,false)⟩,⟨some 109,(.bin .mul (.c (.int .u64 (4294967296))) t108),some (104,false)⟩,⟨some 110,(.mv t14),some (104,false)⟩,⟨some 111,(.bin .add t109 t110),some (104,false)⟩,⟨some 112,(.bin .gtr t107 t111),some (104,false)⟩,O 113 (.pick t104 (.c (.bool true)) t112)] [102,103,104,105,106,107,108,109,110,111,112,120]) (.cond t113 .skip (.exit 2))) (.block 3 (.seq (oQ [M 114 18,O 115 (.bin .sub t114 (.c (.int .u64 (1)))),M 18 115] [113,114,115]) (.seq (oQ [M 116 16,M 117 9,oX 118 .add 116 117,M 16 118] [116,117,118]) (.seq (oQ [M 119 16,O 120 (.bin .geq t119 (.c (.int .u64 (4294967296))))] [119]) (.cond t120 (.exit 2) .skip))))))
def t121:Opd:=.t 121
def t125:Opd:=.t 125
def yOO:TFn:=⟨3,[.tmp 6,.tmp 7],(.seq (oQ [O 6 (.mv (.c (.int .u64 (0)))),O 7 (.mv (.c (.int .u64 (0))))] [6,7]) (.seq (.seq (oQ [M 19 2,O 20 (.bin .eql t19 (.c (.int .u64 (0))))] [19]) (.cond t20 (oQ [O 21 (.load false 1 (.g 0)),⟨none,.bad,none⟩] [20,21]) .skip)) (.seq (.seq (oQ [M 22 2,M 23 0,oX 24 .leq 22 23] [20,22,23]) (.cond t24 (oQ [O 25 (.load false 1 (.g 1)),⟨none,.bad,none⟩] [24,25]) .skip)) (.seq (.seq (oQ [M 26 0,O 27 (.bin .eql t26 (.c (.int .u64 (0))))] [24,26]) (.cond t27 (.seq (.ops [M 28 1,M 29 2,oX 30 .quo 28 29,M 31 1,M 32 2,oX 33 .rem 31 32,M 6 30,M 7 33] [] [(0,1),(0,3),(1,3),(2,3),(0,4),(1,4),(2,4),(3,4),(0,5),(1,5),(2,5),(3,6),(4,6),(5,6)] [0,1,2,27,28,29,30,31,32,33]) .ret) .skip)) (.seq (oQ [M 34 2,O 35 (.call (.f yfD) [t34]),O 36 (.conv .u64 t35),M 8 36] [27,34,35,36]) (.seq (oQ [M 37 2,M 38 8,oX 39 .shl 37 38,M 2 39] [37,38,39]) (.seq (oQ [M 40 2,O 41 (.bin .shr t40 (.c (.int .u64 (32)))),M 9 41] [40,41]) (.seq (oQ [M 42 2,O 43 (.bin .and t42 (.c (.int .u64 (4294967295)))),M 10 43] [42,43]) (.seq (oQ [M 44 0,M 45 8,oX 46 .shl 44 45,M 47 1,M 48 8,O 49 (.bin .sub (.c (.int .u64 (64))) t48),oX 50 .shr 47 49,oX 51 .or 46 50,M 11 51] [0,44,45,46,47,48,49,50,51]) (.seq (oQ [M 52 1,M 53 8,oX 54 .shl 52 53,M 12 54] [1,52,53,54]) (.seq (oQ [M 55 12,O 56 (.bin .shr t55 (.c (.int .u64 (32)))),M 13 56] [55,56]) (.seq (oQ [M 57 12,O 58 (.bin .and t57 (.c (.int .u64 (4294967295)))),M 14 58] [12,57,58]) (.seq (oQ [M 59 11,M 60 9,oX 61 .quo 59 60,M 15 61] [59,60,61]) (.seq (oQ [M 62 11,M 63 15,M 64 9,oX 65 .mul 63 64,oX 66 .sub 62 65,M 16 66] [62,63,64,65,66]) (.seq (.block 0 (.loop 60530100 ylR)) (.seq (oQ [M 86 11,O 87 (.bin .mul t86 (.c (.int .u64 (4294967296)))),M 88 13,oX 89 .add 87 88,M 90 15,M 91 2,oX 92 .mul 90 91,oX 93 .sub 89 92,M 17 93] [11,13,16,78,85,86,87,88,89,90,91,92,93]) (.seq (oQ [M 94 17,M 95 9,oX 96 .quo 94 95,M 18 96] [94,95,96]) (.seq (oQ [M 97 17,M 98 18,M 99 9,oX 100 .mul 98 99,oX 101 .sub 97 100,M 16 101] [97,98,99,100,101]) (.seq (.block 2 (.loop 60530101 ylS)) (.seq (oQ [M 121 15,O 122 (.bin .mul t121 (.c (.int .u64 (4294967296)))),M 123 18,oX 124 .add 122 123,M 125 17,O 126 (.bin .mul t125 (.c (.int .u64 (4294967296)))),M 127 14,oX 128 .add 126 127,M 129 18,M 130 2,oX 131 .mul 129 130,oX 132 .sub 128 131,M 133 8,oX 134 .shr 132 133,M 6 124,M 7 134] [2,8,9,10,14,15,16,17,18,113,120,121,122,123,124,125,126,127,128,129,130,131,132,133,134]) .ret))))))))))))))))))))⟩
def yOP:TFn:=⟨3,[.tmp 6],(.seq (oQ [O 6 (.mv (.c (.int .u64 (0))))] [6]) (.seq (oQ [M 10 0,M 11 2,oX 12 .rem 10 11,M 13 1,M 14 2,O 15 (.call (.f ylO) [t12,t13,t14]),M 9 15,O 16 (.ext t9 0),O 17 (.ext t9 1),M 7 16,M 8 17] [0,1,2,7,9,10,11,12,13,14,15,16,17]) (.seq (oQ [M 18 8,M 6 18] [8,18]) .ret)))⟩
def t66:Opd:=.t 66
def t88:Opd:=.t 88
def t99:Opd:=.t 99
def t101:Opd:=.t 101
def t103:Opd:=.t 103
def t116:Opd:=.t 116
def t117:Opd:=.t 117
def t118:Opd:=.t 118
def t122:Opd:=.t 122
def t123:Opd:=.t 123
def t124:Opd:=.t 124
def t129:Opd:=.t 129
def t130:Opd:=.t 130
def t131:Opd:=.t 131
def t132:Opd:=.t 132
def t133:Opd:=.t 133
def t134:Opd:=.t 134
def t138:Opd:=.t 138
def t140:Opd:=.t 140
def t143:Opd:=.t 143
def t145:Opd:=.t 145
def t148:Opd:=.t 148
def t152:Opd:=.t 152
def t153:Opd:=.t 153
def t154:Opd:=.t 154
def t155:Opd:=.t 155
def t156:Opd:=.t 156
def t157:Opd:=.t 157
def t158:Opd:=.t 158
def t159:Opd:=.t 159
def yKb:TFn:=⟨2,[.cell 4 true 2,.tmp 5],(.seq (oQ [O 2 (.boxL t0),O 3 (.boxL t1),O 4 (.allocL (.agg [(.int .i64 (0)),(.int .i64 (0))])),O 5 (.mv (I 0))] [0,1,5]) (.seq (.seq (oQ [oT 21 2 2,oT 22 2 3,O 23 (.call (.f ycx) [t21,t22]),M 6 23] [21,22,23]) (.seq (oQ [M 24 6,O 25 (.bin .neq t24 (I 0))] [24]) (.cond t25 (.seq (oQ [O 26 (.build [(.int .i64 (0)),(.int .i64 (0))] []),M 27 6,⟨none,(.store 2 t4 t26),none⟩,M 5 27] [2,3,6,25,26,27]) .ret) .skip))) (.seq (.ops [O 28 (.fad 1 t2),oF 29 1 28,O 30 (.conv .u64 t29),O 31 (.fad 1 t3),oF 32 1 31,O 33 (.conv .u64 t32),O 34 (.call (.f ydA) [t30,t33]),M 7 34] [⟨1,(.agg [.i .i64,.i .i64]),0⟩,⟨4,(.agg [.i .i64,.i .i64]),0⟩] [] [6,25,28,29,30,31,32,33,34]) (.seq (.ops [O 36 (.fad 0 t2),oF 37 1 36,O 38 (.call (.f ybH) [t37]),O 39 (.fad 1 t3),oF 40 1 39,O 41 (.conv .u64 t40),M 42 7,oX 43 .quo 41 42,O 44 (.call (.f yfs) [t38,t43]),M 35 44,O 45 (.ext t35 0),O 46 (.ext t35 1),M 8 45,M 9 46] [⟨1,(.agg [.i .i64,.i .i64]),0⟩,⟨4,(.agg [.i .i64,.i .i64]),0⟩] [(0,3),(1,3),(2,3),(0,4),(1,4),(2,4),(0,5),(1,5),(2,5),(0,6),(1,6),(2,6),(3,6),(4,6),(5,6),(0,7),(1,7),(2,7),(10,11),(11,12)] [35,36,37,38,39,40,41,42,43,44,45,46]) (.seq (.ops [O 48 (.fad 0 t3),oF 49 1 48,O 50 (.call (.f ybH) [t49]),O 51 (.fad 1 t2),oF 52 1 51,O 53 (.conv .u64 t52),M 54 7,oX 55 .quo 53 54,O 56 (.call (.f yfs) [t50,t55]),M 47 56,O 57 (.ext t47 0),O 58 (.ext t47 1),M 10 57,M 11 58] [⟨1,(.agg [.i .i64,.i .i64]),0⟩,⟨4,(.agg [.i .i64,.i .i64]),0⟩] [(0,3),(1,3),(2,3),(0,4),(1,4),(2,4),(0,5),(1,5),(2,5),(0,6),(1,6),(2,6),(3,6),(4,6),(5,6),(0,7),(1,7),(2,7),(10,11),(11,12)] [47,48,49,50,51,52,53,54,55,56,57,58]) (.seq (.ops [O 59 (.fad 0 t2),oF 60 1 59,O 61 (.bin .lss t60 (I 0)),M 12 61] [⟨1,(.agg [.i .i64,.i .i64]),0⟩] [] [59,60,61]) (.seq (oQ [O 13 (.mv (.c (.int .u64 (0)))),O 14 (.mv (.c (.int .u64 (0)))),O 15 (.mv (.c (.int .u64 (0))))] [13,14,15]) (.seq (.seq (.ops [O 62 (.fad 0 t2),oF 63 1 62,O 64 (.bin .lss t63 (I 0)),O 65 (.fad 0 t3),oF 66 1 65,O 67 (.bin .lss t66 (I 0)),O 68 (.eqB false t64 t67)] [⟨1,(.agg [.i .i64,.i .i64]),0⟩,⟨4,(.agg [.i .i64,.i .i64]),0⟩] [] [62,63,64,65,66,67]) (.cond t68 (.seq (oQ [M 70 9,M 71 11,O 72 (.call (.f yko) [t70,t71,(.c (.int .u64 (0)))]),M 69 72,O 73 (.ext t69 0),O 74 (.ext t69 1),M 14 73,M 15 74] [9,11,68,69,70,71,72,73,74]) (oQ [M 76 8,M 77 10,M 78 15,O 79 (.call (.f yko) [t76,t77,t78]),M 75 79,O 80 (.ext t75 0),O 81 (.ext t75 1),M 13 80] [8,10,15,75,76,77,78,79,80,81])) (.seq (.seq (oQ [M 82 8,M 83 10,oX 84 .lss 82 83,M 85 84,⟨some 86,(.mv t8),some (85,false)⟩,⟨some 87,(.mv t10),some (85,false)⟩,⟨some 88,(.bin .eql t86 t87),some (85,false)⟩,⟨some 89,(.mv t88),some (85,false)⟩,⟨some 90,(.mv t9),some (89,true)⟩,⟨some 91,(.mv t11),some (89,true)⟩,⟨some 92,(.bin .lss t90 t91),some (89,true)⟩,⟨some 93,(.pick t89 t92 (.c (.bool false))),some (85,false)⟩,O 94 (.pick t85 (.c (.bool true)) t93)] [68,82,83,84,85,86,87,88,89,90,91,92,93]) (.cond t94 (.seq (oQ [M 95 10,M 96 11,M 97 8,M 98 9,M 8 95,M 9 96,M 10 97,M 11 98] [94,95,96,97,98]) (oQ [M 99 12,O 100 (.un .not t99),M 12 100] [99,100])) .skip)) (.seq (oQ [M 102 9,M 103 11,O 104 (.call (.f ykp) [t102,t103,(.c (.int .u64 (0)))]),M 101 104,O 105 (.ext t101 0),O 106 (.ext t101 1),M 14 105,M 15 106] [9,11,94,101,102,103,104,105,106]) (oQ [M 108 8,M 109 10,M 110 15,O 111 (.call (.f ykp) [t108,t109,t110]),M 107 111,O 112 (.ext t107 0),O 113 (.ext t107 1),M 13 112] [8,10,15,107,108,109,110,111,112,113]))))) (.seq (.seq (oQ [M 114 13,O 115 (.bin .eql t114 (.c (.int .u64 (0)))),M 116 115,⟨some 117,(.mv t14),some (116,true)⟩,⟨some 118,(.bin .eql t117 (.c (.int .u64 (0)))),some (116,true)⟩,O 119 (.pick t116 t118 (.c (.bool false)))] [114,115,116,117,118]) (.cond t119 (.seq (oQ [O 120 (.build [(.int .i64 (0)),(.int .i64 (0))] [(1,1,(I 1))]),⟨none,(.store 2 t4 t120),none⟩,O 5 (.mv (I 0))] [2,3,7,12,13,14,119,120]) .ret) .skip)) (.seq (oQ [M 121 13,M 122 14,M 123 7,O 124 (.call (.f yrA) [t121,t122,t123]),M 125 7,O 126 (.call (.f ydA) [t124,t125]),M 16 126] [119,121,122,123,124,125,126]) (.seq (.seq (oQ [M 127 13,M 128 16,oX 129 .geq 127 128] [127,128]) (.cond t129 (.seq (oQ [O 130 (.build [(.int .i64 (0)),(.int .i64 (0))] []),⟨none,(.store 2 t4 t130),none⟩,O 5 (.mv (I 16))] [2,3,7,12,13,14,16,129,130]) .ret) .skip)) (.seq (oQ [M 132 13,M 133 14,M 134 16,O 135 (.call (.f ylO) [t132,t133,t134]),M 131 135,O 136 (.ext t131 0),O 137 (.ext t131 1),M 17 136,M 18 137] [13,14,18,129,131,132,133,134,135,136,137]) (.seq (.ops [O 139 (.fad 1 t2),oF 140 1 139,O 141 (.conv .u64 t140),M 142 7,oX 143 .quo 141 142,O 144 (.fad 1 t3),oF 145 1 144,O 146 (.conv .u64 t145),M 147 16,oX 148 .quo 146 147,O 149 (.call (.f yfs) [t143,t148]),M 138 149,O 150 (.ext t138 0),O 151 (.ext t138 1),M 19 150,M 20 151] [⟨1,(.agg [.i .i64,.i .i64]),0⟩,⟨6,(.agg [.i .i64,.i .i64]),0⟩] [(0,3),(1,3),(2,3),(0,5),(1,5),(2,5),(3,5),(4,5),(0,6),(1,6),(2,6),(3,6),(4,6),(0,7),(1,7),(2,7),(3,7),(4,7),(0,8),(1,8),(2,8),(3,8),(4,8),(5,8),(6,8),(7,8),(0,9),(1,9),(2,9),(3,9),(4,9),(12,13),(13,14)] [2,3,7,16,138,139,140,141,142,143,144,145,146,147,148,149,150,151]) (.seq (.seq (oQ [M 152 19,O 153 (.bin .gtr t152 (.c (.int .u64 (0))))] [19,152]) (.cond t153 (.seq (oQ [O 154 (.build [(.int .i64 (0)),(.int .i64 (0))] []),⟨none,(.store 2 t4 t154),none⟩,O 5 (.mv (I 16))] [12,17,20,153,154]) .ret) .skip)) (.seq (oQ [M 155 12,M 156 17,M 157 20,O 158 (.call (.f ydS) [t155,t156,t157]),O 159 (.ext t158 0),O 160 (.ext t158 1),⟨none,(.store 2 t4 t159),none⟩,M 5 160] [12,17,20,153,155,156,157,158,159,160]) .ret)))))))))))))))⟩
def yKc:TFn:=⟨2,[.cell 4 true 2,.tmp 5],(.seq (oQ [O 2 (.boxL t0),O 3 (.boxL t1),O 4 (.allocL (.agg [(.int .i64 (0)),(.int .i64 (0))])),O 5 (.mv (I 0))] [0,1,5]) (.seq (.seq (oQ [oT 7 2 2,oT 8 2 3,O 9 (.call (.f ycx) [t7,t8]),M 6 9] [7,8,9]) (.seq (oQ [M 10 6,O 11 (.bin .neq t10 (I 0))] [10]) (.cond t11 (.seq (oQ [O 12 (.build [(.int .i64 (0)),(.int .i64 (0))] []),M 13 6,⟨none,(.store 2 t4 t12),none⟩,M 5 13] [2,3,6,11,12,13]) .ret) .skip))) (.seq (.ops [O 14 (.fad 0 t3),oF 15 1 14,O 16 (.un .neg t15),O 17 (.fad 0 t3),⟨none,(.store 1 t17 t16),none⟩] [⟨1,(.agg [.i .i64,.i .i64]),0⟩,⟨4,(.agg [.i .i64,.i .i64]),0⟩] [] [6,11,14,15,16,17]) (.seq (oQ [oT 18 2 2,oT 19 2 3,O 20 (.call (.f yde) [t18,t19]),O 21 (.ext t20 0),O 22 (.ext t20 1),⟨none,(.store 2 t4 t21),none⟩,M 5 22] [2,3,18,19,20,21,22]) .ret))))⟩
def t65:Opd:=.t 65
def yKd:TFn:=⟨2,[.cell 4 true 2,.tmp 5],(.seq (oQ [O 2 (.boxL t0),O 3 (.boxL t1),O 4 (.allocL (.agg [(.int .i64 (0)),(.int .i64 (0))])),O 5 (.mv (I 0))] [0,1,5]) (.seq (.seq (oQ [oT 17 2 2,oT 18 2 3,O 19 (.call (.f ycx) [t17,t18]),M 6 19] [17,18,19]) (.seq (oQ [M 20 6,O 21 (.bin .neq t20 (I 0))] [20]) (.cond t21 (.seq (oQ [O 22 (.build [(.int .i64 (0)),(.int .i64 (0))] []),M 23 6,⟨none,(.store 2 t4 t22),none⟩,M 5 23] [2,3,6,21,22,23]) .ret) .skip))) (.seq (.ops [O 24 (.fad 0 t2),oF 25 1 24,O 26 (.call (.f ybH) [t25]),O 27 (.fad 1 t2),oF 28 1 27,O 29 (.conv .u64 t28),O 30 (.fad 0 t3),oF 31 1 30,O 32 (.call (.f ybH) [t31]),O 33 (.fad 1 t3),oF 34 1 33,O 35 (.conv .u64 t34),M 7 26,M 8 29,M 9 32,M 10 35] [⟨1,(.agg [.i .i64,.i .i64]),0⟩,⟨4,(.agg [.i .i64,.i .i64]),0⟩,⟨7,(.agg [.i .i64,.i .i64]),0⟩,⟨10,(.agg [.i .i64,.i .i64]),0⟩] [(0,3),(1,3),(2,3),(0,4),(1,4),(2,4),(0,5),(1,5),(2,5),(0,6),(1,6),(2,6),(3,6),(4,6),(5,6),(0,7),(1,7),(2,7),(3,7),(4,7),(5,7),(3,8),(4,8),(5,8),(0,9),(1,9),(2,9),(3,9),(4,9),(5,9),(6,9),(7,9),(8,9),(0,10),(1,10),(2,10),(3,10),(4,10),(5,10),(6,10),(7,10),(8,10),(0,11),(1,11),(2,11),(3,11),(4,11),(5,11),(6,11),(7,11),(8,11),(3,12),(4,12),(5,12),(9,12),(10,12),(11,12),(9,13),(10,13),(11,13),(9,14),(10,14),(11,14)] [6,21,24,25,26,27,28,29,30,31,32,33,34,35]) (.seq (oQ [M 36 7,M 37 10,O 38 (.call (.f ydA) [t36,t37]),M 39 9,M 40 8,O 41 (.call (.f ydA) [t39,t40]),M 11 38,M 12 41] [36,37,38,39,40,41]) (.seq (.ops [M 43 7,M 44 11,oX 45 .quo 43 44,M 46 9,M 47 12,oX 48 .quo 46 47,O 49 (.call (.f yfs) [t45,t48]),M 42 49,O 50 (.ext t42 0),O 51 (.ext t42 1),M 13 50,M 14 51] [] [(0,1),(0,3),(1,3),(2,3),(0,4),(1,4),(2,4),(3,4),(0,5),(1,5),(2,5),(8,9),(9,10)] [7,9,42,43,44,45,46,47,48,49,50,51]) (.seq (.ops [M 53 8,M 54 12,oX 55 .quo 53 54,M 56 10,M 57 11,oX 58 .quo 56 57,O 59 (.call (.f yfs) [t55,t58]),M 52 59,O 60 (.ext t52 0),O 61 (.ext t52 1),M 15 60,M 16 61] [] [(0,1),(0,3),(1,3),(2,3),(0,4),(1,4),(2,4),(3,4),(0,5),(1,5),(2,5),(8,9),(9,10)] [8,10,11,12,52,53,54,55,56,57,58,59,60,61]) (.seq (.seq (oQ [M 62 13,M 63 15,oX 64 .add 62 63,O 65 (.bin .gtr t64 (.c (.int .u64 (0))))] [13,15,62,63,64]) (.cond t65 (.seq (oQ [O 66 (.build [(.int .i64 (0)),(.int .i64 (0))] []),⟨none,(.store 2 t4 t66),none⟩,O 5 (.mv (I 16))] [2,3,14,16,65,66]) .ret) .skip)) (.seq (.ops [M 67 14,O 68 (.bin .gtr t67 (.c (.int .u64 (0)))),M 69 68,⟨some 70,(.fad 0 t2),some (69,true)⟩,⟨some 71,(.load false 1 t70),some (69,true)⟩,⟨some 72,(.bin .lss t71 (I 0)),some (69,true)⟩,⟨some 73,(.fad 0 t3),some (69,true)⟩,⟨some 74,(.load false 1 t73),some (69,true)⟩,⟨some 75,(.bin .lss t74 (I 0)),some (69,true)⟩,⟨some 76,(.eqB true t72 t75),some (69,true)⟩,O 77 (.pick t69 t76 (.c (.bool false))),M 78 14,M 79 16,O 80 (.call (.f ydS) [t77,t78,t79]),O 81 (.ext t80 0),O 82 (.ext t80 1),⟨none,(.store 2 t4 t81),none⟩,M 5 82] [⟨4,(.agg [.i .i64,.i .i64]),0⟩,⟨7,(.agg [.i .i64,.i .i64]),0⟩] [] [2,3,14,16,65,67,68,69,70,71,72,73,74,75,76,77,78,79,80,81,82]) .ret))))))))⟩
def yKe:TFn:=⟨2,[.cell 4 true 2,.tmp 5],(.seq (oQ [O 2 (.boxL t0),O 3 (.boxL t1),O 4 (.allocL (.agg [(.int .i64 (0)),(.int .i64 (0))])),O 5 (.mv (I 0))] [0,1,5]) (.seq (.seq (oQ [oT 7 2 2,oT 8 2 3,O 9 (.call (.f ycx) [t7,t8]),M 6 9] [7,8,9]) (.seq (oQ [M 10 6,O 11 (.bin .neq t10 (I 0))] [10]) (.cond t11 (.seq (oQ [O 12 (.build [(.int .i64 (0)),(.int .i64 (0))] []),M 13 6,⟨none,(.store 2 t4 t12),none⟩,M 5 13] [2,3,6,11,12,13]) .ret) .skip))) (.seq (.block 0 (.seq (.ops [O 15 (.fad 0 t3),oF 16 1 15,O 17 (.bin .eql t16 (I 0)),M 14 17] [⟨1,(.agg [.i .i64,.i .i64]),0⟩] [] [6,11,15,16,17]) (.cond t14 (.seq (oQ [O 18 (.build [(.int .i64 (0)),(.int .i64 (0))] []),⟨none,(.store 2 t4 t18),none⟩,O 5 (.mv (I 18))] [2,3,14,18]) .ret) (.seq (.ops [O 20 (.fad 0 t3),oF 21 1 20,O 22 (.bin .lss t21 (I 0)),M 19 22] [⟨1,(.agg [.i .i64,.i .i64]),0⟩] [] [14,20,21,22]) (.cond t19 (.seq (.ops [oT 23 2 2,O 24 (.fad 1 t3),oF 25 1 24,O 26 (.un .neg t25),O 27 (.fad 0 t3),oF 28 1 27,O 29 (.un .neg t28),O 30 (.build [(.int .i64 (0)),(.int .i64 (0))] [(0,1,t26),(1,1,t29)]),O 31 (.call (.f yd4) [t23,t30]),O 32 (.ext t31 0),O 33 (.ext t31 1),⟨none,(.store 2 t4 t32),none⟩,M 5 33] [⟨2,(.agg [.i .i64,.i .i64]),0⟩,⟨5,(.agg [.i .i64,.i .i64]),0⟩] [] [2,3,19,23,24,25,26,27,28,29,30,31,32,33]) .ret) .skip))))) (.seq (.ops [oT 34 2 2,O 35 (.fad 1 t3),oF 36 1 35,O 37 (.fad 0 t3),oF 38 1 37,O 39 (.build [(.int .i64 (0)),(.int .i64 (0))] [(0,1,t36),(1,1,t38)]),O 40 (.call (.f yd4) [t34,t39]),O 41 (.ext t40 0),O 42 (.ext t40 1),⟨none,(.store 2 t4 t41),none⟩,M 5 42] [⟨2,(.agg [.i .i64,.i .i64]),0⟩,⟨4,(.agg [.i .i64,.i .i64]),0⟩] [] [2,3,19,34,35,36,37,38,39,40,41,42]) .ret))))⟩
def ywB:TFn:=⟨7,[.tmp 11],(.seq (oQ [O 7 (.boxL t0),O 8 (.boxL t1),O 9 (.boxL t2),O 11 (.mv (.c (.bool false)))] [0,1,2,8,11]) (.seq (.seq (oQ [M 16 3,O 17 (.bin .eql t16 (I 0))] [16]) (.cond t17 (.seq (oQ [O 11 (.mv (.c (.bool false)))] [3,4,5,6,7,9,17]) .ret) .skip)) (.seq (.seq (oQ [oT 18 2 9,oT 19 2 4,O 20 (.call (.f ydd) [t18,t19])] [17,18,19]) (.cond t20 (.seq (oQ [oT 22 2 4,oT 23 2 9,O 24 (.call (.f ydC) [t22,t23]),M 21 24,O 25 (.ext t21 0),O 26 (.ext t21 1),O 12 (.allocL (.agg [(.int .i64 (0)),(.int .i64 (0))])),⟨none,(.store 2 t12 t25),none⟩,M 13 26] [3,6,7,9,20,21,22,23,24,25,26]) (.seq (oQ [oT 27 2 12,⟨none,(.store 2 t4 t27),none⟩,⟨none,(.store 1 t5 (I 6)),none⟩] [4,12,27]) (.seq (.seq (oQ [M 28 13,O 29 (.bin .neq t28 (I 0))] [28]) (.cond t29 (oQ [M 30 13,⟨none,(.store 1 t5 t30),none⟩] [5,29,30]) .skip)) (.seq (oQ [M 31 13,O 32 (.bin .neq t31 (I 0)),M 11 32] [5,13,29,31,32]) .ret)))) .skip)) (.seq (.ops [oT 34 2 4,M 35 3,O 36 (.call (.f ycm) [t35]),O 37 (.call (.f yd5) [t34,t36]),M 33 37,O 38 (.ext t33 0),O 39 (.ext t33 1),O 14 (.allocL (.agg [(.int .i64 (0)),(.int .i64 (0))])),⟨none,(.store 2 t14 t38),none⟩,M 15 39] [] [(0,1),(0,2),(5,6),(0,7),(1,7),(2,7),(3,7),(4,7),(5,7),(6,7),(6,8)] [3,4,9,20,33,34,35,36,37,38,39]) (.seq (.seq (oQ [M 40 15,O 41 (.bin .eql t40 (I 0))] [40]) (.cond t41 (oQ [oT 43 2 7,oT 44 2 14,O 45 (.call (.f yde) [t43,t44]),M 42 45,O 46 (.ext t42 0),O 47 (.ext t42 1),⟨none,(.store 2 t6 t46),none⟩,M 15 47] [6,7,14,41,42,43,44,45,46,47]) .skip)) (.seq (oQ [M 48 15,⟨none,(.store 1 t5 t48),none⟩] [5,6,7,14,15,41,48]) (.seq (oQ [O 11 (.mv (.c (.bool true)))] []) .ret)))))))⟩
def ypf:TCode:=(.seq (oQ [oX 17 .lss 16 15] []) (.seq (.cond t17 .skip (.exit 0)) (.seq (.block 1 (.seq (.ops [M 18 16,O 19 (.iad 1 t14 t16),oF 20 1 19,M 7 18,M 8 20] [⟨1,(.one (.i .i64)),0⟩,⟨2,(.one (.i .i64)),0⟩] [] [17,18,19,20]) (.seq (.ops [O 21 (.fad 1 t3),oF 22 1 21,M 23 7,O 24 (.bin .add t23 (I 1)),O 25 (.iad 1 t22 t24),oF 26 1 25,O 27 (.call (.f ycm) [t26]),O 9 (.allocL (.agg [(.int .i64 (0)),(.int .i64 (0))])),⟨none,(.store 2 t9 t27),none⟩] [⟨1,(.agg [.i .i64,.d,.d]),0⟩,⟨4,(.one (.i .i64)),0⟩,⟨5,(.one (.i .i64)),0⟩] [] [7,21,22,23,24,25,26,27]) (.seq (.seq (oQ [oT 28 2 4,oT 29 2 9,O 30 (.call (.f ydd) [t28,t29]),O 31 (.un .not t30)] [28,29,30]) (.cond t31 (.exit 1) .skip)) (.seq (oQ [O 32 (.call (.f ycm) [(I 0)]),O 10 (.allocL (.agg [(.int .i64 (0)),(.int .i64 (0))])),⟨none,(.store 2 t10 t32),none⟩] [31,32]) (.seq (.seq (oQ [M 33 8,O 34 (.bin .gtr t33 (I 0))] [33]) (.cond t34 (.seq (oQ [oT 36 2 9,oT 37 2 4,O 38 (.call (.f ydC) [t36,t37]),M 35 38,O 39 (.ext t35 0),O 40 (.ext t35 1),O 11 (.allocL (.agg [(.int .i64 (0)),(.int .i64 (0))])),⟨none,(.store 2 t11 t39),none⟩,M 12 40] [34,35,36,37,38,39,40]) (.seq (.seq (oQ [M 41 12,O 42 (.bin .neq t41 (I 0))] [41]) (.cond t42 (.seq (oQ [M 43 12,M 6 43] [2,3,4,8,9,10,11,12,14,15,16,42,43]) .ret) .skip)) (.seq (.ops [oT 45 2 11,M 46 8,O 47 (.call (.f ycm) [t46]),O 48 (.call (.f yd4) [t45,t47]),M 44 48,O 49 (.ext t44 0),O 50 (.ext t44 1),⟨none,(.store 2 t10 t49),none⟩,M 12 50] [] [(0,1),(0,2),(5,6),(6,7)] [11,42,44,45,46,47,48,49,50]) (.seq (oQ [M 51 12,O 52 (.bin .neq t51 (I 0))] [51]) (.cond t52 (.seq (oQ [M 53 12,M 6 53] [2,3,4,8,9,10,12,14,15,16,52,53]) .ret) .skip))))) .skip)) (.seq (.seq (oQ [M 54 2,oT 55 2 4,oT 56 2 9,oT 57 2 10,M 58 8,O 59 (.call t54 [t55,t56,t57,t58])] [8,10,12,34,52,54,55,56,57,58]) (.cond t59 (.seq (oQ [O 6 (.mv (I 0))] [2,3,4,9,14,15,16,59]) .ret) .skip)) (oQ [oT 60 2 9,⟨none,(.store 2 t4 t60),none⟩] [9,59,60])))))))) (oQ [O 61 (.bin .add t16 (I 1)),M 16 61] [8,9,31,61]))))
def yKf:TFn:=⟨3,[.tmp 6],(.seq (oQ [O 3 (.boxL t0),O 4 (.boxL t1),O 6 (.mv (I 0))] [0,1,6]) (.seq (.seq (.ops [O 13 (.fad 2 t3),oF 14 1 13,O 15 (.len t14),O 16 (.mv (I 0))] [⟨1,(.agg [.i .i64,.d,.d]),0⟩] [] [13]) (.block 0 (.loop 41613500 ypf))) (.seq (oQ [O 6 (.mv (I 0))] [2,3,4,14,15,16,17]) .ret)))⟩
def yKg:TFn:=⟨3,[.cell 6 true 2,.tmp 7],(.seq (oQ [O 3 (.boxL t0),O 4 (.boxL t1),O 5 (.boxH true 2 t2),O 6 (.allocL (.agg [(.int .i64 (0)),(.int .i64 (0))])),O 7 (.mv (I 0))] [0,1,2,7]) (.seq (.seq (oQ [oT 12 3 3,O 13 (.call (.f ycb) [t12]),M 8 13] [12,13]) (.seq (oQ [M 14 8,O 15 (.bin .neq t14 (I 0))] [14]) (.cond t15 (.seq (oQ [O 16 (.build [(.int .i64 (0)),(.int .i64 (0))] []),M 17 8,⟨none,(.store 2 t6 t16),none⟩,M 7 17] [3,4,5,8,15,16,17]) .ret) .skip))) (.seq (.seq (.ops [oT 18 3 3,oT 19 2 4,O 20 (.call (.f yfj) [t18,t19]),O 21 (.un .not t20),M 22 21,⟨some 23,(.load true 2 t5),some (22,false)⟩,⟨some 24,(.call (.f ydm) [t23]),some (22,false)⟩,⟨some 25,(.bin .neq t24 (I 0)),some (22,false)⟩,O 26 (.pick t22 (.c (.bool true)) t25),M 27 26,⟨some 28,(.fad 0 t5),some (27,false)⟩,⟨some 29,(.load false 1 t28),some (27,false)⟩,⟨some 30,(.bin .lss t29 (I 0)),some (27,false)⟩,O 31 (.pick t27 (.c (.bool true)) t30)] [⟨5,(.agg [.i .i64,.i .i64]),0⟩,⟨11,(.agg [.i .i64,.i .i64]),0⟩] [] [8,15,18,19,20,21,22,23,24,25,26,27,28,29,30]) (.cond t31 (.seq (oQ [O 32 (.build [(.int .i64 (0)),(.int .i64 (0))] []),⟨none,(.store 2 t6 t32),none⟩,O 7 (.mv (I 2))] [3,4,5,31,32]) .ret) .skip)) (.seq (.seq (.ops [O 33 (.fad 0 t5),oF 34 1 33,O 35 (.bin .eql t34 (I 0))] [⟨1,(.agg [.i .i64,.i .i64]),0⟩] [] [31,33,34]) (.cond t35 (.seq (oQ [oT 36 2 4,⟨none,(.store 2 t6 t36),none⟩,O 7 (.mv (I 0))] [3,4,5,35,36]) .ret) .skip)) (.seq (oQ [O 9 (.allocH true 2 (.agg [(.int .i64 (0)),(.int .i64 (0))]))] [35]) (.seq (.ops [O 10 (.allocH true 1 (.int .i64 (0))),⟨none,(.store 1 t10 (I 6)),none⟩] [⟨1,(.one (.i .i64)),0⟩] [] []) (.seq (oQ [oT 37 3 3,oT 38 2 4,O 39 (.mkFn (.func ygi) [] [t5,t10,t9]),O 40 (.call (.f ytT) [t37,t38,t39]),M 11 40] [3,4,5,37,38,39,40]) (.seq (.seq (oQ [M 41 11,O 42 (.bin .neq t41 (I 0))] [41]) (.cond t42 (.ops [M 43 11,⟨none,(.store 1 t10 t43),none⟩] [⟨1,(.one (.i .i64)),0⟩] [] [11,42,43]) .skip)) (.seq (.seq (.ops [oF 44 1 10,O 45 (.bin .neq t44 (I 0))] [⟨0,(.one (.i .i64)),0⟩] [] [11,42,44]) (.cond t45 (.seq (.ops [O 46 (.build [(.int .i64 (0)),(.int .i64 (0))] []),oF 47 1 10,⟨none,(.store 2 t6 t46),none⟩,M 7 47] [⟨1,(.one (.i .i64)),0⟩] [(0,1),(1,2)] [9,10,45,46,47]) .ret) .skip)) (.seq (.ops [oT 48 2 9,⟨none,(.store 2 t6 t48),none⟩,O 7 (.mv (I 0))] [⟨0,(.agg [.i .i64,.i .i64]),0⟩] [] [9,10,45,48]) .ret))))))))))⟩
def yyZ:TFn:=⟨4,[.cell 8 true 2,.tmp 9],(.seq (oQ [O 4 (.boxL t0),O 6 (.boxL t2),O 7 (.boxL t3),O 8 (.allocL (.agg [(.int .i64 (0)),(.int .i64 (0))])),O 9 (.mv (I 0))] [0,2,3,9]) (.seq (.ops [O 10 (.fad 0 t4),O 11 (.fad 0 t10),oF 12 1 11,M 13 1,O 14 (.iad 3 t12 t13),oT 15 3 14,oT 16 2 6,oT 17 2 7,O 18 (.call (.f yii) [t15,t16,t17]),O 19 (.ext t18 0),O 20 (.ext t18 1),⟨none,(.store 2 t8 t19),none⟩,M 9 20] [⟨2,(.agg [.d,.d]),0⟩,⟨4,(.agg [.i .i64,.d,.d]),0⟩,⟨5,(.agg [.i .i64,.d,.d]),0⟩] [(0,3),(1,3),(2,3),(0,6),(1,6),(2,6),(3,6),(4,6),(5,6),(0,7),(1,7),(2,7),(3,7),(4,7),(5,7),(6,7),(9,10)] [1,4,6,7,10,11,12,13,14,15,16,17,18,19,20]) .ret))⟩
def yAR:TFn:=⟨2,[.tmp 4],(.seq (oQ [O 2 (.boxL t0),O 4 (.mv (.c (.bool false)))] [0,4]) (.seq (.ops [M 5 1,O 6 (.bin .geq t5 (I 0)),M 7 6,⟨some 8,(.mv t1),some (7,true)⟩,⟨some 9,(.fad 0 t2),some (7,true)⟩,⟨some 10,(.fad 0 t9),some (7,true)⟩,⟨some 11,(.load false 1 t10),some (7,true)⟩,⟨some 12,(.len t11),some (7,true)⟩,⟨some 13,(.bin .lss t8 t12),some (7,true)⟩,O 14 (.pick t7 t13 (.c (.bool false))),M 4 14] [⟨6,(.agg [.d,.d]),0⟩] [] [1,2,5,6,7,8,9,10,11,12,13,14]) .ret))⟩
def yAS:TFn:=⟨3,[.cell 6 true 2,.cell 7 true 2,.tmp 8],(.seq (oQ [O 3 (.boxL t0),O 4 (.boxL t1),O 6 (.allocL (.agg [.nils,.nils])),O 7 (.allocL (.agg [(.int .i64 (0)),(.int .i64 (0))])),O 8 (.mv (I 0))] [0,1,8]) (.seq (.seq (.ops [O 13 (.fad 0 t3),oT 14 2 13,O 15 (.call (.f ydz) [t14]),M 9 15] [⟨1,(.agg [.d,.d]),0⟩] [] [13,14,15]) (.seq (oQ [M 16 9,O 17 (.bin .neq t16 (I 0))] [16]) (.cond t17 (.seq (oQ [O 18 (.build [.nils,.nils] []),O 19 (.build [(.int .i64 (0)),(.int .i64 (0))] []),M 20 9,⟨none,(.store 2 t6 t18),none⟩,⟨none,(.store 2 t7 t19),none⟩,M 8 20] [2,3,4,9,17,18,19,20]) .ret) .skip))) (.seq (.seq (.ops [oT 21 2 3,O 22 (.fad 0 t4),oF 23 1 22,O 24 (.call (.f yei) [t21,t23]),O 25 (.un .not t24)] [⟨2,(.agg [.i .i64,.i .u8,.i .i64,.i .i64,.i .i64,.i .i64,.i .i64,.i .i64]),0⟩] [] [9,17,21,22,23,24]) (.cond t25 (.seq (oQ [O 26 (.build [.nils,.nils] []),O 27 (.build [(.int .i64 (0)),(.int .i64 (0))] []),⟨none,(.store 2 t6 t26),none⟩,⟨none,(.store 2 t7 t27),none⟩,O 8 (.mv (I 2))] [2,3,4,25,26,27]) .ret) .skip)) (.seq (.ops [M 29 2,O 30 (.fad 0 t4),oF 31 1 30,O 32 (.fad 2 t4),oT 33 2 32,O 34 (.fad 4 t4),oT 35 2 34,O 36 (.call t29 [t31,t33,t35]),M 28 36,O 37 (.ext t28 0),O 38 (.ext t28 1),O 10 (.allocL (.agg [(.int .i64 (0)),(.int .i64 (0))])),⟨none,(.store 2 t10 t37),none⟩,M 11 38] [⟨2,(.agg [.i .i64,.i .u8,.i .i64,.i .i64,.i .i64,.i .i64,.i .i64,.i .i64]),0⟩,⟨4,(.agg [.i .i64,.i .u8,.i .i64,.i .i64,.i .i64,.i .i64,.i .i64,.i .i64]),0⟩,⟨6,(.agg [.i .i64,.i .u8,.i .i64,.i .i64,.i .i64,.i .i64,.i .i64,.i .i64]),0⟩] [] [2,25,28,29,30,31,32,33,34,35,36,37,38]) (.seq (.seq (oQ [M 39 11,O 40 (.bin .neq t39 (I 0))] [39]) (.cond t40 (.seq (oQ [O 41 (.build [.nils,.nils] []),O 42 (.build [(.int .i64 (0)),(.int .i64 (0))] []),M 43 11,⟨none,(.store 2 t6 t41),none⟩,⟨none,(.store 2 t7 t42),none⟩,M 8 43] [3,4,10,11,40,41,42,43]) .ret) .skip)) (.seq (.seq (.ops [O 44 (.fad 0 t3),O 45 (.fad 1 t44),oF 46 1 45,O 47 (.len t46),O 48 (.bin .geq t47 (I 2000))] [⟨2,(.agg [.d,.d]),0⟩] [] [11,40,44,45,46,47]) (.cond t48 (.seq (oQ [O 49 (.build [.nils,.nils] []),O 50 (.build [(.int .i64 (0)),(.int .i64 (0))] []),⟨none,(.store 2 t6 t49),none⟩,⟨none,(.store 2 t7 t50),none⟩,O 8 (.mv (I 4))] [3,4,10,48,49,50]) .ret) .skip)) (.seq (.ops [oT 51 2 10,O 52 (.fad 6 t4),⟨none,(.store 2 t52 t51),none⟩] [⟨2,(.agg [.i .i64,.i .u8,.i .i64,.i .i64,.i .i64,.i .i64,.i .i64,.i .i64]),0⟩] [] [48,51,52]) (.seq (.ops [O 53 (.fad 0 t3),O 54 (.fad 1 t53),oF 55 1 54,O 56 (.len t55),O 57 (.bin .add t56 (I 1)),O 58 (.mkSl true 8 64 (.agg [(.int .i64 (0)),(.int .u8 (0)),(.int .i64 (0)),(.int .i64 (0)),(.int .i64 (0)),(.int .i64 (0)),(.int .i64 (0)),(.int .i64 (0))]) (I 0) t57),M 12 58] [⟨2,(.agg [.d,.d]),0⟩] [] [53,54,55,56,57,58]) (.seq (.ops [O 59 (.fad 0 t3),O 60 (.fad 0 t59),oF 61 1 60,O 62 (.call (.f yg5) [t61]),M 63 12,O 64 (.fad 0 t3),O 65 (.fad 1 t64),oF 66 1 65,O 67 (.app true 8 64 t63 t66),oT 68 8 4,O 69 (.buildD 8 (.agg [(.int .i64 (0)),(.int .u8 (0)),(.int .i64 (0)),(.int .i64 (0)),(.int .i64 (0)),(.int .i64 (0)),(.int .i64 (0)),(.int .i64 (0))]) 1 [(0,t68)]),O 70 (.app true 8 64 t67 t69),O 71 (.build [.nils,.nils] [(0,1,t62),(1,1,t70)]),oT 72 2 10,⟨none,(.store 2 t6 t71),none⟩,⟨none,(.store 2 t7 t72),none⟩,O 8 (.mv (I 0))] [⟨2,(.agg [.d,.d]),0⟩,⟨7,(.agg [.d,.d]),0⟩] [(0,4),(1,4),(2,4),(3,4),(0,5),(1,5),(2,5),(3,5),(4,5),(0,6),(1,6),(2,6),(3,6),(4,6),(0,7),(1,7),(2,7),(3,7),(4,7),(0,9),(1,9),(2,9),(3,9),(4,9),(5,9),(6,9),(7,9),(8,9),(0,10),(1,10),(2,10),(3,10),(4,10),(5,10),(6,10),(7,10),(8,10),(0,13),(1,13),(2,13),(3,13),(4,13),(5,13),(6,13),(7,13),(8,13),(9,13),(10,13),(11,13),(12,13),(13,14)] [3,4,10,12,59,60,61,62,63,64,65,66,67,68,69,70,71,72]) .ret)))))))))⟩
def yMi:TFn:=⟨4,[.cell 8 true 2,.cell 9 true 2,.tmp 10],(.seq (oQ [O 4 (.boxL t0),O 6 (.boxL t2),O 7 (.boxL t3),O 8 (.allocL (.agg [.nils,.nils])),O 9 (.allocL (.agg [(.int .i64 (0)),(.int .i64 (0))])),O 10 (.mv (I 0))] [0,2,3,10]) (.seq (oQ [oT 12 2 4,O 13 (.build [.nils,.nils] [(0,2,t12)]),O 11 (.allocL (.agg [.nils,.nils])),⟨none,(.store 2 t11 t13),none⟩] [4,12,13]) (.seq (oQ [oT 14 2 11,M 15 1,oT 16 2 6,oT 17 2 7,O 18 (.build [(.int .i64 (0)),(.int .u8 (0)),(.int .i64 (0)),(.int .i64 (0)),(.int .i64 (0)),(.int .i64 (0)),(.int .i64 (0)),(.int .i64 (0))] [(0,1,t15),(1,1,(.c (.int .u8 (2)))),(2,2,t16),(4,2,t17)]),oT 19 2 11,O 20 (.mkFn (.func ydT) [t19] []),O 21 (.call (.f ylP) [t14,t18,t20]),O 22 (.ext t21 0),O 23 (.ext t21 1),O 24 (.ext t21 2),⟨none,(.store 2 t8 t22),none⟩,⟨none,(.store 2 t9 t23),none⟩,M 10 24] [1,6,7,11,14,15,16,17,18,19,20,21,22,23,24]) .ret)))⟩
def yIl:TFn:=⟨2,[.tmp 4],(.seq (oQ [O 2 (.boxL t0),O 3 (.boxL t1),O 4 (.mv (.c (.bool false)))] [0,1,4]) (.seq (oQ [oT 8 2 2,oT 9 2 3,O 10 (.call (.f ycM) [t8,t9]),M 7 10,O 11 (.ext t7 0),O 12 (.ext t7 1),M 5 11,M 6 12] [2,3,6,7,8,9,10,11,12]) (.seq (oQ [M 13 5,O 14 (.bin .lss t13 (I 0)),M 4 14] [5,13,14]) .ret)))⟩
def ypg:TCode:=(.seq (oQ [oX 33 .lss 32 31] []) (.seq (.cond t33 .skip (.exit 0)) (.seq (.block 1 (.seq (oQ [M 34 32,M 8 34] [33,34]) (oQ [M 35 7,M 36 8,O 37 (.buildD 1 (.int .i64 (0)) 1 [(0,t36)]),O 38 (.app true 1 8 t35 t37),M 7 38] [8,35,36,37,38]))) (oQ [O 39 (.bin .add t32 (I 1)),M 32 39] [39]))))
def yj4:TCode:=(.seq (oQ [oX 52 .lss 51 50] []) (.seq (.cond t52 .skip (.exit 4)) (.seq (.block 5 (.seq (.ops [M 53 51,O 54 (.iad 1 t49 t51),oF 55 1 54,M 12 53,M 13 55] [⟨1,(.one (.i .i64)),0⟩,⟨2,(.one (.i .i64)),0⟩] [] [52,53,54,55]) (.seq (.ops [oT 57 2 6,M 58 13,oT 59 2 9,M 60 0,M 61 13,O 62 (.iad 3 t60 t61),oT 63 3 62,M 64 0,O 65 (.len t64),O 66 (.call (.f yf9) [t63,t65]),O 67 (.call (.f yoZ) [t57,t58,t59,t66]),M 56 67,O 68 (.ext t56 0),O 69 (.ext t56 1),O 70 (.ext t56 2),O 14 (.allocL (.agg [.nils,.nils])),O 15 (.allocL (.agg [(.int .i64 (0)),(.int .i64 (0))])),⟨none,(.store 2 t14 t68),none⟩,⟨none,(.store 2 t15 t69),none⟩,M 16 70] [⟨5,(.agg [.i .i64,.d,.d]),0⟩,⟨6,(.agg [.i .i64,.d,.d]),0⟩] [(0,1),(0,2),(1,2),(0,3),(1,3),(2,3),(0,4),(1,4),(2,4),(3,4),(0,5),(1,5),(2,5),(0,6),(1,6),(2,6),(0,7),(1,7),(2,7),(3,7),(4,7),(5,7),(6,7),(0,8),(1,8),(2,8),(3,8),(4,8),(5,8),(6,8),(0,9),(1,9),(2,9),(12,13),(12,14),(13,14),(0,15),(1,15),(2,15),(3,15),(4,15),(5,15),(6,15),(7,15),(8,15),(9,15),(10,15),(11,15),(12,15),(13,15),(14,15),(0,16),(1,16),(2,16),(3,16),(4,16),(5,16),(6,16),(7,16),(8,16),(9,16),(10,16),(11,16),(12,16),(13,16),(14,16),(15,16),(13,17),(14,17),(14,18)] [13,56,57,58,59,60,61,62,63,64,65,66,67,68,69,70]) (.seq (.seq (oQ [M 71 16,O 72 (.bin .neq t71 (I 0))] [71]) (.cond t72 (.seq (oQ [O 73 (.build [.nils] []),M 74 16,⟨none,(.store 1 t2 t73),none⟩,O 3 (.mv (.c .nils)),O 4 (.mv (.c .nils)),M 5 74] [0,6,7,9,10,11,12,14,15,16,49,50,51,72,73,74]) .ret) .skip)) (.seq (oQ [oT 75 2 14,⟨none,(.store 2 t6 t75),none⟩] [14,16,72,75]) (.seq (oQ [M 76 12,O 77 (.bin .eql t76 (I 0)),M 78 77,⟨some 79,(.load true 2 t15),some (78,false)⟩,⟨some 80,(.load true 2 t11),some (78,false)⟩,⟨some 81,(.call (.f yg6) [t79,t80]),some (78,false)⟩,O 82 (.pick t78 (.c (.bool true)) t81)] [76,77,78,79,80,81]) (.cond t82 (.ops [M 83 12,oT 84 2 15,M 10 83,⟨none,(.store 2 t11 t84),none⟩] [] [(0,1),(1,2)] [12,15,82,83,84]) .skip))))))) (oQ [O 85 (.bin .add t51 (I 1)),M 51 85] [12,15,82,85]))))
def t96:Opd:=.t 96
def t100:Opd:=.t 100
def ylT:TCode:=(.seq (.seq (oQ [M 45 7,O 46 (.len t45),O 47 (.bin .gtr t46 (I 1))] [45,46]) (.cond t47 .skip (.exit 2))) (.block 3 (.seq (oQ [O 48 (.build [(.int .i64 (0)),(.int .i64 (0))] []),O 11 (.allocL (.agg [(.int .i64 (0)),(.int .i64 (0))])),O 10 (.mv (I 0)),⟨none,(.store 2 t11 t48),none⟩] [47,48]) (.seq (.seq (oQ [M 49 7,O 50 (.len t49),O 51 (.mv (I 0))] []) (.block 4 (.loop 29600601 yj4))) (.seq (.ops [M 86 7,M 87 10,O 88 (.iad 1 t86 t87),oF 89 1 88,M 17 89] [⟨2,(.one (.i .i64)),0⟩,⟨3,(.one (.i .i64)),0⟩] [] [49,50,51,52,86,87,88,89]) (.seq (.ops [O 90 (.fad 0 t2),oF 91 1 90,M 92 17,oT 93 2 9,oT 94 2 11,O 95 (.build [(.int .i64 (0)),(.int .i64 (0)),(.int .i64 (0)),(.int .i64 (0))] [(0,2,t93),(2,2,t94)]),O 96 (.buildD 4 (.agg [(.int .i64 (0)),(.int .i64 (0)),(.int .i64 (0)),(.int .i64 (0))]) 1 [(0,t95)]),O 97 (.iad 1 t91 t92),⟨none,(.store 1 t97 t96),none⟩] [⟨1,(.agg [.d]),0⟩,⟨7,(.one (.d)),0⟩,⟨8,(.one (.d)),0⟩] [] [90,91,92,93,94,95,96,97]) (.seq (oQ [M 98 3,M 99 17,O 100 (.buildD 1 (.int .i64 (0)) 1 [(0,t99)]),O 101 (.app true 1 8 t98 t100),M 3 101] [17,98,99,100,101]) (.seq (.ops [M 102 7,M 103 10,O 104 (.slc 1 t102 none (some t103) none),M 105 7,M 106 10,O 107 (.bin .add t106 (I 1)),O 108 (.slc 1 t105 (some t107) none none),O 109 (.app true 1 8 t104 t108),M 7 109] [] [(0,1),(0,3),(1,3),(2,3),(0,4),(1,4),(2,4),(3,4),(0,5),(1,5),(2,5),(3,5),(0,6),(1,6),(2,6)] [10,102,103,104,105,106,107,108,109]) (oQ [oT 110 2 11,⟨none,(.store 2 t9 t110),none⟩] [11,110])))))))))
def t115:Opd:=.t 115
def t126:Opd:=.t 126
def t127:Opd:=.t 127
def yFA:TFn:=⟨1,[.cell 2 true 1,.tmp 3,.tmp 4,.tmp 5],(.seq (oQ [O 2 (.allocL (.agg [.nils])),O 3 (.mv (.c .nils)),O 4 (.mv (.c .nils)),O 5 (.mv (I 0))] [4,5]) (.seq (oQ [M 19 0,O 20 (.call (.f yoY) [t19]),M 18 20,O 21 (.ext t18 0),O 22 (.ext t18 1),O 6 (.allocL (.agg [.nils,.nils])),⟨none,(.store 2 t6 t21),none⟩,M 5 22] [18,19,20,21,22]) (.seq (.seq (oQ [M 23 5,O 24 (.bin .neq t23 (I 0))] [23]) (.cond t24 (.seq (oQ [O 25 (.build [.nils] []),M 26 5,⟨none,(.store 1 t2 t25),none⟩,O 3 (.mv (.c .nils)),O 4 (.mv (.c .nils)),M 5 26] [0,6,24,25,26]) .ret) .skip)) (.seq (oQ [M 27 0,O 28 (.len t27),O 29 (.mkSl true 1 8 (.int .i64 (0)) (I 0) t28),M 7 29] [5,24,27,28,29]) (.seq (.seq (oQ [M 30 0,O 31 (.len t30),O 32 (.mv (I 0))] [30]) (.block 0 (.loop 29600600 ypg))) (.seq (.ops [M 40 0,O 41 (.len t40),O 42 (.mkSl true 1 24 (.data []) t41 t41),O 43 (.fad 0 t2),⟨none,(.store 1 t43 t42),none⟩] [⟨4,(.agg [.d]),0⟩] [] [31,32,33,40,41,42,43]) (.seq (oQ [O 44 (.call (.f ycS) [(I 0)]),O 9 (.allocL (.agg [(.int .i64 (0)),(.int .i64 (0))])),⟨none,(.store 2 t9 t44),none⟩] [44]) (.seq (.block 2 (.loop 29600602 ylT)) (.seq (.ops [O 111 (.fad 0 t2),oF 112 1 111,M 113 7,O 114 (.iad 1 t113 (I 0)),oF 115 1 114,oT 116 2 9,M 117 0,O 118 (.iad 3 t117 (I 0)),O 119 (.fad 0 t118),oF 120 1 119,O 121 (.call (.f ycS) [t120]),O 122 (.build [(.int .i64 (0)),(.int .i64 (0)),(.int .i64 (0)),(.int .i64 (0))] [(0,2,t116),(2,2,t121)]),O 123 (.buildD 4 (.agg [(.int .i64 (0)),(.int .i64 (0)),(.int .i64 (0)),(.int .i64 (0))]) 1 [(0,t122)]),O 124 (.iad 1 t112 t115),⟨none,(.store 1 t124 t123),none⟩] [⟨1,(.agg [.d]),0⟩,⟨3,(.one (.i .i64)),0⟩,⟨4,(.one (.i .i64)),0⟩,⟨7,(.agg [.i .i64,.d,.d]),0⟩,⟨9,(.agg [.i .i64,.d,.d]),0⟩,⟨13,(.one (.d)),0⟩,⟨14,(.one (.d)),0⟩] [(0,2),(1,2),(0,3),(1,3),(0,4),(1,4),(0,5),(1,5),(2,5),(3,5),(4,5),(0,6),(1,6),(2,6),(3,6),(4,6),(5,6),(0,7),(1,7),(2,7),(3,7),(4,7),(5,7),(0,8),(1,8),(2,8),(3,8),(4,8),(5,8),(0,9),(1,9),(2,9),(3,9),(4,9),(5,9),(0,10),(1,10),(2,10),(3,10),(4,10),(5,10),(0,11),(1,11),(2,11),(3,11),(4,11),(0,12),(1,12),(2,12),(3,12),(4,12)] [0,9,47,111,112,113,114,115,116,117,118,119,120,121,122,123,124]) (.seq (.ops [oT 125 1 2,M 126 3,M 127 7,O 128 (.iad 1 t127 (I 0)),oF 129 1 128,O 130 (.buildD 1 (.int .i64 (0)) 1 [(0,t129)]),O 131 (.app true 1 8 t126 t130),O 132 (.fad 1 t6),oF 133 1 132,⟨none,(.store 1 t2 t125),none⟩,M 3 131,M 4 133,O 5 (.mv (I 0))] [⟨3,(.one (.i .i64)),0⟩,⟨4,(.one (.i .i64)),0⟩,⟨8,(.agg [.d,.d]),0⟩] [(0,1),(0,2),(1,2),(0,3),(1,3),(0,4),(1,4),(0,5),(1,5),(0,6),(0,7),(1,7),(2,7),(3,7),(4,7),(5,7),(6,7),(0,8),(1,8),(2,8),(3,8),(4,8),(5,8),(6,8),(7,9),(8,9),(7,10),(8,10)] [6,7,125,126,127,128,129,130,131,132,133]) .ret))))))))))⟩
def yOQ:TFn:=⟨0,[.cell 0 true 3,.cell 1 true 3],(.seq (oQ [O 0 (.allocL (.agg [(.int .i64 (0)),.nils,.nils])),O 1 (.allocL (.agg [(.int .i64 (0)),.nils,.nils]))] []) (.seq (oQ [O 2 (.buildD 1 (.int .i64 (0)) 2 [(0,(I 0)),(1,(I 4))]),O 3 (.buildD 1 (.int .i64 (0)) 1 [(0,(I 1))]),O 4 (.build [(.int .i64 (0)),.nils,.nils] [(0,1,(I 4)),(1,1,t2),(2,1,t3)]),O 5 (.buildD 1 (.int .i64 (0)) 3 [(0,(I 0)),(1,(I 1)),(2,(I 4))]),O 6 (.buildD 1 (.int .i64 (0)) 2 [(0,(I 3)),(1,(I 1))]),O 7 (.build [(.int .i64 (0)),.nils,.nils] [(0,1,(I 4)),(1,1,t5),(2,1,t6)]),⟨none,(.store 3 t0 t4),none⟩,⟨none,(.store 3 t1 t7),none⟩] [2,3,4,5,6,7]) .ret))⟩
def yQl:TFn:=⟨1,[.cell 2 true 2],(.seq (oQ [O 2 (.allocL (.agg [(.int .i64 (0)),(.int .i64 (0))]))] []) (.seq (oQ [M 3 0,O 4 (.build [(.int .i64 (0)),(.int .i64 (0))] [(0,1,t3),(1,1,(I 1))]),⟨none,(.store 2 t2 t4),none⟩] [0,3,4]) .ret))⟩
def yQm:TFn:=⟨1,[.cell 2 true 2],(.seq (oQ [O 2 (.allocL (.agg [(.int .i64 (0)),(.int .i64 (0))]))] []) (.seq (oQ [M 3 0,O 4 (.call (.f ytU) [t3]),⟨none,(.store 2 t2 t4),none⟩] [0,3,4]) .ret))⟩
def yRD:TFn:=⟨2,[.cell 4 true 2,.tmp 5],(.seq (oQ [O 2 (.boxL t0),O 3 (.boxL t1),O 4 (.allocL (.agg [(.int .i64 (0)),(.int .i64 (0))])),O 5 (.mv (I 0))] [0,1,5]) (.seq (.seq (oQ [oT 7 3 2,O 8 (.call (.f ycb) [t7]),M 6 8] [7,8]) (.seq (oQ [M 9 6,O 10 (.bin .neq t9 (I 0))] [9]) (.cond t10 (.seq (oQ [O 11 (.build [(.int .i64 (0)),(.int .i64 (0))] []),M 12 6,⟨none,(.store 2 t4 t11),none⟩,M 5 12] [2,3,6,10,11,12]) .ret) .skip))) (.seq (.ops [oT 13 3 2,oT 14 2 3,oT 15 3 2,O 16 (.call (.f yf9) [t15,(I 2)]),O 17 (.call (.f yii) [t13,t14,t16]),O 18 (.ext t17 0),O 19 (.ext t17 1),⟨none,(.store 2 t4 t18),none⟩,M 5 19] [] [(0,1),(0,2),(1,2),(0,3),(1,3),(5,6)] [2,3,6,10,13,14,15,16,17,18,19]) .ret)))⟩
def yph:TCode:=(.seq (oQ [oX 45 .lss 44 43] []) (.seq (.cond t45 .skip (.exit 0)) (.seq (.block 1 (.seq (.ops [M 46 44,O 47 (.iad 1 t42 t44),oF 48 1 47,M 11 46,M 12 48] [⟨1,(.one (.i .i64)),0⟩,⟨2,(.one (.i .i64)),0⟩] [] [45,46,47,48]) (.seq (.ops [O 49 (.fad 1 t3),oF 50 1 49,M 51 11,O 52 (.bin .add t51 (I 1)),O 53 (.iad 1 t50 t52),oF 54 1 53,O 55 (.call (.f ycm) [t54]),O 13 (.allocL (.agg [(.int .i64 (0)),(.int .i64 (0))])),⟨none,(.store 2 t13 t55),none⟩] [⟨1,(.agg [.i .i64,.d,.d]),0⟩,⟨4,(.one (.i .i64)),0⟩,⟨5,(.one (.i .i64)),0⟩] [] [11,49,50,51,52,53,54,55]) (.seq (.seq (oQ [oT 56 2 5,oT 57 2 13,O 58 (.call (.f ydd) [t56,t57])] [56,57]) (.cond t58 (oQ [oT 59 2 5,⟨none,(.store 2 t13 t59),none⟩] [58,59]) .skip)) (.seq (.seq (oQ [M 60 12,O 61 (.bin .eql t60 (I 0)),M 62 61,⟨some 63,(.load true 2 t10),some (62,false)⟩,⟨some 64,(.load true 2 t13),some (62,false)⟩,⟨some 65,(.call (.f ydd) [t63,t64]),some (62,false)⟩,⟨some 66,(.un .not t65),some (62,false)⟩,O 67 (.pick t62 (.c (.bool true)) t66)] [58,60,61,62,63,64,65,66]) (.cond t67 (.seq (.seq (oQ [oT 68 2 10,oT 69 2 13,O 70 (.call (.f ydd) [t68,t69])] [12,67,68,69]) (.cond t70 (oQ [oT 71 2 13,⟨none,(.store 2 t10 t71),none⟩] [13,70,71]) .skip)) (.exit 1)) .skip)) (.seq (oQ [oT 73 2 13,oT 74 2 10,O 75 (.call (.f ydC) [t73,t74]),M 72 75,O 76 (.ext t72 0),O 77 (.ext t72 1),O 14 (.allocL (.agg [(.int .i64 (0)),(.int .i64 (0))])),⟨none,(.store 2 t14 t76),none⟩,M 15 77] [67,72,73,74,75,76,77]) (.seq (.seq (oQ [M 78 15,O 79 (.bin .neq t78 (I 0))] [78]) (.cond t79 (.seq (oQ [O 80 (.build [(.int .i64 (0)),(.int .i64 (0))] []),M 81 15,⟨none,(.store 2 t6 t80),none⟩,M 7 81] [3,5,9,10,12,13,14,15,42,43,44,79,80,81]) .ret) .skip)) (.seq (.ops [oT 83 2 14,M 84 12,O 85 (.call (.f ycm) [t84]),O 86 (.call (.f yd4) [t83,t85]),M 82 86,O 87 (.ext t82 0),O 88 (.ext t82 1),O 16 (.allocL (.agg [(.int .i64 (0)),(.int .i64 (0))])),⟨none,(.store 2 t16 t87),none⟩,M 15 88] [] [(0,1),(0,2),(5,6),(0,7),(1,7),(2,7),(3,7),(4,7),(5,7),(6,7),(6,8)] [12,14,79,82,83,84,85,86,87,88]) (.seq (.seq (oQ [M 89 15,O 90 (.bin .neq t89 (I 0))] [89]) (.cond t90 (.seq (oQ [O 91 (.build [(.int .i64 (0)),(.int .i64 (0))] []),M 92 15,⟨none,(.store 2 t6 t91),none⟩,M 7 92] [3,5,9,10,13,15,16,42,43,44,90,91,92]) .ret) .skip)) (.seq (.seq (oQ [oT 94 2 9,oT 95 2 16,O 96 (.call (.f yde) [t94,t95]),M 93 96,O 97 (.ext t93 0),O 98 (.ext t93 1),⟨none,(.store 2 t9 t97),none⟩,M 15 98] [16,90,93,94,95,96,97,98]) (.seq (oQ [M 99 15,O 100 (.bin .neq t99 (I 0))] [99]) (.cond t100 (.seq (oQ [O 101 (.build [(.int .i64 (0)),(.int .i64 (0))] []),M 102 15,⟨none,(.store 2 t6 t101),none⟩,M 7 102] [3,5,9,10,13,15,42,43,44,100,101,102]) .ret) .skip))) (oQ [oT 103 2 13,⟨none,(.store 2 t10 t103),none⟩] [13,15,100,103]))))))))))) (oQ [O 104 (.bin .add t44 (I 1)),M 44 104] [13,70,104]))))
def yIm:TFn:=⟨3,[.cell 6 true 2,.tmp 7],(.seq (oQ [O 3 (.boxL t0),O 4 (.boxL t1),O 5 (.boxL t2),O 6 (.allocL (.agg [(.int .i64 (0)),(.int .i64 (0))])),O 7 (.mv (I 0))] [0,1,2,7]) (.seq (.seq (oQ [oT 17 3 3,O 18 (.call (.f ycb) [t17]),M 8 18] [17,18]) (.seq (oQ [M 19 8,O 20 (.bin .neq t19 (I 0))] [19]) (.cond t20 (.seq (oQ [O 21 (.build [(.int .i64 (0)),(.int .i64 (0))] []),M 22 8,⟨none,(.store 2 t6 t21),none⟩,M 7 22] [3,4,5,8,20,21,22]) .ret) .skip))) (.seq (.seq (oQ [oT 23 3 3,oT 24 2 4,O 25 (.call (.f yfj) [t23,t24]),O 26 (.un .not t25),M 27 26,⟨some 28,(.load true 3 t3),some (27,false)⟩,⟨some 29,(.load true 2 t5),some (27,false)⟩,⟨some 30,(.call (.f yfj) [t28,t29]),some (27,false)⟩,⟨some 31,(.un .not t30),some (27,false)⟩,O 32 (.pick t27 (.c (.bool true)) t31),M 33 32,⟨some 34,(.load true 2 t5),some (33,false)⟩,⟨some 35,(.load true 2 t4),some (33,false)⟩,⟨some 36,(.call (.f ydd) [t34,t35]),some (33,false)⟩,O 37 (.pick t33 (.c (.bool true)) t36)] [8,20,23,24,25,26,27,28,29,30,31,32,33,34,35,36]) (.cond t37 (.seq (oQ [O 38 (.build [(.int .i64 (0)),(.int .i64 (0))] []),⟨none,(.store 2 t6 t38),none⟩,O 7 (.mv (I 2))] [3,4,5,37,38]) .ret) .skip)) (.seq (oQ [O 39 (.call (.f ycm) [(I 0)]),O 9 (.allocL (.agg [(.int .i64 (0)),(.int .i64 (0))])),⟨none,(.store 2 t9 t39),none⟩] [37,39]) (.seq (oQ [oT 40 2 4,O 10 (.allocL (.agg [(.int .i64 (0)),(.int .i64 (0))])),⟨none,(.store 2 t10 t40),none⟩] [4,40]) (.seq (.seq (.ops [O 41 (.fad 2 t3),oF 42 1 41,O 43 (.len t42),O 44 (.mv (I 0))] [⟨1,(.agg [.i .i64,.d,.d]),0⟩] [] [41]) (.block 0 (.loop 85339800 yph))) (.seq (oQ [oT 105 2 9,⟨none,(.store 2 t6 t105),none⟩,O 7 (.mv (I 0))] [3,5,9,10,42,43,44,45,105]) .ret)))))))⟩
def yTa:TFn:=⟨3,[.cell 6 true 2,.tmp 7],(.seq (oQ [O 3 (.boxL t0),O 4 (.boxL t1),O 5 (.boxL t2),O 6 (.allocL (.agg [(.int .i64 (0)),(.int .i64 (0))])),O 7 (.mv (I 0))] [0,1,2,7]) (.seq (.seq (oQ [oT 12 3 3,oT 13 3 4,O 14 (.buildD 3 (.agg [(.int .i64 (0)),(.data []),(.data [])]) 2 [(0,t12),(1,t13)]),O 15 (.build [.nils,.nils] [(0,1,t14)]),O 16 (.call (.f ydz) [t15]),M 8 16] [12,13,14,15,16]) (.seq (oQ [M 17 8,O 18 (.bin .neq t17 (I 0))] [17]) (.cond t18 (.seq (oQ [O 19 (.build [(.int .i64 (0)),(.int .i64 (0))] []),M 20 8,⟨none,(.store 2 t6 t19),none⟩,M 7 20] [3,4,5,8,18,19,20]) .ret) .skip))) (.seq (oQ [oT 22 3 3,oT 23 2 5,O 24 (.call (.f ycT) [t22,t23]),M 21 24,O 25 (.ext t21 0),O 26 (.ext t21 1),O 9 (.allocL (.agg [(.int .i64 (0)),(.int .i64 (0))])),⟨none,(.store 2 t9 t25),none⟩,M 10 26] [3,8,18,21,22,23,24,25,26]) (.seq (.seq (oQ [M 27 10,O 28 (.bin .neq t27 (I 0))] [27]) (.cond t28 (.seq (oQ [O 29 (.build [(.int .i64 (0)),(.int .i64 (0))] []),M 30 10,⟨none,(.store 2 t6 t29),none⟩,M 7 30] [4,5,9,10,28,29,30]) .ret) .skip)) (.seq (oQ [oT 32 3 4,oT 33 2 5,oT 34 2 9,O 35 (.call (.f yew) [t32,t33,t34]),M 31 35,O 36 (.ext t31 0),O 37 (.ext t31 1),O 11 (.allocL (.agg [(.int .i64 (0)),(.int .i64 (0))])),⟨none,(.store 2 t11 t36),none⟩,M 10 37] [5,9,28,31,32,33,34,35,36,37]) (.seq (.seq (oQ [M 38 10,O 39 (.bin .neq t38 (I 0))] [38]) (.cond t39 (.seq (oQ [O 40 (.build [(.int .i64 (0)),(.int .i64 (0))] []),M 41 10,⟨none,(.store 2 t6 t40),none⟩,M 7 41] [4,10,11,39,40,41]) .ret) .skip)) (.seq (.ops [oT 42 2 11,oT 43 3 4,O 44 (.call (.f yf9) [t43,(I 2)]),O 45 (.call (.f ydC) [t42,t44]),O 46 (.ext t45 0),O 47 (.ext t45 1),⟨none,(.store 2 t6 t46),none⟩,M 7 47] [] [(0,1),(0,2),(4,5)] [4,10,11,39,42,43,44,45,46,47]) .ret)))))))⟩
def yMj:TCode:=(.seq (oQ [oX 11 .lss 10 9] []) (.seq (.cond t11 .skip (.exit 0)) (.seq (.block 1 (.seq (.ops [O 12 (.iad 1 t8 t10),oF 13 1 12,M 6 13] [⟨0,(.one (.i .i64)),0⟩,⟨1,(.one (.i .i64)),0⟩] [] [11,12,13]) (.seq (.ops [oT 14 2 3,M 15 6,O 16 (.call (.f ycS) [t15]),O 17 (.call (.f yg6) [t14,t16])] [] [(0,1),(0,2)] [14,15,16]) (.cond t17 (.seq (oQ [M 18 6,O 19 (.call (.f ycS) [t18]),⟨none,(.store 2 t4 t19),none⟩] [2,3,6,8,9,10,17,18,19]) .ret) .skip)))) (oQ [O 20 (.bin .add t10 (I 1)),M 10 20] [6,17,20]))))
def ySj:TFn:=⟨2,[.cell 4 true 2],(.seq (oQ [O 2 (.boxL t0),O 3 (.boxL t1),O 4 (.allocL (.agg [(.int .i64 (0)),(.int .i64 (0))]))] [0,1]) (.seq (.seq (.ops [O 7 (.fad 1 t2),oF 8 1 7,O 9 (.len t8),O 10 (.mv (I 0))] [⟨1,(.agg [.i .i64,.d,.d]),0⟩] [] [7]) (.block 0 (.loop 55415100 yMj))) (.seq (.ops [O 21 (.fad 0 t2),oF 22 1 21,O 23 (.call (.f ycS) [t22]),⟨none,(.store 2 t4 t23),none⟩] [⟨1,(.agg [.i .i64,.d,.d]),0⟩] [] [2,3,8,9,10,11,21,22,23]) .ret)))⟩
def yQn:TFn:=⟨2,[.cell 4 true 2],(.seq (oQ [O 2 (.boxL t0),O 3 (.boxL t1),O 4 (.allocL (.agg [(.int .i64 (0)),(.int .i64 (0))]))] [0,1]) (.seq (.seq (oQ [oT 5 2 2,oT 6 2 3,O 7 (.call (.f yg6) [t5,t6])] [5,6]) (.cond t7 (.seq (oQ [oT 8 2 2,⟨none,(.store 2 t4 t8),none⟩] [2,3,7,8]) .ret) .skip)) (.seq (oQ [oT 9 2 3,⟨none,(.store 2 t4 t9),none⟩] [2,3,7,9]) .ret)))⟩
def yRE:TFn:=⟨2,[.cell 4 true 2],(.seq (oQ [O 2 (.boxL t0),O 3 (.boxL t1),O 4 (.allocL (.agg [(.int .i64 (0)),(.int .i64 (0))]))] [0,1]) (.seq (.ops [oT 10 3 2,O 11 (.call (.f ycS) [(I 0)]),oT 12 2 3,O 13 (.call (.f yew) [t10,t11,t12]),M 9 13,O 14 (.ext t9 0),O 15 (.ext t9 1),O 5 (.allocL (.agg [(.int .i64 (0)),(.int .i64 (0))])),⟨none,(.store 2 t5 t14),none⟩,M 6 15] [] [(0,1),(0,2),(1,2),(5,6),(0,7),(1,7),(2,7),(3,7),(4,7),(5,7),(6,7),(6,8)] [3,6,9,10,11,12,13,14,15]) (.seq (.ops [oT 17 2 5,oT 18 3 2,O 19 (.call (.f yf9) [t18,(I 2)]),O 20 (.call (.f ydC) [t17,t19]),M 16 20,O 21 (.ext t16 0),O 22 (.ext t16 1),⟨none,(.store 2 t5 t21),none⟩] [] [(0,1),(0,2),(5,6),(6,7)] [16,17,18,19,20,21,22]) (.seq (.ops [oT 24 3 2,O 25 (.call (.f ycS) [(I 0)]),oT 26 2 5,O 27 (.call (.f yii) [t24,t25,t26]),M 23 27,O 28 (.ext t23 0),O 29 (.ext t23 1),O 7 (.allocL (.agg [(.int .i64 (0)),(.int .i64 (0))])),⟨none,(.store 2 t7 t28),none⟩,M 8 29] [] [(0,1),(0,2),(1,2),(5,6),(0,7),(1,7),(2,7),(3,7),(4,7),(5,7),(6,7),(6,8)] [2,5,8,23,24,25,26,27,28,29]) (.seq (oQ [oT 30 2 7,⟨none,(.store 2 t4 t30),none⟩] [7,30]) .ret)))))⟩
def yOR:TCode:=(.seq (oQ [oX 48 .lss 47 46] []) (.seq (.cond t48 .skip (.exit 2)) (.seq (.block 3 (.seq (.ops [O 49 (.iad 1 t45 t47),oF 50 1 49,M 10 50] [⟨0,(.one (.i .i64)),0⟩,⟨1,(.one (.i .i64)),0⟩] [] [48,49,50]) (.seq (oQ [M 51 10,O 52 (.bin .eql t51 (I 0))] [10,51]) (.cond t52 (.seq (oQ [O 53 (.build [(.int .i64 (0)),(.int .i64 (0)),(.int .i64 (0)),(.int .i64 (0))] []),⟨none,(.store 4 t4 t53),none⟩,O 5 (.mv (I 2))] [2,3,38,39,40,45,46,47,52,53]) .ret) .skip)))) (oQ [O 54 (.bin .add t47 (I 1)),M 47 54] [52,54]))))
def yOS:TCode:=(.seq (oQ [oX 41 .lss 40 39] []) (.seq (.cond t41 .skip (.exit 0)) (.seq (.block 1 (.seq (.ops [O 42 (.iad 3 t38 t40),oT 43 3 42,O 8 (.allocL (.agg [(.int .i64 (0)),.nils,.nils])),⟨none,(.store 3 t8 t43),none⟩] [⟨0,(.agg [.i .i64,.d,.d]),0⟩,⟨1,(.agg [.i .i64,.d,.d]),0⟩] [] [41,42,43]) (.seq (.ops [O 44 (.fad 2 t8),oF 45 1 44,O 46 (.len t45),O 47 (.mv (I 0))] [⟨1,(.agg [.i .i64,.d,.d]),0⟩] [] [8,44]) (.block 2 (.loop 5501800 yOR))))) (oQ [O 55 (.bin .add t40 (I 1)),M 40 55] [45,46,47,48,55]))))
def t128:Opd:=.t 128
def t136:Opd:=.t 136
def t137:Opd:=.t 137
def t142:Opd:=.t 142
def t144:Opd:=.t 144
def t146:Opd:=.t 146
def yOT:TCode:=(.block 5 (.seq (oQ [oT 58 3 2,oT 59 2 11,O 60 (.call (.f ycT) [t58,t59]),M 57 60,O 61 (.ext t57 0),O 62 (.ext t57 1),O 12 (.allocL (.agg [(.int .i64 (0)),(.int .i64 (0))])),⟨none,(.store 2 t12 t61),none⟩,M 13 62] [13,57,58,59,60,61,62]) (.seq (oQ [oT 64 3 2,oT 65 3 3,oT 66 2 11,O 67 (.call (.f ycN) [t64,t65,t66]),M 63 67,O 68 (.ext t63 0),O 69 (.ext t63 1),O 14 (.allocL (.agg [(.int .i64 (0)),(.int .i64 (0))])),⟨none,(.store 2 t14 t68),none⟩,M 15 69] [15,63,64,65,66,67,68,69]) (.seq (.seq (.ops [O 70 (.fad 0 t14),oF 71 1 70,O 72 (.bin .eql t71 (I 0))] [⟨1,(.agg [.i .i64,.i .i64]),0⟩] [] [70,71]) (.cond t72 (.seq (oQ [oT 73 2 11,oT 74 2 12,O 75 (.build [(.int .i64 (0)),(.int .i64 (0)),(.int .i64 (0)),(.int .i64 (0))] [(0,2,t73),(2,2,t74)]),⟨none,(.store 4 t4 t75),none⟩,O 5 (.mv (I 0))] [2,3,11,12,14,72,73,74,75]) .ret) .skip)) (.seq (.ops [oT 76 3 2,oT 77 2 11,O 78 (.call (.f yiN) [t76,t77]),oT 79 3 3,oT 80 2 11,O 81 (.call (.f yiN) [t79,t80]),O 82 (.call (.f yij) [t78,t81]),oT 83 3 2,oT 84 3 2,oT 85 2 12,O 86 (.call (.f yiN) [t84,t85]),oT 87 3 3,oT 88 2 12,O 89 (.call (.f yiN) [t87,t88]),O 90 (.call (.f yij) [t86,t89]),O 91 (.call (.f yqN) [t83,t90]),O 92 (.call (.f yij) [t82,t91]),O 16 (.allocL (.agg [(.int .i64 (0)),(.int .i64 (0))])),⟨none,(.store 2 t16 t92),none⟩] [] [(0,1),(0,3),(1,3),(2,3),(0,4),(1,4),(2,4),(3,4),(0,7),(1,7),(2,7),(3,7),(4,7),(5,7),(6,7),(0,8),(1,8),(2,8),(3,8),(4,8),(5,8),(6,8),(7,8),(0,9),(1,9),(2,9),(3,9),(4,9),(5,9),(6,9),(7,9),(8,9),(7,10),(0,11),(1,11),(2,11),(3,11),(4,11),(5,11),(6,11),(7,11),(8,11),(9,11),(10,11),(0,12),(1,12),(2,12),(3,12),(4,12),(5,12),(6,12),(7,12),(8,12),(9,12),(10,12),(11,12),(7,13),(7,14),(0,17),(1,17),(2,17),(3,17),(4,17),(5,17),(6,17),(7,17),(8,17),(9,17),(10,17),(11,17),(12,17),(13,17),(14,17),(15,17),(16,17)] [12,72,76,77,78,79,80,81,82,83,84,85,86,87,88,89,90,91,92]) (.seq (oQ [oT 94 3 2,oT 95 3 3,oT 96 2 16,O 97 (.call (.f ycN) [t94,t95,t96]),M 93 97,O 98 (.ext t93 0),O 99 (.ext t93 1),O 17 (.allocL (.agg [(.int .i64 (0)),(.int .i64 (0))])),⟨none,(.store 2 t17 t98),none⟩,M 18 99] [18,93,94,95,96,97,98,99]) (.seq (.seq (.ops [O 100 (.fad 0 t14),oF 101 1 100,O 102 (.bin .gtr t101 (I 0)),M 103 102,⟨some 104,(.fad 0 t17),some (103,true)⟩,⟨some 105,(.load false 1 t104),some (103,true)⟩,⟨some 106,(.bin .lss t105 (I 0)),some (103,true)⟩,O 107 (.pick t103 t106 (.c (.bool false))),M 108 107,⟨some 109,(.fad 0 t14),some (108,false)⟩,⟨some 110,(.load false 1 t109),some (108,false)⟩,⟨some 111,(.bin .lss t110 (I 0)),some (108,false)⟩,⟨some 112,(.mv t111),some (108,false)⟩,⟨some 113,(.fad 0 t17),some (112,true)⟩,⟨some 114,(.load false 1 t113),some (112,true)⟩,⟨some 115,(.bin .gtr t114 (I 0)),some (112,true)⟩,⟨some 116,(.pick t112 t115 (.c (.bool false))),some (108,false)⟩,O 117 (.pick t108 (.c (.bool true)) t116)] [⟨1,(.agg [.i .i64,.i .i64]),0⟩,⟨5,(.agg [.i .i64,.i .i64]),0⟩,⟨10,(.agg [.i .i64,.i .i64]),0⟩,⟨14,(.agg [.i .i64,.i .i64]),0⟩] [] [100,101,102,103,104,105,106,107,108,109,110,111,112,113,114,115,116]) (.cond t117 (.seq (oQ [oT 119 2 14,oT 120 2 17,O 121 (.call (.f ydC) [t119,t120]),M 118 121,O 122 (.ext t118 0),O 123 (.ext t118 1),O 19 (.allocL (.agg [(.int .i64 (0)),(.int .i64 (0))])),⟨none,(.store 2 t19 t122),none⟩,M 20 123] [17,20,117,118,119,120,121,122,123]) (.seq (oQ [oT 125 2 14,oT 126 2 19,O 127 (.call (.f yd5) [t125,t126]),M 124 127,O 128 (.ext t124 0),O 129 (.ext t124 1),O 21 (.allocL (.agg [(.int .i64 (0)),(.int .i64 (0))])),⟨none,(.store 2 t21 t128),none⟩,M 22 129] [14,19,22,124,125,126,127,128,129]) (.seq (oQ [oT 131 2 16,oT 132 2 11,O 133 (.call (.f ydC) [t131,t132]),M 130 133,O 134 (.ext t130 0),O 135 (.ext t130 1),O 23 (.allocL (.agg [(.int .i64 (0)),(.int .i64 (0))])),⟨none,(.store 2 t23 t134),none⟩,M 24 135] [16,24,130,131,132,133,134,135]) (.seq (oQ [oT 137 2 23,oT 138 2 21,O 139 (.call (.f yd4) [t137,t138]),M 136 139,O 140 (.ext t136 0),O 141 (.ext t136 1),O 25 (.allocL (.agg [(.int .i64 (0)),(.int .i64 (0))])),⟨none,(.store 2 t25 t140),none⟩,M 26 141] [21,23,26,136,137,138,139,140,141]) (.seq (oQ [oT 143 2 11,oT 144 2 25,O 145 (.call (.f yde) [t143,t144]),M 142 145,O 146 (.ext t142 0),O 147 (.ext t142 1),⟨none,(.store 2 t11 t146),none⟩] [25,142,143,144,145,146,147]) (.exit 5)))))) .skip)) (oQ [oT 148 2 16,⟨none,(.store 2 t11 t148),none⟩] [14,16,17,117,148]))))))))
def ySk:TFn:=⟨2,[.cell 4 true 4,.tmp 5],(.seq (oQ [O 2 (.boxL t0),O 3 (.boxL t1),O 4 (.allocL (.agg [(.int .i64 (0)),(.int .i64 (0)),(.int .i64 (0)),(.int .i64 (0))])),O 5 (.mv (I 0))] [0,1,5]) (.seq (.seq (oQ [oT 27 3 2,oT 28 3 3,O 29 (.buildD 3 (.agg [(.int .i64 (0)),(.data []),(.data [])]) 2 [(0,t27),(1,t28)]),O 30 (.build [.nils,.nils] [(0,1,t29)]),O 31 (.call (.f ydz) [t30]),M 6 31] [27,28,29,30,31]) (.seq (oQ [M 32 6,O 33 (.bin .neq t32 (I 0))] [32]) (.cond t33 (.seq (oQ [O 34 (.build [(.int .i64 (0)),(.int .i64 (0)),(.int .i64 (0)),(.int .i64 (0))] []),M 35 6,⟨none,(.store 4 t4 t34),none⟩,M 5 35] [2,3,6,33,34,35]) .ret) .skip))) (.seq (.seq (oQ [oT 36 3 2,oT 37 3 3,O 38 (.buildSl true 3 (.agg [(.int .i64 (0)),(.data []),(.data [])]) 2 [(0,t36),(1,t37)]),O 39 (.len t38),O 40 (.mv (I 0))] [6,33,36,37]) (.block 0 (.loop 5501801 yOS))) (.seq (oQ [O 56 (.call (.f ycS) [(I 0)]),O 11 (.allocL (.agg [(.int .i64 (0)),(.int .i64 (0))])),⟨none,(.store 2 t11 t56),none⟩] [38,39,40,41,56]) (.block 4 (.loop 5501802 yOT))))))⟩
def ypi:TCode:=(.seq (.seq (oQ [M 11 5,M 12 0,O 13 (.len t12),oX 14 .lss 11 13] [11,12,13]) (.cond t14 .skip (.exit 0))) (.seq (.block 1 (.seq (.ops [M 17 0,M 18 5,O 19 (.iad 1 t17 t18),oF 20 1 19,M 21 1,M 22 5,O 23 (.iad 1 t21 t22),oF 24 1 23,oX 25 .neq 20 24] [⟨2,(.one (.i .i64)),0⟩,⟨3,(.one (.i .i64)),0⟩,⟨6,(.one (.i .i64)),0⟩,⟨7,(.one (.i .i64)),0⟩] [(0,1),(0,4),(1,4),(2,4),(3,4),(0,5),(1,5),(2,5),(3,5),(4,5),(0,6),(1,6),(2,6),(3,6),(0,7),(1,7),(2,7),(3,7)] [14,17,18,19,20,21,22,23,24]) (.cond t25 (.seq (oQ [O 4 (.mv (.c (.bool false)))] [0,1,5,25]) .ret) .skip))) (oQ [M 15 5,O 16 (.bin .add t15 (I 1)),M 5 16] [15,16,25])))
def yMk:TFn:=⟨2,[.tmp 4],(.seq (oQ [O 4 (.mv (.c (.bool false)))] [4]) (.seq (.seq (oQ [M 6 0,O 7 (.len t6),M 8 1,O 9 (.len t8),oX 10 .neq 7 9] [6,7,8,9]) (.cond t10 (.seq (oQ [O 4 (.mv (.c (.bool false)))] [0,1,10]) .ret) .skip)) (.seq (.seq (oQ [O 5 (.mv (I 0))] [10]) (.block 0 (.loop 14397100 ypi))) (.seq (oQ [O 4 (.mv (.c (.bool true)))] [0,1,5,14]) .ret))))⟩
def ypj:TCode:=(.seq (.seq (oQ [M 11 5,M 12 0,O 13 (.len t12),oX 14 .lss 11 13] [11,12,13]) (.cond t14 .skip (.exit 0))) (.seq (.block 1 (.seq (.ops [M 17 0,M 18 5,O 19 (.iad 4 t17 t18),oT 20 4 19,M 21 1,M 22 5,O 23 (.iad 4 t21 t22),oT 24 4 23,O 25 (.eqA true 4 [(0,(some .i64)),(1,(some .i64)),(2,(some .i64)),(3,(some .i64))] t20 t24)] [⟨2,(.agg [.i .i64,.i .i64,.i .i64,.i .i64]),0⟩,⟨3,(.agg [.i .i64,.i .i64,.i .i64,.i .i64]),0⟩,⟨6,(.agg [.i .i64,.i .i64,.i .i64,.i .i64]),0⟩,⟨7,(.agg [.i .i64,.i .i64,.i .i64,.i .i64]),0⟩] [(0,1),(0,4),(1,4),(2,4),(3,4),(0,5),(1,5),(2,5),(3,5),(4,5),(0,6),(1,6),(2,6),(3,6),(0,7),(1,7),(2,7),(3,7)] [14,17,18,19,20,21,22,23,24]) (.cond t25 (.seq (oQ [O 4 (.mv (.c (.bool false)))] [0,1,5,25]) .ret) .skip))) (oQ [M 15 5,O 16 (.bin .add t15 (I 1)),M 5 16] [15,16,25])))
def yMl:TFn:=⟨2,[.tmp 4],(.seq (oQ [O 4 (.mv (.c (.bool false)))] [4]) (.seq (.seq (oQ [M 6 0,O 7 (.len t6),M 8 1,O 9 (.len t8),oX 10 .neq 7 9] [6,7,8,9]) (.cond t10 (.seq (oQ [O 4 (.mv (.c (.bool false)))] [0,1,10]) .ret) .skip)) (.seq (.seq (oQ [O 5 (.mv (I 0))] [10]) (.block 0 (.loop 27088800 ypj))) (.seq (oQ [O 4 (.mv (.c (.bool true)))] [0,1,5,14]) .ret))))⟩
def ypk:TCode:=(.seq (.seq (.ops [M 13 5,O 14 (.fad 0 t2),oF 15 1 14,O 16 (.len t15),oX 17 .lss 13 16] [⟨2,(.agg [.d]),0⟩] [] [13,14,15,16]) (.cond t17 .skip (.exit 0))) (.seq (.block 1 (.seq (.ops [O 20 (.fad 0 t2),oF 21 1 20,M 22 5,O 23 (.iad 1 t21 t22),oF 24 1 23,O 25 (.fad 0 t3),oF 26 1 25,M 27 5,O 28 (.iad 1 t26 t27),oF 29 1 28,O 30 (.call (.f yo1) [t24,t29]),O 31 (.un .not t30)] [⟨1,(.agg [.d]),0⟩,⟨3,(.one (.d)),0⟩,⟨4,(.one (.d)),0⟩,⟨6,(.agg [.d]),0⟩,⟨8,(.one (.d)),0⟩,⟨9,(.one (.d)),0⟩] [(0,2),(1,2),(0,5),(1,5),(2,5),(3,5),(4,5),(0,6),(1,6),(2,6),(3,6),(4,6),(0,7),(1,7),(2,7),(3,7),(4,7),(5,7),(6,7),(0,8),(1,8),(2,8),(3,8),(4,8),(0,9),(1,9),(2,9),(3,9),(4,9)] [17,20,21,22,23,24,25,26,27,28,29,30]) (.cond t31 (.seq (oQ [O 4 (.mv (.c (.bool false)))] [2,3,5,31]) .ret) .skip))) (oQ [M 18 5,O 19 (.bin .add t18 (I 1)),M 5 19] [18,19,31])))
def yMm:TFn:=⟨2,[.tmp 4],(.seq (oQ [O 2 (.boxL t0),O 3 (.boxL t1),O 4 (.mv (.c (.bool false)))] [0,1,4]) (.seq (.seq (.ops [O 6 (.fad 0 t2),oF 7 1 6,O 8 (.len t7),O 9 (.fad 0 t3),oF 10 1 9,O 11 (.len t10),oX 12 .neq 8 11] [⟨1,(.agg [.d]),0⟩,⟨4,(.agg [.d]),0⟩] [] [6,7,8,9,10,11]) (.cond t12 (.seq (oQ [O 4 (.mv (.c (.bool false)))] [2,3,12]) .ret) .skip)) (.seq (.seq (oQ [O 5 (.mv (I 0))] [12]) (.block 0 (.loop 70742100 ypk))) (.seq (oQ [O 4 (.mv (.c (.bool true)))] [2,3,5,17]) .ret))))⟩
def yKh:TFn:=⟨0,[.tmp 0],(.seq (oQ [O 0 (.mv (.c (.bool false)))] [0]) (.seq (oQ [O 18 (.call (.f yna) []),O 19 (.call (.f ygj) [t18]),M 17 19,O 20 (.ext t17 0),O 21 (.ext t17 1),O 22 (.ext t17 2),O 23 (.ext t17 3),O 1 (.allocL (.agg [.nils])),⟨none,(.store 1 t1 t20),none⟩,M 2 21,M 3 22,M 4 23] [17,18,19,20,21,22,23]) (.seq (oQ [O 24 (.build [(.int .i64 (0)),(.int .i64 (0))] [(0,1,(I 2)),(1,1,(I 3))]),O 25 (.build [(.int .i64 (0)),(.int .i64 (0))] [(0,1,(I 8)),(1,1,(I 3))]),O 5 (.allocL (.agg [(.int .i64 (0)),(.int .i64 (0))])),O 6 (.allocL (.agg [(.int .i64 (0)),(.int .i64 (0))])),⟨none,(.store 2 t5 t24),none⟩,⟨none,(.store 2 t6 t25),none⟩] [24,25]) (.seq (oQ [O 27 (.call (.f yrB) []),M 26 27,O 28 (.ext t26 0),O 29 (.ext t26 1),O 7 (.allocL (.agg [(.int .i64 (0)),.nils,.nils])),O 8 (.allocL (.agg [(.int .i64 (0)),.nils,.nils])),⟨none,(.store 3 t7 t28),none⟩,⟨none,(.store 3 t8 t29),none⟩] [26,27,28,29]) (.seq (.ops [oT 31 3 7,O 32 (.call (.f yga) [(I 0)]),O 33 (.call (.f ycT) [t31,t32]),M 30 33,O 34 (.ext t30 0),O 35 (.ext t30 1),O 9 (.allocL (.agg [(.int .i64 (0)),(.int .i64 (0))])),⟨none,(.store 2 t9 t34),none⟩,M 10 35] [] [(0,1),(4,5),(0,6),(1,6),(2,6),(3,6),(4,6),(5,6),(5,7)] [30,31,32,33,34,35]) (.seq (.ops [oT 37 3 7,oT 38 3 8,O 39 (.call (.f yga) [(I 0)]),O 40 (.call (.f ycN) [t37,t38,t39]),M 36 40,O 41 (.ext t36 0),O 42 (.ext t36 1),O 11 (.allocL (.agg [(.int .i64 (0)),(.int .i64 (0))])),⟨none,(.store 2 t11 t41),none⟩,M 12 42] [] [(0,1),(0,2),(1,2),(5,6),(0,7),(1,7),(2,7),(3,7),(4,7),(5,7),(6,7),(6,8)] [36,37,38,39,40,41,42]) (.seq (.ops [oT 44 3 7,oT 45 3 8,O 46 (.call (.f yga) [(I 1)]),O 47 (.call (.f ycN) [t44,t45,t46]),M 43 47,O 48 (.ext t43 0),O 49 (.ext t43 1),O 13 (.allocL (.agg [(.int .i64 (0)),(.int .i64 (0))])),⟨none,(.store 2 t13 t48),none⟩,M 14 49] [] [(0,1),(0,2),(1,2),(5,6),(0,7),(1,7),(2,7),(3,7),(4,7),(5,7),(6,7),(6,8)] [43,44,45,46,47,48,49]) (.seq (oQ [oT 51 3 7,oT 52 3 8,O 53 (.call (.f yg7) [t51,t52]),M 50 53,O 54 (.ext t50 0),O 55 (.ext t50 1),O 15 (.allocL (.agg [(.int .i64 (0)),(.int .i64 (0)),(.int .i64 (0)),(.int .i64 (0))])),⟨none,(.store 4 t15 t54),none⟩,M 16 55] [7,8,50,51,52,53,54,55]) (.seq (.ops [M 56 4,O 57 (.bin .eql t56 (I 0)),M 58 57,⟨some 59,(.mv t2),some (58,true)⟩,⟨some 60,(.buildD 1 (.int .i64 (0)) 3 [(0,(I 2)),(1,(I 0)),(2,(I 1))]),some (58,true)⟩,⟨some 61,(.call (.f yo0) [t59,t60]),some (58,true)⟩,O 62 (.pick t58 t61 (.c (.bool false))),M 63 62,⟨some 64,(.mv t3),some (63,true)⟩,⟨some 65,(.len t64),some (63,true)⟩,⟨some 66,(.bin .eql t65 (I 5)),some (63,true)⟩,O 67 (.pick t63 t66 (.c (.bool false))),M 68 67,⟨some 69,(.load true 1 t1),some (68,true)⟩,⟨some 70,(.load true 2 t5),some (68,true)⟩,⟨some 71,(.load true 2 t6),some (68,true)⟩,⟨some 72,(.build [(.int .i64 (0)),(.int .i64 (0)),(.int .i64 (0)),(.int .i64 (0))] [(0,2,t70),(2,2,t71)]),some (68,true)⟩,⟨some 73,(.buildD 4 (.agg [(.int .i64 (0)),(.int .i64 (0)),(.int .i64 (0)),(.int .i64 (0))]) 1 [(0,t72)]),some (68,true)⟩,⟨some 74,(.load true 2 t6),some (68,true)⟩,⟨some 75,(.call (.f yga) [(I 6)]),some (68,true)⟩,⟨some 76,(.build [(.int .i64 (0)),(.int .i64 (0)),(.int .i64 (0)),(.int .i64 (0))] [(0,2,t74),(2,2,t75)]),some (68,true)⟩,⟨some 77,(.buildD 4 (.agg [(.int .i64 (0)),(.int .i64 (0)),(.int .i64 (0)),(.int .i64 (0))]) 1 [(0,t76)]),some (68,true)⟩,⟨some 78,(.call (.f yga) [(I 0)]),some (68,true)⟩,⟨some 79,(.load true 2 t5),some (68,true)⟩,⟨some 80,(.build [(.int .i64 (0)),(.int .i64 (0)),(.int .i64 (0)),(.int .i64 (0))] [(0,2,t78),(2,2,t79)]),some (68,true)⟩,⟨some 81,(.buildD 4 (.agg [(.int .i64 (0)),(.int .i64 (0)),(.int .i64 (0)),(.int .i64 (0))]) 1 [(0,t80)]),some (68,true)⟩,⟨some 82,(.buildD 1 (.data []) 3 [(0,t73),(1,t77),(2,t81)]),some (68,true)⟩,⟨some 83,(.build [.nils] [(0,1,t82)]),some (68,true)⟩,⟨some 84,(.call (.f yo2) [t69,t83]),some (68,true)⟩,O 85 (.pick t68 t84 (.c (.bool false))),M 86 85,⟨some 87,(.mv t10),some (86,true)⟩,⟨some 88,(.bin .eql t87 (I 0)),some (86,true)⟩,O 89 (.pick t86 t88 (.c (.bool false))),M 90 89,⟨some 91,(.load true 2 t9),some (90,true)⟩,⟨some 92,(.call (.f yga) [(I 2)]),some (90,true)⟩,⟨some 93,(.eqA false 2 [(0,(some .i64)),(1,(some .i64))] t91 t92),some (90,true)⟩,O 94 (.pick t90 t93 (.c (.bool false))),M 95 94,⟨some 96,(.mv t12),some (95,true)⟩,⟨some 97,(.bin .eql t96 (I 0)),some (95,true)⟩,O 98 (.pick t95 t97 (.c (.bool false))),M 99 98,⟨some 100,(.load true 2 t11),some (99,true)⟩,⟨some 101,(.call (.f yga) [(I 1)]),some (99,true)⟩,⟨some 102,(.eqA false 2 [(0,(some .i64)),(1,(some .i64))] t100 t101),some (99,true)⟩,O 103 (.pick t99 t102 (.c (.bool false))),M 104 103,⟨some 105,(.mv t14),some (104,true)⟩,⟨some 106,(.bin .eql t105 (I 0)),some (104,true)⟩,O 107 (.pick t104 t106 (.c (.bool false))),M 108 107,⟨some 109,(.load true 2 t13),some (108,true)⟩,⟨some 110,(.call (.f yga) [(I (-1))]),some (108,true)⟩,⟨some 111,(.eqA false 2 [(0,(some .i64)),(1,(some .i64))] t109 t110),some (108,true)⟩,O 112 (.pick t108 t111 (.c (.bool false))),M 113 112,⟨some 114,(.mv t16),some (113,true)⟩,⟨some 115,(.bin .eql t114 (I 0)),some (113,true)⟩,O 116 (.pick t113 t115 (.c (.bool false))),M 117 116,⟨some 118,(.load true 4 t15),some (117,true)⟩,⟨some 119,(.build [(.int .i64 (0)),(.int .i64 (0))] [(0,1,(I 1)),(1,1,(I 2))]),some (117,true)⟩,⟨some 120,(.build [(.int .i64 (0)),(.int .i64 (0))] [(0,1,(I 5)),(1,1,(I 2))]),some (117,true)⟩,⟨some 121,(.build [(.int .i64 (0)),(.int .i64 (0)),(.int .i64 (0)),(.int .i64 (0))] [(0,2,t119),(2,2,t120)]),some (117,true)⟩,⟨some 122,(.eqA false 4 [(0,(some .i64)),(1,(some .i64)),(2,(some .i64)),(3,(some .i64))] t118 t121),some (117,true)⟩,O 123 (.pick t117 t122 (.c (.bool false))),M 0 123] [] [(3,4),(13,14),(13,15),(14,15),(13,16),(13,17),(13,18),(14,18),(15,18),(16,18),(17,18),(13,19),(14,19),(15,19),(16,19),(17,19),(18,19),(13,20),(14,20),(15,20),(16,20),(17,20),(13,21),(14,21),(15,21),(16,21),(17,21),(13,22),(14,22),(15,22),(16,22),(17,22),(18,22),(20,22),(21,22),(13,23),(14,23),(15,23),(16,23),(17,23),(18,23),(19,23),(20,23),(21,23),(22,23),(13,24),(14,24),(15,24),(16,24),(17,24),(18,24),(20,24),(21,24),(13,25),(14,25),(15,25),(16,25),(17,25),(18,25),(20,25),(21,25),(13,26),(13,27),(35,36),(44,45),(53,54),(62,63),(62,64),(63,64),(62,65)] [1,2,3,4,5,6,9,10,11,12,13,14,15,16,56,57,58,59,60,61,62,63,64,65,66,67,68,69,70,71,72,73,74,75,76,77,78,79,80,81,82,83,84,85,86,87,88,89,90,91,92,93,94,95,96,97,98,99,100,101,102,103,104,105,106,107,108,109,110,111,112,113,114,115,116,117,118,119,120,121,122,123]) .ret)))))))))⟩
def yxz:TFn:=⟨4,[.cell 8 true 2,.tmp 9],(.seq (oQ [O 4 (.boxL t0),O 6 (.boxL t2),O 7 (.boxL t3),O 8 (.allocL (.agg [(.int .i64 (0)),(.int .i64 (0))])),O 9 (.mv (I 0))] [0,2,3,9]) (.seq (.ops [O 10 (.fad 0 t4),O 11 (.fad 0 t10),oF 12 1 11,M 13 1,O 14 (.iad 3 t12 t13),oT 15 3 14,oT 16 2 6,oT 17 2 7,O 18 (.call (.f yew) [t15,t16,t17]),O 19 (.ext t18 0),O 20 (.ext t18 1),⟨none,(.store 2 t8 t19),none⟩,M 9 20] [⟨2,(.agg [.d,.d]),0⟩,⟨4,(.agg [.i .i64,.d,.d]),0⟩,⟨5,(.agg [.i .i64,.d,.d]),0⟩] [(0,3),(1,3),(2,3),(0,6),(1,6),(2,6),(3,6),(4,6),(5,6),(0,7),(1,7),(2,7),(3,7),(4,7),(5,7),(6,7),(9,10)] [1,4,6,7,10,11,12,13,14,15,16,17,18,19,20]) .ret))⟩
def ypl:TCode:=(.seq (oQ [oX 28 .lss 27 26] []) (.seq (.cond t28 .skip (.exit 0)) (.seq (.block 1 (.seq (.ops [M 29 27,O 30 (.iad 8 t25 t27),oT 31 8 30,O 9 (.allocL (.agg [(.int .i64 (0)),(.int .u8 (0)),(.int .i64 (0)),(.int .i64 (0)),(.int .i64 (0)),(.int .i64 (0)),(.int .i64 (0)),(.int .i64 (0))])),M 8 29,⟨none,(.store 8 t9 t31),none⟩] [⟨1,(.agg [.i .i64,.i .u8,.i .i64,.i .i64,.i .i64,.i .i64,.i .i64,.i .i64]),0⟩,⟨2,(.agg [.i .i64,.i .u8,.i .i64,.i .i64,.i .i64,.i .i64,.i .i64,.i .i64]),0⟩] [] [28,29,30,31]) (.seq (oQ [oT 32 2 6,O 33 (.mkFn (.func yfE) [t32] []),M 10 33] [32,33]) (.seq (.seq (.ops [O 34 (.fad 1 t9),oF 35 1 34,O 36 (.bin .eql t35 (.c (.int .u8 (2))))] [⟨1,(.agg [.i .i64,.i .u8,.i .i64,.i .i64,.i .i64,.i .i64,.i .i64,.i .i64]),0⟩] [] [34,35]) (.cond t36 (oQ [oT 37 2 6,O 38 (.mkFn (.func ydT) [t37] []),M 10 38] [36,37,38]) .skip)) (.seq (.seq (.ops [oT 39 2 6,O 40 (.fad 0 t9),oF 41 1 40,O 42 (.call (.f yei) [t39,t41]),O 43 (.un .not t42),M 44 43,⟨some 45,(.fad 1 t9),some (44,false)⟩,⟨some 46,(.load false 1 t45),some (44,false)⟩,⟨some 47,(.bin .lss t46 (.c (.int .u8 (1)))),some (44,false)⟩,O 48 (.pick t44 (.c (.bool true)) t47),M 49 48,⟨some 50,(.fad 1 t9),some (49,false)⟩,⟨some 51,(.load false 1 t50),some (49,false)⟩,⟨some 52,(.bin .gtr t51 (.c (.int .u8 (2)))),some (49,false)⟩,O 53 (.pick t49 (.c (.bool true)) t52)] [⟨2,(.agg [.i .i64,.i .u8,.i .i64,.i .i64,.i .i64,.i .i64,.i .i64,.i .i64]),0⟩,⟨7,(.agg [.i .i64,.i .u8,.i .i64,.i .i64,.i .i64,.i .i64,.i .i64,.i .i64]),0⟩,⟨12,(.agg [.i .i64,.i .u8,.i .i64,.i .i64,.i .i64,.i .i64,.i .i64,.i .i64]),0⟩] [] [36,39,40,41,42,43,44,45,46,47,48,49,50,51,52]) (.cond t53 (.seq (oQ [M 54 8,M 4 54,O 5 (.mv (I 0))] [1,6,8,9,10,25,26,27,53,54]) .ret) .skip)) (.seq (.ops [M 56 10,O 57 (.fad 0 t9),oF 58 1 57,O 59 (.fad 2 t9),oT 60 2 59,O 61 (.fad 4 t9),oT 62 2 61,O 63 (.call t56 [t58,t60,t62]),M 55 63,O 64 (.ext t55 0),O 65 (.ext t55 1),O 11 (.allocL (.agg [(.int .i64 (0)),(.int .i64 (0))])),⟨none,(.store 2 t11 t64),none⟩,M 12 65] [⟨2,(.agg [.i .i64,.i .u8,.i .i64,.i .i64,.i .i64,.i .i64,.i .i64,.i .i64]),0⟩,⟨4,(.agg [.i .i64,.i .u8,.i .i64,.i .i64,.i .i64,.i .i64,.i .i64,.i .i64]),0⟩,⟨6,(.agg [.i .i64,.i .u8,.i .i64,.i .i64,.i .i64,.i .i64,.i .i64,.i .i64]),0⟩] [] [10,53,55,56,57,58,59,60,61,62,63,64,65]) (.seq (.ops [M 66 12,O 67 (.bin .neq t66 (I 0)),M 68 67,⟨some 69,(.load true 2 t11),some (68,false)⟩,⟨some 70,(.fad 6 t9),some (68,false)⟩,⟨some 71,(.load true 2 t70),some (68,false)⟩,⟨some 72,(.eqA true 2 [(0,(some .i64)),(1,(some .i64))] t69 t71),some (68,false)⟩,O 73 (.pick t68 (.c (.bool true)) t72)] [⟨5,(.agg [.i .i64,.i .u8,.i .i64,.i .i64,.i .i64,.i .i64,.i .i64,.i .i64]),0⟩] [] [9,11,12,66,67,68,69,70,71,72]) (.cond t73 (.seq (oQ [M 74 8,M 4 74,O 5 (.mv (I 0))] [1,6,8,25,26,27,73,74]) .ret) .skip)))))))) (oQ [O 75 (.bin .add t27 (I 1)),M 27 75] [8,73,75]))))
def yIn:TFn:=⟨2,[.tmp 4,.tmp 5],(.seq (oQ [O 4 (.mv (I 0)),O 5 (.mv (I 0))] [4,5]) (.seq (oQ [M 13 0,M 14 1,O 15 (.build [.nils,.nils] [(0,1,t13),(1,1,t14)]),O 16 (.build [.nils,.nils] [(0,2,t15)]),O 6 (.allocL (.agg [.nils,.nils])),⟨none,(.store 2 t6 t16),none⟩] [0,13,14,15,16]) (.seq (.seq (.ops [O 17 (.fad 0 t6),oT 18 2 17,O 19 (.call (.f ydz) [t18]),M 7 19] [⟨1,(.agg [.d,.d]),0⟩] [] [17,18,19]) (.seq (oQ [M 20 7,O 21 (.bin .neq t20 (I 0))] [20]) (.cond t21 (.seq (oQ [M 22 7,O 4 (.mv (I 0)),M 5 22] [1,6,7,21,22]) .ret) .skip))) (.seq (.seq (.ops [O 23 (.fad 0 t6),O 24 (.fad 1 t23),oF 25 1 24,O 26 (.len t25),O 27 (.mv (I 0))] [⟨2,(.agg [.d,.d]),0⟩] [] [7,21,23,24]) (.block 0 (.loop 47732200 ypl))) (.seq (oQ [M 76 1,O 77 (.len t76),M 4 77,O 5 (.mv (I 0))] [1,6,25,26,27,28,76,77]) .ret)))))⟩
def yFB:TFn:=⟨1,[.tmp 2],(.seq (oQ [O 1 (.boxL t0),O 2 (.mv (.c (.bool false)))] [0,2]) (.seq (.ops [O 6 (.fad 0 t1),oT 7 2 6,O 8 (.fad 2 t1),oT 9 2 8,O 10 (.call (.f ycM) [t7,t9]),M 5 10,O 11 (.ext t5 0),O 12 (.ext t5 1),M 3 11,M 4 12] [⟨1,(.agg [.i .i64,.i .i64,.i .i64,.i .i64]),0⟩,⟨3,(.agg [.i .i64,.i .i64,.i .i64,.i .i64]),0⟩] [] [1,5,6,7,8,9,10,11,12]) (.seq (oQ [M 13 4,O 14 (.bin .eql t13 (I 0)),M 15 14,⟨some 16,(.mv t3),some (15,true)⟩,⟨some 17,(.bin .lss t16 (I 0)),some (15,true)⟩,O 18 (.pick t15 t17 (.c (.bool false))),M 2 18] [3,4,13,14,15,16,17,18]) .ret)))⟩
def ypm:TCode:=(.seq (oQ [oX 11 .lss 10 9] []) (.seq (.cond t11 .skip (.exit 0)) (.seq (.block 1 (.seq (.ops [O 12 (.iad 4 t8 t10),oT 13 4 12,O 4 (.allocL (.agg [(.int .i64 (0)),(.int .i64 (0)),(.int .i64 (0)),(.int .i64 (0))])),⟨none,(.store 4 t4 t13),none⟩] [⟨0,(.agg [.i .i64,.i .i64,.i .i64,.i .i64]),0⟩,⟨1,(.agg [.i .i64,.i .i64,.i .i64,.i .i64]),0⟩] [] [11,12,13]) (.seq (oQ [oT 14 4 4,O 15 (.call (.f yjH) [t14]),O 16 (.un .not t15)] [4,14,15]) (.cond t16 (.seq (oQ [O 2 (.mv (I 8))] [8,9,10,16]) .ret) .skip)))) (oQ [O 17 (.bin .add t10 (I 1)),M 10 17] [16,17]))))
def yKi:TFn:=⟨1,[.tmp 2],(.seq (oQ [O 2 (.mv (I 0))] [2]) (.seq (.seq (oQ [M 5 0,O 6 (.len t5),O 7 (.bin .gtr t6 (I 60))] [5,6]) (.cond t7 (.seq (oQ [O 2 (.mv (I 4))] [0,7]) .ret) .skip)) (.seq (.seq (oQ [M 8 0,O 9 (.len t8),O 10 (.mv (I 0))] [0,7]) (.block 0 (.loop 56157900 ypm))) (.seq (oQ [O 2 (.mv (I 0))] [8,9,10,11]) .ret))))⟩
def yFC:TFn:=⟨2,[.tmp 4],(.seq (oQ [O 2 (.boxL t0),O 3 (.boxL t1),O 4 (.mv (I 0))] [0,1,4]) (.seq (oQ [oT 8 2 2,oT 9 2 3,O 10 (.call (.f ycM) [t8,t9]),M 7 10,O 11 (.ext t7 0),O 12 (.ext t7 1),M 5 11,M 6 12] [2,3,6,7,8,9,10,11,12]) (.seq (oQ [M 13 5,M 4 13] [5,13]) .ret)))⟩
end Go.Pf.Vc
namespace Go.Pf.Vc
open Go Go.Pf
def ypn:TCode:=(.seq (.seq (oQ [M 10 4,M 11 0,O 12 (.len t11),oX 13 .lss 10 12] [10,11,12]) (.cond t13 .skip (.exit 0))) (.seq (.block 1 (.seq (.ops [M 16 0,M 17 4,O 18 (.bin .sub t17 (I 1)),O 19 (.iad 4 t16 t18),O 20 (.fad 2 t19),oT 21 2 20,M 22 0,M 23 4,O 24 (.iad 4 t22 t23),O 25 (.fad 0 t24),oT 26 2 25,O 27 (.call (.f yfl) [t21,t26]),O 28 (.bin .geq t27 (I 0))] [⟨3,(.agg [.i .i64,.i .i64,.i .i64,.i .i64]),0⟩,⟨5,(.agg [.i .i64,.i .i64,.i .i64,.i .i64]),0⟩,⟨8,(.agg [.i .i64,.i .i64,.i .i64,.i .i64]),0⟩,⟨10,(.agg [.i .i64,.i .i64,.i .i64,.i .i64]),0⟩] [(0,1),(0,2),(0,6),(1,6),(2,6),(3,6),(4,6),(5,6),(0,7),(1,7),(2,7),(3,7),(4,7),(5,7),(6,7),(0,8),(1,8),(2,8),(3,8),(4,8),(5,8),(0,9),(1,9),(2,9),(3,9),(4,9),(5,9),(0,10),(1,10),(2,10),(3,10),(4,10),(5,10)] [13,16,17,18,19,20,21,22,23,24,25,26,27]) (.cond t28 (.seq (oQ [O 2 (.mv (I 8))] [0,4,28]) .ret) .skip))) (oQ [M 14 4,O 15 (.bin .add t14 (I 1)),M 4 15] [14,15,28])))
def yFD:TFn:=⟨1,[.tmp 2],(.seq (oQ [O 2 (.mv (I 0))] [2]) (.seq (.seq (oQ [M 5 0,O 6 (.call (.f ynb) [t5]),M 3 6] [5,6]) (.seq (oQ [M 7 3,O 8 (.bin .neq t7 (I 0))] [7]) (.cond t8 (.seq (oQ [M 9 3,M 2 9] [0,3,8,9]) .ret) .skip))) (.seq (.seq (oQ [O 4 (.mv (I 1))] [3,8]) (.block 0 (.loop 17365500 ypn))) (.seq (oQ [O 2 (.mv (I 0))] [0,4,13]) .ret))))⟩
def yFE:TFn:=⟨1,[.cell 2 true 2],(.seq (oQ [O 2 (.allocL (.agg [(.int .i64 (0)),(.int .i64 (0))]))] []) (.seq (oQ [M 3 0,O 4 (.build [(.int .i64 (0)),(.int .i64 (0))] [(0,1,t3),(1,1,(I 1))]),⟨none,(.store 2 t2 t4),none⟩] [0,3,4]) .ret))⟩
def yIo:TFn:=⟨2,[.tmp 4],(.seq (oQ [O 2 (.boxL t0),O 3 (.boxL t1),O 4 (.mv (.c (.bool false)))] [0,1,4]) (.seq (oQ [oT 8 2 2,oT 9 2 3,O 10 (.call (.f ycM) [t8,t9]),M 7 10,O 11 (.ext t7 0),O 12 (.ext t7 1),M 5 11,M 6 12] [2,3,6,7,8,9,10,11,12]) (.seq (oQ [M 13 5,O 14 (.bin .lss t13 (I 0)),M 4 14] [5,13,14]) .ret)))⟩
def yrG:TCode:=(.seq (oQ [oX 28 .lss 27 26] []) (.seq (.cond t28 .skip (.exit 0)) (.seq (.block 1 (.seq (.ops [O 29 (.iad 1 t25 t27),oF 30 1 29,M 7 30] [⟨0,(.one (.d)),0⟩,⟨1,(.one (.d)),0⟩] [] [28,29,30]) (.seq (oQ [M 31 7,O 32 (.call (.f yfm) [t31]),M 8 32] [7,31,32]) (.seq (oQ [M 33 8,O 34 (.bin .neq t33 (I 0))] [33]) (.cond t34 (.seq (oQ [M 35 8,M 4 35] [0,3,8,25,26,27,34,35]) .ret) .skip))))) (oQ [O 36 (.bin .add t27 (I 1)),M 27 36] [8,34,36]))))
def yrH:TCode:=(.seq (oQ [oX 41 .lss 40 39] []) (.seq (.cond t41 .skip (.exit 2)) (.seq (.block 3 (.seq (.ops [O 42 (.iad 1 t38 t40),oF 43 1 42,M 10 43] [⟨0,(.one (.d)),0⟩,⟨1,(.one (.d)),0⟩] [] [41,42,43]) (.seq (oQ [M 44 10,O 45 (.len t44),M 11 45] [44,45]) (.seq (.ops [M 46 11,O 47 (.bin .gtr t46 (I 0)),M 48 47,⟨some 49,(.mv t10),some (48,true)⟩,⟨some 50,(.iad 4 t49 (I 0)),some (48,true)⟩,⟨some 51,(.fad 0 t50),some (48,true)⟩,⟨some 52,(.fad 0 t51),some (48,true)⟩,⟨some 53,(.load false 1 t52),some (48,true)⟩,⟨some 54,(.bin .lss t53 (I 0)),some (48,true)⟩,⟨some 55,(.mv t54),some (48,true)⟩,⟨some 56,(.mv t0),some (55,false)⟩,⟨some 57,(.iad 3 t56 (I 0)),some (55,false)⟩,⟨some 58,(.fad 0 t57),some (55,false)⟩,⟨some 59,(.load false 1 t58),some (55,false)⟩,⟨some 60,(.call (.f ych) [t59]),some (55,false)⟩,⟨some 61,(.mv t10),some (55,false)⟩,⟨some 62,(.mv t11),some (55,false)⟩,⟨some 63,(.bin .sub t62 (I 1)),some (55,false)⟩,⟨some 64,(.iad 4 t61 t63),some (55,false)⟩,⟨some 65,(.fad 2 t64),some (55,false)⟩,⟨some 66,(.load true 2 t65),some (55,false)⟩,⟨some 67,(.call (.f ybI) [t60,t66]),some (55,false)⟩,⟨some 68,(.pick t55 (.c (.bool true)) t67),some (48,true)⟩,O 69 (.pick t48 t68 (.c (.bool false)))] [⟨4,(.agg [.i .i64,.i .i64,.i .i64,.i .i64]),0⟩,⟨7,(.agg [.i .i64,.i .i64,.i .i64,.i .i64]),0⟩,⟨11,(.agg [.i .i64,.d,.d]),0⟩,⟨13,(.agg [.i .i64,.d,.d]),0⟩,⟨18,(.agg [.i .i64,.i .i64,.i .i64,.i .i64]),0⟩,⟨20,(.agg [.i .i64,.i .i64,.i .i64,.i .i64]),0⟩] [(10,15),(11,15),(12,15),(13,15),(14,15),(10,16),(11,16),(12,16),(13,16),(14,16),(15,16),(10,17),(11,17),(12,17),(13,17),(14,17),(15,17),(10,18),(11,18),(12,18),(13,18),(14,18),(10,19),(11,19),(12,19),(13,19),(14,19),(10,20),(11,20),(12,20),(13,20),(14,20)] [10,11,46,47,48,49,50,51,52,53,54,55,56,57,58,59,60,61,62,63,64,65,66,67,68]) (.cond t69 (.seq (oQ [O 4 (.mv (I 2))] [0,38,39,40,69]) .ret) .skip))))) (oQ [O 70 (.bin .add t40 (I 1)),M 40 70] [69,70]))))
def yFF:TFn:=⟨2,[.tmp 4],(.seq (oQ [O 3 (.boxL t1),O 4 (.mv (I 0))] [1,4]) (.seq (.seq (oQ [M 12 0,O 13 (.build [.nils,.nils] [(0,1,t12)]),O 14 (.call (.f ydz) [t13]),M 5 14] [12,13,14]) (.seq (oQ [M 15 5,O 16 (.bin .neq t15 (I 0))] [15]) (.cond t16 (.seq (oQ [M 17 5,M 4 17] [0,3,5,16,17]) .ret) .skip))) (.seq (.seq (.ops [O 18 (.fad 0 t3),oF 19 1 18,O 20 (.len t19),M 21 0,O 22 (.len t21),oX 23 .neq 20 22] [⟨1,(.agg [.d]),0⟩] [] [5,16,18,19,20,21,22]) (.cond t23 (.seq (oQ [O 4 (.mv (I 2))] [0,3,23]) .ret) .skip)) (.seq (.seq (.ops [O 24 (.fad 0 t3),oF 25 1 24,O 26 (.len t25),O 27 (.mv (I 0))] [⟨1,(.agg [.d]),0⟩] [] [23,24]) (.block 0 (.loop 8206000 yrG))) (.seq (.seq (.ops [O 37 (.fad 0 t3),oF 38 1 37,O 39 (.len t38),O 40 (.mv (I 0))] [⟨1,(.agg [.d]),0⟩] [] [3,25,26,27,28,37]) (.block 2 (.loop 8206001 yrH))) (.seq (oQ [O 4 (.mv (I 0))] [0,38,39,40,41]) .ret))))))⟩
def ytg:TFn:=⟨2,[.cell 3 true 2,.tmp 4],(.seq (oQ [O 2 (.boxL t0),O 3 (.allocL (.agg [(.int .i64 (0)),(.int .i64 (0))])),O 4 (.mv (I 0))] [0,4]) (.seq (.ops [oT 5 3 1,O 6 (.fad 0 t2),oT 7 2 6,O 8 (.fad 2 t2),oT 9 2 8,O 10 (.call (.f yew) [t5,t7,t9]),O 11 (.ext t10 0),O 12 (.ext t10 1),⟨none,(.store 2 t3 t11),none⟩,M 4 12] [⟨2,(.agg [.i .i64,.i .i64,.i .i64,.i .i64]),0⟩,⟨4,(.agg [.i .i64,.i .i64,.i .i64,.i .i64]),0⟩] [] [1,2,5,6,7,8,9,10,11,12]) .ret))⟩
def ypo:TCode:=(.seq (oQ [oX 15 .lss 14 13] []) (.seq (.cond t15 .skip (.exit 0)) (.seq (.block 1 (.seq (.ops [O 16 (.iad 4 t12 t14),oT 17 4 16,O 8 (.allocL (.agg [(.int .i64 (0)),(.int .i64 (0)),(.int .i64 (0)),(.int .i64 (0))])),⟨none,(.store 4 t8 t17),none⟩] [⟨0,(.agg [.i .i64,.i .i64,.i .i64,.i .i64]),0⟩,⟨1,(.agg [.i .i64,.i .i64,.i .i64,.i .i64]),0⟩] [] [15,16,17]) (.seq (oQ [M 19 1,oT 20 4 8,O 21 (.call t19 [t20]),M 18 21,O 22 (.ext t18 0),O 23 (.ext t18 1),O 9 (.allocL (.agg [(.int .i64 (0)),(.int .i64 (0))])),⟨none,(.store 2 t9 t22),none⟩,M 10 23] [8,18,19,20,21,22,23]) (.seq (.seq (oQ [M 24 10,O 25 (.bin .neq t24 (I 0))] [24]) (.cond t25 (.seq (oQ [O 26 (.build [(.int .i64 (0)),(.int .i64 (0))] []),M 27 10,⟨none,(.store 2 t4 t26),none⟩,M 5 27] [1,6,9,10,12,13,14,25,26,27]) .ret) .skip)) (.seq (oQ [oT 29 2 6,oT 30 2 9,O 31 (.call (.f yde) [t29,t30]),M 28 31,O 32 (.ext t28 0),O 33 (.ext t28 1),⟨none,(.store 2 t6 t32),none⟩,M 10 33] [9,25,28,29,30,31,32,33]) (.seq (oQ [M 34 10,O 35 (.bin .neq t34 (I 0))] [34]) (.cond t35 (.seq (oQ [O 36 (.build [(.int .i64 (0)),(.int .i64 (0))] []),M 37 10,⟨none,(.store 2 t4 t36),none⟩,M 5 37] [1,6,10,12,13,14,35,36,37]) .ret) .skip))))))) (oQ [O 38 (.bin .add t14 (I 1)),M 14 38] [10,35,38]))))
def yKj:TFn:=⟨2,[.cell 4 true 2,.tmp 5],(.seq (oQ [O 4 (.allocL (.agg [(.int .i64 (0)),(.int .i64 (0))])),O 5 (.mv (I 0))] [5]) (.seq (oQ [O 11 (.build [(.int .i64 (0)),(.int .i64 (0))] [(1,1,(I 1))]),O 6 (.allocL (.agg [(.int .i64 (0)),(.int .i64 (0))])),⟨none,(.store 2 t6 t11),none⟩] [11]) (.seq (.seq (oQ [M 12 0,O 13 (.len t12),O 14 (.mv (I 0))] [0]) (.block 0 (.loop 87165700 ypo))) (.seq (oQ [oT 39 2 6,⟨none,(.store 2 t4 t39),none⟩,O 5 (.mv (I 0))] [1,6,12,13,14,15,39]) .ret))))⟩
def yFG:TFn:=⟨2,[.cell 4 true 2,.tmp 5],(.seq (oQ [O 2 (.boxH true 3 t0),O 4 (.allocL (.agg [(.int .i64 (0)),(.int .i64 (0))])),O 5 (.mv (I 0))] [0,5]) (.seq (.seq (.ops [oT 9 3 2,O 10 (.call (.f ycb) [t9]),M 6 10] [⟨0,(.agg [.i .i64,.d,.d]),0⟩] [] [9,10]) (.seq (oQ [M 11 6,O 12 (.bin .neq t11 (I 0))] [11]) (.cond t12 (.seq (oQ [O 13 (.build [(.int .i64 (0)),(.int .i64 (0))] []),M 14 6,⟨none,(.store 2 t4 t13),none⟩,M 5 14] [1,2,6,12,13,14]) .ret) .skip))) (.seq (.seq (oQ [M 15 1,O 16 (.call (.f yfm) [t15]),M 7 16] [6,12,15,16]) (.seq (oQ [M 17 7,O 18 (.bin .neq t17 (I 0))] [17]) (.cond t18 (.seq (oQ [O 19 (.build [(.int .i64 (0)),(.int .i64 (0))] []),M 20 7,⟨none,(.store 2 t4 t19),none⟩,M 5 20] [1,2,7,18,19,20]) .ret) .skip))) (.seq (.seq (oQ [M 21 1,O 22 (.len t21),M 8 22] [7,18,21,22]) (.seq (.ops [M 23 8,O 24 (.bin .gtr t23 (I 0)),M 25 24,⟨some 26,(.mv t1),some (25,true)⟩,⟨some 27,(.iad 4 t26 (I 0)),some (25,true)⟩,⟨some 28,(.fad 0 t27),some (25,true)⟩,⟨some 29,(.fad 0 t28),some (25,true)⟩,⟨some 30,(.load false 1 t29),some (25,true)⟩,⟨some 31,(.bin .lss t30 (I 0)),some (25,true)⟩,⟨some 32,(.mv t31),some (25,true)⟩,⟨some 33,(.mv t1),some (32,false)⟩,⟨some 34,(.mv t8),some (32,false)⟩,⟨some 35,(.bin .sub t34 (I 1)),some (32,false)⟩,⟨some 36,(.iad 4 t33 t35),some (32,false)⟩,⟨some 37,(.fad 2 t36),some (32,false)⟩,⟨some 38,(.load true 2 t37),some (32,false)⟩,⟨some 39,(.fad 0 t2),some (32,false)⟩,⟨some 40,(.load false 1 t39),some (32,false)⟩,⟨some 41,(.build [(.int .i64 (0)),(.int .i64 (0))] [(0,1,t40),(1,1,(I 1))]),some (32,false)⟩,⟨some 42,(.call (.f yfl) [t38,t41]),some (32,false)⟩,⟨some 43,(.bin .gtr t42 (I 0)),some (32,false)⟩,⟨some 44,(.pick t32 (.c (.bool true)) t43),some (25,true)⟩,O 45 (.pick t25 t44 (.c (.bool false)))] [⟨4,(.agg [.i .i64,.i .i64,.i .i64,.i .i64]),0⟩,⟨7,(.agg [.i .i64,.i .i64,.i .i64,.i .i64]),0⟩,⟨13,(.agg [.i .i64,.i .i64,.i .i64,.i .i64]),0⟩,⟨15,(.agg [.i .i64,.i .i64,.i .i64,.i .i64]),0⟩,⟨17,(.agg [.i .i64,.d,.d]),0⟩] [(10,11),(10,12),(10,16),(11,16),(12,16),(13,16),(14,16),(15,16),(10,17),(11,17),(12,17),(13,17),(14,17),(15,17),(10,18),(11,18),(12,18),(13,18),(14,18),(15,18)] [8,23,24,25,26,27,28,29,30,31,32,33,34,35,36,37,38,39,40,41,42,43,44]) (.cond t45 (.seq (oQ [O 46 (.build [(.int .i64 (0)),(.int .i64 (0))] []),⟨none,(.store 2 t4 t46),none⟩,O 5 (.mv (I 2))] [1,2,45,46]) .ret) .skip))) (.seq (oQ [M 47 1,O 48 (.mkFn (.func ye3) [] [t2]),O 49 (.call (.f ytV) [t47,t48]),O 50 (.ext t49 0),O 51 (.ext t49 1),⟨none,(.store 2 t4 t50),none⟩,M 5 51] [1,2,45,47,48,49,50,51]) .ret)))))⟩
def ylU:TCode:=(.seq (oQ [oX 34 .lss 33 32] []) (.seq (.cond t34 .skip (.exit 2)) (.seq (.block 3 (.seq (oQ [O 35 (.iad 1 t31 t33),oF 36 1 35,M 11 36] [34,35,36]) (.seq (oQ [oT 38 3 9,M 39 11,O 40 (.call (.f ycU) [t38,t39]),M 37 40,O 41 (.ext t37 0),O 42 (.ext t37 1),O 12 (.allocL (.agg [(.int .i64 (0)),(.int .i64 (0))])),⟨none,(.store 2 t12 t41),none⟩,M 13 42] [11,37,38,39,40,41,42]) (.seq (.seq (oQ [M 43 13,O 44 (.bin .neq t43 (I 0))] [43]) (.cond t44 (.seq (oQ [M 45 13,O 4 (.mv (.c .nils)),M 5 45] [3,7,8,9,12,13,23,24,25,31,32,33,44,45]) .ret) .skip)) (.ops [M 46 7,M 47 8,M 48 7,M 49 8,O 50 (.iad 1 t48 t49),oF 51 1 50,oT 52 2 12,O 53 (.buildD 2 (.agg [(.int .i64 (0)),(.int .i64 (0))]) 1 [(0,t52)]),O 54 (.app true 2 16 t51 t53),O 55 (.iad 1 t46 t47),⟨none,(.store 1 t55 t54),none⟩] [] [(0,1),(0,2),(1,2),(0,3),(1,3),(2,3),(0,4),(1,4),(0,5),(1,5),(0,6),(1,6),(2,6),(3,6),(4,6),(5,6),(0,7),(1,7),(2,7),(3,7),(4,7),(5,7),(0,8),(1,8)] [12,13,44,46,47,48,49,50,51,52,53,54,55]))))) (oQ [O 56 (.bin .add t33 (I 1)),M 33 56] [56]))))
def ysd:TCode:=(.seq (oQ [oX 26 .lss 25 24] []) (.seq (.cond t26 .skip (.exit 0)) (.seq (.block 1 (.seq (oQ [M 27 25,O 28 (.iad 3 t23 t25),oT 29 3 28,O 9 (.allocL (.agg [(.int .i64 (0)),.nils,.nils])),M 8 27,⟨none,(.store 3 t9 t29),none⟩] [26,27,28,29]) (.seq (oQ [O 30 (.fad 0 t3),oF 31 1 30,O 32 (.len t31),O 33 (.mv (I 0))] [30]) (.block 2 (.loop 14283600 ylU))))) (oQ [O 57 (.bin .add t25 (I 1)),M 25 57] [8,9,31,32,33,34,57]))))
def ywC:TFn:=⟨2,[.tmp 4,.tmp 5],(.seq (oQ [O 3 (.boxL t1),O 4 (.mv (.c .nils)),O 5 (.mv (I 0))] [1,4,5]) (.seq (.seq (oQ [M 14 0,oT 15 1 3,O 16 (.call (.f yfn) [t14,t15]),M 6 16] [14,15,16]) (.seq (oQ [M 17 6,O 18 (.bin .neq t17 (I 0))] [17]) (.cond t18 (.seq (oQ [M 19 6,O 4 (.mv (.c .nils)),M 5 19] [0,3,6,18,19]) .ret) .skip))) (.seq (oQ [M 20 0,O 21 (.len t20),O 22 (.mkSl false 1 24 .nils t21 t21),M 7 22] [6,18,20,21,22]) (.seq (.seq (oQ [M 23 0,O 24 (.len t23),O 25 (.mv (I 0))] [0]) (.block 0 (.loop 14283601 ysd))) (.seq (oQ [M 58 7,M 4 58,O 5 (.mv (I 0))] [3,7,23,24,25,26,58]) .ret)))))⟩
def yiO:TFn:=⟨2,[.tmp 4,.tmp 5],(.seq (oQ [O 3 (.boxL t1),O 4 (.mv (.c .nilp)),O 5 (.mv (I 0))] [1,4,5]) (.seq (oQ [M 9 0,oT 10 1 3,O 11 (.call (.f ybp) [t9,t10]),M 8 11,O 12 (.ext t8 0),O 13 (.ext t8 1),M 6 12,M 7 13] [8,9,10,11,12,13]) (.seq (.seq (oQ [M 14 7,O 15 (.bin .neq t14 (I 0))] [14]) (.cond t15 (.seq (oQ [M 16 7,O 4 (.mv (.c .nilp)),M 5 16] [0,3,6,7,15,16]) .ret) .skip)) (.seq (.ops [M 17 0,O 18 (.fad 0 t3),oF 19 1 18,M 20 6,O 21 (.build [.nils,.nils,.nils,.nils] [(0,1,t17),(1,1,t19),(2,1,t20)]),O 22 (.boxH false 4 t21),M 4 22,O 5 (.mv (I 0))] [⟨2,(.agg [.d]),0⟩] [] [0,3,6,7,15,17,18,19,20,21,22]) .ret))))⟩
def yfG:TCode:=(.seq (oQ [oX 14 .lss 13 12] []) (.seq (.cond t14 .skip (.exit 0)) (.seq (.block 1 (.seq (oQ [M 15 13,M 3 15] [14,15]) (.seq (.ops [M 17 0,O 18 (.nilchk t17),O 19 (.fad 0 t18),oF 20 1 19,M 21 3,O 22 (.iad 3 t20 t21),oT 23 3 22,O 24 (.call (.f ycZ) [t23]),M 16 24,O 25 (.ext t16 0),O 26 (.ext t16 1),M 4 25,M 5 26] [⟨5,(.agg [.i .i64,.d,.d]),0⟩,⟨6,(.agg [.i .i64,.d,.d]),0⟩] [] [5,16,17,18,19,20,21,22,23,24,25,26]) (.seq (.ops [M 28 0,O 29 (.nilchk t28),O 30 (.fad 2 t29),oF 31 1 30,M 32 3,O 33 (.iad 1 t31 t32),oF 34 1 33,M 35 3,O 36 (.iad 2 t34 t35),oT 37 2 36,M 38 4,O 39 (.call (.f ych) [t38]),O 40 (.call (.f yd5) [t37,t39]),M 27 40,O 41 (.ext t27 0),O 42 (.ext t27 1),O 6 (.allocL (.agg [(.int .i64 (0)),(.int .i64 (0))])),⟨none,(.store 2 t6 t41),none⟩,M 7 42] [⟨5,(.one (.d)),0⟩,⟨6,(.one (.d)),0⟩,⟨8,(.agg [.i .i64,.i .i64]),0⟩,⟨9,(.agg [.i .i64,.i .i64]),0⟩] [(0,4),(1,4),(2,4),(3,4),(0,7),(1,7),(2,7),(3,7),(4,7),(5,7),(6,7),(0,10),(1,10),(2,10),(3,10),(4,10),(5,10),(6,10),(7,10),(8,10),(9,10),(0,11),(1,11),(2,11),(3,11),(4,11),(5,11),(6,11),(7,11),(8,11),(9,11),(14,15),(0,16),(1,16),(2,16),(3,16),(4,16),(5,16),(6,16),(7,16),(8,16),(9,16),(10,16),(11,16),(12,16),(13,16),(14,16),(15,16),(15,17)] [3,4,27,28,29,30,31,32,33,34,35,36,37,38,39,40,41,42]) (.seq (.seq (oQ [M 43 7,O 44 (.bin .neq t43 (I 0))] [43]) (.cond t44 (.seq (oQ [M 45 7,M 2 45] [0,6,7,12,13,44,45]) .ret) .skip)) (.ops [M 46 0,M 47 0,O 48 (.nilchk t47),O 49 (.fad 3 t48),oF 50 1 49,oT 51 2 6,O 52 (.buildD 2 (.agg [(.int .i64 (0)),(.int .i64 (0))]) 1 [(0,t51)]),O 53 (.app true 2 16 t50 t52),O 54 (.nilchk t46),O 55 (.fad 3 t54),⟨none,(.store 1 t55 t53),none⟩] [] [(0,1),(0,2),(0,3),(0,4),(0,5),(1,5),(2,5),(3,5),(4,5),(0,6),(1,6),(2,6),(3,6),(4,6),(0,7)] [6,7,44,46,47,48,49,50,51,52,53,54,55])))))) (oQ [O 56 (.bin .add t13 (I 1)),M 13 56] [56]))))
def ypp:TFn:=⟨1,[.tmp 2],(.seq (oQ [O 2 (.mv (I 0))] [2]) (.seq (.seq (oQ [M 8 0,O 9 (.nilchk t8),O 10 (.fad 0 t9),oF 11 1 10,O 12 (.len t11),O 13 (.mv (I 0))] [8,9,10,11]) (.block 0 (.loop 20643600 yfG))) (.seq (oQ [O 2 (.mv (I 0))] [0,12,13,14]) .ret)))⟩
def yql:TFn:=⟨2,[.tmp 3],(.seq (oQ [O 2 (.boxL t0),O 3 (.mv (.c (.bool false)))] [0,3]) (.seq (.ops [O 4 (.fad 0 t1),oT 5 2 4,O 6 (.fad 2 t2),oT 7 2 6,O 8 (.call (.f ybI) [t5,t7]),M 9 8,⟨some 10,(.fad 0 t2),some (9,true)⟩,⟨some 11,(.load true 2 t10),some (9,true)⟩,⟨some 12,(.fad 2 t1),some (9,true)⟩,⟨some 13,(.load true 2 t12),some (9,true)⟩,⟨some 14,(.call (.f ybI) [t11,t13]),some (9,true)⟩,O 15 (.pick t9 t14 (.c (.bool false))),M 3 15] [⟨3,(.agg [.i .i64,.i .i64,.i .i64,.i .i64]),0⟩,⟨7,(.agg [.i .i64,.i .i64,.i .i64,.i .i64]),0⟩] [] [1,2,4,5,6,7,8,9,10,11,12,13,14,15]) .ret))⟩
def yg8:TCode:=(.seq (oQ [oX 9 .lss 8 7] []) (.seq (.cond t9 .skip (.exit 0)) (.seq (.block 1 (.seq (oQ [M 10 8,M 5 10] [9,10]) (.seq (.ops [M 11 1,M 12 0,M 13 5,O 14 (.iad 4 t12 t13),oT 15 4 14,O 16 (.call t11 [t15])] [⟨3,(.agg [.i .i64,.i .i64,.i .i64,.i .i64]),0⟩,⟨4,(.agg [.i .i64,.i .i64,.i .i64,.i .i64]),0⟩] [] [11,12,13,14,15]) (.cond t16 (.seq (oQ [M 17 5,M 4 17] [0,1,5,7,8,16,17]) .ret) .skip)))) (oQ [O 18 (.bin .add t8 (I 1)),M 8 18] [5,16,18]))))
def ygA:TFn:=⟨2,[.tmp 4],(.seq (oQ [O 4 (.mv (I 0))] [4]) (.seq (.seq (oQ [M 6 0,O 7 (.len t6),O 8 (.mv (I 0))] [6]) (.block 0 (.loop 68674300 yg8))) (.seq (oQ [O 4 (.mv (I (-1)))] [0,1,7,8,9]) .ret)))⟩
def ycn:TFn:=⟨2,[.tmp 4],(.seq (oQ [O 4 (.mv (.c (.bool false)))] [4]) (.seq (oQ [M 5 0,M 6 1,O 7 (.call (.f ycK) [t5,t6]),O 8 (.bin .geq t7 (I 0)),M 4 8] [0,1,5,6,7,8]) .ret))⟩
def yCn:TFn:=⟨2,[.tmp 3],(.seq (oQ [O 2 (.boxH false 4 t0),O 3 (.mv (.c (.bool false)))] [0,3]) (.seq (oQ [oF 4 1 1,O 5 (.mkFn (.func ydU) [] [t2]),O 6 (.call (.f ya2) [t4,t5]),M 3 6] [1,2,4,5,6]) .ret))⟩
def yFH:TFn:=⟨2,[.tmp 4],(.seq (oQ [O 3 (.boxH false 1 t1),O 4 (.mv (.c (.bool false)))] [1,4]) (.seq (oQ [M 5 0,O 6 (.mkFn (.func ycV) [] [t3]),O 7 (.call (.f ya2) [t5,t6]),M 4 7] [0,3,5,6,7]) .ret))⟩
def ykQ:TFn:=⟨3,[.tmp 5],(.seq (oQ [O 5 (.mv (.c (.bool false)))] [5]) (.seq (.ops [M 6 0,M 7 1,oX 8 .lss 6 7,M 9 8,⟨some 10,(.load false 1 t2),some (9,true)⟩,⟨some 11,(.nilchk t10),some (9,true)⟩,⟨some 12,(.fad 1 t11),some (9,true)⟩,⟨some 13,(.load false 1 t12),some (9,true)⟩,⟨some 14,(.mv t0),some (9,true)⟩,⟨some 15,(.iad 1 t13 t14),some (9,true)⟩,⟨some 16,(.load false 1 t15),some (9,true)⟩,⟨some 17,(.load false 1 t2),some (9,true)⟩,⟨some 18,(.nilchk t17),some (9,true)⟩,⟨some 19,(.fad 1 t18),some (9,true)⟩,⟨some 20,(.load false 1 t19),some (9,true)⟩,⟨some 21,(.mv t1),some (9,true)⟩,⟨some 22,(.iad 1 t20 t21),some (9,true)⟩,⟨some 23,(.load false 1 t22),some (9,true)⟩,⟨some 24,(.call (.f yhA) [t16,t23]),some (9,true)⟩,O 25 (.pick t9 t24 (.c (.bool false))),M 5 25] [⟨7,(.agg [.d,.d,.d,.d]),0⟩,⟨9,(.one (.d)),0⟩,⟨10,(.one (.d)),0⟩,⟨14,(.agg [.d,.d,.d,.d]),0⟩,⟨16,(.one (.d)),0⟩,⟨17,(.one (.d)),0⟩] [(0,1),(4,8),(5,8),(6,8),(7,8),(4,11),(5,11),(6,11),(7,11),(8,11),(9,11),(10,11),(4,12),(5,12),(6,12),(7,12),(8,12),(9,12),(10,12),(4,13),(5,13),(6,13),(7,13),(8,13),(9,13),(10,13),(4,14),(5,14),(6,14),(7,14),(8,14),(9,14),(10,14),(4,15),(5,15),(6,15),(7,15),(8,15),(9,15),(10,15),(11,15),(12,15),(13,15),(14,15),(4,16),(5,16),(6,16),(7,16),(8,16),(9,16),(10,16),(4,17),(5,17),(6,17),(7,17),(8,17),(9,17),(10,17)] [0,1,2,6,7,8,9,10,11,12,13,14,15,16,17,18,19,20,21,22,23,24,25]) .ret))⟩
def ygk:TCode:=(.seq (oQ [oX 23 .lss 22 21] []) (.seq (.cond t23 .skip (.exit 2)) (.seq (.block 3 (.seq (oQ [M 24 22,M 8 24] [23,24]) (.seq (oQ [M 25 1,M 26 7,M 27 8,O 28 (.call t25 [t26,t27])] [25,26,27]) (.cond t28 (.seq (oQ [M 29 7,M 30 8,M 4 29,M 5 30,O 6 (.mv (.c (.bool true)))] [0,1,7,8,13,14,21,22,28,29,30]) .ret) .skip)))) (oQ [O 31 (.bin .add t22 (I 1)),M 22 31] [8,28,31]))))
def yg9:TCode:=(.seq (oQ [oX 15 .lss 14 13] []) (.seq (.cond t15 .skip (.exit 0)) (.seq (.block 1 (.seq (oQ [M 16 14,M 7 16] [15,16]) (.seq (oQ [M 17 0,O 18 (.nilchk t17),O 19 (.fad 0 t18),oF 20 1 19,O 21 (.len t20),O 22 (.mv (I 0))] [17,18,19,20]) (.block 2 (.loop 97930200 ygk))))) (oQ [O 32 (.bin .add t14 (I 1)),M 14 32] [7,21,22,23,32]))))
def yvN:TFn:=⟨2,[.tmp 4,.tmp 5,.tmp 6],(.seq (oQ [O 4 (.mv (I 0)),O 5 (.mv (I 0)),O 6 (.mv (.c (.bool false)))] [4,5,6]) (.seq (.seq (oQ [M 9 0,O 10 (.nilchk t9),O 11 (.fad 0 t10),oF 12 1 11,O 13 (.len t12),O 14 (.mv (I 0))] [9,10,11,12]) (.block 0 (.loop 97930201 yg9))) (.seq (oQ [O 4 (.mv (I 0)),O 5 (.mv (I 0)),O 6 (.mv (.c (.bool false)))] [0,1,13,14,15]) .ret)))⟩
def yil:TFn:=⟨2,[.tmp 4],(.seq (oQ [O 4 (.mv (.c .nils))] [4]) (.seq (.seq (oQ [M 5 1,O 6 (.bin .lss t5 (I 0))] [5]) (.cond t6 (oQ [⟨some 7,.bad,none⟩,⟨none,.bad,none⟩] [6,7]) .skip)) (.seq (.seq (oQ [M 8 1,M 9 0,O 10 (.cap t9),M 11 0,O 12 (.len t11),oX 13 .sub 10 12,oX 14 .sub 8 13,M 1 14] [6,8,9,10,11,12,13,14]) (.seq (oQ [M 15 1,O 16 (.bin .gtr t15 (I 0))] [15]) (.cond t16 (oQ [M 17 0,M 18 0,O 19 (.cap t18),O 20 (.slc 4 t17 none (some t19) none),M 21 1,O 22 (.appZ true 4 32 (.agg [(.int .i64 (0)),(.int .i64 (0)),(.int .i64 (0)),(.int .i64 (0))]) t20 t21),M 23 0,O 24 (.len t23),O 25 (.slc 4 t22 none (some t24) none),M 0 25] [1,16,17,18,19,20,21,22,23,24,25]) .skip))) (.seq (oQ [M 26 0,M 4 26] [0,1,16,26]) .ret))))⟩
def ypq:TCode:=(.seq (oQ [oX 12 .lss 11 10] []) (.seq (.cond t12 .skip (.exit 0)) (.seq (.block 1 (.seq (.ops [O 13 (.iad 1 t9 t11),oF 14 1 13,M 5 14] [⟨0,(.one (.d)),0⟩,⟨1,(.one (.d)),0⟩] [] [12,13,14]) (.seq (oQ [M 15 3,M 16 5,O 17 (.len t16),oX 18 .add 15 17,M 3 18] [5,15,16,17,18]) (.seq (oQ [M 19 3,O 20 (.bin .lss t19 (I 0))] [19]) (.cond t20 (oQ [⟨some 21,.bad,none⟩,⟨none,.bad,none⟩] [20,21]) .skip))))) (oQ [O 22 (.bin .add t11 (I 1)),M 11 22] [20,22]))))
def ylV:TCode:=(.seq (oQ [oX 28 .lss 27 26] []) (.seq (.cond t28 .skip (.exit 2)) (.seq (.block 3 (.seq (.ops [O 29 (.iad 1 t25 t27),oF 30 1 29,M 8 30] [⟨0,(.one (.d)),0⟩,⟨1,(.one (.d)),0⟩] [] [28,29,30]) (.ops [M 31 6,M 32 8,O 33 (.app true 4 32 t31 t32),M 6 33] [⟨2,.raw,1⟩] [] [8,31,32,33]))) (oQ [O 34 (.bin .add t27 (I 1)),M 27 34] [34]))))
def ynx:TFn:=⟨1,[.tmp 2],(.seq (oQ [O 2 (.mv (.c .nils))] [2]) (.seq (oQ [O 3 (.mv (I 0))] []) (.seq (.seq (oQ [M 9 0,O 10 (.len t9),O 11 (.mv (I 0))] []) (.block 0 (.loop 14451100 ypq))) (.seq (oQ [M 23 3,O 24 (.call (.f ydV) [(.c .nils),t23]),M 6 24] [3,9,10,11,12,23,24]) (.seq (.seq (oQ [M 25 0,O 26 (.len t25),O 27 (.mv (I 0))] [0]) (.block 2 (.loop 14451101 ylV))) (.seq (oQ [M 35 6,M 2 35] [6,25,26,27,28,35]) .ret))))))⟩
def yUe:TFn:=⟨1,[.tmp 2],(.seq (oQ [O 2 (.mv (I 0))] []) (.seq (.seq (oQ [M 3 0,O 4 (.bin .geq t3 (.c (.int .u32 (65536))))] [3]) (.cond t4 (.seq (oQ [M 5 0,O 6 (.bin .shr t5 (.c (.int .u64 (16)))),M 0 6] [2,4,5,6]) (oQ [O 2 (.mv (I 16))] [])) .skip)) (.seq (.seq (oQ [M 7 0,O 8 (.bin .geq t7 (.c (.int .u32 (256))))] [4,7]) (.cond t8 (.seq (oQ [M 9 0,O 10 (.bin .shr t9 (.c (.int .u64 (8)))),M 0 10] [8,9,10]) (oQ [M 11 2,O 12 (.bin .add t11 (I 8)),M 2 12] [11,12])) .skip)) (.seq (oQ [M 13 2,M 14 0,O 15 (.conv .u8 t14),O 16 (.idx false 256 1 (.c (.agg [(.int .u8 (0)),(.int .u8 (1)),(.int .u8 (2)),(.int .u8 (2)),(.int .u8 (3)),(.int .u8 (3)),(.int .u8 (3)),(.int .u8 (3)),(.int .u8 (4)),(.int .u8 (4)),(.int .u8 (4)),(.int .u8 (4)),(.int .u8 (4)),(.int .u8 (4)),(.int .u8 (4)),(.int .u8 (4)),(.int .u8 (5)),(.int .u8 (5)),(.int .u8 (5)),(.int .u8 (5)),(.int .u8 (5)),(.int .u8 (5)),(.int .u8 (5)),(.int .u8 (5)),(.int .u8 (5)),(.int .u8 (5)),(.int .u8 (5)),(.int .u8 (5)),(.int .u8 (5)),(.int .u8 (5)),(.int .u8 (5)),(.int .u8 (5)),(.int .u8 (6)),(.int .u8 (6)),(.int .u8 (6)),(.int .u8 (6)),(.int .u8 (6)),(.int .u8 (6)),(.int .u8 (6)),(.int .u8 (6)),(.int .u8 (6)),(.int .u8 (6)),(.int .u8 (6)),(.int .u8 (6)),(.int .u8 (6)),(.int .u8 (6)),(.int .u8 (6)),(.int .u8 (6)),(.int .u8 (6)),(.int .u8 (6)),(.int .u8 (6)),(.int .u8 (6)),(.int .u8 (6)),(.int .u8 (6)),(.int .u8 (6)),(.int .u8 (6)),(.int .u8 (6)),(.int .u8 (6)),(.int .u8 (6)),(.int .u8 (6)),(.int .u8 (6)),(.int .u8 (6)),(.int .u8 (6)),(.int .u8 (6)),(.int .u8 (7)),(.int .u8 (7)),(.int .u8 (7)),(.int .u8 (7)),(.int .u8 (7)),(.int .u8 (7)),(.int .u8 (7)),(.int .u8 (7)),(.int .u8 (7)),(.int .u8 (7)),(.int .u8 (7)),(.int .u8 (7)),(.int .u8 (7)),(.int .u8 (7)),(.int .u8 (7)),(.int .u8 (7)),(.int .u8 (7)),(.int .u8 (7)),(.int .u8 (7)),(.int .u8 (7)),(.int .u8 (7)),(.int .u8 (7)),(.int .u8 (7)),(.int .u8 (7)),(.int .u8 (7)),(.int .u8 (7)),(.int .u8 (7)),(.int .u8 (7)),(.int .u8 (7)),(.int .u8 (7)),(.int .u8 (7)),(.int .u8 (7)),(.int .u8 (7)),(.int .u8 (7)),(.int .u8 (7)),(.int .u8 (7)),(.int .u8 (7)),(.int .u8 (7)),(.int .u8 (7)),(.int .u8 (7)),(.int .u8 (7)),(.int .u8 (7)),(.int .u8 (7)),(.int .u8 (7)),(.int .u8 (7)),(.int .u8 (7)),(.int .u8 (7)),(.int .u8 (7)),(.int .u8 (7)),(.int .u8 (7)),(.int .u8 (7)),(.int .u8 (7)),(.int .u8 (7)),(.int .u8 (7)),(.int .u8 (7)),(.int .u8 (7)),(.int .u8 (7)),(.int .u8 (7)),(.int .u8 (7)),(.int .u8 (7)),(.int .u8 (7)),(.int .u8 (7)),(.int .u8 (7)),(.int .u8 (7)),(.int .u8 (8)),(.int .u8 (8)),(.int .u8 (8)),(.int .u8 (8)),(.int .u8 (8)),(.int .u8 (8)),(.int .u8 (8)),(.int .u8 (8)),(.int .u8 (8)),(.int .u8 (8)),(.int .u8 (8)),(.int .u8 (8)),(.int .u8 (8)),(.int .u8 (8)),(.int .u8 (8)),(.int .u8 (8)),(.int .u8 (8)),(.int .u8 (8)),(.int .u8 (8)),(.int .u8 (8)),(.int .u8 (8)),(.int .u8 (8)),(.int .u8 (8)),(.int .u8 (8)),(.int .u8 (8)),(.int .u8 (8)),(.int .u8 (8)),(.int .u8 (8)),(.int .u8 (8)),(.int .u8 (8)),(.int .u8 (8)),(.int .u8 (8)),(.int .u8 (8)),(.int .u8 (8)),(.int .u8 (8)),(.int .u8 (8)),(.int .u8 (8)),(.int .u8 (8)),(.int .u8 (8)),(.int .u8 (8)),(.int .u8 (8)),(.int .u8 (8)),(.int .u8 (8)),(.int .u8 (8)),(.int .u8 (8)),(.int .u8 (8)),(.int .u8 (8)),(.int .u8 (8)),(.int .u8 (8)),(.int .u8 (8)),(.int .u8 (8)),(.int .u8 (8)),(.int .u8 (8)),(.int .u8 (8)),(.int .u8 (8)),(.int .u8 (8)),(.int .u8 (8)),(.int .u8 (8)),(.int .u8 (8)),(.int .u8 (8)),(.int .u8 (8)),(.int .u8 (8)),(.int .u8 (8)),(.int .u8 (8)),(.int .u8 (8)),(.int .u8 (8)),(.int .u8 (8)),(.int .u8 (8)),(.int .u8 (8)),(.int .u8 (8)),(.int .u8 (8)),(.int .u8 (8)),(.int .u8 (8)),(.int .u8 (8)),(.int .u8 (8)),(.int .u8 (8)),(.int .u8 (8)),(.int .u8 (8)),(.int .u8 (8)),(.int .u8 (8)),(.int .u8 (8)),(.int .u8 (8)),(.int .u8 (8)),(.int .u8 (8)),(.int .u8 (8)),(.int .u8 (8)),(.int .u8 (8)),(.int .u8 (8)),(.int .u8 (8)),(.int .u8 (8)),(.int .u8 (8)),(.int .u8 (8)),(.int .u8 (8)),(.int .u8 (8)),(.int .u8 (8)),(.int .u8 (8)),(.int .u8 (8)),(.int .u8 (8)),(.int .u8 (8)),(.int .u8 (8)),(.int .u8 (8)),(.int .u8 (8)),(.int .u8 (8)),(.int .u8 (8)),(.int .u8 (8)),(.int .u8 (8)),(.int .u8 (8)),(.int .u8 (8)),(.int .u8 (8)),(.int .u8 (8)),(.int .u8 (8)),(.int .u8 (8)),(.int .u8 (8)),(.int .u8 (8)),(.int .u8 (8)),(.int .u8 (8)),(.int .u8 (8)),(.int .u8 (8)),(.int .u8 (8)),(.int .u8 (8)),(.int .u8 (8)),(.int .u8 (8)),(.int .u8 (8)),(.int .u8 (8)),(.int .u8 (8)),(.int .u8 (8)),(.int .u8 (8)),(.int .u8 (8))])) t15),O 17 (.conv .i64 t16),oX 18 .add 13 17,M 2 18] [0,8,13,14,15,16,17,18]) .ret))))⟩
def yU6:TFn:=⟨1,[.tmp 2],(.seq (oQ [O 2 (.mv (I 0))] [2]) (.seq (.cond (.c (.bool false)) (.seq (oQ [M 3 0,O 4 (.conv .u32 t3),O 5 (.call (.f yAP) [t4]),M 2 5] [0,3,4,5]) .ret) .skip) (.seq (oQ [M 6 0,O 7 (.call (.f yoH) [t6]),M 2 7] [0,6,7]) .ret)))⟩
def yMn:TCode:=(.seq (.seq (.ops [M 18 9,M 19 1,oX 20 .gtr 18 19,M 21 20,⟨some 22,(.mv t3),some (21,true)⟩,⟨some 23,(.mv t0),some (21,true)⟩,⟨some 24,(.mv t9),some (21,true)⟩,⟨some 25,(.iad 4 t23 t24),some (21,true)⟩,⟨some 26,(.load true 4 t25),some (21,true)⟩,⟨some 27,(.mv t0),some (21,true)⟩,⟨some 28,(.mv t9),some (21,true)⟩,⟨some 29,(.bin .sub t28 (I 1)),some (21,true)⟩,⟨some 30,(.iad 4 t27 t29),some (21,true)⟩,⟨some 31,(.load true 4 t30),some (21,true)⟩,⟨some 32,(.call t22 [t26,t31]),some (21,true)⟩,⟨some 33,(.bin .lss t32 (I 0)),some (21,true)⟩,O 34 (.pick t21 t33 (.c (.bool false)))] [⟨7,(.agg [.i .i64,.i .i64,.i .i64,.i .i64]),0⟩,⟨8,(.agg [.i .i64,.i .i64,.i .i64,.i .i64]),0⟩,⟨12,(.agg [.i .i64,.i .i64,.i .i64,.i .i64]),0⟩,⟨13,(.agg [.i .i64,.i .i64,.i .i64,.i .i64]),0⟩] [(0,1),(4,5),(4,6),(5,6),(4,7),(4,8),(4,9),(5,9),(6,9),(7,9),(8,9),(4,10),(5,10),(6,10),(7,10),(8,10),(9,10),(4,11),(5,11),(6,11),(7,11),(8,11),(9,11),(4,12),(5,12),(6,12),(7,12),(8,12),(4,13),(5,13),(6,13),(7,13),(8,13)] [18,19,20,21,22,23,24,25,26,27,28,29,30,31,32,33]) (.cond t34 .skip (.exit 2))) (.seq (.block 3 (.ops [M 37 0,M 38 9,M 39 0,M 40 9,O 41 (.bin .sub t40 (I 1)),M 42 0,M 43 9,O 44 (.bin .sub t43 (I 1)),O 45 (.iad 4 t42 t44),oT 46 4 45,M 47 0,M 48 9,O 49 (.iad 4 t47 t48),oT 50 4 49,O 51 (.iad 4 t37 t38),⟨none,(.store 4 t51 t46),none⟩,O 52 (.iad 4 t39 t41),⟨none,(.store 4 t52 t50),none⟩] [⟨8,(.agg [.i .i64,.i .i64,.i .i64,.i .i64]),0⟩,⟨9,(.agg [.i .i64,.i .i64,.i .i64,.i .i64]),0⟩,⟨12,(.agg [.i .i64,.i .i64,.i .i64,.i .i64]),0⟩,⟨13,(.agg [.i .i64,.i .i64,.i .i64,.i .i64]),0⟩,⟨14,(.agg [.i .i64,.i .i64,.i .i64,.i .i64]),0⟩,⟨15,(.agg [.i .i64,.i .i64,.i .i64,.i .i64]),0⟩,⟨16,(.agg [.i .i64,.i .i64,.i .i64,.i .i64]),0⟩,⟨17,(.agg [.i .i64,.i .i64,.i .i64,.i .i64]),0⟩] [(0,1),(0,2),(1,2),(0,3),(1,3),(2,3),(0,4),(1,4),(2,4),(0,5),(1,5),(2,5),(3,5),(4,5),(0,6),(1,6),(2,6),(3,6),(4,6),(5,6),(0,7),(1,7),(2,7),(3,7),(4,7),(5,7),(0,8),(1,8),(2,8),(3,8),(4,8),(0,9),(1,9),(2,9),(3,9),(4,9),(0,10),(1,10),(2,10),(3,10),(4,10),(5,10),(6,10),(7,10),(8,10),(9,10),(0,11),(1,11),(2,11),(3,11),(4,11),(5,11),(6,11),(7,11),(8,11),(9,11),(10,11),(0,12),(1,12),(2,12),(3,12),(4,12),(5,12),(6,12),(7,12),(8,12),(9,12),(0,13),(1,13),(2,13),(3,13),(4,13),(5,13),(6,13),(7,13),(8,13),(9,13),(2,14),(3,14),(4,14),(2,15),(3,15),(4,15)] [34,37,38,39,40,41,42,43,44,45,46,47,48,49,50,51,52])) (oQ [M 35 9,O 36 (.bin .sub t35 (I 1)),M 9 36] [35,36])))
def yMo:TCode:=(.seq (.seq (oQ [M 12 8,M 13 2,oX 14 .lss 12 13] [12,13]) (.cond t14 .skip (.exit 0))) (.seq (.block 1 (.seq (oQ [M 17 8,M 9 17] [14,17]) (.block 2 (.loop 53122800 yMn)))) (oQ [M 15 8,O 16 (.bin .add t15 (I 1)),M 8 16] [9,15,16,34])))
def ytX:TFn:=⟨4,[],(.seq (oQ [M 10 1,O 11 (.bin .add t10 (I 1)),M 8 11] [10,11]) (.block 0 (.loop 53122801 yMo)))⟩
def t135:Opd:=.t 135
def t141:Opd:=.t 141
def yMp:TCode:=(.block 1 (.seq (oQ [M 21 2,M 22 1,oX 23 .sub 21 22,M 12 23] [21,22,23]) (.seq (.seq (oQ [M 24 12,O 25 (.bin .leq t24 (I 12))] [24]) (.cond t25 (.seq (oQ [M 26 0,M 27 1,M 28 2,M 29 4,O 30 (.call (.f yeE) [t26,t27,t28,t29])] [0,1,2,3,4,10,11,12,25,26,27,28,29,30]) .ret) .skip)) (.seq (.seq (oQ [M 31 3,O 32 (.bin .eql t31 (I 0))] [25,31]) (.cond t32 (.seq (oQ [M 33 0,M 34 1,M 35 2,M 36 4,O 37 (.call (.f 210) [t33,t34,t35,t36])] [0,1,2,3,4,10,11,12,32,33,34,35,36,37]) .ret) .skip)) (.seq (.seq (oQ [M 38 10,O 39 (.un .not t38)] [32,38]) (.cond t39 (.seq (oQ [M 40 0,M 41 1,M 42 2,M 43 4,O 44 (.call (.f 211) [t40,t41,t42,t43])] [39,40,41,42,43,44]) (oQ [M 45 3,O 46 (.bin .sub t45 (I 1)),M 3 46] [45,46])) .skip)) (.seq (oQ [M 48 0,M 49 1,M 50 2,M 51 4,O 52 (.call (.f 212) [t48,t49,t50,t51]),M 47 52,O 53 (.ext t47 0),O 54 (.ext t47 1),M 13 53,M 14 54] [39,47,48,49,50,51,52,53,54]) (.seq (.seq (oQ [M 55 14,O 56 (.bin .eql t55 (I 2))] [55]) (.cond t56 (.seq (oQ [M 57 0,M 58 1,M 59 2,M 60 4,O 61 (.call (.f 213) [t57,t58,t59,t60])] [14,56,57,58,59,60,61]) (.seq (oQ [M 62 2,O 63 (.bin .sub t62 (I 1)),M 64 13,M 65 1,oX 66 .sub 64 65,oX 67 .sub 63 66,M 13 67] [62,63,64,65,66,67]) (oQ [O 14 (.mv (I 1))] []))) .skip)) (.seq (.seq (oQ [M 68 10,M 69 68,⟨some 70,(.mv t11),some (69,true)⟩,O 71 (.pick t69 t70 (.c (.bool false))),M 72 71,⟨some 73,(.mv t14),some (72,true)⟩,⟨some 74,(.bin .eql t73 (I 1)),some (72,true)⟩,O 75 (.pick t72 t74 (.c (.bool false)))] [14,56,68,69,70,71,72,73,74]) (.cond t75 (.seq (oQ [M 76 0,M 77 1,M 78 2,M 79 4,O 80 (.call (.f 214) [t76,t77,t78,t79])] [75,76,77,78,79]) (.cond t80 .ret .skip)) .skip)) (.seq (.seq (.ops [M 81 1,O 82 (.bin .gtr t81 (I 0)),M 83 82,⟨some 84,(.mv t4),some (83,true)⟩,⟨some 85,(.mv t0),some (83,true)⟩,⟨some 86,(.mv t1),some (83,true)⟩,⟨some 87,(.bin .sub t86 (I 1)),some (83,true)⟩,⟨some 88,(.iad 4 t85 t87),some (83,true)⟩,⟨some 89,(.load true 4 t88),some (83,true)⟩,⟨some 90,(.mv t0),some (83,true)⟩,⟨some 91,(.mv t13),some (83,true)⟩,⟨some 92,(.iad 4 t90 t91),some (83,true)⟩,⟨some 93,(.load true 4 t92),some (83,true)⟩,⟨some 94,(.call t84 [t89,t93]),some (83,true)⟩,⟨some 95,(.bin .lss t94 (I 0)),some (83,true)⟩,⟨some 96,(.un .not t95),some (83,true)⟩,O 97 (.pick t83 t96 (.c (.bool false)))] [⟨7,(.agg [.i .i64,.i .i64,.i .i64,.i .i64]),0⟩,⟨8,(.agg [.i .i64,.i .i64,.i .i64,.i .i64]),0⟩,⟨11,(.agg [.i .i64,.i .i64,.i .i64,.i .i64]),0⟩,⟨12,(.agg [.i .i64,.i .i64,.i .i64,.i .i64]),0⟩] [(3,4),(3,5),(4,5),(3,6),(4,6),(3,7),(3,8),(3,9),(4,9),(5,9),(6,9),(7,9),(8,9),(3,10),(4,10),(5,10),(6,10),(7,10),(8,10),(9,10),(3,11),(4,11),(5,11),(6,11),(7,11),(8,11),(3,12),(4,12),(5,12),(6,12),(7,12),(8,12)] [75,80,81,82,83,84,85,86,87,88,89,90,91,92,93,94,95,96]) (.cond t97 (.seq (oQ [M 98 0,M 99 1,M 100 2,M 101 13,M 102 4,O 103 (.call (.f 215) [t98,t99,t100,t101,t102]),M 15 103] [1,12,13,97,98,99,100,101,102,103]) (.seq (oQ [M 104 15,M 1 104] [15,104]) (.exit 1))) .skip)) (.seq (oQ [M 106 0,M 107 1,M 108 2,M 109 13,M 110 4,O 111 (.call (.f 216) [t106,t107,t108,t109,t110]),M 105 111,O 112 (.ext t105 0),O 113 (.ext t105 1),M 16 112,M 17 113] [10,11,13,97,105,106,107,108,109,110,111,112,113]) (.seq (oQ [M 114 17,M 11 114] [17,114]) (.seq (oQ [M 115 16,M 116 1,oX 117 .sub 115 116,M 118 2,M 119 16,oX 120 .sub 118 119,M 18 117,M 19 120] [115,116,117,118,119,120]) (.seq (oQ [M 121 12,O 122 (.bin .quo t121 (I 8)),M 20 122] [12,121,122]) (.seq (oQ [M 123 18,M 124 19,oX 125 .lss 123 124] [123,124]) (.cond t125 (.seq (oQ [M 126 18,M 127 20,oX 128 .geq 126 127,M 10 128] [18,19,20,125,126,127,128]) (.seq (oQ [M 129 0,M 130 1,M 131 16,M 132 3,M 133 4,O 134 (.call (.f ycG) [t129,t130,t131,t132,t133])] [1,129,130,131,132,133,134]) (oQ [M 135 16,O 136 (.bin .add t135 (I 1)),M 1 136] [16,135,136]))) (.seq (oQ [M 137 19,M 138 20,oX 139 .geq 137 138,M 10 139] [18,19,20,125,137,138,139]) (.seq (oQ [M 140 0,M 141 16,O 142 (.bin .add t141 (I 1)),M 143 2,M 144 3,M 145 4,O 146 (.call (.f ycG) [t140,t142,t143,t144,t145])] [2,140,141,142,143,144,145,146]) (oQ [M 147 16,M 2 147] [16,147]))))))))))))))))))
def yy0:TFn:=⟨5,[],(.seq (oQ [O 10 (.mv (.c (.bool true)))] []) (.seq (oQ [O 11 (.mv (.c (.bool true)))] []) (.block 0 (.loop 92709400 yMp))))⟩
def yAT:TFn:=⟨2,[],(.seq (oQ [M 5 0,O 6 (.len t5),M 4 6] [5,6]) (oQ [M 7 0,M 8 4,M 9 4,O 10 (.conv .u64 t9),O 11 (.call (.f yIb) [t10]),M 12 1,O 13 (.call (.f ycG) [t7,(I 0),t8,t11,t12])] [0,1,4,7,8,9,10,11,12,13]))⟩
def yvO:TFn:=⟨2,[.tmp 4],(.seq (oQ [O 2 (.boxL t0),O 3 (.boxL t1),O 4 (.mv (I 0))] [0,1,4]) (.seq (.ops [O 8 (.fad 0 t2),oT 9 2 8,O 10 (.fad 0 t3),oT 11 2 10,O 12 (.call (.f ycM) [t9,t11]),M 7 12,O 13 (.ext t7 0),O 14 (.ext t7 1),M 5 13,M 6 14] [⟨1,(.agg [.i .i64,.i .i64,.i .i64,.i .i64]),0⟩,⟨3,(.agg [.i .i64,.i .i64,.i .i64,.i .i64]),0⟩] [] [2,3,6,7,8,9,10,11,12,13,14]) (.seq (oQ [M 15 5,M 4 15] [5,15]) .ret)))⟩
def ylW:TCode:=(.seq (oQ [oX 18 .lss 17 16] []) (.seq (.cond t18 .skip (.exit 0)) (.seq (.block 1 (.seq (.ops [O 19 (.iad 4 t15 t17),oT 20 4 19,O 6 (.allocL (.agg [(.int .i64 (0)),(.int .i64 (0)),(.int .i64 (0)),(.int .i64 (0))])),⟨none,(.store 4 t6 t20),none⟩] [⟨0,(.agg [.i .i64,.i .i64,.i .i64,.i .i64]),0⟩,⟨1,(.agg [.i .i64,.i .i64,.i .i64,.i .i64]),0⟩] [] [18,19,20]) (.seq (.seq (.ops [oT 21 2 4,O 22 (.fad 0 t6),oT 23 2 22,O 24 (.call (.f ybI) [t21,t23])] [⟨2,(.agg [.i .i64,.i .i64,.i .i64,.i .i64]),0⟩] [] [21,22,23]) (.cond t24 (.seq (oQ [O 2 (.mv (.c (.bool true)))] [0,4,6,15,16,17,24]) .ret) .skip)) (.seq (.ops [oT 25 2 4,O 26 (.fad 2 t6),oT 27 2 26,O 28 (.call (.f ybI) [t25,t27])] [⟨2,(.agg [.i .i64,.i .i64,.i .i64,.i .i64]),0⟩] [] [24,25,26,27]) (.cond t28 (.ops [O 29 (.fad 2 t6),oT 30 2 29,⟨none,(.store 2 t4 t30),none⟩] [⟨1,(.agg [.i .i64,.i .i64,.i .i64,.i .i64]),0⟩] [] [6,28,29,30]) .skip))))) (oQ [O 31 (.bin .add t17 (I 1)),M 17 31] [6,28,31]))))
def yy1:TFn:=⟨1,[.tmp 2],(.seq (oQ [O 2 (.mv (.c (.bool false)))] [2]) (.seq (oQ [M 7 0,O 8 (.nilchk t7),O 9 (.fad 1 t8),oF 10 1 9,O 11 (.call (.f ye4) [t10]),M 3 11] [7,8,9,10,11]) (.seq (oQ [M 12 3,O 13 (.call (.f ybC) [t12,(.f ydc)])] [12,13]) (.seq (oQ [O 14 (.call (.f ych) [(I 0)]),O 4 (.allocL (.agg [(.int .i64 (0)),(.int .i64 (0))])),⟨none,(.store 2 t4 t14),none⟩] [14]) (.seq (.seq (oQ [M 15 3,O 16 (.len t15),O 17 (.mv (I 0))] [3]) (.block 0 (.loop 93107500 ylW))) (.seq (.ops [oT 32 2 4,M 33 0,O 34 (.nilchk t33),O 35 (.fad 0 t34),oF 36 1 35,O 37 (.iad 3 t36 (I 0)),O 38 (.fad 0 t37),oF 39 1 38,O 40 (.call (.f ych) [t39]),O 41 (.call (.f ybI) [t32,t40]),M 2 41] [⟨5,(.agg [.i .i64,.d,.d]),0⟩,⟨7,(.agg [.i .i64,.d,.d]),0⟩] [(0,1),(0,2),(0,3),(0,4),(0,5),(0,6),(0,7),(0,8)] [0,4,15,16,17,18,32,33,34,35,36,37,38,39,40,41]) .ret))))))⟩
def ykR:TFn:=⟨3,[.tmp 5],(.seq (oQ [O 5 (.mv (.c (.bool false)))] [5]) (.seq (.ops [oF 11 1 2,O 12 (.nilchk t11),O 13 (.fad 0 t12),oF 14 1 13,M 15 0,O 16 (.iad 3 t14 t15),oT 17 3 16,O 18 (.call (.f ycZ) [t17]),M 10 18,O 19 (.ext t10 0),O 20 (.ext t10 1),M 6 19,M 7 20] [⟨3,(.agg [.d,.d,.d,.d]),0⟩,⟨5,(.agg [.i .i64,.d,.d]),0⟩,⟨6,(.agg [.i .i64,.d,.d]),0⟩] [] [7,10,11,12,13,14,15,16,17,18,19,20]) (.seq (.ops [M 22 6,oF 23 1 2,O 24 (.nilchk t23),O 25 (.fad 0 t24),oF 26 1 25,O 27 (.len t26),O 28 (.call (.f yf8) [t22,t27]),M 21 28,O 29 (.ext t21 0),O 30 (.ext t21 1),O 8 (.allocL (.agg [(.int .i64 (0)),(.int .i64 (0))])),⟨none,(.store 2 t8 t29),none⟩,M 9 30] [⟨4,(.agg [.d,.d,.d,.d]),0⟩] [] [6,9,21,22,23,24,25,26,27,28,29,30]) (.seq (.ops [M 31 0,M 32 1,oX 33 .eql 31 32,M 34 33,⟨some 35,(.load false 1 t2),some (34,true)⟩,⟨some 36,(.nilchk t35),some (34,true)⟩,⟨some 37,(.fad 2 t36),some (34,true)⟩,⟨some 38,(.load false 1 t37),some (34,true)⟩,⟨some 39,(.mv t0),some (34,true)⟩,⟨some 40,(.iad 1 t38 t39),some (34,true)⟩,⟨some 41,(.load false 1 t40),some (34,true)⟩,⟨some 42,(.mv t0),some (34,true)⟩,⟨some 43,(.iad 2 t41 t42),some (34,true)⟩,⟨some 44,(.load true 2 t43),some (34,true)⟩,⟨some 45,(.load true 2 t8),some (34,true)⟩,⟨some 46,(.call (.f ybI) [t44,t45]),some (34,true)⟩,O 47 (.pick t34 t46 (.c (.bool false))),M 5 47] [⟨7,(.agg [.d,.d,.d,.d]),0⟩,⟨9,(.one (.d)),0⟩,⟨10,(.one (.d)),0⟩,⟨12,(.agg [.i .i64,.i .i64]),0⟩,⟨13,(.agg [.i .i64,.i .i64]),0⟩] [(0,1),(4,8),(5,8),(6,8),(7,8),(4,11),(5,11),(6,11),(7,11),(8,11),(9,11),(10,11),(4,14),(5,14),(6,14),(7,14),(8,14),(9,14),(10,14),(11,14),(12,14),(13,14)] [0,1,2,8,31,32,33,34,35,36,37,38,39,40,41,42,43,44,45,46,47]) .ret))))⟩
def ykS:TFn:=⟨3,[.tmp 5],(.seq (oQ [O 5 (.mv (.c (.bool false)))] [5]) (.seq (.ops [oF 6 1 2,O 7 (.nilchk t6),O 8 (.fad 2 t7),oF 9 1 8,M 10 0,O 11 (.iad 1 t9 t10),oF 12 1 11,M 13 0,O 14 (.iad 2 t12 t13),oT 15 2 14,oF 16 1 2,O 17 (.nilchk t16),O 18 (.fad 2 t17),oF 19 1 18,M 20 0,O 21 (.iad 1 t19 t20),oF 22 1 21,M 23 1,O 24 (.iad 2 t22 t23),oT 25 2 24,O 26 (.call (.f ybI) [t15,t25]),M 5 26] [⟨3,(.agg [.d,.d,.d,.d]),0⟩,⟨5,(.one (.d)),0⟩,⟨6,(.one (.d)),0⟩,⟨8,(.agg [.i .i64,.i .i64]),0⟩,⟨9,(.agg [.i .i64,.i .i64]),0⟩,⟨13,(.agg [.d,.d,.d,.d]),0⟩,⟨15,(.one (.d)),0⟩,⟨16,(.one (.d)),0⟩,⟨18,(.agg [.i .i64,.i .i64]),0⟩,⟨19,(.agg [.i .i64,.i .i64]),0⟩] [(0,4),(1,4),(2,4),(3,4),(0,7),(1,7),(2,7),(3,7),(4,7),(5,7),(6,7),(0,10),(1,10),(2,10),(3,10),(4,10),(5,10),(6,10),(7,10),(8,10),(9,10),(0,11),(1,11),(2,11),(3,11),(4,11),(5,11),(6,11),(7,11),(8,11),(9,11),(0,12),(1,12),(2,12),(3,12),(4,12),(5,12),(6,12),(7,12),(8,12),(9,12),(0,13),(1,13),(2,13),(3,13),(4,13),(5,13),(6,13),(7,13),(8,13),(9,13),(0,14),(1,14),(2,14),(3,14),(4,14),(5,14),(6,14),(7,14),(8,14),(9,14),(10,14),(11,14),(12,14),(13,14),(0,15),(1,15),(2,15),(3,15),(4,15),(5,15),(6,15),(7,15),(8,15),(9,15),(0,16),(1,16),(2,16),(3,16),(4,16),(5,16),(6,16),(7,16),(8,16),(9,16),(0,17),(1,17),(2,17),(3,17),(4,17),(5,17),(6,17),(7,17),(8,17),(9,17),(10,17),(11,17),(12,17),(13,17),(14,17),(15,17),(16,17),(0,18),(1,18),(2,18),(3,18),(4,18),(5,18),(6,18),(7,18),(8,18),(9,18),(0,19),(1,19),(2,19),(3,19),(4,19),(5,19),(6,19),(7,19),(8,19),(9,19)] [0,1,2,6,7,8,9,10,11,12,13,14,15,16,17,18,19,20,21,22,23,24,25,26]) .ret))⟩
def ykT:TFn:=⟨3,[.tmp 5],(.seq (oQ [O 5 (.mv (.c (.bool false)))] [5]) (.seq (.ops [M 6 1,O 7 (.bin .eql t6 (I 0)),M 8 7,⟨some 9,(.load false 1 t2),some (8,true)⟩,⟨some 10,(.nilchk t9),some (8,true)⟩,⟨some 11,(.fad 3 t10),some (8,true)⟩,⟨some 12,(.load false 1 t11),some (8,true)⟩,⟨some 13,(.mv t0),some (8,true)⟩,⟨some 14,(.iad 2 t12 t13),some (8,true)⟩,⟨some 15,(.load true 2 t14),some (8,true)⟩,⟨some 16,(.load false 1 t2),some (8,true)⟩,⟨some 17,(.nilchk t16),some (8,true)⟩,⟨some 18,(.fad 3 t17),some (8,true)⟩,⟨some 19,(.load false 1 t18),some (8,true)⟩,⟨some 20,(.iad 2 t19 (I 0)),some (8,true)⟩,⟨some 21,(.load true 2 t20),some (8,true)⟩,⟨some 22,(.eqA true 2 [(0,(some .i64)),(1,(some .i64))] t15 t21),some (8,true)⟩,O 23 (.pick t8 t22 (.c (.bool false))),M 5 23] [⟨6,(.agg [.d,.d,.d,.d]),0⟩,⟨8,(.agg [.i .i64,.i .i64]),0⟩,⟨9,(.agg [.i .i64,.i .i64]),0⟩,⟨13,(.agg [.d,.d,.d,.d]),0⟩,⟨14,(.agg [.i .i64,.i .i64]),0⟩,⟨15,(.agg [.i .i64,.i .i64]),0⟩] [(3,7),(4,7),(5,7),(6,7),(3,10),(4,10),(5,10),(6,10),(7,10),(8,10),(9,10),(3,11),(4,11),(5,11),(6,11),(7,11),(8,11),(9,11),(3,12),(4,12),(5,12),(6,12),(7,12),(8,12),(9,12),(3,13),(4,13),(5,13),(6,13),(7,13),(8,13),(9,13),(3,14),(4,14),(5,14),(6,14),(7,14),(8,14),(9,14),(3,15),(4,15),(5,15),(6,15),(7,15),(8,15),(9,15)] [0,1,2,6,7,8,9,10,11,12,13,14,15,16,17,18,19,20,21,22,23]) .ret))⟩
def ykU:TFn:=⟨3,[.tmp 5],(.seq (oQ [O 5 (.mv (.c (.bool false)))] [5]) (.seq (.ops [M 6 0,M 7 1,oX 8 .eql 6 7,M 9 8,⟨some 10,(.load false 1 t2),some (9,true)⟩,⟨some 11,(.nilchk t10),some (9,true)⟩,⟨some 12,(.fad 1 t11),some (9,true)⟩,⟨some 13,(.load false 1 t12),some (9,true)⟩,⟨some 14,(.mv t0),some (9,true)⟩,⟨some 15,(.iad 1 t13 t14),some (9,true)⟩,⟨some 16,(.load false 1 t15),some (9,true)⟩,⟨some 17,(.len t16),some (9,true)⟩,⟨some 18,(.bin .neq t17 (I 1)),some (9,true)⟩,O 19 (.pick t9 t18 (.c (.bool false))),M 5 19] [⟨7,(.agg [.d,.d,.d,.d]),0⟩,⟨9,(.one (.d)),0⟩,⟨10,(.one (.d)),0⟩] [] [0,1,2,6,7,8,9,10,11,12,13,14,15,16,17,18,19]) .ret))⟩
def ytY:TFn:=⟨2,[.tmp 4,.tmp 5,.tmp 6],(.seq (oQ [O 2 (.boxH false 1 t0),O 4 (.mv (I 0)),O 5 (.mv (I 0)),O 6 (.mv (.c (.bool false)))] [0,4,5,6]) (.seq (.seq (oQ [M 10 1] [1]) (.block 0 (.seq (oQ [O 12 (.bin .eql t10 (.c (.int .u8 (1)))),M 11 12] [12]) (.cond t11 (.seq (oQ [oF 14 1 2,O 15 (.mkFn (.func ybh) [] [t2]),O 16 (.call (.f ydb) [t14,t15]),M 13 16,O 17 (.ext t13 0),O 18 (.ext t13 1),O 19 (.ext t13 2),M 7 17,M 8 18,M 9 19] [10,11,13,14,15,16,17,18,19]) (.seq (.seq (oQ [M 20 9,O 21 (.un .not t20),M 22 21,⟨some 23,(.load false 1 t2),some (22,true)⟩,⟨some 24,(.call (.f ydW) [t23]),some (22,true)⟩,O 25 (.pick t22 t24 (.c (.bool false)))] [2,20,21,22,23,24]) (.cond t25 (.seq (oQ [O 4 (.mv (I (-1))),O 5 (.mv (I (-1))),O 6 (.mv (.c (.bool true)))] [7,8,9,25]) .ret) .skip)) (.seq (oQ [M 26 7,M 27 8,M 28 9,M 4 26,M 5 27,M 6 28] [7,8,9,25,26,27,28]) .ret))) (.seq (oQ [O 30 (.bin .eql t10 (.c (.int .u8 (2)))),M 29 30] [11,30]) (.cond t29 (.seq (oQ [oF 31 1 2,O 32 (.mkFn (.func ybi) [] [t2]),O 33 (.call (.f ydb) [t31,t32]),O 34 (.ext t33 0),O 35 (.ext t33 1),O 36 (.ext t33 2),M 4 34,M 5 35,M 6 36] [2,10,29,31,32,33,34,35,36]) .ret) (.seq (oQ [O 38 (.bin .eql t10 (.c (.int .u8 (4)))),M 37 38] [29,38]) (.cond t37 (.seq (oQ [oF 39 1 2,O 40 (.mkFn (.func ybj) [] [t2]),O 41 (.call (.f ydb) [t39,t40]),O 42 (.ext t41 0),O 43 (.ext t41 1),O 44 (.ext t41 2),M 4 42,M 5 43,M 6 44] [2,10,37,39,40,41,42,43,44]) .ret) (.seq (oQ [O 46 (.bin .eql t10 (.c (.int .u8 (8)))),M 45 46] [10,37,46]) (.cond t45 (.seq (oQ [oF 47 1 2,O 48 (.mkFn (.func ybk) [] [t2]),O 49 (.call (.f ydb) [t47,t48]),O 50 (.ext t49 0),O 51 (.ext t49 1),O 52 (.ext t49 2),M 4 50,M 5 51,M 6 52] [2,45,47,48,49,50,51,52]) .ret) .skip)))))))))) (.seq (oQ [oF 53 1 2,O 54 (.mkFn (.func ybl) [] [t2]),O 55 (.call (.f ydb) [t53,t54]),O 56 (.ext t55 0),O 57 (.ext t55 1),O 58 (.ext t55 2),M 4 56,M 5 57,M 6 58] [2,45,53,54,55,56,57,58]) .ret)))⟩
def ylX:TCode:=(.seq (oQ [O 33 (.bin .lss t32 (I 5))] []) (.seq (.cond t33 .skip (.exit 0)) (.seq (.block 1 (.seq (oQ [M 34 32,M 9 34] [33,34]) (.seq (oQ [M 36 6,M 37 9,O 38 (.bin .shl (.c (.int .u8 (1))) t37),O 39 (.call (.f ybx) [t36,t38]),M 35 39,O 40 (.ext t35 0),O 41 (.ext t35 1),O 42 (.ext t35 2),M 10 40,M 11 41,M 12 42] [10,11,35,36,37,38,39,40,41,42]) (.seq (oQ [M 43 12,O 44 (.un .not t43)] [12,43]) (.cond t44 (.ops [O 45 (.fad 0 t8),oF 46 1 45,M 47 9,O 48 (.bin .shl (.c (.int .u8 (1))) t47),oX 49 .or 46 48,O 50 (.fad 0 t8),⟨none,(.store 1 t50 t49),none⟩] [⟨1,(.agg [.i .u8,.d]),0⟩,⟨6,(.agg [.i .u8,.d]),0⟩] [(0,2),(1,2),(0,3),(1,3)] [9,44,45,46,47,48,49,50]) .skip))))) (oQ [O 51 (.bin .add t32 (I 1)),M 32 51] [9,44,51]))))
def yIp:TFn:=⟨2,[.cell 4 true 2,.tmp 5],(.seq (oQ [O 3 (.boxL t1),O 4 (.allocL (.agg [(.int .u8 (0)),.nils])),O 5 (.mv (I 0))] [1,5]) (.seq (oQ [M 14 0,oT 15 1 3,O 16 (.call (.f yej) [t14,t15]),M 13 16,O 17 (.ext t13 0),O 18 (.ext t13 1),M 6 17,M 7 18] [0,3,13,14,15,16,17,18]) (.seq (.seq (oQ [M 19 7,O 20 (.bin .eql t19 (I 0))] [19]) (.cond t20 (oQ [M 21 6,O 22 (.call (.f yfF) [t21]),M 7 22] [20,21,22]) .skip)) (.seq (.seq (oQ [M 23 7,O 24 (.bin .neq t23 (I 0))] [20,23]) (.cond t24 (.seq (oQ [O 25 (.build [(.int .u8 (0)),.nils] []),M 26 7,⟨none,(.store 2 t4 t25),none⟩,M 5 26] [6,7,24,25,26]) .ret) .skip)) (.seq (oQ [M 27 6,O 28 (.nilchk t27),O 29 (.fad 2 t28),oF 30 1 29,O 31 (.build [(.int .u8 (0)),.nils] [(1,1,t30)]),O 8 (.allocL (.agg [(.int .u8 (0)),.nils])),⟨none,(.store 2 t8 t31),none⟩] [7,24,27,28,29,30,31]) (.seq (.seq (oQ [O 32 (.mv (I 0))] []) (.block 0 (.loop 65264200 ylX))) (.seq (oQ [oT 52 2 8,⟨none,(.store 2 t4 t52),none⟩,O 5 (.mv (I 0))] [6,8,32,33,52]) .ret)))))))⟩
def yrI:TCode:=(.seq (oQ [oX 18 .lss 17 16] []) (.seq (.cond t18 .skip (.exit 0)) (.seq (.block 1 (.seq (.ops [M 19 17,O 20 (.iad 1 t15 t17),oF 21 1 20,M 7 19,M 8 21] [⟨1,(.one (.d)),0⟩,⟨2,(.one (.d)),0⟩] [] [18,19,20,21]) (.seq (.ops [M 22 1,M 23 7,O 24 (.iad 1 t22 t23),oF 25 1 24,M 9 25] [⟨2,(.one (.d)),0⟩,⟨3,(.one (.d)),0⟩] [] [7,22,23,24,25]) (.seq (oQ [M 26 2,M 27 8,M 28 9,O 29 (.call t26 [t27,t28]),O 30 (.un .not t29)] [8,9,26,27,28,29]) (.cond t30 (.seq (oQ [O 6 (.mv (.c (.bool false)))] [1,2,15,16,17,30]) .ret) .skip))))) (oQ [O 31 (.bin .add t17 (I 1)),M 17 31] [30,31]))))
def yfd:TFn:=⟨3,[.tmp 6],(.seq (oQ [O 6 (.mv (.c (.bool false)))] [6]) (.seq (.seq (oQ [M 10 0,O 11 (.len t10),M 12 1,O 13 (.len t12),oX 14 .neq 11 13] [10,11,12,13]) (.cond t14 (.seq (oQ [O 6 (.mv (.c (.bool false)))] [0,1,2,14]) .ret) .skip)) (.seq (.seq (oQ [M 15 0,O 16 (.len t15),O 17 (.mv (I 0))] [0,14]) (.block 0 (.loop 8009400 yrI))) (.seq (oQ [O 6 (.mv (.c (.bool true)))] [1,2,15,16,17,18]) .ret))))⟩
def ypr:TCode:=(.seq (oQ [oX 14 .lss 13 12] []) (.seq (.cond t14 .skip (.exit 0)) (.seq (.block 1 (.seq (oQ [M 15 13,M 5 15] [14,15]) (.seq (.ops [M 16 0,M 17 5,O 18 (.iad 2 t16 t17),oT 19 2 18,M 20 1,M 21 5,O 22 (.iad 2 t20 t21),oT 23 2 22,O 24 (.eqA true 2 [(0,(some .i64)),(1,(some .i64))] t19 t23)] [⟨2,(.agg [.i .i64,.i .i64]),0⟩,⟨3,(.agg [.i .i64,.i .i64]),0⟩,⟨6,(.agg [.i .i64,.i .i64]),0⟩,⟨7,(.agg [.i .i64,.i .i64]),0⟩] [(0,1),(0,4),(1,4),(2,4),(3,4),(0,5),(1,5),(2,5),(3,5),(4,5),(0,6),(1,6),(2,6),(3,6),(0,7),(1,7),(2,7),(3,7)] [5,16,17,18,19,20,21,22,23]) (.cond t24 (.seq (oQ [O 4 (.mv (.c (.bool false)))] [0,1,12,13,24]) .ret) .skip)))) (oQ [O 25 (.bin .add t13 (I 1)),M 13 25] [24,25]))))
def yne:TFn:=⟨2,[.tmp 4],(.seq (oQ [O 4 (.mv (.c (.bool false)))] [4]) (.seq (.seq (oQ [M 6 0,O 7 (.len t6),M 8 1,O 9 (.len t8),oX 10 .neq 7 9] [6,7,8,9]) (.cond t10 (.seq (oQ [O 4 (.mv (.c (.bool false)))] [0,1,10]) .ret) .skip)) (.seq (.seq (oQ [M 11 0,O 12 (.len t11),O 13 (.mv (I 0))] [10,11]) (.block 0 (.loop 11234800 ypr))) (.seq (oQ [O 4 (.mv (.c (.bool true)))] [0,1,12,13,14]) .ret))))⟩
def ylY:TCode:=(.seq (oQ [O 47 (.bin .lss t46 (I 5))] []) (.seq (.cond t47 .skip (.exit 0)) (.seq (.block 1 (.seq (oQ [M 48 46,M 11 48] [47,48]) (.seq (.seq (.ops [O 49 (.fad 0 t5),oF 50 1 49,M 51 11,oX 52 .shr 50 51,O 53 (.bin .and t52 (.c (.int .u8 (1)))),O 54 (.bin .eql t53 (.c (.int .u8 (0))))] [⟨1,(.agg [.i .u8,.d]),0⟩] [] [49,50,51,52,53]) (.cond t54 (.exit 1) .skip)) (.seq (oQ [M 56 8,M 57 11,O 58 (.bin .shl (.c (.int .u8 (1))) t57),O 59 (.call (.f ybx) [t56,t58]),M 55 59,O 60 (.ext t55 0),O 61 (.ext t55 1),O 62 (.ext t55 2),M 12 60,M 13 61,M 14 62] [11,12,13,54,55,56,57,58,59,60,61,62]) (.seq (oQ [M 63 14] [14]) (.cond t63 (.seq (oQ [O 6 (.mv (.c (.bool false))),O 7 (.mv (I 0))] [5,8,46,63]) .ret) .skip)))))) (oQ [O 64 (.bin .add t46 (I 1)),M 46 64] [11,54,63,64]))))
def yDZ:TFn:=⟨3,[.tmp 6,.tmp 7],(.seq (oQ [O 4 (.boxL t1),O 5 (.boxL t2),O 6 (.mv (.c (.bool false))),O 7 (.mv (I 0))] [1,2,6,7]) (.seq (oQ [M 16 0,oT 17 1 4,O 18 (.call (.f yej) [t16,t17]),M 15 18,O 19 (.ext t15 0),O 20 (.ext t15 1),M 8 19,M 9 20] [0,4,15,16,17,18,19,20]) (.seq (.seq (oQ [M 21 9,O 22 (.bin .neq t21 (I 0))] [21]) (.cond t22 (.seq (oQ [M 23 9,O 6 (.mv (.c (.bool false))),M 7 23] [5,8,9,22,23]) .ret) .skip)) (.seq (.seq (.ops [O 24 (.fad 0 t5),oF 25 1 24,O 26 (.bin .geq t25 (.c (.int .u8 (32)))),M 27 26,⟨some 28,(.mv t8),some (27,false)⟩,⟨some 29,(.nilchk t28),some (27,false)⟩,⟨some 30,(.fad 2 t29),some (27,false)⟩,⟨some 31,(.load false 1 t30),some (27,false)⟩,⟨some 32,(.fad 1 t5),some (27,false)⟩,⟨some 33,(.load false 1 t32),some (27,false)⟩,⟨some 34,(.call (.f ybs) [t31,t33,(.f yaN)]),some (27,false)⟩,⟨some 35,(.un .not t34),some (27,false)⟩,O 36 (.pick t27 (.c (.bool true)) t35)] [⟨1,(.agg [.i .u8,.d]),0⟩,⟨9,(.agg [.i .u8,.d]),0⟩] [(4,8),(5,8),(6,8),(7,8),(4,9),(5,9),(6,9),(7,9)] [9,22,24,25,26,27,28,29,30,31,32,33,34,35]) (.cond t36 (.seq (oQ [O 6 (.mv (.c (.bool false))),O 7 (.mv (I 0))] [5,8,36]) .ret) .skip)) (.seq (.seq (.ops [O 37 (.fad 0 t5),oF 38 1 37,O 39 (.bin .and t38 (.c (.int .u8 (8)))),O 40 (.bin .neq t39 (.c (.int .u8 (0))))] [⟨1,(.agg [.i .u8,.d]),0⟩] [] [36,37,38,39]) (.cond t40 (.seq (oQ [M 41 8,O 42 (.call (.f yfF) [t41]),M 10 42] [40,41,42]) (.seq (oQ [M 43 10,O 44 (.bin .neq t43 (I 0))] [43]) (.cond t44 (.seq (oQ [M 45 10,O 6 (.mv (.c (.bool false))),M 7 45] [5,8,10,44,45]) .ret) .skip))) .skip)) (.seq (.seq (oQ [O 46 (.mv (I 0))] [10,40,44]) (.block 0 (.loop 47320500 ylY))) (.seq (oQ [O 6 (.mv (.c (.bool true))),O 7 (.mv (I 0))] [5,8,46,47]) .ret)))))))⟩
def yps:TCode:=(.seq (.seq (.ops [M 5 4,O 6 (.fad 2 t1),oF 7 1 6,O 8 (.len t7),oX 9 .lss 5 8] [⟨2,(.agg [.i .i64,.d,.d]),0⟩] [] [5,6,7,8]) (.cond t9 .skip (.exit 0))) (.seq (.block 1 (.ops [M 12 3,O 13 (.fad 2 t1),oF 14 1 13,M 15 4,O 16 (.iad 1 t14 t15),oF 17 1 16,O 18 (.fad 1 t1),oF 19 1 18,M 20 4,O 21 (.bin .add t20 (I 1)),O 22 (.iad 1 t19 t21),oF 23 1 22,O 24 (.fad 1 t1),oF 25 1 24,M 26 4,O 27 (.iad 1 t25 t26),oF 28 1 27,oX 29 .sub 23 28,oX 30 .mul 17 29,oX 31 .add 12 30,M 3 31] [⟨2,(.agg [.i .i64,.d,.d]),0⟩,⟨4,(.one (.i .i64)),0⟩,⟨5,(.one (.i .i64)),0⟩,⟨7,(.agg [.i .i64,.d,.d]),0⟩,⟨10,(.one (.i .i64)),0⟩,⟨11,(.one (.i .i64)),0⟩,⟨13,(.agg [.i .i64,.d,.d]),0⟩,⟨15,(.one (.i .i64)),0⟩,⟨16,(.one (.i .i64)),0⟩] [(0,1),(0,2),(0,3),(1,3),(2,3),(0,4),(0,5),(0,6),(1,6),(2,6),(3,6),(4,6),(5,6),(0,7),(1,7),(2,7),(3,7),(4,7),(5,7),(0,8),(1,8),(2,8),(3,8),(4,8),(5,8),(6,8),(7,8),(0,9),(1,9),(2,9),(3,9),(4,9),(5,9),(6,9),(7,9),(0,10),(1,10),(2,10),(3,10),(4,10),(5,10),(0,11),(1,11),(2,11),(3,11),(4,11),(5,11),(0,12),(1,12),(2,12),(3,12),(4,12),(5,12),(6,12),(7,12),(8,12),(9,12),(10,12),(11,12),(0,13),(1,13),(2,13),(3,13),(4,13),(5,13),(6,13),(7,13),(8,13),(9,13),(10,13),(11,13),(0,14),(1,14),(2,14),(3,14),(4,14),(5,14),(6,14),(7,14),(8,14),(9,14),(10,14),(11,14),(12,14),(13,14),(0,15),(1,15),(2,15),(3,15),(4,15),(5,15),(6,15),(7,15),(8,15),(9,15),(10,15),(11,15),(0,16),(1,16),(2,16),(3,16),(4,16),(5,16),(6,16),(7,16),(8,16),(9,16),(10,16),(11,16),(0,17),(1,17),(2,17),(3,17),(4,17),(5,17),(0,18)] [9,12,13,14,15,16,17,18,19,20,21,22,23,24,25,26,27,28,29,30,31])) (oQ [M 10 4,O 11 (.bin .add t10 (I 1)),M 4 11] [10,11])))
def yKk:TFn:=⟨1,[.tmp 2],(.seq (oQ [O 1 (.boxL t0),O 2 (.mv (I 0))] [0,2]) (.seq (oQ [O 3 (.mv (I 0))] []) (.seq (.seq (oQ [O 4 (.mv (I 0))] []) (.block 0 (.loop 21661800 yps))) (.seq (oQ [M 32 3,M 2 32] [1,3,4,9,32]) .ret))))⟩
def yOU:TFn:=⟨1,[.tmp 2],(.seq (oQ [O 2 (.mv (.c (.int .u64 (0))))] [2]) (.seq (.seq (oQ [M 3 0,O 4 (.bin .lss t3 (I 0))] [3]) (.cond t4 (.seq (oQ [M 5 0,O 6 (.bin .add t5 (I 1)),O 7 (.un .neg t6),O 8 (.conv .u64 t7),O 9 (.bin .add t8 (.c (.int .u64 (1)))),M 2 9] [0,4,5,6,7,8,9]) .ret) .skip)) (.seq (oQ [M 10 0,O 11 (.conv .u64 t10),M 2 11] [0,4,10,11]) .ret)))⟩
def ypt:TCode:=(.seq (.seq (oQ [M 5 1,O 6 (.bin .neq t5 (.c (.int .u64 (0))))] [5]) (.cond t6 .skip (.exit 0))) (.block 1 (.ops [M 7 1,M 8 0,M 9 1,oX 10 .rem 8 9,M 0 7,M 1 10] [] [(0,1),(0,2),(1,2),(0,3),(2,4),(3,4)] [6,7,8,9,10])))
def yOV:TFn:=⟨2,[.tmp 4],(.seq (oQ [O 4 (.mv (.c (.int .u64 (0))))] [4]) (.seq (.block 0 (.loop 16774900 ypt)) (.seq (oQ [M 11 0,M 4 11] [0,1,6,11]) .ret)))⟩
def yMq:TFn:=⟨3,[.cell 6 true 2,.tmp 7],(.seq (oQ [O 4 (.boxL t1),O 5 (.boxL t2),O 6 (.allocL (.agg [(.int .i64 (0)),(.int .i64 (0))])),O 7 (.mv (I 0))] [1,2,7]) (.seq (.seq (.ops [O 9 (.fad 0 t4),oF 10 1 9,O 11 (.bin .gtr t10 (.c (.int .u64 (0)))),M 12 11,⟨some 13,(.fad 0 t5),some (12,false)⟩,⟨some 14,(.load false 1 t13),some (12,false)⟩,⟨some 15,(.bin .gtr t14 (.c (.int .u64 (0)))),some (12,false)⟩,O 16 (.pick t12 (.c (.bool true)) t15),M 17 16,⟨some 18,(.fad 1 t4),some (17,false)⟩,⟨some 19,(.load false 1 t18),some (17,false)⟩,⟨some 20,(.bin .gtr t19 (.c (.int .u64 (1000000000000000000)))),some (17,false)⟩,O 21 (.pick t17 (.c (.bool true)) t20),M 22 21,⟨some 23,(.fad 1 t5),some (22,false)⟩,⟨some 24,(.load false 1 t23),some (22,false)⟩,⟨some 25,(.bin .gtr t24 (.c (.int .u64 (1000000000000000000)))),some (22,false)⟩,O 26 (.pick t22 (.c (.bool true)) t25)] [⟨1,(.agg [.i .u64,.i .u64]),0⟩,⟨5,(.agg [.i .u64,.i .u64]),0⟩,⟨10,(.agg [.i .u64,.i .u64]),0⟩,⟨15,(.agg [.i .u64,.i .u64]),0⟩] [] [9,10,11,12,13,14,15,16,17,18,19,20,21,22,23,24,25]) (.cond t26 (.seq (oQ [O 27 (.build [(.int .i64 (0)),(.int .i64 (0))] []),⟨none,(.store 2 t6 t27),none⟩,O 7 (.mv (I 16))] [0,4,5,26,27]) .ret) .skip)) (.seq (.ops [O 28 (.fad 1 t4),oF 29 1 28,O 30 (.conv .i64 t29),O 31 (.fad 1 t5),oF 32 1 31,O 33 (.conv .i64 t32),O 34 (.build [(.int .i64 (0)),(.int .i64 (0))] [(0,1,t30),(1,1,t33)]),O 8 (.allocL (.agg [(.int .i64 (0)),(.int .i64 (0))])),⟨none,(.store 2 t8 t34),none⟩] [⟨1,(.agg [.i .u64,.i .u64]),0⟩,⟨4,(.agg [.i .u64,.i .u64]),0⟩] [] [4,5,26,28,29,30,31,32,33,34]) (.seq (.seq (oQ [M 35 0] [0]) (.cond t35 (.ops [O 36 (.fad 0 t8),oF 37 1 36,O 38 (.un .neg t37),O 39 (.fad 0 t8),⟨none,(.store 1 t39 t38),none⟩] [⟨1,(.agg [.i .i64,.i .i64]),0⟩,⟨4,(.agg [.i .i64,.i .i64]),0⟩] [] [35,36,37,38,39]) .skip)) (.seq (oQ [oT 40 2 8,⟨none,(.store 2 t6 t40),none⟩,O 7 (.mv (I 0))] [8,35,40]) .ret)))))⟩
def yMr:TFn:=⟨2,[.cell 4 true 2,.tmp 5],(.seq (oQ [O 4 (.allocL (.agg [(.int .i64 (0)),(.int .i64 (0))])),O 5 (.mv (I 0))] [5]) (.seq (.seq (oQ [M 9 1,O 10 (.bin .eql t9 (I 0))] [9]) (.cond t10 (.seq (oQ [O 11 (.build [(.int .i64 (0)),(.int .i64 (0))] []),⟨none,(.store 2 t4 t11),none⟩,O 5 (.mv (I 18))] [0,1,10,11]) .ret) .skip)) (.seq (oQ [M 12 0,O 13 (.call (.f yoI) [t12]),M 14 1,O 15 (.call (.f yoI) [t14]),M 6 13,M 7 15] [10,12,13,14,15]) (.seq (oQ [M 16 6,M 17 7,O 18 (.call (.f yrC) [t16,t17]),M 8 18] [16,17,18]) (.seq (.ops [M 19 0,O 20 (.bin .lss t19 (I 0)),M 21 1,O 22 (.bin .lss t21 (I 0)),O 23 (.eqB true t20 t22),M 24 6,M 25 8,oX 26 .quo 24 25,O 27 (.build [(.int .u64 (0)),(.int .u64 (0))] [(1,1,t26)]),M 28 7,M 29 8,oX 30 .quo 28 29,O 31 (.build [(.int .u64 (0)),(.int .u64 (0))] [(1,1,t30)]),O 32 (.call (.f yo3) [t23,t27,t31]),O 33 (.ext t32 0),O 34 (.ext t32 1),⟨none,(.store 2 t4 t33),none⟩,M 5 34] [] [(0,2),(1,2),(0,3),(1,3),(0,5),(1,5),(2,5),(3,5),(4,5),(0,6),(1,6),(2,6),(3,6),(4,6),(5,6),(0,7),(1,7),(2,7),(3,7),(4,7),(0,8),(1,8),(2,8),(3,8),(4,8),(0,9),(1,9),(2,9),(3,9),(4,9),(5,9),(6,9),(7,9),(8,9),(0,10),(1,10),(2,10),(3,10),(4,10),(5,10),(6,10),(7,10),(8,10),(9,10),(0,11),(1,11),(2,11),(3,11),(4,11),(5,11),(6,11),(7,11),(8,11),(0,12),(1,12),(2,12),(3,12),(4,12),(5,12),(6,12),(7,12),(8,12),(14,15)] [0,1,6,7,8,19,20,21,22,23,24,25,26,27,28,29,30,31,32,33,34]) .ret)))))⟩
def yKl:TFn:=⟨2,[.cell 4 true 2],(.seq (oQ [O 2 (.boxL t0),O 4 (.allocL (.agg [(.int .i64 (0)),(.int .i64 (0))]))] [0]) (.seq (.ops [O 8 (.fad 0 t2),oF 9 1 8,M 10 1,O 11 (.iad 3 t9 t10),oT 12 3 11,O 13 (.call (.f ync) [t12]),O 14 (.fad 0 t2),oF 15 1 14,O 16 (.len t15),O 17 (.call (.f yo4) [t13,t16]),M 7 17,O 18 (.ext t7 0),O 19 (.ext t7 1),O 5 (.allocL (.agg [(.int .i64 (0)),(.int .i64 (0))])),⟨none,(.store 2 t5 t18),none⟩,M 6 19] [⟨1,(.agg [.d,.d]),0⟩,⟨3,(.agg [.i .i64,.d,.d]),0⟩,⟨4,(.agg [.i .i64,.d,.d]),0⟩,⟨7,(.agg [.d,.d]),0⟩] [(0,2),(1,2),(0,6),(1,6),(2,6),(3,6),(4,6),(5,6),(0,7),(1,7),(2,7),(3,7),(4,7),(5,7),(0,8),(1,8),(2,8),(3,8),(4,8),(5,8),(11,12),(0,13),(1,13),(2,13),(3,13),(4,13),(5,13),(6,13),(7,13),(8,13),(9,13),(10,13),(11,13),(12,13),(12,14)] [1,2,6,7,8,9,10,11,12,13,14,15,16,17,18,19]) (.seq (oQ [oT 20 2 5,⟨none,(.store 2 t4 t20),none⟩] [5,20]) .ret)))⟩
def t139:Opd:=.t 139
def t147:Opd:=.t 147
def t149:Opd:=.t 149
def t151:Opd:=.t 151
def t160:Opd:=.t 160
def t161:Opd:=.t 161
def t162:Opd:=.t 162
def t163:Opd:=.t 163
def t164:Opd:=.t 164
def t165:Opd:=.t 165
def t167:Opd:=.t 167
def t168:Opd:=.t 168
def t169:Opd:=.t 169
def t171:Opd:=.t 171
def t173:Opd:=.t 173
def t174:Opd:=.t 174
def t176:Opd:=.t 176
def t177:Opd:=.t 177
def t179:Opd:=.t 179
def t182:Opd:=.t 182
def t183:Opd:=.t 183
def t184:Opd:=.t 184
def t185:Opd:=.t 185
def t186:Opd:=.t 186
def t187:Opd:=.t 187
def t188:Opd:=.t 188
def t189:Opd:=.t 189
def t190:Opd:=.t 190
def t191:Opd:=.t 191
def t192:Opd:=.t 192
def t193:Opd:=.t 193
def t194:Opd:=.t 194
def t195:Opd:=.t 195
def t196:Opd:=.t 196
def t197:Opd:=.t 197
def t198:Opd:=.t 198
def t199:Opd:=.t 199
def t200:Opd:=.t 200
def t201:Opd:=.t 201
def t202:Opd:=.t 202
def t203:Opd:=.t 203
def t204:Opd:=.t 204
def t205:Opd:=.t 205
def ypu:TCode:=(.seq (.seq (oQ [M 105 14,M 106 4,O 107 (.len t106),oX 108 .lss 105 107] [105,106,107]) (.cond t108 .skip (.exit 0))) (.seq (.block 1 (.seq (.seq (.ops [M 111 4,M 112 14,O 113 (.iad 1 t111 t112),oF 114 1 113,O 115 (.bin .lss t114 (I 0)),M 116 115,⟨some 117,(.mv t4),some (116,false)⟩,⟨some 118,(.mv t14),some (116,false)⟩,⟨some 119,(.iad 1 t117 t118),some (116,false)⟩,⟨some 120,(.load false 1 t119),some (116,false)⟩,⟨some 121,(.mv t0),some (116,false)⟩,⟨some 122,(.len t121),some (116,false)⟩,⟨some 123,(.bin .geq t120 t122),some (116,false)⟩,O 124 (.pick t116 (.c (.bool true)) t123),M 125 124,⟨some 126,(.fad 1 t9),some (125,false)⟩,⟨some 127,(.load false 1 t126),some (125,false)⟩,⟨some 128,(.mv t4),some (125,false)⟩,⟨some 129,(.mv t14),some (125,false)⟩,⟨some 130,(.iad 1 t128 t129),some (125,false)⟩,⟨some 131,(.load false 1 t130),some (125,false)⟩,⟨some 132,(.iad 1 t127 t131),some (125,false)⟩,⟨some 133,(.load false 1 t132),some (125,false)⟩,⟨some 134,(.len t133),some (125,false)⟩,⟨some 135,(.mv t0),some (125,false)⟩,⟨some 136,(.len t135),some (125,false)⟩,⟨some 137,(.bin .neq t134 t136),some (125,false)⟩,O 138 (.pick t125 (.c (.bool true)) t137),M 139 138,⟨some 140,(.fad 0 t3),some (139,false)⟩,⟨some 141,(.load false 1 t140),some (139,false)⟩,⟨some 142,(.mv t4),some (139,false)⟩,⟨some 143,(.mv t14),some (139,false)⟩,⟨some 144,(.iad 1 t142 t143),some (139,false)⟩,⟨some 145,(.load false 1 t144),some (139,false)⟩,⟨some 146,(.iad 1 t141 t145),some (139,false)⟩,⟨some 147,(.load false 1 t146),some (139,false)⟩,⟨some 148,(.len t147),some (139,false)⟩,⟨some 149,(.bin .neq t148 (I 1)),some (139,false)⟩,O 150 (.pick t139 (.c (.bool true)) t149),M 151 150,⟨some 152,(.fad 0 t3),some (151,false)⟩,⟨some 153,(.load false 1 t152),some (151,false)⟩,⟨some 154,(.mv t4),some (151,false)⟩,⟨some 155,(.mv t14),some (151,false)⟩,⟨some 156,(.iad 1 t154 t155),some (151,false)⟩,⟨some 157,(.load false 1 t156),some (151,false)⟩,⟨some 158,(.iad 1 t153 t157),some (151,false)⟩,⟨some 159,(.load false 1 t158),some (151,false)⟩,⟨some 160,(.iad 4 t159 (I 0)),some (151,false)⟩,⟨some 161,(.fad 0 t160),some (151,false)⟩,⟨some 162,(.load true 2 t161),some (151,false)⟩,⟨some 163,(.load true 2 t13),some (151,false)⟩,⟨some 164,(.eqA true 2 [(0,(some .i64)),(1,(some .i64))] t162 t163),some (151,false)⟩,O 165 (.pick t151 (.c (.bool true)) t164)] [⟨2,(.one (.i .i64)),0⟩,⟨3,(.one (.i .i64)),0⟩,⟨8,(.one (.i .i64)),0⟩,⟨9,(.one (.i .i64)),0⟩,⟨16,(.agg [.i .u8,.d]),0⟩,⟨19,(.one (.i .i64)),0⟩,⟨20,(.one (.i .i64)),0⟩,⟨21,(.one (.d)),0⟩,⟨22,(.one (.d)),0⟩,⟨30,(.agg [.d]),0⟩,⟨33,(.one (.i .i64)),0⟩,⟨34,(.one (.i .i64)),0⟩,⟨35,(.one (.d)),0⟩,⟨36,(.one (.d)),0⟩,⟨42,(.agg [.d]),0⟩,⟨45,(.one (.i .i64)),0⟩,⟨46,(.one (.i .i64)),0⟩,⟨47,(.one (.d)),0⟩,⟨48,(.one (.d)),0⟩,⟨49,(.agg [.i .i64,.i .i64,.i .i64,.i .i64]),0⟩,⟨51,(.agg [.i .i64,.i .i64,.i .i64,.i .i64]),0⟩] [(0,1),(6,7),(6,10),(7,10),(8,10),(9,10),(6,11),(7,11),(8,11),(9,11),(15,17),(16,17),(15,18),(16,18),(17,18),(15,19),(16,19),(15,20),(16,20),(15,24),(16,24),(17,24),(18,24),(19,24),(20,24),(21,24),(22,24),(23,24),(15,25),(16,25),(17,25),(18,25),(19,25),(20,25),(21,25),(22,25),(23,25),(29,31),(30,31),(29,32),(30,32),(31,32),(29,33),(30,33),(29,34),(30,34),(41,43),(42,43),(41,44),(42,44),(43,44),(41,45),(42,45),(41,46),(42,46),(41,52),(42,52),(43,52),(44,52),(45,52),(46,52),(47,52),(48,52),(49,52),(50,52),(51,52)] [108,111,112,113,114,115,116,117,118,119,120,121,122,123,124,125,126,127,128,129,130,131,132,133,134,135,136,137,138,139,140,141,142,143,144,145,146,147,148,149,150,151,152,153,154,155,156,157,158,159,160,161,162,163,164]) (.cond t165 (.seq (oQ [O 2 (.mv (.c (.bool false)))] [0,3,4,9,13,14,165]) .ret) .skip)) (.seq (.ops [O 166 (.fad 0 t3),oF 167 1 166,M 168 4,M 169 14,O 170 (.iad 1 t168 t169),oF 171 1 170,O 172 (.iad 1 t167 t171),oF 173 1 172,O 174 (.iad 4 t173 (I 0)),O 175 (.fad 2 t174),oT 176 2 175,⟨none,(.store 2 t13 t176),none⟩] [⟨1,(.agg [.d]),0⟩,⟨4,(.one (.i .i64)),0⟩,⟨5,(.one (.i .i64)),0⟩,⟨6,(.one (.d)),0⟩,⟨7,(.one (.d)),0⟩,⟨8,(.agg [.i .i64,.i .i64,.i .i64,.i .i64]),0⟩,⟨10,(.agg [.i .i64,.i .i64,.i .i64,.i .i64]),0⟩] [(0,2),(1,2),(0,3),(1,3),(2,3),(0,4),(1,4),(0,5),(1,5)] [165,166,167,168,169,170,171,172,173,174,175,176]) (.seq (.ops [M 177 14,O 178 (.bin .add t177 (I 1)),M 179 4,O 180 (.len t179),oX 181 .lss 178 180,M 182 181,⟨some 183,(.fad 1 t9),some (182,true)⟩,⟨some 184,(.load false 1 t183),some (182,true)⟩,⟨some 185,(.mv t4),some (182,true)⟩,⟨some 186,(.mv t14),some (182,true)⟩,⟨some 187,(.iad 1 t185 t186),some (182,true)⟩,⟨some 188,(.load false 1 t187),some (182,true)⟩,⟨some 189,(.iad 1 t184 t188),some (182,true)⟩,⟨some 190,(.load false 1 t189),some (182,true)⟩,⟨some 191,(.mv t4),some (182,true)⟩,⟨some 192,(.mv t14),some (182,true)⟩,⟨some 193,(.iad 1 t191 t192),some (182,true)⟩,⟨some 194,(.load false 1 t193),some (182,true)⟩,⟨some 195,(.iad 2 t190 t194),some (182,true)⟩,⟨some 196,(.load true 2 t195),some (182,true)⟩,⟨some 197,(.mv t0),some (182,true)⟩,⟨some 198,(.build [.nils,.nils] [(0,1,t197)]),some (182,true)⟩,⟨some 199,(.mv t4),some (182,true)⟩,⟨some 200,(.mv t14),some (182,true)⟩,⟨some 201,(.iad 1 t199 t200),some (182,true)⟩,⟨some 202,(.load false 1 t201),some (182,true)⟩,⟨some 203,(.call (.f ynd) [t198,t202]),some (182,true)⟩,⟨some 204,(.eqA true 2 [(0,(some .i64)),(1,(some .i64))] t196 t203),some (182,true)⟩,O 205 (.pick t182 t204 (.c (.bool false)))] [⟨7,(.agg [.i .u8,.d]),0⟩,⟨10,(.one (.i .i64)),0⟩,⟨11,(.one (.i .i64)),0⟩,⟨12,(.one (.d)),0⟩,⟨13,(.one (.d)),0⟩,⟨16,(.one (.i .i64)),0⟩,⟨17,(.one (.i .i64)),0⟩,⟨18,(.agg [.i .i64,.i .i64]),0⟩,⟨19,(.agg [.i .i64,.i .i64]),0⟩,⟨24,(.one (.i .i64)),0⟩,⟨25,(.one (.i .i64)),0⟩] [(0,2),(1,2),(0,3),(1,3),(6,8),(7,8),(6,9),(7,9),(8,9),(6,10),(7,10),(6,11),(7,11),(6,14),(7,14),(8,14),(9,14),(10,14),(11,14),(12,14),(13,14),(6,15),(7,15),(8,15),(9,15),(10,15),(11,15),(12,15),(13,15),(14,15),(6,16),(7,16),(8,16),(9,16),(10,16),(11,16),(12,16),(13,16),(6,17),(7,17),(8,17),(9,17),(10,17),(11,17),(12,17),(13,17),(6,20),(7,20),(8,20),(9,20),(10,20),(11,20),(12,20),(13,20),(14,20),(15,20),(16,20),(17,20),(18,20),(19,20),(6,21),(7,21),(8,21),(9,21),(10,21),(11,21),(12,21),(13,21),(14,21),(15,21),(16,21),(17,21),(18,21),(19,21),(6,22),(7,22),(8,22),(9,22),(10,22),(11,22),(12,22),(13,22),(14,22),(15,22),(16,22),(17,22),(18,22),(19,22),(20,22),(21,22),(6,23),(7,23),(8,23),(9,23),(10,23),(11,23),(12,23),(13,23),(14,23),(15,23),(16,23),(17,23),(18,23),(19,23),(20,23),(21,23),(22,23),(6,24),(7,24),(8,24),(9,24),(10,24),(11,24),(12,24),(13,24),(14,24),(15,24),(16,24),(17,24),(18,24),(19,24),(20,24),(21,24),(6,25),(7,25),(8,25),(9,25),(10,25),(11,25),(12,25),(13,25),(14,25),(15,25),(16,25),(17,25),(18,25),(19,25),(20,25),(21,25),(6,26),(7,26),(8,26),(9,26),(10,26),(11,26),(12,26),(13,26),(14,26),(15,26),(16,26),(17,26),(18,26),(19,26)] [177,178,179,180,181,182,183,184,185,186,187,188,189,190,191,192,193,194,195,196,197,198,199,200,201,202,203,204]) (.cond t205 (.seq (oQ [O 2 (.mv (.c (.bool false)))] [0,3,4,9,13,14,205]) .ret) .skip))))) (oQ [M 109 14,O 110 (.bin .add t109 (I 1)),M 14 110] [109,110,205])))
def yCo:TFn:=⟨1,[.tmp 2],(.seq (oQ [O 2 (.mv (.c (.bool false)))] [2]) (.seq (.seq (oQ [M 15 0,O 16 (.call (.f yrz) [t15]),O 17 (.un .not t16)] [15,16]) (.cond t17 (.seq (oQ [O 18 (.call (.f ykq) []),M 2 18] [0,17,18]) .ret) .skip)) (.seq (oQ [M 20 0,O 21 (.call (.f ygj) [t20]),M 19 21,O 22 (.ext t19 0),O 23 (.ext t19 1),O 24 (.ext t19 2),O 25 (.ext t19 3),O 3 (.allocL (.agg [.nils])),⟨none,(.store 1 t3 t22),none⟩,M 4 23,M 5 24,M 6 25] [17,19,20,21,22,23,24,25]) (.seq (oQ [M 27 0,M 28 5,O 29 (.call (.f ykO) [t27,t28]),M 26 29,O 30 (.ext t26 0),O 31 (.ext t26 1),M 7 30,M 8 31] [26,27,28,29,30,31]) (.seq (oQ [M 33 0,oT 34 1 3,O 35 (.call (.f ykP) [t33,t34]),M 32 35,O 36 (.ext t32 0),O 37 (.ext t32 1),O 9 (.allocL (.agg [(.int .u8 (0)),.nils])),⟨none,(.store 2 t9 t36),none⟩,M 10 37] [32,33,34,35,36,37]) (.seq (.seq (oQ [M 38 6,O 39 (.bin .neq t38 (I 0)),M 40 39,⟨some 41,(.mv t8),some (40,false)⟩,⟨some 42,(.bin .neq t41 (I 0)),some (40,false)⟩,O 43 (.pick t40 (.c (.bool true)) t42),M 44 43,⟨some 45,(.mv t10),some (44,false)⟩,⟨some 46,(.bin .neq t45 (I 0)),some (44,false)⟩,O 47 (.pick t44 (.c (.bool true)) t46),M 48 47,⟨some 49,(.mv t7),some (48,false)⟩,⟨some 50,(.mv t5),some (48,false)⟩,⟨some 51,(.len t50),some (48,false)⟩,⟨some 52,(.bin .neq t49 t51),some (48,false)⟩,O 53 (.pick t48 (.c (.bool true)) t52),M 54 53,⟨some 55,(.mv t7),some (54,false)⟩,⟨some 56,(.mv t0),some (54,false)⟩,⟨some 57,(.len t56),some (54,false)⟩,⟨some 58,(.mv t0),some (54,false)⟩,⟨some 59,(.len t58),some (54,false)⟩,⟨some 60,(.bin .add t59 (I 1)),some (54,false)⟩,⟨some 61,(.bin .mul t57 t60),some (54,false)⟩,⟨some 62,(.bin .quo t61 (I 2)),some (54,false)⟩,⟨some 63,(.bin .sub t62 (I 1)),some (54,false)⟩,⟨some 64,(.bin .neq t55 t63),some (54,false)⟩,O 65 (.pick t54 (.c (.bool true)) t64),M 66 65,⟨some 67,(.mv t4),some (66,false)⟩,⟨some 68,(.len t67),some (66,false)⟩,⟨some 69,(.mv t0),some (66,false)⟩,⟨some 70,(.len t69),some (66,false)⟩,⟨some 71,(.bin .neq t68 t70),some (66,false)⟩,O 72 (.pick t66 (.c (.bool true)) t71)] [5,6,7,8,10,38,39,40,41,42,43,44,45,46,47,48,49,50,51,52,53,54,55,56,57,58,59,60,61,62,63,64,65,66,67,68,69,70,71]) (.cond t72 (.seq (oQ [O 2 (.mv (.c (.bool false)))] [0,3,4,9,72]) .ret) .skip)) (.seq (.ops [M 74 0,oT 75 1 3,O 76 (.fad 1 t9),oF 77 1 76,O 78 (.build [(.int .u8 (0)),.nils] [(0,1,(.c (.int .u8 (19)))),(1,1,t77)]),O 79 (.call (.f yik) [t74,t75,t78]),M 73 79,O 80 (.ext t73 0),O 81 (.ext t73 1),M 11 80,M 12 81] [⟨3,(.agg [.i .u8,.d]),0⟩] [] [72,73,74,75,76,77,78,79,80,81]) (.seq (.seq (.ops [M 82 12,O 83 (.bin .neq t82 (I 0)),M 84 83,⟨some 85,(.mv t11),some (84,false)⟩,⟨some 86,(.un .not t85),some (84,false)⟩,O 87 (.pick t84 (.c (.bool true)) t86),M 88 87,⟨some 89,(.fad 0 t3),some (88,false)⟩,⟨some 90,(.load false 1 t89),some (88,false)⟩,⟨some 91,(.len t90),some (88,false)⟩,⟨some 92,(.mv t0),some (88,false)⟩,⟨some 93,(.len t92),some (88,false)⟩,⟨some 94,(.bin .neq t91 t93),some (88,false)⟩,O 95 (.pick t88 (.c (.bool true)) t94),M 96 95,⟨some 97,(.fad 1 t9),some (96,false)⟩,⟨some 98,(.load false 1 t97),some (96,false)⟩,⟨some 99,(.len t98),some (96,false)⟩,⟨some 100,(.mv t0),some (96,false)⟩,⟨some 101,(.len t100),some (96,false)⟩,⟨some 102,(.bin .neq t99 t101),some (96,false)⟩,O 103 (.pick t96 (.c (.bool true)) t102)] [⟨8,(.agg [.d]),0⟩,⟨16,(.agg [.i .u8,.d]),0⟩] [] [11,12,82,83,84,85,86,87,88,89,90,91,92,93,94,95,96,97,98,99,100,101,102]) (.cond t103 (.seq (oQ [O 2 (.mv (.c (.bool false)))] [0,3,4,9,103]) .ret) .skip)) (.seq (oQ [O 104 (.call (.f yga) [(I 0)]),O 13 (.allocL (.agg [(.int .i64 (0)),(.int .i64 (0))])),⟨none,(.store 2 t13 t104),none⟩] [103,104]) (.seq (.seq (oQ [O 14 (.mv (I 0))] []) (.block 0 (.loop 85806600 ypu))) (.seq (oQ [O 206 (.call (.f ykq) []),M 2 206] [0,3,4,9,13,14,108,206]) .ret)))))))))))⟩
def tab:List (Nat×AFn):=[(ym8,yJ3.fn),(ygI,yAQ.fn),(ykn,yJ4.fn),(ym9,yJ5.fn),(yrz,yOL.fn),(yna,yJ6.fn),(yhv,yCl.fn),(yfT,yCm.fn),(ycb,yIc.fn),(ydz,yJ7.fn),(ydR,yNK.fn),(yg5,yId.fn),(yoY,yMh.fn),(ycS,yFx.fn),(ycZ,yIe.fn),(ybH,yIf.fn),(ydA,yJ8.fn),(ydS,yDY.fn),(yf8,yIg.fn),(yf9,yIh.fn),(ydm,yFy.fn),(ycm,yIi.fn),(yfC,yxw.fn),(ycx,yFz.fn),(yeO,yyY.fn),(yfc,yvM.fn),(yfs,yOM.fn),(yeh,yxx.fn),(ydB,ytW.fn),(ykN,yIj.fn),(ycM,yJ9.fn),(ydd,yKa.fn),(yfj,yIk.fn),(yoH,yON.fn),(yfD,yxy.fn),(ylO,yOO.fn),(yrA,yOP.fn),(yde,yKb.fn),(ydC,yKc.fn),(yd4,yKd.fn),(yd5,yKe.fn),(ygi,ywB.fn),(ytT,yKf.fn),(yii,yKg.fn),(ydT,yyZ.fn),(yei,yAR.fn),(ylP,yAS.fn),(yoZ,yMi.fn),(yg6,yIl.fn),(ygj,yFA.fn),(yrB,yOQ.fn),(ytU,yQl.fn),(yga,yQm.fn),(ycT,yRD.fn),(yew,yIm.fn),(ycN,yTa.fn),(yiN,ySj.fn),(yij,yQn.fn),(yqN,yRE.fn),(yg7,ySk.fn),(yo0,yMk.fn),(yo1,yMl.fn),(yo2,yMm.fn),(ykq,yKh.fn),(yfE,yxz.fn),(ykO,yIn.fn),(yjH,yFB.fn),(ynb,yKi.fn),(yfl,yFC.fn),(yfm,yFD.fn),(ych,yFE.fn),(ybI,yIo.fn),(yfn,yFF.fn),(ye3,ytg.fn),(ytV,yKj.fn),(ycU,yFG.fn),(ybp,ywC.fn),(yej,yiO.fn),(yfF,ypp.fn),(ydU,yql.fn),(ycK,ygA.fn),(ya2,ycn.fn),(ycV,yCn.fn),(yhA,yFH.fn),(ybh,ykQ.fn),(ydb,yvN.fn),(ydV,yil.fn),(ye4,ynx.fn),(yAP,yUe.fn),(yIb,yU6.fn),(yeE,ytX.fn),(ycG,yy0.fn),(ybC,yAT.fn),(ydc,yvO.fn),(ydW,yy1.fn),(ybi,ykR.fn),(ybj,ykS.fn),(ybk,ykT.fn),(ybl,ykU.fn),(ybx,ytY.fn),(ykP,yIp.fn),(ybs,yfd.fn),(yaN,yne.fn),(yik,yDZ.fn),(ync,yKk.fn),(yoI,yOU.fn),(yrC,yOV.fn),(yo3,yMq.fn),(yo4,yMr.fn),(ynd,yKl.fn),(ynw,yCo.fn)]
def quiL:List Nat:=[ym8,ygI,ykn,ym9,yrz,yna,yhv,yfT,ycb,ydz,ydR,yg5,yoY,ycS,ycZ,ybH,ydA,ydS,yf8,yf9,ydm,ycm,yfC,ycx,yeO,yfc,yfs,yeh,ydB,ykN,ycM,ydd,yfj,yko,ykp,yoH,yfD,ylO,yrA,yde,ydC,yd4,yd5,yii,ydT,yei,yoZ,yg6,ygj,yrB,ytU,yga,ycT,yew,ycN,yiN,yij,yqN,yg7,yo0,yo1,yo2,ykq,yfE,ykO,yjH,ynb,yfl,yfm,ych,ybI,yfn,ycU,ybp,ycV,yhA,yAP,yIb,ydc,ydW,ybx,ykP,yaN,yik,ync,yoI,yrC,yo3,yo4,ynd,ynw,(ybp+1000000),(ycV+3000000),(ybx+3000000),(ydW+3000000)]
def cloL:yhU:=[(ydR,1,8)]
def gloL:List (Nat×PV):=[]
def E (ef:Es):Env:=ytS yko ykp tab quiL cloL gloL ef
def E0C:Env:=yte yko ykp tab quiL cloL gloL
abbrev ytr:Srts:=yqk ybC ydc
def yy2:List Nat:=[ybC]
abbrev EG (e:Es):Prop:=EffG E yy2 e
theorem yba:EG []:=⟨fun _ _ _ _ h=>(by cases h),fun _ _ _ _=>rfl⟩
def ef0:Es:=[(ybC,yDW ytr.s ytr.srt)]
theorem yev:EG ef0:=⟨yOF (by kernel_rfl),fun n h xs H=>yDX (l:=ef0) h⟩
abbrev yeP:Type:=Ls→(Ls→Prop)→Prop
def ydX (p0:Ls) (K:Ls→Prop):Prop:=yNG 1 8 p0 K
def yxA (w:Ls→(Ls→Prop)→Prop) (as:Ls) (K:PV→Prop):Prop:=yDS w as K
def yxB (as:Ls) (K:PV→Prop):Prop:=yDT 1 8 as K
theorem yxC (e:Es) (_:EG e):OkF (E e) yxB ydR:=yOG (by kernel_rfl) (by kernel_rfl) (by kernel_rfl)
abbrev yAU:Type:=Int→Int→Int→(Int→Int→Prop)→Prop
abbrev yAV:Type:=Int→Int→Int→(Int→Int→Prop)→Prop
theorem yMs (e:Es) (_:EG e):OkF (E e) yxr yko:=yOH
theorem yMt (e:Es) (_:EG e):OkF (E e) yxt ykp:=yOI (by kernel_rfl)
end Go.Pf.Vc
namespace Go.Pf.Vc
open Go Go.Pf
set_option maxRecDepth 100000
abbrev ycc:Type:=Int→(Int→Prop)→Prop
def yqO (p0:Int) (K:Int→Prop):Prop :=
 (cbr (decide (p0<(0:Int)))
 (K (IntKind.u64.wrap ((0:Int)-(IntKind.u64.wrap p0))))
 (K (IntKind.u64.wrap p0)))
def yc0 (p0:Int) (K:Int→Prop):Prop:=yqO p0 K
def ygl (w:ycc) (as:Ls) (K:PV→Prop):Prop :=
 match as with
 | [(.int .i64 p0)]=>w p0 (fun r0=>K (.int .u64 r0))
 | _=>False
def ywD (as:Ls) (K:PV→Prop):Prop:=ygl yc0 as K
def yFI:LP:=fun _ _ _ _ =>
 False
def ywE (e:Es):SE:=⟨(E e),yaK [],yaL [],yFI⟩
theorem yD0 (e:Es) (he:EG e):SEOk (ywE e):=yat trivial trivial he.ok
theorem yFJ (e:Es) ( p0 K):WP (ywE e) 6 yIf [(.int .i64 p0)] K=yqO p0 (fun r0=>K (.int .u64 r0)):=by kernel_rfl
theorem yjI (e:Es) (he:EG e):OkF (E e) ywD ybH:=by
 intro as K h
 unfold ywD ygl at h
 split at h
 ·exact ya6 (yD0 e he) (yai (by kernel_rfl)) (by kernel_rfl) (by kernel_rfl) (fun _=>yab (by kernel_rfl) _) (he.num _ (by kernel_rfl)) ((yFJ ..).mpr h)
 ·exact h.elim
abbrev ydD:Type:=Int→Int→(Int→Prop)→Prop
def ye5 (x0:Int→Int→Bool→Prop):Nat→Int→Int→Prop
 | 0,_,_=>False
 | n+1,i0,i1 =>
 (cbr (decide (i1>(0:Int)))
 (asr (!(decide (i1=(0:Int))))
 (ye5 x0 n i1 (Int.tmod i0 i1)))
 (x0 i0 i1 false))
def yse (p0 p1:Int) (K:Int→Prop):Prop :=
 (∃ n:Nat,ye5
 (fun a _ _=>(K a))
 n p0 p1)
def ycB (p0 p1:Int) (K:Int→Prop):Prop:=yse p0 p1 K
def yiP (w:ydD) (as:Ls) (K:PV→Prop):Prop :=
 match as with
 | [(.int .u64 p0),(.int .u64 p1)]=>w p0 p1 (fun r0=>K (.int .u64 r0))
 | _=>False
def yy3 (as:Ls) (K:PV→Prop):Prop:=yiP ycB as K
def yhB (F:Frm) (H:Hp) (A0:Int→Int→Prop):Prop :=
 match F,H with
 | [(0,.v (.int .u64 i0)),(1,.v (.int .u64 i1))],[]=>(A0 i0 i1)
 | _,_=>False
def yny (Q:Qx):Int→Int→Bool→Prop:=(fun i0 i1 b2=>Q (.exit 0) [(0,.v (.int .u64 i0)),(1,.v (.int .u64 i1)),(6,.v (.bool b2))] [])
def ymK (Q:Qx) (n:Nat) (F:Frm) (H:Hp):Prop:=yhB F H (fun i0 i1=>ye5 (yny Q) n i0 i1)
def yof:LP:=fun id F H Q =>
 bif Nat.beq id 32725300 then yhB F H (fun i0 i1=>∃ n:Nat,ye5 (yny Q) n i0 i1) else
 False
def ysf (e:Es):SE:=⟨(E e),yaK [],yaL [],yof⟩
theorem ywF (e:Es) (he:EG e):SEOk (ysf e):=yat trivial trivial he.ok
theorem yxD (e:Es) ( Q n i0 i1):WC (E e) (ybd (ysf e) 5) (yof) ypc [(0,.v (.int .u64 i0)),(1,.v (.int .u64 i1))] [] (exQ (ymK Q n) Q)=ye5 (yny Q) (n+1) i0 i1:=by kernel_rfl
theorem yCp (e:Es) (_:EG e):LpOk (E e) (yof) ypc:=(yai (by kernel_rfl))
theorem yAW (e:Es) (he:EG e):∀ F H Q,yof 32725300 F H Q→ycr (E e) ypc F H Q:=by
 intro F H Q h
 have go:=ycr.intro (yaG (ywF e he) 5) (yCp e he) (ymK Q) (by intro F H h;unfold ymK yhB at h;split at h <;> exact h) (by intro n F H h;unfold ymK yhB at h;split at h;exact (yxD ..).mpr h;exact h.elim)
 have h:yhB F H _:=h
 unfold yhB at h
 split at h
 ·obtain ⟨n,h⟩:=h;exact go n _ _ h
 ·exact h.elim
theorem yIq (e:Es) ( p0 p1 K):WP (ysf e) 6 yJ8 [(.int .u64 p0),(.int .u64 p1)] K=yse p0 p1 (fun r0=>K (.int .u64 r0)):=by kernel_rfl
theorem yog (e:Es) (he:EG e):OkF (E e) yy3 ydA:=by
 intro as K h
 unfold yy3 yiP at h
 split at h
 ·exact ya6 (ywF e he) (ybg (l:=[(32725300,ypc)]) ⟨yAW e he,trivial⟩ (by kernel_rfl)) (by kernel_rfl) (by kernel_rfl) (fun _=>yab (by kernel_rfl) _) (he.num _ (by kernel_rfl)) ((yIq ..).mpr h)
 ·exact h.elim
abbrev ydn:Type:=Bool→Int→Int→(Int→Int→Int→Prop)→Prop
def ynz (p0:Bool) (p1 p2:Int) (K:Int→Int→Int→Prop):Prop :=
 (cbr (decide ((if p2>p1 then p2 else p1)>(1000000000000000000:Int)))
 (K (0:Int) (0:Int) (16:Int))
 (cbr p0
 (K (IntKind.i64.wrap ((0:Int)-(IntKind.i64.wrap p1))) (IntKind.i64.wrap p2) (0:Int))
 (K (IntKind.i64.wrap p1) (IntKind.i64.wrap p2) (0:Int))))
def yct (p0:Bool) (p1 p2:Int) (K:Int→Int→Int→Prop):Prop:=ynz p0 p1 p2 K
def yhw (w:ydn) (as:Ls) (K:PV→Prop):Prop :=
 match as with
 | [(.bool p0),(.int .u64 p1),(.int .u64 p2)]=>w p0 p1 p2 (fun r0 r1 r2=>K (.tup [(.agg [(.int .i64 r0),(.int .i64 r1)]),(.int .i64 r2)]))
 | _=>False
def yth (as:Ls) (K:PV→Prop):Prop:=yhw yct as K
def yCq:LP:=fun _ _ _ _ =>
 False
def yti (e:Es):SE:=⟨(E e),yaK [],yaL [],yCq⟩
theorem yAX (e:Es) (he:EG e):SEOk (yti e):=yat trivial trivial he.ok
theorem yCr (e:Es) ( p0 p1 p2 K):WP (yti e) 6 yDY [(.bool p0),(.int .u64 p1),(.int .u64 p2)] K=ynz p0 p1 p2 (fun r0 r1 r2=>K (.tup [(.agg [(.int .i64 r0),(.int .i64 r1)]),(.int .i64 r2)])):=by kernel_rfl
theorem ynA (e:Es) (he:EG e):OkF (E e) yth ydS:=by
 intro as K h
 unfold yth yhw at h
 split at h
 ·exact ya6 (yAX e he) (yai (by kernel_rfl)) (by kernel_rfl) (by kernel_rfl) (fun _=>yab (by kernel_rfl) _) (he.num _ (by kernel_rfl)) ((yCr ..).mpr h)
 ·exact h.elim
abbrev ybo:Type:=Int→Int→(Int→Int→Int→Prop)→Prop
def yqP (a0:ycc) (a1:ydD) (a2:ydn) (p0 p1:Int) (K:Int→Int→Int→Prop):Prop :=
 (cbr (p1 ==(0:Int))
 (K (0:Int) (0:Int) (18:Int))
 (a0 p0 (fun b =>
 (a0 p1 (fun c =>
 (a1 b c (fun a =>
 (asr (!(decide (a=(0:Int))))
 (asr (!(decide (a=(0:Int))))
 (a2 ((decide (p0<(0:Int))) !=(decide (p1<(0:Int)))) (IntKind.u64.wrap (Int.tdiv b a)) (IntKind.u64.wrap (Int.tdiv c a)) (fun d e f =>
 (K d e f))))))))))))
def yan (p0 p1:Int) (K:Int→Int→Int→Prop):Prop:=yqP yc0 ycB yct p0 p1 K
def yjJ (w:ybo) (as:Ls) (K:PV→Prop):Prop :=
 match as with
 | [(.int .i64 p0),(.int .i64 p1)]=>w p0 p1 (fun r0 r1 r2=>K (.tup [(.agg [(.int .i64 r0),(.int .i64 r1)]),(.int .i64 r2)]))
 | _=>False
def ywG (as:Ls) (K:PV→Prop):Prop:=yjJ yan as K
def yFK (_:ycc) (_:ydD) (_:ydn):LP:=fun _ _ _ _ =>
 False
def ywH (e:Es) (a0:ycc) (a1:ydD) (a2:ydn):SE:=⟨(E e),yaK [(ybH,ygl a0),(ydA,yiP a1),(ydS,yhw a2)],yaL [],yFK a0 a1 a2⟩
theorem yD1 (e:Es) (he:EG e):SEOk (ywH e yc0 ycB yct):=yat ⟨(yjI e he),(yog e he),(ynA e he),trivial⟩ trivial he.ok
theorem yFL (e:Es) (a0 a1 a2 p0 p1 K):WP (ywH e a0 a1 a2) 6 yIg [(.int .i64 p0),(.int .i64 p1)] K=yqP a0 a1 a2 p0 p1 (fun r0 r1 r2=>K (.tup [(.agg [(.int .i64 r0),(.int .i64 r1)]),(.int .i64 r2)])):=by kernel_rfl
theorem ymL (e:Es) (he:EG e):OkF (E e) ywG yf8:=by
 intro as K h
 unfold ywG yjJ at h
 split at h
 ·exact ya6 (yD1 e he) (yai (by kernel_rfl)) (by kernel_rfl) (by kernel_rfl) (fun _=>yab (by kernel_rfl) _) (he.num _ (by kernel_rfl)) ((yFL ..).mpr h)
 ·exact h.elim
abbrev ycy:Type:=Int→Int→(Int→Prop)→Prop
def ypv (a0:ycc) (a1:ydD) (p0 p1:Int) (K:Int→Prop):Prop :=
 (cbr (decide (p1<(1:Int)))
 (K (8:Int))
 (a0 p0 (fun a =>
 (cbr (decide ((if (IntKind.u64.wrap p1)>a then (IntKind.u64.wrap p1) else a)>(1000000000000000000:Int)))
 (K (8:Int))
 (a0 p0 (fun b =>
 (a1 b (IntKind.u64.wrap p1) (fun c =>
 (cbr (decide (c>(1:Int)))
 (K (8:Int))
 (K (0:Int)))))))))))
def yby (p0 p1:Int) (K:Int→Prop):Prop:=ypv yc0 ycB p0 p1 K
def ygJ (w:ycy) (as:Ls) (K:PV→Prop):Prop :=
 match as with
 | [(.agg [(.int .i64 p0),(.int .i64 p1)])]=>w p0 p1 (fun r0=>K (.int .i64 r0))
 | _=>False
def ytZ (as:Ls) (K:PV→Prop):Prop:=ygJ yby as K
def yD2 (_:ycc) (_:ydD):LP:=fun _ _ _ _ =>
 False
def yt0 (e:Es) (a0:ycc) (a1:ydD):SE:=⟨(E e),yaK [(ybH,ygl a0),(ydA,yiP a1)],yaL [],yD2 a0 a1⟩
theorem yCs (e:Es) (he:EG e):SEOk (yt0 e yc0 ycB):=yat ⟨(yjI e he),(yog e he),trivial⟩ trivial he.ok
theorem yD3 (e:Es) (a0 a1 p0 p1 K):WP (yt0 e a0 a1) 6 yFy [(.agg [(.int .i64 p0),(.int .i64 p1)])] K=ypv a0 a1 p0 p1 (fun r0=>K (.int .i64 r0)):=by kernel_rfl
theorem yim (e:Es) (he:EG e):OkF (E e) ytZ ydm:=by
 intro as K h
 unfold ytZ ygJ at h
 split at h
 ·exact ya6 (yCs e he) (yai (by kernel_rfl)) (by kernel_rfl) (by kernel_rfl) (fun _=>yab (by kernel_rfl) _) (he.num _ (by kernel_rfl)) ((yD3 ..).mpr h)
 ·exact h.elim
abbrev yha:Type:=Ls→(Int→Prop)→Prop
def ybN (x0:Int→Prop) (x1:Int→Ls→Int→Int→Bool→Prop):Nat→Int→Ls→Int→Int→Prop
 | 0,_,_,_,_=>False
 | n+1,i0,l1,i2,i3 =>
 (cbr (decide (i3<i2))
 (asr (decide ((0:Int)≤i3))
 (asr (decide (i3<(((List.length l1):Nat):Int)))
 (asr (conf (.one (.i .i64)) (List.getD l1 (i3.toNat) .nils))
 (cbr ((yaa (List.getD l1 (i3.toNat) .nils)) != i0)
 (x0 (yaa (List.getD l1 (i3.toNat) .nils)))
 (ybN x0 x1 n i0 l1 i2 (IntKind.i64.wrap (i3+(1:Int))))))))
 (x1 i0 l1 i2 i3 false))
def yjn (p0:Ls) (K:Int→Prop):Prop :=
 (∃ n:Nat,ybN
 (fun a=>(K a))
 (fun b _ _ _ _=>(K b))
 n (0:Int) p0 (((List.length p0):Nat):Int) (0:Int))
def yfH (p0:Ls) (K:Int→Prop):Prop:=yjn p0 K
def yjo (w:yha) (as:Ls) (K:PV→Prop):Prop :=
 match as with
 | [(.data p0)]=>w p0 (fun r0=>K (.int .i64 r0))
 | _=>False
def ynZ (as:Ls) (K:PV→Prop):Prop:=yjo yfH as K
def ydE (F:Frm) (H:Hp) (A0:Int→Ls→Int→Int→Prop):Prop :=
 match F,H with
 | [(3,.v (.int .i64 i0)),(6,.v (.data l1)),(7,.v (.int .i64 i2)),(8,.v (.int .i64 i3))],[]=>(A0 i0 l1 i2 i3)
 | _,_=>False
def yhb (Q:Qx):Int→Prop:=(fun i0=>Q .ret [(2,.v (.int .i64 i0))] [])
def yhc (Q:Qx):Int→Ls→Int→Int→Bool→Prop:=(fun i0 l1 i2 i3 b4=>Q (.exit 0) [(3,.v (.int .i64 i0)),(6,.v (.data l1)),(7,.v (.int .i64 i2)),(8,.v (.int .i64 i3)),(9,.v (.bool b4))] [])
def ygb (Q:Qx) (n:Nat) (F:Frm) (H:Hp):Prop:=ydE F H (fun i0 l1 i2 i3=>ybN (yhb Q) (yhc Q) n i0 l1 i2 i3)
def ygD:LP:=fun id F H Q =>
 bif Nat.beq id 38508400 then ydE F H (fun i0 l1 i2 i3=>∃ n:Nat,ybN (yhb Q) (yhc Q) n i0 l1 i2 i3) else
 False
def yjp (e:Es):SE:=⟨(E e),yaK [],yaL [],ygD⟩
theorem ynf (e:Es) (he:EG e):SEOk (yjp e):=yat trivial trivial he.ok
theorem yqa (e:Es) ( Q n i0 l1 i2 i3):WC (E e) (ybd (yjp e) 5) (ygD) ypd [(3,.v (.int .i64 i0)),(6,.v (.data l1)),(7,.v (.int .i64 i2)),(8,.v (.int .i64 i3))] [] (exQ (ygb Q n) Q)=ybN (yhb Q) (yhc Q) (n+1) i0 l1 i2 i3:=by kernel_rfl
theorem ysg (e:Es) (_:EG e):LpOk (E e) (ygD) ypd:=(yai (by kernel_rfl))
theorem yrJ (e:Es) (he:EG e):∀ F H Q,ygD 38508400 F H Q→ycr (E e) ypd F H Q:=by
 intro F H Q h
 have go:=ycr.intro (yaG (ynf e he) 5) (ysg e he) (ygb Q) (by intro F H h;unfold ygb ydE at h;split at h <;> exact h) (by intro n F H h;unfold ygb ydE at h;split at h;exact (yqa ..).mpr h;exact h.elim)
 have h:ydE F H _:=h
 unfold ydE at h
 split at h
 ·obtain ⟨n,h⟩:=h;exact go n _ _ h
 ·exact h.elim
theorem yvP (e:Es) ( p0 K):WP (yjp e) 6 yxw [(.data p0)] K=yjn p0 (fun r0=>K (.int .i64 r0)):=by kernel_rfl
theorem yvQ (e:Es) (he:EG e):OkF (E e) ynZ yfC:=by
 intro as K h
 unfold ynZ yjo at h
 split at h
 ·exact ya6 (ynf e he) (ybg (l:=[(38508400,ypd)]) ⟨yrJ e he,trivial⟩ (by kernel_rfl)) (by kernel_rfl) (by kernel_rfl) (fun _=>yab (by kernel_rfl) _) (he.num _ (by kernel_rfl)) ((yvP ..).mpr h)
 ·exact h.elim
abbrev ybJ:Type:=Int→Int→Int→Int→(Int→Prop)→Prop
end Go.Pf.Vc
