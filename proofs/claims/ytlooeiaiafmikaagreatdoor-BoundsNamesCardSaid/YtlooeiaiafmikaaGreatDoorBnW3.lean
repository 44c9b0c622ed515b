/- The framework that the closed statement rests on, part 3. -/
import Derived.Test.YtlooeiaiafmikaaGreatDoorBnW2
namespace Go.Pf
open Go Go.ChangeShapes Go.WideShapes Go.ChangeAt Go.RowKit
def yfZ:List DS→List PV→Prop
  | [],as=>as=[]
  | d::l,as=>∃ x r,as=x::r∧x.isAgg=d.isA∧HasF d x.cells∧yfZ l r
section
variable {H:Type} {enc:TypeId×Value→H} {P:Program}
theorem yjH (K:Kids P (·<P.types.size)) {w:World} {I:Nat→Prop} {base:Nat} {d:DS} {t:TypeId} {v:Value} {x:DataW H} {p:List MemPlace} (hrow:t<P.types.size) (hty:tyOk P d t=true)
    (hval:Value.okWide P w .any base t v) (h:DataW.Trod enc P w 0 (fun _=>true) true t v x p) (hI:∀ q∈p,I q.block) :
    ∃ y:PV,y.isAgg=d.isA∧HasF d y.cells∧VP1 I w y v:=by
  obtain ⟨n,hn⟩:=h
  obtain ⟨pcs,h1,h2⟩:=yic (I:=I) K n d t _ _ hrow hty hn hI
  have single:∀ y:PV,pcs=[y]→y.isAgg=false→d.isA=false→v.cells.toList=[v]→∃ y:PV,y.isAgg=d.isA∧HasF d y.cells∧VP1 I w y v:=by
    intro y e hy hd hv
    subst e
    refine ⟨y,hy.trans hd.symm,?_,?_⟩
    · have:y.cells=[y]:=by cases y <;> first | rfl | cases hy
      rw [this];exact h1
    · rw [hv] at h2
      simp only [yah] at h2
      obtain ⟨u,vr,e,_,h3,h4⟩:=h2
      simp only [List.cons.injEq] at e
      obtain ⟨rfl,_⟩:=e
      cases y <;> first | exact h3 | (simp only [RC] at h3;done) | (simp only [VP1];exact h3) | cases hy
  cases d with
  | b =>
    unfold tyOk at hty
    split at hty
    · rename_i ht
      obtain ⟨b,rfl⟩:=okWide_bool ht hval
      simp only [HasF] at h1
      obtain ⟨z,e⟩:=h1
      exact single _ e rfl rfl rfl
    · cases hty
  | i k =>
    unfold tyOk at hty
    split at hty
    · rename_i q ht
      obtain ⟨m,rfl⟩:=okWide_int ht hval
      simp only [HasF] at h1
      obtain ⟨z,e,_⟩:=h1
      exact single _ e rfl rfl rfl
    · cases hty
  | s e =>
    unfold tyOk at hty
    split at hty
    · rename_i u ht
      obtain ⟨a,len,cap,rfl⟩:=okWide_slice ht hval
      simp only [HasF] at h1
      obtain ⟨z,e,_⟩:=h1
      exact single _ e rfl rfl rfl
    · cases hty
  | a l =>
    have key:∀ cs,v=.agg cs→∃ y:PV,y.isAgg=(DS.a l).isA∧HasF (DS.a l) y.cells∧VP1 I w y v:=by
      rintro cs rfl
      refine ⟨.agg pcs,rfl,h1,?_⟩
      simp only [VP1]
      exact ⟨cs.toList,rfl,h2⟩
    unfold tyOk at hty
    split at hty
    · rename_i fs ht
      obtain ⟨cs,e,_⟩:=okWide_struct ht hval
      exact key cs e
    · rename_i q u ht
      have hval2:=hval
      unfold Value.okWide at hval2
      rw [ht] at hval2
      obtain ⟨cs,e,_⟩:=hval2
      exact key cs e
    · cases hty
theorem ygs (K:Kids P (·<P.types.size)) {w:World} {I:Nat→Prop} {base:Nat}:∀ (ts:List TypeId) (dss:List DS) (vs:List Value) (xs:List (DataW H)) (p:List MemPlace),tyL P dss ts=true→(∀ t∈ts,t<P.types.size) →
    (∀ (j:Nat) t v,ts[j]?=some t→vs[j]?=some v→Value.okWide P w .any base t v)→DataW.TrodAll enc P w 0 (fun _=>true) true ts vs xs p→(∀ q∈p,I q.block)→∃ as,yfZ dss as∧VPs I w as vs
  | [],[],[],[],p,_,_,_,_,_=>⟨[],by simp only [yfZ],by simp only [VPs]⟩
  | t::ts,d::dss,v::vs,x::xs,p,hty,hrow,hval,h,hI=>by
    unfold tyL at hty
    simp only [Bool.and_eq_true] at hty
    obtain ⟨p1,q,h1,h2,rfl⟩:=h
    obtain ⟨y,y1,y2,y3⟩:=yjH K (hrow t (List.mem_cons_self ..)) hty.1 (hval 0 t v rfl rfl) h1 (fun z hz=>hI z (List.mem_append_left _ hz))
    obtain ⟨as,a1,a2⟩:=ygs K ts dss vs xs q hty.2 (fun u hu=>hrow u (List.mem_cons_of_mem _ hu)) (fun j u z hj hz=>hval (j+1) u z hj hz) h2 (fun z hz=>hI z (List.mem_append_right _ hz))
    refine ⟨y::as,?_,?_⟩
    · simp only [yfZ];exact ⟨y,as,rfl,y1,y2,a1⟩
    · simp only [VPs];exact ⟨v,vs,rfl,y3,a2⟩
  | [],_::_,_,_,_,hty,_,_,_,_=>by unfold tyL at hty;cases hty
  | _::_,[],_,_,_,hty,_,_,_,_=>by unfold tyL at hty;cases hty
  | [],[],_::_,_,_,_,_,_,h,_=>h.elim
  | [],[],[],_::_,_,_,_,_,h,_=>h.elim
  | _::_,_::_,[],_,_,_,_,_,h,_=>h.elim
  | _::_,_::_,_::_,[],_,_,_,_,h,_=>h.elim
theorem yi3 (K:Kids P (·<P.types.size)) {n:FuncId} {fn:Func} {G:Nat→Option PV} {dss:List DS} {ts:List TypeId} (hty:tyL P dss ts=true) (hrow:∀ t∈ts,t<P.types.size)
    (hf : P.funcs[n]? = some fn) (hn : (fn.name == "runtime.NumGoroutine") = false) (hb : fn.body.isSome = true) (hsum : ∀ as, yfZ dss as → ydC P G n as (.bool true))
    {W:World} {base:Nat} {args:Array Value} {ds:List (DataW H)} {p:List MemPlace} {I:Nat→Prop} (hval:∀ (j:Nat) t v,ts[j]?=some t→args.toList[j]?=some v→Value.okWide P W .any base t v)
    (hA:DataW.TrodAll enc P W 0 (fun _=>true) true ts args.toList ds p) (hI:∀ q∈p,I q.block) (himm:∀ b,I b→b<W.heap.size) (hG:ygB G I W) :
    Calls P n args W fun e W'=>e=.returned (.bool true)∧Below W.heap.size W W':=by
  obtain ⟨as,a1,a2⟩:=ygs (I:=I) K ts dss args.toList ds p hty hrow hval hA hI
  have h:=hsum as a1 I W args.toList himm hG a2
  have e:(callFunc n (args.toList).toArray).run P W=.ok (.enter n args) W:=by
    have h1 : fn.name ≠ "runtime.NumGoroutine" := by simpa using hn
    obtain ⟨c,hc⟩:=Option.isSome_iff_exists.1 hb
    simp [callFunc,hf,h1,hc]
  unfold ycq at h
  rw [e] at h
  refine Calls.mono h fun e w' he=>?_
  cases e with
  | returned v =>
    obtain ⟨h1,h2⟩:=he
    simp only [VP,VP1,RC,List.cons.injEq,and_true] at h2
    exact ⟨by rw [h2],h1.toBelow⟩
  | panicked ch=>exact he.elim
  | outgrown=>exact he.elim
theorem yid (K:Kids P (·<P.types.size)) (hz:∀ t e,t<P.types.size→P.underlying t=some (.slice e)→0<P.cellsOf e) {W W':World} (hb:Below W.heap.size W W') {sp:Nat→Bool} :
    ∀ {ts:List TypeId} {vs:List Value} {ds:List (DataW H)} {ps:List MemPlace},(∀ t∈ts,t<P.types.size)→DataW.TrodAll enc P W 0 (fun _=>true) true ts vs ds ps→(∀ p∈ps,p.block<W.heap.size)→(∀ p∈ps,sp p.block=true)→DataW.TrodAll enc P W' 0 sp true ts vs ds ps:=by
  intro ts vs ds ps hT h hlt hs
  have carry:∀ {ts:List TypeId} {vs:List Value} {ds:List (DataW H)} {ps:List MemPlace},DataW.TrodAll enc P W 0 (fun _=>true) true ts vs ds ps→(∀ p∈ps,p.block<W.heap.size)→DataW.TrodAll enc P W' 0 (fun _=>true) true ts vs ds ps:=by
    intro ts
    induction ts with
    | nil =>
      intro vs ds ps h _
      cases vs with
      | nil=>cases ds with
        | nil=>exact h
        | cons _ _=>exact h.elim
      | cons _ _=>exact h.elim
    | cons t ts ih =>
      intro vs ds ps h hlt
      cases vs with
      | nil=>exact h.elim
      | cons v vs=>cases ds with
        | nil=>exact h.elim
        | cons d ds =>
          obtain ⟨p,q,⟨n,h1⟩,h2,e⟩:=h
          subst e
          exact ⟨p,q,⟨n,DataW.trod_carry n _ _ _ h1 (fun x hx=>hb.same (hlt x (List.mem_append_left _ hx)))⟩,ih h2 (fun x hx=>hlt x (List.mem_append_right _ hx)),rfl⟩
  exact DataW.TrodAll.respare K hz hT (carry h hlt) hs
theorem yf0 {f:Func} {s:ChangeSpec} {yb7 fresh handsOn again:Bool} {W W':World} {args:Array Value} {v:Value} {ds gs:List (DataW H)} {before pa pv:List MemPlace}
    (hW:DataW.Whole enc P f.params.toList s.vars yb7 W args.toList ds gs before)
    (hres:∀ (b:Nat) (sp:Nat→Bool) (hd:Bool),DataW.TrodAll enc P W' b sp hd f.resultTypes.toList (v.resultList f.resultTypes.size) (s.fn H (ds++gs)).results [])
    (hargs:∀ sp:Nat→Bool,(∀ p∈before,sp p.block=true)→DataW.TrodAll enc P W' 0 sp true f.params.toList args.toList (s.fn H (ds++gs)).args pa)
    (hvars:∀ sp:Nat→Bool,(∀ p∈before,sp p.block=true)→DataW.TrodVars enc P W' sp s.vars (s.fn H (ds++gs)).vars pv)
    (hps:before=pa++pv) (hb:Below W.heap.size W W')
    (hok:∀ (j:Nat) (t:TypeId) (r:Value),f.resultTypes[j]?=some t→(v.resultList f.resultTypes.size)[j]?=some r→Value.okWide P W' .any 0 t r) :
    s.post enc P f yb7 fresh handsOn again W args v W':=by
  have hlt:∀ p∈before,p.block<W.heap.size:=fun p hp=>hW.lt p hp
  have hold:∀ p∈before,(fun b=>decide (b<W.heap.size)) p.block=true:=fun p hp=>by simpa using hlt p hp
  refine ⟨ds,gs,before,[],pa,pv,hW,hres _ _ _,hargs _ hold,hvars _ hold,World.keptBut_mono (fun p hp=>⟨hp,?_⟩) (hb.frame (·∈before)),fun _=>?_⟩
  · rw [hps,List.mem_append] at hp
    exact Or.inr hp
  · obtain ⟨_,_,_,_,_,hz,hn⟩:=hW
    refine ⟨hok,_,_,([]++pa)++pv,⟨[]++pa,pv,trodAll_append (hargs _ (fun _ _=>rfl)) (hres _ _ _),hvars _ (fun _ _=>rfl),rfl,?_,?_⟩,?_⟩
    · intro b off hp
      have hin:MemPlace.cell b off∈before:=by rw [hps];simpa using hp
      rw [hb.frozen (hlt _ hin)]
      exact hz b off hin
    · intro ha
      have:=hn ha
      rw [hps] at this
      simpa using this
    · intro p hp _
      rw [hps]
      simpa using hp
theorem yjI (K:Kids P (·<P.types.size)) (hz:∀ t e,t<P.types.size→P.underlying t=some (.slice e)→0<P.cellsOf e) {n:FuncId} {fn:Func} {G:Nat→Option PV} {dss:List DS} {s:ChangeSpec} {bt:TypeId}
    (hty : tyL P dss fn.params.toList = true) (hrow : ∀ t ∈ fn.params.toList, t < P.types.size) (hf : P.funcs[n]? = some fn) (hn : (fn.name == "runtime.NumGoroutine") = false) (hb : fn.body.isSome = true)
    (hvars:s.vars=[]) (hfn:∀ ds:List (DataW H),ds.length=fn.params.toList.length→s.fn H (ds++[])={ results:=[.lit (.bool true)],args:=ds })
    (hrt:fn.resultTypes.toList=[bt]) (hbt:P.underlying bt=some .bool) (hsum:∀ as,yfZ dss as→ydC P G n as (.bool true)) {yb7 fresh handsOn again:Bool}
    {W:World} {base:Nat} {args:Array Value} {ds gs:List (DataW H)} {before:List MemPlace} (hval:∀ (j:Nat) t v,fn.params[j]?=some t→args[j]?=some v→Value.okWide P W .any base t v)
    (hW:DataW.Whole enc P fn.params.toList s.vars yb7 W args.toList ds gs before) (J:Nat→Prop) (hJ:∀ b,J b→b<W.heap.size) (hG:ygB G (fun b=>(∃ p∈before,p.block=b)∨J b) W) :
    Calls P n args W fun e W'=>∃ v,e=.returned v∧s.post enc P fn yb7 fresh handsOn again W args v W':=by
  have hW':=hW
  obtain ⟨p,q,hA,hV,hpq,hfz,hnd⟩:=hW
  have hlt:∀ x∈before,x.block<W.heap.size:=fun x hx=>hW'.lt x hx
  rw [hvars] at hV
  obtain ⟨hgs,hq⟩:=trodVars_none hV
  subst hgs;subst hq
  rw [List.append_nil] at hpq
  subst hpq
  have hlen:ds.length=fn.params.toList.length:=by
    have len:∀ {ts:List TypeId} {vs:List Value} {xs:List (DataW H)} {ps:List MemPlace},DataW.TrodAll enc P W 0 (fun _=>true) true ts vs xs ps→xs.length=ts.length:=by
      intro ts
      induction ts with
      | nil =>
        intro vs xs ps h
        cases vs with
        | nil=>cases xs with
          | nil=>rfl
          | cons _ _=>exact h.elim
        | cons _ _=>exact h.elim
      | cons t ts ih =>
        intro vs xs ps h
        cases vs with
        | nil=>exact h.elim
        | cons v vs=>cases xs with
          | nil=>exact h.elim
          | cons x xs =>
            obtain ⟨_,_,_,h2,_⟩:=h
            simp [ih h2]
    exact len hA
  have hc:=yi3 (I:=fun b=>(∃ x∈before,x.block=b)∨J b) K hty hrow hf hn hb hsum (W:=W) (base:=base) (args:=args) (fun j t v h1 h2=>hval j t v (by simpa using h1) (by simpa using h2)) hA (fun x hx=>.inl ⟨x,hx,rfl⟩)
    (fun b hb=>by
      rcases hb with ⟨x,hx,rfl⟩ | hb
      · exact hlt x hx
      · exact hJ b hb) hG
  refine hc.mono fun e W' ⟨he,hg⟩=>?_
  subst he
  have hrs:fn.resultTypes=#[bt]:=by rw [← Array.toList_inj];exact hrt
  refine ⟨_,rfl,yf0 (pa:=before) (pv:=[]) hW' ?_ ?_ ?_ (by simp) hg ?_⟩
  · intro b sp hd
    rw [hfn ds hlen,hrs]
    exact trodAll_mk1 (shut_bool hbt true)
  · intro sp hs
    rw [hfn ds hlen]
    exact yid K hz hg hrow hA hlt hs
  · intro sp hs
    rw [hfn ds hlen,hvars];rfl
  · intro j t r h1 h2
    rw [hrs] at h1 h2
    have hj:j=0:=by
      rcases j with _ | j
      · rfl
      · simp at h1
    subst hj
    simp at h1
    subst h1
    have:r=.bool true:=by
      have h3:((Value.bool true).resultList (#[bt]:Array TypeId).size)[0]?=some (.bool true):=rfl
      rw [h3] at h2
      exact (Option.some.inj h2).symm
    subst this
    exact okWide_bool_mk hbt true
end
end Go.Pf
