/- Part 2 of what the statement rests on: a verified evaluator over pure values, the conditions of the program's functions, and their plain laws. -/
import Derived.Test.YtegkpannhahmcaaGreatDoorCfW1
namespace Go.Pf
open Go
section
variable {H:Type} {enc:TypeId×Value→H} {P:Program} {w:World} {I:Nat→Prop}
theorem yI3 (K:Kids P (·<P.types.size)):∀ n,Opens enc P w I n:=by
 intro n
 induction n with
 | zero=>intro d t cs x _ _ h;simp [DataW.trod] at h
 | succ n ih =>
   intro d t cs x hrow hty h hI
   cases d with
   | b =>
     unfold tyOk at hty
     split at hty
     · rename_i ht
       obtain ⟨b,rfl,_⟩:=DataW.trod_bool ht h
       refine ⟨[.bool b],by simp only [HasF];exact ⟨b,rfl⟩,?_⟩
       simp only [CellsC,RC]
       exact ⟨_,_,rfl,rfl,rfl,rfl⟩
     · cases hty
   | i k =>
     unfold tyOk at hty
     split at hty
     · rename_i q ht
       simp only [decide_eq_true_eq] at hty
       subst hty
       obtain ⟨m,rfl,_,hw⟩:=DataW.trod_int ht h
       have hk:inK q m:=by
         unfold inK
         simpa [Lit.wf] using hw
       refine ⟨[.int q m],by simp only [HasF];exact ⟨m,rfl,hk⟩,?_⟩
       simp only [CellsC,RC]
       exact ⟨_,_,rfl,rfl,⟨rfl,hk⟩,rfl⟩
     · cases hty
   | s e =>
     unfold tyOk at hty
     split at hty
     · rename_i u ht
       simp only [Bool.and_eq_true,decide_eq_true_eq] at hty
       obtain ⟨hpos,hty⟩:=hty
       rcases DataW.trod_slice ht h with ⟨rfl,_⟩ | ⟨a,len,cap,elems,rest,m,hm,rfl,rfl,_,hle,hcap,hlen,hel,_⟩
       · refine ⟨[.data []],?_,?_⟩
         · simp only [HasF];exact ⟨[],rfl,by simp,by simp⟩
         · simp only [CellsC,RC]
           exact ⟨_,_,rfl,rfl,⟨none,0,0,rfl,rfl,by omega,by decide,by simp⟩,rfl⟩
       · have hmn:m=n:=by omega
         subst hmn
         have hru:=K.slice hrow ht
         have hspot0:len≠0→a.spot=none:=by
           intro h0
           have hb:=hel 0 (by omega)
           rw [List.getElem?_eq_getElem (by omega)] at hb
           obtain ⟨cs',hc,hy⟩:=Option.bind_eq_some_iff.1 hb
           obtain ⟨_,hcl,hcg⟩:=World.cells?_some hc
           have h0:=hcg 0 hpos
           rw [List.getElem?_eq_getElem (by omega)] at h0
           have e0:(a.add (0*P.cellsOf u)).add 0=a:=by simp [Addr.add]
           rw [e0] at h0
           unfold World.cell? at h0
           split at h0
           · split at h0
             · cases h0
             · rename_i hs;simpa using hs
           · cases h0
         have hadd:a.spot=none→∀ k i:Nat,(a.add k).add i=⟨a.block,a.off+k+i,none⟩:=by
           intro hs k i
           obtain ⟨ab,ao,as⟩:=a
           simp only at hs
           subst hs
           simp only [Addr.add]
           by_cases h1:k=0 <;> by_cases h2:i=0 <;> simp [h1,h2,Nat.add_assoc]
         have rowsOf:∀ (r j:Nat),j+r=len→∃ rows:List PV,rows.length=r∧(∀ x∈rows,x.isAgg=e.isA∧HasF e x.cells)∧(r≠0→a.spot=none∧I a.block)∧RowsC I w rows (P.cellsOf u) a.block (a.off+j*P.cellsOf u):=by
           intro r
           induction r with
           | zero=>intro j _;exact ⟨[],rfl,by simp,fun h=>absurd rfl h,by simp only [RowsC]⟩
           | succ r ihr =>
             intro j hj
             obtain ⟨rows,l1,l2,_,l4⟩:=ihr (j+1) (by omega)
             have hj2:j<elems.length:=by omega
             have hb:=hel j (by omega)
             rw [List.getElem?_eq_getElem hj2] at hb
             obtain ⟨cs',hc,hy⟩:=Option.bind_eq_some_iff.1 hb
             obtain ⟨_,hcl,hcg⟩:=World.cells?_some hc
             obtain ⟨pcs,k1,k2⟩:=ih e u cs' _ hru hty hy (fun p hp=>hI p (by
               simp only [List.mem_append,List.mem_flatMap]
               exact .inr ⟨elems[j],.inl (List.getElem_mem _),hp⟩))
             obtain ⟨x,x1,x2,x3⟩:=yPi (I:=I) (w:=w) k1
             have hspot:=hspot0 (by omega)
             have hIa:I a.block:=hI (.cell a.block a.off) (by
               simp only [List.mem_append]
               left
               exact MemPlace.mem_row.2 ⟨0,Nat.mul_pos (by omega) hpos,rfl⟩)
             refine ⟨x::rows,by simp [l1],?_,fun _=>⟨hspot,hIa⟩,?_⟩
             · intro y hy
               rcases List.mem_cons.1 hy with rfl | hy
               · exact ⟨x1,by rw [x2];exact k1⟩
               · exact l2 y hy
             · simp only [RowsC]
               refine ⟨⟨cs',hcl,x3 _ k2,?_⟩,?_⟩
               · intro i v hi
                 have hi2:i<P.cellsOf u:=by rw [← hcl];exact (List.getElem?_eq_some_iff.1 hi).1
                 have:=hcg i hi2
                 rw [hi] at this
                 rw [← this,hadd hspot]
               · rw [Nat.add_assoc,show j*P.cellsOf u+P.cellsOf u=(j+1)*P.cellsOf u by rw [Nat.add_mul,Nat.one_mul]]
                 exact l4
         obtain ⟨rows,l1,l2,l3,l4⟩:=rowsOf len 0 (by omega)
         refine ⟨[.data rows],?_,?_⟩
         · simp only [HasF];exact ⟨rows,rfl,by omega,l2⟩
         · simp only [CellsC,RC]
           refine ⟨_,_,rfl,rfl,⟨some a,len,cap,rfl,l1.symm,hle,hcap,?_⟩,rfl⟩
           by_cases h0:len=0
           · left;exact List.eq_nil_of_length_eq_zero (by omega)
           · right
             obtain ⟨hs,hIa⟩:=l3 h0
             refine ⟨a.block,a.off,P.cellsOf u,?_,hIa,hpos,by simpa using l4⟩
             cases a;simp only at hs;subst hs;rfl
     · cases hty
   | a l =>
     unfold tyOk at hty
     split at hty
     · rename_i fs ht
       obtain ⟨xs,m,hm,rfl,hcl,hxl,hxs⟩:=DataW.trod_struct ht h
       have hmn:m=n:=by omega
       subst hmn
       obtain ⟨k1,k2,k3⟩:=K.struct hrow ht
       have:=yBr ih (l:=l) (ts:=fs.toList.map (·.type)) hty (fun t ht=>by obtain ⟨f,hf,rfl⟩:=List.mem_map.1 ht;exact k1 f hf) (cs:=cs) (xs:=xs) (fun j=>((fs.toList.take j).map fun f=>P.cellsOf f.type).sum)
         (fun j t hj=>by
           rw [List.getElem?_map,Option.map_eq_some_iff] at hj
           obtain ⟨f,hf,rfl⟩:=hj
           obtain ⟨hlt,hf2⟩:=List.getElem?_eq_some_iff.1 hf
           show ((fs.toList.take (j+1)).map _).sum=_
           rw [List.take_add_one,hf]
           simp)
         (by simp only [List.length_map,List.take_length];rw [hcl,k2];exact Nat.le_refl _)
         (fun j t hj=>by
           rw [List.getElem?_map,Option.map_eq_some_iff] at hj
           obtain ⟨f,hf,rfl⟩:=hj
           have:=hxs j f (by simpa using hf)
           rw [← this,k3 j f hf])
         (by simp [hxl]) hI (fs.toList.map (·.type)).length 0 (by omega)
       obtain ⟨pcs,p1,p2⟩:=this
       exact ⟨pcs,by simp only [HasF];exact p1,by simpa using p2⟩
     · rename_i q u ht
       obtain ⟨xs,m,hm,rfl,hcl,hxl,hxs⟩:=DataW.trod_array ht h
       have hmn:m=n:=by omega
       subst hmn
       obtain ⟨k1,k2⟩:=K.array hrow ht
       have:=yBr ih (l:=l) (ts:=List.replicate q u) hty (fun t ht=>by rw [(List.mem_replicate.1 ht).2];exact k1) (cs:=cs) (xs:=xs) (fun j=>j*P.cellsOf u)
         (fun j t hj=>by
           have:t=u:=(List.mem_replicate.1 (List.mem_of_getElem? hj)).2
           subst this
           show (j+1)*_=_
           rw [Nat.add_mul,Nat.one_mul])
         (by rw [List.length_replicate,hcl,k2];exact Nat.le_refl _)
         (fun j t hj=>by
           have e:t=u:=(List.mem_replicate.1 (List.mem_of_getElem? hj)).2
           subst e
           have hlt:j<q:=by have:=(List.getElem?_eq_some_iff.1 hj).1;simpa using this
           exact hxs j hlt)
         (by simp [hxl]) hI (List.replicate q u).length 0 (by omega)
       obtain ⟨pcs,p1,p2⟩:=this
       exact ⟨pcs,by simp only [HasF];exact p1,by simpa using p2⟩
     · cases hty
end
end Go.Pf
namespace Go.Pf
open Go Go.ChangeShapes Go.WideShapes Go.ChangeAt Go.RowKit
def HasAs:List DS→List PV→Prop
 | [],as=>as=[]
 | d::l,as=>∃ x r,as=x::r∧x.isAgg=d.isA∧HasF d x.cells∧HasAs l r
section
variable {H:Type} {enc:TypeId×Value→H} {P:Program}
theorem yME (K:Kids P (·<P.types.size)) {w:World} {I:Nat→Prop} {base:Nat} {d:DS} {t:TypeId} {v:Value} {x:DataW H} {p:List MemPlace} (hrow:t<P.types.size) (hty:tyOk P d t=true)
   (hval:Value.okWide P w .any base t v) (h:DataW.Trod enc P w 0 (fun _=>true) true t v x p) (hI:∀ q∈p,I q.block) :
   ∃ y:PV,y.isAgg=d.isA∧HasF d y.cells∧VP1 I w y v:=by
 obtain ⟨n,hn⟩:=h
 obtain ⟨pcs,h1,h2⟩:=yI3 (I:=I) K n d t _ _ hrow hty hn hI
 have single:∀ y:PV,pcs=[y]→y.isAgg=false→d.isA=false→v.cells.toList=[v]→∃ y:PV,y.isAgg=d.isA∧HasF d y.cells∧VP1 I w y v:=by
   intro y e hy hd hv
   subst e
   refine ⟨y,hy.trans hd.symm,?_,?_⟩
   · have:y.cells=[y]:=by cases y <;> first | rfl | cases hy
     rw [this];exact h1
   · rw [hv] at h2
     simp only [CellsC] at h2
     obtain ⟨u,vr,e,_,h3,h4⟩:=h2
     simp only [List.cons.injEq] at e
     obtain ⟨rfl,_⟩:=e
     cases y <;> first | exact h3 | (simp only [RC] at h3;done) | (simp only [VP1];exact h3) | cases hy
 cases d with
 | b =>
   unfold tyOk at hty
   split at hty
   · rename_i ht
     obtain ⟨b,rfl⟩:=okWide_bool ht hval
     simp only [HasF] at h1
     obtain ⟨z,e⟩:=h1
     exact single _ e rfl rfl rfl
   · cases hty
 | i k =>
   unfold tyOk at hty
   split at hty
   · rename_i q ht
     obtain ⟨m,rfl⟩:=okWide_int ht hval
     simp only [HasF] at h1
     obtain ⟨z,e,_⟩:=h1
     exact single _ e rfl rfl rfl
   · cases hty
 | s e =>
   unfold tyOk at hty
   split at hty
   · rename_i u ht
     obtain ⟨a,len,cap,rfl⟩:=okWide_slice ht hval
     simp only [HasF] at h1
     obtain ⟨z,e,_⟩:=h1
     exact single _ e rfl rfl rfl
   · cases hty
 | a l =>
   have key:∀ cs,v=.agg cs→∃ y:PV,y.isAgg=(DS.a l).isA∧HasF (DS.a l) y.cells∧VP1 I w y v:=by
     rintro cs rfl
     refine ⟨.agg pcs,rfl,h1,?_⟩
     simp only [VP1]
     exact ⟨cs.toList,rfl,h2⟩
   unfold tyOk at hty
   split at hty
   · rename_i fs ht
     obtain ⟨cs,e,_⟩:=okWide_struct ht hval
     exact key cs e
   · rename_i q u ht
     have hval2:=hval
     unfold Value.okWide at hval2
     rw [ht] at hval2
     obtain ⟨cs,e,_⟩:=hval2
     exact key cs e
   · cases hty
theorem yEw (K:Kids P (·<P.types.size)) {w:World} {I:Nat→Prop} {base:Nat}:∀ (ts:List TypeId) (dss:List DS) (vs:List Value) (xs:List (DataW H)) (p:List MemPlace),tyL P dss ts=true→(∀ t∈ts,t<P.types.size) →
   (∀ (j:Nat) t v,ts[j]?=some t→vs[j]?=some v→Value.okWide P w .any base t v)→DataW.TrodAll enc P w 0 (fun _=>true) true ts vs xs p→(∀ q∈p,I q.block)→∃ as,HasAs dss as∧VPs I w as vs
 | [],[],[],[],p,_,_,_,_,_=>⟨[],by simp only [HasAs],by simp only [VPs]⟩
 | t::ts,d::dss,v::vs,x::xs,p,hty,hrow,hval,h,hI=>by
   unfold tyL at hty
   simp only [Bool.and_eq_true] at hty
   obtain ⟨p1,q,h1,h2,rfl⟩:=h
   obtain ⟨y,y1,y2,y3⟩:=yME K (hrow t (List.mem_cons_self ..)) hty.1 (hval 0 t v rfl rfl) h1 (fun z hz=>hI z (List.mem_append_left _ hz))
   obtain ⟨as,a1,a2⟩:=yEw K ts dss vs xs q hty.2 (fun u hu=>hrow u (List.mem_cons_of_mem _ hu)) (fun j u z hj hz=>hval (j+1) u z hj hz) h2 (fun z hz=>hI z (List.mem_append_right _ hz))
   refine ⟨y::as,?_,?_⟩
   · simp only [HasAs];exact ⟨y,as,rfl,y1,y2,a1⟩
   · simp only [VPs];exact ⟨v,vs,rfl,y3,a2⟩
 | [],_::_,_,_,_,hty,_,_,_,_=>by unfold tyL at hty;cases hty
 | _::_,[],_,_,_,hty,_,_,_,_=>by unfold tyL at hty;cases hty
 | [],[],_::_,_,_,_,_,_,h,_=>h.elim
 | [],[],[],_::_,_,_,_,_,h,_=>h.elim
 | _::_,_::_,[],_,_,_,_,_,h,_=>h.elim
 | _::_,_::_,_::_,[],_,_,_,_,h,_=>h.elim
theorem yLe (K:Kids P (·<P.types.size)) {n:FuncId} {fn:Func} {G:Nat→Option PV} {dss:List DS} {ts:List TypeId} (hty:tyL P dss ts=true) (hrow:∀ t∈ts,t<P.types.size)
   (hf : P.funcs[n]? = some fn) (hn : (fn.name == "runtime.NumGoroutine") = false) (hb : fn.body.isSome = true) (hsum : ∀ as, HasAs dss as → SumOk P G n as (.bool true))
   {W:World} {base:Nat} {args:Array Value} {ds:List (DataW H)} {p:List MemPlace} {I:Nat→Prop} (hval:∀ (j:Nat) t v,ts[j]?=some t→args.toList[j]?=some v→Value.okWide P W .any base t v)
   (hA:DataW.TrodAll enc P W 0 (fun _=>true) true ts args.toList ds p) (hI:∀ q∈p,I q.block) (himm:∀ b,I b→b<W.heap.size) (hG:GlobOk G I W) :
   Calls P n args W fun e W'=>e=.returned (.bool true)∧Below W.heap.size W W':=by
 obtain ⟨as,a1,a2⟩:=yEw (I:=I) K ts dss args.toList ds p hty hrow hval hA hI
 have h:=hsum as a1 I W args.toList himm hG a2
 have e:(callFunc n (args.toList).toArray).run P W=.ok (.enter n args) W:=by
   have h1 : fn.name ≠ "runtime.NumGoroutine" := by simpa using hn
   obtain ⟨c,hc⟩:=Option.isSome_iff_exists.1 hb
   simp [callFunc,hf,h1,hc]
 unfold CallR at h
 rw [e] at h
 refine Calls.mono h fun e w' he=>?_
 cases e with
 | returned v =>
   obtain ⟨h1,h2⟩:=he
   simp only [VP,VP1,RC,List.cons.injEq,and_true] at h2
   exact ⟨by rw [h2],h1.toBelow⟩
 | panicked ch=>exact he.elim
 | outgrown=>exact he.elim
theorem yI4 (K:Kids P (·<P.types.size)) (hz:∀ t e,t<P.types.size→P.underlying t=some (.slice e)→0<P.cellsOf e) {W W':World} (hb:Below W.heap.size W W') {sp:Nat→Bool} :
   ∀ {ts:List TypeId} {vs:List Value} {ds:List (DataW H)} {ps:List MemPlace},(∀ t∈ts,t<P.types.size)→DataW.TrodAll enc P W 0 (fun _=>true) true ts vs ds ps→(∀ p∈ps,p.block<W.heap.size)→(∀ p∈ps,sp p.block=true)→DataW.TrodAll enc P W' 0 sp true ts vs ds ps:=by
 intro ts vs ds ps hT h hlt hs
 have carry:∀ {ts:List TypeId} {vs:List Value} {ds:List (DataW H)} {ps:List MemPlace},DataW.TrodAll enc P W 0 (fun _=>true) true ts vs ds ps→(∀ p∈ps,p.block<W.heap.size)→DataW.TrodAll enc P W' 0 (fun _=>true) true ts vs ds ps:=by
   intro ts
   induction ts with
   | nil =>
     intro vs ds ps h _
     cases vs with
     | nil=>cases ds with
       | nil=>exact h
       | cons _ _=>exact h.elim
     | cons _ _=>exact h.elim
   | cons t ts ih =>
     intro vs ds ps h hlt
     cases vs with
     | nil=>exact h.elim
     | cons v vs=>cases ds with
       | nil=>exact h.elim
       | cons d ds =>
         obtain ⟨p,q,⟨n,h1⟩,h2,e⟩:=h
         subst e
         exact ⟨p,q,⟨n,DataW.trod_carry n _ _ _ h1 (fun x hx=>hb.same (hlt x (List.mem_append_left _ hx)))⟩,ih h2 (fun x hx=>hlt x (List.mem_append_right _ hx)),rfl⟩
 exact DataW.TrodAll.respare K hz hT (carry h hlt) hs
theorem yBs {f:Func} {s:ChangeSpec} {apart fresh handsOn again:Bool} {W W':World} {args:Array Value} {v:Value} {ds gs:List (DataW H)} {before pa pv:List MemPlace}
   (hW:DataW.Whole enc P f.params.toList s.vars apart W args.toList ds gs before)
   (hres:∀ (b:Nat) (sp:Nat→Bool) (hd:Bool),DataW.TrodAll enc P W' b sp hd f.resultTypes.toList (v.resultList f.resultTypes.size) (s.fn H (ds++gs)).results [])
   (hargs:∀ sp:Nat→Bool,(∀ p∈before,sp p.block=true)→DataW.TrodAll enc P W' 0 sp true f.params.toList args.toList (s.fn H (ds++gs)).args pa)
   (hvars:∀ sp:Nat→Bool,(∀ p∈before,sp p.block=true)→DataW.TrodVars enc P W' sp s.vars (s.fn H (ds++gs)).vars pv)
   (hps:before=pa++pv) (hb:Below W.heap.size W W')
   (hok:∀ (j:Nat) (t:TypeId) (r:Value),f.resultTypes[j]?=some t→(v.resultList f.resultTypes.size)[j]?=some r→Value.okWide P W' .any 0 t r) :
   s.post enc P f apart fresh handsOn again W args v W':=by
 have hlt:∀ p∈before,p.block<W.heap.size:=fun p hp=>hW.lt p hp
 have hold:∀ p∈before,(fun b=>decide (b<W.heap.size)) p.block=true:=fun p hp=>by simpa using hlt p hp
 refine ⟨ds,gs,before,[],pa,pv,hW,hres _ _ _,hargs _ hold,hvars _ hold,World.keptBut_mono (fun p hp=>⟨hp,?_⟩) (hb.frame (·∈before)),fun _=>?_⟩
 · rw [hps,List.mem_append] at hp
   exact Or.inr hp
 · obtain ⟨_,_,_,_,_,hz,hn⟩:=hW
   refine ⟨hok,_,_,([]++pa)++pv,⟨[]++pa,pv,trodAll_append (hargs _ (fun _ _=>rfl)) (hres _ _ _),hvars _ (fun _ _=>rfl),rfl,?_,?_⟩,?_⟩
   · intro b off hp
     have hin:MemPlace.cell b off∈before:=by rw [hps];simpa using hp
     rw [hb.frozen (hlt _ hin)]
     exact hz b off hin
   · intro ha
     have:=hn ha
     rw [hps] at this
     simpa using this
   · intro p hp _
     rw [hps]
     simpa using hp
theorem yMF (K:Kids P (·<P.types.size)) (hz:∀ t e,t<P.types.size→P.underlying t=some (.slice e)→0<P.cellsOf e) {n:FuncId} {fn:Func} {G:Nat→Option PV} {dss:List DS} {s:ChangeSpec} {bt:TypeId}
   (hty : tyL P dss fn.params.toList = true) (hrow : ∀ t ∈ fn.params.toList, t < P.types.size) (hf : P.funcs[n]? = some fn) (hn : (fn.name == "runtime.NumGoroutine") = false) (hb : fn.body.isSome = true)
   (hvars:s.vars=[]) (hfn:∀ ds:List (DataW H),ds.length=fn.params.toList.length→s.fn H (ds++[])={ results:=[.lit (.bool true)],args:=ds })
   (hrt:fn.resultTypes.toList=[bt]) (hbt:P.underlying bt=some .bool) (hsum:∀ as,HasAs dss as→SumOk P G n as (.bool true)) {apart fresh handsOn again:Bool}
   {W:World} {base:Nat} {args:Array Value} {ds gs:List (DataW H)} {before:List MemPlace} (hval:∀ (j:Nat) t v,fn.params[j]?=some t→args[j]?=some v→Value.okWide P W .any base t v)
   (hW:DataW.Whole enc P fn.params.toList s.vars apart W args.toList ds gs before) (J:Nat→Prop) (hJ:∀ b,J b→b<W.heap.size) (hG:GlobOk G (fun b=>(∃ p∈before,p.block=b)∨J b) W) :
   Calls P n args W fun e W'=>∃ v,e=.returned v∧s.post enc P fn apart fresh handsOn again W args v W':=by
 have hW':=hW
 obtain ⟨p,q,hA,hV,hpq,hfz,hnd⟩:=hW
 have hlt:∀ x∈before,x.block<W.heap.size:=fun x hx=>hW'.lt x hx
 rw [hvars] at hV
 obtain ⟨hgs,hq⟩:=trodVars_none hV
 subst hgs;subst hq
 rw [List.append_nil] at hpq
 subst hpq
 have hlen:ds.length=fn.params.toList.length:=by
   have len:∀ {ts:List TypeId} {vs:List Value} {xs:List (DataW H)} {ps:List MemPlace},DataW.TrodAll enc P W 0 (fun _=>true) true ts vs xs ps→xs.length=ts.length:=by
     intro ts
     induction ts with
     | nil =>
       intro vs xs ps h
       cases vs with
       | nil=>cases xs with
         | nil=>rfl
         | cons _ _=>exact h.elim
       | cons _ _=>exact h.elim
     | cons t ts ih =>
       intro vs xs ps h
       cases vs with
       | nil=>exact h.elim
       | cons v vs=>cases xs with
         | nil=>exact h.elim
         | cons x xs =>
           obtain ⟨_,_,_,h2,_⟩:=h
           simp [ih h2]
   exact len hA
 have hc:=yLe (I:=fun b=>(∃ x∈before,x.block=b)∨J b) K hty hrow hf hn hb hsum (W:=W) (base:=base) (args:=args) (fun j t v h1 h2=>hval j t v (by simpa using h1) (by simpa using h2)) hA (fun x hx=>.inl ⟨x,hx,rfl⟩)
   (fun b hb=>by
     rcases hb with ⟨x,hx,rfl⟩ | hb
     · exact hlt x hx
     · exact hJ b hb) hG
 refine hc.mono fun e W' ⟨he,hg⟩=>?_
 subst he
 have hrs:fn.resultTypes=#[bt]:=by rw [← Array.toList_inj];exact hrt
 refine ⟨_,rfl,yBs (pa:=before) (pv:=[]) hW' ?_ ?_ ?_ (by simp) hg ?_⟩
 · intro b sp hd
   rw [hfn ds hlen,hrs]
   exact trodAll_mk1 (shut_bool hbt true)
 · intro sp hs
   rw [hfn ds hlen]
   exact yI4 K hz hg hrow hA hlt hs
 · intro sp hs
   rw [hfn ds hlen,hvars];rfl
 · intro j t r h1 h2
   rw [hrs] at h1 h2
   have hj:j=0:=by
     rcases j with _ | j
     · rfl
     · simp at h1
   subst hj
   simp at h1
   subst h1
   have:r=.bool true:=by
     have h3:((Value.bool true).resultList (#[bt]:Array TypeId).size)[0]?=some (.bool true):=rfl
     rw [h3] at h2
     exact (Option.some.inj h2).symm
   subst this
   exact okWide_bool_mk hbt true
end
end Go.Pf
namespace Go.Pf
open Go
def cellI:PV→Value
 | .int k n=>.int k n
 | _=>.bool false
def okL:List IntKind→List PV→Bool
 | [],[]=>true
 | k::ks,.int q n::r=>decide (q=k)&&(decide (k.min≤n)&&(decide (n≤k.max)&&okL ks r))
 | _,_=>false
def okI (ks:List IntKind):PV→Bool
 | .agg cs=>okL ks cs
 | _=>false
def encI (x:PV):List Value:=x.cells.map cellI
structure Srt where
 n:Nat
 g:Nat
 ks:List IntKind
 good:PV→Bool
 z:PV
def Srt.gd (s:Srt) (x:PV):Bool:=okI s.ks x&&s.good x
abbrev Srt.El (s:Srt):Type:={x:PV // s.gd x=true}
def Srt.enc (s:Srt) (x:s.El):List Value:=encI x.1
def Srt.rows? (s:Srt):List PV→Option (List s.El)
 | []=>some []
 | x::r=>if h:s.gd x=true then (match s.rows? r with | some l=>some (⟨x,h⟩::l) | none=>none) else none
theorem Srt.rows?_val {s:Srt}:∀ {l:List PV} {d:List s.El},s.rows? l=some d→d.map (·.1)=l
 | [],d,h=>by simp only [Srt.rows?] at h;cases h;rfl
 | x::r,d,h=>by
   simp only [Srt.rows?] at h
   split at h
   · split at h
     · rename_i l hl
       cases h
       rw [List.map_cons,Srt.rows?_val hl]
     · cases h
   · cases h
def Srt.sorted (s:Srt) (srt:Array s.El→Array s.El) (l:List PV):List PV :=
 match s.rows? l with
 | some d=>(srt d.toArray).toList.map (·.1)
 | none=>l
def Srt.cond (s:Srt) (rows:List PV) (lo len ext esz:Nat) (fz:Bool):Bool :=
 decide (rows.length=ext)&&(decide (lo+len≤ext)&&(decide (0<len)&&(decide (esz=s.ks.length)&&(!fz&&(decide (len<4611686018427387904)&&(s.rows? ((rows.drop lo).take len)).isSome)))))
def srtEff (s:Srt) (srt:Array s.El→Array s.El) (n:Nat) (xs:List PV) (H:Hp):Option (Bool×Bool×(PV×Hp)×(PV×Hp)) :=
 bif Nat.beq n s.n then
   (match xs with
    | [.own id lo len ext _,.fn (.func g) [] []] =>
      bif Nat.beq g s.g then
        (match H[id]? with
         | some b=>some (s.cond b.rows lo len ext b.esz b.fz,true,(.tup [],H.set id { b with rows:=b.rows.take lo++(s.sorted srt ((b.rows.drop lo).take len)++b.rows.drop (lo+len)) }),(.nils,[]))
         | none=>none)
      else none
    | [.nils,.fn (.func g) [] []]=>bif Nat.beq g s.g then some (true,true,(.tup [],H),(.nils,[])) else none
    | [.emp,.fn (.func g) [] []]=>bif Nat.beq g s.g then some (true,true,(.tup [],H),(.nils,[])) else none
    | _=>none)
 else none
theorem yMG {s:Srt} {srt:Array s.El→Array s.El} {n:Nat} {xs:List PV} {H:Hp} {x:Bool×Bool×(PV×Hp)×(PV×Hp)} (h:srtEff s srt n xs H=some x):n=s.n:=by
 unfold srtEff at h
 cases hb:Nat.beq n s.n with
 | true=>exact Nat.eq_of_beq_eq_true hb
 | false=>rw [hb] at h;cases h
structure Srts where
 s:Srt
 cf:s.El→s.El→Int
def Srts.srt (s:Srts) [Inhabited s.s.El] (d:Array s.s.El):Array s.s.El:=Go.Sort.pdq (fun x y=>decide (s.cf x y<0)) d 0 d.size (Go.Lib.bitLen d.size) true true
abbrev EffF:Type:=Nat→List PV→Hp→Option (Bool×Bool×(PV×Hp)×(PV×Hp))
def lookE:List (Nat×EffF)→EffF
 | [],_,_,_=>none
 | (k,e)::r,n,xs,H=>bif Nat.beq n k then (match e n xs H with | some x=>some x | none=>lookE r n xs H) else lookE r n xs H
theorem yKo:∀ {l:List (Nat×EffF)} {n:Nat} {xs:List PV} {H:Hp} {x:Bool×Bool×(PV×Hp)×(PV×Hp)},lookE l n xs H=some x→∃ e∈l,n=e.1
 | [],_,_,_,_,h=>by cases h
 | (k,e)::r,n,xs,H,x,h=>by
   simp only [lookE] at h
   cases hb:Nat.beq n k with
   | true=>exact ⟨(k,e),List.mem_cons_self,Nat.eq_of_beq_eq_true hb⟩
   | false =>
     rw [hb,cond_false] at h
     obtain ⟨e2,h1,h2⟩:=yKo h
     exact ⟨e2,List.mem_cons_of_mem _ h1,h2⟩
theorem ysg {P:Program} {E:Env}:∀ {l:List (Nat×EffF)},(∀ e∈l,InlineOk P E (fun n xs H=>armOf (e.2 n xs H)))→InlineOk P E (fun n xs H=>armOf (lookE l n xs H))
 | [],_=>fun _ _ _ _ _ h=>by cases h
 | (k,e)::r,h=>by
   intro f args H q H' hc
   dsimp only [lookE] at hc
   cases hb:Nat.beq f k with
   | false =>
     rw [hb,cond_false] at hc
     exact ysg (fun e2 h2=>h e2 (List.mem_cons_of_mem _ h2)) f args H q H' hc
   | true =>
     rw [hb,cond_true] at hc
     cases he:e f args H with
     | some x =>
       rw [he] at hc
       refine h (k,e) List.mem_cons_self f args H q H' ?_
       dsimp only
       rw [he]
       exact hc
     | none =>
       rw [he] at hc
       exact ysg (fun e2 h2=>h e2 (List.mem_cons_of_mem _ h2)) f args H q H' hc
def baseS (add sub:Nat) (tab:List (Nat×AFn)) (qui:List Nat) (cl:Clones) (gl:List (Nat×PV)) (ef:List (Nat×EffF)):Env:={ baseC add sub tab qui cl gl with eff:=lookE ef }
theorem yaa {add sub:Nat} {tab:List (Nat×AFn)} {qui:List Nat} {cl:Clones} {gl:List (Nat×PV)} {ef:List (Nat×EffF)} {n:Nat} (h:special add sub cl n=false) (xs:List PV):(baseS add sub tab qui cl gl ef).sum n xs=none:=yI1 (tab:=tab) (qui:=qui) (gl:=gl) h xs
theorem yLf {add sub:Nat} {tab:List (Nat×AFn)} {qui:List Nat} {cl:Clones} {gl:List (Nat×PV)} {ef:List (Nat×EffF)} (h:(ef.all fun e=>!memN qui e.1&&(!special add sub cl e.1&&!memN qui (e.1+3000000)))=true):EffOk (baseS add sub tab qui cl gl ef):=by
 intro n xs H x hx
 obtain ⟨e,h1,rfl⟩:=yKo hx
 have h2:=List.all_eq_true.1 h e h1
 simp only [Bool.and_eq_true,Bool.not_eq_true'] at h2
 exact ⟨h2.1,rfl,fun xs=>yaa (tab:=tab) (qui:=qui) (gl:=gl) (ef:=ef) h2.2.1 xs,h2.2.2⟩
theorem yGZ {P:Program} {add sub:Nat} {tab:List (Nat×AFn)} {qui:List Nat} {cl:Clones} {gl:List (Nat×PV)} {ef:List (Nat×EffF)} (h:EnvOk P (baseC add sub tab qui cl gl))
   (hs:∀ e∈ef,InlineOk P (baseC add sub tab qui cl gl) (fun n xs H=>armOf (e.2 n xs H))):EnvOk P (baseS add sub tab qui cl gl ef) where
 sum:=h.sum
 fns:=h.fns
 eff:=InlineOk.env (E:=baseC add sub tab qui cl gl) (E':=baseS add sub tab qui cl gl ef) rfl (ysg hs)
end Go.Pf
namespace Go.Pf
abbrev lt {α:Type} (x:α) (f:α→Prop):Prop:=f x
abbrev jn {α:Type} (f:α→Prop) (k:α):Prop:=f k
def rvB (n d:Int):Bool:=decide (1≤d)&&(decide (d≤1000000000000000000)&&(decide (-1000000000000000000≤n)&&(decide (n≤1000000000000000000)&&decide (Nat.gcd n.natAbs d.natAbs=1))))
def cmpI (a b c d:Int):Int:=if a*d<c*b then -1 else if c*b<a*d then 1 else 0
def spGood:PV→Bool
 | .agg [.int _ a,.int _ b,_,_]=>rvB a b
 | _=>false
def rtGood:PV→Bool
 | .agg [.int _ a,.int _ b]=>rvB a b
 | _=>false
def spCmp:PV→PV→Int
 | .agg [.int _ a,.int _ b,_,_],.agg [.int _ c,.int _ d,_,_]=>cmpI a b c d
 | _,_=>0
def rtCmp:PV→PV→Int
 | .agg [.int _ a,.int _ b],.agg [.int _ c,.int _ d]=>cmpI a b c d
 | _,_=>0
def spSrt (n g:Nat):Srts:=⟨⟨n,g,[.i64,.i64,.i64,.i64],spGood,.agg [.int .i64 0,.int .i64 1,.int .i64 0,.int .i64 1]⟩,fun x y=>spCmp x.1 y.1⟩
def rtSrt (n g:Nat):Srts:=⟨⟨n,g,[.i64,.i64],rtGood,.agg [.int .i64 0,.int .i64 1]⟩,fun x y=>rtCmp x.1 y.1⟩
instance (n g:Nat):Inhabited (spSrt n g).s.El:=⟨⟨.agg [.int .i64 0,.int .i64 1,.int .i64 0,.int .i64 1],rfl⟩⟩
instance (n g:Nat):Inhabited (rtSrt n g).s.El:=⟨⟨.agg [.int .i64 0,.int .i64 1],rfl⟩⟩
theorem yBt {n:Nat} {xs:List PV} {H:Hp}:∀ {l:List (Nat×EffF)},memN (l.map (·.1)) n=false→lookE l n xs H=none
 | [],_=>rfl
 | (k,e)::r,h=>by
   simp only [List.map_cons,memN] at h
   simp only [lookE]
   cases hb:Nat.beq k n with
   | true=>rw [hb] at h;cases h
   | false =>
     rw [hb,cond_false] at h
     have hb2:Nat.beq n k=false:=by
       cases hc:Nat.beq n k with
       | false=>rfl
       | true =>
         have:=Nat.eq_of_beq_eq_true hc
         subst this
         rw [Nat.beq_refl] at hb
         cases hb
     rw [hb2,cond_false]
     exact yBt h
structure EffG (E:List (Nat×EffF)→Env) (nums:List Nat) (e:List (Nat×EffF)):Prop where
 ok:EffOk (E e)
 num:∀ n,memN nums n=false→∀ xs H,(E e).eff n xs H=none
theorem yLg {add sub:Nat} {tab:List (Nat×AFn)} {qui:List Nat} {cl:Clones} {gl:List (Nat×PV)} {ef:List (Nat×EffF)} {n esz bytes:Nat} (h1:Nat.beq n add=false) (h2:Nat.beq n sub=false) (hc:cloneAt cl n=some (esz,bytes)) :
   ∀ as K,yBq esz bytes as K→∃ r,K r∧Ans (baseS add sub tab qui cl gl ef) n as r:=by
 intro as K h
 unfold yBq yBp at h
 split at h
 · rename_i rows
   obtain ⟨hk,h⟩:=yaf.1 h
   refine ⟨_,h,0,fun m _=>?_⟩
   simp only [pureRes,baseS,baseC,yEv h1 h2,yzI cl hc hk]
 · exact h.elim
theorem yLh {add sub:Nat} {tab:List (Nat×AFn)} {qui:List Nat} {cl:Clones} {gl:List (Nat×PV)} {ef:List (Nat×EffF)}:∀ as K,yvq as K→∃ r,K r∧Ans (baseS add sub tab qui cl gl ef) add as r:=by
 intro as K h
 unfold yvq yvp at h
 split at h
 · rename_i a b c
   obtain ⟨h1,h⟩:=yaf.1 h
   have h1:c.toNat≤1:=by simpa using h1
   refine ⟨_,h,0,fun m _=>?_⟩
   have e:sumC add sub add [.int .u64 a,.int .u64 b,.int .u64 c]=some (.tup [u64 ((a.toNat+b.toNat+c.toNat) % 18446744073709551616),u64 ((a.toNat+b.toNat+c.toNat) / 18446744073709551616)]):=by
     simp only [sumC,Nat.beq_refl,Bool.true_and,Nat.ble_eq_true_of_le h1,cond_true]
   simp only [pureRes,baseS,baseC,e,u64]
 · exact h.elim
theorem yLi {add sub:Nat} (hne:Nat.beq sub add=false) {tab:List (Nat×AFn)} {qui:List Nat} {cl:Clones} {gl:List (Nat×PV)} {ef:List (Nat×EffF)}:∀ as K,yvs as K→∃ r,K r∧Ans (baseS add sub tab qui cl gl ef) sub as r:=by
 intro as K h
 unfold yvs yvr at h
 split at h
 · rename_i a b c
   obtain ⟨h1,h⟩:=yaf.1 h
   have h1:c.toNat≤1:=by simpa using h1
   refine ⟨_,h,0,fun m _=>?_⟩
   have e:sumC add sub sub [.int .u64 a,.int .u64 b,.int .u64 c]=some (.tup [u64 ((a.toNat+18446744073709551616-b.toNat-c.toNat) % 18446744073709551616),u64 (bif Nat.ble (b.toNat+c.toNat) a.toNat then 0 else 1)]):=by
     simp only [sumC,hne,Nat.beq_refl,Bool.true_and,Bool.false_and,Nat.ble_eq_true_of_le h1,cond_true,cond_false]
   simp only [pureRes,baseS,baseC,e,u64]
 · exact h.elim
end Go.Pf
namespace Go.Pf
open Go Go.Sort
theorem Srts.srt_size (S:Srts) [Inhabited S.s.El] (h:SWO (fun x y=>decide (S.cf x y<0))) (d:Array S.s.El):(S.srt d).size=d.size :=
 (pdq_sorts _ h d 0 d.size (Go.Lib.bitLen d.size) true true (Nat.zero_le _) (Nat.le_refl _) (Or.inl rfl)).1.1
theorem Srts.sorted_is (S:Srts) [Inhabited S.s.El] (h:SWO (fun x y=>decide (S.cf x y<0))) {rows:List PV} {d:List S.s.El} (hd:S.s.rows? rows=some d) :
   ∃ d':List S.s.El,d'.Perm d∧d'.Pairwise (fun x y=>¬S.cf y x<0)∧Srt.sorted S.s S.srt rows=d'.map (·.1):=by
 have e:Srt.sorted S.s S.srt rows=(S.srt d.toArray).toList.map (·.1):=by unfold Srt.sorted;rw [hd]
 obtain ⟨⟨h1,_,h3⟩,h4⟩:=pdq_sorts _ h d.toArray 0 d.toArray.size (Go.Lib.bitLen d.toArray.size) true true (Nat.zero_le _) (Nat.le_refl _) (Or.inl rfl)
 refine ⟨(S.srt d.toArray).toList,?_,?_,e⟩
 · have h5:(S.srt d.toArray).size=d.toArray.size:=h1
   have e1:(S.srt d.toArray).extract 0 d.toArray.size=S.srt d.toArray:=by rw [← h5];exact Array.extract_size
   have e2:d.toArray.extract 0 d.toArray.size=d.toArray:=Array.extract_size
   have h6:((S.srt d.toArray).extract 0 d.toArray.size).toList.Perm (d.toArray.extract 0 d.toArray.size).toList:=h3
   rw [e1,e2] at h6
   simpa using h6
 · have h5:(S.srt d.toArray).size=d.toArray.size:=h1
   rw [List.pairwise_iff_getElem]
   intro i j hi hj hij hlt
   rw [Array.length_toList] at hi hj
   have h6:SortedIn (fun x y=>decide (S.cf x y<0)) 0 d.toArray.size (S.srt d.toArray):=h4
   have:=h6 i j (Nat.zero_le _) hij (by rw [← h5];exact hj)
   rw [getElem!_pos (S.srt d.toArray) i hi,getElem!_pos (S.srt d.toArray) j hj] at this
   simp only [Array.getElem_toList] at hlt
   simp [hlt] at this
end Go.Pf
namespace Go.Pf.Vc
open Go Go.Pf
def ylN:Nat:=32
def yf6:Nat:=12
def yjk:Nat:=61
def ylO:Nat:=33
def ylP:Nat:=13
def yp3:Nat:=4
def ynB:Nat:=14
def yno:Nat:=15
def ygR:Nat:=82
def yff:Nat:=83
def ybX:Nat:=55
def ycP:Nat:=24
def yds:Nat:=92
def yfq:Nat:=62
def ynC:Nat:=35
def ye1:Nat:=18
def ycF:Nat:=42
def ybw:Nat:=67
def yc8:Nat:=80
def ydt:Nat:=81
def yfr:Nat:=50
def ygW:Nat:=37
def ycX:Nat:=89
def ybY:Nat:=86
def ye2:Nat:=93
def ycf:Nat:=64
def yen:Nat:=94
def yeB:Nat:=65
def yeQ:Nat:=66
def ydS:Nat:=95
def yc9:Nat:=69
def yjF:Nat:=68
def ycv:Nat:=39
def ycQ:Nat:=85
def yeH:Nat:=84
def yjl:Nat:=104
def yjm:Nat:=105
def ynp:Nat:=118
def ye3:Nat:=119
def ykD:Nat:=107
def yp4:Nat:=106
def yda:Nat:=88
def yfs:Nat:=87
def yed:Nat:=73
def yee:Nat:=43
def yfG:Nat:=91
def ysh:Nat:=90
def ylQ:Nat:=57
def ydu:Nat:=26
def ydb:Nat:=27
def yf7:Nat:=63
def ynD:Nat:=36
def yft:Nat:=56
def yc6:Nat:=25
def ylR:Nat:=38
def yeJ:Nat:=19
def ybV:Nat:=70
def yhA:Nat:=40
def yfu:Nat:=20
def yfv:Nat:=6
def ygt:Nat:=17
def ynE:Nat:=34
def ykE:Nat:=16
def yjn:Nat:=5
def yiw:Nat:=120
def ylS:Nat:=108
def yeK:Nat:=97
def yeL:Nat:=96
def ybT:Nat:=44
def ybx:Nat:=51
def yeM:Nat:=71
def yeu:Nat:=99
def ysi:Nat:=98
def ycB:Nat:=72
def ybh:Nat:=41
def ydT:Nat:=21
def ye4:Nat:=22
def ydv:Nat:=76
def ycs:Nat:=100
def yaZ:Nat:=74
def ycC:Nat:=75
def ygX:Nat:=47
def ya7:Nat:=46
def ycN:Nat:=45
def ydw:Nat:=101
def yev:Nat:=77
def yyy:Nat:=117
def yFd:Nat:=103
def yef:Nat:=109
def yco:Nat:=102
def ybt:Nat:=78
def ycO:Nat:=79
def ydx:Nat:=48
def ya8:Nat:=49
def ya9:Nat:=52
def yba:Nat:=53
def ybb:Nat:=54
def ybo:Nat:=23
def yjG:Nat:=7
def yjH:Nat:=8
def yjo:Nat:=9
def ybk:Nat:=28
def yaI:Nat:=29
def yhB:Nat:=10
def ylT:Nat:=31
def ynq:Nat:=58
def yp5:Nat:=59
def ynF:Nat:=60
def ynG:Nat:=30
def ynH:Nat:=11
def ykF:Nat:=3
def t0:Opd:=.t 0
def t1:Opd:=.t 1
def t4:Opd:=.t 4
def t5:Opd:=.t 5
def t7:Opd:=.t 7
def t8:Opd:=.t 8
def t9:Opd:=.t 9
def t10:Opd:=.t 10
def t11:Opd:=.t 11
def yG0:TFn:=⟨1,[.tmp 2],(.seq (oQ [O 1 (.boxL t0),O 2 (.mv (.c (.bool false)))] [0,2]) (.seq (.ops [O 3 (.fad 1 t1),oF 4 1 3,O 5 (.len t4),O 6 (.bin .gtr t5 (I 60)),M 7 6,⟨some 8,(.fad 2 t1),some (7,false)⟩,⟨some 9,(.load false 1 t8),some (7,false)⟩,⟨some 10,(.len t9),some (7,false)⟩,⟨some 11,(.bin .gtr t10 (I 60)),some (7,false)⟩,O 12 (.pick t7 (.c (.bool true)) t11),M 2 12] [⟨1,(.agg [.i .i64,.d,.d]),0⟩,⟨6,(.agg [.i .i64,.d,.d]),0⟩] [] [1,3,4,5,6,7,8,9,10,11,12]) .ret))⟩
def t13:Opd:=.t 13
def t14:Opd:=.t 14
def yp6:TCode:=(.seq (.seq (oQ [M 4 3,M 5 0,O 6 (.len t5),oX 7 .lss 4 6] [4,5,6]) (.cond t7 .skip (.exit 0))) (.seq (.block 1 (.seq (.ops [M 10 0,M 11 3,O 12 (.iad 3 t10 t11),oT 13 3 12,O 14 (.call (.f ylN) [t13])] [⟨2,(.agg [.i .i64,.d,.d]),0⟩,⟨3,(.agg [.i .i64,.d,.d]),0⟩] [] [7,10,11,12,13]) (.cond t14 (.seq (oQ [O 2 (.mv (.c (.bool true)))] [0,3,14]) .ret) .skip))) (oQ [M 8 3,O 9 (.bin .add t8 (I 1)),M 3 9] [8,9,14])))
def t15:Opd:=.t 15
def t16:Opd:=.t 16
def yyz:TFn:=⟨1,[.tmp 2],(.seq (oQ [O 2 (.mv (.c (.bool false)))] [2]) (.seq (.seq (oQ [O 3 (.mv (I 0))] []) (.block 0 (.loop 4277600 yp6))) (.seq (oQ [M 15 0,O 16 (.len t15),O 17 (.bin .gtr t16 (I 10)),M 2 17] [0,3,7,15,16,17]) .ret)))⟩
def t55:Opd:=.t 55
def t57:Opd:=.t 57
def t58:Opd:=.t 58
def t61:Opd:=.t 61
def t62:Opd:=.t 62
def t63:Opd:=.t 63
def t67:Opd:=.t 67
def t68:Opd:=.t 68
def t72:Opd:=.t 72
def t73:Opd:=.t 73
def t74:Opd:=.t 74
def t75:Opd:=.t 75
def t76:Opd:=.t 76
def t77:Opd:=.t 77
def t78:Opd:=.t 78
def t80:Opd:=.t 80
def t81:Opd:=.t 81
def t82:Opd:=.t 82
def t83:Opd:=.t 83
def t84:Opd:=.t 84
def t85:Opd:=.t 85
def t86:Opd:=.t 86
def t87:Opd:=.t 87
def t89:Opd:=.t 89
def t90:Opd:=.t 90
def t91:Opd:=.t 91
def t92:Opd:=.t 92
def t93:Opd:=.t 93
def t94:Opd:=.t 94
def t95:Opd:=.t 95
def ynI:TCode:=(.seq (.seq (.ops [M 53 4,O 54 (.fad 2 t1),oF 55 1 54,O 56 (.len t55),oX 57 .lss 53 56] [⟨2,(.agg [.i .i64,.d,.d]),0⟩] [] [53,54,55,56]) (.cond t57 .skip (.exit 0))) (.seq (.block 1 (.seq (.seq (.ops [O 60 (.fad 1 t1),oF 61 1 60,M 62 4,O 63 (.bin .add t62 (I 1)),O 64 (.iad 1 t61 t63),oF 65 1 64,O 66 (.fad 1 t1),oF 67 1 66,M 68 4,O 69 (.iad 1 t67 t68),oF 70 1 69,oX 71 .leq 65 70,M 72 71,⟨some 73,(.fad 2 t1),some (72,false)⟩,⟨some 74,(.load false 1 t73),some (72,false)⟩,⟨some 75,(.mv t4),some (72,false)⟩,⟨some 76,(.iad 1 t74 t75),some (72,false)⟩,⟨some 77,(.load false 1 t76),some (72,false)⟩,⟨some 78,(.bin .lss t77 (I 0)),some (72,false)⟩,O 79 (.pick t72 (.c (.bool true)) t78),M 80 79,⟨some 81,(.fad 2 t1),some (80,false)⟩,⟨some 82,(.load false 1 t81),some (80,false)⟩,⟨some 83,(.mv t4),some (80,false)⟩,⟨some 84,(.iad 1 t82 t83),some (80,false)⟩,⟨some 85,(.load false 1 t84),some (80,false)⟩,⟨some 86,(.bin .gtr t85 (I 12)),some (80,false)⟩,O 87 (.pick t80 (.c (.bool true)) t86)] [⟨1,(.agg [.i .i64,.d,.d]),0⟩,⟨4,(.one (.i .i64)),0⟩,⟨5,(.one (.i .i64)),0⟩,⟨7,(.agg [.i .i64,.d,.d]),0⟩,⟨9,(.one (.i .i64)),0⟩,⟨10,(.one (.i .i64)),0⟩,⟨14,(.agg [.i .i64,.d,.d]),0⟩,⟨16,(.one (.i .i64)),0⟩,⟨17,(.one (.i .i64)),0⟩,⟨22,(.agg [.i .i64,.d,.d]),0⟩,⟨24,(.one (.i .i64)),0⟩,⟨25,(.one (.i .i64)),0⟩] [(0,2),(1,2),(0,3),(1,3),(0,6),(1,6),(2,6),(3,6),(4,6),(5,6),(0,7),(1,7),(2,7),(3,7),(4,7),(5,7),(0,8),(1,8),(2,8),(3,8),(4,8),(5,8),(6,8),(7,8),(0,9),(1,9),(2,9),(3,9),(4,9),(5,9),(0,10),(1,10),(2,10),(3,10),(4,10),(5,10),(13,15),(14,15),(21,23),(22,23)] [57,60,61,62,63,64,65,66,67,68,69,70,71,72,73,74,75,76,77,78,79,80,81,82,83,84,85,86]) (.cond t87 (.seq (oQ [O 2 (.mv (I 8))] [1,3,4,87]) .ret) .skip)) (.ops [M 88 3,M 89 88,⟨some 90,(.fad 2 t1),some (89,false)⟩,⟨some 91,(.load false 1 t90),some (89,false)⟩,⟨some 92,(.mv t4),some (89,false)⟩,⟨some 93,(.iad 1 t91 t92),some (89,false)⟩,⟨some 94,(.load false 1 t93),some (89,false)⟩,⟨some 95,(.bin .gtr t94 (I 0)),some (89,false)⟩,O 96 (.pick t89 (.c (.bool true)) t95),M 3 96] [⟨3,(.agg [.i .i64,.d,.d]),0⟩,⟨5,(.one (.i .i64)),0⟩,⟨6,(.one (.i .i64)),0⟩] [] [87,88,89,90,91,92,93,94,95,96]))) (oQ [M 58 4,O 59 (.bin .add t58 (I 1)),M 4 59] [58,59])))
def t6:Opd:=.t 6
def t12:Opd:=.t 12
def t17:Opd:=.t 17
def t18:Opd:=.t 18
def t19:Opd:=.t 19
def t20:Opd:=.t 20
def t21:Opd:=.t 21
def t23:Opd:=.t 23
def t24:Opd:=.t 24
def t25:Opd:=.t 25
def t26:Opd:=.t 26
def t27:Opd:=.t 27
def t28:Opd:=.t 28
def t29:Opd:=.t 29
def t30:Opd:=.t 30
def t31:Opd:=.t 31
def t33:Opd:=.t 33
def t34:Opd:=.t 34
def t35:Opd:=.t 35
def t36:Opd:=.t 36
def t37:Opd:=.t 37
def t38:Opd:=.t 38
def t40:Opd:=.t 40
def t41:Opd:=.t 41
def t42:Opd:=.t 42
def t43:Opd:=.t 43
def t44:Opd:=.t 44
def t45:Opd:=.t 45
def t46:Opd:=.t 46
def t47:Opd:=.t 47
def t48:Opd:=.t 48
def t49:Opd:=.t 49
def t50:Opd:=.t 50
def t51:Opd:=.t 51
def t52:Opd:=.t 52
def t97:Opd:=.t 97
def t98:Opd:=.t 98
def yG1:TFn:=⟨1,[.tmp 2],(.seq (oQ [O 1 (.boxL t0),O 2 (.mv (I 0))] [0,2]) (.seq (.seq (.ops [O 5 (.fad 0 t1),oF 6 1 5,O 7 (.bin .gtr t6 (I 1000)),M 8 7,⟨some 9,(.fad 1 t1),some (8,false)⟩,⟨some 10,(.load false 1 t9),some (8,false)⟩,⟨some 11,(.len t10),some (8,false)⟩,⟨some 12,(.bin .gtr t11 (I 40)),some (8,false)⟩,O 13 (.pick t8 (.c (.bool true)) t12)] [⟨1,(.agg [.i .i64,.d,.d]),0⟩,⟨5,(.agg [.i .i64,.d,.d]),0⟩] [] [5,6,7,8,9,10,11,12]) (.cond t13 (.seq (oQ [O 2 (.mv (I 4))] [1,13]) .ret) .skip)) (.seq (.seq (.ops [O 14 (.fad 0 t1),oF 15 1 14,O 16 (.bin .lss t15 (I 1)),M 17 16,⟨some 18,(.fad 1 t1),some (17,false)⟩,⟨some 19,(.load false 1 t18),some (17,false)⟩,⟨some 20,(.len t19),some (17,false)⟩,⟨some 21,(.bin .lss t20 (I 2)),some (17,false)⟩,O 22 (.pick t17 (.c (.bool true)) t21),M 23 22,⟨some 24,(.fad 2 t1),some (23,false)⟩,⟨some 25,(.load false 1 t24),some (23,false)⟩,⟨some 26,(.len t25),some (23,false)⟩,⟨some 27,(.fad 1 t1),some (23,false)⟩,⟨some 28,(.load false 1 t27),some (23,false)⟩,⟨some 29,(.len t28),some (23,false)⟩,⟨some 30,(.bin .sub t29 (I 1)),some (23,false)⟩,⟨some 31,(.bin .neq t26 t30),some (23,false)⟩,O 32 (.pick t23 (.c (.bool true)) t31),M 33 32,⟨some 34,(.fad 1 t1),some (33,false)⟩,⟨some 35,(.load false 1 t34),some (33,false)⟩,⟨some 36,(.iad 1 t35 (I 0)),some (33,false)⟩,⟨some 37,(.load false 1 t36),some (33,false)⟩,⟨some 38,(.bin .neq t37 (I 0)),some (33,false)⟩,O 39 (.pick t33 (.c (.bool true)) t38),M 40 39,⟨some 41,(.fad 1 t1),some (40,false)⟩,⟨some 42,(.load false 1 t41),some (40,false)⟩,⟨some 43,(.fad 1 t1),some (40,false)⟩,⟨some 44,(.load false 1 t43),some (40,false)⟩,⟨some 45,(.len t44),some (40,false)⟩,⟨some 46,(.bin .sub t45 (I 1)),some (40,false)⟩,⟨some 47,(.iad 1 t42 t46),some (40,false)⟩,⟨some 48,(.load false 1 t47),some (40,false)⟩,⟨some 49,(.fad 0 t1),some (40,false)⟩,⟨some 50,(.load false 1 t49),some (40,false)⟩,⟨some 51,(.bin .neq t48 t50),some (40,false)⟩,O 52 (.pick t40 (.c (.bool true)) t51)] [⟨1,(.agg [.i .i64,.d,.d]),0⟩,⟨5,(.agg [.i .i64,.d,.d]),0⟩,⟨11,(.agg [.i .i64,.d,.d]),0⟩,⟨14,(.agg [.i .i64,.d,.d]),0⟩,⟨21,(.agg [.i .i64,.d,.d]),0⟩,⟨22,(.one (.i .i64)),0⟩,⟨23,(.one (.i .i64)),0⟩,⟨28,(.agg [.i .i64,.d,.d]),0⟩,⟨30,(.agg [.i .i64,.d,.d]),0⟩,⟨33,(.one (.i .i64)),0⟩,⟨34,(.one (.i .i64)),0⟩,⟨36,(.agg [.i .i64,.d,.d]),0⟩] [(10,13),(11,13),(12,13),(10,14),(11,14),(12,14),(10,15),(11,15),(12,15),(10,16),(11,16),(12,16),(27,29),(28,29),(27,30),(28,30),(27,31),(28,31),(27,32),(28,32),(27,35),(28,35),(29,35),(30,35),(31,35),(32,35),(33,35),(34,35),(27,36),(28,36),(29,36),(30,36),(31,36),(32,36),(33,36),(34,36)] [13,14,15,16,17,18,19,20,21,22,23,24,25,26,27,28,29,30,31,32,33,34,35,36,37,38,39,40,41,42,43,44,45,46,47,48,49,50,51]) (.cond t52 (.seq (oQ [O 2 (.mv (I 8))] [1,52]) .ret) .skip)) (.seq (oQ [O 3 (.mv (.c (.bool false)))] [52]) (.seq (.seq (oQ [O 4 (.mv (I 0))] []) (.block 0 (.loop 94526800 ynI))) (.seq (.seq (oQ [M 97 3,O 98 (.un .not t97)] [1,3,4,57,97]) (.cond t98 (.seq (oQ [O 2 (.mv (I 8))] [98]) .ret) .skip)) (.seq (oQ [O 2 (.mv (I 0))] [98]) .ret)))))))⟩
def t32:Opd:=.t 32
def yp7:TCode:=(.seq (.seq (.ops [M 19 3,O 20 (.fad 0 t1),oF 21 1 20,O 22 (.len t21),oX 23 .lss 19 22] [⟨2,(.agg [.d,.d]),0⟩] [] [19,20,21,22]) (.cond t23 .skip (.exit 0))) (.seq (.block 1 (.seq (.ops [O 26 (.fad 0 t1),oF 27 1 26,M 28 3,O 29 (.iad 3 t27 t28),oT 30 3 29,O 31 (.call (.f yjk) [t30]),O 32 (.bin .neq t31 (I 0))] [⟨1,(.agg [.d,.d]),0⟩,⟨3,(.agg [.i .i64,.d,.d]),0⟩,⟨4,(.agg [.i .i64,.d,.d]),0⟩] [] [23,26,27,28,29,30,31]) (.cond t32 (.seq (.ops [O 33 (.fad 0 t1),oF 34 1 33,M 35 3,O 36 (.iad 3 t34 t35),oT 37 3 36,O 38 (.call (.f yjk) [t37]),M 2 38] [⟨1,(.agg [.d,.d]),0⟩,⟨3,(.agg [.i .i64,.d,.d]),0⟩,⟨4,(.agg [.i .i64,.d,.d]),0⟩] [] [1,3,32,33,34,35,36,37,38]) .ret) .skip))) (oQ [M 24 3,O 25 (.bin .add t24 (I 1)),M 3 25] [24,25,32])))
def t53:Opd:=.t 53
def t54:Opd:=.t 54
def yp8:TCode:=(.seq (.seq (.ops [M 39 4,O 40 (.fad 0 t1),oF 41 1 40,O 42 (.len t41),oX 43 .lss 39 42] [⟨2,(.agg [.d,.d]),0⟩] [] [39,40,41,42]) (.cond t43 .skip (.exit 2))) (.seq (.block 3 (.seq (.ops [O 46 (.fad 0 t1),oF 47 1 46,M 48 4,O 49 (.iad 3 t47 t48),O 50 (.fad 0 t49),oF 51 1 50,O 52 (.fad 0 t1),oF 53 1 52,O 54 (.iad 3 t53 (I 0)),O 55 (.fad 0 t54),oF 56 1 55,oX 57 .neq 51 56] [⟨1,(.agg [.d,.d]),0⟩,⟨3,(.agg [.i .i64,.d,.d]),0⟩,⟨5,(.agg [.i .i64,.d,.d]),0⟩,⟨7,(.agg [.d,.d]),0⟩,⟨8,(.agg [.i .i64,.d,.d]),0⟩,⟨10,(.agg [.i .i64,.d,.d]),0⟩] [(0,2),(1,2),(0,6),(1,6),(2,6),(3,6),(4,6),(5,6),(0,7),(1,7),(2,7),(3,7),(4,7),(5,7),(0,8),(1,8),(2,8),(3,8),(4,8),(5,8),(0,9),(1,9),(2,9),(3,9),(4,9),(5,9),(0,10),(1,10),(2,10),(3,10),(4,10),(5,10)] [43,46,47,48,49,50,51,52,53,54,55,56]) (.cond t57 (.seq (oQ [O 2 (.mv (I 8))] [1,4,57]) .ret) .skip))) (oQ [M 44 4,O 45 (.bin .add t44 (I 1)),M 4 45] [44,45,57])))
def yG2:TFn:=⟨1,[.tmp 2],(.seq (oQ [O 1 (.boxL t0),O 2 (.mv (I 0))] [0,2]) (.seq (.seq (.ops [O 5 (.fad 0 t1),oF 6 1 5,O 7 (.len t6),O 8 (.bin .gtr t7 (I 6)),M 9 8,⟨some 10,(.fad 1 t1),some (9,false)⟩,⟨some 11,(.load false 1 t10),some (9,false)⟩,⟨some 12,(.len t11),some (9,false)⟩,⟨some 13,(.bin .gtr t12 (I 2000)),some (9,false)⟩,O 14 (.pick t9 (.c (.bool true)) t13)] [⟨1,(.agg [.d,.d]),0⟩,⟨6,(.agg [.d,.d]),0⟩] [] [5,6,7,8,9,10,11,12,13]) (.cond t14 (.seq (oQ [O 2 (.mv (I 4))] [1,14]) .ret) .skip)) (.seq (.seq (.ops [O 15 (.fad 0 t1),oF 16 1 15,O 17 (.len t16),O 18 (.bin .eql t17 (I 0))] [⟨1,(.agg [.d,.d]),0⟩] [] [14,15,16,17]) (.cond t18 (.seq (oQ [O 2 (.mv (I 8))] [1,18]) .ret) .skip)) (.seq (.seq (oQ [O 3 (.mv (I 0))] [18]) (.block 0 (.loop 6981300 yp7))) (.seq (.seq (oQ [O 4 (.mv (I 0))] [3,23]) (.block 2 (.loop 6981301 yp8))) (.seq (oQ [O 2 (.mv (I 0))] [1,4,43]) .ret))))))⟩
def t22:Opd:=.t 22
def yG3:TFn:=⟨2,[.tmp 4],(.seq (oQ [O 4 (.mv (I 0))] [4]) (.seq (.seq (oQ [M 6 0,O 7 (.build [.nils,.nils] [(0,1,t6)]),O 8 (.call (.f ylO) [t7]),M 5 8] [6,7,8]) (.seq (oQ [M 9 5,O 10 (.bin .neq t9 (I 0))] [9]) (.cond t10 (.seq (oQ [M 11 5,M 4 11] [0,1,5,10,11]) .ret) .skip))) (.seq (.seq (oQ [M 12 0,O 13 (.len t12),O 14 (.bin .neq t13 (I 2)),M 15 14,⟨some 16,(.mv t1),some (15,false)⟩,⟨some 17,(.bin .lss t16 (I 0)),some (15,false)⟩,O 18 (.pick t15 (.c (.bool true)) t17),M 19 18,⟨some 20,(.mv t1),some (19,false)⟩,⟨some 21,(.bin .gtr t20 (I 1)),some (19,false)⟩,O 22 (.pick t19 (.c (.bool true)) t21)] [0,1,5,10,12,13,14,15,16,17,18,19,20,21]) (.cond t22 (.seq (oQ [O 4 (.mv (I 2))] [22]) .ret) .skip)) (.seq (oQ [O 4 (.mv (I 0))] [22]) .ret))))⟩
def yLj:TFn:=⟨2,[.tmp 4],(.seq (oQ [O 4 (.mv (.c (.bool false)))] [4]) (.seq (oQ [M 5 0,O 6 (.call (.f yf6) [t5]),O 7 (.un .not t6),M 8 7,⟨some 9,(.mv t0),some (8,true)⟩,⟨some 10,(.mv t1),some (8,true)⟩,⟨some 11,(.call (.f ylP) [t9,t10]),some (8,true)⟩,⟨some 12,(.bin .eql t11 (I 0)),some (8,true)⟩,O 13 (.pick t8 t12 (.c (.bool false))),M 4 13] [0,1,5,6,7,8,9,10,11,12,13]) .ret))⟩
def t2:Opd:=.t 2
def t3:Opd:=.t 3
def yMH:TFn:=⟨1,[.cell 2 true 2],(.seq (oQ [O 2 (.allocL (.agg [(.int .i64 (0)),(.int .i64 (0))]))] []) (.seq (oQ [M 3 0,O 4 (.build [(.int .i64 (0)),(.int .i64 (0))] [(0,1,t3),(1,1,(I 1))]),⟨none,(.store 2 t2 t4),none⟩] [0,3,4]) .ret))⟩
def yLk:TFn:=⟨0,[.tmp 0],(.seq (oQ [O 0 (.mv (.c .nils))] [0]) (.seq (oQ [O 1 (.buildD 1 (.int .i64 (0)) 2 [(0,(I 0)),(1,(I 2))]),O 2 (.buildD 1 (.int .i64 (0)) 1 [(0,(I 1))]),O 3 (.build [(.int .i64 (0)),.nils,.nils] [(0,1,(I 2)),(1,1,t1),(2,1,t2)]),O 4 (.buildD 1 (.int .i64 (0)) 3 [(0,(I 0)),(1,(I 1)),(2,(I 2))]),O 5 (.buildD 1 (.int .i64 (0)) 2 [(0,(I 3)),(1,(I 1))]),O 6 (.build [(.int .i64 (0)),.nils,.nils] [(0,1,(I 2)),(1,1,t4),(2,1,t5)]),O 7 (.buildSl true 3 (.agg [(.int .i64 (0)),(.data []),(.data [])]) 2 [(0,t3),(1,t6)]),M 0 7] [1,2,3,4,5,6,7]) .ret))⟩
def ynJ:TCode:=(.seq (.seq (oQ [M 12 4,M 13 0,O 14 (.len t13),oX 15 .lss 12 14] [12,13,14]) (.cond t15 .skip (.exit 0))) (.seq (.block 1 (.ops [M 18 3,M 19 0,M 20 4,O 21 (.iad 1 t19 t20),oF 22 1 21,O 23 (.minmax false [t18,t22]),M 3 23] [⟨3,(.one (.i .i64)),0⟩,⟨4,(.one (.i .i64)),0⟩] [] [15,18,19,20,21,22,23])) (oQ [M 16 4,O 17 (.bin .add t16 (I 1)),M 4 17] [16,17])))
def yz7:TFn:=⟨1,[.tmp 2],(.seq (oQ [O 2 (.mv (I 0))] [2]) (.seq (.seq (oQ [M 5 0,O 6 (.len t5),O 7 (.bin .lss t6 (I 1))] [5,6]) (.cond t7 (oQ [⟨some 8,.bad,none⟩,⟨none,.bad,none⟩] [7,8]) .skip)) (.seq (.ops [M 9 0,O 10 (.iad 1 t9 (I 0)),oF 11 1 10,M 3 11] [⟨1,(.one (.i .i64)),0⟩,⟨2,(.one (.i .i64)),0⟩] [] [7,9,10,11]) (.seq (.seq (oQ [O 4 (.mv (I 1))] []) (.block 0 (.loop 10434000 ynJ))) (.seq (oQ [M 24 3,M 2 24] [0,3,4,15,24]) .ret)))))⟩
def ynK:TCode:=(.seq (.seq (oQ [M 12 4,M 13 0,O 14 (.len t13),oX 15 .lss 12 14] [12,13,14]) (.cond t15 .skip (.exit 0))) (.seq (.block 1 (.ops [M 18 3,M 19 0,M 20 4,O 21 (.iad 1 t19 t20),oF 22 1 21,O 23 (.minmax true [t18,t22]),M 3 23] [⟨3,(.one (.i .i64)),0⟩,⟨4,(.one (.i .i64)),0⟩] [] [15,18,19,20,21,22,23])) (oQ [M 16 4,O 17 (.bin .add t16 (I 1)),M 4 17] [16,17])))
def yz8:TFn:=⟨1,[.tmp 2],(.seq (oQ [O 2 (.mv (I 0))] [2]) (.seq (.seq (oQ [M 5 0,O 6 (.len t5),O 7 (.bin .lss t6 (I 1))] [5,6]) (.cond t7 (oQ [⟨some 8,.bad,none⟩,⟨none,.bad,none⟩] [7,8]) .skip)) (.seq (.ops [M 9 0,O 10 (.iad 1 t9 (I 0)),oF 11 1 10,M 3 11] [⟨1,(.one (.i .i64)),0⟩,⟨2,(.one (.i .i64)),0⟩] [] [7,9,10,11]) (.seq (.seq (oQ [O 4 (.mv (I 1))] []) (.block 0 (.loop 64079100 ynK))) (.seq (oQ [M 24 3,M 2 24] [0,3,4,15,24]) .ret)))))⟩
def t59:Opd:=.t 59
def t60:Opd:=.t 60
def t64:Opd:=.t 64
def ynL:TCode:=(.seq (oQ [oX 51 .lss 50 49] []) (.seq (.cond t51 .skip (.exit 0)) (.seq (.block 1 (.seq (oQ [M 52 50,M 4 52] [51,52]) (.seq (.ops [O 53 (.fad 1 t1),oF 54 1 53,M 55 4,O 56 (.iad 1 t54 t55),oF 57 1 56,O 58 (.fad 1 t1),oF 59 1 58,M 60 4,O 61 (.bin .add t60 (I 1)),O 62 (.iad 1 t59 t61),oF 63 1 62,oX 64 .geq 57 63] [⟨1,(.agg [.i .i64,.d,.d]),0⟩,⟨3,(.one (.i .i64)),0⟩,⟨4,(.one (.i .i64)),0⟩,⟨6,(.agg [.i .i64,.d,.d]),0⟩,⟨9,(.one (.i .i64)),0⟩,⟨10,(.one (.i .i64)),0⟩] [(0,2),(1,2),(0,5),(1,5),(2,5),(3,5),(4,5),(0,6),(1,6),(2,6),(3,6),(4,6),(0,7),(1,7),(2,7),(3,7),(4,7),(5,7),(6,7),(0,8),(1,8),(2,8),(3,8),(4,8),(5,8),(6,8),(0,9),(1,9),(2,9),(3,9),(4,9),(0,10),(1,10),(2,10),(3,10),(4,10)] [4,53,54,55,56,57,58,59,60,61,62,63]) (.cond t64 (.seq (oQ [O 2 (.mv (I 8))] [1,49,50,64]) .ret) .skip)))) (oQ [O 65 (.bin .add t50 (I 1)),M 50 65] [64,65]))))
def t39:Opd:=.t 39
def t70:Opd:=.t 70
def t71:Opd:=.t 71
def t79:Opd:=.t 79
def yFe:TFn:=⟨1,[.tmp 2],(.seq (oQ [O 1 (.boxL t0),O 2 (.mv (I 0))] [0,2]) (.seq (.ops [O 5 (.fad 1 t1),oF 6 1 5,O 7 (.len t6),M 3 7] [⟨1,(.agg [.i .i64,.d,.d]),0⟩] [] [5,6,7]) (.seq (.seq (.ops [O 8 (.fad 0 t1),oF 9 1 8,O 10 (.bin .gtr t9 (I 1000)),M 11 10,⟨some 12,(.mv t3),some (11,false)⟩,⟨some 13,(.bin .gtr t12 (I 40)),some (11,false)⟩,O 14 (.pick t11 (.c (.bool true)) t13)] [⟨1,(.agg [.i .i64,.d,.d]),0⟩] [] [8,9,10,11,12,13]) (.cond t14 (.seq (oQ [O 2 (.mv (I 4))] [1,3,14]) .ret) .skip)) (.seq (.seq (.ops [O 15 (.fad 0 t1),oF 16 1 15,O 17 (.bin .lss t16 (I 1)),M 18 17,⟨some 19,(.mv t3),some (18,false)⟩,⟨some 20,(.bin .lss t19 (I 2)),some (18,false)⟩,O 21 (.pick t18 (.c (.bool true)) t20),M 22 21,⟨some 23,(.fad 2 t1),some (22,false)⟩,⟨some 24,(.load false 1 t23),some (22,false)⟩,⟨some 25,(.len t24),some (22,false)⟩,⟨some 26,(.mv t3),some (22,false)⟩,⟨some 27,(.bin .sub t26 (I 1)),some (22,false)⟩,⟨some 28,(.bin .neq t25 t27),some (22,false)⟩,O 29 (.pick t22 (.c (.bool true)) t28),M 30 29,⟨some 31,(.fad 1 t1),some (30,false)⟩,⟨some 32,(.load false 1 t31),some (30,false)⟩,⟨some 33,(.iad 1 t32 (I 0)),some (30,false)⟩,⟨some 34,(.load false 1 t33),some (30,false)⟩,⟨some 35,(.bin .neq t34 (I 0)),some (30,false)⟩,O 36 (.pick t30 (.c (.bool true)) t35),M 37 36,⟨some 38,(.fad 1 t1),some (37,false)⟩,⟨some 39,(.load false 1 t38),some (37,false)⟩,⟨some 40,(.mv t3),some (37,false)⟩,⟨some 41,(.bin .sub t40 (I 1)),some (37,false)⟩,⟨some 42,(.iad 1 t39 t41),some (37,false)⟩,⟨some 43,(.load false 1 t42),some (37,false)⟩,⟨some 44,(.fad 0 t1),some (37,false)⟩,⟨some 45,(.load false 1 t44),some (37,false)⟩,⟨some 46,(.bin .neq t43 t45),some (37,false)⟩,O 47 (.pick t37 (.c (.bool true)) t46)] [⟨1,(.agg [.i .i64,.d,.d]),0⟩,⟨9,(.agg [.i .i64,.d,.d]),0⟩,⟨17,(.agg [.i .i64,.d,.d]),0⟩,⟨18,(.one (.i .i64)),0⟩,⟨19,(.one (.i .i64)),0⟩,⟨24,(.agg [.i .i64,.d,.d]),0⟩,⟨27,(.one (.i .i64)),0⟩,⟨28,(.one (.i .i64)),0⟩,⟨30,(.agg [.i .i64,.d,.d]),0⟩] [(8,11),(9,11),(10,11),(8,12),(9,12),(10,12),(23,25),(24,25),(23,26),(24,26),(23,29),(24,29),(25,29),(26,29),(27,29),(28,29),(23,30),(24,30),(25,30),(26,30),(27,30),(28,30)] [14,15,16,17,18,19,20,21,22,23,24,25,26,27,28,29,30,31,32,33,34,35,36,37,38,39,40,41,42,43,44,45,46]) (.cond t47 (.seq (oQ [O 2 (.mv (I 8))] [1,3,47]) .ret) .skip)) (.seq (.seq (oQ [M 48 3,O 49 (.bin .sub t48 (I 1)),O 50 (.mv (I 0))] [3,47,48]) (.block 0 (.loop 87419700 ynL))) (.seq (.seq (.ops [O 66 (.fad 2 t1),oF 67 1 66,O 68 (.call (.f ygR) [t67]),O 69 (.bin .lss t68 (I 0)),M 70 69,⟨some 71,(.fad 2 t1),some (70,false)⟩,⟨some 72,(.load false 1 t71),some (70,false)⟩,⟨some 73,(.call (.f yff) [t72]),some (70,false)⟩,⟨some 74,(.bin .gtr t73 (I 12)),some (70,false)⟩,O 75 (.pick t70 (.c (.bool true)) t74),M 76 75,⟨some 77,(.fad 2 t1),some (76,false)⟩,⟨some 78,(.load false 1 t77),some (76,false)⟩,⟨some 79,(.call (.f yff) [t78]),some (76,false)⟩,⟨some 80,(.bin .eql t79 (I 0)),some (76,false)⟩,O 81 (.pick t76 (.c (.bool true)) t80)] [⟨1,(.agg [.i .i64,.d,.d]),0⟩,⟨6,(.agg [.i .i64,.d,.d]),0⟩,⟨12,(.agg [.i .i64,.d,.d]),0⟩] [] [1,49,50,51,66,67,68,69,70,71,72,73,74,75,76,77,78,79,80]) (.cond t81 (.seq (oQ [O 2 (.mv (I 8))] [81]) .ret) .skip)) (.seq (oQ [O 2 (.mv (I 0))] [81]) .ret)))))))⟩
def ynM:TCode:=(.seq (oQ [oX 26 .lss 25 24] []) (.seq (.cond t26 .skip (.exit 0)) (.seq (.block 1 (.seq (.ops [O 27 (.iad 3 t23 t25),oT 28 3 27,O 4 (.allocL (.agg [(.int .i64 (0)),.nils,.nils])),⟨none,(.store 3 t4 t28),none⟩] [⟨0,(.agg [.i .i64,.d,.d]),0⟩,⟨1,(.agg [.i .i64,.d,.d]),0⟩] [] [26,27,28]) (.seq (oQ [oT 29 3 4,O 30 (.call (.f ybX) [t29]),M 5 30] [4,29,30]) (.seq (oQ [M 31 5,O 32 (.bin .neq t31 (I 0))] [31]) (.cond t32 (.seq (oQ [M 33 5,M 2 33] [1,5,23,24,25,32,33]) .ret) .skip))))) (oQ [O 34 (.bin .add t25 (I 1)),M 25 34] [5,32,34]))))
def ynN:TCode:=(.seq (oQ [oX 39 .lss 38 37] []) (.seq (.cond t39 .skip (.exit 2)) (.seq (.block 3 (.seq (.ops [O 40 (.iad 3 t36 t38),oT 41 3 40,O 7 (.allocL (.agg [(.int .i64 (0)),.nils,.nils])),⟨none,(.store 3 t7 t41),none⟩] [⟨0,(.agg [.i .i64,.d,.d]),0⟩,⟨1,(.agg [.i .i64,.d,.d]),0⟩] [] [39,40,41]) (.seq (.ops [O 42 (.fad 0 t7),oF 43 1 42,O 44 (.fad 0 t1),oF 45 1 44,O 46 (.iad 3 t45 (I 0)),O 47 (.fad 0 t46),oF 48 1 47,oX 49 .neq 43 48] [⟨1,(.agg [.i .i64,.d,.d]),0⟩,⟨3,(.agg [.d,.d]),0⟩,⟨4,(.agg [.i .i64,.d,.d]),0⟩,⟨6,(.agg [.i .i64,.d,.d]),0⟩] [(0,2),(1,2),(0,3),(1,3),(0,4),(1,4),(0,5),(1,5),(0,6),(1,6)] [7,42,43,44,45,46,47,48]) (.cond t49 (.seq (oQ [O 2 (.mv (I 8))] [1,36,37,38,49]) .ret) .skip)))) (oQ [O 50 (.bin .add t38 (I 1)),M 38 50] [49,50]))))
def yG4:TFn:=⟨1,[.tmp 2],(.seq (oQ [O 1 (.boxL t0),O 2 (.mv (I 0))] [0,2]) (.seq (.seq (.ops [O 8 (.fad 0 t1),oF 9 1 8,O 10 (.len t9),O 11 (.bin .gtr t10 (I 6)),M 12 11,⟨some 13,(.fad 1 t1),some (12,false)⟩,⟨some 14,(.load false 1 t13),some (12,false)⟩,⟨some 15,(.len t14),some (12,false)⟩,⟨some 16,(.bin .gtr t15 (I 2000)),some (12,false)⟩,O 17 (.pick t12 (.c (.bool true)) t16)] [⟨1,(.agg [.d,.d]),0⟩,⟨6,(.agg [.d,.d]),0⟩] [] [8,9,10,11,12,13,14,15,16]) (.cond t17 (.seq (oQ [O 2 (.mv (I 4))] [1,17]) .ret) .skip)) (.seq (.seq (.ops [O 18 (.fad 0 t1),oF 19 1 18,O 20 (.len t19),O 21 (.bin .eql t20 (I 0))] [⟨1,(.agg [.d,.d]),0⟩] [] [17,18,19,20]) (.cond t21 (.seq (oQ [O 2 (.mv (I 8))] [1,21]) .ret) .skip)) (.seq (.seq (.ops [O 22 (.fad 0 t1),oF 23 1 22,O 24 (.len t23),O 25 (.mv (I 0))] [⟨1,(.agg [.d,.d]),0⟩] [] [21,22]) (.block 0 (.loop 12157600 ynM))) (.seq (.seq (.ops [O 35 (.fad 0 t1),oF 36 1 35,O 37 (.len t36),O 38 (.mv (I 0))] [⟨1,(.agg [.d,.d]),0⟩] [] [23,24,25,26,35]) (.block 2 (.loop 12157601 ynN))) (.seq (oQ [O 2 (.mv (I 0))] [1,36,37,38,39]) .ret))))))⟩
def yKp:TFn:=⟨1,[.tmp 2],(.seq (oQ [O 2 (.mv (.c .nils))] [2]) (.seq (.seq (oQ [M 3 0,O 4 (.eqN false t3)] [3]) (.cond t4 (.seq (oQ [O 2 (.mv (.c .nils))] [0,4]) .ret) .skip)) (.seq (oQ [O 5 (.buildSl true 1 (.int .i64 (0)) 0 []),M 6 0,O 7 (.app true 1 8 t5 t6),M 2 7] [0,4,5,6,7]) .ret)))⟩
def ykG:TCode:=(.seq (oQ [oX 9 .lss 8 7] []) (.seq (.cond t9 .skip (.exit 0)) (.seq (.block 1 (.seq (.ops [O 10 (.iad 3 t6 t8),oT 11 3 10,O 5 (.allocL (.agg [(.int .i64 (0)),.nils,.nils])),⟨none,(.store 3 t5 t11),none⟩] [⟨0,(.agg [.i .i64,.d,.d]),0⟩,⟨1,(.agg [.i .i64,.d,.d]),0⟩] [] [9,10,11]) (.ops [M 12 3,O 13 (.fad 0 t5),oF 14 1 13,O 15 (.fad 1 t5),oF 16 1 15,O 17 (.call (.f yds) [t16]),O 18 (.fad 2 t5),oF 19 1 18,O 20 (.call (.f yds) [t19]),O 21 (.build [(.int .i64 (0)),.nils,.nils] [(0,1,t14),(1,1,t17),(2,1,t20)]),O 22 (.buildD 3 (.agg [(.int .i64 (0)),(.data []),(.data [])]) 1 [(0,t21)]),O 23 (.app true 3 56 t12 t22),M 3 23] [⟨2,(.agg [.i .i64,.d,.d]),0⟩,⟨4,(.agg [.i .i64,.d,.d]),0⟩,⟨7,(.agg [.i .i64,.d,.d]),0⟩] [(0,1),(0,2),(0,3),(1,3),(2,3),(0,4),(1,4),(2,4),(0,5),(1,5),(2,5),(0,6),(1,6),(2,6),(3,6),(4,6),(5,6),(0,7),(1,7),(2,7),(3,7),(4,7),(5,7),(0,8),(1,8),(2,8),(0,9),(0,10)] [5,12,13,14,15,16,17,18,19,20,21,22,23]))) (oQ [O 24 (.bin .add t8 (I 1)),M 8 24] [24]))))
def yFf:TFn:=⟨1,[.tmp 2],(.seq (oQ [O 2 (.mv (.c .nils))] [2]) (.seq (oQ [O 3 (.mv (.c .nils))] []) (.seq (.seq (oQ [M 6 0,O 7 (.len t6),O 8 (.mv (I 0))] [0]) (.block 0 (.loop 94933800 ykG))) (.seq (oQ [M 25 3,M 2 25] [3,6,7,8,9,25]) .ret))))⟩
def yI5:TFn:=⟨1,[.cell 2 true 2,.tmp 3],(.seq (oQ [O 2 (.allocL (.agg [.nils,.nils])),O 3 (.mv (I 0))] [3]) (.seq (.seq (oQ [M 5 0,O 6 (.build [.nils,.nils] [(0,1,t5)]),O 7 (.call (.f ycP) [t6]),M 4 7] [5,6,7]) (.seq (oQ [M 8 4,O 9 (.bin .neq t8 (I 0))] [8]) (.cond t9 (.seq (oQ [O 10 (.build [.nils,.nils] []),M 11 4,⟨none,(.store 2 t2 t10),none⟩,M 3 11] [0,4,9,10,11]) .ret) .skip))) (.seq (oQ [M 12 0,O 13 (.call (.f yfq) [t12]),O 14 (.build [.nils,.nils] [(0,1,t13)]),⟨none,(.store 2 t2 t14),none⟩,O 3 (.mv (I 0))] [0,4,9,12,13,14]) .ret)))⟩
def yBu:TFn:=⟨2,[.cell 4 true 7,.tmp 5],(.seq (oQ [O 4 (.allocL (.agg [.nils,.nils,(.int .i64 (0)),(.int .i64 (0)),(.int .i64 (0)),(.int .i64 (0)),(.bool false)])),O 5 (.mv (I 0))] [5]) (.seq (oQ [M 9 0,O 10 (.call (.f ynC) [t9]),M 8 10,O 11 (.ext t8 0),O 12 (.ext t8 1),O 6 (.allocL (.agg [.nils,.nils])),⟨none,(.store 2 t6 t11),none⟩,M 7 12] [8,9,10,11,12]) (.seq (.seq (oQ [M 13 7,O 14 (.bin .neq t13 (I 0))] [13]) (.cond t14 (.seq (oQ [O 15 (.build [.nils,.nils,(.int .i64 (0)),(.int .i64 (0)),(.int .i64 (0)),(.int .i64 (0)),(.bool false)] []),M 16 7,⟨none,(.store 7 t4 t15),none⟩,M 5 16] [0,1,6,7,14,15,16]) .ret) .skip)) (.seq (.seq (oQ [M 17 0,O 18 (.len t17),O 19 (.bin .neq t18 (I 2)),M 20 19,⟨some 21,(.mv t1),some (20,false)⟩,⟨some 22,(.bin .lss t21 (I 0)),some (20,false)⟩,O 23 (.pick t20 (.c (.bool true)) t22),M 24 23,⟨some 25,(.mv t1),some (24,false)⟩,⟨some 26,(.bin .gtr t25 (I 1)),some (24,false)⟩,O 27 (.pick t24 (.c (.bool true)) t26)] [0,7,14,17,18,19,20,21,22,23,24,25,26]) (.cond t27 (.seq (oQ [O 28 (.build [.nils,.nils,(.int .i64 (0)),(.int .i64 (0)),(.int .i64 (0)),(.int .i64 (0)),(.bool false)] []),⟨none,(.store 7 t4 t28),none⟩,O 5 (.mv (I 2))] [1,6,27,28]) .ret) .skip)) (.seq (oQ [oT 29 2 6,M 30 1,O 31 (.load true 2 (.g 0)),O 32 (.build [.nils,.nils,(.int .i64 (0)),(.int .i64 (0)),(.int .i64 (0)),(.int .i64 (0)),(.bool false)] [(0,2,t29),(2,1,t30),(4,2,t31)]),⟨none,(.store 7 t4 t32),none⟩,O 5 (.mv (I 0))] [1,6,27,29,30,31,32]) .ret)))))⟩
def ynO:TCode:=(.seq (oQ [oX 17 .lss 16 15] []) (.seq (.cond t17 .skip (.exit 0)) (.seq (.block 1 (.seq (.ops [M 18 16,O 19 (.iad 1 t14 t16),oF 20 1 19,M 6 18,M 7 20] [⟨1,(.one (.i .i64)),0⟩,⟨2,(.one (.i .i64)),0⟩] [] [17,18,19,20]) (.ops [M 21 5,M 22 7,O 23 (.fad 1 t1),oF 24 1 23,M 25 6,O 26 (.bin .add t25 (I 1)),O 27 (.iad 1 t24 t26),oF 28 1 27,O 29 (.fad 1 t1),oF 30 1 29,M 31 6,O 32 (.iad 1 t30 t31),oF 33 1 32,oX 34 .sub 28 33,oX 35 .mul 22 34,oX 36 .add 21 35,M 5 36] [⟨3,(.agg [.i .i64,.d,.d]),0⟩,⟨6,(.one (.i .i64)),0⟩,⟨7,(.one (.i .i64)),0⟩,⟨9,(.agg [.i .i64,.d,.d]),0⟩,⟨11,(.one (.i .i64)),0⟩,⟨12,(.one (.i .i64)),0⟩] [(0,1),(0,2),(1,2),(0,3),(1,3),(0,4),(1,4),(2,4),(3,4),(0,5),(1,5),(2,5),(3,5),(0,6),(1,6),(0,7),(1,7),(0,8),(1,8),(2,8),(3,8),(4,8),(5,8),(6,8),(7,8),(0,9),(1,9),(2,9),(3,9),(4,9),(5,9),(6,9),(7,9),(0,10),(1,10),(2,10),(3,10),(4,10),(5,10),(6,10),(7,10),(8,10),(9,10),(0,11),(1,11),(2,11),(3,11),(4,11),(5,11),(6,11),(7,11),(0,12),(1,12),(2,12),(3,12),(4,12),(5,12),(6,12),(7,12),(0,13),(1,13),(0,14)] [6,7,21,22,23,24,25,26,27,28,29,30,31,32,33,34,35,36]))) (oQ [O 37 (.bin .add t16 (I 1)),M 16 37] [37]))))
def yFg:TFn:=⟨1,[.tmp 2,.tmp 3],(.seq (oQ [O 1 (.boxL t0),O 2 (.mv (I 0)),O 3 (.mv (I 0))] [0,2,3]) (.seq (.seq (oQ [oT 8 3 1,O 9 (.call (.f ybX) [t8]),M 4 9] [8,9]) (.seq (oQ [M 10 4,O 11 (.bin .neq t10 (I 0))] [10]) (.cond t11 (.seq (oQ [M 12 4,O 2 (.mv (I 0)),M 3 12] [1,4,11,12]) .ret) .skip))) (.seq (oQ [O 5 (.mv (I 0))] [4,11]) (.seq (.seq (.ops [O 13 (.fad 2 t1),oF 14 1 13,O 15 (.len t14),O 16 (.mv (I 0))] [⟨1,(.agg [.i .i64,.d,.d]),0⟩] [] [13]) (.block 0 (.loop 45203600 ynO))) (.seq (oQ [M 38 5,M 2 38,O 3 (.mv (I 0))] [1,5,14,15,16,17,38]) .ret)))))⟩
def yFh:TFn:=⟨1,[.tmp 2],(.seq (oQ [O 2 (.mv (.c (.int .u64 (0))))] [2]) (.seq (.seq (oQ [M 3 0,O 4 (.bin .lss t3 (I 0))] [3]) (.cond t4 (.seq (oQ [M 5 0,O 6 (.conv .u64 t5),O 7 (.un .neg t6),M 2 7] [0,4,5,6,7]) .ret) .skip)) (.seq (oQ [M 8 0,O 9 (.conv .u64 t8),M 2 9] [0,4,8,9]) .ret)))⟩
def ynP:TCode:=(.seq (.seq (oQ [M 5 1,O 6 (.bin .gtr t5 (.c (.int .u64 (0))))] [5]) (.cond t6 .skip (.exit 0))) (.block 1 (.ops [M 7 1,M 8 0,M 9 1,oX 10 .rem 8 9,M 0 7,M 1 10] [] [(0,1),(0,2),(1,2),(0,3),(2,4),(3,4)] [6,7,8,9,10])))
def yG5:TFn:=⟨2,[.tmp 4],(.seq (oQ [O 4 (.mv (.c (.int .u64 (0))))] [4]) (.seq (.block 0 (.loop 32725300 ynP)) (.seq (oQ [M 11 0,M 4 11] [0,1,6,11]) .ret)))⟩
def yBv:TFn:=⟨3,[.cell 6 true 2,.tmp 7],(.seq (oQ [O 6 (.allocL (.agg [(.int .i64 (0)),(.int .i64 (0))])),O 7 (.mv (I 0))] [7]) (.seq (.seq (oQ [M 8 1,M 9 2,O 10 (.minmax true [t8,t9]),O 11 (.bin .gtr t10 (.c (.int .u64 (1000000000000000000))))] [8,9,10]) (.cond t11 (.seq (oQ [O 12 (.build [(.int .i64 (0)),(.int .i64 (0))] []),⟨none,(.store 2 t6 t12),none⟩,O 7 (.mv (I 16))] [0,1,2,11,12]) .ret) .skip)) (.seq (.seq (oQ [M 13 0] [0,11]) (.cond t13 (.seq (oQ [M 14 1,O 15 (.conv .i64 t14),O 16 (.un .neg t15),M 17 2,O 18 (.conv .i64 t17),O 19 (.build [(.int .i64 (0)),(.int .i64 (0))] [(0,1,t16),(1,1,t18)]),⟨none,(.store 2 t6 t19),none⟩,O 7 (.mv (I 0))] [1,2,13,14,15,16,17,18,19]) .ret) .skip)) (.seq (oQ [M 20 1,O 21 (.conv .i64 t20),M 22 2,O 23 (.conv .i64 t22),O 24 (.build [(.int .i64 (0)),(.int .i64 (0))] [(0,1,t21),(1,1,t23)]),⟨none,(.store 2 t6 t24),none⟩,O 7 (.mv (I 0))] [1,2,13,20,21,22,23,24]) .ret))))⟩
def yFi:TFn:=⟨2,[.cell 4 true 2,.tmp 5],(.seq (oQ [O 4 (.allocL (.agg [(.int .i64 (0)),(.int .i64 (0))])),O 5 (.mv (I 0))] [5]) (.seq (.seq (oQ [M 9 1,O 10 (.bin .eql t9 (I 0))] [9]) (.cond t10 (.seq (oQ [O 11 (.build [(.int .i64 (0)),(.int .i64 (0))] []),⟨none,(.store 2 t4 t11),none⟩,O 5 (.mv (I 18))] [0,1,10,11]) .ret) .skip)) (.seq (oQ [M 12 0,O 13 (.call (.f ybw) [t12]),M 14 1,O 15 (.call (.f ybw) [t14]),M 6 13,M 7 15] [10,12,13,14,15]) (.seq (oQ [M 16 6,M 17 7,O 18 (.call (.f yc8) [t16,t17]),M 8 18] [16,17,18]) (.seq (.ops [M 19 0,O 20 (.bin .lss t19 (I 0)),M 21 1,O 22 (.bin .lss t21 (I 0)),O 23 (.eqB true t20 t22),M 24 6,M 25 8,oX 26 .quo 24 25,M 27 7,M 28 8,oX 29 .quo 27 28,O 30 (.call (.f ydt) [t23,t26,t29]),O 31 (.ext t30 0),O 32 (.ext t30 1),⟨none,(.store 2 t4 t31),none⟩,M 5 32] [] [(0,2),(1,2),(0,3),(1,3),(0,5),(1,5),(2,5),(3,5),(4,5),(0,6),(1,6),(2,6),(3,6),(4,6),(5,6),(0,7),(1,7),(2,7),(3,7),(4,7),(0,8),(1,8),(2,8),(3,8),(4,8),(5,8),(6,8),(7,8),(0,9),(1,9),(2,9),(3,9),(4,9),(5,9),(6,9),(7,9),(8,9),(0,10),(1,10),(2,10),(3,10),(4,10),(5,10),(6,10),(7,10),(12,13)] [0,1,6,7,8,19,20,21,22,23,24,25,26,27,28,29,30,31,32]) .ret)))))⟩
def yCZ:TFn:=⟨1,[.cell 2 true 2],(.seq (oQ [O 1 (.boxL t0),O 2 (.allocL (.agg [(.int .i64 (0)),(.int .i64 (0))]))] [0]) (.seq (oQ [oT 8 3 1,O 9 (.call (.f ycF) [t8]),M 7 9,O 10 (.ext t7 0),O 11 (.ext t7 1),M 3 10,M 4 11] [1,4,7,8,9,10,11]) (.seq (oQ [M 13 3,O 14 (.call (.f yfr) [t13,(I 2)]),M 12 14,O 15 (.ext t12 0),O 16 (.ext t12 1),O 5 (.allocL (.agg [(.int .i64 (0)),(.int .i64 (0))])),⟨none,(.store 2 t5 t15),none⟩,M 6 16] [3,6,12,13,14,15,16]) (.seq (oQ [oT 17 2 5,⟨none,(.store 2 t2 t17),none⟩] [5,17]) .ret))))⟩
def yC0:TFn:=⟨1,[.tmp 2],(.seq (oQ [O 1 (.boxL t0),O 2 (.mv (I 0))] [0,2]) (.seq (.seq (.ops [O 3 (.fad 1 t1),oF 4 1 3,O 5 (.bin .lss t4 (I 1)),M 6 5,⟨some 7,(.fad 0 t1),some (6,false)⟩,⟨some 8,(.load false 1 t7),some (6,false)⟩,⟨some 9,(.call (.f ybw) [t8]),some (6,false)⟩,⟨some 10,(.fad 1 t1),some (6,false)⟩,⟨some 11,(.load false 1 t10),some (6,false)⟩,⟨some 12,(.conv .u64 t11),some (6,false)⟩,⟨some 13,(.minmax true [t9,t12]),some (6,false)⟩,⟨some 14,(.bin .gtr t13 (.c (.int .u64 (1000000000000000000)))),some (6,false)⟩,O 15 (.pick t6 (.c (.bool true)) t14),M 16 15,⟨some 17,(.fad 0 t1),some (16,false)⟩,⟨some 18,(.load false 1 t17),some (16,false)⟩,⟨some 19,(.call (.f ybw) [t18]),some (16,false)⟩,⟨some 20,(.fad 1 t1),some (16,false)⟩,⟨some 21,(.load false 1 t20),some (16,false)⟩,⟨some 22,(.conv .u64 t21),some (16,false)⟩,⟨some 23,(.call (.f yc8) [t19,t22]),some (16,false)⟩,⟨some 24,(.bin .gtr t23 (.c (.int .u64 (1)))),some (16,false)⟩,O 25 (.pick t16 (.c (.bool true)) t24)] [⟨1,(.agg [.i .i64,.i .i64]),0⟩,⟨5,(.agg [.i .i64,.i .i64]),0⟩,⟨8,(.agg [.i .i64,.i .i64]),0⟩,⟨15,(.agg [.i .i64,.i .i64]),0⟩,⟨18,(.agg [.i .i64,.i .i64]),0⟩] [(4,7),(5,7),(6,7),(4,8),(5,8),(6,8),(4,9),(5,9),(6,9),(14,17),(15,17),(16,17),(14,18),(15,18),(16,18),(14,19),(15,19),(16,19)] [1,3,4,5,6,7,8,9,10,11,12,13,14,15,16,17,18,19,20,21,22,23,24]) (.cond t25 (.seq (oQ [O 2 (.mv (I 8))] [25]) .ret) .skip)) (.seq (oQ [O 2 (.mv (I 0))] [25]) .ret)))⟩
def yFj:TFn:=⟨1,[.cell 2 true 2],(.seq (oQ [O 2 (.allocL (.agg [(.int .i64 (0)),(.int .i64 (0))]))] []) (.seq (oQ [M 3 0,O 4 (.build [(.int .i64 (0)),(.int .i64 (0))] [(0,1,t3),(1,1,(I 1))]),⟨none,(.store 2 t2 t4),none⟩] [0,3,4]) .ret))⟩
def ynQ:TCode:=(.seq (oQ [oX 9 .lss 8 7] []) (.seq (.cond t9 .skip (.exit 0)) (.seq (.block 1 (.seq (.ops [O 10 (.iad 1 t6 t8),oF 11 1 10,M 5 11] [⟨0,(.one (.i .i64)),0⟩,⟨1,(.one (.i .i64)),0⟩] [] [9,10,11]) (.seq (oQ [M 12 5,M 13 3,oX 14 .neq 12 13] [12,13]) (.cond t14 (.seq (oQ [M 15 5,M 2 15] [3,5,6,7,8,14,15]) .ret) .skip)))) (oQ [O 16 (.bin .add t8 (I 1)),M 8 16] [5,14,16]))))
def yvt:TFn:=⟨1,[.tmp 2],(.seq (oQ [O 2 (.mv (I 0))] [2]) (.seq (oQ [O 3 (.mv (I 0))] []) (.seq (.seq (oQ [M 6 0,O 7 (.len t6),O 8 (.mv (I 0))] [0]) (.block 0 (.loop 38508400 ynQ))) (.seq (oQ [M 17 3,M 2 17] [3,6,7,8,9,17]) .ret))))⟩
def yC1:TFn:=⟨2,[.tmp 4],(.seq (oQ [O 2 (.boxL t0),O 3 (.boxL t1),O 4 (.mv (I 0))] [0,1,4]) (.seq (.ops [oT 5 2 2,O 6 (.call (.f ycX) [t5]),oT 7 2 3,O 8 (.call (.f ycX) [t7]),O 9 (.buildD 1 (.int .i64 (0)) 2 [(0,t6),(1,t8)]),O 10 (.call (.f ye2) [t9]),M 4 10] [] [(0,2),(1,2)] [2,3,5,6,7,8,9,10]) .ret))⟩
def ywO:TFn:=⟨1,[.tmp 2],(.seq (oQ [O 2 (.mv (.c (.bool false)))] [2]) (.seq (oQ [M 3 0,M 4 0,oX 5 .neq 3 4,M 2 5] [0,3,4,5]) .ret))⟩
def ytV:TFn:=⟨2,[.tmp 4],(.seq (oQ [O 4 (.mv (I 0))] [4]) (.seq (oQ [M 7 0,O 8 (.call (.f yen) [t7]),M 5 8] [7,8]) (.seq (oQ [M 9 1,O 10 (.call (.f yen) [t9]),M 6 10] [9,10]) (.seq (.seq (oQ [M 11 5] [5]) (.cond t11 (.seq (.seq (oQ [M 12 6] [0,1,6,11]) (.cond t12 (.seq (oQ [O 4 (.mv (I 0))] [12]) .ret) .skip)) (.seq (oQ [O 4 (.mv (I (-1)))] [12]) .ret)) .skip)) (.seq (.seq (oQ [M 13 6] [6,11]) (.cond t13 (.seq (oQ [O 4 (.mv (I 1))] [0,1,13]) .ret) .skip)) (.seq (.seq (oQ [M 14 0,M 15 1,oX 16 .lss 14 15] [13,14,15]) (.cond t16 (.seq (oQ [O 4 (.mv (I (-1)))] [0,1,16]) .ret) .skip)) (.seq (.seq (oQ [M 17 0,M 18 1,oX 19 .gtr 17 18] [0,1,16,17,18]) (.cond t19 (.seq (oQ [O 4 (.mv (I 1))] [19]) .ret) .skip)) (.seq (oQ [O 4 (.mv (I 0))] [19]) .ret))))))))⟩
def yLl:TFn:=⟨2,[.tmp 4,.tmp 5],(.seq (oQ [O 4 (.mv (.c (.int .u64 (0)))),O 5 (.mv (.c (.int .u64 (0))))] [4,5]) (.seq (oQ [M 14 0,O 15 (.bin .and t14 (.c (.int .u64 (4294967295)))),M 6 15] [14,15]) (.seq (oQ [M 16 0,O 17 (.bin .shr t16 (.c (.int .u64 (32)))),M 7 17] [16,17]) (.seq (oQ [M 18 1,O 19 (.bin .and t18 (.c (.int .u64 (4294967295)))),M 8 19] [18,19]) (.seq (oQ [M 20 1,O 21 (.bin .shr t20 (.c (.int .u64 (32)))),M 9 21] [20,21]) (.seq (oQ [M 22 6,M 23 8,oX 24 .mul 22 23,M 10 24] [22,23,24]) (.seq (oQ [M 25 7,M 26 8,oX 27 .mul 25 26,M 28 10,O 29 (.bin .shr t28 (.c (.int .u64 (32)))),oX 30 .add 27 29,M 11 30] [8,10,25,26,27,28,29,30]) (.seq (oQ [M 31 11,O 32 (.bin .and t31 (.c (.int .u64 (4294967295)))),M 12 32] [31,32]) (.seq (oQ [M 33 11,O 34 (.bin .shr t33 (.c (.int .u64 (32)))),M 13 34] [11,33,34]) (.seq (oQ [M 35 12,M 36 6,M 37 9,oX 38 .mul 36 37,oX 39 .add 35 38,M 12 39] [6,35,36,37,38,39]) (.seq (oQ [M 40 7,M 41 9,oX 42 .mul 40 41,M 43 13,oX 44 .add 42 43,M 45 12,O 46 (.bin .shr t45 (.c (.int .u64 (32)))),oX 47 .add 44 46,M 4 47] [7,9,12,13,40,41,42,43,44,45,46,47]) (.seq (oQ [M 48 0,M 49 1,oX 50 .mul 48 49,M 5 50] [0,1,48,49,50]) .ret))))))))))))⟩
def yvu:TFn:=⟨1,[.tmp 2],(.seq (oQ [O 2 (.mv (.c (.bool false)))] [2]) (.seq (oQ [M 3 0,M 4 0,oX 5 .neq 3 4,M 2 5] [0,3,4,5]) .ret))⟩
def ysj:TFn:=⟨2,[.tmp 4],(.seq (oQ [O 4 (.mv (I 0))] [4]) (.seq (oQ [M 7 0,O 8 (.call (.f ydS) [t7]),M 5 8] [7,8]) (.seq (oQ [M 9 1,O 10 (.call (.f ydS) [t9]),M 6 10] [9,10]) (.seq (.seq (oQ [M 11 5] [5]) (.cond t11 (.seq (.seq (oQ [M 12 6] [0,1,6,11]) (.cond t12 (.seq (oQ [O 4 (.mv (I 0))] [12]) .ret) .skip)) (.seq (oQ [O 4 (.mv (I (-1)))] [12]) .ret)) .skip)) (.seq (.seq (oQ [M 13 6] [6,11]) (.cond t13 (.seq (oQ [O 4 (.mv (I 1))] [0,1,13]) .ret) .skip)) (.seq (.seq (oQ [M 14 0,M 15 1,oX 16 .lss 14 15] [13,14,15]) (.cond t16 (.seq (oQ [O 4 (.mv (I (-1)))] [0,1,16]) .ret) .skip)) (.seq (.seq (oQ [M 17 0,M 18 1,oX 19 .gtr 17 18] [0,1,16,17,18]) (.cond t19 (.seq (oQ [O 4 (.mv (I 1))] [19]) .ret) .skip)) (.seq (oQ [O 4 (.mv (I 0))] [19]) .ret))))))))⟩
def ynR:TCode:=(.seq (oQ [oX 9 .lss 8 7] []) (.seq (.cond t9 .skip (.exit 0)) (.seq (.block 1 (.seq (.ops [O 10 (.iad 1 t6 t8),oF 11 1 10,M 5 11] [⟨0,(.one (.i .i64)),0⟩,⟨1,(.one (.i .i64)),0⟩] [] [9,10,11]) (.seq (oQ [M 12 5,M 13 3,oX 14 .neq 12 13] [12,13]) (.cond t14 (.seq (oQ [M 15 5,M 2 15] [3,5,6,7,8,14,15]) .ret) .skip)))) (oQ [O 16 (.bin .add t8 (I 1)),M 8 16] [5,14,16]))))
def yFk:TFn:=⟨1,[.tmp 2],(.seq (oQ [O 2 (.mv (I 0))] [2]) (.seq (oQ [O 3 (.mv (I 0))] []) (.seq (.seq (oQ [M 6 0,O 7 (.len t6),O 8 (.mv (I 0))] [0]) (.block 0 (.loop 53260600 ynR))) (.seq (oQ [M 17 3,M 2 17] [3,6,7,8,9,17]) .ret))))⟩
def t56:Opd:=.t 56
def yG6:TFn:=⟨2,[.tmp 4,.tmp 5],(.seq (oQ [O 2 (.boxL t0),O 3 (.boxL t1),O 4 (.mv (I 0)),O 5 (.mv (I 0))] [0,1,4,5]) (.seq (.seq (oQ [oT 12 2 2,oT 13 2 3,O 14 (.call (.f ycf) [t12,t13]),M 6 14] [12,13,14]) (.seq (oQ [M 15 6,O 16 (.bin .neq t15 (I 0))] [15]) (.cond t16 (.seq (oQ [M 17 6,O 4 (.mv (I 0)),M 5 17] [2,3,6,16,17]) .ret) .skip))) (.seq (.seq (.ops [O 18 (.fad 0 t2),oF 19 1 18,O 20 (.bin .lss t19 (I 0)),O 21 (.fad 0 t3),oF 22 1 21,O 23 (.bin .lss t22 (I 0)),O 24 (.eqB true t20 t23)] [⟨1,(.agg [.i .i64,.i .i64]),0⟩,⟨4,(.agg [.i .i64,.i .i64]),0⟩] [] [6,16,18,19,20,21,22,23]) (.cond t24 (.seq (.ops [O 25 (.fad 0 t2),oF 26 1 25,O 27 (.fad 0 t3),oF 28 1 27,O 29 (.call (.f yeB) [t26,t28]),M 4 29,O 5 (.mv (I 0))] [⟨1,(.agg [.i .i64,.i .i64]),0⟩,⟨3,(.agg [.i .i64,.i .i64]),0⟩] [] [2,3,24,25,26,27,28,29]) .ret) .skip)) (.seq (.ops [O 31 (.fad 0 t2),oF 32 1 31,O 33 (.call (.f ybw) [t32]),O 34 (.fad 1 t3),oF 35 1 34,O 36 (.conv .u64 t35),O 37 (.call (.f yeQ) [t33,t36]),M 30 37,O 38 (.ext t30 0),O 39 (.ext t30 1),M 7 38,M 8 39] [⟨1,(.agg [.i .i64,.i .i64]),0⟩,⟨4,(.agg [.i .i64,.i .i64]),0⟩] [(0,3),(1,3),(2,3),(0,4),(1,4),(2,4),(0,5),(1,5),(2,5),(8,9),(9,10)] [24,30,31,32,33,34,35,36,37,38,39]) (.seq (.ops [O 41 (.fad 0 t3),oF 42 1 41,O 43 (.call (.f ybw) [t42]),O 44 (.fad 1 t2),oF 45 1 44,O 46 (.conv .u64 t45),O 47 (.call (.f yeQ) [t43,t46]),M 40 47,O 48 (.ext t40 0),O 49 (.ext t40 1),M 9 48,M 10 49] [⟨1,(.agg [.i .i64,.i .i64]),0⟩,⟨4,(.agg [.i .i64,.i .i64]),0⟩] [(0,3),(1,3),(2,3),(0,4),(1,4),(2,4),(0,5),(1,5),(2,5),(8,9),(9,10)] [3,40,41,42,43,44,45,46,47,48,49]) (.seq (oQ [M 50 7,M 51 9,O 52 (.call (.f yc9) [t50,t51]),M 53 8,M 54 10,O 55 (.call (.f yc9) [t53,t54]),O 56 (.buildD 1 (.int .i64 (0)) 2 [(0,t52),(1,t55)]),O 57 (.call (.f yjF) [t56]),M 11 57] [7,8,9,10,50,51,52,53,54,55,56,57]) (.seq (.seq (.ops [O 58 (.fad 0 t2),oF 59 1 58,O 60 (.bin .lss t59 (I 0))] [⟨1,(.agg [.i .i64,.i .i64]),0⟩] [] [2,58,59]) (.cond t60 (oQ [M 61 11,O 62 (.un .neg t61),M 11 62] [60,61,62]) .skip)) (.seq (oQ [M 63 11,M 4 63,O 5 (.mv (I 0))] [11,60,63]) .ret))))))))⟩
def yG7:TFn:=⟨2,[.tmp 4],(.seq (oQ [O 2 (.boxL t0),O 3 (.boxL t1),O 4 (.mv (.c (.bool false)))] [0,1,4]) (.seq (oQ [oT 8 2 2,oT 9 2 3,O 10 (.call (.f ycv) [t8,t9]),M 7 10,O 11 (.ext t7 0),O 12 (.ext t7 1),M 5 11,M 6 12] [2,3,6,7,8,9,10,11,12]) (.seq (oQ [M 13 5,O 14 (.bin .lss t13 (I 0)),M 4 14] [5,13,14]) .ret)))⟩
def yFl:TFn:=⟨2,[.tmp 4],(.seq (oQ [O 2 (.boxL t0),O 3 (.boxL t1),O 4 (.mv (.c (.bool false)))] [0,1,4]) (.seq (.ops [oT 5 2 3,O 6 (.call (.f ycX) [t5]),O 7 (.bin .eql t6 (I 0)),M 8 7,⟨some 9,(.fad 0 t3),some (8,true)⟩,⟨some 10,(.load false 1 t9),some (8,true)⟩,⟨some 11,(.bin .geq t10 (I 0)),some (8,true)⟩,O 12 (.pick t8 t11 (.c (.bool false))),M 13 12,⟨some 14,(.fad 0 t2),some (13,true)⟩,⟨some 15,(.load false 1 t14),some (13,true)⟩,⟨some 16,(.call (.f ybY) [t15]),some (13,true)⟩,⟨some 17,(.load true 2 t3),some (13,true)⟩,⟨some 18,(.call (.f ycQ) [t16,t17]),some (13,true)⟩,⟨some 19,(.un .not t18),some (13,true)⟩,O 20 (.pick t13 t19 (.c (.bool false))),M 4 20] [⟨5,(.agg [.i .i64,.i .i64]),0⟩,⟨10,(.agg [.i .i64,.d,.d]),0⟩] [(9,12),(10,12),(11,12)] [2,3,5,6,7,8,9,10,11,12,13,14,15,16,17,18,19,20]) .ret))⟩
def yLm:TFn:=⟨1,[.tmp 2],(.seq (oQ [O 2 (.mv (I 0))] []) (.seq (.seq (oQ [M 3 0,O 4 (.bin .geq t3 (.c (.int .u64 (4294967296))))] [3]) (.cond t4 (.seq (oQ [M 5 0,O 6 (.bin .shr t5 (.c (.int .u64 (32)))),M 0 6] [2,4,5,6]) (oQ [O 2 (.mv (I 32))] [])) .skip)) (.seq (.seq (oQ [M 7 0,O 8 (.bin .geq t7 (.c (.int .u64 (65536))))] [4,7]) (.cond t8 (.seq (oQ [M 9 0,O 10 (.bin .shr t9 (.c (.int .u64 (16)))),M 0 10] [8,9,10]) (oQ [M 11 2,O 12 (.bin .add t11 (I 16)),M 2 12] [11,12])) .skip)) (.seq (.seq (oQ [M 13 0,O 14 (.bin .geq t13 (.c (.int .u64 (256))))] [8,13]) (.cond t14 (.seq (oQ [M 15 0,O 16 (.bin .shr t15 (.c (.int .u64 (8)))),M 0 16] [14,15,16]) (oQ [M 17 2,O 18 (.bin .add t17 (I 8)),M 2 18] [17,18])) .skip)) (.seq (oQ [M 19 2,M 20 0,O 21 (.conv .u8 t20),O 22 (.idx false 256 1 (.c (.agg [(.int .u8 (0)),(.int .u8 (1)),(.int .u8 (2)),(.int .u8 (2)),(.int .u8 (3)),(.int .u8 (3)),(.int .u8 (3)),(.int .u8 (3)),(.int .u8 (4)),(.int .u8 (4)),(.int .u8 (4)),(.int .u8 (4)),(.int .u8 (4)),(.int .u8 (4)),(.int .u8 (4)),(.int .u8 (4)),(.int .u8 (5)),(.int .u8 (5)),(.int .u8 (5)),(.int .u8 (5)),(.int .u8 (5)),(.int .u8 (5)),(.int .u8 (5)),(.int .u8 (5)),(.int .u8 (5)),(.int .u8 (5)),(.int .u8 (5)),(.int .u8 (5)),(.int .u8 (5)),(.int .u8 (5)),(.int .u8 (5)),(.int .u8 (5)),(.int .u8 (6)),(.int .u8 (6)),(.int .u8 (6)),(.int .u8 (6)),(.int .u8 (6)),(.int .u8 (6)),(.int .u8 (6)),(.int .u8 (6)),(.int .u8 (6)),(.int .u8 (6)),(.int .u8 (6)),(.int .u8 (6)),(.int .u8 (6)),(.int .u8 (6)),(.int .u8 (6)),(.int .u8 (6)),(.int .u8 (6)),(.int .u8 (6)),(.int .u8 (6)),(.int .u8 (6)),(.int .u8 (6)),(.int .u8 (6)),(.int .u8 (6)),(.int .u8 (6)),(.int .u8 (6)),(.int .u8 (6)),(.int .u8 (6)),(.int .u8 (6)),(.int .u8 (6)),(.int .u8 (6)),(.int .u8 (6)),(.int .u8 (6)),(.int .u8 (7)),(.int .u8 (7)),(.int .u8 (7)),(.int .u8 (7)),(.int .u8 (7)),(.int .u8 (7)),(.int .u8 (7)),(.int .u8 (7)),(.int .u8 (7)),(.int .u8 (7)),(.int .u8 (7)),(.int .u8 (7)),(.int .u8 (7)),(.int .u8 (7)),(.int .u8 (7)),(.int .u8 (7)),(.int .u8 (7)),(.int .u8 (7)),(.int .u8 (7)),(.int .u8 (7)),(.int .u8 (7)),(.int .u8 (7)),(.int .u8 (7)),(.int .u8 (7)),(.int .u8 (7)),(.int .u8 (7)),(.int .u8 (7)),(.int .u8 (7)),(.int .u8 (7)),(.int .u8 (7)),(.int .u8 (7)),(.int .u8 (7)),(.int .u8 (7)),(.int .u8 (7)),(.int .u8 (7)),(.int .u8 (7)),(.int .u8 (7)),(.int .u8 (7)),(.int .u8 (7)),(.int .u8 (7)),(.int .u8 (7)),(.int .u8 (7)),(.int .u8 (7)),(.int .u8 (7)),(.int .u8 (7)),(.int .u8 (7)),(.int .u8 (7)),(.int .u8 (7)),(.int .u8 (7)),(.int .u8 (7)),(.int .u8 (7)),(.int .u8 (7)),(.int .u8 (7)),(.int .u8 (7)),(.int .u8 (7)),(.int .u8 (7)),(.int .u8 (7)),(.int .u8 (7)),(.int .u8 (7)),(.int .u8 (7)),(.int .u8 (7)),(.int .u8 (7)),(.int .u8 (7)),(.int .u8 (7)),(.int .u8 (8)),(.int .u8 (8)),(.int .u8 (8)),(.int .u8 (8)),(.int .u8 (8)),(.int .u8 (8)),(.int .u8 (8)),(.int .u8 (8)),(.int .u8 (8)),(.int .u8 (8)),(.int .u8 (8)),(.int .u8 (8)),(.int .u8 (8)),(.int .u8 (8)),(.int .u8 (8)),(.int .u8 (8)),(.int .u8 (8)),(.int .u8 (8)),(.int .u8 (8)),(.int .u8 (8)),(.int .u8 (8)),(.int .u8 (8)),(.int .u8 (8)),(.int .u8 (8)),(.int .u8 (8)),(.int .u8 (8)),(.int .u8 (8)),(.int .u8 (8)),(.int .u8 (8)),(.int .u8 (8)),(.int .u8 (8)),(.int .u8 (8)),(.int .u8 (8)),(.int .u8 (8)),(.int .u8 (8)),(.int .u8 (8)),(.int .u8 (8)),(.int .u8 (8)),(.int .u8 (8)),(.int .u8 (8)),(.int .u8 (8)),(.int .u8 (8)),(.int .u8 (8)),(.int .u8 (8)),(.int .u8 (8)),(.int .u8 (8)),(.int .u8 (8)),(.int .u8 (8)),(.int .u8 (8)),(.int .u8 (8)),(.int .u8 (8)),(.int .u8 (8)),(.int .u8 (8)),(.int .u8 (8)),(.int .u8 (8)),(.int .u8 (8)),(.int .u8 (8)),(.int .u8 (8)),(.int .u8 (8)),(.int .u8 (8)),(.int .u8 (8)),(.int .u8 (8)),(.int .u8 (8)),(.int .u8 (8)),(.int .u8 (8)),(.int .u8 (8)),(.int .u8 (8)),(.int .u8 (8)),(.int .u8 (8)),(.int .u8 (8)),(.int .u8 (8)),(.int .u8 (8)),(.int .u8 (8)),(.int .u8 (8)),(.int .u8 (8)),(.int .u8 (8)),(.int .u8 (8)),(.int .u8 (8)),(.int .u8 (8)),(.int .u8 (8)),(.int .u8 (8)),(.int .u8 (8)),(.int .u8 (8)),(.int .u8 (8)),(.int .u8 (8)),(.int .u8 (8)),(.int .u8 (8)),(.int .u8 (8)),(.int .u8 (8)),(.int .u8 (8)),(.int .u8 (8)),(.int .u8 (8)),(.int .u8 (8)),(.int .u8 (8)),(.int .u8 (8)),(.int .u8 (8)),(.int .u8 (8)),(.int .u8 (8)),(.int .u8 (8)),(.int .u8 (8)),(.int .u8 (8)),(.int .u8 (8)),(.int .u8 (8)),(.int .u8 (8)),(.int .u8 (8)),(.int .u8 (8)),(.int .u8 (8)),(.int .u8 (8)),(.int .u8 (8)),(.int .u8 (8)),(.int .u8 (8)),(.int .u8 (8)),(.int .u8 (8)),(.int .u8 (8)),(.int .u8 (8)),(.int .u8 (8)),(.int .u8 (8)),(.int .u8 (8)),(.int .u8 (8)),(.int .u8 (8)),(.int .u8 (8)),(.int .u8 (8)),(.int .u8 (8)),(.int .u8 (8)),(.int .u8 (8)),(.int .u8 (8)),(.int .u8 (8)),(.int .u8 (8))])) t21),O 23 (.conv .i64 t22),oX 24 .add 19 23,M 2 24] [0,14,19,20,21,22,23,24]) .ret)))))⟩
def yvv:TFn:=⟨1,[.tmp 2],(.seq (oQ [O 2 (.mv (I 0))] [2]) (.seq (oQ [M 3 0,O 4 (.call (.f ynp) [t3]),O 5 (.bin .sub (I 64) t4),M 2 5] [0,3,4,5]) .ret))⟩
def t69:Opd:=.t 69
def ykH:TCode:=(.seq (.seq (oQ [M 67 15,O 68 (.bin .geq t67 (.c (.int .u64 (4294967296)))),M 69 68,⟨some 70,(.mv t15),some (69,false)⟩,⟨some 71,(.mv t10),some (69,false)⟩,⟨some 72,(.bin .mul t70 t71),some (69,false)⟩,⟨some 73,(.mv t16),some (69,false)⟩,⟨some 74,(.bin .mul (.c (.int .u64 (4294967296))) t73),some (69,false)⟩,⟨some 75,(.mv t13),some (69,false)⟩,⟨some 76,(.bin .add t74 t75),some (69,false)⟩,⟨some 77,(.bin .gtr t72 t76),some (69,false)⟩,O 78 (.pick t69 (.c (.bool true)) t77)] [67,68,69,70,71,72,73,74,75,76,77,85]) (.cond t78 .skip (.exit 0))) (.block 1 (.seq (oQ [M 79 15,O 80 (.bin .sub t79 (.c (.int .u64 (1)))),M 15 80] [78,79,80]) (.seq (oQ [M 81 16,M 82 9,oX 83 .add 81 82,M 16 83] [81,82,83]) (.seq (oQ [M 84 16,O 85 (.bin .geq t84 (.c (.int .u64 (4294967296))))] [84]) (.cond t85 (.exit 0) .skip))))))
def t102:Opd:=.t 102
def t104:Opd:=.t 104
def t105:Opd:=.t 105
def t106:Opd:=.t 106
def t107:Opd:=.t 107
def t108:Opd:=.t 108
def t109:Opd:=.t 109
def t110:Opd:=.t 110
def t111:Opd:=.t 111
def t112:Opd:=.t 112
def t113:Opd:=.t 113
def t114:Opd:=.t 114
def t119:Opd:=.t 119
def t120:Opd:=.t 120
def ykI:TCode:=(.seq (.seq (oQ [M 102 18,O 103 (.bin .geq t102 (.c (.int .u64 (4294967296)))),M 104 103,⟨some 105,(.mv t18),some (104,false)⟩,⟨some 106,(.mv t10),some (104,false)⟩,⟨some 107,(.bin .mul t105 t106),some (104,false)⟩,⟨some 108,(.mv t16),some (104,false)⟩,⟨some 109,(.bin .mul (.c (.int .u64 (4294967296))) t108),some (104,false)⟩,⟨some 110,(.mv t14),some (104,false)⟩,⟨some 111,(.bin .add t109 t110),some (104,false)⟩,⟨some 112,(.bin .gtr t107 t111),some (104,false)⟩,O 113 (.pick t104 (.c (.bool true)) t112)] [102,103,104,105,106,107,108,109,110,111,112,120]) (.cond t113 .skip (.exit 2))) (.block 3 (.seq (oQ [M 114 18,O 115 (.bin .sub t114 (.c (.int .u64 (1)))),M 18 115] [113,114,115]) (.seq (oQ [M 116 16,M 117 9,oX 118 .add 116 117,M 16 118] [116,117,118]) (.seq (oQ [M 119 16,O 120 (.bin .geq t119 (.c (.int .u64 (4294967296))))] [119]) (.cond t120 (.exit 2) .skip))))))
def t121:Opd:=.t 121
def t125:Opd:=.t 125
def yLn:TFn:=⟨3,[.tmp 6,.tmp 7],(.seq (oQ [O 6 (.mv (.c (.int .u64 (0)))),O 7 (.mv (.c (.int .u64 (0))))] [6,7]) (.seq (.seq (oQ [M 19 2,O 20 (.bin .eql t19 (.c (.int .u64 (0))))] [19]) (.cond t20 (oQ [O 21 (.load false 1 (.g 1)),⟨none,.bad,none⟩] [20,21]) .skip)) (.seq (.seq (oQ [M 22 2,M 23 0,oX 24 .leq 22 23] [20,22,23]) (.cond t24 (oQ [O 25 (.load false 1 (.g 2)),⟨none,.bad,none⟩] [24,25]) .skip)) (.seq (.seq (oQ [M 26 0,O 27 (.bin .eql t26 (.c (.int .u64 (0))))] [24,26]) (.cond t27 (.seq (.ops [M 28 1,M 29 2,oX 30 .quo 28 29,M 31 1,M 32 2,oX 33 .rem 31 32,M 6 30,M 7 33] [] [(0,1),(0,3),(1,3),(2,3),(0,4),(1,4),(2,4),(3,4),(0,5),(1,5),(2,5),(3,6),(4,6),(5,6)] [0,1,2,27,28,29,30,31,32,33]) .ret) .skip)) (.seq (oQ [M 34 2,O 35 (.call (.f ye3) [t34]),O 36 (.conv .u64 t35),M 8 36] [27,34,35,36]) (.seq (oQ [M 37 2,M 38 8,oX 39 .shl 37 38,M 2 39] [37,38,39]) (.seq (oQ [M 40 2,O 41 (.bin .shr t40 (.c (.int .u64 (32)))),M 9 41] [40,41]) (.seq (oQ [M 42 2,O 43 (.bin .and t42 (.c (.int .u64 (4294967295)))),M 10 43] [42,43]) (.seq (oQ [M 44 0,M 45 8,oX 46 .shl 44 45,M 47 1,M 48 8,O 49 (.bin .sub (.c (.int .u64 (64))) t48),oX 50 .shr 47 49,oX 51 .or 46 50,M 11 51] [0,44,45,46,47,48,49,50,51]) (.seq (oQ [M 52 1,M 53 8,oX 54 .shl 52 53,M 12 54] [1,52,53,54]) (.seq (oQ [M 55 12,O 56 (.bin .shr t55 (.c (.int .u64 (32)))),M 13 56] [55,56]) (.seq (oQ [M 57 12,O 58 (.bin .and t57 (.c (.int .u64 (4294967295)))),M 14 58] [12,57,58]) (.seq (oQ [M 59 11,M 60 9,oX 61 .quo 59 60,M 15 61] [59,60,61]) (.seq (oQ [M 62 11,M 63 15,M 64 9,oX 65 .mul 63 64,oX 66 .sub 62 65,M 16 66] [62,63,64,65,66]) (.seq (.block 0 (.loop 60530100 ykH)) (.seq (oQ [M 86 11,O 87 (.bin .mul t86 (.c (.int .u64 (4294967296)))),M 88 13,oX 89 .add 87 88,M 90 15,M 91 2,oX 92 .mul 90 91,oX 93 .sub 89 92,M 17 93] [11,13,16,78,85,86,87,88,89,90,91,92,93]) (.seq (oQ [M 94 17,M 95 9,oX 96 .quo 94 95,M 18 96] [94,95,96]) (.seq (oQ [M 97 17,M 98 18,M 99 9,oX 100 .mul 98 99,oX 101 .sub 97 100,M 16 101] [97,98,99,100,101]) (.seq (.block 2 (.loop 60530101 ykI)) (.seq (oQ [M 121 15,O 122 (.bin .mul t121 (.c (.int .u64 (4294967296)))),M 123 18,oX 124 .add 122 123,M 125 17,O 126 (.bin .mul t125 (.c (.int .u64 (4294967296)))),M 127 14,oX 128 .add 126 127,M 129 18,M 130 2,oX 131 .mul 129 130,oX 132 .sub 128 131,M 133 8,oX 134 .shr 132 133,M 6 124,M 7 134] [2,8,9,10,14,15,16,17,18,113,120,121,122,123,124,125,126,127,128,129,130,131,132,133,134]) .ret))))))))))))))))))))⟩
def yLo:TFn:=⟨3,[.tmp 6],(.seq (oQ [O 6 (.mv (.c (.int .u64 (0))))] [6]) (.seq (oQ [M 10 0,M 11 2,oX 12 .rem 10 11,M 13 1,M 14 2,O 15 (.call (.f ykD) [t12,t13,t14]),M 9 15,O 16 (.ext t9 0),O 17 (.ext t9 1),M 7 16,M 8 17] [0,1,2,7,9,10,11,12,13,14,15,16,17]) (.seq (oQ [M 18 8,M 6 18] [8,18]) .ret)))⟩
def t66:Opd:=.t 66
def t88:Opd:=.t 88
def t99:Opd:=.t 99
def t101:Opd:=.t 101
def t103:Opd:=.t 103
def t116:Opd:=.t 116
def t117:Opd:=.t 117
def t118:Opd:=.t 118
def t122:Opd:=.t 122
def t123:Opd:=.t 123
def t124:Opd:=.t 124
def t129:Opd:=.t 129
def t130:Opd:=.t 130
def t131:Opd:=.t 131
def t132:Opd:=.t 132
def t133:Opd:=.t 133
def t134:Opd:=.t 134
def t138:Opd:=.t 138
def t140:Opd:=.t 140
def t143:Opd:=.t 143
def t145:Opd:=.t 145
def t148:Opd:=.t 148
def t152:Opd:=.t 152
def t153:Opd:=.t 153
def t154:Opd:=.t 154
def t155:Opd:=.t 155
def t156:Opd:=.t 156
def t157:Opd:=.t 157
def t158:Opd:=.t 158
def t159:Opd:=.t 159
def yG8:TFn:=⟨2,[.cell 4 true 2,.tmp 5],(.seq (oQ [O 2 (.boxL t0),O 3 (.boxL t1),O 4 (.allocL (.agg [(.int .i64 (0)),(.int .i64 (0))])),O 5 (.mv (I 0))] [0,1,5]) (.seq (.seq (oQ [oT 21 2 2,oT 22 2 3,O 23 (.call (.f ycf) [t21,t22]),M 6 23] [21,22,23]) (.seq (oQ [M 24 6,O 25 (.bin .neq t24 (I 0))] [24]) (.cond t25 (.seq (oQ [O 26 (.build [(.int .i64 (0)),(.int .i64 (0))] []),M 27 6,⟨none,(.store 2 t4 t26),none⟩,M 5 27] [2,3,6,25,26,27]) .ret) .skip))) (.seq (.ops [O 28 (.fad 1 t2),oF 29 1 28,O 30 (.conv .u64 t29),O 31 (.fad 1 t3),oF 32 1 31,O 33 (.conv .u64 t32),O 34 (.call (.f yc8) [t30,t33]),M 7 34] [⟨1,(.agg [.i .i64,.i .i64]),0⟩,⟨4,(.agg [.i .i64,.i .i64]),0⟩] [] [6,25,28,29,30,31,32,33,34]) (.seq (.ops [O 36 (.fad 0 t2),oF 37 1 36,O 38 (.call (.f ybw) [t37]),O 39 (.fad 1 t3),oF 40 1 39,O 41 (.conv .u64 t40),M 42 7,oX 43 .quo 41 42,O 44 (.call (.f yeQ) [t38,t43]),M 35 44,O 45 (.ext t35 0),O 46 (.ext t35 1),M 8 45,M 9 46] [⟨1,(.agg [.i .i64,.i .i64]),0⟩,⟨4,(.agg [.i .i64,.i .i64]),0⟩] [(0,3),(1,3),(2,3),(0,4),(1,4),(2,4),(0,5),(1,5),(2,5),(0,6),(1,6),(2,6),(3,6),(4,6),(5,6),(0,7),(1,7),(2,7),(10,11),(11,12)] [35,36,37,38,39,40,41,42,43,44,45,46]) (.seq (.ops [O 48 (.fad 0 t3),oF 49 1 48,O 50 (.call (.f ybw) [t49]),O 51 (.fad 1 t2),oF 52 1 51,O 53 (.conv .u64 t52),M 54 7,oX 55 .quo 53 54,O 56 (.call (.f yeQ) [t50,t55]),M 47 56,O 57 (.ext t47 0),O 58 (.ext t47 1),M 10 57,M 11 58] [⟨1,(.agg [.i .i64,.i .i64]),0⟩,⟨4,(.agg [.i .i64,.i .i64]),0⟩] [(0,3),(1,3),(2,3),(0,4),(1,4),(2,4),(0,5),(1,5),(2,5),(0,6),(1,6),(2,6),(3,6),(4,6),(5,6),(0,7),(1,7),(2,7),(10,11),(11,12)] [47,48,49,50,51,52,53,54,55,56,57,58]) (.seq (.ops [O 59 (.fad 0 t2),oF 60 1 59,O 61 (.bin .lss t60 (I 0)),M 12 61] [⟨1,(.agg [.i .i64,.i .i64]),0⟩] [] [59,60,61]) (.seq (oQ [O 13 (.mv (.c (.int .u64 (0)))),O 14 (.mv (.c (.int .u64 (0)))),O 15 (.mv (.c (.int .u64 (0))))] [13,14,15]) (.seq (.seq (.ops [O 62 (.fad 0 t2),oF 63 1 62,O 64 (.bin .lss t63 (I 0)),O 65 (.fad 0 t3),oF 66 1 65,O 67 (.bin .lss t66 (I 0)),O 68 (.eqB false t64 t67)] [⟨1,(.agg [.i .i64,.i .i64]),0⟩,⟨4,(.agg [.i .i64,.i .i64]),0⟩] [] [62,63,64,65,66,67]) (.cond t68 (.seq (oQ [M 70 9,M 71 11,O 72 (.call (.f yjl) [t70,t71,(.c (.int .u64 (0)))]),M 69 72,O 73 (.ext t69 0),O 74 (.ext t69 1),M 14 73,M 15 74] [9,11,68,69,70,71,72,73,74]) (oQ [M 76 8,M 77 10,M 78 15,O 79 (.call (.f yjl) [t76,t77,t78]),M 75 79,O 80 (.ext t75 0),O 81 (.ext t75 1),M 13 80] [8,10,15,75,76,77,78,79,80,81])) (.seq (.seq (oQ [M 82 8,M 83 10,oX 84 .lss 82 83,M 85 84,⟨some 86,(.mv t8),some (85,false)⟩,⟨some 87,(.mv t10),some (85,false)⟩,⟨some 88,(.bin .eql t86 t87),some (85,false)⟩,⟨some 89,(.mv t88),some (85,false)⟩,⟨some 90,(.mv t9),some (89,true)⟩,⟨some 91,(.mv t11),some (89,true)⟩,⟨some 92,(.bin .lss t90 t91),some (89,true)⟩,⟨some 93,(.pick t89 t92 (.c (.bool false))),some (85,false)⟩,O 94 (.pick t85 (.c (.bool true)) t93)] [68,82,83,84,85,86,87,88,89,90,91,92,93]) (.cond t94 (.seq (oQ [M 95 10,M 96 11,M 97 8,M 98 9,M 8 95,M 9 96,M 10 97,M 11 98] [94,95,96,97,98]) (oQ [M 99 12,O 100 (.un .not t99),M 12 100] [99,100])) .skip)) (.seq (oQ [M 102 9,M 103 11,O 104 (.call (.f yjm) [t102,t103,(.c (.int .u64 (0)))]),M 101 104,O 105 (.ext t101 0),O 106 (.ext t101 1),M 14 105,M 15 106] [9,11,94,101,102,103,104,105,106]) (oQ [M 108 8,M 109 10,M 110 15,O 111 (.call (.f yjm) [t108,t109,t110]),M 107 111,O 112 (.ext t107 0),O 113 (.ext t107 1),M 13 112] [8,10,15,107,108,109,110,111,112,113]))))) (.seq (.seq (oQ [M 114 13,O 115 (.bin .eql t114 (.c (.int .u64 (0)))),M 116 115,⟨some 117,(.mv t14),some (116,true)⟩,⟨some 118,(.bin .eql t117 (.c (.int .u64 (0)))),some (116,true)⟩,O 119 (.pick t116 t118 (.c (.bool false)))] [114,115,116,117,118]) (.cond t119 (.seq (oQ [O 120 (.build [(.int .i64 (0)),(.int .i64 (0))] [(1,1,(I 1))]),⟨none,(.store 2 t4 t120),none⟩,O 5 (.mv (I 0))] [2,3,7,12,13,14,119,120]) .ret) .skip)) (.seq (oQ [M 121 13,M 122 14,M 123 7,O 124 (.call (.f yp4) [t121,t122,t123]),M 125 7,O 126 (.call (.f yc8) [t124,t125]),M 16 126] [119,121,122,123,124,125,126]) (.seq (.seq (oQ [M 127 13,M 128 16,oX 129 .geq 127 128] [127,128]) (.cond t129 (.seq (oQ [O 130 (.build [(.int .i64 (0)),(.int .i64 (0))] []),⟨none,(.store 2 t4 t130),none⟩,O 5 (.mv (I 16))] [2,3,7,12,13,14,16,129,130]) .ret) .skip)) (.seq (oQ [M 132 13,M 133 14,M 134 16,O 135 (.call (.f ykD) [t132,t133,t134]),M 131 135,O 136 (.ext t131 0),O 137 (.ext t131 1),M 17 136,M 18 137] [13,14,18,129,131,132,133,134,135,136,137]) (.seq (.ops [O 139 (.fad 1 t2),oF 140 1 139,O 141 (.conv .u64 t140),M 142 7,oX 143 .quo 141 142,O 144 (.fad 1 t3),oF 145 1 144,O 146 (.conv .u64 t145),M 147 16,oX 148 .quo 146 147,O 149 (.call (.f yeQ) [t143,t148]),M 138 149,O 150 (.ext t138 0),O 151 (.ext t138 1),M 19 150,M 20 151] [⟨1,(.agg [.i .i64,.i .i64]),0⟩,⟨6,(.agg [.i .i64,.i .i64]),0⟩] [(0,3),(1,3),(2,3),(0,5),(1,5),(2,5),(3,5),(4,5),(0,6),(1,6),(2,6),(3,6),(4,6),(0,7),(1,7),(2,7),(3,7),(4,7),(0,8),(1,8),(2,8),(3,8),(4,8),(5,8),(6,8),(7,8),(0,9),(1,9),(2,9),(3,9),(4,9),(12,13),(13,14)] [2,3,7,16,138,139,140,141,142,143,144,145,146,147,148,149,150,151]) (.seq (.seq (oQ [M 152 19,O 153 (.bin .gtr t152 (.c (.int .u64 (0))))] [19,152]) (.cond t153 (.seq (oQ [O 154 (.build [(.int .i64 (0)),(.int .i64 (0))] []),⟨none,(.store 2 t4 t154),none⟩,O 5 (.mv (I 16))] [12,17,20,153,154]) .ret) .skip)) (.seq (oQ [M 155 12,M 156 17,M 157 20,O 158 (.call (.f ydt) [t155,t156,t157]),O 159 (.ext t158 0),O 160 (.ext t158 1),⟨none,(.store 2 t4 t159),none⟩,M 5 160] [12,17,20,153,155,156,157,158,159,160]) .ret)))))))))))))))⟩
def yG9:TFn:=⟨2,[.cell 4 true 2,.tmp 5],(.seq (oQ [O 2 (.boxL t0),O 3 (.boxL t1),O 4 (.allocL (.agg [(.int .i64 (0)),(.int .i64 (0))])),O 5 (.mv (I 0))] [0,1,5]) (.seq (.seq (oQ [oT 7 2 2,oT 8 2 3,O 9 (.call (.f ycf) [t7,t8]),M 6 9] [7,8,9]) (.seq (oQ [M 10 6,O 11 (.bin .neq t10 (I 0))] [10]) (.cond t11 (.seq (oQ [O 12 (.build [(.int .i64 (0)),(.int .i64 (0))] []),M 13 6,⟨none,(.store 2 t4 t12),none⟩,M 5 13] [2,3,6,11,12,13]) .ret) .skip))) (.seq (.ops [O 14 (.fad 0 t3),oF 15 1 14,O 16 (.un .neg t15),O 17 (.fad 0 t3),⟨none,(.store 1 t17 t16),none⟩] [⟨1,(.agg [.i .i64,.i .i64]),0⟩,⟨4,(.agg [.i .i64,.i .i64]),0⟩] [] [6,11,14,15,16,17]) (.seq (oQ [oT 18 2 2,oT 19 2 3,O 20 (.call (.f yda) [t18,t19]),O 21 (.ext t20 0),O 22 (.ext t20 1),⟨none,(.store 2 t4 t21),none⟩,M 5 22] [2,3,18,19,20,21,22]) .ret))))⟩
def t65:Opd:=.t 65
def yHa:TFn:=⟨2,[.cell 4 true 2,.tmp 5],(.seq (oQ [O 2 (.boxL t0),O 3 (.boxL t1),O 4 (.allocL (.agg [(.int .i64 (0)),(.int .i64 (0))])),O 5 (.mv (I 0))] [0,1,5]) (.seq (.seq (oQ [oT 17 2 2,oT 18 2 3,O 19 (.call (.f ycf) [t17,t18]),M 6 19] [17,18,19]) (.seq (oQ [M 20 6,O 21 (.bin .neq t20 (I 0))] [20]) (.cond t21 (.seq (oQ [O 22 (.build [(.int .i64 (0)),(.int .i64 (0))] []),M 23 6,⟨none,(.store 2 t4 t22),none⟩,M 5 23] [2,3,6,21,22,23]) .ret) .skip))) (.seq (.ops [O 24 (.fad 0 t2),oF 25 1 24,O 26 (.call (.f ybw) [t25]),O 27 (.fad 1 t2),oF 28 1 27,O 29 (.conv .u64 t28),O 30 (.fad 0 t3),oF 31 1 30,O 32 (.call (.f ybw) [t31]),O 33 (.fad 1 t3),oF 34 1 33,O 35 (.conv .u64 t34),M 7 26,M 8 29,M 9 32,M 10 35] [⟨1,(.agg [.i .i64,.i .i64]),0⟩,⟨4,(.agg [.i .i64,.i .i64]),0⟩,⟨7,(.agg [.i .i64,.i .i64]),0⟩,⟨10,(.agg [.i .i64,.i .i64]),0⟩] [(0,3),(1,3),(2,3),(0,4),(1,4),(2,4),(0,5),(1,5),(2,5),(0,6),(1,6),(2,6),(3,6),(4,6),(5,6),(0,7),(1,7),(2,7),(3,7),(4,7),(5,7),(3,8),(4,8),(5,8),(0,9),(1,9),(2,9),(3,9),(4,9),(5,9),(6,9),(7,9),(8,9),(0,10),(1,10),(2,10),(3,10),(4,10),(5,10),(6,10),(7,10),(8,10),(0,11),(1,11),(2,11),(3,11),(4,11),(5,11),(6,11),(7,11),(8,11),(3,12),(4,12),(5,12),(9,12),(10,12),(11,12),(9,13),(10,13),(11,13),(9,14),(10,14),(11,14)] [6,21,24,25,26,27,28,29,30,31,32,33,34,35]) (.seq (oQ [M 36 7,M 37 10,O 38 (.call (.f yc8) [t36,t37]),M 39 9,M 40 8,O 41 (.call (.f yc8) [t39,t40]),M 11 38,M 12 41] [36,37,38,39,40,41]) (.seq (.ops [M 43 7,M 44 11,oX 45 .quo 43 44,M 46 9,M 47 12,oX 48 .quo 46 47,O 49 (.call (.f yeQ) [t45,t48]),M 42 49,O 50 (.ext t42 0),O 51 (.ext t42 1),M 13 50,M 14 51] [] [(0,1),(0,3),(1,3),(2,3),(0,4),(1,4),(2,4),(3,4),(0,5),(1,5),(2,5),(8,9),(9,10)] [7,9,42,43,44,45,46,47,48,49,50,51]) (.seq (.ops [M 53 8,M 54 12,oX 55 .quo 53 54,M 56 10,M 57 11,oX 58 .quo 56 57,O 59 (.call (.f yeQ) [t55,t58]),M 52 59,O 60 (.ext t52 0),O 61 (.ext t52 1),M 15 60,M 16 61] [] [(0,1),(0,3),(1,3),(2,3),(0,4),(1,4),(2,4),(3,4),(0,5),(1,5),(2,5),(8,9),(9,10)] [8,10,11,12,52,53,54,55,56,57,58,59,60,61]) (.seq (.seq (oQ [M 62 13,M 63 15,oX 64 .add 62 63,O 65 (.bin .gtr t64 (.c (.int .u64 (0))))] [13,15,62,63,64]) (.cond t65 (.seq (oQ [O 66 (.build [(.int .i64 (0)),(.int .i64 (0))] []),⟨none,(.store 2 t4 t66),none⟩,O 5 (.mv (I 16))] [2,3,14,16,65,66]) .ret) .skip)) (.seq (.ops [M 67 14,O 68 (.bin .gtr t67 (.c (.int .u64 (0)))),M 69 68,⟨some 70,(.fad 0 t2),some (69,true)⟩,⟨some 71,(.load false 1 t70),some (69,true)⟩,⟨some 72,(.bin .lss t71 (I 0)),some (69,true)⟩,⟨some 73,(.fad 0 t3),some (69,true)⟩,⟨some 74,(.load false 1 t73),some (69,true)⟩,⟨some 75,(.bin .lss t74 (I 0)),some (69,true)⟩,⟨some 76,(.eqB true t72 t75),some (69,true)⟩,O 77 (.pick t69 t76 (.c (.bool false))),M 78 14,M 79 16,O 80 (.call (.f ydt) [t77,t78,t79]),O 81 (.ext t80 0),O 82 (.ext t80 1),⟨none,(.store 2 t4 t81),none⟩,M 5 82] [⟨4,(.agg [.i .i64,.i .i64]),0⟩,⟨7,(.agg [.i .i64,.i .i64]),0⟩] [] [2,3,14,16,65,67,68,69,70,71,72,73,74,75,76,77,78,79,80,81,82]) .ret))))))))⟩
def yHb:TFn:=⟨2,[.cell 4 true 2,.tmp 5],(.seq (oQ [O 2 (.boxL t0),O 3 (.boxL t1),O 4 (.allocL (.agg [(.int .i64 (0)),(.int .i64 (0))])),O 5 (.mv (I 0))] [0,1,5]) (.seq (.seq (oQ [oT 7 2 2,oT 8 2 3,O 9 (.call (.f ycf) [t7,t8]),M 6 9] [7,8,9]) (.seq (oQ [M 10 6,O 11 (.bin .neq t10 (I 0))] [10]) (.cond t11 (.seq (oQ [O 12 (.build [(.int .i64 (0)),(.int .i64 (0))] []),M 13 6,⟨none,(.store 2 t4 t12),none⟩,M 5 13] [2,3,6,11,12,13]) .ret) .skip))) (.seq (.block 0 (.seq (.ops [O 15 (.fad 0 t3),oF 16 1 15,O 17 (.bin .eql t16 (I 0)),M 14 17] [⟨1,(.agg [.i .i64,.i .i64]),0⟩] [] [6,11,15,16,17]) (.cond t14 (.seq (oQ [O 18 (.build [(.int .i64 (0)),(.int .i64 (0))] []),⟨none,(.store 2 t4 t18),none⟩,O 5 (.mv (I 18))] [2,3,14,18]) .ret) (.seq (.ops [O 20 (.fad 0 t3),oF 21 1 20,O 22 (.bin .lss t21 (I 0)),M 19 22] [⟨1,(.agg [.i .i64,.i .i64]),0⟩] [] [14,20,21,22]) (.cond t19 (.seq (.ops [oT 23 2 2,O 24 (.fad 1 t3),oF 25 1 24,O 26 (.un .neg t25),O 27 (.fad 0 t3),oF 28 1 27,O 29 (.un .neg t28),O 30 (.build [(.int .i64 (0)),(.int .i64 (0))] [(0,1,t26),(1,1,t29)]),O 31 (.call (.f yed) [t23,t30]),O 32 (.ext t31 0),O 33 (.ext t31 1),⟨none,(.store 2 t4 t32),none⟩,M 5 33] [⟨2,(.agg [.i .i64,.i .i64]),0⟩,⟨5,(.agg [.i .i64,.i .i64]),0⟩] [] [2,3,19,23,24,25,26,27,28,29,30,31,32,33]) .ret) .skip))))) (.seq (.ops [oT 34 2 2,O 35 (.fad 1 t3),oF 36 1 35,O 37 (.fad 0 t3),oF 38 1 37,O 39 (.build [(.int .i64 (0)),(.int .i64 (0))] [(0,1,t36),(1,1,t38)]),O 40 (.call (.f yed) [t34,t39]),O 41 (.ext t40 0),O 42 (.ext t40 1),⟨none,(.store 2 t4 t41),none⟩,M 5 42] [⟨2,(.agg [.i .i64,.i .i64]),0⟩,⟨4,(.agg [.i .i64,.i .i64]),0⟩] [] [2,3,19,34,35,36,37,38,39,40,41,42]) .ret))))⟩
def yuJ:TFn:=⟨7,[.tmp 11],(.seq (oQ [O 7 (.boxL t0),O 8 (.boxL t1),O 9 (.boxL t2),O 11 (.mv (.c (.bool false)))] [0,1,2,8,11]) (.seq (.seq (oQ [M 16 3,O 17 (.bin .eql t16 (I 0))] [16]) (.cond t17 (.seq (oQ [O 11 (.mv (.c (.bool false)))] [3,4,5,6,7,9,17]) .ret) .skip)) (.seq (.seq (oQ [oT 18 2 9,oT 19 2 4,O 20 (.call (.f ycQ) [t18,t19])] [17,18,19]) (.cond t20 (.seq (oQ [oT 22 2 4,oT 23 2 9,O 24 (.call (.f yfs) [t22,t23]),M 21 24,O 25 (.ext t21 0),O 26 (.ext t21 1),O 12 (.allocL (.agg [(.int .i64 (0)),(.int .i64 (0))])),⟨none,(.store 2 t12 t25),none⟩,M 13 26] [3,6,7,9,20,21,22,23,24,25,26]) (.seq (oQ [oT 27 2 12,⟨none,(.store 2 t4 t27),none⟩,⟨none,(.store 1 t5 (I 6)),none⟩] [4,12,27]) (.seq (.seq (oQ [M 28 13,O 29 (.bin .neq t28 (I 0))] [28]) (.cond t29 (oQ [M 30 13,⟨none,(.store 1 t5 t30),none⟩] [5,29,30]) .skip)) (.seq (oQ [M 31 13,O 32 (.bin .neq t31 (I 0)),M 11 32] [5,13,29,31,32]) .ret)))) .skip)) (.seq (.ops [oT 34 2 4,M 35 3,O 36 (.call (.f ybY) [t35]),O 37 (.call (.f yee) [t34,t36]),M 33 37,O 38 (.ext t33 0),O 39 (.ext t33 1),O 14 (.allocL (.agg [(.int .i64 (0)),(.int .i64 (0))])),⟨none,(.store 2 t14 t38),none⟩,M 15 39] [] [(0,1),(0,2),(5,6),(0,7),(1,7),(2,7),(3,7),(4,7),(5,7),(6,7),(6,8)] [3,4,9,20,33,34,35,36,37,38,39]) (.seq (.seq (oQ [M 40 15,O 41 (.bin .eql t40 (I 0))] [40]) (.cond t41 (oQ [oT 43 2 7,oT 44 2 14,O 45 (.call (.f yda) [t43,t44]),M 42 45,O 46 (.ext t42 0),O 47 (.ext t42 1),⟨none,(.store 2 t6 t46),none⟩,M 15 47] [6,7,14,41,42,43,44,45,46,47]) .skip)) (.seq (oQ [M 48 15,⟨none,(.store 1 t5 t48),none⟩] [5,6,7,14,15,41,48]) (.seq (oQ [O 11 (.mv (.c (.bool true)))] []) .ret)))))))⟩
def ynS:TCode:=(.seq (oQ [oX 17 .lss 16 15] []) (.seq (.cond t17 .skip (.exit 0)) (.seq (.block 1 (.seq (.ops [M 18 16,O 19 (.iad 1 t14 t16),oF 20 1 19,M 7 18,M 8 20] [⟨1,(.one (.i .i64)),0⟩,⟨2,(.one (.i .i64)),0⟩] [] [17,18,19,20]) (.seq (.ops [O 21 (.fad 1 t3),oF 22 1 21,M 23 7,O 24 (.bin .add t23 (I 1)),O 25 (.iad 1 t22 t24),oF 26 1 25,O 27 (.call (.f ybY) [t26]),O 9 (.allocL (.agg [(.int .i64 (0)),(.int .i64 (0))])),⟨none,(.store 2 t9 t27),none⟩] [⟨1,(.agg [.i .i64,.d,.d]),0⟩,⟨4,(.one (.i .i64)),0⟩,⟨5,(.one (.i .i64)),0⟩] [] [7,21,22,23,24,25,26,27]) (.seq (.seq (oQ [oT 28 2 4,oT 29 2 9,O 30 (.call (.f ycQ) [t28,t29]),O 31 (.un .not t30)] [28,29,30]) (.cond t31 (.exit 1) .skip)) (.seq (oQ [O 32 (.call (.f ybY) [(I 0)]),O 10 (.allocL (.agg [(.int .i64 (0)),(.int .i64 (0))])),⟨none,(.store 2 t10 t32),none⟩] [31,32]) (.seq (.seq (oQ [M 33 8,O 34 (.bin .gtr t33 (I 0))] [33]) (.cond t34 (.seq (oQ [oT 36 2 9,oT 37 2 4,O 38 (.call (.f yfs) [t36,t37]),M 35 38,O 39 (.ext t35 0),O 40 (.ext t35 1),O 11 (.allocL (.agg [(.int .i64 (0)),(.int .i64 (0))])),⟨none,(.store 2 t11 t39),none⟩,M 12 40] [34,35,36,37,38,39,40]) (.seq (.seq (oQ [M 41 12,O 42 (.bin .neq t41 (I 0))] [41]) (.cond t42 (.seq (oQ [M 43 12,M 6 43] [2,3,4,8,9,10,11,12,14,15,16,42,43]) .ret) .skip)) (.seq (.ops [oT 45 2 11,M 46 8,O 47 (.call (.f ybY) [t46]),O 48 (.call (.f yed) [t45,t47]),M 44 48,O 49 (.ext t44 0),O 50 (.ext t44 1),⟨none,(.store 2 t10 t49),none⟩,M 12 50] [] [(0,1),(0,2),(5,6),(6,7)] [11,42,44,45,46,47,48,49,50]) (.seq (oQ [M 51 12,O 52 (.bin .neq t51 (I 0))] [51]) (.cond t52 (.seq (oQ [M 53 12,M 6 53] [2,3,4,8,9,10,12,14,15,16,52,53]) .ret) .skip))))) .skip)) (.seq (.seq (oQ [M 54 2,oT 55 2 4,oT 56 2 9,oT 57 2 10,M 58 8,O 59 (.call t54 [t55,t56,t57,t58])] [8,10,12,34,52,54,55,56,57,58]) (.cond t59 (.seq (oQ [O 6 (.mv (I 0))] [2,3,4,9,14,15,16,59]) .ret) .skip)) (oQ [oT 60 2 9,⟨none,(.store 2 t4 t60),none⟩] [9,59,60])))))))) (oQ [O 61 (.bin .add t16 (I 1)),M 16 61] [8,9,31,61]))))
def yHc:TFn:=⟨3,[.tmp 6],(.seq (oQ [O 3 (.boxL t0),O 4 (.boxL t1),O 6 (.mv (I 0))] [0,1,6]) (.seq (.seq (.ops [O 13 (.fad 2 t3),oF 14 1 13,O 15 (.len t14),O 16 (.mv (I 0))] [⟨1,(.agg [.i .i64,.d,.d]),0⟩] [] [13]) (.block 0 (.loop 41613500 ynS))) (.seq (oQ [O 6 (.mv (I 0))] [2,3,4,14,15,16,17]) .ret)))⟩
def yHd:TFn:=⟨3,[.cell 6 true 2,.tmp 7],(.seq (oQ [O 3 (.boxL t0),O 4 (.boxL t1),O 5 (.boxH true 2 t2),O 6 (.allocL (.agg [(.int .i64 (0)),(.int .i64 (0))])),O 7 (.mv (I 0))] [0,1,2,7]) (.seq (.seq (oQ [oT 12 3 3,O 13 (.call (.f ybX) [t12]),M 8 13] [12,13]) (.seq (oQ [M 14 8,O 15 (.bin .neq t14 (I 0))] [14]) (.cond t15 (.seq (oQ [O 16 (.build [(.int .i64 (0)),(.int .i64 (0))] []),M 17 8,⟨none,(.store 2 t6 t16),none⟩,M 7 17] [3,4,5,8,15,16,17]) .ret) .skip))) (.seq (.seq (.ops [oT 18 3 3,oT 19 2 4,O 20 (.call (.f yeH) [t18,t19]),O 21 (.un .not t20),M 22 21,⟨some 23,(.load true 2 t5),some (22,false)⟩,⟨some 24,(.call (.f ycX) [t23]),some (22,false)⟩,⟨some 25,(.bin .neq t24 (I 0)),some (22,false)⟩,O 26 (.pick t22 (.c (.bool true)) t25),M 27 26,⟨some 28,(.fad 0 t5),some (27,false)⟩,⟨some 29,(.load false 1 t28),some (27,false)⟩,⟨some 30,(.bin .lss t29 (I 0)),some (27,false)⟩,O 31 (.pick t27 (.c (.bool true)) t30)] [⟨5,(.agg [.i .i64,.i .i64]),0⟩,⟨11,(.agg [.i .i64,.i .i64]),0⟩] [] [8,15,18,19,20,21,22,23,24,25,26,27,28,29,30]) (.cond t31 (.seq (oQ [O 32 (.build [(.int .i64 (0)),(.int .i64 (0))] []),⟨none,(.store 2 t6 t32),none⟩,O 7 (.mv (I 2))] [3,4,5,31,32]) .ret) .skip)) (.seq (.seq (.ops [O 33 (.fad 0 t5),oF 34 1 33,O 35 (.bin .eql t34 (I 0))] [⟨1,(.agg [.i .i64,.i .i64]),0⟩] [] [31,33,34]) (.cond t35 (.seq (oQ [oT 36 2 4,⟨none,(.store 2 t6 t36),none⟩,O 7 (.mv (I 0))] [3,4,5,35,36]) .ret) .skip)) (.seq (oQ [O 9 (.allocH true 2 (.agg [(.int .i64 (0)),(.int .i64 (0))]))] [35]) (.seq (.ops [O 10 (.allocH true 1 (.int .i64 (0))),⟨none,(.store 1 t10 (I 6)),none⟩] [⟨1,(.one (.i .i64)),0⟩] [] []) (.seq (oQ [oT 37 3 3,oT 38 2 4,O 39 (.mkFn (.func yfG) [] [t5,t10,t9]),O 40 (.call (.f ysh) [t37,t38,t39]),M 11 40] [3,4,5,37,38,39,40]) (.seq (.seq (oQ [M 41 11,O 42 (.bin .neq t41 (I 0))] [41]) (.cond t42 (.ops [M 43 11,⟨none,(.store 1 t10 t43),none⟩] [⟨1,(.one (.i .i64)),0⟩] [] [11,42,43]) .skip)) (.seq (.seq (.ops [oF 44 1 10,O 45 (.bin .neq t44 (I 0))] [⟨0,(.one (.i .i64)),0⟩] [] [11,42,44]) (.cond t45 (.seq (.ops [O 46 (.build [(.int .i64 (0)),(.int .i64 (0))] []),oF 47 1 10,⟨none,(.store 2 t6 t46),none⟩,M 7 47] [⟨1,(.one (.i .i64)),0⟩] [(0,1),(1,2)] [9,10,45,46,47]) .ret) .skip)) (.seq (.ops [oT 48 2 9,⟨none,(.store 2 t6 t48),none⟩,O 7 (.mv (I 0))] [⟨0,(.agg [.i .i64,.i .i64]),0⟩] [] [9,10,45,48]) .ret))))))))))⟩
def ywP:TFn:=⟨4,[.cell 8 true 2,.tmp 9],(.seq (oQ [O 4 (.boxL t0),O 6 (.boxL t2),O 7 (.boxL t3),O 8 (.allocL (.agg [(.int .i64 (0)),(.int .i64 (0))])),O 9 (.mv (I 0))] [0,2,3,9]) (.seq (.ops [O 10 (.fad 0 t4),O 11 (.fad 0 t10),oF 12 1 11,M 13 1,O 14 (.iad 3 t12 t13),oT 15 3 14,oT 16 2 6,oT 17 2 7,O 18 (.call (.f ylQ) [t15,t16,t17]),O 19 (.ext t18 0),O 20 (.ext t18 1),⟨none,(.store 2 t8 t19),none⟩,M 9 20] [⟨2,(.agg [.d,.d]),0⟩,⟨4,(.agg [.i .i64,.d,.d]),0⟩,⟨5,(.agg [.i .i64,.d,.d]),0⟩] [(0,3),(1,3),(2,3),(0,6),(1,6),(2,6),(3,6),(4,6),(5,6),(0,7),(1,7),(2,7),(3,7),(4,7),(5,7),(6,7),(9,10)] [1,4,6,7,10,11,12,13,14,15,16,17,18,19,20]) .ret))⟩
def yyA:TFn:=⟨2,[.tmp 4],(.seq (oQ [O 2 (.boxL t0),O 4 (.mv (.c (.bool false)))] [0,4]) (.seq (.ops [M 5 1,O 6 (.bin .geq t5 (I 0)),M 7 6,⟨some 8,(.mv t1),some (7,true)⟩,⟨some 9,(.fad 0 t2),some (7,true)⟩,⟨some 10,(.fad 0 t9),some (7,true)⟩,⟨some 11,(.load false 1 t10),some (7,true)⟩,⟨some 12,(.len t11),some (7,true)⟩,⟨some 13,(.bin .lss t8 t12),some (7,true)⟩,O 14 (.pick t7 t13 (.c (.bool false))),M 4 14] [⟨6,(.agg [.d,.d]),0⟩] [] [1,2,5,6,7,8,9,10,11,12,13,14]) .ret))⟩
def yp9:TFn:=⟨3,[.cell 6 true 2,.cell 7 true 2,.tmp 8],(.seq (oQ [O 3 (.boxL t0),O 4 (.boxL t1),O 6 (.allocL (.agg [.nils,.nils])),O 7 (.allocL (.agg [(.int .i64 (0)),(.int .i64 (0))])),O 8 (.mv (I 0))] [0,1,8]) (.seq (.seq (.ops [O 13 (.fad 0 t3),oT 14 2 13,O 15 (.call (.f ycP) [t14]),M 9 15] [⟨1,(.agg [.d,.d]),0⟩] [] [13,14,15]) (.seq (oQ [M 16 9,O 17 (.bin .neq t16 (I 0))] [16]) (.cond t17 (.seq (oQ [O 18 (.build [.nils,.nils] []),O 19 (.build [(.int .i64 (0)),(.int .i64 (0))] []),M 20 9,⟨none,(.store 2 t6 t18),none⟩,⟨none,(.store 2 t7 t19),none⟩,M 8 20] [2,3,4,9,17,18,19,20]) .ret) .skip))) (.seq (.seq (.ops [oT 21 2 3,O 22 (.fad 0 t4),oF 23 1 22,O 24 (.call (.f ydb) [t21,t23]),O 25 (.un .not t24)] [⟨2,(.agg [.i .i64,.i .u8,.i .i64,.i .i64,.i .i64,.i .i64,.i .i64,.i .i64]),0⟩] [] [9,17,21,22,23,24]) (.cond t25 (.seq (oQ [O 26 (.build [.nils,.nils] []),O 27 (.build [(.int .i64 (0)),(.int .i64 (0))] []),⟨none,(.store 2 t6 t26),none⟩,⟨none,(.store 2 t7 t27),none⟩,O 8 (.mv (I 2))] [2,3,4,25,26,27]) .ret) .skip)) (.seq (.ops [M 29 2,O 30 (.fad 0 t4),oF 31 1 30,O 32 (.fad 2 t4),oT 33 2 32,O 34 (.fad 4 t4),oT 35 2 34,O 36 (.call t29 [t31,t33,t35]),M 28 36,O 37 (.ext t28 0),O 38 (.ext t28 1),O 10 (.allocL (.agg [(.int .i64 (0)),(.int .i64 (0))])),⟨none,(.store 2 t10 t37),none⟩,M 11 38] [⟨2,(.agg [.i .i64,.i .u8,.i .i64,.i .i64,.i .i64,.i .i64,.i .i64,.i .i64]),0⟩,⟨4,(.agg [.i .i64,.i .u8,.i .i64,.i .i64,.i .i64,.i .i64,.i .i64,.i .i64]),0⟩,⟨6,(.agg [.i .i64,.i .u8,.i .i64,.i .i64,.i .i64,.i .i64,.i .i64,.i .i64]),0⟩] [] [2,25,28,29,30,31,32,33,34,35,36,37,38]) (.seq (.seq (oQ [M 39 11,O 40 (.bin .neq t39 (I 0))] [39]) (.cond t40 (.seq (oQ [O 41 (.build [.nils,.nils] []),O 42 (.build [(.int .i64 (0)),(.int .i64 (0))] []),M 43 11,⟨none,(.store 2 t6 t41),none⟩,⟨none,(.store 2 t7 t42),none⟩,M 8 43] [3,4,10,11,40,41,42,43]) .ret) .skip)) (.seq (.seq (.ops [O 44 (.fad 0 t3),O 45 (.fad 1 t44),oF 46 1 45,O 47 (.len t46),O 48 (.bin .geq t47 (I 2000))] [⟨2,(.agg [.d,.d]),0⟩] [] [11,40,44,45,46,47]) (.cond t48 (.seq (oQ [O 49 (.build [.nils,.nils] []),O 50 (.build [(.int .i64 (0)),(.int .i64 (0))] []),⟨none,(.store 2 t6 t49),none⟩,⟨none,(.store 2 t7 t50),none⟩,O 8 (.mv (I 4))] [3,4,10,48,49,50]) .ret) .skip)) (.seq (.ops [oT 51 2 10,O 52 (.fad 6 t4),⟨none,(.store 2 t52 t51),none⟩] [⟨2,(.agg [.i .i64,.i .u8,.i .i64,.i .i64,.i .i64,.i .i64,.i .i64,.i .i64]),0⟩] [] [48,51,52]) (.seq (.ops [O 53 (.fad 0 t3),O 54 (.fad 1 t53),oF 55 1 54,O 56 (.len t55),O 57 (.bin .add t56 (I 1)),O 58 (.mkSl true 8 64 (.agg [(.int .i64 (0)),(.int .u8 (0)),(.int .i64 (0)),(.int .i64 (0)),(.int .i64 (0)),(.int .i64 (0)),(.int .i64 (0)),(.int .i64 (0))]) (I 0) t57),M 12 58] [⟨2,(.agg [.d,.d]),0⟩] [] [53,54,55,56,57,58]) (.seq (.ops [O 59 (.fad 0 t3),O 60 (.fad 0 t59),oF 61 1 60,O 62 (.call (.f yfq) [t61]),M 63 12,O 64 (.fad 0 t3),O 65 (.fad 1 t64),oF 66 1 65,O 67 (.app true 8 64 t63 t66),oT 68 8 4,O 69 (.buildD 8 (.agg [(.int .i64 (0)),(.int .u8 (0)),(.int .i64 (0)),(.int .i64 (0)),(.int .i64 (0)),(.int .i64 (0)),(.int .i64 (0)),(.int .i64 (0))]) 1 [(0,t68)]),O 70 (.app true 8 64 t67 t69),O 71 (.build [.nils,.nils] [(0,1,t62),(1,1,t70)]),oT 72 2 10,⟨none,(.store 2 t6 t71),none⟩,⟨none,(.store 2 t7 t72),none⟩,O 8 (.mv (I 0))] [⟨2,(.agg [.d,.d]),0⟩,⟨7,(.agg [.d,.d]),0⟩] [(0,4),(1,4),(2,4),(3,4),(0,5),(1,5),(2,5),(3,5),(4,5),(0,6),(1,6),(2,6),(3,6),(4,6),(0,7),(1,7),(2,7),(3,7),(4,7),(0,9),(1,9),(2,9),(3,9),(4,9),(5,9),(6,9),(7,9),(8,9),(0,10),(1,10),(2,10),(3,10),(4,10),(5,10),(6,10),(7,10),(8,10),(0,13),(1,13),(2,13),(3,13),(4,13),(5,13),(6,13),(7,13),(8,13),(9,13),(10,13),(11,13),(12,13),(13,14)] [3,4,10,12,59,60,61,62,63,64,65,66,67,68,69,70,71,72]) .ret)))))))))⟩
def yI6:TFn:=⟨4,[.cell 8 true 2,.cell 9 true 2,.tmp 10],(.seq (oQ [O 4 (.boxL t0),O 6 (.boxL t2),O 7 (.boxL t3),O 8 (.allocL (.agg [.nils,.nils])),O 9 (.allocL (.agg [(.int .i64 (0)),(.int .i64 (0))])),O 10 (.mv (I 0))] [0,2,3,10]) (.seq (oQ [oT 12 2 4,O 13 (.build [.nils,.nils] [(0,2,t12)]),O 11 (.allocL (.agg [.nils,.nils])),⟨none,(.store 2 t11 t13),none⟩] [4,12,13]) (.seq (oQ [oT 14 2 11,M 15 1,oT 16 2 6,oT 17 2 7,O 18 (.build [(.int .i64 (0)),(.int .u8 (0)),(.int .i64 (0)),(.int .i64 (0)),(.int .i64 (0)),(.int .i64 (0)),(.int .i64 (0)),(.int .i64 (0))] [(0,1,t15),(1,1,(.c (.int .u8 (2)))),(2,2,t16),(4,2,t17)]),oT 19 2 11,O 20 (.mkFn (.func ydu) [t19] []),O 21 (.call (.f yf7) [t14,t18,t20]),O 22 (.ext t21 0),O 23 (.ext t21 1),O 24 (.ext t21 2),⟨none,(.store 2 t8 t22),none⟩,⟨none,(.store 2 t9 t23),none⟩,M 10 24] [1,6,7,11,14,15,16,17,18,19,20,21,22,23,24]) .ret)))⟩
def t100:Opd:=.t 100
def ynT:TCode:=(.seq (oQ [oX 45 .lss 44 43] []) (.seq (.cond t45 .skip (.exit 0)) (.seq (.block 1 (.seq (.ops [M 46 44,O 47 (.iad 1 t42 t44),oF 48 1 47,M 11 46,M 12 48] [⟨1,(.one (.i .i64)),0⟩,⟨2,(.one (.i .i64)),0⟩] [] [45,46,47,48]) (.seq (.ops [O 49 (.fad 1 t3),oF 50 1 49,M 51 11,O 52 (.bin .add t51 (I 1)),O 53 (.iad 1 t50 t52),oF 54 1 53,O 55 (.call (.f ybY) [t54]),O 13 (.allocL (.agg [(.int .i64 (0)),(.int .i64 (0))])),⟨none,(.store 2 t13 t55),none⟩] [⟨1,(.agg [.i .i64,.d,.d]),0⟩,⟨4,(.one (.i .i64)),0⟩,⟨5,(.one (.i .i64)),0⟩] [] [11,49,50,51,52,53,54,55]) (.seq (.seq (oQ [oT 56 2 5,oT 57 2 13,O 58 (.call (.f ycQ) [t56,t57])] [56,57]) (.cond t58 (oQ [oT 59 2 5,⟨none,(.store 2 t13 t59),none⟩] [58,59]) .skip)) (.seq (.seq (oQ [M 60 12,O 61 (.bin .eql t60 (I 0)),M 62 61,⟨some 63,(.load true 2 t10),some (62,false)⟩,⟨some 64,(.load true 2 t13),some (62,false)⟩,⟨some 65,(.call (.f ycQ) [t63,t64]),some (62,false)⟩,⟨some 66,(.un .not t65),some (62,false)⟩,O 67 (.pick t62 (.c (.bool true)) t66)] [58,60,61,62,63,64,65,66]) (.cond t67 (.seq (.seq (oQ [oT 68 2 10,oT 69 2 13,O 70 (.call (.f ycQ) [t68,t69])] [12,67,68,69]) (.cond t70 (oQ [oT 71 2 13,⟨none,(.store 2 t10 t71),none⟩] [13,70,71]) .skip)) (.exit 1)) .skip)) (.seq (oQ [oT 73 2 13,oT 74 2 10,O 75 (.call (.f yfs) [t73,t74]),M 72 75,O 76 (.ext t72 0),O 77 (.ext t72 1),O 14 (.allocL (.agg [(.int .i64 (0)),(.int .i64 (0))])),⟨none,(.store 2 t14 t76),none⟩,M 15 77] [67,72,73,74,75,76,77]) (.seq (.seq (oQ [M 78 15,O 79 (.bin .neq t78 (I 0))] [78]) (.cond t79 (.seq (oQ [O 80 (.build [(.int .i64 (0)),(.int .i64 (0))] []),M 81 15,⟨none,(.store 2 t6 t80),none⟩,M 7 81] [3,5,9,10,12,13,14,15,42,43,44,79,80,81]) .ret) .skip)) (.seq (.ops [oT 83 2 14,M 84 12,O 85 (.call (.f ybY) [t84]),O 86 (.call (.f yed) [t83,t85]),M 82 86,O 87 (.ext t82 0),O 88 (.ext t82 1),O 16 (.allocL (.agg [(.int .i64 (0)),(.int .i64 (0))])),⟨none,(.store 2 t16 t87),none⟩,M 15 88] [] [(0,1),(0,2),(5,6),(0,7),(1,7),(2,7),(3,7),(4,7),(5,7),(6,7),(6,8)] [12,14,79,82,83,84,85,86,87,88]) (.seq (.seq (oQ [M 89 15,O 90 (.bin .neq t89 (I 0))] [89]) (.cond t90 (.seq (oQ [O 91 (.build [(.int .i64 (0)),(.int .i64 (0))] []),M 92 15,⟨none,(.store 2 t6 t91),none⟩,M 7 92] [3,5,9,10,13,15,16,42,43,44,90,91,92]) .ret) .skip)) (.seq (.seq (oQ [oT 94 2 9,oT 95 2 16,O 96 (.call (.f yda) [t94,t95]),M 93 96,O 97 (.ext t93 0),O 98 (.ext t93 1),⟨none,(.store 2 t9 t97),none⟩,M 15 98] [16,90,93,94,95,96,97,98]) (.seq (oQ [M 99 15,O 100 (.bin .neq t99 (I 0))] [99]) (.cond t100 (.seq (oQ [O 101 (.build [(.int .i64 (0)),(.int .i64 (0))] []),M 102 15,⟨none,(.store 2 t6 t101),none⟩,M 7 102] [3,5,9,10,13,15,42,43,44,100,101,102]) .ret) .skip))) (oQ [oT 103 2 13,⟨none,(.store 2 t10 t103),none⟩] [13,15,100,103]))))))))))) (oQ [O 104 (.bin .add t44 (I 1)),M 44 104] [13,70,104]))))
def yFm:TFn:=⟨3,[.cell 6 true 2,.tmp 7],(.seq (oQ [O 3 (.boxL t0),O 4 (.boxL t1),O 5 (.boxL t2),O 6 (.allocL (.agg [(.int .i64 (0)),(.int .i64 (0))])),O 7 (.mv (I 0))] [0,1,2,7]) (.seq (.seq (oQ [oT 17 3 3,O 18 (.call (.f ybX) [t17]),M 8 18] [17,18]) (.seq (oQ [M 19 8,O 20 (.bin .neq t19 (I 0))] [19]) (.cond t20 (.seq (oQ [O 21 (.build [(.int .i64 (0)),(.int .i64 (0))] []),M 22 8,⟨none,(.store 2 t6 t21),none⟩,M 7 22] [3,4,5,8,20,21,22]) .ret) .skip))) (.seq (.seq (oQ [oT 23 3 3,oT 24 2 4,O 25 (.call (.f yeH) [t23,t24]),O 26 (.un .not t25),M 27 26,⟨some 28,(.load true 3 t3),some (27,false)⟩,⟨some 29,(.load true 2 t5),some (27,false)⟩,⟨some 30,(.call (.f yeH) [t28,t29]),some (27,false)⟩,⟨some 31,(.un .not t30),some (27,false)⟩,O 32 (.pick t27 (.c (.bool true)) t31),M 33 32,⟨some 34,(.load true 2 t5),some (33,false)⟩,⟨some 35,(.load true 2 t4),some (33,false)⟩,⟨some 36,(.call (.f ycQ) [t34,t35]),some (33,false)⟩,O 37 (.pick t33 (.c (.bool true)) t36)] [8,20,23,24,25,26,27,28,29,30,31,32,33,34,35,36]) (.cond t37 (.seq (oQ [O 38 (.build [(.int .i64 (0)),(.int .i64 (0))] []),⟨none,(.store 2 t6 t38),none⟩,O 7 (.mv (I 2))] [3,4,5,37,38]) .ret) .skip)) (.seq (oQ [O 39 (.call (.f ybY) [(I 0)]),O 9 (.allocL (.agg [(.int .i64 (0)),(.int .i64 (0))])),⟨none,(.store 2 t9 t39),none⟩] [37,39]) (.seq (oQ [oT 40 2 4,O 10 (.allocL (.agg [(.int .i64 (0)),(.int .i64 (0))])),⟨none,(.store 2 t10 t40),none⟩] [4,40]) (.seq (.seq (.ops [O 41 (.fad 2 t3),oF 42 1 41,O 43 (.len t42),O 44 (.mv (I 0))] [⟨1,(.agg [.i .i64,.d,.d]),0⟩] [] [41]) (.block 0 (.loop 85339800 ynT))) (.seq (oQ [oT 105 2 9,⟨none,(.store 2 t6 t105),none⟩,O 7 (.mv (I 0))] [3,5,9,10,42,43,44,45,105]) .ret)))))))⟩
def yvw:TFn:=⟨4,[.cell 8 true 2,.tmp 9],(.seq (oQ [O 4 (.boxL t0),O 6 (.boxL t2),O 7 (.boxL t3),O 8 (.allocL (.agg [(.int .i64 (0)),(.int .i64 (0))])),O 9 (.mv (I 0))] [0,2,3,9]) (.seq (.ops [O 10 (.fad 0 t4),O 11 (.fad 0 t10),oF 12 1 11,M 13 1,O 14 (.iad 3 t12 t13),oT 15 3 14,oT 16 2 6,oT 17 2 7,O 18 (.call (.f yft) [t15,t16,t17]),O 19 (.ext t18 0),O 20 (.ext t18 1),⟨none,(.store 2 t8 t19),none⟩,M 9 20] [⟨2,(.agg [.d,.d]),0⟩,⟨4,(.agg [.i .i64,.d,.d]),0⟩,⟨5,(.agg [.i .i64,.d,.d]),0⟩] [(0,3),(1,3),(2,3),(0,6),(1,6),(2,6),(3,6),(4,6),(5,6),(0,7),(1,7),(2,7),(3,7),(4,7),(5,7),(6,7),(9,10)] [1,4,6,7,10,11,12,13,14,15,16,17,18,19,20]) .ret))⟩
def yHe:TFn:=⟨4,[.cell 8 true 2,.cell 9 true 2,.tmp 10],(.seq (oQ [O 4 (.boxL t0),O 6 (.boxL t2),O 7 (.boxL t3),O 8 (.allocL (.agg [.nils,.nils])),O 9 (.allocL (.agg [(.int .i64 (0)),(.int .i64 (0))])),O 10 (.mv (I 0))] [0,2,3,10]) (.seq (oQ [oT 12 2 4,O 13 (.build [.nils,.nils] [(0,2,t12)]),O 11 (.allocL (.agg [.nils,.nils])),⟨none,(.store 2 t11 t13),none⟩] [4,12,13]) (.seq (oQ [oT 14 2 11,M 15 1,oT 16 2 6,oT 17 2 7,O 18 (.build [(.int .i64 (0)),(.int .u8 (0)),(.int .i64 (0)),(.int .i64 (0)),(.int .i64 (0)),(.int .i64 (0)),(.int .i64 (0)),(.int .i64 (0))] [(0,1,t15),(1,1,(.c (.int .u8 (1)))),(2,2,t16),(4,2,t17)]),oT 19 2 11,O 20 (.mkFn (.func yc6) [t19] []),O 21 (.call (.f yf7) [t14,t18,t20]),O 22 (.ext t21 0),O 23 (.ext t21 1),O 24 (.ext t21 2),⟨none,(.store 2 t8 t22),none⟩,⟨none,(.store 2 t9 t23),none⟩,M 10 24] [1,6,7,11,14,15,16,17,18,19,20,21,22,23,24]) .ret)))⟩
def yC2:TFn:=⟨1,[.cell 2 true 7],(.seq (oQ [O 1 (.boxL t0),O 2 (.allocL (.agg [.nils,.nils,(.int .i64 (0)),(.int .i64 (0)),(.int .i64 (0)),(.int .i64 (0)),(.bool false)]))] [0]) (.seq (.seq (.ops [O 9 (.fad 3 t1),oF 10 1 9,O 11 (.bin .eql t10 (I 0))] [⟨1,(.agg [.d,.d,.i .i64,.i .i64,.i .i64,.i .i64,.b]),0⟩] [] [9,10]) (.cond t11 (.seq (.ops [O 13 (.fad 0 t1),oT 14 2 13,O 15 (.fad 2 t1),oF 16 1 15,O 17 (.load true 2 (.g 0)),O 18 (.fad 0 t1),O 19 (.fad 0 t18),oF 20 1 19,O 21 (.fad 2 t1),oF 22 1 21,O 23 (.iad 3 t20 t22),oT 24 3 23,O 25 (.call (.f ygW) [t24]),O 26 (.call (.f ynD) [t14,t16,t17,t25]),M 12 26,O 27 (.ext t12 0),O 28 (.ext t12 1),O 29 (.ext t12 2),O 30 (.fad 0 t1),⟨none,(.store 2 t30 t27),none⟩,O 31 (.fad 4 t1),⟨none,(.store 2 t31 t28),none⟩] [⟨1,(.agg [.d,.d,.i .i64,.i .i64,.i .i64,.i .i64,.b]),0⟩,⟨3,(.agg [.d,.d,.i .i64,.i .i64,.i .i64,.i .i64,.b]),0⟩,⟨7,(.agg [.d,.d,.i .i64,.i .i64,.i .i64,.i .i64,.b]),0⟩,⟨9,(.agg [.d,.d,.i .i64,.i .i64,.i .i64,.i .i64,.b]),0⟩,⟨10,(.agg [.i .i64,.d,.d]),0⟩,⟨11,(.agg [.i .i64,.d,.d]),0⟩,⟨19,(.agg [.d,.d,.i .i64,.i .i64,.i .i64,.i .i64,.b]),0⟩,⟨21,(.agg [.d,.d,.i .i64,.i .i64,.i .i64,.i .i64,.b]),0⟩] [(0,2),(1,2),(0,3),(1,3),(0,4),(1,4),(2,4),(3,4),(0,5),(1,5),(2,5),(3,5),(4,5),(0,6),(1,6),(2,6),(3,6),(4,6),(0,7),(1,7),(2,7),(3,7),(4,7),(0,8),(1,8),(2,8),(3,8),(4,8),(5,8),(6,8),(7,8),(0,9),(1,9),(2,9),(3,9),(4,9),(5,9),(6,9),(7,9),(0,10),(1,10),(2,10),(3,10),(4,10),(0,11),(1,11),(2,11),(3,11),(4,11),(0,12),(1,12),(2,12),(3,12),(4,12),(15,16),(15,17),(16,17),(16,18),(17,18),(16,19),(17,19),(17,20),(17,21)] [11,12,13,14,15,16,17,18,19,20,21,22,23,24,25,26,27,28,29,30,31]) (.seq (.ops [O 32 (.fad 3 t1),⟨none,(.store 1 t32 (I 1)),none⟩] [⟨1,(.agg [.d,.d,.i .i64,.i .i64,.i .i64,.i .i64,.b]),0⟩] [] [32]) (.seq (oQ [oT 33 7 1,⟨none,(.store 7 t2 t33),none⟩] [1,33]) .ret))) .skip)) (.seq (.ops [O 34 (.fad 2 t1),oF 35 1 34,O 36 (.bin .sub (I 1) t35),M 3 36] [⟨1,(.agg [.d,.d,.i .i64,.i .i64,.i .i64,.i .i64,.b]),0⟩] [] [11,34,35,36]) (.seq (.ops [O 38 (.fad 0 t1),oT 39 2 38,M 40 3,O 41 (.load true 2 (.g 0)),O 42 (.fad 4 t1),oT 43 2 42,O 44 (.call (.f ylR) [t39,t40,t41,t43]),M 37 44,O 45 (.ext t37 0),O 46 (.ext t37 1),O 47 (.ext t37 2),O 4 (.allocL (.agg [.nils,.nils])),O 5 (.allocL (.agg [(.int .i64 (0)),(.int .i64 (0))])),⟨none,(.store 2 t4 t45),none⟩,⟨none,(.store 2 t5 t46),none⟩,M 6 47] [⟨1,(.agg [.d,.d,.i .i64,.i .i64,.i .i64,.i .i64,.b]),0⟩,⟨5,(.agg [.d,.d,.i .i64,.i .i64,.i .i64,.i .i64,.b]),0⟩] [] [6,37,38,39,40,41,42,43,44,45,46,47]) (.seq (.ops [oT 49 2 5,O 50 (.fad 0 t1),O 51 (.fad 0 t50),oF 52 1 51,M 53 3,O 54 (.iad 3 t52 t53),oT 55 3 54,O 56 (.call (.f ygW) [t55]),O 57 (.call (.f ycv) [t49,t56]),M 48 57,O 58 (.ext t48 0),O 59 (.ext t48 1),M 7 58,M 8 59] [⟨3,(.agg [.d,.d,.i .i64,.i .i64,.i .i64,.i .i64,.b]),0⟩,⟨5,(.agg [.i .i64,.d,.d]),0⟩,⟨6,(.agg [.i .i64,.d,.d]),0⟩] [(0,1),(0,2),(0,3),(0,4),(1,4),(2,4),(3,4),(0,5),(0,6),(0,7),(10,11),(11,12)] [3,5,8,48,49,50,51,52,53,54,55,56,57,58,59]) (.seq (.ops [oT 60 2 4,M 61 7,O 62 (.bin .geq t61 (I 0)),O 63 (.fad 0 t1),⟨none,(.store 2 t63 t60),none⟩,O 64 (.fad 3 t1),⟨none,(.store 1 t64 (I 2)),none⟩,O 65 (.fad 6 t1),⟨none,(.store 1 t65 t62),none⟩] [⟨4,(.agg [.d,.d,.i .i64,.i .i64,.i .i64,.i .i64,.b]),0⟩,⟨6,(.agg [.d,.d,.i .i64,.i .i64,.i .i64,.i .i64,.b]),0⟩,⟨8,(.agg [.d,.d,.i .i64,.i .i64,.i .i64,.i .i64,.b]),0⟩] [] [4,7,60,61,62,63,64,65]) (.seq (oQ [oT 66 7 1,⟨none,(.store 7 t2 t66),none⟩] [1,66]) .ret)))))))⟩
def ynU:TCode:=(.seq (oQ [oX 14 .lss 13 12] []) (.seq (.cond t14 .skip (.exit 0)) (.seq (.block 1 (.seq (oQ [M 15 13,M 5 15] [14,15]) (.seq (.ops [M 16 0,M 17 5,O 18 (.iad 8 t16 t17),oT 19 8 18,M 20 1,M 21 5,O 22 (.iad 8 t20 t21),oT 23 8 22,O 24 (.eqA true 8 [(0,(some .i64)),(1,(some .u8)),(2,(some .i64)),(3,(some .i64)),(4,(some .i64)),(5,(some .i64)),(6,(some .i64)),(7,(some .i64))] t19 t23)] [⟨2,(.agg [.i .i64,.i .u8,.i .i64,.i .i64,.i .i64,.i .i64,.i .i64,.i .i64]),0⟩,⟨3,(.agg [.i .i64,.i .u8,.i .i64,.i .i64,.i .i64,.i .i64,.i .i64,.i .i64]),0⟩,⟨6,(.agg [.i .i64,.i .u8,.i .i64,.i .i64,.i .i64,.i .i64,.i .i64,.i .i64]),0⟩,⟨7,(.agg [.i .i64,.i .u8,.i .i64,.i .i64,.i .i64,.i .i64,.i .i64,.i .i64]),0⟩] [(0,1),(0,4),(1,4),(2,4),(3,4),(0,5),(1,5),(2,5),(3,5),(4,5),(0,6),(1,6),(2,6),(3,6),(0,7),(1,7),(2,7),(3,7)] [5,16,17,18,19,20,21,22,23]) (.cond t24 (.seq (oQ [O 4 (.mv (.c (.bool false)))] [0,1,12,13,24]) .ret) .skip)))) (oQ [O 25 (.bin .add t13 (I 1)),M 13 25] [24,25]))))
def ylU:TFn:=⟨2,[.tmp 4],(.seq (oQ [O 4 (.mv (.c (.bool false)))] [4]) (.seq (.seq (oQ [M 6 0,O 7 (.len t6),M 8 1,O 9 (.len t8),oX 10 .neq 7 9] [6,7,8,9]) (.cond t10 (.seq (oQ [O 4 (.mv (.c (.bool false)))] [0,1,10]) .ret) .skip)) (.seq (.seq (oQ [M 11 0,O 12 (.len t11),O 13 (.mv (I 0))] [10,11]) (.block 0 (.loop 32670000 ynU))) (.seq (oQ [O 4 (.mv (.c (.bool true)))] [0,1,12,13,14]) .ret))))⟩
def ykJ:TCode:=(.seq (.seq (.ops [O 24 (.fad 3 t4),oF 25 1 24,O 26 (.fad 3 t1),oF 27 1 26,O 28 (.minmax false [t27,(I 2)]),oX 29 .lss 25 28] [⟨1,(.agg [.d,.d,.i .i64,.i .i64,.i .i64,.i .i64,.b]),0⟩,⟨3,(.agg [.d,.d,.i .i64,.i .i64,.i .i64,.i .i64,.b]),0⟩] [] [5,22,24,25,26,27,28]) (.cond t29 .skip (.exit 0))) (.block 1 (oQ [oT 30 7 4,O 31 (.call (.f yeJ) [t30]),⟨none,(.store 7 t4 t31),none⟩] [29,30,31])))
def yBw:TFn:=⟨1,[.tmp 2],(.seq (oQ [O 1 (.boxL t0),O 2 (.mv (I 0))] [0,2]) (.seq (.seq (.ops [O 6 (.fad 0 t1),oT 7 2 6,O 8 (.call (.f ycP) [t7]),M 3 8] [⟨1,(.agg [.d,.d,.i .i64,.i .i64,.i .i64,.i .i64,.b]),0⟩] [] [6,7,8]) (.seq (oQ [M 9 3,O 10 (.bin .neq t9 (I 0))] [9]) (.cond t10 (.seq (oQ [M 11 3,M 2 11] [1,3,10,11]) .ret) .skip))) (.seq (.ops [O 13 (.fad 0 t1),O 14 (.fad 0 t13),oF 15 1 14,O 16 (.fad 2 t1),oF 17 1 16,O 18 (.call (.f ye1) [t15,t17]),M 12 18,O 19 (.ext t12 0),O 20 (.ext t12 1),O 4 (.allocL (.agg [.nils,.nils,(.int .i64 (0)),(.int .i64 (0)),(.int .i64 (0)),(.int .i64 (0)),(.bool false)])),⟨none,(.store 7 t4 t19),none⟩,M 5 20] [⟨2,(.agg [.d,.d,.i .i64,.i .i64,.i .i64,.i .i64,.b]),0⟩,⟨4,(.agg [.d,.d,.i .i64,.i .i64,.i .i64,.i .i64,.b]),0⟩] [] [3,10,12,13,14,15,16,17,18,19,20]) (.seq (.seq (oQ [M 21 5,O 22 (.bin .neq t21 (I 0))] [21]) (.cond t22 (.seq (oQ [M 23 5,M 2 23] [1,4,5,22,23]) .ret) .skip)) (.seq (.block 0 (.loop 87884100 ykJ)) (.seq (.seq (.ops [O 32 (.fad 3 t4),oF 33 1 32,O 34 (.fad 3 t1),oF 35 1 34,oX 36 .neq 33 35,M 37 36,⟨some 38,(.fad 4 t4),some (37,false)⟩,⟨some 39,(.load true 2 t38),some (37,false)⟩,⟨some 40,(.fad 4 t1),some (37,false)⟩,⟨some 41,(.load true 2 t40),some (37,false)⟩,⟨some 42,(.eqA true 2 [(0,(some .i64)),(1,(some .i64))] t39 t41),some (37,false)⟩,O 43 (.pick t37 (.c (.bool true)) t42),M 44 43,⟨some 45,(.fad 6 t4),some (44,false)⟩,⟨some 46,(.load false 1 t45),some (44,false)⟩,⟨some 47,(.fad 6 t1),some (44,false)⟩,⟨some 48,(.load false 1 t47),some (44,false)⟩,⟨some 49,(.eqB true t46 t48),some (44,false)⟩,O 50 (.pick t44 (.c (.bool true)) t49),M 51 50,⟨some 52,(.fad 0 t4),some (51,false)⟩,⟨some 53,(.fad 1 t52),some (51,false)⟩,⟨some 54,(.load false 1 t53),some (51,false)⟩,⟨some 55,(.fad 0 t1),some (51,false)⟩,⟨some 56,(.fad 1 t55),some (51,false)⟩,⟨some 57,(.load false 1 t56),some (51,false)⟩,⟨some 58,(.call (.f ybV) [t54,t57]),some (51,false)⟩,⟨some 59,(.un .not t58),some (51,false)⟩,O 60 (.pick t51 (.c (.bool true)) t59)] [⟨1,(.agg [.d,.d,.i .i64,.i .i64,.i .i64,.i .i64,.b]),0⟩,⟨3,(.agg [.d,.d,.i .i64,.i .i64,.i .i64,.i .i64,.b]),0⟩,⟨7,(.agg [.d,.d,.i .i64,.i .i64,.i .i64,.i .i64,.b]),0⟩,⟨9,(.agg [.d,.d,.i .i64,.i .i64,.i .i64,.i .i64,.b]),0⟩,⟨14,(.agg [.d,.d,.i .i64,.i .i64,.i .i64,.i .i64,.b]),0⟩,⟨16,(.agg [.d,.d,.i .i64,.i .i64,.i .i64,.i .i64,.b]),0⟩,⟨22,(.agg [.d,.d,.i .i64,.i .i64,.i .i64,.i .i64,.b]),0⟩,⟨25,(.agg [.d,.d,.i .i64,.i .i64,.i .i64,.i .i64,.b]),0⟩] [] [1,4,29,32,33,34,35,36,37,38,39,40,41,42,43,44,45,46,47,48,49,50,51,52,53,54,55,56,57,58,59]) (.cond t60 (.seq (oQ [O 2 (.mv (I 8))] [60]) .ret) .skip)) (.seq (oQ [O 2 (.mv (I 0))] [60]) .ret)))))))⟩
def ywQ:TFn:=⟨1,[.cell 2 true 1,.tmp 3],(.seq (oQ [O 1 (.boxL t0),O 2 (.allocL (.agg [.nils])),O 3 (.mv (I 0))] [0,3]) (.seq (.seq (oQ [oT 7 7 1,O 8 (.call (.f yhA) [t7]),M 4 8] [7,8]) (.seq (oQ [M 9 4,O 10 (.bin .neq t9 (I 0))] [9]) (.cond t10 (.seq (oQ [O 11 (.build [.nils] []),M 12 4,⟨none,(.store 1 t2 t11),none⟩,M 3 12] [1,4,10,11,12]) .ret) .skip))) (.seq (.seq (.ops [O 13 (.fad 3 t1),oF 14 1 13,O 15 (.bin .lss t14 (I 2))] [⟨1,(.agg [.d,.d,.i .i64,.i .i64,.i .i64,.i .i64,.b]),0⟩] [] [4,10,13,14]) (.cond t15 (.seq (oQ [O 16 (.build [.nils] []),⟨none,(.store 1 t2 t16),none⟩,O 3 (.mv (I 36))] [1,15,16]) .ret) .skip)) (.seq (.ops [O 17 (.fad 2 t1),oF 18 1 17,M 5 18] [⟨1,(.agg [.d,.d,.i .i64,.i .i64,.i .i64,.i .i64,.b]),0⟩] [] [15,17,18]) (.seq (.seq (.ops [O 19 (.fad 6 t1),oF 20 1 19] [⟨1,(.agg [.d,.d,.i .i64,.i .i64,.i .i64,.i .i64,.b]),0⟩] [] [19]) (.cond t20 (oQ [M 21 5,O 22 (.bin .sub (I 1) t21),M 5 22] [20,21,22]) .skip)) (.seq (oQ [O 23 (.mkSl true 1 24 (.data []) (I 2) (I 2)),O 24 (.build [.nils] [(0,1,t23)]),O 6 (.allocL (.agg [.nils])),⟨none,(.store 1 t6 t24),none⟩] [20,23,24]) (.seq (.ops [O 25 (.fad 0 t6),oF 26 1 25,M 27 5,O 28 (.load true 2 (.g 0)),O 29 (.fad 4 t1),oT 30 2 29,O 31 (.build [(.int .i64 (0)),(.int .i64 (0)),(.int .i64 (0)),(.int .i64 (0))] [(0,2,t28),(2,2,t30)]),O 32 (.buildD 4 (.agg [(.int .i64 (0)),(.int .i64 (0)),(.int .i64 (0)),(.int .i64 (0))]) 1 [(0,t31)]),O 33 (.iad 1 t26 t27),⟨none,(.store 1 t33 t32),none⟩] [⟨1,(.agg [.d]),0⟩,⟨5,(.agg [.d,.d,.i .i64,.i .i64,.i .i64,.i .i64,.b]),0⟩,⟨8,(.one (.d)),0⟩,⟨9,(.one (.d)),0⟩] [] [25,26,27,28,29,30,31,32,33]) (.seq (.ops [O 34 (.fad 0 t6),oF 35 1 34,M 36 5,O 37 (.bin .sub (I 1) t36),O 38 (.fad 4 t1),oT 39 2 38,O 40 (.fad 0 t1),O 41 (.fad 0 t40),oF 42 1 41,O 43 (.iad 3 t42 (I 0)),O 44 (.fad 0 t43),oF 45 1 44,O 46 (.build [(.int .i64 (0)),(.int .i64 (0))] [(0,1,t45),(1,1,(I 1))]),O 47 (.build [(.int .i64 (0)),(.int .i64 (0)),(.int .i64 (0)),(.int .i64 (0))] [(0,2,t39),(2,2,t46)]),O 48 (.buildD 4 (.agg [(.int .i64 (0)),(.int .i64 (0)),(.int .i64 (0)),(.int .i64 (0))]) 1 [(0,t47)]),O 49 (.iad 1 t35 t37),⟨none,(.store 1 t49 t48),none⟩] [⟨1,(.agg [.d]),0⟩,⟨5,(.agg [.d,.d,.i .i64,.i .i64,.i .i64,.i .i64,.b]),0⟩,⟨8,(.agg [.d,.d,.i .i64,.i .i64,.i .i64,.i .i64,.b]),0⟩,⟨9,(.agg [.i .i64,.d,.d]),0⟩,⟨11,(.agg [.i .i64,.d,.d]),0⟩,⟨15,(.one (.d)),0⟩,⟨16,(.one (.d)),0⟩] [(0,2),(1,2),(0,3),(1,3),(0,4),(1,4),(2,4),(3,4),(0,5),(1,5),(2,5),(3,5),(0,6),(1,6),(2,6),(3,6),(4,6),(5,6),(0,7),(1,7),(2,7),(3,7),(4,7),(5,7),(0,8),(1,8),(2,8),(3,8),(4,8),(5,8),(0,9),(1,9),(2,9),(3,9),(4,9),(5,9),(0,10),(1,10),(2,10),(3,10),(4,10),(5,10),(0,11),(1,11),(2,11),(3,11),(4,11),(5,11),(0,12),(1,12),(2,12),(3,12),(4,12),(5,12),(0,13),(1,13),(2,13),(3,13),(0,14),(1,14),(2,14),(3,14)] [1,5,34,35,36,37,38,39,40,41,42,43,44,45,46,47,48,49]) (.seq (oQ [oT 50 1 6,⟨none,(.store 1 t2 t50),none⟩,O 3 (.mv (I 0))] [6,50]) .ret)))))))))⟩
def yFn:TFn:=⟨2,[.cell 4 true 1,.tmp 5,.tmp 6],(.seq (oQ [O 4 (.allocL (.agg [.nils])),O 5 (.mv (.c .nils)),O 6 (.mv (I 0))] [5,6]) (.seq (oQ [M 9 0,M 10 1,O 11 (.call (.f ye1) [t9,t10]),M 8 11,O 12 (.ext t8 0),O 13 (.ext t8 1),O 7 (.allocL (.agg [.nils,.nils,(.int .i64 (0)),(.int .i64 (0)),(.int .i64 (0)),(.int .i64 (0)),(.bool false)])),⟨none,(.store 7 t7 t12),none⟩,M 6 13] [0,1,8,9,10,11,12,13]) (.seq (.seq (oQ [M 14 6,O 15 (.bin .neq t14 (I 0))] [14]) (.cond t15 (.seq (oQ [O 16 (.build [.nils] []),M 17 6,⟨none,(.store 1 t4 t16),none⟩,O 5 (.mv (.c .nils)),M 6 17] [7,15,16,17]) .ret) .skip)) (.seq (oQ [oT 18 7 7,O 19 (.call (.f yeJ) [t18]),O 20 (.call (.f yeJ) [t19]),⟨none,(.store 7 t7 t20),none⟩] [6,15,18,19,20]) (.seq (oQ [oT 22 7 7,O 23 (.call (.f yfu) [t22]),M 21 23,O 24 (.ext t21 0),O 25 (.ext t21 1),⟨none,(.store 1 t4 t24),none⟩,M 6 25] [21,22,23,24,25]) (.seq (.ops [oT 26 1 4,O 27 (.fad 0 t7),O 28 (.fad 1 t27),oF 29 1 28,M 30 6,⟨none,(.store 1 t4 t26),none⟩,M 5 29,M 6 30] [⟨3,(.agg [.d,.d,.i .i64,.i .i64,.i .i64,.i .i64,.b]),0⟩] [(0,1),(0,2),(0,3),(0,4),(1,4),(2,4),(3,4),(1,5),(2,5),(3,5),(4,5),(4,6)] [7,26,27,28,29,30]) .ret))))))⟩
def yHf:TFn:=⟨2,[.tmp 4],(.seq (oQ [O 2 (.boxL t0),O 3 (.boxL t1),O 4 (.mv (.c .nils))] [0,1,4]) (.seq (oQ [oT 5 2 2,oT 6 2 3,O 7 (.build [(.int .i64 (0)),(.int .i64 (0)),(.int .i64 (0)),(.int .i64 (0))] [(0,2,t5),(2,2,t6)]),O 8 (.buildSl true 4 (.agg [(.int .i64 (0)),(.int .i64 (0)),(.int .i64 (0)),(.int .i64 (0))]) 1 [(0,t7)]),M 4 8] [2,3,5,6,7,8]) .ret))⟩
def ynV:TCode:=(.seq (.seq (oQ [M 11 5,M 12 0,O 13 (.len t12),oX 14 .lss 11 13] [11,12,13]) (.cond t14 .skip (.exit 0))) (.seq (.block 1 (.seq (.ops [M 17 0,M 18 5,O 19 (.iad 4 t17 t18),oT 20 4 19,M 21 1,M 22 5,O 23 (.iad 4 t21 t22),oT 24 4 23,O 25 (.eqA true 4 [(0,(some .i64)),(1,(some .i64)),(2,(some .i64)),(3,(some .i64))] t20 t24)] [⟨2,(.agg [.i .i64,.i .i64,.i .i64,.i .i64]),0⟩,⟨3,(.agg [.i .i64,.i .i64,.i .i64,.i .i64]),0⟩,⟨6,(.agg [.i .i64,.i .i64,.i .i64,.i .i64]),0⟩,⟨7,(.agg [.i .i64,.i .i64,.i .i64,.i .i64]),0⟩] [(0,1),(0,4),(1,4),(2,4),(3,4),(0,5),(1,5),(2,5),(3,5),(4,5),(0,6),(1,6),(2,6),(3,6),(0,7),(1,7),(2,7),(3,7)] [14,17,18,19,20,21,22,23,24]) (.cond t25 (.seq (oQ [O 4 (.mv (.c (.bool false)))] [0,1,5,25]) .ret) .skip))) (oQ [M 15 5,O 16 (.bin .add t15 (I 1)),M 5 16] [15,16,25])))
def yI7:TFn:=⟨2,[.tmp 4],(.seq (oQ [O 4 (.mv (.c (.bool false)))] [4]) (.seq (.seq (oQ [M 6 0,O 7 (.len t6),M 8 1,O 9 (.len t8),oX 10 .neq 7 9] [6,7,8,9]) (.cond t10 (.seq (oQ [O 4 (.mv (.c (.bool false)))] [0,1,10]) .ret) .skip)) (.seq (.seq (oQ [O 5 (.mv (I 0))] [10]) (.block 0 (.loop 27088800 ynV))) (.seq (oQ [O 4 (.mv (.c (.bool true)))] [0,1,5,14]) .ret))))⟩
def ynW:TCode:=(.seq (.seq (.ops [M 13 5,O 14 (.fad 0 t2),oF 15 1 14,O 16 (.len t15),oX 17 .lss 13 16] [⟨2,(.agg [.d]),0⟩] [] [13,14,15,16]) (.cond t17 .skip (.exit 0))) (.seq (.block 1 (.seq (.ops [O 20 (.fad 0 t2),oF 21 1 20,M 22 5,O 23 (.iad 1 t21 t22),oF 24 1 23,O 25 (.fad 0 t3),oF 26 1 25,M 27 5,O 28 (.iad 1 t26 t27),oF 29 1 28,O 30 (.call (.f ynE) [t24,t29]),O 31 (.un .not t30)] [⟨1,(.agg [.d]),0⟩,⟨3,(.one (.d)),0⟩,⟨4,(.one (.d)),0⟩,⟨6,(.agg [.d]),0⟩,⟨8,(.one (.d)),0⟩,⟨9,(.one (.d)),0⟩] [(0,2),(1,2),(0,5),(1,5),(2,5),(3,5),(4,5),(0,6),(1,6),(2,6),(3,6),(4,6),(0,7),(1,7),(2,7),(3,7),(4,7),(5,7),(6,7),(0,8),(1,8),(2,8),(3,8),(4,8),(0,9),(1,9),(2,9),(3,9),(4,9)] [17,20,21,22,23,24,25,26,27,28,29,30]) (.cond t31 (.seq (oQ [O 4 (.mv (.c (.bool false)))] [2,3,5,31]) .ret) .skip))) (oQ [M 18 5,O 19 (.bin .add t18 (I 1)),M 5 19] [18,19,31])))
def yI8:TFn:=⟨2,[.tmp 4],(.seq (oQ [O 2 (.boxL t0),O 3 (.boxL t1),O 4 (.mv (.c (.bool false)))] [0,1,4]) (.seq (.seq (.ops [O 6 (.fad 0 t2),oF 7 1 6,O 8 (.len t7),O 9 (.fad 0 t3),oF 10 1 9,O 11 (.len t10),oX 12 .neq 8 11] [⟨1,(.agg [.d]),0⟩,⟨4,(.agg [.d]),0⟩] [] [6,7,8,9,10,11]) (.cond t12 (.seq (oQ [O 4 (.mv (.c (.bool false)))] [2,3,12]) .ret) .skip)) (.seq (.seq (oQ [O 5 (.mv (I 0))] [12]) (.block 0 (.loop 70742100 ynW))) (.seq (oQ [O 4 (.mv (.c (.bool true)))] [2,3,5,17]) .ret))))⟩
def yHg:TFn:=⟨0,[.tmp 0],(.seq (oQ [O 0 (.mv (.c (.bool false)))] [0]) (.seq (oQ [O 11 (.call (.f ynB) [(I 0)]),O 12 (.call (.f ynB) [(I 1)]),O 13 (.call (.f ynB) [(I 2)]),O 14 (.build [(.int .i64 (0)),(.int .i64 (0))] [(0,1,(I 2)),(1,1,(I 3))]),O 1 (.allocL (.agg [(.int .i64 (0)),(.int .i64 (0))])),O 2 (.allocL (.agg [(.int .i64 (0)),(.int .i64 (0))])),O 3 (.allocL (.agg [(.int .i64 (0)),(.int .i64 (0))])),O 4 (.allocL (.agg [(.int .i64 (0)),(.int .i64 (0))])),⟨none,(.store 2 t1 t11),none⟩,⟨none,(.store 2 t2 t12),none⟩,⟨none,(.store 2 t3 t13),none⟩,⟨none,(.store 2 t4 t14),none⟩] [11,12,13,14]) (.seq (oQ [O 16 (.call (.f yno) []),O 17 (.call (.f yfv) [t16,(I 0)]),M 15 17,O 18 (.ext t15 0),O 19 (.ext t15 1),O 20 (.ext t15 2),O 5 (.allocL (.agg [.nils])),⟨none,(.store 1 t5 t18),none⟩,M 6 19,M 7 20] [6,15,16,17,18,19,20]) (.seq (oQ [O 22 (.call (.f yno) []),O 23 (.call (.f yfv) [t22,(I 1)]),M 21 23,O 24 (.ext t21 0),O 25 (.ext t21 1),O 26 (.ext t21 2),O 8 (.allocL (.agg [.nils])),⟨none,(.store 1 t8 t24),none⟩,M 9 25,M 10 26] [21,22,23,24,25,26]) (.seq (.ops [M 27 7,O 28 (.bin .eql t27 (I 0)),M 29 28,⟨some 30,(.load true 1 t5),some (29,true)⟩,⟨some 31,(.load true 2 t2),some (29,true)⟩,⟨some 32,(.load true 2 t3),some (29,true)⟩,⟨some 33,(.call (.f ygt) [t31,t32]),some (29,true)⟩,⟨some 34,(.load true 2 t1),some (29,true)⟩,⟨some 35,(.load true 2 t2),some (29,true)⟩,⟨some 36,(.call (.f ygt) [t34,t35]),some (29,true)⟩,⟨some 37,(.buildD 1 (.data []) 2 [(0,t33),(1,t36)]),some (29,true)⟩,⟨some 38,(.build [.nils] [(0,1,t37)]),some (29,true)⟩,⟨some 39,(.call (.f ykE) [t30,t38]),some (29,true)⟩,O 40 (.pick t29 t39 (.c (.bool false))),M 41 40,⟨some 42,(.mv t10),some (41,true)⟩,⟨some 43,(.bin .eql t42 (I 0)),some (41,true)⟩,O 44 (.pick t41 t43 (.c (.bool false))),M 45 44,⟨some 46,(.mv t9),some (45,true)⟩,⟨some 47,(.len t46),some (45,true)⟩,⟨some 48,(.bin .eql t47 (I 2)),some (45,true)⟩,O 49 (.pick t45 t48 (.c (.bool false))),M 50 49,⟨some 51,(.load true 1 t8),some (50,true)⟩,⟨some 52,(.load true 2 t4),some (50,true)⟩,⟨some 53,(.load true 2 t3),some (50,true)⟩,⟨some 54,(.call (.f ygt) [t52,t53]),some (50,true)⟩,⟨some 55,(.load true 2 t1),some (50,true)⟩,⟨some 56,(.load true 2 t4),some (50,true)⟩,⟨some 57,(.call (.f ygt) [t55,t56]),some (50,true)⟩,⟨some 58,(.buildD 1 (.data []) 2 [(0,t54),(1,t57)]),some (50,true)⟩,⟨some 59,(.build [.nils] [(0,1,t58)]),some (50,true)⟩,⟨some 60,(.call (.f ykE) [t51,t59]),some (50,true)⟩,O 61 (.pick t50 t60 (.c (.bool false))),M 0 61] [] [(3,4),(3,5),(4,5),(3,6),(3,7),(4,7),(5,7),(6,7),(3,8),(4,8),(5,8),(6,8),(7,8),(3,9),(3,10),(3,11),(24,25),(24,26),(25,26),(24,27),(24,28),(25,28),(26,28),(27,28),(24,29),(25,29),(26,29),(27,29),(28,29),(24,30),(24,31),(24,32)] [1,2,3,4,5,7,8,9,10,27,28,29,30,31,32,33,34,35,36,37,38,39,40,41,42,43,44,45,46,47,48,49,50,51,52,53,54,55,56,57,58,59,60,61]) .ret)))))⟩
def yC3:TFn:=⟨1,[.tmp 2],(.seq (oQ [O 1 (.boxL t0),O 2 (.mv (.c (.bool false)))] [0,2]) (.seq (.ops [O 6 (.fad 0 t1),oT 7 2 6,O 8 (.fad 2 t1),oT 9 2 8,O 10 (.call (.f ycv) [t7,t9]),M 5 10,O 11 (.ext t5 0),O 12 (.ext t5 1),M 3 11,M 4 12] [⟨1,(.agg [.i .i64,.i .i64,.i .i64,.i .i64]),0⟩,⟨3,(.agg [.i .i64,.i .i64,.i .i64,.i .i64]),0⟩] [] [1,5,6,7,8,9,10,11,12]) (.seq (oQ [M 13 4,O 14 (.bin .eql t13 (I 0)),M 15 14,⟨some 16,(.mv t3),some (15,true)⟩,⟨some 17,(.bin .lss t16 (I 0)),some (15,true)⟩,O 18 (.pick t15 t17 (.c (.bool false))),M 2 18] [3,4,13,14,15,16,17,18]) .ret)))⟩
def ynX:TCode:=(.seq (oQ [oX 11 .lss 10 9] []) (.seq (.cond t11 .skip (.exit 0)) (.seq (.block 1 (.seq (.ops [O 12 (.iad 4 t8 t10),oT 13 4 12,O 4 (.allocL (.agg [(.int .i64 (0)),(.int .i64 (0)),(.int .i64 (0)),(.int .i64 (0))])),⟨none,(.store 4 t4 t13),none⟩] [⟨0,(.agg [.i .i64,.i .i64,.i .i64,.i .i64]),0⟩,⟨1,(.agg [.i .i64,.i .i64,.i .i64,.i .i64]),0⟩] [] [11,12,13]) (.seq (oQ [oT 14 4 4,O 15 (.call (.f yiw) [t14]),O 16 (.un .not t15)] [4,14,15]) (.cond t16 (.seq (oQ [O 2 (.mv (I 8))] [8,9,10,16]) .ret) .skip)))) (oQ [O 17 (.bin .add t10 (I 1)),M 10 17] [16,17]))))
def yHh:TFn:=⟨1,[.tmp 2],(.seq (oQ [O 2 (.mv (I 0))] [2]) (.seq (.seq (oQ [M 5 0,O 6 (.len t5),O 7 (.bin .gtr t6 (I 60))] [5,6]) (.cond t7 (.seq (oQ [O 2 (.mv (I 4))] [0,7]) .ret) .skip)) (.seq (.seq (oQ [M 8 0,O 9 (.len t8),O 10 (.mv (I 0))] [0,7]) (.block 0 (.loop 56157900 ynX))) (.seq (oQ [O 2 (.mv (I 0))] [8,9,10,11]) .ret))))⟩
def yC4:TFn:=⟨2,[.tmp 4],(.seq (oQ [O 2 (.boxL t0),O 3 (.boxL t1),O 4 (.mv (I 0))] [0,1,4]) (.seq (oQ [oT 8 2 2,oT 9 2 3,O 10 (.call (.f ycv) [t8,t9]),M 7 10,O 11 (.ext t7 0),O 12 (.ext t7 1),M 5 11,M 6 12] [2,3,6,7,8,9,10,11,12]) (.seq (oQ [M 13 5,M 4 13] [5,13]) .ret)))⟩
def ynY:TCode:=(.seq (.seq (oQ [M 10 4,M 11 0,O 12 (.len t11),oX 13 .lss 10 12] [10,11,12]) (.cond t13 .skip (.exit 0))) (.seq (.block 1 (.seq (.ops [M 16 0,M 17 4,O 18 (.bin .sub t17 (I 1)),O 19 (.iad 4 t16 t18),O 20 (.fad 2 t19),oT 21 2 20,M 22 0,M 23 4,O 24 (.iad 4 t22 t23),O 25 (.fad 0 t24),oT 26 2 25,O 27 (.call (.f yeK) [t21,t26]),O 28 (.bin .geq t27 (I 0))] [⟨3,(.agg [.i .i64,.i .i64,.i .i64,.i .i64]),0⟩,⟨5,(.agg [.i .i64,.i .i64,.i .i64,.i .i64]),0⟩,⟨8,(.agg [.i .i64,.i .i64,.i .i64,.i .i64]),0⟩,⟨10,(.agg [.i .i64,.i .i64,.i .i64,.i .i64]),0⟩] [(0,1),(0,2),(0,6),(1,6),(2,6),(3,6),(4,6),(5,6),(0,7),(1,7),(2,7),(3,7),(4,7),(5,7),(6,7),(0,8),(1,8),(2,8),(3,8),(4,8),(5,8),(0,9),(1,9),(2,9),(3,9),(4,9),(5,9),(0,10),(1,10),(2,10),(3,10),(4,10),(5,10)] [13,16,17,18,19,20,21,22,23,24,25,26,27]) (.cond t28 (.seq (oQ [O 2 (.mv (I 8))] [0,4,28]) .ret) .skip))) (oQ [M 14 4,O 15 (.bin .add t14 (I 1)),M 4 15] [14,15,28])))
def yC5:TFn:=⟨1,[.tmp 2],(.seq (oQ [O 2 (.mv (I 0))] [2]) (.seq (.seq (oQ [M 5 0,O 6 (.call (.f ylS) [t5]),M 3 6] [5,6]) (.seq (oQ [M 7 3,O 8 (.bin .neq t7 (I 0))] [7]) (.cond t8 (.seq (oQ [M 9 3,M 2 9] [0,3,8,9]) .ret) .skip))) (.seq (.seq (oQ [O 4 (.mv (I 1))] [3,8]) (.block 0 (.loop 17365500 ynY))) (.seq (oQ [O 2 (.mv (I 0))] [0,4,13]) .ret))))⟩
def yC6:TFn:=⟨1,[.cell 2 true 2],(.seq (oQ [O 2 (.allocL (.agg [(.int .i64 (0)),(.int .i64 (0))]))] []) (.seq (oQ [M 3 0,O 4 (.build [(.int .i64 (0)),(.int .i64 (0))] [(0,1,t3),(1,1,(I 1))]),⟨none,(.store 2 t2 t4),none⟩] [0,3,4]) .ret))⟩
def yFo:TFn:=⟨2,[.tmp 4],(.seq (oQ [O 2 (.boxL t0),O 3 (.boxL t1),O 4 (.mv (.c (.bool false)))] [0,1,4]) (.seq (oQ [oT 8 2 2,oT 9 2 3,O 10 (.call (.f ycv) [t8,t9]),M 7 10,O 11 (.ext t7 0),O 12 (.ext t7 1),M 5 11,M 6 12] [2,3,6,7,8,9,10,11,12]) (.seq (oQ [M 13 5,O 14 (.bin .lss t13 (I 0)),M 4 14] [5,13,14]) .ret)))⟩
def yqa:TCode:=(.seq (oQ [oX 28 .lss 27 26] []) (.seq (.cond t28 .skip (.exit 0)) (.seq (.block 1 (.seq (.ops [O 29 (.iad 1 t25 t27),oF 30 1 29,M 7 30] [⟨0,(.one (.d)),0⟩,⟨1,(.one (.d)),0⟩] [] [28,29,30]) (.seq (oQ [M 31 7,O 32 (.call (.f yeL) [t31]),M 8 32] [7,31,32]) (.seq (oQ [M 33 8,O 34 (.bin .neq t33 (I 0))] [33]) (.cond t34 (.seq (oQ [M 35 8,M 4 35] [0,3,8,25,26,27,34,35]) .ret) .skip))))) (oQ [O 36 (.bin .add t27 (I 1)),M 27 36] [8,34,36]))))
def yqb:TCode:=(.seq (oQ [oX 41 .lss 40 39] []) (.seq (.cond t41 .skip (.exit 2)) (.seq (.block 3 (.seq (.ops [O 42 (.iad 1 t38 t40),oF 43 1 42,M 10 43] [⟨0,(.one (.d)),0⟩,⟨1,(.one (.d)),0⟩] [] [41,42,43]) (.seq (oQ [M 44 10,O 45 (.len t44),M 11 45] [44,45]) (.seq (.ops [M 46 11,O 47 (.bin .gtr t46 (I 0)),M 48 47,⟨some 49,(.mv t10),some (48,true)⟩,⟨some 50,(.iad 4 t49 (I 0)),some (48,true)⟩,⟨some 51,(.fad 0 t50),some (48,true)⟩,⟨some 52,(.fad 0 t51),some (48,true)⟩,⟨some 53,(.load false 1 t52),some (48,true)⟩,⟨some 54,(.bin .lss t53 (I 0)),some (48,true)⟩,⟨some 55,(.mv t54),some (48,true)⟩,⟨some 56,(.mv t0),some (55,false)⟩,⟨some 57,(.iad 3 t56 (I 0)),some (55,false)⟩,⟨some 58,(.fad 0 t57),some (55,false)⟩,⟨some 59,(.load false 1 t58),some (55,false)⟩,⟨some 60,(.call (.f ybT) [t59]),some (55,false)⟩,⟨some 61,(.mv t10),some (55,false)⟩,⟨some 62,(.mv t11),some (55,false)⟩,⟨some 63,(.bin .sub t62 (I 1)),some (55,false)⟩,⟨some 64,(.iad 4 t61 t63),some (55,false)⟩,⟨some 65,(.fad 2 t64),some (55,false)⟩,⟨some 66,(.load true 2 t65),some (55,false)⟩,⟨some 67,(.call (.f ybx) [t60,t66]),some (55,false)⟩,⟨some 68,(.pick t55 (.c (.bool true)) t67),some (48,true)⟩,O 69 (.pick t48 t68 (.c (.bool false)))] [⟨4,(.agg [.i .i64,.i .i64,.i .i64,.i .i64]),0⟩,⟨7,(.agg [.i .i64,.i .i64,.i .i64,.i .i64]),0⟩,⟨11,(.agg [.i .i64,.d,.d]),0⟩,⟨13,(.agg [.i .i64,.d,.d]),0⟩,⟨18,(.agg [.i .i64,.i .i64,.i .i64,.i .i64]),0⟩,⟨20,(.agg [.i .i64,.i .i64,.i .i64,.i .i64]),0⟩] [(10,15),(11,15),(12,15),(13,15),(14,15),(10,16),(11,16),(12,16),(13,16),(14,16),(15,16),(10,17),(11,17),(12,17),(13,17),(14,17),(15,17),(10,18),(11,18),(12,18),(13,18),(14,18),(10,19),(11,19),(12,19),(13,19),(14,19),(10,20),(11,20),(12,20),(13,20),(14,20)] [10,11,46,47,48,49,50,51,52,53,54,55,56,57,58,59,60,61,62,63,64,65,66,67,68]) (.cond t69 (.seq (oQ [O 4 (.mv (I 2))] [0,38,39,40,69]) .ret) .skip))))) (oQ [O 70 (.bin .add t40 (I 1)),M 40 70] [69,70]))))
def yC7:TFn:=⟨2,[.tmp 4],(.seq (oQ [O 3 (.boxL t1),O 4 (.mv (I 0))] [1,4]) (.seq (.seq (oQ [M 12 0,O 13 (.build [.nils,.nils] [(0,1,t12)]),O 14 (.call (.f ycP) [t13]),M 5 14] [12,13,14]) (.seq (oQ [M 15 5,O 16 (.bin .neq t15 (I 0))] [15]) (.cond t16 (.seq (oQ [M 17 5,M 4 17] [0,3,5,16,17]) .ret) .skip))) (.seq (.seq (.ops [O 18 (.fad 0 t3),oF 19 1 18,O 20 (.len t19),M 21 0,O 22 (.len t21),oX 23 .neq 20 22] [⟨1,(.agg [.d]),0⟩] [] [5,16,18,19,20,21,22]) (.cond t23 (.seq (oQ [O 4 (.mv (I 2))] [0,3,23]) .ret) .skip)) (.seq (.seq (.ops [O 24 (.fad 0 t3),oF 25 1 24,O 26 (.len t25),O 27 (.mv (I 0))] [⟨1,(.agg [.d]),0⟩] [] [23,24]) (.block 0 (.loop 8206000 yqa))) (.seq (.seq (.ops [O 37 (.fad 0 t3),oF 38 1 37,O 39 (.len t38),O 40 (.mv (I 0))] [⟨1,(.agg [.d]),0⟩] [] [3,25,26,27,28,37]) (.block 2 (.loop 8206001 yqb))) (.seq (oQ [O 4 (.mv (I 0))] [0,38,39,40,41]) .ret))))))⟩
def yrA:TFn:=⟨2,[.cell 3 true 2,.tmp 4],(.seq (oQ [O 2 (.boxL t0),O 3 (.allocL (.agg [(.int .i64 (0)),(.int .i64 (0))])),O 4 (.mv (I 0))] [0,4]) (.seq (.ops [oT 5 3 1,O 6 (.fad 0 t2),oT 7 2 6,O 8 (.fad 2 t2),oT 9 2 8,O 10 (.call (.f yft) [t5,t7,t9]),O 11 (.ext t10 0),O 12 (.ext t10 1),⟨none,(.store 2 t3 t11),none⟩,M 4 12] [⟨2,(.agg [.i .i64,.i .i64,.i .i64,.i .i64]),0⟩,⟨4,(.agg [.i .i64,.i .i64,.i .i64,.i .i64]),0⟩] [] [1,2,5,6,7,8,9,10,11,12]) .ret))⟩
def ynZ:TCode:=(.seq (oQ [oX 15 .lss 14 13] []) (.seq (.cond t15 .skip (.exit 0)) (.seq (.block 1 (.seq (.ops [O 16 (.iad 4 t12 t14),oT 17 4 16,O 8 (.allocL (.agg [(.int .i64 (0)),(.int .i64 (0)),(.int .i64 (0)),(.int .i64 (0))])),⟨none,(.store 4 t8 t17),none⟩] [⟨0,(.agg [.i .i64,.i .i64,.i .i64,.i .i64]),0⟩,⟨1,(.agg [.i .i64,.i .i64,.i .i64,.i .i64]),0⟩] [] [15,16,17]) (.seq (oQ [M 19 1,oT 20 4 8,O 21 (.call t19 [t20]),M 18 21,O 22 (.ext t18 0),O 23 (.ext t18 1),O 9 (.allocL (.agg [(.int .i64 (0)),(.int .i64 (0))])),⟨none,(.store 2 t9 t22),none⟩,M 10 23] [8,18,19,20,21,22,23]) (.seq (.seq (oQ [M 24 10,O 25 (.bin .neq t24 (I 0))] [24]) (.cond t25 (.seq (oQ [O 26 (.build [(.int .i64 (0)),(.int .i64 (0))] []),M 27 10,⟨none,(.store 2 t4 t26),none⟩,M 5 27] [1,6,9,10,12,13,14,25,26,27]) .ret) .skip)) (.seq (oQ [oT 29 2 6,oT 30 2 9,O 31 (.call (.f yda) [t29,t30]),M 28 31,O 32 (.ext t28 0),O 33 (.ext t28 1),⟨none,(.store 2 t6 t32),none⟩,M 10 33] [9,25,28,29,30,31,32,33]) (.seq (oQ [M 34 10,O 35 (.bin .neq t34 (I 0))] [34]) (.cond t35 (.seq (oQ [O 36 (.build [(.int .i64 (0)),(.int .i64 (0))] []),M 37 10,⟨none,(.store 2 t4 t36),none⟩,M 5 37] [1,6,10,12,13,14,35,36,37]) .ret) .skip))))))) (oQ [O 38 (.bin .add t14 (I 1)),M 14 38] [10,35,38]))))
def yHi:TFn:=⟨2,[.cell 4 true 2,.tmp 5],(.seq (oQ [O 4 (.allocL (.agg [(.int .i64 (0)),(.int .i64 (0))])),O 5 (.mv (I 0))] [5]) (.seq (oQ [O 11 (.build [(.int .i64 (0)),(.int .i64 (0))] [(1,1,(I 1))]),O 6 (.allocL (.agg [(.int .i64 (0)),(.int .i64 (0))])),⟨none,(.store 2 t6 t11),none⟩] [11]) (.seq (.seq (oQ [M 12 0,O 13 (.len t12),O 14 (.mv (I 0))] [0]) (.block 0 (.loop 87165700 ynZ))) (.seq (oQ [oT 39 2 6,⟨none,(.store 2 t4 t39),none⟩,O 5 (.mv (I 0))] [1,6,12,13,14,15,39]) .ret))))⟩
def yC8:TFn:=⟨2,[.cell 4 true 2,.tmp 5],(.seq (oQ [O 2 (.boxH true 3 t0),O 4 (.allocL (.agg [(.int .i64 (0)),(.int .i64 (0))])),O 5 (.mv (I 0))] [0,5]) (.seq (.seq (.ops [oT 9 3 2,O 10 (.call (.f ybX) [t9]),M 6 10] [⟨0,(.agg [.i .i64,.d,.d]),0⟩] [] [9,10]) (.seq (oQ [M 11 6,O 12 (.bin .neq t11 (I 0))] [11]) (.cond t12 (.seq (oQ [O 13 (.build [(.int .i64 (0)),(.int .i64 (0))] []),M 14 6,⟨none,(.store 2 t4 t13),none⟩,M 5 14] [1,2,6,12,13,14]) .ret) .skip))) (.seq (.seq (oQ [M 15 1,O 16 (.call (.f yeL) [t15]),M 7 16] [6,12,15,16]) (.seq (oQ [M 17 7,O 18 (.bin .neq t17 (I 0))] [17]) (.cond t18 (.seq (oQ [O 19 (.build [(.int .i64 (0)),(.int .i64 (0))] []),M 20 7,⟨none,(.store 2 t4 t19),none⟩,M 5 20] [1,2,7,18,19,20]) .ret) .skip))) (.seq (.seq (oQ [M 21 1,O 22 (.len t21),M 8 22] [7,18,21,22]) (.seq (.ops [M 23 8,O 24 (.bin .gtr t23 (I 0)),M 25 24,⟨some 26,(.mv t1),some (25,true)⟩,⟨some 27,(.iad 4 t26 (I 0)),some (25,true)⟩,⟨some 28,(.fad 0 t27),some (25,true)⟩,⟨some 29,(.fad 0 t28),some (25,true)⟩,⟨some 30,(.load false 1 t29),some (25,true)⟩,⟨some 31,(.bin .lss t30 (I 0)),some (25,true)⟩,⟨some 32,(.mv t31),some (25,true)⟩,⟨some 33,(.mv t1),some (32,false)⟩,⟨some 34,(.mv t8),some (32,false)⟩,⟨some 35,(.bin .sub t34 (I 1)),some (32,false)⟩,⟨some 36,(.iad 4 t33 t35),some (32,false)⟩,⟨some 37,(.fad 2 t36),some (32,false)⟩,⟨some 38,(.load true 2 t37),some (32,false)⟩,⟨some 39,(.fad 0 t2),some (32,false)⟩,⟨some 40,(.load false 1 t39),some (32,false)⟩,⟨some 41,(.build [(.int .i64 (0)),(.int .i64 (0))] [(0,1,t40),(1,1,(I 1))]),some (32,false)⟩,⟨some 42,(.call (.f yeK) [t38,t41]),some (32,false)⟩,⟨some 43,(.bin .gtr t42 (I 0)),some (32,false)⟩,⟨some 44,(.pick t32 (.c (.bool true)) t43),some (25,true)⟩,O 45 (.pick t25 t44 (.c (.bool false)))] [⟨4,(.agg [.i .i64,.i .i64,.i .i64,.i .i64]),0⟩,⟨7,(.agg [.i .i64,.i .i64,.i .i64,.i .i64]),0⟩,⟨13,(.agg [.i .i64,.i .i64,.i .i64,.i .i64]),0⟩,⟨15,(.agg [.i .i64,.i .i64,.i .i64,.i .i64]),0⟩,⟨17,(.agg [.i .i64,.d,.d]),0⟩] [(10,11),(10,12),(10,16),(11,16),(12,16),(13,16),(14,16),(15,16),(10,17),(11,17),(12,17),(13,17),(14,17),(15,17),(10,18),(11,18),(12,18),(13,18),(14,18),(15,18)] [8,23,24,25,26,27,28,29,30,31,32,33,34,35,36,37,38,39,40,41,42,43,44]) (.cond t45 (.seq (oQ [O 46 (.build [(.int .i64 (0)),(.int .i64 (0))] []),⟨none,(.store 2 t4 t46),none⟩,O 5 (.mv (I 2))] [1,2,45,46]) .ret) .skip))) (.seq (oQ [M 47 1,O 48 (.mkFn (.func yeu) [] [t2]),O 49 (.call (.f ysi) [t47,t48]),O 50 (.ext t49 0),O 51 (.ext t49 1),⟨none,(.store 2 t4 t50),none⟩,M 5 51] [1,2,45,47,48,49,50,51]) .ret)))))⟩
def ykK:TCode:=(.seq (oQ [oX 34 .lss 33 32] []) (.seq (.cond t34 .skip (.exit 2)) (.seq (.block 3 (.seq (oQ [O 35 (.iad 1 t31 t33),oF 36 1 35,M 11 36] [34,35,36]) (.seq (oQ [oT 38 3 9,M 39 11,O 40 (.call (.f ycB) [t38,t39]),M 37 40,O 41 (.ext t37 0),O 42 (.ext t37 1),O 12 (.allocL (.agg [(.int .i64 (0)),(.int .i64 (0))])),⟨none,(.store 2 t12 t41),none⟩,M 13 42] [11,37,38,39,40,41,42]) (.seq (.seq (oQ [M 43 13,O 44 (.bin .neq t43 (I 0))] [43]) (.cond t44 (.seq (oQ [M 45 13,O 4 (.mv (.c .nils)),M 5 45] [3,7,8,9,12,13,23,24,25,31,32,33,44,45]) .ret) .skip)) (.ops [M 46 7,M 47 8,M 48 7,M 49 8,O 50 (.iad 1 t48 t49),oF 51 1 50,oT 52 2 12,O 53 (.buildD 2 (.agg [(.int .i64 (0)),(.int .i64 (0))]) 1 [(0,t52)]),O 54 (.app true 2 16 t51 t53),O 55 (.iad 1 t46 t47),⟨none,(.store 1 t55 t54),none⟩] [] [(0,1),(0,2),(1,2),(0,3),(1,3),(2,3),(0,4),(1,4),(0,5),(1,5),(0,6),(1,6),(2,6),(3,6),(4,6),(5,6),(0,7),(1,7),(2,7),(3,7),(4,7),(5,7),(0,8),(1,8)] [12,13,44,46,47,48,49,50,51,52,53,54,55]))))) (oQ [O 56 (.bin .add t33 (I 1)),M 33 56] [56]))))
def yqy:TCode:=(.seq (oQ [oX 26 .lss 25 24] []) (.seq (.cond t26 .skip (.exit 0)) (.seq (.block 1 (.seq (oQ [M 27 25,O 28 (.iad 3 t23 t25),oT 29 3 28,O 9 (.allocL (.agg [(.int .i64 (0)),.nils,.nils])),M 8 27,⟨none,(.store 3 t9 t29),none⟩] [26,27,28,29]) (.seq (oQ [O 30 (.fad 0 t3),oF 31 1 30,O 32 (.len t31),O 33 (.mv (I 0))] [30]) (.block 2 (.loop 14283600 ykK))))) (oQ [O 57 (.bin .add t25 (I 1)),M 25 57] [8,9,31,32,33,34,57]))))
def yuK:TFn:=⟨2,[.tmp 4,.tmp 5],(.seq (oQ [O 3 (.boxL t1),O 4 (.mv (.c .nils)),O 5 (.mv (I 0))] [1,4,5]) (.seq (.seq (oQ [M 14 0,oT 15 1 3,O 16 (.call (.f yeM) [t14,t15]),M 6 16] [14,15,16]) (.seq (oQ [M 17 6,O 18 (.bin .neq t17 (I 0))] [17]) (.cond t18 (.seq (oQ [M 19 6,O 4 (.mv (.c .nils)),M 5 19] [0,3,6,18,19]) .ret) .skip))) (.seq (oQ [M 20 0,O 21 (.len t20),O 22 (.mkSl false 1 24 .nils t21 t21),M 7 22] [6,18,20,21,22]) (.seq (.seq (oQ [M 23 0,O 24 (.len t23),O 25 (.mv (I 0))] [0]) (.block 0 (.loop 14283601 yqy))) (.seq (oQ [M 58 7,M 4 58,O 5 (.mv (I 0))] [3,7,23,24,25,26,58]) .ret)))))⟩
def yh3:TFn:=⟨2,[.tmp 4,.tmp 5],(.seq (oQ [O 3 (.boxL t1),O 4 (.mv (.c .nilp)),O 5 (.mv (I 0))] [1,4,5]) (.seq (oQ [M 9 0,oT 10 1 3,O 11 (.call (.f ybh) [t9,t10]),M 8 11,O 12 (.ext t8 0),O 13 (.ext t8 1),M 6 12,M 7 13] [8,9,10,11,12,13]) (.seq (.seq (oQ [M 14 7,O 15 (.bin .neq t14 (I 0))] [14]) (.cond t15 (.seq (oQ [M 16 7,O 4 (.mv (.c .nilp)),M 5 16] [0,3,6,7,15,16]) .ret) .skip)) (.seq (.ops [M 17 0,O 18 (.fad 0 t3),oF 19 1 18,M 20 6,O 21 (.build [.nils,.nils,.nils,.nils] [(0,1,t17),(1,1,t19),(2,1,t20)]),O 22 (.boxH false 4 t21),M 4 22,O 5 (.mv (I 0))] [⟨2,(.agg [.d]),0⟩] [] [0,3,6,7,15,17,18,19,20,21,22]) .ret))))⟩
end Go.Pf.Vc
namespace Go.Pf.Vc
open Go Go.Pf
def ye5:TCode:=(.seq (oQ [oX 14 .lss 13 12] []) (.seq (.cond t14 .skip (.exit 0)) (.seq (.block 1 (.seq (oQ [M 15 13,M 3 15] [14,15]) (.seq (.ops [M 17 0,O 18 (.nilchk t17),O 19 (.fad 0 t18),oF 20 1 19,M 21 3,O 22 (.iad 3 t20 t21),oT 23 3 22,O 24 (.call (.f ycF) [t23]),M 16 24,O 25 (.ext t16 0),O 26 (.ext t16 1),M 4 25,M 5 26] [⟨5,(.agg [.i .i64,.d,.d]),0⟩,⟨6,(.agg [.i .i64,.d,.d]),0⟩] [] [5,16,17,18,19,20,21,22,23,24,25,26]) (.seq (.ops [M 28 0,O 29 (.nilchk t28),O 30 (.fad 2 t29),oF 31 1 30,M 32 3,O 33 (.iad 1 t31 t32),oF 34 1 33,M 35 3,O 36 (.iad 2 t34 t35),oT 37 2 36,M 38 4,O 39 (.call (.f ybT) [t38]),O 40 (.call (.f yee) [t37,t39]),M 27 40,O 41 (.ext t27 0),O 42 (.ext t27 1),O 6 (.allocL (.agg [(.int .i64 (0)),(.int .i64 (0))])),⟨none,(.store 2 t6 t41),none⟩,M 7 42] [⟨5,(.one (.d)),0⟩,⟨6,(.one (.d)),0⟩,⟨8,(.agg [.i .i64,.i .i64]),0⟩,⟨9,(.agg [.i .i64,.i .i64]),0⟩] [(0,4),(1,4),(2,4),(3,4),(0,7),(1,7),(2,7),(3,7),(4,7),(5,7),(6,7),(0,10),(1,10),(2,10),(3,10),(4,10),(5,10),(6,10),(7,10),(8,10),(9,10),(0,11),(1,11),(2,11),(3,11),(4,11),(5,11),(6,11),(7,11),(8,11),(9,11),(14,15),(0,16),(1,16),(2,16),(3,16),(4,16),(5,16),(6,16),(7,16),(8,16),(9,16),(10,16),(11,16),(12,16),(13,16),(14,16),(15,16),(15,17)] [3,4,27,28,29,30,31,32,33,34,35,36,37,38,39,40,41,42]) (.seq (.seq (oQ [M 43 7,O 44 (.bin .neq t43 (I 0))] [43]) (.cond t44 (.seq (oQ [M 45 7,M 2 45] [0,6,7,12,13,44,45]) .ret) .skip)) (.ops [M 46 0,M 47 0,O 48 (.nilchk t47),O 49 (.fad 3 t48),oF 50 1 49,oT 51 2 6,O 52 (.buildD 2 (.agg [(.int .i64 (0)),(.int .i64 (0))]) 1 [(0,t51)]),O 53 (.app true 2 16 t50 t52),O 54 (.nilchk t46),O 55 (.fad 3 t54),⟨none,(.store 1 t55 t53),none⟩] [] [(0,1),(0,2),(0,3),(0,4),(0,5),(1,5),(2,5),(3,5),(4,5),(0,6),(1,6),(2,6),(3,6),(4,6),(0,7)] [6,7,44,46,47,48,49,50,51,52,53,54,55])))))) (oQ [O 56 (.bin .add t13 (I 1)),M 13 56] [56]))))
def yn2:TFn:=⟨1,[.tmp 2],(.seq (oQ [O 2 (.mv (I 0))] [2]) (.seq (.seq (oQ [M 8 0,O 9 (.nilchk t8),O 10 (.fad 0 t9),oF 11 1 10,O 12 (.len t11),O 13 (.mv (I 0))] [8,9,10,11]) (.block 0 (.loop 20643600 ye5))) (.seq (oQ [O 2 (.mv (I 0))] [0,12,13,14]) .ret)))⟩
def yoX:TFn:=⟨2,[.tmp 3],(.seq (oQ [O 2 (.boxL t0),O 3 (.mv (.c (.bool false)))] [0,3]) (.seq (.ops [O 4 (.fad 0 t1),oT 5 2 4,O 6 (.fad 2 t2),oT 7 2 6,O 8 (.call (.f ybx) [t5,t7]),M 9 8,⟨some 10,(.fad 0 t2),some (9,true)⟩,⟨some 11,(.load true 2 t10),some (9,true)⟩,⟨some 12,(.fad 2 t1),some (9,true)⟩,⟨some 13,(.load true 2 t12),some (9,true)⟩,⟨some 14,(.call (.f ybx) [t11,t13]),some (9,true)⟩,O 15 (.pick t9 t14 (.c (.bool false))),M 3 15] [⟨3,(.agg [.i .i64,.i .i64,.i .i64,.i .i64]),0⟩,⟨7,(.agg [.i .i64,.i .i64,.i .i64,.i .i64]),0⟩] [] [1,2,4,5,6,7,8,9,10,11,12,13,14,15]) .ret))⟩
def ygv:TCode:=(.seq (oQ [oX 9 .lss 8 7] []) (.seq (.cond t9 .skip (.exit 0)) (.seq (.block 1 (.seq (oQ [M 10 8,M 5 10] [9,10]) (.seq (.ops [M 11 1,M 12 0,M 13 5,O 14 (.iad 4 t12 t13),oT 15 4 14,O 16 (.call t11 [t15])] [⟨3,(.agg [.i .i64,.i .i64,.i .i64,.i .i64]),0⟩,⟨4,(.agg [.i .i64,.i .i64,.i .i64,.i .i64]),0⟩] [] [11,12,13,14,15]) (.cond t16 (.seq (oQ [M 17 5,M 4 17] [0,1,5,7,8,16,17]) .ret) .skip)))) (oQ [O 18 (.bin .add t8 (I 1)),M 8 18] [5,16,18]))))
def yfW:TFn:=⟨2,[.tmp 4],(.seq (oQ [O 4 (.mv (I 0))] [4]) (.seq (.seq (oQ [M 6 0,O 7 (.len t6),O 8 (.mv (I 0))] [6]) (.block 0 (.loop 68674300 ygv))) (.seq (oQ [O 4 (.mv (I (-1)))] [0,1,7,8,9]) .ret)))⟩
def ybZ:TFn:=⟨2,[.tmp 4],(.seq (oQ [O 4 (.mv (.c (.bool false)))] [4]) (.seq (oQ [M 5 0,M 6 1,O 7 (.call (.f ycs) [t5,t6]),O 8 (.bin .geq t7 (I 0)),M 4 8] [0,1,5,6,7,8]) .ret))⟩
def yz9:TFn:=⟨2,[.tmp 3],(.seq (oQ [O 2 (.boxH false 4 t0),O 3 (.mv (.c (.bool false)))] [0,3]) (.seq (oQ [oF 4 1 1,O 5 (.mkFn (.func ydv) [] [t2]),O 6 (.call (.f yaZ) [t4,t5]),M 3 6] [1,2,4,5,6]) .ret))⟩
def yC9:TFn:=⟨2,[.tmp 4],(.seq (oQ [O 3 (.boxH false 1 t1),O 4 (.mv (.c (.bool false)))] [1,4]) (.seq (oQ [M 5 0,O 6 (.mkFn (.func ycC) [] [t3]),O 7 (.call (.f yaZ) [t5,t6]),M 4 7] [0,3,5,6,7]) .ret))⟩
def yjI:TFn:=⟨3,[.tmp 5],(.seq (oQ [O 5 (.mv (.c (.bool false)))] [5]) (.seq (.ops [M 6 0,M 7 1,oX 8 .lss 6 7,M 9 8,⟨some 10,(.load false 1 t2),some (9,true)⟩,⟨some 11,(.nilchk t10),some (9,true)⟩,⟨some 12,(.fad 1 t11),some (9,true)⟩,⟨some 13,(.load false 1 t12),some (9,true)⟩,⟨some 14,(.mv t0),some (9,true)⟩,⟨some 15,(.iad 1 t13 t14),some (9,true)⟩,⟨some 16,(.load false 1 t15),some (9,true)⟩,⟨some 17,(.load false 1 t2),some (9,true)⟩,⟨some 18,(.nilchk t17),some (9,true)⟩,⟨some 19,(.fad 1 t18),some (9,true)⟩,⟨some 20,(.load false 1 t19),some (9,true)⟩,⟨some 21,(.mv t1),some (9,true)⟩,⟨some 22,(.iad 1 t20 t21),some (9,true)⟩,⟨some 23,(.load false 1 t22),some (9,true)⟩,⟨some 24,(.call (.f ygX) [t16,t23]),some (9,true)⟩,O 25 (.pick t9 t24 (.c (.bool false))),M 5 25] [⟨7,(.agg [.d,.d,.d,.d]),0⟩,⟨9,(.one (.d)),0⟩,⟨10,(.one (.d)),0⟩,⟨14,(.agg [.d,.d,.d,.d]),0⟩,⟨16,(.one (.d)),0⟩,⟨17,(.one (.d)),0⟩] [(0,1),(4,8),(5,8),(6,8),(7,8),(4,11),(5,11),(6,11),(7,11),(8,11),(9,11),(10,11),(4,12),(5,12),(6,12),(7,12),(8,12),(9,12),(10,12),(4,13),(5,13),(6,13),(7,13),(8,13),(9,13),(10,13),(4,14),(5,14),(6,14),(7,14),(8,14),(9,14),(10,14),(4,15),(5,15),(6,15),(7,15),(8,15),(9,15),(10,15),(11,15),(12,15),(13,15),(14,15),(4,16),(5,16),(6,16),(7,16),(8,16),(9,16),(10,16),(4,17),(5,17),(6,17),(7,17),(8,17),(9,17),(10,17)] [0,1,2,6,7,8,9,10,11,12,13,14,15,16,17,18,19,20,21,22,23,24,25]) .ret))⟩
def yfH:TCode:=(.seq (oQ [oX 23 .lss 22 21] []) (.seq (.cond t23 .skip (.exit 2)) (.seq (.block 3 (.seq (oQ [M 24 22,M 8 24] [23,24]) (.seq (oQ [M 25 1,M 26 7,M 27 8,O 28 (.call t25 [t26,t27])] [25,26,27]) (.cond t28 (.seq (oQ [M 29 7,M 30 8,M 4 29,M 5 30,O 6 (.mv (.c (.bool true)))] [0,1,7,8,13,14,21,22,28,29,30]) .ret) .skip)))) (oQ [O 31 (.bin .add t22 (I 1)),M 22 31] [8,28,31]))))
def ygw:TCode:=(.seq (oQ [oX 15 .lss 14 13] []) (.seq (.cond t15 .skip (.exit 0)) (.seq (.block 1 (.seq (oQ [M 16 14,M 7 16] [15,16]) (.seq (oQ [M 17 0,O 18 (.nilchk t17),O 19 (.fad 0 t18),oF 20 1 19,O 21 (.len t20),O 22 (.mv (I 0))] [17,18,19,20]) (.block 2 (.loop 97930200 yfH))))) (oQ [O 32 (.bin .add t14 (I 1)),M 14 32] [7,21,22,23,32]))))
def ytW:TFn:=⟨2,[.tmp 4,.tmp 5,.tmp 6],(.seq (oQ [O 4 (.mv (I 0)),O 5 (.mv (I 0)),O 6 (.mv (.c (.bool false)))] [4,5,6]) (.seq (.seq (oQ [M 9 0,O 10 (.nilchk t9),O 11 (.fad 0 t10),oF 12 1 11,O 13 (.len t12),O 14 (.mv (I 0))] [9,10,11,12]) (.block 0 (.loop 97930201 ygw))) (.seq (oQ [O 4 (.mv (I 0)),O 5 (.mv (I 0)),O 6 (.mv (.c (.bool false)))] [0,1,13,14,15]) .ret)))⟩
def yhC:TFn:=⟨2,[.tmp 4],(.seq (oQ [O 4 (.mv (.c .nils))] [4]) (.seq (.seq (oQ [M 5 1,O 6 (.bin .lss t5 (I 0))] [5]) (.cond t6 (oQ [⟨some 7,.bad,none⟩,⟨none,.bad,none⟩] [6,7]) .skip)) (.seq (.seq (oQ [M 8 1,M 9 0,O 10 (.cap t9),M 11 0,O 12 (.len t11),oX 13 .sub 10 12,oX 14 .sub 8 13,M 1 14] [6,8,9,10,11,12,13,14]) (.seq (oQ [M 15 1,O 16 (.bin .gtr t15 (I 0))] [15]) (.cond t16 (oQ [M 17 0,M 18 0,O 19 (.cap t18),O 20 (.slc 4 t17 none (some t19) none),M 21 1,O 22 (.appZ true 4 32 (.agg [(.int .i64 (0)),(.int .i64 (0)),(.int .i64 (0)),(.int .i64 (0))]) t20 t21),M 23 0,O 24 (.len t23),O 25 (.slc 4 t22 none (some t24) none),M 0 25] [1,16,17,18,19,20,21,22,23,24,25]) .skip))) (.seq (oQ [M 26 0,M 4 26] [0,1,16,26]) .ret))))⟩
def yn3:TCode:=(.seq (oQ [oX 12 .lss 11 10] []) (.seq (.cond t12 .skip (.exit 0)) (.seq (.block 1 (.seq (.ops [O 13 (.iad 1 t9 t11),oF 14 1 13,M 5 14] [⟨0,(.one (.d)),0⟩,⟨1,(.one (.d)),0⟩] [] [12,13,14]) (.seq (oQ [M 15 3,M 16 5,O 17 (.len t16),oX 18 .add 15 17,M 3 18] [5,15,16,17,18]) (.seq (oQ [M 19 3,O 20 (.bin .lss t19 (I 0))] [19]) (.cond t20 (oQ [⟨some 21,.bad,none⟩,⟨none,.bad,none⟩] [20,21]) .skip))))) (oQ [O 22 (.bin .add t11 (I 1)),M 11 22] [20,22]))))
def ykL:TCode:=(.seq (oQ [oX 28 .lss 27 26] []) (.seq (.cond t28 .skip (.exit 2)) (.seq (.block 3 (.seq (.ops [O 29 (.iad 1 t25 t27),oF 30 1 29,M 8 30] [⟨0,(.one (.d)),0⟩,⟨1,(.one (.d)),0⟩] [] [28,29,30]) (.ops [M 31 6,M 32 8,O 33 (.app true 4 32 t31 t32),M 6 33] [⟨2,.raw,1⟩] [] [8,31,32,33]))) (oQ [O 34 (.bin .add t27 (I 1)),M 27 34] [34]))))
def yml:TFn:=⟨1,[.tmp 2],(.seq (oQ [O 2 (.mv (.c .nils))] [2]) (.seq (oQ [O 3 (.mv (I 0))] []) (.seq (.seq (oQ [M 9 0,O 10 (.len t9),O 11 (.mv (I 0))] []) (.block 0 (.loop 14451100 yn3))) (.seq (oQ [M 23 3,O 24 (.call (.f ydw) [(.c .nils),t23]),M 6 24] [3,9,10,11,12,23,24]) (.seq (.seq (oQ [M 25 0,O 26 (.len t25),O 27 (.mv (I 0))] [0]) (.block 2 (.loop 14451101 ykL))) (.seq (oQ [M 35 6,M 2 35] [6,25,26,27,28,35]) .ret))))))⟩
def yPJ:TFn:=⟨1,[.tmp 2],(.seq (oQ [O 2 (.mv (I 0))] []) (.seq (.seq (oQ [M 3 0,O 4 (.bin .geq t3 (.c (.int .u32 (65536))))] [3]) (.cond t4 (.seq (oQ [M 5 0,O 6 (.bin .shr t5 (.c (.int .u64 (16)))),M 0 6] [2,4,5,6]) (oQ [O 2 (.mv (I 16))] [])) .skip)) (.seq (.seq (oQ [M 7 0,O 8 (.bin .geq t7 (.c (.int .u32 (256))))] [4,7]) (.cond t8 (.seq (oQ [M 9 0,O 10 (.bin .shr t9 (.c (.int .u64 (8)))),M 0 10] [8,9,10]) (oQ [M 11 2,O 12 (.bin .add t11 (I 8)),M 2 12] [11,12])) .skip)) (.seq (oQ [M 13 2,M 14 0,O 15 (.conv .u8 t14),O 16 (.idx false 256 1 (.c (.agg [(.int .u8 (0)),(.int .u8 (1)),(.int .u8 (2)),(.int .u8 (2)),(.int .u8 (3)),(.int .u8 (3)),(.int .u8 (3)),(.int .u8 (3)),(.int .u8 (4)),(.int .u8 (4)),(.int .u8 (4)),(.int .u8 (4)),(.int .u8 (4)),(.int .u8 (4)),(.int .u8 (4)),(.int .u8 (4)),(.int .u8 (5)),(.int .u8 (5)),(.int .u8 (5)),(.int .u8 (5)),(.int .u8 (5)),(.int .u8 (5)),(.int .u8 (5)),(.int .u8 (5)),(.int .u8 (5)),(.int .u8 (5)),(.int .u8 (5)),(.int .u8 (5)),(.int .u8 (5)),(.int .u8 (5)),(.int .u8 (5)),(.int .u8 (5)),(.int .u8 (6)),(.int .u8 (6)),(.int .u8 (6)),(.int .u8 (6)),(.int .u8 (6)),(.int .u8 (6)),(.int .u8 (6)),(.int .u8 (6)),(.int .u8 (6)),(.int .u8 (6)),(.int .u8 (6)),(.int .u8 (6)),(.int .u8 (6)),(.int .u8 (6)),(.int .u8 (6)),(.int .u8 (6)),(.int .u8 (6)),(.int .u8 (6)),(.int .u8 (6)),(.int .u8 (6)),(.int .u8 (6)),(.int .u8 (6)),(.int .u8 (6)),(.int .u8 (6)),(.int .u8 (6)),(.int .u8 (6)),(.int .u8 (6)),(.int .u8 (6)),(.int .u8 (6)),(.int .u8 (6)),(.int .u8 (6)),(.int .u8 (6)),(.int .u8 (7)),(.int .u8 (7)),(.int .u8 (7)),(.int .u8 (7)),(.int .u8 (7)),(.int .u8 (7)),(.int .u8 (7)),(.int .u8 (7)),(.int .u8 (7)),(.int .u8 (7)),(.int .u8 (7)),(.int .u8 (7)),(.int .u8 (7)),(.int .u8 (7)),(.int .u8 (7)),(.int .u8 (7)),(.int .u8 (7)),(.int .u8 (7)),(.int .u8 (7)),(.int .u8 (7)),(.int .u8 (7)),(.int .u8 (7)),(.int .u8 (7)),(.int .u8 (7)),(.int .u8 (7)),(.int .u8 (7)),(.int .u8 (7)),(.int .u8 (7)),(.int .u8 (7)),(.int .u8 (7)),(.int .u8 (7)),(.int .u8 (7)),(.int .u8 (7)),(.int .u8 (7)),(.int .u8 (7)),(.int .u8 (7)),(.int .u8 (7)),(.int .u8 (7)),(.int .u8 (7)),(.int .u8 (7)),(.int .u8 (7)),(.int .u8 (7)),(.int .u8 (7)),(.int .u8 (7)),(.int .u8 (7)),(.int .u8 (7)),(.int .u8 (7)),(.int .u8 (7)),(.int .u8 (7)),(.int .u8 (7)),(.int .u8 (7)),(.int .u8 (7)),(.int .u8 (7)),(.int .u8 (7)),(.int .u8 (7)),(.int .u8 (7)),(.int .u8 (7)),(.int .u8 (7)),(.int .u8 (7)),(.int .u8 (7)),(.int .u8 (7)),(.int .u8 (7)),(.int .u8 (7)),(.int .u8 (7)),(.int .u8 (8)),(.int .u8 (8)),(.int .u8 (8)),(.int .u8 (8)),(.int .u8 (8)),(.int .u8 (8)),(.int .u8 (8)),(.int .u8 (8)),(.int .u8 (8)),(.int .u8 (8)),(.int .u8 (8)),(.int .u8 (8)),(.int .u8 (8)),(.int .u8 (8)),(.int .u8 (8)),(.int .u8 (8)),(.int .u8 (8)),(.int .u8 (8)),(.int .u8 (8)),(.int .u8 (8)),(.int .u8 (8)),(.int .u8 (8)),(.int .u8 (8)),(.int .u8 (8)),(.int .u8 (8)),(.int .u8 (8)),(.int .u8 (8)),(.int .u8 (8)),(.int .u8 (8)),(.int .u8 (8)),(.int .u8 (8)),(.int .u8 (8)),(.int .u8 (8)),(.int .u8 (8)),(.int .u8 (8)),(.int .u8 (8)),(.int .u8 (8)),(.int .u8 (8)),(.int .u8 (8)),(.int .u8 (8)),(.int .u8 (8)),(.int .u8 (8)),(.int .u8 (8)),(.int .u8 (8)),(.int .u8 (8)),(.int .u8 (8)),(.int .u8 (8)),(.int .u8 (8)),(.int .u8 (8)),(.int .u8 (8)),(.int .u8 (8)),(.int .u8 (8)),(.int .u8 (8)),(.int .u8 (8)),(.int .u8 (8)),(.int .u8 (8)),(.int .u8 (8)),(.int .u8 (8)),(.int .u8 (8)),(.int .u8 (8)),(.int .u8 (8)),(.int .u8 (8)),(.int .u8 (8)),(.int .u8 (8)),(.int .u8 (8)),(.int .u8 (8)),(.int .u8 (8)),(.int .u8 (8)),(.int .u8 (8)),(.int .u8 (8)),(.int .u8 (8)),(.int .u8 (8)),(.int .u8 (8)),(.int .u8 (8)),(.int .u8 (8)),(.int .u8 (8)),(.int .u8 (8)),(.int .u8 (8)),(.int .u8 (8)),(.int .u8 (8)),(.int .u8 (8)),(.int .u8 (8)),(.int .u8 (8)),(.int .u8 (8)),(.int .u8 (8)),(.int .u8 (8)),(.int .u8 (8)),(.int .u8 (8)),(.int .u8 (8)),(.int .u8 (8)),(.int .u8 (8)),(.int .u8 (8)),(.int .u8 (8)),(.int .u8 (8)),(.int .u8 (8)),(.int .u8 (8)),(.int .u8 (8)),(.int .u8 (8)),(.int .u8 (8)),(.int .u8 (8)),(.int .u8 (8)),(.int .u8 (8)),(.int .u8 (8)),(.int .u8 (8)),(.int .u8 (8)),(.int .u8 (8)),(.int .u8 (8)),(.int .u8 (8)),(.int .u8 (8)),(.int .u8 (8)),(.int .u8 (8)),(.int .u8 (8)),(.int .u8 (8)),(.int .u8 (8)),(.int .u8 (8)),(.int .u8 (8)),(.int .u8 (8)),(.int .u8 (8)),(.int .u8 (8)),(.int .u8 (8)),(.int .u8 (8)),(.int .u8 (8)),(.int .u8 (8)),(.int .u8 (8)),(.int .u8 (8)),(.int .u8 (8)),(.int .u8 (8)),(.int .u8 (8))])) t15),O 17 (.conv .i64 t16),oX 18 .add 13 17,M 2 18] [0,8,13,14,15,16,17,18]) .ret))))⟩
def yPM:TFn:=⟨1,[.tmp 2],(.seq (oQ [O 2 (.mv (I 0))] [2]) (.seq (.cond (.c (.bool false)) (.seq (oQ [M 3 0,O 4 (.conv .u32 t3),O 5 (.call (.f yyy) [t4]),M 2 5] [0,3,4,5]) .ret) .skip) (.seq (oQ [M 6 0,O 7 (.call (.f ynp) [t6]),M 2 7] [0,6,7]) .ret)))⟩
def yI9:TCode:=(.seq (.seq (.ops [M 18 9,M 19 1,oX 20 .gtr 18 19,M 21 20,⟨some 22,(.mv t3),some (21,true)⟩,⟨some 23,(.mv t0),some (21,true)⟩,⟨some 24,(.mv t9),some (21,true)⟩,⟨some 25,(.iad 4 t23 t24),some (21,true)⟩,⟨some 26,(.load true 4 t25),some (21,true)⟩,⟨some 27,(.mv t0),some (21,true)⟩,⟨some 28,(.mv t9),some (21,true)⟩,⟨some 29,(.bin .sub t28 (I 1)),some (21,true)⟩,⟨some 30,(.iad 4 t27 t29),some (21,true)⟩,⟨some 31,(.load true 4 t30),some (21,true)⟩,⟨some 32,(.call t22 [t26,t31]),some (21,true)⟩,⟨some 33,(.bin .lss t32 (I 0)),some (21,true)⟩,O 34 (.pick t21 t33 (.c (.bool false)))] [⟨7,(.agg [.i .i64,.i .i64,.i .i64,.i .i64]),0⟩,⟨8,(.agg [.i .i64,.i .i64,.i .i64,.i .i64]),0⟩,⟨12,(.agg [.i .i64,.i .i64,.i .i64,.i .i64]),0⟩,⟨13,(.agg [.i .i64,.i .i64,.i .i64,.i .i64]),0⟩] [(0,1),(4,5),(4,6),(5,6),(4,7),(4,8),(4,9),(5,9),(6,9),(7,9),(8,9),(4,10),(5,10),(6,10),(7,10),(8,10),(9,10),(4,11),(5,11),(6,11),(7,11),(8,11),(9,11),(4,12),(5,12),(6,12),(7,12),(8,12),(4,13),(5,13),(6,13),(7,13),(8,13)] [18,19,20,21,22,23,24,25,26,27,28,29,30,31,32,33]) (.cond t34 .skip (.exit 2))) (.seq (.block 3 (.ops [M 37 0,M 38 9,M 39 0,M 40 9,O 41 (.bin .sub t40 (I 1)),M 42 0,M 43 9,O 44 (.bin .sub t43 (I 1)),O 45 (.iad 4 t42 t44),oT 46 4 45,M 47 0,M 48 9,O 49 (.iad 4 t47 t48),oT 50 4 49,O 51 (.iad 4 t37 t38),⟨none,(.store 4 t51 t46),none⟩,O 52 (.iad 4 t39 t41),⟨none,(.store 4 t52 t50),none⟩] [⟨8,(.agg [.i .i64,.i .i64,.i .i64,.i .i64]),0⟩,⟨9,(.agg [.i .i64,.i .i64,.i .i64,.i .i64]),0⟩,⟨12,(.agg [.i .i64,.i .i64,.i .i64,.i .i64]),0⟩,⟨13,(.agg [.i .i64,.i .i64,.i .i64,.i .i64]),0⟩,⟨14,(.agg [.i .i64,.i .i64,.i .i64,.i .i64]),0⟩,⟨15,(.agg [.i .i64,.i .i64,.i .i64,.i .i64]),0⟩,⟨16,(.agg [.i .i64,.i .i64,.i .i64,.i .i64]),0⟩,⟨17,(.agg [.i .i64,.i .i64,.i .i64,.i .i64]),0⟩] [(0,1),(0,2),(1,2),(0,3),(1,3),(2,3),(0,4),(1,4),(2,4),(0,5),(1,5),(2,5),(3,5),(4,5),(0,6),(1,6),(2,6),(3,6),(4,6),(5,6),(0,7),(1,7),(2,7),(3,7),(4,7),(5,7),(0,8),(1,8),(2,8),(3,8),(4,8),(0,9),(1,9),(2,9),(3,9),(4,9),(0,10),(1,10),(2,10),(3,10),(4,10),(5,10),(6,10),(7,10),(8,10),(9,10),(0,11),(1,11),(2,11),(3,11),(4,11),(5,11),(6,11),(7,11),(8,11),(9,11),(10,11),(0,12),(1,12),(2,12),(3,12),(4,12),(5,12),(6,12),(7,12),(8,12),(9,12),(0,13),(1,13),(2,13),(3,13),(4,13),(5,13),(6,13),(7,13),(8,13),(9,13),(2,14),(3,14),(4,14),(2,15),(3,15),(4,15)] [34,37,38,39,40,41,42,43,44,45,46,47,48,49,50,51,52])) (oQ [M 35 9,O 36 (.bin .sub t35 (I 1)),M 9 36] [35,36])))
def yJa:TCode:=(.seq (.seq (oQ [M 12 8,M 13 2,oX 14 .lss 12 13] [12,13]) (.cond t14 .skip (.exit 0))) (.seq (.block 1 (.seq (oQ [M 17 8,M 9 17] [14,17]) (.block 2 (.loop 53122800 yI9)))) (oQ [M 15 8,O 16 (.bin .add t15 (I 1)),M 8 16] [9,15,16,34])))
def ysk:TFn:=⟨4,[],(.seq (oQ [M 10 1,O 11 (.bin .add t10 (I 1)),M 8 11] [10,11]) (.block 0 (.loop 53122801 yJa)))⟩
def t96:Opd:=.t 96
def t135:Opd:=.t 135
def t141:Opd:=.t 141
def t142:Opd:=.t 142
def t144:Opd:=.t 144
def yJb:TCode:=(.block 1 (.seq (oQ [M 21 2,M 22 1,oX 23 .sub 21 22,M 12 23] [21,22,23]) (.seq (.seq (oQ [M 24 12,O 25 (.bin .leq t24 (I 12))] [24]) (.cond t25 (.seq (oQ [M 26 0,M 27 1,M 28 2,M 29 4,O 30 (.call (.f yef) [t26,t27,t28,t29])] [0,1,2,3,4,10,11,12,25,26,27,28,29,30]) .ret) .skip)) (.seq (.seq (oQ [M 31 3,O 32 (.bin .eql t31 (I 0))] [25,31]) (.cond t32 (.seq (oQ [M 33 0,M 34 1,M 35 2,M 36 4,O 37 (.call (.f 110) [t33,t34,t35,t36])] [0,1,2,3,4,10,11,12,32,33,34,35,36,37]) .ret) .skip)) (.seq (.seq (oQ [M 38 10,O 39 (.un .not t38)] [32,38]) (.cond t39 (.seq (oQ [M 40 0,M 41 1,M 42 2,M 43 4,O 44 (.call (.f 111) [t40,t41,t42,t43])] [39,40,41,42,43,44]) (oQ [M 45 3,O 46 (.bin .sub t45 (I 1)),M 3 46] [45,46])) .skip)) (.seq (oQ [M 48 0,M 49 1,M 50 2,M 51 4,O 52 (.call (.f 112) [t48,t49,t50,t51]),M 47 52,O 53 (.ext t47 0),O 54 (.ext t47 1),M 13 53,M 14 54] [39,47,48,49,50,51,52,53,54]) (.seq (.seq (oQ [M 55 14,O 56 (.bin .eql t55 (I 2))] [55]) (.cond t56 (.seq (oQ [M 57 0,M 58 1,M 59 2,M 60 4,O 61 (.call (.f 113) [t57,t58,t59,t60])] [14,56,57,58,59,60,61]) (.seq (oQ [M 62 2,O 63 (.bin .sub t62 (I 1)),M 64 13,M 65 1,oX 66 .sub 64 65,oX 67 .sub 63 66,M 13 67] [62,63,64,65,66,67]) (oQ [O 14 (.mv (I 1))] []))) .skip)) (.seq (.seq (oQ [M 68 10,M 69 68,⟨some 70,(.mv t11),some (69,true)⟩,O 71 (.pick t69 t70 (.c (.bool false))),M 72 71,⟨some 73,(.mv t14),some (72,true)⟩,⟨some 74,(.bin .eql t73 (I 1)),some (72,true)⟩,O 75 (.pick t72 t74 (.c (.bool false)))] [14,56,68,69,70,71,72,73,74]) (.cond t75 (.seq (oQ [M 76 0,M 77 1,M 78 2,M 79 4,O 80 (.call (.f 114) [t76,t77,t78,t79])] [75,76,77,78,79]) (.cond t80 .ret .skip)) .skip)) (.seq (.seq (.ops [M 81 1,O 82 (.bin .gtr t81 (I 0)),M 83 82,⟨some 84,(.mv t4),some (83,true)⟩,⟨some 85,(.mv t0),some (83,true)⟩,⟨some 86,(.mv t1),some (83,true)⟩,⟨some 87,(.bin .sub t86 (I 1)),some (83,true)⟩,⟨some 88,(.iad 4 t85 t87),some (83,true)⟩,⟨some 89,(.load true 4 t88),some (83,true)⟩,⟨some 90,(.mv t0),some (83,true)⟩,⟨some 91,(.mv t13),some (83,true)⟩,⟨some 92,(.iad 4 t90 t91),some (83,true)⟩,⟨some 93,(.load true 4 t92),some (83,true)⟩,⟨some 94,(.call t84 [t89,t93]),some (83,true)⟩,⟨some 95,(.bin .lss t94 (I 0)),some (83,true)⟩,⟨some 96,(.un .not t95),some (83,true)⟩,O 97 (.pick t83 t96 (.c (.bool false)))] [⟨7,(.agg [.i .i64,.i .i64,.i .i64,.i .i64]),0⟩,⟨8,(.agg [.i .i64,.i .i64,.i .i64,.i .i64]),0⟩,⟨11,(.agg [.i .i64,.i .i64,.i .i64,.i .i64]),0⟩,⟨12,(.agg [.i .i64,.i .i64,.i .i64,.i .i64]),0⟩] [(3,4),(3,5),(4,5),(3,6),(4,6),(3,7),(3,8),(3,9),(4,9),(5,9),(6,9),(7,9),(8,9),(3,10),(4,10),(5,10),(6,10),(7,10),(8,10),(9,10),(3,11),(4,11),(5,11),(6,11),(7,11),(8,11),(3,12),(4,12),(5,12),(6,12),(7,12),(8,12)] [75,80,81,82,83,84,85,86,87,88,89,90,91,92,93,94,95,96]) (.cond t97 (.seq (oQ [M 98 0,M 99 1,M 100 2,M 101 13,M 102 4,O 103 (.call (.f 115) [t98,t99,t100,t101,t102]),M 15 103] [1,12,13,97,98,99,100,101,102,103]) (.seq (oQ [M 104 15,M 1 104] [15,104]) (.exit 1))) .skip)) (.seq (oQ [M 106 0,M 107 1,M 108 2,M 109 13,M 110 4,O 111 (.call (.f 116) [t106,t107,t108,t109,t110]),M 105 111,O 112 (.ext t105 0),O 113 (.ext t105 1),M 16 112,M 17 113] [10,11,13,97,105,106,107,108,109,110,111,112,113]) (.seq (oQ [M 114 17,M 11 114] [17,114]) (.seq (oQ [M 115 16,M 116 1,oX 117 .sub 115 116,M 118 2,M 119 16,oX 120 .sub 118 119,M 18 117,M 19 120] [115,116,117,118,119,120]) (.seq (oQ [M 121 12,O 122 (.bin .quo t121 (I 8)),M 20 122] [12,121,122]) (.seq (oQ [M 123 18,M 124 19,oX 125 .lss 123 124] [123,124]) (.cond t125 (.seq (oQ [M 126 18,M 127 20,oX 128 .geq 126 127,M 10 128] [18,19,20,125,126,127,128]) (.seq (oQ [M 129 0,M 130 1,M 131 16,M 132 3,M 133 4,O 134 (.call (.f yco) [t129,t130,t131,t132,t133])] [1,129,130,131,132,133,134]) (oQ [M 135 16,O 136 (.bin .add t135 (I 1)),M 1 136] [16,135,136]))) (.seq (oQ [M 137 19,M 138 20,oX 139 .geq 137 138,M 10 139] [18,19,20,125,137,138,139]) (.seq (oQ [M 140 0,M 141 16,O 142 (.bin .add t141 (I 1)),M 143 2,M 144 3,M 145 4,O 146 (.call (.f yco) [t140,t142,t143,t144,t145])] [2,140,141,142,143,144,145,146]) (oQ [M 147 16,M 2 147] [16,147]))))))))))))))))))
def ywR:TFn:=⟨5,[],(.seq (oQ [O 10 (.mv (.c (.bool true)))] []) (.seq (oQ [O 11 (.mv (.c (.bool true)))] []) (.block 0 (.loop 92709400 yJb))))⟩
def yyB:TFn:=⟨2,[],(.seq (oQ [M 5 0,O 6 (.len t5),M 4 6] [5,6]) (oQ [M 7 0,M 8 4,M 9 4,O 10 (.conv .u64 t9),O 11 (.call (.f yFd) [t10]),M 12 1,O 13 (.call (.f yco) [t7,(I 0),t8,t11,t12])] [0,1,4,7,8,9,10,11,12,13]))⟩
def ytX:TFn:=⟨2,[.tmp 4],(.seq (oQ [O 2 (.boxL t0),O 3 (.boxL t1),O 4 (.mv (I 0))] [0,1,4]) (.seq (.ops [O 8 (.fad 0 t2),oT 9 2 8,O 10 (.fad 0 t3),oT 11 2 10,O 12 (.call (.f ycv) [t9,t11]),M 7 12,O 13 (.ext t7 0),O 14 (.ext t7 1),M 5 13,M 6 14] [⟨1,(.agg [.i .i64,.i .i64,.i .i64,.i .i64]),0⟩,⟨3,(.agg [.i .i64,.i .i64,.i .i64,.i .i64]),0⟩] [] [2,3,6,7,8,9,10,11,12,13,14]) (.seq (oQ [M 15 5,M 4 15] [5,15]) .ret)))⟩
def ykM:TCode:=(.seq (oQ [oX 18 .lss 17 16] []) (.seq (.cond t18 .skip (.exit 0)) (.seq (.block 1 (.seq (.ops [O 19 (.iad 4 t15 t17),oT 20 4 19,O 6 (.allocL (.agg [(.int .i64 (0)),(.int .i64 (0)),(.int .i64 (0)),(.int .i64 (0))])),⟨none,(.store 4 t6 t20),none⟩] [⟨0,(.agg [.i .i64,.i .i64,.i .i64,.i .i64]),0⟩,⟨1,(.agg [.i .i64,.i .i64,.i .i64,.i .i64]),0⟩] [] [18,19,20]) (.seq (.seq (.ops [oT 21 2 4,O 22 (.fad 0 t6),oT 23 2 22,O 24 (.call (.f ybx) [t21,t23])] [⟨2,(.agg [.i .i64,.i .i64,.i .i64,.i .i64]),0⟩] [] [21,22,23]) (.cond t24 (.seq (oQ [O 2 (.mv (.c (.bool true)))] [0,4,6,15,16,17,24]) .ret) .skip)) (.seq (.ops [oT 25 2 4,O 26 (.fad 2 t6),oT 27 2 26,O 28 (.call (.f ybx) [t25,t27])] [⟨2,(.agg [.i .i64,.i .i64,.i .i64,.i .i64]),0⟩] [] [24,25,26,27]) (.cond t28 (.ops [O 29 (.fad 2 t6),oT 30 2 29,⟨none,(.store 2 t4 t30),none⟩] [⟨1,(.agg [.i .i64,.i .i64,.i .i64,.i .i64]),0⟩] [] [6,28,29,30]) .skip))))) (oQ [O 31 (.bin .add t17 (I 1)),M 17 31] [6,28,31]))))
def ywS:TFn:=⟨1,[.tmp 2],(.seq (oQ [O 2 (.mv (.c (.bool false)))] [2]) (.seq (oQ [M 7 0,O 8 (.nilchk t7),O 9 (.fad 1 t8),oF 10 1 9,O 11 (.call (.f yev) [t10]),M 3 11] [7,8,9,10,11]) (.seq (oQ [M 12 3,O 13 (.call (.f ybt) [t12,(.f ycO)])] [12,13]) (.seq (oQ [O 14 (.call (.f ybT) [(I 0)]),O 4 (.allocL (.agg [(.int .i64 (0)),(.int .i64 (0))])),⟨none,(.store 2 t4 t14),none⟩] [14]) (.seq (.seq (oQ [M 15 3,O 16 (.len t15),O 17 (.mv (I 0))] [3]) (.block 0 (.loop 93107500 ykM))) (.seq (.ops [oT 32 2 4,M 33 0,O 34 (.nilchk t33),O 35 (.fad 0 t34),oF 36 1 35,O 37 (.iad 3 t36 (I 0)),O 38 (.fad 0 t37),oF 39 1 38,O 40 (.call (.f ybT) [t39]),O 41 (.call (.f ybx) [t32,t40]),M 2 41] [⟨5,(.agg [.i .i64,.d,.d]),0⟩,⟨7,(.agg [.i .i64,.d,.d]),0⟩] [(0,1),(0,2),(0,3),(0,4),(0,5),(0,6),(0,7),(0,8)] [0,4,15,16,17,18,32,33,34,35,36,37,38,39,40,41]) .ret))))))⟩
def yjJ:TFn:=⟨3,[.tmp 5],(.seq (oQ [O 5 (.mv (.c (.bool false)))] [5]) (.seq (.ops [oF 11 1 2,O 12 (.nilchk t11),O 13 (.fad 0 t12),oF 14 1 13,M 15 0,O 16 (.iad 3 t14 t15),oT 17 3 16,O 18 (.call (.f ycF) [t17]),M 10 18,O 19 (.ext t10 0),O 20 (.ext t10 1),M 6 19,M 7 20] [⟨3,(.agg [.d,.d,.d,.d]),0⟩,⟨5,(.agg [.i .i64,.d,.d]),0⟩,⟨6,(.agg [.i .i64,.d,.d]),0⟩] [] [7,10,11,12,13,14,15,16,17,18,19,20]) (.seq (.ops [M 22 6,oF 23 1 2,O 24 (.nilchk t23),O 25 (.fad 0 t24),oF 26 1 25,O 27 (.len t26),O 28 (.call (.f yfr) [t22,t27]),M 21 28,O 29 (.ext t21 0),O 30 (.ext t21 1),O 8 (.allocL (.agg [(.int .i64 (0)),(.int .i64 (0))])),⟨none,(.store 2 t8 t29),none⟩,M 9 30] [⟨4,(.agg [.d,.d,.d,.d]),0⟩] [] [6,9,21,22,23,24,25,26,27,28,29,30]) (.seq (.ops [M 31 0,M 32 1,oX 33 .eql 31 32,M 34 33,⟨some 35,(.load false 1 t2),some (34,true)⟩,⟨some 36,(.nilchk t35),some (34,true)⟩,⟨some 37,(.fad 2 t36),some (34,true)⟩,⟨some 38,(.load false 1 t37),some (34,true)⟩,⟨some 39,(.mv t0),some (34,true)⟩,⟨some 40,(.iad 1 t38 t39),some (34,true)⟩,⟨some 41,(.load false 1 t40),some (34,true)⟩,⟨some 42,(.mv t0),some (34,true)⟩,⟨some 43,(.iad 2 t41 t42),some (34,true)⟩,⟨some 44,(.load true 2 t43),some (34,true)⟩,⟨some 45,(.load true 2 t8),some (34,true)⟩,⟨some 46,(.call (.f ybx) [t44,t45]),some (34,true)⟩,O 47 (.pick t34 t46 (.c (.bool false))),M 5 47] [⟨7,(.agg [.d,.d,.d,.d]),0⟩,⟨9,(.one (.d)),0⟩,⟨10,(.one (.d)),0⟩,⟨12,(.agg [.i .i64,.i .i64]),0⟩,⟨13,(.agg [.i .i64,.i .i64]),0⟩] [(0,1),(4,8),(5,8),(6,8),(7,8),(4,11),(5,11),(6,11),(7,11),(8,11),(9,11),(10,11),(4,14),(5,14),(6,14),(7,14),(8,14),(9,14),(10,14),(11,14),(12,14),(13,14)] [0,1,2,8,31,32,33,34,35,36,37,38,39,40,41,42,43,44,45,46,47]) .ret))))⟩
def yjK:TFn:=⟨3,[.tmp 5],(.seq (oQ [O 5 (.mv (.c (.bool false)))] [5]) (.seq (.ops [oF 6 1 2,O 7 (.nilchk t6),O 8 (.fad 2 t7),oF 9 1 8,M 10 0,O 11 (.iad 1 t9 t10),oF 12 1 11,M 13 0,O 14 (.iad 2 t12 t13),oT 15 2 14,oF 16 1 2,O 17 (.nilchk t16),O 18 (.fad 2 t17),oF 19 1 18,M 20 0,O 21 (.iad 1 t19 t20),oF 22 1 21,M 23 1,O 24 (.iad 2 t22 t23),oT 25 2 24,O 26 (.call (.f ybx) [t15,t25]),M 5 26] [⟨3,(.agg [.d,.d,.d,.d]),0⟩,⟨5,(.one (.d)),0⟩,⟨6,(.one (.d)),0⟩,⟨8,(.agg [.i .i64,.i .i64]),0⟩,⟨9,(.agg [.i .i64,.i .i64]),0⟩,⟨13,(.agg [.d,.d,.d,.d]),0⟩,⟨15,(.one (.d)),0⟩,⟨16,(.one (.d)),0⟩,⟨18,(.agg [.i .i64,.i .i64]),0⟩,⟨19,(.agg [.i .i64,.i .i64]),0⟩] [(0,4),(1,4),(2,4),(3,4),(0,7),(1,7),(2,7),(3,7),(4,7),(5,7),(6,7),(0,10),(1,10),(2,10),(3,10),(4,10),(5,10),(6,10),(7,10),(8,10),(9,10),(0,11),(1,11),(2,11),(3,11),(4,11),(5,11),(6,11),(7,11),(8,11),(9,11),(0,12),(1,12),(2,12),(3,12),(4,12),(5,12),(6,12),(7,12),(8,12),(9,12),(0,13),(1,13),(2,13),(3,13),(4,13),(5,13),(6,13),(7,13),(8,13),(9,13),(0,14),(1,14),(2,14),(3,14),(4,14),(5,14),(6,14),(7,14),(8,14),(9,14),(10,14),(11,14),(12,14),(13,14),(0,15),(1,15),(2,15),(3,15),(4,15),(5,15),(6,15),(7,15),(8,15),(9,15),(0,16),(1,16),(2,16),(3,16),(4,16),(5,16),(6,16),(7,16),(8,16),(9,16),(0,17),(1,17),(2,17),(3,17),(4,17),(5,17),(6,17),(7,17),(8,17),(9,17),(10,17),(11,17),(12,17),(13,17),(14,17),(15,17),(16,17),(0,18),(1,18),(2,18),(3,18),(4,18),(5,18),(6,18),(7,18),(8,18),(9,18),(0,19),(1,19),(2,19),(3,19),(4,19),(5,19),(6,19),(7,19),(8,19),(9,19)] [0,1,2,6,7,8,9,10,11,12,13,14,15,16,17,18,19,20,21,22,23,24,25,26]) .ret))⟩
def yjL:TFn:=⟨3,[.tmp 5],(.seq (oQ [O 5 (.mv (.c (.bool false)))] [5]) (.seq (.ops [M 6 1,O 7 (.bin .eql t6 (I 0)),M 8 7,⟨some 9,(.load false 1 t2),some (8,true)⟩,⟨some 10,(.nilchk t9),some (8,true)⟩,⟨some 11,(.fad 3 t10),some (8,true)⟩,⟨some 12,(.load false 1 t11),some (8,true)⟩,⟨some 13,(.mv t0),some (8,true)⟩,⟨some 14,(.iad 2 t12 t13),some (8,true)⟩,⟨some 15,(.load true 2 t14),some (8,true)⟩,⟨some 16,(.load false 1 t2),some (8,true)⟩,⟨some 17,(.nilchk t16),some (8,true)⟩,⟨some 18,(.fad 3 t17),some (8,true)⟩,⟨some 19,(.load false 1 t18),some (8,true)⟩,⟨some 20,(.iad 2 t19 (I 0)),some (8,true)⟩,⟨some 21,(.load true 2 t20),some (8,true)⟩,⟨some 22,(.eqA true 2 [(0,(some .i64)),(1,(some .i64))] t15 t21),some (8,true)⟩,O 23 (.pick t8 t22 (.c (.bool false))),M 5 23] [⟨6,(.agg [.d,.d,.d,.d]),0⟩,⟨8,(.agg [.i .i64,.i .i64]),0⟩,⟨9,(.agg [.i .i64,.i .i64]),0⟩,⟨13,(.agg [.d,.d,.d,.d]),0⟩,⟨14,(.agg [.i .i64,.i .i64]),0⟩,⟨15,(.agg [.i .i64,.i .i64]),0⟩] [(3,7),(4,7),(5,7),(6,7),(3,10),(4,10),(5,10),(6,10),(7,10),(8,10),(9,10),(3,11),(4,11),(5,11),(6,11),(7,11),(8,11),(9,11),(3,12),(4,12),(5,12),(6,12),(7,12),(8,12),(9,12),(3,13),(4,13),(5,13),(6,13),(7,13),(8,13),(9,13),(3,14),(4,14),(5,14),(6,14),(7,14),(8,14),(9,14),(3,15),(4,15),(5,15),(6,15),(7,15),(8,15),(9,15)] [0,1,2,6,7,8,9,10,11,12,13,14,15,16,17,18,19,20,21,22,23]) .ret))⟩
def yjM:TFn:=⟨3,[.tmp 5],(.seq (oQ [O 5 (.mv (.c (.bool false)))] [5]) (.seq (.ops [M 6 0,M 7 1,oX 8 .eql 6 7,M 9 8,⟨some 10,(.load false 1 t2),some (9,true)⟩,⟨some 11,(.nilchk t10),some (9,true)⟩,⟨some 12,(.fad 1 t11),some (9,true)⟩,⟨some 13,(.load false 1 t12),some (9,true)⟩,⟨some 14,(.mv t0),some (9,true)⟩,⟨some 15,(.iad 1 t13 t14),some (9,true)⟩,⟨some 16,(.load false 1 t15),some (9,true)⟩,⟨some 17,(.len t16),some (9,true)⟩,⟨some 18,(.bin .neq t17 (I 1)),some (9,true)⟩,O 19 (.pick t9 t18 (.c (.bool false))),M 5 19] [⟨7,(.agg [.d,.d,.d,.d]),0⟩,⟨9,(.one (.d)),0⟩,⟨10,(.one (.d)),0⟩] [] [0,1,2,6,7,8,9,10,11,12,13,14,15,16,17,18,19]) .ret))⟩
def ysl:TFn:=⟨2,[.tmp 4,.tmp 5,.tmp 6],(.seq (oQ [O 2 (.boxH false 1 t0),O 4 (.mv (I 0)),O 5 (.mv (I 0)),O 6 (.mv (.c (.bool false)))] [0,4,5,6]) (.seq (.seq (oQ [M 10 1] [1]) (.block 0 (.seq (oQ [O 12 (.bin .eql t10 (.c (.int .u8 (1)))),M 11 12] [12]) (.cond t11 (.seq (oQ [oF 14 1 2,O 15 (.mkFn (.func ya7) [] [t2]),O 16 (.call (.f ycN) [t14,t15]),M 13 16,O 17 (.ext t13 0),O 18 (.ext t13 1),O 19 (.ext t13 2),M 7 17,M 8 18,M 9 19] [10,11,13,14,15,16,17,18,19]) (.seq (.seq (oQ [M 20 9,O 21 (.un .not t20),M 22 21,⟨some 23,(.load false 1 t2),some (22,true)⟩,⟨some 24,(.call (.f ydx) [t23]),some (22,true)⟩,O 25 (.pick t22 t24 (.c (.bool false)))] [2,20,21,22,23,24]) (.cond t25 (.seq (oQ [O 4 (.mv (I (-1))),O 5 (.mv (I (-1))),O 6 (.mv (.c (.bool true)))] [7,8,9,25]) .ret) .skip)) (.seq (oQ [M 26 7,M 27 8,M 28 9,M 4 26,M 5 27,M 6 28] [7,8,9,25,26,27,28]) .ret))) (.seq (oQ [O 30 (.bin .eql t10 (.c (.int .u8 (2)))),M 29 30] [11,30]) (.cond t29 (.seq (oQ [oF 31 1 2,O 32 (.mkFn (.func ya8) [] [t2]),O 33 (.call (.f ycN) [t31,t32]),O 34 (.ext t33 0),O 35 (.ext t33 1),O 36 (.ext t33 2),M 4 34,M 5 35,M 6 36] [2,10,29,31,32,33,34,35,36]) .ret) (.seq (oQ [O 38 (.bin .eql t10 (.c (.int .u8 (4)))),M 37 38] [29,38]) (.cond t37 (.seq (oQ [oF 39 1 2,O 40 (.mkFn (.func ya9) [] [t2]),O 41 (.call (.f ycN) [t39,t40]),O 42 (.ext t41 0),O 43 (.ext t41 1),O 44 (.ext t41 2),M 4 42,M 5 43,M 6 44] [2,10,37,39,40,41,42,43,44]) .ret) (.seq (oQ [O 46 (.bin .eql t10 (.c (.int .u8 (8)))),M 45 46] [10,37,46]) (.cond t45 (.seq (oQ [oF 47 1 2,O 48 (.mkFn (.func yba) [] [t2]),O 49 (.call (.f ycN) [t47,t48]),O 50 (.ext t49 0),O 51 (.ext t49 1),O 52 (.ext t49 2),M 4 50,M 5 51,M 6 52] [2,45,47,48,49,50,51,52]) .ret) .skip)))))))))) (.seq (oQ [oF 53 1 2,O 54 (.mkFn (.func ybb) [] [t2]),O 55 (.call (.f ycN) [t53,t54]),O 56 (.ext t55 0),O 57 (.ext t55 1),O 58 (.ext t55 2),M 4 56,M 5 57,M 6 58] [2,45,53,54,55,56,57,58]) .ret)))⟩
def ykN:TCode:=(.seq (oQ [O 33 (.bin .lss t32 (I 5))] []) (.seq (.cond t33 .skip (.exit 0)) (.seq (.block 1 (.seq (oQ [M 34 32,M 9 34] [33,34]) (.seq (oQ [M 36 6,M 37 9,O 38 (.bin .shl (.c (.int .u8 (1))) t37),O 39 (.call (.f ybo) [t36,t38]),M 35 39,O 40 (.ext t35 0),O 41 (.ext t35 1),O 42 (.ext t35 2),M 10 40,M 11 41,M 12 42] [10,11,35,36,37,38,39,40,41,42]) (.seq (oQ [M 43 12,O 44 (.un .not t43)] [12,43]) (.cond t44 (.ops [O 45 (.fad 0 t8),oF 46 1 45,M 47 9,O 48 (.bin .shl (.c (.int .u8 (1))) t47),oX 49 .or 46 48,O 50 (.fad 0 t8),⟨none,(.store 1 t50 t49),none⟩] [⟨1,(.agg [.i .u8,.d]),0⟩,⟨6,(.agg [.i .u8,.d]),0⟩] [(0,2),(1,2),(0,3),(1,3)] [9,44,45,46,47,48,49,50]) .skip))))) (oQ [O 51 (.bin .add t32 (I 1)),M 32 51] [9,44,51]))))
def yFp:TFn:=⟨2,[.cell 4 true 2,.tmp 5],(.seq (oQ [O 3 (.boxL t1),O 4 (.allocL (.agg [(.int .u8 (0)),.nils])),O 5 (.mv (I 0))] [1,5]) (.seq (oQ [M 14 0,oT 15 1 3,O 16 (.call (.f ydT) [t14,t15]),M 13 16,O 17 (.ext t13 0),O 18 (.ext t13 1),M 6 17,M 7 18] [0,3,13,14,15,16,17,18]) (.seq (.seq (oQ [M 19 7,O 20 (.bin .eql t19 (I 0))] [19]) (.cond t20 (oQ [M 21 6,O 22 (.call (.f ye4) [t21]),M 7 22] [20,21,22]) .skip)) (.seq (.seq (oQ [M 23 7,O 24 (.bin .neq t23 (I 0))] [20,23]) (.cond t24 (.seq (oQ [O 25 (.build [(.int .u8 (0)),.nils] []),M 26 7,⟨none,(.store 2 t4 t25),none⟩,M 5 26] [6,7,24,25,26]) .ret) .skip)) (.seq (oQ [M 27 6,O 28 (.nilchk t27),O 29 (.fad 2 t28),oF 30 1 29,O 31 (.build [(.int .u8 (0)),.nils] [(1,1,t30)]),O 8 (.allocL (.agg [(.int .u8 (0)),.nils])),⟨none,(.store 2 t8 t31),none⟩] [7,24,27,28,29,30,31]) (.seq (.seq (oQ [O 32 (.mv (I 0))] []) (.block 0 (.loop 65264200 ykN))) (.seq (oQ [oT 52 2 8,⟨none,(.store 2 t4 t52),none⟩,O 5 (.mv (I 0))] [6,8,32,33,52]) .ret)))))))⟩
def yn4:TCode:=(.seq (oQ [oX 28 .lss 27 26] []) (.seq (.cond t28 .skip (.exit 0)) (.seq (.block 1 (.seq (.ops [M 29 27,O 30 (.iad 8 t25 t27),oT 31 8 30,O 9 (.allocL (.agg [(.int .i64 (0)),(.int .u8 (0)),(.int .i64 (0)),(.int .i64 (0)),(.int .i64 (0)),(.int .i64 (0)),(.int .i64 (0)),(.int .i64 (0))])),M 8 29,⟨none,(.store 8 t9 t31),none⟩] [⟨1,(.agg [.i .i64,.i .u8,.i .i64,.i .i64,.i .i64,.i .i64,.i .i64,.i .i64]),0⟩,⟨2,(.agg [.i .i64,.i .u8,.i .i64,.i .i64,.i .i64,.i .i64,.i .i64,.i .i64]),0⟩] [] [28,29,30,31]) (.seq (oQ [oT 32 2 6,O 33 (.mkFn (.func yc6) [t32] []),M 10 33] [32,33]) (.seq (.seq (.ops [O 34 (.fad 1 t9),oF 35 1 34,O 36 (.bin .eql t35 (.c (.int .u8 (2))))] [⟨1,(.agg [.i .i64,.i .u8,.i .i64,.i .i64,.i .i64,.i .i64,.i .i64,.i .i64]),0⟩] [] [34,35]) (.cond t36 (oQ [oT 37 2 6,O 38 (.mkFn (.func ydu) [t37] []),M 10 38] [36,37,38]) .skip)) (.seq (.seq (.ops [oT 39 2 6,O 40 (.fad 0 t9),oF 41 1 40,O 42 (.call (.f ydb) [t39,t41]),O 43 (.un .not t42),M 44 43,⟨some 45,(.fad 1 t9),some (44,false)⟩,⟨some 46,(.load false 1 t45),some (44,false)⟩,⟨some 47,(.bin .lss t46 (.c (.int .u8 (1)))),some (44,false)⟩,O 48 (.pick t44 (.c (.bool true)) t47),M 49 48,⟨some 50,(.fad 1 t9),some (49,false)⟩,⟨some 51,(.load false 1 t50),some (49,false)⟩,⟨some 52,(.bin .gtr t51 (.c (.int .u8 (2)))),some (49,false)⟩,O 53 (.pick t49 (.c (.bool true)) t52)] [⟨2,(.agg [.i .i64,.i .u8,.i .i64,.i .i64,.i .i64,.i .i64,.i .i64,.i .i64]),0⟩,⟨7,(.agg [.i .i64,.i .u8,.i .i64,.i .i64,.i .i64,.i .i64,.i .i64,.i .i64]),0⟩,⟨12,(.agg [.i .i64,.i .u8,.i .i64,.i .i64,.i .i64,.i .i64,.i .i64,.i .i64]),0⟩] [] [36,39,40,41,42,43,44,45,46,47,48,49,50,51,52]) (.cond t53 (.seq (oQ [M 54 8,M 4 54,O 5 (.mv (I 0))] [1,6,8,9,10,25,26,27,53,54]) .ret) .skip)) (.seq (.ops [M 56 10,O 57 (.fad 0 t9),oF 58 1 57,O 59 (.fad 2 t9),oT 60 2 59,O 61 (.fad 4 t9),oT 62 2 61,O 63 (.call t56 [t58,t60,t62]),M 55 63,O 64 (.ext t55 0),O 65 (.ext t55 1),O 11 (.allocL (.agg [(.int .i64 (0)),(.int .i64 (0))])),⟨none,(.store 2 t11 t64),none⟩,M 12 65] [⟨2,(.agg [.i .i64,.i .u8,.i .i64,.i .i64,.i .i64,.i .i64,.i .i64,.i .i64]),0⟩,⟨4,(.agg [.i .i64,.i .u8,.i .i64,.i .i64,.i .i64,.i .i64,.i .i64,.i .i64]),0⟩,⟨6,(.agg [.i .i64,.i .u8,.i .i64,.i .i64,.i .i64,.i .i64,.i .i64,.i .i64]),0⟩] [] [10,53,55,56,57,58,59,60,61,62,63,64,65]) (.seq (.ops [M 66 12,O 67 (.bin .neq t66 (I 0)),M 68 67,⟨some 69,(.load true 2 t11),some (68,false)⟩,⟨some 70,(.fad 6 t9),some (68,false)⟩,⟨some 71,(.load true 2 t70),some (68,false)⟩,⟨some 72,(.eqA true 2 [(0,(some .i64)),(1,(some .i64))] t69 t71),some (68,false)⟩,O 73 (.pick t68 (.c (.bool true)) t72)] [⟨5,(.agg [.i .i64,.i .u8,.i .i64,.i .i64,.i .i64,.i .i64,.i .i64,.i .i64]),0⟩] [] [9,11,12,66,67,68,69,70,71,72]) (.cond t73 (.seq (oQ [M 74 8,M 4 74,O 5 (.mv (I 0))] [1,6,8,25,26,27,73,74]) .ret) .skip)))))))) (oQ [O 75 (.bin .add t27 (I 1)),M 27 75] [8,73,75]))))
def yFq:TFn:=⟨2,[.tmp 4,.tmp 5],(.seq (oQ [O 4 (.mv (I 0)),O 5 (.mv (I 0))] [4,5]) (.seq (oQ [M 13 0,M 14 1,O 15 (.build [.nils,.nils] [(0,1,t13),(1,1,t14)]),O 16 (.build [.nils,.nils] [(0,2,t15)]),O 6 (.allocL (.agg [.nils,.nils])),⟨none,(.store 2 t6 t16),none⟩] [0,13,14,15,16]) (.seq (.seq (.ops [O 17 (.fad 0 t6),oT 18 2 17,O 19 (.call (.f ycP) [t18]),M 7 19] [⟨1,(.agg [.d,.d]),0⟩] [] [17,18,19]) (.seq (oQ [M 20 7,O 21 (.bin .neq t20 (I 0))] [20]) (.cond t21 (.seq (oQ [M 22 7,O 4 (.mv (I 0)),M 5 22] [1,6,7,21,22]) .ret) .skip))) (.seq (.seq (.ops [O 23 (.fad 0 t6),O 24 (.fad 1 t23),oF 25 1 24,O 26 (.len t25),O 27 (.mv (I 0))] [⟨2,(.agg [.d,.d]),0⟩] [] [7,21,23,24]) (.block 0 (.loop 47732200 yn4))) (.seq (oQ [M 76 1,O 77 (.len t76),M 4 77,O 5 (.mv (I 0))] [1,6,25,26,27,28,76,77]) .ret)))))⟩
def yn5:TCode:=(.seq (oQ [oX 15 .lss 14 13] []) (.seq (.cond t15 .skip (.exit 0)) (.seq (.block 1 (.seq (.ops [O 16 (.iad 8 t12 t14),oT 17 8 16,O 7 (.allocL (.agg [(.int .i64 (0)),(.int .u8 (0)),(.int .i64 (0)),(.int .i64 (0)),(.int .i64 (0)),(.int .i64 (0)),(.int .i64 (0)),(.int .i64 (0))])),⟨none,(.store 8 t7 t17),none⟩] [⟨0,(.agg [.i .i64,.i .u8,.i .i64,.i .i64,.i .i64,.i .i64,.i .i64,.i .i64]),0⟩,⟨1,(.agg [.i .i64,.i .u8,.i .i64,.i .i64,.i .i64,.i .i64,.i .i64,.i .i64]),0⟩] [] [15,16,17]) (.seq (.ops [O 18 (.fad 0 t7),oF 19 1 18,M 20 1,oX 21 .eql 19 20] [⟨1,(.agg [.i .i64,.i .u8,.i .i64,.i .i64,.i .i64,.i .i64,.i .i64,.i .i64]),0⟩] [] [7,18,19,20]) (.cond t21 (oQ [M 22 5,O 23 (.bin .add t22 (I 1)),M 5 23] [21,22,23]) .skip)))) (oQ [O 24 (.bin .add t14 (I 1)),M 14 24] [21,24]))))
def yHj:TFn:=⟨2,[.tmp 4],(.seq (oQ [O 4 (.mv (I 0))] [4]) (.seq (.seq (oQ [M 8 1,O 9 (.bin .eql t8 (I (-1)))] [8]) (.cond t9 (.seq (oQ [M 10 0,O 11 (.len t10),M 4 11] [0,1,9,10,11]) .ret) .skip)) (.seq (oQ [O 5 (.mv (I 0))] [9]) (.seq (.seq (oQ [M 12 0,O 13 (.len t12),O 14 (.mv (I 0))] [0]) (.block 0 (.loop 13451100 yn5))) (.seq (oQ [M 25 5,M 4 25] [1,5,12,13,14,15,25]) .ret)))))⟩
def yqc:TCode:=(.seq (oQ [oX 18 .lss 17 16] []) (.seq (.cond t18 .skip (.exit 0)) (.seq (.block 1 (.seq (.ops [M 19 17,O 20 (.iad 1 t15 t17),oF 21 1 20,M 7 19,M 8 21] [⟨1,(.one (.d)),0⟩,⟨2,(.one (.d)),0⟩] [] [18,19,20,21]) (.seq (.ops [M 22 1,M 23 7,O 24 (.iad 1 t22 t23),oF 25 1 24,M 9 25] [⟨2,(.one (.d)),0⟩,⟨3,(.one (.d)),0⟩] [] [7,22,23,24,25]) (.seq (oQ [M 26 2,M 27 8,M 28 9,O 29 (.call t26 [t27,t28]),O 30 (.un .not t29)] [8,9,26,27,28,29]) (.cond t30 (.seq (oQ [O 6 (.mv (.c (.bool false)))] [1,2,15,16,17,30]) .ret) .skip))))) (oQ [O 31 (.bin .add t17 (I 1)),M 17 31] [30,31]))))
def yeC:TFn:=⟨3,[.tmp 6],(.seq (oQ [O 6 (.mv (.c (.bool false)))] [6]) (.seq (.seq (oQ [M 10 0,O 11 (.len t10),M 12 1,O 13 (.len t12),oX 14 .neq 11 13] [10,11,12,13]) (.cond t14 (.seq (oQ [O 6 (.mv (.c (.bool false)))] [0,1,2,14]) .ret) .skip)) (.seq (.seq (oQ [M 15 0,O 16 (.len t15),O 17 (.mv (I 0))] [0,14]) (.block 0 (.loop 8009400 yqc))) (.seq (oQ [O 6 (.mv (.c (.bool true)))] [1,2,15,16,17,18]) .ret))))⟩
def yn6:TCode:=(.seq (oQ [oX 14 .lss 13 12] []) (.seq (.cond t14 .skip (.exit 0)) (.seq (.block 1 (.seq (oQ [M 15 13,M 5 15] [14,15]) (.seq (.ops [M 16 0,M 17 5,O 18 (.iad 2 t16 t17),oT 19 2 18,M 20 1,M 21 5,O 22 (.iad 2 t20 t21),oT 23 2 22,O 24 (.eqA true 2 [(0,(some .i64)),(1,(some .i64))] t19 t23)] [⟨2,(.agg [.i .i64,.i .i64]),0⟩,⟨3,(.agg [.i .i64,.i .i64]),0⟩,⟨6,(.agg [.i .i64,.i .i64]),0⟩,⟨7,(.agg [.i .i64,.i .i64]),0⟩] [(0,1),(0,4),(1,4),(2,4),(3,4),(0,5),(1,5),(2,5),(3,5),(4,5),(0,6),(1,6),(2,6),(3,6),(0,7),(1,7),(2,7),(3,7)] [5,16,17,18,19,20,21,22,23]) (.cond t24 (.seq (oQ [O 4 (.mv (.c (.bool false)))] [0,1,12,13,24]) .ret) .skip)))) (oQ [O 25 (.bin .add t13 (I 1)),M 13 25] [24,25]))))
def ylV:TFn:=⟨2,[.tmp 4],(.seq (oQ [O 4 (.mv (.c (.bool false)))] [4]) (.seq (.seq (oQ [M 6 0,O 7 (.len t6),M 8 1,O 9 (.len t8),oX 10 .neq 7 9] [6,7,8,9]) (.cond t10 (.seq (oQ [O 4 (.mv (.c (.bool false)))] [0,1,10]) .ret) .skip)) (.seq (.seq (oQ [M 11 0,O 12 (.len t11),O 13 (.mv (I 0))] [10,11]) (.block 0 (.loop 11234800 yn6))) (.seq (oQ [O 4 (.mv (.c (.bool true)))] [0,1,12,13,14]) .ret))))⟩
def ykO:TCode:=(.seq (oQ [O 47 (.bin .lss t46 (I 5))] []) (.seq (.cond t47 .skip (.exit 0)) (.seq (.block 1 (.seq (oQ [M 48 46,M 11 48] [47,48]) (.seq (.seq (.ops [O 49 (.fad 0 t5),oF 50 1 49,M 51 11,oX 52 .shr 50 51,O 53 (.bin .and t52 (.c (.int .u8 (1)))),O 54 (.bin .eql t53 (.c (.int .u8 (0))))] [⟨1,(.agg [.i .u8,.d]),0⟩] [] [49,50,51,52,53]) (.cond t54 (.exit 1) .skip)) (.seq (oQ [M 56 8,M 57 11,O 58 (.bin .shl (.c (.int .u8 (1))) t57),O 59 (.call (.f ybo) [t56,t58]),M 55 59,O 60 (.ext t55 0),O 61 (.ext t55 1),O 62 (.ext t55 2),M 12 60,M 13 61,M 14 62] [11,12,13,54,55,56,57,58,59,60,61,62]) (.seq (oQ [M 63 14] [14]) (.cond t63 (.seq (oQ [O 6 (.mv (.c (.bool false))),O 7 (.mv (I 0))] [5,8,46,63]) .ret) .skip)))))) (oQ [O 64 (.bin .add t46 (I 1)),M 46 64] [11,54,63,64]))))
def yBx:TFn:=⟨3,[.tmp 6,.tmp 7],(.seq (oQ [O 4 (.boxL t1),O 5 (.boxL t2),O 6 (.mv (.c (.bool false))),O 7 (.mv (I 0))] [1,2,6,7]) (.seq (oQ [M 16 0,oT 17 1 4,O 18 (.call (.f ydT) [t16,t17]),M 15 18,O 19 (.ext t15 0),O 20 (.ext t15 1),M 8 19,M 9 20] [0,4,15,16,17,18,19,20]) (.seq (.seq (oQ [M 21 9,O 22 (.bin .neq t21 (I 0))] [21]) (.cond t22 (.seq (oQ [M 23 9,O 6 (.mv (.c (.bool false))),M 7 23] [5,8,9,22,23]) .ret) .skip)) (.seq (.seq (.ops [O 24 (.fad 0 t5),oF 25 1 24,O 26 (.bin .geq t25 (.c (.int .u8 (32)))),M 27 26,⟨some 28,(.mv t8),some (27,false)⟩,⟨some 29,(.nilchk t28),some (27,false)⟩,⟨some 30,(.fad 2 t29),some (27,false)⟩,⟨some 31,(.load false 1 t30),some (27,false)⟩,⟨some 32,(.fad 1 t5),some (27,false)⟩,⟨some 33,(.load false 1 t32),some (27,false)⟩,⟨some 34,(.call (.f ybk) [t31,t33,(.f yaI)]),some (27,false)⟩,⟨some 35,(.un .not t34),some (27,false)⟩,O 36 (.pick t27 (.c (.bool true)) t35)] [⟨1,(.agg [.i .u8,.d]),0⟩,⟨9,(.agg [.i .u8,.d]),0⟩] [(4,8),(5,8),(6,8),(7,8),(4,9),(5,9),(6,9),(7,9)] [9,22,24,25,26,27,28,29,30,31,32,33,34,35]) (.cond t36 (.seq (oQ [O 6 (.mv (.c (.bool false))),O 7 (.mv (I 0))] [5,8,36]) .ret) .skip)) (.seq (.seq (.ops [O 37 (.fad 0 t5),oF 38 1 37,O 39 (.bin .and t38 (.c (.int .u8 (8)))),O 40 (.bin .neq t39 (.c (.int .u8 (0))))] [⟨1,(.agg [.i .u8,.d]),0⟩] [] [36,37,38,39]) (.cond t40 (.seq (oQ [M 41 8,O 42 (.call (.f ye4) [t41]),M 10 42] [40,41,42]) (.seq (oQ [M 43 10,O 44 (.bin .neq t43 (I 0))] [43]) (.cond t44 (.seq (oQ [M 45 10,O 6 (.mv (.c (.bool false))),M 7 45] [5,8,10,44,45]) .ret) .skip))) .skip)) (.seq (.seq (oQ [O 46 (.mv (I 0))] [10,40,44]) (.block 0 (.loop 47320500 ykO))) (.seq (oQ [O 6 (.mv (.c (.bool true))),O 7 (.mv (I 0))] [5,8,46,47]) .ret)))))))⟩
def yn7:TCode:=(.seq (.seq (.ops [M 5 4,O 6 (.fad 2 t1),oF 7 1 6,O 8 (.len t7),oX 9 .lss 5 8] [⟨2,(.agg [.i .i64,.d,.d]),0⟩] [] [5,6,7,8]) (.cond t9 .skip (.exit 0))) (.seq (.block 1 (.ops [M 12 3,O 13 (.fad 2 t1),oF 14 1 13,M 15 4,O 16 (.iad 1 t14 t15),oF 17 1 16,O 18 (.fad 1 t1),oF 19 1 18,M 20 4,O 21 (.bin .add t20 (I 1)),O 22 (.iad 1 t19 t21),oF 23 1 22,O 24 (.fad 1 t1),oF 25 1 24,M 26 4,O 27 (.iad 1 t25 t26),oF 28 1 27,oX 29 .sub 23 28,oX 30 .mul 17 29,oX 31 .add 12 30,M 3 31] [⟨2,(.agg [.i .i64,.d,.d]),0⟩,⟨4,(.one (.i .i64)),0⟩,⟨5,(.one (.i .i64)),0⟩,⟨7,(.agg [.i .i64,.d,.d]),0⟩,⟨10,(.one (.i .i64)),0⟩,⟨11,(.one (.i .i64)),0⟩,⟨13,(.agg [.i .i64,.d,.d]),0⟩,⟨15,(.one (.i .i64)),0⟩,⟨16,(.one (.i .i64)),0⟩] [(0,1),(0,2),(0,3),(1,3),(2,3),(0,4),(0,5),(0,6),(1,6),(2,6),(3,6),(4,6),(5,6),(0,7),(1,7),(2,7),(3,7),(4,7),(5,7),(0,8),(1,8),(2,8),(3,8),(4,8),(5,8),(6,8),(7,8),(0,9),(1,9),(2,9),(3,9),(4,9),(5,9),(6,9),(7,9),(0,10),(1,10),(2,10),(3,10),(4,10),(5,10),(0,11),(1,11),(2,11),(3,11),(4,11),(5,11),(0,12),(1,12),(2,12),(3,12),(4,12),(5,12),(6,12),(7,12),(8,12),(9,12),(10,12),(11,12),(0,13),(1,13),(2,13),(3,13),(4,13),(5,13),(6,13),(7,13),(8,13),(9,13),(10,13),(11,13),(0,14),(1,14),(2,14),(3,14),(4,14),(5,14),(6,14),(7,14),(8,14),(9,14),(10,14),(11,14),(12,14),(13,14),(0,15),(1,15),(2,15),(3,15),(4,15),(5,15),(6,15),(7,15),(8,15),(9,15),(10,15),(11,15),(0,16),(1,16),(2,16),(3,16),(4,16),(5,16),(6,16),(7,16),(8,16),(9,16),(10,16),(11,16),(0,17),(1,17),(2,17),(3,17),(4,17),(5,17),(0,18)] [9,12,13,14,15,16,17,18,19,20,21,22,23,24,25,26,27,28,29,30,31])) (oQ [M 10 4,O 11 (.bin .add t10 (I 1)),M 4 11] [10,11])))
def yHk:TFn:=⟨1,[.tmp 2],(.seq (oQ [O 1 (.boxL t0),O 2 (.mv (I 0))] [0,2]) (.seq (oQ [O 3 (.mv (I 0))] []) (.seq (.seq (oQ [O 4 (.mv (I 0))] []) (.block 0 (.loop 21661800 yn7))) (.seq (oQ [M 32 3,M 2 32] [1,3,4,9,32]) .ret))))⟩
def yLp:TFn:=⟨1,[.tmp 2],(.seq (oQ [O 2 (.mv (.c (.int .u64 (0))))] [2]) (.seq (.seq (oQ [M 3 0,O 4 (.bin .lss t3 (I 0))] [3]) (.cond t4 (.seq (oQ [M 5 0,O 6 (.bin .add t5 (I 1)),O 7 (.un .neg t6),O 8 (.conv .u64 t7),O 9 (.bin .add t8 (.c (.int .u64 (1)))),M 2 9] [0,4,5,6,7,8,9]) .ret) .skip)) (.seq (oQ [M 10 0,O 11 (.conv .u64 t10),M 2 11] [0,4,10,11]) .ret)))⟩
def yn8:TCode:=(.seq (.seq (oQ [M 5 1,O 6 (.bin .neq t5 (.c (.int .u64 (0))))] [5]) (.cond t6 .skip (.exit 0))) (.block 1 (.ops [M 7 1,M 8 0,M 9 1,oX 10 .rem 8 9,M 0 7,M 1 10] [] [(0,1),(0,2),(1,2),(0,3),(2,4),(3,4)] [6,7,8,9,10])))
def yLq:TFn:=⟨2,[.tmp 4],(.seq (oQ [O 4 (.mv (.c (.int .u64 (0))))] [4]) (.seq (.block 0 (.loop 16774900 yn8)) (.seq (oQ [M 11 0,M 4 11] [0,1,6,11]) .ret)))⟩
def yJc:TFn:=⟨3,[.cell 6 true 2,.tmp 7],(.seq (oQ [O 4 (.boxL t1),O 5 (.boxL t2),O 6 (.allocL (.agg [(.int .i64 (0)),(.int .i64 (0))])),O 7 (.mv (I 0))] [1,2,7]) (.seq (.seq (.ops [O 9 (.fad 0 t4),oF 10 1 9,O 11 (.bin .gtr t10 (.c (.int .u64 (0)))),M 12 11,⟨some 13,(.fad 0 t5),some (12,false)⟩,⟨some 14,(.load false 1 t13),some (12,false)⟩,⟨some 15,(.bin .gtr t14 (.c (.int .u64 (0)))),some (12,false)⟩,O 16 (.pick t12 (.c (.bool true)) t15),M 17 16,⟨some 18,(.fad 1 t4),some (17,false)⟩,⟨some 19,(.load false 1 t18),some (17,false)⟩,⟨some 20,(.bin .gtr t19 (.c (.int .u64 (1000000000000000000)))),some (17,false)⟩,O 21 (.pick t17 (.c (.bool true)) t20),M 22 21,⟨some 23,(.fad 1 t5),some (22,false)⟩,⟨some 24,(.load false 1 t23),some (22,false)⟩,⟨some 25,(.bin .gtr t24 (.c (.int .u64 (1000000000000000000)))),some (22,false)⟩,O 26 (.pick t22 (.c (.bool true)) t25)] [⟨1,(.agg [.i .u64,.i .u64]),0⟩,⟨5,(.agg [.i .u64,.i .u64]),0⟩,⟨10,(.agg [.i .u64,.i .u64]),0⟩,⟨15,(.agg [.i .u64,.i .u64]),0⟩] [] [9,10,11,12,13,14,15,16,17,18,19,20,21,22,23,24,25]) (.cond t26 (.seq (oQ [O 27 (.build [(.int .i64 (0)),(.int .i64 (0))] []),⟨none,(.store 2 t6 t27),none⟩,O 7 (.mv (I 16))] [0,4,5,26,27]) .ret) .skip)) (.seq (.ops [O 28 (.fad 1 t4),oF 29 1 28,O 30 (.conv .i64 t29),O 31 (.fad 1 t5),oF 32 1 31,O 33 (.conv .i64 t32),O 34 (.build [(.int .i64 (0)),(.int .i64 (0))] [(0,1,t30),(1,1,t33)]),O 8 (.allocL (.agg [(.int .i64 (0)),(.int .i64 (0))])),⟨none,(.store 2 t8 t34),none⟩] [⟨1,(.agg [.i .u64,.i .u64]),0⟩,⟨4,(.agg [.i .u64,.i .u64]),0⟩] [] [4,5,26,28,29,30,31,32,33,34]) (.seq (.seq (oQ [M 35 0] [0]) (.cond t35 (.ops [O 36 (.fad 0 t8),oF 37 1 36,O 38 (.un .neg t37),O 39 (.fad 0 t8),⟨none,(.store 1 t39 t38),none⟩] [⟨1,(.agg [.i .i64,.i .i64]),0⟩,⟨4,(.agg [.i .i64,.i .i64]),0⟩] [] [35,36,37,38,39]) .skip)) (.seq (oQ [oT 40 2 8,⟨none,(.store 2 t6 t40),none⟩,O 7 (.mv (I 0))] [8,35,40]) .ret)))))⟩
def yJd:TFn:=⟨2,[.cell 4 true 2,.tmp 5],(.seq (oQ [O 4 (.allocL (.agg [(.int .i64 (0)),(.int .i64 (0))])),O 5 (.mv (I 0))] [5]) (.seq (.seq (oQ [M 9 1,O 10 (.bin .eql t9 (I 0))] [9]) (.cond t10 (.seq (oQ [O 11 (.build [(.int .i64 (0)),(.int .i64 (0))] []),⟨none,(.store 2 t4 t11),none⟩,O 5 (.mv (I 18))] [0,1,10,11]) .ret) .skip)) (.seq (oQ [M 12 0,O 13 (.call (.f ynq) [t12]),M 14 1,O 15 (.call (.f ynq) [t14]),M 6 13,M 7 15] [10,12,13,14,15]) (.seq (oQ [M 16 6,M 17 7,O 18 (.call (.f yp5) [t16,t17]),M 8 18] [16,17,18]) (.seq (.ops [M 19 0,O 20 (.bin .lss t19 (I 0)),M 21 1,O 22 (.bin .lss t21 (I 0)),O 23 (.eqB true t20 t22),M 24 6,M 25 8,oX 26 .quo 24 25,O 27 (.build [(.int .u64 (0)),(.int .u64 (0))] [(1,1,t26)]),M 28 7,M 29 8,oX 30 .quo 28 29,O 31 (.build [(.int .u64 (0)),(.int .u64 (0))] [(1,1,t30)]),O 32 (.call (.f ynF) [t23,t27,t31]),O 33 (.ext t32 0),O 34 (.ext t32 1),⟨none,(.store 2 t4 t33),none⟩,M 5 34] [] [(0,2),(1,2),(0,3),(1,3),(0,5),(1,5),(2,5),(3,5),(4,5),(0,6),(1,6),(2,6),(3,6),(4,6),(5,6),(0,7),(1,7),(2,7),(3,7),(4,7),(0,8),(1,8),(2,8),(3,8),(4,8),(0,9),(1,9),(2,9),(3,9),(4,9),(5,9),(6,9),(7,9),(8,9),(0,10),(1,10),(2,10),(3,10),(4,10),(5,10),(6,10),(7,10),(8,10),(9,10),(0,11),(1,11),(2,11),(3,11),(4,11),(5,11),(6,11),(7,11),(8,11),(0,12),(1,12),(2,12),(3,12),(4,12),(5,12),(6,12),(7,12),(8,12),(14,15)] [0,1,6,7,8,19,20,21,22,23,24,25,26,27,28,29,30,31,32,33,34]) .ret)))))⟩
def yJe:TFn:=⟨1,[.cell 2 true 2],(.seq (oQ [O 1 (.boxL t0),O 2 (.allocL (.agg [(.int .i64 (0)),(.int .i64 (0))]))] [0]) (.seq (oQ [oT 6 3 1,O 7 (.call (.f ylT) [t6]),O 8 (.call (.f ynG) [t7,(I 2)]),M 5 8,O 9 (.ext t5 0),O 10 (.ext t5 1),O 3 (.allocL (.agg [(.int .i64 (0)),(.int .i64 (0))])),⟨none,(.store 2 t3 t9),none⟩,M 4 10] [1,4,5,6,7,8,9,10]) (.seq (oQ [oT 11 2 3,⟨none,(.store 2 t2 t11),none⟩] [3,11]) .ret)))⟩
def t115:Opd:=.t 115
def yyC:TFn:=⟨2,[.tmp 4],(.seq (oQ [O 4 (.mv (.c (.bool false)))] [4]) (.seq (.seq (oQ [M 14 0,M 15 1,O 16 (.call (.f yp3) [t14,t15]),O 17 (.un .not t16)] [14,15,16]) (.cond t17 (.seq (oQ [O 18 (.call (.f yjn) []),M 4 18] [0,1,17,18]) .ret) .skip)) (.seq (oQ [M 20 0,M 21 1,O 22 (.call (.f yfv) [t20,t21]),M 19 22,O 23 (.ext t19 0),O 24 (.ext t19 1),O 25 (.ext t19 2),O 5 (.allocL (.agg [.nils])),⟨none,(.store 1 t5 t23),none⟩,M 6 24,M 7 25] [17,19,20,21,22,23,24,25]) (.seq (oQ [M 27 0,oT 28 1 5,O 29 (.call (.f yjG) [t27,t28]),M 26 29,O 30 (.ext t26 0),O 31 (.ext t26 1),O 8 (.allocL (.agg [(.int .u8 (0)),.nils])),⟨none,(.store 2 t8 t30),none⟩,M 9 31] [26,27,28,29,30,31]) (.seq (oQ [M 33 0,M 34 6,O 35 (.call (.f yjH) [t33,t34]),M 32 35,O 36 (.ext t32 0),O 37 (.ext t32 1),M 10 36,M 11 37] [32,33,34,35,36,37]) (.seq (.seq (oQ [M 38 7,O 39 (.bin .neq t38 (I 0)),M 40 39,⟨some 41,(.mv t9),some (40,false)⟩,⟨some 42,(.bin .neq t41 (I 0)),some (40,false)⟩,O 43 (.pick t40 (.c (.bool true)) t42),M 44 43,⟨some 45,(.mv t11),some (44,false)⟩,⟨some 46,(.bin .neq t45 (I 0)),some (44,false)⟩,O 47 (.pick t44 (.c (.bool true)) t46),M 48 47,⟨some 49,(.mv t10),some (48,false)⟩,⟨some 50,(.bin .neq t49 (I 2)),some (48,false)⟩,O 51 (.pick t48 (.c (.bool true)) t50),M 52 51,⟨some 53,(.mv t6),some (52,false)⟩,⟨some 54,(.len t53),some (52,false)⟩,⟨some 55,(.bin .neq t54 (I 2)),some (52,false)⟩,O 56 (.pick t52 (.c (.bool true)) t55),M 57 56,⟨some 58,(.mv t6),some (57,false)⟩,⟨some 59,(.call (.f yjo) [t58,(I 0)]),some (57,false)⟩,⟨some 60,(.bin .neq t59 (I 1)),some (57,false)⟩,O 61 (.pick t57 (.c (.bool true)) t60),M 62 61,⟨some 63,(.mv t6),some (62,false)⟩,⟨some 64,(.call (.f yjo) [t63,(I 1)]),some (62,false)⟩,⟨some 65,(.bin .neq t64 (I 1)),some (62,false)⟩,O 66 (.pick t62 (.c (.bool true)) t65)] [6,7,9,10,11,38,39,40,41,42,43,44,45,46,47,48,49,50,51,52,53,54,55,56,57,58,59,60,61,62,63,64,65]) (.cond t66 (.seq (oQ [O 4 (.mv (.c (.bool false)))] [0,1,5,8,66]) .ret) .skip)) (.seq (.ops [M 68 0,oT 69 1 5,O 70 (.fad 1 t8),oF 71 1 70,O 72 (.build [(.int .u8 (0)),.nils] [(0,1,(.c (.int .u8 (23)))),(1,1,t71)]),O 73 (.call (.f yhB) [t68,t69,t72]),M 67 73,O 74 (.ext t67 0),O 75 (.ext t67 1),M 12 74,M 13 75] [⟨3,(.agg [.i .u8,.d]),0⟩] [] [5,66,67,68,69,70,71,72,73,74,75]) (.seq (.ops [M 76 13,O 77 (.bin .eql t76 (I 0)),M 78 77,⟨some 79,(.mv t12),some (78,true)⟩,O 80 (.pick t78 t79 (.c (.bool false))),M 81 80,⟨some 82,(.fad 0 t8),some (81,true)⟩,⟨some 83,(.load false 1 t82),some (81,true)⟩,⟨some 84,(.bin .and t83 (.c (.int .u8 (23)))),some (81,true)⟩,⟨some 85,(.bin .eql t84 (.c (.int .u8 (23)))),some (81,true)⟩,O 86 (.pick t81 t85 (.c (.bool false))),M 87 86,⟨some 88,(.fad 1 t8),some (87,true)⟩,⟨some 89,(.load false 1 t88),some (87,true)⟩,⟨some 90,(.len t89),some (87,true)⟩,⟨some 91,(.bin .eql t90 (I 2)),some (87,true)⟩,O 92 (.pick t87 t91 (.c (.bool false))),M 93 92,⟨some 94,(.fad 1 t8),some (93,true)⟩,⟨some 95,(.load false 1 t94),some (93,true)⟩,⟨some 96,(.mv t1),some (93,true)⟩,⟨some 97,(.iad 1 t95 t96),some (93,true)⟩,⟨some 98,(.load false 1 t97),some (93,true)⟩,⟨some 99,(.len t98),some (93,true)⟩,⟨some 100,(.bin .eql t99 (I 2)),some (93,true)⟩,O 101 (.pick t93 t100 (.c (.bool false))),M 102 101,⟨some 103,(.fad 1 t8),some (102,true)⟩,⟨some 104,(.load false 1 t103),some (102,true)⟩,⟨some 105,(.mv t1),some (102,true)⟩,⟨some 106,(.iad 1 t104 t105),some (102,true)⟩,⟨some 107,(.load false 1 t106),some (102,true)⟩,⟨some 108,(.mv t1),some (102,true)⟩,⟨some 109,(.iad 2 t107 t108),some (102,true)⟩,⟨some 110,(.load true 2 t109),some (102,true)⟩,⟨some 111,(.mv t0),some (102,true)⟩,⟨some 112,(.mv t1),some (102,true)⟩,⟨some 113,(.iad 3 t111 t112),some (102,true)⟩,⟨some 114,(.load true 3 t113),some (102,true)⟩,⟨some 115,(.call (.f ynH) [t114]),some (102,true)⟩,⟨some 116,(.eqA false 2 [(0,(some .i64)),(1,(some .i64))] t110 t115),some (102,true)⟩,O 117 (.pick t102 t116 (.c (.bool false))),M 118 117,⟨some 119,(.call (.f yjn) []),some (118,true)⟩,O 120 (.pick t118 t119 (.c (.bool false))),M 4 120] [⟨7,(.agg [.i .u8,.d]),0⟩,⟨13,(.agg [.i .u8,.d]),0⟩,⟨19,(.agg [.i .u8,.d]),0⟩,⟨21,(.one (.d)),0⟩,⟨22,(.one (.d)),0⟩,⟨28,(.agg [.i .u8,.d]),0⟩,⟨30,(.one (.d)),0⟩,⟨31,(.one (.d)),0⟩,⟨33,(.agg [.i .i64,.i .i64]),0⟩,⟨34,(.agg [.i .i64,.i .i64]),0⟩,⟨37,(.agg [.i .i64,.d,.d]),0⟩,⟨38,(.agg [.i .i64,.d,.d]),0⟩] [(18,20),(19,20),(27,29),(28,29),(27,32),(28,32),(29,32),(30,32),(31,32),(27,35),(28,35),(29,35),(30,35),(31,35),(32,35),(33,35),(34,35),(27,36),(28,36),(29,36),(30,36),(31,36),(32,36),(33,36),(34,36),(35,36),(27,37),(28,37),(29,37),(30,37),(31,37),(32,37),(33,37),(34,37),(27,38),(28,38),(29,38),(30,38),(31,38),(32,38),(33,38),(34,38),(27,39),(28,39),(29,39),(30,39),(31,39),(32,39),(33,39),(34,39)] [0,1,8,12,13,76,77,78,79,80,81,82,83,84,85,86,87,88,89,90,91,92,93,94,95,96,97,98,99,100,101,102,103,104,105,106,107,108,109,110,111,112,113,114,115,116,117,118,119,120]) .ret))))))))⟩
def tab:List (Nat×AFn):=[(ylN,yG0.fn),(yf6,yyz.fn),(yjk,yG1.fn),(ylO,yG2.fn),(ylP,yG3.fn),(yp3,yLj.fn),(ynB,yMH.fn),(yno,yLk.fn),(ygR,yz7.fn),(yff,yz8.fn),(ybX,yFe.fn),(ycP,yG4.fn),(yds,yKp.fn),(yfq,yFf.fn),(ynC,yI5.fn),(ye1,yBu.fn),(ycF,yFg.fn),(ybw,yFh.fn),(yc8,yG5.fn),(ydt,yBv.fn),(yfr,yFi.fn),(ygW,yCZ.fn),(ycX,yC0.fn),(ybY,yFj.fn),(ye2,yvt.fn),(ycf,yC1.fn),(yen,ywO.fn),(yeB,ytV.fn),(yeQ,yLl.fn),(ydS,yvu.fn),(yc9,ysj.fn),(yjF,yFk.fn),(ycv,yG6.fn),(ycQ,yG7.fn),(yeH,yFl.fn),(ynp,yLm.fn),(ye3,yvv.fn),(ykD,yLn.fn),(yp4,yLo.fn),(yda,yG8.fn),(yfs,yG9.fn),(yed,yHa.fn),(yee,yHb.fn),(yfG,yuJ.fn),(ysh,yHc.fn),(ylQ,yHd.fn),(ydu,ywP.fn),(ydb,yyA.fn),(yf7,yp9.fn),(ynD,yI6.fn),(yft,yFm.fn),(yc6,yvw.fn),(ylR,yHe.fn),(yeJ,yC2.fn),(ybV,ylU.fn),(yhA,yBw.fn),(yfu,ywQ.fn),(yfv,yFn.fn),(ygt,yHf.fn),(ynE,yI7.fn),(ykE,yI8.fn),(yjn,yHg.fn),(yiw,yC3.fn),(ylS,yHh.fn),(yeK,yC4.fn),(yeL,yC5.fn),(ybT,yC6.fn),(ybx,yFo.fn),(yeM,yC7.fn),(yeu,yrA.fn),(ysi,yHi.fn),(ycB,yC8.fn),(ybh,yuK.fn),(ydT,yh3.fn),(ye4,yn2.fn),(ydv,yoX.fn),(ycs,yfW.fn),(yaZ,ybZ.fn),(ycC,yz9.fn),(ygX,yC9.fn),(ya7,yjI.fn),(ycN,ytW.fn),(ydw,yhC.fn),(yev,yml.fn),(yyy,yPJ.fn),(yFd,yPM.fn),(yef,ysk.fn),(yco,ywR.fn),(ybt,yyB.fn),(ycO,ytX.fn),(ydx,ywS.fn),(ya8,yjJ.fn),(ya9,yjK.fn),(yba,yjL.fn),(ybb,yjM.fn),(ybo,ysl.fn),(yjG,yFp.fn),(yjH,yFq.fn),(yjo,yHj.fn),(ybk,yeC.fn),(yaI,ylV.fn),(yhB,yBx.fn),(ylT,yHk.fn),(ynq,yLp.fn),(yp5,yLq.fn),(ynF,yJc.fn),(ynG,yJd.fn),(ynH,yJe.fn),(ykF,yyC.fn)]
def quiL:List Nat:=[ylN,yf6,yjk,ylO,ylP,yp3,ynB,yno,ygR,yff,ybX,ycP,yds,yfq,ynC,ye1,ycF,ybw,yc8,ydt,yfr,ygW,ycX,ybY,ye2,ycf,yen,yeB,yeQ,ydS,yc9,yjF,ycv,ycQ,yeH,yjl,yjm,ynp,ye3,ykD,yp4,yda,yfs,yed,yee,ylQ,ydu,ydb,ynD,yft,yc6,ylR,yeJ,ybV,yhA,yfu,yfv,ygt,ynE,ykE,yjn,yiw,ylS,yeK,yeL,ybT,ybx,yeM,ycB,ybh,ycC,ygX,yyy,yFd,ycO,ydx,ybo,yjG,yjH,yjo,yaI,yhB,ylT,ynq,yp5,ynF,ynG,ynH,ykF,(ybh+1000000),(ycC+3000000),(ybo+3000000),(ydx+3000000)]
def cloL:Clones:=[(yds,1,8)]
def gloL:List (Nat×PV):=[(0,.agg [.int .i64 0,.int .i64 1])]
def E (ef:List (Nat×EffF)):Env:=baseS yjl yjm tab quiL cloL gloL ef
def E0C:Env:=baseC yjl yjm tab quiL cloL gloL
abbrev yrP:Srts:=spSrt ybt ycO
def effNums:List Nat:=[ybt]
abbrev EG (e:List (Nat×EffF)):Prop:=EffG E effNums e
theorem ya6:EG []:=⟨fun _ _ _ _ h=>(by cases h),fun _ _ _ _=>rfl⟩
def ef0:List (Nat×EffF):=[(ybt,srtEff yrP.s yrP.srt)]
theorem effG0:EG ef0:=⟨yLf (by kernel_rfl),fun n h xs H=>yBt (l:=ef0) h⟩
abbrev yeo:Type:=Ls→(Ls→Prop)→Prop
def ydy (p0:Ls) (K:Ls→Prop):Prop:=yKl 1 8 p0 K
def yvx (w:Ls→(Ls→Prop)→Prop) (as:Ls) (K:PV→Prop):Prop:=yBp w as K
def yvy (as:Ls) (K:PV→Prop):Prop:=yBq 1 8 as K
theorem yvz (e:List (Nat×EffF)) (_:EG e):OkF (E e) yvy yds:=yLg (by kernel_rfl) (by kernel_rfl) (by kernel_rfl)
abbrev yyD:Type:=Int→Int→Int→(Int→Int→Prop)→Prop
abbrev yyE:Type:=Int→Int→Int→(Int→Int→Prop)→Prop
theorem yJf (e:List (Nat×EffF)) (_:EG e):OkF (E e) yvq yjl:=yLh
theorem yJg (e:List (Nat×EffF)) (_:EG e):OkF (E e) yvs yjm:=yLi (by kernel_rfl)
end Go.Pf.Vc
namespace Go.Pf.Vc
open Go Go.Pf
set_option maxRecDepth 100000
abbrev ybQ:Type:=Int→(Int→Prop)→Prop
def ypr (p0:Int) (K:Int→Prop):Prop :=
 (cbr (decide (p0<(0:Int)))
 (K (IntKind.u64.wrap ((0:Int)-(IntKind.u64.wrap p0))))
 (K (IntKind.u64.wrap p0)))
def ycG (p0:Int) (K:Int→Prop):Prop:=ypr p0 K
def yfI (w:ybQ) (as:Ls) (K:PV→Prop):Prop :=
 match as with
 | [(.int .i64 p0)]=>w p0 (fun r0=>K (.int .u64 r0))
 | _=>False
def yuL (as:Ls) (K:PV→Prop):Prop:=yfI ycG as K
def yDa:LP:=fun _ _ _ _ =>
 False
def yuM (e:List (Nat×EffF)):SE:=⟨(E e),lookS [],lookI [],yDa⟩
theorem yBy (e:List (Nat×EffF)) (he:EG e):SEOk (yuM e):=yao trivial trivial he.ok
theorem yDb (e:List (Nat×EffF)) ( p0 K):WP (yuM e) 6 yFh [(.int .i64 p0)] K=ypr p0 (fun r0=>K (.int .u64 r0)):=by kernel_rfl
theorem yix (e:List (Nat×EffF)) (he:EG e):OkF (E e) yuL ybw:=by
 intro as K h
 unfold yuL yfI at h
 split at h
 · exact WP_ok (yBy e he) (yag (by kernel_rfl)) (by kernel_rfl) (by kernel_rfl) (fun _=>yaa (by kernel_rfl) _) (he.num _ (by kernel_rfl)) ((yDb ..).mpr h)
 · exact h.elim
abbrev ydc:Type:=Int→Int→(Int→Prop)→Prop
def yew (x0:Int→Int→Bool→Prop):Nat→Int→Int→Prop
 | 0,_,_=>False
 | n+1,i0,i1 =>
 (cbr (decide (i1>(0:Int)))
 (asr (!(decide (i1=(0:Int))))
 (yew x0 n i1 (Int.tmod i0 i1)))
 (x0 i0 i1 false))
def yqz (p0 p1:Int) (K:Int→Prop):Prop :=
 (∃ n:Nat,yew
 (fun a _ _=>(K a))
 n p0 p1)
def ycj (p0 p1:Int) (K:Int→Prop):Prop:=yqz p0 p1 K
def yh4 (w:ydc) (as:Ls) (K:PV→Prop):Prop :=
 match as with
 | [(.int .u64 p0),(.int .u64 p1)]=>w p0 p1 (fun r0=>K (.int .u64 r0))
 | _=>False
def ywT (as:Ls) (K:PV→Prop):Prop:=yh4 ycj as K
def ygY (F:Frm) (H:Hp) (A0:Int→Int→Prop):Prop :=
 match F,H with
 | [(0,.v (.int .u64 i0)),(1,.v (.int .u64 i1))],[]=>(A0 i0 i1)
 | _,_=>False
def ymm (Q:Ex→Frm→Hp→Prop):Int→Int→Bool→Prop:=(fun i0 i1 b2=>Q (.exit 0) [(0,.v (.int .u64 i0)),(1,.v (.int .u64 i1)),(6,.v (.bool b2))] [])
def yln (Q:Ex→Frm→Hp→Prop) (n:Nat) (F:Frm) (H:Hp):Prop:=ygY F H (fun i0 i1=>yew (ymm Q) n i0 i1)
def ymW:LP:=fun id F H Q =>
 bif Nat.beq id 32725300 then ygY F H (fun i0 i1=>∃ n:Nat,yew (ymm Q) n i0 i1) else
 False
def yqA (e:List (Nat×EffF)):SE:=⟨(E e),lookS [],lookI [],ymW⟩
theorem yuN (e:List (Nat×EffF)) (he:EG e):SEOk (yqA e):=yao trivial trivial he.ok
theorem yvA (e:List (Nat×EffF)) ( Q n i0 i1):WC (E e) (callW (yqA e) 5) (ymW) ynP [(0,.v (.int .u64 i0)),(1,.v (.int .u64 i1))] [] (fun x F' H'=>match x with | .norm=>yln Q n F' H' | .exit i=>Q (.exit i) F' H' | .ret=>Q .ret F' H')=yew (ymm Q) (n+1) i0 i1:=by kernel_rfl
theorem yAa (e:List (Nat×EffF)) (_:EG e):LpOk (E e) (ymW) ynP:=(yag (by kernel_rfl))
theorem yyF (e:List (Nat×EffF)) (he:EG e):∀ F H Q,ymW 32725300 F H Q→LoopT (E e) ynP F H Q:=by
 intro F H Q h
 have go:=LoopT.intro (yaF (yuN e he) 5) (yAa e he) (yln Q) (by
   intro F H h
   unfold yln ygY at h
   split at h
   · exact h
   · exact h) (by
   intro n F H h
   unfold yln ygY at h
   split at h
   · exact (yvA ..).mpr h
   · exact h.elim)
 have h:ygY F H _:=h
 unfold ygY at h
 split at h
 · obtain ⟨n,h⟩:=h;exact go n _ _ h
 · exact h.elim
theorem yFr (e:List (Nat×EffF)) ( p0 p1 K):WP (yqA e) 6 yG5 [(.int .u64 p0),(.int .u64 p1)] K=yqz p0 p1 (fun r0=>K (.int .u64 r0)):=by kernel_rfl
theorem ymX (e:List (Nat×EffF)) (he:EG e):OkF (E e) ywT yc8:=by
 intro as K h
 unfold ywT yh4 at h
 split at h
 · exact WP_ok (yuN e he) (ybe (l:=[(32725300,ynP)]) ⟨yyF e he,trivial⟩ (by kernel_rfl)) (by kernel_rfl) (by kernel_rfl) (fun _=>yaa (by kernel_rfl) _) (he.num _ (by kernel_rfl)) ((yFr ..).mpr h)
 · exact h.elim
abbrev ycY:Type:=Bool→Int→Int→(Int→Int→Int→Prop)→Prop
def ymn (p0:Bool) (p1 p2:Int) (K:Int→Int→Int→Prop):Prop :=
 (cbr (decide ((if p2>p1 then p2 else p1)>(1000000000000000000:Int)))
 (K (0:Int) (0:Int) (16:Int))
 (cbr p0
 (K (IntKind.i64.wrap ((0:Int)-(IntKind.i64.wrap p1))) (IntKind.i64.wrap p2) (0:Int))
 (K (IntKind.i64.wrap p1) (IntKind.i64.wrap p2) (0:Int))))
def ycd (p0:Bool) (p1 p2:Int) (K:Int→Int→Int→Prop):Prop:=ymn p0 p1 p2 K
def ygS (w:ycY) (as:Ls) (K:PV→Prop):Prop :=
 match as with
 | [(.bool p0),(.int .u64 p1),(.int .u64 p2)]=>w p0 p1 p2 (fun r0 r1 r2=>K (.tup [(.agg [(.int .i64 r0),(.int .i64 r1)]),(.int .i64 r2)]))
 | _=>False
def yrB (as:Ls) (K:PV→Prop):Prop:=ygS ycd as K
def yAb:LP:=fun _ _ _ _ =>
 False
def yrC (e:List (Nat×EffF)):SE:=⟨(E e),lookS [],lookI [],yAb⟩
theorem yyG (e:List (Nat×EffF)) (he:EG e):SEOk (yrC e):=yao trivial trivial he.ok
theorem yAc (e:List (Nat×EffF)) ( p0 p1 p2 K):WP (yrC e) 6 yBv [(.bool p0),(.int .u64 p1),(.int .u64 p2)] K=ymn p0 p1 p2 (fun r0 r1 r2=>K (.tup [(.agg [(.int .i64 r0),(.int .i64 r1)]),(.int .i64 r2)])):=by kernel_rfl
theorem ymo (e:List (Nat×EffF)) (he:EG e):OkF (E e) yrB ydt:=by
 intro as K h
 unfold yrB ygS at h
 split at h
 · exact WP_ok (yyG e he) (yag (by kernel_rfl)) (by kernel_rfl) (by kernel_rfl) (fun _=>yaa (by kernel_rfl) _) (he.num _ (by kernel_rfl)) ((yAc ..).mpr h)
 · exact h.elim
abbrev ybf:Type:=Int→Int→(Int→Int→Int→Prop)→Prop
def yps (a0:ybQ) (a1:ydc) (a2:ycY) (p0 p1:Int) (K:Int→Int→Int→Prop):Prop :=
 (cbr (p1 ==(0:Int))
 (K (0:Int) (0:Int) (18:Int))
 (a0 p0 (fun b =>
 (a0 p1 (fun c =>
 (a1 b c (fun a =>
 (asr (!(decide (a=(0:Int))))
 (asr (!(decide (a=(0:Int))))
 (a2 ((decide (p0<(0:Int))) !=(decide (p1<(0:Int)))) (IntKind.u64.wrap (Int.tdiv b a)) (IntKind.u64.wrap (Int.tdiv c a)) (fun d e f =>
 (K d e f))))))))))))
def yal (p0 p1:Int) (K:Int→Int→Int→Prop):Prop:=yps ycG ycj ycd p0 p1 K
def yiy (w:ybf) (as:Ls) (K:PV→Prop):Prop :=
 match as with
 | [(.int .i64 p0),(.int .i64 p1)]=>w p0 p1 (fun r0 r1 r2=>K (.tup [(.agg [(.int .i64 r0),(.int .i64 r1)]),(.int .i64 r2)]))
 | _=>False
def yuO (as:Ls) (K:PV→Prop):Prop:=yiy yal as K
def yDc (_:ybQ) (_:ydc) (_:ycY):LP:=fun _ _ _ _ =>
 False
def yuP (e:List (Nat×EffF)) (a0:ybQ) (a1:ydc) (a2:ycY):SE:=⟨(E e),lookS [(ybw,yfI a0),(yc8,yh4 a1),(ydt,ygS a2)],lookI [],yDc a0 a1 a2⟩
theorem yBz (e:List (Nat×EffF)) (he:EG e):SEOk (yuP e ycG ycj ycd):=yao ⟨(yix e he),(ymX e he),(ymo e he),trivial⟩ trivial he.ok
theorem yDd (e:List (Nat×EffF)) (a0 a1 a2 p0 p1 K):WP (yuP e a0 a1 a2) 6 yFi [(.int .i64 p0),(.int .i64 p1)] K=yps a0 a1 a2 p0 p1 (fun r0 r1 r2=>K (.tup [(.agg [(.int .i64 r0),(.int .i64 r1)]),(.int .i64 r2)])):=by kernel_rfl
theorem ylo (e:List (Nat×EffF)) (he:EG e):OkF (E e) yuO yfr:=by
 intro as K h
 unfold yuO yiy at h
 split at h
 · exact WP_ok (yBz e he) (yag (by kernel_rfl)) (by kernel_rfl) (by kernel_rfl) (fun _=>yaa (by kernel_rfl) _) (he.num _ (by kernel_rfl)) ((yDd ..).mpr h)
 · exact h.elim
abbrev ycg:Type:=Int→Int→(Int→Prop)→Prop
def yn9 (a0:ybQ) (a1:ydc) (p0 p1:Int) (K:Int→Prop):Prop :=
 (cbr (decide (p1<(1:Int)))
 (K (8:Int))
 (a0 p0 (fun a =>
 (cbr (decide ((if (IntKind.u64.wrap p1)>a then (IntKind.u64.wrap p1) else a)>(1000000000000000000:Int)))
 (K (8:Int))
 (a0 p0 (fun b =>
 (a1 b (IntKind.u64.wrap p1) (fun c =>
 (cbr (decide (c>(1:Int)))
 (K (8:Int))
 (K (0:Int)))))))))))
def ybp (p0 p1:Int) (K:Int→Prop):Prop:=yn9 ycG ycj p0 p1 K
def yf8 (w:ycg) (as:Ls) (K:PV→Prop):Prop :=
 match as with
 | [(.agg [(.int .i64 p0),(.int .i64 p1)])]=>w p0 p1 (fun r0=>K (.int .i64 r0))
 | _=>False
def ysm (as:Ls) (K:PV→Prop):Prop:=yf8 ybp as K
def yBA (_:ybQ) (_:ydc):LP:=fun _ _ _ _ =>
 False
def ysn (e:List (Nat×EffF)) (a0:ybQ) (a1:ydc):SE:=⟨(E e),lookS [(ybw,yfI a0),(yc8,yh4 a1)],lookI [],yBA a0 a1⟩
theorem yAd (e:List (Nat×EffF)) (he:EG e):SEOk (ysn e ycG ycj):=yao ⟨(yix e he),(ymX e he),trivial⟩ trivial he.ok
theorem yBB (e:List (Nat×EffF)) (a0 a1 p0 p1 K):WP (ysn e a0 a1) 6 yC0 [(.agg [(.int .i64 p0),(.int .i64 p1)])] K=yn9 a0 a1 p0 p1 (fun r0=>K (.int .i64 r0)):=by kernel_rfl
theorem yhD (e:List (Nat×EffF)) (he:EG e):OkF (E e) ysm ycX:=by
 intro as K h
 unfold ysm yf8 at h
 split at h
 · exact WP_ok (yAd e he) (yag (by kernel_rfl)) (by kernel_rfl) (by kernel_rfl) (fun _=>yaa (by kernel_rfl) _) (he.num _ (by kernel_rfl)) ((yBB ..).mpr h)
 · exact h.elim
abbrev ygx:Type:=Ls→(Int→Prop)→Prop
def ybC (x0:Int→Prop) (x1:Int→Ls→Int→Int→Bool→Prop):Nat→Int→Ls→Int→Int→Prop
 | 0,_,_,_,_=>False
 | n+1,i0,l1,i2,i3 =>
 (cbr (decide (i3<i2))
 (asr (decide ((0:Int)≤i3))
 (asr (decide (i3<(((List.length l1):Nat):Int)))
 (asr (conf (.one (.i .i64)) (List.getD l1 (i3.toNat) .nils))
 (cbr ((intOfV (List.getD l1 (i3.toNat) .nils)) != i0)
 (x0 (intOfV (List.getD l1 (i3.toNat) .nils)))
 (ybC x0 x1 n i0 l1 i2 (IntKind.i64.wrap (i3+(1:Int))))))))
 (x1 i0 l1 i2 i3 false))
def yih (p0:Ls) (K:Int→Prop):Prop :=
 (∃ n:Nat,ybC
 (fun a=>(K a))
 (fun b _ _ _ _=>(K b))
 n (0:Int) p0 (((List.length p0):Nat):Int) (0:Int))
def ye6 (p0:Ls) (K:Int→Prop):Prop:=yih p0 K
def yii (w:ygx) (as:Ls) (K:PV→Prop):Prop :=
 match as with
 | [(.data p0)]=>w p0 (fun r0=>K (.int .i64 r0))
 | _=>False
def ymN (as:Ls) (K:PV→Prop):Prop:=yii ye6 as K
def ydd (F:Frm) (H:Hp) (A0:Int→Ls→Int→Int→Prop):Prop :=
 match F,H with
 | [(3,.v (.int .i64 i0)),(6,.v (.data l1)),(7,.v (.int .i64 i2)),(8,.v (.int .i64 i3))],[]=>(A0 i0 l1 i2 i3)
 | _,_=>False
def ygy (Q:Ex→Frm→Hp→Prop):Int→Prop:=(fun i0=>Q .ret [(2,.v (.int .i64 i0))] [])
def ygz (Q:Ex→Frm→Hp→Prop):Int→Ls→Int→Int→Bool→Prop:=(fun i0 l1 i2 i3 b4=>Q (.exit 0) [(3,.v (.int .i64 i0)),(6,.v (.data l1)),(7,.v (.int .i64 i2)),(8,.v (.int .i64 i3)),(9,.v (.bool b4))] [])
def yfw (Q:Ex→Frm→Hp→Prop) (n:Nat) (F:Frm) (H:Hp):Prop:=ydd F H (fun i0 l1 i2 i3=>ybC (ygy Q) (ygz Q) n i0 l1 i2 i3)
def yfZ:LP:=fun id F H Q =>
 bif Nat.beq id 38508400 then ydd F H (fun i0 l1 i2 i3=>∃ n:Nat,ybC (ygy Q) (ygz Q) n i0 l1 i2 i3) else
 False
def yij (e:List (Nat×EffF)):SE:=⟨(E e),lookS [],lookI [],yfZ⟩
theorem ylW (e:List (Nat×EffF)) (he:EG e):SEOk (yij e):=yao trivial trivial he.ok
theorem yoP (e:List (Nat×EffF)) ( Q n i0 l1 i2 i3):WC (E e) (callW (yij e) 5) (yfZ) ynQ [(3,.v (.int .i64 i0)),(6,.v (.data l1)),(7,.v (.int .i64 i2)),(8,.v (.int .i64 i3))] [] (fun x F' H'=>match x with | .norm=>yfw Q n F' H' | .exit i=>Q (.exit i) F' H' | .ret=>Q .ret F' H')=ybC (ygy Q) (ygz Q) (n+1) i0 l1 i2 i3:=by kernel_rfl
theorem yqB (e:List (Nat×EffF)) (_:EG e):LpOk (E e) (yfZ) ynQ:=(yag (by kernel_rfl))
theorem yqd (e:List (Nat×EffF)) (he:EG e):∀ F H Q,yfZ 38508400 F H Q→LoopT (E e) ynQ F H Q:=by
 intro F H Q h
 have go:=LoopT.intro (yaF (ylW e he) 5) (yqB e he) (yfw Q) (by
   intro F H h
   unfold yfw ydd at h
   split at h
   · exact h
   · exact h) (by
   intro n F H h
   unfold yfw ydd at h
   split at h
   · exact (yoP ..).mpr h
   · exact h.elim)
 have h:ydd F H _:=h
 unfold ydd at h
 split at h
 · obtain ⟨n,h⟩:=h;exact go n _ _ h
 · exact h.elim
theorem ytY (e:List (Nat×EffF)) ( p0 K):WP (yij e) 6 yvt [(.data p0)] K=yih p0 (fun r0=>K (.int .i64 r0)):=by kernel_rfl
theorem ytZ (e:List (Nat×EffF)) (he:EG e):OkF (E e) ymN ye2:=by
 intro as K h
 unfold ymN yii at h
 split at h
 · exact WP_ok (ylW e he) (ybe (l:=[(38508400,ynQ)]) ⟨yqd e he,trivial⟩ (by kernel_rfl)) (by kernel_rfl) (by kernel_rfl) (fun _=>yaa (by kernel_rfl) _) (he.num _ (by kernel_rfl)) ((ytY ..).mpr h)
 · exact h.elim
abbrev yby:Type:=Int→Int→Int→Int→(Int→Prop)→Prop
def yoa (a0:ycg) (a1:ygx) (p0 p1 p2 p3:Int) (K:Int→Prop):Prop :=
 (a0 p0 p1 (fun a =>
 (a0 p2 p3 (fun b =>
 (a1 ([(.int .i64 a),(.int .i64 b)]:Ls) (fun c =>
 (K c)))))))
def ych (p0 p1 p2 p3:Int) (K:Int→Prop):Prop:=yoa ybp ye6 p0 p1 p2 p3 K
def ye7 (w:yby) (as:Ls) (K:PV→Prop):Prop :=
 match as with
 | [(.agg [(.int .i64 p0),(.int .i64 p1)]),(.agg [(.int .i64 p2),(.int .i64 p3)])]=>w p0 p1 p2 p3 (fun r0=>K (.int .i64 r0))
 | _=>False
def yso (as:Ls) (K:PV→Prop):Prop:=ye7 ych as K
def yBC (_:ycg) (_:ygx):LP:=fun _ _ _ _ =>
 False
def ysp (e:List (Nat×EffF)) (a0:ycg) (a1:ygx):SE:=⟨(E e),lookS [(ycX,yf8 a0),(ye2,yii a1)],lookI [],yBC a0 a1⟩
theorem yAe (e:List (Nat×EffF)) (he:EG e):SEOk (ysp e ybp ye6):=yao ⟨(yhD e he),(ytZ e he),trivial⟩ trivial he.ok
theorem yBD (e:List (Nat×EffF)) (a0 a1 p0 p1 p2 p3 K):WP (ysp e a0 a1) 6 yC1 [(.agg [(.int .i64 p0),(.int .i64 p1)]),(.agg [(.int .i64 p2),(.int .i64 p3)])] K=yoa a0 a1 p0 p1 p2 p3 (fun r0=>K (.int .i64 r0)):=by kernel_rfl
theorem yhE (e:List (Nat×EffF)) (he:EG e):OkF (E e) yso ycf:=by
 intro as K h
 unfold yso ye7 at h
 split at h
 · exact WP_ok (yAe e he) (yag (by kernel_rfl)) (by kernel_rfl) (by kernel_rfl) (fun _=>yaa (by kernel_rfl) _) (he.num _ (by kernel_rfl)) ((yBD ..).mpr h)
 · exact h.elim
abbrev yhr:Type:=Int→(Bool→Prop)→Prop
def yiS (p0:Int) (K:Bool→Prop):Prop :=
 (K (p0 != p0))
def yhs (p0:Int) (K:Bool→Prop):Prop:=yiS p0 K
def yiT (w:yhr) (as:Ls) (K:PV→Prop):Prop :=
 match as with
 | [(.int .i64 p0)]=>w p0 (fun r0=>K (.bool r0))
 | _=>False
def yob (as:Ls) (K:PV→Prop):Prop:=yiT yhs as K
def yvB:LP:=fun _ _ _ _ =>
 False
def yoc (e:List (Nat×EffF)):SE:=⟨(E e),lookS [],lookI [],yvB⟩
theorem yt0 (e:List (Nat×EffF)) (he:EG e):SEOk (yoc e):=yao trivial trivial he.ok
theorem yvC (e:List (Nat×EffF)) ( p0 K):WP (yoc e) 6 ywO [(.int .i64 p0)] K=yiS p0 (fun r0=>K (.bool r0)):=by kernel_rfl
theorem yvD (e:List (Nat×EffF)) (he:EG e):OkF (E e) yob yen:=by
 intro as K h
 unfold yob yiT at h
 split at h
 · exact WP_ok (yt0 e he) (yag (by kernel_rfl)) (by kernel_rfl) (by kernel_rfl) (fun _=>yaa (by kernel_rfl) _) (he.num _ (by kernel_rfl)) ((yvC ..).mpr h)
 · exact h.elim
abbrev yf0:Type:=Int→Int→(Int→Prop)→Prop
def yhF (a0:yhr) (p0 p1:Int) (K:Int→Prop):Prop :=
 (a0 p0 (fun b =>
 (a0 p1 (fun a =>
 (cbr b
 (cbr a
 (K (0:Int))
 (K (-1:Int)))
 (cbr a
 (K (1:Int))
 (cbr (decide (p0<p1))
 (K (-1:Int))
 (cbr (decide (p0>p1))
 (K (1:Int))
 (K (0:Int))))))))))
def yeD (p0 p1:Int) (K:Int→Prop):Prop:=yhF yhs p0 p1 K
def yhG (w:yf0) (as:Ls) (K:PV→Prop):Prop :=
 match as with
 | [(.int .i64 p0),(.int .i64 p1)]=>w p0 p1 (fun r0=>K (.int .i64 r0))
 | _=>False
def ylX (as:Ls) (K:PV→Prop):Prop:=yhG yeD as K
def ysq (_:yhr):LP:=fun _ _ _ _ =>
 False
def ylY (e:List (Nat×EffF)) (a0:yhr):SE:=⟨(E e),lookS [(yen,yiT a0)],lookI [],ysq a0⟩
theorem yrQ (e:List (Nat×EffF)) (he:EG e):SEOk (ylY e yhs):=yao ⟨(yvD e he),trivial⟩ trivial he.ok
theorem ysr (e:List (Nat×EffF)) (a0 p0 p1 K):WP (ylY e a0) 6 ytV [(.int .i64 p0),(.int .i64 p1)] K=yhF a0 p0 p1 (fun r0=>K (.int .i64 r0)):=by kernel_rfl
theorem yss (e:List (Nat×EffF)) (he:EG e):OkF (E e) ylX yeB:=by
 intro as K h
 unfold ylX yhG at h
 split at h
 · exact WP_ok (yrQ e he) (yag (by kernel_rfl)) (by kernel_rfl) (by kernel_rfl) (fun _=>yaa (by kernel_rfl) _) (he.num _ (by kernel_rfl)) ((ysr ..).mpr h)
 · exact h.elim
abbrev ygZ:Type:=Int→Int→(Int→Int→Prop)→Prop
def yvE (p0 p1:Int) (K:Int→Int→Prop):Prop :=
 (K (IntKind.u64.wrap ((IntKind.u64.wrap ((IntKind.u64.wrap ((Int.fdiv p0 4294967296)*(Int.fdiv p1 4294967296)))+(Int.fdiv (IntKind.u64.wrap ((IntKind.u64.wrap ((Int.fdiv p0 4294967296)*(IntKind.u64.wrap (BitVec.ofInt IntKind.u64.bits p1&&&BitVec.ofInt IntKind.u64.bits (4294967295:Int)).toNat)))+(Int.fdiv (IntKind.u64.wrap ((IntKind.u64.wrap (BitVec.ofInt IntKind.u64.bits p0&&&BitVec.ofInt IntKind.u64.bits (4294967295:Int)).toNat)*(IntKind.u64.wrap (BitVec.ofInt IntKind.u64.bits p1&&&BitVec.ofInt IntKind.u64.bits (4294967295:Int)).toNat))) 4294967296))) 4294967296)))+(Int.fdiv (IntKind.u64.wrap ((IntKind.u64.wrap (BitVec.ofInt IntKind.u64.bits (IntKind.u64.wrap ((IntKind.u64.wrap ((Int.fdiv p0 4294967296)*(IntKind.u64.wrap (BitVec.ofInt IntKind.u64.bits p1&&&BitVec.ofInt IntKind.u64.bits (4294967295:Int)).toNat)))+(Int.fdiv (IntKind.u64.wrap ((IntKind.u64.wrap (BitVec.ofInt IntKind.u64.bits p0&&&BitVec.ofInt IntKind.u64.bits (4294967295:Int)).toNat)*(IntKind.u64.wrap (BitVec.ofInt IntKind.u64.bits p1&&&BitVec.ofInt IntKind.u64.bits (4294967295:Int)).toNat))) 4294967296)))&&&BitVec.ofInt IntKind.u64.bits (4294967295:Int)).toNat)+(IntKind.u64.wrap ((IntKind.u64.wrap (BitVec.ofInt IntKind.u64.bits p0&&&BitVec.ofInt IntKind.u64.bits (4294967295:Int)).toNat)*(Int.fdiv p1 4294967296))))) 4294967296))) (IntKind.u64.wrap (p0*p1)))
def yfg (p0 p1:Int) (K:Int→Int→Prop):Prop:=yvE p0 p1 K
def yod (w:ygZ) (as:Ls) (K:PV→Prop):Prop :=
 match as with
 | [(.int .u64 p0),(.int .u64 p1)]=>w p0 p1 (fun r0 r1=>K (.tup [(.int .u64 r0),(.int .u64 r1)]))
 | _=>False
def yBE (as:Ls) (K:PV→Prop):Prop:=yod yfg as K
def yJh:LP:=fun _ _ _ _ =>
 False
def yBF (e:List (Nat×EffF)):SE:=⟨(E e),lookS [],lookI [],yJh⟩
theorem yHl (e:List (Nat×EffF)) (he:EG e):SEOk (yBF e):=yao trivial trivial he.ok
theorem yJi (e:List (Nat×EffF)) ( p0 p1 K):WP (yBF e) 6 yLl [(.int .u64 p0),(.int .u64 p1)] K=yvE p0 p1 (fun r0 r1=>K (.tup [(.int .u64 r0),(.int .u64 r1)])):=by kernel_rfl
theorem yvF (e:List (Nat×EffF)) (he:EG e):OkF (E e) yBE yeQ:=by
 intro as K h
 unfold yBE yod at h
 split at h
 · exact WP_ok (yHl e he) (yag (by kernel_rfl)) (by kernel_rfl) (by kernel_rfl) (fun _=>yaa (by kernel_rfl) _) (he.num _ (by kernel_rfl)) ((yJi ..).mpr h)
 · exact h.elim
abbrev ygA:Type:=Int→(Bool→Prop)→Prop
def yik (p0:Int) (K:Bool→Prop):Prop :=
 (K (p0 != p0))
def ygB (p0:Int) (K:Bool→Prop):Prop:=yik p0 K
def yil (w:ygA) (as:Ls) (K:PV→Prop):Prop :=
 match as with
 | [(.int .u64 p0)]=>w p0 (fun r0=>K (.bool r0))
 | _=>False
def ymO (as:Ls) (K:PV→Prop):Prop:=yil ygB as K
def yt1:LP:=fun _ _ _ _ =>
 False
def ymP (e:List (Nat×EffF)):SE:=⟨(E e),lookS [],lookI [],yt1⟩
theorem yst (e:List (Nat×EffF)) (he:EG e):SEOk (ymP e):=yao trivial trivial he.ok
theorem yt2 (e:List (Nat×EffF)) ( p0 K):WP (ymP e) 6 yvu [(.int .u64 p0)] K=yik p0 (fun r0=>K (.bool r0)):=by kernel_rfl
theorem yt3 (e:List (Nat×EffF)) (he:EG e):OkF (E e) ymO ydS:=by
 intro as K h
 unfold ymO yil at h
 split at h
 · exact WP_ok (yst e he) (yag (by kernel_rfl)) (by kernel_rfl) (by kernel_rfl) (fun _=>yaa (by kernel_rfl) _) (he.num _ (by kernel_rfl)) ((yt2 ..).mpr h)
 · exact h.elim
abbrev yfx:Type:=Int→Int→(Int→Prop)→Prop
def yhi (a0:ygA) (p0 p1:Int) (K:Int→Prop):Prop :=
 (a0 p0 (fun b =>
 (a0 p1 (fun a =>
 (cbr b
 (cbr a
 (K (0:Int))
 (K (-1:Int)))
 (cbr a
 (K (1:Int))
 (cbr (decide (p0<p1))
 (K (-1:Int))
 (cbr (decide (p0>p1))
 (K (1:Int))
 (K (0:Int))))))))))
def yeg (p0 p1:Int) (K:Int→Prop):Prop:=yhi ygB p0 p1 K
def yhj (w:yfx) (as:Ls) (K:PV→Prop):Prop :=
 match as with
 | [(.int .u64 p0),(.int .u64 p1)]=>w p0 p1 (fun r0=>K (.int .i64 r0))
 | _=>False
def yku (as:Ls) (K:PV→Prop):Prop:=yhj yeg as K
def yrR (_:ygA):LP:=fun _ _ _ _ =>
 False
def ykv (e:List (Nat×EffF)) (a0:ygA):SE:=⟨(E e),lookS [(ydS,yil a0)],lookI [],yrR a0⟩
theorem yqC (e:List (Nat×EffF)) (he:EG e):SEOk (ykv e ygB):=yao ⟨(yt3 e he),trivial⟩ trivial he.ok
theorem yrS (e:List (Nat×EffF)) (a0 p0 p1 K):WP (ykv e a0) 6 ysj [(.int .u64 p0),(.int .u64 p1)] K=yhi a0 p0 p1 (fun r0=>K (.int .i64 r0)):=by kernel_rfl
theorem yrT (e:List (Nat×EffF)) (he:EG e):OkF (E e) yku yc9:=by
 intro as K h
 unfold yku yhj at h
 split at h
 · exact WP_ok (yqC e he) (yag (by kernel_rfl)) (by kernel_rfl) (by kernel_rfl) (fun _=>yaa (by kernel_rfl) _) (he.num _ (by kernel_rfl)) ((yrS ..).mpr h)
 · exact h.elim
abbrev ymY:Type:=Ls→(Int→Prop)→Prop
def yde (x0:Int→Prop) (x1:Int→Ls→Int→Int→Bool→Prop):Nat→Int→Ls→Int→Int→Prop
 | 0,_,_,_,_=>False
 | n+1,i0,l1,i2,i3 =>
 (cbr (decide (i3<i2))
 (asr (decide ((0:Int)≤i3))
 (asr (decide (i3<(((List.length l1):Nat):Int)))
 (asr (conf (.one (.i .i64)) (List.getD l1 (i3.toNat) .nils))
 (cbr ((intOfV (List.getD l1 (i3.toNat) .nils)) != i0)
 (x0 (intOfV (List.getD l1 (i3.toNat) .nils)))
 (yde x0 x1 n i0 l1 i2 (IntKind.i64.wrap (i3+(1:Int))))))))
 (x1 i0 l1 i2 i3 false))
def ypt (p0:Ls) (K:Int→Prop):Prop :=
 (∃ n:Nat,yde
 (fun a=>(K a))
 (fun b _ _ _ _=>(K b))
 n (0:Int) p0 (((List.length p0):Nat):Int) (0:Int))
def yjN (p0:Ls) (K:Int→Prop):Prop:=ypt p0 K
def ypu (w:ymY) (as:Ls) (K:PV→Prop):Prop :=
 match as with
 | [(.data p0)]=>w p0 (fun r0=>K (.int .i64 r0))
 | _=>False
def yuQ (as:Ls) (K:PV→Prop):Prop:=ypu yjN as K
def yf9 (F:Frm) (H:Hp) (A0:Int→Ls→Int→Int→Prop):Prop :=
 match F,H with
 | [(3,.v (.int .i64 i0)),(6,.v (.data l1)),(7,.v (.int .i64 i2)),(8,.v (.int .i64 i3))],[]=>(A0 i0 l1 i2 i3)
 | _,_=>False
def ykP (Q:Ex→Frm→Hp→Prop):Int→Prop:=(fun i0=>Q .ret [(2,.v (.int .i64 i0))] [])
def ykQ (Q:Ex→Frm→Hp→Prop):Int→Ls→Int→Int→Bool→Prop:=(fun i0 l1 i2 i3 b4=>Q (.exit 0) [(3,.v (.int .i64 i0)),(6,.v (.data l1)),(7,.v (.int .i64 i2)),(8,.v (.int .i64 i3)),(9,.v (.bool b4))] [])
def yjO (Q:Ex→Frm→Hp→Prop) (n:Nat) (F:Frm) (H:Hp):Prop:=yf9 F H (fun i0 l1 i2 i3=>yde (ykP Q) (ykQ Q) n i0 l1 i2 i3)
def ylp:LP:=fun id F H Q =>
 bif Nat.beq id 53260600 then yf9 F H (fun i0 l1 i2 i3=>∃ n:Nat,yde (ykP Q) (ykQ Q) n i0 l1 i2 i3) else
 False
def ypv (e:List (Nat×EffF)):SE:=⟨(E e),lookS [],lookI [],ylp⟩
theorem ysu (e:List (Nat×EffF)) (he:EG e):SEOk (ypv e):=yao trivial trivial he.ok
theorem yt4 (e:List (Nat×EffF)) ( Q n i0 l1 i2 i3):WC (E e) (callW (ypv e) 5) (ylp) ynR [(3,.v (.int .i64 i0)),(6,.v (.data l1)),(7,.v (.int .i64 i2)),(8,.v (.int .i64 i3))] [] (fun x F' H'=>match x with | .norm=>yjO Q n F' H' | .exit i=>Q (.exit i) F' H' | .ret=>Q .ret F' H')=yde (ykP Q) (ykQ Q) (n+1) i0 l1 i2 i3:=by kernel_rfl
theorem yyH (e:List (Nat×EffF)) (_:EG e):LpOk (E e) (ylp) ynR:=(yag (by kernel_rfl))
theorem ywU (e:List (Nat×EffF)) (he:EG e):∀ F H Q,ylp 53260600 F H Q→LoopT (E e) ynR F H Q:=by
 intro F H Q h
 have go:=LoopT.intro (yaF (ysu e he) 5) (yyH e he) (yjO Q) (by
   intro F H h
   unfold yjO yf9 at h
   split at h
   · exact h
   · exact h) (by
   intro n F H h
   unfold yjO yf9 at h
   split at h
   · exact (yt4 ..).mpr h
   · exact h.elim)
 have h:yf9 F H _:=h
 unfold yf9 at h
 split at h
 · obtain ⟨n,h⟩:=h;exact go n _ _ h
 · exact h.elim
theorem yDe (e:List (Nat×EffF)) ( p0 K):WP (ypv e) 6 yFk [(.data p0)] K=ypt p0 (fun r0=>K (.int .i64 r0)):=by kernel_rfl
theorem yDf (e:List (Nat×EffF)) (he:EG e):OkF (E e) yuQ yjF:=by
 intro as K h
 unfold yuQ ypu at h
 split at h
 · exact WP_ok (ysu e he) (ybe (l:=[(53260600,ynR)]) ⟨ywU e he,trivial⟩ (by kernel_rfl)) (by kernel_rfl) (by kernel_rfl) (fun _=>yaa (by kernel_rfl) _) (he.num _ (by kernel_rfl)) ((yDe ..).mpr h)
 · exact h.elim
abbrev ybD:Type:=Int→Int→Int→Int→(Int→Int→Prop)→Prop
def yqD (a0:yby) (a1:yf0) (a2:ybQ) (a3:ygZ) (a4:yfx) (a5:ymY) (p0 p1 p2 p3:Int) (K:Int→Int→Prop):Prop :=
 (a0 p0 p1 p2 p3 (fun a =>
 (cbr (a !=(0:Int))
 (K (0:Int) a)
 (cbr ((decide (p0<(0:Int))) !=(decide (p2<(0:Int))))
 (a1 p0 p2 (fun c =>
 (K c (0:Int))))
 (a2 p0 (fun d =>
 (a3 d (IntKind.u64.wrap p3) (fun e f =>
 (a2 p2 (fun g =>
 (a3 g (IntKind.u64.wrap p1) (fun h i =>
 (a4 e h (fun j =>
 (a4 f i (fun k =>
 (a5 ([(.int .i64 j),(.int .i64 k)]:Ls) (fun b =>
 (cbr (decide (p0<(0:Int)))
 (K (IntKind.i64.wrap ((0:Int)-b)) (0:Int))
 (K b (0:Int)))))))))))))))))))))
def ybL (p0 p1 p2 p3:Int) (K:Int→Int→Prop):Prop:=yqD ych yeD ycG yfg yeg yjN p0 p1 p2 p3 K
def yfy (w:ybD) (as:Ls) (K:PV→Prop):Prop :=
 match as with
 | [(.agg [(.int .i64 p0),(.int .i64 p1)]),(.agg [(.int .i64 p2),(.int .i64 p3)])]=>w p0 p1 p2 p3 (fun r0 r1=>K (.tup [(.int .i64 r0),(.int .i64 r1)]))
 | _=>False
def ywV (as:Ls) (K:PV→Prop):Prop:=yfy ybL as K
def yFs (_:yby) (_:yf0) (_:ybQ) (_:ygZ) (_:yfx) (_:ymY):LP:=fun _ _ _ _ =>
 False
def ywW (e:List (Nat×EffF)) (a0:yby) (a1:yf0) (a2:ybQ) (a3:ygZ) (a4:yfx) (a5:ymY):SE:=⟨(E e),lookS [(ycf,ye7 a0),(yeB,yhG a1),(ybw,yfI a2),(yeQ,yod a3),(yc9,yhj a4),(yjF,ypu a5)],lookI [],yFs a0 a1 a2 a3 a4 a5⟩
theorem yDg (e:List (Nat×EffF)) (he:EG e):SEOk (ywW e ych yeD ycG yfg yeg yjN):=yao ⟨(yhE e he),(yss e he),(yix e he),(yvF e he),(yrT e he),(yDf e he),trivial⟩ trivial he.ok
theorem yFt (e:List (Nat×EffF)) (a0 a1 a2 a3 a4 a5 p0 p1 p2 p3 K):WP (ywW e a0 a1 a2 a3 a4 a5) 6 yG6 [(.agg [(.int .i64 p0),(.int .i64 p1)]),(.agg [(.int .i64 p2),(.int .i64 p3)])] K=yqD a0 a1 a2 a3 a4 a5 p0 p1 p2 p3 (fun r0 r1=>K (.tup [(.int .i64 r0),(.int .i64 r1)])):=by kernel_rfl
theorem ygC (e:List (Nat×EffF)) (he:EG e):OkF (E e) ywV ycv:=by
 intro as K h
 unfold ywV yfy at h
 split at h
 · exact WP_ok (yDg e he) (yag (by kernel_rfl)) (by kernel_rfl) (by kernel_rfl) (fun _=>yaa (by kernel_rfl) _) (he.num _ (by kernel_rfl)) ((yFt ..).mpr h)
 · exact h.elim
abbrev ytI:Type:=Int→(Int→Prop)→Prop
def yvG (p0:Int) (K:Int→Prop):Prop :=
 (cbr (decide (p0≥(4294967296:Int)))
 (cbr (decide ((Int.fdiv p0 4294967296)≥(65536:Int)))
 (cbr (decide ((Int.fdiv (Int.fdiv p0 4294967296) 65536)≥(256:Int)))
 (asr (decide ((0:Int)≤(IntKind.u8.wrap (Int.fdiv (Int.fdiv (Int.fdiv p0 4294967296) 65536) 256))))
 (asr (decide ((IntKind.u8.wrap (Int.fdiv (Int.fdiv (Int.fdiv p0 4294967296) 65536) 256))<(256:Int)))
 (K (IntKind.i64.wrap ((56:Int)+(IntKind.i64.wrap (intOfV (List.getD len8tab ((IntKind.u8.wrap (Int.fdiv (Int.fdiv (Int.fdiv p0 4294967296) 65536) 256)).toNat) .nils))))))))
 (asr (decide ((0:Int)≤(IntKind.u8.wrap (Int.fdiv (Int.fdiv p0 4294967296) 65536))))
 (asr (decide ((IntKind.u8.wrap (Int.fdiv (Int.fdiv p0 4294967296) 65536))<(256:Int)))
 (K (IntKind.i64.wrap ((48:Int)+(IntKind.i64.wrap (intOfV (List.getD len8tab ((IntKind.u8.wrap (Int.fdiv (Int.fdiv p0 4294967296) 65536)).toNat) .nils)))))))))
 (cbr (decide ((Int.fdiv p0 4294967296)≥(256:Int)))
 (asr (decide ((0:Int)≤(IntKind.u8.wrap (Int.fdiv (Int.fdiv p0 4294967296) 256))))
 (asr (decide ((IntKind.u8.wrap (Int.fdiv (Int.fdiv p0 4294967296) 256))<(256:Int)))
 (K (IntKind.i64.wrap ((40:Int)+(IntKind.i64.wrap (intOfV (List.getD len8tab ((IntKind.u8.wrap (Int.fdiv (Int.fdiv p0 4294967296) 256)).toNat) .nils))))))))
 (asr (decide ((0:Int)≤(IntKind.u8.wrap (Int.fdiv p0 4294967296))))
 (asr (decide ((IntKind.u8.wrap (Int.fdiv p0 4294967296))<(256:Int)))
 (K (IntKind.i64.wrap ((32:Int)+(IntKind.i64.wrap (intOfV (List.getD len8tab ((IntKind.u8.wrap (Int.fdiv p0 4294967296)).toNat) .nils))))))))))
 (cbr (decide (p0≥(65536:Int)))
 (cbr (decide ((Int.fdiv p0 65536)≥(256:Int)))
 (asr (decide ((0:Int)≤(IntKind.u8.wrap (Int.fdiv (Int.fdiv p0 65536) 256))))
 (asr (decide ((IntKind.u8.wrap (Int.fdiv (Int.fdiv p0 65536) 256))<(256:Int)))
 (K (IntKind.i64.wrap ((24:Int)+(IntKind.i64.wrap (intOfV (List.getD len8tab ((IntKind.u8.wrap (Int.fdiv (Int.fdiv p0 65536) 256)).toNat) .nils))))))))
 (asr (decide ((0:Int)≤(IntKind.u8.wrap (Int.fdiv p0 65536))))
 (asr (decide ((IntKind.u8.wrap (Int.fdiv p0 65536))<(256:Int)))
 (K (IntKind.i64.wrap ((16:Int)+(IntKind.i64.wrap (intOfV (List.getD len8tab ((IntKind.u8.wrap (Int.fdiv p0 65536)).toNat) .nils)))))))))
 (cbr (decide (p0≥(256:Int)))
 (asr (decide ((0:Int)≤(IntKind.u8.wrap (Int.fdiv p0 256))))
 (asr (decide ((IntKind.u8.wrap (Int.fdiv p0 256))<(256:Int)))
 (K (IntKind.i64.wrap ((8:Int)+(IntKind.i64.wrap (intOfV (List.getD len8tab ((IntKind.u8.wrap (Int.fdiv p0 256)).toNat) .nils))))))))
 (asr (decide ((0:Int)≤(IntKind.u8.wrap p0)))
 (asr (decide ((IntKind.u8.wrap p0)<(256:Int)))
 (K (IntKind.i64.wrap ((0:Int)+(IntKind.i64.wrap (intOfV (List.getD len8tab ((IntKind.u8.wrap p0).toNat) .nils)))))))))))
def yqe (p0:Int) (K:Int→Prop):Prop:=yvG p0 K
def yvH (w:ytI) (as:Ls) (K:PV→Prop):Prop :=
 match as with
 | [(.int .u64 p0)]=>w p0 (fun r0=>K (.int .i64 r0))
 | _=>False
def yBG (as:Ls) (K:PV→Prop):Prop:=yvH yqe as K
def yJj:LP:=fun _ _ _ _ =>
 False
def yBH (e:List (Nat×EffF)):SE:=⟨(E e),lookS [],lookI [],yJj⟩
theorem yHm (e:List (Nat×EffF)) (he:EG e):SEOk (yBH e):=yao trivial trivial he.ok
theorem yJk (e:List (Nat×EffF)) ( p0 K):WP (yBH e) 6 yLm [(.int .u64 p0)] K=yvG p0 (fun r0=>K (.int .i64 r0)):=by kernel_rfl
theorem yJl (e:List (Nat×EffF)) (he:EG e):OkF (E e) yBG ynp:=by
 intro as K h
 unfold yBG yvH at h
 split at h
 · exact WP_ok (yHm e he) (yag (by kernel_rfl)) (by kernel_rfl) (by kernel_rfl) (fun _=>yaa (by kernel_rfl) _) (he.num _ (by kernel_rfl)) ((yJk ..).mpr h)
 · exact h.elim
abbrev ybJ:Type:=Int→(Int→Prop)→Prop
def yim (a0:ytI) (p0:Int) (K:Int→Prop):Prop :=
 (a0 p0 (fun a =>
 (K (IntKind.i64.wrap ((64:Int)-a)))))
def ybi (p0:Int) (K:Int→Prop):Prop:=yim yqe p0 K
def yin (w:ybJ) (as:Ls) (K:PV→Prop):Prop :=
 match as with
 | [(.int .u64 p0)]=>w p0 (fun r0=>K (.int .i64 r0))
 | _=>False
def ymQ (as:Ls) (K:PV→Prop):Prop:=yin ybi as K
def yt5 (_:ytI):LP:=fun _ _ _ _ =>
 False
def ymR (e:List (Nat×EffF)) (a0:ytI):SE:=⟨(E e),lookS [(ynp,yvH a0)],lookI [],yt5 a0⟩
theorem ysv (e:List (Nat×EffF)) (he:EG e):SEOk (ymR e yqe):=yao ⟨(yJl e he),trivial⟩ trivial he.ok
theorem yt6 (e:List (Nat×EffF)) (a0 p0 K):WP (ymR e a0) 6 yvv [(.int .u64 p0)] K=yim a0 p0 (fun r0=>K (.int .i64 r0)):=by kernel_rfl
theorem yt7 (e:List (Nat×EffF)) (he:EG e):OkF (E e) ymQ ye3:=by
 intro as K h
 unfold ymQ yin at h
 split at h
 · exact WP_ok (ysv e he) (yag (by kernel_rfl)) (by kernel_rfl) (by kernel_rfl) (fun _=>yaa (by kernel_rfl) _) (he.num _ (by kernel_rfl)) ((yt6 ..).mpr h)
 · exact h.elim
abbrev ykR:Type:=Int→Int→Int→(Int→Int→Prop)→Prop
mutual
def yg0 (a0:ybJ) (a:Int→Int→Int→Int→Int→Int→Int→Int→Int→Bool→Prop) (b:Int→Int→Int→Int→Int→Int→Int→Int→Int→Bool→Prop):Nat→Int→Int→Int→Int→Int→Int→Int→Int→Int→Prop
 | 0,_,_,_,_,_,_,_,_,_=>False
 | c+1,i0,i1,i2,i3,i4,i5,i6,i7,i8 =>
 (cbr (decide (i7≥(4294967296:Int)))
 (cbr (decide ((IntKind.u64.wrap (i8+i2))≥(4294967296:Int)))
 (a i0 i1 i2 i3 i4 i5 i6 (IntKind.u64.wrap (i7-(1:Int))) (IntKind.u64.wrap (i8+i2)) true)
 (ydo a0 a b c i0 i1 i2 i3 i4 i5 i6 (IntKind.u64.wrap (i7-(1:Int))) (IntKind.u64.wrap (i8+i2)) false))
 (cbr (decide ((IntKind.u64.wrap (i7*i3))>(IntKind.u64.wrap ((IntKind.u64.wrap ((4294967296:Int)*i8))+i5))))
 (cbr (decide ((IntKind.u64.wrap (i8+i2))≥(4294967296:Int)))
 (a i0 i1 i2 i3 i4 i5 i6 (IntKind.u64.wrap (i7-(1:Int))) (IntKind.u64.wrap (i8+i2)) true)
 (ydo a0 a b c i0 i1 i2 i3 i4 i5 i6 (IntKind.u64.wrap (i7-(1:Int))) (IntKind.u64.wrap (i8+i2)) false))
 (b i0 i1 i2 i3 i4 i5 i6 i7 i8 false)))
def ydo (a0:ybJ) (a:Int→Int→Int→Int→Int→Int→Int→Int→Int→Bool→Prop) (b:Int→Int→Int→Int→Int→Int→Int→Int→Int→Bool→Prop):Nat→Int→Int→Int→Int→Int→Int→Int→Int→Int→Bool→Prop
 | 0,_,_,_,_,_,_,_,_,_,_=>False
 | c+1,i0,i1,i2,i3,i4,i5,i6,i7,i8,_ =>
 (cbr (decide (i7≥(4294967296:Int)))
 (cbr (decide ((IntKind.u64.wrap (i8+i2))≥(4294967296:Int)))
 (a i0 i1 i2 i3 i4 i5 i6 (IntKind.u64.wrap (i7-(1:Int))) (IntKind.u64.wrap (i8+i2)) true)
 (ydo a0 a b c i0 i1 i2 i3 i4 i5 i6 (IntKind.u64.wrap (i7-(1:Int))) (IntKind.u64.wrap (i8+i2)) false))
 (cbr (decide ((IntKind.u64.wrap (i7*i3))>(IntKind.u64.wrap ((IntKind.u64.wrap ((4294967296:Int)*i8))+i5))))
 (cbr (decide ((IntKind.u64.wrap (i8+i2))≥(4294967296:Int)))
 (a i0 i1 i2 i3 i4 i5 i6 (IntKind.u64.wrap (i7-(1:Int))) (IntKind.u64.wrap (i8+i2)) true)
 (ydo a0 a b c i0 i1 i2 i3 i4 i5 i6 (IntKind.u64.wrap (i7-(1:Int))) (IntKind.u64.wrap (i8+i2)) false))
 (b i0 i1 i2 i3 i4 i5 i6 i7 i8 false)))
end
mutual
def yeN (a0:ybJ) (a:Int→Int→Int→Int→Int→Int→Int→Int→Int→Bool→Prop) (b:Int→Int→Int→Int→Int→Int→Int→Int→Int→Bool→Prop):Nat→Int→Int→Int→Int→Int→Int→Int→Int→Int→Prop
 | 0,_,_,_,_,_,_,_,_,_=>False
 | c+1,i0,i1,i2,i3,i4,i5,i6,i7,i8 =>
 (cbr (decide (i8≥(4294967296:Int)))
 (cbr (decide ((IntKind.u64.wrap (i6+i2))≥(4294967296:Int)))
 (a i0 i1 i2 i3 i4 i5 (IntKind.u64.wrap (i6+i2)) i7 (IntKind.u64.wrap (i8-(1:Int))) true)
 (ydp a0 a b c i0 i1 i2 i3 i4 i5 (IntKind.u64.wrap (i6+i2)) i7 (IntKind.u64.wrap (i8-(1:Int))) false))
 (cbr (decide ((IntKind.u64.wrap (i8*i3))>(IntKind.u64.wrap ((IntKind.u64.wrap ((4294967296:Int)*i6))+i4))))
 (cbr (decide ((IntKind.u64.wrap (i6+i2))≥(4294967296:Int)))
 (a i0 i1 i2 i3 i4 i5 (IntKind.u64.wrap (i6+i2)) i7 (IntKind.u64.wrap (i8-(1:Int))) true)
 (ydp a0 a b c i0 i1 i2 i3 i4 i5 (IntKind.u64.wrap (i6+i2)) i7 (IntKind.u64.wrap (i8-(1:Int))) false))
 (b i0 i1 i2 i3 i4 i5 i6 i7 i8 false)))
def ydp (a0:ybJ) (a:Int→Int→Int→Int→Int→Int→Int→Int→Int→Bool→Prop) (b:Int→Int→Int→Int→Int→Int→Int→Int→Int→Bool→Prop):Nat→Int→Int→Int→Int→Int→Int→Int→Int→Int→Bool→Prop
 | 0,_,_,_,_,_,_,_,_,_,_=>False
 | c+1,i0,i1,i2,i3,i4,i5,i6,i7,i8,_ =>
 (cbr (decide (i8≥(4294967296:Int)))
 (cbr (decide ((IntKind.u64.wrap (i6+i2))≥(4294967296:Int)))
 (a i0 i1 i2 i3 i4 i5 (IntKind.u64.wrap (i6+i2)) i7 (IntKind.u64.wrap (i8-(1:Int))) true)
 (ydp a0 a b c i0 i1 i2 i3 i4 i5 (IntKind.u64.wrap (i6+i2)) i7 (IntKind.u64.wrap (i8-(1:Int))) false))
 (cbr (decide ((IntKind.u64.wrap (i8*i3))>(IntKind.u64.wrap ((IntKind.u64.wrap ((4294967296:Int)*i6))+i4))))
 (cbr (decide ((IntKind.u64.wrap (i6+i2))≥(4294967296:Int)))
 (a i0 i1 i2 i3 i4 i5 (IntKind.u64.wrap (i6+i2)) i7 (IntKind.u64.wrap (i8-(1:Int))) true)
 (ydp a0 a b c i0 i1 i2 i3 i4 i5 (IntKind.u64.wrap (i6+i2)) i7 (IntKind.u64.wrap (i8-(1:Int))) false))
 (b i0 i1 i2 i3 i4 i5 i6 i7 i8 false)))
end
end Go.Pf.Vc
