/- Part 2 of what the statement rests on: a verified evaluator over pure values, the conditions of the program's functions, and their plain laws. -/
import Derived.Test.YtegkpannhahmcaaGreatPiW1
namespace Go.Pf
open Go
section
variable {H:Type} {enc:TypeId×Value→H} {P:Program} {w:World} {I:Nat→Prop}
theorem yH9 (K:Kids P (·<P.types.size)):∀ n,Opens enc P w I n:=by
 intro n
 induction n with
 | zero=>intro d t cs x _ _ h;simp [DataW.trod] at h
 | succ n ih =>
   intro d t cs x hrow hty h hI
   cases d with
   | b =>
     unfold tyOk at hty
     split at hty
     · rename_i ht
       obtain ⟨b,rfl,_⟩:=DataW.trod_bool ht h
       refine ⟨[.bool b],by simp only [HasF];exact ⟨b,rfl⟩,?_⟩
       simp only [CellsC,RC]
       exact ⟨_,_,rfl,rfl,rfl,rfl⟩
     · cases hty
   | i k =>
     unfold tyOk at hty
     split at hty
     · rename_i q ht
       simp only [decide_eq_true_eq] at hty
       subst hty
       obtain ⟨m,rfl,_,hw⟩:=DataW.trod_int ht h
       have hk:inK q m:=by
         unfold inK
         simpa [Lit.wf] using hw
       refine ⟨[.int q m],by simp only [HasF];exact ⟨m,rfl,hk⟩,?_⟩
       simp only [CellsC,RC]
       exact ⟨_,_,rfl,rfl,⟨rfl,hk⟩,rfl⟩
     · cases hty
   | s e =>
     unfold tyOk at hty
     split at hty
     · rename_i u ht
       simp only [Bool.and_eq_true,decide_eq_true_eq] at hty
       obtain ⟨hpos,hty⟩:=hty
       rcases DataW.trod_slice ht h with ⟨rfl,_⟩ | ⟨a,len,cap,elems,rest,m,hm,rfl,rfl,_,hle,hcap,hlen,hel,_⟩
       · refine ⟨[.data []],?_,?_⟩
         · simp only [HasF];exact ⟨[],rfl,by simp,by simp⟩
         · simp only [CellsC,RC]
           exact ⟨_,_,rfl,rfl,⟨none,0,0,rfl,rfl,by omega,by decide,by simp⟩,rfl⟩
       · have hmn:m=n:=by omega
         subst hmn
         have hru:=K.slice hrow ht
         have hspot0:len≠0→a.spot=none:=by
           intro h0
           have hb:=hel 0 (by omega)
           rw [List.getElem?_eq_getElem (by omega)] at hb
           obtain ⟨cs',hc,hy⟩:=Option.bind_eq_some_iff.1 hb
           obtain ⟨_,hcl,hcg⟩:=World.cells?_some hc
           have h0:=hcg 0 hpos
           rw [List.getElem?_eq_getElem (by omega)] at h0
           have e0:(a.add (0*P.cellsOf u)).add 0=a:=by simp [Addr.add]
           rw [e0] at h0
           unfold World.cell? at h0
           split at h0
           · split at h0
             · cases h0
             · rename_i hs;simpa using hs
           · cases h0
         have hadd:a.spot=none→∀ k i:Nat,(a.add k).add i=⟨a.block,a.off+k+i,none⟩:=by
           intro hs k i
           obtain ⟨ab,ao,as⟩:=a
           simp only at hs
           subst hs
           simp only [Addr.add]
           by_cases h1:k=0 <;> by_cases h2:i=0 <;> simp [h1,h2,Nat.add_assoc]
         have rowsOf:∀ (r j:Nat),j+r=len→∃ rows:List PV,rows.length=r∧(∀ x∈rows,x.isAgg=e.isA∧HasF e x.cells)∧(r≠0→a.spot=none∧I a.block)∧RowsC I w rows (P.cellsOf u) a.block (a.off+j*P.cellsOf u):=by
           intro r
           induction r with
           | zero=>intro j _;exact ⟨[],rfl,by simp,fun h=>absurd rfl h,by simp only [RowsC]⟩
           | succ r ihr =>
             intro j hj
             obtain ⟨rows,l1,l2,_,l4⟩:=ihr (j+1) (by omega)
             have hj2:j<elems.length:=by omega
             have hb:=hel j (by omega)
             rw [List.getElem?_eq_getElem hj2] at hb
             obtain ⟨cs',hc,hy⟩:=Option.bind_eq_some_iff.1 hb
             obtain ⟨_,hcl,hcg⟩:=World.cells?_some hc
             obtain ⟨pcs,k1,k2⟩:=ih e u cs' _ hru hty hy (fun p hp=>hI p (by
               simp only [List.mem_append,List.mem_flatMap]
               exact .inr ⟨elems[j],.inl (List.getElem_mem _),hp⟩))
             obtain ⟨x,x1,x2,x3⟩:=yN7 (I:=I) (w:=w) k1
             have hspot:=hspot0 (by omega)
             have hIa:I a.block:=hI (.cell a.block a.off) (by
               simp only [List.mem_append]
               left
               exact MemPlace.mem_row.2 ⟨0,Nat.mul_pos (by omega) hpos,rfl⟩)
             refine ⟨x::rows,by simp [l1],?_,fun _=>⟨hspot,hIa⟩,?_⟩
             · intro y hy
               rcases List.mem_cons.1 hy with rfl | hy
               · exact ⟨x1,by rw [x2];exact k1⟩
               · exact l2 y hy
             · simp only [RowsC]
               refine ⟨⟨cs',hcl,x3 _ k2,?_⟩,?_⟩
               · intro i v hi
                 have hi2:i<P.cellsOf u:=by rw [← hcl];exact (List.getElem?_eq_some_iff.1 hi).1
                 have:=hcg i hi2
                 rw [hi] at this
                 rw [← this,hadd hspot]
               · rw [Nat.add_assoc,show j*P.cellsOf u+P.cellsOf u=(j+1)*P.cellsOf u by rw [Nat.add_mul,Nat.one_mul]]
                 exact l4
         obtain ⟨rows,l1,l2,l3,l4⟩:=rowsOf len 0 (by omega)
         refine ⟨[.data rows],?_,?_⟩
         · simp only [HasF];exact ⟨rows,rfl,by omega,l2⟩
         · simp only [CellsC,RC]
           refine ⟨_,_,rfl,rfl,⟨some a,len,cap,rfl,l1.symm,hle,hcap,?_⟩,rfl⟩
           by_cases h0:len=0
           · left;exact List.eq_nil_of_length_eq_zero (by omega)
           · right
             obtain ⟨hs,hIa⟩:=l3 h0
             refine ⟨a.block,a.off,P.cellsOf u,?_,hIa,hpos,by simpa using l4⟩
             cases a;simp only at hs;subst hs;rfl
     · cases hty
   | a l =>
     unfold tyOk at hty
     split at hty
     · rename_i fs ht
       obtain ⟨xs,m,hm,rfl,hcl,hxl,hxs⟩:=DataW.trod_struct ht h
       have hmn:m=n:=by omega
       subst hmn
       obtain ⟨k1,k2,k3⟩:=K.struct hrow ht
       have:=yz5 ih (l:=l) (ts:=fs.toList.map (·.type)) hty (fun t ht=>by obtain ⟨f,hf,rfl⟩:=List.mem_map.1 ht;exact k1 f hf) (cs:=cs) (xs:=xs) (fun j=>((fs.toList.take j).map fun f=>P.cellsOf f.type).sum)
         (fun j t hj=>by
           rw [List.getElem?_map,Option.map_eq_some_iff] at hj
           obtain ⟨f,hf,rfl⟩:=hj
           obtain ⟨hlt,hf2⟩:=List.getElem?_eq_some_iff.1 hf
           show ((fs.toList.take (j+1)).map _).sum=_
           rw [List.take_add_one,hf]
           simp)
         (by simp only [List.length_map,List.take_length];rw [hcl,k2];exact Nat.le_refl _)
         (fun j t hj=>by
           rw [List.getElem?_map,Option.map_eq_some_iff] at hj
           obtain ⟨f,hf,rfl⟩:=hj
           have:=hxs j f (by simpa using hf)
           rw [← this,k3 j f hf])
         (by simp [hxl]) hI (fs.toList.map (·.type)).length 0 (by omega)
       obtain ⟨pcs,p1,p2⟩:=this
       exact ⟨pcs,by simp only [HasF];exact p1,by simpa using p2⟩
     · rename_i q u ht
       obtain ⟨xs,m,hm,rfl,hcl,hxl,hxs⟩:=DataW.trod_array ht h
       have hmn:m=n:=by omega
       subst hmn
       obtain ⟨k1,k2⟩:=K.array hrow ht
       have:=yz5 ih (l:=l) (ts:=List.replicate q u) hty (fun t ht=>by rw [(List.mem_replicate.1 ht).2];exact k1) (cs:=cs) (xs:=xs) (fun j=>j*P.cellsOf u)
         (fun j t hj=>by
           have:t=u:=(List.mem_replicate.1 (List.mem_of_getElem? hj)).2
           subst this
           show (j+1)*_=_
           rw [Nat.add_mul,Nat.one_mul])
         (by rw [List.length_replicate,hcl,k2];exact Nat.le_refl _)
         (fun j t hj=>by
           have e:t=u:=(List.mem_replicate.1 (List.mem_of_getElem? hj)).2
           subst e
           have hlt:j<q:=by have:=(List.getElem?_eq_some_iff.1 hj).1;simpa using this
           exact hxs j hlt)
         (by simp [hxl]) hI (List.replicate q u).length 0 (by omega)
       obtain ⟨pcs,p1,p2⟩:=this
       exact ⟨pcs,by simp only [HasF];exact p1,by simpa using p2⟩
     · cases hty
end
end Go.Pf
namespace Go.Pf
open Go Go.ChangeShapes Go.WideShapes Go.ChangeAt Go.RowKit
def HasAs:List DS→List PV→Prop
 | [],as=>as=[]
 | d::l,as=>∃ x r,as=x::r∧x.isAgg=d.isA∧HasF d x.cells∧HasAs l r
section
variable {H:Type} {enc:TypeId×Value→H} {P:Program}
theorem yLn (K:Kids P (·<P.types.size)) {w:World} {I:Nat→Prop} {base:Nat} {d:DS} {t:TypeId} {v:Value} {x:DataW H} {p:List MemPlace} (hrow:t<P.types.size) (hty:tyOk P d t=true)
   (hval:Value.okWide P w .any base t v) (h:DataW.Trod enc P w 0 (fun _=>true) true t v x p) (hI:∀ q∈p,I q.block) :
   ∃ y:PV,y.isAgg=d.isA∧HasF d y.cells∧VP1 I w y v:=by
 obtain ⟨n,hn⟩:=h
 obtain ⟨pcs,h1,h2⟩:=yH9 (I:=I) K n d t _ _ hrow hty hn hI
 have single:∀ y:PV,pcs=[y]→y.isAgg=false→d.isA=false→v.cells.toList=[v]→∃ y:PV,y.isAgg=d.isA∧HasF d y.cells∧VP1 I w y v:=by
   intro y e hy hd hv
   subst e
   refine ⟨y,hy.trans hd.symm,?_,?_⟩
   · have:y.cells=[y]:=by cases y <;> first | rfl | cases hy
     rw [this];exact h1
   · rw [hv] at h2
     simp only [CellsC] at h2
     obtain ⟨u,vr,e,_,h3,h4⟩:=h2
     simp only [List.cons.injEq] at e
     obtain ⟨rfl,_⟩:=e
     cases y <;> first | exact h3 | (simp only [RC] at h3;done) | (simp only [VP1];exact h3) | cases hy
 cases d with
 | b =>
   unfold tyOk at hty
   split at hty
   · rename_i ht
     obtain ⟨b,rfl⟩:=okWide_bool ht hval
     simp only [HasF] at h1
     obtain ⟨z,e⟩:=h1
     exact single _ e rfl rfl rfl
   · cases hty
 | i k =>
   unfold tyOk at hty
   split at hty
   · rename_i q ht
     obtain ⟨m,rfl⟩:=okWide_int ht hval
     simp only [HasF] at h1
     obtain ⟨z,e,_⟩:=h1
     exact single _ e rfl rfl rfl
   · cases hty
 | s e =>
   unfold tyOk at hty
   split at hty
   · rename_i u ht
     obtain ⟨a,len,cap,rfl⟩:=okWide_slice ht hval
     simp only [HasF] at h1
     obtain ⟨z,e,_⟩:=h1
     exact single _ e rfl rfl rfl
   · cases hty
 | a l =>
   have key:∀ cs,v=.agg cs→∃ y:PV,y.isAgg=(DS.a l).isA∧HasF (DS.a l) y.cells∧VP1 I w y v:=by
     rintro cs rfl
     refine ⟨.agg pcs,rfl,h1,?_⟩
     simp only [VP1]
     exact ⟨cs.toList,rfl,h2⟩
   unfold tyOk at hty
   split at hty
   · rename_i fs ht
     obtain ⟨cs,e,_⟩:=okWide_struct ht hval
     exact key cs e
   · rename_i q u ht
     have hval2:=hval
     unfold Value.okWide at hval2
     rw [ht] at hval2
     obtain ⟨cs,e,_⟩:=hval2
     exact key cs e
   · cases hty
theorem yC8 (K:Kids P (·<P.types.size)) {w:World} {I:Nat→Prop} {base:Nat}:∀ (ts:List TypeId) (dss:List DS) (vs:List Value) (xs:List (DataW H)) (p:List MemPlace),tyL P dss ts=true→(∀ t∈ts,t<P.types.size) →
   (∀ (j:Nat) t v,ts[j]?=some t→vs[j]?=some v→Value.okWide P w .any base t v)→DataW.TrodAll enc P w 0 (fun _=>true) true ts vs xs p→(∀ q∈p,I q.block)→∃ as,HasAs dss as∧VPs I w as vs
 | [],[],[],[],p,_,_,_,_,_=>⟨[],by simp only [HasAs],by simp only [VPs]⟩
 | t::ts,d::dss,v::vs,x::xs,p,hty,hrow,hval,h,hI=>by
   unfold tyL at hty
   simp only [Bool.and_eq_true] at hty
   obtain ⟨p1,q,h1,h2,rfl⟩:=h
   obtain ⟨y,y1,y2,y3⟩:=yLn K (hrow t (List.mem_cons_self ..)) hty.1 (hval 0 t v rfl rfl) h1 (fun z hz=>hI z (List.mem_append_left _ hz))
   obtain ⟨as,a1,a2⟩:=yC8 K ts dss vs xs q hty.2 (fun u hu=>hrow u (List.mem_cons_of_mem _ hu)) (fun j u z hj hz=>hval (j+1) u z hj hz) h2 (fun z hz=>hI z (List.mem_append_right _ hz))
   refine ⟨y::as,?_,?_⟩
   · simp only [HasAs];exact ⟨y,as,rfl,y1,y2,a1⟩
   · simp only [VPs];exact ⟨v,vs,rfl,y3,a2⟩
 | [],_::_,_,_,_,hty,_,_,_,_=>by unfold tyL at hty;cases hty
 | _::_,[],_,_,_,hty,_,_,_,_=>by unfold tyL at hty;cases hty
 | [],[],_::_,_,_,_,_,_,h,_=>h.elim
 | [],[],[],_::_,_,_,_,_,h,_=>h.elim
 | _::_,_::_,[],_,_,_,_,_,h,_=>h.elim
 | _::_,_::_,_::_,[],_,_,_,_,h,_=>h.elim
theorem yJ8 (K:Kids P (·<P.types.size)) {n:FuncId} {fn:Func} {G:Nat→Option PV} {dss:List DS} {ts:List TypeId} (hty:tyL P dss ts=true) (hrow:∀ t∈ts,t<P.types.size)
   (hf : P.funcs[n]? = some fn) (hn : (fn.name == "runtime.NumGoroutine") = false) (hb : fn.body.isSome = true) (hsum : ∀ as, HasAs dss as → SumOk P G n as (.bool true))
   {W:World} {base:Nat} {args:Array Value} {ds:List (DataW H)} {p:List MemPlace} {I:Nat→Prop} (hval:∀ (j:Nat) t v,ts[j]?=some t→args.toList[j]?=some v→Value.okWide P W .any base t v)
   (hA:DataW.TrodAll enc P W 0 (fun _=>true) true ts args.toList ds p) (hI:∀ q∈p,I q.block) (himm:∀ b,I b→b<W.heap.size) (hG:GlobOk G I W) :
   Calls P n args W fun e W'=>e=.returned (.bool true)∧Below W.heap.size W W':=by
 obtain ⟨as,a1,a2⟩:=yC8 (I:=I) K ts dss args.toList ds p hty hrow hval hA hI
 have h:=hsum as a1 I W args.toList himm hG a2
 have e:(callFunc n (args.toList).toArray).run P W=.ok (.enter n args) W:=by
   have h1 : fn.name ≠ "runtime.NumGoroutine" := by simpa using hn
   obtain ⟨c,hc⟩:=Option.isSome_iff_exists.1 hb
   simp [callFunc,hf,h1,hc]
 unfold CallR at h
 rw [e] at h
 refine Calls.mono h fun e w' he=>?_
 cases e with
 | returned v =>
   obtain ⟨h1,h2⟩:=he
   simp only [VP,VP1,RC,List.cons.injEq,and_true] at h2
   exact ⟨by rw [h2],h1.toBelow⟩
 | panicked ch=>exact he.elim
 | outgrown=>exact he.elim
theorem yIa (K:Kids P (·<P.types.size)) (hz:∀ t e,t<P.types.size→P.underlying t=some (.slice e)→0<P.cellsOf e) {W W':World} (hb:Below W.heap.size W W') {sp:Nat→Bool} :
   ∀ {ts:List TypeId} {vs:List Value} {ds:List (DataW H)} {ps:List MemPlace},(∀ t∈ts,t<P.types.size)→DataW.TrodAll enc P W 0 (fun _=>true) true ts vs ds ps→(∀ p∈ps,p.block<W.heap.size)→(∀ p∈ps,sp p.block=true)→DataW.TrodAll enc P W' 0 sp true ts vs ds ps:=by
 intro ts vs ds ps hT h hlt hs
 have carry:∀ {ts:List TypeId} {vs:List Value} {ds:List (DataW H)} {ps:List MemPlace},DataW.TrodAll enc P W 0 (fun _=>true) true ts vs ds ps→(∀ p∈ps,p.block<W.heap.size)→DataW.TrodAll enc P W' 0 (fun _=>true) true ts vs ds ps:=by
   intro ts
   induction ts with
   | nil =>
     intro vs ds ps h _
     cases vs with
     | nil=>cases ds with
       | nil=>exact h
       | cons _ _=>exact h.elim
     | cons _ _=>exact h.elim
   | cons t ts ih =>
     intro vs ds ps h hlt
     cases vs with
     | nil=>exact h.elim
     | cons v vs=>cases ds with
       | nil=>exact h.elim
       | cons d ds =>
         obtain ⟨p,q,⟨n,h1⟩,h2,e⟩:=h
         subst e
         exact ⟨p,q,⟨n,DataW.trod_carry n _ _ _ h1 (fun x hx=>hb.same (hlt x (List.mem_append_left _ hx)))⟩,ih h2 (fun x hx=>hlt x (List.mem_append_right _ hx)),rfl⟩
 exact DataW.TrodAll.respare K hz hT (carry h hlt) hs
theorem yz6 {f:Func} {s:ChangeSpec} {apart fresh handsOn again:Bool} {W W':World} {args:Array Value} {v:Value} {ds gs:List (DataW H)} {before pa pv:List MemPlace}
   (hW:DataW.Whole enc P f.params.toList s.vars apart W args.toList ds gs before)
   (hres:∀ (b:Nat) (sp:Nat→Bool) (hd:Bool),DataW.TrodAll enc P W' b sp hd f.resultTypes.toList (v.resultList f.resultTypes.size) (s.fn H (ds++gs)).results [])
   (hargs:∀ sp:Nat→Bool,(∀ p∈before,sp p.block=true)→DataW.TrodAll enc P W' 0 sp true f.params.toList args.toList (s.fn H (ds++gs)).args pa)
   (hvars:∀ sp:Nat→Bool,(∀ p∈before,sp p.block=true)→DataW.TrodVars enc P W' sp s.vars (s.fn H (ds++gs)).vars pv)
   (hps:before=pa++pv) (hb:Below W.heap.size W W')
   (hok:∀ (j:Nat) (t:TypeId) (r:Value),f.resultTypes[j]?=some t→(v.resultList f.resultTypes.size)[j]?=some r→Value.okWide P W' .any 0 t r) :
   s.post enc P f apart fresh handsOn again W args v W':=by
 have hlt:∀ p∈before,p.block<W.heap.size:=fun p hp=>hW.lt p hp
 have hold:∀ p∈before,(fun b=>decide (b<W.heap.size)) p.block=true:=fun p hp=>by simpa using hlt p hp
 refine ⟨ds,gs,before,[],pa,pv,hW,hres _ _ _,hargs _ hold,hvars _ hold,World.keptBut_mono (fun p hp=>⟨hp,?_⟩) (hb.frame (·∈before)),fun _=>?_⟩
 · rw [hps,List.mem_append] at hp
   exact Or.inr hp
 · obtain ⟨_,_,_,_,_,hz,hn⟩:=hW
   refine ⟨hok,_,_,([]++pa)++pv,⟨[]++pa,pv,trodAll_append (hargs _ (fun _ _=>rfl)) (hres _ _ _),hvars _ (fun _ _=>rfl),rfl,?_,?_⟩,?_⟩
   · intro b off hp
     have hin:MemPlace.cell b off∈before:=by rw [hps];simpa using hp
     rw [hb.frozen (hlt _ hin)]
     exact hz b off hin
   · intro ha
     have:=hn ha
     rw [hps] at this
     simpa using this
   · intro p hp _
     rw [hps]
     simpa using hp
theorem yLo (K:Kids P (·<P.types.size)) (hz:∀ t e,t<P.types.size→P.underlying t=some (.slice e)→0<P.cellsOf e) {n:FuncId} {fn:Func} {G:Nat→Option PV} {dss:List DS} {s:ChangeSpec} {bt:TypeId}
   (hty : tyL P dss fn.params.toList = true) (hrow : ∀ t ∈ fn.params.toList, t < P.types.size) (hf : P.funcs[n]? = some fn) (hn : (fn.name == "runtime.NumGoroutine") = false) (hb : fn.body.isSome = true)
   (hvars:s.vars=[]) (hfn:∀ ds:List (DataW H),ds.length=fn.params.toList.length→s.fn H (ds++[])={ results:=[.lit (.bool true)],args:=ds })
   (hrt:fn.resultTypes.toList=[bt]) (hbt:P.underlying bt=some .bool) (hsum:∀ as,HasAs dss as→SumOk P G n as (.bool true)) {apart fresh handsOn again:Bool}
   {W:World} {base:Nat} {args:Array Value} {ds gs:List (DataW H)} {before:List MemPlace} (hval:∀ (j:Nat) t v,fn.params[j]?=some t→args[j]?=some v→Value.okWide P W .any base t v)
   (hW:DataW.Whole enc P fn.params.toList s.vars apart W args.toList ds gs before) (J:Nat→Prop) (hJ:∀ b,J b→b<W.heap.size) (hG:GlobOk G (fun b=>(∃ p∈before,p.block=b)∨J b) W) :
   Calls P n args W fun e W'=>∃ v,e=.returned v∧s.post enc P fn apart fresh handsOn again W args v W':=by
 have hW':=hW
 obtain ⟨p,q,hA,hV,hpq,hfz,hnd⟩:=hW
 have hlt:∀ x∈before,x.block<W.heap.size:=fun x hx=>hW'.lt x hx
 rw [hvars] at hV
 obtain ⟨hgs,hq⟩:=trodVars_none hV
 subst hgs;subst hq
 rw [List.append_nil] at hpq
 subst hpq
 have hlen:ds.length=fn.params.toList.length:=by
   have len:∀ {ts:List TypeId} {vs:List Value} {xs:List (DataW H)} {ps:List MemPlace},DataW.TrodAll enc P W 0 (fun _=>true) true ts vs xs ps→xs.length=ts.length:=by
     intro ts
     induction ts with
     | nil =>
       intro vs xs ps h
       cases vs with
       | nil=>cases xs with
         | nil=>rfl
         | cons _ _=>exact h.elim
       | cons _ _=>exact h.elim
     | cons t ts ih =>
       intro vs xs ps h
       cases vs with
       | nil=>exact h.elim
       | cons v vs=>cases xs with
         | nil=>exact h.elim
         | cons x xs =>
           obtain ⟨_,_,_,h2,_⟩:=h
           simp [ih h2]
   exact len hA
 have hc:=yJ8 (I:=fun b=>(∃ x∈before,x.block=b)∨J b) K hty hrow hf hn hb hsum (W:=W) (base:=base) (args:=args) (fun j t v h1 h2=>hval j t v (by simpa using h1) (by simpa using h2)) hA (fun x hx=>.inl ⟨x,hx,rfl⟩)
   (fun b hb=>by
     rcases hb with ⟨x,hx,rfl⟩ | hb
     · exact hlt x hx
     · exact hJ b hb) hG
 refine hc.mono fun e W' ⟨he,hg⟩=>?_
 subst he
 have hrs:fn.resultTypes=#[bt]:=by rw [← Array.toList_inj];exact hrt
 refine ⟨_,rfl,yz6 (pa:=before) (pv:=[]) hW' ?_ ?_ ?_ (by simp) hg ?_⟩
 · intro b sp hd
   rw [hfn ds hlen,hrs]
   exact trodAll_mk1 (shut_bool hbt true)
 · intro sp hs
   rw [hfn ds hlen]
   exact yIa K hz hg hrow hA hlt hs
 · intro sp hs
   rw [hfn ds hlen,hvars];rfl
 · intro j t r h1 h2
   rw [hrs] at h1 h2
   have hj:j=0:=by
     rcases j with _ | j
     · rfl
     · simp at h1
   subst hj
   simp at h1
   subst h1
   have:r=.bool true:=by
     have h3:((Value.bool true).resultList (#[bt]:Array TypeId).size)[0]?=some (.bool true):=rfl
     rw [h3] at h2
     exact (Option.some.inj h2).symm
   subst this
   exact okWide_bool_mk hbt true
end
end Go.Pf
namespace Go.Pf
open Go
def cellI:PV→Value
 | .int k n=>.int k n
 | _=>.bool false
def okL:List IntKind→List PV→Bool
 | [],[]=>true
 | k::ks,.int q n::r=>decide (q=k)&&(decide (k.min≤n)&&(decide (n≤k.max)&&okL ks r))
 | _,_=>false
def okI (ks:List IntKind):PV→Bool
 | .agg cs=>okL ks cs
 | _=>false
def encI (x:PV):List Value:=x.cells.map cellI
structure Srt where
 n:Nat
 g:Nat
 ks:List IntKind
 good:PV→Bool
 z:PV
def Srt.gd (s:Srt) (x:PV):Bool:=okI s.ks x&&s.good x
abbrev Srt.El (s:Srt):Type:={x:PV // s.gd x=true}
def Srt.enc (s:Srt) (x:s.El):List Value:=encI x.1
def Srt.rows? (s:Srt):List PV→Option (List s.El)
 | []=>some []
 | x::r=>if h:s.gd x=true then (match s.rows? r with | some l=>some (⟨x,h⟩::l) | none=>none) else none
theorem Srt.rows?_val {s:Srt}:∀ {l:List PV} {d:List s.El},s.rows? l=some d→d.map (·.1)=l
 | [],d,h=>by simp only [Srt.rows?] at h;cases h;rfl
 | x::r,d,h=>by
   simp only [Srt.rows?] at h
   split at h
   · split at h
     · rename_i l hl
       cases h
       rw [List.map_cons,Srt.rows?_val hl]
     · cases h
   · cases h
def Srt.sorted (s:Srt) (srt:Array s.El→Array s.El) (l:List PV):List PV :=
 match s.rows? l with
 | some d=>(srt d.toArray).toList.map (·.1)
 | none=>l
def Srt.cond (s:Srt) (rows:List PV) (lo len ext esz:Nat) (fz:Bool):Bool :=
 decide (rows.length=ext)&&(decide (lo+len≤ext)&&(decide (0<len)&&(decide (esz=s.ks.length)&&(!fz&&(decide (len<4611686018427387904)&&(s.rows? ((rows.drop lo).take len)).isSome)))))
def srtEff (s:Srt) (srt:Array s.El→Array s.El) (n:Nat) (xs:List PV) (H:Hp):Option (Bool×Bool×(PV×Hp)×(PV×Hp)) :=
 bif Nat.beq n s.n then
   (match xs with
    | [.own id lo len ext _,.fn (.func g) [] []] =>
      bif Nat.beq g s.g then
        (match H[id]? with
         | some b=>some (s.cond b.rows lo len ext b.esz b.fz,true,(.tup [],H.set id { b with rows:=b.rows.take lo++(s.sorted srt ((b.rows.drop lo).take len)++b.rows.drop (lo+len)) }),(.nils,[]))
         | none=>none)
      else none
    | [.nils,.fn (.func g) [] []]=>bif Nat.beq g s.g then some (true,true,(.tup [],H),(.nils,[])) else none
    | [.emp,.fn (.func g) [] []]=>bif Nat.beq g s.g then some (true,true,(.tup [],H),(.nils,[])) else none
    | _=>none)
 else none
theorem yLp {s:Srt} {srt:Array s.El→Array s.El} {n:Nat} {xs:List PV} {H:Hp} {x:Bool×Bool×(PV×Hp)×(PV×Hp)} (h:srtEff s srt n xs H=some x):n=s.n:=by
 unfold srtEff at h
 cases hb:Nat.beq n s.n with
 | true=>exact Nat.eq_of_beq_eq_true hb
 | false=>rw [hb] at h;cases h
structure Srts where
 s:Srt
 cf:s.El→s.El→Int
def Srts.srt (s:Srts) [Inhabited s.s.El] (d:Array s.s.El):Array s.s.El:=Go.Sort.pdq (fun x y=>decide (s.cf x y<0)) d 0 d.size (Go.Lib.bitLen d.size) true true
abbrev EffF:Type:=Nat→List PV→Hp→Option (Bool×Bool×(PV×Hp)×(PV×Hp))
def lookE:List (Nat×EffF)→EffF
 | [],_,_,_=>none
 | (k,e)::r,n,xs,H=>bif Nat.beq n k then (match e n xs H with | some x=>some x | none=>lookE r n xs H) else lookE r n xs H
theorem yJo:∀ {l:List (Nat×EffF)} {n:Nat} {xs:List PV} {H:Hp} {x:Bool×Bool×(PV×Hp)×(PV×Hp)},lookE l n xs H=some x→∃ e∈l,n=e.1
 | [],_,_,_,_,h=>by cases h
 | (k,e)::r,n,xs,H,x,h=>by
   simp only [lookE] at h
   cases hb:Nat.beq n k with
   | true=>exact ⟨(k,e),List.mem_cons_self,Nat.eq_of_beq_eq_true hb⟩
   | false =>
     rw [hb,cond_false] at h
     obtain ⟨e2,h1,h2⟩:=yJo h
     exact ⟨e2,List.mem_cons_of_mem _ h1,h2⟩
theorem yrz {P:Program} {E:Env}:∀ {l:List (Nat×EffF)},(∀ e∈l,InlineOk P E (fun n xs H=>armOf (e.2 n xs H)))→InlineOk P E (fun n xs H=>armOf (lookE l n xs H))
 | [],_=>fun _ _ _ _ _ h=>by cases h
 | (k,e)::r,h=>by
   intro f args H q H' hc
   dsimp only [lookE] at hc
   cases hb:Nat.beq f k with
   | false =>
     rw [hb,cond_false] at hc
     exact yrz (fun e2 h2=>h e2 (List.mem_cons_of_mem _ h2)) f args H q H' hc
   | true =>
     rw [hb,cond_true] at hc
     cases he:e f args H with
     | some x =>
       rw [he] at hc
       refine h (k,e) List.mem_cons_self f args H q H' ?_
       dsimp only
       rw [he]
       exact hc
     | none =>
       rw [he] at hc
       exact yrz (fun e2 h2=>h e2 (List.mem_cons_of_mem _ h2)) f args H q H' hc
def baseS (add sub:Nat) (tab:List (Nat×AFn)) (qui:List Nat) (cl:Clones) (gl:List (Nat×PV)) (ef:List (Nat×EffF)):Env:={ baseC add sub tab qui cl gl with eff:=lookE ef }
theorem yab {add sub:Nat} {tab:List (Nat×AFn)} {qui:List Nat} {cl:Clones} {gl:List (Nat×PV)} {ef:List (Nat×EffF)} {n:Nat} (h:special add sub cl n=false) (xs:List PV):(baseS add sub tab qui cl gl ef).sum n xs=none:=yH7 (tab:=tab) (qui:=qui) (gl:=gl) h xs
theorem yJ9 {add sub:Nat} {tab:List (Nat×AFn)} {qui:List Nat} {cl:Clones} {gl:List (Nat×PV)} {ef:List (Nat×EffF)} (h:(ef.all fun e=>!memN qui e.1&&(!special add sub cl e.1&&!memN qui (e.1+3000000)))=true):EffOk (baseS add sub tab qui cl gl ef):=by
 intro n xs H x hx
 obtain ⟨e,h1,rfl⟩:=yJo hx
 have h2:=List.all_eq_true.1 h e h1
 simp only [Bool.and_eq_true,Bool.not_eq_true'] at h2
 exact ⟨h2.1,rfl,fun xs=>yab (tab:=tab) (qui:=qui) (gl:=gl) (ef:=ef) h2.2.1 xs,h2.2.2⟩
theorem yFV {P:Program} {add sub:Nat} {tab:List (Nat×AFn)} {qui:List Nat} {cl:Clones} {gl:List (Nat×PV)} {ef:List (Nat×EffF)} (h:EnvOk P (baseC add sub tab qui cl gl))
   (hs:∀ e∈ef,InlineOk P (baseC add sub tab qui cl gl) (fun n xs H=>armOf (e.2 n xs H))):EnvOk P (baseS add sub tab qui cl gl ef) where
 sum:=h.sum
 fns:=h.fns
 eff:=InlineOk.env (E:=baseC add sub tab qui cl gl) (E':=baseS add sub tab qui cl gl ef) rfl (yrz hs)
end Go.Pf
namespace Go.Pf
abbrev lt {α:Type} (x:α) (f:α→Prop):Prop:=f x
abbrev jn {α:Type} (f:α→Prop) (k:α):Prop:=f k
def rvB (n d:Int):Bool:=decide (1≤d)&&(decide (d≤1000000000000000000)&&(decide (-1000000000000000000≤n)&&(decide (n≤1000000000000000000)&&decide (Nat.gcd n.natAbs d.natAbs=1))))
def cmpI (a b c d:Int):Int:=if a*d<c*b then -1 else if c*b<a*d then 1 else 0
def spGood:PV→Bool
 | .agg [.int _ a,.int _ b,_,_]=>rvB a b
 | _=>false
def rtGood:PV→Bool
 | .agg [.int _ a,.int _ b]=>rvB a b
 | _=>false
def spCmp:PV→PV→Int
 | .agg [.int _ a,.int _ b,_,_],.agg [.int _ c,.int _ d,_,_]=>cmpI a b c d
 | _,_=>0
def rtCmp:PV→PV→Int
 | .agg [.int _ a,.int _ b],.agg [.int _ c,.int _ d]=>cmpI a b c d
 | _,_=>0
def spSrt (n g:Nat):Srts:=⟨⟨n,g,[.i64,.i64,.i64,.i64],spGood,.agg [.int .i64 0,.int .i64 1,.int .i64 0,.int .i64 1]⟩,fun x y=>spCmp x.1 y.1⟩
def rtSrt (n g:Nat):Srts:=⟨⟨n,g,[.i64,.i64],rtGood,.agg [.int .i64 0,.int .i64 1]⟩,fun x y=>rtCmp x.1 y.1⟩
instance (n g:Nat):Inhabited (spSrt n g).s.El:=⟨⟨.agg [.int .i64 0,.int .i64 1,.int .i64 0,.int .i64 1],rfl⟩⟩
instance (n g:Nat):Inhabited (rtSrt n g).s.El:=⟨⟨.agg [.int .i64 0,.int .i64 1],rfl⟩⟩
theorem yz7 {n:Nat} {xs:List PV} {H:Hp}:∀ {l:List (Nat×EffF)},memN (l.map (·.1)) n=false→lookE l n xs H=none
 | [],_=>rfl
 | (k,e)::r,h=>by
   simp only [List.map_cons,memN] at h
   simp only [lookE]
   cases hb:Nat.beq k n with
   | true=>rw [hb] at h;cases h
   | false =>
     rw [hb,cond_false] at h
     have hb2:Nat.beq n k=false:=by
       cases hc:Nat.beq n k with
       | false=>rfl
       | true =>
         have:=Nat.eq_of_beq_eq_true hc
         subst this
         rw [Nat.beq_refl] at hb
         cases hb
     rw [hb2,cond_false]
     exact yz7 h
structure EffG (E:List (Nat×EffF)→Env) (nums:List Nat) (e:List (Nat×EffF)):Prop where
 ok:EffOk (E e)
 num:∀ n,memN nums n=false→∀ xs H,(E e).eff n xs H=none
theorem yKa {add sub:Nat} {tab:List (Nat×AFn)} {qui:List Nat} {cl:Clones} {gl:List (Nat×PV)} {ef:List (Nat×EffF)}:∀ as K,yuw as K→∃ r,K r∧Ans (baseS add sub tab qui cl gl ef) add as r:=by
 intro as K h
 unfold yuw yuv at h
 split at h
 · rename_i a b c
   obtain ⟨h1,h⟩:=yai.1 h
   have h1:c.toNat≤1:=by simpa using h1
   refine ⟨_,h,0,fun m _=>?_⟩
   have e:sumC add sub add [.int .u64 a,.int .u64 b,.int .u64 c]=some (.tup [u64 ((a.toNat+b.toNat+c.toNat) % 18446744073709551616),u64 ((a.toNat+b.toNat+c.toNat) / 18446744073709551616)]):=by
     simp only [sumC,Nat.beq_refl,Bool.true_and,Nat.ble_eq_true_of_le h1,cond_true]
   simp only [pureRes,baseS,baseC,e,u64]
 · exact h.elim
theorem yKb {add sub:Nat} (hne:Nat.beq sub add=false) {tab:List (Nat×AFn)} {qui:List Nat} {cl:Clones} {gl:List (Nat×PV)} {ef:List (Nat×EffF)}:∀ as K,yuy as K→∃ r,K r∧Ans (baseS add sub tab qui cl gl ef) sub as r:=by
 intro as K h
 unfold yuy yux at h
 split at h
 · rename_i a b c
   obtain ⟨h1,h⟩:=yai.1 h
   have h1:c.toNat≤1:=by simpa using h1
   refine ⟨_,h,0,fun m _=>?_⟩
   have e:sumC add sub sub [.int .u64 a,.int .u64 b,.int .u64 c]=some (.tup [u64 ((a.toNat+18446744073709551616-b.toNat-c.toNat) % 18446744073709551616),u64 (bif Nat.ble (b.toNat+c.toNat) a.toNat then 0 else 1)]):=by
     simp only [sumC,hne,Nat.beq_refl,Bool.true_and,Bool.false_and,Nat.ble_eq_true_of_le h1,cond_true,cond_false]
   simp only [pureRes,baseS,baseC,e,u64]
 · exact h.elim
end Go.Pf
namespace Go.Pf
open Go Go.Sort
theorem Srts.srt_size (S:Srts) [Inhabited S.s.El] (h:SWO (fun x y=>decide (S.cf x y<0))) (d:Array S.s.El):(S.srt d).size=d.size :=
 (pdq_sorts _ h d 0 d.size (Go.Lib.bitLen d.size) true true (Nat.zero_le _) (Nat.le_refl _) (Or.inl rfl)).1.1
theorem Srts.sorted_is (S:Srts) [Inhabited S.s.El] (h:SWO (fun x y=>decide (S.cf x y<0))) {rows:List PV} {d:List S.s.El} (hd:S.s.rows? rows=some d) :
   ∃ d':List S.s.El,d'.Perm d∧d'.Pairwise (fun x y=>¬S.cf y x<0)∧Srt.sorted S.s S.srt rows=d'.map (·.1):=by
 have e:Srt.sorted S.s S.srt rows=(S.srt d.toArray).toList.map (·.1):=by unfold Srt.sorted;rw [hd]
 obtain ⟨⟨h1,_,h3⟩,h4⟩:=pdq_sorts _ h d.toArray 0 d.toArray.size (Go.Lib.bitLen d.toArray.size) true true (Nat.zero_le _) (Nat.le_refl _) (Or.inl rfl)
 refine ⟨(S.srt d.toArray).toList,?_,?_,e⟩
 · have h5:(S.srt d.toArray).size=d.toArray.size:=h1
   have e1:(S.srt d.toArray).extract 0 d.toArray.size=S.srt d.toArray:=by rw [← h5];exact Array.extract_size
   have e2:d.toArray.extract 0 d.toArray.size=d.toArray:=Array.extract_size
   have h6:((S.srt d.toArray).extract 0 d.toArray.size).toList.Perm (d.toArray.extract 0 d.toArray.size).toList:=h3
   rw [e1,e2] at h6
   simpa using h6
 · have h5:(S.srt d.toArray).size=d.toArray.size:=h1
   rw [List.pairwise_iff_getElem]
   intro i j hi hj hij hlt
   rw [Array.length_toList] at hi hj
   have h6:SortedIn (fun x y=>decide (S.cf x y<0)) 0 d.toArray.size (S.srt d.toArray):=h4
   have:=h6 i j (Nat.zero_le _) hij (by rw [← h5];exact hj)
   rw [getElem!_pos (S.srt d.toArray) i hi,getElem!_pos (S.srt d.toArray) j hj] at this
   simp only [Array.getElem_toList] at hlt
   simp [hlt] at this
end Go.Pf
namespace Go.Pf.Vc
open Go Go.Pf
def ylm:Nat:=113
def yln:Nat:=74
def yfi:Nat:=23
def ylo:Nat:=45
def yiu:Nat:=81
def ylp:Nat:=31
def yfj:Nat:=70
def yiv:Nat:=94
def ycZ:Nat:=35
def yg0:Nat:=97
def ydY:Nat:=69
def yg1:Nat:=71
def yfG:Nat:=19
def ylq:Nat:=68
def ylr:Nat:=20
def yg2:Nat:=38
def yiw:Nat:=95
def yiY:Nat:=114
def yls:Nat:=46
def ylt:Nat:=9
def yhV:Nat:=14
def yix:Nat:=47
def yge:Nat:=48
def yf4:Nat:=130
def yet:Nat:=131
def yct:Nat:=55
def ylu:Nat:=86
def ybh:Nat:=147
def ycy:Nat:=150
def ydZ:Nat:=174
def yeh:Nat:=179
def ybF:Nat:=144
def ydx:Nat:=180
def ydO:Nat:=145
def yec:Nat:=146
def ydf:Nat:=181
def ycz:Nat:=149
def yiZ:Nat:=148
def ycA:Nat:=87
def yhW:Nat:=66
def ylv:Nat:=132
def yd0:Nat:=57
def yd1:Nat:=56
def ybx:Nat:=117
def ybi:Nat:=123
def ycq:Nat:=61
def ydU:Nat:=136
def yd2:Nat:=135
def yhn:Nat:=134
def yiy:Nat:=170
def yiz:Nat:=171
def ymX:Nat:=140
def yei:Nat:=199
def ykb:Nat:=173
def ypg:Nat:=172
def ycP:Nat:=151
def yd3:Nat:=133
def ylw:Nat:=137
def yfz:Nat:=138
def yho:Nat:=60
def ydI:Nat:=59
def yrA:Nat:=58
def yby:Nat:=13
def yaY:Nat:=15
def ydg:Nat:=51
def ycQ:Nat:=115
def yfA:Nat:=116
def yej:Nat:=52
def ycR:Nat:=166
def ybV:Nat:=196
def yaT:Nat:=164
def ybZ:Nat:=165
def ygf:Nat:=120
def ya2:Nat:=119
def ycg:Nat:=118
def ycS:Nat:=197
def ydJ:Nat:=167
def yxn:Nat:=139
def yD1:Nat:=75
def ydp:Nat:=209
def ybQ:Nat:=198
def ybe:Nat:=168
def ych:Nat:=169
def ycT:Nat:=121
def yhp:Nat:=89
def ya3:Nat:=122
def ya4:Nat:=124
def ya5:Nat:=125
def ya6:Nat:=126
def ybb:Nat:=53
def yeG:Nat:=11
def yf5:Nat:=49
def yeS:Nat:=62
def yf6:Nat:=16
def yhX:Nat:=22
def yeT:Nat:=50
def yfB:Nat:=10
def yig:Nat:=127
def yiA:Nat:=128
def yiB:Nat:=129
def ym6:Nat:=98
def yph:Nat:=54
def ypi:Nat:=12
def yih:Nat:=3
def yFW:TFn:=⟨1,[.tmp 2],(.seq (oQ [O 2 (.mv (.c (.bool false)))] [2]) (.seq (oQ [M 3 0,O 4 (.len (.t 3)),O 5 (.bin .gtr (.t 4) (I 20)),M 6 5,⟨some 7,(.mv (.t 0)),some (6,true)⟩,⟨some 8,(.len (.t 7)),some (6,true)⟩,⟨some 9,(.bin .leq (.t 8) (I 60)),some (6,true)⟩,O 10 (.pick (.t 6) (.t 9) (.c (.bool false))),M 11 10,⟨some 12,(.mv (.t 0)),some (11,false)⟩,⟨some 13,(.len (.t 12)),some (11,false)⟩,⟨some 14,(.bin .gtr (.t 13) (I 70)),some (11,false)⟩,O 15 (.pick (.t 11) (.c (.bool true)) (.t 14)),M 2 15] [0,3,4,5,6,7,8,9,10,11,12,13,14,15]) .ret))⟩
def yFX:TFn:=⟨1,[.tmp 2],(.seq (oQ [O 1 (.boxL (.t 0)),O 2 (.mv (.c (.bool false)))] [0,2]) (.seq (.ops [O 3 (.fad 1 (.t 1)),oF 4 1 3,O 5 (.len (.t 4)),O 6 (.bin .gtr (.t 5) (I 60)),M 7 6,⟨some 8,(.fad 2 (.t 1)),some (7,false)⟩,⟨some 9,(.load false 1 (.t 8)),some (7,false)⟩,⟨some 10,(.len (.t 9)),some (7,false)⟩,⟨some 11,(.bin .gtr (.t 10) (I 60)),some (7,false)⟩,O 12 (.pick (.t 7) (.c (.bool true)) (.t 11)),M 2 12] [⟨1,(.agg [.i .i64,.d,.d]),0⟩,⟨6,(.agg [.i .i64,.d,.d]),0⟩] [] [1,3,4,5,6,7,8,9,10,11,12]) .ret))⟩
def ypj:TCode:=(.seq (.seq (oQ [M 4 3,M 5 0,O 6 (.len (.t 5)),oX 7 .lss 4 6] [4,5,6]) (.cond (.t 7) .skip (.exit 0))) (.seq (.block 1 (.seq (.ops [M 10 0,M 11 3,O 12 (.iad 3 (.t 10) (.t 11)),oT 13 3 12,O 14 (.call (.f yln) [(.t 13)])] [⟨2,(.agg [.i .i64,.d,.d]),0⟩,⟨3,(.agg [.i .i64,.d,.d]),0⟩] [] [7,10,11,12,13]) (.cond (.t 14) (.seq (oQ [O 2 (.mv (.c (.bool true)))] [0,3,14]) .ret) .skip))) (oQ [M 8 3,O 9 (.bin .add (.t 8) (I 1)),M 3 9] [8,9,14])))
def yxo:TFn:=⟨1,[.tmp 2],(.seq (oQ [O 2 (.mv (.c (.bool false)))] [2]) (.seq (.seq (oQ [O 3 (.mv (I 0))] []) (.block 0 (.loop 4277600 ypj))) (.seq (oQ [M 15 0,O 16 (.len (.t 15)),O 17 (.bin .gtr (.t 16) (I 10)),M 2 17] [0,3,7,15,16,17]) .ret)))⟩
def ym7:TCode:=(.seq (.seq (.ops [M 6 5,O 7 (.fad 0 (.t 3)),oF 8 1 7,O 9 (.len (.t 8)),oX 10 .lss 6 9] [⟨2,(.agg [.d]),0⟩] [] [6,7,8,9]) (.cond (.t 10) .skip (.exit 0))) (.seq (.block 1 (.seq (.ops [O 13 (.fad 0 (.t 3)),oF 14 1 13,M 15 5,O 16 (.iad 1 (.t 14) (.t 15)),oF 17 1 16,O 18 (.call (.f ylm) [(.t 17)])] [⟨1,(.agg [.d]),0⟩,⟨3,(.one (.d)),0⟩,⟨4,(.one (.d)),0⟩] [] [10,13,14,15,16,17]) (.cond (.t 18) (.seq (oQ [O 4 (.mv (.c (.bool true)))] [0,3,5,18]) .ret) .skip))) (oQ [M 11 5,O 12 (.bin .add (.t 11) (I 1)),M 5 12] [11,12,18])))
def yFY:TFn:=⟨2,[.tmp 4],(.seq (oQ [O 3 (.boxL (.t 1)),O 4 (.mv (.c (.bool false)))] [1,4]) (.seq (.seq (oQ [O 5 (.mv (I 0))] []) (.block 0 (.loop 69508200 ym7))) (.seq (.ops [M 19 0,O 20 (.call (.f yfi) [(.t 19)]),M 21 20,⟨some 22,(.fad 0 (.t 3)),some (21,false)⟩,⟨some 23,(.load false 1 (.t 22)),some (21,false)⟩,⟨some 24,(.len (.t 23)),some (21,false)⟩,⟨some 25,(.bin .gtr (.t 24) (I 10)),some (21,false)⟩,O 26 (.pick (.t 21) (.c (.bool true)) (.t 25)),M 4 26] [⟨4,(.agg [.d]),0⟩] [] [0,3,5,10,19,20,21,22,23,24,25,26]) .ret)))⟩
def ym8:TCode:=(.seq (.seq (.ops [M 53 4,O 54 (.fad 2 (.t 1)),oF 55 1 54,O 56 (.len (.t 55)),oX 57 .lss 53 56] [⟨2,(.agg [.i .i64,.d,.d]),0⟩] [] [53,54,55,56]) (.cond (.t 57) .skip (.exit 0))) (.seq (.block 1 (.seq (.seq (.ops [O 60 (.fad 1 (.t 1)),oF 61 1 60,M 62 4,O 63 (.bin .add (.t 62) (I 1)),O 64 (.iad 1 (.t 61) (.t 63)),oF 65 1 64,O 66 (.fad 1 (.t 1)),oF 67 1 66,M 68 4,O 69 (.iad 1 (.t 67) (.t 68)),oF 70 1 69,oX 71 .leq 65 70,M 72 71,⟨some 73,(.fad 2 (.t 1)),some (72,false)⟩,⟨some 74,(.load false 1 (.t 73)),some (72,false)⟩,⟨some 75,(.mv (.t 4)),some (72,false)⟩,⟨some 76,(.iad 1 (.t 74) (.t 75)),some (72,false)⟩,⟨some 77,(.load false 1 (.t 76)),some (72,false)⟩,⟨some 78,(.bin .lss (.t 77) (I 0)),some (72,false)⟩,O 79 (.pick (.t 72) (.c (.bool true)) (.t 78)),M 80 79,⟨some 81,(.fad 2 (.t 1)),some (80,false)⟩,⟨some 82,(.load false 1 (.t 81)),some (80,false)⟩,⟨some 83,(.mv (.t 4)),some (80,false)⟩,⟨some 84,(.iad 1 (.t 82) (.t 83)),some (80,false)⟩,⟨some 85,(.load false 1 (.t 84)),some (80,false)⟩,⟨some 86,(.bin .gtr (.t 85) (I 12)),some (80,false)⟩,O 87 (.pick (.t 80) (.c (.bool true)) (.t 86))] [⟨1,(.agg [.i .i64,.d,.d]),0⟩,⟨4,(.one (.i .i64)),0⟩,⟨5,(.one (.i .i64)),0⟩,⟨7,(.agg [.i .i64,.d,.d]),0⟩,⟨9,(.one (.i .i64)),0⟩,⟨10,(.one (.i .i64)),0⟩,⟨14,(.agg [.i .i64,.d,.d]),0⟩,⟨16,(.one (.i .i64)),0⟩,⟨17,(.one (.i .i64)),0⟩,⟨22,(.agg [.i .i64,.d,.d]),0⟩,⟨24,(.one (.i .i64)),0⟩,⟨25,(.one (.i .i64)),0⟩] [(0,2),(1,2),(0,3),(1,3),(0,6),(1,6),(2,6),(3,6),(4,6),(5,6),(0,7),(1,7),(2,7),(3,7),(4,7),(5,7),(0,8),(1,8),(2,8),(3,8),(4,8),(5,8),(6,8),(7,8),(0,9),(1,9),(2,9),(3,9),(4,9),(5,9),(0,10),(1,10),(2,10),(3,10),(4,10),(5,10),(13,15),(14,15),(21,23),(22,23)] [57,60,61,62,63,64,65,66,67,68,69,70,71,72,73,74,75,76,77,78,79,80,81,82,83,84,85,86]) (.cond (.t 87) (.seq (oQ [O 2 (.mv (I 8))] [1,3,4,87]) .ret) .skip)) (.ops [M 88 3,M 89 88,⟨some 90,(.fad 2 (.t 1)),some (89,false)⟩,⟨some 91,(.load false 1 (.t 90)),some (89,false)⟩,⟨some 92,(.mv (.t 4)),some (89,false)⟩,⟨some 93,(.iad 1 (.t 91) (.t 92)),some (89,false)⟩,⟨some 94,(.load false 1 (.t 93)),some (89,false)⟩,⟨some 95,(.bin .gtr (.t 94) (I 0)),some (89,false)⟩,O 96 (.pick (.t 89) (.c (.bool true)) (.t 95)),M 3 96] [⟨3,(.agg [.i .i64,.d,.d]),0⟩,⟨5,(.one (.i .i64)),0⟩,⟨6,(.one (.i .i64)),0⟩] [] [87,88,89,90,91,92,93,94,95,96]))) (oQ [M 58 4,O 59 (.bin .add (.t 58) (I 1)),M 4 59] [58,59])))
def yFZ:TFn:=⟨1,[.tmp 2],(.seq (oQ [O 1 (.boxL (.t 0)),O 2 (.mv (I 0))] [0,2]) (.seq (.seq (.ops [O 5 (.fad 0 (.t 1)),oF 6 1 5,O 7 (.bin .gtr (.t 6) (I 1000)),M 8 7,⟨some 9,(.fad 1 (.t 1)),some (8,false)⟩,⟨some 10,(.load false 1 (.t 9)),some (8,false)⟩,⟨some 11,(.len (.t 10)),some (8,false)⟩,⟨some 12,(.bin .gtr (.t 11) (I 40)),some (8,false)⟩,O 13 (.pick (.t 8) (.c (.bool true)) (.t 12))] [⟨1,(.agg [.i .i64,.d,.d]),0⟩,⟨5,(.agg [.i .i64,.d,.d]),0⟩] [] [5,6,7,8,9,10,11,12]) (.cond (.t 13) (.seq (oQ [O 2 (.mv (I 4))] [1,13]) .ret) .skip)) (.seq (.seq (.ops [O 14 (.fad 0 (.t 1)),oF 15 1 14,O 16 (.bin .lss (.t 15) (I 1)),M 17 16,⟨some 18,(.fad 1 (.t 1)),some (17,false)⟩,⟨some 19,(.load false 1 (.t 18)),some (17,false)⟩,⟨some 20,(.len (.t 19)),some (17,false)⟩,⟨some 21,(.bin .lss (.t 20) (I 2)),some (17,false)⟩,O 22 (.pick (.t 17) (.c (.bool true)) (.t 21)),M 23 22,⟨some 24,(.fad 2 (.t 1)),some (23,false)⟩,⟨some 25,(.load false 1 (.t 24)),some (23,false)⟩,⟨some 26,(.len (.t 25)),some (23,false)⟩,⟨some 27,(.fad 1 (.t 1)),some (23,false)⟩,⟨some 28,(.load false 1 (.t 27)),some (23,false)⟩,⟨some 29,(.len (.t 28)),some (23,false)⟩,⟨some 30,(.bin .sub (.t 29) (I 1)),some (23,false)⟩,⟨some 31,(.bin .neq (.t 26) (.t 30)),some (23,false)⟩,O 32 (.pick (.t 23) (.c (.bool true)) (.t 31)),M 33 32,⟨some 34,(.fad 1 (.t 1)),some (33,false)⟩,⟨some 35,(.load false 1 (.t 34)),some (33,false)⟩,⟨some 36,(.iad 1 (.t 35) (I 0)),some (33,false)⟩,⟨some 37,(.load false 1 (.t 36)),some (33,false)⟩,⟨some 38,(.bin .neq (.t 37) (I 0)),some (33,false)⟩,O 39 (.pick (.t 33) (.c (.bool true)) (.t 38)),M 40 39,⟨some 41,(.fad 1 (.t 1)),some (40,false)⟩,⟨some 42,(.load false 1 (.t 41)),some (40,false)⟩,⟨some 43,(.fad 1 (.t 1)),some (40,false)⟩,⟨some 44,(.load false 1 (.t 43)),some (40,false)⟩,⟨some 45,(.len (.t 44)),some (40,false)⟩,⟨some 46,(.bin .sub (.t 45) (I 1)),some (40,false)⟩,⟨some 47,(.iad 1 (.t 42) (.t 46)),some (40,false)⟩,⟨some 48,(.load false 1 (.t 47)),some (40,false)⟩,⟨some 49,(.fad 0 (.t 1)),some (40,false)⟩,⟨some 50,(.load false 1 (.t 49)),some (40,false)⟩,⟨some 51,(.bin .neq (.t 48) (.t 50)),some (40,false)⟩,O 52 (.pick (.t 40) (.c (.bool true)) (.t 51))] [⟨1,(.agg [.i .i64,.d,.d]),0⟩,⟨5,(.agg [.i .i64,.d,.d]),0⟩,⟨11,(.agg [.i .i64,.d,.d]),0⟩,⟨14,(.agg [.i .i64,.d,.d]),0⟩,⟨21,(.agg [.i .i64,.d,.d]),0⟩,⟨22,(.one (.i .i64)),0⟩,⟨23,(.one (.i .i64)),0⟩,⟨28,(.agg [.i .i64,.d,.d]),0⟩,⟨30,(.agg [.i .i64,.d,.d]),0⟩,⟨33,(.one (.i .i64)),0⟩,⟨34,(.one (.i .i64)),0⟩,⟨36,(.agg [.i .i64,.d,.d]),0⟩] [(10,13),(11,13),(12,13),(10,14),(11,14),(12,14),(10,15),(11,15),(12,15),(10,16),(11,16),(12,16),(27,29),(28,29),(27,30),(28,30),(27,31),(28,31),(27,32),(28,32),(27,35),(28,35),(29,35),(30,35),(31,35),(32,35),(33,35),(34,35),(27,36),(28,36),(29,36),(30,36),(31,36),(32,36),(33,36),(34,36)] [13,14,15,16,17,18,19,20,21,22,23,24,25,26,27,28,29,30,31,32,33,34,35,36,37,38,39,40,41,42,43,44,45,46,47,48,49,50,51]) (.cond (.t 52) (.seq (oQ [O 2 (.mv (I 8))] [1,52]) .ret) .skip)) (.seq (oQ [O 3 (.mv (.c (.bool false)))] [52]) (.seq (.seq (oQ [O 4 (.mv (I 0))] []) (.block 0 (.loop 94526800 ym8))) (.seq (.seq (oQ [M 97 3,O 98 (.un .not (.t 97))] [1,3,4,57,97]) (.cond (.t 98) (.seq (oQ [O 2 (.mv (I 8))] [98]) .ret) .skip)) (.seq (oQ [O 2 (.mv (I 0))] [98]) .ret)))))))⟩
def ypk:TCode:=(.seq (.seq (.ops [M 19 3,O 20 (.fad 0 (.t 1)),oF 21 1 20,O 22 (.len (.t 21)),oX 23 .lss 19 22] [⟨2,(.agg [.d,.d]),0⟩] [] [19,20,21,22]) (.cond (.t 23) .skip (.exit 0))) (.seq (.block 1 (.seq (.ops [O 26 (.fad 0 (.t 1)),oF 27 1 26,M 28 3,O 29 (.iad 3 (.t 27) (.t 28)),oT 30 3 29,O 31 (.call (.f yiu) [(.t 30)]),O 32 (.bin .neq (.t 31) (I 0))] [⟨1,(.agg [.d,.d]),0⟩,⟨3,(.agg [.i .i64,.d,.d]),0⟩,⟨4,(.agg [.i .i64,.d,.d]),0⟩] [] [23,26,27,28,29,30,31]) (.cond (.t 32) (.seq (.ops [O 33 (.fad 0 (.t 1)),oF 34 1 33,M 35 3,O 36 (.iad 3 (.t 34) (.t 35)),oT 37 3 36,O 38 (.call (.f yiu) [(.t 37)]),M 2 38] [⟨1,(.agg [.d,.d]),0⟩,⟨3,(.agg [.i .i64,.d,.d]),0⟩,⟨4,(.agg [.i .i64,.d,.d]),0⟩] [] [1,3,32,33,34,35,36,37,38]) .ret) .skip))) (oQ [M 24 3,O 25 (.bin .add (.t 24) (I 1)),M 3 25] [24,25,32])))
def ypl:TCode:=(.seq (.seq (.ops [M 39 4,O 40 (.fad 0 (.t 1)),oF 41 1 40,O 42 (.len (.t 41)),oX 43 .lss 39 42] [⟨2,(.agg [.d,.d]),0⟩] [] [39,40,41,42]) (.cond (.t 43) .skip (.exit 2))) (.seq (.block 3 (.seq (.ops [O 46 (.fad 0 (.t 1)),oF 47 1 46,M 48 4,O 49 (.iad 3 (.t 47) (.t 48)),O 50 (.fad 0 (.t 49)),oF 51 1 50,O 52 (.fad 0 (.t 1)),oF 53 1 52,O 54 (.iad 3 (.t 53) (I 0)),O 55 (.fad 0 (.t 54)),oF 56 1 55,oX 57 .neq 51 56] [⟨1,(.agg [.d,.d]),0⟩,⟨3,(.agg [.i .i64,.d,.d]),0⟩,⟨5,(.agg [.i .i64,.d,.d]),0⟩,⟨7,(.agg [.d,.d]),0⟩,⟨8,(.agg [.i .i64,.d,.d]),0⟩,⟨10,(.agg [.i .i64,.d,.d]),0⟩] [(0,2),(1,2),(0,6),(1,6),(2,6),(3,6),(4,6),(5,6),(0,7),(1,7),(2,7),(3,7),(4,7),(5,7),(0,8),(1,8),(2,8),(3,8),(4,8),(5,8),(0,9),(1,9),(2,9),(3,9),(4,9),(5,9),(0,10),(1,10),(2,10),(3,10),(4,10),(5,10)] [43,46,47,48,49,50,51,52,53,54,55,56]) (.cond (.t 57) (.seq (oQ [O 2 (.mv (I 8))] [1,4,57]) .ret) .skip))) (oQ [M 44 4,O 45 (.bin .add (.t 44) (I 1)),M 4 45] [44,45,57])))
def yF0:TFn:=⟨1,[.tmp 2],(.seq (oQ [O 1 (.boxL (.t 0)),O 2 (.mv (I 0))] [0,2]) (.seq (.seq (.ops [O 5 (.fad 0 (.t 1)),oF 6 1 5,O 7 (.len (.t 6)),O 8 (.bin .gtr (.t 7) (I 6)),M 9 8,⟨some 10,(.fad 1 (.t 1)),some (9,false)⟩,⟨some 11,(.load false 1 (.t 10)),some (9,false)⟩,⟨some 12,(.len (.t 11)),some (9,false)⟩,⟨some 13,(.bin .gtr (.t 12) (I 2000)),some (9,false)⟩,O 14 (.pick (.t 9) (.c (.bool true)) (.t 13))] [⟨1,(.agg [.d,.d]),0⟩,⟨6,(.agg [.d,.d]),0⟩] [] [5,6,7,8,9,10,11,12,13]) (.cond (.t 14) (.seq (oQ [O 2 (.mv (I 4))] [1,14]) .ret) .skip)) (.seq (.seq (.ops [O 15 (.fad 0 (.t 1)),oF 16 1 15,O 17 (.len (.t 16)),O 18 (.bin .eql (.t 17) (I 0))] [⟨1,(.agg [.d,.d]),0⟩] [] [14,15,16,17]) (.cond (.t 18) (.seq (oQ [O 2 (.mv (I 8))] [1,18]) .ret) .skip)) (.seq (.seq (oQ [O 3 (.mv (I 0))] [18]) (.block 0 (.loop 6981300 ypk))) (.seq (.seq (oQ [O 4 (.mv (I 0))] [3,23]) (.block 2 (.loop 6981301 ypl))) (.seq (oQ [O 2 (.mv (I 0))] [1,4,43]) .ret))))))⟩
def yKc:TFn:=⟨1,[.tmp 2],(.seq (oQ [O 2 (.mv (.c (.int .u64 (0))))] [2]) (.seq (.seq (oQ [M 3 0,O 4 (.bin .lss (.t 3) (I 0))] [3]) (.cond (.t 4) (.seq (oQ [M 5 0,O 6 (.bin .add (.t 5) (I 1)),O 7 (.un .neg (.t 6)),O 8 (.conv .u64 (.t 7)),O 9 (.bin .add (.t 8) (.c (.int .u64 (1)))),M 2 9] [0,4,5,6,7,8,9]) .ret) .skip)) (.seq (oQ [M 10 0,O 11 (.conv .u64 (.t 10)),M 2 11] [0,4,10,11]) .ret)))⟩
def ym9:TCode:=(.seq (.seq (oQ [M 5 1,O 6 (.bin .neq (.t 5) (.c (.int .u64 (0))))] [5]) (.cond (.t 6) .skip (.exit 0))) (.block 1 (.ops [M 7 1,M 8 0,M 9 1,oX 10 .rem 8 9,M 0 7,M 1 10] [] [(0,1),(0,2),(1,2),(0,3),(2,4),(3,4)] [6,7,8,9,10])))
def yKd:TFn:=⟨2,[.tmp 4],(.seq (oQ [O 4 (.mv (.c (.int .u64 (0))))] [4]) (.seq (.block 0 (.loop 16774900 ym9)) (.seq (oQ [M 11 0,M 4 11] [0,1,6,11]) .ret)))⟩
def yF1:TFn:=⟨1,[.tmp 2],(.seq (oQ [O 1 (.boxL (.t 0)),O 2 (.mv (I 0))] [0,2]) (.seq (.seq (.ops [O 3 (.fad 1 (.t 1)),oF 4 1 3,O 5 (.bin .lss (.t 4) (I 1)),M 6 5,⟨some 7,(.fad 1 (.t 1)),some (6,false)⟩,⟨some 8,(.load false 1 (.t 7)),some (6,false)⟩,⟨some 9,(.bin .gtr (.t 8) (I 1000000000000000000)),some (6,false)⟩,O 10 (.pick (.t 6) (.c (.bool true)) (.t 9)),M 11 10,⟨some 12,(.fad 0 (.t 1)),some (11,false)⟩,⟨some 13,(.load false 1 (.t 12)),some (11,false)⟩,⟨some 14,(.bin .lss (.t 13) (I (-1000000000000000000))),some (11,false)⟩,O 15 (.pick (.t 11) (.c (.bool true)) (.t 14)),M 16 15,⟨some 17,(.fad 0 (.t 1)),some (16,false)⟩,⟨some 18,(.load false 1 (.t 17)),some (16,false)⟩,⟨some 19,(.bin .gtr (.t 18) (I 1000000000000000000)),some (16,false)⟩,O 20 (.pick (.t 16) (.c (.bool true)) (.t 19)),M 21 20,⟨some 22,(.fad 0 (.t 1)),some (21,false)⟩,⟨some 23,(.load false 1 (.t 22)),some (21,false)⟩,⟨some 24,(.call (.f yfj) [(.t 23)]),some (21,false)⟩,⟨some 25,(.fad 1 (.t 1)),some (21,false)⟩,⟨some 26,(.load false 1 (.t 25)),some (21,false)⟩,⟨some 27,(.conv .u64 (.t 26)),some (21,false)⟩,⟨some 28,(.call (.f yiv) [(.t 24),(.t 27)]),some (21,false)⟩,⟨some 29,(.bin .neq (.t 28) (.c (.int .u64 (1)))),some (21,false)⟩,O 30 (.pick (.t 21) (.c (.bool true)) (.t 29))] [⟨1,(.agg [.i .i64,.i .i64]),0⟩,⟨5,(.agg [.i .i64,.i .i64]),0⟩,⟨10,(.agg [.i .i64,.i .i64]),0⟩,⟨15,(.agg [.i .i64,.i .i64]),0⟩,⟨20,(.agg [.i .i64,.i .i64]),0⟩,⟨23,(.agg [.i .i64,.i .i64]),0⟩] [(19,22),(20,22),(21,22),(19,23),(20,23),(21,23),(19,24),(20,24),(21,24)] [1,3,4,5,6,7,8,9,10,11,12,13,14,15,16,17,18,19,20,21,22,23,24,25,26,27,28,29]) (.cond (.t 30) (.seq (oQ [O 2 (.mv (I 8))] [30]) .ret) .skip)) (.seq (oQ [O 2 (.mv (I 0))] [30]) .ret)))⟩
def yIb:TFn:=⟨2,[.tmp 4],(.seq (oQ [O 2 (.boxL (.t 0)),O 3 (.boxL (.t 1)),O 4 (.mv (I 0))] [0,1,4]) (.seq (.seq (oQ [oT 5 2 2,O 6 (.call (.f ycZ) [(.t 5)]),O 7 (.bin .neq (.t 6) (I 0))] [5,6]) (.cond (.t 7) (.seq (oQ [oT 8 2 2,O 9 (.call (.f ycZ) [(.t 8)]),M 4 9] [2,3,7,8,9]) .ret) .skip)) (.seq (oQ [oT 10 2 3,O 11 (.call (.f ycZ) [(.t 10)]),M 4 11] [2,3,7,10,11]) .ret)))⟩
def yF2:TFn:=⟨2,[.cell 4 true 2],(.seq (oQ [O 4 (.allocL (.agg [(.int .u64 (0)),(.int .u64 (0))]))] []) (.seq (oQ [M 12 0,O 13 (.bin .shr (.t 12) (.c (.int .u64 (32)))),M 14 0,O 15 (.bin .and (.t 14) (.c (.int .u64 (4294967295)))),M 5 13,M 6 15] [0,12,13,14,15]) (.seq (oQ [M 16 1,O 17 (.bin .shr (.t 16) (.c (.int .u64 (32)))),M 18 1,O 19 (.bin .and (.t 18) (.c (.int .u64 (4294967295)))),M 7 17,M 8 19] [1,16,17,18,19]) (.seq (oQ [M 20 6,M 21 8,oX 22 .mul 20 21,M 23 5,M 24 8,oX 25 .mul 23 24,M 9 22,M 10 25] [8,20,21,22,23,24,25]) (.seq (oQ [M 26 10,O 27 (.bin .and (.t 26) (.c (.int .u64 (4294967295)))),M 28 6,M 29 7,oX 30 .mul 28 29,oX 31 .add 27 30,M 32 9,O 33 (.bin .shr (.t 32) (.c (.int .u64 (32)))),oX 34 .add 31 33,M 11 34] [6,26,27,28,29,30,31,32,33,34]) (.seq (oQ [M 35 5,M 36 7,oX 37 .mul 35 36,M 38 10,O 39 (.bin .shr (.t 38) (.c (.int .u64 (32)))),oX 40 .add 37 39,M 41 11,O 42 (.bin .shr (.t 41) (.c (.int .u64 (32)))),oX 43 .add 40 42,M 44 11,O 45 (.bin .shl (.t 44) (.c (.int .u64 (32)))),M 46 9,O 47 (.bin .and (.t 46) (.c (.int .u64 (4294967295)))),oX 48 .or 45 47,O 49 (.build [(.int .u64 (0)),(.int .u64 (0))] [(0,1,(.t 43)),(1,1,(.t 48))]),⟨none,(.store 2 (.t 4) (.t 49)),none⟩] [5,7,9,10,11,35,36,37,38,39,40,41,42,43,44,45,46,47,48,49]) .ret))))))⟩
def yIc:TFn:=⟨2,[.tmp 4],(.seq (oQ [O 2 (.boxL (.t 0)),O 3 (.boxL (.t 1)),O 4 (.mv (.c (.bool false)))] [0,1,4]) (.seq (.ops [O 5 (.fad 0 (.t 2)),oF 6 1 5,O 7 (.fad 0 (.t 3)),oF 8 1 7,oX 9 .lss 6 8,M 10 9,⟨some 11,(.fad 0 (.t 2)),some (10,false)⟩,⟨some 12,(.load false 1 (.t 11)),some (10,false)⟩,⟨some 13,(.fad 0 (.t 3)),some (10,false)⟩,⟨some 14,(.load false 1 (.t 13)),some (10,false)⟩,⟨some 15,(.bin .eql (.t 12) (.t 14)),some (10,false)⟩,⟨some 16,(.mv (.t 15)),some (10,false)⟩,⟨some 17,(.fad 1 (.t 2)),some (16,true)⟩,⟨some 18,(.load false 1 (.t 17)),some (16,true)⟩,⟨some 19,(.fad 1 (.t 3)),some (16,true)⟩,⟨some 20,(.load false 1 (.t 19)),some (16,true)⟩,⟨some 21,(.bin .lss (.t 18) (.t 20)),some (16,true)⟩,⟨some 22,(.pick (.t 16) (.t 21) (.c (.bool false))),some (10,false)⟩,O 23 (.pick (.t 10) (.c (.bool true)) (.t 22)),M 4 23] [⟨1,(.agg [.i .u64,.i .u64]),0⟩,⟨3,(.agg [.i .u64,.i .u64]),0⟩,⟨7,(.agg [.i .u64,.i .u64]),0⟩,⟨9,(.agg [.i .u64,.i .u64]),0⟩,⟨13,(.agg [.i .u64,.i .u64]),0⟩,⟨15,(.agg [.i .u64,.i .u64]),0⟩] [] [2,3,5,6,7,8,9,10,11,12,13,14,15,16,17,18,19,20,21,22,23]) .ret))⟩
def yId:TFn:=⟨2,[.tmp 4],(.seq (oQ [O 2 (.boxL (.t 0)),O 3 (.boxL (.t 1)),O 4 (.mv (.c (.bool false)))] [0,1,4]) (.seq (.seq (.ops [O 7 (.fad 0 (.t 2)),oF 8 1 7,O 9 (.bin .lss (.t 8) (I 0)),O 10 (.fad 0 (.t 3)),oF 11 1 10,O 12 (.bin .lss (.t 11) (I 0)),O 13 (.eqB true (.t 9) (.t 12))] [⟨1,(.agg [.i .i64,.i .i64]),0⟩,⟨4,(.agg [.i .i64,.i .i64]),0⟩] [] [7,8,9,10,11,12]) (.cond (.t 13) (.seq (.ops [O 14 (.fad 0 (.t 2)),oF 15 1 14,O 16 (.bin .lss (.t 15) (I 0)),M 4 16] [⟨1,(.agg [.i .i64,.i .i64]),0⟩] [] [2,3,13,14,15,16]) .ret) .skip)) (.seq (.ops [O 17 (.fad 0 (.t 2)),oF 18 1 17,O 19 (.call (.f yfj) [(.t 18)]),O 20 (.fad 1 (.t 3)),oF 21 1 20,O 22 (.conv .u64 (.t 21)),O 23 (.call (.f ydY) [(.t 19),(.t 22)]),O 24 (.fad 0 (.t 3)),oF 25 1 24,O 26 (.call (.f yfj) [(.t 25)]),O 27 (.fad 1 (.t 2)),oF 28 1 27,O 29 (.conv .u64 (.t 28)),O 30 (.call (.f ydY) [(.t 26),(.t 29)]),O 5 (.allocL (.agg [(.int .u64 (0)),(.int .u64 (0))])),O 6 (.allocL (.agg [(.int .u64 (0)),(.int .u64 (0))])),⟨none,(.store 2 (.t 5) (.t 23)),none⟩,⟨none,(.store 2 (.t 6) (.t 30)),none⟩] [⟨1,(.agg [.i .i64,.i .i64]),0⟩,⟨4,(.agg [.i .i64,.i .i64]),0⟩,⟨8,(.agg [.i .i64,.i .i64]),0⟩,⟨11,(.agg [.i .i64,.i .i64]),0⟩] [(0,3),(1,3),(2,3),(0,4),(1,4),(2,4),(0,5),(1,5),(2,5),(0,7),(1,7),(2,7),(3,7),(4,7),(5,7),(6,7),(0,8),(1,8),(2,8),(3,8),(4,8),(5,8),(6,8),(0,10),(1,10),(2,10),(3,10),(4,10),(5,10),(6,10),(7,10),(8,10),(9,10),(0,11),(1,11),(2,11),(3,11),(4,11),(5,11),(6,11),(7,11),(8,11),(9,11),(0,12),(1,12),(2,12),(3,12),(4,12),(5,12),(6,12),(7,12),(8,12),(9,12),(0,14),(1,14),(2,14),(3,14),(4,14),(5,14),(6,14),(7,14),(8,14),(9,14),(10,14),(11,14),(12,14),(13,14),(0,15),(1,15),(2,15),(3,15),(4,15),(5,15),(6,15),(7,15),(8,15),(9,15),(10,15),(11,15),(12,15),(13,15),(14,15)] [3,13,17,18,19,20,21,22,23,24,25,26,27,28,29,30]) (.seq (.seq (.ops [O 31 (.fad 0 (.t 2)),oF 32 1 31,O 33 (.bin .lss (.t 32) (I 0))] [⟨1,(.agg [.i .i64,.i .i64]),0⟩] [] [2,31,32]) (.cond (.t 33) (.seq (oQ [oT 34 2 6,oT 35 2 5,O 36 (.call (.f yg1) [(.t 34),(.t 35)]),M 4 36] [5,6,33,34,35,36]) .ret) .skip)) (.seq (oQ [oT 37 2 5,oT 38 2 6,O 39 (.call (.f yg1) [(.t 37),(.t 38)]),M 4 39] [5,6,33,37,38,39]) .ret)))))⟩
def yF3:TFn:=⟨1,[.tmp 2],(.seq (oQ [O 1 (.boxL (.t 0)),O 2 (.mv (.c (.bool false)))] [0,2]) (.seq (.ops [O 3 (.fad 0 (.t 1)),oT 4 2 3,O 5 (.fad 2 (.t 1)),oT 6 2 5,O 7 (.call (.f yg0) [(.t 4),(.t 6)]),O 8 (.bin .eql (.t 7) (I 0)),M 9 8,⟨some 10,(.fad 0 (.t 1)),some (9,true)⟩,⟨some 11,(.load true 2 (.t 10)),some (9,true)⟩,⟨some 12,(.fad 2 (.t 1)),some (9,true)⟩,⟨some 13,(.load true 2 (.t 12)),some (9,true)⟩,⟨some 14,(.call (.f yfG) [(.t 11),(.t 13)]),some (9,true)⟩,O 15 (.pick (.t 9) (.t 14) (.c (.bool false))),M 2 15] [⟨1,(.agg [.i .i64,.i .i64,.i .i64,.i .i64]),0⟩,⟨3,(.agg [.i .i64,.i .i64,.i .i64,.i .i64]),0⟩,⟨8,(.agg [.i .i64,.i .i64,.i .i64,.i .i64]),0⟩,⟨10,(.agg [.i .i64,.i .i64,.i .i64,.i .i64]),0⟩] [] [1,3,4,5,6,7,8,9,10,11,12,13,14,15]) .ret))⟩
def yrB:TCode:=(.seq (.seq (oQ [M 7 3,M 8 0,O 9 (.len (.t 8)),oX 10 .lss 7 9] [7,8,9]) (.cond (.t 10) .skip (.exit 0))) (.seq (.block 1 (.seq (.ops [M 13 0,M 14 3,O 15 (.iad 4 (.t 13) (.t 14)),oT 16 4 15,O 17 (.call (.f ylq) [(.t 16)]),O 18 (.un .not (.t 17)),M 19 18,⟨some 20,(.mv (.t 3)),some (19,false)⟩,⟨some 21,(.bin .gtr (.t 20) (I 0)),some (19,false)⟩,⟨some 22,(.mv (.t 21)),some (19,false)⟩,⟨some 23,(.mv (.t 0)),some (22,true)⟩,⟨some 24,(.mv (.t 3)),some (22,true)⟩,⟨some 25,(.bin .sub (.t 24) (I 1)),some (22,true)⟩,⟨some 26,(.iad 4 (.t 23) (.t 25)),some (22,true)⟩,⟨some 27,(.fad 2 (.t 26)),some (22,true)⟩,⟨some 28,(.load true 2 (.t 27)),some (22,true)⟩,⟨some 29,(.mv (.t 0)),some (22,true)⟩,⟨some 30,(.mv (.t 3)),some (22,true)⟩,⟨some 31,(.iad 4 (.t 29) (.t 30)),some (22,true)⟩,⟨some 32,(.fad 0 (.t 31)),some (22,true)⟩,⟨some 33,(.load true 2 (.t 32)),some (22,true)⟩,⟨some 34,(.call (.f yfG) [(.t 28),(.t 33)]),some (22,true)⟩,⟨some 35,(.un .not (.t 34)),some (22,true)⟩,⟨some 36,(.pick (.t 22) (.t 35) (.c (.bool false))),some (19,false)⟩,O 37 (.pick (.t 19) (.c (.bool true)) (.t 36))] [⟨2,(.agg [.i .i64,.i .i64,.i .i64,.i .i64]),0⟩,⟨3,(.agg [.i .i64,.i .i64,.i .i64,.i .i64]),0⟩,⟨13,(.agg [.i .i64,.i .i64,.i .i64,.i .i64]),0⟩,⟨15,(.agg [.i .i64,.i .i64,.i .i64,.i .i64]),0⟩,⟨18,(.agg [.i .i64,.i .i64,.i .i64,.i .i64]),0⟩,⟨20,(.agg [.i .i64,.i .i64,.i .i64,.i .i64]),0⟩] [(0,1),(10,11),(10,12),(10,16),(11,16),(12,16),(13,16),(14,16),(15,16),(10,17),(11,17),(12,17),(13,17),(14,17),(15,17),(16,17),(10,18),(11,18),(12,18),(13,18),(14,18),(15,18),(10,19),(11,19),(12,19),(13,19),(14,19),(15,19),(10,20),(11,20),(12,20),(13,20),(14,20),(15,20)] [10,13,14,15,16,17,18,19,20,21,22,23,24,25,26,27,28,29,30,31,32,33,34,35,36]) (.cond (.t 37) (.seq (oQ [O 2 (.mv (I 8))] [0,3,37]) .ret) .skip))) (oQ [M 11 3,O 12 (.bin .add (.t 11) (I 1)),M 3 12] [11,12,37])))
def yF4:TFn:=⟨1,[.tmp 2],(.seq (oQ [O 2 (.mv (I 0))] [2]) (.seq (.seq (oQ [M 4 0,O 5 (.len (.t 4)),O 6 (.bin .gtr (.t 5) (I 60))] [4,5]) (.cond (.t 6) (.seq (oQ [O 2 (.mv (I 4))] [0,6]) .ret) .skip)) (.seq (.seq (oQ [O 3 (.mv (I 0))] [6]) (.block 0 (.loop 754900 yrB))) (.seq (oQ [O 2 (.mv (I 0))] [0,3,10]) .ret))))⟩
def yLq:TFn:=⟨1,[.cell 2 true 2],(.seq (oQ [O 2 (.allocL (.agg [(.int .i64 (0)),(.int .i64 (0))]))] []) (.seq (oQ [M 3 0,O 4 (.build [(.int .i64 (0)),(.int .i64 (0))] [(0,1,(.t 3)),(1,1,(I 1))]),⟨none,(.store 2 (.t 2) (.t 4)),none⟩] [0,3,4]) .ret))⟩
def yF5:TFn:=⟨2,[.tmp 4],(.seq (oQ [O 3 (.boxL (.t 1)),O 4 (.mv (.c (.bool false)))] [1,4]) (.seq (.ops [oT 5 2 3,O 6 (.call (.f ycZ) [(.t 5)]),O 7 (.bin .eql (.t 6) (I 0)),M 8 7,⟨some 9,(.fad 0 (.t 3)),some (8,true)⟩,⟨some 10,(.load false 1 (.t 9)),some (8,true)⟩,⟨some 11,(.bin .geq (.t 10) (I 0)),some (8,true)⟩,O 12 (.pick (.t 8) (.t 11) (.c (.bool false))),M 13 12,⟨some 14,(.mv (.t 0)),some (13,true)⟩,⟨some 15,(.call (.f yg2) [(.t 14)]),some (13,true)⟩,⟨some 16,(.load true 2 (.t 3)),some (13,true)⟩,⟨some 17,(.call (.f yfG) [(.t 15),(.t 16)]),some (13,true)⟩,⟨some 18,(.un .not (.t 17)),some (13,true)⟩,O 19 (.pick (.t 13) (.t 18) (.c (.bool false))),M 4 19] [⟨5,(.agg [.i .i64,.i .i64]),0⟩] [(9,11),(10,11)] [0,3,5,6,7,8,9,10,11,12,13,14,15,16,17,18,19]) .ret))⟩
def yna:TCode:=(.seq (.seq (oQ [M 6 5,M 7 1,O 8 (.len (.t 7)),oX 9 .lss 6 8] [6,7,8]) (.cond (.t 9) .skip (.exit 0))) (.seq (.block 1 (.seq (.ops [M 12 0,M 13 1,M 14 5,O 15 (.iad 4 (.t 13) (.t 14)),O 16 (.fad 0 (.t 15)),oT 17 2 16,O 18 (.call (.f yiw) [(.t 12),(.t 17)]),O 19 (.un .not (.t 18)),M 20 19,⟨some 21,(.mv (.t 0)),some (20,false)⟩,⟨some 22,(.mv (.t 1)),some (20,false)⟩,⟨some 23,(.mv (.t 5)),some (20,false)⟩,⟨some 24,(.iad 4 (.t 22) (.t 23)),some (20,false)⟩,⟨some 25,(.fad 2 (.t 24)),some (20,false)⟩,⟨some 26,(.load true 2 (.t 25)),some (20,false)⟩,⟨some 27,(.call (.f yiw) [(.t 21),(.t 26)]),some (20,false)⟩,⟨some 28,(.un .not (.t 27)),some (20,false)⟩,O 29 (.pick (.t 20) (.c (.bool true)) (.t 28))] [⟨3,(.agg [.i .i64,.i .i64,.i .i64,.i .i64]),0⟩,⟨5,(.agg [.i .i64,.i .i64,.i .i64,.i .i64]),0⟩,⟨12,(.agg [.i .i64,.i .i64,.i .i64,.i .i64]),0⟩,⟨14,(.agg [.i .i64,.i .i64,.i .i64,.i .i64]),0⟩] [] [9,12,13,14,15,16,17,18,19,20,21,22,23,24,25,26,27,28]) (.cond (.t 29) (.seq (oQ [O 4 (.mv (.c (.bool false)))] [0,1,5,29]) .ret) .skip))) (oQ [M 10 5,O 11 (.bin .add (.t 10) (I 1)),M 5 11] [10,11,29])))
def yD2:TFn:=⟨2,[.tmp 4],(.seq (oQ [O 4 (.mv (.c (.bool false)))] [4]) (.seq (.seq (oQ [O 5 (.mv (I 0))] []) (.block 0 (.loop 21172200 yna))) (.seq (oQ [O 4 (.mv (.c (.bool true)))] [0,1,5,9]) .ret)))⟩
def ynb:TCode:=(.seq (.seq (.ops [M 21 6,O 22 (.fad 0 (.t 3)),oF 23 1 22,O 24 (.len (.t 23)),oX 25 .lss 21 24] [⟨2,(.agg [.d]),0⟩] [] [21,22,23,24]) (.cond (.t 25) .skip (.exit 0))) (.seq (.block 1 (.seq (.ops [O 28 (.fad 0 (.t 3)),oF 29 1 28,M 30 6,O 31 (.iad 1 (.t 29) (.t 30)),oF 32 1 31,O 33 (.call (.f ylr) [(.t 32)]),M 7 33] [⟨1,(.agg [.d]),0⟩,⟨3,(.one (.d)),0⟩,⟨4,(.one (.d)),0⟩] [] [25,28,29,30,31,32,33]) (.seq (oQ [M 34 7,O 35 (.bin .neq (.t 34) (I 0))] [34]) (.cond (.t 35) (.seq (oQ [M 36 7,M 4 36] [0,3,6,7,35,36]) .ret) .skip)))) (oQ [M 26 6,O 27 (.bin .add (.t 26) (I 1)),M 6 27] [7,26,27,35])))
def ync:TCode:=(.seq (.seq (.ops [M 37 8,O 38 (.fad 0 (.t 3)),oF 39 1 38,O 40 (.len (.t 39)),oX 41 .lss 37 40] [⟨2,(.agg [.d]),0⟩] [] [37,38,39,40]) (.cond (.t 41) .skip (.exit 2))) (.seq (.block 3 (.seq (.ops [M 44 0,O 45 (.iad 3 (.t 44) (I 0)),O 46 (.fad 0 (.t 45)),oF 47 1 46,O 48 (.fad 0 (.t 3)),oF 49 1 48,M 50 8,O 51 (.iad 1 (.t 49) (.t 50)),oF 52 1 51,O 53 (.call (.f yiY) [(.t 47),(.t 52)]),O 54 (.un .not (.t 53))] [⟨1,(.agg [.i .i64,.d,.d]),0⟩,⟨3,(.agg [.i .i64,.d,.d]),0⟩,⟨5,(.agg [.d]),0⟩,⟨7,(.one (.d)),0⟩,⟨8,(.one (.d)),0⟩] [(0,4),(1,4),(2,4),(3,4),(0,5),(1,5),(2,5),(3,5),(0,6),(1,6),(2,6),(3,6),(4,6),(5,6),(0,7),(1,7),(2,7),(3,7),(0,8),(1,8),(2,8),(3,8)] [41,44,45,46,47,48,49,50,51,52,53]) (.cond (.t 54) (.seq (oQ [O 4 (.mv (I 2))] [0,3,8,54]) .ret) .skip))) (oQ [M 42 8,O 43 (.bin .add (.t 42) (I 1)),M 8 43] [42,43,54])))
def yF6:TFn:=⟨2,[.tmp 4],(.seq (oQ [O 3 (.boxL (.t 1)),O 4 (.mv (I 0))] [1,4]) (.seq (.seq (oQ [M 9 0,O 10 (.build [.nils,.nils] [(0,1,(.t 9))]),O 11 (.call (.f ylp) [(.t 10)]),M 5 11] [9,10,11]) (.seq (oQ [M 12 5,O 13 (.bin .neq (.t 12) (I 0))] [12]) (.cond (.t 13) (.seq (oQ [M 14 5,M 4 14] [0,3,5,13,14]) .ret) .skip))) (.seq (.seq (.ops [O 15 (.fad 0 (.t 3)),oF 16 1 15,O 17 (.len (.t 16)),M 18 0,O 19 (.len (.t 18)),oX 20 .neq 17 19] [⟨1,(.agg [.d]),0⟩] [] [5,13,15,16,17,18,19]) (.cond (.t 20) (.seq (oQ [O 4 (.mv (I 2))] [0,3,20]) .ret) .skip)) (.seq (.seq (oQ [O 6 (.mv (I 0))] [20]) (.block 0 (.loop 19434100 ynb))) (.seq (.seq (oQ [O 8 (.mv (I 0))] [6,25]) (.block 2 (.loop 19434101 ync))) (.seq (oQ [O 4 (.mv (I 0))] [0,3,8,41]) .ret))))))⟩
def yF7:TFn:=⟨2,[.tmp 4],(.seq (oQ [O 3 (.boxL (.t 1)),O 4 (.mv (.c (.bool false)))] [1,4]) (.seq (oQ [M 5 0,oT 6 1 3,O 7 (.call (.f ylo) [(.t 5),(.t 6)]),O 8 (.un .not (.t 7)),M 9 8,⟨some 10,(.mv (.t 0)),some (9,true)⟩,⟨some 11,(.load true 1 (.t 3)),some (9,true)⟩,⟨some 12,(.call (.f yls) [(.t 10),(.t 11)]),some (9,true)⟩,⟨some 13,(.bin .eql (.t 12) (I 0)),some (9,true)⟩,O 14 (.pick (.t 9) (.t 13) (.c (.bool false))),M 4 14] [0,3,5,6,7,8,9,10,11,12,13,14]) .ret))⟩
def yLr:TFn:=⟨2,[.cell 4 true 4],(.seq (oQ [O 4 (.allocL (.agg [(.int .i64 (0)),(.int .i64 (0)),(.int .i64 (0)),(.int .i64 (0))]))] []) (.seq (oQ [M 5 0,O 6 (.call (.f yg2) [(.t 5)]),M 7 1,O 8 (.call (.f yg2) [(.t 7)]),O 9 (.build [(.int .i64 (0)),(.int .i64 (0)),(.int .i64 (0)),(.int .i64 (0))] [(0,2,(.t 6)),(2,2,(.t 8))]),⟨none,(.store 4 (.t 4) (.t 9)),none⟩] [0,1,5,6,7,8,9]) .ret))⟩
def ykc:TCode:=(.seq (.seq (oQ [M 5 4,M 6 0,O 7 (.len (.t 6)),oX 8 .lss 5 7] [5,6,7]) (.cond (.t 8) .skip (.exit 0))) (.seq (.block 1 (.ops [O 11 (.fad 0 (.t 3)),oF 12 1 11,M 13 0,M 14 4,O 15 (.iad 4 (.t 13) (.t 14)),oT 16 4 15,O 17 (.buildD 4 (.agg [(.int .i64 (0)),(.int .i64 (0)),(.int .i64 (0)),(.int .i64 (0))]) 1 [(0,(.t 16))]),O 18 (.buildD 1 (.data []) 1 [(0,(.t 17))]),O 19 (.app true 1 24 (.t 12) (.t 18)),O 20 (.fad 0 (.t 3)),⟨none,(.store 1 (.t 20) (.t 19)),none⟩] [⟨1,(.agg [.d]),0⟩,⟨4,(.agg [.i .i64,.i .i64,.i .i64,.i .i64]),0⟩,⟨5,(.agg [.i .i64,.i .i64,.i .i64,.i .i64]),0⟩,⟨10,(.agg [.d]),0⟩] [(0,2),(1,2),(0,3),(1,3),(2,3),(0,4),(1,4),(0,5),(1,5),(0,6),(1,6),(0,7),(1,7)] [8,11,12,13,14,15,16,17,18,19,20])) (oQ [M 9 4,O 10 (.bin .add (.t 9) (I 1)),M 4 10] [9,10])))
def yF8:TFn:=⟨1,[.cell 2 true 1],(.seq (oQ [O 2 (.allocL (.agg [.nils]))] []) (.seq (oQ [O 3 (.allocL (.agg [.nils]))] []) (.seq (.seq (oQ [O 4 (.mv (I 0))] []) (.block 0 (.loop 99620800 ykc))) (.seq (oQ [oT 21 1 3,⟨none,(.store 1 (.t 2) (.t 21)),none⟩] [0,3,4,8,21]) .ret))))⟩
def yKe:TFn:=⟨0,[.tmp 0],(.seq (oQ [O 0 (.mv (.c .nils))] [0]) (.seq (oQ [O 1 (.buildD 1 (.int .i64 (0)) 2 [(0,(I 0)),(1,(I 2))]),O 2 (.buildD 1 (.int .i64 (0)) 1 [(0,(I 1))]),O 3 (.build [(.int .i64 (0)),.nils,.nils] [(0,1,(I 2)),(1,1,(.t 1)),(2,1,(.t 2))]),O 4 (.buildD 1 (.int .i64 (0)) 3 [(0,(I 0)),(1,(I 1)),(2,(I 2))]),O 5 (.buildD 1 (.int .i64 (0)) 2 [(0,(I 3)),(1,(I 1))]),O 6 (.build [(.int .i64 (0)),.nils,.nils] [(0,1,(I 2)),(1,1,(.t 4)),(2,1,(.t 5))]),O 7 (.buildSl true 3 (.agg [(.int .i64 (0)),(.data []),(.data [])]) 2 [(0,(.t 3)),(1,(.t 6))]),M 0 7] [1,2,3,4,5,6,7]) .ret))⟩
def ynd:TCode:=(.seq (.seq (oQ [M 12 4,M 13 0,O 14 (.len (.t 13)),oX 15 .lss 12 14] [12,13,14]) (.cond (.t 15) .skip (.exit 0))) (.seq (.block 1 (.ops [M 18 3,M 19 0,M 20 4,O 21 (.iad 1 (.t 19) (.t 20)),oF 22 1 21,O 23 (.minmax false [(.t 18),(.t 22)]),M 3 23] [⟨3,(.one (.i .i64)),0⟩,⟨4,(.one (.i .i64)),0⟩] [] [15,18,19,20,21,22,23])) (oQ [M 16 4,O 17 (.bin .add (.t 16) (I 1)),M 4 17] [16,17])))
def yyM:TFn:=⟨1,[.tmp 2],(.seq (oQ [O 2 (.mv (I 0))] [2]) (.seq (.seq (oQ [M 5 0,O 6 (.len (.t 5)),O 7 (.bin .lss (.t 6) (I 1))] [5,6]) (.cond (.t 7) (oQ [⟨some 8,.bad,none⟩,⟨none,.bad,none⟩] [7,8]) .skip)) (.seq (.ops [M 9 0,O 10 (.iad 1 (.t 9) (I 0)),oF 11 1 10,M 3 11] [⟨1,(.one (.i .i64)),0⟩,⟨2,(.one (.i .i64)),0⟩] [] [7,9,10,11]) (.seq (.seq (oQ [O 4 (.mv (I 1))] []) (.block 0 (.loop 10434000 ynd))) (.seq (oQ [M 24 3,M 2 24] [0,3,4,15,24]) .ret)))))⟩
def yne:TCode:=(.seq (.seq (oQ [M 12 4,M 13 0,O 14 (.len (.t 13)),oX 15 .lss 12 14] [12,13,14]) (.cond (.t 15) .skip (.exit 0))) (.seq (.block 1 (.ops [M 18 3,M 19 0,M 20 4,O 21 (.iad 1 (.t 19) (.t 20)),oF 22 1 21,O 23 (.minmax true [(.t 18),(.t 22)]),M 3 23] [⟨3,(.one (.i .i64)),0⟩,⟨4,(.one (.i .i64)),0⟩] [] [15,18,19,20,21,22,23])) (oQ [M 16 4,O 17 (.bin .add (.t 16) (I 1)),M 4 17] [16,17])))
def yyN:TFn:=⟨1,[.tmp 2],(.seq (oQ [O 2 (.mv (I 0))] [2]) (.seq (.seq (oQ [M 5 0,O 6 (.len (.t 5)),O 7 (.bin .lss (.t 6) (I 1))] [5,6]) (.cond (.t 7) (oQ [⟨some 8,.bad,none⟩,⟨none,.bad,none⟩] [7,8]) .skip)) (.seq (.ops [M 9 0,O 10 (.iad 1 (.t 9) (I 0)),oF 11 1 10,M 3 11] [⟨1,(.one (.i .i64)),0⟩,⟨2,(.one (.i .i64)),0⟩] [] [7,9,10,11]) (.seq (.seq (oQ [O 4 (.mv (I 1))] []) (.block 0 (.loop 64079100 yne))) (.seq (oQ [M 24 3,M 2 24] [0,3,4,15,24]) .ret)))))⟩
def ynf:TCode:=(.seq (oQ [oX 51 .lss 50 49] []) (.seq (.cond (.t 51) .skip (.exit 0)) (.seq (.block 1 (.seq (oQ [M 52 50,M 4 52] [51,52]) (.seq (.ops [O 53 (.fad 1 (.t 1)),oF 54 1 53,M 55 4,O 56 (.iad 1 (.t 54) (.t 55)),oF 57 1 56,O 58 (.fad 1 (.t 1)),oF 59 1 58,M 60 4,O 61 (.bin .add (.t 60) (I 1)),O 62 (.iad 1 (.t 59) (.t 61)),oF 63 1 62,oX 64 .geq 57 63] [⟨1,(.agg [.i .i64,.d,.d]),0⟩,⟨3,(.one (.i .i64)),0⟩,⟨4,(.one (.i .i64)),0⟩,⟨6,(.agg [.i .i64,.d,.d]),0⟩,⟨9,(.one (.i .i64)),0⟩,⟨10,(.one (.i .i64)),0⟩] [(0,2),(1,2),(0,5),(1,5),(2,5),(3,5),(4,5),(0,6),(1,6),(2,6),(3,6),(4,6),(0,7),(1,7),(2,7),(3,7),(4,7),(5,7),(6,7),(0,8),(1,8),(2,8),(3,8),(4,8),(5,8),(6,8),(0,9),(1,9),(2,9),(3,9),(4,9),(0,10),(1,10),(2,10),(3,10),(4,10)] [4,53,54,55,56,57,58,59,60,61,62,63]) (.cond (.t 64) (.seq (oQ [O 2 (.mv (I 8))] [1,49,50,64]) .ret) .skip)))) (oQ [O 65 (.bin .add (.t 50) (I 1)),M 50 65] [64,65]))))
def yD3:TFn:=⟨1,[.tmp 2],(.seq (oQ [O 1 (.boxL (.t 0)),O 2 (.mv (I 0))] [0,2]) (.seq (.ops [O 5 (.fad 1 (.t 1)),oF 6 1 5,O 7 (.len (.t 6)),M 3 7] [⟨1,(.agg [.i .i64,.d,.d]),0⟩] [] [5,6,7]) (.seq (.seq (.ops [O 8 (.fad 0 (.t 1)),oF 9 1 8,O 10 (.bin .gtr (.t 9) (I 1000)),M 11 10,⟨some 12,(.mv (.t 3)),some (11,false)⟩,⟨some 13,(.bin .gtr (.t 12) (I 40)),some (11,false)⟩,O 14 (.pick (.t 11) (.c (.bool true)) (.t 13))] [⟨1,(.agg [.i .i64,.d,.d]),0⟩] [] [8,9,10,11,12,13]) (.cond (.t 14) (.seq (oQ [O 2 (.mv (I 4))] [1,3,14]) .ret) .skip)) (.seq (.seq (.ops [O 15 (.fad 0 (.t 1)),oF 16 1 15,O 17 (.bin .lss (.t 16) (I 1)),M 18 17,⟨some 19,(.mv (.t 3)),some (18,false)⟩,⟨some 20,(.bin .lss (.t 19) (I 2)),some (18,false)⟩,O 21 (.pick (.t 18) (.c (.bool true)) (.t 20)),M 22 21,⟨some 23,(.fad 2 (.t 1)),some (22,false)⟩,⟨some 24,(.load false 1 (.t 23)),some (22,false)⟩,⟨some 25,(.len (.t 24)),some (22,false)⟩,⟨some 26,(.mv (.t 3)),some (22,false)⟩,⟨some 27,(.bin .sub (.t 26) (I 1)),some (22,false)⟩,⟨some 28,(.bin .neq (.t 25) (.t 27)),some (22,false)⟩,O 29 (.pick (.t 22) (.c (.bool true)) (.t 28)),M 30 29,⟨some 31,(.fad 1 (.t 1)),some (30,false)⟩,⟨some 32,(.load false 1 (.t 31)),some (30,false)⟩,⟨some 33,(.iad 1 (.t 32) (I 0)),some (30,false)⟩,⟨some 34,(.load false 1 (.t 33)),some (30,false)⟩,⟨some 35,(.bin .neq (.t 34) (I 0)),some (30,false)⟩,O 36 (.pick (.t 30) (.c (.bool true)) (.t 35)),M 37 36,⟨some 38,(.fad 1 (.t 1)),some (37,false)⟩,⟨some 39,(.load false 1 (.t 38)),some (37,false)⟩,⟨some 40,(.mv (.t 3)),some (37,false)⟩,⟨some 41,(.bin .sub (.t 40) (I 1)),some (37,false)⟩,⟨some 42,(.iad 1 (.t 39) (.t 41)),some (37,false)⟩,⟨some 43,(.load false 1 (.t 42)),some (37,false)⟩,⟨some 44,(.fad 0 (.t 1)),some (37,false)⟩,⟨some 45,(.load false 1 (.t 44)),some (37,false)⟩,⟨some 46,(.bin .neq (.t 43) (.t 45)),some (37,false)⟩,O 47 (.pick (.t 37) (.c (.bool true)) (.t 46))] [⟨1,(.agg [.i .i64,.d,.d]),0⟩,⟨9,(.agg [.i .i64,.d,.d]),0⟩,⟨17,(.agg [.i .i64,.d,.d]),0⟩,⟨18,(.one (.i .i64)),0⟩,⟨19,(.one (.i .i64)),0⟩,⟨24,(.agg [.i .i64,.d,.d]),0⟩,⟨27,(.one (.i .i64)),0⟩,⟨28,(.one (.i .i64)),0⟩,⟨30,(.agg [.i .i64,.d,.d]),0⟩] [(8,11),(9,11),(10,11),(8,12),(9,12),(10,12),(23,25),(24,25),(23,26),(24,26),(23,29),(24,29),(25,29),(26,29),(27,29),(28,29),(23,30),(24,30),(25,30),(26,30),(27,30),(28,30)] [14,15,16,17,18,19,20,21,22,23,24,25,26,27,28,29,30,31,32,33,34,35,36,37,38,39,40,41,42,43,44,45,46]) (.cond (.t 47) (.seq (oQ [O 2 (.mv (I 8))] [1,3,47]) .ret) .skip)) (.seq (.seq (oQ [M 48 3,O 49 (.bin .sub (.t 48) (I 1)),O 50 (.mv (I 0))] [3,47,48]) (.block 0 (.loop 87419700 ynf))) (.seq (.seq (.ops [O 66 (.fad 2 (.t 1)),oF 67 1 66,O 68 (.call (.f yf4) [(.t 67)]),O 69 (.bin .lss (.t 68) (I 0)),M 70 69,⟨some 71,(.fad 2 (.t 1)),some (70,false)⟩,⟨some 72,(.load false 1 (.t 71)),some (70,false)⟩,⟨some 73,(.call (.f yet) [(.t 72)]),some (70,false)⟩,⟨some 74,(.bin .gtr (.t 73) (I 12)),some (70,false)⟩,O 75 (.pick (.t 70) (.c (.bool true)) (.t 74)),M 76 75,⟨some 77,(.fad 2 (.t 1)),some (76,false)⟩,⟨some 78,(.load false 1 (.t 77)),some (76,false)⟩,⟨some 79,(.call (.f yet) [(.t 78)]),some (76,false)⟩,⟨some 80,(.bin .eql (.t 79) (I 0)),some (76,false)⟩,O 81 (.pick (.t 76) (.c (.bool true)) (.t 80))] [⟨1,(.agg [.i .i64,.d,.d]),0⟩,⟨6,(.agg [.i .i64,.d,.d]),0⟩,⟨12,(.agg [.i .i64,.d,.d]),0⟩] [] [1,49,50,51,66,67,68,69,70,71,72,73,74,75,76,77,78,79,80]) (.cond (.t 81) (.seq (oQ [O 2 (.mv (I 8))] [81]) .ret) .skip)) (.seq (oQ [O 2 (.mv (I 0))] [81]) .ret)))))))⟩
def yng:TCode:=(.seq (oQ [oX 26 .lss 25 24] []) (.seq (.cond (.t 26) .skip (.exit 0)) (.seq (.block 1 (.seq (.ops [O 27 (.iad 3 (.t 23) (.t 25)),oT 28 3 27,O 4 (.allocL (.agg [(.int .i64 (0)),.nils,.nils])),⟨none,(.store 3 (.t 4) (.t 28)),none⟩] [⟨0,(.agg [.i .i64,.d,.d]),0⟩,⟨1,(.agg [.i .i64,.d,.d]),0⟩] [] [26,27,28]) (.seq (oQ [oT 29 3 4,O 30 (.call (.f yct) [(.t 29)]),M 5 30] [4,29,30]) (.seq (oQ [M 31 5,O 32 (.bin .neq (.t 31) (I 0))] [31]) (.cond (.t 32) (.seq (oQ [M 33 5,M 2 33] [1,5,23,24,25,32,33]) .ret) .skip))))) (oQ [O 34 (.bin .add (.t 25) (I 1)),M 25 34] [5,32,34]))))
def ynh:TCode:=(.seq (oQ [oX 39 .lss 38 37] []) (.seq (.cond (.t 39) .skip (.exit 2)) (.seq (.block 3 (.seq (.ops [O 40 (.iad 3 (.t 36) (.t 38)),oT 41 3 40,O 7 (.allocL (.agg [(.int .i64 (0)),.nils,.nils])),⟨none,(.store 3 (.t 7) (.t 41)),none⟩] [⟨0,(.agg [.i .i64,.d,.d]),0⟩,⟨1,(.agg [.i .i64,.d,.d]),0⟩] [] [39,40,41]) (.seq (.ops [O 42 (.fad 0 (.t 7)),oF 43 1 42,O 44 (.fad 0 (.t 1)),oF 45 1 44,O 46 (.iad 3 (.t 45) (I 0)),O 47 (.fad 0 (.t 46)),oF 48 1 47,oX 49 .neq 43 48] [⟨1,(.agg [.i .i64,.d,.d]),0⟩,⟨3,(.agg [.d,.d]),0⟩,⟨4,(.agg [.i .i64,.d,.d]),0⟩,⟨6,(.agg [.i .i64,.d,.d]),0⟩] [(0,2),(1,2),(0,3),(1,3),(0,4),(1,4),(0,5),(1,5),(0,6),(1,6)] [7,42,43,44,45,46,47,48]) (.cond (.t 49) (.seq (oQ [O 2 (.mv (I 8))] [1,36,37,38,49]) .ret) .skip)))) (oQ [O 50 (.bin .add (.t 38) (I 1)),M 38 50] [49,50]))))
def yF9:TFn:=⟨1,[.tmp 2],(.seq (oQ [O 1 (.boxL (.t 0)),O 2 (.mv (I 0))] [0,2]) (.seq (.seq (.ops [O 8 (.fad 0 (.t 1)),oF 9 1 8,O 10 (.len (.t 9)),O 11 (.bin .gtr (.t 10) (I 6)),M 12 11,⟨some 13,(.fad 1 (.t 1)),some (12,false)⟩,⟨some 14,(.load false 1 (.t 13)),some (12,false)⟩,⟨some 15,(.len (.t 14)),some (12,false)⟩,⟨some 16,(.bin .gtr (.t 15) (I 2000)),some (12,false)⟩,O 17 (.pick (.t 12) (.c (.bool true)) (.t 16))] [⟨1,(.agg [.d,.d]),0⟩,⟨6,(.agg [.d,.d]),0⟩] [] [8,9,10,11,12,13,14,15,16]) (.cond (.t 17) (.seq (oQ [O 2 (.mv (I 4))] [1,17]) .ret) .skip)) (.seq (.seq (.ops [O 18 (.fad 0 (.t 1)),oF 19 1 18,O 20 (.len (.t 19)),O 21 (.bin .eql (.t 20) (I 0))] [⟨1,(.agg [.d,.d]),0⟩] [] [17,18,19,20]) (.cond (.t 21) (.seq (oQ [O 2 (.mv (I 8))] [1,21]) .ret) .skip)) (.seq (.seq (.ops [O 22 (.fad 0 (.t 1)),oF 23 1 22,O 24 (.len (.t 23)),O 25 (.mv (I 0))] [⟨1,(.agg [.d,.d]),0⟩] [] [21,22]) (.block 0 (.loop 12157600 yng))) (.seq (.seq (.ops [O 35 (.fad 0 (.t 1)),oF 36 1 35,O 37 (.len (.t 36)),O 38 (.mv (I 0))] [⟨1,(.agg [.d,.d]),0⟩] [] [23,24,25,26,35]) (.block 2 (.loop 12157601 ynh))) (.seq (oQ [O 2 (.mv (I 0))] [1,36,37,38,39]) .ret))))))⟩
def yD4:TFn:=⟨1,[.tmp 2],(.seq (oQ [O 2 (.mv (.c (.int .u64 (0))))] [2]) (.seq (.seq (oQ [M 3 0,O 4 (.bin .lss (.t 3) (I 0))] [3]) (.cond (.t 4) (.seq (oQ [M 5 0,O 6 (.conv .u64 (.t 5)),O 7 (.un .neg (.t 6)),M 2 7] [0,4,5,6,7]) .ret) .skip)) (.seq (oQ [M 8 0,O 9 (.conv .u64 (.t 8)),M 2 9] [0,4,8,9]) .ret)))⟩
def yni:TCode:=(.seq (.seq (oQ [M 5 1,O 6 (.bin .gtr (.t 5) (.c (.int .u64 (0))))] [5]) (.cond (.t 6) .skip (.exit 0))) (.block 1 (.ops [M 7 1,M 8 0,M 9 1,oX 10 .rem 8 9,M 0 7,M 1 10] [] [(0,1),(0,2),(1,2),(0,3),(2,4),(3,4)] [6,7,8,9,10])))
def yGa:TFn:=⟨2,[.tmp 4],(.seq (oQ [O 4 (.mv (.c (.int .u64 (0))))] [4]) (.seq (.block 0 (.loop 32725300 yni)) (.seq (oQ [M 11 0,M 4 11] [0,1,6,11]) .ret)))⟩
def yBB:TFn:=⟨1,[.tmp 2],(.seq (oQ [O 1 (.boxL (.t 0)),O 2 (.mv (I 0))] [0,2]) (.seq (.seq (.ops [O 3 (.fad 1 (.t 1)),oF 4 1 3,O 5 (.bin .lss (.t 4) (I 1)),M 6 5,⟨some 7,(.fad 0 (.t 1)),some (6,false)⟩,⟨some 8,(.load false 1 (.t 7)),some (6,false)⟩,⟨some 9,(.call (.f ybh) [(.t 8)]),some (6,false)⟩,⟨some 10,(.fad 1 (.t 1)),some (6,false)⟩,⟨some 11,(.load false 1 (.t 10)),some (6,false)⟩,⟨some 12,(.conv .u64 (.t 11)),some (6,false)⟩,⟨some 13,(.minmax true [(.t 9),(.t 12)]),some (6,false)⟩,⟨some 14,(.bin .gtr (.t 13) (.c (.int .u64 (1000000000000000000)))),some (6,false)⟩,O 15 (.pick (.t 6) (.c (.bool true)) (.t 14)),M 16 15,⟨some 17,(.fad 0 (.t 1)),some (16,false)⟩,⟨some 18,(.load false 1 (.t 17)),some (16,false)⟩,⟨some 19,(.call (.f ybh) [(.t 18)]),some (16,false)⟩,⟨some 20,(.fad 1 (.t 1)),some (16,false)⟩,⟨some 21,(.load false 1 (.t 20)),some (16,false)⟩,⟨some 22,(.conv .u64 (.t 21)),some (16,false)⟩,⟨some 23,(.call (.f ycy) [(.t 19),(.t 22)]),some (16,false)⟩,⟨some 24,(.bin .gtr (.t 23) (.c (.int .u64 (1)))),some (16,false)⟩,O 25 (.pick (.t 16) (.c (.bool true)) (.t 24))] [⟨1,(.agg [.i .i64,.i .i64]),0⟩,⟨5,(.agg [.i .i64,.i .i64]),0⟩,⟨8,(.agg [.i .i64,.i .i64]),0⟩,⟨15,(.agg [.i .i64,.i .i64]),0⟩,⟨18,(.agg [.i .i64,.i .i64]),0⟩] [(4,7),(5,7),(6,7),(4,8),(5,8),(6,8),(4,9),(5,9),(6,9),(14,17),(15,17),(16,17),(14,18),(15,18),(16,18),(14,19),(15,19),(16,19)] [1,3,4,5,6,7,8,9,10,11,12,13,14,15,16,17,18,19,20,21,22,23,24]) (.cond (.t 25) (.seq (oQ [O 2 (.mv (I 8))] [25]) .ret) .skip)) (.seq (oQ [O 2 (.mv (I 0))] [25]) .ret)))⟩
def ynj:TCode:=(.seq (oQ [oX 9 .lss 8 7] []) (.seq (.cond (.t 9) .skip (.exit 0)) (.seq (.block 1 (.seq (.ops [O 10 (.iad 1 (.t 6) (.t 8)),oF 11 1 10,M 5 11] [⟨0,(.one (.i .i64)),0⟩,⟨1,(.one (.i .i64)),0⟩] [] [9,10,11]) (.seq (oQ [M 12 5,M 13 3,oX 14 .neq 12 13] [12,13]) (.cond (.t 14) (.seq (oQ [M 15 5,M 2 15] [3,5,6,7,8,14,15]) .ret) .skip)))) (oQ [O 16 (.bin .add (.t 8) (I 1)),M 8 16] [5,14,16]))))
def yuz:TFn:=⟨1,[.tmp 2],(.seq (oQ [O 2 (.mv (I 0))] [2]) (.seq (oQ [O 3 (.mv (I 0))] []) (.seq (.seq (oQ [M 6 0,O 7 (.len (.t 6)),O 8 (.mv (I 0))] [0]) (.block 0 (.loop 38508400 ynj))) (.seq (oQ [M 17 3,M 2 17] [3,6,7,8,9,17]) .ret))))⟩
def yBC:TFn:=⟨2,[.tmp 4],(.seq (oQ [O 2 (.boxL (.t 0)),O 3 (.boxL (.t 1)),O 4 (.mv (I 0))] [0,1,4]) (.seq (.ops [oT 5 2 2,O 6 (.call (.f ydZ) [(.t 5)]),oT 7 2 3,O 8 (.call (.f ydZ) [(.t 7)]),O 9 (.buildD 1 (.int .i64 (0)) 2 [(0,(.t 6)),(1,(.t 8))]),O 10 (.call (.f yeh) [(.t 9)]),M 4 10] [] [(0,2),(1,2)] [2,3,5,6,7,8,9,10]) .ret))⟩
def yvI:TFn:=⟨1,[.tmp 2],(.seq (oQ [O 2 (.mv (.c (.bool false)))] [2]) (.seq (oQ [M 3 0,M 4 0,oX 5 .neq 3 4,M 2 5] [0,3,4,5]) .ret))⟩
def yta:TFn:=⟨2,[.tmp 4],(.seq (oQ [O 4 (.mv (I 0))] [4]) (.seq (oQ [M 7 0,O 8 (.call (.f ydx) [(.t 7)]),M 5 8] [7,8]) (.seq (oQ [M 9 1,O 10 (.call (.f ydx) [(.t 9)]),M 6 10] [9,10]) (.seq (.seq (oQ [M 11 5] [5]) (.cond (.t 11) (.seq (.seq (oQ [M 12 6] [0,1,6,11]) (.cond (.t 12) (.seq (oQ [O 4 (.mv (I 0))] [12]) .ret) .skip)) (.seq (oQ [O 4 (.mv (I (-1)))] [12]) .ret)) .skip)) (.seq (.seq (oQ [M 13 6] [6,11]) (.cond (.t 13) (.seq (oQ [O 4 (.mv (I 1))] [0,1,13]) .ret) .skip)) (.seq (.seq (oQ [M 14 0,M 15 1,oX 16 .lss 14 15] [13,14,15]) (.cond (.t 16) (.seq (oQ [O 4 (.mv (I (-1)))] [0,1,16]) .ret) .skip)) (.seq (.seq (oQ [M 17 0,M 18 1,oX 19 .gtr 17 18] [0,1,16,17,18]) (.cond (.t 19) (.seq (oQ [O 4 (.mv (I 1))] [19]) .ret) .skip)) (.seq (oQ [O 4 (.mv (I 0))] [19]) .ret))))))))⟩
def yKf:TFn:=⟨2,[.tmp 4,.tmp 5],(.seq (oQ [O 4 (.mv (.c (.int .u64 (0)))),O 5 (.mv (.c (.int .u64 (0))))] [4,5]) (.seq (oQ [M 14 0,O 15 (.bin .and (.t 14) (.c (.int .u64 (4294967295)))),M 6 15] [14,15]) (.seq (oQ [M 16 0,O 17 (.bin .shr (.t 16) (.c (.int .u64 (32)))),M 7 17] [16,17]) (.seq (oQ [M 18 1,O 19 (.bin .and (.t 18) (.c (.int .u64 (4294967295)))),M 8 19] [18,19]) (.seq (oQ [M 20 1,O 21 (.bin .shr (.t 20) (.c (.int .u64 (32)))),M 9 21] [20,21]) (.seq (oQ [M 22 6,M 23 8,oX 24 .mul 22 23,M 10 24] [22,23,24]) (.seq (oQ [M 25 7,M 26 8,oX 27 .mul 25 26,M 28 10,O 29 (.bin .shr (.t 28) (.c (.int .u64 (32)))),oX 30 .add 27 29,M 11 30] [8,10,25,26,27,28,29,30]) (.seq (oQ [M 31 11,O 32 (.bin .and (.t 31) (.c (.int .u64 (4294967295)))),M 12 32] [31,32]) (.seq (oQ [M 33 11,O 34 (.bin .shr (.t 33) (.c (.int .u64 (32)))),M 13 34] [11,33,34]) (.seq (oQ [M 35 12,M 36 6,M 37 9,oX 38 .mul 36 37,oX 39 .add 35 38,M 12 39] [6,35,36,37,38,39]) (.seq (oQ [M 40 7,M 41 9,oX 42 .mul 40 41,M 43 13,oX 44 .add 42 43,M 45 12,O 46 (.bin .shr (.t 45) (.c (.int .u64 (32)))),oX 47 .add 44 46,M 4 47] [7,9,12,13,40,41,42,43,44,45,46,47]) (.seq (oQ [M 48 0,M 49 1,oX 50 .mul 48 49,M 5 50] [0,1,48,49,50]) .ret))))))))))))⟩
def yuA:TFn:=⟨1,[.tmp 2],(.seq (oQ [O 2 (.mv (.c (.bool false)))] [2]) (.seq (oQ [M 3 0,M 4 0,oX 5 .neq 3 4,M 2 5] [0,3,4,5]) .ret))⟩
def yrC:TFn:=⟨2,[.tmp 4],(.seq (oQ [O 4 (.mv (I 0))] [4]) (.seq (oQ [M 7 0,O 8 (.call (.f ydf) [(.t 7)]),M 5 8] [7,8]) (.seq (oQ [M 9 1,O 10 (.call (.f ydf) [(.t 9)]),M 6 10] [9,10]) (.seq (.seq (oQ [M 11 5] [5]) (.cond (.t 11) (.seq (.seq (oQ [M 12 6] [0,1,6,11]) (.cond (.t 12) (.seq (oQ [O 4 (.mv (I 0))] [12]) .ret) .skip)) (.seq (oQ [O 4 (.mv (I (-1)))] [12]) .ret)) .skip)) (.seq (.seq (oQ [M 13 6] [6,11]) (.cond (.t 13) (.seq (oQ [O 4 (.mv (I 1))] [0,1,13]) .ret) .skip)) (.seq (.seq (oQ [M 14 0,M 15 1,oX 16 .lss 14 15] [13,14,15]) (.cond (.t 16) (.seq (oQ [O 4 (.mv (I (-1)))] [0,1,16]) .ret) .skip)) (.seq (.seq (oQ [M 17 0,M 18 1,oX 19 .gtr 17 18] [0,1,16,17,18]) (.cond (.t 19) (.seq (oQ [O 4 (.mv (I 1))] [19]) .ret) .skip)) (.seq (oQ [O 4 (.mv (I 0))] [19]) .ret))))))))⟩
def ynk:TCode:=(.seq (oQ [oX 9 .lss 8 7] []) (.seq (.cond (.t 9) .skip (.exit 0)) (.seq (.block 1 (.seq (.ops [O 10 (.iad 1 (.t 6) (.t 8)),oF 11 1 10,M 5 11] [⟨0,(.one (.i .i64)),0⟩,⟨1,(.one (.i .i64)),0⟩] [] [9,10,11]) (.seq (oQ [M 12 5,M 13 3,oX 14 .neq 12 13] [12,13]) (.cond (.t 14) (.seq (oQ [M 15 5,M 2 15] [3,5,6,7,8,14,15]) .ret) .skip)))) (oQ [O 16 (.bin .add (.t 8) (I 1)),M 8 16] [5,14,16]))))
def yD5:TFn:=⟨1,[.tmp 2],(.seq (oQ [O 2 (.mv (I 0))] [2]) (.seq (oQ [O 3 (.mv (I 0))] []) (.seq (.seq (oQ [M 6 0,O 7 (.len (.t 6)),O 8 (.mv (I 0))] [0]) (.block 0 (.loop 53260600 ynk))) (.seq (oQ [M 17 3,M 2 17] [3,6,7,8,9,17]) .ret))))⟩
def yGb:TFn:=⟨2,[.tmp 4,.tmp 5],(.seq (oQ [O 2 (.boxL (.t 0)),O 3 (.boxL (.t 1)),O 4 (.mv (I 0)),O 5 (.mv (I 0))] [0,1,4,5]) (.seq (.seq (oQ [oT 12 2 2,oT 13 2 3,O 14 (.call (.f ybF) [(.t 12),(.t 13)]),M 6 14] [12,13,14]) (.seq (oQ [M 15 6,O 16 (.bin .neq (.t 15) (I 0))] [15]) (.cond (.t 16) (.seq (oQ [M 17 6,O 4 (.mv (I 0)),M 5 17] [2,3,6,16,17]) .ret) .skip))) (.seq (.seq (.ops [O 18 (.fad 0 (.t 2)),oF 19 1 18,O 20 (.bin .lss (.t 19) (I 0)),O 21 (.fad 0 (.t 3)),oF 22 1 21,O 23 (.bin .lss (.t 22) (I 0)),O 24 (.eqB true (.t 20) (.t 23))] [⟨1,(.agg [.i .i64,.i .i64]),0⟩,⟨4,(.agg [.i .i64,.i .i64]),0⟩] [] [6,16,18,19,20,21,22,23]) (.cond (.t 24) (.seq (.ops [O 25 (.fad 0 (.t 2)),oF 26 1 25,O 27 (.fad 0 (.t 3)),oF 28 1 27,O 29 (.call (.f ydO) [(.t 26),(.t 28)]),M 4 29,O 5 (.mv (I 0))] [⟨1,(.agg [.i .i64,.i .i64]),0⟩,⟨3,(.agg [.i .i64,.i .i64]),0⟩] [] [2,3,24,25,26,27,28,29]) .ret) .skip)) (.seq (.ops [O 31 (.fad 0 (.t 2)),oF 32 1 31,O 33 (.call (.f ybh) [(.t 32)]),O 34 (.fad 1 (.t 3)),oF 35 1 34,O 36 (.conv .u64 (.t 35)),O 37 (.call (.f yec) [(.t 33),(.t 36)]),M 30 37,O 38 (.ext (.t 30) 0),O 39 (.ext (.t 30) 1),M 7 38,M 8 39] [⟨1,(.agg [.i .i64,.i .i64]),0⟩,⟨4,(.agg [.i .i64,.i .i64]),0⟩] [(0,3),(1,3),(2,3),(0,4),(1,4),(2,4),(0,5),(1,5),(2,5),(8,9),(9,10)] [24,30,31,32,33,34,35,36,37,38,39]) (.seq (.ops [O 41 (.fad 0 (.t 3)),oF 42 1 41,O 43 (.call (.f ybh) [(.t 42)]),O 44 (.fad 1 (.t 2)),oF 45 1 44,O 46 (.conv .u64 (.t 45)),O 47 (.call (.f yec) [(.t 43),(.t 46)]),M 40 47,O 48 (.ext (.t 40) 0),O 49 (.ext (.t 40) 1),M 9 48,M 10 49] [⟨1,(.agg [.i .i64,.i .i64]),0⟩,⟨4,(.agg [.i .i64,.i .i64]),0⟩] [(0,3),(1,3),(2,3),(0,4),(1,4),(2,4),(0,5),(1,5),(2,5),(8,9),(9,10)] [3,40,41,42,43,44,45,46,47,48,49]) (.seq (oQ [M 50 7,M 51 9,O 52 (.call (.f ycz) [(.t 50),(.t 51)]),M 53 8,M 54 10,O 55 (.call (.f ycz) [(.t 53),(.t 54)]),O 56 (.buildD 1 (.int .i64 (0)) 2 [(0,(.t 52)),(1,(.t 55))]),O 57 (.call (.f yiZ) [(.t 56)]),M 11 57] [7,8,9,10,50,51,52,53,54,55,56,57]) (.seq (.seq (.ops [O 58 (.fad 0 (.t 2)),oF 59 1 58,O 60 (.bin .lss (.t 59) (I 0))] [⟨1,(.agg [.i .i64,.i .i64]),0⟩] [] [2,58,59]) (.cond (.t 60) (oQ [M 61 11,O 62 (.un .neg (.t 61)),M 11 62] [60,61,62]) .skip)) (.seq (oQ [M 63 11,M 4 63,O 5 (.mv (I 0))] [11,60,63]) .ret))))))))⟩
def yBD:TFn:=⟨1,[.tmp 2],(.seq (oQ [O 1 (.boxL (.t 0)),O 2 (.mv (.c (.bool false)))] [0,2]) (.seq (.ops [O 6 (.fad 0 (.t 1)),oT 7 2 6,O 8 (.fad 2 (.t 1)),oT 9 2 8,O 10 (.call (.f ycA) [(.t 7),(.t 9)]),M 5 10,O 11 (.ext (.t 5) 0),O 12 (.ext (.t 5) 1),M 3 11,M 4 12] [⟨1,(.agg [.i .i64,.i .i64,.i .i64,.i .i64]),0⟩,⟨3,(.agg [.i .i64,.i .i64,.i .i64,.i .i64]),0⟩] [] [1,5,6,7,8,9,10,11,12]) (.seq (oQ [M 13 4,O 14 (.bin .eql (.t 13) (I 0)),M 15 14,⟨some 16,(.mv (.t 3)),some (15,true)⟩,⟨some 17,(.bin .lss (.t 16) (I 0)),some (15,true)⟩,O 18 (.pick (.t 15) (.t 17) (.c (.bool false))),M 2 18] [3,4,13,14,15,16,17,18]) .ret)))⟩
def ynl:TCode:=(.seq (oQ [oX 11 .lss 10 9] []) (.seq (.cond (.t 11) .skip (.exit 0)) (.seq (.block 1 (.seq (.ops [O 12 (.iad 4 (.t 8) (.t 10)),oT 13 4 12,O 4 (.allocL (.agg [(.int .i64 (0)),(.int .i64 (0)),(.int .i64 (0)),(.int .i64 (0))])),⟨none,(.store 4 (.t 4) (.t 13)),none⟩] [⟨0,(.agg [.i .i64,.i .i64,.i .i64,.i .i64]),0⟩,⟨1,(.agg [.i .i64,.i .i64,.i .i64,.i .i64]),0⟩] [] [11,12,13]) (.seq (oQ [oT 14 4 4,O 15 (.call (.f yhW) [(.t 14)]),O 16 (.un .not (.t 15))] [4,14,15]) (.cond (.t 16) (.seq (oQ [O 2 (.mv (I 8))] [8,9,10,16]) .ret) .skip)))) (oQ [O 17 (.bin .add (.t 10) (I 1)),M 10 17] [16,17]))))
def yGc:TFn:=⟨1,[.tmp 2],(.seq (oQ [O 2 (.mv (I 0))] [2]) (.seq (.seq (oQ [M 5 0,O 6 (.len (.t 5)),O 7 (.bin .gtr (.t 6) (I 60))] [5,6]) (.cond (.t 7) (.seq (oQ [O 2 (.mv (I 4))] [0,7]) .ret) .skip)) (.seq (.seq (oQ [M 8 0,O 9 (.len (.t 8)),O 10 (.mv (I 0))] [0,7]) (.block 0 (.loop 56157900 ynl))) (.seq (oQ [O 2 (.mv (I 0))] [8,9,10,11]) .ret))))⟩
def yBE:TFn:=⟨2,[.tmp 4],(.seq (oQ [O 2 (.boxL (.t 0)),O 3 (.boxL (.t 1)),O 4 (.mv (I 0))] [0,1,4]) (.seq (oQ [oT 8 2 2,oT 9 2 3,O 10 (.call (.f ycA) [(.t 8),(.t 9)]),M 7 10,O 11 (.ext (.t 7) 0),O 12 (.ext (.t 7) 1),M 5 11,M 6 12] [2,3,6,7,8,9,10,11,12]) (.seq (oQ [M 13 5,M 4 13] [5,13]) .ret)))⟩
def ynm:TCode:=(.seq (.seq (oQ [M 10 4,M 11 0,O 12 (.len (.t 11)),oX 13 .lss 10 12] [10,11,12]) (.cond (.t 13) .skip (.exit 0))) (.seq (.block 1 (.seq (.ops [M 16 0,M 17 4,O 18 (.bin .sub (.t 17) (I 1)),O 19 (.iad 4 (.t 16) (.t 18)),O 20 (.fad 2 (.t 19)),oT 21 2 20,M 22 0,M 23 4,O 24 (.iad 4 (.t 22) (.t 23)),O 25 (.fad 0 (.t 24)),oT 26 2 25,O 27 (.call (.f yd0) [(.t 21),(.t 26)]),O 28 (.bin .geq (.t 27) (I 0))] [⟨3,(.agg [.i .i64,.i .i64,.i .i64,.i .i64]),0⟩,⟨5,(.agg [.i .i64,.i .i64,.i .i64,.i .i64]),0⟩,⟨8,(.agg [.i .i64,.i .i64,.i .i64,.i .i64]),0⟩,⟨10,(.agg [.i .i64,.i .i64,.i .i64,.i .i64]),0⟩] [(0,1),(0,2),(0,6),(1,6),(2,6),(3,6),(4,6),(5,6),(0,7),(1,7),(2,7),(3,7),(4,7),(5,7),(6,7),(0,8),(1,8),(2,8),(3,8),(4,8),(5,8),(0,9),(1,9),(2,9),(3,9),(4,9),(5,9),(0,10),(1,10),(2,10),(3,10),(4,10),(5,10)] [13,16,17,18,19,20,21,22,23,24,25,26,27]) (.cond (.t 28) (.seq (oQ [O 2 (.mv (I 8))] [0,4,28]) .ret) .skip))) (oQ [M 14 4,O 15 (.bin .add (.t 14) (I 1)),M 4 15] [14,15,28])))
def yBF:TFn:=⟨1,[.tmp 2],(.seq (oQ [O 2 (.mv (I 0))] [2]) (.seq (.seq (oQ [M 5 0,O 6 (.call (.f ylv) [(.t 5)]),M 3 6] [5,6]) (.seq (oQ [M 7 3,O 8 (.bin .neq (.t 7) (I 0))] [7]) (.cond (.t 8) (.seq (oQ [M 9 3,M 2 9] [0,3,8,9]) .ret) .skip))) (.seq (.seq (oQ [O 4 (.mv (I 1))] [3,8]) (.block 0 (.loop 17365500 ynm))) (.seq (oQ [O 2 (.mv (I 0))] [0,4,13]) .ret))))⟩
def yBG:TFn:=⟨1,[.cell 2 true 2],(.seq (oQ [O 2 (.allocL (.agg [(.int .i64 (0)),(.int .i64 (0))]))] []) (.seq (oQ [M 3 0,O 4 (.build [(.int .i64 (0)),(.int .i64 (0))] [(0,1,(.t 3)),(1,1,(I 1))]),⟨none,(.store 2 (.t 2) (.t 4)),none⟩] [0,3,4]) .ret))⟩
def yD6:TFn:=⟨2,[.tmp 4],(.seq (oQ [O 2 (.boxL (.t 0)),O 3 (.boxL (.t 1)),O 4 (.mv (.c (.bool false)))] [0,1,4]) (.seq (oQ [oT 8 2 2,oT 9 2 3,O 10 (.call (.f ycA) [(.t 8),(.t 9)]),M 7 10,O 11 (.ext (.t 7) 0),O 12 (.ext (.t 7) 1),M 5 11,M 6 12] [2,3,6,7,8,9,10,11,12]) (.seq (oQ [M 13 5,O 14 (.bin .lss (.t 13) (I 0)),M 4 14] [5,13,14]) .ret)))⟩
def ypm:TCode:=(.seq (oQ [oX 28 .lss 27 26] []) (.seq (.cond (.t 28) .skip (.exit 0)) (.seq (.block 1 (.seq (.ops [O 29 (.iad 1 (.t 25) (.t 27)),oF 30 1 29,M 7 30] [⟨0,(.one (.d)),0⟩,⟨1,(.one (.d)),0⟩] [] [28,29,30]) (.seq (oQ [M 31 7,O 32 (.call (.f yd1) [(.t 31)]),M 8 32] [7,31,32]) (.seq (oQ [M 33 8,O 34 (.bin .neq (.t 33) (I 0))] [33]) (.cond (.t 34) (.seq (oQ [M 35 8,M 4 35] [0,3,8,25,26,27,34,35]) .ret) .skip))))) (oQ [O 36 (.bin .add (.t 27) (I 1)),M 27 36] [8,34,36]))))
def ypn:TCode:=(.seq (oQ [oX 41 .lss 40 39] []) (.seq (.cond (.t 41) .skip (.exit 2)) (.seq (.block 3 (.seq (.ops [O 42 (.iad 1 (.t 38) (.t 40)),oF 43 1 42,M 10 43] [⟨0,(.one (.d)),0⟩,⟨1,(.one (.d)),0⟩] [] [41,42,43]) (.seq (oQ [M 44 10,O 45 (.len (.t 44)),M 11 45] [44,45]) (.seq (.ops [M 46 11,O 47 (.bin .gtr (.t 46) (I 0)),M 48 47,⟨some 49,(.mv (.t 10)),some (48,true)⟩,⟨some 50,(.iad 4 (.t 49) (I 0)),some (48,true)⟩,⟨some 51,(.fad 0 (.t 50)),some (48,true)⟩,⟨some 52,(.fad 0 (.t 51)),some (48,true)⟩,⟨some 53,(.load false 1 (.t 52)),some (48,true)⟩,⟨some 54,(.bin .lss (.t 53) (I 0)),some (48,true)⟩,⟨some 55,(.mv (.t 54)),some (48,true)⟩,⟨some 56,(.mv (.t 0)),some (55,false)⟩,⟨some 57,(.iad 3 (.t 56) (I 0)),some (55,false)⟩,⟨some 58,(.fad 0 (.t 57)),some (55,false)⟩,⟨some 59,(.load false 1 (.t 58)),some (55,false)⟩,⟨some 60,(.call (.f ybx) [(.t 59)]),some (55,false)⟩,⟨some 61,(.mv (.t 10)),some (55,false)⟩,⟨some 62,(.mv (.t 11)),some (55,false)⟩,⟨some 63,(.bin .sub (.t 62) (I 1)),some (55,false)⟩,⟨some 64,(.iad 4 (.t 61) (.t 63)),some (55,false)⟩,⟨some 65,(.fad 2 (.t 64)),some (55,false)⟩,⟨some 66,(.load true 2 (.t 65)),some (55,false)⟩,⟨some 67,(.call (.f ybi) [(.t 60),(.t 66)]),some (55,false)⟩,⟨some 68,(.pick (.t 55) (.c (.bool true)) (.t 67)),some (48,true)⟩,O 69 (.pick (.t 48) (.t 68) (.c (.bool false)))] [⟨4,(.agg [.i .i64,.i .i64,.i .i64,.i .i64]),0⟩,⟨7,(.agg [.i .i64,.i .i64,.i .i64,.i .i64]),0⟩,⟨11,(.agg [.i .i64,.d,.d]),0⟩,⟨13,(.agg [.i .i64,.d,.d]),0⟩,⟨18,(.agg [.i .i64,.i .i64,.i .i64,.i .i64]),0⟩,⟨20,(.agg [.i .i64,.i .i64,.i .i64,.i .i64]),0⟩] [(10,15),(11,15),(12,15),(13,15),(14,15),(10,16),(11,16),(12,16),(13,16),(14,16),(15,16),(10,17),(11,17),(12,17),(13,17),(14,17),(15,17),(10,18),(11,18),(12,18),(13,18),(14,18),(10,19),(11,19),(12,19),(13,19),(14,19),(10,20),(11,20),(12,20),(13,20),(14,20)] [10,11,46,47,48,49,50,51,52,53,54,55,56,57,58,59,60,61,62,63,64,65,66,67,68]) (.cond (.t 69) (.seq (oQ [O 4 (.mv (I 2))] [0,38,39,40,69]) .ret) .skip))))) (oQ [O 70 (.bin .add (.t 40) (I 1)),M 40 70] [69,70]))))
def yBH:TFn:=⟨2,[.tmp 4],(.seq (oQ [O 3 (.boxL (.t 1)),O 4 (.mv (I 0))] [1,4]) (.seq (.seq (oQ [M 12 0,O 13 (.build [.nils,.nils] [(0,1,(.t 12))]),O 14 (.call (.f ylu) [(.t 13)]),M 5 14] [12,13,14]) (.seq (oQ [M 15 5,O 16 (.bin .neq (.t 15) (I 0))] [15]) (.cond (.t 16) (.seq (oQ [M 17 5,M 4 17] [0,3,5,16,17]) .ret) .skip))) (.seq (.seq (.ops [O 18 (.fad 0 (.t 3)),oF 19 1 18,O 20 (.len (.t 19)),M 21 0,O 22 (.len (.t 21)),oX 23 .neq 20 22] [⟨1,(.agg [.d]),0⟩] [] [5,16,18,19,20,21,22]) (.cond (.t 23) (.seq (oQ [O 4 (.mv (I 2))] [0,3,23]) .ret) .skip)) (.seq (.seq (.ops [O 24 (.fad 0 (.t 3)),oF 25 1 24,O 26 (.len (.t 25)),O 27 (.mv (I 0))] [⟨1,(.agg [.d]),0⟩] [] [23,24]) (.block 0 (.loop 8206000 ypm))) (.seq (.seq (.ops [O 37 (.fad 0 (.t 3)),oF 38 1 37,O 39 (.len (.t 38)),O 40 (.mv (I 0))] [⟨1,(.agg [.d]),0⟩] [] [3,25,26,27,28,37]) (.block 2 (.loop 8206001 ypn))) (.seq (oQ [O 4 (.mv (I 0))] [0,38,39,40,41]) .ret))))))⟩
def yD7:TFn:=⟨1,[.cell 2 true 2],(.seq (oQ [O 2 (.allocL (.agg [(.int .i64 (0)),(.int .i64 (0))]))] []) (.seq (oQ [M 3 0,O 4 (.build [(.int .i64 (0)),(.int .i64 (0))] [(0,1,(.t 3)),(1,1,(I 1))]),⟨none,(.store 2 (.t 2) (.t 4)),none⟩] [0,3,4]) .ret))⟩
def yGd:TFn:=⟨2,[.tmp 4],(.seq (oQ [O 2 (.boxL (.t 0)),O 3 (.boxL (.t 1)),O 4 (.mv (.c (.bool false)))] [0,1,4]) (.seq (oQ [oT 8 2 2,oT 9 2 3,O 10 (.call (.f ycA) [(.t 8),(.t 9)]),M 7 10,O 11 (.ext (.t 7) 0),O 12 (.ext (.t 7) 1),M 5 11,M 6 12] [2,3,6,7,8,9,10,11,12]) (.seq (oQ [M 13 5,O 14 (.bin .lss (.t 13) (I 0)),M 4 14] [5,13,14]) .ret)))⟩
def yD8:TFn:=⟨2,[.tmp 4],(.seq (oQ [O 2 (.boxL (.t 0)),O 3 (.boxL (.t 1)),O 4 (.mv (.c (.bool false)))] [0,1,4]) (.seq (.ops [oT 5 2 3,O 6 (.call (.f ydZ) [(.t 5)]),O 7 (.bin .eql (.t 6) (I 0)),M 8 7,⟨some 9,(.fad 0 (.t 3)),some (8,true)⟩,⟨some 10,(.load false 1 (.t 9)),some (8,true)⟩,⟨some 11,(.bin .geq (.t 10) (I 0)),some (8,true)⟩,O 12 (.pick (.t 8) (.t 11) (.c (.bool false))),M 13 12,⟨some 14,(.fad 0 (.t 2)),some (13,true)⟩,⟨some 15,(.load false 1 (.t 14)),some (13,true)⟩,⟨some 16,(.call (.f ydU) [(.t 15)]),some (13,true)⟩,⟨some 17,(.load true 2 (.t 3)),some (13,true)⟩,⟨some 18,(.call (.f yd2) [(.t 16),(.t 17)]),some (13,true)⟩,⟨some 19,(.un .not (.t 18)),some (13,true)⟩,O 20 (.pick (.t 13) (.t 19) (.c (.bool false))),M 4 20] [⟨5,(.agg [.i .i64,.i .i64]),0⟩,⟨10,(.agg [.i .i64,.d,.d]),0⟩] [(9,12),(10,12),(11,12)] [2,3,5,6,7,8,9,10,11,12,13,14,15,16,17,18,19,20]) .ret))⟩
def yKg:TFn:=⟨1,[.tmp 2],(.seq (oQ [O 2 (.mv (I 0))] []) (.seq (.seq (oQ [M 3 0,O 4 (.bin .geq (.t 3) (.c (.int .u64 (4294967296))))] [3]) (.cond (.t 4) (.seq (oQ [M 5 0,O 6 (.bin .shr (.t 5) (.c (.int .u64 (32)))),M 0 6] [2,4,5,6]) (oQ [O 2 (.mv (I 32))] [])) .skip)) (.seq (.seq (oQ [M 7 0,O 8 (.bin .geq (.t 7) (.c (.int .u64 (65536))))] [4,7]) (.cond (.t 8) (.seq (oQ [M 9 0,O 10 (.bin .shr (.t 9) (.c (.int .u64 (16)))),M 0 10] [8,9,10]) (oQ [M 11 2,O 12 (.bin .add (.t 11) (I 16)),M 2 12] [11,12])) .skip)) (.seq (.seq (oQ [M 13 0,O 14 (.bin .geq (.t 13) (.c (.int .u64 (256))))] [8,13]) (.cond (.t 14) (.seq (oQ [M 15 0,O 16 (.bin .shr (.t 15) (.c (.int .u64 (8)))),M 0 16] [14,15,16]) (oQ [M 17 2,O 18 (.bin .add (.t 17) (I 8)),M 2 18] [17,18])) .skip)) (.seq (oQ [M 19 2,M 20 0,O 21 (.conv .u8 (.t 20)),O 22 (.idx false 256 1 (.c (.agg [(.int .u8 (0)),(.int .u8 (1)),(.int .u8 (2)),(.int .u8 (2)),(.int .u8 (3)),(.int .u8 (3)),(.int .u8 (3)),(.int .u8 (3)),(.int .u8 (4)),(.int .u8 (4)),(.int .u8 (4)),(.int .u8 (4)),(.int .u8 (4)),(.int .u8 (4)),(.int .u8 (4)),(.int .u8 (4)),(.int .u8 (5)),(.int .u8 (5)),(.int .u8 (5)),(.int .u8 (5)),(.int .u8 (5)),(.int .u8 (5)),(.int .u8 (5)),(.int .u8 (5)),(.int .u8 (5)),(.int .u8 (5)),(.int .u8 (5)),(.int .u8 (5)),(.int .u8 (5)),(.int .u8 (5)),(.int .u8 (5)),(.int .u8 (5)),(.int .u8 (6)),(.int .u8 (6)),(.int .u8 (6)),(.int .u8 (6)),(.int .u8 (6)),(.int .u8 (6)),(.int .u8 (6)),(.int .u8 (6)),(.int .u8 (6)),(.int .u8 (6)),(.int .u8 (6)),(.int .u8 (6)),(.int .u8 (6)),(.int .u8 (6)),(.int .u8 (6)),(.int .u8 (6)),(.int .u8 (6)),(.int .u8 (6)),(.int .u8 (6)),(.int .u8 (6)),(.int .u8 (6)),(.int .u8 (6)),(.int .u8 (6)),(.int .u8 (6)),(.int .u8 (6)),(.int .u8 (6)),(.int .u8 (6)),(.int .u8 (6)),(.int .u8 (6)),(.int .u8 (6)),(.int .u8 (6)),(.int .u8 (6)),(.int .u8 (7)),(.int .u8 (7)),(.int .u8 (7)),(.int .u8 (7)),(.int .u8 (7)),(.int .u8 (7)),(.int .u8 (7)),(.int .u8 (7)),(.int .u8 (7)),(.int .u8 (7)),(.int .u8 (7)),(.int .u8 (7)),(.int .u8 (7)),(.int .u8 (7)),(.int .u8 (7)),(.int .u8 (7)),(.int .u8 (7)),(.int .u8 (7)),(.int .u8 (7)),(.int .u8 (7)),(.int .u8 (7)),(.int .u8 (7)),(.int .u8 (7)),(.int .u8 (7)),(.int .u8 (7)),(.int .u8 (7)),(.int .u8 (7)),(.int .u8 (7)),(.int .u8 (7)),(.int .u8 (7)),(.int .u8 (7)),(.int .u8 (7)),(.int .u8 (7)),(.int .u8 (7)),(.int .u8 (7)),(.int .u8 (7)),(.int .u8 (7)),(.int .u8 (7)),(.int .u8 (7)),(.int .u8 (7)),(.int .u8 (7)),(.int .u8 (7)),(.int .u8 (7)),(.int .u8 (7)),(.int .u8 (7)),(.int .u8 (7)),(.int .u8 (7)),(.int .u8 (7)),(.int .u8 (7)),(.int .u8 (7)),(.int .u8 (7)),(.int .u8 (7)),(.int .u8 (7)),(.int .u8 (7)),(.int .u8 (7)),(.int .u8 (7)),(.int .u8 (7)),(.int .u8 (7)),(.int .u8 (7)),(.int .u8 (7)),(.int .u8 (7)),(.int .u8 (7)),(.int .u8 (7)),(.int .u8 (7)),(.int .u8 (8)),(.int .u8 (8)),(.int .u8 (8)),(.int .u8 (8)),(.int .u8 (8)),(.int .u8 (8)),(.int .u8 (8)),(.int .u8 (8)),(.int .u8 (8)),(.int .u8 (8)),(.int .u8 (8)),(.int .u8 (8)),(.int .u8 (8)),(.int .u8 (8)),(.int .u8 (8)),(.int .u8 (8)),(.int .u8 (8)),(.int .u8 (8)),(.int .u8 (8)),(.int .u8 (8)),(.int .u8 (8)),(.int .u8 (8)),(.int .u8 (8)),(.int .u8 (8)),(.int .u8 (8)),(.int .u8 (8)),(.int .u8 (8)),(.int .u8 (8)),(.int .u8 (8)),(.int .u8 (8)),(.int .u8 (8)),(.int .u8 (8)),(.int .u8 (8)),(.int .u8 (8)),(.int .u8 (8)),(.int .u8 (8)),(.int .u8 (8)),(.int .u8 (8)),(.int .u8 (8)),(.int .u8 (8)),(.int .u8 (8)),(.int .u8 (8)),(.int .u8 (8)),(.int .u8 (8)),(.int .u8 (8)),(.int .u8 (8)),(.int .u8 (8)),(.int .u8 (8)),(.int .u8 (8)),(.int .u8 (8)),(.int .u8 (8)),(.int .u8 (8)),(.int .u8 (8)),(.int .u8 (8)),(.int .u8 (8)),(.int .u8 (8)),(.int .u8 (8)),(.int .u8 (8)),(.int .u8 (8)),(.int .u8 (8)),(.int .u8 (8)),(.int .u8 (8)),(.int .u8 (8)),(.int .u8 (8)),(.int .u8 (8)),(.int .u8 (8)),(.int .u8 (8)),(.int .u8 (8)),(.int .u8 (8)),(.int .u8 (8)),(.int .u8 (8)),(.int .u8 (8)),(.int .u8 (8)),(.int .u8 (8)),(.int .u8 (8)),(.int .u8 (8)),(.int .u8 (8)),(.int .u8 (8)),(.int .u8 (8)),(.int .u8 (8)),(.int .u8 (8)),(.int .u8 (8)),(.int .u8 (8)),(.int .u8 (8)),(.int .u8 (8)),(.int .u8 (8)),(.int .u8 (8)),(.int .u8 (8)),(.int .u8 (8)),(.int .u8 (8)),(.int .u8 (8)),(.int .u8 (8)),(.int .u8 (8)),(.int .u8 (8)),(.int .u8 (8)),(.int .u8 (8)),(.int .u8 (8)),(.int .u8 (8)),(.int .u8 (8)),(.int .u8 (8)),(.int .u8 (8)),(.int .u8 (8)),(.int .u8 (8)),(.int .u8 (8)),(.int .u8 (8)),(.int .u8 (8)),(.int .u8 (8)),(.int .u8 (8)),(.int .u8 (8)),(.int .u8 (8)),(.int .u8 (8)),(.int .u8 (8)),(.int .u8 (8)),(.int .u8 (8)),(.int .u8 (8)),(.int .u8 (8)),(.int .u8 (8)),(.int .u8 (8)),(.int .u8 (8)),(.int .u8 (8)),(.int .u8 (8)),(.int .u8 (8)),(.int .u8 (8)),(.int .u8 (8)),(.int .u8 (8)),(.int .u8 (8)),(.int .u8 (8)),(.int .u8 (8))])) (.t 21)),O 23 (.conv .i64 (.t 22)),oX 24 .add 19 23,M 2 24] [0,14,19,20,21,22,23,24]) .ret)))))⟩
def yuB:TFn:=⟨1,[.tmp 2],(.seq (oQ [O 2 (.mv (I 0))] [2]) (.seq (oQ [M 3 0,O 4 (.call (.f ymX) [(.t 3)]),O 5 (.bin .sub (I 64) (.t 4)),M 2 5] [0,3,4,5]) .ret))⟩
def ykd:TCode:=(.seq (.seq (oQ [M 67 15,O 68 (.bin .geq (.t 67) (.c (.int .u64 (4294967296)))),M 69 68,⟨some 70,(.mv (.t 15)),some (69,false)⟩,⟨some 71,(.mv (.t 10)),some (69,false)⟩,⟨some 72,(.bin .mul (.t 70) (.t 71)),some (69,false)⟩,⟨some 73,(.mv (.t 16)),some (69,false)⟩,⟨some 74,(.bin .mul (.c (.int .u64 (4294967296))) (.t 73)),some (69,false)⟩,⟨some 75,(.mv (.t 13)),some (69,false)⟩,⟨some 76,(.bin .add (.t 74) (.t 75)),some (69,false)⟩,⟨some 77,(.bin .gtr (.t 72) (.t 76)),some (69,false)⟩,O 78 (.pick (.t 69) (.c (.bool true)) (.t 77))] [67,68,69,70,71,72,73,74,75,76,77,85]) (.cond (.t 78) .skip (.exit 0))) (.block 1 (.seq (oQ [M 79 15,O 80 (.bin .sub (.t 79) (.c (.int .u64 (1)))),M 15 80] [78,79,80]) (.seq (oQ [M 81 16,M 82 9,oX 83 .add 81 82,M 16 83] [81,82,83]) (.seq (oQ [M 84 16,O 85 (.bin .geq (.t 84) (.c (.int .u64 (4294967296))))] [84]) (.cond (.t 85) (.exit 0) .skip))))))
def yke:TCode:=(.seq (.seq (oQ [M 102 18,O 103 (.bin .geq (.t 102) (.c (.int .u64 (4294967296)))),M 104 103,⟨some 105,(.mv (.t 18)),some (104,false)⟩,⟨some 106,(.mv (.t 10)),some (104,false)⟩,⟨some 107,(.bin .mul (.t 105) (.t 106)),some (104,false)⟩,⟨some 108,(.mv (.t 16)),some (104,false)⟩,⟨some 109,(.bin .mul (.c (.int .u64 (4294967296))) (.t 108)),some (104,false)⟩,⟨some 110,(.mv (.t 14)),some (104,false)⟩,⟨some 111,(.bin .add (.t 109) (.t 110)),some (104,false)⟩,⟨some 112,(.bin .gtr (.t 107) (.t 111)),some (104,false)⟩,O 113 (.pick (.t 104) (.c (.bool true)) (.t 112))] [102,103,104,105,106,107,108,109,110,111,112,120]) (.cond (.t 113) .skip (.exit 2))) (.block 3 (.seq (oQ [M 114 18,O 115 (.bin .sub (.t 114) (.c (.int .u64 (1)))),M 18 115] [113,114,115]) (.seq (oQ [M 116 16,M 117 9,oX 118 .add 116 117,M 16 118] [116,117,118]) (.seq (oQ [M 119 16,O 120 (.bin .geq (.t 119) (.c (.int .u64 (4294967296))))] [119]) (.cond (.t 120) (.exit 2) .skip))))))
def yKh:TFn:=⟨3,[.tmp 6,.tmp 7],(.seq (oQ [O 6 (.mv (.c (.int .u64 (0)))),O 7 (.mv (.c (.int .u64 (0))))] [6,7]) (.seq (.seq (oQ [M 19 2,O 20 (.bin .eql (.t 19) (.c (.int .u64 (0))))] [19]) (.cond (.t 20) (oQ [O 21 (.load false 1 (.g 0)),⟨none,.bad,none⟩] [20,21]) .skip)) (.seq (.seq (oQ [M 22 2,M 23 0,oX 24 .leq 22 23] [20,22,23]) (.cond (.t 24) (oQ [O 25 (.load false 1 (.g 1)),⟨none,.bad,none⟩] [24,25]) .skip)) (.seq (.seq (oQ [M 26 0,O 27 (.bin .eql (.t 26) (.c (.int .u64 (0))))] [24,26]) (.cond (.t 27) (.seq (.ops [M 28 1,M 29 2,oX 30 .quo 28 29,M 31 1,M 32 2,oX 33 .rem 31 32,M 6 30,M 7 33] [] [(0,1),(0,3),(1,3),(2,3),(0,4),(1,4),(2,4),(3,4),(0,5),(1,5),(2,5),(3,6),(4,6),(5,6)] [0,1,2,27,28,29,30,31,32,33]) .ret) .skip)) (.seq (oQ [M 34 2,O 35 (.call (.f yei) [(.t 34)]),O 36 (.conv .u64 (.t 35)),M 8 36] [27,34,35,36]) (.seq (oQ [M 37 2,M 38 8,oX 39 .shl 37 38,M 2 39] [37,38,39]) (.seq (oQ [M 40 2,O 41 (.bin .shr (.t 40) (.c (.int .u64 (32)))),M 9 41] [40,41]) (.seq (oQ [M 42 2,O 43 (.bin .and (.t 42) (.c (.int .u64 (4294967295)))),M 10 43] [42,43]) (.seq (oQ [M 44 0,M 45 8,oX 46 .shl 44 45,M 47 1,M 48 8,O 49 (.bin .sub (.c (.int .u64 (64))) (.t 48)),oX 50 .shr 47 49,oX 51 .or 46 50,M 11 51] [0,44,45,46,47,48,49,50,51]) (.seq (oQ [M 52 1,M 53 8,oX 54 .shl 52 53,M 12 54] [1,52,53,54]) (.seq (oQ [M 55 12,O 56 (.bin .shr (.t 55) (.c (.int .u64 (32)))),M 13 56] [55,56]) (.seq (oQ [M 57 12,O 58 (.bin .and (.t 57) (.c (.int .u64 (4294967295)))),M 14 58] [12,57,58]) (.seq (oQ [M 59 11,M 60 9,oX 61 .quo 59 60,M 15 61] [59,60,61]) (.seq (oQ [M 62 11,M 63 15,M 64 9,oX 65 .mul 63 64,oX 66 .sub 62 65,M 16 66] [62,63,64,65,66]) (.seq (.block 0 (.loop 60530100 ykd)) (.seq (oQ [M 86 11,O 87 (.bin .mul (.t 86) (.c (.int .u64 (4294967296)))),M 88 13,oX 89 .add 87 88,M 90 15,M 91 2,oX 92 .mul 90 91,oX 93 .sub 89 92,M 17 93] [11,13,16,78,85,86,87,88,89,90,91,92,93]) (.seq (oQ [M 94 17,M 95 9,oX 96 .quo 94 95,M 18 96] [94,95,96]) (.seq (oQ [M 97 17,M 98 18,M 99 9,oX 100 .mul 98 99,oX 101 .sub 97 100,M 16 101] [97,98,99,100,101]) (.seq (.block 2 (.loop 60530101 yke)) (.seq (oQ [M 121 15,O 122 (.bin .mul (.t 121) (.c (.int .u64 (4294967296)))),M 123 18,oX 124 .add 122 123,M 125 17,O 126 (.bin .mul (.t 125) (.c (.int .u64 (4294967296)))),M 127 14,oX 128 .add 126 127,M 129 18,M 130 2,oX 131 .mul 129 130,oX 132 .sub 128 131,M 133 8,oX 134 .shr 132 133,M 6 124,M 7 134] [2,8,9,10,14,15,16,17,18,113,120,121,122,123,124,125,126,127,128,129,130,131,132,133,134]) .ret))))))))))))))))))))⟩
def yKi:TFn:=⟨3,[.tmp 6],(.seq (oQ [O 6 (.mv (.c (.int .u64 (0))))] [6]) (.seq (oQ [M 10 0,M 11 2,oX 12 .rem 10 11,M 13 1,M 14 2,O 15 (.call (.f ykb) [(.t 12),(.t 13),(.t 14)]),M 9 15,O 16 (.ext (.t 9) 0),O 17 (.ext (.t 9) 1),M 7 16,M 8 17] [0,1,2,7,9,10,11,12,13,14,15,16,17]) (.seq (oQ [M 18 8,M 6 18] [8,18]) .ret)))⟩
def yz8:TFn:=⟨3,[.cell 6 true 2,.tmp 7],(.seq (oQ [O 6 (.allocL (.agg [(.int .i64 (0)),(.int .i64 (0))])),O 7 (.mv (I 0))] [7]) (.seq (.seq (oQ [M 8 1,M 9 2,O 10 (.minmax true [(.t 8),(.t 9)]),O 11 (.bin .gtr (.t 10) (.c (.int .u64 (1000000000000000000))))] [8,9,10]) (.cond (.t 11) (.seq (oQ [O 12 (.build [(.int .i64 (0)),(.int .i64 (0))] []),⟨none,(.store 2 (.t 6) (.t 12)),none⟩,O 7 (.mv (I 16))] [0,1,2,11,12]) .ret) .skip)) (.seq (.seq (oQ [M 13 0] [0,11]) (.cond (.t 13) (.seq (oQ [M 14 1,O 15 (.conv .i64 (.t 14)),O 16 (.un .neg (.t 15)),M 17 2,O 18 (.conv .i64 (.t 17)),O 19 (.build [(.int .i64 (0)),(.int .i64 (0))] [(0,1,(.t 16)),(1,1,(.t 18))]),⟨none,(.store 2 (.t 6) (.t 19)),none⟩,O 7 (.mv (I 0))] [1,2,13,14,15,16,17,18,19]) .ret) .skip)) (.seq (oQ [M 20 1,O 21 (.conv .i64 (.t 20)),M 22 2,O 23 (.conv .i64 (.t 22)),O 24 (.build [(.int .i64 (0)),(.int .i64 (0))] [(0,1,(.t 21)),(1,1,(.t 23))]),⟨none,(.store 2 (.t 6) (.t 24)),none⟩,O 7 (.mv (I 0))] [1,2,13,20,21,22,23,24]) .ret))))⟩
def yGe:TFn:=⟨2,[.cell 4 true 2,.tmp 5],(.seq (oQ [O 2 (.boxL (.t 0)),O 3 (.boxL (.t 1)),O 4 (.allocL (.agg [(.int .i64 (0)),(.int .i64 (0))])),O 5 (.mv (I 0))] [0,1,5]) (.seq (.seq (oQ [oT 21 2 2,oT 22 2 3,O 23 (.call (.f ybF) [(.t 21),(.t 22)]),M 6 23] [21,22,23]) (.seq (oQ [M 24 6,O 25 (.bin .neq (.t 24) (I 0))] [24]) (.cond (.t 25) (.seq (oQ [O 26 (.build [(.int .i64 (0)),(.int .i64 (0))] []),M 27 6,⟨none,(.store 2 (.t 4) (.t 26)),none⟩,M 5 27] [2,3,6,25,26,27]) .ret) .skip))) (.seq (.ops [O 28 (.fad 1 (.t 2)),oF 29 1 28,O 30 (.conv .u64 (.t 29)),O 31 (.fad 1 (.t 3)),oF 32 1 31,O 33 (.conv .u64 (.t 32)),O 34 (.call (.f ycy) [(.t 30),(.t 33)]),M 7 34] [⟨1,(.agg [.i .i64,.i .i64]),0⟩,⟨4,(.agg [.i .i64,.i .i64]),0⟩] [] [6,25,28,29,30,31,32,33,34]) (.seq (.ops [O 36 (.fad 0 (.t 2)),oF 37 1 36,O 38 (.call (.f ybh) [(.t 37)]),O 39 (.fad 1 (.t 3)),oF 40 1 39,O 41 (.conv .u64 (.t 40)),M 42 7,oX 43 .quo 41 42,O 44 (.call (.f yec) [(.t 38),(.t 43)]),M 35 44,O 45 (.ext (.t 35) 0),O 46 (.ext (.t 35) 1),M 8 45,M 9 46] [⟨1,(.agg [.i .i64,.i .i64]),0⟩,⟨4,(.agg [.i .i64,.i .i64]),0⟩] [(0,3),(1,3),(2,3),(0,4),(1,4),(2,4),(0,5),(1,5),(2,5),(0,6),(1,6),(2,6),(3,6),(4,6),(5,6),(0,7),(1,7),(2,7),(10,11),(11,12)] [35,36,37,38,39,40,41,42,43,44,45,46]) (.seq (.ops [O 48 (.fad 0 (.t 3)),oF 49 1 48,O 50 (.call (.f ybh) [(.t 49)]),O 51 (.fad 1 (.t 2)),oF 52 1 51,O 53 (.conv .u64 (.t 52)),M 54 7,oX 55 .quo 53 54,O 56 (.call (.f yec) [(.t 50),(.t 55)]),M 47 56,O 57 (.ext (.t 47) 0),O 58 (.ext (.t 47) 1),M 10 57,M 11 58] [⟨1,(.agg [.i .i64,.i .i64]),0⟩,⟨4,(.agg [.i .i64,.i .i64]),0⟩] [(0,3),(1,3),(2,3),(0,4),(1,4),(2,4),(0,5),(1,5),(2,5),(0,6),(1,6),(2,6),(3,6),(4,6),(5,6),(0,7),(1,7),(2,7),(10,11),(11,12)] [47,48,49,50,51,52,53,54,55,56,57,58]) (.seq (.ops [O 59 (.fad 0 (.t 2)),oF 60 1 59,O 61 (.bin .lss (.t 60) (I 0)),M 12 61] [⟨1,(.agg [.i .i64,.i .i64]),0⟩] [] [59,60,61]) (.seq (oQ [O 13 (.mv (.c (.int .u64 (0)))),O 14 (.mv (.c (.int .u64 (0)))),O 15 (.mv (.c (.int .u64 (0))))] [13,14,15]) (.seq (.seq (.ops [O 62 (.fad 0 (.t 2)),oF 63 1 62,O 64 (.bin .lss (.t 63) (I 0)),O 65 (.fad 0 (.t 3)),oF 66 1 65,O 67 (.bin .lss (.t 66) (I 0)),O 68 (.eqB false (.t 64) (.t 67))] [⟨1,(.agg [.i .i64,.i .i64]),0⟩,⟨4,(.agg [.i .i64,.i .i64]),0⟩] [] [62,63,64,65,66,67]) (.cond (.t 68) (.seq (oQ [M 70 9,M 71 11,O 72 (.call (.f yiy) [(.t 70),(.t 71),(.c (.int .u64 (0)))]),M 69 72,O 73 (.ext (.t 69) 0),O 74 (.ext (.t 69) 1),M 14 73,M 15 74] [9,11,68,69,70,71,72,73,74]) (oQ [M 76 8,M 77 10,M 78 15,O 79 (.call (.f yiy) [(.t 76),(.t 77),(.t 78)]),M 75 79,O 80 (.ext (.t 75) 0),O 81 (.ext (.t 75) 1),M 13 80] [8,10,15,75,76,77,78,79,80,81])) (.seq (.seq (oQ [M 82 8,M 83 10,oX 84 .lss 82 83,M 85 84,⟨some 86,(.mv (.t 8)),some (85,false)⟩,⟨some 87,(.mv (.t 10)),some (85,false)⟩,⟨some 88,(.bin .eql (.t 86) (.t 87)),some (85,false)⟩,⟨some 89,(.mv (.t 88)),some (85,false)⟩,⟨some 90,(.mv (.t 9)),some (89,true)⟩,⟨some 91,(.mv (.t 11)),some (89,true)⟩,⟨some 92,(.bin .lss (.t 90) (.t 91)),some (89,true)⟩,⟨some 93,(.pick (.t 89) (.t 92) (.c (.bool false))),some (85,false)⟩,O 94 (.pick (.t 85) (.c (.bool true)) (.t 93))] [68,82,83,84,85,86,87,88,89,90,91,92,93]) (.cond (.t 94) (.seq (oQ [M 95 10,M 96 11,M 97 8,M 98 9,M 8 95,M 9 96,M 10 97,M 11 98] [94,95,96,97,98]) (oQ [M 99 12,O 100 (.un .not (.t 99)),M 12 100] [99,100])) .skip)) (.seq (oQ [M 102 9,M 103 11,O 104 (.call (.f yiz) [(.t 102),(.t 103),(.c (.int .u64 (0)))]),M 101 104,O 105 (.ext (.t 101) 0),O 106 (.ext (.t 101) 1),M 14 105,M 15 106] [9,11,94,101,102,103,104,105,106]) (oQ [M 108 8,M 109 10,M 110 15,O 111 (.call (.f yiz) [(.t 108),(.t 109),(.t 110)]),M 107 111,O 112 (.ext (.t 107) 0),O 113 (.ext (.t 107) 1),M 13 112] [8,10,15,107,108,109,110,111,112,113]))))) (.seq (.seq (oQ [M 114 13,O 115 (.bin .eql (.t 114) (.c (.int .u64 (0)))),M 116 115,⟨some 117,(.mv (.t 14)),some (116,true)⟩,⟨some 118,(.bin .eql (.t 117) (.c (.int .u64 (0)))),some (116,true)⟩,O 119 (.pick (.t 116) (.t 118) (.c (.bool false)))] [114,115,116,117,118]) (.cond (.t 119) (.seq (oQ [O 120 (.build [(.int .i64 (0)),(.int .i64 (0))] [(1,1,(I 1))]),⟨none,(.store 2 (.t 4) (.t 120)),none⟩,O 5 (.mv (I 0))] [2,3,7,12,13,14,119,120]) .ret) .skip)) (.seq (oQ [M 121 13,M 122 14,M 123 7,O 124 (.call (.f ypg) [(.t 121),(.t 122),(.t 123)]),M 125 7,O 126 (.call (.f ycy) [(.t 124),(.t 125)]),M 16 126] [119,121,122,123,124,125,126]) (.seq (.seq (oQ [M 127 13,M 128 16,oX 129 .geq 127 128] [127,128]) (.cond (.t 129) (.seq (oQ [O 130 (.build [(.int .i64 (0)),(.int .i64 (0))] []),⟨none,(.store 2 (.t 4) (.t 130)),none⟩,O 5 (.mv (I 16))] [2,3,7,12,13,14,16,129,130]) .ret) .skip)) (.seq (oQ [M 132 13,M 133 14,M 134 16,O 135 (.call (.f ykb) [(.t 132),(.t 133),(.t 134)]),M 131 135,O 136 (.ext (.t 131) 0),O 137 (.ext (.t 131) 1),M 17 136,M 18 137] [13,14,18,129,131,132,133,134,135,136,137]) (.seq (.ops [O 139 (.fad 1 (.t 2)),oF 140 1 139,O 141 (.conv .u64 (.t 140)),M 142 7,oX 143 .quo 141 142,O 144 (.fad 1 (.t 3)),oF 145 1 144,O 146 (.conv .u64 (.t 145)),M 147 16,oX 148 .quo 146 147,O 149 (.call (.f yec) [(.t 143),(.t 148)]),M 138 149,O 150 (.ext (.t 138) 0),O 151 (.ext (.t 138) 1),M 19 150,M 20 151] [⟨1,(.agg [.i .i64,.i .i64]),0⟩,⟨6,(.agg [.i .i64,.i .i64]),0⟩] [(0,3),(1,3),(2,3),(0,5),(1,5),(2,5),(3,5),(4,5),(0,6),(1,6),(2,6),(3,6),(4,6),(0,7),(1,7),(2,7),(3,7),(4,7),(0,8),(1,8),(2,8),(3,8),(4,8),(5,8),(6,8),(7,8),(0,9),(1,9),(2,9),(3,9),(4,9),(12,13),(13,14)] [2,3,7,16,138,139,140,141,142,143,144,145,146,147,148,149,150,151]) (.seq (.seq (oQ [M 152 19,O 153 (.bin .gtr (.t 152) (.c (.int .u64 (0))))] [19,152]) (.cond (.t 153) (.seq (oQ [O 154 (.build [(.int .i64 (0)),(.int .i64 (0))] []),⟨none,(.store 2 (.t 4) (.t 154)),none⟩,O 5 (.mv (I 16))] [12,17,20,153,154]) .ret) .skip)) (.seq (oQ [M 155 12,M 156 17,M 157 20,O 158 (.call (.f ycP) [(.t 155),(.t 156),(.t 157)]),O 159 (.ext (.t 158) 0),O 160 (.ext (.t 158) 1),⟨none,(.store 2 (.t 4) (.t 159)),none⟩,M 5 160] [12,17,20,153,155,156,157,158,159,160]) .ret)))))))))))))))⟩
def yGf:TFn:=⟨2,[.cell 4 true 2,.tmp 5],(.seq (oQ [O 2 (.boxL (.t 0)),O 3 (.boxL (.t 1)),O 4 (.allocL (.agg [(.int .i64 (0)),(.int .i64 (0))])),O 5 (.mv (I 0))] [0,1,5]) (.seq (.seq (oQ [oT 7 2 2,oT 8 2 3,O 9 (.call (.f ybF) [(.t 7),(.t 8)]),M 6 9] [7,8,9]) (.seq (oQ [M 10 6,O 11 (.bin .neq (.t 10) (I 0))] [10]) (.cond (.t 11) (.seq (oQ [O 12 (.build [(.int .i64 (0)),(.int .i64 (0))] []),M 13 6,⟨none,(.store 2 (.t 4) (.t 12)),none⟩,M 5 13] [2,3,6,11,12,13]) .ret) .skip))) (.seq (.ops [O 14 (.fad 0 (.t 3)),oF 15 1 14,O 16 (.un .neg (.t 15)),O 17 (.fad 0 (.t 3)),⟨none,(.store 1 (.t 17) (.t 16)),none⟩] [⟨1,(.agg [.i .i64,.i .i64]),0⟩,⟨4,(.agg [.i .i64,.i .i64]),0⟩] [] [6,11,14,15,16,17]) (.seq (oQ [oT 18 2 2,oT 19 2 3,O 20 (.call (.f yd3) [(.t 18),(.t 19)]),O 21 (.ext (.t 20) 0),O 22 (.ext (.t 20) 1),⟨none,(.store 2 (.t 4) (.t 21)),none⟩,M 5 22] [2,3,18,19,20,21,22]) .ret))))⟩
def yGg:TFn:=⟨2,[.cell 4 true 2,.tmp 5],(.seq (oQ [O 2 (.boxL (.t 0)),O 3 (.boxL (.t 1)),O 4 (.allocL (.agg [(.int .i64 (0)),(.int .i64 (0))])),O 5 (.mv (I 0))] [0,1,5]) (.seq (.seq (oQ [oT 17 2 2,oT 18 2 3,O 19 (.call (.f ybF) [(.t 17),(.t 18)]),M 6 19] [17,18,19]) (.seq (oQ [M 20 6,O 21 (.bin .neq (.t 20) (I 0))] [20]) (.cond (.t 21) (.seq (oQ [O 22 (.build [(.int .i64 (0)),(.int .i64 (0))] []),M 23 6,⟨none,(.store 2 (.t 4) (.t 22)),none⟩,M 5 23] [2,3,6,21,22,23]) .ret) .skip))) (.seq (.ops [O 24 (.fad 0 (.t 2)),oF 25 1 24,O 26 (.call (.f ybh) [(.t 25)]),O 27 (.fad 1 (.t 2)),oF 28 1 27,O 29 (.conv .u64 (.t 28)),O 30 (.fad 0 (.t 3)),oF 31 1 30,O 32 (.call (.f ybh) [(.t 31)]),O 33 (.fad 1 (.t 3)),oF 34 1 33,O 35 (.conv .u64 (.t 34)),M 7 26,M 8 29,M 9 32,M 10 35] [⟨1,(.agg [.i .i64,.i .i64]),0⟩,⟨4,(.agg [.i .i64,.i .i64]),0⟩,⟨7,(.agg [.i .i64,.i .i64]),0⟩,⟨10,(.agg [.i .i64,.i .i64]),0⟩] [(0,3),(1,3),(2,3),(0,4),(1,4),(2,4),(0,5),(1,5),(2,5),(0,6),(1,6),(2,6),(3,6),(4,6),(5,6),(0,7),(1,7),(2,7),(3,7),(4,7),(5,7),(3,8),(4,8),(5,8),(0,9),(1,9),(2,9),(3,9),(4,9),(5,9),(6,9),(7,9),(8,9),(0,10),(1,10),(2,10),(3,10),(4,10),(5,10),(6,10),(7,10),(8,10),(0,11),(1,11),(2,11),(3,11),(4,11),(5,11),(6,11),(7,11),(8,11),(3,12),(4,12),(5,12),(9,12),(10,12),(11,12),(9,13),(10,13),(11,13),(9,14),(10,14),(11,14)] [6,21,24,25,26,27,28,29,30,31,32,33,34,35]) (.seq (oQ [M 36 7,M 37 10,O 38 (.call (.f ycy) [(.t 36),(.t 37)]),M 39 9,M 40 8,O 41 (.call (.f ycy) [(.t 39),(.t 40)]),M 11 38,M 12 41] [36,37,38,39,40,41]) (.seq (.ops [M 43 7,M 44 11,oX 45 .quo 43 44,M 46 9,M 47 12,oX 48 .quo 46 47,O 49 (.call (.f yec) [(.t 45),(.t 48)]),M 42 49,O 50 (.ext (.t 42) 0),O 51 (.ext (.t 42) 1),M 13 50,M 14 51] [] [(0,1),(0,3),(1,3),(2,3),(0,4),(1,4),(2,4),(3,4),(0,5),(1,5),(2,5),(8,9),(9,10)] [7,9,42,43,44,45,46,47,48,49,50,51]) (.seq (.ops [M 53 8,M 54 12,oX 55 .quo 53 54,M 56 10,M 57 11,oX 58 .quo 56 57,O 59 (.call (.f yec) [(.t 55),(.t 58)]),M 52 59,O 60 (.ext (.t 52) 0),O 61 (.ext (.t 52) 1),M 15 60,M 16 61] [] [(0,1),(0,3),(1,3),(2,3),(0,4),(1,4),(2,4),(3,4),(0,5),(1,5),(2,5),(8,9),(9,10)] [8,10,11,12,52,53,54,55,56,57,58,59,60,61]) (.seq (.seq (oQ [M 62 13,M 63 15,oX 64 .add 62 63,O 65 (.bin .gtr (.t 64) (.c (.int .u64 (0))))] [13,15,62,63,64]) (.cond (.t 65) (.seq (oQ [O 66 (.build [(.int .i64 (0)),(.int .i64 (0))] []),⟨none,(.store 2 (.t 4) (.t 66)),none⟩,O 5 (.mv (I 16))] [2,3,14,16,65,66]) .ret) .skip)) (.seq (.ops [M 67 14,O 68 (.bin .gtr (.t 67) (.c (.int .u64 (0)))),M 69 68,⟨some 70,(.fad 0 (.t 2)),some (69,true)⟩,⟨some 71,(.load false 1 (.t 70)),some (69,true)⟩,⟨some 72,(.bin .lss (.t 71) (I 0)),some (69,true)⟩,⟨some 73,(.fad 0 (.t 3)),some (69,true)⟩,⟨some 74,(.load false 1 (.t 73)),some (69,true)⟩,⟨some 75,(.bin .lss (.t 74) (I 0)),some (69,true)⟩,⟨some 76,(.eqB true (.t 72) (.t 75)),some (69,true)⟩,O 77 (.pick (.t 69) (.t 76) (.c (.bool false))),M 78 14,M 79 16,O 80 (.call (.f ycP) [(.t 77),(.t 78),(.t 79)]),O 81 (.ext (.t 80) 0),O 82 (.ext (.t 80) 1),⟨none,(.store 2 (.t 4) (.t 81)),none⟩,M 5 82] [⟨4,(.agg [.i .i64,.i .i64]),0⟩,⟨7,(.agg [.i .i64,.i .i64]),0⟩] [] [2,3,14,16,65,67,68,69,70,71,72,73,74,75,76,77,78,79,80,81,82]) .ret))))))))⟩
def ynn:TCode:=(.seq (oQ [oX 45 .lss 44 43] []) (.seq (.cond (.t 45) .skip (.exit 0)) (.seq (.block 1 (.seq (.ops [M 46 44,O 47 (.iad 1 (.t 42) (.t 44)),oF 48 1 47,M 11 46,M 12 48] [⟨1,(.one (.i .i64)),0⟩,⟨2,(.one (.i .i64)),0⟩] [] [45,46,47,48]) (.seq (.ops [O 49 (.fad 1 (.t 3)),oF 50 1 49,M 51 11,O 52 (.bin .add (.t 51) (I 1)),O 53 (.iad 1 (.t 50) (.t 52)),oF 54 1 53,O 55 (.call (.f ydU) [(.t 54)]),O 13 (.allocL (.agg [(.int .i64 (0)),(.int .i64 (0))])),⟨none,(.store 2 (.t 13) (.t 55)),none⟩] [⟨1,(.agg [.i .i64,.d,.d]),0⟩,⟨4,(.one (.i .i64)),0⟩,⟨5,(.one (.i .i64)),0⟩] [] [11,49,50,51,52,53,54,55]) (.seq (.seq (oQ [oT 56 2 5,oT 57 2 13,O 58 (.call (.f yd2) [(.t 56),(.t 57)])] [56,57]) (.cond (.t 58) (oQ [oT 59 2 5,⟨none,(.store 2 (.t 13) (.t 59)),none⟩] [58,59]) .skip)) (.seq (.seq (oQ [M 60 12,O 61 (.bin .eql (.t 60) (I 0)),M 62 61,⟨some 63,(.load true 2 (.t 10)),some (62,false)⟩,⟨some 64,(.load true 2 (.t 13)),some (62,false)⟩,⟨some 65,(.call (.f yd2) [(.t 63),(.t 64)]),some (62,false)⟩,⟨some 66,(.un .not (.t 65)),some (62,false)⟩,O 67 (.pick (.t 62) (.c (.bool true)) (.t 66))] [58,60,61,62,63,64,65,66]) (.cond (.t 67) (.seq (.seq (oQ [oT 68 2 10,oT 69 2 13,O 70 (.call (.f yd2) [(.t 68),(.t 69)])] [12,67,68,69]) (.cond (.t 70) (oQ [oT 71 2 13,⟨none,(.store 2 (.t 10) (.t 71)),none⟩] [13,70,71]) .skip)) (.exit 1)) .skip)) (.seq (oQ [oT 73 2 13,oT 74 2 10,O 75 (.call (.f ylw) [(.t 73),(.t 74)]),M 72 75,O 76 (.ext (.t 72) 0),O 77 (.ext (.t 72) 1),O 14 (.allocL (.agg [(.int .i64 (0)),(.int .i64 (0))])),⟨none,(.store 2 (.t 14) (.t 76)),none⟩,M 15 77] [67,72,73,74,75,76,77]) (.seq (.seq (oQ [M 78 15,O 79 (.bin .neq (.t 78) (I 0))] [78]) (.cond (.t 79) (.seq (oQ [O 80 (.build [(.int .i64 (0)),(.int .i64 (0))] []),M 81 15,⟨none,(.store 2 (.t 6) (.t 80)),none⟩,M 7 81] [3,5,9,10,12,13,14,15,42,43,44,79,80,81]) .ret) .skip)) (.seq (.ops [oT 83 2 14,M 84 12,O 85 (.call (.f ydU) [(.t 84)]),O 86 (.call (.f yfz) [(.t 83),(.t 85)]),M 82 86,O 87 (.ext (.t 82) 0),O 88 (.ext (.t 82) 1),O 16 (.allocL (.agg [(.int .i64 (0)),(.int .i64 (0))])),⟨none,(.store 2 (.t 16) (.t 87)),none⟩,M 15 88] [] [(0,1),(0,2),(5,6),(0,7),(1,7),(2,7),(3,7),(4,7),(5,7),(6,7),(6,8)] [12,14,79,82,83,84,85,86,87,88]) (.seq (.seq (oQ [M 89 15,O 90 (.bin .neq (.t 89) (I 0))] [89]) (.cond (.t 90) (.seq (oQ [O 91 (.build [(.int .i64 (0)),(.int .i64 (0))] []),M 92 15,⟨none,(.store 2 (.t 6) (.t 91)),none⟩,M 7 92] [3,5,9,10,13,15,16,42,43,44,90,91,92]) .ret) .skip)) (.seq (.seq (oQ [oT 94 2 9,oT 95 2 16,O 96 (.call (.f yd3) [(.t 94),(.t 95)]),M 93 96,O 97 (.ext (.t 93) 0),O 98 (.ext (.t 93) 1),⟨none,(.store 2 (.t 9) (.t 97)),none⟩,M 15 98] [16,90,93,94,95,96,97,98]) (.seq (oQ [M 99 15,O 100 (.bin .neq (.t 99) (I 0))] [99]) (.cond (.t 100) (.seq (oQ [O 101 (.build [(.int .i64 (0)),(.int .i64 (0))] []),M 102 15,⟨none,(.store 2 (.t 6) (.t 101)),none⟩,M 7 102] [3,5,9,10,13,15,42,43,44,100,101,102]) .ret) .skip))) (oQ [oT 103 2 13,⟨none,(.store 2 (.t 10) (.t 103)),none⟩] [13,15,100,103]))))))))))) (oQ [O 104 (.bin .add (.t 44) (I 1)),M 44 104] [13,70,104]))))
def yD9:TFn:=⟨3,[.cell 6 true 2,.tmp 7],(.seq (oQ [O 3 (.boxL (.t 0)),O 4 (.boxL (.t 1)),O 5 (.boxL (.t 2)),O 6 (.allocL (.agg [(.int .i64 (0)),(.int .i64 (0))])),O 7 (.mv (I 0))] [0,1,2,7]) (.seq (.seq (oQ [oT 17 3 3,O 18 (.call (.f yct) [(.t 17)]),M 8 18] [17,18]) (.seq (oQ [M 19 8,O 20 (.bin .neq (.t 19) (I 0))] [19]) (.cond (.t 20) (.seq (oQ [O 21 (.build [(.int .i64 (0)),(.int .i64 (0))] []),M 22 8,⟨none,(.store 2 (.t 6) (.t 21)),none⟩,M 7 22] [3,4,5,8,20,21,22]) .ret) .skip))) (.seq (.seq (oQ [oT 23 3 3,oT 24 2 4,O 25 (.call (.f yhn) [(.t 23),(.t 24)]),O 26 (.un .not (.t 25)),M 27 26,⟨some 28,(.load true 3 (.t 3)),some (27,false)⟩,⟨some 29,(.load true 2 (.t 5)),some (27,false)⟩,⟨some 30,(.call (.f yhn) [(.t 28),(.t 29)]),some (27,false)⟩,⟨some 31,(.un .not (.t 30)),some (27,false)⟩,O 32 (.pick (.t 27) (.c (.bool true)) (.t 31)),M 33 32,⟨some 34,(.load true 2 (.t 5)),some (33,false)⟩,⟨some 35,(.load true 2 (.t 4)),some (33,false)⟩,⟨some 36,(.call (.f yd2) [(.t 34),(.t 35)]),some (33,false)⟩,O 37 (.pick (.t 33) (.c (.bool true)) (.t 36))] [8,20,23,24,25,26,27,28,29,30,31,32,33,34,35,36]) (.cond (.t 37) (.seq (oQ [O 38 (.build [(.int .i64 (0)),(.int .i64 (0))] []),⟨none,(.store 2 (.t 6) (.t 38)),none⟩,O 7 (.mv (I 2))] [3,4,5,37,38]) .ret) .skip)) (.seq (oQ [O 39 (.call (.f ydU) [(I 0)]),O 9 (.allocL (.agg [(.int .i64 (0)),(.int .i64 (0))])),⟨none,(.store 2 (.t 9) (.t 39)),none⟩] [37,39]) (.seq (oQ [oT 40 2 4,O 10 (.allocL (.agg [(.int .i64 (0)),(.int .i64 (0))])),⟨none,(.store 2 (.t 10) (.t 40)),none⟩] [4,40]) (.seq (.seq (.ops [O 41 (.fad 2 (.t 3)),oF 42 1 41,O 43 (.len (.t 42)),O 44 (.mv (I 0))] [⟨1,(.agg [.i .i64,.d,.d]),0⟩] [] [41]) (.block 0 (.loop 85339800 ynn))) (.seq (oQ [oT 105 2 9,⟨none,(.store 2 (.t 6) (.t 105)),none⟩,O 7 (.mv (I 0))] [3,5,9,10,42,43,44,45,105]) .ret)))))))⟩
def yrb:TFn:=⟨2,[.cell 3 true 2,.tmp 4],(.seq (oQ [O 2 (.boxL (.t 0)),O 3 (.allocL (.agg [(.int .i64 (0)),(.int .i64 (0))])),O 4 (.mv (I 0))] [0,4]) (.seq (.ops [oT 5 3 1,O 6 (.fad 0 (.t 2)),oT 7 2 6,O 8 (.fad 2 (.t 2)),oT 9 2 8,O 10 (.call (.f yho) [(.t 5),(.t 7),(.t 9)]),O 11 (.ext (.t 10) 0),O 12 (.ext (.t 10) 1),⟨none,(.store 2 (.t 3) (.t 11)),none⟩,M 4 12] [⟨2,(.agg [.i .i64,.i .i64,.i .i64,.i .i64]),0⟩,⟨4,(.agg [.i .i64,.i .i64,.i .i64,.i .i64]),0⟩] [] [1,2,5,6,7,8,9,10,11,12]) .ret))⟩
def yno:TCode:=(.seq (oQ [oX 15 .lss 14 13] []) (.seq (.cond (.t 15) .skip (.exit 0)) (.seq (.block 1 (.seq (.ops [O 16 (.iad 4 (.t 12) (.t 14)),oT 17 4 16,O 8 (.allocL (.agg [(.int .i64 (0)),(.int .i64 (0)),(.int .i64 (0)),(.int .i64 (0))])),⟨none,(.store 4 (.t 8) (.t 17)),none⟩] [⟨0,(.agg [.i .i64,.i .i64,.i .i64,.i .i64]),0⟩,⟨1,(.agg [.i .i64,.i .i64,.i .i64,.i .i64]),0⟩] [] [15,16,17]) (.seq (oQ [M 19 1,oT 20 4 8,O 21 (.call (.t 19) [(.t 20)]),M 18 21,O 22 (.ext (.t 18) 0),O 23 (.ext (.t 18) 1),O 9 (.allocL (.agg [(.int .i64 (0)),(.int .i64 (0))])),⟨none,(.store 2 (.t 9) (.t 22)),none⟩,M 10 23] [8,18,19,20,21,22,23]) (.seq (.seq (oQ [M 24 10,O 25 (.bin .neq (.t 24) (I 0))] [24]) (.cond (.t 25) (.seq (oQ [O 26 (.build [(.int .i64 (0)),(.int .i64 (0))] []),M 27 10,⟨none,(.store 2 (.t 4) (.t 26)),none⟩,M 5 27] [1,6,9,10,12,13,14,25,26,27]) .ret) .skip)) (.seq (oQ [oT 29 2 6,oT 30 2 9,O 31 (.call (.f yd3) [(.t 29),(.t 30)]),M 28 31,O 32 (.ext (.t 28) 0),O 33 (.ext (.t 28) 1),⟨none,(.store 2 (.t 6) (.t 32)),none⟩,M 10 33] [9,25,28,29,30,31,32,33]) (.seq (oQ [M 34 10,O 35 (.bin .neq (.t 34) (I 0))] [34]) (.cond (.t 35) (.seq (oQ [O 36 (.build [(.int .i64 (0)),(.int .i64 (0))] []),M 37 10,⟨none,(.store 2 (.t 4) (.t 36)),none⟩,M 5 37] [1,6,10,12,13,14,35,36,37]) .ret) .skip))))))) (oQ [O 38 (.bin .add (.t 14) (I 1)),M 14 38] [10,35,38]))))
def yGh:TFn:=⟨2,[.cell 4 true 2,.tmp 5],(.seq (oQ [O 4 (.allocL (.agg [(.int .i64 (0)),(.int .i64 (0))])),O 5 (.mv (I 0))] [5]) (.seq (oQ [O 11 (.build [(.int .i64 (0)),(.int .i64 (0))] [(1,1,(I 1))]),O 6 (.allocL (.agg [(.int .i64 (0)),(.int .i64 (0))])),⟨none,(.store 2 (.t 6) (.t 11)),none⟩] [11]) (.seq (.seq (oQ [M 12 0,O 13 (.len (.t 12)),O 14 (.mv (I 0))] [0]) (.block 0 (.loop 87165700 yno))) (.seq (oQ [oT 39 2 6,⟨none,(.store 2 (.t 4) (.t 39)),none⟩,O 5 (.mv (I 0))] [1,6,12,13,14,15,39]) .ret))))⟩
def yBI:TFn:=⟨2,[.cell 4 true 2,.tmp 5],(.seq (oQ [O 2 (.boxH true 3 (.t 0)),O 4 (.allocL (.agg [(.int .i64 (0)),(.int .i64 (0))])),O 5 (.mv (I 0))] [0,5]) (.seq (.seq (.ops [oT 9 3 2,O 10 (.call (.f yct) [(.t 9)]),M 6 10] [⟨0,(.agg [.i .i64,.d,.d]),0⟩] [] [9,10]) (.seq (oQ [M 11 6,O 12 (.bin .neq (.t 11) (I 0))] [11]) (.cond (.t 12) (.seq (oQ [O 13 (.build [(.int .i64 (0)),(.int .i64 (0))] []),M 14 6,⟨none,(.store 2 (.t 4) (.t 13)),none⟩,M 5 14] [1,2,6,12,13,14]) .ret) .skip))) (.seq (.seq (oQ [M 15 1,O 16 (.call (.f yd1) [(.t 15)]),M 7 16] [6,12,15,16]) (.seq (oQ [M 17 7,O 18 (.bin .neq (.t 17) (I 0))] [17]) (.cond (.t 18) (.seq (oQ [O 19 (.build [(.int .i64 (0)),(.int .i64 (0))] []),M 20 7,⟨none,(.store 2 (.t 4) (.t 19)),none⟩,M 5 20] [1,2,7,18,19,20]) .ret) .skip))) (.seq (.seq (oQ [M 21 1,O 22 (.len (.t 21)),M 8 22] [7,18,21,22]) (.seq (.ops [M 23 8,O 24 (.bin .gtr (.t 23) (I 0)),M 25 24,⟨some 26,(.mv (.t 1)),some (25,true)⟩,⟨some 27,(.iad 4 (.t 26) (I 0)),some (25,true)⟩,⟨some 28,(.fad 0 (.t 27)),some (25,true)⟩,⟨some 29,(.fad 0 (.t 28)),some (25,true)⟩,⟨some 30,(.load false 1 (.t 29)),some (25,true)⟩,⟨some 31,(.bin .lss (.t 30) (I 0)),some (25,true)⟩,⟨some 32,(.mv (.t 31)),some (25,true)⟩,⟨some 33,(.mv (.t 1)),some (32,false)⟩,⟨some 34,(.mv (.t 8)),some (32,false)⟩,⟨some 35,(.bin .sub (.t 34) (I 1)),some (32,false)⟩,⟨some 36,(.iad 4 (.t 33) (.t 35)),some (32,false)⟩,⟨some 37,(.fad 2 (.t 36)),some (32,false)⟩,⟨some 38,(.load true 2 (.t 37)),some (32,false)⟩,⟨some 39,(.fad 0 (.t 2)),some (32,false)⟩,⟨some 40,(.load false 1 (.t 39)),some (32,false)⟩,⟨some 41,(.build [(.int .i64 (0)),(.int .i64 (0))] [(0,1,(.t 40)),(1,1,(I 1))]),some (32,false)⟩,⟨some 42,(.call (.f yd0) [(.t 38),(.t 41)]),some (32,false)⟩,⟨some 43,(.bin .gtr (.t 42) (I 0)),some (32,false)⟩,⟨some 44,(.pick (.t 32) (.c (.bool true)) (.t 43)),some (25,true)⟩,O 45 (.pick (.t 25) (.t 44) (.c (.bool false)))] [⟨4,(.agg [.i .i64,.i .i64,.i .i64,.i .i64]),0⟩,⟨7,(.agg [.i .i64,.i .i64,.i .i64,.i .i64]),0⟩,⟨13,(.agg [.i .i64,.i .i64,.i .i64,.i .i64]),0⟩,⟨15,(.agg [.i .i64,.i .i64,.i .i64,.i .i64]),0⟩,⟨17,(.agg [.i .i64,.d,.d]),0⟩] [(10,11),(10,12),(10,16),(11,16),(12,16),(13,16),(14,16),(15,16),(10,17),(11,17),(12,17),(13,17),(14,17),(15,17),(10,18),(11,18),(12,18),(13,18),(14,18),(15,18)] [8,23,24,25,26,27,28,29,30,31,32,33,34,35,36,37,38,39,40,41,42,43,44]) (.cond (.t 45) (.seq (oQ [O 46 (.build [(.int .i64 (0)),(.int .i64 (0))] []),⟨none,(.store 2 (.t 4) (.t 46)),none⟩,O 5 (.mv (I 2))] [1,2,45,46]) .ret) .skip))) (.seq (oQ [M 47 1,O 48 (.mkFn (.func ydI) [] [(.t 2)]),O 49 (.call (.f yrA) [(.t 47),(.t 48)]),O 50 (.ext (.t 49) 0),O 51 (.ext (.t 49) 1),⟨none,(.store 2 (.t 4) (.t 50)),none⟩,M 5 51] [1,2,45,47,48,49,50,51]) .ret)))))⟩
def ykf:TCode:=(.seq (oQ [oX 34 .lss 33 32] []) (.seq (.cond (.t 34) .skip (.exit 2)) (.seq (.block 3 (.seq (oQ [O 35 (.iad 1 (.t 31) (.t 33)),oF 36 1 35,M 11 36] [34,35,36]) (.seq (oQ [oT 38 3 9,M 39 11,O 40 (.call (.f yby) [(.t 38),(.t 39)]),M 37 40,O 41 (.ext (.t 37) 0),O 42 (.ext (.t 37) 1),O 12 (.allocL (.agg [(.int .i64 (0)),(.int .i64 (0))])),⟨none,(.store 2 (.t 12) (.t 41)),none⟩,M 13 42] [11,37,38,39,40,41,42]) (.seq (.seq (oQ [M 43 13,O 44 (.bin .neq (.t 43) (I 0))] [43]) (.cond (.t 44) (.seq (oQ [M 45 13,O 4 (.mv (.c .nils)),M 5 45] [3,7,8,9,12,13,23,24,25,31,32,33,44,45]) .ret) .skip)) (.ops [M 46 7,M 47 8,M 48 7,M 49 8,O 50 (.iad 1 (.t 48) (.t 49)),oF 51 1 50,oT 52 2 12,O 53 (.buildD 2 (.agg [(.int .i64 (0)),(.int .i64 (0))]) 1 [(0,(.t 52))]),O 54 (.app true 2 16 (.t 51) (.t 53)),O 55 (.iad 1 (.t 46) (.t 47)),⟨none,(.store 1 (.t 55) (.t 54)),none⟩] [] [(0,1),(0,2),(1,2),(0,3),(1,3),(2,3),(0,4),(1,4),(0,5),(1,5),(0,6),(1,6),(2,6),(3,6),(4,6),(5,6),(0,7),(1,7),(2,7),(3,7),(4,7),(5,7),(0,8),(1,8)] [12,13,44,46,47,48,49,50,51,52,53,54,55]))))) (oQ [O 56 (.bin .add (.t 33) (I 1)),M 33 56] [56]))))
def ypQ:TCode:=(.seq (oQ [oX 26 .lss 25 24] []) (.seq (.cond (.t 26) .skip (.exit 0)) (.seq (.block 1 (.seq (oQ [M 27 25,O 28 (.iad 3 (.t 23) (.t 25)),oT 29 3 28,O 9 (.allocL (.agg [(.int .i64 (0)),.nils,.nils])),M 8 27,⟨none,(.store 3 (.t 9) (.t 29)),none⟩] [26,27,28,29]) (.seq (oQ [O 30 (.fad 0 (.t 3)),oF 31 1 30,O 32 (.len (.t 31)),O 33 (.mv (I 0))] [30]) (.block 2 (.loop 14283600 ykf))))) (oQ [O 57 (.bin .add (.t 25) (I 1)),M 25 57] [8,9,31,32,33,34,57]))))
def ytS:TFn:=⟨2,[.tmp 4,.tmp 5],(.seq (oQ [O 3 (.boxL (.t 1)),O 4 (.mv (.c .nils)),O 5 (.mv (I 0))] [1,4,5]) (.seq (.seq (oQ [M 14 0,oT 15 1 3,O 16 (.call (.f ycq) [(.t 14),(.t 15)]),M 6 16] [14,15,16]) (.seq (oQ [M 17 6,O 18 (.bin .neq (.t 17) (I 0))] [17]) (.cond (.t 18) (.seq (oQ [M 19 6,O 4 (.mv (.c .nils)),M 5 19] [0,3,6,18,19]) .ret) .skip))) (.seq (oQ [M 20 0,O 21 (.len (.t 20)),O 22 (.mkSl false 1 24 .nils (.t 21) (.t 21)),M 7 22] [6,18,20,21,22]) (.seq (.seq (oQ [M 23 0,O 24 (.len (.t 23)),O 25 (.mv (I 0))] [0]) (.block 0 (.loop 14283601 ypQ))) (.seq (oQ [M 58 7,M 4 58,O 5 (.mv (I 0))] [3,7,23,24,25,26,58]) .ret)))))⟩
def yhq:TFn:=⟨2,[.tmp 4,.tmp 5],(.seq (oQ [O 3 (.boxL (.t 1)),O 4 (.mv (.c .nilp)),O 5 (.mv (I 0))] [1,4,5]) (.seq (oQ [M 9 0,oT 10 1 3,O 11 (.call (.f yaY) [(.t 9),(.t 10)]),M 8 11,O 12 (.ext (.t 8) 0),O 13 (.ext (.t 8) 1),M 6 12,M 7 13] [8,9,10,11,12,13]) (.seq (.seq (oQ [M 14 7,O 15 (.bin .neq (.t 14) (I 0))] [14]) (.cond (.t 15) (.seq (oQ [M 16 7,O 4 (.mv (.c .nilp)),M 5 16] [0,3,6,7,15,16]) .ret) .skip)) (.seq (.ops [M 17 0,O 18 (.fad 0 (.t 3)),oF 19 1 18,M 20 6,O 21 (.build [.nils,.nils,.nils,.nils] [(0,1,(.t 17)),(1,1,(.t 19)),(2,1,(.t 20))]),O 22 (.boxH false 4 (.t 21)),M 4 22,O 5 (.mv (I 0))] [⟨2,(.agg [.d]),0⟩] [] [0,3,6,7,15,17,18,19,20,21,22]) .ret))))⟩
def ynp:TCode:=(.seq (oQ [oX 17 .lss 16 15] []) (.seq (.cond (.t 17) .skip (.exit 0)) (.seq (.block 1 (.seq (.ops [M 18 16,O 19 (.iad 1 (.t 14) (.t 16)),oF 20 1 19,M 6 18,M 7 20] [⟨1,(.one (.i .i64)),0⟩,⟨2,(.one (.i .i64)),0⟩] [] [17,18,19,20]) (.ops [M 21 5,M 22 7,O 23 (.fad 1 (.t 1)),oF 24 1 23,M 25 6,O 26 (.bin .add (.t 25) (I 1)),O 27 (.iad 1 (.t 24) (.t 26)),oF 28 1 27,O 29 (.fad 1 (.t 1)),oF 30 1 29,M 31 6,O 32 (.iad 1 (.t 30) (.t 31)),oF 33 1 32,oX 34 .sub 28 33,oX 35 .mul 22 34,oX 36 .add 21 35,M 5 36] [⟨3,(.agg [.i .i64,.d,.d]),0⟩,⟨6,(.one (.i .i64)),0⟩,⟨7,(.one (.i .i64)),0⟩,⟨9,(.agg [.i .i64,.d,.d]),0⟩,⟨11,(.one (.i .i64)),0⟩,⟨12,(.one (.i .i64)),0⟩] [(0,1),(0,2),(1,2),(0,3),(1,3),(0,4),(1,4),(2,4),(3,4),(0,5),(1,5),(2,5),(3,5),(0,6),(1,6),(0,7),(1,7),(0,8),(1,8),(2,8),(3,8),(4,8),(5,8),(6,8),(7,8),(0,9),(1,9),(2,9),(3,9),(4,9),(5,9),(6,9),(7,9),(0,10),(1,10),(2,10),(3,10),(4,10),(5,10),(6,10),(7,10),(8,10),(9,10),(0,11),(1,11),(2,11),(3,11),(4,11),(5,11),(6,11),(7,11),(0,12),(1,12),(2,12),(3,12),(4,12),(5,12),(6,12),(7,12),(0,13),(1,13),(0,14)] [6,7,21,22,23,24,25,26,27,28,29,30,31,32,33,34,35,36]))) (oQ [O 37 (.bin .add (.t 16) (I 1)),M 16 37] [37]))))
def yEa:TFn:=⟨1,[.tmp 2,.tmp 3],(.seq (oQ [O 1 (.boxL (.t 0)),O 2 (.mv (I 0)),O 3 (.mv (I 0))] [0,2,3]) (.seq (.seq (oQ [oT 8 3 1,O 9 (.call (.f yct) [(.t 8)]),M 4 9] [8,9]) (.seq (oQ [M 10 4,O 11 (.bin .neq (.t 10) (I 0))] [10]) (.cond (.t 11) (.seq (oQ [M 12 4,O 2 (.mv (I 0)),M 3 12] [1,4,11,12]) .ret) .skip))) (.seq (oQ [O 5 (.mv (I 0))] [4,11]) (.seq (.seq (.ops [O 13 (.fad 2 (.t 1)),oF 14 1 13,O 15 (.len (.t 14)),O 16 (.mv (I 0))] [⟨1,(.agg [.i .i64,.d,.d]),0⟩] [] [13]) (.block 0 (.loop 45203600 ynp))) (.seq (oQ [M 38 5,M 2 38,O 3 (.mv (I 0))] [1,5,14,15,16,17,38]) .ret)))))⟩
def yGi:TFn:=⟨2,[.cell 4 true 2,.tmp 5],(.seq (oQ [O 2 (.boxL (.t 0)),O 3 (.boxL (.t 1)),O 4 (.allocL (.agg [(.int .i64 (0)),(.int .i64 (0))])),O 5 (.mv (I 0))] [0,1,5]) (.seq (.seq (oQ [oT 7 2 2,oT 8 2 3,O 9 (.call (.f ybF) [(.t 7),(.t 8)]),M 6 9] [7,8,9]) (.seq (oQ [M 10 6,O 11 (.bin .neq (.t 10) (I 0))] [10]) (.cond (.t 11) (.seq (oQ [O 12 (.build [(.int .i64 (0)),(.int .i64 (0))] []),M 13 6,⟨none,(.store 2 (.t 4) (.t 12)),none⟩,M 5 13] [2,3,6,11,12,13]) .ret) .skip))) (.seq (.block 0 (.seq (.ops [O 15 (.fad 0 (.t 3)),oF 16 1 15,O 17 (.bin .eql (.t 16) (I 0)),M 14 17] [⟨1,(.agg [.i .i64,.i .i64]),0⟩] [] [6,11,15,16,17]) (.cond (.t 14) (.seq (oQ [O 18 (.build [(.int .i64 (0)),(.int .i64 (0))] []),⟨none,(.store 2 (.t 4) (.t 18)),none⟩,O 5 (.mv (I 18))] [2,3,14,18]) .ret) (.seq (.ops [O 20 (.fad 0 (.t 3)),oF 21 1 20,O 22 (.bin .lss (.t 21) (I 0)),M 19 22] [⟨1,(.agg [.i .i64,.i .i64]),0⟩] [] [14,20,21,22]) (.cond (.t 19) (.seq (.ops [oT 23 2 2,O 24 (.fad 1 (.t 3)),oF 25 1 24,O 26 (.un .neg (.t 25)),O 27 (.fad 0 (.t 3)),oF 28 1 27,O 29 (.un .neg (.t 28)),O 30 (.build [(.int .i64 (0)),(.int .i64 (0))] [(0,1,(.t 26)),(1,1,(.t 29))]),O 31 (.call (.f yfz) [(.t 23),(.t 30)]),O 32 (.ext (.t 31) 0),O 33 (.ext (.t 31) 1),⟨none,(.store 2 (.t 4) (.t 32)),none⟩,M 5 33] [⟨2,(.agg [.i .i64,.i .i64]),0⟩,⟨5,(.agg [.i .i64,.i .i64]),0⟩] [] [2,3,19,23,24,25,26,27,28,29,30,31,32,33]) .ret) .skip))))) (.seq (.ops [oT 34 2 2,O 35 (.fad 1 (.t 3)),oF 36 1 35,O 37 (.fad 0 (.t 3)),oF 38 1 37,O 39 (.build [(.int .i64 (0)),(.int .i64 (0))] [(0,1,(.t 36)),(1,1,(.t 38))]),O 40 (.call (.f yfz) [(.t 34),(.t 39)]),O 41 (.ext (.t 40) 0),O 42 (.ext (.t 40) 1),⟨none,(.store 2 (.t 4) (.t 41)),none⟩,M 5 42] [⟨2,(.agg [.i .i64,.i .i64]),0⟩,⟨4,(.agg [.i .i64,.i .i64]),0⟩] [] [2,3,19,34,35,36,37,38,39,40,41,42]) .ret))))⟩
def yek:TCode:=(.seq (oQ [oX 14 .lss 13 12] []) (.seq (.cond (.t 14) .skip (.exit 0)) (.seq (.block 1 (.seq (oQ [M 15 13,M 3 15] [14,15]) (.seq (.ops [M 17 0,O 18 (.nilchk (.t 17)),O 19 (.fad 0 (.t 18)),oF 20 1 19,M 21 3,O 22 (.iad 3 (.t 20) (.t 21)),oT 23 3 22,O 24 (.call (.f ycQ) [(.t 23)]),M 16 24,O 25 (.ext (.t 16) 0),O 26 (.ext (.t 16) 1),M 4 25,M 5 26] [⟨5,(.agg [.i .i64,.d,.d]),0⟩,⟨6,(.agg [.i .i64,.d,.d]),0⟩] [] [5,16,17,18,19,20,21,22,23,24,25,26]) (.seq (.ops [M 28 0,O 29 (.nilchk (.t 28)),O 30 (.fad 2 (.t 29)),oF 31 1 30,M 32 3,O 33 (.iad 1 (.t 31) (.t 32)),oF 34 1 33,M 35 3,O 36 (.iad 2 (.t 34) (.t 35)),oT 37 2 36,M 38 4,O 39 (.call (.f ybx) [(.t 38)]),O 40 (.call (.f yfA) [(.t 37),(.t 39)]),M 27 40,O 41 (.ext (.t 27) 0),O 42 (.ext (.t 27) 1),O 6 (.allocL (.agg [(.int .i64 (0)),(.int .i64 (0))])),⟨none,(.store 2 (.t 6) (.t 41)),none⟩,M 7 42] [⟨5,(.one (.d)),0⟩,⟨6,(.one (.d)),0⟩,⟨8,(.agg [.i .i64,.i .i64]),0⟩,⟨9,(.agg [.i .i64,.i .i64]),0⟩] [(0,4),(1,4),(2,4),(3,4),(0,7),(1,7),(2,7),(3,7),(4,7),(5,7),(6,7),(0,10),(1,10),(2,10),(3,10),(4,10),(5,10),(6,10),(7,10),(8,10),(9,10),(0,11),(1,11),(2,11),(3,11),(4,11),(5,11),(6,11),(7,11),(8,11),(9,11),(14,15),(0,16),(1,16),(2,16),(3,16),(4,16),(5,16),(6,16),(7,16),(8,16),(9,16),(10,16),(11,16),(12,16),(13,16),(14,16),(15,16),(15,17)] [3,4,27,28,29,30,31,32,33,34,35,36,37,38,39,40,41,42]) (.seq (.seq (oQ [M 43 7,O 44 (.bin .neq (.t 43) (I 0))] [43]) (.cond (.t 44) (.seq (oQ [M 45 7,M 2 45] [0,6,7,12,13,44,45]) .ret) .skip)) (.ops [M 46 0,M 47 0,O 48 (.nilchk (.t 47)),O 49 (.fad 3 (.t 48)),oF 50 1 49,oT 51 2 6,O 52 (.buildD 2 (.agg [(.int .i64 (0)),(.int .i64 (0))]) 1 [(0,(.t 51))]),O 53 (.app true 2 16 (.t 50) (.t 52)),O 54 (.nilchk (.t 46)),O 55 (.fad 3 (.t 54)),⟨none,(.store 1 (.t 55) (.t 53)),none⟩] [] [(0,1),(0,2),(0,3),(0,4),(0,5),(1,5),(2,5),(3,5),(4,5),(0,6),(1,6),(2,6),(3,6),(4,6),(0,7)] [6,7,44,46,47,48,49,50,51,52,53,54,55])))))) (oQ [O 56 (.bin .add (.t 13) (I 1)),M 13 56] [56]))))
def ynq:TFn:=⟨1,[.tmp 2],(.seq (oQ [O 2 (.mv (I 0))] [2]) (.seq (.seq (oQ [M 8 0,O 9 (.nilchk (.t 8)),O 10 (.fad 0 (.t 9)),oF 11 1 10,O 12 (.len (.t 11)),O 13 (.mv (I 0))] [8,9,10,11]) (.block 0 (.loop 20643600 yek))) (.seq (oQ [O 2 (.mv (I 0))] [0,12,13,14]) .ret)))⟩
def yoe:TFn:=⟨2,[.tmp 3],(.seq (oQ [O 2 (.boxL (.t 0)),O 3 (.mv (.c (.bool false)))] [0,3]) (.seq (.ops [O 4 (.fad 0 (.t 1)),oT 5 2 4,O 6 (.fad 2 (.t 2)),oT 7 2 6,O 8 (.call (.f ybi) [(.t 5),(.t 7)]),M 9 8,⟨some 10,(.fad 0 (.t 2)),some (9,true)⟩,⟨some 11,(.load true 2 (.t 10)),some (9,true)⟩,⟨some 12,(.fad 2 (.t 1)),some (9,true)⟩,⟨some 13,(.load true 2 (.t 12)),some (9,true)⟩,⟨some 14,(.call (.f ybi) [(.t 11),(.t 13)]),some (9,true)⟩,O 15 (.pick (.t 9) (.t 14) (.c (.bool false))),M 3 15] [⟨3,(.agg [.i .i64,.i .i64,.i .i64,.i .i64]),0⟩,⟨7,(.agg [.i .i64,.i .i64,.i .i64,.i .i64]),0⟩] [] [1,2,4,5,6,7,8,9,10,11,12,13,14,15]) .ret))⟩
def yfH:TCode:=(.seq (oQ [oX 9 .lss 8 7] []) (.seq (.cond (.t 9) .skip (.exit 0)) (.seq (.block 1 (.seq (oQ [M 10 8,M 5 10] [9,10]) (.seq (.ops [M 11 1,M 12 0,M 13 5,O 14 (.iad 4 (.t 12) (.t 13)),oT 15 4 14,O 16 (.call (.t 11) [(.t 15)])] [⟨3,(.agg [.i .i64,.i .i64,.i .i64,.i .i64]),0⟩,⟨4,(.agg [.i .i64,.i .i64,.i .i64,.i .i64]),0⟩] [] [11,12,13,14,15]) (.cond (.t 16) (.seq (oQ [M 17 5,M 4 17] [0,1,5,7,8,16,17]) .ret) .skip)))) (oQ [O 18 (.bin .add (.t 8) (I 1)),M 8 18] [5,16,18]))))
def yfc:TFn:=⟨2,[.tmp 4],(.seq (oQ [O 4 (.mv (I 0))] [4]) (.seq (.seq (oQ [M 6 0,O 7 (.len (.t 6)),O 8 (.mv (I 0))] [6]) (.block 0 (.loop 68674300 yfH))) (.seq (oQ [O 4 (.mv (I (-1)))] [0,1,7,8,9]) .ret)))⟩
def ybB:TFn:=⟨2,[.tmp 4],(.seq (oQ [O 4 (.mv (.c (.bool false)))] [4]) (.seq (oQ [M 5 0,M 6 1,O 7 (.call (.f ybV) [(.t 5),(.t 6)]),O 8 (.bin .geq (.t 7) (I 0)),M 4 8] [0,1,5,6,7,8]) .ret))⟩
def yyO:TFn:=⟨2,[.tmp 3],(.seq (oQ [O 2 (.boxH false 4 (.t 0)),O 3 (.mv (.c (.bool false)))] [0,3]) (.seq (oQ [oF 4 1 1,O 5 (.mkFn (.func ycR) [] [(.t 2)]),O 6 (.call (.f yaT) [(.t 4),(.t 5)]),M 3 6] [1,2,4,5,6]) .ret))⟩
def yBJ:TFn:=⟨2,[.tmp 4],(.seq (oQ [O 3 (.boxH false 1 (.t 1)),O 4 (.mv (.c (.bool false)))] [1,4]) (.seq (oQ [M 5 0,O 6 (.mkFn (.func ybZ) [] [(.t 3)]),O 7 (.call (.f yaT) [(.t 5),(.t 6)]),M 4 7] [0,3,5,6,7]) .ret))⟩
def yja:TFn:=⟨3,[.tmp 5],(.seq (oQ [O 5 (.mv (.c (.bool false)))] [5]) (.seq (.ops [M 6 0,M 7 1,oX 8 .lss 6 7,M 9 8,⟨some 10,(.load false 1 (.t 2)),some (9,true)⟩,⟨some 11,(.nilchk (.t 10)),some (9,true)⟩,⟨some 12,(.fad 1 (.t 11)),some (9,true)⟩,⟨some 13,(.load false 1 (.t 12)),some (9,true)⟩,⟨some 14,(.mv (.t 0)),some (9,true)⟩,⟨some 15,(.iad 1 (.t 13) (.t 14)),some (9,true)⟩,⟨some 16,(.load false 1 (.t 15)),some (9,true)⟩,⟨some 17,(.load false 1 (.t 2)),some (9,true)⟩,⟨some 18,(.nilchk (.t 17)),some (9,true)⟩,⟨some 19,(.fad 1 (.t 18)),some (9,true)⟩,⟨some 20,(.load false 1 (.t 19)),some (9,true)⟩,⟨some 21,(.mv (.t 1)),some (9,true)⟩,⟨some 22,(.iad 1 (.t 20) (.t 21)),some (9,true)⟩,⟨some 23,(.load false 1 (.t 22)),some (9,true)⟩,⟨some 24,(.call (.f ygf) [(.t 16),(.t 23)]),some (9,true)⟩,O 25 (.pick (.t 9) (.t 24) (.c (.bool false))),M 5 25] [⟨7,(.agg [.d,.d,.d,.d]),0⟩,⟨9,(.one (.d)),0⟩,⟨10,(.one (.d)),0⟩,⟨14,(.agg [.d,.d,.d,.d]),0⟩,⟨16,(.one (.d)),0⟩,⟨17,(.one (.d)),0⟩] [(0,1),(4,8),(5,8),(6,8),(7,8),(4,11),(5,11),(6,11),(7,11),(8,11),(9,11),(10,11),(4,12),(5,12),(6,12),(7,12),(8,12),(9,12),(10,12),(4,13),(5,13),(6,13),(7,13),(8,13),(9,13),(10,13),(4,14),(5,14),(6,14),(7,14),(8,14),(9,14),(10,14),(4,15),(5,15),(6,15),(7,15),(8,15),(9,15),(10,15),(11,15),(12,15),(13,15),(14,15),(4,16),(5,16),(6,16),(7,16),(8,16),(9,16),(10,16),(4,17),(5,17),(6,17),(7,17),(8,17),(9,17),(10,17)] [0,1,2,6,7,8,9,10,11,12,13,14,15,16,17,18,19,20,21,22,23,24,25]) .ret))⟩
def yeU:TCode:=(.seq (oQ [oX 23 .lss 22 21] []) (.seq (.cond (.t 23) .skip (.exit 2)) (.seq (.block 3 (.seq (oQ [M 24 22,M 8 24] [23,24]) (.seq (oQ [M 25 1,M 26 7,M 27 8,O 28 (.call (.t 25) [(.t 26),(.t 27)])] [25,26,27]) (.cond (.t 28) (.seq (oQ [M 29 7,M 30 8,M 4 29,M 5 30,O 6 (.mv (.c (.bool true)))] [0,1,7,8,13,14,21,22,28,29,30]) .ret) .skip)))) (oQ [O 31 (.bin .add (.t 22) (I 1)),M 22 31] [8,28,31]))))
def yfI:TCode:=(.seq (oQ [oX 15 .lss 14 13] []) (.seq (.cond (.t 15) .skip (.exit 0)) (.seq (.block 1 (.seq (oQ [M 16 14,M 7 16] [15,16]) (.seq (oQ [M 17 0,O 18 (.nilchk (.t 17)),O 19 (.fad 0 (.t 18)),oF 20 1 19,O 21 (.len (.t 20)),O 22 (.mv (I 0))] [17,18,19,20]) (.block 2 (.loop 97930200 yeU))))) (oQ [O 32 (.bin .add (.t 14) (I 1)),M 14 32] [7,21,22,23,32]))))
def ytb:TFn:=⟨2,[.tmp 4,.tmp 5,.tmp 6],(.seq (oQ [O 4 (.mv (I 0)),O 5 (.mv (I 0)),O 6 (.mv (.c (.bool false)))] [4,5,6]) (.seq (.seq (oQ [M 9 0,O 10 (.nilchk (.t 9)),O 11 (.fad 0 (.t 10)),oF 12 1 11,O 13 (.len (.t 12)),O 14 (.mv (I 0))] [9,10,11,12]) (.block 0 (.loop 97930201 yfI))) (.seq (oQ [O 4 (.mv (I 0)),O 5 (.mv (I 0)),O 6 (.mv (.c (.bool false)))] [0,1,13,14,15]) .ret)))⟩
def yg3:TFn:=⟨2,[.tmp 4],(.seq (oQ [O 4 (.mv (.c .nils))] [4]) (.seq (.seq (oQ [M 5 1,O 6 (.bin .lss (.t 5) (I 0))] [5]) (.cond (.t 6) (oQ [⟨some 7,.bad,none⟩,⟨none,.bad,none⟩] [6,7]) .skip)) (.seq (.seq (oQ [M 8 1,M 9 0,O 10 (.cap (.t 9)),M 11 0,O 12 (.len (.t 11)),oX 13 .sub 10 12,oX 14 .sub 8 13,M 1 14] [6,8,9,10,11,12,13,14]) (.seq (oQ [M 15 1,O 16 (.bin .gtr (.t 15) (I 0))] [15]) (.cond (.t 16) (oQ [M 17 0,M 18 0,O 19 (.cap (.t 18)),O 20 (.slc 4 (.t 17) none (some (.t 19)) none),M 21 1,O 22 (.appZ true 4 32 (.agg [(.int .i64 (0)),(.int .i64 (0)),(.int .i64 (0)),(.int .i64 (0))]) (.t 20) (.t 21)),M 23 0,O 24 (.len (.t 23)),O 25 (.slc 4 (.t 22) none (some (.t 24)) none),M 0 25] [1,16,17,18,19,20,21,22,23,24,25]) .skip))) (.seq (oQ [M 26 0,M 4 26] [0,1,16,26]) .ret))))⟩
def ynr:TCode:=(.seq (oQ [oX 12 .lss 11 10] []) (.seq (.cond (.t 12) .skip (.exit 0)) (.seq (.block 1 (.seq (.ops [O 13 (.iad 1 (.t 9) (.t 11)),oF 14 1 13,M 5 14] [⟨0,(.one (.d)),0⟩,⟨1,(.one (.d)),0⟩] [] [12,13,14]) (.seq (oQ [M 15 3,M 16 5,O 17 (.len (.t 16)),oX 18 .add 15 17,M 3 18] [5,15,16,17,18]) (.seq (oQ [M 19 3,O 20 (.bin .lss (.t 19) (I 0))] [19]) (.cond (.t 20) (oQ [⟨some 21,.bad,none⟩,⟨none,.bad,none⟩] [20,21]) .skip))))) (oQ [O 22 (.bin .add (.t 11) (I 1)),M 11 22] [20,22]))))
def ykg:TCode:=(.seq (oQ [oX 28 .lss 27 26] []) (.seq (.cond (.t 28) .skip (.exit 2)) (.seq (.block 3 (.seq (.ops [O 29 (.iad 1 (.t 25) (.t 27)),oF 30 1 29,M 8 30] [⟨0,(.one (.d)),0⟩,⟨1,(.one (.d)),0⟩] [] [28,29,30]) (.ops [M 31 6,M 32 8,O 33 (.app true 4 32 (.t 31) (.t 32)),M 6 33] [⟨2,.raw,1⟩] [] [8,31,32,33]))) (oQ [O 34 (.bin .add (.t 27) (I 1)),M 27 34] [34]))))
def ylM:TFn:=⟨1,[.tmp 2],(.seq (oQ [O 2 (.mv (.c .nils))] [2]) (.seq (oQ [O 3 (.mv (I 0))] []) (.seq (.seq (oQ [M 9 0,O 10 (.len (.t 9)),O 11 (.mv (I 0))] []) (.block 0 (.loop 14451100 ynr))) (.seq (oQ [M 23 3,O 24 (.call (.f ycS) [(.c .nils),(.t 23)]),M 6 24] [3,9,10,11,12,23,24]) (.seq (.seq (oQ [M 25 0,O 26 (.len (.t 25)),O 27 (.mv (I 0))] [0]) (.block 2 (.loop 14451101 ykg))) (.seq (oQ [M 35 6,M 2 35] [6,25,26,27,28,35]) .ret))))))⟩
def yOC:TFn:=⟨1,[.tmp 2],(.seq (oQ [O 2 (.mv (I 0))] []) (.seq (.seq (oQ [M 3 0,O 4 (.bin .geq (.t 3) (.c (.int .u32 (65536))))] [3]) (.cond (.t 4) (.seq (oQ [M 5 0,O 6 (.bin .shr (.t 5) (.c (.int .u64 (16)))),M 0 6] [2,4,5,6]) (oQ [O 2 (.mv (I 16))] [])) .skip)) (.seq (.seq (oQ [M 7 0,O 8 (.bin .geq (.t 7) (.c (.int .u32 (256))))] [4,7]) (.cond (.t 8) (.seq (oQ [M 9 0,O 10 (.bin .shr (.t 9) (.c (.int .u64 (8)))),M 0 10] [8,9,10]) (oQ [M 11 2,O 12 (.bin .add (.t 11) (I 8)),M 2 12] [11,12])) .skip)) (.seq (oQ [M 13 2,M 14 0,O 15 (.conv .u8 (.t 14)),O 16 (.idx false 256 1 (.c (.agg [(.int .u8 (0)),(.int .u8 (1)),(.int .u8 (2)),(.int .u8 (2)),(.int .u8 (3)),(.int .u8 (3)),(.int .u8 (3)),(.int .u8 (3)),(.int .u8 (4)),(.int .u8 (4)),(.int .u8 (4)),(.int .u8 (4)),(.int .u8 (4)),(.int .u8 (4)),(.int .u8 (4)),(.int .u8 (4)),(.int .u8 (5)),(.int .u8 (5)),(.int .u8 (5)),(.int .u8 (5)),(.int .u8 (5)),(.int .u8 (5)),(.int .u8 (5)),(.int .u8 (5)),(.int .u8 (5)),(.int .u8 (5)),(.int .u8 (5)),(.int .u8 (5)),(.int .u8 (5)),(.int .u8 (5)),(.int .u8 (5)),(.int .u8 (5)),(.int .u8 (6)),(.int .u8 (6)),(.int .u8 (6)),(.int .u8 (6)),(.int .u8 (6)),(.int .u8 (6)),(.int .u8 (6)),(.int .u8 (6)),(.int .u8 (6)),(.int .u8 (6)),(.int .u8 (6)),(.int .u8 (6)),(.int .u8 (6)),(.int .u8 (6)),(.int .u8 (6)),(.int .u8 (6)),(.int .u8 (6)),(.int .u8 (6)),(.int .u8 (6)),(.int .u8 (6)),(.int .u8 (6)),(.int .u8 (6)),(.int .u8 (6)),(.int .u8 (6)),(.int .u8 (6)),(.int .u8 (6)),(.int .u8 (6)),(.int .u8 (6)),(.int .u8 (6)),(.int .u8 (6)),(.int .u8 (6)),(.int .u8 (6)),(.int .u8 (7)),(.int .u8 (7)),(.int .u8 (7)),(.int .u8 (7)),(.int .u8 (7)),(.int .u8 (7)),(.int .u8 (7)),(.int .u8 (7)),(.int .u8 (7)),(.int .u8 (7)),(.int .u8 (7)),(.int .u8 (7)),(.int .u8 (7)),(.int .u8 (7)),(.int .u8 (7)),(.int .u8 (7)),(.int .u8 (7)),(.int .u8 (7)),(.int .u8 (7)),(.int .u8 (7)),(.int .u8 (7)),(.int .u8 (7)),(.int .u8 (7)),(.int .u8 (7)),(.int .u8 (7)),(.int .u8 (7)),(.int .u8 (7)),(.int .u8 (7)),(.int .u8 (7)),(.int .u8 (7)),(.int .u8 (7)),(.int .u8 (7)),(.int .u8 (7)),(.int .u8 (7)),(.int .u8 (7)),(.int .u8 (7)),(.int .u8 (7)),(.int .u8 (7)),(.int .u8 (7)),(.int .u8 (7)),(.int .u8 (7)),(.int .u8 (7)),(.int .u8 (7)),(.int .u8 (7)),(.int .u8 (7)),(.int .u8 (7)),(.int .u8 (7)),(.int .u8 (7)),(.int .u8 (7)),(.int .u8 (7)),(.int .u8 (7)),(.int .u8 (7)),(.int .u8 (7)),(.int .u8 (7)),(.int .u8 (7)),(.int .u8 (7)),(.int .u8 (7)),(.int .u8 (7)),(.int .u8 (7)),(.int .u8 (7)),(.int .u8 (7)),(.int .u8 (7)),(.int .u8 (7)),(.int .u8 (7)),(.int .u8 (8)),(.int .u8 (8)),(.int .u8 (8)),(.int .u8 (8)),(.int .u8 (8)),(.int .u8 (8)),(.int .u8 (8)),(.int .u8 (8)),(.int .u8 (8)),(.int .u8 (8)),(.int .u8 (8)),(.int .u8 (8)),(.int .u8 (8)),(.int .u8 (8)),(.int .u8 (8)),(.int .u8 (8)),(.int .u8 (8)),(.int .u8 (8)),(.int .u8 (8)),(.int .u8 (8)),(.int .u8 (8)),(.int .u8 (8)),(.int .u8 (8)),(.int .u8 (8)),(.int .u8 (8)),(.int .u8 (8)),(.int .u8 (8)),(.int .u8 (8)),(.int .u8 (8)),(.int .u8 (8)),(.int .u8 (8)),(.int .u8 (8)),(.int .u8 (8)),(.int .u8 (8)),(.int .u8 (8)),(.int .u8 (8)),(.int .u8 (8)),(.int .u8 (8)),(.int .u8 (8)),(.int .u8 (8)),(.int .u8 (8)),(.int .u8 (8)),(.int .u8 (8)),(.int .u8 (8)),(.int .u8 (8)),(.int .u8 (8)),(.int .u8 (8)),(.int .u8 (8)),(.int .u8 (8)),(.int .u8 (8)),(.int .u8 (8)),(.int .u8 (8)),(.int .u8 (8)),(.int .u8 (8)),(.int .u8 (8)),(.int .u8 (8)),(.int .u8 (8)),(.int .u8 (8)),(.int .u8 (8)),(.int .u8 (8)),(.int .u8 (8)),(.int .u8 (8)),(.int .u8 (8)),(.int .u8 (8)),(.int .u8 (8)),(.int .u8 (8)),(.int .u8 (8)),(.int .u8 (8)),(.int .u8 (8)),(.int .u8 (8)),(.int .u8 (8)),(.int .u8 (8)),(.int .u8 (8)),(.int .u8 (8)),(.int .u8 (8)),(.int .u8 (8)),(.int .u8 (8)),(.int .u8 (8)),(.int .u8 (8)),(.int .u8 (8)),(.int .u8 (8)),(.int .u8 (8)),(.int .u8 (8)),(.int .u8 (8)),(.int .u8 (8)),(.int .u8 (8)),(.int .u8 (8)),(.int .u8 (8)),(.int .u8 (8)),(.int .u8 (8)),(.int .u8 (8)),(.int .u8 (8)),(.int .u8 (8)),(.int .u8 (8)),(.int .u8 (8)),(.int .u8 (8)),(.int .u8 (8)),(.int .u8 (8)),(.int .u8 (8)),(.int .u8 (8)),(.int .u8 (8)),(.int .u8 (8)),(.int .u8 (8)),(.int .u8 (8)),(.int .u8 (8)),(.int .u8 (8)),(.int .u8 (8)),(.int .u8 (8)),(.int .u8 (8)),(.int .u8 (8)),(.int .u8 (8)),(.int .u8 (8)),(.int .u8 (8)),(.int .u8 (8)),(.int .u8 (8)),(.int .u8 (8)),(.int .u8 (8)),(.int .u8 (8)),(.int .u8 (8)),(.int .u8 (8)),(.int .u8 (8)),(.int .u8 (8)),(.int .u8 (8)),(.int .u8 (8)),(.int .u8 (8)),(.int .u8 (8)),(.int .u8 (8)),(.int .u8 (8))])) (.t 15)),O 17 (.conv .i64 (.t 16)),oX 18 .add 13 17,M 2 18] [0,8,13,14,15,16,17,18]) .ret))))⟩
def yOG:TFn:=⟨1,[.tmp 2],(.seq (oQ [O 2 (.mv (I 0))] [2]) (.seq (.cond (.c (.bool false)) (.seq (oQ [M 3 0,O 4 (.conv .u32 (.t 3)),O 5 (.call (.f yxn) [(.t 4)]),M 2 5] [0,3,4,5]) .ret) .skip) (.seq (oQ [M 6 0,O 7 (.call (.f ymX) [(.t 6)]),M 2 7] [0,6,7]) .ret)))⟩
def yIe:TCode:=(.seq (.seq (.ops [M 18 9,M 19 1,oX 20 .gtr 18 19,M 21 20,⟨some 22,(.mv (.t 3)),some (21,true)⟩,⟨some 23,(.mv (.t 0)),some (21,true)⟩,⟨some 24,(.mv (.t 9)),some (21,true)⟩,⟨some 25,(.iad 4 (.t 23) (.t 24)),some (21,true)⟩,⟨some 26,(.load true 4 (.t 25)),some (21,true)⟩,⟨some 27,(.mv (.t 0)),some (21,true)⟩,⟨some 28,(.mv (.t 9)),some (21,true)⟩,⟨some 29,(.bin .sub (.t 28) (I 1)),some (21,true)⟩,⟨some 30,(.iad 4 (.t 27) (.t 29)),some (21,true)⟩,⟨some 31,(.load true 4 (.t 30)),some (21,true)⟩,⟨some 32,(.call (.t 22) [(.t 26),(.t 31)]),some (21,true)⟩,⟨some 33,(.bin .lss (.t 32) (I 0)),some (21,true)⟩,O 34 (.pick (.t 21) (.t 33) (.c (.bool false)))] [⟨7,(.agg [.i .i64,.i .i64,.i .i64,.i .i64]),0⟩,⟨8,(.agg [.i .i64,.i .i64,.i .i64,.i .i64]),0⟩,⟨12,(.agg [.i .i64,.i .i64,.i .i64,.i .i64]),0⟩,⟨13,(.agg [.i .i64,.i .i64,.i .i64,.i .i64]),0⟩] [(0,1),(4,5),(4,6),(5,6),(4,7),(4,8),(4,9),(5,9),(6,9),(7,9),(8,9),(4,10),(5,10),(6,10),(7,10),(8,10),(9,10),(4,11),(5,11),(6,11),(7,11),(8,11),(9,11),(4,12),(5,12),(6,12),(7,12),(8,12),(4,13),(5,13),(6,13),(7,13),(8,13)] [18,19,20,21,22,23,24,25,26,27,28,29,30,31,32,33]) (.cond (.t 34) .skip (.exit 2))) (.seq (.block 3 (.ops [M 37 0,M 38 9,M 39 0,M 40 9,O 41 (.bin .sub (.t 40) (I 1)),M 42 0,M 43 9,O 44 (.bin .sub (.t 43) (I 1)),O 45 (.iad 4 (.t 42) (.t 44)),oT 46 4 45,M 47 0,M 48 9,O 49 (.iad 4 (.t 47) (.t 48)),oT 50 4 49,O 51 (.iad 4 (.t 37) (.t 38)),⟨none,(.store 4 (.t 51) (.t 46)),none⟩,O 52 (.iad 4 (.t 39) (.t 41)),⟨none,(.store 4 (.t 52) (.t 50)),none⟩] [⟨8,(.agg [.i .i64,.i .i64,.i .i64,.i .i64]),0⟩,⟨9,(.agg [.i .i64,.i .i64,.i .i64,.i .i64]),0⟩,⟨12,(.agg [.i .i64,.i .i64,.i .i64,.i .i64]),0⟩,⟨13,(.agg [.i .i64,.i .i64,.i .i64,.i .i64]),0⟩,⟨14,(.agg [.i .i64,.i .i64,.i .i64,.i .i64]),0⟩,⟨15,(.agg [.i .i64,.i .i64,.i .i64,.i .i64]),0⟩,⟨16,(.agg [.i .i64,.i .i64,.i .i64,.i .i64]),0⟩,⟨17,(.agg [.i .i64,.i .i64,.i .i64,.i .i64]),0⟩] [(0,1),(0,2),(1,2),(0,3),(1,3),(2,3),(0,4),(1,4),(2,4),(0,5),(1,5),(2,5),(3,5),(4,5),(0,6),(1,6),(2,6),(3,6),(4,6),(5,6),(0,7),(1,7),(2,7),(3,7),(4,7),(5,7),(0,8),(1,8),(2,8),(3,8),(4,8),(0,9),(1,9),(2,9),(3,9),(4,9),(0,10),(1,10),(2,10),(3,10),(4,10),(5,10),(6,10),(7,10),(8,10),(9,10),(0,11),(1,11),(2,11),(3,11),(4,11),(5,11),(6,11),(7,11),(8,11),(9,11),(10,11),(0,12),(1,12),(2,12),(3,12),(4,12),(5,12),(6,12),(7,12),(8,12),(9,12),(0,13),(1,13),(2,13),(3,13),(4,13),(5,13),(6,13),(7,13),(8,13),(9,13),(2,14),(3,14),(4,14),(2,15),(3,15),(4,15)] [34,37,38,39,40,41,42,43,44,45,46,47,48,49,50,51,52])) (oQ [M 35 9,O 36 (.bin .sub (.t 35) (I 1)),M 9 36] [35,36])))
def yIf:TCode:=(.seq (.seq (oQ [M 12 8,M 13 2,oX 14 .lss 12 13] [12,13]) (.cond (.t 14) .skip (.exit 0))) (.seq (.block 1 (.seq (oQ [M 17 8,M 9 17] [14,17]) (.block 2 (.loop 53122800 yIe)))) (oQ [M 15 8,O 16 (.bin .add (.t 15) (I 1)),M 8 16] [9,15,16,34])))
def yrD:TFn:=⟨4,[],(.seq (oQ [M 10 1,O 11 (.bin .add (.t 10) (I 1)),M 8 11] [10,11]) (.block 0 (.loop 53122801 yIf)))⟩
def yIg:TCode:=(.block 1 (.seq (oQ [M 21 2,M 22 1,oX 23 .sub 21 22,M 12 23] [21,22,23]) (.seq (.seq (oQ [M 24 12,O 25 (.bin .leq (.t 24) (I 12))] [24]) (.cond (.t 25) (.seq (oQ [M 26 0,M 27 1,M 28 2,M 29 4,O 30 (.call (.f ydp) [(.t 26),(.t 27),(.t 28),(.t 29)])] [0,1,2,3,4,10,11,12,25,26,27,28,29,30]) .ret) .skip)) (.seq (.seq (oQ [M 31 3,O 32 (.bin .eql (.t 31) (I 0))] [25,31]) (.cond (.t 32) (.seq (oQ [M 33 0,M 34 1,M 35 2,M 36 4,O 37 (.call (.f 210) [(.t 33),(.t 34),(.t 35),(.t 36)])] [0,1,2,3,4,10,11,12,32,33,34,35,36,37]) .ret) .skip)) (.seq (.seq (oQ [M 38 10,O 39 (.un .not (.t 38))] [32,38]) (.cond (.t 39) (.seq (oQ [M 40 0,M 41 1,M 42 2,M 43 4,O 44 (.call (.f 211) [(.t 40),(.t 41),(.t 42),(.t 43)])] [39,40,41,42,43,44]) (oQ [M 45 3,O 46 (.bin .sub (.t 45) (I 1)),M 3 46] [45,46])) .skip)) (.seq (oQ [M 48 0,M 49 1,M 50 2,M 51 4,O 52 (.call (.f 212) [(.t 48),(.t 49),(.t 50),(.t 51)]),M 47 52,O 53 (.ext (.t 47) 0),O 54 (.ext (.t 47) 1),M 13 53,M 14 54] [39,47,48,49,50,51,52,53,54]) (.seq (.seq (oQ [M 55 14,O 56 (.bin .eql (.t 55) (I 2))] [55]) (.cond (.t 56) (.seq (oQ [M 57 0,M 58 1,M 59 2,M 60 4,O 61 (.call (.f 213) [(.t 57),(.t 58),(.t 59),(.t 60)])] [14,56,57,58,59,60,61]) (.seq (oQ [M 62 2,O 63 (.bin .sub (.t 62) (I 1)),M 64 13,M 65 1,oX 66 .sub 64 65,oX 67 .sub 63 66,M 13 67] [62,63,64,65,66,67]) (oQ [O 14 (.mv (I 1))] []))) .skip)) (.seq (.seq (oQ [M 68 10,M 69 68,⟨some 70,(.mv (.t 11)),some (69,true)⟩,O 71 (.pick (.t 69) (.t 70) (.c (.bool false))),M 72 71,⟨some 73,(.mv (.t 14)),some (72,true)⟩,⟨some 74,(.bin .eql (.t 73) (I 1)),some (72,true)⟩,O 75 (.pick (.t 72) (.t 74) (.c (.bool false)))] [14,56,68,69,70,71,72,73,74]) (.cond (.t 75) (.seq (oQ [M 76 0,M 77 1,M 78 2,M 79 4,O 80 (.call (.f 214) [(.t 76),(.t 77),(.t 78),(.t 79)])] [75,76,77,78,79]) (.cond (.t 80) .ret .skip)) .skip)) (.seq (.seq (.ops [M 81 1,O 82 (.bin .gtr (.t 81) (I 0)),M 83 82,⟨some 84,(.mv (.t 4)),some (83,true)⟩,⟨some 85,(.mv (.t 0)),some (83,true)⟩,⟨some 86,(.mv (.t 1)),some (83,true)⟩,⟨some 87,(.bin .sub (.t 86) (I 1)),some (83,true)⟩,⟨some 88,(.iad 4 (.t 85) (.t 87)),some (83,true)⟩,⟨some 89,(.load true 4 (.t 88)),some (83,true)⟩,⟨some 90,(.mv (.t 0)),some (83,true)⟩,⟨some 91,(.mv (.t 13)),some (83,true)⟩,⟨some 92,(.iad 4 (.t 90) (.t 91)),some (83,true)⟩,⟨some 93,(.load true 4 (.t 92)),some (83,true)⟩,⟨some 94,(.call (.t 84) [(.t 89),(.t 93)]),some (83,true)⟩,⟨some 95,(.bin .lss (.t 94) (I 0)),some (83,true)⟩,⟨some 96,(.un .not (.t 95)),some (83,true)⟩,O 97 (.pick (.t 83) (.t 96) (.c (.bool false)))] [⟨7,(.agg [.i .i64,.i .i64,.i .i64,.i .i64]),0⟩,⟨8,(.agg [.i .i64,.i .i64,.i .i64,.i .i64]),0⟩,⟨11,(.agg [.i .i64,.i .i64,.i .i64,.i .i64]),0⟩,⟨12,(.agg [.i .i64,.i .i64,.i .i64,.i .i64]),0⟩] [(3,4),(3,5),(4,5),(3,6),(4,6),(3,7),(3,8),(3,9),(4,9),(5,9),(6,9),(7,9),(8,9),(3,10),(4,10),(5,10),(6,10),(7,10),(8,10),(9,10),(3,11),(4,11),(5,11),(6,11),(7,11),(8,11),(3,12),(4,12),(5,12),(6,12),(7,12),(8,12)] [75,80,81,82,83,84,85,86,87,88,89,90,91,92,93,94,95,96]) (.cond (.t 97) (.seq (oQ [M 98 0,M 99 1,M 100 2,M 101 13,M 102 4,O 103 (.call (.f 215) [(.t 98),(.t 99),(.t 100),(.t 101),(.t 102)]),M 15 103] [1,12,13,97,98,99,100,101,102,103]) (.seq (oQ [M 104 15,M 1 104] [15,104]) (.exit 1))) .skip)) (.seq (oQ [M 106 0,M 107 1,M 108 2,M 109 13,M 110 4,O 111 (.call (.f 216) [(.t 106),(.t 107),(.t 108),(.t 109),(.t 110)]),M 105 111,O 112 (.ext (.t 105) 0),O 113 (.ext (.t 105) 1),M 16 112,M 17 113] [10,11,13,97,105,106,107,108,109,110,111,112,113]) (.seq (oQ [M 114 17,M 11 114] [17,114]) (.seq (oQ [M 115 16,M 116 1,oX 117 .sub 115 116,M 118 2,M 119 16,oX 120 .sub 118 119,M 18 117,M 19 120] [115,116,117,118,119,120]) (.seq (oQ [M 121 12,O 122 (.bin .quo (.t 121) (I 8)),M 20 122] [12,121,122]) (.seq (oQ [M 123 18,M 124 19,oX 125 .lss 123 124] [123,124]) (.cond (.t 125) (.seq (oQ [M 126 18,M 127 20,oX 128 .geq 126 127,M 10 128] [18,19,20,125,126,127,128]) (.seq (oQ [M 129 0,M 130 1,M 131 16,M 132 3,M 133 4,O 134 (.call (.f ybQ) [(.t 129),(.t 130),(.t 131),(.t 132),(.t 133)])] [1,129,130,131,132,133,134]) (oQ [M 135 16,O 136 (.bin .add (.t 135) (I 1)),M 1 136] [16,135,136]))) (.seq (oQ [M 137 19,M 138 20,oX 139 .geq 137 138,M 10 139] [18,19,20,125,137,138,139]) (.seq (oQ [M 140 0,M 141 16,O 142 (.bin .add (.t 141) (I 1)),M 143 2,M 144 3,M 145 4,O 146 (.call (.f ybQ) [(.t 140),(.t 142),(.t 143),(.t 144),(.t 145)])] [2,140,141,142,143,144,145,146]) (oQ [M 147 16,M 2 147] [16,147]))))))))))))))))))
def yvJ:TFn:=⟨5,[],(.seq (oQ [O 10 (.mv (.c (.bool true)))] []) (.seq (oQ [O 11 (.mv (.c (.bool true)))] []) (.block 0 (.loop 92709400 yIg))))⟩
def yxp:TFn:=⟨2,[],(.seq (oQ [M 5 0,O 6 (.len (.t 5)),M 4 6] [5,6]) (oQ [M 7 0,M 8 4,M 9 4,O 10 (.conv .u64 (.t 9)),O 11 (.call (.f yD1) [(.t 10)]),M 12 1,O 13 (.call (.f ybQ) [(.t 7),(I 0),(.t 8),(.t 11),(.t 12)])] [0,1,4,7,8,9,10,11,12,13]))⟩
def ytc:TFn:=⟨2,[.tmp 4],(.seq (oQ [O 2 (.boxL (.t 0)),O 3 (.boxL (.t 1)),O 4 (.mv (I 0))] [0,1,4]) (.seq (.ops [O 8 (.fad 0 (.t 2)),oT 9 2 8,O 10 (.fad 0 (.t 3)),oT 11 2 10,O 12 (.call (.f ycA) [(.t 9),(.t 11)]),M 7 12,O 13 (.ext (.t 7) 0),O 14 (.ext (.t 7) 1),M 5 13,M 6 14] [⟨1,(.agg [.i .i64,.i .i64,.i .i64,.i .i64]),0⟩,⟨3,(.agg [.i .i64,.i .i64,.i .i64,.i .i64]),0⟩] [] [2,3,6,7,8,9,10,11,12,13,14]) (.seq (oQ [M 15 5,M 4 15] [5,15]) .ret)))⟩
end Go.Pf.Vc
namespace Go.Pf.Vc
open Go Go.Pf
def ykh:TCode:=(.seq (oQ [oX 18 .lss 17 16] []) (.seq (.cond (.t 18) .skip (.exit 0)) (.seq (.block 1 (.seq (.ops [O 19 (.iad 4 (.t 15) (.t 17)),oT 20 4 19,O 6 (.allocL (.agg [(.int .i64 (0)),(.int .i64 (0)),(.int .i64 (0)),(.int .i64 (0))])),⟨none,(.store 4 (.t 6) (.t 20)),none⟩] [⟨0,(.agg [.i .i64,.i .i64,.i .i64,.i .i64]),0⟩,⟨1,(.agg [.i .i64,.i .i64,.i .i64,.i .i64]),0⟩] [] [18,19,20]) (.seq (.seq (.ops [oT 21 2 4,O 22 (.fad 0 (.t 6)),oT 23 2 22,O 24 (.call (.f ybi) [(.t 21),(.t 23)])] [⟨2,(.agg [.i .i64,.i .i64,.i .i64,.i .i64]),0⟩] [] [21,22,23]) (.cond (.t 24) (.seq (oQ [O 2 (.mv (.c (.bool true)))] [0,4,6,15,16,17,24]) .ret) .skip)) (.seq (.ops [oT 25 2 4,O 26 (.fad 2 (.t 6)),oT 27 2 26,O 28 (.call (.f ybi) [(.t 25),(.t 27)])] [⟨2,(.agg [.i .i64,.i .i64,.i .i64,.i .i64]),0⟩] [] [24,25,26,27]) (.cond (.t 28) (.ops [O 29 (.fad 2 (.t 6)),oT 30 2 29,⟨none,(.store 2 (.t 4) (.t 30)),none⟩] [⟨1,(.agg [.i .i64,.i .i64,.i .i64,.i .i64]),0⟩] [] [6,28,29,30]) .skip))))) (oQ [O 31 (.bin .add (.t 17) (I 1)),M 17 31] [6,28,31]))))
def yvK:TFn:=⟨1,[.tmp 2],(.seq (oQ [O 2 (.mv (.c (.bool false)))] [2]) (.seq (oQ [M 7 0,O 8 (.nilchk (.t 7)),O 9 (.fad 1 (.t 8)),oF 10 1 9,O 11 (.call (.f ydJ) [(.t 10)]),M 3 11] [7,8,9,10,11]) (.seq (oQ [M 12 3,O 13 (.call (.f ybe) [(.t 12),(.f ych)])] [12,13]) (.seq (oQ [O 14 (.call (.f ybx) [(I 0)]),O 4 (.allocL (.agg [(.int .i64 (0)),(.int .i64 (0))])),⟨none,(.store 2 (.t 4) (.t 14)),none⟩] [14]) (.seq (.seq (oQ [M 15 3,O 16 (.len (.t 15)),O 17 (.mv (I 0))] [3]) (.block 0 (.loop 93107500 ykh))) (.seq (.ops [oT 32 2 4,M 33 0,O 34 (.nilchk (.t 33)),O 35 (.fad 0 (.t 34)),oF 36 1 35,O 37 (.iad 3 (.t 36) (I 0)),O 38 (.fad 0 (.t 37)),oF 39 1 38,O 40 (.call (.f ybx) [(.t 39)]),O 41 (.call (.f ybi) [(.t 32),(.t 40)]),M 2 41] [⟨5,(.agg [.i .i64,.d,.d]),0⟩,⟨7,(.agg [.i .i64,.d,.d]),0⟩] [(0,1),(0,2),(0,3),(0,4),(0,5),(0,6),(0,7),(0,8)] [0,4,15,16,17,18,32,33,34,35,36,37,38,39,40,41]) .ret))))))⟩
def yEb:TFn:=⟨2,[.cell 4 true 2,.tmp 5],(.seq (oQ [O 4 (.allocL (.agg [(.int .i64 (0)),(.int .i64 (0))])),O 5 (.mv (I 0))] [5]) (.seq (.seq (oQ [M 9 1,O 10 (.bin .eql (.t 9) (I 0))] [9]) (.cond (.t 10) (.seq (oQ [O 11 (.build [(.int .i64 (0)),(.int .i64 (0))] []),⟨none,(.store 2 (.t 4) (.t 11)),none⟩,O 5 (.mv (I 18))] [0,1,10,11]) .ret) .skip)) (.seq (oQ [M 12 0,O 13 (.call (.f ybh) [(.t 12)]),M 14 1,O 15 (.call (.f ybh) [(.t 14)]),M 6 13,M 7 15] [10,12,13,14,15]) (.seq (oQ [M 16 6,M 17 7,O 18 (.call (.f ycy) [(.t 16),(.t 17)]),M 8 18] [16,17,18]) (.seq (.ops [M 19 0,O 20 (.bin .lss (.t 19) (I 0)),M 21 1,O 22 (.bin .lss (.t 21) (I 0)),O 23 (.eqB true (.t 20) (.t 22)),M 24 6,M 25 8,oX 26 .quo 24 25,M 27 7,M 28 8,oX 29 .quo 27 28,O 30 (.call (.f ycP) [(.t 23),(.t 26),(.t 29)]),O 31 (.ext (.t 30) 0),O 32 (.ext (.t 30) 1),⟨none,(.store 2 (.t 4) (.t 31)),none⟩,M 5 32] [] [(0,2),(1,2),(0,3),(1,3),(0,5),(1,5),(2,5),(3,5),(4,5),(0,6),(1,6),(2,6),(3,6),(4,6),(5,6),(0,7),(1,7),(2,7),(3,7),(4,7),(0,8),(1,8),(2,8),(3,8),(4,8),(5,8),(6,8),(7,8),(0,9),(1,9),(2,9),(3,9),(4,9),(5,9),(6,9),(7,9),(8,9),(0,10),(1,10),(2,10),(3,10),(4,10),(5,10),(6,10),(7,10),(12,13)] [0,1,6,7,8,19,20,21,22,23,24,25,26,27,28,29,30,31,32]) .ret)))))⟩
def yjb:TFn:=⟨3,[.tmp 5],(.seq (oQ [O 5 (.mv (.c (.bool false)))] [5]) (.seq (.ops [oF 11 1 2,O 12 (.nilchk (.t 11)),O 13 (.fad 0 (.t 12)),oF 14 1 13,M 15 0,O 16 (.iad 3 (.t 14) (.t 15)),oT 17 3 16,O 18 (.call (.f ycQ) [(.t 17)]),M 10 18,O 19 (.ext (.t 10) 0),O 20 (.ext (.t 10) 1),M 6 19,M 7 20] [⟨3,(.agg [.d,.d,.d,.d]),0⟩,⟨5,(.agg [.i .i64,.d,.d]),0⟩,⟨6,(.agg [.i .i64,.d,.d]),0⟩] [] [7,10,11,12,13,14,15,16,17,18,19,20]) (.seq (.ops [M 22 6,oF 23 1 2,O 24 (.nilchk (.t 23)),O 25 (.fad 0 (.t 24)),oF 26 1 25,O 27 (.len (.t 26)),O 28 (.call (.f yhp) [(.t 22),(.t 27)]),M 21 28,O 29 (.ext (.t 21) 0),O 30 (.ext (.t 21) 1),O 8 (.allocL (.agg [(.int .i64 (0)),(.int .i64 (0))])),⟨none,(.store 2 (.t 8) (.t 29)),none⟩,M 9 30] [⟨4,(.agg [.d,.d,.d,.d]),0⟩] [] [6,9,21,22,23,24,25,26,27,28,29,30]) (.seq (.ops [M 31 0,M 32 1,oX 33 .eql 31 32,M 34 33,⟨some 35,(.load false 1 (.t 2)),some (34,true)⟩,⟨some 36,(.nilchk (.t 35)),some (34,true)⟩,⟨some 37,(.fad 2 (.t 36)),some (34,true)⟩,⟨some 38,(.load false 1 (.t 37)),some (34,true)⟩,⟨some 39,(.mv (.t 0)),some (34,true)⟩,⟨some 40,(.iad 1 (.t 38) (.t 39)),some (34,true)⟩,⟨some 41,(.load false 1 (.t 40)),some (34,true)⟩,⟨some 42,(.mv (.t 0)),some (34,true)⟩,⟨some 43,(.iad 2 (.t 41) (.t 42)),some (34,true)⟩,⟨some 44,(.load true 2 (.t 43)),some (34,true)⟩,⟨some 45,(.load true 2 (.t 8)),some (34,true)⟩,⟨some 46,(.call (.f ybi) [(.t 44),(.t 45)]),some (34,true)⟩,O 47 (.pick (.t 34) (.t 46) (.c (.bool false))),M 5 47] [⟨7,(.agg [.d,.d,.d,.d]),0⟩,⟨9,(.one (.d)),0⟩,⟨10,(.one (.d)),0⟩,⟨12,(.agg [.i .i64,.i .i64]),0⟩,⟨13,(.agg [.i .i64,.i .i64]),0⟩] [(0,1),(4,8),(5,8),(6,8),(7,8),(4,11),(5,11),(6,11),(7,11),(8,11),(9,11),(10,11),(4,14),(5,14),(6,14),(7,14),(8,14),(9,14),(10,14),(11,14),(12,14),(13,14)] [0,1,2,8,31,32,33,34,35,36,37,38,39,40,41,42,43,44,45,46,47]) .ret))))⟩
def yjc:TFn:=⟨3,[.tmp 5],(.seq (oQ [O 5 (.mv (.c (.bool false)))] [5]) (.seq (.ops [oF 6 1 2,O 7 (.nilchk (.t 6)),O 8 (.fad 2 (.t 7)),oF 9 1 8,M 10 0,O 11 (.iad 1 (.t 9) (.t 10)),oF 12 1 11,M 13 0,O 14 (.iad 2 (.t 12) (.t 13)),oT 15 2 14,oF 16 1 2,O 17 (.nilchk (.t 16)),O 18 (.fad 2 (.t 17)),oF 19 1 18,M 20 0,O 21 (.iad 1 (.t 19) (.t 20)),oF 22 1 21,M 23 1,O 24 (.iad 2 (.t 22) (.t 23)),oT 25 2 24,O 26 (.call (.f ybi) [(.t 15),(.t 25)]),M 5 26] [⟨3,(.agg [.d,.d,.d,.d]),0⟩,⟨5,(.one (.d)),0⟩,⟨6,(.one (.d)),0⟩,⟨8,(.agg [.i .i64,.i .i64]),0⟩,⟨9,(.agg [.i .i64,.i .i64]),0⟩,⟨13,(.agg [.d,.d,.d,.d]),0⟩,⟨15,(.one (.d)),0⟩,⟨16,(.one (.d)),0⟩,⟨18,(.agg [.i .i64,.i .i64]),0⟩,⟨19,(.agg [.i .i64,.i .i64]),0⟩] [(0,4),(1,4),(2,4),(3,4),(0,7),(1,7),(2,7),(3,7),(4,7),(5,7),(6,7),(0,10),(1,10),(2,10),(3,10),(4,10),(5,10),(6,10),(7,10),(8,10),(9,10),(0,11),(1,11),(2,11),(3,11),(4,11),(5,11),(6,11),(7,11),(8,11),(9,11),(0,12),(1,12),(2,12),(3,12),(4,12),(5,12),(6,12),(7,12),(8,12),(9,12),(0,13),(1,13),(2,13),(3,13),(4,13),(5,13),(6,13),(7,13),(8,13),(9,13),(0,14),(1,14),(2,14),(3,14),(4,14),(5,14),(6,14),(7,14),(8,14),(9,14),(10,14),(11,14),(12,14),(13,14),(0,15),(1,15),(2,15),(3,15),(4,15),(5,15),(6,15),(7,15),(8,15),(9,15),(0,16),(1,16),(2,16),(3,16),(4,16),(5,16),(6,16),(7,16),(8,16),(9,16),(0,17),(1,17),(2,17),(3,17),(4,17),(5,17),(6,17),(7,17),(8,17),(9,17),(10,17),(11,17),(12,17),(13,17),(14,17),(15,17),(16,17),(0,18),(1,18),(2,18),(3,18),(4,18),(5,18),(6,18),(7,18),(8,18),(9,18),(0,19),(1,19),(2,19),(3,19),(4,19),(5,19),(6,19),(7,19),(8,19),(9,19)] [0,1,2,6,7,8,9,10,11,12,13,14,15,16,17,18,19,20,21,22,23,24,25,26]) .ret))⟩
def yjd:TFn:=⟨3,[.tmp 5],(.seq (oQ [O 5 (.mv (.c (.bool false)))] [5]) (.seq (.ops [M 6 1,O 7 (.bin .eql (.t 6) (I 0)),M 8 7,⟨some 9,(.load false 1 (.t 2)),some (8,true)⟩,⟨some 10,(.nilchk (.t 9)),some (8,true)⟩,⟨some 11,(.fad 3 (.t 10)),some (8,true)⟩,⟨some 12,(.load false 1 (.t 11)),some (8,true)⟩,⟨some 13,(.mv (.t 0)),some (8,true)⟩,⟨some 14,(.iad 2 (.t 12) (.t 13)),some (8,true)⟩,⟨some 15,(.load true 2 (.t 14)),some (8,true)⟩,⟨some 16,(.load false 1 (.t 2)),some (8,true)⟩,⟨some 17,(.nilchk (.t 16)),some (8,true)⟩,⟨some 18,(.fad 3 (.t 17)),some (8,true)⟩,⟨some 19,(.load false 1 (.t 18)),some (8,true)⟩,⟨some 20,(.iad 2 (.t 19) (I 0)),some (8,true)⟩,⟨some 21,(.load true 2 (.t 20)),some (8,true)⟩,⟨some 22,(.eqA true 2 [(0,(some .i64)),(1,(some .i64))] (.t 15) (.t 21)),some (8,true)⟩,O 23 (.pick (.t 8) (.t 22) (.c (.bool false))),M 5 23] [⟨6,(.agg [.d,.d,.d,.d]),0⟩,⟨8,(.agg [.i .i64,.i .i64]),0⟩,⟨9,(.agg [.i .i64,.i .i64]),0⟩,⟨13,(.agg [.d,.d,.d,.d]),0⟩,⟨14,(.agg [.i .i64,.i .i64]),0⟩,⟨15,(.agg [.i .i64,.i .i64]),0⟩] [(3,7),(4,7),(5,7),(6,7),(3,10),(4,10),(5,10),(6,10),(7,10),(8,10),(9,10),(3,11),(4,11),(5,11),(6,11),(7,11),(8,11),(9,11),(3,12),(4,12),(5,12),(6,12),(7,12),(8,12),(9,12),(3,13),(4,13),(5,13),(6,13),(7,13),(8,13),(9,13),(3,14),(4,14),(5,14),(6,14),(7,14),(8,14),(9,14),(3,15),(4,15),(5,15),(6,15),(7,15),(8,15),(9,15)] [0,1,2,6,7,8,9,10,11,12,13,14,15,16,17,18,19,20,21,22,23]) .ret))⟩
def yje:TFn:=⟨3,[.tmp 5],(.seq (oQ [O 5 (.mv (.c (.bool false)))] [5]) (.seq (.ops [M 6 0,M 7 1,oX 8 .eql 6 7,M 9 8,⟨some 10,(.load false 1 (.t 2)),some (9,true)⟩,⟨some 11,(.nilchk (.t 10)),some (9,true)⟩,⟨some 12,(.fad 1 (.t 11)),some (9,true)⟩,⟨some 13,(.load false 1 (.t 12)),some (9,true)⟩,⟨some 14,(.mv (.t 0)),some (9,true)⟩,⟨some 15,(.iad 1 (.t 13) (.t 14)),some (9,true)⟩,⟨some 16,(.load false 1 (.t 15)),some (9,true)⟩,⟨some 17,(.len (.t 16)),some (9,true)⟩,⟨some 18,(.bin .neq (.t 17) (I 1)),some (9,true)⟩,O 19 (.pick (.t 9) (.t 18) (.c (.bool false))),M 5 19] [⟨7,(.agg [.d,.d,.d,.d]),0⟩,⟨9,(.one (.d)),0⟩,⟨10,(.one (.d)),0⟩] [] [0,1,2,6,7,8,9,10,11,12,13,14,15,16,17,18,19]) .ret))⟩
def yrE:TFn:=⟨2,[.tmp 4,.tmp 5,.tmp 6],(.seq (oQ [O 2 (.boxH false 1 (.t 0)),O 4 (.mv (I 0)),O 5 (.mv (I 0)),O 6 (.mv (.c (.bool false)))] [0,4,5,6]) (.seq (.seq (oQ [M 10 1] [1]) (.block 0 (.seq (oQ [O 12 (.bin .eql (.t 10) (.c (.int .u8 (1)))),M 11 12] [12]) (.cond (.t 11) (.seq (oQ [oF 14 1 2,O 15 (.mkFn (.func ya2) [] [(.t 2)]),O 16 (.call (.f ycg) [(.t 14),(.t 15)]),M 13 16,O 17 (.ext (.t 13) 0),O 18 (.ext (.t 13) 1),O 19 (.ext (.t 13) 2),M 7 17,M 8 18,M 9 19] [10,11,13,14,15,16,17,18,19]) (.seq (.seq (oQ [M 20 9,O 21 (.un .not (.t 20)),M 22 21,⟨some 23,(.load false 1 (.t 2)),some (22,true)⟩,⟨some 24,(.call (.f ycT) [(.t 23)]),some (22,true)⟩,O 25 (.pick (.t 22) (.t 24) (.c (.bool false)))] [2,20,21,22,23,24]) (.cond (.t 25) (.seq (oQ [O 4 (.mv (I (-1))),O 5 (.mv (I (-1))),O 6 (.mv (.c (.bool true)))] [7,8,9,25]) .ret) .skip)) (.seq (oQ [M 26 7,M 27 8,M 28 9,M 4 26,M 5 27,M 6 28] [7,8,9,25,26,27,28]) .ret))) (.seq (oQ [O 30 (.bin .eql (.t 10) (.c (.int .u8 (2)))),M 29 30] [11,30]) (.cond (.t 29) (.seq (oQ [oF 31 1 2,O 32 (.mkFn (.func ya3) [] [(.t 2)]),O 33 (.call (.f ycg) [(.t 31),(.t 32)]),O 34 (.ext (.t 33) 0),O 35 (.ext (.t 33) 1),O 36 (.ext (.t 33) 2),M 4 34,M 5 35,M 6 36] [2,10,29,31,32,33,34,35,36]) .ret) (.seq (oQ [O 38 (.bin .eql (.t 10) (.c (.int .u8 (4)))),M 37 38] [29,38]) (.cond (.t 37) (.seq (oQ [oF 39 1 2,O 40 (.mkFn (.func ya4) [] [(.t 2)]),O 41 (.call (.f ycg) [(.t 39),(.t 40)]),O 42 (.ext (.t 41) 0),O 43 (.ext (.t 41) 1),O 44 (.ext (.t 41) 2),M 4 42,M 5 43,M 6 44] [2,10,37,39,40,41,42,43,44]) .ret) (.seq (oQ [O 46 (.bin .eql (.t 10) (.c (.int .u8 (8)))),M 45 46] [10,37,46]) (.cond (.t 45) (.seq (oQ [oF 47 1 2,O 48 (.mkFn (.func ya5) [] [(.t 2)]),O 49 (.call (.f ycg) [(.t 47),(.t 48)]),O 50 (.ext (.t 49) 0),O 51 (.ext (.t 49) 1),O 52 (.ext (.t 49) 2),M 4 50,M 5 51,M 6 52] [2,45,47,48,49,50,51,52]) .ret) .skip)))))))))) (.seq (oQ [oF 53 1 2,O 54 (.mkFn (.func ya6) [] [(.t 2)]),O 55 (.call (.f ycg) [(.t 53),(.t 54)]),O 56 (.ext (.t 55) 0),O 57 (.ext (.t 55) 1),O 58 (.ext (.t 55) 2),M 4 56,M 5 57,M 6 58] [2,45,53,54,55,56,57,58]) .ret)))⟩
def yki:TCode:=(.seq (oQ [O 33 (.bin .lss (.t 32) (I 5))] []) (.seq (.cond (.t 33) .skip (.exit 0)) (.seq (.block 1 (.seq (oQ [M 34 32,M 9 34] [33,34]) (.seq (oQ [M 36 6,M 37 9,O 38 (.bin .shl (.c (.int .u8 (1))) (.t 37)),O 39 (.call (.f ybb) [(.t 36),(.t 38)]),M 35 39,O 40 (.ext (.t 35) 0),O 41 (.ext (.t 35) 1),O 42 (.ext (.t 35) 2),M 10 40,M 11 41,M 12 42] [10,11,35,36,37,38,39,40,41,42]) (.seq (oQ [M 43 12,O 44 (.un .not (.t 43))] [12,43]) (.cond (.t 44) (.ops [O 45 (.fad 0 (.t 8)),oF 46 1 45,M 47 9,O 48 (.bin .shl (.c (.int .u8 (1))) (.t 47)),oX 49 .or 46 48,O 50 (.fad 0 (.t 8)),⟨none,(.store 1 (.t 50) (.t 49)),none⟩] [⟨1,(.agg [.i .u8,.d]),0⟩,⟨6,(.agg [.i .u8,.d]),0⟩] [(0,2),(1,2),(0,3),(1,3)] [9,44,45,46,47,48,49,50]) .skip))))) (oQ [O 51 (.bin .add (.t 32) (I 1)),M 32 51] [9,44,51]))))
def yEc:TFn:=⟨2,[.cell 4 true 2,.tmp 5],(.seq (oQ [O 3 (.boxL (.t 1)),O 4 (.allocL (.agg [(.int .u8 (0)),.nils])),O 5 (.mv (I 0))] [1,5]) (.seq (oQ [M 14 0,oT 15 1 3,O 16 (.call (.f ydg) [(.t 14),(.t 15)]),M 13 16,O 17 (.ext (.t 13) 0),O 18 (.ext (.t 13) 1),M 6 17,M 7 18] [0,3,13,14,15,16,17,18]) (.seq (.seq (oQ [M 19 7,O 20 (.bin .eql (.t 19) (I 0))] [19]) (.cond (.t 20) (oQ [M 21 6,O 22 (.call (.f yej) [(.t 21)]),M 7 22] [20,21,22]) .skip)) (.seq (.seq (oQ [M 23 7,O 24 (.bin .neq (.t 23) (I 0))] [20,23]) (.cond (.t 24) (.seq (oQ [O 25 (.build [(.int .u8 (0)),.nils] []),M 26 7,⟨none,(.store 2 (.t 4) (.t 25)),none⟩,M 5 26] [6,7,24,25,26]) .ret) .skip)) (.seq (oQ [M 27 6,O 28 (.nilchk (.t 27)),O 29 (.fad 2 (.t 28)),oF 30 1 29,O 31 (.build [(.int .u8 (0)),.nils] [(1,1,(.t 30))]),O 8 (.allocL (.agg [(.int .u8 (0)),.nils])),⟨none,(.store 2 (.t 8) (.t 31)),none⟩] [7,24,27,28,29,30,31]) (.seq (.seq (oQ [O 32 (.mv (I 0))] []) (.block 0 (.loop 65264200 yki))) (.seq (oQ [oT 52 2 8,⟨none,(.store 2 (.t 4) (.t 52)),none⟩,O 5 (.mv (I 0))] [6,8,32,33,52]) .ret)))))))⟩
def ykj:TCode:=(.seq (.seq (.ops [M 29 6,M 30 0,M 31 5,O 32 (.iad 1 (.t 30) (.t 31)),oF 33 1 32,O 34 (.len (.t 33)),oX 35 .lss 29 34] [⟨3,(.one (.d)),0⟩,⟨4,(.one (.d)),0⟩] [] [29,30,31,32,33,34]) (.cond (.t 35) .skip (.exit 2))) (.seq (.block 3 (.seq (.ops [M 38 0,M 39 5,O 40 (.iad 1 (.t 38) (.t 39)),oF 41 1 40,M 42 6,O 43 (.iad 2 (.t 41) (.t 42)),oT 44 2 43,M 45 1,M 46 5,O 47 (.iad 1 (.t 45) (.t 46)),oF 48 1 47,M 49 6,O 50 (.iad 2 (.t 48) (.t 49)),oT 51 2 50,O 52 (.eqA true 2 [(0,(some .i64)),(1,(some .i64))] (.t 44) (.t 51))] [⟨2,(.one (.d)),0⟩,⟨3,(.one (.d)),0⟩,⟨5,(.agg [.i .i64,.i .i64]),0⟩,⟨6,(.agg [.i .i64,.i .i64]),0⟩,⟨9,(.one (.d)),0⟩,⟨10,(.one (.d)),0⟩,⟨12,(.agg [.i .i64,.i .i64]),0⟩,⟨13,(.agg [.i .i64,.i .i64]),0⟩] [(0,1),(0,4),(1,4),(2,4),(3,4),(0,7),(1,7),(2,7),(3,7),(4,7),(5,7),(6,7),(0,8),(1,8),(2,8),(3,8),(4,8),(5,8),(6,8),(7,8),(0,9),(1,9),(2,9),(3,9),(4,9),(5,9),(6,9),(0,10),(1,10),(2,10),(3,10),(4,10),(5,10),(6,10),(0,11),(1,11),(2,11),(3,11),(4,11),(5,11),(6,11),(7,11),(8,11),(9,11),(10,11),(0,12),(1,12),(2,12),(3,12),(4,12),(5,12),(6,12),(0,13),(1,13),(2,13),(3,13),(4,13),(5,13),(6,13)] [35,38,39,40,41,42,43,44,45,46,47,48,49,50,51]) (.cond (.t 52) (.seq (oQ [O 4 (.mv (.c (.bool false)))] [0,1,5,6,52]) .ret) .skip))) (oQ [M 36 6,O 37 (.bin .add (.t 36) (I 1)),M 6 37] [36,37,52])))
def yns:TCode:=(.seq (.seq (oQ [M 12 5,M 13 0,O 14 (.len (.t 13)),oX 15 .lss 12 14] [12,13,14]) (.cond (.t 15) .skip (.exit 0))) (.seq (.block 1 (.seq (.seq (.ops [M 18 0,M 19 5,O 20 (.iad 1 (.t 18) (.t 19)),oF 21 1 20,O 22 (.len (.t 21)),M 23 1,M 24 5,O 25 (.iad 1 (.t 23) (.t 24)),oF 26 1 25,O 27 (.len (.t 26)),oX 28 .neq 22 27] [⟨2,(.one (.d)),0⟩,⟨3,(.one (.d)),0⟩,⟨7,(.one (.d)),0⟩,⟨8,(.one (.d)),0⟩] [(0,1),(0,5),(1,5),(2,5),(3,5),(4,5),(0,6),(1,6),(2,6),(3,6),(4,6),(5,6),(0,7),(1,7),(2,7),(3,7),(4,7),(0,8),(1,8),(2,8),(3,8),(4,8),(0,9),(1,9),(2,9),(3,9),(4,9)] [15,18,19,20,21,22,23,24,25,26,27]) (.cond (.t 28) (.seq (oQ [O 4 (.mv (.c (.bool false)))] [0,1,5,28]) .ret) .skip)) (.seq (oQ [O 6 (.mv (I 0))] [28]) (.block 2 (.loop 72981700 ykj))))) (oQ [M 16 5,O 17 (.bin .add (.t 16) (I 1)),M 5 17] [6,16,17,35])))
def yyP:TFn:=⟨2,[.tmp 4],(.seq (oQ [O 4 (.mv (.c (.bool false)))] [4]) (.seq (.seq (oQ [M 7 0,O 8 (.len (.t 7)),M 9 1,O 10 (.len (.t 9)),oX 11 .neq 8 10] [7,8,9,10]) (.cond (.t 11) (.seq (oQ [O 4 (.mv (.c (.bool false)))] [0,1,11]) .ret) .skip)) (.seq (.seq (oQ [O 5 (.mv (I 0))] [11]) (.block 0 (.loop 72981701 yns))) (.seq (oQ [O 4 (.mv (.c (.bool true)))] [0,1,5,15]) .ret))))⟩
def yBK:TFn:=⟨3,[.tmp 6,.tmp 7,.tmp 8,.tmp 9],(.seq (oQ [O 4 (.boxL (.t 1)),O 6 (.mv (I 0)),O 7 (.mv (I 0)),O 8 (.mv (.c (.bool false))),O 9 (.mv (I 0))] [1,6,7,8,9]) (.seq (.seq (oQ [M 13 0,oT 14 1 4,O 15 (.call (.f ycq) [(.t 13),(.t 14)]),M 10 15] [13,14,15]) (.seq (oQ [M 16 10,O 17 (.bin .neq (.t 16) (I 0))] [16]) (.cond (.t 17) (.seq (oQ [M 18 10,O 6 (.mv (I 0)),O 7 (.mv (I 0)),O 8 (.mv (.c (.bool false))),M 9 18] [0,2,4,10,17,18]) .ret) .skip))) (.seq (oQ [O 11 (.mv (.c (.bool false)))] [10,17]) (.seq (.seq (oQ [M 19 2] []) (.block 0 (.seq (.block 3 (.seq (.block 2 (.seq (.block 1 (.seq (.seq (.seq (oQ [O 21 (.bin .eql (.t 19) (.c (.int .u8 (8)))),M 20 21] [21]) (.cond (.t 20) (.exit 1) .skip)) (.seq (.seq (oQ [O 23 (.bin .eql (.t 19) (.c (.int .u8 (1)))),M 22 23] [20,23]) (.cond (.t 22) .skip (.seq (oQ [O 24 (.bin .eql (.t 19) (.c (.int .u8 (2)))),M 22 24] [24]) (.cond (.t 22) .skip (.seq (oQ [O 25 (.bin .eql (.t 19) (.c (.int .u8 (4)))),M 22 25] [25]) (.cond (.t 22) .skip (oQ [O 26 (.bin .eql (.t 19) (.c (.int .u8 (16)))),M 22 26] [19,26]))))))) (.cond (.t 22) (.exit 2) .skip))) (.exit 3))) (oQ [O 11 (.mv (.c (.bool true)))] [19,20]))) (.exit 0))) (.seq (.seq (oQ [O 6 (.mv (I 0)),O 7 (.mv (I 0)),O 8 (.mv (.c (.bool false))),O 9 (.mv (I 2))] [0,2,4,11,19,22]) .ret) (.exit 0))))) (.seq (oQ [M 28 0,oT 29 1 4,O 30 (.call (.f ydg) [(.t 28),(.t 29)]),M 27 30,O 31 (.ext (.t 27) 0),O 32 (.ext (.t 27) 1),M 12 31,M 9 32] [0,4,19,22,27,28,29,30,31,32]) (.seq (.seq (oQ [M 33 9,O 34 (.bin .eql (.t 33) (I 0)),M 35 34,⟨some 36,(.mv (.t 11)),some (35,true)⟩,O 37 (.pick (.t 35) (.t 36) (.c (.bool false)))] [11,33,34,35,36]) (.cond (.t 37) (oQ [M 38 12,O 39 (.call (.f yej) [(.t 38)]),M 9 39] [37,38,39]) .skip)) (.seq (.seq (oQ [M 40 9,O 41 (.bin .neq (.t 40) (I 0))] [37,40]) (.cond (.t 41) (.seq (oQ [M 42 9,O 6 (.mv (I 0)),O 7 (.mv (I 0)),O 8 (.mv (.c (.bool false))),M 9 42] [2,12,41,42]) .ret) .skip)) (.seq (oQ [M 44 12,M 45 2,O 46 (.call (.f ybb) [(.t 44),(.t 45)]),M 43 46,O 47 (.ext (.t 43) 0),O 48 (.ext (.t 43) 1),O 49 (.ext (.t 43) 2),M 6 47,M 7 48,M 8 49] [2,9,12,41,43,44,45,46,47,48,49]) (.seq (oQ [M 50 6,M 51 7,M 52 8,M 6 50,M 7 51,M 8 52,O 9 (.mv (I 0))] [50,51,52]) .ret)))))))))⟩
def yyQ:TFn:=⟨3,[.tmp 6,.tmp 7,.tmp 8],(.seq (oQ [O 4 (.boxL (.t 1)),O 6 (.mv (I 0)),O 7 (.mv (I 0)),O 8 (.mv (I 0))] [1,6,7,8]) (.seq (oQ [M 11 0,oT 12 1 4,M 13 2,O 14 (.call (.f yeS) [(.t 11),(.t 12),(.t 13)]),M 10 14,O 15 (.ext (.t 10) 0),O 16 (.ext (.t 10) 1),O 17 (.ext (.t 10) 2),O 18 (.ext (.t 10) 3),M 6 15,M 7 16,M 9 17,M 8 18] [0,2,4,10,11,12,13,14,15,16,17,18]) (.seq (.seq (oQ [M 19 8,O 20 (.bin .eql (.t 19) (I 0)),M 21 20,⟨some 22,(.mv (.t 9)),some (21,true)⟩,⟨some 23,(.un .not (.t 22)),some (21,true)⟩,O 24 (.pick (.t 21) (.t 23) (.c (.bool false)))] [9,19,20,21,22,23]) (.cond (.t 24) (.seq (oQ [O 6 (.mv (I 0)),O 7 (.mv (I 0)),O 8 (.mv (I 6))] [24]) .ret) .skip)) (.seq (oQ [M 25 6,M 26 7,M 27 8,M 6 25,M 7 26,M 8 27] [24,25,26,27]) .ret))))⟩
def yBL:TFn:=⟨3,[.tmp 6,.tmp 7],(.seq (oQ [O 4 (.boxL (.t 1)),O 6 (.mv (.c (.bool false))),O 7 (.mv (I 0))] [1,6,7]) (.seq (oQ [M 13 0,oT 14 1 4,M 15 2,O 16 (.call (.f yeS) [(.t 13),(.t 14),(.t 15)]),M 12 16,O 17 (.ext (.t 12) 0),O 18 (.ext (.t 12) 1),O 19 (.ext (.t 12) 2),O 20 (.ext (.t 12) 3),M 8 17,M 9 18,M 10 19,M 11 20] [0,2,4,8,9,12,13,14,15,16,17,18,19,20]) (.seq (oQ [M 21 10,O 22 (.un .not (.t 21)),M 23 22,⟨some 24,(.mv (.t 11)),some (23,true)⟩,⟨some 25,(.bin .eql (.t 24) (I 0)),some (23,true)⟩,O 26 (.pick (.t 23) (.t 25) (.c (.bool false))),M 27 11,M 6 26,M 7 27] [10,11,21,22,23,24,25,26,27]) .ret)))⟩
def yBM:TFn:=⟨5,[.tmp 10],(.seq (oQ [O 6 (.boxL (.t 1)),O 10 (.mv (.c (.bool false)))] [1,10]) (.seq (oQ [M 17 0,oT 18 1 6,M 19 2,O 20 (.call (.f yf6) [(.t 17),(.t 18),(.t 19)]),M 16 20,O 21 (.ext (.t 16) 0),O 22 (.ext (.t 16) 1),O 23 (.ext (.t 16) 2),M 11 21,M 12 22,M 13 23] [16,17,18,19,20,21,22,23]) (.seq (oQ [M 25 0,oT 26 1 6,M 27 2,O 28 (.call (.f yhX) [(.t 25),(.t 26),(.t 27)]),M 24 28,O 29 (.ext (.t 24) 0),O 30 (.ext (.t 24) 1),M 14 29,M 15 30] [0,2,6,24,25,26,27,28,29,30]) (.seq (oQ [M 31 13,O 32 (.bin .eql (.t 31) (I 0)),M 33 32,⟨some 34,(.mv (.t 11)),some (33,true)⟩,⟨some 35,(.mv (.t 3)),some (33,true)⟩,⟨some 36,(.bin .eql (.t 34) (.t 35)),some (33,true)⟩,O 37 (.pick (.t 33) (.t 36) (.c (.bool false))),M 38 37,⟨some 39,(.mv (.t 12)),some (38,true)⟩,⟨some 40,(.mv (.t 4)),some (38,true)⟩,⟨some 41,(.bin .eql (.t 39) (.t 40)),some (38,true)⟩,O 42 (.pick (.t 38) (.t 41) (.c (.bool false))),M 43 42,⟨some 44,(.mv (.t 15)),some (43,true)⟩,⟨some 45,(.bin .eql (.t 44) (I 0)),some (43,true)⟩,O 46 (.pick (.t 43) (.t 45) (.c (.bool false))),M 47 46,⟨some 48,(.mv (.t 14)),some (47,true)⟩,⟨some 49,(.un .not (.t 48)),some (47,true)⟩,O 50 (.pick (.t 47) (.t 49) (.c (.bool false))),M 10 50] [3,4,11,12,13,14,15,31,32,33,34,35,36,37,38,39,40,41,42,43,44,45,46,47,48,49,50]) .ret))))⟩
def yGj:TFn:=⟨0,[.tmp 0],(.seq (oQ [O 0 (.mv (.c (.bool false)))] [0]) (.seq (oQ [O 11 (.call (.f yhV) [(I 0),(I 1)]),O 12 (.call (.f yhV) [(I 1),(I 2)]),O 13 (.buildD 4 (.agg [(.int .i64 (0)),(.int .i64 (0)),(.int .i64 (0)),(.int .i64 (0))]) 2 [(0,(.t 11)),(1,(.t 12))]),O 14 (.call (.f yix) [(.t 13)]),O 15 (.call (.f yhV) [(I 1),(I 2)]),O 16 (.call (.f yhV) [(I 0),(I 1)]),O 17 (.buildD 4 (.agg [(.int .i64 (0)),(.int .i64 (0)),(.int .i64 (0)),(.int .i64 (0))]) 2 [(0,(.t 15)),(1,(.t 16))]),O 18 (.call (.f yix) [(.t 17)]),O 1 (.allocL (.agg [.nils])),O 2 (.allocL (.agg [.nils])),⟨none,(.store 1 (.t 1) (.t 14)),none⟩,⟨none,(.store 1 (.t 2) (.t 18)),none⟩] [11,12,13,14,15,16,17,18]) (.seq (.ops [O 20 (.call (.f yge) []),oT 21 1 1,O 22 (.call (.f yaY) [(.t 20),(.t 21)]),M 19 22,O 23 (.ext (.t 19) 0),O 24 (.ext (.t 19) 1),M 3 23,M 4 24] [] [(0,1),(4,5),(5,6)] [19,20,21,22,23,24]) (.seq (.ops [O 26 (.call (.f yge) []),oT 27 1 1,O 28 (.call (.f yeG) [(.t 26),(.t 27)]),M 25 28,O 29 (.ext (.t 25) 0),O 30 (.ext (.t 25) 1),O 5 (.allocL (.agg [(.int .u8 (0)),.nils])),⟨none,(.store 2 (.t 5) (.t 29)),none⟩,M 6 30] [] [(0,1),(4,5),(0,6),(1,6),(2,6),(3,6),(4,6),(5,6),(5,7)] [25,26,27,28,29,30]) (.seq (.ops [O 32 (.call (.f yge) []),oT 33 1 2,O 34 (.call (.f yeG) [(.t 32),(.t 33)]),M 31 34,O 35 (.ext (.t 31) 0),O 36 (.ext (.t 31) 1),O 7 (.allocL (.agg [(.int .u8 (0)),.nils])),⟨none,(.store 2 (.t 7) (.t 35)),none⟩,M 8 36] [] [(0,1),(4,5),(0,6),(1,6),(2,6),(3,6),(4,6),(5,6),(5,7)] [2,31,32,33,34,35,36]) (.seq (oQ [O 37 (.call (.f yg2) [(I 1)]),O 38 (.call (.f yg2) [(I 3)]),O 9 (.allocL (.agg [(.int .i64 (0)),(.int .i64 (0))])),O 10 (.allocL (.agg [(.int .i64 (0)),(.int .i64 (0))])),⟨none,(.store 2 (.t 9) (.t 37)),none⟩,⟨none,(.store 2 (.t 10) (.t 38)),none⟩] [37,38]) (.seq (.ops [M 39 4,O 40 (.bin .eql (.t 39) (I 0)),M 41 40,⟨some 42,(.mv (.t 3)),some (41,true)⟩,⟨some 43,(.load true 2 (.t 9)),some (41,true)⟩,⟨some 44,(.load true 2 (.t 9)),some (41,true)⟩,⟨some 45,(.buildD 2 (.agg [(.int .i64 (0)),(.int .i64 (0))]) 2 [(0,(.t 43)),(1,(.t 44))]),some (41,true)⟩,⟨some 46,(.load true 2 (.t 10)),some (41,true)⟩,⟨some 47,(.load true 2 (.t 9)),some (41,true)⟩,⟨some 48,(.buildD 2 (.agg [(.int .i64 (0)),(.int .i64 (0))]) 2 [(0,(.t 46)),(1,(.t 47))]),some (41,true)⟩,⟨some 49,(.buildD 1 (.data []) 2 [(0,(.t 45)),(1,(.t 48))]),some (41,true)⟩,⟨some 50,(.call (.f yf5) [(.t 42),(.t 49)]),some (41,true)⟩,O 51 (.pick (.t 41) (.t 50) (.c (.bool false))),M 52 51,⟨some 53,(.mv (.t 6)),some (52,true)⟩,⟨some 54,(.bin .eql (.t 53) (I 0)),some (52,true)⟩,O 55 (.pick (.t 52) (.t 54) (.c (.bool false))),M 56 55,⟨some 57,(.fad 0 (.t 5)),some (56,true)⟩,⟨some 58,(.load false 1 (.t 57)),some (56,true)⟩,⟨some 59,(.bin .eql (.t 58) (.c (.int .u8 (17)))),some (56,true)⟩,O 60 (.pick (.t 56) (.t 59) (.c (.bool false))),M 61 60,⟨some 62,(.mv (.t 8)),some (61,true)⟩,⟨some 63,(.bin .eql (.t 62) (I 0)),some (61,true)⟩,O 64 (.pick (.t 61) (.t 63) (.c (.bool false))),M 65 64,⟨some 66,(.fad 0 (.t 7)),some (65,true)⟩,⟨some 67,(.load false 1 (.t 66)),some (65,true)⟩,⟨some 68,(.bin .eql (.t 67) (.c (.int .u8 (23)))),some (65,true)⟩,O 69 (.pick (.t 65) (.t 68) (.c (.bool false))),M 70 69,⟨some 71,(.call (.f yge) []),some (70,true)⟩,⟨some 72,(.load true 1 (.t 1)),some (70,true)⟩,⟨some 73,(.call (.f yeT) [(.t 71),(.t 72),(.c (.int .u8 (2))),(I 1),(I 1)]),some (70,true)⟩,O 74 (.pick (.t 70) (.t 73) (.c (.bool false))),M 75 74,⟨some 76,(.call (.f yge) []),some (75,true)⟩,⟨some 77,(.load true 1 (.t 1)),some (75,true)⟩,⟨some 78,(.call (.f yeT) [(.t 76),(.t 77),(.c (.int .u8 (4))),(I 1),(I 0)]),some (75,true)⟩,O 79 (.pick (.t 75) (.t 78) (.c (.bool false))),M 80 79,⟨some 81,(.call (.f yge) []),some (80,true)⟩,⟨some 82,(.load true 1 (.t 1)),some (80,true)⟩,⟨some 83,(.call (.f yeT) [(.t 81),(.t 82),(.c (.int .u8 (8))),(I 1),(I 0)]),some (80,true)⟩,O 84 (.pick (.t 80) (.t 83) (.c (.bool false))),M 0 84] [⟨19,(.agg [.i .u8,.d]),0⟩,⟨28,(.agg [.i .u8,.d]),0⟩] [(3,4),(3,5),(4,5),(3,6),(3,7),(4,7),(5,7),(6,7),(3,8),(4,8),(5,8),(6,8),(7,8),(3,9),(4,9),(5,9),(6,9),(3,10),(32,33),(37,38),(42,43)] [1,3,4,5,6,7,8,9,10,39,40,41,42,43,44,45,46,47,48,49,50,51,52,53,54,55,56,57,58,59,60,61,62,63,64,65,66,67,68,69,70,71,72,73,74,75,76,77,78,79,80,81,82,83,84]) .ret)))))))⟩
def yIh:TFn:=⟨2,[.cell 4 true 2],(.seq (oQ [O 2 (.boxL (.t 0)),O 3 (.boxL (.t 1)),O 4 (.allocL (.agg [(.int .u64 (0)),(.int .u64 (0))]))] [0,1]) (.seq (.ops [O 7 (.fad 1 (.t 2)),oF 8 1 7,O 9 (.fad 1 (.t 3)),oF 10 1 9,oX 11 .add 8 10,M 5 11] [⟨1,(.agg [.i .u64,.i .u64]),0⟩,⟨3,(.agg [.i .u64,.i .u64]),0⟩] [] [7,8,9,10,11]) (.seq (.ops [O 12 (.fad 0 (.t 2)),oF 13 1 12,O 14 (.fad 0 (.t 3)),oF 15 1 14,oX 16 .add 13 15,M 6 16] [⟨1,(.agg [.i .u64,.i .u64]),0⟩,⟨3,(.agg [.i .u64,.i .u64]),0⟩] [] [3,12,13,14,15,16]) (.seq (.seq (.ops [M 17 5,O 18 (.fad 1 (.t 2)),oF 19 1 18,oX 20 .lss 17 19] [⟨2,(.agg [.i .u64,.i .u64]),0⟩] [] [2,17,18,19]) (.cond (.t 20) (oQ [M 21 6,O 22 (.bin .add (.t 21) (.c (.int .u64 (1)))),M 6 22] [20,21,22]) .skip)) (.seq (oQ [M 23 6,M 24 5,O 25 (.build [(.int .u64 (0)),(.int .u64 (0))] [(0,1,(.t 23)),(1,1,(.t 24))]),⟨none,(.store 2 (.t 4) (.t 25)),none⟩] [5,6,20,23,24,25]) .ret)))))⟩
def yGk:TFn:=⟨2,[.cell 4 true 2],(.seq (oQ [O 2 (.boxL (.t 0)),O 3 (.boxL (.t 1)),O 4 (.allocL (.agg [(.int .u64 (0)),(.int .u64 (0))]))] [0,1]) (.seq (.ops [O 6 (.fad 0 (.t 2)),oF 7 1 6,O 8 (.fad 0 (.t 3)),oF 9 1 8,oX 10 .sub 7 9,M 5 10] [⟨1,(.agg [.i .u64,.i .u64]),0⟩,⟨3,(.agg [.i .u64,.i .u64]),0⟩] [] [6,7,8,9,10]) (.seq (.seq (.ops [O 11 (.fad 1 (.t 2)),oF 12 1 11,O 13 (.fad 1 (.t 3)),oF 14 1 13,oX 15 .lss 12 14] [⟨1,(.agg [.i .u64,.i .u64]),0⟩,⟨3,(.agg [.i .u64,.i .u64]),0⟩] [] [11,12,13,14]) (.cond (.t 15) (oQ [M 16 5,O 17 (.bin .sub (.t 16) (.c (.int .u64 (1)))),M 5 17] [15,16,17]) .skip)) (.seq (.ops [M 18 5,O 19 (.fad 1 (.t 2)),oF 20 1 19,O 21 (.fad 1 (.t 3)),oF 22 1 21,oX 23 .sub 20 22,O 24 (.build [(.int .u64 (0)),(.int .u64 (0))] [(0,1,(.t 18)),(1,1,(.t 23))]),⟨none,(.store 2 (.t 4) (.t 24)),none⟩] [⟨2,(.agg [.i .u64,.i .u64]),0⟩,⟨4,(.agg [.i .u64,.i .u64]),0⟩] [] [2,3,5,15,18,19,20,21,22,23,24]) .ret))))⟩
def ynt:TCode:=(.seq (.seq (oQ [M 10 8,O 11 (.bin .geq (.t 10) (I 0))] [10]) (.cond (.t 11) .skip (.exit 0))) (.seq (.block 1 (.seq (.ops [O 14 (.fad 1 (.t 2)),oF 15 1 14,M 16 8,O 17 (.bin .and (.t 16) (I 63)),oX 18 .shr 15 17,O 19 (.bin .and (.t 18) (.c (.int .u64 (1)))),M 9 19] [⟨1,(.agg [.i .u64,.i .u64]),0⟩] [] [11,14,15,16,17,18,19]) (.seq (.seq (oQ [M 20 8,O 21 (.bin .geq (.t 20) (I 64))] [20]) (.cond (.t 21) (.ops [O 22 (.fad 0 (.t 2)),oF 23 1 22,M 24 8,O 25 (.bin .and (.t 24) (I 63)),oX 26 .shr 23 25,O 27 (.bin .and (.t 26) (.c (.int .u64 (1)))),M 9 27] [⟨1,(.agg [.i .u64,.i .u64]),0⟩] [] [21,22,23,24,25,26,27]) .skip)) (.seq (oQ [M 28 7,O 29 (.bin .shl (.t 28) (.c (.int .u64 (1)))),M 30 9,oX 31 .or 29 30,M 7 31] [9,21,28,29,30,31]) (.seq (oQ [oT 32 2 6,oT 33 2 6,O 34 (.call (.f yig) [(.t 32),(.t 33)]),⟨none,(.store 2 (.t 6) (.t 34)),none⟩] [32,33,34]) (.seq (oQ [M 35 7,M 36 1,oX 37 .geq 35 36] [35,36]) (.cond (.t 37) (.seq (oQ [M 38 7,M 39 1,oX 40 .sub 38 39,M 7 40] [37,38,39,40]) (.ops [O 41 (.fad 1 (.t 6)),oF 42 1 41,O 43 (.bin .or (.t 42) (.c (.int .u64 (1)))),O 44 (.fad 1 (.t 6)),⟨none,(.store 1 (.t 44) (.t 43)),none⟩] [⟨1,(.agg [.i .u64,.i .u64]),0⟩,⟨4,(.agg [.i .u64,.i .u64]),0⟩] [] [41,42,43,44])) .skip))))))) (oQ [M 12 8,O 13 (.bin .sub (.t 12) (I 1)),M 8 13] [12,13,37])))
def yGl:TFn:=⟨2,[.cell 4 true 2,.tmp 5],(.seq (oQ [O 2 (.boxL (.t 0)),O 4 (.allocL (.agg [(.int .u64 (0)),(.int .u64 (0))])),O 5 (.mv (.c (.int .u64 (0))))] [0,5]) (.seq (oQ [O 6 (.allocL (.agg [(.int .u64 (0)),(.int .u64 (0))]))] []) (.seq (oQ [O 7 (.mv (.c (.int .u64 (0))))] []) (.seq (.seq (oQ [O 8 (.mv (I 127))] []) (.block 0 (.loop 22549700 ynt))) (.seq (oQ [oT 45 2 6,M 46 7,⟨none,(.store 2 (.t 4) (.t 45)),none⟩,M 5 46] [1,2,6,7,8,11,45,46]) .ret)))))⟩
def yIi:TFn:=⟨3,[.cell 6 true 2,.tmp 7],(.seq (oQ [O 4 (.boxL (.t 1)),O 5 (.boxL (.t 2)),O 6 (.allocL (.agg [(.int .i64 (0)),(.int .i64 (0))])),O 7 (.mv (I 0))] [1,2,7]) (.seq (.seq (.ops [O 9 (.fad 0 (.t 4)),oF 10 1 9,O 11 (.bin .gtr (.t 10) (.c (.int .u64 (0)))),M 12 11,⟨some 13,(.fad 0 (.t 5)),some (12,false)⟩,⟨some 14,(.load false 1 (.t 13)),some (12,false)⟩,⟨some 15,(.bin .gtr (.t 14) (.c (.int .u64 (0)))),some (12,false)⟩,O 16 (.pick (.t 12) (.c (.bool true)) (.t 15)),M 17 16,⟨some 18,(.fad 1 (.t 4)),some (17,false)⟩,⟨some 19,(.load false 1 (.t 18)),some (17,false)⟩,⟨some 20,(.bin .gtr (.t 19) (.c (.int .u64 (1000000000000000000)))),some (17,false)⟩,O 21 (.pick (.t 17) (.c (.bool true)) (.t 20)),M 22 21,⟨some 23,(.fad 1 (.t 5)),some (22,false)⟩,⟨some 24,(.load false 1 (.t 23)),some (22,false)⟩,⟨some 25,(.bin .gtr (.t 24) (.c (.int .u64 (1000000000000000000)))),some (22,false)⟩,O 26 (.pick (.t 22) (.c (.bool true)) (.t 25))] [⟨1,(.agg [.i .u64,.i .u64]),0⟩,⟨5,(.agg [.i .u64,.i .u64]),0⟩,⟨10,(.agg [.i .u64,.i .u64]),0⟩,⟨15,(.agg [.i .u64,.i .u64]),0⟩] [] [9,10,11,12,13,14,15,16,17,18,19,20,21,22,23,24,25]) (.cond (.t 26) (.seq (oQ [O 27 (.build [(.int .i64 (0)),(.int .i64 (0))] []),⟨none,(.store 2 (.t 6) (.t 27)),none⟩,O 7 (.mv (I 16))] [0,4,5,26,27]) .ret) .skip)) (.seq (.ops [O 28 (.fad 1 (.t 4)),oF 29 1 28,O 30 (.conv .i64 (.t 29)),O 31 (.fad 1 (.t 5)),oF 32 1 31,O 33 (.conv .i64 (.t 32)),O 34 (.build [(.int .i64 (0)),(.int .i64 (0))] [(0,1,(.t 30)),(1,1,(.t 33))]),O 8 (.allocL (.agg [(.int .i64 (0)),(.int .i64 (0))])),⟨none,(.store 2 (.t 8) (.t 34)),none⟩] [⟨1,(.agg [.i .u64,.i .u64]),0⟩,⟨4,(.agg [.i .u64,.i .u64]),0⟩] [] [4,5,26,28,29,30,31,32,33,34]) (.seq (.seq (oQ [M 35 0] [0]) (.cond (.t 35) (.ops [O 36 (.fad 0 (.t 8)),oF 37 1 36,O 38 (.un .neg (.t 37)),O 39 (.fad 0 (.t 8)),⟨none,(.store 1 (.t 39) (.t 38)),none⟩] [⟨1,(.agg [.i .i64,.i .i64]),0⟩,⟨4,(.agg [.i .i64,.i .i64]),0⟩] [] [35,36,37,38,39]) .skip)) (.seq (oQ [oT 40 2 8,⟨none,(.store 2 (.t 6) (.t 40)),none⟩,O 7 (.mv (I 0))] [8,35,40]) .ret)))))⟩
def yKj:TFn:=⟨2,[.cell 4 true 2,.tmp 5],(.seq (oQ [O 2 (.boxL (.t 0)),O 3 (.boxL (.t 1)),O 4 (.allocL (.agg [(.int .i64 (0)),(.int .i64 (0))])),O 5 (.mv (I 0))] [0,1,5]) (.seq (.seq (oQ [oT 16 2 2,oT 17 2 3,O 18 (.call (.f yg0) [(.t 16),(.t 17)]),O 19 (.bin .neq (.t 18) (I 0))] [16,17,18]) (.cond (.t 19) (.seq (oQ [O 20 (.build [(.int .i64 (0)),(.int .i64 (0))] []),oT 21 2 2,oT 22 2 3,O 23 (.call (.f yg0) [(.t 21),(.t 22)]),⟨none,(.store 2 (.t 4) (.t 20)),none⟩,M 5 23] [2,3,19,20,21,22,23]) .ret) .skip)) (.seq (.ops [O 24 (.fad 1 (.t 2)),oF 25 1 24,O 26 (.conv .u64 (.t 25)),O 27 (.fad 1 (.t 3)),oF 28 1 27,O 29 (.conv .u64 (.t 28)),O 30 (.call (.f yiv) [(.t 26),(.t 29)]),M 6 30] [⟨1,(.agg [.i .i64,.i .i64]),0⟩,⟨4,(.agg [.i .i64,.i .i64]),0⟩] [] [19,24,25,26,27,28,29,30]) (.seq (.ops [O 31 (.fad 0 (.t 2)),oF 32 1 31,O 33 (.call (.f yfj) [(.t 32)]),O 34 (.fad 1 (.t 3)),oF 35 1 34,O 36 (.conv .u64 (.t 35)),M 37 6,oX 38 .quo 36 37,O 39 (.call (.f ydY) [(.t 33),(.t 38)]),O 40 (.fad 0 (.t 3)),oF 41 1 40,O 42 (.call (.f yfj) [(.t 41)]),O 43 (.fad 1 (.t 2)),oF 44 1 43,O 45 (.conv .u64 (.t 44)),M 46 6,oX 47 .quo 45 46,O 48 (.call (.f ydY) [(.t 42),(.t 47)]),O 7 (.allocL (.agg [(.int .u64 (0)),(.int .u64 (0))])),O 8 (.allocL (.agg [(.int .u64 (0)),(.int .u64 (0))])),⟨none,(.store 2 (.t 7) (.t 39)),none⟩,⟨none,(.store 2 (.t 8) (.t 48)),none⟩] [⟨1,(.agg [.i .i64,.i .i64]),0⟩,⟨4,(.agg [.i .i64,.i .i64]),0⟩,⟨10,(.agg [.i .i64,.i .i64]),0⟩,⟨13,(.agg [.i .i64,.i .i64]),0⟩] [(0,3),(1,3),(2,3),(0,4),(1,4),(2,4),(0,5),(1,5),(2,5),(0,6),(1,6),(2,6),(3,6),(4,6),(5,6),(0,7),(1,7),(2,7),(0,9),(1,9),(2,9),(3,9),(4,9),(5,9),(6,9),(7,9),(8,9),(0,10),(1,10),(2,10),(3,10),(4,10),(5,10),(6,10),(7,10),(8,10),(0,12),(1,12),(2,12),(3,12),(4,12),(5,12),(6,12),(7,12),(8,12),(9,12),(10,12),(11,12),(0,13),(1,13),(2,13),(3,13),(4,13),(5,13),(6,13),(7,13),(8,13),(9,13),(10,13),(11,13),(0,14),(1,14),(2,14),(3,14),(4,14),(5,14),(6,14),(7,14),(8,14),(9,14),(10,14),(11,14),(0,15),(1,15),(2,15),(3,15),(4,15),(5,15),(6,15),(7,15),(8,15),(9,15),(10,15),(11,15),(12,15),(13,15),(14,15),(0,16),(1,16),(2,16),(3,16),(4,16),(5,16),(6,16),(7,16),(8,16),(9,16),(10,16),(11,16),(0,18),(1,18),(2,18),(3,18),(4,18),(5,18),(6,18),(7,18),(8,18),(9,18),(10,18),(11,18),(12,18),(13,18),(14,18),(15,18),(16,18),(17,18),(0,19),(1,19),(2,19),(3,19),(4,19),(5,19),(6,19),(7,19),(8,19),(9,19),(10,19),(11,19),(12,19),(13,19),(14,19),(15,19),(16,19),(17,19),(18,19)] [31,32,33,34,35,36,37,38,39,40,41,42,43,44,45,46,47,48]) (.seq (.ops [O 49 (.fad 0 (.t 2)),oF 50 1 49,O 51 (.bin .lss (.t 50) (I 0)),M 9 51] [⟨1,(.agg [.i .i64,.i .i64]),0⟩] [] [49,50,51]) (.seq (oQ [oT 52 2 7,oT 53 2 8,O 54 (.call (.f yig) [(.t 52),(.t 53)]),O 10 (.allocL (.agg [(.int .u64 (0)),(.int .u64 (0))])),⟨none,(.store 2 (.t 10) (.t 54)),none⟩] [52,53,54]) (.seq (.seq (.ops [O 55 (.fad 0 (.t 2)),oF 56 1 55,O 57 (.bin .lss (.t 56) (I 0)),O 58 (.fad 0 (.t 3)),oF 59 1 58,O 60 (.bin .lss (.t 59) (I 0)),O 61 (.eqB true (.t 57) (.t 60))] [⟨1,(.agg [.i .i64,.i .i64]),0⟩,⟨4,(.agg [.i .i64,.i .i64]),0⟩] [] [55,56,57,58,59,60]) (.cond (.t 61) (.seq (oQ [oT 62 2 7,oT 63 2 8,O 64 (.call (.f yiA) [(.t 62),(.t 63)]),⟨none,(.store 2 (.t 10) (.t 64)),none⟩] [61,62,63,64]) (.seq (oQ [oT 65 2 7,oT 66 2 8,O 67 (.call (.f yg1) [(.t 65),(.t 66)])] [65,66]) (.cond (.t 67) (.seq (oQ [oT 68 2 8,oT 69 2 7,O 70 (.call (.f yiA) [(.t 68),(.t 69)]),⟨none,(.store 2 (.t 10) (.t 70)),none⟩] [7,8,9,67,68,69,70]) (.ops [O 71 (.fad 0 (.t 3)),oF 72 1 71,O 73 (.bin .lss (.t 72) (I 0)),M 9 73] [⟨1,(.agg [.i .i64,.i .i64]),0⟩] [] [71,72,73])) .skip))) .skip)) (.seq (.seq (oQ [oT 74 2 10,O 75 (.build [(.int .u64 (0)),(.int .u64 (0))] []),O 76 (.eqA false 2 [(0,(some .u64)),(1,(some .u64))] (.t 74) (.t 75))] [7,8,61,67,74,75]) (.cond (.t 76) (.seq (oQ [O 77 (.build [(.int .i64 (0)),(.int .i64 (0))] [(1,1,(I 1))]),⟨none,(.store 2 (.t 4) (.t 77)),none⟩,O 5 (.mv (I 0))] [2,3,6,9,10,76,77]) .ret) .skip)) (.seq (oQ [oT 79 2 10,M 80 6,O 81 (.call (.f yiB) [(.t 79),(.t 80)]),M 78 81,O 82 (.ext (.t 78) 0),O 83 (.ext (.t 78) 1),O 11 (.allocL (.agg [(.int .u64 (0)),(.int .u64 (0))])),⟨none,(.store 2 (.t 11) (.t 82)),none⟩,M 12 83] [11,76,78,79,80,81,82,83]) (.seq (oQ [M 84 12,M 85 6,O 86 (.call (.f yiv) [(.t 84),(.t 85)]),M 13 86] [12,84,85,86]) (.seq (oQ [oT 88 2 10,M 89 13,O 90 (.call (.f yiB) [(.t 88),(.t 89)]),M 87 90,O 91 (.ext (.t 87) 0),O 92 (.ext (.t 87) 1),O 14 (.allocL (.agg [(.int .u64 (0)),(.int .u64 (0))])),⟨none,(.store 2 (.t 14) (.t 91)),none⟩,M 15 92] [10,15,87,88,89,90,91,92]) (.seq (.ops [M 93 9,oT 94 2 14,O 95 (.fad 1 (.t 2)),oF 96 1 95,O 97 (.conv .u64 (.t 96)),M 98 6,oX 99 .quo 97 98,O 100 (.fad 1 (.t 3)),oF 101 1 100,O 102 (.conv .u64 (.t 101)),M 103 13,oX 104 .quo 102 103,O 105 (.call (.f ydY) [(.t 99),(.t 104)]),O 106 (.call (.f ym6) [(.t 93),(.t 94),(.t 105)]),O 107 (.ext (.t 106) 0),O 108 (.ext (.t 106) 1),⟨none,(.store 2 (.t 4) (.t 107)),none⟩,M 5 108] [⟨3,(.agg [.i .i64,.i .i64]),0⟩,⟨8,(.agg [.i .i64,.i .i64]),0⟩] [(0,1),(0,2),(1,2),(0,3),(1,3),(0,4),(1,4),(0,5),(1,5),(2,5),(3,5),(4,5),(0,6),(1,6),(0,7),(1,7),(2,7),(3,7),(4,7),(5,7),(6,7),(0,8),(1,8),(2,8),(3,8),(4,8),(5,8),(6,8),(0,9),(1,9),(2,9),(3,9),(4,9),(5,9),(6,9),(0,10),(1,10),(2,10),(3,10),(4,10),(5,10),(6,10),(7,10),(8,10),(9,10),(0,11),(1,11),(2,11),(3,11),(4,11),(5,11),(6,11),(0,12),(1,12),(14,15)] [2,3,6,9,13,14,93,94,95,96,97,98,99,100,101,102,103,104,105,106,107,108]) .ret))))))))))))⟩
def ynu:TCode:=(.seq (.seq (oQ [M 13 4,M 14 0,O 15 (.len (.t 14)),oX 16 .lss 13 15] [13,14,15]) (.cond (.t 16) .skip (.exit 0))) (.seq (.block 1 (.seq (.ops [M 19 0,M 20 4,O 21 (.iad 2 (.t 19) (.t 20)),oT 22 2 21,O 23 (.call (.f ycZ) [(.t 22)]),O 24 (.bin .neq (.t 23) (I 0))] [⟨2,(.agg [.i .i64,.i .i64]),0⟩,⟨3,(.agg [.i .i64,.i .i64]),0⟩] [] [16,19,20,21,22,23]) (.cond (.t 24) (.seq (.ops [O 25 (.build [(.int .i64 (0)),(.int .i64 (0))] []),M 26 0,M 27 4,O 28 (.iad 2 (.t 26) (.t 27)),oT 29 2 28,O 30 (.call (.f ycZ) [(.t 29)]),⟨none,(.store 2 (.t 2) (.t 25)),none⟩,M 3 30] [⟨3,(.agg [.i .i64,.i .i64]),0⟩,⟨4,(.agg [.i .i64,.i .i64]),0⟩] [] [0,4,24,25,26,27,28,29,30]) .ret) .skip))) (oQ [M 17 4,O 18 (.bin .add (.t 17) (I 1)),M 4 18] [17,18,24])))
def ynv:TCode:=(.seq (.seq (oQ [M 32 6,M 33 0,O 34 (.len (.t 33)),oX 35 .lss 32 34] [32,33,34]) (.cond (.t 35) .skip (.exit 2))) (.seq (.block 3 (.seq (.ops [oT 39 2 5,M 40 0,M 41 6,O 42 (.iad 2 (.t 40) (.t 41)),oT 43 2 42,O 44 (.call (.f yph) [(.t 39),(.t 43)]),M 38 44,O 45 (.ext (.t 38) 0),O 46 (.ext (.t 38) 1),O 7 (.allocL (.agg [(.int .i64 (0)),(.int .i64 (0))])),⟨none,(.store 2 (.t 7) (.t 45)),none⟩,M 8 46] [⟨3,(.agg [.i .i64,.i .i64]),0⟩,⟨4,(.agg [.i .i64,.i .i64]),0⟩] [(0,1),(0,2),(1,2),(0,3),(0,4),(7,8),(0,9),(1,9),(2,9),(3,9),(4,9),(5,9),(6,9),(7,9),(8,9),(8,10)] [35,38,39,40,41,42,43,44,45,46]) (.seq (.seq (oQ [M 47 8,O 48 (.bin .neq (.t 47) (I 0))] [47]) (.cond (.t 48) (.seq (oQ [O 49 (.build [(.int .i64 (0)),(.int .i64 (0))] []),M 50 8,⟨none,(.store 2 (.t 2) (.t 49)),none⟩,M 3 50] [0,5,6,7,8,48,49,50]) .ret) .skip)) (oQ [oT 51 2 7,⟨none,(.store 2 (.t 5) (.t 51)),none⟩] [7,8,48,51])))) (oQ [M 36 6,O 37 (.bin .add (.t 36) (I 1)),M 6 37] [36,37])))
def yKk:TFn:=⟨1,[.cell 2 true 2,.tmp 3],(.seq (oQ [O 2 (.allocL (.agg [(.int .i64 (0)),(.int .i64 (0))])),O 3 (.mv (I 0))] [3]) (.seq (.seq (oQ [M 9 0,O 10 (.len (.t 9)),O 11 (.bin .gtr (.t 10) (I 100))] [9,10]) (.cond (.t 11) (.seq (oQ [O 12 (.build [(.int .i64 (0)),(.int .i64 (0))] []),⟨none,(.store 2 (.t 2) (.t 12)),none⟩,O 3 (.mv (I 4))] [0,11,12]) .ret) .skip)) (.seq (.seq (oQ [O 4 (.mv (I 0))] [11]) (.block 0 (.loop 82687900 ynu))) (.seq (oQ [O 31 (.build [(.int .i64 (0)),(.int .i64 (0))] [(1,1,(I 1))]),O 5 (.allocL (.agg [(.int .i64 (0)),(.int .i64 (0))])),⟨none,(.store 2 (.t 5) (.t 31)),none⟩] [4,16,31]) (.seq (.seq (oQ [O 6 (.mv (I 0))] []) (.block 2 (.loop 82687901 ynv))) (.seq (oQ [oT 52 2 5,⟨none,(.store 2 (.t 2) (.t 52)),none⟩,O 3 (.mv (I 0))] [0,5,6,35,52]) .ret))))))⟩
def ynw:TCode:=(.seq (.seq (oQ [M 79 10,M 80 0,O 81 (.len (.t 80)),oX 82 .lss 79 81] [79,80,81]) (.cond (.t 82) .skip (.exit 0))) (.seq (.block 1 (.seq (.ops [O 86 (.fad 1 (.t 5)),oF 87 1 86,M 88 10,O 89 (.iad 1 (.t 87) (.t 88)),oF 90 1 89,O 91 (.call (.f ypi) [(.t 90)]),M 85 91,O 92 (.ext (.t 85) 0),O 93 (.ext (.t 85) 1),O 11 (.allocL (.agg [(.int .i64 (0)),(.int .i64 (0))])),⟨none,(.store 2 (.t 11) (.t 92)),none⟩,M 12 93] [⟨1,(.agg [.i .u8,.d]),0⟩,⟨3,(.one (.d)),0⟩,⟨4,(.one (.d)),0⟩] [] [82,85,86,87,88,89,90,91,92,93]) (.seq (.ops [M 95 0,M 96 10,O 97 (.iad 3 (.t 95) (.t 96)),oT 98 3 97,M 99 0,O 100 (.iad 3 (.t 99) (I 0)),O 101 (.fad 0 (.t 100)),oF 102 1 101,O 103 (.call (.f yhV) [(I 0),(.t 102)]),O 104 (.buildD 4 (.agg [(.int .i64 (0)),(.int .i64 (0)),(.int .i64 (0)),(.int .i64 (0))]) 1 [(0,(.t 103))]),O 105 (.call (.f yby) [(.t 98),(.t 104)]),M 94 105,O 106 (.ext (.t 94) 0),O 107 (.ext (.t 94) 1),O 13 (.allocL (.agg [(.int .i64 (0)),(.int .i64 (0))])),⟨none,(.store 2 (.t 13) (.t 106)),none⟩,M 14 107] [⟨2,(.agg [.i .i64,.d,.d]),0⟩,⟨3,(.agg [.i .i64,.d,.d]),0⟩,⟨5,(.agg [.i .i64,.d,.d]),0⟩,⟨7,(.agg [.i .i64,.d,.d]),0⟩] [(0,1),(0,4),(1,4),(2,4),(3,4),(0,5),(1,5),(2,5),(3,5),(0,6),(1,6),(2,6),(3,6),(0,7),(1,7),(2,7),(3,7),(0,8),(1,8),(2,8),(3,8),(0,9),(1,9),(2,9),(3,9),(12,13),(0,14),(1,14),(2,14),(3,14),(4,14),(5,14),(6,14),(7,14),(8,14),(9,14),(10,14),(11,14),(12,14),(13,14),(13,15)] [94,95,96,97,98,99,100,101,102,103,104,105,106,107]) (.seq (.seq (oQ [M 108 12,O 109 (.bin .neq (.t 108) (I 0))] [12,108]) (.cond (.t 109) (.exit 1) .skip)) (.seq (oQ [M 110 14,O 111 (.bin .neq (.t 110) (I 0)),M 112 111,⟨some 113,(.load true 2 (.t 13)),some (112,false)⟩,⟨some 114,(.load true 2 (.t 11)),some (112,false)⟩,⟨some 115,(.eqA true 2 [(0,(some .i64)),(1,(some .i64))] (.t 113) (.t 114)),some (112,false)⟩,O 116 (.pick (.t 112) (.c (.bool true)) (.t 115))] [11,13,14,109,110,111,112,113,114,115]) (.cond (.t 116) (.seq (oQ [O 4 (.mv (.c (.bool false)))] [0,5,10,116]) .ret) .skip)))))) (oQ [M 83 10,O 84 (.bin .add (.t 83) (I 1)),M 10 84] [11,13,14,83,84,109,116])))
def yuC:TFn:=⟨2,[.tmp 4],(.seq (oQ [O 3 (.boxL (.t 1)),O 4 (.mv (.c (.bool false)))] [1,4]) (.seq (.seq (oQ [M 15 0,oT 16 1 3,O 17 (.call (.f ylt) [(.t 15),(.t 16)]),O 18 (.un .not (.t 17))] [15,16,17]) (.cond (.t 18) (.seq (oQ [O 19 (.call (.f yfB) []),M 4 19] [0,3,18,19]) .ret) .skip)) (.seq (oQ [M 21 0,oT 22 1 3,O 23 (.call (.f yeG) [(.t 21),(.t 22)]),M 20 23,O 24 (.ext (.t 20) 0),O 25 (.ext (.t 20) 1),O 5 (.allocL (.agg [(.int .u8 (0)),.nils])),⟨none,(.store 2 (.t 5) (.t 24)),none⟩,M 6 25] [3,18,20,21,22,23,24,25]) (.seq (.seq (oQ [M 26 6,O 27 (.bin .neq (.t 26) (I 0))] [26]) (.cond (.t 27) (.seq (oQ [M 28 6,O 29 (.bin .eql (.t 28) (I 16)),M 30 29,⟨some 31,(.call (.f yfB) []),some (30,true)⟩,O 32 (.pick (.t 30) (.t 31) (.c (.bool false))),M 4 32] [0,5,6,27,28,29,30,31,32]) .ret) .skip)) (.seq (.ops [O 33 (.fad 0 (.t 5)),oF 34 1 33,O 35 (.bin .and (.t 34) (.c (.int .u8 (1)))),O 36 (.bin .neq (.t 35) (.c (.int .u8 (0)))),O 37 (.fad 0 (.t 5)),oF 38 1 37,O 39 (.bin .and (.t 38) (.c (.int .u8 (2)))),O 40 (.bin .neq (.t 39) (.c (.int .u8 (0)))),O 41 (.fad 0 (.t 5)),oF 42 1 41,O 43 (.bin .and (.t 42) (.c (.int .u8 (4)))),O 44 (.bin .neq (.t 43) (.c (.int .u8 (0)))),M 7 36,M 8 40,M 9 44] [⟨1,(.agg [.i .u8,.d]),0⟩,⟨5,(.agg [.i .u8,.d]),0⟩,⟨9,(.agg [.i .u8,.d]),0⟩] [(0,4),(1,4),(2,4),(3,4),(0,5),(1,5),(2,5),(3,5),(0,6),(1,6),(2,6),(3,6),(0,7),(1,7),(2,7),(3,7),(0,8),(1,8),(2,8),(3,8),(4,8),(5,8),(6,8),(7,8),(0,9),(1,9),(2,9),(3,9),(4,9),(5,9),(6,9),(7,9),(0,10),(1,10),(2,10),(3,10),(4,10),(5,10),(6,10),(7,10),(0,11),(1,11),(2,11),(3,11),(4,11),(5,11),(6,11),(7,11),(4,12),(5,12),(6,12),(7,12),(8,12),(9,12),(10,12),(11,12),(8,13),(9,13),(10,13),(11,13)] [6,27,33,34,35,36,37,38,39,40,41,42,43,44]) (.seq (.seq (.ops [M 45 7,M 46 45,⟨some 47,(.mv (.t 9)),some (46,true)⟩,O 48 (.pick (.t 46) (.t 47) (.c (.bool false))),M 49 48,⟨some 50,(.mv (.t 8)),some (49,true)⟩,⟨some 51,(.un .not (.t 50)),some (49,true)⟩,O 52 (.pick (.t 49) (.t 51) (.c (.bool false))),M 53 52,⟨some 54,(.mv (.t 7)),some (53,false)⟩,⟨some 55,(.mv (.t 54)),some (53,false)⟩,⟨some 56,(.mv (.t 8)),some (55,true)⟩,⟨some 57,(.pick (.t 55) (.t 56) (.c (.bool false))),some (53,false)⟩,⟨some 58,(.mv (.t 57)),some (53,false)⟩,⟨some 59,(.mv (.t 9)),some (58,true)⟩,⟨some 60,(.un .not (.t 59)),some (58,true)⟩,⟨some 61,(.pick (.t 58) (.t 60) (.c (.bool false))),some (53,false)⟩,⟨some 62,(.mv (.t 61)),some (53,false)⟩,⟨some 63,(.mv (.t 0)),some (62,true)⟩,⟨some 64,(.len (.t 63)),some (62,true)⟩,⟨some 65,(.bin .eql (.t 64) (I 2)),some (62,true)⟩,⟨some 66,(.pick (.t 62) (.t 65) (.c (.bool false))),some (53,false)⟩,O 67 (.pick (.t 53) (.c (.bool true)) (.t 66)),M 68 67,⟨some 69,(.fad 1 (.t 5)),some (68,false)⟩,⟨some 70,(.load false 1 (.t 69)),some (68,false)⟩,⟨some 71,(.len (.t 70)),some (68,false)⟩,⟨some 72,(.mv (.t 0)),some (68,false)⟩,⟨some 73,(.len (.t 72)),some (68,false)⟩,⟨some 74,(.bin .neq (.t 71) (.t 73)),some (68,false)⟩,O 75 (.pick (.t 68) (.c (.bool true)) (.t 74))] [⟨25,(.agg [.i .u8,.d]),0⟩] [] [8,9,45,46,47,48,49,50,51,52,53,54,55,56,57,58,59,60,61,62,63,64,65,66,67,68,69,70,71,72,73,74]) (.cond (.t 75) (.seq (oQ [O 4 (.mv (.c (.bool false)))] [0,5,7,75]) .ret) .skip)) (.seq (.seq (oQ [M 76 7,O 77 (.un .not (.t 76))] [7,75,76]) (.cond (.t 77) (.seq (oQ [O 78 (.call (.f yfB) []),M 4 78] [0,5,77,78]) .ret) .skip)) (.seq (.seq (oQ [O 10 (.mv (I 0))] [77]) (.block 0 (.loop 90112000 ynw))) (.seq (oQ [O 117 (.call (.f yfB) []),M 4 117] [0,5,10,82,117]) .ret)))))))))⟩
def tab:List (Nat×AFn):=[(ylm,yFW.fn),(yln,yFX.fn),(yfi,yxo.fn),(ylo,yFY.fn),(yiu,yFZ.fn),(ylp,yF0.fn),(yfj,yKc.fn),(yiv,yKd.fn),(ycZ,yF1.fn),(yg0,yIb.fn),(ydY,yF2.fn),(yg1,yIc.fn),(yfG,yId.fn),(ylq,yF3.fn),(ylr,yF4.fn),(yg2,yLq.fn),(yiw,yF5.fn),(yiY,yD2.fn),(yls,yF6.fn),(ylt,yF7.fn),(yhV,yLr.fn),(yix,yF8.fn),(yge,yKe.fn),(yf4,yyM.fn),(yet,yyN.fn),(yct,yD3.fn),(ylu,yF9.fn),(ybh,yD4.fn),(ycy,yGa.fn),(ydZ,yBB.fn),(yeh,yuz.fn),(ybF,yBC.fn),(ydx,yvI.fn),(ydO,yta.fn),(yec,yKf.fn),(ydf,yuA.fn),(ycz,yrC.fn),(yiZ,yD5.fn),(ycA,yGb.fn),(yhW,yBD.fn),(ylv,yGc.fn),(yd0,yBE.fn),(yd1,yBF.fn),(ybx,yBG.fn),(ybi,yD6.fn),(ycq,yBH.fn),(ydU,yD7.fn),(yd2,yGd.fn),(yhn,yD8.fn),(ymX,yKg.fn),(yei,yuB.fn),(ykb,yKh.fn),(ypg,yKi.fn),(ycP,yz8.fn),(yd3,yGe.fn),(ylw,yGf.fn),(yfz,yGg.fn),(yho,yD9.fn),(ydI,yrb.fn),(yrA,yGh.fn),(yby,yBI.fn),(yaY,ytS.fn),(ydg,yhq.fn),(ycQ,yEa.fn),(yfA,yGi.fn),(yej,ynq.fn),(ycR,yoe.fn),(ybV,yfc.fn),(yaT,ybB.fn),(ybZ,yyO.fn),(ygf,yBJ.fn),(ya2,yja.fn),(ycg,ytb.fn),(ycS,yg3.fn),(ydJ,ylM.fn),(yxn,yOC.fn),(yD1,yOG.fn),(ydp,yrD.fn),(ybQ,yvJ.fn),(ybe,yxp.fn),(ych,ytc.fn),(ycT,yvK.fn),(yhp,yEb.fn),(ya3,yjb.fn),(ya4,yjc.fn),(ya5,yjd.fn),(ya6,yje.fn),(ybb,yrE.fn),(yeG,yEc.fn),(yf5,yyP.fn),(yeS,yBK.fn),(yf6,yyQ.fn),(yhX,yBL.fn),(yeT,yBM.fn),(yfB,yGj.fn),(yig,yIh.fn),(yiA,yGk.fn),(yiB,yGl.fn),(ym6,yIi.fn),(yph,yKj.fn),(ypi,yKk.fn),(yih,yuC.fn)]
def quiL:List Nat:=[ylm,yln,yfi,ylo,yiu,ylp,yfj,yiv,ycZ,yg0,ydY,yg1,yfG,ylq,ylr,yg2,yiw,yiY,yls,ylt,yhV,yix,yge,yf4,yet,yct,ylu,ybh,ycy,ydZ,yeh,ybF,ydx,ydO,yec,ydf,ycz,yiZ,ycA,yhW,ylv,yd0,yd1,ybx,ybi,ycq,ydU,yd2,yhn,yiy,yiz,ymX,yei,ykb,ypg,ycP,yd3,ylw,yfz,yho,yby,yaY,ycQ,yfA,ybZ,ygf,yxn,yD1,ych,ycT,yhp,ybb,yeG,yf5,yeS,yf6,yhX,yeT,yfB,yig,yiA,yiB,ym6,yph,ypi,yih,(yaY+1000000),(ybZ+3000000),(ybb+3000000),(ycT+3000000)]
def cloL:Clones:=[]
def gloL:List (Nat×PV):=[]
def E (ef:List (Nat×EffF)):Env:=baseS yiy yiz tab quiL cloL gloL ef
def E0C:Env:=baseC yiy yiz tab quiL cloL gloL
abbrev yrj:Srts:=spSrt ybe ych
def effNums:List Nat:=[ybe]
abbrev EG (e:List (Nat×EffF)):Prop:=EffG E effNums e
theorem ybg:EG []:=⟨fun _ _ _ _ h=>(by cases h),fun _ _ _ _=>rfl⟩
def ef0:List (Nat×EffF):=[(ybe,srtEff yrj.s yrj.srt)]
theorem effG0:EG ef0:=⟨yJ9 (by kernel_rfl),fun n h xs H=>yz7 (l:=ef0) h⟩
abbrev yxq:Type:=Int→Int→Int→(Int→Int→Prop)→Prop
abbrev yxr:Type:=Int→Int→Int→(Int→Int→Prop)→Prop
theorem yIj (e:List (Nat×EffF)) (_:EG e):OkF (E e) yuw yiy:=yKa
theorem yIk (e:List (Nat×EffF)) (_:EG e):OkF (E e) yuy yiz:=yKb (by kernel_rfl)
end Go.Pf.Vc
namespace Go.Pf.Vc
open Go Go.Pf
set_option maxRecDepth 100000
abbrev ybv:Type:=Int→(Int→Prop)→Prop
def yoA (p0:Int) (K:Int→Prop):Prop :=
 (cbr (decide (p0<(0:Int)))
 (K (IntKind.u64.wrap ((0:Int)-(IntKind.u64.wrap p0))))
 (K (IntKind.u64.wrap p0)))
def ycc (p0:Int) (K:Int→Prop):Prop:=yoA p0 K
def yeV (w:ybv) (as:List PV) (K:PV→Prop):Prop :=
 match as with
 | [(.int .i64 p0)]=>w p0 (fun r0=>K (.int .u64 r0))
 | _=>False
def ytT (as:List PV) (K:PV→Prop):Prop:=yeV ycc as K
def yBN:LP:=fun _ _ _ _ =>
 False
def ytU (e:List (Nat×EffF)):SE:=⟨(E e),lookS [],lookI [],yBN⟩
theorem yz9 (e:List (Nat×EffF)) (he:EG e):SEOk (ytU e):=yam trivial trivial he.ok
theorem yBO (e:List (Nat×EffF)) ( p0 K):WP (ytU e) 6 yD4 [(.int .i64 p0)] K=yoA p0 (fun r0=>K (.int .u64 r0)):=by kernel_rfl
theorem yhY (e:List (Nat×EffF)) (he:EG e):OkF (E e) ytT ybh:=by
 intro as K h
 unfold ytT yeV at h
 split at h
 · exact WP_ok (yz9 e he) (yag (by kernel_rfl)) (by kernel_rfl) (by kernel_rfl) (fun _=>yab (by kernel_rfl) _) (he.num _ (by kernel_rfl)) ((yBO ..).mpr h)
 · exact h.elim
abbrev ycB:Type:=Int→Int→(Int→Prop)→Prop
def ydK (x0:Int→Int→Bool→Prop):Nat→Int→Int→Prop
 | 0,_,_=>False
 | n+1,i0,i1 =>
 (cbr (decide (i1>(0:Int)))
 (asr (!(decide (i1=(0:Int))))
 (ydK x0 n i1 (Int.tmod i0 i1)))
 (x0 i0 i1 false))
def ypR (p0 p1:Int) (K:Int→Prop):Prop :=
 (∃ n:Nat,ydK
 (fun yi0 _ _=>(K yi0))
 n p0 p1)
def ybI (p0 p1:Int) (K:Int→Prop):Prop:=ypR p0 p1 K
def yhr (w:ycB) (as:List PV) (K:PV→Prop):Prop :=
 match as with
 | [(.int .u64 p0),(.int .u64 p1)]=>w p0 p1 (fun r0=>K (.int .u64 r0))
 | _=>False
def yvL (as:List PV) (K:PV→Prop):Prop:=yhr ybI as K
def ygg (F:Frm) (H:Hp) (A0:Int→Int→Prop):Prop :=
 match F,H with
 | [(0,.v (.int .u64 i0)),(1,.v (.int .u64 i1))],[]=>(A0 i0 i1)
 | _,_=>False
def ylN (Q:Ex→Frm→Hp→Prop):Int→Int→Bool→Prop:=(fun i0 i1 b2=>Q (.exit 0) [(0,.v (.int .u64 i0)),(1,.v (.int .u64 i1)),(6,.v (.bool b2))] [])
def ykW (Q:Ex→Frm→Hp→Prop) (n:Nat) (F:Frm) (H:Hp):Prop:=ygg F H (fun i0 i1=>ydK (ylN Q) n i0 i1)
def ymu:LP:=fun id F H Q =>
 bif Nat.beq id 32725300 then ygg F H (fun i0 i1=>∃ n:Nat,ydK (ylN Q) n i0 i1) else
 False
def ypS (e:List (Nat×EffF)):SE:=⟨(E e),lookS [],lookI [],ymu⟩
theorem ytV (e:List (Nat×EffF)) (he:EG e):SEOk (ypS e):=yam trivial trivial he.ok
theorem yuD (e:List (Nat×EffF)) ( Q n i0 i1):WC (E e) (callW (ypS e) 5) (ymu) yni [(0,.v (.int .u64 i0)),(1,.v (.int .u64 i1))] [] (fun x F' H'=>match x with | .norm=>ykW Q n F' H' | .exit i=>Q (.exit i) F' H' | .ret=>Q .ret F' H')=ydK (ylN Q) (n+1) i0 i1:=by kernel_rfl
theorem yyR (e:List (Nat×EffF)) (_:EG e):LpOk (E e) (ymu) yni:=(yag (by kernel_rfl))
theorem yxs (e:List (Nat×EffF)) (he:EG e):∀ F H Q,ymu 32725300 F H Q→LoopT (E e) yni F H Q:=by
 intro F H Q h
 have go:=LoopT.intro (yaC (ytV e he) 5) (yyR e he) (ykW Q) (by
   intro F H h
   unfold ykW ygg at h
   split at h
   · exact h
   · exact h) (by
   intro n F H h
   unfold ykW ygg at h
   split at h
   · exact (yuD ..).mpr h
   · exact h.elim)
 have h:ygg F H _:=h
 unfold ygg at h
 split at h
 · obtain ⟨n,h⟩:=h;exact go n _ _ h
 · exact h.elim
theorem yEd (e:List (Nat×EffF)) ( p0 p1 K):WP (ypS e) 6 yGa [(.int .u64 p0),(.int .u64 p1)] K=ypR p0 p1 (fun r0=>K (.int .u64 r0)):=by kernel_rfl
theorem ymv (e:List (Nat×EffF)) (he:EG e):OkF (E e) yvL ycy:=by
 intro as K h
 unfold yvL yhr at h
 split at h
 · exact WP_ok (ytV e he) (ya8 (l:=[(32725300,yni)]) ⟨yxs e he,trivial⟩ (by kernel_rfl)) (by kernel_rfl) (by kernel_rfl) (fun _=>yab (by kernel_rfl) _) (he.num _ (by kernel_rfl)) ((yEd ..).mpr h)
 · exact h.elim
abbrev yeW:Type:=Int→Int→(Int→Prop)→Prop
def ynx (a0:ybv) (a1:ycB) (p0 p1:Int) (K:Int→Prop):Prop :=
 (cbr (decide (p1<(1:Int)))
 (K (8:Int))
 (a0 p0 (fun yi0 =>
 (cbr (decide ((if (IntKind.u64.wrap p1)>yi0 then (IntKind.u64.wrap p1) else yi0)>(1000000000000000000:Int)))
 (K (8:Int))
 (a0 p0 (fun yi1 =>
 (a1 yi1 (IntKind.u64.wrap p1) (fun yi2 =>
 (cbr (decide (yi2>(1:Int)))
 (K (8:Int))
 (K (0:Int)))))))))))
def ycL (p0 p1:Int) (K:Int→Prop):Prop:=ynx ycc ybI p0 p1 K
def yjf (w:yeW) (as:List PV) (K:PV→Prop):Prop :=
 match as with
 | [(.agg [(.int .i64 p0),(.int .i64 p1)])]=>w p0 p1 (fun r0=>K (.int .i64 r0))
 | _=>False
def yrF (as:List PV) (K:PV→Prop):Prop:=yjf ycL as K
def yAa (_:ybv) (_:ycB):LP:=fun _ _ _ _ =>
 False
def yrG (e:List (Nat×EffF)) (a0:ybv) (a1:ycB):SE:=⟨(E e),lookS [(ybh,yeV a0),(ycy,yhr a1)],lookI [],yAa a0 a1⟩
theorem yyS (e:List (Nat×EffF)) (he:EG e):SEOk (yrG e ycc ybI):=yam ⟨(yhY e he),(ymv e he),trivial⟩ trivial he.ok
theorem yAb (e:List (Nat×EffF)) (a0 a1 p0 p1 K):WP (yrG e a0 a1) 6 yBB [(.agg [(.int .i64 p0),(.int .i64 p1)])] K=ynx a0 a1 p0 p1 (fun r0=>K (.int .i64 r0)):=by kernel_rfl
theorem yny (e:List (Nat×EffF)) (he:EG e):OkF (E e) yrF ydZ:=by
 intro as K h
 unfold yrF yjf at h
 split at h
 · exact WP_ok (yyS e he) (yag (by kernel_rfl)) (by kernel_rfl) (by kernel_rfl) (fun _=>yab (by kernel_rfl) _) (he.num _ (by kernel_rfl)) ((yAb ..).mpr h)
 · exact h.elim
abbrev yfJ:Type:=List PV→(Int→Prop)→Prop
def ybm (x0:Int→Prop) (x1:Int→List PV→Int→Int→Bool→Prop):Nat→Int→List PV→Int→Int→Prop
 | 0,_,_,_,_=>False
 | n+1,i0,l1,i2,i3 =>
 (cbr (decide (i3<i2))
 (asr (decide ((0:Int)≤i3))
 (asr (decide (i3<(((List.length l1):Nat):Int)))
 (asr (conf (.one (.i .i64)) (List.getD l1 (i3.toNat) .nils))
 (cbr ((intOfV (List.getD l1 (i3.toNat) .nils)) != i0)
 (x0 (intOfV (List.getD l1 (i3.toNat) .nils)))
 (ybm x0 x1 n i0 l1 i2 (IntKind.i64.wrap (i3+(1:Int))))))))
 (x1 i0 l1 i2 i3 false))
def yhC (p0:List PV) (K:Int→Prop):Prop :=
 (∃ n:Nat,ybm
 (fun yi0=>(K yi0))
 (fun yi1 _ _ _ _=>(K yi1))
 n (0:Int) p0 (((List.length p0):Nat):Int) (0:Int))
def yel (p0:List PV) (K:Int→Prop):Prop:=yhC p0 K
def yhD (w:yfJ) (as:List PV) (K:PV→Prop):Prop :=
 match as with
 | [(.data p0)]=>w p0 (fun r0=>K (.int .i64 r0))
 | _=>False
def ymm (as:List PV) (K:PV→Prop):Prop:=yhD yel as K
def ycC (F:Frm) (H:Hp) (A0:Int→List PV→Int→Int→Prop):Prop :=
 match F,H with
 | [(3,.v (.int .i64 i0)),(6,.v (.data l1)),(7,.v (.int .i64 i2)),(8,.v (.int .i64 i3))],[]=>(A0 i0 l1 i2 i3)
 | _,_=>False
def yfK (Q:Ex→Frm→Hp→Prop):Int→Prop:=(fun i0=>Q .ret [(2,.v (.int .i64 i0))] [])
def yfL (Q:Ex→Frm→Hp→Prop):Int→List PV→Int→Int→Bool→Prop:=(fun i0 l1 i2 i3 b4=>Q (.exit 0) [(3,.v (.int .i64 i0)),(6,.v (.data l1)),(7,.v (.int .i64 i2)),(8,.v (.int .i64 i3)),(9,.v (.bool b4))] [])
def yeH (Q:Ex→Frm→Hp→Prop) (n:Nat) (F:Frm) (H:Hp):Prop:=ycC F H (fun i0 l1 i2 i3=>ybm (yfK Q) (yfL Q) n i0 l1 i2 i3)
def yfd:LP:=fun id F H Q =>
 bif Nat.beq id 38508400 then ycC F H (fun i0 l1 i2 i3=>∃ n:Nat,ybm (yfK Q) (yfL Q) n i0 l1 i2 i3) else
 False
def yhE (e:List (Nat×EffF)):SE:=⟨(E e),lookS [],lookI [],yfd⟩
theorem ylx (e:List (Nat×EffF)) (he:EG e):SEOk (yhE e):=yam trivial trivial he.ok
theorem yn5 (e:List (Nat×EffF)) ( Q n i0 l1 i2 i3):WC (E e) (callW (yhE e) 5) (yfd) ynj [(3,.v (.int .i64 i0)),(6,.v (.data l1)),(7,.v (.int .i64 i2)),(8,.v (.int .i64 i3))] [] (fun x F' H'=>match x with | .norm=>yeH Q n F' H' | .exit i=>Q (.exit i) F' H' | .ret=>Q .ret F' H')=ybm (yfK Q) (yfL Q) (n+1) i0 l1 i2 i3:=by kernel_rfl
theorem ypT (e:List (Nat×EffF)) (_:EG e):LpOk (E e) (yfd) ynj:=(yag (by kernel_rfl))
theorem ypo (e:List (Nat×EffF)) (he:EG e):∀ F H Q,yfd 38508400 F H Q→LoopT (E e) ynj F H Q:=by
 intro F H Q h
 have go:=LoopT.intro (yaC (ylx e he) 5) (ypT e he) (yeH Q) (by
   intro F H h
   unfold yeH ycC at h
   split at h
   · exact h
   · exact h) (by
   intro n F H h
   unfold yeH ycC at h
   split at h
   · exact (yn5 ..).mpr h
   · exact h.elim)
 have h:ycC F H _:=h
 unfold ycC at h
 split at h
 · obtain ⟨n,h⟩:=h;exact go n _ _ h
 · exact h.elim
theorem ytd (e:List (Nat×EffF)) ( p0 K):WP (yhE e) 6 yuz [(.data p0)] K=yhC p0 (fun r0=>K (.int .i64 r0)):=by kernel_rfl
theorem yte (e:List (Nat×EffF)) (he:EG e):OkF (E e) ymm yeh:=by
 intro as K h
 unfold ymm yhD at h
 split at h
 · exact WP_ok (ylx e he) (ya8 (l:=[(38508400,ynj)]) ⟨ypo e he,trivial⟩ (by kernel_rfl)) (by kernel_rfl) (by kernel_rfl) (fun _=>yab (by kernel_rfl) _) (he.num _ (by kernel_rfl)) ((ytd ..).mpr h)
 · exact h.elim
abbrev ybj:Type:=Int→Int→Int→Int→(Int→Prop)→Prop
def ynz (a0:yeW) (a1:yfJ) (p0 p1 p2 p3:Int) (K:Int→Prop):Prop :=
 (a0 p0 p1 (fun yi0 =>
 (a0 p2 p3 (fun yi1 =>
 (a1 ([(.int .i64 yi0),(.int .i64 yi1)]:List PV) (fun yi2 =>
 (K yi2)))))))
def ybG (p0 p1 p2 p3:Int) (K:Int→Prop):Prop:=ynz ycL yel p0 p1 p2 p3 K
def yem (w:ybj) (as:List PV) (K:PV→Prop):Prop :=
 match as with
 | [(.agg [(.int .i64 p0),(.int .i64 p1)]),(.agg [(.int .i64 p2),(.int .i64 p3)])]=>w p0 p1 p2 p3 (fun r0=>K (.int .i64 r0))
 | _=>False
def yrH (as:List PV) (K:PV→Prop):Prop:=yem ybG as K
def yAc (_:yeW) (_:yfJ):LP:=fun _ _ _ _ =>
 False
def yrI (e:List (Nat×EffF)) (a0:yeW) (a1:yfJ):SE:=⟨(E e),lookS [(ydZ,yjf a0),(yeh,yhD a1)],lookI [],yAc a0 a1⟩
theorem yyT (e:List (Nat×EffF)) (he:EG e):SEOk (yrI e ycL yel):=yam ⟨(yny e he),(yte e he),trivial⟩ trivial he.ok
theorem yAd (e:List (Nat×EffF)) (a0 a1 p0 p1 p2 p3 K):WP (yrI e a0 a1) 6 yBC [(.agg [(.int .i64 p0),(.int .i64 p1)]),(.agg [(.int .i64 p2),(.int .i64 p3)])] K=ynz a0 a1 p0 p1 p2 p3 (fun r0=>K (.int .i64 r0)):=by kernel_rfl
theorem yg4 (e:List (Nat×EffF)) (he:EG e):OkF (E e) yrH ybF:=by
 intro as K h
 unfold yrH yem at h
 split at h
 · exact WP_ok (yyT e he) (yag (by kernel_rfl)) (by kernel_rfl) (by kernel_rfl) (fun _=>yab (by kernel_rfl) _) (he.num _ (by kernel_rfl)) ((yAd ..).mpr h)
 · exact h.elim
abbrev ygP:Type:=Int→(Bool→Prop)→Prop
def yii (p0:Int) (K:Bool→Prop):Prop :=
 (K (p0 != p0))
def ygQ (p0:Int) (K:Bool→Prop):Prop:=yii p0 K
def yij (w:ygP) (as:List PV) (K:PV→Prop):Prop :=
 match as with
 | [(.int .i64 p0)]=>w p0 (fun r0=>K (.bool r0))
 | _=>False
def ynA (as:List PV) (K:PV→Prop):Prop:=yij ygQ as K
def yuE:LP:=fun _ _ _ _ =>
 False
def ynB (e:List (Nat×EffF)):SE:=⟨(E e),lookS [],lookI [],yuE⟩
theorem ytf (e:List (Nat×EffF)) (he:EG e):SEOk (ynB e):=yam trivial trivial he.ok
theorem yuF (e:List (Nat×EffF)) ( p0 K):WP (ynB e) 6 yvI [(.int .i64 p0)] K=yii p0 (fun r0=>K (.bool r0)):=by kernel_rfl
theorem yuG (e:List (Nat×EffF)) (he:EG e):OkF (E e) ynA ydx:=by
 intro as K h
 unfold ynA yij at h
 split at h
 · exact WP_ok (ytf e he) (yag (by kernel_rfl)) (by kernel_rfl) (by kernel_rfl) (fun _=>yab (by kernel_rfl) _) (he.num _ (by kernel_rfl)) ((yuF ..).mpr h)
 · exact h.elim
abbrev yfe:Type:=Int→Int→(Int→Prop)→Prop
def yg5 (a0:ygP) (p0 p1:Int) (K:Int→Prop):Prop :=
 (a0 p0 (fun yb0 =>
 (a0 p1 (fun yb1 =>
 (cbr yb0
 (cbr yb1
 (K (0:Int))
 (K (-1:Int)))
 (cbr yb1
 (K (1:Int))
 (cbr (decide (p0<p1))
 (K (-1:Int))
 (cbr (decide (p0>p1))
 (K (1:Int))
 (K (0:Int))))))))))
def ydP (p0 p1:Int) (K:Int→Prop):Prop:=yg5 ygQ p0 p1 K
def yg6 (w:yfe) (as:List PV) (K:PV→Prop):Prop :=
 match as with
 | [(.int .i64 p0),(.int .i64 p1)]=>w p0 p1 (fun r0=>K (.int .i64 r0))
 | _=>False
def yly (as:List PV) (K:PV→Prop):Prop:=yg6 ydP as K
def yrJ (_:ygP):LP:=fun _ _ _ _ =>
 False
def ylz (e:List (Nat×EffF)) (a0:ygP):SE:=⟨(E e),lookS [(ydx,yij a0)],lookI [],yrJ a0⟩
theorem yrk (e:List (Nat×EffF)) (he:EG e):SEOk (ylz e ygQ):=yam ⟨(yuG e he),trivial⟩ trivial he.ok
theorem yrK (e:List (Nat×EffF)) (a0 p0 p1 K):WP (ylz e a0) 6 yta [(.int .i64 p0),(.int .i64 p1)] K=yg5 a0 p0 p1 (fun r0=>K (.int .i64 r0)):=by kernel_rfl
theorem yrL (e:List (Nat×EffF)) (he:EG e):OkF (E e) yly ydO:=by
 intro as K h
 unfold yly yg6 at h
 split at h
 · exact WP_ok (yrk e he) (yag (by kernel_rfl)) (by kernel_rfl) (by kernel_rfl) (fun _=>yab (by kernel_rfl) _) (he.num _ (by kernel_rfl)) ((yrK ..).mpr h)
 · exact h.elim
abbrev ygh:Type:=Int→Int→(Int→Int→Prop)→Prop
def yuH (p0 p1:Int) (K:Int→Int→Prop):Prop :=
 (K (IntKind.u64.wrap ((IntKind.u64.wrap ((IntKind.u64.wrap ((Int.fdiv p0 4294967296)*(Int.fdiv p1 4294967296)))+(Int.fdiv (IntKind.u64.wrap ((IntKind.u64.wrap ((Int.fdiv p0 4294967296)*(IntKind.u64.wrap (BitVec.ofInt IntKind.u64.bits p1&&&BitVec.ofInt IntKind.u64.bits (4294967295:Int)).toNat)))+(Int.fdiv (IntKind.u64.wrap ((IntKind.u64.wrap (BitVec.ofInt IntKind.u64.bits p0&&&BitVec.ofInt IntKind.u64.bits (4294967295:Int)).toNat)*(IntKind.u64.wrap (BitVec.ofInt IntKind.u64.bits p1&&&BitVec.ofInt IntKind.u64.bits (4294967295:Int)).toNat))) 4294967296))) 4294967296)))+(Int.fdiv (IntKind.u64.wrap ((IntKind.u64.wrap (BitVec.ofInt IntKind.u64.bits (IntKind.u64.wrap ((IntKind.u64.wrap ((Int.fdiv p0 4294967296)*(IntKind.u64.wrap (BitVec.ofInt IntKind.u64.bits p1&&&BitVec.ofInt IntKind.u64.bits (4294967295:Int)).toNat)))+(Int.fdiv (IntKind.u64.wrap ((IntKind.u64.wrap (BitVec.ofInt IntKind.u64.bits p0&&&BitVec.ofInt IntKind.u64.bits (4294967295:Int)).toNat)*(IntKind.u64.wrap (BitVec.ofInt IntKind.u64.bits p1&&&BitVec.ofInt IntKind.u64.bits (4294967295:Int)).toNat))) 4294967296)))&&&BitVec.ofInt IntKind.u64.bits (4294967295:Int)).toNat)+(IntKind.u64.wrap ((IntKind.u64.wrap (BitVec.ofInt IntKind.u64.bits p0&&&BitVec.ofInt IntKind.u64.bits (4294967295:Int)).toNat)*(Int.fdiv p1 4294967296))))) 4294967296))) (IntKind.u64.wrap (p0*p1)))
def yeu (p0 p1:Int) (K:Int→Int→Prop):Prop:=yuH p0 p1 K
def ynC (w:ygh) (as:List PV) (K:PV→Prop):Prop :=
 match as with
 | [(.int .u64 p0),(.int .u64 p1)]=>w p0 p1 (fun r0 r1=>K (.tup [(.int .u64 r0),(.int .u64 r1)]))
 | _=>False
def yAe (as:List PV) (K:PV→Prop):Prop:=ynC yeu as K
def yIl:LP:=fun _ _ _ _ =>
 False
def yAf (e:List (Nat×EffF)):SE:=⟨(E e),lookS [],lookI [],yIl⟩
theorem yGm (e:List (Nat×EffF)) (he:EG e):SEOk (yAf e):=yam trivial trivial he.ok
theorem yIm (e:List (Nat×EffF)) ( p0 p1 K):WP (yAf e) 6 yKf [(.int .u64 p0),(.int .u64 p1)] K=yuH p0 p1 (fun r0 r1=>K (.tup [(.int .u64 r0),(.int .u64 r1)])):=by kernel_rfl
theorem yuI (e:List (Nat×EffF)) (he:EG e):OkF (E e) yAe yec:=by
 intro as K h
 unfold yAe ynC at h
 split at h
 · exact WP_ok (yGm e he) (yag (by kernel_rfl)) (by kernel_rfl) (by kernel_rfl) (fun _=>yab (by kernel_rfl) _) (he.num _ (by kernel_rfl)) ((yIm ..).mpr h)
 · exact h.elim
abbrev yfM:Type:=Int→(Bool→Prop)→Prop
def yhF (p0:Int) (K:Bool→Prop):Prop :=
 (K (p0 != p0))
def yfN (p0:Int) (K:Bool→Prop):Prop:=yhF p0 K
def yhG (w:yfM) (as:List PV) (K:PV→Prop):Prop :=
 match as with
 | [(.int .u64 p0)]=>w p0 (fun r0=>K (.bool r0))
 | _=>False
def ymn (as:List PV) (K:PV→Prop):Prop:=yhG yfN as K
def ytg:LP:=fun _ _ _ _ =>
 False
def ymo (e:List (Nat×EffF)):SE:=⟨(E e),lookS [],lookI [],ytg⟩
theorem yrM (e:List (Nat×EffF)) (he:EG e):SEOk (ymo e):=yam trivial trivial he.ok
theorem yth (e:List (Nat×EffF)) ( p0 K):WP (ymo e) 6 yuA [(.int .u64 p0)] K=yhF p0 (fun r0=>K (.bool r0)):=by kernel_rfl
theorem yti (e:List (Nat×EffF)) (he:EG e):OkF (E e) ymn ydf:=by
 intro as K h
 unfold ymn yhG at h
 split at h
 · exact WP_ok (yrM e he) (yag (by kernel_rfl)) (by kernel_rfl) (by kernel_rfl) (fun _=>yab (by kernel_rfl) _) (he.num _ (by kernel_rfl)) ((yth ..).mpr h)
 · exact h.elim
abbrev yeI:Type:=Int→Int→(Int→Prop)→Prop
def ygG (a0:yfM) (p0 p1:Int) (K:Int→Prop):Prop :=
 (a0 p0 (fun yb0 =>
 (a0 p1 (fun yb1 =>
 (cbr yb0
 (cbr yb1
 (K (0:Int))
 (K (-1:Int)))
 (cbr yb1
 (K (1:Int))
 (cbr (decide (p0<p1))
 (K (-1:Int))
 (cbr (decide (p0>p1))
 (K (1:Int))
 (K (0:Int))))))))))
def ydq (p0 p1:Int) (K:Int→Prop):Prop:=ygG yfN p0 p1 K
def ygH (w:yeI) (as:List PV) (K:PV→Prop):Prop :=
 match as with
 | [(.int .u64 p0),(.int .u64 p1)]=>w p0 p1 (fun r0=>K (.int .i64 r0))
 | _=>False
def yjZ (as:List PV) (K:PV→Prop):Prop:=ygH ydq as K
def yrl (_:yfM):LP:=fun _ _ _ _ =>
 False
def yj0 (e:List (Nat×EffF)) (a0:yfM):SE:=⟨(E e),lookS [(ydf,yhG a0)],lookI [],yrl a0⟩
theorem ypU (e:List (Nat×EffF)) (he:EG e):SEOk (yj0 e yfN):=yam ⟨(yti e he),trivial⟩ trivial he.ok
theorem yrm (e:List (Nat×EffF)) (a0 p0 p1 K):WP (yj0 e a0) 6 yrC [(.int .u64 p0),(.int .u64 p1)] K=ygG a0 p0 p1 (fun r0=>K (.int .i64 r0)):=by kernel_rfl
theorem yrn (e:List (Nat×EffF)) (he:EG e):OkF (E e) yjZ ycz:=by
 intro as K h
 unfold yjZ ygH at h
 split at h
 · exact WP_ok (ypU e he) (yag (by kernel_rfl)) (by kernel_rfl) (by kernel_rfl) (fun _=>yab (by kernel_rfl) _) (he.num _ (by kernel_rfl)) ((yrm ..).mpr h)
 · exact h.elim
abbrev ymw:Type:=List PV→(Int→Prop)→Prop
def ycD (x0:Int→Prop) (x1:Int→List PV→Int→Int→Bool→Prop):Nat→Int→List PV→Int→Int→Prop
 | 0,_,_,_,_=>False
 | n+1,i0,l1,i2,i3 =>
 (cbr (decide (i3<i2))
 (asr (decide ((0:Int)≤i3))
 (asr (decide (i3<(((List.length l1):Nat):Int)))
 (asr (conf (.one (.i .i64)) (List.getD l1 (i3.toNat) .nils))
 (cbr ((intOfV (List.getD l1 (i3.toNat) .nils)) != i0)
 (x0 (intOfV (List.getD l1 (i3.toNat) .nils)))
 (ycD x0 x1 n i0 l1 i2 (IntKind.i64.wrap (i3+(1:Int))))))))
 (x1 i0 l1 i2 i3 false))
def yoB (p0:List PV) (K:Int→Prop):Prop :=
 (∃ n:Nat,ycD
 (fun yi0=>(K yi0))
 (fun yi1 _ _ _ _=>(K yi1))
 n (0:Int) p0 (((List.length p0):Nat):Int) (0:Int))
def yjg (p0:List PV) (K:Int→Prop):Prop:=yoB p0 K
def yoC (w:ymw) (as:List PV) (K:PV→Prop):Prop :=
 match as with
 | [(.data p0)]=>w p0 (fun r0=>K (.int .i64 r0))
 | _=>False
def ytW (as:List PV) (K:PV→Prop):Prop:=yoC yjg as K
def yfk (F:Frm) (H:Hp) (A0:Int→List PV→Int→Int→Prop):Prop :=
 match F,H with
 | [(3,.v (.int .i64 i0)),(6,.v (.data l1)),(7,.v (.int .i64 i2)),(8,.v (.int .i64 i3))],[]=>(A0 i0 l1 i2 i3)
 | _,_=>False
def ykk (Q:Ex→Frm→Hp→Prop):Int→Prop:=(fun i0=>Q .ret [(2,.v (.int .i64 i0))] [])
def ykl (Q:Ex→Frm→Hp→Prop):Int→List PV→Int→Int→Bool→Prop:=(fun i0 l1 i2 i3 b4=>Q (.exit 0) [(3,.v (.int .i64 i0)),(6,.v (.data l1)),(7,.v (.int .i64 i2)),(8,.v (.int .i64 i3)),(9,.v (.bool b4))] [])
def yjh (Q:Ex→Frm→Hp→Prop) (n:Nat) (F:Frm) (H:Hp):Prop:=yfk F H (fun i0 l1 i2 i3=>ycD (ykk Q) (ykl Q) n i0 l1 i2 i3)
def ykX:LP:=fun id F H Q =>
 bif Nat.beq id 53260600 then yfk F H (fun i0 l1 i2 i3=>∃ n:Nat,ycD (ykk Q) (ykl Q) n i0 l1 i2 i3) else
 False
def yoD (e:List (Nat×EffF)):SE:=⟨(E e),lookS [],lookI [],ykX⟩
theorem yrN (e:List (Nat×EffF)) (he:EG e):SEOk (yoD e):=yam trivial trivial he.ok
theorem ytj (e:List (Nat×EffF)) ( Q n i0 l1 i2 i3):WC (E e) (callW (yoD e) 5) (ykX) ynk [(3,.v (.int .i64 i0)),(6,.v (.data l1)),(7,.v (.int .i64 i2)),(8,.v (.int .i64 i3))] [] (fun x F' H'=>match x with | .norm=>yjh Q n F' H' | .exit i=>Q (.exit i) F' H' | .ret=>Q .ret F' H')=ycD (ykk Q) (ykl Q) (n+1) i0 l1 i2 i3:=by kernel_rfl
theorem yxt (e:List (Nat×EffF)) (_:EG e):LpOk (E e) (ykX) ynk:=(yag (by kernel_rfl))
theorem yvM (e:List (Nat×EffF)) (he:EG e):∀ F H Q,ykX 53260600 F H Q→LoopT (E e) ynk F H Q:=by
 intro F H Q h
 have go:=LoopT.intro (yaC (yrN e he) 5) (yxt e he) (yjh Q) (by
   intro F H h
   unfold yjh yfk at h
   split at h
   · exact h
   · exact h) (by
   intro n F H h
   unfold yjh yfk at h
   split at h
   · exact (ytj ..).mpr h
   · exact h.elim)
 have h:yfk F H _:=h
 unfold yfk at h
 split at h
 · obtain ⟨n,h⟩:=h;exact go n _ _ h
 · exact h.elim
theorem yBP (e:List (Nat×EffF)) ( p0 K):WP (yoD e) 6 yD5 [(.data p0)] K=yoB p0 (fun r0=>K (.int .i64 r0)):=by kernel_rfl
theorem yBQ (e:List (Nat×EffF)) (he:EG e):OkF (E e) ytW yiZ:=by
 intro as K h
 unfold ytW yoC at h
 split at h
 · exact WP_ok (yrN e he) (ya8 (l:=[(53260600,ynk)]) ⟨yvM e he,trivial⟩ (by kernel_rfl)) (by kernel_rfl) (by kernel_rfl) (fun _=>yab (by kernel_rfl) _) (he.num _ (by kernel_rfl)) ((yBP ..).mpr h)
 · exact h.elim
abbrev ybJ:Type:=Int→Int→Int→Int→(Int→Int→Prop)→Prop
def ypV (a0:ybj) (a1:yfe) (a2:ybv) (a3:ygh) (a4:yeI) (a5:ymw) (p0 p1 p2 p3:Int) (K:Int→Int→Prop):Prop :=
 (a0 p0 p1 p2 p3 (fun yi0 =>
 (cbr (yi0 !=(0:Int))
 (K (0:Int) yi0)
 (cbr ((decide (p0<(0:Int))) !=(decide (p2<(0:Int))))
 (a1 p0 p2 (fun yi1 =>
 (K yi1 (0:Int))))
 (a2 p0 (fun yi2 =>
 (a3 yi2 (IntKind.u64.wrap p3) (fun yi3 yi4 =>
 (a2 p2 (fun yi5 =>
 (a3 yi5 (IntKind.u64.wrap p1) (fun yi6 yi7 =>
 (a4 yi3 yi6 (fun yi8 =>
 (a4 yi4 yi7 (fun yi9 =>
 (a5 ([(.int .i64 yi8),(.int .i64 yi9)]:List PV) (fun yi10 =>
 (cbr (decide (p0<(0:Int)))
 (K (IntKind.i64.wrap ((0:Int)-yi10)) (0:Int))
 (K yi10 (0:Int)))))))))))))))))))))
def ybK (p0 p1 p2 p3:Int) (K:Int→Int→Prop):Prop:=ypV ybG ydP ycc yeu ydq yjg p0 p1 p2 p3 K
def yfO (w:ybJ) (as:List PV) (K:PV→Prop):Prop :=
 match as with
 | [(.agg [(.int .i64 p0),(.int .i64 p1)]),(.agg [(.int .i64 p2),(.int .i64 p3)])]=>w p0 p1 p2 p3 (fun r0 r1=>K (.tup [(.int .i64 r0),(.int .i64 r1)]))
 | _=>False
def yvN (as:List PV) (K:PV→Prop):Prop:=yfO ybK as K
def yEe (_:ybj) (_:yfe) (_:ybv) (_:ygh) (_:yeI) (_:ymw):LP:=fun _ _ _ _ =>
 False
def yvO (e:List (Nat×EffF)) (a0:ybj) (a1:yfe) (a2:ybv) (a3:ygh) (a4:yeI) (a5:ymw):SE:=⟨(E e),lookS [(ybF,yem a0),(ydO,yg6 a1),(ybh,yeV a2),(yec,ynC a3),(ycz,ygH a4),(yiZ,yoC a5)],lookI [],yEe a0 a1 a2 a3 a4 a5⟩
theorem yBR (e:List (Nat×EffF)) (he:EG e):SEOk (yvO e ybG ydP ycc yeu ydq yjg):=yam ⟨(yg4 e he),(yrL e he),(yhY e he),(yuI e he),(yrn e he),(yBQ e he),trivial⟩ trivial he.ok
theorem yEf (e:List (Nat×EffF)) (a0 a1 a2 a3 a4 a5 p0 p1 p2 p3 K):WP (yvO e a0 a1 a2 a3 a4 a5) 6 yGb [(.agg [(.int .i64 p0),(.int .i64 p1)]),(.agg [(.int .i64 p2),(.int .i64 p3)])] K=ypV a0 a1 a2 a3 a4 a5 p0 p1 p2 p3 (fun r0 r1=>K (.tup [(.int .i64 r0),(.int .i64 r1)])):=by kernel_rfl
theorem yhs (e:List (Nat×EffF)) (he:EG e):OkF (E e) yvN ycA:=by
 intro as K h
 unfold yvN yfO at h
 split at h
 · exact WP_ok (yBR e he) (yag (by kernel_rfl)) (by kernel_rfl) (by kernel_rfl) (fun _=>yab (by kernel_rfl) _) (he.num _ (by kernel_rfl)) ((yEf ..).mpr h)
 · exact h.elim
abbrev ysZ:Type:=Int→(Int→Prop)→Prop
def yuJ (p0:Int) (K:Int→Prop):Prop :=
 (cbr (decide (p0≥(4294967296:Int)))
 (cbr (decide ((Int.fdiv p0 4294967296)≥(65536:Int)))
 (cbr (decide ((Int.fdiv (Int.fdiv p0 4294967296) 65536)≥(256:Int)))
 (asr (decide ((0:Int)≤(IntKind.u8.wrap (Int.fdiv (Int.fdiv (Int.fdiv p0 4294967296) 65536) 256))))
 (asr (decide ((IntKind.u8.wrap (Int.fdiv (Int.fdiv (Int.fdiv p0 4294967296) 65536) 256))<(256:Int)))
 (K (IntKind.i64.wrap ((56:Int)+(IntKind.i64.wrap (intOfV (List.getD len8tab ((IntKind.u8.wrap (Int.fdiv (Int.fdiv (Int.fdiv p0 4294967296) 65536) 256)).toNat) .nils))))))))
 (asr (decide ((0:Int)≤(IntKind.u8.wrap (Int.fdiv (Int.fdiv p0 4294967296) 65536))))
 (asr (decide ((IntKind.u8.wrap (Int.fdiv (Int.fdiv p0 4294967296) 65536))<(256:Int)))
 (K (IntKind.i64.wrap ((48:Int)+(IntKind.i64.wrap (intOfV (List.getD len8tab ((IntKind.u8.wrap (Int.fdiv (Int.fdiv p0 4294967296) 65536)).toNat) .nils)))))))))
 (cbr (decide ((Int.fdiv p0 4294967296)≥(256:Int)))
 (asr (decide ((0:Int)≤(IntKind.u8.wrap (Int.fdiv (Int.fdiv p0 4294967296) 256))))
 (asr (decide ((IntKind.u8.wrap (Int.fdiv (Int.fdiv p0 4294967296) 256))<(256:Int)))
 (K (IntKind.i64.wrap ((40:Int)+(IntKind.i64.wrap (intOfV (List.getD len8tab ((IntKind.u8.wrap (Int.fdiv (Int.fdiv p0 4294967296) 256)).toNat) .nils))))))))
 (asr (decide ((0:Int)≤(IntKind.u8.wrap (Int.fdiv p0 4294967296))))
 (asr (decide ((IntKind.u8.wrap (Int.fdiv p0 4294967296))<(256:Int)))
 (K (IntKind.i64.wrap ((32:Int)+(IntKind.i64.wrap (intOfV (List.getD len8tab ((IntKind.u8.wrap (Int.fdiv p0 4294967296)).toNat) .nils))))))))))
 (cbr (decide (p0≥(65536:Int)))
 (cbr (decide ((Int.fdiv p0 65536)≥(256:Int)))
 (asr (decide ((0:Int)≤(IntKind.u8.wrap (Int.fdiv (Int.fdiv p0 65536) 256))))
 (asr (decide ((IntKind.u8.wrap (Int.fdiv (Int.fdiv p0 65536) 256))<(256:Int)))
 (K (IntKind.i64.wrap ((24:Int)+(IntKind.i64.wrap (intOfV (List.getD len8tab ((IntKind.u8.wrap (Int.fdiv (Int.fdiv p0 65536) 256)).toNat) .nils))))))))
 (asr (decide ((0:Int)≤(IntKind.u8.wrap (Int.fdiv p0 65536))))
 (asr (decide ((IntKind.u8.wrap (Int.fdiv p0 65536))<(256:Int)))
 (K (IntKind.i64.wrap ((16:Int)+(IntKind.i64.wrap (intOfV (List.getD len8tab ((IntKind.u8.wrap (Int.fdiv p0 65536)).toNat) .nils)))))))))
 (cbr (decide (p0≥(256:Int)))
 (asr (decide ((0:Int)≤(IntKind.u8.wrap (Int.fdiv p0 256))))
 (asr (decide ((IntKind.u8.wrap (Int.fdiv p0 256))<(256:Int)))
 (K (IntKind.i64.wrap ((8:Int)+(IntKind.i64.wrap (intOfV (List.getD len8tab ((IntKind.u8.wrap (Int.fdiv p0 256)).toNat) .nils))))))))
 (asr (decide ((0:Int)≤(IntKind.u8.wrap p0)))
 (asr (decide ((IntKind.u8.wrap p0)<(256:Int)))
 (K (IntKind.i64.wrap ((0:Int)+(IntKind.i64.wrap (intOfV (List.getD len8tab ((IntKind.u8.wrap p0).toNat) .nils)))))))))))
def ypp (p0:Int) (K:Int→Prop):Prop:=yuJ p0 K
def yuK (w:ysZ) (as:List PV) (K:PV→Prop):Prop :=
 match as with
 | [(.int .u64 p0)]=>w p0 (fun r0=>K (.int .i64 r0))
 | _=>False
def yAg (as:List PV) (K:PV→Prop):Prop:=yuK ypp as K
def yIn:LP:=fun _ _ _ _ =>
 False
def yAh (e:List (Nat×EffF)):SE:=⟨(E e),lookS [],lookI [],yIn⟩
theorem yGn (e:List (Nat×EffF)) (he:EG e):SEOk (yAh e):=yam trivial trivial he.ok
theorem yIo (e:List (Nat×EffF)) ( p0 K):WP (yAh e) 6 yKg [(.int .u64 p0)] K=yuJ p0 (fun r0=>K (.int .i64 r0)):=by kernel_rfl
theorem yIp (e:List (Nat×EffF)) (he:EG e):OkF (E e) yAg ymX:=by
 intro as K h
 unfold yAg yuK at h
 split at h
 · exact WP_ok (yGn e he) (yag (by kernel_rfl)) (by kernel_rfl) (by kernel_rfl) (fun _=>yab (by kernel_rfl) _) (he.num _ (by kernel_rfl)) ((yIo ..).mpr h)
 · exact h.elim
abbrev ybq:Type:=Int→(Int→Prop)→Prop
def yhH (a0:ysZ) (p0:Int) (K:Int→Prop):Prop :=
 (a0 p0 (fun yi0 =>
 (K (IntKind.i64.wrap ((64:Int)-yi0)))))
def ya7 (p0:Int) (K:Int→Prop):Prop:=yhH ypp p0 K
def yhI (w:ybq) (as:List PV) (K:PV→Prop):Prop :=
 match as with
 | [(.int .u64 p0)]=>w p0 (fun r0=>K (.int .i64 r0))
 | _=>False
def ymp (as:List PV) (K:PV→Prop):Prop:=yhI ya7 as K
def ytk (_:ysZ):LP:=fun _ _ _ _ =>
 False
def ymq (e:List (Nat×EffF)) (a0:ysZ):SE:=⟨(E e),lookS [(ymX,yuK a0)],lookI [],ytk a0⟩
theorem yrO (e:List (Nat×EffF)) (he:EG e):SEOk (ymq e ypp):=yam ⟨(yIp e he),trivial⟩ trivial he.ok
theorem ytl (e:List (Nat×EffF)) (a0 p0 K):WP (ymq e a0) 6 yuB [(.int .u64 p0)] K=yhH a0 p0 (fun r0=>K (.int .i64 r0)):=by kernel_rfl
theorem ytm (e:List (Nat×EffF)) (he:EG e):OkF (E e) ymp yei:=by
 intro as K h
 unfold ymp yhI at h
 split at h
 · exact WP_ok (yrO e he) (yag (by kernel_rfl)) (by kernel_rfl) (by kernel_rfl) (fun _=>yab (by kernel_rfl) _) (he.num _ (by kernel_rfl)) ((ytl ..).mpr h)
 · exact h.elim
abbrev ykm:Type:=Int→Int→Int→(Int→Int→Prop)→Prop
mutual
def ygi (a0:ybq) (x60530100_0:Int→Int→Int→Int→Int→Int→Int→Int→Int→Bool→Prop) (x60530100_1:Int→Int→Int→Int→Int→Int→Int→Int→Int→Bool→Prop):Nat→Int→Int→Int→Int→Int→Int→Int→Int→Int→Prop
 | 0,_,_,_,_,_,_,_,_,_=>False
 | n60530100+1,i0,i1,i2,i3,i4,i5,i6,i7,i8 =>
 (cbr (decide (i7≥(4294967296:Int)))
 (cbr (decide ((IntKind.u64.wrap (i8+i2))≥(4294967296:Int)))
 (x60530100_0 i0 i1 i2 i3 i4 i5 i6 (IntKind.u64.wrap (i7-(1:Int))) (IntKind.u64.wrap (i8+i2)) true)
 (ycM a0 x60530100_0 x60530100_1 n60530100 i0 i1 i2 i3 i4 i5 i6 (IntKind.u64.wrap (i7-(1:Int))) (IntKind.u64.wrap (i8+i2)) false))
 (cbr (decide ((IntKind.u64.wrap (i7*i3))>(IntKind.u64.wrap ((IntKind.u64.wrap ((4294967296:Int)*i8))+i5))))
 (cbr (decide ((IntKind.u64.wrap (i8+i2))≥(4294967296:Int)))
 (x60530100_0 i0 i1 i2 i3 i4 i5 i6 (IntKind.u64.wrap (i7-(1:Int))) (IntKind.u64.wrap (i8+i2)) true)
 (ycM a0 x60530100_0 x60530100_1 n60530100 i0 i1 i2 i3 i4 i5 i6 (IntKind.u64.wrap (i7-(1:Int))) (IntKind.u64.wrap (i8+i2)) false))
 (x60530100_1 i0 i1 i2 i3 i4 i5 i6 i7 i8 false)))
def ycM (a0:ybq) (x60530100_0:Int→Int→Int→Int→Int→Int→Int→Int→Int→Bool→Prop) (x60530100_1:Int→Int→Int→Int→Int→Int→Int→Int→Int→Bool→Prop):Nat→Int→Int→Int→Int→Int→Int→Int→Int→Int→Bool→Prop
 | 0,_,_,_,_,_,_,_,_,_,_=>False
 | n60530100+1,i0,i1,i2,i3,i4,i5,i6,i7,i8,_ =>
 (cbr (decide (i7≥(4294967296:Int)))
 (cbr (decide ((IntKind.u64.wrap (i8+i2))≥(4294967296:Int)))
 (x60530100_0 i0 i1 i2 i3 i4 i5 i6 (IntKind.u64.wrap (i7-(1:Int))) (IntKind.u64.wrap (i8+i2)) true)
 (ycM a0 x60530100_0 x60530100_1 n60530100 i0 i1 i2 i3 i4 i5 i6 (IntKind.u64.wrap (i7-(1:Int))) (IntKind.u64.wrap (i8+i2)) false))
 (cbr (decide ((IntKind.u64.wrap (i7*i3))>(IntKind.u64.wrap ((IntKind.u64.wrap ((4294967296:Int)*i8))+i5))))
 (cbr (decide ((IntKind.u64.wrap (i8+i2))≥(4294967296:Int)))
 (x60530100_0 i0 i1 i2 i3 i4 i5 i6 (IntKind.u64.wrap (i7-(1:Int))) (IntKind.u64.wrap (i8+i2)) true)
 (ycM a0 x60530100_0 x60530100_1 n60530100 i0 i1 i2 i3 i4 i5 i6 (IntKind.u64.wrap (i7-(1:Int))) (IntKind.u64.wrap (i8+i2)) false))
 (x60530100_1 i0 i1 i2 i3 i4 i5 i6 i7 i8 false)))
end
mutual
def yd4 (a0:ybq) (x60530101_0:Int→Int→Int→Int→Int→Int→Int→Int→Int→Bool→Prop) (x60530101_1:Int→Int→Int→Int→Int→Int→Int→Int→Int→Bool→Prop):Nat→Int→Int→Int→Int→Int→Int→Int→Int→Int→Prop
 | 0,_,_,_,_,_,_,_,_,_=>False
 | n60530101+1,i0,i1,i2,i3,i4,i5,i6,i7,i8 =>
 (cbr (decide (i8≥(4294967296:Int)))
 (cbr (decide ((IntKind.u64.wrap (i6+i2))≥(4294967296:Int)))
 (x60530101_0 i0 i1 i2 i3 i4 i5 (IntKind.u64.wrap (i6+i2)) i7 (IntKind.u64.wrap (i8-(1:Int))) true)
 (ycN a0 x60530101_0 x60530101_1 n60530101 i0 i1 i2 i3 i4 i5 (IntKind.u64.wrap (i6+i2)) i7 (IntKind.u64.wrap (i8-(1:Int))) false))
 (cbr (decide ((IntKind.u64.wrap (i8*i3))>(IntKind.u64.wrap ((IntKind.u64.wrap ((4294967296:Int)*i6))+i4))))
 (cbr (decide ((IntKind.u64.wrap (i6+i2))≥(4294967296:Int)))
 (x60530101_0 i0 i1 i2 i3 i4 i5 (IntKind.u64.wrap (i6+i2)) i7 (IntKind.u64.wrap (i8-(1:Int))) true)
 (ycN a0 x60530101_0 x60530101_1 n60530101 i0 i1 i2 i3 i4 i5 (IntKind.u64.wrap (i6+i2)) i7 (IntKind.u64.wrap (i8-(1:Int))) false))
 (x60530101_1 i0 i1 i2 i3 i4 i5 i6 i7 i8 false)))
def ycN (a0:ybq) (x60530101_0:Int→Int→Int→Int→Int→Int→Int→Int→Int→Bool→Prop) (x60530101_1:Int→Int→Int→Int→Int→Int→Int→Int→Int→Bool→Prop):Nat→Int→Int→Int→Int→Int→Int→Int→Int→Int→Bool→Prop
 | 0,_,_,_,_,_,_,_,_,_,_=>False
 | n60530101+1,i0,i1,i2,i3,i4,i5,i6,i7,i8,_ =>
 (cbr (decide (i8≥(4294967296:Int)))
 (cbr (decide ((IntKind.u64.wrap (i6+i2))≥(4294967296:Int)))
 (x60530101_0 i0 i1 i2 i3 i4 i5 (IntKind.u64.wrap (i6+i2)) i7 (IntKind.u64.wrap (i8-(1:Int))) true)
 (ycN a0 x60530101_0 x60530101_1 n60530101 i0 i1 i2 i3 i4 i5 (IntKind.u64.wrap (i6+i2)) i7 (IntKind.u64.wrap (i8-(1:Int))) false))
 (cbr (decide ((IntKind.u64.wrap (i8*i3))>(IntKind.u64.wrap ((IntKind.u64.wrap ((4294967296:Int)*i6))+i4))))
 (cbr (decide ((IntKind.u64.wrap (i6+i2))≥(4294967296:Int)))
 (x60530101_0 i0 i1 i2 i3 i4 i5 (IntKind.u64.wrap (i6+i2)) i7 (IntKind.u64.wrap (i8-(1:Int))) true)
 (ycN a0 x60530101_0 x60530101_1 n60530101 i0 i1 i2 i3 i4 i5 (IntKind.u64.wrap (i6+i2)) i7 (IntKind.u64.wrap (i8-(1:Int))) false))
 (x60530101_1 i0 i1 i2 i3 i4 i5 i6 i7 i8 false)))
end
def yuL (a0:ybq) (p0 p1 p2:Int) (K:Int→Int→Prop):Prop :=
 (cbr (p2 ==(0:Int))
 False
 (cbr (decide (p2≤p0))
 False
 (cbr (p0 ==(0:Int))
 (asr (!(decide (p2=(0:Int))))
 (asr (!(decide (p2=(0:Int))))
 (K (IntKind.u64.wrap (Int.tdiv p1 p2)) (Int.tmod p1 p2))))
 (a0 p2 (fun yi0 =>
 (asr (!(decide ((IntKind.u64.wrap yi0)<(0:Int))))
 (asr (!(decide ((IntKind.u64.wrap yi0)<(0:Int))))
 (asr (!(decide ((IntKind.u64.wrap ((64:Int)-(IntKind.u64.wrap yi0)))<(0:Int))))
 (asr (!(decide ((IntKind.u64.wrap yi0)<(0:Int))))
 (asr (!(decide ((Int.fdiv (IntKind.u64.wrap (p2*2 ^ (min (IntKind.u64.wrap yi0).toNat IntKind.u64.bits))) 4294967296)=(0:Int))))
 (∃ n60530100:Nat,ygi a0
 (fun yi1 yi2 yi3 yi4 yi5 yi6 yi7 yi8 _ _=>(asr (!(decide (yi3=(0:Int))))
 (∃ n60530101:Nat,yd4 a0
 (fun yi11 yi12 _ _ yi15 yi16 _ yi18 yi19 _=>(asr (!(decide (yi12<(0:Int))))
 (K (IntKind.u64.wrap ((IntKind.u64.wrap (yi16*(4294967296:Int)))+yi19)) (Int.fdiv (IntKind.u64.wrap ((IntKind.u64.wrap ((IntKind.u64.wrap (yi18*(4294967296:Int)))+yi15))-(IntKind.u64.wrap (yi19*yi11)))) (2 ^ (min yi12.toNat IntKind.u64.bits))))))
 (fun yi21 yi22 _ _ yi25 yi26 _ yi28 yi29 _=>(asr (!(decide (yi22<(0:Int))))
 (K (IntKind.u64.wrap ((IntKind.u64.wrap (yi26*(4294967296:Int)))+yi29)) (Int.fdiv (IntKind.u64.wrap ((IntKind.u64.wrap ((IntKind.u64.wrap (yi28*(4294967296:Int)))+yi25))-(IntKind.u64.wrap (yi29*yi21)))) (2 ^ (min yi22.toNat IntKind.u64.bits))))))
 n60530101 yi1 yi2 yi3 yi4 yi7 yi8 (IntKind.u64.wrap ((IntKind.u64.wrap ((IntKind.u64.wrap ((IntKind.u64.wrap (yi5*(4294967296:Int)))+yi6))-(IntKind.u64.wrap (yi8*yi1))))-(IntKind.u64.wrap ((IntKind.u64.wrap (Int.tdiv (IntKind.u64.wrap ((IntKind.u64.wrap ((IntKind.u64.wrap (yi5*(4294967296:Int)))+yi6))-(IntKind.u64.wrap (yi8*yi1)))) yi3))*yi3)))) (IntKind.u64.wrap ((IntKind.u64.wrap ((IntKind.u64.wrap (yi5*(4294967296:Int)))+yi6))-(IntKind.u64.wrap (yi8*yi1)))) (IntKind.u64.wrap (Int.tdiv (IntKind.u64.wrap ((IntKind.u64.wrap ((IntKind.u64.wrap (yi5*(4294967296:Int)))+yi6))-(IntKind.u64.wrap (yi8*yi1)))) yi3)))))
 (fun yi31 yi32 yi33 yi34 yi35 yi36 yi37 yi38 _ _=>(asr (!(decide (yi33=(0:Int))))
 (∃ n60530101:Nat,yd4 a0
 (fun yi41 yi42 _ _ yi45 yi46 _ yi48 yi49 _=>(asr (!(decide (yi42<(0:Int))))
 (K (IntKind.u64.wrap ((IntKind.u64.wrap (yi46*(4294967296:Int)))+yi49)) (Int.fdiv (IntKind.u64.wrap ((IntKind.u64.wrap ((IntKind.u64.wrap (yi48*(4294967296:Int)))+yi45))-(IntKind.u64.wrap (yi49*yi41)))) (2 ^ (min yi42.toNat IntKind.u64.bits))))))
 (fun yi51 yi52 _ _ yi55 yi56 _ yi58 yi59 _=>(asr (!(decide (yi52<(0:Int))))
 (K (IntKind.u64.wrap ((IntKind.u64.wrap (yi56*(4294967296:Int)))+yi59)) (Int.fdiv (IntKind.u64.wrap ((IntKind.u64.wrap ((IntKind.u64.wrap (yi58*(4294967296:Int)))+yi55))-(IntKind.u64.wrap (yi59*yi51)))) (2 ^ (min yi52.toNat IntKind.u64.bits))))))
 n60530101 yi31 yi32 yi33 yi34 yi37 yi38 (IntKind.u64.wrap ((IntKind.u64.wrap ((IntKind.u64.wrap ((IntKind.u64.wrap (yi35*(4294967296:Int)))+yi36))-(IntKind.u64.wrap (yi38*yi31))))-(IntKind.u64.wrap ((IntKind.u64.wrap (Int.tdiv (IntKind.u64.wrap ((IntKind.u64.wrap ((IntKind.u64.wrap (yi35*(4294967296:Int)))+yi36))-(IntKind.u64.wrap (yi38*yi31)))) yi33))*yi33)))) (IntKind.u64.wrap ((IntKind.u64.wrap ((IntKind.u64.wrap (yi35*(4294967296:Int)))+yi36))-(IntKind.u64.wrap (yi38*yi31)))) (IntKind.u64.wrap (Int.tdiv (IntKind.u64.wrap ((IntKind.u64.wrap ((IntKind.u64.wrap (yi35*(4294967296:Int)))+yi36))-(IntKind.u64.wrap (yi38*yi31)))) yi33)))))
 n60530100 (IntKind.u64.wrap (p2*2 ^ (min (IntKind.u64.wrap yi0).toNat IntKind.u64.bits))) (IntKind.u64.wrap yi0) (Int.fdiv (IntKind.u64.wrap (p2*2 ^ (min (IntKind.u64.wrap yi0).toNat IntKind.u64.bits))) 4294967296) (IntKind.u64.wrap (BitVec.ofInt IntKind.u64.bits (IntKind.u64.wrap (p2*2 ^ (min (IntKind.u64.wrap yi0).toNat IntKind.u64.bits)))&&&BitVec.ofInt IntKind.u64.bits (4294967295:Int)).toNat) (IntKind.u64.wrap (BitVec.ofInt IntKind.u64.bits (IntKind.u64.wrap (p0*2 ^ (min (IntKind.u64.wrap yi0).toNat IntKind.u64.bits)))|||BitVec.ofInt IntKind.u64.bits (Int.fdiv p1 (2 ^ (min (IntKind.u64.wrap ((64:Int)-(IntKind.u64.wrap yi0))).toNat IntKind.u64.bits)))).toNat) (Int.fdiv (IntKind.u64.wrap (p1*2 ^ (min (IntKind.u64.wrap yi0).toNat IntKind.u64.bits))) 4294967296) (IntKind.u64.wrap (BitVec.ofInt IntKind.u64.bits (IntKind.u64.wrap (p1*2 ^ (min (IntKind.u64.wrap yi0).toNat IntKind.u64.bits)))&&&BitVec.ofInt IntKind.u64.bits (4294967295:Int)).toNat) (IntKind.u64.wrap (Int.tdiv (IntKind.u64.wrap (BitVec.ofInt IntKind.u64.bits (IntKind.u64.wrap (p0*2 ^ (min (IntKind.u64.wrap yi0).toNat IntKind.u64.bits)))|||BitVec.ofInt IntKind.u64.bits (Int.fdiv p1 (2 ^ (min (IntKind.u64.wrap ((64:Int)-(IntKind.u64.wrap yi0))).toNat IntKind.u64.bits)))).toNat) (Int.fdiv (IntKind.u64.wrap (p2*2 ^ (min (IntKind.u64.wrap yi0).toNat IntKind.u64.bits))) 4294967296))) (IntKind.u64.wrap ((IntKind.u64.wrap (BitVec.ofInt IntKind.u64.bits (IntKind.u64.wrap (p0*2 ^ (min (IntKind.u64.wrap yi0).toNat IntKind.u64.bits)))|||BitVec.ofInt IntKind.u64.bits (Int.fdiv p1 (2 ^ (min (IntKind.u64.wrap ((64:Int)-(IntKind.u64.wrap yi0))).toNat IntKind.u64.bits)))).toNat)-(IntKind.u64.wrap ((IntKind.u64.wrap (Int.tdiv (IntKind.u64.wrap (BitVec.ofInt IntKind.u64.bits (IntKind.u64.wrap (p0*2 ^ (min (IntKind.u64.wrap yi0).toNat IntKind.u64.bits)))|||BitVec.ofInt IntKind.u64.bits (Int.fdiv p1 (2 ^ (min (IntKind.u64.wrap ((64:Int)-(IntKind.u64.wrap yi0))).toNat IntKind.u64.bits)))).toNat) (Int.fdiv (IntKind.u64.wrap (p2*2 ^ (min (IntKind.u64.wrap yi0).toNat IntKind.u64.bits))) 4294967296)))*(Int.fdiv (IntKind.u64.wrap (p2*2 ^ (min (IntKind.u64.wrap yi0).toNat IntKind.u64.bits))) 4294967296))))))))))))))))
def ygj (p0 p1 p2:Int) (K:Int→Int→Prop):Prop:=yuL ya7 p0 p1 p2 K
def ypW (w:ykm) (as:List PV) (K:PV→Prop):Prop :=
 match as with
 | [(.int .u64 p0),(.int .u64 p1),(.int .u64 p2)]=>w p0 p1 p2 (fun r0 r1=>K (.tup [(.int .u64 r0),(.int .u64 r1)]))
 | _=>False
def yAi (as:List PV) (K:PV→Prop):Prop:=ypW ygj as K
def yiC (F:Frm) (H:Hp) (A0:Int→Int→Int→Int→Int→Int→Int→Int→Int→Prop) (A1:Int→Int→Int→Int→Int→Int→Int→Int→Int→Bool→Prop):Prop :=
 match F,H with
 | [(2,.v (.int .u64 i0)),(8,.v (.int .u64 i1)),(9,.v (.int .u64 i2)),(10,.v (.int .u64 i3)),(11,.v (.int .u64 i4)),(13,.v (.int .u64 i5)),(14,.v (.int .u64 i6)),(15,.v (.int .u64 i7)),(16,.v (.int .u64 i8))],[]=>(A0 i0 i1 i2 i3 i4 i5 i6 i7 i8)
 | [(2,.v (.int .u64 i0)),(8,.v (.int .u64 i1)),(9,.v (.int .u64 i2)),(10,.v (.int .u64 i3)),(11,.v (.int .u64 i4)),(13,.v (.int .u64 i5)),(14,.v (.int .u64 i6)),(15,.v (.int .u64 i7)),(16,.v (.int .u64 i8)),(85,.v (.bool b9))],[]=>(A1 i0 i1 i2 i3 i4 i5 i6 i7 i8 b9)
 | _,_=>False
def yiD (F:Frm) (H:Hp) (A0:Int→Int→Int→Int→Int→Int→Int→Int→Int→Prop) (A1:Int→Int→Int→Int→Int→Int→Int→Int→Int→Bool→Prop):Prop :=
 match F,H with
 | [(2,.v (.int .u64 i0)),(8,.v (.int .u64 i1)),(9,.v (.int .u64 i2)),(10,.v (.int .u64 i3)),(14,.v (.int .u64 i4)),(15,.v (.int .u64 i5)),(16,.v (.int .u64 i6)),(17,.v (.int .u64 i7)),(18,.v (.int .u64 i8))],[]=>(A0 i0 i1 i2 i3 i4 i5 i6 i7 i8)
 | [(2,.v (.int .u64 i0)),(8,.v (.int .u64 i1)),(9,.v (.int .u64 i2)),(10,.v (.int .u64 i3)),(14,.v (.int .u64 i4)),(15,.v (.int .u64 i5)),(16,.v (.int .u64 i6)),(17,.v (.int .u64 i7)),(18,.v (.int .u64 i8)),(120,.v (.bool b9))],[]=>(A1 i0 i1 i2 i3 i4 i5 i6 i7 i8 b9)
 | _,_=>False
def ygk (Q:Ex→Frm→Hp→Prop):Int→Int→Int→Int→Int→Int→Int→Int→Int→Bool→Prop:=(fun i0 i1 i2 i3 i4 i5 i6 i7 i8 b9=>Q (.exit 0) [(2,.v (.int .u64 i0)),(8,.v (.int .u64 i1)),(9,.v (.int .u64 i2)),(10,.v (.int .u64 i3)),(11,.v (.int .u64 i4)),(13,.v (.int .u64 i5)),(14,.v (.int .u64 i6)),(15,.v (.int .u64 i7)),(16,.v (.int .u64 i8)),(85,.v (.bool b9))] [])
def ygl (Q:Ex→Frm→Hp→Prop):Int→Int→Int→Int→Int→Int→Int→Int→Int→Bool→Prop:=(fun i0 i1 i2 i3 i4 i5 i6 i7 i8 b9=>Q (.exit 0) [(2,.v (.int .u64 i0)),(8,.v (.int .u64 i1)),(9,.v (.int .u64 i2)),(10,.v (.int .u64 i3)),(11,.v (.int .u64 i4)),(13,.v (.int .u64 i5)),(14,.v (.int .u64 i6)),(15,.v (.int .u64 i7)),(16,.v (.int .u64 i8)),(78,.v (.bool b9))] [])
def ygm (Q:Ex→Frm→Hp→Prop):Int→Int→Int→Int→Int→Int→Int→Int→Int→Bool→Prop:=(fun i0 i1 i2 i3 i4 i5 i6 i7 i8 b9=>Q (.exit 2) [(2,.v (.int .u64 i0)),(8,.v (.int .u64 i1)),(9,.v (.int .u64 i2)),(10,.v (.int .u64 i3)),(14,.v (.int .u64 i4)),(15,.v (.int .u64 i5)),(16,.v (.int .u64 i6)),(17,.v (.int .u64 i7)),(18,.v (.int .u64 i8)),(120,.v (.bool b9))] [])
def ygn (Q:Ex→Frm→Hp→Prop):Int→Int→Int→Int→Int→Int→Int→Int→Int→Bool→Prop:=(fun i0 i1 i2 i3 i4 i5 i6 i7 i8 b9=>Q (.exit 2) [(2,.v (.int .u64 i0)),(8,.v (.int .u64 i1)),(9,.v (.int .u64 i2)),(10,.v (.int .u64 i3)),(14,.v (.int .u64 i4)),(15,.v (.int .u64 i5)),(16,.v (.int .u64 i6)),(17,.v (.int .u64 i7)),(18,.v (.int .u64 i8)),(113,.v (.bool b9))] [])
def ylA (a0:ybq) (Q:Ex→Frm→Hp→Prop) (n:Nat) (F:Frm) (H:Hp):Prop:=yiC F H (fun i0 i1 i2 i3 i4 i5 i6 i7 i8=>ygi a0 (ygk Q) (ygl Q) n i0 i1 i2 i3 i4 i5 i6 i7 i8) (fun i0 i1 i2 i3 i4 i5 i6 i7 i8 b9=>ycM a0 (ygk Q) (ygl Q) n i0 i1 i2 i3 i4 i5 i6 i7 i8 b9)
def ylB (a0:ybq) (Q:Ex→Frm→Hp→Prop) (n:Nat) (F:Frm) (H:Hp):Prop:=yiD F H (fun i0 i1 i2 i3 i4 i5 i6 i7 i8=>yd4 a0 (ygm Q) (ygn Q) n i0 i1 i2 i3 i4 i5 i6 i7 i8) (fun i0 i1 i2 i3 i4 i5 i6 i7 i8 b9=>ycN a0 (ygm Q) (ygn Q) n i0 i1 i2 i3 i4 i5 i6 i7 i8 b9)
def yfP (a0:ybq):LP:=fun id F H Q =>
 bif Nat.beq id 60530100 then yiC F H (fun i0 i1 i2 i3 i4 i5 i6 i7 i8=>∃ n:Nat,ygi a0 (ygk Q) (ygl Q) n i0 i1 i2 i3 i4 i5 i6 i7 i8) (fun i0 i1 i2 i3 i4 i5 i6 i7 i8 b9=>∃ n:Nat,ycM a0 (ygk Q) (ygl Q) n i0 i1 i2 i3 i4 i5 i6 i7 i8 b9) else
 bif Nat.beq id 60530101 then yiD F H (fun i0 i1 i2 i3 i4 i5 i6 i7 i8=>∃ n:Nat,yd4 a0 (ygm Q) (ygn Q) n i0 i1 i2 i3 i4 i5 i6 i7 i8) (fun i0 i1 i2 i3 i4 i5 i6 i7 i8 b9=>∃ n:Nat,ycN a0 (ygm Q) (ygn Q) n i0 i1 i2 i3 i4 i5 i6 i7 i8 b9) else
 False
def ykn (e:List (Nat×EffF)) (a0:ybq):SE:=⟨(E e),lookS [(yei,yhI a0)],lookI [],yfP a0⟩
theorem yrP (e:List (Nat×EffF)) (he:EG e):SEOk (ykn e ya7):=yam ⟨(ytm e he),trivial⟩ trivial he.ok
theorem yxu (e:List (Nat×EffF)) (a0 Q n i0 i1 i2 i3 i4 i5 i6 i7 i8):WC (E e) (callW (ykn e a0) 5) (yfP a0) ykd [(2,.v (.int .u64 i0)),(8,.v (.int .u64 i1)),(9,.v (.int .u64 i2)),(10,.v (.int .u64 i3)),(11,.v (.int .u64 i4)),(13,.v (.int .u64 i5)),(14,.v (.int .u64 i6)),(15,.v (.int .u64 i7)),(16,.v (.int .u64 i8))] [] (fun x F' H'=>match x with | .norm=>ylA a0 Q n F' H' | .exit i=>Q (.exit i) F' H' | .ret=>Q .ret F' H')=ygi a0 (ygk Q) (ygl Q) (n+1) i0 i1 i2 i3 i4 i5 i6 i7 i8:=by kernel_rfl
theorem yxv (e:List (Nat×EffF)) (a0 Q n i0 i1 i2 i3 i4 i5 i6 i7 i8 b9):WC (E e) (callW (ykn e a0) 5) (yfP a0) ykd [(2,.v (.int .u64 i0)),(8,.v (.int .u64 i1)),(9,.v (.int .u64 i2)),(10,.v (.int .u64 i3)),(11,.v (.int .u64 i4)),(13,.v (.int .u64 i5)),(14,.v (.int .u64 i6)),(15,.v (.int .u64 i7)),(16,.v (.int .u64 i8)),(85,.v (.bool b9))] [] (fun x F' H'=>match x with | .norm=>ylA a0 Q n F' H' | .exit i=>Q (.exit i) F' H' | .ret=>Q .ret F' H')=ycM a0 (ygk Q) (ygl Q) (n+1) i0 i1 i2 i3 i4 i5 i6 i7 i8 b9:=by kernel_rfl
theorem yBS (e:List (Nat×EffF)) (_:EG e):LpOk (E e) (yfP ya7) ykd:=(yag (by kernel_rfl))
theorem yAj (e:List (Nat×EffF)) (he:EG e):∀ F H Q,yfP ya7 60530100 F H Q→LoopT (E e) ykd F H Q:=by
 intro F H Q h
 have go:=LoopT.intro (yaC (yrP e he) 5) (yBS e he) (ylA ya7 Q) (by
   intro F H h
   unfold ylA yiC at h
   split at h
   · exact h
   · exact h
   · exact h) (by
   intro n F H h
   unfold ylA yiC at h
   split at h
   · exact (yxu ..).mpr h
   · exact (yxv ..).mpr h
   · exact h.elim)
 have h:yiC F H _ _:=h
 unfold yiC at h
 split at h
 · obtain ⟨n,h⟩:=h;exact go n _ _ h
 · obtain ⟨n,h⟩:=h;exact go n _ _ h
 · exact h.elim
theorem yxw (e:List (Nat×EffF)) (a0 Q n i0 i1 i2 i3 i4 i5 i6 i7 i8):WC (E e) (callW (ykn e a0) 5) (yfP a0) yke [(2,.v (.int .u64 i0)),(8,.v (.int .u64 i1)),(9,.v (.int .u64 i2)),(10,.v (.int .u64 i3)),(14,.v (.int .u64 i4)),(15,.v (.int .u64 i5)),(16,.v (.int .u64 i6)),(17,.v (.int .u64 i7)),(18,.v (.int .u64 i8))] [] (fun x F' H'=>match x with | .norm=>ylB a0 Q n F' H' | .exit i=>Q (.exit i) F' H' | .ret=>Q .ret F' H')=yd4 a0 (ygm Q) (ygn Q) (n+1) i0 i1 i2 i3 i4 i5 i6 i7 i8:=by kernel_rfl
theorem yxx (e:List (Nat×EffF)) (a0 Q n i0 i1 i2 i3 i4 i5 i6 i7 i8 b9):WC (E e) (callW (ykn e a0) 5) (yfP a0) yke [(2,.v (.int .u64 i0)),(8,.v (.int .u64 i1)),(9,.v (.int .u64 i2)),(10,.v (.int .u64 i3)),(14,.v (.int .u64 i4)),(15,.v (.int .u64 i5)),(16,.v (.int .u64 i6)),(17,.v (.int .u64 i7)),(18,.v (.int .u64 i8)),(120,.v (.bool b9))] [] (fun x F' H'=>match x with | .norm=>ylB a0 Q n F' H' | .exit i=>Q (.exit i) F' H' | .ret=>Q .ret F' H')=ycN a0 (ygm Q) (ygn Q) (n+1) i0 i1 i2 i3 i4 i5 i6 i7 i8 b9:=by kernel_rfl
end Go.Pf.Vc
