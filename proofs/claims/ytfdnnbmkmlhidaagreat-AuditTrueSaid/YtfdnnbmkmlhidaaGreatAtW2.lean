/- Part 2 of what the statement rests on: a verified evaluator over pure values, the conditions of the program's functions, and their plain laws. -/
import Derived.Test.YtfdnnbmkmlhidaaGreatAtW1
namespace Go.Pf
open Go Go.ChangeShapes Go.WideShapes Go.ChangeAt Go.RowKit
section
variable {H:Type} {enc:TypeId×Value→H} {P:Program}
theorem yxE {f:Func} {s:ChangeSpec} {apart fresh handsOn again:Bool} {W W':World} {args:Array Value} {v:Value} {ds gs:List (DataW H)} {before pa pv:List MemPlace}
   (hW:DataW.Whole enc P f.params.toList s.vars apart W args.toList ds gs before)
   (hres:∀ (b:Nat) (sp:Nat→Bool) (hd:Bool),DataW.TrodAll enc P W' b sp hd f.resultTypes.toList (v.resultList f.resultTypes.size) (s.fn H (ds++gs)).results [])
   (hargs:∀ sp:Nat→Bool,(∀ p∈before,sp p.block=true)→DataW.TrodAll enc P W' 0 sp true f.params.toList args.toList (s.fn H (ds++gs)).args pa)
   (hvars:∀ sp:Nat→Bool,(∀ p∈before,sp p.block=true)→DataW.TrodVars enc P W' sp s.vars (s.fn H (ds++gs)).vars pv)
   (hps:before=pa++pv) (hb:Below W.heap.size W W')
   (hok:∀ (j:Nat) (t:TypeId) (r:Value),f.resultTypes[j]?=some t→(v.resultList f.resultTypes.size)[j]?=some r→Value.okWide P W' .any 0 t r) :
   s.post enc P f apart fresh handsOn again W args v W':=by
 have hlt:∀ p∈before,p.block<W.heap.size:=fun p hp=>hW.lt p hp
 have hold:∀ p∈before,(fun b=>decide (b<W.heap.size)) p.block=true:=fun p hp=>by simpa using hlt p hp
 refine ⟨ds,gs,before,[],pa,pv,hW,hres _ _ _,hargs _ hold,hvars _ hold,World.keptBut_mono (fun p hp=>⟨hp,?_⟩) (hb.frame (·∈before)),fun _=>?_⟩
 · rw [hps,List.mem_append] at hp
   exact Or.inr hp
 · obtain ⟨_,_,_,_,_,hz,hn⟩:=hW
   refine ⟨hok,_,_,([]++pa)++pv,⟨[]++pa,pv,trodAll_append (hargs _ (fun _ _=>rfl)) (hres _ _ _),hvars _ (fun _ _=>rfl),rfl,?_,?_⟩,?_⟩
   · intro b off hp
     have hin:MemPlace.cell b off∈before:=by rw [hps];simpa using hp
     rw [hb.frozen (hlt _ hin)]
     exact hz b off hin
   · intro ha
     have:=hn ha
     rw [hps] at this
     simpa using this
   · intro p hp _
     rw [hps]
     simpa using hp
theorem yJd (K:Kids P (·<P.types.size)) (hz:∀ t e,t<P.types.size→P.underlying t=some (.slice e)→0<P.cellsOf e) {n:FuncId} {fn:Func} {G:Nat→Option PV} {dss:List DS} {s:ChangeSpec} {bt:TypeId}
   (hty : tyL P dss fn.params.toList = true) (hrow : ∀ t ∈ fn.params.toList, t < P.types.size) (hf : P.funcs[n]? = some fn) (hn : (fn.name == "runtime.NumGoroutine") = false) (hb : fn.body.isSome = true)
   (hvars:s.vars=[]) (hfn:∀ ds:List (DataW H),ds.length=fn.params.toList.length→s.fn H (ds++[])={ results:=[.lit (.bool true)],args:=ds })
   (hrt:fn.resultTypes.toList=[bt]) (hbt:P.underlying bt=some .bool) (hsum:∀ as,HasAs dss as→SumOk P G n as (.bool true)) {apart fresh handsOn again:Bool}
   {W:World} {base:Nat} {args:Array Value} {ds gs:List (DataW H)} {before:List MemPlace} (hval:∀ (j:Nat) t v,fn.params[j]?=some t→args[j]?=some v→Value.okWide P W .any base t v)
   (hW:DataW.Whole enc P fn.params.toList s.vars apart W args.toList ds gs before) (J:Nat→Prop) (hJ:∀ b,J b→b<W.heap.size) (hG:GlobOk G (fun b=>(∃ p∈before,p.block=b)∨J b) W) :
   Calls P n args W fun e W'=>∃ v,e=.returned v∧s.post enc P fn apart fresh handsOn again W args v W':=by
 have hW':=hW
 obtain ⟨p,q,hA,hV,hpq,hfz,hnd⟩:=hW
 have hlt:∀ x∈before,x.block<W.heap.size:=fun x hx=>hW'.lt x hx
 rw [hvars] at hV
 obtain ⟨hgs,hq⟩:=trodVars_none hV
 subst hgs;subst hq
 rw [List.append_nil] at hpq
 subst hpq
 have hlen:ds.length=fn.params.toList.length:=by
   have len:∀ {ts:List TypeId} {vs:List Value} {xs:List (DataW H)} {ps:List MemPlace},DataW.TrodAll enc P W 0 (fun _=>true) true ts vs xs ps→xs.length=ts.length:=by
     intro ts
     induction ts with
     | nil =>
       intro vs xs ps h
       cases vs with
       | nil=>cases xs with
         | nil=>rfl
         | cons _ _=>exact h.elim
       | cons _ _=>exact h.elim
     | cons t ts ih =>
       intro vs xs ps h
       cases vs with
       | nil=>exact h.elim
       | cons v vs=>cases xs with
         | nil=>exact h.elim
         | cons x xs =>
           obtain ⟨_,_,_,h2,_⟩:=h
           simp [ih h2]
   exact len hA
 have hc:=yHI (I:=fun b=>(∃ x∈before,x.block=b)∨J b) K hty hrow hf hn hb hsum (W:=W) (base:=base) (args:=args) (fun j t v h1 h2=>hval j t v (by simpa using h1) (by simpa using h2)) hA (fun x hx=>.inl ⟨x,hx,rfl⟩)
   (fun b hb=>by
     rcases hb with ⟨x,hx,rfl⟩ | hb
     · exact hlt x hx
     · exact hJ b hb) hG
 refine hc.mono fun e W' ⟨he,hg⟩=>?_
 subst he
 have hrs:fn.resultTypes=#[bt]:=by rw [← Array.toList_inj];exact hrt
 refine ⟨_,rfl,yxE (pa:=before) (pv:=[]) hW' ?_ ?_ ?_ (by simp) hg ?_⟩
 · intro b sp hd
   rw [hfn ds hlen,hrs]
   exact trodAll_mk1 (shut_bool hbt true)
 · intro sp hs
   rw [hfn ds hlen]
   exact yFj K hz hg hrow hA hlt hs
 · intro sp hs
   rw [hfn ds hlen,hvars];rfl
 · intro j t r h1 h2
   rw [hrs] at h1 h2
   have hj:j=0:=by
     rcases j with _ | j
     · rfl
     · simp at h1
   subst hj
   simp at h1
   subst h1
   have:r=.bool true:=by
     have h3:((Value.bool true).resultList (#[bt]:Array TypeId).size)[0]?=some (.bool true):=rfl
     rw [h3] at h2
     exact (Option.some.inj h2).symm
   subst this
   exact okWide_bool_mk hbt true
end
end Go.Pf
namespace Go.Pf
open Go
def cellI:PV→Value
 | .int k n=>.int k n
 | _=>.bool false
def okL:List IntKind→List PV→Bool
 | [],[]=>true
 | k::ks,.int q n::r=>decide (q=k)&&(decide (k.min≤n)&&(decide (n≤k.max)&&okL ks r))
 | _,_=>false
def okI (ks:List IntKind):PV→Bool
 | .agg cs=>okL ks cs
 | _=>false
def encI (x:PV):List Value:=x.cells.map cellI
structure Srt where
 n:Nat
 g:Nat
 ks:List IntKind
 good:PV→Bool
 z:PV
def Srt.gd (s:Srt) (x:PV):Bool:=okI s.ks x&&s.good x
abbrev Srt.El (s:Srt):Type:={x:PV // s.gd x=true}
def Srt.enc (s:Srt) (x:s.El):List Value:=encI x.1
def Srt.rows? (s:Srt):List PV→Option (List s.El)
 | []=>some []
 | x::r=>if h:s.gd x=true then (match s.rows? r with | some l=>some (⟨x,h⟩::l) | none=>none) else none
theorem Srt.rows?_val {s:Srt}:∀ {l:List PV} {d:List s.El},s.rows? l=some d→d.map (·.1)=l
 | [],d,h=>by simp only [Srt.rows?] at h;cases h;rfl
 | x::r,d,h=>by
   simp only [Srt.rows?] at h
   split at h
   · split at h
     · rename_i l hl
       cases h
       rw [List.map_cons,Srt.rows?_val hl]
     · cases h
   · cases h
def Srt.sorted (s:Srt) (srt:Array s.El→Array s.El) (l:List PV):List PV :=
 match s.rows? l with
 | some d=>(srt d.toArray).toList.map (·.1)
 | none=>l
def Srt.cond (s:Srt) (rows:List PV) (lo len ext esz:Nat) (fz:Bool):Bool :=
 decide (rows.length=ext)&&(decide (lo+len≤ext)&&(decide (0<len)&&(decide (esz=s.ks.length)&&(!fz&&(decide (len<4611686018427387904)&&(s.rows? ((rows.drop lo).take len)).isSome)))))
def srtEff (s:Srt) (srt:Array s.El→Array s.El) (n:Nat) (xs:List PV) (H:Hp):Option (Bool×Bool×(PV×Hp)×(PV×Hp)) :=
 bif Nat.beq n s.n then
   (match xs with
    | [.own id lo len ext _,.fn (.func g) [] []] =>
      bif Nat.beq g s.g then
        (match H[id]? with
         | some b=>some (s.cond b.rows lo len ext b.esz b.fz,true,(.tup [],H.set id { b with rows:=b.rows.take lo++(s.sorted srt ((b.rows.drop lo).take len)++b.rows.drop (lo+len)) }),(.nils,[]))
         | none=>none)
      else none
    | [.nils,.fn (.func g) [] []]=>bif Nat.beq g s.g then some (true,true,(.tup [],H),(.nils,[])) else none
    | [.emp,.fn (.func g) [] []]=>bif Nat.beq g s.g then some (true,true,(.tup [],H),(.nils,[])) else none
    | _=>none)
 else none
theorem yJe {s:Srt} {srt:Array s.El→Array s.El} {n:Nat} {xs:List PV} {H:Hp} {x:Bool×Bool×(PV×Hp)×(PV×Hp)} (h:srtEff s srt n xs H=some x):n=s.n:=by
 unfold srtEff at h
 cases hb:Nat.beq n s.n with
 | true=>exact Nat.eq_of_beq_eq_true hb
 | false=>rw [hb] at h;cases h
structure Srts where
 s:Srt
 cf:s.El→s.El→Int
def Srts.srt (s:Srts) [Inhabited s.s.El] (d:Array s.s.El):Array s.s.El:=Go.Sort.pdq (fun x y=>decide (s.cf x y<0)) d 0 d.size (Go.Lib.bitLen d.size) true true
theorem yHJ {E:Env} {n esz bytes:Nat} {z:PV} (hf:E.fns n=some (cloneA esz bytes z)) (he:∀ as H,E.eff n as H=none) (b:Bool) (H:Hp):inline E 12 n [.mt b] H=some (bif b then .nils else .emp,H):=by
 cases b <;> simp [inline,Env.effx,armOf,he,exec,hf,cloneA,runReg,runOps,stepOp,guardOk,opOut,evV,ev,frame0,fget,fset,fdels,fdel,putBx,putDst,outV,Option.map,ressOf,resOf,packed,appV,rowsOf,headOk,srcOk]
theorem yC9 {E:Env} {n esz bytes:Nat} {z:PV} (hf:E.fns n=some (cloneA esz bytes z)) (he:∀ as H,E.eff n as H=none) {x:PV} {r:List PV} (h:cloneOk esz bytes (x::r)=true) (H:Hp) :
   inline E 12 n [.data (x::r)] H=some (.own H.length 0 (x::r).length (x::r).length none,H++[⟨false,true,esz,x::r⟩]):=by
 simp only [cloneOk,Bool.and_eq_true,decide_eq_true_eq,List.length_cons] at h
 obtain ⟨h1,h2⟩:=h
 simp [inline,Env.effx,armOf,he,exec,hf,cloneA,runReg,runOps,stepOp,guardOk,opOut,evV,ev,frame0,fget,fset,fdels,fdel,putBx,putDst,outV,Option.map,ressOf,resOf,packed,appV,rowsOf,h1,srcOk,appFresh,h2]
abbrev EffF:Type:=Nat→List PV→Hp→Option (Bool×Bool×(PV×Hp)×(PV×Hp))
def lookE:List (Nat×EffF)→EffF
 | [],_,_,_=>none
 | (k,e)::r,n,xs,H=>bif Nat.beq n k then (match e n xs H with | some x=>some x | none=>lookE r n xs H) else lookE r n xs H
theorem yGV:∀ {l:List (Nat×EffF)} {n:Nat} {xs:List PV} {H:Hp} {x:Bool×Bool×(PV×Hp)×(PV×Hp)},lookE l n xs H=some x→∃ e∈l,n=e.1
 | [],_,_,_,_,h=>by cases h
 | (k,e)::r,n,xs,H,x,h=>by
   simp only [lookE] at h
   cases hb:Nat.beq n k with
   | true=>exact ⟨(k,e),List.mem_cons_self,Nat.eq_of_beq_eq_true hb⟩
   | false =>
     rw [hb,cond_false] at h
     obtain ⟨e2,h1,h2⟩:=yGV h
     exact ⟨e2,List.mem_cons_of_mem _ h1,h2⟩
theorem ypN {P:Program} {E:Env}:∀ {l:List (Nat×EffF)},(∀ e∈l,InlineOk P E (fun n xs H=>armOf (e.2 n xs H)))→InlineOk P E (fun n xs H=>armOf (lookE l n xs H))
 | [],_=>fun _ _ _ _ _ h=>by cases h
 | (k,e)::r,h=>by
   intro f args H q H' hc
   dsimp only [lookE] at hc
   cases hb:Nat.beq f k with
   | false =>
     rw [hb,cond_false] at hc
     exact ypN (fun e2 h2=>h e2 (List.mem_cons_of_mem _ h2)) f args H q H' hc
   | true =>
     rw [hb,cond_true] at hc
     cases he:e f args H with
     | some x =>
       rw [he] at hc
       refine h (k,e) List.mem_cons_self f args H q H' ?_
       dsimp only
       rw [he]
       exact hc
     | none =>
       rw [he] at hc
       exact ypN (fun e2 h2=>h e2 (List.mem_cons_of_mem _ h2)) f args H q H' hc
def baseS (add sub:Nat) (tab:List (Nat×AFn)) (qui:List Nat) (cl:Clones) (gl:List (Nat×PV)) (ef:List (Nat×EffF)):Env:={ baseC add sub tab qui cl gl with eff:=lookE ef }
theorem yac {add sub:Nat} {tab:List (Nat×AFn)} {qui:List Nat} {cl:Clones} {gl:List (Nat×PV)} {ef:List (Nat×EffF)} {n:Nat} (h:special add sub cl n=false) (xs:List PV):(baseS add sub tab qui cl gl ef).sum n xs=none:=yFg (tab:=tab) (qui:=qui) (gl:=gl) h xs
theorem yHK {add sub:Nat} {tab:List (Nat×AFn)} {qui:List Nat} {cl:Clones} {gl:List (Nat×PV)} {ef:List (Nat×EffF)} (h:(ef.all fun e=>!memN qui e.1&&!special add sub cl e.1)=true):EffOk (baseS add sub tab qui cl gl ef):=by
 intro n xs H x hx
 obtain ⟨e,h1,rfl⟩:=yGV hx
 have h2:=List.all_eq_true.1 h e h1
 simp only [Bool.and_eq_true,Bool.not_eq_true'] at h2
 exact ⟨h2.1,rfl,fun xs=>yac (tab:=tab) (qui:=qui) (gl:=gl) (ef:=ef) h2.2 xs⟩
theorem yDa {P:Program} {add sub:Nat} {tab:List (Nat×AFn)} {qui:List Nat} {cl:Clones} {gl:List (Nat×PV)} {ef:List (Nat×EffF)} (h:EnvOk P (baseC add sub tab qui cl gl))
   (hs:∀ e∈ef,InlineOk P (baseC add sub tab qui cl gl) (fun n xs H=>armOf (e.2 n xs H))):EnvOk P (baseS add sub tab qui cl gl ef) where
 sum:=h.sum
 fns:=h.fns
 eff:=InlineOk.env (E:=baseC add sub tab qui cl gl) (E':=baseS add sub tab qui cl gl ef) rfl (ypN hs)
end Go.Pf
namespace Go.Pf
abbrev lt {α:Type} (x:α) (f:α→Prop):Prop:=f x
abbrev jn {α:Type} (f:α→Prop) (k:α):Prop:=f k
def rvB (n d:Int):Bool:=decide (1≤d)&&(decide (d≤1000000000000000000)&&(decide (-1000000000000000000≤n)&&(decide (n≤1000000000000000000)&&decide (Nat.gcd n.natAbs d.natAbs=1))))
def cmpI (a b c d:Int):Int:=if a*d<c*b then -1 else if c*b<a*d then 1 else 0
def spGood:PV→Bool
 | .agg [.int _ a,.int _ b,_,_]=>rvB a b
 | _=>false
def rtGood:PV→Bool
 | .agg [.int _ a,.int _ b]=>rvB a b
 | _=>false
def spCmp:PV→PV→Int
 | .agg [.int _ a,.int _ b,_,_],.agg [.int _ c,.int _ d,_,_]=>cmpI a b c d
 | _,_=>0
def rtCmp:PV→PV→Int
 | .agg [.int _ a,.int _ b],.agg [.int _ c,.int _ d]=>cmpI a b c d
 | _,_=>0
def spSrt (n g:Nat):Srts:=⟨⟨n,g,[.i64,.i64,.i64,.i64],spGood,.agg [.int .i64 0,.int .i64 1,.int .i64 0,.int .i64 1]⟩,fun x y=>spCmp x.1 y.1⟩
def rtSrt (n g:Nat):Srts:=⟨⟨n,g,[.i64,.i64],rtGood,.agg [.int .i64 0,.int .i64 1]⟩,fun x y=>rtCmp x.1 y.1⟩
instance (n g:Nat):Inhabited (spSrt n g).s.El:=⟨⟨.agg [.int .i64 0,.int .i64 1,.int .i64 0,.int .i64 1],rfl⟩⟩
instance (n g:Nat):Inhabited (rtSrt n g).s.El:=⟨⟨.agg [.int .i64 0,.int .i64 1],rfl⟩⟩
theorem yxF {n:Nat} {xs:List PV} {H:Hp}:∀ {l:List (Nat×EffF)},memN (l.map (·.1)) n=false→lookE l n xs H=none
 | [],_=>rfl
 | (k,e)::r,h=>by
   simp only [List.map_cons,memN] at h
   simp only [lookE]
   cases hb:Nat.beq k n with
   | true=>rw [hb] at h;cases h
   | false =>
     rw [hb,cond_false] at h
     have hb2:Nat.beq n k=false:=by
       cases hc:Nat.beq n k with
       | false=>rfl
       | true =>
         have:=Nat.eq_of_beq_eq_true hc
         subst this
         rw [Nat.beq_refl] at hb
         cases hb
     rw [hb2,cond_false]
     exact yxF h
structure EffG (E:List (Nat×EffF)→Env) (nums:List Nat) (e:List (Nat×EffF)):Prop where
 ok:EffOk (E e)
 num:∀ n,memN nums n=false→∀ xs H,(E e).eff n xs H=none
theorem yHL {add sub:Nat} {tab:List (Nat×AFn)} {qui:List Nat} {cl:Clones} {gl:List (Nat×PV)} {ef:List (Nat×EffF)}:∀ as K,yso as K→∃ r,K r∧Ans (baseS add sub tab qui cl gl ef) add as r:=by
 intro as K h
 unfold yso ysn at h
 split at h
 · rename_i a b c
   obtain ⟨h1,h⟩:=yad.1 h
   have h1:c.toNat≤1:=by simpa using h1
   refine ⟨_,h,0,fun m _=>?_⟩
   have e:sumC add sub add [.int .u64 a,.int .u64 b,.int .u64 c]=some (.tup [u64 ((a.toNat+b.toNat+c.toNat) % 18446744073709551616),u64 ((a.toNat+b.toNat+c.toNat) / 18446744073709551616)]):=by
     simp only [sumC,Nat.beq_refl,Bool.true_and,Nat.ble_eq_true_of_le h1,cond_true]
   simp only [pureRes,baseS,baseC,e,u64]
 · exact h.elim
theorem yHM {add sub:Nat} (hne:Nat.beq sub add=false) {tab:List (Nat×AFn)} {qui:List Nat} {cl:Clones} {gl:List (Nat×PV)} {ef:List (Nat×EffF)}:∀ as K,ysq as K→∃ r,K r∧Ans (baseS add sub tab qui cl gl ef) sub as r:=by
 intro as K h
 unfold ysq ysp at h
 split at h
 · rename_i a b c
   obtain ⟨h1,h⟩:=yad.1 h
   have h1:c.toNat≤1:=by simpa using h1
   refine ⟨_,h,0,fun m _=>?_⟩
   have e:sumC add sub sub [.int .u64 a,.int .u64 b,.int .u64 c]=some (.tup [u64 ((a.toNat+18446744073709551616-b.toNat-c.toNat) % 18446744073709551616),u64 (bif Nat.ble (b.toNat+c.toNat) a.toNat then 0 else 1)]):=by
     simp only [sumC,hne,Nat.beq_refl,Bool.true_and,Bool.false_and,Nat.ble_eq_true_of_le h1,cond_true,cond_false]
   simp only [pureRes,baseS,baseC,e,u64]
 · exact h.elim
end Go.Pf
namespace Go.Pf
open Go Go.Sort
theorem Srts.srt_size (S:Srts) [Inhabited S.s.El] (h:SWO (fun x y=>decide (S.cf x y<0))) (d:Array S.s.El):(S.srt d).size=d.size :=
 (pdq_sorts _ h d 0 d.size (Go.Lib.bitLen d.size) true true (Nat.zero_le _) (Nat.le_refl _) (Or.inl rfl)).1.1
theorem Srts.sorted_is (S:Srts) [Inhabited S.s.El] (h:SWO (fun x y=>decide (S.cf x y<0))) {rows:List PV} {d:List S.s.El} (hd:S.s.rows? rows=some d) :
   ∃ d':List S.s.El,d'.Perm d∧d'.Pairwise (fun x y=>¬S.cf y x<0)∧Srt.sorted S.s S.srt rows=d'.map (·.1):=by
 have e:Srt.sorted S.s S.srt rows=(S.srt d.toArray).toList.map (·.1):=by unfold Srt.sorted;rw [hd]
 obtain ⟨⟨h1,_,h3⟩,h4⟩:=pdq_sorts _ h d.toArray 0 d.toArray.size (Go.Lib.bitLen d.toArray.size) true true (Nat.zero_le _) (Nat.le_refl _) (Or.inl rfl)
 refine ⟨(S.srt d.toArray).toList,?_,?_,e⟩
 · have h5:(S.srt d.toArray).size=d.toArray.size:=h1
   have e1:(S.srt d.toArray).extract 0 d.toArray.size=S.srt d.toArray:=by rw [← h5];exact Array.extract_size
   have e2:d.toArray.extract 0 d.toArray.size=d.toArray:=Array.extract_size
   have h6:((S.srt d.toArray).extract 0 d.toArray.size).toList.Perm (d.toArray.extract 0 d.toArray.size).toList:=h3
   rw [e1,e2] at h6
   simpa using h6
 · have h5:(S.srt d.toArray).size=d.toArray.size:=h1
   rw [List.pairwise_iff_getElem]
   intro i j hi hj hij hlt
   rw [Array.length_toList] at hi hj
   have h6:SortedIn (fun x y=>decide (S.cf x y<0)) 0 d.toArray.size (S.srt d.toArray):=h4
   have:=h6 i j (Nat.zero_le _) hij (by rw [← h5];exact hj)
   rw [getElem!_pos (S.srt d.toArray) i hi,getElem!_pos (S.srt d.toArray) j hj] at this
   simp only [Array.getElem_toList] at hlt
   simp [hlt] at this
end Go.Pf
namespace Go.Pf
open Go Go.RowKit
def clnDOk (esz bytes:Nat) (rows:List PV) (lo len ext:Nat) (pu:Bool):Bool :=
 decide (rows.length=ext)&&(decide (lo+len≤ext)&&(pu&&(((rows.drop lo).take len).all PV.scal&&cloneOk esz bytes ((rows.drop lo).take len))))
def clnDEff (k esz bytes n:Nat) (xs:List PV) (H:Hp):Option (Bool×Bool×(PV×Hp)×(PV×Hp)) :=
 bif Nat.beq n k then
   (match xs with
    | [.own id lo len ext _]=>(match H[id]? with
      | some b=>some (clnDOk esz bytes b.rows lo len ext b.pu,true,(.data ((b.rows.drop lo).take len),H),(.nils,H))
      | none=>none)
    | _=>none)
 else none
theorem yK0 {I I':Nat→Prop} {w:World} {x:PV} {vs:List Value} (hs:x.scal=true) (h:RC I w x vs):RC I' w x vs:=by
 cases x <;> simp [PV.scal] at hs <;> simpa only [RC] using h
theorem yxG {I I':Nat→Prop} {w:World}:∀ (l:List PV) (esz b o:Nat),l.all PV.scal=true→RowsC I w l esz b o→RowsC I' w l esz b o
 | [],_,_,_,_,_=>by simp only [RowsC]
 | x::r,esz,b,o,hs,h=>by
   simp only [List.all_cons,Bool.and_eq_true] at hs
   simp only [RowsC] at h ⊢
   obtain ⟨⟨vs,h1,h2,h3⟩,h4⟩:=h
   exact ⟨⟨vs,h1,yK0 hs.1 h2,h3⟩,yxG r esz b (o+esz) hs.2 h4⟩
theorem yFk {P:Program} {E:Env} {k esz bytes:Nat} {z:PV} (hf:E.fns k=some (cloneA esz bytes z)) (he:∀ as H,E.eff k as H=none) (hcall:InlineOk P E (inline E 12)) :
   InlineOk P E (fun n xs H=>armOf (clnDEff k esz bytes n xs H)):=by
 intro f args H r H' h nt g F tmps w vs hr hv
 dsimp only at h
 unfold armOf at h
 split at h
 case h_2=>cases h
 rename_i c t x y hc
 unfold clnDEff at hc
 cases hb:Nat.beq f k with
 | false=>rw [hb] at hc;cases hc
 | true =>
   rw [hb,cond_true] at hc
   obtain rfl:=Nat.eq_of_beq_eq_true hb
   split at hc
   case h_2=>cases hc
   rename_i id lo len ext cap
   split at hc
   case h_2=>cases hc
   rename_i b hid
   simp only [Option.some.injEq,Prod.mk.injEq] at hc
   obtain ⟨hk,rfl,rfl,rfl⟩:=hc
   simp only [cond_true,Option.some.injEq,Prod.mk.injEq] at h
   obtain ⟨rfl,rfl⟩:=h
   simp only [clnDOk,Bool.and_eq_true,decide_eq_true_eq] at hk
   obtain ⟨k1,k2,k3,k4,k5⟩:=hk
   simp only [VRs] at hv
   obtain ⟨v,_,rfl,hv,rfl⟩:=hv
   have hp:purify1 H (.own id lo len ext cap)=some (.data ((b.rows.drop lo).take len),H.set id { b with fz:=true }):=by
     simp only [purify1,hid]
     rw [if_pos ⟨k1,k2,k3⟩]
   obtain ⟨g1,r1,_,_,_,c1,_⟩:=ym7 hr hv hp
   generalize hrows:(b.rows.drop lo).take len=rows at *
   let g0:Gh:=⟨fun _=>none,fun _=>none,g1.I⟩
   have r0:Rel E 0 g0 [] [] #[] w:=by
     refine ⟨Nat.zero_le _,fun s fv e=>by simp [fget] at e,fun id hb e=>by simp at e,fun id id' hb b o b' o' e=>by simp at e,fun id b o e=>by simp [g0] at e,fun s s' b e=>by simp [g0] at e,fun s b id o e=>by simp [g0] at e,fun s b e=>by simp [g0] at e,r1.imm,r1.glob⟩
   have noR:∀ b,¬RngR g0 b:=fun b ⟨id,o,e⟩=>by simp [g0] at e
   have noM:∀ b,¬MutF g0 b:=fun b ⟨s,e⟩=>by simp [g0] at e
   have bel:∀ {g2:Gh} {H2:Hp} {w':World},Nx g0 g2 [] H2 w w'→Bel w.heap.size w w':=fun n=>⟨⟨n.os,n.tape,n.output,n.size,fun k hk=>n.kept k hk (noR k) (noM k)⟩,n.drawn⟩
   cases rows with
   | cons q l =>
     have hv0:VRs g0 [] w [.data (q::l)] [v]:=by
       simp only [VRs,VR]
       exact ⟨v,[],rfl,c1,rfl⟩
     refine (hcall _ _ _ _ _ (yC9 hf he k5 []) 0 g0 [] #[] w [v] r0 hv0).mono fun v' w' ⟨g2,n2,r2,hv2⟩=>?_
     obtain ⟨g3,r3,n3,_,_,i3⟩:=hr.grew (bel n2)
     refine ⟨g3,n3,r3,?_⟩
     simp only [VR] at hv2
     obtain ⟨hb',a,c,e1,_,e3,e4,e5,_,e6⟩:=hv2
     simp only [List.nil_append,List.length_nil,List.getElem?_cons_zero,Option.some.injEq] at e1
     subst e1
     obtain ⟨b2,o2,e7,_,e8,_⟩:=e6 rfl
     obtain ⟨b3,o3,hblk⟩:=r2.heap 0 _ rfl
     have e9:=hblk.at_
     rw [show g2.ρ 0=some (b2,o2) from e7] at e9
     simp only [Option.some.injEq,Prod.mk.injEq] at e9
     obtain ⟨rfl,rfl⟩:=e9
     have hc:c≠0:=by
       simp only [List.length_cons] at e4
       omega
     have ha:=e8 hc
     subst ha
     have hge:w.heap.size≤b2:=by
       rcases Nat.lt_or_ge b2 w.heap.size with hlt | hge
       · exact absurd (n2.rng b2 hlt ⟨_,_,e7⟩) (noR b2)
       · exact hge
     have hlt:=r2.brng ⟨_,_,e7⟩
     simp only [VR,RC]
     refine ⟨_,_,c,by rw [e3],rfl,e4,e5,.inr ⟨b2,o2,esz,?_,?_,hblk.esz,yxG _ _ _ _ k4 (hblk.pure rfl)⟩⟩
     · simp
     · rw [i3];exact .inr ⟨hge,hlt⟩
   | nil =>
     simp only [RC] at c1
     obtain ⟨a,ln,cp,e1,e2,_,e4,_⟩:=c1
     simp only [List.cons.injEq,and_true] at e1
     simp only [List.length_nil] at e2
     subst e2 e1
     have hv0:VRs g0 [] w [.mt a.isNone] [.slice a 0 cp]:=by
       simp only [VRs,VR]
       exact ⟨_,_,rfl,⟨a,cp,rfl,e4,rfl⟩,rfl⟩
     refine (hcall _ _ _ _ _ (yHJ hf he a.isNone []) 0 g0 [] #[] w _ r0 hv0).mono fun v' w' ⟨g2,n2,_,hv2⟩=>?_
     obtain ⟨g3,r3,n3,_,_,_⟩:=hr.grew (bel n2)
     refine ⟨g3,n3,r3,?_⟩
     simp only [VR,RC]
     cases hn:a.isNone with
     | true =>
       rw [hn] at hv2
       simp only [cond_true,VR] at hv2
       exact ⟨none,0,0,by rw [hv2],rfl,Nat.le_refl _,by decide,.inl trivial⟩
     | false =>
       rw [hn] at hv2
       simp only [cond_false,VR] at hv2
       obtain ⟨a2,hv2⟩:=hv2
       exact ⟨a2,0,0,by rw [hv2],rfl,Nat.le_refl _,by decide,.inl trivial⟩
end Go.Pf
namespace Go.Pf.Vc
open Go Go.Pf
def yki:Nat:=4
def ydj:Nat:=5
def ykj:Nat:=6
def ybY:Nat:=17
def ygh:Nat:=14
def ygi:Nat:=15
def yaX:Nat:=44
def yct:Nat:=45
def yaZ:Nat:=25
def yd3:Nat:=66
def ybr:Nat:=43
def ydu:Nat:=79
def ydM:Nat:=63
def ydZ:Nat:=46
def yc1:Nat:=80
def ycu:Nat:=65
def yih:Nat:=64
def ygj:Nat:=42
def yaD:Nat:=57
def yck:Nat:=55
def yfA:Nat:=54
def ycM:Nat:=31
def yeH:Nat:=32
def yu8:Nat:=102
def ylm:Nat:=81
def yA4:Nat:=78
def ydg:Nat:=94
def ybq:Nat:=77
def yaL:Nat:=56
def ycX:Nat:=58
def ybQ:Nat:=33
def yaU:Nat:=60
def yaC:Nat:=59
def ycZ:Nat:=61
def yci:Nat:=62
def ycn:Nat:=34
def ycN:Nat:=47
def yii:Nat:=35
def ydh:Nat:=11
def yeI:Nat:=12
def yeT:Nat:=39
def yji:Nat:=16
def ygk:Nat:=7
def yfB:Nat:=40
def yej:Nat:=41
def yeu:Nat:=18
def ybn:Nat:=21
def yca:Nat:=20
def ydP:Nat:=19
def yhV:Nat:=48
def yhW:Nat:=49
def yd4:Nat:=67
def yjj:Nat:=51
def ynC:Nat:=50
def ycR:Nat:=24
def yev:Nat:=22
def ydk:Nat:=23
def yij:Nat:=8
def yhX:Nat:=28
def yeJ:Nat:=27
def ypO:Nat:=26
def ykk:Nat:=9
def ykl:Nat:=29
def ycP:Nat:=83
def yeU:Nat:=88
def ydl:Nat:=72
def yfC:Nat:=73
def ycv:Nat:=82
def ygl:Nat:=84
def ybZ:Nat:=69
def yfe:Nat:=68
def ygm:Nat:=74
def yik:Nat:=85
def ycs:Nat:=87
def ynD:Nat:=93
def yhI:Nat:=89
def yhY:Nat:=90
def yhZ:Nat:=91
def yhJ:Nat:=92
def ygI:Nat:=71
def yjk:Nat:=76
def yjl:Nat:=86
def ygn:Nat:=70
def ykm:Nat:=52
def ynE:Nat:=75
def yly:Nat:=53
def yil:Nat:=30
def ykn:Nat:=10
def yhn:Nat:=36
def yaG:Nat:=38
def ya6:Nat:=37
def yim:Nat:=13
def ykD:Nat:=3
def t0:Opd:=.t 0
def t1:Opd:=.t 1
def t4:Opd:=.t 4
def t5:Opd:=.t 5
def t7:Opd:=.t 7
def t8:Opd:=.t 8
def t9:Opd:=.t 9
def t10:Opd:=.t 10
def t11:Opd:=.t 11
def yDb:TFn:=⟨1,[.tmp 2],(.seq (oQ [O 1 (.boxL t0),O 2 (.mv (.c (.bool false)))] [0,2]) (.seq (.ops [O 3 (.fad 1 t1),oF 4 1 3,O 5 (.len t4),O 6 (.bin .gtr t5 (I 60)),M 7 6,⟨some 8,(.fad 2 t1),some (7,false)⟩,⟨some 9,(.load false 1 t8),some (7,false)⟩,⟨some 10,(.len t9),some (7,false)⟩,⟨some 11,(.bin .gtr t10 (I 60)),some (7,false)⟩,O 12 (.pick t7 (.c (.bool true)) t11),M 2 12] [⟨1,(.agg [.i .i64,.d,.d]),0⟩,⟨6,(.agg [.i .i64,.d,.d]),0⟩] [] [1,3,4,5,6,7,8,9,10,11,12]) .ret))⟩
def t55:Opd:=.t 55
def t57:Opd:=.t 57
def t58:Opd:=.t 58
def t61:Opd:=.t 61
def t62:Opd:=.t 62
def t63:Opd:=.t 63
def t67:Opd:=.t 67
def t68:Opd:=.t 68
def t72:Opd:=.t 72
def t73:Opd:=.t 73
def t74:Opd:=.t 74
def t75:Opd:=.t 75
def t76:Opd:=.t 76
def t77:Opd:=.t 77
def t78:Opd:=.t 78
def t80:Opd:=.t 80
def t81:Opd:=.t 81
def t82:Opd:=.t 82
def t83:Opd:=.t 83
def t84:Opd:=.t 84
def t85:Opd:=.t 85
def t86:Opd:=.t 86
def t87:Opd:=.t 87
def t89:Opd:=.t 89
def t90:Opd:=.t 90
def t91:Opd:=.t 91
def t92:Opd:=.t 92
def t93:Opd:=.t 93
def t94:Opd:=.t 94
def t95:Opd:=.t 95
def ylz:TCode:=(.seq (.seq (.ops [M 53 4,O 54 (.fad 2 t1),oF 55 1 54,O 56 (.len t55),oX 57 .lss 53 56] [⟨2,(.agg [.i .i64,.d,.d]),0⟩] [] [53,54,55,56]) (.cond t57 .skip (.exit 0))) (.seq (.block 1 (.seq (.seq (.ops [O 60 (.fad 1 t1),oF 61 1 60,M 62 4,O 63 (.bin .add t62 (I 1)),O 64 (.iad 1 t61 t63),oF 65 1 64,O 66 (.fad 1 t1),oF 67 1 66,M 68 4,O 69 (.iad 1 t67 t68),oF 70 1 69,oX 71 .leq 65 70,M 72 71,⟨some 73,(.fad 2 t1),some (72,false)⟩,⟨some 74,(.load false 1 t73),some (72,false)⟩,⟨some 75,(.mv t4),some (72,false)⟩,⟨some 76,(.iad 1 t74 t75),some (72,false)⟩,⟨some 77,(.load false 1 t76),some (72,false)⟩,⟨some 78,(.bin .lss t77 (I 0)),some (72,false)⟩,O 79 (.pick t72 (.c (.bool true)) t78),M 80 79,⟨some 81,(.fad 2 t1),some (80,false)⟩,⟨some 82,(.load false 1 t81),some (80,false)⟩,⟨some 83,(.mv t4),some (80,false)⟩,⟨some 84,(.iad 1 t82 t83),some (80,false)⟩,⟨some 85,(.load false 1 t84),some (80,false)⟩,⟨some 86,(.bin .gtr t85 (I 12)),some (80,false)⟩,O 87 (.pick t80 (.c (.bool true)) t86)] [⟨1,(.agg [.i .i64,.d,.d]),0⟩,⟨4,(.one (.i .i64)),0⟩,⟨5,(.one (.i .i64)),0⟩,⟨7,(.agg [.i .i64,.d,.d]),0⟩,⟨9,(.one (.i .i64)),0⟩,⟨10,(.one (.i .i64)),0⟩,⟨14,(.agg [.i .i64,.d,.d]),0⟩,⟨16,(.one (.i .i64)),0⟩,⟨17,(.one (.i .i64)),0⟩,⟨22,(.agg [.i .i64,.d,.d]),0⟩,⟨24,(.one (.i .i64)),0⟩,⟨25,(.one (.i .i64)),0⟩] [(0,2),(1,2),(0,3),(1,3),(0,6),(1,6),(2,6),(3,6),(4,6),(5,6),(0,7),(1,7),(2,7),(3,7),(4,7),(5,7),(0,8),(1,8),(2,8),(3,8),(4,8),(5,8),(6,8),(7,8),(0,9),(1,9),(2,9),(3,9),(4,9),(5,9),(0,10),(1,10),(2,10),(3,10),(4,10),(5,10),(13,15),(14,15),(21,23),(22,23)] [57,60,61,62,63,64,65,66,67,68,69,70,71,72,73,74,75,76,77,78,79,80,81,82,83,84,85,86]) (.cond t87 (.seq (oQ [O 2 (.mv (I 8))] [1,3,4,87]) .ret) .skip)) (.ops [M 88 3,M 89 88,⟨some 90,(.fad 2 t1),some (89,false)⟩,⟨some 91,(.load false 1 t90),some (89,false)⟩,⟨some 92,(.mv t4),some (89,false)⟩,⟨some 93,(.iad 1 t91 t92),some (89,false)⟩,⟨some 94,(.load false 1 t93),some (89,false)⟩,⟨some 95,(.bin .gtr t94 (I 0)),some (89,false)⟩,O 96 (.pick t89 (.c (.bool true)) t95),M 3 96] [⟨3,(.agg [.i .i64,.d,.d]),0⟩,⟨5,(.one (.i .i64)),0⟩,⟨6,(.one (.i .i64)),0⟩] [] [87,88,89,90,91,92,93,94,95,96]))) (oQ [M 58 4,O 59 (.bin .add t58 (I 1)),M 4 59] [58,59])))
def t6:Opd:=.t 6
def t12:Opd:=.t 12
def t13:Opd:=.t 13
def t15:Opd:=.t 15
def t17:Opd:=.t 17
def t18:Opd:=.t 18
def t19:Opd:=.t 19
def t20:Opd:=.t 20
def t21:Opd:=.t 21
def t23:Opd:=.t 23
def t24:Opd:=.t 24
def t25:Opd:=.t 25
def t26:Opd:=.t 26
def t27:Opd:=.t 27
def t28:Opd:=.t 28
def t29:Opd:=.t 29
def t30:Opd:=.t 30
def t31:Opd:=.t 31
def t33:Opd:=.t 33
def t34:Opd:=.t 34
def t35:Opd:=.t 35
def t36:Opd:=.t 36
def t37:Opd:=.t 37
def t38:Opd:=.t 38
def t40:Opd:=.t 40
def t41:Opd:=.t 41
def t42:Opd:=.t 42
def t43:Opd:=.t 43
def t44:Opd:=.t 44
def t45:Opd:=.t 45
def t46:Opd:=.t 46
def t47:Opd:=.t 47
def t48:Opd:=.t 48
def t49:Opd:=.t 49
def t50:Opd:=.t 50
def t51:Opd:=.t 51
def t52:Opd:=.t 52
def t97:Opd:=.t 97
def t98:Opd:=.t 98
def yDc:TFn:=⟨1,[.tmp 2],(.seq (oQ [O 1 (.boxL t0),O 2 (.mv (I 0))] [0,2]) (.seq (.seq (.ops [O 5 (.fad 0 t1),oF 6 1 5,O 7 (.bin .gtr t6 (I 1000)),M 8 7,⟨some 9,(.fad 1 t1),some (8,false)⟩,⟨some 10,(.load false 1 t9),some (8,false)⟩,⟨some 11,(.len t10),some (8,false)⟩,⟨some 12,(.bin .gtr t11 (I 40)),some (8,false)⟩,O 13 (.pick t8 (.c (.bool true)) t12)] [⟨1,(.agg [.i .i64,.d,.d]),0⟩,⟨5,(.agg [.i .i64,.d,.d]),0⟩] [] [5,6,7,8,9,10,11,12]) (.cond t13 (.seq (oQ [O 2 (.mv (I 4))] [1,13]) .ret) .skip)) (.seq (.seq (.ops [O 14 (.fad 0 t1),oF 15 1 14,O 16 (.bin .lss t15 (I 1)),M 17 16,⟨some 18,(.fad 1 t1),some (17,false)⟩,⟨some 19,(.load false 1 t18),some (17,false)⟩,⟨some 20,(.len t19),some (17,false)⟩,⟨some 21,(.bin .lss t20 (I 2)),some (17,false)⟩,O 22 (.pick t17 (.c (.bool true)) t21),M 23 22,⟨some 24,(.fad 2 t1),some (23,false)⟩,⟨some 25,(.load false 1 t24),some (23,false)⟩,⟨some 26,(.len t25),some (23,false)⟩,⟨some 27,(.fad 1 t1),some (23,false)⟩,⟨some 28,(.load false 1 t27),some (23,false)⟩,⟨some 29,(.len t28),some (23,false)⟩,⟨some 30,(.bin .sub t29 (I 1)),some (23,false)⟩,⟨some 31,(.bin .neq t26 t30),some (23,false)⟩,O 32 (.pick t23 (.c (.bool true)) t31),M 33 32,⟨some 34,(.fad 1 t1),some (33,false)⟩,⟨some 35,(.load false 1 t34),some (33,false)⟩,⟨some 36,(.iad 1 t35 (I 0)),some (33,false)⟩,⟨some 37,(.load false 1 t36),some (33,false)⟩,⟨some 38,(.bin .neq t37 (I 0)),some (33,false)⟩,O 39 (.pick t33 (.c (.bool true)) t38),M 40 39,⟨some 41,(.fad 1 t1),some (40,false)⟩,⟨some 42,(.load false 1 t41),some (40,false)⟩,⟨some 43,(.fad 1 t1),some (40,false)⟩,⟨some 44,(.load false 1 t43),some (40,false)⟩,⟨some 45,(.len t44),some (40,false)⟩,⟨some 46,(.bin .sub t45 (I 1)),some (40,false)⟩,⟨some 47,(.iad 1 t42 t46),some (40,false)⟩,⟨some 48,(.load false 1 t47),some (40,false)⟩,⟨some 49,(.fad 0 t1),some (40,false)⟩,⟨some 50,(.load false 1 t49),some (40,false)⟩,⟨some 51,(.bin .neq t48 t50),some (40,false)⟩,O 52 (.pick t40 (.c (.bool true)) t51)] [⟨1,(.agg [.i .i64,.d,.d]),0⟩,⟨5,(.agg [.i .i64,.d,.d]),0⟩,⟨11,(.agg [.i .i64,.d,.d]),0⟩,⟨14,(.agg [.i .i64,.d,.d]),0⟩,⟨21,(.agg [.i .i64,.d,.d]),0⟩,⟨22,(.one (.i .i64)),0⟩,⟨23,(.one (.i .i64)),0⟩,⟨28,(.agg [.i .i64,.d,.d]),0⟩,⟨30,(.agg [.i .i64,.d,.d]),0⟩,⟨33,(.one (.i .i64)),0⟩,⟨34,(.one (.i .i64)),0⟩,⟨36,(.agg [.i .i64,.d,.d]),0⟩] [(10,13),(11,13),(12,13),(10,14),(11,14),(12,14),(10,15),(11,15),(12,15),(10,16),(11,16),(12,16),(27,29),(28,29),(27,30),(28,30),(27,31),(28,31),(27,32),(28,32),(27,35),(28,35),(29,35),(30,35),(31,35),(32,35),(33,35),(34,35),(27,36),(28,36),(29,36),(30,36),(31,36),(32,36),(33,36),(34,36)] [13,14,15,16,17,18,19,20,21,22,23,24,25,26,27,28,29,30,31,32,33,34,35,36,37,38,39,40,41,42,43,44,45,46,47,48,49,50,51]) (.cond t52 (.seq (oQ [O 2 (.mv (I 8))] [1,52]) .ret) .skip)) (.seq (oQ [O 3 (.mv (.c (.bool false)))] [52]) (.seq (.seq (oQ [O 4 (.mv (I 0))] []) (.block 0 (.loop 94526800 ylz))) (.seq (.seq (oQ [M 97 3,O 98 (.un .not t97)] [1,3,4,57,97]) (.cond t98 (.seq (oQ [O 2 (.mv (I 8))] [98]) .ret) .skip)) (.seq (oQ [O 2 (.mv (I 0))] [98]) .ret)))))))⟩
def t3:Opd:=.t 3
def t14:Opd:=.t 14
def yDd:TFn:=⟨1,[.tmp 2],(.seq (oQ [O 2 (.mv (.c (.bool false)))] [2]) (.seq (oQ [M 3 0,O 4 (.len t3),O 5 (.bin .gtr t4 (I 14)),M 6 5,⟨some 7,(.mv t0),some (6,true)⟩,⟨some 8,(.len t7),some (6,true)⟩,⟨some 9,(.bin .leq t8 (I 40)),some (6,true)⟩,O 10 (.pick t6 t9 (.c (.bool false))),M 11 10,⟨some 12,(.mv t0),some (11,false)⟩,⟨some 13,(.len t12),some (11,false)⟩,⟨some 14,(.bin .gtr t13 (I 60)),some (11,false)⟩,O 15 (.pick t11 (.c (.bool true)) t14),M 2 15] [0,3,4,5,6,7,8,9,10,11,12,13,14,15]) .ret))⟩
def t2:Opd:=.t 2
def yJf:TFn:=⟨1,[.cell 2 true 2],(.seq (oQ [O 2 (.allocL (.agg [(.int .i64 (0)),(.int .i64 (0))]))] []) (.seq (oQ [M 3 0,O 4 (.build [(.int .i64 (0)),(.int .i64 (0))] [(0,1,t3),(1,1,(I 1))]),⟨none,(.store 2 t2 t4),none⟩] [0,3,4]) .ret))⟩
def yDe:TFn:=⟨3,[.cell 6 true 8],(.seq (oQ [O 6 (.allocL (.agg [(.int .i64 (0)),(.int .u8 (0)),(.int .i64 (0)),(.int .i64 (0)),(.int .i64 (0)),(.int .i64 (0)),(.int .i64 (0)),(.int .i64 (0))]))] []) (.seq (oQ [M 7 0,O 8 (.call (.f ybY) [t7]),M 9 1,O 10 (.call (.f ybY) [t9]),M 11 2,O 12 (.call (.f ybY) [t11]),O 13 (.build [(.int .i64 (0)),(.int .u8 (0)),(.int .i64 (0)),(.int .i64 (0)),(.int .i64 (0)),(.int .i64 (0)),(.int .i64 (0)),(.int .i64 (0))] [(1,1,(.c (.int .u8 (1)))),(2,2,t8),(4,2,t10),(6,2,t12)]),⟨none,(.store 8 t6 t13),none⟩] [0,1,2,7,8,9,10,11,12,13]) .ret))⟩
def yFl:TFn:=⟨3,[.cell 6 true 8],(.seq (oQ [O 6 (.allocL (.agg [(.int .i64 (0)),(.int .u8 (0)),(.int .i64 (0)),(.int .i64 (0)),(.int .i64 (0)),(.int .i64 (0)),(.int .i64 (0)),(.int .i64 (0))]))] []) (.seq (oQ [M 7 0,O 8 (.call (.f ybY) [t7]),M 9 1,O 10 (.call (.f ybY) [t9]),M 11 2,O 12 (.call (.f ybY) [t11]),O 13 (.build [(.int .i64 (0)),(.int .u8 (0)),(.int .i64 (0)),(.int .i64 (0)),(.int .i64 (0)),(.int .i64 (0)),(.int .i64 (0)),(.int .i64 (0))] [(1,1,(.c (.int .u8 (2)))),(2,2,t8),(4,2,t10),(6,2,t12)]),⟨none,(.store 8 t6 t13),none⟩] [0,1,2,7,8,9,10,11,12,13]) .ret))⟩
def yA5:TFn:=⟨1,[.tmp 2],(.seq (oQ [O 2 (.mv (.c (.int .u64 (0))))] [2]) (.seq (.seq (oQ [M 3 0,O 4 (.bin .lss t3 (I 0))] [3]) (.cond t4 (.seq (oQ [M 5 0,O 6 (.conv .u64 t5),O 7 (.un .neg t6),M 2 7] [0,4,5,6,7]) .ret) .skip)) (.seq (oQ [M 8 0,O 9 (.conv .u64 t8),M 2 9] [0,4,8,9]) .ret)))⟩
def ylA:TCode:=(.seq (.seq (oQ [M 5 1,O 6 (.bin .gtr t5 (.c (.int .u64 (0))))] [5]) (.cond t6 .skip (.exit 0))) (.block 1 (.ops [M 7 1,M 8 0,M 9 1,oX 10 .rem 8 9,M 0 7,M 1 10] [] [(0,1),(0,2),(1,2),(0,3),(2,4),(3,4)] [6,7,8,9,10])))
def yDf:TFn:=⟨2,[.tmp 4],(.seq (oQ [O 4 (.mv (.c (.int .u64 (0))))] [4]) (.seq (.block 0 (.loop 32725300 ylA)) (.seq (oQ [M 11 0,M 4 11] [0,1,6,11]) .ret)))⟩
def t16:Opd:=.t 16
def t22:Opd:=.t 22
def yy7:TFn:=⟨1,[.tmp 2],(.seq (oQ [O 1 (.boxL t0),O 2 (.mv (I 0))] [0,2]) (.seq (.seq (.ops [O 3 (.fad 1 t1),oF 4 1 3,O 5 (.bin .lss t4 (I 1)),M 6 5,⟨some 7,(.fad 0 t1),some (6,false)⟩,⟨some 8,(.load false 1 t7),some (6,false)⟩,⟨some 9,(.call (.f yaX) [t8]),some (6,false)⟩,⟨some 10,(.fad 1 t1),some (6,false)⟩,⟨some 11,(.load false 1 t10),some (6,false)⟩,⟨some 12,(.conv .u64 t11),some (6,false)⟩,⟨some 13,(.minmax true [t9,t12]),some (6,false)⟩,⟨some 14,(.bin .gtr t13 (.c (.int .u64 (1000000000000000000)))),some (6,false)⟩,O 15 (.pick t6 (.c (.bool true)) t14),M 16 15,⟨some 17,(.fad 0 t1),some (16,false)⟩,⟨some 18,(.load false 1 t17),some (16,false)⟩,⟨some 19,(.call (.f yaX) [t18]),some (16,false)⟩,⟨some 20,(.fad 1 t1),some (16,false)⟩,⟨some 21,(.load false 1 t20),some (16,false)⟩,⟨some 22,(.conv .u64 t21),some (16,false)⟩,⟨some 23,(.call (.f yct) [t19,t22]),some (16,false)⟩,⟨some 24,(.bin .gtr t23 (.c (.int .u64 (1)))),some (16,false)⟩,O 25 (.pick t16 (.c (.bool true)) t24)] [⟨1,(.agg [.i .i64,.i .i64]),0⟩,⟨5,(.agg [.i .i64,.i .i64]),0⟩,⟨8,(.agg [.i .i64,.i .i64]),0⟩,⟨15,(.agg [.i .i64,.i .i64]),0⟩,⟨18,(.agg [.i .i64,.i .i64]),0⟩] [(4,7),(5,7),(6,7),(4,8),(5,8),(6,8),(4,9),(5,9),(6,9),(14,17),(15,17),(16,17),(14,18),(15,18),(16,18),(14,19),(15,19),(16,19)] [1,3,4,5,6,7,8,9,10,11,12,13,14,15,16,17,18,19,20,21,22,23,24]) (.cond t25 (.seq (oQ [O 2 (.mv (I 8))] [25]) .ret) .skip)) (.seq (oQ [O 2 (.mv (I 0))] [25]) .ret)))⟩
def ylB:TCode:=(.seq (oQ [oX 9 .lss 8 7] []) (.seq (.cond t9 .skip (.exit 0)) (.seq (.block 1 (.seq (.ops [O 10 (.iad 1 t6 t8),oF 11 1 10,M 5 11] [⟨0,(.one (.i .i64)),0⟩,⟨1,(.one (.i .i64)),0⟩] [] [9,10,11]) (.seq (oQ [M 12 5,M 13 3,oX 14 .neq 12 13] [12,13]) (.cond t14 (.seq (oQ [M 15 5,M 2 15] [3,5,6,7,8,14,15]) .ret) .skip)))) (oQ [O 16 (.bin .add t8 (I 1)),M 8 16] [5,14,16]))))
def ysr:TFn:=⟨1,[.tmp 2],(.seq (oQ [O 2 (.mv (I 0))] [2]) (.seq (oQ [O 3 (.mv (I 0))] []) (.seq (.seq (oQ [M 6 0,O 7 (.len t6),O 8 (.mv (I 0))] [0]) (.block 0 (.loop 38508400 ylB))) (.seq (oQ [M 17 3,M 2 17] [3,6,7,8,9,17]) .ret))))⟩
def yy8:TFn:=⟨2,[.tmp 4],(.seq (oQ [O 2 (.boxL t0),O 3 (.boxL t1),O 4 (.mv (I 0))] [0,1,4]) (.seq (.ops [oT 5 2 2,O 6 (.call (.f yaZ) [t5]),oT 7 2 3,O 8 (.call (.f yaZ) [t7]),O 9 (.buildD 1 (.int .i64 (0)) 2 [(0,t6),(1,t8)]),O 10 (.call (.f yd3) [t9]),M 4 10] [] [(0,2),(1,2)] [2,3,5,6,7,8,9,10]) .ret))⟩
def ytv:TFn:=⟨1,[.tmp 2],(.seq (oQ [O 2 (.mv (.c (.bool false)))] [2]) (.seq (oQ [M 3 0,M 4 0,oX 5 .neq 3 4,M 2 5] [0,3,4,5]) .ret))⟩
def yq9:TFn:=⟨2,[.tmp 4],(.seq (oQ [O 4 (.mv (I 0))] [4]) (.seq (oQ [M 7 0,O 8 (.call (.f ydu) [t7]),M 5 8] [7,8]) (.seq (oQ [M 9 1,O 10 (.call (.f ydu) [t9]),M 6 10] [9,10]) (.seq (.seq (oQ [M 11 5] [5]) (.cond t11 (.seq (.seq (oQ [M 12 6] [0,1,6,11]) (.cond t12 (.seq (oQ [O 4 (.mv (I 0))] [12]) .ret) .skip)) (.seq (oQ [O 4 (.mv (I (-1)))] [12]) .ret)) .skip)) (.seq (.seq (oQ [M 13 6] [6,11]) (.cond t13 (.seq (oQ [O 4 (.mv (I 1))] [0,1,13]) .ret) .skip)) (.seq (.seq (oQ [M 14 0,M 15 1,oX 16 .lss 14 15] [13,14,15]) (.cond t16 (.seq (oQ [O 4 (.mv (I (-1)))] [0,1,16]) .ret) .skip)) (.seq (.seq (oQ [M 17 0,M 18 1,oX 19 .gtr 17 18] [0,1,16,17,18]) (.cond t19 (.seq (oQ [O 4 (.mv (I 1))] [19]) .ret) .skip)) (.seq (oQ [O 4 (.mv (I 0))] [19]) .ret))))))))⟩
def yHN:TFn:=⟨2,[.tmp 4,.tmp 5],(.seq (oQ [O 4 (.mv (.c (.int .u64 (0)))),O 5 (.mv (.c (.int .u64 (0))))] [4,5]) (.seq (oQ [M 14 0,O 15 (.bin .and t14 (.c (.int .u64 (4294967295)))),M 6 15] [14,15]) (.seq (oQ [M 16 0,O 17 (.bin .shr t16 (.c (.int .u64 (32)))),M 7 17] [16,17]) (.seq (oQ [M 18 1,O 19 (.bin .and t18 (.c (.int .u64 (4294967295)))),M 8 19] [18,19]) (.seq (oQ [M 20 1,O 21 (.bin .shr t20 (.c (.int .u64 (32)))),M 9 21] [20,21]) (.seq (oQ [M 22 6,M 23 8,oX 24 .mul 22 23,M 10 24] [22,23,24]) (.seq (oQ [M 25 7,M 26 8,oX 27 .mul 25 26,M 28 10,O 29 (.bin .shr t28 (.c (.int .u64 (32)))),oX 30 .add 27 29,M 11 30] [8,10,25,26,27,28,29,30]) (.seq (oQ [M 31 11,O 32 (.bin .and t31 (.c (.int .u64 (4294967295)))),M 12 32] [31,32]) (.seq (oQ [M 33 11,O 34 (.bin .shr t33 (.c (.int .u64 (32)))),M 13 34] [11,33,34]) (.seq (oQ [M 35 12,M 36 6,M 37 9,oX 38 .mul 36 37,oX 39 .add 35 38,M 12 39] [6,35,36,37,38,39]) (.seq (oQ [M 40 7,M 41 9,oX 42 .mul 40 41,M 43 13,oX 44 .add 42 43,M 45 12,O 46 (.bin .shr t45 (.c (.int .u64 (32)))),oX 47 .add 44 46,M 4 47] [7,9,12,13,40,41,42,43,44,45,46,47]) (.seq (oQ [M 48 0,M 49 1,oX 50 .mul 48 49,M 5 50] [0,1,48,49,50]) .ret))))))))))))⟩
def yss:TFn:=⟨1,[.tmp 2],(.seq (oQ [O 2 (.mv (.c (.bool false)))] [2]) (.seq (oQ [M 3 0,M 4 0,oX 5 .neq 3 4,M 2 5] [0,3,4,5]) .ret))⟩
def ypP:TFn:=⟨2,[.tmp 4],(.seq (oQ [O 4 (.mv (I 0))] [4]) (.seq (oQ [M 7 0,O 8 (.call (.f yc1) [t7]),M 5 8] [7,8]) (.seq (oQ [M 9 1,O 10 (.call (.f yc1) [t9]),M 6 10] [9,10]) (.seq (.seq (oQ [M 11 5] [5]) (.cond t11 (.seq (.seq (oQ [M 12 6] [0,1,6,11]) (.cond t12 (.seq (oQ [O 4 (.mv (I 0))] [12]) .ret) .skip)) (.seq (oQ [O 4 (.mv (I (-1)))] [12]) .ret)) .skip)) (.seq (.seq (oQ [M 13 6] [6,11]) (.cond t13 (.seq (oQ [O 4 (.mv (I 1))] [0,1,13]) .ret) .skip)) (.seq (.seq (oQ [M 14 0,M 15 1,oX 16 .lss 14 15] [13,14,15]) (.cond t16 (.seq (oQ [O 4 (.mv (I (-1)))] [0,1,16]) .ret) .skip)) (.seq (.seq (oQ [M 17 0,M 18 1,oX 19 .gtr 17 18] [0,1,16,17,18]) (.cond t19 (.seq (oQ [O 4 (.mv (I 1))] [19]) .ret) .skip)) (.seq (oQ [O 4 (.mv (I 0))] [19]) .ret))))))))⟩
def ylC:TCode:=(.seq (oQ [oX 9 .lss 8 7] []) (.seq (.cond t9 .skip (.exit 0)) (.seq (.block 1 (.seq (.ops [O 10 (.iad 1 t6 t8),oF 11 1 10,M 5 11] [⟨0,(.one (.i .i64)),0⟩,⟨1,(.one (.i .i64)),0⟩] [] [9,10,11]) (.seq (oQ [M 12 5,M 13 3,oX 14 .neq 12 13] [12,13]) (.cond t14 (.seq (oQ [M 15 5,M 2 15] [3,5,6,7,8,14,15]) .ret) .skip)))) (oQ [O 16 (.bin .add t8 (I 1)),M 8 16] [5,14,16]))))
def yA6:TFn:=⟨1,[.tmp 2],(.seq (oQ [O 2 (.mv (I 0))] [2]) (.seq (oQ [O 3 (.mv (I 0))] []) (.seq (.seq (oQ [M 6 0,O 7 (.len t6),O 8 (.mv (I 0))] [0]) (.block 0 (.loop 53260600 ylC))) (.seq (oQ [M 17 3,M 2 17] [3,6,7,8,9,17]) .ret))))⟩
def t32:Opd:=.t 32
def t53:Opd:=.t 53
def t54:Opd:=.t 54
def t56:Opd:=.t 56
def t59:Opd:=.t 59
def t60:Opd:=.t 60
def yDg:TFn:=⟨2,[.tmp 4,.tmp 5],(.seq (oQ [O 2 (.boxL t0),O 3 (.boxL t1),O 4 (.mv (I 0)),O 5 (.mv (I 0))] [0,1,4,5]) (.seq (.seq (oQ [oT 12 2 2,oT 13 2 3,O 14 (.call (.f ybr) [t12,t13]),M 6 14] [12,13,14]) (.seq (oQ [M 15 6,O 16 (.bin .neq t15 (I 0))] [15]) (.cond t16 (.seq (oQ [M 17 6,O 4 (.mv (I 0)),M 5 17] [2,3,6,16,17]) .ret) .skip))) (.seq (.seq (.ops [O 18 (.fad 0 t2),oF 19 1 18,O 20 (.bin .lss t19 (I 0)),O 21 (.fad 0 t3),oF 22 1 21,O 23 (.bin .lss t22 (I 0)),O 24 (.eqB true t20 t23)] [⟨1,(.agg [.i .i64,.i .i64]),0⟩,⟨4,(.agg [.i .i64,.i .i64]),0⟩] [] [6,16,18,19,20,21,22,23]) (.cond t24 (.seq (.ops [O 25 (.fad 0 t2),oF 26 1 25,O 27 (.fad 0 t3),oF 28 1 27,O 29 (.call (.f ydM) [t26,t28]),M 4 29,O 5 (.mv (I 0))] [⟨1,(.agg [.i .i64,.i .i64]),0⟩,⟨3,(.agg [.i .i64,.i .i64]),0⟩] [] [2,3,24,25,26,27,28,29]) .ret) .skip)) (.seq (.ops [O 31 (.fad 0 t2),oF 32 1 31,O 33 (.call (.f yaX) [t32]),O 34 (.fad 1 t3),oF 35 1 34,O 36 (.conv .u64 t35),O 37 (.call (.f ydZ) [t33,t36]),M 30 37,O 38 (.ext t30 0),O 39 (.ext t30 1),M 7 38,M 8 39] [⟨1,(.agg [.i .i64,.i .i64]),0⟩,⟨4,(.agg [.i .i64,.i .i64]),0⟩] [(0,3),(1,3),(2,3),(0,4),(1,4),(2,4),(0,5),(1,5),(2,5),(8,9),(9,10)] [24,30,31,32,33,34,35,36,37,38,39]) (.seq (.ops [O 41 (.fad 0 t3),oF 42 1 41,O 43 (.call (.f yaX) [t42]),O 44 (.fad 1 t2),oF 45 1 44,O 46 (.conv .u64 t45),O 47 (.call (.f ydZ) [t43,t46]),M 40 47,O 48 (.ext t40 0),O 49 (.ext t40 1),M 9 48,M 10 49] [⟨1,(.agg [.i .i64,.i .i64]),0⟩,⟨4,(.agg [.i .i64,.i .i64]),0⟩] [(0,3),(1,3),(2,3),(0,4),(1,4),(2,4),(0,5),(1,5),(2,5),(8,9),(9,10)] [3,40,41,42,43,44,45,46,47,48,49]) (.seq (oQ [M 50 7,M 51 9,O 52 (.call (.f ycu) [t50,t51]),M 53 8,M 54 10,O 55 (.call (.f ycu) [t53,t54]),O 56 (.buildD 1 (.int .i64 (0)) 2 [(0,t52),(1,t55)]),O 57 (.call (.f yih) [t56]),M 11 57] [7,8,9,10,50,51,52,53,54,55,56,57]) (.seq (.seq (.ops [O 58 (.fad 0 t2),oF 59 1 58,O 60 (.bin .lss t59 (I 0))] [⟨1,(.agg [.i .i64,.i .i64]),0⟩] [] [2,58,59]) (.cond t60 (oQ [M 61 11,O 62 (.un .neg t61),M 11 62] [60,61,62]) .skip)) (.seq (oQ [M 63 11,M 4 63,O 5 (.mv (I 0))] [11,60,63]) .ret))))))))⟩
def yy9:TFn:=⟨2,[.tmp 4],(.seq (oQ [O 2 (.boxL t0),O 3 (.boxL t1),O 4 (.mv (I 0))] [0,1,4]) (.seq (oQ [oT 8 2 2,oT 9 2 3,O 10 (.call (.f ygj) [t8,t9]),M 7 10,O 11 (.ext t7 0),O 12 (.ext t7 1),M 5 11,M 6 12] [2,3,6,7,8,9,10,11,12]) (.seq (oQ [M 13 5,M 4 13] [5,13]) .ret)))⟩
def yza:TFn:=⟨1,[.cell 2 true 2],(.seq (oQ [O 2 (.allocL (.agg [(.int .i64 (0)),(.int .i64 (0))]))] []) (.seq (oQ [M 3 0,O 4 (.build [(.int .i64 (0)),(.int .i64 (0))] [(0,1,t3),(1,1,(I 1))]),⟨none,(.store 2 t2 t4),none⟩] [0,3,4]) .ret))⟩
def ylD:TCode:=(.seq (oQ [oX 18 .lss 17 16] []) (.seq (.cond t18 .skip (.exit 0)) (.seq (.block 1 (.seq (.ops [O 19 (.iad 2 t15 t17),oT 20 2 19,O 7 (.allocL (.agg [(.int .i64 (0)),(.int .i64 (0))])),⟨none,(.store 2 t7 t20),none⟩] [⟨0,(.agg [.i .i64,.i .i64]),0⟩,⟨1,(.agg [.i .i64,.i .i64]),0⟩] [] [18,19,20]) (.seq (.ops [oT 21 2 7,O 22 (.call (.f yaZ) [t21]),O 23 (.bin .neq t22 (I 0)),M 24 23,⟨some 25,(.fad 0 t7),some (24,false)⟩,⟨some 26,(.load false 1 t25),some (24,false)⟩,⟨some 27,(.bin .lss t26 (I 0)),some (24,false)⟩,O 28 (.pick t24 (.c (.bool true)) t27)] [⟨5,(.agg [.i .i64,.i .i64]),0⟩] [] [7,21,22,23,24,25,26,27]) (.cond t28 (.seq (oQ [O 29 (.build [(.int .i64 (0)),(.int .i64 (0)),(.int .i64 (0)),(.int .i64 (0)),(.int .i64 (0)),(.int .i64 (0)),(.bool false)] []),⟨none,(.store 7 t4 t29),none⟩,O 5 (.mv (.c (.bool false)))] [0,3,15,16,17,28,29]) .ret) .skip)))) (oQ [O 30 (.bin .add t17 (I 1)),M 17 30] [28,30]))))
def t39:Opd:=.t 39
def t64:Opd:=.t 64
def t65:Opd:=.t 65
def ywu:TFn:=⟨2,[.cell 4 true 7,.tmp 5],(.seq (oQ [O 3 (.boxL t1),O 4 (.allocL (.agg [(.int .i64 (0)),(.int .i64 (0)),(.int .i64 (0)),(.int .i64 (0)),(.int .i64 (0)),(.int .i64 (0)),(.bool false)])),O 5 (.mv (.c (.bool false)))] [1,5]) (.seq (.seq (.ops [O 9 (.fad 2 t3),oT 10 2 9,O 11 (.fad 4 t3),oT 12 2 11,O 13 (.fad 6 t3),oT 14 2 13,O 15 (.buildSl true 2 (.agg [(.int .i64 (0)),(.int .i64 (0))]) 3 [(0,t10),(1,t12),(2,t14)]),O 16 (.len t15),O 17 (.mv (I 0))] [⟨1,(.agg [.i .i64,.i .u8,.i .i64,.i .i64,.i .i64,.i .i64,.i .i64,.i .i64]),0⟩,⟨3,(.agg [.i .i64,.i .u8,.i .i64,.i .i64,.i .i64,.i .i64,.i .i64,.i .i64]),0⟩,⟨5,(.agg [.i .i64,.i .u8,.i .i64,.i .i64,.i .i64,.i .i64,.i .i64,.i .i64]),0⟩] [] [9,10,11,12,13,14]) (.block 0 (.loop 42727200 ylD))) (.seq (.ops [O 31 (.fad 2 t3),oT 32 2 31,O 33 (.fad 4 t3),oT 34 2 33,O 35 (.fad 6 t3),oT 36 2 35,O 37 (.build [(.int .i64 (0)),(.int .i64 (0)),(.int .i64 (0)),(.int .i64 (0)),(.int .i64 (0)),(.int .i64 (0)),(.bool false)] [(0,2,t32),(2,2,t34),(4,2,t36)]),O 8 (.allocL (.agg [(.int .i64 (0)),(.int .i64 (0)),(.int .i64 (0)),(.int .i64 (0)),(.int .i64 (0)),(.int .i64 (0)),(.bool false)])),⟨none,(.store 7 t8 t37),none⟩] [⟨1,(.agg [.i .i64,.i .u8,.i .i64,.i .i64,.i .i64,.i .i64,.i .i64,.i .i64]),0⟩,⟨3,(.agg [.i .i64,.i .u8,.i .i64,.i .i64,.i .i64,.i .i64,.i .i64,.i .i64]),0⟩,⟨5,(.agg [.i .i64,.i .u8,.i .i64,.i .i64,.i .i64,.i .i64,.i .i64,.i .i64]),0⟩] [] [15,16,17,18,31,32,33,34,35,36,37]) (.seq (.seq (.ops [O 38 (.fad 1 t3),oF 39 1 38] [⟨1,(.agg [.i .i64,.i .u8,.i .i64,.i .i64,.i .i64,.i .i64,.i .i64,.i .i64]),0⟩] [] [38]) (.block 2 (.seq (oQ [O 42 (.bin .eql t39 (.c (.int .u8 (1)))),M 41 42] [42]) (.cond t41 .skip (.seq (oQ [O 44 (.bin .eql t39 (.c (.int .u8 (2)))),M 43 44] [39,41,44]) (.cond t43 (.ops [O 45 (.fad 6 t3),oT 46 2 45,O 47 (.fad 4 t3),oT 48 2 47,O 49 (.fad 2 t8),⟨none,(.store 2 t49 t46),none⟩,O 50 (.fad 4 t8),⟨none,(.store 2 t50 t48),none⟩,O 51 (.fad 6 t8),⟨none,(.store 1 t51 (.c (.bool true))),none⟩] [⟨1,(.agg [.i .i64,.i .u8,.i .i64,.i .i64,.i .i64,.i .i64,.i .i64,.i .i64]),0⟩,⟨3,(.agg [.i .i64,.i .u8,.i .i64,.i .i64,.i .i64,.i .i64,.i .i64,.i .i64]),0⟩,⟨5,(.agg [.i .i64,.i .i64,.i .i64,.i .i64,.i .i64,.i .i64,.b]),0⟩,⟨7,(.agg [.i .i64,.i .i64,.i .i64,.i .i64,.i .i64,.i .i64,.b]),0⟩,⟨9,(.agg [.i .i64,.i .i64,.i .i64,.i .i64,.i .i64,.i .i64,.b]),0⟩] [(0,2),(1,2),(0,3),(1,3),(2,4),(3,4),(2,5),(3,5)] [3,43,45,46,47,48,49,50,51]) (.seq (oQ [O 40 (.build [(.int .i64 (0)),(.int .i64 (0)),(.int .i64 (0)),(.int .i64 (0)),(.int .i64 (0)),(.int .i64 (0)),(.bool false)] []),⟨none,(.store 7 t4 t40),none⟩,O 5 (.mv (.c (.bool false)))] [0,3,8,40,43]) .ret))))))) (.seq (.ops [oT 52 7 8,O 53 (.fad 0 t8),oT 54 2 53,O 55 (.fad 2 t8),oT 56 2 55,O 57 (.call (.f yaD) [t54,t56]),O 58 (.bin .leq t57 (I 0)),M 59 58,⟨some 60,(.fad 2 t8),some (59,true)⟩,⟨some 61,(.load true 2 t60),some (59,true)⟩,⟨some 62,(.mv t0),some (59,true)⟩,⟨some 63,(.call (.f yck) [t62]),some (59,true)⟩,⟨some 64,(.call (.f yaD) [t61,t63]),some (59,true)⟩,⟨some 65,(.bin .leq t64 (I 0)),some (59,true)⟩,O 66 (.pick t59 t65 (.c (.bool false))),⟨none,(.store 7 t4 t52),none⟩,M 5 66] [⟨2,(.agg [.i .i64,.i .i64,.i .i64,.i .i64,.i .i64,.i .i64,.b]),0⟩,⟨4,(.agg [.i .i64,.i .i64,.i .i64,.i .i64,.i .i64,.i .i64,.b]),0⟩,⟨9,(.agg [.i .i64,.i .i64,.i .i64,.i .i64,.i .i64,.i .i64,.b]),0⟩] [(0,1),(0,2),(0,3),(1,3),(2,3),(0,4),(1,4),(2,4),(0,5),(0,6),(0,7),(0,8),(0,9),(0,10),(8,10),(9,10),(0,11),(8,11),(9,11),(0,12),(0,13),(0,14),(13,15),(14,15)] [0,3,8,39,41,52,53,54,55,56,57,58,59,60,61,62,63,64,65,66]) .ret)))))⟩
def yjm:TCode:=(.seq (oQ [oX 23 .lss 22 21] []) (.seq (.cond t23 .skip (.exit 0)) (.seq (.block 1 (.seq (.ops [O 24 (.iad 8 t20 t22),oT 25 8 24,O 8 (.allocL (.agg [(.int .i64 (0)),(.int .u8 (0)),(.int .i64 (0)),(.int .i64 (0)),(.int .i64 (0)),(.int .i64 (0)),(.int .i64 (0)),(.int .i64 (0))])),⟨none,(.store 8 t8 t25),none⟩] [⟨0,(.agg [.i .i64,.i .u8,.i .i64,.i .i64,.i .i64,.i .i64,.i .i64,.i .i64]),0⟩,⟨1,(.agg [.i .i64,.i .u8,.i .i64,.i .i64,.i .i64,.i .i64,.i .i64,.i .i64]),0⟩] [] [23,24,25]) (.seq (oQ [M 27 0,oT 28 8 8,O 29 (.call (.f yfA) [t27,t28]),M 26 29,O 30 (.ext t26 0),O 31 (.ext t26 1),O 9 (.allocL (.agg [(.int .i64 (0)),(.int .i64 (0)),(.int .i64 (0)),(.int .i64 (0)),(.int .i64 (0)),(.int .i64 (0)),(.bool false)])),⟨none,(.store 7 t9 t30),none⟩,M 10 31] [8,26,27,28,29,30,31]) (.seq (.seq (oQ [M 32 10,O 33 (.un .not t32)] [10,32]) (.cond t33 (.seq (oQ [O 4 (.mv (.c .nils)),O 5 (.mv (I 8))] [0,6,9,20,21,22,33]) .ret) .skip)) (oQ [M 34 6,oT 35 7 9,O 36 (.buildD 7 (.agg [(.int .i64 (0)),(.int .i64 (0)),(.int .i64 (0)),(.int .i64 (0)),(.int .i64 (0)),(.int .i64 (0)),(.bool false)]) 1 [(0,t35)]),O 37 (.app true 7 56 t34 t36),M 6 37] [9,33,34,35,36,37]))))) (oQ [O 38 (.bin .add t22 (I 1)),M 22 38] [38]))))
def yxH:TFn:=⟨2,[.tmp 4,.tmp 5],(.seq (oQ [O 4 (.mv (.c .nils)),O 5 (.mv (I 0))] [4,5]) (.seq (.seq (oQ [M 11 0,O 12 (.bin .lss t11 (I 1)),M 13 12,⟨some 14,(.mv t0),some (13,false)⟩,⟨some 15,(.bin .gtr t14 (I 1000)),some (13,false)⟩,O 16 (.pick t13 (.c (.bool true)) t15)] [11,12,13,14,15]) (.cond t16 (.seq (oQ [O 4 (.mv (.c .nils)),O 5 (.mv (I 2))] [0,1,16]) .ret) .skip)) (.seq (.seq (oQ [M 17 1,O 18 (.len t17),O 19 (.bin .gtr t18 (I 40))] [16,17,18]) (.cond t19 (.seq (oQ [O 4 (.mv (.c .nils)),O 5 (.mv (I 4))] [0,1,19]) .ret) .skip)) (.seq (oQ [O 6 (.mv (.c .nils))] [19]) (.seq (.seq (oQ [M 20 1,O 21 (.len t20),O 22 (.mv (I 0))] [1]) (.block 0 (.loop 52235000 yjm))) (.seq (oQ [M 39 6,M 4 39,O 5 (.mv (I 0))] [0,6,20,21,22,23,39]) .ret))))))⟩
def yjn:TCode:=(.seq (.seq (oQ [M 22 8,O 23 (.bin .gtr t22 (I 0))] [22]) (.cond t23 .skip (.exit 2))) (.block 3 (.ops [M 24 8,M 25 7,M 26 8,oX 27 .rem 25 26,M 7 24,M 8 27] [] [(0,1),(0,2),(1,2),(0,3),(2,4),(3,4)] [23,24,25,26,27])))
def ylE:TCode:=(.seq (oQ [oX 15 .lss 14 13] []) (.seq (.cond t15 .skip (.exit 0)) (.seq (.block 1 (.seq (.ops [O 16 (.iad 7 t12 t14),oT 17 7 16,O 6 (.allocL (.agg [(.int .i64 (0)),(.int .i64 (0)),(.int .i64 (0)),(.int .i64 (0)),(.int .i64 (0)),(.int .i64 (0)),(.bool false)])),⟨none,(.store 7 t6 t17),none⟩] [⟨0,(.agg [.i .i64,.i .i64,.i .i64,.i .i64,.i .i64,.i .i64,.b]),0⟩,⟨1,(.agg [.i .i64,.i .i64,.i .i64,.i .i64,.i .i64,.i .i64,.b]),0⟩] [] [15,16,17]) (.seq (.ops [M 18 4,O 19 (.fad 4 t6),O 20 (.fad 1 t19),oF 21 1 20,M 7 18,M 8 21] [⟨3,(.agg [.i .i64,.i .i64,.i .i64,.i .i64,.i .i64,.i .i64,.b]),0⟩] [(0,1),(0,2),(0,3),(1,4),(2,4),(3,4)] [18,19,20,21]) (.seq (.block 2 (.loop 49126300 yjn)) (.seq (.ops [O 28 (.fad 4 t6),O 29 (.fad 1 t28),oF 30 1 29,M 31 7,oX 32 .quo 30 31,M 9 32] [⟨2,(.agg [.i .i64,.i .i64,.i .i64,.i .i64,.i .i64,.i .i64,.b]),0⟩] [] [6,7,8,23,28,29,30,31,32]) (.seq (.seq (oQ [M 33 9,M 34 4,O 35 (.bin .quo (I 1000000000) t34),oX 36 .gtr 33 35] [33,34,35]) (.cond t36 (.seq (oQ [O 2 (.mv (I 0)),O 3 (.mv (I 16))] [0,4,9,12,13,14,36]) .ret) .skip)) (oQ [M 37 4,M 38 9,oX 39 .mul 37 38,M 4 39] [9,36,37,38,39]))))))) (oQ [O 40 (.bin .add t14 (I 1)),M 14 40] [40]))))
def ylF:TCode:=(.seq (oQ [oX 44 .lss 43 42] []) (.seq (.cond t44 .skip (.exit 4)) (.seq (.block 5 (.seq (.ops [O 45 (.iad 7 t41 t43),oT 46 7 45,O 11 (.allocL (.agg [(.int .i64 (0)),(.int .i64 (0)),(.int .i64 (0)),(.int .i64 (0)),(.int .i64 (0)),(.int .i64 (0)),(.bool false)])),⟨none,(.store 7 t11 t46),none⟩] [⟨0,(.agg [.i .i64,.i .i64,.i .i64,.i .i64,.i .i64,.i .i64,.b]),0⟩,⟨1,(.agg [.i .i64,.i .i64,.i .i64,.i .i64,.i .i64,.i .i64,.b]),0⟩] [] [44,45,46]) (.seq (.ops [O 47 (.fad 4 t11),O 48 (.fad 0 t47),oF 49 1 48,M 50 4,O 51 (.fad 4 t11),O 52 (.fad 1 t51),oF 53 1 52,oX 54 .quo 50 53,O 55 (.bin .quo (I 1000000000000) t54),oX 56 .gtr 49 55] [⟨2,(.agg [.i .i64,.i .i64,.i .i64,.i .i64,.i .i64,.i .i64,.b]),0⟩,⟨6,(.agg [.i .i64,.i .i64,.i .i64,.i .i64,.i .i64,.i .i64,.b]),0⟩] [(0,3),(1,3),(2,3),(0,4),(1,4),(2,4),(3,4),(0,5),(1,5),(2,5),(3,5),(0,6),(1,6),(2,6),(3,6),(0,7),(1,7),(2,7),(0,8),(1,8),(2,8)] [11,47,48,49,50,51,52,53,54,55]) (.cond t56 (.seq (oQ [O 2 (.mv (I 0)),O 3 (.mv (I 16))] [4,41,42,43,56]) .ret) .skip)))) (oQ [O 57 (.bin .add t43 (I 1)),M 43 57] [56,57]))))
def yzb:TFn:=⟨1,[.tmp 2,.tmp 3],(.seq (oQ [O 2 (.mv (I 0)),O 3 (.mv (I 0))] [2,3]) (.seq (oQ [O 4 (.mv (I 1))] []) (.seq (.seq (oQ [M 12 0,O 13 (.len t12),O 14 (.mv (I 0))] []) (.block 0 (.loop 49126301 ylE))) (.seq (.seq (oQ [M 41 0,O 42 (.len t41),O 43 (.mv (I 0))] [0,12,13,14,15]) (.block 4 (.loop 49126302 ylF))) (.seq (oQ [M 58 4,M 2 58,O 3 (.mv (I 0))] [4,41,42,43,44,58]) .ret)))))⟩
def yM3:TFn:=⟨1,[.tmp 2],(.seq (oQ [O 2 (.mv (I 0))] []) (.seq (.seq (oQ [M 3 0,O 4 (.bin .geq t3 (.c (.int .u32 (65536))))] [3]) (.cond t4 (.seq (oQ [M 5 0,O 6 (.bin .shr t5 (.c (.int .u64 (16)))),M 0 6] [2,4,5,6]) (oQ [O 2 (.mv (I 16))] [])) .skip)) (.seq (.seq (oQ [M 7 0,O 8 (.bin .geq t7 (.c (.int .u32 (256))))] [4,7]) (.cond t8 (.seq (oQ [M 9 0,O 10 (.bin .shr t9 (.c (.int .u64 (8)))),M 0 10] [8,9,10]) (oQ [M 11 2,O 12 (.bin .add t11 (I 8)),M 2 12] [11,12])) .skip)) (.seq (oQ [M 13 2,M 14 0,O 15 (.conv .u8 t14),O 16 (.idx false 256 1 (.c (.agg [(.int .u8 (0)),(.int .u8 (1)),(.int .u8 (2)),(.int .u8 (2)),(.int .u8 (3)),(.int .u8 (3)),(.int .u8 (3)),(.int .u8 (3)),(.int .u8 (4)),(.int .u8 (4)),(.int .u8 (4)),(.int .u8 (4)),(.int .u8 (4)),(.int .u8 (4)),(.int .u8 (4)),(.int .u8 (4)),(.int .u8 (5)),(.int .u8 (5)),(.int .u8 (5)),(.int .u8 (5)),(.int .u8 (5)),(.int .u8 (5)),(.int .u8 (5)),(.int .u8 (5)),(.int .u8 (5)),(.int .u8 (5)),(.int .u8 (5)),(.int .u8 (5)),(.int .u8 (5)),(.int .u8 (5)),(.int .u8 (5)),(.int .u8 (5)),(.int .u8 (6)),(.int .u8 (6)),(.int .u8 (6)),(.int .u8 (6)),(.int .u8 (6)),(.int .u8 (6)),(.int .u8 (6)),(.int .u8 (6)),(.int .u8 (6)),(.int .u8 (6)),(.int .u8 (6)),(.int .u8 (6)),(.int .u8 (6)),(.int .u8 (6)),(.int .u8 (6)),(.int .u8 (6)),(.int .u8 (6)),(.int .u8 (6)),(.int .u8 (6)),(.int .u8 (6)),(.int .u8 (6)),(.int .u8 (6)),(.int .u8 (6)),(.int .u8 (6)),(.int .u8 (6)),(.int .u8 (6)),(.int .u8 (6)),(.int .u8 (6)),(.int .u8 (6)),(.int .u8 (6)),(.int .u8 (6)),(.int .u8 (6)),(.int .u8 (7)),(.int .u8 (7)),(.int .u8 (7)),(.int .u8 (7)),(.int .u8 (7)),(.int .u8 (7)),(.int .u8 (7)),(.int .u8 (7)),(.int .u8 (7)),(.int .u8 (7)),(.int .u8 (7)),(.int .u8 (7)),(.int .u8 (7)),(.int .u8 (7)),(.int .u8 (7)),(.int .u8 (7)),(.int .u8 (7)),(.int .u8 (7)),(.int .u8 (7)),(.int .u8 (7)),(.int .u8 (7)),(.int .u8 (7)),(.int .u8 (7)),(.int .u8 (7)),(.int .u8 (7)),(.int .u8 (7)),(.int .u8 (7)),(.int .u8 (7)),(.int .u8 (7)),(.int .u8 (7)),(.int .u8 (7)),(.int .u8 (7)),(.int .u8 (7)),(.int .u8 (7)),(.int .u8 (7)),(.int .u8 (7)),(.int .u8 (7)),(.int .u8 (7)),(.int .u8 (7)),(.int .u8 (7)),(.int .u8 (7)),(.int .u8 (7)),(.int .u8 (7)),(.int .u8 (7)),(.int .u8 (7)),(.int .u8 (7)),(.int .u8 (7)),(.int .u8 (7)),(.int .u8 (7)),(.int .u8 (7)),(.int .u8 (7)),(.int .u8 (7)),(.int .u8 (7)),(.int .u8 (7)),(.int .u8 (7)),(.int .u8 (7)),(.int .u8 (7)),(.int .u8 (7)),(.int .u8 (7)),(.int .u8 (7)),(.int .u8 (7)),(.int .u8 (7)),(.int .u8 (7)),(.int .u8 (7)),(.int .u8 (8)),(.int .u8 (8)),(.int .u8 (8)),(.int .u8 (8)),(.int .u8 (8)),(.int .u8 (8)),(.int .u8 (8)),(.int .u8 (8)),(.int .u8 (8)),(.int .u8 (8)),(.int .u8 (8)),(.int .u8 (8)),(.int .u8 (8)),(.int .u8 (8)),(.int .u8 (8)),(.int .u8 (8)),(.int .u8 (8)),(.int .u8 (8)),(.int .u8 (8)),(.int .u8 (8)),(.int .u8 (8)),(.int .u8 (8)),(.int .u8 (8)),(.int .u8 (8)),(.int .u8 (8)),(.int .u8 (8)),(.int .u8 (8)),(.int .u8 (8)),(.int .u8 (8)),(.int .u8 (8)),(.int .u8 (8)),(.int .u8 (8)),(.int .u8 (8)),(.int .u8 (8)),(.int .u8 (8)),(.int .u8 (8)),(.int .u8 (8)),(.int .u8 (8)),(.int .u8 (8)),(.int .u8 (8)),(.int .u8 (8)),(.int .u8 (8)),(.int .u8 (8)),(.int .u8 (8)),(.int .u8 (8)),(.int .u8 (8)),(.int .u8 (8)),(.int .u8 (8)),(.int .u8 (8)),(.int .u8 (8)),(.int .u8 (8)),(.int .u8 (8)),(.int .u8 (8)),(.int .u8 (8)),(.int .u8 (8)),(.int .u8 (8)),(.int .u8 (8)),(.int .u8 (8)),(.int .u8 (8)),(.int .u8 (8)),(.int .u8 (8)),(.int .u8 (8)),(.int .u8 (8)),(.int .u8 (8)),(.int .u8 (8)),(.int .u8 (8)),(.int .u8 (8)),(.int .u8 (8)),(.int .u8 (8)),(.int .u8 (8)),(.int .u8 (8)),(.int .u8 (8)),(.int .u8 (8)),(.int .u8 (8)),(.int .u8 (8)),(.int .u8 (8)),(.int .u8 (8)),(.int .u8 (8)),(.int .u8 (8)),(.int .u8 (8)),(.int .u8 (8)),(.int .u8 (8)),(.int .u8 (8)),(.int .u8 (8)),(.int .u8 (8)),(.int .u8 (8)),(.int .u8 (8)),(.int .u8 (8)),(.int .u8 (8)),(.int .u8 (8)),(.int .u8 (8)),(.int .u8 (8)),(.int .u8 (8)),(.int .u8 (8)),(.int .u8 (8)),(.int .u8 (8)),(.int .u8 (8)),(.int .u8 (8)),(.int .u8 (8)),(.int .u8 (8)),(.int .u8 (8)),(.int .u8 (8)),(.int .u8 (8)),(.int .u8 (8)),(.int .u8 (8)),(.int .u8 (8)),(.int .u8 (8)),(.int .u8 (8)),(.int .u8 (8)),(.int .u8 (8)),(.int .u8 (8)),(.int .u8 (8)),(.int .u8 (8)),(.int .u8 (8)),(.int .u8 (8)),(.int .u8 (8)),(.int .u8 (8)),(.int .u8 (8)),(.int .u8 (8)),(.int .u8 (8)),(.int .u8 (8)),(.int .u8 (8)),(.int .u8 (8)),(.int .u8 (8)),(.int .u8 (8)),(.int .u8 (8)),(.int .u8 (8)),(.int .u8 (8))])) t15),O 17 (.conv .i64 t16),oX 18 .add 13 17,M 2 18] [0,8,13,14,15,16,17,18]) .ret))))⟩
def yHO:TFn:=⟨1,[.tmp 2],(.seq (oQ [O 2 (.mv (I 0))] []) (.seq (.seq (oQ [M 3 0,O 4 (.bin .geq t3 (.c (.int .u64 (4294967296))))] [3]) (.cond t4 (.seq (oQ [M 5 0,O 6 (.bin .shr t5 (.c (.int .u64 (32)))),M 0 6] [2,4,5,6]) (oQ [O 2 (.mv (I 32))] [])) .skip)) (.seq (.seq (oQ [M 7 0,O 8 (.bin .geq t7 (.c (.int .u64 (65536))))] [4,7]) (.cond t8 (.seq (oQ [M 9 0,O 10 (.bin .shr t9 (.c (.int .u64 (16)))),M 0 10] [8,9,10]) (oQ [M 11 2,O 12 (.bin .add t11 (I 16)),M 2 12] [11,12])) .skip)) (.seq (.seq (oQ [M 13 0,O 14 (.bin .geq t13 (.c (.int .u64 (256))))] [8,13]) (.cond t14 (.seq (oQ [M 15 0,O 16 (.bin .shr t15 (.c (.int .u64 (8)))),M 0 16] [14,15,16]) (oQ [M 17 2,O 18 (.bin .add t17 (I 8)),M 2 18] [17,18])) .skip)) (.seq (oQ [M 19 2,M 20 0,O 21 (.conv .u8 t20),O 22 (.idx false 256 1 (.c (.agg [(.int .u8 (0)),(.int .u8 (1)),(.int .u8 (2)),(.int .u8 (2)),(.int .u8 (3)),(.int .u8 (3)),(.int .u8 (3)),(.int .u8 (3)),(.int .u8 (4)),(.int .u8 (4)),(.int .u8 (4)),(.int .u8 (4)),(.int .u8 (4)),(.int .u8 (4)),(.int .u8 (4)),(.int .u8 (4)),(.int .u8 (5)),(.int .u8 (5)),(.int .u8 (5)),(.int .u8 (5)),(.int .u8 (5)),(.int .u8 (5)),(.int .u8 (5)),(.int .u8 (5)),(.int .u8 (5)),(.int .u8 (5)),(.int .u8 (5)),(.int .u8 (5)),(.int .u8 (5)),(.int .u8 (5)),(.int .u8 (5)),(.int .u8 (5)),(.int .u8 (6)),(.int .u8 (6)),(.int .u8 (6)),(.int .u8 (6)),(.int .u8 (6)),(.int .u8 (6)),(.int .u8 (6)),(.int .u8 (6)),(.int .u8 (6)),(.int .u8 (6)),(.int .u8 (6)),(.int .u8 (6)),(.int .u8 (6)),(.int .u8 (6)),(.int .u8 (6)),(.int .u8 (6)),(.int .u8 (6)),(.int .u8 (6)),(.int .u8 (6)),(.int .u8 (6)),(.int .u8 (6)),(.int .u8 (6)),(.int .u8 (6)),(.int .u8 (6)),(.int .u8 (6)),(.int .u8 (6)),(.int .u8 (6)),(.int .u8 (6)),(.int .u8 (6)),(.int .u8 (6)),(.int .u8 (6)),(.int .u8 (6)),(.int .u8 (7)),(.int .u8 (7)),(.int .u8 (7)),(.int .u8 (7)),(.int .u8 (7)),(.int .u8 (7)),(.int .u8 (7)),(.int .u8 (7)),(.int .u8 (7)),(.int .u8 (7)),(.int .u8 (7)),(.int .u8 (7)),(.int .u8 (7)),(.int .u8 (7)),(.int .u8 (7)),(.int .u8 (7)),(.int .u8 (7)),(.int .u8 (7)),(.int .u8 (7)),(.int .u8 (7)),(.int .u8 (7)),(.int .u8 (7)),(.int .u8 (7)),(.int .u8 (7)),(.int .u8 (7)),(.int .u8 (7)),(.int .u8 (7)),(.int .u8 (7)),(.int .u8 (7)),(.int .u8 (7)),(.int .u8 (7)),(.int .u8 (7)),(.int .u8 (7)),(.int .u8 (7)),(.int .u8 (7)),(.int .u8 (7)),(.int .u8 (7)),(.int .u8 (7)),(.int .u8 (7)),(.int .u8 (7)),(.int .u8 (7)),(.int .u8 (7)),(.int .u8 (7)),(.int .u8 (7)),(.int .u8 (7)),(.int .u8 (7)),(.int .u8 (7)),(.int .u8 (7)),(.int .u8 (7)),(.int .u8 (7)),(.int .u8 (7)),(.int .u8 (7)),(.int .u8 (7)),(.int .u8 (7)),(.int .u8 (7)),(.int .u8 (7)),(.int .u8 (7)),(.int .u8 (7)),(.int .u8 (7)),(.int .u8 (7)),(.int .u8 (7)),(.int .u8 (7)),(.int .u8 (7)),(.int .u8 (7)),(.int .u8 (8)),(.int .u8 (8)),(.int .u8 (8)),(.int .u8 (8)),(.int .u8 (8)),(.int .u8 (8)),(.int .u8 (8)),(.int .u8 (8)),(.int .u8 (8)),(.int .u8 (8)),(.int .u8 (8)),(.int .u8 (8)),(.int .u8 (8)),(.int .u8 (8)),(.int .u8 (8)),(.int .u8 (8)),(.int .u8 (8)),(.int .u8 (8)),(.int .u8 (8)),(.int .u8 (8)),(.int .u8 (8)),(.int .u8 (8)),(.int .u8 (8)),(.int .u8 (8)),(.int .u8 (8)),(.int .u8 (8)),(.int .u8 (8)),(.int .u8 (8)),(.int .u8 (8)),(.int .u8 (8)),(.int .u8 (8)),(.int .u8 (8)),(.int .u8 (8)),(.int .u8 (8)),(.int .u8 (8)),(.int .u8 (8)),(.int .u8 (8)),(.int .u8 (8)),(.int .u8 (8)),(.int .u8 (8)),(.int .u8 (8)),(.int .u8 (8)),(.int .u8 (8)),(.int .u8 (8)),(.int .u8 (8)),(.int .u8 (8)),(.int .u8 (8)),(.int .u8 (8)),(.int .u8 (8)),(.int .u8 (8)),(.int .u8 (8)),(.int .u8 (8)),(.int .u8 (8)),(.int .u8 (8)),(.int .u8 (8)),(.int .u8 (8)),(.int .u8 (8)),(.int .u8 (8)),(.int .u8 (8)),(.int .u8 (8)),(.int .u8 (8)),(.int .u8 (8)),(.int .u8 (8)),(.int .u8 (8)),(.int .u8 (8)),(.int .u8 (8)),(.int .u8 (8)),(.int .u8 (8)),(.int .u8 (8)),(.int .u8 (8)),(.int .u8 (8)),(.int .u8 (8)),(.int .u8 (8)),(.int .u8 (8)),(.int .u8 (8)),(.int .u8 (8)),(.int .u8 (8)),(.int .u8 (8)),(.int .u8 (8)),(.int .u8 (8)),(.int .u8 (8)),(.int .u8 (8)),(.int .u8 (8)),(.int .u8 (8)),(.int .u8 (8)),(.int .u8 (8)),(.int .u8 (8)),(.int .u8 (8)),(.int .u8 (8)),(.int .u8 (8)),(.int .u8 (8)),(.int .u8 (8)),(.int .u8 (8)),(.int .u8 (8)),(.int .u8 (8)),(.int .u8 (8)),(.int .u8 (8)),(.int .u8 (8)),(.int .u8 (8)),(.int .u8 (8)),(.int .u8 (8)),(.int .u8 (8)),(.int .u8 (8)),(.int .u8 (8)),(.int .u8 (8)),(.int .u8 (8)),(.int .u8 (8)),(.int .u8 (8)),(.int .u8 (8)),(.int .u8 (8)),(.int .u8 (8)),(.int .u8 (8)),(.int .u8 (8)),(.int .u8 (8)),(.int .u8 (8)),(.int .u8 (8)),(.int .u8 (8)),(.int .u8 (8)),(.int .u8 (8)),(.int .u8 (8)),(.int .u8 (8)),(.int .u8 (8)),(.int .u8 (8)),(.int .u8 (8)),(.int .u8 (8)),(.int .u8 (8)),(.int .u8 (8)),(.int .u8 (8))])) t21),O 23 (.conv .i64 t22),oX 24 .add 19 23,M 2 24] [0,14,19,20,21,22,23,24]) .ret)))))⟩
def yM8:TFn:=⟨1,[.tmp 2],(.seq (oQ [O 2 (.mv (I 0))] [2]) (.seq (.cond (.c (.bool false)) (.seq (oQ [M 3 0,O 4 (.conv .u32 t3),O 5 (.call (.f yu8) [t4]),M 2 5] [0,3,4,5]) .ret) .skip) (.seq (oQ [M 6 0,O 7 (.call (.f ylm) [t6]),M 2 7] [0,6,7]) .ret)))⟩
def yFm:TCode:=(.seq (.seq (.ops [M 18 9,M 19 1,oX 20 .gtr 18 19,M 21 20,⟨some 22,(.mv t3),some (21,true)⟩,⟨some 23,(.mv t0),some (21,true)⟩,⟨some 24,(.mv t9),some (21,true)⟩,⟨some 25,(.iad 2 t23 t24),some (21,true)⟩,⟨some 26,(.load true 2 t25),some (21,true)⟩,⟨some 27,(.mv t0),some (21,true)⟩,⟨some 28,(.mv t9),some (21,true)⟩,⟨some 29,(.bin .sub t28 (I 1)),some (21,true)⟩,⟨some 30,(.iad 2 t27 t29),some (21,true)⟩,⟨some 31,(.load true 2 t30),some (21,true)⟩,⟨some 32,(.call t22 [t26,t31]),some (21,true)⟩,⟨some 33,(.bin .lss t32 (I 0)),some (21,true)⟩,O 34 (.pick t21 t33 (.c (.bool false)))] [⟨7,(.agg [.i .i64,.i .i64]),0⟩,⟨8,(.agg [.i .i64,.i .i64]),0⟩,⟨12,(.agg [.i .i64,.i .i64]),0⟩,⟨13,(.agg [.i .i64,.i .i64]),0⟩] [(0,1),(4,5),(4,6),(5,6),(4,7),(4,8),(4,9),(5,9),(6,9),(7,9),(8,9),(4,10),(5,10),(6,10),(7,10),(8,10),(9,10),(4,11),(5,11),(6,11),(7,11),(8,11),(9,11),(4,12),(5,12),(6,12),(7,12),(8,12),(4,13),(5,13),(6,13),(7,13),(8,13)] [18,19,20,21,22,23,24,25,26,27,28,29,30,31,32,33]) (.cond t34 .skip (.exit 2))) (.seq (.block 3 (.ops [M 37 0,M 38 9,M 39 0,M 40 9,O 41 (.bin .sub t40 (I 1)),M 42 0,M 43 9,O 44 (.bin .sub t43 (I 1)),O 45 (.iad 2 t42 t44),oT 46 2 45,M 47 0,M 48 9,O 49 (.iad 2 t47 t48),oT 50 2 49,O 51 (.iad 2 t37 t38),⟨none,(.store 2 t51 t46),none⟩,O 52 (.iad 2 t39 t41),⟨none,(.store 2 t52 t50),none⟩] [⟨8,(.agg [.i .i64,.i .i64]),0⟩,⟨9,(.agg [.i .i64,.i .i64]),0⟩,⟨12,(.agg [.i .i64,.i .i64]),0⟩,⟨13,(.agg [.i .i64,.i .i64]),0⟩,⟨14,(.agg [.i .i64,.i .i64]),0⟩,⟨15,(.agg [.i .i64,.i .i64]),0⟩,⟨16,(.agg [.i .i64,.i .i64]),0⟩,⟨17,(.agg [.i .i64,.i .i64]),0⟩] [(0,1),(0,2),(1,2),(0,3),(1,3),(2,3),(0,4),(1,4),(2,4),(0,5),(1,5),(2,5),(3,5),(4,5),(0,6),(1,6),(2,6),(3,6),(4,6),(5,6),(0,7),(1,7),(2,7),(3,7),(4,7),(5,7),(0,8),(1,8),(2,8),(3,8),(4,8),(0,9),(1,9),(2,9),(3,9),(4,9),(0,10),(1,10),(2,10),(3,10),(4,10),(5,10),(6,10),(7,10),(8,10),(9,10),(0,11),(1,11),(2,11),(3,11),(4,11),(5,11),(6,11),(7,11),(8,11),(9,11),(10,11),(0,12),(1,12),(2,12),(3,12),(4,12),(5,12),(6,12),(7,12),(8,12),(9,12),(0,13),(1,13),(2,13),(3,13),(4,13),(5,13),(6,13),(7,13),(8,13),(9,13),(2,14),(3,14),(4,14),(2,15),(3,15),(4,15)] [34,37,38,39,40,41,42,43,44,45,46,47,48,49,50,51,52])) (oQ [M 35 9,O 36 (.bin .sub t35 (I 1)),M 9 36] [35,36])))
def yFn:TCode:=(.seq (.seq (oQ [M 12 8,M 13 2,oX 14 .lss 12 13] [12,13]) (.cond t14 .skip (.exit 0))) (.seq (.block 1 (.seq (oQ [M 17 8,M 9 17] [14,17]) (.block 2 (.loop 50371500 yFm)))) (oQ [M 15 8,O 16 (.bin .add t15 (I 1)),M 8 16] [9,15,16,34])))
def ypK:TFn:=⟨4,[],(.seq (oQ [M 10 1,O 11 (.bin .add t10 (I 1)),M 8 11] [10,11]) (.block 0 (.loop 50371501 yFn)))⟩
def t69:Opd:=.t 69
def t70:Opd:=.t 70
def t79:Opd:=.t 79
def t88:Opd:=.t 88
def t96:Opd:=.t 96
def t99:Opd:=.t 99
def t100:Opd:=.t 100
def t101:Opd:=.t 101
def t102:Opd:=.t 102
def t105:Opd:=.t 105
def t106:Opd:=.t 106
def t107:Opd:=.t 107
def t108:Opd:=.t 108
def t109:Opd:=.t 109
def t110:Opd:=.t 110
def t121:Opd:=.t 121
def t125:Opd:=.t 125
def t129:Opd:=.t 129
def t130:Opd:=.t 130
def t131:Opd:=.t 131
def t132:Opd:=.t 132
def t133:Opd:=.t 133
def t135:Opd:=.t 135
def t140:Opd:=.t 140
def t141:Opd:=.t 141
def t142:Opd:=.t 142
def t143:Opd:=.t 143
def t144:Opd:=.t 144
def t145:Opd:=.t 145
def yFo:TCode:=(.block 1 (.seq (oQ [M 21 2,M 22 1,oX 23 .sub 21 22,M 12 23] [21,22,23]) (.seq (.seq (oQ [M 24 12,O 25 (.bin .leq t24 (I 12))] [24]) (.cond t25 (.seq (oQ [M 26 0,M 27 1,M 28 2,M 29 4,O 30 (.call (.f ydg) [t26,t27,t28,t29])] [0,1,2,3,4,10,11,12,25,26,27,28,29,30]) .ret) .skip)) (.seq (.seq (oQ [M 31 3,O 32 (.bin .eql t31 (I 0))] [25,31]) (.cond t32 (.seq (oQ [M 33 0,M 34 1,M 35 2,M 36 4,O 37 (.call (.f 95) [t33,t34,t35,t36])] [0,1,2,3,4,10,11,12,32,33,34,35,36,37]) .ret) .skip)) (.seq (.seq (oQ [M 38 10,O 39 (.un .not t38)] [32,38]) (.cond t39 (.seq (oQ [M 40 0,M 41 1,M 42 2,M 43 4,O 44 (.call (.f 96) [t40,t41,t42,t43])] [39,40,41,42,43,44]) (oQ [M 45 3,O 46 (.bin .sub t45 (I 1)),M 3 46] [45,46])) .skip)) (.seq (oQ [M 48 0,M 49 1,M 50 2,M 51 4,O 52 (.call (.f 97) [t48,t49,t50,t51]),M 47 52,O 53 (.ext t47 0),O 54 (.ext t47 1),M 13 53,M 14 54] [39,47,48,49,50,51,52,53,54]) (.seq (.seq (oQ [M 55 14,O 56 (.bin .eql t55 (I 2))] [55]) (.cond t56 (.seq (oQ [M 57 0,M 58 1,M 59 2,M 60 4,O 61 (.call (.f 98) [t57,t58,t59,t60])] [14,56,57,58,59,60,61]) (.seq (oQ [M 62 2,O 63 (.bin .sub t62 (I 1)),M 64 13,M 65 1,oX 66 .sub 64 65,oX 67 .sub 63 66,M 13 67] [62,63,64,65,66,67]) (oQ [O 14 (.mv (I 1))] []))) .skip)) (.seq (.seq (oQ [M 68 10,M 69 68,⟨some 70,(.mv t11),some (69,true)⟩,O 71 (.pick t69 t70 (.c (.bool false))),M 72 71,⟨some 73,(.mv t14),some (72,true)⟩,⟨some 74,(.bin .eql t73 (I 1)),some (72,true)⟩,O 75 (.pick t72 t74 (.c (.bool false)))] [14,56,68,69,70,71,72,73,74]) (.cond t75 (.seq (oQ [M 76 0,M 77 1,M 78 2,M 79 4,O 80 (.call (.f 99) [t76,t77,t78,t79])] [75,76,77,78,79]) (.cond t80 .ret .skip)) .skip)) (.seq (.seq (.ops [M 81 1,O 82 (.bin .gtr t81 (I 0)),M 83 82,⟨some 84,(.mv t4),some (83,true)⟩,⟨some 85,(.mv t0),some (83,true)⟩,⟨some 86,(.mv t1),some (83,true)⟩,⟨some 87,(.bin .sub t86 (I 1)),some (83,true)⟩,⟨some 88,(.iad 2 t85 t87),some (83,true)⟩,⟨some 89,(.load true 2 t88),some (83,true)⟩,⟨some 90,(.mv t0),some (83,true)⟩,⟨some 91,(.mv t13),some (83,true)⟩,⟨some 92,(.iad 2 t90 t91),some (83,true)⟩,⟨some 93,(.load true 2 t92),some (83,true)⟩,⟨some 94,(.call t84 [t89,t93]),some (83,true)⟩,⟨some 95,(.bin .lss t94 (I 0)),some (83,true)⟩,⟨some 96,(.un .not t95),some (83,true)⟩,O 97 (.pick t83 t96 (.c (.bool false)))] [⟨7,(.agg [.i .i64,.i .i64]),0⟩,⟨8,(.agg [.i .i64,.i .i64]),0⟩,⟨11,(.agg [.i .i64,.i .i64]),0⟩,⟨12,(.agg [.i .i64,.i .i64]),0⟩] [(3,4),(3,5),(4,5),(3,6),(4,6),(3,7),(3,8),(3,9),(4,9),(5,9),(6,9),(7,9),(8,9),(3,10),(4,10),(5,10),(6,10),(7,10),(8,10),(9,10),(3,11),(4,11),(5,11),(6,11),(7,11),(8,11),(3,12),(4,12),(5,12),(6,12),(7,12),(8,12)] [75,80,81,82,83,84,85,86,87,88,89,90,91,92,93,94,95,96]) (.cond t97 (.seq (oQ [M 98 0,M 99 1,M 100 2,M 101 13,M 102 4,O 103 (.call (.f 100) [t98,t99,t100,t101,t102]),M 15 103] [1,12,13,97,98,99,100,101,102,103]) (.seq (oQ [M 104 15,M 1 104] [15,104]) (.exit 1))) .skip)) (.seq (oQ [M 106 0,M 107 1,M 108 2,M 109 13,M 110 4,O 111 (.call (.f 101) [t106,t107,t108,t109,t110]),M 105 111,O 112 (.ext t105 0),O 113 (.ext t105 1),M 16 112,M 17 113] [10,11,13,97,105,106,107,108,109,110,111,112,113]) (.seq (oQ [M 114 17,M 11 114] [17,114]) (.seq (oQ [M 115 16,M 116 1,oX 117 .sub 115 116,M 118 2,M 119 16,oX 120 .sub 118 119,M 18 117,M 19 120] [115,116,117,118,119,120]) (.seq (oQ [M 121 12,O 122 (.bin .quo t121 (I 8)),M 20 122] [12,121,122]) (.seq (oQ [M 123 18,M 124 19,oX 125 .lss 123 124] [123,124]) (.cond t125 (.seq (oQ [M 126 18,M 127 20,oX 128 .geq 126 127,M 10 128] [18,19,20,125,126,127,128]) (.seq (oQ [M 129 0,M 130 1,M 131 16,M 132 3,M 133 4,O 134 (.call (.f ybq) [t129,t130,t131,t132,t133])] [1,129,130,131,132,133,134]) (oQ [M 135 16,O 136 (.bin .add t135 (I 1)),M 1 136] [16,135,136]))) (.seq (oQ [M 137 19,M 138 20,oX 139 .geq 137 138,M 10 139] [18,19,20,125,137,138,139]) (.seq (oQ [M 140 0,M 141 16,O 142 (.bin .add t141 (I 1)),M 143 2,M 144 3,M 145 4,O 146 (.call (.f ybq) [t140,t142,t143,t144,t145])] [2,140,141,142,143,144,145,146]) (oQ [M 147 16,M 2 147] [16,147]))))))))))))))))))
def yte:TFn:=⟨5,[],(.seq (oQ [O 10 (.mv (.c (.bool true)))] []) (.seq (oQ [O 11 (.mv (.c (.bool true)))] []) (.block 0 (.loop 36304500 yFo))))⟩
def ytw:TFn:=⟨2,[],(.seq (oQ [M 5 0,O 6 (.len t5),M 4 6] [5,6]) (oQ [M 7 0,M 8 4,M 9 4,O 10 (.conv .u64 t9),O 11 (.call (.f yA4) [t10]),M 12 1,O 13 (.call (.f ybq) [t7,(I 0),t8,t11,t12])] [0,1,4,7,8,9,10,11,12,13]))⟩
def yjo:TCode:=(.seq (.seq (oQ [M 29 5,M 30 4,O 31 (.len t30),oX 32 .lss 29 31] [29,30,31]) (.cond t32 .skip (.exit 2))) (.seq (.block 3 (.seq (.ops [M 35 4,M 36 5,O 37 (.iad 2 t35 t36),oT 38 2 37,M 39 4,M 40 5,O 41 (.bin .sub t40 (I 1)),O 42 (.iad 2 t39 t41),oT 43 2 42,O 44 (.eqA true 2 [(0,(some .i64)),(1,(some .i64))] t38 t43)] [⟨2,(.agg [.i .i64,.i .i64]),0⟩,⟨3,(.agg [.i .i64,.i .i64]),0⟩,⟨7,(.agg [.i .i64,.i .i64]),0⟩,⟨8,(.agg [.i .i64,.i .i64]),0⟩] [(0,1),(0,4),(1,4),(2,4),(3,4),(0,5),(1,5),(2,5),(3,5),(4,5),(0,6),(1,6),(2,6),(3,6),(4,6),(0,7),(1,7),(2,7),(3,7),(0,8),(1,8),(2,8),(3,8)] [32,35,36,37,38,39,40,41,42,43]) (.cond t44 (.seq (.ops [M 45 0,M 46 3,M 47 4,M 48 5,O 49 (.iad 2 t47 t48),oT 50 2 49,O 51 (.iad 2 t45 t46),⟨none,(.store 2 t51 t50),none⟩] [⟨4,(.agg [.i .i64,.i .i64]),0⟩,⟨5,(.agg [.i .i64,.i .i64]),0⟩,⟨6,(.agg [.i .i64,.i .i64]),0⟩,⟨7,(.agg [.i .i64,.i .i64]),0⟩] [] [44,45,46,47,48,49,50,51]) (oQ [M 52 3,O 53 (.bin .add t52 (I 1)),M 3 53] [52,53])) .skip))) (oQ [M 33 5,O 34 (.bin .add t33 (I 1)),M 5 34] [33,34,44])))
def ylG:TCode:=(.seq (.seq (oQ [M 10 3,M 11 0,O 12 (.len t11),oX 13 .lss 10 12] [10,11,12]) (.cond t13 .skip (.exit 0))) (.seq (.block 1 (.seq (.ops [M 16 0,M 17 3,O 18 (.iad 2 t16 t17),oT 19 2 18,M 20 0,M 21 3,O 22 (.bin .sub t21 (I 1)),O 23 (.iad 2 t20 t22),oT 24 2 23,O 25 (.eqA false 2 [(0,(some .i64)),(1,(some .i64))] t19 t24)] [⟨2,(.agg [.i .i64,.i .i64]),0⟩,⟨3,(.agg [.i .i64,.i .i64]),0⟩,⟨7,(.agg [.i .i64,.i .i64]),0⟩,⟨8,(.agg [.i .i64,.i .i64]),0⟩] [(0,1),(0,4),(1,4),(2,4),(3,4),(0,5),(1,5),(2,5),(3,5),(4,5),(0,6),(1,6),(2,6),(3,6),(4,6),(0,7),(1,7),(2,7),(3,7),(0,8),(1,8),(2,8),(3,8)] [13,16,17,18,19,20,21,22,23,24]) (.cond t25 (.seq (oQ [M 26 0,M 27 3,O 28 (.slc 2 t26 (some t27) none none),M 4 28] [25,26,27,28]) (.seq (.seq (oQ [O 5 (.mv (I 1))] []) (.block 2 (.loop 36914300 yjo))) (.seq (oQ [M 54 0,M 55 3,O 56 (.slc 2 t54 (some t55) none none),⟨none,(.clr true 2 (.agg [(.int .i64 (0)),(.int .i64 (0))]) t56),none⟩] [4,5,32,54,55,56]) (.seq (oQ [M 57 0,M 58 3,O 59 (.slc 2 t57 none (some t58) none),M 2 59] [0,3,57,58,59]) .ret)))) .skip))) (oQ [M 14 3,O 15 (.bin .add t14 (I 1)),M 3 15] [14,15,25])))
def yiX:TFn:=⟨1,[.tmp 2],(.seq (oQ [O 2 (.mv (.c .nils))] [2]) (.seq (.seq (oQ [M 6 0,O 7 (.len t6),O 8 (.bin .lss t7 (I 2))] [6,7]) (.cond t8 (.seq (oQ [M 9 0,M 2 9] [0,8,9]) .ret) .skip)) (.seq (.seq (oQ [O 3 (.mv (I 1))] [8]) (.block 0 (.loop 36914301 ylG))) (.seq (oQ [M 60 0,M 2 60] [0,3,13,60]) .ret))))⟩
def ylH:TCode:=(.seq (oQ [oX 15 .lss 14 13] []) (.seq (.cond t15 .skip (.exit 0)) (.seq (.block 1 (.seq (.ops [O 16 (.iad 7 t12 t14),oT 17 7 16,O 7 (.allocL (.agg [(.int .i64 (0)),(.int .i64 (0)),(.int .i64 (0)),(.int .i64 (0)),(.int .i64 (0)),(.int .i64 (0)),(.bool false)])),⟨none,(.store 7 t7 t17),none⟩] [⟨0,(.agg [.i .i64,.i .i64,.i .i64,.i .i64,.i .i64,.i .i64,.b]),0⟩,⟨1,(.agg [.i .i64,.i .i64,.i .i64,.i .i64,.i .i64,.i .i64,.b]),0⟩] [] [15,16,17]) (.ops [M 18 5,O 19 (.fad 0 t7),oT 20 2 19,O 21 (.fad 2 t7),oT 22 2 21,O 23 (.buildD 2 (.agg [(.int .i64 (0)),(.int .i64 (0))]) 2 [(0,t20),(1,t22)]),O 24 (.app true 2 16 t18 t23),M 5 24] [⟨2,(.agg [.i .i64,.i .i64,.i .i64,.i .i64,.i .i64,.i .i64,.b]),0⟩,⟨4,(.agg [.i .i64,.i .i64,.i .i64,.i .i64,.i .i64,.i .i64,.b]),0⟩] [] [7,18,19,20,21,22,23,24]))) (oQ [O 25 (.bin .add t14 (I 1)),M 14 25] [25]))))
def yu9:TFn:=⟨2,[.tmp 4],(.seq (oQ [O 4 (.mv (.c .nils))] [4]) (.seq (oQ [O 8 (.call (.f yck) [(I 0)]),M 9 0,O 10 (.call (.f yck) [t9]),O 11 (.buildN true 2 (.agg [(.int .i64 (0)),(.int .i64 (0))]) 2 [(0,t8),(1,t10)]),M 5 11] [0,8,9,10,11]) (.seq (.seq (oQ [M 12 1,O 13 (.len t12),O 14 (.mv (I 0))] [1]) (.block 0 (.loop 86101800 ylH))) (.seq (oQ [M 26 5,O 27 (.call (.f yaL) [t26,(.f yaD)])] [12,13,14,15,26,27]) (.seq (oQ [M 28 5,O 29 (.call (.f ycX) [t28]),M 4 29] [5,28,29]) .ret)))))⟩
def yjp:TCode:=(.seq (.seq (oQ [M 15 9,M 16 10,oX 17 .lss 15 16] [15,16]) (.cond t17 .skip (.exit 0))) (.block 1 (.seq (oQ [M 18 9,M 19 10,oX 20 .add 18 19,O 21 (.conv .u64 t20),O 22 (.bin .shr t21 (.c (.int .u64 (1)))),O 23 (.conv .i64 t22),M 11 23] [17,18,19,20,21,22,23]) (.seq (.ops [M 24 2,M 25 0,M 26 11,O 27 (.iad 2 t25 t26),oT 28 2 27,oT 29 2 4,O 30 (.call t24 [t28,t29]),O 31 (.bin .lss t30 (I 0))] [⟨3,(.agg [.i .i64,.i .i64]),0⟩,⟨4,(.agg [.i .i64,.i .i64]),0⟩] [(0,1),(0,2),(1,2),(0,3),(0,4),(0,5),(1,5),(2,5),(3,5),(4,5)] [24,25,26,27,28,29,30]) (.cond t31 (oQ [M 32 11,O 33 (.bin .add t32 (I 1)),M 9 33] [11,31,32,33]) (oQ [M 34 11,M 10 34] [11,31,34]))))))
def yd5:TFn:=⟨3,[.tmp 6,.tmp 7],(.seq (oQ [O 4 (.boxL t1),O 6 (.mv (I 0)),O 7 (.mv (.c (.bool false)))] [1,6,7]) (.seq (oQ [M 12 0,O 13 (.len t12),M 8 13] [12,13]) (.seq (oQ [M 14 8,O 9 (.mv (I 0)),M 10 14] [14]) (.seq (.block 0 (.loop 10433800 yjp)) (.seq (.ops [M 35 9,M 36 9,M 37 8,oX 38 .lss 36 37,M 39 38,⟨some 40,(.mv t2),some (39,true)⟩,⟨some 41,(.mv t0),some (39,true)⟩,⟨some 42,(.mv t9),some (39,true)⟩,⟨some 43,(.iad 2 t41 t42),some (39,true)⟩,⟨some 44,(.load true 2 t43),some (39,true)⟩,⟨some 45,(.load true 2 t4),some (39,true)⟩,⟨some 46,(.call t40 [t44,t45]),some (39,true)⟩,⟨some 47,(.bin .eql t46 (I 0)),some (39,true)⟩,O 48 (.pick t39 t47 (.c (.bool false))),M 6 35,M 7 48] [⟨8,(.agg [.i .i64,.i .i64]),0⟩,⟨9,(.agg [.i .i64,.i .i64]),0⟩] [(0,1),(0,2),(1,2),(0,3),(0,4),(0,5),(0,6),(5,6),(0,7),(5,7),(6,7),(0,8),(5,8),(0,9),(5,9),(0,10),(5,10),(6,10),(7,10),(8,10),(9,10),(0,11),(0,12),(0,13),(12,14),(13,14)] [0,2,4,8,9,10,17,35,36,37,38,39,40,41,42,43,44,45,46,47,48]) .ret)))))⟩
def ymG:TFn:=⟨2,[.tmp 3],(.seq (oQ [O 2 (.boxL t0),O 3 (.mv (I 0))] [0,3]) (.seq (oQ [oF 7 1 1,oT 8 2 2,O 9 (.call (.f yaU) [t7,t8,(.f yaD)]),M 6 9,O 10 (.ext t6 0),O 11 (.ext t6 1),M 4 10,M 5 11] [1,2,5,6,7,8,9,10,11]) (.seq (oQ [M 12 4,M 3 12] [4,12]) .ret)))⟩
def yCJ:TFn:=⟨1,[.tmp 2],(.seq (oQ [O 2 (.mv (.c .nils))] [2]) (.seq (.seq (oQ [M 3 0,O 4 (.eqN false t3)] [3]) (.cond t4 (.seq (oQ [O 2 (.mv (.c .nils))] [0,4]) .ret) .skip)) (.seq (oQ [O 5 (.buildSl true 1 (.int .i64 (0)) 0 []),M 6 0,O 7 (.app true 1 8 t5 t6),M 2 7] [0,4,5,6,7]) .ret)))⟩
def ylI:TCode:=(.seq (oQ [oX 14 .lss 13 12] []) (.seq (.cond t14 .skip (.exit 0)) (.seq (.block 1 (.seq (oQ [M 15 13,M 5 15] [14,15]) (.seq (.ops [M 16 0,M 17 5,O 18 (.iad 1 t16 t17),oF 19 1 18,M 20 1,M 21 5,O 22 (.iad 1 t20 t21),oF 23 1 22,oX 24 .neq 19 23] [⟨2,(.one (.i .i64)),0⟩,⟨3,(.one (.i .i64)),0⟩,⟨6,(.one (.i .i64)),0⟩,⟨7,(.one (.i .i64)),0⟩] [(0,1),(0,4),(1,4),(2,4),(3,4),(0,5),(1,5),(2,5),(3,5),(4,5),(0,6),(1,6),(2,6),(3,6),(0,7),(1,7),(2,7),(3,7)] [5,16,17,18,19,20,21,22,23]) (.cond t24 (.seq (oQ [O 4 (.mv (.c (.bool false)))] [0,1,12,13,24]) .ret) .skip)))) (oQ [O 25 (.bin .add t13 (I 1)),M 13 25] [24,25]))))
def ypx:TFn:=⟨2,[.tmp 4],(.seq (oQ [O 4 (.mv (.c (.bool false)))] [4]) (.seq (.seq (oQ [M 6 0,O 7 (.len t6),M 8 1,O 9 (.len t8),oX 10 .neq 7 9] [6,7,8,9]) (.cond t10 (.seq (oQ [O 4 (.mv (.c (.bool false)))] [0,1,10]) .ret) .skip)) (.seq (.seq (oQ [M 11 0,O 12 (.len t11),O 13 (.mv (I 0))] [10,11]) (.block 0 (.loop 67911700 ylI))) (.seq (oQ [O 4 (.mv (.c (.bool true)))] [0,1,12,13,14]) .ret))))⟩
def ylJ:TCode:=(.seq (oQ [oX 30 .lss 29 28] []) (.seq (.cond t30 .skip (.exit 0)) (.seq (.block 1 (.seq (.ops [O 31 (.iad 7 t27 t29),oT 32 7 31,O 11 (.allocL (.agg [(.int .i64 (0)),(.int .i64 (0)),(.int .i64 (0)),(.int .i64 (0)),(.int .i64 (0)),(.int .i64 (0)),(.bool false)])),⟨none,(.store 7 t11 t32),none⟩] [⟨0,(.agg [.i .i64,.i .i64,.i .i64,.i .i64,.i .i64,.i .i64,.b]),0⟩,⟨1,(.agg [.i .i64,.i .i64,.i .i64,.i .i64,.i .i64,.i .i64,.b]),0⟩] [] [30,31,32]) (.seq (.seq (.ops [O 33 (.fad 6 t11),oF 34 1 33,O 35 (.un .not t34)] [⟨1,(.agg [.i .i64,.i .i64,.i .i64,.i .i64,.i .i64,.i .i64,.b]),0⟩] [] [33,34]) (.cond t35 (.exit 1) .skip)) (.block 2 (.seq (.ops [O 37 (.fad 4 t11),O 38 (.fad 0 t37),oF 39 1 38,O 40 (.bin .gtr t39 (I 0)),M 36 40] [⟨2,(.agg [.i .i64,.i .i64,.i .i64,.i .i64,.i .i64,.i .i64,.b]),0⟩] [] [35,37,38,39,40]) (.cond t36 (.ops [M 41 9,M 42 7,O 43 (.fad 2 t11),oT 44 2 43,O 45 (.call t42 [t44]),O 46 (.iad 1 t41 t45),⟨none,(.store 1 t46 (I 1)),none⟩] [⟨3,(.agg [.i .i64,.i .i64,.i .i64,.i .i64,.i .i64,.i .i64,.b]),0⟩,⟨5,(.one (.i .i64)),0⟩,⟨6,(.one (.i .i64)),0⟩] [] [11,36,41,42,43,44,45,46]) (.seq (.ops [O 48 (.fad 0 t11),oT 49 2 48,O 50 (.fad 2 t11),oT 51 2 50,O 52 (.eqA true 2 [(0,(some .i64)),(1,(some .i64))] t49 t51),M 47 52] [⟨1,(.agg [.i .i64,.i .i64,.i .i64,.i .i64,.i .i64,.i .i64,.b]),0⟩,⟨3,(.agg [.i .i64,.i .i64,.i .i64,.i .i64,.i .i64,.i .i64,.b]),0⟩] [] [11,36,48,49,50,51,52]) (.cond t47 (.seq (oQ [O 6 (.mv (.c .nils))] [1,2,3,7,8,9,27,28,29,47]) .ret) .skip)))))))) (oQ [O 53 (.bin .add t29 (I 1)),M 29 53] [11,35,47,53]))))
def t71:Opd:=.t 71
def yjq:TCode:=(.seq (.seq (oQ [M 64 14,M 65 12,O 66 (.len t65),oX 67 .lss 64 66] [64,65,66]) (.cond t67 .skip (.exit 5))) (.seq (.block 6 (.ops [M 70 12,M 71 14,M 72 12,M 73 14,O 74 (.iad 1 t72 t73),oF 75 1 74,M 76 12,M 77 14,O 78 (.bin .sub t77 (I 1)),O 79 (.iad 1 t76 t78),oF 80 1 79,M 81 9,M 82 14,O 83 (.iad 1 t81 t82),oF 84 1 83,oX 85 .add 80 84,O 86 (.minmax true [t75,t85]),O 87 (.iad 1 t70 t71),⟨none,(.store 1 t87 t86),none⟩] [⟨4,(.one (.i .i64)),0⟩,⟨5,(.one (.i .i64)),0⟩,⟨9,(.one (.i .i64)),0⟩,⟨10,(.one (.i .i64)),0⟩,⟨13,(.one (.i .i64)),0⟩,⟨14,(.one (.i .i64)),0⟩,⟨17,(.one (.i .i64)),0⟩,⟨18,(.one (.i .i64)),0⟩] [(0,1),(0,2),(1,2),(0,3),(1,3),(2,3),(0,4),(1,4),(0,5),(1,5),(0,6),(1,6),(2,6),(3,6),(4,6),(5,6),(0,7),(1,7),(2,7),(3,7),(4,7),(5,7),(6,7),(0,8),(1,8),(2,8),(3,8),(4,8),(5,8),(6,8),(0,9),(1,9),(2,9),(3,9),(4,9),(5,9),(0,10),(1,10),(2,10),(3,10),(4,10),(5,10),(0,11),(1,11),(2,11),(3,11),(4,11),(5,11),(6,11),(7,11),(8,11),(9,11),(10,11),(0,12),(1,12),(2,12),(3,12),(4,12),(5,12),(6,12),(7,12),(8,12),(9,12),(10,12),(11,12),(0,13),(1,13),(2,13),(3,13),(4,13),(5,13),(6,13),(7,13),(8,13),(9,13),(10,13),(0,14),(1,14),(2,14),(3,14),(4,14),(5,14),(6,14),(7,14),(8,14),(9,14),(10,14),(0,15),(1,15),(2,15),(3,15),(4,15),(5,15),(0,16),(1,16)] [67,70,71,72,73,74,75,76,77,78,79,80,81,82,83,84,85,86,87])) (oQ [M 68 14,O 69 (.bin .add t68 (I 1)),M 14 69] [68,69])))
def t113:Opd:=.t 113
def t114:Opd:=.t 114
def t115:Opd:=.t 115
def t116:Opd:=.t 116
def t118:Opd:=.t 118
def t119:Opd:=.t 119
def t120:Opd:=.t 120
def t124:Opd:=.t 124
def t126:Opd:=.t 126
def t127:Opd:=.t 127
def t128:Opd:=.t 128
def t134:Opd:=.t 134
def t138:Opd:=.t 138
def t139:Opd:=.t 139
def yjr:TCode:=(.seq (oQ [oX 91 .lss 90 89] []) (.seq (.cond t91 .skip (.exit 7)) (.seq (.block 8 (.seq (.ops [O 92 (.iad 7 t88 t90),oT 93 7 92,O 16 (.allocL (.agg [(.int .i64 (0)),(.int .i64 (0)),(.int .i64 (0)),(.int .i64 (0)),(.int .i64 (0)),(.int .i64 (0)),(.bool false)])),⟨none,(.store 7 t16 t93),none⟩] [⟨0,(.agg [.i .i64,.i .i64,.i .i64,.i .i64,.i .i64,.i .i64,.b]),0⟩,⟨1,(.agg [.i .i64,.i .i64,.i .i64,.i .i64,.i .i64,.i .i64,.b]),0⟩] [] [91,92,93]) (.seq (.ops [M 94 7,O 95 (.fad 0 t16),oT 96 2 95,O 97 (.call t94 [t96]),M 98 7,O 99 (.fad 2 t16),oT 100 2 99,O 101 (.call t98 [t100]),M 17 97,M 18 101] [⟨2,(.agg [.i .i64,.i .i64,.i .i64,.i .i64,.i .i64,.i .i64,.b]),0⟩,⟨6,(.agg [.i .i64,.i .i64,.i .i64,.i .i64,.i .i64,.i .i64,.b]),0⟩] [(0,1),(0,2),(0,4),(1,4),(2,4),(3,4),(0,5),(1,5),(2,5),(3,5),(4,5),(0,6),(1,6),(2,6),(3,6),(4,6)] [94,95,96,97,98,99,100,101]) (.seq (.ops [O 102 (.fad 4 t16),O 103 (.fad 0 t102),oF 104 1 103,M 105 2,O 106 (.fad 4 t16),O 107 (.fad 1 t106),oF 108 1 107,oX 109 .quo 105 108,oX 110 .mul 104 109,M 111 8,oX 112 .mul 110 111,M 19 112] [⟨2,(.agg [.i .i64,.i .i64,.i .i64,.i .i64,.i .i64,.i .i64,.b]),0⟩,⟨6,(.agg [.i .i64,.i .i64,.i .i64,.i .i64,.i .i64,.i .i64,.b]),0⟩] [(0,3),(1,3),(2,3),(0,4),(1,4),(2,4),(3,4),(0,5),(1,5),(2,5),(3,5),(0,6),(1,6),(2,6),(3,6),(0,7),(1,7),(2,7),(0,9),(1,9),(2,9),(3,9),(4,9),(5,9),(6,9),(7,9),(8,9)] [16,102,103,104,105,106,107,108,109,110,111,112]) (.seq (.ops [M 113 12,M 114 18,M 115 12,M 116 18,O 117 (.iad 1 t115 t116),oF 118 1 117,M 119 12,M 120 17,O 121 (.iad 1 t119 t120),oF 122 1 121,M 123 19,oX 124 .add 122 123,O 125 (.minmax true [t118,t124]),O 126 (.iad 1 t113 t114),⟨none,(.store 1 t126 t125),none⟩] [⟨4,(.one (.i .i64)),0⟩,⟨5,(.one (.i .i64)),0⟩,⟨8,(.one (.i .i64)),0⟩,⟨9,(.one (.i .i64)),0⟩,⟨13,(.one (.i .i64)),0⟩,⟨14,(.one (.i .i64)),0⟩] [(0,1),(0,2),(1,2),(0,3),(1,3),(2,3),(0,4),(1,4),(0,5),(1,5),(0,6),(1,6),(2,6),(3,6),(4,6),(5,6),(0,7),(1,7),(2,7),(3,7),(4,7),(5,7),(6,7),(0,8),(1,8),(2,8),(3,8),(4,8),(5,8),(0,9),(1,9),(2,9),(3,9),(4,9),(5,9),(0,10),(1,10),(2,10),(3,10),(4,10),(5,10),(6,10),(7,10),(8,10),(9,10),(0,11),(1,11),(2,11),(3,11),(4,11),(5,11),(0,12),(1,12)] [113,114,115,116,117,118,119,120,121,122,123,124,125,126]) (.ops [M 127 12,M 128 17,M 129 12,M 130 17,O 131 (.iad 1 t129 t130),oF 132 1 131,M 133 12,M 134 18,O 135 (.iad 1 t133 t134),oF 136 1 135,M 137 19,oX 138 .sub 136 137,O 139 (.minmax true [t132,t138]),O 140 (.iad 1 t127 t128),⟨none,(.store 1 t140 t139),none⟩] [⟨4,(.one (.i .i64)),0⟩,⟨5,(.one (.i .i64)),0⟩,⟨8,(.one (.i .i64)),0⟩,⟨9,(.one (.i .i64)),0⟩,⟨13,(.one (.i .i64)),0⟩,⟨14,(.one (.i .i64)),0⟩] [(0,1),(0,2),(1,2),(0,3),(1,3),(2,3),(0,4),(1,4),(0,5),(1,5),(0,6),(1,6),(2,6),(3,6),(4,6),(5,6),(0,7),(1,7),(2,7),(3,7),(4,7),(5,7),(6,7),(0,8),(1,8),(2,8),(3,8),(4,8),(5,8),(0,9),(1,9),(2,9),(3,9),(4,9),(5,9),(0,10),(1,10),(2,10),(3,10),(4,10),(5,10),(6,10),(7,10),(8,10),(9,10),(0,11),(1,11),(2,11),(3,11),(4,11),(5,11),(0,12),(1,12)] [17,18,19,127,128,129,130,131,132,133,134,135,136,137,138,139,140])))))) (oQ [O 141 (.bin .add t90 (I 1)),M 90 141] [141]))))
def t146:Opd:=.t 146
def t147:Opd:=.t 147
def t148:Opd:=.t 148
def t149:Opd:=.t 149
def t151:Opd:=.t 151
def t152:Opd:=.t 152
def ylK:TCode:=(.seq (oQ [oX 61 .lss 60 59] []) (.seq (.cond t61 .skip (.exit 3)) (.seq (.block 4 (.seq (oQ [M 62 12,O 63 (.call (.f ycZ) [t62]),M 13 63] [61,62,63]) (.seq (.seq (oQ [O 14 (.mv (I 1))] []) (.block 5 (.loop 17934301 yjq))) (.seq (.seq (oQ [M 88 1,O 89 (.len t88),O 90 (.mv (I 0))] [14,67]) (.block 7 (.loop 17934302 yjr))) (.seq (.seq (.ops [M 142 12,O 143 (.iad 1 t142 (I 0)),oF 144 1 143,O 145 (.bin .gtr t144 (I 0))] [⟨1,(.one (.i .i64)),0⟩,⟨2,(.one (.i .i64)),0⟩] [] [88,89,90,91,142,143,144]) (.cond t145 (.seq (oQ [O 6 (.mv (.c .nils))] [1,2,7,8,9,12,13,59,60,145]) .ret) .skip)) (.seq (oQ [M 146 12,M 147 13,O 148 (.call (.f yci) [t146,t147])] [13,145,146,147]) (.cond t148 (.seq (.seq (.ops [M 149 9,O 150 (.iad 1 t149 (I 0)),oF 151 1 150,O 152 (.bin .gtr t151 (I 0))] [⟨1,(.one (.i .i64)),0⟩,⟨2,(.one (.i .i64)),0⟩] [] [1,2,7,8,9,59,60,148,149,150,151]) (.cond t152 (.seq (oQ [O 6 (.mv (.c .nils))] [12,152]) .ret) .skip)) (.seq (oQ [M 153 12,M 6 153] [12,152,153]) .ret)) .skip))))))) (oQ [O 154 (.bin .add t60 (I 1)),M 60 154] [148,154]))))
def ywv:TFn:=⟨3,[.tmp 6],(.seq (oQ [O 3 (.boxH true 1 t0),O 6 (.mv (.c .nils))] [0,6]) (.seq (oQ [O 20 (.mkFn (.func yaC) [] [t3]),M 7 20] [20]) (.seq (.ops [oF 21 1 3,O 22 (.len t21),O 23 (.bin .add t22 (I 1)),M 8 23] [⟨0,(.one (.d)),0⟩] [] [21,22,23]) (.seq (.ops [oF 24 1 3,O 25 (.len t24),O 26 (.mkSl true 1 8 (.int .i64 (0)) t25 t25),M 9 26] [⟨0,(.one (.d)),0⟩] [] [24,25,26]) (.seq (.seq (oQ [M 27 1,O 28 (.len t27),O 29 (.mv (I 0))] []) (.block 0 (.loop 17934300 ylJ))) (.seq (.ops [oF 54 1 3,O 55 (.len t54),O 56 (.mkSl true 1 8 (.int .i64 (0)) t55 t55),M 12 56] [⟨0,(.one (.d)),0⟩] [] [27,28,29,30,54,55,56]) (.seq (.seq (.ops [oF 57 1 3,O 58 (.len t57),O 59 (.bin .add t58 (I 1)),O 60 (.mv (I 0))] [⟨0,(.one (.d)),0⟩] [] [3,57,58]) (.block 3 (.loop 17934303 ylK))) (.seq (oQ [O 6 (.mv (.c .nils))] [1,2,7,8,9,12,59,60,61]) .ret))))))))⟩
def yxI:TFn:=⟨3,[.cell 6 true 2,.tmp 7],(.seq (oQ [O 6 (.allocL (.agg [(.int .i64 (0)),(.int .i64 (0))])),O 7 (.mv (I 0))] [7]) (.seq (.seq (oQ [M 8 1,M 9 2,O 10 (.minmax true [t8,t9]),O 11 (.bin .gtr t10 (.c (.int .u64 (1000000000000000000))))] [8,9,10]) (.cond t11 (.seq (oQ [O 12 (.build [(.int .i64 (0)),(.int .i64 (0))] []),⟨none,(.store 2 t6 t12),none⟩,O 7 (.mv (I 16))] [0,1,2,11,12]) .ret) .skip)) (.seq (.seq (oQ [M 13 0] [0,11]) (.cond t13 (.seq (oQ [M 14 1,O 15 (.conv .i64 t14),O 16 (.un .neg t15),M 17 2,O 18 (.conv .i64 t17),O 19 (.build [(.int .i64 (0)),(.int .i64 (0))] [(0,1,t16),(1,1,t18)]),⟨none,(.store 2 t6 t19),none⟩,O 7 (.mv (I 0))] [1,2,13,14,15,16,17,18,19]) .ret) .skip)) (.seq (oQ [M 20 1,O 21 (.conv .i64 t20),M 22 2,O 23 (.conv .i64 t22),O 24 (.build [(.int .i64 (0)),(.int .i64 (0))] [(0,1,t21),(1,1,t23)]),⟨none,(.store 2 t6 t24),none⟩,O 7 (.mv (I 0))] [1,2,13,20,21,22,23,24]) .ret))))⟩
def yA7:TFn:=⟨2,[.cell 4 true 2,.tmp 5],(.seq (oQ [O 4 (.allocL (.agg [(.int .i64 (0)),(.int .i64 (0))])),O 5 (.mv (I 0))] [5]) (.seq (.seq (oQ [M 9 1,O 10 (.bin .eql t9 (I 0))] [9]) (.cond t10 (.seq (oQ [O 11 (.build [(.int .i64 (0)),(.int .i64 (0))] []),⟨none,(.store 2 t4 t11),none⟩,O 5 (.mv (I 18))] [0,1,10,11]) .ret) .skip)) (.seq (oQ [M 12 0,O 13 (.call (.f yaX) [t12]),M 14 1,O 15 (.call (.f yaX) [t14]),M 6 13,M 7 15] [10,12,13,14,15]) (.seq (oQ [M 16 6,M 17 7,O 18 (.call (.f yct) [t16,t17]),M 8 18] [16,17,18]) (.seq (.ops [M 19 0,O 20 (.bin .lss t19 (I 0)),M 21 1,O 22 (.bin .lss t21 (I 0)),O 23 (.eqB true t20 t22),M 24 6,M 25 8,oX 26 .quo 24 25,M 27 7,M 28 8,oX 29 .quo 27 28,O 30 (.call (.f ycN) [t23,t26,t29]),O 31 (.ext t30 0),O 32 (.ext t30 1),⟨none,(.store 2 t4 t31),none⟩,M 5 32] [] [(0,2),(1,2),(0,3),(1,3),(0,5),(1,5),(2,5),(3,5),(4,5),(0,6),(1,6),(2,6),(3,6),(4,6),(5,6),(0,7),(1,7),(2,7),(3,7),(4,7),(0,8),(1,8),(2,8),(3,8),(4,8),(5,8),(6,8),(7,8),(0,9),(1,9),(2,9),(3,9),(4,9),(5,9),(6,9),(7,9),(8,9),(0,10),(1,10),(2,10),(3,10),(4,10),(5,10),(6,10),(7,10),(12,13)] [0,1,6,7,8,19,20,21,22,23,24,25,26,27,28,29,30,31,32]) .ret)))))⟩
def t66:Opd:=.t 66
def yjs:TCode:=(.seq (oQ [oX 49 .lss 48 47] []) (.seq (.cond t49 .skip (.exit 0)) (.seq (.block 1 (.seq (.ops [O 50 (.iad 1 t46 t48),oF 51 1 50,M 12 51] [⟨0,(.one (.i .i64)),0⟩,⟨1,(.one (.i .i64)),0⟩] [] [49,50,51]) (.seq (oQ [M 53 12,M 54 8,M 55 10,O 56 (.len t55),O 57 (.bin .add t56 (I 1)),oX 58 .mul 54 57,O 59 (.call (.f yii) [t53,t58]),M 52 59,O 60 (.ext t52 0),O 61 (.ext t52 1),O 13 (.allocL (.agg [(.int .i64 (0)),(.int .i64 (0))])),⟨none,(.store 2 t13 t60),none⟩,M 14 61] [12,14,52,53,54,55,56,57,58,59,60,61]) (.ops [O 62 (.fad 1 t9),oF 63 1 62,oT 64 2 13,O 65 (.buildD 2 (.agg [(.int .i64 (0)),(.int .i64 (0))]) 1 [(0,t64)]),O 66 (.app true 2 16 t63 t65),O 67 (.fad 1 t9),⟨none,(.store 1 t67 t66),none⟩] [⟨1,(.agg [.d,.d]),0⟩,⟨6,(.agg [.d,.d]),0⟩] [] [13,62,63,64,65,66,67])))) (oQ [O 68 (.bin .add t48 (I 1)),M 48 68] [68]))))
def yzc:TFn:=⟨2,[.cell 4 true 2,.tmp 5],(.seq (oQ [O 4 (.allocL (.agg [.nils,.nils])),O 5 (.mv (I 0))] [5]) (.seq (oQ [M 16 0,M 17 1,O 18 (.call (.f ycM) [t16,t17]),M 15 18,O 19 (.ext t15 0),O 20 (.ext t15 1),M 6 19,M 7 20] [1,15,16,17,18,19,20]) (.seq (.seq (oQ [M 21 7,O 22 (.bin .neq t21 (I 0))] [21]) (.cond t22 (.seq (oQ [O 23 (.build [.nils,.nils] []),M 24 7,⟨none,(.store 2 t4 t23),none⟩,M 5 24] [0,6,7,22,23,24]) .ret) .skip)) (.seq (oQ [M 26 6,O 27 (.call (.f yeH) [t26]),M 25 27,O 28 (.ext t25 0),O 29 (.ext t25 1),M 8 28,M 7 29] [22,25,26,27,28,29]) (.seq (.seq (oQ [M 30 7,O 31 (.bin .neq t30 (I 0))] [30]) (.cond t31 (.seq (oQ [O 32 (.build [.nils,.nils] []),M 33 7,⟨none,(.store 2 t4 t32),none⟩,M 5 33] [0,6,7,8,31,32,33]) .ret) .skip)) (.seq (oQ [M 34 0,M 35 6,O 36 (.call (.f ybQ) [t34,t35]),O 37 (.build [.nils,.nils] [(0,1,t36)]),O 9 (.allocL (.agg [.nils,.nils])),⟨none,(.store 2 t9 t37),none⟩] [0,7,31,34,35,36,37]) (.seq (.ops [O 38 (.fad 0 t9),oF 39 1 38,M 40 6,M 41 8,O 42 (.call (.f ycn) [t39,t40,t41]),M 10 42] [⟨1,(.agg [.d,.d]),0⟩] [] [6,38,39,40,41,42]) (.seq (.seq (oQ [M 43 10,O 44 (.eqN false t43)] [43]) (.cond t44 (.seq (oQ [O 45 (.build [.nils,.nils] []),⟨none,(.store 2 t4 t45),none⟩,O 5 (.mv (I 6))] [8,9,10,44,45]) .ret) .skip)) (.seq (.seq (oQ [M 46 10,O 47 (.len t46),O 48 (.mv (I 0))] [44]) (.block 0 (.loop 81034600 yjs))) (.seq (oQ [oT 69 2 9,⟨none,(.store 2 t4 t69),none⟩,O 5 (.mv (I 0))] [8,9,10,46,47,48,49,69]) .ret))))))))))⟩
def ylL:TCode:=(.seq (.seq (oQ [M 32 10,M 33 9,oX 34 .sub 32 33,O 35 (.bin .gtr t34 (I 1))] [32,33,34]) (.cond t35 .skip (.exit 0))) (.block 1 (.seq (oQ [M 36 9,M 37 10,oX 38 .add 36 37,O 39 (.bin .quo t38 (I 2)),M 11 39] [35,36,37,38,39]) (.seq (.ops [M 40 0,M 41 6,M 42 11,O 43 (.slc 7 t41 none (some t42) none),O 44 (.call (.f ybQ) [t40,t43]),M 45 6,M 46 11,O 47 (.slc 7 t45 none (some t46) none),M 48 8,O 49 (.call (.f ycn) [t44,t47,t48]),O 50 (.eqN false t49)] [] [(0,1),(0,2),(1,2),(0,3),(0,5),(1,5),(2,5),(3,5),(4,5),(0,6),(1,6),(2,6),(3,6),(4,6),(5,6),(0,7),(1,7),(2,7),(3,7),(4,7),(0,8),(1,8),(2,8),(3,8),(4,8),(5,8),(6,8),(7,8)] [40,41,42,43,44,45,46,47,48,49]) (.cond t50 (oQ [M 51 11,M 10 51] [11,50,51]) (oQ [M 52 11,M 9 52] [11,50,52]))))))
def yzd:TFn:=⟨2,[.tmp 4,.tmp 5],(.seq (oQ [O 4 (.mv (I 0)),O 5 (.mv (I 0))] [4,5]) (.seq (oQ [M 13 0,M 14 1,O 15 (.call (.f ycM) [t13,t14]),M 12 15,O 16 (.ext t12 0),O 17 (.ext t12 1),M 6 16,M 7 17] [1,12,13,14,15,16,17]) (.seq (.seq (oQ [M 18 7,O 19 (.bin .neq t18 (I 0))] [18]) (.cond t19 (.seq (oQ [M 20 7,O 4 (.mv (I 0)),M 5 20] [0,6,7,19,20]) .ret) .skip)) (.seq (oQ [M 22 6,O 23 (.call (.f yeH) [t22]),M 21 23,O 24 (.ext t21 0),O 25 (.ext t21 1),M 8 24,M 7 25] [19,21,22,23,24,25]) (.seq (.seq (oQ [M 26 7,O 27 (.bin .neq t26 (I 0))] [26]) (.cond t27 (.seq (oQ [M 28 7,O 4 (.mv (I 0)),M 5 28] [0,6,7,8,27,28]) .ret) .skip)) (.seq (oQ [M 29 6,O 30 (.len t29),O 31 (.bin .add t30 (I 1)),O 9 (.mv (I 0)),M 10 31] [7,27,29,30,31]) (.seq (.block 0 (.loop 55097000 ylL)) (.seq (oQ [M 53 9,M 4 53,O 5 (.mv (I 0))] [0,6,8,9,10,35,53]) .ret))))))))⟩
def ylM:TCode:=(.seq (.seq (oQ [M 11 5,M 12 0,O 13 (.len t12),oX 14 .lss 11 13] [11,12,13]) (.cond t14 .skip (.exit 0))) (.seq (.block 1 (.seq (.ops [M 17 0,M 18 5,O 19 (.iad 2 t17 t18),oT 20 2 19,M 21 1,M 22 5,O 23 (.iad 2 t21 t22),oT 24 2 23,O 25 (.eqA true 2 [(0,(some .i64)),(1,(some .i64))] t20 t24)] [⟨2,(.agg [.i .i64,.i .i64]),0⟩,⟨3,(.agg [.i .i64,.i .i64]),0⟩,⟨6,(.agg [.i .i64,.i .i64]),0⟩,⟨7,(.agg [.i .i64,.i .i64]),0⟩] [(0,1),(0,4),(1,4),(2,4),(3,4),(0,5),(1,5),(2,5),(3,5),(4,5),(0,6),(1,6),(2,6),(3,6),(0,7),(1,7),(2,7),(3,7)] [14,17,18,19,20,21,22,23,24]) (.cond t25 (.seq (oQ [O 4 (.mv (.c (.bool false)))] [0,1,5,25]) .ret) .skip))) (oQ [M 15 5,O 16 (.bin .add t15 (I 1)),M 5 16] [15,16,25])))
def yxJ:TFn:=⟨2,[.tmp 4],(.seq (oQ [O 4 (.mv (.c (.bool false)))] [4]) (.seq (.seq (oQ [M 6 0,O 7 (.len t6),M 8 1,O 9 (.len t8),oX 10 .neq 7 9] [6,7,8,9]) (.cond t10 (.seq (oQ [O 4 (.mv (.c (.bool false)))] [0,1,10]) .ret) .skip)) (.seq (.seq (oQ [O 5 (.mv (I 0))] [10]) (.block 0 (.loop 53352400 ylM))) (.seq (oQ [O 4 (.mv (.c (.bool true)))] [0,1,5,14]) .ret))))⟩
def yFp:TFn:=⟨2,[.tmp 4],(.seq (oQ [O 2 (.boxL t0),O 3 (.boxL t1),O 4 (.mv (.c (.bool false)))] [0,1,4]) (.seq (.ops [O 5 (.fad 0 t2),oF 6 1 5,O 7 (.fad 0 t3),oF 8 1 7,O 9 (.call (.f yeT) [t6,t8]),M 10 9,⟨some 11,(.fad 1 t2),some (10,true)⟩,⟨some 12,(.load false 1 t11),some (10,true)⟩,⟨some 13,(.fad 1 t3),some (10,true)⟩,⟨some 14,(.load false 1 t13),some (10,true)⟩,⟨some 15,(.call (.f yeT) [t12,t14]),some (10,true)⟩,O 16 (.pick t10 t15 (.c (.bool false))),M 4 16] [⟨1,(.agg [.d,.d]),0⟩,⟨3,(.agg [.d,.d]),0⟩,⟨7,(.agg [.d,.d]),0⟩,⟨9,(.agg [.d,.d]),0⟩] [] [2,3,5,6,7,8,9,10,11,12,13,14,15,16]) .ret))⟩
def yDh:TFn:=⟨0,[.tmp 0],(.seq (oQ [O 0 (.mv (.c (.bool false)))] [0]) (.seq (oQ [O 10 (.call (.f ygh) [(I 0),(I 1),(I 1)]),O 11 (.call (.f ygi) [(I 0),(I 3),(I 2)]),O 12 (.buildD 8 (.agg [(.int .i64 (0)),(.int .u8 (0)),(.int .i64 (0)),(.int .i64 (0)),(.int .i64 (0)),(.int .i64 (0)),(.int .i64 (0)),(.int .i64 (0))]) 2 [(0,t10),(1,t11)]),O 13 (.call (.f ydh) [(I 2),t12]),M 9 13,O 14 (.ext t9 0),O 15 (.ext t9 1),O 1 (.allocL (.agg [.nils,.nils])),⟨none,(.store 2 t1 t14),none⟩,M 2 15] [9,10,11,12,13,14,15]) (.seq (oQ [O 17 (.call (.f ygh) [(I 0),(I 1),(I 1)]),O 18 (.call (.f ygi) [(I 0),(I 1),(I 2)]),O 19 (.buildD 8 (.agg [(.int .i64 (0)),(.int .u8 (0)),(.int .i64 (0)),(.int .i64 (0)),(.int .i64 (0)),(.int .i64 (0)),(.int .i64 (0)),(.int .i64 (0))]) 2 [(0,t17),(1,t18)]),O 20 (.call (.f ydh) [(I 2),t19]),M 16 20,O 21 (.ext t16 0),O 22 (.ext t16 1),O 3 (.allocL (.agg [.nils,.nils])),⟨none,(.store 2 t3 t21),none⟩,M 4 22] [3,16,17,18,19,20,21,22]) (.seq (oQ [O 24 (.call (.f ygh) [(I 0),(I 1),(I 1)]),O 25 (.call (.f ygi) [(I 0),(I 1),(I 2)]),O 26 (.buildD 8 (.agg [(.int .i64 (0)),(.int .u8 (0)),(.int .i64 (0)),(.int .i64 (0)),(.int .i64 (0)),(.int .i64 (0)),(.int .i64 (0)),(.int .i64 (0))]) 2 [(0,t24),(1,t25)]),O 27 (.call (.f yeI) [(I 2),t26]),M 23 27,O 28 (.ext t23 0),O 29 (.ext t23 1),M 5 28,M 6 29] [23,24,25,26,27,28,29]) (.seq (oQ [O 31 (.call (.f ygi) [(I 0),(I 1),(I 2)]),O 32 (.buildD 8 (.agg [(.int .i64 (0)),(.int .u8 (0)),(.int .i64 (0)),(.int .i64 (0)),(.int .i64 (0)),(.int .i64 (0)),(.int .i64 (0)),(.int .i64 (0))]) 1 [(0,t31)]),O 33 (.call (.f ydh) [(I 2),t32]),M 30 33,O 34 (.ext t30 0),O 35 (.ext t30 1),O 7 (.allocL (.agg [.nils,.nils])),⟨none,(.store 2 t7 t34),none⟩,M 8 35] [30,31,32,33,34,35]) (.seq (.ops [M 36 2,O 37 (.bin .eql t36 (I 0)),M 38 37,⟨some 39,(.load true 2 t1),some (38,true)⟩,⟨some 40,(.call (.f ybY) [(I 0)]),some (38,true)⟩,⟨some 41,(.call (.f ybY) [(I 1)]),some (38,true)⟩,⟨some 42,(.call (.f ybY) [(I 2)]),some (38,true)⟩,⟨some 43,(.buildD 2 (.agg [(.int .i64 (0)),(.int .i64 (0))]) 3 [(0,t40),(1,t41),(2,t42)]),some (38,true)⟩,⟨some 44,(.call (.f ybY) [(I 0)]),some (38,true)⟩,⟨some 45,(.call (.f ybY) [(I 1)]),some (38,true)⟩,⟨some 46,(.call (.f ybY) [(I 3)]),some (38,true)⟩,⟨some 47,(.buildD 2 (.agg [(.int .i64 (0)),(.int .i64 (0))]) 3 [(0,t44),(1,t45),(2,t46)]),some (38,true)⟩,⟨some 48,(.build [.nils,.nils] [(0,1,t43),(1,1,t47)]),some (38,true)⟩,⟨some 49,(.call (.f yji) [t39,t48]),some (38,true)⟩,O 50 (.pick t38 t49 (.c (.bool false))),M 51 50,⟨some 52,(.mv t4),some (51,true)⟩,⟨some 53,(.bin .eql t52 (I 6)),some (51,true)⟩,O 54 (.pick t51 t53 (.c (.bool false))),M 55 54,⟨some 56,(.mv t6),some (55,true)⟩,⟨some 57,(.bin .eql t56 (I 0)),some (55,true)⟩,O 58 (.pick t55 t57 (.c (.bool false))),M 59 58,⟨some 60,(.mv t5),some (59,true)⟩,⟨some 61,(.bin .eql t60 (I 1)),some (59,true)⟩,O 62 (.pick t59 t61 (.c (.bool false))),M 63 62,⟨some 64,(.mv t8),some (63,true)⟩,⟨some 65,(.bin .eql t64 (I 0)),some (63,true)⟩,O 66 (.pick t63 t65 (.c (.bool false))),M 67 66,⟨some 68,(.load true 2 t7),some (67,true)⟩,⟨some 69,(.call (.f ybY) [(I 0)]),some (67,true)⟩,⟨some 70,(.call (.f ybY) [(I 2)]),some (67,true)⟩,⟨some 71,(.buildD 2 (.agg [(.int .i64 (0)),(.int .i64 (0))]) 2 [(0,t69),(1,t70)]),some (67,true)⟩,⟨some 72,(.call (.f ybY) [(I 0)]),some (67,true)⟩,⟨some 73,(.call (.f ybY) [(I 1)]),some (67,true)⟩,⟨some 74,(.buildD 2 (.agg [(.int .i64 (0)),(.int .i64 (0))]) 2 [(0,t72),(1,t73)]),some (67,true)⟩,⟨some 75,(.build [.nils,.nils] [(0,1,t71),(1,1,t74)]),some (67,true)⟩,⟨some 76,(.call (.f yji) [t68,t75]),some (67,true)⟩,O 77 (.pick t67 t76 (.c (.bool false))),M 0 77] [] [(3,4),(3,5),(3,6),(3,7),(3,8),(7,8),(3,9),(7,9),(3,10),(7,10),(3,11),(7,11),(3,12),(32,33),(32,34),(32,35),(32,36),(35,36),(32,37),(35,37),(32,38),(35,38),(32,39)] [1,2,4,5,6,7,8,36,37,38,39,40,41,42,43,44,45,46,47,48,49,50,51,52,53,54,55,56,57,58,59,60,61,62,63,64,65,66,67,68,69,70,71,72,73,74,75,76,77]) .ret))))))⟩
def ylN:TCode:=(.seq (.seq (oQ [M 12 4,M 13 0,O 14 (.len t13),oX 15 .lss 12 14] [12,13,14]) (.cond t15 .skip (.exit 0))) (.seq (.block 1 (.ops [M 18 3,M 19 0,M 20 4,O 21 (.iad 1 t19 t20),oF 22 1 21,O 23 (.minmax false [t18,t22]),M 3 23] [⟨3,(.one (.i .i64)),0⟩,⟨4,(.one (.i .i64)),0⟩] [] [15,18,19,20,21,22,23])) (oQ [M 16 4,O 17 (.bin .add t16 (I 1)),M 4 17] [16,17])))
def yww:TFn:=⟨1,[.tmp 2],(.seq (oQ [O 2 (.mv (I 0))] [2]) (.seq (.seq (oQ [M 5 0,O 6 (.len t5),O 7 (.bin .lss t6 (I 1))] [5,6]) (.cond t7 (oQ [⟨some 8,.bad,none⟩,⟨none,.bad,none⟩] [7,8]) .skip)) (.seq (.ops [M 9 0,O 10 (.iad 1 t9 (I 0)),oF 11 1 10,M 3 11] [⟨1,(.one (.i .i64)),0⟩,⟨2,(.one (.i .i64)),0⟩] [] [7,9,10,11]) (.seq (.seq (oQ [O 4 (.mv (I 1))] []) (.block 0 (.loop 10434000 ylN))) (.seq (oQ [M 24 3,M 2 24] [0,3,4,15,24]) .ret)))))⟩
def ylO:TCode:=(.seq (.seq (oQ [M 12 4,M 13 0,O 14 (.len t13),oX 15 .lss 12 14] [12,13,14]) (.cond t15 .skip (.exit 0))) (.seq (.block 1 (.ops [M 18 3,M 19 0,M 20 4,O 21 (.iad 1 t19 t20),oF 22 1 21,O 23 (.minmax true [t18,t22]),M 3 23] [⟨3,(.one (.i .i64)),0⟩,⟨4,(.one (.i .i64)),0⟩] [] [15,18,19,20,21,22,23])) (oQ [M 16 4,O 17 (.bin .add t16 (I 1)),M 4 17] [16,17])))
def ywx:TFn:=⟨1,[.tmp 2],(.seq (oQ [O 2 (.mv (I 0))] [2]) (.seq (.seq (oQ [M 5 0,O 6 (.len t5),O 7 (.bin .lss t6 (I 1))] [5,6]) (.cond t7 (oQ [⟨some 8,.bad,none⟩,⟨none,.bad,none⟩] [7,8]) .skip)) (.seq (.ops [M 9 0,O 10 (.iad 1 t9 (I 0)),oF 11 1 10,M 3 11] [⟨1,(.one (.i .i64)),0⟩,⟨2,(.one (.i .i64)),0⟩] [] [7,9,10,11]) (.seq (.seq (oQ [O 4 (.mv (I 1))] []) (.block 0 (.loop 64079100 ylO))) (.seq (oQ [M 24 3,M 2 24] [0,3,4,15,24]) .ret)))))⟩
def ylP:TCode:=(.seq (oQ [oX 51 .lss 50 49] []) (.seq (.cond t51 .skip (.exit 0)) (.seq (.block 1 (.seq (oQ [M 52 50,M 4 52] [51,52]) (.seq (.ops [O 53 (.fad 1 t1),oF 54 1 53,M 55 4,O 56 (.iad 1 t54 t55),oF 57 1 56,O 58 (.fad 1 t1),oF 59 1 58,M 60 4,O 61 (.bin .add t60 (I 1)),O 62 (.iad 1 t59 t61),oF 63 1 62,oX 64 .geq 57 63] [⟨1,(.agg [.i .i64,.d,.d]),0⟩,⟨3,(.one (.i .i64)),0⟩,⟨4,(.one (.i .i64)),0⟩,⟨6,(.agg [.i .i64,.d,.d]),0⟩,⟨9,(.one (.i .i64)),0⟩,⟨10,(.one (.i .i64)),0⟩] [(0,2),(1,2),(0,5),(1,5),(2,5),(3,5),(4,5),(0,6),(1,6),(2,6),(3,6),(4,6),(0,7),(1,7),(2,7),(3,7),(4,7),(5,7),(6,7),(0,8),(1,8),(2,8),(3,8),(4,8),(5,8),(6,8),(0,9),(1,9),(2,9),(3,9),(4,9),(0,10),(1,10),(2,10),(3,10),(4,10)] [4,53,54,55,56,57,58,59,60,61,62,63]) (.cond t64 (.seq (oQ [O 2 (.mv (I 8))] [1,49,50,64]) .ret) .skip)))) (oQ [O 65 (.bin .add t50 (I 1)),M 50 65] [64,65]))))
def yA8:TFn:=⟨1,[.tmp 2],(.seq (oQ [O 1 (.boxL t0),O 2 (.mv (I 0))] [0,2]) (.seq (.ops [O 5 (.fad 1 t1),oF 6 1 5,O 7 (.len t6),M 3 7] [⟨1,(.agg [.i .i64,.d,.d]),0⟩] [] [5,6,7]) (.seq (.seq (.ops [O 8 (.fad 0 t1),oF 9 1 8,O 10 (.bin .gtr t9 (I 1000)),M 11 10,⟨some 12,(.mv t3),some (11,false)⟩,⟨some 13,(.bin .gtr t12 (I 40)),some (11,false)⟩,O 14 (.pick t11 (.c (.bool true)) t13)] [⟨1,(.agg [.i .i64,.d,.d]),0⟩] [] [8,9,10,11,12,13]) (.cond t14 (.seq (oQ [O 2 (.mv (I 4))] [1,3,14]) .ret) .skip)) (.seq (.seq (.ops [O 15 (.fad 0 t1),oF 16 1 15,O 17 (.bin .lss t16 (I 1)),M 18 17,⟨some 19,(.mv t3),some (18,false)⟩,⟨some 20,(.bin .lss t19 (I 2)),some (18,false)⟩,O 21 (.pick t18 (.c (.bool true)) t20),M 22 21,⟨some 23,(.fad 2 t1),some (22,false)⟩,⟨some 24,(.load false 1 t23),some (22,false)⟩,⟨some 25,(.len t24),some (22,false)⟩,⟨some 26,(.mv t3),some (22,false)⟩,⟨some 27,(.bin .sub t26 (I 1)),some (22,false)⟩,⟨some 28,(.bin .neq t25 t27),some (22,false)⟩,O 29 (.pick t22 (.c (.bool true)) t28),M 30 29,⟨some 31,(.fad 1 t1),some (30,false)⟩,⟨some 32,(.load false 1 t31),some (30,false)⟩,⟨some 33,(.iad 1 t32 (I 0)),some (30,false)⟩,⟨some 34,(.load false 1 t33),some (30,false)⟩,⟨some 35,(.bin .neq t34 (I 0)),some (30,false)⟩,O 36 (.pick t30 (.c (.bool true)) t35),M 37 36,⟨some 38,(.fad 1 t1),some (37,false)⟩,⟨some 39,(.load false 1 t38),some (37,false)⟩,⟨some 40,(.mv t3),some (37,false)⟩,⟨some 41,(.bin .sub t40 (I 1)),some (37,false)⟩,⟨some 42,(.iad 1 t39 t41),some (37,false)⟩,⟨some 43,(.load false 1 t42),some (37,false)⟩,⟨some 44,(.fad 0 t1),some (37,false)⟩,⟨some 45,(.load false 1 t44),some (37,false)⟩,⟨some 46,(.bin .neq t43 t45),some (37,false)⟩,O 47 (.pick t37 (.c (.bool true)) t46)] [⟨1,(.agg [.i .i64,.d,.d]),0⟩,⟨9,(.agg [.i .i64,.d,.d]),0⟩,⟨17,(.agg [.i .i64,.d,.d]),0⟩,⟨18,(.one (.i .i64)),0⟩,⟨19,(.one (.i .i64)),0⟩,⟨24,(.agg [.i .i64,.d,.d]),0⟩,⟨27,(.one (.i .i64)),0⟩,⟨28,(.one (.i .i64)),0⟩,⟨30,(.agg [.i .i64,.d,.d]),0⟩] [(8,11),(9,11),(10,11),(8,12),(9,12),(10,12),(23,25),(24,25),(23,26),(24,26),(23,29),(24,29),(25,29),(26,29),(27,29),(28,29),(23,30),(24,30),(25,30),(26,30),(27,30),(28,30)] [14,15,16,17,18,19,20,21,22,23,24,25,26,27,28,29,30,31,32,33,34,35,36,37,38,39,40,41,42,43,44,45,46]) (.cond t47 (.seq (oQ [O 2 (.mv (I 8))] [1,3,47]) .ret) .skip)) (.seq (.seq (oQ [M 48 3,O 49 (.bin .sub t48 (I 1)),O 50 (.mv (I 0))] [3,47,48]) (.block 0 (.loop 87419700 ylP))) (.seq (.seq (.ops [O 66 (.fad 2 t1),oF 67 1 66,O 68 (.call (.f yfB) [t67]),O 69 (.bin .lss t68 (I 0)),M 70 69,⟨some 71,(.fad 2 t1),some (70,false)⟩,⟨some 72,(.load false 1 t71),some (70,false)⟩,⟨some 73,(.call (.f yej) [t72]),some (70,false)⟩,⟨some 74,(.bin .gtr t73 (I 12)),some (70,false)⟩,O 75 (.pick t70 (.c (.bool true)) t74),M 76 75,⟨some 77,(.fad 2 t1),some (76,false)⟩,⟨some 78,(.load false 1 t77),some (76,false)⟩,⟨some 79,(.call (.f yej) [t78]),some (76,false)⟩,⟨some 80,(.bin .eql t79 (I 0)),some (76,false)⟩,O 81 (.pick t76 (.c (.bool true)) t80)] [⟨1,(.agg [.i .i64,.d,.d]),0⟩,⟨6,(.agg [.i .i64,.d,.d]),0⟩,⟨12,(.agg [.i .i64,.d,.d]),0⟩] [] [1,49,50,51,66,67,68,69,70,71,72,73,74,75,76,77,78,79,80]) (.cond t81 (.seq (oQ [O 2 (.mv (I 8))] [81]) .ret) .skip)) (.seq (oQ [O 2 (.mv (I 0))] [81]) .ret)))))))⟩
def yA9:TFn:=⟨1,[.cell 2 true 2],(.seq (oQ [O 2 (.allocL (.agg [(.int .i64 (0)),(.int .i64 (0))]))] []) (.seq (oQ [M 3 0,O 4 (.build [(.int .i64 (0)),(.int .i64 (0))] [(0,1,t3),(1,1,(I 1))]),⟨none,(.store 2 t2 t4),none⟩] [0,3,4]) .ret))⟩
def yDi:TFn:=⟨2,[.tmp 4],(.seq (oQ [O 2 (.boxL t0),O 3 (.boxL t1),O 4 (.mv (.c (.bool false)))] [0,1,4]) (.seq (oQ [oT 8 2 2,oT 9 2 3,O 10 (.call (.f ygj) [t8,t9]),M 7 10,O 11 (.ext t7 0),O 12 (.ext t7 1),M 5 11,M 6 12] [2,3,6,7,8,9,10,11,12]) (.seq (oQ [M 13 5,O 14 (.bin .lss t13 (I 0)),M 4 14] [5,13,14]) .ret)))⟩
def yBa:TFn:=⟨2,[.tmp 4],(.seq (oQ [O 2 (.boxL t0),O 3 (.boxL t1),O 4 (.mv (.c (.bool false)))] [0,1,4]) (.seq (.ops [oT 5 2 3,O 6 (.call (.f yaZ) [t5]),O 7 (.bin .eql t6 (I 0)),M 8 7,⟨some 9,(.fad 0 t3),some (8,true)⟩,⟨some 10,(.load false 1 t9),some (8,true)⟩,⟨some 11,(.bin .geq t10 (I 0)),some (8,true)⟩,O 12 (.pick t8 t11 (.c (.bool false))),M 13 12,⟨some 14,(.fad 0 t2),some (13,true)⟩,⟨some 15,(.load false 1 t14),some (13,true)⟩,⟨some 16,(.call (.f ybn) [t15]),some (13,true)⟩,⟨some 17,(.load true 2 t3),some (13,true)⟩,⟨some 18,(.call (.f yca) [t16,t17]),some (13,true)⟩,⟨some 19,(.un .not t18),some (13,true)⟩,O 20 (.pick t13 t19 (.c (.bool false))),M 4 20] [⟨5,(.agg [.i .i64,.i .i64]),0⟩,⟨10,(.agg [.i .i64,.d,.d]),0⟩] [(9,12),(10,12),(11,12)] [2,3,5,6,7,8,9,10,11,12,13,14,15,16,17,18,19,20]) .ret))⟩
def yst:TFn:=⟨1,[.tmp 2],(.seq (oQ [O 2 (.mv (I 0))] [2]) (.seq (oQ [M 3 0,O 4 (.call (.f ylm) [t3]),O 5 (.bin .sub (I 64) t4),M 2 5] [0,3,4,5]) .ret))⟩
def yjt:TCode:=(.seq (.seq (oQ [M 67 15,O 68 (.bin .geq t67 (.c (.int .u64 (4294967296)))),M 69 68,⟨some 70,(.mv t15),some (69,false)⟩,⟨some 71,(.mv t10),some (69,false)⟩,⟨some 72,(.bin .mul t70 t71),some (69,false)⟩,⟨some 73,(.mv t16),some (69,false)⟩,⟨some 74,(.bin .mul (.c (.int .u64 (4294967296))) t73),some (69,false)⟩,⟨some 75,(.mv t13),some (69,false)⟩,⟨some 76,(.bin .add t74 t75),some (69,false)⟩,⟨some 77,(.bin .gtr t72 t76),some (69,false)⟩,O 78 (.pick t69 (.c (.bool true)) t77)] [67,68,69,70,71,72,73,74,75,76,77,85]) (.cond t78 .skip (.exit 0))) (.block 1 (.seq (oQ [M 79 15,O 80 (.bin .sub t79 (.c (.int .u64 (1)))),M 15 80] [78,79,80]) (.seq (oQ [M 81 16,M 82 9,oX 83 .add 81 82,M 16 83] [81,82,83]) (.seq (oQ [M 84 16,O 85 (.bin .geq t84 (.c (.int .u64 (4294967296))))] [84]) (.cond t85 (.exit 0) .skip))))))
def t104:Opd:=.t 104
def t111:Opd:=.t 111
def t112:Opd:=.t 112
def yju:TCode:=(.seq (.seq (oQ [M 102 18,O 103 (.bin .geq t102 (.c (.int .u64 (4294967296)))),M 104 103,⟨some 105,(.mv t18),some (104,false)⟩,⟨some 106,(.mv t10),some (104,false)⟩,⟨some 107,(.bin .mul t105 t106),some (104,false)⟩,⟨some 108,(.mv t16),some (104,false)⟩,⟨some 109,(.bin .mul (.c (.int .u64 (4294967296))) t108),some (104,false)⟩,⟨some 110,(.mv t14),some (104,false)⟩,⟨some 111,(.bin .add t109 t110),some (104,false)⟩,⟨some 112,(.bin .gtr t107 t111),some (104,false)⟩,O 113 (.pick t104 (.c (.bool true)) t112)] [102,103,104,105,106,107,108,109,110,111,112,120]) (.cond t113 .skip (.exit 2))) (.block 3 (.seq (oQ [M 114 18,O 115 (.bin .sub t114 (.c (.int .u64 (1)))),M 18 115] [113,114,115]) (.seq (oQ [M 116 16,M 117 9,oX 118 .add 116 117,M 16 118] [116,117,118]) (.seq (oQ [M 119 16,O 120 (.bin .geq t119 (.c (.int .u64 (4294967296))))] [119]) (.cond t120 (.exit 2) .skip))))))
def yHP:TFn:=⟨3,[.tmp 6,.tmp 7],(.seq (oQ [O 6 (.mv (.c (.int .u64 (0)))),O 7 (.mv (.c (.int .u64 (0))))] [6,7]) (.seq (.seq (oQ [M 19 2,O 20 (.bin .eql t19 (.c (.int .u64 (0))))] [19]) (.cond t20 (oQ [O 21 (.load false 1 (.g 0)),⟨none,.bad,none⟩] [20,21]) .skip)) (.seq (.seq (oQ [M 22 2,M 23 0,oX 24 .leq 22 23] [20,22,23]) (.cond t24 (oQ [O 25 (.load false 1 (.g 1)),⟨none,.bad,none⟩] [24,25]) .skip)) (.seq (.seq (oQ [M 26 0,O 27 (.bin .eql t26 (.c (.int .u64 (0))))] [24,26]) (.cond t27 (.seq (.ops [M 28 1,M 29 2,oX 30 .quo 28 29,M 31 1,M 32 2,oX 33 .rem 31 32,M 6 30,M 7 33] [] [(0,1),(0,3),(1,3),(2,3),(0,4),(1,4),(2,4),(3,4),(0,5),(1,5),(2,5),(3,6),(4,6),(5,6)] [0,1,2,27,28,29,30,31,32,33]) .ret) .skip)) (.seq (oQ [M 34 2,O 35 (.call (.f yd4) [t34]),O 36 (.conv .u64 t35),M 8 36] [27,34,35,36]) (.seq (oQ [M 37 2,M 38 8,oX 39 .shl 37 38,M 2 39] [37,38,39]) (.seq (oQ [M 40 2,O 41 (.bin .shr t40 (.c (.int .u64 (32)))),M 9 41] [40,41]) (.seq (oQ [M 42 2,O 43 (.bin .and t42 (.c (.int .u64 (4294967295)))),M 10 43] [42,43]) (.seq (oQ [M 44 0,M 45 8,oX 46 .shl 44 45,M 47 1,M 48 8,O 49 (.bin .sub (.c (.int .u64 (64))) t48),oX 50 .shr 47 49,oX 51 .or 46 50,M 11 51] [0,44,45,46,47,48,49,50,51]) (.seq (oQ [M 52 1,M 53 8,oX 54 .shl 52 53,M 12 54] [1,52,53,54]) (.seq (oQ [M 55 12,O 56 (.bin .shr t55 (.c (.int .u64 (32)))),M 13 56] [55,56]) (.seq (oQ [M 57 12,O 58 (.bin .and t57 (.c (.int .u64 (4294967295)))),M 14 58] [12,57,58]) (.seq (oQ [M 59 11,M 60 9,oX 61 .quo 59 60,M 15 61] [59,60,61]) (.seq (oQ [M 62 11,M 63 15,M 64 9,oX 65 .mul 63 64,oX 66 .sub 62 65,M 16 66] [62,63,64,65,66]) (.seq (.block 0 (.loop 60530100 yjt)) (.seq (oQ [M 86 11,O 87 (.bin .mul t86 (.c (.int .u64 (4294967296)))),M 88 13,oX 89 .add 87 88,M 90 15,M 91 2,oX 92 .mul 90 91,oX 93 .sub 89 92,M 17 93] [11,13,16,78,85,86,87,88,89,90,91,92,93]) (.seq (oQ [M 94 17,M 95 9,oX 96 .quo 94 95,M 18 96] [94,95,96]) (.seq (oQ [M 97 17,M 98 18,M 99 9,oX 100 .mul 98 99,oX 101 .sub 97 100,M 16 101] [97,98,99,100,101]) (.seq (.block 2 (.loop 60530101 yju)) (.seq (oQ [M 121 15,O 122 (.bin .mul t121 (.c (.int .u64 (4294967296)))),M 123 18,oX 124 .add 122 123,M 125 17,O 126 (.bin .mul t125 (.c (.int .u64 (4294967296)))),M 127 14,oX 128 .add 126 127,M 129 18,M 130 2,oX 131 .mul 129 130,oX 132 .sub 128 131,M 133 8,oX 134 .shr 132 133,M 6 124,M 7 134] [2,8,9,10,14,15,16,17,18,113,120,121,122,123,124,125,126,127,128,129,130,131,132,133,134]) .ret))))))))))))))))))))⟩
def yHQ:TFn:=⟨3,[.tmp 6],(.seq (oQ [O 6 (.mv (.c (.int .u64 (0))))] [6]) (.seq (oQ [M 10 0,M 11 2,oX 12 .rem 10 11,M 13 1,M 14 2,O 15 (.call (.f yjj) [t12,t13,t14]),M 9 15,O 16 (.ext t9 0),O 17 (.ext t9 1),M 7 16,M 8 17] [0,1,2,7,9,10,11,12,13,14,15,16,17]) (.seq (oQ [M 18 8,M 6 18] [8,18]) .ret)))⟩
def t103:Opd:=.t 103
def t117:Opd:=.t 117
def t122:Opd:=.t 122
def t123:Opd:=.t 123
def t153:Opd:=.t 153
def t154:Opd:=.t 154
def t155:Opd:=.t 155
def t156:Opd:=.t 156
def t157:Opd:=.t 157
def t158:Opd:=.t 158
def t159:Opd:=.t 159
def yDj:TFn:=⟨2,[.cell 4 true 2,.tmp 5],(.seq (oQ [O 2 (.boxL t0),O 3 (.boxL t1),O 4 (.allocL (.agg [(.int .i64 (0)),(.int .i64 (0))])),O 5 (.mv (I 0))] [0,1,5]) (.seq (.seq (oQ [oT 21 2 2,oT 22 2 3,O 23 (.call (.f ybr) [t21,t22]),M 6 23] [21,22,23]) (.seq (oQ [M 24 6,O 25 (.bin .neq t24 (I 0))] [24]) (.cond t25 (.seq (oQ [O 26 (.build [(.int .i64 (0)),(.int .i64 (0))] []),M 27 6,⟨none,(.store 2 t4 t26),none⟩,M 5 27] [2,3,6,25,26,27]) .ret) .skip))) (.seq (.ops [O 28 (.fad 1 t2),oF 29 1 28,O 30 (.conv .u64 t29),O 31 (.fad 1 t3),oF 32 1 31,O 33 (.conv .u64 t32),O 34 (.call (.f yct) [t30,t33]),M 7 34] [⟨1,(.agg [.i .i64,.i .i64]),0⟩,⟨4,(.agg [.i .i64,.i .i64]),0⟩] [] [6,25,28,29,30,31,32,33,34]) (.seq (.ops [O 36 (.fad 0 t2),oF 37 1 36,O 38 (.call (.f yaX) [t37]),O 39 (.fad 1 t3),oF 40 1 39,O 41 (.conv .u64 t40),M 42 7,oX 43 .quo 41 42,O 44 (.call (.f ydZ) [t38,t43]),M 35 44,O 45 (.ext t35 0),O 46 (.ext t35 1),M 8 45,M 9 46] [⟨1,(.agg [.i .i64,.i .i64]),0⟩,⟨4,(.agg [.i .i64,.i .i64]),0⟩] [(0,3),(1,3),(2,3),(0,4),(1,4),(2,4),(0,5),(1,5),(2,5),(0,6),(1,6),(2,6),(3,6),(4,6),(5,6),(0,7),(1,7),(2,7),(10,11),(11,12)] [35,36,37,38,39,40,41,42,43,44,45,46]) (.seq (.ops [O 48 (.fad 0 t3),oF 49 1 48,O 50 (.call (.f yaX) [t49]),O 51 (.fad 1 t2),oF 52 1 51,O 53 (.conv .u64 t52),M 54 7,oX 55 .quo 53 54,O 56 (.call (.f ydZ) [t50,t55]),M 47 56,O 57 (.ext t47 0),O 58 (.ext t47 1),M 10 57,M 11 58] [⟨1,(.agg [.i .i64,.i .i64]),0⟩,⟨4,(.agg [.i .i64,.i .i64]),0⟩] [(0,3),(1,3),(2,3),(0,4),(1,4),(2,4),(0,5),(1,5),(2,5),(0,6),(1,6),(2,6),(3,6),(4,6),(5,6),(0,7),(1,7),(2,7),(10,11),(11,12)] [47,48,49,50,51,52,53,54,55,56,57,58]) (.seq (.ops [O 59 (.fad 0 t2),oF 60 1 59,O 61 (.bin .lss t60 (I 0)),M 12 61] [⟨1,(.agg [.i .i64,.i .i64]),0⟩] [] [59,60,61]) (.seq (oQ [O 13 (.mv (.c (.int .u64 (0)))),O 14 (.mv (.c (.int .u64 (0)))),O 15 (.mv (.c (.int .u64 (0))))] [13,14,15]) (.seq (.seq (.ops [O 62 (.fad 0 t2),oF 63 1 62,O 64 (.bin .lss t63 (I 0)),O 65 (.fad 0 t3),oF 66 1 65,O 67 (.bin .lss t66 (I 0)),O 68 (.eqB false t64 t67)] [⟨1,(.agg [.i .i64,.i .i64]),0⟩,⟨4,(.agg [.i .i64,.i .i64]),0⟩] [] [62,63,64,65,66,67]) (.cond t68 (.seq (oQ [M 70 9,M 71 11,O 72 (.call (.f yhV) [t70,t71,(.c (.int .u64 (0)))]),M 69 72,O 73 (.ext t69 0),O 74 (.ext t69 1),M 14 73,M 15 74] [9,11,68,69,70,71,72,73,74]) (oQ [M 76 8,M 77 10,M 78 15,O 79 (.call (.f yhV) [t76,t77,t78]),M 75 79,O 80 (.ext t75 0),O 81 (.ext t75 1),M 13 80] [8,10,15,75,76,77,78,79,80,81])) (.seq (.seq (oQ [M 82 8,M 83 10,oX 84 .lss 82 83,M 85 84,⟨some 86,(.mv t8),some (85,false)⟩,⟨some 87,(.mv t10),some (85,false)⟩,⟨some 88,(.bin .eql t86 t87),some (85,false)⟩,⟨some 89,(.mv t88),some (85,false)⟩,⟨some 90,(.mv t9),some (89,true)⟩,⟨some 91,(.mv t11),some (89,true)⟩,⟨some 92,(.bin .lss t90 t91),some (89,true)⟩,⟨some 93,(.pick t89 t92 (.c (.bool false))),some (85,false)⟩,O 94 (.pick t85 (.c (.bool true)) t93)] [68,82,83,84,85,86,87,88,89,90,91,92,93]) (.cond t94 (.seq (oQ [M 95 10,M 96 11,M 97 8,M 98 9,M 8 95,M 9 96,M 10 97,M 11 98] [94,95,96,97,98]) (oQ [M 99 12,O 100 (.un .not t99),M 12 100] [99,100])) .skip)) (.seq (oQ [M 102 9,M 103 11,O 104 (.call (.f yhW) [t102,t103,(.c (.int .u64 (0)))]),M 101 104,O 105 (.ext t101 0),O 106 (.ext t101 1),M 14 105,M 15 106] [9,11,94,101,102,103,104,105,106]) (oQ [M 108 8,M 109 10,M 110 15,O 111 (.call (.f yhW) [t108,t109,t110]),M 107 111,O 112 (.ext t107 0),O 113 (.ext t107 1),M 13 112] [8,10,15,107,108,109,110,111,112,113]))))) (.seq (.seq (oQ [M 114 13,O 115 (.bin .eql t114 (.c (.int .u64 (0)))),M 116 115,⟨some 117,(.mv t14),some (116,true)⟩,⟨some 118,(.bin .eql t117 (.c (.int .u64 (0)))),some (116,true)⟩,O 119 (.pick t116 t118 (.c (.bool false)))] [114,115,116,117,118]) (.cond t119 (.seq (oQ [O 120 (.build [(.int .i64 (0)),(.int .i64 (0))] [(1,1,(I 1))]),⟨none,(.store 2 t4 t120),none⟩,O 5 (.mv (I 0))] [2,3,7,12,13,14,119,120]) .ret) .skip)) (.seq (oQ [M 121 13,M 122 14,M 123 7,O 124 (.call (.f ynC) [t121,t122,t123]),M 125 7,O 126 (.call (.f yct) [t124,t125]),M 16 126] [119,121,122,123,124,125,126]) (.seq (.seq (oQ [M 127 13,M 128 16,oX 129 .geq 127 128] [127,128]) (.cond t129 (.seq (oQ [O 130 (.build [(.int .i64 (0)),(.int .i64 (0))] []),⟨none,(.store 2 t4 t130),none⟩,O 5 (.mv (I 16))] [2,3,7,12,13,14,16,129,130]) .ret) .skip)) (.seq (oQ [M 132 13,M 133 14,M 134 16,O 135 (.call (.f yjj) [t132,t133,t134]),M 131 135,O 136 (.ext t131 0),O 137 (.ext t131 1),M 17 136,M 18 137] [13,14,18,129,131,132,133,134,135,136,137]) (.seq (.ops [O 139 (.fad 1 t2),oF 140 1 139,O 141 (.conv .u64 t140),M 142 7,oX 143 .quo 141 142,O 144 (.fad 1 t3),oF 145 1 144,O 146 (.conv .u64 t145),M 147 16,oX 148 .quo 146 147,O 149 (.call (.f ydZ) [t143,t148]),M 138 149,O 150 (.ext t138 0),O 151 (.ext t138 1),M 19 150,M 20 151] [⟨1,(.agg [.i .i64,.i .i64]),0⟩,⟨6,(.agg [.i .i64,.i .i64]),0⟩] [(0,3),(1,3),(2,3),(0,5),(1,5),(2,5),(3,5),(4,5),(0,6),(1,6),(2,6),(3,6),(4,6),(0,7),(1,7),(2,7),(3,7),(4,7),(0,8),(1,8),(2,8),(3,8),(4,8),(5,8),(6,8),(7,8),(0,9),(1,9),(2,9),(3,9),(4,9),(12,13),(13,14)] [2,3,7,16,138,139,140,141,142,143,144,145,146,147,148,149,150,151]) (.seq (.seq (oQ [M 152 19,O 153 (.bin .gtr t152 (.c (.int .u64 (0))))] [19,152]) (.cond t153 (.seq (oQ [O 154 (.build [(.int .i64 (0)),(.int .i64 (0))] []),⟨none,(.store 2 t4 t154),none⟩,O 5 (.mv (I 16))] [12,17,20,153,154]) .ret) .skip)) (.seq (oQ [M 155 12,M 156 17,M 157 20,O 158 (.call (.f ycN) [t155,t156,t157]),O 159 (.ext t158 0),O 160 (.ext t158 1),⟨none,(.store 2 t4 t159),none⟩,M 5 160] [12,17,20,153,155,156,157,158,159,160]) .ret)))))))))))))))⟩
def yDk:TFn:=⟨2,[.cell 4 true 2,.tmp 5],(.seq (oQ [O 2 (.boxL t0),O 3 (.boxL t1),O 4 (.allocL (.agg [(.int .i64 (0)),(.int .i64 (0))])),O 5 (.mv (I 0))] [0,1,5]) (.seq (.seq (oQ [oT 7 2 2,oT 8 2 3,O 9 (.call (.f ybr) [t7,t8]),M 6 9] [7,8,9]) (.seq (oQ [M 10 6,O 11 (.bin .neq t10 (I 0))] [10]) (.cond t11 (.seq (oQ [O 12 (.build [(.int .i64 (0)),(.int .i64 (0))] []),M 13 6,⟨none,(.store 2 t4 t12),none⟩,M 5 13] [2,3,6,11,12,13]) .ret) .skip))) (.seq (.ops [O 14 (.fad 0 t3),oF 15 1 14,O 16 (.un .neg t15),O 17 (.fad 0 t3),⟨none,(.store 1 t17 t16),none⟩] [⟨1,(.agg [.i .i64,.i .i64]),0⟩,⟨4,(.agg [.i .i64,.i .i64]),0⟩] [] [6,11,14,15,16,17]) (.seq (oQ [oT 18 2 2,oT 19 2 3,O 20 (.call (.f ycR) [t18,t19]),O 21 (.ext t20 0),O 22 (.ext t20 1),⟨none,(.store 2 t4 t21),none⟩,M 5 22] [2,3,18,19,20,21,22]) .ret))))⟩
def yDl:TFn:=⟨2,[.cell 4 true 2,.tmp 5],(.seq (oQ [O 2 (.boxL t0),O 3 (.boxL t1),O 4 (.allocL (.agg [(.int .i64 (0)),(.int .i64 (0))])),O 5 (.mv (I 0))] [0,1,5]) (.seq (.seq (oQ [oT 17 2 2,oT 18 2 3,O 19 (.call (.f ybr) [t17,t18]),M 6 19] [17,18,19]) (.seq (oQ [M 20 6,O 21 (.bin .neq t20 (I 0))] [20]) (.cond t21 (.seq (oQ [O 22 (.build [(.int .i64 (0)),(.int .i64 (0))] []),M 23 6,⟨none,(.store 2 t4 t22),none⟩,M 5 23] [2,3,6,21,22,23]) .ret) .skip))) (.seq (.ops [O 24 (.fad 0 t2),oF 25 1 24,O 26 (.call (.f yaX) [t25]),O 27 (.fad 1 t2),oF 28 1 27,O 29 (.conv .u64 t28),O 30 (.fad 0 t3),oF 31 1 30,O 32 (.call (.f yaX) [t31]),O 33 (.fad 1 t3),oF 34 1 33,O 35 (.conv .u64 t34),M 7 26,M 8 29,M 9 32,M 10 35] [⟨1,(.agg [.i .i64,.i .i64]),0⟩,⟨4,(.agg [.i .i64,.i .i64]),0⟩,⟨7,(.agg [.i .i64,.i .i64]),0⟩,⟨10,(.agg [.i .i64,.i .i64]),0⟩] [(0,3),(1,3),(2,3),(0,4),(1,4),(2,4),(0,5),(1,5),(2,5),(0,6),(1,6),(2,6),(3,6),(4,6),(5,6),(0,7),(1,7),(2,7),(3,7),(4,7),(5,7),(3,8),(4,8),(5,8),(0,9),(1,9),(2,9),(3,9),(4,9),(5,9),(6,9),(7,9),(8,9),(0,10),(1,10),(2,10),(3,10),(4,10),(5,10),(6,10),(7,10),(8,10),(0,11),(1,11),(2,11),(3,11),(4,11),(5,11),(6,11),(7,11),(8,11),(3,12),(4,12),(5,12),(9,12),(10,12),(11,12),(9,13),(10,13),(11,13),(9,14),(10,14),(11,14)] [6,21,24,25,26,27,28,29,30,31,32,33,34,35]) (.seq (oQ [M 36 7,M 37 10,O 38 (.call (.f yct) [t36,t37]),M 39 9,M 40 8,O 41 (.call (.f yct) [t39,t40]),M 11 38,M 12 41] [36,37,38,39,40,41]) (.seq (.ops [M 43 7,M 44 11,oX 45 .quo 43 44,M 46 9,M 47 12,oX 48 .quo 46 47,O 49 (.call (.f ydZ) [t45,t48]),M 42 49,O 50 (.ext t42 0),O 51 (.ext t42 1),M 13 50,M 14 51] [] [(0,1),(0,3),(1,3),(2,3),(0,4),(1,4),(2,4),(3,4),(0,5),(1,5),(2,5),(8,9),(9,10)] [7,9,42,43,44,45,46,47,48,49,50,51]) (.seq (.ops [M 53 8,M 54 12,oX 55 .quo 53 54,M 56 10,M 57 11,oX 58 .quo 56 57,O 59 (.call (.f ydZ) [t55,t58]),M 52 59,O 60 (.ext t52 0),O 61 (.ext t52 1),M 15 60,M 16 61] [] [(0,1),(0,3),(1,3),(2,3),(0,4),(1,4),(2,4),(3,4),(0,5),(1,5),(2,5),(8,9),(9,10)] [8,10,11,12,52,53,54,55,56,57,58,59,60,61]) (.seq (.seq (oQ [M 62 13,M 63 15,oX 64 .add 62 63,O 65 (.bin .gtr t64 (.c (.int .u64 (0))))] [13,15,62,63,64]) (.cond t65 (.seq (oQ [O 66 (.build [(.int .i64 (0)),(.int .i64 (0))] []),⟨none,(.store 2 t4 t66),none⟩,O 5 (.mv (I 16))] [2,3,14,16,65,66]) .ret) .skip)) (.seq (.ops [M 67 14,O 68 (.bin .gtr t67 (.c (.int .u64 (0)))),M 69 68,⟨some 70,(.fad 0 t2),some (69,true)⟩,⟨some 71,(.load false 1 t70),some (69,true)⟩,⟨some 72,(.bin .lss t71 (I 0)),some (69,true)⟩,⟨some 73,(.fad 0 t3),some (69,true)⟩,⟨some 74,(.load false 1 t73),some (69,true)⟩,⟨some 75,(.bin .lss t74 (I 0)),some (69,true)⟩,⟨some 76,(.eqB true t72 t75),some (69,true)⟩,O 77 (.pick t69 t76 (.c (.bool false))),M 78 14,M 79 16,O 80 (.call (.f ycN) [t77,t78,t79]),O 81 (.ext t80 0),O 82 (.ext t80 1),⟨none,(.store 2 t4 t81),none⟩,M 5 82] [⟨4,(.agg [.i .i64,.i .i64]),0⟩,⟨7,(.agg [.i .i64,.i .i64]),0⟩] [] [2,3,14,16,65,67,68,69,70,71,72,73,74,75,76,77,78,79,80,81,82]) .ret))))))))⟩
def ylQ:TCode:=(.seq (oQ [oX 45 .lss 44 43] []) (.seq (.cond t45 .skip (.exit 0)) (.seq (.block 1 (.seq (.ops [M 46 44,O 47 (.iad 1 t42 t44),oF 48 1 47,M 11 46,M 12 48] [⟨1,(.one (.i .i64)),0⟩,⟨2,(.one (.i .i64)),0⟩] [] [45,46,47,48]) (.seq (.ops [O 49 (.fad 1 t3),oF 50 1 49,M 51 11,O 52 (.bin .add t51 (I 1)),O 53 (.iad 1 t50 t52),oF 54 1 53,O 55 (.call (.f ybn) [t54]),O 13 (.allocL (.agg [(.int .i64 (0)),(.int .i64 (0))])),⟨none,(.store 2 t13 t55),none⟩] [⟨1,(.agg [.i .i64,.d,.d]),0⟩,⟨4,(.one (.i .i64)),0⟩,⟨5,(.one (.i .i64)),0⟩] [] [11,49,50,51,52,53,54,55]) (.seq (.seq (oQ [oT 56 2 5,oT 57 2 13,O 58 (.call (.f yca) [t56,t57])] [56,57]) (.cond t58 (oQ [oT 59 2 5,⟨none,(.store 2 t13 t59),none⟩] [58,59]) .skip)) (.seq (.seq (oQ [M 60 12,O 61 (.bin .eql t60 (I 0)),M 62 61,⟨some 63,(.load true 2 t10),some (62,false)⟩,⟨some 64,(.load true 2 t13),some (62,false)⟩,⟨some 65,(.call (.f yca) [t63,t64]),some (62,false)⟩,⟨some 66,(.un .not t65),some (62,false)⟩,O 67 (.pick t62 (.c (.bool true)) t66)] [58,60,61,62,63,64,65,66]) (.cond t67 (.seq (.seq (oQ [oT 68 2 10,oT 69 2 13,O 70 (.call (.f yca) [t68,t69])] [12,67,68,69]) (.cond t70 (oQ [oT 71 2 13,⟨none,(.store 2 t10 t71),none⟩] [13,70,71]) .skip)) (.exit 1)) .skip)) (.seq (oQ [oT 73 2 13,oT 74 2 10,O 75 (.call (.f yev) [t73,t74]),M 72 75,O 76 (.ext t72 0),O 77 (.ext t72 1),O 14 (.allocL (.agg [(.int .i64 (0)),(.int .i64 (0))])),⟨none,(.store 2 t14 t76),none⟩,M 15 77] [67,72,73,74,75,76,77]) (.seq (.seq (oQ [M 78 15,O 79 (.bin .neq t78 (I 0))] [78]) (.cond t79 (.seq (oQ [O 80 (.build [(.int .i64 (0)),(.int .i64 (0))] []),M 81 15,⟨none,(.store 2 t6 t80),none⟩,M 7 81] [3,5,9,10,12,13,14,15,42,43,44,79,80,81]) .ret) .skip)) (.seq (.ops [oT 83 2 14,M 84 12,O 85 (.call (.f ybn) [t84]),O 86 (.call (.f ydk) [t83,t85]),M 82 86,O 87 (.ext t82 0),O 88 (.ext t82 1),O 16 (.allocL (.agg [(.int .i64 (0)),(.int .i64 (0))])),⟨none,(.store 2 t16 t87),none⟩,M 15 88] [] [(0,1),(0,2),(5,6),(0,7),(1,7),(2,7),(3,7),(4,7),(5,7),(6,7),(6,8)] [12,14,79,82,83,84,85,86,87,88]) (.seq (.seq (oQ [M 89 15,O 90 (.bin .neq t89 (I 0))] [89]) (.cond t90 (.seq (oQ [O 91 (.build [(.int .i64 (0)),(.int .i64 (0))] []),M 92 15,⟨none,(.store 2 t6 t91),none⟩,M 7 92] [3,5,9,10,13,15,16,42,43,44,90,91,92]) .ret) .skip)) (.seq (.seq (oQ [oT 94 2 9,oT 95 2 16,O 96 (.call (.f ycR) [t94,t95]),M 93 96,O 97 (.ext t93 0),O 98 (.ext t93 1),⟨none,(.store 2 t9 t97),none⟩,M 15 98] [16,90,93,94,95,96,97,98]) (.seq (oQ [M 99 15,O 100 (.bin .neq t99 (I 0))] [99]) (.cond t100 (.seq (oQ [O 101 (.build [(.int .i64 (0)),(.int .i64 (0))] []),M 102 15,⟨none,(.store 2 t6 t101),none⟩,M 7 102] [3,5,9,10,13,15,42,43,44,100,101,102]) .ret) .skip))) (oQ [oT 103 2 13,⟨none,(.store 2 t10 t103),none⟩] [13,15,100,103]))))))))))) (oQ [O 104 (.bin .add t44 (I 1)),M 44 104] [13,70,104]))))
def yBb:TFn:=⟨3,[.cell 6 true 2,.tmp 7],(.seq (oQ [O 3 (.boxL t0),O 4 (.boxL t1),O 5 (.boxL t2),O 6 (.allocL (.agg [(.int .i64 (0)),(.int .i64 (0))])),O 7 (.mv (I 0))] [0,1,2,7]) (.seq (.seq (oQ [oT 17 3 3,O 18 (.call (.f yeu) [t17]),M 8 18] [17,18]) (.seq (oQ [M 19 8,O 20 (.bin .neq t19 (I 0))] [19]) (.cond t20 (.seq (oQ [O 21 (.build [(.int .i64 (0)),(.int .i64 (0))] []),M 22 8,⟨none,(.store 2 t6 t21),none⟩,M 7 22] [3,4,5,8,20,21,22]) .ret) .skip))) (.seq (.seq (oQ [oT 23 3 3,oT 24 2 4,O 25 (.call (.f ydP) [t23,t24]),O 26 (.un .not t25),M 27 26,⟨some 28,(.load true 3 t3),some (27,false)⟩,⟨some 29,(.load true 2 t5),some (27,false)⟩,⟨some 30,(.call (.f ydP) [t28,t29]),some (27,false)⟩,⟨some 31,(.un .not t30),some (27,false)⟩,O 32 (.pick t27 (.c (.bool true)) t31),M 33 32,⟨some 34,(.load true 2 t5),some (33,false)⟩,⟨some 35,(.load true 2 t4),some (33,false)⟩,⟨some 36,(.call (.f yca) [t34,t35]),some (33,false)⟩,O 37 (.pick t33 (.c (.bool true)) t36)] [8,20,23,24,25,26,27,28,29,30,31,32,33,34,35,36]) (.cond t37 (.seq (oQ [O 38 (.build [(.int .i64 (0)),(.int .i64 (0))] []),⟨none,(.store 2 t6 t38),none⟩,O 7 (.mv (I 2))] [3,4,5,37,38]) .ret) .skip)) (.seq (oQ [O 39 (.call (.f ybn) [(I 0)]),O 9 (.allocL (.agg [(.int .i64 (0)),(.int .i64 (0))])),⟨none,(.store 2 t9 t39),none⟩] [37,39]) (.seq (oQ [oT 40 2 4,O 10 (.allocL (.agg [(.int .i64 (0)),(.int .i64 (0))])),⟨none,(.store 2 t10 t40),none⟩] [4,40]) (.seq (.seq (.ops [O 41 (.fad 2 t3),oF 42 1 41,O 43 (.len t42),O 44 (.mv (I 0))] [⟨1,(.agg [.i .i64,.d,.d]),0⟩] [] [41]) (.block 0 (.loop 85339800 ylQ))) (.seq (oQ [oT 105 2 9,⟨none,(.store 2 t6 t105),none⟩,O 7 (.mv (I 0))] [3,5,9,10,42,43,44,45,105]) .ret)))))))⟩
def yDm:TFn:=⟨2,[.cell 4 true 2,.tmp 5],(.seq (oQ [O 2 (.boxL t0),O 3 (.boxL t1),O 4 (.allocL (.agg [(.int .i64 (0)),(.int .i64 (0))])),O 5 (.mv (I 0))] [0,1,5]) (.seq (.seq (oQ [oT 7 2 2,oT 8 2 3,O 9 (.call (.f ybr) [t7,t8]),M 6 9] [7,8,9]) (.seq (oQ [M 10 6,O 11 (.bin .neq t10 (I 0))] [10]) (.cond t11 (.seq (oQ [O 12 (.build [(.int .i64 (0)),(.int .i64 (0))] []),M 13 6,⟨none,(.store 2 t4 t12),none⟩,M 5 13] [2,3,6,11,12,13]) .ret) .skip))) (.seq (.block 0 (.seq (.ops [O 15 (.fad 0 t3),oF 16 1 15,O 17 (.bin .eql t16 (I 0)),M 14 17] [⟨1,(.agg [.i .i64,.i .i64]),0⟩] [] [6,11,15,16,17]) (.cond t14 (.seq (oQ [O 18 (.build [(.int .i64 (0)),(.int .i64 (0))] []),⟨none,(.store 2 t4 t18),none⟩,O 5 (.mv (I 18))] [2,3,14,18]) .ret) (.seq (.ops [O 20 (.fad 0 t3),oF 21 1 20,O 22 (.bin .lss t21 (I 0)),M 19 22] [⟨1,(.agg [.i .i64,.i .i64]),0⟩] [] [14,20,21,22]) (.cond t19 (.seq (.ops [oT 23 2 2,O 24 (.fad 1 t3),oF 25 1 24,O 26 (.un .neg t25),O 27 (.fad 0 t3),oF 28 1 27,O 29 (.un .neg t28),O 30 (.build [(.int .i64 (0)),(.int .i64 (0))] [(0,1,t26),(1,1,t29)]),O 31 (.call (.f ydk) [t23,t30]),O 32 (.ext t31 0),O 33 (.ext t31 1),⟨none,(.store 2 t4 t32),none⟩,M 5 33] [⟨2,(.agg [.i .i64,.i .i64]),0⟩,⟨5,(.agg [.i .i64,.i .i64]),0⟩] [] [2,3,19,23,24,25,26,27,28,29,30,31,32,33]) .ret) .skip))))) (.seq (.ops [oT 34 2 2,O 35 (.fad 1 t3),oF 36 1 35,O 37 (.fad 0 t3),oF 38 1 37,O 39 (.build [(.int .i64 (0)),(.int .i64 (0))] [(0,1,t36),(1,1,t38)]),O 40 (.call (.f ydk) [t34,t39]),O 41 (.ext t40 0),O 42 (.ext t40 1),⟨none,(.store 2 t4 t41),none⟩,M 5 42] [⟨2,(.agg [.i .i64,.i .i64]),0⟩,⟨4,(.agg [.i .i64,.i .i64]),0⟩] [] [2,3,19,34,35,36,37,38,39,40,41,42]) .ret))))⟩
def yrJ:TFn:=⟨7,[.tmp 11],(.seq (oQ [O 7 (.boxL t0),O 8 (.boxL t1),O 9 (.boxL t2),O 11 (.mv (.c (.bool false)))] [0,1,2,8,11]) (.seq (.seq (oQ [M 16 3,O 17 (.bin .eql t16 (I 0))] [16]) (.cond t17 (.seq (oQ [O 11 (.mv (.c (.bool false)))] [3,4,5,6,7,9,17]) .ret) .skip)) (.seq (.seq (oQ [oT 18 2 9,oT 19 2 4,O 20 (.call (.f yca) [t18,t19])] [17,18,19]) (.cond t20 (.seq (oQ [oT 22 2 4,oT 23 2 9,O 24 (.call (.f yev) [t22,t23]),M 21 24,O 25 (.ext t21 0),O 26 (.ext t21 1),O 12 (.allocL (.agg [(.int .i64 (0)),(.int .i64 (0))])),⟨none,(.store 2 t12 t25),none⟩,M 13 26] [3,6,7,9,20,21,22,23,24,25,26]) (.seq (oQ [oT 27 2 12,⟨none,(.store 2 t4 t27),none⟩,⟨none,(.store 1 t5 (I 6)),none⟩] [4,12,27]) (.seq (.seq (oQ [M 28 13,O 29 (.bin .neq t28 (I 0))] [28]) (.cond t29 (oQ [M 30 13,⟨none,(.store 1 t5 t30),none⟩] [5,29,30]) .skip)) (.seq (oQ [M 31 13,O 32 (.bin .neq t31 (I 0)),M 11 32] [5,13,29,31,32]) .ret)))) .skip)) (.seq (.ops [oT 34 2 4,M 35 3,O 36 (.call (.f ybn) [t35]),O 37 (.call (.f yhX) [t34,t36]),M 33 37,O 38 (.ext t33 0),O 39 (.ext t33 1),O 14 (.allocL (.agg [(.int .i64 (0)),(.int .i64 (0))])),⟨none,(.store 2 t14 t38),none⟩,M 15 39] [] [(0,1),(0,2),(5,6),(0,7),(1,7),(2,7),(3,7),(4,7),(5,7),(6,7),(6,8)] [3,4,9,20,33,34,35,36,37,38,39]) (.seq (.seq (oQ [M 40 15,O 41 (.bin .eql t40 (I 0))] [40]) (.cond t41 (oQ [oT 43 2 7,oT 44 2 14,O 45 (.call (.f ycR) [t43,t44]),M 42 45,O 46 (.ext t42 0),O 47 (.ext t42 1),⟨none,(.store 2 t6 t46),none⟩,M 15 47] [6,7,14,41,42,43,44,45,46,47]) .skip)) (.seq (oQ [M 48 15,⟨none,(.store 1 t5 t48),none⟩] [5,6,7,14,15,41,48]) (.seq (oQ [O 11 (.mv (.c (.bool true)))] []) .ret)))))))⟩
def ylR:TCode:=(.seq (oQ [oX 17 .lss 16 15] []) (.seq (.cond t17 .skip (.exit 0)) (.seq (.block 1 (.seq (.ops [M 18 16,O 19 (.iad 1 t14 t16),oF 20 1 19,M 7 18,M 8 20] [⟨1,(.one (.i .i64)),0⟩,⟨2,(.one (.i .i64)),0⟩] [] [17,18,19,20]) (.seq (.ops [O 21 (.fad 1 t3),oF 22 1 21,M 23 7,O 24 (.bin .add t23 (I 1)),O 25 (.iad 1 t22 t24),oF 26 1 25,O 27 (.call (.f ybn) [t26]),O 9 (.allocL (.agg [(.int .i64 (0)),(.int .i64 (0))])),⟨none,(.store 2 t9 t27),none⟩] [⟨1,(.agg [.i .i64,.d,.d]),0⟩,⟨4,(.one (.i .i64)),0⟩,⟨5,(.one (.i .i64)),0⟩] [] [7,21,22,23,24,25,26,27]) (.seq (.seq (oQ [oT 28 2 4,oT 29 2 9,O 30 (.call (.f yca) [t28,t29]),O 31 (.un .not t30)] [28,29,30]) (.cond t31 (.exit 1) .skip)) (.seq (oQ [O 32 (.call (.f ybn) [(I 0)]),O 10 (.allocL (.agg [(.int .i64 (0)),(.int .i64 (0))])),⟨none,(.store 2 t10 t32),none⟩] [31,32]) (.seq (.seq (oQ [M 33 8,O 34 (.bin .gtr t33 (I 0))] [33]) (.cond t34 (.seq (oQ [oT 36 2 9,oT 37 2 4,O 38 (.call (.f yev) [t36,t37]),M 35 38,O 39 (.ext t35 0),O 40 (.ext t35 1),O 11 (.allocL (.agg [(.int .i64 (0)),(.int .i64 (0))])),⟨none,(.store 2 t11 t39),none⟩,M 12 40] [34,35,36,37,38,39,40]) (.seq (.seq (oQ [M 41 12,O 42 (.bin .neq t41 (I 0))] [41]) (.cond t42 (.seq (oQ [M 43 12,M 6 43] [2,3,4,8,9,10,11,12,14,15,16,42,43]) .ret) .skip)) (.seq (.ops [oT 45 2 11,M 46 8,O 47 (.call (.f ybn) [t46]),O 48 (.call (.f ydk) [t45,t47]),M 44 48,O 49 (.ext t44 0),O 50 (.ext t44 1),⟨none,(.store 2 t10 t49),none⟩,M 12 50] [] [(0,1),(0,2),(5,6),(6,7)] [11,42,44,45,46,47,48,49,50]) (.seq (oQ [M 51 12,O 52 (.bin .neq t51 (I 0))] [51]) (.cond t52 (.seq (oQ [M 53 12,M 6 53] [2,3,4,8,9,10,12,14,15,16,52,53]) .ret) .skip))))) .skip)) (.seq (.seq (oQ [M 54 2,oT 55 2 4,oT 56 2 9,oT 57 2 10,M 58 8,O 59 (.call t54 [t55,t56,t57,t58])] [8,10,12,34,52,54,55,56,57,58]) (.cond t59 (.seq (oQ [O 6 (.mv (I 0))] [2,3,4,9,14,15,16,59]) .ret) .skip)) (oQ [oT 60 2 9,⟨none,(.store 2 t4 t60),none⟩] [9,59,60])))))))) (oQ [O 61 (.bin .add t16 (I 1)),M 16 61] [8,9,31,61]))))
def yDn:TFn:=⟨3,[.tmp 6],(.seq (oQ [O 3 (.boxL t0),O 4 (.boxL t1),O 6 (.mv (I 0))] [0,1,6]) (.seq (.seq (.ops [O 13 (.fad 2 t3),oF 14 1 13,O 15 (.len t14),O 16 (.mv (I 0))] [⟨1,(.agg [.i .i64,.d,.d]),0⟩] [] [13]) (.block 0 (.loop 41613500 ylR))) (.seq (oQ [O 6 (.mv (I 0))] [2,3,4,14,15,16,17]) .ret)))⟩
def yDo:TFn:=⟨3,[.cell 6 true 2,.tmp 7],(.seq (oQ [O 3 (.boxL t0),O 4 (.boxL t1),O 5 (.boxH true 2 t2),O 6 (.allocL (.agg [(.int .i64 (0)),(.int .i64 (0))])),O 7 (.mv (I 0))] [0,1,2,7]) (.seq (.seq (oQ [oT 12 3 3,O 13 (.call (.f yeu) [t12]),M 8 13] [12,13]) (.seq (oQ [M 14 8,O 15 (.bin .neq t14 (I 0))] [14]) (.cond t15 (.seq (oQ [O 16 (.build [(.int .i64 (0)),(.int .i64 (0))] []),M 17 8,⟨none,(.store 2 t6 t16),none⟩,M 7 17] [3,4,5,8,15,16,17]) .ret) .skip))) (.seq (.seq (.ops [oT 18 3 3,oT 19 2 4,O 20 (.call (.f ydP) [t18,t19]),O 21 (.un .not t20),M 22 21,⟨some 23,(.load true 2 t5),some (22,false)⟩,⟨some 24,(.call (.f yaZ) [t23]),some (22,false)⟩,⟨some 25,(.bin .neq t24 (I 0)),some (22,false)⟩,O 26 (.pick t22 (.c (.bool true)) t25),M 27 26,⟨some 28,(.fad 0 t5),some (27,false)⟩,⟨some 29,(.load false 1 t28),some (27,false)⟩,⟨some 30,(.bin .lss t29 (I 0)),some (27,false)⟩,O 31 (.pick t27 (.c (.bool true)) t30)] [⟨5,(.agg [.i .i64,.i .i64]),0⟩,⟨11,(.agg [.i .i64,.i .i64]),0⟩] [] [8,15,18,19,20,21,22,23,24,25,26,27,28,29,30]) (.cond t31 (.seq (oQ [O 32 (.build [(.int .i64 (0)),(.int .i64 (0))] []),⟨none,(.store 2 t6 t32),none⟩,O 7 (.mv (I 2))] [3,4,5,31,32]) .ret) .skip)) (.seq (.seq (.ops [O 33 (.fad 0 t5),oF 34 1 33,O 35 (.bin .eql t34 (I 0))] [⟨1,(.agg [.i .i64,.i .i64]),0⟩] [] [31,33,34]) (.cond t35 (.seq (oQ [oT 36 2 4,⟨none,(.store 2 t6 t36),none⟩,O 7 (.mv (I 0))] [3,4,5,35,36]) .ret) .skip)) (.seq (oQ [O 9 (.allocH true 2 (.agg [(.int .i64 (0)),(.int .i64 (0))]))] [35]) (.seq (.ops [O 10 (.allocH true 1 (.int .i64 (0))),⟨none,(.store 1 t10 (I 6)),none⟩] [⟨1,(.one (.i .i64)),0⟩] [] []) (.seq (oQ [oT 37 3 3,oT 38 2 4,O 39 (.mkFn (.func yeJ) [] [t5,t10,t9]),O 40 (.call (.f ypO) [t37,t38,t39]),M 11 40] [3,4,5,37,38,39,40]) (.seq (.seq (oQ [M 41 11,O 42 (.bin .neq t41 (I 0))] [41]) (.cond t42 (.ops [M 43 11,⟨none,(.store 1 t10 t43),none⟩] [⟨1,(.one (.i .i64)),0⟩] [] [11,42,43]) .skip)) (.seq (.seq (.ops [oF 44 1 10,O 45 (.bin .neq t44 (I 0))] [⟨0,(.one (.i .i64)),0⟩] [] [11,42,44]) (.cond t45 (.seq (.ops [O 46 (.build [(.int .i64 (0)),(.int .i64 (0))] []),oF 47 1 10,⟨none,(.store 2 t6 t46),none⟩,M 7 47] [⟨1,(.one (.i .i64)),0⟩] [(0,1),(1,2)] [9,10,45,46,47]) .ret) .skip)) (.seq (.ops [oT 48 2 9,⟨none,(.store 2 t6 t48),none⟩,O 7 (.mv (I 0))] [⟨0,(.agg [.i .i64,.i .i64]),0⟩] [] [9,10,45,48]) .ret))))))))))⟩
def yDp:TFn:=⟨2,[.tmp 4],(.seq (oQ [O 2 (.boxL t0),O 4 (.mv (.c (.bool false)))] [0,4]) (.seq (.ops [M 5 1,O 6 (.bin .geq t5 (I 0)),M 7 6,⟨some 8,(.mv t1),some (7,true)⟩,⟨some 9,(.fad 0 t2),some (7,true)⟩,⟨some 10,(.load false 1 t9),some (7,true)⟩,⟨some 11,(.len t10),some (7,true)⟩,⟨some 12,(.bin .lss t8 t11),some (7,true)⟩,O 13 (.pick t7 t12 (.c (.bool false))),M 4 13] [⟨5,(.agg [.d,.d]),0⟩] [] [1,2,5,6,7,8,9,10,11,12,13]) .ret))⟩
def yHR:TFn:=⟨1,[.tmp 2],(.seq (oQ [O 2 (.mv (.c (.int .u64 (0))))] [2]) (.seq (.seq (oQ [M 3 0,O 4 (.bin .lss t3 (I 0))] [3]) (.cond t4 (.seq (oQ [M 5 0,O 6 (.bin .add t5 (I 1)),O 7 (.un .neg t6),O 8 (.conv .u64 t7),O 9 (.bin .add t8 (.c (.int .u64 (1)))),M 2 9] [0,4,5,6,7,8,9]) .ret) .skip)) (.seq (oQ [M 10 0,O 11 (.conv .u64 t10),M 2 11] [0,4,10,11]) .ret)))⟩
def ylS:TCode:=(.seq (.seq (oQ [M 5 1,O 6 (.bin .neq t5 (.c (.int .u64 (0))))] [5]) (.cond t6 .skip (.exit 0))) (.block 1 (.ops [M 7 1,M 8 0,M 9 1,oX 10 .rem 8 9,M 0 7,M 1 10] [] [(0,1),(0,2),(1,2),(0,3),(2,4),(3,4)] [6,7,8,9,10])))
def yHS:TFn:=⟨2,[.tmp 4],(.seq (oQ [O 4 (.mv (.c (.int .u64 (0))))] [4]) (.seq (.block 0 (.loop 16774900 ylS)) (.seq (oQ [M 11 0,M 4 11] [0,1,6,11]) .ret)))⟩
def yDq:TFn:=⟨1,[.tmp 2],(.seq (oQ [O 1 (.boxL t0),O 2 (.mv (I 0))] [0,2]) (.seq (.seq (.ops [O 3 (.fad 1 t1),oF 4 1 3,O 5 (.bin .lss t4 (I 1)),M 6 5,⟨some 7,(.fad 1 t1),some (6,false)⟩,⟨some 8,(.load false 1 t7),some (6,false)⟩,⟨some 9,(.bin .gtr t8 (I 1000000000000000000)),some (6,false)⟩,O 10 (.pick t6 (.c (.bool true)) t9),M 11 10,⟨some 12,(.fad 0 t1),some (11,false)⟩,⟨some 13,(.load false 1 t12),some (11,false)⟩,⟨some 14,(.bin .lss t13 (I (-1000000000000000000))),some (11,false)⟩,O 15 (.pick t11 (.c (.bool true)) t14),M 16 15,⟨some 17,(.fad 0 t1),some (16,false)⟩,⟨some 18,(.load false 1 t17),some (16,false)⟩,⟨some 19,(.bin .gtr t18 (I 1000000000000000000)),some (16,false)⟩,O 20 (.pick t16 (.c (.bool true)) t19),M 21 20,⟨some 22,(.fad 0 t1),some (21,false)⟩,⟨some 23,(.load false 1 t22),some (21,false)⟩,⟨some 24,(.call (.f ycP) [t23]),some (21,false)⟩,⟨some 25,(.fad 1 t1),some (21,false)⟩,⟨some 26,(.load false 1 t25),some (21,false)⟩,⟨some 27,(.conv .u64 t26),some (21,false)⟩,⟨some 28,(.call (.f yeU) [t24,t27]),some (21,false)⟩,⟨some 29,(.bin .neq t28 (.c (.int .u64 (1)))),some (21,false)⟩,O 30 (.pick t21 (.c (.bool true)) t29)] [⟨1,(.agg [.i .i64,.i .i64]),0⟩,⟨5,(.agg [.i .i64,.i .i64]),0⟩,⟨10,(.agg [.i .i64,.i .i64]),0⟩,⟨15,(.agg [.i .i64,.i .i64]),0⟩,⟨20,(.agg [.i .i64,.i .i64]),0⟩,⟨23,(.agg [.i .i64,.i .i64]),0⟩] [(19,22),(20,22),(21,22),(19,23),(20,23),(21,23),(19,24),(20,24),(21,24)] [1,3,4,5,6,7,8,9,10,11,12,13,14,15,16,17,18,19,20,21,22,23,24,25,26,27,28,29]) (.cond t30 (.seq (oQ [O 2 (.mv (I 8))] [30]) .ret) .skip)) (.seq (oQ [O 2 (.mv (I 0))] [30]) .ret)))⟩
def yJg:TFn:=⟨1,[.cell 2 true 2],(.seq (oQ [O 2 (.allocL (.agg [(.int .i64 (0)),(.int .i64 (0))]))] []) (.seq (oQ [M 3 0,O 4 (.build [(.int .i64 (0)),(.int .i64 (0))] [(0,1,t3),(1,1,(I 1))]),⟨none,(.store 2 t2 t4),none⟩] [0,3,4]) .ret))⟩
def yDr:TFn:=⟨2,[.cell 4 true 2],(.seq (oQ [O 4 (.allocL (.agg [(.int .u64 (0)),(.int .u64 (0))]))] []) (.seq (oQ [M 12 0,O 13 (.bin .shr t12 (.c (.int .u64 (32)))),M 14 0,O 15 (.bin .and t14 (.c (.int .u64 (4294967295)))),M 5 13,M 6 15] [0,12,13,14,15]) (.seq (oQ [M 16 1,O 17 (.bin .shr t16 (.c (.int .u64 (32)))),M 18 1,O 19 (.bin .and t18 (.c (.int .u64 (4294967295)))),M 7 17,M 8 19] [1,16,17,18,19]) (.seq (oQ [M 20 6,M 21 8,oX 22 .mul 20 21,M 23 5,M 24 8,oX 25 .mul 23 24,M 9 22,M 10 25] [8,20,21,22,23,24,25]) (.seq (oQ [M 26 10,O 27 (.bin .and t26 (.c (.int .u64 (4294967295)))),M 28 6,M 29 7,oX 30 .mul 28 29,oX 31 .add 27 30,M 32 9,O 33 (.bin .shr t32 (.c (.int .u64 (32)))),oX 34 .add 31 33,M 11 34] [6,26,27,28,29,30,31,32,33,34]) (.seq (oQ [M 35 5,M 36 7,oX 37 .mul 35 36,M 38 10,O 39 (.bin .shr t38 (.c (.int .u64 (32)))),oX 40 .add 37 39,M 41 11,O 42 (.bin .shr t41 (.c (.int .u64 (32)))),oX 43 .add 40 42,M 44 11,O 45 (.bin .shl t44 (.c (.int .u64 (32)))),M 46 9,O 47 (.bin .and t46 (.c (.int .u64 (4294967295)))),oX 48 .or 45 47,O 49 (.build [(.int .u64 (0)),(.int .u64 (0))] [(0,1,t43),(1,1,t48)]),⟨none,(.store 2 t4 t49),none⟩] [5,7,9,10,11,35,36,37,38,39,40,41,42,43,44,45,46,47,48,49]) .ret))))))⟩
def yFq:TFn:=⟨2,[.tmp 4],(.seq (oQ [O 2 (.boxL t0),O 3 (.boxL t1),O 4 (.mv (.c (.bool false)))] [0,1,4]) (.seq (.ops [O 5 (.fad 0 t2),oF 6 1 5,O 7 (.fad 0 t3),oF 8 1 7,oX 9 .lss 6 8,M 10 9,⟨some 11,(.fad 0 t2),some (10,false)⟩,⟨some 12,(.load false 1 t11),some (10,false)⟩,⟨some 13,(.fad 0 t3),some (10,false)⟩,⟨some 14,(.load false 1 t13),some (10,false)⟩,⟨some 15,(.bin .eql t12 t14),some (10,false)⟩,⟨some 16,(.mv t15),some (10,false)⟩,⟨some 17,(.fad 1 t2),some (16,true)⟩,⟨some 18,(.load false 1 t17),some (16,true)⟩,⟨some 19,(.fad 1 t3),some (16,true)⟩,⟨some 20,(.load false 1 t19),some (16,true)⟩,⟨some 21,(.bin .lss t18 t20),some (16,true)⟩,⟨some 22,(.pick t16 t21 (.c (.bool false))),some (10,false)⟩,O 23 (.pick t10 (.c (.bool true)) t22),M 4 23] [⟨1,(.agg [.i .u64,.i .u64]),0⟩,⟨3,(.agg [.i .u64,.i .u64]),0⟩,⟨7,(.agg [.i .u64,.i .u64]),0⟩,⟨9,(.agg [.i .u64,.i .u64]),0⟩,⟨13,(.agg [.i .u64,.i .u64]),0⟩,⟨15,(.agg [.i .u64,.i .u64]),0⟩] [] [2,3,5,6,7,8,9,10,11,12,13,14,15,16,17,18,19,20,21,22,23]) .ret))⟩
end Go.Pf.Vc
namespace Go.Pf.Vc
open Go Go.Pf
def yFr:TFn:=⟨2,[.tmp 4],(.seq (oQ [O 2 (.boxL t0),O 3 (.boxL t1),O 4 (.mv (.c (.bool false)))] [0,1,4]) (.seq (.seq (.ops [O 7 (.fad 0 t2),oF 8 1 7,O 9 (.bin .lss t8 (I 0)),O 10 (.fad 0 t3),oF 11 1 10,O 12 (.bin .lss t11 (I 0)),O 13 (.eqB true t9 t12)] [⟨1,(.agg [.i .i64,.i .i64]),0⟩,⟨4,(.agg [.i .i64,.i .i64]),0⟩] [] [7,8,9,10,11,12]) (.cond t13 (.seq (.ops [O 14 (.fad 0 t2),oF 15 1 14,O 16 (.bin .lss t15 (I 0)),M 4 16] [⟨1,(.agg [.i .i64,.i .i64]),0⟩] [] [2,3,13,14,15,16]) .ret) .skip)) (.seq (.ops [O 17 (.fad 0 t2),oF 18 1 17,O 19 (.call (.f ycP) [t18]),O 20 (.fad 1 t3),oF 21 1 20,O 22 (.conv .u64 t21),O 23 (.call (.f ycv) [t19,t22]),O 24 (.fad 0 t3),oF 25 1 24,O 26 (.call (.f ycP) [t25]),O 27 (.fad 1 t2),oF 28 1 27,O 29 (.conv .u64 t28),O 30 (.call (.f ycv) [t26,t29]),O 5 (.allocL (.agg [(.int .u64 (0)),(.int .u64 (0))])),O 6 (.allocL (.agg [(.int .u64 (0)),(.int .u64 (0))])),⟨none,(.store 2 t5 t23),none⟩,⟨none,(.store 2 t6 t30),none⟩] [⟨1,(.agg [.i .i64,.i .i64]),0⟩,⟨4,(.agg [.i .i64,.i .i64]),0⟩,⟨8,(.agg [.i .i64,.i .i64]),0⟩,⟨11,(.agg [.i .i64,.i .i64]),0⟩] [(0,3),(1,3),(2,3),(0,4),(1,4),(2,4),(0,5),(1,5),(2,5),(0,7),(1,7),(2,7),(3,7),(4,7),(5,7),(6,7),(0,8),(1,8),(2,8),(3,8),(4,8),(5,8),(6,8),(0,10),(1,10),(2,10),(3,10),(4,10),(5,10),(6,10),(7,10),(8,10),(9,10),(0,11),(1,11),(2,11),(3,11),(4,11),(5,11),(6,11),(7,11),(8,11),(9,11),(0,12),(1,12),(2,12),(3,12),(4,12),(5,12),(6,12),(7,12),(8,12),(9,12),(0,14),(1,14),(2,14),(3,14),(4,14),(5,14),(6,14),(7,14),(8,14),(9,14),(10,14),(11,14),(12,14),(13,14),(0,15),(1,15),(2,15),(3,15),(4,15),(5,15),(6,15),(7,15),(8,15),(9,15),(10,15),(11,15),(12,15),(13,15),(14,15)] [3,13,17,18,19,20,21,22,23,24,25,26,27,28,29,30]) (.seq (.seq (.ops [O 31 (.fad 0 t2),oF 32 1 31,O 33 (.bin .lss t32 (I 0))] [⟨1,(.agg [.i .i64,.i .i64]),0⟩] [] [2,31,32]) (.cond t33 (.seq (oQ [oT 34 2 6,oT 35 2 5,O 36 (.call (.f ygl) [t34,t35]),M 4 36] [5,6,33,34,35,36]) .ret) .skip)) (.seq (oQ [oT 37 2 5,oT 38 2 6,O 39 (.call (.f ygl) [t37,t38]),M 4 39] [5,6,33,37,38,39]) .ret)))))⟩
def yDs:TFn:=⟨2,[.tmp 4],(.seq (oQ [O 3 (.boxL t1),O 4 (.mv (.c (.bool false)))] [1,4]) (.seq (.ops [oT 5 2 3,O 6 (.call (.f ydl) [t5]),O 7 (.bin .eql t6 (I 0)),M 8 7,⟨some 9,(.fad 0 t3),some (8,true)⟩,⟨some 10,(.load false 1 t9),some (8,true)⟩,⟨some 11,(.bin .geq t10 (I 0)),some (8,true)⟩,O 12 (.pick t8 t11 (.c (.bool false))),M 13 12,⟨some 14,(.mv t0),some (13,true)⟩,⟨some 15,(.call (.f yfC) [t14]),some (13,true)⟩,⟨some 16,(.load true 2 t3),some (13,true)⟩,⟨some 17,(.call (.f ybZ) [t15,t16]),some (13,true)⟩,⟨some 18,(.un .not t17),some (13,true)⟩,O 19 (.pick t13 t18 (.c (.bool false))),M 4 19] [⟨5,(.agg [.i .i64,.i .i64]),0⟩] [(9,11),(10,11)] [0,3,5,6,7,8,9,10,11,12,13,14,15,16,17,18,19]) .ret))⟩
def yDt:TFn:=⟨2,[.cell 4 true 2],(.seq (oQ [O 2 (.boxL t0),O 3 (.boxL t1),O 4 (.allocL (.agg [(.int .i64 (0)),(.int .i64 (0))]))] [0,1]) (.seq (.seq (oQ [oT 5 2 2,oT 6 2 3,O 7 (.call (.f ybZ) [t5,t6])] [5,6]) (.cond t7 (.seq (oQ [oT 8 2 3,⟨none,(.store 2 t4 t8),none⟩] [2,3,7,8]) .ret) .skip)) (.seq (oQ [oT 9 2 2,⟨none,(.store 2 t4 t9),none⟩] [2,3,7,9]) .ret)))⟩
def yBc:TFn:=⟨2,[.cell 4 true 2],(.seq (oQ [O 2 (.boxL t0),O 3 (.boxL t1),O 4 (.allocL (.agg [(.int .i64 (0)),(.int .i64 (0))]))] [0,1]) (.seq (.seq (oQ [oT 5 2 2,oT 6 2 3,O 7 (.call (.f ybZ) [t5,t6])] [5,6]) (.cond t7 (.seq (oQ [oT 8 2 2,⟨none,(.store 2 t4 t8),none⟩] [2,3,7,8]) .ret) .skip)) (.seq (oQ [oT 9 2 3,⟨none,(.store 2 t4 t9),none⟩] [2,3,7,9]) .ret)))⟩
def yFs:TFn:=⟨2,[.tmp 4],(.seq (oQ [O 2 (.boxL t0),O 3 (.boxL t1),O 4 (.mv (I 0))] [0,1,4]) (.seq (.seq (oQ [oT 5 2 2,O 6 (.call (.f ydl) [t5]),O 7 (.bin .neq t6 (I 0))] [5,6]) (.cond t7 (.seq (oQ [oT 8 2 2,O 9 (.call (.f ydl) [t8]),M 4 9] [2,3,7,8,9]) .ret) .skip)) (.seq (oQ [oT 10 2 3,O 11 (.call (.f ydl) [t10]),M 4 11] [2,3,7,10,11]) .ret)))⟩
def yHT:TFn:=⟨1,[.cell 2 true 2],(.seq (oQ [O 1 (.boxL t0),O 2 (.allocL (.agg [(.int .i64 (0)),(.int .i64 (0))]))] [0]) (.seq (.ops [O 3 (.fad 0 t1),oF 4 1 3,O 5 (.un .neg t4),O 6 (.fad 0 t1),⟨none,(.store 1 t6 t5),none⟩] [⟨1,(.agg [.i .i64,.i .i64]),0⟩,⟨4,(.agg [.i .i64,.i .i64]),0⟩] [] [3,4,5,6]) (.seq (oQ [oT 7 2 1,⟨none,(.store 2 t2 t7),none⟩] [1,7]) .ret)))⟩
def yFt:TFn:=⟨2,[.cell 4 true 2],(.seq (oQ [O 2 (.boxL t0),O 3 (.boxL t1),O 4 (.allocL (.agg [(.int .u64 (0)),(.int .u64 (0))]))] [0,1]) (.seq (.ops [O 7 (.fad 1 t2),oF 8 1 7,O 9 (.fad 1 t3),oF 10 1 9,oX 11 .add 8 10,M 5 11] [⟨1,(.agg [.i .u64,.i .u64]),0⟩,⟨3,(.agg [.i .u64,.i .u64]),0⟩] [] [7,8,9,10,11]) (.seq (.ops [O 12 (.fad 0 t2),oF 13 1 12,O 14 (.fad 0 t3),oF 15 1 14,oX 16 .add 13 15,M 6 16] [⟨1,(.agg [.i .u64,.i .u64]),0⟩,⟨3,(.agg [.i .u64,.i .u64]),0⟩] [] [3,12,13,14,15,16]) (.seq (.seq (.ops [M 17 5,O 18 (.fad 1 t2),oF 19 1 18,oX 20 .lss 17 19] [⟨2,(.agg [.i .u64,.i .u64]),0⟩] [] [2,17,18,19]) (.cond t20 (oQ [M 21 6,O 22 (.bin .add t21 (.c (.int .u64 (1)))),M 6 22] [20,21,22]) .skip)) (.seq (oQ [M 23 6,M 24 5,O 25 (.build [(.int .u64 (0)),(.int .u64 (0))] [(0,1,t23),(1,1,t24)]),⟨none,(.store 2 t4 t25),none⟩] [5,6,20,23,24,25]) .ret)))))⟩
def yDu:TFn:=⟨2,[.cell 4 true 2],(.seq (oQ [O 2 (.boxL t0),O 3 (.boxL t1),O 4 (.allocL (.agg [(.int .u64 (0)),(.int .u64 (0))]))] [0,1]) (.seq (.ops [O 6 (.fad 0 t2),oF 7 1 6,O 8 (.fad 0 t3),oF 9 1 8,oX 10 .sub 7 9,M 5 10] [⟨1,(.agg [.i .u64,.i .u64]),0⟩,⟨3,(.agg [.i .u64,.i .u64]),0⟩] [] [6,7,8,9,10]) (.seq (.seq (.ops [O 11 (.fad 1 t2),oF 12 1 11,O 13 (.fad 1 t3),oF 14 1 13,oX 15 .lss 12 14] [⟨1,(.agg [.i .u64,.i .u64]),0⟩,⟨3,(.agg [.i .u64,.i .u64]),0⟩] [] [11,12,13,14]) (.cond t15 (oQ [M 16 5,O 17 (.bin .sub t16 (.c (.int .u64 (1)))),M 5 17] [15,16,17]) .skip)) (.seq (.ops [M 18 5,O 19 (.fad 1 t2),oF 20 1 19,O 21 (.fad 1 t3),oF 22 1 21,oX 23 .sub 20 22,O 24 (.build [(.int .u64 (0)),(.int .u64 (0))] [(0,1,t18),(1,1,t23)]),⟨none,(.store 2 t4 t24),none⟩] [⟨2,(.agg [.i .u64,.i .u64]),0⟩,⟨4,(.agg [.i .u64,.i .u64]),0⟩] [] [2,3,5,15,18,19,20,21,22,23,24]) .ret))))⟩
def ylT:TCode:=(.seq (.seq (oQ [M 10 8,O 11 (.bin .geq t10 (I 0))] [10]) (.cond t11 .skip (.exit 0))) (.seq (.block 1 (.seq (.ops [O 14 (.fad 1 t2),oF 15 1 14,M 16 8,O 17 (.bin .and t16 (I 63)),oX 18 .shr 15 17,O 19 (.bin .and t18 (.c (.int .u64 (1)))),M 9 19] [⟨1,(.agg [.i .u64,.i .u64]),0⟩] [] [11,14,15,16,17,18,19]) (.seq (.seq (oQ [M 20 8,O 21 (.bin .geq t20 (I 64))] [20]) (.cond t21 (.ops [O 22 (.fad 0 t2),oF 23 1 22,M 24 8,O 25 (.bin .and t24 (I 63)),oX 26 .shr 23 25,O 27 (.bin .and t26 (.c (.int .u64 (1)))),M 9 27] [⟨1,(.agg [.i .u64,.i .u64]),0⟩] [] [21,22,23,24,25,26,27]) .skip)) (.seq (oQ [M 28 7,O 29 (.bin .shl t28 (.c (.int .u64 (1)))),M 30 9,oX 31 .or 29 30,M 7 31] [9,21,28,29,30,31]) (.seq (oQ [oT 32 2 6,oT 33 2 6,O 34 (.call (.f yhI) [t32,t33]),⟨none,(.store 2 t6 t34),none⟩] [32,33,34]) (.seq (oQ [M 35 7,M 36 1,oX 37 .geq 35 36] [35,36]) (.cond t37 (.seq (oQ [M 38 7,M 39 1,oX 40 .sub 38 39,M 7 40] [37,38,39,40]) (.ops [O 41 (.fad 1 t6),oF 42 1 41,O 43 (.bin .or t42 (.c (.int .u64 (1)))),O 44 (.fad 1 t6),⟨none,(.store 1 t44 t43),none⟩] [⟨1,(.agg [.i .u64,.i .u64]),0⟩,⟨4,(.agg [.i .u64,.i .u64]),0⟩] [] [41,42,43,44])) .skip))))))) (oQ [M 12 8,O 13 (.bin .sub t12 (I 1)),M 8 13] [12,13,37])))
def yDv:TFn:=⟨2,[.cell 4 true 2,.tmp 5],(.seq (oQ [O 2 (.boxL t0),O 4 (.allocL (.agg [(.int .u64 (0)),(.int .u64 (0))])),O 5 (.mv (.c (.int .u64 (0))))] [0,5]) (.seq (oQ [O 6 (.allocL (.agg [(.int .u64 (0)),(.int .u64 (0))]))] []) (.seq (oQ [O 7 (.mv (.c (.int .u64 (0))))] []) (.seq (.seq (oQ [O 8 (.mv (I 127))] []) (.block 0 (.loop 22549700 ylT))) (.seq (oQ [oT 45 2 6,M 46 7,⟨none,(.store 2 t4 t45),none⟩,M 5 46] [1,2,6,7,8,11,45,46]) .ret)))))⟩
def yFu:TFn:=⟨3,[.cell 6 true 2,.tmp 7],(.seq (oQ [O 4 (.boxL t1),O 5 (.boxL t2),O 6 (.allocL (.agg [(.int .i64 (0)),(.int .i64 (0))])),O 7 (.mv (I 0))] [1,2,7]) (.seq (.seq (.ops [O 9 (.fad 0 t4),oF 10 1 9,O 11 (.bin .gtr t10 (.c (.int .u64 (0)))),M 12 11,⟨some 13,(.fad 0 t5),some (12,false)⟩,⟨some 14,(.load false 1 t13),some (12,false)⟩,⟨some 15,(.bin .gtr t14 (.c (.int .u64 (0)))),some (12,false)⟩,O 16 (.pick t12 (.c (.bool true)) t15),M 17 16,⟨some 18,(.fad 1 t4),some (17,false)⟩,⟨some 19,(.load false 1 t18),some (17,false)⟩,⟨some 20,(.bin .gtr t19 (.c (.int .u64 (1000000000000000000)))),some (17,false)⟩,O 21 (.pick t17 (.c (.bool true)) t20),M 22 21,⟨some 23,(.fad 1 t5),some (22,false)⟩,⟨some 24,(.load false 1 t23),some (22,false)⟩,⟨some 25,(.bin .gtr t24 (.c (.int .u64 (1000000000000000000)))),some (22,false)⟩,O 26 (.pick t22 (.c (.bool true)) t25)] [⟨1,(.agg [.i .u64,.i .u64]),0⟩,⟨5,(.agg [.i .u64,.i .u64]),0⟩,⟨10,(.agg [.i .u64,.i .u64]),0⟩,⟨15,(.agg [.i .u64,.i .u64]),0⟩] [] [9,10,11,12,13,14,15,16,17,18,19,20,21,22,23,24,25]) (.cond t26 (.seq (oQ [O 27 (.build [(.int .i64 (0)),(.int .i64 (0))] []),⟨none,(.store 2 t6 t27),none⟩,O 7 (.mv (I 16))] [0,4,5,26,27]) .ret) .skip)) (.seq (.ops [O 28 (.fad 1 t4),oF 29 1 28,O 30 (.conv .i64 t29),O 31 (.fad 1 t5),oF 32 1 31,O 33 (.conv .i64 t32),O 34 (.build [(.int .i64 (0)),(.int .i64 (0))] [(0,1,t30),(1,1,t33)]),O 8 (.allocL (.agg [(.int .i64 (0)),(.int .i64 (0))])),⟨none,(.store 2 t8 t34),none⟩] [⟨1,(.agg [.i .u64,.i .u64]),0⟩,⟨4,(.agg [.i .u64,.i .u64]),0⟩] [] [4,5,26,28,29,30,31,32,33,34]) (.seq (.seq (oQ [M 35 0] [0]) (.cond t35 (.ops [O 36 (.fad 0 t8),oF 37 1 36,O 38 (.un .neg t37),O 39 (.fad 0 t8),⟨none,(.store 1 t39 t38),none⟩] [⟨1,(.agg [.i .i64,.i .i64]),0⟩,⟨4,(.agg [.i .i64,.i .i64]),0⟩] [] [35,36,37,38,39]) .skip)) (.seq (oQ [oT 40 2 8,⟨none,(.store 2 t6 t40),none⟩,O 7 (.mv (I 0))] [8,35,40]) .ret)))))⟩
def yHU:TFn:=⟨2,[.cell 4 true 2,.tmp 5],(.seq (oQ [O 2 (.boxL t0),O 3 (.boxL t1),O 4 (.allocL (.agg [(.int .i64 (0)),(.int .i64 (0))])),O 5 (.mv (I 0))] [0,1,5]) (.seq (.seq (oQ [oT 16 2 2,oT 17 2 3,O 18 (.call (.f ycs) [t16,t17]),O 19 (.bin .neq t18 (I 0))] [16,17,18]) (.cond t19 (.seq (oQ [O 20 (.build [(.int .i64 (0)),(.int .i64 (0))] []),oT 21 2 2,oT 22 2 3,O 23 (.call (.f ycs) [t21,t22]),⟨none,(.store 2 t4 t20),none⟩,M 5 23] [2,3,19,20,21,22,23]) .ret) .skip)) (.seq (.ops [O 24 (.fad 1 t2),oF 25 1 24,O 26 (.conv .u64 t25),O 27 (.fad 1 t3),oF 28 1 27,O 29 (.conv .u64 t28),O 30 (.call (.f yeU) [t26,t29]),M 6 30] [⟨1,(.agg [.i .i64,.i .i64]),0⟩,⟨4,(.agg [.i .i64,.i .i64]),0⟩] [] [19,24,25,26,27,28,29,30]) (.seq (.ops [O 31 (.fad 0 t2),oF 32 1 31,O 33 (.call (.f ycP) [t32]),O 34 (.fad 1 t3),oF 35 1 34,O 36 (.conv .u64 t35),M 37 6,oX 38 .quo 36 37,O 39 (.call (.f ycv) [t33,t38]),O 40 (.fad 0 t3),oF 41 1 40,O 42 (.call (.f ycP) [t41]),O 43 (.fad 1 t2),oF 44 1 43,O 45 (.conv .u64 t44),M 46 6,oX 47 .quo 45 46,O 48 (.call (.f ycv) [t42,t47]),O 7 (.allocL (.agg [(.int .u64 (0)),(.int .u64 (0))])),O 8 (.allocL (.agg [(.int .u64 (0)),(.int .u64 (0))])),⟨none,(.store 2 t7 t39),none⟩,⟨none,(.store 2 t8 t48),none⟩] [⟨1,(.agg [.i .i64,.i .i64]),0⟩,⟨4,(.agg [.i .i64,.i .i64]),0⟩,⟨10,(.agg [.i .i64,.i .i64]),0⟩,⟨13,(.agg [.i .i64,.i .i64]),0⟩] [(0,3),(1,3),(2,3),(0,4),(1,4),(2,4),(0,5),(1,5),(2,5),(0,6),(1,6),(2,6),(3,6),(4,6),(5,6),(0,7),(1,7),(2,7),(0,9),(1,9),(2,9),(3,9),(4,9),(5,9),(6,9),(7,9),(8,9),(0,10),(1,10),(2,10),(3,10),(4,10),(5,10),(6,10),(7,10),(8,10),(0,12),(1,12),(2,12),(3,12),(4,12),(5,12),(6,12),(7,12),(8,12),(9,12),(10,12),(11,12),(0,13),(1,13),(2,13),(3,13),(4,13),(5,13),(6,13),(7,13),(8,13),(9,13),(10,13),(11,13),(0,14),(1,14),(2,14),(3,14),(4,14),(5,14),(6,14),(7,14),(8,14),(9,14),(10,14),(11,14),(0,15),(1,15),(2,15),(3,15),(4,15),(5,15),(6,15),(7,15),(8,15),(9,15),(10,15),(11,15),(12,15),(13,15),(14,15),(0,16),(1,16),(2,16),(3,16),(4,16),(5,16),(6,16),(7,16),(8,16),(9,16),(10,16),(11,16),(0,18),(1,18),(2,18),(3,18),(4,18),(5,18),(6,18),(7,18),(8,18),(9,18),(10,18),(11,18),(12,18),(13,18),(14,18),(15,18),(16,18),(17,18),(0,19),(1,19),(2,19),(3,19),(4,19),(5,19),(6,19),(7,19),(8,19),(9,19),(10,19),(11,19),(12,19),(13,19),(14,19),(15,19),(16,19),(17,19),(18,19)] [31,32,33,34,35,36,37,38,39,40,41,42,43,44,45,46,47,48]) (.seq (.ops [O 49 (.fad 0 t2),oF 50 1 49,O 51 (.bin .lss t50 (I 0)),M 9 51] [⟨1,(.agg [.i .i64,.i .i64]),0⟩] [] [49,50,51]) (.seq (oQ [oT 52 2 7,oT 53 2 8,O 54 (.call (.f yhI) [t52,t53]),O 10 (.allocL (.agg [(.int .u64 (0)),(.int .u64 (0))])),⟨none,(.store 2 t10 t54),none⟩] [52,53,54]) (.seq (.seq (.ops [O 55 (.fad 0 t2),oF 56 1 55,O 57 (.bin .lss t56 (I 0)),O 58 (.fad 0 t3),oF 59 1 58,O 60 (.bin .lss t59 (I 0)),O 61 (.eqB true t57 t60)] [⟨1,(.agg [.i .i64,.i .i64]),0⟩,⟨4,(.agg [.i .i64,.i .i64]),0⟩] [] [55,56,57,58,59,60]) (.cond t61 (.seq (oQ [oT 62 2 7,oT 63 2 8,O 64 (.call (.f yhY) [t62,t63]),⟨none,(.store 2 t10 t64),none⟩] [61,62,63,64]) (.seq (oQ [oT 65 2 7,oT 66 2 8,O 67 (.call (.f ygl) [t65,t66])] [65,66]) (.cond t67 (.seq (oQ [oT 68 2 8,oT 69 2 7,O 70 (.call (.f yhY) [t68,t69]),⟨none,(.store 2 t10 t70),none⟩] [7,8,9,67,68,69,70]) (.ops [O 71 (.fad 0 t3),oF 72 1 71,O 73 (.bin .lss t72 (I 0)),M 9 73] [⟨1,(.agg [.i .i64,.i .i64]),0⟩] [] [71,72,73])) .skip))) .skip)) (.seq (.seq (oQ [oT 74 2 10,O 75 (.build [(.int .u64 (0)),(.int .u64 (0))] []),O 76 (.eqA false 2 [(0,(some .u64)),(1,(some .u64))] t74 t75)] [7,8,61,67,74,75]) (.cond t76 (.seq (oQ [O 77 (.build [(.int .i64 (0)),(.int .i64 (0))] [(1,1,(I 1))]),⟨none,(.store 2 t4 t77),none⟩,O 5 (.mv (I 0))] [2,3,6,9,10,76,77]) .ret) .skip)) (.seq (oQ [oT 79 2 10,M 80 6,O 81 (.call (.f yhZ) [t79,t80]),M 78 81,O 82 (.ext t78 0),O 83 (.ext t78 1),O 11 (.allocL (.agg [(.int .u64 (0)),(.int .u64 (0))])),⟨none,(.store 2 t11 t82),none⟩,M 12 83] [11,76,78,79,80,81,82,83]) (.seq (oQ [M 84 12,M 85 6,O 86 (.call (.f yeU) [t84,t85]),M 13 86] [12,84,85,86]) (.seq (oQ [oT 88 2 10,M 89 13,O 90 (.call (.f yhZ) [t88,t89]),M 87 90,O 91 (.ext t87 0),O 92 (.ext t87 1),O 14 (.allocL (.agg [(.int .u64 (0)),(.int .u64 (0))])),⟨none,(.store 2 t14 t91),none⟩,M 15 92] [10,15,87,88,89,90,91,92]) (.seq (.ops [M 93 9,oT 94 2 14,O 95 (.fad 1 t2),oF 96 1 95,O 97 (.conv .u64 t96),M 98 6,oX 99 .quo 97 98,O 100 (.fad 1 t3),oF 101 1 100,O 102 (.conv .u64 t101),M 103 13,oX 104 .quo 102 103,O 105 (.call (.f ycv) [t99,t104]),O 106 (.call (.f yhJ) [t93,t94,t105]),O 107 (.ext t106 0),O 108 (.ext t106 1),⟨none,(.store 2 t4 t107),none⟩,M 5 108] [⟨3,(.agg [.i .i64,.i .i64]),0⟩,⟨8,(.agg [.i .i64,.i .i64]),0⟩] [(0,1),(0,2),(1,2),(0,3),(1,3),(0,4),(1,4),(0,5),(1,5),(2,5),(3,5),(4,5),(0,6),(1,6),(0,7),(1,7),(2,7),(3,7),(4,7),(5,7),(6,7),(0,8),(1,8),(2,8),(3,8),(4,8),(5,8),(6,8),(0,9),(1,9),(2,9),(3,9),(4,9),(5,9),(6,9),(0,10),(1,10),(2,10),(3,10),(4,10),(5,10),(6,10),(7,10),(8,10),(9,10),(0,11),(1,11),(2,11),(3,11),(4,11),(5,11),(6,11),(0,12),(1,12),(14,15)] [2,3,6,9,13,14,93,94,95,96,97,98,99,100,101,102,103,104,105,106,107,108]) .ret))))))))))))⟩
def yHV:TFn:=⟨2,[.cell 4 true 2,.tmp 5],(.seq (oQ [O 2 (.boxL t0),O 3 (.boxL t1),O 4 (.allocL (.agg [(.int .i64 (0)),(.int .i64 (0))])),O 5 (.mv (I 0))] [0,1,5]) (.seq (.seq (oQ [oT 6 2 2,oT 7 2 3,O 8 (.call (.f ycs) [t6,t7]),O 9 (.bin .neq t8 (I 0))] [6,7,8]) (.cond t9 (.seq (oQ [O 10 (.build [(.int .i64 (0)),(.int .i64 (0))] []),oT 11 2 2,oT 12 2 3,O 13 (.call (.f ycs) [t11,t12]),⟨none,(.store 2 t4 t10),none⟩,M 5 13] [2,3,9,10,11,12,13]) .ret) .skip)) (.seq (.ops [oT 14 2 2,oT 15 2 3,O 16 (.call (.f ynD) [t15]),O 17 (.call (.f ygI) [t14,t16]),O 18 (.ext t17 0),O 19 (.ext t17 1),⟨none,(.store 2 t4 t18),none⟩,M 5 19] [] [(0,1),(0,2),(4,5)] [2,3,9,14,15,16,17,18,19]) .ret)))⟩
def yHW:TFn:=⟨2,[.cell 4 true 2,.tmp 5],(.seq (oQ [O 2 (.boxL t0),O 3 (.boxL t1),O 4 (.allocL (.agg [(.int .i64 (0)),(.int .i64 (0))])),O 5 (.mv (I 0))] [0,1,5]) (.seq (.seq (oQ [oT 8 2 2,oT 9 2 3,O 10 (.call (.f ycs) [t8,t9]),O 11 (.bin .neq t10 (I 0))] [8,9,10]) (.cond t11 (.seq (oQ [O 12 (.build [(.int .i64 (0)),(.int .i64 (0))] []),oT 13 2 2,oT 14 2 3,O 15 (.call (.f ycs) [t13,t14]),⟨none,(.store 2 t4 t12),none⟩,M 5 15] [2,3,11,12,13,14,15]) .ret) .skip)) (.seq (.ops [O 16 (.fad 0 t2),oF 17 1 16,O 18 (.call (.f ycP) [t17]),O 19 (.fad 1 t3),oF 20 1 19,O 21 (.conv .u64 t20),O 22 (.call (.f yeU) [t18,t21]),O 23 (.fad 0 t3),oF 24 1 23,O 25 (.call (.f ycP) [t24]),O 26 (.fad 1 t2),oF 27 1 26,O 28 (.conv .u64 t27),O 29 (.call (.f yeU) [t25,t28]),M 6 22,M 7 29] [⟨1,(.agg [.i .i64,.i .i64]),0⟩,⟨4,(.agg [.i .i64,.i .i64]),0⟩,⟨8,(.agg [.i .i64,.i .i64]),0⟩,⟨11,(.agg [.i .i64,.i .i64]),0⟩] [(0,3),(1,3),(2,3),(0,4),(1,4),(2,4),(0,5),(1,5),(2,5),(0,7),(1,7),(2,7),(3,7),(4,7),(5,7),(6,7),(0,8),(1,8),(2,8),(3,8),(4,8),(5,8),(6,8),(0,10),(1,10),(2,10),(3,10),(4,10),(5,10),(6,10),(7,10),(8,10),(9,10),(0,11),(1,11),(2,11),(3,11),(4,11),(5,11),(6,11),(7,11),(8,11),(9,11),(0,12),(1,12),(2,12),(3,12),(4,12),(5,12),(6,12),(7,12),(8,12),(9,12)] [11,16,17,18,19,20,21,22,23,24,25,26,27,28,29]) (.seq (.ops [O 30 (.fad 0 t2),oF 31 1 30,O 32 (.bin .lss t31 (I 0)),O 33 (.fad 0 t3),oF 34 1 33,O 35 (.bin .lss t34 (I 0)),O 36 (.eqB true t32 t35),M 37 36,⟨some 38,(.fad 0 t2),some (37,true)⟩,⟨some 39,(.load false 1 t38),some (37,true)⟩,⟨some 40,(.bin .neq t39 (I 0)),some (37,true)⟩,O 41 (.pick t37 t40 (.c (.bool false))),M 42 41,⟨some 43,(.fad 0 t3),some (42,true)⟩,⟨some 44,(.load false 1 t43),some (42,true)⟩,⟨some 45,(.bin .neq t44 (I 0)),some (42,true)⟩,O 46 (.pick t42 t45 (.c (.bool false))),O 47 (.fad 0 t2),oF 48 1 47,O 49 (.call (.f ycP) [t48]),M 50 6,oX 51 .quo 49 50,O 52 (.fad 0 t3),oF 53 1 52,O 54 (.call (.f ycP) [t53]),M 55 7,oX 56 .quo 54 55,O 57 (.call (.f ycv) [t51,t56]),O 58 (.fad 1 t2),oF 59 1 58,O 60 (.conv .u64 t59),M 61 7,oX 62 .quo 60 61,O 63 (.fad 1 t3),oF 64 1 63,O 65 (.conv .u64 t64),M 66 6,oX 67 .quo 65 66,O 68 (.call (.f ycv) [t62,t67]),O 69 (.call (.f yhJ) [t46,t57,t68]),O 70 (.ext t69 0),O 71 (.ext t69 1),⟨none,(.store 2 t4 t70),none⟩,M 5 71] [⟨1,(.agg [.i .i64,.i .i64]),0⟩,⟨4,(.agg [.i .i64,.i .i64]),0⟩,⟨9,(.agg [.i .i64,.i .i64]),0⟩,⟨14,(.agg [.i .i64,.i .i64]),0⟩,⟨18,(.agg [.i .i64,.i .i64]),0⟩,⟨23,(.agg [.i .i64,.i .i64]),0⟩,⟨29,(.agg [.i .i64,.i .i64]),0⟩,⟨34,(.agg [.i .i64,.i .i64]),0⟩] [(0,3),(1,3),(2,3),(0,4),(1,4),(2,4),(0,5),(1,5),(2,5),(0,17),(1,17),(2,17),(3,17),(4,17),(5,17),(6,17),(7,17),(8,17),(9,17),(10,17),(11,17),(12,17),(13,17),(14,17),(15,17),(16,17),(0,18),(1,18),(2,18),(3,18),(4,18),(5,18),(6,18),(7,18),(8,18),(9,18),(10,18),(11,18),(12,18),(13,18),(14,18),(15,18),(16,18),(13,19),(14,19),(15,19),(16,19),(0,20),(1,20),(2,20),(3,20),(4,20),(5,20),(6,20),(7,20),(8,20),(9,20),(10,20),(11,20),(12,20),(13,20),(14,20),(15,20),(16,20),(17,20),(18,20),(19,20),(13,21),(14,21),(15,21),(16,21),(0,22),(1,22),(2,22),(3,22),(4,22),(5,22),(6,22),(7,22),(8,22),(9,22),(10,22),(11,22),(12,22),(13,22),(14,22),(15,22),(16,22),(17,22),(18,22),(19,22),(20,22),(21,22),(0,23),(1,23),(2,23),(3,23),(4,23),(5,23),(6,23),(7,23),(8,23),(9,23),(10,23),(11,23),(12,23),(13,23),(14,23),(15,23),(16,23),(17,23),(18,23),(19,23),(20,23),(21,23),(13,24),(14,24),(15,24),(16,24),(20,24),(21,24),(0,25),(1,25),(2,25),(3,25),(4,25),(5,25),(6,25),(7,25),(8,25),(9,25),(10,25),(11,25),(12,25),(13,25),(14,25),(15,25),(16,25),(17,25),(18,25),(19,25),(20,25),(21,25),(22,25),(23,25),(24,25),(13,26),(14,26),(15,26),(16,26),(20,26),(21,26),(13,27),(14,27),(15,27),(16,27),(0,28),(1,28),(2,28),(3,28),(4,28),(5,28),(6,28),(7,28),(8,28),(9,28),(10,28),(11,28),(12,28),(13,28),(14,28),(15,28),(16,28),(17,28),(18,28),(19,28),(20,28),(21,28),(22,28),(23,28),(24,28),(25,28),(26,28),(27,28),(0,29),(1,29),(2,29),(3,29),(4,29),(5,29),(6,29),(7,29),(8,29),(9,29),(10,29),(11,29),(12,29),(13,29),(14,29),(15,29),(16,29),(17,29),(18,29),(19,29),(20,29),(21,29),(22,29),(23,29),(24,29),(25,29),(26,29),(27,29),(0,30),(1,30),(2,30),(3,30),(4,30),(5,30),(6,30),(7,30),(8,30),(9,30),(10,30),(11,30),(12,30),(13,30),(14,30),(15,30),(16,30),(17,30),(18,30),(19,30),(20,30),(21,30),(22,30),(23,30),(24,30),(25,30),(26,30),(27,30),(0,31),(1,31),(2,31),(3,31),(4,31),(5,31),(6,31),(7,31),(8,31),(9,31),(10,31),(11,31),(12,31),(13,31),(14,31),(15,31),(16,31),(17,31),(18,31),(19,31),(20,31),(21,31),(22,31),(23,31),(24,31),(25,31),(26,31),(27,31),(28,31),(29,31),(30,31),(0,32),(1,32),(2,32),(3,32),(4,32),(5,32),(6,32),(7,32),(8,32),(9,32),(10,32),(11,32),(12,32),(13,32),(14,32),(15,32),(16,32),(17,32),(18,32),(19,32),(20,32),(21,32),(22,32),(23,32),(24,32),(25,32),(26,32),(27,32),(0,33),(1,33),(2,33),(3,33),(4,33),(5,33),(6,33),(7,33),(8,33),(9,33),(10,33),(11,33),(12,33),(13,33),(14,33),(15,33),(16,33),(17,33),(18,33),(19,33),(20,33),(21,33),(22,33),(23,33),(24,33),(25,33),(26,33),(27,33),(28,33),(29,33),(30,33),(31,33),(32,33),(0,34),(1,34),(2,34),(3,34),(4,34),(5,34),(6,34),(7,34),(8,34),(9,34),(10,34),(11,34),(12,34),(13,34),(14,34),(15,34),(16,34),(17,34),(18,34),(19,34),(20,34),(21,34),(22,34),(23,34),(24,34),(25,34),(26,34),(27,34),(28,34),(29,34),(30,34),(31,34),(32,34),(0,35),(1,35),(2,35),(3,35),(4,35),(5,35),(6,35),(7,35),(8,35),(9,35),(10,35),(11,35),(12,35),(13,35),(14,35),(15,35),(16,35),(17,35),(18,35),(19,35),(20,35),(21,35),(22,35),(23,35),(24,35),(25,35),(26,35),(27,35),(28,35),(29,35),(30,35),(31,35),(32,35),(0,36),(1,36),(2,36),(3,36),(4,36),(5,36),(6,36),(7,36),(8,36),(9,36),(10,36),(11,36),(12,36),(13,36),(14,36),(15,36),(16,36),(17,36),(18,36),(19,36),(20,36),(21,36),(22,36),(23,36),(24,36),(25,36),(26,36),(27,36),(28,36),(29,36),(30,36),(31,36),(32,36),(33,36),(34,36),(35,36),(0,37),(1,37),(2,37),(3,37),(4,37),(5,37),(6,37),(7,37),(8,37),(9,37),(10,37),(11,37),(12,37),(13,37),(14,37),(15,37),(16,37),(17,37),(18,37),(19,37),(20,37),(21,37),(22,37),(23,37),(24,37),(25,37),(26,37),(27,37),(28,37),(29,37),(30,37),(31,37),(32,37),(13,38),(14,38),(15,38),(16,38),(40,41)] [2,3,6,7,30,31,32,33,34,35,36,37,38,39,40,41,42,43,44,45,46,47,48,49,50,51,52,53,54,55,56,57,58,59,60,61,62,63,64,65,66,67,68,69,70,71]) .ret))))⟩
def yDw:TFn:=⟨4,[.cell 8 true 2,.tmp 9],(.seq (oQ [O 4 (.boxL t0),O 6 (.boxL t2),O 7 (.boxL t3),O 8 (.allocL (.agg [(.int .i64 (0)),(.int .i64 (0))])),O 9 (.mv (I 0))] [0,2,3,9]) (.seq (.ops [oT 14 2 6,O 15 (.fad 1 t4),oF 16 1 15,M 17 1,O 18 (.iad 1 t16 t17),oF 19 1 18,O 20 (.call (.f yfC) [t19]),O 21 (.call (.f ygm) [t14,t20]),oT 22 2 7,O 23 (.fad 1 t4),oF 24 1 23,M 25 1,O 26 (.bin .add t25 (I 1)),O 27 (.iad 1 t24 t26),oF 28 1 27,O 29 (.call (.f yfC) [t28]),O 30 (.call (.f yik) [t22,t29]),O 10 (.allocL (.agg [(.int .i64 (0)),(.int .i64 (0))])),O 11 (.allocL (.agg [(.int .i64 (0)),(.int .i64 (0))])),⟨none,(.store 2 t10 t21),none⟩,⟨none,(.store 2 t11 t30),none⟩] [⟨2,(.agg [.i .i64,.d,.d]),0⟩,⟨4,(.one (.i .i64)),0⟩,⟨5,(.one (.i .i64)),0⟩,⟨10,(.agg [.i .i64,.d,.d]),0⟩,⟨13,(.one (.i .i64)),0⟩,⟨14,(.one (.i .i64)),0⟩] [(0,1),(0,2),(0,3),(1,3),(2,3),(0,4),(0,5),(0,6),(0,8),(1,8),(2,8),(3,8),(4,8),(5,8),(6,8),(7,8),(0,9),(1,9),(2,9),(3,9),(4,9),(5,9),(6,9),(7,9),(8,9),(0,10),(1,10),(2,10),(3,10),(4,10),(5,10),(6,10),(7,10),(8,10),(0,11),(1,11),(2,11),(3,11),(4,11),(5,11),(6,11),(7,11),(8,11),(9,11),(10,11),(0,12),(1,12),(2,12),(3,12),(4,12),(5,12),(6,12),(7,12),(8,12),(9,12),(10,12),(0,13),(1,13),(2,13),(3,13),(4,13),(5,13),(6,13),(7,13),(8,13),(0,14),(1,14),(2,14),(3,14),(4,14),(5,14),(6,14),(7,14),(8,14),(8,15),(0,17),(1,17),(2,17),(3,17),(4,17),(5,17),(6,17),(7,17),(8,17),(9,17),(10,17),(11,17),(12,17),(13,17),(14,17),(15,17),(16,17),(0,18),(1,18),(2,18),(3,18),(4,18),(5,18),(6,18),(7,18),(8,18),(9,18),(10,18),(11,18),(12,18),(13,18),(14,18),(15,18),(16,18),(17,18)] [6,7,14,15,16,17,18,19,20,21,22,23,24,25,26,27,28,29,30]) (.seq (.seq (.ops [oT 31 2 10,oT 32 2 11,O 33 (.call (.f ybZ) [t31,t32]),O 34 (.un .not t33),M 35 34,⟨some 36,(.fad 2 t4),some (35,false)⟩,⟨some 37,(.load false 1 t36),some (35,false)⟩,⟨some 38,(.mv t1),some (35,false)⟩,⟨some 39,(.iad 1 t37 t38),some (35,false)⟩,⟨some 40,(.load false 1 t39),some (35,false)⟩,⟨some 41,(.bin .eql t40 (I 0)),some (35,false)⟩,O 42 (.pick t35 (.c (.bool true)) t41)] [⟨6,(.agg [.i .i64,.d,.d]),0⟩,⟨8,(.one (.i .i64)),0⟩,⟨9,(.one (.i .i64)),0⟩] [] [31,32,33,34,35,36,37,38,39,40,41]) (.cond t42 (.seq (oQ [O 43 (.build [(.int .i64 (0)),(.int .i64 (0))] [(1,1,(I 1))]),⟨none,(.store 2 t8 t43),none⟩,O 9 (.mv (I 0))] [1,4,10,11,42,43]) .ret) .skip)) (.seq (oQ [oT 45 2 11,oT 46 2 10,O 47 (.call (.f yjk) [t45,t46]),M 44 47,O 48 (.ext t44 0),O 49 (.ext t44 1),O 12 (.allocL (.agg [(.int .i64 (0)),(.int .i64 (0))])),⟨none,(.store 2 t12 t48),none⟩,M 13 49] [10,11,42,44,45,46,47,48,49]) (.seq (.seq (oQ [M 50 13,O 51 (.bin .neq t50 (I 0))] [50]) (.cond t51 (.seq (oQ [O 52 (.build [(.int .i64 (0)),(.int .i64 (0))] []),M 53 13,⟨none,(.store 2 t8 t52),none⟩,M 9 53] [1,4,12,13,51,52,53]) .ret) .skip)) (.seq (.ops [oT 54 2 12,O 55 (.fad 2 t4),oF 56 1 55,M 57 1,O 58 (.iad 1 t56 t57),oF 59 1 58,O 60 (.call (.f yfC) [t59]),O 61 (.call (.f yjl) [t54,t60]),O 62 (.ext t61 0),O 63 (.ext t61 1),⟨none,(.store 2 t8 t62),none⟩,M 9 63] [⟨2,(.agg [.i .i64,.d,.d]),0⟩,⟨4,(.one (.i .i64)),0⟩,⟨5,(.one (.i .i64)),0⟩] [(0,1),(0,2),(0,3),(1,3),(2,3),(0,4),(0,5),(0,6),(8,9)] [1,4,12,13,51,54,55,56,57,58,59,60,61,62,63]) .ret))))))⟩
def ylU:TCode:=(.seq (.seq (.ops [M 37 9,O 38 (.fad 2 t3),oF 39 1 38,O 40 (.len t39),oX 41 .lss 37 40] [⟨2,(.agg [.i .i64,.d,.d]),0⟩] [] [37,38,39,40]) (.cond t41 .skip (.exit 0))) (.seq (.block 1 (.seq (oQ [oT 45 3 3,M 46 9,oT 47 2 4,oT 48 2 5,O 49 (.call (.f ygn) [t45,t46,t47,t48]),M 44 49,O 50 (.ext t44 0),O 51 (.ext t44 1),O 10 (.allocL (.agg [(.int .i64 (0)),(.int .i64 (0))])),⟨none,(.store 2 t10 t50),none⟩,M 11 51] [41,44,45,46,47,48,49,50,51]) (.seq (.seq (oQ [M 52 11,O 53 (.bin .neq t52 (I 0))] [52]) (.cond t53 (.seq (oQ [O 54 (.build [(.int .i64 (0)),(.int .i64 (0))] []),M 55 11,⟨none,(.store 2 t6 t54),none⟩,M 7 55] [3,4,5,8,9,10,11,53,54,55]) .ret) .skip)) (.seq (oQ [oT 57 2 8,oT 58 2 10,O 59 (.call (.f ygI) [t57,t58]),M 56 59,O 60 (.ext t56 0),O 61 (.ext t56 1),⟨none,(.store 2 t8 t60),none⟩,M 11 61] [10,53,56,57,58,59,60,61]) (.seq (oQ [M 62 11,O 63 (.bin .neq t62 (I 0))] [62]) (.cond t63 (.seq (oQ [O 64 (.build [(.int .i64 (0)),(.int .i64 (0))] []),M 65 11,⟨none,(.store 2 t6 t64),none⟩,M 7 65] [3,4,5,8,9,11,63,64,65]) .ret) .skip)))))) (oQ [M 42 9,O 43 (.bin .add t42 (I 1)),M 9 43] [11,42,43,63])))
def yDx:TFn:=⟨3,[.cell 6 true 2,.tmp 7],(.seq (oQ [O 3 (.boxL t0),O 4 (.boxL t1),O 5 (.boxL t2),O 6 (.allocL (.agg [(.int .i64 (0)),(.int .i64 (0))])),O 7 (.mv (I 0))] [0,1,2,7]) (.seq (.seq (oQ [oT 12 3 3,O 13 (.call (.f ydj) [t12]),O 14 (.bin .neq t13 (I 0))] [12,13]) (.cond t14 (.seq (oQ [O 15 (.build [(.int .i64 (0)),(.int .i64 (0))] []),oT 16 3 3,O 17 (.call (.f ydj) [t16]),⟨none,(.store 2 t6 t15),none⟩,M 7 17] [3,4,5,14,15,16,17]) .ret) .skip)) (.seq (.seq (.ops [O 18 (.fad 0 t3),oF 19 1 18,oT 20 2 4,O 21 (.call (.f yfe) [t19,t20]),O 22 (.un .not t21),M 23 22,⟨some 24,(.fad 0 t3),some (23,false)⟩,⟨some 25,(.load false 1 t24),some (23,false)⟩,⟨some 26,(.load true 2 t5),some (23,false)⟩,⟨some 27,(.call (.f yfe) [t25,t26]),some (23,false)⟩,⟨some 28,(.un .not t27),some (23,false)⟩,O 29 (.pick t23 (.c (.bool true)) t28),M 30 29,⟨some 31,(.load true 2 t5),some (30,false)⟩,⟨some 32,(.load true 2 t4),some (30,false)⟩,⟨some 33,(.call (.f ybZ) [t31,t32]),some (30,false)⟩,O 34 (.pick t30 (.c (.bool true)) t33)] [⟨1,(.agg [.i .i64,.d,.d]),0⟩,⟨7,(.agg [.i .i64,.d,.d]),0⟩] [] [14,18,19,20,21,22,23,24,25,26,27,28,29,30,31,32,33]) (.cond t34 (.seq (oQ [O 35 (.build [(.int .i64 (0)),(.int .i64 (0))] []),⟨none,(.store 2 t6 t35),none⟩,O 7 (.mv (I 2))] [3,4,5,34,35]) .ret) .skip)) (.seq (oQ [O 36 (.build [(.int .i64 (0)),(.int .i64 (0))] [(1,1,(I 1))]),O 8 (.allocL (.agg [(.int .i64 (0)),(.int .i64 (0))])),⟨none,(.store 2 t8 t36),none⟩] [34,36]) (.seq (.seq (oQ [O 9 (.mv (I 0))] []) (.block 0 (.loop 92446900 ylU))) (.seq (oQ [oT 66 2 8,⟨none,(.store 2 t6 t66),none⟩,O 7 (.mv (I 0))] [3,4,5,8,9,41,66]) .ret))))))⟩
def yHX:TFn:=⟨2,[.cell 4 true 2,.tmp 5],(.seq (oQ [O 2 (.boxL t0),O 3 (.boxL t1),O 4 (.allocL (.agg [(.int .i64 (0)),(.int .i64 (0))])),O 5 (.mv (I 0))] [0,1,5]) (.seq (.seq (oQ [oT 7 2 2,oT 8 2 3,O 9 (.call (.f ycs) [t7,t8]),O 10 (.bin .neq t9 (I 0))] [7,8,9]) (.cond t10 (.seq (oQ [O 11 (.build [(.int .i64 (0)),(.int .i64 (0))] []),oT 12 2 2,oT 13 2 3,O 14 (.call (.f ycs) [t12,t13]),⟨none,(.store 2 t4 t11),none⟩,M 5 14] [2,3,10,11,12,13,14]) .ret) .skip)) (.seq (.seq (.ops [O 15 (.fad 0 t3),oF 16 1 15,O 17 (.bin .eql t16 (I 0))] [⟨1,(.agg [.i .i64,.i .i64]),0⟩] [] [10,15,16]) (.cond t17 (.seq (oQ [O 18 (.build [(.int .i64 (0)),(.int .i64 (0))] []),⟨none,(.store 2 t4 t18),none⟩,O 5 (.mv (I 18))] [2,3,17,18]) .ret) .skip)) (.seq (.ops [O 19 (.fad 1 t3),oF 20 1 19,O 21 (.fad 0 t3),oF 22 1 21,O 23 (.build [(.int .i64 (0)),(.int .i64 (0))] [(0,1,t20),(1,1,t22)]),O 6 (.allocL (.agg [(.int .i64 (0)),(.int .i64 (0))])),⟨none,(.store 2 t6 t23),none⟩] [⟨1,(.agg [.i .i64,.i .i64]),0⟩,⟨3,(.agg [.i .i64,.i .i64]),0⟩] [] [17,19,20,21,22,23]) (.seq (.seq (.ops [O 24 (.fad 0 t3),oF 25 1 24,O 26 (.bin .lss t25 (I 0))] [⟨1,(.agg [.i .i64,.i .i64]),0⟩] [] [24,25]) (.cond t26 (.ops [O 27 (.fad 1 t3),oF 28 1 27,O 29 (.un .neg t28),O 30 (.fad 0 t3),oF 31 1 30,O 32 (.un .neg t31),O 33 (.build [(.int .i64 (0)),(.int .i64 (0))] [(0,1,t29),(1,1,t32)]),⟨none,(.store 2 t6 t33),none⟩] [⟨1,(.agg [.i .i64,.i .i64]),0⟩,⟨4,(.agg [.i .i64,.i .i64]),0⟩] [] [3,26,27,28,29,30,31,32,33]) .skip)) (.seq (oQ [oT 34 2 2,oT 35 2 6,O 36 (.call (.f yjl) [t34,t35]),O 37 (.ext t36 0),O 38 (.ext t36 1),⟨none,(.store 2 t4 t37),none⟩,M 5 38] [2,3,6,26,34,35,36,37,38]) .ret))))))⟩
def ylV:TCode:=(.seq (.seq (.ops [M 38 9,O 39 (.fad 2 t3),oF 40 1 39,O 41 (.len t40),oX 42 .lss 38 41,M 43 42,⟨some 44,(.fad 0 t5),some (43,true)⟩,⟨some 45,(.load false 1 t44),some (43,true)⟩,⟨some 46,(.bin .gtr t45 (I 0)),some (43,true)⟩,O 47 (.pick t43 t46 (.c (.bool false)))] [⟨2,(.agg [.i .i64,.d,.d]),0⟩,⟨7,(.agg [.i .i64,.i .i64]),0⟩] [] [38,39,40,41,42,43,44,45,46]) (.cond t47 .skip (.exit 0))) (.seq (.block 1 (.seq (.ops [O 50 (.fad 1 t3),oF 51 1 50,M 52 9,O 53 (.bin .add t52 (I 1)),O 54 (.iad 1 t51 t53),oF 55 1 54,O 56 (.call (.f yfC) [t55]),O 10 (.allocL (.agg [(.int .i64 (0)),(.int .i64 (0))])),⟨none,(.store 2 t10 t56),none⟩] [⟨1,(.agg [.i .i64,.d,.d]),0⟩,⟨4,(.one (.i .i64)),0⟩,⟨5,(.one (.i .i64)),0⟩] [] [47,50,51,52,53,54,55,56]) (.seq (.seq (.ops [oT 57 2 8,oT 58 2 10,O 59 (.call (.f ybZ) [t57,t58]),O 60 (.un .not t59),M 61 60,⟨some 62,(.fad 2 t3),some (61,false)⟩,⟨some 63,(.load false 1 t62),some (61,false)⟩,⟨some 64,(.mv t9),some (61,false)⟩,⟨some 65,(.iad 1 t63 t64),some (61,false)⟩,⟨some 66,(.load false 1 t65),some (61,false)⟩,⟨some 67,(.bin .eql t66 (I 0)),some (61,false)⟩,O 68 (.pick t61 (.c (.bool true)) t67)] [⟨6,(.agg [.i .i64,.d,.d]),0⟩,⟨8,(.one (.i .i64)),0⟩,⟨9,(.one (.i .i64)),0⟩] [] [57,58,59,60,61,62,63,64,65,66,67]) (.cond t68 (.seq (oQ [oT 69 2 8,oT 70 2 10,O 71 (.call (.f ygm) [t69,t70]),⟨none,(.store 2 t8 t71),none⟩] [10,68,69,70,71]) (.exit 1)) .skip)) (.seq (oQ [oT 73 3 3,M 74 9,oT 75 2 8,oT 76 2 10,O 77 (.call (.f ygn) [t73,t74,t75,t76]),M 72 77,O 78 (.ext t72 0),O 79 (.ext t72 1),O 11 (.allocL (.agg [(.int .i64 (0)),(.int .i64 (0))])),⟨none,(.store 2 t11 t78),none⟩,M 12 79] [68,72,73,74,75,76,77,78,79]) (.seq (.seq (oQ [M 80 12,O 81 (.bin .neq t80 (I 0))] [80]) (.cond t81 (.seq (oQ [O 82 (.build [(.int .i64 (0)),(.int .i64 (0))] []),M 83 12,⟨none,(.store 2 t6 t82),none⟩,M 7 83] [3,4,5,8,9,10,11,12,81,82,83]) .ret) .skip)) (.seq (.seq (oQ [oT 84 2 11,oT 85 2 5,O 86 (.call (.f ybZ) [t84,t85]),O 87 (.un .not t86)] [12,81,84,85,86]) (.cond t87 (.seq (.ops [oT 89 2 5,O 90 (.fad 2 t3),oF 91 1 90,M 92 9,O 93 (.iad 1 t91 t92),oF 94 1 93,O 95 (.call (.f yfC) [t94]),O 96 (.call (.f ynE) [t89,t95]),M 88 96,O 97 (.ext t88 0),O 98 (.ext t88 1),O 13 (.allocL (.agg [(.int .i64 (0)),(.int .i64 (0))])),⟨none,(.store 2 t13 t97),none⟩,M 14 98] [⟨2,(.agg [.i .i64,.d,.d]),0⟩,⟨4,(.one (.i .i64)),0⟩,⟨5,(.one (.i .i64)),0⟩] [(0,1),(0,2),(0,3),(1,3),(2,3),(0,4),(0,5),(0,6),(9,10),(0,11),(1,11),(2,11),(3,11),(4,11),(5,11),(6,11),(7,11),(8,11),(9,11),(10,11),(10,12)] [3,4,5,9,10,11,87,88,89,90,91,92,93,94,95,96,97,98]) (.seq (.seq (oQ [M 99 14,O 100 (.bin .neq t99 (I 0))] [99]) (.cond t100 (.seq (oQ [O 101 (.build [(.int .i64 (0)),(.int .i64 (0))] []),M 102 14,⟨none,(.store 2 t6 t101),none⟩,M 7 102] [8,13,14,100,101,102]) .ret) .skip)) (.seq (oQ [oT 103 2 8,oT 104 2 13,O 105 (.call (.f ygI) [t103,t104]),O 106 (.ext t105 0),O 107 (.ext t105 1),⟨none,(.store 2 t6 t106),none⟩,M 7 107] [8,13,14,100,103,104,105,106,107]) .ret))) .skip)) (.seq (oQ [oT 109 2 5,oT 110 2 11,O 111 (.call (.f yjk) [t109,t110]),M 108 111,O 112 (.ext t108 0),O 113 (.ext t108 1),⟨none,(.store 2 t5 t112),none⟩,M 12 113] [11,87,108,109,110,111,112,113]) (.seq (.seq (oQ [M 114 12,O 115 (.bin .neq t114 (I 0))] [114]) (.cond t115 (.seq (oQ [O 116 (.build [(.int .i64 (0)),(.int .i64 (0))] []),M 117 12,⟨none,(.store 2 t6 t116),none⟩,M 7 117] [3,4,5,8,9,10,12,115,116,117]) .ret) .skip)) (oQ [oT 118 2 10,⟨none,(.store 2 t8 t118),none⟩] [10,12,115,118]))))))))) (oQ [M 48 9,O 49 (.bin .add t48 (I 1)),M 9 49] [48,49])))
def yFv:TFn:=⟨3,[.cell 6 true 2,.tmp 7],(.seq (oQ [O 3 (.boxL t0),O 4 (.boxL t1),O 5 (.boxL t2),O 6 (.allocL (.agg [(.int .i64 (0)),(.int .i64 (0))])),O 7 (.mv (I 0))] [0,1,2,7]) (.seq (.seq (oQ [oT 15 3 3,O 16 (.call (.f ydj) [t15]),O 17 (.bin .neq t16 (I 0))] [15,16]) (.cond t17 (.seq (oQ [O 18 (.build [(.int .i64 (0)),(.int .i64 (0))] []),oT 19 3 3,O 20 (.call (.f ydj) [t19]),⟨none,(.store 2 t6 t18),none⟩,M 7 20] [3,4,5,17,18,19,20]) .ret) .skip)) (.seq (.seq (.ops [O 21 (.fad 0 t3),oF 22 1 21,oT 23 2 4,O 24 (.call (.f yfe) [t22,t23]),O 25 (.un .not t24),M 26 25,⟨some 27,(.load true 2 t5),some (26,false)⟩,⟨some 28,(.call (.f ydl) [t27]),some (26,false)⟩,⟨some 29,(.bin .neq t28 (I 0)),some (26,false)⟩,O 30 (.pick t26 (.c (.bool true)) t29),M 31 30,⟨some 32,(.fad 0 t5),some (31,false)⟩,⟨some 33,(.load false 1 t32),some (31,false)⟩,⟨some 34,(.bin .lss t33 (I 0)),some (31,false)⟩,O 35 (.pick t31 (.c (.bool true)) t34)] [⟨1,(.agg [.i .i64,.d,.d]),0⟩,⟨12,(.agg [.i .i64,.i .i64]),0⟩] [] [17,21,22,23,24,25,26,27,28,29,30,31,32,33,34]) (.cond t35 (.seq (oQ [O 36 (.build [(.int .i64 (0)),(.int .i64 (0))] []),⟨none,(.store 2 t6 t36),none⟩,O 7 (.mv (I 2))] [3,4,5,35,36]) .ret) .skip)) (.seq (oQ [oT 37 2 4,O 8 (.allocL (.agg [(.int .i64 (0)),(.int .i64 (0))])),⟨none,(.store 2 t8 t37),none⟩] [35,37]) (.seq (.seq (oQ [O 9 (.mv (I 0))] []) (.block 0 (.loop 63725400 ylV))) (.seq (.seq (.ops [O 119 (.fad 0 t5),oF 120 1 119,O 121 (.bin .gtr t120 (I 0))] [⟨1,(.agg [.i .i64,.i .i64]),0⟩] [] [3,5,8,9,47,119,120]) (.cond t121 (.seq (oQ [O 122 (.build [(.int .i64 (0)),(.int .i64 (0))] []),⟨none,(.store 2 t6 t122),none⟩,O 7 (.mv (I 6))] [4,121,122]) .ret) .skip)) (.seq (oQ [oT 123 2 4,⟨none,(.store 2 t6 t123),none⟩,O 7 (.mv (I 0))] [4,121,123]) .ret)))))))⟩
def yBd:TFn:=⟨2,[.cell 4 true 2,.tmp 5],(.seq (oQ [O 3 (.boxL t1),O 4 (.allocL (.agg [(.int .i64 (0)),(.int .i64 (0))])),O 5 (.mv (I 0))] [1,5]) (.seq (.seq (.ops [O 6 (.fad 1 t3),oF 7 1 6,O 8 (.bin .eql t7 (.c (.int .u8 (1))))] [⟨1,(.agg [.i .i64,.i .u8,.i .i64,.i .i64,.i .i64,.i .i64,.i .i64,.i .i64]),0⟩] [] [6,7]) (.cond t8 (.seq (.ops [M 9 0,O 10 (.fad 0 t3),oF 11 1 10,O 12 (.iad 3 t9 t11),oT 13 3 12,O 14 (.fad 2 t3),oT 15 2 14,O 16 (.fad 4 t3),oT 17 2 16,O 18 (.call (.f ykm) [t13,t15,t17]),O 19 (.ext t18 0),O 20 (.ext t18 1),⟨none,(.store 2 t4 t19),none⟩,M 5 20] [⟨2,(.agg [.i .i64,.i .u8,.i .i64,.i .i64,.i .i64,.i .i64,.i .i64,.i .i64]),0⟩,⟨3,(.agg [.i .i64,.d,.d]),0⟩,⟨4,(.agg [.i .i64,.d,.d]),0⟩,⟨6,(.agg [.i .i64,.i .u8,.i .i64,.i .i64,.i .i64,.i .i64,.i .i64,.i .i64]),0⟩,⟨8,(.agg [.i .i64,.i .u8,.i .i64,.i .i64,.i .i64,.i .i64,.i .i64,.i .i64]),0⟩] [(0,1),(0,2),(0,5),(1,5),(2,5),(3,5),(4,5),(0,6),(1,6),(2,6),(3,6),(4,6),(0,7),(1,7),(2,7),(3,7),(4,7),(5,7),(6,7),(0,8),(1,8),(2,8),(3,8),(4,8),(5,8),(6,8),(10,11)] [0,3,8,9,10,11,12,13,14,15,16,17,18,19,20]) .ret) .skip)) (.seq (.ops [M 21 0,O 22 (.fad 0 t3),oF 23 1 22,O 24 (.iad 3 t21 t23),oT 25 3 24,O 26 (.fad 2 t3),oT 27 2 26,O 28 (.fad 4 t3),oT 29 2 28,O 30 (.call (.f yly) [t25,t27,t29]),O 31 (.ext t30 0),O 32 (.ext t30 1),⟨none,(.store 2 t4 t31),none⟩,M 5 32] [⟨2,(.agg [.i .i64,.i .u8,.i .i64,.i .i64,.i .i64,.i .i64,.i .i64,.i .i64]),0⟩,⟨3,(.agg [.i .i64,.d,.d]),0⟩,⟨4,(.agg [.i .i64,.d,.d]),0⟩,⟨6,(.agg [.i .i64,.i .u8,.i .i64,.i .i64,.i .i64,.i .i64,.i .i64,.i .i64]),0⟩,⟨8,(.agg [.i .i64,.i .u8,.i .i64,.i .i64,.i .i64,.i .i64,.i .i64,.i .i64]),0⟩] [(0,1),(0,2),(0,5),(1,5),(2,5),(3,5),(4,5),(0,6),(1,6),(2,6),(3,6),(4,6),(0,7),(1,7),(2,7),(3,7),(4,7),(5,7),(6,7),(0,8),(1,8),(2,8),(3,8),(4,8),(5,8),(6,8),(10,11)] [0,3,8,21,22,23,24,25,26,27,28,29,30,31,32]) .ret)))⟩
def yDy:TFn:=⟨2,[.tmp 4],(.seq (oQ [O 3 (.boxL t1),O 4 (.mv (.c (.bool false)))] [1,4]) (.seq (.seq (.ops [M 7 0,O 8 (.build [.nils,.nils] [(0,1,t7)]),O 9 (.fad 0 t3),oF 10 1 9,O 11 (.call (.f ykl) [t8,t10]),O 12 (.un .not t11),M 13 12,⟨some 14,(.fad 1 t3),some (13,false)⟩,⟨some 15,(.load false 1 t14),some (13,false)⟩,⟨some 16,(.bin .neq t15 (.c (.int .u8 (1)))),some (13,false)⟩,⟨some 17,(.mv t16),some (13,false)⟩,⟨some 18,(.fad 1 t3),some (17,true)⟩,⟨some 19,(.load false 1 t18),some (17,true)⟩,⟨some 20,(.bin .neq t19 (.c (.int .u8 (2)))),some (17,true)⟩,⟨some 21,(.pick t17 t20 (.c (.bool false))),some (13,false)⟩,O 22 (.pick t13 (.c (.bool true)) t21)] [⟨3,(.agg [.i .i64,.i .u8,.i .i64,.i .i64,.i .i64,.i .i64,.i .i64,.i .i64]),0⟩,⟨8,(.agg [.i .i64,.i .u8,.i .i64,.i .i64,.i .i64,.i .i64,.i .i64,.i .i64]),0⟩,⟨12,(.agg [.i .i64,.i .u8,.i .i64,.i .i64,.i .i64,.i .i64,.i .i64,.i .i64]),0⟩] [] [7,8,9,10,11,12,13,14,15,16,17,18,19,20,21]) (.cond t22 (.seq (oQ [O 4 (.mv (.c (.bool false)))] [0,3,22]) .ret) .skip)) (.seq (oQ [M 24 0,oT 25 8 3,O 26 (.call (.f yil) [t24,t25]),M 23 26,O 27 (.ext t23 0),O 28 (.ext t23 1),O 5 (.allocL (.agg [(.int .i64 (0)),(.int .i64 (0))])),⟨none,(.store 2 t5 t27),none⟩,M 6 28] [0,22,23,24,25,26,27,28]) (.seq (.ops [M 29 6,O 30 (.bin .eql t29 (I 0)),M 31 30,⟨some 32,(.load true 2 t5),some (31,true)⟩,⟨some 33,(.fad 6 t3),some (31,true)⟩,⟨some 34,(.load true 2 t33),some (31,true)⟩,⟨some 35,(.eqA false 2 [(0,(some .i64)),(1,(some .i64))] t32 t34),some (31,true)⟩,O 36 (.pick t31 t35 (.c (.bool false))),M 4 36] [⟨5,(.agg [.i .i64,.i .u8,.i .i64,.i .i64,.i .i64,.i .i64,.i .i64,.i .i64]),0⟩] [] [3,5,6,29,30,31,32,33,34,35,36]) .ret))))⟩
def ylW:TCode:=(.seq (oQ [oX 25 .lss 24 23] []) (.seq (.cond t25 .skip (.exit 0)) (.seq (.block 1 (.seq (oQ [M 26 24,M 6 26] [25,26]) (.seq (.seq (.ops [O 27 (.fad 0 t3),oF 28 1 27,M 29 6,O 30 (.iad 2 t28 t29),oT 31 2 30,O 32 (.call (.f yaZ) [t31]),O 33 (.bin .neq t32 (I 0)),M 34 33,⟨some 35,(.fad 1 t3),some (34,false)⟩,⟨some 36,(.load false 1 t35),some (34,false)⟩,⟨some 37,(.mv t6),some (34,false)⟩,⟨some 38,(.iad 2 t36 t37),some (34,false)⟩,⟨some 39,(.load true 2 t38),some (34,false)⟩,⟨some 40,(.call (.f yaZ) [t39]),some (34,false)⟩,⟨some 41,(.bin .neq t40 (I 0)),some (34,false)⟩,O 42 (.pick t34 (.c (.bool true)) t41)] [⟨1,(.agg [.d,.d]),0⟩,⟨3,(.agg [.i .i64,.i .i64]),0⟩,⟨4,(.agg [.i .i64,.i .i64]),0⟩,⟨9,(.agg [.d,.d]),0⟩,⟨11,(.agg [.i .i64,.i .i64]),0⟩,⟨12,(.agg [.i .i64,.i .i64]),0⟩] [] [27,28,29,30,31,32,33,34,35,36,37,38,39,40,41]) (.cond t42 (.seq (oQ [O 4 (.mv (.c (.bool false)))] [0,3,5,6,23,24,42]) .ret) .skip)) (.seq (.ops [M 43 6,O 44 (.bin .gtr t43 (I 0)),M 45 44,⟨some 46,(.fad 0 t3),some (45,true)⟩,⟨some 47,(.load false 1 t46),some (45,true)⟩,⟨some 48,(.mv t6),some (45,true)⟩,⟨some 49,(.bin .sub t48 (I 1)),some (45,true)⟩,⟨some 50,(.iad 2 t47 t49),some (45,true)⟩,⟨some 51,(.load true 2 t50),some (45,true)⟩,⟨some 52,(.fad 0 t3),some (45,true)⟩,⟨some 53,(.load false 1 t52),some (45,true)⟩,⟨some 54,(.mv t6),some (45,true)⟩,⟨some 55,(.iad 2 t53 t54),some (45,true)⟩,⟨some 56,(.load true 2 t55),some (45,true)⟩,⟨some 57,(.call (.f yaD) [t51,t56]),some (45,true)⟩,⟨some 58,(.bin .geq t57 (I 0)),some (45,true)⟩,⟨some 59,(.mv t58),some (45,true)⟩,⟨some 60,(.fad 1 t3),some (59,false)⟩,⟨some 61,(.load false 1 t60),some (59,false)⟩,⟨some 62,(.mv t6),some (59,false)⟩,⟨some 63,(.bin .sub t62 (I 1)),some (59,false)⟩,⟨some 64,(.iad 2 t61 t63),some (59,false)⟩,⟨some 65,(.load true 2 t64),some (59,false)⟩,⟨some 66,(.fad 1 t3),some (59,false)⟩,⟨some 67,(.load false 1 t66),some (59,false)⟩,⟨some 68,(.mv t6),some (59,false)⟩,⟨some 69,(.iad 2 t67 t68),some (59,false)⟩,⟨some 70,(.load true 2 t69),some (59,false)⟩,⟨some 71,(.call (.f yaD) [t65,t70]),some (59,false)⟩,⟨some 72,(.bin .gtr t71 (I 0)),some (59,false)⟩,⟨some 73,(.pick t59 (.c (.bool true)) t72),some (45,true)⟩,O 74 (.pick t45 t73 (.c (.bool false)))] [⟨4,(.agg [.d,.d]),0⟩,⟨7,(.agg [.i .i64,.i .i64]),0⟩,⟨8,(.agg [.i .i64,.i .i64]),0⟩,⟨10,(.agg [.d,.d]),0⟩,⟨12,(.agg [.i .i64,.i .i64]),0⟩,⟨13,(.agg [.i .i64,.i .i64]),0⟩,⟨18,(.agg [.d,.d]),0⟩,⟨21,(.agg [.i .i64,.i .i64]),0⟩,⟨22,(.agg [.i .i64,.i .i64]),0⟩,⟨24,(.agg [.d,.d]),0⟩,⟨26,(.agg [.i .i64,.i .i64]),0⟩,⟨27,(.agg [.i .i64,.i .i64]),0⟩] [(3,5),(4,5),(3,6),(4,6),(3,9),(4,9),(5,9),(6,9),(7,9),(8,9),(3,10),(4,10),(5,10),(6,10),(7,10),(8,10),(3,11),(4,11),(5,11),(6,11),(7,11),(8,11),(9,11),(10,11),(3,12),(4,12),(5,12),(6,12),(7,12),(8,12),(3,13),(4,13),(5,13),(6,13),(7,13),(8,13),(17,19),(18,19),(17,20),(18,20),(17,23),(18,23),(19,23),(20,23),(21,23),(22,23),(17,24),(18,24),(19,24),(20,24),(21,24),(22,24),(17,25),(18,25),(19,25),(20,25),(21,25),(22,25),(23,25),(24,25),(17,26),(18,26),(19,26),(20,26),(21,26),(22,26),(17,27),(18,27),(19,27),(20,27),(21,27),(22,27)] [6,42,43,44,45,46,47,48,49,50,51,52,53,54,55,56,57,58,59,60,61,62,63,64,65,66,67,68,69,70,71,72,73]) (.cond t74 (.seq (oQ [O 4 (.mv (.c (.bool false)))] [0,3,5,23,24,74]) .ret) .skip))))) (oQ [O 75 (.bin .add t24 (I 1)),M 24 75] [74,75]))))
def yze:TFn:=⟨2,[.tmp 4],(.seq (oQ [O 3 (.boxL t1),O 4 (.mv (.c (.bool false)))] [1,4]) (.seq (.ops [O 7 (.fad 0 t3),oF 8 1 7,O 9 (.len t8),M 5 9] [⟨1,(.agg [.d,.d]),0⟩] [] [7,8,9]) (.seq (.seq (.ops [M 10 5,O 11 (.bin .lss t10 (I 2)),M 12 11,⟨some 13,(.mv t5),some (12,false)⟩,⟨some 14,(.bin .gtr t13 (I 100)),some (12,false)⟩,O 15 (.pick t12 (.c (.bool true)) t14),M 16 15,⟨some 17,(.fad 1 t3),some (16,false)⟩,⟨some 18,(.load false 1 t17),some (16,false)⟩,⟨some 19,(.len t18),some (16,false)⟩,⟨some 20,(.mv t5),some (16,false)⟩,⟨some 21,(.bin .neq t19 t20),some (16,false)⟩,O 22 (.pick t16 (.c (.bool true)) t21)] [⟨8,(.agg [.d,.d]),0⟩] [] [10,11,12,13,14,15,16,17,18,19,20,21]) (.cond t22 (.seq (oQ [O 4 (.mv (.c (.bool false)))] [0,3,5,22]) .ret) .skip)) (.seq (.seq (oQ [M 23 5,O 24 (.mv (I 0))] [22]) (.block 0 (.loop 69816400 ylW))) (.seq (.ops [O 76 (.fad 0 t3),oF 77 1 76,O 78 (.iad 2 t77 (I 0)),O 79 (.fad 0 t78),oF 80 1 79,O 81 (.bin .eql t80 (I 0)),M 82 81,⟨some 83,(.fad 1 t3),some (82,true)⟩,⟨some 84,(.load false 1 t83),some (82,true)⟩,⟨some 85,(.iad 2 t84 (I 0)),some (82,true)⟩,⟨some 86,(.fad 0 t85),some (82,true)⟩,⟨some 87,(.load false 1 t86),some (82,true)⟩,⟨some 88,(.bin .eql t87 (I 0)),some (82,true)⟩,O 89 (.pick t82 t88 (.c (.bool false))),M 90 89,⟨some 91,(.fad 0 t3),some (90,true)⟩,⟨some 92,(.load false 1 t91),some (90,true)⟩,⟨some 93,(.mv t5),some (90,true)⟩,⟨some 94,(.bin .sub t93 (I 1)),some (90,true)⟩,⟨some 95,(.iad 2 t92 t94),some (90,true)⟩,⟨some 96,(.load true 2 t95),some (90,true)⟩,⟨some 97,(.mv t0),some (90,true)⟩,⟨some 98,(.call (.f yck) [t97]),some (90,true)⟩,⟨some 99,(.eqA false 2 [(0,(some .i64)),(1,(some .i64))] t96 t98),some (90,true)⟩,O 100 (.pick t90 t99 (.c (.bool false))),M 4 100] [⟨1,(.agg [.d,.d]),0⟩,⟨2,(.agg [.i .i64,.i .i64]),0⟩,⟨4,(.agg [.i .i64,.i .i64]),0⟩,⟨8,(.agg [.d,.d]),0⟩,⟨9,(.agg [.i .i64,.i .i64]),0⟩,⟨11,(.agg [.i .i64,.i .i64]),0⟩,⟨16,(.agg [.d,.d]),0⟩,⟨19,(.agg [.i .i64,.i .i64]),0⟩,⟨20,(.agg [.i .i64,.i .i64]),0⟩] [(15,17),(16,17),(15,18),(16,18),(15,21),(16,21),(17,21),(18,21),(19,21),(20,21),(15,22),(16,22),(17,22),(18,22),(19,22),(20,22)] [0,3,5,23,24,25,76,77,78,79,80,81,82,83,84,85,86,87,88,89,90,91,92,93,94,95,96,97,98,99,100]) .ret)))))⟩
def ylX:TCode:=(.seq (oQ [oX 9 .lss 8 7] []) (.seq (.cond t9 .skip (.exit 0)) (.seq (.block 1 (.seq (oQ [M 10 8,M 5 10] [9,10]) (.seq (.ops [oT 11 2 3,M 12 0,M 13 5,O 14 (.iad 2 t12 t13),oT 15 2 14,O 16 (.eqA false 2 [(0,(some .i64)),(1,(some .i64))] t11 t15)] [⟨3,(.agg [.i .i64,.i .i64]),0⟩,⟨4,(.agg [.i .i64,.i .i64]),0⟩] [(0,1),(0,2),(1,2),(0,3),(0,4)] [11,12,13,14,15]) (.cond t16 (.seq (oQ [M 17 5,M 4 17] [0,3,5,7,8,16,17]) .ret) .skip)))) (oQ [O 18 (.bin .add t8 (I 1)),M 8 18] [5,16,18]))))
def yko:TFn:=⟨2,[.tmp 4],(.seq (oQ [O 3 (.boxL t1),O 4 (.mv (I 0))] [1,4]) (.seq (.seq (oQ [M 6 0,O 7 (.len t6),O 8 (.mv (I 0))] [6]) (.block 0 (.loop 94483500 ylX))) (.seq (oQ [O 4 (.mv (I (-1)))] [0,3,7,8,9]) .ret)))⟩
def yin:TFn:=⟨2,[.tmp 4],(.seq (oQ [O 3 (.boxL t1),O 4 (.mv (.c (.bool false)))] [1,4]) (.seq (oQ [M 5 0,oT 6 2 3,O 7 (.call (.f yaG) [t5,t6]),O 8 (.bin .geq t7 (I 0)),M 4 8] [0,3,5,6,7,8]) .ret))⟩
def ylY:TCode:=(.seq (oQ [oX 37 .lss 36 35] []) (.seq (.cond t37 .skip (.exit 0)) (.seq (.block 1 (.seq (.ops [O 38 (.iad 2 t34 t36),oT 39 2 38,O 11 (.allocL (.agg [(.int .i64 (0)),(.int .i64 (0))])),⟨none,(.store 2 t11 t39),none⟩] [⟨0,(.agg [.i .i64,.i .i64]),0⟩,⟨1,(.agg [.i .i64,.i .i64]),0⟩] [] [37,38,39]) (.seq (.ops [O 40 (.fad 0 t4),oF 41 1 40,oT 42 2 11,O 43 (.call (.f ya6) [t41,t42]),O 44 (.un .not t43)] [⟨1,(.agg [.d,.d]),0⟩] [] [11,40,41,42,43]) (.cond t44 (.seq (oQ [O 6 (.mv (I 0)),O 7 (.mv (I 2))] [2,4,8,34,35,36,44]) .ret) .skip)))) (oQ [O 45 (.bin .add t36 (I 1)),M 36 45] [44,45]))))
def ylZ:TCode:=(.seq (oQ [oX 49 .lss 48 47] []) (.seq (.cond t49 .skip (.exit 2)) (.seq (.block 3 (.seq (.ops [M 50 48,O 51 (.iad 7 t46 t48),oT 52 7 51,O 13 (.allocL (.agg [(.int .i64 (0)),(.int .i64 (0)),(.int .i64 (0)),(.int .i64 (0)),(.int .i64 (0)),(.int .i64 (0)),(.bool false)])),M 12 50,⟨none,(.store 7 t13 t52),none⟩] [⟨1,(.agg [.i .i64,.i .i64,.i .i64,.i .i64,.i .i64,.i .i64,.b]),0⟩,⟨2,(.agg [.i .i64,.i .i64,.i .i64,.i .i64,.i .i64,.i .i64,.b]),0⟩] [] [49,50,51,52]) (.seq (.ops [O 53 (.fad 0 t4),oF 54 1 53,O 55 (.fad 0 t13),oT 56 2 55,O 57 (.call (.f yaG) [t54,t56]),O 58 (.fad 0 t4),oF 59 1 58,O 60 (.fad 2 t13),oT 61 2 60,O 62 (.call (.f yaG) [t59,t61]),M 14 57,M 15 62] [⟨1,(.agg [.d,.d]),0⟩,⟨3,(.agg [.i .i64,.i .i64,.i .i64,.i .i64,.i .i64,.i .i64,.b]),0⟩,⟨6,(.agg [.d,.d]),0⟩,⟨8,(.agg [.i .i64,.i .i64,.i .i64,.i .i64,.i .i64,.i .i64,.b]),0⟩] [(0,2),(1,2),(0,3),(1,3),(0,5),(1,5),(2,5),(3,5),(4,5),(0,6),(1,6),(2,6),(3,6),(4,6),(0,7),(1,7),(2,7),(3,7),(4,7),(5,7),(6,7),(0,8),(1,8),(2,8),(3,8),(4,8),(5,8),(6,8)] [53,54,55,56,57,58,59,60,61,62]) (.seq (.ops [O 64 (.fad 1 t4),oF 65 1 64,M 66 14,O 67 (.iad 2 t65 t66),oT 68 2 67,O 69 (.fad 4 t13),oT 70 2 69,O 71 (.call (.f ycR) [t68,t70]),M 63 71,O 72 (.ext t63 0),O 73 (.ext t63 1),O 16 (.allocL (.agg [(.int .i64 (0)),(.int .i64 (0))])),⟨none,(.store 2 t16 t72),none⟩,M 17 73] [⟨1,(.agg [.d,.d]),0⟩,⟨3,(.agg [.i .i64,.i .i64]),0⟩,⟨4,(.agg [.i .i64,.i .i64]),0⟩,⟨6,(.agg [.i .i64,.i .i64,.i .i64,.i .i64,.i .i64,.i .i64,.b]),0⟩] [(0,2),(1,2),(0,5),(1,5),(2,5),(3,5),(4,5),(0,6),(1,6),(2,6),(3,6),(4,6),(9,10),(0,11),(1,11),(2,11),(3,11),(4,11),(5,11),(6,11),(7,11),(8,11),(9,11),(10,11),(10,12)] [63,64,65,66,67,68,69,70,71,72,73]) (.seq (.seq (oQ [M 74 17,O 75 (.bin .neq t74 (I 0))] [74]) (.cond t75 (.seq (oQ [M 76 17,O 6 (.mv (I 0)),M 7 76] [2,4,12,13,14,15,16,17,46,47,48,75,76]) .ret) .skip)) (.seq (.ops [oT 77 2 16,O 78 (.fad 1 t4),oF 79 1 78,M 80 15,O 81 (.iad 2 t79 t80),oT 82 2 81,O 83 (.eqA false 2 [(0,(some .i64)),(1,(some .i64))] t77 t82),M 18 83] [⟨2,(.agg [.d,.d]),0⟩,⟨4,(.agg [.i .i64,.i .i64]),0⟩,⟨5,(.agg [.i .i64,.i .i64]),0⟩] [(0,1),(0,2),(0,3),(1,3),(2,3),(0,4),(0,5)] [16,17,75,77,78,79,80,81,82,83]) (.seq (.seq (.ops [M 84 18,M 85 84,⟨some 86,(.fad 6 t13),some (85,true)⟩,⟨some 87,(.load false 1 t86),some (85,true)⟩,O 88 (.pick t85 t87 (.c (.bool false)))] [⟨3,(.agg [.i .i64,.i .i64,.i .i64,.i .i64,.i .i64,.i .i64,.b]),0⟩] [] [84,85,86,87]) (.cond t88 (.ops [O 89 (.fad 4 t13),O 90 (.fad 0 t89),oF 91 1 90,O 92 (.bin .eql t91 (I 0)),M 93 92,⟨some 94,(.mv t14),some (93,true)⟩,⟨some 95,(.mv t15),some (93,true)⟩,⟨some 96,(.bin .eql t94 t95),some (93,true)⟩,O 97 (.pick t93 t96 (.c (.bool false))),M 98 97,⟨some 99,(.fad 4 t13),some (98,false)⟩,⟨some 100,(.fad 0 t99),some (98,false)⟩,⟨some 101,(.load false 1 t100),some (98,false)⟩,⟨some 102,(.bin .gtr t101 (I 0)),some (98,false)⟩,⟨some 103,(.mv t102),some (98,false)⟩,⟨some 104,(.fad 1 t4),some (103,true)⟩,⟨some 105,(.load false 1 t104),some (103,true)⟩,⟨some 106,(.mv t15),some (103,true)⟩,⟨some 107,(.bin .sub t106 (I 1)),some (103,true)⟩,⟨some 108,(.iad 2 t105 t107),some (103,true)⟩,⟨some 109,(.load true 2 t108),some (103,true)⟩,⟨some 110,(.fad 1 t4),some (103,true)⟩,⟨some 111,(.load false 1 t110),some (103,true)⟩,⟨some 112,(.mv t15),some (103,true)⟩,⟨some 113,(.iad 2 t111 t112),some (103,true)⟩,⟨some 114,(.load true 2 t113),some (103,true)⟩,⟨some 115,(.eqA true 2 [(0,(some .i64)),(1,(some .i64))] t109 t114),some (103,true)⟩,⟨some 116,(.pick t103 t115 (.c (.bool false))),some (98,false)⟩,O 117 (.pick t98 (.c (.bool true)) t116),M 18 117] [⟨2,(.agg [.i .i64,.i .i64,.i .i64,.i .i64,.i .i64,.i .i64,.b]),0⟩,⟨12,(.agg [.i .i64,.i .i64,.i .i64,.i .i64,.i .i64,.i .i64,.b]),0⟩,⟨16,(.agg [.d,.d]),0⟩,⟨19,(.agg [.i .i64,.i .i64]),0⟩,⟨20,(.agg [.i .i64,.i .i64]),0⟩,⟨22,(.agg [.d,.d]),0⟩,⟨24,(.agg [.i .i64,.i .i64]),0⟩,⟨25,(.agg [.i .i64,.i .i64]),0⟩] [(5,6),(15,17),(16,17),(15,18),(16,18),(15,21),(16,21),(17,21),(18,21),(19,21),(20,21),(15,22),(16,22),(17,22),(18,22),(19,22),(20,22),(15,23),(16,23),(17,23),(18,23),(19,23),(20,23),(21,23),(22,23),(15,24),(16,24),(17,24),(18,24),(19,24),(20,24),(15,25),(16,25),(17,25),(18,25),(19,25),(20,25)] [13,14,15,88,89,90,91,92,93,94,95,96,97,98,99,100,101,102,103,104,105,106,107,108,109,110,111,112,113,114,115,116,117]) .skip)) (.seq (oQ [M 118 18,O 119 (.un .not t118)] [13,14,15,18,88,118]) (.cond t119 (.seq (oQ [M 120 12,M 6 120,O 7 (.mv (I 0))] [2,4,12,46,47,48,119,120]) .ret) .skip))))))))) (oQ [O 121 (.bin .add t48 (I 1)),M 48 121] [12,119,121]))))
def yBe:TFn:=⟨3,[.tmp 6,.tmp 7],(.seq (oQ [O 4 (.boxL t1),O 6 (.mv (I 0)),O 7 (.mv (I 0))] [1,6,7]) (.seq (oQ [M 20 0,M 21 2,O 22 (.call (.f ycM) [t20,t21]),M 19 22,O 23 (.ext t19 0),O 24 (.ext t19 1),M 8 23,M 9 24] [19,20,21,22,23,24]) (.seq (.seq (oQ [M 25 9,O 26 (.bin .neq t25 (I 0))] [25]) (.cond t26 (.seq (oQ [M 27 9,O 6 (.mv (I 0)),M 7 27] [0,2,4,8,9,26,27]) .ret) .skip)) (.seq (.seq (oQ [M 28 0,oT 29 2 4,O 30 (.call (.f yhn) [t28,t29]),O 31 (.un .not t30)] [9,26,28,29,30]) (.cond t31 (.seq (oQ [O 6 (.mv (I 0)),O 7 (.mv (I 8))] [0,2,4,8,31]) .ret) .skip)) (.seq (.seq (oQ [M 32 0,M 33 8,O 34 (.call (.f ybQ) [t32,t33]),O 35 (.len t34),O 36 (.mv (I 0))] [0,31,32,33]) (.block 0 (.loop 82124700 ylY))) (.seq (.seq (oQ [M 46 8,O 47 (.len t46),O 48 (.mv (I 0))] [8,34,35,36,37]) (.block 2 (.loop 82124701 ylZ))) (.seq (oQ [M 122 2,O 123 (.len t122),M 6 123,O 7 (.mv (I 0))] [2,4,46,47,48,49,122,123]) .ret)))))))⟩
def yjv:TCode:=(.seq (.seq (oQ [M 32 6,M 33 1,O 34 (.len t33),oX 35 .lss 32 34] [32,33,34]) (.cond t35 .skip (.exit 0))) (.seq (.block 1 (.seq (.ops [M 38 1,M 39 6,O 40 (.iad 8 t38 t39),oT 41 8 40,O 7 (.allocL (.agg [(.int .i64 (0)),(.int .u8 (0)),(.int .i64 (0)),(.int .i64 (0)),(.int .i64 (0)),(.int .i64 (0)),(.int .i64 (0)),(.int .i64 (0))])),⟨none,(.store 8 t7 t41),none⟩] [⟨2,(.agg [.i .i64,.i .u8,.i .i64,.i .i64,.i .i64,.i .i64,.i .i64,.i .i64]),0⟩,⟨3,(.agg [.i .i64,.i .u8,.i .i64,.i .i64,.i .i64,.i .i64,.i .i64,.i .i64]),0⟩] [] [35,38,39,40,41]) (.seq (oQ [O 8 (.mv (I 8))] []) (.seq (.seq (.ops [O 42 (.fad 1 t7),oF 43 1 42,O 44 (.bin .eql t43 (.c (.int .u8 (1))))] [⟨1,(.agg [.i .i64,.i .u8,.i .i64,.i .i64,.i .i64,.i .i64,.i .i64,.i .i64]),0⟩] [] [42,43]) (.cond t44 (.ops [oT 46 3 2,O 47 (.fad 2 t7),oT 48 2 47,O 49 (.fad 4 t7),oT 50 2 49,O 51 (.call (.f yij) [t46,t48,t50]),M 45 51,O 52 (.ext t45 0),O 53 (.ext t45 1),O 54 (.fad 6 t7),⟨none,(.store 2 t54 t52),none⟩,M 8 53] [⟨2,(.agg [.i .i64,.i .u8,.i .i64,.i .i64,.i .i64,.i .i64,.i .i64,.i .i64]),0⟩,⟨4,(.agg [.i .i64,.i .u8,.i .i64,.i .i64,.i .i64,.i .i64,.i .i64,.i .i64]),0⟩,⟨10,(.agg [.i .i64,.i .u8,.i .i64,.i .i64,.i .i64,.i .i64,.i .i64,.i .i64]),0⟩] [] [44,45,46,47,48,49,50,51,52,53,54]) .skip)) (.seq (.seq (.ops [O 55 (.fad 1 t7),oF 56 1 55,O 57 (.bin .eql t56 (.c (.int .u8 (2))))] [⟨1,(.agg [.i .i64,.i .u8,.i .i64,.i .i64,.i .i64,.i .i64,.i .i64,.i .i64]),0⟩] [] [44,55,56]) (.cond t57 (.ops [oT 59 3 2,O 60 (.fad 2 t7),oT 61 2 60,O 62 (.fad 4 t7),oT 63 2 62,O 64 (.call (.f ykk) [t59,t61,t63]),M 58 64,O 65 (.ext t58 0),O 66 (.ext t58 1),O 67 (.fad 6 t7),⟨none,(.store 2 t67 t65),none⟩,M 8 66] [⟨2,(.agg [.i .i64,.i .u8,.i .i64,.i .i64,.i .i64,.i .i64,.i .i64,.i .i64]),0⟩,⟨4,(.agg [.i .i64,.i .u8,.i .i64,.i .i64,.i .i64,.i .i64,.i .i64,.i .i64]),0⟩,⟨10,(.agg [.i .i64,.i .u8,.i .i64,.i .i64,.i .i64,.i .i64,.i .i64,.i .i64]),0⟩] [] [57,58,59,60,61,62,63,64,65,66,67]) .skip)) (.seq (.ops [M 68 8,O 69 (.bin .eql t68 (I 0)),M 70 69,⟨some 71,(.load true 3 t2),some (70,true)⟩,⟨some 72,(.buildD 3 (.agg [(.int .i64 (0)),(.data []),(.data [])]) 1 [(0,t71)]),some (70,true)⟩,⟨some 73,(.fad 1 t7),some (70,true)⟩,⟨some 74,(.load false 1 t73),some (70,true)⟩,⟨some 75,(.fad 2 t7),some (70,true)⟩,⟨some 76,(.load true 2 t75),some (70,true)⟩,⟨some 77,(.fad 4 t7),some (70,true)⟩,⟨some 78,(.load true 2 t77),some (70,true)⟩,⟨some 79,(.fad 6 t7),some (70,true)⟩,⟨some 80,(.load true 2 t79),some (70,true)⟩,⟨some 81,(.build [(.int .i64 (0)),(.int .u8 (0)),(.int .i64 (0)),(.int .i64 (0)),(.int .i64 (0)),(.int .i64 (0)),(.int .i64 (0)),(.int .i64 (0))] [(1,1,t74),(2,2,t76),(4,2,t78),(6,2,t80)]),some (70,true)⟩,⟨some 82,(.call (.f ykn) [t72,t81]),some (70,true)⟩,O 83 (.pick t70 t82 (.c (.bool false)))] [⟨6,(.agg [.i .i64,.i .u8,.i .i64,.i .i64,.i .i64,.i .i64,.i .i64,.i .i64]),0⟩,⟨8,(.agg [.i .i64,.i .u8,.i .i64,.i .i64,.i .i64,.i .i64,.i .i64,.i .i64]),0⟩,⟨10,(.agg [.i .i64,.i .u8,.i .i64,.i .i64,.i .i64,.i .i64,.i .i64,.i .i64]),0⟩,⟨12,(.agg [.i .i64,.i .u8,.i .i64,.i .i64,.i .i64,.i .i64,.i .i64,.i .i64]),0⟩] [] [8,57,68,69,70,71,72,73,74,75,76,77,78,79,80,81,82]) (.cond t83 (oQ [M 84 5,oT 85 8 7,O 86 (.buildD 8 (.agg [(.int .i64 (0)),(.int .u8 (0)),(.int .i64 (0)),(.int .i64 (0)),(.int .i64 (0)),(.int .i64 (0)),(.int .i64 (0)),(.int .i64 (0))]) 1 [(0,t85)]),O 87 (.app true 8 64 t84 t86),M 5 87] [7,83,84,85,86,87]) .skip))))))) (oQ [M 36 6,O 37 (.bin .add t36 (I 1)),M 6 37] [7,36,37,83])))
def t136:Opd:=.t 136
def t137:Opd:=.t 137
def ywy:TFn:=⟨2,[.tmp 4],(.seq (oQ [O 2 (.boxL t0),O 4 (.mv (.c (.bool false)))] [0,4]) (.seq (.seq (oQ [oT 15 3 2,O 16 (.call (.f yki) [t15]),M 17 16,⟨some 18,(.load true 3 t2),some (17,false)⟩,⟨some 19,(.call (.f ydj) [t18]),some (17,false)⟩,⟨some 20,(.bin .neq t19 (I 0)),some (17,false)⟩,O 21 (.pick t17 (.c (.bool true)) t20),M 22 21,⟨some 23,(.mv t1),some (22,false)⟩,⟨some 24,(.call (.f ykj) [t23]),some (22,false)⟩,O 25 (.pick t22 (.c (.bool true)) t24),M 26 25,⟨some 27,(.mv t1),some (26,false)⟩,⟨some 28,(.len t27),some (26,false)⟩,⟨some 29,(.bin .gtr t28 (I 14)),some (26,false)⟩,O 30 (.pick t26 (.c (.bool true)) t29)] [15,16,17,18,19,20,21,22,23,24,25,26,27,28,29]) (.cond t30 (.seq (oQ [O 31 (.call (.f ygk) []),M 4 31] [1,2,30,31]) .ret) .skip)) (.seq (oQ [O 5 (.mv (.c .nils))] [30]) (.seq (.seq (oQ [O 6 (.mv (I 0))] []) (.block 0 (.loop 10806100 yjv))) (.seq (.ops [O 89 (.fad 0 t2),oF 90 1 89,M 91 5,O 92 (.call (.f ydh) [t90,t91]),M 88 92,O 93 (.ext t88 0),O 94 (.ext t88 1),O 9 (.allocL (.agg [.nils,.nils])),⟨none,(.store 2 t9 t93),none⟩,M 10 94] [⟨1,(.agg [.i .i64,.d,.d]),0⟩] [] [1,6,35,88,89,90,91,92,93,94]) (.seq (.ops [O 96 (.fad 0 t2),oF 97 1 96,M 98 5,O 99 (.call (.f yeI) [t97,t98]),M 95 99,O 100 (.ext t95 0),O 101 (.ext t95 1),M 11 100,M 12 101] [⟨1,(.agg [.i .i64,.d,.d]),0⟩] [] [95,96,97,98,99,100,101]) (.seq (.seq (oQ [M 102 10,O 103 (.bin .eql t102 (I 16))] [102]) (.cond t103 (.seq (oQ [M 104 12,M 105 10,oX 106 .eql 104 105,M 107 106,⟨some 108,(.call (.f ygk) []),some (107,true)⟩,O 109 (.pick t107 t108 (.c (.bool false))),M 4 109] [2,5,9,10,11,12,103,104,105,106,107,108,109]) .ret) .skip)) (.seq (.ops [O 111 (.fad 0 t2),oF 112 1 111,oT 113 2 9,M 114 5,O 115 (.call (.f yim) [t112,t113,t114]),M 110 115,O 116 (.ext t110 0),O 117 (.ext t110 1),M 13 116,M 14 117] [⟨1,(.agg [.i .i64,.d,.d]),0⟩] [] [2,9,103,110,111,112,113,114,115,116,117]) (.seq (oQ [M 118 10,O 119 (.bin .eql t118 (I 0)),M 120 119,⟨some 121,(.mv t12),some (120,true)⟩,⟨some 122,(.bin .eql t121 (I 0)),some (120,true)⟩,O 123 (.pick t120 t122 (.c (.bool false))),M 124 123,⟨some 125,(.mv t11),some (124,true)⟩,⟨some 126,(.mv t5),some (124,true)⟩,⟨some 127,(.len t126),some (124,true)⟩,⟨some 128,(.bin .eql t125 t127),some (124,true)⟩,O 129 (.pick t124 t128 (.c (.bool false))),M 130 129,⟨some 131,(.mv t14),some (130,true)⟩,⟨some 132,(.bin .eql t131 (I 0)),some (130,true)⟩,O 133 (.pick t130 t132 (.c (.bool false))),M 134 133,⟨some 135,(.mv t13),some (134,true)⟩,⟨some 136,(.mv t5),some (134,true)⟩,⟨some 137,(.len t136),some (134,true)⟩,⟨some 138,(.bin .eql t135 t137),some (134,true)⟩,O 139 (.pick t134 t138 (.c (.bool false))),M 140 139,⟨some 141,(.call (.f ygk) []),some (140,true)⟩,O 142 (.pick t140 t141 (.c (.bool false))),M 4 142] [5,10,11,12,13,14,118,119,120,121,122,123,124,125,126,127,128,129,130,131,132,133,134,135,136,137,138,139,140,141,142]) .ret)))))))))⟩
def tab:List (Nat×AFn):=[(yki,yDb.fn),(ydj,yDc.fn),(ykj,yDd.fn),(ybY,yJf.fn),(ygh,yDe.fn),(ygi,yFl.fn),(yaX,yA5.fn),(yct,yDf.fn),(yaZ,yy7.fn),(yd3,ysr.fn),(ybr,yy8.fn),(ydu,ytv.fn),(ydM,yq9.fn),(ydZ,yHN.fn),(yc1,yss.fn),(ycu,ypP.fn),(yih,yA6.fn),(ygj,yDg.fn),(yaD,yy9.fn),(yck,yza.fn),(yfA,ywu.fn),(ycM,yxH.fn),(yeH,yzb.fn),(yu8,yM3.fn),(ylm,yHO.fn),(yA4,yM8.fn),(ydg,ypK.fn),(ybq,yte.fn),(yaL,ytw.fn),(ycX,yiX.fn),(ybQ,yu9.fn),(yaU,yd5.fn),(yaC,ymG.fn),(ycZ,yCJ.fn),(yci,ypx.fn),(ycn,ywv.fn),(ycN,yxI.fn),(yii,yA7.fn),(ydh,yzc.fn),(yeI,yzd.fn),(yeT,yxJ.fn),(yji,yFp.fn),(ygk,yDh.fn),(yfB,yww.fn),(yej,ywx.fn),(yeu,yA8.fn),(ybn,yA9.fn),(yca,yDi.fn),(ydP,yBa.fn),(yd4,yst.fn),(yjj,yHP.fn),(ynC,yHQ.fn),(ycR,yDj.fn),(yev,yDk.fn),(ydk,yDl.fn),(yij,yBb.fn),(yhX,yDm.fn),(yeJ,yrJ.fn),(ypO,yDn.fn),(ykk,yDo.fn),(ykl,yDp.fn),(ycP,yHR.fn),(yeU,yHS.fn),(ydl,yDq.fn),(yfC,yJg.fn),(ycv,yDr.fn),(ygl,yFq.fn),(ybZ,yFr.fn),(yfe,yDs.fn),(ygm,yDt.fn),(yik,yBc.fn),(ycs,yFs.fn),(ynD,yHT.fn),(yhI,yFt.fn),(yhY,yDu.fn),(yhZ,yDv.fn),(yhJ,yFu.fn),(ygI,yHU.fn),(yjk,yHV.fn),(yjl,yHW.fn),(ygn,yDw.fn),(ykm,yDx.fn),(ynE,yHX.fn),(yly,yFv.fn),(yil,yBd.fn),(ykn,yDy.fn),(yhn,yze.fn),(yaG,yko.fn),(ya6,yin.fn),(yim,yBe.fn),(ykD,ywy.fn)]
def quiL:List Nat:=[yki,ydj,ykj,ybY,ygh,ygi,yaX,yct,yaZ,yd3,ybr,ydu,ydM,ydZ,yc1,ycu,yih,ygj,yaD,yck,yfA,ycM,yeH,yu8,ylm,yA4,ybQ,yci,ycn,ycN,yii,ydh,yeI,yeT,yji,ygk,yfB,yej,yeu,ybn,yca,ydP,yhV,yhW,yd4,yjj,ynC,ycR,yev,ydk,yij,yhX,ykk,ykl,ycP,yeU,ydl,yfC,ycv,ygl,ybZ,yfe,ygm,yik,ycs,ynD,yhI,yhY,yhZ,yhJ,ygI,yjk,yjl,ygn,ykm,ynE,yly,yil,ykn,yhn,yaG,ya6,yim,ykD,(ycn+1000000)]
def cloL:Clones:=[]
def gloL:List (Nat×PV):=[]
def E (ef:List (Nat×EffF)):Env:=baseS yhV yhW tab quiL cloL gloL ef
def E0C:Env:=baseC yhV yhW tab quiL cloL gloL
abbrev ywz:Srts:=rtSrt yaL yaD
def effNums:List Nat:=[yaL,ycZ]
abbrev EG (e:List (Nat×EffF)):Prop:=EffG E effNums e
theorem ybE:EG []:=⟨fun _ _ _ _ h=>(by cases h),fun _ _ _ _=>rfl⟩
def ef0:List (Nat×EffF):=[(yaL,srtEff ywz.s ywz.srt),(ycZ,clnDEff ycZ 1 8)]
theorem effG0:EG ef0:=⟨yHK (by kernel_rfl),fun n h xs H=>yxF (l:=ef0) h⟩
abbrev yva:Type:=Int→Int→Int→(Int→Int→Prop)→Prop
abbrev yvb:Type:=Int→Int→Int→(Int→Int→Prop)→Prop
theorem yFw (e:List (Nat×EffF)) (_:EG e):OkF (E e) yso yhV:=yHL
theorem yFx (e:List (Nat×EffF)) (_:EG e):OkF (E e) ysq yhW:=yHM (by kernel_rfl)
end Go.Pf.Vc
namespace Go.Pf.Vc
open Go Go.Pf
set_option maxRecDepth 100000
abbrev ybf:Type:=Int→(Int→Prop)→Prop
def ym9 (p0:Int) (K:Int→Prop):Prop :=
 (cbr (decide (p0<(0:Int)))
 (K (IntKind.u64.wrap ((0:Int)-(IntKind.u64.wrap p0))))
 (K (IntKind.u64.wrap p0)))
def ybR (p0:Int) (K:Int→Prop):Prop:=ym9 p0 K
def yeK (w:ybf) (as:Ls) (K:PV→Prop):Prop :=
 match as with
 | [(.int .i64 p0)]=>w p0 (fun r0=>K (.int .u64 r0))
 | _=>False
def yrK (as:Ls) (K:PV→Prop):Prop:=yeK ybR as K
def yzf:LP:=fun _ _ _ _ =>
 False
def yrL (e:List (Nat×EffF)):SE:=⟨(E e),lookS [],lookI [],yzf⟩
theorem yxK (e:List (Nat×EffF)) (he:EG e):SEOk (yrL e):=yai trivial trivial he.ok
theorem yzg (e:List (Nat×EffF)) ( p0 K):WP (yrL e) 6 yA5 [(.int .i64 p0)] K=ym9 p0 (fun r0=>K (.int .u64 r0)):=by kernel_rfl
theorem yho (e:List (Nat×EffF)) (he:EG e):OkF (E e) yrK yaX:=by
 intro as K h
 unfold yrK yeK at h
 split at h
 · exact WP_ok (yxK e he) (yah (by kernel_rfl)) (by kernel_rfl) (by kernel_rfl) (fun _=>yac (by kernel_rfl) _) (he.num _ (by kernel_rfl)) ((yzg ..).mpr h)
 · exact h.elim
abbrev ycw:Type:=Int→Int→(Int→Prop)→Prop
def ydJ (x0:Int→Int→Bool→Prop):Nat→Int→Int→Prop
 | 0,_,_=>False
 | n+1,i0,i1 =>
 (cbr (decide (i1>(0:Int)))
 (asr (!(decide (i1=(0:Int))))
 (ydJ x0 n i1 (Int.tmod i0 i1)))
 (x0 i0 i1 false))
def yof (p0 p1:Int) (K:Int→Prop):Prop :=
 (∃ n:Nat,ydJ
 (fun yi0 _ _=>(K yi0))
 n p0 p1)
def ybv (p0 p1:Int) (K:Int→Prop):Prop:=yof p0 p1 K
def ygJ (w:ycw) (as:Ls) (K:PV→Prop):Prop :=
 match as with
 | [(.int .u64 p0),(.int .u64 p1)]=>w p0 p1 (fun r0=>K (.int .u64 r0))
 | _=>False
def ytx (as:Ls) (K:PV→Prop):Prop:=ygJ ybv as K
def yfK (F:Frm) (H:Hp) (A0:Int→Int→Prop):Prop :=
 match F,H with
 | [(0,.v (.int .u64 i0)),(1,.v (.int .u64 i1))],[]=>(A0 i0 i1)
 | _,_=>False
def ykE (Q:Ex→Frm→Hp→Prop):Int→Int→Bool→Prop:=(fun i0 i1 b2=>Q (.exit 0) [(0,.v (.int .u64 i0)),(1,.v (.int .u64 i1)),(6,.v (.bool b2))] [])
def yj2 (Q:Ex→Frm→Hp→Prop) (n:Nat) (F:Frm) (H:Hp):Prop:=yfK F H (fun i0 i1=>ydJ (ykE Q) n i0 i1)
def ykZ:LP:=fun id F H Q =>
 bif Nat.beq id 32725300 then yfK F H (fun i0 i1=>∃ n:Nat,ydJ (ykE Q) n i0 i1) else
 False
def yog (e:List (Nat×EffF)):SE:=⟨(E e),lookS [],lookI [],ykZ⟩
theorem yrM (e:List (Nat×EffF)) (he:EG e):SEOk (yog e):=yai trivial trivial he.ok
theorem ysu (e:List (Nat×EffF)) ( Q n i0 i1):WC (E e) (callW (yog e) 5) (ykZ) ylA [(0,.v (.int .u64 i0)),(1,.v (.int .u64 i1))] [] (fun x F' H'=>match x with | .norm=>yj2 Q n F' H' | .exit i=>Q (.exit i) F' H' | .ret=>Q .ret F' H')=ydJ (ykE Q) (n+1) i0 i1:=by kernel_rfl
theorem ywA (e:List (Nat×EffF)) (_:EG e):LpOk (E e) (ykZ) ylA:=(yah (by kernel_rfl))
theorem yvc (e:List (Nat×EffF)) (he:EG e):∀ F H Q,ykZ 32725300 F H Q→LoopT (E e) ylA F H Q:=by
 intro F H Q h
 have go:=LoopT.intro (yaF (yrM e he) 5) (ywA e he) (yj2 Q) (by
   intro F H h
   unfold yj2 yfK at h
   split at h
   · exact h
   · exact h) (by
   intro n F H h
   unfold yj2 yfK at h
   split at h
   · exact (ysu ..).mpr h
   · exact h.elim)
 have h:yfK F H _:=h
 unfold yfK at h
 split at h
 · obtain ⟨n,h⟩:=h;exact go n _ _ h
 · exact h.elim
theorem yBf (e:List (Nat×EffF)) ( p0 p1 K):WP (yog e) 6 yDf [(.int .u64 p0),(.int .u64 p1)] K=yof p0 p1 (fun r0=>K (.int .u64 r0)):=by kernel_rfl
theorem yk0 (e:List (Nat×EffF)) (he:EG e):OkF (E e) ytx yct:=by
 intro as K h
 unfold ytx ygJ at h
 split at h
 · exact WP_ok (yrM e he) (ybe (l:=[(32725300,ylA)]) ⟨yvc e he,trivial⟩ (by kernel_rfl)) (by kernel_rfl) (by kernel_rfl) (fun _=>yac (by kernel_rfl) _) (he.num _ (by kernel_rfl)) ((yBf ..).mpr h)
 · exact h.elim
abbrev yaA:Type:=Int→Int→(Int→Prop)→Prop
def yl1 (a0:ybf) (a1:ycw) (p0 p1:Int) (K:Int→Prop):Prop :=
 (cbr (decide (p1<(1:Int)))
 (K (8:Int))
 (a0 p0 (fun yi0 =>
 (cbr (decide ((if (IntKind.u64.wrap p1)>yi0 then (IntKind.u64.wrap p1) else yi0)>(1000000000000000000:Int)))
 (K (8:Int))
 (a0 p0 (fun yi1 =>
 (a1 yi1 (IntKind.u64.wrap p1) (fun yi2 =>
 (cbr (decide (yi2>(1:Int)))
 (K (8:Int))
 (K (0:Int)))))))))))
def yal (p0 p1:Int) (K:Int→Prop):Prop:=yl1 ybR ybv p0 p1 K
def ydm (w:yaA) (as:Ls) (K:PV→Prop):Prop :=
 match as with
 | [(.agg [(.int .i64 p0),(.int .i64 p1)])]=>w p0 p1 (fun r0=>K (.int .i64 r0))
 | _=>False
def ypQ (as:Ls) (K:PV→Prop):Prop:=ydm yal as K
def yxL (_:ybf) (_:ycw):LP:=fun _ _ _ _ =>
 False
def ypR (e:List (Nat×EffF)) (a0:ybf) (a1:ycw):SE:=⟨(E e),lookS [(yaX,yeK a0),(yct,ygJ a1)],lookI [],yxL a0 a1⟩
theorem ywB (e:List (Nat×EffF)) (he:EG e):SEOk (ypR e ybR ybv):=yai ⟨(yho e he),(yk0 e he),trivial⟩ trivial he.ok
theorem yxM (e:List (Nat×EffF)) (a0 a1 p0 p1 K):WP (ypR e a0 a1) 6 yy7 [(.agg [(.int .i64 p0),(.int .i64 p1)])] K=yl1 a0 a1 p0 p1 (fun r0=>K (.int .i64 r0)):=by kernel_rfl
theorem yd6 (e:List (Nat×EffF)) (he:EG e):OkF (E e) ypQ yaZ:=by
 intro as K h
 unfold ypQ ydm at h
 split at h
 · exact WP_ok (ywB e he) (yah (by kernel_rfl)) (by kernel_rfl) (by kernel_rfl) (fun _=>yac (by kernel_rfl) _) (he.num _ (by kernel_rfl)) ((yxM ..).mpr h)
 · exact h.elim
abbrev yfi:Type:=Ls→(Int→Prop)→Prop
def ya7 (x0:Int→Prop) (x1:Int→Ls→Int→Int→Bool→Prop):Nat→Int→Ls→Int→Int→Prop
 | 0,_,_,_,_=>False
 | n+1,i0,l1,i2,i3 =>
 (cbr (decide (i3<i2))
 (asr (decide ((0:Int)≤i3))
 (asr (decide (i3<(((List.length l1):Nat):Int)))
 (asr (conf (.one (.i .i64)) (List.getD l1 (i3.toNat) .nils))
 (cbr ((intOfV (List.getD l1 (i3.toNat) .nils)) != i0)
 (x0 (intOfV (List.getD l1 (i3.toNat) .nils)))
 (ya7 x0 x1 n i0 l1 i2 (IntKind.i64.wrap (i3+(1:Int))))))))
 (x1 i0 l1 i2 i3 false))
def yg1 (p0:Ls) (K:Int→Prop):Prop :=
 (∃ n:Nat,ya7
 (fun yi0=>(K yi0))
 (fun yi1 _ _ _ _=>(K yi1))
 n (0:Int) p0 (((List.length p0):Nat):Int) (0:Int))
def yd7 (p0:Ls) (K:Int→Prop):Prop:=yg1 p0 K
def yg2 (w:yfi) (as:Ls) (K:PV→Prop):Prop :=
 match as with
 | [(.data p0)]=>w p0 (fun r0=>K (.int .i64 r0))
 | _=>False
def ykT (as:Ls) (K:PV→Prop):Prop:=yg2 yd7 as K
def ycx (F:Frm) (H:Hp) (A0:Int→Ls→Int→Int→Prop):Prop :=
 match F,H with
 | [(3,.v (.int .i64 i0)),(6,.v (.data l1)),(7,.v (.int .i64 i2)),(8,.v (.int .i64 i3))],[]=>(A0 i0 l1 i2 i3)
 | _,_=>False
def yfj (Q:Ex→Frm→Hp→Prop):Int→Prop:=(fun i0=>Q .ret [(2,.v (.int .i64 i0))] [])
def yfk (Q:Ex→Frm→Hp→Prop):Int→Ls→Int→Int→Bool→Prop:=(fun i0 l1 i2 i3 b4=>Q (.exit 0) [(3,.v (.int .i64 i0)),(6,.v (.data l1)),(7,.v (.int .i64 i2)),(8,.v (.int .i64 i3)),(9,.v (.bool b4))] [])
def yew (Q:Ex→Frm→Hp→Prop) (n:Nat) (F:Frm) (H:Hp):Prop:=ycx F H (fun i0 l1 i2 i3=>ya7 (yfj Q) (yfk Q) n i0 l1 i2 i3)
def yeP:LP:=fun id F H Q =>
 bif Nat.beq id 38508400 then ycx F H (fun i0 l1 i2 i3=>∃ n:Nat,ya7 (yfj Q) (yfk Q) n i0 l1 i2 i3) else
 False
def yg3 (e:List (Nat×EffF)):SE:=⟨(E e),lookS [],lookI [],yeP⟩
theorem ykp (e:List (Nat×EffF)) (he:EG e):SEOk (yg3 e):=yai trivial trivial he.ok
theorem ymy (e:List (Nat×EffF)) ( Q n i0 l1 i2 i3):WC (E e) (callW (yg3 e) 5) (yeP) ylB [(3,.v (.int .i64 i0)),(6,.v (.data l1)),(7,.v (.int .i64 i2)),(8,.v (.int .i64 i3))] [] (fun x F' H'=>match x with | .norm=>yew Q n F' H' | .exit i=>Q (.exit i) F' H' | .ret=>Q .ret F' H')=ya7 (yfj Q) (yfk Q) (n+1) i0 l1 i2 i3:=by kernel_rfl
theorem yoh (e:List (Nat×EffF)) (_:EG e):LpOk (E e) (yeP) ylB:=(yah (by kernel_rfl))
theorem ynF (e:List (Nat×EffF)) (he:EG e):∀ F H Q,yeP 38508400 F H Q→LoopT (E e) ylB F H Q:=by
 intro F H Q h
 have go:=LoopT.intro (yaF (ykp e he) 5) (yoh e he) (yew Q) (by
   intro F H h
   unfold yew ycx at h
   split at h
   · exact h
   · exact h) (by
   intro n F H h
   unfold yew ycx at h
   split at h
   · exact (ymy ..).mpr h
   · exact h.elim)
 have h:ycx F H _:=h
 unfold ycx at h
 split at h
 · obtain ⟨n,h⟩:=h;exact go n _ _ h
 · exact h.elim
theorem yra (e:List (Nat×EffF)) ( p0 K):WP (yg3 e) 6 ysr [(.data p0)] K=yg1 p0 (fun r0=>K (.int .i64 r0)):=by kernel_rfl
theorem yrb (e:List (Nat×EffF)) (he:EG e):OkF (E e) ykT yd3:=by
 intro as K h
 unfold ykT yg2 at h
 split at h
 · exact WP_ok (ykp e he) (ybe (l:=[(38508400,ylB)]) ⟨ynF e he,trivial⟩ (by kernel_rfl)) (by kernel_rfl) (by kernel_rfl) (fun _=>yac (by kernel_rfl) _) (he.num _ (by kernel_rfl)) ((yra ..).mpr h)
 · exact h.elim
abbrev ya0:Type:=Int→Int→Int→Int→(Int→Prop)→Prop
def yl4 (a0:yaA) (a1:yfi) (p0 p1 p2 p3:Int) (K:Int→Prop):Prop :=
 (a0 p0 p1 (fun yi0 =>
 (a0 p2 p3 (fun yi1 =>
 (a1 ([(.int .i64 yi0),(.int .i64 yi1)]:Ls) (fun yi2 =>
 (K yi2)))))))
def ybs (p0 p1 p2 p3:Int) (K:Int→Prop):Prop:=yl4 yal yd7 p0 p1 p2 p3 K
def yd8 (w:ya0) (as:Ls) (K:PV→Prop):Prop :=
 match as with
 | [(.agg [(.int .i64 p0),(.int .i64 p1)]),(.agg [(.int .i64 p2),(.int .i64 p3)])]=>w p0 p1 p2 p3 (fun r0=>K (.int .i64 r0))
 | _=>False
def ypS (as:Ls) (K:PV→Prop):Prop:=yd8 ybs as K
def yxN (_:yaA) (_:yfi):LP:=fun _ _ _ _ =>
 False
def ypT (e:List (Nat×EffF)) (a0:yaA) (a1:yfi):SE:=⟨(E e),lookS [(yaZ,ydm a0),(yd3,yg2 a1)],lookI [],yxN a0 a1⟩
theorem ywC (e:List (Nat×EffF)) (he:EG e):SEOk (ypT e yal yd7):=yai ⟨(yd6 e he),(yrb e he),trivial⟩ trivial he.ok
theorem yxO (e:List (Nat×EffF)) (a0 a1 p0 p1 p2 p3 K):WP (ypT e a0 a1) 6 yy8 [(.agg [(.int .i64 p0),(.int .i64 p1)]),(.agg [(.int .i64 p2),(.int .i64 p3)])] K=yl4 a0 a1 p0 p1 p2 p3 (fun r0=>K (.int .i64 r0)):=by kernel_rfl
theorem ygo (e:List (Nat×EffF)) (he:EG e):OkF (E e) ypS ybr:=by
 intro as K h
 unfold ypS yd8 at h
 split at h
 · exact WP_ok (ywC e he) (yah (by kernel_rfl)) (by kernel_rfl) (by kernel_rfl) (fun _=>yac (by kernel_rfl) _) (he.num _ (by kernel_rfl)) ((yxO ..).mpr h)
 · exact h.elim
abbrev yf1:Type:=Int→(Bool→Prop)→Prop
def yhK (p0:Int) (K:Bool→Prop):Prop :=
 (K (p0 != p0))
def yf2 (p0:Int) (K:Bool→Prop):Prop:=yhK p0 K
def yhL (w:yf1) (as:Ls) (K:PV→Prop):Prop :=
 match as with
 | [(.int .i64 p0)]=>w p0 (fun r0=>K (.bool r0))
 | _=>False
def yl5 (as:Ls) (K:PV→Prop):Prop:=yhL yf2 as K
def ysv:LP:=fun _ _ _ _ =>
 False
def yl6 (e:List (Nat×EffF)):SE:=⟨(E e),lookS [],lookI [],ysv⟩
theorem yrc (e:List (Nat×EffF)) (he:EG e):SEOk (yl6 e):=yai trivial trivial he.ok
theorem ysw (e:List (Nat×EffF)) ( p0 K):WP (yl6 e) 6 ytv [(.int .i64 p0)] K=yhK p0 (fun r0=>K (.bool r0)):=by kernel_rfl
theorem ysx (e:List (Nat×EffF)) (he:EG e):OkF (E e) yl5 ydu:=by
 intro as K h
 unfold yl5 yhL at h
 split at h
 · exact WP_ok (yrc e he) (yah (by kernel_rfl)) (by kernel_rfl) (by kernel_rfl) (fun _=>yac (by kernel_rfl) _) (he.num _ (by kernel_rfl)) ((ysw ..).mpr h)
 · exact h.elim
abbrev yeQ:Type:=Int→Int→(Int→Prop)→Prop
def ygp (a0:yf1) (p0 p1:Int) (K:Int→Prop):Prop :=
 (a0 p0 (fun yb0 =>
 (a0 p1 (fun yb1 =>
 (cbr yb0
 (cbr yb1
 (K (0:Int))
 (K (-1:Int)))
 (cbr yb1
 (K (1:Int))
 (cbr (decide (p0<p1))
 (K (-1:Int))
 (cbr (decide (p0>p1))
 (K (1:Int))
 (K (0:Int))))))))))
def ydN (p0 p1:Int) (K:Int→Prop):Prop:=ygp yf2 p0 p1 K
def ygq (w:yeQ) (as:Ls) (K:PV→Prop):Prop :=
 match as with
 | [(.int .i64 p0),(.int .i64 p1)]=>w p0 p1 (fun r0=>K (.int .i64 r0))
 | _=>False
def ykq (as:Ls) (K:PV→Prop):Prop:=ygq ydN as K
def ypU (_:yf1):LP:=fun _ _ _ _ =>
 False
def ykr (e:List (Nat×EffF)) (a0:yf1):SE:=⟨(E e),lookS [(ydu,yhL a0)],lookI [],ypU a0⟩
theorem ypy (e:List (Nat×EffF)) (he:EG e):SEOk (ykr e yf2):=yai ⟨(ysx e he),trivial⟩ trivial he.ok
theorem ypV (e:List (Nat×EffF)) (a0 p0 p1 K):WP (ykr e a0) 6 yq9 [(.int .i64 p0),(.int .i64 p1)] K=ygp a0 p0 p1 (fun r0=>K (.int .i64 r0)):=by kernel_rfl
theorem ypW (e:List (Nat×EffF)) (he:EG e):OkF (E e) ykq ydM:=by
 intro as K h
 unfold ykq ygq at h
 split at h
 · exact WP_ok (ypy e he) (yah (by kernel_rfl)) (by kernel_rfl) (by kernel_rfl) (fun _=>yac (by kernel_rfl) _) (he.num _ (by kernel_rfl)) ((ypV ..).mpr h)
 · exact h.elim
abbrev yfL:Type:=Int→Int→(Int→Int→Prop)→Prop
def ysy (p0 p1:Int) (K:Int→Int→Prop):Prop :=
 (K (IntKind.u64.wrap ((IntKind.u64.wrap ((IntKind.u64.wrap ((Int.fdiv p0 4294967296)*(Int.fdiv p1 4294967296)))+(Int.fdiv (IntKind.u64.wrap ((IntKind.u64.wrap ((Int.fdiv p0 4294967296)*(IntKind.u64.wrap (BitVec.ofInt IntKind.u64.bits p1&&&BitVec.ofInt IntKind.u64.bits (4294967295:Int)).toNat)))+(Int.fdiv (IntKind.u64.wrap ((IntKind.u64.wrap (BitVec.ofInt IntKind.u64.bits p0&&&BitVec.ofInt IntKind.u64.bits (4294967295:Int)).toNat)*(IntKind.u64.wrap (BitVec.ofInt IntKind.u64.bits p1&&&BitVec.ofInt IntKind.u64.bits (4294967295:Int)).toNat))) 4294967296))) 4294967296)))+(Int.fdiv (IntKind.u64.wrap ((IntKind.u64.wrap (BitVec.ofInt IntKind.u64.bits (IntKind.u64.wrap ((IntKind.u64.wrap ((Int.fdiv p0 4294967296)*(IntKind.u64.wrap (BitVec.ofInt IntKind.u64.bits p1&&&BitVec.ofInt IntKind.u64.bits (4294967295:Int)).toNat)))+(Int.fdiv (IntKind.u64.wrap ((IntKind.u64.wrap (BitVec.ofInt IntKind.u64.bits p0&&&BitVec.ofInt IntKind.u64.bits (4294967295:Int)).toNat)*(IntKind.u64.wrap (BitVec.ofInt IntKind.u64.bits p1&&&BitVec.ofInt IntKind.u64.bits (4294967295:Int)).toNat))) 4294967296)))&&&BitVec.ofInt IntKind.u64.bits (4294967295:Int)).toNat)+(IntKind.u64.wrap ((IntKind.u64.wrap (BitVec.ofInt IntKind.u64.bits p0&&&BitVec.ofInt IntKind.u64.bits (4294967295:Int)).toNat)*(Int.fdiv p1 4294967296))))) 4294967296))) (IntKind.u64.wrap (p0*p1)))
def yek (p0 p1:Int) (K:Int→Int→Prop):Prop:=ysy p0 p1 K
def yl7 (w:yfL) (as:Ls) (K:PV→Prop):Prop :=
 match as with
 | [(.int .u64 p0),(.int .u64 p1)]=>w p0 p1 (fun r0 r1=>K (.tup [(.int .u64 r0),(.int .u64 r1)]))
 | _=>False
def yxP (as:Ls) (K:PV→Prop):Prop:=yl7 yek as K
def yFy:LP:=fun _ _ _ _ =>
 False
def yxQ (e:List (Nat×EffF)):SE:=⟨(E e),lookS [],lookI [],yFy⟩
theorem yDz (e:List (Nat×EffF)) (he:EG e):SEOk (yxQ e):=yai trivial trivial he.ok
theorem yFz (e:List (Nat×EffF)) ( p0 p1 K):WP (yxQ e) 6 yHN [(.int .u64 p0),(.int .u64 p1)] K=ysy p0 p1 (fun r0 r1=>K (.tup [(.int .u64 r0),(.int .u64 r1)])):=by kernel_rfl
theorem ysz (e:List (Nat×EffF)) (he:EG e):OkF (E e) yxP ydZ:=by
 intro as K h
 unfold yxP yl7 at h
 split at h
 · exact WP_ok (yDz e he) (yah (by kernel_rfl)) (by kernel_rfl) (by kernel_rfl) (fun _=>yac (by kernel_rfl) _) (he.num _ (by kernel_rfl)) ((yFz ..).mpr h)
 · exact h.elim
abbrev yfl:Type:=Int→(Bool→Prop)→Prop
def yg4 (p0:Int) (K:Bool→Prop):Prop :=
 (K (p0 != p0))
def yfm (p0:Int) (K:Bool→Prop):Prop:=yg4 p0 K
def yg5 (w:yfl) (as:Ls) (K:PV→Prop):Prop :=
 match as with
 | [(.int .u64 p0)]=>w p0 (fun r0=>K (.bool r0))
 | _=>False
def ykU (as:Ls) (K:PV→Prop):Prop:=yg5 yfm as K
def yrd:LP:=fun _ _ _ _ =>
 False
def ykV (e:List (Nat×EffF)):SE:=⟨(E e),lookS [],lookI [],yrd⟩
theorem ypX (e:List (Nat×EffF)) (he:EG e):SEOk (ykV e):=yai trivial trivial he.ok
theorem yre (e:List (Nat×EffF)) ( p0 K):WP (ykV e) 6 yss [(.int .u64 p0)] K=yg4 p0 (fun r0=>K (.bool r0)):=by kernel_rfl
theorem yrf (e:List (Nat×EffF)) (he:EG e):OkF (E e) ykU yc1:=by
 intro as K h
 unfold ykU yg5 at h
 split at h
 · exact WP_ok (ypX e he) (yah (by kernel_rfl)) (by kernel_rfl) (by kernel_rfl) (fun _=>yac (by kernel_rfl) _) (he.num _ (by kernel_rfl)) ((yre ..).mpr h)
 · exact h.elim
abbrev yex:Type:=Int→Int→(Int→Prop)→Prop
def yfY (a0:yfl) (p0 p1:Int) (K:Int→Prop):Prop :=
 (a0 p0 (fun yb0 =>
 (a0 p1 (fun yb1 =>
 (cbr yb0
 (cbr yb1
 (K (0:Int))
 (K (-1:Int)))
 (cbr yb1
 (K (1:Int))
 (cbr (decide (p0<p1))
 (K (-1:Int))
 (cbr (decide (p0>p1))
 (K (1:Int))
 (K (0:Int))))))))))
def ydn (p0 p1:Int) (K:Int→Prop):Prop:=yfY yfm p0 p1 K
def yfZ (w:yex) (as:Ls) (K:PV→Prop):Prop :=
 match as with
 | [(.int .u64 p0),(.int .u64 p1)]=>w p0 p1 (fun r0=>K (.int .i64 r0))
 | _=>False
def yja (as:Ls) (K:PV→Prop):Prop:=yfZ ydn as K
def ypz (_:yfl):LP:=fun _ _ _ _ =>
 False
def yjb (e:List (Nat×EffF)) (a0:yfl):SE:=⟨(E e),lookS [(yc1,yg5 a0)],lookI [],ypz a0⟩
theorem yoi (e:List (Nat×EffF)) (he:EG e):SEOk (yjb e yfm):=yai ⟨(yrf e he),trivial⟩ trivial he.ok
theorem ypA (e:List (Nat×EffF)) (a0 p0 p1 K):WP (yjb e a0) 6 ypP [(.int .u64 p0),(.int .u64 p1)] K=yfY a0 p0 p1 (fun r0=>K (.int .i64 r0)):=by kernel_rfl
theorem ypB (e:List (Nat×EffF)) (he:EG e):OkF (E e) yja ycu:=by
 intro as K h
 unfold yja yfZ at h
 split at h
 · exact WP_ok (yoi e he) (yah (by kernel_rfl)) (by kernel_rfl) (by kernel_rfl) (fun _=>yac (by kernel_rfl) _) (he.num _ (by kernel_rfl)) ((ypA ..).mpr h)
 · exact h.elim
abbrev yk1:Type:=Ls→(Int→Prop)→Prop
def ycy (x0:Int→Prop) (x1:Int→Ls→Int→Int→Bool→Prop):Nat→Int→Ls→Int→Int→Prop
 | 0,_,_,_,_=>False
 | n+1,i0,l1,i2,i3 =>
 (cbr (decide (i3<i2))
 (asr (decide ((0:Int)≤i3))
 (asr (decide (i3<(((List.length l1):Nat):Int)))
 (asr (conf (.one (.i .i64)) (List.getD l1 (i3.toNat) .nils))
 (cbr ((intOfV (List.getD l1 (i3.toNat) .nils)) != i0)
 (x0 (intOfV (List.getD l1 (i3.toNat) .nils)))
 (ycy x0 x1 n i0 l1 i2 (IntKind.i64.wrap (i3+(1:Int))))))))
 (x1 i0 l1 i2 i3 false))
def yna (p0:Ls) (K:Int→Prop):Prop :=
 (∃ n:Nat,ycy
 (fun yi0=>(K yi0))
 (fun yi1 _ _ _ _=>(K yi1))
 n (0:Int) p0 (((List.length p0):Nat):Int) (0:Int))
def yio (p0:Ls) (K:Int→Prop):Prop:=yna p0 K
def ynb (w:yk1) (as:Ls) (K:PV→Prop):Prop :=
 match as with
 | [(.data p0)]=>w p0 (fun r0=>K (.int .i64 r0))
 | _=>False
def yrN (as:Ls) (K:PV→Prop):Prop:=ynb yio as K
def yeV (F:Frm) (H:Hp) (A0:Int→Ls→Int→Int→Prop):Prop :=
 match F,H with
 | [(3,.v (.int .i64 i0)),(6,.v (.data l1)),(7,.v (.int .i64 i2)),(8,.v (.int .i64 i3))],[]=>(A0 i0 l1 i2 i3)
 | _,_=>False
def yjw (Q:Ex→Frm→Hp→Prop):Int→Prop:=(fun i0=>Q .ret [(2,.v (.int .i64 i0))] [])
def yjx (Q:Ex→Frm→Hp→Prop):Int→Ls→Int→Int→Bool→Prop:=(fun i0 l1 i2 i3 b4=>Q (.exit 0) [(3,.v (.int .i64 i0)),(6,.v (.data l1)),(7,.v (.int .i64 i2)),(8,.v (.int .i64 i3)),(9,.v (.bool b4))] [])
def yip (Q:Ex→Frm→Hp→Prop) (n:Nat) (F:Frm) (H:Hp):Prop:=yeV F H (fun i0 l1 i2 i3=>ycy (yjw Q) (yjx Q) n i0 l1 i2 i3)
def yj4:LP:=fun id F H Q =>
 bif Nat.beq id 53260600 then yeV F H (fun i0 l1 i2 i3=>∃ n:Nat,ycy (yjw Q) (yjx Q) n i0 l1 i2 i3) else
 False
def ync (e:List (Nat×EffF)):SE:=⟨(E e),lookS [],lookI [],yj4⟩
theorem ypY (e:List (Nat×EffF)) (he:EG e):SEOk (ync e):=yai trivial trivial he.ok
theorem yrg (e:List (Nat×EffF)) ( Q n i0 l1 i2 i3):WC (E e) (callW (ync e) 5) (yj4) ylC [(3,.v (.int .i64 i0)),(6,.v (.data l1)),(7,.v (.int .i64 i2)),(8,.v (.int .i64 i3))] [] (fun x F' H'=>match x with | .norm=>yip Q n F' H' | .exit i=>Q (.exit i) F' H' | .ret=>Q .ret F' H')=ycy (yjw Q) (yjx Q) (n+1) i0 l1 i2 i3:=by kernel_rfl
theorem yvd (e:List (Nat×EffF)) (_:EG e):LpOk (E e) (yj4) ylC:=(yah (by kernel_rfl))
theorem yty (e:List (Nat×EffF)) (he:EG e):∀ F H Q,yj4 53260600 F H Q→LoopT (E e) ylC F H Q:=by
 intro F H Q h
 have go:=LoopT.intro (yaF (ypY e he) 5) (yvd e he) (yip Q) (by
   intro F H h
   unfold yip yeV at h
   split at h
   · exact h
   · exact h) (by
   intro n F H h
   unfold yip yeV at h
   split at h
   · exact (yrg ..).mpr h
   · exact h.elim)
 have h:yeV F H _:=h
 unfold yeV at h
 split at h
 · obtain ⟨n,h⟩:=h;exact go n _ _ h
 · exact h.elim
theorem yzh (e:List (Nat×EffF)) ( p0 K):WP (ync e) 6 yA6 [(.data p0)] K=yna p0 (fun r0=>K (.int .i64 r0)):=by kernel_rfl
theorem yzi (e:List (Nat×EffF)) (he:EG e):OkF (E e) yrN yih:=by
 intro as K h
 unfold yrN ynb at h
 split at h
 · exact WP_ok (ypY e he) (ybe (l:=[(53260600,ylC)]) ⟨yty e he,trivial⟩ (by kernel_rfl)) (by kernel_rfl) (by kernel_rfl) (fun _=>yac (by kernel_rfl) _) (he.num _ (by kernel_rfl)) ((yzh ..).mpr h)
 · exact h.elim
abbrev ygr:Type:=Int→Int→Int→Int→(Int→Int→Prop)→Prop
def yoj (a0:ya0) (a1:yeQ) (a2:ybf) (a3:yfL) (a4:yex) (a5:yk1) (p0 p1 p2 p3:Int) (K:Int→Int→Prop):Prop :=
 (a0 p0 p1 p2 p3 (fun yi0 =>
 (cbr (yi0 !=(0:Int))
 (K (0:Int) yi0)
 (cbr ((decide (p0<(0:Int))) !=(decide (p2<(0:Int))))
 (a1 p0 p2 (fun yi1 =>
 (K yi1 (0:Int))))
 (a2 p0 (fun yi2 =>
 (a3 yi2 (IntKind.u64.wrap p3) (fun yi3 yi4 =>
 (a2 p2 (fun yi5 =>
 (a3 yi5 (IntKind.u64.wrap p1) (fun yi6 yi7 =>
 (a4 yi3 yi6 (fun yi8 =>
 (a4 yi4 yi7 (fun yi9 =>
 (a5 ([(.int .i64 yi8),(.int .i64 yi9)]:Ls) (fun yi10 =>
 (cbr (decide (p0<(0:Int)))
 (K (IntKind.i64.wrap ((0:Int)-yi10)) (0:Int))
 (K yi10 (0:Int)))))))))))))))))))))
def ydU (p0 p1 p2 p3:Int) (K:Int→Int→Prop):Prop:=yoj ybs ydN ybR yek ydn yio p0 p1 p2 p3 K
def yk2 (w:ygr) (as:Ls) (K:PV→Prop):Prop :=
 match as with
 | [(.agg [(.int .i64 p0),(.int .i64 p1)]),(.agg [(.int .i64 p2),(.int .i64 p3)])]=>w p0 p1 p2 p3 (fun r0 r1=>K (.tup [(.int .i64 r0),(.int .i64 r1)]))
 | _=>False
def ytz (as:Ls) (K:PV→Prop):Prop:=yk2 ydU as K
def yBg (_:ya0) (_:yeQ) (_:ybf) (_:yfL) (_:yex) (_:yk1):LP:=fun _ _ _ _ =>
 False
def ytA (e:List (Nat×EffF)) (a0:ya0) (a1:yeQ) (a2:ybf) (a3:yfL) (a4:yex) (a5:yk1):SE:=⟨(E e),lookS [(ybr,yd8 a0),(ydM,ygq a1),(yaX,yeK a2),(ydZ,yl7 a3),(ycu,yfZ a4),(yih,ynb a5)],lookI [],yBg a0 a1 a2 a3 a4 a5⟩
theorem yzj (e:List (Nat×EffF)) (he:EG e):SEOk (ytA e ybs ydN ybR yek ydn yio):=yai ⟨(ygo e he),(ypW e he),(yho e he),(ysz e he),(ypB e he),(yzi e he),trivial⟩ trivial he.ok
theorem yBh (e:List (Nat×EffF)) (a0 a1 a2 a3 a4 a5 p0 p1 p2 p3 K):WP (ytA e a0 a1 a2 a3 a4 a5) 6 yDg [(.agg [(.int .i64 p0),(.int .i64 p1)]),(.agg [(.int .i64 p2),(.int .i64 p3)])] K=yoj a0 a1 a2 a3 a4 a5 p0 p1 p2 p3 (fun r0 r1=>K (.tup [(.int .i64 r0),(.int .i64 r1)])):=by kernel_rfl
theorem yok (e:List (Nat×EffF)) (he:EG e):OkF (E e) ytz ygj:=by
 intro as K h
 unfold ytz yk2 at h
 split at h
 · exact WP_ok (yzj e he) (yah (by kernel_rfl)) (by kernel_rfl) (by kernel_rfl) (fun _=>yac (by kernel_rfl) _) (he.num _ (by kernel_rfl)) ((yBh ..).mpr h)
 · exact h.elim
abbrev yqY:Type:=Int→(Int→Prop)→Prop
def ysA (p0:Int) (K:Int→Prop):Prop :=
 (cbr (decide (p0≥(4294967296:Int)))
 (cbr (decide ((Int.fdiv p0 4294967296)≥(65536:Int)))
 (cbr (decide ((Int.fdiv (Int.fdiv p0 4294967296) 65536)≥(256:Int)))
 (asr (decide ((0:Int)≤(IntKind.u8.wrap (Int.fdiv (Int.fdiv (Int.fdiv p0 4294967296) 65536) 256))))
 (asr (decide ((IntKind.u8.wrap (Int.fdiv (Int.fdiv (Int.fdiv p0 4294967296) 65536) 256))<(256:Int)))
 (K (IntKind.i64.wrap ((56:Int)+(IntKind.i64.wrap (intOfV (List.getD len8tab ((IntKind.u8.wrap (Int.fdiv (Int.fdiv (Int.fdiv p0 4294967296) 65536) 256)).toNat) .nils))))))))
 (asr (decide ((0:Int)≤(IntKind.u8.wrap (Int.fdiv (Int.fdiv p0 4294967296) 65536))))
 (asr (decide ((IntKind.u8.wrap (Int.fdiv (Int.fdiv p0 4294967296) 65536))<(256:Int)))
 (K (IntKind.i64.wrap ((48:Int)+(IntKind.i64.wrap (intOfV (List.getD len8tab ((IntKind.u8.wrap (Int.fdiv (Int.fdiv p0 4294967296) 65536)).toNat) .nils)))))))))
 (cbr (decide ((Int.fdiv p0 4294967296)≥(256:Int)))
 (asr (decide ((0:Int)≤(IntKind.u8.wrap (Int.fdiv (Int.fdiv p0 4294967296) 256))))
 (asr (decide ((IntKind.u8.wrap (Int.fdiv (Int.fdiv p0 4294967296) 256))<(256:Int)))
 (K (IntKind.i64.wrap ((40:Int)+(IntKind.i64.wrap (intOfV (List.getD len8tab ((IntKind.u8.wrap (Int.fdiv (Int.fdiv p0 4294967296) 256)).toNat) .nils))))))))
 (asr (decide ((0:Int)≤(IntKind.u8.wrap (Int.fdiv p0 4294967296))))
 (asr (decide ((IntKind.u8.wrap (Int.fdiv p0 4294967296))<(256:Int)))
 (K (IntKind.i64.wrap ((32:Int)+(IntKind.i64.wrap (intOfV (List.getD len8tab ((IntKind.u8.wrap (Int.fdiv p0 4294967296)).toNat) .nils))))))))))
 (cbr (decide (p0≥(65536:Int)))
 (cbr (decide ((Int.fdiv p0 65536)≥(256:Int)))
 (asr (decide ((0:Int)≤(IntKind.u8.wrap (Int.fdiv (Int.fdiv p0 65536) 256))))
 (asr (decide ((IntKind.u8.wrap (Int.fdiv (Int.fdiv p0 65536) 256))<(256:Int)))
 (K (IntKind.i64.wrap ((24:Int)+(IntKind.i64.wrap (intOfV (List.getD len8tab ((IntKind.u8.wrap (Int.fdiv (Int.fdiv p0 65536) 256)).toNat) .nils))))))))
 (asr (decide ((0:Int)≤(IntKind.u8.wrap (Int.fdiv p0 65536))))
 (asr (decide ((IntKind.u8.wrap (Int.fdiv p0 65536))<(256:Int)))
 (K (IntKind.i64.wrap ((16:Int)+(IntKind.i64.wrap (intOfV (List.getD len8tab ((IntKind.u8.wrap (Int.fdiv p0 65536)).toNat) .nils)))))))))
 (cbr (decide (p0≥(256:Int)))
 (asr (decide ((0:Int)≤(IntKind.u8.wrap (Int.fdiv p0 256))))
 (asr (decide ((IntKind.u8.wrap (Int.fdiv p0 256))<(256:Int)))
 (K (IntKind.i64.wrap ((8:Int)+(IntKind.i64.wrap (intOfV (List.getD len8tab ((IntKind.u8.wrap (Int.fdiv p0 256)).toNat) .nils))))))))
 (asr (decide ((0:Int)≤(IntKind.u8.wrap p0)))
 (asr (decide ((IntKind.u8.wrap p0)<(256:Int)))
 (K (IntKind.i64.wrap ((0:Int)+(IntKind.i64.wrap (intOfV (List.getD len8tab ((IntKind.u8.wrap p0).toNat) .nils)))))))))))
def ynG (p0:Int) (K:Int→Prop):Prop:=ysA p0 K
def ysB (w:yqY) (as:Ls) (K:PV→Prop):Prop :=
 match as with
 | [(.int .u64 p0)]=>w p0 (fun r0=>K (.int .i64 r0))
 | _=>False
def yxR (as:Ls) (K:PV→Prop):Prop:=ysB ynG as K
def yFA:LP:=fun _ _ _ _ =>
 False
def yxS (e:List (Nat×EffF)):SE:=⟨(E e),lookS [],lookI [],yFA⟩
theorem yDA (e:List (Nat×EffF)) (he:EG e):SEOk (yxS e):=yai trivial trivial he.ok
theorem yFB (e:List (Nat×EffF)) ( p0 K):WP (yxS e) 6 yHO [(.int .u64 p0)] K=ysA p0 (fun r0=>K (.int .i64 r0)):=by kernel_rfl
theorem yFC (e:List (Nat×EffF)) (he:EG e):OkF (E e) yxR ylm:=by
 intro as K h
 unfold yxR ysB at h
 split at h
 · exact WP_ok (yDA e he) (yah (by kernel_rfl)) (by kernel_rfl) (by kernel_rfl) (fun _=>yac (by kernel_rfl) _) (he.num _ (by kernel_rfl)) ((yFB ..).mpr h)
 · exact h.elim
abbrev ycl:Type:=Bool→Int→Int→(Int→Int→Int→Prop)→Prop
def ykF (p0:Bool) (p1 p2:Int) (K:Int→Int→Int→Prop):Prop :=
 (cbr (decide ((if p2>p1 then p2 else p1)>(1000000000000000000:Int)))
 (K (0:Int) (0:Int) (16:Int))
 (cbr p0
 (K (IntKind.i64.wrap ((0:Int)-(IntKind.i64.wrap p1))) (IntKind.i64.wrap p2) (0:Int))
 (K (IntKind.i64.wrap p1) (IntKind.i64.wrap p2) (0:Int))))
def ybp (p0:Bool) (p1 p2:Int) (K:Int→Int→Int→Prop):Prop:=ykF p0 p1 p2 K
def yfD (w:ycl) (as:Ls) (K:PV→Prop):Prop :=
 match as with
 | [(.bool p0),(.int .u64 p1),(.int .u64 p2)]=>w p0 p1 p2 (fun r0 r1 r2=>K (.tup [(.agg [(.int .i64 r0),(.int .i64 r1)]),(.int .i64 r2)]))
 | _=>False
def ypo (as:Ls) (K:PV→Prop):Prop:=yfD ybp as K
def ywD:LP:=fun _ _ _ _ =>
 False
def ypp (e:List (Nat×EffF)):SE:=⟨(E e),lookS [],lookI [],ywD⟩
theorem yve (e:List (Nat×EffF)) (he:EG e):SEOk (ypp e):=yai trivial trivial he.ok
theorem ywE (e:List (Nat×EffF)) ( p0 p1 p2 K):WP (ypp e) 6 yxI [(.bool p0),(.int .u64 p1),(.int .u64 p2)] K=ykF p0 p1 p2 (fun r0 r1 r2=>K (.tup [(.agg [(.int .i64 r0),(.int .i64 r1)]),(.int .i64 r2)])):=by kernel_rfl
theorem ykG (e:List (Nat×EffF)) (he:EG e):OkF (E e) ypo ycN:=by
 intro as K h
 unfold ypo yfD at h
 split at h
 · exact WP_ok (yve e he) (yah (by kernel_rfl)) (by kernel_rfl) (by kernel_rfl) (fun _=>yac (by kernel_rfl) _) (he.num _ (by kernel_rfl)) ((ywE ..).mpr h)
 · exact h.elim
abbrev yfn:Type:=Int→Int→(Int→Int→Int→Prop)→Prop
def ynd (a0:ybf) (a1:ycw) (a2:ycl) (p0 p1:Int) (K:Int→Int→Int→Prop):Prop :=
 (cbr (p1 ==(0:Int))
 (K (0:Int) (0:Int) (18:Int))
 (a0 p0 (fun yi0 =>
 (a0 p1 (fun yi1 =>
 (a1 yi0 yi1 (fun yi2 =>
 (asr (!(decide (yi2=(0:Int))))
 (asr (!(decide (yi2=(0:Int))))
 (a2 ((decide (p0<(0:Int))) !=(decide (p1<(0:Int)))) (IntKind.u64.wrap (Int.tdiv yi0 yi2)) (IntKind.u64.wrap (Int.tdiv yi1 yi2)) (fun yi3 yi4 yi5 =>
 (K yi3 yi4 yi5))))))))))))
def ybS (p0 p1:Int) (K:Int→Int→Int→Prop):Prop:=ynd ybR ybv ybp p0 p1 K
def yne (w:yfn) (as:Ls) (K:PV→Prop):Prop :=
 match as with
 | [(.int .i64 p0),(.int .i64 p1)]=>w p0 p1 (fun r0 r1 r2=>K (.tup [(.agg [(.int .i64 r0),(.int .i64 r1)]),(.int .i64 r2)]))
 | _=>False
def yrO (as:Ls) (K:PV→Prop):Prop:=yne ybS as K
def yzk (_:ybf) (_:ycw) (_:ycl):LP:=fun _ _ _ _ =>
 False
def yrP (e:List (Nat×EffF)) (a0:ybf) (a1:ycw) (a2:ycl):SE:=⟨(E e),lookS [(yaX,yeK a0),(yct,ygJ a1),(ycN,yfD a2)],lookI [],yzk a0 a1 a2⟩
theorem yxT (e:List (Nat×EffF)) (he:EG e):SEOk (yrP e ybR ybv ybp):=yai ⟨(yho e he),(yk0 e he),(ykG e he),trivial⟩ trivial he.ok
theorem yzl (e:List (Nat×EffF)) (a0 a1 a2 p0 p1 K):WP (yrP e a0 a1 a2) 6 yA7 [(.int .i64 p0),(.int .i64 p1)] K=ynd a0 a1 a2 p0 p1 (fun r0 r1 r2=>K (.tup [(.agg [(.int .i64 r0),(.int .i64 r1)]),(.int .i64 r2)])):=by kernel_rfl
theorem yrQ (e:List (Nat×EffF)) (he:EG e):OkF (E e) yrO yii:=by
 intro as K h
 unfold yrO yne at h
 split at h
 · exact WP_ok (yxT e he) (yah (by kernel_rfl)) (by kernel_rfl) (by kernel_rfl) (fun _=>yac (by kernel_rfl) _) (he.num _ (by kernel_rfl)) ((yzl ..).mpr h)
 · exact h.elim
abbrev ybc:Type:=Int→(Int→Prop)→Prop
def yg6 (a0:yqY) (p0:Int) (K:Int→Prop):Prop :=
 (a0 p0 (fun yi0 =>
 (K (IntKind.i64.wrap ((64:Int)-yi0)))))
def yaM (p0:Int) (K:Int→Prop):Prop:=yg6 ynG p0 K
def yg7 (w:ybc) (as:Ls) (K:PV→Prop):Prop :=
 match as with
 | [(.int .u64 p0)]=>w p0 (fun r0=>K (.int .i64 r0))
 | _=>False
def ykW (as:Ls) (K:PV→Prop):Prop:=yg7 yaM as K
def yrh (_:yqY):LP:=fun _ _ _ _ =>
 False
def ykX (e:List (Nat×EffF)) (a0:yqY):SE:=⟨(E e),lookS [(ylm,ysB a0)],lookI [],yrh a0⟩
theorem ypZ (e:List (Nat×EffF)) (he:EG e):SEOk (ykX e ynG):=yai ⟨(yFC e he),trivial⟩ trivial he.ok
theorem yri (e:List (Nat×EffF)) (a0 p0 K):WP (ykX e a0) 6 yst [(.int .u64 p0)] K=yg6 a0 p0 (fun r0=>K (.int .i64 r0)):=by kernel_rfl
theorem yrj (e:List (Nat×EffF)) (he:EG e):OkF (E e) ykW yd4:=by
 intro as K h
 unfold ykW yg7 at h
 split at h
 · exact WP_ok (ypZ e he) (yah (by kernel_rfl)) (by kernel_rfl) (by kernel_rfl) (fun _=>yac (by kernel_rfl) _) (he.num _ (by kernel_rfl)) ((yri ..).mpr h)
 · exact h.elim
abbrev yjy:Type:=Int→Int→Int→(Int→Int→Prop)→Prop
mutual
def yfM (a0:ybc) (x60530100_0:Int→Int→Int→Int→Int→Int→Int→Int→Int→Bool→Prop) (x60530100_1:Int→Int→Int→Int→Int→Int→Int→Int→Int→Bool→Prop):Nat→Int→Int→Int→Int→Int→Int→Int→Int→Int→Prop
 | 0,_,_,_,_,_,_,_,_,_=>False
 | n60530100+1,i0,i1,i2,i3,i4,i5,i6,i7,i8 =>
 (cbr (decide (i7≥(4294967296:Int)))
 (cbr (decide ((IntKind.u64.wrap (i8+i2))≥(4294967296:Int)))
 (x60530100_0 i0 i1 i2 i3 i4 i5 i6 (IntKind.u64.wrap (i7-(1:Int))) (IntKind.u64.wrap (i8+i2)) true)
 (ycJ a0 x60530100_0 x60530100_1 n60530100 i0 i1 i2 i3 i4 i5 i6 (IntKind.u64.wrap (i7-(1:Int))) (IntKind.u64.wrap (i8+i2)) false))
 (cbr (decide ((IntKind.u64.wrap (i7*i3))>(IntKind.u64.wrap ((IntKind.u64.wrap ((4294967296:Int)*i8))+i5))))
 (cbr (decide ((IntKind.u64.wrap (i8+i2))≥(4294967296:Int)))
 (x60530100_0 i0 i1 i2 i3 i4 i5 i6 (IntKind.u64.wrap (i7-(1:Int))) (IntKind.u64.wrap (i8+i2)) true)
 (ycJ a0 x60530100_0 x60530100_1 n60530100 i0 i1 i2 i3 i4 i5 i6 (IntKind.u64.wrap (i7-(1:Int))) (IntKind.u64.wrap (i8+i2)) false))
 (x60530100_1 i0 i1 i2 i3 i4 i5 i6 i7 i8 false)))
def ycJ (a0:ybc) (x60530100_0:Int→Int→Int→Int→Int→Int→Int→Int→Int→Bool→Prop) (x60530100_1:Int→Int→Int→Int→Int→Int→Int→Int→Int→Bool→Prop):Nat→Int→Int→Int→Int→Int→Int→Int→Int→Int→Bool→Prop
 | 0,_,_,_,_,_,_,_,_,_,_=>False
 | n60530100+1,i0,i1,i2,i3,i4,i5,i6,i7,i8,_ =>
 (cbr (decide (i7≥(4294967296:Int)))
 (cbr (decide ((IntKind.u64.wrap (i8+i2))≥(4294967296:Int)))
 (x60530100_0 i0 i1 i2 i3 i4 i5 i6 (IntKind.u64.wrap (i7-(1:Int))) (IntKind.u64.wrap (i8+i2)) true)
 (ycJ a0 x60530100_0 x60530100_1 n60530100 i0 i1 i2 i3 i4 i5 i6 (IntKind.u64.wrap (i7-(1:Int))) (IntKind.u64.wrap (i8+i2)) false))
 (cbr (decide ((IntKind.u64.wrap (i7*i3))>(IntKind.u64.wrap ((IntKind.u64.wrap ((4294967296:Int)*i8))+i5))))
 (cbr (decide ((IntKind.u64.wrap (i8+i2))≥(4294967296:Int)))
 (x60530100_0 i0 i1 i2 i3 i4 i5 i6 (IntKind.u64.wrap (i7-(1:Int))) (IntKind.u64.wrap (i8+i2)) true)
 (ycJ a0 x60530100_0 x60530100_1 n60530100 i0 i1 i2 i3 i4 i5 i6 (IntKind.u64.wrap (i7-(1:Int))) (IntKind.u64.wrap (i8+i2)) false))
 (x60530100_1 i0 i1 i2 i3 i4 i5 i6 i7 i8 false)))
end
mutual
def ydV (a0:ybc) (x60530101_0:Int→Int→Int→Int→Int→Int→Int→Int→Int→Bool→Prop) (x60530101_1:Int→Int→Int→Int→Int→Int→Int→Int→Int→Bool→Prop):Nat→Int→Int→Int→Int→Int→Int→Int→Int→Int→Prop
 | 0,_,_,_,_,_,_,_,_,_=>False
 | n60530101+1,i0,i1,i2,i3,i4,i5,i6,i7,i8 =>
 (cbr (decide (i8≥(4294967296:Int)))
 (cbr (decide ((IntKind.u64.wrap (i6+i2))≥(4294967296:Int)))
 (x60530101_0 i0 i1 i2 i3 i4 i5 (IntKind.u64.wrap (i6+i2)) i7 (IntKind.u64.wrap (i8-(1:Int))) true)
 (ycK a0 x60530101_0 x60530101_1 n60530101 i0 i1 i2 i3 i4 i5 (IntKind.u64.wrap (i6+i2)) i7 (IntKind.u64.wrap (i8-(1:Int))) false))
 (cbr (decide ((IntKind.u64.wrap (i8*i3))>(IntKind.u64.wrap ((IntKind.u64.wrap ((4294967296:Int)*i6))+i4))))
 (cbr (decide ((IntKind.u64.wrap (i6+i2))≥(4294967296:Int)))
 (x60530101_0 i0 i1 i2 i3 i4 i5 (IntKind.u64.wrap (i6+i2)) i7 (IntKind.u64.wrap (i8-(1:Int))) true)
 (ycK a0 x60530101_0 x60530101_1 n60530101 i0 i1 i2 i3 i4 i5 (IntKind.u64.wrap (i6+i2)) i7 (IntKind.u64.wrap (i8-(1:Int))) false))
 (x60530101_1 i0 i1 i2 i3 i4 i5 i6 i7 i8 false)))
def ycK (a0:ybc) (x60530101_0:Int→Int→Int→Int→Int→Int→Int→Int→Int→Bool→Prop) (x60530101_1:Int→Int→Int→Int→Int→Int→Int→Int→Int→Bool→Prop):Nat→Int→Int→Int→Int→Int→Int→Int→Int→Int→Bool→Prop
 | 0,_,_,_,_,_,_,_,_,_,_=>False
 | n60530101+1,i0,i1,i2,i3,i4,i5,i6,i7,i8,_ =>
 (cbr (decide (i8≥(4294967296:Int)))
 (cbr (decide ((IntKind.u64.wrap (i6+i2))≥(4294967296:Int)))
 (x60530101_0 i0 i1 i2 i3 i4 i5 (IntKind.u64.wrap (i6+i2)) i7 (IntKind.u64.wrap (i8-(1:Int))) true)
 (ycK a0 x60530101_0 x60530101_1 n60530101 i0 i1 i2 i3 i4 i5 (IntKind.u64.wrap (i6+i2)) i7 (IntKind.u64.wrap (i8-(1:Int))) false))
 (cbr (decide ((IntKind.u64.wrap (i8*i3))>(IntKind.u64.wrap ((IntKind.u64.wrap ((4294967296:Int)*i6))+i4))))
 (cbr (decide ((IntKind.u64.wrap (i6+i2))≥(4294967296:Int)))
 (x60530101_0 i0 i1 i2 i3 i4 i5 (IntKind.u64.wrap (i6+i2)) i7 (IntKind.u64.wrap (i8-(1:Int))) true)
 (ycK a0 x60530101_0 x60530101_1 n60530101 i0 i1 i2 i3 i4 i5 (IntKind.u64.wrap (i6+i2)) i7 (IntKind.u64.wrap (i8-(1:Int))) false))
 (x60530101_1 i0 i1 i2 i3 i4 i5 i6 i7 i8 false)))
end
def ysC (a0:ybc) (p0 p1 p2:Int) (K:Int→Int→Prop):Prop :=
 (cbr (p2 ==(0:Int))
 False
 (cbr (decide (p2≤p0))
 False
 (cbr (p0 ==(0:Int))
 (asr (!(decide (p2=(0:Int))))
 (asr (!(decide (p2=(0:Int))))
 (K (IntKind.u64.wrap (Int.tdiv p1 p2)) (Int.tmod p1 p2))))
 (a0 p2 (fun yi0 =>
 (asr (!(decide ((IntKind.u64.wrap yi0)<(0:Int))))
 (asr (!(decide ((IntKind.u64.wrap yi0)<(0:Int))))
 (asr (!(decide ((IntKind.u64.wrap ((64:Int)-(IntKind.u64.wrap yi0)))<(0:Int))))
 (asr (!(decide ((IntKind.u64.wrap yi0)<(0:Int))))
 (asr (!(decide ((Int.fdiv (IntKind.u64.wrap (p2*2 ^ (min (IntKind.u64.wrap yi0).toNat IntKind.u64.bits))) 4294967296)=(0:Int))))
 (∃ n60530100:Nat,yfM a0
 (fun yi1 yi2 yi3 yi4 yi5 yi6 yi7 yi8 _ _=>(asr (!(decide (yi3=(0:Int))))
 (∃ n60530101:Nat,ydV a0
 (fun yi11 yi12 _ _ yi15 yi16 _ yi18 yi19 _=>(asr (!(decide (yi12<(0:Int))))
 (K (IntKind.u64.wrap ((IntKind.u64.wrap (yi16*(4294967296:Int)))+yi19)) (Int.fdiv (IntKind.u64.wrap ((IntKind.u64.wrap ((IntKind.u64.wrap (yi18*(4294967296:Int)))+yi15))-(IntKind.u64.wrap (yi19*yi11)))) (2 ^ (min yi12.toNat IntKind.u64.bits))))))
 (fun yi21 yi22 _ _ yi25 yi26 _ yi28 yi29 _=>(asr (!(decide (yi22<(0:Int))))
 (K (IntKind.u64.wrap ((IntKind.u64.wrap (yi26*(4294967296:Int)))+yi29)) (Int.fdiv (IntKind.u64.wrap ((IntKind.u64.wrap ((IntKind.u64.wrap (yi28*(4294967296:Int)))+yi25))-(IntKind.u64.wrap (yi29*yi21)))) (2 ^ (min yi22.toNat IntKind.u64.bits))))))
 n60530101 yi1 yi2 yi3 yi4 yi7 yi8 (IntKind.u64.wrap ((IntKind.u64.wrap ((IntKind.u64.wrap ((IntKind.u64.wrap (yi5*(4294967296:Int)))+yi6))-(IntKind.u64.wrap (yi8*yi1))))-(IntKind.u64.wrap ((IntKind.u64.wrap (Int.tdiv (IntKind.u64.wrap ((IntKind.u64.wrap ((IntKind.u64.wrap (yi5*(4294967296:Int)))+yi6))-(IntKind.u64.wrap (yi8*yi1)))) yi3))*yi3)))) (IntKind.u64.wrap ((IntKind.u64.wrap ((IntKind.u64.wrap (yi5*(4294967296:Int)))+yi6))-(IntKind.u64.wrap (yi8*yi1)))) (IntKind.u64.wrap (Int.tdiv (IntKind.u64.wrap ((IntKind.u64.wrap ((IntKind.u64.wrap (yi5*(4294967296:Int)))+yi6))-(IntKind.u64.wrap (yi8*yi1)))) yi3)))))
 (fun yi31 yi32 yi33 yi34 yi35 yi36 yi37 yi38 _ _=>(asr (!(decide (yi33=(0:Int))))
 (∃ n60530101:Nat,ydV a0
 (fun yi41 yi42 _ _ yi45 yi46 _ yi48 yi49 _=>(asr (!(decide (yi42<(0:Int))))
 (K (IntKind.u64.wrap ((IntKind.u64.wrap (yi46*(4294967296:Int)))+yi49)) (Int.fdiv (IntKind.u64.wrap ((IntKind.u64.wrap ((IntKind.u64.wrap (yi48*(4294967296:Int)))+yi45))-(IntKind.u64.wrap (yi49*yi41)))) (2 ^ (min yi42.toNat IntKind.u64.bits))))))
 (fun yi51 yi52 _ _ yi55 yi56 _ yi58 yi59 _=>(asr (!(decide (yi52<(0:Int))))
 (K (IntKind.u64.wrap ((IntKind.u64.wrap (yi56*(4294967296:Int)))+yi59)) (Int.fdiv (IntKind.u64.wrap ((IntKind.u64.wrap ((IntKind.u64.wrap (yi58*(4294967296:Int)))+yi55))-(IntKind.u64.wrap (yi59*yi51)))) (2 ^ (min yi52.toNat IntKind.u64.bits))))))
 n60530101 yi31 yi32 yi33 yi34 yi37 yi38 (IntKind.u64.wrap ((IntKind.u64.wrap ((IntKind.u64.wrap ((IntKind.u64.wrap (yi35*(4294967296:Int)))+yi36))-(IntKind.u64.wrap (yi38*yi31))))-(IntKind.u64.wrap ((IntKind.u64.wrap (Int.tdiv (IntKind.u64.wrap ((IntKind.u64.wrap ((IntKind.u64.wrap (yi35*(4294967296:Int)))+yi36))-(IntKind.u64.wrap (yi38*yi31)))) yi33))*yi33)))) (IntKind.u64.wrap ((IntKind.u64.wrap ((IntKind.u64.wrap (yi35*(4294967296:Int)))+yi36))-(IntKind.u64.wrap (yi38*yi31)))) (IntKind.u64.wrap (Int.tdiv (IntKind.u64.wrap ((IntKind.u64.wrap ((IntKind.u64.wrap (yi35*(4294967296:Int)))+yi36))-(IntKind.u64.wrap (yi38*yi31)))) yi33)))))
 n60530100 (IntKind.u64.wrap (p2*2 ^ (min (IntKind.u64.wrap yi0).toNat IntKind.u64.bits))) (IntKind.u64.wrap yi0) (Int.fdiv (IntKind.u64.wrap (p2*2 ^ (min (IntKind.u64.wrap yi0).toNat IntKind.u64.bits))) 4294967296) (IntKind.u64.wrap (BitVec.ofInt IntKind.u64.bits (IntKind.u64.wrap (p2*2 ^ (min (IntKind.u64.wrap yi0).toNat IntKind.u64.bits)))&&&BitVec.ofInt IntKind.u64.bits (4294967295:Int)).toNat) (IntKind.u64.wrap (BitVec.ofInt IntKind.u64.bits (IntKind.u64.wrap (p0*2 ^ (min (IntKind.u64.wrap yi0).toNat IntKind.u64.bits)))|||BitVec.ofInt IntKind.u64.bits (Int.fdiv p1 (2 ^ (min (IntKind.u64.wrap ((64:Int)-(IntKind.u64.wrap yi0))).toNat IntKind.u64.bits)))).toNat) (Int.fdiv (IntKind.u64.wrap (p1*2 ^ (min (IntKind.u64.wrap yi0).toNat IntKind.u64.bits))) 4294967296) (IntKind.u64.wrap (BitVec.ofInt IntKind.u64.bits (IntKind.u64.wrap (p1*2 ^ (min (IntKind.u64.wrap yi0).toNat IntKind.u64.bits)))&&&BitVec.ofInt IntKind.u64.bits (4294967295:Int)).toNat) (IntKind.u64.wrap (Int.tdiv (IntKind.u64.wrap (BitVec.ofInt IntKind.u64.bits (IntKind.u64.wrap (p0*2 ^ (min (IntKind.u64.wrap yi0).toNat IntKind.u64.bits)))|||BitVec.ofInt IntKind.u64.bits (Int.fdiv p1 (2 ^ (min (IntKind.u64.wrap ((64:Int)-(IntKind.u64.wrap yi0))).toNat IntKind.u64.bits)))).toNat) (Int.fdiv (IntKind.u64.wrap (p2*2 ^ (min (IntKind.u64.wrap yi0).toNat IntKind.u64.bits))) 4294967296))) (IntKind.u64.wrap ((IntKind.u64.wrap (BitVec.ofInt IntKind.u64.bits (IntKind.u64.wrap (p0*2 ^ (min (IntKind.u64.wrap yi0).toNat IntKind.u64.bits)))|||BitVec.ofInt IntKind.u64.bits (Int.fdiv p1 (2 ^ (min (IntKind.u64.wrap ((64:Int)-(IntKind.u64.wrap yi0))).toNat IntKind.u64.bits)))).toNat)-(IntKind.u64.wrap ((IntKind.u64.wrap (Int.tdiv (IntKind.u64.wrap (BitVec.ofInt IntKind.u64.bits (IntKind.u64.wrap (p0*2 ^ (min (IntKind.u64.wrap yi0).toNat IntKind.u64.bits)))|||BitVec.ofInt IntKind.u64.bits (Int.fdiv p1 (2 ^ (min (IntKind.u64.wrap ((64:Int)-(IntKind.u64.wrap yi0))).toNat IntKind.u64.bits)))).toNat) (Int.fdiv (IntKind.u64.wrap (p2*2 ^ (min (IntKind.u64.wrap yi0).toNat IntKind.u64.bits))) 4294967296)))*(Int.fdiv (IntKind.u64.wrap (p2*2 ^ (min (IntKind.u64.wrap yi0).toNat IntKind.u64.bits))) 4294967296))))))))))))))))
def yfN (p0 p1 p2:Int) (K:Int→Int→Prop):Prop:=ysC yaM p0 p1 p2 K
def yol (w:yjy) (as:Ls) (K:PV→Prop):Prop :=
 match as with
 | [(.int .u64 p0),(.int .u64 p1),(.int .u64 p2)]=>w p0 p1 p2 (fun r0 r1=>K (.tup [(.int .u64 r0),(.int .u64 r1)]))
 | _=>False
def yxU (as:Ls) (K:PV→Prop):Prop:=yol yfN as K
end Go.Pf.Vc
