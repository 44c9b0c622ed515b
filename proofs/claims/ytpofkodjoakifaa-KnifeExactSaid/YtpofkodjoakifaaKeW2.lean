/- Part 2 of what the statement rests on: a verified evaluator over pure values, the conditions of the program's functions, and their plain laws. -/
import Derived.Test.YtpofkodjoakifaaKeW1
namespace Go.Pf
open Go Go.ChangeShapes Go.WideShapes Go.ChangeAt Go.RowKit
section
variable {H:Type} {enc:TypeId×Value→H} {P:Program}
theorem ywL {f:Func} {s:ChangeSpec} {apart fresh handsOn again:Bool} {W W':World} {args:Array Value} {v:Value} {ds gs:List (DataW H)} {before pa pv:List MemPlace}
   (hW:DataW.Whole enc P f.params.toList s.vars apart W args.toList ds gs before)
   (hres:∀ (b:Nat) (sp:Nat→Bool) (hd:Bool),DataW.TrodAll enc P W' b sp hd f.resultTypes.toList (v.resultList f.resultTypes.size) (s.fn H (ds++gs)).results [])
   (hargs:∀ sp:Nat→Bool,(∀ p∈before,sp p.block=true)→DataW.TrodAll enc P W' 0 sp true f.params.toList args.toList (s.fn H (ds++gs)).args pa)
   (hvars:∀ sp:Nat→Bool,(∀ p∈before,sp p.block=true)→DataW.TrodVars enc P W' sp s.vars (s.fn H (ds++gs)).vars pv)
   (hps:before=pa++pv) (hb:Below W.heap.size W W')
   (hok:∀ (j:Nat) (t:TypeId) (r:Value),f.resultTypes[j]?=some t→(v.resultList f.resultTypes.size)[j]?=some r→Value.okWide P W' .any 0 t r) :
   s.post enc P f apart fresh handsOn again W args v W':=by
 have hlt:∀ p∈before,p.block<W.heap.size:=fun p hp=>hW.lt p hp
 have hold:∀ p∈before,(fun b=>decide (b<W.heap.size)) p.block=true:=fun p hp=>by simpa using hlt p hp
 refine ⟨ds,gs,before,[],pa,pv,hW,hres _ _ _,hargs _ hold,hvars _ hold,World.keptBut_mono (fun p hp=>⟨hp,?_⟩) (hb.frame (·∈before)),fun _=>?_⟩
 · rw [hps,List.mem_append] at hp
   exact Or.inr hp
 · obtain ⟨_,_,_,_,_,hz,hn⟩:=hW
   refine ⟨hok,_,_,([]++pa)++pv,⟨[]++pa,pv,trodAll_append (hargs _ (fun _ _=>rfl)) (hres _ _ _),hvars _ (fun _ _=>rfl),rfl,?_,?_⟩,?_⟩
   · intro b off hp
     have hin:MemPlace.cell b off∈before:=by rw [hps];simpa using hp
     rw [hb.frozen (hlt _ hin)]
     exact hz b off hin
   · intro ha
     have:=hn ha
     rw [hps] at this
     simpa using this
   · intro p hp _
     rw [hps]
     simpa using hp
theorem yHN (K:Kids P (·<P.types.size)) (hz:∀ t e,t<P.types.size→P.underlying t=some (.slice e)→0<P.cellsOf e) {n:FuncId} {fn:Func} {G:Nat→Option PV} {dss:List DS} {s:ChangeSpec} {bt:TypeId}
   (hty : tyL P dss fn.params.toList = true) (hrow : ∀ t ∈ fn.params.toList, t < P.types.size) (hf : P.funcs[n]? = some fn) (hn : (fn.name == "runtime.NumGoroutine") = false) (hb : fn.body.isSome = true)
   (hvars:s.vars=[]) (hfn:∀ ds:List (DataW H),ds.length=fn.params.toList.length→s.fn H (ds++[])={ results:=[.lit (.bool true)],args:=ds })
   (hrt:fn.resultTypes.toList=[bt]) (hbt:P.underlying bt=some .bool) (hsum:∀ as,HasAs dss as→SumOk P G n as (.bool true)) {apart fresh handsOn again:Bool}
   {W:World} {base:Nat} {args:Array Value} {ds gs:List (DataW H)} {before:List MemPlace} (hval:∀ (j:Nat) t v,fn.params[j]?=some t→args[j]?=some v→Value.okWide P W .any base t v)
   (hW:DataW.Whole enc P fn.params.toList s.vars apart W args.toList ds gs before) (J:Nat→Prop) (hJ:∀ b,J b→b<W.heap.size) (hG:GlobOk G (fun b=>(∃ p∈before,p.block=b)∨J b) W) :
   Calls P n args W fun e W'=>∃ v,e=.returned v∧s.post enc P fn apart fresh handsOn again W args v W':=by
 have hW':=hW
 obtain ⟨p,q,hA,hV,hpq,hfz,hnd⟩:=hW
 have hlt:∀ x∈before,x.block<W.heap.size:=fun x hx=>hW'.lt x hx
 rw [hvars] at hV
 obtain ⟨hgs,hq⟩:=trodVars_none hV
 subst hgs;subst hq
 rw [List.append_nil] at hpq
 subst hpq
 have hlen:ds.length=fn.params.toList.length:=by
   have len:∀ {ts:List TypeId} {vs:List Value} {xs:List (DataW H)} {ps:List MemPlace},DataW.TrodAll enc P W 0 (fun _=>true) true ts vs xs ps→xs.length=ts.length:=by
     intro ts
     induction ts with
     | nil =>
       intro vs xs ps h
       cases vs with
       | nil=>cases xs with
         | nil=>rfl
         | cons _ _=>exact h.elim
       | cons _ _=>exact h.elim
     | cons t ts ih =>
       intro vs xs ps h
       cases vs with
       | nil=>exact h.elim
       | cons v vs=>cases xs with
         | nil=>exact h.elim
         | cons x xs =>
           obtain ⟨_,_,_,h2,_⟩:=h
           simp [ih h2]
   exact len hA
 have hc:=yGv (I:=fun b=>(∃ x∈before,x.block=b)∨J b) K hty hrow hf hn hb hsum (W:=W) (base:=base) (args:=args) (fun j t v h1 h2=>hval j t v (by simpa using h1) (by simpa using h2)) hA (fun x hx=>.inl ⟨x,hx,rfl⟩)
   (fun b hb=>by
     rcases hb with ⟨x,hx,rfl⟩ | hb
     · exact hlt x hx
     · exact hJ b hb) hG
 refine hc.mono fun e W' ⟨he,hg⟩=>?_
 subst he
 have hrs:fn.resultTypes=#[bt]:=by rw [← Array.toList_inj];exact hrt
 refine ⟨_,rfl,ywL (pa:=before) (pv:=[]) hW' ?_ ?_ ?_ (by simp) hg ?_⟩
 · intro b sp hd
   rw [hfn ds hlen,hrs]
   exact trodAll_mk1 (shut_bool hbt true)
 · intro sp hs
   rw [hfn ds hlen]
   exact yEn K hz hg hrow hA hlt hs
 · intro sp hs
   rw [hfn ds hlen,hvars];rfl
 · intro j t r h1 h2
   rw [hrs] at h1 h2
   have hj:j=0:=by
     rcases j with _ | j
     · rfl
     · simp at h1
   subst hj
   simp at h1
   subst h1
   have:r=.bool true:=by
     have h3:((Value.bool true).resultList (#[bt]:Array TypeId).size)[0]?=some (.bool true):=rfl
     rw [h3] at h2
     exact (Option.some.inj h2).symm
   subst this
   exact okWide_bool_mk hbt true
end
end Go.Pf
namespace Go.Pf
open Go
def cellI:PV→Value
 | .int k n=>.int k n
 | _=>.bool false
def okL:List IntKind→List PV→Bool
 | [],[]=>true
 | k::ks,.int q n::r=>decide (q=k)&&(decide (k.min≤n)&&(decide (n≤k.max)&&okL ks r))
 | _,_=>false
def okI (ks:List IntKind):PV→Bool
 | .agg cs=>okL ks cs
 | _=>false
def encI (x:PV):List Value:=x.cells.map cellI
structure Srt where
 n:Nat
 g:Nat
 ks:List IntKind
 good:PV→Bool
 z:PV
def Srt.gd (s:Srt) (x:PV):Bool:=okI s.ks x&&s.good x
abbrev Srt.El (s:Srt):Type:={x:PV // s.gd x=true}
def Srt.enc (s:Srt) (x:s.El):List Value:=encI x.1
def Srt.rows? (s:Srt):List PV→Option (List s.El)
 | []=>some []
 | x::r=>if h:s.gd x=true then (match s.rows? r with | some l=>some (⟨x,h⟩::l) | none=>none) else none
def Srt.cond (s:Srt) (rows:List PV) (lo len ext esz:Nat) (fz:Bool):Bool :=
 decide (rows.length=ext)&&(decide (lo+len≤ext)&&(decide (0<len)&&(decide (esz=s.ks.length)&&(!fz&&(decide (len<4611686018427387904)&&(s.rows? ((rows.drop lo).take len)).isSome)))))
structure Srts where
 s:Srt
 cf:s.El→s.El→Int
abbrev EffF:Type:=Nat→List PV→Hp→Option (Bool×Bool×(PV×Hp)×(PV×Hp))
def lookE:List (Nat×EffF)→EffF
 | [],_,_,_=>none
 | (k,e)::r,n,xs,H=>bif Nat.beq n k then (match e n xs H with | some x=>some x | none=>lookE r n xs H) else lookE r n xs H
theorem yoi {P:Program} {E:Env}:∀ {l:List (Nat×EffF)},(∀ e∈l,InlineOk P E (fun n xs H=>armOf (e.2 n xs H)))→InlineOk P E (fun n xs H=>armOf (lookE l n xs H))
 | [],_=>fun _ _ _ _ _ h=>by cases h
 | (k,e)::r,h=>by
   intro f args H q H' hc
   dsimp only [lookE] at hc
   cases hb:Nat.beq f k with
   | false =>
     rw [hb,cond_false] at hc
     exact yoi (fun e2 h2=>h e2 (List.mem_cons_of_mem _ h2)) f args H q H' hc
   | true =>
     rw [hb,cond_true] at hc
     cases he:e f args H with
     | some x =>
       rw [he] at hc
       refine h (k,e) List.mem_cons_self f args H q H' ?_
       dsimp only
       rw [he]
       exact hc
     | none =>
       rw [he] at hc
       exact yoi (fun e2 h2=>h e2 (List.mem_cons_of_mem _ h2)) f args H q H' hc
def baseS (add sub:Nat) (tab:List (Nat×AFn)) (qui:List Nat) (cl:Clones) (gl:List (Nat×PV)) (ef:List (Nat×EffF)):Env:={ baseC add sub tab qui cl gl with eff:=lookE ef }
theorem yab {add sub:Nat} {tab:List (Nat×AFn)} {qui:List Nat} {cl:Clones} {gl:List (Nat×PV)} {ef:List (Nat×EffF)} {n:Nat} (h:special add sub cl n=false) (xs:List PV):(baseS add sub tab qui cl gl ef).sum n xs=none:=yEk (tab:=tab) (qui:=qui) (gl:=gl) h xs
theorem yHO {P:Program} {add sub:Nat} {tab:List (Nat×AFn)} {qui:List Nat} {cl:Clones} {gl:List (Nat×PV)} {ef:List (Nat×EffF)} (h:EnvOk P (baseC add sub tab qui cl gl))
   (hs:∀ e∈ef,InlineOk P (baseC add sub tab qui cl gl) (fun n xs H=>armOf (e.2 n xs H))):EnvOk P (baseS add sub tab qui cl gl ef) where
 sum:=h.sum
 fns:=h.fns
 eff:=InlineOk.env (E:=baseC add sub tab qui cl gl) (E':=baseS add sub tab qui cl gl ef) rfl (yoi hs)
end Go.Pf
namespace Go.Pf
abbrev lt {α:Type} (x:α) (f:α→Prop):Prop:=f x
abbrev jn {α:Type} (f:α→Prop) (k:α):Prop:=f k
def rvB (n d:Int):Bool:=decide (1≤d)&&(decide (d≤1000000000000000000)&&(decide (-1000000000000000000≤n)&&(decide (n≤1000000000000000000)&&decide (Nat.gcd n.natAbs d.natAbs=1))))
def cmpI (a b c d:Int):Int:=if a*d<c*b then -1 else if c*b<a*d then 1 else 0
def spGood:PV→Bool
 | .agg [.int _ a,.int _ b,_,_]=>rvB a b
 | _=>false
def rtGood:PV→Bool
 | .agg [.int _ a,.int _ b]=>rvB a b
 | _=>false
def spCmp:PV→PV→Int
 | .agg [.int _ a,.int _ b,_,_],.agg [.int _ c,.int _ d,_,_]=>cmpI a b c d
 | _,_=>0
def rtCmp:PV→PV→Int
 | .agg [.int _ a,.int _ b],.agg [.int _ c,.int _ d]=>cmpI a b c d
 | _,_=>0
def spSrt (n g:Nat):Srts:=⟨⟨n,g,[.i64,.i64,.i64,.i64],spGood,.agg [.int .i64 0,.int .i64 1,.int .i64 0,.int .i64 1]⟩,fun x y=>spCmp x.1 y.1⟩
def rtSrt (n g:Nat):Srts:=⟨⟨n,g,[.i64,.i64],rtGood,.agg [.int .i64 0,.int .i64 1]⟩,fun x y=>rtCmp x.1 y.1⟩
instance (n g:Nat):Inhabited (spSrt n g).s.El:=⟨⟨.agg [.int .i64 0,.int .i64 1,.int .i64 0,.int .i64 1],rfl⟩⟩
instance (n g:Nat):Inhabited (rtSrt n g).s.El:=⟨⟨.agg [.int .i64 0,.int .i64 1],rfl⟩⟩
structure EffG (E:List (Nat×EffF)→Env) (nums:List Nat) (e:List (Nat×EffF)):Prop where
 ok:EffOk (E e)
 num:∀ n,memN nums n=false→∀ xs H,(E e).eff n xs H=none
theorem yGw {add sub:Nat} {tab:List (Nat×AFn)} {qui:List Nat} {cl:Clones} {gl:List (Nat×PV)} {ef:List (Nat×EffF)} {n esz bytes:Nat} (h1:Nat.beq n add=false) (h2:Nat.beq n sub=false) (hc:cloneAt cl n=some (esz,bytes)) :
   ∀ as K,ywJ esz bytes as K→∃ r,K r∧Ans (baseS add sub tab qui cl gl ef) n as r:=by
 intro as K h
 unfold ywJ ywI at h
 split at h
 · rename_i rows
   obtain ⟨hk,h⟩:=yad.1 h
   refine ⟨_,h,0,fun m _=>?_⟩
   simp only [pureRes,baseS,baseC,yzC h1 h2,yu0 cl hc hk]
 · exact h.elim
theorem yGx {add sub:Nat} {tab:List (Nat×AFn)} {qui:List Nat} {cl:Clones} {gl:List (Nat×PV)} {ef:List (Nat×EffF)}:∀ as K,yq7 as K→∃ r,K r∧Ans (baseS add sub tab qui cl gl ef) add as r:=by
 intro as K h
 unfold yq7 yq6 at h
 split at h
 · rename_i a b c
   obtain ⟨h1,h⟩:=yad.1 h
   have h1:c.toNat≤1:=by simpa using h1
   refine ⟨_,h,0,fun m _=>?_⟩
   have e:sumC add sub add [.int .u64 a,.int .u64 b,.int .u64 c]=some (.tup [u64 ((a.toNat+b.toNat+c.toNat) % 18446744073709551616),u64 ((a.toNat+b.toNat+c.toNat) / 18446744073709551616)]):=by
     simp only [sumC,Nat.beq_refl,Bool.true_and,Nat.ble_eq_true_of_le h1,cond_true]
   simp only [pureRes,baseS,baseC,e,u64]
 · exact h.elim
theorem yGy {add sub:Nat} (hne:Nat.beq sub add=false) {tab:List (Nat×AFn)} {qui:List Nat} {cl:Clones} {gl:List (Nat×PV)} {ef:List (Nat×EffF)}:∀ as K,yq9 as K→∃ r,K r∧Ans (baseS add sub tab qui cl gl ef) sub as r:=by
 intro as K h
 unfold yq9 yq8 at h
 split at h
 · rename_i a b c
   obtain ⟨h1,h⟩:=yad.1 h
   have h1:c.toNat≤1:=by simpa using h1
   refine ⟨_,h,0,fun m _=>?_⟩
   have e:sumC add sub sub [.int .u64 a,.int .u64 b,.int .u64 c]=some (.tup [u64 ((a.toNat+18446744073709551616-b.toNat-c.toNat) % 18446744073709551616),u64 (bif Nat.ble (b.toNat+c.toNat) a.toNat then 0 else 1)]):=by
     simp only [sumC,hne,Nat.beq_refl,Bool.true_and,Bool.false_and,Nat.ble_eq_true_of_le h1,cond_true,cond_false]
   simp only [pureRes,baseS,baseC,e,u64]
 · exact h.elim
end Go.Pf
namespace Go.Pf.Vc
open Go Go.Pf
def yix:Nat:=79
def ydX:Nat:=44
def ydx:Nat:=35
def yiy:Nat:=45
def ymv:Nat:=13
def yfH:Nat:=14
def ygO:Nat:=4
def yiz:Nat:=16
def yeI:Nat:=60
def ydq:Nat:=61
def ybl:Nat:=32
def ycv:Nat:=21
def ybZ:Nat:=87
def yej:Nat:=80
def yj5:Nat:=46
def yaW:Nat:=22
def ygP:Nat:=68
def yaP:Nat:=51
def ybG:Nat:=52
def yca:Nat:=54
def ygQ:Nat:=69
def ycb:Nat:=34
def ybx:Nat:=63
def ya8:Nat:=67
def ydj:Nat:=84
def ybd:Nat:=50
def ycE:Nat:=93
def ycX:Nat:=89
def ydc:Nat:=53
def ycp:Nat:=94
def ybH:Nat:=91
def ygR:Nat:=90
def yfk:Nat:=83
def ybs:Nat:=66
def ycZ:Nat:=62
def ygz:Nat:=55
def ygA:Nat:=56
def ymw:Nat:=92
def ydk:Nat:=85
def yhu:Nat:=58
def ymx:Nat:=57
def ycg:Nat:=29
def ybg:Nat:=26
def ybI:Nat:=28
def yeg:Nat:=27
def ydL:Nat:=65
def yoj:Nat:=64
def ydy:Nat:=33
def ydz:Nat:=82
def ydY:Nat:=88
def yhv:Nat:=81
def yj6:Nat:=47
def yc0:Nat:=48
def yf7:Nat:=15
def ymy:Nat:=17
def yfl:Nat:=31
def yeJ:Nat:=18
def yby:Nat:=8
def yek:Nat:=43
def ycw:Nat:=12
def ydA:Nat:=24
def ydl:Nat:=23
def yf8:Nat:=25
def yel:Nat:=6
def yj7:Nat:=19
def yj8:Nat:=49
def yj9:Nat:=20
def yfm:Nat:=5
def ybp:Nat:=41
def ydd:Nat:=59
def ydB:Nat:=30
def ybJ:Nat:=40
def yfn:Nat:=42
def ybF:Nat:=11
def yc5:Nat:=7
def yiA:Nat:=70
def ygS:Nat:=71
def ycR:Nat:=74
def ymz:Nat:=86
def ygm:Nat:=75
def ygB:Nat:=76
def ygC:Nat:=77
def yem:Nat:=78
def yhw:Nat:=37
def ymA:Nat:=72
def ymB:Nat:=73
def yiB:Nat:=36
def ygD:Nat:=9
def yiC:Nat:=39
def yka:Nat:=38
def yhx:Nat:=10
def yhy:Nat:=3
def yCh:TFn:=⟨1,[.tmp 2],(.seq (oQ [O 1 (.boxL (.t 0)),O 2 (.mv (.c (.bool false)))] [0,2]) (.seq (.ops [O 3 (.fad 1 (.t 1)),oF 4 1 3,O 5 (.len (.t 4)),O 6 (.bin .gtr (.t 5) (I 60)),M 7 6,⟨some 8,(.fad 2 (.t 1)),some (7,false)⟩,⟨some 9,(.load false 1 (.t 8)),some (7,false)⟩,⟨some 10,(.len (.t 9)),some (7,false)⟩,⟨some 11,(.bin .gtr (.t 10) (I 60)),some (7,false)⟩,O 12 (.pick (.t 7) (.c (.bool true)) (.t 11)),M 2 12] [⟨1,(.agg [.i .i64,.d,.d]),0⟩,⟨6,(.agg [.i .i64,.d,.d]),0⟩] [] [1,3,4,5,6,7,8,9,10,11,12]) .ret))⟩
def ymC:TCode:=(.seq (.seq (oQ [M 4 3,M 5 0,O 6 (.len (.t 5)),oX 7 .lss 4 6] [4,5,6]) (.cond (.t 7) .skip (.exit 0))) (.seq (.block 1 (.seq (.ops [M 10 0,M 11 3,O 12 (.iad 3 (.t 10) (.t 11)),oT 13 3 12,O 14 (.call (.f yix) [(.t 13)])] [⟨2,(.agg [.i .i64,.d,.d]),0⟩,⟨3,(.agg [.i .i64,.d,.d]),0⟩] [] [7,10,11,12,13]) (.cond (.t 14) (.seq (oQ [O 2 (.mv (.c (.bool true)))] [0,3,14]) .ret) .skip))) (oQ [M 8 3,O 9 (.bin .add (.t 8) (I 1)),M 3 9] [8,9,14])))
def ytZ:TFn:=⟨1,[.tmp 2],(.seq (oQ [O 2 (.mv (.c (.bool false)))] [2]) (.seq (.seq (oQ [O 3 (.mv (I 0))] []) (.block 0 (.loop 4277600 ymC))) (.seq (oQ [M 15 0,O 16 (.len (.t 15)),O 17 (.bin .gtr (.t 16) (I 10)),M 2 17] [0,3,7,15,16,17]) .ret)))⟩
def ykb:TCode:=(.seq (.seq (.ops [M 53 4,O 54 (.fad 2 (.t 1)),oF 55 1 54,O 56 (.len (.t 55)),oX 57 .lss 53 56] [⟨2,(.agg [.i .i64,.d,.d]),0⟩] [] [53,54,55,56]) (.cond (.t 57) .skip (.exit 0))) (.seq (.block 1 (.seq (.seq (.ops [O 60 (.fad 1 (.t 1)),oF 61 1 60,M 62 4,O 63 (.bin .add (.t 62) (I 1)),O 64 (.iad 1 (.t 61) (.t 63)),oF 65 1 64,O 66 (.fad 1 (.t 1)),oF 67 1 66,M 68 4,O 69 (.iad 1 (.t 67) (.t 68)),oF 70 1 69,oX 71 .leq 65 70,M 72 71,⟨some 73,(.fad 2 (.t 1)),some (72,false)⟩,⟨some 74,(.load false 1 (.t 73)),some (72,false)⟩,⟨some 75,(.mv (.t 4)),some (72,false)⟩,⟨some 76,(.iad 1 (.t 74) (.t 75)),some (72,false)⟩,⟨some 77,(.load false 1 (.t 76)),some (72,false)⟩,⟨some 78,(.bin .lss (.t 77) (I 0)),some (72,false)⟩,O 79 (.pick (.t 72) (.c (.bool true)) (.t 78)),M 80 79,⟨some 81,(.fad 2 (.t 1)),some (80,false)⟩,⟨some 82,(.load false 1 (.t 81)),some (80,false)⟩,⟨some 83,(.mv (.t 4)),some (80,false)⟩,⟨some 84,(.iad 1 (.t 82) (.t 83)),some (80,false)⟩,⟨some 85,(.load false 1 (.t 84)),some (80,false)⟩,⟨some 86,(.bin .gtr (.t 85) (I 12)),some (80,false)⟩,O 87 (.pick (.t 80) (.c (.bool true)) (.t 86))] [⟨1,(.agg [.i .i64,.d,.d]),0⟩,⟨4,(.one (.i .i64)),0⟩,⟨5,(.one (.i .i64)),0⟩,⟨7,(.agg [.i .i64,.d,.d]),0⟩,⟨9,(.one (.i .i64)),0⟩,⟨10,(.one (.i .i64)),0⟩,⟨14,(.agg [.i .i64,.d,.d]),0⟩,⟨16,(.one (.i .i64)),0⟩,⟨17,(.one (.i .i64)),0⟩,⟨22,(.agg [.i .i64,.d,.d]),0⟩,⟨24,(.one (.i .i64)),0⟩,⟨25,(.one (.i .i64)),0⟩] [(0,2),(1,2),(0,3),(1,3),(0,6),(1,6),(2,6),(3,6),(4,6),(5,6),(0,7),(1,7),(2,7),(3,7),(4,7),(5,7),(0,8),(1,8),(2,8),(3,8),(4,8),(5,8),(6,8),(7,8),(0,9),(1,9),(2,9),(3,9),(4,9),(5,9),(0,10),(1,10),(2,10),(3,10),(4,10),(5,10),(13,15),(14,15),(21,23),(22,23)] [57,60,61,62,63,64,65,66,67,68,69,70,71,72,73,74,75,76,77,78,79,80,81,82,83,84,85,86]) (.cond (.t 87) (.seq (oQ [O 2 (.mv (I 8))] [1,3,4,87]) .ret) .skip)) (.ops [M 88 3,M 89 88,⟨some 90,(.fad 2 (.t 1)),some (89,false)⟩,⟨some 91,(.load false 1 (.t 90)),some (89,false)⟩,⟨some 92,(.mv (.t 4)),some (89,false)⟩,⟨some 93,(.iad 1 (.t 91) (.t 92)),some (89,false)⟩,⟨some 94,(.load false 1 (.t 93)),some (89,false)⟩,⟨some 95,(.bin .gtr (.t 94) (I 0)),some (89,false)⟩,O 96 (.pick (.t 89) (.c (.bool true)) (.t 95)),M 3 96] [⟨3,(.agg [.i .i64,.d,.d]),0⟩,⟨5,(.one (.i .i64)),0⟩,⟨6,(.one (.i .i64)),0⟩] [] [87,88,89,90,91,92,93,94,95,96]))) (oQ [M 58 4,O 59 (.bin .add (.t 58) (I 1)),M 4 59] [58,59])))
def yCi:TFn:=⟨1,[.tmp 2],(.seq (oQ [O 1 (.boxL (.t 0)),O 2 (.mv (I 0))] [0,2]) (.seq (.seq (.ops [O 5 (.fad 0 (.t 1)),oF 6 1 5,O 7 (.bin .gtr (.t 6) (I 1000)),M 8 7,⟨some 9,(.fad 1 (.t 1)),some (8,false)⟩,⟨some 10,(.load false 1 (.t 9)),some (8,false)⟩,⟨some 11,(.len (.t 10)),some (8,false)⟩,⟨some 12,(.bin .gtr (.t 11) (I 40)),some (8,false)⟩,O 13 (.pick (.t 8) (.c (.bool true)) (.t 12))] [⟨1,(.agg [.i .i64,.d,.d]),0⟩,⟨5,(.agg [.i .i64,.d,.d]),0⟩] [] [5,6,7,8,9,10,11,12]) (.cond (.t 13) (.seq (oQ [O 2 (.mv (I 4))] [1,13]) .ret) .skip)) (.seq (.seq (.ops [O 14 (.fad 0 (.t 1)),oF 15 1 14,O 16 (.bin .lss (.t 15) (I 1)),M 17 16,⟨some 18,(.fad 1 (.t 1)),some (17,false)⟩,⟨some 19,(.load false 1 (.t 18)),some (17,false)⟩,⟨some 20,(.len (.t 19)),some (17,false)⟩,⟨some 21,(.bin .lss (.t 20) (I 2)),some (17,false)⟩,O 22 (.pick (.t 17) (.c (.bool true)) (.t 21)),M 23 22,⟨some 24,(.fad 2 (.t 1)),some (23,false)⟩,⟨some 25,(.load false 1 (.t 24)),some (23,false)⟩,⟨some 26,(.len (.t 25)),some (23,false)⟩,⟨some 27,(.fad 1 (.t 1)),some (23,false)⟩,⟨some 28,(.load false 1 (.t 27)),some (23,false)⟩,⟨some 29,(.len (.t 28)),some (23,false)⟩,⟨some 30,(.bin .sub (.t 29) (I 1)),some (23,false)⟩,⟨some 31,(.bin .neq (.t 26) (.t 30)),some (23,false)⟩,O 32 (.pick (.t 23) (.c (.bool true)) (.t 31)),M 33 32,⟨some 34,(.fad 1 (.t 1)),some (33,false)⟩,⟨some 35,(.load false 1 (.t 34)),some (33,false)⟩,⟨some 36,(.iad 1 (.t 35) (I 0)),some (33,false)⟩,⟨some 37,(.load false 1 (.t 36)),some (33,false)⟩,⟨some 38,(.bin .neq (.t 37) (I 0)),some (33,false)⟩,O 39 (.pick (.t 33) (.c (.bool true)) (.t 38)),M 40 39,⟨some 41,(.fad 1 (.t 1)),some (40,false)⟩,⟨some 42,(.load false 1 (.t 41)),some (40,false)⟩,⟨some 43,(.fad 1 (.t 1)),some (40,false)⟩,⟨some 44,(.load false 1 (.t 43)),some (40,false)⟩,⟨some 45,(.len (.t 44)),some (40,false)⟩,⟨some 46,(.bin .sub (.t 45) (I 1)),some (40,false)⟩,⟨some 47,(.iad 1 (.t 42) (.t 46)),some (40,false)⟩,⟨some 48,(.load false 1 (.t 47)),some (40,false)⟩,⟨some 49,(.fad 0 (.t 1)),some (40,false)⟩,⟨some 50,(.load false 1 (.t 49)),some (40,false)⟩,⟨some 51,(.bin .neq (.t 48) (.t 50)),some (40,false)⟩,O 52 (.pick (.t 40) (.c (.bool true)) (.t 51))] [⟨1,(.agg [.i .i64,.d,.d]),0⟩,⟨5,(.agg [.i .i64,.d,.d]),0⟩,⟨11,(.agg [.i .i64,.d,.d]),0⟩,⟨14,(.agg [.i .i64,.d,.d]),0⟩,⟨21,(.agg [.i .i64,.d,.d]),0⟩,⟨22,(.one (.i .i64)),0⟩,⟨23,(.one (.i .i64)),0⟩,⟨28,(.agg [.i .i64,.d,.d]),0⟩,⟨30,(.agg [.i .i64,.d,.d]),0⟩,⟨33,(.one (.i .i64)),0⟩,⟨34,(.one (.i .i64)),0⟩,⟨36,(.agg [.i .i64,.d,.d]),0⟩] [(10,13),(11,13),(12,13),(10,14),(11,14),(12,14),(10,15),(11,15),(12,15),(10,16),(11,16),(12,16),(27,29),(28,29),(27,30),(28,30),(27,31),(28,31),(27,32),(28,32),(27,35),(28,35),(29,35),(30,35),(31,35),(32,35),(33,35),(34,35),(27,36),(28,36),(29,36),(30,36),(31,36),(32,36),(33,36),(34,36)] [13,14,15,16,17,18,19,20,21,22,23,24,25,26,27,28,29,30,31,32,33,34,35,36,37,38,39,40,41,42,43,44,45,46,47,48,49,50,51]) (.cond (.t 52) (.seq (oQ [O 2 (.mv (I 8))] [1,52]) .ret) .skip)) (.seq (oQ [O 3 (.mv (.c (.bool false)))] [52]) (.seq (.seq (oQ [O 4 (.mv (I 0))] []) (.block 0 (.loop 94526800 ykb))) (.seq (.seq (oQ [M 97 3,O 98 (.un .not (.t 97))] [1,3,4,57,97]) (.cond (.t 98) (.seq (oQ [O 2 (.mv (I 8))] [98]) .ret) .skip)) (.seq (oQ [O 2 (.mv (I 0))] [98]) .ret)))))))⟩
def ymD:TCode:=(.seq (.seq (.ops [M 19 3,O 20 (.fad 0 (.t 1)),oF 21 1 20,O 22 (.len (.t 21)),oX 23 .lss 19 22] [⟨2,(.agg [.d,.d]),0⟩] [] [19,20,21,22]) (.cond (.t 23) .skip (.exit 0))) (.seq (.block 1 (.seq (.ops [O 26 (.fad 0 (.t 1)),oF 27 1 26,M 28 3,O 29 (.iad 3 (.t 27) (.t 28)),oT 30 3 29,O 31 (.call (.f ydx) [(.t 30)]),O 32 (.bin .neq (.t 31) (I 0))] [⟨1,(.agg [.d,.d]),0⟩,⟨3,(.agg [.i .i64,.d,.d]),0⟩,⟨4,(.agg [.i .i64,.d,.d]),0⟩] [] [23,26,27,28,29,30,31]) (.cond (.t 32) (.seq (.ops [O 33 (.fad 0 (.t 1)),oF 34 1 33,M 35 3,O 36 (.iad 3 (.t 34) (.t 35)),oT 37 3 36,O 38 (.call (.f ydx) [(.t 37)]),M 2 38] [⟨1,(.agg [.d,.d]),0⟩,⟨3,(.agg [.i .i64,.d,.d]),0⟩,⟨4,(.agg [.i .i64,.d,.d]),0⟩] [] [1,3,32,33,34,35,36,37,38]) .ret) .skip))) (oQ [M 24 3,O 25 (.bin .add (.t 24) (I 1)),M 3 25] [24,25,32])))
def ymE:TCode:=(.seq (.seq (.ops [M 39 4,O 40 (.fad 0 (.t 1)),oF 41 1 40,O 42 (.len (.t 41)),oX 43 .lss 39 42] [⟨2,(.agg [.d,.d]),0⟩] [] [39,40,41,42]) (.cond (.t 43) .skip (.exit 2))) (.seq (.block 3 (.seq (.ops [O 46 (.fad 0 (.t 1)),oF 47 1 46,M 48 4,O 49 (.iad 3 (.t 47) (.t 48)),O 50 (.fad 0 (.t 49)),oF 51 1 50,O 52 (.fad 0 (.t 1)),oF 53 1 52,O 54 (.iad 3 (.t 53) (I 0)),O 55 (.fad 0 (.t 54)),oF 56 1 55,oX 57 .neq 51 56] [⟨1,(.agg [.d,.d]),0⟩,⟨3,(.agg [.i .i64,.d,.d]),0⟩,⟨5,(.agg [.i .i64,.d,.d]),0⟩,⟨7,(.agg [.d,.d]),0⟩,⟨8,(.agg [.i .i64,.d,.d]),0⟩,⟨10,(.agg [.i .i64,.d,.d]),0⟩] [(0,2),(1,2),(0,6),(1,6),(2,6),(3,6),(4,6),(5,6),(0,7),(1,7),(2,7),(3,7),(4,7),(5,7),(0,8),(1,8),(2,8),(3,8),(4,8),(5,8),(0,9),(1,9),(2,9),(3,9),(4,9),(5,9),(0,10),(1,10),(2,10),(3,10),(4,10),(5,10)] [43,46,47,48,49,50,51,52,53,54,55,56]) (.cond (.t 57) (.seq (oQ [O 2 (.mv (I 8))] [1,4,57]) .ret) .skip))) (oQ [M 44 4,O 45 (.bin .add (.t 44) (I 1)),M 4 45] [44,45,57])))
def yCj:TFn:=⟨1,[.tmp 2],(.seq (oQ [O 1 (.boxL (.t 0)),O 2 (.mv (I 0))] [0,2]) (.seq (.seq (.ops [O 5 (.fad 0 (.t 1)),oF 6 1 5,O 7 (.len (.t 6)),O 8 (.bin .gtr (.t 7) (I 6)),M 9 8,⟨some 10,(.fad 1 (.t 1)),some (9,false)⟩,⟨some 11,(.load false 1 (.t 10)),some (9,false)⟩,⟨some 12,(.len (.t 11)),some (9,false)⟩,⟨some 13,(.bin .gtr (.t 12) (I 2000)),some (9,false)⟩,O 14 (.pick (.t 9) (.c (.bool true)) (.t 13))] [⟨1,(.agg [.d,.d]),0⟩,⟨6,(.agg [.d,.d]),0⟩] [] [5,6,7,8,9,10,11,12,13]) (.cond (.t 14) (.seq (oQ [O 2 (.mv (I 4))] [1,14]) .ret) .skip)) (.seq (.seq (.ops [O 15 (.fad 0 (.t 1)),oF 16 1 15,O 17 (.len (.t 16)),O 18 (.bin .eql (.t 17) (I 0))] [⟨1,(.agg [.d,.d]),0⟩] [] [14,15,16,17]) (.cond (.t 18) (.seq (oQ [O 2 (.mv (I 8))] [1,18]) .ret) .skip)) (.seq (.seq (oQ [O 3 (.mv (I 0))] [18]) (.block 0 (.loop 6981300 ymD))) (.seq (.seq (oQ [O 4 (.mv (I 0))] [3,23]) (.block 2 (.loop 6981301 ymE))) (.seq (oQ [O 2 (.mv (I 0))] [1,4,43]) .ret))))))⟩
def yGz:TFn:=⟨1,[.tmp 2],(.seq (oQ [O 2 (.mv (.c (.bool false)))] [2]) (.seq (oQ [M 3 0,O 4 (.call (.f ydX) [(.t 3)]),O 5 (.un .not (.t 4)),M 6 5,⟨some 7,(.mv (.t 0)),some (6,true)⟩,⟨some 8,(.build [.nils,.nils] [(0,1,(.t 7))]),some (6,true)⟩,⟨some 9,(.call (.f yiy) [(.t 8)]),some (6,true)⟩,⟨some 10,(.bin .eql (.t 9) (I 0)),some (6,true)⟩,O 11 (.pick (.t 6) (.t 10) (.c (.bool false))),M 2 11] [0,3,4,5,6,7,8,9,10,11]) .ret))⟩
def ykc:TCode:=(.seq (.seq (.ops [M 4 3,O 5 (.fad 2 (.t 1)),oF 6 1 5,O 7 (.len (.t 6)),oX 8 .lss 4 7] [⟨2,(.agg [.i .i64,.d,.d]),0⟩] [] [4,5,6,7]) (.cond (.t 8) .skip (.exit 0))) (.seq (.block 1 (.seq (.ops [O 11 (.fad 2 (.t 1)),oF 12 1 11,M 13 3,O 14 (.iad 1 (.t 12) (.t 13)),oF 15 1 14,O 16 (.bin .eql (.t 15) (I 0))] [⟨1,(.agg [.i .i64,.d,.d]),0⟩,⟨3,(.one (.i .i64)),0⟩,⟨4,(.one (.i .i64)),0⟩] [] [8,11,12,13,14,15]) (.cond (.t 16) (.seq (oQ [O 2 (.mv (.c (.bool false)))] [1,3,16]) .ret) .skip))) (oQ [M 9 3,O 10 (.bin .add (.t 9) (I 1)),M 3 10] [9,10,16])))
def yAb:TFn:=⟨1,[.tmp 2],(.seq (oQ [O 1 (.boxL (.t 0)),O 2 (.mv (.c (.bool false)))] [0,2]) (.seq (.seq (oQ [O 3 (.mv (I 0))] []) (.block 0 (.loop 42667800 ykc))) (.seq (oQ [O 2 (.mv (.c (.bool true)))] [1,3,8]) .ret)))⟩
def yAc:TFn:=⟨2,[.tmp 4],(.seq (oQ [O 2 (.boxL (.t 0)),O 3 (.boxL (.t 1)),O 4 (.mv (.c (.bool false)))] [0,1,4]) (.seq (oQ [oT 5 3 2,oT 6 3 3,O 7 (.buildD 3 (.agg [(.int .i64 (0)),(.data []),(.data [])]) 2 [(0,(.t 5)),(1,(.t 6))]),O 8 (.call (.f ymv) [(.t 7)]),M 9 8,⟨some 10,(.load true 3 (.t 2)),some (9,true)⟩,⟨some 11,(.call (.f yfH) [(.t 10)]),some (9,true)⟩,O 12 (.pick (.t 9) (.t 11) (.c (.bool false))),M 13 12,⟨some 14,(.load true 3 (.t 3)),some (13,true)⟩,⟨some 15,(.call (.f yfH) [(.t 14)]),some (13,true)⟩,O 16 (.pick (.t 13) (.t 15) (.c (.bool false))),M 4 16] [2,3,5,6,7,8,9,10,11,12,13,14,15,16]) .ret))⟩
def yCk:TFn:=⟨0,[.tmp 0],(.seq (oQ [O 0 (.mv (.c .nils))] [0]) (.seq (oQ [O 1 (.buildD 1 (.int .i64 (0)) 2 [(0,(I 0)),(1,(I 6))]),O 2 (.buildD 1 (.int .i64 (0)) 1 [(0,(I 1))]),O 3 (.build [(.int .i64 (0)),.nils,.nils] [(0,1,(I 6)),(1,1,(.t 1)),(2,1,(.t 2))]),O 4 (.buildD 1 (.int .i64 (0)) 3 [(0,(I 0)),(1,(I 4)),(2,(I 6))]),O 5 (.buildD 1 (.int .i64 (0)) 2 [(0,(I 1)),(1,(I 4))]),O 6 (.build [(.int .i64 (0)),.nils,.nils] [(0,1,(I 6)),(1,1,(.t 4)),(2,1,(.t 5))]),O 7 (.buildD 1 (.int .i64 (0)) 3 [(0,(I 0)),(1,(I 2)),(2,(I 6))]),O 8 (.buildD 1 (.int .i64 (0)) 2 [(0,(I 2)),(1,(I 0))]),O 9 (.build [(.int .i64 (0)),.nils,.nils] [(0,1,(I 6)),(1,1,(.t 7)),(2,1,(.t 8))]),O 10 (.buildSl true 3 (.agg [(.int .i64 (0)),(.data []),(.data [])]) 3 [(0,(.t 3)),(1,(.t 6)),(2,(.t 9))]),M 0 10] [1,2,3,4,5,6,7,8,9,10]) .ret))⟩
def ykd:TCode:=(.seq (.seq (oQ [M 12 4,M 13 0,O 14 (.len (.t 13)),oX 15 .lss 12 14] [12,13,14]) (.cond (.t 15) .skip (.exit 0))) (.seq (.block 1 (.ops [M 18 3,M 19 0,M 20 4,O 21 (.iad 1 (.t 19) (.t 20)),oF 22 1 21,O 23 (.minmax false [(.t 18),(.t 22)]),M 3 23] [⟨3,(.one (.i .i64)),0⟩,⟨4,(.one (.i .i64)),0⟩] [] [15,18,19,20,21,22,23])) (oQ [M 16 4,O 17 (.bin .add (.t 16) (I 1)),M 4 17] [16,17])))
def yvA:TFn:=⟨1,[.tmp 2],(.seq (oQ [O 2 (.mv (I 0))] [2]) (.seq (.seq (oQ [M 5 0,O 6 (.len (.t 5)),O 7 (.bin .lss (.t 6) (I 1))] [5,6]) (.cond (.t 7) (oQ [⟨some 8,.bad,none⟩,⟨none,.bad,none⟩] [7,8]) .skip)) (.seq (.ops [M 9 0,O 10 (.iad 1 (.t 9) (I 0)),oF 11 1 10,M 3 11] [⟨1,(.one (.i .i64)),0⟩,⟨2,(.one (.i .i64)),0⟩] [] [7,9,10,11]) (.seq (.seq (oQ [O 4 (.mv (I 1))] []) (.block 0 (.loop 10434000 ykd))) (.seq (oQ [M 24 3,M 2 24] [0,3,4,15,24]) .ret)))))⟩
def yke:TCode:=(.seq (.seq (oQ [M 12 4,M 13 0,O 14 (.len (.t 13)),oX 15 .lss 12 14] [12,13,14]) (.cond (.t 15) .skip (.exit 0))) (.seq (.block 1 (.ops [M 18 3,M 19 0,M 20 4,O 21 (.iad 1 (.t 19) (.t 20)),oF 22 1 21,O 23 (.minmax true [(.t 18),(.t 22)]),M 3 23] [⟨3,(.one (.i .i64)),0⟩,⟨4,(.one (.i .i64)),0⟩] [] [15,18,19,20,21,22,23])) (oQ [M 16 4,O 17 (.bin .add (.t 16) (I 1)),M 4 17] [16,17])))
def yvB:TFn:=⟨1,[.tmp 2],(.seq (oQ [O 2 (.mv (I 0))] [2]) (.seq (.seq (oQ [M 5 0,O 6 (.len (.t 5)),O 7 (.bin .lss (.t 6) (I 1))] [5,6]) (.cond (.t 7) (oQ [⟨some 8,.bad,none⟩,⟨none,.bad,none⟩] [7,8]) .skip)) (.seq (.ops [M 9 0,O 10 (.iad 1 (.t 9) (I 0)),oF 11 1 10,M 3 11] [⟨1,(.one (.i .i64)),0⟩,⟨2,(.one (.i .i64)),0⟩] [] [7,9,10,11]) (.seq (.seq (oQ [O 4 (.mv (I 1))] []) (.block 0 (.loop 64079100 yke))) (.seq (oQ [M 24 3,M 2 24] [0,3,4,15,24]) .ret)))))⟩
def ykf:TCode:=(.seq (oQ [oX 51 .lss 50 49] []) (.seq (.cond (.t 51) .skip (.exit 0)) (.seq (.block 1 (.seq (oQ [M 52 50,M 4 52] [51,52]) (.seq (.ops [O 53 (.fad 1 (.t 1)),oF 54 1 53,M 55 4,O 56 (.iad 1 (.t 54) (.t 55)),oF 57 1 56,O 58 (.fad 1 (.t 1)),oF 59 1 58,M 60 4,O 61 (.bin .add (.t 60) (I 1)),O 62 (.iad 1 (.t 59) (.t 61)),oF 63 1 62,oX 64 .geq 57 63] [⟨1,(.agg [.i .i64,.d,.d]),0⟩,⟨3,(.one (.i .i64)),0⟩,⟨4,(.one (.i .i64)),0⟩,⟨6,(.agg [.i .i64,.d,.d]),0⟩,⟨9,(.one (.i .i64)),0⟩,⟨10,(.one (.i .i64)),0⟩] [(0,2),(1,2),(0,5),(1,5),(2,5),(3,5),(4,5),(0,6),(1,6),(2,6),(3,6),(4,6),(0,7),(1,7),(2,7),(3,7),(4,7),(5,7),(6,7),(0,8),(1,8),(2,8),(3,8),(4,8),(5,8),(6,8),(0,9),(1,9),(2,9),(3,9),(4,9),(0,10),(1,10),(2,10),(3,10),(4,10)] [4,53,54,55,56,57,58,59,60,61,62,63]) (.cond (.t 64) (.seq (oQ [O 2 (.mv (I 8))] [1,49,50,64]) .ret) .skip)))) (oQ [O 65 (.bin .add (.t 50) (I 1)),M 50 65] [64,65]))))
def yAd:TFn:=⟨1,[.tmp 2],(.seq (oQ [O 1 (.boxL (.t 0)),O 2 (.mv (I 0))] [0,2]) (.seq (.ops [O 5 (.fad 1 (.t 1)),oF 6 1 5,O 7 (.len (.t 6)),M 3 7] [⟨1,(.agg [.i .i64,.d,.d]),0⟩] [] [5,6,7]) (.seq (.seq (.ops [O 8 (.fad 0 (.t 1)),oF 9 1 8,O 10 (.bin .gtr (.t 9) (I 1000)),M 11 10,⟨some 12,(.mv (.t 3)),some (11,false)⟩,⟨some 13,(.bin .gtr (.t 12) (I 40)),some (11,false)⟩,O 14 (.pick (.t 11) (.c (.bool true)) (.t 13))] [⟨1,(.agg [.i .i64,.d,.d]),0⟩] [] [8,9,10,11,12,13]) (.cond (.t 14) (.seq (oQ [O 2 (.mv (I 4))] [1,3,14]) .ret) .skip)) (.seq (.seq (.ops [O 15 (.fad 0 (.t 1)),oF 16 1 15,O 17 (.bin .lss (.t 16) (I 1)),M 18 17,⟨some 19,(.mv (.t 3)),some (18,false)⟩,⟨some 20,(.bin .lss (.t 19) (I 2)),some (18,false)⟩,O 21 (.pick (.t 18) (.c (.bool true)) (.t 20)),M 22 21,⟨some 23,(.fad 2 (.t 1)),some (22,false)⟩,⟨some 24,(.load false 1 (.t 23)),some (22,false)⟩,⟨some 25,(.len (.t 24)),some (22,false)⟩,⟨some 26,(.mv (.t 3)),some (22,false)⟩,⟨some 27,(.bin .sub (.t 26) (I 1)),some (22,false)⟩,⟨some 28,(.bin .neq (.t 25) (.t 27)),some (22,false)⟩,O 29 (.pick (.t 22) (.c (.bool true)) (.t 28)),M 30 29,⟨some 31,(.fad 1 (.t 1)),some (30,false)⟩,⟨some 32,(.load false 1 (.t 31)),some (30,false)⟩,⟨some 33,(.iad 1 (.t 32) (I 0)),some (30,false)⟩,⟨some 34,(.load false 1 (.t 33)),some (30,false)⟩,⟨some 35,(.bin .neq (.t 34) (I 0)),some (30,false)⟩,O 36 (.pick (.t 30) (.c (.bool true)) (.t 35)),M 37 36,⟨some 38,(.fad 1 (.t 1)),some (37,false)⟩,⟨some 39,(.load false 1 (.t 38)),some (37,false)⟩,⟨some 40,(.mv (.t 3)),some (37,false)⟩,⟨some 41,(.bin .sub (.t 40) (I 1)),some (37,false)⟩,⟨some 42,(.iad 1 (.t 39) (.t 41)),some (37,false)⟩,⟨some 43,(.load false 1 (.t 42)),some (37,false)⟩,⟨some 44,(.fad 0 (.t 1)),some (37,false)⟩,⟨some 45,(.load false 1 (.t 44)),some (37,false)⟩,⟨some 46,(.bin .neq (.t 43) (.t 45)),some (37,false)⟩,O 47 (.pick (.t 37) (.c (.bool true)) (.t 46))] [⟨1,(.agg [.i .i64,.d,.d]),0⟩,⟨9,(.agg [.i .i64,.d,.d]),0⟩,⟨17,(.agg [.i .i64,.d,.d]),0⟩,⟨18,(.one (.i .i64)),0⟩,⟨19,(.one (.i .i64)),0⟩,⟨24,(.agg [.i .i64,.d,.d]),0⟩,⟨27,(.one (.i .i64)),0⟩,⟨28,(.one (.i .i64)),0⟩,⟨30,(.agg [.i .i64,.d,.d]),0⟩] [(8,11),(9,11),(10,11),(8,12),(9,12),(10,12),(23,25),(24,25),(23,26),(24,26),(23,29),(24,29),(25,29),(26,29),(27,29),(28,29),(23,30),(24,30),(25,30),(26,30),(27,30),(28,30)] [14,15,16,17,18,19,20,21,22,23,24,25,26,27,28,29,30,31,32,33,34,35,36,37,38,39,40,41,42,43,44,45,46]) (.cond (.t 47) (.seq (oQ [O 2 (.mv (I 8))] [1,3,47]) .ret) .skip)) (.seq (.seq (oQ [M 48 3,O 49 (.bin .sub (.t 48) (I 1)),O 50 (.mv (I 0))] [3,47,48]) (.block 0 (.loop 87419700 ykf))) (.seq (.seq (.ops [O 66 (.fad 2 (.t 1)),oF 67 1 66,O 68 (.call (.f yeI) [(.t 67)]),O 69 (.bin .lss (.t 68) (I 0)),M 70 69,⟨some 71,(.fad 2 (.t 1)),some (70,false)⟩,⟨some 72,(.load false 1 (.t 71)),some (70,false)⟩,⟨some 73,(.call (.f ydq) [(.t 72)]),some (70,false)⟩,⟨some 74,(.bin .gtr (.t 73) (I 12)),some (70,false)⟩,O 75 (.pick (.t 70) (.c (.bool true)) (.t 74)),M 76 75,⟨some 77,(.fad 2 (.t 1)),some (76,false)⟩,⟨some 78,(.load false 1 (.t 77)),some (76,false)⟩,⟨some 79,(.call (.f ydq) [(.t 78)]),some (76,false)⟩,⟨some 80,(.bin .eql (.t 79) (I 0)),some (76,false)⟩,O 81 (.pick (.t 76) (.c (.bool true)) (.t 80))] [⟨1,(.agg [.i .i64,.d,.d]),0⟩,⟨6,(.agg [.i .i64,.d,.d]),0⟩,⟨12,(.agg [.i .i64,.d,.d]),0⟩] [] [1,49,50,51,66,67,68,69,70,71,72,73,74,75,76,77,78,79,80]) (.cond (.t 81) (.seq (oQ [O 2 (.mv (I 8))] [81]) .ret) .skip)) (.seq (oQ [O 2 (.mv (I 0))] [81]) .ret)))))))⟩
def ykg:TCode:=(.seq (oQ [oX 26 .lss 25 24] []) (.seq (.cond (.t 26) .skip (.exit 0)) (.seq (.block 1 (.seq (.ops [O 27 (.iad 3 (.t 23) (.t 25)),oT 28 3 27,O 4 (.allocL (.agg [(.int .i64 (0)),.nils,.nils])),⟨none,(.store 3 (.t 4) (.t 28)),none⟩] [⟨0,(.agg [.i .i64,.d,.d]),0⟩,⟨1,(.agg [.i .i64,.d,.d]),0⟩] [] [26,27,28]) (.seq (oQ [oT 29 3 4,O 30 (.call (.f ybl) [(.t 29)]),M 5 30] [4,29,30]) (.seq (oQ [M 31 5,O 32 (.bin .neq (.t 31) (I 0))] [31]) (.cond (.t 32) (.seq (oQ [M 33 5,M 2 33] [1,5,23,24,25,32,33]) .ret) .skip))))) (oQ [O 34 (.bin .add (.t 25) (I 1)),M 25 34] [5,32,34]))))
def ykh:TCode:=(.seq (oQ [oX 39 .lss 38 37] []) (.seq (.cond (.t 39) .skip (.exit 2)) (.seq (.block 3 (.seq (.ops [O 40 (.iad 3 (.t 36) (.t 38)),oT 41 3 40,O 7 (.allocL (.agg [(.int .i64 (0)),.nils,.nils])),⟨none,(.store 3 (.t 7) (.t 41)),none⟩] [⟨0,(.agg [.i .i64,.d,.d]),0⟩,⟨1,(.agg [.i .i64,.d,.d]),0⟩] [] [39,40,41]) (.seq (.ops [O 42 (.fad 0 (.t 7)),oF 43 1 42,O 44 (.fad 0 (.t 1)),oF 45 1 44,O 46 (.iad 3 (.t 45) (I 0)),O 47 (.fad 0 (.t 46)),oF 48 1 47,oX 49 .neq 43 48] [⟨1,(.agg [.i .i64,.d,.d]),0⟩,⟨3,(.agg [.d,.d]),0⟩,⟨4,(.agg [.i .i64,.d,.d]),0⟩,⟨6,(.agg [.i .i64,.d,.d]),0⟩] [(0,2),(1,2),(0,3),(1,3),(0,4),(1,4),(0,5),(1,5),(0,6),(1,6)] [7,42,43,44,45,46,47,48]) (.cond (.t 49) (.seq (oQ [O 2 (.mv (I 8))] [1,36,37,38,49]) .ret) .skip)))) (oQ [O 50 (.bin .add (.t 38) (I 1)),M 38 50] [49,50]))))
def yCl:TFn:=⟨1,[.tmp 2],(.seq (oQ [O 1 (.boxL (.t 0)),O 2 (.mv (I 0))] [0,2]) (.seq (.seq (.ops [O 8 (.fad 0 (.t 1)),oF 9 1 8,O 10 (.len (.t 9)),O 11 (.bin .gtr (.t 10) (I 6)),M 12 11,⟨some 13,(.fad 1 (.t 1)),some (12,false)⟩,⟨some 14,(.load false 1 (.t 13)),some (12,false)⟩,⟨some 15,(.len (.t 14)),some (12,false)⟩,⟨some 16,(.bin .gtr (.t 15) (I 2000)),some (12,false)⟩,O 17 (.pick (.t 12) (.c (.bool true)) (.t 16))] [⟨1,(.agg [.d,.d]),0⟩,⟨6,(.agg [.d,.d]),0⟩] [] [8,9,10,11,12,13,14,15,16]) (.cond (.t 17) (.seq (oQ [O 2 (.mv (I 4))] [1,17]) .ret) .skip)) (.seq (.seq (.ops [O 18 (.fad 0 (.t 1)),oF 19 1 18,O 20 (.len (.t 19)),O 21 (.bin .eql (.t 20) (I 0))] [⟨1,(.agg [.d,.d]),0⟩] [] [17,18,19,20]) (.cond (.t 21) (.seq (oQ [O 2 (.mv (I 8))] [1,21]) .ret) .skip)) (.seq (.seq (.ops [O 22 (.fad 0 (.t 1)),oF 23 1 22,O 24 (.len (.t 23)),O 25 (.mv (I 0))] [⟨1,(.agg [.d,.d]),0⟩] [] [21,22]) (.block 0 (.loop 12157600 ykg))) (.seq (.seq (.ops [O 35 (.fad 0 (.t 1)),oF 36 1 35,O 37 (.len (.t 36)),O 38 (.mv (I 0))] [⟨1,(.agg [.d,.d]),0⟩] [] [23,24,25,26,35]) (.block 2 (.loop 12157601 ykh))) (.seq (oQ [O 2 (.mv (I 0))] [1,36,37,38,39]) .ret))))))⟩
def yFT:TFn:=⟨1,[.tmp 2],(.seq (oQ [O 2 (.mv (.c .nils))] [2]) (.seq (.seq (oQ [M 3 0,O 4 (.eqN false (.t 3))] [3]) (.cond (.t 4) (.seq (oQ [O 2 (.mv (.c .nils))] [0,4]) .ret) .skip)) (.seq (oQ [O 5 (.buildSl true 1 (.int .i64 (0)) 0 []),M 6 0,O 7 (.app true 1 8 (.t 5) (.t 6)),M 2 7] [0,4,5,6,7]) .ret)))⟩
def yhz:TCode:=(.seq (oQ [oX 9 .lss 8 7] []) (.seq (.cond (.t 9) .skip (.exit 0)) (.seq (.block 1 (.seq (.ops [O 10 (.iad 3 (.t 6) (.t 8)),oT 11 3 10,O 5 (.allocL (.agg [(.int .i64 (0)),.nils,.nils])),⟨none,(.store 3 (.t 5) (.t 11)),none⟩] [⟨0,(.agg [.i .i64,.d,.d]),0⟩,⟨1,(.agg [.i .i64,.d,.d]),0⟩] [] [9,10,11]) (.ops [M 12 3,O 13 (.fad 0 (.t 5)),oF 14 1 13,O 15 (.fad 1 (.t 5)),oF 16 1 15,O 17 (.call (.f ybZ) [(.t 16)]),O 18 (.fad 2 (.t 5)),oF 19 1 18,O 20 (.call (.f ybZ) [(.t 19)]),O 21 (.build [(.int .i64 (0)),.nils,.nils] [(0,1,(.t 14)),(1,1,(.t 17)),(2,1,(.t 20))]),O 22 (.buildD 3 (.agg [(.int .i64 (0)),(.data []),(.data [])]) 1 [(0,(.t 21))]),O 23 (.app true 3 56 (.t 12) (.t 22)),M 3 23] [⟨2,(.agg [.i .i64,.d,.d]),0⟩,⟨4,(.agg [.i .i64,.d,.d]),0⟩,⟨7,(.agg [.i .i64,.d,.d]),0⟩] [(0,1),(0,2),(0,3),(1,3),(2,3),(0,4),(1,4),(2,4),(0,5),(1,5),(2,5),(0,6),(1,6),(2,6),(3,6),(4,6),(5,6),(0,7),(1,7),(2,7),(3,7),(4,7),(5,7),(0,8),(1,8),(2,8),(0,9),(0,10)] [5,12,13,14,15,16,17,18,19,20,21,22,23]))) (oQ [O 24 (.bin .add (.t 8) (I 1)),M 8 24] [24]))))
def yAe:TFn:=⟨1,[.tmp 2],(.seq (oQ [O 2 (.mv (.c .nils))] [2]) (.seq (oQ [O 3 (.mv (.c .nils))] []) (.seq (.seq (oQ [M 6 0,O 7 (.len (.t 6)),O 8 (.mv (I 0))] [0]) (.block 0 (.loop 94933800 yhz))) (.seq (oQ [M 25 3,M 2 25] [3,6,7,8,9,25]) .ret))))⟩
def yEo:TFn:=⟨1,[.cell 2 true 2,.tmp 3],(.seq (oQ [O 2 (.allocL (.agg [.nils,.nils])),O 3 (.mv (I 0))] [3]) (.seq (.seq (oQ [M 5 0,O 6 (.build [.nils,.nils] [(0,1,(.t 5))]),O 7 (.call (.f ycv) [(.t 6)]),M 4 7] [5,6,7]) (.seq (oQ [M 8 4,O 9 (.bin .neq (.t 8) (I 0))] [8]) (.cond (.t 9) (.seq (oQ [O 10 (.build [.nils,.nils] []),M 11 4,⟨none,(.store 2 (.t 2) (.t 10)),none⟩,M 3 11] [0,4,9,10,11]) .ret) .skip))) (.seq (oQ [M 12 0,O 13 (.call (.f yej) [(.t 12)]),O 14 (.build [.nils,.nils] [(0,1,(.t 13))]),⟨none,(.store 2 (.t 2) (.t 14)),none⟩,O 3 (.mv (I 0))] [0,4,9,12,13,14]) .ret)))⟩
def yyd:TFn:=⟨1,[.cell 2 true 2],(.seq (oQ [O 2 (.allocL (.agg [(.int .i64 (0)),(.int .i64 (0))]))] []) (.seq (oQ [M 3 0,O 4 (.build [(.int .i64 (0)),(.int .i64 (0))] [(0,1,(.t 3)),(1,1,(I 1))]),⟨none,(.store 2 (.t 2) (.t 4)),none⟩] [0,3,4]) .ret))⟩
def yki:TCode:=(.seq (oQ [oX 17 .lss 16 15] []) (.seq (.cond (.t 17) .skip (.exit 0)) (.seq (.block 1 (.seq (.ops [M 18 16,O 19 (.iad 1 (.t 14) (.t 16)),oF 20 1 19,M 6 18,M 7 20] [⟨1,(.one (.i .i64)),0⟩,⟨2,(.one (.i .i64)),0⟩] [] [17,18,19,20]) (.ops [M 21 5,M 22 7,O 23 (.fad 1 (.t 1)),oF 24 1 23,M 25 6,O 26 (.bin .add (.t 25) (I 1)),O 27 (.iad 1 (.t 24) (.t 26)),oF 28 1 27,O 29 (.fad 1 (.t 1)),oF 30 1 29,M 31 6,O 32 (.iad 1 (.t 30) (.t 31)),oF 33 1 32,oX 34 .sub 28 33,oX 35 .mul 22 34,oX 36 .add 21 35,M 5 36] [⟨3,(.agg [.i .i64,.d,.d]),0⟩,⟨6,(.one (.i .i64)),0⟩,⟨7,(.one (.i .i64)),0⟩,⟨9,(.agg [.i .i64,.d,.d]),0⟩,⟨11,(.one (.i .i64)),0⟩,⟨12,(.one (.i .i64)),0⟩] [(0,1),(0,2),(1,2),(0,3),(1,3),(0,4),(1,4),(2,4),(3,4),(0,5),(1,5),(2,5),(3,5),(0,6),(1,6),(0,7),(1,7),(0,8),(1,8),(2,8),(3,8),(4,8),(5,8),(6,8),(7,8),(0,9),(1,9),(2,9),(3,9),(4,9),(5,9),(6,9),(7,9),(0,10),(1,10),(2,10),(3,10),(4,10),(5,10),(6,10),(7,10),(8,10),(9,10),(0,11),(1,11),(2,11),(3,11),(4,11),(5,11),(6,11),(7,11),(0,12),(1,12),(2,12),(3,12),(4,12),(5,12),(6,12),(7,12),(0,13),(1,13),(0,14)] [6,7,21,22,23,24,25,26,27,28,29,30,31,32,33,34,35,36]))) (oQ [O 37 (.bin .add (.t 16) (I 1)),M 16 37] [37]))))
def yAf:TFn:=⟨1,[.tmp 2,.tmp 3],(.seq (oQ [O 1 (.boxL (.t 0)),O 2 (.mv (I 0)),O 3 (.mv (I 0))] [0,2,3]) (.seq (.seq (oQ [oT 8 3 1,O 9 (.call (.f ybl) [(.t 8)]),M 4 9] [8,9]) (.seq (oQ [M 10 4,O 11 (.bin .neq (.t 10) (I 0))] [10]) (.cond (.t 11) (.seq (oQ [M 12 4,O 2 (.mv (I 0)),M 3 12] [1,4,11,12]) .ret) .skip))) (.seq (oQ [O 5 (.mv (I 0))] [4,11]) (.seq (.seq (.ops [O 13 (.fad 2 (.t 1)),oF 14 1 13,O 15 (.len (.t 14)),O 16 (.mv (I 0))] [⟨1,(.agg [.i .i64,.d,.d]),0⟩] [] [13]) (.block 0 (.loop 45203600 yki))) (.seq (oQ [M 38 5,M 2 38,O 3 (.mv (I 0))] [1,5,14,15,16,17,38]) .ret)))))⟩
def yAg:TFn:=⟨1,[.tmp 2],(.seq (oQ [O 2 (.mv (.c (.int .u64 (0))))] [2]) (.seq (.seq (oQ [M 3 0,O 4 (.bin .lss (.t 3) (I 0))] [3]) (.cond (.t 4) (.seq (oQ [M 5 0,O 6 (.conv .u64 (.t 5)),O 7 (.un .neg (.t 6)),M 2 7] [0,4,5,6,7]) .ret) .skip)) (.seq (oQ [M 8 0,O 9 (.conv .u64 (.t 8)),M 2 9] [0,4,8,9]) .ret)))⟩
def ykj:TCode:=(.seq (.seq (oQ [M 5 1,O 6 (.bin .gtr (.t 5) (.c (.int .u64 (0))))] [5]) (.cond (.t 6) .skip (.exit 0))) (.block 1 (.ops [M 7 1,M 8 0,M 9 1,oX 10 .rem 8 9,M 0 7,M 1 10] [] [(0,1),(0,2),(1,2),(0,3),(2,4),(3,4)] [6,7,8,9,10])))
def yCm:TFn:=⟨2,[.tmp 4],(.seq (oQ [O 4 (.mv (.c (.int .u64 (0))))] [4]) (.seq (.block 0 (.loop 32725300 ykj)) (.seq (oQ [M 11 0,M 4 11] [0,1,6,11]) .ret)))⟩
def ywM:TFn:=⟨3,[.cell 6 true 2,.tmp 7],(.seq (oQ [O 6 (.allocL (.agg [(.int .i64 (0)),(.int .i64 (0))])),O 7 (.mv (I 0))] [7]) (.seq (.seq (oQ [M 8 1,M 9 2,O 10 (.minmax true [(.t 8),(.t 9)]),O 11 (.bin .gtr (.t 10) (.c (.int .u64 (1000000000000000000))))] [8,9,10]) (.cond (.t 11) (.seq (oQ [O 12 (.build [(.int .i64 (0)),(.int .i64 (0))] []),⟨none,(.store 2 (.t 6) (.t 12)),none⟩,O 7 (.mv (I 16))] [0,1,2,11,12]) .ret) .skip)) (.seq (.seq (oQ [M 13 0] [0,11]) (.cond (.t 13) (.seq (oQ [M 14 1,O 15 (.conv .i64 (.t 14)),O 16 (.un .neg (.t 15)),M 17 2,O 18 (.conv .i64 (.t 17)),O 19 (.build [(.int .i64 (0)),(.int .i64 (0))] [(0,1,(.t 16)),(1,1,(.t 18))]),⟨none,(.store 2 (.t 6) (.t 19)),none⟩,O 7 (.mv (I 0))] [1,2,13,14,15,16,17,18,19]) .ret) .skip)) (.seq (oQ [M 20 1,O 21 (.conv .i64 (.t 20)),M 22 2,O 23 (.conv .i64 (.t 22)),O 24 (.build [(.int .i64 (0)),(.int .i64 (0))] [(0,1,(.t 21)),(1,1,(.t 23))]),⟨none,(.store 2 (.t 6) (.t 24)),none⟩,O 7 (.mv (I 0))] [1,2,13,20,21,22,23,24]) .ret))))⟩
def yAh:TFn:=⟨2,[.cell 4 true 2,.tmp 5],(.seq (oQ [O 4 (.allocL (.agg [(.int .i64 (0)),(.int .i64 (0))])),O 5 (.mv (I 0))] [5]) (.seq (.seq (oQ [M 9 1,O 10 (.bin .eql (.t 9) (I 0))] [9]) (.cond (.t 10) (.seq (oQ [O 11 (.build [(.int .i64 (0)),(.int .i64 (0))] []),⟨none,(.store 2 (.t 4) (.t 11)),none⟩,O 5 (.mv (I 18))] [0,1,10,11]) .ret) .skip)) (.seq (oQ [M 12 0,O 13 (.call (.f yaP) [(.t 12)]),M 14 1,O 15 (.call (.f yaP) [(.t 14)]),M 6 13,M 7 15] [10,12,13,14,15]) (.seq (oQ [M 16 6,M 17 7,O 18 (.call (.f ybG) [(.t 16),(.t 17)]),M 8 18] [16,17,18]) (.seq (.ops [M 19 0,O 20 (.bin .lss (.t 19) (I 0)),M 21 1,O 22 (.bin .lss (.t 21) (I 0)),O 23 (.eqB true (.t 20) (.t 22)),M 24 6,M 25 8,oX 26 .quo 24 25,M 27 7,M 28 8,oX 29 .quo 27 28,O 30 (.call (.f yca) [(.t 23),(.t 26),(.t 29)]),O 31 (.ext (.t 30) 0),O 32 (.ext (.t 30) 1),⟨none,(.store 2 (.t 4) (.t 31)),none⟩,M 5 32] [] [(0,2),(1,2),(0,3),(1,3),(0,5),(1,5),(2,5),(3,5),(4,5),(0,6),(1,6),(2,6),(3,6),(4,6),(5,6),(0,7),(1,7),(2,7),(3,7),(4,7),(0,8),(1,8),(2,8),(3,8),(4,8),(5,8),(6,8),(7,8),(0,9),(1,9),(2,9),(3,9),(4,9),(5,9),(6,9),(7,9),(8,9),(0,10),(1,10),(2,10),(3,10),(4,10),(5,10),(6,10),(7,10),(12,13)] [0,1,6,7,8,19,20,21,22,23,24,25,26,27,28,29,30,31,32]) .ret)))))⟩
def yAi:TFn:=⟨2,[.cell 4 true 2],(.seq (oQ [O 2 (.boxL (.t 0)),O 4 (.allocL (.agg [(.int .i64 (0)),(.int .i64 (0))]))] [0]) (.seq (oQ [oT 10 3 2,O 11 (.call (.f ygP) [(.t 10)]),M 9 11,O 12 (.ext (.t 9) 0),O 13 (.ext (.t 9) 1),M 5 12,M 6 13] [2,6,9,10,11,12,13]) (.seq (oQ [M 15 5,M 16 1,O 17 (.call (.f ygQ) [(.t 15),(.t 16)]),M 14 17,O 18 (.ext (.t 14) 0),O 19 (.ext (.t 14) 1),O 7 (.allocL (.agg [(.int .i64 (0)),(.int .i64 (0))])),⟨none,(.store 2 (.t 7) (.t 18)),none⟩,M 8 19] [1,5,8,14,15,16,17,18,19]) (.seq (oQ [oT 20 2 7,⟨none,(.store 2 (.t 4) (.t 20)),none⟩] [7,20]) .ret))))⟩
def yye:TFn:=⟨1,[.tmp 2],(.seq (oQ [O 1 (.boxL (.t 0)),O 2 (.mv (I 0))] [0,2]) (.seq (.seq (.ops [O 3 (.fad 1 (.t 1)),oF 4 1 3,O 5 (.bin .lss (.t 4) (I 1)),M 6 5,⟨some 7,(.fad 0 (.t 1)),some (6,false)⟩,⟨some 8,(.load false 1 (.t 7)),some (6,false)⟩,⟨some 9,(.call (.f yaP) [(.t 8)]),some (6,false)⟩,⟨some 10,(.fad 1 (.t 1)),some (6,false)⟩,⟨some 11,(.load false 1 (.t 10)),some (6,false)⟩,⟨some 12,(.conv .u64 (.t 11)),some (6,false)⟩,⟨some 13,(.minmax true [(.t 9),(.t 12)]),some (6,false)⟩,⟨some 14,(.bin .gtr (.t 13) (.c (.int .u64 (1000000000000000000)))),some (6,false)⟩,O 15 (.pick (.t 6) (.c (.bool true)) (.t 14)),M 16 15,⟨some 17,(.fad 0 (.t 1)),some (16,false)⟩,⟨some 18,(.load false 1 (.t 17)),some (16,false)⟩,⟨some 19,(.call (.f yaP) [(.t 18)]),some (16,false)⟩,⟨some 20,(.fad 1 (.t 1)),some (16,false)⟩,⟨some 21,(.load false 1 (.t 20)),some (16,false)⟩,⟨some 22,(.conv .u64 (.t 21)),some (16,false)⟩,⟨some 23,(.call (.f ybG) [(.t 19),(.t 22)]),some (16,false)⟩,⟨some 24,(.bin .gtr (.t 23) (.c (.int .u64 (1)))),some (16,false)⟩,O 25 (.pick (.t 16) (.c (.bool true)) (.t 24))] [⟨1,(.agg [.i .i64,.i .i64]),0⟩,⟨5,(.agg [.i .i64,.i .i64]),0⟩,⟨8,(.agg [.i .i64,.i .i64]),0⟩,⟨15,(.agg [.i .i64,.i .i64]),0⟩,⟨18,(.agg [.i .i64,.i .i64]),0⟩] [(4,7),(5,7),(6,7),(4,8),(5,8),(6,8),(4,9),(5,9),(6,9),(14,17),(15,17),(16,17),(14,18),(15,18),(16,18),(14,19),(15,19),(16,19)] [1,3,4,5,6,7,8,9,10,11,12,13,14,15,16,17,18,19,20,21,22,23,24]) (.cond (.t 25) (.seq (oQ [O 2 (.mv (I 8))] [25]) .ret) .skip)) (.seq (oQ [O 2 (.mv (I 0))] [25]) .ret)))⟩
def yAj:TFn:=⟨1,[.cell 2 true 2],(.seq (oQ [O 2 (.allocL (.agg [(.int .i64 (0)),(.int .i64 (0))]))] []) (.seq (oQ [M 3 0,O 4 (.build [(.int .i64 (0)),(.int .i64 (0))] [(0,1,(.t 3)),(1,1,(I 1))]),⟨none,(.store 2 (.t 2) (.t 4)),none⟩] [0,3,4]) .ret))⟩
def ykk:TCode:=(.seq (oQ [oX 9 .lss 8 7] []) (.seq (.cond (.t 9) .skip (.exit 0)) (.seq (.block 1 (.seq (.ops [O 10 (.iad 1 (.t 6) (.t 8)),oF 11 1 10,M 5 11] [⟨0,(.one (.i .i64)),0⟩,⟨1,(.one (.i .i64)),0⟩] [] [9,10,11]) (.seq (oQ [M 12 5,M 13 3,oX 14 .neq 12 13] [12,13]) (.cond (.t 14) (.seq (oQ [M 15 5,M 2 15] [3,5,6,7,8,14,15]) .ret) .skip)))) (oQ [O 16 (.bin .add (.t 8) (I 1)),M 8 16] [5,14,16]))))
def yra:TFn:=⟨1,[.tmp 2],(.seq (oQ [O 2 (.mv (I 0))] [2]) (.seq (oQ [O 3 (.mv (I 0))] []) (.seq (.seq (oQ [M 6 0,O 7 (.len (.t 6)),O 8 (.mv (I 0))] [0]) (.block 0 (.loop 38508400 ykk))) (.seq (oQ [M 17 3,M 2 17] [3,6,7,8,9,17]) .ret))))⟩
def yyf:TFn:=⟨2,[.tmp 4],(.seq (oQ [O 2 (.boxL (.t 0)),O 3 (.boxL (.t 1)),O 4 (.mv (I 0))] [0,1,4]) (.seq (.ops [oT 5 2 2,O 6 (.call (.f ybx) [(.t 5)]),oT 7 2 3,O 8 (.call (.f ybx) [(.t 7)]),O 9 (.buildD 1 (.int .i64 (0)) 2 [(0,(.t 6)),(1,(.t 8))]),O 10 (.call (.f ydj) [(.t 9)]),M 4 10] [] [(0,2),(1,2)] [2,3,5,6,7,8,9,10]) .ret))⟩
def ysi:TFn:=⟨1,[.tmp 2],(.seq (oQ [O 2 (.mv (.c (.bool false)))] [2]) (.seq (oQ [M 3 0,M 4 0,oX 5 .neq 3 4,M 2 5] [0,3,4,5]) .ret))⟩
def ypN:TFn:=⟨2,[.tmp 4],(.seq (oQ [O 4 (.mv (I 0))] [4]) (.seq (oQ [M 7 0,O 8 (.call (.f ycE) [(.t 7)]),M 5 8] [7,8]) (.seq (oQ [M 9 1,O 10 (.call (.f ycE) [(.t 9)]),M 6 10] [9,10]) (.seq (.seq (oQ [M 11 5] [5]) (.cond (.t 11) (.seq (.seq (oQ [M 12 6] [0,1,6,11]) (.cond (.t 12) (.seq (oQ [O 4 (.mv (I 0))] [12]) .ret) .skip)) (.seq (oQ [O 4 (.mv (I (-1)))] [12]) .ret)) .skip)) (.seq (.seq (oQ [M 13 6] [6,11]) (.cond (.t 13) (.seq (oQ [O 4 (.mv (I 1))] [0,1,13]) .ret) .skip)) (.seq (.seq (oQ [M 14 0,M 15 1,oX 16 .lss 14 15] [13,14,15]) (.cond (.t 16) (.seq (oQ [O 4 (.mv (I (-1)))] [0,1,16]) .ret) .skip)) (.seq (.seq (oQ [M 17 0,M 18 1,oX 19 .gtr 17 18] [0,1,16,17,18]) (.cond (.t 19) (.seq (oQ [O 4 (.mv (I 1))] [19]) .ret) .skip)) (.seq (oQ [O 4 (.mv (I 0))] [19]) .ret))))))))⟩
def yGA:TFn:=⟨2,[.tmp 4,.tmp 5],(.seq (oQ [O 4 (.mv (.c (.int .u64 (0)))),O 5 (.mv (.c (.int .u64 (0))))] [4,5]) (.seq (oQ [M 14 0,O 15 (.bin .and (.t 14) (.c (.int .u64 (4294967295)))),M 6 15] [14,15]) (.seq (oQ [M 16 0,O 17 (.bin .shr (.t 16) (.c (.int .u64 (32)))),M 7 17] [16,17]) (.seq (oQ [M 18 1,O 19 (.bin .and (.t 18) (.c (.int .u64 (4294967295)))),M 8 19] [18,19]) (.seq (oQ [M 20 1,O 21 (.bin .shr (.t 20) (.c (.int .u64 (32)))),M 9 21] [20,21]) (.seq (oQ [M 22 6,M 23 8,oX 24 .mul 22 23,M 10 24] [22,23,24]) (.seq (oQ [M 25 7,M 26 8,oX 27 .mul 25 26,M 28 10,O 29 (.bin .shr (.t 28) (.c (.int .u64 (32)))),oX 30 .add 27 29,M 11 30] [8,10,25,26,27,28,29,30]) (.seq (oQ [M 31 11,O 32 (.bin .and (.t 31) (.c (.int .u64 (4294967295)))),M 12 32] [31,32]) (.seq (oQ [M 33 11,O 34 (.bin .shr (.t 33) (.c (.int .u64 (32)))),M 13 34] [11,33,34]) (.seq (oQ [M 35 12,M 36 6,M 37 9,oX 38 .mul 36 37,oX 39 .add 35 38,M 12 39] [6,35,36,37,38,39]) (.seq (oQ [M 40 7,M 41 9,oX 42 .mul 40 41,M 43 13,oX 44 .add 42 43,M 45 12,O 46 (.bin .shr (.t 45) (.c (.int .u64 (32)))),oX 47 .add 44 46,M 4 47] [7,9,12,13,40,41,42,43,44,45,46,47]) (.seq (oQ [M 48 0,M 49 1,oX 50 .mul 48 49,M 5 50] [0,1,48,49,50]) .ret))))))))))))⟩
def yrb:TFn:=⟨1,[.tmp 2],(.seq (oQ [O 2 (.mv (.c (.bool false)))] [2]) (.seq (oQ [M 3 0,M 4 0,oX 5 .neq 3 4,M 2 5] [0,3,4,5]) .ret))⟩
def yok:TFn:=⟨2,[.tmp 4],(.seq (oQ [O 4 (.mv (I 0))] [4]) (.seq (oQ [M 7 0,O 8 (.call (.f ycp) [(.t 7)]),M 5 8] [7,8]) (.seq (oQ [M 9 1,O 10 (.call (.f ycp) [(.t 9)]),M 6 10] [9,10]) (.seq (.seq (oQ [M 11 5] [5]) (.cond (.t 11) (.seq (.seq (oQ [M 12 6] [0,1,6,11]) (.cond (.t 12) (.seq (oQ [O 4 (.mv (I 0))] [12]) .ret) .skip)) (.seq (oQ [O 4 (.mv (I (-1)))] [12]) .ret)) .skip)) (.seq (.seq (oQ [M 13 6] [6,11]) (.cond (.t 13) (.seq (oQ [O 4 (.mv (I 1))] [0,1,13]) .ret) .skip)) (.seq (.seq (oQ [M 14 0,M 15 1,oX 16 .lss 14 15] [13,14,15]) (.cond (.t 16) (.seq (oQ [O 4 (.mv (I (-1)))] [0,1,16]) .ret) .skip)) (.seq (.seq (oQ [M 17 0,M 18 1,oX 19 .gtr 17 18] [0,1,16,17,18]) (.cond (.t 19) (.seq (oQ [O 4 (.mv (I 1))] [19]) .ret) .skip)) (.seq (oQ [O 4 (.mv (I 0))] [19]) .ret))))))))⟩
def ykl:TCode:=(.seq (oQ [oX 9 .lss 8 7] []) (.seq (.cond (.t 9) .skip (.exit 0)) (.seq (.block 1 (.seq (.ops [O 10 (.iad 1 (.t 6) (.t 8)),oF 11 1 10,M 5 11] [⟨0,(.one (.i .i64)),0⟩,⟨1,(.one (.i .i64)),0⟩] [] [9,10,11]) (.seq (oQ [M 12 5,M 13 3,oX 14 .neq 12 13] [12,13]) (.cond (.t 14) (.seq (oQ [M 15 5,M 2 15] [3,5,6,7,8,14,15]) .ret) .skip)))) (oQ [O 16 (.bin .add (.t 8) (I 1)),M 8 16] [5,14,16]))))
def yAk:TFn:=⟨1,[.tmp 2],(.seq (oQ [O 2 (.mv (I 0))] [2]) (.seq (oQ [O 3 (.mv (I 0))] []) (.seq (.seq (oQ [M 6 0,O 7 (.len (.t 6)),O 8 (.mv (I 0))] [0]) (.block 0 (.loop 53260600 ykl))) (.seq (oQ [M 17 3,M 2 17] [3,6,7,8,9,17]) .ret))))⟩
def yCn:TFn:=⟨2,[.tmp 4,.tmp 5],(.seq (oQ [O 2 (.boxL (.t 0)),O 3 (.boxL (.t 1)),O 4 (.mv (I 0)),O 5 (.mv (I 0))] [0,1,4,5]) (.seq (.seq (oQ [oT 12 2 2,oT 13 2 3,O 14 (.call (.f ybd) [(.t 12),(.t 13)]),M 6 14] [12,13,14]) (.seq (oQ [M 15 6,O 16 (.bin .neq (.t 15) (I 0))] [15]) (.cond (.t 16) (.seq (oQ [M 17 6,O 4 (.mv (I 0)),M 5 17] [2,3,6,16,17]) .ret) .skip))) (.seq (.seq (.ops [O 18 (.fad 0 (.t 2)),oF 19 1 18,O 20 (.bin .lss (.t 19) (I 0)),O 21 (.fad 0 (.t 3)),oF 22 1 21,O 23 (.bin .lss (.t 22) (I 0)),O 24 (.eqB true (.t 20) (.t 23))] [⟨1,(.agg [.i .i64,.i .i64]),0⟩,⟨4,(.agg [.i .i64,.i .i64]),0⟩] [] [6,16,18,19,20,21,22,23]) (.cond (.t 24) (.seq (.ops [O 25 (.fad 0 (.t 2)),oF 26 1 25,O 27 (.fad 0 (.t 3)),oF 28 1 27,O 29 (.call (.f ycX) [(.t 26),(.t 28)]),M 4 29,O 5 (.mv (I 0))] [⟨1,(.agg [.i .i64,.i .i64]),0⟩,⟨3,(.agg [.i .i64,.i .i64]),0⟩] [] [2,3,24,25,26,27,28,29]) .ret) .skip)) (.seq (.ops [O 31 (.fad 0 (.t 2)),oF 32 1 31,O 33 (.call (.f yaP) [(.t 32)]),O 34 (.fad 1 (.t 3)),oF 35 1 34,O 36 (.conv .u64 (.t 35)),O 37 (.call (.f ydc) [(.t 33),(.t 36)]),M 30 37,O 38 (.ext (.t 30) 0),O 39 (.ext (.t 30) 1),M 7 38,M 8 39] [⟨1,(.agg [.i .i64,.i .i64]),0⟩,⟨4,(.agg [.i .i64,.i .i64]),0⟩] [(0,3),(1,3),(2,3),(0,4),(1,4),(2,4),(0,5),(1,5),(2,5),(8,9),(9,10)] [24,30,31,32,33,34,35,36,37,38,39]) (.seq (.ops [O 41 (.fad 0 (.t 3)),oF 42 1 41,O 43 (.call (.f yaP) [(.t 42)]),O 44 (.fad 1 (.t 2)),oF 45 1 44,O 46 (.conv .u64 (.t 45)),O 47 (.call (.f ydc) [(.t 43),(.t 46)]),M 40 47,O 48 (.ext (.t 40) 0),O 49 (.ext (.t 40) 1),M 9 48,M 10 49] [⟨1,(.agg [.i .i64,.i .i64]),0⟩,⟨4,(.agg [.i .i64,.i .i64]),0⟩] [(0,3),(1,3),(2,3),(0,4),(1,4),(2,4),(0,5),(1,5),(2,5),(8,9),(9,10)] [3,40,41,42,43,44,45,46,47,48,49]) (.seq (oQ [M 50 7,M 51 9,O 52 (.call (.f ybH) [(.t 50),(.t 51)]),M 53 8,M 54 10,O 55 (.call (.f ybH) [(.t 53),(.t 54)]),O 56 (.buildD 1 (.int .i64 (0)) 2 [(0,(.t 52)),(1,(.t 55))]),O 57 (.call (.f ygR) [(.t 56)]),M 11 57] [7,8,9,10,50,51,52,53,54,55,56,57]) (.seq (.seq (.ops [O 58 (.fad 0 (.t 2)),oF 59 1 58,O 60 (.bin .lss (.t 59) (I 0))] [⟨1,(.agg [.i .i64,.i .i64]),0⟩] [] [2,58,59]) (.cond (.t 60) (oQ [M 61 11,O 62 (.un .neg (.t 61)),M 11 62] [60,61,62]) .skip)) (.seq (oQ [M 63 11,M 4 63,O 5 (.mv (I 0))] [11,60,63]) .ret))))))))⟩
def yCo:TFn:=⟨2,[.tmp 4],(.seq (oQ [O 2 (.boxL (.t 0)),O 3 (.boxL (.t 1)),O 4 (.mv (.c (.bool false)))] [0,1,4]) (.seq (oQ [oT 8 2 2,oT 9 2 3,O 10 (.call (.f yfk) [(.t 8),(.t 9)]),M 7 10,O 11 (.ext (.t 7) 0),O 12 (.ext (.t 7) 1),M 5 11,M 6 12] [2,3,6,7,8,9,10,11,12]) (.seq (oQ [M 13 5,O 14 (.bin .lss (.t 13) (I 0)),M 4 14] [5,13,14]) .ret)))⟩
def yAl:TFn:=⟨2,[.tmp 4],(.seq (oQ [O 2 (.boxL (.t 0)),O 3 (.boxL (.t 1)),O 4 (.mv (.c (.bool false)))] [0,1,4]) (.seq (.ops [oT 5 2 3,O 6 (.call (.f ybx) [(.t 5)]),O 7 (.bin .eql (.t 6) (I 0)),M 8 7,⟨some 9,(.fad 0 (.t 3)),some (8,true)⟩,⟨some 10,(.load false 1 (.t 9)),some (8,true)⟩,⟨some 11,(.bin .geq (.t 10) (I 0)),some (8,true)⟩,O 12 (.pick (.t 8) (.t 11) (.c (.bool false))),M 13 12,⟨some 14,(.fad 0 (.t 2)),some (13,true)⟩,⟨some 15,(.load false 1 (.t 14)),some (13,true)⟩,⟨some 16,(.call (.f ya8) [(.t 15)]),some (13,true)⟩,⟨some 17,(.load true 2 (.t 3)),some (13,true)⟩,⟨some 18,(.call (.f ybs) [(.t 16),(.t 17)]),some (13,true)⟩,⟨some 19,(.un .not (.t 18)),some (13,true)⟩,O 20 (.pick (.t 13) (.t 19) (.c (.bool false))),M 4 20] [⟨5,(.agg [.i .i64,.i .i64]),0⟩,⟨10,(.agg [.i .i64,.d,.d]),0⟩] [(9,12),(10,12),(11,12)] [2,3,5,6,7,8,9,10,11,12,13,14,15,16,17,18,19,20]) .ret))⟩
def yGB:TFn:=⟨1,[.tmp 2],(.seq (oQ [O 2 (.mv (I 0))] []) (.seq (.seq (oQ [M 3 0,O 4 (.bin .geq (.t 3) (.c (.int .u64 (4294967296))))] [3]) (.cond (.t 4) (.seq (oQ [M 5 0,O 6 (.bin .shr (.t 5) (.c (.int .u64 (32)))),M 0 6] [2,4,5,6]) (oQ [O 2 (.mv (I 32))] [])) .skip)) (.seq (.seq (oQ [M 7 0,O 8 (.bin .geq (.t 7) (.c (.int .u64 (65536))))] [4,7]) (.cond (.t 8) (.seq (oQ [M 9 0,O 10 (.bin .shr (.t 9) (.c (.int .u64 (16)))),M 0 10] [8,9,10]) (oQ [M 11 2,O 12 (.bin .add (.t 11) (I 16)),M 2 12] [11,12])) .skip)) (.seq (.seq (oQ [M 13 0,O 14 (.bin .geq (.t 13) (.c (.int .u64 (256))))] [8,13]) (.cond (.t 14) (.seq (oQ [M 15 0,O 16 (.bin .shr (.t 15) (.c (.int .u64 (8)))),M 0 16] [14,15,16]) (oQ [M 17 2,O 18 (.bin .add (.t 17) (I 8)),M 2 18] [17,18])) .skip)) (.seq (oQ [M 19 2,M 20 0,O 21 (.conv .u8 (.t 20)),O 22 (.idx false 256 1 (.c (.agg [(.int .u8 (0)),(.int .u8 (1)),(.int .u8 (2)),(.int .u8 (2)),(.int .u8 (3)),(.int .u8 (3)),(.int .u8 (3)),(.int .u8 (3)),(.int .u8 (4)),(.int .u8 (4)),(.int .u8 (4)),(.int .u8 (4)),(.int .u8 (4)),(.int .u8 (4)),(.int .u8 (4)),(.int .u8 (4)),(.int .u8 (5)),(.int .u8 (5)),(.int .u8 (5)),(.int .u8 (5)),(.int .u8 (5)),(.int .u8 (5)),(.int .u8 (5)),(.int .u8 (5)),(.int .u8 (5)),(.int .u8 (5)),(.int .u8 (5)),(.int .u8 (5)),(.int .u8 (5)),(.int .u8 (5)),(.int .u8 (5)),(.int .u8 (5)),(.int .u8 (6)),(.int .u8 (6)),(.int .u8 (6)),(.int .u8 (6)),(.int .u8 (6)),(.int .u8 (6)),(.int .u8 (6)),(.int .u8 (6)),(.int .u8 (6)),(.int .u8 (6)),(.int .u8 (6)),(.int .u8 (6)),(.int .u8 (6)),(.int .u8 (6)),(.int .u8 (6)),(.int .u8 (6)),(.int .u8 (6)),(.int .u8 (6)),(.int .u8 (6)),(.int .u8 (6)),(.int .u8 (6)),(.int .u8 (6)),(.int .u8 (6)),(.int .u8 (6)),(.int .u8 (6)),(.int .u8 (6)),(.int .u8 (6)),(.int .u8 (6)),(.int .u8 (6)),(.int .u8 (6)),(.int .u8 (6)),(.int .u8 (6)),(.int .u8 (7)),(.int .u8 (7)),(.int .u8 (7)),(.int .u8 (7)),(.int .u8 (7)),(.int .u8 (7)),(.int .u8 (7)),(.int .u8 (7)),(.int .u8 (7)),(.int .u8 (7)),(.int .u8 (7)),(.int .u8 (7)),(.int .u8 (7)),(.int .u8 (7)),(.int .u8 (7)),(.int .u8 (7)),(.int .u8 (7)),(.int .u8 (7)),(.int .u8 (7)),(.int .u8 (7)),(.int .u8 (7)),(.int .u8 (7)),(.int .u8 (7)),(.int .u8 (7)),(.int .u8 (7)),(.int .u8 (7)),(.int .u8 (7)),(.int .u8 (7)),(.int .u8 (7)),(.int .u8 (7)),(.int .u8 (7)),(.int .u8 (7)),(.int .u8 (7)),(.int .u8 (7)),(.int .u8 (7)),(.int .u8 (7)),(.int .u8 (7)),(.int .u8 (7)),(.int .u8 (7)),(.int .u8 (7)),(.int .u8 (7)),(.int .u8 (7)),(.int .u8 (7)),(.int .u8 (7)),(.int .u8 (7)),(.int .u8 (7)),(.int .u8 (7)),(.int .u8 (7)),(.int .u8 (7)),(.int .u8 (7)),(.int .u8 (7)),(.int .u8 (7)),(.int .u8 (7)),(.int .u8 (7)),(.int .u8 (7)),(.int .u8 (7)),(.int .u8 (7)),(.int .u8 (7)),(.int .u8 (7)),(.int .u8 (7)),(.int .u8 (7)),(.int .u8 (7)),(.int .u8 (7)),(.int .u8 (7)),(.int .u8 (8)),(.int .u8 (8)),(.int .u8 (8)),(.int .u8 (8)),(.int .u8 (8)),(.int .u8 (8)),(.int .u8 (8)),(.int .u8 (8)),(.int .u8 (8)),(.int .u8 (8)),(.int .u8 (8)),(.int .u8 (8)),(.int .u8 (8)),(.int .u8 (8)),(.int .u8 (8)),(.int .u8 (8)),(.int .u8 (8)),(.int .u8 (8)),(.int .u8 (8)),(.int .u8 (8)),(.int .u8 (8)),(.int .u8 (8)),(.int .u8 (8)),(.int .u8 (8)),(.int .u8 (8)),(.int .u8 (8)),(.int .u8 (8)),(.int .u8 (8)),(.int .u8 (8)),(.int .u8 (8)),(.int .u8 (8)),(.int .u8 (8)),(.int .u8 (8)),(.int .u8 (8)),(.int .u8 (8)),(.int .u8 (8)),(.int .u8 (8)),(.int .u8 (8)),(.int .u8 (8)),(.int .u8 (8)),(.int .u8 (8)),(.int .u8 (8)),(.int .u8 (8)),(.int .u8 (8)),(.int .u8 (8)),(.int .u8 (8)),(.int .u8 (8)),(.int .u8 (8)),(.int .u8 (8)),(.int .u8 (8)),(.int .u8 (8)),(.int .u8 (8)),(.int .u8 (8)),(.int .u8 (8)),(.int .u8 (8)),(.int .u8 (8)),(.int .u8 (8)),(.int .u8 (8)),(.int .u8 (8)),(.int .u8 (8)),(.int .u8 (8)),(.int .u8 (8)),(.int .u8 (8)),(.int .u8 (8)),(.int .u8 (8)),(.int .u8 (8)),(.int .u8 (8)),(.int .u8 (8)),(.int .u8 (8)),(.int .u8 (8)),(.int .u8 (8)),(.int .u8 (8)),(.int .u8 (8)),(.int .u8 (8)),(.int .u8 (8)),(.int .u8 (8)),(.int .u8 (8)),(.int .u8 (8)),(.int .u8 (8)),(.int .u8 (8)),(.int .u8 (8)),(.int .u8 (8)),(.int .u8 (8)),(.int .u8 (8)),(.int .u8 (8)),(.int .u8 (8)),(.int .u8 (8)),(.int .u8 (8)),(.int .u8 (8)),(.int .u8 (8)),(.int .u8 (8)),(.int .u8 (8)),(.int .u8 (8)),(.int .u8 (8)),(.int .u8 (8)),(.int .u8 (8)),(.int .u8 (8)),(.int .u8 (8)),(.int .u8 (8)),(.int .u8 (8)),(.int .u8 (8)),(.int .u8 (8)),(.int .u8 (8)),(.int .u8 (8)),(.int .u8 (8)),(.int .u8 (8)),(.int .u8 (8)),(.int .u8 (8)),(.int .u8 (8)),(.int .u8 (8)),(.int .u8 (8)),(.int .u8 (8)),(.int .u8 (8)),(.int .u8 (8)),(.int .u8 (8)),(.int .u8 (8)),(.int .u8 (8)),(.int .u8 (8)),(.int .u8 (8)),(.int .u8 (8)),(.int .u8 (8)),(.int .u8 (8)),(.int .u8 (8)),(.int .u8 (8)),(.int .u8 (8)),(.int .u8 (8)),(.int .u8 (8)),(.int .u8 (8))])) (.t 21)),O 23 (.conv .i64 (.t 22)),oX 24 .add 19 23,M 2 24] [0,14,19,20,21,22,23,24]) .ret)))))⟩
def yrc:TFn:=⟨1,[.tmp 2],(.seq (oQ [O 2 (.mv (I 0))] [2]) (.seq (oQ [M 3 0,O 4 (.call (.f ymw) [(.t 3)]),O 5 (.bin .sub (I 64) (.t 4)),M 2 5] [0,3,4,5]) .ret))⟩
def yhA:TCode:=(.seq (.seq (oQ [M 67 15,O 68 (.bin .geq (.t 67) (.c (.int .u64 (4294967296)))),M 69 68,⟨some 70,(.mv (.t 15)),some (69,false)⟩,⟨some 71,(.mv (.t 10)),some (69,false)⟩,⟨some 72,(.bin .mul (.t 70) (.t 71)),some (69,false)⟩,⟨some 73,(.mv (.t 16)),some (69,false)⟩,⟨some 74,(.bin .mul (.c (.int .u64 (4294967296))) (.t 73)),some (69,false)⟩,⟨some 75,(.mv (.t 13)),some (69,false)⟩,⟨some 76,(.bin .add (.t 74) (.t 75)),some (69,false)⟩,⟨some 77,(.bin .gtr (.t 72) (.t 76)),some (69,false)⟩,O 78 (.pick (.t 69) (.c (.bool true)) (.t 77))] [67,68,69,70,71,72,73,74,75,76,77,85]) (.cond (.t 78) .skip (.exit 0))) (.block 1 (.seq (oQ [M 79 15,O 80 (.bin .sub (.t 79) (.c (.int .u64 (1)))),M 15 80] [78,79,80]) (.seq (oQ [M 81 16,M 82 9,oX 83 .add 81 82,M 16 83] [81,82,83]) (.seq (oQ [M 84 16,O 85 (.bin .geq (.t 84) (.c (.int .u64 (4294967296))))] [84]) (.cond (.t 85) (.exit 0) .skip))))))
def yhB:TCode:=(.seq (.seq (oQ [M 102 18,O 103 (.bin .geq (.t 102) (.c (.int .u64 (4294967296)))),M 104 103,⟨some 105,(.mv (.t 18)),some (104,false)⟩,⟨some 106,(.mv (.t 10)),some (104,false)⟩,⟨some 107,(.bin .mul (.t 105) (.t 106)),some (104,false)⟩,⟨some 108,(.mv (.t 16)),some (104,false)⟩,⟨some 109,(.bin .mul (.c (.int .u64 (4294967296))) (.t 108)),some (104,false)⟩,⟨some 110,(.mv (.t 14)),some (104,false)⟩,⟨some 111,(.bin .add (.t 109) (.t 110)),some (104,false)⟩,⟨some 112,(.bin .gtr (.t 107) (.t 111)),some (104,false)⟩,O 113 (.pick (.t 104) (.c (.bool true)) (.t 112))] [102,103,104,105,106,107,108,109,110,111,112,120]) (.cond (.t 113) .skip (.exit 2))) (.block 3 (.seq (oQ [M 114 18,O 115 (.bin .sub (.t 114) (.c (.int .u64 (1)))),M 18 115] [113,114,115]) (.seq (oQ [M 116 16,M 117 9,oX 118 .add 116 117,M 16 118] [116,117,118]) (.seq (oQ [M 119 16,O 120 (.bin .geq (.t 119) (.c (.int .u64 (4294967296))))] [119]) (.cond (.t 120) (.exit 2) .skip))))))
def yGC:TFn:=⟨3,[.tmp 6,.tmp 7],(.seq (oQ [O 6 (.mv (.c (.int .u64 (0)))),O 7 (.mv (.c (.int .u64 (0))))] [6,7]) (.seq (.seq (oQ [M 19 2,O 20 (.bin .eql (.t 19) (.c (.int .u64 (0))))] [19]) (.cond (.t 20) (oQ [O 21 (.load false 1 (.g 0)),⟨none,.bad,none⟩] [20,21]) .skip)) (.seq (.seq (oQ [M 22 2,M 23 0,oX 24 .leq 22 23] [20,22,23]) (.cond (.t 24) (oQ [O 25 (.load false 1 (.g 1)),⟨none,.bad,none⟩] [24,25]) .skip)) (.seq (.seq (oQ [M 26 0,O 27 (.bin .eql (.t 26) (.c (.int .u64 (0))))] [24,26]) (.cond (.t 27) (.seq (.ops [M 28 1,M 29 2,oX 30 .quo 28 29,M 31 1,M 32 2,oX 33 .rem 31 32,M 6 30,M 7 33] [] [(0,1),(0,3),(1,3),(2,3),(0,4),(1,4),(2,4),(3,4),(0,5),(1,5),(2,5),(3,6),(4,6),(5,6)] [0,1,2,27,28,29,30,31,32,33]) .ret) .skip)) (.seq (oQ [M 34 2,O 35 (.call (.f ydk) [(.t 34)]),O 36 (.conv .u64 (.t 35)),M 8 36] [27,34,35,36]) (.seq (oQ [M 37 2,M 38 8,oX 39 .shl 37 38,M 2 39] [37,38,39]) (.seq (oQ [M 40 2,O 41 (.bin .shr (.t 40) (.c (.int .u64 (32)))),M 9 41] [40,41]) (.seq (oQ [M 42 2,O 43 (.bin .and (.t 42) (.c (.int .u64 (4294967295)))),M 10 43] [42,43]) (.seq (oQ [M 44 0,M 45 8,oX 46 .shl 44 45,M 47 1,M 48 8,O 49 (.bin .sub (.c (.int .u64 (64))) (.t 48)),oX 50 .shr 47 49,oX 51 .or 46 50,M 11 51] [0,44,45,46,47,48,49,50,51]) (.seq (oQ [M 52 1,M 53 8,oX 54 .shl 52 53,M 12 54] [1,52,53,54]) (.seq (oQ [M 55 12,O 56 (.bin .shr (.t 55) (.c (.int .u64 (32)))),M 13 56] [55,56]) (.seq (oQ [M 57 12,O 58 (.bin .and (.t 57) (.c (.int .u64 (4294967295)))),M 14 58] [12,57,58]) (.seq (oQ [M 59 11,M 60 9,oX 61 .quo 59 60,M 15 61] [59,60,61]) (.seq (oQ [M 62 11,M 63 15,M 64 9,oX 65 .mul 63 64,oX 66 .sub 62 65,M 16 66] [62,63,64,65,66]) (.seq (.block 0 (.loop 60530100 yhA)) (.seq (oQ [M 86 11,O 87 (.bin .mul (.t 86) (.c (.int .u64 (4294967296)))),M 88 13,oX 89 .add 87 88,M 90 15,M 91 2,oX 92 .mul 90 91,oX 93 .sub 89 92,M 17 93] [11,13,16,78,85,86,87,88,89,90,91,92,93]) (.seq (oQ [M 94 17,M 95 9,oX 96 .quo 94 95,M 18 96] [94,95,96]) (.seq (oQ [M 97 17,M 98 18,M 99 9,oX 100 .mul 98 99,oX 101 .sub 97 100,M 16 101] [97,98,99,100,101]) (.seq (.block 2 (.loop 60530101 yhB)) (.seq (oQ [M 121 15,O 122 (.bin .mul (.t 121) (.c (.int .u64 (4294967296)))),M 123 18,oX 124 .add 122 123,M 125 17,O 126 (.bin .mul (.t 125) (.c (.int .u64 (4294967296)))),M 127 14,oX 128 .add 126 127,M 129 18,M 130 2,oX 131 .mul 129 130,oX 132 .sub 128 131,M 133 8,oX 134 .shr 132 133,M 6 124,M 7 134] [2,8,9,10,14,15,16,17,18,113,120,121,122,123,124,125,126,127,128,129,130,131,132,133,134]) .ret))))))))))))))))))))⟩
def yGD:TFn:=⟨3,[.tmp 6],(.seq (oQ [O 6 (.mv (.c (.int .u64 (0))))] [6]) (.seq (oQ [M 10 0,M 11 2,oX 12 .rem 10 11,M 13 1,M 14 2,O 15 (.call (.f yhu) [(.t 12),(.t 13),(.t 14)]),M 9 15,O 16 (.ext (.t 9) 0),O 17 (.ext (.t 9) 1),M 7 16,M 8 17] [0,1,2,7,9,10,11,12,13,14,15,16,17]) (.seq (oQ [M 18 8,M 6 18] [8,18]) .ret)))⟩
def yCp:TFn:=⟨2,[.cell 4 true 2,.tmp 5],(.seq (oQ [O 2 (.boxL (.t 0)),O 3 (.boxL (.t 1)),O 4 (.allocL (.agg [(.int .i64 (0)),(.int .i64 (0))])),O 5 (.mv (I 0))] [0,1,5]) (.seq (.seq (oQ [oT 21 2 2,oT 22 2 3,O 23 (.call (.f ybd) [(.t 21),(.t 22)]),M 6 23] [21,22,23]) (.seq (oQ [M 24 6,O 25 (.bin .neq (.t 24) (I 0))] [24]) (.cond (.t 25) (.seq (oQ [O 26 (.build [(.int .i64 (0)),(.int .i64 (0))] []),M 27 6,⟨none,(.store 2 (.t 4) (.t 26)),none⟩,M 5 27] [2,3,6,25,26,27]) .ret) .skip))) (.seq (.ops [O 28 (.fad 1 (.t 2)),oF 29 1 28,O 30 (.conv .u64 (.t 29)),O 31 (.fad 1 (.t 3)),oF 32 1 31,O 33 (.conv .u64 (.t 32)),O 34 (.call (.f ybG) [(.t 30),(.t 33)]),M 7 34] [⟨1,(.agg [.i .i64,.i .i64]),0⟩,⟨4,(.agg [.i .i64,.i .i64]),0⟩] [] [6,25,28,29,30,31,32,33,34]) (.seq (.ops [O 36 (.fad 0 (.t 2)),oF 37 1 36,O 38 (.call (.f yaP) [(.t 37)]),O 39 (.fad 1 (.t 3)),oF 40 1 39,O 41 (.conv .u64 (.t 40)),M 42 7,oX 43 .quo 41 42,O 44 (.call (.f ydc) [(.t 38),(.t 43)]),M 35 44,O 45 (.ext (.t 35) 0),O 46 (.ext (.t 35) 1),M 8 45,M 9 46] [⟨1,(.agg [.i .i64,.i .i64]),0⟩,⟨4,(.agg [.i .i64,.i .i64]),0⟩] [(0,3),(1,3),(2,3),(0,4),(1,4),(2,4),(0,5),(1,5),(2,5),(0,6),(1,6),(2,6),(3,6),(4,6),(5,6),(0,7),(1,7),(2,7),(10,11),(11,12)] [35,36,37,38,39,40,41,42,43,44,45,46]) (.seq (.ops [O 48 (.fad 0 (.t 3)),oF 49 1 48,O 50 (.call (.f yaP) [(.t 49)]),O 51 (.fad 1 (.t 2)),oF 52 1 51,O 53 (.conv .u64 (.t 52)),M 54 7,oX 55 .quo 53 54,O 56 (.call (.f ydc) [(.t 50),(.t 55)]),M 47 56,O 57 (.ext (.t 47) 0),O 58 (.ext (.t 47) 1),M 10 57,M 11 58] [⟨1,(.agg [.i .i64,.i .i64]),0⟩,⟨4,(.agg [.i .i64,.i .i64]),0⟩] [(0,3),(1,3),(2,3),(0,4),(1,4),(2,4),(0,5),(1,5),(2,5),(0,6),(1,6),(2,6),(3,6),(4,6),(5,6),(0,7),(1,7),(2,7),(10,11),(11,12)] [47,48,49,50,51,52,53,54,55,56,57,58]) (.seq (.ops [O 59 (.fad 0 (.t 2)),oF 60 1 59,O 61 (.bin .lss (.t 60) (I 0)),M 12 61] [⟨1,(.agg [.i .i64,.i .i64]),0⟩] [] [59,60,61]) (.seq (oQ [O 13 (.mv (.c (.int .u64 (0)))),O 14 (.mv (.c (.int .u64 (0)))),O 15 (.mv (.c (.int .u64 (0))))] [13,14,15]) (.seq (.seq (.ops [O 62 (.fad 0 (.t 2)),oF 63 1 62,O 64 (.bin .lss (.t 63) (I 0)),O 65 (.fad 0 (.t 3)),oF 66 1 65,O 67 (.bin .lss (.t 66) (I 0)),O 68 (.eqB false (.t 64) (.t 67))] [⟨1,(.agg [.i .i64,.i .i64]),0⟩,⟨4,(.agg [.i .i64,.i .i64]),0⟩] [] [62,63,64,65,66,67]) (.cond (.t 68) (.seq (oQ [M 70 9,M 71 11,O 72 (.call (.f ygz) [(.t 70),(.t 71),(.c (.int .u64 (0)))]),M 69 72,O 73 (.ext (.t 69) 0),O 74 (.ext (.t 69) 1),M 14 73,M 15 74] [9,11,68,69,70,71,72,73,74]) (oQ [M 76 8,M 77 10,M 78 15,O 79 (.call (.f ygz) [(.t 76),(.t 77),(.t 78)]),M 75 79,O 80 (.ext (.t 75) 0),O 81 (.ext (.t 75) 1),M 13 80] [8,10,15,75,76,77,78,79,80,81])) (.seq (.seq (oQ [M 82 8,M 83 10,oX 84 .lss 82 83,M 85 84,⟨some 86,(.mv (.t 8)),some (85,false)⟩,⟨some 87,(.mv (.t 10)),some (85,false)⟩,⟨some 88,(.bin .eql (.t 86) (.t 87)),some (85,false)⟩,⟨some 89,(.mv (.t 88)),some (85,false)⟩,⟨some 90,(.mv (.t 9)),some (89,true)⟩,⟨some 91,(.mv (.t 11)),some (89,true)⟩,⟨some 92,(.bin .lss (.t 90) (.t 91)),some (89,true)⟩,⟨some 93,(.pick (.t 89) (.t 92) (.c (.bool false))),some (85,false)⟩,O 94 (.pick (.t 85) (.c (.bool true)) (.t 93))] [68,82,83,84,85,86,87,88,89,90,91,92,93]) (.cond (.t 94) (.seq (oQ [M 95 10,M 96 11,M 97 8,M 98 9,M 8 95,M 9 96,M 10 97,M 11 98] [94,95,96,97,98]) (oQ [M 99 12,O 100 (.un .not (.t 99)),M 12 100] [99,100])) .skip)) (.seq (oQ [M 102 9,M 103 11,O 104 (.call (.f ygA) [(.t 102),(.t 103),(.c (.int .u64 (0)))]),M 101 104,O 105 (.ext (.t 101) 0),O 106 (.ext (.t 101) 1),M 14 105,M 15 106] [9,11,94,101,102,103,104,105,106]) (oQ [M 108 8,M 109 10,M 110 15,O 111 (.call (.f ygA) [(.t 108),(.t 109),(.t 110)]),M 107 111,O 112 (.ext (.t 107) 0),O 113 (.ext (.t 107) 1),M 13 112] [8,10,15,107,108,109,110,111,112,113]))))) (.seq (.seq (oQ [M 114 13,O 115 (.bin .eql (.t 114) (.c (.int .u64 (0)))),M 116 115,⟨some 117,(.mv (.t 14)),some (116,true)⟩,⟨some 118,(.bin .eql (.t 117) (.c (.int .u64 (0)))),some (116,true)⟩,O 119 (.pick (.t 116) (.t 118) (.c (.bool false)))] [114,115,116,117,118]) (.cond (.t 119) (.seq (oQ [O 120 (.build [(.int .i64 (0)),(.int .i64 (0))] [(1,1,(I 1))]),⟨none,(.store 2 (.t 4) (.t 120)),none⟩,O 5 (.mv (I 0))] [2,3,7,12,13,14,119,120]) .ret) .skip)) (.seq (oQ [M 121 13,M 122 14,M 123 7,O 124 (.call (.f ymx) [(.t 121),(.t 122),(.t 123)]),M 125 7,O 126 (.call (.f ybG) [(.t 124),(.t 125)]),M 16 126] [119,121,122,123,124,125,126]) (.seq (.seq (oQ [M 127 13,M 128 16,oX 129 .geq 127 128] [127,128]) (.cond (.t 129) (.seq (oQ [O 130 (.build [(.int .i64 (0)),(.int .i64 (0))] []),⟨none,(.store 2 (.t 4) (.t 130)),none⟩,O 5 (.mv (I 16))] [2,3,7,12,13,14,16,129,130]) .ret) .skip)) (.seq (oQ [M 132 13,M 133 14,M 134 16,O 135 (.call (.f yhu) [(.t 132),(.t 133),(.t 134)]),M 131 135,O 136 (.ext (.t 131) 0),O 137 (.ext (.t 131) 1),M 17 136,M 18 137] [13,14,18,129,131,132,133,134,135,136,137]) (.seq (.ops [O 139 (.fad 1 (.t 2)),oF 140 1 139,O 141 (.conv .u64 (.t 140)),M 142 7,oX 143 .quo 141 142,O 144 (.fad 1 (.t 3)),oF 145 1 144,O 146 (.conv .u64 (.t 145)),M 147 16,oX 148 .quo 146 147,O 149 (.call (.f ydc) [(.t 143),(.t 148)]),M 138 149,O 150 (.ext (.t 138) 0),O 151 (.ext (.t 138) 1),M 19 150,M 20 151] [⟨1,(.agg [.i .i64,.i .i64]),0⟩,⟨6,(.agg [.i .i64,.i .i64]),0⟩] [(0,3),(1,3),(2,3),(0,5),(1,5),(2,5),(3,5),(4,5),(0,6),(1,6),(2,6),(3,6),(4,6),(0,7),(1,7),(2,7),(3,7),(4,7),(0,8),(1,8),(2,8),(3,8),(4,8),(5,8),(6,8),(7,8),(0,9),(1,9),(2,9),(3,9),(4,9),(12,13),(13,14)] [2,3,7,16,138,139,140,141,142,143,144,145,146,147,148,149,150,151]) (.seq (.seq (oQ [M 152 19,O 153 (.bin .gtr (.t 152) (.c (.int .u64 (0))))] [19,152]) (.cond (.t 153) (.seq (oQ [O 154 (.build [(.int .i64 (0)),(.int .i64 (0))] []),⟨none,(.store 2 (.t 4) (.t 154)),none⟩,O 5 (.mv (I 16))] [12,17,20,153,154]) .ret) .skip)) (.seq (oQ [M 155 12,M 156 17,M 157 20,O 158 (.call (.f yca) [(.t 155),(.t 156),(.t 157)]),O 159 (.ext (.t 158) 0),O 160 (.ext (.t 158) 1),⟨none,(.store 2 (.t 4) (.t 159)),none⟩,M 5 160] [12,17,20,153,155,156,157,158,159,160]) .ret)))))))))))))))⟩
def yCq:TFn:=⟨2,[.cell 4 true 2,.tmp 5],(.seq (oQ [O 2 (.boxL (.t 0)),O 3 (.boxL (.t 1)),O 4 (.allocL (.agg [(.int .i64 (0)),(.int .i64 (0))])),O 5 (.mv (I 0))] [0,1,5]) (.seq (.seq (oQ [oT 7 2 2,oT 8 2 3,O 9 (.call (.f ybd) [(.t 7),(.t 8)]),M 6 9] [7,8,9]) (.seq (oQ [M 10 6,O 11 (.bin .neq (.t 10) (I 0))] [10]) (.cond (.t 11) (.seq (oQ [O 12 (.build [(.int .i64 (0)),(.int .i64 (0))] []),M 13 6,⟨none,(.store 2 (.t 4) (.t 12)),none⟩,M 5 13] [2,3,6,11,12,13]) .ret) .skip))) (.seq (.ops [O 14 (.fad 0 (.t 3)),oF 15 1 14,O 16 (.un .neg (.t 15)),O 17 (.fad 0 (.t 3)),⟨none,(.store 1 (.t 17) (.t 16)),none⟩] [⟨1,(.agg [.i .i64,.i .i64]),0⟩,⟨4,(.agg [.i .i64,.i .i64]),0⟩] [] [6,11,14,15,16,17]) (.seq (oQ [oT 18 2 2,oT 19 2 3,O 20 (.call (.f ycg) [(.t 18),(.t 19)]),O 21 (.ext (.t 20) 0),O 22 (.ext (.t 20) 1),⟨none,(.store 2 (.t 4) (.t 21)),none⟩,M 5 22] [2,3,18,19,20,21,22]) .ret))))⟩
def yCr:TFn:=⟨2,[.cell 4 true 2,.tmp 5],(.seq (oQ [O 2 (.boxL (.t 0)),O 3 (.boxL (.t 1)),O 4 (.allocL (.agg [(.int .i64 (0)),(.int .i64 (0))])),O 5 (.mv (I 0))] [0,1,5]) (.seq (.seq (oQ [oT 17 2 2,oT 18 2 3,O 19 (.call (.f ybd) [(.t 17),(.t 18)]),M 6 19] [17,18,19]) (.seq (oQ [M 20 6,O 21 (.bin .neq (.t 20) (I 0))] [20]) (.cond (.t 21) (.seq (oQ [O 22 (.build [(.int .i64 (0)),(.int .i64 (0))] []),M 23 6,⟨none,(.store 2 (.t 4) (.t 22)),none⟩,M 5 23] [2,3,6,21,22,23]) .ret) .skip))) (.seq (.ops [O 24 (.fad 0 (.t 2)),oF 25 1 24,O 26 (.call (.f yaP) [(.t 25)]),O 27 (.fad 1 (.t 2)),oF 28 1 27,O 29 (.conv .u64 (.t 28)),O 30 (.fad 0 (.t 3)),oF 31 1 30,O 32 (.call (.f yaP) [(.t 31)]),O 33 (.fad 1 (.t 3)),oF 34 1 33,O 35 (.conv .u64 (.t 34)),M 7 26,M 8 29,M 9 32,M 10 35] [⟨1,(.agg [.i .i64,.i .i64]),0⟩,⟨4,(.agg [.i .i64,.i .i64]),0⟩,⟨7,(.agg [.i .i64,.i .i64]),0⟩,⟨10,(.agg [.i .i64,.i .i64]),0⟩] [(0,3),(1,3),(2,3),(0,4),(1,4),(2,4),(0,5),(1,5),(2,5),(0,6),(1,6),(2,6),(3,6),(4,6),(5,6),(0,7),(1,7),(2,7),(3,7),(4,7),(5,7),(3,8),(4,8),(5,8),(0,9),(1,9),(2,9),(3,9),(4,9),(5,9),(6,9),(7,9),(8,9),(0,10),(1,10),(2,10),(3,10),(4,10),(5,10),(6,10),(7,10),(8,10),(0,11),(1,11),(2,11),(3,11),(4,11),(5,11),(6,11),(7,11),(8,11),(3,12),(4,12),(5,12),(9,12),(10,12),(11,12),(9,13),(10,13),(11,13),(9,14),(10,14),(11,14)] [6,21,24,25,26,27,28,29,30,31,32,33,34,35]) (.seq (oQ [M 36 7,M 37 10,O 38 (.call (.f ybG) [(.t 36),(.t 37)]),M 39 9,M 40 8,O 41 (.call (.f ybG) [(.t 39),(.t 40)]),M 11 38,M 12 41] [36,37,38,39,40,41]) (.seq (.ops [M 43 7,M 44 11,oX 45 .quo 43 44,M 46 9,M 47 12,oX 48 .quo 46 47,O 49 (.call (.f ydc) [(.t 45),(.t 48)]),M 42 49,O 50 (.ext (.t 42) 0),O 51 (.ext (.t 42) 1),M 13 50,M 14 51] [] [(0,1),(0,3),(1,3),(2,3),(0,4),(1,4),(2,4),(3,4),(0,5),(1,5),(2,5),(8,9),(9,10)] [7,9,42,43,44,45,46,47,48,49,50,51]) (.seq (.ops [M 53 8,M 54 12,oX 55 .quo 53 54,M 56 10,M 57 11,oX 58 .quo 56 57,O 59 (.call (.f ydc) [(.t 55),(.t 58)]),M 52 59,O 60 (.ext (.t 52) 0),O 61 (.ext (.t 52) 1),M 15 60,M 16 61] [] [(0,1),(0,3),(1,3),(2,3),(0,4),(1,4),(2,4),(3,4),(0,5),(1,5),(2,5),(8,9),(9,10)] [8,10,11,12,52,53,54,55,56,57,58,59,60,61]) (.seq (.seq (oQ [M 62 13,M 63 15,oX 64 .add 62 63,O 65 (.bin .gtr (.t 64) (.c (.int .u64 (0))))] [13,15,62,63,64]) (.cond (.t 65) (.seq (oQ [O 66 (.build [(.int .i64 (0)),(.int .i64 (0))] []),⟨none,(.store 2 (.t 4) (.t 66)),none⟩,O 5 (.mv (I 16))] [2,3,14,16,65,66]) .ret) .skip)) (.seq (.ops [M 67 14,O 68 (.bin .gtr (.t 67) (.c (.int .u64 (0)))),M 69 68,⟨some 70,(.fad 0 (.t 2)),some (69,true)⟩,⟨some 71,(.load false 1 (.t 70)),some (69,true)⟩,⟨some 72,(.bin .lss (.t 71) (I 0)),some (69,true)⟩,⟨some 73,(.fad 0 (.t 3)),some (69,true)⟩,⟨some 74,(.load false 1 (.t 73)),some (69,true)⟩,⟨some 75,(.bin .lss (.t 74) (I 0)),some (69,true)⟩,⟨some 76,(.eqB true (.t 72) (.t 75)),some (69,true)⟩,O 77 (.pick (.t 69) (.t 76) (.c (.bool false))),M 78 14,M 79 16,O 80 (.call (.f yca) [(.t 77),(.t 78),(.t 79)]),O 81 (.ext (.t 80) 0),O 82 (.ext (.t 80) 1),⟨none,(.store 2 (.t 4) (.t 81)),none⟩,M 5 82] [⟨4,(.agg [.i .i64,.i .i64]),0⟩,⟨7,(.agg [.i .i64,.i .i64]),0⟩] [] [2,3,14,16,65,67,68,69,70,71,72,73,74,75,76,77,78,79,80,81,82]) .ret))))))))⟩
def yCs:TFn:=⟨2,[.cell 4 true 2,.tmp 5],(.seq (oQ [O 2 (.boxL (.t 0)),O 3 (.boxL (.t 1)),O 4 (.allocL (.agg [(.int .i64 (0)),(.int .i64 (0))])),O 5 (.mv (I 0))] [0,1,5]) (.seq (.seq (oQ [oT 7 2 2,oT 8 2 3,O 9 (.call (.f ybd) [(.t 7),(.t 8)]),M 6 9] [7,8,9]) (.seq (oQ [M 10 6,O 11 (.bin .neq (.t 10) (I 0))] [10]) (.cond (.t 11) (.seq (oQ [O 12 (.build [(.int .i64 (0)),(.int .i64 (0))] []),M 13 6,⟨none,(.store 2 (.t 4) (.t 12)),none⟩,M 5 13] [2,3,6,11,12,13]) .ret) .skip))) (.seq (.block 0 (.seq (.ops [O 15 (.fad 0 (.t 3)),oF 16 1 15,O 17 (.bin .eql (.t 16) (I 0)),M 14 17] [⟨1,(.agg [.i .i64,.i .i64]),0⟩] [] [6,11,15,16,17]) (.cond (.t 14) (.seq (oQ [O 18 (.build [(.int .i64 (0)),(.int .i64 (0))] []),⟨none,(.store 2 (.t 4) (.t 18)),none⟩,O 5 (.mv (I 18))] [2,3,14,18]) .ret) (.seq (.ops [O 20 (.fad 0 (.t 3)),oF 21 1 20,O 22 (.bin .lss (.t 21) (I 0)),M 19 22] [⟨1,(.agg [.i .i64,.i .i64]),0⟩] [] [14,20,21,22]) (.cond (.t 19) (.seq (.ops [oT 23 2 2,O 24 (.fad 1 (.t 3)),oF 25 1 24,O 26 (.un .neg (.t 25)),O 27 (.fad 0 (.t 3)),oF 28 1 27,O 29 (.un .neg (.t 28)),O 30 (.build [(.int .i64 (0)),(.int .i64 (0))] [(0,1,(.t 26)),(1,1,(.t 29))]),O 31 (.call (.f ybI) [(.t 23),(.t 30)]),O 32 (.ext (.t 31) 0),O 33 (.ext (.t 31) 1),⟨none,(.store 2 (.t 4) (.t 32)),none⟩,M 5 33] [⟨2,(.agg [.i .i64,.i .i64]),0⟩,⟨5,(.agg [.i .i64,.i .i64]),0⟩] [] [2,3,19,23,24,25,26,27,28,29,30,31,32,33]) .ret) .skip))))) (.seq (.ops [oT 34 2 2,O 35 (.fad 1 (.t 3)),oF 36 1 35,O 37 (.fad 0 (.t 3)),oF 38 1 37,O 39 (.build [(.int .i64 (0)),(.int .i64 (0))] [(0,1,(.t 36)),(1,1,(.t 38))]),O 40 (.call (.f ybI) [(.t 34),(.t 39)]),O 41 (.ext (.t 40) 0),O 42 (.ext (.t 40) 1),⟨none,(.store 2 (.t 4) (.t 41)),none⟩,M 5 42] [⟨2,(.agg [.i .i64,.i .i64]),0⟩,⟨4,(.agg [.i .i64,.i .i64]),0⟩] [] [2,3,19,34,35,36,37,38,39,40,41,42]) .ret))))⟩
def yqm:TFn:=⟨7,[.tmp 11],(.seq (oQ [O 7 (.boxL (.t 0)),O 8 (.boxL (.t 1)),O 9 (.boxL (.t 2)),O 11 (.mv (.c (.bool false)))] [0,1,2,8,11]) (.seq (.seq (oQ [M 16 3,O 17 (.bin .eql (.t 16) (I 0))] [16]) (.cond (.t 17) (.seq (oQ [O 11 (.mv (.c (.bool false)))] [3,4,5,6,7,9,17]) .ret) .skip)) (.seq (.seq (oQ [oT 18 2 9,oT 19 2 4,O 20 (.call (.f ybs) [(.t 18),(.t 19)])] [17,18,19]) (.cond (.t 20) (.seq (oQ [oT 22 2 4,oT 23 2 9,O 24 (.call (.f ybg) [(.t 22),(.t 23)]),M 21 24,O 25 (.ext (.t 21) 0),O 26 (.ext (.t 21) 1),O 12 (.allocL (.agg [(.int .i64 (0)),(.int .i64 (0))])),⟨none,(.store 2 (.t 12) (.t 25)),none⟩,M 13 26] [3,6,7,9,20,21,22,23,24,25,26]) (.seq (oQ [oT 27 2 12,⟨none,(.store 2 (.t 4) (.t 27)),none⟩,⟨none,(.store 1 (.t 5) (I 6)),none⟩] [4,12,27]) (.seq (.seq (oQ [M 28 13,O 29 (.bin .neq (.t 28) (I 0))] [28]) (.cond (.t 29) (oQ [M 30 13,⟨none,(.store 1 (.t 5) (.t 30)),none⟩] [5,29,30]) .skip)) (.seq (oQ [M 31 13,O 32 (.bin .neq (.t 31) (I 0)),M 11 32] [5,13,29,31,32]) .ret)))) .skip)) (.seq (.ops [oT 34 2 4,M 35 3,O 36 (.call (.f ya8) [(.t 35)]),O 37 (.call (.f yeg) [(.t 34),(.t 36)]),M 33 37,O 38 (.ext (.t 33) 0),O 39 (.ext (.t 33) 1),O 14 (.allocL (.agg [(.int .i64 (0)),(.int .i64 (0))])),⟨none,(.store 2 (.t 14) (.t 38)),none⟩,M 15 39] [] [(0,1),(0,2),(5,6),(0,7),(1,7),(2,7),(3,7),(4,7),(5,7),(6,7),(6,8)] [3,4,9,20,33,34,35,36,37,38,39]) (.seq (.seq (oQ [M 40 15,O 41 (.bin .eql (.t 40) (I 0))] [40]) (.cond (.t 41) (oQ [oT 43 2 7,oT 44 2 14,O 45 (.call (.f ycg) [(.t 43),(.t 44)]),M 42 45,O 46 (.ext (.t 42) 0),O 47 (.ext (.t 42) 1),⟨none,(.store 2 (.t 6) (.t 46)),none⟩,M 15 47] [6,7,14,41,42,43,44,45,46,47]) .skip)) (.seq (oQ [M 48 15,⟨none,(.store 1 (.t 5) (.t 48)),none⟩] [5,6,7,14,15,41,48]) (.seq (oQ [O 11 (.mv (.c (.bool true)))] []) .ret)))))))⟩
def ykm:TCode:=(.seq (oQ [oX 17 .lss 16 15] []) (.seq (.cond (.t 17) .skip (.exit 0)) (.seq (.block 1 (.seq (.ops [M 18 16,O 19 (.iad 1 (.t 14) (.t 16)),oF 20 1 19,M 7 18,M 8 20] [⟨1,(.one (.i .i64)),0⟩,⟨2,(.one (.i .i64)),0⟩] [] [17,18,19,20]) (.seq (.ops [O 21 (.fad 1 (.t 3)),oF 22 1 21,M 23 7,O 24 (.bin .add (.t 23) (I 1)),O 25 (.iad 1 (.t 22) (.t 24)),oF 26 1 25,O 27 (.call (.f ya8) [(.t 26)]),O 9 (.allocL (.agg [(.int .i64 (0)),(.int .i64 (0))])),⟨none,(.store 2 (.t 9) (.t 27)),none⟩] [⟨1,(.agg [.i .i64,.d,.d]),0⟩,⟨4,(.one (.i .i64)),0⟩,⟨5,(.one (.i .i64)),0⟩] [] [7,21,22,23,24,25,26,27]) (.seq (.seq (oQ [oT 28 2 4,oT 29 2 9,O 30 (.call (.f ybs) [(.t 28),(.t 29)]),O 31 (.un .not (.t 30))] [28,29,30]) (.cond (.t 31) (.exit 1) .skip)) (.seq (oQ [O 32 (.call (.f ya8) [(I 0)]),O 10 (.allocL (.agg [(.int .i64 (0)),(.int .i64 (0))])),⟨none,(.store 2 (.t 10) (.t 32)),none⟩] [31,32]) (.seq (.seq (oQ [M 33 8,O 34 (.bin .gtr (.t 33) (I 0))] [33]) (.cond (.t 34) (.seq (oQ [oT 36 2 9,oT 37 2 4,O 38 (.call (.f ybg) [(.t 36),(.t 37)]),M 35 38,O 39 (.ext (.t 35) 0),O 40 (.ext (.t 35) 1),O 11 (.allocL (.agg [(.int .i64 (0)),(.int .i64 (0))])),⟨none,(.store 2 (.t 11) (.t 39)),none⟩,M 12 40] [34,35,36,37,38,39,40]) (.seq (.seq (oQ [M 41 12,O 42 (.bin .neq (.t 41) (I 0))] [41]) (.cond (.t 42) (.seq (oQ [M 43 12,M 6 43] [2,3,4,8,9,10,11,12,14,15,16,42,43]) .ret) .skip)) (.seq (.ops [oT 45 2 11,M 46 8,O 47 (.call (.f ya8) [(.t 46)]),O 48 (.call (.f ybI) [(.t 45),(.t 47)]),M 44 48,O 49 (.ext (.t 44) 0),O 50 (.ext (.t 44) 1),⟨none,(.store 2 (.t 10) (.t 49)),none⟩,M 12 50] [] [(0,1),(0,2),(5,6),(6,7)] [11,42,44,45,46,47,48,49,50]) (.seq (oQ [M 51 12,O 52 (.bin .neq (.t 51) (I 0))] [51]) (.cond (.t 52) (.seq (oQ [M 53 12,M 6 53] [2,3,4,8,9,10,12,14,15,16,52,53]) .ret) .skip))))) .skip)) (.seq (.seq (oQ [M 54 2,oT 55 2 4,oT 56 2 9,oT 57 2 10,M 58 8,O 59 (.call (.t 54) [(.t 55),(.t 56),(.t 57),(.t 58)])] [8,10,12,34,52,54,55,56,57,58]) (.cond (.t 59) (.seq (oQ [O 6 (.mv (I 0))] [2,3,4,9,14,15,16,59]) .ret) .skip)) (oQ [oT 60 2 9,⟨none,(.store 2 (.t 4) (.t 60)),none⟩] [9,59,60])))))))) (oQ [O 61 (.bin .add (.t 16) (I 1)),M 16 61] [8,9,31,61]))))
def yCt:TFn:=⟨3,[.tmp 6],(.seq (oQ [O 3 (.boxL (.t 0)),O 4 (.boxL (.t 1)),O 6 (.mv (I 0))] [0,1,6]) (.seq (.seq (.ops [O 13 (.fad 2 (.t 3)),oF 14 1 13,O 15 (.len (.t 14)),O 16 (.mv (I 0))] [⟨1,(.agg [.i .i64,.d,.d]),0⟩] [] [13]) (.block 0 (.loop 41613500 ykm))) (.seq (oQ [O 6 (.mv (I 0))] [2,3,4,14,15,16,17]) .ret)))⟩
def yCu:TFn:=⟨3,[.cell 6 true 2,.tmp 7],(.seq (oQ [O 3 (.boxL (.t 0)),O 4 (.boxL (.t 1)),O 5 (.boxH true 2 (.t 2)),O 6 (.allocL (.agg [(.int .i64 (0)),(.int .i64 (0))])),O 7 (.mv (I 0))] [0,1,2,7]) (.seq (.seq (oQ [oT 12 3 3,O 13 (.call (.f ybl) [(.t 12)]),M 8 13] [12,13]) (.seq (oQ [M 14 8,O 15 (.bin .neq (.t 14) (I 0))] [14]) (.cond (.t 15) (.seq (oQ [O 16 (.build [(.int .i64 (0)),(.int .i64 (0))] []),M 17 8,⟨none,(.store 2 (.t 6) (.t 16)),none⟩,M 7 17] [3,4,5,8,15,16,17]) .ret) .skip))) (.seq (.seq (.ops [oT 18 3 3,oT 19 2 4,O 20 (.call (.f ycZ) [(.t 18),(.t 19)]),O 21 (.un .not (.t 20)),M 22 21,⟨some 23,(.load true 2 (.t 5)),some (22,false)⟩,⟨some 24,(.call (.f ybx) [(.t 23)]),some (22,false)⟩,⟨some 25,(.bin .neq (.t 24) (I 0)),some (22,false)⟩,O 26 (.pick (.t 22) (.c (.bool true)) (.t 25)),M 27 26,⟨some 28,(.fad 0 (.t 5)),some (27,false)⟩,⟨some 29,(.load false 1 (.t 28)),some (27,false)⟩,⟨some 30,(.bin .lss (.t 29) (I 0)),some (27,false)⟩,O 31 (.pick (.t 27) (.c (.bool true)) (.t 30))] [⟨5,(.agg [.i .i64,.i .i64]),0⟩,⟨11,(.agg [.i .i64,.i .i64]),0⟩] [] [8,15,18,19,20,21,22,23,24,25,26,27,28,29,30]) (.cond (.t 31) (.seq (oQ [O 32 (.build [(.int .i64 (0)),(.int .i64 (0))] []),⟨none,(.store 2 (.t 6) (.t 32)),none⟩,O 7 (.mv (I 2))] [3,4,5,31,32]) .ret) .skip)) (.seq (.seq (.ops [O 33 (.fad 0 (.t 5)),oF 34 1 33,O 35 (.bin .eql (.t 34) (I 0))] [⟨1,(.agg [.i .i64,.i .i64]),0⟩] [] [31,33,34]) (.cond (.t 35) (.seq (oQ [oT 36 2 4,⟨none,(.store 2 (.t 6) (.t 36)),none⟩,O 7 (.mv (I 0))] [3,4,5,35,36]) .ret) .skip)) (.seq (oQ [O 9 (.allocH true 2 (.agg [(.int .i64 (0)),(.int .i64 (0))]))] [35]) (.seq (.ops [O 10 (.allocH true 1 (.int .i64 (0))),⟨none,(.store 1 (.t 10) (I 6)),none⟩] [⟨1,(.one (.i .i64)),0⟩] [] []) (.seq (oQ [oT 37 3 3,oT 38 2 4,O 39 (.mkFn (.func ydL) [] [(.t 5),(.t 10),(.t 9)]),O 40 (.call (.f yoj) [(.t 37),(.t 38),(.t 39)]),M 11 40] [3,4,5,37,38,39,40]) (.seq (.seq (oQ [M 41 11,O 42 (.bin .neq (.t 41) (I 0))] [41]) (.cond (.t 42) (.ops [M 43 11,⟨none,(.store 1 (.t 10) (.t 43)),none⟩] [⟨1,(.one (.i .i64)),0⟩] [] [11,42,43]) .skip)) (.seq (.seq (.ops [oF 44 1 10,O 45 (.bin .neq (.t 44) (I 0))] [⟨0,(.one (.i .i64)),0⟩] [] [11,42,44]) (.cond (.t 45) (.seq (.ops [O 46 (.build [(.int .i64 (0)),(.int .i64 (0))] []),oF 47 1 10,⟨none,(.store 2 (.t 6) (.t 46)),none⟩,M 7 47] [⟨1,(.one (.i .i64)),0⟩] [(0,1),(1,2)] [9,10,45,46,47]) .ret) .skip)) (.seq (.ops [oT 48 2 9,⟨none,(.store 2 (.t 6) (.t 48)),none⟩,O 7 (.mv (I 0))] [⟨0,(.agg [.i .i64,.i .i64]),0⟩] [] [9,10,45,48]) .ret))))))))))⟩
def ysj:TFn:=⟨4,[.cell 8 true 2,.tmp 9],(.seq (oQ [O 4 (.boxL (.t 0)),O 6 (.boxL (.t 2)),O 7 (.boxL (.t 3)),O 8 (.allocL (.agg [(.int .i64 (0)),(.int .i64 (0))])),O 9 (.mv (I 0))] [0,2,3,9]) (.seq (.ops [O 10 (.fad 0 (.t 4)),O 11 (.fad 0 (.t 10)),oF 12 1 11,M 13 1,O 14 (.iad 3 (.t 12) (.t 13)),oT 15 3 14,oT 16 2 6,oT 17 2 7,O 18 (.call (.f ydy) [(.t 15),(.t 16),(.t 17)]),O 19 (.ext (.t 18) 0),O 20 (.ext (.t 18) 1),⟨none,(.store 2 (.t 8) (.t 19)),none⟩,M 9 20] [⟨2,(.agg [.d,.d]),0⟩,⟨4,(.agg [.i .i64,.d,.d]),0⟩,⟨5,(.agg [.i .i64,.d,.d]),0⟩] [(0,3),(1,3),(2,3),(0,6),(1,6),(2,6),(3,6),(4,6),(5,6),(0,7),(1,7),(2,7),(3,7),(4,7),(5,7),(6,7),(9,10)] [1,4,6,7,10,11,12,13,14,15,16,17,18,19,20]) .ret))⟩
def yt0:TFn:=⟨2,[.tmp 4],(.seq (oQ [O 2 (.boxL (.t 0)),O 4 (.mv (.c (.bool false)))] [0,4]) (.seq (.ops [M 5 1,O 6 (.bin .geq (.t 5) (I 0)),M 7 6,⟨some 8,(.mv (.t 1)),some (7,true)⟩,⟨some 9,(.fad 0 (.t 2)),some (7,true)⟩,⟨some 10,(.fad 0 (.t 9)),some (7,true)⟩,⟨some 11,(.load false 1 (.t 10)),some (7,true)⟩,⟨some 12,(.len (.t 11)),some (7,true)⟩,⟨some 13,(.bin .lss (.t 8) (.t 12)),some (7,true)⟩,O 14 (.pick (.t 7) (.t 13) (.c (.bool false))),M 4 14] [⟨6,(.agg [.d,.d]),0⟩] [] [1,2,5,6,7,8,9,10,11,12,13,14]) .ret))⟩
def yt1:TFn:=⟨3,[.cell 6 true 2,.cell 7 true 2,.tmp 8],(.seq (oQ [O 3 (.boxL (.t 0)),O 4 (.boxL (.t 1)),O 6 (.allocL (.agg [.nils,.nils])),O 7 (.allocL (.agg [(.int .i64 (0)),(.int .i64 (0))])),O 8 (.mv (I 0))] [0,1,8]) (.seq (.seq (.ops [O 13 (.fad 0 (.t 3)),oT 14 2 13,O 15 (.call (.f ycv) [(.t 14)]),M 9 15] [⟨1,(.agg [.d,.d]),0⟩] [] [13,14,15]) (.seq (oQ [M 16 9,O 17 (.bin .neq (.t 16) (I 0))] [16]) (.cond (.t 17) (.seq (oQ [O 18 (.build [.nils,.nils] []),O 19 (.build [(.int .i64 (0)),(.int .i64 (0))] []),M 20 9,⟨none,(.store 2 (.t 6) (.t 18)),none⟩,⟨none,(.store 2 (.t 7) (.t 19)),none⟩,M 8 20] [2,3,4,9,17,18,19,20]) .ret) .skip))) (.seq (.seq (.ops [oT 21 2 3,O 22 (.fad 0 (.t 4)),oF 23 1 22,O 24 (.call (.f ydY) [(.t 21),(.t 23)]),O 25 (.un .not (.t 24))] [⟨2,(.agg [.i .i64,.i .u8,.i .i64,.i .i64,.i .i64,.i .i64,.i .i64,.i .i64]),0⟩] [] [9,17,21,22,23,24]) (.cond (.t 25) (.seq (oQ [O 26 (.build [.nils,.nils] []),O 27 (.build [(.int .i64 (0)),(.int .i64 (0))] []),⟨none,(.store 2 (.t 6) (.t 26)),none⟩,⟨none,(.store 2 (.t 7) (.t 27)),none⟩,O 8 (.mv (I 2))] [2,3,4,25,26,27]) .ret) .skip)) (.seq (.ops [M 29 2,O 30 (.fad 0 (.t 4)),oF 31 1 30,O 32 (.fad 2 (.t 4)),oT 33 2 32,O 34 (.fad 4 (.t 4)),oT 35 2 34,O 36 (.call (.t 29) [(.t 31),(.t 33),(.t 35)]),M 28 36,O 37 (.ext (.t 28) 0),O 38 (.ext (.t 28) 1),O 10 (.allocL (.agg [(.int .i64 (0)),(.int .i64 (0))])),⟨none,(.store 2 (.t 10) (.t 37)),none⟩,M 11 38] [⟨2,(.agg [.i .i64,.i .u8,.i .i64,.i .i64,.i .i64,.i .i64,.i .i64,.i .i64]),0⟩,⟨4,(.agg [.i .i64,.i .u8,.i .i64,.i .i64,.i .i64,.i .i64,.i .i64,.i .i64]),0⟩,⟨6,(.agg [.i .i64,.i .u8,.i .i64,.i .i64,.i .i64,.i .i64,.i .i64,.i .i64]),0⟩] [] [2,25,28,29,30,31,32,33,34,35,36,37,38]) (.seq (.seq (oQ [M 39 11,O 40 (.bin .neq (.t 39) (I 0))] [39]) (.cond (.t 40) (.seq (oQ [O 41 (.build [.nils,.nils] []),O 42 (.build [(.int .i64 (0)),(.int .i64 (0))] []),M 43 11,⟨none,(.store 2 (.t 6) (.t 41)),none⟩,⟨none,(.store 2 (.t 7) (.t 42)),none⟩,M 8 43] [3,4,10,11,40,41,42,43]) .ret) .skip)) (.seq (.seq (.ops [O 44 (.fad 0 (.t 3)),O 45 (.fad 1 (.t 44)),oF 46 1 45,O 47 (.len (.t 46)),O 48 (.bin .geq (.t 47) (I 2000))] [⟨2,(.agg [.d,.d]),0⟩] [] [11,40,44,45,46,47]) (.cond (.t 48) (.seq (oQ [O 49 (.build [.nils,.nils] []),O 50 (.build [(.int .i64 (0)),(.int .i64 (0))] []),⟨none,(.store 2 (.t 6) (.t 49)),none⟩,⟨none,(.store 2 (.t 7) (.t 50)),none⟩,O 8 (.mv (I 4))] [3,4,10,48,49,50]) .ret) .skip)) (.seq (.ops [oT 51 2 10,O 52 (.fad 6 (.t 4)),⟨none,(.store 2 (.t 52) (.t 51)),none⟩] [⟨2,(.agg [.i .i64,.i .u8,.i .i64,.i .i64,.i .i64,.i .i64,.i .i64,.i .i64]),0⟩] [] [48,51,52]) (.seq (.ops [O 53 (.fad 0 (.t 3)),O 54 (.fad 1 (.t 53)),oF 55 1 54,O 56 (.len (.t 55)),O 57 (.bin .add (.t 56) (I 1)),O 58 (.mkSl true 8 64 (.agg [(.int .i64 (0)),(.int .u8 (0)),(.int .i64 (0)),(.int .i64 (0)),(.int .i64 (0)),(.int .i64 (0)),(.int .i64 (0)),(.int .i64 (0))]) (I 0) (.t 57)),M 12 58] [⟨2,(.agg [.d,.d]),0⟩] [] [53,54,55,56,57,58]) (.seq (.ops [O 59 (.fad 0 (.t 3)),O 60 (.fad 0 (.t 59)),oF 61 1 60,O 62 (.call (.f yej) [(.t 61)]),M 63 12,O 64 (.fad 0 (.t 3)),O 65 (.fad 1 (.t 64)),oF 66 1 65,O 67 (.app true 8 64 (.t 63) (.t 66)),oT 68 8 4,O 69 (.buildD 8 (.agg [(.int .i64 (0)),(.int .u8 (0)),(.int .i64 (0)),(.int .i64 (0)),(.int .i64 (0)),(.int .i64 (0)),(.int .i64 (0)),(.int .i64 (0))]) 1 [(0,(.t 68))]),O 70 (.app true 8 64 (.t 67) (.t 69)),O 71 (.build [.nils,.nils] [(0,1,(.t 62)),(1,1,(.t 70))]),oT 72 2 10,⟨none,(.store 2 (.t 6) (.t 71)),none⟩,⟨none,(.store 2 (.t 7) (.t 72)),none⟩,O 8 (.mv (I 0))] [⟨2,(.agg [.d,.d]),0⟩,⟨7,(.agg [.d,.d]),0⟩] [(0,4),(1,4),(2,4),(3,4),(0,5),(1,5),(2,5),(3,5),(4,5),(0,6),(1,6),(2,6),(3,6),(4,6),(0,7),(1,7),(2,7),(3,7),(4,7),(0,9),(1,9),(2,9),(3,9),(4,9),(5,9),(6,9),(7,9),(8,9),(0,10),(1,10),(2,10),(3,10),(4,10),(5,10),(6,10),(7,10),(8,10),(0,13),(1,13),(2,13),(3,13),(4,13),(5,13),(6,13),(7,13),(8,13),(9,13),(10,13),(11,13),(12,13),(13,14)] [3,4,10,12,59,60,61,62,63,64,65,66,67,68,69,70,71,72]) .ret)))))))))⟩
def yEp:TFn:=⟨4,[.cell 8 true 2,.cell 9 true 2,.tmp 10],(.seq (oQ [O 4 (.boxL (.t 0)),O 6 (.boxL (.t 2)),O 7 (.boxL (.t 3)),O 8 (.allocL (.agg [.nils,.nils])),O 9 (.allocL (.agg [(.int .i64 (0)),(.int .i64 (0))])),O 10 (.mv (I 0))] [0,2,3,10]) (.seq (oQ [oT 12 2 4,O 13 (.build [.nils,.nils] [(0,2,(.t 12))]),O 11 (.allocL (.agg [.nils,.nils])),⟨none,(.store 2 (.t 11) (.t 13)),none⟩] [4,12,13]) (.seq (oQ [oT 14 2 11,M 15 1,oT 16 2 6,oT 17 2 7,O 18 (.build [(.int .i64 (0)),(.int .u8 (0)),(.int .i64 (0)),(.int .i64 (0)),(.int .i64 (0)),(.int .i64 (0)),(.int .i64 (0)),(.int .i64 (0))] [(0,1,(.t 15)),(1,1,(.c (.int .u8 (2)))),(2,2,(.t 16)),(4,2,(.t 17))]),oT 19 2 11,O 20 (.mkFn (.func ydz) [(.t 19)] []),O 21 (.call (.f yhv) [(.t 14),(.t 18),(.t 20)]),O 22 (.ext (.t 21) 0),O 23 (.ext (.t 21) 1),O 24 (.ext (.t 21) 2),⟨none,(.store 2 (.t 8) (.t 22)),none⟩,⟨none,(.store 2 (.t 9) (.t 23)),none⟩,M 10 24] [1,6,7,11,14,15,16,17,18,19,20,21,22,23,24]) .ret)))⟩
def yAm:TFn:=⟨2,[.tmp 4],(.seq (oQ [O 2 (.boxL (.t 0)),O 3 (.boxL (.t 1)),O 4 (.mv (.c (.bool false)))] [0,1,4]) (.seq (oQ [oT 8 2 2,oT 9 2 3,O 10 (.call (.f yfk) [(.t 8),(.t 9)]),M 7 10,O 11 (.ext (.t 7) 0),O 12 (.ext (.t 7) 1),M 5 11,M 6 12] [2,3,6,7,8,9,10,11,12]) (.seq (oQ [M 13 5,O 14 (.bin .lss (.t 13) (I 0)),M 4 14] [5,13,14]) .ret)))⟩
def ykn:TCode:=(.seq (oQ [oX 33 .lss 32 31] []) (.seq (.cond (.t 33) .skip (.exit 0)) (.seq (.block 1 (.seq (oQ [M 34 32,M 8 34] [33,34]) (oQ [M 35 7,M 36 8,O 37 (.buildD 1 (.int .i64 (0)) 1 [(0,(.t 36))]),O 38 (.app true 1 8 (.t 35) (.t 37)),M 7 38] [8,35,36,37,38]))) (oQ [O 39 (.bin .add (.t 32) (I 1)),M 32 39] [39]))))
def ygn:TCode:=(.seq (oQ [oX 52 .lss 51 50] []) (.seq (.cond (.t 52) .skip (.exit 4)) (.seq (.block 5 (.seq (.ops [M 53 51,O 54 (.iad 1 (.t 49) (.t 51)),oF 55 1 54,M 12 53,M 13 55] [⟨1,(.one (.i .i64)),0⟩,⟨2,(.one (.i .i64)),0⟩] [] [52,53,54,55]) (.seq (.ops [oT 57 2 6,M 58 13,oT 59 2 9,M 60 0,M 61 13,O 62 (.iad 3 (.t 60) (.t 61)),oT 63 3 62,M 64 0,O 65 (.len (.t 64)),O 66 (.call (.f ycb) [(.t 63),(.t 65)]),O 67 (.call (.f yj6) [(.t 57),(.t 58),(.t 59),(.t 66)]),M 56 67,O 68 (.ext (.t 56) 0),O 69 (.ext (.t 56) 1),O 70 (.ext (.t 56) 2),O 14 (.allocL (.agg [.nils,.nils])),O 15 (.allocL (.agg [(.int .i64 (0)),(.int .i64 (0))])),⟨none,(.store 2 (.t 14) (.t 68)),none⟩,⟨none,(.store 2 (.t 15) (.t 69)),none⟩,M 16 70] [⟨5,(.agg [.i .i64,.d,.d]),0⟩,⟨6,(.agg [.i .i64,.d,.d]),0⟩] [(0,1),(0,2),(1,2),(0,3),(1,3),(2,3),(0,4),(1,4),(2,4),(3,4),(0,5),(1,5),(2,5),(0,6),(1,6),(2,6),(0,7),(1,7),(2,7),(3,7),(4,7),(5,7),(6,7),(0,8),(1,8),(2,8),(3,8),(4,8),(5,8),(6,8),(0,9),(1,9),(2,9),(12,13),(12,14),(13,14),(0,15),(1,15),(2,15),(3,15),(4,15),(5,15),(6,15),(7,15),(8,15),(9,15),(10,15),(11,15),(12,15),(13,15),(14,15),(0,16),(1,16),(2,16),(3,16),(4,16),(5,16),(6,16),(7,16),(8,16),(9,16),(10,16),(11,16),(12,16),(13,16),(14,16),(15,16),(13,17),(14,17),(14,18)] [13,56,57,58,59,60,61,62,63,64,65,66,67,68,69,70]) (.seq (.seq (oQ [M 71 16,O 72 (.bin .neq (.t 71) (I 0))] [71]) (.cond (.t 72) (.seq (oQ [O 73 (.build [.nils] []),M 74 16,⟨none,(.store 1 (.t 2) (.t 73)),none⟩,O 3 (.mv (.c .nils)),O 4 (.mv (.c .nils)),M 5 74] [0,6,7,9,10,11,12,14,15,16,49,50,51,72,73,74]) .ret) .skip)) (.seq (oQ [oT 75 2 14,⟨none,(.store 2 (.t 6) (.t 75)),none⟩] [14,16,72,75]) (.seq (oQ [M 76 12,O 77 (.bin .eql (.t 76) (I 0)),M 78 77,⟨some 79,(.load true 2 (.t 15)),some (78,false)⟩,⟨some 80,(.load true 2 (.t 11)),some (78,false)⟩,⟨some 81,(.call (.f yc0) [(.t 79),(.t 80)]),some (78,false)⟩,O 82 (.pick (.t 78) (.c (.bool true)) (.t 81))] [76,77,78,79,80,81]) (.cond (.t 82) (.ops [M 83 12,oT 84 2 15,M 10 83,⟨none,(.store 2 (.t 11) (.t 84)),none⟩] [] [(0,1),(1,2)] [12,15,82,83,84]) .skip))))))) (oQ [O 85 (.bin .add (.t 51) (I 1)),M 51 85] [12,15,82,85]))))
def yhC:TCode:=(.seq (.seq (oQ [M 45 7,O 46 (.len (.t 45)),O 47 (.bin .gtr (.t 46) (I 1))] [45,46]) (.cond (.t 47) .skip (.exit 2))) (.block 3 (.seq (oQ [O 48 (.build [(.int .i64 (0)),(.int .i64 (0))] []),O 11 (.allocL (.agg [(.int .i64 (0)),(.int .i64 (0))])),O 10 (.mv (I 0)),⟨none,(.store 2 (.t 11) (.t 48)),none⟩] [47,48]) (.seq (.seq (oQ [M 49 7,O 50 (.len (.t 49)),O 51 (.mv (I 0))] []) (.block 4 (.loop 29600601 ygn))) (.seq (.ops [M 86 7,M 87 10,O 88 (.iad 1 (.t 86) (.t 87)),oF 89 1 88,M 17 89] [⟨2,(.one (.i .i64)),0⟩,⟨3,(.one (.i .i64)),0⟩] [] [49,50,51,52,86,87,88,89]) (.seq (.ops [O 90 (.fad 0 (.t 2)),oF 91 1 90,M 92 17,oT 93 2 9,oT 94 2 11,O 95 (.build [(.int .i64 (0)),(.int .i64 (0)),(.int .i64 (0)),(.int .i64 (0))] [(0,2,(.t 93)),(2,2,(.t 94))]),O 96 (.buildD 4 (.agg [(.int .i64 (0)),(.int .i64 (0)),(.int .i64 (0)),(.int .i64 (0))]) 1 [(0,(.t 95))]),O 97 (.iad 1 (.t 91) (.t 92)),⟨none,(.store 1 (.t 97) (.t 96)),none⟩] [⟨1,(.agg [.d]),0⟩,⟨7,(.one (.d)),0⟩,⟨8,(.one (.d)),0⟩] [] [90,91,92,93,94,95,96,97]) (.seq (oQ [M 98 3,M 99 17,O 100 (.buildD 1 (.int .i64 (0)) 1 [(0,(.t 99))]),O 101 (.app true 1 8 (.t 98) (.t 100)),M 3 101] [17,98,99,100,101]) (.seq (.ops [M 102 7,M 103 10,O 104 (.slc 1 (.t 102) none (some (.t 103)) none),M 105 7,M 106 10,O 107 (.bin .add (.t 106) (I 1)),O 108 (.slc 1 (.t 105) (some (.t 107)) none none),O 109 (.app true 1 8 (.t 104) (.t 108)),M 7 109] [] [(0,1),(0,3),(1,3),(2,3),(0,4),(1,4),(2,4),(3,4),(0,5),(1,5),(2,5),(3,5),(0,6),(1,6),(2,6)] [10,102,103,104,105,106,107,108,109]) (oQ [oT 110 2 11,⟨none,(.store 2 (.t 9) (.t 110)),none⟩] [11,110])))))))))
def yyg:TFn:=⟨1,[.cell 2 true 1,.tmp 3,.tmp 4,.tmp 5],(.seq (oQ [O 2 (.allocL (.agg [.nils])),O 3 (.mv (.c .nils)),O 4 (.mv (.c .nils)),O 5 (.mv (I 0))] [4,5]) (.seq (oQ [M 19 0,O 20 (.call (.f yj5) [(.t 19)]),M 18 20,O 21 (.ext (.t 18) 0),O 22 (.ext (.t 18) 1),O 6 (.allocL (.agg [.nils,.nils])),⟨none,(.store 2 (.t 6) (.t 21)),none⟩,M 5 22] [18,19,20,21,22]) (.seq (.seq (oQ [M 23 5,O 24 (.bin .neq (.t 23) (I 0))] [23]) (.cond (.t 24) (.seq (oQ [O 25 (.build [.nils] []),M 26 5,⟨none,(.store 1 (.t 2) (.t 25)),none⟩,O 3 (.mv (.c .nils)),O 4 (.mv (.c .nils)),M 5 26] [0,6,24,25,26]) .ret) .skip)) (.seq (oQ [M 27 0,O 28 (.len (.t 27)),O 29 (.mkSl true 1 8 (.int .i64 (0)) (I 0) (.t 28)),M 7 29] [5,24,27,28,29]) (.seq (.seq (oQ [M 30 0,O 31 (.len (.t 30)),O 32 (.mv (I 0))] [30]) (.block 0 (.loop 29600600 ykn))) (.seq (.ops [M 40 0,O 41 (.len (.t 40)),O 42 (.mkSl true 1 24 (.data []) (.t 41) (.t 41)),O 43 (.fad 0 (.t 2)),⟨none,(.store 1 (.t 43) (.t 42)),none⟩] [⟨4,(.agg [.d]),0⟩] [] [31,32,33,40,41,42,43]) (.seq (oQ [O 44 (.call (.f yaW) [(I 0)]),O 9 (.allocL (.agg [(.int .i64 (0)),(.int .i64 (0))])),⟨none,(.store 2 (.t 9) (.t 44)),none⟩] [44]) (.seq (.block 2 (.loop 29600602 yhC)) (.seq (.ops [O 111 (.fad 0 (.t 2)),oF 112 1 111,M 113 7,O 114 (.iad 1 (.t 113) (I 0)),oF 115 1 114,oT 116 2 9,M 117 0,O 118 (.iad 3 (.t 117) (I 0)),O 119 (.fad 0 (.t 118)),oF 120 1 119,O 121 (.call (.f yaW) [(.t 120)]),O 122 (.build [(.int .i64 (0)),(.int .i64 (0)),(.int .i64 (0)),(.int .i64 (0))] [(0,2,(.t 116)),(2,2,(.t 121))]),O 123 (.buildD 4 (.agg [(.int .i64 (0)),(.int .i64 (0)),(.int .i64 (0)),(.int .i64 (0))]) 1 [(0,(.t 122))]),O 124 (.iad 1 (.t 112) (.t 115)),⟨none,(.store 1 (.t 124) (.t 123)),none⟩] [⟨1,(.agg [.d]),0⟩,⟨3,(.one (.i .i64)),0⟩,⟨4,(.one (.i .i64)),0⟩,⟨7,(.agg [.i .i64,.d,.d]),0⟩,⟨9,(.agg [.i .i64,.d,.d]),0⟩,⟨13,(.one (.d)),0⟩,⟨14,(.one (.d)),0⟩] [(0,2),(1,2),(0,3),(1,3),(0,4),(1,4),(0,5),(1,5),(2,5),(3,5),(4,5),(0,6),(1,6),(2,6),(3,6),(4,6),(5,6),(0,7),(1,7),(2,7),(3,7),(4,7),(5,7),(0,8),(1,8),(2,8),(3,8),(4,8),(5,8),(0,9),(1,9),(2,9),(3,9),(4,9),(5,9),(0,10),(1,10),(2,10),(3,10),(4,10),(5,10),(0,11),(1,11),(2,11),(3,11),(4,11),(0,12),(1,12),(2,12),(3,12),(4,12)] [0,9,47,111,112,113,114,115,116,117,118,119,120,121,122,123,124]) (.seq (.ops [oT 125 1 2,M 126 3,M 127 7,O 128 (.iad 1 (.t 127) (I 0)),oF 129 1 128,O 130 (.buildD 1 (.int .i64 (0)) 1 [(0,(.t 129))]),O 131 (.app true 1 8 (.t 126) (.t 130)),O 132 (.fad 1 (.t 6)),oF 133 1 132,⟨none,(.store 1 (.t 2) (.t 125)),none⟩,M 3 131,M 4 133,O 5 (.mv (I 0))] [⟨3,(.one (.i .i64)),0⟩,⟨4,(.one (.i .i64)),0⟩,⟨8,(.agg [.d,.d]),0⟩] [(0,1),(0,2),(1,2),(0,3),(1,3),(0,4),(1,4),(0,5),(1,5),(0,6),(0,7),(1,7),(2,7),(3,7),(4,7),(5,7),(6,7),(0,8),(1,8),(2,8),(3,8),(4,8),(5,8),(6,8),(7,9),(8,9),(7,10),(8,10)] [6,7,125,126,127,128,129,130,131,132,133]) .ret))))))))))⟩
def yGE:TFn:=⟨0,[.cell 0 true 3,.cell 1 true 3],(.seq (oQ [O 0 (.allocL (.agg [(.int .i64 (0)),.nils,.nils])),O 1 (.allocL (.agg [(.int .i64 (0)),.nils,.nils]))] []) (.seq (oQ [O 2 (.buildD 1 (.int .i64 (0)) 2 [(0,(I 0)),(1,(I 4))]),O 3 (.buildD 1 (.int .i64 (0)) 1 [(0,(I 1))]),O 4 (.build [(.int .i64 (0)),.nils,.nils] [(0,1,(I 4)),(1,1,(.t 2)),(2,1,(.t 3))]),O 5 (.buildD 1 (.int .i64 (0)) 3 [(0,(I 0)),(1,(I 1)),(2,(I 4))]),O 6 (.buildD 1 (.int .i64 (0)) 2 [(0,(I 3)),(1,(I 1))]),O 7 (.build [(.int .i64 (0)),.nils,.nils] [(0,1,(I 4)),(1,1,(.t 5)),(2,1,(.t 6))]),⟨none,(.store 3 (.t 0) (.t 4)),none⟩,⟨none,(.store 3 (.t 1) (.t 7)),none⟩] [2,3,4,5,6,7]) .ret))⟩
def yHP:TFn:=⟨1,[.cell 2 true 2],(.seq (oQ [O 2 (.allocL (.agg [(.int .i64 (0)),(.int .i64 (0))]))] []) (.seq (oQ [M 3 0,O 4 (.build [(.int .i64 (0)),(.int .i64 (0))] [(0,1,(.t 3)),(1,1,(I 1))]),⟨none,(.store 2 (.t 2) (.t 4)),none⟩] [0,3,4]) .ret))⟩
def yHQ:TFn:=⟨1,[.cell 2 true 2],(.seq (oQ [O 2 (.allocL (.agg [(.int .i64 (0)),(.int .i64 (0))]))] []) (.seq (oQ [M 3 0,O 4 (.call (.f yfl) [(.t 3)]),⟨none,(.store 2 (.t 2) (.t 4)),none⟩] [0,3,4]) .ret))⟩
def yyh:TFn:=⟨2,[.cell 4 true 2,.tmp 5],(.seq (oQ [O 2 (.boxL (.t 0)),O 3 (.boxL (.t 1)),O 4 (.allocL (.agg [(.int .i64 (0)),(.int .i64 (0))])),O 5 (.mv (I 0))] [0,1,5]) (.seq (.seq (oQ [oT 7 3 2,O 8 (.call (.f ybl) [(.t 7)]),M 6 8] [7,8]) (.seq (oQ [M 9 6,O 10 (.bin .neq (.t 9) (I 0))] [9]) (.cond (.t 10) (.seq (oQ [O 11 (.build [(.int .i64 (0)),(.int .i64 (0))] []),M 12 6,⟨none,(.store 2 (.t 4) (.t 11)),none⟩,M 5 12] [2,3,6,10,11,12]) .ret) .skip))) (.seq (.ops [oT 13 3 2,oT 14 2 3,oT 15 3 2,O 16 (.call (.f ycb) [(.t 15),(I 2)]),O 17 (.call (.f ydy) [(.t 13),(.t 14),(.t 16)]),O 18 (.ext (.t 17) 0),O 19 (.ext (.t 17) 1),⟨none,(.store 2 (.t 4) (.t 18)),none⟩,M 5 19] [] [(0,1),(0,2),(1,2),(0,3),(1,3),(5,6)] [2,3,6,10,13,14,15,16,17,18,19]) .ret)))⟩
def yko:TCode:=(.seq (oQ [oX 45 .lss 44 43] []) (.seq (.cond (.t 45) .skip (.exit 0)) (.seq (.block 1 (.seq (.ops [M 46 44,O 47 (.iad 1 (.t 42) (.t 44)),oF 48 1 47,M 11 46,M 12 48] [⟨1,(.one (.i .i64)),0⟩,⟨2,(.one (.i .i64)),0⟩] [] [45,46,47,48]) (.seq (.ops [O 49 (.fad 1 (.t 3)),oF 50 1 49,M 51 11,O 52 (.bin .add (.t 51) (I 1)),O 53 (.iad 1 (.t 50) (.t 52)),oF 54 1 53,O 55 (.call (.f ya8) [(.t 54)]),O 13 (.allocL (.agg [(.int .i64 (0)),(.int .i64 (0))])),⟨none,(.store 2 (.t 13) (.t 55)),none⟩] [⟨1,(.agg [.i .i64,.d,.d]),0⟩,⟨4,(.one (.i .i64)),0⟩,⟨5,(.one (.i .i64)),0⟩] [] [11,49,50,51,52,53,54,55]) (.seq (.seq (oQ [oT 56 2 5,oT 57 2 13,O 58 (.call (.f ybs) [(.t 56),(.t 57)])] [56,57]) (.cond (.t 58) (oQ [oT 59 2 5,⟨none,(.store 2 (.t 13) (.t 59)),none⟩] [58,59]) .skip)) (.seq (.seq (oQ [M 60 12,O 61 (.bin .eql (.t 60) (I 0)),M 62 61,⟨some 63,(.load true 2 (.t 10)),some (62,false)⟩,⟨some 64,(.load true 2 (.t 13)),some (62,false)⟩,⟨some 65,(.call (.f ybs) [(.t 63),(.t 64)]),some (62,false)⟩,⟨some 66,(.un .not (.t 65)),some (62,false)⟩,O 67 (.pick (.t 62) (.c (.bool true)) (.t 66))] [58,60,61,62,63,64,65,66]) (.cond (.t 67) (.seq (.seq (oQ [oT 68 2 10,oT 69 2 13,O 70 (.call (.f ybs) [(.t 68),(.t 69)])] [12,67,68,69]) (.cond (.t 70) (oQ [oT 71 2 13,⟨none,(.store 2 (.t 10) (.t 71)),none⟩] [13,70,71]) .skip)) (.exit 1)) .skip)) (.seq (oQ [oT 73 2 13,oT 74 2 10,O 75 (.call (.f ybg) [(.t 73),(.t 74)]),M 72 75,O 76 (.ext (.t 72) 0),O 77 (.ext (.t 72) 1),O 14 (.allocL (.agg [(.int .i64 (0)),(.int .i64 (0))])),⟨none,(.store 2 (.t 14) (.t 76)),none⟩,M 15 77] [67,72,73,74,75,76,77]) (.seq (.seq (oQ [M 78 15,O 79 (.bin .neq (.t 78) (I 0))] [78]) (.cond (.t 79) (.seq (oQ [O 80 (.build [(.int .i64 (0)),(.int .i64 (0))] []),M 81 15,⟨none,(.store 2 (.t 6) (.t 80)),none⟩,M 7 81] [3,5,9,10,12,13,14,15,42,43,44,79,80,81]) .ret) .skip)) (.seq (.ops [oT 83 2 14,M 84 12,O 85 (.call (.f ya8) [(.t 84)]),O 86 (.call (.f ybI) [(.t 83),(.t 85)]),M 82 86,O 87 (.ext (.t 82) 0),O 88 (.ext (.t 82) 1),O 16 (.allocL (.agg [(.int .i64 (0)),(.int .i64 (0))])),⟨none,(.store 2 (.t 16) (.t 87)),none⟩,M 15 88] [] [(0,1),(0,2),(5,6),(0,7),(1,7),(2,7),(3,7),(4,7),(5,7),(6,7),(6,8)] [12,14,79,82,83,84,85,86,87,88]) (.seq (.seq (oQ [M 89 15,O 90 (.bin .neq (.t 89) (I 0))] [89]) (.cond (.t 90) (.seq (oQ [O 91 (.build [(.int .i64 (0)),(.int .i64 (0))] []),M 92 15,⟨none,(.store 2 (.t 6) (.t 91)),none⟩,M 7 92] [3,5,9,10,13,15,16,42,43,44,90,91,92]) .ret) .skip)) (.seq (.seq (oQ [oT 94 2 9,oT 95 2 16,O 96 (.call (.f ycg) [(.t 94),(.t 95)]),M 93 96,O 97 (.ext (.t 93) 0),O 98 (.ext (.t 93) 1),⟨none,(.store 2 (.t 9) (.t 97)),none⟩,M 15 98] [16,90,93,94,95,96,97,98]) (.seq (oQ [M 99 15,O 100 (.bin .neq (.t 99) (I 0))] [99]) (.cond (.t 100) (.seq (oQ [O 101 (.build [(.int .i64 (0)),(.int .i64 (0))] []),M 102 15,⟨none,(.store 2 (.t 6) (.t 101)),none⟩,M 7 102] [3,5,9,10,13,15,42,43,44,100,101,102]) .ret) .skip))) (oQ [oT 103 2 13,⟨none,(.store 2 (.t 10) (.t 103)),none⟩] [13,15,100,103]))))))))))) (oQ [O 104 (.bin .add (.t 44) (I 1)),M 44 104] [13,70,104]))))
def yAn:TFn:=⟨3,[.cell 6 true 2,.tmp 7],(.seq (oQ [O 3 (.boxL (.t 0)),O 4 (.boxL (.t 1)),O 5 (.boxL (.t 2)),O 6 (.allocL (.agg [(.int .i64 (0)),(.int .i64 (0))])),O 7 (.mv (I 0))] [0,1,2,7]) (.seq (.seq (oQ [oT 17 3 3,O 18 (.call (.f ybl) [(.t 17)]),M 8 18] [17,18]) (.seq (oQ [M 19 8,O 20 (.bin .neq (.t 19) (I 0))] [19]) (.cond (.t 20) (.seq (oQ [O 21 (.build [(.int .i64 (0)),(.int .i64 (0))] []),M 22 8,⟨none,(.store 2 (.t 6) (.t 21)),none⟩,M 7 22] [3,4,5,8,20,21,22]) .ret) .skip))) (.seq (.seq (oQ [oT 23 3 3,oT 24 2 4,O 25 (.call (.f ycZ) [(.t 23),(.t 24)]),O 26 (.un .not (.t 25)),M 27 26,⟨some 28,(.load true 3 (.t 3)),some (27,false)⟩,⟨some 29,(.load true 2 (.t 5)),some (27,false)⟩,⟨some 30,(.call (.f ycZ) [(.t 28),(.t 29)]),some (27,false)⟩,⟨some 31,(.un .not (.t 30)),some (27,false)⟩,O 32 (.pick (.t 27) (.c (.bool true)) (.t 31)),M 33 32,⟨some 34,(.load true 2 (.t 5)),some (33,false)⟩,⟨some 35,(.load true 2 (.t 4)),some (33,false)⟩,⟨some 36,(.call (.f ybs) [(.t 34),(.t 35)]),some (33,false)⟩,O 37 (.pick (.t 33) (.c (.bool true)) (.t 36))] [8,20,23,24,25,26,27,28,29,30,31,32,33,34,35,36]) (.cond (.t 37) (.seq (oQ [O 38 (.build [(.int .i64 (0)),(.int .i64 (0))] []),⟨none,(.store 2 (.t 6) (.t 38)),none⟩,O 7 (.mv (I 2))] [3,4,5,37,38]) .ret) .skip)) (.seq (oQ [O 39 (.call (.f ya8) [(I 0)]),O 9 (.allocL (.agg [(.int .i64 (0)),(.int .i64 (0))])),⟨none,(.store 2 (.t 9) (.t 39)),none⟩] [37,39]) (.seq (oQ [oT 40 2 4,O 10 (.allocL (.agg [(.int .i64 (0)),(.int .i64 (0))])),⟨none,(.store 2 (.t 10) (.t 40)),none⟩] [4,40]) (.seq (.seq (.ops [O 41 (.fad 2 (.t 3)),oF 42 1 41,O 43 (.len (.t 42)),O 44 (.mv (I 0))] [⟨1,(.agg [.i .i64,.d,.d]),0⟩] [] [41]) (.block 0 (.loop 85339800 yko))) (.seq (oQ [oT 105 2 9,⟨none,(.store 2 (.t 6) (.t 105)),none⟩,O 7 (.mv (I 0))] [3,5,9,10,42,43,44,45,105]) .ret)))))))⟩
def yCv:TFn:=⟨3,[.cell 6 true 2,.tmp 7],(.seq (oQ [O 3 (.boxL (.t 0)),O 4 (.boxL (.t 1)),O 5 (.boxL (.t 2)),O 6 (.allocL (.agg [(.int .i64 (0)),(.int .i64 (0))])),O 7 (.mv (I 0))] [0,1,2,7]) (.seq (.seq (oQ [oT 12 3 3,oT 13 3 4,O 14 (.buildD 3 (.agg [(.int .i64 (0)),(.data []),(.data [])]) 2 [(0,(.t 12)),(1,(.t 13))]),O 15 (.build [.nils,.nils] [(0,1,(.t 14))]),O 16 (.call (.f ycv) [(.t 15)]),M 8 16] [12,13,14,15,16]) (.seq (oQ [M 17 8,O 18 (.bin .neq (.t 17) (I 0))] [17]) (.cond (.t 18) (.seq (oQ [O 19 (.build [(.int .i64 (0)),(.int .i64 (0))] []),M 20 8,⟨none,(.store 2 (.t 6) (.t 19)),none⟩,M 7 20] [3,4,5,8,18,19,20]) .ret) .skip))) (.seq (oQ [oT 22 3 3,oT 23 2 5,O 24 (.call (.f yby) [(.t 22),(.t 23)]),M 21 24,O 25 (.ext (.t 21) 0),O 26 (.ext (.t 21) 1),O 9 (.allocL (.agg [(.int .i64 (0)),(.int .i64 (0))])),⟨none,(.store 2 (.t 9) (.t 25)),none⟩,M 10 26] [3,8,18,21,22,23,24,25,26]) (.seq (.seq (oQ [M 27 10,O 28 (.bin .neq (.t 27) (I 0))] [27]) (.cond (.t 28) (.seq (oQ [O 29 (.build [(.int .i64 (0)),(.int .i64 (0))] []),M 30 10,⟨none,(.store 2 (.t 6) (.t 29)),none⟩,M 7 30] [4,5,9,10,28,29,30]) .ret) .skip)) (.seq (oQ [oT 32 3 4,oT 33 2 5,oT 34 2 9,O 35 (.call (.f yek) [(.t 32),(.t 33),(.t 34)]),M 31 35,O 36 (.ext (.t 31) 0),O 37 (.ext (.t 31) 1),O 11 (.allocL (.agg [(.int .i64 (0)),(.int .i64 (0))])),⟨none,(.store 2 (.t 11) (.t 36)),none⟩,M 10 37] [5,9,28,31,32,33,34,35,36,37]) (.seq (.seq (oQ [M 38 10,O 39 (.bin .neq (.t 38) (I 0))] [38]) (.cond (.t 39) (.seq (oQ [O 40 (.build [(.int .i64 (0)),(.int .i64 (0))] []),M 41 10,⟨none,(.store 2 (.t 6) (.t 40)),none⟩,M 7 41] [4,10,11,39,40,41]) .ret) .skip)) (.seq (.ops [oT 42 2 11,oT 43 3 4,O 44 (.call (.f ycb) [(.t 43),(I 2)]),O 45 (.call (.f ybg) [(.t 42),(.t 44)]),O 46 (.ext (.t 45) 0),O 47 (.ext (.t 45) 1),⟨none,(.store 2 (.t 6) (.t 46)),none⟩,M 7 47] [] [(0,1),(0,2),(4,5)] [4,10,11,39,42,43,44,45,46,47]) .ret)))))))⟩
def ykp:TCode:=(.seq (oQ [oX 11 .lss 10 9] []) (.seq (.cond (.t 11) .skip (.exit 0)) (.seq (.block 1 (.seq (.ops [O 12 (.iad 1 (.t 8) (.t 10)),oF 13 1 12,M 6 13] [⟨0,(.one (.i .i64)),0⟩,⟨1,(.one (.i .i64)),0⟩] [] [11,12,13]) (.seq (.ops [oT 14 2 3,M 15 6,O 16 (.call (.f yaW) [(.t 15)]),O 17 (.call (.f yc0) [(.t 14),(.t 16)])] [] [(0,1),(0,2)] [14,15,16]) (.cond (.t 17) (.seq (oQ [M 18 6,O 19 (.call (.f yaW) [(.t 18)]),⟨none,(.store 2 (.t 4) (.t 19)),none⟩] [2,3,6,8,9,10,17,18,19]) .ret) .skip)))) (oQ [O 20 (.bin .add (.t 10) (I 1)),M 10 20] [6,17,20]))))
def yAo:TFn:=⟨2,[.cell 4 true 2],(.seq (oQ [O 2 (.boxL (.t 0)),O 3 (.boxL (.t 1)),O 4 (.allocL (.agg [(.int .i64 (0)),(.int .i64 (0))]))] [0,1]) (.seq (.seq (.ops [O 7 (.fad 1 (.t 2)),oF 8 1 7,O 9 (.len (.t 8)),O 10 (.mv (I 0))] [⟨1,(.agg [.i .i64,.d,.d]),0⟩] [] [7]) (.block 0 (.loop 55415100 ykp))) (.seq (.ops [O 21 (.fad 0 (.t 2)),oF 22 1 21,O 23 (.call (.f yaW) [(.t 22)]),⟨none,(.store 2 (.t 4) (.t 23)),none⟩] [⟨1,(.agg [.i .i64,.d,.d]),0⟩] [] [2,3,8,9,10,11,21,22,23]) .ret)))⟩
def ywN:TFn:=⟨2,[.cell 4 true 2],(.seq (oQ [O 2 (.boxL (.t 0)),O 3 (.boxL (.t 1)),O 4 (.allocL (.agg [(.int .i64 (0)),(.int .i64 (0))]))] [0,1]) (.seq (.seq (oQ [oT 5 2 2,oT 6 2 3,O 7 (.call (.f yc0) [(.t 5),(.t 6)])] [5,6]) (.cond (.t 7) (.seq (oQ [oT 8 2 2,⟨none,(.store 2 (.t 4) (.t 8)),none⟩] [2,3,7,8]) .ret) .skip)) (.seq (oQ [oT 9 2 3,⟨none,(.store 2 (.t 4) (.t 9)),none⟩] [2,3,7,9]) .ret)))⟩
def yyi:TFn:=⟨2,[.cell 4 true 2],(.seq (oQ [O 2 (.boxL (.t 0)),O 3 (.boxL (.t 1)),O 4 (.allocL (.agg [(.int .i64 (0)),(.int .i64 (0))]))] [0,1]) (.seq (.ops [oT 10 3 2,O 11 (.call (.f yaW) [(I 0)]),oT 12 2 3,O 13 (.call (.f yek) [(.t 10),(.t 11),(.t 12)]),M 9 13,O 14 (.ext (.t 9) 0),O 15 (.ext (.t 9) 1),O 5 (.allocL (.agg [(.int .i64 (0)),(.int .i64 (0))])),⟨none,(.store 2 (.t 5) (.t 14)),none⟩,M 6 15] [] [(0,1),(0,2),(1,2),(5,6),(0,7),(1,7),(2,7),(3,7),(4,7),(5,7),(6,7),(6,8)] [3,6,9,10,11,12,13,14,15]) (.seq (.ops [oT 17 2 5,oT 18 3 2,O 19 (.call (.f ycb) [(.t 18),(I 2)]),O 20 (.call (.f ybg) [(.t 17),(.t 19)]),M 16 20,O 21 (.ext (.t 16) 0),O 22 (.ext (.t 16) 1),⟨none,(.store 2 (.t 5) (.t 21)),none⟩] [] [(0,1),(0,2),(5,6),(6,7)] [16,17,18,19,20,21,22]) (.seq (.ops [oT 24 3 2,O 25 (.call (.f yaW) [(I 0)]),oT 26 2 5,O 27 (.call (.f ydy) [(.t 24),(.t 25),(.t 26)]),M 23 27,O 28 (.ext (.t 23) 0),O 29 (.ext (.t 23) 1),O 7 (.allocL (.agg [(.int .i64 (0)),(.int .i64 (0))])),⟨none,(.store 2 (.t 7) (.t 28)),none⟩,M 8 29] [] [(0,1),(0,2),(1,2),(5,6),(0,7),(1,7),(2,7),(3,7),(4,7),(5,7),(6,7),(6,8)] [2,5,8,23,24,25,26,27,28,29]) (.seq (oQ [oT 30 2 7,⟨none,(.store 2 (.t 4) (.t 30)),none⟩] [7,30]) .ret)))))⟩
def yjQ:TCode:=(.seq (oQ [oX 48 .lss 47 46] []) (.seq (.cond (.t 48) .skip (.exit 2)) (.seq (.block 3 (.seq (.ops [O 49 (.iad 1 (.t 45) (.t 47)),oF 50 1 49,M 10 50] [⟨0,(.one (.i .i64)),0⟩,⟨1,(.one (.i .i64)),0⟩] [] [48,49,50]) (.seq (oQ [M 51 10,O 52 (.bin .eql (.t 51) (I 0))] [10,51]) (.cond (.t 52) (.seq (oQ [O 53 (.build [(.int .i64 (0)),(.int .i64 (0)),(.int .i64 (0)),(.int .i64 (0))] []),⟨none,(.store 4 (.t 4) (.t 53)),none⟩,O 5 (.mv (I 2))] [2,3,38,39,40,45,46,47,52,53]) .ret) .skip)))) (oQ [O 54 (.bin .add (.t 47) (I 1)),M 47 54] [52,54]))))
def ymF:TCode:=(.seq (oQ [oX 41 .lss 40 39] []) (.seq (.cond (.t 41) .skip (.exit 0)) (.seq (.block 1 (.seq (.ops [O 42 (.iad 3 (.t 38) (.t 40)),oT 43 3 42,O 8 (.allocL (.agg [(.int .i64 (0)),.nils,.nils])),⟨none,(.store 3 (.t 8) (.t 43)),none⟩] [⟨0,(.agg [.i .i64,.d,.d]),0⟩,⟨1,(.agg [.i .i64,.d,.d]),0⟩] [] [41,42,43]) (.seq (.ops [O 44 (.fad 2 (.t 8)),oF 45 1 44,O 46 (.len (.t 45)),O 47 (.mv (I 0))] [⟨1,(.agg [.i .i64,.d,.d]),0⟩] [] [8,44]) (.block 2 (.loop 5501800 yjQ))))) (oQ [O 55 (.bin .add (.t 40) (I 1)),M 40 55] [45,46,47,48,55]))))
def ymG:TCode:=(.block 5 (.seq (oQ [oT 58 3 2,oT 59 2 11,O 60 (.call (.f yby) [(.t 58),(.t 59)]),M 57 60,O 61 (.ext (.t 57) 0),O 62 (.ext (.t 57) 1),O 12 (.allocL (.agg [(.int .i64 (0)),(.int .i64 (0))])),⟨none,(.store 2 (.t 12) (.t 61)),none⟩,M 13 62] [13,57,58,59,60,61,62]) (.seq (oQ [oT 64 3 2,oT 65 3 3,oT 66 2 11,O 67 (.call (.f ycw) [(.t 64),(.t 65),(.t 66)]),M 63 67,O 68 (.ext (.t 63) 0),O 69 (.ext (.t 63) 1),O 14 (.allocL (.agg [(.int .i64 (0)),(.int .i64 (0))])),⟨none,(.store 2 (.t 14) (.t 68)),none⟩,M 15 69] [15,63,64,65,66,67,68,69]) (.seq (.seq (.ops [O 70 (.fad 0 (.t 14)),oF 71 1 70,O 72 (.bin .eql (.t 71) (I 0))] [⟨1,(.agg [.i .i64,.i .i64]),0⟩] [] [70,71]) (.cond (.t 72) (.seq (oQ [oT 73 2 11,oT 74 2 12,O 75 (.build [(.int .i64 (0)),(.int .i64 (0)),(.int .i64 (0)),(.int .i64 (0))] [(0,2,(.t 73)),(2,2,(.t 74))]),⟨none,(.store 4 (.t 4) (.t 75)),none⟩,O 5 (.mv (I 0))] [2,3,11,12,14,72,73,74,75]) .ret) .skip)) (.seq (.ops [oT 76 3 2,oT 77 2 11,O 78 (.call (.f ydA) [(.t 76),(.t 77)]),oT 79 3 3,oT 80 2 11,O 81 (.call (.f ydA) [(.t 79),(.t 80)]),O 82 (.call (.f ydl) [(.t 78),(.t 81)]),oT 83 3 2,oT 84 3 2,oT 85 2 12,O 86 (.call (.f ydA) [(.t 84),(.t 85)]),oT 87 3 3,oT 88 2 12,O 89 (.call (.f ydA) [(.t 87),(.t 88)]),O 90 (.call (.f ydl) [(.t 86),(.t 89)]),O 91 (.call (.f yf8) [(.t 83),(.t 90)]),O 92 (.call (.f ydl) [(.t 82),(.t 91)]),O 16 (.allocL (.agg [(.int .i64 (0)),(.int .i64 (0))])),⟨none,(.store 2 (.t 16) (.t 92)),none⟩] [] [(0,1),(0,3),(1,3),(2,3),(0,4),(1,4),(2,4),(3,4),(0,7),(1,7),(2,7),(3,7),(4,7),(5,7),(6,7),(0,8),(1,8),(2,8),(3,8),(4,8),(5,8),(6,8),(7,8),(0,9),(1,9),(2,9),(3,9),(4,9),(5,9),(6,9),(7,9),(8,9),(7,10),(0,11),(1,11),(2,11),(3,11),(4,11),(5,11),(6,11),(7,11),(8,11),(9,11),(10,11),(0,12),(1,12),(2,12),(3,12),(4,12),(5,12),(6,12),(7,12),(8,12),(9,12),(10,12),(11,12),(7,13),(7,14),(0,17),(1,17),(2,17),(3,17),(4,17),(5,17),(6,17),(7,17),(8,17),(9,17),(10,17),(11,17),(12,17),(13,17),(14,17),(15,17),(16,17)] [12,72,76,77,78,79,80,81,82,83,84,85,86,87,88,89,90,91,92]) (.seq (oQ [oT 94 3 2,oT 95 3 3,oT 96 2 16,O 97 (.call (.f ycw) [(.t 94),(.t 95),(.t 96)]),M 93 97,O 98 (.ext (.t 93) 0),O 99 (.ext (.t 93) 1),O 17 (.allocL (.agg [(.int .i64 (0)),(.int .i64 (0))])),⟨none,(.store 2 (.t 17) (.t 98)),none⟩,M 18 99] [18,93,94,95,96,97,98,99]) (.seq (.seq (.ops [O 100 (.fad 0 (.t 14)),oF 101 1 100,O 102 (.bin .gtr (.t 101) (I 0)),M 103 102,⟨some 104,(.fad 0 (.t 17)),some (103,true)⟩,⟨some 105,(.load false 1 (.t 104)),some (103,true)⟩,⟨some 106,(.bin .lss (.t 105) (I 0)),some (103,true)⟩,O 107 (.pick (.t 103) (.t 106) (.c (.bool false))),M 108 107,⟨some 109,(.fad 0 (.t 14)),some (108,false)⟩,⟨some 110,(.load false 1 (.t 109)),some (108,false)⟩,⟨some 111,(.bin .lss (.t 110) (I 0)),some (108,false)⟩,⟨some 112,(.mv (.t 111)),some (108,false)⟩,⟨some 113,(.fad 0 (.t 17)),some (112,true)⟩,⟨some 114,(.load false 1 (.t 113)),some (112,true)⟩,⟨some 115,(.bin .gtr (.t 114) (I 0)),some (112,true)⟩,⟨some 116,(.pick (.t 112) (.t 115) (.c (.bool false))),some (108,false)⟩,O 117 (.pick (.t 108) (.c (.bool true)) (.t 116))] [⟨1,(.agg [.i .i64,.i .i64]),0⟩,⟨5,(.agg [.i .i64,.i .i64]),0⟩,⟨10,(.agg [.i .i64,.i .i64]),0⟩,⟨14,(.agg [.i .i64,.i .i64]),0⟩] [] [100,101,102,103,104,105,106,107,108,109,110,111,112,113,114,115,116]) (.cond (.t 117) (.seq (oQ [oT 119 2 14,oT 120 2 17,O 121 (.call (.f ybg) [(.t 119),(.t 120)]),M 118 121,O 122 (.ext (.t 118) 0),O 123 (.ext (.t 118) 1),O 19 (.allocL (.agg [(.int .i64 (0)),(.int .i64 (0))])),⟨none,(.store 2 (.t 19) (.t 122)),none⟩,M 20 123] [17,20,117,118,119,120,121,122,123]) (.seq (oQ [oT 125 2 14,oT 126 2 19,O 127 (.call (.f yeg) [(.t 125),(.t 126)]),M 124 127,O 128 (.ext (.t 124) 0),O 129 (.ext (.t 124) 1),O 21 (.allocL (.agg [(.int .i64 (0)),(.int .i64 (0))])),⟨none,(.store 2 (.t 21) (.t 128)),none⟩,M 22 129] [14,19,22,124,125,126,127,128,129]) (.seq (oQ [oT 131 2 16,oT 132 2 11,O 133 (.call (.f ybg) [(.t 131),(.t 132)]),M 130 133,O 134 (.ext (.t 130) 0),O 135 (.ext (.t 130) 1),O 23 (.allocL (.agg [(.int .i64 (0)),(.int .i64 (0))])),⟨none,(.store 2 (.t 23) (.t 134)),none⟩,M 24 135] [16,24,130,131,132,133,134,135]) (.seq (oQ [oT 137 2 23,oT 138 2 21,O 139 (.call (.f ybI) [(.t 137),(.t 138)]),M 136 139,O 140 (.ext (.t 136) 0),O 141 (.ext (.t 136) 1),O 25 (.allocL (.agg [(.int .i64 (0)),(.int .i64 (0))])),⟨none,(.store 2 (.t 25) (.t 140)),none⟩,M 26 141] [21,23,26,136,137,138,139,140,141]) (.seq (oQ [oT 143 2 11,oT 144 2 25,O 145 (.call (.f ycg) [(.t 143),(.t 144)]),M 142 145,O 146 (.ext (.t 142) 0),O 147 (.ext (.t 142) 1),⟨none,(.store 2 (.t 11) (.t 146)),none⟩] [25,142,143,144,145,146,147]) (.exit 5)))))) .skip)) (oQ [oT 148 2 16,⟨none,(.store 2 (.t 11) (.t 148)),none⟩] [14,16,17,117,148]))))))))
def yAp:TFn:=⟨2,[.cell 4 true 4,.tmp 5],(.seq (oQ [O 2 (.boxL (.t 0)),O 3 (.boxL (.t 1)),O 4 (.allocL (.agg [(.int .i64 (0)),(.int .i64 (0)),(.int .i64 (0)),(.int .i64 (0))])),O 5 (.mv (I 0))] [0,1,5]) (.seq (.seq (oQ [oT 27 3 2,oT 28 3 3,O 29 (.buildD 3 (.agg [(.int .i64 (0)),(.data []),(.data [])]) 2 [(0,(.t 27)),(1,(.t 28))]),O 30 (.build [.nils,.nils] [(0,1,(.t 29))]),O 31 (.call (.f ycv) [(.t 30)]),M 6 31] [27,28,29,30,31]) (.seq (oQ [M 32 6,O 33 (.bin .neq (.t 32) (I 0))] [32]) (.cond (.t 33) (.seq (oQ [O 34 (.build [(.int .i64 (0)),(.int .i64 (0)),(.int .i64 (0)),(.int .i64 (0))] []),M 35 6,⟨none,(.store 4 (.t 4) (.t 34)),none⟩,M 5 35] [2,3,6,33,34,35]) .ret) .skip))) (.seq (.seq (oQ [oT 36 3 2,oT 37 3 3,O 38 (.buildSl true 3 (.agg [(.int .i64 (0)),(.data []),(.data [])]) 2 [(0,(.t 36)),(1,(.t 37))]),O 39 (.len (.t 38)),O 40 (.mv (I 0))] [6,33,36,37]) (.block 0 (.loop 5501801 ymF))) (.seq (oQ [O 56 (.call (.f yaW) [(I 0)]),O 11 (.allocL (.agg [(.int .i64 (0)),(.int .i64 (0))])),⟨none,(.store 2 (.t 11) (.t 56)),none⟩] [38,39,40,41,56]) (.block 4 (.loop 5501802 ymG))))))⟩
def ykq:TCode:=(.seq (.seq (oQ [M 11 5,M 12 0,O 13 (.len (.t 12)),oX 14 .lss 11 13] [11,12,13]) (.cond (.t 14) .skip (.exit 0))) (.seq (.block 1 (.seq (.ops [M 17 0,M 18 5,O 19 (.iad 1 (.t 17) (.t 18)),oF 20 1 19,M 21 1,M 22 5,O 23 (.iad 1 (.t 21) (.t 22)),oF 24 1 23,oX 25 .neq 20 24] [⟨2,(.one (.i .i64)),0⟩,⟨3,(.one (.i .i64)),0⟩,⟨6,(.one (.i .i64)),0⟩,⟨7,(.one (.i .i64)),0⟩] [(0,1),(0,4),(1,4),(2,4),(3,4),(0,5),(1,5),(2,5),(3,5),(4,5),(0,6),(1,6),(2,6),(3,6),(0,7),(1,7),(2,7),(3,7)] [14,17,18,19,20,21,22,23,24]) (.cond (.t 25) (.seq (oQ [O 4 (.mv (.c (.bool false)))] [0,1,5,25]) .ret) .skip))) (oQ [M 15 5,O 16 (.bin .add (.t 15) (I 1)),M 5 16] [15,16,25])))
def yEq:TFn:=⟨2,[.tmp 4],(.seq (oQ [O 4 (.mv (.c (.bool false)))] [4]) (.seq (.seq (oQ [M 6 0,O 7 (.len (.t 6)),M 8 1,O 9 (.len (.t 8)),oX 10 .neq 7 9] [6,7,8,9]) (.cond (.t 10) (.seq (oQ [O 4 (.mv (.c (.bool false)))] [0,1,10]) .ret) .skip)) (.seq (.seq (oQ [O 5 (.mv (I 0))] [10]) (.block 0 (.loop 14397100 ykq))) (.seq (oQ [O 4 (.mv (.c (.bool true)))] [0,1,5,14]) .ret))))⟩
def ykr:TCode:=(.seq (.seq (oQ [M 11 5,M 12 0,O 13 (.len (.t 12)),oX 14 .lss 11 13] [11,12,13]) (.cond (.t 14) .skip (.exit 0))) (.seq (.block 1 (.seq (.ops [M 17 0,M 18 5,O 19 (.iad 4 (.t 17) (.t 18)),oT 20 4 19,M 21 1,M 22 5,O 23 (.iad 4 (.t 21) (.t 22)),oT 24 4 23,O 25 (.eqA true 4 [(0,(some .i64)),(1,(some .i64)),(2,(some .i64)),(3,(some .i64))] (.t 20) (.t 24))] [⟨2,(.agg [.i .i64,.i .i64,.i .i64,.i .i64]),0⟩,⟨3,(.agg [.i .i64,.i .i64,.i .i64,.i .i64]),0⟩,⟨6,(.agg [.i .i64,.i .i64,.i .i64,.i .i64]),0⟩,⟨7,(.agg [.i .i64,.i .i64,.i .i64,.i .i64]),0⟩] [(0,1),(0,4),(1,4),(2,4),(3,4),(0,5),(1,5),(2,5),(3,5),(4,5),(0,6),(1,6),(2,6),(3,6),(0,7),(1,7),(2,7),(3,7)] [14,17,18,19,20,21,22,23,24]) (.cond (.t 25) (.seq (oQ [O 4 (.mv (.c (.bool false)))] [0,1,5,25]) .ret) .skip))) (oQ [M 15 5,O 16 (.bin .add (.t 15) (I 1)),M 5 16] [15,16,25])))
def yEr:TFn:=⟨2,[.tmp 4],(.seq (oQ [O 4 (.mv (.c (.bool false)))] [4]) (.seq (.seq (oQ [M 6 0,O 7 (.len (.t 6)),M 8 1,O 9 (.len (.t 8)),oX 10 .neq 7 9] [6,7,8,9]) (.cond (.t 10) (.seq (oQ [O 4 (.mv (.c (.bool false)))] [0,1,10]) .ret) .skip)) (.seq (.seq (oQ [O 5 (.mv (I 0))] [10]) (.block 0 (.loop 27088800 ykr))) (.seq (oQ [O 4 (.mv (.c (.bool true)))] [0,1,5,14]) .ret))))⟩
def yks:TCode:=(.seq (.seq (.ops [M 13 5,O 14 (.fad 0 (.t 2)),oF 15 1 14,O 16 (.len (.t 15)),oX 17 .lss 13 16] [⟨2,(.agg [.d]),0⟩] [] [13,14,15,16]) (.cond (.t 17) .skip (.exit 0))) (.seq (.block 1 (.seq (.ops [O 20 (.fad 0 (.t 2)),oF 21 1 20,M 22 5,O 23 (.iad 1 (.t 21) (.t 22)),oF 24 1 23,O 25 (.fad 0 (.t 3)),oF 26 1 25,M 27 5,O 28 (.iad 1 (.t 26) (.t 27)),oF 29 1 28,O 30 (.call (.f yj8) [(.t 24),(.t 29)]),O 31 (.un .not (.t 30))] [⟨1,(.agg [.d]),0⟩,⟨3,(.one (.d)),0⟩,⟨4,(.one (.d)),0⟩,⟨6,(.agg [.d]),0⟩,⟨8,(.one (.d)),0⟩,⟨9,(.one (.d)),0⟩] [(0,2),(1,2),(0,5),(1,5),(2,5),(3,5),(4,5),(0,6),(1,6),(2,6),(3,6),(4,6),(0,7),(1,7),(2,7),(3,7),(4,7),(5,7),(6,7),(0,8),(1,8),(2,8),(3,8),(4,8),(0,9),(1,9),(2,9),(3,9),(4,9)] [17,20,21,22,23,24,25,26,27,28,29,30]) (.cond (.t 31) (.seq (oQ [O 4 (.mv (.c (.bool false)))] [2,3,5,31]) .ret) .skip))) (oQ [M 18 5,O 19 (.bin .add (.t 18) (I 1)),M 5 19] [18,19,31])))
def yEs:TFn:=⟨2,[.tmp 4],(.seq (oQ [O 2 (.boxL (.t 0)),O 3 (.boxL (.t 1)),O 4 (.mv (.c (.bool false)))] [0,1,4]) (.seq (.seq (.ops [O 6 (.fad 0 (.t 2)),oF 7 1 6,O 8 (.len (.t 7)),O 9 (.fad 0 (.t 3)),oF 10 1 9,O 11 (.len (.t 10)),oX 12 .neq 8 11] [⟨1,(.agg [.d]),0⟩,⟨4,(.agg [.d]),0⟩] [] [6,7,8,9,10,11]) (.cond (.t 12) (.seq (oQ [O 4 (.mv (.c (.bool false)))] [2,3,12]) .ret) .skip)) (.seq (.seq (oQ [O 5 (.mv (I 0))] [12]) (.block 0 (.loop 70742100 yks))) (.seq (oQ [O 4 (.mv (.c (.bool true)))] [2,3,5,17]) .ret))))⟩
def yCw:TFn:=⟨0,[.tmp 0],(.seq (oQ [O 0 (.mv (.c (.bool false)))] [0]) (.seq (oQ [O 18 (.call (.f yiz) []),O 19 (.call (.f yf7) [(.t 18)]),M 17 19,O 20 (.ext (.t 17) 0),O 21 (.ext (.t 17) 1),O 22 (.ext (.t 17) 2),O 23 (.ext (.t 17) 3),O 1 (.allocL (.agg [.nils])),⟨none,(.store 1 (.t 1) (.t 20)),none⟩,M 2 21,M 3 22,M 4 23] [17,18,19,20,21,22,23]) (.seq (oQ [O 24 (.build [(.int .i64 (0)),(.int .i64 (0))] [(0,1,(I 2)),(1,1,(I 3))]),O 25 (.build [(.int .i64 (0)),(.int .i64 (0))] [(0,1,(I 8)),(1,1,(I 3))]),O 5 (.allocL (.agg [(.int .i64 (0)),(.int .i64 (0))])),O 6 (.allocL (.agg [(.int .i64 (0)),(.int .i64 (0))])),⟨none,(.store 2 (.t 5) (.t 24)),none⟩,⟨none,(.store 2 (.t 6) (.t 25)),none⟩] [24,25]) (.seq (oQ [O 27 (.call (.f ymy) []),M 26 27,O 28 (.ext (.t 26) 0),O 29 (.ext (.t 26) 1),O 7 (.allocL (.agg [(.int .i64 (0)),.nils,.nils])),O 8 (.allocL (.agg [(.int .i64 (0)),.nils,.nils])),⟨none,(.store 3 (.t 7) (.t 28)),none⟩,⟨none,(.store 3 (.t 8) (.t 29)),none⟩] [26,27,28,29]) (.seq (.ops [oT 31 3 7,O 32 (.call (.f yeJ) [(I 0)]),O 33 (.call (.f yby) [(.t 31),(.t 32)]),M 30 33,O 34 (.ext (.t 30) 0),O 35 (.ext (.t 30) 1),O 9 (.allocL (.agg [(.int .i64 (0)),(.int .i64 (0))])),⟨none,(.store 2 (.t 9) (.t 34)),none⟩,M 10 35] [] [(0,1),(4,5),(0,6),(1,6),(2,6),(3,6),(4,6),(5,6),(5,7)] [30,31,32,33,34,35]) (.seq (.ops [oT 37 3 7,oT 38 3 8,O 39 (.call (.f yeJ) [(I 0)]),O 40 (.call (.f ycw) [(.t 37),(.t 38),(.t 39)]),M 36 40,O 41 (.ext (.t 36) 0),O 42 (.ext (.t 36) 1),O 11 (.allocL (.agg [(.int .i64 (0)),(.int .i64 (0))])),⟨none,(.store 2 (.t 11) (.t 41)),none⟩,M 12 42] [] [(0,1),(0,2),(1,2),(5,6),(0,7),(1,7),(2,7),(3,7),(4,7),(5,7),(6,7),(6,8)] [36,37,38,39,40,41,42]) (.seq (.ops [oT 44 3 7,oT 45 3 8,O 46 (.call (.f yeJ) [(I 1)]),O 47 (.call (.f ycw) [(.t 44),(.t 45),(.t 46)]),M 43 47,O 48 (.ext (.t 43) 0),O 49 (.ext (.t 43) 1),O 13 (.allocL (.agg [(.int .i64 (0)),(.int .i64 (0))])),⟨none,(.store 2 (.t 13) (.t 48)),none⟩,M 14 49] [] [(0,1),(0,2),(1,2),(5,6),(0,7),(1,7),(2,7),(3,7),(4,7),(5,7),(6,7),(6,8)] [43,44,45,46,47,48,49]) (.seq (oQ [oT 51 3 7,oT 52 3 8,O 53 (.call (.f yel) [(.t 51),(.t 52)]),M 50 53,O 54 (.ext (.t 50) 0),O 55 (.ext (.t 50) 1),O 15 (.allocL (.agg [(.int .i64 (0)),(.int .i64 (0)),(.int .i64 (0)),(.int .i64 (0))])),⟨none,(.store 4 (.t 15) (.t 54)),none⟩,M 16 55] [7,8,50,51,52,53,54,55]) (.seq (.ops [M 56 4,O 57 (.bin .eql (.t 56) (I 0)),M 58 57,⟨some 59,(.mv (.t 2)),some (58,true)⟩,⟨some 60,(.buildD 1 (.int .i64 (0)) 3 [(0,(I 2)),(1,(I 0)),(2,(I 1))]),some (58,true)⟩,⟨some 61,(.call (.f yj7) [(.t 59),(.t 60)]),some (58,true)⟩,O 62 (.pick (.t 58) (.t 61) (.c (.bool false))),M 63 62,⟨some 64,(.mv (.t 3)),some (63,true)⟩,⟨some 65,(.len (.t 64)),some (63,true)⟩,⟨some 66,(.bin .eql (.t 65) (I 5)),some (63,true)⟩,O 67 (.pick (.t 63) (.t 66) (.c (.bool false))),M 68 67,⟨some 69,(.load true 1 (.t 1)),some (68,true)⟩,⟨some 70,(.load true 2 (.t 5)),some (68,true)⟩,⟨some 71,(.load true 2 (.t 6)),some (68,true)⟩,⟨some 72,(.build [(.int .i64 (0)),(.int .i64 (0)),(.int .i64 (0)),(.int .i64 (0))] [(0,2,(.t 70)),(2,2,(.t 71))]),some (68,true)⟩,⟨some 73,(.buildD 4 (.agg [(.int .i64 (0)),(.int .i64 (0)),(.int .i64 (0)),(.int .i64 (0))]) 1 [(0,(.t 72))]),some (68,true)⟩,⟨some 74,(.load true 2 (.t 6)),some (68,true)⟩,⟨some 75,(.call (.f yeJ) [(I 6)]),some (68,true)⟩,⟨some 76,(.build [(.int .i64 (0)),(.int .i64 (0)),(.int .i64 (0)),(.int .i64 (0))] [(0,2,(.t 74)),(2,2,(.t 75))]),some (68,true)⟩,⟨some 77,(.buildD 4 (.agg [(.int .i64 (0)),(.int .i64 (0)),(.int .i64 (0)),(.int .i64 (0))]) 1 [(0,(.t 76))]),some (68,true)⟩,⟨some 78,(.call (.f yeJ) [(I 0)]),some (68,true)⟩,⟨some 79,(.load true 2 (.t 5)),some (68,true)⟩,⟨some 80,(.build [(.int .i64 (0)),(.int .i64 (0)),(.int .i64 (0)),(.int .i64 (0))] [(0,2,(.t 78)),(2,2,(.t 79))]),some (68,true)⟩,⟨some 81,(.buildD 4 (.agg [(.int .i64 (0)),(.int .i64 (0)),(.int .i64 (0)),(.int .i64 (0))]) 1 [(0,(.t 80))]),some (68,true)⟩,⟨some 82,(.buildD 1 (.data []) 3 [(0,(.t 73)),(1,(.t 77)),(2,(.t 81))]),some (68,true)⟩,⟨some 83,(.build [.nils] [(0,1,(.t 82))]),some (68,true)⟩,⟨some 84,(.call (.f yj9) [(.t 69),(.t 83)]),some (68,true)⟩,O 85 (.pick (.t 68) (.t 84) (.c (.bool false))),M 86 85,⟨some 87,(.mv (.t 10)),some (86,true)⟩,⟨some 88,(.bin .eql (.t 87) (I 0)),some (86,true)⟩,O 89 (.pick (.t 86) (.t 88) (.c (.bool false))),M 90 89,⟨some 91,(.load true 2 (.t 9)),some (90,true)⟩,⟨some 92,(.call (.f yeJ) [(I 2)]),some (90,true)⟩,⟨some 93,(.eqA false 2 [(0,(some .i64)),(1,(some .i64))] (.t 91) (.t 92)),some (90,true)⟩,O 94 (.pick (.t 90) (.t 93) (.c (.bool false))),M 95 94,⟨some 96,(.mv (.t 12)),some (95,true)⟩,⟨some 97,(.bin .eql (.t 96) (I 0)),some (95,true)⟩,O 98 (.pick (.t 95) (.t 97) (.c (.bool false))),M 99 98,⟨some 100,(.load true 2 (.t 11)),some (99,true)⟩,⟨some 101,(.call (.f yeJ) [(I 1)]),some (99,true)⟩,⟨some 102,(.eqA false 2 [(0,(some .i64)),(1,(some .i64))] (.t 100) (.t 101)),some (99,true)⟩,O 103 (.pick (.t 99) (.t 102) (.c (.bool false))),M 104 103,⟨some 105,(.mv (.t 14)),some (104,true)⟩,⟨some 106,(.bin .eql (.t 105) (I 0)),some (104,true)⟩,O 107 (.pick (.t 104) (.t 106) (.c (.bool false))),M 108 107,⟨some 109,(.load true 2 (.t 13)),some (108,true)⟩,⟨some 110,(.call (.f yeJ) [(I (-1))]),some (108,true)⟩,⟨some 111,(.eqA false 2 [(0,(some .i64)),(1,(some .i64))] (.t 109) (.t 110)),some (108,true)⟩,O 112 (.pick (.t 108) (.t 111) (.c (.bool false))),M 113 112,⟨some 114,(.mv (.t 16)),some (113,true)⟩,⟨some 115,(.bin .eql (.t 114) (I 0)),some (113,true)⟩,O 116 (.pick (.t 113) (.t 115) (.c (.bool false))),M 117 116,⟨some 118,(.load true 4 (.t 15)),some (117,true)⟩,⟨some 119,(.build [(.int .i64 (0)),(.int .i64 (0))] [(0,1,(I 1)),(1,1,(I 2))]),some (117,true)⟩,⟨some 120,(.build [(.int .i64 (0)),(.int .i64 (0))] [(0,1,(I 5)),(1,1,(I 2))]),some (117,true)⟩,⟨some 121,(.build [(.int .i64 (0)),(.int .i64 (0)),(.int .i64 (0)),(.int .i64 (0))] [(0,2,(.t 119)),(2,2,(.t 120))]),some (117,true)⟩,⟨some 122,(.eqA false 4 [(0,(some .i64)),(1,(some .i64)),(2,(some .i64)),(3,(some .i64))] (.t 118) (.t 121)),some (117,true)⟩,O 123 (.pick (.t 117) (.t 122) (.c (.bool false))),M 0 123] [] [(3,4),(13,14),(13,15),(14,15),(13,16),(13,17),(13,18),(14,18),(15,18),(16,18),(17,18),(13,19),(14,19),(15,19),(16,19),(17,19),(18,19),(13,20),(14,20),(15,20),(16,20),(17,20),(13,21),(14,21),(15,21),(16,21),(17,21),(13,22),(14,22),(15,22),(16,22),(17,22),(18,22),(20,22),(21,22),(13,23),(14,23),(15,23),(16,23),(17,23),(18,23),(19,23),(20,23),(21,23),(22,23),(13,24),(14,24),(15,24),(16,24),(17,24),(18,24),(20,24),(21,24),(13,25),(14,25),(15,25),(16,25),(17,25),(18,25),(20,25),(21,25),(13,26),(13,27),(35,36),(44,45),(53,54),(62,63),(62,64),(63,64),(62,65)] [1,2,3,4,5,6,9,10,11,12,13,14,15,16,56,57,58,59,60,61,62,63,64,65,66,67,68,69,70,71,72,73,74,75,76,77,78,79,80,81,82,83,84,85,86,87,88,89,90,91,92,93,94,95,96,97,98,99,100,101,102,103,104,105,106,107,108,109,110,111,112,113,114,115,116,117,118,119,120,121,122,123]) .ret)))))))))⟩
def yGF:TFn:=⟨1,[.tmp 2],(.seq (oQ [O 2 (.mv (.c (.int .u64 (0))))] [2]) (.seq (.seq (oQ [M 3 0,O 4 (.bin .lss (.t 3) (I 0))] [3]) (.cond (.t 4) (.seq (oQ [M 5 0,O 6 (.bin .add (.t 5) (I 1)),O 7 (.un .neg (.t 6)),O 8 (.conv .u64 (.t 7)),O 9 (.bin .add (.t 8) (.c (.int .u64 (1)))),M 2 9] [0,4,5,6,7,8,9]) .ret) .skip)) (.seq (oQ [M 10 0,O 11 (.conv .u64 (.t 10)),M 2 11] [0,4,10,11]) .ret)))⟩
def ykt:TCode:=(.seq (.seq (oQ [M 5 1,O 6 (.bin .neq (.t 5) (.c (.int .u64 (0))))] [5]) (.cond (.t 6) .skip (.exit 0))) (.block 1 (.ops [M 7 1,M 8 0,M 9 1,oX 10 .rem 8 9,M 0 7,M 1 10] [] [(0,1),(0,2),(1,2),(0,3),(2,4),(3,4)] [6,7,8,9,10])))
def yGG:TFn:=⟨2,[.tmp 4],(.seq (oQ [O 4 (.mv (.c (.int .u64 (0))))] [4]) (.seq (.block 0 (.loop 16774900 ykt)) (.seq (oQ [M 11 0,M 4 11] [0,1,6,11]) .ret)))⟩
def yCx:TFn:=⟨1,[.tmp 2],(.seq (oQ [O 1 (.boxL (.t 0)),O 2 (.mv (I 0))] [0,2]) (.seq (.seq (.ops [O 3 (.fad 1 (.t 1)),oF 4 1 3,O 5 (.bin .lss (.t 4) (I 1)),M 6 5,⟨some 7,(.fad 1 (.t 1)),some (6,false)⟩,⟨some 8,(.load false 1 (.t 7)),some (6,false)⟩,⟨some 9,(.bin .gtr (.t 8) (I 1000000000000000000)),some (6,false)⟩,O 10 (.pick (.t 6) (.c (.bool true)) (.t 9)),M 11 10,⟨some 12,(.fad 0 (.t 1)),some (11,false)⟩,⟨some 13,(.load false 1 (.t 12)),some (11,false)⟩,⟨some 14,(.bin .lss (.t 13) (I (-1000000000000000000))),some (11,false)⟩,O 15 (.pick (.t 11) (.c (.bool true)) (.t 14)),M 16 15,⟨some 17,(.fad 0 (.t 1)),some (16,false)⟩,⟨some 18,(.load false 1 (.t 17)),some (16,false)⟩,⟨some 19,(.bin .gtr (.t 18) (I 1000000000000000000)),some (16,false)⟩,O 20 (.pick (.t 16) (.c (.bool true)) (.t 19)),M 21 20,⟨some 22,(.fad 0 (.t 1)),some (21,false)⟩,⟨some 23,(.load false 1 (.t 22)),some (21,false)⟩,⟨some 24,(.call (.f ybp) [(.t 23)]),some (21,false)⟩,⟨some 25,(.fad 1 (.t 1)),some (21,false)⟩,⟨some 26,(.load false 1 (.t 25)),some (21,false)⟩,⟨some 27,(.conv .u64 (.t 26)),some (21,false)⟩,⟨some 28,(.call (.f ydd) [(.t 24),(.t 27)]),some (21,false)⟩,⟨some 29,(.bin .neq (.t 28) (.c (.int .u64 (1)))),some (21,false)⟩,O 30 (.pick (.t 21) (.c (.bool true)) (.t 29))] [⟨1,(.agg [.i .i64,.i .i64]),0⟩,⟨5,(.agg [.i .i64,.i .i64]),0⟩,⟨10,(.agg [.i .i64,.i .i64]),0⟩,⟨15,(.agg [.i .i64,.i .i64]),0⟩,⟨20,(.agg [.i .i64,.i .i64]),0⟩,⟨23,(.agg [.i .i64,.i .i64]),0⟩] [(19,22),(20,22),(21,22),(19,23),(20,23),(21,23),(19,24),(20,24),(21,24)] [1,3,4,5,6,7,8,9,10,11,12,13,14,15,16,17,18,19,20,21,22,23,24,25,26,27,28,29]) (.cond (.t 30) (.seq (oQ [O 2 (.mv (I 8))] [30]) .ret) .skip)) (.seq (oQ [O 2 (.mv (I 0))] [30]) .ret)))⟩
def yCy:TFn:=⟨2,[.cell 4 true 2],(.seq (oQ [O 4 (.allocL (.agg [(.int .u64 (0)),(.int .u64 (0))]))] []) (.seq (oQ [M 12 0,O 13 (.bin .shr (.t 12) (.c (.int .u64 (32)))),M 14 0,O 15 (.bin .and (.t 14) (.c (.int .u64 (4294967295)))),M 5 13,M 6 15] [0,12,13,14,15]) (.seq (oQ [M 16 1,O 17 (.bin .shr (.t 16) (.c (.int .u64 (32)))),M 18 1,O 19 (.bin .and (.t 18) (.c (.int .u64 (4294967295)))),M 7 17,M 8 19] [1,16,17,18,19]) (.seq (oQ [M 20 6,M 21 8,oX 22 .mul 20 21,M 23 5,M 24 8,oX 25 .mul 23 24,M 9 22,M 10 25] [8,20,21,22,23,24,25]) (.seq (oQ [M 26 10,O 27 (.bin .and (.t 26) (.c (.int .u64 (4294967295)))),M 28 6,M 29 7,oX 30 .mul 28 29,oX 31 .add 27 30,M 32 9,O 33 (.bin .shr (.t 32) (.c (.int .u64 (32)))),oX 34 .add 31 33,M 11 34] [6,26,27,28,29,30,31,32,33,34]) (.seq (oQ [M 35 5,M 36 7,oX 37 .mul 35 36,M 38 10,O 39 (.bin .shr (.t 38) (.c (.int .u64 (32)))),oX 40 .add 37 39,M 41 11,O 42 (.bin .shr (.t 41) (.c (.int .u64 (32)))),oX 43 .add 40 42,M 44 11,O 45 (.bin .shl (.t 44) (.c (.int .u64 (32)))),M 46 9,O 47 (.bin .and (.t 46) (.c (.int .u64 (4294967295)))),oX 48 .or 45 47,O 49 (.build [(.int .u64 (0)),(.int .u64 (0))] [(0,1,(.t 43)),(1,1,(.t 48))]),⟨none,(.store 2 (.t 4) (.t 49)),none⟩] [5,7,9,10,11,35,36,37,38,39,40,41,42,43,44,45,46,47,48,49]) .ret))))))⟩
def yEt:TFn:=⟨2,[.tmp 4],(.seq (oQ [O 2 (.boxL (.t 0)),O 3 (.boxL (.t 1)),O 4 (.mv (.c (.bool false)))] [0,1,4]) (.seq (.ops [O 5 (.fad 0 (.t 2)),oF 6 1 5,O 7 (.fad 0 (.t 3)),oF 8 1 7,oX 9 .lss 6 8,M 10 9,⟨some 11,(.fad 0 (.t 2)),some (10,false)⟩,⟨some 12,(.load false 1 (.t 11)),some (10,false)⟩,⟨some 13,(.fad 0 (.t 3)),some (10,false)⟩,⟨some 14,(.load false 1 (.t 13)),some (10,false)⟩,⟨some 15,(.bin .eql (.t 12) (.t 14)),some (10,false)⟩,⟨some 16,(.mv (.t 15)),some (10,false)⟩,⟨some 17,(.fad 1 (.t 2)),some (16,true)⟩,⟨some 18,(.load false 1 (.t 17)),some (16,true)⟩,⟨some 19,(.fad 1 (.t 3)),some (16,true)⟩,⟨some 20,(.load false 1 (.t 19)),some (16,true)⟩,⟨some 21,(.bin .lss (.t 18) (.t 20)),some (16,true)⟩,⟨some 22,(.pick (.t 16) (.t 21) (.c (.bool false))),some (10,false)⟩,O 23 (.pick (.t 10) (.c (.bool true)) (.t 22)),M 4 23] [⟨1,(.agg [.i .u64,.i .u64]),0⟩,⟨3,(.agg [.i .u64,.i .u64]),0⟩,⟨7,(.agg [.i .u64,.i .u64]),0⟩,⟨9,(.agg [.i .u64,.i .u64]),0⟩,⟨13,(.agg [.i .u64,.i .u64]),0⟩,⟨15,(.agg [.i .u64,.i .u64]),0⟩] [] [2,3,5,6,7,8,9,10,11,12,13,14,15,16,17,18,19,20,21,22,23]) .ret))⟩
end Go.Pf.Vc
namespace Go.Pf.Vc
open Go Go.Pf
def yEu:TFn:=⟨2,[.tmp 4],(.seq (oQ [O 2 (.boxL (.t 0)),O 3 (.boxL (.t 1)),O 4 (.mv (.c (.bool false)))] [0,1,4]) (.seq (.seq (.ops [O 7 (.fad 0 (.t 2)),oF 8 1 7,O 9 (.bin .lss (.t 8) (I 0)),O 10 (.fad 0 (.t 3)),oF 11 1 10,O 12 (.bin .lss (.t 11) (I 0)),O 13 (.eqB true (.t 9) (.t 12))] [⟨1,(.agg [.i .i64,.i .i64]),0⟩,⟨4,(.agg [.i .i64,.i .i64]),0⟩] [] [7,8,9,10,11,12]) (.cond (.t 13) (.seq (.ops [O 14 (.fad 0 (.t 2)),oF 15 1 14,O 16 (.bin .lss (.t 15) (I 0)),M 4 16] [⟨1,(.agg [.i .i64,.i .i64]),0⟩] [] [2,3,13,14,15,16]) .ret) .skip)) (.seq (.ops [O 17 (.fad 0 (.t 2)),oF 18 1 17,O 19 (.call (.f ybp) [(.t 18)]),O 20 (.fad 1 (.t 3)),oF 21 1 20,O 22 (.conv .u64 (.t 21)),O 23 (.call (.f ybJ) [(.t 19),(.t 22)]),O 24 (.fad 0 (.t 3)),oF 25 1 24,O 26 (.call (.f ybp) [(.t 25)]),O 27 (.fad 1 (.t 2)),oF 28 1 27,O 29 (.conv .u64 (.t 28)),O 30 (.call (.f ybJ) [(.t 26),(.t 29)]),O 5 (.allocL (.agg [(.int .u64 (0)),(.int .u64 (0))])),O 6 (.allocL (.agg [(.int .u64 (0)),(.int .u64 (0))])),⟨none,(.store 2 (.t 5) (.t 23)),none⟩,⟨none,(.store 2 (.t 6) (.t 30)),none⟩] [⟨1,(.agg [.i .i64,.i .i64]),0⟩,⟨4,(.agg [.i .i64,.i .i64]),0⟩,⟨8,(.agg [.i .i64,.i .i64]),0⟩,⟨11,(.agg [.i .i64,.i .i64]),0⟩] [(0,3),(1,3),(2,3),(0,4),(1,4),(2,4),(0,5),(1,5),(2,5),(0,7),(1,7),(2,7),(3,7),(4,7),(5,7),(6,7),(0,8),(1,8),(2,8),(3,8),(4,8),(5,8),(6,8),(0,10),(1,10),(2,10),(3,10),(4,10),(5,10),(6,10),(7,10),(8,10),(9,10),(0,11),(1,11),(2,11),(3,11),(4,11),(5,11),(6,11),(7,11),(8,11),(9,11),(0,12),(1,12),(2,12),(3,12),(4,12),(5,12),(6,12),(7,12),(8,12),(9,12),(0,14),(1,14),(2,14),(3,14),(4,14),(5,14),(6,14),(7,14),(8,14),(9,14),(10,14),(11,14),(12,14),(13,14),(0,15),(1,15),(2,15),(3,15),(4,15),(5,15),(6,15),(7,15),(8,15),(9,15),(10,15),(11,15),(12,15),(13,15),(14,15)] [3,13,17,18,19,20,21,22,23,24,25,26,27,28,29,30]) (.seq (.seq (.ops [O 31 (.fad 0 (.t 2)),oF 32 1 31,O 33 (.bin .lss (.t 32) (I 0))] [⟨1,(.agg [.i .i64,.i .i64]),0⟩] [] [2,31,32]) (.cond (.t 33) (.seq (oQ [oT 34 2 6,oT 35 2 5,O 36 (.call (.f yfn) [(.t 34),(.t 35)]),M 4 36] [5,6,33,34,35,36]) .ret) .skip)) (.seq (oQ [oT 37 2 5,oT 38 2 6,O 39 (.call (.f yfn) [(.t 37),(.t 38)]),M 4 39] [5,6,33,37,38,39]) .ret)))))⟩
def yCz:TFn:=⟨2,[.tmp 4],(.seq (oQ [O 3 (.boxL (.t 1)),O 4 (.mv (.c (.bool false)))] [1,4]) (.seq (.ops [oT 5 2 3,O 6 (.call (.f ydB) [(.t 5)]),O 7 (.bin .eql (.t 6) (I 0)),M 8 7,⟨some 9,(.fad 0 (.t 3)),some (8,true)⟩,⟨some 10,(.load false 1 (.t 9)),some (8,true)⟩,⟨some 11,(.bin .geq (.t 10) (I 0)),some (8,true)⟩,O 12 (.pick (.t 8) (.t 11) (.c (.bool false))),M 13 12,⟨some 14,(.mv (.t 0)),some (13,true)⟩,⟨some 15,(.call (.f yfl) [(.t 14)]),some (13,true)⟩,⟨some 16,(.load true 2 (.t 3)),some (13,true)⟩,⟨some 17,(.call (.f ybF) [(.t 15),(.t 16)]),some (13,true)⟩,⟨some 18,(.un .not (.t 17)),some (13,true)⟩,O 19 (.pick (.t 13) (.t 18) (.c (.bool false))),M 4 19] [⟨5,(.agg [.i .i64,.i .i64]),0⟩] [(9,11),(10,11)] [0,3,5,6,7,8,9,10,11,12,13,14,15,16,17,18,19]) .ret))⟩
def yCA:TFn:=⟨2,[.cell 4 true 2],(.seq (oQ [O 2 (.boxL (.t 0)),O 3 (.boxL (.t 1)),O 4 (.allocL (.agg [(.int .i64 (0)),(.int .i64 (0))]))] [0,1]) (.seq (.seq (oQ [oT 5 2 2,oT 6 2 3,O 7 (.call (.f ybF) [(.t 5),(.t 6)])] [5,6]) (.cond (.t 7) (.seq (oQ [oT 8 2 3,⟨none,(.store 2 (.t 4) (.t 8)),none⟩] [2,3,7,8]) .ret) .skip)) (.seq (oQ [oT 9 2 2,⟨none,(.store 2 (.t 4) (.t 9)),none⟩] [2,3,7,9]) .ret)))⟩
def yAq:TFn:=⟨2,[.cell 4 true 2],(.seq (oQ [O 2 (.boxL (.t 0)),O 3 (.boxL (.t 1)),O 4 (.allocL (.agg [(.int .i64 (0)),(.int .i64 (0))]))] [0,1]) (.seq (.seq (oQ [oT 5 2 2,oT 6 2 3,O 7 (.call (.f ybF) [(.t 5),(.t 6)])] [5,6]) (.cond (.t 7) (.seq (oQ [oT 8 2 2,⟨none,(.store 2 (.t 4) (.t 8)),none⟩] [2,3,7,8]) .ret) .skip)) (.seq (oQ [oT 9 2 3,⟨none,(.store 2 (.t 4) (.t 9)),none⟩] [2,3,7,9]) .ret)))⟩
def yEv:TFn:=⟨2,[.tmp 4],(.seq (oQ [O 2 (.boxL (.t 0)),O 3 (.boxL (.t 1)),O 4 (.mv (I 0))] [0,1,4]) (.seq (.seq (oQ [oT 5 2 2,O 6 (.call (.f ydB) [(.t 5)]),O 7 (.bin .neq (.t 6) (I 0))] [5,6]) (.cond (.t 7) (.seq (oQ [oT 8 2 2,O 9 (.call (.f ydB) [(.t 8)]),M 4 9] [2,3,7,8,9]) .ret) .skip)) (.seq (oQ [oT 10 2 3,O 11 (.call (.f ydB) [(.t 10)]),M 4 11] [2,3,7,10,11]) .ret)))⟩
def yGH:TFn:=⟨1,[.cell 2 true 2],(.seq (oQ [O 1 (.boxL (.t 0)),O 2 (.allocL (.agg [(.int .i64 (0)),(.int .i64 (0))]))] [0]) (.seq (.ops [O 3 (.fad 0 (.t 1)),oF 4 1 3,O 5 (.un .neg (.t 4)),O 6 (.fad 0 (.t 1)),⟨none,(.store 1 (.t 6) (.t 5)),none⟩] [⟨1,(.agg [.i .i64,.i .i64]),0⟩,⟨4,(.agg [.i .i64,.i .i64]),0⟩] [] [3,4,5,6]) (.seq (oQ [oT 7 2 1,⟨none,(.store 2 (.t 2) (.t 7)),none⟩] [1,7]) .ret)))⟩
def yEw:TFn:=⟨2,[.cell 4 true 2],(.seq (oQ [O 2 (.boxL (.t 0)),O 3 (.boxL (.t 1)),O 4 (.allocL (.agg [(.int .u64 (0)),(.int .u64 (0))]))] [0,1]) (.seq (.ops [O 7 (.fad 1 (.t 2)),oF 8 1 7,O 9 (.fad 1 (.t 3)),oF 10 1 9,oX 11 .add 8 10,M 5 11] [⟨1,(.agg [.i .u64,.i .u64]),0⟩,⟨3,(.agg [.i .u64,.i .u64]),0⟩] [] [7,8,9,10,11]) (.seq (.ops [O 12 (.fad 0 (.t 2)),oF 13 1 12,O 14 (.fad 0 (.t 3)),oF 15 1 14,oX 16 .add 13 15,M 6 16] [⟨1,(.agg [.i .u64,.i .u64]),0⟩,⟨3,(.agg [.i .u64,.i .u64]),0⟩] [] [3,12,13,14,15,16]) (.seq (.seq (.ops [M 17 5,O 18 (.fad 1 (.t 2)),oF 19 1 18,oX 20 .lss 17 19] [⟨2,(.agg [.i .u64,.i .u64]),0⟩] [] [2,17,18,19]) (.cond (.t 20) (oQ [M 21 6,O 22 (.bin .add (.t 21) (.c (.int .u64 (1)))),M 6 22] [20,21,22]) .skip)) (.seq (oQ [M 23 6,M 24 5,O 25 (.build [(.int .u64 (0)),(.int .u64 (0))] [(0,1,(.t 23)),(1,1,(.t 24))]),⟨none,(.store 2 (.t 4) (.t 25)),none⟩] [5,6,20,23,24,25]) .ret)))))⟩
def yCB:TFn:=⟨2,[.cell 4 true 2],(.seq (oQ [O 2 (.boxL (.t 0)),O 3 (.boxL (.t 1)),O 4 (.allocL (.agg [(.int .u64 (0)),(.int .u64 (0))]))] [0,1]) (.seq (.ops [O 6 (.fad 0 (.t 2)),oF 7 1 6,O 8 (.fad 0 (.t 3)),oF 9 1 8,oX 10 .sub 7 9,M 5 10] [⟨1,(.agg [.i .u64,.i .u64]),0⟩,⟨3,(.agg [.i .u64,.i .u64]),0⟩] [] [6,7,8,9,10]) (.seq (.seq (.ops [O 11 (.fad 1 (.t 2)),oF 12 1 11,O 13 (.fad 1 (.t 3)),oF 14 1 13,oX 15 .lss 12 14] [⟨1,(.agg [.i .u64,.i .u64]),0⟩,⟨3,(.agg [.i .u64,.i .u64]),0⟩] [] [11,12,13,14]) (.cond (.t 15) (oQ [M 16 5,O 17 (.bin .sub (.t 16) (.c (.int .u64 (1)))),M 5 17] [15,16,17]) .skip)) (.seq (.ops [M 18 5,O 19 (.fad 1 (.t 2)),oF 20 1 19,O 21 (.fad 1 (.t 3)),oF 22 1 21,oX 23 .sub 20 22,O 24 (.build [(.int .u64 (0)),(.int .u64 (0))] [(0,1,(.t 18)),(1,1,(.t 23))]),⟨none,(.store 2 (.t 4) (.t 24)),none⟩] [⟨2,(.agg [.i .u64,.i .u64]),0⟩,⟨4,(.agg [.i .u64,.i .u64]),0⟩] [] [2,3,5,15,18,19,20,21,22,23,24]) .ret))))⟩
def yku:TCode:=(.seq (.seq (oQ [M 10 8,O 11 (.bin .geq (.t 10) (I 0))] [10]) (.cond (.t 11) .skip (.exit 0))) (.seq (.block 1 (.seq (.ops [O 14 (.fad 1 (.t 2)),oF 15 1 14,M 16 8,O 17 (.bin .and (.t 16) (I 63)),oX 18 .shr 15 17,O 19 (.bin .and (.t 18) (.c (.int .u64 (1)))),M 9 19] [⟨1,(.agg [.i .u64,.i .u64]),0⟩] [] [11,14,15,16,17,18,19]) (.seq (.seq (oQ [M 20 8,O 21 (.bin .geq (.t 20) (I 64))] [20]) (.cond (.t 21) (.ops [O 22 (.fad 0 (.t 2)),oF 23 1 22,M 24 8,O 25 (.bin .and (.t 24) (I 63)),oX 26 .shr 23 25,O 27 (.bin .and (.t 26) (.c (.int .u64 (1)))),M 9 27] [⟨1,(.agg [.i .u64,.i .u64]),0⟩] [] [21,22,23,24,25,26,27]) .skip)) (.seq (oQ [M 28 7,O 29 (.bin .shl (.t 28) (.c (.int .u64 (1)))),M 30 9,oX 31 .or 29 30,M 7 31] [9,21,28,29,30,31]) (.seq (oQ [oT 32 2 6,oT 33 2 6,O 34 (.call (.f ygm) [(.t 32),(.t 33)]),⟨none,(.store 2 (.t 6) (.t 34)),none⟩] [32,33,34]) (.seq (oQ [M 35 7,M 36 1,oX 37 .geq 35 36] [35,36]) (.cond (.t 37) (.seq (oQ [M 38 7,M 39 1,oX 40 .sub 38 39,M 7 40] [37,38,39,40]) (.ops [O 41 (.fad 1 (.t 6)),oF 42 1 41,O 43 (.bin .or (.t 42) (.c (.int .u64 (1)))),O 44 (.fad 1 (.t 6)),⟨none,(.store 1 (.t 44) (.t 43)),none⟩] [⟨1,(.agg [.i .u64,.i .u64]),0⟩,⟨4,(.agg [.i .u64,.i .u64]),0⟩] [] [41,42,43,44])) .skip))))))) (oQ [M 12 8,O 13 (.bin .sub (.t 12) (I 1)),M 8 13] [12,13,37])))
def yCC:TFn:=⟨2,[.cell 4 true 2,.tmp 5],(.seq (oQ [O 2 (.boxL (.t 0)),O 4 (.allocL (.agg [(.int .u64 (0)),(.int .u64 (0))])),O 5 (.mv (.c (.int .u64 (0))))] [0,5]) (.seq (oQ [O 6 (.allocL (.agg [(.int .u64 (0)),(.int .u64 (0))]))] []) (.seq (oQ [O 7 (.mv (.c (.int .u64 (0))))] []) (.seq (.seq (oQ [O 8 (.mv (I 127))] []) (.block 0 (.loop 22549700 yku))) (.seq (oQ [oT 45 2 6,M 46 7,⟨none,(.store 2 (.t 4) (.t 45)),none⟩,M 5 46] [1,2,6,7,8,11,45,46]) .ret)))))⟩
def yEx:TFn:=⟨3,[.cell 6 true 2,.tmp 7],(.seq (oQ [O 4 (.boxL (.t 1)),O 5 (.boxL (.t 2)),O 6 (.allocL (.agg [(.int .i64 (0)),(.int .i64 (0))])),O 7 (.mv (I 0))] [1,2,7]) (.seq (.seq (.ops [O 9 (.fad 0 (.t 4)),oF 10 1 9,O 11 (.bin .gtr (.t 10) (.c (.int .u64 (0)))),M 12 11,⟨some 13,(.fad 0 (.t 5)),some (12,false)⟩,⟨some 14,(.load false 1 (.t 13)),some (12,false)⟩,⟨some 15,(.bin .gtr (.t 14) (.c (.int .u64 (0)))),some (12,false)⟩,O 16 (.pick (.t 12) (.c (.bool true)) (.t 15)),M 17 16,⟨some 18,(.fad 1 (.t 4)),some (17,false)⟩,⟨some 19,(.load false 1 (.t 18)),some (17,false)⟩,⟨some 20,(.bin .gtr (.t 19) (.c (.int .u64 (1000000000000000000)))),some (17,false)⟩,O 21 (.pick (.t 17) (.c (.bool true)) (.t 20)),M 22 21,⟨some 23,(.fad 1 (.t 5)),some (22,false)⟩,⟨some 24,(.load false 1 (.t 23)),some (22,false)⟩,⟨some 25,(.bin .gtr (.t 24) (.c (.int .u64 (1000000000000000000)))),some (22,false)⟩,O 26 (.pick (.t 22) (.c (.bool true)) (.t 25))] [⟨1,(.agg [.i .u64,.i .u64]),0⟩,⟨5,(.agg [.i .u64,.i .u64]),0⟩,⟨10,(.agg [.i .u64,.i .u64]),0⟩,⟨15,(.agg [.i .u64,.i .u64]),0⟩] [] [9,10,11,12,13,14,15,16,17,18,19,20,21,22,23,24,25]) (.cond (.t 26) (.seq (oQ [O 27 (.build [(.int .i64 (0)),(.int .i64 (0))] []),⟨none,(.store 2 (.t 6) (.t 27)),none⟩,O 7 (.mv (I 16))] [0,4,5,26,27]) .ret) .skip)) (.seq (.ops [O 28 (.fad 1 (.t 4)),oF 29 1 28,O 30 (.conv .i64 (.t 29)),O 31 (.fad 1 (.t 5)),oF 32 1 31,O 33 (.conv .i64 (.t 32)),O 34 (.build [(.int .i64 (0)),(.int .i64 (0))] [(0,1,(.t 30)),(1,1,(.t 33))]),O 8 (.allocL (.agg [(.int .i64 (0)),(.int .i64 (0))])),⟨none,(.store 2 (.t 8) (.t 34)),none⟩] [⟨1,(.agg [.i .u64,.i .u64]),0⟩,⟨4,(.agg [.i .u64,.i .u64]),0⟩] [] [4,5,26,28,29,30,31,32,33,34]) (.seq (.seq (oQ [M 35 0] [0]) (.cond (.t 35) (.ops [O 36 (.fad 0 (.t 8)),oF 37 1 36,O 38 (.un .neg (.t 37)),O 39 (.fad 0 (.t 8)),⟨none,(.store 1 (.t 39) (.t 38)),none⟩] [⟨1,(.agg [.i .i64,.i .i64]),0⟩,⟨4,(.agg [.i .i64,.i .i64]),0⟩] [] [35,36,37,38,39]) .skip)) (.seq (oQ [oT 40 2 8,⟨none,(.store 2 (.t 6) (.t 40)),none⟩,O 7 (.mv (I 0))] [8,35,40]) .ret)))))⟩
def yGI:TFn:=⟨2,[.cell 4 true 2,.tmp 5],(.seq (oQ [O 2 (.boxL (.t 0)),O 3 (.boxL (.t 1)),O 4 (.allocL (.agg [(.int .i64 (0)),(.int .i64 (0))])),O 5 (.mv (I 0))] [0,1,5]) (.seq (.seq (oQ [oT 16 2 2,oT 17 2 3,O 18 (.call (.f ycR) [(.t 16),(.t 17)]),O 19 (.bin .neq (.t 18) (I 0))] [16,17,18]) (.cond (.t 19) (.seq (oQ [O 20 (.build [(.int .i64 (0)),(.int .i64 (0))] []),oT 21 2 2,oT 22 2 3,O 23 (.call (.f ycR) [(.t 21),(.t 22)]),⟨none,(.store 2 (.t 4) (.t 20)),none⟩,M 5 23] [2,3,19,20,21,22,23]) .ret) .skip)) (.seq (.ops [O 24 (.fad 1 (.t 2)),oF 25 1 24,O 26 (.conv .u64 (.t 25)),O 27 (.fad 1 (.t 3)),oF 28 1 27,O 29 (.conv .u64 (.t 28)),O 30 (.call (.f ydd) [(.t 26),(.t 29)]),M 6 30] [⟨1,(.agg [.i .i64,.i .i64]),0⟩,⟨4,(.agg [.i .i64,.i .i64]),0⟩] [] [19,24,25,26,27,28,29,30]) (.seq (.ops [O 31 (.fad 0 (.t 2)),oF 32 1 31,O 33 (.call (.f ybp) [(.t 32)]),O 34 (.fad 1 (.t 3)),oF 35 1 34,O 36 (.conv .u64 (.t 35)),M 37 6,oX 38 .quo 36 37,O 39 (.call (.f ybJ) [(.t 33),(.t 38)]),O 40 (.fad 0 (.t 3)),oF 41 1 40,O 42 (.call (.f ybp) [(.t 41)]),O 43 (.fad 1 (.t 2)),oF 44 1 43,O 45 (.conv .u64 (.t 44)),M 46 6,oX 47 .quo 45 46,O 48 (.call (.f ybJ) [(.t 42),(.t 47)]),O 7 (.allocL (.agg [(.int .u64 (0)),(.int .u64 (0))])),O 8 (.allocL (.agg [(.int .u64 (0)),(.int .u64 (0))])),⟨none,(.store 2 (.t 7) (.t 39)),none⟩,⟨none,(.store 2 (.t 8) (.t 48)),none⟩] [⟨1,(.agg [.i .i64,.i .i64]),0⟩,⟨4,(.agg [.i .i64,.i .i64]),0⟩,⟨10,(.agg [.i .i64,.i .i64]),0⟩,⟨13,(.agg [.i .i64,.i .i64]),0⟩] [(0,3),(1,3),(2,3),(0,4),(1,4),(2,4),(0,5),(1,5),(2,5),(0,6),(1,6),(2,6),(3,6),(4,6),(5,6),(0,7),(1,7),(2,7),(0,9),(1,9),(2,9),(3,9),(4,9),(5,9),(6,9),(7,9),(8,9),(0,10),(1,10),(2,10),(3,10),(4,10),(5,10),(6,10),(7,10),(8,10),(0,12),(1,12),(2,12),(3,12),(4,12),(5,12),(6,12),(7,12),(8,12),(9,12),(10,12),(11,12),(0,13),(1,13),(2,13),(3,13),(4,13),(5,13),(6,13),(7,13),(8,13),(9,13),(10,13),(11,13),(0,14),(1,14),(2,14),(3,14),(4,14),(5,14),(6,14),(7,14),(8,14),(9,14),(10,14),(11,14),(0,15),(1,15),(2,15),(3,15),(4,15),(5,15),(6,15),(7,15),(8,15),(9,15),(10,15),(11,15),(12,15),(13,15),(14,15),(0,16),(1,16),(2,16),(3,16),(4,16),(5,16),(6,16),(7,16),(8,16),(9,16),(10,16),(11,16),(0,18),(1,18),(2,18),(3,18),(4,18),(5,18),(6,18),(7,18),(8,18),(9,18),(10,18),(11,18),(12,18),(13,18),(14,18),(15,18),(16,18),(17,18),(0,19),(1,19),(2,19),(3,19),(4,19),(5,19),(6,19),(7,19),(8,19),(9,19),(10,19),(11,19),(12,19),(13,19),(14,19),(15,19),(16,19),(17,19),(18,19)] [31,32,33,34,35,36,37,38,39,40,41,42,43,44,45,46,47,48]) (.seq (.ops [O 49 (.fad 0 (.t 2)),oF 50 1 49,O 51 (.bin .lss (.t 50) (I 0)),M 9 51] [⟨1,(.agg [.i .i64,.i .i64]),0⟩] [] [49,50,51]) (.seq (oQ [oT 52 2 7,oT 53 2 8,O 54 (.call (.f ygm) [(.t 52),(.t 53)]),O 10 (.allocL (.agg [(.int .u64 (0)),(.int .u64 (0))])),⟨none,(.store 2 (.t 10) (.t 54)),none⟩] [52,53,54]) (.seq (.seq (.ops [O 55 (.fad 0 (.t 2)),oF 56 1 55,O 57 (.bin .lss (.t 56) (I 0)),O 58 (.fad 0 (.t 3)),oF 59 1 58,O 60 (.bin .lss (.t 59) (I 0)),O 61 (.eqB true (.t 57) (.t 60))] [⟨1,(.agg [.i .i64,.i .i64]),0⟩,⟨4,(.agg [.i .i64,.i .i64]),0⟩] [] [55,56,57,58,59,60]) (.cond (.t 61) (.seq (oQ [oT 62 2 7,oT 63 2 8,O 64 (.call (.f ygB) [(.t 62),(.t 63)]),⟨none,(.store 2 (.t 10) (.t 64)),none⟩] [61,62,63,64]) (.seq (oQ [oT 65 2 7,oT 66 2 8,O 67 (.call (.f yfn) [(.t 65),(.t 66)])] [65,66]) (.cond (.t 67) (.seq (oQ [oT 68 2 8,oT 69 2 7,O 70 (.call (.f ygB) [(.t 68),(.t 69)]),⟨none,(.store 2 (.t 10) (.t 70)),none⟩] [7,8,9,67,68,69,70]) (.ops [O 71 (.fad 0 (.t 3)),oF 72 1 71,O 73 (.bin .lss (.t 72) (I 0)),M 9 73] [⟨1,(.agg [.i .i64,.i .i64]),0⟩] [] [71,72,73])) .skip))) .skip)) (.seq (.seq (oQ [oT 74 2 10,O 75 (.build [(.int .u64 (0)),(.int .u64 (0))] []),O 76 (.eqA false 2 [(0,(some .u64)),(1,(some .u64))] (.t 74) (.t 75))] [7,8,61,67,74,75]) (.cond (.t 76) (.seq (oQ [O 77 (.build [(.int .i64 (0)),(.int .i64 (0))] [(1,1,(I 1))]),⟨none,(.store 2 (.t 4) (.t 77)),none⟩,O 5 (.mv (I 0))] [2,3,6,9,10,76,77]) .ret) .skip)) (.seq (oQ [oT 79 2 10,M 80 6,O 81 (.call (.f ygC) [(.t 79),(.t 80)]),M 78 81,O 82 (.ext (.t 78) 0),O 83 (.ext (.t 78) 1),O 11 (.allocL (.agg [(.int .u64 (0)),(.int .u64 (0))])),⟨none,(.store 2 (.t 11) (.t 82)),none⟩,M 12 83] [11,76,78,79,80,81,82,83]) (.seq (oQ [M 84 12,M 85 6,O 86 (.call (.f ydd) [(.t 84),(.t 85)]),M 13 86] [12,84,85,86]) (.seq (oQ [oT 88 2 10,M 89 13,O 90 (.call (.f ygC) [(.t 88),(.t 89)]),M 87 90,O 91 (.ext (.t 87) 0),O 92 (.ext (.t 87) 1),O 14 (.allocL (.agg [(.int .u64 (0)),(.int .u64 (0))])),⟨none,(.store 2 (.t 14) (.t 91)),none⟩,M 15 92] [10,15,87,88,89,90,91,92]) (.seq (.ops [M 93 9,oT 94 2 14,O 95 (.fad 1 (.t 2)),oF 96 1 95,O 97 (.conv .u64 (.t 96)),M 98 6,oX 99 .quo 97 98,O 100 (.fad 1 (.t 3)),oF 101 1 100,O 102 (.conv .u64 (.t 101)),M 103 13,oX 104 .quo 102 103,O 105 (.call (.f ybJ) [(.t 99),(.t 104)]),O 106 (.call (.f yem) [(.t 93),(.t 94),(.t 105)]),O 107 (.ext (.t 106) 0),O 108 (.ext (.t 106) 1),⟨none,(.store 2 (.t 4) (.t 107)),none⟩,M 5 108] [⟨3,(.agg [.i .i64,.i .i64]),0⟩,⟨8,(.agg [.i .i64,.i .i64]),0⟩] [(0,1),(0,2),(1,2),(0,3),(1,3),(0,4),(1,4),(0,5),(1,5),(2,5),(3,5),(4,5),(0,6),(1,6),(0,7),(1,7),(2,7),(3,7),(4,7),(5,7),(6,7),(0,8),(1,8),(2,8),(3,8),(4,8),(5,8),(6,8),(0,9),(1,9),(2,9),(3,9),(4,9),(5,9),(6,9),(0,10),(1,10),(2,10),(3,10),(4,10),(5,10),(6,10),(7,10),(8,10),(9,10),(0,11),(1,11),(2,11),(3,11),(4,11),(5,11),(6,11),(0,12),(1,12),(14,15)] [2,3,6,9,13,14,93,94,95,96,97,98,99,100,101,102,103,104,105,106,107,108]) .ret))))))))))))⟩
def yGJ:TFn:=⟨2,[.cell 4 true 2,.tmp 5],(.seq (oQ [O 2 (.boxL (.t 0)),O 3 (.boxL (.t 1)),O 4 (.allocL (.agg [(.int .i64 (0)),(.int .i64 (0))])),O 5 (.mv (I 0))] [0,1,5]) (.seq (.seq (oQ [oT 6 2 2,oT 7 2 3,O 8 (.call (.f ycR) [(.t 6),(.t 7)]),O 9 (.bin .neq (.t 8) (I 0))] [6,7,8]) (.cond (.t 9) (.seq (oQ [O 10 (.build [(.int .i64 (0)),(.int .i64 (0))] []),oT 11 2 2,oT 12 2 3,O 13 (.call (.f ycR) [(.t 11),(.t 12)]),⟨none,(.store 2 (.t 4) (.t 10)),none⟩,M 5 13] [2,3,9,10,11,12,13]) .ret) .skip)) (.seq (.ops [oT 14 2 2,oT 15 2 3,O 16 (.call (.f ymz) [(.t 15)]),O 17 (.call (.f yhw) [(.t 14),(.t 16)]),O 18 (.ext (.t 17) 0),O 19 (.ext (.t 17) 1),⟨none,(.store 2 (.t 4) (.t 18)),none⟩,M 5 19] [] [(0,1),(0,2),(4,5)] [2,3,9,14,15,16,17,18,19]) .ret)))⟩
def yGK:TFn:=⟨2,[.cell 4 true 2,.tmp 5],(.seq (oQ [O 2 (.boxL (.t 0)),O 3 (.boxL (.t 1)),O 4 (.allocL (.agg [(.int .i64 (0)),(.int .i64 (0))])),O 5 (.mv (I 0))] [0,1,5]) (.seq (.seq (oQ [oT 8 2 2,oT 9 2 3,O 10 (.call (.f ycR) [(.t 8),(.t 9)]),O 11 (.bin .neq (.t 10) (I 0))] [8,9,10]) (.cond (.t 11) (.seq (oQ [O 12 (.build [(.int .i64 (0)),(.int .i64 (0))] []),oT 13 2 2,oT 14 2 3,O 15 (.call (.f ycR) [(.t 13),(.t 14)]),⟨none,(.store 2 (.t 4) (.t 12)),none⟩,M 5 15] [2,3,11,12,13,14,15]) .ret) .skip)) (.seq (.ops [O 16 (.fad 0 (.t 2)),oF 17 1 16,O 18 (.call (.f ybp) [(.t 17)]),O 19 (.fad 1 (.t 3)),oF 20 1 19,O 21 (.conv .u64 (.t 20)),O 22 (.call (.f ydd) [(.t 18),(.t 21)]),O 23 (.fad 0 (.t 3)),oF 24 1 23,O 25 (.call (.f ybp) [(.t 24)]),O 26 (.fad 1 (.t 2)),oF 27 1 26,O 28 (.conv .u64 (.t 27)),O 29 (.call (.f ydd) [(.t 25),(.t 28)]),M 6 22,M 7 29] [⟨1,(.agg [.i .i64,.i .i64]),0⟩,⟨4,(.agg [.i .i64,.i .i64]),0⟩,⟨8,(.agg [.i .i64,.i .i64]),0⟩,⟨11,(.agg [.i .i64,.i .i64]),0⟩] [(0,3),(1,3),(2,3),(0,4),(1,4),(2,4),(0,5),(1,5),(2,5),(0,7),(1,7),(2,7),(3,7),(4,7),(5,7),(6,7),(0,8),(1,8),(2,8),(3,8),(4,8),(5,8),(6,8),(0,10),(1,10),(2,10),(3,10),(4,10),(5,10),(6,10),(7,10),(8,10),(9,10),(0,11),(1,11),(2,11),(3,11),(4,11),(5,11),(6,11),(7,11),(8,11),(9,11),(0,12),(1,12),(2,12),(3,12),(4,12),(5,12),(6,12),(7,12),(8,12),(9,12)] [11,16,17,18,19,20,21,22,23,24,25,26,27,28,29]) (.seq (.ops [O 30 (.fad 0 (.t 2)),oF 31 1 30,O 32 (.bin .lss (.t 31) (I 0)),O 33 (.fad 0 (.t 3)),oF 34 1 33,O 35 (.bin .lss (.t 34) (I 0)),O 36 (.eqB true (.t 32) (.t 35)),M 37 36,⟨some 38,(.fad 0 (.t 2)),some (37,true)⟩,⟨some 39,(.load false 1 (.t 38)),some (37,true)⟩,⟨some 40,(.bin .neq (.t 39) (I 0)),some (37,true)⟩,O 41 (.pick (.t 37) (.t 40) (.c (.bool false))),M 42 41,⟨some 43,(.fad 0 (.t 3)),some (42,true)⟩,⟨some 44,(.load false 1 (.t 43)),some (42,true)⟩,⟨some 45,(.bin .neq (.t 44) (I 0)),some (42,true)⟩,O 46 (.pick (.t 42) (.t 45) (.c (.bool false))),O 47 (.fad 0 (.t 2)),oF 48 1 47,O 49 (.call (.f ybp) [(.t 48)]),M 50 6,oX 51 .quo 49 50,O 52 (.fad 0 (.t 3)),oF 53 1 52,O 54 (.call (.f ybp) [(.t 53)]),M 55 7,oX 56 .quo 54 55,O 57 (.call (.f ybJ) [(.t 51),(.t 56)]),O 58 (.fad 1 (.t 2)),oF 59 1 58,O 60 (.conv .u64 (.t 59)),M 61 7,oX 62 .quo 60 61,O 63 (.fad 1 (.t 3)),oF 64 1 63,O 65 (.conv .u64 (.t 64)),M 66 6,oX 67 .quo 65 66,O 68 (.call (.f ybJ) [(.t 62),(.t 67)]),O 69 (.call (.f yem) [(.t 46),(.t 57),(.t 68)]),O 70 (.ext (.t 69) 0),O 71 (.ext (.t 69) 1),⟨none,(.store 2 (.t 4) (.t 70)),none⟩,M 5 71] [⟨1,(.agg [.i .i64,.i .i64]),0⟩,⟨4,(.agg [.i .i64,.i .i64]),0⟩,⟨9,(.agg [.i .i64,.i .i64]),0⟩,⟨14,(.agg [.i .i64,.i .i64]),0⟩,⟨18,(.agg [.i .i64,.i .i64]),0⟩,⟨23,(.agg [.i .i64,.i .i64]),0⟩,⟨29,(.agg [.i .i64,.i .i64]),0⟩,⟨34,(.agg [.i .i64,.i .i64]),0⟩] [(0,3),(1,3),(2,3),(0,4),(1,4),(2,4),(0,5),(1,5),(2,5),(0,17),(1,17),(2,17),(3,17),(4,17),(5,17),(6,17),(7,17),(8,17),(9,17),(10,17),(11,17),(12,17),(13,17),(14,17),(15,17),(16,17),(0,18),(1,18),(2,18),(3,18),(4,18),(5,18),(6,18),(7,18),(8,18),(9,18),(10,18),(11,18),(12,18),(13,18),(14,18),(15,18),(16,18),(13,19),(14,19),(15,19),(16,19),(0,20),(1,20),(2,20),(3,20),(4,20),(5,20),(6,20),(7,20),(8,20),(9,20),(10,20),(11,20),(12,20),(13,20),(14,20),(15,20),(16,20),(17,20),(18,20),(19,20),(13,21),(14,21),(15,21),(16,21),(0,22),(1,22),(2,22),(3,22),(4,22),(5,22),(6,22),(7,22),(8,22),(9,22),(10,22),(11,22),(12,22),(13,22),(14,22),(15,22),(16,22),(17,22),(18,22),(19,22),(20,22),(21,22),(0,23),(1,23),(2,23),(3,23),(4,23),(5,23),(6,23),(7,23),(8,23),(9,23),(10,23),(11,23),(12,23),(13,23),(14,23),(15,23),(16,23),(17,23),(18,23),(19,23),(20,23),(21,23),(13,24),(14,24),(15,24),(16,24),(20,24),(21,24),(0,25),(1,25),(2,25),(3,25),(4,25),(5,25),(6,25),(7,25),(8,25),(9,25),(10,25),(11,25),(12,25),(13,25),(14,25),(15,25),(16,25),(17,25),(18,25),(19,25),(20,25),(21,25),(22,25),(23,25),(24,25),(13,26),(14,26),(15,26),(16,26),(20,26),(21,26),(13,27),(14,27),(15,27),(16,27),(0,28),(1,28),(2,28),(3,28),(4,28),(5,28),(6,28),(7,28),(8,28),(9,28),(10,28),(11,28),(12,28),(13,28),(14,28),(15,28),(16,28),(17,28),(18,28),(19,28),(20,28),(21,28),(22,28),(23,28),(24,28),(25,28),(26,28),(27,28),(0,29),(1,29),(2,29),(3,29),(4,29),(5,29),(6,29),(7,29),(8,29),(9,29),(10,29),(11,29),(12,29),(13,29),(14,29),(15,29),(16,29),(17,29),(18,29),(19,29),(20,29),(21,29),(22,29),(23,29),(24,29),(25,29),(26,29),(27,29),(0,30),(1,30),(2,30),(3,30),(4,30),(5,30),(6,30),(7,30),(8,30),(9,30),(10,30),(11,30),(12,30),(13,30),(14,30),(15,30),(16,30),(17,30),(18,30),(19,30),(20,30),(21,30),(22,30),(23,30),(24,30),(25,30),(26,30),(27,30),(0,31),(1,31),(2,31),(3,31),(4,31),(5,31),(6,31),(7,31),(8,31),(9,31),(10,31),(11,31),(12,31),(13,31),(14,31),(15,31),(16,31),(17,31),(18,31),(19,31),(20,31),(21,31),(22,31),(23,31),(24,31),(25,31),(26,31),(27,31),(28,31),(29,31),(30,31),(0,32),(1,32),(2,32),(3,32),(4,32),(5,32),(6,32),(7,32),(8,32),(9,32),(10,32),(11,32),(12,32),(13,32),(14,32),(15,32),(16,32),(17,32),(18,32),(19,32),(20,32),(21,32),(22,32),(23,32),(24,32),(25,32),(26,32),(27,32),(0,33),(1,33),(2,33),(3,33),(4,33),(5,33),(6,33),(7,33),(8,33),(9,33),(10,33),(11,33),(12,33),(13,33),(14,33),(15,33),(16,33),(17,33),(18,33),(19,33),(20,33),(21,33),(22,33),(23,33),(24,33),(25,33),(26,33),(27,33),(28,33),(29,33),(30,33),(31,33),(32,33),(0,34),(1,34),(2,34),(3,34),(4,34),(5,34),(6,34),(7,34),(8,34),(9,34),(10,34),(11,34),(12,34),(13,34),(14,34),(15,34),(16,34),(17,34),(18,34),(19,34),(20,34),(21,34),(22,34),(23,34),(24,34),(25,34),(26,34),(27,34),(28,34),(29,34),(30,34),(31,34),(32,34),(0,35),(1,35),(2,35),(3,35),(4,35),(5,35),(6,35),(7,35),(8,35),(9,35),(10,35),(11,35),(12,35),(13,35),(14,35),(15,35),(16,35),(17,35),(18,35),(19,35),(20,35),(21,35),(22,35),(23,35),(24,35),(25,35),(26,35),(27,35),(28,35),(29,35),(30,35),(31,35),(32,35),(0,36),(1,36),(2,36),(3,36),(4,36),(5,36),(6,36),(7,36),(8,36),(9,36),(10,36),(11,36),(12,36),(13,36),(14,36),(15,36),(16,36),(17,36),(18,36),(19,36),(20,36),(21,36),(22,36),(23,36),(24,36),(25,36),(26,36),(27,36),(28,36),(29,36),(30,36),(31,36),(32,36),(33,36),(34,36),(35,36),(0,37),(1,37),(2,37),(3,37),(4,37),(5,37),(6,37),(7,37),(8,37),(9,37),(10,37),(11,37),(12,37),(13,37),(14,37),(15,37),(16,37),(17,37),(18,37),(19,37),(20,37),(21,37),(22,37),(23,37),(24,37),(25,37),(26,37),(27,37),(28,37),(29,37),(30,37),(31,37),(32,37),(13,38),(14,38),(15,38),(16,38),(40,41)] [2,3,6,7,30,31,32,33,34,35,36,37,38,39,40,41,42,43,44,45,46,47,48,49,50,51,52,53,54,55,56,57,58,59,60,61,62,63,64,65,66,67,68,69,70,71]) .ret))))⟩
def yCD:TFn:=⟨4,[.cell 8 true 2,.tmp 9],(.seq (oQ [O 4 (.boxL (.t 0)),O 6 (.boxL (.t 2)),O 7 (.boxL (.t 3)),O 8 (.allocL (.agg [(.int .i64 (0)),(.int .i64 (0))])),O 9 (.mv (I 0))] [0,2,3,9]) (.seq (.ops [oT 14 2 6,O 15 (.fad 1 (.t 4)),oF 16 1 15,M 17 1,O 18 (.iad 1 (.t 16) (.t 17)),oF 19 1 18,O 20 (.call (.f yfl) [(.t 19)]),O 21 (.call (.f yiA) [(.t 14),(.t 20)]),oT 22 2 7,O 23 (.fad 1 (.t 4)),oF 24 1 23,M 25 1,O 26 (.bin .add (.t 25) (I 1)),O 27 (.iad 1 (.t 24) (.t 26)),oF 28 1 27,O 29 (.call (.f yfl) [(.t 28)]),O 30 (.call (.f ygS) [(.t 22),(.t 29)]),O 10 (.allocL (.agg [(.int .i64 (0)),(.int .i64 (0))])),O 11 (.allocL (.agg [(.int .i64 (0)),(.int .i64 (0))])),⟨none,(.store 2 (.t 10) (.t 21)),none⟩,⟨none,(.store 2 (.t 11) (.t 30)),none⟩] [⟨2,(.agg [.i .i64,.d,.d]),0⟩,⟨4,(.one (.i .i64)),0⟩,⟨5,(.one (.i .i64)),0⟩,⟨10,(.agg [.i .i64,.d,.d]),0⟩,⟨13,(.one (.i .i64)),0⟩,⟨14,(.one (.i .i64)),0⟩] [(0,1),(0,2),(0,3),(1,3),(2,3),(0,4),(0,5),(0,6),(0,8),(1,8),(2,8),(3,8),(4,8),(5,8),(6,8),(7,8),(0,9),(1,9),(2,9),(3,9),(4,9),(5,9),(6,9),(7,9),(8,9),(0,10),(1,10),(2,10),(3,10),(4,10),(5,10),(6,10),(7,10),(8,10),(0,11),(1,11),(2,11),(3,11),(4,11),(5,11),(6,11),(7,11),(8,11),(9,11),(10,11),(0,12),(1,12),(2,12),(3,12),(4,12),(5,12),(6,12),(7,12),(8,12),(9,12),(10,12),(0,13),(1,13),(2,13),(3,13),(4,13),(5,13),(6,13),(7,13),(8,13),(0,14),(1,14),(2,14),(3,14),(4,14),(5,14),(6,14),(7,14),(8,14),(8,15),(0,17),(1,17),(2,17),(3,17),(4,17),(5,17),(6,17),(7,17),(8,17),(9,17),(10,17),(11,17),(12,17),(13,17),(14,17),(15,17),(16,17),(0,18),(1,18),(2,18),(3,18),(4,18),(5,18),(6,18),(7,18),(8,18),(9,18),(10,18),(11,18),(12,18),(13,18),(14,18),(15,18),(16,18),(17,18)] [6,7,14,15,16,17,18,19,20,21,22,23,24,25,26,27,28,29,30]) (.seq (.seq (.ops [oT 31 2 10,oT 32 2 11,O 33 (.call (.f ybF) [(.t 31),(.t 32)]),O 34 (.un .not (.t 33)),M 35 34,⟨some 36,(.fad 2 (.t 4)),some (35,false)⟩,⟨some 37,(.load false 1 (.t 36)),some (35,false)⟩,⟨some 38,(.mv (.t 1)),some (35,false)⟩,⟨some 39,(.iad 1 (.t 37) (.t 38)),some (35,false)⟩,⟨some 40,(.load false 1 (.t 39)),some (35,false)⟩,⟨some 41,(.bin .eql (.t 40) (I 0)),some (35,false)⟩,O 42 (.pick (.t 35) (.c (.bool true)) (.t 41))] [⟨6,(.agg [.i .i64,.d,.d]),0⟩,⟨8,(.one (.i .i64)),0⟩,⟨9,(.one (.i .i64)),0⟩] [] [31,32,33,34,35,36,37,38,39,40,41]) (.cond (.t 42) (.seq (oQ [O 43 (.build [(.int .i64 (0)),(.int .i64 (0))] [(1,1,(I 1))]),⟨none,(.store 2 (.t 8) (.t 43)),none⟩,O 9 (.mv (I 0))] [1,4,10,11,42,43]) .ret) .skip)) (.seq (oQ [oT 45 2 11,oT 46 2 10,O 47 (.call (.f ymA) [(.t 45),(.t 46)]),M 44 47,O 48 (.ext (.t 44) 0),O 49 (.ext (.t 44) 1),O 12 (.allocL (.agg [(.int .i64 (0)),(.int .i64 (0))])),⟨none,(.store 2 (.t 12) (.t 48)),none⟩,M 13 49] [10,11,42,44,45,46,47,48,49]) (.seq (.seq (oQ [M 50 13,O 51 (.bin .neq (.t 50) (I 0))] [50]) (.cond (.t 51) (.seq (oQ [O 52 (.build [(.int .i64 (0)),(.int .i64 (0))] []),M 53 13,⟨none,(.store 2 (.t 8) (.t 52)),none⟩,M 9 53] [1,4,12,13,51,52,53]) .ret) .skip)) (.seq (.ops [oT 54 2 12,O 55 (.fad 2 (.t 4)),oF 56 1 55,M 57 1,O 58 (.iad 1 (.t 56) (.t 57)),oF 59 1 58,O 60 (.call (.f yfl) [(.t 59)]),O 61 (.call (.f ymB) [(.t 54),(.t 60)]),O 62 (.ext (.t 61) 0),O 63 (.ext (.t 61) 1),⟨none,(.store 2 (.t 8) (.t 62)),none⟩,M 9 63] [⟨2,(.agg [.i .i64,.d,.d]),0⟩,⟨4,(.one (.i .i64)),0⟩,⟨5,(.one (.i .i64)),0⟩] [(0,1),(0,2),(0,3),(1,3),(2,3),(0,4),(0,5),(0,6),(8,9)] [1,4,12,13,51,54,55,56,57,58,59,60,61,62,63]) .ret))))))⟩
def ykv:TCode:=(.seq (.seq (.ops [M 37 9,O 38 (.fad 2 (.t 3)),oF 39 1 38,O 40 (.len (.t 39)),oX 41 .lss 37 40] [⟨2,(.agg [.i .i64,.d,.d]),0⟩] [] [37,38,39,40]) (.cond (.t 41) .skip (.exit 0))) (.seq (.block 1 (.seq (oQ [oT 45 3 3,M 46 9,oT 47 2 4,oT 48 2 5,O 49 (.call (.f yiB) [(.t 45),(.t 46),(.t 47),(.t 48)]),M 44 49,O 50 (.ext (.t 44) 0),O 51 (.ext (.t 44) 1),O 10 (.allocL (.agg [(.int .i64 (0)),(.int .i64 (0))])),⟨none,(.store 2 (.t 10) (.t 50)),none⟩,M 11 51] [41,44,45,46,47,48,49,50,51]) (.seq (.seq (oQ [M 52 11,O 53 (.bin .neq (.t 52) (I 0))] [52]) (.cond (.t 53) (.seq (oQ [O 54 (.build [(.int .i64 (0)),(.int .i64 (0))] []),M 55 11,⟨none,(.store 2 (.t 6) (.t 54)),none⟩,M 7 55] [3,4,5,8,9,10,11,53,54,55]) .ret) .skip)) (.seq (oQ [oT 57 2 8,oT 58 2 10,O 59 (.call (.f yhw) [(.t 57),(.t 58)]),M 56 59,O 60 (.ext (.t 56) 0),O 61 (.ext (.t 56) 1),⟨none,(.store 2 (.t 8) (.t 60)),none⟩,M 11 61] [10,53,56,57,58,59,60,61]) (.seq (oQ [M 62 11,O 63 (.bin .neq (.t 62) (I 0))] [62]) (.cond (.t 63) (.seq (oQ [O 64 (.build [(.int .i64 (0)),(.int .i64 (0))] []),M 65 11,⟨none,(.store 2 (.t 6) (.t 64)),none⟩,M 7 65] [3,4,5,8,9,11,63,64,65]) .ret) .skip)))))) (oQ [M 42 9,O 43 (.bin .add (.t 42) (I 1)),M 9 43] [11,42,43,63])))
def yCE:TFn:=⟨3,[.cell 6 true 2,.tmp 7],(.seq (oQ [O 3 (.boxL (.t 0)),O 4 (.boxL (.t 1)),O 5 (.boxL (.t 2)),O 6 (.allocL (.agg [(.int .i64 (0)),(.int .i64 (0))])),O 7 (.mv (I 0))] [0,1,2,7]) (.seq (.seq (oQ [oT 12 3 3,O 13 (.call (.f ydx) [(.t 12)]),O 14 (.bin .neq (.t 13) (I 0))] [12,13]) (.cond (.t 14) (.seq (oQ [O 15 (.build [(.int .i64 (0)),(.int .i64 (0))] []),oT 16 3 3,O 17 (.call (.f ydx) [(.t 16)]),⟨none,(.store 2 (.t 6) (.t 15)),none⟩,M 7 17] [3,4,5,14,15,16,17]) .ret) .skip)) (.seq (.seq (.ops [O 18 (.fad 0 (.t 3)),oF 19 1 18,oT 20 2 4,O 21 (.call (.f yc5) [(.t 19),(.t 20)]),O 22 (.un .not (.t 21)),M 23 22,⟨some 24,(.fad 0 (.t 3)),some (23,false)⟩,⟨some 25,(.load false 1 (.t 24)),some (23,false)⟩,⟨some 26,(.load true 2 (.t 5)),some (23,false)⟩,⟨some 27,(.call (.f yc5) [(.t 25),(.t 26)]),some (23,false)⟩,⟨some 28,(.un .not (.t 27)),some (23,false)⟩,O 29 (.pick (.t 23) (.c (.bool true)) (.t 28)),M 30 29,⟨some 31,(.load true 2 (.t 5)),some (30,false)⟩,⟨some 32,(.load true 2 (.t 4)),some (30,false)⟩,⟨some 33,(.call (.f ybF) [(.t 31),(.t 32)]),some (30,false)⟩,O 34 (.pick (.t 30) (.c (.bool true)) (.t 33))] [⟨1,(.agg [.i .i64,.d,.d]),0⟩,⟨7,(.agg [.i .i64,.d,.d]),0⟩] [] [14,18,19,20,21,22,23,24,25,26,27,28,29,30,31,32,33]) (.cond (.t 34) (.seq (oQ [O 35 (.build [(.int .i64 (0)),(.int .i64 (0))] []),⟨none,(.store 2 (.t 6) (.t 35)),none⟩,O 7 (.mv (I 2))] [3,4,5,34,35]) .ret) .skip)) (.seq (oQ [O 36 (.build [(.int .i64 (0)),(.int .i64 (0))] [(1,1,(I 1))]),O 8 (.allocL (.agg [(.int .i64 (0)),(.int .i64 (0))])),⟨none,(.store 2 (.t 8) (.t 36)),none⟩] [34,36]) (.seq (.seq (oQ [O 9 (.mv (I 0))] []) (.block 0 (.loop 92446900 ykv))) (.seq (oQ [oT 66 2 8,⟨none,(.store 2 (.t 6) (.t 66)),none⟩,O 7 (.mv (I 0))] [3,4,5,8,9,41,66]) .ret))))))⟩
def ykw:TCode:=(.seq (.seq (.ops [M 5 4,O 6 (.fad 2 (.t 1)),oF 7 1 6,O 8 (.len (.t 7)),oX 9 .lss 5 8] [⟨2,(.agg [.i .i64,.d,.d]),0⟩] [] [5,6,7,8]) (.cond (.t 9) .skip (.exit 0))) (.seq (.block 1 (.ops [M 12 3,O 13 (.fad 2 (.t 1)),oF 14 1 13,M 15 4,O 16 (.iad 1 (.t 14) (.t 15)),oF 17 1 16,O 18 (.fad 1 (.t 1)),oF 19 1 18,M 20 4,O 21 (.bin .add (.t 20) (I 1)),O 22 (.iad 1 (.t 19) (.t 21)),oF 23 1 22,O 24 (.fad 1 (.t 1)),oF 25 1 24,M 26 4,O 27 (.iad 1 (.t 25) (.t 26)),oF 28 1 27,oX 29 .sub 23 28,oX 30 .mul 17 29,oX 31 .add 12 30,M 3 31] [⟨2,(.agg [.i .i64,.d,.d]),0⟩,⟨4,(.one (.i .i64)),0⟩,⟨5,(.one (.i .i64)),0⟩,⟨7,(.agg [.i .i64,.d,.d]),0⟩,⟨10,(.one (.i .i64)),0⟩,⟨11,(.one (.i .i64)),0⟩,⟨13,(.agg [.i .i64,.d,.d]),0⟩,⟨15,(.one (.i .i64)),0⟩,⟨16,(.one (.i .i64)),0⟩] [(0,1),(0,2),(0,3),(1,3),(2,3),(0,4),(0,5),(0,6),(1,6),(2,6),(3,6),(4,6),(5,6),(0,7),(1,7),(2,7),(3,7),(4,7),(5,7),(0,8),(1,8),(2,8),(3,8),(4,8),(5,8),(6,8),(7,8),(0,9),(1,9),(2,9),(3,9),(4,9),(5,9),(6,9),(7,9),(0,10),(1,10),(2,10),(3,10),(4,10),(5,10),(0,11),(1,11),(2,11),(3,11),(4,11),(5,11),(0,12),(1,12),(2,12),(3,12),(4,12),(5,12),(6,12),(7,12),(8,12),(9,12),(10,12),(11,12),(0,13),(1,13),(2,13),(3,13),(4,13),(5,13),(6,13),(7,13),(8,13),(9,13),(10,13),(11,13),(0,14),(1,14),(2,14),(3,14),(4,14),(5,14),(6,14),(7,14),(8,14),(9,14),(10,14),(11,14),(12,14),(13,14),(0,15),(1,15),(2,15),(3,15),(4,15),(5,15),(6,15),(7,15),(8,15),(9,15),(10,15),(11,15),(0,16),(1,16),(2,16),(3,16),(4,16),(5,16),(6,16),(7,16),(8,16),(9,16),(10,16),(11,16),(0,17),(1,17),(2,17),(3,17),(4,17),(5,17),(0,18)] [9,12,13,14,15,16,17,18,19,20,21,22,23,24,25,26,27,28,29,30,31])) (oQ [M 10 4,O 11 (.bin .add (.t 10) (I 1)),M 4 11] [10,11])))
def yCF:TFn:=⟨1,[.tmp 2],(.seq (oQ [O 1 (.boxL (.t 0)),O 2 (.mv (I 0))] [0,2]) (.seq (oQ [O 3 (.mv (I 0))] []) (.seq (.seq (oQ [O 4 (.mv (I 0))] []) (.block 0 (.loop 21661800 ykw))) (.seq (oQ [M 32 3,M 2 32] [1,3,4,9,32]) .ret))))⟩
def yEy:TFn:=⟨2,[.cell 4 true 2,.tmp 5],(.seq (oQ [O 4 (.allocL (.agg [(.int .i64 (0)),(.int .i64 (0))])),O 5 (.mv (I 0))] [5]) (.seq (.seq (oQ [M 9 1,O 10 (.bin .eql (.t 9) (I 0))] [9]) (.cond (.t 10) (.seq (oQ [O 11 (.build [(.int .i64 (0)),(.int .i64 (0))] []),⟨none,(.store 2 (.t 4) (.t 11)),none⟩,O 5 (.mv (I 18))] [0,1,10,11]) .ret) .skip)) (.seq (oQ [M 12 0,O 13 (.call (.f ybp) [(.t 12)]),M 14 1,O 15 (.call (.f ybp) [(.t 14)]),M 6 13,M 7 15] [10,12,13,14,15]) (.seq (oQ [M 16 6,M 17 7,O 18 (.call (.f ydd) [(.t 16),(.t 17)]),M 8 18] [16,17,18]) (.seq (.ops [M 19 0,O 20 (.bin .lss (.t 19) (I 0)),M 21 1,O 22 (.bin .lss (.t 21) (I 0)),O 23 (.eqB true (.t 20) (.t 22)),M 24 6,M 25 8,oX 26 .quo 24 25,O 27 (.build [(.int .u64 (0)),(.int .u64 (0))] [(1,1,(.t 26))]),M 28 7,M 29 8,oX 30 .quo 28 29,O 31 (.build [(.int .u64 (0)),(.int .u64 (0))] [(1,1,(.t 30))]),O 32 (.call (.f yem) [(.t 23),(.t 27),(.t 31)]),O 33 (.ext (.t 32) 0),O 34 (.ext (.t 32) 1),⟨none,(.store 2 (.t 4) (.t 33)),none⟩,M 5 34] [] [(0,2),(1,2),(0,3),(1,3),(0,5),(1,5),(2,5),(3,5),(4,5),(0,6),(1,6),(2,6),(3,6),(4,6),(5,6),(0,7),(1,7),(2,7),(3,7),(4,7),(0,8),(1,8),(2,8),(3,8),(4,8),(0,9),(1,9),(2,9),(3,9),(4,9),(5,9),(6,9),(7,9),(8,9),(0,10),(1,10),(2,10),(3,10),(4,10),(5,10),(6,10),(7,10),(8,10),(9,10),(0,11),(1,11),(2,11),(3,11),(4,11),(5,11),(6,11),(7,11),(8,11),(0,12),(1,12),(2,12),(3,12),(4,12),(5,12),(6,12),(7,12),(8,12),(14,15)] [0,1,6,7,8,19,20,21,22,23,24,25,26,27,28,29,30,31,32,33,34]) .ret)))))⟩
def yEz:TFn:=⟨1,[.cell 2 true 2],(.seq (oQ [O 1 (.boxL (.t 0)),O 2 (.allocL (.agg [(.int .i64 (0)),(.int .i64 (0))]))] [0]) (.seq (oQ [oT 6 3 1,O 7 (.call (.f yiC) [(.t 6)]),O 8 (.call (.f yka) [(.t 7),(I 2)]),M 5 8,O 9 (.ext (.t 5) 0),O 10 (.ext (.t 5) 1),O 3 (.allocL (.agg [(.int .i64 (0)),(.int .i64 (0))])),⟨none,(.store 2 (.t 3) (.t 9)),none⟩,M 4 10] [1,4,5,6,7,8,9,10]) (.seq (oQ [oT 11 2 3,⟨none,(.store 2 (.t 2) (.t 11)),none⟩] [3,11]) .ret)))⟩
def yt2:TFn:=⟨3,[.tmp 6],(.seq (oQ [O 3 (.boxL (.t 0)),O 4 (.boxL (.t 1)),O 5 (.boxL (.t 2)),O 6 (.mv (.c (.bool false)))] [0,1,2,6]) (.seq (.seq (oQ [oT 17 3 3,oT 18 3 4,O 19 (.call (.f ygO) [(.t 17),(.t 18)]),O 20 (.un .not (.t 19))] [17,18,19]) (.cond (.t 20) (.seq (oQ [O 21 (.call (.f yfm) []),M 6 21] [3,4,5,20,21]) .ret) .skip)) (.seq (oQ [oT 23 3 3,oT 24 3 4,O 25 (.call (.f yel) [(.t 23),(.t 24)]),M 22 25,O 26 (.ext (.t 22) 0),O 27 (.ext (.t 22) 1),O 7 (.allocL (.agg [(.int .i64 (0)),(.int .i64 (0)),(.int .i64 (0)),(.int .i64 (0))])),⟨none,(.store 4 (.t 7) (.t 26)),none⟩,M 8 27] [20,22,23,24,25,26,27]) (.seq (.seq (.ops [M 28 8,O 29 (.bin .neq (.t 28) (I 0)),M 30 29,⟨some 31,(.fad 0 (.t 3)),some (30,false)⟩,⟨some 32,(.load false 1 (.t 31)),some (30,false)⟩,⟨some 33,(.fad 0 (.t 7)),some (30,false)⟩,⟨some 34,(.load true 2 (.t 33)),some (30,false)⟩,⟨some 35,(.call (.f yc5) [(.t 32),(.t 34)]),some (30,false)⟩,⟨some 36,(.un .not (.t 35)),some (30,false)⟩,O 37 (.pick (.t 30) (.c (.bool true)) (.t 36)),M 38 37,⟨some 39,(.fad 0 (.t 3)),some (38,false)⟩,⟨some 40,(.load false 1 (.t 39)),some (38,false)⟩,⟨some 41,(.fad 2 (.t 7)),some (38,false)⟩,⟨some 42,(.load true 2 (.t 41)),some (38,false)⟩,⟨some 43,(.call (.f yc5) [(.t 40),(.t 42)]),some (38,false)⟩,⟨some 44,(.un .not (.t 43)),some (38,false)⟩,O 45 (.pick (.t 38) (.c (.bool true)) (.t 44))] [⟨4,(.agg [.i .i64,.d,.d]),0⟩,⟨6,(.agg [.i .i64,.i .i64,.i .i64,.i .i64]),0⟩,⟨12,(.agg [.i .i64,.d,.d]),0⟩,⟨14,(.agg [.i .i64,.i .i64,.i .i64,.i .i64]),0⟩] [] [8,28,29,30,31,32,33,34,35,36,37,38,39,40,41,42,43,44]) (.cond (.t 45) (.seq (oQ [O 6 (.mv (.c (.bool false)))] [3,4,5,7,45]) .ret) .skip)) (.seq (.ops [oT 47 3 3,O 48 (.fad 0 (.t 7)),oT 49 2 48,O 50 (.call (.f yby) [(.t 47),(.t 49)]),M 46 50,O 51 (.ext (.t 46) 0),O 52 (.ext (.t 46) 1),O 9 (.allocL (.agg [(.int .i64 (0)),(.int .i64 (0))])),⟨none,(.store 2 (.t 9) (.t 51)),none⟩,M 10 52] [⟨2,(.agg [.i .i64,.i .i64,.i .i64,.i .i64]),0⟩] [] [45,46,47,48,49,50,51,52]) (.seq (.ops [oT 54 3 3,O 55 (.fad 0 (.t 7)),oT 56 2 55,O 57 (.fad 2 (.t 7)),oT 58 2 57,O 59 (.call (.f ygD) [(.t 54),(.t 56),(.t 58)]),M 53 59,O 60 (.ext (.t 53) 0),O 61 (.ext (.t 53) 1),O 11 (.allocL (.agg [(.int .i64 (0)),(.int .i64 (0))])),⟨none,(.store 2 (.t 11) (.t 60)),none⟩,M 12 61] [⟨2,(.agg [.i .i64,.i .i64,.i .i64,.i .i64]),0⟩,⟨4,(.agg [.i .i64,.i .i64,.i .i64,.i .i64]),0⟩] [] [53,54,55,56,57,58,59,60,61]) (.seq (.ops [oT 63 3 4,O 64 (.fad 0 (.t 7)),oT 65 2 64,O 66 (.fad 2 (.t 7)),oT 67 2 66,O 68 (.call (.f ygD) [(.t 63),(.t 65),(.t 67)]),M 62 68,O 69 (.ext (.t 62) 0),O 70 (.ext (.t 62) 1),O 13 (.allocL (.agg [(.int .i64 (0)),(.int .i64 (0))])),⟨none,(.store 2 (.t 13) (.t 69)),none⟩,M 14 70] [⟨2,(.agg [.i .i64,.i .i64,.i .i64,.i .i64]),0⟩,⟨4,(.agg [.i .i64,.i .i64,.i .i64,.i .i64]),0⟩] [] [62,63,64,65,66,67,68,69,70]) (.seq (.seq (.ops [M 71 10,O 72 (.bin .neq (.t 71) (I 0)),M 73 72,⟨some 74,(.load true 2 (.t 9)),some (73,false)⟩,⟨some 75,(.fad 2 (.t 7)),some (73,false)⟩,⟨some 76,(.load true 2 (.t 75)),some (73,false)⟩,⟨some 77,(.eqA true 2 [(0,(some .i64)),(1,(some .i64))] (.t 74) (.t 76)),some (73,false)⟩,O 78 (.pick (.t 73) (.c (.bool true)) (.t 77)),M 79 78,⟨some 80,(.mv (.t 12)),some (79,false)⟩,⟨some 81,(.bin .neq (.t 80) (I 0)),some (79,false)⟩,O 82 (.pick (.t 79) (.c (.bool true)) (.t 81)),M 83 82,⟨some 84,(.load true 2 (.t 11)),some (83,false)⟩,⟨some 85,(.load true 3 (.t 3)),some (83,false)⟩,⟨some 86,(.call (.f yhx) [(.t 85)]),some (83,false)⟩,⟨some 87,(.eqA true 2 [(0,(some .i64)),(1,(some .i64))] (.t 84) (.t 86)),some (83,false)⟩,O 88 (.pick (.t 83) (.c (.bool true)) (.t 87)),M 89 88,⟨some 90,(.mv (.t 14)),some (89,false)⟩,⟨some 91,(.bin .neq (.t 90) (I 0)),some (89,false)⟩,O 92 (.pick (.t 89) (.c (.bool true)) (.t 91)),M 93 92,⟨some 94,(.load true 2 (.t 13)),some (93,false)⟩,⟨some 95,(.load true 3 (.t 4)),some (93,false)⟩,⟨some 96,(.call (.f yhx) [(.t 95)]),some (93,false)⟩,⟨some 97,(.eqA true 2 [(0,(some .i64)),(1,(some .i64))] (.t 94) (.t 96)),some (93,false)⟩,O 98 (.pick (.t 93) (.c (.bool true)) (.t 97))] [⟨5,(.agg [.i .i64,.i .i64,.i .i64,.i .i64]),0⟩] [(3,4),(3,5),(13,14),(13,15),(23,24),(23,25)] [9,10,11,12,13,14,71,72,73,74,75,76,77,78,79,80,81,82,83,84,85,86,87,88,89,90,91,92,93,94,95,96,97]) (.cond (.t 98) (.seq (oQ [O 6 (.mv (.c (.bool false)))] [3,4,5,7,98]) .ret) .skip)) (.seq (.seq (.ops [O 99 (.fad 0 (.t 3)),oF 100 1 99,oT 101 2 5,O 102 (.call (.f yc5) [(.t 100),(.t 101)]),O 103 (.un .not (.t 102)),M 104 103,⟨some 105,(.load true 2 (.t 5)),some (104,false)⟩,⟨some 106,(.fad 0 (.t 7)),some (104,false)⟩,⟨some 107,(.load true 2 (.t 106)),some (104,false)⟩,⟨some 108,(.call (.f ybF) [(.t 105),(.t 107)]),some (104,false)⟩,⟨some 109,(.un .not (.t 108)),some (104,false)⟩,O 110 (.pick (.t 104) (.c (.bool true)) (.t 109))] [⟨1,(.agg [.i .i64,.d,.d]),0⟩,⟨8,(.agg [.i .i64,.i .i64,.i .i64,.i .i64]),0⟩] [] [7,98,99,100,101,102,103,104,105,106,107,108,109]) (.cond (.t 110) (.seq (oQ [O 111 (.call (.f yfm) []),M 6 111] [3,4,5,110,111]) .ret) .skip)) (.seq (oQ [oT 113 3 3,oT 114 3 4,oT 115 2 5,O 116 (.call (.f ycw) [(.t 113),(.t 114),(.t 115)]),M 112 116,O 117 (.ext (.t 112) 0),O 118 (.ext (.t 112) 1),O 15 (.allocL (.agg [(.int .i64 (0)),(.int .i64 (0))])),⟨none,(.store 2 (.t 15) (.t 117)),none⟩,M 16 118] [3,4,5,110,112,113,114,115,116,117,118]) (.seq (.ops [M 119 16,O 120 (.bin .eql (.t 119) (I 0)),M 121 120,⟨some 122,(.fad 0 (.t 15)),some (121,true)⟩,⟨some 123,(.load false 1 (.t 122)),some (121,true)⟩,⟨some 124,(.bin .neq (.t 123) (I 0)),some (121,true)⟩,O 125 (.pick (.t 121) (.t 124) (.c (.bool false))),M 126 125,⟨some 127,(.mv (.t 16)),some (126,false)⟩,⟨some 128,(.bin .eql (.t 127) (I 16)),some (126,false)⟩,O 129 (.pick (.t 126) (.c (.bool true)) (.t 128)),M 130 129,⟨some 131,(.call (.f yfm) []),some (130,true)⟩,O 132 (.pick (.t 130) (.t 131) (.c (.bool false))),M 6 132] [⟨4,(.agg [.i .i64,.i .i64]),0⟩] [] [15,16,119,120,121,122,123,124,125,126,127,128,129,130,131,132]) .ret)))))))))))⟩
def tab:List (Nat×AFn):=[(yix,yCh.fn),(ydX,ytZ.fn),(ydx,yCi.fn),(yiy,yCj.fn),(ymv,yGz.fn),(yfH,yAb.fn),(ygO,yAc.fn),(yiz,yCk.fn),(yeI,yvA.fn),(ydq,yvB.fn),(ybl,yAd.fn),(ycv,yCl.fn),(ybZ,yFT.fn),(yej,yAe.fn),(yj5,yEo.fn),(yaW,yyd.fn),(ygP,yAf.fn),(yaP,yAg.fn),(ybG,yCm.fn),(yca,ywM.fn),(ygQ,yAh.fn),(ycb,yAi.fn),(ybx,yye.fn),(ya8,yAj.fn),(ydj,yra.fn),(ybd,yyf.fn),(ycE,ysi.fn),(ycX,ypN.fn),(ydc,yGA.fn),(ycp,yrb.fn),(ybH,yok.fn),(ygR,yAk.fn),(yfk,yCn.fn),(ybs,yCo.fn),(ycZ,yAl.fn),(ymw,yGB.fn),(ydk,yrc.fn),(yhu,yGC.fn),(ymx,yGD.fn),(ycg,yCp.fn),(ybg,yCq.fn),(ybI,yCr.fn),(yeg,yCs.fn),(ydL,yqm.fn),(yoj,yCt.fn),(ydy,yCu.fn),(ydz,ysj.fn),(ydY,yt0.fn),(yhv,yt1.fn),(yj6,yEp.fn),(yc0,yAm.fn),(yf7,yyg.fn),(ymy,yGE.fn),(yfl,yHP.fn),(yeJ,yHQ.fn),(yby,yyh.fn),(yek,yAn.fn),(ycw,yCv.fn),(ydA,yAo.fn),(ydl,ywN.fn),(yf8,yyi.fn),(yel,yAp.fn),(yj7,yEq.fn),(yj8,yEr.fn),(yj9,yEs.fn),(yfm,yCw.fn),(ybp,yGF.fn),(ydd,yGG.fn),(ydB,yCx.fn),(ybJ,yCy.fn),(yfn,yEt.fn),(ybF,yEu.fn),(yc5,yCz.fn),(yiA,yCA.fn),(ygS,yAq.fn),(ycR,yEv.fn),(ymz,yGH.fn),(ygm,yEw.fn),(ygB,yCB.fn),(ygC,yCC.fn),(yem,yEx.fn),(yhw,yGI.fn),(ymA,yGJ.fn),(ymB,yGK.fn),(yiB,yCD.fn),(ygD,yCE.fn),(yiC,yCF.fn),(yka,yEy.fn),(yhx,yEz.fn),(yhy,yt2.fn)]
def quiL:List Nat:=[yix,ydX,ydx,yiy,ymv,yfH,ygO,yiz,yeI,ydq,ybl,ycv,ybZ,yej,yj5,yaW,ygP,yaP,ybG,yca,ygQ,ycb,ybx,ya8,ydj,ybd,ycE,ycX,ydc,ycp,ybH,ygR,yfk,ybs,ycZ,ygz,ygA,ymw,ydk,yhu,ymx,ycg,ybg,ybI,yeg,ydy,ydz,ydY,yj6,yc0,yf7,ymy,yfl,yeJ,yby,yek,ycw,ydA,ydl,yf8,yel,yj7,yj8,yj9,yfm,ybp,ydd,ydB,ybJ,yfn,ybF,yc5,yiA,ygS,ycR,ymz,ygm,ygB,ygC,yem,yhw,ymA,ymB,yiB,ygD,yiC,yka,yhx,yhy]
def cloL:Clones:=[(ybZ,1,8)]
def gloL:List (Nat×PV):=[]
def E (ef:List (Nat×EffF)):Env:=baseS ygz ygA tab quiL cloL gloL ef
def E0C:Env:=baseC ygz ygA tab quiL cloL gloL
def effNums:List Nat:=[]
abbrev EG (e:List (Nat×EffF)):Prop:=EffG E effNums e
theorem yaT:EG []:=⟨fun _ _ _ _ h=>(by cases h),fun _ _ _ _=>rfl⟩
abbrev ycF:Type:=List PV→(List PV→Prop)→Prop
def ycc (p0:List PV) (K:List PV→Prop):Prop:=yFQ 1 8 p0 K
def yrd (w:List PV→(List PV→Prop)→Prop) (as:List PV) (K:PV→Prop):Prop:=ywI w as K
def yre (as:List PV) (K:PV→Prop):Prop:=ywJ 1 8 as K
theorem yrf (e:List (Nat×EffF)) (_:EG e):OkF (E e) yre ybZ:=yGw (by kernel_rfl) (by kernel_rfl) (by kernel_rfl)
abbrev yt3:Type:=Int→Int→Int→(Int→Int→Prop)→Prop
abbrev yt4:Type:=Int→Int→Int→(Int→Int→Prop)→Prop
theorem yEA (e:List (Nat×EffF)) (_:EG e):OkF (E e) yq7 ygz:=yGx
theorem yEB (e:List (Nat×EffF)) (_:EG e):OkF (E e) yq9 ygA:=yGy (by kernel_rfl)
end Go.Pf.Vc
namespace Go.Pf.Vc
open Go Go.Pf
set_option maxRecDepth 100000
abbrev ya0:Type:=Int→(Int→Prop)→Prop
def ylE (p0:Int) (K:Int→Prop):Prop :=
 (cbr (decide (p0<(0:Int)))
 (K (IntKind.u64.wrap ((0:Int)-(IntKind.u64.wrap p0))))
 (K (IntKind.u64.wrap p0)))
def ybq (p0:Int) (K:Int→Prop):Prop:=ylE p0 K
def ydM (w:ya0) (as:List PV) (K:PV→Prop):Prop :=
 match as with
 | [(.int .i64 p0)]=>w p0 (fun r0=>K (.int .u64 r0))
 | _=>False
def yqn (as:List PV) (K:PV→Prop):Prop:=ydM ybq as K
def yyj:LP:=fun _ _ _ _ =>
 False
def yqo (e:List (Nat×EffF)):SE:=⟨(E e),lookS [],lookI [],yyj⟩
theorem ywO (e:List (Nat×EffF)) (he:EG e):SEOk (yqo e):=yag trivial trivial he.ok
theorem yyk (e:List (Nat×EffF)) ( p0 K):WP (yqo e) 6 yAg [(.int .i64 p0)] K=ylE p0 (fun r0=>K (.int .u64 r0)):=by kernel_rfl
theorem yf9 (e:List (Nat×EffF)) (he:EG e):OkF (E e) yqn yaP:=by
 intro as K h
 unfold yqn ydM at h
 split at h
 · exact WP_ok (ywO e he) (yaf (by kernel_rfl)) (by kernel_rfl) (by kernel_rfl) (fun _=>yab (by kernel_rfl) _) (he.num _ (by kernel_rfl)) ((yyk ..).mpr h)
 · exact h.elim
abbrev ybK:Type:=Int→Int→(Int→Prop)→Prop
def ycS (x0:Int→Int→Bool→Prop):Nat→Int→Int→Prop
 | 0,_,_=>False
 | n+1,i0,i1 =>
 (cbr (decide (i1>(0:Int)))
 (asr (!(decide (i1=(0:Int))))
 (ycS x0 n i1 (Int.tmod i0 i1)))
 (x0 i0 i1 false))
def ym4 (p0 p1:Int) (K:Int→Prop):Prop :=
 (∃ n:Nat,ycS
 (fun yi0 _ _=>(K yi0))
 n p0 p1)
def ybh (p0 p1:Int) (K:Int→Prop):Prop:=ym4 p0 p1 K
def yfI (w:ybK) (as:List PV) (K:PV→Prop):Prop :=
 match as with
 | [(.int .u64 p0),(.int .u64 p1)]=>w p0 p1 (fun r0=>K (.int .u64 r0))
 | _=>False
def ysk (as:List PV) (K:PV→Prop):Prop:=yfI ybh as K
def yeO (F:Frm) (H:Hp) (A0:Int→Int→Prop):Prop :=
 match F,H with
 | [(0,.v (.int .u64 i0)),(1,.v (.int .u64 i1))],[]=>(A0 i0 i1)
 | _,_=>False
def yiP (Q:Ex→Frm→Hp→Prop):Int→Int→Bool→Prop:=(fun i0 i1 b2=>Q (.exit 0) [(0,.v (.int .u64 i0)),(1,.v (.int .u64 i1)),(6,.v (.bool b2))] [])
def yh7 (Q:Ex→Frm→Hp→Prop) (n:Nat) (F:Frm) (H:Hp):Prop:=yeO F H (fun i0 i1=>ycS (yiP Q) n i0 i1)
def yjq:LP:=fun id F H Q =>
 bif Nat.beq id 32725300 then yeO F H (fun i0 i1=>∃ n:Nat,ycS (yiP Q) n i0 i1) else
 False
def ym5 (e:List (Nat×EffF)):SE:=⟨(E e),lookS [],lookI [],yjq⟩
theorem yqp (e:List (Nat×EffF)) (he:EG e):SEOk (ym5 e):=yag trivial trivial he.ok
theorem yrg (e:List (Nat×EffF)) ( Q n i0 i1):WC (E e) (callW (ym5 e) 5) (yjq) ykj [(0,.v (.int .u64 i0)),(1,.v (.int .u64 i1))] [] (fun x F' H'=>match x with | .norm=>yh7 Q n F' H' | .exit i=>Q (.exit i) F' H' | .ret=>Q .ret F' H')=ycS (yiP Q) (n+1) i0 i1:=by kernel_rfl
theorem yvC (e:List (Nat×EffF)) (_:EG e):LpOk (E e) (yjq) ykj:=(yaf (by kernel_rfl))
theorem yt5 (e:List (Nat×EffF)) (he:EG e):∀ F H Q,yjq 32725300 F H Q→LoopT (E e) ykj F H Q:=by
 intro F H Q h
 have go:=LoopT.intro (yaH (yqp e he) 5) (yvC e he) (yh7 Q) (by
   intro F H h
   unfold yh7 yeO at h
   split at h
   · exact h
   · exact h) (by
   intro n F H h
   unfold yh7 yeO at h
   split at h
   · exact (yrg ..).mpr h
   · exact h.elim)
 have h:yeO F H _:=h
 unfold yeO at h
 split at h
 · obtain ⟨n,h⟩:=h;exact go n _ _ h
 · exact h.elim
theorem yAr (e:List (Nat×EffF)) ( p0 p1 K):WP (ym5 e) 6 yCm [(.int .u64 p0),(.int .u64 p1)] K=ym4 p0 p1 (fun r0=>K (.int .u64 r0)):=by kernel_rfl
theorem yjr (e:List (Nat×EffF)) (he:EG e):OkF (E e) ysk ybG:=by
 intro as K h
 unfold ysk yfI at h
 split at h
 · exact WP_ok (yqp e he) (ybk (l:=[(32725300,ykj)]) ⟨yt5 e he,trivial⟩ (by kernel_rfl)) (by kernel_rfl) (by kernel_rfl) (fun _=>yab (by kernel_rfl) _) (he.num _ (by kernel_rfl)) ((yAr ..).mpr h)
 · exact h.elim
abbrev ybz:Type:=Bool→Int→Int→(Int→Int→Int→Prop)→Prop
def yiQ (p0:Bool) (p1 p2:Int) (K:Int→Int→Int→Prop):Prop :=
 (cbr (decide ((if p2>p1 then p2 else p1)>(1000000000000000000:Int)))
 (K (0:Int) (0:Int) (16:Int))
 (cbr p0
 (K (IntKind.i64.wrap ((0:Int)-(IntKind.i64.wrap p1))) (IntKind.i64.wrap p2) (0:Int))
 (K (IntKind.i64.wrap p1) (IntKind.i64.wrap p2) (0:Int))))
def ybb (p0:Bool) (p1 p2:Int) (K:Int→Int→Int→Prop):Prop:=yiQ p0 p1 p2 K
def yeK (w:ybz) (as:List PV) (K:PV→Prop):Prop :=
 match as with
 | [(.bool p0),(.int .u64 p1),(.int .u64 p2)]=>w p0 p1 p2 (fun r0 r1 r2=>K (.tup [(.agg [(.int .i64 r0),(.int .i64 r1)]),(.int .i64 r2)]))
 | _=>False
def yn3 (as:List PV) (K:PV→Prop):Prop:=yeK ybb as K
def yvD:LP:=fun _ _ _ _ =>
 False
def yn4 (e:List (Nat×EffF)):SE:=⟨(E e),lookS [],lookI [],yvD⟩
theorem yt6 (e:List (Nat×EffF)) (he:EG e):SEOk (yn4 e):=yag trivial trivial he.ok
theorem yvE (e:List (Nat×EffF)) ( p0 p1 p2 K):WP (yn4 e) 6 ywM [(.bool p0),(.int .u64 p1),(.int .u64 p2)] K=yiQ p0 p1 p2 (fun r0 r1 r2=>K (.tup [(.agg [(.int .i64 r0),(.int .i64 r1)]),(.int .i64 r2)])):=by kernel_rfl
theorem yiR (e:List (Nat×EffF)) (he:EG e):OkF (E e) yn3 yca:=by
 intro as K h
 unfold yn3 yeK at h
 split at h
 · exact WP_ok (yt6 e he) (yaf (by kernel_rfl)) (by kernel_rfl) (by kernel_rfl) (fun _=>yab (by kernel_rfl) _) (he.num _ (by kernel_rfl)) ((yvE ..).mpr h)
 · exact h.elim
abbrev yjs:Type:=Int→Int→(Int→Int→Int→Prop)→Prop
def ylF (a0:ya0) (a1:ybK) (a2:ybz) (p0 p1:Int) (K:Int→Int→Int→Prop):Prop :=
 (cbr (p1 ==(0:Int))
 (K (0:Int) (0:Int) (18:Int))
 (a0 p0 (fun yi0 =>
 (a0 p1 (fun yi1 =>
 (a1 yi0 yi1 (fun yi2 =>
 (asr (!(decide (yi2=(0:Int))))
 (asr (!(decide (yi2=(0:Int))))
 (a2 ((decide (p0<(0:Int))) !=(decide (p1<(0:Int)))) (IntKind.u64.wrap (Int.tdiv yi0 yi2)) (IntKind.u64.wrap (Int.tdiv yi1 yi2)) (fun yi3 yi4 yi5 =>
 (K yi3 yi4 yi5))))))))))))
def ydC (p0 p1:Int) (K:Int→Int→Int→Prop):Prop:=ylF ybq ybh ybb p0 p1 K
def ylG (w:yjs) (as:List PV) (K:PV→Prop):Prop :=
 match as with
 | [(.int .i64 p0),(.int .i64 p1)]=>w p0 p1 (fun r0 r1 r2=>K (.tup [(.agg [(.int .i64 r0),(.int .i64 r1)]),(.int .i64 r2)]))
 | _=>False
def yqq (as:List PV) (K:PV→Prop):Prop:=ylG ydC as K
def yyl (_:ya0) (_:ybK) (_:ybz):LP:=fun _ _ _ _ =>
 False
def yqr (e:List (Nat×EffF)) (a0:ya0) (a1:ybK) (a2:ybz):SE:=⟨(E e),lookS [(yaP,ydM a0),(ybG,yfI a1),(yca,yeK a2)],lookI [],yyl a0 a1 a2⟩
theorem ywP (e:List (Nat×EffF)) (he:EG e):SEOk (yqr e ybq ybh ybb):=yag ⟨(yf9 e he),(yjr e he),(yiR e he),trivial⟩ trivial he.ok
theorem yym (e:List (Nat×EffF)) (a0 a1 a2 p0 p1 K):WP (yqr e a0 a1 a2) 6 yAh [(.int .i64 p0),(.int .i64 p1)] K=ylF a0 a1 a2 p0 p1 (fun r0 r1 r2=>K (.tup [(.agg [(.int .i64 r0),(.int .i64 r1)]),(.int .i64 r2)])):=by kernel_rfl
theorem yqs (e:List (Nat×EffF)) (he:EG e):OkF (E e) yqq ygQ:=by
 intro as K h
 unfold yqq ylG at h
 split at h
 · exact WP_ok (ywP e he) (yaf (by kernel_rfl)) (by kernel_rfl) (by kernel_rfl) (fun _=>yab (by kernel_rfl) _) (he.num _ (by kernel_rfl)) ((yym ..).mpr h)
 · exact h.elim
abbrev ybe:Type:=Int→Int→(Int→Prop)→Prop
def ykx (a0:ya0) (a1:ybK) (p0 p1:Int) (K:Int→Prop):Prop :=
 (cbr (decide (p1<(1:Int)))
 (K (8:Int))
 (a0 p0 (fun yi0 =>
 (cbr (decide ((if (IntKind.u64.wrap p1)>yi0 then (IntKind.u64.wrap p1) else yi0)>(1000000000000000000:Int)))
 (K (8:Int))
 (a0 p0 (fun yi1 =>
 (a1 yi1 (IntKind.u64.wrap p1) (fun yi2 =>
 (cbr (decide (yi2>(1:Int)))
 (K (8:Int))
 (K (0:Int)))))))))))
def yaL (p0 p1:Int) (K:Int→Prop):Prop:=ykx ybq ybh p0 p1 K
def ydZ (w:ybe) (as:List PV) (K:PV→Prop):Prop :=
 match as with
 | [(.agg [(.int .i64 p0),(.int .i64 p1)])]=>w p0 p1 (fun r0=>K (.int .i64 r0))
 | _=>False
def yol (as:List PV) (K:PV→Prop):Prop:=ydZ yaL as K
def ywQ (_:ya0) (_:ybK):LP:=fun _ _ _ _ =>
 False
def yom (e:List (Nat×EffF)) (a0:ya0) (a1:ybK):SE:=⟨(E e),lookS [(yaP,ydM a0),(ybG,yfI a1)],lookI [],ywQ a0 a1⟩
theorem yvF (e:List (Nat×EffF)) (he:EG e):SEOk (yom e ybq ybh):=yag ⟨(yf9 e he),(yjr e he),trivial⟩ trivial he.ok
theorem ywR (e:List (Nat×EffF)) (a0 a1 p0 p1 K):WP (yom e a0 a1) 6 yye [(.agg [(.int .i64 p0),(.int .i64 p1)])] K=ykx a0 a1 p0 p1 (fun r0=>K (.int .i64 r0)):=by kernel_rfl
theorem yfo (e:List (Nat×EffF)) (he:EG e):OkF (E e) yol ybx:=by
 intro as K h
 unfold yol ydZ at h
 split at h
 · exact WP_ok (yvF e he) (yaf (by kernel_rfl)) (by kernel_rfl) (by kernel_rfl) (fun _=>yab (by kernel_rfl) _) (he.num _ (by kernel_rfl)) ((ywR ..).mpr h)
 · exact h.elim
abbrev yen:Type:=List PV→(Int→Prop)→Prop
def yaU (x0:Int→Prop) (x1:Int→List PV→Int→Int→Bool→Prop):Nat→Int→List PV→Int→Int→Prop
 | 0,_,_,_,_=>False
 | n+1,i0,l1,i2,i3 =>
 (cbr (decide (i3<i2))
 (asr (decide ((0:Int)≤i3))
 (asr (decide (i3<(((List.length l1):Nat):Int)))
 (asr (conf (.one (.i .i64)) (List.getD l1 (i3.toNat) .nils))
 (cbr ((intOfV (List.getD l1 (i3.toNat) .nils)) != i0)
 (x0 (intOfV (List.getD l1 (i3.toNat) .nils)))
 (yaU x0 x1 n i0 l1 i2 (IntKind.i64.wrap (i3+(1:Int))))))))
 (x1 i0 l1 i2 i3 false))
def yfY (p0:List PV) (K:Int→Prop):Prop :=
 (∃ n:Nat,yaU
 (fun yi0=>(K yi0))
 (fun yi1 _ _ _ _=>(K yi1))
 n (0:Int) p0 (((List.length p0):Nat):Int) (0:Int))
def ydm (p0:List PV) (K:Int→Prop):Prop:=yfY p0 K
def yfZ (w:yen) (as:List PV) (K:PV→Prop):Prop :=
 match as with
 | [(.data p0)]=>w p0 (fun r0=>K (.int .i64 r0))
 | _=>False
def yjk (as:List PV) (K:PV→Prop):Prop:=yfZ ydm as K
def ybL (F:Frm) (H:Hp) (A0:Int→List PV→Int→Int→Prop):Prop :=
 match F,H with
 | [(3,.v (.int .i64 i0)),(6,.v (.data l1)),(7,.v (.int .i64 i2)),(8,.v (.int .i64 i3))],[]=>(A0 i0 l1 i2 i3)
 | _,_=>False
def yeo (Q:Ex→Frm→Hp→Prop):Int→Prop:=(fun i0=>Q .ret [(2,.v (.int .i64 i0))] [])
def yep (Q:Ex→Frm→Hp→Prop):Int→List PV→Int→Int→Bool→Prop:=(fun i0 l1 i2 i3 b4=>Q (.exit 0) [(3,.v (.int .i64 i0)),(6,.v (.data l1)),(7,.v (.int .i64 i2)),(8,.v (.int .i64 i3)),(9,.v (.bool b4))] [])
def ydD (Q:Ex→Frm→Hp→Prop) (n:Nat) (F:Frm) (H:Hp):Prop:=ybL F H (fun i0 l1 i2 i3=>yaU (yeo Q) (yep Q) n i0 l1 i2 i3)
def ydT:LP:=fun id F H Q =>
 bif Nat.beq id 38508400 then ybL F H (fun i0 l1 i2 i3=>∃ n:Nat,yaU (yeo Q) (yep Q) n i0 l1 i2 i3) else
 False
def yf0 (e:List (Nat×EffF)):SE:=⟨(E e),lookS [],lookI [],ydT⟩
theorem yiD (e:List (Nat×EffF)) (he:EG e):SEOk (yf0 e):=yag trivial trivial he.ok
theorem yk1 (e:List (Nat×EffF)) ( Q n i0 l1 i2 i3):WC (E e) (callW (yf0 e) 5) (ydT) ykk [(3,.v (.int .i64 i0)),(6,.v (.data l1)),(7,.v (.int .i64 i2)),(8,.v (.int .i64 i3))] [] (fun x F' H'=>match x with | .norm=>ydD Q n F' H' | .exit i=>Q (.exit i) F' H' | .ret=>Q .ret F' H')=yaU (yeo Q) (yep Q) (n+1) i0 l1 i2 i3:=by kernel_rfl
theorem ym6 (e:List (Nat×EffF)) (_:EG e):LpOk (E e) (ydT) ykk:=(yaf (by kernel_rfl))
theorem ymH (e:List (Nat×EffF)) (he:EG e):∀ F H Q,ydT 38508400 F H Q→LoopT (E e) ykk F H Q:=by
 intro F H Q h
 have go:=LoopT.intro (yaH (yiD e he) 5) (ym6 e he) (ydD Q) (by
   intro F H h
   unfold ydD ybL at h
   split at h
   · exact h
   · exact h) (by
   intro n F H h
   unfold ydD ybL at h
   split at h
   · exact (yk1 ..).mpr h
   · exact h.elim)
 have h:ybL F H _:=h
 unfold ybL at h
 split at h
 · obtain ⟨n,h⟩:=h;exact go n _ _ h
 · exact h.elim
theorem ypO (e:List (Nat×EffF)) ( p0 K):WP (yf0 e) 6 yra [(.data p0)] K=yfY p0 (fun r0=>K (.int .i64 r0)):=by kernel_rfl
theorem ypP (e:List (Nat×EffF)) (he:EG e):OkF (E e) yjk ydj:=by
 intro as K h
 unfold yjk yfZ at h
 split at h
 · exact WP_ok (yiD e he) (ybk (l:=[(38508400,ykk)]) ⟨ymH e he,trivial⟩ (by kernel_rfl)) (by kernel_rfl) (by kernel_rfl) (fun _=>yab (by kernel_rfl) _) (he.num _ (by kernel_rfl)) ((ypO ..).mpr h)
 · exact h.elim
abbrev yaR:Type:=Int→Int→Int→Int→(Int→Prop)→Prop
def yky (a0:ybe) (a1:yen) (p0 p1 p2 p3:Int) (K:Int→Prop):Prop :=
 (a0 p0 p1 (fun yi0 =>
 (a0 p2 p3 (fun yi1 =>
 (a1 ([(.int .i64 yi0),(.int .i64 yi1)]:List PV) (fun yi2 =>
 (K yi2)))))))
def ybf (p0 p1 p2 p3:Int) (K:Int→Prop):Prop:=yky yaL ydm p0 p1 p2 p3 K
def ydn (w:yaR) (as:List PV) (K:PV→Prop):Prop :=
 match as with
 | [(.agg [(.int .i64 p0),(.int .i64 p1)]),(.agg [(.int .i64 p2),(.int .i64 p3)])]=>w p0 p1 p2 p3 (fun r0=>K (.int .i64 r0))
 | _=>False
def yon (as:List PV) (K:PV→Prop):Prop:=ydn ybf as K
def ywS (_:ybe) (_:yen):LP:=fun _ _ _ _ =>
 False
def yoo (e:List (Nat×EffF)) (a0:ybe) (a1:yen):SE:=⟨(E e),lookS [(ybx,ydZ a0),(ydj,yfZ a1)],lookI [],ywS a0 a1⟩
theorem yvG (e:List (Nat×EffF)) (he:EG e):SEOk (yoo e yaL ydm):=yag ⟨(yfo e he),(ypP e he),trivial⟩ trivial he.ok
theorem ywT (e:List (Nat×EffF)) (a0 a1 p0 p1 p2 p3 K):WP (yoo e a0 a1) 6 yyf [(.agg [(.int .i64 p0),(.int .i64 p1)]),(.agg [(.int .i64 p2),(.int .i64 p3)])] K=yky a0 a1 p0 p1 p2 p3 (fun r0=>K (.int .i64 r0)):=by kernel_rfl
theorem yfp (e:List (Nat×EffF)) (he:EG e):OkF (E e) yon ybd:=by
 intro as K h
 unfold yon ydn at h
 split at h
 · exact WP_ok (yvG e he) (yaf (by kernel_rfl)) (by kernel_rfl) (by kernel_rfl) (fun _=>yab (by kernel_rfl) _) (he.num _ (by kernel_rfl)) ((ywT ..).mpr h)
 · exact h.elim
abbrev yfb:Type:=Int→(Bool→Prop)→Prop
def ygo (p0:Int) (K:Bool→Prop):Prop :=
 (K (p0 != p0))
def yfc (p0:Int) (K:Bool→Prop):Prop:=ygo p0 K
def ygp (w:yfb) (as:List PV) (K:PV→Prop):Prop :=
 match as with
 | [(.int .i64 p0)]=>w p0 (fun r0=>K (.bool r0))
 | _=>False
def ykz (as:List PV) (K:PV→Prop):Prop:=ygp yfc as K
def yrh:LP:=fun _ _ _ _ =>
 False
def ykA (e:List (Nat×EffF)):SE:=⟨(E e),lookS [],lookI [],yrh⟩
theorem ypQ (e:List (Nat×EffF)) (he:EG e):SEOk (ykA e):=yag trivial trivial he.ok
theorem yri (e:List (Nat×EffF)) ( p0 K):WP (ykA e) 6 ysi [(.int .i64 p0)] K=ygo p0 (fun r0=>K (.bool r0)):=by kernel_rfl
theorem yrj (e:List (Nat×EffF)) (he:EG e):OkF (E e) ykz ycE:=by
 intro as K h
 unfold ykz ygp at h
 split at h
 · exact WP_ok (ypQ e he) (yaf (by kernel_rfl)) (by kernel_rfl) (by kernel_rfl) (fun _=>yab (by kernel_rfl) _) (he.num _ (by kernel_rfl)) ((yri ..).mpr h)
 · exact h.elim
abbrev ydU:Type:=Int→Int→(Int→Prop)→Prop
def yfq (a0:yfb) (p0 p1:Int) (K:Int→Prop):Prop :=
 (a0 p0 (fun yb0 =>
 (a0 p1 (fun yb1 =>
 (cbr yb0
 (cbr yb1
 (K (0:Int))
 (K (-1:Int)))
 (cbr yb1
 (K (1:Int))
 (cbr (decide (p0<p1))
 (K (-1:Int))
 (cbr (decide (p0>p1))
 (K (1:Int))
 (K (0:Int))))))))))
def ycY (p0 p1:Int) (K:Int→Prop):Prop:=yfq yfc p0 p1 K
def yfr (w:ydU) (as:List PV) (K:PV→Prop):Prop :=
 match as with
 | [(.int .i64 p0),(.int .i64 p1)]=>w p0 p1 (fun r0=>K (.int .i64 r0))
 | _=>False
def yiE (as:List PV) (K:PV→Prop):Prop:=yfr ycY as K
def yop (_:yfb):LP:=fun _ _ _ _ =>
 False
def yiF (e:List (Nat×EffF)) (a0:yfb):SE:=⟨(E e),lookS [(ycE,ygp a0)],lookI [],yop a0⟩
theorem yob (e:List (Nat×EffF)) (he:EG e):SEOk (yiF e yfc):=yag ⟨(yrj e he),trivial⟩ trivial he.ok
theorem yoq (e:List (Nat×EffF)) (a0 p0 p1 K):WP (yiF e a0) 6 ypN [(.int .i64 p0),(.int .i64 p1)] K=yfq a0 p0 p1 (fun r0=>K (.int .i64 r0)):=by kernel_rfl
theorem yor (e:List (Nat×EffF)) (he:EG e):OkF (E e) yiE ycX:=by
 intro as K h
 unfold yiE yfr at h
 split at h
 · exact WP_ok (yob e he) (yaf (by kernel_rfl)) (by kernel_rfl) (by kernel_rfl) (fun _=>yab (by kernel_rfl) _) (he.num _ (by kernel_rfl)) ((yoq ..).mpr h)
 · exact h.elim
abbrev yeP:Type:=Int→Int→(Int→Int→Prop)→Prop
def yrk (p0 p1:Int) (K:Int→Int→Prop):Prop :=
 (K (IntKind.u64.wrap ((IntKind.u64.wrap ((IntKind.u64.wrap ((Int.fdiv p0 4294967296)*(Int.fdiv p1 4294967296)))+(Int.fdiv (IntKind.u64.wrap ((IntKind.u64.wrap ((Int.fdiv p0 4294967296)*(IntKind.u64.wrap (BitVec.ofInt IntKind.u64.bits p1&&&BitVec.ofInt IntKind.u64.bits (4294967295:Int)).toNat)))+(Int.fdiv (IntKind.u64.wrap ((IntKind.u64.wrap (BitVec.ofInt IntKind.u64.bits p0&&&BitVec.ofInt IntKind.u64.bits (4294967295:Int)).toNat)*(IntKind.u64.wrap (BitVec.ofInt IntKind.u64.bits p1&&&BitVec.ofInt IntKind.u64.bits (4294967295:Int)).toNat))) 4294967296))) 4294967296)))+(Int.fdiv (IntKind.u64.wrap ((IntKind.u64.wrap (BitVec.ofInt IntKind.u64.bits (IntKind.u64.wrap ((IntKind.u64.wrap ((Int.fdiv p0 4294967296)*(IntKind.u64.wrap (BitVec.ofInt IntKind.u64.bits p1&&&BitVec.ofInt IntKind.u64.bits (4294967295:Int)).toNat)))+(Int.fdiv (IntKind.u64.wrap ((IntKind.u64.wrap (BitVec.ofInt IntKind.u64.bits p0&&&BitVec.ofInt IntKind.u64.bits (4294967295:Int)).toNat)*(IntKind.u64.wrap (BitVec.ofInt IntKind.u64.bits p1&&&BitVec.ofInt IntKind.u64.bits (4294967295:Int)).toNat))) 4294967296)))&&&BitVec.ofInt IntKind.u64.bits (4294967295:Int)).toNat)+(IntKind.u64.wrap ((IntKind.u64.wrap (BitVec.ofInt IntKind.u64.bits p0&&&BitVec.ofInt IntKind.u64.bits (4294967295:Int)).toNat)*(Int.fdiv p1 4294967296))))) 4294967296))) (IntKind.u64.wrap (p0*p1)))
def ydr (p0 p1:Int) (K:Int→Int→Prop):Prop:=yrk p0 p1 K
def ykB (w:yeP) (as:List PV) (K:PV→Prop):Prop :=
 match as with
 | [(.int .u64 p0),(.int .u64 p1)]=>w p0 p1 (fun r0 r1=>K (.tup [(.int .u64 r0),(.int .u64 r1)]))
 | _=>False
def ywU (as:List PV) (K:PV→Prop):Prop:=ykB ydr as K
def yEC:LP:=fun _ _ _ _ =>
 False
def ywV (e:List (Nat×EffF)):SE:=⟨(E e),lookS [],lookI [],yEC⟩
theorem yCG (e:List (Nat×EffF)) (he:EG e):SEOk (ywV e):=yag trivial trivial he.ok
theorem yED (e:List (Nat×EffF)) ( p0 p1 K):WP (ywV e) 6 yGA [(.int .u64 p0),(.int .u64 p1)] K=yrk p0 p1 (fun r0 r1=>K (.tup [(.int .u64 r0),(.int .u64 r1)])):=by kernel_rfl
theorem yrl (e:List (Nat×EffF)) (he:EG e):OkF (E e) ywU ydc:=by
 intro as K h
 unfold ywU ykB at h
 split at h
 · exact WP_ok (yCG e he) (yaf (by kernel_rfl)) (by kernel_rfl) (by kernel_rfl) (fun _=>yab (by kernel_rfl) _) (he.num _ (by kernel_rfl)) ((yED ..).mpr h)
 · exact h.elim
abbrev yeq:Type:=Int→(Bool→Prop)→Prop
def yf1 (p0:Int) (K:Bool→Prop):Prop :=
 (K (p0 != p0))
def yer (p0:Int) (K:Bool→Prop):Prop:=yf1 p0 K
def yf2 (w:yeq) (as:List PV) (K:PV→Prop):Prop :=
 match as with
 | [(.int .u64 p0)]=>w p0 (fun r0=>K (.bool r0))
 | _=>False
def yjl (as:List PV) (K:PV→Prop):Prop:=yf2 yer as K
def ypR:LP:=fun _ _ _ _ =>
 False
def yjm (e:List (Nat×EffF)):SE:=⟨(E e),lookS [],lookI [],ypR⟩
theorem yos (e:List (Nat×EffF)) (he:EG e):SEOk (yjm e):=yag trivial trivial he.ok
theorem ypS (e:List (Nat×EffF)) ( p0 K):WP (yjm e) 6 yrb [(.int .u64 p0)] K=yf1 p0 (fun r0=>K (.bool r0)):=by kernel_rfl
theorem ypT (e:List (Nat×EffF)) (he:EG e):OkF (E e) yjl ycp:=by
 intro as K h
 unfold yjl yf2 at h
 split at h
 · exact WP_ok (yos e he) (yaf (by kernel_rfl)) (by kernel_rfl) (by kernel_rfl) (fun _=>yab (by kernel_rfl) _) (he.num _ (by kernel_rfl)) ((ypS ..).mpr h)
 · exact h.elim
abbrev ydE:Type:=Int→Int→(Int→Prop)→Prop
def ye8 (a0:yeq) (p0 p1:Int) (K:Int→Prop):Prop :=
 (a0 p0 (fun yb0 =>
 (a0 p1 (fun yb1 =>
 (cbr yb0
 (cbr yb1
 (K (0:Int))
 (K (-1:Int)))
 (cbr yb1
 (K (1:Int))
 (cbr (decide (p0<p1))
 (K (-1:Int))
 (cbr (decide (p0>p1))
 (K (1:Int))
 (K (0:Int))))))))))
def ycx (p0 p1:Int) (K:Int→Prop):Prop:=ye8 yer p0 p1 K
def ye9 (w:ydE) (as:List PV) (K:PV→Prop):Prop :=
 match as with
 | [(.int .u64 p0),(.int .u64 p1)]=>w p0 p1 (fun r0=>K (.int .i64 r0))
 | _=>False
def yhn (as:List PV) (K:PV→Prop):Prop:=ye9 ycx as K
def yoc (_:yeq):LP:=fun _ _ _ _ =>
 False
def yho (e:List (Nat×EffF)) (a0:yeq):SE:=⟨(E e),lookS [(ycp,yf2 a0)],lookI [],yoc a0⟩
theorem ym7 (e:List (Nat×EffF)) (he:EG e):SEOk (yho e yer):=yag ⟨(ypT e he),trivial⟩ trivial he.ok
theorem yod (e:List (Nat×EffF)) (a0 p0 p1 K):WP (yho e a0) 6 yok [(.int .u64 p0),(.int .u64 p1)] K=ye8 a0 p0 p1 (fun r0=>K (.int .i64 r0)):=by kernel_rfl
theorem yoe (e:List (Nat×EffF)) (he:EG e):OkF (E e) yhn ybH:=by
 intro as K h
 unfold yhn ye9 at h
 split at h
 · exact WP_ok (ym7 e he) (yaf (by kernel_rfl)) (by kernel_rfl) (by kernel_rfl) (fun _=>yab (by kernel_rfl) _) (he.num _ (by kernel_rfl)) ((yod ..).mpr h)
 · exact h.elim
abbrev yjt:Type:=List PV→(Int→Prop)→Prop
def ybM (x0:Int→Prop) (x1:Int→List PV→Int→Int→Bool→Prop):Nat→Int→List PV→Int→Int→Prop
 | 0,_,_,_,_=>False
 | n+1,i0,l1,i2,i3 =>
 (cbr (decide (i3<i2))
 (asr (decide ((0:Int)≤i3))
 (asr (decide (i3<(((List.length l1):Nat):Int)))
 (asr (conf (.one (.i .i64)) (List.getD l1 (i3.toNat) .nils))
 (cbr ((intOfV (List.getD l1 (i3.toNat) .nils)) != i0)
 (x0 (intOfV (List.getD l1 (i3.toNat) .nils)))
 (ybM x0 x1 n i0 l1 i2 (IntKind.i64.wrap (i3+(1:Int))))))))
 (x1 i0 l1 i2 i3 false))
def ylH (p0:List PV) (K:Int→Prop):Prop :=
 (∃ n:Nat,ybM
 (fun yi0=>(K yi0))
 (fun yi1 _ _ _ _=>(K yi1))
 n (0:Int) p0 (((List.length p0):Nat):Int) (0:Int))
def ygT (p0:List PV) (K:Int→Prop):Prop:=ylH p0 K
def ylI (w:yjt) (as:List PV) (K:PV→Prop):Prop :=
 match as with
 | [(.data p0)]=>w p0 (fun r0=>K (.int .i64 r0))
 | _=>False
def yqt (as:List PV) (K:PV→Prop):Prop:=ylI ygT as K
def yd0 (F:Frm) (H:Hp) (A0:Int→List PV→Int→Int→Prop):Prop :=
 match F,H with
 | [(3,.v (.int .i64 i0)),(6,.v (.data l1)),(7,.v (.int .i64 i2)),(8,.v (.int .i64 i3))],[]=>(A0 i0 l1 i2 i3)
 | _,_=>False
def yhD (Q:Ex→Frm→Hp→Prop):Int→Prop:=(fun i0=>Q .ret [(2,.v (.int .i64 i0))] [])
def yhE (Q:Ex→Frm→Hp→Prop):Int→List PV→Int→Int→Bool→Prop:=(fun i0 l1 i2 i3 b4=>Q (.exit 0) [(3,.v (.int .i64 i0)),(6,.v (.data l1)),(7,.v (.int .i64 i2)),(8,.v (.int .i64 i3)),(9,.v (.bool b4))] [])
def ygU (Q:Ex→Frm→Hp→Prop) (n:Nat) (F:Frm) (H:Hp):Prop:=yd0 F H (fun i0 l1 i2 i3=>ybM (yhD Q) (yhE Q) n i0 l1 i2 i3)
def yh8:LP:=fun id F H Q =>
 bif Nat.beq id 53260600 then yd0 F H (fun i0 l1 i2 i3=>∃ n:Nat,ybM (yhD Q) (yhE Q) n i0 l1 i2 i3) else
 False
def ylJ (e:List (Nat×EffF)):SE:=⟨(E e),lookS [],lookI [],yh8⟩
theorem yot (e:List (Nat×EffF)) (he:EG e):SEOk (ylJ e):=yag trivial trivial he.ok
theorem ypU (e:List (Nat×EffF)) ( Q n i0 l1 i2 i3):WC (E e) (callW (ylJ e) 5) (yh8) ykl [(3,.v (.int .i64 i0)),(6,.v (.data l1)),(7,.v (.int .i64 i2)),(8,.v (.int .i64 i3))] [] (fun x F' H'=>match x with | .norm=>ygU Q n F' H' | .exit i=>Q (.exit i) F' H' | .ret=>Q .ret F' H')=ybM (yhD Q) (yhE Q) (n+1) i0 l1 i2 i3:=by kernel_rfl
theorem yt7 (e:List (Nat×EffF)) (_:EG e):LpOk (E e) (yh8) ykl:=(yaf (by kernel_rfl))
theorem ysl (e:List (Nat×EffF)) (he:EG e):∀ F H Q,yh8 53260600 F H Q→LoopT (E e) ykl F H Q:=by
 intro F H Q h
 have go:=LoopT.intro (yaH (yot e he) 5) (yt7 e he) (ygU Q) (by
   intro F H h
   unfold ygU yd0 at h
   split at h
   · exact h
   · exact h) (by
   intro n F H h
   unfold ygU yd0 at h
   split at h
   · exact (ypU ..).mpr h
   · exact h.elim)
 have h:yd0 F H _:=h
 unfold yd0 at h
 split at h
 · obtain ⟨n,h⟩:=h;exact go n _ _ h
 · exact h.elim
theorem yyn (e:List (Nat×EffF)) ( p0 K):WP (ylJ e) 6 yAk [(.data p0)] K=ylH p0 (fun r0=>K (.int .i64 r0)):=by kernel_rfl
theorem yyo (e:List (Nat×EffF)) (he:EG e):OkF (E e) yqt ygR:=by
 intro as K h
 unfold yqt ylI at h
 split at h
 · exact WP_ok (yot e he) (ybk (l:=[(53260600,ykl)]) ⟨ysl e he,trivial⟩ (by kernel_rfl)) (by kernel_rfl) (by kernel_rfl) (fun _=>yab (by kernel_rfl) _) (he.num _ (by kernel_rfl)) ((yyn ..).mpr h)
 · exact h.elim
abbrev yfs:Type:=Int→Int→Int→Int→(Int→Int→Prop)→Prop
def ym8 (a0:yaR) (a1:ydU) (a2:ya0) (a3:yeP) (a4:ydE) (a5:yjt) (p0 p1 p2 p3:Int) (K:Int→Int→Prop):Prop :=
 (a0 p0 p1 p2 p3 (fun yi0 =>
 (cbr (yi0 !=(0:Int))
 (K (0:Int) yi0)
 (cbr ((decide (p0<(0:Int))) !=(decide (p2<(0:Int))))
 (a1 p0 p2 (fun yi1 =>
 (K yi1 (0:Int))))
 (a2 p0 (fun yi2 =>
 (a3 yi2 (IntKind.u64.wrap p3) (fun yi3 yi4 =>
 (a2 p2 (fun yi5 =>
 (a3 yi5 (IntKind.u64.wrap p1) (fun yi6 yi7 =>
 (a4 yi3 yi6 (fun yi8 =>
 (a4 yi4 yi7 (fun yi9 =>
 (a5 ([(.int .i64 yi8),(.int .i64 yi9)]:List PV) (fun yi10 =>
 (cbr (decide (p0<(0:Int)))
 (K (IntKind.i64.wrap ((0:Int)-yi10)) (0:Int))
 (K yi10 (0:Int)))))))))))))))))))))
def yc6 (p0 p1 p2 p3:Int) (K:Int→Int→Prop):Prop:=ym8 ybf ycY ybq ydr ycx ygT p0 p1 p2 p3 K
def yju (w:yfs) (as:List PV) (K:PV→Prop):Prop :=
 match as with
 | [(.agg [(.int .i64 p0),(.int .i64 p1)]),(.agg [(.int .i64 p2),(.int .i64 p3)])]=>w p0 p1 p2 p3 (fun r0 r1=>K (.tup [(.int .i64 r0),(.int .i64 r1)]))
 | _=>False
def ysm (as:List PV) (K:PV→Prop):Prop:=yju yc6 as K
def yAs (_:yaR) (_:ydU) (_:ya0) (_:yeP) (_:ydE) (_:yjt):LP:=fun _ _ _ _ =>
 False
def ysn (e:List (Nat×EffF)) (a0:yaR) (a1:ydU) (a2:ya0) (a3:yeP) (a4:ydE) (a5:yjt):SE:=⟨(E e),lookS [(ybd,ydn a0),(ycX,yfr a1),(yaP,ydM a2),(ydc,ykB a3),(ybH,ye9 a4),(ygR,ylI a5)],lookI [],yAs a0 a1 a2 a3 a4 a5⟩
theorem yyp (e:List (Nat×EffF)) (he:EG e):SEOk (ysn e ybf ycY ybq ydr ycx ygT):=yag ⟨(yfp e he),(yor e he),(yf9 e he),(yrl e he),(yoe e he),(yyo e he),trivial⟩ trivial he.ok
theorem yAt (e:List (Nat×EffF)) (a0 a1 a2 a3 a4 a5 p0 p1 p2 p3 K):WP (ysn e a0 a1 a2 a3 a4 a5) 6 yCn [(.agg [(.int .i64 p0),(.int .i64 p1)]),(.agg [(.int .i64 p2),(.int .i64 p3)])] K=ym8 a0 a1 a2 a3 a4 a5 p0 p1 p2 p3 (fun r0 r1=>K (.tup [(.int .i64 r0),(.int .i64 r1)])):=by kernel_rfl
theorem ym9 (e:List (Nat×EffF)) (he:EG e):OkF (E e) ysm yfk:=by
 intro as K h
 unfold ysm yju at h
 split at h
 · exact WP_ok (yyp e he) (yaf (by kernel_rfl)) (by kernel_rfl) (by kernel_rfl) (fun _=>yab (by kernel_rfl) _) (he.num _ (by kernel_rfl)) ((yAt ..).mpr h)
 · exact h.elim
abbrev ypv:Type:=Int→(Int→Prop)→Prop
def yrm (p0:Int) (K:Int→Prop):Prop :=
 (cbr (decide (p0≥(4294967296:Int)))
 (cbr (decide ((Int.fdiv p0 4294967296)≥(65536:Int)))
 (cbr (decide ((Int.fdiv (Int.fdiv p0 4294967296) 65536)≥(256:Int)))
 (asr (decide ((0:Int)≤(IntKind.u8.wrap (Int.fdiv (Int.fdiv (Int.fdiv p0 4294967296) 65536) 256))))
 (asr (decide ((IntKind.u8.wrap (Int.fdiv (Int.fdiv (Int.fdiv p0 4294967296) 65536) 256))<(256:Int)))
 (K (IntKind.i64.wrap ((56:Int)+(IntKind.i64.wrap (intOfV (List.getD len8tab ((IntKind.u8.wrap (Int.fdiv (Int.fdiv (Int.fdiv p0 4294967296) 65536) 256)).toNat) .nils))))))))
 (asr (decide ((0:Int)≤(IntKind.u8.wrap (Int.fdiv (Int.fdiv p0 4294967296) 65536))))
 (asr (decide ((IntKind.u8.wrap (Int.fdiv (Int.fdiv p0 4294967296) 65536))<(256:Int)))
 (K (IntKind.i64.wrap ((48:Int)+(IntKind.i64.wrap (intOfV (List.getD len8tab ((IntKind.u8.wrap (Int.fdiv (Int.fdiv p0 4294967296) 65536)).toNat) .nils)))))))))
 (cbr (decide ((Int.fdiv p0 4294967296)≥(256:Int)))
 (asr (decide ((0:Int)≤(IntKind.u8.wrap (Int.fdiv (Int.fdiv p0 4294967296) 256))))
 (asr (decide ((IntKind.u8.wrap (Int.fdiv (Int.fdiv p0 4294967296) 256))<(256:Int)))
 (K (IntKind.i64.wrap ((40:Int)+(IntKind.i64.wrap (intOfV (List.getD len8tab ((IntKind.u8.wrap (Int.fdiv (Int.fdiv p0 4294967296) 256)).toNat) .nils))))))))
 (asr (decide ((0:Int)≤(IntKind.u8.wrap (Int.fdiv p0 4294967296))))
 (asr (decide ((IntKind.u8.wrap (Int.fdiv p0 4294967296))<(256:Int)))
 (K (IntKind.i64.wrap ((32:Int)+(IntKind.i64.wrap (intOfV (List.getD len8tab ((IntKind.u8.wrap (Int.fdiv p0 4294967296)).toNat) .nils))))))))))
 (cbr (decide (p0≥(65536:Int)))
 (cbr (decide ((Int.fdiv p0 65536)≥(256:Int)))
 (asr (decide ((0:Int)≤(IntKind.u8.wrap (Int.fdiv (Int.fdiv p0 65536) 256))))
 (asr (decide ((IntKind.u8.wrap (Int.fdiv (Int.fdiv p0 65536) 256))<(256:Int)))
 (K (IntKind.i64.wrap ((24:Int)+(IntKind.i64.wrap (intOfV (List.getD len8tab ((IntKind.u8.wrap (Int.fdiv (Int.fdiv p0 65536) 256)).toNat) .nils))))))))
 (asr (decide ((0:Int)≤(IntKind.u8.wrap (Int.fdiv p0 65536))))
 (asr (decide ((IntKind.u8.wrap (Int.fdiv p0 65536))<(256:Int)))
 (K (IntKind.i64.wrap ((16:Int)+(IntKind.i64.wrap (intOfV (List.getD len8tab ((IntKind.u8.wrap (Int.fdiv p0 65536)).toNat) .nils)))))))))
 (cbr (decide (p0≥(256:Int)))
 (asr (decide ((0:Int)≤(IntKind.u8.wrap (Int.fdiv p0 256))))
 (asr (decide ((IntKind.u8.wrap (Int.fdiv p0 256))<(256:Int)))
 (K (IntKind.i64.wrap ((8:Int)+(IntKind.i64.wrap (intOfV (List.getD len8tab ((IntKind.u8.wrap (Int.fdiv p0 256)).toNat) .nils))))))))
 (asr (decide ((0:Int)≤(IntKind.u8.wrap p0)))
 (asr (decide ((IntKind.u8.wrap p0)<(256:Int)))
 (K (IntKind.i64.wrap ((0:Int)+(IntKind.i64.wrap (intOfV (List.getD len8tab ((IntKind.u8.wrap p0).toNat) .nils)))))))))))
def ymI (p0:Int) (K:Int→Prop):Prop:=yrm p0 K
def yrn (w:ypv) (as:List PV) (K:PV→Prop):Prop :=
 match as with
 | [(.int .u64 p0)]=>w p0 (fun r0=>K (.int .i64 r0))
 | _=>False
def ywW (as:List PV) (K:PV→Prop):Prop:=yrn ymI as K
def yEE:LP:=fun _ _ _ _ =>
 False
def ywX (e:List (Nat×EffF)):SE:=⟨(E e),lookS [],lookI [],yEE⟩
theorem yCH (e:List (Nat×EffF)) (he:EG e):SEOk (ywX e):=yag trivial trivial he.ok
theorem yEF (e:List (Nat×EffF)) ( p0 K):WP (ywX e) 6 yGB [(.int .u64 p0)] K=yrm p0 (fun r0=>K (.int .i64 r0)):=by kernel_rfl
theorem yEG (e:List (Nat×EffF)) (he:EG e):OkF (E e) ywW ymw:=by
 intro as K h
 unfold ywW yrn at h
 split at h
 · exact WP_ok (yCH e he) (yaf (by kernel_rfl)) (by kernel_rfl) (by kernel_rfl) (fun _=>yab (by kernel_rfl) _) (he.num _ (by kernel_rfl)) ((yEF ..).mpr h)
 · exact h.elim
abbrev yaX:Type:=Int→(Int→Prop)→Prop
def yf3 (a0:ypv) (p0:Int) (K:Int→Prop):Prop :=
 (a0 p0 (fun yi0 =>
 (K (IntKind.i64.wrap ((64:Int)-yi0)))))
def yaJ (p0:Int) (K:Int→Prop):Prop:=yf3 ymI p0 K
def yf4 (w:yaX) (as:List PV) (K:PV→Prop):Prop :=
 match as with
 | [(.int .u64 p0)]=>w p0 (fun r0=>K (.int .i64 r0))
 | _=>False
def yjn (as:List PV) (K:PV→Prop):Prop:=yf4 yaJ as K
def ypV (_:ypv):LP:=fun _ _ _ _ =>
 False
def yjo (e:List (Nat×EffF)) (a0:ypv):SE:=⟨(E e),lookS [(ymw,yrn a0)],lookI [],ypV a0⟩
theorem you (e:List (Nat×EffF)) (he:EG e):SEOk (yjo e ymI):=yag ⟨(yEG e he),trivial⟩ trivial he.ok
theorem ypW (e:List (Nat×EffF)) (a0 p0 K):WP (yjo e a0) 6 yrc [(.int .u64 p0)] K=yf3 a0 p0 (fun r0=>K (.int .i64 r0)):=by kernel_rfl
theorem ypX (e:List (Nat×EffF)) (he:EG e):OkF (E e) yjn ydk:=by
 intro as K h
 unfold yjn yf4 at h
 split at h
 · exact WP_ok (you e he) (yaf (by kernel_rfl)) (by kernel_rfl) (by kernel_rfl) (fun _=>yab (by kernel_rfl) _) (he.num _ (by kernel_rfl)) ((ypW ..).mpr h)
 · exact h.elim
abbrev yhF:Type:=Int→Int→Int→(Int→Int→Prop)→Prop
mutual
def yeQ (a0:yaX) (x60530100_0:Int→Int→Int→Int→Int→Int→Int→Int→Int→Bool→Prop) (x60530100_1:Int→Int→Int→Int→Int→Int→Int→Int→Int→Bool→Prop):Nat→Int→Int→Int→Int→Int→Int→Int→Int→Int→Prop
 | 0,_,_,_,_,_,_,_,_,_=>False
 | n60530100+1,i0,i1,i2,i3,i4,i5,i6,i7,i8 =>
 (cbr (decide (i7≥(4294967296:Int)))
 (cbr (decide ((IntKind.u64.wrap (i8+i2))≥(4294967296:Int)))
 (x60530100_0 i0 i1 i2 i3 i4 i5 i6 (IntKind.u64.wrap (i7-(1:Int))) (IntKind.u64.wrap (i8+i2)) true)
 (ybW a0 x60530100_0 x60530100_1 n60530100 i0 i1 i2 i3 i4 i5 i6 (IntKind.u64.wrap (i7-(1:Int))) (IntKind.u64.wrap (i8+i2)) false))
 (cbr (decide ((IntKind.u64.wrap (i7*i3))>(IntKind.u64.wrap ((IntKind.u64.wrap ((4294967296:Int)*i8))+i5))))
 (cbr (decide ((IntKind.u64.wrap (i8+i2))≥(4294967296:Int)))
 (x60530100_0 i0 i1 i2 i3 i4 i5 i6 (IntKind.u64.wrap (i7-(1:Int))) (IntKind.u64.wrap (i8+i2)) true)
 (ybW a0 x60530100_0 x60530100_1 n60530100 i0 i1 i2 i3 i4 i5 i6 (IntKind.u64.wrap (i7-(1:Int))) (IntKind.u64.wrap (i8+i2)) false))
 (x60530100_1 i0 i1 i2 i3 i4 i5 i6 i7 i8 false)))
def ybW (a0:yaX) (x60530100_0:Int→Int→Int→Int→Int→Int→Int→Int→Int→Bool→Prop) (x60530100_1:Int→Int→Int→Int→Int→Int→Int→Int→Int→Bool→Prop):Nat→Int→Int→Int→Int→Int→Int→Int→Int→Int→Bool→Prop
 | 0,_,_,_,_,_,_,_,_,_,_=>False
 | n60530100+1,i0,i1,i2,i3,i4,i5,i6,i7,i8,_ =>
 (cbr (decide (i7≥(4294967296:Int)))
 (cbr (decide ((IntKind.u64.wrap (i8+i2))≥(4294967296:Int)))
 (x60530100_0 i0 i1 i2 i3 i4 i5 i6 (IntKind.u64.wrap (i7-(1:Int))) (IntKind.u64.wrap (i8+i2)) true)
 (ybW a0 x60530100_0 x60530100_1 n60530100 i0 i1 i2 i3 i4 i5 i6 (IntKind.u64.wrap (i7-(1:Int))) (IntKind.u64.wrap (i8+i2)) false))
 (cbr (decide ((IntKind.u64.wrap (i7*i3))>(IntKind.u64.wrap ((IntKind.u64.wrap ((4294967296:Int)*i8))+i5))))
 (cbr (decide ((IntKind.u64.wrap (i8+i2))≥(4294967296:Int)))
 (x60530100_0 i0 i1 i2 i3 i4 i5 i6 (IntKind.u64.wrap (i7-(1:Int))) (IntKind.u64.wrap (i8+i2)) true)
 (ybW a0 x60530100_0 x60530100_1 n60530100 i0 i1 i2 i3 i4 i5 i6 (IntKind.u64.wrap (i7-(1:Int))) (IntKind.u64.wrap (i8+i2)) false))
 (x60530100_1 i0 i1 i2 i3 i4 i5 i6 i7 i8 false)))
end
mutual
def yc7 (a0:yaX) (x60530101_0:Int→Int→Int→Int→Int→Int→Int→Int→Int→Bool→Prop) (x60530101_1:Int→Int→Int→Int→Int→Int→Int→Int→Int→Bool→Prop):Nat→Int→Int→Int→Int→Int→Int→Int→Int→Int→Prop
 | 0,_,_,_,_,_,_,_,_,_=>False
 | n60530101+1,i0,i1,i2,i3,i4,i5,i6,i7,i8 =>
 (cbr (decide (i8≥(4294967296:Int)))
 (cbr (decide ((IntKind.u64.wrap (i6+i2))≥(4294967296:Int)))
 (x60530101_0 i0 i1 i2 i3 i4 i5 (IntKind.u64.wrap (i6+i2)) i7 (IntKind.u64.wrap (i8-(1:Int))) true)
 (ybX a0 x60530101_0 x60530101_1 n60530101 i0 i1 i2 i3 i4 i5 (IntKind.u64.wrap (i6+i2)) i7 (IntKind.u64.wrap (i8-(1:Int))) false))
 (cbr (decide ((IntKind.u64.wrap (i8*i3))>(IntKind.u64.wrap ((IntKind.u64.wrap ((4294967296:Int)*i6))+i4))))
 (cbr (decide ((IntKind.u64.wrap (i6+i2))≥(4294967296:Int)))
 (x60530101_0 i0 i1 i2 i3 i4 i5 (IntKind.u64.wrap (i6+i2)) i7 (IntKind.u64.wrap (i8-(1:Int))) true)
 (ybX a0 x60530101_0 x60530101_1 n60530101 i0 i1 i2 i3 i4 i5 (IntKind.u64.wrap (i6+i2)) i7 (IntKind.u64.wrap (i8-(1:Int))) false))
 (x60530101_1 i0 i1 i2 i3 i4 i5 i6 i7 i8 false)))
def ybX (a0:yaX) (x60530101_0:Int→Int→Int→Int→Int→Int→Int→Int→Int→Bool→Prop) (x60530101_1:Int→Int→Int→Int→Int→Int→Int→Int→Int→Bool→Prop):Nat→Int→Int→Int→Int→Int→Int→Int→Int→Int→Bool→Prop
 | 0,_,_,_,_,_,_,_,_,_,_=>False
 | n60530101+1,i0,i1,i2,i3,i4,i5,i6,i7,i8,_ =>
 (cbr (decide (i8≥(4294967296:Int)))
 (cbr (decide ((IntKind.u64.wrap (i6+i2))≥(4294967296:Int)))
 (x60530101_0 i0 i1 i2 i3 i4 i5 (IntKind.u64.wrap (i6+i2)) i7 (IntKind.u64.wrap (i8-(1:Int))) true)
 (ybX a0 x60530101_0 x60530101_1 n60530101 i0 i1 i2 i3 i4 i5 (IntKind.u64.wrap (i6+i2)) i7 (IntKind.u64.wrap (i8-(1:Int))) false))
 (cbr (decide ((IntKind.u64.wrap (i8*i3))>(IntKind.u64.wrap ((IntKind.u64.wrap ((4294967296:Int)*i6))+i4))))
 (cbr (decide ((IntKind.u64.wrap (i6+i2))≥(4294967296:Int)))
 (x60530101_0 i0 i1 i2 i3 i4 i5 (IntKind.u64.wrap (i6+i2)) i7 (IntKind.u64.wrap (i8-(1:Int))) true)
 (ybX a0 x60530101_0 x60530101_1 n60530101 i0 i1 i2 i3 i4 i5 (IntKind.u64.wrap (i6+i2)) i7 (IntKind.u64.wrap (i8-(1:Int))) false))
 (x60530101_1 i0 i1 i2 i3 i4 i5 i6 i7 i8 false)))
end
def yro (a0:yaX) (p0 p1 p2:Int) (K:Int→Int→Prop):Prop :=
 (cbr (p2 ==(0:Int))
 False
 (cbr (decide (p2≤p0))
 False
 (cbr (p0 ==(0:Int))
 (asr (!(decide (p2=(0:Int))))
 (asr (!(decide (p2=(0:Int))))
 (K (IntKind.u64.wrap (Int.tdiv p1 p2)) (Int.tmod p1 p2))))
 (a0 p2 (fun yi0 =>
 (asr (!(decide ((IntKind.u64.wrap yi0)<(0:Int))))
 (asr (!(decide ((IntKind.u64.wrap yi0)<(0:Int))))
 (asr (!(decide ((IntKind.u64.wrap ((64:Int)-(IntKind.u64.wrap yi0)))<(0:Int))))
 (asr (!(decide ((IntKind.u64.wrap yi0)<(0:Int))))
 (asr (!(decide ((Int.fdiv (IntKind.u64.wrap (p2*2 ^ (min (IntKind.u64.wrap yi0).toNat IntKind.u64.bits))) 4294967296)=(0:Int))))
 (∃ n60530100:Nat,yeQ a0
 (fun yi1 yi2 yi3 yi4 yi5 yi6 yi7 yi8 _ _=>(asr (!(decide (yi3=(0:Int))))
 (∃ n60530101:Nat,yc7 a0
 (fun yi11 yi12 _ _ yi15 yi16 _ yi18 yi19 _=>(asr (!(decide (yi12<(0:Int))))
 (K (IntKind.u64.wrap ((IntKind.u64.wrap (yi16*(4294967296:Int)))+yi19)) (Int.fdiv (IntKind.u64.wrap ((IntKind.u64.wrap ((IntKind.u64.wrap (yi18*(4294967296:Int)))+yi15))-(IntKind.u64.wrap (yi19*yi11)))) (2 ^ (min yi12.toNat IntKind.u64.bits))))))
 (fun yi21 yi22 _ _ yi25 yi26 _ yi28 yi29 _=>(asr (!(decide (yi22<(0:Int))))
 (K (IntKind.u64.wrap ((IntKind.u64.wrap (yi26*(4294967296:Int)))+yi29)) (Int.fdiv (IntKind.u64.wrap ((IntKind.u64.wrap ((IntKind.u64.wrap (yi28*(4294967296:Int)))+yi25))-(IntKind.u64.wrap (yi29*yi21)))) (2 ^ (min yi22.toNat IntKind.u64.bits))))))
 n60530101 yi1 yi2 yi3 yi4 yi7 yi8 (IntKind.u64.wrap ((IntKind.u64.wrap ((IntKind.u64.wrap ((IntKind.u64.wrap (yi5*(4294967296:Int)))+yi6))-(IntKind.u64.wrap (yi8*yi1))))-(IntKind.u64.wrap ((IntKind.u64.wrap (Int.tdiv (IntKind.u64.wrap ((IntKind.u64.wrap ((IntKind.u64.wrap (yi5*(4294967296:Int)))+yi6))-(IntKind.u64.wrap (yi8*yi1)))) yi3))*yi3)))) (IntKind.u64.wrap ((IntKind.u64.wrap ((IntKind.u64.wrap (yi5*(4294967296:Int)))+yi6))-(IntKind.u64.wrap (yi8*yi1)))) (IntKind.u64.wrap (Int.tdiv (IntKind.u64.wrap ((IntKind.u64.wrap ((IntKind.u64.wrap (yi5*(4294967296:Int)))+yi6))-(IntKind.u64.wrap (yi8*yi1)))) yi3)))))
 (fun yi31 yi32 yi33 yi34 yi35 yi36 yi37 yi38 _ _=>(asr (!(decide (yi33=(0:Int))))
 (∃ n60530101:Nat,yc7 a0
 (fun yi41 yi42 _ _ yi45 yi46 _ yi48 yi49 _=>(asr (!(decide (yi42<(0:Int))))
 (K (IntKind.u64.wrap ((IntKind.u64.wrap (yi46*(4294967296:Int)))+yi49)) (Int.fdiv (IntKind.u64.wrap ((IntKind.u64.wrap ((IntKind.u64.wrap (yi48*(4294967296:Int)))+yi45))-(IntKind.u64.wrap (yi49*yi41)))) (2 ^ (min yi42.toNat IntKind.u64.bits))))))
 (fun yi51 yi52 _ _ yi55 yi56 _ yi58 yi59 _=>(asr (!(decide (yi52<(0:Int))))
 (K (IntKind.u64.wrap ((IntKind.u64.wrap (yi56*(4294967296:Int)))+yi59)) (Int.fdiv (IntKind.u64.wrap ((IntKind.u64.wrap ((IntKind.u64.wrap (yi58*(4294967296:Int)))+yi55))-(IntKind.u64.wrap (yi59*yi51)))) (2 ^ (min yi52.toNat IntKind.u64.bits))))))
 n60530101 yi31 yi32 yi33 yi34 yi37 yi38 (IntKind.u64.wrap ((IntKind.u64.wrap ((IntKind.u64.wrap ((IntKind.u64.wrap (yi35*(4294967296:Int)))+yi36))-(IntKind.u64.wrap (yi38*yi31))))-(IntKind.u64.wrap ((IntKind.u64.wrap (Int.tdiv (IntKind.u64.wrap ((IntKind.u64.wrap ((IntKind.u64.wrap (yi35*(4294967296:Int)))+yi36))-(IntKind.u64.wrap (yi38*yi31)))) yi33))*yi33)))) (IntKind.u64.wrap ((IntKind.u64.wrap ((IntKind.u64.wrap (yi35*(4294967296:Int)))+yi36))-(IntKind.u64.wrap (yi38*yi31)))) (IntKind.u64.wrap (Int.tdiv (IntKind.u64.wrap ((IntKind.u64.wrap ((IntKind.u64.wrap (yi35*(4294967296:Int)))+yi36))-(IntKind.u64.wrap (yi38*yi31)))) yi33)))))
 n60530100 (IntKind.u64.wrap (p2*2 ^ (min (IntKind.u64.wrap yi0).toNat IntKind.u64.bits))) (IntKind.u64.wrap yi0) (Int.fdiv (IntKind.u64.wrap (p2*2 ^ (min (IntKind.u64.wrap yi0).toNat IntKind.u64.bits))) 4294967296) (IntKind.u64.wrap (BitVec.ofInt IntKind.u64.bits (IntKind.u64.wrap (p2*2 ^ (min (IntKind.u64.wrap yi0).toNat IntKind.u64.bits)))&&&BitVec.ofInt IntKind.u64.bits (4294967295:Int)).toNat) (IntKind.u64.wrap (BitVec.ofInt IntKind.u64.bits (IntKind.u64.wrap (p0*2 ^ (min (IntKind.u64.wrap yi0).toNat IntKind.u64.bits)))|||BitVec.ofInt IntKind.u64.bits (Int.fdiv p1 (2 ^ (min (IntKind.u64.wrap ((64:Int)-(IntKind.u64.wrap yi0))).toNat IntKind.u64.bits)))).toNat) (Int.fdiv (IntKind.u64.wrap (p1*2 ^ (min (IntKind.u64.wrap yi0).toNat IntKind.u64.bits))) 4294967296) (IntKind.u64.wrap (BitVec.ofInt IntKind.u64.bits (IntKind.u64.wrap (p1*2 ^ (min (IntKind.u64.wrap yi0).toNat IntKind.u64.bits)))&&&BitVec.ofInt IntKind.u64.bits (4294967295:Int)).toNat) (IntKind.u64.wrap (Int.tdiv (IntKind.u64.wrap (BitVec.ofInt IntKind.u64.bits (IntKind.u64.wrap (p0*2 ^ (min (IntKind.u64.wrap yi0).toNat IntKind.u64.bits)))|||BitVec.ofInt IntKind.u64.bits (Int.fdiv p1 (2 ^ (min (IntKind.u64.wrap ((64:Int)-(IntKind.u64.wrap yi0))).toNat IntKind.u64.bits)))).toNat) (Int.fdiv (IntKind.u64.wrap (p2*2 ^ (min (IntKind.u64.wrap yi0).toNat IntKind.u64.bits))) 4294967296))) (IntKind.u64.wrap ((IntKind.u64.wrap (BitVec.ofInt IntKind.u64.bits (IntKind.u64.wrap (p0*2 ^ (min (IntKind.u64.wrap yi0).toNat IntKind.u64.bits)))|||BitVec.ofInt IntKind.u64.bits (Int.fdiv p1 (2 ^ (min (IntKind.u64.wrap ((64:Int)-(IntKind.u64.wrap yi0))).toNat IntKind.u64.bits)))).toNat)-(IntKind.u64.wrap ((IntKind.u64.wrap (Int.tdiv (IntKind.u64.wrap (BitVec.ofInt IntKind.u64.bits (IntKind.u64.wrap (p0*2 ^ (min (IntKind.u64.wrap yi0).toNat IntKind.u64.bits)))|||BitVec.ofInt IntKind.u64.bits (Int.fdiv p1 (2 ^ (min (IntKind.u64.wrap ((64:Int)-(IntKind.u64.wrap yi0))).toNat IntKind.u64.bits)))).toNat) (Int.fdiv (IntKind.u64.wrap (p2*2 ^ (min (IntKind.u64.wrap yi0).toNat IntKind.u64.bits))) 4294967296)))*(Int.fdiv (IntKind.u64.wrap (p2*2 ^ (min (IntKind.u64.wrap yi0).toNat IntKind.u64.bits))) 4294967296))))))))))))))))
def yeR (p0 p1 p2:Int) (K:Int→Int→Prop):Prop:=yro yaJ p0 p1 p2 K
def yna (w:yhF) (as:List PV) (K:PV→Prop):Prop :=
 match as with
 | [(.int .u64 p0),(.int .u64 p1),(.int .u64 p2)]=>w p0 p1 p2 (fun r0 r1=>K (.tup [(.int .u64 r0),(.int .u64 r1)]))
 | _=>False
def ywY (as:List PV) (K:PV→Prop):Prop:=yna yeR as K
def ygE (F:Frm) (H:Hp) (A0:Int→Int→Int→Int→Int→Int→Int→Int→Int→Prop) (A1:Int→Int→Int→Int→Int→Int→Int→Int→Int→Bool→Prop):Prop :=
 match F,H with
 | [(2,.v (.int .u64 i0)),(8,.v (.int .u64 i1)),(9,.v (.int .u64 i2)),(10,.v (.int .u64 i3)),(11,.v (.int .u64 i4)),(13,.v (.int .u64 i5)),(14,.v (.int .u64 i6)),(15,.v (.int .u64 i7)),(16,.v (.int .u64 i8))],[]=>(A0 i0 i1 i2 i3 i4 i5 i6 i7 i8)
 | [(2,.v (.int .u64 i0)),(8,.v (.int .u64 i1)),(9,.v (.int .u64 i2)),(10,.v (.int .u64 i3)),(11,.v (.int .u64 i4)),(13,.v (.int .u64 i5)),(14,.v (.int .u64 i6)),(15,.v (.int .u64 i7)),(16,.v (.int .u64 i8)),(85,.v (.bool b9))],[]=>(A1 i0 i1 i2 i3 i4 i5 i6 i7 i8 b9)
 | _,_=>False
def ygF (F:Frm) (H:Hp) (A0:Int→Int→Int→Int→Int→Int→Int→Int→Int→Prop) (A1:Int→Int→Int→Int→Int→Int→Int→Int→Int→Bool→Prop):Prop :=
 match F,H with
 | [(2,.v (.int .u64 i0)),(8,.v (.int .u64 i1)),(9,.v (.int .u64 i2)),(10,.v (.int .u64 i3)),(14,.v (.int .u64 i4)),(15,.v (.int .u64 i5)),(16,.v (.int .u64 i6)),(17,.v (.int .u64 i7)),(18,.v (.int .u64 i8))],[]=>(A0 i0 i1 i2 i3 i4 i5 i6 i7 i8)
 | [(2,.v (.int .u64 i0)),(8,.v (.int .u64 i1)),(9,.v (.int .u64 i2)),(10,.v (.int .u64 i3)),(14,.v (.int .u64 i4)),(15,.v (.int .u64 i5)),(16,.v (.int .u64 i6)),(17,.v (.int .u64 i7)),(18,.v (.int .u64 i8)),(120,.v (.bool b9))],[]=>(A1 i0 i1 i2 i3 i4 i5 i6 i7 i8 b9)
 | _,_=>False
def yeS (Q:Ex→Frm→Hp→Prop):Int→Int→Int→Int→Int→Int→Int→Int→Int→Bool→Prop:=(fun i0 i1 i2 i3 i4 i5 i6 i7 i8 b9=>Q (.exit 0) [(2,.v (.int .u64 i0)),(8,.v (.int .u64 i1)),(9,.v (.int .u64 i2)),(10,.v (.int .u64 i3)),(11,.v (.int .u64 i4)),(13,.v (.int .u64 i5)),(14,.v (.int .u64 i6)),(15,.v (.int .u64 i7)),(16,.v (.int .u64 i8)),(85,.v (.bool b9))] [])
def yeT (Q:Ex→Frm→Hp→Prop):Int→Int→Int→Int→Int→Int→Int→Int→Int→Bool→Prop:=(fun i0 i1 i2 i3 i4 i5 i6 i7 i8 b9=>Q (.exit 0) [(2,.v (.int .u64 i0)),(8,.v (.int .u64 i1)),(9,.v (.int .u64 i2)),(10,.v (.int .u64 i3)),(11,.v (.int .u64 i4)),(13,.v (.int .u64 i5)),(14,.v (.int .u64 i6)),(15,.v (.int .u64 i7)),(16,.v (.int .u64 i8)),(78,.v (.bool b9))] [])
def yeU (Q:Ex→Frm→Hp→Prop):Int→Int→Int→Int→Int→Int→Int→Int→Int→Bool→Prop:=(fun i0 i1 i2 i3 i4 i5 i6 i7 i8 b9=>Q (.exit 2) [(2,.v (.int .u64 i0)),(8,.v (.int .u64 i1)),(9,.v (.int .u64 i2)),(10,.v (.int .u64 i3)),(14,.v (.int .u64 i4)),(15,.v (.int .u64 i5)),(16,.v (.int .u64 i6)),(17,.v (.int .u64 i7)),(18,.v (.int .u64 i8)),(120,.v (.bool b9))] [])
def yeV (Q:Ex→Frm→Hp→Prop):Int→Int→Int→Int→Int→Int→Int→Int→Int→Bool→Prop:=(fun i0 i1 i2 i3 i4 i5 i6 i7 i8 b9=>Q (.exit 2) [(2,.v (.int .u64 i0)),(8,.v (.int .u64 i1)),(9,.v (.int .u64 i2)),(10,.v (.int .u64 i3)),(14,.v (.int .u64 i4)),(15,.v (.int .u64 i5)),(16,.v (.int .u64 i6)),(17,.v (.int .u64 i7)),(18,.v (.int .u64 i8)),(113,.v (.bool b9))] [])
def yiG (a0:yaX) (Q:Ex→Frm→Hp→Prop) (n:Nat) (F:Frm) (H:Hp):Prop:=ygE F H (fun i0 i1 i2 i3 i4 i5 i6 i7 i8=>yeQ a0 (yeS Q) (yeT Q) n i0 i1 i2 i3 i4 i5 i6 i7 i8) (fun i0 i1 i2 i3 i4 i5 i6 i7 i8 b9=>ybW a0 (yeS Q) (yeT Q) n i0 i1 i2 i3 i4 i5 i6 i7 i8 b9)
def yiH (a0:yaX) (Q:Ex→Frm→Hp→Prop) (n:Nat) (F:Frm) (H:Hp):Prop:=ygF F H (fun i0 i1 i2 i3 i4 i5 i6 i7 i8=>yc7 a0 (yeU Q) (yeV Q) n i0 i1 i2 i3 i4 i5 i6 i7 i8) (fun i0 i1 i2 i3 i4 i5 i6 i7 i8 b9=>ybX a0 (yeU Q) (yeV Q) n i0 i1 i2 i3 i4 i5 i6 i7 i8 b9)
def yet (a0:yaX):LP:=fun id F H Q =>
 bif Nat.beq id 60530100 then ygE F H (fun i0 i1 i2 i3 i4 i5 i6 i7 i8=>∃ n:Nat,yeQ a0 (yeS Q) (yeT Q) n i0 i1 i2 i3 i4 i5 i6 i7 i8) (fun i0 i1 i2 i3 i4 i5 i6 i7 i8 b9=>∃ n:Nat,ybW a0 (yeS Q) (yeT Q) n i0 i1 i2 i3 i4 i5 i6 i7 i8 b9) else
 bif Nat.beq id 60530101 then ygF F H (fun i0 i1 i2 i3 i4 i5 i6 i7 i8=>∃ n:Nat,yc7 a0 (yeU Q) (yeV Q) n i0 i1 i2 i3 i4 i5 i6 i7 i8) (fun i0 i1 i2 i3 i4 i5 i6 i7 i8 b9=>∃ n:Nat,ybX a0 (yeU Q) (yeV Q) n i0 i1 i2 i3 i4 i5 i6 i7 i8 b9) else
 False
def yhG (e:List (Nat×EffF)) (a0:yaX):SE:=⟨(E e),lookS [(ydk,yf4 a0)],lookI [],yet a0⟩
theorem yov (e:List (Nat×EffF)) (he:EG e):SEOk (yhG e yaJ):=yag ⟨(ypX e he),trivial⟩ trivial he.ok
theorem yt8 (e:List (Nat×EffF)) (a0 Q n i0 i1 i2 i3 i4 i5 i6 i7 i8):WC (E e) (callW (yhG e a0) 5) (yet a0) yhA [(2,.v (.int .u64 i0)),(8,.v (.int .u64 i1)),(9,.v (.int .u64 i2)),(10,.v (.int .u64 i3)),(11,.v (.int .u64 i4)),(13,.v (.int .u64 i5)),(14,.v (.int .u64 i6)),(15,.v (.int .u64 i7)),(16,.v (.int .u64 i8))] [] (fun x F' H'=>match x with | .norm=>yiG a0 Q n F' H' | .exit i=>Q (.exit i) F' H' | .ret=>Q .ret F' H')=yeQ a0 (yeS Q) (yeT Q) (n+1) i0 i1 i2 i3 i4 i5 i6 i7 i8:=by kernel_rfl
theorem yt9 (e:List (Nat×EffF)) (a0 Q n i0 i1 i2 i3 i4 i5 i6 i7 i8 b9):WC (E e) (callW (yhG e a0) 5) (yet a0) yhA [(2,.v (.int .u64 i0)),(8,.v (.int .u64 i1)),(9,.v (.int .u64 i2)),(10,.v (.int .u64 i3)),(11,.v (.int .u64 i4)),(13,.v (.int .u64 i5)),(14,.v (.int .u64 i6)),(15,.v (.int .u64 i7)),(16,.v (.int .u64 i8)),(85,.v (.bool b9))] [] (fun x F' H'=>match x with | .norm=>yiG a0 Q n F' H' | .exit i=>Q (.exit i) F' H' | .ret=>Q .ret F' H')=ybW a0 (yeS Q) (yeT Q) (n+1) i0 i1 i2 i3 i4 i5 i6 i7 i8 b9:=by kernel_rfl
theorem yyq (e:List (Nat×EffF)) (_:EG e):LpOk (E e) (yet yaJ) yhA:=(yaf (by kernel_rfl))
theorem ywZ (e:List (Nat×EffF)) (he:EG e):∀ F H Q,yet yaJ 60530100 F H Q→LoopT (E e) yhA F H Q:=by
 intro F H Q h
 have go:=LoopT.intro (yaH (yov e he) 5) (yyq e he) (yiG yaJ Q) (by
   intro F H h
   unfold yiG ygE at h
   split at h
   · exact h
   · exact h
   · exact h) (by
   intro n F H h
   unfold yiG ygE at h
   split at h
   · exact (yt8 ..).mpr h
   · exact (yt9 ..).mpr h
   · exact h.elim)
 have h:ygE F H _ _:=h
 unfold ygE at h
 split at h
 · obtain ⟨n,h⟩:=h;exact go n _ _ h
 · obtain ⟨n,h⟩:=h;exact go n _ _ h
 · exact h.elim
theorem yua (e:List (Nat×EffF)) (a0 Q n i0 i1 i2 i3 i4 i5 i6 i7 i8):WC (E e) (callW (yhG e a0) 5) (yet a0) yhB [(2,.v (.int .u64 i0)),(8,.v (.int .u64 i1)),(9,.v (.int .u64 i2)),(10,.v (.int .u64 i3)),(14,.v (.int .u64 i4)),(15,.v (.int .u64 i5)),(16,.v (.int .u64 i6)),(17,.v (.int .u64 i7)),(18,.v (.int .u64 i8))] [] (fun x F' H'=>match x with | .norm=>yiH a0 Q n F' H' | .exit i=>Q (.exit i) F' H' | .ret=>Q .ret F' H')=yc7 a0 (yeU Q) (yeV Q) (n+1) i0 i1 i2 i3 i4 i5 i6 i7 i8:=by kernel_rfl
theorem yub (e:List (Nat×EffF)) (a0 Q n i0 i1 i2 i3 i4 i5 i6 i7 i8 b9):WC (E e) (callW (yhG e a0) 5) (yet a0) yhB [(2,.v (.int .u64 i0)),(8,.v (.int .u64 i1)),(9,.v (.int .u64 i2)),(10,.v (.int .u64 i3)),(14,.v (.int .u64 i4)),(15,.v (.int .u64 i5)),(16,.v (.int .u64 i6)),(17,.v (.int .u64 i7)),(18,.v (.int .u64 i8)),(120,.v (.bool b9))] [] (fun x F' H'=>match x with | .norm=>yiH a0 Q n F' H' | .exit i=>Q (.exit i) F' H' | .ret=>Q .ret F' H')=ybX a0 (yeU Q) (yeV Q) (n+1) i0 i1 i2 i3 i4 i5 i6 i7 i8 b9:=by kernel_rfl
theorem yyr (e:List (Nat×EffF)) (_:EG e):LpOk (E e) (yet yaJ) yhB:=(yaf (by kernel_rfl))
theorem yw0 (e:List (Nat×EffF)) (he:EG e):∀ F H Q,yet yaJ 60530101 F H Q→LoopT (E e) yhB F H Q:=by
 intro F H Q h
 have go:=LoopT.intro (yaH (yov e he) 5) (yyr e he) (yiH yaJ Q) (by
   intro F H h
   unfold yiH ygF at h
   split at h
   · exact h
   · exact h
   · exact h) (by
   intro n F H h
   unfold yiH ygF at h
   split at h
   · exact (yua ..).mpr h
   · exact (yub ..).mpr h
   · exact h.elim)
 have h:ygF F H _ _:=h
 unfold ygF at h
 split at h
 · obtain ⟨n,h⟩:=h;exact go n _ _ h
 · obtain ⟨n,h⟩:=h;exact go n _ _ h
 · exact h.elim
theorem yEH (e:List (Nat×EffF)) (a0 p0 p1 p2 K):WP (yhG e a0) 6 yGC [(.int .u64 p0),(.int .u64 p1),(.int .u64 p2)] K=yro a0 p0 p1 p2 (fun r0 r1=>K (.tup [(.int .u64 r0),(.int .u64 r1)])):=by kernel_rfl
theorem yw1 (e:List (Nat×EffF)) (he:EG e):OkF (E e) ywY yhu:=by
 intro as K h
 unfold ywY yna at h
 split at h
 · exact WP_ok (yov e he) (ybk (l:=[(60530100,yhA),(60530101,yhB)]) ⟨ywZ e he,yw0 e he,trivial⟩ (by kernel_rfl)) (by kernel_rfl) (by kernel_rfl) (fun _=>yab (by kernel_rfl) _) (he.num _ (by kernel_rfl)) ((yEH ..).mpr h)
 · exact h.elim
abbrev ypw:Type:=Int→Int→Int→(Int→Prop)→Prop
def yrp (a0:yhF) (p0 p1 p2:Int) (K:Int→Prop):Prop :=
 (asr (!(decide (p2=(0:Int))))
 (a0 (Int.tmod p0 p2) p1 p2 (fun _ yi1 =>
 (K yi1))))
def ygG (p0 p1 p2:Int) (K:Int→Prop):Prop:=yrp yeR p0 p1 p2 K
def yrq (w:ypw) (as:List PV) (K:PV→Prop):Prop :=
 match as with
 | [(.int .u64 p0),(.int .u64 p1),(.int .u64 p2)]=>w p0 p1 p2 (fun r0=>K (.int .u64 r0))
 | _=>False
def yw2 (as:List PV) (K:PV→Prop):Prop:=yrq ygG as K
def yEI (_:yhF):LP:=fun _ _ _ _ =>
 False
def yw3 (e:List (Nat×EffF)) (a0:yhF):SE:=⟨(E e),lookS [(yhu,yna a0)],lookI [],yEI a0⟩
theorem yCI (e:List (Nat×EffF)) (he:EG e):SEOk (yw3 e yeR):=yag ⟨(yw1 e he),trivial⟩ trivial he.ok
theorem yEJ (e:List (Nat×EffF)) (a0 p0 p1 p2 K):WP (yw3 e a0) 6 yGD [(.int .u64 p0),(.int .u64 p1),(.int .u64 p2)] K=yrp a0 p0 p1 p2 (fun r0=>K (.int .u64 r0)):=by kernel_rfl
theorem yEK (e:List (Nat×EffF)) (he:EG e):OkF (E e) yw2 ymx:=by
 intro as K h
 unfold yw2 yrq at h
 split at h
 · exact WP_ok (yCI e he) (yaf (by kernel_rfl)) (by kernel_rfl) (by kernel_rfl) (fun _=>yab (by kernel_rfl) _) (he.num _ (by kernel_rfl)) ((yEJ ..).mpr h)
 · exact h.elim
abbrev yaz:Type:=Int→Int→Int→Int→(Int→Int→Int→Prop)→Prop
def ynb (a0:yaR) (a1:ybK) (a2:ya0) (a3:yeP) (a4:yt3) (a5:ypw) (a6:yhF) (a7:ybz) (a8:yt4) (p0 p1 p2 p3:Int) (K:Int→Int→Int→Prop):Prop :=
 (a0 p0 p1 p2 p3 (fun yi0 =>
 (cbr (yi0 !=(0:Int))
 (K (0:Int) (0:Int) yi0)
 (a1 (IntKind.u64.wrap p1) (IntKind.u64.wrap p3) (fun yi1 =>
 (a2 p0 (fun yi2 =>
 (asr (!(decide (yi1=(0:Int))))
 (a3 yi2 (IntKind.u64.wrap (Int.tdiv (IntKind.u64.wrap p3) yi1)) (fun yi3 yi4 =>
 (a2 p2 (fun yi5 =>
 (asr (!(decide (yi1=(0:Int))))
 (a3 yi5 (IntKind.u64.wrap (Int.tdiv (IntKind.u64.wrap p1) yi1)) (fun yi6 yi7 =>
 (cbr ((decide (p0<(0:Int))) ==(decide (p2<(0:Int))))
 (a4 yi4 yi7 (0:Int) (fun yi8 yi9 =>
 (a4 yi3 yi6 yi9 (fun yi10 _ =>
 (cbr (yi10 ==(0:Int))
 (cbr (yi8 ==(0:Int))
 (K (0:Int) (1:Int) (0:Int))
 (a5 yi10 yi8 yi1 (fun yi12 =>
 (a1 yi12 yi1 (fun yi13 =>
 (cbr (decide (yi10≥yi13))
 (K (0:Int) (0:Int) (16:Int))
 (a6 yi10 yi8 yi13 (fun yi14 _ =>
 (asr (!(decide (yi1=(0:Int))))
 (asr (!(decide (yi13=(0:Int))))
 (a3 (IntKind.u64.wrap (Int.tdiv (IntKind.u64.wrap p1) yi1)) (IntKind.u64.wrap (Int.tdiv (IntKind.u64.wrap p3) yi13)) (fun yi16 yi17 =>
 (cbr (decide (yi16>(0:Int)))
 (K (0:Int) (0:Int) (16:Int))
 (a7 (decide (p0<(0:Int))) yi14 yi17 (fun yi18 yi19 yi20 =>
 (K yi18 yi19 yi20))))))))))))))))
 (a5 yi10 yi8 yi1 (fun yi21 =>
 (a1 yi21 yi1 (fun yi22 =>
 (cbr (decide (yi10≥yi22))
 (K (0:Int) (0:Int) (16:Int))
 (a6 yi10 yi8 yi22 (fun yi23 _ =>
 (asr (!(decide (yi1=(0:Int))))
 (asr (!(decide (yi22=(0:Int))))
 (a3 (IntKind.u64.wrap (Int.tdiv (IntKind.u64.wrap p1) yi1)) (IntKind.u64.wrap (Int.tdiv (IntKind.u64.wrap p3) yi22)) (fun yi25 yi26 =>
 (cbr (decide (yi25>(0:Int)))
 (K (0:Int) (0:Int) (16:Int))
 (a7 (decide (p0<(0:Int))) yi23 yi26 (fun yi27 yi28 yi29 =>
 (K yi27 yi28 yi29))))))))))))))))))))
 (cbr (decide (yi3<yi6))
 (a8 yi7 yi4 (0:Int) (fun yi30 yi31 =>
 (a8 yi6 yi3 yi31 (fun yi32 _ =>
 (cbr (yi32 ==(0:Int))
 (cbr (yi30 ==(0:Int))
 (K (0:Int) (1:Int) (0:Int))
 (a5 yi32 yi30 yi1 (fun yi34 =>
 (a1 yi34 yi1 (fun yi35 =>
 (cbr (decide (yi32≥yi35))
 (K (0:Int) (0:Int) (16:Int))
 (a6 yi32 yi30 yi35 (fun yi36 _ =>
 (asr (!(decide (yi1=(0:Int))))
 (asr (!(decide (yi35=(0:Int))))
 (a3 (IntKind.u64.wrap (Int.tdiv (IntKind.u64.wrap p1) yi1)) (IntKind.u64.wrap (Int.tdiv (IntKind.u64.wrap p3) yi35)) (fun yi38 yi39 =>
 (cbr (decide (yi38>(0:Int)))
 (K (0:Int) (0:Int) (16:Int))
 (a7 (!(decide (p0<(0:Int)))) yi36 yi39 (fun yi40 yi41 yi42 =>
 (K yi40 yi41 yi42))))))))))))))))
 (a5 yi32 yi30 yi1 (fun yi43 =>
 (a1 yi43 yi1 (fun yi44 =>
 (cbr (decide (yi32≥yi44))
 (K (0:Int) (0:Int) (16:Int))
 (a6 yi32 yi30 yi44 (fun yi45 _ =>
 (asr (!(decide (yi1=(0:Int))))
 (asr (!(decide (yi44=(0:Int))))
 (a3 (IntKind.u64.wrap (Int.tdiv (IntKind.u64.wrap p1) yi1)) (IntKind.u64.wrap (Int.tdiv (IntKind.u64.wrap p3) yi44)) (fun yi47 yi48 =>
 (cbr (decide (yi47>(0:Int)))
 (K (0:Int) (0:Int) (16:Int))
 (a7 (!(decide (p0<(0:Int)))) yi45 yi48 (fun yi49 yi50 yi51 =>
 (K yi49 yi50 yi51))))))))))))))))))))
 (cbr (yi3 == yi6)
 (cbr (decide (yi4<yi7))
 (a8 yi7 yi4 (0:Int) (fun yi52 yi53 =>
 (a8 yi6 yi3 yi53 (fun yi54 _ =>
 (cbr (yi54 ==(0:Int))
 (cbr (yi52 ==(0:Int))
 (K (0:Int) (1:Int) (0:Int))
 (a5 yi54 yi52 yi1 (fun yi56 =>
 (a1 yi56 yi1 (fun yi57 =>
 (cbr (decide (yi54≥yi57))
 (K (0:Int) (0:Int) (16:Int))
 (a6 yi54 yi52 yi57 (fun yi58 _ =>
 (asr (!(decide (yi1=(0:Int))))
 (asr (!(decide (yi57=(0:Int))))
 (a3 (IntKind.u64.wrap (Int.tdiv (IntKind.u64.wrap p1) yi1)) (IntKind.u64.wrap (Int.tdiv (IntKind.u64.wrap p3) yi57)) (fun yi60 yi61 =>
 (cbr (decide (yi60>(0:Int)))
 (K (0:Int) (0:Int) (16:Int))
 (a7 (!(decide (p0<(0:Int)))) yi58 yi61 (fun yi62 yi63 yi64 =>
 (K yi62 yi63 yi64))))))))))))))))
 (a5 yi54 yi52 yi1 (fun yi65 =>
 (a1 yi65 yi1 (fun yi66 =>
 (cbr (decide (yi54≥yi66))
 (K (0:Int) (0:Int) (16:Int))
 (a6 yi54 yi52 yi66 (fun yi67 _ =>
 (asr (!(decide (yi1=(0:Int))))
 (asr (!(decide (yi66=(0:Int))))
 (a3 (IntKind.u64.wrap (Int.tdiv (IntKind.u64.wrap p1) yi1)) (IntKind.u64.wrap (Int.tdiv (IntKind.u64.wrap p3) yi66)) (fun yi69 yi70 =>
 (cbr (decide (yi69>(0:Int)))
 (K (0:Int) (0:Int) (16:Int))
 (a7 (!(decide (p0<(0:Int)))) yi67 yi70 (fun yi71 yi72 yi73 =>
 (K yi71 yi72 yi73))))))))))))))))))))
 (a8 yi4 yi7 (0:Int) (fun yi74 yi75 =>
 (a8 yi3 yi6 yi75 (fun yi76 _ =>
 (cbr (yi76 ==(0:Int))
 (cbr (yi74 ==(0:Int))
 (K (0:Int) (1:Int) (0:Int))
 (a5 yi76 yi74 yi1 (fun yi78 =>
 (a1 yi78 yi1 (fun yi79 =>
 (cbr (decide (yi76≥yi79))
 (K (0:Int) (0:Int) (16:Int))
 (a6 yi76 yi74 yi79 (fun yi80 _ =>
 (asr (!(decide (yi1=(0:Int))))
 (asr (!(decide (yi79=(0:Int))))
 (a3 (IntKind.u64.wrap (Int.tdiv (IntKind.u64.wrap p1) yi1)) (IntKind.u64.wrap (Int.tdiv (IntKind.u64.wrap p3) yi79)) (fun yi82 yi83 =>
 (cbr (decide (yi82>(0:Int)))
 (K (0:Int) (0:Int) (16:Int))
 (a7 (decide (p0<(0:Int))) yi80 yi83 (fun yi84 yi85 yi86 =>
 (K yi84 yi85 yi86))))))))))))))))
 (a5 yi76 yi74 yi1 (fun yi87 =>
 (a1 yi87 yi1 (fun yi88 =>
 (cbr (decide (yi76≥yi88))
 (K (0:Int) (0:Int) (16:Int))
 (a6 yi76 yi74 yi88 (fun yi89 _ =>
 (asr (!(decide (yi1=(0:Int))))
 (asr (!(decide (yi88=(0:Int))))
 (a3 (IntKind.u64.wrap (Int.tdiv (IntKind.u64.wrap p1) yi1)) (IntKind.u64.wrap (Int.tdiv (IntKind.u64.wrap p3) yi88)) (fun yi91 yi92 =>
 (cbr (decide (yi91>(0:Int)))
 (K (0:Int) (0:Int) (16:Int))
 (a7 (decide (p0<(0:Int))) yi89 yi92 (fun yi93 yi94 yi95 =>
 (K yi93 yi94 yi95)))))))))))))))))))))
 (a8 yi4 yi7 (0:Int) (fun yi96 yi97 =>
 (a8 yi3 yi6 yi97 (fun yi98 _ =>
 (cbr (yi98 ==(0:Int))
 (cbr (yi96 ==(0:Int))
 (K (0:Int) (1:Int) (0:Int))
 (a5 yi98 yi96 yi1 (fun yi100 =>
 (a1 yi100 yi1 (fun yi101 =>
 (cbr (decide (yi98≥yi101))
 (K (0:Int) (0:Int) (16:Int))
 (a6 yi98 yi96 yi101 (fun yi102 _ =>
 (asr (!(decide (yi1=(0:Int))))
 (asr (!(decide (yi101=(0:Int))))
 (a3 (IntKind.u64.wrap (Int.tdiv (IntKind.u64.wrap p1) yi1)) (IntKind.u64.wrap (Int.tdiv (IntKind.u64.wrap p3) yi101)) (fun yi104 yi105 =>
 (cbr (decide (yi104>(0:Int)))
 (K (0:Int) (0:Int) (16:Int))
 (a7 (decide (p0<(0:Int))) yi102 yi105 (fun yi106 yi107 yi108 =>
 (K yi106 yi107 yi108))))))))))))))))
 (a5 yi98 yi96 yi1 (fun yi109 =>
 (a1 yi109 yi1 (fun yi110 =>
 (cbr (decide (yi98≥yi110))
 (K (0:Int) (0:Int) (16:Int))
 (a6 yi98 yi96 yi110 (fun yi111 _ =>
 (asr (!(decide (yi1=(0:Int))))
 (asr (!(decide (yi110=(0:Int))))
 (a3 (IntKind.u64.wrap (Int.tdiv (IntKind.u64.wrap p1) yi1)) (IntKind.u64.wrap (Int.tdiv (IntKind.u64.wrap p3) yi110)) (fun yi113 yi114 =>
 (cbr (decide (yi113>(0:Int)))
 (K (0:Int) (0:Int) (16:Int))
 (a7 (decide (p0<(0:Int))) yi111 yi114 (fun yi115 yi116 yi117 =>
 (K yi115 yi116 yi117))))))))))))))))))))))))))))))))))))))
def yaj (p0 p1 p2 p3:Int) (K:Int→Int→Int→Prop):Prop:=ynb ybf ybh ybq ydr yhs ygG yeR ybb yht p0 p1 p2 p3 K
def yeu (w:yaz) (as:List PV) (K:PV→Prop):Prop :=
 match as with
 | [(.agg [(.int .i64 p0),(.int .i64 p1)]),(.agg [(.int .i64 p2),(.int .i64 p3)])]=>w p0 p1 p2 p3 (fun r0 r1 r2=>K (.tup [(.agg [(.int .i64 r0),(.int .i64 r1)]),(.int .i64 r2)]))
 | _=>False
def yso (as:List PV) (K:PV→Prop):Prop:=yeu yaj as K
def yAu (_:yaR) (_:ybK) (_:ya0) (_:yeP) (_:yt3) (_:ypw) (_:yhF) (_:ybz) (_:yt4):LP:=fun _ _ _ _ =>
 False
def ysp (e:List (Nat×EffF)) (a0:yaR) (a1:ybK) (a2:ya0) (a3:yeP) (a4:yt3) (a5:ypw) (a6:yhF) (a7:ybz) (a8:yt4):SE:=⟨(E e),lookS [(ybd,ydn a0),(ybG,yfI a1),(yaP,ydM a2),(ydc,ykB a3),(ygz,yq6 a4),(ymx,yrq a5),(yhu,yna a6),(yca,yeK a7),(ygA,yq8 a8)],lookI [],yAu a0 a1 a2 a3 a4 a5 a6 a7 a8⟩
theorem yys (e:List (Nat×EffF)) (he:EG e):SEOk (ysp e ybf ybh ybq ydr yhs ygG yeR ybb yht):=yag ⟨(yfp e he),(yjr e he),(yf9 e he),(yrl e he),(yEA e he),(yEK e he),(yw1 e he),(yiR e he),(yEB e he),trivial⟩ trivial he.ok
theorem yAv (e:List (Nat×EffF)) (a0 a1 a2 a3 a4 a5 a6 a7 a8 p0 p1 p2 p3 K):WP (ysp e a0 a1 a2 a3 a4 a5 a6 a7 a8) 6 yCp [(.agg [(.int .i64 p0),(.int .i64 p1)]),(.agg [(.int .i64 p2),(.int .i64 p3)])] K=ynb a0 a1 a2 a3 a4 a5 a6 a7 a8 p0 p1 p2 p3 (fun r0 r1 r2=>K (.tup [(.agg [(.int .i64 r0),(.int .i64 r1)]),(.int .i64 r2)])):=by kernel_rfl
theorem yfJ (e:List (Nat×EffF)) (he:EG e):OkF (E e) yso ycg:=by
 intro as K h
 unfold yso yeu at h
 split at h
 · exact WP_ok (yys e he) (yaf (by kernel_rfl)) (by kernel_rfl) (by kernel_rfl) (fun _=>yab (by kernel_rfl) _) (he.num _ (by kernel_rfl)) ((yAv ..).mpr h)
 · exact h.elim
abbrev yas:Type:=Int→Int→Int→Int→(Int→Int→Int→Prop)→Prop
def ync (a0:yaR) (a1:yaz) (p0 p1 p2 p3:Int) (K:Int→Int→Int→Prop):Prop :=
 (a0 p0 p1 p2 p3 (fun yi0 =>
 (cbr (yi0 !=(0:Int))
 (K (0:Int) (0:Int) yi0)
 (a1 p0 p1 (IntKind.i64.wrap ((0:Int)-p2)) p3 (fun yi1 yi2 yi3 =>
 (K yi1 yi2 yi3))))))
def yah (p0 p1 p2 p3:Int) (K:Int→Int→Int→Prop):Prop:=ync ybf yaj p0 p1 p2 p3 K
def ydF (w:yas) (as:List PV) (K:PV→Prop):Prop :=
 match as with
 | [(.agg [(.int .i64 p0),(.int .i64 p1)]),(.agg [(.int .i64 p2),(.int .i64 p3)])]=>w p0 p1 p2 p3 (fun r0 r1 r2=>K (.tup [(.agg [(.int .i64 r0),(.int .i64 r1)]),(.int .i64 r2)]))
 | _=>False
def ysq (as:List PV) (K:PV→Prop):Prop:=ydF yah as K
def yAw (_:yaR) (_:yaz):LP:=fun _ _ _ _ =>
 False
def ysr (e:List (Nat×EffF)) (a0:yaR) (a1:yaz):SE:=⟨(E e),lookS [(ybd,ydn a0),(ycg,yeu a1)],lookI [],yAw a0 a1⟩
theorem yyt (e:List (Nat×EffF)) (he:EG e):SEOk (ysr e ybf yaj):=yag ⟨(yfp e he),(yfJ e he),trivial⟩ trivial he.ok
theorem yAx (e:List (Nat×EffF)) (a0 a1 p0 p1 p2 p3 K):WP (ysr e a0 a1) 6 yCq [(.agg [(.int .i64 p0),(.int .i64 p1)]),(.agg [(.int .i64 p2),(.int .i64 p3)])] K=ync a0 a1 p0 p1 p2 p3 (fun r0 r1 r2=>K (.tup [(.agg [(.int .i64 r0),(.int .i64 r1)]),(.int .i64 r2)])):=by kernel_rfl
theorem yev (e:List (Nat×EffF)) (he:EG e):OkF (E e) ysq ybg:=by
 intro as K h
 unfold ysq ydF at h
 split at h
 · exact WP_ok (yyt e he) (yaf (by kernel_rfl)) (by kernel_rfl) (by kernel_rfl) (fun _=>yab (by kernel_rfl) _) (he.num _ (by kernel_rfl)) ((yAx ..).mpr h)
 · exact h.elim
abbrev yaA:Type:=Int→Int→Int→Int→(Int→Int→Int→Prop)→Prop
def ynd (a0:yaR) (a1:ya0) (a2:ybK) (a3:yeP) (a4:ybz) (p0 p1 p2 p3:Int) (K:Int→Int→Int→Prop):Prop :=
 (a0 p0 p1 p2 p3 (fun yi0 =>
 (cbr (yi0 !=(0:Int))
 (K (0:Int) (0:Int) yi0)
 (a1 p0 (fun yi1 =>
 (a1 p2 (fun yi2 =>
 (a2 yi1 (IntKind.u64.wrap p3) (fun yi3 =>
 (a2 yi2 (IntKind.u64.wrap p1) (fun yi4 =>
 (asr (!(decide (yi3=(0:Int))))
 (asr (!(decide (yi4=(0:Int))))
 (a3 (IntKind.u64.wrap (Int.tdiv yi1 yi3)) (IntKind.u64.wrap (Int.tdiv yi2 yi4)) (fun yi5 yi6 =>
 (asr (!(decide (yi4=(0:Int))))
 (asr (!(decide (yi3=(0:Int))))
 (a3 (IntKind.u64.wrap (Int.tdiv (IntKind.u64.wrap p1) yi4)) (IntKind.u64.wrap (Int.tdiv (IntKind.u64.wrap p3) yi3)) (fun yi7 yi8 =>
 (cbr (decide ((IntKind.u64.wrap (yi5+yi7))>(0:Int)))
 (K (0:Int) (0:Int) (16:Int))
 (cbr (decide (yi6>(0:Int)))
 (a4 ((decide (p0<(0:Int))) !=(decide (p2<(0:Int)))) yi6 yi8 (fun yi9 yi10 yi11 =>
 (K yi9 yi10 yi11)))
 (a4 false yi6 yi8 (fun yi12 yi13 yi14 =>
 (K yi12 yi13 yi14))))))))))))))))))))))))
def yak (p0 p1 p2 p3:Int) (K:Int→Int→Int→Prop):Prop:=ynd ybf ybq ybh ydr ybb p0 p1 p2 p3 K
def yew (w:yaA) (as:List PV) (K:PV→Prop):Prop :=
 match as with
 | [(.agg [(.int .i64 p0),(.int .i64 p1)]),(.agg [(.int .i64 p2),(.int .i64 p3)])]=>w p0 p1 p2 p3 (fun r0 r1 r2=>K (.tup [(.agg [(.int .i64 r0),(.int .i64 r1)]),(.int .i64 r2)]))
 | _=>False
def yss (as:List PV) (K:PV→Prop):Prop:=yew yak as K
def yAy (_:yaR) (_:ya0) (_:ybK) (_:yeP) (_:ybz):LP:=fun _ _ _ _ =>
 False
def yst (e:List (Nat×EffF)) (a0:yaR) (a1:ya0) (a2:ybK) (a3:yeP) (a4:ybz):SE:=⟨(E e),lookS [(ybd,ydn a0),(yaP,ydM a1),(ybG,yfI a2),(ydc,ykB a3),(yca,yeK a4)],lookI [],yAy a0 a1 a2 a3 a4⟩
theorem yyu (e:List (Nat×EffF)) (he:EG e):SEOk (yst e ybf ybq ybh ydr ybb):=yag ⟨(yfp e he),(yf9 e he),(yjr e he),(yrl e he),(yiR e he),trivial⟩ trivial he.ok
theorem yAz (e:List (Nat×EffF)) (a0 a1 a2 a3 a4 p0 p1 p2 p3 K):WP (yst e a0 a1 a2 a3 a4) 6 yCr [(.agg [(.int .i64 p0),(.int .i64 p1)]),(.agg [(.int .i64 p2),(.int .i64 p3)])] K=ynd a0 a1 a2 a3 a4 p0 p1 p2 p3 (fun r0 r1 r2=>K (.tup [(.agg [(.int .i64 r0),(.int .i64 r1)]),(.int .i64 r2)])):=by kernel_rfl
theorem yfK (e:List (Nat×EffF)) (he:EG e):OkF (E e) yss ybI:=by
 intro as K h
 unfold yss yew at h
 split at h
 · exact WP_ok (yyu e he) (yaf (by kernel_rfl)) (by kernel_rfl) (by kernel_rfl) (fun _=>yab (by kernel_rfl) _) (he.num _ (by kernel_rfl)) ((yAz ..).mpr h)
 · exact h.elim
abbrev ya5:Type:=Int→Int→Int→Int→(Int→Int→Int→Prop)→Prop
def yne (a0:yaR) (a1:yaA) (p0 p1 p2 p3:Int) (K:Int→Int→Int→Prop):Prop :=
 (a0 p0 p1 p2 p3 (fun yi0 =>
 (cbr (yi0 !=(0:Int))
 (K (0:Int) (0:Int) yi0)
 (cbr (p2 ==(0:Int))
 (K (0:Int) (0:Int) (18:Int))
 (cbr (decide (p2<(0:Int)))
 (a1 p0 p1 (IntKind.i64.wrap ((0:Int)-p3)) (IntKind.i64.wrap ((0:Int)-p2)) (fun yi1 yi2 yi3 =>
 (K yi1 yi2 yi3)))
 (a1 p0 p1 p3 p2 (fun yi4 yi5 yi6 =>
 (K yi4 yi5 yi6))))))))
def yar (p0 p1 p2 p3:Int) (K:Int→Int→Int→Prop):Prop:=yne ybf yak p0 p1 p2 p3 K
def ygV (w:ya5) (as:List PV) (K:PV→Prop):Prop :=
 match as with
 | [(.agg [(.int .i64 p0),(.int .i64 p1)]),(.agg [(.int .i64 p2),(.int .i64 p3)])]=>w p0 p1 p2 p3 (fun r0 r1 r2=>K (.tup [(.agg [(.int .i64 r0),(.int .i64 r1)]),(.int .i64 r2)]))
 | _=>False
def ysu (as:List PV) (K:PV→Prop):Prop:=ygV yar as K
def yAA (_:yaR) (_:yaA):LP:=fun _ _ _ _ =>
 False
def ysv (e:List (Nat×EffF)) (a0:yaR) (a1:yaA):SE:=⟨(E e),lookS [(ybd,ydn a0),(ybI,yew a1)],lookI [],yAA a0 a1⟩
theorem yyv (e:List (Nat×EffF)) (he:EG e):SEOk (ysv e ybf yak):=yag ⟨(yfp e he),(yfK e he),trivial⟩ trivial he.ok
theorem yAB (e:List (Nat×EffF)) (a0 a1 p0 p1 p2 p3 K):WP (ysv e a0 a1) 6 yCs [(.agg [(.int .i64 p0),(.int .i64 p1)]),(.agg [(.int .i64 p2),(.int .i64 p3)])] K=yne a0 a1 p0 p1 p2 p3 (fun r0 r1 r2=>K (.tup [(.agg [(.int .i64 r0),(.int .i64 r1)]),(.int .i64 r2)])):=by kernel_rfl
theorem yjv (e:List (Nat×EffF)) (he:EG e):OkF (E e) ysu yeg:=by
 intro as K h
 unfold ysu ygV at h
 split at h
 · exact WP_ok (yyv e he) (yaf (by kernel_rfl)) (by kernel_rfl) (by kernel_rfl) (fun _=>yab (by kernel_rfl) _) (he.num _ (by kernel_rfl)) ((yAB ..).mpr h)
 · exact h.elim
end Go.Pf.Vc
namespace Go.Pf.Vc
open Go Go.Pf
set_option linter.unusedVariables false
theorem yw4 (p0:Int) (p1:Int) (r0:Int) (r1:Int) (r2:Int) (h:∀ K:Int→Int→Int→Prop,K r0 r1 r2→ydC p0 p1 K) (K:Int→Int→Int→Prop):ydC p0 p1 K=K r0 r1 r2 :=
 propext ⟨fun k=>detC (yqs [] yaT) (as:=[(.int .i64 p0),(.int .i64 p1)]) (x:=(.tup [(.agg [(.int .i64 r0),(.int .i64 r1)]),(.int .i64 r2)])) (fun K' k'=>h (fun r0 r1 r2=>K' (.tup [(.agg [(.int .i64 r0),(.int .i64 r1)]),(.int .i64 r2)])) k') (K:=fun x=>match x with | (.tup [(.agg [(.int .i64 r0),(.int .i64 r1)]),(.int .i64 r2)])=>K r0 r1 r2 | _=>False) k,h K⟩
theorem yvH (p0:Int) (p1:Int) (r0:Int) (h:∀ K:Int→Prop,K r0→yaL p0 p1 K) (K:Int→Prop):yaL p0 p1 K=K r0 :=
 propext ⟨fun k=>detC (yfo [] yaT) (as:=[(.agg [(.int .i64 p0),(.int .i64 p1)])]) (x:=(.int .i64 r0)) (fun K' k'=>h (fun r0=>K' (.int .i64 r0)) k') (K:=fun x=>match x with | (.int .i64 r0)=>K r0 | _=>False) k,h K⟩
theorem yyw (p0:Int) (p1:Int) (p2:Int) (p3:Int) (r0:Int) (r1:Int) (h:∀ K:Int→Int→Prop,K r0 r1→yc6 p0 p1 p2 p3 K) (K:Int→Int→Prop):yc6 p0 p1 p2 p3 K=K r0 r1 :=
 propext ⟨fun k=>detC (ym9 [] yaT) (as:=[(.agg [(.int .i64 p0),(.int .i64 p1)]),(.agg [(.int .i64 p2),(.int .i64 p3)])]) (x:=(.tup [(.int .i64 r0),(.int .i64 r1)])) (fun K' k'=>h (fun r0 r1=>K' (.tup [(.int .i64 r0),(.int .i64 r1)])) k') (K:=fun x=>match x with | (.tup [(.int .i64 r0),(.int .i64 r1)])=>K r0 r1 | _=>False) k,h K⟩
end Go.Pf.Vc
