/- The statement, out of what its function answers. -/
import Derived.Test.YtegkpannhahmcaaGreatDoorCfJoin
namespace Go.Proofs.YtegkpannhahmcaaGreatDoor.Cf
open Go Go.Pf Go.Pf.Vc Go.ChangeShapes Go.WideShapes Go.ChangeAt Go.RowKit Go.Shelf Go.Sort Go.Lib Go.Proofs
set_option maxRecDepth 100000
theorem answers (xs:List PV) (h:HasAs [.s dsC,.i .i64] xs):SumOk Tryz.prog (E ef0).glob 3 xs (.bool true):=by
  obtain ⟨l,n,rfl,hl,_,_⟩:=yOq h
  obtain ⟨r,hr,ha⟩:=yxY [.data (cks l),.int .i64 n] (fun r=>r=.bool true) (show yie (cks l) n (fun r=>PV.bool r=.bool true) by
    have h2:=yD0 hl n
    simpa using h2)
  subst hr
  exact yKk kS hm (by kernel_rfl) (by kernel_rfl) ha
theorem rows:∀ t∈Tryz.f3.params.toList,t<Tryz.prog.types.size:=fun t ht =>
  of_decide_eq_true (List.all_eq_true.1 (show (Tryz.f3.params.toList.all fun t=>decide (t<Tryz.prog.types.size))=true by kernel_rfl) t ht)
theorem own:ownKnob Tryz.prog.godebug=none:=by kernel_rfl
theorem kids:Kids Tryz.prog (·<Tryz.prog.types.size):=kids_rows (by kernel_rfl) (by kernel_rfl)
theorem full:∀ t e,t<Tryz.prog.types.size→Tryz.prog.underlying t=some (.slice e)→0<Tryz.prog.cellsOf e:=slices_full_of Tryz.prog (by kernel_rfl)
theorem yOX {n:Nat} {x:PV} (h:(E ef0).glob n=some x):n=0∧x=.agg [.int .i64 0,.int .i64 1]:=by
  have h2:(bif Nat.beq 0 n then some (PV.agg [.int .i64 0,.int .i64 1]) else none)=some x:=h
  cases e:Nat.beq 0 n with
  | true =>
    rw [e] at h2
    exact ⟨(Nat.eq_of_beq_eq_true e).symm,(Option.some.inj h2).symm⟩
  | false=>rw [e] at h2;cases h2
theorem yMf {W:World} {I:Nat→Prop} (h:laidMetH Tryz.prog Rows.chooseFairRow.laid W) (hI:I 0):GlobOk (E ef0).glob I W:=by
  rw [MakeChecks.laidMetH_plain _ _ _ (by kernel_rfl)] at h
  obtain ⟨ps,⟨g,t,cs,fuel,p,q,hg,ht,hv,hd,_,_⟩,_,_⟩:=h
  obtain rfl := Option.some.inj ((show Tryz.prog.globalNamed "parcener/choose.zero" = some 0 by kernel_rfl).symm.trans hg)
  obtain rfl:=Option.some.inj ((show (Tryz.prog.globals[0]?).map (·.type)=some 44 by kernel_rfl).symm.trans ht)
  obtain ⟨y0,y1,m,ex,hl,h0,h1⟩:=trod_struct2 Tryz.underlying44 hd
  have c1:Tryz.prog.cellsOf 2=1:=by kernel_rfl
  have c2:Tryz.prog.cellsOf 44=2:=by kernel_rfl
  rw [c2] at hl
  have hcs:∃ a b,cs.toList=[a,b]:=by
    match hc:cs.toList with
    | [a,b]=>exact ⟨a,b,rfl⟩
    | []=>rw [hc] at hl;cases hl
    | [a]=>rw [hc] at hl;cases hl
    | a::b::c::r=>rw [hc] at hl;simp at hl
  obtain ⟨a,b,hcs⟩:=hcs
  rw [hcs] at h0 h1
  obtain ⟨z0,e0,f0,_⟩:=DataW.trod_int Tryz.underlying2 h0
  obtain ⟨z1,e1,f1,_⟩:=DataW.trod_int Tryz.underlying2 h1
  rw [f0,f1] at ex
  have ex2:=(DataW.agg.inj (Prod.mk.inj ex).1)
  simp only [List.cons.injEq,DataW.lit.injEq,Lit.int.injEq,true_and,and_true] at ex2
  obtain ⟨rfl,rfl⟩:=ex2
  have ea:a=.int .i64 0:=by
    have h3:[a]=[Value.int .i64 0]:=e0
    simpa using h3
  have eb:b=.int .i64 1:=by
    have h3:[b]=[Value.int .i64 1]:=e1
    simpa using h3
  subst ea;subst eb
  intro n x hx
  obtain ⟨rfl,rfl⟩:=yOX hx
  refine ⟨hI,[.int .i64 0,.int .i64 1],by decide,?_,?_⟩
  · simp only [RC,CellsC]
    exact ⟨_,_,rfl,rfl,⟨rfl,by decide,by decide⟩,_,_,rfl,rfl,⟨rfl,by decide,by decide⟩,rfl⟩
  · intro j u hu
    rw [World.var?_cell hg hv (0+j),Nat.zero_add,← Array.getElem?_toList,hcs]
    exact hu
theorem lifted (os:Os) (started:os.Started) (H:Type) (enc:TypeId×Value→H) :
    ReturnsInHanded {} Tryz.checked os 3 .any (fun w args=>(Rows.chooseFairSpec.pre enc Tryz.prog Tryz.f3 Rows.chooseFairRow.domain false w args∧laidMetH Tryz.prog Rows.chooseFairRow.laid w)∧sizedMet enc Tryz.prog Tryz.f3 (OpenSpec.ofChange Rows.chooseFairSpec) false w args)
      (Rows.chooseFairSpec.post enc Tryz.prog Tryz.f3 false true false false):=by
  refine returnsInHanded_of_change_and (C:=Tryz.checked) (X:=fun w _=>laidMetH Tryz.prog Rows.chooseFairRow.laid w) (fun _ _ _ hh h=>h.of_heap hh) own started (by kernel_rfl) Tryz.func3
    (ChangeSpec.witness_shaped (enc:=enc) (C:=Tryz.checked) (os:=os) (X:=fun w _=>laidMetH Tryz.prog Rows.chooseFairRow.laid w) false (World.laidAll Tryz.prog os Rows.chooseFairRow.laid) #[.slice none 0 0,.int .i64 0] 8 (World.laidAll_os _ _ _)
      (World.shaped_of_ZipB (by kernel_rfl) (by kernel_rfl)) (by kernel_rfl) (by kernel_rfl) (by kernel_rfl)
      (by rw [MakeChecks.laidMetH_plain _ _ _ (by kernel_rfl)];exact laidMet_laidAll _ (by kernel_rfl) (by kernel_rfl))) ?_
  intro W base args ds gs before hval hW _ _ hL _
  have hlt:∀ b,b=0→b<W.heap.size:=by
    rintro b rfl
    have h:=hL
    rw [MakeChecks.laidMetH_plain _ _ _ (by kernel_rfl)] at h
    obtain ⟨ps,⟨g,t,cs,fuel,p,q,hg,_,hv,_,_,_⟩,_,_⟩:=h
    obtain rfl := Option.some.inj ((show Tryz.prog.globalNamed "parcener/choose.zero" = some 0 by kernel_rfl).symm.trans hg)
    simp only [World.var?,hg,Option.bind_some] at hv
    split at hv
    · rename_i hh
      exact (Array.getElem?_eq_some_iff.1 hh).1
    · cases hv
  exact yMF kids full (dss:=[.s dsC,.i .i64]) (bt:=4) (by kernel_rfl) rows Tryz.func3 (by kernel_rfl) (by kernel_rfl) rfl (fun ds h=>by match ds,h with | [d,d2],_=>rfl) (by kernel_rfl) Tryz.underlying4
    answers hval hW (fun b=>b=0) hlt (yMf hL (.inr rfl))
theorem yMg:Rows.ChooseFairSaid :=
  OpenClaim.holds_of_wide 3 Tryz.f3 rfl rfl rfl rfl rfl rfl rfl ⟨rfl,rfl,rfl,rfl,rfl⟩ rfl rfl rfl rfl rfl (by kernel_rfl) Tryz.func3 (by kernel_rfl)
    (of_decide_eq_true (by kernel_rfl)) (by unfold Func.isWrapper;first | (rw [if_pos (by decide +kernel)];kernel_rfl) | (rw [if_neg (by decide +kernel)];exact ⟨rfl,rfl⟩))
    (fun os started H enc _=>lifted os started H enc)
theorem proved:Rows.ChooseFairCardSaid :=
  Claim7.holds_tied_plain_at .later [] [.data] true (true, "f510ebbd879baa0dbaa9fb64895fca7b640c1bf2c1a6dd49f11660984da86458") false yMg (fun _ h => by cases h) (by kernel_rfl) (fun _ h => by cases h) chooseFair_row_tie rfl ⟨rfl, rfl⟩ (by kernel_rfl) rfl
    (fun f fn hf hfn=>by
      obtain rfl : f = 3 := Option.some.inj ((show Tryz.prog.funcNamed "parcener/parcenerlaw07.ChooseFair" = some 3 by kernel_rfl).symm.trans hf) |>.symm
      obtain rfl:fn=Tryz.f3:=(Option.some.inj (Tryz.func3.symm.trans hfn)).symm
      exact ⟨by kernel_rfl,fun j t ht=>by
        rw [Tryz.params3] at ht
        have hm:t∈[22,3]:=by simpa using Array.mem_of_getElem? ht
        have hall:([22,3].all fun u=>!Tryz.prog.wantsStandIn u)=true:=by kernel_rfl
        exact (show Tryz.prog.wantsStandIn t=false by simpa using List.all_eq_true.1 hall t hm)⟩)
    (by kernel_rfl)
#print axioms proved
end Go.Proofs.YtegkpannhahmcaaGreatDoor.Cf
