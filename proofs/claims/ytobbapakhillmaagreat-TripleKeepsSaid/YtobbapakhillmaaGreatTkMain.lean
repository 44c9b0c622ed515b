/- Part 8. -/
import Derived.Test.YtobbapakhillmaaGreatTkJoin
namespace Go.Proofs.YtobbapakhillmaaGreat.Tk
open Go Go.Pf Go.Pf.Vc Go.ChangeShapes Go.WideShapes Go.ChangeAt Go.RowKit Go.Shelf Go.Sort Go.Lib Go.Proofs
set_option maxRecDepth 100000
theorem yG9 (xs:List PV) (h:ysR [.s dsC] xs):yll Tryz.prog (E ef0).glob 6 xs (.bool true):=by
 obtain ⟨l,rfl,hl,_⟩:=yLY h
 obtain ⟨r,hr,ha⟩:=ysj [.data (cks l)] (fun r=>r=.bool true) (show yeL (cks l) (fun r=>PV.bool r=.bool true) by
  have h2:=yzf hl
  simpa using h2)
 subst hr
 exact yGj kS hm (by kernel_rfl) (by kernel_rfl) ha.solo
theorem rows:∀ t∈Tryz.f6.params.toList,t<Tryz.prog.types.size:=fun t ht =>
 of_decide_eq_true (List.all_eq_true.1 (show (Tryz.f6.params.toList.all fun t=>decide (t<Tryz.prog.types.size))=true by kernel_rfl) t ht)
theorem own:ownKnob Tryz.prog.godebug=none:=by kernel_rfl
theorem kids:Kids Tryz.prog (·<Tryz.prog.types.size):=kids_rows (by kernel_rfl) (by kernel_rfl)
theorem full:∀ t e,t<Tryz.prog.types.size→Tryz.prog.underlying t=some (.slice e)→0<Tryz.prog.cellsOf e:=slices_full_of Tryz.prog (by kernel_rfl)
theorem yLJ (os:Os) (started:os.Started) (H:Type) (enc:TypeId×Value→H) :
  ReturnsInHanded {} Tryz.checked os 6 .any (Rows.tripleKeepsSpec.pre6 enc Tryz.prog Tryz.f6 Rows.tripleKeepsRow.domain false) (Rows.tripleKeepsSpec.post enc Tryz.prog Tryz.f6 false true false false):=by
 refine returnsInHanded_of_change (C:=Tryz.checked) own started (by kernel_rfl) Tryz.func6
  (ChangeSpec.witness6 (enc:=enc) (C:=Tryz.checked) false ⟨#[],#[.slice none 0 0],[]⟩ 8 (by kernel_rfl) (by kernel_rfl) (by kernel_rfl) (by kernel_rfl)) ?_
 intro W base args ds gs before hval hW _ _
 exact yIX kids full (dss:=[.s dsC]) (bt:=4) (by kernel_rfl) rows Tryz.func6 (by kernel_rfl) (by kernel_rfl) rfl (fun ds h=>by match ds,h with | [d],_=>rfl) (by kernel_rfl) Tryz.underlying4
  yG9 hval hW (fun _=>False) (fun _ h=>h.elim) (fun n x h=>by have h:(none:Option PV)=some x:=h;cases h)
theorem yIj:Rows.TripleKeepsSaid :=
 OpenClaim.holds_of_wide 6 Tryz.f6 rfl rfl rfl rfl rfl rfl rfl ⟨rfl,rfl,rfl,rfl,rfl⟩ rfl rfl rfl rfl rfl (by kernel_rfl) Tryz.func6 (by kernel_rfl)
  (of_decide_eq_true (by kernel_rfl)) (by unfold Func.isWrapper;first | (rw [if_pos (by decide +kernel)];kernel_rfl) | (rw [if_neg (by decide +kernel)];exact ⟨rfl,rfl⟩))
  (fun os started H enc _=>yLJ os started H enc)
theorem proved:Rows.TripleKeepsSaid:=yIj
#print axioms proved
end Go.Proofs.YtobbapakhillmaaGreat.Tk
