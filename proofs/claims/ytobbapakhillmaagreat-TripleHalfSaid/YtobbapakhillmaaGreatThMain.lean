/- Part 8. -/
import Derived.Test.YtobbapakhillmaaGreatThJoin
namespace Go.Proofs.YtobbapakhillmaaGreat.Th
open Go Go.Pf Go.Pf.Vc Go.ChangeShapes Go.WideShapes Go.ChangeAt Go.RowKit Go.Shelf Go.Sort Go.Lib Go.Proofs
set_option maxRecDepth 100000
theorem yGV (xs:List PV) (h:ysT [.s dsC] xs):ylp Tryz.prog (E ef0).glob 5 xs (.bool true):=by
 obtain ⟨l,rfl,hl,_⟩:=yLS h
 obtain ⟨r,hr,ha⟩:=ytO [.data (cks l)] (fun r=>r=.bool true) (show yfC (cks l) (fun r=>PV.bool r=.bool true) by
  have h2:=yzD hl
  simpa using h2)
 subst hr
 exact yGc kS hm (by kernel_rfl) (by kernel_rfl) ha.solo
theorem rows:∀ t∈Tryz.f5.params.toList,t<Tryz.prog.types.size:=fun t ht =>
 of_decide_eq_true (List.all_eq_true.1 (show (Tryz.f5.params.toList.all fun t=>decide (t<Tryz.prog.types.size))=true by kernel_rfl) t ht)
theorem own:ownKnob Tryz.prog.godebug=none:=by kernel_rfl
theorem kids:Kids Tryz.prog (·<Tryz.prog.types.size):=kids_rows (by kernel_rfl) (by kernel_rfl)
theorem full:∀ t e,t<Tryz.prog.types.size→Tryz.prog.underlying t=some (.slice e)→0<Tryz.prog.cellsOf e:=slices_full_of Tryz.prog (by kernel_rfl)
theorem yLC (os:Os) (started:os.Started) (H:Type) (enc:TypeId×Value→H) :
  ReturnsInHanded {} Tryz.checked os 5 .any (Rows.tripleHalfSpec.pre6 enc Tryz.prog Tryz.f5 Rows.tripleHalfRow.domain false) (Rows.tripleHalfSpec.post enc Tryz.prog Tryz.f5 false true false false):=by
 refine returnsInHanded_of_change (C:=Tryz.checked) own started (by kernel_rfl) Tryz.func5
  (ChangeSpec.witness6 (enc:=enc) (C:=Tryz.checked) false ⟨#[],#[.slice none 0 0],[]⟩ 8 (by kernel_rfl) (by kernel_rfl) (by kernel_rfl) (by kernel_rfl)) ?_
 intro W base args ds gs before hval hW _ _
 exact yIJ kids full (dss:=[.s dsC]) (bt:=4) (by kernel_rfl) rows Tryz.func5 (by kernel_rfl) (by kernel_rfl) rfl (fun ds h=>by match ds,h with | [d],_=>rfl) (by kernel_rfl) Tryz.underlying4
  yGV hval hW (fun _=>False) (fun _ h=>h.elim) (fun n x h=>by have h:(none:Option PV)=some x:=h;cases h)
theorem yH5:Rows.TripleHalfSaid :=
 OpenClaim.holds_of_wide 5 Tryz.f5 rfl rfl rfl rfl rfl rfl rfl ⟨rfl,rfl,rfl,rfl,rfl⟩ rfl rfl rfl rfl rfl (by kernel_rfl) Tryz.func5 (by kernel_rfl)
  (of_decide_eq_true (by kernel_rfl)) (by unfold Func.isWrapper;first | (rw [if_pos (by decide +kernel)];kernel_rfl) | (rw [if_neg (by decide +kernel)];exact ⟨rfl,rfl⟩))
  (fun os started H enc _=>yLC os started H enc)
theorem proved:Rows.TripleHalfSaid:=yH5
#print axioms proved
end Go.Proofs.YtobbapakhillmaaGreat.Th
