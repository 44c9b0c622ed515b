/- Part 9. -/
import Derived.Test.YtobbapakhillmaaGreatTpJoin
namespace Go.Proofs.YtobbapakhillmaaGreat.Tp
open Go Go.Pf Go.Pf.Vc Go.ChangeShapes Go.WideShapes Go.ChangeAt Go.RowKit Go.Shelf Go.Sort Go.Lib Go.Proofs
set_option maxRecDepth 100000
theorem yKG (xs:List PV) (h:ywb [.s dsC] xs):yok Tryz.prog (E ef0).glob 8 xs (.bool true):=by
 obtain ⟨l,rfl,hl,_⟩:=yPZ h
 obtain ⟨r,hr,ha⟩:=yxk [.data (cks l)] (fun r=>r=.bool true) (show yhg (cks l) (fun r=>PV.bool r=.bool true) by
  have h2:=yEb hl
  simpa using h2)
 subst hr
 exact yFK kS hm (by kernel_rfl) (by kernel_rfl) ha.solo
theorem rows:∀ t∈Tryz.f8.params.toList,t<Tryz.prog.types.size:=fun t ht =>
 of_decide_eq_true (qCa.1 (show (Tryz.f8.params.toList.all fun t=>decide (t<Tryz.prog.types.size))=true by kernel_rfl) t ht)
theorem own:ownKnob Tryz.prog.godebug=none:=by kernel_rfl
theorem kids:Kids Tryz.prog (·<Tryz.prog.types.size):=kids_rows (by kernel_rfl) (by kernel_rfl)
theorem full:∀ t e,t<Tryz.prog.types.size→Tryz.prog.underlying t=some (.slice e)→0<Tryz.prog.cellsOf e:=slices_full_of Tryz.prog (by kernel_rfl)
theorem yPF (os:Os) (started:os.Started) (H:Type) (enc:TypeId×Value→H) :
  ReturnsInHanded {} Tryz.checked os 8 .any (Rows.tripleFairSpec.pre6 enc Tryz.prog Tryz.f8 Rows.tripleFairRow.domain false) (Rows.tripleFairSpec.post enc Tryz.prog Tryz.f8 false true false false):=by
 refine returnsInHanded_of_change (C:=Tryz.checked) own started (by kernel_rfl) Tryz.func8
  (ChangeSpec.witness6 (enc:=enc) (C:=Tryz.checked) false ⟨#[],#[.slice none 0 0],[]⟩ 8 (by kernel_rfl) (by kernel_rfl) (by kernel_rfl) (by kernel_rfl)) ?_
 intro W base args ds gs before hval hW _ _
 exact yMr kids full (dss:=[.s dsC]) (bt:=4) (by kernel_rfl) rows Tryz.func8 (by kernel_rfl) (by kernel_rfl) rfl (fun ds h=>by match ds,h with | [d],_=>rfl) (by kernel_rfl) Tryz.underlying4
  yKG hval hW (fun _=>False) (fun _ h=>h.elim) (fun n x h=>by have h:(none:Option PV)=some x:=h;cases h)
theorem yLN:Rows.TripleFairSaid :=
 OpenClaim.holds_of_wide 8 Tryz.f8 rfl rfl rfl rfl rfl rfl rfl ⟨rfl,rfl,rfl,rfl,rfl⟩ rfl rfl rfl rfl rfl (by kernel_rfl) Tryz.func8 (by kernel_rfl)
  (of_decide_eq_true (by kernel_rfl)) (by unfold Func.isWrapper;first | (rw [if_pos (by decide +kernel)];kernel_rfl) | (rw [if_neg (by decide +kernel)];exact ⟨rfl,rfl⟩))
  (fun os started H enc _=>yPF os started H enc)
theorem proved:Rows.TripleFairSaid:=yLN
#print axioms proved
end Go.Proofs.YtobbapakhillmaaGreat.Tp
