/- Part 9. -/
import Derived.Test.YtfclgjlabhkndaaGreatHfJoin
namespace Go.Proofs.YtfclgjlabhkndaaGreat.Hf
open Go Go.Pf Go.Pf.Vc Go.ChangeShapes Go.WideShapes Go.ChangeAt Go.RowKit Go.Shelf Go.Sort Go.Lib Go.Proofs
set_option maxRecDepth 100000
theorem yJm (xs:List PV) (h:yuD [.s dsC] xs):ym6 Tryz.prog (E ef0).glob 5 xs (.bool true):=by
 obtain ⟨l,rfl,hl,_⟩:=yN7 h
 obtain ⟨r,hr,ha⟩:=yxO [.data (cks l)] (fun r=>r=.bool true) (show yg7 (cks l) (fun r=>PV.bool r=.bool true) by
  have h2:=yFr hl
  simpa using h2)
 subst hr
 exact yIz kS hm (by kernel_rfl) (by kernel_rfl) ha.solo
theorem rows:∀ t∈Tryz.f5.params.toList,t<Tryz.prog.types.size:=fun t ht =>
 of_decide_eq_true (List.all_eq_true.1 (show (Tryz.f5.params.toList.all fun t=>decide (t<Tryz.prog.types.size))=true by kernel_rfl) t ht)
theorem own:ownKnob Tryz.prog.godebug=none:=by kernel_rfl
theorem kids:Kids Tryz.prog (·<Tryz.prog.types.size):=kids_rows (by kernel_rfl) (by kernel_rfl)
theorem full:∀ t e,t<Tryz.prog.types.size→Tryz.prog.underlying t=some (.slice e)→0<Tryz.prog.cellsOf e:=slices_full_of Tryz.prog (by kernel_rfl)
theorem yNN (os:Os) (started:os.Started) (H:Type) (enc:TypeId×Value→H) :
  ReturnsInHanded {} Tryz.checked os 5 .any (Rows.halveFairSpec.pre6 enc Tryz.prog Tryz.f5 Rows.halveFairRow.domain false) (Rows.halveFairSpec.post enc Tryz.prog Tryz.f5 false true false false):=by
 refine returnsInHanded_of_change (C:=Tryz.checked) own started (by kernel_rfl) Tryz.func5
  (ChangeSpec.witness6 (enc:=enc) (C:=Tryz.checked) false ⟨#[],#[.slice none 0 0],[]⟩ 8 (by kernel_rfl) (by kernel_rfl) (by kernel_rfl) (by kernel_rfl)) ?_
 intro W base args ds gs before hval hW _ _
 exact yKZ kids full (dss:=[.s dsC]) (bt:=4) (by kernel_rfl) rows Tryz.func5 (by kernel_rfl) (by kernel_rfl) rfl (fun ds h=>by match ds,h with | [d],_=>rfl) (by kernel_rfl) Tryz.underlying4
  yJm hval hW (fun _=>False) (fun _ h=>h.elim) (fun n x h=>by have h:(none:Option PV)=some x:=h;cases h)
theorem yKl:Rows.HalveFairSaid :=
 OpenClaim.holds_of_wide 5 Tryz.f5 rfl rfl rfl rfl rfl rfl rfl ⟨rfl,rfl,rfl,rfl,rfl⟩ rfl rfl rfl rfl rfl (by kernel_rfl) Tryz.func5 (by kernel_rfl)
  (of_decide_eq_true (by kernel_rfl)) (by unfold Func.isWrapper;first | (rw [if_pos (by decide +kernel)];kernel_rfl) | (rw [if_neg (by decide +kernel)];exact ⟨rfl,rfl⟩))
  (fun os started H enc _=>yNN os started H enc)
theorem proved:Rows.HalveFairSaid:=yKl
#print axioms proved
end Go.Proofs.YtfclgjlabhkndaaGreat.Hf
