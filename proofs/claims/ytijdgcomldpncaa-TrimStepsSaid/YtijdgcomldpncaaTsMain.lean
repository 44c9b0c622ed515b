/- The statement, out of what its function answers. -/
import Derived.Test.YtijdgcomldpncaaTsJoin
namespace Go.Proofs.Ytijdgcomldpncaa.Ts
open Go Go.Pf Go.Pf.Vc Go.ChangeShapes Go.WideShapes Go.ChangeAt Go.RowKit
set_option maxRecDepth 100000
theorem yBI (xs:List PV) (h:ype [.s dsC] xs):ykR Try.prog (E []).glob 5 xs (.bool true):=by
  obtain ⟨l,rfl,hl,_⟩:=yGl h
  obtain ⟨r,hr,ha⟩:=(yqZ [] ybd) [.data (cks l)] (fun r=>r=.bool true) (show ye1 (cks l) (fun r=>PV.bool r=.bool true) by
    have h2:=yxs hl
    simpa using h2)
  subst hr
  exact yEI kN hm (by kernel_rfl) (by kernel_rfl) ha
theorem rows:∀ t∈Try.f5.params.toList,t<Try.prog.types.size:=fun t ht =>
  of_decide_eq_true (List.all_eq_true.1 (show (Try.f5.params.toList.all fun t=>decide (t<Try.prog.types.size))=true by kernel_rfl) t ht)
theorem own:ownKnob Try.prog.godebug=none:=by kernel_rfl
theorem kids:Kids Try.prog (·<Try.prog.types.size):=kids_rows (by kernel_rfl) (by kernel_rfl)
theorem full:∀ t e,t<Try.prog.types.size→Try.prog.underlying t=some (.slice e)→0<Try.prog.cellsOf e:=slices_full_of Try.prog (by kernel_rfl)
theorem yF4 (os:Os) (started:os.Started) (H:Type) (enc:TypeId×Value→H) :
    ReturnsInHanded {} Try.checked os 5 .any (Rows.trimStepsSpec.pre6 enc Try.prog Try.f5 Rows.trimStepsRow.domain false) (Rows.trimStepsSpec.post enc Try.prog Try.f5 false true false false):=by
  refine returnsInHanded_of_change (C:=Try.checked) own started (by kernel_rfl) Try.func5
    (ChangeSpec.witness6 (enc:=enc) (C:=Try.checked) false ⟨#[],#[.slice none 0 0],[]⟩ 8 (by kernel_rfl) (by kernel_rfl) (by kernel_rfl) (by kernel_rfl)) ?_
  intro W base args ds gs before hval hW _ _
  exact yDi kids full (dss:=[.s dsC]) (bt:=4) (by kernel_rfl) rows Try.func5 (by kernel_rfl) (by kernel_rfl) rfl (fun ds h=>by match ds,h with | [d],_=>rfl) (by kernel_rfl) Try.underlying4
    yBI hval hW (fun _=>False) (fun _ h=>h.elim) (fun n x h=>by have h:(none:Option PV)=some x:=h;cases h)
theorem yCD:Rows.TrimStepsSaid :=
  OpenClaim.holds_of_wide 5 Try.f5 rfl rfl rfl rfl rfl rfl rfl ⟨rfl,rfl,rfl,rfl,rfl⟩ rfl rfl rfl rfl rfl (by kernel_rfl) Try.func5 (by kernel_rfl)
    (of_decide_eq_true (by kernel_rfl)) (by unfold Func.isWrapper;first | (rw [if_pos (by decide +kernel)];kernel_rfl) | (rw [if_neg (by decide +kernel)];exact ⟨rfl,rfl⟩))
    (fun os started H enc _=>yF4 os started H enc)
theorem proved:Rows.TrimStepsSaid:=yCD
#print axioms proved
end Go.Proofs.Ytijdgcomldpncaa.Ts
