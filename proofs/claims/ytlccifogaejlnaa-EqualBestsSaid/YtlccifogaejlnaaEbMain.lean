/- Part 7. -/
import Derived.Test.YtlccifogaejlnaaEbJoin
namespace Go.Proofs.Ytlccifogaejlnaa.Eb
open Go Go.Pf Go.Pf.Vc Go.ChangeShapes Go.WideShapes Go.ChangeAt Go.RowKit
set_option maxRecDepth 100000
theorem yCm (xs:List PV) (h:yox [.s Cn] xs):rK Try.prog (E []).glob 3 xs (.bool true):=by
 obtain ⟨l,rfl,hl,_⟩:=yLP h;obtain ⟨r,hr,ha⟩:=(yo [] jK) [.data (cks l)] (fun r=>r=.bool true) (show Nk (cks l) (fun r=>PV.bool r=.bool true) by
  have h2:=yua hl;simpa using h2)
 subst hr;exact ka kN hm (by kernel_rfl) (by kernel_rfl) ha
theorem rows:∀ t∈Try.f3.params.toList,t<Try.prog.types.size:=fun t ht=>
 of_decide_eq_true (vS.1 (show (Try.f3.params.toList.all fun t=>decide (t<Try.prog.types.size))=true by kernel_rfl) t ht)
theorem own:ownKnob Try.prog.godebug=none:=by kernel_rfl
theorem WN:Kids Try.prog (·<Try.prog.types.size):=kids_rows (by kernel_rfl) (by kernel_rfl)
theorem WO:∀ t e,t<Try.prog.types.size→Try.prog.underlying t=some (.slice e)→0<Try.prog.cellsOf e:=slices_full_of Try.prog (by kernel_rfl)
theorem yLD (os:Os) (started:os.Started) (H:Type) (enc:TypeId×Value→H) :
  ReturnsInHanded {} Try.checked os 3 .any (Rows.equalBestsSpec.pre6 enc Try.prog Try.f3 Rows.equalBestsRow.domain false) (Rows.equalBestsSpec.post enc Try.prog Try.f3 false true false false):=by
 refine returnsInHanded_of_change (C:=Try.checked) own started (by kernel_rfl) Try.func3
  (ChangeSpec.witness6 (enc:=enc) (C:=Try.checked) false ⟨#[],#[.slice none 0 0],[]⟩ 8 (by kernel_rfl) (by kernel_rfl) (by kernel_rfl) (by kernel_rfl)) ?_
 intro W base args ds gs before hval hW _ _;exact kv WN WO (dss:=[.s Cn]) (bt:=4) (by kernel_rfl) rows Try.func3 (by kernel_rfl) (by kernel_rfl) rfl (fun ds h=>by match ds,h with | [d],_=>rfl) (by kernel_rfl) Try.underlying4
  yCm hval hW (fun _=>False) (fun _ h=>h.elim) (fun n x h=>by have h:(none:Option PV)=some x:=h;cases h)
theorem yDy:Rows.EqualBestsSaid:=
 OpenClaim.holds_of_wide 3 Try.f3 rfl rfl rfl rfl rfl rfl rfl ⟨rfl,rfl,rfl,rfl,rfl⟩ rfl rfl rfl rfl rfl (by kernel_rfl) Try.func3 (by kernel_rfl)
  (of_decide_eq_true (by kernel_rfl)) (by unfold Func.isWrapper;first | (rw [if_pos (by decide +kernel)];kernel_rfl) | (rw [if_neg (by decide +kernel)];exact ⟨rfl,rfl⟩))
  (fun os started H enc _=>yLD os started H enc)
theorem proved:Rows.EqualBestsSaid:=yDy
#print axioms proved
end Go.Proofs.Ytlccifogaejlnaa.Eb
