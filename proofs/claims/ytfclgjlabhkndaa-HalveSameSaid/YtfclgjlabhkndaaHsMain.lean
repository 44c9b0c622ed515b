/- The statement, out of what its function answers. -/
import Derived.Test.YtfclgjlabhkndaaHsJoin
namespace Go.Proofs.Ytfclgjlabhkndaa.Hs
open Go Go.Pf Go.Pf.Vc Go.ChangeShapes Go.WideShapes Go.ChangeAt Go.RowKit
set_option maxRecDepth 100000
theorem answers (xs : List PV) (h : HasAs [.s dsC] xs) : SumOk Try.prog (E []).glob 3 xs (.bool true) := by
  obtain ⟨l, rfl, hl, _⟩ := A_cks h
  obtain ⟨r, hr, ha⟩ := (ok_l09_HalveSame [] effG_nil) [.data (cks l)] (fun r => r = .bool true) (show w_l09_HalveSame (cks l) (fun r => PV.bool r = .bool true) by
    have h2 := HalveSame_ok hl
    simpa using h2)
  subst hr
  exact sum_ans kN hm (by kernel_rfl) (by kernel_rfl) ha.solo
theorem rows : ∀ t ∈ Try.f3.params.toList, t < Try.prog.types.size := fun t ht =>
  of_decide_eq_true (List.all_eq_true.1 (show (Try.f3.params.toList.all fun t => decide (t < Try.prog.types.size)) = true by kernel_rfl) t ht)
theorem own : ownKnob Try.prog.godebug = none := by kernel_rfl
theorem kids : Kids Try.prog (· < Try.prog.types.size) := kids_rows (by kernel_rfl) (by kernel_rfl)
theorem full : ∀ t e, t < Try.prog.types.size → Try.prog.underlying t = some (.slice e) → 0 < Try.prog.cellsOf e := slices_full_of Try.prog (by kernel_rfl)
theorem lifted (os : Os) (started : os.Started) (H : Type) (enc : TypeId × Value → H) :
    ReturnsInHanded {} Try.checked os 3 .any (Rows.halveSameSpec.pre6 enc Try.prog Try.f3 Rows.halveSameRow.domain false) (Rows.halveSameSpec.post enc Try.prog Try.f3 false true false false) := by
  refine returnsInHanded_of_change (C := Try.checked) own started (by kernel_rfl) Try.func3
    (ChangeSpec.witness6 (enc := enc) (C := Try.checked) false ⟨#[], #[.slice none 0 0], []⟩ 8 (by kernel_rfl) (by kernel_rfl) (by kernel_rfl) (by kernel_rfl)) ?_
  intro W base args ds gs before hval hW _ _
  exact law_post kids full (dss := [.s dsC]) (bt := 4) (by kernel_rfl) rows Try.func3 (by kernel_rfl) (by kernel_rfl) rfl (fun ds h => by match ds, h with | [d], _ => rfl) (by kernel_rfl) Try.underlying4
    answers hval hW (fun _ => False) (fun _ h => h.elim) (fun n x h => by have h : (none : Option PV) = some x := h; cases h)
theorem row_holds : Rows.HalveSameSaid :=
  OpenClaim.holds_of_wide 3 Try.f3 rfl rfl rfl rfl rfl rfl rfl ⟨rfl, rfl, rfl, rfl, rfl⟩ rfl rfl rfl rfl rfl (by kernel_rfl) Try.func3 (by kernel_rfl)
    (of_decide_eq_true (by kernel_rfl)) (by unfold Func.isWrapper; first | (rw [if_pos (by decide +kernel)]; kernel_rfl) | (rw [if_neg (by decide +kernel)]; exact ⟨rfl, rfl⟩))
    (fun os started H enc _ => lifted os started H enc)
theorem proved : Rows.HalveSameSaid := row_holds
#print axioms proved
end Go.Proofs.Ytfclgjlabhkndaa.Hs
