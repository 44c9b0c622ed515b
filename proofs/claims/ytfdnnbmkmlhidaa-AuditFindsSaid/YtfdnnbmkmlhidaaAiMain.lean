/- The statement, out of what its function answers. -/
import Derived.Test.YtfdnnbmkmlhidaaAiJoin
namespace Go.Proofs.Ytfdnnbmkmlhidaa.Ai
open Go Go.Pf Go.Pf.Vc Go.ChangeShapes Go.WideShapes Go.ChangeAt Go.RowKit Go.Shelf Go.Sort Go.Lib Go.Proofs
set_option maxRecDepth 100000
theorem answers (xs : List PV) (h : HasAs [.i .i64, .s dsQ] xs) : SumOk Try.prog (E ef0).glob 4 xs (.bool true) := by
  obtain ⟨N, log, rfl, hN, h64⟩ := A_finds h
  obtain ⟨r, hr, ha⟩ := ok_l05_AuditFinds [.int .i64 N, .data (logs log)] (fun r => r = .bool true) (show w_l05_AuditFinds N (logs log) (fun r => PV.bool r = .bool true) by
    have h2 := AuditFinds_ok (N := N) h64
    simpa using h2)
  subst hr
  exact sum_ans kS hm (by kernel_rfl) (by kernel_rfl) ha
theorem rows : ∀ t ∈ Try.f4.params.toList, t < Try.prog.types.size := fun t ht =>
  of_decide_eq_true (List.all_eq_true.1 (show (Try.f4.params.toList.all fun t => decide (t < Try.prog.types.size)) = true by kernel_rfl) t ht)
theorem own : ownKnob Try.prog.godebug = none := by kernel_rfl
theorem kids : Kids Try.prog (· < Try.prog.types.size) := kids_rows (by kernel_rfl) (by kernel_rfl)
theorem full : ∀ t e, t < Try.prog.types.size → Try.prog.underlying t = some (.slice e) → 0 < Try.prog.cellsOf e := slices_full_of Try.prog (by kernel_rfl)
theorem lifted (os : Os) (started : os.Started) (H : Type) (enc : TypeId × Value → H) :
    ReturnsInHanded {} Try.checked os 4 .any (Rows.auditFindsSpec.pre6 enc Try.prog Try.f4 Rows.auditFindsRow.domain false) (Rows.auditFindsSpec.post enc Try.prog Try.f4 false true false false) := by
  refine returnsInHanded_of_change (C := Try.checked) own started (by kernel_rfl) Try.func4
    (ChangeSpec.witness6 (enc := enc) (C := Try.checked) false ⟨#[], #[.int .i64 0, .slice none 0 0], []⟩ 8 (by kernel_rfl) (by kernel_rfl) (by kernel_rfl) (by kernel_rfl)) ?_
  intro W base args ds gs before hval hW _ _
  exact law_post kids full (dss := [.i .i64, .s dsQ]) (bt := 4) (by kernel_rfl) rows Try.func4 (by kernel_rfl) (by kernel_rfl) rfl (fun ds h => by match ds, h with | [d, d2], _ => rfl) (by kernel_rfl) Try.underlying4
    answers hval hW (fun _ => False) (fun _ h => h.elim) (fun n x h => by have h : (none : Option PV) = some x := h; cases h)
theorem row_holds : Rows.AuditFindsSaid :=
  OpenClaim.holds_of_wide 4 Try.f4 rfl rfl rfl rfl rfl rfl rfl ⟨rfl, rfl, rfl, rfl, rfl⟩ rfl rfl rfl rfl rfl (by kernel_rfl) Try.func4 (by kernel_rfl)
    (of_decide_eq_true (by kernel_rfl)) (by unfold Func.isWrapper; first | (rw [if_pos (by decide +kernel)]; kernel_rfl) | (rw [if_neg (by decide +kernel)]; exact ⟨rfl, rfl⟩))
    (fun os started H enc _ => lifted os started H enc)
theorem proved : Rows.AuditFindsSaid := row_holds
#print axioms proved
end Go.Proofs.Ytfdnnbmkmlhidaa.Ai
