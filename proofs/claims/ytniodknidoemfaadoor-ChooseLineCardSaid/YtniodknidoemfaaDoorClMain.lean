/- The statement, out of what its function answers. -/
import Derived.Test.YtniodknidoemfaaDoorClJoin
namespace Go.Proofs.YtniodknidoemfaaDoor.Cl
open Go Go.Pf Go.Pf.Vc Go.ChangeShapes Go.WideShapes Go.ChangeAt Go.RowKit
set_option maxRecDepth 100000
theorem answers (xs : List PV) (h : HasAs [.s dsC, .i .i64] xs) : SumOk Tryd.prog E.glob 4 xs (.bool true) := by
  obtain ⟨l, n, rfl, hl, _, _⟩ := A_cks_i h
  obtain ⟨r, hr, ha⟩ := ok_l07_ChooseLine [.data (cks l), .int .i64 n] (fun r => r = .bool true) (show w_l07_ChooseLine (cks l) n (fun r => PV.bool r = .bool true) by
    have h2 := ChooseLine_ok hl n
    simpa using h2)
  subst hr
  exact sum_ans k0 hm (by kernel_rfl) (by kernel_rfl) ha
theorem rows : ∀ t ∈ Tryd.f4.params.toList, t < Tryd.prog.types.size := fun t ht =>
  of_decide_eq_true (List.all_eq_true.1 (show (Tryd.f4.params.toList.all fun t => decide (t < Tryd.prog.types.size)) = true by kernel_rfl) t ht)
theorem own : ownKnob Tryd.prog.godebug = none := by kernel_rfl
theorem kids : Kids Tryd.prog (· < Tryd.prog.types.size) := kids_rows (by kernel_rfl) (by kernel_rfl)
theorem full : ∀ t e, t < Tryd.prog.types.size → Tryd.prog.underlying t = some (.slice e) → 0 < Tryd.prog.cellsOf e := slices_full_of Tryd.prog (by kernel_rfl)
theorem glob_is {n : Nat} {x : PV} (h : E.glob n = some x) : n = 0 ∧ x = .agg [.int .i64 0, .int .i64 1] := by
  have h2 : (bif Nat.beq 0 n then some (PV.agg [.int .i64 0, .int .i64 1]) else none) = some x := h
  cases e : Nat.beq 0 n with
  | true =>
    rw [e] at h2
    exact ⟨(Nat.eq_of_beq_eq_true e).symm, (Option.some.inj h2).symm⟩
  | false => rw [e] at h2; cases h2
theorem laid_glob {W : World} {I : Nat → Prop} (h : laidMetH Tryd.prog Rows.chooseLineRow.laid W) (hI : I 0) : GlobOk E.glob I W := by
  rw [MakeChecks.laidMetH_plain _ _ _ (by kernel_rfl)] at h
  obtain ⟨ps, ⟨g, t, cs, fuel, p, q, hg, ht, hv, hd, _, _⟩, _, _⟩ := h
  obtain rfl := Option.some.inj ((show Tryd.prog.globalNamed "parcener/choose.zero" = some 0 by kernel_rfl).symm.trans hg)
  obtain rfl := Option.some.inj ((show (Tryd.prog.globals[0]?).map (·.type) = some 40 by kernel_rfl).symm.trans ht)
  obtain ⟨y0, y1, m, ex, hl, h0, h1⟩ := trod_struct2 Tryd.underlying40 hd
  have c1 : Tryd.prog.cellsOf 2 = 1 := by kernel_rfl
  have c2 : Tryd.prog.cellsOf 40 = 2 := by kernel_rfl
  rw [c2] at hl
  have hcs : ∃ a b, cs.toList = [a, b] := by
    match hc : cs.toList with
    | [a, b] => exact ⟨a, b, rfl⟩
    | [] => rw [hc] at hl; cases hl
    | [a] => rw [hc] at hl; cases hl
    | a :: b :: c :: r => rw [hc] at hl; simp at hl
  obtain ⟨a, b, hcs⟩ := hcs
  rw [hcs] at h0 h1
  obtain ⟨z0, e0, f0, _⟩ := DataW.trod_int Tryd.underlying2 h0
  obtain ⟨z1, e1, f1, _⟩ := DataW.trod_int Tryd.underlying2 h1
  rw [f0, f1] at ex
  have ex2 := (DataW.agg.inj (Prod.mk.inj ex).1)
  simp only [List.cons.injEq, DataW.lit.injEq, Lit.int.injEq, true_and, and_true] at ex2
  obtain ⟨rfl, rfl⟩ := ex2
  have ea : a = .int .i64 0 := by
    have h3 : [a] = [Value.int .i64 0] := e0
    simpa using h3
  have eb : b = .int .i64 1 := by
    have h3 : [b] = [Value.int .i64 1] := e1
    simpa using h3
  subst ea; subst eb
  intro n x hx
  obtain ⟨rfl, rfl⟩ := glob_is hx
  refine ⟨hI, [.int .i64 0, .int .i64 1], by decide, ?_, ?_⟩
  · simp only [RC, CellsC]
    exact ⟨_, _, rfl, rfl, ⟨rfl, by decide, by decide⟩, _, _, rfl, rfl, ⟨rfl, by decide, by decide⟩, rfl⟩
  · intro j u hu
    rw [World.var?_cell hg hv (0 + j), Nat.zero_add, ← Array.getElem?_toList, hcs]
    exact hu
theorem lifted (os : Os) (started : os.Started) (H : Type) (enc : TypeId × Value → H) :
    ReturnsInHanded {} Tryd.checked os 4 .any (fun w args => (Rows.chooseLineSpec.pre enc Tryd.prog Tryd.f4 Rows.chooseLineRow.domain false w args ∧ laidMetH Tryd.prog Rows.chooseLineRow.laid w) ∧ sizedMet enc Tryd.prog Tryd.f4 (OpenSpec.ofChange Rows.chooseLineSpec) false w args)
      (Rows.chooseLineSpec.post enc Tryd.prog Tryd.f4 false true false false) := by
  refine returnsInHanded_of_change_and (C := Tryd.checked) (X := fun w _ => laidMetH Tryd.prog Rows.chooseLineRow.laid w) (fun _ _ _ hh h => h.of_heap hh) own started (by kernel_rfl) Tryd.func4
    (ChangeSpec.witness_shaped (enc := enc) (C := Tryd.checked) (os := os) (X := fun w _ => laidMetH Tryd.prog Rows.chooseLineRow.laid w) false (World.laidAll Tryd.prog os Rows.chooseLineRow.laid) #[.slice none 0 0, .int .i64 0] 8 (World.laidAll_os _ _ _)
      (World.shaped_of_ZipB (by kernel_rfl) (by kernel_rfl)) (by kernel_rfl) (by kernel_rfl) (by kernel_rfl)
      (by rw [MakeChecks.laidMetH_plain _ _ _ (by kernel_rfl)]; exact laidMet_laidAll _ (by kernel_rfl) (by kernel_rfl))) ?_
  intro W base args ds gs before hval hW _ _ hL _
  have hlt : ∀ b, b = 0 → b < W.heap.size := by
    rintro b rfl
    have h := hL
    rw [MakeChecks.laidMetH_plain _ _ _ (by kernel_rfl)] at h
    obtain ⟨ps, ⟨g, t, cs, fuel, p, q, hg, _, hv, _, _, _⟩, _, _⟩ := h
    obtain rfl := Option.some.inj ((show Tryd.prog.globalNamed "parcener/choose.zero" = some 0 by kernel_rfl).symm.trans hg)
    simp only [World.var?, hg, Option.bind_some] at hv
    split at hv
    · rename_i hh
      exact (Array.getElem?_eq_some_iff.1 hh).1
    · cases hv
  exact law_post kids full (dss := [.s dsC, .i .i64]) (bt := 4) (by kernel_rfl) rows Tryd.func4 (by kernel_rfl) (by kernel_rfl) rfl (fun ds h => by match ds, h with | [d1, d2], _ => rfl) (by kernel_rfl) Tryd.underlying4
    answers hval hW (fun b => b = 0) hlt (laid_glob hL (.inr rfl))
theorem row_holds : Rows.ChooseLineSaid :=
  OpenClaim.holds_of_wide 4 Tryd.f4 rfl rfl rfl rfl rfl rfl rfl ⟨rfl, rfl, rfl, rfl, rfl⟩ rfl rfl rfl rfl rfl (by kernel_rfl) Tryd.func4 (by kernel_rfl)
    (of_decide_eq_true (by kernel_rfl)) (by unfold Func.isWrapper; first | (rw [if_pos (by decide +kernel)]; kernel_rfl) | (rw [if_neg (by decide +kernel)]; exact ⟨rfl, rfl⟩))
    (fun os started H enc _ => lifted os started H enc)
theorem proved : Rows.ChooseLineCardSaid :=
  Claim7.holds_tied_plain_at .later [] [.data] true (true, "784f1bc0e781ac68ffaa90fb9ca29eeb80957e5009a82da4d8f5ba084a855508") false row_holds (fun _ h => by cases h) (by kernel_rfl) (fun _ h => by cases h) chooseLine_row_tie rfl ⟨rfl, rfl⟩ (by kernel_rfl) rfl
    (fun f fn hf hfn => by
      obtain rfl : f = 4 := Option.some.inj ((show Tryd.prog.funcNamed "parcener/parcenerlaw07.ChooseLine" = some 4 by kernel_rfl).symm.trans hf) |>.symm
      obtain rfl : fn = Tryd.f4 := (Option.some.inj (Tryd.func4.symm.trans hfn)).symm
      exact ⟨by kernel_rfl, fun j t ht => by
        rw [Tryd.params4] at ht
        have hm : t ∈ [22, 3] := by simpa using Array.mem_of_getElem? ht
        have hall : ([22, 3].all fun u => !Tryd.prog.wantsStandIn u) = true := by kernel_rfl
        exact (show Tryd.prog.wantsStandIn t = false by simpa using List.all_eq_true.1 hall t hm)⟩)
    (by kernel_rfl)
#print axioms proved
end Go.Proofs.YtniodknidoemfaaDoor.Cl
