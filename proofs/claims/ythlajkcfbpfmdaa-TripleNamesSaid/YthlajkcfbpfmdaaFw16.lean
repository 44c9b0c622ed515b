/- The framework, part 16: stores. -/
import Derived.Test.YthlajkcfbpfmdaaFw15
namespace Go.Pf
open Go Go.RowKit
section
variable {P : Program} {E : Env} {nt : Nat} {g g' : Gh} {F : Frm} {H H' : Hp} {a : Act} {tmps : Array Value} {w w' : World} {o : Oper} {out : Out}

theorem llt {α : Type} {l : List α} {i : Nat} {x : α} (h : l[i]? = some x) : i < l.length := by
  rcases Nat.lt_or_ge i l.length with h1 | h1
  · exact h1
  · rw [List.getElem?_eq_none h1] at h; cases h

theorem one_cells {x : PV} (h : x.one = true) : x.cells = [x] ∧ allOne x.cells = true := by
  cases x <;> simp [PV.one] at h <;> simp [PV.cells, allOne, PV.one]

theorem setPart_sound {row row' p : PV} {off sz : Nat} {cur us : List Value} (hrow : RowR g H w row cur) (h : setPart row off sz p = some row') (hp : VCs g H w p.cells us) :
    RowR g H w row' (splice cur off us) ∧ us.length = sz ∧ off + us.length ≤ cur.length ∧ allOne p.cells = true := by
  have hul := VCs_length _ _ hp
  have scalar : row.one = true → off = 0 ∧ sz = 1 ∧ p.one = true → row' = p → RowR g H w row' (splice cur off us) ∧ us.length = sz ∧ off + us.length ≤ cur.length ∧ allOne p.cells = true := by
    rintro ho ⟨rfl, rfl, hpo⟩ rfl
    obtain ⟨e1, e2⟩ := one_cells hpo
    have hcl := RowR_len hrow
    rw [(one_cells ho).1] at hcl
    rw [e1] at hul hp
    simp only [List.length_singleton] at hul hcl
    simp only [VCs] at hp
    obtain ⟨v, vr, rfl, _, hv, rfl⟩ := hp
    refine ⟨?_, rfl, by simp [hcl], e2⟩
    have es : splice cur 0 [v] = [v] := by
      match cur, hcl with
      | [c], _ => simp [splice]
    rw [es]
    cases row' <;> simp [PV.one] at hpo <;> simp only [RowR] <;> exact ⟨rfl, v, rfl, hv⟩
  unfold setPart at h
  split at h
  · rename_i cs
    split at h
    · rename_i hc
      cases h
      simp only [RowR] at hrow ⊢
      have hl := VCs_length _ _ hrow
      refine ⟨?_, by omega, by omega, hc.2.2⟩
      have := VCs_splice (off := off) (n := off + sz) hrow hp
      simpa [splice, show us.length = sz from by omega] using this
    · cases h
  · cases h
  · rename_i h1 h2
    split at h
    · rename_i hc
      cases h
      refine scalar ?_ hc rfl
      cases row <;> simp [PV.one]
      · exact absurd rfl (h1 _)
      · exact absurd rfl (h2 _)
    · cases h

theorem CellsC_append {I : Nat → Prop} {l1 l2 : List PV} {v1 v2 : List Value} (h1 : CellsC I w l1 v1) (h2 : CellsC I w l2 v2) : CellsC I w (l1 ++ l2) (v1 ++ v2) := by
  induction l1 generalizing v1 with
  | nil => simp only [CellsC] at h1; subst h1; simpa using h2
  | cons x r ih =>
    simp only [CellsC] at h1
    obtain ⟨v, vr, rfl, o, h, h'⟩ := h1
    simp only [List.cons_append, CellsC]
    exact ⟨v, vr ++ v2, rfl, o, h, ih h'⟩
theorem CellsC_drop {I : Nat → Prop} : ∀ (n : Nat) (l : List PV) (vs : List Value), CellsC I w l vs → CellsC I w (l.drop n) (vs.drop n)
  | 0, l, vs, h => by simpa using h
  | n + 1, [], vs, h => by simp only [CellsC] at h; subst h; simp [CellsC]
  | n + 1, x :: r, vs, h => by
    simp only [CellsC] at h
    obtain ⟨v, vr, rfl, o, h, h'⟩ := h
    simpa using CellsC_drop n r vr h'
theorem CellsC_take {I : Nat → Prop} : ∀ (n : Nat) (l : List PV) (vs : List Value), CellsC I w l vs → CellsC I w (l.take n) (vs.take n)
  | 0, l, vs, h => by simp [CellsC]
  | n + 1, [], vs, h => by simp only [CellsC] at h; subst h; simp [CellsC]
  | n + 1, x :: r, vs, h => by
    simp only [CellsC] at h
    obtain ⟨v, vr, rfl, o, h, h'⟩ := h
    simp only [List.take_succ_cons, CellsC]
    exact ⟨v, vr.take n, rfl, o, h, CellsC_take n r vr h'⟩

theorem RC_cells {I : Nat → Prop} {x : PV} {vs : List Value} (h : RC I w x vs) (ho : allOne x.cells = true) : CellsC I w x.cells vs := by
  cases x with
  | agg cs => simpa only [RC, PV.cells] using h
  | tup ps => simp only [RC] at h
  | data rows =>
    have h' := h
    simp only [RC] at h
    obtain ⟨k, l, c, rfl, _⟩ := h
    simp only [PV.cells, CellsC]
    exact ⟨_, _, rfl, rfl, h', rfl⟩
  | bool b => have h' := h; simp only [RC] at h; subst h; simp only [PV.cells, CellsC]; exact ⟨_, _, rfl, rfl, h', rfl⟩
  | int k n => have h' := h; simp only [RC] at h; obtain ⟨rfl, _⟩ := h; simp only [PV.cells, CellsC]; exact ⟨_, _, rfl, rfl, h', rfl⟩
  | _ => simp only [RC] at h

theorem setPart_pure {I : Nat → Prop} {row row' p : PV} {off sz : Nat} {cur us : List Value} (hrow : RC I w row cur) (h : setPart row off sz p = some row') (hp : RC I w p us) : RC I w row' (splice cur off us) := by
  unfold setPart at h
  have hul := RC_cells_len hp
  split at h
  · rename_i cs
    split at h
    · rename_i hc
      cases h
      simp only [RC] at hrow ⊢
      have := CellsC_append (CellsC_take off _ _ hrow) (CellsC_append (RC_cells hp hc.2.2) (CellsC_drop (off + sz) _ _ hrow))
      simpa [splice, show us.length = sz from by omega] using this
    · cases h
  · cases h
  · rename_i h1 h2
    split at h
    · rename_i hc
      cases h
      obtain ⟨rfl, rfl, hpo⟩ := hc
      have hcl := RC_cells_len hrow
      rw [(one_cells (x := row) (by cases row <;> simp [PV.one]; exact absurd rfl (h1 _); exact absurd rfl (h2 _))).1] at hcl
      rw [(one_cells hpo).1] at hul
      simp only [List.length_singleton] at hul hcl
      have es : splice cur 0 us = us := by
        match cur, hcl with
        | [c], _ => simp [splice, hul]
      rw [es]; exact hp
    · cases h

theorem run_storeVar {t : TypeId} {i : TypeInfo} {b o1 : Nat} {v : Value} {cur : Array Value} {T : TypeId} (hi : P.info? t = some i) (hc : w.heap[b]? = some (.cells cur T (0, 0))) (hs : v.cells.size = i.size) (hf : o1 + v.cells.size ≤ cur.size) (h1 : ∀ u ∈ v.cells.toList, u.oneCell' = true) :
    (storeVar t ⟨b, o1, none⟩ v).run P w = .ok () (w.setRow b (splice cur.toList o1 v.cells.toList).toArray) := by
  have := run_storeCells_at P b o1 T v.cells.toList 0 cur w hc (by simp; omega) h1
  simp only [Nat.add_zero, List.append_assoc] at this
  simp [storeVar, sizeOf, typeInfo, hi, hs, splice] at this ⊢
  exact this

theorem op_store (hr : Rel E nt g F H a.tmps w) {t : TypeId} {i : TypeInfo} {x y : Operand} {x' y' : Opd} (ho : o.op = .store t x y) (hi : P.info? t = some i) (hx : opd x = some x') (hy : opd y = some y') {call} (h : opOut E call F H (.store i.size x' y') = some out) :
    OpR E nt g F H a.tmps w out ((execOp a.eval o).run P w) := by
  simp only [opOut] at h
  split at h
  · rename_i p hp
    have hvp := evV_sound hr hy hp
    split at h
    · rename_i s off hev
      obtain ⟨b, hb, he⟩ := ev_sound hr hx hev
      split at h
      · rename_i row hrow
        split at h
        · rename_i row' hset
          cases h
          obtain ⟨b', hb', _, hnI, cur, T, hh, hrr⟩ := hr.frame s _ hrow
          rw [hb] at hb'; cases hb'
          have hone : allOne p.cells = true := by
            unfold setPart at hset
            split at hset
            · split at hset
              · rename_i hc; exact hc.2.2
              · cases hset
            · cases hset
            · split at hset
              · rename_i hc; exact (one_cells hc.2.2).2
              · cases hset
          have hvc := (VR_cells hvp hone).1
          obtain ⟨hr1, hl1, hl2, _⟩ := setPart_sound hrr hset hvc
          have hfit : off + (a.eval y).cells.size ≤ cur.size := by simpa using hl2
          obtain ⟨r1, n1⟩ := hr.setBox (cs := (splice cur.toList off (a.eval y).cells.toList).toArray) hb hrow hh (by simp [splice_length hl2]) (by simpa using hr1)
          have hst := run_storeVar (P := P) (t := t) hi hh (by simpa using hl1) hfit (VCs_one _ _ hvc)
          refine ⟨undef, _, g, .inr ⟨?_, rfl⟩, n1, r1, trivial⟩
          simp [execOp, ho, Instr.storeAt, he, Instr.sureAddr, hst]
        · cases h
      · cases h
    · rename_i id ext k off hev
      have hval := ev_sound hr hx hev
      simp only [FVal, VR] at hval
      obtain ⟨hb0, ad, e1, hle, he, hcond⟩ := hval
      split at h
      · rename_i hb1 e2
        rw [e1] at e2; cases e2
        split at h
        · rename_i q H1 hq
          split at h
          · rename_i hb2 e3
            split at h
            · rename_i hc
              split at h
              · rename_i row hrow
                split at h
                · rename_i row' hset
                  cases h
                  have hone : allOne q.cells = true := by
                    unfold setPart at hset
                    split at hset
                    · split at hset
                      · rename_i hc; exact hc.2.2
                      · cases hset
                    · cases hset
                    · split at hset
                      · rename_i hc; exact (one_cells hc.2.2).2
                      · cases hset
                  obtain ⟨g1, r1, n1, b1, p1, row1, pure1⟩ := purifyIf_sound hr hvp hq hone
                  obtain ⟨hb3, e4, hz, hpu, hlen⟩ := n1.on.hext id hb0 e1
                  rw [e3] at e4; cases e4
                  have hsame : hb0.rows.length = ext := by omega
                  obtain ⟨b, o1, hρ, hk, hadd⟩ := hcond hsame
                  subst hadd
                  have hρ1 : g1.ρ id = some (b, o1) := by rw [p1]; exact hρ
                  obtain ⟨b', o', hblk⟩ := r1.heap id hb2 e3
                  have hat := hblk.at_
                  rw [hρ1] at hat; cases hat
                  obtain ⟨cur, T, hh, hfit0⟩ := hblk.cells
                  obtain ⟨vs, hvl, hrr, hatv⟩ := RowsR_get hb2.rows hb2.esz b o1 k row hblk.rows hrow
                  have hk2 : k < hb2.rows.length := llt hrow
                  have hmul : k * hb2.esz + hb2.esz ≤ hb2.rows.length * hb2.esz := by
                    have : (k + 1) * hb2.esz ≤ hb2.rows.length * hb2.esz := Nat.mul_le_mul_right _ hk2
                    rwa [Nat.add_mul, Nat.one_mul] at this
                  have hvc := RowR_cells row1
                  obtain ⟨hr1, hl1, hl2, _⟩ := setPart_sound hrr hset hvc
                  have hal : (a.eval y).cells.size = i.size := by simpa using hl1
                  have hfit : o1 + k * hb2.esz + off + (a.eval y).cells.toList.length ≤ cur.toList.length := by simp at hl2 ⊢; omega
                  have hsegk : seg cur.toList (o1 + k * hb2.esz) hb2.esz = vs := by
                    have := At.to_cells hh hatv
                    rw [hvl] at this; exact this
                  have hsegs : ∀ j y', (hb2.rows.set k row')[j]? = some y' → ∃ us, us.length = hb2.esz ∧ RowR g1 H1 w y' us ∧ (hb2.pu = true → RC g1.I w y' us) ∧ seg (splice cur.toList (o1 + k * hb2.esz + off) (a.eval y).cells.toList) (o1 + j * hb2.esz) hb2.esz = us := by
                    intro j y' hj
                    rw [List.getElem?_set] at hj
                    by_cases ej : k = j
                    · subst ej
                      rw [if_pos rfl, if_pos hk2] at hj
                      cases hj
                      refine ⟨splice vs off (a.eval y).cells.toList, by rw [splice_length hl2, hvl], hr1, fun hp => ?_, ?_⟩
                      · obtain ⟨vs2, hv2, hrc2, hat2⟩ := RowsC_get hb2.rows hb2.esz b o1 k row (hblk.pure hp) hrow
                        have : vs2 = vs := by
                          have e5 := At.to_cells hh hat2
                          rw [hv2] at e5
                          rw [← e5, ← hsegk]; rfl
                        subst this
                        exact setPart_pure hrc2 hset (pure1 (by rw [← hpu]; exact hp))
                      · rw [seg_splice_in hfit (by omega) (by rw [hvl] at hl2; omega) (by simp; omega), hsegk]
                        congr 1; omega
                    · rw [if_neg ej] at hj
                      obtain ⟨us, hu1, hu2, hu3⟩ := RowsR_get hb2.rows hb2.esz b o1 j y' hblk.rows hj
                      refine ⟨us, hu1, hu2, fun hp => ?_, ?_⟩
                      · obtain ⟨us2, hv2, hrc2, hat2⟩ := RowsC_get hb2.rows hb2.esz b o1 j y' (hblk.pure hp) hj
                        have : us2 = us := by
                          have e5 := At.to_cells hh hat2
                          have e6 := At.to_cells hh hu3
                          rw [hv2] at e5; rw [hu1] at e6
                          rw [← e5, ← e6]
                        subst this; exact hrc2
                      · have hd : o1 + j * hb2.esz + hb2.esz ≤ o1 + k * hb2.esz + off ∨ o1 + k * hb2.esz + off + (a.eval y).cells.toList.length ≤ o1 + j * hb2.esz := by
                          rcases Nat.lt_or_gt_of_ne ej with h1 | h1
                          · right
                            have : (k + 1) * hb2.esz ≤ j * hb2.esz := Nat.mul_le_mul_right _ h1
                            rw [Nat.add_mul, Nat.one_mul] at this
                            rw [hvl] at hl2; omega
                          · left
                            have : (j + 1) * hb2.esz ≤ k * hb2.esz := Nat.mul_le_mul_right _ h1
                            rw [Nat.add_mul, Nat.one_mul] at this; omega
                        rw [seg_splice_other hfit hd]
                        have e6 := At.to_cells hh hu3
                        rw [hu1] at e6; exact e6
                  obtain ⟨r2, n2⟩ := r1.setBlk (cs := (splice cur.toList (o1 + k * hb2.esz + off) (a.eval y).cells.toList).toArray) (rows' := hb2.rows.set k row') e3 hc.2 hρ1 hh (by simp [splice_length hfit]) (by simp) (by simp [splice_length hfit]; omega)
                    (fun j y' hj => by
                      obtain ⟨us, h1, h2, h3, h4⟩ := hsegs j y' hj
                      exact ⟨us, h1, h2, by rw [h1]; exact h4⟩)
                    (fun hp j y' hj => by
                      obtain ⟨us, h1, h2, h3, h4⟩ := hsegs j y' hj
                      exact ⟨us, h1, h3 hp, by rw [h1]; exact h4⟩)
                  have hst := run_storeVar (P := P) (t := t) (o1 := o1 + k * hb0.esz + off) hi hh hal (by rw [← hz]; simpa using hfit) (VCs_one _ _ hvc)
                  refine ⟨undef, _, g1, .inr ⟨?_, rfl⟩, n1.trans n2, r2, trivial⟩
                  rw [hz]
                  simp [execOp, ho, Instr.storeAt, he, Instr.sureAddr, hst]
                · cases h
              · cases h
            · cases h
          · cases h
        · cases h
      · cases h
    · cases h
  · cases h
end
end Go.Pf
