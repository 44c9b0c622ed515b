/- The framework, part 12: parts of structs, loads, addresses. -/
import Derived.Test.YthlajkcfbpfmdaaFw11
namespace Go.Pf
open Go Go.RowKit
section
variable {P : Program} {E : Env} {nt : Nat} {g g' : Gh} {F : Frm} {H H' : Hp} {a : Act} {w w' : World} {o : Oper} {out : Out}

theorem RowR_cells {row : PV} {vs : List Value} (h : RowR g H w row vs) : VCs g H w row.cells vs := by
  cases row <;> simp only [RowR, PV.cells] at h ⊢ <;> first
    | exact h
    | (obtain ⟨ho, v, rfl, hv⟩ := h; simp only [VCs]; exact ⟨v, [], rfl, ho, hv, rfl⟩)

theorem VR_cells {p : PV} {v : Value} (h : VR g H w p v) (ho : allOne p.cells = true) : VCs g H w p.cells v.cells.toList ∧ RowR g H w p v.cells.toList := by
  cases p with
  | agg cs =>
    simp only [VR] at h
    obtain ⟨vs, rfl, h⟩ := h
    simp only [PV.cells, Value.cells, RowR]
    exact ⟨h, h⟩
  | tup ps => simp [PV.cells, allOne, PV.one] at ho
  | fn f x y =>
    have h' := h
    simp only [VR] at h
    obtain ⟨as, bs, rfl, _⟩ := h
    simp only [PV.cells, Value.cells, RowR, VCs]
    exact ⟨⟨_, _, rfl, rfl, h', rfl⟩, rfl, _, rfl, h'⟩
  | data rows =>
    have h' := h
    simp only [VR, RC] at h
    obtain ⟨k, l, c, e, _⟩ := h
    simp only [List.cons.injEq, and_true] at e
    subst e
    simp only [PV.cells, Value.cells, RowR, VCs]
    exact ⟨⟨_, _, rfl, rfl, h', rfl⟩, rfl, _, rfl, h'⟩
  | own id lo len ext cap =>
    have h' := h
    simp only [VR] at h
    obtain ⟨hb, ad, c, _, _, rfl, _⟩ := h
    simp only [PV.cells, Value.cells, RowR, VCs]
    exact ⟨⟨_, _, rfl, rfl, h', rfl⟩, rfl, _, rfl, h'⟩
  | sub id ext i off n e =>
    have h' := h
    simp only [VR] at h
    obtain ⟨ad, _, rfl, _⟩ := h
    simp only [PV.cells, Value.cells, RowR, VCs]
    exact ⟨⟨_, _, rfl, rfl, h', rfl⟩, rfl, _, rfl, h'⟩
  | ptr id ext i off =>
    have h' := h
    simp only [VR] at h
    obtain ⟨hb, ad, _, _, rfl, _⟩ := h
    simp only [PV.cells, Value.cells, RowR, VCs]
    exact ⟨⟨_, _, rfl, rfl, h', rfl⟩, rfl, _, rfl, h'⟩
  | eptr rows i off =>
    have h' := h
    simp only [VR] at h
    obtain ⟨b, oo, esz, rfl, _⟩ := h
    simp only [PV.cells, Value.cells, RowR, VCs]
    exact ⟨⟨_, _, rfl, rfl, h', rfl⟩, rfl, _, rfl, h'⟩
  | emp =>
    have h' := h
    simp only [VR] at h
    obtain ⟨k, rfl⟩ := h
    simp only [PV.cells, Value.cells, RowR, VCs]
    exact ⟨⟨_, _, rfl, rfl, h', rfl⟩, rfl, _, rfl, h'⟩
  | mt b =>
    have h' := h
    simp only [VR] at h
    obtain ⟨k, c, rfl, _⟩ := h
    simp only [PV.cells, Value.cells, RowR, VCs]
    exact ⟨⟨_, _, rfl, rfl, h', rfl⟩, rfl, _, rfl, h'⟩
  | int k n =>
    have h' := h
    simp only [VR] at h
    obtain ⟨rfl, _⟩ := h
    simp only [PV.cells, Value.cells, RowR, VCs]
    exact ⟨⟨_, _, rfl, rfl, h', rfl⟩, rfl, _, rfl, h'⟩
  | bool b | nilp | nils | nilf =>
    have h' := h
    simp only [VR] at h
    subst h
    simp only [PV.cells, Value.cells, RowR, VCs]
    exact ⟨⟨_, _, rfl, rfl, h', rfl⟩, rfl, _, rfl, h'⟩

theorem VCs_one : ∀ (l : List PV) (vs : List Value), VCs g H w l vs → ∀ v ∈ vs, v.oneCell' = true
  | [], vs, h => by simp only [VCs] at h; subst h; simp
  | x :: r, vs, h => by
    simp only [VCs] at h
    obtain ⟨v, vr, rfl, o, h1, h2⟩ := h
    intro u hu
    rcases List.mem_cons.1 hu with rfl | hu
    · have hc := (VR_cells (p := x) h1 (by cases x <;> simp [PV.cells, allOne, PV.one] at o ⊢)).2
      cases x <;> simp [PV.one] at o <;> simp only [VR] at h1 <;> first
        | (subst h1; rfl)
        | (obtain ⟨rfl, _⟩ := h1; rfl)
        | (obtain ⟨_, _, _, _, rfl, _⟩ := h1; rfl)
        | (obtain ⟨_, _, _, rfl, _⟩ := h1; rfl)
        | (obtain ⟨_, rfl⟩ := h1; rfl)
        | (obtain ⟨_, _, rfl, _⟩ := h1; rfl)
        | (obtain ⟨_, _, _, _, _, rfl, _⟩ := h1; rfl)
        | (simp only [RC] at h1; obtain ⟨_, _, _, e, _⟩ := h1; simp only [List.cons.injEq, and_true] at e; subst e; rfl)
    · exact VCs_one r vr h2 u hu

theorem VCs_append {l1 l2 : List PV} {v1 v2 : List Value} (h1 : VCs g H w l1 v1) (h2 : VCs g H w l2 v2) : VCs g H w (l1 ++ l2) (v1 ++ v2) := by
  induction l1 generalizing v1 with
  | nil => simp only [VCs] at h1; subst h1; simpa using h2
  | cons x r ih =>
    simp only [VCs] at h1
    obtain ⟨v, vr, rfl, o, h, h'⟩ := h1
    simp only [List.cons_append, VCs]
    exact ⟨v, vr ++ v2, rfl, o, h, ih h'⟩

theorem VCs_drop : ∀ (n : Nat) (l : List PV) (vs : List Value), VCs g H w l vs → VCs g H w (l.drop n) (vs.drop n)
  | 0, l, vs, h => by simpa using h
  | n + 1, [], vs, h => by simp only [VCs] at h; subst h; simp [VCs]
  | n + 1, x :: r, vs, h => by
    simp only [VCs] at h
    obtain ⟨v, vr, rfl, o, h, h'⟩ := h
    simpa using VCs_drop n r vr h'

theorem VCs_take : ∀ (n : Nat) (l : List PV) (vs : List Value), VCs g H w l vs → VCs g H w (l.take n) (vs.take n)
  | 0, l, vs, h => by simp [VCs]
  | n + 1, [], vs, h => by simp only [VCs] at h; subst h; simp [VCs]
  | n + 1, x :: r, vs, h => by
    simp only [VCs] at h
    obtain ⟨v, vr, rfl, o, h, h'⟩ := h
    simp only [List.take_succ_cons, VCs]
    exact ⟨v, vr.take n, rfl, o, h, VCs_take n r vr h'⟩

/-- The value of a part. -/
theorem partOf_sound {agg : Bool} {sz off : Nat} {row p : PV} {vs : List Value} (hrow : VCs g H w row.cells vs) (h : partOf agg sz row off = some p) :
    (agg = true ∧ off + sz ≤ vs.length ∧ VR g H w p (.agg ((vs.drop off).take sz).toArray)) ∨ (agg = false ∧ ∃ v, vs[off]? = some v ∧ VR g H w p v) := by
  unfold partOf at h
  have hl := VCs_length _ _ hrow
  cases agg
  · simp only [Bool.false_eq_true, if_false] at h
    obtain ⟨v, h1, _, h2⟩ := VCs_get _ _ _ _ hrow h
    exact .inr ⟨rfl, v, h1, h2⟩
  · simp only [if_true] at h
    split at h
    · rename_i hle
      cases h
      refine .inl ⟨rfl, by omega, ?_⟩
      simp only [VR]
      exact ⟨_, rfl, VCs_take _ _ _ (VCs_drop _ _ _ hrow)⟩
    · cases h

theorem isAggB_run {t : TypeId} {agg : Bool} (h : isAggB P t = some agg) : (isAgg t).run P w = .ok agg w := by
  unfold isAggB at h
  unfold isAgg
  split at h <;> first
    | (rename_i hu; cases h; simp [run_underlying hu]; done)
    | (rename_i d hd1 hd2 hu; cases h; simp only [Sem.run_bind, run_underlying hu, Result.andThen_ok]; cases d <;> first | rfl | (exact absurd rfl (hd1 _)) | (exact absurd rfl (hd2 _ _)); done)
    | cases h

theorem At_part {b o off sz : Nat} {vs : List Value} (h : At w b o vs) : At w b (o + off) ((vs.drop off).take sz) := by
  intro j u hj
  rw [List.getElem?_take] at hj
  split at hj
  · rw [List.getElem?_drop] at hj
    have := h (off + j) u hj
    rwa [show o + off + j = o + (off + j) from by omega]
  · cases hj

theorem addr_add (b o n : Nat) : (⟨b, o, none⟩ : Addr).add n = ⟨b, o + n, none⟩ := by
  unfold Addr.add; split <;> simp_all

theorem run_loadCells_at {b o : Nat} {cs : List Value} (h : At w b o cs) : (loadCells ⟨b, o, none⟩ cs.length).run P w = .ok cs.toArray w :=
  run_loadCells_list w _ cs (fun j v hj => by rw [addr_add]; exact h j v hj)

theorem loadVar_sound {t : TypeId} {agg : Bool} {i : TypeInfo} {b o off : Nat} {row p : PV} {vs : List Value} (hrow : VCs g H w row.cells vs) (hat : At w b o vs) (h : partOf agg i.size row off = some p)
    (ha : isAggB P t = some agg) (hi : P.info? t = some i) : ∃ v, (loadVar t ⟨b, o + off, none⟩).run P w = .ok v w ∧ VR g H w p v := by
  rcases partOf_sound hrow h with ⟨rfl, hl, hv⟩ | ⟨rfl, v, hv, hvr⟩
  · refine ⟨_, ?_, hv⟩
    have hlen : ((vs.drop off).take i.size).length = i.size := by rw [List.length_take, List.length_drop]; omega
    have := run_loadCells_at (P := P) (At_part (off := off) (sz := i.size) hat)
    rw [hlen] at this
    simp [loadVar, isAggB_run ha, sizeOf, typeInfo, hi, this]
  · refine ⟨v, ?_, hvr⟩
    have hc := hat off v hv
    simp [loadVar, isAggB_run ha, hc]

theorem op_load (hr : Rel E nt g F H a.tmps w) {t : TypeId} {agg : Bool} {i : TypeInfo} {x : Operand} {x' : Opd} (ho : o.op = .load t x) (ha : isAggB P t = some agg) (hi : P.info? t = some i) (hx : opd x = some x') {call} (h : opOut E call F H (.load agg i.size x') = some out) :
    OpR E nt g F H a.tmps w out ((execOp a.eval o).run P w) := by
  have fin : ∀ {b o1 off : Nat} {row p : PV} {vs : List Value}, a.eval x = .pointer (some ⟨b, o1 + off, none⟩) → VCs g H w row.cells vs → At w b o1 vs → partOf agg i.size row off = some p → out = ⟨some (.v p), none, H⟩ →
      OpR E nt g F H a.tmps w out ((execOp a.eval o).run P w) := by
    intro b o1 off row p vs he hrow hat hp hout
    subst hout
    obtain ⟨v, h1, h2⟩ := loadVar_sound (P := P) hrow hat hp ha hi
    refine OpR.val hr ?_ h2
    simp [execOp, ho, Instr.loadAt, he, Instr.sureAddr, h1]
  simp only [opOut] at h
  split at h
  · rename_i s off hev
    have hval := ev_sound hr hx hev
    obtain ⟨b, hb, he⟩ := hval
    split at h
    · rename_i row hrow
      split at h
      · rename_i p hp
        have hf := hr.frame s _ hrow
        obtain ⟨b', hb', _, _, cur, T, hh, hrr⟩ := hf
        rw [hb] at hb'; cases hb'
        refine fin (o1 := 0) (by simpa using he) (RowR_cells hrr) (At.of_cells (fr := (0, 0)) hh (by rw [List.drop_zero, List.take_length])) hp (outV_eq h)
      · cases h
    · cases h
  · rename_i rows k off hev
    have hval := ev_sound hr hx hev
    simp only [FVal, VR] at hval
    obtain ⟨b, o1, esz, he, hI, hz, hk, hrows⟩ := hval
    split at h
    · rename_i row hrow
      split at h
      · rename_i p hp
        obtain ⟨vs, h1, h2, h3⟩ := RowsC_get rows esz b o1 k row hrows hrow
        exact fin he (RowR_cells (RowR_of_RC row vs h2)) h3 hp (outV_eq h)
      · cases h
    · cases h
  · rename_i id ext k off hev
    have hval := ev_sound hr hx hev
    simp only [FVal, VR] at hval
    obtain ⟨hb, ad, e1, hle, he, hcond⟩ := hval
    split at h
    · rename_i hb' e2
      rw [e1] at e2; cases e2
      split at h
      · rename_i hext
        obtain ⟨b, o1, hρ, hk, hadd⟩ := hcond hext
        subst hadd
        split at h
        · rename_i row hrow
          split at h
          · rename_i p hp
            obtain ⟨b', o', hblk⟩ := hr.heap id hb e1
            have := hblk.at_
            rw [hρ] at this; cases this
            obtain ⟨vs, h1, h2, h3⟩ := RowsR_get hb.rows hb.esz b o1 k row hblk.rows hrow
            exact fin he (RowR_cells h2) h3 hp (outV_eq h)
          · cases h
        · cases h
      · cases h
    · cases h
  · cases h

theorem part_sound {t : TypeId} {agg : Bool} {i : TypeInfo} {off : Nat} {row p : PV} {vs : List Value} (hrow : VCs g H w row.cells vs) (h : partOf agg i.size row off = some p)
    (ha : isAggB P t = some agg) (hi : P.info? t = some i) : ∃ v, (part t vs.toArray off).run P w = .ok v w ∧ VR g H w p v := by
  rcases partOf_sound hrow h with ⟨rfl, hl, hv⟩ | ⟨rfl, v, hv, hvr⟩
  · refine ⟨_, ?_, hv⟩
    have e : vs.toArray.extract off (off + i.size) = ((vs.drop off).take i.size).toArray := by
      rw [← Array.toList_inj]
      simp [List.extract_eq_take_drop]
    simp [part, isAggB_run ha, sizeOf, typeInfo, hi]
  · refine ⟨v, ?_, hvr⟩
    simp [part, isAggB_run ha, hv]

theorem op_fld (hr : Rel E nt g F H a.tmps w) {t : TypeId} {f : Nat} {agg : Bool} {fs : Array Field} {fl : Field} {i : TypeInfo} {x : Operand} {x' : Opd} (ho : o.op = .field t x f) (hu : P.underlying t = some (.struct fs)) (hf : fs[f]? = some fl)
    (ha : isAggB P fl.type = some agg) (hi : P.info? fl.type = some i) (hx : opd x = some x') {call} (h : opOut E call F H (.fld agg i.size fl.offset x') = some out) :
    OpR E nt g F H a.tmps w out ((execOp a.eval o).run P w) := by
  simp only [opOut] at h
  split at h
  · rename_i cs hp
    split at h
    · rename_i p hpp
      have h1 := evV_sound hr hx hp
      simp only [VR] at h1
      obtain ⟨vs, e, hvs⟩ := h1
      obtain ⟨v, h2, h3⟩ := part_sound (P := P) (row := .agg cs) (by simpa [PV.cells] using hvs) hpp ha hi
      rw [outV_eq h]
      refine OpR.val hr ?_ h3
      simp [execOp, ho, Instr.field, run_underlying hu, hf, e, asAgg, h2]
    · cases h
  · cases h

theorem op_idx (hr : Rel E nt g F H a.tmps w) {t e : TypeId} {n : Nat} {agg : Bool} {j : TypeInfo} {x y : Operand} {x' y' : Opd} (ho : o.op = .index t x y) (hu : P.underlying t = some (.array n e))
    (ha : isAggB P e = some agg) (hi : P.info? e = some j) (hx : opd x = some x') (hy : opd y = some y') {call} (h : opOut E call F H (.idx agg n j.size x' y') = some out) :
    OpR E nt g F H a.tmps w out ((execOp a.eval o).run P w) := by
  simp only [opOut] at h
  split at h
  · rename_i cs m hp hm
    split at h
    · rename_i hbd
      split at h
      · rename_i p hpp
        have h1 := evV_sound hr hx hp
        simp only [VR] at h1
        obtain ⟨vs, e1, hvs⟩ := h1
        obtain ⟨k, e2, _⟩ := evInt_sound hr hy hm
        obtain ⟨v, h2, h3⟩ := part_sound (P := P) (row := .agg cs) (by simpa [PV.cells] using hvs) hpp ha hi
        rw [outV_eq h]
        refine OpR.val hr ?_ h3
        simp [execOp, ho, Instr.index, asIntOf, run_underlying hu, e1, e2, hbd, sizeOf, typeInfo, hi, h2]
      · cases h
    · cases h
  · cases h

theorem op_fad (hr : Rel E nt g F H a.tmps w) {s : TypeId} {f sz : Nat} {fs : Array Field} {fl : Field} {x : Operand} {x' : Opd} (ho : o.op = .fieldAddr s x f) (hu : P.underlying s = some (.struct fs)) (hf : fs[f]? = some fl)
    (hs : sizeB P fl.type = some sz) (hx : opd x = some x') {call} (h : opOut E call F H (.fad fl.offset x') = some out) :
    OpR E nt g F H a.tmps w out ((execOp a.eval o).run P w) := by
  have hrun' : ∀ (ad : Addr), a.eval x = .pointer (some ad) → (execOp a.eval o).run P w = .ok (.value (.pointer (some (ad.add fl.offset)))) w := by
    intro ad he
    unfold sizeB at hs
    split at hs
    · rename_i i hi
      split at hs
      · rename_i hpos
        have : ¬ i.size = 0 := by omega
        simp [execOp, ho, Instr.fieldAt, run_underlying hu, hf, he, Instr.sureAddr, fieldPlace, sizeOf, typeInfo, hi, this]
      · cases hs
    · cases hs
  have hrun : ∀ (b o1 : Nat), a.eval x = .pointer (some ⟨b, o1, none⟩) → (execOp a.eval o).run P w = .ok (.value (.pointer (some ⟨b, o1 + fl.offset, none⟩))) w := by
    intro b o1 he; rw [hrun' _ he, addr_add]
  simp only [opOut] at h
  split at h
  · rename_i s' off hev
    obtain ⟨b, hb, he⟩ := ev_sound hr hx hev
    cases h
    exact ⟨_, w, g, .inl (hrun b off he), Nx.refl g H w, hr, b, hb, rfl⟩
  · rename_i id e i oo hev
    have hval := ev_sound hr hx hev
    simp only [FVal, VR] at hval
    rw [outV_eq h]
    obtain ⟨hb, ad, e1, hle, he, hcond⟩ := hval
    by_cases hext : hb.rows.length = e
    · obtain ⟨b, o1, hρ, hk, hadd⟩ := hcond hext
      subst hadd
      refine OpR.val hr (hrun b _ he) ?_
      simp only [VR]
      exact ⟨hb, _, e1, hle, rfl, fun _ => ⟨b, o1, hρ, hk, by rw [Nat.add_assoc]⟩⟩
    · refine OpR.val hr (hrun' _ he) ?_
      simp only [VR]
      exact ⟨hb, _, e1, hle, rfl, fun he => absurd he hext⟩
  · rename_i rows i oo hev
    have hval := ev_sound hr hx hev
    simp only [FVal, VR] at hval
    rw [outV_eq h]
    obtain ⟨b, o1, esz, he, hI, hz, hk, hrows⟩ := hval
    refine OpR.val hr (hrun b _ he) ?_
    simp only [VR]
    exact ⟨b, o1, esz, by rw [Nat.add_assoc], hI, hz, hk, hrows⟩
  · cases h

theorem op_nilchk (hr : Rel E nt g F H a.tmps w) {x : Operand} {x' : Opd} (ho : o.op = .nilCheck x) (hx : opd x = some x') {call} (h : opOut E call F H (.nilchk x') = some out) :
    OpR E nt g F H a.tmps w out ((execOp a.eval o).run P w) := by
  simp only [opOut] at h
  split at h
  · rename_i s' off hev
    obtain ⟨b, hb, he⟩ := ev_sound hr hx hev
    cases h
    exact ⟨_, w, g, .inl (by simp [execOp, ho, he]), Nx.refl g H w, hr, b, hb, rfl⟩
  · rename_i hev
    have hval := ev_sound hr hx hev
    simp only [FVal] at hval
    have hv := hval
    simp only [VR] at hval
    obtain ⟨hb, ad, e1, hle, he, hcond⟩ := hval
    rw [outV_eq h]
    exact OpR.val hr (by simp [execOp, ho, he]) (he ▸ hv)
  · rename_i hev
    have hval := ev_sound hr hx hev
    simp only [FVal] at hval
    have hv := hval
    simp only [VR] at hval
    obtain ⟨b, o1, esz, he, _⟩ := hval
    rw [outV_eq h]
    exact OpR.val hr (by simp [execOp, ho, he]) (he ▸ hv)
  · rename_i hev
    have hval := ev_sound hr hx hev
    simp only [FVal] at hval
    have hv := hval
    simp only [VR] at hval
    obtain ⟨as, bs, he, _⟩ := hval
    rw [outV_eq h]
    exact OpR.val hr (by simp [execOp, ho, he, Gh.tr]) (he ▸ hv)
  · cases h

theorem sizeB_run {t : TypeId} {sz : Nat} (h : sizeB P t = some sz) : (sizeOf t).run P w = .ok sz w ∧ 0 < sz ∧ ∃ i, P.info? t = some i ∧ i.size = sz := by
  unfold sizeB at h
  split at h
  · rename_i i hi
    split at h
    · cases h
      exact ⟨by simp [sizeOf, typeInfo, hi], by assumption, i, hi, rfl⟩
    · cases h
  · cases h

theorem VCs_len {l : List PV} {vs : List Value} (h : VCs g H w l vs) : vs.length = l.length := VCs_length l vs h

theorem RC_cells_len {I : Nat → Prop} {x : PV} {vs : List Value} (h : RC I w x vs) : vs.length = x.cells.length := by
  cases x <;> simp only [RC, PV.cells] at h ⊢ <;> first
    | (subst h; rfl)
    | (obtain ⟨rfl, _⟩ := h; rfl)
    | (obtain ⟨_, _, _, rfl, _⟩ := h; rfl)
    | exact h.elim
    | skip
  rename_i cs
  induction cs generalizing vs with
  | nil => simp only [CellsC] at h; subst h; rfl
  | cons x r ih =>
    simp only [CellsC] at h
    obtain ⟨v, vr, rfl, _, _, h2⟩ := h
    simp [ih h2]

theorem op_iad (hr : Rel E nt g F H a.tmps w) {t e : TypeId} {sz : Nat} {x y : Operand} {x' y' : Opd} (ho : o.op = .indexAddr t x y) (hu : P.underlying t = some (.slice e)) (hs : sizeB P e = some sz) (hx : opd x = some x') (hy : opd y = some y') {call} (h : opOut E call F H (.iad sz x' y') = some out) :
    OpR E nt g F H a.tmps w out ((execOp a.eval o).run P w) := by
  obtain ⟨hsz, hpos, _⟩ := sizeB_run (P := P) (w := w) hs
  have hrun : ∀ (ad : Addr) (l c : Nat) (n : Int), a.eval x = .slice (some ad) l c → (∃ k, a.eval y = .int k n ∧ inK k n) → 0 ≤ n → n < l → (execOp a.eval o).run P w = .ok (.value (.pointer (some (ad.add (n.toNat * sz))))) w := by
    intro ad l c n he hn h0 h1
    obtain ⟨k, hn, _⟩ := hn
    simp [execOp, ho, Instr.indexAt, asIntOf, hn, run_underlying hu, he, h0, h1, hsz]
  simp only [opOut] at h
  split at h
  · rename_i rows n hp hn
    split at h
    · rename_i hbd
      split at h
      · rename_i row hrow
        split at h
        · rename_i hcl
          rw [outV_eq h]
          have h1 := evV_sound hr hx hp
          simp only [VR, RC] at h1
          obtain ⟨k, l, c, e1, hl, hc, hm, hrest⟩ := h1
          simp only [List.cons.injEq, and_true] at e1
          have hne : rows ≠ [] := by intro e; subst e; simp at hrow
          rcases hrest with hrest | ⟨b, o1, esz, rfl, hI, hz, hrows⟩
          · exact absurd hrest hne
          · obtain ⟨vs, hv1, hv2, hv3⟩ := RowsC_get rows esz b o1 n.toNat row hrows hrow
            have : esz = sz := by rw [← hv1, RC_cells_len hv2, hcl]
            subst this
            refine OpR.val hr (hrun _ _ _ n e1 (evInt_sound hr hy hn) hbd.1 (by omega)) ?_
            simp only [VR]
            refine ⟨b, o1 + n.toNat * esz, esz, by rw [addr_add]; simp, hI, hz, by simp, ?_⟩
            simp only [RowsC]
            exact ⟨⟨vs, hv1, hv2, hv3⟩, trivial⟩
        · cases h
      · cases h
    · cases h
  · rename_i id lo len ext cap n hp hn
    split at h
    · rename_i hbd
      split at h
      · rename_i hb hhb
        split at h
        · rename_i hz
          rw [outV_eq h]
          have h1 := evV_sound hr hx hp
          simp only [VR] at h1
          obtain ⟨hb', ad, c, e1, hle, e2, hc, hm, hcc, hcond⟩ := h1
          rw [hhb] at e1; cases e1
          refine OpR.val hr (hrun _ _ _ n e2 (evInt_sound hr hy hn) hbd.1 hbd.2) ?_
          simp only [VR]
          refine ⟨hb, _, hhb, hle, rfl, fun hext => ?_⟩
          obtain ⟨b, o1, hρ, hle2, had, _⟩ := hcond hext
          have hc0 : c ≠ 0 := by omega
          refine ⟨b, o1, hρ, by omega, ?_⟩
          rw [had hc0, addr_add, hz]
          congr 1
          rw [Nat.add_mul]; omega
        · cases h
      · cases h
    · cases h
  · rename_i id ext r off m e n hp hn
    split at h
    · rename_i hbd
      obtain ⟨h1, h2, h3⟩ := hbd
      subst h3
      rw [outV_eq h]
      have hv := evV_sound hr hx hp
      simp only [VR] at hv
      obtain ⟨ad, ⟨hb, ad', e1, hle, e2, hcond⟩, e3, _⟩ := hv
      cases e2
      refine OpR.val hr (hrun _ _ _ n e3 (evInt_sound hr hy hn) h1 h2) ?_
      simp only [VR]
      refine ⟨hb, _, e1, hle, rfl, fun hext => ?_⟩
      obtain ⟨b, o1, hρ, hk, hadd⟩ := hcond hext
      exact ⟨b, o1, hρ, hk, by rw [hadd, addr_add, Nat.add_assoc]⟩
    · cases h
  · cases h

theorem op_iadA (hr : Rel E nt g F H a.tmps w) {t e : TypeId} {m sz : Nat} {x y : Operand} {x' y' : Opd} (ho : o.op = .indexAddr t x y) (hu : P.underlying t = some (.array m e)) (hs : sizeB P e = some sz) (hx : opd x = some x') (hy : opd y = some y') {call} (h : opOut E call F H (.iadA m sz x' y') = some out) :
    OpR E nt g F H a.tmps w out ((execOp a.eval o).run P w) := by
  obtain ⟨hsz, hpos, _⟩ := sizeB_run (P := P) (w := w) hs
  have hrun : ∀ (ad : Addr) (n : Int), a.eval x = .pointer (some ad) → (∃ k, a.eval y = .int k n ∧ inK k n) → 0 ≤ n → n < m → (execOp a.eval o).run P w = .ok (.value (.pointer (some (ad.add (n.toNat * sz))))) w := by
    intro ad n he hn h0 h1
    obtain ⟨k, hn, _⟩ := hn
    simp [execOp, ho, Instr.indexAt, asIntOf, hn, run_underlying hu, he, Instr.sureAddr, h0, h1, hsz]
  simp only [opOut] at h
  split at h
  · rename_i s' off n hev hn
    obtain ⟨b, hb, he⟩ := ev_sound hr hx hev
    split at h
    · rename_i hbd
      cases h
      exact ⟨_, w, g, .inl (hrun _ n he (evInt_sound hr hy hn) hbd.1 hbd.2), Nx.refl g H w, hr, b, hb, by rw [addr_add]⟩
    · cases h
  · rename_i id ex i oo n hev hn
    have hval := ev_sound hr hx hev
    simp only [FVal, VR] at hval
    split at h
    · rename_i hbd
      rw [outV_eq h]
      obtain ⟨hb, ad, e1, hle, he, hcond⟩ := hval
      refine OpR.val hr (hrun _ n he (evInt_sound hr hy hn) hbd.1 hbd.2) ?_
      simp only [VR]
      refine ⟨hb, _, e1, hle, rfl, fun hext => ?_⟩
      obtain ⟨b, o1, hρ, hk, hadd⟩ := hcond hext
      exact ⟨b, o1, hρ, hk, by rw [hadd, addr_add, Nat.add_assoc]⟩
    · cases h
  · rename_i rows i oo n hev hn
    have hval := ev_sound hr hx hev
    simp only [FVal, VR] at hval
    split at h
    · rename_i hbd
      rw [outV_eq h]
      obtain ⟨b, o1, esz, he, hI, hz, hk, hrows⟩ := hval
      refine OpR.val hr (hrun _ n he (evInt_sound hr hy hn) hbd.1 hbd.2) ?_
      simp only [VR]
      exact ⟨b, o1, esz, by rw [addr_add, Nat.add_assoc], hI, hz, hk, hrows⟩
    · cases h
  · cases h
end
end Go.Pf
