/- The framework, part 13: literals of structs, slice expressions. -/
import Derived.Test.YthlajkcfbpfmdaaFw12
namespace Go.Pf
open Go Go.RowKit
section
variable {P : Program} {E : Env} {nt : Nat} {g g' : Gh} {F : Frm} {H H' : Hp} {a : Act} {w w' : World} {o : Oper} {out : Out}

theorem foldl_splice (off : Nat) : ∀ (vs : List Value) (j : Nat) (cs : Array Value), off + j + vs.length ≤ cs.size →
    ((vs.zipIdx j).foldl (fun (cs : Array Value) (x : Value × Nat) => cs.setIfInBounds (off + x.2) x.1) cs).toList = cs.toList.take (off + j) ++ (vs ++ cs.toList.drop (off + j + vs.length))
  | [], j, cs, h => by simp
  | v :: r, j, cs, h => by
    simp only [List.zipIdx_cons, List.foldl_cons]
    simp only [List.length_cons] at h
    rw [foldl_splice off r (j + 1) _ (by simp; omega)]
    simp only [Array.toList_setIfInBounds]
    have hlt : off + j < cs.toList.length := by simp; omega
    rw [List.drop_set_of_lt (by omega)]
    rw [show off + (j + 1) = (off + j) + 1 from by omega, List.take_succ_eq_append_getElem (by simpa using hlt)]
    simp only [List.getElem_set_self, List.length_cons]
    rw [List.take_set_of_le (Nat.le_refl _)]
    simp only [List.append_assoc, List.singleton_append]
    congr 2
    rw [show off + j + 1 + r.length = off + j + (r.length + 1) from by omega]
    simp

theorem fill_step (place : Nat → Option (Nat × Nat)) (cells : Array Value) (i off size : Nat) (v : Value) (rest : List (Nat × Value)) (hp : place i = some (off, size)) (hs : v.cells.size = size) (hl : off + size ≤ cells.size) :
    Instr.fill place cells ((i, v) :: rest) = Instr.fill place (cells.toList.take off ++ (v.cells.toList ++ cells.toList.drop (off + size))).toArray rest := by
  rw [Instr.fill, hp]
  simp only
  rw [if_neg (by simp [hs]; omega)]
  congr 1
  apply Array.ext'
  rw [← Array.foldl_toList, Array.toList_zipIdx]
  have := foldl_splice off v.cells.toList 0 cells (by simp; omega)
  simp only [Nat.add_zero] at this
  rw [this]
  simp [hs]

theorem VCs_splice {l x : List PV} {vs us : List Value} {off n : Nat} (h : VCs g H w l vs) (hx : VCs g H w x us) : VCs g H w (l.take off ++ (x ++ l.drop n)) (vs.take off ++ (us ++ vs.drop n)) :=
  VCs_append (VCs_take _ _ _ h) (VCs_append hx (VCs_drop _ _ _ h))

theorem allOne_VCs : ∀ (l : List PV) (vs : List Value), VCs g H w l vs → allOne l = true
  | [], vs, _ => rfl
  | x :: r, vs, h => by
    simp only [VCs] at h
    obtain ⟨v, vr, rfl, o, h1, h2⟩ := h
    simp [allOne, o, allOne_VCs r vr h2]

theorem fill_struct (hr : Rel E nt g F H a.tmps w) (fs : Array Field) (places : Array (Nat × Nat)) (hpl : ∀ (i : Nat) (f : Field) (j : TypeInfo), fs[i]? = some f → P.info? f.type = some j → places[i]? = some (f.offset, j.size)) :
    ∀ (parts : List (Nat × Operand)) (ps : List (Nat × Nat × Opd)) (cs cs' : List PV) (vs : List Value), partsS P fs parts = some ps → VCs g H w cs vs → fillP E F cs ps = some cs' →
    ∃ us, Instr.fill (places[·]?) vs.toArray (parts.map fun (i, x) => (i, a.eval x)) = some us ∧ VCs g H w cs' us.toList
  | [], ps, cs, cs', vs, h, hv, hf => by
    simp [partsS] at h; subst h
    simp [fillP] at hf; subst hf
    exact ⟨vs.toArray, by simp [Instr.fill], by simpa using hv⟩
  | (i, x) :: r, ps, cs, cs', vs, h, hv, hf => by
    simp only [partsS] at h
    split at h
    · rename_i f x' l h1 h2 h3
      split at h
      · rename_i j hj
        cases h
        simp only [fillP] at hf
        split at hf
        · rename_i p hp
          split at hf
          · rename_i hc
            obtain ⟨hc1, hc2, hc3⟩ := hc
            have hvp := evV_sound hr h2 hp
            have hcells := (VR_cells hvp hc3).1
            have hl1 := VCs_length _ _ hcells
            have hl2 := VCs_length _ _ hv
            have hnew := VCs_splice (off := f.offset) (n := f.offset + j.size) hv hcells
            obtain ⟨us, hu1, hu2⟩ := fill_struct hr fs places hpl r l _ cs' _ h3 hnew hf
            refine ⟨us, ?_, hu2⟩
            rw [List.map_cons, fill_step _ _ _ _ _ _ _ (hpl i f j h1 hj) (by simpa [hc1] using hl1) (by simp; omega)]
            simpa using hu1
          · cases hf
        · cases hf
      · cases h
    · cases h

theorem fill_array (hr : Rel E nt g F H a.tmps w) (sz : Nat) :
    ∀ (parts : List (Nat × Operand)) (ps : List (Nat × Nat × Opd)) (cs cs' : List PV) (vs : List Value), partsA sz parts = some ps → VCs g H w cs vs → fillP E F cs ps = some cs' →
    ∃ us, Instr.fill (fun i => some (i * sz, sz)) vs.toArray (parts.map fun (i, x) => (i, a.eval x)) = some us ∧ VCs g H w cs' us.toList
  | [], ps, cs, cs', vs, h, hv, hf => by
    simp [partsA] at h; subst h
    simp [fillP] at hf; subst hf
    exact ⟨vs.toArray, by simp [Instr.fill], by simpa using hv⟩
  | (i, x) :: r, ps, cs, cs', vs, h, hv, hf => by
    simp only [partsA] at h
    split at h
    · rename_i x' l h2 h3
      cases h
      simp only [fillP] at hf
      split at hf
      · rename_i p hp
        split at hf
        · rename_i hc
          obtain ⟨hc1, hc2, hc3⟩ := hc
          have hvp := evV_sound hr h2 hp
          have hcells := (VR_cells hvp hc3).1
          have hl1 := VCs_length _ _ hcells
          have hl2 := VCs_length _ _ hv
          have hnew := VCs_splice (off := i * sz) (n := i * sz + sz) hv hcells
          obtain ⟨us, hu1, hu2⟩ := fill_array hr sz r l _ cs' _ h3 hnew hf
          refine ⟨us, ?_, hu2⟩
          rw [List.map_cons, fill_step _ _ _ _ _ _ _ rfl (by simpa [hc1] using hl1) (by simp; omega)]
          simpa using hu1
        · cases hf
      · cases hf
    · cases h

theorem zeroB_run {t : TypeId} {z : PV} (h : zeroB P t = some z) : ∃ i v, P.info? t = some i ∧ i.zero = some v ∧ VR g H w z v ∧ VCs g H w z.cells v.cells.toList ∧ RowR g H w z v.cells.toList ∧ v.cells.size = i.size := by
  unfold zeroB at h
  split at h
  · rename_i i hi
    split at h
    · rename_i v hv
      split at h
      · rename_i p hp
        split at h
        · rename_i hl
          cases h
          have hvr := pvConst_sound (g := g) (H := H) (w := w) hp
          have ho : allOne z.cells = true := by
            unfold pvConst at hp
            split at hp
            · split at hp
              · rename_i l hc
                cases hp
                exact allOne_VCs (g := g) (H := H) (w := w) _ _ (cellsConst_sound _ _ hc)
              · cases hp
            · have := (cellConst_sound (g := g) (H := H) (w := w) hp).1
              cases z <;> simp [PV.cells, allOne, PV.one] at this ⊢
          obtain ⟨h1, h2⟩ := VR_cells hvr ho
          exact ⟨i, v, hi, hv, hvr, h1, h2, by have := VCs_length _ _ h1; simpa [hl] using this⟩
        · cases h
      · cases h
    · cases h
  · cases h

theorem mapM_places (w : World) (fs : List Field) : (∀ f ∈ fs, ∃ j, P.info? f.type = some j) → ∃ places : List (Nat × Nat), (fs.mapM fun f => (do pure (f.offset, ← sizeOf f.type) : Sem (Nat × Nat))).run P w = .ok places w ∧
    ∀ (i : Nat) (f : Field) (j : TypeInfo), fs[i]? = some f → P.info? f.type = some j → places[i]? = some (f.offset, j.size) := by
  induction fs with
  | nil => intro _; exact ⟨[], by simp, by simp⟩
  | cons f r ih =>
    intro h
    obtain ⟨places, h1, h2⟩ := ih (fun f hf => h f (List.mem_cons_of_mem _ hf))
    obtain ⟨j, hj⟩ := h f (List.mem_cons_self ..)
    refine ⟨(f.offset, j.size) :: places, ?_, ?_⟩
    · rw [List.mapM_cons]
      simp only [Sem.run_bind, sizeOf, typeInfo, run_program, Result.andThen_ok, hj, Sem.run_pure] at h1 ⊢
      simp only [h1, Result.andThen_ok]
    · intro i f' j' hf hj'
      cases i with
      | zero => simp at hf; subst hf; rw [hj] at hj'; cases hj'; rfl
      | succ i => simpa using h2 i f' j' (by simpa using hf) hj'

theorem op_build_struct (hr : Rel E nt g F H a.tmps w) {t : TypeId} {parts : Array (Nat × Operand)} {fs : Array Field} {z : PV} {ps : List (Nat × Nat × Opd)} (ho : o.op = .build t parts) (hz : zeroB P t = some z) (hu : P.underlying t = some (.struct fs))
    (hinfo : fs.toList.all (fun f => (P.info? f.type).isSome) = true) (hps : partsS P fs parts.toList = some ps) {call} (h : opOut E call F H (.build z.cells ps) = some out) :
    OpR E nt g F H a.tmps w out ((execOp a.eval o).run P w) := by
  simp only [opOut] at h
  split at h
  · rename_i cs hcs
    rw [outV_eq h]
    obtain ⟨i, v, hi, hv, _, hcells, _, hsz⟩ := zeroB_run (P := P) (g := g) (H := H) (w := w) hz
    obtain ⟨places, hp1, hp2⟩ := mapM_places (P := P) w fs.toList (fun f hf => by
      have := List.all_eq_true.1 hinfo f hf
      exact Option.isSome_iff_exists.1 this)
    obtain ⟨us, h1, h2⟩ := fill_struct hr fs places.toArray (fun i f j hf hj => by simpa using hp2 i f j (by simpa using hf) hj) parts.toList ps z.cells cs v.cells.toList hps hcells hcs
    refine OpR.val hr (v := .agg us) ?_ (by simp only [VR]; exact ⟨us.toList, by simp, h2⟩)
    have hz0 : (zeroValue t).run P w = .ok v w := by simp [zeroValue, typeInfo, hi, hv]
    have hm : (fs.mapM fun f => (do pure (f.offset, ← sizeOf f.type) : Sem (Nat × Nat))).run P w = .ok places.toArray w := by
      rw [Array.mapM_eq_mapM_toList]
      simp only [Sem.run_map]
      rw [hp1]; rfl
    have e1 : (parts.map fun (i, x) => (i, a.eval x)).toList = parts.toList.map fun (i, x) => (i, a.eval x) := by simp
    have e2 : v.cells.toList.toArray = v.cells := by simp
    simp only [e2] at h1
    simp only [execOp, ho, Instr.build, Sem.run_bind, hz0, Result.andThen_ok, run_underlying hu, hm, e1, h1, Sem.run_pure]
  · cases h

theorem op_build_array (hr : Rel E nt g F H a.tmps w) {t e : TypeId} {n : Nat} {parts : Array (Nat × Operand)} {z : PV} {ps : List (Nat × Nat × Opd)} {i0 : TypeInfo} (ho : o.op = .build t parts) (hz : zeroB P t = some z) (hu : P.underlying t = some (.array n e))
    (hinfo : P.info? e = some i0) (hps : partsA i0.size parts.toList = some ps) {call} (h : opOut E call F H (.build z.cells ps) = some out) :
    OpR E nt g F H a.tmps w out ((execOp a.eval o).run P w) := by
  simp only [opOut] at h
  split at h
  · rename_i cs hcs
    rw [outV_eq h]
    obtain ⟨i, v, hi, hv, _, hcells, _, hsz⟩ := zeroB_run (P := P) (g := g) (H := H) (w := w) hz
    obtain ⟨us, h1, h2⟩ := fill_array hr i0.size parts.toList ps z.cells cs v.cells.toList hps hcells hcs
    refine OpR.val hr (v := .agg us) ?_ (by simp only [VR]; exact ⟨us.toList, by simp, h2⟩)
    have hz0 : (zeroValue t).run P w = .ok v w := by simp [zeroValue, typeInfo, hi, hv]
    have e1 : (parts.map fun (i, x) => (i, a.eval x)).toList = parts.toList.map fun (i, x) => (i, a.eval x) := by simp
    have e2 : v.cells.toList.toArray = v.cells := by simp
    have e3 : (sizeOf e).run P w = .ok i0.size w := by simp [sizeOf, typeInfo, hinfo]
    simp only [e2] at h1
    simp only [execOp, ho, Instr.build, Sem.run_bind, hz0, Result.andThen_ok, run_underlying hu, e3, e1, h1, Sem.run_pure]
  · cases h

/-- An operand of a slice expression. -/
def OInt (v : Option Value) (n : Option Int) : Prop :=
  match v, n with
  | none, none => True
  | some v, some n => ∃ k, v = .int k n
  | _, _ => False

theorem evO_sound (hr : Rel E nt g F H a.tmps w) {x : Option Operand} {x' : Option Opd} {n : Option Int} (hx : opdO x = some x') (h : evO E F x' = some n) : OInt (x.map a.eval) n := by
  cases x with
  | none =>
    simp [opdO] at hx; subst hx
    simp [evO] at h; subst h
    simp [OInt]
  | some y =>
    simp only [opdO] at hx
    split at hx
    · rename_i y' hy
      cases hx
      simp only [evO, Option.map_eq_some_iff] at h
      obtain ⟨m, hm, rfl⟩ := h
      obtain ⟨k, e, _⟩ := evInt_sound hr hy hm
      exact ⟨k, e⟩
    · cases hx

theorem run_sliceBound {v : Value} {k : IntKind} {n : Int} {y : Nat} {code : BoundsCode} (hv : v = .int k n) (h0 : 0 ≤ n) (h1 : n ≤ y) : (Instr.sliceBound v y code).run P w = .ok n.toNat w := by
  subst hv
  simp [Instr.sliceBound, asIntOf, h0, h1]

theorem run_sliceBounds {len cap : Nat} {lo hi mx : Option Value} {l h m : Option Int} (hl : OInt lo l) (hh : OInt hi h) (hm : OInt mx m) (hs : (m.isSome && h.isNone) = false)
    (b0 : 0 ≤ l.getD 0) (b1 : l.getD 0 ≤ h.getD len) (b2 : h.getD len ≤ m.getD cap) (b3 : m.getD cap ≤ cap) :
    (Instr.sliceBounds true len cap lo hi mx).run P w = .ok ((l.getD 0).toNat, (h.getD len).toNat, (m.getD cap).toNat) w := by
  have L : ∀ (y : Nat) (code : BoundsCode) (v : Value), lo = some v → l.getD 0 ≤ y → (Instr.sliceBound v y code).run P w = .ok (l.getD 0).toNat w := by
    intro y code v e hy
    subst e
    cases l with
    | none => simp [OInt] at hl
    | some n => obtain ⟨k, hk⟩ := hl; exact run_sliceBound hk b0 hy
  have L0 : lo = none → (l.getD 0).toNat = 0 := by
    intro e; subst e
    cases l with
    | none => rfl
    | some n => simp [OInt] at hl
  have Hh : ∀ (y : Nat) (code : BoundsCode) (v : Value), hi = some v → h.getD len ≤ y → (Instr.sliceBound v y code).run P w = .ok (h.getD len).toNat w := by
    intro y code v e hy
    subst e
    cases h with
    | none => simp [OInt] at hh
    | some n => obtain ⟨k, hk⟩ := hh; exact run_sliceBound hk (by simp only [Option.getD_some] at b1 ⊢; omega) hy
  have H0 : hi = none → h = none := by
    intro e; subst e
    cases h with
    | none => rfl
    | some n => simp [OInt] at hh
  have M : ∀ (code : BoundsCode) (v : Value), mx = some v → (Instr.sliceBound v cap code).run P w = .ok (m.getD cap).toNat w := by
    intro code v e
    subst e
    cases m with
    | none => simp [OInt] at hm
    | some n => obtain ⟨k, hk⟩ := hm; exact run_sliceBound hk (by simp only [Option.getD_some] at b2 ⊢; omega) b3
  have M0 : mx = none → m = none := by
    intro e; subst e
    cases m with
    | none => rfl
    | some n => simp [OInt] at hm
  have M1 : ∀ v, mx = some v → m.isSome = true := by
    intro v e; subst e
    cases m with
    | none => simp [OInt] at hm
    | some n => rfl
  have c1 : ((h.getD len).toNat : Int) = h.getD len := by omega
  have c2 : ((m.getD cap).toNat : Int) = m.getD cap := by omega
  cases lo <;> cases hi <;> cases mx
  · have := L0 rfl; cases H0 rfl; cases M0 rfl
    simp [Instr.sliceBounds, this]
  · exfalso
    rw [H0 rfl, M1 _ rfl] at hs; simp at hs
  · have := L0 rfl; cases M0 rfl
    simp [Instr.sliceBounds, this, Hh _ _ _ rfl b2]
  · have := L0 rfl
    simp [Instr.sliceBounds, this, M _ _ rfl, Hh _ _ _ rfl (show h.getD len ≤ ((m.getD cap).toNat : Nat) by omega)]
  · cases H0 rfl; cases M0 rfl
    simp only [Option.getD_none] at b1
    simp [Instr.sliceBounds, L _ _ _ rfl b1]
  · exfalso
    rw [H0 rfl, M1 _ rfl] at hs; simp at hs
  · cases M0 rfl
    simp [Instr.sliceBounds, Hh _ _ _ rfl b2, L _ _ _ rfl (show l.getD 0 ≤ ((h.getD len).toNat : Nat) by omega)]
  · simp [Instr.sliceBounds, M _ _ rfl, Hh _ _ _ rfl (show h.getD len ≤ ((m.getD cap).toNat : Nat) by omega), L _ _ _ rfl (show l.getD 0 ≤ ((h.getD len).toNat : Nat) by omega)]

theorem run_slice {t e : TypeId} {sz : Nat} (hu : P.underlying t = some (.slice e)) (hs : (sizeOf e).run P w = .ok sz w) {ad : Option Addr} {len cap : Nat} {lo hi mx : Option Value} {l h m : Nat}
    (hb : (Instr.sliceBounds true len cap lo hi mx).run P w = .ok (l, h, m) w) : (Instr.sliceAt t (.slice ad len cap) lo hi mx).run P w = .ok (.slice (if m = l then ad else ad.map (·.add (l * sz))) (h - l) (m - l)) w := by
  simp [Instr.sliceAt, run_underlying hu, Instr.slice, hb, hs]

theorem op_slcA (hr : Rel E nt g F H a.tmps w) {t e : TypeId} {m sz : Nat} {x : Operand} {x' : Opd} (ho : o.op = .slice t x none none none) (hu : P.underlying t = some (.array m e)) (hs : sizeB P e = some sz) (hx : opd x = some x') {call} (h : opOut E call F H (.slcA m sz x') = some out) :
    OpR E nt g F H a.tmps w out ((execOp a.eval o).run P w) := by
  obtain ⟨hsz, hpos, _⟩ := sizeB_run (P := P) (w := w) hs
  simp only [opOut] at h
  split at h
  · rename_i id ex i oo hev
    have hval := ev_sound hr hx hev
    simp only [FVal, VR] at hval
    split at h
    · rename_i hbd
      rw [outV_eq h]
      obtain ⟨hb, ad, e1, hle, he, hcond⟩ := hval
      have hz : ad.add 0 = ad := by cases ad; rfl
      refine OpR.val (v := .slice (some ad) m m) hr ?_ ?_
      · have hm : ¬ m = 0 := hbd.1
        simp [execOp, ho, Instr.sliceAt, run_underlying hu, he, Instr.sureAddr, Instr.sliceBounds, hsz, hz]
      · simp only [VR]
        exact ⟨ad, ⟨hb, ad, e1, hle, rfl, hcond⟩, rfl, hbd.2⟩
    · cases h
  · cases h
theorem op_slc (hr : Rel E nt g F H a.tmps w) {t e : TypeId} {sz : Nat} {x : Operand} {lo hi mx : Option Operand} {x' : Opd} {lo' hi' mx' : Option Opd} (ho : o.op = .slice t x lo hi mx) (hu : P.underlying t = some (.slice e)) (hs : sizeB P e = some sz)
    (hx : opd x = some x') (hlo : opdO lo = some lo') (hhi : opdO hi = some hi') (hmx : opdO mx = some mx') {call} (h : opOut E call F H (.slc sz x' lo' hi' mx') = some out) :
    OpR E nt g F H a.tmps w out ((execOp a.eval o).run P w) := by
  obtain ⟨hsz, hpos, _⟩ := sizeB_run (P := P) (w := w) hs
  simp only [opOut] at h
  split at h
  · rename_i p l hh m hp hl hhh hm
    split at h
    · cases h
    · rename_i hsome
      have hsome : (m.isSome && hh.isNone) = false := by revert hsome; cases m <;> cases hh <;> simp
      split at h
      · rename_i r hrr
        rw [outV_eq h]
        have hv := evV_sound hr hx hp
        have ol := evO_sound hr hlo hl
        have oh := evO_sound hr hhi hhh
        have om := evO_sound hr hmx hm
        have fin : ∀ {ad : Option Addr} {len cap : Nat}, a.eval x = .slice ad len cap → 0 ≤ l.getD 0 → l.getD 0 ≤ hh.getD len → hh.getD len ≤ m.getD cap → m.getD cap ≤ cap →
            VR g H w r (.slice (if (m.getD cap).toNat = (l.getD 0).toNat then ad else ad.map (·.add ((l.getD 0).toNat * sz))) ((hh.getD len).toNat - (l.getD 0).toNat) ((m.getD cap).toNat - (l.getD 0).toNat)) →
            OpR E nt g F H a.tmps w ⟨some (.v r), none, H⟩ ((execOp a.eval o).run P w) := by
          intro ad len cap he b0 b1 b2 b3 hvr
          refine OpR.val hr ?_ hvr
          have := run_slice (P := P) (w := w) hu hsz (ad := ad) (run_sliceBounds ol oh om hsome b0 b1 b2 b3)
          simp [execOp, ho, he, this]
        unfold sliceV at hrr
        split at hrr
        · split at hrr
          · rename_i hz
            cases hrr
            simp only [VR] at hv
            have h1 : hh.getD (0 : Nat) = 0 := hz.2.1
            have h2 : m.getD (0 : Nat) = 0 := hz.2.2
            refine fin hv (by omega) (by omega) (by omega) (by omega) ?_
            rw [h1, h2, hz.1]
            simp [VR]
          · cases hrr
        · split at hrr
          · rename_i hz
            cases hrr
            simp only [VR] at hv
            obtain ⟨ad, hv⟩ := hv
            have h1 : hh.getD (0 : Nat) = 0 := hz.2.1
            have h2 : m.getD (0 : Nat) = 0 := hz.2.2
            refine fin hv (by omega) (by omega) (by omega) (by omega) ?_
            rw [h1, h2, hz.1]
            simp [VR]
          · cases hrr
        · rename_i rows
          simp only [VR, RC] at hv
          obtain ⟨ad, len, cap, e1, hlen, hc, hmx', hrest⟩ := hv
          simp only [List.cons.injEq, and_true] at e1
          subst hlen
          -- the rows of the part
          have part : ∀ (l0 h0 m0 : Nat), l0 ≤ h0 → h0 ≤ m0 → h0 ≤ rows.length → m0 ≤ cap → (l0 = 0 ∨ headOk sz rows = true) →
              VR g H w (.data ((rows.take h0).drop l0)) (.slice (if m0 = l0 then ad else ad.map (·.add (l0 * sz))) (h0 - l0) (m0 - l0)) := by
            intro l0 h0 m0 k1 k2 k3 k4 k5
            simp only [VR, RC]
            refine ⟨_, _, _, rfl, by simp; omega, by omega, by omega, ?_⟩
            rcases hrest with hrest | ⟨b, o1, esz, rfl, hI, hz, hrows⟩
            · subst hrest; left; simp
            · by_cases hemp : (rows.take h0).drop l0 = []
              · exact .inl hemp
              · have hne : rows ≠ [] := by intro e; subst e; simp at hemp
                right
                have hseg := RowsC_seg hrows l0 (h0 - l0)
                have eseg : (rows.take h0).drop l0 = (rows.drop l0).take (h0 - l0) := by rw [List.drop_take]
                rw [eseg]
                have hlt : l0 < h0 := by
                  rcases Nat.lt_or_ge l0 h0 with h1 | h1
                  · exact h1
                  · exfalso; apply hemp; apply List.drop_eq_nil_of_le; simp; omega
                by_cases hl0 : l0 = 0
                · subst hl0
                  refine ⟨b, o1, esz, ?_, hI, hz, by simpa using hseg⟩
                  split
                  · rfl
                  · simp [addr_add]
                · have hz' : esz = sz := by
                    have hh1 := k5.resolve_left hl0
                    cases hrw : rows with
                    | nil => exact absurd hrw hne
                    | cons y ys =>
                      rw [hrw] at hh1 hrows
                      simp only [headOk, beq_iff_eq] at hh1
                      simp only [RowsC] at hrows
                      obtain ⟨⟨vs, q1, q2, _⟩, _⟩ := hrows
                      rw [← q1, RC_cells_len q2, hh1]
                  subst hz'
                  refine ⟨b, o1 + l0 * esz, esz, ?_, hI, hz, hseg⟩
                  rw [if_neg (by omega)]
                  simp [addr_add]
          dsimp only at hrr
          split at hrr
          · split at hrr
            · rename_i hb
              cases hrr
              refine fin e1 hb.1 hb.2.1 (by simp only [Option.getD_none]; omega) (Int.le_refl _) ?_
              simp only [Option.getD_none] at *
              exact part _ _ _ (by omega) (by omega) (by omega) (by omega) (hb.2.2.2.imp (fun e => by omega) id)
            · cases hrr
          · rename_i mm _
            split at hrr
            · rename_i hb
              refine fin e1 hb.1 hb.2.1 (by simp only [Option.getD_some]; omega) (by simp only [Option.getD_some]; omega) ?_
              simp only [Option.getD_some] at *
              split at hrr
              · rename_i hlm
                cases hrr
                simp only [VR]
                have z1 : (hh.getD (rows.length : Int)).toNat - (l.getD 0).toNat = 0 := by omega
                have z2 : mm.toNat - (l.getD 0).toNat = 0 := by omega
                rw [z1, z2]
                exact ⟨_, rfl⟩
              · rename_i hlm
                cases hrr
                exact part _ _ _ (by omega) (by omega) (by omega) (by omega) (hb.2.2.2.2.imp (fun e => by omega) id)
            · cases hrr
        · rename_i id lo0 len ext cap
          simp only [VR] at hv
          obtain ⟨hb, ad, c, e1, hle, e2, hc, hmx', hcc, hcond⟩ := hv
          dsimp only at hrr
          rw [e1] at hrr
          simp only [beq_eq_false_iff_ne, ne_eq] at hrr
          by_cases hesz : hb.esz = sz
          case neg => rw [if_pos hesz] at hrr; cases hrr
          case pos =>
            rw [if_neg (fun x => x hesz)] at hrr
            -- the part of an own slice
            have part : ∀ (l0 h0 m0 : Nat) (cap' : Option Nat), l0 ≤ h0 → h0 ≤ m0 → m0 ≤ c → (∀ c0, cap' = some c0 → m0 - l0 = c0) → (hb.rows.length = ext → lo0 + h0 ≤ ext) → (cap' = none → cap = none ∧ m0 = c) → (hb.rows.length = ext → (∃ c0, cap' = some c0) → lo0 + m0 ≤ ext) →
                VR g H w (.own id (lo0 + l0) (h0 - l0) ext cap') (.slice (if m0 = l0 then some ad else (some ad).map (·.add (l0 * sz))) (h0 - l0) (m0 - l0)) := by
              intro l0 h0 m0 cap' k1 k2 k3 k4 k5 k6 k7
              simp only [VR]
              refine ⟨hb, if m0 = l0 then ad else ad.add (l0 * sz), m0 - l0, e1, hle, by split <;> simp_all, by omega, by omega, k4, fun hext => ?_⟩
              obtain ⟨b, o1, hρ, hle2, had, hcap, cur, T, hh1, hfit⟩ := hcond hext
              have := k5 hext
              refine ⟨b, o1, hρ, by omega, fun hne => ?_, ?_, cur, T, hh1, ?_⟩
              · rw [if_neg (by omega), had (by omega), addr_add, ← hesz]
                congr 1; rw [Nat.add_mul]; omega
              · cases cap' with
                | some c0 => have := k7 hext ⟨c0, rfl⟩; simp only [capFits]; omega
                | none =>
                  obtain ⟨rfl, rfl⟩ := k6 rfl
                  simp only [capFits] at hcap ⊢; omega
              · refine Nat.le_trans (Nat.add_le_add_left (Nat.mul_le_mul_right _ (by omega)) _) hfit
            have hlen : hb.rows.length = ext → lo0 + len ≤ ext := fun hext => (hcond hext).choose_spec.choose_spec.2.1
            have hcapc : ∀ c0, cap = some c0 → hb.rows.length = ext → lo0 + c0 ≤ ext := by
              intro c0 e hext
              obtain ⟨b, o1, _, _, _, hcap, _⟩ := hcond hext
              subst e
              have := hcc _ rfl
              simp only [capFits] at hcap; omega
            split at hrr
            · split at hrr
              · rename_i hbd
                cases hrr
                have hhc : hh.getD len ≤ c ∧ (hb.rows.length = ext → lo0 + (hh.getD len).toNat ≤ ext) := by
                  rcases hbd.2.2 with h1 | h1
                  · exact ⟨by omega, fun hext => by have := hlen hext; omega⟩
                  · cases cap with
                    | none => simp only [topOf] at h1; exact ⟨by omega, fun hext => by have := hlen hext; omega⟩
                    | some c0 =>
                      simp only [topOf] at h1
                      have := hcc _ rfl
                      exact ⟨by omega, fun hext => by have := hcapc _ rfl hext; omega⟩
                refine fin e2 hbd.1 hbd.2.1 (by simp only [Option.getD_none]; exact hhc.1) (by simp) ?_
                simp only [Option.getD_none, Int.toNat_natCast] at *
                have e3 : (hh.getD (len : Int) - l.getD 0).toNat = (hh.getD (len : Int)).toNat - (l.getD 0).toNat := by omega
                rw [e3]
                refine part _ _ _ _ (by omega) (by omega) (Nat.le_refl _) ?_ hhc.2 ?_ ?_
                · intro c0 e
                  cases cap with
                  | none => cases e
                  | some c1 => simp at e; have := hcc _ rfl; omega
                · intro e
                  cases cap with
                  | none => exact ⟨rfl, rfl⟩
                  | some c1 => cases e
                · rintro hext ⟨c0, e⟩
                  cases cap with
                  | none => cases e
                  | some c1 => have := hcapc _ rfl hext; have := hcc _ rfl; omega
              · cases hrr
            · rename_i mm _
              split at hrr
              · rename_i hbd
                cases hrr
                have hhc : mm ≤ c ∧ (hb.rows.length = ext → lo0 + mm.toNat ≤ ext) := by
                  rcases hbd.2.2.2 with h1 | h1
                  · exact ⟨by omega, fun hext => by have := hlen hext; omega⟩
                  · cases cap with
                    | none => simp only [topOf] at h1; exact ⟨by omega, fun hext => by have := hlen hext; omega⟩
                    | some c0 =>
                      simp only [topOf] at h1
                      have := hcc _ rfl
                      exact ⟨by omega, fun hext => by have := hcapc _ rfl hext; omega⟩
                refine fin e2 hbd.1 hbd.2.1 (by simp only [Option.getD_some]; exact hbd.2.2.1) (by simp only [Option.getD_some]; exact hhc.1) ?_
                simp only [Option.getD_some] at *
                have e3 : (hh.getD (len : Int) - l.getD 0).toNat = (hh.getD (len : Int)).toNat - (l.getD 0).toNat := by omega
                have e4 : (mm - l.getD 0).toNat = mm.toNat - (l.getD 0).toNat := by omega
                rw [e3, e4]
                refine part _ _ _ _ (by omega) (by omega) (by omega) ?_ (fun hext => by have := hhc.2 hext; omega) (fun e => by cases e) (fun hext _ => hhc.2 hext)
                intro c0 e; cases e; rfl
              · cases hrr
        · cases hrr
      · cases h
  · cases h
end
end Go.Pf
