/- The framework, part 15: the operations that make memory. -/
import Derived.Test.YthlajkcfbpfmdaaFw14
namespace Go.Pf
open Go Go.RowKit
section
variable {P : Program} {E : Env} {nt : Nat} {g g' : Gh} {F : Frm} {H H' : Hp} {a : Act} {tmps : Array Value} {w w' : World} {o : Oper} {out : Out}

/-- The step of an operation. -/
def StepR (E : Env) (nt : Nat) (g : Gh) (H : Hp) (a : Act) (w : World) (dst : Option Nat) (F' : Frm) (H' : Hp) (r : Result Next) : Prop :=
  ∃ v w' g', (r = .ok (.value v) w' ∨ (r = .ok .skip w' ∧ v = undef)) ∧ Nx g g' H H' w w' ∧ Rel E nt g' F' H' (a.put dst v).tmps w'

theorem put_tmps (a : Act) (dst : Option Nat) (v : Value) : (a.put dst v).tmps = (match dst with | some d => a.tmps.setIfInBounds d v | none => a.tmps) := by
  cases dst <;> rfl

theorem StepR.of {r : Result Next} (h : OpR E nt g F H a.tmps w out r) {dst : Option Nat} {F' : Frm} (hd : ∀ d, dst = some d → d < nt) (hp : putDst (putBx F out.bx) dst out.x = some F') (hb : ∀ row, out.x ≠ some (.box row)) : StepR E nt g H a w dst F' out.h r := by
  obtain ⟨v, w', g', hr, hn, hrel, hx⟩ := h
  refine ⟨v, w', g', hr, hn, ?_⟩
  rw [put_tmps]
  cases dst with
  | none =>
    cases hox : out.x with
    | none => rw [hox] at hp; simp [putDst] at hp; subst hp; exact hrel
    | some fv =>
      cases fv with
      | box row => exact absurd hox (hb row)
      | v p => rw [hox] at hp; simp [putDst] at hp; subst hp; exact hrel
      | bp s oo => rw [hox] at hp; simp [putDst] at hp; subst hp; exact hrel
  | some d =>
    have hd' := hd d rfl
    cases hox : out.x with
    | none => rw [hox] at hp; simp [putDst] at hp; subst hp; exact hrel.del d v
    | some fv =>
      rw [hox] at hx hp
      cases fv with
      | box row => exact absurd hox (hb row)
      | v p => simp [putDst] at hp; subst hp; exact hrel.putV hd' hx
      | bp s oo =>
        simp [putDst] at hp; subst hp
        obtain ⟨b, h1, rfl⟩ := hx
        exact hrel.putB hd' h1

theorem step_allocL (hr : Rel E nt g F H a.tmps w) {e : TypeId} {z : PV} {d : Nat} {F' : Frm} (ho : o.op = .alloc e) (hz : zeroB P e = some z) (hd : d < nt) (hp : putDst F (some d) (some (.box z)) = some F') :
    StepR E nt g H a w (some d) F' H ((execOp a.eval o).run P w) := by
  obtain ⟨i, v, hi, hv, _, _, hrow, hsz⟩ := zeroB_run (P := P) (g := g) (H := H) (w := w) hz
  simp only [putDst] at hp
  cases hp
  obtain ⟨g', h1, h2⟩ := (hr.less (delBp_less F d)).newBox (cs := v.cells) (T := e) hd (noBp_delBp F d) hrow
  refine ⟨_, _, g', .inl ?_, h2, h1⟩
  simp [execOp, ho, Instr.alloc, zeroValue, typeInfo, hi, hv, newVar, newRow]

theorem step_boxL (hr : Rel E nt g F H a.tmps w) {e : TypeId} {x : Operand} {x' : Opd} {p : PV} {d : Nat} {F' : Frm} (ho : o.op = .box e x) (hx : opd x = some x') (hpv : evV E F x' = some p) (hone : allOne p.cells = true) (hd : d < nt) (hp : putDst F (some d) (some (.box p)) = some F') :
    StepR E nt g H a w (some d) F' H ((execOp a.eval o).run P w) := by
  have hrow := (VR_cells (evV_sound hr hx hpv) hone).2
  simp only [putDst] at hp
  cases hp
  obtain ⟨g', h1, h2⟩ := (hr.less (delBp_less F d)).newBox (cs := (a.eval x).cells) (T := e) hd (noBp_delBp F d) hrow
  refine ⟨_, _, g', .inl ?_, h2, h1⟩
  simp [execOp, ho, Instr.box, newVar, newRow]

theorem take_all {α : Type} (l : List α) (n : Nat) (h : n = l.length) : (l.drop 0).take n = l := by
  subst h; simp

theorem op_allocH (hr : Rel E nt g F H a.tmps w) {e : TypeId} {pu np : Bool} {sz : Nat} {z : PV} (ho : o.op = .alloc e) (hz : zeroRow P e np = some (pu, z)) (hs : sizeB P e = some sz) {call} (h : opOut E call F H (.allocH pu sz z) = some out) :
    OpR E nt g F H a.tmps w out ((execOp a.eval o).run P w) := by
  obtain ⟨i, v, hi, hv, hsz, hrow, hpure⟩ := zeroRow_run (P := P) (g := g) (H := H) (w := w) hz
  obtain ⟨_, hpos, i', hi', hsz'⟩ := sizeB_run (P := P) (w := w) hs
  rw [hi] at hi'; cases hi'
  simp only [opOut, Option.some.injEq] at h
  subst h
  have hl : v.cells.toList.length = sz := by simp; omega
  obtain ⟨g', h1, h2, h3⟩ := hr.newBlk (hb := ⟨false, pu, sz, [z]⟩) (cs := v.cells) (T := e) hpos rfl (by simp; omega)
    (fun k x hk => by
      cases k with
      | zero => simp at hk; subst hk; exact ⟨v.cells.toList, hl, hrow, by simp [List.take_of_length_le]⟩
      | succ k => simp at hk)
    (fun hpu k x hk => by
      cases k with
      | zero => simp at hk; subst hk; exact ⟨v.cells.toList, hl, hpure hpu, by simp [List.take_of_length_le]⟩
      | succ k => simp at hk)
  refine ⟨.pointer (some ⟨w.heap.size, 0, none⟩), _, g', .inl ?_, h2, h1, ?_⟩
  · simp [execOp, ho, Instr.alloc, zeroValue, typeInfo, hi, hv, newVar, newRow]
  · simp only [XR, VR]
    exact ⟨⟨false, pu, sz, [z]⟩, _, by simp, by simp, rfl, fun _ => ⟨w.heap.size, 0, h3, by simp, by simp⟩⟩

theorem purifyIf_sound (hr : Rel E nt g F H tmps w) {pu : Bool} {p q : PV} {v : Value} {H1 : Hp} (h : VR g H w p v) (hq : (if pu then purify H p else some (p, H)) = some (q, H1)) (hone : allOne q.cells = true) :
    ∃ g', Rel E nt g' F H1 tmps w ∧ Nx g g' H H1 w w ∧ g'.β = g.β ∧ g'.ρ = g.ρ ∧ RowR g' H1 w q v.cells.toList ∧ (pu = true → RC g'.I w q v.cells.toList) := by
  cases pu
  · simp only [Bool.false_eq_true, if_false, Option.some.injEq, Prod.mk.injEq] at hq
    obtain ⟨rfl, rfl⟩ := hq
    exact ⟨g, hr, Nx.refl g H w, rfl, rfl, (VR_cells h hone).2, fun x => by cases x⟩
  · simp only [if_true] at hq
    obtain ⟨g', h1, h2, h3, h4, h5, _⟩ := purify_sound hr h hq
    exact ⟨g', h1, h2, h3, h4, RowR_of_RC _ _ h5, fun _ => h5⟩

theorem RowR_len {row : PV} {vs : List Value} (h : RowR g H w row vs) : vs.length = row.cells.length := VCs_length _ _ (RowR_cells h)

theorem op_boxH (hr : Rel E nt g F H a.tmps w) {e : TypeId} {pu : Bool} {sz : Nat} {x : Operand} {x' : Opd} (ho : o.op = .box e x) (hs : sizeB P e = some sz) (hx : opd x = some x') {call} (h : opOut E call F H (.boxH pu sz x') = some out) :
    OpR E nt g F H a.tmps w out ((execOp a.eval o).run P w) := by
  obtain ⟨_, hpos, _⟩ := sizeB_run (P := P) (w := w) hs
  simp only [opOut] at h
  split at h
  · rename_i p hp
    split at h
    · rename_i q H1 hq
      split at h
      · rename_i hc
        cases h
        obtain ⟨g1, r1, n1, b1, p1, row1, pure1⟩ := purifyIf_sound hr (evV_sound hr hx hp) hq hc.2
        have hl : (a.eval x).cells.toList.length = sz := by rw [RowR_len row1]; exact hc.1
        obtain ⟨g', h1, h2, h3⟩ := r1.newBlk (hb := ⟨false, pu, sz, [q]⟩) (cs := (a.eval x).cells) (T := e) hpos rfl (by simp at hl ⊢; omega)
          (fun k y hk => by
            cases k with
            | zero => simp at hk; subst hk; exact ⟨_, hl, row1, by simp [List.take_of_length_le]⟩
            | succ k => simp at hk)
          (fun hpu k y hk => by
            cases k with
            | zero => simp at hk; subst hk; exact ⟨_, hl, pure1 hpu, by simp [List.take_of_length_le]⟩
            | succ k => simp at hk)
        refine ⟨.pointer (some ⟨w.heap.size, 0, none⟩), _, g', .inl ?_, n1.trans h2, h1, ?_⟩
        · simp [execOp, ho, Instr.box, newVar, newRow]
        · simp only [XR, VR]
          exact ⟨⟨false, pu, sz, [q]⟩, _, by simp, by simp, rfl, fun _ => ⟨w.heap.size, 0, h3, by simp, by simp⟩⟩
      · cases h
    · cases h
  · cases h

/-- Rows and the cells that they lie in. -/
def Lie (g : Gh) (H : Hp) (w : World) (pu : Bool) (esz : Nat) (rows : List PV) (cells : List Value) : Prop :=
  rows.length * esz ≤ cells.length ∧ ∀ i x, rows[i]? = some x → RowR g H w x (seg cells (i * esz) esz) ∧ (pu = true → RC g.I w x (seg cells (i * esz) esz))

theorem Lie.on {pu : Bool} {esz : Nat} {rows : List PV} {cells : List Value} (k : On g g' H H' w w') (h : Lie g H w pu esz rows cells) : Lie g' H' w' pu esz rows cells :=
  ⟨h.1, fun i x hx => ⟨RowR_on k _ _ (h.2 i x hx).1, fun hp => RC_keep k.keeps _ _ ((h.2 i x hx).2 hp)⟩⟩

theorem seg_len {α : Type} {l : List α} {o n : Nat} (h : o + n ≤ l.length) : (seg l o n).length = n := by
  simp [seg]; omega

theorem seg_self {α : Type} {l : List α} {o : Nat} {xs : List α} (h : o + xs.length ≤ l.length) : seg (splice l o xs) o xs.length = xs := by
  apply List.ext_getElem?
  intro j
  rw [seg_get, splice_get h]
  by_cases hj : j < xs.length
  · rw [if_pos hj, if_neg (by omega), if_pos (by omega)]; congr 1; omega
  · rw [if_neg hj, List.getElem?_eq_none (Nat.le_of_not_lt hj)]

theorem Lie.set {pu : Bool} {esz : Nat} {rows : List PV} {cells xs : List Value} {i : Nat} {q : PV} (h : Lie g H w pu esz rows cells) (hi : i < rows.length) (hl : xs.length = esz) (hq : RowR g H w q xs) (hpq : pu = true → RC g.I w q xs) :
    Lie g H w pu esz (rows.set i q) (splice cells (i * esz) xs) := by
  have hmul : i * esz + esz ≤ rows.length * esz := by
    have : (i + 1) * esz ≤ rows.length * esz := Nat.mul_le_mul_right _ hi
    rwa [Nat.add_mul, Nat.one_mul] at this
  have hfit : i * esz + xs.length ≤ cells.length := by have := h.1; omega
  refine ⟨by rw [splice_length hfit, List.length_set]; exact h.1, fun k x hk => ?_⟩
  rw [List.getElem?_set] at hk
  by_cases e : i = k
  · subst e
    rw [if_pos rfl, if_pos hi] at hk
    cases hk
    have := seg_self hfit
    rw [hl] at this
    rw [this]
    exact ⟨hq, hpq⟩
  · rw [if_neg e] at hk
    have hd : k * esz + esz ≤ i * esz ∨ i * esz + xs.length ≤ k * esz := by
      rcases Nat.lt_or_gt_of_ne e with h1 | h1
      · right
        have : (i + 1) * esz ≤ k * esz := Nat.mul_le_mul_right _ h1
        rw [Nat.add_mul, Nat.one_mul] at this; omega
      · left
        have : (k + 1) * esz ≤ i * esz := Nat.mul_le_mul_right _ h1
        rwa [Nat.add_mul, Nat.one_mul] at this
    rw [seg_splice_other hfit hd]
    exact h.2 k x hk

theorem fillR_sound : ∀ (parts : List (Nat × Operand)) (ps : List (Nat × Opd)) (rows rows' : List PV) (H H1 : Hp) (g : Gh) (cells : List Value) (pu : Bool) (esz : Nat), Rel E nt g F H a.tmps w → partsR parts = some ps → Lie g H w pu esz rows cells → cells.length = rows.length * esz →
    fillR E F pu esz rows H ps = some (rows', H1) →
    ∃ g' us, Rel E nt g' F H1 a.tmps w ∧ Nx g g' H H1 w w ∧ g'.β = g.β ∧ Instr.fill (fun i => some (i * esz, esz)) cells.toArray (parts.map fun (i, x) => (i, a.eval x)) = some us ∧ Lie g' H1 w pu esz rows' us.toList ∧ rows'.length = rows.length ∧ us.size = cells.length
  | [], ps, rows, rows', H, H1, g, cells, pu, esz, hr, hp, hl, hc, hf => by
    simp [partsR] at hp; subst hp
    simp only [fillR, Option.some.injEq, Prod.mk.injEq] at hf
    obtain ⟨rfl, rfl⟩ := hf
    exact ⟨g, cells.toArray, hr, Nx.refl g H w, rfl, by simp [Instr.fill], by simpa using hl, rfl, by simp⟩
  | (i, x) :: r, ps, rows, rows', H, H1, g, cells, pu, esz, hr, hp, hl, hc, hf => by
    simp only [partsR] at hp
    split at hp
    · rename_i x' l hx hrest
      cases hp
      simp only [fillR] at hf
      split at hf
      · rename_i p hpv
        split at hf
        · rename_i q H2 hq
          split at hf
          · rename_i hcond
            obtain ⟨c1, c2, c3⟩ := hcond
            obtain ⟨g1, r1, n1, b1, _, row1, pure1⟩ := purifyIf_sound hr (evV_sound hr hx hpv) hq c3
            have hlen : (a.eval x).cells.toList.length = esz := by rw [RowR_len row1]; exact c1
            have hl2 := (hl.on n1.on).set (i := i) c2 hlen row1 pure1
            have hmul : i * esz + esz ≤ rows.length * esz := by
              have : (i + 1) * esz ≤ rows.length * esz := Nat.mul_le_mul_right _ c2
              rwa [Nat.add_mul, Nat.one_mul] at this
            have hfit : i * esz + (a.eval x).cells.toList.length ≤ cells.length := by omega
            obtain ⟨g2, us, r2, n2, b2, f2, l2, len2, s2⟩ := fillR_sound r l (rows.set i q) rows' H2 H1 g1 (splice cells (i * esz) (a.eval x).cells.toList) pu esz r1 hrest hl2 (by rw [splice_length hfit, List.length_set]; exact hc) hf
            refine ⟨g2, us, r2, n1.trans n2, b2.trans b1, ?_, l2, by rw [len2, List.length_set], by rw [s2, splice_length hfit]⟩
            rw [List.map_cons, fill_step _ _ _ _ _ _ _ rfl (by simpa using hlen) (by simp; omega)]
            rw [← f2]
            simp [splice, hlen]
          · cases hf
        · cases hf
      · cases hf
    · cases hp

theorem zeroRow_zero {t : TypeId} {pu np : Bool} {z : PV} (h : zeroRow P t np = some (pu, z)) (w : World) : ∃ v, (zeroValue t).run P w = .ok v w ∧ ∀ (g : Gh) (H : Hp), RowR g H w z v.cells.toList ∧ (pu = true → RC g.I w z v.cells.toList) := by
  obtain ⟨i, v, hi, hv, _, _, _⟩ := zeroRow_run (P := P) (g := ⟨fun _ => none, fun _ => none, fun _ => False, fun _ => none⟩) (H := []) (w := w) h
  refine ⟨v, by simp [zeroValue, typeInfo, hi, hv], fun g H => ?_⟩
  obtain ⟨i', v', hi', hv', _, h1, h2⟩ := zeroRow_run (P := P) (g := g) (H := H) (w := w) h
  rw [hi] at hi'; cases hi'
  rw [hv] at hv'; cases hv'
  exact ⟨h1, h2⟩

theorem zeroRow_size {t : TypeId} {pu np : Bool} {z : PV} {sz : Nat} (h : zeroRow P t np = some (pu, z)) (hs : sizeB P t = some sz) {w : World} {v : Value} (hv : (zeroValue t).run P w = .ok v w) : v.cells.size = sz := by
  obtain ⟨i, v', hi, hv', hsz, _, _⟩ := zeroRow_run (P := P) (g := ⟨fun _ => none, fun _ => none, fun _ => False, fun _ => none⟩) (H := []) (w := w) h
  obtain ⟨_, _, i', hi', hsz'⟩ := sizeB_run (P := P) (w := w) hs
  rw [hi] at hi'; cases hi'
  simp [zeroValue, typeInfo, hi, hv'] at hv
  subst hv
  omega

theorem map_range0 {α : Type} (f : Nat → α) : (Array.range 0).map f = #[] := by
  apply Array.ext'; simp

/-- Rows of zeros. -/
theorem rep_cells {cs : Array Value} {sz n : Nat} (hs : cs.size = sz) (_hpos : 0 < sz) (i : Nat) (hi : i < n) : seg ((Array.range (n * sz)).map (cs[· % cs.size]!)).toList (i * sz) sz = cs.toList := by
  have hmul : i * sz + sz ≤ n * sz := by
    have : (i + 1) * sz ≤ n * sz := Nat.mul_le_mul_right _ hi
    rwa [Nat.add_mul, Nat.one_mul] at this
  apply List.ext_getElem?
  intro j
  rw [seg_get]
  by_cases hj : j < sz
  · rw [if_pos hj]
    simp only [Array.toList_map, Array.toList_range, List.getElem?_map, List.getElem?_range (show i * sz + j < n * sz by omega), Option.map_some]
    have hm : (i * sz + j) % cs.size = j := by
      rw [hs, Nat.add_comm, Nat.add_mul_mod_self_right, Nat.mod_eq_of_lt hj]
    rw [hm]
    have hj' : j < cs.size := by omega
    simp [hj']
  · rw [if_neg hj]
    simp; omega

theorem Lie_rep {pu : Bool} {sz n : Nat} {z : PV} {cs : Array Value} (hs : cs.size = sz) (hpos : 0 < sz) (h1 : RowR g H w z cs.toList) (h2 : pu = true → RC g.I w z cs.toList) : Lie g H w pu sz (List.replicate n z) ((Array.range (n * sz)).map (cs[· % cs.size]!)).toList := by
  refine ⟨by simp, fun i x hx => ?_⟩
  have hi : i < n := by
    rcases Nat.lt_or_ge i n with h | h
    · exact h
    · rw [List.getElem?_eq_none (by simp; exact h)] at hx; cases hx
  have e : x = z := by rw [List.getElem?_replicate, if_pos hi] at hx; cases hx; rfl
  subst e
  rw [rep_cells hs hpos i hi]
  exact ⟨h1, h2⟩

theorem op_buildSl (hr : Rel E nt g F H a.tmps w) {t e : TypeId} {pu : Bool} {sz len : Nat} {z : PV} {parts : Array (Nat × Operand)} {ps : List (Nat × Opd)} (ho : o.op = .buildSlice t len parts) (hu : P.underlying t = some (.slice e)) (hs : sizeB P e = some sz) (hz : zeroRow P e = some (pu, z))
    (hps : partsR parts.toList = some ps) (hle : len * sz ≤ 2 ^ 24) (hemp : len ≠ 0 ∨ parts.toList.isEmpty = true) {call} (h : opOut E call F H (.buildSl pu sz z len ps) = some out) :
    OpR E nt g F H a.tmps w out ((execOp a.eval o).run P w) := by
  obtain ⟨hsz, hpos, _⟩ := sizeB_run (P := P) (w := w) hs
  obtain ⟨v, hv, hzr⟩ := zeroRow_zero (P := P) hz w
  have hvs := zeroRow_size hz hs hv
  have e1 : (parts.map fun (i, x) => (i, a.eval x)).toList = parts.toList.map fun (i, x) => (i, a.eval x) := by simp
  have hnle : ¬ len * sz > 2 ^ 24 := by omega
  simp only [opOut] at h
  split at h
  · rename_i hl0
    subst hl0
    rw [outV_eq h]
    have hpe : parts = #[] := by
      rcases hemp with h1 | h1
      · exact absurd rfl h1
      · rw [List.isEmpty_iff] at h1
        exact Array.toList_inj.1 (by simpa using h1)
    obtain ⟨r1, n1⟩ := hr.alloc (.cells #[] e)
    refine ⟨.slice (some ⟨w.heap.size, 0, none⟩) 0 0, _, g, .inl ?_, n1, r1, ?_⟩
    · subst hpe
      simp [execOp, ho, Instr.buildSlice, run_underlying hu, hsz, Instr.fill, newRow]
      rw [map_range0]
    · simp only [XR, VR]; exact ⟨_, rfl⟩
  · rename_i hl0
    split at h
    · rename_i rows' H1 hf
      rw [outV_eq h]
      obtain ⟨z1, z2⟩ := hzr g H
      have hlie := Lie_rep (n := len) (pu := pu) hvs hpos z1 z2
      have hcl : (((Array.range (len * sz)).map (v.cells[· % v.cells.size]!)).toList).length = (List.replicate len z).length * sz := by simp
      obtain ⟨g1, us, r1, n1, b1, f1, l1, len1, s1⟩ := fillR_sound parts.toList ps (List.replicate len z) rows' H H1 g _ pu sz hr hps hlie hcl hf
      have hlen : rows'.length = len := by simpa using len1
      have hus : us.size = len * sz := by simpa using s1
      have hseg : ∀ i x, rows'[i]? = some x → (seg us.toList (i * sz) sz).length = sz := by
        intro i x hx
        have hi : i < rows'.length := by
          rcases Nat.lt_or_ge i rows'.length with h | h
          · exact h
          · rw [List.getElem?_eq_none h] at hx; cases hx
        apply seg_len
        have : (i + 1) * sz ≤ len * sz := Nat.mul_le_mul_right _ (by omega)
        rw [Nat.add_mul, Nat.one_mul] at this
        simp; omega
      obtain ⟨g2, r2, n2, hρ⟩ := r1.newBlk (hb := ⟨false, pu, sz, rows'⟩) (cs := us) (T := e) hpos rfl (by simp only [hlen, hus]; exact Nat.le_refl _)
        (fun i x hx => ⟨seg us.toList (i * sz) sz, hseg i x hx, (l1.2 i x hx).1, by rw [hseg i x hx]; rfl⟩)
        (fun hpu i x hx => ⟨seg us.toList (i * sz) sz, hseg i x hx, (l1.2 i x hx).2 hpu, by rw [hseg i x hx]; rfl⟩)
      refine ⟨.slice (some ⟨w.heap.size, 0, none⟩) len len, _, g2, .inl ?_, n1.trans n2, r2, ?_⟩
      · have hne : ¬ len * sz = 0 := by
          intro e0
          rcases Nat.mul_eq_zero.1 e0 with h1 | h1
          · exact hl0 h1
          · omega
        simp only [Array.toArray_toList] at f1
        simp only [execOp, ho, Instr.buildSlice, Sem.run_bind, run_underlying hu, Result.andThen_ok, hsz, if_neg hnle, if_neg hne, hv, Sem.run_pure, e1, f1]
        simp [newRow]
      · simp only [XR, VR]
        refine ⟨⟨false, pu, sz, rows'⟩, _, len, by simp, by simp [hlen], rfl, Nat.le_refl _, ?_, fun c0 e0 => by cases e0; rfl, fun _ => ?_⟩
        · have : len ≤ len * sz := Nat.le_mul_of_pos_right _ hpos
          unfold maxLen; omega
        · refine ⟨w.heap.size, 0, hρ, by omega, fun _ => by simp, by simp [capFits], us, e, alloc_new w _, by simp only [Nat.zero_add, hus]; exact Nat.le_refl _⟩
    · cases h

theorem op_buildN (hr : Rel E nt g F H a.tmps w) {t e : TypeId} {pu : Bool} {sz len : Nat} {z : PV} {parts : Array (Nat × Operand)} {ps : List (Nat × Opd)} (ho : o.op = .buildSlice t len parts) (hu : P.underlying t = some (.slice e)) (hs : sizeB P e = some sz) (hz : zeroRow P e = some (pu, z))
    (hps : partsR parts.toList = some ps) (hle : len * sz ≤ 2 ^ 24) (hemp : len ≠ 0 ∨ parts.toList.isEmpty = true) {call} (h : opOut E call F H (.buildN pu sz z len ps) = some out) :
    OpR E nt g F H a.tmps w out ((execOp a.eval o).run P w) := by
  obtain ⟨hsz, hpos, _⟩ := sizeB_run (P := P) (w := w) hs
  obtain ⟨v, hv, hzr⟩ := zeroRow_zero (P := P) hz w
  have hvs := zeroRow_size hz hs hv
  have e1 : (parts.map fun (i, x) => (i, a.eval x)).toList = parts.toList.map fun (i, x) => (i, a.eval x) := by simp
  have hnle : ¬ len * sz > 2 ^ 24 := by omega
  simp only [opOut] at h
  split at h
  · rename_i hl0
    subst hl0
    rw [outV_eq h]
    have hpe : parts = #[] := by
      rcases hemp with h1 | h1
      · exact absurd rfl h1
      · rw [List.isEmpty_iff] at h1
        exact Array.toList_inj.1 (by simpa using h1)
    obtain ⟨r1, n1⟩ := hr.alloc (.cells #[] e)
    refine ⟨.slice (some ⟨w.heap.size, 0, none⟩) 0 0, _, g, .inl ?_, n1, r1, ?_⟩
    · subst hpe
      simp [execOp, ho, Instr.buildSlice, run_underlying hu, hsz, Instr.fill, newRow]
      rw [map_range0]
    · simp only [XR, VR]; exact ⟨_, rfl⟩
  · rename_i hl0
    split at h
    · rename_i rows' H1 hf
      rw [outV_eq h]
      obtain ⟨z1, z2⟩ := hzr g H
      have hlie := Lie_rep (n := len) (pu := pu) hvs hpos z1 z2
      have hcl : (((Array.range (len * sz)).map (v.cells[· % v.cells.size]!)).toList).length = (List.replicate len z).length * sz := by simp
      obtain ⟨g1, us, r1, n1, b1, f1, l1, len1, s1⟩ := fillR_sound parts.toList ps (List.replicate len z) rows' H H1 g _ pu sz hr hps hlie hcl hf
      have hlen : rows'.length = len := by simpa using len1
      have hus : us.size = len * sz := by simpa using s1
      have hseg : ∀ i x, rows'[i]? = some x → (seg us.toList (i * sz) sz).length = sz := by
        intro i x hx
        have hi : i < rows'.length := by
          rcases Nat.lt_or_ge i rows'.length with h | h
          · exact h
          · rw [List.getElem?_eq_none h] at hx; cases hx
        apply seg_len
        have : (i + 1) * sz ≤ len * sz := Nat.mul_le_mul_right _ (by omega)
        rw [Nat.add_mul, Nat.one_mul] at this
        simp; omega
      obtain ⟨g2, r2, n2, hρ⟩ := r1.newBlk (hb := ⟨false, pu, sz, rows'⟩) (cs := us) (T := e) hpos rfl (by simp only [hlen, hus]; exact Nat.le_refl _)
        (fun i x hx => ⟨seg us.toList (i * sz) sz, hseg i x hx, (l1.2 i x hx).1, by rw [hseg i x hx]; rfl⟩)
        (fun hpu i x hx => ⟨seg us.toList (i * sz) sz, hseg i x hx, (l1.2 i x hx).2 hpu, by rw [hseg i x hx]; rfl⟩)
      refine ⟨.slice (some ⟨w.heap.size, 0, none⟩) len len, _, g2, .inl ?_, n1.trans n2, r2, ?_⟩
      · have hne : ¬ len * sz = 0 := by
          intro e0
          rcases Nat.mul_eq_zero.1 e0 with h1 | h1
          · exact hl0 h1
          · omega
        simp only [Array.toArray_toList] at f1
        simp only [execOp, ho, Instr.buildSlice, Sem.run_bind, run_underlying hu, Result.andThen_ok, hsz, if_neg hnle, if_neg hne, hv, Sem.run_pure, e1, f1]
        simp [newRow]
      · simp only [XR, VR]
        refine ⟨⟨false, pu, sz, rows'⟩, _, len, by simp, by simp [hlen], rfl, Nat.le_refl _, ?_, (fun c0 e0 => by cases e0), fun _ => ?_⟩
        · have : len ≤ len * sz := Nat.le_mul_of_pos_right _ hpos
          unfold maxLen; omega
        · refine ⟨w.heap.size, 0, hρ, by omega, fun _ => by simp, by simp [capFits], us, e, alloc_new w _, by simp only [Nat.zero_add, hus]; exact Nat.le_refl _⟩
    · cases h

theorem op_moveD (hr : Rel E nt g F H a.tmps w) {x : Operand} {x' : Opd} (ho : o.op = .move x ∨ o.op = .assign x) (hx : opd x = some x') {call} (h : opOut E call F H (.mvD x') = some out) :
    OpR E nt g F H a.tmps w out ((execOp a.eval o).run P w) := by
  simp only [opOut] at h
  split at h
  · rename_i p hp
    split at h
    · rename_i rows H1 hq
      rw [outV_eq h]
      obtain ⟨g1, h1, h2, _, _, h3, _⟩ := purify1_sound hr (evV_sound hr hx hp) hq
      refine ⟨_, w, g1, .inl (by rcases ho with ho | ho <;> simp [execOp, ho] <;> rfl), h2, h1, ?_⟩
      simp only [XR, VR]
      exact h3
    · cases h
  · cases h
theorem op_buildD (hr : Rel E nt g F H a.tmps w) {t e : TypeId} {pu : Bool} {sz len : Nat} {z : PV} {parts : Array (Nat × Operand)} {ps : List (Nat × Opd)} (ho : o.op = .buildSlice t len parts) (hu : P.underlying t = some (.slice e)) (hs : sizeB P e = some sz) (hz : zeroRow P e = some (pu, z)) (hpu : pu = true)
    (hps : partsR parts.toList = some ps) (hle : len * sz ≤ 2 ^ 24) (hemp : len ≠ 0 ∨ parts.toList.isEmpty = true) {call} (h : opOut E call F H (.buildD sz z len ps) = some out) :
    OpR E nt g F H a.tmps w out ((execOp a.eval o).run P w) := by
  subst hpu
  have hpu : true = true := rfl
  obtain ⟨hsz, hpos, _⟩ := sizeB_run (P := P) (w := w) hs
  obtain ⟨v, hv, hzr⟩ := zeroRow_zero (P := P) hz w
  have hvs := zeroRow_size hz hs hv
  have e1 : (parts.map fun (i, x) => (i, a.eval x)).toList = parts.toList.map fun (i, x) => (i, a.eval x) := by simp
  have hnle : ¬ len * sz > 2 ^ 24 := by omega
  simp only [opOut] at h
  split at h
  · rename_i hl0
    subst hl0
    rw [outV_eq h]
    have hpe : parts = #[] := by
      rcases hemp with h1 | h1
      · exact absurd rfl h1
      · rw [List.isEmpty_iff] at h1
        exact Array.toList_inj.1 (by simpa using h1)
    obtain ⟨r1, n1⟩ := hr.alloc (.cells #[] e)
    refine ⟨.slice (some ⟨w.heap.size, 0, none⟩) 0 0, _, g, .inl ?_, n1, r1, ?_⟩
    · subst hpe
      simp [execOp, ho, Instr.buildSlice, run_underlying hu, hsz, Instr.fill, newRow]
      rw [map_range0]
    · simp only [XR, VR]; exact ⟨_, rfl⟩
  · rename_i hl0
    split at h
    · rename_i rows' H1 hf
      rw [outV_eq h]
      obtain ⟨z1, z2⟩ := hzr g H
      have hlie := Lie_rep (n := len) (pu := true) hvs hpos z1 z2
      have hcl : (((Array.range (len * sz)).map (v.cells[· % v.cells.size]!)).toList).length = (List.replicate len z).length * sz := by simp
      obtain ⟨g1, us, r1, n1, b1, f1, l1, len1, s1⟩ := fillR_sound parts.toList ps (List.replicate len z) rows' H H1 g _ true sz hr hps hlie hcl hf
      have hlen : rows'.length = len := by simpa using len1
      have hus : us.size = len * sz := by simpa using s1
      have hseg : ∀ i x, rows'[i]? = some x → (seg us.toList (i * sz) sz).length = sz := by
        intro i x hx
        have hi : i < rows'.length := by
          rcases Nat.lt_or_ge i rows'.length with h | h
          · exact h
          · rw [List.getElem?_eq_none h] at hx; cases hx
        apply seg_len
        have : (i + 1) * sz ≤ len * sz := Nat.mul_le_mul_right _ (by omega)
        rw [Nat.add_mul, Nat.one_mul] at this
        simp; omega
      obtain ⟨g2, r2, n2, _, _, hI⟩ := r1.grew (w' := w.alloc (.cells us e)) ((Bel.refl _ _).alloc (Nat.le_refl _) _)
      refine ⟨.slice (some ⟨w.heap.size, 0, none⟩) len len, _, g2, .inl ?_, n1.trans n2, r2, ?_⟩
      · have hne : ¬ len * sz = 0 := by
          intro e0
          rcases Nat.mul_eq_zero.1 e0 with h1 | h1
          · exact hl0 h1
          · omega
        simp only [Array.toArray_toList] at f1
        simp only [execOp, ho, Instr.buildSlice, Sem.run_bind, run_underlying hu, Result.andThen_ok, hsz, if_neg hnle, if_neg hne, hv, Sem.run_pure, e1, f1]
        simp [newRow]
      · simp only [XR, VR, RC]
        refine ⟨_, _, _, rfl, hlen.symm, Nat.le_refl _, ?_, .inr ⟨w.heap.size, 0, sz, rfl, ?_, hpos, ?_⟩⟩
        · have : len ≤ len * sz := Nat.le_mul_of_pos_right _ hpos
          unfold maxLen; omega
        · rw [hI]; exact .inr ⟨Nat.le_refl _, by simp⟩
        · refine RowsC_mk _ _ _ _ fun i x hx => ⟨seg us.toList (i * sz) sz, hseg i x hx, RC_keep n2.on.keeps x _ ((l1.2 i x hx).2 hpu), At.of_cells (alloc_new w _) (by rw [hseg i x hx]; simp [seg])⟩
    · cases h

theorem op_mkSl (hr : Rel E nt g F H a.tmps w) {t e : TypeId} {pu np : Bool} {sz bytes : Nat} {z : PV} {x y : Operand} {x' y' : Opd} (ho : o.op = .makeSlice t x y) (hu : P.underlying t = some (.slice e)) (hs : sizeB P e = some sz) (hby : bytesB P e = some bytes) (hz : zeroRow P e np = some (pu, z))
    (hx : opd x = some x') (hy : opd y = some y') {call} (h : opOut E call F H (.mkSl pu sz bytes z x' y') = some out) :
    OpR E nt g F H a.tmps w out ((execOp a.eval o).run P w) := by
  obtain ⟨hsz, hpos, i0, hi0, hi0s⟩ := sizeB_run (P := P) (w := w) hs
  obtain ⟨v, hv, hzr⟩ := zeroRow_zero (P := P) hz w
  have hvs := zeroRow_size hz hs hv
  have hbytes : i0.bytes = bytes := by
    unfold bytesB at hby; rw [hi0] at hby; cases hby; rfl
  simp only [opOut] at h
  split at h
  · rename_i l c hl hc
    split at h
    · rename_i hb
      rw [outV_eq h]
      obtain ⟨k1, e1, _⟩ := evInt_sound hr hx hl
      obtain ⟨k2, e2, _⟩ := evInt_sound hr hy hc
      obtain ⟨z1, z2⟩ := hzr g H
      have hlie := Lie_rep (n := c.toNat) (pu := pu) hvs hpos z1 z2
      have hroom : (c.toNat + 64) * (bytes + 1) ≤ 35184372088832 := hb.2.2
      have hc1 : c.toNat ≤ 35184372088832 := by
        have : c.toNat + 64 ≤ (c.toNat + 64) * (bytes + 1) := Nat.le_mul_of_pos_right _ (by omega)
        omega
      have hcb : c.toNat * bytes ≤ 35184372088832 := by
        refine Nat.le_trans ?_ hroom
        exact Nat.mul_le_mul (by omega) (by omega)
      have wl : IntKind.i64.wrap l = l := by simp [IntKind.wrap, IntKind.signed, IntKind.bits]; omega
      have wc : IntKind.i64.wrap c = c := by simp [IntKind.wrap, IntKind.signed, IntKind.bits]; omega
      have hbc : (bytes : Int) * c ≤ 35184372088832 := by
        have e3 : ((c.toNat * bytes : Nat) : Int) = bytes * c := by
          rw [Int.natCast_mul, Int.toNat_of_nonneg (by omega), Int.mul_comm]
        rw [← e3]; omega
      obtain ⟨g2, r2, n2, hρ⟩ := hr.newBlk (hb := ⟨false, pu, sz, List.replicate c.toNat z⟩) (cs := (Array.range (c.toNat * sz)).map (v.cells[· % v.cells.size]!)) (T := e) hpos rfl (by simp)
        (fun i x hx => by
          have hi : i < c.toNat := by
            rcases Nat.lt_or_ge i c.toNat with h | h
            · exact h
            · simp only at hx; rw [List.getElem?_eq_none (by simp; omega)] at hx; cases hx
          have hsg : (seg ((Array.range (c.toNat * sz)).map (v.cells[· % v.cells.size]!)).toList (i * sz) sz).length = sz := by rw [rep_cells hvs hpos i hi]; simpa using hvs
          exact ⟨_, hsg, (hlie.2 i x hx).1, by rw [hsg]; rfl⟩)
        (fun hpu i x hx => by
          have hi : i < c.toNat := by
            rcases Nat.lt_or_ge i c.toNat with h | h
            · exact h
            · simp only at hx; rw [List.getElem?_eq_none (by simp; omega)] at hx; cases hx
          have hsg : (seg ((Array.range (c.toNat * sz)).map (v.cells[· % v.cells.size]!)).toList (i * sz) sz).length = sz := by rw [rep_cells hvs hpos i hi]; simpa using hvs
          exact ⟨_, hsg, (hlie.2 i x hx).2 hpu, by rw [hsg]; rfl⟩)
      refine ⟨.slice (some ⟨w.heap.size, 0, none⟩) l.toNat c.toNat, _, g2, .inl ?_, n2, r2, ?_⟩
      · have cnd : ((decide (c < 0) || decide ((i0.bytes : Int) * c > 2 ^ 48) || decide (l < 0)) || decide (l > c)) = false := by
          rw [hbytes]; simp; omega
        by_cases hc0 : c.toNat * sz = 0
        · simp only [execOp, ho, Instr.makeSlice, Sem.run_bind, run_underlying hu, Result.andThen_ok, e1, e2, asInt, asIntOf, Sem.run_pure, typeInfo, run_program, hi0, wl, wc, cnd, Bool.false_eq_true, if_false, run_askRoom, sizeOf, hi0s, hc0, if_true, newRow, run_newObj]
          simp
          rw [map_range0, map_range0]
        · simp only [execOp, ho, Instr.makeSlice, Sem.run_bind, run_underlying hu, Result.andThen_ok, e1, e2, asInt, asIntOf, Sem.run_pure, typeInfo, run_program, hi0, wl, wc, cnd, Bool.false_eq_true, if_false, run_askRoom, sizeOf, hi0s, hc0, hv, newRow, run_newObj]
          simp
      · simp only [XR, VR]
        refine ⟨⟨false, pu, sz, List.replicate c.toNat z⟩, _, c.toNat, by simp, by simp, rfl, by omega, ?_, fun c0 e0 => by cases e0; rfl, fun _ => ?_⟩
        · unfold maxLen; omega
        · exact ⟨w.heap.size, 0, hρ, by omega, fun _ => by simp, by simp [capFits], _, e, alloc_new w _, by simp⟩
    · cases h
  · cases h
theorem mkDL_inv {loc : List Nat} {dst : Option Nat} {pu : Bool} {sz by_ n : Nat} {l c : Opd} (h : mkDL loc dst pu sz by_ l c = some n) : ∃ m : Int, l = .c (.int .i64 m) ∧ c = .c (.int .i64 m) ∧ pu = true ∧ 0 < m ∧ n = m.toNat ∧ n * sz ≤ 2 ^ 24 ∧ (n + 64) * (by_ + 1) ≤ 35184372088832 := by
  unfold mkDL at h
  split at h
  · split at h
    · rename_i hc
      cases h
      obtain ⟨_, h2, h3, rfl, h5, h6⟩ := hc
      exact ⟨_, rfl, rfl, h2, h3, rfl, h5, h6⟩
    · cases h
  · cases h
/-- A slice that is made as data. -/
theorem op_mkD (hr : Rel E nt g F H a.tmps w) {t e : TypeId} {pu np : Bool} {sz bytes n : Nat} {z : PV} {x y : Operand} {x' y' : Opd} {loc : List Nat} {dst : Option Nat} (ho : o.op = .makeSlice t x y) (hu : P.underlying t = some (.slice e)) (hs : sizeB P e = some sz) (hby : bytesB P e = some bytes) (hz : zeroRow P e np = some (pu, z))
    (hx : opd x = some x') (hy : opd y = some y') (hm : mkDL loc dst pu sz bytes x' y' = some n) {call} (h : opOut E call F H (.buildD sz z n []) = some out) :
    OpR E nt g F H a.tmps w out ((execOp a.eval o).run P w) := by
  obtain ⟨m, rfl, rfl, rfl, hm0, rfl, h16, hroom⟩ := mkDL_inv hm
  obtain ⟨hsz, hpos, i0, hi0, hi0s⟩ := sizeB_run (P := P) (w := w) hs
  obtain ⟨v, hv, hzr⟩ := zeroRow_zero (P := P) hz w
  have hvs := zeroRow_size hz hs hv
  have hbytes : i0.bytes = bytes := by
    unfold bytesB at hby; rw [hi0] at hby; cases hby; rfl
  have hm1 : m.toNat ≠ 0 := by omega
  simp only [opOut, if_neg hm1, fillR] at h
  rw [outV_eq h]
  obtain ⟨k1, e1, _⟩ := evInt_sound hr hx (show evInt E F (.c (.int .i64 m)) = some m from rfl)
  obtain ⟨k2, e2, _⟩ := evInt_sound hr hy (show evInt E F (.c (.int .i64 m)) = some m from rfl)
  obtain ⟨z1, z2⟩ := hzr g H
  have hlie := Lie_rep (n := m.toNat) (pu := true) hvs hpos z1 z2
  have hc1 : m.toNat ≤ 35184372088832 := by
    have : m.toNat + 64 ≤ (m.toNat + 64) * (bytes + 1) := Nat.le_mul_of_pos_right _ (by omega)
    omega
  have hcb : m.toNat * bytes ≤ 35184372088832 := by
    refine Nat.le_trans ?_ hroom
    exact Nat.mul_le_mul (by omega) (by omega)
  have wl : IntKind.i64.wrap m = m := by simp [IntKind.wrap, IntKind.signed, IntKind.bits]; omega
  have hbc : (bytes : Int) * m ≤ 35184372088832 := by
    have e3 : ((m.toNat * bytes : Nat) : Int) = bytes * m := by
      rw [Int.natCast_mul, Int.toNat_of_nonneg (by omega), Int.mul_comm]
    rw [← e3]; omega
  have hne : ¬ m.toNat * sz = 0 := by
    intro e0
    rcases Nat.mul_eq_zero.1 e0 with h1 | h1
    · exact hm1 h1
    · omega
  obtain ⟨g2, r2, n2, _, _, hI⟩ := hr.grew (w' := w.alloc (.cells ((Array.range (m.toNat * sz)).map (v.cells[· % v.cells.size]!)) e)) ((Bel.refl _ _).alloc (Nat.le_refl _) _)
  refine ⟨.slice (some ⟨w.heap.size, 0, none⟩) m.toNat m.toNat, _, g2, .inl ?_, n2, r2, ?_⟩
  · have cnd : ((decide (m < 0) || decide ((i0.bytes : Int) * m > 2 ^ 48) || decide (m < 0)) || decide (m > m)) = false := by
      rw [hbytes]; simp; omega
    simp only [execOp, ho, Instr.makeSlice, Sem.run_bind, run_underlying hu, Result.andThen_ok, e1, e2, asInt, asIntOf, Sem.run_pure, typeInfo, run_program, hi0, wl, cnd, Bool.false_eq_true, if_false, run_askRoom, sizeOf, hi0s, hne, hv, newRow, run_newObj]
    simp
  · simp only [XR, VR, RC]
    refine ⟨_, _, _, rfl, by simp, Nat.le_refl _, ?_, .inr ⟨w.heap.size, 0, sz, rfl, ?_, hpos, ?_⟩⟩
    · unfold maxLen; omega
    · rw [hI]; exact .inr ⟨Nat.le_refl _, by simp⟩
    · refine RowsC_mk _ _ _ _ fun i x hx => ?_
      have hi : i < m.toNat := by
        rcases Nat.lt_or_ge i m.toNat with h | h
        · exact h
        · rw [List.getElem?_eq_none (by simp; omega)] at hx; cases hx
      have hsg : (seg ((Array.range (m.toNat * sz)).map (v.cells[· % v.cells.size]!)).toList (i * sz) sz).length = sz := by rw [rep_cells hvs hpos i hi]; simpa using hvs
      exact ⟨_, hsg, RC_keep n2.on.keeps x _ ((hlie.2 i x hx).2 rfl), At.of_cells (alloc_new w _) (by rw [hsg]; simp [seg])⟩
end
end Go.Pf
