/- The framework, part 6: the changes of the evaluator's heap. -/
import Derived.Test.YthlajkcfbpfmdaaFw5
namespace Go.Pf
open Go Go.RowKit

theorem rows_len_le {g : Gh} {H : Hp} {w : World} {id : Nat} {hb : HB} {b o : Nat} (h : BlkR g H w id hb b o) : ∃ (cur : Array Value) (T : TypeId), w.heap[b]? = some (Obj.cells cur T (0, 0)) ∧ o + hb.rows.length * hb.esz ≤ cur.size := h.cells

theorem At.of_cells {w : World} {b o : Nat} {cur : Array Value} {T : TypeId} {fr : Nat × Nat} {vs : List Value} (h : w.heap[b]? = some (Obj.cells cur T fr)) (e : (cur.toList.drop o).take vs.length = vs) : At w b o vs := by
  intro j u hj
  simp only [World.cell?, h]
  have hlt : j < vs.length := by
    rcases Nat.lt_or_ge j vs.length with h1 | h1
    · exact h1
    · rw [List.getElem?_eq_none h1] at hj; cases hj
  have : ((cur.toList.drop o).take vs.length)[j]? = some u := by rw [e]; exact hj
  rw [List.getElem?_take] at this
  simp only [hlt, if_true, List.getElem?_drop] at this
  simpa using this

theorem At.to_cells {w : World} {b o : Nat} {cur : Array Value} {T : TypeId} {fr : Nat × Nat} {vs : List Value} (h : w.heap[b]? = some (Obj.cells cur T fr)) (a : At w b o vs) : (cur.toList.drop o).take vs.length = vs := by
  apply List.ext_getElem?
  intro j
  by_cases hlt : j < vs.length
  · have := a j vs[j] (List.getElem?_eq_getElem hlt)
    simp only [World.cell?, h] at this
    rw [List.getElem?_take]
    simp only [hlt, if_true, List.getElem?_drop, List.getElem?_eq_getElem hlt]
    simpa using this
  · rw [List.getElem?_take, if_neg hlt, List.getElem?_eq_none (Nat.le_of_not_lt hlt)]

section
variable {E : Env} {nt : Nat} {g g' : Gh} {F : Frm} {H H' : Hp} {tmps : Array Value} {w w' : World}

theorem RowsR_get : ∀ (l : List PV) (esz b o i : Nat) (x : PV), RowsR g H w l esz b o → l[i]? = some x → ∃ vs, vs.length = esz ∧ RowR g H w x vs ∧ At w b (o + i * esz) vs
  | [], _, _, _, i, x, _, h => by simp at h
  | y :: r, esz, b, o, 0, x, h, e => by
    simp only [RowsR] at h
    simp at e; subst e
    obtain ⟨⟨vs, h1, h2, h3⟩, _⟩ := h
    exact ⟨vs, h1, h2, by simpa using h3⟩
  | y :: r, esz, b, o, i + 1, x, h, e => by
    simp only [RowsR] at h
    simp at e
    obtain ⟨vs, h1, h2, h3⟩ := RowsR_get r esz b (o + esz) i x h.2 e
    exact ⟨vs, h1, h2, by rw [show o + (i + 1) * esz = o + esz + i * esz from by rw [Nat.add_mul]; omega]; exact h3⟩

theorem RowsC_get {I : Nat → Prop} : ∀ (l : List PV) (esz b o i : Nat) (x : PV), RowsC I w l esz b o → l[i]? = some x → ∃ vs, vs.length = esz ∧ RC I w x vs ∧ At w b (o + i * esz) vs
  | [], _, _, _, i, x, _, h => by simp at h
  | y :: r, esz, b, o, 0, x, h, e => by
    simp only [RowsC] at h
    simp at e; subst e
    obtain ⟨⟨vs, h1, h2, h3⟩, _⟩ := h
    exact ⟨vs, h1, h2, by simpa using h3⟩
  | y :: r, esz, b, o, i + 1, x, h, e => by
    simp only [RowsC] at h
    simp at e
    obtain ⟨vs, h1, h2, h3⟩ := RowsC_get r esz b (o + esz) i x h.2 e
    exact ⟨vs, h1, h2, by rw [show o + (i + 1) * esz = o + esz + i * esz from by rw [Nat.add_mul]; omega]; exact h3⟩

theorem RowsR_mk : ∀ (l : List PV) (esz b o : Nat), (∀ i x, l[i]? = some x → ∃ vs, vs.length = esz ∧ RowR g H w x vs ∧ At w b (o + i * esz) vs) → RowsR g H w l esz b o
  | [], _, _, _, _ => by simp only [RowsR]
  | y :: r, esz, b, o, h => by
    simp only [RowsR]
    refine ⟨by simpa using h 0 y rfl, RowsR_mk r esz b (o + esz) fun i x hx => ?_⟩
    obtain ⟨vs, h1, h2, h3⟩ := h (i + 1) x (by simpa using hx)
    exact ⟨vs, h1, h2, by rw [show o + esz + i * esz = o + (i + 1) * esz from by rw [Nat.add_mul]; omega]; exact h3⟩

theorem RowsC_mk {I : Nat → Prop} : ∀ (l : List PV) (esz b o : Nat), (∀ i x, l[i]? = some x → ∃ vs, vs.length = esz ∧ RC I w x vs ∧ At w b (o + i * esz) vs) → RowsC I w l esz b o
  | [], _, _, _, _ => by simp only [RowsC]
  | y :: r, esz, b, o, h => by
    simp only [RowsC]
    refine ⟨by simpa using h 0 y rfl, RowsC_mk r esz b (o + esz) fun i x hx => ?_⟩
    obtain ⟨vs, h1, h2, h3⟩ := h (i + 1) x (by simpa using hx)
    exact ⟨vs, h1, h2, by rw [show o + esz + i * esz = o + (i + 1) * esz from by rw [Nat.add_mul]; omega]; exact h3⟩

/-- A part of pure rows. -/
theorem RowsC_seg {I : Nat → Prop} {l : List PV} {esz b o : Nat} (h : RowsC I w l esz b o) (lo n : Nat) : RowsC I w ((l.drop lo).take n) esz b (o + lo * esz) := by
  refine RowsC_mk _ _ _ _ fun i x hx => ?_
  rw [List.getElem?_take] at hx
  split at hx
  · rw [List.getElem?_drop] at hx
    obtain ⟨vs, h1, h2, h3⟩ := RowsC_get l esz b o (lo + i) x h hx
    exact ⟨vs, h1, h2, by rw [show o + lo * esz + i * esz = o + (lo + i) * esz from by rw [Nat.add_mul]; omega]; exact h3⟩
  · cases hx

/-- Pure rows are rows. -/
theorem VR_of_RC (x : PV) (v : Value) (ho : x.one = true) (h : RC g.I w x [v]) : VR g H w x v := by
  cases x with
  | bool b => simp only [RC, VR] at h ⊢; simpa using h
  | int k n => simp only [RC, VR] at h ⊢; simpa using h
  | data rows => simp only [VR]; exact h
  | agg cs => simp [PV.one] at ho
  | tup ps => simp [PV.one] at ho
  | _ => simp [RC] at h

theorem VCs_of_CellsC : ∀ (l : List PV) (vs : List Value), CellsC g.I w l vs → VCs g H w l vs
  | [], vs, h => by simpa only [VCs, CellsC] using h
  | x :: r, vs, h => by
    simp only [VCs, CellsC] at h ⊢
    obtain ⟨v, vr, e, o, h1, h2⟩ := h
    exact ⟨v, vr, e, o, VR_of_RC x v o h1, VCs_of_CellsC r vr h2⟩

theorem RowR_of_RC (x : PV) (vs : List Value) (h : RC g.I w x vs) : RowR g H w x vs := by
  cases x with
  | bool b => simp only [RC, RowR, VR] at h ⊢; exact ⟨rfl, _, h, rfl⟩
  | int k n => simp only [RC, RowR, VR] at h ⊢; exact ⟨rfl, _, h.1, rfl, h.2⟩
  | data rows =>
    simp only [RowR, VR]
    have h' := h
    simp only [RC] at h
    obtain ⟨a, len, cap, e, _⟩ := h
    exact ⟨rfl, _, e, by rw [← e]; exact h'⟩
  | agg cs => simp only [RC, RowR] at h ⊢; exact VCs_of_CellsC cs vs h
  | _ => simp [RC] at h

theorem RowsR_of_RowsC {l : List PV} {esz b o : Nat} (h : RowsC g.I w l esz b o) : RowsR g H w l esz b o :=
  RowsR_mk _ _ _ _ fun i x hx => by
    obtain ⟨vs, h1, h2, h3⟩ := RowsC_get l esz b o i x h hx
    exact ⟨vs, h1, RowR_of_RC x vs h2, h3⟩

theorem hget_append (H : Hp) (hb hb' : HB) (id : Nat) (h : (H ++ [hb])[id]? = some hb') : (id < H.length ∧ H[id]? = some hb') ∨ (id = H.length ∧ hb' = hb) := by
  rw [List.getElem?_append] at h
  split at h
  · rename_i hl; exact .inl ⟨hl, h⟩
  · rename_i hl
    have : id - H.length = 0 := by
      rcases Nat.eq_zero_or_pos (id - H.length) with e | e
      · exact e
      · rw [List.getElem?_eq_none (by simp; omega)] at h; cases h
    rw [this] at h
    simp at h
    exact .inr ⟨by omega, h.symm⟩

/-- A new block of the evaluator. -/
theorem Rel.newBlk (h : Rel E nt g F H tmps w) {hb : HB} {cs : Array Value} {T : TypeId} (hz : 0 < hb.esz) (hf : hb.fz = false) (hl : hb.rows.length * hb.esz ≤ cs.size)
    (hr : ∀ i x, hb.rows[i]? = some x → ∃ vs, vs.length = hb.esz ∧ RowR g H w x vs ∧ (cs.toList.drop (i * hb.esz)).take vs.length = vs)
    (hp : hb.pu = true → ∀ i x, hb.rows[i]? = some x → ∃ vs, vs.length = hb.esz ∧ RC g.I w x vs ∧ (cs.toList.drop (i * hb.esz)).take vs.length = vs) :
    ∃ g', Rel E nt g' F (H ++ [hb]) tmps (w.alloc (.cells cs T)) ∧ Nx g g' H (H ++ [hb]) w (w.alloc (.cells cs T)) ∧ g'.ρ H.length = some (w.heap.size, 0) := by
  let g' : Gh := { g with ρ := fun id => if id = H.length then some (w.heap.size, 0) else g.ρ id }
  have hx : HExt g g' H (H ++ [hb]) := by
    intro id hb' e
    have hid : id < H.length := by
      rcases Nat.lt_or_ge id H.length with h1 | h1
      · exact h1
      · rw [List.getElem?_eq_none h1] at e; cases e
    refine ⟨hb', by rw [List.getElem?_append_left hid]; exact e, rfl, rfl, .inr ⟨rfl, ?_⟩⟩
    simp only [g']; rw [if_neg (by omega)]
  have hon : On g g' H (H ++ [hb]) w (w.alloc (.cells cs T)) := by
    have := On.alloc (g := g) (H := H) h.imm (.cells cs T)
    exact ⟨this.keeps, hx, this.shape, rfl⟩
  have hnotI : ¬ g.I w.heap.size := fun hi => Nat.lt_irrefl _ (h.imm _ hi)
  have hnew := alloc_new w (.cells cs T)
  have hρ : ∀ id b o, g'.ρ id = some (b, o) → (id = H.length ∧ b = w.heap.size ∧ o = 0) ∨ (id < H.length ∧ g.ρ id = some (b, o) ∧ b < w.heap.size) := by
    intro id b o e
    simp only [g'] at e
    by_cases e1 : id = H.length
    · rw [if_pos e1] at e; cases e; exact .inl ⟨e1, rfl, rfl⟩
    · rw [if_neg e1] at e; exact .inr ⟨h.rsome id b o e, e, h.brng ⟨id, o, e⟩⟩
  refine ⟨g', ?_, ?_, by simp [g']⟩
  · refine h.upd hon rfl (by simp) (fun s b hb' => ⟨alloc_old w _ (h.bimm s b hb').2, (h.bimm s b hb').1, ?_⟩) ?_ ?_ ?_ ?_
    · rintro ⟨id, o, hr'⟩
      rcases hρ id b o hr' with ⟨_, e, _⟩ | ⟨_, e, _⟩
      · have := (h.bimm s b hb').2; omega
      · exact h.brho s b id o hb' e
    · intro id hb' e
      rcases hget_append H hb hb' id e with ⟨hid, e'⟩ | ⟨hid, e'⟩
      · obtain ⟨b, o, hk⟩ := h.heap id hb' e'
        exact ⟨b, o, BlkR_on hon hk (alloc_old w _ (h.brng ⟨id, o, hk.at_⟩)) (by simp only [g']; rw [if_neg (by omega)]) (fun x => x)⟩
      · subst hid; subst e'
        refine ⟨w.heap.size, 0, by simp [g'], hz, ⟨cs, T, hnew, by omega⟩, RowsR_mk _ _ _ _ fun i x hx' => ?_, fun hpu => RowsC_mk _ _ _ _ fun i x hx' => ?_, fun hfz => (by rw [hf] at hfz; cases hfz), fun _ => hnotI⟩
        · obtain ⟨vs, h1, h2, h3⟩ := hr i x hx'
          exact ⟨vs, h1, RowR_on hon x vs h2, At.of_cells hnew (by simpa using h3)⟩
        · obtain ⟨vs, h1, h2, h3⟩ := hp hpu i x hx'
          exact ⟨vs, h1, RC_keep hon.keeps x vs h2, At.of_cells hnew (by simpa using h3)⟩
    · intro id id' hb' b o b' o' e hfz hne h1 h2
      rcases hρ id b o h1 with ⟨i1, i2, i3⟩ | ⟨i1, i2, i3⟩ <;> rcases hρ id' b' o' h2 with ⟨j1, j2, j3⟩ | ⟨j1, j2, j3⟩
      · omega
      · omega
      · omega
      · exact h.dist id id' hb' b o b' o' (by rw [List.getElem?_append_left i1] at e; exact e) hfz hne i2 j2
    · intro id b o e
      rcases hρ id b o e with ⟨i1, _⟩ | ⟨i1, _⟩ <;> simp <;> omega
    · intro b hb'
      have := h.imm b hb'
      simp; omega
  · refine ⟨rfl, rfl, rfl, Nat.le_refl _, by simp, fun b hb' _ _ => alloc_old w _ hb', fun b hb' ⟨id, o, e⟩ => ?_, fun b _ hI => .inl hI, fun b _ hm => hm, hon⟩
    rcases hρ id b o e with ⟨_, i2, _⟩ | ⟨_, i2, _⟩
    · omega
    · exact ⟨id, o, i2⟩

theorem setRow_shape (w : World) {b : Nat} {cur cs : Array Value} {T : TypeId} (hb : w.heap[b]? = some (.cells cur T (0, 0))) (hs : cs.size = cur.size) :
    ∀ (b' : Nat) (c : Array Value) (T' : TypeId), w.heap[b']? = some (Obj.cells c T' (0, 0)) → ∃ c' : Array Value, (w.setRow b cs).heap[b']? = some (Obj.cells c' T' (0, 0)) ∧ c'.size = c.size := by
  intro b' c T' h
  by_cases e : b' = b
  · subst e
    rw [hb] at h; cases h
    exact ⟨cs, setRow_heap w b' cur cs T (0, 0) hb, hs⟩
  · exact ⟨c, by rw [setRow_other w b b' cs e]; exact h, rfl⟩

theorem setRow_size (w : World) (b : Nat) (cs : Array Value) : (w.setRow b cs).heap.size = w.heap.size := by
  simp [World.setRow]

theorem setRow_tape (w : World) (b : Nat) (cs : Array Value) : (w.setRow b cs).tape = w.tape := rfl

/-- A variable of the frame is written. -/
theorem Rel.setBox (h : Rel E nt g F H tmps w) {s b : Nat} {row row' : PV} {cur cs : Array Value} {T : TypeId} (hs : g.β s = some b) (hF : fget F s = some (.box row)) (hb : w.heap[b]? = some (.cells cur T (0, 0)))
    (hz : cs.size = cur.size) (hr : RowR g H w row' cs.toList) :
    Rel E nt g (fset F s (.box row')) H tmps (w.setRow b cs) ∧ Nx g g H H w (w.setRow b cs) := by
  have hbI := h.bimm s b hs
  have hon : On g g H H w (w.setRow b cs) := by
    refine ⟨fun i hi => ⟨hi, setRow_other w b i cs (fun e => ?_)⟩, HExt.refl g H, setRow_shape w hb hz, rfl⟩
    subst e; exact hbI.1 hi
  have hoth : ∀ i, i ≠ b → (w.setRow b cs).heap[i]? = w.heap[i]? := fun i hi => setRow_other w b i cs hi
  refine ⟨{ size := h.size, frame := ?_, heap := ?_, dist := h.dist, rsome := h.rsome, bdist := h.bdist, brho := h.brho, bimm := ?_, imm := ?_, glob := ?_ }, ?_⟩
  · intro k x hk
    rw [fget_fset] at hk
    by_cases e : k = s
    · subst e
      simp at hk; subst hk
      have h0 := h.frame k _ hF
      simp only [FRel] at h0 ⊢
      obtain ⟨b0, h1, h2, h3⟩ := h0
      rw [hs] at h1; cases h1
      exact ⟨b, hs, h2, hbI.1, cs, T, setRow_heap w b cur cs T (0, 0) hb, RowR_on hon _ _ hr⟩
    · rw [if_neg e] at hk
      have h0 := h.frame k x hk
      cases x with
      | v p => simp only [FRel] at h0 ⊢; exact VR_on hon p _ h0
      | box r =>
        simp only [FRel] at h0 ⊢
        obtain ⟨b', h1, h2, h3⟩ := h0
        exact ⟨b', h1, h2, BoxR_on hon h3 (hoth b' (fun e' => e (h.bdist k s b (e' ▸ h1) hs))) (fun x => x)⟩
      | bp s' off => simp only [FRel] at h0 ⊢; exact h0
  · intro id hb' e
    obtain ⟨b', o, hk⟩ := h.heap id hb' e
    exact ⟨b', o, BlkR_on hon hk (hoth b' (fun e' => h.brho s b id o hs (e' ▸ hk.at_))) rfl (fun x => x)⟩
  · intro s' b' h1
    have := h.bimm s' b' h1
    rw [setRow_size]; exact this
  · intro b' hI; rw [setRow_size]; exact h.imm b' hI
  · intro n x hx
    obtain ⟨h1, vs, h2, h3, h4⟩ := h.glob n x hx
    obtain ⟨h5, h6⟩ := hon.keeps n h1
    exact ⟨h5, vs, h2, RC_keep hon.keeps x vs h3, h4.keep h6⟩
  · exact ⟨setRow_os w b cs, setRow_tape w b cs, setRow_output w b cs, Nat.le_refl _, by rw [setRow_size]; exact Nat.le_refl _, fun i _ _ hf => hoth i (fun e => hf ⟨s, e ▸ hs⟩), fun _ _ x => x, fun _ _ x => .inl x, fun _ _ x => x, hon⟩
end
end Go.Pf
