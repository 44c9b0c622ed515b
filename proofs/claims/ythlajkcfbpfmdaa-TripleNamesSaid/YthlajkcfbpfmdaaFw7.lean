/- The framework, part 7: blocks that are written, that grow, that are frozen; and a call that only makes memory. -/
import Derived.Test.YthlajkcfbpfmdaaFw6
namespace Go.Pf
open Go Go.RowKit
section
variable {E : Env} {nt : Nat} {g g' : Gh} {F : Frm} {H H' : Hp} {tmps : Array Value} {w w' : World}

theorem hset_get (H : Hp) (id k : Nat) (hb hb' : HB) (h : (H.set id hb)[k]? = some hb') : (k = id ∧ hb' = hb ∧ id < H.length) ∨ (k ≠ id ∧ H[k]? = some hb') := by
  rw [List.getElem?_set] at h
  split at h
  · rename_i e
    split at h
    · cases h; exact .inl ⟨e.symm, rfl, by assumption⟩
    · cases h
  · rename_i e; exact .inr ⟨fun x => e x.symm, h⟩

theorem hlt {H : Hp} {id : Nat} {hb : HB} (h : H[id]? = some hb) : id < H.length := by
  rcases Nat.lt_or_ge id H.length with h1 | h1
  · exact h1
  · rw [List.getElem?_eq_none h1] at h; cases h

/-- Rows of a block of the evaluator are written, or more rows come within the block. -/
theorem Rel.setBlk (h : Rel E nt g F H tmps w) {id b o : Nat} {hb : HB} {rows' : List PV} {cur cs : Array Value} {T : TypeId}
    (hid : H[id]? = some hb) (hf : hb.fz = false) (hρ : g.ρ id = some (b, o)) (hc : w.heap[b]? = some (.cells cur T (0, 0))) (hz : cs.size = cur.size)
    (hl : hb.rows.length ≤ rows'.length) (hfit : o + rows'.length * hb.esz ≤ cs.size)
    (hr : ∀ i x, rows'[i]? = some x → ∃ vs, vs.length = hb.esz ∧ RowR g H w x vs ∧ (cs.toList.drop (o + i * hb.esz)).take vs.length = vs)
    (hp : hb.pu = true → ∀ i x, rows'[i]? = some x → ∃ vs, vs.length = hb.esz ∧ RC g.I w x vs ∧ (cs.toList.drop (o + i * hb.esz)).take vs.length = vs) :
    Rel E nt g F (H.set id { hb with rows := rows' }) tmps (w.setRow b cs) ∧ Nx g g H (H.set id { hb with rows := rows' }) w (w.setRow b cs) := by
  obtain ⟨b0, o0, hk0⟩ := h.heap id hb hid
  have e0 : b0 = b ∧ o0 = o := by have := hk0.at_; rw [hρ] at this; cases this; exact ⟨rfl, rfl⟩
  obtain ⟨rfl, rfl⟩ := e0
  have hbI := hk0.live hf
  have hx : HExt g g H (H.set id { hb with rows := rows' }) := by
    intro k hb' e
    by_cases ek : k = id
    · subst ek
      rw [hid] at e; cases e
      refine ⟨{ hb with rows := rows' }, by rw [List.getElem?_set_self (hlt hid)], rfl, rfl, ?_⟩
      rcases Nat.lt_or_ge hb.rows.length rows'.length with h1 | h1
      · exact .inl h1
      · exact .inr ⟨by simp; omega, rfl⟩
    · exact ⟨hb', by rw [List.getElem?_set_ne (fun x => ek x.symm)]; exact e, rfl, rfl, .inr ⟨rfl, rfl⟩⟩
  have hoth : ∀ i, i ≠ b0 → (w.setRow b0 cs).heap[i]? = w.heap[i]? := fun i hi => setRow_other w b0 i cs hi
  have hon : On g g H (H.set id { hb with rows := rows' }) w (w.setRow b0 cs) := by
    refine ⟨fun i hi => ⟨hi, hoth i (fun e => ?_)⟩, hx, setRow_shape w hc hz, rfl⟩
    subst e; exact hbI hi
  have hnew := setRow_heap w b0 cur cs T (0, 0) hc
  refine ⟨?_, ?_⟩
  · refine h.upd hon rfl (by rw [setRow_size]; exact Nat.le_refl _) (fun s b' hs => ⟨hoth b' (fun e => h.brho s b0 id o0 (e ▸ hs) hρ), (h.bimm s b' hs).1, fun ⟨i, oo, hr'⟩ => h.brho s b' i oo hs hr'⟩) ?_ ?_ ?_ ?_
    · intro k hb' e
      rcases hset_get H id k _ hb' e with ⟨ek, eb, _⟩ | ⟨ek, e'⟩
      · subst ek; subst eb
        refine ⟨b0, o0, hρ, hk0.esz, ⟨cs, T, hnew, hfit⟩, RowsR_mk _ _ _ _ fun i x hx' => ?_, fun hpu => RowsC_mk _ _ _ _ fun i x hx' => ?_, fun hfz => (by simp [hf] at hfz), fun _ => hbI⟩
        · obtain ⟨vs, h1, h2, h3⟩ := hr i x hx'
          exact ⟨vs, h1, RowR_on hon x vs h2, At.of_cells hnew h3⟩
        · obtain ⟨vs, h1, h2, h3⟩ := hp hpu i x hx'
          exact ⟨vs, h1, RC_keep hon.keeps x vs h2, At.of_cells hnew h3⟩
      · obtain ⟨b', o', hk⟩ := h.heap k hb' e'
        exact ⟨b', o', BlkR_on hon hk (hoth b' (fun e => h.dist id k hb b0 o0 b' o' hid hf (fun x => ek x.symm) hρ hk.at_ e.symm)) rfl (fun x => x)⟩
    · intro k k' hb' b' o' b'' o'' e hfz hne h1 h2
      rcases hset_get H id k _ hb' e with ⟨ek, eb, _⟩ | ⟨ek, e'⟩
      · subst ek
        exact h.dist k k' hb b' o' b'' o'' hid hf hne h1 h2
      · exact h.dist k k' hb' b' o' b'' o'' e' hfz hne h1 h2
    · intro k b' o' e; rw [List.length_set]; exact h.rsome k b' o' e
    · intro b' hI; rw [setRow_size]; exact h.imm b' hI
  · exact ⟨setRow_os w b0 cs, setRow_tape w b0 cs, setRow_output w b0 cs, Nat.le_refl _, by rw [setRow_size]; exact Nat.le_refl _, fun i _ hr' _ => hoth i (fun e => hr' ⟨id, o0, e ▸ hρ⟩), fun _ _ x => x, fun _ _ x => .inl x, fun _ _ x => x, hon⟩

/-- A block of the evaluator grows into a new block. -/
theorem Rel.growBlk (h : Rel E nt g F H tmps w) {id : Nat} {hb : HB} {rows' : List PV} {cs : Array Value} {T : TypeId}
    (hid : H[id]? = some hb) (hf : hb.fz = false) (hl : hb.rows.length < rows'.length) (hfit : rows'.length * hb.esz ≤ cs.size)
    (hr : ∀ i x, rows'[i]? = some x → ∃ vs, vs.length = hb.esz ∧ RowR g H w x vs ∧ (cs.toList.drop (i * hb.esz)).take vs.length = vs)
    (hp : hb.pu = true → ∀ i x, rows'[i]? = some x → ∃ vs, vs.length = hb.esz ∧ RC g.I w x vs ∧ (cs.toList.drop (i * hb.esz)).take vs.length = vs) :
    ∃ g', Rel E nt g' F (H.set id { hb with rows := rows' }) tmps (w.alloc (.cells cs T)) ∧ Nx g g' H (H.set id { hb with rows := rows' }) w (w.alloc (.cells cs T)) ∧ g'.ρ id = some (w.heap.size, 0) := by
  let g' : Gh := { g with ρ := fun k => if k = id then some (w.heap.size, 0) else g.ρ k }
  obtain ⟨b0, o0, hk0⟩ := h.heap id hb hid
  have hx : HExt g g' H (H.set id { hb with rows := rows' }) := by
    intro k hb' e
    by_cases ek : k = id
    · subst ek
      rw [hid] at e; cases e
      exact ⟨{ hb with rows := rows' }, by rw [List.getElem?_set_self (hlt hid)], rfl, rfl, .inl hl⟩
    · exact ⟨hb', by rw [List.getElem?_set_ne (fun x => ek x.symm)]; exact e, rfl, rfl, .inr ⟨rfl, by simp only [g']; rw [if_neg ek]⟩⟩
  have hon : On g g' H (H.set id { hb with rows := rows' }) w (w.alloc (.cells cs T)) := by
    have := On.alloc (g := g) (H := H) h.imm (.cells cs T)
    exact ⟨this.keeps, hx, this.shape, rfl⟩
  have hnotI : ¬ g.I w.heap.size := fun hi => Nat.lt_irrefl _ (h.imm _ hi)
  have hnew := alloc_new w (.cells cs T)
  have hρ : ∀ k b o, g'.ρ k = some (b, o) → (k = id ∧ b = w.heap.size ∧ o = 0) ∨ (k ≠ id ∧ g.ρ k = some (b, o) ∧ b < w.heap.size) := by
    intro k b o e
    simp only [g'] at e
    by_cases e1 : k = id
    · rw [if_pos e1] at e; cases e; exact .inl ⟨e1, rfl, rfl⟩
    · rw [if_neg e1] at e; exact .inr ⟨e1, e, h.brng ⟨k, o, e⟩⟩
  refine ⟨g', ?_, ?_, by simp [g']⟩
  · refine h.upd hon rfl (by simp) (fun s b hb' => ⟨alloc_old w _ (h.bimm s b hb').2, (h.bimm s b hb').1, ?_⟩) ?_ ?_ ?_ ?_
    · rintro ⟨k, o, hr'⟩
      rcases hρ k b o hr' with ⟨_, e, _⟩ | ⟨_, e, _⟩
      · have := (h.bimm s b hb').2; omega
      · exact h.brho s b k o hb' e
    · intro k hb' e
      rcases hset_get H id k _ hb' e with ⟨ek, eb, _⟩ | ⟨ek, e'⟩
      · subst ek; subst eb
        refine ⟨w.heap.size, 0, by simp [g'], hk0.esz, ⟨cs, T, hnew, by simpa using hfit⟩, RowsR_mk _ _ _ _ fun i x hx' => ?_, fun hpu => RowsC_mk _ _ _ _ fun i x hx' => ?_, fun hfz => (by simp [hf] at hfz), fun _ => hnotI⟩
        · obtain ⟨vs, h1, h2, h3⟩ := hr i x hx'
          exact ⟨vs, h1, RowR_on hon x vs h2, At.of_cells hnew (by simpa using h3)⟩
        · obtain ⟨vs, h1, h2, h3⟩ := hp hpu i x hx'
          exact ⟨vs, h1, RC_keep hon.keeps x vs h2, At.of_cells hnew (by simpa using h3)⟩
      · obtain ⟨b, o, hk⟩ := h.heap k hb' e'
        exact ⟨b, o, BlkR_on hon hk (alloc_old w _ (h.brng ⟨k, o, hk.at_⟩)) (by simp only [g']; rw [if_neg ek]) (fun x => x)⟩
    · intro k k' hb' b' o' b'' o'' e hfz hne h1 h2
      rcases hρ k b' o' h1 with ⟨i1, i2, i3⟩ | ⟨i1, i2, i3⟩ <;> rcases hρ k' b'' o'' h2 with ⟨j1, j2, j3⟩ | ⟨j1, j2, j3⟩
      · omega
      · omega
      · omega
      · rcases hset_get H id k _ hb' e with ⟨ek, _, _⟩ | ⟨ek, e'⟩
        · exact absurd ek i1
        · exact h.dist k k' hb' b' o' b'' o'' e' hfz hne i2 j2
    · intro k b o e
      rw [List.length_set]
      rcases hρ k b o e with ⟨i1, _⟩ | ⟨_, i1, _⟩
      · subst i1; exact hlt hid
      · exact h.rsome k b o i1
    · intro b hb'
      have := h.imm b hb'
      simp; omega
  · refine ⟨rfl, rfl, rfl, Nat.le_refl _, by simp, fun b hb' _ _ => alloc_old w _ hb', fun b hb' ⟨k, o, e⟩ => ?_, fun b _ hI => .inl hI, fun b _ hm => hm, hon⟩
    rcases hρ k b o e with ⟨_, i2, _⟩ | ⟨_, i2, _⟩
    · omega
    · exact ⟨k, o, i2⟩

/-- A block is frozen: its rows are data from now on. -/
theorem Rel.freeze (h : Rel E nt g F H tmps w) {id : Nat} {hb : HB} (hid : H[id]? = some hb) (hp : hb.pu = true) :
    ∃ g' b o, Rel E nt g' F (H.set id { hb with fz := true }) tmps w ∧ Nx g g' H (H.set id { hb with fz := true }) w w ∧ g'.ρ = g.ρ ∧ g'.β = g.β ∧ g.ρ id = some (b, o) ∧ g'.I b ∧ RowsC g'.I w hb.rows hb.esz b o ∧ 0 < hb.esz := by
  obtain ⟨b0, o0, hk0⟩ := h.heap id hb hid
  let g' : Gh := { g with I := fun b => g.I b ∨ b = b0 }
  have hx : HExt g g' H (H.set id { hb with fz := true }) := by
    intro k hb' e
    by_cases ek : k = id
    · subst ek
      rw [hid] at e; cases e
      exact ⟨{ hb with fz := true }, by rw [List.getElem?_set_self (hlt hid)], rfl, rfl, .inr ⟨rfl, rfl⟩⟩
    · exact ⟨hb', by rw [List.getElem?_set_ne (fun x => ek x.symm)]; exact e, rfl, rfl, .inr ⟨rfl, rfl⟩⟩
  have hon : On g g' H (H.set id { hb with fz := true }) w w := ⟨fun i hi => ⟨.inl hi, rfl⟩, hx, fun b cur T e => ⟨cur, e, rfl⟩, rfl⟩
  have hblt : b0 < w.heap.size := h.brng ⟨id, o0, hk0.at_⟩
  have hrows : RowsC g'.I w hb.rows hb.esz b0 o0 := by
    refine RowsC_mk _ _ _ _ fun i x hx' => ?_
    obtain ⟨vs, h1, h2, h3⟩ := RowsC_get _ _ _ _ i x (hk0.pure hp) hx'
    exact ⟨vs, h1, RC_keep hon.keeps x vs h2, h3⟩
  refine ⟨g', b0, o0, ?_, ?_, rfl, rfl, hk0.at_, .inr rfl, hrows, hk0.esz⟩
  · refine h.upd hon rfl (Nat.le_refl _) (fun s b hb' => ⟨rfl, ?_, fun ⟨i, oo, hr'⟩ => h.brho s b i oo hb' hr'⟩) ?_ ?_ ?_ ?_
    · rintro (hi | e)
      · exact (h.bimm s b hb').1 hi
      · subst e; exact h.brho s b id o0 hb' hk0.at_
    · intro k hb' e
      rcases hset_get H id k _ hb' e with ⟨ek, eb, _⟩ | ⟨ek, e'⟩
      · subst ek; subst eb
        exact ⟨b0, o0, hk0.at_, hk0.esz, hk0.cells, RowsR_on hon _ _ rfl _ _ hk0.rows, fun _ => hrows, fun _ => .inr rfl, fun hfz => (by simp at hfz)⟩
      · obtain ⟨b, o, hk⟩ := h.heap k hb' e'
        by_cases hfk : hb'.fz = true
        · have hkI := hk.fz hfk
          exact ⟨b, o, BlkR_on hon hk rfl rfl (fun _ => hkI)⟩
        · have hne : b ≠ b0 := h.dist k id hb' b o b0 o0 e' (by simpa using hfk) ek hk.at_ hk0.at_
          exact ⟨b, o, BlkR_on hon hk rfl rfl (fun hi => hi.resolve_right hne)⟩
    · intro k k' hb' b' o' b'' o'' e hfz hne h1 h2
      rcases hset_get H id k _ hb' e with ⟨ek, eb, _⟩ | ⟨ek, e'⟩
      · subst eb; simp at hfz
      · exact h.dist k k' hb' b' o' b'' o'' e' hfz hne h1 h2
    · intro k b o e; rw [List.length_set]; exact h.rsome k b o e
    · rintro b (hi | e)
      · exact h.imm b hi
      · subst e; exact hblt
  · refine ⟨rfl, rfl, rfl, Nat.le_refl _, Nat.le_refl _, fun _ _ _ _ => rfl, fun _ _ x => x, fun b _ hI => ?_, fun _ _ x => x, hon⟩
    rcases hI with hi | e
    · exact .inl hi
    · subst e; exact .inr ⟨id, o0, hk0.at_⟩

/-- Behind a call that only makes memory: what it made is data. -/
theorem Rel.grew (h : Rel E nt g F H tmps w) (hw : Bel w.heap.size w w') :
    ∃ g', Rel E nt g' F H tmps w' ∧ Nx g g' H H w w' ∧ g'.ρ = g.ρ ∧ g'.β = g.β ∧ g'.I = fun b => g.I b ∨ (w.heap.size ≤ b ∧ b < w'.heap.size) := by
  let g' : Gh := { g with I := fun b => g.I b ∨ (w.heap.size ≤ b ∧ b < w'.heap.size) }
  have hon : On g g' H H w w' := by
    refine ⟨fun i hi => ⟨.inl hi, hw.block i (h.imm i hi)⟩, fun id hb e => ⟨hb, e, rfl, rfl, .inr ⟨rfl, rfl⟩⟩, fun b cur T e => ⟨cur, (hw.block b (lt_of_some e)).trans e, rfl⟩, rfl⟩
  refine ⟨g', ?_, ?_, rfl, rfl, rfl⟩
  · refine h.upd hon rfl hw.size (fun s b hb' => ⟨hw.block b (h.bimm s b hb').2, ?_, fun ⟨i, oo, hr'⟩ => h.brho s b i oo hb' hr'⟩) ?_ h.dist h.rsome ?_
    · rintro (hi | ⟨hi, _⟩)
      · exact (h.bimm s b hb').1 hi
      · have := (h.bimm s b hb').2; omega
    · intro k hb' e
      obtain ⟨b, o, hk⟩ := h.heap k hb' e
      have hlt' := h.brng ⟨k, o, hk.at_⟩
      exact ⟨b, o, BlkR_on hon hk (hw.block b hlt') rfl (fun hi => hi.resolve_right (fun x => by omega))⟩
    · rintro b (hi | ⟨_, e⟩)
      · exact Nat.lt_of_lt_of_le (h.imm b hi) hw.size
      · exact e
  · exact ⟨hw.os, hw.tape, hw.output, hw.drawn, hw.size, fun b hb _ _ => hw.block b hb, fun _ _ x => x, fun b hb hI => .inl (hI.resolve_right (fun x => by omega)), fun _ _ x => x, hon⟩
end
end Go.Pf
