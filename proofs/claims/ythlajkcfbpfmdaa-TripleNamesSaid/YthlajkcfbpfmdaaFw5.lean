/- The framework, part 5: the changes of the state. -/
import Derived.Test.YthlajkcfbpfmdaaFw4
namespace Go.Pf
open Go Go.RowKit

def RngR (g : Gh) (b : Nat) : Prop := ∃ id o, g.ρ id = some (b, o)

/-- The state has gone on; nothing was written but what the evaluator owns. -/
structure Nx (g g' : Gh) (H H' : Hp) (w w' : World) : Prop where
  os : w'.os = w.os
  tape : w'.tape = w.tape
  output : w'.output = w.output
  drawn : w.drawn ≤ w'.drawn
  size : w.heap.size ≤ w'.heap.size
  kept : ∀ (b : Nat), b < w.heap.size → ¬ RngR g b → ¬ MutF g b → w'.heap[b]? = w.heap[b]?
  rng : ∀ b, b < w.heap.size → RngR g' b → RngR g b
  immb : ∀ b, b < w.heap.size → g'.I b → g.I b ∨ RngR g b
  bet : ∀ b, b < w.heap.size → MutF g' b → MutF g b
  on : On g g' H H' w w'

theorem Nx.refl (g : Gh) (H : Hp) (w : World) : Nx g g H H w w :=
  ⟨rfl, rfl, rfl, Nat.le_refl _, Nat.le_refl _, fun _ _ _ _ => rfl, fun _ _ h => h, fun _ _ h => .inl h, fun _ _ h => h, On.refl g H w⟩

theorem Nx.trans {a b c : Gh} {H1 H2 H3 : Hp} {w1 w2 w3 : World} (h : Nx a b H1 H2 w1 w2) (k : Nx b c H2 H3 w2 w3) : Nx a c H1 H3 w1 w3 := by
  refine ⟨k.os.trans h.os, k.tape.trans h.tape, k.output.trans h.output, Nat.le_trans h.drawn k.drawn, Nat.le_trans h.size k.size, fun i hi hr hf => ?_, fun i hi hr => ?_, fun i hi hI => ?_, fun i hi hf => ?_, h.on.trans k.on⟩
  · have hi2 : i < w2.heap.size := Nat.lt_of_lt_of_le hi h.size
    exact (k.kept i hi2 (fun x => hr (h.rng i hi x)) (fun x => hf (h.bet i hi x))).trans (h.kept i hi hr hf)
  · exact h.rng i hi (k.rng i (Nat.lt_of_lt_of_le hi h.size) hr)
  · rcases k.immb i (Nat.lt_of_lt_of_le hi h.size) hI with h1 | h1
    · exact h.immb i hi h1
    · exact .inr (h.rng i hi h1)
  · exact h.bet i hi (k.bet i (Nat.lt_of_lt_of_le hi h.size) hf)

section
variable {E : Env} {nt : Nat} {g g' : Gh} {F : Frm} {H H' : Hp} {tmps : Array Value} {w w' : World}

theorem Rel.brng (h : Rel E nt g F H tmps w) {b : Nat} (hr : RngR g b) : b < w.heap.size := by
  obtain ⟨id, o, hr⟩ := hr
  have hid := h.rsome id b o hr
  obtain ⟨b', o', hb⟩ := h.heap id H[id] (List.getElem?_eq_getElem hid)
  obtain ⟨cur, T, hc, _⟩ := hb.cells
  have := hb.at_
  rw [hr] at this
  cases this
  rcases Nat.lt_or_ge b w.heap.size with h1 | h1
  · exact h1
  · rw [Array.getElem?_eq_none h1] at hc; cases hc

/-- The state anew, where the variables of the frame stay. -/
theorem Rel.upd (h : Rel E nt g F H tmps w) (k : On g g' H H' w w') (hβ : g'.β = g.β) (hsz : w.heap.size ≤ w'.heap.size)
    (hbox : ∀ s b, g.β s = some b → w'.heap[b]? = w.heap[b]? ∧ ¬ g'.I b ∧ ¬ RngR g' b)
    (hheap : ∀ id hb, H'[id]? = some hb → ∃ b o, BlkR g' H' w' id hb b o)
    (hdist : ∀ id id' hb b o b' o', H'[id]? = some hb → hb.fz = false → id ≠ id' → g'.ρ id = some (b, o) → g'.ρ id' = some (b', o') → b ≠ b')
    (hsome : ∀ id b o, g'.ρ id = some (b, o) → id < H'.length)
    (himm : ∀ b, g'.I b → b < w'.heap.size) : Rel E nt g' F H' tmps w' where
  size := h.size
  frame := fun s fv hs => FRel_on k (h.frame s fv hs) rfl (fun s => by rw [hβ]) (fun s b hb => (hbox s b hb).1) (fun s b hb => (hbox s b hb).2.1)
  heap := hheap
  dist := hdist
  rsome := hsome
  bdist := by rw [hβ]; exact h.bdist
  brho := fun s b id o h1 h2 => by rw [hβ] at h1; exact (hbox s b h1).2.2 ⟨id, o, h2⟩
  bimm := fun s b h1 => by rw [hβ] at h1; exact ⟨(hbox s b h1).2.1, Nat.lt_of_lt_of_le (h.bimm s b h1).2 hsz⟩
  imm := himm
  glob := fun n x hx => by
    obtain ⟨h1, vs, h2, h3, h4⟩ := h.glob n x hx
    obtain ⟨h5, h6⟩ := k.keeps n h1
    exact ⟨h5, vs, h2, RC_keep k.keeps x vs h3, h4.keep h6⟩

theorem getD_set_self (a : Array Value) (d : Nat) (v : Value) (h : d < a.size) : (a.setIfInBounds d v).getD d undef = v := by
  simp [Array.getD, h]
theorem getD_set_other (a : Array Value) (d s : Nat) (v : Value) (h : s ≠ d) : (a.setIfInBounds d v).getD s undef = a.getD s undef := by
  simp only [Array.getD_eq_getD_getElem?, Array.getElem?_setIfInBounds]
  rw [if_neg (fun e => h e.symm)]

theorem FRel_other {g : Gh} {H : Hp} {w : World} {tmps : Array Value} {d s : Nat} {v : Value} {fv : FV} (hs : s ≠ d) (h : FRel g H w tmps s fv) : FRel g H w (tmps.setIfInBounds d v) s fv := by
  cases fv <;> simp only [FRel] at h ⊢ <;> rw [getD_set_other _ _ _ _ hs] <;> exact h

/-- A slot takes a value. -/
theorem Rel.put (h : Rel E nt g F H tmps w) {d : Nat} {v : Value} {fv : FV} (hf : d < nt → FRel g H w (tmps.setIfInBounds d v) d fv) (hd : d < nt) : Rel E nt g (fset F d fv) H (tmps.setIfInBounds d v) w where
  size := by simpa using h.size
  frame := fun s x hs => by
    rw [fget_fset] at hs
    by_cases e : s = d
    · subst e; simp at hs; subst hs; exact hf hd
    · rw [if_neg e] at hs; exact FRel_other e (h.frame s x hs)
  heap := h.heap
  dist := h.dist
  rsome := h.rsome
  bdist := h.bdist
  brho := h.brho
  bimm := h.bimm
  imm := h.imm
  glob := h.glob

theorem Rel.putV (h : Rel E nt g F H tmps w) {d : Nat} {v : Value} {p : PV} (hd : d < nt) (hv : VR g H w p v) : Rel E nt g (fset F d (.v p)) H (tmps.setIfInBounds d v) w :=
  h.put (fun _ => by simp only [FRel]; rw [getD_set_self _ _ _ (Nat.lt_of_lt_of_le hd h.size)]; exact hv) hd

theorem Rel.putB (h : Rel E nt g F H tmps w) {d s off b : Nat} (hd : d < nt) (hs : g.β s = some b) : Rel E nt g (fset F d (.bp s off)) H (tmps.setIfInBounds d (.pointer (some ⟨b, off, none⟩))) w :=
  h.put (fun _ => by simp only [FRel]; rw [getD_set_self _ _ _ (Nat.lt_of_lt_of_le hd h.size)]; exact ⟨b, hs, rfl⟩) hd

/-- A slot is forgotten. -/
theorem Rel.del (h : Rel E nt g F H tmps w) (d : Nat) (v : Value) : Rel E nt g (fdel F d) H (tmps.setIfInBounds d v) w where
  size := by simpa using h.size
  frame := fun s x hs => by
    rw [fget_fdel] at hs
    by_cases e : s = d
    · subst e; simp at hs
    · rw [if_neg e] at hs; exact FRel_other e (h.frame s x hs)
  heap := h.heap
  dist := h.dist
  rsome := h.rsome
  bdist := h.bdist
  brho := h.brho
  bimm := h.bimm
  imm := h.imm
  glob := h.glob

theorem Rel.less (h : Rel E nt g F H tmps w) {F' : Frm} (hf : ∀ s x, fget F' s = some x → fget F s = some x) : Rel E nt g F' H tmps w :=
  { h with frame := fun s x hs => h.frame s x (hf s x hs) }

theorem On.drew (g : Gh) (H : Hp) (w : World) : On g g H H w w.drew := ⟨fun _ h => ⟨h, rfl⟩, HExt.refl g H, fun _ cur _ h => ⟨cur, h, rfl⟩, rfl⟩
theorem Nx.drew (g : Gh) (H : Hp) (w : World) : Nx g g H H w w.drew :=
  ⟨rfl, rfl, rfl, Nat.le_succ _, Nat.le_refl _, fun _ _ _ _ => rfl, fun _ _ h => h, fun _ _ h => .inl h, fun _ _ h => h, On.drew g H w⟩
theorem Rel.drew (h : Rel E nt g F H tmps w) : Rel E nt g F H tmps w.drew :=
  h.upd (On.drew g H w) rfl (Nat.le_refl _) (fun s b hb => ⟨rfl, (h.bimm s b hb).1, fun ⟨id, o, hr⟩ => h.brho s b id o hb hr⟩)
    (fun id hb e => by obtain ⟨b, o, hk⟩ := h.heap id hb e; exact ⟨b, o, BlkR_on (On.drew g H w) hk rfl rfl (fun x => x)⟩) h.dist h.rsome h.imm

theorem alloc_old (w : World) (o : Obj) {b : Nat} (hb : b < w.heap.size) : (w.alloc o).heap[b]? = w.heap[b]? := by
  show (w.heap.push o)[b]? = _
  rw [Array.getElem?_push, if_neg (by omega)]
theorem alloc_new (w : World) (o : Obj) : (w.alloc o).heap[w.heap.size]? = some o := by
  show (w.heap.push o)[w.heap.size]? = _
  simp
theorem lt_of_some {α : Type} {a : Array α} {i : Nat} {x : α} (h : a[i]? = some x) : i < a.size := by
  rcases Nat.lt_or_ge i a.size with h1 | h1
  · exact h1
  · rw [Array.getElem?_eq_none h1] at h; cases h

theorem On.alloc (hI : ∀ b, g.I b → b < w.heap.size) (ob : Obj) : On g g H H w (w.alloc ob) :=
  ⟨fun b h => ⟨h, alloc_old w ob (hI b h)⟩, HExt.refl g H, fun _ cur _ h => ⟨cur, (alloc_old w ob (lt_of_some h)).trans h, rfl⟩, rfl⟩

/-- A new variable of the frame. -/
theorem Rel.newBox (h : Rel E nt g F H tmps w) {d : Nat} {row : PV} {cs : Array Value} {T : TypeId} (hd : d < nt) (hn : noBp F d = true) (hr : RowR g H w row cs.toList) :
    ∃ g', Rel E nt g' (fset F d (.box row)) H (tmps.setIfInBounds d (.pointer (some ⟨w.heap.size, 0, none⟩))) (w.alloc (.cells cs T)) ∧ Nx g g' H H w (w.alloc (.cells cs T)) := by
  let g' : Gh := { g with β := fun s => if s = d then some w.heap.size else g.β s }
  have hon : On g g' H H w (w.alloc (.cells cs T)) := by
    have := On.alloc (g := g) (H := H) h.imm (.cells cs T)
    exact ⟨this.keeps, this.hext, this.shape, rfl⟩
  have hnotI : ¬ g.I w.heap.size := fun hi => Nat.lt_irrefl _ (h.imm _ hi)
  have hnobp : ∀ (F : Frm), noBp F d = true → ∀ s s' off, fget F s = some (.bp s' off) → s' ≠ d := by
    intro F
    induction F with
    | nil => intro _ s s' off e; simp [fget] at e
    | cons a r ih =>
      obtain ⟨j, x⟩ := a
      intro hn s s' off e
      simp only [fget] at e
      by_cases hj : j = s
      · simp only [hj, if_true, Option.some.injEq] at e
        subst e
        simp only [noBp, Bool.and_eq_true, Bool.not_eq_true', beq_eq_false_iff_ne, ne_eq] at hn
        exact hn.1
      · simp only [hj, if_false] at e
        refine ih ?_ s s' off e
        cases x <;> simp [noBp] at hn <;> first | exact hn | exact hn.2
  refine ⟨g', ?_, ?_⟩
  · refine { size := by simpa using h.size, frame := ?_, heap := ?_, dist := h.dist, rsome := h.rsome, bdist := ?_, brho := ?_, bimm := ?_, imm := ?_, glob := ?_ }
    · intro s x hs
      rw [fget_fset] at hs
      by_cases e : s = d
      · subst e
        simp at hs; subst hs
        simp only [FRel]
        refine ⟨w.heap.size, by simp [g'], getD_set_self _ _ _ (Nat.lt_of_lt_of_le hd h.size), hnotI, cs, T, alloc_new w _, RowR_on hon _ _ hr⟩
      · rw [if_neg e] at hs
        have h0 := FRel_other (v := .pointer (some ⟨w.heap.size, 0, none⟩)) e (h.frame s x hs)
        cases x with
        | v p => simp only [FRel] at h0 ⊢; exact VR_on hon p _ h0
        | box row' =>
          simp only [FRel] at h0 ⊢
          obtain ⟨b, h1, h2, h3⟩ := h0
          exact ⟨b, by simp only [g', if_neg e]; exact h1, h2, BoxR_on hon h3 (alloc_old w _ (h.bimm s b h1).2) (fun x => x)⟩
        | bp s' off =>
          simp only [FRel] at h0 ⊢
          obtain ⟨b, h1, h2⟩ := h0
          exact ⟨b, by simp only [g', if_neg (hnobp F hn s s' off hs)]; exact h1, h2⟩
    · intro id hb e
      obtain ⟨b, o, hk⟩ := h.heap id hb e
      exact ⟨b, o, BlkR_on hon hk (alloc_old w _ (h.brng ⟨id, o, hk.at_⟩)) rfl (fun x => x)⟩
    · intro s s' b h1 h2
      simp only [g'] at h1 h2
      by_cases e1 : s = d <;> by_cases e2 : s' = d
      · omega
      · rw [if_pos e1] at h1; rw [if_neg e2] at h2
        cases h1
        exact absurd (h.bimm s' _ h2).2 (Nat.lt_irrefl _)
      · rw [if_neg e1] at h1; rw [if_pos e2] at h2
        cases h2
        exact absurd (h.bimm s _ h1).2 (Nat.lt_irrefl _)
      · rw [if_neg e1] at h1; rw [if_neg e2] at h2
        exact h.bdist s s' b h1 h2
    · intro s b id o h1 h2
      simp only [g'] at h1
      by_cases e1 : s = d
      · rw [if_pos e1] at h1
        cases h1
        exact absurd (h.brng ⟨id, o, h2⟩) (Nat.lt_irrefl _)
      · rw [if_neg e1] at h1
        exact h.brho s b id o h1 h2
    · intro s b h1
      simp only [g'] at h1
      by_cases e1 : s = d
      · rw [if_pos e1] at h1
        cases h1
        exact ⟨hnotI, by simp⟩
      · rw [if_neg e1] at h1
        exact ⟨(h.bimm s b h1).1, by have := (h.bimm s b h1).2; simp; omega⟩
    · intro b hb
      have := h.imm b hb
      simp; omega
    · intro n x hx
      obtain ⟨h1, vs, h2, h3, h4⟩ := h.glob n x hx
      obtain ⟨h5, h6⟩ := hon.keeps n h1
      exact ⟨h5, vs, h2, RC_keep hon.keeps x vs h3, h4.keep h6⟩
  · refine ⟨rfl, rfl, rfl, Nat.le_refl _, by simp, fun b hb _ _ => alloc_old w _ hb, fun b _ hr => hr, fun b _ hI => .inl hI, fun b hb hm => ?_, hon⟩
    obtain ⟨s, hs⟩ := hm
    simp only [g'] at hs
    by_cases e : s = d
    · rw [if_pos e] at hs; cases hs; omega
    · rw [if_neg e] at hs; exact ⟨s, hs⟩
end
end Go.Pf
